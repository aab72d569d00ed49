import PyProof.Rows.All
import Wide.All
import OpenK.AllK
import Wide.FinOn
import PySem.Challenge.RW_pq0296_02
set_option Elab.async false
set_option genSizeOf false
set_option genInjectivity false
set_option bootstrap.genMatcherCode false
section
namespace Mine
set_option genCtorIdx false
inductive LN where|x(i:Nat)|k(n:Nat)|a(p q:LN)|m(c:Nat)(p:LN)
inductive LZ where|x(i:Nat)|y(i:Nat)|k(n:Nat)|a(p q:LZ)|d(p q:LZ)|o(p:LZ)|m(c:Nat)(p:LZ)
noncomputable def LN.x0:LN:=.x 0
noncomputable def LZ.x0:LZ:=.x 0
noncomputable def LZ.y0:LZ:=.y 0
noncomputable def LN.p01:LN:=.a (.x 0) (.k 1)
noncomputable def LZ.p01:LZ:=.a (.x 0) (.k 1)
noncomputable def LN.x1:LN:=.x 1
noncomputable def LZ.x1:LZ:=.x 1
noncomputable def LZ.y1:LZ:=.y 1
noncomputable def LN.p11:LN:=.a (.x 1) (.k 1)
noncomputable def LZ.p11:LZ:=.a (.x 1) (.k 1)
noncomputable def LN.x2:LN:=.x 2
noncomputable def LZ.x2:LZ:=.x 2
noncomputable def LZ.y2:LZ:=.y 2
noncomputable def LN.p21:LN:=.a (.x 2) (.k 1)
noncomputable def LZ.p21:LZ:=.a (.x 2) (.k 1)
noncomputable def LN.x3:LN:=.x 3
noncomputable def LZ.x3:LZ:=.x 3
noncomputable def LZ.y3:LZ:=.y 3
noncomputable def LN.p31:LN:=.a (.x 3) (.k 1)
noncomputable def LZ.p31:LZ:=.a (.x 3) (.k 1)
noncomputable def LN.x4:LN:=.x 4
noncomputable def LZ.x4:LZ:=.x 4
noncomputable def LZ.y4:LZ:=.y 4
noncomputable def LN.p41:LN:=.a (.x 4) (.k 1)
noncomputable def LZ.p41:LZ:=.a (.x 4) (.k 1)
noncomputable def LN.x5:LN:=.x 5
noncomputable def LZ.x5:LZ:=.x 5
noncomputable def LZ.y5:LZ:=.y 5
noncomputable def LN.p51:LN:=.a (.x 5) (.k 1)
noncomputable def LZ.p51:LZ:=.a (.x 5) (.k 1)
noncomputable def LN.x6:LN:=.x 6
noncomputable def LZ.x6:LZ:=.x 6
noncomputable def LZ.y6:LZ:=.y 6
noncomputable def LN.p61:LN:=.a (.x 6) (.k 1)
noncomputable def LZ.p61:LZ:=.a (.x 6) (.k 1)
noncomputable def LN.k0:LN:=.k 0
noncomputable def LZ.k0:LZ:=.k 0
noncomputable def LN.k1:LN:=.k 1
noncomputable def LZ.k1:LZ:=.k 1
noncomputable def gN:List Nat→Nat→Nat
 | [],_=>0
 | x::l,i=>Nat.rec x (fun i _=>gN l i) i
noncomputable def gZ:List Int→Nat→Int
 | [],_=>0
 | x::l,i=>Nat.rec x (fun i _=>gZ l i) i
noncomputable def LN.den(c:List Nat):LN→Nat
 | .x i=>gN c i
 | .k n=>n
 | .a p q=>p.den c+q.den c
 | .m n p=>n*p.den c
noncomputable def LZ.den(c:List Nat)(d:List Int):LZ→Int
 | .x i=>(gN c i:Nat)
 | .y i=>gZ d i
 | .k n=>(n:Nat)
 | .a p q=>p.den c d+q.den c d
 | .d p q=>p.den c d-q.den c d
 | .o p=>- p.den c d
 | .m n p=>(n:Nat)*p.den c d
noncomputable def dD:List Nat→List Nat→List Nat
 | [],w=>w
 | a::v,w=>List.rec (a::v) (fun b w _=>(a+b)::dD v w) w
noncomputable def jp(n:Nat)(v:List Nat):List Nat:=v.map (n*·)
noncomputable def vle:List Nat→List Nat→Bool
 | [],_=>true
 | a::v,w=>List.rec (Nat.beq a 0&&vle v []) (fun b w _=>Nat.ble a b&&vle v w) w
noncomputable def jO:Nat→List Nat
 | 0=>[1]
 | i+1=>0::jO i
noncomputable def dN(c:List Nat):List Nat→Nat
 | []=>0
 | a::v=>a*c.headD 0+dN c.tail v
noncomputable def dZ(c:List Int):List Nat→Int
 | []=>0
 | a::v=>(a:Int)*c.headD 0+dZ c.tail v
theorem fk(v:List Nat):∀(c w:List Nat),dN c (dD v w)=dN c v+dN c w:=by
 induction v with
 | nil=>intro c w;exact(Nat.zero_add _).symm
 | cons a v ih=>
  intro c w;cases w with
  | nil=>rfl
  | cons b w=>
   show(a+b)*_+dN c.tail (dD v w)=(a*_+dN c.tail v)+(b*_+dN c.tail w);rw[ih,Nat.add_mul];exact Nat.add_add_add_comm _ _ _ _
theorem iac(a b x y:Int):a+b+(x+y)=a+x+(b+y):=by rw[Int.add_assoc,Int.add_left_comm b,←Int.add_assoc]
theorem nE(v:List Nat):∀(c:List Int) (w:List Nat),dZ c (dD v w)=dZ c v+dZ c w:=by
 induction v with
 | nil=>intro c w;exact(Int.zero_add _).symm
 | cons a v ih=>
  intro c w;cases w with
  | nil=>exact(Int.add_zero _).symm
  | cons b w=>
   show((a+b:Nat):Int)*_+dZ c.tail (dD v w)=((a:Int)*_+dZ c.tail v)+((b:Int)*_+dZ c.tail w);rw[ih,Int.natCast_add,Int.add_mul];exact iac _ _ _ _
theorem ld(n:Nat)(v:List Nat):∀c:List Nat,dN c (jp n v)=n*dN c v:=by
 induction v with
 | nil=>intro c;rfl
 | cons a v ih=>
  intro c;show n*a*_+dN c.tail (jp n v)=n*(a*_+dN c.tail v);rw[ih,Nat.mul_add,Nat.mul_assoc]
theorem wc(n:Nat)(v:List Nat):∀c:List Int,dZ c (jp n v)=n*dZ c v:=by
 induction v with
 | nil=>intro c;exact(Int.mul_zero _).symm
 | cons a v ih=>
  intro c
  show((n*a:Nat):Int)*_+dZ c.tail (jp n v)=n*(a*_+dZ c.tail v);rw[ih,Int.mul_add,Int.natCast_mul,Int.mul_assoc]
theorem rX(i:Nat):∀c:List Nat,dN c (jO i)=gN c i:=by
 induction i with
 | zero=>intro c;cases c with
  | nil=>rfl
  | cons x c=>exact Nat.one_mul x
 | succ i ih=>intro c;cases c with
  | nil=>exact(congrArg (0*0+·) (ih [])).trans rfl
  | cons x c=>show 0*x+dN c (jO i)=gN c i;rw[ih,Nat.zero_mul,Nat.zero_add]
theorem xN(i:Nat):∀c:List Int,dZ c (jO i)=gZ c i:=by
 induction i with
 | zero=>intro c;cases c with
  | nil=>rfl
  | cons x c=>exact(Int.add_zero _).trans (Int.one_mul x)
 | succ i ih=>intro c;cases c with
  | nil=>exact(congrArg (((0:Nat):Int)*0+·) (ih [])).trans rfl
  | cons x c=>show((0:Nat):Int)*x+dZ c (jO i)=gZ c i;rw[ih,show((0:Nat):Int)*x=0 from Int.zero_mul x,Int.zero_add]
theorem yt(v:List Nat):∀{w:List Nat} (c:List Nat),vle v w=true→dN c v≤dN c w:=by
 induction v with
 | nil=>intro w c _;exact Nat.zero_le _
 | cons a v ih=>
  intro w c h;cases w with
  | nil=>
   obtain⟨h1,h2⟩:=Bool.and_eq_true_iff.mp h;have h1:=Nat.eq_of_beq_eq_true h1;subst h1;exact Nat.add_le_add (Nat.le_of_eq (Nat.zero_mul _)) (ih (w:=[]) c.tail h2)
  | cons b w=>
   obtain⟨h1,h2⟩:=Bool.and_eq_true_iff.mp h;exact Nat.add_le_add (Nat.mul_le_mul_right _ (Nat.le_of_ble_eq_true h1)) (ih c.tail h2)
theorem Cu(v:List Nat):∀{w:List Nat} (c:List Int),vle v w=true→vle w v=true→dZ c v=dZ c w:=by
 induction v with
 | nil=>
  intro w
  induction w with
  | nil=>intro c _ _;rfl
  | cons b w ih=>
   intro c _ h;obtain⟨h1,h2⟩:=Bool.and_eq_true_iff.mp h;have h1:=Nat.eq_of_beq_eq_true h1;subst h1;show 0=((0:Nat):Int)*_+dZ c.tail w;rw[←ih c.tail rfl h2,show((0:Nat):Int)*_=0 from Int.zero_mul _];rfl
 | cons a v ih=>
  intro w c h h';cases w with
  | nil=>
   obtain⟨h1,h2⟩:=Bool.and_eq_true_iff.mp h;have h1:=Nat.eq_of_beq_eq_true h1;subst h1
   show((0:Nat):Int)*_+dZ c.tail v=0;rw[ih (w:=[]) c.tail h2 rfl,show((0:Nat):Int)*_=0 from Int.zero_mul _];rfl
  | cons b w=>
   obtain⟨h1,h2⟩:=Bool.and_eq_true_iff.mp h;obtain⟨h3,h4⟩:=Bool.and_eq_true_iff.mp h';have e:=Nat.le_antisymm (Nat.le_of_ble_eq_true h1) (Nat.le_of_ble_eq_true h3);subst e
   show(a:Int)*_+dZ c.tail v=(a:Int)*_+dZ c.tail w;rw[ih c.tail h2 h4]
noncomputable def LN.nf:LN→List Nat
 | .x i=>0::jO i
 | .k n=>[n]
 | .a p q=>dD p.nf q.nf
 | .m n p=>jp n p.nf
theorem LN.ok(c:List Nat)(p:LN):dN (1::c) p.nf=p.den c:=by
 induction p with
 | x i=>show 0*_+dN c (jO i)=gN c i;rw[rX,Nat.zero_mul,Nat.zero_add]
 | k n=>exact Nat.mul_one n
 | a p q h1 h2=>show dN _ (dD _ _)=_;rw[fk,h1,h2];rfl
 | m n p h=>show dN _ (jp _ _)=_;rw[ld,h];rfl
inductive LQ(T:Type) where|l(p q:T)|e(p q:T)|f(p q:T)
noncomputable def LQ.lo{T:Type}:LQ T→T
 | .l p _=>p
 | .e p _=>p
 | .f _ q=>q
noncomputable def LQ.hi{T:Type}:LQ T→T
 | .l _ q=>q
 | .e _ q=>q
 | .f p _=>p
noncomputable def LQ.n(c:List Nat):LQ LN→Prop
 | .l p q=>p.den c≤q.den c
 | .e p q=>p.den c=q.den c
 | .f p q=>p.den c=q.den c
noncomputable def LQ.z(c:List Nat)(d:List Int):LQ LZ→Prop
 | .l p q=>p.den c d≤q.den c d
 | .e p q=>p.den c d=q.den c d
 | .f p q=>p.den c d=q.den c d
theorem LQ.n_le{c:List Nat}{P:LQ LN}(h:P.n c):P.lo.den c≤P.hi.den c:=by
 cases P with
 | l p q=>exact h
 | e p q=>exact Nat.le_of_eq h
 | f p q=>exact Nat.le_of_eq h.symm
theorem LQ.z_le{c:List Nat}{d:List Int}{P:LQ LZ}(h:P.z c d):P.lo.den c d≤P.hi.den c d:=by
 cases P with
 | l p q=>exact h
 | e p q=>exact Int.le_of_eq h
 | f p q=>exact Int.le_of_eq h.symm
noncomputable def nY:List (LQ LN)→List Nat→List Nat×List Nat
 | [],_=>([],[])
 | P::hs,c=>(dD (jp (c.headD 1) P.lo.nf) (nY hs c.tail).1,dD (jp (c.headD 1) P.hi.nf) (nY hs c.tail).2)
noncomputable def xR(hs:List (LQ LN))(p q:LN)(c:List Nat):Bool:=vle (dD p.nf (nY hs c).2) (dD q.nf (nY hs c).1)
noncomputable def Hyp{T:Type}(n:LQ T→Prop)(g:Prop):List (LQ T)→Prop
 | []=>g
 | P::hs=>n P→Hyp n g hs
theorem Hyp.two{T:Type}{n:LQ T→Prop}{a b g:Prop}(h:a→b→g){hs:List (LQ T)}(x:Hyp n a hs)(y:Hyp n b hs):Hyp n g hs:=by
 induction hs with
 | nil=>exact h x y
 | cons P hs ih=>exact fun z=>ih (x z) (y z)
theorem xD{c:List Nat}{g:Prop}{hs:List (LQ LN)}:∀{k:List Nat},(dN (1::c) (nY hs k).1≤dN (1::c) (nY hs k).2→g)→Hyp (LQ.n c) g hs:=by
 induction hs with
 | nil=>exact fun h=>h (Nat.le_refl _)
 | cons P hs ih=>
  intro k h hp;refine ih (k:=k.tail) fun h'=>h ?_
  show dN _ (dD _ _)≤dN _ (dD _ _);rw[fk,fk,ld,ld,LN.ok,LN.ok];exact Nat.add_le_add (Nat.mul_le_mul_left _ (LQ.n_le hp)) h'
theorem ln(c:List Nat)(hs:List (LQ LN))(p q:LN)(k:List Nat)(ok:xR hs p q k=true):Hyp (LQ.n c) (p.den c≤q.den c) hs:=
 xD (k:=k) fun h=>by
  have:=yt _ (1::c) (show vle (dD p.nf (nY hs k).2) (dD q.nf (nY hs k).1)=true from ok);rw[fk,fk,LN.ok,LN.ok]at this;exact Nat.le_of_add_le_add_right (Nat.le_trans this (Nat.add_le_add_left h _))
theorem lne(c:List Nat)(hs:List (LQ LN))(p q:LN)(k k':List Nat)(ok:xR hs p q k=true)(ok':xR hs q p k'=true):Hyp (LQ.n c) (p.den c=q.den c) hs:=(ln c hs p q k ok).two Nat.le_antisymm (ln c hs q p k' ok')
theorem lnf(g:Prop)(c:List Nat)(hs:List (LQ LN))(k:List Nat)(ok:xR hs .k1 .k0 k=true):Hyp (LQ.n c) g hs:=(ln c hs _ _ k ok).two (fun h _=>absurd h (Nat.not_succ_le_zero 0)) (ln c hs _ _ k ok)
structure LF where
 a:List Nat
 b:List Nat
 u:List Nat
 v:List Nat
noncomputable def LF.ev(c:List Nat)(d:List Int)(f:LF):Int:=((dN (1::c) f.a:Nat)-(dN (1::c) f.b:Nat))+(dZ d f.u-dZ d f.v)
noncomputable def LF.add(f g:LF):LF:=⟨dD f.a g.a,dD f.b g.b,dD f.u g.u,dD f.v g.v⟩
noncomputable def LF.neg(f:LF):LF:=⟨f.b,f.a,f.v,f.u⟩
noncomputable def LF.mul(n:Nat)(f:LF):LF:=⟨jp n f.a,jp n f.b,jp n f.u,jp n f.v⟩
section
variable (c:List Nat) (d:List Int)
theorem B6(a b x y:Int):a+b-(x+y)=a-x+(b-y):=by rw[Int.sub_eq_add_neg,Int.neg_add,iac];rfl
theorem LF.ev_add(f g:LF):(f.add g).ev c d=f.ev c d+g.ev c d:=by unfold LF.ev LF.add;dsimp only;rw[fk,fk,nE,nE,Int.natCast_add,Int.natCast_add,B6,B6,iac]
theorem LF.ev_neg(f:LF):f.neg.ev c d= - f.ev c d:=by unfold LF.ev LF.neg;dsimp only;rw[Int.neg_add,Int.neg_sub,Int.neg_sub]
theorem LF.ev_mul(n:Nat)(f:LF):(f.mul n).ev c d=n*f.ev c d:=by
 unfold LF.ev LF.mul;dsimp only;rw[ld,ld,wc,wc,Int.natCast_mul,Int.natCast_mul,Int.mul_add,Int.mul_sub,Int.mul_sub]
noncomputable def LZ.nf:LZ→LF
 | .x i=>⟨0::jO i,[],[],[]⟩
 | .y i=>⟨[],[],jO i,[]⟩
 | .k n=>⟨[n],[],[],[]⟩
 | .a p q=>p.nf.add q.nf
 | .d p q=>p.nf.add q.nf.neg
 | .o p=>p.nf.neg
 | .m n p=>p.nf.mul n
theorem LZ.ok(p:LZ):p.nf.ev c d=p.den c d:=by
 induction p with
 | x i=>
  show((0*1+dN c (jO i):Nat)-((0:Nat):Int))+(0-0)=_;rw[rX,Nat.zero_mul,Nat.zero_add];show((gN c i:Nat):Int)-0+(0-0)=_;rw[Int.sub_zero,Int.sub_zero,Int.add_zero];rfl
 | y i=>
  show(((0:Nat):Int)-((0:Nat):Int))+(dZ d (jO i)-0)=gZ d i;rw[xN];show(0:Int)-0+(gZ d i-0)=_;rw[Int.sub_zero,Int.sub_zero,Int.zero_add]
 | k n=>show((n*1:Nat):Int)-0+(0-0)=(n:Int);rw[Nat.mul_one,Int.sub_zero,Int.sub_zero,Int.add_zero]
 | a p q h1 h2=>show(LF.add _ _).ev c d=p.den c d+q.den c d;rw[LF.ev_add,h1,h2]
 | d p q h1 h2=>show(LF.add _ (LF.neg _)).ev c d=p.den c d-q.den c d;rw[LF.ev_add,LF.ev_neg,h1,h2];rfl
 | o p h=>show(LF.neg _).ev c d= - p.den c d;rw[LF.ev_neg,h]
 | m n p h=>show(LF.mul _ _).ev c d=(n:Nat)*p.den c d;rw[LF.ev_mul,h]
noncomputable def nX:List (LQ LZ)→List Nat→LF×LF
 | [],_=>(⟨[],[],[],[]⟩,⟨[],[],[],[]⟩)
 | P::hs,c=>((P.lo.nf.mul (c.headD 1)).add (nX hs c.tail).1,(P.hi.nf.mul (c.headD 1)).add (nX hs c.tail).2)
noncomputable def LF.le(f g:LF):Bool:=vle (dD f.a g.b) (dD g.a f.b)&&(vle (dD f.u g.v) (dD g.u f.v)&&vle (dD g.u f.v) (dD f.u g.v))
theorem LF.le_ok{f g:LF}(h:f.le g=true):f.ev c d≤g.ev c d:=by
 obtain⟨h1,h2⟩:=Bool.and_eq_true_iff.mp h;obtain⟨h2,h3⟩:=Bool.and_eq_true_iff.mp h2;have e1:=yt _ (1::c) h1;have e2:=Cu _ d h2 h3;rw[fk,fk]at e1;rw[nE,nE]at e2;unfold LF.ev;omega
noncomputable def xQ(hs:List (LQ LZ))(p q:LZ)(k:List Nat):Bool:=(p.nf.add (nX hs k).2).le (q.nf.add (nX hs k).1)
theorem xC{g:Prop}{hs:List (LQ LZ)}:∀{k:List Nat},((nX hs k).1.ev c d≤(nX hs k).2.ev c d→g)→Hyp (LQ.z c d) g hs:=by
 induction hs with
 | nil=>exact fun h=>h (Int.le_refl _)
 | cons P hs ih=>
  intro k h hp;refine ih (k:=k.tail) fun h'=>h ?_
  show(LF.add (LF.mul _ _) _).ev c d≤(LF.add (LF.mul _ _) _).ev c d;rw[LF.ev_add,LF.ev_add,LF.ev_mul,LF.ev_mul,LZ.ok,LZ.ok];exact Int.add_le_add (Int.mul_le_mul_of_nonneg_left (LQ.z_le hp) (Int.natCast_nonneg _)) h'
theorem lz(hs:List (LQ LZ))(p q:LZ)(k:List Nat)(ok:xQ hs p q k=true):Hyp (LQ.z c d) (p.den c d≤q.den c d) hs:=
 xC c d (k:=k) fun h=>by
  have:=LF.le_ok c d (show(p.nf.add (nX hs k).2).le (q.nf.add (nX hs k).1)=true from ok);rw[LF.ev_add,LF.ev_add,LZ.ok,LZ.ok]at this;exact Int.le_of_add_le_add_right (Int.le_trans this (Int.add_le_add_left h _))
theorem lze(hs:List (LQ LZ))(p q:LZ)(k k':List Nat)(ok:xQ hs p q k=true)(ok':xQ hs q p k'=true):Hyp (LQ.z c d) (p.den c d=q.den c d) hs:=(lz c d hs p q k ok).two Int.le_antisymm (lz c d hs q p k' ok')
theorem lzf(g:Prop)(hs:List (LQ LZ))(k:List Nat)(ok:xQ hs .k1 .k0 k=true):Hyp (LQ.z c d) g hs:=(lz c d hs _ _ k ok).two (fun h _=>absurd (show(1:Int)≤0 from h) (by decide)) (lz c d hs _ _ k ok)
end
noncomputable def LN.p(i n:Nat):LN:=.a (.x i) (.k n)
noncomputable def LZ.p(i n:Nat):LZ:=.a (.x i) (.k n)
noncomputable def LZ.q(i n:Nat):LZ:=.a (.y i) (.k n)
theorem sl{a b:Nat}:a≤a-b+b:=Nat.le_add_of_sub_le (Nat.le_refl _)
theorem sb{a b:Nat}:a-b≤a:=Nat.sub_le a b
theorem su{a b:Nat}(h:b≤a):a-b+b=a:=Nat.sub_add_cancel h
theorem sc{p:Prop}(a b:Nat)(h:b≤a→a-b+b=a→p)(h':a+1≤b→a-b=0→p):p:=
 (Nat.lt_or_ge a b).elim (fun z=>h' z (Nat.sub_eq_zero_of_le (Nat.le_of_lt z))) fun z=>h z (su z)
theorem il{a b:Nat}(h:a≤b):(a:Int)≤b:=Int.ofNat_le.mpr h
theorem ie{a b:Nat}(h:a=b):(a:Int)=b:=congrArg _ h
theorem io{a b:Nat}(h:(a:Int)≤b):a≤b:=Int.ofNat_le.mp h
theorem ioe{a b:Nat}(h:(a:Int)=b):a=b:=Int.ofNat_inj.mp h
theorem tn{z:Int}(h:0≤z):(z.toNat:Int)=z:=Int.toNat_of_nonneg h
theorem tl{z:Int}:z≤z.toNat:=Int.self_le_toNat z
theorem mc{p:Prop}(a b:Nat)(h:a≤b→min a b=a→p)(h':b≤a→min a b=b→p):p:=
 (Nat.le_total a b).elim (fun z=>h z (Nat.min_eq_left z)) fun z=>h' z (Nat.min_eq_right z)
theorem xc{p:Prop}(a b:Nat)(h:a≤b→max a b=b→p)(h':b≤a→max a b=a→p):p:=
 (Nat.le_total a b).elim (fun z=>h z (Nat.max_eq_right z)) fun z=>h' z (Nat.max_eq_left z)
theorem mcz{p:Prop}(a b:Int)(h:a≤b→min a b=a→p)(h':b≤a→min a b=b→p):p:=
 (Int.le_total a b).elim (fun z=>h z (Int.min_eq_left z)) fun z=>h' z (Int.min_eq_right z)
theorem xcz{p:Prop}(a b:Int)(h:a≤b→max a b=b→p)(h':b≤a→max a b=a→p):p:=
 (Int.le_total a b).elim (fun z=>h z (Int.max_eq_right z)) fun z=>h' z (Int.max_eq_left z)
theorem tc{p:Prop}(z:Int)(h:0≤z→(z.toNat:Int)=z→p)(h':z+1≤0→z.toNat=0→p):p:=
 (Classical.em (0≤z)).elim (fun q=>h q (tn q)) fun q=>h' (Int.not_le.mp q) (Int.toNat_of_nonpos (Int.le_of_lt (Int.not_le.mp q)))
theorem nen{p:Prop}{a b:Nat}(h:¬a=b)(x:a+1≤b→p)(y:b+1≤a→p):p:=(Nat.lt_or_gt_of_ne h).elim x y
end Mine
end
section
namespace Mine
set_option genCtorIdx false
inductive PV where
 | undef|none|bool (b:Bool)|int (i:Int)|str (n:Nat)|list (l:List PV)|tup (l:List PV)|obj (a:Nat)
 deriving Inhabited
inductive cb where
 | list (l:List PV)
 | inst (c:Nat) (fs:List (Nat×PV))
 | dict (kvs:List (Int×PV))
noncomputable def PV.ctorIdx(x:PV):Nat:=@PV.casesOn (fun _=>Nat) x 0 1 (fun _=>2) (fun _=>3) (fun _=>4) (fun _=>5) (fun _=>6) fun _=>7
noncomputable def cb.ctorIdx(x:cb):Nat:=@cb.casesOn (fun _=>Nat) x (fun _=>0) (fun _ _=>1) fun _=>2
noncomputable abbrev Sto:=Nat→Option cb
noncomputable def Sto.set(σ:Sto)(a:Nat)(o:cb):Sto:=fun x=>if x=a then some o else σ x
set_option genCtorIdx true
inductive BOp where|add|sub|mul|fdiv|mod
inductive COp where|eq|ne|lt|le|gt|ge|is|isnot|isin|notin
inductive Blt where|len|min|max|abs|sorted|copy
set_option genCtorIdx false
inductive Tgt where|var(i:Nat)|tup(l:List Tgt)
mutual
inductive ME where
 | int (i:Int)|bool (b:Bool)|none|str (n:Nat)
 | var (i:Nat)|glob (g:Nat)
 | bin (m:Bool) (op:BOp) (a b:ME)
 | cmp (op:COp) (a b:ME)|cmp2 (op1 op2:COp) (a b c:ME)
 | and (a b:ME)|or (a b:ME)|not (a:ME)
 | ite (c a b:ME)
 | list (m:Bool) (es:List ME)|tup (es:List ME)|edict
 | attr (e:ME) (n:Nat)
 | sub (e i:ME)|slice (e:ME) (lo hi:Option ME)|rev (e:ME)
 | call (f:Nat) (args:List ME)|new (c:Nat) (args:List ME)|meth (e:ME) (n:Nat) (args:List ME)
 | blt (b:Blt) (args:List ME)
 | append (e x:ME)|extend (e x:ME)|pop (e i:ME)
 | comp (m:Bool) (k:Nat) (elt:ME) (t:Tgt) (it:MI) (conds:List ME)
inductive MI where
 | expr (e:ME)|range (e:ME)|zip (a b:ME)|enum (a:ME)
end
inductive MS where
 | assign (t:Tgt) (e:ME)
 | swap (is:List Nat) (e:ME)
 | setattr (o:ME) (n:Nat) (e:ME)
 | setitem (o i e:ME)
 | setslice (o lo hi e:ME)
 | expr (e:ME)
 | ite (c:ME) (a b:List MS)
 | while (c:ME) (b:List MS)
 | for (t:Tgt) (it:MI) (b:List MS)
 | ret (e:ME)
 | stuck
noncomputable abbrev KV:=PV→Sto→Prop
noncomputable abbrev Spec:=Nat→List PV→Sto→KV→Prop
structure lP where
 nargs:Nat
 nvars:Nat
 dflts:List PV
 body:List MS
structure lL where
 fn:Nat→Option lP
 glob:Nat→PV
 meth:Nat→Nat→Option Nat
 init:Nat→Option Nat
noncomputable def big:Nat:=16777216
noncomputable def oL{α:Type}(d:α)(o:Option cb)(K:List PV→α):α:=match o with
 | some x=>(match x with
  | .list l=>K l
  | _=>d)
 | Option.none=>d
noncomputable def oT(o:Option cb)(K:Nat→List (Nat×PV)→Prop):Prop:=match o with
 | some x=>(match x with
  | .inst c fs=>K c fs
  | _=>False)
 | Option.none=>False
noncomputable def oD(o:Option cb)(K:List (Int×PV)→Prop):Prop:=match o with
 | some x=>(match x with
  | .dict l=>K l
  | _=>False)
 | Option.none=>False
noncomputable def cS(σ:Sto)(v:PV):Option (List PV):=match v with
 | .list l=>some l
 | .obj a=>oL Option.none (σ a) some
 | _=>Option.none
noncomputable def asI(v:PV):Option Int:=match v with| .int i=>some i|_=>Option.none
noncomputable def CN(v:PV):Option (List PV):=match v with| .list i=>some i|_=>Option.none
noncomputable def ivs:List PV→Option (List Int)
 | []=>some []
 | d::r=>(asI d).bind fun i=>(ivs r).map (i::·)
noncomputable def oP:List PV→Option (List (List Int))
 | []=>some []
 | d::r=>(CN d).bind fun l=>(ivs l).bind fun a=>(oP r).map (a::·)
noncomputable def g5{α:Type}(a b:Option α):Option (α×α):=a.bind fun x=>b.map fun y=>(x,y)
theorem g0{α:Type}{a b:Option α}{p:α×α}(h:g5 a b=some p):a=some p.1∧b=some p.2:=by
 obtain⟨x,e,h⟩:=Option.bind_eq_some_iff.mp h;obtain⟨y,e',rfl⟩:=Option.map_eq_some_iff.mp h;exact⟨e,e'⟩
noncomputable def gv(a b:List PV):Option Bool:=
 match g5 (ivs a) (ivs b)with
 | some p=>some (p.1==p.2)
 | Option.none=>match g5 (oP a) (oP b)with
  | some p=>some (p.1==p.2)
  | Option.none=>cond b.isEmpty (some a.isEmpty) Option.none
noncomputable def CO(v:PV):Option Bool:=match v with| .bool i=>some i|_=>Option.none
noncomputable def CM(v:PV):Option Nat:=match v with| .str i=>some i|_=>Option.none
noncomputable def pn(σ:Sto)(a b:PV):Option Bool:=(cS σ a).bind fun x=>(cS σ b).bind fun y=>gv x y
noncomputable def lR(σ:Sto)(a b:PV):Option Bool:=match a with
 | .int i=>(asI b).map (i==·)
 | .bool i=>(CO b).map (i==·)
 | .str i=>(CM b).map (i==·)
 | a=>pn σ a b
noncomputable def isNone:PV→Bool
 | .none=>true
 | _=>false
noncomputable def qy(a b:PV):Option Bool:=match a with
 | .none=>cond (isNone b) (some true) Option.none
 | .obj _=>cond (isNone b) (some false) Option.none
 | _=>Option.none
noncomputable def inL(a:PV)(l:List PV):Option Bool:=(asI a).bind fun i=>(ivs l).map (·.contains i)
noncomputable def qz(σ:Sto)(a b:PV):Option Bool:=match b with
 | .tup l=>inL a l
 | b=>(cS σ b).bind (inL a)
noncomputable def wj(f:Int→Int→Bool)(a b:PV):Option Bool:=(asI a).bind fun i=>(asI b).map (f i)
noncomputable def li(op:COp)(σ:Sto)(a b:PV):Option Bool:=match op with
 | .eq=>lR σ a b
 | .ne=>(lR σ a b).map (!·)
 | .lt=>wj (fun i j=>decide (i<j)) a b
 | .le=>wj (fun i j=>decide (i≤j)) a b
 | .gt=>wj (fun i j=>decide (i>j)) a b
 | .ge=>wj (fun i j=>decide (i≥j)) a b
 | .is=>qy a b
 | .isnot=>(qy a b).map (!·)
 | .isin=>qz σ a b
 | .notin=>(qz σ a b).map (!·)
noncomputable def cU(m:Bool)(l:List PV)(σ:Sto)(Q:KV):Prop:=
 l.length≤big∧if m then ∀a,σ a=Option.none→Q (.obj a) (σ.set a (.list l))else Q (.list l) σ
noncomputable def onI(v:PV)(K:Int→Prop):Prop:=match v with
 | .int i=>K i
 | _=>False
noncomputable def onO{α:Type}(o:Option α)(P:α→Prop):Prop:=match o with
 | some x=>P x
 | Option.none=>False
noncomputable abbrev onE(σ:Sto)(v:PV)(K:List PV→Prop):Prop:=onO (cS σ v) K
noncomputable def CR(m:Bool)(a b:PV)(σ:Sto)(Q:KV):Prop:=match a with
 | .int i=>onI b fun j=>Q (.int (i+j)) σ
 | a=>onE σ a fun x=>onE σ b fun y=>cU m (x++y) σ Q
noncomputable def BR(m:Bool)(a b:PV)(σ:Sto)(Q:KV):Prop:=match a with
 | .int i=>onI b fun j=>-(2^62)<i∧i<2^62∧Q (.int (i*j)) σ
 | .list x=>onI b fun n=>-(2^62)<n∧n<2^62∧cU m (List.replicate n.toNat x).flatten σ Q
 | _=>False
noncomputable def tO(m:Bool)(op:BOp)(a b:PV)(σ:Sto)(Q:KV):Prop:=match op with
 | .add=>CR m a b σ Q
 | .sub=>onI a fun i=>onI b fun j=>Q (.int (i-j)) σ
 | .mul=>BR m a b σ Q
 | .fdiv=>onI a fun i=>onI b fun j=>j≠0∧j.natAbs<1073741824∧Q (.int (i.fdiv j)) σ
 | .mod=>onI a fun i=>onI b fun j=>j≠0∧Q (.int (i.fmod j)) σ
noncomputable def eh(n:Nat)(i:Int):Nat:=(max 0 (min (if i<0 then i+n else i) n)).toNat
noncomputable def dp{α:Type}(l:List α)(lo hi:Nat):List α:=(l.take hi).drop lo
noncomputable abbrev yR(l:List PV)(lo hi:Nat):List PV:=dp l lo hi
noncomputable def kM(l:List PV)(k:Int):Option PV:=if k<0 then(if k+l.length<0 then none else l[(k+l.length).toNat]?)else l[k.toNat]?
noncomputable def wV(o:Option cb)(k:Int)(Q:PV→Prop):Prop:=match o with
 | some (.dict kvs)=>∃v,(kvs.find? (·.1==k)).map (·.2)=some v∧Q v
 | some (.list l)=>∃v,kM l k=some v∧Q v
 | _=>False
noncomputable def BI(e:PV)(k:Int)(σ:Sto)(Q:PV→Prop):Prop:=match e with
 | .tup l=>∃v,0≤k∧l[k.toNat]? = some v∧Q v
 | .obj a=>wV (σ a) k Q
 | .list l=>∃v,kM l k=some v∧Q v
 | _=>False
noncomputable def iu(e i:PV)(σ:Sto)(Q:KV):Prop:=onI i fun k=>BI e k σ fun v=>Q v σ
noncomputable def onP(n:Nat)(d:Nat)(v:Option PV)(K:Nat→Prop):Prop:=match v with
 | Option.none=>K d
 | some v=>onI v fun i=>K (eh n i)
noncomputable def eT(e:PV)(lo hi:Option PV)(σ:Sto)(Q:KV):Prop:=onE σ e fun l=>onP l.length 0 lo fun a=>onP l.length l.length hi fun b=>Q (.list (yR l a b)) σ
noncomputable def asB(v:PV)(P:Bool→Prop):Prop:=match v with
 | .bool b=>P b
 | _=>False
noncomputable def rd(v:PV)(Q:PV→Prop):Prop:=match v with| .undef=>False|v=>Q v
noncomputable def rdO(v:Option PV)(Q:PV→Prop):Prop:=match v with|some v=>rd v Q|none=>False
theorem zJ{o:Option PV}{P:PV→Prop}:rdO o P↔∃x,o=some x∧rd x P:=by
 constructor
 ·intro h;cases o with
  | some x=>exact⟨x,rfl,h⟩
  | none=>exact h.elim
 ·rintro⟨x,rfl,h⟩;exact h
theorem nK{v:PV}{P:Bool→Prop}:asB v P↔∃r,v=.bool r∧P r:=by
 constructor
 ·intro h;cases v with
  | bool b=>exact⟨b,rfl,h⟩
  | _=>exact h.elim
 ·rintro⟨r,rfl,h⟩;exact h
theorem ku{α:Type}{o:Option α}{P:α→Prop}:onO o P↔∃x,o=some x∧P x:=by
 constructor
 ·intro h;cases o with
  | some x=>exact⟨x,rfl,h⟩
  | none=>exact h.elim
 ·rintro⟨x,rfl,h⟩;exact h
noncomputable def lG:List (Nat×PV)→Nat→Option PV
 | [],_=>Option.none
 | p::r,n=>cond (p.1==n) (some p.2) (lG r n)
noncomputable def gR:List (Nat×PV)→Nat→PV→List (Nat×PV)
 | [],n,v=>[(n,v)]
 | p::r,n,v=>cond (p.1==n) ((n,v)::r) (p::gR r n v)
noncomputable def onT(σ:Sto)(v:PV)(K:Nat→Nat→List (Nat×PV)→Prop):Prop:=match v with
 | .obj a=>oT (σ a) (K a)
 | _=>False
theorem ql{σ:Sto}{v:PV}{K:Nat→Nat→List (Nat×PV)→Prop}(h:onT σ v K):∃a c l,v=.obj a∧σ a=some (.inst c l)∧K a c l:=by
 cases v with
 | obj a=>
  unfold onT at h;dsimp only at h;cases e:σ a with
  | none=>rw[e]at h;exact h.elim
  | some o=>cases o with
   | inst c l=>rw[e]at h;exact⟨a,c,l,rfl,e,h⟩
   | _=>rw[e]at h;exact h.elim
 | _=>exact h.elim
theorem mX{σ:Sto}{a c:Nat}{l:List (Nat×PV)}{K:Nat→Nat→List (Nat×PV)→Prop}(e:σ a=some (.inst c l))(h:K a c l):onT σ (.obj a) K:=by
 show oT (σ a) (K a);rw[e];exact h
noncomputable def wu(e:PV)(n:Nat)(σ:Sto)(Q:KV):Prop:=onT σ e fun _ _ fs=>onO (lG fs n) fun v=>Q v σ
noncomputable def u4(m:Nat→Nat→Option Nat)(v:PV)(n:Nat)(σ:Sto)(K:Nat→Nat→Prop):Prop:=onT σ v fun a c _=>onO (m c n) fun f=>K a f
noncomputable def zL(ov:PV)(n:Nat)(v:PV)(σ:Sto)(K:Sto→Prop):Prop:=onT σ ov fun a c fs=>fs.length<1000∧K (σ.set a (.inst c (gR fs n v)))
theorem cK{v:PV}{K:Int→Prop}(h:onI v K):∃i,v=.int i∧K i:=by
 cases v with
 | int i=>exact⟨i,rfl,h⟩
 | _=>exact h.elim
theorem iC{σ:Sto}{v:PV}{K:List PV→Prop}(h:onE σ v K):∃x,cS σ v=some x∧K x:=by
 unfold onE at h;cases e:cS σ v with
 | none=>rw[e]at h;exact h.elim
 | some x=>rw[e]at h;exact⟨x,rfl,h⟩
theorem tF{σ:Sto}{d:PV}{l:List PV}(h:cS σ d=some l):d=.list l∨∃a,d=.obj a∧σ a=some (.list l):=by
 cases d with
 | list x=>cases h;exact .inl rfl
 | obj a=>
  refine .inr ⟨a,rfl,?_⟩;unfold cS at h;dsimp only at h;cases e:σ a with
  | none=>rw[e]at h;cases h
  | some o=>cases o with
   | list x=>rw[e]at h;cases h;rfl
   | _=>rw[e]at h;cases h
 | _=>cases h
theorem jI{σ:Sto}{a:Nat}{l:List PV}(h:σ a=some (.list l)):cS σ (.obj a)=some l:=by
 show oL Option.none (σ a) some=some l;rw[h];rfl
noncomputable def nc(k:Int):List Int→List Int
 | []=>[k]
 | x::r=>if k≤x then k::x::r else x::nc k r
noncomputable def fo:List Int→List Int
 | []=>[]
 | x::r=>nc x (fo r)
noncomputable def BW(v:PV)(σ:Sto)(Q:KV):Prop:=match v with
 | .tup l=>Q (.int l.length) σ
 | v=>onE σ v fun l=>Q (.int l.length) σ
noncomputable def qm(σ:Sto)(v:PV)(K:Nat→List (Int×PV)→Prop):Prop:=match v with
 | .obj a=>oD (σ a) (K a)
 | _=>False
theorem rF{σ:Sto}{v:PV}{K:Nat→List (Int×PV)→Prop}(h:qm σ v K):∃a l,v=.obj a∧σ a=some (.dict l)∧K a l:=by
 cases v with
 | obj a=>
  unfold qm at h;dsimp only at h;cases e:σ a with
  | none=>rw[e]at h;exact h.elim
  | some o=>cases o with
   | dict l=>rw[e]at h;exact⟨a,l,rfl,e,h⟩
   | _=>rw[e]at h;exact h.elim
 | _=>exact h.elim
theorem xn{σ:Sto}{a:Nat}{l:List (Int×PV)}{K:Nat→List (Int×PV)→Prop}(e:σ a=some (.dict l))(h:K a l):qm σ (.obj a) K:=by
 show oD (σ a) (K a);rw[e];exact h
noncomputable def DA(b:Blt)(v:PV)(σ:Sto)(Q:KV):Prop:=match b with
 | .len=>BW v σ Q
 | .abs=>onI v fun i=>Q (.int i.natAbs) σ
 | .sorted=>qm σ v fun _ kvs=>kvs.length<64∧Q (.list ((fo (kvs.map (·.1))).map .int)) σ
 | .copy=>onE σ v fun l=>Q (.list l) σ
 | _=>False
noncomputable def Dz(b:Blt)(v w:PV)(σ:Sto)(Q:KV):Prop:=match b with
 | .min=>onI v fun i=>onI w fun j=>Q (.int (min i j)) σ
 | .max=>onI v fun i=>onI w fun j=>Q (.int (max i j)) σ
 | _=>False
noncomputable def AD(b:Blt)(vs:List PV)(σ:Sto)(Q:KV):Prop:=match vs with
 | []=>False
 | v::r=>match r with
  | []=>DA b v σ Q
  | w::r=>match r with
   | []=>Dz b v w σ Q
   | _::_=>False
noncomputable def onL(σ:Sto)(v:PV)(K:Nat→List PV→Prop):Prop:=match v with
 | .obj a=>oL False (σ a) (K a)
 | _=>False
theorem kx{σ:Sto}{v:PV}{K:Nat→List PV→Prop}(h:onL σ v K):∃a l,v=.obj a∧σ a=some (.list l)∧K a l:=by
 cases v with
 | obj a=>
  unfold onL at h;dsimp only at h;cases e:σ a with
  | none=>rw[e]at h;exact h.elim
  | some o=>cases o with
   | list l=>rw[e]at h;exact⟨a,l,rfl,e,h⟩
   | _=>rw[e]at h;exact h.elim
 | _=>exact h.elim
theorem uT{σ:Sto}{a:Nat}{l:List PV}{K:Nat→List PV→Prop}(e:σ a=some (.list l))(h:K a l):onL σ (.obj a) K:=by
 show oL False (σ a) (K a);rw[e];exact h
noncomputable def asL(v:PV)(K:List PV→Prop):Prop:=match v with
 | .list l=>K l
 | _=>False
noncomputable def asT(v:PV)(K:List PV→Prop):Prop:=match v with
 | .tup l=>K l
 | _=>False
theorem AL{v:PV}{K:List PV→Prop}(h:asT v K):∃l,v=.tup l∧K l:=by
 cases v with
 | tup l=>exact⟨l,rfl,h⟩
 | _=>exact h.elim
theorem ls{v:PV}{K:List PV→Prop}(h:asL v K):∃l,v=.list l∧K l:=by
 cases v with
 | list l=>exact⟨l,rfl,h⟩
 | _=>exact h.elim
noncomputable def jJ(e x:PV)(σ:Sto)(Q:KV):Prop:=onL σ e fun a l=>l.length<big∧Q .none (σ.set a (.list (l++[x])))
noncomputable def nv(e x:PV)(σ:Sto)(Q:KV):Prop:=asL x fun y=>onL σ e fun a l=>l.length+y.length≤big∧Q .none (σ.set a (.list (l++y)))
noncomputable def BK(e i:PV)(σ:Sto)(Q:KV):Prop:=onI i fun k=>onL σ e fun a l=>∃v,0≤k∧l[k.toNat]? = some v∧Q v (σ.set a (.list (l.eraseIdx k.toNat)))
noncomputable def ya(ov iv v:PV)(σ:Sto)(K:Sto→Prop):Prop:=onI iv fun k=>qm σ ov fun a kvs=>kvs.any (·.1==k)=false∧kvs.length<big∧K (σ.set a (.dict (kvs++[(k,v)])))
noncomputable def x9(ov v vl vh:PV)(σ:Sto)(K:Sto→Prop):Prop:=asL v fun y=>onI vl fun i=>onI vh fun j=>onL σ ov fun a l=>0≤i∧i≤j∧j≤l.length∧l.length+y.length≤big∧K (σ.set a (.list (l.take i.toNat++y++l.drop j.toNat)))
noncomputable def el:List PV→Nat→PV→Option (List PV)
 | [],_,_=>Option.none
 | _::l,0,v=>some (v::l)
 | x::l,n+1,v=>match el l n v with
  | some l'=>some (x::l')
  | Option.none=>Option.none
theorem ro:∀(l:List PV) (i:Nat) (v:PV),el l i v=if i<l.length then some (l.set i v)else Option.none
 | [],i,v=>by simp[el]
 | x::l,0,v=>by simp[el]
 | x::l,n+1,v=>by
  show(match el l n v with|some l'=>some (x::l')|Option.none=>Option.none)=_;rw[ro l n v]
  by_cases h:n<l.length
  ·rw[if_pos h,if_pos (by simpa using h)];rfl
  ·rw[if_neg h,if_neg (by simpa using h)]
mutual
noncomputable def dO:Tgt→PV→List PV→(List PV→Prop)→Prop
 | .var i,v,loc,Q=>onO (el loc i v) Q
 | .tup ts,v,loc,Q=>match v with
  | .tup vs=>dH ts vs loc Q
  | _=>False
noncomputable def dH:List Tgt→List PV→List PV→(List PV→Prop)→Prop
 | [],vs,loc,Q=>match vs with
  | []=>Q loc
  | _=>False
 | t::ts,vs,loc,Q=>match vs with
  | v::vs=>dO t v loc fun loc'=>dH ts vs loc' Q
  | _=>False
end
noncomputable def d8(body:PV→Sto→(List PV→Sto→Prop)→Prop)(watch:Sto→Prop):List PV→List PV→Sto→(List PV→Sto→Prop)→Prop
 | [],acc,σ,Q=>Q acc σ
 | x::r,acc,σ,Q=>body x σ fun o σ'=>watch σ'∧d8 body watch r (acc++o) σ' Q
noncomputable def qw(v:PV)(σ:Sto)(Q:List PV→(Sto→Prop)→Prop):Prop:=match v with
 | .list l=>Q l fun _=>True
 | v=>onL σ v fun a l=>Q l fun σ'=>σ' a=some (.list l)
noncomputable def dQ(T:lL)(f:Nat)(vs:List PV):List PV:=match T.fn f with
 | some a=>vs++a.dflts.drop (vs.length+a.dflts.length-a.nargs)
 | Option.none=>vs
section
variable (T:lL) (S:Spec)
mutual
noncomputable def ac:ME→List PV→Sto→KV→Prop
 | .int i,_,σ,Q=>Q (.int i) σ
 | .bool b,_,σ,Q=>Q (.bool b) σ
 | .none,_,σ,Q=>Q .none σ
 | .str n,_,σ,Q=>Q (.str n) σ
 | .var i,loc,σ,Q=>rdO loc[i]? fun v=>Q v σ
 | .glob g,_,σ,Q=>Q (T.glob g) σ
 | .bin m op a b,loc,σ,Q=>ac a loc σ fun va σ₁=>ac b loc σ₁ fun vb σ₂=>tO m op va vb σ₂ Q
 | .cmp op a b,loc,σ,Q=>ac a loc σ fun va σ₁=>ac b loc σ₁ fun vb σ₂=>onO (li op σ₂ va vb) fun r=>Q (.bool r) σ₂
 | .cmp2 op1 op2 a b c,loc,σ,Q=>ac a loc σ fun va σ₁=>ac b loc σ₁ fun vb σ₂=>onO (li op1 σ₂ va vb) fun r=>
   if r then ac c loc σ₂ fun vc σ₃=>onO (li op2 σ₃ vb vc) fun r'=>Q (.bool r') σ₃ else Q (.bool false) σ₂
 | .and a b,loc,σ,Q=>ac a loc σ fun va σ₁=>asB va fun r=>if r then ac b loc σ₁ Q else Q (.bool false) σ₁
 | .or a b,loc,σ,Q=>ac a loc σ fun va σ₁=>asB va fun r=>if r then Q (.bool true) σ₁ else ac b loc σ₁ Q
 | .not a,loc,σ,Q=>ac a loc σ fun va σ₁=>asB va fun r=>Q (.bool (!r)) σ₁
 | .ite c a b,loc,σ,Q=>ac c loc σ fun vc σ₁=>asB vc fun r=>if r then ac a loc σ₁ Q else ac b loc σ₁ Q
 | .list m es,loc,σ,Q=>bP es loc σ fun vs σ₁=>cU m vs σ₁ Q
 | .tup es,loc,σ,Q=>bP es loc σ fun vs σ₁=>vs.length≤big∧Q (.tup vs) σ₁
 | .edict,_,σ,Q=>∀a,σ a=Option.none→Q (.obj a) (σ.set a (.dict []))
 | .attr e n,loc,σ,Q=>ac e loc σ fun v σ₁=>wu v n σ₁ Q
 | .sub e i,loc,σ,Q=>ac e loc σ fun v σ₁=>ac i loc σ₁ fun vi σ₂=>iu v vi σ₂ Q
 | .slice e lo hi,loc,σ,Q=>ac e loc σ fun v σ₁=>qF lo loc σ₁ fun vl σ₂=>qF hi loc σ₂ fun vh σ₃=>eT v vl vh σ₃ Q
 | .rev e,loc,σ,Q=>ac e loc σ fun v σ₁=>asL v fun l=>Q (.list l.reverse) σ₁
 | .call f args,loc,σ,Q=>bP args loc σ fun vs σ₁=>S f (dQ T f vs) σ₁ Q
 | .new c args,loc,σ,Q=>bP args loc σ fun vs σ₁=>onO (T.init c) fun f=>∀a,σ₁ a=Option.none→
   S f (dQ T f (.obj a::vs)) (σ₁.set a (.inst c [])) fun r σ₂=>r=.none∧Q (.obj a) σ₂
 | .meth e n args,loc,σ,Q=>ac e loc σ fun v σ₁=>u4 T.meth v n σ₁ fun a f=>
   bP args loc σ₁ fun vs σ₂=>S f (dQ T f (.obj a::vs)) σ₂ Q
 | .blt b args,loc,σ,Q=>bP args loc σ fun vs σ₁=>AD b vs σ₁ Q
 | .append e x,loc,σ,Q=>ac e loc σ fun v σ₁=>(cS σ₁ v).isSome=true∧ac x loc σ₁ fun w σ₂=>jJ v w σ₂ Q
 | .extend e x,loc,σ,Q=>ac e loc σ fun v σ₁=>(cS σ₁ v).isSome=true∧ac x loc σ₁ fun w σ₂=>nv v w σ₂ Q
 | .pop e i,loc,σ,Q=>ac e loc σ fun v σ₁=>(cS σ₁ v).isSome=true∧ac i loc σ₁ fun w σ₂=>BK v w σ₂ Q
 | .comp m k elt t it conds,loc,σ,Q=>cP it loc σ fun items watch σ₁=>
   d8 (fun x σ' R=>dO t x (loc++List.replicate k .undef) fun loc'=>
    iQ conds loc' σ' fun ok σ₂=>if ok then ac elt loc' σ₂ fun v σ₃=>R [v] σ₃ else R [] σ₂) watch items [] σ₁ fun l σ₂=>cU m l σ₂ Q
noncomputable def bP:List ME→List PV→Sto→(List PV→Sto→Prop)→Prop
 | [],_,σ,Q=>Q [] σ
 | e::es,loc,σ,Q=>ac e loc σ fun v σ₁=>bP es loc σ₁ fun vs σ₂=>Q (v::vs) σ₂
noncomputable def qF:Option ME→List PV→Sto→(Option PV→Sto→Prop)→Prop
 | Option.none,_,σ,Q=>Q Option.none σ
 | some e,loc,σ,Q=>ac e loc σ fun v σ₁=>Q (some v) σ₁
noncomputable def iQ:List ME→List PV→Sto→(Bool→Sto→Prop)→Prop
 | [],_,σ,Q=>Q true σ
 | c::cs,loc,σ,Q=>ac c loc σ fun v σ₁=>asB v fun r=>if r then iQ cs loc σ₁ Q else Q false σ₁
noncomputable def cP:MI→List PV→Sto→(List PV→(Sto→Prop)→Sto→Prop)→Prop
 | .expr e,loc,σ,Q=>ac e loc σ fun v σ₁=>qw v σ₁ fun l w=>Q l w σ₁
 | .range e,loc,σ,Q=>ac e loc σ fun v σ₁=>onI v fun n=>-2147483648<n∧n≤16777216∧Q ((List.range n.toNat).map fun i=>.int (i:Nat)) (fun _=>True) σ₁
 | .zip a b,loc,σ,Q=>ac a loc σ fun va σ₁=>ac b loc σ₁ fun vb σ₂=>asL va fun x=>asL vb fun y=>Q ((x.zip y).map fun p=>.tup [p.1,p.2]) (fun _=>True) σ₂
 | .enum a,loc,σ,Q=>ac a loc σ fun va σ₁=>asL va fun x=>Q (x.zipIdx.map fun p=>.tup [.int (p.2:Nat),p.1]) (fun _=>True) σ₁
end
inductive Out where|next(loc:List PV)|ret(v:PV)
noncomputable abbrev KO:=Out→Sto→Prop
noncomputable def o5(body:List PV→Sto→KO→Prop)(t:Tgt)(watch:Sto→Prop):List PV→List PV→Sto→KO→Prop
 | [],loc,σ,Q=>Q (.next loc) σ
 | x::r,loc,σ,Q=>dO t x loc fun loc'=>body loc' σ fun o σ'=>match o with
  | .next loc''=>watch σ'∧o5 body t watch r loc'' σ' Q
  | .ret v=>Q (.ret v) σ'
noncomputable def mM(test:List PV→Sto→(Bool→Sto→Prop)→Prop)(body:List PV→Sto→KO→Prop)(loc:List PV)(σ:Sto)(Q:KO):Prop:=
 ∃I:Nat→List PV→Sto→Prop,(∃n,I n loc σ)∧∀n loc σ,I n loc σ→test loc σ fun b σ'=>if b then body loc σ' fun o σ''=>match o with
  | .next loc''=>∃m,m<n∧I m loc'' σ''
  | .ret v=>Q (.ret v) σ''
 else Q (.next loc) σ'
mutual
noncomputable def yn:MS→List PV→Sto→KO→Prop
 | .assign t e,loc,σ,Q=>ac T S e loc σ fun v σ₁=>dO t v loc fun loc'=>Q (.next loc') σ₁
 | .swap is e,loc,σ,Q=>ac T S e loc σ fun v σ₁=>asT v fun vs=>dH (is.reverse.map .var) vs.reverse loc fun loc'=>Q (.next loc') σ₁
 | .setattr o n e,loc,σ,Q=>ac T S e loc σ fun v σ₁=>ac T S o loc σ₁ fun ov σ₂=>zL ov n v σ₂ fun σ₃=>Q (.next loc) σ₃
 | .setitem o i e,loc,σ,Q=>ac T S e loc σ fun v σ₁=>ac T S o loc σ₁ fun ov σ₂=>ac T S i loc σ₂ fun iv σ₃=>ya ov iv v σ₃ fun σ'=>Q (.next loc) σ'
 | .setslice o lo hi e,loc,σ,Q=>ac T S e loc σ fun v σ₁=>ac T S o loc σ₁ fun ov σ₂=>ac T S lo loc σ₂ fun vl σ₃=>ac T S hi loc σ₃ fun vh σ₄=>x9 ov v vl vh σ₄ fun σ'=>Q (.next loc) σ'
 | .expr e,loc,σ,Q=>ac T S e loc σ fun _ σ₁=>Q (.next loc) σ₁
 | .ite c a b,loc,σ,Q=>ac T S c loc σ fun v σ₁=>asB v fun r=>if r then al a loc σ₁ Q else al b loc σ₁ Q
 | .while c b,loc,σ,Q=>mM (fun loc σ R=>ac T S c loc σ fun v σ₁=>asB v fun r=>R r σ₁) (fun loc σ R=>al b loc σ R) loc σ Q
 | .for t it b,loc,σ,Q=>cP T S it loc σ fun items watch σ₁=>o5 (fun loc σ R=>al b loc σ R) t watch items loc σ₁ Q
 | .ret e,loc,σ,Q=>ac T S e loc σ fun v σ₁=>Q (.ret v) σ₁
 | .stuck,_,_,_=>False
noncomputable def al:List MS→List PV→Sto→KO→Prop
 | [],loc,σ,Q=>Q (.next loc) σ
 | s::r,loc,σ,Q=>yn s loc σ fun o σ'=>match o with
  | .next loc'=>al r loc' σ' Q
  | .ret v=>Q (.ret v) σ'
end
mutual
inductive Frz(σ σ':Sto):PV→PV→Prop
 | refl (v:PV):Frz σ σ' v v
 | obj {a:Nat} {l l':List PV} (h:σ a=some (.list l)) (h':σ' a=Option.none) (x:lO σ σ' l l'):Frz σ σ' (.obj a) (.list l')
inductive lO(σ σ':Sto):List PV→List PV→Prop
 | nil:lO σ σ' [] []
 | cons {v v':PV} {l l':List PV} (x:Frz σ σ' v v') (y:lO σ σ' l l'):lO σ σ' (v::l) (v'::l')
end
noncomputable def Wk(v:PV)(σ:Sto)(Q:KV):Prop:=∃v' σ',Frz σ σ' v v'∧(∀a o,σ' a=some o→σ a=some o)∧Q v' σ'
end
end Mine
end
section
namespace Mine
open PySem
structure Ctx where
 fns:List (Str×Nat)
 globs:List Str
 clss:List Str
 attrs:List Str
 meths:List Str
 txts:List Str
 muts:List Str
 deep:Bool
 scope:Scope
 slots:List (Str×Nat)
 n:Nat
noncomputable def idx(l:List Str)(x:Str):Option Nat:=match l with
 | []=>none
 | y::r=>if y=x then some 0 else(idx r x).map (· + 1)
noncomputable def aF(l:List (Str×Nat))(x:Str):Option Nat:=match l with
 | []=>none
 | (y,i)::r=>if y=x then some i else aF r x
noncomputable def Ctx.kind(C:Ctx)(x:Str):Option NameKind:=C.scope.names.lookup x
noncomputable def Ctx.loc(C:Ctx)(x:Str):Option Nat:=match C.kind x with
 | some .local|some .cell|some .free=>aF C.slots x
 | _=>none
noncomputable def Ctx.isGlob(C:Ctx)(x:Str):Bool:=C.kind x==some .globalImplicit
noncomputable def aM(sc:Scope)(n:Nat):List (Str×Nat):=((sc.names.filter fun x=>x.2==.local&&x.1 != (".0":Str)).map (·.1)).zipIdx n
noncomputable def Ctx.relab(C:Ctx)(sc:Scope):Scope:=
  { sc with names:=sc.names.map fun(n,k)=>if(k==.free&&C.scope.kind==.function&&C.kind n==some .cell)then(n,.cell)else(n,k)}
noncomputable def Ctx.inner(C:Ctx)(sc:Scope):Ctx:=
  { C with scope:=C.relab sc,slots:=aM sc C.n++C.slots,n:=C.n+(aM sc C.n).length}
noncomputable def fI:List Str→Bool
 | []=>true
 | x::r=>!r.contains x&&fI r
noncomputable def gD(C:Ctx)(sc:Scope):Bool:=
 sc.kind==.function&&sc.names.all (fun x=>x.2 != .cell&&x.1 != ("__debug__":Str)&&x.1 != ("__classdict__":Str)&&(x.2 != .free||(aF C.slots x.1).isSome&&(C.kind x.1==some .cell||C.kind x.1==some .free)))&&fI (sc.names.map (·.1))&&(aF C.slots ".0").isNone
noncomputable def yl:Expr→Bool
 | .Tuple ..=>true
 | _=>false
noncomputable def dg:MI→Bool
 | .zip .. | .enum ..=>true
 | _=>false
noncomputable def Ctx.isMut(C:Ctx):Expr→Bool
 | .Name x _=>C.muts.contains x
 | .Attribute _ a _=>C.muts.contains a
 | _=>false
noncomputable def dF:Expr→Bool
 | .ListComp .. | .SetComp .. | .DictComp ..=>true
 | _=>false
noncomputable def m9:Expr→Bool
 | .Starred ..=>true
 | _=>false
noncomputable def dt(a:Arguments)(sc:Scope):List Str:=
 let ps:=a.args.map (·.arg)
 ps++(sc.names.filter fun x=>(x.2==.local||x.2==.cell)&& !ps.contains x.1).map (·.1)
end Mine
end
section
namespace Mine
open PySem PySem.W PyProof.Rows
structure Cfg where
 I:Addr→Option Obj
 D:Addr→Addr
 σ:Sto
structure Nm where
 attr:Nat→Str
 cls:Nat→Addr
 txt:Nat→Str
 h0:Heap
 prog:Program
 w:World
 ntxt:Nat
 nattr:Nat
 txtInj:∀i j,i<ntxt→j<ntxt→txt i=txt j→i=j
 attrInj:∀i j,i<nattr→j<nattr→attr i=attr j→i=j
noncomputable def fZ(o:Obj)(vs:List Value):Prop:=vs.length≤big∧∃n,o=listOf vs.toArray n
noncomputable def qx(o:Obj)(vs:List Value):Prop:=vs.length≤big∧o.cls=.type "tuple"∧∃n,o.data=.seq vs.toArray n
section
variable (N:Nm)
mutual
inductive av(I:Addr→Option Obj):Value→PV→Prop
 | none:av I .none .none
 | bool (b:Bool):av I (.bool b) (.bool b)
 | int (i:Int) (t:Tok):av I (.int i t) (.int i)
 | str (n:Nat) (t:Tok) (hn:n<N.ntxt):av I (.str (N.txt n) t) (.str n)
 | list {a:Addr} {o:Obj} {vs:List Value} {l:List PV} (h:I a=some o) (ho:fZ o vs) (x:ar I vs l):av I (.ref a) (.list l)
 | tup {a:Addr} {o:Obj} {vs:List Value} {l:List PV} (h:I a=some o) (ho:qx o vs) (x:ar I vs l):av I (.ref a) (.tup l)
 | obj (a:Addr):av I (.ref a) (.obj a)
inductive ar(I:Addr→Option Obj):List Value→List PV→Prop
 | nil:ar I [] []
 | cons {v:Value} {d:PV} {vs:List Value} {l:List PV} (x:av I v d) (y:ar I vs l):ar I (v::vs) (d::l)
end
inductive gb(I:Addr→Option Obj):List DictEntry→List (Nat×PV)→Prop
 | nil:gb I [] []
 | cons {n:Nat} {t:Tok} {v:Value} {d:PV} {es:List DictEntry} {fs:List (Nat×PV)} (hn:n<N.nattr) (x:av N I v d) (y:gb I es fs):
   gb I (⟨PyData.keyHash N.w.params (N.attr n),.str (N.attr n) t,v⟩::es) ((n,d)::fs)
inductive iq(I:Addr→Option Obj):List (Int×Value)→List (Int×PV)→Prop
 | nil:iq I [] []
 | cons {k:Int} {v:Value} {d:PV} {es:List (Int×Value)} {fs:List (Int×PV)} (x:av N I v d) (y:iq I es fs):iq I ((k,v)::es) ((k,d)::fs)
noncomputable def gm(I:Addr→Option Obj)(D:Addr→Addr)(h:Heap)(a:Addr):cb→Prop
 | .list l=>∃o vs,h.get? a=some o∧fZ o vs∧ar N I vs l
 | .inst c fs=>h.get? a=some (instObj (N.cls c) (D a))∧∃es n,h.get? (D a)=some (dictOf es n)∧gb N I es fs
 | .dict kvs=>(a==sysModules)=false∧∃kv,h.DictOf (intKind N.prog N.w) a kv∧iq N I kv kvs
noncomputable def bG(c:Cfg)(b:Addr):Prop:=c.σ b≠none∨∃a C fs,c.σ a=some (.inst C fs)∧c.D a=b
structure SR(c:Cfg)(h:Heap):Prop where
 fr:∀a o,c.I a=some o→h.get? a=some o
 st:∀a x,c.σ a=some x→gm N c.I c.D h a x
 ni:∀b,bG c b→c.I b=none
 dj:∀a C fs,c.σ a=some (.inst C fs)→c.σ (c.D a)=none
 dd:∀a C fs a' C' fs',c.σ a=some (.inst C fs)→c.σ a'=some (.inst C' fs')→c.D a=c.D a'→a=a'
 stat:∀a o,N.h0.get? a=some o→c.I a=some o
structure Evo(X:Addr→Prop)(c:Cfg)(h:Heap)(c':Cfg)(h':Heap):Prop where
 inc:∀a o,c.I a=some o→c'.I a=some o
 keep:∀b o,h.get? b=some o→¬bG c b→¬X b→h'.get? b=some o
 live:∀b,h'.get? b=none→h.get? b=none
 foot:∀b,bG c' b→bG c b∨h.get? b=none
 inew:∀b o,c'.I b=some o→c.I b=some o∨bG c b∨h.get? b=none
end
noncomputable abbrev NoX:Addr→Prop:=fun _=>False
variable {N:Nm} {c c' c'':Cfg} {h h' h'':Heap} {X:Addr→Prop}
theorem av.mono{I I':Addr→Option Obj}(inc:∀a o,I a=some o→I' a=some o){v:Value}{d:PV}(x:av N I v d):av N I' v d:=
 av.rec (motive_1:=fun v d _=>av N I' v d) (motive_2:=fun v d _=>ar N I' v d) .none .bool .int .str (fun h ho _ y=>.list (inc _ _ h) ho y) (fun h ho _ y=>.tup (inc _ _ h) ho y) .obj .nil (fun _ _ x y=>.cons x y) x
theorem ar.ind{I:Addr→Option Obj}{P:List Value→List PV→Prop}(n:P [] [])(k:∀{v d vs l},av N I v d→ar N I vs l→P vs l→P (v::vs) (d::l)){vs:List Value}{l:List PV}(h:ar N I vs l):P vs l:=
 ar.rec (motive_1:=fun _ _ _=>True) (motive_2:=fun v d _=>P v d) trivial (fun _=>trivial) (fun _ _=>trivial) (fun _ _ _=>trivial) (fun _ _ _ _=>trivial) (fun _ _ _ _=>trivial) (fun _=>trivial) n (fun x y _ z=>k x y z) h
theorem ar.mono{I I':Addr→Option Obj}(inc:∀a o,I a=some o→I' a=some o){v:List Value}{d:List PV}(h:ar N I v d):ar N I' v d:=
 h.ind (P:=fun v d=>ar N I' v d) .nil fun x _ z=>.cons (x.mono inc) z
theorem gb.mono{I I':Addr→Option Obj}(inc:∀a o,I a=some o→I' a=some o){v:List DictEntry}{d:List (Nat×PV)}(h:gb N I v d):gb N I' v d:=by
 induction h with
 | nil=>exact .nil
 | cons hn x _ ih=>exact .cons hn (x.mono inc) ih
theorem iq.mono{I I':Addr→Option Obj}(inc:∀a o,I a=some o→I' a=some o){v:List (Int×Value)}{d:List (Int×PV)}(h:iq N I v d):iq N I' v d:=by
 induction h with
 | nil=>exact .nil
 | cons x _ ih=>exact .cons (x.mono inc) ih
theorem av.toI{I:Addr→Option Obj}{v:Value}{i:Int}(h:av N I v (.int i)):∃t,v=.int i t:=by cases h;exact⟨_,rfl⟩
theorem av.toB{I:Addr→Option Obj}{v:Value}{i:Bool}(h:av N I v (.bool i)):v=.bool i:=by cases h;rfl
theorem av.toN{I:Addr→Option Obj}{v:Value}(h:av N I v .none):v=.none:=by cases h;rfl
theorem av.toO{I:Addr→Option Obj}{v:Value}{a:Nat}(h:av N I v (.obj a)):v=.ref a:=by cases h;rfl
theorem av.toS{I:Addr→Option Obj}{v:Value}{i:Nat}(h:av N I v (.str i)):i<N.ntxt∧∃t,v=.str (N.txt i) t:=by cases h with|str _ t hi=>exact⟨hi,t,rfl⟩
theorem av.toL{I:Addr→Option Obj}{v:Value}{l:List PV}(h:av N I v (.list l)):∃a o vs,v=.ref a∧I a=some o∧fZ o vs∧ar N I vs l:=by cases h with|list h ho x=>exact⟨_,_,_,rfl,h,ho,x⟩
theorem av.toT{I:Addr→Option Obj}{v:Value}{l:List PV}(h:av N I v (.tup l)):∃a o vs,v=.ref a∧I a=some o∧qx o vs∧ar N I vs l:=by cases h with|tup h ho x=>exact⟨_,_,_,rfl,h,ho,x⟩
theorem ar.toC{I:Addr→Option Obj}{vs:List Value}{d:PV}{l:List PV}(h:ar N I vs (d::l)):∃v ws,vs=v::ws∧av N I v d∧ar N I ws l:=by cases h with|cons x y=>exact⟨_,_,rfl,x,y⟩
theorem ar.toE{I:Addr→Option Obj}{vs:List Value}(h:ar N I vs []):vs=[]:=by cases h;rfl
theorem ar.length{I:Addr→Option Obj}{v:List Value}{d:List PV}(h:ar N I v d):v.length=d.length:=h.ind (P:=fun v d=>v.length=d.length) rfl fun _ _ z=>congrArg (· + 1) z
theorem ar.append{I:Addr→Option Obj}{v v':List Value}{d d':List PV}(h:ar N I v d)(y:ar N I v' d'):ar N I (v++v') (d++d'):=h.ind (P:=fun v d=>ar N I (v++v') (d++d')) y fun a _ z=>.cons a z
theorem ar.getElem{I:Addr→Option Obj}{v:List Value}{d:List PV}(h:ar N I v d):∀{i:Nat} {x:PV},d[i]? = some x→∃y,v[i]? = some y∧av N I y x:=
 h.ind (P:=fun v d=>∀{i:Nat} {x:PV},d[i]? = some x→∃y,v[i]? = some y∧av N I y x) (fun e=>by cases e) fun a _ z i x e=>by
  cases i with
  | zero=>cases Option.some.inj e;exact⟨_,rfl,a⟩
  | succ i=>exact z e
theorem ar.take{I:Addr→Option Obj}{v:List Value}{d:List PV}(n:Nat)(h:ar N I v d):ar N I (v.take n) (d.take n):=
 h.ind (P:=fun v d=>∀n,ar N I (v.take n) (d.take n)) (fun n=>by rw[List.take_nil,List.take_nil];exact .nil) (fun a _ z n=>by cases n with|zero=>exact .nil|succ n=>exact .cons a (z n)) n
theorem ar.drop{I:Addr→Option Obj}{v:List Value}{d:List PV}(n:Nat)(h:ar N I v d):ar N I (v.drop n) (d.drop n):=
 h.ind (P:=fun v d=>∀n,ar N I (v.drop n) (d.drop n)) (fun n=>by rw[List.drop_nil,List.drop_nil];exact .nil) (fun a y z n=>by cases n with|zero=>exact .cons a y|succ n=>exact z n) n
theorem ar.reverse{I:Addr→Option Obj}{v:List Value}{d:List PV}(h:ar N I v d):ar N I v.reverse d.reverse:=
 h.ind (P:=fun v d=>ar N I v.reverse d.reverse) .nil fun a _ z=>by rw[List.reverse_cons,List.reverse_cons];exact z.append (.cons a .nil)
theorem ar.eraseIdx{I:Addr→Option Obj}{v:List Value}{d:List PV}(n:Nat)(h:ar N I v d):ar N I (v.eraseIdx n) (d.eraseIdx n):=
 h.ind (P:=fun v d=>∀n,ar N I (v.eraseIdx n) (d.eraseIdx n)) (fun _=>.nil) (fun a y z n=>by cases n with|zero=>exact y|succ n=>exact .cons a (z n)) n
theorem Evo.refl(X:Addr→Prop)(c:Cfg)(h:Heap):Evo X c h c h:=
 ⟨fun _ _ e=>e,fun _ _ e _ _=>e,fun _ e=>e,fun _ e=>.inl e,fun _ _ e=>.inl e⟩
theorem Evo.trans(a:Evo X c h c' h')(b:Evo X c' h' c'' h''):Evo X c h c'' h'' where
 inc:=fun x o e=>b.inc _ _ (a.inc _ _ e)
 keep:=fun x o e nf nx=>b.keep _ _ (a.keep _ _ e nf nx) (fun q=>(a.foot x q).elim nf fun z=>by rw[z]at e;cases e) nx
 live:=fun x e=>a.live x (b.live x e)
 foot:=fun x q=>(b.foot x q).elim (fun z=>a.foot x z) fun z=>.inr (a.live x z)
 inew:=fun x o e=>(b.inew x o e).elim (fun z=>a.inew x o z) fun z=>z.elim (fun z=>(a.foot x z).elim (fun z=>.inr (.inl z)) fun z=>.inr (.inr z)) fun z=>.inr (.inr (a.live x z))
theorem Evo.weaken{Y:Addr→Prop}(a:Evo X c h c' h')(hY:∀b,X b→Y b):Evo Y c h c' h':=
 ⟨a.inc,fun b o e nf nx=>a.keep b o e nf fun q=>nx (hY b q),a.live,a.foot,a.inew⟩
theorem Evo.fresh(a:Evo X c h c' h')(hX:∀b,X b→h.get? b=none):Evo NoX c h c' h':=
 ⟨a.inc,fun b o e nf _=>a.keep b o e nf (fun q=>by rw[hX b q]at e;cases e),a.live,a.foot,a.inew⟩
theorem m7(hk:∀b o,h.get? b=some o→h'.get? b=some o):∀b,h'.get? b=none→h.get? b=none:=fun b e=>by
 cases q:h.get? b with
 | none=>rfl
 | some o=>rw[hk b o q]at e;cases e
theorem Evo.ext(hk:∀b o,h.get? b=some o→h'.get? b=some o):Evo X c h c h':=
 ⟨fun _ _ e=>e,fun b o e _ _=>hk b o e,m7 hk,fun _ e=>.inl e,fun _ _ e=>.inl e⟩
theorem gm.lift{I I':Addr→Option Obj}{D D':Addr→Addr}{a:Addr}(inc:∀a o,I a=some o→I' a=some o)(hD:D' a=D a){x:cb}
  (hk:∀b o,(b=a∨(b=D a∧∃C fs,x=.inst C fs))→h.get? b=some o→h'.get? b=some o) (k:gm N I D h a x):gm N I' D' h' a x:=by
 cases x with
 | list l=>exact k.elim fun o k=>k.elim fun vs k=>⟨o,vs,hk a o (.inl rfl) k.1,k.2.1,k.2.2.mono inc⟩
 | inst C fs=>exact k.2.elim fun es q=>q.elim fun n q=>⟨by rw[hD];exact hk a _ (.inl rfl) k.1,es,n,by rw[hD];exact hk _ _ (.inr ⟨rfl,C,fs,rfl⟩) q.1,q.2.mono inc⟩
 | dict kvs=>exact k.2.elim fun kv q=>q.1.elim fun o r=>r.elim fun es r=>r.elim fun ep r=>⟨k.1,kv,⟨o,es,ep,hk a o (.inl rfl) r.1,r.2⟩,q.2.mono inc⟩
theorem gm.some{I:Addr→Option Obj}{D:Addr→Addr}{a:Addr}{x:cb}(k:gm N I D h a x):∃o,h.get? a=some o:=by
 cases x with
 | list l=>exact k.elim fun o k=>k.elim fun _ k=>⟨o,k.1⟩
 | inst C fs=>exact⟨_,k.1⟩
 | dict kvs=>exact k.2.elim fun _ q=>q.1.elim fun o r=>r.elim fun _ r=>r.elim fun _ r=>⟨o,r.1⟩
theorem SR.foot_some(S:SR N c h){b:Addr}(f:bG c b):∃o,h.get? b=some o:=by
 rcases f with f|⟨a,C,fs,e,rfl⟩
 ·cases q:c.σ b with
  | none=>exact absurd q f
  | some x=>exact(S.st b x q).some
 ·obtain⟨_,es,n,e2,_⟩:=S.st a _ e;exact⟨_,e2⟩
theorem SR.not_foot(S:SR N c h){b:Addr}(e:h.get? b=none):¬bG c b:=fun f=>by
 obtain⟨o,q⟩:=S.foot_some f;rw[e]at q;cases q
theorem SR.sto_none(S:SR N c h){b:Addr}(e:h.get? b=none):c.σ b=none:=Classical.byContradiction fun q=>S.not_foot e (.inl q)
theorem SR.I_none(S:SR N c h){b:Addr}(e:h.get? b=none):c.I b=none:=by
 cases q:c.I b with
 | none=>rfl
 | some o=>rw[S.fr b o q]at e;cases e
theorem SR.ext(S:SR N c h)(hk:∀b o,h.get? b=some o→h'.get? b=some o):SR N c h':=
 ⟨fun a o e=>hk a o (S.fr a o e),fun a x e=>(S.st a x e).lift (fun _ _ e=>e) rfl fun b o _ e=>hk b o e,S.ni,S.dj,S.dd,S.stat⟩
theorem SR.touch{t:Addr}(S:SR N c h)(hs:Heap.ExtBut t h h')(nf:¬bG c t)(ni:c.I t=none):SR N c h':=
 ⟨fun a o e=>hs a o (fun q=>by rw[q,ni]at e;cases e) (S.fr a o e),fun a x e=>(S.st a x e).lift (fun _ _ e=>e) rfl fun b o hb e'=>hs b o (fun q=>nf (by
   subst q;rcases hb with rfl|⟨rfl,C,fs,rfl⟩
   ·exact .inl (by rw[e];simp)
   ·exact .inr ⟨a,C,fs,e,rfl⟩)) e',S.ni,S.dj,S.dd,S.stat⟩
theorem Evo.touch{t:Addr}(E:Evo X c h c' h')(hs:Heap.ExtBut t h' h'')(hl:∃o,h''.get? t=some o)(hn:h.get? t=none∨X t):Evo X c h c' h'' where
 inc:=E.inc
 keep:=fun b o e nf nx=>hs b o (fun q=>hn.elim (fun z=>by rw[q,z]at e;cases e) fun z=>nx (q▸z)) (E.keep b o e nf nx)
 live:=fun b e=>by
  by_cases q:b=t
  ·subst q;obtain⟨o,hl⟩:=hl;rw[hl]at e;cases e
  ·refine E.live b ?_;cases z:h'.get? b with
   | none=>rfl
   | some o=>rw[hs b o q z]at e;cases e
 foot:=E.foot
 inew:=E.inew
noncomputable def Cfg.addI(c:Cfg)(a:Addr)(o:Obj):Cfg:={c with I:=fun x=>if x=a then some o else c.I x}
noncomputable def Cfg.put(c:Cfg)(a:Addr)(x:cb):Cfg:={c with σ:=c.σ.set a x}
theorem SR.freezeNew{a:Addr}{o:Obj}(S:SR N c h)(hk:∀b o,h.get? b=some o→h'.get? b=some o)(hn:h.get? a=none)(e:h'.get? a=some o):
  SR N (c.addI a o) h'∧Evo X c h (c.addI a o) h':=by
 have inc:∀b o',c.I b=some o'→(c.addI a o).I b=some o':=fun b o' q=>by
  show(if b=a then _ else _)=_;rw[if_neg];exact q;rintro rfl;rw[S.I_none hn]at q;cases q
 refine⟨⟨fun b o' q=>?_,fun b x q=>((S.ext hk).st b x q).lift inc rfl fun _ _ _ e=>e,fun b f=>?_,S.dj,S.dd,fun b o' q=>inc _ _ (S.stat b o' q)⟩,inc,fun b o' q _ _=>hk b o' q,m7 hk,fun b f=>.inl f,fun b o' q=>?_⟩
 ·have q':(if b=a then some o else c.I b)=some o':=q;split at q'
  ·rename_i z;cases q';rw[z];exact e
  ·exact hk b o' (S.fr b o' q')
 ·have nf:=S.not_foot hn
  show(if b=a then some o else c.I b)=none;rw[if_neg (fun z=>nf (by rw[←z];exact f))];exact S.ni b f
 ·have q':(if b=a then some o else c.I b)=some o':=q;split at q'
  ·rename_i z;exact .inr (.inr (by rw[z];exact hn))
  ·exact .inl q'
theorem SR.putNew{a:Addr}{x:cb}(S:SR N c h)(hk:∀b o,h.get? b=some o→h'.get? b=some o)(hn:h.get? a=none)(hx:∀C fs,x≠.inst C fs)(e:gm N c.I c.D h' a x):
  SR N (c.put a x) h'∧Evo X c h (c.put a x) h':=by
 have S':=S.ext hk;have nf:=S.not_foot hn;have foot:∀b,bG (c.put a x) b→b=a∨bG c b:=fun b f=>by
  rcases f with f|⟨a',C,fs,q,rfl⟩
  ·by_cases z:b=a
   ·exact .inl z
   ·exact .inr (.inl (by simpa [Cfg.put,Sto.set,z]using f))
  ·have q':(if a'=a then some x else c.σ a')=some (.inst C fs):=q;split at q'
   ·cases q';exact absurd rfl (hx C fs)
   ·exact .inr (.inr ⟨a',C,fs,q',rfl⟩)
 have old:∀a' C fs,(c.put a x).σ a'=some (.inst C fs)→c.σ a'=some (.inst C fs):=fun a' C fs q=>by
  have q':(if a'=a then some x else c.σ a')=some (.inst C fs):=q;split at q'
  ·cases q';exact absurd rfl (hx C fs)
  ·exact q'
 refine⟨⟨S'.fr,fun b y q=>?_,fun b f=>?_,fun a' C fs q=>?_,fun a' C fs a'' C' fs' q q'=>S.dd a' C fs a'' C' fs' (old _ _ _ q) (old _ _ _ q'),S.stat⟩,fun _ _ e=>e,fun b o' q _ _=>hk b o' q,m7 hk,fun b f=>?_,fun _ _ e=>.inl e⟩
 ·have q':(if b=a then some x else c.σ b)=some y:=q;split at q'
  ·rename_i z;cases q';subst z;exact e
  ·exact S'.st b y q'
 ·rcases foot b f with rfl|f
  ·exact S.I_none hn
  ·exact S.ni b f
 ·show(if c.D a'=a then some x else c.σ (c.D a'))=none;rw[if_neg];exact S.dj a' C fs (old _ _ _ q);intro z;exact nf (.inr ⟨a',C,fs,old _ _ _ q,z⟩)
 ·rcases foot b f with rfl|f
  ·exact .inr hn
  ·exact .inl f
theorem SR.putL{a:Addr}{x y:cb}(S:SR N c h)(hs:Heap.SameBut a h h')(ho:c.σ a=some y)(hy:∀C fs,y≠.inst C fs)(hx:∀C fs,x≠.inst C fs)(e:gm N c.I c.D h' a x):
  SR N (c.put a x) h'∧Evo X c h (c.put a x) h':=by
 have fa:bG c a:=.inl (by rw[ho];simp);have ia:=S.ni a fa;have old:∀a' C fs,(c.put a x).σ a'=some (.inst C fs)→c.σ a'=some (.inst C fs):=fun a' C fs q=>by
  have q':(if a'=a then some x else c.σ a')=some (.inst C fs):=q;split at q'
  ·cases q';exact absurd rfl (hx C fs)
  ·exact q'
 have foot:∀b,bG (c.put a x) b→bG c b:=fun b f=>by
  rcases f with f|⟨a',C,fs,q,rfl⟩
  ·by_cases z:b=a
   ·exact z▸fa
   ·exact .inl (by simpa [Cfg.put,Sto.set,z]using f)
  ·exact .inr ⟨a',C,fs,old _ _ _ q,rfl⟩
 refine⟨⟨fun b o q=>(hs.2 b (fun z=>by rw[z]at q;rw[show(c.put a x).I a=none from ia]at q;cases q)).trans (S.fr b o q),fun b z q=>?_,fun b f=>S.ni b (foot b f),fun a' C fs q=>?_,fun a' C fs a'' C' fs' q q'=>S.dd a' C fs a'' C' fs' (old _ _ _ q) (old _ _ _ q'),S.stat⟩,
  fun _ _ e=>e,fun b o q nf _=>(hs.2 b (fun z=>nf (z▸fa))).trans q,fun b q=>?_,fun b f=>.inl (foot b f),fun _ _ e=>.inl e⟩
 ·have q':(if b=a then some x else c.σ b)=some z:=q;split at q'
  ·rename_i w;cases q';subst w;exact e
  ·rename_i hne
   refine(S.st b z q').lift (fun _ _ e=>e) rfl fun b' o hb e'=>(hs.2 b' ?_).trans e'
   intro w;rcases hb with w'|⟨w',C,fs,rfl⟩
   ·exact hne (w'.symm.trans w)
   ·have this:c.σ (c.D b)=none:=S.dj b C fs q';have w'':b'=c.D b:=w';rw[←w'',w,ho]at this;cases this
 ·show(if c.D a'=a then some x else c.σ (c.D a'))=none
  have:=S.dj a' C fs (old _ _ _ q);rw[if_neg];exact this;intro z;rw[z,ho]at this;cases this
 ·by_cases z:b=a
  ·subst z;obtain⟨o,w⟩:=e.some;rw[w]at q;cases q
  ·rw[←hs.2 b z];exact q
theorem SR.putF{a:Addr}{C C':Nat}{fs fs':List (Nat×PV)}(S:SR N c h)(hs:Heap.SameBut (c.D a) h h')(ho:c.σ a=some (.inst C fs))(e:gm N c.I c.D h' a (.inst C' fs')):
  SR N (c.put a (.inst C' fs')) h'∧Evo X c h (c.put a (.inst C' fs')) h':=by
 have fd:bG c (c.D a):=.inr ⟨a,C,fs,ho,rfl⟩;have id:=S.ni _ fd;have old:∀a' C₁ fs₁,(c.put a (.inst C' fs')).σ a'=some (.inst C₁ fs₁)→∃C₂ fs₂,c.σ a'=some (.inst C₂ fs₂):=fun a' C₁ fs₁ q=>by
  have q':(if a'=a then some (cb.inst C' fs')else c.σ a')=some (.inst C₁ fs₁):=q;split at q'
  ·rename_i z;exact⟨C,fs,z▸ho⟩
  ·exact⟨_,_,q'⟩
 have foot:∀b,bG (c.put a (.inst C' fs')) b→bG c b:=fun b f=>by
  rcases f with f|⟨a',C₁,fs₁,q,rfl⟩
  ·by_cases z:b=a
   ·exact .inl (by rw[z,ho];simp)
   ·exact .inl (by simpa [Cfg.put,Sto.set,z]using f)
  ·obtain⟨C₂,fs₂,q'⟩:=old _ _ _ q;exact .inr ⟨a',C₂,fs₂,q',rfl⟩
 refine⟨⟨fun b o q=>(hs.2 b (fun z=>by rw[z]at q;rw[show(c.put a (.inst C' fs')).I (c.D a)=none from id]at q;cases q)).trans (S.fr b o q),fun b z q=>?_,fun b f=>S.ni b (foot b f),fun a' C₁ fs₁ q=>?_,
   fun a' C₁ fs₁ a'' C₂ fs₂ q q'=>by obtain⟨_,_,w⟩:=old _ _ _ q;obtain⟨_,_,w'⟩:=old _ _ _ q';exact S.dd _ _ _ _ _ _ w w',S.stat⟩,
  fun _ _ e=>e,fun b o q nf _=>(hs.2 b (fun z=>nf (z▸fd))).trans q,fun b q=>?_,fun b f=>.inl (foot b f),fun _ _ e=>.inl e⟩
 ·have q':(if b=a then some (cb.inst C' fs')else c.σ b)=some z:=q;split at q'
  ·rename_i w;cases q';subst w;exact e
  ·rename_i hne
   refine(S.st b z q').lift (fun _ _ e=>e) rfl fun b' o hb e'=>(hs.2 b' ?_).trans e'
   intro w;rcases hb with w'|⟨w',C₁,fs₁,rfl⟩
   ·have this:c.σ (c.D a)=none:=S.dj a C fs ho;have w'':b'=b:=w';have w3:b'=c.D a:=w;rw[←w3,w'',q']at this;cases this
   ·exact hne (S.dd _ _ _ _ _ _ q' ho (w'.symm.trans w))
 ·obtain⟨C₂,fs₂,w⟩:=old _ _ _ q
  show(if c.D a'=a then some (cb.inst C' fs')else c.σ (c.D a'))=none
  have:=S.dj a' C₂ fs₂ w;rw[if_neg];exact this;intro z;rw[z,ho]at this;cases this
 ·by_cases z:b=c.D a
  ·obtain⟨_,es,n,w,_⟩:=e;rw[z,w]at q;cases q
  ·rw[←hs.2 b z];exact q
end Mine
end
section
namespace Mine
open PySem PySem.W PyProof.Rows
variable {N:Nm} {c c' c'':Cfg} {h h' h'':Heap} {X:Addr→Prop}
theorem SR.instNew{k:Nat}(S:SR N c h):
  SR N {c with D:=fun x=>if x=h.objs.size+1 then h.objs.size else c.D x,σ:=c.σ.set (h.objs.size+1) (.inst k [])} ((h.push emptyDict).push (instObj (N.cls k) h.objs.size))∧
  Evo X c h {c with D:=fun x=>if x=h.objs.size+1 then h.objs.size else c.D x,σ:=c.σ.set (h.objs.size+1) (.inst k [])} ((h.push emptyDict).push (instObj (N.cls k) h.objs.size)):=by
 have hk:∀b o,h.get? b=some o→((h.push emptyDict).push (instObj (N.cls k) h.objs.size)).get? b=some o:=fun b o e=>Heap.get?_push_of_some _ (Heap.get?_push_of_some _ e)
 have hn:h.get? h.objs.size=none:=by
  cases q:h.get? h.objs.size with
  | none=>rfl
  | some o=>exact absurd (Heap.lt_size q) (Nat.lt_irrefl _)
 have hn1:h.get? (h.objs.size+1)=none:=by
  cases q:h.get? (h.objs.size+1)with
  | none=>rfl
  | some o=>exact absurd (Heap.lt_size q) (Nat.not_lt.mpr (Nat.le_succ _))
 have e0:((h.push emptyDict).push (instObj (N.cls k) h.objs.size)).get? h.objs.size=some emptyDict:=Heap.get?_push_of_some _ (Heap.get?_push_size _ rfl);have e1:((h.push emptyDict).push (instObj (N.cls k) h.objs.size)).get? (h.objs.size+1)=some (instObj (N.cls k) h.objs.size):=by
  have:=Heap.get?_push_size (h.push emptyDict) (o:=instObj (N.cls k) h.objs.size) rfl;rwa [Heap.size_push]at this
 have S':=S.ext hk;have ne:∀a x,c.σ a=some x→a≠h.objs.size+1:=fun a x e z=>by rw[z,S.sto_none hn1]at e;cases e
 have old:∀a C fs,(c.σ.set (h.objs.size+1) (.inst k [])) a=some (.inst C fs)→(a=h.objs.size+1)∨(a≠h.objs.size+1∧c.σ a=some (.inst C fs)):=fun a C fs q=>by
  have q':(if a=h.objs.size+1 then some (cb.inst k [])else c.σ a)=some (.inst C fs):=q;split at q'
  ·rename_i z;exact .inl z
  ·rename_i z;exact .inr ⟨z,q'⟩
 have foot:∀b,bG {c with D:=fun x=>if x=h.objs.size+1 then h.objs.size else c.D x,σ:=c.σ.set (h.objs.size+1) (.inst k [])} b→b=h.objs.size+1∨b=h.objs.size∨bG c b:=fun b f=>by
  rcases f with f|⟨a',C,fs,q,rfl⟩
  ·by_cases z:b=h.objs.size+1
   ·exact .inl z
   ·exact .inr (.inr (.inl (by simpa [Sto.set,z]using f)))
  ·rcases old _ _ _ q with z|⟨z,q'⟩
   ·exact .inr (.inl (by simp[z]))
   ·refine .inr (.inr (.inr ⟨a',C,fs,q',?_⟩));simp[z]
 have nd:∀a C fs,c.σ a=some (.inst C fs)→c.D a≠h.objs.size:=fun a C fs q z=>by
  have:=S.not_foot hn;exact this (.inr ⟨a,C,fs,q,z⟩)
 have nd1:∀a C fs,c.σ a=some (.inst C fs)→c.D a≠h.objs.size+1:=fun a C fs q z=>by
  have:=S.not_foot hn1;exact this (.inr ⟨a,C,fs,q,z⟩)
 refine⟨⟨S'.fr,fun a x q=>?_,fun b f=>?_,fun a C fs q=>?_,fun a C fs a' C' fs' q q' e=>?_,S.stat⟩,fun _ _ e=>e,fun b o q _ _=>hk b o q,m7 hk,fun b f=>?_,fun _ _ e=>.inl e⟩
 ·have q':(if a=h.objs.size+1 then some (cb.inst k [])else c.σ a)=some x:=q;split at q'
  ·rename_i z;cases q';subst z;exact⟨by simpa using e1,[],0,by simpa using e0,.nil⟩
  ·rename_i z
   exact(S'.st a x q').lift (fun _ _ e=>e) (by simp[z]) fun _ _ _ e=>e
 ·rcases foot b f with rfl|rfl|f
  ·exact S.I_none hn1
  ·exact S.I_none hn
  ·exact S.ni b f
 ·rcases old _ _ _ q with z|⟨z,q'⟩
  ·subst z
   show(if(if h.objs.size+1=h.objs.size+1 then h.objs.size else c.D (h.objs.size+1))=h.objs.size+1 then _ else c.σ (if h.objs.size+1=h.objs.size+1 then h.objs.size else c.D (h.objs.size+1)))=none;simp[S.sto_none hn]
  ·show(if(if a=h.objs.size+1 then h.objs.size else c.D a)=h.objs.size+1 then _ else c.σ (if a=h.objs.size+1 then h.objs.size else c.D a))=none;simp[z,nd1 a C fs q',S.dj a C fs q']
 ·rcases old _ _ _ q with z|⟨z,w⟩<;>rcases old _ _ _ q' with z'|⟨z',w'⟩
  ·rw[z,z']
  ·exfalso;simp only[z,z',if_true,if_false]at e;exact nd _ _ _ w' e.symm
  ·exfalso;simp only[z,z',if_true,if_false]at e;exact nd _ _ _ w e
  ·simp only[z,z',if_false]at e;exact S.dd _ _ _ _ _ _ w w' e
 ·rcases foot b f with rfl|rfl|f
  ·exact .inr hn1
  ·exact .inr hn
  ·exact .inl f
noncomputable def Cfg.frz(c:Cfg)(σ':Sto)(h:Heap):Cfg:=
  { c with σ:=σ',I:=fun a=>match σ' a,c.σ a with|none,some (.list _)=>h.get? a|_,_=>c.I a}
theorem SR.frz{σ':Sto}(S:SR N c h)(hs:∀a o,σ' a=some o→c.σ a=some o):SR N (c.frz σ' h) h∧Evo X c h (c.frz σ' h) h:=by
 have inc:∀a o,c.I a=some o→(c.frz σ' h).I a=some o:=fun a o e=>by
  show(match σ' a,c.σ a with|none,some (.list _)=>h.get? a|_,_=>c.I a)=some o;split
  ·exact S.fr a o e
  ·exact e
 have foot:∀b,bG (c.frz σ' h) b→bG c b:=fun b f=>by
  rcases f with f|⟨a,C,fs,q,rfl⟩
  ·refine .inl fun z=>f ?_
   cases w:σ' b with
   | none=>exact w
   | some o=>rw[hs b o w]at z;cases z
  ·exact .inr ⟨a,C,fs,hs _ _ q,rfl⟩
 have nfI:∀b o,(c.frz σ' h).I b=some o→c.I b=some o∨(σ' b=none∧∃l,c.σ b=some (.list l)∧h.get? b=some o):=fun b o e=>by
  have e':(match σ' b,c.σ b with|none,some (.list _)=>h.get? b|_,_=>c.I b)=some o:=e;split at e'
  ·rename_i l q1 q2;exact .inr ⟨q1,l,q2,e'⟩
  ·exact .inl e'
 refine⟨⟨fun a o e=>?_,fun a x q=>(S.st a x (hs a x q)).lift inc rfl fun _ _ _ e=>e,fun b f=>?_,fun a C fs q=>?_,fun a C fs a' C' fs' q q'=>S.dd a C fs a' C' fs' (hs _ _ q) (hs _ _ q'),fun a o e=>inc _ _ (S.stat a o e)⟩,
  inc,fun b o e _ _=>e,fun _ e=>e,fun b f=>.inl (foot b f),fun b o e=>?_⟩
 ·rcases nfI a o e with e|⟨_,_,_,e⟩
  ·exact S.fr a o e
  ·exact e
 ·have f0:=foot b f;cases q:(c.frz σ' h).I b with
  | none=>rfl
  | some o=>
   exfalso;rcases nfI b o q with e|⟨z,l,w,e⟩
   ·rw[S.ni b f0]at e;cases e
   ·rcases f with f|⟨a,C,fs,q',w'⟩
    ·exact f z
    ·have:c.σ (c.D a)=none:=S.dj a C fs (hs _ _ q');have w'':c.D a=b:=w';rw[w'',w]at this;cases this
 ·show σ' (c.D a)=none;cases w:σ' (c.D a)with
  | none=>rfl
  | some o=>have:c.σ (c.D a)=none:=S.dj a C fs (hs _ _ q);rw[hs _ _ w]at this;cases this
 ·rcases nfI b o e with e|⟨_,l,w,_⟩
  ·exact .inl e
  ·exact .inr (.inl (.inl (by rw[w];simp)))
theorem Frz.vrel{σ':Sto}(S:SR N c h)(hs:∀a o,σ' a=some o→c.σ a=some o){d d':PV}{v:Value}(f:Frz c.σ σ' d d')(x:av N c.I v d):av N (c.frz σ' h).I v d':=
 Frz.rec (motive_1:=fun d d' _=>∀v,av N c.I v d→av N (c.frz σ' h).I v d') (motive_2:=fun d d' _=>∀v,ar N c.I v d→ar N (c.frz σ' h).I v d')
  (fun _ v x=>x.mono (S.frz (X:=NoX) hs).2.inc)
  (fun{a l l'} q q' y ih v x=>by
   obtain⟨o,vs,e,ho,r⟩:=S.st a _ q;rw[x.toO];refine .list (o:=o) (vs:=vs) ?_ ho (ih _ r)
   show(match σ' a,c.σ a with|none,some (.list _)=>h.get? a|_,_=>c.I a)=some o;rw[q',q];exact e)
  (fun v x=>by rw[x.toE];exact .nil)
  (fun _ _ i1 i2 v x=>by obtain⟨u,ws,rfl,a,b⟩:=x.toC;exact .cons (i1 _ a) (i2 _ b)) f v x
noncomputable def sa(env:Env)(h:Heap)(x:Str)(cv:Value):Prop:=
 (env.kindOf x=some .local∧∃m,h.Ns env.locals m∧m x=some cv)∨((env.kindOf x=some .cell∨env.kindOf x=some .free)∧∃a,env.cells.lookup x=some a∧h.IsCell a (some cv))
noncomputable def Own(env:Env)(b:Addr):Prop:=b=env.locals∨∃x,(x,b)∈env.cells
structure cf(C:Ctx)(env:Env):Prop where
 fn:env.scope.kind=.function
 sc:env.scope=C.scope
 inj:∀x y i,aF C.slots x=some i→aF C.slots y=some i→x=y
 lt:∀x i,aF C.slots x=some i→i<C.n
 apart:env.cells.Pairwise fun x y=>x.2≠y.2
 off:∀x a,(x,a)∈env.cells→a≠env.locals
 cell:∀x i,aF C.slots x=some i→C.kind x=some .cell∨C.kind x=some .free→∃a,env.cells.lookup x=some a
 names:∀x k,C.kind x=some k→(x==("__debug__":Str))=false∧(x==("__classdict__":Str))=false
theorem cf.kind{C:Ctx}{env:Env}(K:cf C env)(x:Str):env.kindOf x=C.kind x:=by
 unfold Env.kindOf Ctx.kind;rw[K.sc]
theorem cC{C:Ctx}{x:Str}{i:Nat}(h:C.loc x=some i):aF C.slots x=some i∧(C.kind x=some .local∨C.kind x=some .cell∨C.kind x=some .free):=by
 unfold Ctx.loc at h;split at h<;>first|cases h|skip
 ·rename_i e;exact⟨h,.inl e⟩
 ·rename_i e;exact⟨h,.inr (.inl e)⟩
 ·rename_i e;exact⟨h,.inr (.inr e)⟩
structure LR(N:Nm)(C:Ctx)(env:Env)(c:Cfg)(h:Heap)(loc:List PV):Prop where
 ns:∃m,h.Ns env.locals m
 cells:∀x a,(x,a)∈env.cells→∃v,h.IsCell a v
 len:loc.length=C.n
 vars:∀x i v,C.loc x=some i→loc[i]? = some v→v≠.undef→∃cv,sa env h x cv∧av N c.I cv v
 off:∀b,Own env b→¬bG c b∧c.I b=none
theorem LR.own_some{C:Ctx}{env:Env}{loc:List PV}(L:LR N C env c h loc){b:Addr}(o:Own env b):∃x,h.get? b=some x:=by
 rcases o with rfl|⟨x,hx⟩
 ·obtain⟨m,ob,_,_,e,_⟩:=L.ns;exact⟨ob,e⟩
 ·obtain⟨v,ob,e,_⟩:=L.cells x b hx;exact⟨ob,e⟩
theorem LR.kept{C:Ctx}{env:Env}{loc:List PV}(L:LR N C env c h loc)(E:Evo X c h c' h')(hX:∀b,Own env b→¬X b){b:Addr}(o:Own env b):∀x,h.get? b=some x→h'.get? b=some x:=
 fun x e=>E.keep b x e (L.off b o).1 (hX b o)
theorem LR.evoX{C:Ctx}{env:Env}{loc:List PV}(L:LR N C env c h loc)(E:Evo X c h c' h')(hX:∀b,Own env b→¬X b):LR N C env c' h' loc where
 ns:=let⟨m,o,es,ep,e,r⟩:=L.ns;⟨m,o,es,ep,L.kept E hX (.inl rfl) _ e,r⟩
 cells:=fun x a hx=>let⟨v,o,e,r⟩:=L.cells x a hx;⟨v,o,L.kept E hX (.inr ⟨x,hx⟩) _ e,r⟩
 len:=L.len
 vars:=fun x i v hl hv hu=>by
  obtain⟨cv,hcv,r⟩:=L.vars x i v hl hv hu;refine⟨cv,?_,r.mono E.inc⟩;rcases hcv with⟨k,m,⟨o,es,ep,e,r⟩,hm⟩|⟨k,a,ha,o,e,r⟩
  ·exact .inl ⟨k,m,⟨o,es,ep,L.kept E hX (.inl rfl) _ e,r⟩,hm⟩
  ·exact .inr ⟨k,a,ha,o,L.kept E hX (.inr ⟨x,mem_of_lookup ha⟩) _ e,r⟩
 off:=fun b o=>by
  obtain⟨x,e⟩:=L.own_some o;obtain⟨nf,ni⟩:=L.off b o;refine⟨fun f=>(E.foot b f).elim nf (fun z=>by rw[z]at e;cases e),?_⟩;cases q:c'.I b with
  | none=>rfl
  | some y=>
   rcases E.inew b y q with z|z|z
   ·rw[ni]at z;cases z
   ·exact absurd z nf
   ·rw[z]at e;cases e
theorem LR.evo{C:Ctx}{env:Env}{loc:List PV}(L:LR N C env c h loc)(E:Evo NoX c h c' h'):LR N C env c' h' loc:=L.evoX E fun _ _=>id
section
variable {A:Around} {E:Value→Shared→Prop} {s:Shared} {M:Model} {C:Ctx} {env:Env} {loc:List PV}
theorem LR.read{x:Str}{i:Nat}{d:PV}{pos:Pos}{Q:Value→Shared→Prop}(K:cf C env)(L:LR N C env c s.heap loc)(hl:C.loc x=some i)(hd:loc[i]? = some d)(hu:d≠.undef)
  (h:∀v,av N c.I v d→Q v s):wpAny M A (eval (.Name x pos) env) Q E s:=by
 obtain⟨cv,hcv,r⟩:=L.vars x i d hl hd hu;have hk:∃k,C.kind x=some k:=by
  obtain⟨-,q|q|q⟩:=cC hl<;>exact⟨_,q⟩
 obtain⟨k,hk⟩:=hk;refine wpAny_Name ?_ (K.names x k hk).1;rcases hcv with⟨k,m,hn,hm⟩|⟨k|k,a,ha,hc⟩
 ·exact wpAny_loadName_local K.fn k hn hm (h _ r)
 ·exact wpAny_loadName_cell K.fn k ha hc (h _ r)
 ·exact wpAny_loadName_free K.fn k ha hc (h _ r) (K.names x _ hk).2
theorem LR.store{x:Str}{i:Nat}{d:PV}{v:Value}{Q:Unit→Shared→Prop}(K:cf C env)(S:SR N c s.heap)(L:LR N C env c s.heap loc)(hl:aF C.slots x=some i)(hk:(C.kind x=some .local∧X env.locals)∨(C.kind x=some .cell∧∀a,env.cells.lookup x=some a→X a))(hv:av N c.I v d)
  (h:∀h' tk,SR N c h'→Evo X c s.heap c h'→LR N C env c h' (loc.set i d)→Q () {s with heap:=h',toks:=tk}):wpAny M A (storeName env x v) Q E s:=by
 have hi:i<loc.length:=by rw[L.len];exact K.lt x i hl
 have main:∀(t:Addr) (h':Heap),Own env t→X t→Heap.SameBut t s.heap h'→(∃m,h'.Ns env.locals m)→(∀y a,(y,a)∈env.cells→∃v,h'.IsCell a v)→sa env h' x v→
   (∀y cv,y≠x→sa env s.heap y cv→sa env h' y cv)→SR N c h'∧Evo X c s.heap c h'∧LR N C env c h' (loc.set i d):=by
  intro t h' ho hX hs hns hcs hx hy;obtain⟨nf,ni⟩:=L.off t ho;have htl:∃o,h'.get? t=some o:=by
   rcases ho with rfl|⟨y,hy'⟩
   ·obtain⟨m,ob,_,_,e,_⟩:=hns;exact⟨ob,e⟩
   ·obtain⟨v,ob,e,_⟩:=hcs y t hy';exact⟨ob,e⟩
  refine⟨S.touch hs.extBut nf ni,(Evo.refl X c s.heap).touch hs.extBut htl (.inr hX),hns,hcs,by rw[List.length_set];exact L.len,fun y j w hj hw hu=>?_,L.off⟩;rw[List.getElem?_set]at hw
  by_cases q:i=j
  ·subst q;rw[if_pos rfl,if_pos hi]at hw;cases hw;rw[K.inj y x i (cC hj).1 hl];exact⟨v,hx,hv⟩
  ·rw[if_neg q]at hw;obtain⟨cv,hcv,r⟩:=L.vars y j w hj hw hu;exact⟨cv,hy y cv (fun z=>q (by have:=(cC hj).1;rw[z,hl]at this;exact Option.some.inj this)) hcv,r⟩
 rcases hk with⟨k,kX⟩|⟨k,kX⟩
 ·have k':env.kindOf x=some .local:=(K.kind x).trans k;obtain⟨m,hn⟩:=L.ns;refine wpAny_storeName_local k' hn (fun h' hn' hs=>?_) (by rw[K.fn];rfl);obtain⟨a,b,e⟩:=main env.locals h' (.inl rfl) kX hs ⟨_,hn'⟩ (fun y a hy=>let⟨v,hc⟩:=L.cells y a hy;⟨v,hc.sameBut hs (K.off y a hy)⟩) (.inl ⟨k',_,hn',by simp⟩) (fun y cv hne hcv=>by
   rcases hcv with⟨k',m',hm',e⟩|⟨k',a,ha,hc⟩
   ·refine .inl ⟨k',_,hn',?_⟩
    show(if y=x then some v else m y)=_;rw[if_neg hne];obtain⟨o,es,ep,q,q2,_,q3⟩:=hn;obtain⟨o',es',ep',r,r2,_,r3⟩:=hm';rw[q]at r;cases r;rw[q2]at r2;cases r2;rw[←q3 y,r3 y];exact e
   ·exact .inr ⟨k',a,ha,hc.sameBut hs (K.off y a (mem_of_lookup ha))⟩)
  exact h h' _ a b e
 ·have k':env.kindOf x=some .cell:=(K.kind x).trans k;obtain⟨a,ha⟩:=K.cell x i hl (.inl k);obtain⟨v0,hc⟩:=L.cells x a (mem_of_lookup ha);refine wpAny_storeName_cell K.fn k' ha hc fun h' hc' hs=>?_
  have ow:Own env a:=.inr ⟨x,mem_of_lookup ha⟩;obtain⟨p,q,r⟩:=main a h' ow (kX a ha) hs (let⟨m,hn⟩:=L.ns;⟨m,hn.sameBut hs (Ne.symm (K.off x a (mem_of_lookup ha)))⟩) (fun y b hy=>by
    by_cases z:b=a
    ·subst z;exact⟨_,hc'⟩
    ·obtain⟨v,hv⟩:=L.cells y b hy;exact⟨v,hv.sameBut hs z⟩) (.inr ⟨.inl k',a,ha,hc'⟩) (fun y cv hne hcv=>by
   rcases hcv with⟨k',m',hm',e⟩|⟨k',b,hb,hcb⟩
   ·exact .inl ⟨k',m',hm'.sameBut hs (Ne.symm (K.off x a (mem_of_lookup ha))),e⟩
   ·exact .inr ⟨k',b,hb,hcb.sameBut hs fun z=>hne (name_of_addr K.apart (mem_of_lookup hb) (z▸mem_of_lookup ha))⟩)
  exact h h' s.toks p q r
end
end Mine
end
section
namespace Mine
open PySem PySem.W PyProof.Rows PySem.Spec PyProof PySem.SeqAt
noncomputable abbrev NoE:Value→Shared→Prop:=fun _ _=>False
structure Go(N:Nm)(X:Addr→Prop)(c:Cfg)(s:Shared)(c':Cfg)(s':Shared):Prop where
 S:SR N c' s'.heap
 E:Evo X c s.heap c' s'.heap
 g:s'.gens=s.gens
 o:s'.os=s.os
inductive ca(N:Nm)(c:Cfg)(s:Shared)(Q:KV)(v:Value)(s':Shared):Prop
 | mk {c':Cfg} {d:PV} (G:Go N NoX c s c' s') (r:av N c'.I v d) (q:Q d c'.σ)
noncomputable abbrev WV(N:Nm)(A:Around)(t:Sem Value)(c:Cfg)(s:Shared)(Q:KV):Prop:=wpAny (model N.prog N.w) A t (ca N c s Q) NoE s
variable {N:Nm} {c:Cfg} {s:Shared} {A:Around} {Q:KV}
theorem Go.trans{X:Addr→Prop}{c₁ c₂:Cfg}{s₁ s₂:Shared}(a:Go N X c s c₁ s₁)(b:Go N X c₁ s₁ c₂ s₂):Go N X c s c₂ s₂:=⟨b.S,a.E.trans b.E,b.g.trans a.g,b.o.trans a.o⟩
theorem Go.up{X:Addr→Prop}{c':Cfg}{s':Shared}(a:Go N NoX c s c' s'):Go N X c s c' s':=⟨a.S,a.E.weaken fun _ z=>z.elim,a.g,a.o⟩
theorem Go.refl{X:Addr→Prop}(S:SR N c s.heap):Go N X c s c s:=⟨S,Evo.refl _ _ _,rfl,rfl⟩
theorem Go.ext{X:Addr→Prop}{s':Shared}(S:SR N c s.heap)(hk:∀b o,s.heap.get? b=some o→s'.heap.get? b=some o)(hg:s'.gens=s.gens:=by rfl)(ho:s'.os=s.os:=by rfl):Go N X c s c s':=⟨S.ext hk,Evo.ext hk,hg,ho⟩
theorem bl{v:Value}{d:PV}{s':Shared}(S:SR N c s.heap)(x:av N c.I v d)(q:Q d c.σ)(hh:s'.heap=s.heap:=by rfl)(hg:s'.gens=s.gens:=by rfl)(ho:s'.os=s.os:=by rfl):ca N c s Q v s':=
 ⟨⟨hh▸S,hh▸Evo.refl _ _ _,hg,ho⟩,x,q⟩
theorem t4{v:Value}{d:PV}{s':Shared}(S:SR N c s.heap)(hk:∀b o,s.heap.get? b=some o→s'.heap.get? b=some o)(x:av N c.I v d)(q:Q d c.σ)(hg:s'.gens=s.gens:=by rfl)(ho:s'.os=s.os:=by rfl):ca N c s Q v s':=
 ⟨.ext S hk hg ho,x,q⟩
theorem ca.trans{c₁:Cfg}{s₁:Shared}{v:Value}{s':Shared}(G:Go N NoX c s c₁ s₁)(x:ca N c₁ s₁ Q v s'):ca N c s Q v s':=by
 cases x with|mk G' r q=>exact⟨G.trans G',r,q⟩
theorem bf(h:Heap):h.get? h.objs.size=none:=by
 cases q:h.get? h.objs.size with
 | none=>rfl
 | some o=>exact absurd (Heap.lt_size q) (Nat.lt_irrefl _)
theorem jN{m:Bool}{a:Addr}{o:Obj}{vs:List Value}{l:List PV}{s':Shared}(S:SR N c s.heap)(x:ar N c.I vs l)(h:cU m l c.σ Q)
  (hk:∀b o,s.heap.get? b=some o→s'.heap.get? b=some o) (hn:s.heap.get? a=none) (e:s'.heap.get? a=some o) (ho:∃n,o=listOf vs.toArray n) (hg:s'.gens=s.gens:=by rfl) (hos:s'.os=s.os:=by rfl):ca N c s Q (.ref a) s':=by
 obtain⟨hz,h⟩:=h;replace ho:fZ o vs:=⟨x.length▸hz,ho⟩
 cases m with
 | false=>
  obtain⟨S',E'⟩:=S.freezeNew (X:=NoX) hk hn e;exact⟨⟨S',E',hg,hos⟩,.list (by show(if a=a then some o else c.I a)=some o;rw[if_pos rfl]) ho (x.mono E'.inc),h⟩
 | true=>
  obtain⟨S',E'⟩:=S.putNew (X:=NoX) (x:=.list l) hk hn (fun _ _ z=>by cases z) ⟨o,vs,e,ho,x⟩;exact⟨⟨S',E',hg,hos⟩,.obj a,h a (S.sto_none hn)⟩
theorem jy{m:Bool}{vs:List Value}{l:List PV}{tk:Nat}{n:Nat}(S:SR N c s.heap)(x:ar N c.I vs l)(h:cU m l c.σ Q):
  ca N c s Q (.ref s.heap.objs.size) {s with heap:=s.heap.push {cls:=.type "list",data:=.seq vs.toArray n},toks:=tk}:=
 jN S x h (fun _ _ e=>Heap.get?_push_of_some _ e) (bf _) (Heap.get?_push_size _ rfl) ⟨n,rfl⟩
theorem cD{h:Heap}{a:Addr}{o:Obj}{vs:List Value}(e:h.get? a=some o)(ho:fZ o vs):h.IsList a vs.toArray:=let⟨_,n,ho⟩:=ho;⟨o,e,by rw[ho],n,by rw[ho]⟩
theorem vk{h:Heap}{a:Addr}{o:Obj}{vs:List Value}(e:h.get? a=some o)(ho:qx o vs):h.IsTuple a vs.toArray:=⟨o,e,ho.2.1,ho.2.2⟩
theorem bX{v:Value}{d:PV}{l:List PV}(S:SR N c s.heap)(x:av N c.I v d)(e:cS c.σ d=some l):∃a vs n,v=.ref a∧s.heap.get? a=some (listOf vs.toArray n)∧ar N c.I vs l∧l.length≤big:=by
 rcases tF e with rfl|⟨a,rfl,q⟩
 ·obtain⟨a,_,vs,rfl,h,⟨hz,n,rfl⟩,x⟩:=x.toL;exact⟨a,vs,n,rfl,S.fr _ _ h,x,x.length▸hz⟩
 ·obtain⟨_,vs,g,⟨hz,n,rfl⟩,r⟩:=S.st a _ q;exact⟨a,vs,n,x.toO,g,r,r.length▸hz⟩
theorem isL{h:Heap}{a:Addr}{vs:List Value}{n:Nat}(e:h.get? a=some (listOf vs.toArray n)):h.IsList a vs.toArray:=⟨_,e,rfl,n,rfl⟩
theorem dA{v:Value}{d:PV}{l:List PV}(S:SR N c s.heap)(x:av N c.I v d)(e:cS c.σ d=some l):∃a vs,v=.ref a∧s.heap.IsList a vs.toArray∧ar N c.I vs l∧l.length≤big:=
 let⟨a,vs,_,e,g,r,z⟩:=bX S x e;⟨a,vs,e,isL g,r,z⟩
theorem g7{v:Value}{l:List PV}(S:SR N c s.heap)(x:av N c.I v (.list l)):∃a vs,v=.ref a∧s.heap.IsList a vs.toArray∧ar N c.I vs l∧l.length≤big:=dA S x rfl
theorem ir{v:Value}{l:List PV}(S:SR N c s.heap)(x:av N c.I v (.tup l)):∃a vs,v=.ref a∧s.heap.IsTuple a vs.toArray∧ar N c.I vs l∧l.length≤big:=
 let⟨a,_,vs,e,h,ho,x⟩:=x.toT;⟨a,vs,e,vk (S.fr _ _ h) ho,x,x.length▸ho.1⟩
theorem pF{l b:Addr}{vs ws:List Value}{Q:Value→Shared→Prop}{E:Value→Shared→Prop}(hl:s.heap.IsList l vs.toArray)(hb:s.heap.IsList b ws.toArray)
  (h:Q (.ref s.heap.objs.size) {s with heap:=s.heap.push {cls:=.type "list",data:=.seq (vs++ws).toArray}}) (hsz:vs.length+ws.length≤sizeLine):
  wpAny (model N.prog N.w) A (binaryOp .Add (.ref l) (.ref b)) Q E s:=by
 obtain⟨⟨cls,dd,data,sl⟩,ho,hc,n,hd⟩:=id hl;obtain⟨⟨cls2,dd2,data2,sl2⟩,ho2,hc2,n2,hd2⟩:=id hb;simp only at hc hd hc2 hd2;subst hc hd hc2 hd2;have e:vs.toArray++ws.toArray=(vs++ws).toArray:=by simp
 refine concat_meets ⟨_,ho,rfl⟩ ⟨_,ho2,rfl⟩ noFill_list_add seq_list_add PySem.F.slot_list_add PySem.F.entry_list_add (PySem.F.args_list_add_2 _ _) (list_addW l b vs.toArray ws.toArray n n2 dd dd2 sl sl2 (by simpa using hsz)) ⟨ho,ho2,?_⟩;rw[e];exact h
theorem qo{l:Addr}{vs:List Value}{x:Int}{u:Tok}{Q:Value→Shared→Prop}{E:Value→Shared→Prop}(hl:s.heap.IsList l vs.toArray)
  (hlo: -(2^63:Int)≤x) (hhi:x<2^63) (hsz:vs.length*x.toNat≤2^24)
  (h:Q (.ref s.heap.objs.size) {s with heap:=s.heap.push {cls:=.type "list",data:=.seq (List.replicate x.toNat vs).flatten.toArray}}):
  wpAny (model N.prog N.w) A (binaryOp .Mult (.ref l) (.int x u)) Q E s:=by
 obtain⟨⟨cls,d,data,sl⟩,ho,hcl,k,hd⟩:=id hl;simp only at hcl hd;subst hcl hd;have hsz':vs.toArray.size*x.toNat≤2^24:=by simpa using hsz
 refine wpAny_binaryOp_repeat_ref (T:="list") (U:="int") (by decide) ⟨_,ho,rfl⟩ (fun s'=>typeIs_int s' x u) noFill_list_mul F.fills_int_mul F.slot_int_rmul repeat_list F.slot_int_index.lookup
  (call_meets F.slot_int_rmul (typeIs_int s x u) F.entry_int_rmul (F.args_int_rmul_2 _ _) (lm_int_rmul_list_any x u l vs.toArray k d sl)
   ⟨ho,rfl,⟨_,ho,rfl⟩,call_meets F.slot_list_mul ⟨_,ho,rfl⟩ F.entry_list_mul (F.args_list_mul_2 _ _)
    (lm_list_mul_any l vs.toArray k d sl x u (by simp[Builtin.List.listFitsIndex];lia) (by lia) (by simp[Builtin.List.listTooLong,sizeLine];lia))
    ⟨ho,?_⟩⟩)
 rw[←listMul_foldl_if]at h;exact h
theorem fG:∀{vs:List Value} {l:List PV} (n:Nat),ar N c.I vs l→ar N c.I (List.replicate n vs).flatten (List.replicate n l).flatten
 | _,_,0,_=>.nil
 | _,_,n+1,x=>by simpa [List.replicate_succ]using x.append (fG n x)
theorem mz{α:Type}(l:List α):∀n,(List.replicate n l).flatten.length=l.length*n
 | 0=>rfl
 | n+1=>by rw[List.replicate_succ,List.flatten_cons,List.length_append,mz l n,Nat.mul_succ,Nat.add_comm]
theorem tL{m:Bool}{v w:Value}{a b:PV}(S:SR N c s.heap)(ha:av N c.I v a)(hb:av N c.I w b)(h:onE c.σ a fun x=>onE c.σ b fun y=>cU m (x++y) c.σ Q):WV N A (binaryOp .Add v w) c s Q:=by
 obtain⟨x,e1,h⟩:=iC h;obtain⟨y,e2,h⟩:=iC h;obtain⟨p,vs,rfl,hl,r,_⟩:=dA S ha e1;obtain⟨q,ws,rfl,hl',r',_⟩:=dA S hb e2;exact pF hl hl' (jy (tk:=s.toks) S (r.append r') h) (by rw[←List.length_append,(r.append r').length];exact h.1)
theorem lK{m:Bool}{v w:Value}{a b:PV}(S:SR N c s.heap)(ha:av N c.I v a)(hb:av N c.I w b)(h:CR m a b c.σ Q):WV N A (binaryOp .Add v w) c s Q:=by
 cases a with
 | int i=>
  obtain⟨j,rfl,h⟩:=cK h;obtain⟨_,rfl⟩:=ha.toI;obtain⟨_,rfl⟩:=hb.toI;exact PyProof.Rows.add_int (bl S (.int _ _) h)
 | _=>exact tL (m:=m) S ha hb h
theorem lq{K:Int→Int→Prop}{v w:Value}{a b:PV}{G:Prop}(ha:av N c.I v a)(hb:av N c.I w b)(h:onI a fun i=>onI b fun j=>K i j)(f:∀i j t u,v=.int i t→w=.int j u→K i j→G):G:=by
 obtain⟨i,e,h⟩:=cK h;obtain⟨j,e',h⟩:=cK h;subst e e';obtain⟨_,e⟩:=ha.toI;obtain⟨_,e'⟩:=hb.toI;exact f _ _ _ _ e e' h
theorem lJ{m:Bool}{v w:Value}{a b:PV}(S:SR N c s.heap)(ha:av N c.I v a)(hb:av N c.I w b)(h:BR m a b c.σ Q):WV N A (binaryOp .Mult v w) c s Q:=by
 cases a with
 | int i=>
  obtain⟨j,rfl,h⟩:=cK h;obtain⟨_,rfl⟩:=ha.toI;obtain⟨_,rfl⟩:=hb.toI;exact PyProof.Rows.mul_int (bl S (.int _ _) h.2.2) (IntMulOk.of_left (intBits_le_64 (by lia) (by lia)))
 | list x=>
  obtain⟨n,rfl,h⟩:=cK h;obtain⟨_,rfl⟩:=hb.toI;obtain⟨p,vs,rfl,hl,r,_⟩:=g7 S ha;have hz:=h.2.2.1;rw[mz]at hz;refine qo hl (by lia) (by lia) (by rw[r.length];exact hz) (jy (tk:=s.toks) S (fG _ r) h.2.2)
 | _=>exact h.elim
noncomputable def yG(N:Nm)(op:Operator)(o:BOp):Prop:=∀{m:Bool} {v w:Value} {a b:PV} {c:Cfg} {s:Shared} {A:Around} {Q:KV},SR N c s.heap→av N c.I v a→av N c.I w b→tO m o a b c.σ Q→WV N A (binaryOp op v w) c s Q
noncomputable def opS(N:Nm)(op:Operator):Option {o:BOp // yG N op o}:=match op with
 | .Add=>some ⟨.add,fun S ha hb h=>lK S ha hb h⟩
 | .Sub=>some ⟨.sub,fun S ha hb h=>lq ha hb h fun _ _ _ _ e e' q=>by subst e e';exact PyProof.Rows.sub_int (bl S (.int _ _) q)⟩
 | .Mult=>some ⟨.mul,fun S ha hb h=>lJ S ha hb h⟩
 | .FloorDiv=>some ⟨.fdiv,fun S ha hb h=>lq ha hb h fun _ _ _ _ e e' q=>by subst e e';exact floordiv_int q.1 (bl S (.int _ _) q.2.2) (.inl (PyProof.noPylong_small q.2.1))⟩
 | .Mod=>some ⟨.mod,fun S ha hb h=>lq ha hb h fun _ _ _ _ e e' q=>by subst e e';exact mod_int q.1 (bl S (.int _ _) q.2)⟩
 | _=>none
structure AOk(A:Around):Prop where
 h:A.handled=none
 u:A.units≤9000
structure yF(r:Bool)(s:Shared)(u:Value)(s':Shared):Prop where
 e:u=.bool r
 hk:∀b o,s.heap.get? b=some o→s'.heap.get? b=some o
 g:s'.gens=s.gens
 o:s'.os=s.os
theorem aR{r r':Bool}{s':Shared}(e:r=r')(hh:s'.heap=s.heap:=by rfl)(hg:s'.gens=s.gens:=by rfl)(ho:s'.os=s.os:=by rfl):yF r' s (.bool r) s':=
 ⟨by rw[e],fun _ _ q=>by rw[hh];exact q,hg,ho⟩
theorem fR{v:PV}{i:Int}(h:asI v=some i):v=.int i:=by cases v<;>first|(cases h;rfl)|cases h
theorem tQ{v:PV}{i:List PV}(h:CN v=some i):v=.list i:=by cases v<;>first|(cases h;rfl)|cases h
theorem jC{I:Addr→Option Obj}{l:List PV}:∀{vs:List Value} {ns:List Int},ar N I vs l→ivs l=some ns→IntsAre vs ns:=by
 induction l with
 | nil=>intro vs ns x e;cases e;cases x.toE;exact .nil
 | cons d l ih=>
  intro vs ns x e;obtain⟨v,ws,rfl,x,y⟩:=x.toC;obtain⟨i,e1,e⟩:=Option.bind_eq_some_iff.mp e;obtain⟨ns,e2,rfl⟩:=Option.map_eq_some_iff.mp e;cases fR e1;obtain⟨t,rfl⟩:=x.toI;exact .cons _ _ (ih y e2)
theorem oO(S:SR N c s.heap){l:List PV}:∀{vs:List Value} {ns:List (List Int)},ar N c.I vs l→oP l=some ns→∃as,ReadsAll s.heap vs (ns.map fun n=>.list (n.map PyData.int)) as:=by
 induction l with
 | nil=>intro vs ns x e;cases e;cases x.toE;exact⟨_,.nil⟩
 | cons d l ih=>
  intro vs ns x e;obtain⟨v,ws,rfl,x,y⟩:=x.toC;obtain⟨k,e1,e⟩:=Option.bind_eq_some_iff.mp e;obtain⟨a,e2,e⟩:=Option.bind_eq_some_iff.mp e;obtain⟨b,e3,rfl⟩:=Option.map_eq_some_iff.mp e;cases tQ e1;obtain⟨as,r⟩:=ih y e3;obtain⟨p,ws,rfl,hl,rr,_⟩:=g7 S x;exact⟨_,.cons (reads_of_ints hl (jC rr e2)) r⟩
theorem kJ:∀ns:List (List Int),PyData.canLayAll0 (ns.map fun n=>.list (n.map PyData.int))=true∧PyData.depthAll (ns.map fun n=>.list (n.map PyData.int))≤3
 | []=>⟨rfl,by decide⟩
 | n::r=>by
  obtain⟨a,b⟩:=kJ r
  have:=ke_depthAll n;refine⟨?_,?_⟩
  ·simp only[List.map_cons,PyData.canLayAll0,PyData.canLay0,canLayAll0_ints,a,Bool.and_self]
  ·simp only[List.map_cons,PyData.depthAll,PyData.depth,this];exact xc (0+1) (PyData.depthAll (List.map (fun n=>PyData.list (List.map PyData.int n)) r)) (fun z0 w0=>ln [_,_] [.l .x0 (.k 3),.e .x1 .x0] .x1 (.k 3) [] rfl b w0) fun z0 w0=>ln [_] [.e .x0 (.a .k0 .k1)] .x0 (.k 3) [] rfl w0
theorem kI:∀ns ms:List (List Int),noMixAll (ns.map fun n=>.list (n.map PyData.int)) (ms.map fun n=>.list (n.map PyData.int))=true
 | [],[]=>rfl
 | [],_::_=>rfl
 | _::_,[]=>rfl
 | a::as,b::bs=>by simp only[List.map_cons,noMixAll,noMix,noMix_ints,kI as bs,Bool.and_self]
theorem mu:∀ns ms:List (List Int),PySem.Spec.sameAll (ns.map fun n=>.list (n.map PyData.int)) (ms.map fun n=>.list (n.map PyData.int))=decide (ns=ms)
 | [],[]=>rfl
 | [],_::_=>rfl
 | _::_,[]=>rfl
 | a::as,b::bs=>by
  simp only[List.map_cons,PySem.Spec.sameAll,PySem.Spec.same,same_ints,mu as bs,List.cons.injEq]
  by_cases h:a=b<;>by_cases h':as=bs<;>simp[h,h']
noncomputable abbrev xX(N:Nm)(A:Around)(s:Shared)(op:CmpOp)(v w:Value)(r:Bool):Prop:=wpAny (model N.prog N.w) A (compareOp op v w) (yF r s) NoE s
structure lx(N:Nm)(A:Around)(s:Shared)(op op':CmpOp)(v w:Value)(r:Bool):Prop where
 y:xX N A s op v w r
 n:xX N A s op' v w (!r)
theorem u6{a b:Addr}{vs ws:List Value}{p q:List Int}(hu:A.units+64<cLine)(hl:s.heap.IsList a vs.toArray)(hl':s.heap.IsList b ws.toArray)(hx:IntsAre vs p)(hy:IntsAre ws q):lx N A s .Eq .NotEq (.ref a) (.ref b) (p==q):=
 ⟨eq_intsK hl hx hl' hy hu (by exact aR (by by_cases e:p=q<;>simp[e])),ne_intsK hl hx hl' hy hu (by exact aR (by by_cases e:p=q<;>simp[e]))⟩
theorem d0(p:List (List Int)):SeqAt.shaped (.list (p.map fun n=>.list (n.map PyData.int)))=true:=by
 obtain⟨f1,f2⟩:=kJ p;unfold SeqAt.shaped;simp only[PyData.canLay0,f1,PyData.depth,Bool.true_and];exact decide_eq_true (Nat.le_trans (Nat.succ_le_succ f2) (by decide))
theorem u5{a b:Addr}{vs ws:List Value}{x y:List PV}{p q:List (List Int)}(hu:A.units+64<cLine)(S:SR N c s.heap)(hl:s.heap.IsList a vs.toArray)(hl':s.heap.IsList b ws.toArray)(hx:ar N c.I vs x)(hy:ar N c.I ws y)(h1:oP x=some p)(h2:oP y=some q):lx N A s .Eq .NotEq (.ref a) (.ref b) (p==q):=by
 obtain⟨as,ra⟩:=oO S hx h1;obtain⟨bs,rb⟩:=oO S hy h2;obtain⟨o,e,hc,n,hd⟩:=hl;obtain⟨o',e',hc',n',hd'⟩:=hl';have R1:=reads_list_at e hc hd ra;have R2:=reads_list_at e' hc' hd' rb;have E:PySem.Spec.same (.list (p.map fun n=>.list (n.map PyData.int))) (.list (q.map fun n=>.list (n.map PyData.int)))=(p==q):=by
  simp only[PySem.Spec.same];rw[mu];by_cases e:p=q<;>simp[e]
 have M:noMix (.list (p.map fun n=>.list (n.map PyData.int))) (.list (q.map fun n=>.list (n.map PyData.int)))=true:=by simp only[noMix];exact kI p q
 exact⟨eq_dataH_same R1 R2 (d0 p) (d0 q) hu M (aR E),ne_dataH_same R1 R2 (d0 p) (d0 q) hu M (aR (congrArg (!·) E))⟩
theorem xt{a b:Addr}{vs:List Value}{x:List PV}(hu:A.units<cLine)(hl:s.heap.IsList a vs.toArray)(hl':s.heap.IsList b ([]:List Value).toArray)(hx:ar N c.I vs x):lx N A s .Eq .NotEq (.ref a) (.ref b) x.isEmpty:=by
 cases x with
 | nil=>
  cases hx.toE;exact⟨eq_listAt (e:=fun _=>true) hl hl' rfl hu (fun j h1=>absurd h1 (Nat.not_lt_zero j)) (aR rfl),RcNeAt.lists (e:=fun _=>true) hl hl' rfl hu (fun j h1=>absurd h1 (Nat.not_lt_zero j)) N.prog N.w NoE _ (aR rfl)⟩
 | cons d l=>
  obtain⟨v,ws,rfl,-,-⟩:=hx.toC;exact⟨eq_list_lengthsAt hl hl' rfl hu (aR rfl),RcNeAt.lists_lengths hl hl' rfl hu N.prog N.w NoE _ (aR rfl)⟩
theorem lF{a b:Addr}{vs ws:List Value}{x y:List PV}{r:Bool}(K:AOk A)(S:SR N c s.heap)(hl:s.heap.IsList a vs.toArray)(hl':s.heap.IsList b ws.toArray)(hx:ar N c.I vs x)(hy:ar N c.I ws y)(h:gv x y=some r):lx N A s .Eq .NotEq (.ref a) (.ref b) r:=by
 have hu:A.units+64<cLine:=by have:=K.u;show A.units+64<9900;exact ln [_] [.l .x0 (.k 9000)] (.a (.a .x0 (.k 64)) .k1) (.k 9900) [] rfl this
 unfold gv at h;cases h1:g5 (ivs x) (ivs y)with
 | some p=>
  rw[h1]at h;cases h;obtain⟨e1,e2⟩:=g0 h1;exact u6 hu hl hl' (jC hx e1) (jC hy e2)
 | none=>
  rw[h1]at h;cases h2:g5 (oP x) (oP y)with
  | some p=>
   rw[h2]at h;cases h;obtain⟨e1,e2⟩:=g0 h2;exact u5 hu S hl hl' hx hy e1 e2
  | none=>
   rw[h2]at h;cases y with
   | cons _ _=>cases h
   | nil=>cases h;cases hy.toE;exact xt (Nat.lt_of_le_of_lt (Nat.le_add_right _ _) hu) hl hl' hx
theorem nD{v w:Value}{a b:PV}{r:Bool}(K:AOk A)(S:SR N c s.heap)(ha:av N c.I v a)(hb:av N c.I w b)(h:pn c.σ a b=some r):lx N A s .Eq .NotEq v w r:=by
 obtain⟨x,h1,h⟩:=Option.bind_eq_some_iff.mp h;obtain⟨y,h2,h⟩:=Option.bind_eq_some_iff.mp h;obtain⟨p,vs,rfl,hl,r1,_⟩:=dA S ha h1;obtain⟨q,ws,rfl,hl',r2,_⟩:=dA S hb h2;exact lF K S hl hl' r1 r2 h
theorem tR{v:PV}{i:Bool}(h:CO v=some i):v=.bool i:=by cases v<;>first|(cases h;rfl)|cases h
theorem tP{v:PV}{i:Nat}(h:CM v=some i):v=.str i:=by cases v<;>first|(cases h;rfl)|cases h
theorem ph{v w:Value}{a b:PV}{r:Bool}(K:AOk A)(S:SR N c s.heap)(ha:av N c.I v a)(hb:av N c.I w b)(h:lR c.σ a b=some r):lx N A s .Eq .NotEq v w r:=by
 cases a with
 | int i=>
  obtain⟨j,e,rfl⟩:=Option.map_eq_some_iff.mp h;cases fR e;obtain⟨_,rfl⟩:=ha.toI;obtain⟨_,rfl⟩:=hb.toI;exact⟨PyProof.Rows.eq_int (aR rfl),PyProof.Rows.ne_int (aR rfl)⟩
 | bool i=>
  obtain⟨j,e,rfl⟩:=Option.map_eq_some_iff.mp h;cases tR e;cases ha.toB;cases hb.toB;exact⟨eq_bool (aR rfl),ne_bool (aR (by cases i<;>cases j<;>rfl))⟩
 | str i=>
  obtain⟨j,e,rfl⟩:=Option.map_eq_some_iff.mp h;cases tP e;obtain⟨hi,_,rfl⟩:=ha.toS;obtain⟨hj,_,rfl⟩:=hb.toS;have e:(N.txt i==N.txt j)=(i==j):=by
   by_cases q:i=j
   ·subst q;rw[beq_self_eq_true,beq_self_eq_true]
   ·rw[beq_eq_false_iff_ne.mpr q,beq_eq_false_iff_ne.mpr fun z=>q (N.txtInj i j hi hj z)]
  exact⟨PyProof.Rows.eq_str (aR e),PyProof.Rows.ne_str (aR (congrArg (!·) e))⟩
 | _=>exact nD K S ha hb h
noncomputable def isI(i:Int)(y:Value):Bool:=match y with| .int j _=>j==i|_=>false
theorem xV{i:Int}{vs:List Value}{ns:List Int}(h:IntsAre vs ns):vs.any (isI i)=ns.contains i:=by
 induction h with
 | nil=>rfl
 | cons n t h ih=>
  rw[List.any_cons,List.contains_cons,ih];exact congrArg (· || _) (Bool.beq_comm (a:=n) (b:=i))
theorem ic{B:Around}{i:Int}{t:Tok}{vs:List Value}{ns:List Int}(h:IntsAre vs ns):∀y,y∈vs.toArray→EqAt B s y (.int i t) (isI i y):=fun y hy=>by
 have hy':y∈vs:=by simpa using hy
 clear hy
 induction h with
 | nil=>cases hy'
 | cons n u h ih=>
  rcases List.mem_cons.mp hy' with rfl|h'
  ·exact EqAt.int_int _ _ _ _
  ·exact ih h'
theorem oW{a:PV}{l:List PV}{vs:List Value}{v:Value}{r:Bool}{I:Addr→Option Obj}{G:Prop}(ha:av N I v a)(hr:ar N I vs l)(h:inL a l=some r)(f:∀i t ns,v=.int i t→IntsAre vs ns→vs.toArray.any (isI i)=r→G):G:=by
 obtain⟨i,e,h⟩:=Option.bind_eq_some_iff.mp h;obtain⟨ns,e1,rfl⟩:=Option.map_eq_some_iff.mp h;cases fR e;obtain⟨_,rfl⟩:=ha.toI;have X:=jC hr e1;exact f _ _ _ rfl X (by rw[←xV X,List.any_toArray])
theorem oS{v w:Value}{a b:PV}{r:Bool}(S:SR N c s.heap)(ha:av N c.I v a)(hb:av N c.I w b)(h:qz c.σ a b=some r):lx N A s .In .NotIn v w r:=by
 have lists:∀{l:List PV},cS c.σ b=some l→inL a l=some r→lx N A s .In .NotIn v w r:=fun{l} e h=>by
  obtain⟨p,vs,rfl,hl,hr,_⟩:=dA S hb e;exact oW ha hr h fun i t ns z X E=>by subst z;exact⟨in_listAt (isI i) hl (ic X) (aR E),notIn_listAt (isI i) hl (ic X) (aR (congrArg (!·) E))⟩
 have other:(cS c.σ b).bind (inL a)=some r→lx N A s .In .NotIn v w r:=fun h=>by
  obtain⟨l,e,h⟩:=Option.bind_eq_some_iff.mp h;exact lists e h
 cases b with
 | tup l=>
  obtain⟨p,vs,rfl,hl,hr,_⟩:=ir S hb;exact oW ha hr h fun i t ns z X E=>by subst z;exact⟨in_tupleAt (isI i) hl (ic X) (aR E),notIn_tupleAt (isI i) hl (ic X) (aR (congrArg (!·) E))⟩
 | _=>exact other h
theorem jb{b:PV}{r r':Bool}(h:cond (isNone b) (some r') Option.none=some r):b=.none∧r'=r:=by
 cases b<;>first|(cases h;exact⟨rfl,rfl⟩)|cases h
theorem oQ{v w:Value}{a b:PV}{r:Bool}(ha:av N c.I v a)(hb:av N c.I w b)(h:qy a b=some r):lx N A s .Is .IsNot v w r:=by
 cases a with
 | none=>obtain⟨rfl,rfl⟩:=jb h;cases ha.toN;cases hb.toN;exact⟨is_none_gen (aR rfl),isNot_none (aR rfl)⟩
 | obj a=>obtain⟨rfl,rfl⟩:=jb h;cases ha.toO;cases hb.toN;exact⟨is_none_gen (aR rfl),isNot_none (aR rfl)⟩
 | _=>cases h
noncomputable def pM(N:Nm)(op:CmpOp)(o:COp):Prop:=∀{v w:Value} {a b:PV} {r:Bool} {c:Cfg} {s:Shared} {A:Around},AOk A→SR N c s.heap→av N c.I v a→av N c.I w b→li o c.σ a b=some r→xX N A s op v w r
theorem nH{f:Int→Int→Bool}{v w:Value}{a b:PV}{r:Bool}{G:Prop}(ha:av N c.I v a)(hb:av N c.I w b)(h:wj f a b=some r)(g:∀i j t u,v=.int i t→w=.int j u→f i j=r→G):G:=by
 obtain⟨i,e,h⟩:=Option.bind_eq_some_iff.mp h;obtain⟨j,e',rfl⟩:=Option.map_eq_some_iff.mp h;cases fR e;cases fR e';obtain⟨_,e⟩:=ha.toI;obtain⟨_,e'⟩:=hb.toI;exact g _ _ _ _ e e' rfl
theorem nG{x:Option Bool}{op op':CmpOp}{v w:Value}{r:Bool}(h:x.map (!·)=some r)(f:∀r',x=some r'→lx N A s op op' v w r'):xX N A s op' v w r:=by
 obtain⟨r',e1,rfl⟩:=Option.map_eq_some_iff.mp h
 exact(f r' e1).n
noncomputable def tK(N:Nm)(op:CmpOp):{o:COp // pM N op o}:=match op with
 | .Eq=>⟨.eq,fun K S ha hb h=>(ph K S ha hb h).y⟩
 | .NotEq=>⟨.ne,fun K S ha hb h=>nG h fun _ e=>ph K S ha hb e⟩
 | .Lt=>⟨.lt,fun _ _ ha hb h=>nH ha hb h fun _ _ _ _ e e' q=>by subst e e';exact PyProof.Rows.lt_int (aR q)⟩
 | .LtE=>⟨.le,fun _ _ ha hb h=>nH ha hb h fun _ _ _ _ e e' q=>by subst e e';exact PyProof.Rows.le_int (aR q)⟩
 | .Gt=>⟨.gt,fun _ _ ha hb h=>nH ha hb h fun _ _ _ _ e e' q=>by subst e e';exact PyProof.Rows.gt_int (aR q)⟩
 | .GtE=>⟨.ge,fun _ _ ha hb h=>nH ha hb h fun _ _ _ _ e e' q=>by subst e e';exact PyProof.Rows.ge_int (aR q)⟩
 | .Is=>⟨.is,fun _ _ ha hb h=>(oQ ha hb h).y⟩
 | .IsNot=>⟨.isnot,fun _ _ ha hb h=>nG h fun _ e=>oQ ha hb e⟩
 | .In=>⟨.isin,fun _ S ha hb h=>(oS S ha hb h).y⟩
 | .NotIn=>⟨.notin,fun _ S ha hb h=>nG h fun _ e=>oS S ha hb e⟩
theorem pP{a:Addr}{vs:List Value}{l l':List PV}{n:Nat}{v:Value}{d:PV}{s':Shared}(S:SR N c s.heap)(q:c.σ a=some (.list l))(hs:Heap.SameBut a s.heap s'.heap)(e:s'.heap.get? a=some (listOf vs.toArray n))(x:ar N c.I vs l')
  (hv:av N c.I v d) (hz:l'.length≤big) (h:Q d (c.σ.set a (.list l'))) (hg:s'.gens=s.gens:=by rfl) (ho:s'.os=s.os:=by rfl):ca N c s Q v s':=by
 obtain⟨S',E'⟩:=S.putL (X:=NoX) (x:=.list l') hs q (fun _ _ z=>by cases z) (fun _ _ z=>by cases z) ⟨_,vs,e,⟨x.length▸hz,n,rfl⟩,x⟩;exact⟨⟨S',E',hg,ho⟩,hv,h⟩
theorem mN{h:Heap}{D:Addr}{vs:List Value}{n:Nat}(e:h.get? D=some (listOf vs.toArray n))(f:Array Value→Array Value):∃n',(h.update D (Obj.mapSeq f)).get? D=some (listOf (f vs.toArray) n'):=by
 have q:=PySem.IsL.update e f;exact⟨_,q⟩
theorem nL{v w:Value}{a b:PV}(S:SR N c s.heap)(ha:av N c.I v a)(hb:av N c.I w b)(h:jJ a b c.σ Q):WV N A (call (.builtin "list.append") [v,w]) c s Q:=by
 obtain⟨p,l,rfl,q,h⟩:=kx h;obtain⟨_,vs,n,rfl,g,r,hz⟩:=bX S ha (jI q);cases ha.toO;refine append_at (hsz:=by rw[List.size_toArray,r.length];exact Nat.le_of_lt h.1) g fun h' hs ho'=>?_
 rw[List.push_toArray]at ho';exact pP S q hs ho' (r.append (.cons hb .nil)) .none (by rw[List.length_append];exact h.1) h.2
theorem nu{v w:Value}{a b:PV}(S:SR N c s.heap)(ha:av N c.I v a)(hb:av N c.I w b)(h:nv a b c.σ Q):WV N A (call (.builtin "list.extend") [v,w]) c s Q:=by
 cases b with
 | list y=>
  obtain⟨p,l,rfl,q,h1,h2⟩:=kx h;obtain⟨_,vs,n,rfl,g,r,hz⟩:=bX S ha (jI q);cases ha.toO;obtain⟨b',ws,n2,rfl,g2,r2,_⟩:=bX S hb (l:=y) rfl;have hz:vs.length+ws.length≤16777216:=by rw[r.length,r2.length];exact h1
  obtain⟨n',e'⟩:=mN g (fun x=>x++ws.toArray);rw[List.append_toArray]at e';refine call_meets PySem.F.slot_list_extend ⟨_,g,rfl⟩ PySem.F.entry_list_extend (PySem.F.args_list_extend_2 _ _) (PySem.AutoSeq1.list_extend_list_list_0 p vs.toArray n b' ws.toArray n2 ?_ ?_ ?_) ⟨g,g2,pP (n:=n') S q (Heap.SameBut.update ..) e' (r.append r2) .none (by rw[List.length_append];exact h1) h2⟩
  ·simp[Builtin.List.listTooLong,sizeLine];intro _;exact hz
  ·rw[List.size_toArray,sizeLine_eq];exact ln [_,_] [.l (.a .x0 .x1) (.k 16777216)] .x0 (.k 16777216) [] rfl hz
  ·rw[List.size_toArray,List.size_toArray,sizeLine_eq];exact ln [_,_] [.l (.a .x0 .x1) (.k 16777216)] (.a .x0 .x1) (.a (.k 16777216) .k1) [] rfl hz
 | _=>exact h.elim
theorem us{k:Int}{n:Nat}(h0:0≤k)(h:k.toNat<n):seqIndex? k n=some k.toNat:=by
 obtain⟨m,rfl⟩:=Int.eq_ofNat_of_zero_le h0;have h:m<n:=h
 show(if(decide ((0:Int)≤if(m:Int)<0 then(m:Int)+n else m)&&decide ((if(m:Int)<0 then(m:Int)+n else m)<n))=true then some ((if(m:Int)<0 then(m:Int)+n else m)).toNat else none)=_;rw[if_neg (Int.not_lt.mpr h0)];exact if_pos (by rw[decide_eq_true h0,decide_eq_true (Int.ofNat_lt.mpr h)];rfl)
theorem sR{v w:Value}{a b:PV}(S:SR N c s.heap)(ha:av N c.I v a)(hb:av N c.I w b)(h:BK a b c.σ Q):WV N A (call (.builtin "list.pop") [v,w]) c s Q:=by
 obtain⟨k,rfl,h⟩:=cK h;obtain⟨p,l,rfl,q,d,h0,h2,h3⟩:=kx h;obtain⟨_,vs,n,rfl,g,r,hz⟩:=bX S ha (jI q);cases ha.toO;obtain⟨_,rfl⟩:=hb.toI;obtain⟨y,hy,ry⟩:=r.getElem h2;have hlt:k.toNat<vs.length:=(List.getElem?_eq_some_iff.mp hy).1;have hz:vs.length≤16777216:=r.length▸hz;obtain⟨n',e'⟩:=mN g (fun x=>x.eraseIdxIfInBounds k.toNat);rw[show(vs.toArray.eraseIdxIfInBounds k.toNat)=(vs.eraseIdx k.toNat).toArray by
  apply Array.toList_inj.mp;simp[Array.eraseIdxIfInBounds,hlt]]at e'
 refine call_meets PySem.F.slot_list_pop ⟨_,g,rfl⟩ PySem.F.entry_list_pop (PySem.F.args_list_pop_2 _ _) (PySem.MeetsSeq.list_pop_at p _ n k _ k.toNat y ?_ ?_ ?_ ?_) ⟨g,pP (n:=n') S q (Heap.SameBut.update ..) e' (r.eraseIdx k.toNat) ry (Nat.le_trans (List.length_eraseIdx_le ..) (r.length▸hz)) h3⟩
 ·simp[Builtin.List.listFitsIndex];exact⟨lz [] [_] [.l .k0 .y0] (.o (.k 9223372036854775808)) .y0 [] rfl h0,lz [_,_] [_] [.l .p01 .x1,.l .x1 (.k 16777216),.l .y0 .x0] (.q 0 1) (.k 9223372036854775808) [] rfl (il hlt) (il hz) tl⟩
 ·rw[List.size_toArray];exact us h0 hlt
 ·rw[List.getElem?_toArray];exact hy
 ·rw[List.size_toArray,sizeLine_eq];exact hz
end Mine
end
section
namespace Mine
open PySem PySem.W PyProof.Rows PySem.Spec PyProof PySem.SeqAt
variable {N:Nm} {c:Cfg} {s:Shared} {A:Around} {Q:KV}
noncomputable def q8(N:Nm)(I:Addr→Option Obj)(v:Value):Option PV→Prop
 | none=>v=.none
 | some d=>av N I v d
theorem q8.mono{I I':Addr→Option Obj}(inc:∀a o,I a=some o→I' a=some o){v:Value}:∀{d:Option PV},q8 N I v d→q8 N I' v d
 | none,h=>h
 | some _,h=>av.mono inc h
theorem qg(vs:List Value)(lo hi:Option Int):slicePick vs.toArray lo hi none=(dp vs (lo.elim 0 (eh vs.length)) (hi.elim vs.length (eh vs.length))).toArray:=by
 rw[slicePick_plain,List.size_toArray];exact congrArg List.toArray List.drop_take.symm
theorem rC{I:Addr→Option Obj}{w:Value}{x:Option PV}{d n:Nat}{K:Nat→Prop}(hx:q8 N I w x)(h:onP n d x K):∃i,IsPart w i∧K (i.elim d (eh n)):=by
 cases x with
 | none=>cases hx;exact⟨none,.none,h⟩
 | some x=>
  obtain⟨i,rfl,h⟩:=cK h;obtain⟨t,rfl⟩:=av.toI hx;exact⟨some i,.int _ _,h⟩
noncomputable def slS(s:Shared)(vl vu w:Value):Shared:={s with heap:=s.heap.push {cls:=.type "slice",data:=.fields #[vl,vu,w]}}
theorem pX{X:Addr→Prop}{vl vu w:Value}(S:SR N c s.heap):Go N X c s c (slS s vl vu w):=.ext S fun _ _ e=>Heap.get?_push_of_some _ e
theorem xZ{vl vu w:Value}{vs:List Value}{l:List PV}(S:SR N c s.heap)(r:ar N c.I vs l)(hz:l.length≤big)(h:Q (.list l) c.σ):ca N c s Q (.ref (slS s vl vu w).heap.objs.size) {slS s vl vu w with heap:=(slS s vl vu w).heap.push {cls:=.type "list",data:=.seq vs.toArray}}:=
 ca.trans (pX S) (jy (s:=slS s vl vu w) (m:=false) (tk:=s.toks) (n:=0) (Q:=Q) (pX (X:=NoX) S).S r ⟨hz,h⟩)
theorem n9{v vl vu:Value}{e:PV}{lo hi:Option PV}(S:SR N c s.heap)(ha:av N c.I v e)(hl:q8 N c.I vl lo)(hu:q8 N c.I vu hi)(h:eT e lo hi c.σ Q):
  wpAny (model N.prog N.w) A (getItem v (.ref s.heap.objs.size)) (ca N c s Q) NoE (slS s vl vu .none):=by
 obtain⟨l,hel,h⟩:=iC h;obtain⟨p,vs,rfl,hp,r,hz⟩:=dA S ha hel;obtain⟨i,pi,h⟩:=rC hl h;obtain⟨j,pj,h⟩:=rC hu h;rw[←r.length]at h hz;refine wpAny_getItem_list_slice (hp.push _) (Heap.IsSliceOf.new ..) pi pj .none (by simp) ?_ (by rw[List.size_toArray];exact hz);rw[qg];refine xZ S ((r.take _).drop _) ?_ h;rw[List.length_drop,List.length_take];exact Nat.le_trans (Nat.sub_le ..) (Nat.le_trans (Nat.min_le_right ..) (r.length▸hz))
theorem sN{v:Value}{l:List PV}{t:Tok}(S:SR N c s.heap)(ha:av N c.I v (.list l))(h:Q (.list l.reverse) c.σ):
  wpAny (model N.prog N.w) A (getItem v (.ref s.heap.objs.size)) (ca N c s Q) NoE (slS s .none .none (.int (-1) t)):=by
 obtain⟨p,vs,rfl,hp,r,hz⟩:=g7 S ha;refine wpAny_getItem_list_slice (hp.push _) (Heap.IsSliceOf.new ..) .none .none (.int (-1) t) (by simp) ?_ (by rw[List.size_toArray,r.length];exact hz);rw[krv_pick];exact xZ S r.reverse (by rw[List.length_reverse];exact hz) h
theorem ti{I:Addr→Option Obj}{k:Int}{d:PV}{kv:List (Int×Value)}{kvs:List (Int×PV)}(h:iq N I kv kvs):(kvs.find? (·.1==k)).map (·.2)=some d→∃v,valueAt kv k=some v∧av N I v d:=by
 induction h with
 | nil=>exact fun h=>by cases h
 | @cons k' v d' es fs x _ ih=>
  unfold valueAt at ih⊢;rw[List.find?_cons,List.find?_cons]
  by_cases q:k'=k
  ·rw[q,decide_eq_true rfl,beq_self_eq_true];exact fun h=>by cases Option.some.inj h;exact⟨v,rfl,x⟩
  ·rw[beq_eq_false_iff_ne.mpr q,decide_eq_false q];exact ih
theorem vd{I:Addr→Option Obj}{k:Int}{kv:List (Int×Value)}{kvs:List (Int×PV)}(h:iq N I kv kvs):kv.any (fun e=>e.1=k)=kvs.any (·.1==k):=by
 induction h with
 | nil=>rfl
 | cons _ _ ih=>rw[List.any_cons,List.any_cons,ih];congr 1
theorem ja{I:Addr→Option Obj}{kv:List (Int×Value)}{kvs:List (Int×PV)}(h:iq N I kv kvs):kv.length=kvs.length:=by
 induction h with
 | nil=>rfl
 | cons _ _ ih=>exact congrArg (· + 1) ih
theorem oJ{I:Addr→Option Obj}{kv kv':List (Int×Value)}{kvs kvs':List (Int×PV)}(h:iq N I kv kvs)(z:iq N I kv' kvs'):iq N I (kv++kv') (kvs++kvs'):=by
 induction h with
 | nil=>exact z
 | cons x _ ih=>exact .cons x ih
theorem n5{k:Int}{t:Tok}{p:Addr}{vs:List Value}{l:List PV}(S:SR N c s.heap)(hp:s.heap.IsList p vs.toArray)(r:ar N c.I vs l)(hz:l.length≤big)(h:∃d,kM l k=some d∧Q d c.σ):WV N A (getItem (.ref p) (.int k t)) c s Q:=by
 obtain⟨d,hd,hq⟩:=h;have hz':l.length≤16777216:=hz;rw[←r.length]at hz';unfold kM at hd;rw[←r.length]at hd
 by_cases hk:k<0
 ·rw[if_pos hk]at hd
  by_cases hk':k+vs.length<0
  ·rw[if_pos hk']at hd;cases hd
  ·rw[if_neg hk']at hd;obtain⟨y,hy,ry⟩:=r.getElem hd;exact wpAny_getItem_list_neg hp hk (by rw[List.size_toArray];exact lz [_] [_] [.l .k0 (.a .y0 .x0)] (.o .x0) .y0 [] rfl (Int.not_lt.mp hk')) (by lia) (by rw[List.size_toArray,List.getElem?_toArray];exact hy) (bl S ry hq)
 ·rw[if_neg hk]at hd;obtain⟨y,hy,ry⟩:=r.getElem hd;have hlt:k.toNat<vs.length:=(List.getElem?_eq_some_iff.mp hy).1;exact wpAny_getItem_list hp (by exact(Int.not_lt.mp hk)) (by lia) (by rw[List.getElem?_toArray];exact hy) (bl S ry hq)
theorem wP{k:Int}{t:Tok}{v:Value}{l:List PV}(S:SR N c s.heap)(ha:av N c.I v (.tup l))(h:∃d,0≤k∧l[k.toNat]? = some d∧Q d c.σ):WV N A (getItem v (.int k t)) c s Q:=by
 obtain⟨d,h0,hd,hq⟩:=h;obtain⟨p,vs,rfl,hp,r,hz⟩:=ir S ha;obtain⟨y,hy,ry⟩:=r.getElem hd;have hz':l.length≤16777216:=hz;rw[←r.length]at hz';have hlt:k.toNat<vs.length:=(List.getElem?_eq_some_iff.mp hy).1;exact PyProof.Rows.getItem_tuple (j:=k.toNat) hp (by lia) (by lia) (by rw[List.size_toArray];exact us h0 hlt) (by rw[List.getElem?_toArray];exact hy) (bl S ry hq)
theorem uc{k:Int}{t:Tok}{p:Addr}{kvs:List (Int×PV)}(S:SR N c s.heap)(q:c.σ p=some (.dict kvs))(h:∃d,(kvs.find? (·.1==k)).map (·.2)=some d∧Q d c.σ):WV N A (getItem (.ref p) (.int k t)) c s Q:=by
 obtain⟨d,hd,hq⟩:=h;obtain⟨z,kv,hD,r⟩:=S.st p _ q;obtain⟨v,hv,rv⟩:=ti r hd;exact wpAny_getItem_of (knd:=intKind N.prog N.w) (k:=k) (by simp[intKind,Value.isInt]) hD.mapOf hv (bl S rv hq)
theorem lB{k:Int}{t:Tok}{p:Addr}(S:SR N c s.heap)(h:wV (c.σ p) k fun v=>Q v c.σ):WV N A (getItem (.ref p) (.int k t)) c s Q:=by
 cases e:c.σ p with
 | none=>rw[e]at h;exact h.elim
 | some o=>
  rw[e]at h;cases o with
  | dict kvs=>exact uc S e h
  | list l=>
   obtain⟨o,vs,g,ho,r⟩:=S.st p _ e;exact n5 S (cD g ho) r (r.length▸ho.1) h
  | _=>exact h.elim
theorem sF{v w:Value}{a b:PV}(S:SR N c s.heap)(ha:av N c.I v a)(hb:av N c.I w b)(h:iu a b c.σ Q):WV N A (getItem v w) c s Q:=by
 obtain⟨k,rfl,h⟩:=cK h;obtain⟨t,rfl⟩:=hb.toI;cases a with
 | tup l=>exact wP S ha h
 | obj p=>cases ha.toO;exact lB S h
 | list l=>
  obtain⟨p,vs,rfl,hp,r,hz⟩:=g7 S ha;exact n5 S hp r hz h
 | _=>exact h.elim
inductive pH(N:Nm)(c:Cfg)(s:Shared)(Q:Sto→Prop)(_:Unit)(s':Shared):Prop
 | mk {c':Cfg} (G:Go N NoX c s c' s') (q:Q c'.σ)
theorem kZ{v w u:Value}{a:Nat}{k:Int}{d:PV}{kvs:List (Int×PV)}{Q:Sto→Prop}(S:SR N c s.heap)(ha:av N c.I v (.obj a))(hb:av N c.I w (.int k))(hd:av N c.I u d)
  (q:c.σ a=some (.dict kvs)) (hn:kvs.any (·.1==k)=false) (hz:kvs.length<big) (h:Q (c.σ.set a (.dict (kvs++[(k,d)])))):
  wpAny (model N.prog N.w) A (setItem v w u) (pH N c s Q) NoE s:=by
 cases ha.toO;obtain⟨_,rfl⟩:=hb.toI;obtain⟨z,kv,hD,r⟩:=S.st a _ q;have hl:=ja r;refine wpAny_setItem_pairs (knd:=intKind N.prog N.w) (k:=k) (by simp[intKind,Value.isInt]) hD (fun h' hD' hs=>?_) (by rw[hl];exact Nat.le_of_lt hz);have e:stored kv k u=kv++[(k,u)]:=by
  unfold stored;rw[vd r,hn];rfl
 rw[e]at hD';obtain⟨S',E'⟩:=S.putL (X:=NoX) (x:=.dict (kvs++[(k,d)])) hs q (fun _ _ z=>by cases z) (fun _ _ z=>by cases z) ⟨z,_,hD',oJ r (.cons hd .nil)⟩;exact⟨⟨S',E',rfl,rfl⟩,h⟩
theorem pZ{l sl:Addr}{vs ws:List Value}{n m:Nat}{b:Addr}{i j:Int}{t t':Tok}{Q:Unit→Shared→Prop}{E:Value→Shared→Prop}(hl:s.heap.get? l=some (listOf vs.toArray n))(hb:s.heap.get? b=some (listOf ws.toArray m))
  (hs:s.heap.IsSliceOf sl (.int i t) (.int j t') .none) (h0:0≤i) (hij:i≤j) (hj:j≤vs.length) (hne:l≠b) (hz:vs.length+ws.length≤sizeLine)
  (h:∀h' n',h'.get? l=some (listOf (vs.take i.toNat++ws++vs.drop j.toNat).toArray n')→Heap.SameBut l s.heap h'→Q () {s with heap:=h'}):
  wpAny (model N.prog N.w) A (setItem (.ref l) (.ref sl) (.ref b)) Q E s:=by
 have hL:s.heap.IsList l vs.toArray:=⟨_,hl,rfl,n,rfl⟩
 obtain⟨os,hos,hcs,hds⟩:=id hs;have hTs:s.TypeIs (.ref sl) "slice":=⟨os,hos,hcs⟩
 unfold setItem
 try with_reducible refine wpAny_holding ?_
 refine wpAny_bind (wpAny_sequenceKey hL.typeIs (by decide) ?_);refine wpAny_bind (wpAny_callSpecial?_slot (name:=Str.ofString "__setitem__") hL.typeIs slot_list_setitem
  (wpAny_call_entry slot_list_setitem hL.typeIs entry_list_setitem ?_ (args_list_setitem _ _ _)))
 show wpAny _ _ (Builtin.List.listSubscript? (.ref sl)>>=_) _ _ s;refine wpAny_bind ?_;unfold Builtin.List.listSubscript?;refine wpAny_bind (wpAny_specialOf hTs slice_no_index ?_);refine wpAny_ite_true rfl (wpAny_pure ?_);show wpAny _ _ (typeOf (.ref sl)>>=_) _ _ s;refine wpAny_bind (wpAny_typeOf hTs (wpAny_ite_false rfl ?_));rw[listSliceParts_eq];refine wpAny_bind (wpAny_bind (wpAny_field hos hds (x:=.none) rfl (wpAny_bind (wpAny_listPart .none (wpAny_ite_false rfl ?_)))));refine wpAny_bind (wpAny_field hos hds (x:=.int i t) rfl (wpAny_bind (wpAny_listPart (.int i t) ?_)));refine wpAny_bind (wpAny_field hos hds (x:=.int j t') rfl (wpAny_bind (wpAny_listPart (.int j t') (wpAny_pure ?_))));have hsame:Builtin.List.listSameRef (.ref l) (.ref b)=false:=beq_eq_false_iff_ne.mpr hne;have items:∀{a:Addr} {xs:List Value} {k:Nat} {R:Array Value→Shared→Prop},s.heap.get? a=some (listOf xs.toArray k)→R xs.toArray s→wpAny (model N.prog N.w) A.in1 (Builtin.List.listItems (.ref a)) R E s:=by
  intro a xs k R hx hr;unfold Builtin.List.listItems;exact wpAny_bind (wpAny_seqItems hx rfl (wpAny_pure hr))
 refine wpAny_ite_false (by rw[hsame];rfl) ?_;unfold Builtin.List.listAllItems;refine wpAny_bind (wpAny_bind (wpAny_typeOf (T:="list") ⟨_,hb,rfl⟩ (wpAny_ite_true rfl ?_)));refine items hb ?_;refine wpAny_bind (items hl ?_);rw[sliceIndices_raw _ _ _ _ (by simp)];have e:sliceBounds (some i) (some j) none vs.toArray.size=(i,j,1):=by
  rw[sliceBounds_plain,List.size_toArray];have h1:=clipAt_cast vs.length i;have h2:=clipAt_cast vs.length j;rw[if_neg (by lia)]at h1 h2
  show(((clipAt vs.length i:Nat):Int),((clipAt vs.length j:Nat):Int),(1:Int))=_;rw[h1,h2];congr 1
  ·exact xcz (0) (min i ↑vs.length) (fun z0 w0=>mcz (i) (↑vs.length) (fun z1 w1=>lze [] [_,_,_] [.e .y1 .y2,.e .y2 .y0,.f .y1 .y2,.f .y2 .y0] .y1 .y0 [1,1,0,0] [0,0] rfl rfl w0 w1 w0 w1) fun z1 w1=>lze [_] [_,_,_,_] [.e .y2 .y3,.l .x0 .y0,.e .y3 .x0,.l .y0 .y1,.l .y1 .x0,.f .y2 .y3,.f .y3 .x0] .y2 .y0 [1,1,1,0,0,0,0] [0,0,0] rfl rfl w0 z1 w1 hij hj w0 w1) fun z0 w0=>mcz (i) (↑vs.length) (fun z1 w1=>lze [] [_,_,_] [.l .k0 .y0,.e .y1 .k0,.l .y2 .k0,.f .y1 .k0,.f .y2 .y0] .y1 .y0 [1,1,0,0,0] [0,0] rfl rfl h0 w0 z0 w0 w1) fun z1 w1=>lze [_] [_,_,_,_] [.l .k0 .y0,.e .y2 .k0,.l .y0 .y1,.l .y1 .x0,.l .y3 .k0,.f .y2 .k0,.f .y3 .x0] .y2 .y0 [1,1,0,0,0,0,0] [0,0] rfl rfl h0 w0 hij hj z0 w0 w1
  ·congr 1;exact xcz (0) (min j ↑vs.length) (fun z0 w0=>mcz (j) (↑vs.length) (fun z1 w1=>lze [] [_,_,_] [.e .y1 .y2,.e .y2 .y0,.f .y1 .y2,.f .y2 .y0] .y1 .y0 [1,1,0,0] [0,0] rfl rfl w0 w1 w0 w1) fun z1 w1=>lze [_] [_,_,_] [.e .y1 .y2,.l .x0 .y0,.e .y2 .x0,.l .y0 .x0,.f .y1 .y2,.f .y2 .x0] .y1 .y0 [1,1,1,0,0,0] [0,0,0] rfl rfl w0 z1 w1 hj w0 w1) fun z0 w0=>mcz (j) (↑vs.length) (fun z1 w1=>lze [] [_,_,_,_] [.l .k0 .y0,.l .y0 .y1,.e .y2 .k0,.l .y3 .k0,.f .y2 .k0,.f .y3 .y1] .y2 .y1 [1,1,1,0,0,0] [0,0,0] rfl rfl h0 hij w0 z0 w0 w1) fun z1 w1=>lze [_] [_,_,_,_] [.l .k0 .y0,.l .y0 .y1,.e .y2 .k0,.l .y1 .x0,.l .y3 .k0,.f .y2 .k0,.f .y3 .x0] .y2 .y1 [1,1,1,0,0,0,0] [0,0,0] rfl rfl h0 hij w0 hj z0 w0 w1
 rw[e];refine wpAny_bind (wpAny_pure (wpAny_ite_true rfl (wpAny_bind (wpAny_rule ?_))));have hz':vs.length+ws.length≤16777216:=hz;rw[if_neg (by unfold Builtin.List.listTooLong;rw[List.size_toArray,List.size_toArray,sizeLine_eq];exact fun q=>by have:=of_decide_eq_true q;exact lnf _ [_,_] [.l (.a .x0 .x1) (.k 16777216),.l (.k 16777217) (.a .x0 .x1)] [] rfl hz' this)];refine wpAny_bind (wpAny_updateSeq (hz:=by rw[List.size_toArray,sizeLine_eq];exact ln [_,_] [.l (.a .x0 .x1) (.k 16777216)] .x0 (.k 16777216) [] rfl hz') (_hz':=by rw[sizeLine_eq];simp only[Array.size_append,Array.size_extract,List.size_toArray];exact sc (min i.toNat vs.length) (0) (fun z0 w0=>sc (min vs.length vs.length) ((max i j).toNat) (fun z1 w1=>io (lz [_,_,_,_,_,_,_,_] [_,_] [.l (.a .x0 .x1) (.k 16777216),.e (.a .x2 .k0) .x4,.e (.a .x3 .x6) .x5,.l .x4 (.x 7),.l .x5 .x0,.l .y1 .x6,.l .y0 .y1,.e (.x 7) .y0] (.a (.a .x2 .x1) .x3) (.a (.k 16777216) .k1) [] rfl (il hz') (ie w0) (ie w1) (il (Nat.min_le_left _ _)) (il (Nat.min_le_left _ _)) tl (Int.le_max_left _ _) (tn h0))) fun z1 w1=>ln [_,_,_,_,_] [.l (.a .x0 .x1) (.k 16777216),.e (.a .x2 .k0) .x4,.e .x3 .k0,.l .x4 .x0] (.a (.a .x2 .x1) .x3) (.a (.k 16777216) .k1) [] rfl hz' w0 w1 (Nat.min_le_right _ _)) fun z0 w0=>ln [_,_,_,_,_] [.l (.a .x0 .x1) (.k 16777216),.e .x2 .k0,.l .x3 .x4,.l .x4 .x0] (.a (.a .x2 .x1) .x3) (.a (.k 16777216) .k1) [] rfl hz' w0 sb (Nat.min_le_left _ _)) hl rfl ?_);refine wpAny_bind (wpAny_letGo ?_);obtain⟨n',e'⟩:=mN hl (fun xs=>xs.extract 0 i.toNat++ws.toArray++xs.extract (max i j).toNat);refine wpAny_pure ⟨.none,rfl,wpAny_pure (h _ n' ?_ (Heap.SameBut.update ..))⟩;rw[e'];congr 2;rw[show max i j=j by exact xcz (i) (j) (fun z0 w0=>lze [] [_,_] [.e .y1 .y0,.f .y1 .y0] .y1 .y0 [1,0] [0] rfl rfl w0 w0) fun z0 w0=>lze [] [_,_,_] [.l .y0 .y1,.e .y2 .y0,.l .y1 .y0,.f .y2 .y0] .y2 .y1 [1,1,0,0] [0,0] rfl rfl hij w0 z0 w0];simp;exact List.take_of_length_le (by simp)
theorem j7{v y:Value}{a:Nat}{i j:Int}{t t':Tok}{l m:List PV}{Q:Sto→Prop}(S:SR N c s.heap)(ha:av N c.I v (.obj a))(hd:av N c.I y (.list m))
  (q:c.σ a=some (.list l)) (h0:0≤i) (hij:i≤j) (hj:j≤l.length) (hz:l.length+m.length≤big) (h:Q (c.σ.set a (.list (l.take i.toNat++m++l.drop j.toNat)))):
  wpAny (model N.prog N.w) A (setItem v (.ref s.heap.objs.size) y) (pH N c s Q) NoE (slS s (.int i t) (.int j t') .none):=by
 cases ha.toO;obtain⟨o,vs,g,⟨_,n,rfl⟩,r⟩:=S.st a _ q;obtain⟨b,o2,ws,rfl,g2,⟨_,n2,rfl⟩,r2⟩:=hd.toL;rw[←r.length]at hj hz;rw[←r2.length]at hz;have G1:=pX (X:=NoX) (vl:=.int i t) (vu:=.int j t') (w:=.none) S;have hk:∀b o,s.heap.get? b=some o→(slS s (.int i t) (.int j t') .none).heap.get? b=some o:=fun _ _ e=>Heap.get?_push_of_some _ e
 have hne:a≠b:=fun e=>by
  subst e
  have:c.I a=none:=S.ni a (.inl (by rw[q];exact fun z=>by cases z));rw[this]at g2;cases g2
 refine pZ (t:=t) (t':=t') (hk _ _ g) (hk _ _ (S.fr _ _ g2)) (Heap.IsSliceOf.new ..) h0 hij hj hne hz fun h' n' e hs=>?_
 obtain⟨S',E'⟩:=G1.S.putL (X:=NoX) (x:=.list (l.take i.toNat++m++l.drop j.toNat)) hs q (fun _ _ z=>by cases z) (fun _ _ z=>by cases z) ⟨_,_,e,⟨by
  have hz:vs.length+ws.length≤16777216:=hz;show _≤16777216;rw[List.length_append,List.length_append,List.length_take,List.length_drop];exact io (lz [_,_,_,_,_,_] [_,_] [.l .y0 .y1,.l (.a .x0 .x1) (.k 16777216),.l .x2 .x4,.l .y1 .x5,.e .x4 .y0,.e (.a .x3 .x5) .x0] (.a (.a .x2 .x1) .x3) (.k 16777216) [] rfl hij (il hz) (il (Nat.min_le_left _ _)) tl (tn h0) (ie (su (io (lz [_,_] [_] [.l .y0 .x0,.e .x1 .y0] .x1 .x0 [] rfl hj (tn (lz [] [_,_] [.l .k0 .y0,.l .y0 .y1] .k0 .y1 [] rfl h0 hij))))))),n',rfl⟩,((r.take _).append r2).append (r.drop _)⟩
 exact⟨⟨S',G1.E.trans E',rfl,rfl⟩,h⟩
theorem u7{vs:List Value}{l:List PV}{v:Value}(S:SR N c s.heap)(r:ar N c.I vs l)(hz:l.length≤big)(h:Q (.int l.length) c.σ)(f:(vs.toArray.size:Int)<2^63→ca N c s Q (.int (vs.toArray.size:Nat) (s.toks+1)) {s with toks:=s.toks+1+1}→WV N A (call (.builtin "len") [v]) c s Q):WV N A (call (.builtin "len") [v]) c s Q:=by
 rw[←r.length]at h hz;have hz:vs.length≤16777216:=hz;refine f (by rw[List.size_toArray];lia) (bl S ?_ h);rw[List.size_toArray];exact .int _ _
theorem sY{v:Value}{d:PV}(S:SR N c s.heap)(ha:av N c.I v d)(h:BW d c.σ Q):WV N A (call (.builtin "len") [v]) c s Q:=by
 have lists:(onE c.σ d fun l=>Q (.int l.length) c.σ)→WV N A (call (.builtin "len") [v]) c s Q:=fun h=>by
  obtain⟨l,e,h⟩:=iC h;obtain⟨p,vs,rfl,hp,r,hz⟩:=dA S ha e;exact u7 S r hz h fun z q=>PyProof.Rows.len_list hp z q
 cases d with
 | tup l=>
  obtain⟨p,vs,rfl,hp,r,hz⟩:=ir S ha;exact u7 S r hz h fun z q=>PyProof.Rows.len_tuple hp z q
 | _=>exact lists h
theorem sV{v w:Value}{a b:PV}(K:AOk A)(S:SR N c s.heap)(ha:av N c.I v a)(hb:av N c.I w b)(h:onI a fun i=>onI b fun j=>Q (.int (min i j)) c.σ):WV N A (call (.builtin "min") [v,w]) c s Q:=
 lq ha hb h fun i j _ _ e e' q=>by
  subst e e';refine min_two_ints K.h fun h' tk hk=>t4 S hk ?_ q
  split
  ·rw[show min i j=j from Int.min_eq_right (Int.le_of_lt ‹_›)];exact .int _ _
  ·rw[show min i j=i from Int.min_eq_left (Int.not_lt.mp ‹_›)];exact .int _ _
theorem sW{v w:Value}{a b:PV}(K:AOk A)(S:SR N c s.heap)(ha:av N c.I v a)(hb:av N c.I w b)(h:onI a fun i=>onI b fun j=>Q (.int (max i j)) c.σ):WV N A (call (.builtin "max") [v,w]) c s Q:=
 lq ha hb h fun i j _ _ e e' q=>by
  subst e e';refine max_two_ints K.h fun h' tk hk=>t4 S hk ?_ q
  split
  ·rw[show max i j=j from Int.max_eq_right (Int.le_of_lt ‹_›)];exact .int _ _
  ·rw[show max i j=i from Int.max_eq_left (Int.not_lt.mp ‹_›)];exact .int _ _
theorem tU{v:Value}{a:PV}(S:SR N c s.heap)(ha:av N c.I v a)(h:onI a fun i=>Q (.int i.natAbs) c.σ):WV N A (call (.builtin "abs") [v]) c s Q:=by
 obtain⟨i,rfl,h⟩:=cK h;obtain⟨t,rfl⟩:=ha.toI;refine call_abs_int fun u tk=>bl S ?_ h
 split
 ·rw[show((i.natAbs:Nat):Int)= -i from Int.ofNat_natAbs_of_nonpos (Int.le_of_lt ‹_›)];exact .int _ _
 ·rw[show((i.natAbs:Nat):Int)=i from Int.natAbs_of_nonneg (Int.not_lt.mp ‹_›)];exact .int _ _
theorem qP{v:Value}{d:PV}(S:SR N c s.heap)(ha:av N c.I v d)(h:onE c.σ d fun l=>Q (.list l) c.σ):WV N A (call (.type "list") [v]) c s Q:=by
 obtain⟨l,e,h⟩:=iC h;obtain⟨a,vs,n,rfl,g,r,hz⟩:=bX S ha e;exact call_list_seq (T:="list") a (.inl rfl) g rfl rfl (fun h' c' hk e'=>jN (m:=false) S r ⟨hz,h⟩ hk (bf _) e' ⟨c',rfl⟩) (by rw[List.size_toArray,r.length];exact hz)
end Mine
end
section
namespace Mine
open PySem PySem.W PyProof.Rows PySem.Spec PyProof PySem.SeqAt
noncomputable def ck(s:List (Str×Value))(x:Str×Value):List (Str×Value):=if(s.lookup x.1).isNone then s++[x]else s
theorem lV(f:Str×Value→List (Str×Value)→Sem (ForInStep (List (Str×Value))))(hf:∀x s,f x s=pure (.yield (ck s x))):∀(l s:List (Str×Value)),forIn l s f=pure (l.foldl ck s)
 | [],s=>by rw[List.forIn_nil];rfl
 | x::l,s=>by rw[List.forIn_cons,hf,pure_bind];exact lV f hf l _
theorem cw(n:Str):∀l:List (Str×Value),(l.lookup n).isSome=true↔n∈l.map (·.1)
 | []=>by simp
 | (m,v)::l=>by
  rw[List.lookup_cons]
  by_cases h:n=m
  ·subst h;simp
  ·rw[beq_eq_false_iff_ne.mpr h];simp[h,cw n l]
theorem bW:∀(a:List Str) (b:List Value),(a.zip b).map (·.1)=a.take b.length
 | [],b=>by simp
 | _::_,[]=>by simp
 | x::a,y::b=>by simp[bW a b]
theorem jZ:∀(l s:List (Str×Value)),(∀x∈l,x.1∈s.map (·.1))→l.foldl ck s=s
 | [],_,_=>rfl
 | x::l,s,h=>by
  have e:ck s x=s:=by
   unfold ck
   have:=(cw x.1 s).mpr (h x (List.mem_cons_self ..));rw[if_neg];cases q:s.lookup x.1<;>simp_all
  rw[List.foldl_cons,e];exact jZ l s fun y hy=>h y (List.mem_cons_of_mem _ hy)
theorem jY:∀(l s:List (Str×Value)),(l.map (·.1)).Nodup→(∀x∈l,x.1∉s.map (·.1))→l.foldl ck s=s++l
 | [],s,_,_=>by simp
 | x::l,s,hn,h=>by
  have e:ck s x=s++[x]:=by
   unfold ck
   have:=mt (cw x.1 s).mp (h x (List.mem_cons_self ..));rw[if_pos];cases q:s.lookup x.1<;>simp_all
  rw[List.map_cons,List.nodup_cons]at hn;rw[List.foldl_cons,e,jY l _ hn.2 fun y hy=>by
   rw[List.map_append,List.mem_append]
   rintro(q|q)
   ·exact h y (List.mem_cons_of_mem _ hy) q
   ·simp at q;exact hn.1 (q▸List.mem_map_of_mem hy)]
  simp
theorem gi:∀(ns:List Str) (vs:List Value) (s:List (Str×Value)),ns.Nodup→ns.length=vs.length→(∀n∈ns,(s++ns.zip vs).lookup n=(ns.zip vs).lookup n)→
  ns.filterMap (fun n=>((s++ns.zip vs).lookup n).map (n,·))=ns.zip vs
 | [],_,_,_,_,_=>rfl
 | n::ns,[],_,_,h,_=>by cases h
 | n::ns,v::vs,s,hn,h,hs=>by
  rw[List.nodup_cons]at hn;have e0:(s++(n::ns).zip (v::vs)).lookup n=some v:=by rw[hs n (List.mem_cons_self ..)];simp
  rw[List.filterMap_cons,e0];have ih:=gi ns vs (s++[(n,v)]) hn.2 (by simpa using h) (fun m hm=>by
   have:=hs m (List.mem_cons_of_mem _ hm);rw[List.zip_cons_cons]at this;rw[List.append_assoc]
   show(s++(n,v)::ns.zip vs).lookup m=_;rw[this,List.lookup_cons,beq_eq_false_iff_ne.mpr (fun z:m=n=>hn.1 (by rw[←z];exact hm))])
  rw[List.append_assoc]at ih;exact congrArg ((n,v)::·) ih
theorem pW{ns:List Str}{vals ds:List Value}(hn:ns.Nodup)(hl:vals.length≤ns.length)(hm:ds.length≤ns.length)(hk:ns.length≤vals.length+ds.length):
  ((ns.drop (ns.length-ds.length)).zip ds).foldl ck (ns.zip vals)=ns.zip (vals++ds.drop (vals.length+ds.length-ns.length)):=by
 have e1:ns.drop (ns.length-ds.length)=(ns.drop (ns.length-ds.length)).take (vals.length+ds.length-ns.length)++ns.drop vals.length:=by
  conv=>lhs;rw[←List.take_append_drop (vals.length+ds.length-ns.length) (ns.drop (ns.length-ds.length))]
  rw[List.drop_drop];congr 2;exact lne [_,_,_,_,_] [.e (.a .x3 .x2) .x1,.e (.a .x4 .x1) (.a .x0 .x2),.f (.a .x3 .x2) .x1,.f (.a .x4 .x1) (.a .x0 .x2)] (.a .x3 .x4) .x0 [1,1,0,0] [0,0] rfl rfl (su hm) (su hk) (su hm) (su hk)
 have e2:ds=ds.take (vals.length+ds.length-ns.length)++ds.drop (vals.length+ds.length-ns.length):=(List.take_append_drop ..).symm;have e3:(ns.drop (ns.length-ds.length)).zip ds=((ns.drop (ns.length-ds.length)).take (vals.length+ds.length-ns.length)).zip (ds.take (vals.length+ds.length-ns.length))++(ns.drop vals.length).zip (ds.drop (vals.length+ds.length-ns.length)):=
  (congr (congrArg List.zip e1) e2).trans (List.zip_append (by simp only[List.length_take,List.length_drop];exact mc (vals.length+ds.length-ns.length) (ns.length-(ns.length-ds.length)) (fun z0 w0=>mc (vals.length+ds.length-ns.length) (ds.length) (fun z1 w1=>lne [_,_,_] [.e .x0 .x2,.f .x1 .x2,.f .x0 .x2,.e .x1 .x2] .x0 .x1 [1,1,0,0] [0,0] rfl rfl w0 w1 w0 w1) fun z1 w1=>lne [_,_,_,_,_,_] [.l .x0 .x1,.e .x3 .x5,.f .x4 .x2,.e (.a .x5 .x1) (.a .x0 .x2),.f .x3 .x5,.l .x2 .x5,.e .x4 .x2] .x3 .x4 [1,1,1,1,0,0,0] [0,0,0,0] rfl rfl hl w0 w1 (su hk) w0 z1 w1) fun z0 w0=>mc (vals.length+ds.length-ns.length) (ds.length) (fun z1 w1=>lne [_,_,_,_,_,_,_] [.l .x5 .x4,.e .x2 .x5,.f .x3 .x4,.f .x2 .x5,.l .x4 .x1,.e .x3 .x4,.f (.a .x5 .x6) .x0,.e (.a .x6 .x1) .x0] .x2 .x3 [1,1,1,0,0,0,0,0] [0,0,0] rfl rfl z0 w0 w1 w0 z1 w1 (su sb) (su hm)) fun z1 w1=>lne [_,_,_,_,_,_,_,_] [.l .x0 .x1,.l .x6 .x5,.e .x3 .x6,.f .x4 .x2,.e (.a .x5 .x1) (.a .x0 .x2),.f .x3 .x6,.e .x4 .x2,.f (.a .x6 (.x 7)) .x1,.e (.a (.x 7) .x2) .x1] .x3 .x4 [1,1,1,1,1,0,0,0,0] [0,0,0,0,0] rfl rfl hl z0 w0 w1 (su hk) w0 w1 (su sb) (su hm)))
 have e4:ns.zip vals=(ns.take vals.length).zip vals:=by
  refine(congr (congrArg List.zip (List.take_append_drop vals.length ns).symm) (List.append_nil vals).symm).trans ((List.zip_append (by simp only[List.length_take];exact mc (vals.length) (ns.length) (fun z0 w0=>lne [_,_] [.e .x1 .x0,.f .x1 .x0] .x1 .x0 [1,0] [0] rfl rfl w0 w0) fun z0 w0=>lne [_,_,_] [.l .x1 .x0,.e .x2 .x1,.l .x0 .x1,.f .x2 .x1] .x2 .x0 [1,1,0,0] [0,0] rfl rfl z0 w0 hl w0)).trans ?_);rw[List.zip_nil_right,List.append_nil]
 have e5:ns.zip (vals++ds.drop (vals.length+ds.length-ns.length))=ns.zip vals++(ns.drop vals.length).zip (ds.drop (vals.length+ds.length-ns.length)):=by
  rw[e4]
  exact(congrArg (fun x=>List.zip x _) (List.take_append_drop vals.length ns).symm).trans (List.zip_append (by simp only[List.length_take];exact mc (vals.length) (ns.length) (fun z0 w0=>lne [_,_] [.e .x1 .x0,.f .x1 .x0] .x1 .x0 [1,0] [0] rfl rfl w0 w0) fun z0 w0=>lne [_,_,_] [.l .x1 .x0,.e .x2 .x1,.l .x0 .x1,.f .x2 .x1] .x2 .x0 [1,1,0,0] [0,0] rfl rfl z0 w0 hl w0))
 rw[e3,List.foldl_append,jZ _ (ns.zip vals),jY,←e5]
 ·rw[bW]
  exact(hn.sublist (List.drop_sublist ..)).sublist (List.take_sublist ..)
 ·intro x hx;rw[bW];have h1:x.1∈ns.drop vals.length:=List.of_mem_zip hx |>.1;intro h2
  have:=List.take_append_drop vals.length ns▸hn
  exact(List.nodup_append.mp this).2.2 _ h2 _ h1 rfl
 ·intro x hx;rw[bW];have h1:=(List.of_mem_zip hx).1;have e:(ns.drop (ns.length-ds.length)).take (vals.length+ds.length-ns.length)=(ns.take vals.length).drop (ns.length-ds.length):=by
   rw[List.drop_take];congr 1;exact lne [_,_,_,_,_,_] [.e (.a .x3 .x1) (.a .x0 .x2),.e (.a .x5 .x2) .x1,.f (.a .x4 .x5) .x0,.f (.a .x3 .x1) (.a .x0 .x2),.f (.a .x5 .x2) .x1,.e (.a .x4 .x5) .x0] .x3 .x4 [1,1,1,0,0,0] [0,0,0] rfl rfl (su hk) (su hm) (su (ln [_,_,_,_] [.l .x1 (.a .x0 .x2),.e (.a .x3 .x2) .x1] .x3 .x0 [] rfl hk (su hm))) (su hk) (su hm) (su (ln [_,_,_,_] [.l .x1 (.a .x0 .x2),.e (.a .x3 .x2) .x1] .x3 .x0 [] rfl hk (su hm)))
  rw[e]at h1;exact List.mem_of_mem_drop h1
theorem tN(fd:FuncData)(vals:List Value)(h1:fd.params.posonlyargs=[])(h3:fd.params.kwonlyargs=[])(h4:fd.params.vararg=none)(h5:fd.params.kwarg=none):
   ∃r1 r2:Option (Array Value)→Sem (List (Str×Value)),bindArgs fd ⟨vals,[]⟩=seqItems? fd.defaults>>=fun o=>
    let ns:=fd.params.args.map (·.arg);let d:=(o.getD #[]).toList;let e:=d.drop (d.length-ns.length)
    ite ((decide (vals.length>ns.length)&&true)=true) (r1 o) (ite ((!((ns.take (ns.length-e.length)).filter fun n=>((ns.zip vals).lookup n).isNone).isEmpty)=true) (r2 o)
     (forIn ((ns.drop (ns.length-e.length)).zip e) (ns.zip vals) (fun x s=>if(s.lookup x.1).isNone then pure (.yield (s++[(x.1,x.2)]))else pure (.yield s))>>=fun s=>
      pure ((ns++[]).filterMap fun n=>(s.lookup n).map (n,·)))):=by
  obtain⟨nm,qn,⟨po,as,va,ko,kd,ka,df⟩,bd,scp,gl,cl,ds⟩:=fd;dsimp only at h1 h3 h4 h5;subst h1 h3 h4 h5;exact⟨_,_,rfl⟩
theorem sD{ns:List Str}{vals:List Value}{k:Nat}(h:k≤vals.length):∀n∈ns.take k,n∈(ns.zip vals).map (·.1):=fun n q=>by
 rw[bW]
 exact(List.take_prefix_take_left h).subset q
theorem tM{s:Shared}{ns:List Str}{vals ds e:List Value}{r1 r2:Sem (List (Str×Value))}{M:Model}{A:Around}{E:Value→Shared→Prop}{Q:List (Str×Value)→Shared→Prop}
   (he:e=ds) (hn:ns.Nodup) (hl:vals.length≤ns.length) (hm:ds.length≤ns.length) (hk:ns.length≤vals.length+ds.length)
   (h:Q (ns.zip (vals++ds.drop (vals.length+ds.length-ns.length))) s):
   wpAny M A (ite ((decide (vals.length>ns.length)&&true)=true) r1 (ite ((!((ns.take (ns.length-e.length)).filter fun n=>((ns.zip vals).lookup n).isNone).isEmpty)=true) r2
     (forIn ((ns.drop (ns.length-e.length)).zip e) (ns.zip vals) (fun x s=>if(s.lookup x.1).isNone then pure (.yield (s++[(x.1,x.2)]))else pure (.yield s))>>=fun s=>
      pure ((ns++[]).filterMap fun n=>(s.lookup n).map (n,·))))) Q E s:=by
  subst he;rw[if_neg fun z=>Nat.not_lt.mpr hl (of_decide_eq_true (Bool.and_eq_true_iff.mp z).1),if_neg fun z=>?_,lV _ (fun x s=>by unfold ck;split<;>rfl),pW hn hl hm hk,List.append_nil]
  · refine wpAny_bind (wpAny_pure (wpAny_pure ?_))
    have:=gi ns (vals++e.drop (vals.length+e.length-ns.length)) [] hn (by rw[List.length_append,List.length_drop];exact lne [_,_,_,_,_] [.e (.a .x4 .x1) (.a .x0 .x2),.f (.a .x3 .x4) .x2,.f (.a .x4 .x1) (.a .x0 .x2),.e (.a .x3 .x4) .x2] .x1 (.a .x0 .x3) [1,1,0,0] [0,0] rfl rfl (su hk) (su (ln [_,_,_,_] [.l .x0 .x1,.e (.a .x3 .x1) (.a .x0 .x2)] .x3 .x2 [] rfl hl (su hk))) (su hk) (su (ln [_,_,_,_] [.l .x0 .x1,.e (.a .x3 .x1) (.a .x0 .x2)] .x3 .x2 [] rfl hl (su hk)))) (fun _ _=>rfl);rw[List.nil_append]at this;rw[this];exact h
  · rw[List.filter_eq_nil_iff.mpr fun n q r=>?_]at z
    · cases z
    · have:=(cw n _).mpr (sD (vals:=vals) (by exact ln [_,_,_,_] [.l .x1 (.a .x0 .x2),.e (.a .x3 .x2) .x1] .x3 .x0 [] rfl hk (su hm)) n q);rw[Option.isNone_iff_eq_none.mp r]at this;cases this
theorem xT{s:Shared}{fd:FuncData}{ns:List Str}{vals ds:List Value}(M:Model)(A:Around)(E:Value→Shared→Prop)(Q:List (Str×Value)→Shared→Prop)
   (h1:fd.params.posonlyargs=[]) (h2:fd.params.args.map (·.arg)=ns) (h3:fd.params.kwonlyargs=[]) (h4:fd.params.vararg=none) (h5:fd.params.kwarg=none)
   (hd:∀R:Option (Array Value)→Shared→Prop,(∀o,(o.getD #[]).toList=ds→R o s)→wpAny M A (seqItems? fd.defaults) R E s)
   (hn:ns.Nodup) (hl:vals.length≤ns.length) (hm:ds.length≤ns.length) (hk:ns.length≤vals.length+ds.length)
   (h:Q (ns.zip (vals++ds.drop (vals.length+ds.length-ns.length))) s):wpAny M A (bindArgs fd ⟨vals,[]⟩) Q E s:=by
  obtain⟨r1,r2,e⟩:=tN fd vals h1 h3 h4 h5;subst h2;rw[e];refine wpAny_bind (hd _ fun o ho=>?_);subst ho;exact tM (by rw[Nat.sub_eq_zero_of_le hm,List.drop_zero]) hn hl hm hk h
end Mine
end
section
namespace Mine
open PySem PySem.W PyProof.Rows PySem.Spec PyProof PySem.SeqAt
structure Prg where
 N:Nm
 K:Frag
 T:lL
 C0:Ctx
 fnA:Nat→Addr
 mth:Nat→Str
 rank:Nat→Nat
noncomputable def fQ:List Str:=["len","min","max","abs","sorted","list","range","enumerate","zip"]
structure C2(P:Prg)(c:Nat):Prop where
 get:plainGet P.K (P.N.cls c) ""=true
 set:findIn P.K (.ref (P.N.cls c)) "__setattr__"=some (some (.builtin "object.__setattr__"))
 over:plainOver P.K (P.N.cls c)=true
 dict:hasDictIn P.K (P.N.cls c)=true
 makes:makesIn P.K (P.N.cls c)=true
 keep:keepIn P.K (.ref (P.N.cls c))=true
 field:∀n,n<P.N.nattr→findIn P.K (.ref (P.N.cls c)) (P.N.attr n)=some none
structure eJ(P:Prg):Prop where
 attrs:∀x i,idx P.C0.attrs x=some i→i<P.N.nattr∧P.N.attr i=x
 txts:∀x i,idx P.C0.txts x=some i→i<P.N.ntxt∧P.N.txt i=x
 meths:∀x i,idx P.C0.meths x=some i→P.mth i=x
 kin:P.K.In P.N.h0
 lim:P.N.h0.NoLimit
 b:∃mb,P.N.h0.Ns builtinsNs mb∧∀x:Str,x≠"__name__"→mb x=bootBuiltins x
 g:∃mg,P.N.h0.Ns mainGlobals mg
 globs:∀x i,idx P.C0.globs x=some i→∃v,nsIn P.K mainGlobals x=some (some v)∧av P.N P.N.h0.get? v (P.T.glob i)
 fns:∀x i,aF P.C0.fns x=some i→nsIn P.K mainGlobals x=some (some (.ref (P.fnA i)))∧keepIn P.K (.ref (P.fnA i))=true
 clss:∀x i,idx P.C0.clss x=some i→nsIn P.K mainGlobals x=some (some (.ref (P.N.cls i)))
 blts:∀x,x∈fQ→nsIn P.K mainGlobals x=some none
 cls:∀c,C2 P c
 meth:∀c n f,P.T.meth c n=some f→findIn P.K (.ref (P.N.cls c)) (P.mth n)=some (some (.ref (P.fnA f)))∧(∀m,m<P.N.nattr→P.N.attr m≠P.mth n)∧typeIn P.K (.ref (P.fnA f))=some (.type "function")∧keepIn P.K (.ref (P.fnA f))=true
 init:∀c f,P.T.init c=some f→findIn P.K (.ref (P.N.cls c)) "__init__"=some (some (.ref (P.fnA f)))∧typeIn P.K (.ref (P.fnA f))=some (.type "function")
variable {P:Prg} {c:Cfg} {s:Shared} {A:Around} {Q:KV}
theorem SR.kin{h:Heap}(F:eJ P)(S:SR P.N c h):P.K.In h:=fun a o e=>S.fr a o (S.stat a o (F.kin a o e))
theorem SR.old{h:Heap}(S:SR P.N c h):∀a o,P.N.h0.get? a=some o→h.get? a=some o:=fun a o e=>S.fr a o (S.stat a o e)
structure wy(env:Env):Prop where
 fn:env.scope.kind=.function
 gl:env.globals=mainGlobals
 bi:env.builtins=builtinsNs
theorem tw{env:Env}{x:Str}{pos:Pos}{v:Value}{R:Value→Shared→Prop}{E:Value→Shared→Prop}(F:eJ P)(G:wy env)(S:SR P.N c s.heap)(hk:env.kindOf x=some .globalImplicit)(hx:(x==("__debug__":Str))=false)
  (e:nsIn P.K mainGlobals x=some (some v)) (h:R v s):wpAny (model P.N.prog P.N.w) A (eval (.Name x pos) env) R E s:=by
 obtain⟨mg,hg⟩:=F.g;exact Calls.Name_function_global G.fn hk (Calls.loadGlobal_global (env:=env) (by rw[G.gl];exact hg.keeps S.old) (mg_of F.kin hg e) h) hx
theorem wq{env:Env}{x:Str}{pos:Pos}{v:Value}{R:Value→Shared→Prop}{E:Value→Shared→Prop}(F:eJ P)(G:wy env)(S:SR P.N c s.heap)(hk:env.kindOf x=some .globalImplicit)(hx:(x==("__debug__":Str))=false)
  (hn:x≠"__name__") (e:nsIn P.K mainGlobals x=some none) (hv:bootBuiltins x=some v) (h:R v s):wpAny (model P.N.prog P.N.w) A (eval (.Name x pos) env) R E s:=by
 obtain⟨mg,hg⟩:=F.g;obtain⟨mb,hb,hb'⟩:=F.b;exact Calls.Name_function_global G.fn hk (Calls.loadGlobal_builtin (env:=env) (by rw[G.gl];exact hg.keeps S.old) (mg_none_of F.kin hg e) (by rw[G.bi];exact hb.keeps S.old) ((hb' x hn).trans hv) h) hx
theorem na{a:Nat}{C:Nat}{fs:List (Nat×PV)}(S:SR P.N c s.heap)(q:c.σ a=some (.inst C fs)):
  ∃es n,InstAt s.heap a (instObj (P.N.cls C) (c.D a)) (P.N.cls C) (some (dictOf es n))∧s.heap.get? (c.D a)=some (dictOf es n)∧gb P.N c.I es fs:=by
 obtain⟨e,es,n,e2,r⟩:=S.st a _ q;exact⟨es,n,⟨e,rfl,rfl,e2⟩,e2,r⟩
theorem kO{I:Addr→Option Obj}{es:List DictEntry}{fs:List (Nat×PV)}(h:gb P.N I es fs):es.any (·.refKey)=false:=by
 induction h with
 | nil=>rfl
 | cons hn x y ih=>exact ih
theorem iJ(n m:Str)(t:Tok):(Value.str m t).isStr n=(m==n):=rfl
theorem pD{n m:Nat}(hm:m<P.N.nattr)(hn:n<P.N.nattr):(P.N.attr m==P.N.attr n)=(m==n):=by
 by_cases q:m=n
 ·subst q;rw[beq_self_eq_true,beq_self_eq_true]
 ·rw[beq_eq_false_iff_ne.mpr q,beq_eq_false_iff_ne.mpr fun z=>q (P.N.attrInj m n hm hn z)]
theorem tB{I:Addr→Option Obj}{n:Nat}{d:PV}(hn:n<P.N.nattr){es:List DictEntry}{fs:List (Nat×PV)}(h:gb P.N I es fs)(e:lG fs n=some d):∃x,es.find? (·.key.isStr (P.N.attr n))=some x∧av P.N I x.val d:=by
 induction h with
 | nil=>cases e
 | cons hm x y ih=>
  rename_i m t v d' es fs;rw[List.find?_cons,iJ,pD hm hn];have e:cond (m==n) (some d') (lG fs n)=some d:=e;cases q:m==n with
  | true=>rw[q]at e;cases e;exact⟨_,rfl,x⟩
  | false=>rw[q]at e;exact ih e
theorem vC{I:Addr→Option Obj}{n:Nat}{d:PV}(hn:n<P.N.nattr){es:List DictEntry}{fs:List (Nat×PV)}(h:gb P.N I es fs)(e:lG fs n=some d):∃v,getL (P.N.attr n) es=some (some v)∧av P.N I v d:=by
 obtain⟨x,e,r⟩:=tB hn h e;exact⟨x.val,by unfold getL;rw[e],r⟩
theorem tA{I:Addr→Option Obj}{x:Str}(hx:∀m,m<P.N.nattr→P.N.attr m≠x){es:List DictEntry}{fs:List (Nat×PV)}(h:gb P.N I es fs):es.find? (·.key.isStr x)=none:=by
 induction h with
 | nil=>rfl
 | cons hm z y ih=>rw[List.find?_cons,iJ,beq_eq_false_iff_ne.mpr (hx _ hm)];exact ih
theorem nR{I:Addr→Option Obj}{v:Value}{d:PV}(h:av P.N I v d):handedIn v=true:=by cases h<;>rfl
theorem qX{v:Value}{d:PV}{n:Nat}{expr:Bool}(F:eJ P)(hn:n<P.N.nattr)(S:SR P.N c s.heap)(ha:av P.N c.I v d)(h:wu d n c.σ Q):
  WV P.N A (getAttr v (P.N.attr n) expr) c s Q:=by
 obtain⟨a,C,fs,rfl,q,h⟩:=ql h;cases ha.toO;obtain⟨d,hd,hq⟩:=ku.mp h;obtain⟨es,k,I,e,r⟩:=na S q;obtain⟨v,hv,rv⟩:=vC hn r hd;have O:=F.cls C;exact get_value (S.kin F) I (plainGet_of O.get).1 (findObj_own O.dict (O.field n hn) rfl hv) (nR rv) (bl S rv hq)
noncomputable def gW(x:Str)(hs:Int)(k v:Value)(es:List DictEntry):List DictEntry:=match es.findIdx? (·.key.isStr x)with
 | some i=>es.modify i fun e=>{e with val:=v}
 | none=>es++[⟨hs,k,v⟩]
theorem uN(x:Str)(hs:Int)(k v:Value)(es:List DictEntry)(n:Nat):∃n',Obj.putName x hs k v (dictOf es n)=dictOf (gW x hs k v es) n':=by
 rw[Obj.putName_eq];unfold Obj.putNameByArray dictOf gW;simp only[List.findIdx?_toArray];split
 ·rename_i z;exact⟨n,by simp[z]⟩
 ·rename_i z;exact⟨n+1,by simp[z]⟩
theorem vA{I:Addr→Option Obj}{n:Nat}{v:Value}{d:PV}{t:Tok}(hn:n<P.N.nattr)(hv:av P.N I v d){es:List DictEntry}{fs:List (Nat×PV)}(h:gb P.N I es fs):
  gb P.N I (gW (P.N.attr n) (PyData.keyHash P.N.w.params (P.N.attr n)) (.str (P.N.attr n) t) v es) (gR fs n d):=by
 induction h with
 | nil=>exact .cons hn hv .nil
 | cons hm x y ih=>
  rename_i m t' v' d' es fs;unfold gW at ih⊢;rw[List.findIdx?_cons,iJ,pD hm hn];show gb P.N I _ (cond (m==n) ((n,d)::fs) ((m,d')::gR fs n d));cases q:m==n with
  | true=>rw[beq_iff_eq.mp q];exact .cons hn hv y
  | false=>
   cases z:es.findIdx? (·.key.isStr (P.N.attr n))with
   | none=>rw[z]at ih;exact .cons hm x ih
   | some i=>rw[z]at ih;exact .cons hm x ih
theorem vB{I:Addr→Option Obj}{es:List DictEntry}{fs:List (Nat×PV)}(h:gb P.N I es fs):es.length=fs.length:=by
 induction h with
 | nil=>rfl
 | cons _ _ _ ih=>exact congrArg (· + 1) ih
theorem ur(fs:List (Nat×PV))(n:Nat)(v:PV):(gR fs n v).length≤fs.length+1:=by
 induction fs with
 | nil=>simp[gR]
 | cons x r ih=>
  unfold gR;cases x.1==n with
  | true=>exact Nat.le_succ _
  | false=>exact Nat.succ_le_succ ih
theorem lC{v:Value}{d:PV}{a C n:Nat}{fs:List (Nat×PV)}{R:Sto→Prop}(F:eJ P)(hn:n<P.N.nattr)(S:SR P.N c s.heap)(hd:av P.N c.I v d)(q:c.σ a=some (.inst C fs))(hz:fs.length<1000)
  (h:R (c.σ.set a (.inst C (gR fs n d)))):wpAny (model P.N.prog P.N.w) A (setAttr (.ref a) (P.N.attr n) v) (pH P.N c s R) NoE s:=by
 obtain⟨es,k,I,D,r⟩:=na S q;have O:=F.cls C;have X:=S.kin F;refine set_plain X I O.set ?_;refine osa_open (s:={s with toks:=s.toks+1}) (r:=none) X I O.over (by unfold takerIn;rw[O.field n hn];rfl) fun b=>?_
 obtain⟨cd,hc,hd'⟩:=any_some O.dict;obtain⟨hx,hcl,hno,-⟩:=I;refine wpAny_bind (wpAny_pure (wpAny_bind (wpAny_bind (wpAny_loadPart hx (wpAny_bind (looks_clsIn (h:=s.heap) X hc _ _ _ _ (fun _ _ e=>e) ?_))))));rw[hd'];refine wpAny_pure (a:=some (c.D a)) (wpAny_bind (wpAny_pure (wpAny_bind ?_)));unfold nsSet;refine wpAny_bind (wpAny_bind (wpAny_askSetting (wpAny_pure (wpAny_bind (wpAny_mkText (wpAny_bind (wpAny_loadPart D ?_)))))));obtain⟨k',e'⟩:=uN (P.N.attr n) (PyData.keyHash P.N.w.params (P.N.attr n)) (.str (P.N.attr n) (s.toks+1)) v es k;have r':=vA (t:=s.toks+1) hn hd r;have hl':=vB r';have hl:=ur fs n d;have c0:(!es.toArray.any (·.key.isStr (P.N.attr n))&&es.toArray.any (·.refKey))=false:=by
  rw[List.any_toArray,List.any_toArray,kO r,Bool.and_false]
 have D':(s.heap.update (c.D a) (Obj.putName (P.N.attr n) (PyData.keyHash P.N.w.params (P.N.attr n)) (.str (P.N.attr n) (s.toks+1)) v)).get? (c.D a)=some (dictOf (gW (P.N.attr n) (PyData.keyHash P.N.w.params (P.N.attr n)) (.str (P.N.attr n) (s.toks+1)) v es) k'):=by
  rw[←e'];exact Heap.get?_update_self _ D (by rw[e'];rfl)
 dsimp only[dictOf];rw[aRefKeyMayBeTheName_at,c0];refine wpAny_updatePart D ?_;refine wpAny_bind (wpAny_lookBehind D' (pastItsLine_dict (by rw[List.size_toArray,sizeLine_eq];exact ln [_,_,_] [.l .p01 (.k 1000),.e .x1 .x2,.l .x2 .p01] .x1 (.a (.k 16777216) .k1) [] rfl hz hl' hl)) ?_);refine wpAny_pure ?_;have hs:Heap.SameBut (c.D a) s.heap (s.heap.update (c.D a) (Obj.putName (P.N.attr n) (PyData.keyHash P.N.w.params (P.N.attr n)) (.str (P.N.attr n) (s.toks+1)) v)):=Heap.SameBut.update ..;have ne:a≠c.D a:=fun z=>by
  have:=S.dj a C fs q;rw[←z,q]at this;cases this
 obtain⟨S',E'⟩:=S.putF (X:=NoX) (C':=C) (fs':=gR fs n d) hs q ⟨(hs.2 a ne).trans hx,_,k',D',r'⟩;exact⟨⟨S',E',rfl,rfl⟩,h⟩
end Mine
end
section
namespace Mine
open PySem PySem.W PyProof.Rows PySem.Spec PyProof PySem.SeqAt
variable {P:Prg}
structure FOk(A:Around)(r:Nat):Prop where
 h:A.handled=none
 d:A.depth+3*r<990
 u:A.units+100*r≤8900
structure COk(A:Around)(r:Nat):Prop where
 h:A.handled=none
 d:A.depth+3*r<992
 u:A.units+100*r≤8960
theorem FOk.ok{A:Around}{r:Nat}(F:FOk A r):AOk A:=⟨F.h,by have:=F.u;exact ln [_,_] [.l (.a .x0 (.m 100 .x1)) (.k 8900)] .x0 (.k 9000) [] rfl this⟩
inductive eM(N:Nm)(C:Ctx)(env:Env)(c:Cfg)(s:Shared)(Q:KO):Flow→Shared→Prop
 | next {c':Cfg} {s':Shared} {loc:List PV} (G:Go N (Own env) c s c' s') (L:LR N C env c' s'.heap loc) (q:Q (.next loc) c'.σ):eM N C env c s Q .next s'
 | ret {c':Cfg} {s':Shared} {v:Value} {d:PV} (G:Go N (Own env) c s c' s') (r:av N c'.I v d) (q:Q (.ret d) c'.σ):eM N C env c s Q (.ret v) s'
theorem eM.trans{N:Nm}{C:Ctx}{env:Env}{c c1:Cfg}{s s1 s':Shared}{Q:KO}{f:Flow}(G:Go N (Own env) c s c1 s1)(h:eM N C env c1 s1 Q f s'):eM N C env c s Q f s':=by
 cases h with
 | next G' L q=>exact .next (G.trans G') L q
 | ret G' r q=>exact .ret (G.trans G') r q
noncomputable abbrev WE(N:Nm)(A:Around)(C:Ctx)(env:Env)(t:Sem Flow)(c:Cfg)(s:Shared)(Q:KO):Prop:=wpAny (model N.prog N.w) A t (eM N C env c s Q) NoE s
noncomputable def jk(P:Prg)(S:Spec)(r:Nat):Spec:=fun f vs σ Q=>P.rank f<r∧S f vs σ Q
noncomputable def je(C0:Ctx)(fd:FuncData):Ctx:={C0 with scope:=fd.scope,slots:=(dt fd.params fd.scope).zipIdx,n:=(dt fd.params fd.scope).length}
noncomputable def mJ(P:Prg)(S:Spec)(f:Nat)(a:lP)(fd:FuncData)(body:List Stmt):Prop:=
 ∀(A:Around) (env:Env) (c:Cfg) (s:Shared) (loc:List PV) (Q:KO),FOk A (P.rank f)→cf (je P.C0 fd) env→wy env→SR P.N c s.heap→LR P.N (je P.C0 fd) env c s.heap loc→
  al P.T (jk P S (P.rank f)) a.body loc c.σ Q→WE P.N A (je P.C0 fd) env (execs body env) c s Q
structure nM(P:Prg)(f:Nat)(a:lP)(fd:FuncData)(body:List Stmt)(ds:List Value):Prop where
 tab:P.T.fn f=some a
 obj:∃o,P.K.lookup (P.fnA f)=some o∧o.data=.func fd
 body:fd.body=.stmts body
 clo:fd.closure=[]
 gl:fd.globals=mainGlobals
 bi:fd.builtins=builtinsNs
 kind:fd.scope.kind=.function
 co:fd.scope.isCoroutine=false
 gen:fd.scope.isGenerator=false
 code:codeIn P.K fd.code fd.qualname=true
 p1:fd.params.posonlyargs=[]
 p3:fd.params.kwonlyargs=[]
 p4:fd.params.vararg=none
 p5:fd.params.kwarg=none
 nargs:a.nargs=fd.params.args.length
 nvars:a.nvars=(dt fd.params fd.scope).length
 dsv:(fd.defaults=.none∧ds=[])∨∃T o n,fd.defaults=.ref T∧P.K.lookup T=some o∧o.data=.seq ds.toArray n
 dv:∀I,ar P.N I ds a.dflts
 dl:ds.length≤fd.params.args.length
 nodup:(fd.scope.names.map (·.1)).Nodup
 snodup:(dt fd.params fd.scope).Nodup
 kinds:∀x∈fd.params.args.map (·.arg),fd.scope.names.lookup x=some .local∨fd.scope.names.lookup x=some .cell
 free:∀x k,fd.scope.names.lookup x=some k→k≠.free∧(x==("__debug__":Str))=false∧(x==("__classdict__":Str))=false
theorem et{α:Type}(n:Str):∀l:List (Str×α),(l.lookup n).isSome=true↔n∈l.map (·.1)
 | []=>by simp
 | (m,v)::l=>by
  rw[List.lookup_cons]
  by_cases h:n=m
  ·subst h;simp
  ·rw[beq_eq_false_iff_ne.mpr h];simp[h,et n l]
theorem cm{α:Type}{l:List (Str×α)}(hn:(l.map (·.1)).Nodup){x:Str}{a:α}(h:(x,a)∈l):l.lookup x=some a:=by
 induction l with
 | nil=>cases h
 | cons p l ih=>
  obtain⟨y,b⟩:=p;rw[List.map_cons,List.nodup_cons]at hn;rw[List.lookup_cons];rcases List.mem_cons.mp h with e|h
  ·cases e;simp
  ·have:x≠y:=fun z=>hn.1 (z▸List.mem_map_of_mem (f:=(·.1)) h)
   rw[beq_eq_false_iff_ne.mpr this];exact ih hn.2 h
theorem gO:∀(l:List Str) (n:Nat) (x:Str) (i:Nat),aF (l.zipIdx n) x=some i→n≤i∧l[i-n]? = some x
 | [],_,_,_,h=>by cases h
 | y::l,n,x,i,h=>by
  rw[List.zipIdx_cons]at h;unfold aF at h;split at h
  ·rename_i e;cases h;subst e;simp
  ·obtain⟨a,b⟩:=gO l (n+1) x i h;refine⟨by exact Nat.le_of_lt a,?_⟩;rw[show i-n=(i-(n+1))+1 by exact lne [_,_,_,_] [.e (.a .x2 .x0) .x1,.f (.a .x3 .p01) .x1,.f (.a .x2 .x0) .x1,.e (.a .x3 .p01) .x1] .x2 .p31 [1,1,0,0] [0,0] rfl rfl (su (Nat.le_of_lt a)) (su a) (su (Nat.le_of_lt a)) (su a),List.getElem?_cons_succ];exact b
theorem fW{l:List Str}{x:Str}{i:Nat}(h:aF l.zipIdx x=some i):l[i]? = some x:=by
 have:=(gO l 0 x i h).2
 simpa using this
theorem f7:∀(names:List (Str×NameKind)) (n:Nat) (acc:List (Str×Addr)) (x:Str),(x∈(cellsFrom n names acc).map (·.1)↔x∈acc.map (·.1)∨(x,NameKind.cell)∈names)
 | [],_,_,_=>by simp[cellsFrom]
 | (y,k)::r,n,acc,x=>by
  unfold cellsFrom;split
  ·rename_i h;have h':k=.cell:=by simpa using h
   subst h';rw[f7 r];simp only[List.map_cons,List.mem_cons,Prod.mk.injEq,and_true];constructor
   ·rintro((h|h)|h)<;>simp[h]
   ·rintro(h|h|h)<;>simp[h]
  ·rename_i h;have h':k≠.cell:=by simpa using h
   rw[f7 r];simp only[List.mem_cons,Prod.mk.injEq];constructor
   ·rintro(h|h)<;>simp[h]
   ·rintro(h|⟨_,h⟩|h)
    ·simp[h]
    ·exact absurd h.symm h'
    ·simp[h]
theorem fP:∀(names:List (Str×NameKind)) (n:Nat) (acc:List (Str×Addr)),(names.map (·.1)).Nodup→(acc.map (·.1)).Nodup→(∀x,x∈acc.map (·.1)→x∉names.map (·.1))→((cellsFrom n names acc).map (·.1)).Nodup
 | [],_,_,_,h,_=>h
 | (y,k)::r,n,acc,hn,ha,hd=>by
  rw[List.map_cons,List.nodup_cons]at hn;unfold cellsFrom;split
  ·refine fP r _ _ hn.2 ?_ ?_
   ·rw[List.map_cons,List.nodup_cons];exact⟨fun h=>hd y h (by simp),ha⟩
   ·intro x hx hr;rw[List.map_cons]at hx;rcases List.mem_cons.mp hx with q|q
    ·exact hn.1 (q▸hr)
    ·exact hd x q (by rw[List.map_cons];exact List.mem_cons_of_mem _ hr)
  ·refine fP r _ _ hn.2 ha fun x hx hr=>hd x hx (by rw[List.map_cons];exact List.mem_cons_of_mem _ hr)
theorem lm(kd:Str→Option NameKind)(x:Str):∀(l:List (Str×Value)) (m:Str→Option Value),x∉l.map (·.1)→bindL kd l m x=m x
 | [],_,_=>rfl
 | (n,v)::r,m,h=>by
  rw[List.map_cons,List.mem_cons,not_or]at h;unfold bindL;rw[lm kd x r _ h.2];split
  ·show(if x=n then some v else m x)=m x;rw[if_neg h.1]
  ·rfl
theorem lp(kd:Str→Option NameKind)(x:Str):∀(l:List (Str×Value)) (m:Str→Option Value),x∉l.map (·.1)→bindC kd l m x=m x
 | [],_,_=>rfl
 | (n,v)::r,m,h=>by
  rw[List.map_cons,List.mem_cons,not_or]at h;unfold bindC;rw[lp kd x r _ h.2];split
  ·rfl
  ·show(if x=n then some v else m x)=m x;rw[if_neg h.1]
theorem mG(kd:Str→Option NameKind):∀(ns:List Str) (vs:List Value) (m:Str→Option Value) (i:Nat) (x:Str) (v:Value),ns.Nodup→ns[i]? = some x→vs[i]? = some v→kd x=some .local→bindL kd (ns.zip vs) m x=some v
 | [],_,_,_,_,_,_,h,_,_=>by simp at h
 | n::ns,[],_,_,_,_,_,_,h,_=>by simp at h
 | n::ns,w::vs,m,0,x,v,hn,h1,h2,hk=>by
  simp at h1 h2;subst h1 h2;rw[List.nodup_cons]at hn;rw[List.zip_cons_cons];unfold bindL;rw[lm kd n _ _ (fun h=>hn.1 (by rw[bW]at h;exact List.mem_of_mem_take h)),if_pos hk];simp
 | n::ns,w::vs,m,i+1,x,v,hn,h1,h2,hk=>by
  rw[List.nodup_cons]at hn;rw[List.zip_cons_cons];exact mG kd ns vs _ i x v hn.2 (by simpa using h1) (by simpa using h2) hk
theorem mH(kd:Str→Option NameKind):∀(ns:List Str) (vs:List Value) (m:Str→Option Value) (i:Nat) (x:Str) (v:Value),ns.Nodup→ns[i]? = some x→vs[i]? = some v→kd x≠some .local→bindC kd (ns.zip vs) m x=some v
 | [],_,_,_,_,_,_,h,_,_=>by simp at h
 | n::ns,[],_,_,_,_,_,_,h,_=>by simp at h
 | n::ns,w::vs,m,0,x,v,hn,h1,h2,hk=>by
  simp at h1 h2;subst h1 h2;rw[List.nodup_cons]at hn;rw[List.zip_cons_cons];unfold bindC;rw[lp kd n _ _ (fun h=>hn.1 (by rw[bW]at h;exact List.mem_of_mem_take h)),if_neg hk];simp
 | n::ns,w::vs,m,i+1,x,v,hn,h1,h2,hk=>by
  rw[List.nodup_cons]at hn;rw[List.zip_cons_cons];exact mH kd ns vs _ i x v hn.2 (by simpa using h1) (by simpa using h2) hk
theorem bQ(a:Arguments)(sc:Scope):dt a sc=a.args.map (·.arg)++(sc.names.filter fun x=>(x.2==.local||x.2==.cell)&& !(a.args.map (·.arg)).contains x.1).map (·.1):=rfl
theorem Ct{f:Nat}{a:lP}{fd:FuncData}{body:List Stmt}{ds:List Value}{s s':Shared}{c:Cfg}{full:List Value}{args:List PV}(H:nM P f a fd body ds)(S:SR P.N c s.heap)
  (hf:ar P.N c.I full args) (hl:args.length=a.nargs)
  (x:InCallC s (callEnvC fd s.heap.objs.size (P.fnA f)).locals (bindL (callEnvC fd s.heap.objs.size (P.fnA f)).kindOf ((fd.params.args.map (·.arg)).zip full) fun _=>none) (callEnvC fd s.heap.objs.size (P.fnA f)).cells
   (bindC (callEnvC fd s.heap.objs.size (P.fnA f)).kindOf ((fd.params.args.map (·.arg)).zip full) fun _=>none) s'):
  cf (je P.C0 fd) (callEnvC fd s.heap.objs.size (P.fnA f))∧wy (callEnvC fd s.heap.objs.size (P.fnA f))∧SR P.N c s'.heap∧
   LR P.N (je P.C0 fd) (callEnvC fd s.heap.objs.size (P.fnA f)) c s'.heap (args++List.replicate (a.nvars-a.nargs) .undef)∧(∀b,Own (callEnvC fd s.heap.objs.size (P.fnA f)) b→s.heap.get? b=none):=by
 have hk:∀y,(callEnvC fd s.heap.objs.size (P.fnA f)).kindOf y=fd.scope.names.lookup y:=fun y=>rfl
 have hcn:((cellsFrom (s.heap.objs.size+1) fd.scope.names []).map (·.1)).Nodup:=fP _ _ _ H.nodup List.nodup_nil (fun _ h=>by cases h);have hcell:∀y,fd.scope.names.lookup y=some .cell→∃b,(callEnvC fd s.heap.objs.size (P.fnA f)).cells.lookup y=some b:=fun y hy=>by
  have:=(f7 fd.scope.names (s.heap.objs.size+1) [] y).mpr (.inr (mem_of_lookup hy));obtain⟨⟨z,b⟩,hm,rfl⟩:=List.mem_map.mp this;exact⟨b,cm hcn hm⟩
 have fresh:∀b,Own (callEnvC fd s.heap.objs.size (P.fnA f)) b→s.heap.get? b=none:=fun b o=>by
  have ge:s.heap.objs.size≤b:=by
   rcases o with rfl|⟨y,hy⟩
   ·exact Nat.le_refl _
   ·exact Nat.le_of_lt (x.above y b hy)
  cases q:s.heap.get? b with
  | none=>rfl
  | some o=>exact absurd (Heap.lt_size q) (Nat.not_lt.mpr ge)
 have hfl:=hf.length;have hsl:(dt fd.params fd.scope).length=fd.params.args.length+((fd.scope.names.filter fun x=>(x.2==.local||x.2==.cell)&& !(fd.params.args.map (·.arg)).contains x.1).map (·.1)).length:=by
  rw[bQ,List.length_append,List.length_map]
 have hna:=H.nargs;have hnv:=H.nvars;refine⟨⟨H.kind,rfl,fun y z i hy hz=>?_,fun y i hy=>?_,x.apart,fun y b hy=>Nat.ne_of_gt (x.above y b hy),fun y i _ hy=>?_,fun y k hy=>(H.free y k hy).2⟩,⟨H.kind,H.gl,H.bi⟩,S.ext x.toInCall.keep,
  ⟨⟨_,x.toInCall.ns⟩,fun y b hy=>⟨_,x.cell y b (cm hcn hy)⟩,?_,fun y i v hy hv hu=>?_,fun b o=>?_⟩,fresh⟩
 ·have h1:=fW hy;have h2:=fW hz;rw[h1]at h2;exact Option.some.inj h2
 ·exact(List.getElem?_eq_some_iff.mp (fW hy)).1
 ·rcases hy with hy|hy
  ·exact hcell y hy
  ·exact absurd rfl (H.free y _ hy).1
 ·rw[List.length_append,List.length_replicate];show _=(dt fd.params fd.scope).length;exact lne [_,_,_,_,_] [.e .x0 .x1,.e .x3 .x2,.e (.a .x4 .x1) .x3,.f .x0 .x1,.f .x3 .x2,.f (.a .x4 .x1) .x3] (.a .x0 .x4) .x2 [1,1,1,0,0,0] [0,0,0] rfl rfl hl hnv (su (ln [_,_,_,_,_] [.f .x1 (.a .x2 .x3),.e .x0 .x2,.f .x4 .x1] .x0 .x4 [] rfl hsl hna hnv)) hl hnv (su (ln [_,_,_,_,_] [.f .x1 (.a .x2 .x3),.e .x0 .x2,.f .x4 .x1] .x0 .x4 [] rfl hsl hna hnv))
 ·obtain⟨hs,hkind⟩:=cC hy;have h1:(dt fd.params fd.scope)[i]? = some y:=fW hs;have hi:i<args.length:=by
   refine Classical.byContradiction fun q=>hu ?_
   rw[List.getElem?_append_right (by exact(Nat.not_lt.mp q)),List.getElem?_replicate]at hv;split at hv<;>simp_all
  rw[List.getElem?_append_left hi]at hv;have h2:(fd.params.args.map (·.arg))[i]? = some y:=by
   rw[bQ,List.getElem?_append_left (by rw[List.length_map];exact ln [_,_,_,_] [.e .x0 .x1,.e .x1 .x2,.l .p31 .x0] .p31 .x2 [] rfl hl hna hi)]at h1;exact h1
  obtain⟨cv,hcv,r⟩:=hf.getElem hv;have hnd:(fd.params.args.map (·.arg)).Nodup:=by
   have:=H.snodup;rw[bQ]at this
   exact(List.nodup_append.mp this).1
  refine⟨cv,?_,r⟩;rcases hkind with q|q|q
  ·exact .inl ⟨q,_,x.toInCall.ns,mG _ _ _ _ i y cv hnd h2 hcv q⟩
  ·obtain⟨b,hb⟩:=hcell y q;have hc:=x.cell y b hb;rw[mH _ _ _ _ i y cv hnd h2 hcv (by rw[hk,show fd.scope.names.lookup y=some .cell from q];simp)]at hc;exact .inr ⟨.inl q,b,hb,hc⟩
  ·exact absurd rfl (H.free y _ q).1
 ·exact⟨S.not_foot (fresh b o),S.I_none (fresh b o)⟩
inductive pJ(N:Nm)(c:Cfg)(s:Shared)(Q:KV):Result→Shared→Prop
 | mk {v:Value} {s':Shared} (h:ca N c s Q v s'):pJ N c s Q (.ok (.ret v)) s'
theorem qT{Sp:Spec}{f:Nat}{a:lP}{fd:FuncData}{body:List Stmt}{ds:List Value}{c:Cfg}{s:Shared}{A:Around}{Q:KV}{vs:List Value}{args:List PV}(F:eJ P)(H:nM P f a fd body ds)(B:mJ P Sp f a fd body)(K:COk A (P.rank f+1))(S:SR P.N c s.heap)
  (hv:ar P.N c.I vs args) (hl:(dQ P.T f args).length=a.nargs) (hb:al P.T (jk P Sp (P.rank f)) a.body (dQ P.T f args++List.replicate (a.nvars-a.nargs) .undef) c.σ fun o σ'=>match o with
   | .next _=>Wk .none σ' Q
   | .ret v=>Wk v σ' Q):
  codeAny (model P.N.prog P.N.w) A (.call (.ref (P.fnA f)) ⟨vs,[]⟩) (pJ P.N c s Q) s:=by
 have X:=S.kin F;obtain⟨o,ho,hd⟩:=H.obj;have hfull:dQ P.T f args=args++a.dflts.drop (args.length+a.dflts.length-a.nargs):=by unfold dQ;rw[H.tab]
 have hdl:=(H.dv c.I).length;have hvl:=hv.length;have hdl2:=H.dl;have hna:=H.nargs;have hlen:args.length+(a.dflts.length-(args.length+a.dflts.length-a.nargs))=a.nargs:=by rw[hfull,List.length_append,List.length_drop]at hl;exact hl
 have hff:ar P.N c.I (vs++ds.drop (vs.length+ds.length-(fd.params.args.map (·.arg)).length)) (dQ P.T f args):=by
  rw[hfull,List.length_map,hvl,hdl,hna];exact hv.append ((H.dv c.I).drop _)
 have hnd:(fd.params.args.map (·.arg)).Nodup:=by
  have:=H.snodup;rw[bQ]at this
  exact(List.nodup_append.mp this).1
 refine codeAny_call_function (by have:=K.d;show A.depth<1000;exact ln [_,_] [.l (.a (.a .x0 (.m 3 .p11)) .k1) (.k 992)] .p01 (.k 1000) [] rfl this) (X _ _ ho) hd H.co H.gen H.body (codeRec_of X H.code) ?_;refine xT _ _ _ _ H.p1 rfl H.p3 H.p4 H.p5 (ds:=ds) (fun R hR=>?_) hnd (by rw[List.length_map];exact ln [_,_,_,_,_] [.e .x1 .x2,.e .x0 .x3,.e (.a .x2 .x4) .x0] .x1 .x3 [] rfl hvl hna hlen) (by rw[List.length_map];exact hdl2) (by rw[List.length_map];exact ln [_,_,_,_,_,_,_] [.f .x1 .x2,.f .x3 .x4,.f .x0 .x5,.f (.a .x4 .x6) .x0,.l .x6 .x2] .x5 (.a .x3 .x1) [] rfl hdl hvl hna hlen sb) ?_
 ·rcases H.dsv with⟨e,rfl⟩|⟨T,oT,n,e,hT,hTd⟩
  ·rw[e];exact wpAny_of_eq (a:=none) (by rfl) (hR _ rfl)
  ·rw[e];exact wpAny_seqItems (X _ _ hT) hTd (hR _ rfl)
 rw[H.clo];refine wpAny_newFunctionEnv_cells H.kind (fun y hy=>?_) fun env he s' x=>?_
 ·have hm:y.1∈fd.params.args.map (·.arg):=(List.of_mem_zip hy).1;rcases H.kinds _ hm with q|q
  ·exact .inl q
  ·refine .inr ⟨q,?_⟩
   have:=(f7 fd.scope.names (s.heap.objs.size+1) [] y.1).mpr (.inr (mem_of_lookup q))
   exact(et _ _).mpr this
 have hee:env=callEnvC fd s.heap.objs.size (P.fnA f):=he;subst hee;obtain⟨C1,G1,S1,L1,fr⟩:=Ct H S hff hl x;refine⟨F.lim.keeps S1.old,codeAny_func ?_⟩;obtain⟨hs1,tk1,hs'⟩:=x.toInCall.same;have G0:∀{c2 s2},Go P.N (Own (callEnvC fd s.heap.objs.size (P.fnA f))) c s' c2 s2→Go P.N NoX c s c2 s2:=fun G=>⟨G.S,((Evo.ext x.toInCall.keep).trans G.E).fresh fr,G.g.trans (by rw[hs']),G.o.trans (by rw[hs'])⟩
 have fin:∀{c2 s2 v d},Go P.N NoX c s c2 s2→av P.N c2.I v d→Wk d c2.σ Q→ca P.N c s Q v s2:=fun G hv' ⟨d',σ',hfz,hsub,hq⟩=>by
  obtain⟨S3,E3⟩:=G.S.frz (X:=NoX) hsub;exact⟨⟨S3,G.E.trans E3,G.g,G.o⟩,hfz.vrel G.S hsub hv',hq⟩
 refine wpAny_mono (B (A.deeper _) _ c s' _ _ ⟨K.h,by show A.depth+1+3*P.rank f<_;have:=K.d;exact ln [_,_] [.l (.a (.a .x0 (.m 3 .p11)) .k1) (.k 992)] (.a (.a .p01 (.m 3 .x1)) .k1) (.k 990) [] rfl this,by show A.units+3+_≤_;have:=K.u;exact ln [_,_] [.l (.a .x0 (.m 100 .p11)) (.k 8960)] (.a (.a .x0 (.k 3)) (.m 100 .x1)) (.k 8900) [] rfl this⟩ C1 G1 S1 L1 hb) (fun fl s2 h2=>?_) fun _ _ e=>e.elim
 cases h2 with
 | next G L hq=>exact⟨fin (G0 G) .none hq⟩
 | ret G hv' hq=>exact⟨fin (G0 G) hv' hq⟩
end Mine
end
section
namespace Mine
open PySem PySem.W PyProof.Rows PySem.Spec PyProof PySem.SeqAt PySem.Calls
theorem iK(k:Int):∀l:List Int,(nc k l).Perm (k::l)
 | []=>.refl _
 | x::r=>by
  unfold nc;split
  ·exact .refl _
  ·exact((iK k r).cons x).trans (.swap ..)
theorem eQ:∀l:List Int,(fo l).Perm l
 | []=>.refl _
 | x::r=>(iK x _).trans ((eQ r).cons x)
theorem jc(k:Int):∀l:List Int,l.Pairwise (·≤·)→(nc k l).Pairwise (·≤·)
 | [],_=>by simp[nc]
 | x::r,h=>by
  unfold nc;rw[List.pairwise_cons]at h;split
  ·rename_i q;rw[List.pairwise_cons];refine⟨fun y hy=>?_,by rw[List.pairwise_cons];exact h⟩;rcases List.mem_cons.mp hy with rfl|hy
   ·exact q
   ·exact Int.le_trans q (h.1 y hy)
  ·rename_i q;rw[List.pairwise_cons];refine⟨fun y hy=>?_,jc k r h.2⟩;rcases List.mem_cons.mp ((iK k r).mem_iff.mp hy)with rfl|hy
   ·exact Int.le_of_lt (Int.not_le.mp q)
   ·exact h.1 y hy
theorem gM:∀l:List Int,(fo l).Pairwise (·≤·)
 | []=>.nil
 | x::r=>jc x _ (gM r)
variable {N:Nm} {c:Cfg} {s:Shared} {A:Around} {Q:KV}
theorem mj:∀(vs:List Value) (kvs:List (Int×Value)),vs.length=kvs.length→(∀(j:Nat) (v:Value),vs[j]? = some v→∃k x,kvs[j]? = some (k,x)∧(intKind N.prog N.w).is k v=true)→IntsAre vs (kvs.map (·.1))
 | [],[],_,_=>.nil
 | v::vs,kv::kvs,hl,h=>by
  obtain⟨k,x,e,hk⟩:=h 0 v rfl;simp only[List.getElem?_cons_zero,Option.some.injEq]at e;subst e;obtain⟨t,rfl⟩:=Value.isInt_shape hk;exact .cons k t (mj vs kvs (by simpa using hl) fun j u hu=>by simpa using h (j+1) u (by simpa using hu))
 | [],_::_,h,_=>by cases h
 | _::_,[],h,_=>by cases h
theorem th{I:Addr→Option Obj}{kv:List (Int×Value)}{kvs:List (Int×PV)}(h:iq N I kv kvs):kv.map (·.1)=kvs.map (·.1):=by
 induction h with
 | nil=>rfl
 | cons _ _ ih=>exact congrArg (_::·) ih
theorem vn{I:Addr→Option Obj}{vs:List Value}{ns:List Int}(h:IntsAre vs ns):ar N I vs (ns.map .int):=by
 induction h with
 | nil=>exact .nil
 | cons n t _ ih=>exact .cons (.int n t) ih
theorem mQ{v:Value}{d:PV}(K:AOk A)(S:SR N c s.heap)(ha:av N c.I v d)(h:qm c.σ d fun _ kvs=>kvs.length<64∧Q (.list ((fo (kvs.map (·.1))).map .int)) c.σ):WV N A (call (.builtin "sorted") [v]) c s Q:=by
  obtain⟨a,kvs,rfl,q,hlen,h⟩:=rF h;cases ha.toO;obtain⟨lo,kv,hD,r⟩:=S.st a _ q;have hkl:=ja r;obtain⟨ep,hat⟩:=hD.dictAt;refine call_function_entry kind_sorted plain_sorted entry_sorted (args_sorted1 _) ?_;unfold Builtin.«sorted»;refine wpAny_bind (m:=checkCount "sorted" 1 1 _) (wpAny_pure ?_);refine wpAny_bind (kdu_collect (A:=A.in1) (kdl_dict (knd:=intKind N.prog N.w) (kvs:=kv) (ep:=ep) lo) K.h hat (by rw[sizeLine_eq];exact ln [_,_] [.l .p01 (.k 64),.e .x1 .x0] .x1 (.k 16777216) [] rfl hlen hkl) fun h' tk acc hk hacc=>?_);have hl:acc.toList.length=kv.length:=by rw[Array.length_toList];exact hacc.1
  refine wpAny_bind (wpAny_newList ?_ (by rw[hl,sizeLine_eq];exact ln [_,_] [.l .p01 (.k 64),.e .x1 .x0] .x1 (.k 16777216) [] rfl hlen hkl));have hI:IntsAre acc.toList (kv.map (·.1)):=mj (N:=N) acc.toList kv hl (fun j v e=>hacc.2 j v (by rw[←Array.getElem?_toList];exact e));refine wpAny_bind (wpAny_holding ?_);have hD0:(h'.push {cls:=.type "list",data:=.seq acc.toList.toArray}).get? h'.objs.size=some (seqObj "list" acc.toList.toArray 0):=Heap.get?_push_size _ rfl;refine wpAny_call_entry PyProof.Rows.slot_list_sort ⟨_,hD0,rfl⟩ PyProof.Rows.entry_list_sort (list_sort_tree (n:=0) (vs:=acc.toList) hD0 hI (by rw[hl];exact ln [_,_] [.l .p01 (.k 64),.e .x1 .x0] .p11 (.k 64) [] rfl hlen hkl) fun out ns' hI' hp hP=>⟨.none,rfl,?_⟩) (PyProof.Rows.args_list_sort _);have hfr:s.heap.get? h'.objs.size=none:=by
   cases q':s.heap.get? h'.objs.size with
   | none=>rfl
   | some o=>exact absurd (Heap.lt_size (hk _ _ q')) (Nat.lt_irrefl _)
  have hns:ns'=fo (kvs.map (·.1)):=by
   rw[←th r];exact lks_uniq (hp.trans (eQ _).symm) hP (gM _)
  subst hns;have hol:out.toList.length=kvs.length:=by
   rw[hI'.length,(eQ _).length_eq,List.length_map]
  have k1:∀b o,s.heap.get? b=some o→(sortedHeap (h'.push {cls:=.type "list",data:=.seq acc.toList.toArray}) h'.objs.size acc.toList out).get? b=some o:=fun b o e=>by
   have e1:=hk b o e;have ne:b≠h'.objs.size:=Nat.ne_of_lt (Heap.lt_size e1);have s1:Heap.SameBut h'.objs.size (h'.push {cls:=.type "list",data:=.seq acc.toList.toArray}) ((h'.push {cls:=.type "list",data:=.seq acc.toList.toArray}).update h'.objs.size (Obj.mapSeq fun _=>#[])):=Heap.SameBut.update ..;have e2:=(s1.2 b ne).trans (Heap.get?_push_of_some _ e1);have s2:Heap.SameBut h'.objs.size _ (sortedHeap (h'.push {cls:=.type "list",data:=.seq acc.toList.toArray}) h'.objs.size acc.toList out):=Heap.SameBut.update ..
   exact(s2.2 b ne).trans (Heap.get?_push_of_some _ (Heap.get?_push_of_some _ e2))
  have e1:∃n,(sortedHeap (h'.push {cls:=.type "list",data:=.seq acc.toList.toArray}) h'.objs.size acc.toList out).get? h'.objs.size=some (listOf out n):=by
   have a1:=get?_update_seq hD0 (fun _=>#[]);have a2:=Heap.get?_push_of_some (seqObj "tuple" acc.toList.toArray 0) a1;have a3:=Heap.get?_push_of_some (seqObj "list" #[] 0) a2;exact⟨_,get?_update_seq a3 (fun _=>out)⟩
  obtain⟨n1,e1⟩:=e1;refine wpAny_pure ⟨_,rfl,?_⟩;have hal:cU false ((fo (kvs.map (·.1))).map .int) c.σ Q:=⟨by rw[List.length_map,(eQ _).length_eq,List.length_map];show _≤16777216;exact ln [_] [.l .p01 (.k 64)] .x0 (.k 16777216) [] rfl hlen,h⟩
  exact jN (m:=false) (vs:=out.toList) (l:=(fo (kvs.map (·.1))).map .int) S (vn hI') hal k1 hfr e1 ⟨n1,by simp⟩
end Mine
end
section
namespace Mine
open PySem PySem.W PyProof.Rows PySem.Spec PyProof PySem.SeqAt
structure C3(P:Prg)(C:Ctx):Prop where
 fns:C.fns=P.C0.fns
 globs:C.globs=P.C0.globs
 clss:C.clss=P.C0.clss
 attrs:C.attrs=P.C0.attrs
 meths:C.meths=P.C0.meths
 txts:C.txts=P.C0.txts
noncomputable def nN(P:Prg)(Sx:Spec)(r:Nat):Prop:=∀f A c s vs args Q,COk A r→SR P.N c s.heap→ar P.N c.I vs args→Sx f (dQ P.T f args) c.σ Q→
 codeAny (model P.N.prog P.N.w) A (.call (.ref (P.fnA f)) ⟨vs,[]⟩) (pJ P.N c s Q) s
structure Wd where
 P:Prg
 Sx:Spec
 r:Nat
 F:eJ P
 CS:nN P Sx r
noncomputable abbrev Wd.N(w:Wd):Nm:=w.P.N
noncomputable abbrev Wd.T(w:Wd):lL:=w.P.T
noncomputable abbrev Wd.M(w:Wd):Model:=model w.P.N.prog w.P.N.w
structure At(w:Wd)(C:Ctx)(env:Env)(A:Around)(c:Cfg)(s:Shared)(loc:List PV):Prop where
 same:C3 w.P C
 ctx:cf C env
 g:wy env
 a:FOk A w.r
 S:SR w.N c s.heap
 L:LR w.N C env c s.heap loc
section
variable {N:Nm} {A:Around} {c c':Cfg} {s s':Shared} {Q Q':KV}
theorem WV.seq{t:Sem Value}{k:Value→Shared→Prop}(h:WV N A t c s Q)(hk:∀v s' c' d,Go N NoX c s c' s'→av N c'.I v d→Q d c'.σ→k v s'):wpAny (model N.prog N.w) A t k NoE s:=
 wpAny_mono h (fun v s' h=>h.casesOn fun G r q=>hk v s' _ _ G r q) (fun _ _ e=>e)
theorem lift{t:Sem Value}(G:Go N NoX c s c' s')(h:wpAny (model N.prog N.w) A t (ca N c' s' Q) NoE s'):wpAny (model N.prog N.w) A t (ca N c s Q) NoE s':=
 wpAny_mono h (fun _ _ x=>x.trans G) fun _ _ e=>e
inductive pN(N:Nm)(c:Cfg)(s:Shared)(R:Bool→Sto→Prop)(b:Bool)(s':Shared):Prop
 | mk {c':Cfg} (G:Go N NoX c s c' s') (q:R b c'.σ)
inductive CY(N:Nm)(c:Cfg)(s:Shared)(R:List PV→Sto→Prop)(vs:List Value)(s':Shared):Prop
 | mk {c':Cfg} {ds:List PV} (G:Go N NoX c s c' s') (r:ar N c'.I vs ds) (q:R ds c'.σ)
theorem pN.trans{R:Bool→Sto→Prop}{b:Bool}{s1:Shared}(G:Go N NoX c s c' s')(h:pN N c' s' R b s1):pN N c s R b s1:=by
 cases h with|mk G' q=>exact⟨G.trans G',q⟩
end
noncomputable abbrev WB(N:Nm)(A:Around)(t:Sem Bool)(c:Cfg)(s:Shared)(R:Bool→Sto→Prop):Prop:=wpAny (model N.prog N.w) A t (pN N c s R) NoE s
noncomputable abbrev WL(N:Nm)(A:Around)(t:Sem (List Value))(c:Cfg)(s:Shared)(R:List PV→Sto→Prop):Prop:=wpAny (model N.prog N.w) A t (CY N c s R) NoE s
noncomputable abbrev IsB(R:Bool→Sto→Prop):KV:=fun v σ=>asB v fun b=>R b σ
section
variable {N:Nm} {A:Around} {c c':Cfg} {s s':Shared}
theorem WB.seq{t:Sem Bool}{R:Bool→Sto→Prop}{k:Bool→Shared→Prop}(h:WB N A t c s R)(hk:∀b s' c',Go N NoX c s c' s'→R b c'.σ→k b s'):wpAny (model N.prog N.w) A t k NoE s:=
 wpAny_mono h (fun v s' h=>h.casesOn fun G q=>hk v s' _ G q) (fun _ _ e=>e)
theorem WL.seq{t:Sem (List Value)}{R:List PV→Sto→Prop}{k:List Value→Shared→Prop}(h:WL N A t c s R)(hk:∀v s' c' d,Go N NoX c s c' s'→ar N c'.I v d→R d c'.σ→k v s'):wpAny (model N.prog N.w) A t k NoE s:=
 wpAny_mono h (fun v s' h=>h.casesOn fun G r q=>hk v s' _ _ G r q) (fun _ _ e=>e)
theorem oE{t:Sem Bool}{R:Bool→Sto→Prop}(G:Go N NoX c s c' s')(h:WB N A t c' s' R):wpAny (model N.prog N.w) A t (pN N c s R) NoE s':=
 wpAny_mono h (fun _ _ x=>x.trans G) fun _ _ e=>e
end
structure Pl(e:Expr):Prop where
 star:∀env rest,starEach (e::rest) env=(false,eval e env)::starEach rest env
 mark:∀op,behindInMarks op e=false
 fold:∀x env,foldedSetIterable e env x=pure x
 base:∀a env whole,attributeBase e a env whole=whole
 form:∀o i,subscripted e false o i=operate [o,i] (getItem o i)
 swp:dF e=true∨∀t line env,swapsWith e t line env=pure false
 tpl:yl e=true∨∀ts k p env,swappedStores [.Tuple ts k p] e env=pure none
noncomputable def Di(e:Expr):Prop:=∀env,isTrue e env (eval e env)=(do let v ←eval e env;standAt e.pos;holding [v] (truthy v))
structure aP(w:Wd)(C:Ctx)(e:Expr)(me:ME):Prop where
 ev:∀{env A c s loc Q},At w C env A c s loc→ac w.T w.Sx me loc c.σ Q→WV w.N A (eval e env) c s Q
 ts:∀{env A c s loc R},At w C env A c s loc→ac w.T w.Sx me loc c.σ (IsB R)→WB w.N A (isTrue e env (eval e env)) c s R
 pl:Pl e
noncomputable abbrev CE(w:Wd)(C:Ctx)(e:Expr):Type:={me:ME // aP w C e me}
inductive bB(w:Wd)(C:Ctx):List Expr→List ME→Prop
 | nil:bB w C [] []
 | cons {e me es mes} (h:aP w C e me) (t:bB w C es mes):bB w C (e::es) (me::mes)
noncomputable def qp{w:Wd}{C:Ctx}(f:(e:Expr)→Option (CE w C e)):(es:List Expr)→Option {mes:List ME // bB w C es mes}
 | []=>some ⟨[],.nil⟩
 | e::es=>(f e).bind fun x=>(qp f es).map fun xs=>⟨x.1::xs.1,.cons x.2 xs.2⟩
theorem aP.of{w:Wd}{C:Ctx}{e:Expr}{me:ME}(p:Pl e)(hd:Di e)(h:∀{env A c s loc Q},At w C env A c s loc→ac w.T w.Sx me loc c.σ Q→WV w.N A (eval e env) c s Q):aP w C e me:=
 ⟨h,fun H q=>wpAny_isTrue_value (he:=hd _) ((h H q).seq fun v s1 c1 d G r q=>by
  obtain⟨b,rfl,q⟩:=nK.mp q;cases r.toB;exact wpAny_truthy_bool ⟨G,q⟩),p⟩
theorem sC(a:Addr)(l:List Value):(Code.builtin "type.__call__" ⟨.ref a::l,[]⟩).weight=1:=by rfl
theorem t9(args:Args):(Code.builtin "type.__call__" args).cUnits=1:=by rfl
theorem FOk.c{A:Around}{r:Nat}(K:FOk A r):COk A r:=⟨K.h,by have:=K.d;exact ln [_,_] [.l (.a (.a .x0 (.m 3 .x1)) .k1) (.k 990)] (.a (.a .x0 (.m 3 .x1)) .k1) (.k 992) [] rfl this,by have:=K.u;exact ln [_,_] [.l (.a .x0 (.m 100 .x1)) (.k 8900)] (.a .x0 (.m 100 .x1)) (.k 8960) [] rfl this⟩
theorem FOk.tc{A:Around}{r:Nat}(K:FOk A r)(a:Addr)(l:List Value):COk (A.under (.builtin "type.__call__" ⟨.ref a::l,[]⟩)) r:=
 ⟨K.h,by show A.depth+(Code.builtin "type.__call__" ⟨.ref a::l,[]⟩).weight+3*r<992;rw[sC];have:=K.d;exact ln [_,_] [.l (.a (.a .x0 (.m 3 .x1)) .k1) (.k 990)] (.a (.a .p01 (.m 3 .x1)) .k1) (.k 992) [] rfl this,by show A.units+(Code.builtin "type.__call__" ⟨.ref a::l,[]⟩).cUnits+100*r≤8960;rw[t9];have:=K.u;exact ln [_,_] [.l (.a .x0 (.m 100 .x1)) (.k 8900)] (.a .p01 (.m 100 .x1)) (.k 8960) [] rfl this⟩
section
variable {w:Wd} {C:Ctx} {env:Env} {A:Around} {c c':Cfg} {s s':Shared} {loc:List PV} {Q:KV}
theorem At.go(H:At w C env A c s loc)(G:Go w.N NoX c s c' s'):At w C env A c' s' loc:=⟨H.same,H.ctx,H.g,H.a,G.S,H.L.evo G.E⟩
theorem eF(pos:Pos)(t:Sem Value)(l:List (Bool×Sem Value)):backTo pos ((false,t)::l)=(false,t)::backTo pos l:=rfl
theorem dX{pos:Pos}{es:List Expr}{mes:List ME}(h:bB w C es mes):(backTo pos (starEach es env)).any (·.1)=false:=by
 induction h with
 | nil=>rfl
 | cons h t ih=>rw[h.pl.star,eF,List.any_cons,ih];rfl
theorem gF(pos:Pos){es:List Expr}{mes:List ME}(h:bB w C es mes):∀{c:Cfg} {s:Shared} {R:List PV→Sto→Prop},At w C env A c s loc→
  bP w.T w.Sx mes loc c.σ R→WL w.N A (spliced (backTo pos (starEach es env))) c s R:=by
 induction h with
 | nil=>intro c s R H q;exact wpAny_pure ⟨Go.refl H.S,.nil,q⟩
 | cons h t ih=>
  intro c s R H q;rw[h.pl.star,eF];exact Calls.spliced_cons ((h.ev H q).seq fun v s1 c1 d G r q=>(ih (H.go G) q).seq fun vs s2 c2 ds G2 r2 q2=>⟨G.trans G2,.cons (r.mono G2.E.inc) r2,q2⟩)
theorem kW{f:Value}{pos:Pos}{es:List Expr}{mes:List ME}{K:Args→Shared→Prop}(h:bB w C es mes)
  (q:wpAny w.M A (spliced (backTo pos (starEach es env))) (fun vs s'=>K ⟨vs,[]⟩ s') NoE s):wpAny w.M A (evalArgs f true (backTo pos (starEach es env)) []) K NoE s:=by
 cases h with
 | nil=>
  unfold evalArgs;show wpAny _ A (spliced []>>=_) K NoE s;exact wpAny_bind (wpAny_mono q (fun vs s' h'=>wpAny_holding (wpAny_bind (wpAny_pure (wpAny_bind (wpAny_pure (wpAny_pure h')))))) fun _ _ x=>x)
 | cons h t=>
  rw[h.pl.star,eF]at q⊢;exact Calls.evalArgs_plain q
end
end Mine
end
section
namespace Mine
open PySem PySem.W PyProof.Rows PySem.Spec PyProof PySem.SeqAt
section
variable {w:Wd} {C:Ctx} {env:Env} {A:Around} {c:Cfg} {s:Shared} {loc:List PV} {Q:KV}
theorem At.kindG(H:At w C env A c s loc){x:Str}(h:C.isGlob x=true):env.kindOf x=some .globalImplicit∧(x==("__debug__":Str))=false:=by
 have e:C.kind x=some .globalImplicit:=beq_iff_eq.mp h;exact⟨(H.ctx.kind x).trans e,(H.ctx.names x _ e).1⟩
theorem At.glob(H:At w C env A c s loc){x:Str}{pos:Pos}{v:Value}{R:Value→Shared→Prop}(h:C.isGlob x=true)(e:nsIn w.P.K mainGlobals x=some (some v))(q:R v s):wpAny w.M A (eval (.Name x pos) env) R NoE s:=
 tw w.F H.g H.S (H.kindG h).1 (H.kindG h).2 e q
theorem At.blt(H:At w C env A c s loc){x:Str}{pos:Pos}{v:Value}{R:Value→Shared→Prop}(h:C.isGlob x=true)(hn:x≠"__name__")(e:nsIn w.P.K mainGlobals x=some none)(hv:bootBuiltins x=some v)(q:R v s):wpAny w.M A (eval (.Name x pos) env) R NoE s:=
 wq w.F H.g H.S (H.kindG h).1 (H.kindG h).2 hn e hv q
theorem uK{c':Cfg}{s':Shared}{f:Value}{vs:List Value}(h:codeAny w.M A (.call f ⟨vs,[]⟩) (pJ w.N c' s' Q) s')(G:Go w.N NoX c s c' s'):wpAny w.M A (PySem.call f vs) (ca w.N c s Q) NoE s':=
 lift G (wpAny_call (codeAny_mono h fun rr s2 z=>by cases z with|mk h=>exact h))
theorem iO{f:Value}{first:List Value}{pos:Pos}{args:List Expr}{mes:List ME}{K:List PV→Sto→Prop}(hm:bB w C args mes)(hk:keepIn w.P.K f=true)(H:At w C env A c s loc)(h:bP w.T w.Sx mes loc c.σ K)
  (k:∀c' s' vs ds,Go w.N NoX c s c' s'→ar w.N c'.I vs ds→K ds c'.σ→wpAny w.M A (PySem.call f (first++vs)) (ca w.N c s Q) NoE s'):wpAny w.M A (callWith pos f first (backTo pos (starEach args env)) []) (ca w.N c s Q) NoE s:=
 callWith_of (P:=fun h=>w.P.K.In h) (by rw[dX hm];rfl) (keeps_K hk) (kW hm ((gF pos hm H h).seq fun vs s1 c1 ds G r q=>⟨G.S.kin w.F,k c1 s1 vs ds G r q⟩))
theorem uk{f:Str}{np pos:Pos}{args:List Expr}{mes:List ME}{i:Nat}(hg:C.isGlob f=true)(hf:aF C.fns f=some i)(hm:bB w C args mes)(H:At w C env A c s loc)(h:ac w.T w.Sx (.call i mes) loc c.σ Q):WV w.N A (eval (.Call (.Name f np) args [] pos) env) c s Q:=by
 rw[H.same.fns]at hf;obtain⟨e1,e2⟩:=w.F.fns f i hf;exact wpAny_Call_NameR (H.glob hg e1 (iO (first:=[]) hm e2 H h fun c1 s1 vs ds G r q=>uK (w.CS i A c1 s1 vs ds Q H.a.c G.S r q) G))
theorem l8(h:Heap):h.get? (h.objs.size+1)=none:=by
 cases q:h.get? (h.objs.size+1)with
 | none=>rfl
 | some o=>exact absurd (Heap.lt_size q) (Nat.not_lt.mpr (Nat.le_succ _))
theorem zO{i:Nat}{vs:List Value}{ds:List PV}(H:At w C env A c s loc)(r:ar w.N c.I vs ds)
  (q:onO (w.T.init i) fun f=>∀a,c.σ a=Option.none→w.Sx f (dQ w.T f (.obj a::ds)) (c.σ.set a (.inst i [])) fun r σ₂=>r=.none∧Q (.obj a) σ₂):WV w.N A (PySem.call (.ref (w.N.cls i)) vs) c s Q:=by
 obtain⟨fi,hi,q1⟩:=ku.mp q;have Xk:=H.S.kin w.F;obtain⟨i1,i2⟩:=w.F.init i fi hi;have q2:=q1 (s.heap.objs.size+1) (H.S.sto_none (l8 _));obtain⟨S2,E2⟩:=H.S.instNew (X:=NoX) (k:=i);obtain⟨hh,g,dr,t,os⟩:=s;refine wpAny_call (make_core (makes_of Xk (w.F.cls i).makes) (looks_findIn Xk i1) (fun self=>bind_fn Xk self i2) (.inl rfl) ?_);refine codeAny_mono (w.CS fi _ _ ⟨(hh.push emptyDict).push (instObj (w.P.N.cls i) hh.objs.size),g,dr,t,os⟩ (.ref (hh.objs.size+1)::vs) (.obj (hh.objs.size+1)::ds) _ (H.a.tc _ _) S2 (.cons (.obj _) (r.mono E2.inc)) q2) fun rr s2 z=>?_
 cases z with|mk h=>cases h with|mk G r q=>
  obtain⟨rfl,q⟩:=q;cases r.toN;exact⟨rfl,⟨G.S,E2.trans G.E,G.g,G.o⟩,.obj _,q⟩
theorem w8{f:Str}{np pos:Pos}{args:List Expr}{mes:List ME}{i:Nat}(hg:C.isGlob f=true)(hf:idx C.clss f=some i)(hm:bB w C args mes)(H:At w C env A c s loc)(h:ac w.T w.Sx (.new i mes) loc c.σ Q):WV w.N A (eval (.Call (.Name f np) args [] pos) env) c s Q:=by
 rw[H.same.clss]at hf;exact wpAny_Call_NameR (H.glob hg (w.F.clss f i hf) (iO (first:=[]) hm (w.F.cls i).keep H h fun c1 s1 vs ds G r q=>lift G (zO (H.go G) r q)))
theorem few{pos:Pos}{args:List Expr}{mes:List ME}(hm:bB w C args mes)(hlen:args.length<30):methodCallForm (args.length+([]:List Keyword).length) (backTo pos (starEach args env)) (backToKw pos (keywordEach [] env))=true:=by
 unfold methodCallForm;have e1:(backTo pos (starEach args env)).all (!·.1)=true:=by
  rw[List.all_eq_not_any_not];simp only[Bool.not_not];rw[dX hm];rfl
 rw[e1];exact decide_eq_true hlen
theorem yi{o:Expr}{a:Str}{ap pos:Pos}{args:List Expr}{x:ME}{mes:List ME}{K:KV}(hline:(ap.endLine==pos.line)=true)(hlen:args.length<30)(ho:aP w C o x)(hm:bB w C args mes)(H:At w C env A c s loc)(h:ac w.T w.Sx x loc c.σ K)
  (k:∀v s1 c1 d pl,Go w.N NoX c s c1 s1→av w.N c1.I v d→K d c1.σ→wpAny w.M A (getMethod v a pl) (fun f s2=>wpAny w.M A (callWith pos f.1 f.2 (backTo pos (starEach args env)) []) (ca w.N c s Q) NoE s2) NoE s1):
  WV w.N A (eval (.Call (.Attribute o a ap) args [] pos) env) c s Q:=by
 rw[arm_eval_Call];rw[ho.pl.base];refine wpAny_bind ((ho.ev H h).seq fun v s1 c1 d G r q=>wpAny_bind (wpAny_standAt ?_));unfold methodCall;rw[few hm hlen];refine wpAny_bind (wpAny_holding (wpAny_mono (k v s1 c1 d _ G r q) (fun f s2 h2=>wpAny_bind ?_) fun _ _ e=>e));unfold methodCallPos;rw[hline];exact wpAny_pure h2
theorem uf{o:Expr}{a:Str}{ap pos:Pos}{args:List Expr}{x:ME}{mes:List ME}{i:Nat}(hi:idx C.meths a=some i)(hline:(ap.endLine==pos.line)=true)(hlen:args.length<30)(ho:aP w C o x)(hm:bB w C args mes)(H:At w C env A c s loc)(h:ac w.T w.Sx (.meth x i mes) loc c.σ Q):
  WV w.N A (eval (.Call (.Attribute o a ap) args [] pos) env) c s Q:=by
 rw[H.same.meths]at hi;refine yi hline hlen ho hm H h fun v s1 c1 d pl G r q=>?_
 obtain⟨p,cl,fs,rfl,q2,q1⟩:=ql q;obtain⟨f,q3,q1⟩:=ku.mp q1;obtain⟨es,k,I,D,rf⟩:=na G.S q2;cases r.toO;have O:=w.F.cls cl;obtain⟨m1,m2,m3,m4⟩:=w.F.meth cl i f q3;rw[w.F.meths a i hi]at m1 m2;refine method_fn (G.S.kin w.F) I (plainGet_of O.get).1 (plainGet_of O.get).2 m1 m3 ?_ ?_
 ·show(lookIn a (dictOf es k)).map _=_;rw[lookIn_dict];unfold getL;rw[tA m2 rf,kO rf];rfl
 ·exact lift G (iO (first:=[.ref p]) hm m4 (H.go G) q1 fun c2 s2 vs ds G2 r2 q2=>uK (w.CS f A c2 s2 (.ref p::vs) (.obj p::ds) Q H.a.c G2.S (.cons (.obj p) r2) q2) G2)
theorem pV{o:Expr}{a:Str}{ap pos:Pos}{e:Expr}{x y:ME}{id:String}{K:PV→PV→Sto→Prop}(slot:Slot "list" a id)(hty:typeOf (.builtin id)=pure (.type "method_descriptor"))
  (hk:∀{v w' c' s' d e},SR w.N c' s'.heap→av w.N c'.I v d→av w.N c'.I w' e→K d e c'.σ→WV w.N A (call (.builtin id) [v,w']) c' s' Q)
  (hline:(ap.endLine==pos.line)=true) (ho:aP w C o x) (he:aP w C e y) (H:At w C env A c s loc)
  (h:ac w.T w.Sx x loc c.σ fun v σ₁=>(cS σ₁ v).isSome=true∧ac w.T w.Sx y loc σ₁ fun w σ₂=>K v w σ₂):
  WV w.N A (eval (.Call (.Attribute o a ap) [e] [] pos) env) c s Q:=by
 have hm:bB w C [e] [y]:=.cons he .nil;refine yi hline (show 1<30 by decide) ho hm H h fun v s1 c1 d pl G r q=>?_
 obtain⟨l,hl⟩:=Option.isSome_iff_exists.mp q.1;obtain⟨p,vs,k,rfl,g,rv,_⟩:=bX G.S r hl;refine getMethod_builtin ⟨_,g,rfl⟩ PySem.F.plainAttrs_list slot hty (fun b hb=>?_) ?_
 ·cases hb;exact⟨_,g,rfl⟩
 ·refine Calls.callWith_builtin (dX hm) (kW hm ?_);rw[he.pl.star];exact Calls.spliced_cons ((he.ev (H.go G) q.2).seq fun w s2 c2 d2 G2 r2 q2=>Calls.spliced_nil (lift (G.trans G2) (hk G2.S (r.mono G2.E.inc) r2 q2)))
theorem nJ{f:Str}{np pos:Pos}{e:Expr}{y:ME}{id:String}{K:PV→Sto→Prop}(hf:f∈fQ)(hv:bootBuiltins f=some (.builtin id))(hn:f≠"__name__")
  (hk:∀{v c' s' d},SR w.N c' s'.heap→av w.N c'.I v d→K d c'.σ→WV w.N A (call (.builtin id) [v]) c' s' Q) (hg:C.isGlob f=true) (he:aP w C e y) (H:At w C env A c s loc) (h:ac w.T w.Sx y loc c.σ K):WV w.N A (eval (.Call (.Name f np) [e] [] pos) env) c s Q:=by
 have hm:bB w C [e] [y]:=.cons he .nil;refine wpAny_Call_NameR (H.blt hg hn (w.F.blts f hf) hv (Calls.callWith_builtin (dX hm) (kW hm ?_)));rw[he.pl.star];exact Calls.spliced_cons ((he.ev H h).seq fun w s2 c2 d2 G r q=>Calls.spliced_nil (lift G (hk G.S r q)))
theorem r9{f:Str}{np pos:Pos}{e e':Expr}{y y':ME}{id:String}{K:PV→PV→Sto→Prop}(hf:f∈fQ)(hv:bootBuiltins f=some (.builtin id))(hn:f≠"__name__")
  (hk:∀{v w' c' s' d d'},SR w.N c' s'.heap→av w.N c'.I v d→av w.N c'.I w' d'→K d d' c'.σ→WV w.N A (call (.builtin id) [v,w']) c' s' Q) (hg:C.isGlob f=true) (he:aP w C e y) (he':aP w C e' y') (H:At w C env A c s loc)
  (h:ac w.T w.Sx y loc c.σ fun a σ₁=>ac w.T w.Sx y' loc σ₁ fun b σ₂=>K a b σ₂):WV w.N A (eval (.Call (.Name f np) [e,e'] [] pos) env) c s Q:=by
 have hm:bB w C [e,e'] [y,y']:=.cons he (.cons he' .nil);refine wpAny_Call_NameR (H.blt hg hn (w.F.blts f hf) hv (Calls.callWith_builtin (dX hm) (kW hm ?_)));rw[he.pl.star,eF,he'.pl.star];exact Calls.spliced_cons ((he.ev H h).seq fun v s1 c1 d1 G r q=>Calls.spliced_cons ((he'.ev (H.go G) q).seq fun w s2 c2 d2 G2 r2 q2=>Calls.spliced_nil (lift (G.trans G2) (hk G2.S (r.mono G2.E.inc) r2 q2))))
theorem ui{np pos:Pos}{e:Expr}{y:ME}(hg:C.isGlob "list"=true)(he:aP w C e y)(H:At w C env A c s loc)(h:ac w.T w.Sx y loc c.σ fun v σ=>onE σ v fun l=>Q (.list l) σ):WV w.N A (eval (.Call (.Name "list" np) [e] [] pos) env) c s Q:=by
 have hm:bB w C [e] [y]:=.cons he .nil;refine wpAny_Call_NameR (H.blt (v:=.type "list") hg (by decide) (w.F.blts "list" (by decide)) (by decide+kernel) (PySem.callWith_type (dX hm) (kW hm ?_)));rw[he.pl.star];exact Calls.spliced_cons ((he.ev H h).seq fun w s2 c2 d2 G r q=>Calls.spliced_nil (lift G (qP G.S r q)))
end
end Mine
end
section
namespace Mine
open PySem PySem.W PyProof.Rows PySem.Spec PyProof PySem.SeqAt
section
variable {w:Wd} {C:Ctx} {env:Env} {A:Around} {c:Cfg} {s:Shared} {loc:List PV} {Q:KV}
theorem ul{o:Expr}{a:Str}{pos:Pos}{x:ME}{i:Nat}(hi:idx C.attrs a=some i)(ho:aP w C o x)(H:At w C env A c s loc)(h:ac w.T w.Sx (.attr x i) loc c.σ Q):WV w.N A (eval (.Attribute o a pos) env) c s Q:=by
 rw[H.same.attrs]at hi;obtain⟨hn,rfl⟩:=w.F.attrs a i hi;rw[arm_eval_Attribute,ho.pl.base];exact wpAny_bind ((ho.ev H h).seq fun v s1 c1 d G r q=>wpAny_bind (wpAny_standAt (wpAny_bind (wpAny_holding (wpAny_mono (lift G (qX w.F hn G.S r q)) (fun v' s2 h2=>wpAny_bind (wpAny_letTemporaryGo (wpAny_pure h2))) fun _ _ e=>e)))))
theorem gip{v:Value}{T id:String}{K:Bool→Shared→Prop}(hT:s.TypeIs v T)(hl:typeLookup (.type T) "__getitem__"=pure (some (.builtin id)))(h:K false s):wpAny w.M A (getitemInPython v) K NoE s:=by
 rw[getitemInPython_of_ne hT.not_modules];exact wpAny_bind (wpAny_specialOf hT hl (wpAny_pure h))
theorem xF{v:Value}{d:PV}{k:Int}{K:Bool→Shared→Prop}{R:PV→Prop}(S:SR w.N c s.heap)(hv:av w.N c.I v d)(h:BI d k c.σ R)(hK:K false s):wpAny w.M A (getitemInPython v) K NoE s:=by
 cases d with
 | tup l=>
  obtain⟨p,vs,rfl,hp,_⟩:=ir S hv;exact gip hp.typeIs PySem.F.slot_tuple_getitem.lookup hK
 | obj a=>
  cases hv.toO;have h:wV (c.σ a) k R:=h;cases q:c.σ a with
  | none=>rw[q]at h;exact h.elim
  | some o=>
   rw[q]at h;cases o with
   | dict kvs=>
    obtain⟨z,kv,hD,r⟩:=S.st a _ q;exact gip hD.typeIs slot_dict_getitem.lookup hK
   | list l=>
    obtain⟨o,vs,g,ho,_⟩:=S.st a _ q;exact gip (cD g ho).typeIs list_getitem_lookup hK
   | _=>exact h.elim
 | list l=>
  obtain⟨p,vs,rfl,hp,_⟩:=g7 S hv;exact gip hp.typeIs list_getitem_lookup hK
 | _=>exact h.elim
theorem jS{value slice:Expr}{pos:Pos}{v u:Value}{ops:List Value}{K:Value→Shared→Prop}(h:subscripted slice false v u=operate ops (getItem v u))
  (hg:∀R:Bool→Shared→Prop,R false s→wpAny w.M A (getitemInPython v) R NoE s) (q:wpAny w.M A (getItem v u) K NoE s):
  wpAny w.M A (do standAt pos;let r ←subscripted slice (←getitemInPython v) v u;letTemporaryGo value v r;pure r) K NoE s:=by
 refine wpAny_bind (wpAny_standAt (wpAny_bind (hg _ (wpAny_bind ?_))));rw[h];exact wpAny_operating (wpAny_mono q (fun r s2 h2=>wpAny_bind (wpAny_letTemporaryGo (wpAny_pure h2))) fun _ _ e=>e)
theorem w5{o i:Expr}{pos:Pos}{x y:ME}(ho:aP w C o x)(hi:aP w C i y)(H:At w C env A c s loc)(h:ac w.T w.Sx (.sub x y) loc c.σ Q):WV w.N A (eval (.Subscript o i pos) env) c s Q:=by
 rw[arm_eval_Subscript];refine wpAny_bind ((ho.ev H h).seq fun v s1 c1 d G r q=>wpAny_bind (wpAny_holding ((hi.ev (H.go G) q).seq fun u s2 c2 e G2 r2 q2=>?_)));have r':=r.mono G2.E.inc;obtain⟨k,rfl,q3⟩:=cK q2;exact jS (hi.pl.form _ _) (fun R hR=>xF G2.S r' q3 hR) (lift (G.trans G2) (sF G2.S r' r2 q2))
inductive tV(w:Wd)(C:Ctx):Option Expr→Option ME→Prop
 | none:tV w C none none
 | some {e me} (h:aP w C e me):tV w C (some e) (some me)
theorem kq{lo:Option Expr}{mlo:Option ME}{K:Option PV→Sto→Prop}{k:Value→Shared→Prop}(hl:tV w C lo mlo)(H:At w C env A c s loc)
  (h:qF w.T w.Sx mlo loc c.σ K) (hk:∀v s' c' d,Go w.N NoX c s c' s'→q8 w.N c'.I v d→K d c'.σ→k v s'):wpAny w.M A (evalPart lo env) k NoE s:=by
 cases hl with
 | none=>exact wpAny_pure (hk _ _ c none (Go.refl H.S) rfl h)
 | some he=>exact(he.ev H h).seq fun v s1 c1 d G r q=>hk v s1 c1 (some d) G r q
theorem mw{v:Value}{d:PV}{l:List PV}{s':Shared}{K:Bool→Shared→Prop}(S:SR w.N c s.heap)(hv:av w.N c.I v d)(h:cS c.σ d=some l)(hk:∀b o,s.heap.get? b=some o→s'.heap.get? b=some o)(hK:K false s'):
  wpAny w.M A (getitemInPython v) K NoE s':=by
 obtain⟨p,vs,k,rfl,g,_⟩:=bX S hv h;exact gip (s:=s') (T:="list") ⟨_,hk _ _ g,rfl⟩ list_getitem_lookup hK
theorem sG{o:Expr}{lo hi:Option Expr}{p pos:Pos}{x:ME}{ml mh:Option ME}(ho:aP w C o x)(hl:tV w C lo ml)(hh:tV w C hi mh)(H:At w C env A c s loc)(h:ac w.T w.Sx (.slice x ml mh) loc c.σ Q):
  WV w.N A (eval (.Subscript o (.Slice lo hi none p) pos) env) c s Q:=by
 rw[arm_eval_Subscript];refine wpAny_bind ((ho.ev H h).seq fun v s1 c1 d G1 r1 q1=>wpAny_bind (wpAny_holding (wpAny_Slice (kq hl (H.go G1) q1 fun vl s2 c2 dl G2 r2 q2=>kq hh (H.go (G1.trans G2)) q2 fun vh s3 c3 dh G3 r3 q3=>?_))));rw[evalPart_none];refine wpAny_pure ?_;have r1':=r1.mono (G2.E.trans G3.E).inc;obtain⟨l,hel,_⟩:=iC q3;exact jS rfl (fun R hR=>mw G3.S r1' hel (fun b o e=>Heap.get?_push_of_some _ e) hR) (wpAny_mono (n9 G3.S r1' (r2.mono G3.E.inc) r3 q3) (fun _ _ z=>z.trans (G1.trans (G2.trans G3))) fun _ _ e=>e)
theorem w6{o:Expr}{k:Nat}{p p1 p2 pos:Pos}{x:ME}(ho:aP w C o x)(H:At w C env A c s loc)(h:ac w.T w.Sx (.rev x) loc c.σ Q):WV w.N A (eval (.Subscript o (.Slice none none (some (.UnaryOp .USub (.Constant (.int 1) k p1) p2)) p) pos) env) c s Q:=by
 rw[arm_eval_Subscript];refine wpAny_bind ((ho.ev H h).seq fun v s1 c1 d G r1 q1=>wpAny_bind (wpAny_holding (wpAny_Slice ?_)));obtain⟨l,rfl,q1⟩:=ls q1;rw[evalPart_none];refine wpAny_pure (wpAny_pure ?_);rw[evalPart_some];refine wpAny_UnaryOp (wpAny_Constant_int (PyProof.Rows.neg_int ?_));exact jS rfl (fun R hR=>mw G.S r1 (l:=l) rfl (fun b o e=>Heap.get?_push_of_some _ e) hR) (wpAny_mono (sN (s:={s1 with toks:=s1.toks+1+1}) G.S r1 q1) (fun _ _ z=>z.trans (c₁:=c1) (s₁:={s1 with toks:=s1.toks+1+1}) ⟨G.S,G.E,G.g,G.o⟩) fun _ _ e=>e)
theorem xb{a b:Expr}{op:Operator}{o:BOp}{m:Bool}{pos:Pos}{x y:ME}(ho:yG w.N op o)(ha:aP w C a x)(hb:aP w C b y)(H:At w C env A c s loc)(h:ac w.T w.Sx (.bin m o x y) loc c.σ Q):WV w.N A (eval (.BinOp a op b pos) env) c s Q:=
 wpAny_BinOp ((ha.ev H h).seq fun v s1 c1 d G r q=>(hb.ev (H.go G) q).seq fun u s2 c2 e G2 r2 q2=>lift (G.trans G2) (ho G2.S (r.mono G2.E.inc) r2 q2))
theorem iS{op:CmpOp}{o:COp}{v u:Value}{d e:PV}{K:Bool→Prop}{k:Value→Shared→Prop}(ho:pM w.N op o)(H:At w C env A c s loc)(r:av w.N c.I v d)(r2:av w.N c.I u e)(q:onO (li o c.σ d e) K)
  (hk:∀b s',Go w.N NoX c s c s'→K b→k (.bool b) s'):wpAny w.M A (compareOp op v u) k NoE s:=by
 obtain⟨b,q3,q4⟩:=ku.mp q;exact wpAny_mono (ho H.a.ok H.S r r2 q3) (fun u s3 z=>by rw[z.e];exact hk b s3 ⟨H.S.ext z.hk,Evo.ext z.hk,z.g,z.o⟩ q4) fun _ _ e=>e
theorem xa{a b:Expr}{op:CmpOp}{o:COp}{pos:Pos}{x y:ME}(ho:pM w.N op o)(ha:aP w C a x)(hb:aP w C b y):aP w C (.Compare a [op] [b] pos) (.cmp o x y) where
 ev:=fun H h=>wpAny_Compare1 ((ha.ev H h).seq fun v s1 c1 d G r q=>(hb.ev (H.go G) q).seq fun u s2 c2 e G2 r2 q2=>iS ho ((H.go G).go G2) (r.mono G2.E.inc) r2 q2 fun b s3 G3 q=>⟨(G.trans G2).trans G3,.bool b,q⟩) (hb.pl.mark op)
 ts:=fun H h=>wpAny_isTrue_Compare1 ((ha.ev H h).seq fun v s1 c1 d G r q=>(hb.ev (H.go G) q).seq fun u s2 c2 e G2 r2 q2=>iS ho ((H.go G).go G2) (r.mono G2.E.inc) r2 q2 fun b s3 G3 q=>wpAny_truthy_bool ⟨(G.trans G2).trans G3,q⟩) (hb.pl.mark op)
 pl:=⟨fun _ _=>rfl,fun _=>rfl,fun _ _=>rfl,fun _ _ _=>rfl,fun _ _=>rfl,.inr fun _ _ _=>rfl,.inr fun _ _ _ _=>rfl⟩
theorem uj{a b e:Expr}{op1 op2:CmpOp}{p1 p2:COp}{pos:Pos}{x y z:ME}(h1:pM w.N op1 p1)(h2:pM w.N op2 p2)(ha:aP w C a x)(hb:aP w C b y)(he:aP w C e z):aP w C (.Compare a [op1,op2] [b,e] pos) (.cmp2 p1 p2 x y z) where
 ev:=fun H h=>Compare_chain ((ha.ev H h).seq fun v s1 c1 d G r q=>chain_link ((hb.ev (H.go G) q).seq fun u s2 c2 e G2 r2 q2=>iS h1 ((H.go G).go G2) (r.mono G2.E.inc) r2 q2 fun t s3 G3 q=>wpAny_truthy_bool (by
  have G':=(G.trans G2).trans G3;cases t with
  | false=>exact⟨G',.bool _,q⟩
  | true=>exact chain_last ((he.ev (H.go G') q).seq fun u' s4 c4 d4 G4 r4 q5=>iS h2 ((H.go G').go G4) (r2.mono G4.E.inc) r4 q5 fun b s5 G5 q=>⟨(G'.trans G4).trans G5,.bool b,q⟩)))) (he.pl.mark op2)
 ts:=fun H h=>isTrue_chain ((ha.ev H h).seq fun v s1 c1 d G r q=>test_link ((hb.ev (H.go G) q).seq fun u s2 c2 e G2 r2 q2=>iS h1 ((H.go G).go G2) (r.mono G2.E.inc) r2 q2 fun t s3 G3 q=>wpAny_truthy_bool (by
  have G':=(G.trans G2).trans G3;cases t with
  | false=>exact⟨G',q⟩
  | true=>exact test_last ((he.ev (H.go G') q).seq fun u' s4 c4 d4 G4 r4 q5=>iS h2 ((H.go G').go G4) (r2.mono G4.E.inc) r4 q5 fun b s5 G5 q=>wpAny_truthy_bool ⟨(G'.trans G4).trans G5,q⟩)))) (he.pl.mark op2)
 pl:=⟨fun _ _=>rfl,fun _=>rfl,fun _ _=>rfl,fun _ _ _=>rfl,fun _ _=>rfl,.inr fun _ _ _=>rfl,.inr fun _ _ _ _=>rfl⟩
noncomputable def boM:BoolOp→ME→ME→ME
 | .And=>.and
 | .Or=>.or
structure wC(w:Wd)(C:Ctx)(op:BoolOp)(es:List Expr)(me:ME):Prop where
 ev:∀{env A c s loc Q pos},At w C env A c s loc→ac w.T w.Sx me loc c.σ Q→WV w.N A (boolOp pos op (evalEach es env)) c s Q
 ts:∀{env A c s loc R},At w C env A c s loc→ac w.T w.Sx me loc c.σ (IsB R)→WB w.N A (allTrue op es env) c s R
theorem AC{op:BoolOp}{a:Expr}{x:ME}(ha:aP w C a x):wC w C op [a] x where
 ev:=fun H h=>by unfold boolOp evalEach evalEach;exact ha.ev H h
 ts := fun H h => by
  cases op with
  | And=>exact wpAny_allTrue_And_cons (wpAny_mono (ha.ts H h) (fun b s1 h1=>by
    cases b with
    | false=>exact h1
    | true=>exact wpAny_allTrue_And_nil h1) fun _ _ e=>e)
  | Or=>exact wpAny_allTrue_Or_cons (wpAny_mono (ha.ts H h) (fun b s1 h1=>by
    cases b with
    | true=>exact h1
    | false=>exact wpAny_allTrue_Or_nil h1) fun _ _ e=>e)
theorem r8{op:BoolOp}{pos:Pos}{t u:Sem Value}{rest:List (Sem Value)}{K:Value→Shared→Prop}(h:wpAny w.M A t (fun v s1=>∃b,v=.bool b∧match op,b with| .And,false| .Or,true=>K v s1|_,_=>wpAny w.M A (boolOp pos op (u::rest)) K NoE s1) NoE s):
  wpAny w.M A (boolOp pos op (t::u::rest)) K NoE s:=by
 unfold boolOp;refine wpAny_bind (wpAny_mono h (fun v s1 h1=>wpAny_bind (wpAny_standAt (wpAny_bind (wpAny_holding ?_)))) fun _ _ e=>e);obtain⟨b,rfl,h1⟩:=h1;refine wpAny_truthy_bool ?_;cases op<;>cases b<;>first|exact wpAny_pure h1|exact h1
theorem xS{op:BoolOp}{a b:Expr}{es:List Expr}{x y:ME}(ha:aP w C a x)(t:wC w C op (b::es) y):wC w C op (a::b::es) (boM op x y) where
 ev := fun H h => by
  cases op with
  | And=>exact r8 ((ha.ev H h).seq fun v s1 c1 d G r q=>by
    obtain⟨b,rfl,q⟩:=nK.mp q;cases r.toB;cases b with
    | false=>exact⟨_,rfl,G,.bool _,q⟩
    | true=>exact⟨_,rfl,lift G (t.ev (H.go G) q)⟩)
  | Or=>exact r8 ((ha.ev H h).seq fun v s1 c1 d G r q=>by
    obtain⟨b,rfl,q⟩:=nK.mp q;cases r.toB;cases b with
    | true=>exact⟨_,rfl,G,.bool _,q⟩
    | false=>exact⟨_,rfl,lift G (t.ev (H.go G) q)⟩)
 ts := fun {env A c s loc R} H h => by
  cases op with
  | And=>exact wpAny_allTrue_And_cons ((ha.ts (R:=fun b σ=>if b=true then ac w.T w.Sx y loc σ (IsB R)else IsB R (.bool false) σ) H h).seq fun b s1 c1 G q=>by
    cases b with
    | false=>exact⟨G,q⟩
    | true=>exact oE G (t.ts (H.go G) q))
  | Or=>exact wpAny_allTrue_Or_cons ((ha.ts (R:=fun b σ=>if b=true then IsB R (.bool true) σ else ac w.T w.Sx y loc σ (IsB R)) H h).seq fun b s1 c1 G q=>by
    cases b with
    | true=>exact⟨G,q⟩
    | false=>exact oE G (t.ts (H.go G) q))
theorem yQ{op:BoolOp}{es:List Expr}{pos:Pos}{x:ME}(h:wC w C op es x):aP w C (.BoolOp op es pos) x where
 ev:=fun H q=>h.ev H q
 ts:=fun H q=>by rw[arm_isTrue_BoolOp];exact h.ts H q
 pl:=⟨fun _ _=>rfl,fun _=>rfl,fun _ _=>rfl,fun _ _ _=>rfl,fun _ _=>rfl,.inr fun _ _ _=>rfl,.inr fun _ _ _ _=>rfl⟩
theorem w7{a:Expr}{pos:Pos}{x:ME}(ha:aP w C a x):aP w C (.UnaryOp .Not a pos) (.not x) where
 ev:=fun H h=>wpAny_UnaryOp ((ha.ev H h).seq fun v s1 c1 d G r q=>not_value (by
  obtain⟨b,rfl,q⟩:=nK.mp q;cases r.toB;exact wpAny_truthy_bool ⟨G,.bool _,q⟩))
 ts:=fun{env A c s loc R} H h=>wpAny_isTrue_Not ((ha.ts (R:=fun b σ=>IsB R (.bool (!b)) σ) H h).seq fun b s1 c1 G q=>⟨G,q⟩)
 pl:=⟨fun _ _=>rfl,fun _=>rfl,fun _ _=>rfl,fun _ _ _=>rfl,fun _ _=>rfl,.inr fun _ _ _=>rfl,.inr fun _ _ _ _=>rfl⟩
theorem w9{t a b:Expr}{pos:Pos}{x y z:ME}(ht:aP w C t x)(ha:aP w C a y)(hb:aP w C b z):aP w C (.IfExp t a b pos) (.ite x y z) where
 ev:=fun{env A c s loc Q} H h=>wpAny_IfExp ((ht.ts (R:=fun b σ=>if b=true then ac w.T w.Sx y loc σ Q else ac w.T w.Sx z loc σ Q) H h).seq fun v s1 c1 G q=>by
  cases v with
  | true=>exact lift G (ha.ev (H.go G) q)
  | false=>exact lift G (hb.ev (H.go G) q))
 ts:=fun{env A c s loc R} H h=>by
  rw[arm_isTrue_IfExp];exact wpAny_bind ((ht.ts (R:=fun b σ=>if b=true then ac w.T w.Sx y loc σ (IsB R)else ac w.T w.Sx z loc σ (IsB R)) H h).seq fun v s1 c1 G q=>by
   cases v with
   | true=>exact oE G (ha.ts (H.go G) q)
   | false=>exact oE G (hb.ts (H.go G) q))
 pl:=⟨fun _ _=>rfl,fun _=>rfl,fun _ _=>rfl,fun _ _ _=>rfl,fun _ _=>rfl,.inr fun _ _ _=>rfl,.inr fun _ _ _ _=>rfl⟩
theorem ug{es:List Expr}{pos:Pos}{mes:List ME}{m:Bool}(hm:bB w C es mes)(H:At w C env A c s loc)(h:ac w.T w.Sx (.list m mes) loc c.σ Q):WV w.N A (eval (.List es pos) env) c s Q:=
 wpAny_List ((gF pos hm H h).seq fun vs s1 c1 ds G r q=>⟨by rw[r.length];exact q.1,(jy (tk:=s1.toks) (n:=0) G.S r q).trans G⟩)
theorem wN{vs:List Value}{ds:List PV}(S:SR w.N c s.heap)(r:ar w.N c.I vs ds)(q:ds.length≤big∧Q (.tup ds) c.σ):ca w.N c s Q (.ref s.heap.objs.size) {s with heap:=s.heap.push {cls:=.type "tuple",data:=.seq vs.toArray}}:=by
 obtain⟨S',E'⟩:=S.freezeNew (X:=NoX) (o:={cls:=.type "tuple",data:=.seq vs.toArray}) (fun _ _ e=>Heap.get?_push_of_some _ e) (bf _) (Heap.get?_push_size _ rfl);exact⟨⟨S',E',rfl,rfl⟩,.tup (if_pos rfl) ⟨by rw[r.length];exact q.1,rfl,0,rfl⟩ (r.mono E'.inc),q.2⟩
theorem mR{es:List Expr}{k:Nat}{pos:Pos}{mes:List ME}(hm:bB w C es mes)(H:At w C env A c s loc)(h:ac w.T w.Sx (.tup mes) loc c.σ Q):WV w.N A (eval (.Tuple es k pos) env) c s Q:=
 wpAny_Tuple ((gF pos hm H h).seq fun vs s1 c1 ds G r q=>⟨by rw[r.length];exact q.1,(wN G.S r q).trans G⟩)
theorem tz(F:eJ w.P)(S:SR w.N c s.heap):(s.heap.objs.size==sysModules)=false:=by
 obtain⟨mg,o,es,ep,e,_⟩:=F.g;have h3:(3:Nat)<s.heap.objs.size:=Heap.lt_size (S.old _ _ e);exact beq_eq_false_iff_ne.mpr fun z=>by rw[z]at h3;exact absurd h3 (by decide)
theorem sH{pos:Pos}(H:At w C env A c s loc)(h:ac w.T w.Sx .edict loc c.σ Q):WV w.N A (eval (.Dict [] [] pos) env) c s Q:=by
 refine wpAny_Dict_empty ?_;obtain⟨S',E'⟩:=H.S.putNew (X:=NoX) (x:=.dict []) (a:=s.heap.objs.size) (h':=s.heap.push {cls:=.type "dict",data:=.dict #[]}) (fun _ _ e=>Heap.get?_push_of_some _ e) (bf _) (fun _ _ z=>by cases z)
  ⟨tz w.F H.S,[],Heap.DictOf.new _,.nil⟩
 exact⟨⟨S',E',rfl,rfl⟩,.obj _,h _ (H.S.sto_none (bf _))⟩
end
end Mine
end
section
namespace Mine
open PySem PySem.W PyProof.Rows PySem.Spec PyProof PySem.SeqAt
variable {N:Nm} {c c0 c':Cfg} {h h0 h':Heap} {W X Z:Addr→Prop} {A:Around} {s:Shared}
structure Stp(W:Addr→Prop)(c:Cfg)(h:Heap)(c2:Cfg)(h2:Heap):Prop where
 hk:∀b o,¬W b→h.get? b=some o→h2.get? b=some o
 inc:∀a o,c.I a=some o→c2.I a=some o
 inew:∀b o,c2.I b=some o→c.I b=some o∨h.get? b=none
 sig:c2.σ=c.σ
 D:c2.D=c.D
theorem Stp.foot{c2:Cfg}{h2:Heap}(t:Stp W c h c2 h2){b:Addr}:bG c2 b↔bG c b:=by unfold bG;rw[t.sig,t.D]
theorem Evo.stp{c2:Cfg}{h2:Heap}(E:Evo Z c0 h0 c h)(t:Stp W c h c2 h2)(fr:∀b,W b→h0.get? b=none):Evo Z c0 h0 c2 h2 where
 inc:=fun a o e=>t.inc a o (E.inc a o e)
 keep:=fun b o e nf nx=>t.hk b o (fun w=>by rw[fr b w]at e;cases e) (E.keep b o e nf nx)
 live:=fun b e=>by
  by_cases w:W b
  ·exact fr b w
  ·refine E.live b ?_;cases q:h.get? b with
   | none=>rfl
   | some o=>rw[t.hk b o w q]at e;cases e
 foot:=fun b f=>E.foot b (t.foot.mp f)
 inew:=fun b o e=>(t.inew b o e).elim (fun z=>E.inew b o z) fun z=>.inr (.inr (E.live b z))
theorem SR.kept(S:SR N c h)(hk:∀b o,¬W b→h.get? b=some o→h'.get? b=some o)(hW:∀b,W b→¬bG c b∧c.I b=none):SR N c h':=
 ⟨fun a o e=>hk a o (fun w=>by rw[(hW a w).2]at e;cases e) (S.fr a o e),fun a x e=>(S.st a x e).lift (fun _ _ e=>e) rfl fun b o hb e'=>hk b o (fun q=>(hW b q).1 (by
   rcases hb with rfl|⟨rfl,C,fs,rfl⟩
   ·exact .inl (by rw[e];simp)
   ·exact .inr ⟨a,C,fs,e,rfl⟩)) e',S.ni,S.dj,S.dd,S.stat⟩
theorem LR.stp{C:Ctx}{env:Env}{loc:List PV}{c2:Cfg}{h2:Heap}(L:LR N C env c h loc)(t:Stp W c h c2 h2)(hO:∀b,Own env b→¬W b):LR N C env c2 h2 loc where
  ns:=let⟨m,o,es,ep,e,r⟩:=L.ns;⟨m,o,es,ep,t.hk _ _ (hO _ (.inl rfl)) e,r⟩
  cells:=fun x a hx=>let⟨v,o,e,r⟩:=L.cells x a hx;⟨v,o,t.hk _ _ (hO _ (.inr ⟨x,hx⟩)) e,r⟩
  len:=L.len
  vars:=fun x i v hl hv hu=>by
    obtain⟨cv,hcv,r⟩:=L.vars x i v hl hv hu;refine⟨cv,?_,r.mono t.inc⟩;rcases hcv with⟨k,m,⟨o,es,ep,e,r⟩,hm⟩|⟨k,a,ha,o,e,r⟩
    · exact .inl ⟨k,m,⟨o,es,ep,t.hk _ _ (hO _ (.inl rfl)) e,r⟩,hm⟩
    · exact .inr ⟨k,a,ha,o,t.hk _ _ (hO _ (.inr ⟨x,mem_of_lookup ha⟩)) e,r⟩
  off:=fun b o=>by
    obtain⟨nf,ni⟩:=L.off b o;refine⟨fun f=>nf (t.foot.mp f),?_⟩;obtain⟨x,e⟩:=L.own_some o;cases q:c2.I b with
    | none=>rfl
    | some y => rcases t.inew b y q with z | z
                · rw[ni]at z;cases z
                · rw[z]at e;cases e
noncomputable abbrev W1(it:Addr):Addr→Prop:=fun b=>b=it
noncomputable abbrev W2(e it:Addr):Addr→Prop:=fun b=>b=e∨b=it
noncomputable abbrev W5(z TI TO i1 i2:Addr):Addr→Prop:=fun b=>b=z∨b=TI∨b=TO∨b=i1∨b=i2
structure cV(N:Nm)(c:Cfg)(h:Heap)(it l:Addr)(i:Nat)(vs:List Value)(items:List PV):Prop where
 hi:h.IsListIter it l i
 ho:∃o,c.I l=some o∧fZ o vs
 r:ar N c.I (vs.drop i) items
theorem cV.isL{it l:Addr}{i:Nat}{vs:List Value}{items:List PV}(w:cV N c h it l i vs items)(S:SR N c h):h.IsList l vs.toArray:=let⟨_,e,ho⟩:=w.ho;cD (S.fr _ _ e) ho
theorem cV.step{c2:Cfg}{h2:Heap}{it l:Addr}{i:Nat}{vs:List Value}{items rest:List PV}(w:cV N c h it l i vs items)(inc:∀a o,c.I a=some o→c2.I a=some o)(hi:h2.IsListIter it l (i+1))(r:ar N c.I (vs.drop (i+1)) rest):cV N c2 h2 it l (i+1) vs rest:=
 ⟨hi,let⟨o,e,ho⟩:=w.ho;⟨o,inc _ _ e,ho⟩,r.mono inc⟩
inductive cX(N:Nm)(c:Cfg)(h:Heap)(W:Addr→Prop)(it:Addr)(b:Bool)(K:Sto→Prop)(items:List PV):Prop
 | fro {l:Addr} {i:Nat} {vs:List Value} (w:cV N c h it l i vs items) (hW:W=W1 it) (hb:b=false) (hK:K=fun _=>True)
 | liv {a:Addr} {i:Nat} {l:List PV} (hi:h.IsListIter it a i) (q:c.σ a=some (.list l)) (hW:W=W1 it) (hb:b=false) (hK:K=fun σ'=>σ' a=some (.list l)) (e:items=l.drop i)
 | rng {i k:Nat} (hi:IsRangeIter h it (i:Int) (k:Int) 1) (hW:W=W1 it) (hb:b=false) (hK:K=fun _=>True) (e:items=(List.range' i k).map fun j=>.int (j:Nat))
 | enu {it' l:Addr} {i:Nat} {vs:List Value} {its:List PV} {old:Value} (ne:it≠it') (he:IsEnum h it it' i old) (w:cV N c h it' l i vs its) (hW:W=W2 it it') (hb:b=true) (hK:K=fun _=>True) (e:items=(its.zipIdx i).map fun p=>.tup [.int (p.2:Nat),p.1])
 | zip {TI TO i1 i2 l1 l2:Addr} {i j:Nat} {vs ws:List Value} {xs ys:List PV} {u v:Value} (D:ZipApart it TI TO i1 i2 l1 l2) (hz:IsZip h it TI TO .none) (hTI:IsPair h TI (.ref i1) (.ref i2)) (hTO:IsPair h TO u v)
   (w1:cV N c h i1 l1 i vs xs) (w2:cV N c h i2 l2 j ws ys) (hW:W=W5 it TI TO i1 i2) (hb:b=true) (hK:K=fun _=>True) (e:items=(xs.zip ys).map fun p=>.tup [p.1,p.2])
theorem ew{i l:Addr}{n:Nat}(hi:h.IsListIter i l n):∃o,h.get? i=some o:=let⟨o,e,_⟩:=hi;⟨o,e⟩
theorem cX.live{it:Addr}{b:Bool}{K:Sto→Prop}{items:List PV}(I:cX N c h W it b K items):∀b,W b→∃o,h.get? b=some o:=by
 have one:∀{X:Addr→Prop},W=X→(∀b,X b→∃o,h.get? b=some o)→∀b,W b→∃o,h.get? b=some o:=fun e f=>e▸f
 cases I with
 | fro w hW=>exact one hW fun _ e=>e▸ew w.hi
 | liv hi _ hW=>exact one hW fun _ e=>e▸ew hi
 | rng hi hW=>exact one hW fun _ e=>⟨_,e▸hi⟩
 | enu ne he w hW=>exact one hW fun b wb=>wb.elim (fun e=>⟨_,e▸he⟩) fun e=>e▸ew w.hi
 | zip D hz hTI hTO w1 w2 hW=>exact one hW fun b wb=>wb.elim (fun e=>⟨_,e▸hz⟩) fun wb=>wb.elim (fun e=>⟨_,e▸hTI⟩) fun wb=>wb.elim (fun e=>⟨_,e▸hTO⟩) fun wb=>wb.elim (fun e=>e▸ew w1.hi) fun e=>e▸ew w2.hi
theorem cX.evo{it:Addr}{b:Bool}{K:Sto→Prop}{items:List PV}(I:cX N c h W it b K items)(E:Evo X c h c' h')(hW:∀b,W b→¬bG c b∧¬X b)(hs:K c'.σ):cX N c' h' W it b K items:=by
 have k:∀{b o},W b→h.get? b=some o→h'.get? b=some o:=fun w e=>E.keep _ _ e (hW _ w).1 (hW _ w).2
 have kl:∀{i l n},W i→h.IsListIter i l n→h'.IsListIter i l n:=fun w ⟨o,e,r⟩=>⟨o,k w e,r⟩
 have kw:∀{i l n vs its},W i→cV N c h i l n vs its→cV N c' h' i l n vs its:=fun w x=>⟨kl w x.hi,let⟨o,e,ho⟩:=x.ho;⟨o,E.inc _ _ e,ho⟩,x.r.mono E.inc⟩
 cases I with
 | fro w e hb hK=>exact .fro (kw (by rw[e]) w) e hb hK
 | liv hi q e hb hK=>exact .liv (kl (by rw[e]) hi) (by rw[hK]at hs;exact hs) e hb hK ‹_›
 | rng hi e=>exact .rng (k (by rw[e]) hi) e ‹_› ‹_› ‹_›
 | enu ne he w e=>exact .enu ne (k (by rw[e];exact .inl rfl) he) (kw (by rw[e];exact .inr rfl) w) e ‹_› ‹_› ‹_›
 | zip D hz hTI hTO w1 w2 e=>exact .zip D (k (by rw[e];exact .inl rfl) hz) (k (by rw[e];exact .inr (.inl rfl)) hTI) (k (by rw[e];exact .inr (.inr (.inl rfl))) hTO) (kw (by rw[e];exact .inr (.inr (.inr (.inl rfl)))) w1) (kw (by rw[e];exact .inr (.inr (.inr (.inr rfl)))) w2) e ‹_› ‹_› ‹_›
theorem SR.addAt{a:Addr}{o:Obj}(S:SR N c h)(nf:¬bG c a)(ni:c.I a=none)(e:h.get? a=some o):SR N (c.addI a o) h:=by
 have inc:∀b o',c.I b=some o'→(c.addI a o).I b=some o':=fun b o' q=>by
  show(if b=a then _ else _)=_;rw[if_neg];exact q;rintro rfl;rw[ni]at q;cases q
 refine⟨fun b o' q=>?_,fun b x q=>(S.st b x q).lift inc rfl fun _ _ _ e=>e,fun b f=>?_,S.dj,S.dd,fun b o' q=>inc _ _ (S.stat b o' q)⟩
 ·have q':(if b=a then some o else c.I b)=some o':=q;split at q'
  ·rename_i z;cases q';rw[z];exact e
  ·exact S.fr b o' q'
 ·show(if b=a then some o else c.I b)=none;rw[if_neg (fun z=>nf (by rw[←z];exact f))];exact S.ni b f
theorem Stp.here(hk:∀b o,¬W b→h.get? b=some o→h'.get? b=some o):Stp W c h c h':=⟨hk,fun _ _ e=>e,fun _ _ e=>.inl e,rfl,rfl⟩
theorem Stp.add{a:Addr}{o:Obj}(S:SR N c h)(hk:∀b o,¬W b→h.get? b=some o→h'.get? b=some o)(hn:h.get? a=none):Stp W c h (c.addI a o) h' where
 hk:=hk
 inc:=fun b o' q=>by
  show(if b=a then _ else _)=_;rw[if_neg];exact q;intro z;rw[z,S.I_none hn]at q;cases q
 inew:=fun b o' q=>by
  have q':(if b=a then some o else c.I b)=some o':=q;split at q'
  ·rename_i z;exact .inr (by rw[z];exact hn)
  ·exact .inl q'
 sig:=rfl
 D:=rfl
inductive Tgo:Expr→Bool→Prop
 | name {x:Str} {p:Pos}:Tgo (.Name x p) false
 | tup {es:List Expr} {k:Nat} {p:Pos}:Tgo (.Tuple es k p) true
theorem oF{E:Value→Shared→Prop}{target:Expr}{bt:Bool}{I:Addr}{a b d i:Int}{t:Tok}{Q':Unit→Shared→Prop}(ht:Tgo target bt)(q:Q' () s):
  wpAny (model N.prog N.w) A (letOwnedTupleGo target (.ref I) (.int i t)) Q' E s:=by
 cases ht<;>exact wpAny_pure q
inductive CX(N:Nm)(W:Addr→Prop)(it:Addr)(b:Bool)(K:Sto→Prop)(v:Value)(x:PV)(rest:List PV)(c:Cfg)(s:Shared)(_:Unit)(s2:Shared):Prop
 | mk {c2:Cfg} (S:SR N c2 s2.heap) (st:Stp W c s.heap c2 s2.heap) (r:av N c2.I v x) (I:cX N c2 s2.heap W it b K rest) (g:s2.gens=s.gens) (o:s2.os=s.os)
inductive jl(N:Nm)(A:Around)(W:Addr→Prop)(target:Expr)(it:Addr)(b:Bool)(K:Sto→Prop)(items:List PV)(c:Cfg)(s:Shared)(E:Value→Shared→Prop):Option Value→Shared→Prop
 | none {s1:Shared} (e:items=[]) (S:SR N c s1.heap) (st:Stp W c s.heap c s1.heap) (g:s1.gens=s.gens) (o:s1.os=s.os):jl N A W target it b K items c s E none s1
 | some {v:Value} {x:PV} {rest:List PV} {s1:Shared} (e:items=x::rest) (h:wpAny (model N.prog N.w) A (letOwnedTupleGo target (.ref it) v) (CX N W it b K v x rest c s) E s1):jl N A W target it b K items c s E (some v) s1
inductive CU(N:Nm)(I:Addr→Option Obj)(vs:List Value)(i:Nat)(items:List PV):Prop
 | e (h:items=[]) (q:vs.toArray[i]? = none)
 | c {v:Value} {x:PV} {rest:List PV} (h:items=x::rest) (q:vs.toArray[i]? = some v) (r:av N I v x) (rr:ar N I (vs.drop (i+1)) rest)
theorem rg{I:Addr→Option Obj}{vs:List Value}{i:Nat}{items:List PV}(r:ar N I (vs.drop i) items):CU N I vs i items:=by
 by_cases q:i<vs.length
 ·rw[List.drop_eq_getElem_cons q]at r;cases r with
  | cons x y=>exact .c rfl (by rw[List.getElem?_toArray,List.getElem?_eq_getElem q]) x y
 ·rw[List.drop_eq_nil_of_le (Nat.le_of_not_lt q)]at r;cases r;exact .e rfl (by rw[List.getElem?_toArray,List.getElem?_eq_none (Nat.le_of_not_lt q)])
section
variable {target:Expr} {bt:Bool} {it:Addr} {E E':Value→Shared→Prop} {c0:Cfg}
theorem l9{l:Addr}{i:Nat}{vs:List Value}{items:List PV}{K:Sto→Prop}(hh:A.handled=none)(S:SR N c s.heap)(hW:¬bG c it∧c.I it=none)(hi:s.heap.IsListIter it l i)(hL:s.heap.IsList l vs.toArray)(r:ar N c.I (vs.drop i) items)
  (hI:∀{h':Heap} {rest:List PV},h'.IsListIter it l (i+1)→ar N c.I (vs.drop (i+1)) rest→items.tail=rest→cX N c h' (W1 it) it false K rest):
  wpAny (model N.prog N.w) A (pyNext (.ref it)) (jl N A (W1 it) target it false K items c s E') E s:=by
 have hW':∀b,W1 it b→¬bG c b∧c.I b=none:=by rintro _ rfl;exact hW
 cases rg r with
 | e en q=>exact wpAny_pyNext_list_end hh hi hL q fun h' hs=>.none en (S.kept (W:=W1 it) hs hW') (Stp.here hs) rfl rfl
 | c en q rx rr=>exact wpAny_pyNext_list_item hi hL q fun h' hi' hs=>.some en (letGo_listiter hi' ⟨S.kept (W:=W1 it) hs.extBut hW',Stp.here hs.extBut,rx,hI hi' rr (by rw[en];rfl),rfl,rfl⟩)
theorem uY{i k:Nat}(hh:A.handled=none)(S:SR N c s.heap)(hW:¬bG c it∧c.I it=none)(ht:Tgo target bt)(hi:IsRangeIter s.heap it (i:Int) (k:Int) 1):
  wpAny (model N.prog N.w) A (pyNext (.ref it)) (jl N A (W1 it) target it false (fun _=>True) ((List.range' i k).map fun j=>.int (j:Nat)) c s E') E s:=by
 have hW':∀b,W1 it b→¬bG c b∧c.I b=none:=by rintro _ rfl;exact hW
 cases k with
 | zero=>exact wpAny_pyNext_range_end hh hi (Int.le_refl _) fun h' hs=>.none rfl (S.kept (W:=W1 it) hs hW') (Stp.here hs) rfl rfl
 | succ k=>
  refine wpAny_pyNext_range_item hi (Int.natCast_pos.mpr (Nat.succ_pos k)) fun h' hi' hs=>.some rfl (oF (a:=0) (b:=0) (d:=0) ht ⟨S.kept (W:=W1 it) hs.extBut hW',Stp.here hs.extBut,.int _ _,.rng ?_ rfl rfl rfl rfl,rfl,rfl⟩)
  rw[show(((k+1:Nat):Int)-1)=(k:Int) by exact lze [_] [] [] (.d .p01 .k1) .x0 [] [] rfl rfl]at hi';exact hi'
theorem oo{h2:Heap}{v v':Value}{x x':PV}(S:SR N c s.heap)(hW:∀b,W b→¬bG c b∧c.I b=none)(hk:∀b o,¬W b→s.heap.get? b=some o→h2.get? b=some o)(hT:h2.get? s.heap.objs.size=some {cls:=.type "tuple",data:=.seq #[v,v']})(rx:av N c.I v x)(rx':av N c.I v' x'):
  SR N (c.addI s.heap.objs.size {cls:=.type "tuple",data:=.seq #[v,v']}) h2∧Stp W c s.heap (c.addI s.heap.objs.size {cls:=.type "tuple",data:=.seq #[v,v']}) h2∧av N (c.addI s.heap.objs.size {cls:=.type "tuple",data:=.seq #[v,v']}).I (.ref s.heap.objs.size) (.tup [x,x']):=by
 have hn:=bf s.heap;have ST:=Stp.add (W:=W) (o:={cls:=.type "tuple",data:=.seq #[v,v']}) S hk hn;exact⟨(S.kept hk hW).addAt (S.not_foot hn) (S.I_none hn) hT,ST,.tup (vs:=[v,v']) (if_pos rfl) ⟨Nat.le_of_lt (by show 2<16777216;decide),rfl,0,rfl⟩ (.cons (rx.mono ST.inc) (.cons (rx'.mono ST.inc) .nil))⟩
theorem iI{i l:Addr}{n:Nat}{h' h3:Heap}(hs:Heap.SameBut it h' h3)(q:i≠it)(hi:h'.IsListIter i l n):h3.IsListIter i l n:=let⟨o,e,r⟩:=hi;⟨o,(hs.2 _ q).trans e,r⟩
theorem uZ{it' l:Addr}{i:Nat}{vs:List Value}{items:List PV}{old:Value}(hh:A.handled=none)(S:SR N c s.heap)(hW:∀b,W2 it it' b→¬bG c b∧c.I b=none)(ht:Tgo target true)(ne:it≠it')(he:IsEnum s.heap it it' i old)(w:cV N c s.heap it' l i vs items):
  wpAny (model N.prog N.w) A (pyNext (.ref it)) (jl N A (W2 it it') target it true (fun _=>True) ((items.zipIdx i).map fun p=>.tup [.int (p.2:Nat),p.1]) c s E') E s:=by
 have hk2:∀{h':Heap},(∀b o,b≠it→b≠it'→s.heap.get? b=some o→h'.get? b=some o)→∀b o,¬W2 it it' b→s.heap.get? b=some o→h'.get? b=some o:=fun hs b o nw e=>hs b o (fun z=>nw (.inl z)) (fun z=>nw (.inr z)) e
 cases rg w.r with
 | e en q=>
  have hk:=fun{h'} (hs:∀b o,b≠it'→s.heap.get? b=some o→h'.get? b=some o)=>hk2 (h':=h') fun b o _ n2 e=>hs b o n2 e
  exact wpAny_pyNext_enum_end hh he w.hi (w.isL S) q fun h' hs=>.none (by rw[en];rfl) (S.kept (hk hs) hW) (Stp.here (hk hs)) rfl rfl
 | c en q rx rr=>
  subst en;refine wpAny_pyNext_enum_item he w.hi (w.isL S) q ne fun h' he' hi' hT hsz hs=>.some rfl ?_
  cases ht;refine wpAny_letOwnedTupleGo_enum he' fun h2 he2 hs2=>?_
  have nT:s.heap.objs.size≠it:=fun z=>by have hn:=bf s.heap;rw[z,he]at hn;cases hn
  obtain⟨S2,ST,R⟩:=oo (W:=W2 it it') S hW (fun b o nw e=>(hs2.2 b (fun z=>nw (.inl z))).trans (hk2 hs b o nw e)) ((hs2.2 _ nT).trans hT) (.int (i:Int) s.toks) rx;exact⟨S2,ST,R,.enu ne he2 (w.step ST.inc (iI hs2 ne.symm hi') rr) rfl rfl rfl rfl,rfl,rfl⟩
theorem uX{TI TO i1 i2 l1 l2:Addr}{i j:Nat}{vs ws:List Value}{xs ys:List PV}{a b:Value}(hh:A.handled=none)(S:SR N c s.heap)(hW:∀b,W5 it TI TO i1 i2 b→¬bG c b∧c.I b=none)(ht:Tgo target true)
  (D:ZipApart it TI TO i1 i2 l1 l2) (hz:IsZip s.heap it TI TO .none) (hTI:IsPair s.heap TI (.ref i1) (.ref i2)) (hTO:IsPair s.heap TO a b) (w1:cV N c s.heap i1 l1 i vs xs) (w2:cV N c s.heap i2 l2 j ws ys):
  wpAny (model N.prog N.w) A (pyNext (.ref it)) (jl N A (W5 it TI TO i1 i2) target it true (fun _=>True) ((xs.zip ys).map fun p=>.tup [p.1,p.2]) c s E') E s:=by
 have hk2:∀{h':Heap},(∀b o,b≠it→b≠TO→b≠i1→b≠i2→s.heap.get? b=some o→h'.get? b=some o)→∀b o,¬W5 it TI TO i1 i2 b→s.heap.get? b=some o→h'.get? b=some o:=fun hs b o nw e=>
  hs b o (fun z=>nw (.inl z)) (fun z=>nw (.inr (.inr (.inl z)))) (fun z=>nw (.inr (.inr (.inr (.inl z))))) (fun z=>nw (.inr (.inr (.inr (.inr z))))) e
 have stop:∀{items:List PV},items=[]→(vs.toArray[i]? = none∨ws.toArray[j]? = none)→wpAny (model N.prog N.w) A (pyNext (.ref it)) (jl N A (W5 it TI TO i1 i2) target it true (fun _=>True) items c s E') E s:=fun en q=>
  wpAny_pyNext_zip_end hh D hz hTI hTO w1.hi w2.hi (w1.isL S) (w2.isL S) q fun h' hs=>.none en (S.kept (hk2 hs) hW) (Stp.here (hk2 hs)) rfl rfl
 cases rg w1.r with
 | e en q=>subst en;exact stop rfl (.inl q)
 | c en q rx rr=>
  cases rg w2.r with
  | e en' q'=>subst en en';exact stop rfl (.inr q')
  | c en' q' rx' rr'=>
   subst en en';refine wpAny_pyNext_zip_item D hz hTI hTO w1.hi w2.hi (w1.isL S) (w2.isL S) q q' fun h' hz' hTO' h1' h2' hT hsz hs=>.some rfl ?_
   cases ht;refine wpAny_letOwnedTupleGo_zip hz' fun h3 hz3 hs3=>?_
   have nT:s.heap.objs.size≠it:=fun z=>by have hn:=bf s.heap;rw[z,hz]at hn;cases hn
   obtain⟨S2,ST,R⟩:=oo (W:=W5 it TI TO i1 i2) S hW (fun b o nw e=>(hs3.2 b (fun z=>nw (.inl z))).trans (hk2 hs b o nw e)) ((hs3.2 _ nT).trans hT) rx rx';exact⟨S2,ST,R,.zip D hz3 ((hs3.2 _ D.TIz).trans (hs _ _ D.TIz D.TITO D.TIi1 D.TIi2 hTI)) ((hs3.2 _ D.TOz).trans hTO') (w1.step ST.inc (iI hs3 D.i1z h1') rr) (w2.step ST.inc (iI hs3 D.i2z h2') rr') rfl rfl rfl rfl,rfl,rfl⟩
theorem kz{b:Bool}{K:Sto→Prop}{items:List PV}(hh:A.handled=none)(S:SR N c s.heap)(I:cX N c s.heap W it b K items)(hW:∀b,W b→¬bG c b∧c.I b=none)(ht:Tgo target bt)(hb:b=true→bt=true):
  wpAny (model N.prog N.w) A (pyNext (.ref it)) (jl N A W target it b K items c s E') E s:=by
 cases I with
 | fro w eW hb' hK=>subst eW hb' hK;exact l9 hh S (hW _ rfl) w.hi (w.isL S) w.r fun hi r _=>.fro (w.step (fun _ _ e=>e) hi r) rfl rfl rfl
 | liv hi q eW hb' hK e=>
  subst eW hb' hK e;obtain⟨o,vs,g,hl,r⟩:=S.st _ _ q;exact l9 hh S (hW _ rfl) hi (cD g hl) (r.drop _) fun hi r e=>.liv hi q rfl rfl rfl (by rw[←e,List.tail_drop])
 | rng hi eW hb' hK e=>subst eW hb' hK e;exact uY hh S (hW _ rfl) ht hi
 | enu ne he w eW hb' hK e=>subst eW hb' hK e;cases hb rfl;exact uZ hh S hW ht ne he w
 | zip D hz hTI hTO w1 w2 eW hb' hK e=>subst eW hb' hK e;cases hb rfl;exact uX hh S hW ht D hz hTI hTO w1 w2
end
section
variable {w:Wd} {C:Ctx} {env:Env} {loc:List PV}
theorem yk(h:Heap)(x:Obj):∀b o,h.get? b=some o→(h.push x).get? b=some o:=fun _ _ e=>Heap.get?_push_of_some _ e
theorem B4(h:Heap)(x y:Obj):∀b o,h.get? b=some o→((h.push x).push y).get? b=some o:=fun _ _ e=>Heap.get?_push_of_some _ (Heap.get?_push_of_some _ e)
structure WFr(c2:Cfg)(s:Shared)(b:Addr):Prop where
 n:s.heap.get? b=none
 f:¬bG c2 b
 i:c2.I b=none
inductive yE(N:Nm)(b:Bool)(c:Cfg)(s:Shared)(Q:List PV→(Sto→Prop)→Sto→Prop):Value→Shared→Prop
 | mk {itA:Addr} {W:Addr→Prop} {K:Sto→Prop} {items:List PV} {c2:Cfg} {s2:Shared} (G:Go N NoX c s c2 s2) (I:cX N c2 s2.heap W itA b K items) (w:∀b,W b→WFr c2 s b) (len:items.length≤big) (q:Q items K c2.σ):yE N b c s Q (.ref itA) s2
theorem gn{s1:Shared}{c1:Cfg}(G:Go N NoX c s c1 s1){b:Addr}(hb:s1.heap.objs.size≤b):WFr c1 s b:=by
 have e:s1.heap.get? b=none:=by
  cases q:s1.heap.get? b with
  | none=>rfl
  | some o=>exact absurd (Heap.lt_size q) (Nat.not_lt.mpr hb)
 exact⟨G.E.live b e,G.S.not_foot e,G.S.I_none e⟩
structure lN(w:Wd)(C:Ctx)(it:Expr)(mi:MI):Prop where
 ev:∀{env A c s loc Q},At w C env A c s loc→cP w.T w.Sx mi loc c.σ Q→wpAny w.M A (eval it env) (fun xv s1=>wpAny w.M A (pyIter xv) (yE w.N (dg mi) c s Q) NoE s1) NoE s
 fold:∀x env,foldedSetIterable it env x=pure x
theorem pA{f:Str}{T:String}{np pos:Pos}{e:Expr}{y:ME}{K:PV→Sto→Prop}{R:Value→Shared→Prop}(hf:f∈fQ)(hv:bootBuiltins f=some (.type T))(hn:f≠"__name__")(hg:C.isGlob f=true)(he:aP w C e y)(H:At w C env A c s loc)(h:ac w.T w.Sx y loc c.σ K)
  (hk:∀v c' s' d,Go w.N NoX c s c' s'→av w.N c'.I v d→K d c'.σ→wpAny w.M A (PySem.call (.type T) [v]) R NoE s'):wpAny w.M A (eval (.Call (.Name f np) [e] [] pos) env) R NoE s:=by
 have hm:bB w C [e] [y]:=.cons he .nil;refine wpAny_Call_NameR (H.blt hg hn (w.F.blts f hf) hv (PySem.callWith_type (dX hm) (kW hm ?_)));rw[he.pl.star];exact Calls.spliced_cons ((he.ev H h).seq fun v s2 c2 d2 G r q=>Calls.spliced_nil (hk v c2 s2 d2 G r q))
theorem vg{np pos:Pos}{x:Expr}{y:ME}(hg:C.isGlob "range"=true)(hx:aP w C x y):lN w C (.Call (.Name "range" np) [x] [] pos) (.range y) where
 fold:=fun _ _=>rfl
 ev:=fun H h=>pA (T:="range") (by decide) (by decide+kernel) (by decide) hg hx H h fun v c1 s1 d G r q=>by
  obtain⟨m,rfl,b1,b2,q1⟩:=cK q;obtain⟨t,rfl⟩:=r.toI;refine call_range_1 ?_;have hr:IsRange ({s1 with heap:=s1.heap.push {cls:=.type "range",data:=.fields #[.int 0 s1.toks,.int m t,.int 1 (s1.toks+1)]},toks:=s1.toks+1+1}:Shared).heap s1.heap.objs.size 0 m 1 _ _ _:=IsRange.new ..;refine wpAny_pyIter_range hr (small_one (by decide) (by decide) (by lia) (by lia)) ?_;have hsz:Builtin.Range.rangeSize 0 m 1=((m.toNat:Nat):Int):=by rw[rangeSize_one];split<;>lia
  have e:(s1.heap.push {cls:=.type "range",data:=.fields #[.int 0 s1.toks,.int m t,.int 1 (s1.toks+1)]}).objs.size=s1.heap.objs.size+1:=Heap.size_push ..;rw[e];refine .mk (W:=W1 (s1.heap.objs.size+1)) (c2:=c1) (G.trans (.ext G.S (B4 _ _ _))) (.rng (i:=0) (k:=m.toNat) ?_ rfl rfl rfl rfl) (by rintro _ rfl;exact gn G (Nat.le_succ _)) ?_ ?_
  ·rw[←hsz,←e];exact Heap.get?_push_size (s1.heap.push {cls:=.type "range",data:=.fields #[.int 0 s1.toks,.int m t,.int 1 (s1.toks+1)]}) (o:={cls:=.type "range_iterator",data:=.fields #[rawInt 0,rawInt (Builtin.Range.rangeSize 0 m 1),rawInt 1]}) rfl
  ·rw[List.length_map,List.length_range'];show _≤16777216;exact tc (m) (fun z0 w0=>io (lz [_] [_] [.l .y0 (.k 16777216),.e .x0 .y0] .x0 (.k 16777216) [] rfl b2 w0)) fun z0 w0=>ln [_] [.e .x0 .k0] .x0 (.k 16777216) [] rfl w0
  ·rw[←List.range_eq_range'];exact q1
theorem xB{np pos:Pos}{x:Expr}{y:ME}(hg:C.isGlob "enumerate"=true)(hx:aP w C x y):lN w C (.Call (.Name "enumerate" np) [x] [] pos) (.enum y) where
 fold:=fun _ _=>rfl
 ev:=fun H h=>pA (T:="enumerate") (by decide) (by decide+kernel) (by decide) hg hx H h fun v c1 s1 d G r q=>by
  obtain⟨l,rfl,q⟩:=ls q;obtain⟨a,o,vs,rfl,hi,⟨hz,k,rfl⟩,rr⟩:=r.toL;refine call_enumerate_1 (n:=k) (G.S.fr _ _ hi) fun h' he hit hsz hk=>wpAny_pyIter_enum he ?_
  exact .mk (c2:=c1) (G.trans (.ext G.S hk)) (.enu (i:=0) (Nat.succ_ne_self _) he ⟨hit,⟨_,hi,hz,k,rfl⟩,rr⟩ rfl rfl rfl rfl) (fun b hb=>gn G (hb.elim (fun e=>e▸Nat.le_succ _) fun e=>e▸Nat.le_refl _)) (by rw[List.length_map,List.length_zipIdx,←rr.length];exact hz) q
theorem zY{np pos:Pos}{x x':Expr}{y y':ME}(hg:C.isGlob "zip"=true)(hx:aP w C x y)(hx':aP w C x' y'):lN w C (.Call (.Name "zip" np) [x,x'] [] pos) (.zip y y') where
 fold:=fun _ _=>rfl
 ev:=fun{env A c s loc Q} H h=>by
  have hm:bB w C [x,x'] [y,y']:=.cons hx (.cons hx' .nil);refine wpAny_Call_NameR (H.blt (v:=.type "zip") hg (by decide) (w.F.blts "zip" (by decide)) (by decide+kernel) (PySem.callWith_type (dX hm) (kW hm ?_)));rw[hx.pl.star,eF,hx'.pl.star];refine Calls.spliced_cons ((hx.ev H h).seq fun v s0 c0 d G0 r0 q=>Calls.spliced_cons ((hx'.ev (H.go G0) q).seq fun v' s1 c1 d' G1 r' q=>Calls.spliced_nil ?_));obtain⟨l,e1,q1⟩:=ls q;obtain⟨l',e2,q2⟩:=ls q1;subst e1 e2;have G:=G0.trans G1;obtain⟨a,o,vs,rfl,hi,ho,rr⟩:=(r0.mono G1.E.inc).toL;obtain⟨a',o',vs',rfl,hi',ho',rr'⟩:=r'.toL;refine call_zip_2 (cD (G.S.fr _ _ hi) ho) (cD (G.S.fr _ _ hi') ho') fun h' hz hTI hTO h1 h2 hsz hk=>wpAny_pyIter_zip hz ?_
  have la:a<s1.heap.objs.size:=Heap.lt_size (G.S.fr _ _ hi);have la':a'<s1.heap.objs.size:=Heap.lt_size (G.S.fr _ _ hi');have ne:∀{x y k:Nat},x<y→x≠y+k:=fun h=>Nat.ne_of_lt (Nat.lt_of_lt_of_le h (Nat.le_add_right _ _))
  have nk:∀{x j k:Nat},j≠k→x+j≠x+k:=fun h z=>h (Nat.add_left_cancel z)
  have D:ZipApart (s1.heap.objs.size+4) (s1.heap.objs.size+2) (s1.heap.objs.size+3) s1.heap.objs.size (s1.heap.objs.size+1) a a':=by
   constructor<;>first|exact ne la|exact ne la'|exact ne (k:=0) la|exact ne (k:=0) la'|exact nk (by decide)|exact nk (j:=0) (by decide)|exact nk (k:=0) (by decide)
  exact .mk (c2:=c1) (G.trans (.ext G.S hk)) (.zip (i:=0) (j:=0) D hz hTI hTO ⟨h1,⟨_,hi,ho⟩,rr⟩ ⟨h2,⟨_,hi',ho'⟩,rr'⟩ rfl rfl rfl rfl) (fun b hb=>gn G (by rcases hb with rfl|rfl|rfl|rfl|rfl<;>first|exact Nat.le_refl _|exact Nat.le_add_right _ _))
   (by rw[List.length_map,List.length_zip,←rr.length];exact Nat.le_trans (Nat.min_le_left _ _) ho.1) q2
theorem xA{it:Expr}{y:ME}(hy:aP w C it y):lN w C it (.expr y) where
 fold:=hy.pl.fold
 ev:=fun{env A c s loc Q} H h=>(hy.ev H h).seq fun v s1 c1 d G r q=>by
  cases d with
  | list l=>
   obtain⟨a,o,vs,rfl,hi,ho,rr⟩:=r.toL;exact wpAny_pyIter_list (cD (G.S.fr _ _ hi) ho) (.mk (c2:=c1) (G.trans (.ext G.S (yk _ _))) (.fro (i:=0) ⟨⟨_,Heap.get?_push_size _ rfl,rfl,rfl⟩,⟨_,hi,ho⟩,rr⟩ rfl rfl rfl) (by rintro _ rfl;exact gn G (Nat.le_refl _)) (by rw[←rr.length];exact ho.1) q)
  | obj a=>
   have q:onL c1.σ (.obj a) fun a l=>Q l (fun σ'=>σ' a=some (.list l)) c1.σ:=q
   obtain⟨b,l,e,hs,q⟩:=kx q;cases e;cases r.toO;obtain⟨o,vs,g,hl,r'⟩:=G.S.st a _ hs;exact wpAny_pyIter_list (cD g hl) (.mk (c2:=c1) (G.trans (.ext G.S (yk _ _))) (.liv (i:=0) ⟨_,Heap.get?_push_size _ rfl,rfl,rfl⟩ hs rfl rfl rfl rfl) (by rintro _ rfl;exact gn G (Nat.le_refl _)) (by rw[List.drop_zero,←r'.length];exact hl.1) q)
  | _=>exact q.elim
end
end Mine
end
section
namespace Mine
open PySem PySem.W PyProof.Rows PySem.Spec PyProof PySem.SeqAt
inductive mK(N:Nm)(C:Ctx)(env:Env)(X:Addr→Prop)(c:Cfg)(s:Shared)(K:List PV→Prop)(_:Unit)(s':Shared):Prop
 | mk {loc:List PV} (G:Go N X c s c s') (L:LR N C env c s'.heap loc) (q:K loc)
structure SOk(C:Ctx)(env:Env)(A:Around)(X:Addr→Prop)(l:Bool):Prop where
 hh:A.handled=none
 K:cf C env
 h1:X env.locals
 h2:l=false→∀x a,C.kind x=some .cell→env.cells.lookup x=some a→X a
structure ga(N:Nm)(C:Ctx)(l:Bool)(t:Expr)(tg:Tgt)(bt:Bool):Prop where
 asg:∀{X env A c s loc v d K},SOk C env A X l→SR N c s.heap→LR N C env c s.heap loc→av N c.I v d→dO tg d loc K→wpAny (model N.prog N.w) A (assign t env v) (mK N C env X c s K) NoE s
 go:Tgo t bt
 ex:∀{d loc K},dO tg d loc K→∃loc',K loc'
inductive ik(N:Nm)(C:Ctx)(l:Bool):List Expr→List Tgt→Prop
 | nil:ik N C l [] []
 | cons {t tg bt ts tgs} (h:ga N C l t tg bt) (r:ik N C l ts tgs):ik N C l (t::ts) (tg::tgs)
variable {N:Nm} {C:Ctx} {env:Env} {A:Around} {c:Cfg} {s:Shared} {loc:List PV} {X:Addr→Prop} {l:Bool}
theorem mK.trans{K:List PV→Prop}{u:Unit}{s1 s2:Shared}(G:Go N X c s c s1)(h:mK N C env X c s1 K u s2):mK N C env X c s K u s2:=by
 cases h with|mk G' L q=>exact⟨G.trans G',L,q⟩
theorem fX{i:Nat}{v:PV}{K:List PV→Prop}(h:onO (el loc i v) K):K (loc.set i v):=by
 obtain⟨l',e,q⟩:=ku.mp h;rw[ro]at e
 by_cases z:i<loc.length
 ·rw[if_pos z]at e;cases e;exact q
 ·rw[if_neg z]at e;cases e
theorem yL{x:Str}{p:Pos}{i:Nat}(hi:aF C.slots x=some i)(hk:C.kind x=some .local∨(C.kind x=some .cell∧l=false)):ga N C l (.Name x p) (.var i) false where
 go:=.name
 ex:=fun h=>⟨_,fX h⟩
 asg:=fun O S L r h=>wpAny_assign_Name (L.store O.K S hi (hk.elim (fun k=>.inl ⟨k,O.h1⟩) fun k=>.inr ⟨k.1,fun a=>O.h2 k.2 x a k.1⟩) r fun h' tk S' E' L'=>⟨⟨S',E',rfl,rfl⟩,L',fX h⟩)
theorem cx{t:Expr}{tg:Tgt}{bt:Bool}{rest:List Expr}(h:ga N C l t tg bt):assignEach (t::rest) env=(false,assign t env)::assignEach rest env:=by
 cases h.go<;>rfl
theorem vW{ts:List Expr}{tgs:List Tgt}(h:ik N C l ts tgs):(assignEach ts env).length=tgs.length:=by
 induction h with
 | nil=>rfl
 | cons h r ih=>rw[cx h];exact congrArg (· + 1) ih
theorem tH{ts:List Expr}{tgs:List Tgt}(h:ik N C l ts tgs):(assignEach ts env).findIdx? (·.1)=none:=by
 induction h with
 | nil=>rfl
 | cons h r ih=>rw[cx h,List.findIdx?_cons,ih];rfl
theorem pC{ts:List Expr}{tgs:List Tgt}(h:ik N C l ts tgs):∀{ds:List PV} {loc:List PV} {K:List PV→Prop},dH tgs ds loc K→tgs.length=ds.length∧∃loc',K loc':=by
 induction h with
 | nil=>
  intro ds loc K q;cases ds with
  | nil=>exact⟨rfl,_,q⟩
  | cons _ _=>exact q.elim
 | cons h r ih=>
  intro ds loc K q;cases ds with
  | nil=>exact q.elim
  | cons d ds=>
   obtain⟨loc',q⟩:=h.ex q;exact⟨congrArg (· + 1) (ih q).1,(ih q).2⟩
theorem qZ{ts:List Expr}{tgs:List Tgt}(h:ik N C l ts tgs)(O:SOk C env A X l):∀{vs:List Value} {ds:List PV} {loc:List PV} {s:Shared} {K:List PV→Prop},SR N c s.heap→LR N C env c s.heap loc→ar N c.I vs ds→dH tgs ds loc K→
  wpAny (model N.prog N.w) A (assignInOrder ((assignEach ts env).map (·.2)) vs) (mK N C env X c s K) NoE s:=by
 induction h with
 | nil=>
  intro vs ds loc s K S L r q;cases ds with
  | nil=>cases r.toE;exact wpAny_pure ⟨Go.refl S,L,q⟩
  | cons _ _=>exact q.elim
 | cons h r ih=>
  intro vs ds loc s K S L rr q;cases ds with
  | nil=>exact q.elim
  | cons d ds=>
   obtain⟨v,vs,rfl,rv,rr⟩:=rr.toC;rw[cx h];refine wpAny_bind (m:=holding vs _) (wpAny_holding (wpAny_mono (h.asg O S L rv q) (fun _ s1 h1=>?_) fun _ _ e=>e));cases h1 with|mk G L q=>exact wpAny_mono (ih G.S L rr q) (fun _ _ z=>z.trans G) fun _ _ e=>e
theorem BH{ts:List Expr}{tgs:List Tgt}{k:Nat}{p:Pos}(h:ik N C l ts tgs):ga N C l (.Tuple ts k p) (.tup tgs) true where
 go:=.tup
 ex:=fun{d loc K} q=>by
  cases d with
  | tup ds=>exact(pC h q).2
  | _=>exact q.elim
 asg:=fun{X env A c s loc v d K} O S L r q=>by
  cases d with
  | tup ds=>
   obtain⟨p,vs,rfl,hp,r,hz⟩:=ir S r;refine wpAny_assign_Tuple O.hh hp (by rw[vW h,List.size_toArray,r.length];exact(pC h q).1) (tH h) fun h' hs=>?_
   have G:Go N X c s c {s with heap:=h'}:=.ext S fun b o e=>hs b o (Nat.ne_of_lt (Heap.lt_size e)) e
   exact wpAny_mono (qZ h O G.S (L.evo (Evo.ext fun b o e=>hs b o (Nat.ne_of_lt (Heap.lt_size e)) e)) r q) (fun _ _ z=>z.trans G) fun _ _ e=>e
  | _=>exact q.elim
end Mine
end
section
namespace Mine
open PySem PySem.W PyProof.Rows PySem.Spec PyProof PySem.SeqAt
theorem di(A B:List (Str×Nat))(x:Str):aF (A++B) x=(aF A x).or (aF B x):=by
 induction A with
 | nil=>rfl
 | cons p A ih=>
  obtain⟨y,i⟩:=p
  show(if y=x then some i else aF (A++B) x)=(if y=x then some i else aF A x).or (aF B x);split
  ·rfl
  ·exact ih
theorem e6(g:Str→NameKind→NameKind):∀(l:List (Str×NameKind)) (x:Str),(l.map fun p=>(p.1,g p.1 p.2)).lookup x=(l.lookup x).map (g x)
 | [],_=>rfl
 | (y,k)::l,x=>by
  rw[List.map_cons,List.lookup_cons,List.lookup_cons]
  by_cases h:x=y
  ·subst h;simp
  ·rw[beq_eq_false_iff_ne.mpr h];exact e6 g l x
noncomputable def lD(C:Ctx)(n:Str)(k:NameKind):NameKind:=if(k==.free&&C.scope.kind==.function&&C.kind n==some .cell)then .cell else k
theorem iZ(C:Ctx)(sc:Scope):(C.relab sc).names=sc.names.map fun p=>(p.1,lD C p.1 p.2):=by
 show sc.names.map _=_;apply List.map_congr_left;rintro⟨n,k⟩ _
 show(if _ then _ else _)=(n,lD C n k);unfold lD
 split<;>rfl
theorem gx(C:Ctx)(sc:Scope)(x:Str):(C.inner sc).kind x=(sc.names.lookup x).map (lD C x):=by
 show(C.relab sc).names.lookup x=_;rw[iZ];exact e6 _ _ _
noncomputable def fx(cells:List (Str×Addr)):List (Str×NameKind)→List (Str×Addr)→List (Str×Addr)
 | [],acc=>acc
 | (n,k)::r,acc=>fx cells r (if k==.free then(match cells.lookup n with|some a=>(n,a)::acc|none=>acc)else acc)
theorem qS{sc:Scope}{env:Env}(hf:∀x∈sc.names,x.2=.free→∃a,env.cells.lookup x.1=some a):closureFor sc env=pure (fx env.cells sc.names []):=by
 unfold closureFor
 have:∀(names:List (Str×NameKind)) (acc:List (Str×Addr)),(∀x∈names,x.2=.free→∃a,env.cells.lookup x.1=some a)→
   (forIn names acc fun x r=>match x with|(name,kind)=>if kind==.free then do pure (ForInStep.yield ((name,←cellOf env name)::r))else pure (ForInStep.yield r):Sem _)=pure (fx env.cells names acc):=by
  intro names
  induction names with
  | nil=>intro acc _;rfl
  | cons p r ih=>
   intro acc h;obtain⟨n,k⟩:=p;rw[List.forIn_cons];unfold fx
   by_cases hk:k=.free
   ·subst hk;obtain⟨a,ha⟩:=h (n,.free) (List.mem_cons_self ..) rfl
    have:cellOf env n=pure a:=by unfold cellOf;rw[show env.cells.lookup n=some a from ha]
    simp only[beq_self_eq_true,if_true,this,pure_bind];rw[show env.cells.lookup n=some a from ha];exact ih _ fun x hx=>h x (List.mem_cons_of_mem _ hx)
   ·have hk':(k==NameKind.free)=false:=beq_eq_false_iff_ne.mpr hk;simp only[hk',Bool.false_eq_true,if_false,pure_bind];exact ih _ fun x hx=>h x (List.mem_cons_of_mem _ hx)
 have q:=this sc.names [] hf;simp only[bind_pure];exact q
theorem rZ{cells:List (Str×Addr)}:∀(names:List (Str×NameKind)) (acc:List (Str×Addr)) (x:Str) (a:Addr),(x,a)∈fx cells names acc→(x,a)∈acc∨((x,NameKind.free)∈names∧cells.lookup x=some a)
 | [],_,_,_,h=>.inl h
 | (n,k)::r,acc,x,a,h=>by
  unfold fx at h;have ih:=rZ r _ x a h;clear h;rcases ih with g|g
  ·by_cases hk:k=.free
   ·subst hk;simp only[beq_self_eq_true,if_true]at g;cases hc:cells.lookup n with
    | none=>rw[hc]at g;exact .inl g
    | some b=>
     rw[hc]at g;rcases List.mem_cons.mp g with e|g
     ·cases e;exact .inr ⟨List.mem_cons_self ..,hc⟩
     ·exact .inl g
   ·rw[if_neg (by simpa using hk)]at g;exact .inl g
  ·exact .inr ⟨List.mem_cons_of_mem _ g.1,g.2⟩
theorem rY{cells:List (Str×Addr)}:∀(names:List (Str×NameKind)) (acc:List (Str×Addr)) (p:Str×Addr),p∈acc→p∈fx cells names acc
 | [],_,_,h=>h
 | (n,k)::r,acc,p,h=>by
  unfold fx;refine rY r _ p ?_;split
  ·split
   ·exact List.mem_cons_of_mem _ h
   ·exact h
  ·exact h
theorem r7{cells:List (Str×Addr)}{x:Str}{a:Addr}(ha:cells.lookup x=some a):∀(names:List (Str×NameKind)) (acc:List (Str×Addr)),(x,NameKind.free)∈names→(x,a)∈fx cells names acc
 | [],_,h=>by cases h
 | (n,k)::r,acc,h=>by
  unfold fx;rcases List.mem_cons.mp h with e|h
  ·cases e;refine rY r _ _ ?_;simp[ha]
  ·exact r7 ha r _ h
theorem f5{cells:List (Str×Addr)}:∀(names:List (Str×NameKind)) (acc:List (Str×Addr)),(names.map (·.1)).Nodup→(acc.map (·.1)).Nodup→(∀x,x∈acc.map (·.1)→x∉names.map (·.1))→((fx cells names acc).map (·.1)).Nodup
 | [],_,_,h,_=>h
 | (y,k)::r,acc,hn,ha,hd=>by
  rw[List.map_cons,List.nodup_cons]at hn;unfold fx;have old:((fx cells r acc).map (·.1)).Nodup:=f5 r _ hn.2 ha fun x hx hr=>hd x hx (by rw[List.map_cons];exact List.mem_cons_of_mem _ hr)
  split
  ·split
   ·refine f5 r _ hn.2 ?_ ?_
    ·rw[List.map_cons,List.nodup_cons];exact⟨fun h=>hd y h (by simp),ha⟩
    ·intro x hx hr;rw[List.map_cons]at hx;rcases List.mem_cons.mp hx with q|q
     ·exact hn.1 (q▸hr)
     ·exact hd x q (by rw[List.map_cons];exact List.mem_cons_of_mem _ hr)
   ·exact old
  ·exact old
theorem dW{α β:Type}:∀{l:List (α×β)},(l.map (·.1)).Nodup→(∀p∈l,∀q∈l,p.2=q.2→p.1=q.1)→l.Pairwise fun x y=>x.2≠y.2
 | [],_,_=>.nil
 | p::l,hn,h=>by
  rw[List.map_cons,List.nodup_cons]at hn;rw[List.pairwise_cons];refine⟨fun q hq e=>hn.1 ?_,dW hn.2 fun a ha b hb=>h a (List.mem_cons_of_mem _ ha) b (List.mem_cons_of_mem _ hb)⟩;rw[h p (List.mem_cons_self ..) q (List.mem_cons_of_mem _ hq) e];exact List.mem_map_of_mem hq
theorem cB:∀{l:List Str},fI l=true→l.Nodup
 | [],_=>List.nodup_nil
 | x::r,h=>by
  unfold fI at h;rw[Bool.and_eq_true]at h;rw[List.nodup_cons];refine⟨fun hx=>?_,cB h.2⟩
  have:=h.1;rw[Bool.not_eq_true',List.contains_eq_mem]at this;simp[hx]at this
structure fT(C:Ctx)(sc:Scope):Prop where
 kind:sc.kind=.function
 nocell:∀x k,(x,k)∈sc.names→k≠.cell
 dbg:∀x k,(x,k)∈sc.names→(x==("__debug__":Str))=false∧(x==("__classdict__":Str))=false
 free:∀x,(x,NameKind.free)∈sc.names→∃i,C.loc x=some i∧(C.kind x=some .cell∨C.kind x=some .free)
 nodup:(sc.names.map (·.1)).Nodup
 zero:aF C.slots ".0"=none
theorem wg{C:Ctx}{sc:Scope}(h:gD C sc=true):fT C sc:=by
 unfold gD at h;simp only[Bool.and_eq_true,List.all_eq_true]at h;obtain⟨⟨⟨h1,h2⟩,h3⟩,h4⟩:=h;refine⟨beq_iff_eq.mp h1,fun x k hx=>?_,fun x k hx=>?_,fun x hx=>?_,cB h3,by simpa using h4⟩
 ·have:=(h2 _ hx).1.1.1;simpa using this
 ·have a:=(h2 _ hx).1.1.2;have b:=(h2 _ hx).1.2;exact⟨by simpa using a,by simpa using b⟩
 ·have:=(h2 _ hx).2;simp only[bne_self_eq_false,Bool.false_or,Bool.and_eq_true,Bool.or_eq_true,beq_iff_eq]at this;obtain⟨i,hi⟩:=Option.isSome_iff_exists.mp this.1;refine⟨i,?_,this.2⟩;unfold Ctx.loc;rcases this.2 with q|q<;>rw[q]<;>exact hi
theorem mv{C:Ctx}{env:Env}(K:cf C env)(sc:Scope):relabel sc env=C.relab sc:=by
 unfold relabel Ctx.relab Ctx.kind Env.kindOf;rw[K.sc]
theorem lk{env:Env}{sc:Scope}(hn:(sc.names.map (·.1)).Nodup){x:Str}{a:Addr}(hx:(x,NameKind.free)∈sc.names)(ha:env.cells.lookup x=some a):(fx env.cells sc.names []).lookup x=some a:=
 cm (f5 _ [] hn (by simp) (fun _ h=>by cases h)) (r7 ha _ _ hx)
theorem ij{cells:List (Str×Addr)}{names:List (Str×NameKind)}{x:Str}{a:Addr}(h:(x,a)∈fx cells names []):(x,NameKind.free)∈names∧cells.lookup x=some a:=by
 rcases rZ names [] x a h with h|h
 ·cases h
 ·exact h
theorem dT{C:Ctx}{sc:Scope}{x:Str}{i:Nat}(h:aF (aM sc C.n) x=some i):C.n≤i∧i<C.n+(aM sc C.n).length∧(x,NameKind.local)∈sc.names∧∀y,aF (aM sc C.n) y=some i→y=x:=by
 obtain⟨h1,h2⟩:=gO _ _ _ _ h;refine⟨h1,?_,?_,fun y hy=>?_⟩
 ·have:=(List.getElem?_eq_some_iff.mp h2).1;unfold aM;rw[List.length_zipIdx];exact ln [_,_,_,_] [.l .p21 .x3,.f (.a .x2 .x0) .x1] .p11 (.a .x0 .x3) [] rfl this (su h1)
 ·obtain⟨⟨z,k⟩,hz,rfl⟩:=List.mem_map.mp (List.mem_of_getElem? h2);obtain⟨hz,hp⟩:=List.mem_filter.mp hz;simp only[Bool.and_eq_true,beq_iff_eq]at hp;rw[←hp.1];exact hz
 ·have:=(gO _ _ _ _ hy).2;rw[h2]at this
  exact(Option.some.inj this).symm
theorem tu{C:Ctx}{env:Env}{sc:Scope}{La:Addr}(K:cf C env)(Fc:fT C sc)(hLa:∀x a,(x,a)∈env.cells→a≠La):cf (C.inner sc) (compEnvC sc (fx env.cells sc.names []) La env) where
 fn:=Fc.kind
 sc:=mv K sc
 inj:=fun x y i hx hy=>by
  have hx':(aF (aM sc C.n) x).or (aF C.slots x)=some i:=by rw[←di];exact hx
  have hy':(aF (aM sc C.n) y).or (aF C.slots y)=some i:=by rw[←di];exact hy
  cases ex:aF (aM sc C.n) x with
  | some j=>
   rw[ex]at hx';cases hx';obtain⟨a1,a2,a3,a4⟩:=dT ex;cases ey:aF (aM sc C.n) y with
   | some j'=>rw[ey]at hy';cases hy';exact(a4 y ey).symm
   | none=>rw[ey]at hy';have:=K.lt y i hy';lia
  | none=>
   rw[ex]at hx';cases ey:aF (aM sc C.n) y with
   | some j'=>rw[ey]at hy';cases hy';have q10:=(dT ey).1;have:=K.lt x i hx';lia
   | none=>rw[ey]at hy';exact K.inj x y i hx' hy'
 lt:=fun x i hx=>by
  have hx':(aF (aM sc C.n) x).or (aF C.slots x)=some i:=by rw[←di];exact hx
  show i<C.n+(aM sc C.n).length;cases ex:aF (aM sc C.n) x with
  | some j=>rw[ex]at hx';cases hx';exact(dT ex).2.1
  | none=>rw[ex]at hx';have:=K.lt x i hx';exact ln [_,_,_] [.l .p01 .x1] .p01 (.a .x1 .x2) [] rfl this
 apart:=dW (f5 _ [] Fc.nodup (by simp) (fun _ h=>by cases h)) fun p hp q hq e=>by
  have h1:=(ij (x:=p.1) (a:=p.2) hp).2;have h2:=(ij (x:=q.1) (a:=q.2) hq).2;exact name_of_addr K.apart (mem_of_lookup h1) (by rw[e];exact mem_of_lookup h2)
 off:=fun x a h=>hLa x a (mem_of_lookup (ij h).2)
 cell:=fun x i _ hk=>by
  rw[gx]at hk
  have:(x,NameKind.free)∈sc.names:=by
   cases hl:sc.names.lookup x with
   | none=>rw[hl]at hk;rcases hk with h|h<;>cases h
   | some k=>
    rw[hl]at hk;have hm:=mem_of_lookup hl;have hc:=Fc.nocell x k hm
    by_cases hf:k=.free
    ·subst hf;exact hm
    ·have:lD C x k=k:=by unfold lD;rw[if_neg (by simp[hf])]
     simp only[Option.map_some,this,Option.some.injEq]at hk;rcases hk with h|h
     ·exact absurd h hc
     ·exact absurd h hf
  obtain⟨j,hj,hkk⟩:=Fc.free x this;obtain⟨a,ha⟩:=K.cell x j (cC hj).1 hkk;exact⟨a,lk Fc.nodup this ha⟩
 names:=fun x k hk=>by
  rw[gx]at hk;obtain⟨k',hk',-⟩:=Option.map_eq_some_iff.mp hk;exact Fc.dbg x k' (mem_of_lookup hk')
theorem iX:∀(l:List Str) (n:Nat) (x:Str),x∈l→∃i,aF (l.zipIdx n) x=some i
 | [],_,_,h=>by cases h
 | y::l,n,x,h=>by
  rw[List.zipIdx_cons];unfold aF
  by_cases e:y=x
  ·rw[if_pos e];exact⟨_,rfl⟩
  ·rw[if_neg e];rcases List.mem_cons.mp h with q|q
   ·exact absurd q.symm e
   ·exact iX l (n+1) x q
theorem tr{C:Ctx}{env:Env}{sc:Scope}(K:cf C env)(Fc:fT C sc){x:Str}{i:Nat}(h:(C.inner sc).loc x=some i)(hi:i<C.n):(x,NameKind.free)∈sc.names∧C.loc x=some i:=by
 obtain⟨hs,hk⟩:=cC h;have hs':(aF (aM sc C.n) x).or (aF C.slots x)=some i:=by rw[←di];exact hs
 cases ex:aF (aM sc C.n) x with
 | some j=>rw[ex]at hs';cases hs';have:=(dT ex).1;lia
 | none=>
  rw[ex]at hs';have key:(x,NameKind.free)∈sc.names∨(x,NameKind.local)∈sc.names:=by
   rw[gx]at hk;cases hl:sc.names.lookup x with
   | none=>rw[hl]at hk;rcases hk with h|h|h<;>cases h
   | some k=>
    rw[hl]at hk;have hm:=mem_of_lookup hl;have hc:=Fc.nocell x k hm;cases k with
    | free=>exact .inl hm
    | «local»=>exact .inr hm
    | cell=>exact absurd rfl hc
    | _=>simp[lD]at hk
  rcases key with key|key
  ·obtain⟨j,hj,hkk⟩:=Fc.free x key
   have:=(cC hj).1;have hs'':aF C.slots x=some i:=hs';rw[hs'']at this;cases this;exact⟨key,hj⟩
  ·exfalso;have hz:x≠".0":=fun z=>by
    have hs'':aF C.slots x=some i:=hs';rw[z,Fc.zero]at hs'';cases hs''
   have hm:x∈(sc.names.filter fun x=>x.2==.local&&x.1 != (".0":Str)).map (·.1):=
    List.mem_map.mpr ⟨(x,.local),List.mem_filter.mpr ⟨key,by simp[hz]⟩,rfl⟩
   obtain⟨j,hj⟩:=iX _ C.n x hm
   have:aF (aM sc C.n) x=some j:=hj;rw[ex]at this;cases this
theorem vo{N:Nm}{C:Ctx}{env:Env}{sc:Scope}{La:Addr}{c:Cfg}{h h':Heap}{loc:List PV}{m:Str→Option Value}(K:cf C env)(Fc:fT C sc)(L:LR N C env c h loc)(hns:h'.Ns La m)(hk:∀b o,h.get? b=some o→h'.get? b=some o)
  (hLa:¬bG c La∧c.I La=none) (ex:List PV) (hex:ex.length=(aM sc C.n).length) (hu:∀(i:Nat) (v:PV),ex[i]? = some v→v=.undef):LR N (C.inner sc) (compEnvC sc (fx env.cells sc.names []) La env) c h' (loc++ex) where
 ns:=⟨m,hns⟩
 cells:=fun x a hx=>by
  obtain⟨v,o,e,r⟩:=L.cells x a (mem_of_lookup (ij hx).2);exact⟨v,o,hk _ _ e,r⟩
 len:=by
  rw[List.length_append,L.len,hex];rfl
 vars:=fun x i v hl hv hvu=>by
  by_cases hi:i<C.n
  ·obtain⟨hf,hl'⟩:=tr K Fc hl hi;rw[List.getElem?_append_left (by rw[L.len];exact hi)]at hv;obtain⟨j,hj,hkk⟩:=Fc.free x hf;rw[hl']at hj;cases hj;obtain⟨cv,hcv,r⟩:=L.vars x i v hl' hv hvu;refine⟨cv,?_,r⟩;rcases hcv with⟨k,_⟩|⟨k,a,ha,o,e,q⟩
   ·rw[K.kind x]at k;rcases hkk with z|z<;>rw[z]at k<;>cases k
   ·refine .inr ⟨?_,a,lk Fc.nodup hf ha,o,hk _ _ e,q⟩
    show(relabel sc env).names.lookup x=_∨(relabel sc env).names.lookup x=_;rw[mv K sc,iZ,e6,cm Fc.nodup hf];show some (lD C x .free)=_∨some (lD C x .free)=_;unfold lD
    split<;>simp
  ·rw[List.getElem?_append_right (by rw[L.len];exact(Nat.not_lt.mp hi))]at hv;exact absurd (hu _ _ hv) hvu
 off:=fun b o=>by
  rcases o with rfl|⟨x,hx⟩
  ·exact hLa
  ·exact L.off b (.inr ⟨x,mem_of_lookup (ij hx).2⟩)
section
variable {w:Wd} {A:Around} {s:Shared}
theorem nF{elt target iter:Expr}{ifs:List Expr}{scope:Scope}{pos:Pos}{it acc:Value}{env:Env}{R:Result→Shared→Prop}(I:Nat→Shared→Prop)
  (turn:∀n s,I n s→wpAny w.M A (pyNext it) (fun r s₁=>match r with
   | none=>R (.ok .next) s₁
   | some v=>wpAny w.M A (letOwnedTupleGo target it v) (fun _ s₁'=>wpAny w.M A (assign target env v) (fun _ s₂=>
     wpAny w.M A (forIn ifs true fun c r=>if r=true then do let ok ←isTrue c env (eval c env);pure (ForInStep.yield ok)else pure (ForInStep.yield r)) (fun ok s₃=>
      if ok=true then wpAny w.M A (eval elt env) (fun x s₄=>
       wpAny w.M A (call (.builtin "list.append") [acc,x]) (fun _ s₅=>∃m,m<n∧I m s₅) NoE s₄) NoE s₃
      else ∃m,m<n∧I m s₃) NoE s₂) NoE s₁') NoE s₁) NoE s)
  (n:Nat) (h:I n s):codeAny w.M A (.compLoop (.ListComp elt [⟨target,iter,ifs,0⟩] scope pos) 0 it acc env) R s:=by
 refine codeAny_loop rfl I (fun n s hI=>?_) n h;show wpAny _ A ((compTurn (.ListComp elt [⟨target,iter,ifs,0⟩] scope pos) 0 it acc env).onRaise (fun x=>do noteFrame x env;theTreesLotGoes x)) _ _ s;refine wpAny_noted ?_;rw[compTurn_list];refine wpAny_bind (wpAny_standAt (wpAny_bind (wpAny_mono (turn n s hI) (fun r s₁ h₁=>?_) fun _ _ e=>e.elim)));cases r with
 | none=>exact wpAny_pure h₁
 | some v=>
  refine wpAny_bind (wpAny_mono h₁ (fun _ s₁' h₁'=>?_) fun _ _ e=>e.elim);refine wpAny_bind (wpAny_mono h₁' (fun _ s₂ h₂=>wpAny_bind (wpAny_mono h₂ (fun ok s₃ h₃=>?_) fun _ _ e=>e.elim)) fun _ _ e=>e.elim);cases ok with
  | false=>exact wpAny_pure ⟨rfl,h₃⟩
  | true=>
   exact wpAny_bind (wpAny_bind (wpAny_mono h₃ (fun x s₄ h₄=>wpAny_bind (wpAny_mono h₄ (fun _ s₅ h₅=>wpAny_pure (wpAny_pure ⟨rfl,h₅⟩)) fun _ _ e=>e.elim)) fun _ _ e=>e.elim))
end
end Mine
end
section
namespace Mine
open PySem PySem.W PyProof.Rows PySem.Spec PyProof PySem.SeqAt
structure fy(c:Cfg)(b:Addr):Prop where
 f:¬bG c b
 i:c.I b=none
theorem fy.evo{c c':Cfg}{h h':Heap}{X:Addr→Prop}{b:Addr}(a:fy c b)(E:Evo X c h c' h')(e:∃o,h.get? b=some o):fy c' b:=by
 obtain⟨o,e⟩:=e;have no:¬(h.get? b=none):=fun z=>by rw[z]at e;cases e
 refine⟨fun f=>(E.foot b f).elim a.f no,?_⟩;cases q:c'.I b with
 | none=>rfl
 | some y=>exfalso;exact(E.inew b y q).elim (fun z=>by rw[a.i]at z;cases z) fun z=>z.elim (fun z=>a.f z) fun z=>no z
theorem fy.stp{c c':Cfg}{h h':Heap}{W:Addr→Prop}{b:Addr}(a:fy c b)(st:Stp W c h c' h')(e:∃o,h.get? b=some o):fy c' b:=by
 obtain⟨o,e⟩:=e;refine⟨fun f=>a.f (st.foot.mp f),?_⟩;cases q:c'.I b with
 | none=>rfl
 | some y=>exfalso;exact(st.inew b y q).elim (fun z=>by rw[a.i]at z;cases z) fun z=>by rw[z]at e;cases e
theorem pG{c:Cfg}{a:Addr}{o:Obj}(ni:c.I a=none):∀b o',c.I b=some o'→(c.addI a o).I b=some o':=fun b o' e=>
 (if_neg (fun z=>by rw[z,ni]at e;cases e):(if b=a then some o else c.I b)=c.I b).trans e
theorem Evo.addFresh{Z:Addr→Prop}{c0 c:Cfg}{h0 h:Heap}{a:Addr}{o:Obj}(E:Evo Z c0 h0 c h)(ni:c.I a=none)(hn:h0.get? a=none):Evo Z c0 h0 (c.addI a o) h where
 inc:=fun b o' e=>pG ni b o' (E.inc b o' e)
 keep:=E.keep
 live:=E.live
 foot:=E.foot
 inew:=fun b o' q=>by
  by_cases z:b=a
  ·exact .inr (.inr (by rw[z];exact hn))
  ·exact E.inew b o' ((if_neg z:(if b=a then some o else c.I b)=c.I b)▸q)
theorem kj{c:Cfg}{a b:Addr}{l:List PV}(f:bG (c.put a (.list l)) b):b=a∨bG c b:=by
 have ne:∀{x},x≠a→(c.put a (.list l)).σ x=c.σ x:=fun z=>if_neg z
 rcases f with f|⟨a',C,fs,q,rfl⟩
 ·by_cases z:b=a
  ·exact .inl z
  ·exact .inr (.inl (by rw[←ne z];exact f))
 ·by_cases z:a'=a
  ·subst z
   have:(c.put a' (.list l)).σ a'=some (.list l):=if_pos rfl;rw[this]at q;cases q
  ·exact .inr (.inr ⟨a',C,fs,(ne z).symm.trans q,rfl⟩)
theorem gV{c:Cfg}{a a':Addr}{l:List PV}{C:Nat}{fs:List (Nat×PV)}(q:(c.put a (.list l)).σ a'=some (.inst C fs)):c.σ a'=some (.inst C fs):=by
 by_cases z:a'=a
 ·subst z
  have:(c.put a' (.list l)).σ a'=some (.list l):=if_pos rfl;rw[this]at q;cases q
 ·exact((if_neg z:(c.put a (.list l)).σ a'=c.σ a')).symm.trans q
theorem SR.putAt{N:Nm}{c:Cfg}{h:Heap}{a:Addr}{l:List PV}(S:SR N c h)(o:fy c a)(e:gm N c.I c.D h a (.list l)):SR N (c.put a (.list l)) h:=by
 refine⟨S.fr,fun b y q=>?_,fun b f=>?_,fun a' C fs q=>?_,fun a' C fs a'' C' fs' q q'=>S.dd a' C fs a'' C' fs' (gV q) (gV q'),S.stat⟩
 ·by_cases z:b=a
  ·subst z
   have:(c.put b (.list l)).σ b=some (.list l):=if_pos rfl;rw[this]at q;cases q;exact e
  ·exact S.st b y ((if_neg z:(c.put a (.list l)).σ b=c.σ b).symm.trans q)
 ·rcases kj f with rfl|f
  ·exact o.i
  ·exact S.ni b f
 ·have z:c.D a'≠a:=fun z=>o.f (.inr ⟨a',C,fs,gV q,z⟩)
  exact(if_neg z:(c.put a (.list l)).σ (c.D a')=c.σ (c.D a')).trans (S.dj a' C fs (gV q))
theorem Evo.putFresh{Z:Addr→Prop}{c0 c:Cfg}{h0 h:Heap}{a:Addr}{l:List PV}(E:Evo Z c0 h0 c h)(hn:h0.get? a=none):Evo Z c0 h0 (c.put a (.list l)) h:=
 ⟨E.inc,E.keep,E.live,fun b f=>(kj f).elim (fun z=>.inr (z▸hn)) (E.foot b),E.inew⟩
section
variable {w:Wd} {C:Ctx} {env:Env} {A:Around} {c:Cfg} {s:Shared} {loc:List PV} {Q:KV}
noncomputable abbrev x7(ifs:List Expr)(env:Env):Sem Bool:=forIn ifs true fun c r=>if r=true then do let ok ←isTrue c env (eval c env);pure (ForInStep.yield ok)else pure (ForInStep.yield r)
theorem nS{cs:List Expr}{K:Bool→Shared→Prop}(h:K false s):wpAny w.M A (forIn cs false fun c r=>if r=true then do let ok ←isTrue c env (eval c env);pure (ForInStep.yield ok)else pure (ForInStep.yield r)) K NoE s:=by
 induction cs with
 | nil=>rw[List.forIn_nil];exact wpAny_pure h
 | cons c cs ih=>rw[List.forIn_cons];exact wpAny_bind (wpAny_pure ih)
theorem pw{ifs:List Expr}{cs:List ME}(h:bB w C ifs cs):∀{c:Cfg} {s:Shared} {R:Bool→Sto→Prop},At w C env A c s loc→iQ w.T w.Sx cs loc c.σ R→WB w.N A (x7 ifs env) c s R:=by
 induction h with
 | nil=>intro c s R H q;exact wpAny_pure ⟨Go.refl H.S,q⟩
 | cons h t ih=>
  rename_i e me es mes;intro c s R H q;show wpAny _ A (forIn (e::es) true _) _ NoE s;rw[List.forIn_cons];exact wpAny_bind (wpAny_bind ((h.ts (R:=fun b σ=>if b=true then iQ w.T w.Sx mes loc σ R else R false σ) H q).seq fun b s1 c1 G q=>wpAny_pure (by
   cases b with
   | false=>exact nS ⟨G,q⟩
   | true=>exact oE G (ih (H.go G) q))))
theorem cX.watch{N:Nm}{c:Cfg}{h:Heap}{W:Addr→Prop}{it:Addr}{b:Bool}{K:Sto→Prop}{items:List PV}(I:cX N c h W it b K items):K c.σ:=by
 cases I with
 | liv _ q _ _ hK=>rw[hK];exact q
 | fro _ _ _ hK=>rw[hK];trivial
 | rng _ _ _ hK=>rw[hK];trivial
 | enu _ _ _ _ _ hK=>rw[hK];trivial
 | zip _ _ _ _ _ _ _ _ hK=>rw[hK];trivial
theorem tm{N:Nm}{A:Around}{c:Cfg}{s:Shared}{W:Addr→Prop}{it:Addr}{b:Bool}{K:Sto→Prop}{items:List PV}{R:Value→Shared→Prop}{E:Value→Shared→Prop}(I:cX N c s.heap W it b K items)(h:R (.ref it) s):
  wpAny (model N.prog N.w) A (pyIter (.ref it)) R E s:=by
 cases I with
 | fro w=>exact wpAny_pyIter_listiter w.hi h
 | liv hi=>exact wpAny_pyIter_listiter hi h
 | rng hi=>exact wpAny_pyIter_rangeiter hi h
 | enu _ he=>exact wpAny_pyIter_enum he h
 | zip _ hz=>exact wpAny_pyIter_zip hz h
end
structure LP where
 w:Wd
 C:Ctx
 env:Env
 A:Around
 sc:Scope
 W:Addr→Prop
 itA:Addr
 D:Addr
 La:Addr
 b:Bool
 K:Sto→Prop
 c:Cfg
 s:Shared
 loc:List PV
 m:Bool
 Q:KV
 t:Expr
 tg:Tgt
 bt:Bool
 elt:Expr
 me:ME
 ifs:List Expr
 cs:List ME
noncomputable abbrev LP.C'(p:LP):Ctx:=p.C.inner p.sc
noncomputable abbrev LP.env'(p:LP):Env:=compEnvC p.sc (fx p.env.cells p.sc.names []) p.La p.env
noncomputable abbrev LP.ex(p:LP):List PV:=List.replicate (aM p.sc p.C.n).length .undef
noncomputable def LP.body(p:LP):PV→Sto→(List PV→Sto→Prop)→Prop:=fun x σ' R=>dO p.tg x (p.loc++p.ex) fun loc'=>
 iQ p.w.T p.w.Sx p.cs loc' σ' fun ok σ₂=>if ok then ac p.w.T p.w.Sx p.me loc' σ₂ fun v σ₃=>R [v] σ₃ else R [] σ₂
noncomputable abbrev LP.end(p:LP):List PV→Sto→Prop:=fun l σ=>cU p.m l σ p.Q
structure LOk(p:LP):Prop where
 H:At p.w p.C p.env p.A p.c p.s p.loc
 Fc:fT p.C p.sc
 ht:ga p.w.N p.C' true p.t p.tg p.bt
 hb:p.b=true→p.bt=true
 he:aP p.w p.C' p.elt p.me
 hcs:bB p.w p.C' p.ifs p.cs
 w0:∀b,p.W b→p.s.heap.get? b=none
 wD:¬p.W p.D
 wL:¬p.W p.La
 ne:p.D≠p.La
 fD:p.s.heap.get? p.D=none
 fL:p.s.heap.get? p.La=none
structure ww(p:LP)(c':Cfg)(rest acc:List PV)(vs:List Value)(kk:Nat)(s':Shared):Prop where
 G:Go p.w.N NoX p.c p.s c' s'
 I:cX p.w.N c' s'.heap p.W p.itA p.b p.K rest
 w:∀x,p.W x→fy c' x
 d:s'.heap.get? p.D=some (listOf vs.toArray kk)
 r:ar p.w.N c'.I vs acc
 dn:fy c' p.D
 la:∃mm,s'.heap.Ns p.La mm
 lan:fy c' p.La
 len:acc.length+rest.length≤big
 q:d8 p.body p.K rest acc c'.σ p.end
inductive pI(p:LP)(n:Nat)(s':Shared):Prop
 | mk {c':Cfg} {rest acc:List PV} {vs:List Value} {kk:Nat} (e:rest.length=n) (T:ww p c' rest acc vs kk s')
section
variable {p:LP} {c' c3:Cfg} {rest acc:List PV} {vs:List Value} {kk:Nat} {s' s1:Shared}
theorem rH{h:Heap}{a:Addr}{m:Str→Option Value}(n:h.Ns a m):∃o,h.get? a=some o:=let⟨o,_,_,e,_⟩:=n;⟨o,e⟩
theorem LOk.own(O:LOk p){b:Addr}(o:Own p.env b):¬p.W b∧b≠p.La∧b≠p.D:=by
 obtain⟨x,e⟩:=O.H.L.own_some o;refine⟨fun z=>?_,fun z=>?_,fun z=>?_⟩
 ·rw[O.w0 b z]at e;cases e
 ·rw[z,O.fL]at e;cases e
 ·rw[z,O.fD]at e;cases e
theorem LOk.ctx(O:LOk p):cf p.C' p.env':=tu O.H.ctx O.Fc fun x _ ha=>(O.own (.inr ⟨x,ha⟩)).2.1
theorem ww.done{R:Prop}(O:LOk p)(T:ww p c' [] acc vs kk s')(S1:SR p.w.N c' s1.heap)(st:Stp p.W c' s'.heap c' s1.heap)(g:s1.gens=s'.gens)(o:s1.os=s'.os)
  (fin:∀{c6 d},Go p.w.N NoX p.c p.s c6 s1→av p.w.N c6.I (.ref p.D) d→p.Q d c6.σ→(∃m,s1.heap.Ns p.La m)→fy c6 p.La→R):R:=by
 obtain⟨mm,hmm⟩:=T.la;have nsW:∃m,s1.heap.Ns p.La m:=let⟨o,es,ep,e,r⟩:=hmm;⟨mm,o,es,ep,st.hk _ _ O.wL e,r⟩;have d1:=st.hk _ _ O.wD T.d;have E1:=T.G.E.stp st O.w0;have q:cU p.m acc c'.σ p.Q:=T.q;cases hm:p.m with
 | false=>
  rw[hm]at q;refine fin (c6:=c'.addI p.D (listOf vs.toArray kk)) ⟨S1.addAt T.dn.f T.dn.i d1,E1.addFresh T.dn.i O.fD,g.trans T.G.g,o.trans T.G.o⟩ (.list (if_pos rfl) ⟨by rw[T.r.length];exact q.1,kk,rfl⟩ (T.r.mono (pG T.dn.i))) q.2 nsW ⟨T.lan.f,?_⟩
  exact(if_neg (fun z=>O.ne z.symm):(if p.La=p.D then _ else c'.I p.La)=c'.I p.La).trans T.lan.i
 | true=>
  rw[hm]at q;have hσ:c'.σ p.D=none:=Classical.byContradiction fun z=>T.dn.f (.inl z)
  exact fin (c6:=c'.put p.D (.list acc)) ⟨S1.putAt T.dn ⟨_,vs,d1,⟨by rw[T.r.length];exact q.1,kk,rfl⟩,T.r⟩,E1.putFresh O.fD,g.trans T.G.g,o.trans T.G.o⟩ (.obj _) (q.2 _ hσ) nsW ⟨fun f=>(kj f).elim (fun z=>O.ne z.symm) T.lan.f,T.lan.i⟩
structure Mid(p:LP)(c3:Cfg)(rest acc:List PV)(vs:List Value)(kk:Nat)(s3:Shared):Prop where
 G:Go p.w.N NoX p.c p.s c3 s3
 I:cX p.w.N c3 s3.heap p.W p.itA p.b p.K rest
 w:∀x,p.W x→fy c3 x
 d:s3.heap.get? p.D=some (listOf vs.toArray kk)
 r:ar p.w.N c3.I vs acc
 dn:fy c3 p.D
 la:∃mm,s3.heap.Ns p.La mm
 lan:fy c3 p.La
 len:acc.length+(rest.length+1)≤big
theorem ww.mid{x:PV}{s3:Shared}(O:LOk p)(T:ww p c' (x::rest) acc vs kk s')(S3:SR p.w.N c3 s3.heap)(st:Stp p.W c' s'.heap c3 s3.heap)(I:cX p.w.N c3 s3.heap p.W p.itA p.b p.K rest)(g:s3.gens=s'.gens)(o:s3.os=s'.os):Mid p c3 rest acc vs kk s3:=by
 obtain⟨mm,hmm⟩:=T.la;exact⟨⟨S3,T.G.E.stp st O.w0,g.trans T.G.g,o.trans T.G.o⟩,I,fun b w=>(T.w b w).stp st (T.I.live b w),st.hk _ _ O.wD T.d,T.r.mono st.inc,T.dn.stp st ⟨_,T.d⟩,⟨mm,let⟨o,es,ep,e,r⟩:=hmm;⟨o,es,ep,st.hk _ _ O.wL e,r⟩⟩,T.lan.stp st (rH hmm),T.len⟩
noncomputable abbrev LP.X(p:LP):Addr→Prop:=fun b=>b=p.La∨b=p.D
theorem Mid.fin{c6:Cfg}{s3 s6:Shared}{acc':List PV}{vs':List Value}{kk':Nat}(O:LOk p)(M:Mid p c3 rest acc vs kk s3)(G:Go p.w.N p.X c3 s3 c6 s6)(d:s6.heap.get? p.D=some (listOf vs'.toArray kk'))(r:ar p.w.N c6.I vs' acc')
  (ns:∃mm,s6.heap.Ns p.La mm) (len:acc'.length+rest.length≤big) (q:p.K c6.σ∧d8 p.body p.K rest acc' c6.σ p.end):∃m,m<rest.length+1∧pI p m s6:=by
 obtain⟨mm,hmm⟩:=M.la;refine⟨rest.length,Nat.lt_succ_self _,rfl,⟨G.S,((M.G.up.E).trans G.E).fresh (fun b z=>by rcases z with rfl|rfl;exact O.fL;exact O.fD),G.g.trans M.G.g,G.o.trans M.G.o⟩,M.I.evo G.E (fun b w=>⟨(M.w b w).f,fun z=>?_⟩) q.1,
  fun b w=>(M.w b w).evo G.E (M.I.live b w),d,r,M.dn.evo G.E ⟨_,M.d⟩,ns,M.lan.evo G.E (rH hmm),len,q.2⟩
 rcases z with rfl|rfl
 ·exact O.wL w
 ·exact O.wD w
theorem LOk.at'(O:LOk p)(M:Mid p c3 rest acc vs kk s'):At p.w p.C' p.env' p.A c3 s' (p.loc++p.ex):=by
 obtain⟨mm,hmm⟩:=M.la;exact⟨⟨O.H.same.1,O.H.same.2,O.H.same.3,O.H.same.4,O.H.same.5,O.H.same.6⟩,O.ctx,⟨O.Fc.kind,O.H.g.gl,O.H.g.bi⟩,O.H.a,M.G.S,vo O.H.ctx O.Fc (O.H.L.evo M.G.E) hmm (fun _ _ e=>e) ⟨M.lan.f,M.lan.i⟩ p.ex List.length_replicate fun i v e=>by
  rw[List.getElem?_replicate]at e
  by_cases z:i<(aM p.sc p.C.n).length
  ·rw[if_pos z]at e;cases e;rfl
  ·rw[if_neg z]at e;cases e⟩
theorem Mid.work{x:PV}{v:Value}{s3:Shared}(O:LOk p)(M:Mid p c3 rest acc vs kk s3)(rx:av p.w.N c3.I v x)(q:p.body x c3.σ fun o σ'=>p.K σ'∧d8 p.body p.K rest (acc++o) σ' p.end):
  wpAny p.w.M p.A (assign p.t p.env' v) (fun _ s₂=>wpAny p.w.M p.A (x7 p.ifs p.env') (fun ok s₃=>if ok=true then wpAny p.w.M p.A (eval p.elt p.env') (fun x s₄=>
   wpAny p.w.M p.A (call (.builtin "list.append") [.ref p.D,x]) (fun _ s₅=>∃m,m<rest.length+1∧pI p m s₅) NoE s₄) NoE s₃ else ∃m,m<rest.length+1∧pI p m s₃) NoE s₂) NoE s3:=by
 have H3:=O.at' M;refine wpAny_mono (O.ht.asg (X:=fun b=>b=p.La) ⟨O.H.a.h,O.ctx,rfl,fun z=>by cases z⟩ M.G.S H3.L rx q) (fun _ s4 h4=>?_) fun _ _ e=>e
 cases h4 with|mk G4 L4 q=>
 have H4:At p.w p.C' p.env' p.A c3 s4 _:=⟨H3.same,H3.ctx,H3.g,H3.a,G4.S,L4⟩
 refine(pw O.hcs H4 q).seq fun ok s5 c5 G5 q=>?_
 have G45:Go p.w.N p.X c3 s3 c5 s5:=⟨G5.S,(G4.E.weaken fun _ z=>.inl z).trans (G5.E.weaken fun _ z=>z.elim),G5.g.trans G4.g,G5.o.trans G4.o⟩
 have d5:s5.heap.get? p.D=some (listOf vs.toArray kk):=G5.E.keep _ _ (G4.E.keep _ _ M.d M.dn.f O.ne) M.dn.f id;have r5:=M.r.mono G5.E.inc;have hle:acc.length+(rest.length+1)≤16777216:=M.len;cases ok with
 | false=>exact M.fin O G45 d5 r5 (H4.go G5).L.ns (by show _≤16777216;exact ln [_,_] [.l (.a .x0 .p11) (.k 16777216)] (.a .x0 .x1) (.k 16777216) [] rfl hle) ⟨q.1,by have:=q.2;rw[List.append_nil]at this;exact this⟩
 | true=>
  refine(O.he.ev (H4.go G5) q).seq fun v6 s6 c6 dv G6 r6 q6=>?_
  have dn5:=M.dn.evo G45.E ⟨_,M.d⟩;have d6:s6.heap.get? p.D=some (listOf vs.toArray kk):=G6.E.keep _ _ d5 dn5.f id;have dn6:=dn5.evo G6.E ⟨_,d5⟩;obtain⟨mm7,o7,es7,ep7,e7,q7⟩:=((H4.go G5).go G6).L.ns;refine append_at d6 (fun h' hs ho'=>?_) (by rw[List.size_toArray,M.r.length,sizeLine_eq];exact ln [_,_] [.l (.a .x0 .p11) (.k 16777216)] .x0 (.k 16777216) [] rfl hle);rw[List.push_toArray]at ho';refine M.fin O (s6:={s6 with heap:=h'}) ⟨G6.S.touch hs.extBut dn6.f dn6.i,(G45.E.trans (G6.E.weaken fun _ z=>z.elim)).touch hs.extBut ⟨_,ho'⟩ (.inr (.inr rfl)),G6.g.trans G45.g,G6.o.trans G45.o⟩ ho' ((r5.mono G6.E.inc).append (.cons r6 .nil)) ⟨mm7,o7,es7,ep7,(hs.2 _ O.ne.symm).trans e7,q7⟩ ?_ q6;rw[List.length_append];show acc.length+1+rest.length≤16777216;exact ln [_,_] [.l (.a .x0 .p11) (.k 16777216)] (.a .p01 .x1) (.k 16777216) [] rfl hle
theorem qq{n:Nat}{R:Result→Shared→Prop}{it:Expr}{pos:Pos}(O:LOk p)(h:pI p n s')
  (fin:∀{c6 s6 d},Go p.w.N NoX p.c p.s c6 s6→av p.w.N c6.I (.ref p.D) d→p.Q d c6.σ→(∃m,s6.heap.Ns p.La m)→fy c6 p.La→R (.ok .next) s6):
  codeAny p.w.M p.A (.compLoop (.ListComp p.elt [⟨p.t,it,p.ifs,0⟩] p.sc pos) 0 (.ref p.itA) (.ref p.D) p.env') R s':=
 nF (fun k s'=>pI p k s') (fun k s' hJ=>by
  cases hJ with|mk e T=>
  subst e;refine wpAny_mono (kz (E':=NoE) O.H.a.h T.G.S T.I (fun b w=>⟨(T.w b w).f,(T.w b w).i⟩) O.ht.go O.hb) (fun rv s1 h1=>?_) fun _ _ e=>e
  cases h1 with
  | none e S1 st g1 o1=>subst e;exact T.done O S1 st g1 o1 fin
  | some e h1=>
   subst e;refine wpAny_mono h1 (fun _ s3 h3=>?_) fun _ _ e=>e
   cases h3 with|mk S3 st rx I3 g3 o3=>
   exact(T.mid O S3 st I3 g3 o3).work O rx (by have:=T.q;rw[←st.sig]at this;exact this)) n h
end
section
variable {w:Wd} {C:Ctx} {env:Env} {A:Around} {c:Cfg} {s:Shared} {loc:List PV} {Q:KV}
theorem mD{use:Option (Value→Sem Unit)}{Q':Value→Shared→Prop}{p0:Pos}{elt t it:Expr}{ifs:List Expr}{sc:Scope}{pos:Pos}{e':ME}{t':Tgt}{bt:Bool}{mi:MI}{cs:List ME}{m:Bool}
  (hok:gD C sc=true) (ht:ga w.N (C.inner sc) true t t' bt) (he:aP w (C.inner sc) elt e') (hcs:bB w (C.inner sc) ifs cs) (hi:lN w C it mi) (htup:dg mi=true→bt=true) (H:At w C env A c s loc)
  (h:ac w.T w.Sx (.comp m (aM sc C.n).length e' t' mi cs) loc c.σ Q)
  (fin0:∀{acc:Value} {La:Addr} {c6:Cfg} {s6:Shared} {d:PV},Go w.N NoX c s c6 s6→av w.N c6.I acc d→Q d c6.σ→(∃m,s6.heap.Ns La m)→fy c6 La→s.heap.get? La=none→compPost w.M A NoE use Q' acc La (.ok .next) s6):
  wpAny w.M A (comprehension (.ListComp elt [⟨t,it,ifs,0⟩] sc pos) sc env p0 (newList []) false (eval it env) use) Q' NoE s:=by
 have Fc:=wg hok;refine wpAny_comprehension_free rfl (fun x=>hi.fold x env) (qS (env:=env) fun x hx hf=>?_) Fc.kind (fun x hx hl=>?_) ?_
 ·obtain⟨y,k⟩:=x;cases hf;obtain⟨i,hi',hk⟩:=Fc.free y hx;exact H.ctx.cell y i (cC hi').1 hk
 ·obtain⟨y,k⟩:=x;cases hl;exact cm Fc.nodup hx
 refine wpAny_mono (hi.ev H h) (fun xv s1 h1=>wpAny_mono h1 (fun iv s2 h2=>?_) fun _ _ e=>e) fun _ _ e=>e
 cases h2 with|mk G2 I2 w2 lenI q2=>
 rename_i itA W K items c2;refine wpAny_newObj_type (wpAny_newFunctionEnv (fun x hx=>Fc.nocell x.1 x.2 hx) (fun y hy=>by cases hy) (fun h₁ hns₁ hsb₁=>?_) Fc.kind);dsimp only at hns₁ hsb₁⊢;generalize hH2:s2.heap.push {cls:=.type "list",dict:=none,data:=.seq ([]:List Value).toArray}=H2 at hns₁ hsb₁⊢;have hC:H2.objs.size=s2.heap.objs.size+1:=by rw[←hH2,Heap.size_push]
 have hDC:s2.heap.objs.size≠H2.objs.size:=by rw[hC];exact Nat.ne_of_lt (Nat.lt_succ_self _)
 have old:∀b o,s2.heap.get? b=some o→h₁.get? b=some o:=fun b o e=>hsb₁.extBut b o (by rw[hC];exact Nat.ne_of_lt (Nat.lt_succ_of_lt (Heap.lt_size e))) (Heap.get?_push_of_some _ (hH2▸Heap.get?_push_of_some _ e))
 have hacc:h₁.get? s2.heap.objs.size=some (listOf ([]:List Value).toArray 0):=hsb₁.extBut _ _ hDC (Heap.get?_push_of_some _ (hH2▸Heap.get?_push_size _ rfl));have wD:=gn G2 (Nat.le_refl s2.heap.objs.size);have wL:=gn G2 (b:=H2.objs.size) (by rw[hC];exact Nat.le_succ _);have gL:s2.heap.get? H2.objs.size=none:=by rw[hC];exact l8 _
 have GE:Go w.N NoX c2 s2 c2 {s2 with heap:=h₁,toks:=s2.toks+([]:List (Str×Value)).length}:=.ext G2.S old;have IE:=I2.evo GE.E (fun b w=>⟨(w2 b w).f,id⟩) I2.watch;have O:LOk ⟨w,C,env,A,sc,W,itA,s2.heap.objs.size,H2.objs.size,dg mi,K,c,s,loc,m,Q,t,t',bt,elt,e',ifs,cs⟩:=
  ⟨H,Fc,ht,htup,he,hcs,fun b w=>(w2 b w).n,(fun z=>by obtain⟨o,e⟩:=I2.live _ z;rw[bf]at e;cases e),(fun z=>by obtain⟨o,e⟩:=I2.live _ z;rw[gL]at e;cases e),hDC,wD.n,wL.n⟩
 have loop:=qq (it:=it) (pos:=pos) (R:=compPost w.M A NoE use Q' (.ref s2.heap.objs.size) H2.objs.size) O
  (.mk rfl ⟨G2.trans GE,IE,fun b w=>⟨(w2 b w).f,(w2 b w).i⟩,hacc,.nil,⟨wD.f,wD.i⟩,⟨_,hns₁⟩,⟨wL.f,wL.i⟩,(Nat.zero_add _).symm▸lenI,q2⟩)
  fun G r q n o=>fin0 G r q n o wL.n
 exact codeAny_compStart_list loop (tm (c:=c2) (s:={s2 with heap:=h₁,toks:=s2.toks+([]:List (Str×Value)).length}) IE loop)
theorem n8{elt t it:Expr}{ifs:List Expr}{sc:Scope}{pos:Pos}{e':ME}{t':Tgt}{bt:Bool}{mi:MI}{cs:List ME}{m:Bool}
  (hok:gD C sc=true) (ht:ga w.N (C.inner sc) true t t' bt) (he:aP w (C.inner sc) elt e') (hcs:bB w (C.inner sc) ifs cs) (hi:lN w C it mi) (htup:dg mi=true→bt=true) (H:At w C env A c s loc)
  (h:ac w.T w.Sx (.comp m (aM sc C.n).length e' t' mi cs) loc c.σ Q):WV w.N A (eval (.ListComp elt [⟨t,it,ifs,0⟩] sc pos) env) c s Q:=by
 rw[eval_ListComp];refine mD (use:=none) hok ht he hcs hi htup H h fun{acc La c6 s6 d} G r q ns ln fL=>?_
 obtain⟨mm,ns⟩:=ns;refine⟨mm,ns,fun h' hs=>?_⟩;have hk:∀b o,¬W1 La b→s6.heap.get? b=some o→h'.get? b=some o:=fun b o nb e=>(hs.2 b nb).trans e
 exact⟨⟨G.S.kept hk (by rintro _ rfl;exact⟨ln.f,ln.i⟩),G.E.stp (Stp.here hk) (by rintro _ rfl;exact fL),G.g,G.o⟩,r,q⟩
end
end Mine
end
section
namespace Mine
open PySem PySem.W PyProof.Rows PySem.Spec PyProof PySem.SeqAt
structure im(w:Wd)(C:Ctx)(st:Stmt)(ms:MS):Prop where
 ev:∀{env A c s loc Q},At w C env A c s loc→yn w.T w.Sx ms loc c.σ Q→WE w.N A C env (exec st env) c s Q
inductive eH(w:Wd)(C:Ctx):List Stmt→List MS→Prop
 | nil:eH w C [] []
 | cons {st ms b mb} (h:im w C st ms) (t:eH w C b mb):eH w C (st::b) (ms::mb)
section
variable {w:Wd} {C:Ctx} {env:Env} {A:Around} {c:Cfg} {s:Shared} {loc:List PV} {Q:KO}
theorem At.up(H:At w C env A c s loc){X:Addr→Prop}{c':Cfg}{s':Shared}{loc':List PV}(G:Go w.N X c s c' s')(L:LR w.N C env c' s'.heap loc'):At w C env A c' s' loc':=⟨H.same,H.ctx,H.g,H.a,G.S,L⟩
theorem At.next(H:At w C env A c s loc){c':Cfg}{s':Shared}(G:Go w.N NoX c s c' s')(q:Q (.next loc) c'.σ):eM w.N C env c s Q .next s':=.next G.up (H.go G).L q
theorem dz{b:List Stmt}{mb:List MS}(h:eH w C b mb):∀{c:Cfg} {s:Shared} {loc:List PV} {Q:KO},At w C env A c s loc→al w.T w.Sx mb loc c.σ Q→WE w.N A C env (execs b env) c s Q:=by
 induction h with
 | nil=>intro c s loc Q H q;exact wpAny_execs_nil (H.next (Go.refl H.S) q)
 | cons h t ih=>
  intro c s loc Q H q;refine wpAny_execs_cons (wpAny_mono (h.ev H q) (fun f s1 hf=>?_) fun _ _ e=>e);cases hf with
  | next G L q=>exact wpAny_mono (ih (H.up G L) q) (fun _ _ z=>z.trans G) fun _ _ e=>e
  | ret G r q=>exact .ret G r q
theorem yj{t:Sem Flow}{c':Cfg}{s':Shared}(G:Go w.N NoX c s c' s')(h:WE w.N A C env t c' s' Q):wpAny w.M A t (eM w.N C env c s Q) NoE s':=wpAny_mono h (fun _ _ z=>z.trans G.up) fun _ _ e=>e
theorem yO{e:Expr}{pos:Pos}{x:ME}(he:aP w C e x):im w C (.Return (some e) pos) (.ret x):=
 ⟨fun H h=>wpAny_Return_some ((he.ev H h).seq fun v s1 c1 d G r q=>.ret G.up r q)⟩
theorem wX{pos:Pos}:im w C (.Return none pos) (.ret .none):=⟨fun H h=>wpAny_Return_none (.ret (Go.refl H.S) .none h)⟩
theorem wY{e:Expr}{pos:Pos}{x:ME}(hc:dF e=false)(he:aP w C e x):im w C (.Expr e pos) (.expr x):=
 ⟨fun H h=>wpAny_Expr_any ((he.ev H h).seq fun v s1 c1 d G r q=>H.next G q) (by unfold interactive;rw[H.ctx.fn];rfl) (he.pl.swp.elim (fun z=>by rw[hc]at z;cases z) fun z=>z _ _ _)⟩
theorem BJ{e:Expr}{a b:List Stmt}{pos:Pos}{x:ME}{ma mb:List MS}(he:aP w C e x)(ha:eH w C a ma)(hb:eH w C b mb):im w C (.If e a b pos) (.ite x ma mb):=
 ⟨fun{env A c s loc Q} H h=>wpAny_If ((he.ts (R:=fun b σ=>if b=true then al w.T w.Sx ma loc σ Q else al w.T w.Sx mb loc σ Q) H h).seq fun t s1 c1 G q=>by
  cases t with
  | true=>exact yj G (dz ha (H.go G) q)
  | false=>exact yj G (dz hb (H.go G) q))⟩
inductive DD(w:Wd)(C:Ctx)(env:Env)(c:Cfg)(s:Shared)(I:Nat→List PV→Sto→Prop)(k:Nat)(s':Shared):Prop
 | mk {c':Cfg} {l:List PV} (G:Go w.N (Own env) c s c' s') (L:LR w.N C env c' s'.heap l) (i:I k l c'.σ)
theorem ue{e:Expr}{b:List Stmt}{pos:Pos}{x:ME}{mb:List MS}(he:aP w C e x)(hb:eH w C b mb):im w C (.While e b [] pos) (.while x mb):=
 ⟨fun{env A c s loc Q} H h=>by
  obtain⟨I,⟨n0,h0⟩,turn⟩:=h;refine wpAny_While (codeAny_whileLoop (DD w C env c s I) (fun k s' hI=>?_) n0 ⟨Go.refl H.S,H.L,h0⟩);cases hI with|mk G L i=>
  have H':=H.up G L;refine wpAny_mono (he.ts H' (turn k _ _ i)) (fun t s1 h1=>?_) fun _ _ e=>e.elim
  cases h1 with|mk G1 q1=>
  have H1:=H'.go G1;have G01:=G.trans G1.up;cases t with
  | true=>
   refine wpAny_mono (dz hb H1 q1) (fun f s2 hf=>?_) fun _ _ e=>e.elim
   cases hf with
   | next G2 L2 q=>obtain⟨m,hm,q⟩:=q;exact⟨m,hm,G01.trans G2,L2,q⟩
   | ret G2 r q=>exact .ret (G01.trans G2) r q
  | false=>exact wpAny_execs_nil (.next G01 H1.L q1)⟩
theorem sok(H:At w C env A c s loc):SOk C env A (Own env) false:=⟨H.a.h,H.ctx,.inl rfl,fun _ x a _ ha=>.inr ⟨x,mem_of_lookup ha⟩⟩
inductive AP(w:Wd)(C:Ctx)(env:Env)(W:Addr→Prop)(itA:Addr)(b:Bool)(K:Sto→Prop)(c:Cfg)(s:Shared)(body:List PV→Sto→KO→Prop)(tg:Tgt)(Q:KO)(k:Nat)(s':Shared):Prop
 | mk {c':Cfg} {l rest:List PV} (e:rest.length=k) (G:Go w.N (Own env) c s c' s') (L:LR w.N C env c' s'.heap l) (I:cX w.N c' s'.heap W itA b K rest) (w':∀x,W x→fy c' x) (q:o5 body tg K rest l c'.σ Q):AP w C env W itA b K c s body tg Q k s'
inductive AO(w:Wd)(C:Ctx)(env:Env)(W:Addr→Prop)(itA:Addr)(b:Bool)(K:Sto→Prop)(c:Cfg)(s:Shared)(body:List PV→Sto→KO→Prop)(tg:Tgt)(Q:KO)(k:Nat):Flow→Shared→Prop
 | next {s':Shared} (h:AP w C env W itA b K c s body tg Q k s'):AO w C env W itA b K c s body tg Q k .next s'
 | ret {v:Value} {s':Shared} (h:eM w.N C env c s Q (.ret v) s'):AO w C env W itA b K c s body tg Q k (.ret v) s'
theorem vD{W:Addr→Prop}{itA:Addr}{b:Bool}{K:Sto→Prop}{body:List PV→Sto→KO→Prop}{t:Expr}{tg:Tgt}{bt:Bool}{bs:List Stmt}{c' c3:Cfg}{x:PV}{rest l:List PV}{v:Value}{s' s3:Shared}(H:At w C env A c s loc)(ht:ga w.N C false t tg bt)
  (hb:∀{c s loc Q},At w C env A c s loc→body loc c.σ Q→WE w.N A C env (execs bs env) c s Q) (w0:∀b,W b→s.heap.get? b=none)
  (G:Go w.N (Own env) c s c' s') (L:LR w.N C env c' s'.heap l) (I:cX w.N c' s'.heap W itA b K (x::rest)) (w':∀x,W x→fy c' x) (q:o5 body tg K (x::rest) l c'.σ Q)
  (S3:SR w.N c3 s3.heap) (st:Stp W c' s'.heap c3 s3.heap) (rx:av w.N c3.I v x) (I3:cX w.N c3 s3.heap W itA b K rest) (g3:s3.gens=s'.gens) (o3:s3.os=s'.os):
  wpAny w.M A (assign t env v) (fun _ s4=>wpAny w.M A (execs bs env) (AO w C env W itA b K c s body tg Q rest.length) NoE s4) NoE s3:=by
 have nWO:∀b,Own env b→¬W b:=fun b o w=>by obtain⟨y,e⟩:=H.L.own_some o;rw[w0 b w]at e;cases e
 have G3:Go w.N (Own env) c s c3 s3:=⟨S3,G.E.stp st w0,g3.trans G.g,o3.trans G.o⟩
 rw[←st.sig]at q;refine wpAny_mono (ht.asg (sok H) S3 (L.stp st nWO) rx q) (fun _ s4 h4=>?_) fun _ _ e=>e
 cases h4 with|mk G4 L4 q=>
 refine wpAny_mono (hb (H.up (G3.trans G4) L4) q) (fun f s5 hf=>?_) fun _ _ e=>e
 cases hf with
 | next G5 L5 q=>
  have G35:=G4.trans G5;exact .next ⟨rfl,G3.trans G35,L5,I3.evo G35.E (fun b w=>⟨((w' b w).stp st (I.live b w)).f,fun o=>nWO b o w⟩) q.1,fun b w=>((w' b w).stp st (I.live b w)).evo G35.E (I3.live b w),q.2⟩
 | ret G5 r q=>exact .ret (.ret (G3.trans (G4.trans G5)) r q)
theorem yP{t it:Expr}{b:List Stmt}{pos:Pos}{tg:Tgt}{bt:Bool}{mi:MI}{mb:List MS}(ht:ga w.N C false t tg bt)(hi:lN w C it mi)(hb:eH w C b mb)(htup:dg mi=true→bt=true):im w C (.For t it b [] pos) (.for tg mi mb):=
 ⟨fun{env A c s loc Q} H h=>by
  refine wpAny_For (wpAny_mono (hi.ev H h) (fun xv s1 h1=>wpAny_mono h1 (fun iv s2 h2=>?_) fun _ _ e=>e) fun _ _ e=>e) fun x=>hi.fold x env
  cases h2 with|mk G2 I2 w2 lenI q2=>
  rename_i itA W K items c2;refine codeAny_forLoop_any (AP w C env W itA (dg mi) K c s (fun loc σ R=>al w.T w.Sx mb loc σ R) tg Q) (fun k s' hJ=>?_) items.length ⟨rfl,G2.up,(H.go G2).L,I2,fun b w=>⟨(w2 b w).f,(w2 b w).i⟩,q2⟩;cases hJ with|mk e G L I w' q=>
  subst e;refine wpAny_mono (kz (E':=notedBy w.M A env fun e s'=>match (Except.error e:Result)with| .ok f=>eM w.N C env c s Q f s'| .error e=>cameBackBy w.M A env NoE e s') H.a.h G.S I (fun b w=>⟨(w' b w).f,(w' b w).i⟩) ht.go htup) (fun rv s1 h1=>?_) fun _ _ e=>e
  cases h1 with
  | none e S1 st g1 o1=>
   subst e;exact wpAny_execs_nil (.next ⟨S1,G.E.stp st fun b w=>(w2 b w).n,g1.trans G.g,o1.trans G.o⟩ (L.stp st fun b o w=>by obtain⟨y,e⟩:=H.L.own_some o;rw[(w2 b w).n]at e;cases e) q)
  | some e h1=>
   subst e;refine wpAny_mono h1 (fun _ s3 h3=>?_) fun _ _ e=>e
   cases h3 with|mk S3 st rx I3 g3 o3=>
   refine wpAny_mono (vD H ht (fun H q=>dz hb H q) (fun b w=>(w2 b w).n) G L I w' q S3 st rx I3 g3 o3) (fun _ s4 h4=>wpAny_mono h4 (fun f s5 hf=>?_) fun _ _ e=>e.elim) fun _ _ e=>e.elim
   cases hf with
   | next h=>exact⟨_,Nat.lt_succ_self _,h⟩
   | ret h=>exact h⟩
end
end Mine
end
section
namespace Mine
open PySem PySem.W PyProof.Rows PySem.Spec PyProof PySem.SeqAt
section
variable {w:Wd} {C:Ctx} {env:Env} {A:Around} {c:Cfg} {s:Shared} {loc:List PV} {Q:KO}
theorem pH.ep{c1:Cfg}{s1 s2:Shared}{u:Unit}{R:Sto→Prop}(H:At w C env A c s loc)(G:Go w.N NoX c s c1 s1)(h:pH w.N c1 s1 R u s2)(hq:∀σ,R σ→Q (.next loc) σ):eM w.N C env c s Q .next s2:=by
 cases h with|mk G2 q=>exact H.next (G.trans G2) (hq _ q)
theorem aP.ns{v:Expr}{x:ME}(hv:aP w C v x)(h:dF v=false)(t:Option Expr)(line:Nat)(env:Env):swapsWith v t line env=pure false:=hv.pl.swp.elim (fun z=>by rw[h]at z;cases z) fun z=>z _ _ _
theorem aP.sole{v:Expr}{x:ME}(hv:aP w C v x)(h:dF v=false)(t:Expr)(line:Nat)(env:Env):swapsWithSole [t] v line env=pure false:=hv.ns h (some t) line env
theorem pS{o v:Expr}{a:Str}{p pos:Pos}{x y:ME}{i:Nat}(hi:idx C.attrs a=some i)(hc:dF v=false)(hv:aP w C v x)(ho:aP w C o y):im w C (.Assign [.Attribute o a p] v pos) (.setattr y i x):=
 ⟨fun{env A c s loc Q} H h=>by
  rw[H.same.attrs]at hi;obtain⟨hn,rfl⟩:=w.F.attrs a i hi;refine wpAny_Assign_stores ((hv.ev H h).seq fun vv s1 c1 d G1 r1 q1=>?_) (hv.sole hc _ _ _) rfl;show wpAny _ A (do let ov ←holding [vv] (eval o env);standAt p.atName;holding [vv,ov] (setAttr ov (w.N.attr i) vv);release [vv,ov] []) _ _ s1;refine wpAny_bind (wpAny_holding ((ho.ev (H.go G1) q1).seq fun ov s2 c2 e G2 r2 q2=>wpAny_bind (wpAny_standAt (wpAny_bind (wpAny_holding ?_)))));obtain⟨b,cl,fs,rfl,q3,hz,q4⟩:=ql q2;cases r2.toO;exact wpAny_mono (lC (R:=fun σ=>Q (.next loc) σ) w.F hn G2.S (r1.mono G2.E.inc) q3 hz q4) (fun _ s3 z=>wpAny_release' (z.ep H (G1.trans G2) fun _ z=>z)) fun _ _ e=>e⟩
theorem pR{o i v:Expr}{p pos:Pos}{x y z:ME}(hc:dF v=false)(hv:aP w C v x)(ho:aP w C o y)(hi:aP w C i z):im w C (.Assign [.Subscript o i p] v pos) (.setitem y z x):=
 ⟨fun{env A c s loc Q} H h=>by
  refine wpAny_Assign_stores ((hv.ev H h).seq fun vv s1 c1 d G1 r1 q1=>?_) (hv.sole hc _ _ _) rfl;show wpAny _ A (assign (.Subscript o i p) env vv) _ _ s1;rw[arm_assign_Subscript];refine wpAny_bind (wpAny_holding ((ho.ev (H.go G1) q1).seq fun ov s2 c2 e G2 r2 q2=>wpAny_bind (wpAny_holding ((hi.ev (H.go (G1.trans G2)) q2).seq fun iv s3 c3 f G3 r3 q3=>wpAny_bind (wpAny_standAt (wpAny_bind (wpAny_holding ?_)))))));obtain⟨k,rfl,q3⟩:=cK q3;obtain⟨b,kvs,rfl,q4,hn,hz,q5⟩:=rF q3;exact wpAny_mono (kZ (Q:=fun σ=>Q (.next loc) σ) G3.S (r2.mono G3.E.inc) r3 (r1.mono (G2.E.trans G3.E).inc) q4 hn hz q5) (fun _ s4 z=>wpAny_release' (z.ep H (G1.trans (G2.trans G3)) fun _ z=>z)) fun _ _ e=>e⟩
theorem n6{o lo hi v:Expr}{p p' pos:Pos}{x y zl zh:ME}(hc:dF v=false)(hv:aP w C v x)(ho:aP w C o y)(hl:aP w C lo zl)(hh:aP w C hi zh):im w C (.Assign [.Subscript o (.Slice (some lo) (some hi) none p') p] v pos) (.setslice y zl zh x):=
 ⟨fun{env A c s loc Q} H h=>by
  refine wpAny_Assign_stores ((hv.ev H h).seq fun vv s1 c1 d G1 r1 q1=>?_) (hv.sole hc _ _ _) rfl;show wpAny _ A (do let ov ←holding [vv] (eval o env);let iv ←holding [vv,ov] (eval (.Slice (some lo) (some hi) none p') env);standAt p;holding [vv,ov,iv] (setItem ov iv vv);release [iv,vv,ov] []) _ _ s1;refine wpAny_bind (wpAny_holding ((ho.ev (H.go G1) q1).seq fun ov s2 c2 e G2 r2 q2=>wpAny_bind (wpAny_holding (wpAny_Slice ?_))));rw[evalPart_some,evalPart_some]
  refine(hl.ev (H.go (G1.trans G2)) q2).seq fun vl s3 c3 dl G3 r3 q3=>(hh.ev (H.go (G1.trans (G2.trans G3))) q3).seq fun vh s4 c4 dh G4 r4 q4=>?_
  rw[evalPart_none];obtain⟨ys,rfl,q4⟩:=ls q4;obtain⟨i,rfl,q4⟩:=cK q4;obtain⟨j,rfl,q4⟩:=cK q4;obtain⟨b,l,rfl,q5,h0,hij,hj,hz,q6⟩:=kx q4;obtain⟨t,rfl⟩:=(r3.mono G4.E.inc).toI;obtain⟨t',rfl⟩:=r4.toI;have I34:=(G3.E.trans G4.E)
  exact wpAny_pure (wpAny_bind (wpAny_standAt (wpAny_bind (wpAny_holding (wpAny_mono (j7 (Q:=fun σ=>Q (.next loc) σ) G4.S (r2.mono I34.inc) (r1.mono (G2.E.trans I34).inc) q5 h0 hij hj hz q6) (fun _ s4 z=>wpAny_release' (z.ep (c1:=c4) H ((G1.trans G2).trans (G3.trans G4)) fun _ z=>z)) fun _ _ e=>e)))))⟩
theorem vT{t:Expr}{tg:Tgt}{bt:Bool}{c1:Cfg}{s1:Shared}{v:Value}{d:PV}(ht:ga w.N C false t tg bt)(H:At w C env A c s loc)(G:Go w.N NoX c s c1 s1)(r:av w.N c1.I v d)(q:dO tg d loc fun loc'=>Q (.next loc') c1.σ):
  wpAny w.M A (assign t env v) (fun _ s2=>eM w.N C env c s Q .next s2) NoE s1:=
 wpAny_mono (ht.asg (sok H) G.S (H.go G).L r q) (fun _ s2 h2=>by cases h2 with|mk G2 L2 q=>exact .next (G.up.trans G2) L2 q) fun _ _ e=>e
theorem iw{t v:Expr}{pos:Pos}{tg:Tgt}{bt:Bool}{x:ME}(hv:aP w C v x)(ht:ga w.N C false t tg bt)(hs:∀env,swapsWith v (some t) pos.line env=pure false)(hw:∀env,cf C env→swappedStores [t] v env=pure none):im w C (.Assign [t] v pos) (.assign tg x):=
 ⟨fun{env A c s loc Q} H h=>wpAny_Assign_stores ((hv.ev H h).seq fun u s1 c1 d G r q=>by
  have e:(assignEach [t] env).map (·.2)=[assign t env]:=by rw[cx ht];rfl
  rw[e];exact vT ht H G r q) (hs env) (hw env H.ctx)⟩
theorem wZ{elt tt it:Expr}{ifs:List Expr}{sc:Scope}{y:Str}{py pos cpos:Pos}{tg:Tgt}{bt:Bool}{e':ME}{t':Tgt}{bt':Bool}{mi:MI}{cs:List ME}{m:Bool}
  (hok:gD C sc=true) (ht:ga w.N (C.inner sc) true tt t' bt') (he:aP w (C.inner sc) elt e') (hcs:bB w (C.inner sc) ifs cs) (hi:lN w C it mi) (htup:dg mi=true→bt'=true) (hy:ga w.N C false (.Name y py) tg bt):
  im w C (.Assign [.Name y py] (.ListComp elt [⟨tt,it,ifs,0⟩] sc cpos) pos) (.assign tg (.comp m (aM sc C.n).length e' t' mi cs)):=
 ⟨fun{env A c s loc Q} H h=>by
  have hs:∃b,swapsWith (.ListComp elt [⟨tt,it,ifs,0⟩] sc cpos) (some (.Name y py)) pos.line env=pure b:=⟨_,rfl⟩
  obtain⟨b,hs⟩:=hs;cases b with
  | false=>
   refine wpAny_Assign_stores ((n8 hok ht he hcs hi htup H h).seq fun u s1 c1 d G r q=>?_) hs rfl;have e:(assignEach [.Name y py] env).map (·.2)=[assign (.Name y py) env]:=rfl;rw[e];exact vT hy H G r q
  | true=>
   rw[exec_Assign_Name_used _ _ _ _ hs];refine wpAny_bind (wpAny_standAt (wpAny_bind ?_));show wpAny _ A (do let _ ←comprehension (.ListComp elt [⟨tt,it,ifs,0⟩] sc cpos) sc env _ (newList []) false (eval it env) (some (assign (.Name y py) env))) _ _ s;refine wpAny_bind (wpAny_mono (mD (use:=some (assign (.Name y py) env)) (Q':=fun _ s'=>eM w.N C env c s Q .next s') hok ht he hcs hi htup H h fun{acc La c6 s6 d} G6 r6 q ns ln fL=>?_) (fun _ s' hq=>wpAny_pure (wpAny_pure hq)) fun _ _ e=>e);have nLO:¬Own env La:=fun o=>by obtain⟨z,e⟩:=H.L.own_some o;rw[fL]at e;cases e
   refine wpAny_mono (hy.asg (sok H) G6.S (H.go G6).L r6 q) (fun _ s7 h7=>?_) fun _ _ e=>e
   cases h7 with|mk G7 L7 q=>
   obtain⟨mm,o,es,ep,e,rr⟩:=ns;refine⟨mm,⟨o,es,ep,G7.E.keep _ _ e ln.f nLO,rr⟩,fun h' hs'=>?_⟩;have st:Stp (W1 La) c6 s7.heap c6 h':=Stp.here fun b o nb e=>(hs'.2 b nb).trans e
   exact .next ⟨G7.S.kept st.hk (by rintro _ rfl;exact⟨ln.f,ln.i⟩),(G6.up.E.trans G7.E).stp st (by rintro _ rfl;exact fL),G7.g.trans G6.g,G7.o.trans G6.o⟩ (L7.stp st fun b ob hb=>nLO (hb▸ob)) q⟩
end
end Mine
end
section
namespace Mine
open PySem PySem.W PyProof.Rows PySem.Spec PyProof PySem.SeqAt
noncomputable def bT(env:Env)(line:Nat)(ts:List Expr):List Str:=ts.filterMap fun
 | .Name id pos=>if env.kindOf id==some .local&&pos.line==line then some id else none
 | _=>none
noncomputable def g8(ts:List Expr):Nat:=(ts.head?.map (·.pos.line)).getD 0
inductive SwN(C:Ctx)(line:Nat):List Expr→List (Str×Nat)→Prop
 | nil:SwN C line [] []
 | cons {x:Str} {pos:Pos} {i:Nat} {ts:List Expr} {ps:List (Str×Nat)} (hk:C.kind x=some .local) (hl:pos.line=line) (hi:aF C.slots x=some i) (h:SwN C line ts ps):SwN C line (.Name x pos::ts) ((x,i)::ps)
noncomputable def ri(ts vs:List Expr)(ns:List Str):Bool:=
 (ts.length==2||ts.length==3)&&(vs.length==ts.length&&(!vs.any m9&&(ns.eraseDups.length==ns.length&&(!vs.all (foldedForSure 8)&& !vs.all (constantsAlone 8)))))
theorem SwN.names{C:Ctx}{env:Env}{line:Nat}{ts:List Expr}{ps:List (Str×Nat)}(K:cf C env)(h:SwN C line ts ps):bT env line ts=ps.map (·.1):=by
 induction h with
 | nil=>rfl
 | cons hk hl hi h ih=>
  unfold bT;rw[List.filterMap_cons];dsimp only;rw[K.kind,hk,hl,beq_self_eq_true,beq_self_eq_true];exact congrArg (_::·) ih
theorem Cg{α β:Type}{f:α→Option β}{l:List α}{a:α}(h:a∈l)(e:f a=none):(l.filterMap f).length<l.length:=by
 obtain⟨s,t,rfl⟩:=List.append_of_mem h;rw[List.filterMap_append,List.filterMap_cons,e,List.length_append,List.length_append];exact Nat.add_lt_add_of_le_of_lt (List.length_filterMap_le f s) (Nat.lt_succ_of_le (List.length_filterMap_le f t))
theorem SwN.len{C:Ctx}{line:Nat}{ts:List Expr}{ps:List (Str×Nat)}(h:SwN C line ts ps):ps.length=ts.length:=by
 induction h with
 | nil=>rfl
 | cons _ _ _ _ ih=>exact congrArg (· + 1) ih
theorem SwN.all{C:Ctx}{line:Nat}{ts:List Expr}{ps:List (Str×Nat)}(h:SwN C line ts ps):∀p∈ps,aF C.slots p.1=some p.2∧C.kind p.1=some .local:=by
 induction h with
 | nil=>intro p hp;cases hp
 | cons hk hl hi h ih=>
  intro p hp;rcases List.mem_cons.mp hp with rfl|hp
  ·exact⟨hi,hk⟩
  ·exact ih p hp
theorem nV(env:Env)(ts vs:List Expr)(k k':Nat)(p p':Pos):swappedStores [.Tuple ts k p] (.Tuple vs k' p') env=(
      if(!(ts.length==2||ts.length==3)||vs.length != ts.length||env.blockKind != .function)=true then pure none
      else if(vs.any m9)=true then pure none
      else if((bT env (g8 ts) ts).length != ts.length||(bT env (g8 ts) ts).eraseDups.length != (bT env (g8 ts) ts).length)=true then pure none
      else if vs.all (foldedForSure 8)=true then pure none
      else if vs.all (constantsAlone 8)=true then((unsupported "assign.tuple-of-constant-expressions:order-of-the-stores":Sem PUnit)>>=fun _=>pure (some (bT env (g8 ts) ts)))
      else pure (some (bT env (g8 ts) ts))):=by rfl
theorem sE{C:Ctx}{env:Env}(K:cf C env){ts vs:List Expr}{k k':Nat}{p p':Pos}{y:Str×Pos}(hy:Expr.Name y.1 y.2∈ts∧C.kind y.1=some .cell):swappedStores [.Tuple ts k p] (.Tuple vs k' p') env=pure none:=by
 have h3:((bT env (g8 ts) ts).length != ts.length)=true:=by
  rw[bne_iff_ne];refine Nat.ne_of_lt (Cg hy.1 ?_);dsimp only;rw[K.kind,hy.2];rfl
 rw[nV,h3,Bool.true_or]
 by_cases h1:(!(ts.length==2||ts.length==3)||vs.length != ts.length||env.blockKind != .function)=true
 ·rw[if_pos h1]
 rw[if_neg h1]
 by_cases h2:(vs.any m9)=true
 ·rw[if_pos h2]
 rw[if_neg h2,if_pos rfl]
theorem wO{C:Ctx}{env:Env}(K:cf C env){ts vs:List Expr}{ps:List (Str×Nat)}{k k':Nat}{p p':Pos}(h:SwN C (g8 ts) ts ps)(hb:ri ts vs (ps.map (·.1))=true):swappedStores [.Tuple ts k p] (.Tuple vs k' p') env=pure (some (ps.map (·.1))):=by
 have hk:(env.blockKind != .function)=false:=by unfold Env.blockKind;rw[K.fn];rfl
 unfold ri at hb;obtain⟨h1,hb⟩:=Bool.and_eq_true_iff.mp hb;obtain⟨h2,hb⟩:=Bool.and_eq_true_iff.mp hb;obtain⟨h3,hb⟩:=Bool.and_eq_true_iff.mp hb;obtain⟨h4,hb⟩:=Bool.and_eq_true_iff.mp hb;obtain⟨h5,h6⟩:=Bool.and_eq_true_iff.mp hb;rw[nV,h.names K,List.length_map,h.len,hk,h1,show(vs.length != ts.length)=false from congrArg (!·) h2,show vs.any m9=false from(Bool.not_eq_true' _).mp h3,
  show((ps.map (·.1)).eraseDups.length != ts.length)=false by rw[←h.len,←List.length_map (f:=(·.1)) (as:=ps)];exact congrArg (!·) h4,bne_self_eq_false,(Bool.not_eq_true' _).mp h5,(Bool.not_eq_true' _).mp h6]
 rfl
theorem qW{N:Nm}{C:Ctx}{env:Env}{A:Around}{c:Cfg}(K:cf C env):∀(ps:List (Str×Nat)) {vs:List Value} {ds:List PV} {loc:List PV} {s:Shared} {Q:List PV→Prop},(∀p∈ps,aF C.slots p.1=some p.2∧C.kind p.1=some .local)→SR N c s.heap→LR N C env c s.heap loc→ar N c.I vs ds→
  dH (ps.map fun p=>Tgt.var p.2) ds loc Q→wpAny (model N.prog N.w) A (assignInOrder (ps.map fun p=>fun v=>bindName env p.1 v) vs) (mK N C env (Own env) c s Q) NoE s:=by
 intro ps
 induction ps with
 | nil=>
  intro vs ds loc s Q _ S L r q;cases ds with
  | nil=>cases r.toE;exact wpAny_pure ⟨Go.refl S,L,q⟩
  | cons _ _=>exact q.elim
 | cons p ps ih=>
  intro vs ds loc s Q hp S L r q;cases ds with
  | nil=>exact q.elim
  | cons d ds=>
   obtain⟨v,vs,rfl,rv,rr⟩:=r.toC;obtain⟨h1,h2⟩:=hp p List.mem_cons_self;refine wpAny_bind (m:=holding vs _) (wpAny_holding (wpAny_bindName (L.store (X:=Own env) K S h1 (.inl ⟨h2,.inl rfl⟩) rv fun h' tk S' E' L'=>?_)));have q:onO (el loc p.2 d) fun l=>dH (ps.map fun p=>Tgt.var p.2) ds l Q:=q
   have q:=fX q;exact wpAny_mono (ih (s:={s with heap:=h',toks:=tk}) (fun p hp'=>hp p (List.mem_cons_of_mem _ hp')) S' L' rr q) (fun _ _ z=>z.trans (s1:={s with heap:=h',toks:=tk}) ⟨S',E',rfl,rfl⟩) fun _ _ e=>e
theorem qV:∀(ps:List (Str×Nat)) {ds:List PV} {loc:List PV} {Q:List PV→Prop},dH (ps.map fun p=>Tgt.var p.2) ds loc Q→ps.length=ds.length:=by
 intro ps
 induction ps with
 | nil=>
  intro ds loc Q q;cases ds with
  | nil=>rfl
  | cons _ _=>exact q.elim
 | cons p ps ih=>
  intro ds loc Q q;cases ds with
  | nil=>exact q.elim
  | cons d ds=>
   have q:onO (el loc p.2 d) fun l=>dH (ps.map fun p=>Tgt.var p.2) ds l Q:=q
   exact congrArg (· + 1) (ih (fX q))
theorem wW{w:Wd}{C:Ctx}{ts es:List Expr}{k k':Nat}{tp vp pos:Pos}{ps:List (Str×Nat)}{xs:List ME}(h:SwN C (g8 ts) ts ps)(hb:ri ts es (ps.map (·.1))=true)(hv:bB w C es xs):
  im w C (.Assign [.Tuple ts k tp] (.Tuple es k' vp) pos) (.swap (ps.map (·.2)) (.tup xs)):=
 ⟨fun{env A c s loc Q} H q=>by
  have q:ac w.T w.Sx (.tup xs) loc c.σ fun v σ₁=>asT v fun vs=>dH ((ps.map (·.2)).reverse.map .var) vs.reverse loc fun loc'=>Q (.next loc') σ₁:=q
  have hs:swapsWithSole [.Tuple ts k tp] (.Tuple es k' vp) pos.line env=pure false:=rfl;rw[arm_exec_Assign,hs];refine wpAny_bind (wpAny_standAt (wpAny_bind (wpAny_pure ?_)));rw[if_neg Bool.false_ne_true];refine wpAny_bind ((mR (pos:=vp) (k:=k') hv H q).seq fun v s1 c1 d G r q1=>?_);rw[wO H.ctx h hb];refine wpAny_bind (wpAny_pure ?_);obtain⟨ds,rfl,q1⟩:=AL q1;obtain⟨p,vs,rfl,hp,rr,hz⟩:=ir G.S r;unfold assignStores;dsimp only;refine wpAny_bind (wpAny_rule (wpAny_bind ?_));have e1:(ps.map (·.2)).reverse.map Tgt.var=ps.reverse.map fun p=>Tgt.var p.2:=by rw[←List.map_reverse,List.map_map];rfl
  rw[e1]at q1;have hlen:(ps.map (·.1)).length=vs.toArray.size:=by
   rw[List.length_map,List.size_toArray,rr.length,←List.length_reverse (as:=ps),qV _ q1,List.length_reverse]
  rw[hlen];refine wpAny_unpackItems_tuple H.a.h hp fun h' hs'=>?_
  have G':Go w.N NoX c1 s1 c1 {s1 with heap:=h'}:=.ext G.S fun b o e=>hs' b o (Nat.ne_of_lt (Heap.lt_size e)) e
  have em:((ps.map (·.1)).reverse.map fun n=>bindName env n)=ps.reverse.map fun p=>fun v=>bindName env p.1 v:=by rw[←List.map_reverse,List.map_map];rfl
  rw[em];refine wpAny_bind (wpAny_mono (qW H.ctx ps.reverse (fun p hp=>h.all p (List.mem_reverse.mp hp)) G'.S (H.go (G.trans G')).L rr.reverse q1) (fun _ s2 h2=>wpAny_pure ?_) fun _ _ e=>e);cases h2 with|mk G2 L2 q=>exact .next ((G.trans G').up.trans G2) L2 q⟩
end Mine
end
section
namespace Mine
open PySem PySem.W PyProof.Rows PySem.Spec PyProof PySem.SeqAt
noncomputable def att{α:Type}(o:Option α):Option {x:α // o=some x}:=match o with
 | none=>none
 | some x=>some ⟨x,rfl⟩
noncomputable def grd(b:Bool):Option (PLift (b=true)):=match b with
 | true=>some ⟨rfl⟩
 | false=>none
section
variable (w:Wd)
theorem Pl.mk'{e:Expr}(star:∀env rest,starEach (e::rest) env=(false,eval e env)::starEach rest env)(mark:∀op,behindInMarks op e=false)(fold:∀x env,foldedSetIterable e env x=pure x)(base:∀a env whole,attributeBase e a env whole=whole)
  (form:∀o i,subscripted e false o i=operate [o,i] (getItem o i)) (swp:∀t line env,swapsWith e t line env=pure false) (tpl:∀ts k p env,swappedStores [.Tuple ts k p] e env=pure none):Pl e:=⟨star,mark,fold,base,form,.inr swp,.inr tpl⟩
noncomputable def AB(C:Ctx)(k:Const)(a:Nat)(p:Pos):Option (CE w C (.Constant k a p)):=match k with
 | .int i=>some ⟨.int i,.of (.mk' (fun _ _=>rfl) (fun _=>rfl) (fun _ _=>rfl) (fun _ _ _=>rfl) (fun _ _=>rfl) (fun _ _ _=>rfl) (fun _ _ _ _=>rfl)) (fun _=>rfl) fun H h=>wpAny_Constant_int (bl H.S (.int _ _) h)⟩
 | .bool b=>some ⟨.bool b,.of (.mk' (fun _ _=>rfl) (fun _=>rfl) (fun _ _=>rfl) (fun _ _ _=>rfl) (fun _ _=>rfl) (fun _ _ _=>rfl) (fun _ _ _ _=>rfl)) (fun _=>rfl) fun H h=>wpAny_Constant_bool (bl H.S (.bool _) h)⟩
 | .none=>some ⟨.none,.of (.mk' (fun _ _=>rfl) (fun _=>rfl) (fun _ _=>rfl) (fun _ _ _=>rfl) (fun _ _=>rfl) (fun _ _ _=>rfl) (fun _ _ _ _=>rfl)) (fun _=>rfl) fun H h=>wpAny_Constant_none (bl H.S .none h)⟩
 | .str x=>(att (idx C.txts x)).map fun i=>⟨.str i.1,.of (.mk' (fun _ _=>rfl) (fun _=>rfl) (fun _ _=>rfl) (fun _ _ _=>rfl) (fun _ _=>rfl) (fun _ _ _=>rfl) (fun _ _ _ _=>rfl)) (fun _=>rfl) fun H h=>by
   obtain⟨i,hi⟩:=i;rw[H.same.txts]at hi;obtain⟨hn,rfl⟩:=w.F.txts _ i hi;exact wpAny_Constant_str (bl H.S (.str i _ hn) h)⟩
 | _=>none
theorem w4{C:Ctx}{env:Env}{A:Around}{c:Cfg}{s:Shared}{loc:List PV}{Q:KV}{x:Str}{p:Pos}{i:Nat}(hi:C.loc x=some i)(H:At w C env A c s loc)(h:ac w.T w.Sx (.var i) loc c.σ Q):WV w.N A (eval (.Name x p) env) c s Q:=by
 obtain⟨v,hv,hq⟩:=zJ.mp h;have hu:v≠.undef:=fun z=>by subst z;exact hq
 exact H.L.read H.ctx hi hv hu fun u hu'=>bl H.S hu' (by cases v<;>first|exact hq|exact absurd rfl hu)
theorem uh{C:Ctx}{env:Env}{A:Around}{c:Cfg}{s:Shared}{loc:List PV}{Q:KV}{x:Str}{p:Pos}{i:Nat}(hg:C.isGlob x=true)(hi:idx C.globs x=some i)(H:At w C env A c s loc)(h:ac w.T w.Sx (.glob i) loc c.σ Q):WV w.N A (eval (.Name x p) env) c s Q:=by
 rw[H.same.globs]at hi;obtain⟨v,hv,hr⟩:=w.F.globs x i hi;exact H.glob hg hv (bl H.S (hr.mono fun a o e=>H.S.stat a o e) h)
theorem rB{x:Str}{p:Pos}:Pl (.Name x p):=.mk' (fun _ _=>rfl) (fun _=>rfl) (fun _ _=>rfl) (fun _ _ _=>rfl) (fun _ _=>rfl) (fun _ _ _=>rfl) (fun _ _ _ _=>rfl)
noncomputable def CG(C:Ctx)(x:Str)(p:Pos):Option (CE w C (.Name x p)):=
 ((att (C.loc x)).map fun i=>(⟨.var i.1,.of rB (fun _=>rfl) (w4 w i.2)⟩:CE w C (.Name x p))).orElse fun _=>
  (grd (C.isGlob x)).bind fun g=>(att (idx C.globs x)).map fun i=>⟨.glob i.1,.of rB (fun _=>rfl) (uh w g.1 i.2)⟩
theorem jA{f:Str}{np p:Pos}{args:List Expr}(h:(f != ("super":Str))=true):Pl (.Call (.Name f np) args [] p):=.mk' (fun _ _=>rfl) (fun _=>rfl) (fun _ _=>rfl) (fun a env whole=>by
 cases args with
 | nil=>
  unfold attributeBase;dsimp only;rw[h];exact if_pos rfl
 | cons _ _=>rfl) (fun _ _=>rfl) (fun _ _ _=>rfl) (fun _ _ _ _=>rfl)
theorem om{o:Expr}{a:Str}{ap p:Pos}{args:List Expr}:Pl (.Call (.Attribute o a ap) args [] p):=.mk' (fun _ _=>rfl) (fun _=>rfl) (fun _ _=>rfl) (fun _ _ _=>rfl) (fun _ _=>rfl) (fun _ _ _=>rfl) (fun _ _ _ _=>rfl)
variable {w} {C:Ctx}
noncomputable def cBo(op:BoolOp)(E:(e:Expr)→Option (CE w C e)):(es:List Expr)→Option {me:ME // wC w C op es me}
 | []=>none
 | [a]=>(E a).map fun x=>⟨x.1,AC x.2⟩
 | a::b::r=>(E a).bind fun x=>(cBo op E (b::r)).map fun y=>⟨boM op x.1 y.1,xS x.2 y.2⟩
noncomputable def Dr(E:(e:Expr)→Option (CE w C e))(a:Expr)(p:Pos)(ops:List CmpOp)(es:List Expr):Option (CE w C (.Compare a ops es p)):=match ops,es with
 | [op],[b]=>(E a).bind fun x=>(E b).map fun y=>⟨.cmp (tK w.N op).1 x.1 y.1,xa (tK w.N op).2 x.2 y.2⟩
 | [op1,op2],[b,e]=>(E a).bind fun x=>(E b).bind fun y=>(E e).map fun z=>⟨.cmp2 (tK w.N op1).1 (tK w.N op2).1 x.1 y.1 z.1,uj (tK w.N op1).2 (tK w.N op2).2 x.2 y.2 z.2⟩
 | _,_=>none
noncomputable def Dq(a:Expr)(p:Pos):Option (CE w C (.UnaryOp .USub a p)):=match a with
 | .Constant (.int i) k q=>some ⟨.int (-i),.of (.mk' (fun _ _=>rfl) (fun _=>rfl) (fun _ _=>rfl) (fun _ _ _=>rfl) (fun _ _=>rfl) (fun _ _ _=>rfl) (fun _ _ _ _=>rfl)) (fun _=>rfl) fun H h=>wpAny_UnaryOp (wpAny_Constant_int (PyProof.Rows.neg_int (bl H.S (.int _ _) h)))⟩
 | _=>none
noncomputable def cUn(E:(e:Expr)→Option (CE w C e))(op:UnaryOp)(a:Expr)(p:Pos):Option (CE w C (.UnaryOp op a p)):=match op with
 | .Not=>(E a).map fun x=>⟨.not x.1,w7 x.2⟩
 | .USub=>Dq a p
 | _=>none
noncomputable def yy(E:(e:Expr)→Option (CE w C e))(o:Option Expr):Option {m:Option ME // tV w C o m}:=match o with
 | none=>some ⟨none,.none⟩
 | some e=>(E e).map fun x=>⟨some x.1,.some x.2⟩
theorem uR{es:List Expr}{k:Nat}{p:Pos}:Pl (.Tuple es k p):=⟨fun _ _=>rfl,fun _=>rfl,fun _ _=>rfl,fun _ _ _=>rfl,fun _ _=>rfl,.inr fun _ _ _=>rfl,.inl rfl⟩
theorem qe{o i:Expr}{p:Pos}:Pl (.Subscript o i p):=.mk' (fun _ _=>rfl) (fun _=>rfl) (fun _ _=>rfl) (fun _ _ _=>rfl) (fun _ _=>rfl) (fun _ _ _=>rfl) (fun _ _ _ _=>rfl)
noncomputable def Dp(E:(e:Expr)→Option (CE w C e))(o:Expr)(st:Expr)(sp p:Pos):Option (CE w C (.Subscript o (.Slice none none (some st) sp) p)):=match st with
 | .UnaryOp .USub (.Constant (.int j) k p1) p2=>if h:j=1 then(E o).map fun x=>⟨.rev x.1,.of qe (fun _=>rfl) (by subst h;exact w6 x.2)⟩else none
 | _=>none
noncomputable def cSl(E:(e:Expr)→Option (CE w C e))(o:Expr)(lo hi st:Option Expr)(sp p:Pos):Option (CE w C (.Subscript o (.Slice lo hi st sp) p)):=match st with
 | none=>(E o).bind fun x=>(yy E lo).bind fun l=>(yy E hi).map fun h=>⟨.slice x.1 l.1 h.1,.of qe (fun _=>rfl) (sG x.2 l.2 h.2)⟩
 | some st=>match lo,hi with
  | none,none=>Dp E o st sp p
  | _,_=>none
noncomputable def Do(E:(e:Expr)→Option (CE w C e))(o i:Expr)(p:Pos):Option (CE w C (.Subscript o i p)):=match i with
 | .Slice lo hi st sp=>cSl E o lo hi st sp p
 | i=>(E o).bind fun x=>(E i).map fun y=>⟨.sub x.1 y.1,.of qe (fun _=>rfl) (w5 x.2 y.2)⟩
noncomputable def B1(w:Wd)(f:Str)(b:Blt):Prop:=∀{C env A c s loc Q np p e y},C.isGlob f=true→aP w C e y→At w C env A c s loc→ac w.T w.Sx (.blt b [y]) loc c.σ Q→WV w.N A (eval (.Call (.Name f np) [e] [] p) env) c s Q
noncomputable def B2(w:Wd)(f:Str)(b:Blt):Prop:=∀{C env A c s loc Q np p e e' y y'},C.isGlob f=true→aP w C e y→aP w C e' y'→At w C env A c s loc→ac w.T w.Sx (.blt b [y,y']) loc c.σ Q→WV w.N A (eval (.Call (.Name f np) [e,e'] [] p) env) c s Q
noncomputable def LM(w:Wd)(a:Str)(f:ME→ME→ME):Prop:=∀{C env A c s loc Q o ap p e x y},((ap:Pos).endLine==(p:Pos).line)=true→aP w C o x→aP w C e y→At w C env A c s loc→ac w.T w.Sx (f x y) loc c.σ Q→WV w.N A (eval (.Call (.Attribute o a ap) [e] [] p) env) c s Q
theorem AI:B1 w "len" .len:=fun hg he H h=>nJ (by decide) (by decide+kernel) (by decide) (fun S r q=>sY S r q) hg he H h
theorem AJ:B1 w "abs" .abs:=fun hg he H h=>nJ (by decide) (by decide+kernel) (by decide) (fun S r q=>tU S r q) hg he H h
theorem AG:B1 w "sorted" .sorted:=fun hg he H h=>nJ (by decide) (by decide+kernel) (by decide) (fun S r q=>mQ H.a.ok S r q) hg he H h
theorem AH:B1 w "list" .copy:=fun hg he H h=>ui hg he H h
theorem AE:B2 w "min" .min:=fun hg he he' H h=>r9 (by decide) (by decide+kernel) (by decide) (fun S r r' q=>sV H.a.ok S r r' q) hg he he' H h
theorem AF:B2 w "max" .max:=fun hg he he' H h=>r9 (by decide) (by decide+kernel) (by decide) (fun S r r' q=>sW H.a.ok S r r' q) hg he he' H h
theorem zT:LM w "append" .append:=fun hl ho he H h=>pV PySem.F.slot_list_append PySem.F.type_list_append (fun S r r' q=>nL S r r' q) hl ho he H h
theorem zS:LM w "extend" .extend:=fun hl ho he H h=>pV PySem.F.slot_list_extend PySem.F.type_list_extend (fun S r r' q=>nu S r r' q) hl ho he H h
theorem zR:LM w "pop" .pop:=fun hl ho he H h=>pV PySem.F.slot_list_pop PySem.F.type_list_pop (fun S r r' q=>sR S r r' q) hl ho he H h
noncomputable def b1S(w:Wd)(f:Str):Option {b:Blt // B1 w f b}:=
 if h:f="len" then some ⟨.len,by subst h;exact AI⟩else if h:f="abs" then some ⟨.abs,by subst h;exact AJ⟩else if h:f="sorted" then some ⟨.sorted,by subst h;exact AG⟩else if h:f="list" then some ⟨.copy,by subst h;exact AH⟩else none
noncomputable def b2S(w:Wd)(f:Str):Option {b:Blt // B2 w f b}:=
 if h:f="min" then some ⟨.min,by subst h;exact AE⟩else if h:f="max" then some ⟨.max,by subst h;exact AF⟩else none
noncomputable def lmS(w:Wd)(a:Str):Option {f:ME→ME→ME // LM w a f}:=
 if h:a="append" then some ⟨.append,by subst h;exact zT⟩else if h:a="extend" then some ⟨.extend,by subst h;exact zS⟩else if h:a="pop" then some ⟨.pop,by subst h;exact zR⟩else none
noncomputable def Ds(E:(e:Expr)→Option (CE w C e))(f:Str)(np:Pos)(args:List Expr)(p:Pos)(hs:(f != ("super":Str))=true)(hg:C.isGlob f=true):Option (CE w C (.Call (.Name f np) args [] p)):=match args with
 | [e]=>(b1S w f).bind fun b=>(E e).map fun x=>⟨.blt b.1 [x.1],.of (jA hs) (fun _=>rfl) (b.2 hg x.2)⟩
 | [e,e']=>(b2S w f).bind fun b=>(E e).bind fun x=>(E e').map fun y=>⟨.blt b.1 [x.1,y.1],.of (jA hs) (fun _=>rfl) (b.2 hg x.2 y.2)⟩
 | _=>none
noncomputable def cCN(E:(e:Expr)→Option (CE w C e))(f:Str)(np:Pos)(args:List Expr)(p:Pos):Option (CE w C (.Call (.Name f np) args [] p)):=
 (grd (f != ("super":Str))).bind fun hs=>(grd (C.isGlob f)).bind fun hg=>
  ((att (aF C.fns f)).bind fun i=>(qp E args).map fun as=>(⟨.call i.1 as.1,.of (jA hs.1) (fun _=>rfl) (uk hg.1 i.2 as.2)⟩:CE w C (.Call (.Name f np) args [] p))).orElse fun _=>
  ((att (idx C.clss f)).bind fun i=>(qp E args).map fun as=>(⟨.new i.1 as.1,.of (jA hs.1) (fun _=>rfl) (w8 hg.1 i.2 as.2)⟩:CE w C (.Call (.Name f np) args [] p))).orElse fun _=>Ds E f np args p hs.1 hg.1
noncomputable def cMe(E:(e:Expr)→Option (CE w C e))(o:Expr)(a:Str)(ap:Pos)(args:List Expr)(p:Pos)(hl:(ap.endLine==p.line)=true):Option (CE w C (.Call (.Attribute o a ap) args [] p)):=
 (grd (decide (args.length<30))).bind fun hz=>(att (idx C.meths a)).bind fun i=>(E o).bind fun x=>(qp E args).map fun as=>⟨.meth x.1 i.1 as.1,.of om (fun _=>rfl) (uf i.2 hl (of_decide_eq_true hz.1) x.2 as.2)⟩
noncomputable def cCM(E:(e:Expr)→Option (CE w C e))(o:Expr)(a:Str)(ap:Pos)(args:List Expr)(p:Pos):Option (CE w C (.Call (.Attribute o a ap) args [] p)):=(grd (ap.endLine==p.line)).bind fun hl=>match args with
 | [e]=>((lmS w a).bind fun f=>(E o).bind fun x=>(E e).map fun y=>(⟨f.1 x.1 y.1,.of om (fun _=>rfl) (f.2 hl.1 x.2 y.2)⟩:CE w C (.Call (.Attribute o a ap) [e] [] p))).orElse fun _=>cMe E o a ap [e] p hl.1
 | args=>cMe E o a ap args p hl.1
noncomputable def CJ(E:(e:Expr)→Option (CE w C e))(f:Expr)(args:List Expr)(kws:List Keyword)(p:Pos):Option (CE w C (.Call f args kws p)):=match kws with
 | []=>(match f with
  | .Name f np=>cCN E f np args p
  | .Attribute o a ap=>cCM E o a ap args p
  | _=>none)
 | _::_=>none
noncomputable def BT{N:Nm}{l:Bool}(T:(t:Expr)→Option {q:Tgt×Bool // ga N C l t q.1 q.2}):(ts:List Expr)→Option {tgs:List Tgt // ik N C l ts tgs}
 | []=>some ⟨[],.nil⟩
 | t::ts=>(T t).bind fun x=>(BT T ts).map fun xs=>⟨x.1.1::xs.1,.cons x.2 xs.2⟩
noncomputable def cT(N:Nm)(l:Bool):Nat→(C:Ctx)→(t:Expr)→Option {q:Tgt×Bool // ga N C l t q.1 q.2}
 | 0,_,_=>none
 | n+1,C,t=>match t with
  | .Name x p=>(att (aF C.slots x)).bind fun i=>if h:C.kind x=some .local∨(C.kind x=some .cell∧l=false)then some ⟨(.var i.1,false),yL i.2 h⟩else none
  | .Tuple es k p=>(BT (cT N l n C) es).map fun ts=>⟨(.tup ts.1,true),BH ts.2⟩
  | _=>none
noncomputable abbrev CI(w:Wd)(C:Ctx)(it:Expr):Type:={mi:MI // lN w C it mi}
noncomputable def cI1(E:(e:Expr)→Option (CE w C e))(f:Str)(np:Pos)(x:Expr)(p:Pos):Option (CI w C (.Call (.Name f np) [x] [] p)):=(grd (C.isGlob f)).bind fun hg=>
 if h:f="range" then(E x).map fun y=>⟨.range y.1,by subst h;exact vg hg.1 y.2⟩else if h:f="enumerate" then(E x).map fun y=>⟨.enum y.1,by subst h;exact xB hg.1 y.2⟩else none
noncomputable def cI2(E:(e:Expr)→Option (CE w C e))(f:Str)(np:Pos)(x x':Expr)(p:Pos):Option (CI w C (.Call (.Name f np) [x,x'] [] p)):=(grd (C.isGlob f)).bind fun hg=>
 if h:f="zip" then(E x).bind fun y=>(E x').map fun y'=>⟨.zip y.1 y'.1,by subst h;exact zY hg.1 y.2 y'.2⟩else none
noncomputable def cI0(E:(e:Expr)→Option (CE w C e))(it:Expr):Option (CI w C it):=match it with
 | .Call (.Name f np) [x] [] p=>cI1 E f np x p
 | .Call (.Name f np) [x,x'] [] p=>cI2 E f np x x' p
 | _=>none
noncomputable def cI(E:(e:Expr)→Option (CE w C e))(it:Expr):Option (CI w C it):=(cI0 E it).orElse fun _=>(E it).map fun y=>⟨.expr y.1,xA y.2⟩
theorem yg{a b:Bool}(h:(!a||b)=true):a=true→b=true:=fun z=>by rw[z]at h;exact h
structure CP(w:Wd)(C:Ctx)(elt t it:Expr)(ifs:List Expr)(sc:Scope) where
 me:ME
 tg:Tgt
 bt:Bool
 mi:MI
 cs:List ME
 hok:gD C sc=true
 ht:ga w.N (C.inner sc) true t tg bt
 he:aP w (C.inner sc) elt me
 hcs:bB w (C.inner sc) ifs cs
 hi:lN w C it mi
 htup:dg mi=true→bt=true
noncomputable def cCP(n:Nat)(E:(e:Expr)→Option (CE w C e))(sc:Scope)(E':(e:Expr)→Option (CE w (C.inner sc) e))(elt t it:Expr)(ifs:List Expr):Option (CP w C elt t it ifs sc):=
 if hok:gD C sc=true then(cT w.N true n (C.inner sc) t).bind fun t'=>(E' elt).bind fun e'=>(qp E' ifs).bind fun cs=>(cI E it).bind fun mi=>(grd (!dg mi.1||t'.1.2)).map fun h=>
  ⟨e'.1,t'.1.1,t'.1.2,mi.1,cs.1,hok,t'.2,e'.2,cs.2,mi.2,yg h.1⟩else none
noncomputable def CP.m{elt t it:Expr}{ifs:List Expr}{sc:Scope}(p:CP w C elt t it ifs sc)(m:Bool):ME:=.comp m (aM sc C.n).length p.me p.tg p.mi p.cs
noncomputable def CH(n:Nat)(m:Bool)(E:(e:Expr)→Option (CE w C e))(E':(sc:Scope)→(e:Expr)→Option (CE w (C.inner sc) e))(elt:Expr)(gs:List Comprehension)(sc:Scope)(p:Pos):Option (CE w C (.ListComp elt gs sc p)):=match gs with
 | [⟨t,it,ifs,0⟩]=>(cCP n E sc (E' sc) elt t it ifs).map fun x=>⟨x.m m,.of ⟨fun _ _=>rfl,fun _=>rfl,fun _ _=>rfl,fun _ _ _=>rfl,fun _ _=>rfl,.inl rfl,.inr fun _ _ _ _=>rfl⟩ (fun _=>rfl) (n8 x.hok x.ht x.he x.hcs x.hi x.htup)⟩
 | _=>none
variable (w)
noncomputable def bo:Nat→(C:Ctx)→Bool→(e:Expr)→Option (CE w C e)
 | 0,_,_,_=>none
 | n+1,C,m,e=>match e with
  | .Constant k a p=>AB w C k a p
  | .Name x p=>CG w C x p
  | .BinOp a op b p=>(opS w.N op).bind fun o=>(bo n C false a).bind fun x=>(bo n C false b).map fun y=>⟨.bin m o.1 x.1 y.1,.of (.mk' (fun _ _=>rfl) (fun _=>rfl) (fun _ _=>rfl) (fun _ _ _=>rfl) (fun _ _=>rfl) (fun _ _ _=>rfl) (fun _ _ _ _=>rfl)) (fun _=>rfl) (xb o.2 x.2 y.2)⟩
  | .Compare a ops es p=>Dr (bo n C false) a p ops es
  | .BoolOp op vs p=>(cBo op (bo n C false) vs).map fun x=>⟨x.1,yQ x.2⟩
  | .UnaryOp op a p=>cUn (bo n C false) op a p
  | .IfExp t a b p=>(bo n C false t).bind fun x=>(bo n C m a).bind fun y=>(bo n C m b).map fun z=>⟨.ite x.1 y.1 z.1,w9 x.2 y.2 z.2⟩
  | .List es p=>(qp (bo n C false) es).map fun x=>⟨.list (m||C.deep) x.1,.of (.mk' (fun _ _=>rfl) (fun _=>rfl) (fun _ _=>rfl) (fun _ _ _=>rfl) (fun _ _=>rfl) (fun _ _ _=>rfl) (fun _ _ _ _=>rfl)) (fun _=>rfl) (ug x.2)⟩
  | .Tuple es k p=>(qp (bo n C false) es).map fun x=>⟨.tup x.1,.of uR (fun _=>rfl) (mR x.2)⟩
  | .Dict [] [] p=>some ⟨.edict,.of (.mk' (fun _ _=>rfl) (fun _=>rfl) (fun _ _=>rfl) (fun _ _ _=>rfl) (fun _ _=>rfl) (fun _ _ _=>rfl) (fun _ _ _ _=>rfl)) (fun _=>rfl) sH⟩
  | .Attribute o a p=>(att (idx C.attrs a)).bind fun i=>(bo n C false o).map fun x=>⟨.attr x.1 i.1,.of (.mk' (fun _ _=>rfl) (fun _=>rfl) (fun _ _=>rfl) (fun _ _ _=>rfl) (fun _ _=>rfl) (fun _ _ _=>rfl) (fun _ _ _ _=>rfl)) (fun _=>rfl) (ul i.2 x.2)⟩
  | .Subscript o i p=>Do (bo n C false) o i p
  | .Call f args kws p=>CJ (bo n C false) f args kws p
  | .ListComp elt gs sc p=>CH n m (bo n C false) (fun sc=>bo n (C.inner sc) false) elt gs sc p
  | _=>none
noncomputable abbrev CS(w:Wd)(C:Ctx)(st:Stmt):Type:={ms:MS // im w C st ms}
variable {w}
noncomputable def cMs(n:Nat)(C:Ctx):(ts es:List Expr)→Option {mes:List ME // bB w C es mes}
 | [],[]=>some ⟨[],.nil⟩
 | t::ts,e::es=>(bo w n C (C.isMut t) e).bind fun x=>(cMs n C ts es).map fun xs=>⟨x.1::xs.1,.cons x.2 xs.2⟩
 | _,_=>none
noncomputable def cSw(C:Ctx)(line:Nat):(ts:List Expr)→Option {ps:List (Str×Nat) // SwN C line ts ps}
 | []=>some ⟨[],.nil⟩
 | t::ts=>match t with
  | .Name x p=>(att (aF C.slots x)).bind fun i=>(cSw C line ts).bind fun ps=>if h:C.kind x=some .local∧p.line=line then some ⟨(x,i.1)::ps.1,.cons h.1 h.2 i.2 ps.2⟩else none
  | _=>none
noncomputable def yz(C:Ctx):(ts:List Expr)→Option {y:Str×Pos // Expr.Name y.1 y.2∈ts∧C.kind y.1=some .cell}
 | []=>none
 | t::ts=>match t with
  | .Name x p=>if h:C.kind x=some .cell then some ⟨(x,p),List.mem_cons_self,h⟩else(yz C ts).map fun y=>⟨y.1,List.mem_cons_of_mem _ y.2.1,y.2.2⟩
  | _=>none
noncomputable def Du(n:Nat)(C:Ctx)(y:Str)(py:Pos)(v:Expr)(p:Pos):Option (CS w C (.Assign [.Name y py] v p)):=(cT w.N false n C (.Name y py)).bind fun t=>(grd (!dF v)).bind fun hc=>(bo w n C (C.isMut (.Name y py)) v).map fun x=>⟨.assign t.1.1 x.1,iw x.2 t.2 (fun env=>x.2.ns ((Bool.not_eq_true' _).mp hc.1) _ _ _) (fun _ _=>rfl)⟩
noncomputable def Dw(n:Nat)(C:Ctx)(y:Str)(py:Pos)(v:Expr)(p:Pos):Option (CS w C (.Assign [.Name y py] v p)):=match n,v with
 | n+1,.ListComp elt [⟨t,it,ifs,0⟩] sc cp=>(cT w.N false (n+1) C (.Name y py)).bind fun tg=>(cCP n (bo w n C false) sc (bo w n (C.inner sc) false) elt t it ifs).map fun x=>⟨.assign tg.1.1 (x.m (C.isMut (.Name y py))),wZ x.hok x.ht x.he x.hcs x.hi x.htup tg.2⟩
 | _,_=>none
noncomputable def Dt(n:Nat)(C:Ctx)(ts:List Expr)(k:Nat)(tp:Pos)(v:Expr)(p:Pos):Option (CS w C (.Assign [.Tuple ts k tp] v p)):=match v with
 | .Tuple es k' vp=>((cSw C (g8 ts) ts).bind fun ps=>(grd (ri ts es (ps.1.map (·.1)))).bind fun hb=>(cMs n C ts es).map fun xs=>(⟨.swap (ps.1.map (·.2)) (.tup xs.1),wW ps.2 hb.1 xs.2⟩:CS w C (.Assign [.Tuple ts k tp] (.Tuple es k' vp) p))).orElse fun _=>
  (yz C ts).bind fun y=>(cT w.N false n C (.Tuple ts k tp)).bind fun t=>(cMs n C ts es).map fun xs=>⟨.assign t.1.1 (.tup xs.1),iw (.of uR (fun _=>rfl) (mR xs.2)) t.2 (fun _=>rfl) (fun _ K=>sE K y.2)⟩
 | v=>(cT w.N false n C (.Tuple ts k tp)).bind fun t=>(grd (!dF v&& !yl v)).bind fun hc=>(bo w n C false v).map fun x=>⟨.assign t.1.1 x.1,iw x.2 t.2 (fun env=>x.2.ns ((Bool.not_eq_true' _).mp (Bool.and_eq_true_iff.mp hc.1).1) _ _ _) (fun env _=>x.2.pl.tpl.elim (fun z=>by have:=(Bool.and_eq_true_iff.mp hc.1).2;rw[z]at this;cases this) fun z=>z _ _ _ _)⟩
noncomputable def Dv(n:Nat)(C:Ctx)(o i:Expr)(ip:Pos)(v:Expr)(p:Pos):Option (CS w C (.Assign [.Subscript o i ip] v p)):=(grd (!dF v)).bind fun hc=>(bo w n C false v).bind fun x=>(bo w n C false o).bind fun y=>match i with
 | .Slice (some lo) (some hi) none sp=>(bo w n C false lo).bind fun l=>(bo w n C false hi).map fun h=>⟨.setslice y.1 l.1 h.1 x.1,n6 ((Bool.not_eq_true' _).mp hc.1) x.2 y.2 l.2 h.2⟩
 | i=>(bo w n C false i).map fun z=>⟨.setitem y.1 z.1 x.1,pR ((Bool.not_eq_true' _).mp hc.1) x.2 y.2 z.2⟩
noncomputable def Dx(n:Nat)(C:Ctx)(o:Expr)(a:Str)(ap:Pos)(v:Expr)(p:Pos):Option (CS w C (.Assign [.Attribute o a ap] v p)):=(grd (!dF v)).bind fun hc=>(att (idx C.attrs a)).bind fun i=>(bo w n C (C.muts.contains a) v).bind fun x=>(bo w n C false o).map fun y=>⟨.setattr y.1 i.1 x.1,pS i.2 ((Bool.not_eq_true' _).mp hc.1) x.2 y.2⟩
noncomputable def cAs(n:Nat)(C:Ctx)(t v:Expr)(p:Pos):Option (CS w C (.Assign [t] v p)):=match t with
 | .Attribute o a ap=>Dx n C o a ap v p
 | .Subscript o i ip=>Dv n C o i ip v p
 | .Tuple ts k tp=>Dt n C ts k tp v p
 | .Name y py=>(Du n C y py v p).orElse fun _=>Dw n C y py v p
 | _=>none
noncomputable def sX{C:Ctx}(f:(st:Stmt)→Option (CS w C st)):(b:List Stmt)→Option {mb:List MS // eH w C b mb}
 | []=>some ⟨[],.nil⟩
 | st::b=>(f st).bind fun x=>(sX f b).map fun xs=>⟨x.1::xs.1,.cons x.2 xs.2⟩
variable (w)
noncomputable def pz:Nat→(C:Ctx)→(st:Stmt)→Option (CS w C st)
 | 0,_,_=>none
 | n+1,C,st=>match st with
  | .Assign [t] v p=>cAs n C t v p
  | .Expr v p=>(grd (!dF v)).bind fun hc=>(bo w n C false v).map fun x=>⟨.expr x.1,wY ((Bool.not_eq_true' _).mp hc.1) x.2⟩
  | .If c a b p=>(bo w n C false c).bind fun x=>(sX (pz n C) a).bind fun y=>(sX (pz n C) b).map fun z=>⟨.ite x.1 y.1 z.1,BJ x.2 y.2 z.2⟩
  | .While c b [] p=>(bo w n C false c).bind fun x=>(sX (pz n C) b).map fun y=>⟨.while x.1 y.1,ue x.2 y.2⟩
  | .For t it b [] p=>(cT w.N false n C t).bind fun t'=>(cI (bo w n C false) it).bind fun i=>(sX (pz n C) b).bind fun y=>(grd (!dg i.1||t'.1.2)).map fun h=>⟨.for t'.1.1 i.1 y.1,yP t'.2 i.2 y.2 (yg h.1)⟩
  | .Return (some e) p=>(bo w n C false e).map fun x=>⟨.ret x.1,yO x.2⟩
  | .Return none p=>some ⟨.ret .none,wX⟩
  | .Raise a b p=>some ⟨.stuck,⟨fun _ h=>h.elim⟩⟩
  | _=>none
noncomputable def wf(n:Nat)(C:Ctx)(b:List Stmt):Option {mb:List MS // eH w C b mb}:=sX (pz w n C) b
theorem xO{n:Nat}{C:Ctx}{b:List Stmt}{mb:List MS}(h:(wf w n C b).map (·.1)=some mb):eH w C b mb:=by
 obtain⟨x,_,rfl⟩:=Option.map_eq_some_iff.mp h;exact x.2
end
end Mine
end
section
namespace Mine
open PySem PySem.W PyProof.Rows PySem.Spec PyProof PySem.SeqAt
noncomputable def Ctx.with(C:Ctx)(m:List Str)(d:Bool):Ctx:={C with muts:=m,deep:=d}
section
variable {P:Prg} {S:Spec}
noncomputable def wA(P:Prg)(S:Spec)(f:Nat)(a:lP)(vs:List PV)(σ:Sto)(Q:KV):Prop:=
 vs.length=a.nargs∧al P.T (jk P S (P.rank f)) a.body (vs++List.replicate (a.nvars-a.nargs) .undef) σ fun o σ'=>match o with
  | .next _=>Wk .none σ' Q
  | .ret v=>Wk v σ' Q
inductive wB(P:Prg)(f:Nat)(a:lP):Prop
 | mk {fd:FuncData} {body:List Stmt} {ds:List Value} {m:List Str} {d:Bool} (H:nM P f a fd body ds) (C:∀w:Wd,w.P=P→eH w ((je P.C0 fd).with m d) body a.body)
noncomputable def wz(P:Prg)(S:Spec):Prop:=∀f vs σ Q,S f vs σ Q→∃a,wB P f a∧wA P S f a vs σ Q
theorem cf.with{C:Ctx}{env:Env}{m:List Str}{d:Bool}(h:cf C env):cf (C.with m d) env:=⟨h.1,h.2,h.3,h.4,h.5,h.6,h.7,h.8⟩
theorem LR.with{N:Nm}{C:Ctx}{env:Env}{c:Cfg}{h:Heap}{loc:List PV}{m:List Str}{d:Bool}(x:LR N C env c h loc):LR N (C.with m d) env c h loc:=⟨x.1,x.2,x.3,x.4,x.5⟩
theorem LR.without{N:Nm}{C:Ctx}{env:Env}{c:Cfg}{h:Heap}{loc:List PV}{m:List Str}{d:Bool}(x:LR N (C.with m d) env c h loc):LR N C env c h loc:=⟨x.1,x.2,x.3,x.4,x.5⟩
theorem qU{f:Nat}{a:lP}{fd:FuncData}{body:List Stmt}{m:List Str}{d:Bool}(F:eJ P)(CS:nN P (jk P S (P.rank f)) (P.rank f))(hb:eH ⟨P,jk P S (P.rank f),P.rank f,F,CS⟩ ((je P.C0 fd).with m d) body a.body):mJ P S f a fd body:=
 fun A env c s loc Q hA C G S' L h=>wpAny_mono (dz hb ⟨⟨rfl,rfl,rfl,rfl,rfl,rfl⟩,C.with,G,hA,S',L.with⟩ h) (fun f s' z=>by
  cases z with
  | next G L q=>exact .next G L.without q
  | ret G r q=>exact .ret G r q) fun _ _ e=>e
theorem wl(F:eJ P)(H:wz P S)(r:Nat):nN P (jk P S r) r:=by
 induction r using Nat.strongRecOn with
 | _ r ih=>
  intro f A c s vs args Q hA S' hv h;obtain⟨a,H1,hb⟩:=H f _ _ _ h.2;have hr:=h.1;cases H1 with|mk H1 H2=>
  exact qT F H1 (qU F (ih _ hr) (H2 _ rfl)) ⟨hA.h,by have:=hA.d;lia,by have:=hA.u;lia⟩ S' hv hb.1 hb.2
theorem uJ(F:eJ P)(H:wz P S){f:Nat}{A:Around}{c:Cfg}{s:Shared}{vs:List Value}{args:List PV}{Q:KV}(hA:COk A (P.rank f+1))(S':SR P.N c s.heap)(hv:ar P.N c.I vs args)(h:S f (dQ P.T f args) c.σ Q):
  codeAny (model P.N.prog P.N.w) A (.call (.ref (P.fnA f)) ⟨vs,[]⟩) (pJ P.N c s Q) s:=
 wl F H (P.rank f+1) f A c s vs args Q hA S' hv ⟨Nat.lt_succ_self _,h⟩
end
end Mine
end
section
namespace Mine
set_option maxRecDepth 10000
noncomputable def b2:List MS:=[.ite (.attr (.var 0) 21) [.stuck] []]
noncomputable def b3:List MS:=[.ite (.cmp .gt (.bin false .add (.meth (.var 0) 0 []) (.var 1)) (.glob 0)) [.stuck] []]
noncomputable def b4:List MS:=[.swap [3,4] (.tup [.blt .min [.var 1,.var 2],.blt .max [.var 1,.var 2]]),.ite (.or (.cmp .lt (.var 3) (.attr (.var 0) 17)) (.cmp .gt (.var 4) (.attr (.var 0) 18))) [.stuck] [],.ret (.tup [.var 3,.var 4])]
noncomputable def b5:List MS:=[.for (.var 3) (.expr (.blt .copy [.attr (.var 0) 25])) [.expr (.meth (.var 3) 18 [.var 0,.var 1,.var 2])]]
noncomputable def b6:List MS:=[.expr (.meth (.var 0) 17 [.bool true]),.for (.var 4) (.expr (.blt .copy [.attr (.var 0) 25])) [.expr (.meth (.var 4) 19 [.var 0,.var 1,.var 2,.var 3])]]
noncomputable def b7:List MS:=[.ite (.cmp .isnot (.attr (.var 0) 26) (.none)) [.expr (.meth (.attr (.var 0) 26) 20 [.var 0,.var 1,.var 2])] [],.assign (.var 3) (.meth (.attr (.var 0) 14) 6 [.bin false .sub (.var 1) (.int 1),.bin false .sub (.var 2) (.int 1)]),.setattr (.var 0) 18 (.bin false .sub (.attr (.var 0) 18) (.bin false .sub (.var 2) (.var 1))),.ite (.cmp .gt (.attr (.var 0) 16) (.var 1)) [.setattr (.var 0) 16 (.blt .max [.var 1,.bin false .sub (.attr (.var 0) 16) (.bin false .sub (.var 2) (.var 1))])] [],.ret (.var 3)]
noncomputable def b8:List MS:=[.ite (.cmp .isnot (.attr (.var 0) 26) (.none)) [.expr (.meth (.attr (.var 0) 26) 21 [.var 0,.var 1,.blt .len [.var 2]])] [],.expr (.meth (.attr (.var 0) 14) 5 [.bin false .sub (.var 1) (.int 1),.var 2]),.setattr (.var 0) 18 (.bin false .add (.attr (.var 0) 18) (.blt .len [.var 2])),.ite (.cmp .gt (.attr (.var 0) 16) (.var 1)) [.setattr (.var 0) 16 (.bin false .add (.attr (.var 0) 16) (.blt .len [.var 2]))] []]
noncomputable def b9:List MS:=[.ite (.cmp .isnot (.attr (.var 0) 27) (.none)) [.expr (.meth (.attr (.var 0) 27) 22 [.bin false .sub (.var 1) (.int 1),.bin false .sub (.var 2) (.int 1)])] [],.ite (.cmp .isnot (.attr (.var 0) 28) (.none)) [.expr (.meth (.attr (.var 0) 28) 22 [.bin false .sub (.var 1) (.int 1),.bin false .sub (.var 2) (.int 1)])] []]
noncomputable def b10:List MS:=[.ite (.cmp .isnot (.attr (.var 0) 27) (.none)) [.expr (.meth (.attr (.var 0) 27) 23 [.bin false .sub (.var 1) (.int 1),.var 2])] [],.ite (.cmp .isnot (.attr (.var 0) 28) (.none)) [.expr (.meth (.attr (.var 0) 28) 23 [.bin false .sub (.var 1) (.int 1),.var 2,.var 3])] []]
noncomputable def b11:List MS:=[.expr (.call 2 [.var 0]),.expr (.call 4 [.var 0,.var 1,.var 1]),.ite (.cmp .eq (.blt .len [.var 2]) (.int 0)) [.ret (.none)] [],.expr (.call 3 [.var 0,.blt .len [.var 2]]),.expr (.call 5 [.var 0,.var 1,.var 1]),.expr (.call 8 [.var 0,.var 1,.var 2]),.ite (.var 4) [.setattr (.var 0) 16 (.bin false .add (.var 1) (.blt .len [.var 2]))] [],.expr (.meth (.attr (.var 0) 15) 10 [.var 1,.bin false .add (.var 1) (.blt .len [.var 2]),.var 3]),.expr (.call 10 [.var 0,.var 1,.blt .len [.var 2],.var 3]),.expr (.call 6 [.var 0,.var 1,.bin false .add (.var 1) (.blt .len [.var 2]),.int 0])]
noncomputable def b12:List MS:=[.expr (.call 11 [.var 0,.var 1,.var 2,.var 3,.bool false])]
noncomputable def b13:List MS:=[.expr (.call 11 [.var 0,.attr (.var 0) 16,.var 1,.var 2,.bool true])]
noncomputable def b14:List MS:=[.expr (.call 2 [.var 0]),.assign (.tup [.var 3,.var 4]) (.call 4 [.var 0,.var 1,.var 2]),.ite (.cmp .eq (.var 3) (.var 4)) [.ret (.list false [])] [],.expr (.call 5 [.var 0,.var 3,.var 4]),.assign (.var 5) (.call 7 [.var 0,.var 3,.var 4]),.expr (.meth (.attr (.var 0) 15) 11 [.var 3,.var 4]),.expr (.call 9 [.var 0,.var 3,.var 4]),.expr (.call 6 [.var 0,.var 3,.var 3,.bin false .sub (.var 4) (.var 3)]),.ret (.var 5)]
noncomputable def b15:List MS:=[.expr (.call 2 [.var 0]),.assign (.tup [.var 5,.var 6]) (.call 4 [.var 0,.var 1,.var 2]),.ite (.cmp .eq (.var 5) (.var 6)) [.expr (.call 12 [.var 0,.var 5,.var 3]),.ret (.list false [])] [],.ite (.cmp .eq (.blt .len [.var 3]) (.int 0)) [.ret (.call 14 [.var 0,.var 5,.var 6])] [],.expr (.call 3 [.var 0,.bin false .sub (.blt .len [.var 3]) (.bin false .sub (.var 6) (.var 5))]),.assign (.var 7) (.attr (.var 0) 16),.expr (.call 5 [.var 0,.var 5,.var 6]),.assign (.var 8) (.call 7 [.var 0,.var 5,.var 6]),.expr (.call 8 [.var 0,.var 5,.var 3]),.ite (.cmp .ge (.var 7) (.var 6)) [.setattr (.var 0) 16 (.bin false .sub (.bin false .add (.var 7) (.blt .len [.var 3])) (.bin false .sub (.var 6) (.var 5)))] [],.expr (.meth (.attr (.var 0) 15) 12 [.var 5,.var 6,.blt .len [.var 3]]),.expr (.call 10 [.var 0,.var 6,.blt .len [.var 3],.bool true]),.expr (.call 9 [.var 0,.var 5,.var 6]),.ite (.cmp .isnot (.var 4) (.none)) [.expr (.meth (.attr (.var 0) 27) 24 [.var 4])] [],.expr (.call 6 [.var 0,.var 5,.bin false .add (.var 5) (.blt .len [.var 3]),.bin false .sub (.var 6) (.var 5)]),.ret (.var 8)]
noncomputable def b16:List MS:=[.ret (.or (.cmp .eq (.var 0) (.glob 1)) (.or (.cmp .eq (.var 0) (.glob 2)) (.cmp .eq (.var 0) (.glob 3))))]
noncomputable def b17:List MS:=[.assign (.var 1) (.bin false .sub (.blt .len [.var 0]) (.int 1)),.while (.and (.cmp .ge (.var 1) (.int 0)) (.cmp .isin (.sub (.var 0) (.var 1)) (.glob 6))) [.assign (.var 1) (.bin false .sub (.var 1) (.int 1))],.ret (.and (.cmp .ge (.var 1) (.int 0)) (.cmp .isin (.sub (.var 0) (.var 1)) (.glob 5)))]
noncomputable def b18:List MS:=[.ite (.not (.call 17 [.var 0])) [.ret (.int 1)] [],.ret (.ite (.or (.cmp .isin (.glob 3) (.var 1)) (.cmp .gt (.blt .len [.var 1]) (.int 1))) (.int 2) (.int 1))]
noncomputable def b19:List MS:=[.assign (.var 1) (.list true []),.assign (.var 2) (.int 0),.while (.and (.cmp .lt (.var 2) (.blt .len [.var 0])) (.call 16 [.sub (.var 0) (.var 2)])) [.assign (.var 2) (.bin false .add (.var 2) (.int 1))],.while (.cmp .lt (.var 2) (.blt .len [.var 0])) [.assign (.var 3) (.var 2),.while (.and (.cmp .lt (.var 3) (.blt .len [.var 0])) (.not (.call 16 [.sub (.var 0) (.var 3)]))) [.assign (.var 3) (.bin false .add (.var 3) (.int 1))],.assign (.var 4) (.var 3),.while (.and (.cmp .lt (.var 4) (.blt .len [.var 0])) (.call 16 [.sub (.var 0) (.var 4)])) [.assign (.var 4) (.bin false .add (.var 4) (.int 1))],.expr (.append (.var 1) (.tup [.slice (.var 0) (some (.var 2)) (some (.var 3)),.call 18 [.slice (.var 0) (some (.var 2)) (some (.var 3)),.slice (.var 0) (some (.var 3)) (some (.var 4))]])),.assign (.var 2) (.var 4)],.ret (.var 1)]
noncomputable def b20:List MS:=[.assign (.tup [.var 1,.var 2]) (.var 0),.ret (.or (.cmp .gt (.var 2) (.int 1)) (.cmp .ne (.sub (.var 1) (.bin false .sub (.blt .len [.var 1]) (.int 1))) (.glob 4)))]
noncomputable def b21:List MS:=[.assign (.var 3) (.int 0),.assign (.var 4) (.var 1),.assign (.var 5) (.var 1),.while (.cmp .lt (.var 5) (.blt .len [.var 0])) [.assign (.tup [.var 6,.var 7]) (.sub (.var 0) (.var 5)),.assign (.var 3) (.bin false .add (.var 3) (.blt .len [.var 6])),.ite (.and (.cmp .gt (.var 3) (.var 2)) (.cmp .gt (.var 4) (.var 1))) [.ret (.var 4)] [],.assign (.var 5) (.bin false .add (.var 5) (.int 1)),.ite (.or (.cmp .eq (.var 5) (.blt .len [.var 0])) (.call 20 [.sub (.var 0) (.bin false .sub (.var 5) (.int 1))])) [.assign (.var 4) (.var 5),.ite (.cmp .gt (.var 3) (.var 2)) [.ret (.var 4)] []] [],.assign (.var 3) (.bin false .add (.var 3) (.var 7))],.ret (.blt .len [.var 0])]
noncomputable def b22:List MS:=[.assign (.var 3) (.list true []),.assign (.var 4) (.int 0),.while (.cmp .lt (.var 4) (.blt .len [.var 0])) [.assign (.var 5) (.call 21 [.var 0,.var 4,.ite (.cmp .eq (.var 4) (.int 0)) (.var 1) (.var 2)]),.expr (.append (.var 3) (.slice (.var 0) (some (.var 4)) (some (.var 5)))),.assign (.var 4) (.var 5)],.ret (.var 3)]
noncomputable def b23:List MS:=[.assign (.var 1) (.int 0),.for (.tup [.var 2,.var 3]) (.expr (.var 0)) [.assign (.var 1) (.bin false .add (.bin false .add (.var 1) (.blt .len [.var 2])) (.var 3))],.ret (.ite (.cmp .gt (.blt .len [.var 0]) (.int 0)) (.bin false .sub (.var 1) (.sub (.sub (.var 0) (.bin false .sub (.blt .len [.var 0]) (.int 1))) (.int 1))) (.int 0))]
noncomputable def b24:List MS:=[.assign (.var 2) (.list true []),.for (.var 3) (.range (.blt .len [.var 0])) [.expr (.extend (.var 2) (.sub (.sub (.var 0) (.var 3)) (.int 0))),.ite (.cmp .lt (.var 3) (.bin false .sub (.blt .len [.var 0]) (.int 1))) [.expr (.extend (.var 2) (.bin false .mul (.list false [.glob 1]) (.sub (.var 1) (.var 3))))] []],.ret (.var 2)]
noncomputable def b25:List MS:=[.ret (.comp false 2 (.var 2) (.tup [.var 1,.var 2]) (.expr (.var 0)) [])]
noncomputable def b26:List MS:=[.assign (.var 2) (.call 25 [.var 0]),.assign (.var 3) (.bin false .sub (.blt .len [.var 0]) (.int 1)),.assign (.var 4) (.bin false .sub (.var 1) (.call 23 [.var 0])),.ite (.or (.cmp .lt (.var 3) (.int 1)) (.cmp .le (.var 4) (.int 0))) [.ret (.var 2)] [],.assign (.var 5) (.bin false .fdiv (.var 4) (.var 3)),.assign (.var 6) (.bin false .sub (.var 4) (.bin false .mul (.var 5) (.var 3))),.ret (.bin false .add (.comp false 1 (.bin false .add (.bin false .add (.sub (.var 2) (.var 7)) (.var 5)) (.ite (.cmp .ge (.var 7) (.bin false .sub (.var 3) (.var 6))) (.int 1) (.int 0))) (.var 7) (.range (.var 3)) []) (.slice (.var 2) (some (.var 3)) Option.none))]
noncomputable def b27:List MS:=[.assign (.var 4) (.call 24 [.var 0,.call 25 [.var 0]]),.assign (.var 5) (.bin false .sub (.var 1) (.blt .len [.var 4])),.ite (.and (.cmp .eq (.var 2) (.str 1)) (.not (.var 3))) [.ret (.call 24 [.var 0,.call 26 [.var 0,.var 1]])] [],.ite (.or (.cmp .le (.var 5) (.int 0)) (.or (.cmp .eq (.var 2) (.str 0)) (.cmp .eq (.var 2) (.str 1)))) [.ret (.var 4)] [],.ite (.cmp .eq (.var 2) (.str 2)) [.ret (.bin false .add (.bin false .mul (.list false [.glob 1]) (.var 5)) (.var 4))] [],.ret (.bin false .add (.bin false .mul (.list false [.glob 1]) (.bin false .fdiv (.var 5) (.int 2))) (.var 4))]
noncomputable def b28:List MS:=[.ret (.ite (.cmp .eq (.var 1) (.glob 7)) (.bin false .mul (.bin false .add (.bin false .fdiv (.var 0) (.var 2)) (.int 1)) (.var 2)) (.bin false .add (.var 0) (.int 1)))]
noncomputable def b29:List MS:=[.assign (.var 3) (.int 0),.for (.var 4) (.expr (.slice (.var 0) Option.none (some (.var 1)))) [.assign (.var 3) (.call 28 [.var 3,.var 4,.var 2])],.ret (.var 3)]
noncomputable def b30:List MS:=[.ret (.call 29 [.var 0,.blt .len [.var 0],.var 1])]
noncomputable def b31:List MS:=[.setattr (.var 0) 0 (.var 1),.setattr (.var 0) 1 (.var 2),.setattr (.var 0) 2 (.var 3),.setattr (.var 0) 3 (.var 4)]
noncomputable def b32:List MS:=[.assign (.var 1) (.list true [.list true []]),.for (.var 2) (.expr (.var 0)) [.ite (.cmp .eq (.var 2) (.glob 10)) [.expr (.append (.var 1) (.list true []))] [.expr (.append (.sub (.var 1) (.bin false .sub (.blt .len [.var 1]) (.int 1))) (.var 2))]],.ret (.var 1)]
noncomputable def b33:List MS:=[.assign (.var 1) (.list true []),.for (.var 2) (.range (.blt .len [.var 0])) [.ite (.cmp .gt (.var 2) (.int 0)) [.expr (.append (.var 1) (.glob 10))] [],.expr (.extend (.var 1) (.sub (.var 0) (.var 2)))],.ret (.var 1)]
noncomputable def b34:List MS:=[.assign (.var 2) (.int 0),.while (.and (.cmp .lt (.var 2) (.blt .len [.var 0])) (.or (.cmp .eq (.sub (.var 0) (.var 2)) (.glob 8)) (.or (.cmp .eq (.sub (.var 0) (.var 2)) (.glob 9)) (.cmp .isin (.sub (.var 0) (.var 2)) (.attr (.var 1) 2))))) [.assign (.var 2) (.bin false .add (.var 2) (.int 1))],.ret (.slice (.var 0) Option.none (some (.var 2)))]
noncomputable def b35:List MS:=[.assign (.var 2) (.int 0),.while (.and (.cmp .lt (.var 2) (.blt .len [.var 0])) (.and (.cmp .lt (.var 2) (.blt .len [.var 1])) (.cmp .eq (.sub (.var 0) (.var 2)) (.sub (.var 1) (.var 2))))) [.assign (.var 2) (.bin false .add (.var 2) (.int 1))],.ret (.slice (.var 0) Option.none (some (.var 2)))]
noncomputable def b36:List MS:=[.for (.var 1) (.expr (.var 0)) [.ite (.and (.cmp .ne (.var 1) (.glob 8)) (.cmp .ne (.var 1) (.glob 9))) [.ret (.bool false)] []],.ret (.bool true)]
noncomputable def b37:List MS:=[.assign (.var 2) (.call 34 [.sub (.var 0) (.int 0),.var 1]),.ite (.cmp .eq (.blt .len [.var 0]) (.int 1)) [.ret (.tup [.var 2,.ite (.call 36 [.var 2]) (.var 2) (.list false [])])] [],.assign (.var 3) (.call 34 [.sub (.var 0) (.int 1),.var 1]),.for (.var 4) (.expr (.slice (.var 0) (some (.int 2)) Option.none)) [.assign (.var 3) (.call 35 [.var 3,.call 34 [.var 4,.var 1]])],.ret (.tup [.var 2,.var 3])]
noncomputable def b38:List MS:=[.assign (.tup [.var 2,.var 3]) (.call 37 [.var 0,.var 1]),.assign (.var 4) (.slice (.sub (.var 0) (.int 0)) (some (.blt .len [.var 2])) Option.none),.for (.var 5) (.expr (.slice (.var 0) (some (.int 1)) Option.none)) [.assign (.var 4) (.bin false .add (.bin false .add (.var 4) (.list false [.glob 10])) (.slice (.var 5) (some (.blt .len [.var 3])) Option.none))],.assign (.var 6) (.bin false .sub (.attr (.var 1) 0) (.call 30 [.var 2,.attr (.var 1) 3])),.assign (.var 7) (.bin false .sub (.attr (.var 1) 0) (.call 30 [.var 3,.attr (.var 1) 3])),.assign (.var 8) (.list true []),.assign (.var 9) (.call 22 [.call 19 [.var 4],.var 6,.var 7]),.for (.var 10) (.range (.blt .len [.var 9])) [.assign (.var 11) (.ite (.cmp .eq (.var 10) (.int 0)) (.var 2) (.var 3)),.assign (.var 12) (.ite (.cmp .eq (.var 10) (.int 0)) (.var 6) (.var 7)),.expr (.append (.var 8) (.bin false .add (.var 11) (.call 27 [.sub (.var 9) (.var 10),.var 12,.attr (.var 1) 1,.cmp .eq (.var 10) (.bin false .sub (.blt .len [.var 9]) (.int 1))])))],.ret (.var 8)]
noncomputable def b39:List MS:=[.assign (.var 2) (.list true []),.assign (.var 3) (.list true []),.for (.var 4) (.expr (.call 32 [.var 0])) [.ite (.cmp .eq (.blt .len [.call 34 [.var 4,.var 1]]) (.blt .len [.var 4])) [.ite (.cmp .gt (.blt .len [.var 3]) (.int 0)) [.expr (.extend (.var 2) (.call 38 [.var 3,.var 1])),.assign (.var 3) (.list true [])] [],.expr (.append (.var 2) (.var 4))] [.expr (.append (.var 3) (.var 4))]],.ite (.cmp .gt (.blt .len [.var 3]) (.int 0)) [.expr (.extend (.var 2) (.call 38 [.var 3,.var 1]))] [],.ret (.call 33 [.var 2])]
noncomputable def b40:List MS:=[.assign (.var 2) (.var 1),.while (.and (.cmp .gt (.var 2) (.meth (.var 0) 13 [])) (.cmp .ne (.meth (.var 0) 15 [.bin false .sub (.var 2) (.int 1)]) (.glob 11))) [.assign (.var 2) (.bin false .sub (.var 2) (.int 1))],.ret (.var 2)]
noncomputable def b41:List MS:=[.assign (.var 2) (.var 1),.while (.and (.cmp .lt (.var 2) (.meth (.var 0) 14 [])) (.cmp .ne (.meth (.var 0) 15 [.var 2]) (.glob 11))) [.assign (.var 2) (.bin false .add (.var 2) (.int 1))],.ret (.var 2)]
noncomputable def b42:List MS:=[.assign (.var 1) (.list true []),.assign (.var 2) (.int 0),.while (.cmp .lt (.var 2) (.blt .len [.var 0])) [.assign (.var 3) (.var 2),.while (.and (.cmp .lt (.var 2) (.blt .len [.var 0])) (.cmp .notin (.sub (.var 0) (.var 2)) (.glob 12))) [.assign (.var 2) (.bin false .add (.var 2) (.int 1))],.ite (.cmp .gt (.var 2) (.var 3)) [.expr (.append (.var 1) (.tup [.var 3,.var 2]))] [.assign (.var 2) (.bin false .add (.var 2) (.int 1))]],.ret (.var 1)]
noncomputable def b43:List MS:=[.assign (.var 2) (.list true []),.assign (.var 3) (.call 42 [.var 0]),.assign (.var 4) (.int 0),.for (.tup [.var 5,.var 6]) (.expr (.call 42 [.var 1])) [.assign (.var 7) (.var 4),.while (.and (.cmp .lt (.var 7) (.blt .min [.blt .len [.var 3],.bin false .add (.var 4) (.glob 13)])) (.cmp .ne (.slice (.var 0) (some (.sub (.sub (.var 3) (.var 7)) (.int 0))) (some (.sub (.sub (.var 3) (.var 7)) (.int 1)))) (.slice (.var 1) (some (.var 5)) (some (.var 6))))) [.assign (.var 7) (.bin false .add (.var 7) (.int 1))],.ite (.cmp .lt (.var 7) (.blt .min [.blt .len [.var 3],.bin false .add (.var 4) (.glob 13)])) [.expr (.append (.var 2) (.tup [.sub (.var 3) (.var 7),.tup [.var 5,.var 6]])),.assign (.var 4) (.bin false .add (.var 7) (.int 1))] []],.ret (.var 2)]
noncomputable def b44:List MS:=[.assign (.var 4) (.int 0),.while (.and (.cmp .lt (.bin false .add (.var 0) (.var 4)) (.var 1)) (.and (.cmp .lt (.var 4) (.blt .len [.var 3])) (.cmp .eq (.sub (.var 2) (.bin false .add (.var 0) (.var 4))) (.sub (.var 3) (.var 4))))) [.assign (.var 4) (.bin false .add (.var 4) (.int 1))],.assign (.var 5) (.int 0),.while (.and (.cmp .lt (.bin false .add (.var 0) (.var 4)) (.bin false .sub (.var 1) (.var 5))) (.and (.cmp .lt (.var 4) (.bin false .sub (.blt .len [.var 3]) (.var 5))) (.cmp .eq (.sub (.var 2) (.bin false .sub (.bin false .sub (.var 1) (.var 5)) (.int 1))) (.sub (.var 3) (.bin false .sub (.bin false .sub (.blt .len [.var 3]) (.var 5)) (.int 1)))))) [.assign (.var 5) (.bin false .add (.var 5) (.int 1))],.ret (.tup [.bin false .add (.var 0) (.var 4),.bin false .sub (.var 1) (.var 5),.slice (.var 3) (some (.var 4)) (some (.bin false .sub (.blt .len [.var 3]) (.var 5)))])]
noncomputable def b45:List MS:=[.assign (.var 2) (.list true []),.assign (.var 3) (.int 0),.assign (.var 4) (.int 0),.for (.tup [.tup [.var 5,.var 6],.tup [.var 7,.var 8]]) (.expr (.bin false .add (.call 43 [.var 0,.var 1]) (.list false [.tup [.tup [.blt .len [.var 0],.blt .len [.var 0]],.tup [.blt .len [.var 1],.blt .len [.var 1]]]]))) [.ite (.cmp .ne (.slice (.var 0) (some (.var 3)) (some (.var 5))) (.slice (.var 1) (some (.var 4)) (some (.var 7)))) [.expr (.append (.var 2) (.call 44 [.var 3,.var 5,.var 0,.slice (.var 1) (some (.var 4)) (some (.var 7))]))] [],.assign (.var 3) (.var 6),.assign (.var 4) (.var 8)],.ret (.var 2)]
noncomputable def b46:List MS:=[.assign (.var 4) (.call 45 [.meth (.var 0) 2 [.var 1,.var 2],.var 3]),.for (.tup [.var 5,.var 6,.var 7]) (.expr (.rev (.var 4))) [.expr (.call 15 [.var 0,.bin false .add (.var 1) (.var 5),.bin false .add (.var 1) (.var 6),.var 7])],.ret (.cmp .gt (.blt .len [.var 4]) (.int 0))]
noncomputable def b47:List MS:=[.assign (.tup [.var 4,.var 5]) (.call 4 [.var 0,.var 1,.var 2]),.assign (.var 4) (.call 40 [.var 0,.var 4]),.ret (.call 46 [.var 0,.var 4,.var 5,.call 39 [.meth (.var 0) 2 [.var 4,.var 5],.var 3]])]
noncomputable def b48:List MS:=[.assign (.var 3) (.meth (.var 0) 2 [.call 40 [.var 0,.var 1],.call 41 [.var 0,.var 1]]),.ret (.cmp .eq (.blt .len [.call 34 [.var 3,.var 2]]) (.blt .len [.var 3]))]
noncomputable def b49:List MS:=[.assign (.var 3) (.call 40 [.var 0,.var 1]),.while (.and (.cmp .lt (.var 3) (.attr (.var 0) 18)) (.call 48 [.var 0,.var 3,.var 2])) [.assign (.var 3) (.bin false .add (.call 41 [.var 0,.var 3]) (.int 1))],.ite (.or (.cmp .ge (.var 3) (.attr (.var 0) 18)) (.call 48 [.var 0,.var 3,.var 2])) [.ret (.tup [.var 1,.var 1])] [],.assign (.var 4) (.var 3),.while (.and (.cmp .gt (.var 4) (.attr (.var 0) 17)) (.not (.call 48 [.var 0,.bin false .sub (.var 4) (.int 1),.var 2]))) [.assign (.var 4) (.call 40 [.var 0,.bin false .sub (.var 4) (.int 1)])],.assign (.var 5) (.call 41 [.var 0,.var 3]),.while (.and (.cmp .lt (.var 5) (.attr (.var 0) 18)) (.not (.call 48 [.var 0,.bin false .add (.var 5) (.int 1),.var 2]))) [.assign (.var 5) (.call 41 [.var 0,.bin false .add (.var 5) (.int 1)])],.ret (.tup [.var 4,.var 5])]
noncomputable def b50:List MS:=[.assign (.tup [.var 2,.var 3]) (.call 49 [.var 0,.attr (.var 0) 16,.var 1]),.ite (.cmp .eq (.var 2) (.var 3)) [.ret (.bool false)] [],.ret (.call 47 [.var 0,.var 2,.var 3,.var 1])]
noncomputable def b51:List MS:=[.setattr (.var 0) 4 (.var 2),.setattr (.var 0) 5 (.bin true .add (.blt .copy [.var 1]) (.bin false .mul (.list false [.int 0]) (.var 2))),.setattr (.var 0) 6 (.blt .len [.var 1]),.setattr (.var 0) 7 (.bin false .add (.blt .len [.var 1]) (.var 2))]
noncomputable def b52:List MS:=[.ret (.bin false .add (.bin false .sub (.blt .len [.attr (.var 0) 5]) (.attr (.var 0) 7)) (.attr (.var 0) 6))]
noncomputable def b53:List MS:=[.ite (.cmp .lt (.var 1) (.attr (.var 0) 6)) [.ret (.sub (.attr (.var 0) 5) (.var 1))] [],.ret (.sub (.attr (.var 0) 5) (.bin false .add (.bin false .sub (.var 1) (.attr (.var 0) 6)) (.attr (.var 0) 7)))]
noncomputable def b54:List MS:=[.assign (.var 3) (.bin false .sub (.attr (.var 0) 7) (.attr (.var 0) 6)),.ite (.cmp .le (.var 2) (.attr (.var 0) 6)) [.ret (.slice (.attr (.var 0) 5) (some (.var 1)) (some (.var 2)))] [],.ite (.cmp .ge (.var 1) (.attr (.var 0) 6)) [.ret (.slice (.attr (.var 0) 5) (some (.bin false .add (.var 1) (.var 3))) (some (.bin false .add (.var 2) (.var 3))))] [],.ret (.bin false .add (.slice (.attr (.var 0) 5) (some (.var 1)) (some (.attr (.var 0) 6))) (.slice (.attr (.var 0) 5) (some (.attr (.var 0) 7)) (some (.bin false .add (.var 2) (.var 3)))))]
noncomputable def b55:List MS:=[.ite (.cmp .lt (.var 1) (.attr (.var 0) 6)) [.assign (.var 2) (.slice (.attr (.var 0) 5) (some (.var 1)) (some (.attr (.var 0) 6))),.setslice (.attr (.var 0) 5) (.bin false .sub (.attr (.var 0) 7) (.blt .len [.var 2])) (.attr (.var 0) 7) (.var 2),.setattr (.var 0) 7 (.bin false .sub (.attr (.var 0) 7) (.blt .len [.var 2]))] [.assign (.var 2) (.slice (.attr (.var 0) 5) (some (.attr (.var 0) 7)) (some (.bin false .sub (.bin false .add (.attr (.var 0) 7) (.var 1)) (.attr (.var 0) 6)))),.setslice (.attr (.var 0) 5) (.attr (.var 0) 6) (.bin false .add (.attr (.var 0) 6) (.blt .len [.var 2])) (.var 2),.setattr (.var 0) 7 (.bin false .add (.attr (.var 0) 7) (.blt .len [.var 2]))],.setattr (.var 0) 6 (.var 1)]
noncomputable def b56:List MS:=[.assign (.var 2) (.bin false .sub (.var 1) (.bin false .sub (.attr (.var 0) 7) (.attr (.var 0) 6))),.ite (.cmp .gt (.var 2) (.int 0)) [.setslice (.attr (.var 0) 5) (.attr (.var 0) 7) (.attr (.var 0) 7) (.bin false .mul (.list false [.int 0]) (.bin false .add (.var 2) (.attr (.var 0) 4))),.setattr (.var 0) 7 (.bin false .add (.bin false .add (.attr (.var 0) 7) (.var 2)) (.attr (.var 0) 4))] []]
noncomputable def b57:List MS:=[.expr (.meth (.var 0) 4 [.blt .len [.var 2]]),.expr (.meth (.var 0) 3 [.var 1]),.setslice (.attr (.var 0) 5) (.var 1) (.bin false .add (.var 1) (.blt .len [.var 2])) (.var 2),.setattr (.var 0) 6 (.bin false .add (.var 1) (.blt .len [.var 2]))]
noncomputable def b58:List MS:=[.assign (.var 3) (.meth (.var 0) 2 [.var 1,.var 2]),.ite (.cmp .lt (.var 2) (.attr (.var 0) 6)) [.expr (.meth (.var 0) 3 [.var 2])] [],.ite (.cmp .gt (.var 1) (.attr (.var 0) 6)) [.expr (.meth (.var 0) 3 [.var 1])] [],.setattr (.var 0) 7 (.bin false .sub (.bin false .add (.attr (.var 0) 7) (.var 2)) (.attr (.var 0) 6)),.setattr (.var 0) 6 (.var 1),.ret (.var 3)]
noncomputable def b59:List MS:=[.setitem (.attr (.var 0) 5) (.ite (.cmp .lt (.var 1) (.attr (.var 0) 6)) (.var 1) (.bin false .add (.bin false .sub (.var 1) (.attr (.var 0) 6)) (.attr (.var 0) 7))) (.var 2)]
noncomputable def b65:List MS:=[.setattr (.var 0) 8 (.var 1),.setattr (.var 0) 9 (.var 2),.setattr (.var 0) 10 (.none),.setattr (.var 0) 11 (.int 0)]
noncomputable def b69:List MS:=[.setattr (.var 0) 12 (.edict)]
noncomputable def b70:List MS:=[.ret (.blt .sorted [.attr (.var 0) 12])]
noncomputable def b71:List MS:=[.setitem (.attr (.var 0) 12) (.attr (.var 1) 8) (.var 1),.setattr (.var 1) 11 (.var 2)]
noncomputable def b72:List MS:=[.ite (.cmp .isin (.attr (.var 1) 8) (.attr (.var 0) 12)) [.expr (.pop (.attr (.var 0) 12) (.attr (.var 1) 8))] []]
noncomputable def b73:List MS:=[.assign (.var 3) (.list false []),.for (.var 4) (.expr (.meth (.var 0) 8 [])) [.ite (.cmp2 .le .le (.var 1) (.attr (.sub (.attr (.var 0) 12) (.var 4)) 11) (.var 2)) [.expr (.append (.var 3) (.sub (.attr (.var 0) 12) (.var 4)))] []],.ret (.var 3)]
noncomputable def b74:List MS:=[.for (.var 4) (.expr (.meth (.var 0) 8 [])) [.assign (.var 5) (.sub (.attr (.var 0) 12) (.var 4)),.ite (.or (.cmp .gt (.attr (.var 5) 11) (.var 1)) (.and (.cmp .eq (.attr (.var 5) 11) (.var 1)) (.or (.var 3) (.attr (.var 5) 9)))) [.setattr (.var 5) 11 (.bin false .sub (.bin false .add (.attr (.var 5) 11) (.var 2)) (.var 1))] []]]
noncomputable def b75:List MS:=[.for (.var 3) (.expr (.meth (.var 0) 8 [])) [.assign (.var 4) (.sub (.attr (.var 0) 12) (.var 3)),.ite (.cmp .gt (.attr (.var 4) 11) (.var 2)) [.setattr (.var 4) 11 (.bin false .sub (.attr (.var 4) 11) (.bin false .sub (.var 2) (.var 1)))] [.ite (.cmp .gt (.attr (.var 4) 11) (.var 1)) [.setattr (.var 4) 11 (.var 1)] []]]]
noncomputable def b76:List MS:=[.for (.var 4) (.expr (.meth (.var 0) 8 [])) [.assign (.var 5) (.sub (.attr (.var 0) 12) (.var 4)),.ite (.cmp .ge (.attr (.var 5) 11) (.var 2)) [.setattr (.var 5) 11 (.bin false .sub (.bin false .add (.attr (.var 5) 11) (.var 3)) (.bin false .sub (.var 2) (.var 1)))] [.ite (.cmp .gt (.attr (.var 5) 11) (.var 1)) [.setattr (.var 5) 11 (.var 1)] []]]]
noncomputable def b77:List MS:=[.setattr (.var 0) 8 (.var 1),.setattr (.var 0) 13 (.var 2),.setattr (.var 0) 14 (.new 1 [.list false [],.var 3]),.setattr (.var 0) 15 (.new 3 []),.setattr (.var 0) 16 (.int 1),.setattr (.var 0) 17 (.int 1),.setattr (.var 0) 18 (.int 1),.setattr (.var 0) 19 (.none),.setattr (.var 0) 20 (.bool true),.setattr (.var 0) 21 (.bool false),.setattr (.var 0) 22 (.int 1),.setattr (.var 0) 23 (.int 1),.setattr (.var 0) 24 (.int 1),.setattr (.var 0) 25 (.list false []),.setattr (.var 0) 26 (.none),.setattr (.var 0) 27 (.none),.setattr (.var 0) 28 (.none),.setattr (.var 0) 29 (.none),.setattr (.var 0) 30 (.none),.setattr (.var 0) 31 (.none)]
noncomputable def b80:List MS:=[.ret (.attr (.var 0) 17)]
noncomputable def b81:List MS:=[.ret (.attr (.var 0) 18)]
noncomputable def b82:List MS:=[.ret (.meth (.attr (.var 0) 14) 0 [])]
noncomputable def b83:List MS:=[.ite (.or (.cmp .lt (.var 1) (.attr (.var 0) 17)) (.cmp .ge (.var 1) (.attr (.var 0) 18))) [.ret (.int (-1))] [],.ret (.meth (.attr (.var 0) 14) 1 [.bin false .sub (.var 1) (.int 1)])]
noncomputable def b84:List MS:=[.ret (.meth (.attr (.var 0) 14) 2 [.bin false .sub (.var 1) (.int 1),.bin false .sub (.var 2) (.int 1)])]
noncomputable def b89:List MS:=[.setattr (.var 0) 22 (.bin false .add (.attr (.var 0) 22) (.int 1)),.ite (.var 1) [.setattr (.var 0) 23 (.attr (.var 0) 22)] []]
noncomputable def b90:List MS:=[.ite (.and (.cmp .isnot (.attr (.var 0) 10) (.none)) (.cmp .isnot (.attr (.var 0) 10) (.var 1))) [.expr (.meth (.attr (.attr (.var 0) 10) 15) 9 [.var 0])] [],.setattr (.var 0) 10 (.var 1),.ite (.cmp .is (.var 1) (.none)) [.setattr (.var 0) 11 (.int 0)] [.expr (.meth (.attr (.var 1) 15) 7 [.var 0,.blt .min [.blt .max [.var 2,.int 1],.bin false .add (.meth (.var 1) 0 []) (.int 1)]])]]
noncomputable def b91:List MS:=[.ret (.ite (.cmp .ne (.var 0) (.list false [])) (.bin false .mod (.pop (.var 0) (.int 0)) (.var 1)) (.int 0))]
noncomputable def b92:List MS:=[.ret (.cmp .notin (.var 0) (.tup [.int 9,.int 10,.int 32]))]
noncomputable def b93:List MS:=[.ret (.blt .len [.comp false 1 (.int 1) (.var 2) (.expr (.slice (.var 0) Option.none (some (.bin false .sub (.var 1) (.int 1))))) [.call 92 [.var 2]]])]
noncomputable def b94:List MS:=[.ret (.and (.cmp2 .lt .le (.int 1) (.var 1) (.blt .len [.var 0])) (.and (.call 92 [.sub (.var 0) (.bin false .sub (.var 1) (.int 2))]) (.call 92 [.sub (.var 0) (.bin false .sub (.var 1) (.int 1))])))]
noncomputable def b95:List MS:=[.for (.tup [.var 4,.var 5]) (.zip (.var 2) (.var 3)) [.ite (.cmp .ne (.call 93 [.var 0,.var 4]) (.call 93 [.var 1,.var 5])) [.ret (.bool false)] [],.ite (.and (.call 94 [.var 0,.var 4]) (.not (.call 94 [.var 1,.var 5]))) [.ret (.bool false)] []],.ret (.cmp .eq (.comp false 1 (.var 6) (.var 6) (.expr (.var 0)) [.call 92 [.var 6]]) (.comp false 1 (.var 6) (.var 6) (.expr (.var 1)) [.call 92 [.var 6]]))]
noncomputable def b96:List MS:=[.assign (.tup [.var 1,.var 2]) (.tup [.comp true 1 (.blt .abs [.var 18]) (.var 18) (.expr (.slice (.var 0) Option.none (some (.int 60)))) [],.list false [.int 97,.int 98,.int 32,.int 10,.int 99,.int 97,.int 32,.int 46]]),.assign (.var 3) (.comp false 1 (.sub (.var 2) (.call 91 [.var 1,.int 8])) (.var 18) (.range (.bin false .add (.int 3) (.call 91 [.var 1,.int 30]))) []),.assign (.tup [.var 4,.var 5,.var 6]) (.tup [.new 4 [.int 1,.str 4],.bin false .add (.blt .len [.var 3]) (.int 1),.list true []]),.expr (.call 13 [.var 4,.var 3]),.assign (.var 7) (.comp false 1 (.bin false .add (.int 1) (.call 91 [.var 1,.var 5])) (.var 18) (.range (.int 4)) []),.for (.tup [.var 8,.var 9]) (.enum (.slice (.var 7) (some (.int 1)) Option.none)) [.expr (.append (.var 6) (.new 2 [.bin false .add (.var 8) (.int 1),.bool false])),.expr (.call 90 [.sub (.var 6) (.int (-1)),.var 4,.var 9])],.setattr (.var 4) 16 (.sub (.var 7) (.int 0)),.assign (.var 10) (.new 0 [.bin false .add (.int 2) (.call 91 [.var 1,.int 12]),.sub (.list false [.str 0,.str 1,.str 2,.str 3]) (.call 91 [.var 1,.int 4]),.list false [],.int 8]),.swap [11,12,13] (.tup [.bin false .add (.int 1) (.call 91 [.var 1,.var 5]),.bin false .add (.int 1) (.call 91 [.var 1,.var 5]),.cmp .eq (.call 91 [.var 1,.int 2]) (.int 1)]),.assign (.var 14) (.ite (.var 13) (.call 47 [.var 4,.var 11,.var 12,.var 10]) (.call 50 [.var 4,.var 10])),.assign (.var 15) (.meth (.var 4) 2 [.int 1,.bin false .add (.meth (.var 4) 0 []) (.int 1)]),.assign (.var 16) (.bin false .add (.list false [.attr (.var 4) 16]) (.comp false 1 (.attr (.var 18) 11) (.var 18) (.expr (.var 6)) [])),.ite (.or (.cmp .ne (.var 14) (.cmp .ne (.var 15) (.var 3))) (.not (.call 95 [.var 3,.var 15,.var 7,.var 16]))) [.ret (.bool false)] [],.ite (.or (.cmp .ne (.attr (.var 10) 1) (.str 0)) (.var 13)) [.ret (.bool true)] [],.assign (.var 17) (.attr (.var 4) 23),.ret (.and (.not (.call 50 [.var 4,.var 10])) (.cmp .eq (.attr (.var 4) 23) (.var 17)))]
noncomputable def jd:Nat→Option lP
 | 2=>some ⟨1,1,[],b2⟩
 | 3=>some ⟨2,2,[],b3⟩
 | 4=>some ⟨3,5,[],b4⟩
 | 5=>some ⟨3,4,[],b5⟩
 | 6=>some ⟨4,5,[],b6⟩
 | 7=>some ⟨3,4,[],b7⟩
 | 8=>some ⟨3,3,[],b8⟩
 | 9=>some ⟨3,3,[],b9⟩
 | 10=>some ⟨4,4,[],b10⟩
 | 11=>some ⟨5,5,[],b11⟩
 | 12=>some ⟨4,4,[.bool false],b12⟩
 | 13=>some ⟨3,3,[.bool false],b13⟩
 | 14=>some ⟨3,6,[],b14⟩
 | 15=>some ⟨5,9,[.none],b15⟩
 | 16=>some ⟨1,1,[],b16⟩
 | 17=>some ⟨1,2,[],b17⟩
 | 18=>some ⟨2,2,[],b18⟩
 | 19=>some ⟨1,5,[],b19⟩
 | 20=>some ⟨1,3,[],b20⟩
 | 21=>some ⟨3,8,[],b21⟩
 | 22=>some ⟨3,6,[],b22⟩
 | 23=>some ⟨1,4,[],b23⟩
 | 24=>some ⟨2,4,[],b24⟩
 | 25=>some ⟨1,1,[],b25⟩
 | 26=>some ⟨2,7,[],b26⟩
 | 27=>some ⟨4,6,[],b27⟩
 | 28=>some ⟨3,3,[],b28⟩
 | 29=>some ⟨3,5,[],b29⟩
 | 30=>some ⟨2,2,[],b30⟩
 | 31=>some ⟨5,5,[],b31⟩
 | 32=>some ⟨1,3,[],b32⟩
 | 33=>some ⟨1,3,[],b33⟩
 | 34=>some ⟨2,3,[],b34⟩
 | 35=>some ⟨2,3,[],b35⟩
 | 36=>some ⟨1,2,[],b36⟩
 | 37=>some ⟨2,5,[],b37⟩
 | 38=>some ⟨2,13,[],b38⟩
 | 39=>some ⟨2,5,[],b39⟩
 | 40=>some ⟨2,3,[],b40⟩
 | 41=>some ⟨2,3,[],b41⟩
 | 42=>some ⟨1,4,[],b42⟩
 | 43=>some ⟨2,8,[],b43⟩
 | 44=>some ⟨4,6,[],b44⟩
 | 45=>some ⟨2,9,[],b45⟩
 | 46=>some ⟨4,8,[],b46⟩
 | 47=>some ⟨4,6,[],b47⟩
 | 48=>some ⟨3,4,[],b48⟩
 | 49=>some ⟨3,6,[],b49⟩
 | 50=>some ⟨2,4,[],b50⟩
 | 51=>some ⟨3,3,[],b51⟩
 | 52=>some ⟨1,1,[],b52⟩
 | 53=>some ⟨2,2,[],b53⟩
 | 54=>some ⟨3,4,[],b54⟩
 | 55=>some ⟨2,3,[],b55⟩
 | 56=>some ⟨2,3,[],b56⟩
 | 57=>some ⟨3,3,[],b57⟩
 | 58=>some ⟨3,4,[],b58⟩
 | 59=>some ⟨3,3,[],b59⟩
 | 65=>some ⟨3,3,[],b65⟩
 | 69=>some ⟨1,1,[],b69⟩
 | 70=>some ⟨1,1,[],b70⟩
 | 71=>some ⟨3,3,[],b71⟩
 | 72=>some ⟨2,2,[],b72⟩
 | 73=>some ⟨3,5,[],b73⟩
 | 74=>some ⟨4,6,[],b74⟩
 | 75=>some ⟨3,5,[],b75⟩
 | 76=>some ⟨4,6,[],b76⟩
 | 77=>some ⟨4,4,[.int 8],b77⟩
 | 80=>some ⟨1,1,[],b80⟩
 | 81=>some ⟨1,1,[],b81⟩
 | 82=>some ⟨1,1,[],b82⟩
 | 83=>some ⟨2,2,[],b83⟩
 | 84=>some ⟨3,3,[],b84⟩
 | 89=>some ⟨2,2,[],b89⟩
 | 90=>some ⟨3,3,[],b90⟩
 | 91=>some ⟨2,2,[],b91⟩
 | 92=>some ⟨1,1,[],b92⟩
 | 93=>some ⟨2,2,[],b93⟩
 | 94=>some ⟨2,2,[],b94⟩
 | 95=>some ⟨4,6,[],b95⟩
 | 96=>some ⟨1,18,[],b96⟩
 | _=>Option.none
noncomputable def jF:Nat→PV
 | 0=>.int 4194304|1=>.int 32|2=>.int 9|3=>.int 10|4=>.int 46|5=>.tup [.int 33,.int 46,.int 63]|6=>.tup [.int 34,.int 39,.int 41,.int 93,.int 125]
 | 7=>.int 9|8=>.int 32|9=>.int 9|10=>.int 10|11=>.int 10|12=>.tup [.int 9,.int 10,.int 32]|13=>.int 4|_=>.none
noncomputable def m6:List (Nat×Nat×Nat):=[(1,0,52),(1,1,53),(1,2,54),(1,3,55),(1,4,56),(1,5,57),(1,6,58),(1,7,59),(3,7,71),(3,8,70),(3,9,72),(3,10,74),(3,11,75),(3,12,76),(4,0,82),(4,2,84),(4,13,80),(4,14,81),(4,15,83),(4,16,85),(4,17,89)]
noncomputable def dq(c n:Nat):Option Nat:=(m6.find? fun p=>p.1==c&&p.2.1==n).map (·.2.2)
noncomputable def ng:List (Nat×Nat):=[(0,31),(1,51),(2,65),(3,69),(4,77)]
noncomputable def hH(c:Nat):Option Nat:=(ng.find? fun p=>p.1==c).map (·.2)
noncomputable def ai:lL:=⟨jd,jF,dq,hH⟩
end Mine
end
section
namespace Mine
open PySem
noncomputable def z0:Str:=⟨#[76,79,78,71,69,83,84]⟩
noncomputable def z1:Str:=⟨#[66,76,65,78,75,95,102,105,108,108,119,111,114,100,115]⟩
noncomputable def z2:Str:=⟨#[84,65,66,95,102,105,108,108,119,111,114,100,115]⟩
noncomputable def z3:Str:=⟨#[82,79,87,95,69,78,68,95,102,105,108,108,119,111,114,100,115]⟩
noncomputable def z4:Str:=⟨#[80,69,82,73,79,68]⟩
noncomputable def z5:Str:=⟨#[69,78,68,83]⟩
noncomputable def z6:Str:=⟨#[67,76,79,83,69,82,83]⟩
noncomputable def z7:Str:=⟨#[84,65,66,95,114,101,99,116,99,111,108,115]⟩
noncomputable def z8:Str:=⟨#[66,76,65,78,75,95,102,105,108,108,116,101,120,116]⟩
noncomputable def z9:Str:=⟨#[84,65,66,95,102,105,108,108,116,101,120,116]⟩
noncomputable def z10:Str:=⟨#[82,79,87,95,69,78,68,95,102,105,108,108,116,101,120,116]⟩
noncomputable def z11:Str:=⟨#[78,69,87,76,73,78,69]⟩
noncomputable def z12:Str:=⟨#[66,76,65,78,75,83]⟩
noncomputable def z13:Str:=⟨#[70,65,82,84,72,69,83,84]⟩
noncomputable def z14:Str:=⟨#[70,105,108,108,105,110,103]⟩
noncomputable def z15:Str:=⟨#[71,97,112,84,101,120,116]⟩
noncomputable def z16:Str:=⟨#[77,97,114,107,101,114]⟩
noncomputable def z17:Str:=⟨#[77,97,114,107,101,114,115]⟩
noncomputable def z18:Str:=⟨#[66,117,102,102,101,114]⟩
noncomputable def z19:Str:=⟨#[99,101,108,108,115]⟩
noncomputable def z20:Str:=⟨#[114,111,119,115]⟩
noncomputable def z21:Str:=⟨#[115,105,122,101]⟩
noncomputable def z22:Str:=⟨#[99,111,100,101]⟩
noncomputable def z23:Str:=⟨#[99,111,100,101,115]⟩
noncomputable def z24:Str:=⟨#[109,111,118,101,95,103,97,112]⟩
noncomputable def z25:Str:=⟨#[119,105,100,101,110,95,103,97,112]⟩
noncomputable def z26:Str:=⟨#[105,110,115,101,114,116]⟩
noncomputable def z27:Str:=⟨#[100,101,108,101,116,101]⟩
noncomputable def z28:Str:=⟨#[112,117,116]⟩
noncomputable def z29:Str:=⟨#[110,117,109,98,101,114,115]⟩
noncomputable def z30:Str:=⟨#[100,114,111,112]⟩
noncomputable def z31:Str:=⟨#[105,110,115,101,114,116,101,100]⟩
noncomputable def z32:Str:=⟨#[100,101,108,101,116,101,100]⟩
noncomputable def z33:Str:=⟨#[114,101,112,108,97,99,101,100]⟩
noncomputable def z34:Str:=⟨#[98,101,103,105,110]⟩
noncomputable def z35:Str:=⟨#[101,110,100]⟩
noncomputable def z36:Str:=⟨#[99,111,100,101,95,97,116]⟩
noncomputable def z37:Str:=⟨#[103,111,116,111]⟩
noncomputable def z38:Str:=⟨#[116,111,117,99,104]⟩
noncomputable def z39:Str:=⟨#[102,111,117,110,100]⟩
noncomputable def z40:Str:=⟨#[100,101,99,107]⟩
noncomputable def z41:Str:=⟨#[109,97,114,107,115]⟩
noncomputable def z42:Str:=⟨#[95,95,110,97,109,101,95,95]⟩
noncomputable def z43:Str:=⟨#[108,97,119,95,112,113,48,50,57,54,95,48,50]⟩
noncomputable def z44:Str:=⟨#[95,95,100,111,99,95,95]⟩
noncomputable def z45:Str:=⟨#[95,95,112,97,99,107,97,103,101,95,95]⟩
noncomputable def z46:Str:=⟨#[95,95,108,111,97,100,101,114,95,95]⟩
noncomputable def z47:Str:=⟨#[95,95,115,112,101,99,95,95]⟩
noncomputable def z48:Str:=⟨#[95,95,97,110,110,111,116,97,116,105,111,110,115,95,95]⟩
noncomputable def z49:Str:=⟨#[95,95,98,117,105,108,116,105,110,115,95,95]⟩
noncomputable def z50:Str:=⟨#[95,95,102,105,108,101,95,95]⟩
noncomputable def z51:Str:=⟨#[47,99,108,97,105,109,47,99,117,116,46,112,121]⟩
noncomputable def z52:Str:=⟨#[95,95,99,97,99,104,101,100,95,95]⟩
noncomputable def z53:Str:=⟨#[95,119,97,108,108]⟩
noncomputable def z54:Str:=⟨#[76,105,115,112,83,105,103,110,97,108]⟩
noncomputable def z55:Str:=⟨#[110,101,101,100,95,119,114,105,116,97,98,108,101]⟩
noncomputable def z56:Str:=⟨#[110,101,101,100,95,114,111,111,109]⟩
noncomputable def z57:Str:=⟨#[114,101,97,99,104,101,100]⟩
noncomputable def z58:Str:=⟨#[116,101,108,108,95,97,104,101,97,100]⟩
noncomputable def z59:Str:=⟨#[116,101,108,108,95,98,101,104,105,110,100]⟩
noncomputable def z60:Str:=⟨#[116,101,120,116,95,111,117,116]⟩
noncomputable def z61:Str:=⟨#[116,101,120,116,95,105,110]⟩
noncomputable def z62:Str:=⟨#[104,117,110,103,95,111,117,116]⟩
noncomputable def z63:Str:=⟨#[104,117,110,103,95,105,110]⟩
noncomputable def z64:Str:=⟨#[112,117,116,95,105,110]⟩
noncomputable def z65:Str:=⟨#[105,110,115,101,114,116,95,97,116]⟩
noncomputable def z66:Str:=⟨#[114,101,112,108,97,99,101]⟩
noncomputable def z67:Str:=⟨#[105,115,95,98,108,97,110,107]⟩
noncomputable def z68:Str:=⟨#[101,110,100,115,95,115,101,110,116,101,110,99,101]⟩
noncomputable def z69:Str:=⟨#[103,97,112,95,111,102]⟩
noncomputable def z70:Str:=⟨#[112,105,101,99,101,115,95,111,102]⟩
noncomputable def z71:Str:=⟨#[109,97,121,95,98,114,101,97,107]⟩
noncomputable def z72:Str:=⟨#[114,111,119,95,101,110,100]⟩
noncomputable def z73:Str:=⟨#[114,111,119,115,95,111,102]⟩
noncomputable def z74:Str:=⟨#[114,111,119,95,119,105,100,116,104]⟩
noncomputable def z75:Str:=⟨#[114,111,119,95,99,111,100,101,115]⟩
noncomputable def z76:Str:=⟨#[111,119,110,95,103,97,112,115]⟩
noncomputable def z77:Str:=⟨#[115,112,114,101,97,100,95,103,97,112,115]⟩
noncomputable def z78:Str:=⟨#[112,108,97,99,101,100,95,114,111,119]⟩
noncomputable def z79:Str:=⟨#[99,111,108,117,109,110,95,98,101,104,105,110,100]⟩
noncomputable def z80:Str:=⟨#[99,111,108,117,109,110,95,97,116]⟩
noncomputable def z81:Str:=⟨#[114,111,119,95,99,111,108,117,109,110,115]⟩
noncomputable def z82:Str:=⟨#[115,112,108,105,116,95,114,111,119,115]⟩
noncomputable def z83:Str:=⟨#[106,111,105,110,101,100,95,114,111,119,115]⟩
noncomputable def z84:Str:=⟨#[108,101,97,100,95,111,102]⟩
noncomputable def z85:Str:=⟨#[99,111,109,109,111,110,95,115,116,97,114,116]⟩
noncomputable def z86:Str:=⟨#[105,115,95,98,108,97,110,107,95,108,101,97,100]⟩
noncomputable def z87:Str:=⟨#[108,101,97,100,115,95,111,102]⟩
noncomputable def z88:Str:=⟨#[102,105,108,108,101,100,95,112,97,114,97,103,114,97,112,104]⟩
noncomputable def z89:Str:=⟨#[102,105,108,108,101,100,95,116,101,120,116]⟩
noncomputable def z90:Str:=⟨#[108,105,110,101,95,115,116,97,114,116]⟩
noncomputable def z91:Str:=⟨#[108,105,110,101,95,101,110,100]⟩
noncomputable def z92:Str:=⟨#[119,111,114,100,95,115,112,97,110,115]⟩
noncomputable def z93:Str:=⟨#[107,101,112,116,95,119,111,114,100,115]⟩
noncomputable def z94:Str:=⟨#[110,97,114,114,111,119,101,100]⟩
noncomputable def z95:Str:=⟨#[101,100,105,116,115,95,98,101,116,119,101,101,110]⟩
noncomputable def z96:Str:=⟨#[112,117,116,95,116,101,120,116]⟩
noncomputable def z97:Str:=⟨#[102,105,108,108,95,114,101,103,105,111,110]⟩
noncomputable def z98:Str:=⟨#[105,115,95,112,97,114,116,105,110,103]⟩
noncomputable def z99:Str:=⟨#[112,97,114,97,103,114,97,112,104,95,97,116]⟩
noncomputable def sy:Str:=⟨#[102,105,108,108,95,112,97,114,97,103,114,97,112,104]⟩
noncomputable def sx:Str:=⟨#[79,112,97,113,117,101]⟩
noncomputable def sw:Str:=⟨#[115,101,116,95,109,97,114,107,101,114]⟩
noncomputable def ss:Str:=⟨#[95,108,97,119,95,100,114,97,119]⟩
noncomputable def sr:Str:=⟨#[95,108,97,119,95,105,115,95,119,111,114,100]⟩
noncomputable def sq:Str:=⟨#[95,108,97,119,95,97,104,101,97,100]⟩
noncomputable def so:Str:=⟨#[95,108,97,119,95,119,105,116,104,105,110]⟩
noncomputable def sk:Str:=⟨#[95,108,97,119,95,105,115,95,107,101,112,116]⟩
noncomputable def sj:Str:=⟨#[108,97,119]⟩
noncomputable def gI:Str:=⟨#[101,109,97,99,115,46,101,100,105,116,105,110,103]⟩
noncomputable def jn:Str:=⟨#[101,109,97,99,115,46,102,105,108,108,119,111,114,100,115]⟩
noncomputable def yI:Str:=⟨#[101,109,97,99,115,46,114,101,99,116,99,111,108,115]⟩
noncomputable def lA:Str:=⟨#[95,95,105,110,105,116,95,95]⟩
noncomputable def BC:Str:=⟨#[70,105,108,108,105,110,103,46,95,95,105,110,105,116,95,95]⟩
noncomputable def ly:Str:=⟨#[101,109,97,99,115,46,102,105,108,108,116,101,120,116]⟩
noncomputable def si:Str:=⟨#[95,95,109,111,100,117,108,101,95,95]⟩
noncomputable def sg:Str:=⟨#[95,95,102,105,114,115,116,108,105,110,101,110,111,95,95]⟩
noncomputable def sf:Str:=⟨#[95,95,115,116,97,116,105,99,95,97,116,116,114,105,98,117,116,101,115,95,95]⟩
noncomputable def wI:Str:=⟨#[95,95,100,105,99,116,95,95]⟩
noncomputable def wH:Str:=⟨#[95,95,119,101,97,107,114,101,102,95,95]⟩
noncomputable def BB:Str:=⟨#[101,109,97,99,115,46,108,105,110,101,115]⟩
noncomputable def wG:Str:=⟨#[101,109,97,99,115,46,119,111,114,100,101,100,105,116,115]⟩
noncomputable def tY:Str:=⟨#[101,109,97,99,115,46,102,105,108,108]⟩
noncomputable def Bz:Str:=⟨#[71,97,112,84,101,120,116,46,95,95,105,110,105,116,95,95]⟩
noncomputable def jm:Str:=⟨#[101,109,97,99,115,46,103,97,112]⟩
noncomputable def By:Str:=⟨#[71,97,112,84,101,120,116,46,115,105,122,101]⟩
noncomputable def Bx:Str:=⟨#[71,97,112,84,101,120,116,46,99,111,100,101]⟩
noncomputable def Bw:Str:=⟨#[71,97,112,84,101,120,116,46,99,111,100,101,115]⟩
noncomputable def Bv:Str:=⟨#[71,97,112,84,101,120,116,46,109,111,118,101,95,103,97,112]⟩
noncomputable def Bu:Str:=⟨#[71,97,112,84,101,120,116,46,119,105,100,101,110,95,103,97,112]⟩
noncomputable def Bt:Str:=⟨#[71,97,112,84,101,120,116,46,105,110,115,101,114,116]⟩
noncomputable def Bs:Str:=⟨#[71,97,112,84,101,120,116,46,100,101,108,101,116,101]⟩
noncomputable def Br:Str:=⟨#[71,97,112,84,101,120,116,46,112,117,116]⟩
noncomputable def Bq:Str:=⟨#[110,97,114,114,111,119,95,103,97,112]⟩
noncomputable def Bp:Str:=⟨#[71,97,112,84,101,120,116,46,110,97,114,114,111,119,95,103,97,112]⟩
noncomputable def Bo:Str:=⟨#[105,115,95,119,104,111,108,101]⟩
noncomputable def Bn:Str:=⟨#[71,97,112,84,101,120,116,46,105,115,95,119,104,111,108,101]⟩
noncomputable def se:Str:=⟨#[115,104,111,119,110]⟩
noncomputable def Bm:Str:=⟨#[79,112,97,113,117,101,46,115,104,111,119,110]⟩
noncomputable def wF:Str:=⟨#[101,109,97,99,115,46,111,98,106,101,99,116,115]⟩
noncomputable def sd:Str:=⟨#[107,105,110,100]⟩
noncomputable def Bl:Str:=⟨#[79,112,97,113,117,101,46,107,105,110,100]⟩
noncomputable def wE:Str:=⟨#[115,97,109,101,95,97,115]⟩
noncomputable def Bk:Str:=⟨#[79,112,97,113,117,101,46,115,97,109,101,95,97,115]⟩
noncomputable def Bj:Str:=⟨#[77,97,114,107,101,114,46,95,95,105,110,105,116,95,95]⟩
noncomputable def gH:Str:=⟨#[101,109,97,99,115,46,109,97,114,107,101,114,115]⟩
noncomputable def Bi:Str:=⟨#[77,97,114,107,101,114,46,115,104,111,119,110]⟩
noncomputable def Bh:Str:=⟨#[77,97,114,107,101,114,46,107,105,110,100]⟩
noncomputable def Bg:Str:=⟨#[77,97,114,107,101,114,46,115,97,109,101,95,97,115]⟩
noncomputable def Bf:Str:=⟨#[77,97,114,107,101,114,115,46,95,95,105,110,105,116,95,95]⟩
noncomputable def Be:Str:=⟨#[77,97,114,107,101,114,115,46,110,117,109,98,101,114,115]⟩
noncomputable def Bc:Str:=⟨#[77,97,114,107,101,114,115,46,112,117,116]⟩
noncomputable def Bb:Str:=⟨#[77,97,114,107,101,114,115,46,100,114,111,112]⟩
noncomputable def Ba:Str:=⟨#[119,105,116,104,105,110]⟩
noncomputable def A9:Str:=⟨#[77,97,114,107,101,114,115,46,119,105,116,104,105,110]⟩
noncomputable def A8:Str:=⟨#[77,97,114,107,101,114,115,46,105,110,115,101,114,116,101,100]⟩
noncomputable def A7:Str:=⟨#[77,97,114,107,101,114,115,46,100,101,108,101,116,101,100]⟩
noncomputable def A6:Str:=⟨#[77,97,114,107,101,114,115,46,114,101,112,108,97,99,101,100]⟩
noncomputable def A5:Str:=⟨#[66,117,102,102,101,114,46,95,95,105,110,105,116,95,95]⟩
noncomputable def gG:Str:=⟨#[101,109,97,99,115,46,98,117,102,102,101,114]⟩
noncomputable def A4:Str:=⟨#[66,117,102,102,101,114,46,115,104,111,119,110]⟩
noncomputable def A3:Str:=⟨#[66,117,102,102,101,114,46,107,105,110,100]⟩
noncomputable def A2:Str:=⟨#[66,117,102,102,101,114,46,98,101,103,105,110]⟩
noncomputable def A1:Str:=⟨#[66,117,102,102,101,114,46,101,110,100]⟩
noncomputable def A0:Str:=⟨#[66,117,102,102,101,114,46,115,105,122,101]⟩
noncomputable def AZ:Str:=⟨#[66,117,102,102,101,114,46,99,111,100,101,95,97,116]⟩
noncomputable def AY:Str:=⟨#[66,117,102,102,101,114,46,99,111,100,101,115]⟩
noncomputable def AX:Str:=⟨#[66,117,102,102,101,114,46,103,111,116,111]⟩
noncomputable def AW:Str:=⟨#[116,105,99,107]⟩
noncomputable def AV:Str:=⟨#[66,117,102,102,101,114,46,116,105,99,107]⟩
noncomputable def AU:Str:=⟨#[105,115,95,109,111,100,105,102,105,101,100]⟩
noncomputable def AT:Str:=⟨#[66,117,102,102,101,114,46,105,115,95,109,111,100,105,102,105,101,100]⟩
noncomputable def AS:Str:=⟨#[115,101,116,95,109,111,100,105,102,105,101,100]⟩
noncomputable def AR:Str:=⟨#[66,117,102,102,101,114,46,115,101,116,95,109,111,100,105,102,105,101,100]⟩
noncomputable def AQ:Str:=⟨#[66,117,102,102,101,114,46,116,111,117,99,104]⟩
noncomputable def iL:List Str:=[z0,z1,z2,z3,z4,z5,z6,z7,z8,z9,z10,z11,z12,z13]
noncomputable def lj:List Str:=[z14,z15,z16,z17,z18]
noncomputable def bF:List Str:=[⟨#[99,111,108,117,109,110]⟩,⟨#[119,97,121]⟩,⟨#[108,101,97,100,115]⟩,⟨#[116,97,98]⟩,⟨#[114,111,111,109]⟩,z19,⟨#[103,97,112,95,115,116,97,114,116]⟩,⟨#[103,97,112,95,101,110,100]⟩,⟨#[110,117,109,98,101,114]⟩,⟨#[97,100,118,97,110,99,101,115]⟩,⟨#[98,117,102,102,101,114]⟩,⟨#[112,111,115,105,116,105,111,110]⟩,z20,⟨#[110,97,109,101]⟩,⟨#[116,101,120,116]⟩,⟨#[109,97,114,107,101,114,115]⟩,⟨#[112,111,105,110,116]⟩,⟨#[98,101,103,118]⟩,⟨#[122,118]⟩,⟨#[109,97,114,107]⟩,⟨#[105,115,95,108,105,118,101]⟩,⟨#[105,115,95,114,101,97,100,95,111,110,108,121]⟩,⟨#[116,105,99,107,115]⟩,⟨#[99,111,100,101,115,95,116,105,99,107,115]⟩,⟨#[115,97,118,101,100,95,116,105,99,107,115]⟩,⟨#[108,105,115,116,101,110,101,114,115]⟩,⟨#[117,110,100,111]⟩,⟨#[112,114,111,112,115]⟩,⟨#[111,118,101,114,108,97,121,115]⟩,⟨#[108,111,99,97,108,115]⟩,⟨#[115,121,110,116,97,120]⟩,⟨#[102,105,108,101]⟩]
noncomputable def cZ:List Str:=[z21,z22,z23,z24,z25,z26,z27,z28,z29,z30,z31,z32,z33,z34,z35,z36,z37,z38,⟨#[98,101,102,111,114,101,95,99,104,97,110,103,101]⟩,⟨#[97,102,116,101,114,95,99,104,97,110,103,101]⟩,⟨#[116,101,120,116,95,103,111,101,115]⟩,⟨#[116,101,120,116,95,99,111,109,101,115]⟩,⟨#[116,101,120,116,95,103,111,110,101]⟩,⟨#[116,101,120,116,95,99,97,109,101]⟩,⟨#[112,117,116,95,114,111,119,115]⟩]
noncomputable def jP:List Str:=[⟨#[108,101,102,116]⟩,⟨#[102,117,108,108]⟩,⟨#[114,105,103,104,116]⟩,⟨#[99,101,110,116,101,114]⟩,⟨#[97]⟩,⟨#[98,117,102,102,101,114,45,114,101,97,100,45,111,110,108,121]⟩,⟨#[101,114,114,111,114]⟩,⟨#[77,97,120,105,109,117,109,32,98,117,102,102,101,114,32,115,105,122,101,32,101,120,99,101,101,100,101,100]⟩,⟨#[97,114,103,115,45,111,117,116,45,111,102,45,114,97,110,103,101]⟩]
noncomputable def u0:Nat→List Str
 | 19=>[⟨#[112,105,101,99,101,115]⟩]
 | 22=>[z20]
 | 24=>[z23]
 | 32=>[z20]
 | 33=>[z23]
 | 38=>[z39]
 | 39=>[z39,⟨#[112,97,114,97,103,114,97,112,104]⟩]
 | 42=>[z39]
 | 43=>[z39]
 | 45=>[z39]
 | 100=>[z39]
 | 51=>[z19]
 | 96=>[z40,z41]
 | 103=>[z40,z41]
 | _=>[]
noncomputable def wa(i:Nat):Bool:=i==32
end Mine
end
section
namespace Mine
open PySem PySem.W PyProof.Rows PySem.Spec PyProof PySem.SeqAt
structure dJ where
 fns:List (Str×Nat)
 fnA:List Addr
 clsA:List Addr
 rank:List Nat
 used:List Nat
theorem fK{α:Type}(l:List α)(d:α){i:Nat}(h:i<l.length):l.getD i d=l[i]:=by simp[List.getD,List.getElem?_eq_getElem h]
theorem vx{α:Type}(l:List α)(d:α){i:Nat}(h:l.length≤i):l.getD i d=d:=by simp[List.getD,List.getElem?_eq_none h]
theorem oY{l:List Str}(h:l.Nodup)(d:Str)(i j:Nat)(hi:i<l.length)(hj:j<l.length)(e:l.getD i d=l.getD j d):i=j:=by
 rw[fK _ _ hi,fK _ _ hj]at e
 exact(List.getElem_inj h).mp e
theorem fc{l:List Str}{x:Str}:∀{i:Nat},idx l x=some i→i<l.length∧∀d,l.getD i d=x:=by
 induction l with
 | nil=>intro i h;cases h
 | cons y l ih=>
  intro i h;have h:(if y=x then some 0 else(idx l x).map (· + 1))=some i:=h
  by_cases e:y=x
  ·rw[if_pos e]at h;cases h;exact⟨Nat.zero_lt_succ _,fun _=>e⟩
  ·rw[if_neg e]at h;obtain⟨j,hj,rfl⟩:=Option.map_eq_some_iff.mp h;exact⟨Nat.succ_lt_succ (ih hj).1,(ih hj).2⟩
theorem um{x:Str}{i:Nat}{l:List (Str×Nat)}(h:aF l x=some i):(x,i)∈l:=by
 induction l with
 | nil=>cases h
 | cons p l ih=>
  have h:(if p.1=x then some p.2 else aF l x)=some i:=h
  by_cases e:p.1=x
  ·rw[if_pos e]at h;cases h;rw[←e];exact List.mem_cons_self
  ·rw[if_neg e]at h;exact List.mem_cons_of_mem _ (ih h)
noncomputable def Cv(D:dJ):Ctx:={fns:=D.fns,globs:=iL,clss:=lj,attrs:=bF,meths:=cZ,txts:=jP,muts:=[],deep:=false,scope:=⟨.function,[],false,false,[]⟩,slots:=[],n:=0}
theorem qY:fI bF=true:=by decide+kernel
theorem sB:fI jP=true:=by decide+kernel
noncomputable def zN(D:dJ)(h0:Heap)(prog:Program)(w:World):Nm where
 attr:=fun i=>bF.getD i ⟨#[]⟩
 cls:=fun c=>D.clsA.getD c (D.clsA.headD 0)
 txt:=fun i=>jP.getD i ⟨#[]⟩
 h0:=h0
 prog:=prog
 w:=w
 ntxt:=9
 nattr:=32
 txtInj:=fun i j hi hj e=>oY (cB sB) _ i j hi hj e
 attrInj:=fun i j hi hj e=>oY (cB qY) _ i j hi hj e
noncomputable def dI(D:dJ)(K:Frag)(h0:Heap)(prog:Program)(w:World):Prg where
 N:=zN D h0 prog w
 K:=K
 T:=ai
 C0:=Cv D
 fnA:=fun i=>D.fnA.getD i 0
 mth:=fun i=>cZ.getD i ⟨#[]⟩
 rank:=fun i=>D.rank.getD i 0
theorem ofS{p:Prop}{o:Option (PLift p)}(h:o.isSome=true):p:=match o,h with|some x,_=>x.1
noncomputable def lv{α:Type}{p:α→Prop}(f:(x:α)→Option (PLift (p x))):(l:List α)→Option (PLift (∀x∈l,p x))
 | []=>some ⟨fun _ h=>by cases h⟩
 | x::l=>(f x).bind fun a=>(lv f l).map fun b=>⟨fun y h=>(List.mem_cons.mp h).elim (fun e=>e▸a.1) (b.1 y)⟩
noncomputable def xi(o:Option (Option Value))(a:Addr):Option (PLift (o=some (some (.ref a)))):=match o with
 | some (some (.ref b))=>if h:b=a then some ⟨by rw[h]⟩else none
 | _=>none
noncomputable def Dy(o:Option (Option Value))(a:String):Option (PLift (o=some (some (.builtin a)))):=match o with
 | some (some (.builtin b))=>if h:b=a then some ⟨by rw[h]⟩else none
 | _=>none
noncomputable def noS(o:Option (Option Value)):Option (PLift (o=some none)):=match o with
 | some none=>some ⟨rfl⟩
 | _=>none
noncomputable def tyS(o:Option Value)(a:String):Option (PLift (o=some (.type a))):=match o with
 | some (.type b)=>if h:b=a then some ⟨by rw[h]⟩else none
 | _=>none
structure DF(K:Frag)(a:Addr):Prop where
 get:plainGet K a ""=true
 set:findIn K (.ref a) "__setattr__"=some (some (.builtin "object.__setattr__"))
 over:plainOver K a=true
 dict:hasDictIn K a=true
 makes:makesIn K a=true
 keep:keepIn K (.ref a)=true
 field:∀x∈bF,findIn K (.ref a) x=some none
noncomputable def Dj(K:Frag)(a:Addr):Option (PLift (DF K a)):=
 (grd (plainGet K a "")).bind fun h1=>(Dy (findIn K (.ref a) "__setattr__") "object.__setattr__").bind fun h2=>(grd (plainOver K a)).bind fun h3=>(grd (hasDictIn K a)).bind fun h4=>(grd (makesIn K a)).bind fun h5=>(grd (keepIn K (.ref a))).bind fun h6=>
  (lv (fun n=>noS (findIn K (.ref a) n)) bF).map fun h7=>⟨h1.1,h2.1,h3.1,h4.1,h5.1,h6.1,h7.1⟩
noncomputable abbrev VOk(v:Value)(d:PV):Prop:=∀{N:Nm} {I:Addr→Option Obj},av N I v d
noncomputable abbrev DE(v:List Value)(d:List PV):Prop:=∀{N:Nm} {I:Addr→Option Obj},ar N I v d
noncomputable def vS(v:Value)(d:PV):Option (PLift (VOk v d)):=match v,d with
 | .none,.none=>some ⟨.none⟩
 | .bool a,.bool b=>if h:a=b then some ⟨by rw[h];exact .bool _⟩else none
 | .int i _,.int j=>if h:i=j then some ⟨by rw[h];exact .int _ _⟩else none
 | _,_=>none
noncomputable def vsS:(v:List Value)→(d:List PV)→Option (PLift (DE v d))
 | [],[]=>some ⟨.nil⟩
 | v::vs,d::ds=>(vS v d).bind fun a=>(vsS vs ds).map fun b=>⟨.cons a.1 b.1⟩
 | _,_=>none
noncomputable def GOk(K:Frag)(v:Option (Option Value))(d:PV):Prop:=∀(h0:Heap) (N:Nm),K.In h0→∃x,v=some (some x)∧av N h0.get? x d
noncomputable def Da(K:Frag)(a:Addr):Option {xs:List Value // ∀{h0:Heap},K.In h0→∃o n,h0.get? a=some o∧o.cls=.type "tuple"∧o.data=.seq xs.toArray n}:=match h:K.lookup a with
 | some ⟨.type "tuple",_,.seq xs n,_⟩=>some ⟨xs.toList,fun kin=>⟨_,n,kin _ _ h,rfl,by simp⟩⟩
 | _=>none
noncomputable def Cd(K:Frag)(v:Option (Option Value))(d:PV):Option (PLift (GOk K v d)):=match v,d with
 | some (some (.int i _)),.int j=>if h:i=j then some ⟨fun _ _ _=>⟨_,rfl,by rw[h];exact .int _ _⟩⟩else none
 | some (some (.ref a)),.tup l=>(Da K a).bind fun xs=>(vsS xs.1 l).bind fun r=>(grd (decide (xs.1.length≤5))).map fun hz=>⟨fun _ _ kin=>⟨_,rfl,by
   obtain⟨o,n,e,e1,e2⟩:=xs.2 kin;exact .tup e ⟨Nat.le_trans (of_decide_eq_true hz.1) (by decide),e1,n,e2⟩ r.1⟩⟩
 | _,_=>none
structure MOk(D:dJ)(K:Frag)(c n f:Nat):Prop where
 a:findIn K (.ref (D.clsA.getD c (D.clsA.headD 0))) (cZ.getD n ⟨#[]⟩)=some (some (.ref (D.fnA.getD f 0)))
 b:bF.contains (cZ.getD n ⟨#[]⟩)=false
 c:typeIn K (.ref (D.fnA.getD f 0))=some (.type "function")
 d:keepIn K (.ref (D.fnA.getD f 0))=true
structure IOk(D:dJ)(K:Frag)(c f:Nat):Prop where
 a:findIn K (.ref (D.clsA.getD c (D.clsA.headD 0))) "__init__"=some (some (.ref (D.fnA.getD f 0)))
 b:typeIn K (.ref (D.fnA.getD f 0))=some (.type "function")
noncomputable def BS(D:dJ)(K:Frag)(p:Nat×Nat×Nat):Option (PLift (MOk D K p.1 p.2.1 p.2.2)):=
 (xi (findIn K (.ref (D.clsA.getD p.1 (D.clsA.headD 0))) (cZ.getD p.2.1 ⟨#[]⟩)) (D.fnA.getD p.2.2 0)).bind fun h1=>(grd (!bF.contains (cZ.getD p.2.1 ⟨#[]⟩))).bind fun h2=>(tyS (typeIn K (.ref (D.fnA.getD p.2.2 0))) "function").bind fun h3=>(grd (keepIn K (.ref (D.fnA.getD p.2.2 0)))).map fun h4=>
  ⟨h1.1,(Bool.not_eq_true' _).mp h2.1,h3.1,h4.1⟩
noncomputable def B7(D:dJ)(K:Frag)(p:Nat×Nat):Option (PLift (IOk D K p.1 p.2)):=
 (xi (findIn K (.ref (D.clsA.getD p.1 (D.clsA.headD 0))) "__init__") (D.fnA.getD p.2 0)).bind fun h1=>(tyS (typeIn K (.ref (D.fnA.getD p.2 0))) "function").map fun h2=>⟨h1.1,h2.1⟩
theorem u3{c n f:Nat}(h:dq c n=some f):(c,n,f)∈m6:=by
 obtain⟨x,hx,rfl⟩:=Option.map_eq_some_iff.mp h;have h1:=List.find?_some hx;rw[Bool.and_eq_true_iff]at h1;rw[←beq_iff_eq.mp h1.1,←beq_iff_eq.mp h1.2];exact List.mem_of_find?_eq_some hx
theorem vq{c f:Nat}(h:hH c=some f):(c,f)∈ng:=by
 obtain⟨x,hx,rfl⟩:=Option.map_eq_some_iff.mp h;have h1:=List.find?_some hx;rw[←beq_iff_eq.mp h1];exact List.mem_of_find?_eq_some hx
structure FnK(K:Frag)(p:Str×Nat)(a:Addr):Prop where
 ns:nsIn K mainGlobals p.1=some (some (.ref a))
 kp:keepIn K (.ref a)=true
structure q9(D:dJ)(K:Frag):Prop where
 globs:(lv (fun i=>Cd K (nsIn K mainGlobals (iL.getD i ⟨#[]⟩)) (jF i)) (List.range 14)).isSome=true
 fns:(lv (p:=fun p:Str×Nat=>FnK K p (D.fnA.getD p.2 0)) (fun p=>(xi (nsIn K mainGlobals p.1) (D.fnA.getD p.2 0)).bind fun h=>(grd (keepIn K (.ref (D.fnA.getD p.2 0)))).map fun h'=>⟨h.1,h'.1⟩) D.fns).isSome=true
 clss:(lv (fun i=>xi (nsIn K mainGlobals (lj.getD i ⟨#[]⟩)) (D.clsA.getD i (D.clsA.headD 0))) (List.range 5)).isSome=true
 blts:(lv (fun x=>noS (nsIn K mainGlobals x)) fQ).isSome=true
 cls:(lv (Dj K) (D.clsA.headD 0::D.clsA)).isSome=true
 meth:(lv (BS D K) m6).isSome=true
 init:(lv (B7 D K) ng).isSome=true
theorem xP(D:dJ)(c:Nat):D.clsA.getD c (D.clsA.headD 0)∈D.clsA.headD 0::D.clsA:=by
 by_cases hc:c<D.clsA.length
 ·rw[fK _ _ hc];exact List.mem_cons_of_mem _ (List.getElem_mem hc)
 ·rw[vx _ _ (Nat.le_of_not_lt hc)];exact List.mem_cons_self
theorem uO{D:dJ}{K:Frag}{h0:Heap}{prog:Program}{w:World}(X:q9 D K)(kin:K.In h0)(lim:h0.NoLimit)(b:∃mb,h0.Ns builtinsNs mb∧∀x:Str,x≠"__name__"→mb x=bootBuiltins x)(g:∃mg,h0.Ns mainGlobals mg):eJ (dI D K h0 prog w) where
 attrs:=fun x i h=>⟨(fc h).1,(fc h).2 _⟩
 txts:=fun x i h=>⟨(fc h).1,(fc h).2 _⟩
 meths:=fun x i h=>(fc h).2 _
 kin:=kin
 lim:=lim
 b:=b
 g:=g
 globs:=fun x i h=>by
  have a:=fc (l:=iL) h
  have:=ofS X.globs i (List.mem_range.mpr a.1);rw[a.2]at this;exact this _ _ kin
 fns:=fun x i h=>have a:=ofS X.fns _ (um h);⟨a.ns,a.kp⟩
 clss:=fun x i h=>by
  have a:=fc (l:=lj) h
  have:=ofS X.clss i (List.mem_range.mpr a.1);rw[a.2]at this;exact this
 blts:=fun x h=>ofS X.blts x h
 cls:=fun c=>by
  have a:=ofS X.cls _ (xP D c);refine⟨a.get,a.set,a.over,a.dict,a.makes,a.keep,fun n hn=>a.field _ ?_⟩;show bF.getD n _∈bF;rw[fK _ _ hn];exact List.getElem_mem hn
 meth:=fun c n f h=>by
  have a:=ofS X.meth _ (u3 h);refine⟨a.a,fun m hm e=>?_,a.c,a.d⟩;have hm:m<bF.length:=hm;have e':bF.getD m ⟨#[]⟩=cZ.getD n ⟨#[]⟩:=e
  have:=a.b;rw[←e',fK _ _ hm,List.contains_eq_mem,decide_eq_true (List.getElem_mem hm)]at this;cases this
 init:=fun c f h=>have a:=ofS X.init _ (vq h);⟨a.a,a.b⟩
structure CZ(K:Frag)(a:Addr) where
 fd:FuncData
 body:List Stmt
 ds:List Value
 obj:∃o,K.lookup a=some o∧o.data=.func fd
 hb:fd.body=.stmts body
 hd:(fd.defaults=.none∧ds=[])∨∃T o n,fd.defaults=.ref T∧K.lookup T=some o∧o.data=.seq ds.toArray n
noncomputable def CK(fd:FuncData):Option {b:List Stmt // fd.body=.stmts b}:=match h:fd.body with
 | .stmts b=>some ⟨b,rfl⟩
 | _=>none
noncomputable def Db(K:Frag)(T:Addr):Option {ds:List Value // ∃o n,K.lookup T=some o∧o.data=.seq ds.toArray n}:=match h:K.lookup T with
 | some ⟨_,_,.seq xs n,_⟩=>some ⟨xs.toList,_,n,rfl,by simp⟩
 | _=>none
noncomputable def dsS(K:Frag)(fd:FuncData):Option {ds:List Value // (fd.defaults=.none∧ds=[])∨∃T o n,fd.defaults=.ref T∧K.lookup T=some o∧o.data=.seq ds.toArray n}:=match h:fd.defaults with
 | .none=>some ⟨[],.inl ⟨rfl,rfl⟩⟩
 | .ref T=>(Db K T).map fun x=>⟨x.1,.inr (let⟨o,n,e⟩:=x.2;⟨T,o,n,rfl,e⟩)⟩
 | _=>none
noncomputable def fdS(K:Frag)(a:Addr):Option (CZ K a):=match h:K.lookup a with
 | some ⟨_,_,.func fd,_⟩=>(CK fd).bind fun b=>(dsS K fd).map fun ds=>⟨fd,b.1,ds.1,⟨_,h,rfl⟩,b.2,ds.2⟩
 | _=>none
noncomputable def lcS(k:Option NameKind):Option (PLift (k=some .local∨k=some .cell)):=match k with
 | some .local=>some ⟨.inl rfl⟩
 | some .cell=>some ⟨.inr rfl⟩
 | _=>none
noncomputable abbrev CW(p:Str×NameKind):Prop:=p.2≠.free∧(p.1==("__debug__":Str))=false∧(p.1==("__classdict__":Str))=false
noncomputable def Cj(K:Frag)(a:Addr)(fa:lP)(x:CZ K a):Option (PLift (∀{P:Prg} {f:Nat},P.T.fn f=some fa→P.K=K→P.fnA f=a→nM P f fa x.fd x.body x.ds)):=
 (grd (x.fd.closure.isEmpty&&(x.fd.params.posonlyargs.isEmpty&&(x.fd.params.kwonlyargs.isEmpty&&(x.fd.params.vararg.isNone&&x.fd.params.kwarg.isNone))))).bind fun h1=>
 (if h:x.fd.globals=mainGlobals∧x.fd.builtins=builtinsNs∧x.fd.scope.kind=.function∧x.fd.scope.isCoroutine=false∧x.fd.scope.isGenerator=false∧codeIn K x.fd.code x.fd.qualname=true∧fa.nargs=x.fd.params.args.length∧fa.nvars=(dt x.fd.params x.fd.scope).length∧x.ds.length≤x.fd.params.args.length then some (PLift.up h)else none).bind fun h2=>
 (vsS x.ds fa.dflts).bind fun h3=>(grd (fI (x.fd.scope.names.map (·.1))&&fI (dt x.fd.params x.fd.scope))).bind fun h4=>
 (lv (fun y=>lcS (x.fd.scope.names.lookup y)) (x.fd.params.args.map (·.arg))).bind fun h5=>
 (lv (p:=CW) (fun p=>if h:CW p then some ⟨h⟩else none) x.fd.scope.names).map fun h6=>⟨fun ht hK ha=>by
  subst hK ha;obtain⟨a1,a2⟩:=Bool.and_eq_true_iff.mp h1.1;obtain⟨a2,a3⟩:=Bool.and_eq_true_iff.mp a2;obtain⟨a3,a4⟩:=Bool.and_eq_true_iff.mp a3;obtain⟨a4,a5⟩:=Bool.and_eq_true_iff.mp a4;obtain⟨b1,b2⟩:=Bool.and_eq_true_iff.mp h4.1;exact⟨ht,x.obj,x.hb,List.isEmpty_iff.mp a1,h2.1.1,h2.1.2.1,h2.1.2.2.1,h2.1.2.2.2.1,h2.1.2.2.2.2.1,h2.1.2.2.2.2.2.1,List.isEmpty_iff.mp a2,List.isEmpty_iff.mp a3,Option.isNone_iff_eq_none.mp a4,Option.isNone_iff_eq_none.mp a5,h2.1.2.2.2.2.2.2.1,h2.1.2.2.2.2.2.2.2.1,x.hd,fun I=>h3.1,h2.1.2.2.2.2.2.2.2.2,cB b1,cB b2,h5.1,fun y k hy=>h6.1 _ (mem_of_lookup hy)⟩⟩
noncomputable def fnC(w:Wd)(D:dJ)(K:Frag)(f:Nat):Option (Option (List MS)):=(fdS K (D.fnA.getD f 0)).map fun x=>(wf w 40 ((je (Cv D) x.fd).with (u0 f) (wa f)) x.body).map (·.1)
noncomputable def fnF(D:dJ)(K:Frag)(f:Nat):Bool:=match jd f,fdS K (D.fnA.getD f 0)with
 | some fa,some x=>(Cj K _ fa x).isSome
 | _,_=>false
structure pL(D:dJ)(K:Frag):Prop where
 ok:D.used.all (fnF D K)=true
 comp:∀w:Wd,(D.used.map (fnC w D K))=D.used.map fun f=>some ((jd f).map (·.body))
theorem Cf{D:dJ}{K:Frag}{h0:Heap}{prog:Program}{w:World}(X:pL D K){f:Nat}(h:f∈D.used):∃a,jd f=some a∧wB (dI D K h0 prog w) f a:=by
 have h1:=List.all_eq_true.mp X.ok f h;unfold fnF at h1;cases ht:jd f with
 | none=>rw[ht]at h1;cases h1
 | some fa=>
  cases hx:fdS K (D.fnA.getD f 0)with
  | none=>rw[ht,hx]at h1;cases h1
  | some x=>
   rw[ht,hx]at h1;refine⟨fa,rfl,.mk (m:=u0 f) (d:=wa f) (ofS h1 ht rfl rfl) fun w hw=>?_⟩;have h2:=List.map_inj_left.mp (X.comp w) f h;unfold fnC at h2;rw[hx,ht]at h2;exact xO w (Option.some.inj h2)
end Mine
end
section
open PySem PySem.W PyProof.Rows
namespace Mine
noncomputable def qc(ok:Nat→Option Value→Thread→Bool)(st:(Code→Sem Fin)→Program→World→SharedT→Thread→Option (SharedT×Thread))(den:(String→Option Builtin)→Code→Sem Fin)
  (tb:String→Option Builtin) (p:Program) (w:World) (n₀:Nat) (ann:Option Value):Nat→SharedT→Thread→Option SharedT
 | 0,_,_=>none
 | n+1,s,t=>match through t with
  | true=>some s
  | false=>match ok n₀ ann t with
   | false=>none
   | true=>match st (den tb) p w s t with
    | some (s',t')=>qc ok st den tb p w n₀ ann n s' t'
    | none=>none
theorem lY{tb:String→Option Builtin}{p:Program}{w:World}{n₀:Nat}{ann:Option Value}:∀{n:Nat} {s s':SharedT} {t:Thread},
  qc stepOk stepT denote tb p w n₀ ann n s t=some s'→topRun tb p w n₀ ann n s.abs t=some s'.abs
 | 0,_,_,_,h=>by cases h
 | n+1,s,s',t,h=>by
  unfold qc at h;unfold topRun;cases ht:through t with
  | true=>rw[ht]at h;cases h;rfl
  | false=>
   rw[ht]at h;cases hk:stepOk n₀ ann t with
   | false=>rw[hk]at h;cases h
   | true=>
    rw[hk]at h;cases hs:stepT (denote tb) p w s t with
    | none=>rw[hs]at h;cases h
    | some r=>obtain⟨s₂,t₂⟩:=r;rw[hs]at h;rw[stepT_spec hs];exact lY h
noncomputable def S0(w:World)(os:OsState):SharedT:=
  { tree:=.node (boot_o_0 w.params)
      (.node (boot_o_1 w.params) (.node (boot_o_3 w.params) (.node (boot_o_7 w.params) .nil .nil) .nil) (.node (boot_o_5 w.params) (.node (boot_o_9 w.params) .nil .nil) .nil))
      (.node (boot_o_2 w.params) (.node (boot_o_4 w.params) (.node (boot_o_8 w.params) .nil .nil) .nil) (.node (boot_o_6 w.params) (.node (boot_o_10 w.params) .nil .nil) .nil))
    n:=11,life:=(boot_heap w.params).life,gens:=#[],drawn:=boot_drawn,toks:=boot_toks,os:=os}
theorem AN(w:World)(os:OsState):(S0 w os).abs=⟨boot_heap w.params,#[],boot_drawn,boot_toks,os⟩:=by rfl
theorem u8{p q:Program}{loose:List Str}{Xt:Shared→Bool}{α:Type}{Yf:Shared→α}{Ya:World→α}{N:Nat}{ann:Option Value}
    (open_:∀w:World,(fencedOpening treeTable p w N).map (fun s=>(s.heap,s.gens,s.drawn,s.toks))=some (boot_heap w.params,#[],boot_drawn,boot_toks))
    (size:∀w:World,((boot_heap w.params).isNs mainGlobals,(boot_heap w.params).nsMap mainGlobals "__annotations__",(boot_heap w.params).objs.size)=(true,ann,11))
    (run:∀w:World,(fun os:OsState=>(qc stepOk stepT denote treeTable p w 11 ann N (S0 w os) (topStub p)).map fun s=>
      ((staticsOk (importedModules p.main.body) (boot_heap w.params) s.abs.heap&&namesBound p s.abs.heap&&gensDone s.abs&&laidKept (boot_heap w.params) s.abs.heap,
       openSeen q loose (importedModules p.main.body) Xt true s.abs),Yf s.abs))=fun _=>some ((true,openGood q loose),Ya w)):LeftO p q loose Xt Yf Ya N:=fun w=>by
  obtain⟨⟨h,gs,d,k,os⟩,e,e'⟩:=Option.map_eq_some_iff.mp (open_ w);obtain⟨rfl,rfl,rfl,rfl⟩:h=boot_heap w.params∧gs= #[]∧d=boot_drawn∧k=boot_toks:=by simpa using e'
  obtain⟨z1,z2,z3⟩:_∧_∧_:=by simpa only[Prod.mk.injEq]using size w
  obtain⟨s,hs,hl⟩:=Option.map_eq_some_iff.mp (congrFun (run w) os);obtain⟨⟨l1,l2⟩,l3⟩:(_∧_)∧_:=by simpa only[Prod.mk.injEq]using hl
  have r:=lY hs;rw[AN]at r;have t:topFrom treeTable p w N ⟨boot_heap w.params,#[],boot_drawn,boot_toks,os⟩=some s.abs:=by
    unfold topFrom;dsimp only;rw[z1,z2,z3,r]
    show(match staticsOk (importedModules p.main.body) (boot_heap w.params) s.abs.heap&&namesBound p s.abs.heap&&gensDone s.abs&&laidKept (boot_heap w.params) s.abs.heap with|true=>_|false=>_)=_;rw[l1]
  unfold openEnds;rw[e]
  show(topFrom treeTable p w N _).map _=_;rw[t];exact congrArg some (Prod.ext l2 l3)
noncomputable def fnO(sFn:String)(st:Stmt)(qual:Str)(pm:Value)(code:Addr)(dV:Value):Obj:=match st with
 | .FunctionDef name args body _ _ _ scope _ _ _=>⟨.type sFn,none,.func {name,qualname:=qual,params:=args,body:=.stmts body,scope,globals:=mainGlobals,closure:=[],defaults:=dV,kwdefaults:=.none,doc:=.none,pyModule:=pm,annotations:=none,code:=.ref code,closureTuple:=.none,builtins:=builtinsNs},#[]⟩
 | _=>default
noncomputable def zM:List Stmt→Nat→Stmt
 | [],_=>.Pass ⟨0,0,0,0⟩
 | x::_,0=>x
 | _::r,n+1=>zM r n
noncomputable def yr:Nat→List Stmt→List Stmt
 | 0,l=>l
 | _,[]=>[]
 | n+1,_::r=>yr n r
noncomputable def ud(p:Program)(i:Nat):Stmt:=zM p.main.body i
noncomputable def yh(p:Program)(i j:Nat):Stmt:=match ud p i with
 | .ClassDef _ _ _ body _ _ _ _ _ _ _=>zM body j
 | s=>s
noncomputable def kE(P:Params)(n:Str)(i:Nat)(v:Value):DictEntry:=⟨PyData.keyHash P n,.str n i,v⟩
noncomputable def cO(s:String)(n:Str)(a:Nat)(q:Str)(b c:Nat)(i j k l m:Int)(r1:Nat)(o:Int)(r2 r3 r4 r5:Nat)(t u:Int)(d:Nat):Obj:=⟨.type s,none,.fields #[.str n a,.str q b,.str z51 c,.int i 0,.int j 0,.int k 0,.int l 0,.int m 0,.ref r1,.bool true,.int o 0,.ref r2,.none,.ref r3,.ref r4,.ref r5,.int t 0,.int u 0,.str z51 d],#[]⟩
set_option maxRecDepth 100000 in
noncomputable def KG(sCode sDict sType sObj sNew sTup sLd sFn:String)(stm:Nat→Stmt)(mth:Nat→Nat→Stmt)(P:Params):Frag:=
 let fS (i:Nat) (q n:Str) (k a:Nat) (d:Value):Obj:=fnO sFn (stm i) q (.str n k) a d
 let fM (i j:Nat) (q n:Str) (k a:Nat) (d:Value):Obj:=fnO sFn (mth i j) q (.str n k) a d
 [
 (3,⟨.type sDict,none,.dict #[kE P z42 165 (.str z43 1274),kE P z44 166 .none,kE P z45 167 .none,kE P z46 168 (.builtin sLd),kE P z47 169 .none,kE P z48 170 (.ref 6),kE P z49 171 (.ref 4),kE P z50 173 (.str z51 172),kE P z52 174 .none,kE P z53 193 (.ref 21),kE P z54 226 (.ref 38),kE P z0 232 (.int (4194304) 231),kE P z55 239 (.ref 48),kE P z56 247 (.ref 55),kE P z57 258 (.ref 62),kE P z58 268 (.ref 69),kE P z59 279 (.ref 76),kE P z60 289 (.ref 83),kE P z61 298 (.ref 90),kE P z62 307 (.ref 97),kE P z63 317 (.ref 104),kE P z64 328 (.ref 111),kE P z65 338 (.ref 119),kE P z26 347 (.ref 127),kE P z27 359 (.ref 134),kE P z66 374 (.ref 142),kE P z1 378 (.int (32) 377),kE P z2 380 (.int (9) 379),kE P z3 382 (.int (10) 381),kE P z4 384 (.int (46) 383),kE P z5 388 (.ref 143),kE P z6 394 (.ref 144),kE P z67 401 (.ref 151),kE P z68 409 (.ref 158),kE P z69 417 (.ref 165),kE P z70 428 (.ref 172),kE P z71 437 (.ref 179),kE P z72 451 (.ref 186),kE P z73 463 (.ref 193),kE P z74 473 (.ref 200),kE P z75 483 (.ref 207),kE P z76 489 (.ref 212),kE P z77 495 (.ref 217),kE P z78 507 (.ref 224),kE P z7 511 (.int (9) 510),kE P z79 520 (.ref 231),kE P z80 531 (.ref 238),kE P z81 539 (.ref 245),kE P z8 543 (.int (32) 542),kE P z9 545 (.int (9) 544),kE P z10 547 (.int (10) 546),kE P z14 582 (.ref 262),kE P z82 591 (.ref 273),kE P z83 600 (.ref 280),kE P z84 609 (.ref 287),kE P z85 618 (.ref 294),kE P z86 626 (.ref 301),kE P z87 637 (.ref 308),kE P z88 656 (.ref 315),kE P z89 667 (.ref 322),kE P z11 671 (.int (10) 670),kE P z90 680 (.ref 329),kE P z91 689 (.ref 336),kE P z12 695 (.ref 337),kE P z13 697 (.int (4) 696),kE P z92 707 (.ref 344),kE P z93 721 (.ref 351),kE P z94 733 (.ref 358),kE P z95 748 (.ref 365),kE P z96 764 (.ref 372),kE P z97 776 (.ref 379),kE P z98 786 (.ref 386),kE P z99 798 (.ref 393),kE P sy 808 (.ref 400),kE P z15 928 (.ref 487),kE P sx 972 (.ref 522),kE P z16 1025 (.ref 564),kE P z17 1123 (.ref 632),kE P z18 1262 (.ref 738),kE P sw 1273 (.ref 747),kE P ss 1283 (.ref 754),kE P sr 1290 (.ref 761),kE P sq 1296 (.ref 766),kE P so 1304 (.ref 773),kE P sk 1310 (.ref 778),kE P sj 1316 (.ref 783)] 86,#[]⟩),
 (20,cO sCode z53 187 z53 188 189 1 1 0 0 3 15 181 16 17 18 19 191 1 192),
 (21,fnO sFn (stm 0) z53 (.str ⟨#[95,95,109,97,105,110,95,95]⟩ 164) 20 .none),
 (47,cO sCode z55 233 z55 234 235 12 1 0 0 3 42 181 43 44 45 46 237 12 238),
 (48,fS 5 z55 gI 227 47 .none),
 (54,cO sCode z56 240 z56 241 242 15 2 0 0 3 49 181 50 51 52 53 245 15 246),
 (55,fS 6 z56 gI 227 54 .none),
 (61,cO sCode z57 248 z57 249 250 18 3 0 0 3 56 181 57 58 59 60 256 18 257),
 (62,fS 7 z57 gI 227 61 .none),
 (68,cO sCode z58 259 z58 260 261 23 3 0 0 3 63 181 64 65 66 67 266 23 267),
 (69,fS 8 z58 gI 227 68 .none),
 (75,cO sCode z59 269 z59 270 271 26 4 0 0 3 70 181 71 72 73 74 277 26 278),
 (76,fS 9 z59 gI 227 75 .none),
 (82,cO sCode z60 280 z60 281 282 30 3 0 0 3 77 181 78 79 80 81 287 30 288),
 (83,fS 10 z60 gI 227 82 .none),
 (89,cO sCode z61 290 z61 291 292 38 3 0 0 3 84 181 85 86 87 88 296 38 297),
 (90,fS 11 z61 gI 227 89 .none),
 (96,cO sCode z62 299 z62 300 301 45 3 0 0 3 91 181 92 93 94 95 305 45 306),
 (97,fS 12 z62 gI 227 96 .none),
 (103,cO sCode z63 308 z63 309 310 50 4 0 0 3 98 181 99 100 101 102 315 50 316),
 (104,fS 13 z63 gI 227 103 .none),
 (110,cO sCode z64 318 z64 319 320 55 5 0 0 3 105 181 106 107 108 109 326 55 327),
 (111,fS 14 z64 gI 227 110 .none),
 (112,⟨.type sTup,none,.seq #[.bool false] 0,#[]⟩),
 (118,cO sCode z65 329 z65 330 331 68 4 0 0 3 113 181 114 115 116 117 336 68 337),
 (119,fS 15 z65 gI 227 118 (.ref 112)),
 (120,⟨.type sTup,none,.seq #[.bool false] 0,#[]⟩),
 (126,cO sCode z26 339 z26 340 341 70 3 0 0 3 121 181 122 123 124 125 345 70 346),
 (127,fS 16 z26 gI 227 126 (.ref 120)),
 (133,cO sCode z27 348 z27 349 350 72 3 0 0 3 128 181 129 130 131 132 357 72 358),
 (134,fS 17 z27 gI 227 133 .none),
 (135,⟨.type sTup,none,.seq #[.none] 0,#[]⟩),
 (141,cO sCode z66 360 z66 361 362 83 5 0 0 3 136 181 137 138 139 140 372 83 373),
 (142,fS 18 z66 gI 227 141 (.ref 135)),
 (143,⟨.type sTup,none,.seq #[.int (33) 385,.int (46) 386,.int (63) 387] 0,#[]⟩),
 (144,⟨.type sTup,none,.seq #[.int (34) 389,.int (39) 390,.int (41) 391,.int (93) 392,.int (125) 393] 0,#[]⟩),
 (150,cO sCode z67 395 z67 396 397 112 1 0 0 3 145 181 146 147 148 149 399 112 400),
 (151,fS 26 z67 jn 375 150 .none),
 (157,cO sCode z68 402 z68 403 404 114 1 0 0 3 152 181 153 154 155 156 407 114 408),
 (158,fS 27 z68 jn 375 157 .none),
 (164,cO sCode z69 410 z69 411 412 119 2 0 0 3 159 181 160 161 162 163 415 119 416),
 (165,fS 28 z69 jn 375 164 .none),
 (171,cO sCode z70 418 z70 419 420 123 1 0 0 3 166 181 167 168 169 170 426 123 427),
 (172,fS 29 z70 jn 375 171 .none),
 (178,cO sCode z71 429 z71 430 431 138 1 0 0 3 173 181 174 175 176 177 435 138 436),
 (179,fS 30 z71 jn 375 178 .none),
 (185,cO sCode z72 438 z72 439 440 141 3 0 0 3 180 181 181 182 183 184 449 141 450),
 (186,fS 31 z72 jn 375 185 .none),
 (192,cO sCode z73 452 z73 453 454 157 3 0 0 3 187 181 188 189 190 191 461 157 462),
 (193,fS 32 z73 jn 375 192 .none),
 (199,cO sCode z74 464 z74 465 466 165 1 0 0 3 194 181 195 196 197 198 471 165 472),
 (200,fS 33 z74 jn 375 199 .none),
 (206,cO sCode z75 474 z75 475 476 170 2 0 0 3 201 181 202 203 204 205 481 170 482),
 (207,fS 34 z75 jn 375 206 .none),
 (211,⟨.type sCode,none,.fields #[.str z76 484,.str z76 485,.str z51 486,.int (177) 0,.int (1) 0,.int (0) 0,.int (0) 0,.int (3) 0,.ref 208,.bool true,.int (181) 0,.ref 209,.none,.none,.none,.ref 210,.int (487) 0,.int (177) 0,.str z51 488],#[]⟩),
 (212,fS 35 z76 jn 375 211 .none),
 (216,⟨.type sCode,none,.fields #[.str z77 490,.str z77 491,.str z51 492,.int (179) 0,.int (2) 0,.int (0) 0,.int (0) 0,.int (3) 0,.ref 213,.bool true,.int (181) 0,.ref 214,.none,.none,.none,.ref 215,.int (493) 0,.int (179) 0,.str z51 494],#[]⟩),
 (217,fS 36 z77 jn 375 216 .none),
 (223,cO sCode z78 496 z78 497 498 188 4 0 0 3 218 181 219 220 221 222 505 188 506),
 (224,fS 37 z78 jn 375 223 .none),
 (230,cO sCode z79 512 z79 513 514 200 3 0 0 3 225 181 226 227 228 229 518 200 519),
 (231,fS 40 z79 yI 508 230 .none),
 (237,cO sCode z80 521 z80 522 523 202 3 0 0 3 232 181 233 234 235 236 529 202 530),
 (238,fS 41 z80 yI 508 237 .none),
 (244,cO sCode z81 532 z81 533 534 207 2 0 0 3 239 181 240 241 242 243 537 207 538),
 (245,fS 42 z81 yI 508 244 .none),
 (258,cO sCode lA 560 BC 561 562 215 5 0 0 3 253 181 254 255 256 257 568 215 569),
 (259,fM 47 0 BC ly 540 258 .none),
 (261,⟨.type sDict,none,.dict #[kE P si 555 (.str ly 540),kE P sg 559 (.int (213) 558),kE P lA 570 (.ref 259),kE P sf 575 (.ref 260),kE P wI 577 (.ref 263),kE P wH 579 (.ref 264),kE P z44 580 .none] 4,#[]⟩),
 (262,⟨.type sType,none,.cls ⟨z14,[.type sObj],[.ref 262,.type sObj],261,z14,true,[],[],false,none,false⟩,#[none,none,some (.str z14 548),some (.str z14 556),some (.builtin sNew),some (.bool true)]⟩),
 (272,cO sCode z82 583 z82 584 585 220 1 0 0 3 267 181 268 269 270 271 589 220 590),
 (273,fS 48 z82 ly 540 272 .none),
 (279,cO sCode z83 592 z83 593 594 228 1 0 0 3 274 181 275 276 277 278 598 228 599),
 (280,fS 49 z83 ly 540 279 .none),
 (286,cO sCode z84 601 z84 602 603 235 2 0 0 3 281 181 282 283 284 285 607 235 608),
 (287,fS 50 z84 ly 540 286 .none),
 (293,cO sCode z85 610 z85 611 612 240 2 0 0 3 288 181 289 290 291 292 616 240 617),
 (294,fS 51 z85 ly 540 293 .none),
 (300,cO sCode z86 619 z86 620 621 245 1 0 0 3 295 181 296 297 298 299 624 245 625),
 (301,fS 52 z86 ly 540 300 .none),
 (307,cO sCode z87 627 z87 628 629 250 2 0 0 3 302 181 303 304 305 306 635 250 636),
 (308,fS 53 z87 ly 540 307 .none),
 (314,cO sCode z88 638 z88 639 640 258 2 0 0 3 309 181 310 311 312 313 654 258 655),
 (315,fS 54 z88 ly 540 314 .none),
 (321,cO sCode z89 657 z89 658 659 272 2 0 0 3 316 181 317 318 319 320 665 272 666),
 (322,fS 55 z89 ly 540 321 .none),
 (328,cO sCode z90 672 z90 673 674 288 2 0 0 3 323 181 324 325 326 327 678 288 679),
 (329,fS 58 z90 BB 668 328 .none),
 (335,cO sCode z91 681 z91 682 683 293 2 0 0 3 330 181 331 332 333 334 687 293 688),
 (336,fS 59 z91 BB 668 335 .none),
 (337,⟨.type sTup,none,.seq #[.int (9) 692,.int (10) 693,.int (32) 694] 0,#[]⟩),
 (343,cO sCode z92 698 z92 699 700 301 1 0 0 3 338 181 339 340 341 342 705 301 706),
 (344,fS 63 z92 wG 690 343 .none),
 (350,cO sCode z93 708 z93 709 710 313 2 0 0 3 345 181 346 347 348 349 719 313 720),
 (351,fS 64 z93 wG 690 350 .none),
 (357,cO sCode z94 722 z94 723 724 325 4 0 0 3 352 181 353 354 355 356 731 325 732),
 (358,fS 65 z94 wG 690 357 .none),
 (364,cO sCode z95 734 z95 735 736 333 2 0 0 3 359 181 360 361 362 363 746 333 747),
 (365,fS 66 z95 wG 690 364 .none),
 (371,cO sCode z96 751 z96 752 753 344 4 0 0 3 366 181 367 368 369 370 762 344 763),
 (372,fS 68 z96 tY 749 371 .none),
 (378,cO sCode z97 765 z97 766 767 349 4 0 0 3 373 181 374 375 376 377 774 349 775),
 (379,fS 69 z97 tY 749 378 .none),
 (385,cO sCode z98 777 z98 778 779 353 3 0 0 3 380 181 381 382 383 384 784 353 785),
 (386,fS 70 z98 tY 749 385 .none),
 (392,cO sCode z99 787 z99 788 789 356 3 0 0 3 387 181 388 389 390 391 796 356 797),
 (393,fS 71 z99 tY 749 392 .none),
 (399,cO sCode sy 799 sy 800 801 369 2 0 0 3 394 181 395 396 397 398 806 369 807),
 (400,fS 72 sy tY 749 399 .none),
 (413,cO sCode lA 823 Bz 824 825 377 3 0 0 3 408 181 409 410 411 412 829 377 830),
 (414,fM 74 0 Bz jm 809 413 .none),
 (420,cO sCode z21 832 By 833 834 383 1 0 0 3 415 181 416 417 418 419 836 383 837),
 (421,fM 74 1 By jm 809 420 .none),
 (427,cO sCode z22 839 Bx 840 841 386 2 0 0 3 422 181 423 424 425 426 844 386 845),
 (428,fM 74 2 Bx jm 809 427 .none),
 (434,cO sCode z23 847 Bw 848 849 391 3 0 0 3 429 181 430 431 432 433 854 391 855),
 (435,fM 74 3 Bw jm 809 434 .none),
 (441,cO sCode z24 857 Bv 858 859 399 2 0 0 3 436 181 437 438 439 440 863 399 864),
 (442,fM 74 4 Bv jm 809 441 .none),
 (448,cO sCode z25 866 Bu 867 868 410 2 0 0 3 443 181 444 445 446 447 872 410 873),
 (449,fM 74 5 Bu jm 809 448 .none),
 (455,cO sCode z26 875 Bt 876 877 416 3 0 0 3 450 181 451 452 453 454 881 416 882),
 (456,fM 74 6 Bt jm 809 455 .none),
 (462,cO sCode z27 884 Bs 885 886 422 3 0 0 3 457 181 458 459 460 461 891 422 892),
 (463,fM 74 7 Bs jm 809 462 .none),
 (469,cO sCode z28 894 Br 895 896 432 3 0 0 3 464 181 465 466 467 468 900 432 901),
 (470,fM 74 8 Br jm 809 469 .none),
 (476,cO sCode Bq 903 Bp 904 905 435 1 0 0 3 471 181 472 473 474 475 907 435 908),
 (477,fM 74 9 Bp jm 809 476 .none),
 (483,cO sCode Bo 910 Bn 911 912 438 1 0 0 3 478 181 479 480 481 482 914 438 915),
 (484,fM 74 10 Bn jm 809 483 .none),
 (486,⟨.type sDict,none,.dict #[kE P si 818 (.str jm 809),kE P sg 822 (.int (375) 821),kE P lA 831 (.ref 414),kE P z21 838 (.ref 421),kE P z22 846 (.ref 428),kE P z23 856 (.ref 435),kE P z24 865 (.ref 442),kE P z25 874 (.ref 449),kE P z26 883 (.ref 456),kE P z27 893 (.ref 463),kE P z28 902 (.ref 470),kE P Bq 909 (.ref 477),kE P Bo 916 (.ref 484),kE P sf 921 (.ref 485),kE P wI 923 (.ref 488),kE P wH 925 (.ref 489),kE P z44 926 .none] 4,#[]⟩),
 (487,⟨.type sType,none,.cls ⟨z15,[.type sObj],[.ref 487,.type sObj],486,z15,true,[],[],false,none,false⟩,#[none,none,some (.str z15 811),some (.str z15 819),some (.builtin sNew),some (.bool true)]⟩),
 (504,cO sCode se 943 Bm 944 945 443 1 0 0 3 499 181 500 501 502 503 947 443 948),
 (505,fM 76 0 Bm wF 929 504 .none),
 (511,cO sCode sd 950 Bl 951 952 446 1 0 0 3 506 181 507 508 509 510 954 446 955),
 (512,fM 76 1 Bl wF 929 511 .none),
 (518,cO sCode wE 957 Bk 958 959 449 2 0 0 3 513 181 514 515 516 517 962 449 963),
 (519,fM 76 2 Bk wF 929 518 .none),
 (521,⟨.type sDict,none,.dict #[kE P si 938 (.str wF 929),kE P sg 942 (.int (441) 941),kE P se 949 (.ref 505),kE P sd 956 (.ref 512),kE P wE 964 (.ref 519),kE P sf 965 (.ref 520),kE P wI 967 (.ref 523),kE P wH 969 (.ref 524),kE P z44 970 .none] 4,#[]⟩),
 (522,⟨.type sType,none,.cls ⟨sx,[.type sObj],[.ref 522,.type sObj],521,sx,true,[],[.ref 564,.ref 738],false,none,false⟩,#[none,none,some (.str sx 931),some (.str sx 939),some (.builtin sNew),some (.bool true)]⟩),
 (539,cO sCode lA 987 Bj 988 989 454 3 0 0 3 534 181 535 536 537 538 993 454 994),
 (540,fM 78 0 Bj gH 973 539 .none),
 (546,cO sCode se 996 Bi 997 998 460 1 0 0 3 541 181 542 543 544 545 1000 460 1001),
 (547,fM 78 1 Bi gH 973 546 .none),
 (553,cO sCode sd 1003 Bh 1004 1005 463 1 0 0 3 548 181 549 550 551 552 1007 463 1008),
 (554,fM 78 2 Bh gH 973 553 .none),
 (560,cO sCode wE 1010 Bg 1011 1012 466 2 0 0 3 555 181 556 557 558 559 1015 466 1016),
 (561,fM 78 3 Bg gH 973 560 .none),
 (563,⟨.type sDict,none,.dict #[kE P si 982 (.str gH 973),kE P sg 986 (.int (452) 985),kE P lA 995 (.ref 540),kE P se 1002 (.ref 547),kE P sd 1009 (.ref 554),kE P wE 1017 (.ref 561),kE P sf 1022 (.ref 562),kE P z44 1023 .none] 2,#[]⟩),
 (564,⟨.type sType,none,.cls ⟨z16,[.ref 522],[.ref 564,.ref 522,.type sObj],563,z16,true,[],[],false,none,false⟩,#[some (.ref 527),none,some (.str z16 975),some (.str z16 983),some (.builtin sNew),some (.bool true)]⟩),
 (579,cO sCode lA 1038 Bf 1039 1040 470 1 0 0 3 574 181 575 576 577 578 1042 470 1043),
 (580,fM 79 0 Bf gH 973 579 .none),
 (586,cO sCode z29 1045 Be 1046 1047 473 1 0 0 3 581 181 582 583 584 585 1049 473 1050),
 (587,fM 79 1 Be gH 973 586 .none),
 (593,cO sCode z28 1052 Bc 1053 1054 476 3 0 0 3 588 181 589 590 591 592 1058 476 1059),
 (594,fM 79 2 Bc gH 973 593 .none),
 (600,cO sCode z30 1061 Bb 1062 1063 480 2 0 0 3 595 181 596 597 598 599 1066 480 1067),
 (601,fM 79 3 Bb gH 973 600 .none),
 (607,cO sCode Ba 1069 A9 1070 1071 484 3 0 0 3 602 181 603 604 605 606 1077 484 1078),
 (608,fM 79 4 A9 gH 973 607 .none),
 (614,cO sCode z31 1080 A8 1081 1082 491 4 0 0 3 609 181 610 611 612 613 1089 491 1090),
 (615,fM 79 5 A8 gH 973 614 .none),
 (621,cO sCode z32 1092 A7 1093 1094 497 3 0 0 3 616 181 617 618 619 620 1100 497 1101),
 (622,fM 79 6 A7 gH 973 621 .none),
 (628,cO sCode z33 1103 A6 1104 1105 505 4 0 0 3 623 181 624 625 626 627 1112 505 1113),
 (629,fM 79 7 A6 gH 973 628 .none),
 (631,⟨.type sDict,none,.dict #[kE P si 1033 (.str gH 973),kE P sg 1037 (.int (468) 1036),kE P lA 1044 (.ref 580),kE P z29 1051 (.ref 587),kE P z28 1060 (.ref 594),kE P z30 1068 (.ref 601),kE P Ba 1079 (.ref 608),kE P z31 1091 (.ref 615),kE P z32 1102 (.ref 622),kE P z33 1114 (.ref 629),kE P sf 1116 (.ref 630),kE P wI 1118 (.ref 633),kE P wH 1120 (.ref 634),kE P z44 1121 .none] 4,#[]⟩),
 (632,⟨.type sType,none,.cls ⟨z17,[.type sObj],[.ref 632,.type sObj],631,z17,true,[],[],false,none,false⟩,#[none,none,some (.str z17 1026),some (.str z17 1034),some (.builtin sNew),some (.bool true)]⟩),
 (644,⟨.type sTup,none,.seq #[.int (8) 1138] 0,#[]⟩),
 (650,cO sCode lA 1139 A5 1140 1141 515 4 0 0 3 645 181 646 647 648 649 1146 515 1147),
 (651,fM 81 0 A5 gG 1124 650 (.ref 644)),
 (657,cO sCode se 1149 A4 1150 1151 537 1 0 0 3 652 181 653 654 655 656 1153 537 1154),
 (658,fM 81 1 A4 gG 1124 657 .none),
 (664,cO sCode sd 1156 A3 1157 1158 540 1 0 0 3 659 181 660 661 662 663 1160 540 1161),
 (665,fM 81 2 A3 gG 1124 664 .none),
 (671,cO sCode z34 1163 A2 1164 1165 543 1 0 0 3 666 181 667 668 669 670 1167 543 1168),
 (672,fM 81 3 A2 gG 1124 671 .none),
 (678,cO sCode z35 1170 A1 1171 1172 546 1 0 0 3 673 181 674 675 676 677 1174 546 1175),
 (679,fM 81 4 A1 gG 1124 678 .none),
 (685,cO sCode z21 1177 A0 1178 1179 549 1 0 0 3 680 181 681 682 683 684 1181 549 1182),
 (686,fM 81 5 A0 gG 1124 685 .none),
 (692,cO sCode z36 1184 AZ 1185 1186 552 2 0 0 3 687 181 688 689 690 691 1189 552 1190),
 (693,fM 81 6 AZ gG 1124 692 .none),
 (699,cO sCode z23 1192 AY 1193 1194 557 3 0 0 3 694 181 695 696 697 698 1198 557 1199),
 (700,fM 81 7 AY gG 1124 699 .none),
 (706,cO sCode z37 1201 AX 1202 1203 560 2 0 0 3 701 181 702 703 704 705 1206 560 1207),
 (707,fM 81 8 AX gG 1124 706 .none),
 (713,cO sCode AW 1209 AV 1210 1211 563 1 0 0 3 708 181 709 710 711 712 1213 563 1214),
 (714,fM 81 9 AV gG 1124 713 .none),
 (720,cO sCode AU 1216 AT 1217 1218 566 1 0 0 3 715 181 716 717 718 719 1220 566 1221),
 (721,fM 81 10 AT gG 1124 720 .none),
 (727,cO sCode AS 1223 AR 1224 1225 569 2 0 0 3 722 181 723 724 725 726 1228 569 1229),
 (728,fM 81 11 AR gG 1124 727 .none),
 (734,cO sCode z38 1231 AQ 1232 1233 572 2 0 0 3 729 181 730 731 732 733 1236 572 1237),
 (735,fM 81 12 AQ gG 1124 734 .none),
 (737,⟨.type sDict,none,.dict #[kE P si 1133 (.str gG 1124),kE P sg 1137 (.int (513) 1136),kE P lA 1148 (.ref 651),kE P se 1155 (.ref 658),kE P sd 1162 (.ref 665),kE P z34 1169 (.ref 672),kE P z35 1176 (.ref 679),kE P z21 1183 (.ref 686),kE P z36 1191 (.ref 693),kE P z23 1200 (.ref 700),kE P z37 1208 (.ref 707),kE P AW 1215 (.ref 714),kE P AU 1222 (.ref 721),kE P AS 1230 (.ref 728),kE P z38 1238 (.ref 735),kE P sf 1259 (.ref 736),kE P z44 1260 .none] 2,#[]⟩),
 (738,⟨.type sType,none,.cls ⟨z18,[.ref 522],[.ref 738,.ref 522,.type sObj],737,z18,true,[],[],false,none,false⟩,#[some (.ref 637),none,some (.str z18 1126),some (.str z18 1134),some (.builtin sNew),some (.bool true)]⟩),
 (746,cO sCode sw 1265 sw 1266 1267 577 3 0 0 3 741 181 742 743 744 745 1271 577 1272),
 (747,fnO sFn (stm 83) sw (.str ⟨#[101,109,97,99,115,46,112,108,97,99,105,110,103]⟩ 1263) 746 .none),
 (753,cO sCode ss 1276 ss 1277 1278 586 2 0 0 3 748 181 749 750 751 752 1281 586 1282),
 (754,fS 85 ss z43 1274 753 .none),
 (760,cO sCode sr 1284 sr 1285 1286 588 1 0 0 3 755 181 756 757 758 759 1288 588 1289),
 (761,fS 86 sr z43 1274 760 .none),
 (765,⟨.type sCode,none,.fields #[.str sq 1291,.str sq 1292,.str z51 1293,.int (590) 0,.int (2) 0,.int (0) 0,.int (0) 0,.int (3) 0,.ref 762,.bool true,.int (181) 0,.ref 763,.none,.none,.none,.ref 764,.int (1294) 0,.int (590) 0,.str z51 1295],#[]⟩),
 (766,fS 87 sq z43 1274 765 .none),
 (772,cO sCode so 1297 so 1298 1299 592 2 0 0 3 767 181 768 769 770 771 1302 592 1303),
 (773,fS 88 so z43 1274 772 .none),
 (777,⟨.type sCode,none,.fields #[.str sk 1305,.str sk 1306,.str z51 1307,.int (594) 0,.int (4) 0,.int (0) 0,.int (0) 0,.int (3) 0,.ref 774,.bool true,.int (181) 0,.ref 775,.none,.none,.none,.ref 776,.int (1308) 0,.int (594) 0,.str z51 1309],#[]⟩),
 (778,fS 89 sk z43 1274 777 .none),
 (782,⟨.type sCode,none,.fields #[.str sj 1311,.str sj 1312,.str z51 1313,.int (601) 0,.int (1) 0,.int (0) 0,.int (0) 0,.int (3) 0,.ref 779,.bool true,.int (181) 0,.ref 780,.none,.none,.none,.ref 781,.int (1314) 0,.int (601) 0,.str z51 1315],#[]⟩),
 (783,fS 90 sj z43 1274 782 .none)]
noncomputable def KOf(p:Program)(P:Params):Frag:=KG "code" "dict" "type" "object" "object.__new__" "tuple" "__main__.__loader__#opaque" "function" (ud p) (yh p) P
noncomputable def qOf(p:Program):Program:={p with main:={p.main with body:=yr 90 p.main.body}}
set_option maxRecDepth 100000 in
noncomputable def loose:List Str:=[z53,z54,z0,z55,z56,z57,z58,z59,z60,z61,z62,z63,z64,z65,z26,z27,z66,z1,z2,z3,z4,z5,z6,z67,z68,z69,z70,z71,z72,z73,z74,z75,z76,z77,z78,z7,z79,z80,z81,z8,z9,z10,z14,z82,z83,z84,z85,z86,z87,z88,z89,z11,z90,z91,z12,z13,z92,z93,z94,z95,z96,z97,z98,z99,sy,z15,sx,z16,z17,z18,sw,ss,sr,sq,so,sk]
set_option maxRecDepth 100000 in
noncomputable def mI:List Addr:=[3,20,21,47,48,54,55,61,62,68,69,75,76,82,83,89,90,96,97,103,104,110,111,112,118,119,120,126,127,133,134,135,141,142,143,144,150,151,157,158,164,165,171,172,178,179,185,186,192,193,199,200,206,207,211,212,216,217,223,224,230,231,237,238,244,245,258,259,261,262,272,273,279,280,286,287,293,294,300,301,307,308,314,315,321,322,328,329,335,336,337,343,344,350,351,357,358,364,365,371,372,378,379,385,386,392,393,399,400,413,414,420,421,427,428,434,435,441,442,448,449,455,456,462,463,469,470,476,477,483,484,486,487,504,505,511,512,518,519,521,522,539,540,546,547,553,554,560,561,563,564,579,580,586,587,593,594,600,601,607,608,614,615,621,622,628,629,631,632,644,650,651,657,658,664,665,671,672,678,679,685,686,692,693,699,700,706,707,713,714,720,721,727,728,734,735,737,738,746,747,753,754,760,761,765,766,772,773,777,778,782,783]
section
set_option maxRecDepth 100000
set_option maxHeartbeats 0
theorem xf:PySem.Challenge.rw_pq0296_02.wellSaid=true:=by
 unfold OpenLaw.wellSaid OpenRow.wellSaid OpenRow.partSaid looksOpen
 repeat' with_reducible refine look_both ?_ ?_
 all_goals decide+kernel
theorem xe(h:PySem.Challenge.rw_pq0296_02.row.wellSaid=true→PySem.Challenge.rw_pq0296_02.row.Holds):PySem.Challenge.rw_pq0296_02.Holds:=holds_law xf h
noncomputable def pwT:Program:=PySem.Challenge.pw_pq0296_02
theorem uM:PySem.Challenge.pw_pq0296_02=pwT:=rfl
noncomputable def gT(s:SharedT)(a:Addr):Option Obj:=match Nat.blt a s.n with
 | true=>match s.tree.get a with
  | some o=>alive o
  | none=>none
 | false=>none
theorem Ce{s:SharedT}{a:Addr}{o:Obj}(h:gT s a=some o):s.abs.heap.get? a=some o:=by
 unfold gT at h;cases hb:Nat.blt a s.n with
 | false=>rw[hb]at h;cases h
 | true=>
  rw[hb]at h;cases ht:s.tree.get a with
  | none=>rw[ht]at h;cases h
  | some o'=>rw[ht]at h;exact(abs_get (Nat.le_of_ble_eq_true hb) ht).trans h
theorem Ac{s:SharedT}{k:Frag}:∀{l:List Addr},l.map (gT s)=k.map (fun p=>some p.2)→l.map s.abs.heap.get? = k.map fun p=>some p.2:=by
 induction k with
 | nil=>exact fun{l} h=>by rw[List.map_eq_nil_iff.mp h];rfl
 | cons p k ih=>
  intro l h;cases l with
  | nil=>cases h
  | cons a l=>rw[List.map_cons,List.map_cons,Ce (List.cons.inj h).1,ih (List.cons.inj h).2]
theorem BU{β:Type}{o:Option SharedT}{f:SharedT→β}{b:β}{l:List Addr}{k:Frag}(h1:o.map f=some b)(h2:(o.map fun s=>l.map (gT s))=some (k.map fun p=>some p.2)):(o.map fun s=>(f s,l.map s.abs.heap.get?))=some (b,k.map fun p=>some p.2):=by
 cases o with
 | none=>cases h1
 | some s=>exact congrArg some (Prod.ext (Option.some.inj h1) (Ac (Option.some.inj h2)))
theorem zZ:∀w:World,(fun os:OsState=>(qc PySem.W.Fast.tw6613529449190102663 PySem.W.Fast.tw10156331382660048174 PySem.W.Fast.tw11892475500146522536 PySem.W.Fast.tw14364793385576792824 pwT w 11 (some (.ref 6)) 10000 (S0 w os) (topStub pwT)).map fun s=>
      (staticsOk (PySem.W.Fast.tw5923862056798008813 pwT.main.body) (boot_heap w.params) s.abs.heap&&namesBound pwT s.abs.heap&&gensDone s.abs&&laidKept (boot_heap w.params) s.abs.heap,
       PySem.W.Fast.tw4187177175401517315 (qOf pwT) loose (PySem.W.Fast.tw5923862056798008813 pwT.main.body) (fun _=>true) true s.abs))=fun _=>some (true,openGood (qOf pwT) loose):=by
  intro w;kernel_rfl
theorem Aa:∀w:World,(fun os:OsState=>(qc PySem.W.Fast.tw6613529449190102663 PySem.W.Fast.tw10156331382660048174 PySem.W.Fast.tw11892475500146522536 PySem.W.Fast.tw14364793385576792824 pwT w 11 (some (.ref 6)) 10000 (S0 w os) (topStub pwT)).map fun s=>PySem.W.R.mapR (gT s) mI)=fun _=>some
       (PySem.W.R.mapR (fun p=>some p.2) (KG PySem.W.SL.s5856160107412720595x4 PySem.W.SL.s14018661285674007319x4 PySem.W.SL.s17162191345867700912x4 PySem.W.SL.s2742458400755230247x6 PySem.W.SL.s11443829558043349243x14 PySem.W.SL.s2766695959194262286x5 PySem.W.SL.s7097527257260152453x26 PySem.W.SL.s7174869446012820540x8 (ud pwT) (yh pwT) w.params)):=by
  intro w;kernel_rfl
theorem vt:∀w:World,(fun os:OsState=>(qc stepOk stepT denote treeTable pwT w 11 (some (.ref 6)) 10000 (S0 w os) (topStub pwT)).map fun s=>
      ((staticsOk (importedModules pwT.main.body) (boot_heap w.params) s.abs.heap&&namesBound pwT s.abs.heap&&gensDone s.abs&&laidKept (boot_heap w.params) s.abs.heap,
       openSeen (qOf pwT) loose (importedModules pwT.main.body) (fun _=>true) true s.abs),mI.map s.abs.heap.get?))=fun _=>some ((true,openGood (qOf pwT) loose),(KOf pwT w.params).map fun p=>some p.2):=by
  intro w;have h:=zZ w;have h2:=Aa w;unfold KOf;rw[←PySem.W.Fast.te6613529449190102663,←PySem.W.Fast.te10156331382660048174,←PySem.W.Fast.te11892475500146522536,←PySem.W.Fast.te14364793385576792824,←PySem.W.Fast.te5923862056798008813,←PySem.W.Fast.te4187177175401517315]at h;rw[←PySem.W.Fast.te6613529449190102663,←PySem.W.Fast.te10156331382660048174,←PySem.W.Fast.te11892475500146522536,←PySem.W.Fast.te14364793385576792824,←PySem.W.R.mapR_eq,←PySem.W.SL.e5856160107412720595x4,←PySem.W.SL.e14018661285674007319x4,←PySem.W.SL.e17162191345867700912x4,←PySem.W.SL.e2742458400755230247x6,←PySem.W.SL.e11443829558043349243x14,←PySem.W.SL.e2766695959194262286x5,←PySem.W.SL.e7097527257260152453x26,←PySem.W.SL.e7174869446012820540x8]at h2;exact funext fun os=>BU (congrFun h os) (congrFun h2 os)
theorem tv:∀w:World,((boot_heap w.params).isNs mainGlobals,(boot_heap w.params).nsMap mainGlobals "__annotations__",(boot_heap w.params).objs.size)=(true,some (.ref 6),11):=by
 intro w;rw[PySem.W.Fast.te8920871248978507458,show PySem.Str.ofString "__annotations__"=z48 from by decide+kernel]
 kernel_rfl
theorem xW:∀P,mI=(KOf pwT P).map (·.1):=fun P=>by kernel_rfl
theorem left:LeftO pwT (qOf pwT) loose (fun _=>true) (fun s=>mI.map s.heap.get?) (fun w=>(KOf pwT w.params).map fun p=>some p.2) 10000:=
 u8 (boot_open (by kernel_rfl) (by decide) (fun s=>by kernel_rfl)) tv vt
end
end Mine
end
section
namespace Mine
open PySem PySem.W PyProof.Rows
set_option maxRecDepth 100000
set_option maxHeartbeats 0
noncomputable def dB:dJ where
 fns:=[(z55,2),(z56,3),(z57,4),(z58,5),(z59,6),(z60,7),(z61,8),(z62,9),(z63,10),(z64,11),(z65,12),(z26,13),(z27,14),(z66,15),(z67,16),(z68,17),(z69,18),(z70,19),(z71,20),(z72,21),(z73,22),(z74,23),(z75,24),(z76,25),(z77,26),(z78,27),(z79,28),(z80,29),(z81,30),(z82,32),(z83,33),(z84,34),(z85,35),(z86,36),(z87,37),(z88,38),(z89,39),(z90,40),(z91,41),(z92,42),(z93,43),(z94,44),(z95,45),(z96,46),(z97,47),(z98,48),(z99,49),(sy,50),(sw,90),(ss,91),(sr,92),(sq,93),(so,94),(sk,95),(sj,96)]
 fnA:=[21,0,48,55,62,69,76,83,90,97,104,111,119,127,134,142,151,158,165,172,179,186,193,200,207,212,217,224,231,238,245,259,273,280,287,294,301,308,315,322,329,336,344,351,358,365,372,379,386,393,400,414,421,428,435,442,449,456,463,470,477,484,505,512,519,540,547,554,561,580,587,594,601,608,615,622,629,651,658,665,672,679,686,693,700,707,714,721,728,735,747,754,761,766,773,778,783]
 clsA:=[262,487,564,632,738]
 rank:=[0,0,0,2,0,0,1,2,2,0,0,3,4,4,3,5,0,0,1,2,0,1,2,0,0,0,1,2,0,1,2,0,0,0,0,0,0,1,3,4,2,2,0,1,0,2,6,7,3,4,8,0,0,0,0,0,0,1,1,0,0,0,0,0,0,0,0,0,0,0,0,0,0,0,1,1,1,1,0,0,0,0,1,1,1,0,0,0,0,0,2,0,0,1,1,2,9]
 used:=[2,3,4,5,6,7,8,9,10,11,12,13,14,15,16,17,18,19,20,21,22,23,24,25,26,27,28,29,30,31,32,33,34,35,36,37,38,39,40,41,42,43,44,45,46,47,48,49,50,51,52,53,54,55,56,57,58,65,69,70,71,72,74,75,76,77,80,81,82,83,84,89,90,91,92,93,94,95,96]
theorem wk(P:Params):q9 dB (KOf pwT P) where
 globs:=by kernel_rfl
 fns:=by kernel_rfl
 clss:=by kernel_rfl
 blts:=by kernel_rfl
 cls:=by kernel_rfl
 meth:=by kernel_rfl
 init:=by kernel_rfl
theorem qA(P:Params):pL dB (KOf pwT P) where
 ok:=by kernel_rfl
 comp:=fun w=>by kernel_rfl
end Mine
end
section
namespace Mine
open PySem PySem.W PyProof.Rows PySem.Spec PyProof PySem.SeqAt
theorem xE{x:WData}(h:WShape.has [] x .int=true):∃i,x=.int i:=by cases x with
 | int i=>exact⟨i,rfl⟩
 | _=>exact(Bool.false_ne_true h).elim
theorem vw{x:WData}(h:WShape.has [] x (.list .int)=true):∃xs,x=.list xs∧WShape.hasItems [] xs .int=true:=by cases x with
 | list i=>exact⟨i,rfl,(Bool.or_false _).symm.trans h⟩
 | _=>exact(Bool.false_ne_true h).elim
theorem nh{xs:List WData}(h:WShape.hasItems [] xs .int=true):∃is:List Int,xs=is.map .int:=by
 induction xs with
 | nil=>exact⟨[],rfl⟩
 | cons x xs ih=>
  have h:(WShape.has [] x .int&&WShape.hasItems [] xs .int)=true:=h;obtain⟨h1,h2⟩:=Bool.and_eq_true_iff.mp h;obtain⟨i,rfl⟩:=xE h1;obtain⟨is,rfl⟩:=ih h2;exact⟨i::is,rfl⟩
theorem BF{t:WTm}{e:WCtx}{b:Bool}(h:WTm.value [] t e=some (.bool b)):WTm.value [] (.not t) e=some (.bool !b):=by
 conv=>lhs;whnf
 rw[h]
theorem BG{t u:WTm}{e:WCtx}(h:WTm.value [] t e=some (.bool false)):WTm.value [] (.and t u) e=some (.bool false):=by
 conv=>lhs;whnf
 rw[h]
theorem C9{n m:Int}{e:WCtx}{t:WTm}(h:WTm.value [] t e=some (.int m)):WTm.value [] (.lt (.lit (.int n)) t) e=some (.bool (decide (n<m))):=by
 conv=>lhs;whnf
 rw[h];rfl
theorem uP{args:List WData}{l:OpenLaw}(hm:l.most=some 63)(hb:l.bound=none)(h:l.row.toRowW.claim.pre args=true):∃is:List Int,args=[.list (is.map .int)]∧is.length≤63:=by
 have h':(WShape.hasAll [] args [.list .int]&&l.pre.holds [] {args:=args})=true:=h;obtain⟨h1,h2⟩:=Bool.and_eq_true_iff.mp h';cases args with
 | nil=>exact(Bool.false_ne_true h1).elim
 | cons x r=>
  have h1:(WShape.has [] x (.list .int)&&WShape.hasAll [] r [])=true:=h1;obtain⟨h4,h3⟩:=Bool.and_eq_true_iff.mp h1;cases r with
  | cons y r=>exact(Bool.false_ne_true h3).elim
  | nil=>
   obtain⟨xs,rfl,h5⟩:=vw h4;obtain⟨is,rfl⟩:=nh h5;refine⟨is,rfl,?_⟩;have e:l.pre=.and (.not (.lt (.lit (.int 63)) (.len (.arg 0)))) (.lit (.bool true)):=by unfold OpenLaw.pre;rw[hm,hb];rfl
   rw[e]at h2;refine Classical.byContradiction fun q=>?_
   have:=BF (C9 (n:=63) (m:=(is.map WData.int).length) (e:={args:=[.list (is.map .int)]}) (t:=.len (.arg 0)) rfl);rw[List.length_map,decide_eq_true (by omega)]at this;rw[holdsW_of_value (BG this)]at h2;cases h2
theorem sM:W.same (.bool true) (.bool true)=true:=by first|decide+kernel|(unfold W.same;rfl)
theorem sQ(l:OpenLaw)(args ds:List WData):l.row.toRowW.claim.post args (.bool true) ds=true:=
 Bool.and_eq_true_iff.mpr ⟨rfl,(holdsW_of_value (R:=[]) (t:=.eq .res (.lit (.bool true))) (e:={args:=args,res:=some (.bool true),after:=ds}) (X:=W.same (.bool true) (.bool true)) rfl).trans sM⟩
theorem lQ{P:Params}{h:Heap}:∀{vs:List Value} {is:List Int},WellAll P h vs (is.map .int)→∀{N:Nm} {I:Addr→Option Obj},ar N I vs (is.map .int)
 | _,[],.nil,_,_=>.nil
 | _,i::is,.cons x y,_,_=>by
  cases x;exact .cons (.int _ _) (lQ y)
theorem Cs{D:dJ}{K:Frag}{prog:Program}{w:World}{s₁:Shared}{mg mb:Str→Option Value}{S:Spec}{name:Str}{no:Nat}{a:Addr}{is:List Int}{vals:List Value}{E:Value→Shared→Prop}{G:Value→Shared→Prop}(X:q9 D K)
  (H:wz (dI D K s₁.heap prog w) S) (kin:K.In s₁.heap) (lim:s₁.heap.NoLimit) (hmb:s₁.heap.Ns builtinsNs mb) (hb:∀x:Str,x≠"__name__"→mb x=bootBuiltins x) (hmg:s₁.heap.Ns mainGlobals mg)
  (hn:aF D.fns name=some no) (hr:D.rank.getD no 0≤80) (ha:mg name=some (.ref a)) (hw:WellAll w.params s₁.heap vals [.list (is.map .int)]) (hl:is.length≤63) (hf:dQ ai no [.list (is.map .int)]=[.list (is.map .int)])
  (hS:S no [.list (is.map .int)] (fun _=>Option.none) fun v _=>v=.bool true)
  (hG:∀s',(∀b o,s₁.heap.get? b=some o→s'.heap.get? b=some o)→s'.gens=s₁.gens→s'.os=s₁.os→G (.bool true) s'):
  wpAny (model prog w) callerA (PySem.call (.ref a) vals) G E s₁:=by
 have F:eJ (dI D K s₁.heap prog w):=uO X kin lim ⟨mb,hmb,hb⟩ ⟨mg,hmg⟩;obtain⟨e1,e2⟩:=F.fns name no hn;have e3:=mg_of kin hmg e1;rw[ha]at e3;obtain rfl:a=(dI D K s₁.heap prog w).fnA no:=by injection e3 with e3;injection e3
 cases hw with
 | cons hw1 hw2=>
  cases hw2;cases hw1 with
  | list hh hx=>
   have S0:SR (zN D s₁.heap prog w) ⟨s₁.heap.get?,fun _=>0,fun _=>Option.none⟩ s₁.heap:=⟨fun _ _ e=>e,fun _ _ e=>(by cases e),fun b q=>(by
    rcases q with q|⟨_,_,_,q,_⟩
    ·exact absurd rfl q
    ·cases q),fun _ _ _ e=>(by cases e),fun _ _ _ _ _ _ e=>(by cases e),fun _ _ e=>e⟩
   have hA:COk callerA ((dI D K s₁.heap prog w).rank no+1):=by
    have hr':(dI D K s₁.heap prog w).rank no≤80:=hr;refine⟨rfl,?_,?_⟩
    ·have:callerA.depth=301:=rfl;exact ln [_,_] [.l .x0 (.k 80),.e .x1 (.k 301)] (.a (.a .x1 (.m 3 .p01)) .k1) (.k 992) [3] rfl hr' this
    ·have:callerA.units=4:=rfl;exact ln [_,_] [.l .x0 (.k 80),.e .x1 (.k 4)] (.a .x1 (.m 100 .p01)) (.k 8960) [100] rfl hr' this
   have hv:=lQ hx (N:=zN D s₁.heap prog w) (I:=s₁.heap.get?);refine wpAny_call (codeAny_mono (uJ F H (c:=⟨s₁.heap.get?,fun _=>0,fun _=>Option.none⟩) (args:=[.list (is.map .int)]) (Q:=fun v _=>v=.bool true) hA S0
    (.cons (.list hh ⟨?_,0,rfl⟩ hv) .nil) (by rw[show(dI D K s₁.heap prog w).T=ai from rfl,hf];exact hS)) fun rr s2 z=>?_)
   ·have:=hv.length;rw[List.length_map]at this;show _≤16777216;exact ln [_,_] [.l .x0 (.k 63),.e .x1 .x0] .x1 (.k 16777216) [] rfl hl this
   ·cases z with|mk z=>
    cases z with|mk G r q=>
    subst q;obtain rfl:=r.toB;exact hG s2 (fun b o e=>G.E.keep b o e (by
     rintro(q|⟨_,_,_,q,_⟩)
     ·exact absurd rfl q
     ·cases q) (fun z=>z.elim)) G.g G.o
end Mine
end
section
open PySem PySem.W PyProof.Rows
namespace Mine
section
set_option maxRecDepth 100000
set_option maxHeartbeats 0
theorem BY:LeftO PySem.Challenge.rw_pq0296_02.row.toRowW.prog (qOf pwT) loose (fun _=>true) (fun s=>mI.map s.heap.get?) (fun w=>(KOf pwT w.params).map fun p=>some p.2) 10000:=by
 rw[show PySem.Challenge.rw_pq0296_02.row.toRowW.prog=pwT from uM];exact left
theorem zW(S:Spec)(H:∀(h:Heap) (w:World),wz (dI dB (KOf pwT w.params) h pwT w) S)(hS:∀is:List Int,is.length≤63→S 96 [.list (is.map .int)] (fun _=>Option.none) fun v _=>v=.bool true):PySem.Challenge.rw_pq0296_02.Holds:=by
 refine xe fun k1=>?_
 refine PySem.W.holds_open (r:=PySem.Challenge.rw_pq0296_02.row) (q:=qOf pwT) (loose:=loose) (Xt:=fun _=>true) (XP:=fun _ _=>True) (Yf:=fun s=>mI.map s.heap.get?) (Ya:=fun w=>(KOf pwT w.params).map fun p=>some p.2)
  (YP:=fun w h=>(KOf pwT w.params).In h) (N:=10000) BY (fun w s e=>Frag.in_of (xW _) (by simpa only[List.map_map,Function.comp_def]using e)) (fun w h h' x k=>Frag.In.keeps x k) (fun _ _=>trivial) (fun _ _ _ _ _=>trivial) (by rfl) (by rw[show PySem.Challenge.rw_pq0296_02.row.toRowW.prog=pwT from uM];rfl) (by rfl)
  (fun s e=>recFacts_nil rfl) (by rfl) k1 ?ok ⟨rfl,rfl,rfl,rfl,rfl,by decide+kernel⟩ ?hw ?hc
 case ok=>decide+kernel
 case hw=>w_witness2
 case hc=>
  intro w s₀ s₁ mg mb G Y a o pm cd doc dV kV ho hd hcd hD hmg hg args vals as hpre hlay hrd hwl hlo;obtain⟨is,rfl,hl⟩:=uP (by rfl) (by rfl) hpre;rw[show PySem.Challenge.rw_pq0296_02.row.toRowW.prog=pwT from uM];refine Cs (is:=is) (wk w.params) (H s₁.heap w) Y G.T.nolimit G.T.b G.T.builtins G.T.g (name:=sj) (no:=96) (by decide+kernel) (by decide+kernel) hmg hwl hl (by rfl) (hS is hl) fun s' hk hg' ho'=>?_
  refine GoodW.toG ⟨.inl ⟨_,.bool true,[],rfl,fun _=>rfl,.bool true,?_,fun _=>⟨List.nodup_nil,fun _ h=>by cases h⟩⟩,hk,ho',hg'.trans hg⟩;exact sQ _ _ _
end
end Mine
end
section
namespace Mine
noncomputable def eL{α:Type}(e:α→PV)(l:List α):PV:=.list (l.map e)
noncomputable abbrev eI(l:List Int):PV:=eL PV.int l
noncomputable abbrev eII(l:List (List Int)):PV:=eL eI l
noncomputable def eP(p:List Int×Int):PV:=.tup [eI p.1,.int p.2]
noncomputable abbrev ePs(l:List (List Int×Int)):PV:=eL eP l
noncomputable def eN(n:Nat):PV:=.int (n:Int)
noncomputable def eS(p:Nat×Nat):PV:=.tup [eN p.1,eN p.2]
noncomputable def eK(p:(Nat×Nat)×(Nat×Nat)):PV:=.tup [eS p.1,eS p.2]
noncomputable def eE(p:Nat×Nat×List Int):PV:=.tup [eN p.1,eN p.2.1,eI p.2.2]
theorem oC{α:Type}{e:α→PV}(he:∀a b,e a=e b→a=b):∀{a b:List α},a.map e=b.map e→a=b
 | [],[],_=>rfl
 | [],_::_,h=>by cases h
 | _::_,[],h=>by cases h
 | x::a,y::b,h=>by
  rw[List.map_cons,List.map_cons,List.cons.injEq]at h;rw[he _ _ h.1,oC he h.2]
theorem xM(a b:List Int)(h:eI a=eI b):a=b:=oC (e:=PV.int) (fun a b h=>by injection h) (by injection h)
theorem Ar{a b:List Int}:eL PV.int a=eL PV.int b↔a=b:=⟨xM a b,fun h=>h▸rfl⟩
noncomputable def Dc(v:PV)(σ:Sto)(Q:KV):Prop:=asL v fun l=>Q (.list l.reverse) σ
noncomputable def C4(a b:PV)(σ:Sto)(K:List PV→(Sto→Prop)→Sto→Prop):Prop:=asL a fun x=>asL b fun y=>K ((x.zip y).map fun p=>.tup [p.1,p.2]) (fun _=>True) σ
noncomputable def Cr(a:PV)(σ:Sto)(K:List PV→(Sto→Prop)→Sto→Prop):Prop:=asL a fun x=>K (x.zipIdx.map fun p=>.tup [.int (p.2:Nat),p.1]) (fun _=>True) σ
section
variable {T:lL} {S:Spec} {Q:KV} {KQ:KO} {σ:Sto} {loc:List PV}
theorem xp{α:Type}{d:α}{l:List PV}{K:List PV→α}:oL d (some (.list l)) K=K l:=(rfl)
theorem gu{α:Type}{o:Option α}{P:α→Prop}(x:α)(h:o=some x)(p:P x):onO o P:=by subst h;exact p
theorem zH{α:Type}{e:α→PV}{l:List α}:Dc (eL e l) σ Q=Q (eL e l.reverse) σ:=by show Q (.list (l.map e).reverse) σ=_;rw[←List.map_reverse];rfl
theorem yH{α β:Type}{e:α→PV}{f:β→PV}{x:List α}{y:List β}{K:List PV→(Sto→Prop)→Sto→Prop}:C4 (eL e x) (eL f y) σ K=K ((x.zip y).map fun p=>.tup [e p.1,f p.2]) (fun _=>True) σ:=by
 show K (((x.map e).zip (y.map f)).map _) _ _=_;rw[List.zip_map,List.map_map];rfl
theorem xL{α:Type}{e:α→PV}{x:List α}{K:List PV→(Sto→Prop)→Sto→Prop}:Cr (eL e x) σ K=K (x.zipIdx.map fun p=>.tup [eN p.2,e p.1]) (fun _=>True) σ:=by
 show K ((x.map e).zipIdx.map _) _ _=_;rw[List.zipIdx_map,List.map_map];rfl
theorem xJ{m:Bool}{es:List ME}:ac T S (.list m es) loc σ Q=bP T S es loc σ fun vs σ₁=>cU m vs σ₁ Q:=rfl
noncomputable def jj(T:lL)(S:Spec)(t:Tgt)(k:Nat)(elt:ME)(conds:List ME)(loc:List PV):PV→Sto→(List PV→Sto→Prop)→Prop:=fun x σ' R=>dO t x (loc++List.replicate k .undef) fun loc'=>
        iQ T S conds loc' σ' fun ok σ₂=>if ok then ac T S elt loc' σ₂ fun v σ₃=>R [v] σ₃ else R [] σ₂
theorem nC{m:Bool}{k:Nat}{elt:ME}{t:Tgt}{it:MI}{conds:List ME}:ac T S (.comp m k elt t it conds) loc σ Q=cP T S it loc σ fun items watch σ₁=>
      d8 (jj T S t k elt conds loc) watch items [] σ₁ fun l σ₂=>cU m l σ₂ Q:=rfl
theorem xI{K:List PV→Sto→Prop}:bP T S [] loc σ K=K [] σ:=rfl
theorem vH{e:ME}{K:List PV→(Sto→Prop)→Sto→Prop}:cP T S (.expr e) loc σ K=ac T S e loc σ fun v σ₁=>qw v σ₁ fun l w=>K l w σ₁:=rfl
noncomputable def jq(T:lL)(S:Spec)(r:List MS)(Q:KO):KO:=fun o σ'=>match o with
 | .next loc'=>al T S r loc' σ' Q
 | .ret v=>Q (.ret v) σ'
noncomputable def x8(T:lL)(S:Spec)(c:ME):List PV→Sto→(Bool→Sto→Prop)→Prop:=fun loc σ R=>ac T S c loc σ fun v σ₁=>asB v fun r=>R r σ₁
noncomputable def wp(T:lL)(S:Spec)(b:List MS):List PV→Sto→KO→Prop:=fun loc σ R=>al T S b loc σ R
theorem sJ{a:Nat}{k:Int}{v:PV}{K:Sto→Prop}:ya (.obj a) (.int k) v σ K=oD (σ a) fun kvs=>kvs.any (·.1==k)=false∧kvs.length<big∧K (σ.set a (.dict (kvs++[(k,v)]))):=(rfl)
theorem uo{α:Type}{e:α→PV}{y:List α}{a:Nat}{i j:Int}{K:Sto→Prop}{l:List PV}(h:σ a=some (.list l)):x9 (.obj a) (eL e y) (.int i) (.int j) σ K=(0≤i∧i≤j∧j≤l.length∧l.length+y.length≤big∧K (σ.set a (.list (l.take i.toNat++y.map e++l.drop j.toNat)))):=by
 show oL False (σ a) _=_;rw[h]
 show(_∧_∧_∧l.length+(y.map e).length≤big∧_)=_;rw[List.length_map]
theorem eB{a:Nat}:cS σ (.obj a)=oL Option.none (σ a) some:=(rfl)
theorem zU{α:Type}{e:α→PV}{l:List α}:AD .len [eL e l] σ Q=Q (.int l.length) σ:=by show Q (.int (l.map e).length) σ=_;rw[List.length_map]
theorem xu{a:Nat}:AD .len [.obj a] σ Q=oL False (σ a) fun l=>Q (.int l.length) σ:=by
 show onO (oL Option.none (σ a) some) _=_;cases σ a with
 | none=>rfl
 | some x=>cases x<;>rfl
theorem xU{α:Type}{e:α→PV}{x y:List α}:tO false .add (eL e x) (eL e y) σ Q=(x.length+y.length≤big∧Q (eL e (x++y)) σ):=by
 show(((x.map e)++(y.map e)).length≤big∧Q (.list (x.map e++y.map e)) σ)=_;rw[←List.map_append,List.length_map,List.length_append];rfl
theorem q0{l:List PV}:cU true l σ Q=(l.length≤big∧∀a,σ a=Option.none→Q (.obj a) (σ.set a (.list l))):=(rfl)
theorem tT:cU false [] σ Q=Q (eL PV.int []) σ:=propext ⟨fun h=>h.2,fun h=>⟨Nat.zero_le _,h⟩⟩
theorem tS{c:Int}:cU false [.int c] σ Q=Q (eL PV.int [c]) σ:=propext ⟨fun h=>h.2,fun h=>⟨Nat.le_of_ble_eq_true rfl,h⟩⟩
theorem Av{a b:PV}:li .eq σ a b=lR σ a b:=rfl
theorem Au{a b:PV}:li .ne σ a b=(lR σ a b).map (!·):=rfl
theorem wi{a b:PV}:li .isin σ a b=qz σ a b:=rfl
theorem tJ{a b:PV}:li .notin σ a b=(qz σ a b).map (!·):=rfl
theorem jD(l:List Int):ivs (l.map PV.int)=some l:=by
 induction l with
 | nil=>rfl
 | cons i l ih=>show(ivs (l.map PV.int)).map (i::·)=_;rw[ih];rfl
theorem t5{a b:List Int}:lR σ (eL PV.int a) (eL PV.int b)=some (a==b):=by
 show gv (a.map PV.int) (b.map PV.int)=_;unfold gv;rw[jD,jD];rfl
theorem B8{c:Int}{l:List Int}:qz σ (.int c) (eL PV.int l)=some (l.contains c):=by
 show(ivs (l.map PV.int)).map _=_;rw[jD];rfl
theorem vr{c:Int}{l:List PV}:qz σ (.int c) (.tup l)=(ivs l).map (·.contains c):=rfl
noncomputable def tx{α:Type}(l:List α)(k:Int):Option α:=if k<0 then(if k+l.length<0 then none else l[(k+l.length).toNat]?)else l[k.toNat]?
theorem oX{α:Type}{e:α→PV}{l:List α}{k:Int}:kM (l.map e) k=(tx l k).map e:=by
 unfold kM tx;simp only[List.length_map,List.getElem?_map];split
 ·split<;>rfl
 ·rfl
theorem ub{α:Type}{e:α→PV}{l:List α}{k:Int}:iu (eL e l) (.int k) σ Q=∃x,tx l k=some x∧Q (e x) σ:=by
 show(∃v,kM (l.map e) k=some v∧Q v σ)=_;rw[oX];apply propext;constructor
 ·rintro⟨v,h,q⟩;obtain⟨x,hx,rfl⟩:=Option.map_eq_some_iff.mp h;exact⟨x,hx,q⟩
 ·rintro⟨x,hx,q⟩;exact⟨e x,by rw[hx];rfl,q⟩
theorem kL{α:Type}{l:List α}{k:Nat}:tx l (k:Int)=l[k]? :=by
 unfold tx;rw[if_neg (Int.not_lt.mpr (Int.natCast_nonneg _)),Int.toNat_natCast]
theorem rl{α:Type}{e:α→PV}{l:List α}{k:Nat}:iu (eL e l) (.int (k:Int)) σ Q=∃x,l[k]? = some x∧Q (e x) σ:=by rw[ub,kL]
theorem ua{α:Type}{e:α→PV}{l:List α}(h:l≠[]):iu (eL e l) (.int ((l.length:Int)-1)) σ Q=Q (e (l.getLast h)) σ:=by
 have hp:=List.length_pos_iff.mpr h;rw[show(l.length:Int)-1=((l.length-1:Nat):Int)from(Int.ofNat_sub hp).symm,rl,List.getElem?_eq_getElem (Nat.sub_lt hp Nat.one_pos)];simp[List.getLast_eq_getElem]
theorem rk{a:Nat}{k:Int}:iu (.obj a) (.int k) σ Q=wV (σ a) k fun v=>Q v σ:=(rfl)
theorem lW{a:Nat}{lo hi:Option PV}:eT (.obj a) lo hi σ Q=oL False (σ a) fun l=>eT (.list l) lo hi σ Q:=by
 show onO (oL Option.none (σ a) some) _=_;cases σ a with
 | none=>rfl
 | some x=>cases x<;>rfl
theorem tq{a:Nat}{K:List PV→(Sto→Prop)→Prop}:qw (.obj a) σ K=oL False (σ a) fun l=>K l fun σ'=>σ' a=some (.list l):=(rfl)
theorem wt{a n:Nat}:wu (.obj a) n σ Q=oT (σ a) fun _ fs=>onO (lG fs n) fun v=>Q v σ:=(rfl)
theorem n4{a:PV}{l:List PV}:iu (.tup (a::l)) (.int 0) σ Q=Q a σ:=propext ⟨fun⟨_,_,e,q⟩=>by cases e;exact q,fun q=>⟨a,by decide,rfl,q⟩⟩
theorem nZ{a b:PV}{l:List PV}:iu (.tup (a::b::l)) (.int 1) σ Q=Q b σ:=propext ⟨fun⟨_,_,e,q⟩=>by cases e;exact q,fun q=>⟨b,by decide,rfl,q⟩⟩
theorem wT{p:List Int×Int}:iu (eP p) (.int 0) σ Q=Q (eI p.1) σ:=n4
theorem wS{p:List Int×Int}:iu (eP p) (.int 1) σ Q=Q (.int p.2) σ:=nZ
theorem wR{p:Nat×Nat}:iu (eS p) (.int 0) σ Q=Q (eN p.1) σ:=n4
theorem wQ{p:Nat×Nat}:iu (eS p) (.int 1) σ Q=Q (eN p.2) σ:=nZ
theorem f6{n:Nat}{i:Int}(h:0≤i):eh n i=min i.toNat n:=by
 unfold eh;rw[if_neg (Int.not_lt.mpr h)];obtain⟨k,rfl⟩:=Int.eq_ofNat_of_zero_le h;rcases Nat.le_total k n with q|q
 ·rw[Int.min_eq_left (Int.ofNat_le.mpr q),Int.max_eq_right (Int.natCast_nonneg _),Int.toNat_natCast,Nat.min_eq_left q]
 ·rw[Int.min_eq_right (Int.ofNat_le.mpr q),Int.max_eq_right (Int.natCast_nonneg _),Int.toNat_natCast,Int.toNat_natCast,Nat.min_eq_right q]
theorem j0{α:Type}(l:List α)(a b:Nat):dp l (min a l.length) (min b l.length)=(l.take b).drop a:=by
 unfold dp;rcases Nat.le_total b l.length with h|h
 ·rw[Nat.min_eq_left h];rcases Nat.le_total a l.length with h'|h'
  ·rw[Nat.min_eq_left h']
  ·rw[Nat.min_eq_right h',List.drop_eq_nil_of_le (by rw[List.length_take];exact(Nat.min_le_right _ _)),List.drop_eq_nil_of_le (by rw[List.length_take];exact ln [_,_,_,_] [.l .x0 .x1,.l .x1 .x2,.l .x3 .x0] .x3 .x2 [] rfl h h' (Nat.min_le_left _ _))]
 ·rw[Nat.min_eq_right h,List.take_of_length_le h,List.take_length];rcases Nat.le_total a l.length with h'|h'
  ·rw[Nat.min_eq_left h']
  ·rw[Nat.min_eq_right h',List.drop_eq_nil_of_le (by exact ln [_] [] .x0 .x0 [] rfl),List.drop_eq_nil_of_le h']
theorem iy{α:Type}{e:α→PV}{l:List α}{a b:Nat}:dp (l.map e) a b=(dp l a b).map e:=by
 unfold dp;rw[←List.map_take,←List.map_drop]
theorem j5{α:Type}{e:α→PV}{l:List α}{a b:Int}(ha:0≤a)(hb:0≤b):eT (eL e l) (some (.int a)) (some (.int b)) σ Q=Q (eL e ((l.take b.toNat).drop a.toNat)) σ:=by
 show Q (.list (dp (l.map e) (eh (l.map e).length a) (eh (l.map e).length b))) σ=_;rw[List.length_map,f6 ha,f6 hb,iy,j0];rfl
theorem oa{α:Type}{e:α→PV}{l:List α}{a:Int}(ha:0≤a):eT (eL e l) (some (.int a)) Option.none σ Q=Q (eL e (l.drop a.toNat)) σ:=by
 show Q (.list (dp (l.map e) (eh (l.map e).length a) (l.map e).length)) σ=_
 have:=j0 l a.toNat l.length;rw[Nat.min_self,List.take_length]at this;rw[List.length_map,f6 ha,iy,this];rfl
theorem un{α:Type}{e:α→PV}{l:List α}{b:Int}(hb:0≤b):eT (eL e l) Option.none (some (.int b)) σ Q=Q (eL e (l.take b.toNat)) σ:=by
 show Q (.list (dp (l.map e) 0 (eh (l.map e).length b))) σ=_
 have:=j0 l 0 b.toNat;rw[Nat.zero_min,List.drop_zero]at this;rw[List.length_map,f6 hb,iy,this];rfl
theorem xq{c n:Int}:tO false .mul (eL PV.int [c]) (.int n) σ Q=(-(2^62)<n∧n<2^62∧n.toNat≤big∧Q (eL PV.int (List.replicate n.toNat c)) σ):=by
 show(_∧_∧(List.replicate n.toNat [PV.int c]).flatten.length≤big∧Q (.list (List.replicate n.toNat [PV.int c]).flatten) σ)=_;rw[List.flatten_replicate_singleton,List.length_replicate,←List.map_replicate];rfl
theorem lu{a:Nat}{x:PV}:jJ (.obj a) x σ Q=oL False (σ a) fun l=>l.length<big∧Q .none (σ.set a (.list (l++[x]))):=(rfl)
theorem qE{α:Type}{e:α→PV}{a:Nat}{y:List α}:nv (.obj a) (eL e y) σ Q=oL False (σ a) fun l=>l.length+y.length≤big∧Q .none (σ.set a (.list (l++y.map e))):=by
 show(oL False (σ a) fun l=>l.length+(y.map e).length≤big∧_)=_;rw[List.length_map]
theorem af{a:Nat}{o:cb}:(σ.set a o) a=some o:=if_pos rfl
theorem an{a b:Nat}{o:cb}(h:b≠a):(σ.set a o) b=σ b:=if_neg h
theorem gP{a:Nat}{o o':cb}:(σ.set a o).set a o'=σ.set a o':=by
 funext x;unfold Sto.set;split<;>rfl
theorem rz{test:List PV→Sto→(Bool→Sto→Prop)→Prop}{body:List PV→Sto→KO→Prop}(n0 bound:Nat)(p:Nat→Bool)(st:Nat→List PV)(he:loc=st n0)
  (hp:∀k,bound≤k→p k=false)
  (ht:∀k R,n0≤k→R (p k) σ→test (st k) σ R)
  (hb:∀k R,n0≤k→p k=true→R (.next (st (k+1))) σ→body (st k) σ R)
  (hq:∀m,n0≤m→(∀j,n0≤j→j<m→p j=true)→p m=false→KQ (.next (st m)) σ):mM test body loc σ KQ:=by
 subst he;refine⟨fun n l τ=>∃k,l=st k∧τ=σ∧n=bound-k∧n0≤k∧∀j,n0≤j→j<k→p j=true,⟨_,n0,rfl,rfl,rfl,Nat.le_refl _,fun j a b=>absurd b (Nat.not_lt.mpr a)⟩,?_⟩;rintro n l τ ⟨k,rfl,rfl,rfl,h1,h2⟩;refine ht k _ h1 ?_;cases e:p k with
 | false=>exact hq k h1 h2 e
 | true=>
  refine hb k _ h1 e ?_
  have:k<bound:=Nat.lt_of_not_le fun z=>by rw[hp k z]at e;cases e
  exact⟨bound-(k+1),by exact ln [_,_,_,_] [.e (.a .x2 .p01) .x1,.f (.a .x3 .x0) .x1] .p21 .x3 [] rfl (su this) (su (Nat.le_of_lt this)),k+1,rfl,rfl,rfl,by exact ln [_,_] [.l .x0 .x1] .x0 .p11 [] rfl h1,fun j a b=>by
   rcases Nat.lt_or_ge j k with q|q
   ·exact h2 j a q
   ·rw[show j=k by exact lne [_,_] [.l .p11 .p01,.l .x0 .x1] .x1 .x0 [1,0] [0] rfl rfl b q];exact e⟩
theorem nl{body:List PV→Sto→KO→Prop}{t:Tgt}{watch:Sto→Prop}(I:Nat→List PV→Sto→Prop)(hw:∀k l σ,I k l σ→watch σ):∀(items:List PV) (n0:Nat) (loc:List PV) (σ:Sto),I n0 loc σ→
  (∀k x,items[k]? = some x→∀loc σ (K:KO),I (n0+k) loc σ→(∀v σ',KQ (.ret v) σ'→K (.ret v) σ')→(∀l σ',I (n0+k+1) l σ'→K (.next l) σ')→dO t x loc fun loc'=>body loc' σ K)→
  (∀loc σ,I (n0+items.length) loc σ→KQ (.next loc) σ)→o5 body t watch items loc σ KQ
 | [],n0,loc,σ,h,_,hq=>hq loc σ h
 | x::r,n0,loc,σ,h,hs,hq=>by
  unfold o5;refine hs 0 x rfl loc σ _ h (fun v σ' q=>q) fun l σ' q=>⟨hw _ _ _ q,nl I hw r (n0+1) l σ' q (fun k y hy loc σ K hI h1 h2=>?_) fun loc σ hI=>hq loc σ ?_⟩
  ·exact hs (k+1) y hy loc σ K (by rw[show n0+(k+1)=n0+1+k by exact lne [_,_] [] (.a .x0 .p11) (.a .p01 .x1) [] [] rfl rfl];exact hI) h1 fun l σ' q=>h2 l σ' (by rw[show n0+1+k+1=n0+(k+1)+1 by exact lne [_,_] [] (.a (.a .p01 .x1) .k1) (.a (.a .x0 .p11) .k1) [] [] rfl rfl];exact q)
  ·rw[List.length_cons,show n0+(r.length+1)=n0+1+r.length by exact lne [_,_] [] (.a .x0 .p11) (.a .p01 .x1) [] [] rfl rfl];exact hI
theorem pp{body:PV→Sto→(List PV→Sto→Prop)→Prop}{watch:Sto→Prop}{K:List PV→Sto→Prop}(I:Nat→List PV→Sto→Prop)(hw:∀k l σ,I k l σ→watch σ):∀(items:List PV) (n0:Nat) (acc:List PV) (σ:Sto),I n0 acc σ→
  (∀k x,items[k]? = some x→∀acc σ (R:List PV→Sto→Prop),I (n0+k) acc σ→(∀o σ',I (n0+k+1) (acc++o) σ'→R o σ')→body x σ R)→
  (∀acc σ,I (n0+items.length) acc σ→K acc σ)→d8 body watch items acc σ K
 | [],n0,acc,σ,h,_,hq=>hq acc σ h
 | x::r,n0,acc,σ,h,hs,hq=>by
  unfold d8;refine hs 0 x rfl acc σ _ h fun o σ' q=>⟨hw _ _ _ q,pp I hw r (n0+1) (acc++o) σ' q (fun k y hy acc σ R hI h2=>?_) fun acc σ hI=>hq acc σ ?_⟩
  ·exact hs (k+1) y hy acc σ R (by rw[show n0+(k+1)=n0+1+k by exact lne [_,_] [] (.a .x0 .p11) (.a .p01 .x1) [] [] rfl rfl];exact hI) fun l σ' q=>h2 l σ' (by rw[show n0+1+k+1=n0+(k+1)+1 by exact lne [_,_] [] (.a (.a .p01 .x1) .k1) (.a (.a .x0 .p11) .k1) [] [] rfl rfl];exact q)
  ·rw[List.length_cons,show n0+(r.length+1)=n0+1+r.length by exact lne [_,_] [] (.a .x0 .p11) (.a .p01 .x1) [] [] rfl rfl];exact hI
theorem kY{α:Type}{body:PV→Sto→(List PV→Sto→Prop)→Prop}{K:List PV→Sto→Prop}(e:α→PV)(f:α→List PV):∀(xs:List α) (acc:List PV),
  (∀x∈xs,∀R,R (f x) σ→body (e x) σ R)→K (acc++xs.flatMap f) σ→d8 body (fun _=>True) (xs.map e) acc σ K
 | [],acc,_,h=>by simpa [d8]using h
 | x::r,acc,hs,h=>by
  rw[List.map_cons];unfold d8;refine hs x List.mem_cons_self _ ⟨trivial,kY e f r (acc++f x) (fun y hy=>hs y (List.mem_cons_of_mem _ hy)) ?_⟩;rw[List.append_assoc];rw[List.flatMap_cons]at h;exact h
theorem wK{test:List PV→Sto→(Bool→Sto→Prop)→Prop}{body:List PV→Sto→KO→Prop}(I:Nat→List PV→Sto→Prop)(n:Nat)(h0:I n loc σ)(hs:∀n loc σ (R:Bool→Sto→Prop),I n loc σ→(KQ (.next loc) σ→R false σ)→
  ((∀K:KO,(∀v σ',KQ (.ret v) σ'→K (.ret v) σ')→(∀m l σ',m<n→I m l σ'→K (.next l) σ')→body loc σ K)→R true σ)→test loc σ R):mM test body loc σ KQ:=by
 refine⟨I,⟨n,h0⟩,fun n loc σ hI=>hs n loc σ _ hI (fun h=>h) fun h=>h _ (fun v σ' h=>h) fun m l σ' hm h=>⟨m,hm,h⟩⟩
end
noncomputable def pk{α:Type}(l:List α)(p:α→Bool)(k:Nat):Bool:=match l[k]? with|some x=>p x|none=>false
theorem kn{α:Type}{l:List α}{p:α→Bool}{k:Nat}(h:l.length≤k):pk l p k=false:=by
 unfold pk;rw[List.getElem?_eq_none h]
theorem BL{α:Type}{l:List α}{p:α→Bool}{k:Nat}(h:pk l p k=true):k<l.length:=Nat.lt_of_not_le fun q=>by rw[kn q]at h;cases h
theorem kb{α:Type}{p:α→Bool}:∀(l:List α) (m:Nat),(∀j,j<m→pk l p j=true)→pk l p m=false→l.takeWhile p=l.take m∧l.dropWhile p=l.drop m
 | [],m,_,_=>by simp
 | x::l,0,_,h=>by
  have:p x=false:=h;simp[List.takeWhile,List.dropWhile,this]
 | x::l,m+1,h,h'=>by
  have h0:p x=true:=h 0 (by exact ln [_] [] .k1 .p01 [] rfl)
  have:=kb l m (fun j hj=>h (j+1) (by exact ln [_,_] [.l .p01 .x1] (.a .p01 .k1) .p11 [] rfl hj)) h';simp[List.takeWhile,List.dropWhile,h0,this.1,this.2]
theorem xd{α:Type}{p:α→Bool}{l:List α}{n0 m:Nat}(h0:n0≤m)(h1:∀j,n0≤j→j<m→pk l p j=true)(h2:pk l p m=false):(l.drop n0).takeWhile p=(l.take m).drop n0∧(l.drop n0).dropWhile p=l.drop m:=by
 have e:∀j,pk (l.drop n0) p j=pk l p (n0+j):=fun j=>by unfold pk;rw[List.getElem?_drop]
 obtain⟨a,b⟩:=kb (p:=p) (l.drop n0) (m-n0) (fun j hj=>by rw[e];exact h1 _ (by exact ln [_,_] [] .x0 (.a .x0 .x1) [] rfl) (by exact ln [_,_,_,_] [.l .p21 .x3,.e (.a .x3 .x0) .x1] (.a (.a .x0 .x2) .k1) .x1 [] rfl hj (su h0))) (by rw[e,show n0+(m-n0)=m by exact lne [_,_,_] [.e (.a .x2 .x0) .x1,.f (.a .x2 .x0) .x1] (.a .x0 .x2) .x1 [1,0] [0] rfl rfl (su h0) (su h0)];exact h2);refine⟨?_,?_⟩
 ·rw[a,List.drop_take]
 ·rw[b,List.drop_drop,show n0+(m-n0)=m by exact lne [_,_,_] [.e (.a .x2 .x0) .x1,.f (.a .x2 .x0) .x1] (.a .x0 .x2) .x1 [1,0] [0] rfl rfl (su h0) (su h0)]
noncomputable def Ret(Q:KV):KO:=fun o σ'=>match o with
 | .next _=>Wk .none σ' Q
 | .ret v=>Wk v σ' Q
section
variable {σ:Sto} {Q:KV}
theorem Wk.same{v:PV}(h:Q v σ):Wk v σ Q:=⟨v,σ,.refl v,fun _ _ e=>e,h⟩
theorem lO.refl{σ σ':Sto}:∀l:List PV,lO σ σ' l l
 | []=>.nil
 | x::l=>.cons (.refl x) (lO.refl l)
theorem Wk.frz{a:Nat}{l:List PV}(h:σ a=Option.none)(q:Q (.list l) σ):Wk (.obj a) (σ.set a (.list l)) Q:=
 ⟨.list l,σ,.obj af h (lO.refl l),fun b o e=>by
  rw[an (fun z=>by subst z;rw[h]at e;cases e)];exact e,q⟩
theorem Wk.drop{σ':Sto}{v:PV}(h:∀a o,σ a=some o→σ' a=some o)(q:Q v σ):Wk v σ' Q:=⟨v,σ,.refl v,h,q⟩
end
end Mine
end
section
namespace Mine
noncomputable def isU:PV→Bool
 | .undef=>true
 | _=>false
noncomputable def js:List PV→Nat→Option PV
 | [],_=>none
 | x::_,0=>cond (isU x) none (some x)
 | _::l,n+1=>js l n
theorem rO{Q:PV→Prop}:∀{l:List PV} {n:Nat} {v:PV},js l n=some v→Q v→rdO l[n]? Q
 | [],_,_,h,_=>by cases h
 | x::_,0,v,h,q=>by
  have h:cond (isU x) none (some x)=some v:=h;cases x<;>first|(cases h;done)|(cases h;exact q)
 | _::l,n+1,v,h,q=>rO (l:=l) (n:=n) h q
noncomputable def Ev(S:Spec)(e:ME)(loc:List PV)(σ:Sto)(v:PV):Prop:=∀Q:KV,Q v σ→ac ai S e loc σ Q
noncomputable def Evs(S:Spec)(e:List ME)(loc:List PV)(σ:Sto)(v:List PV):Prop:=∀Q:List PV→Sto→Prop,Q v σ→bP ai S e loc σ Q
section
variable {S:Spec} {Q:KV} {K:KO} {σ:Sto} {loc loc':List PV} {e a b c o:ME} {es:List ME} {v va vb w:PV} {vs:List PV} {i j k:Int} {n:Nat} {m:Bool} {r:List MS} {x y:Bool}
theorem up{p q:Prop}(e:p=q)(h:q):p:=e▸h
theorem ay(he:Ev S e loc σ v)(h:v=w):Ev S e loc σ w:=h▸he
theorem aJ:Ev S (.int i) loc σ (.int i):=fun _ h=>h
theorem qL:Ev S (.bool x) loc σ (.bool x):=fun _ h=>h
theorem Ak:Ev S .none loc σ .none:=fun _ h=>h
theorem qG:Ev S (.str n) loc σ (.str n):=fun _ h=>h
theorem aa(h:js loc n=some v):Ev S (.var n) loc σ v:=fun _ q=>rO h q
theorem fh(h:jF n=v):Ev S (.glob n) loc σ v:=fun _ q=>by subst h;exact q
theorem ev_add(ha:Ev S a loc σ (.int i))(hb:Ev S b loc σ (.int j)):Ev S (.bin m .add a b) loc σ (.int (i+j)):=fun _ q=>ha _ (hb _ q)
theorem aT(ha:Ev S a loc σ (.int i))(hb:Ev S b loc σ (.int j)):Ev S (.bin m .sub a b) loc σ (.int (i-j)):=fun _ q=>ha _ (hb _ q)
theorem zK:(2:Int)^62=4611686018427387904:=by decide
theorem ev_mul(ha:Ev S a loc σ (.int i))(hb:Ev S b loc σ (.int j))(h1: -4611686018427387904<i)(h2:i<4611686018427387904):Ev S (.bin m .mul a b) loc σ (.int (i*j)):=fun _ q=>ha _ (hb _ ⟨by rw[zK];exact h1,by rw[zK];exact h2,q⟩)
theorem qK(ha:Ev S a loc σ (.int i))(hb:Ev S b loc σ (.int j))(h1:j≠0)(h2:j.natAbs<1073741824):Ev S (.bin m .fdiv a b) loc σ (.int (i.fdiv j)):=fun _ q=>ha _ (hb _ ⟨h1,h2,q⟩)
theorem fj{α:Type}{f:α→PV}{l l':List α}(ha:Ev S a loc σ (eL f l))(hb:Ev S b loc σ (eL f l'))(h:l.length+l'.length≤big):Ev S (.bin false .add a b) loc σ (eL f (l++l')):=fun _ q=>ha _ (hb _ (by rw[xU];exact⟨h,q⟩))
theorem kS(ha:Ev S (.list false [a]) loc σ (eL PV.int [i]))(hb:Ev S b loc σ (.int j))(h1: -4611686018427387904<j)(h2:j<4611686018427387904)(h3:j.toNat≤big):Ev S (.bin false .mul (.list false [a]) b) loc σ (eL PV.int (List.replicate j.toNat i)):=fun _ q=>ha _ (hb _ (by rw[xq,zK];exact⟨h1,h2,h3,q⟩))
theorem iN:Ev S (.list false []) loc σ (eL PV.int []):=fun _ q=>by rw[xJ,xI,tT];exact q
theorem gA(h:Ev S e loc σ (.int i)):Ev S (.list false [e]) loc σ (eL PV.int [i]):=fun _ q=>h _ (by show cU false [_] _ _;rw[tS];exact q)
theorem cQ(ha:Ev S a loc σ (.int i))(hb:Ev S b loc σ (.int j)):Ev S (.cmp .lt a b) loc σ (.bool (decide (i<j))):=fun _ q=>ha _ (hb _ q)
theorem rU(ha:Ev S a loc σ (.int i))(hb:Ev S b loc σ (.int j)):Ev S (.cmp .le a b) loc σ (.bool (decide (i≤j))):=fun _ q=>ha _ (hb _ q)
theorem fv(ha:Ev S a loc σ (.int i))(hb:Ev S b loc σ (.int j)):Ev S (.cmp .gt a b) loc σ (.bool (decide (i>j))):=fun _ q=>ha _ (hb _ q)
theorem pf(ha:Ev S a loc σ (.int i))(hb:Ev S b loc σ (.int j)):Ev S (.cmp .ge a b) loc σ (.bool (decide (i≥j))):=fun _ q=>ha _ (hb _ q)
theorem cR(ha:Ev S a loc σ (.int i))(hb:Ev S b loc σ (.int j)):Ev S (.cmp .eq a b) loc σ (.bool (i==j)):=fun _ q=>ha _ (hb _ q)
theorem pc(ha:Ev S a loc σ (.int i))(hb:Ev S b loc σ (.int j)):Ev S (.cmp .ne a b) loc σ (.bool (!(i==j))):=fun _ q=>ha _ (hb _ q)
theorem nB{n':Nat}(ha:Ev S a loc σ (.str n))(hb:Ev S b loc σ (.str n')):Ev S (.cmp .eq a b) loc σ (.bool (n==n')):=fun _ q=>ha _ (hb _ q)
theorem Ai(ha:Ev S a loc σ (.bool x))(hb:Ev S b loc σ (.bool y)):Ev S (.cmp .ne a b) loc σ (.bool (!(x==y))):=fun _ q=>ha _ (hb _ q)
theorem Ao{l l':List Int}(ha:Ev S a loc σ (eL PV.int l))(hb:Ev S b loc σ (eL PV.int l')):Ev S (.cmp .eq a b) loc σ (.bool (l==l')):=fun _ q=>ha _ (hb _ (by rw[Av,t5];exact q))
theorem qH{l l':List Int}(ha:Ev S a loc σ (eL PV.int l))(hb:Ev S b loc σ (eL PV.int l')):Ev S (.cmp .ne a b) loc σ (.bool (!(l==l'))):=fun _ q=>ha _ (hb _ (by rw[Au,t5];exact q))
theorem Aj{d:Nat}{l:List PV}{is l':List Int}(ha:Ev S a loc σ (.obj d))(hs:σ d=some (.list l))(hi:ivs l=some is)(hb:Ev S b loc σ (eI l')):Ev S (.cmp .ne a b) loc σ (.bool (!(is==l'))):=fun Q q=>ha _ (hb _ (by
 show onO ((pn σ (.obj d) (eI l')).map (!·)) _
 have:pn σ (.obj d) (eI l')=some (is==l'):=by
  unfold pn;rw[jI hs];show gv l (l'.map PV.int)=_;unfold gv;rw[hi,jD];rfl
 rw[this];exact q))
theorem gC(ha:Ev S a loc σ .none):Ev S (.cmp .isnot a .none) loc σ (.bool false):=fun _ q=>ha _ q
theorem yo{l:List Int}(ha:Ev S a loc σ (.int i))(hb:Ev S b loc σ (eL PV.int l)):Ev S (.cmp .isin a b) loc σ (.bool (l.contains i)):=fun _ q=>ha _ (hb _ (by rw[wi,B8];exact q))
theorem vL{l:List PV}{is:List Int}(ha:Ev S a loc σ (.int i))(hb:Ev S b loc σ (.tup l))(h:ivs l=some is):Ev S (.cmp .isin a b) loc σ (.bool (is.contains i)):=fun _ q=>ha _ (hb _ (by rw[wi,vr,h];exact q))
theorem vJ{l:List PV}{is:List Int}(ha:Ev S a loc σ (.int i))(hb:Ev S b loc σ (.tup l))(h:ivs l=some is):Ev S (.cmp .notin a b) loc σ (.bool (!is.contains i)):=fun _ q=>ha _ (hb _ (by rw[tJ,vr,h];exact q))
theorem jf(ha:Ev S a loc σ (.bool x)):Ev S (.not a) loc σ (.bool (!x)):=fun _ q=>ha _ q
theorem cq(ha:Ev S a loc σ (.bool x))(hb:x=true→Ev S b loc σ (.bool y)):Ev S (.and a b) loc σ (.bool (x&&y)):=fun Q q=>ha _ (by
 show if x=true then ac ai S b loc σ Q else Q (.bool false) σ
 cases x with
 | true=>exact hb rfl _ q
 | false=>exact q)
theorem dG(ha:Ev S a loc σ (.bool x))(hb:x=false→Ev S b loc σ (.bool y)):Ev S (.or a b) loc σ (.bool (x||y)):=fun Q q=>ha _ (by
 show if x=true then Q (.bool true) σ else ac ai S b loc σ Q
 cases x with
 | true=>exact q
 | false=>exact hb rfl _ q)
theorem vK(hc:Ev S c loc σ (.bool x))(ha:x=true→Ev S a loc σ v)(hb:x=false→Ev S b loc σ v):Ev S (.ite c a b) loc σ v:=fun Q q=>hc _ (by
 show if x=true then ac ai S a loc σ Q else ac ai S b loc σ Q
 cases x with
 | true=>exact ha rfl _ q
 | false=>exact hb rfl _ q)
theorem pd(hc:Ev S c loc σ (.bool x))(ha:Ev S a loc σ (.int i))(hb:Ev S b loc σ (.int j)):Ev S (.ite c a b) loc σ (.int (if x=true then i else j)):=vK hc (fun h=>by rw[if_pos h];exact ha) (fun h=>by rw[if_neg (by rw[h];exact Bool.false_ne_true)];exact hb)
theorem aw{α:Type}{f:α→PV}{l:List α}(ha:Ev S a loc σ (eL f l)):Ev S (.blt .len [a]) loc σ (.int l.length):=fun _ q=>ha _ (up zU q)
theorem rT{d:Nat}{l:List PV}(ha:Ev S a loc σ (.obj d))(hs:σ d=some (.list l)):Ev S (.blt .len [a]) loc σ (.int l.length):=fun _ q=>ha _ (by refine up (xu (a:=d)) ?_;rw[hs];exact q)
theorem Af{d:Nat}{l:List (Int×PV)}(ha:Ev S a loc σ (.obj d))(hs:σ d=some (.dict l))(hz:l.length<64):Ev S (.blt .sorted [a]) loc σ (eI (fo (l.map (·.1)))):=fun Q q=>ha _ (show qm σ (.obj d) (fun _ kvs=>kvs.length<64∧Q (.list ((fo (kvs.map (·.1))).map .int)) σ)from xn hs ⟨hz,q⟩)
theorem qI(ha:Ev S a loc σ (.int i))(hb:Ev S b loc σ (.int j)):Ev S (.blt .min [a,b]) loc σ (.int (min i j)):=fun _ q=>ha _ (hb _ q)
theorem qJ(ha:Ev S a loc σ (.int i))(hb:Ev S b loc σ (.int j)):Ev S (.blt .max [a,b]) loc σ (.int (max i j)):=fun _ q=>ha _ (hb _ q)
theorem aE{d cl:Nat}{fs:List (Nat×PV)}(ha:Ev S a loc σ (.obj d))(hs:σ d=some (.inst cl fs))(hf:lG fs n=some v):Ev S (.attr a n) loc σ v:=fun _ q=>ha _ (by rw[wt,hs];show onO (lG fs n) _;rw[hf];exact q)
theorem An{α:Type}{f:α→PV}{l:List α}{z:α}(ha:Ev S a loc σ (eL f l))(hb:Ev S b loc σ (.int i))(h:tx l i=some z):Ev S (.sub a b) loc σ (f z):=fun _ q=>ha _ (hb _ (by rw[ub];exact⟨z,h,q⟩))
theorem aZ{α:Type}{f:α→PV}{l:List α}{z:α}(ha:Ev S a loc σ (eL f l))(hb:Ev S b loc σ (.int (n:Int)))(h:l[n]? = some z):Ev S (.sub a b) loc σ (f z):=An ha hb (by rw[kL];exact h)
theorem ny{d:Nat}{l:List PV}(ha:Ev S a loc σ (.obj d))(hb:Ev S b loc σ (.int i))(hs:σ d=some (.list l))(h:kM l i=some v):Ev S (.sub a b) loc σ v:=fun _ q=>ha _ (hb _ (by rw[rk,hs];exact⟨v,h,q⟩))
theorem Ck{α:Type}{f:α→PV}{l:List α}(he:Ev S e loc σ (eL f l))(ha:Ev S a loc σ (.int i))(hb:Ev S b loc σ (.int j))(h1:0≤i)(h2:0≤j):Ev S (.slice e (some a) (some b)) loc σ (eL f ((l.take j.toNat).drop i.toNat)):=fun _ q=>he _ (ha _ (hb _ (up (j5 h1 h2) q)))
theorem vI{α:Type}{f:α→PV}{l:List α}(he:Ev S e loc σ (eL f l))(hb:Ev S b loc σ (.int j))(h2:0≤j):Ev S (.slice e Option.none (some b)) loc σ (eL f (l.take j.toNat)):=fun _ q=>he _ (hb _ (up (un h2) q))
theorem Ag{α:Type}{f:α→PV}{l:List α}(he:Ev S e loc σ (eL f l))(ha:Ev S a loc σ (.int i))(h1:0≤i):Ev S (.slice e (some a) Option.none) loc σ (eL f (l.drop i.toNat)):=fun _ q=>he _ (ha _ (up (oa h1) q))
theorem eg{α:Type}{f:α→PV}{l:List α}{n':Nat}(he:Ev S e loc σ (eL f l))(ha:Ev S a loc σ (.int (n:Int)))(hb:Ev S b loc σ (.int (n':Int))):Ev S (.slice e (some a) (some b)) loc σ (eL f ((l.take n').drop n)):=Ck he ha hb (Int.natCast_nonneg _) (Int.natCast_nonneg _)
theorem jH{α:Type}{f:α→PV}{l:List α}(he:Ev S e loc σ (eL f l))(hb:Ev S b loc σ (.int (n:Int))):Ev S (.slice e Option.none (some b)) loc σ (eL f (l.take n)):=vI he hb (Int.natCast_nonneg _)
theorem jG{α:Type}{f:α→PV}{l:List α}(he:Ev S e loc σ (eL f l))(ha:Ev S a loc σ (.int (n:Int))):Ev S (.slice e (some a) Option.none) loc σ (eL f (l.drop n)):=Ag he ha (Int.natCast_nonneg _)
theorem dM{α:Type}{f:α→PV}{d:Nat}{l:List α}{z:α}(ha:Ev S a loc σ (.obj d))(hs:σ d=some (.list (l.map f)))(hb:Ev S b loc σ (.int (n:Int)))(h:l[n]? = some z):Ev S (.sub a b) loc σ (f z):=ny ha hb hs (by rw[oX,kL,h];rfl)
theorem iM{α:Type}{f:α→PV}{d:Nat}{l:List α}{n':Nat}(he:Ev S e loc σ (.obj d))(hs:σ d=some (.list (l.map f)))(ha:Ev S a loc σ (.int (n:Int)))(hb:Ev S b loc σ (.int (n':Int))):Ev S (.slice e (some a) (some b)) loc σ (eL f ((l.take n').drop n)):=fun Q q=>he _ (ha _ (hb _ (by
 show eT (.obj d) _ _ σ Q;rw[lW,hs];exact up (j5 (e:=f) (Int.natCast_nonneg _) (Int.natCast_nonneg _)) q)))
theorem aD:Evs S [] loc σ []:=fun _ q=>q
theorem ae(h:Ev S e loc σ v)(t:Evs S es loc σ vs):Evs S (e::es) loc σ (v::vs):=fun _ q=>h _ (t _ q)
theorem gz(h:Evs S es loc σ vs)(hz:Nat.ble vs.length big=true):Ev S (.tup es) loc σ (.tup vs):=fun _ q=>h _ ⟨Nat.le_of_ble_eq_true hz,q⟩
theorem vR{f:Nat}{ws:List PV}(h:Evs S es loc σ vs)(hf:dQ ai f vs=ws)(hc:∀Q:KV,Q v σ→S f ws σ Q):Ev S (.call f es) loc σ v:=fun _ q=>h _ (by subst hf;exact hc _ q)
theorem Cm{d cl f:Nat}{fs:List (Nat×PV)}{ws:List PV}(ha:Ev S a loc σ (.obj d))(hs:σ d=some (.inst cl fs))(hm:dq cl n=some f)(h:Evs S es loc σ vs)(hf:dQ ai f (.obj d::vs)=ws)(hc:∀Q:KV,Q v σ→S f ws σ Q):Ev S (.meth a n es) loc σ v:=fun Q q=>ha _ (by
 show u4 dq (.obj d) n σ _;exact mX hs (gu f hm (h _ (by subst hf;exact hc _ q))))
theorem Dn{f:Nat}{ws:List PV}(h:Evs S es loc σ vs)(hf:dQ ai f vs=ws)(hc:S f ws σ Q):ac ai S (.call f es) loc σ Q:=h _ (by subst hf;exact hc)
theorem Dl{d cl f:Nat}{fs:List (Nat×PV)}{ws:List PV}(ha:Ev S a loc σ (.obj d))(hs:σ d=some (.inst cl fs))(hm:dq cl n=some f)(h:Evs S es loc σ vs)(hf:dQ ai f (.obj d::vs)=ws)(hc:S f ws σ Q):ac ai S (.meth a n es) loc σ Q:=ha _ (by
 show u4 dq (.obj d) n σ _;exact mX hs (gu f hm (h _ (by subst hf;exact hc))))
theorem wn{d:Nat}{l:List PV}(ha:Ev S a loc σ (.obj d))(hs:σ d=some (.list l))(hb:Ev S b loc σ w)(hz:l.length<big)(h:Q .none (σ.set d (.list (l++[w])))):ac ai S (.append a b) loc σ Q:=ha _ ⟨by rw[eB,hs];rfl,hb _ (by rw[lu,hs];exact⟨hz,h⟩)⟩
theorem yw{α:Type}{f:α→PV}{l':List α}{d:Nat}{l:List PV}(ha:Ev S a loc σ (.obj d))(hs:σ d=some (.list l))(hb:Ev S b loc σ (eL f l'))(hz:l.length+l'.length≤big)(h:Q .none (σ.set d (.list (l++l'.map f)))):ac ai S (.extend a b) loc σ Q:=ha _ ⟨by rw[eB,hs];rfl,hb _ (by rw[qE,hs];exact⟨hz,h⟩)⟩
theorem yv(hc:Ev S c loc σ (.bool x))(ha:x=true→ac ai S a loc σ Q)(hb:x=false→ac ai S b loc σ Q):ac ai S (.ite c a b) loc σ Q:=hc _ (by
 show if x=true then ac ai S a loc σ Q else ac ai S b loc σ Q
 cases x with
 | true=>exact ha rfl
 | false=>exact hb rfl)
theorem Cy{d:Nat}{l:List PV}(ha:Ev S a loc σ (.obj d))(hs:σ d=some (.list l))(hk:Ev S b loc σ (.int k))(h0:0≤k)(hv:l[k.toNat]? = some v)(h:Q v (σ.set d (.list (l.eraseIdx k.toNat)))):ac ai S (.pop a b) loc σ Q:=ha _ ⟨by rw[eB,hs];rfl,hk _ (show onL σ (.obj d) (fun a l=>∃v,0≤k∧l[k.toNat]? = some v∧Q v (σ.set a (.list (l.eraseIdx k.toNat))))from uT hs ⟨v,h0,hv,h⟩)⟩
theorem yu(h:∀d,σ d=Option.none→Q (.obj d) (σ.set d (.list []))):ac ai S (.list true []) loc σ Q:=⟨Nat.zero_le _,h⟩
theorem x_n(h:K (.next loc) σ):al ai S [] loc σ K:=h
theorem x_a(he:Ev S e loc σ v)(hl:el loc n v=some loc')(h:al ai S r loc' σ K):al ai S (.assign (.var n) e::r) loc σ K:=he _ (by show onO (el loc n v) _;rw[hl];exact h)
theorem x_A(h:ac ai S e loc σ fun v τ=>onO (el loc n v) fun loc'=>al ai S r loc' τ K):al ai S (.assign (.var n) e::r) loc σ K:=h
theorem x_T{ts:List Tgt}(h:ac ai S e loc σ fun v τ=>dO (.tup ts) v loc fun loc'=>al ai S r loc' τ K):al ai S (.assign (.tup ts) e::r) loc σ K:=h
theorem x_s{P:List PV→Prop}(hl:el loc n v=some loc')(h:P loc'):onO (el loc n v) P:=by rw[hl];exact h
theorem x_r(he:Ev S e loc σ v)(h:K (.ret v) σ):al ai S (.ret e::r) loc σ K:=he _ h
theorem x_R(h:ac ai S e loc σ fun v τ=>K (.ret v) τ):al ai S (.ret e::r) loc σ K:=h
theorem x_E(h:ac ai S e loc σ fun _ τ=>al ai S r loc τ K):al ai S (.expr e::r) loc σ K:=h
theorem x_i{p q:List MS}(he:Ev S c loc σ (.bool x))(h1:x=true→al ai S p loc σ (jq ai S r K))(h2:x=false→al ai S q loc σ (jq ai S r K)):al ai S (.ite c p q::r) loc σ K:=he _ (by
 show if x=true then al ai S p loc σ (jq ai S r K)else al ai S q loc σ (jq ai S r K)
 cases x with
 | true=>exact h1 rfl
 | false=>exact h2 rfl)
theorem yJ{p q:List MS}(he:Ev S c loc σ (.bool x))(hx:x=true)(h1:al ai S p loc σ (jq ai S r K)):al ai S (.ite c p q::r) loc σ K:=x_i he (fun _=>h1) (fun z=>by rw[hx]at z;cases z)
theorem BE{p q:List MS}(he:Ev S c loc σ (.bool x))(hx:x=false)(h1:al ai S q loc σ (jq ai S r K)):al ai S (.ite c p q::r) loc σ K:=x_i he (fun z=>by rw[hx]at z;cases z) (fun _=>h1)
theorem cE{p:List MS}(he:Ev S c loc σ (.bool x))(hx:x=false)(h1:al ai S r loc σ K):al ai S (.ite c p []::r) loc σ K:=BE he hx h1
theorem x_q(h:al ai S r loc σ K):jq ai S r K (.next loc) σ:=h
theorem x_w{b:List MS}(h:mM (x8 ai S c) (wp ai S b) loc σ (jq ai S r K)):al ai S (.while c b::r) loc σ K:=h
theorem t0{α:Type}{f:α→PV}{l:List α}{t:Tgt}{b:List MS}(he:Ev S e loc σ (eL f l))(h:o5 (wp ai S b) t (fun _=>True) (l.map f) loc σ (jq ai S r K)):al ai S (.for t (.expr e) b::r) loc σ K:=he _ h
theorem dC{d cl:Nat}{fs fs':List (Nat×PV)}(he:Ev S e loc σ v)(ho:Ev S o loc σ (.obj d))(hs:σ d=some (.inst cl fs))(hz:Nat.blt fs.length 1000=true)(hf:gR fs n v=fs')(h:al ai S r loc (σ.set d (.inst cl fs')) K):al ai S (.setattr o n e::r) loc σ K:=he _ (ho _ (mX hs ⟨Nat.le_of_ble_eq_true hz,by rw[hf];exact h⟩))
theorem dR{d cl:Nat}{fs fs':List (Nat×PV)}(he:Ev S e loc (σ.set d (.inst cl fs)) v)(ho:Ev S o loc (σ.set d (.inst cl fs)) (.obj d))(hz:Nat.blt fs.length 1000=true)(hf:gR fs n v=fs')(h:al ai S r loc (σ.set d (.inst cl fs')) K):al ai S (.setattr o n e::r) loc (σ.set d (.inst cl fs)) K:=dC he ho af hz hf (by rw[gP];exact h)
theorem wJ(h:ac ai S e loc σ fun v σ₁=>ac ai S o loc σ₁ fun ov σ₂=>zL ov n v σ₂ fun σ₃=>al ai S r loc σ₃ K):al ai S (.setattr o n e::r) loc σ K:=h
theorem xl{d cl:Nat}{fs fs':List (Nat×PV)}{P:Sto→Prop}(ho:Ev S o loc σ (.obj d))(hs:σ d=some (.inst cl fs))(hz:Nat.blt fs.length 1000=true)(hf:gR fs n v=fs')(h:P (σ.set d (.inst cl fs'))):ac ai S o loc σ fun ov σ₂=>zL ov n v σ₂ P:=ho _ (mX hs ⟨Nat.le_of_ble_eq_true hz,by rw[hf];exact h⟩)
theorem nI{f cl:Nat}{ws:Nat→List PV}(he:Evs S es loc σ vs)(hi:hH cl=some f)(hf:∀d,dQ ai f (.obj d::vs)=ws d)(h:∀d,σ d=Option.none→S f (ws d) (σ.set d (.inst cl [])) fun r σ₂=>r=.none∧Q (.obj d) σ₂):ac ai S (.new cl es) loc σ Q:=he _ (gu f hi fun d hd=>by rw[hf];exact h d hd)
theorem C6{l lz:List Int}{l':List Int}{d:Nat}{lo hi:ME}(he:Ev S e loc σ (eL PV.int l'))(ho:Ev S o loc σ (.obj d))(hlo:Ev S lo loc σ (.int i))(hhi:Ev S hi loc σ (.int j))(hs:σ d=some (.list (l.map .int)))(h1:0≤i)(h2:i≤j)(h3:j≤l.length)(h4:l.length+l'.length≤big)(hX:l.take i.toNat++l'++l.drop j.toNat=lz)(h:al ai S r loc (σ.set d (.list (lz.map .int))) K):al ai S (.setslice o lo hi e::r) loc σ K:=he _ (ho _ (hlo _ (hhi _ (up (uo hs) ⟨h1,h2,by rw[List.length_map];exact h3,by rw[List.length_map];exact h4,by
 rw[←List.map_take,←List.map_drop,←List.map_append,←List.map_append,hX];exact h⟩))))
theorem hE{α:Type}{f:α→PV}{l:List α}(he:Ev S e loc σ (eL f l))(P:List PV→(Sto→Prop)→Sto→Prop)(h:P (l.map f) (fun _=>True) σ):cP ai S (.expr e) loc σ P:=he _ h
theorem vj(he:Ev S e loc σ (.int (n:Int)))(hz:n≤16777216)(P:List PV→(Sto→Prop)→Sto→Prop)(h:P ((List.range n).map eN) (fun _=>True) σ):cP ai S (.range e) loc σ P:=he _ (⟨Int.lt_of_lt_of_le (by decide) (Int.natCast_nonneg n),Int.ofNat_le.mpr hz,h⟩)
theorem Dg{α β:Type}{f:α→PV}{g:β→PV}{l:List α}{l':List β}(ha:Ev S a loc σ (eL f l))(hb:Ev S b loc σ (eL g l'))(P:List PV→(Sto→Prop)→Sto→Prop)(h:P ((l.zip l').map fun p=>.tup [f p.1,g p.2]) (fun _=>True) σ):cP ai S (.zip a b) loc σ P:=ha _ (hb _ (up (yH (K:=P)) h))
theorem Dh{α:Type}{f:α→PV}{l:List α}(ha:Ev S a loc σ (eL f l))(P:List PV→(Sto→Prop)→Sto→Prop)(h:P (l.zipIdx.map fun p=>.tup [eN p.2,f p.1]) (fun _=>True) σ):cP ai S (.enum a) loc σ P:=ha _ (up (xL (K:=P)) h)
theorem yp{α:Type}{f:α→PV}{g:α→List PV}{l:List α}{t:Tgt}{k:Nat}{it:MI}{cs:List ME}(hi:∀P:List PV→(Sto→Prop)→Sto→Prop,P (l.map f) (fun _=>True) σ→cP ai S it loc σ P)(hb:∀x∈l,∀R:List PV→Sto→Prop,R (g x) σ→jj ai S t k e cs loc (f x) σ R)(hz:(l.flatMap g).length≤big):Ev S (.comp false k e t it cs) loc σ (.list (l.flatMap g)):=fun _ q=>
 hi (fun items watch σ₁=>d8 (jj ai S t k e cs loc) watch items [] σ₁ fun l σ₂=>cU false l σ₂ _) (kY f g l [] hb ⟨hz,q⟩)
theorem fe{α β:Type}{g:α→β}(l:List α):l.flatMap (fun x=>[g x])=l.map g:=by
 induction l with
 | nil=>rfl
 | cons x l ih=>exact congrArg (g x::·) ih
theorem vQ{α β:Type}{f:α→PV}{g:α→β}{h:β→PV}{l:List α}{t:Tgt}{k:Nat}{it:MI}(hi:∀P:List PV→(Sto→Prop)→Sto→Prop,P (l.map f) (fun _=>True) σ→cP ai S it loc σ P)(hb:∀x∈l,∀R:List PV→Sto→Prop,R [h (g x)] σ→jj ai S t k e [] loc (f x) σ R)(hz:l.length≤big):Ev S (.comp false k e t it []) loc σ (eL h (l.map g)):=by
 have:=yp (g:=fun x=>[h (g x)]) hi hb (by rw[fe,List.length_map];exact hz);rw[fe]at this;show Ev S _ loc σ (.list ((l.map g).map h));rw[List.map_map];exact this
theorem Cx{lc:List PV}{k:Nat}{R:List PV→Sto→Prop}(ht:el (loc++List.replicate k .undef) n w=some lc)(he:Ev S e lc σ v)(h:R [v] σ):jj ai S (.var n) k e [] loc w σ R:=gu lc ht (he _ h)
theorem t_t{R:Bool→Sto→Prop}(he:Ev S c loc σ (.bool x))(h:R x σ):x8 ai S c loc σ R:=he _ h
theorem t_v{P:List PV→Prop}(hl:el loc n v=some loc')(h:P loc'):dO (.var n) v loc P:=gu loc' hl h
theorem dL{α:Type}{f:α→PV}{l:List α}{t:Tgt}{it:MI}{b:List MS}(I:Nat→List PV→Sto→Prop)(hi:∀P:List PV→(Sto→Prop)→Sto→Prop,P (l.map f) (fun _=>True) σ→cP ai S it loc σ P)(h0:I 0 loc σ)
  (hs:∀(k:Nat) (hk:k<l.length) (loc:List PV) (τ:Sto) (K':KO),I k loc τ→(∀v τ',K (.ret v) τ'→K' (.ret v) τ')→(∀loc' τ',I (k+1) loc' τ'→K' (.next loc') τ')→dO t (f l[k]) loc fun loc'=>al ai S b loc' τ K')
  (hq:∀(loc:List PV) (τ:Sto),I l.length loc τ→al ai S r loc τ K):al ai S (.for t it b::r) loc σ K:=
 hi _ (nl (KQ:=jq ai S r K) (body:=wp ai S b) I (fun _ _ _ _=>trivial) (l.map f) 0 loc σ h0 (fun k x hx loc τ K' hI h1 h2=>by
  rw[List.getElem?_map]at hx;obtain⟨z,hz,rfl⟩:=Option.map_eq_some_iff.mp hx;obtain⟨hk,rfl⟩:=List.getElem?_eq_some_iff.mp hz;rw[Nat.zero_add]at hI h2;exact hs k hk loc τ K' hI h1 h2) fun loc τ hI=>by
   rw[Nat.zero_add,List.length_map]at hI;exact hq loc τ hI)
structure CT(S:Spec)(c:ME)(b r:List MS)(K:KO)(I:Nat→List PV→Sto→Prop)(n:Nat)(loc:List PV)(τ:Sto)(x:Bool):Prop where
 ev:Ev S c loc τ (.bool x)
 body:x=true→∀K':KO,(∀v τ',K (.ret v) τ'→K' (.ret v) τ')→(∀m loc' τ',m<n→I m loc' τ'→K' (.next loc') τ')→al ai S b loc τ K'
 out:x=false→al ai S r loc τ K
theorem mL{b:List MS}(I:Nat→List PV→Sto→Prop)(n:Nat)(h0:I n loc σ)(hs:∀n loc τ,I n loc τ→∃x,CT S c b r K I n loc τ x):al ai S (.while c b::r) loc σ K:=
 x_w (wK I n h0 fun n loc τ R hI hF hT=>by
  obtain⟨x,h⟩:=hs n loc τ hI;refine t_t h.ev ?_;cases x with
  | true=>exact hT (h.body rfl)
  | false=>exact hF (h.out rfl))
theorem Ay(h:∀z,σ z=Option.none→∀d,(σ.set z (.list [])) d=Option.none→Q (.obj d) ((σ.set z (.list [])).set d (.list [.obj z]))):ac ai S (.list true [.list true []]) loc σ Q:=⟨Nat.zero_le _,fun z hz=>⟨Nat.le_of_ble_eq_true rfl,h z hz⟩⟩
theorem Az{d:Nat}{l:List PV}(ha:Ev S a loc σ (.obj d))(hs:σ d=some (.list l))(hz:l.length<big)(h:∀y,σ y=Option.none→Q .none ((σ.set y (.list [])).set d (.list (l++[.obj y])))):ac ai S (.append a (.list true [])) loc σ Q:=ha _ ⟨by rw[eB,hs];rfl,Nat.zero_le _,fun y hy=>uT (by rw[an (fun e=>by rw[←e,hs]at hy;cases hy)];exact hs) ⟨hz,h y hy⟩⟩
theorem fz{lc:Nat→List PV}(hl:∀d,el loc n (.obj d)=some (lc d))(h:∀d,σ d=Option.none→al ai S r (lc d) (σ.set d (.list [])) K):al ai S (.assign (.var n) (.list true [])::r) loc σ K:=x_A (yu fun d hd=>x_s (hl d) (h d hd))
theorem jK{α:Type}{f:α→PV}{l:List α}{p:α→Bool}{ix jx:Nat}{P:ME}(st:Nat→List PV)(k:Nat)(he:loc=st k)(hl:∀m,js (st m) jx=some (eL f l))(hi:∀m,js (st m) ix=some (.int (m:Nat)))(hs:∀m,el (st m) ix (.int ((m:Int)+1))=some (st (m+1)))(hk:k≤l.length)
  (hP:∀m z,l[m]? = some z→Ev S P (st m) σ (.bool (p z)))
  (h:∀m,k≤m→m≤l.length→(l.drop k).takeWhile p=(l.take m).drop k→(l.drop k).dropWhile p=l.drop m→al ai S r (st m) σ K):
  al ai S (.while (.and (.cmp .lt (.var ix) (.blt .len [.var jx])) P) [.assign (.var ix) (.bin false .add (.var ix) (.int 1))]::r) loc σ K:=by
 refine x_w (rz k l.length (pk l p) st he (fun k hk=>kn hk) (fun m R _ hR=>t_t (x:=pk l p m) (fun Q q=>?_) hR) (fun m R _ _ hR=>x_a (ev_add (aa (hi m)) aJ) (hs m) hR) fun m hm h1 h2=>?_)
 ·refine cQ (aa (hi m)) (aw (aa (hl m))) (fun va σ₁=>asB va fun r=>if r then ac ai S P (st m) σ₁ Q else Q (.bool false) σ₁) ?_;unfold pk at q
  by_cases hlt:m<l.length
  ·rw[List.getElem?_eq_getElem hlt]at q;rw[decide_eq_true (Int.ofNat_lt.mpr hlt)];exact hP m _ (List.getElem?_eq_getElem hlt) _ q
  ·rw[List.getElem?_eq_none (Nat.le_of_not_lt hlt)]at q;rw[decide_eq_false (fun z=>hlt (Int.ofNat_lt.mp z))];exact q
 ·obtain⟨e1,e2⟩:=xd hm h1 h2;refine h m hm ?_ e1 e2;rcases Nat.eq_or_lt_of_le hm with e|e
  ·subst e;exact hk
  ·have:=BL (h1 (m-1) (by exact ln [_,_,_] [.l .p01 .x1,.f .p21 .x1] .x0 .x2 [] rfl e (su (ln [_,_] [.l .p01 .x1] .k1 .x1 [] rfl e))) (by exact ln [_,_] [.e .p11 .x0] .p11 .x0 [] rfl (su (ln [_,_] [.l .p01 .x1] .k1 .x1 [] rfl e))));exact ln [_,_,_] [.l .p21 .x0,.f .p21 .x1] .x1 .x0 [] rfl this (su (ln [_,_] [.l .p01 .x1] .k1 .x1 [] rfl e))
end
theorem B9(a b:Nat):min (a:Int) b=((min a b:Nat):Int):=by
 rcases Nat.le_total a b with q|q
 ·rw[Nat.min_eq_left q,Int.min_eq_left (Int.ofNat_le.mpr q)]
 ·rw[Nat.min_eq_right q,Int.min_eq_right (Int.ofNat_le.mpr q)]
theorem Ca(a b:Nat):max (a:Int) b=((max a b:Nat):Int):=by
 rcases Nat.le_total a b with q|q
 ·rw[Nat.max_eq_right q,Int.max_eq_right (Int.ofNat_le.mpr q)]
 ·rw[Nat.max_eq_left q,Int.max_eq_left (Int.ofNat_le.mpr q)]
theorem vO{α:Type}{f:α→PV}{l:List α}{S:Spec}{σ:Sto}{loc:List PV}{a:ME}(ha:Ev S a loc σ (eL f l)):Ev S (.blt .copy [a]) loc σ (eL f l):=fun _ q=>ha _ q
theorem C5{S:Spec}{σ:Sto}{K:KO}{loc:List PV}{e:ME}{r:List MS}{is:List Nat}{vs:List PV}(he:Ev S e loc σ (.tup vs))(h:dH (is.reverse.map .var) vs.reverse loc fun loc'=>al ai S r loc' σ K):al ai S (.swap is e::r) loc σ K:=he _ h
theorem f8{S:Spec}{σ:Sto}{K:KO}{loc:List PV}{c:ME}{p r:List MS}{x:Bool}(he:Ev S c loc σ (.bool x))(h1:x=true→al ai S p loc σ (jq ai S r K))(h2:x=false→al ai S r loc σ K):al ai S (.ite c p []::r) loc σ K:=x_i he h1 h2
theorem x_z{S:Spec}{σ:Sto}{K:KO}{loc:List PV}{r:List MS}(h:al ai S r loc σ K):al ai S [] loc σ (jq ai S r K):=h
theorem x_t{S:Spec}{σ:Sto}{K:KO}{loc:List PV}{e:ME}{r:List MS}{t:Tgt}{v:PV}(he:Ev S e loc σ v)(h:dO t v loc fun loc'=>al ai S r loc' σ K):al ai S (.assign t e::r) loc σ K:=he _ h
theorem bnt{b:Bool}(h:(!b)=true):b=false:=by
 cases b with
 | false=>rfl
 | true=>cases h
theorem bnf{b:Bool}(h:(!b)=false):b=true:=by
 cases b with
 | true=>rfl
 | false=>cases h
theorem tZ{S:Spec}{σ:Sto}{K:KO}{loc:List PV}{c:ME}{b r:List MS}(n0 bound:Nat)(p:Nat→Bool)(st:Nat→List PV)(he:loc=st n0)(hp:∀k,bound≤k→p k=false)(ht:∀k,Ev S c (st k) σ (.bool (p k)))
  (hb:∀k K,K (.next (st (k+1))) σ→al ai S b (st k) σ K) (h:∀m,n0≤m→(∀j,n0≤j→j<m→p j=true)→p m=false→al ai S r (st m) σ K):al ai S (.while c b::r) loc σ K:=
 x_w (rz n0 bound p st he hp (fun k _ _ hR=>t_t (ht k) hR) (fun k R _ _ hR=>hb k R hR) h)
theorem aS{α:Type}{l:List α}{j:Nat}{d:α}(h:j<l.length):l[j]? = some (l.getD j d):=by rw[List.getD,List.getElem?_eq_getElem h];rfl
theorem if0{α:Type}(k:Nat)(a b:α):(if((k:Int)==0)=true then a else b)=if k=0 then a else b:=by cases k<;>rfl
section
variable {S:Spec} {Q:KV} {σ:Sto} {loc:List PV} {e a b:ME} {α:Type} {f:α→PV} {l l':List α} {x:α} {d:Nat}
theorem yq{p:List Int×Int}(h:Ev S e loc σ (eP p)):Ev S (.sub e (.int 0)) loc σ (eI p.1):=fun _ q=>h _ (up wT q)
theorem Cq{p:List Int×Int}(h:Ev S e loc σ (eP p)):Ev S (.sub e (.int 1)) loc σ (.int p.2):=fun _ q=>h _ (up wS q)
theorem Cp{p:Nat×Nat}(h:Ev S e loc σ (eS p)):Ev S (.sub e (.int 0)) loc σ (eN p.1):=fun _ q=>h _ (up wR q)
theorem Co{p:Nat×Nat}(h:Ev S e loc σ (eS p)):Ev S (.sub e (.int 1)) loc σ (eN p.2):=fun _ q=>h _ (up wQ q)
theorem rV(ha:Ev S a loc σ (eL f l))(hb:Ev S b loc σ (.int ((l.length:Int)-1)))(h:l≠[]):Ev S (.sub a b) loc σ (f (l.getLast h)):=fun _ q=>ha _ (hb _ (up (ua h) q))
theorem Cl(ha:Ev S a loc σ (eL f l)):Ev S (.rev a) loc σ (eL f l.reverse):=fun _ q=>ha _ (up zH q)
theorem zP{m n:Nat}:((m:Int)==n)=(m==n):=by rw[Bool.eq_iff_iff,beq_iff_eq,beq_iff_eq,Int.ofNat_inj]
theorem rS{n:Nat}(he:Ev S e loc σ (.obj d))(hs:σ d=some (.list (l.map f)))(ha:Ev S a loc σ (.int (n:Int))):Ev S (.slice e (some a) Option.none) loc σ (eL f (l.drop n)):=fun Q q=>he _ (ha _ (by
 show eT (.obj d) _ _ σ Q;rw[lW,hs];exact up (oa (e:=f) (Int.natCast_nonneg _)) q))
theorem ib(ha:Ev S a loc σ (.obj d))(hs:σ d=some (.list (l.map f))):Ev S (.blt .len [a]) loc σ (.int l.length):=ay (rT ha hs) (by rw[List.length_map])
theorem vM{c:ME}{y:Bool}{u w:α}(hc:Ev S c loc σ (.bool y))(ha:Ev S a loc σ (f u))(hb:Ev S b loc σ (f w)):Ev S (.ite c a b) loc σ (f (if y=true then u else w)):=vK hc (fun h=>by rw[if_pos h];exact ha) (fun h=>by rw[if_neg (by rw[h];exact Bool.false_ne_true)];exact hb)
theorem wo(ha:Ev S a loc σ (.obj d))(hs:σ d=some (.list (l.map f)))(hb:Ev S b loc σ (f x))(hz:l.length<big)(h:Q .none (σ.set d (.list ((l++[x]).map f)))):ac ai S (.append a b) loc σ Q:=wn ha hs hb (by rw[List.length_map];exact hz) (by rw[List.map_append]at h;exact h)
theorem yx(ha:Ev S a loc σ (.obj d))(hs:σ d=some (.list (l.map f)))(hb:Ev S b loc σ (eL f l'))(hz:l.length+l'.length≤big)(h:Q .none (σ.set d (.list ((l++l').map f)))):ac ai S (.extend a b) loc σ Q:=yw ha hs hb (by rw[List.length_map];exact hz) (by rw[List.map_append]at h;exact h)
variable {K:KO} {r:List MS} {es:List ME} {i j:Int} {m n:Nat}
theorem Dm(h:∀d,σ d=Option.none→Q (.obj d) (σ.set d (.dict []))):ac ai S .edict loc σ Q:=h
theorem C7{o k:ME}{v:PV}{kvs:List (Int×PV)}(he:Ev S e loc σ v)(ho:Ev S o loc σ (.obj d))(hk:Ev S k loc σ (.int i))(hs:σ d=some (.dict kvs))(h1:kvs.any (·.1==i)=false)(h2:kvs.length<big)(h:al ai S r loc (σ.set d (.dict (kvs++[(i,v)]))) K):al ai S (.setitem o k e::r) loc σ K:=he _ (ho _ (hk _ (by rw[sJ,hs];exact⟨h1,h2,h⟩)))
theorem vN{kvs:List (Int×PV)}{v:PV}(ha:Ev S a loc σ (.obj d))(hs:σ d=some (.dict kvs))(hb:Ev S b loc σ (.int i))(h:kvs.find? (·.1==i)=some (j,v)):Ev S (.sub a b) loc σ v:=fun _ q=>ha _ (hb _ (by rw[rk,hs];exact⟨v,by rw[h];rfl,q⟩))
theorem Cn{c:ME}{k:Int}(ha:Ev S a loc σ (.int i))(hb:Ev S b loc σ (.int j))(hc:Ev S c loc σ (.int k)):Ev S (.cmp2 .lt .le a b c) loc σ (.bool (decide (i<j)&&decide (j≤k))):=fun Q q=>ha _ (hb _ (by
 show if decide (i<j)=true then ac ai S c loc σ (fun vc σ₃=>onO (li .le σ₃ (.int j) vc) fun r'=>Q (.bool r') σ₃)else Q (.bool false) σ
 cases h:decide (i<j)with
 | true=>rw[h]at q;exact hc _ q
 | false=>rw[h]at q;exact q))
theorem qC{l:List Int}{p:Int→Bool}{f:Int→PV}:l.flatMap (fun c=>if p c=true then[f c]else[])=(l.filter p).map f:=by
 induction l with
 | nil=>rfl
 | cons c l ih=>
  rw[List.flatMap_cons,ih,List.filter_cons]
  by_cases h:p c=true
  ·rw[if_pos h,if_pos h];rfl
  ·rw[if_neg h,if_neg h];rfl
theorem vP{l:List Int}{g:Int→PV}{p:Int→Bool}{it:MI}{c:ME}{k:Nat}(hi:∀P:List PV→(Sto→Prop)→Sto→Prop,P (l.map PV.int) (fun _=>True) σ→cP ai S it loc σ P)(hb:∀x,∃lc,el (loc++List.replicate k .undef) n (.int x)=some lc∧Ev S c lc σ (.bool (p x))∧Ev S e lc σ (g x))(hz:l.length≤big):Ev S (.comp false k e (.var n) it [c]) loc σ (eL g (l.filter p)):=by
 have hf:=qC (l:=l) (p:=p) (f:=g)
 have:=yp (S:=S) (e:=e) (t:=.var n) (k:=k) (cs:=[c]) (g:=fun x:Int=>if p x=true then[g x]else[]) hi (fun x _ R hR=>by
  obtain⟨lc,h1,h2,h3⟩:=hb x;refine gu lc h1 (h2 _ ?_);show if p x=true then(if true=true then ac ai S e lc σ (fun v σ₃=>R [v] σ₃)else R [] σ)else(if false=true then ac ai S e lc σ (fun v σ₃=>R [v] σ₃)else R [] σ)
  by_cases h:p x=true
  ·rw[if_pos h]at hR⊢;rw[if_pos rfl];exact h3 _ hR
  ·rw[if_neg h]at hR⊢;rw[if_neg Bool.false_ne_true];exact hR) (by
  rw[hf,List.length_map];exact Nat.le_trans (List.length_filter_le _ _) hz)
 rw[hf]at this;exact this
theorem AA(ha:Ev S a loc σ (.int i))(h:ac ai S b loc σ fun v τ=>tO false .add (.int i) v τ Q):ac ai S (.bin false .add a b) loc σ Q:=ha _ h
theorem Ax(ha:Ev S a loc σ (eL f l))(h:ac ai S b loc σ fun v τ=>iu (eL f l) v τ Q):ac ai S (.sub a b) loc σ Q:=ha _ h
theorem CA(h:ac ai S a loc σ fun v τ=>onO (li .eq τ v (.int j)) fun r=>Q (.bool r) τ):ac ai S (.cmp .eq a (.int j)) loc σ Q:=h
theorem CD(h:ac ai S a loc σ fun v τ=>asB v fun r=>if r then ac ai S b loc τ Q else Q (.bool false) τ):ac ai S (.and a b) loc σ Q:=h
theorem Cz(h:ac ai S a loc σ fun v τ=>asB v fun r=>Q (.bool (!r)) τ):ac ai S (.not a) loc σ Q:=h
theorem xK{K:List PV→Sto→Prop}(h:K [] σ):bP ai S [] loc σ K:=h
theorem jt{K:List PV→Sto→Prop}(h:ac ai S e loc σ fun v τ=>bP ai S es loc τ fun vs τ'=>K (v::vs) τ'):bP ai S (e::es) loc σ K:=h
theorem wm(h:bP ai S es loc σ fun vs τ=>vs.length≤big∧Q (.tup vs) τ):ac ai S (.tup es) loc σ Q:=h
theorem CF{g cl:Nat}(hi:hH cl=some g)(h:bP ai S es loc σ fun vs σ₁=>∀a,σ₁ a=Option.none→S g (dQ ai g (.obj a::vs)) (σ₁.set a (.inst cl [])) fun r σ₂=>r=.none∧Q (.obj a) σ₂):ac ai S (.new cl es) loc σ Q:=by
 show bP ai S es loc σ fun vs σ₁=>onO (hH cl) _
 rw[hi];exact h
theorem CC{l:List PV}(ha:Ev S a loc σ (.obj d))(hs:σ d=some (.list l))(h:ac ai S b loc σ fun w τ=>jJ (.obj d) w τ Q):ac ai S (.append a b) loc σ Q:=ha _ ⟨by rw[eB,hs];rfl,h⟩
theorem C8{is:List Nat}(h:ac ai S e loc σ fun v τ=>asT v fun vs=>dH (is.reverse.map .var) vs.reverse loc fun loc'=>al ai S r loc' τ K):al ai S (.swap is e::r) loc σ K:=h
theorem Ah(ha:Ev S a loc σ (.str m))(hb:Ev S b loc σ (.str n)):Ev S (.cmp .ne a b) loc σ (.bool (!(m==n))):=fun _ q=>ha _ (hb _ q)
theorem Ap(ha:Ev S a loc σ (.int i)):Ev S (.blt .abs [a]) loc σ (.int i.natAbs):=fun _ q=>ha _ q
theorem Aq{vs:List PV}(h:Evs S es loc σ vs)(hz:Nat.ble vs.length big=true):Ev S (.list false es) loc σ (.list vs):=fun _ q=>h _ ⟨Nat.le_of_ble_eq_true hz,q⟩
theorem Aw{lc:List PV}{k:Nat}{w:PV}{R:List PV→Sto→Prop}(ht:el (loc++List.replicate k .undef) n w=some lc)(h:ac ai S e lc σ fun v τ=>R [v] τ):jj ai S (.var n) k e [] loc w σ R:=gu lc ht h
theorem CB{β:Type}{g:α→β}{h:β→PV}{t:Tgt}{k:Nat}{it:MI}(hi:∀P:List PV→(Sto→Prop)→Sto→Prop,P (l.map f) (fun _=>True) σ→cP ai S it loc σ P)(hb:∀x∈l,∀R:List PV→Sto→Prop,R [h (g x)] σ→jj ai S t k e [] loc (f x) σ R)(hz:l.length≤big)(hq:∀d,σ d=Option.none→Q (.obj d) (σ.set d (.list ((l.map g).map h)))):ac ai S (.comp true k e t it []) loc σ Q:=
 hi (fun items watch σ₁=>d8 (jj ai S t k e [] loc) watch items [] σ₁ fun l σ₂=>cU true l σ₂ Q) (kY f (fun x=>[h (g x)]) l [] hb (by
  rw[List.nil_append,fe,←Function.comp_def,←List.map_map];exact⟨by rw[List.length_map,List.length_map];exact hz,hq⟩))
theorem iP{body:PV→Sto→(List PV→Sto→Prop)→Prop}{W:Sto→Prop}{K:List PV→Sto→Prop}(I:Nat→List PV→Sto→Prop)(hw:∀k acc τ,I k acc τ→W τ)(h0:I 0 [] σ)
  (hs:∀(k:Nat) (hk:k<l.length) (acc:List PV) (τ:Sto) (R:List PV→Sto→Prop),I k acc τ→(∀o τ',I (k+1) (acc++o) τ'→R o τ')→body (f l[k]) τ R)
  (hq:∀(acc:List PV) (τ:Sto),I l.length acc τ→K acc τ):d8 body W (l.map f) [] σ K:=
 pp I hw _ 0 _ _ h0 (fun k x hx acc τ R hI h2=>by
  rw[List.getElem?_map]at hx;obtain⟨z,hz,rfl⟩:=Option.map_eq_some_iff.mp hx;obtain⟨hk,rfl⟩:=List.getElem?_eq_some_iff.mp hz;rw[Nat.zero_add]at hI h2;exact hs k hk acc τ R hI h2) fun acc τ hI=>by
   rw[Nat.zero_add,List.length_map]at hI;exact hq acc τ hI
theorem ll(ha:Ev S a loc (σ.set d (.list (l.map f))) (.obj d))(hb:Ev S b loc (σ.set d (.list (l.map f))) (f x))(hz:l.length<big)(h:Q .none (σ.set d (.list ((l++[x]).map f)))):ac ai S (.append a b) loc (σ.set d (.list (l.map f))) Q:=wn ha af hb (by rw[List.length_map];exact hz) (by rw[gP];rw[List.map_append]at h;exact h)
theorem pB(ha:Ev S a loc (σ.set d (.list (l.map f))) (.obj d))(hb:Ev S b loc (σ.set d (.list (l.map f))) (eL f l'))(hz:l.length+l'.length≤big)(h:Q .none (σ.set d (.list ((l++l').map f)))):ac ai S (.extend a b) loc (σ.set d (.list (l.map f))) Q:=yw ha af hb (by rw[List.length_map];exact hz) (by rw[gP];rw[List.map_append]at h;exact h)
end
noncomputable def oV(o:Option PV)(f:PV→Option PV):Option PV:=match o with
 | some v=>f v
 | Option.none=>Option.none
noncomputable def oI(v:PV)(f:Int→Option PV):Option PV:=match v with
 | .int i=>f i
 | _=>Option.none
noncomputable def oB(v:PV)(f:Bool→Option PV):Option PV:=match v with
 | .bool b=>f b
 | _=>Option.none
noncomputable def CL(op:BOp)(i j:Int):Option PV:=match op with
 | .add=>some (.int (i+j))
 | .sub=>some (.int (i-j))
 | _=>Option.none
noncomputable def Cw(op:COp)(i j:Int):Option PV:=match op with
 | .eq=>some (.bool (i==j))
 | .ne=>some (.bool (!(i==j)))
 | .lt=>some (.bool (decide (i<j)))
 | .le=>some (.bool (decide (i≤j)))
 | .gt=>some (.bool (decide (i>j)))
 | .ge=>some (.bool (decide (i≥j)))
 | _=>Option.none
noncomputable def DB(k:Nat)(fs:List (Nat×PV))(m:Nat):ME→Option PV
 | .var n=>cond (Nat.beq n k) (lG fs m) Option.none
 | _=>Option.none
noncomputable def Dd(es:List ME):Option PV:=match es with
 | []=>some (.list [])
 | _::_=>Option.none
noncomputable def evG(loc:List PV)(k:Nat)(fs:List (Nat×PV)):ME→Option PV
 | .int i=>some (.int i)
 | .bool b=>some (.bool b)
 | .none=>some .none
 | .str n=>some (.str n)
 | .var n=>js loc n
 | .glob n=>some (jF n)
 | .bin _ op a b=>oV (evG loc k fs a) fun va=>oV (evG loc k fs b) fun vb=>oI va fun i=>oI vb fun j=>CL op i j
 | .cmp op a b=>oV (evG loc k fs a) fun va=>oV (evG loc k fs b) fun vb=>oI va fun i=>oI vb fun j=>Cw op i j
 | .not a=>oV (evG loc k fs a) fun va=>oB va fun x=>some (.bool (!x))
 | .and a b=>oV (evG loc k fs a) fun va=>oV (evG loc k fs b) fun vb=>oB va fun x=>oB vb fun y=>some (.bool (x&&y))
 | .or a b=>oV (evG loc k fs a) fun va=>oV (evG loc k fs b) fun vb=>oB va fun x=>oB vb fun y=>some (.bool (x||y))
 | .attr e m=>DB k fs m e
 | .list m es=>cond m Option.none (Dd es)
 | _=>Option.none
section
variable {S:Spec} {σ:Sto} {loc:List PV} {k:Nat} {fs:List (Nat×PV)} {e:ME} {v:PV}
theorem uV{o:Option PV}{f:PV→Option PV}(h:oV o f=some v):∃x,o=some x∧f x=some v:=by
 cases o with
 | none=>cases h
 | some x=>exact⟨x,rfl,h⟩
theorem rG{x:PV}{f:Int→Option PV}(h:oI x f=some v):∃i,x=.int i∧f i=some v:=by
 cases x<;>first|exact⟨_,rfl,h⟩|cases h
theorem ot{x:PV}{f:Bool→Option PV}(h:oB x f=some v):∃i,x=.bool i∧f i=some v:=by
 cases x<;>first|exact⟨_,rfl,h⟩|cases h
theorem mY{o p:Option PV}{f:PV→PV→Option PV}(h:(oV o fun a=>oV p (f a))=some v):∃x y,o=some x∧p=some y∧f x y=some v:=by
 obtain⟨x,h1,h⟩:=uV h;obtain⟨y,h2,h⟩:=uV h;exact⟨x,y,h1,h2,h⟩
noncomputable def Env(loc:List PV)(σ:Sto)(k:Nat)(fs:List (Nat×PV)):Prop:=fs=[]∨∃d cl,js loc k=some (.obj d)∧σ d=some (.inst cl fs)
theorem nz{P:Prop}(h:(Option.none:Option PV)=some v):P:=by cases h
theorem sv{P:PV→Prop}{w:PV}(h:some w=some v)(p:P w):P v:=by cases h;exact p
theorem BN{m:Bool}{op:BOp}{a b:ME}{i j:Int}(ha:Ev S a loc σ (.int i))(hb:Ev S b loc σ (.int j))(h:CL op i j=some v):Ev S (.bin m op a b) loc σ v:=by
 cases op with
 | add=>exact sv h (ev_add ha hb)
 | sub=>exact sv h (aT ha hb)
 | _=>exact nz h
theorem BM{op:COp}{a b:ME}{i j:Int}(ha:Ev S a loc σ (.int i))(hb:Ev S b loc σ (.int j))(h:Cw op i j=some v):Ev S (.cmp op a b) loc σ v:=by
 cases op with
 | eq=>exact sv h (cR ha hb)
 | ne=>exact sv h (pc ha hb)
 | lt=>exact sv h (cQ ha hb)
 | le=>exact sv h (rU ha hb)
 | gt=>exact sv h (fv ha hb)
 | ge=>exact sv h (pf ha hb)
 | _=>exact nz h
theorem BO(E:Env loc σ k fs){m n:Nat}(h:cond (Nat.beq n k) (lG fs m) Option.none=some v):Ev S (.attr (.var n) m) loc σ v:=by
 cases hn:Nat.beq n k with
 | false=>rw[hn]at h;exact nz h
 | true=>
  rw[hn]at h;rcases E with rfl|⟨d,cl,hg,hs⟩
  ·exact nz h
  ·exact aE (aa (Nat.eq_of_beq_eq_true hn▸hg)) hs h
theorem pg(E:Env loc σ k fs)(e:ME):∀v,evG loc k fs e=some v→Ev S e loc σ v:=
 ME.rec (motive_1:=fun e=>∀v,evG loc k fs e=some v→Ev S e loc σ v) (motive_2:=fun _=>True) (motive_3:=fun _=>True) (motive_4:=fun _=>True)
  (fun _ _ h=>sv h aJ) (fun _ _ h=>sv h qL) (fun _ h=>sv h Ak) (fun _ _ h=>sv h qG) (fun _ _ h=>aa h) (fun _ _ h=>sv h (fh rfl))
  (fun _ _ _ _ ha hb _ h=>by
   obtain⟨x,y,h1,h2,h⟩:=mY h;obtain⟨i,rfl,h⟩:=rG h;obtain⟨j,rfl,h⟩:=rG (x:=y) h;exact BN (ha _ h1) (hb _ h2) h)
  (fun _ _ _ ha hb _ h=>by
   obtain⟨x,y,h1,h2,h⟩:=mY h;obtain⟨i,rfl,h⟩:=rG h;obtain⟨j,rfl,h⟩:=rG (x:=y) h;exact BM (ha _ h1) (hb _ h2) h)
  (fun _ _ _ _ _ _ _ _ _ h=>nz h)
  (fun _ _ ha hb _ h=>by
   obtain⟨x,y,h1,h2,h⟩:=mY h;obtain⟨i,rfl,h⟩:=ot h;obtain⟨j,rfl,h⟩:=ot (x:=y) h;exact sv h (cq (ha _ h1) fun _=>hb _ h2))
  (fun _ _ ha hb _ h=>by
   obtain⟨x,y,h1,h2,h⟩:=mY h;obtain⟨i,rfl,h⟩:=ot h;obtain⟨j,rfl,h⟩:=ot (x:=y) h;exact sv h (dG (ha _ h1) fun _=>hb _ h2))
  (fun _ ha _ h=>by
   obtain⟨x,h1,h⟩:=uV h;obtain⟨i,rfl,h⟩:=ot h;exact sv h (jf (ha _ h1)))
  (fun _ _ _ _ _ _ _ h=>nz h) (fun m es _ _ h=>by
   cases m with
   | true=>exact nz h
   | false=>cases es with
    | nil=>exact sv h iN
    | cons _ _=>exact nz h) (fun _ _ _ h=>nz h) (fun _ h=>nz h)
  (fun e _ _ _ h=>by
   cases e with
   | var n=>exact BO E h
   | _=>exact nz h)
  (fun _ _ _ _ _ h=>nz h) (fun _ _ _ _ _ _ _ h=>nz h) (fun _ _ _ h=>nz h) (fun _ _ _ _ h=>nz h) (fun _ _ _ _ h=>nz h) (fun _ _ _ _ _ _ h=>nz h) (fun _ _ _ _ h=>nz h) (fun _ _ _ _ _ h=>nz h) (fun _ _ _ _ _ h=>nz h) (fun _ _ _ _ _ h=>nz h) (fun _ _ _ _ _ _ _ _ _ _ h=>nz h)
  (fun _ _=>trivial) (fun _ _=>trivial) (fun _ _ _ _=>trivial) (fun _ _=>trivial) trivial (fun _ _ _ _=>trivial) trivial (fun _ _=>trivial) e
noncomputable def tD(loc:List PV)(k:Nat)(fs:List (Nat×PV)):List ME→Option (List PV)
 | []=>some []
 | e::es=>match evG loc k fs e with
  | some v=>match tD loc k fs es with
   | some vs=>some (v::vs)
   | Option.none=>Option.none
  | Option.none=>Option.none
theorem psg(E:Env loc σ k fs){es:List ME}:∀{vs:List PV},tD loc k fs es=some vs→Evs S es loc σ vs:=by
 induction es with
 | nil=>intro vs h;cases h;exact aD
 | cons e es ih=>
  intro vs h;unfold tD at h;cases h1:evG loc k fs e with
  | none=>rw[h1]at h;cases h
  | some v=>
   cases h2:tD loc k fs es with
   | none=>rw[h1,h2]at h;cases h
   | some ws=>
    rw[h1,h2]at h;cases h;exact ae (pg E e _ h1) (ih h2)
theorem pe(h:evG loc 0 [] e=some v):Ev S e loc σ v:=pg (.inl rfl) e v h
theorem pa{es:List ME}{vs:List PV}(h:tD loc 0 [] es=some vs):Evs S es loc σ vs:=psg (.inl rfl) h
theorem p0{d cl:Nat}{l:List PV}(hs:σ d=some (.inst cl fs))(h:evG (.obj d::l) 0 fs e=some v):Ev S e (.obj d::l) σ v:=pg (.inr ⟨d,cl,rfl,hs⟩) e v h
theorem p1{d cl:Nat}{w:PV}{l:List PV}(hs:σ d=some (.inst cl fs))(h:evG (w::.obj d::l) 1 fs e=some v):Ev S e (w::.obj d::l) σ v:=pg (.inr ⟨d,cl,rfl,hs⟩) e v h
theorem pa0{d cl:Nat}{l:List PV}{es:List ME}{vs:List PV}(hs:σ d=some (.inst cl fs))(h:tD (.obj d::l) 0 fs es=some vs):Evs S es (.obj d::l) σ vs:=psg (.inr ⟨d,cl,rfl,hs⟩) h
theorem pi{i j:Int}(h:evG loc 0 [] e=some (.int i))(hi:i=j):Ev S e loc σ (.int j):=hi▸pe h
theorem p0i{d cl:Nat}{l:List PV}{i j:Int}(hs:σ d=some (.inst cl fs))(h:evG (.obj d::l) 0 fs e=some (.int i))(hi:i=j):Ev S e (.obj d::l) σ (.int j):=hi▸p0 hs h
noncomputable def xg(loc:List PV):List (Nat×ME)→Option (List (Nat×PV))
 | []=>some []
 | p::r=>match evG loc 0 [] p.2 with
  | some v=>match xg loc r with
   | some l=>some ((p.1,v)::l)
   | Option.none=>Option.none
  | Option.none=>Option.none
noncomputable def AK:Nat→List (Nat×ME)→Bool
 | _,[]=>true
 | k,p::r=>cond (Nat.blt k p.1) (AK p.1 r) false
theorem uq{n k:Nat}{v:PV}(h:k<n){fs:List (Nat×PV)}(hk:∀p∈fs,p.1≤k):gR fs n v=fs++[(n,v)]:=by
 induction fs with
 | nil=>rfl
 | cons p fs ih=>
  have hp:=hk p List.mem_cons_self;show cond (p.1==n) ((n,v)::fs) (p::gR fs n v)=_;rw[(beq_eq_false_iff_ne (a:=p.1) (b:=n)).mpr (Nat.ne_of_lt (Nat.lt_of_le_of_lt hp h)),ih fun q hq=>hk q (List.mem_cons_of_mem _ hq)];rfl
theorem BD{K:KO}{d cl:Nat}{l:List PV}{r:List MS}(ms:List (Nat×ME)):∀{fs fs':List (Nat×PV)} (k:Nat),fs.length+ms.length≤999→(∀p∈fs,p.1≤k)→AK k ms=true→xg (.obj d::l) ms=some fs'→al ai S r (.obj d::l) (σ.set d (.inst cl (fs++fs'))) K→al ai S (ms.map (fun p=>MS.setattr (.var 0) p.1 p.2)++r) (.obj d::l) (σ.set d (.inst cl fs)) K:=by
 induction ms with
 | nil=>
  intro fs fs' k hz hk ha h h';cases h;rw[List.append_nil]at h';exact h'
 | cons p ms ih=>
  intro fs fs' k hz hk ha h h';unfold xg at h;cases hv:evG (.obj d::l) 0 [] p.2 with
  | none=>rw[hv]at h;cases h
  | some v=>
   cases hr:xg (.obj d::l) ms with
   | none=>rw[hv,hr]at h;cases h
   | some vs=>
    rw[hv,hr]at h;cases h;unfold AK at ha;cases hb:Nat.blt k p.1 with
    | false=>rw[hb]at ha;cases ha
    | true=>
     rw[hb]at ha;have hlt:k<p.1:=Nat.le_of_ble_eq_true hb;have hz:fs.length+1+ms.length≤999:=by rw[Nat.add_assoc,Nat.add_comm 1];exact hz
     refine dR (pe hv) (aa rfl) (Nat.ble_eq_true_of_le (Nat.succ_le_succ (Nat.le_trans (Nat.le_add_right _ _) (Nat.le_trans (Nat.add_le_add_right (Nat.le_succ _) _) hz)))) (uq hlt hk) (ih p.1 (by rw[List.length_append];exact hz) (fun q hq=>?_) ha hr (by rw[List.append_assoc];exact h'));rcases List.mem_append.mp hq with hq|hq
     ·exact Nat.le_of_lt (Nat.lt_of_le_of_lt (hk q hq) hlt)
     ·rw[List.mem_singleton.mp hq];exact Nat.le_refl _
theorem Al{a:ME}{d:Nat}(ha:Ev S a loc σ (.obj d)):Ev S (.cmp .is a .none) loc σ (.bool false):=fun _ q=>ha _ q
theorem Am{a b:ME}(ha:Ev S a loc σ .none):Ev S (.and (.cmp .isnot a .none) b) loc σ (.bool false):=fun _ q=>ha _ q
theorem ou{α:Type}{l:List α}{x a:α}(h:x∉l)(h':x≠a):x∉l++[a]:=fun z=>(List.mem_append.mp z).elim h fun z=>h' (List.mem_singleton.mp z)
theorem pK{n d cl:Nat}(hg:js loc n=some (.obj d))(hs:σ d=some (.inst cl fs))(h:evG loc n fs e=some v):Ev S e loc σ v:=pg (.inr ⟨d,cl,hg,hs⟩) e v h
variable {Q:KV} {K:KO} {es:List ME} {vs ws:List PV} {r:List MS} {f n d cl:Nat} {o:ME} {s:List PV→Sto→KV→Prop}
theorem y_c(h:Evs S es loc σ vs)(hf:dQ ai f vs=ws)(hS:S f=s)(hc:s ws σ Q):ac ai S (.call f es) loc σ Q:=Dn h hf (by rw[hS];exact hc)
theorem y_m(ho:Ev S o loc σ (.obj d))(hs:σ d=some (.inst cl fs))(hm:dq cl n=some f)(h:Evs S es loc σ vs)(hf:dQ ai f (.obj d::vs)=ws)(hS:S f=s)(hc:s ws σ Q):ac ai S (.meth o n es) loc σ Q:=Dl ho hs hm h hf (by rw[hS];exact hc)
theorem bb(h:Evs S es loc σ vs)(hf:dQ ai f vs=ws)(hS:S f=s)(hc:∀Q:KV,Q v σ→s ws σ Q):Ev S (.call f es) loc σ v:=vR h hf (by rw[hS];exact hc)
theorem gy(ho:Ev S o loc σ (.obj d))(hs:σ d=some (.inst cl fs))(hm:dq cl n=some f)(h:Evs S es loc σ vs)(hf:dQ ai f (.obj d::vs)=ws)(hS:S f=s)(hc:∀Q:KV,Q v σ→s ws σ Q):Ev S (.meth o n es) loc σ v:=Cm ho hs hm h hf (by rw[hS];exact hc)
end
end Mine
end
section
namespace Mine
theorem g1:ai.glob 1=.int 32:=rfl
theorem g2:ai.glob 2=.int 9:=rfl
theorem g3:ai.glob 3=.int 10:=rfl
theorem g4:ai.glob 4=.int 46:=rfl
end Mine
end
section
namespace Mine
noncomputable def br(c:Int):Bool:=c==32||(c==9||c==10)
noncomputable def rM(c:Int):Bool:=[34,39,41,93,125].contains c
noncomputable def vm(c:Int):Bool:=[33,46,63].contains c
noncomputable def jh(w:List Int):Bool:=match w.reverse.dropWhile rM with
 | c::_=>vm c
 | []=>false
noncomputable abbrev aj:=List Int×Int
noncomputable def ez(w b:List Int):Int:=if jh w then(if b.contains 10||decide (1<b.length)then 2 else 1)else 1
noncomputable def ao:List Int→List Int×List (List Int×List Int)
 | []=>([],[])
 | c::r=>if br c then(c::(ao r).1,(ao r).2)else match (ao r).1,(ao r).2 with
  | [],(w,g)::ps=>([],(c::w,g)::ps)
  | b,ps=>([],([c],b)::ps)
noncomputable def aB(l:List Int):List aj:=(ao l).2.map fun p=>(p.1,ez p.1 p.2)
noncomputable def bV(p:aj):Bool:=decide (1<p.2)||p.1.getLast? != some 46
noncomputable def rowEndF(width:Int):Int→Nat→Nat→List aj→Nat
 | _,_,n,[]=>n
 | used,best,n,p::r=>
  if width<used+p.1.length∧0<best then best
  else if r=[]∨bV p=true then(if width<used+p.1.length then n+1 else rowEndF width (used+p.1.length+p.2) (n+1) (n+1) r)
  else rowEndF width (used+p.1.length+p.2) best (n+1) r
noncomputable def aW(width:Int)(ps:List aj):Nat:=rowEndF width 0 0 0 ps
noncomputable def bL:Nat→Int→Int→List aj→List (List aj)
 | 0,_,_,_=>[]
 | n+1,w0,w,ps=>if ps=[]then[]else ps.take (aW w0 ps)::bL n w w (ps.drop (aW w0 ps))
noncomputable def cg(w0 w:Int)(ps:List aj):List (List aj):=bL ps.length w0 w ps
noncomputable def jR(row:List aj):Int:=(row.map fun p=>(p.1.length:Int)+p.2).sum
noncomputable def ba(row:List aj):Int:=match row.getLast? with
 | some p=>jR row-p.2
 | none=>0
noncomputable def az:List aj→List Int→List Int
 | [],_=>[]
 | [p],_=>p.1
 | p::r,g::gs=>p.1++List.replicate g.toNat 32++az r gs
 | p::_,[]=>p.1
noncomputable def aq(row:List aj):List Int:=row.map (·.2)
noncomputable def bc(row:List aj)(width:Int):List Int:=
 let many:=row.length-1
 let more:=width-ba row
 if many<1∨more≤0 then aq row
 else((List.range many).map fun p=>(aq row).getD p 0+more.fdiv many+if(p:Int)≥many-(more-more.fdiv many*many)then 1 else 0)++(aq row).drop many
noncomputable def a8(row:List aj)(width:Int)(way:Nat)(last:Bool):List Int:=
 if way=1∧last=false then az row (bc row width)
 else if width-(az row (aq row)).length≤0∨way=0∨way=1 then az row (aq row)
 else if way=2 then List.replicate (width-(az row (aq row)).length).toNat 32++az row (aq row)
 else List.replicate ((width-(az row (aq row)).length).fdiv 2).toNat 32++az row (aq row)
noncomputable def ii(col c:Int):Int:=if c=9 then(col.fdiv 8+1)*8 else col+1
noncomputable def bu(row:List Int):Int:=row.foldl ii 0
noncomputable def bY(L:List Int)(c:Int):Bool:=c==32||(c==9||L.contains c)
noncomputable def aG(L row:List Int):List Int:=row.takeWhile (bY L)
noncomputable def aO:List Int→List Int→List Int
 | x::a,y::b=>if x=y then x::aO a b else[]
 | _,_=>[]
noncomputable def bn(l:List Int):Bool:=l.all fun c=>c==32||c==9
noncomputable def aA(L:List Int):List (List Int)→List Int×List Int
 | []=>([],[])
 | [r]=>(aG L r,if bn (aG L r)then aG L r else[])
 | r0::r1::rs=>(aG L r0,rs.foldl (fun a r=>aO a (aG L r)) (aG L r1))
noncomputable def aC(L:List Int)(rows:List (List Int)):List Int:=
 (rows.headD []).drop (aA L rows).1.length++rows.tail.flatMap fun r=>10::r.drop (aA L rows).2.length
noncomputable def aY(col:Int)(L:List Int)(rows:List (List Int)):List (List aj):=
 cg (col-bu (aA L rows).1) (col-bu (aA L rows).2) (aB (aC L rows))
noncomputable def bh(col:Int)(way:Nat)(first rest:List Int)(n i:Nat)(part:List aj):List Int:=
 if i=0 then first++a8 part (col-bu first) way (i+1==n)else rest++a8 part (col-bu rest) way (i+1==n)
noncomputable def aH(col:Int)(way:Nat)(L:List Int)(rows:List (List Int)):List (List Int):=
 (aY col L rows).zipIdx.map fun p=>bh col way (aA L rows).1 (aA L rows).2 (aY col L rows).length p.2 p.1
noncomputable def ah:List Int→List (List Int)
 | []=>[[]]
 | c::r=>if c=10 then[]::ah r else match ah r with
  | h::t=>(c::h)::t
  | []=>[[c]]
noncomputable def ad:List (List Int)→List Int
 | []=>[]
 | [r]=>r
 | r::rs=>r++10::ad rs
noncomputable def aK(L row:List Int):Bool:=(aG L row).length==row.length
noncomputable def bj(col:Int)(way:Nat)(L:List Int):List (List Int)→List (List Int)→List (List Int)
 | par,[]=>if par=[]then[]else aH col way L par
 | par,r::rs=>if aK L r then(if par=[]then[]else aH col way L par)++r::bj col way L [] rs else bj col way L (par++[r]) rs
noncomputable def aV(col:Int)(way:Nat)(L codes:List Int):List Int:=ad (bj col way L [] (ah codes))
noncomputable def sub(l:List Int)(a b:Nat):List Int:=(l.take b).drop a
noncomputable def cG:Nat→List (List Int×List Int)→List (Nat×Nat)
 | _,[]=>[]
 | n,p::ps=>(n,n+p.1.length)::cG (n+p.1.length+p.2.length) ps
noncomputable def ct(n:Nat)(l:List Int):List (Nat×Nat):=cG (n+(ao l).1.length) (ao l).2
noncomputable def bm(l:List Int):List (Nat×Nat):=ct 0 l
noncomputable def j9(old w:List Int)(spans:List (Nat×Nat))(n:Nat):Option Nat:=(((spans.drop n).take 4).findIdx? fun s=>sub old s.1 s.2==w).map (n+·)
noncomputable def cW(old new:List Int)(spans:List (Nat×Nat)):Nat→List (Nat×Nat)→List ((Nat×Nat)×(Nat×Nat))
 | _,[]=>[]
 | n,s::r=>match j9 old (sub new s.1 s.2) spans n with
  | some m=>(spans.getD m (0,0),s)::cW old new spans (m+1) r
  | none=>cW old new spans n r
noncomputable def dE(old new:List Int):List ((Nat×Nat)×(Nat×Nat)):=cW old new (bm old) 0 (bm new)
noncomputable def ch(s e:Nat)(old own:List Int):Nat×Nat×List Int:=
 let a:=(aO (sub old s e) own).length
 let b:=(aO ((sub old s e).drop a).reverse (own.drop a).reverse).length
 (s+a,e-b,sub own a (own.length-b))
noncomputable def bD(old new:List Int):Nat→Nat→List ((Nat×Nat)×(Nat×Nat))→List (Nat×Nat×List Int)
 | _,_,[]=>[]
 | n,m,k::r=>(if sub old n k.1.1=sub new m k.2.1 then[]else[ch n k.1.1 old (sub new m k.2.1)])++bD old new k.1.2 k.2.2 r
noncomputable def a9(old new:List Int):List (Nat×Nat×List Int):=bD old new 0 0 (dE old new++[((old.length,old.length),(new.length,new.length))])
noncomputable def ak(t:List Int)(p:Nat):Nat:=p-((t.take (p-1)).reverse.takeWhile (·!= 10)).length
noncomputable def aQ(t:List Int)(p:Nat):Nat:=p+((t.drop (p-1)).takeWhile (·!= 10)).length
noncomputable def eo(t:List Int)(p:Nat):List Int:=sub t (ak t p-1) (aQ t p-1)
end Mine
end
section
namespace Mine
noncomputable def Bd(Sx:Spec)(n:Nat)(b:List MS)(k:Nat)(vs:List PV)(σ:Sto)(Q:KV):Prop:=vs.length=n∧al ai Sx b (vs++List.replicate k .undef) σ (Ret Q)
section
variable {Sx:Spec} {σ:Sto} {Q:KV} {vs:List PV}
noncomputable def s16(vs:List PV)(σ:Sto)(Q:KV):Prop:=∃c,vs=[.int c]∧Q (.bool (br c)) σ
theorem k16(h:s16 vs σ Q):Bd Sx 1 b16 0 vs σ Q:=by
 obtain⟨c,rfl,h⟩:=h;exact⟨rfl,x_r (pe rfl) (Wk.same h)⟩
noncomputable def s17(vs:List PV)(σ:Sto)(Q:KV):Prop:=∃w,vs=[eI w]∧Q (.bool (jh w)) σ
theorem xh{w:List Int}{k:Nat}(h:k<w.length):w.reverse[k]? = w[w.length-1-k]? :=by
 rw[List.getElem?_reverse h]
theorem k17(h:s17 vs σ Q):Bd Sx 1 b17 1 vs σ Q:=by
 obtain⟨w,rfl,h⟩:=h;have hv:∀{q:Int→Bool} {k:Nat},(decide ((w.length:Int)-1-k≥0)&&q (w.getD (w.length-1-k) 0))=pk w.reverse q k:=fun{q k}=>by
  by_cases hk:k<w.length
  ·unfold pk;rw[xh hk,aS (d:=0) (Nat.lt_of_le_of_lt (Nat.sub_le _ _) (Nat.sub_lt (Nat.zero_lt_of_lt hk) Nat.one_pos)),decide_eq_true (show(w.length:Int)-1-k≥0 by exact lz [_,_] [] [.l .p01 .x1] .k0 (.d (.d .x1 .k1) .x0) [] rfl (il hk))];rfl
  ·rw[kn (by rw[List.length_reverse];exact Nat.not_lt.mp hk),decide_eq_false (show ¬(w.length:Int)-1-k≥0 by exact fun zz=>lzf [_,_] [] _ [.l .x1 .x0,.l .k0 (.d (.d .x1 .k1) .x0)] [] rfl (il (Nat.not_lt.mp hk)) zz)];rfl
 have hi:∀{k:Nat} {a b:ME},Ev Sx b [eI w,.int ((w.length:Int)-1-k)] σ (.int ((w.length:Int)-1-k))→Ev Sx a [eI w,.int ((w.length:Int)-1-k)] σ (eI w)→decide ((w.length:Int)-1-k≥0)=true→Ev Sx (.sub a b) [eI w,.int ((w.length:Int)-1-k)] σ (.int (w.getD (w.length-1-k) 0)):=fun{k a b} hb ha c=>by
  have c:=of_decide_eq_true c;exact aZ (f:=PV.int) ha (ay hb (congrArg PV.int (show(w.length:Int)-1-k=((w.length-1-k:Nat):Int) by exact lze [_,_,_,_] [] [.f (.a .x2 .x1) .x3,.f .p31 .x0,.e (.a .x2 .x1) .x3,.e .p31 .x0] (.d (.d .x0 .k1) .x1) .x2 [1,1,0,0] [0,0] rfl rfl (ie (su (io (lz [_,_,_] [] [.l .k0 (.d (.d .x0 .k1) .x1),.l .x0 .p21] .x1 .x2 [] rfl c (il sl))))) (ie (su (io (lz [_,_] [] [.l .k0 (.d (.d .x0 .k1) .x1)] .k1 .x0 [] rfl c)))) (ie (su (io (lz [_,_,_] [] [.l .k0 (.d (.d .x0 .k1) .x1),.l .x0 .p21] .x1 .x2 [] rfl c (il sl))))) (ie (su (io (lz [_,_] [] [.l .k0 (.d (.d .x0 .k1) .x1)] .k1 .x0 [] rfl c))))))) (aS (by exact ln [_,_,_] [.l .x1 .x2,.e .p21 .x0] .p11 .x0 [] rfl sb (su (io (lz [_,_] [] [.l .k0 (.d (.d .x0 .k1) .x1)] .k1 .x0 [] rfl c)))))
 refine⟨rfl,x_a (ay (aT (aw (aa rfl)) aJ) (congrArg PV.int (Int.sub_zero _).symm)) rfl (tZ 0 w.length (pk w.reverse rM) (fun k=>[eI w,.int ((w.length:Int)-1-k)]) rfl (fun k hk=>kn (by rw[List.length_reverse];exact hk)) (fun k=>ay (cq (pf (aa rfl) aJ) fun c=>vL (hi (aa rfl) (aa rfl) c) (fh rfl) rfl) (congrArg PV.bool hv)) (fun k K h=>x_a (ay (aT (aa rfl) aJ) (congrArg PV.int (Int.sub_sub _ _ _))) rfl (x_n h)) fun m _ h1 h2=>x_r (ay (cq (pf (aa rfl) aJ) fun c=>vL (hi (aa rfl) (aa rfl) c) (fh rfl) rfl) (congrArg PV.bool (hv (q:=vm)))) (Wk.same ?_))⟩;have e:=(kb w.reverse m (fun j hj=>h1 j (Nat.zero_le _) hj) h2).2;unfold jh at h;rw[e]at h
 by_cases hk:m<w.reverse.length
 ·rw[List.drop_eq_getElem_cons hk]at h;unfold pk;rw[List.getElem?_eq_getElem hk];exact h
 ·rw[List.drop_eq_nil_of_le (Nat.not_lt.mp hk)]at h;rw[kn (Nat.not_lt.mp hk)];exact h
noncomputable def s18(vs:List PV)(σ:Sto)(Q:KV):Prop:=∃w b,vs=[eI w,eI b]∧Q (.int (ez w b)) σ
theorem k18(h17:Sx 17=s17)(h:s18 vs σ Q):Bd Sx 2 b18 0 vs σ Q:=by
 obtain⟨w,b,rfl,h⟩:=h;unfold ez at h;refine⟨rfl,f8 (jf (bb (pa rfl) rfl h17 fun Q q=>⟨w,rfl,q⟩)) (fun c=>x_r aJ (Wk.same ?_)) fun c=>x_r (pd (dG (y:=decide (1<b.length)) (yo (fh rfl) (aa rfl)) fun _=>ay (fv (aw (aa rfl)) aJ) (congrArg PV.bool (decide_eq_decide.mpr (Int.ofNat_lt (n:=1))))) aJ aJ) (Wk.same ?_)⟩
 ·rw[if_neg (by rw[bnt c];exact Bool.false_ne_true)]at h;exact h
 ·rw[if_pos (bnf c)]at h;exact h
theorem gY:∀(u r:List Int),(∀c∈u,br c=true)→ao (u++r)=(u++(ao r).1,(ao r).2)
 | [],r,_=>rfl
 | c::u,r,h=>by
  have ih:=gY u r fun x hx=>h x (List.mem_cons_of_mem _ hx)
  show ao (c::(u++r))=_
  conv=>lhs;unfold ao
  rw[if_pos (h c List.mem_cons_self),ih];rfl
theorem qi{r:List Int}(h:∀c,r.head? = some c→br c=true)(h2:(ao r).1=[]):r=[]:=by
 cases r with
 | nil=>rfl
 | cons c r=>
  unfold ao at h2;rw[if_pos (h c rfl)]at h2;cases h2
theorem kr{c:Int}{r:List Int}(h:br c=false):(ao (c::r)).1=[]:=by
 unfold ao;rw[h];simp only[Bool.false_eq_true,if_false]
 split<;>rfl
theorem eY:∀(u r:List Int),u≠[]→(∀c∈u,br c=false)→(∀c,r.head? = some c→br c=true)→ao (u++r)=([],(u,(ao r).1)::(ao r).2)
 | [],_,h,_,_=>(h rfl).elim
 | [c],r,_,h,hr=>by
  have hc:=h c List.mem_cons_self;show ao (c::r)=_
  conv=>lhs;unfold ao
  rw[hc];simp only[Bool.false_eq_true,if_false];split
  ·rename_i w g ps e1 e2
   have:=qi hr e1;subst this;cases e2
  ·rfl
 | c::d::u,r,_,h,hr=>by
  have hc:=h c List.mem_cons_self;have ih:=eY (d::u) r (by simp) (fun x hx=>h x (List.mem_cons_of_mem _ hx)) hr;show ao (c::(d::u++r))=_
  conv=>lhs;unfold ao
  rw[hc,ih];rfl
theorem eG{p:Int→Bool}{l:List Int}:∀c∈l.takeWhile p,p c=true:=by
 intro c h
 induction l with
 | nil=>cases h
 | cons x l ih=>
  unfold List.takeWhile at h;split at h
  ·rename_i hx;rcases List.mem_cons.mp h with rfl|h
   ·exact hx
   ·exact ih h
  ·cases h
theorem c8{p:Int→Bool}:∀{l:List Int} {c:Int},(l.dropWhile p).head? = some c→p c=false
 | [],_,h=>by cases h
 | x::l,c,h=>by
  unfold List.dropWhile at h;split at h
  ·exact c8 h
  ·rename_i hx;cases h;simpa using hx
noncomputable def nBl(c:Int):Bool:=!br c
theorem i8(l:List Int):ao l=(l.takeWhile br++(ao (l.dropWhile br)).1,(ao (l.dropWhile br)).2):=by
 conv=>lhs;rw[←List.takeWhile_append_dropWhile (p:=br) (l:=l)]
 exact gY _ _ fun c h=>eG c h
theorem qh{l:List Int}(h:∃c,l.head? = some c∧br c=false):ao l=([],(l.takeWhile nBl,((l.dropWhile nBl).takeWhile br))::(ao ((l.dropWhile nBl).dropWhile br)).2):=by
 have hne:l.takeWhile nBl≠[]:=by
  obtain⟨c,hc,hb⟩:=h;cases l with
  | nil=>cases hc
  | cons x l=>cases hc;simp[List.takeWhile,nBl,hb]
 have:=eY (l.takeWhile nBl) (l.dropWhile nBl) hne (fun c hc=>by simpa [nBl]using eG c hc) (fun c hc=>by simpa [nBl]using c8 hc);rw[List.takeWhile_append_dropWhile]at this;rw[this,i8 (l.dropWhile nBl)];have h0:(ao ((l.dropWhile nBl).dropWhile br)).1=[]:=by
  cases e:(l.dropWhile nBl).dropWhile br with
  | nil=>rfl
  | cons x r=>exact kr (c8 (l:=l.dropWhile nBl) (by rw[e];rfl))
 rw[h0,List.append_nil]
noncomputable def s19(vs:List PV)(σ:Sto)(Q:KV):Prop:=∃l,vs=[eI l]∧l.length≤big∧Q (ePs (aB l)) σ
theorem zC{l:List Int}:s19 [eL PV.int l] σ Q=(l.length≤big∧Q (ePs (aB l)) σ):=by
 simp only[s19,List.cons.injEq,Ar,and_true,eq_iff_iff];exact⟨fun⟨_,rfl,h⟩=>h,fun h=>⟨_,rfl,h⟩⟩
inductive I19(l:List Int)(σ:Sto)(a:Nat):Nat→List PV→Sto→Prop
 | mk {k:Nat} {acc:List aj} {e f:PV} (hk:k≤l.length) (hd:∀c,(l.drop k).head? = some c→br c=false) (hp:acc++aB (l.drop k)=aB l) (hz:acc.length≤k):I19 l σ a (l.length-k) [eI l,.obj a,.int (k:Nat),e,f] (σ.set a (.list (acc.map eP)))
theorem k19(h16:Sx 16=s16)(h18:Sx 18=s18)(h:s19 vs σ Q):Bd Sx 1 b19 4 vs σ Q:=by
 obtain⟨l,rfl,hl,h⟩:=h;have q16:∀{z:Int} (Q:KV),Q (.bool (br z)) σ→s16 [.int z] σ Q:=fun Q q=>⟨_,rfl,q⟩
 refine⟨rfl,fz (fun d=>rfl) fun a ha=>x_a aJ rfl (jK (f:=PV.int) (p:=br) (fun k:Nat=>[eI l,.obj a,.int k,.undef,.undef]) 0 rfl (fun _=>rfl) (fun _=>rfl) (fun _=>rfl) (Nat.zero_le _) (fun m z hz=>bb (ae (aZ (f:=PV.int) (aa rfl) (aa rfl) hz) aD) rfl h16 fun Q q=>⟨_,rfl,q⟩) fun m _ hm _ e2=>mL (I19 l σ a) _ (.mk (acc:=[]) hm (fun c hc=>c8 (l:=l) (by rw[←e2]at hc;exact hc)) (by
  rw[←e2];unfold aB;rw[i8 l];rfl) (Nat.zero_le _)) fun n loc τ I=>?_)⟩
 clear e2 hm
 induction I with| @mk k acc e f hk hd hp hz=>?_
 refine⟨decide (k<l.length),ay (cQ (aa rfl) (aw (aa rfl))) (congrArg PV.bool (decide_eq_decide.mpr Int.ofNat_lt)),fun c K _ hK=>?_,fun c=>?_⟩
 ·have hlt:=of_decide_eq_true c;have hx:=hd l[k] (by rw[List.head?_drop,List.getElem?_eq_getElem hlt]);refine x_a (aa rfl) rfl (jK (f:=PV.int) (p:=nBl) (fun j:Nat=>[eI l,.obj a,.int (k:Nat),.int j,f]) k rfl (fun _=>rfl) (fun _=>rfl) (fun _=>rfl) hk (fun m z hz=>jf (bb (ae (aZ (f:=PV.int) (aa rfl) (aa rfl) hz) aD) rfl h16 fun Q q=>⟨_,rfl,q⟩)) fun m hkm hml s1 s2=>x_a (aa rfl) rfl (jK (f:=PV.int) (p:=br) (fun j:Nat=>[eI l,.obj a,.int (k:Nat),.int (m:Nat),.int j]) m rfl (fun _=>rfl) (fun _=>rfl) (fun _=>rfl) hml (fun m z hz=>bb (ae (aZ (f:=PV.int) (aa rfl) (aa rfl) hz) aD) rfl h16 fun Q q=>⟨_,rfl,q⟩) fun m' hmm hml' s3 s4=>?_));have hne:k<m:=Nat.lt_of_le_of_ne hkm fun z=>by
   subst z;rw[List.drop_eq_nil_of_le (List.length_take_le _ _),List.drop_eq_getElem_cons hlt,List.takeWhile_cons_of_pos (by unfold nBl;rw[hx];rfl)]at s1;cases s1
  refine x_E (ll (f:=eP) (x:=((l.take m).drop k,ez ((l.take m).drop k) ((l.take m').drop m))) (aa rfl) (gz (ae (eg (aa rfl) (aa rfl) (aa rfl)) (ae (bb (ae (eg (aa rfl) (aa rfl) (aa rfl)) (ae (eg (aa rfl) (aa rfl) (aa rfl)) aD)) rfl h18 fun Q q=>⟨_,_,rfl,q⟩) aD)) rfl) (by exact ln [_,_,_,_] [.l .x0 .x1,.l .x3 .x2,.l .p21 .x0] .p31 .x1 [] rfl hl hz hlt) (x_a (aa rfl) rfl (x_n (hK _ _ _ (by exact ln [_,_,_,_,_,_] [.l .x2 .x3,.l .p11 .x2,.e (.a .x4 .x3) .x0,.f (.a .x5 .x1) .x0] .p41 .x5 [] rfl hmm hne (su hml') (su hk)) (.mk hml' (fun c hc=>c8 (l:=l.drop m) (by rw[s4];exact hc)) ?_ (by rw[List.length_append,List.length_singleton];exact ln [_,_,_,_] [.l .x1 .x0,.l .x2 .x3,.l .p01 .x2] .p11 .x3 [] rfl hz hmm hne))))));rw[←hp];unfold aB;rw[qh (l:=l.drop k) ⟨l[k],by rw[List.head?_drop,List.getElem?_eq_getElem hlt],hx⟩,s1,s2,s3,s4,List.append_assoc];rfl
 ·rw[List.drop_eq_nil_of_le (Nat.not_lt.mp (of_decide_eq_false c)),show aB []=[]from rfl,List.append_nil]at hp;subst hp;exact x_r (aa rfl) (Wk.frz ha h)
end
end Mine
end
section
namespace Mine
section
variable {Sx:Spec} {σ:Sto} {Q:KV} {vs:List PV}
noncomputable def s20(vs:List PV)(σ:Sto)(Q:KV):Prop:=∃p,vs=[eP p]∧p.1≠[]∧Q (.bool (bV p)) σ
theorem k20(h:s20 vs σ Q):Bd Sx 1 b20 2 vs σ Q:=by
 obtain⟨p,rfl,hp,h⟩:=h;refine⟨rfl,x_t (aa (v:=eP p) rfl) (x_r (r:=[]) (dG (fv (aa rfl) aJ) fun _=>pc (rV (f:=PV.int) (aa rfl) (aT (aw (aa rfl)) aJ) hp) (fh rfl)) (Wk.same ?_))⟩;unfold bV at h;rw[List.getLast?_eq_some_getLast hp]at h;exact h
theorem gf(width:Int)(r:List aj):∀(used:Int) (best n:Nat),best≤n→best≤rowEndF width used best n r∧rowEndF width used best n r≤n+r.length∧(0<best∨0<n∨r≠[]→1≤rowEndF width used best n r):=by
 induction r with
 | nil=>exact fun used best n h=>⟨h,Nat.le_refl _,fun z=>z.elim (fun z=>Nat.le_trans z h) fun z=>z.elim id fun z=>absurd rfl z⟩
 | cons p r ih=>
  intro used best n h;obtain⟨a1,a2,a3⟩:=ih (used+p.1.length+p.2) (n+1) (n+1) (Nat.le_refl _);obtain⟨b1,b2,b3⟩:=ih (used+p.1.length+p.2) best (n+1) (Nat.le_succ_of_le h);unfold rowEndF;rw[List.length_cons];split
  ·rename_i c;exact⟨Nat.le_refl _,Nat.le_trans h (Nat.le_add_right _ _),fun _=>c.2⟩
  ·split
   ·split
    ·exact⟨Nat.le_succ_of_le h,Nat.add_le_add_left (Nat.succ_pos _) n,fun _=>Nat.succ_pos n⟩
    ·exact⟨Nat.le_trans (Nat.le_succ_of_le h) a1,by rw[Nat.add_comm r.length,←Nat.add_assoc];exact a2,fun _=>a3 (.inl (Nat.succ_pos n))⟩
   ·exact⟨b1,by rw[Nat.add_comm r.length,←Nat.add_assoc];exact b2,fun _=>b3 (.inr (.inl (Nat.succ_pos n)))⟩
theorem bU{width:Int}{ps:List aj}(h:ps≠[]):1≤aW width ps:=(gf width ps 0 0 0 (Nat.le_refl _)).2.2 (.inr (.inr h))
theorem l4{width:Int}{ps:List aj}:aW width ps≤ps.length:=by
 have:=(gf width ps 0 0 0 (Nat.le_refl _)).2.1;unfold aW;exact ln [_,_] [.l .x0 (.a .k0 .x1)] .x0 .x1 [] rfl this
noncomputable def s21(vs:List PV)(σ:Sto)(Q:KV):Prop:=∃(ps:List aj) (first:Nat) (width:Int),vs=[ePs ps,.int first,.int width]∧(∀p∈ps,p.1≠[])∧first≤ps.length∧Q (.int ((first+aW width (ps.drop first):Nat):Int)) σ
theorem zB{ps:List aj}{first:Nat}{width:Int}(h1:∀p∈ps,p.1≠[])(h2:first≤ps.length)(h:Q (.int ((first+aW width (ps.drop first):Nat):Int)) σ):s21 [ePs ps,.int first,.int width] σ Q:=⟨ps,first,width,rfl,h1,h2,h⟩
inductive I21(ps:List aj)(first:Nat)(width:Int)(σ:Sto):Nat→List PV→Sto→Prop
 | mk {used:Int} {best k:Nat} {x y:PV} (hk:first+k≤ps.length) (hb:best≤k) (he:rowEndF width used best k (ps.drop (first+k))=aW width (ps.drop first)):I21 ps first width σ (ps.length-(first+k)) [ePs ps,.int first,.int width,.int used,.int ((first+best:Nat):Int),.int ((first+k:Nat):Int),x,y] σ
theorem k21(h20:Sx 20=s20)(h:s21 vs σ Q):Bd Sx 3 b21 5 vs σ Q:=by
 obtain⟨ps,first,width,rfl,hp,hf,h⟩:=h;refine⟨rfl,x_a aJ rfl (x_a (aa rfl) rfl (x_a (aa rfl) rfl (mL (I21 ps first width σ) (ps.length-(first+0)) (.mk hf (Nat.le_refl _) rfl) fun n loc τ hI=>?_)))⟩
 induction hI with| @mk used best k x y hk hb he=>?_
 refine⟨decide (first+k<ps.length),ay (cQ (aa rfl) (aw (aa rfl))) (congrArg PV.bool (decide_eq_decide.mpr Int.ofNat_lt)),fun c K hR hK=>?_,fun c=>?_⟩
 ·have hlt:=of_decide_eq_true c;have hg:=List.getElem?_eq_getElem hlt;have hx:=hp _ (List.getElem_mem hlt);rw[List.drop_eq_getElem_cons hlt]at he;have hlast:(((first+(k+1):Nat):Int)==ps.length)=true↔ps.drop (first+k+1)=[]:=by
   rw[List.drop_eq_nil_iff,beq_iff_eq];exact⟨fun z=>Nat.le_of_eq (Int.ofNat_inj.mp z).symm,fun z=>Int.ofNat_inj.mpr (Nat.le_antisymm hlt z)⟩
  have hN:∀{u b w g},b≤k+1→rowEndF width u b (k+1) (ps.drop (first+k+1))=aW width (ps.drop first)→K (.next [ePs ps,.int first,.int width,.int u,.int ((first+b:Nat):Int),.int ((first+(k+1):Nat):Int),w,g]) σ:=fun h1 h4=>hK _ _ _ (by exact ln [_,_,_,_,_] [.e (.a .x3 (.a .x0 .p21)) .x1,.f (.a .x4 (.a .x0 .x2)) .x1] .p31 .x4 [] rfl (su (ln [_,_,_] [.l (.a (.a .x0 .x2) .k1) .x1] (.a .x0 .p21) .x1 [] rfl hlt)) (su hk)) (.mk hlt h1 h4)
  have hr:∀{m},m=aW width (ps.drop first)→K (.ret (.int ((first+m:Nat):Int))) σ:=fun h2=>hR _ _ (Wk.same (h2▸h))
  clear hR hK h hp hk;generalize ps[first+k]=p at*;unfold rowEndF at he;refine x_t (aZ (f:=eP) (aa rfl) (aa rfl) hg) ((x_a (ev_add (aa rfl) (aw (aa rfl))) rfl (f8 (pe rfl) (fun c=>x_r (aa rfl) (hr ?_)) fun c=>(x_a (ay (ev_add (aa rfl) aJ) (show _=PV.int ((first+(k+1):Nat):Int)from rfl)) rfl (f8 (dG (cR (aa rfl) (aw (aa rfl))) fun _=>bb (ae (aZ (aa rfl) (ay (aT (aa rfl) aJ) (congrArg PV.int (show((first+(k+1):Nat):Int)-1=((first+k:Nat):Int)from Int.add_sub_cancel ((first+k:Nat):Int) 1))) hg) aD) rfl h20 fun Q q=>⟨p,rfl,hx,q⟩) (fun c2=>x_a (aa rfl) rfl (f8 (pe rfl) (fun c3=>x_r (aa rfl) (hr ?_)) fun c3=>x_z (x_a (pe rfl) rfl (x_n (hN (Nat.le_refl _) ?_))))) fun c2=>(x_a (pe rfl) rfl (x_n (hN (Nat.le_succ_of_le hb) ?_))))))))
  ·rw[if_pos ((Bool.and_eq_true_iff.mp c).imp of_decide_eq_true fun z=>Nat.lt_add_right_iff_pos.mp (Int.ofNat_lt.mp (of_decide_eq_true z)))]at he;exact he
  all_goals
   rw[if_neg fun z=>by rw[Bool.and_eq_false_iff]at c;exact c.elim (fun c=>of_decide_eq_false c z.1) fun c=>of_decide_eq_false c (Int.ofNat_lt.mpr (Nat.lt_add_right_iff_pos.mpr z.2))]at he
  ·rw[if_pos ((Bool.or_eq_true_iff.mp c2).imp hlast.mp id),if_pos (of_decide_eq_true c3)]at he;exact he
  ·rw[if_pos ((Bool.or_eq_true_iff.mp c2).imp hlast.mp id),if_neg (of_decide_eq_false c3)]at he;exact he
  ·rw[if_neg fun z=>by have:=Bool.or_eq_true_iff.mpr (z.imp hlast.mpr id);rw[c2]at this;cases this]at he;exact he
 ·have hlt:=Nat.not_lt.mp (of_decide_eq_false c);rw[List.drop_eq_nil_of_le hlt]at he;rw[←(show k=_ from he),Nat.le_antisymm hk hlt]at h;exact x_r (aw (aa rfl)) (Wk.same h)
theorem gq:∀(n m:Nat) (w0 w:Int) (ps:List aj),ps.length≤n→ps.length≤m→bL n w0 w ps=bL m w0 w ps
 | 0,m,w0,w,ps,h,_=>by
  have:=List.length_eq_zero_iff.mp (Nat.le_zero.mp h);subst this;cases m<;>simp[bL]
 | n+1,0,w0,w,ps,_,h=>by
  have:=List.length_eq_zero_iff.mp (Nat.le_zero.mp h);subst this;simp[bL]
 | n+1,m+1,w0,w,ps,h1,h2=>by
  unfold bL
  by_cases h:ps=[]
  ·rw[if_pos h,if_pos h]
  ·rw[if_neg h,if_neg h,gq n m]
   ·have:=bU (width:=w0) h;rw[List.length_drop];exact sc (ps.length) (aW w0 ps) (fun z0 w0=>ln [_,_,_,_] [.l .x0 .p11,.l .k1 .x2,.e (.a .x3 .x2) .x0] .x3 .x1 [] rfl h1 this w0) fun z0 w0=>ln [_,_] [.e .x1 .k0] .x1 .x0 [] rfl w0
   ·have:=bU (width:=w0) h;rw[List.length_drop];exact sc (ps.length) (aW w0 ps) (fun z0 w0=>ln [_,_,_,_] [.l .x0 .p11,.l .k1 .x2,.e (.a .x3 .x2) .x0] .x3 .x1 [] rfl h2 this w0) fun z0 w0=>ln [_,_] [.e .x1 .k0] .x1 .x0 [] rfl w0
theorem fF{w0 w:Int}{ps:List aj}(h:ps≠[]):cg w0 w ps=ps.take (aW w0 ps)::cg w w (ps.drop (aW w0 ps)):=by
 have hp:=bU (width:=w0) h;have hl:=List.length_pos_iff.mpr h
 conv=>lhs;unfold cg
 rw[gq ps.length (ps.length-1+1) _ _ _ (Nat.le_refl _) (by exact ln [_,_] [.f .p11 .x0] .x0 .p11 [] rfl (su hl))]
 conv=>lhs;unfold bL
 rw[if_neg h];unfold cg;rw[gq (ps.length-1) _ _ _ _ (by rw[List.length_drop];exact sc (ps.length) (aW w0 ps) (fun z0 w0=>ln [_,_,_,_] [.l .k1 .x0,.e (.a .x2 .x0) .x1,.f .p31 .x1] .x2 .x3 [] rfl hp w0 (su hl)) fun z0 w0=>ln [_,_] [.e .x0 .k0] .x0 .x1 [] rfl w0) (Nat.le_refl _)]
theorem ke{w0 w:Int}:cg w0 w []=[]:=rfl
noncomputable abbrev vX(l:List (List aj)):PV:=eL (eL eP) l
noncomputable def s22(vs:List PV)(σ:Sto)(Q:KV):Prop:=∃(ps:List aj) (w0 w:Int),vs=[ePs ps,.int w0,.int w]∧(∀p∈ps,p.1≠[])∧ps.length≤big∧Q (vX (cg w0 w ps)) σ
theorem zA{ps:List aj}{w0 w:Int}(h1:∀p∈ps,p.1≠[])(h2:ps.length≤big)(h:Q (vX (cg w0 w ps)) σ):s22 [ePs ps,.int w0,.int w] σ Q:=⟨ps,w0,w,rfl,h1,h2,h⟩
inductive I22(ps:List aj)(w0 w:Int)(σ:Sto)(a:Nat):Nat→List PV→Sto→Prop
 | mk {k:Nat} {acc:List (List aj)} {e:PV} (hk:k≤ps.length) (hz:acc.length≤k) (he:acc++cg (if k=0 then w0 else w) w (ps.drop k)=cg w0 w ps):I22 ps w0 w σ a (ps.length-k) [ePs ps,.int w0,.int w,.obj a,.int k,e] (σ.set a (.list (acc.map (eL eP))))
theorem k22(h21:Sx 21=s21)(h:s22 vs σ Q):Bd Sx 3 b22 3 vs σ Q:=by
 obtain⟨ps,w0,w,rfl,hp,hl,h⟩:=h;refine⟨rfl,fz (fun d=>rfl) fun a ha=>x_a aJ rfl (mL (I22 ps w0 w σ a) _ (.mk (acc:=[]) (k:=0) (Nat.zero_le _) (Nat.zero_le _) rfl) fun n loc τ hI=>?_)⟩
 induction hI with| @mk k acc e hk hz he=>?_
 refine⟨decide (k<ps.length),ay (cQ (aa rfl) (aw (aa rfl))) (congrArg PV.bool (decide_eq_decide.mpr Int.ofNat_lt)),fun c K _ hK=>?_,fun c=>?_⟩
 ·have hlt:=of_decide_eq_true c;have hne:ps.drop k≠[]:=fun z=>Nat.not_le.mpr hlt (List.drop_eq_nil_iff.mp z)
  rw[fF hne]at he;refine x_A (y_c (ae (aa rfl) (ae (aa rfl) (ae (ay (pd (cR (aa rfl) aJ) (aa rfl) (aa rfl)) (congrArg PV.int (if0 k w0 w))) aD))) rfl h21 (zB hp hk ?_));have hpos:=bU (width:=if k=0 then w0 else w) hne;have hle:=l4 (width:=if k=0 then w0 else w) (ps:=ps.drop k);rw[List.length_drop]at hle;generalize aW (if k=0 then w0 else w) (ps.drop k)=m at*;refine x_s rfl (x_E (ll (aa rfl) (eg (aa rfl) (aa rfl) (aa rfl)) (by exact ln [_,_,_,_] [.l .x0 .x1,.l .x3 .x2,.l .p21 .x0] .p31 .x1 [] rfl hl hz hlt) (x_a (aa rfl) rfl (x_n (hK _ _ _ (by exact ln [_,_,_,_,_] [.l .k1 .x2,.f (.a .x3 .x1) .x0,.e (.a .x4 (.a .x1 .x2)) .x0] .p41 .x3 [] rfl hpos (su hk) (su (ln [_,_,_,_] [.l .x2 .x3,.e (.a .x3 .x1) .x0] (.a .x1 .x2) .x0 [] rfl hle (su hk)))) (.mk (k:=k+m) (by exact ln [_,_,_,_] [.l .x2 .x3,.e (.a .x3 .x1) .x0] (.a .x1 .x2) .x0 [] rfl hle (su hk)) (by rw[List.length_append,List.length_singleton];exact ln [_,_,_] [.l .x1 .x0,.l .k1 .x2] .p11 (.a .x0 .x2) [] rfl hz hpos) ?_))))));rw[←he,if_neg (Nat.ne_of_gt (Nat.lt_of_lt_of_le hpos (Nat.le_add_left _ _))),List.append_assoc,List.drop_drop,List.drop_take,Nat.add_sub_cancel_left];rfl
 ·rw[List.drop_eq_nil_of_le (Nat.not_lt.mp (of_decide_eq_false c)),ke,List.append_nil]at he;subst he;exact x_r (aa rfl) (Wk.frz ha h)
noncomputable def s23(vs:List PV)(σ:Sto)(Q:KV):Prop:=∃row,vs=[ePs row]∧Q (.int (ba row)) σ
theorem a6{α:Type}{l:List α}{k:Nat}(h:k<l.length):l.take (k+1)=l.take k++[l[k]]:=by
 rw[List.take_add_one,List.getElem?_eq_getElem h];rfl
theorem lS{l:List aj}{p:aj}:jR (l++[p])=jR l+((p.1.length:Int)+p.2):=by
 unfold jR;rw[List.map_append,List.sum_append];simp
inductive I23(row:List aj)(σ:Sto):Nat→List PV→Sto→Prop
 | mk {k:Nat} {x y:PV}:I23 row σ k [ePs row,.int (jR (row.take k)),x,y] σ
theorem k23(h:s23 vs σ Q):Bd Sx 1 b23 3 vs σ Q:=by
 obtain⟨row,rfl,h⟩:=h;refine⟨rfl,x_a aJ rfl (dL (I23 row σ) (hE (aa rfl)) .mk (fun k hk loc τ K' I _ hK=>?_) fun loc τ I=>?_)⟩
 ·cases I;exact x_a (ay (ev_add (ev_add (aa rfl) (aw (aa rfl))) (aa rfl)) (congrArg PV.int (show _=jR (row.take (k+1)) by rw[a6 hk,lS,Int.add_assoc]))) rfl (x_n (hK _ _ .mk))
 ·cases I;rw[List.take_length];refine x_r (vK (fv (aw (aa rfl)) aJ) (fun c=>?_) fun c=>?_) (Wk.same h)
  ·have hne:row≠[]:=List.ne_nil_of_length_pos (Int.ofNat_lt.mp (of_decide_eq_true c));refine ay (aT (aa rfl) (Cq (rV (aa rfl) (aT (aw (aa rfl)) aJ) hne))) ?_;unfold ba;rw[List.getLast?_eq_some_getLast hne]
  ·cases row with
   | nil=>exact aJ
   | cons p r=>exact absurd (Int.ofNat_lt.mpr (Nat.succ_pos _)) (of_decide_eq_false c)
noncomputable def ek(row:List aj):Nat:=(row.map fun p=>p.1.length).sum
theorem bE{p q:aj}{r:List aj}{g:Int}{gs:List Int}:az (p::q::r) (g::gs)=p.1++List.replicate g.toNat 32++az (q::r) gs:=rfl
theorem bz{p:aj}{gs:List Int}:az [p] gs=p.1:=by cases gs<;>rfl
theorem cH{G:Nat}:∀(row:List aj) (gaps:List Int),(∀g∈gaps,g≤G)→(az row gaps).length≤ek row+row.length*G
 | [],_,_=>by simp[az]
 | [p],gaps,_=>by cases gaps<;>simp[az,ek]
 | p::q::r,[],_=>by simp[az,ek];exact ln [_,_,_,_] [] .x0 (.a (.a .x0 (.a .x1 .x2)) .x3) [] rfl
 | p::q::r,g::gs,h=>by
  have ih:=cH (q::r) gs fun x hx=>h x (List.mem_cons_of_mem _ hx)
  have hg:=h g List.mem_cons_self;unfold az;rw[List.length_append,List.length_append,List.length_replicate];simp only[ek,List.map_cons,List.sum_cons,List.length_cons]at ih⊢
  have:(r.length+1+1)*G=(r.length+1)*G+G:=Nat.succ_mul _ _;exact tc (g) (fun z0 w0=>io (lz [_,_,_,_,_,_,_,_] [_] [.l .y0 .x0,.l .x1 (.a (.a .x2 .x3) .x4),.f .x5 (.a .x4 .x0),.e (.x 7) .y0] (.a (.a .x6 (.x 7)) .x1) (.a (.a .x6 (.a .x2 .x3)) .x5) [] rfl hg (il ih) (ie this) w0)) fun z0 w0=>ln [_,_,_,_,_,_,_,_] [.l .x1 (.a (.a .x2 .x3) .x4),.f .x5 (.a .x4 .x0),.e (.x 7) .k0] (.a (.a .x6 (.x 7)) .x1) (.a (.a .x6 (.a .x2 .x3)) .x5) [] rfl ih this w0
noncomputable def s24(vs:List PV)(σ:Sto)(Q:KV):Prop:=∃row gaps,vs=[ePs row,eI gaps]∧row.length≤gaps.length+1∧row.length≤big∧(∀g∈gaps,-4611686018427387904<g∧g≤10000)∧(az row gaps).length≤big∧Q (eI (az row gaps)) σ
theorem uG{row:List aj}{gaps:List Int}(h1:row.length≤gaps.length+1)(h2:row.length≤big)(h3:∀g∈gaps,-4611686018427387904<g∧g≤10000)(h4:(az row gaps).length≤big)(h:Q (eI (az row gaps)) σ):s24 [ePs row,eI gaps] σ Q:=⟨row,gaps,rfl,h1,h2,h3,h4,h⟩
inductive I24(row:List aj)(gaps:List Int)(σ:Sto)(a:Nat):Nat→List PV→Sto→Prop
 | mk {k:Nat} {x:PV} {acc:List Int} (he:acc++az (row.drop k) (gaps.drop k)=az row gaps):I24 row gaps σ a k [ePs row,eI gaps,.obj a,x] (σ.set a (.list (acc.map .int)))
theorem k24(h:s24 vs σ Q):Bd Sx 2 b24 2 vs σ Q:=by
 obtain⟨row,gaps,rfl,h1,h2,h3,h4,h⟩:=h;have hb:big=16777216:=rfl;refine⟨rfl,fz (fun d=>rfl) fun a ha=>dL (I24 row gaps σ a) (vj (aw (aa rfl)) h2) (.mk (acc:=[]) rfl) (fun k hk loc τ K' I _ hK=>?_) fun loc τ I=>?_⟩
 ·rw[List.length_range]at hk
  induction I with| @mk x acc he=>?_
  rw[List.getElem_range];have hd:row.drop k=row[k]::row.drop (k+1):=List.drop_eq_getElem_cons hk;rw[hd]at he;have hlen:=congrArg List.length he;rw[List.length_append]at hlen;have hg:=List.getElem?_eq_getElem hk
  by_cases hl:k+1<row.length
  ·have hgl:k<gaps.length:=by exact ln [_,_,_] [.l .x0 .p11,.l (.a .p21 .k1) .x0] .p21 .x1 [] rfl h1 hl
   have hd2:row.drop (k+1)=row[k+1]::row.drop (k+1+1):=List.drop_eq_getElem_cons hl;rw[List.drop_eq_getElem_cons hgl,hd2]at he hlen;rw[bE,←hd2]at he hlen;rw[List.length_append,List.length_append,List.length_replicate]at hlen;obtain⟨q1,q2⟩:=h3 _ (List.getElem_mem hgl);refine t_v rfl (x_E (pB (aa rfl) (yq (aZ (aa rfl) (aa rfl) hg)) (by exact ln [_,_,_,_,_,_] [.l .x1 .x0,.e (.a .x2 (.a (.a .x3 .x4) .x5)) .x1] (.a .x2 .x3) .x0 [] rfl h4 hlen) (yJ (cQ (aa rfl) (aT (aw (aa rfl)) aJ)) (decide_eq_true (by exact lz [_,_] [] [.l (.a .p11 .k1) .x0] .p11 (.d .x0 .k1) [] rfl (il hl))) (x_E (pB (aa rfl) (kS (gA (fh rfl)) (aZ (aa rfl) (aa rfl) (List.getElem?_eq_getElem hgl)) (by exact q1) (by exact lz [] [_] [.l .y0 (.k 10000)] (.q 0 1) (.k 4611686018427387904) [] rfl q2) (by exact ln [_,_,_,_,_,_] [.l .x1 .x0,.e (.a .x2 (.a (.a .x3 .x4) .x5)) .x1] .x4 .x0 [] rfl h4 hlen)) (by rw[List.length_append,List.length_replicate];exact ln [_,_,_,_,_,_] [.l .x1 .x0,.e (.a .x2 (.a (.a .x3 .x4) .x5)) .x1] (.a (.a .x2 .x3) .x4) .x0 [] rfl h4 hlen) (x_n (x_q (x_n (hK _ _ (.mk ?_))))))))));rw[←he,List.append_assoc,List.append_assoc,List.append_assoc]
  ·have hd2:row.drop (k+1)=[]:=List.drop_eq_nil_of_le (Nat.not_lt.mp hl);rw[hd2,bz]at he hlen;exact t_v rfl (x_E (pB (aa rfl) (yq (aZ (aa rfl) (aa rfl) hg)) (by exact ln [_,_,_,_] [.l .x1 .x0,.e (.a .x2 .x3) .x1] (.a .x2 .x3) .x0 [] rfl h4 hlen) (cE (cQ (aa rfl) (aT (aw (aa rfl)) aJ)) (decide_eq_false (by exact fun zz=>lzf [_,_] [] _ [.l .x0 .p11,.l .p11 (.d .x0 .k1)] [] rfl (il (Nat.not_lt.mp hl)) zz)) (x_n (hK _ _ (.mk (by rw[hd2,←he];exact List.append_nil _)))))))
 ·induction I with| @mk x acc he=>?_
  rw[List.length_range,List.drop_length]at he;rw[←he,show az [] (gaps.drop row.length)=[]from rfl,List.append_nil]at h;exact x_r (aa rfl) (Wk.frz ha h)
noncomputable def s25(vs:List PV)(σ:Sto)(Q:KV):Prop:=∃row,vs=[ePs row]∧row.length≤big∧Q (eI (aq row)) σ
theorem k25(h:s25 vs σ Q):Bd Sx 1 b25 0 vs σ Q:=by
 obtain⟨row,rfl,hl,h⟩:=h;exact⟨rfl,x_r (vQ (g:=fun p:aj=>p.2) (h:=PV.int) (hE (aa rfl)) (fun p _ R hR=>(aa (S:=Sx) (loc:=[ePs row,eI p.1,.int p.2]) (n:=2) rfl) (fun v τ=>R [v] τ) hR) hl) (Wk.same h)⟩
theorem iU:∀(l:List aj),(∀p∈l,0≤p.2)→0≤jR l
 | [],_=>by simp[jR]
 | p::l,h=>by
  have q10:=iU l fun x hx=>h x (List.mem_cons_of_mem _ hx)
  have:=h p List.mem_cons_self;unfold jR at*;simp only[List.map_cons,List.sum_cons];exact lz [_] [_,_] [.l .k0 .y0,.l .k0 .y1] .k0 (.a (.a .x0 .y1) .y0) [] rfl (by assumption) this
theorem fq{row:List aj}(h:∀p∈row,0≤p.2):0≤ba row:=by
 unfold ba;cases hr:row.getLast? with
 | none=>simp
 | some p=>
  have hne:row≠[]:=fun z=>by subst z;cases hr
  have hl:row.getLast hne=p:=by rw[List.getLast?_eq_some_getLast hne]at hr;injection hr
  have e:row=row.dropLast++[p]:=by rw[←hl];exact(List.dropLast_concat_getLast hne).symm
  have:jR row=jR row.dropLast+(p.1.length+p.2):=by conv=>lhs;rw[e,lS]
  have:=iU row.dropLast fun x hx=>h x (List.dropLast_subset _ hx)
  simp only;exact lz [_] [_,_,_] [.f .y0 (.a .y1 (.a .x0 .y2)),.l .k0 .y1] .k0 (.d .y0 .y2) [] rfl (by assumption) this
noncomputable def s26(vs:List PV)(σ:Sto)(Q:KV):Prop:=∃row width,vs=[ePs row,.int width]∧row.length≤10000∧(∀p∈row,0≤p.2)∧width≤10000∧Q (eI (bc row width)) σ
theorem zy{row:List aj}{width:Int}(h1:row.length≤10000)(h2:∀p∈row,0≤p.2)(h3:width≤10000)(h:Q (eI (bc row width)) σ):s26 [ePs row,.int width] σ Q:=⟨row,width,rfl,h1,h2,h3,h⟩
theorem p25(h:Sx 25=s25){row:List aj}(hz:row.length≤big):∀Q:KV,Q (eI (aq row)) σ→Sx 25 [ePs row] σ Q:=fun _ q=>by rw[h];exact⟨row,rfl,hz,q⟩
theorem p23(h:Sx 23=s23){row:List aj}:∀Q:KV,Q (.int (ba row)) σ→Sx 23 [ePs row] σ Q:=fun _ q=>by rw[h];exact⟨row,rfl,q⟩
theorem vG{m k:Int}{b:Int}(hk:1≤k)(hm:0≤m)(hb:m≤b):0≤m.fdiv k∧m.fdiv k≤b:=by
 have h0:=Int.fdiv_nonneg hm (Int.le_trans (by decide) hk);have h1:=Int.mul_fdiv_self_le (x:=m) (k:=k) hk;have h2:1*m.fdiv k≤k*m.fdiv k:=Int.mul_le_mul_of_nonneg_right hk h0;exact⟨h0,by rw[Int.one_mul]at h2;exact Int.le_trans h2 (Int.le_trans h1 hb)⟩
theorem nA(n:Nat){b:Nat}(h:n<b):(n:Int).natAbs<b:=h
theorem k26(h23:Sx 23=s23)(h25:Sx 25=s25)(h:s26 vs σ Q):Bd Sx 2 b26 5 vs σ Q:=by
 obtain⟨row,width,rfl,h1,h2,h3,h⟩:=h;have hb:row.length≤big:=Nat.le_trans h1 (Nat.le_of_ble_eq_true rfl);have hgl:(aq row).length=row.length:=List.length_map _;refine⟨rfl,x_a (vR (ae (aa rfl) aD) rfl (p25 h25 hb)) rfl (x_a (aT (aw (aa rfl)) aJ) rfl (x_a (aT (aa rfl) (vR (ae (aa rfl) aD) rfl (p23 h23))) rfl (x_i (dG (cQ (aa rfl) aJ) fun _=>rU (aa rfl) aJ) (fun c=>x_r (aa rfl) (Wk.same ?_)) fun c=>x_q ?_)))⟩
 ·have e:bc row width=aq row:=if_pos ((Bool.or_eq_true_iff.mp c).imp (fun z=>by have:=of_decide_eq_true z;exact sc (row.length) (1) (fun z0 w0=>io (lz [_,_] [] [.l (.a (.d .x0 .k1) .k1) .k1,.e .p11 .x0] .p11 .k1 [] rfl this (ie w0))) fun z0 w0=>ln [_] [.e .x0 .k0] .p01 .k1 [] rfl w0) of_decide_eq_true);rw[←e];exact h
 ·obtain⟨c1,c2⟩:=Bool.or_eq_false_iff.mp c;have c1:=of_decide_eq_false c1;have c2:=of_decide_eq_false c2;have hw:=fq h2;have hM:(row.length:Int)-1=((row.length-1:Nat):Int):=by exact sc (row.length) (1) (fun z0 w0=>lze [_,_] [] [.f .p11 .x0,.e .p11 .x0] (.d .x0 .k1) .x1 [1,0] [0] rfl rfl (ie w0) (ie w0)) fun z0 w0=>lzf [_,_] [] _ [.l .k1 (.d .x0 .k1),.e .x1 .k0,.l .x0 .p11] [] rfl (Int.not_lt.mp c1) (ie w0) (il sl)
  have e:bc row width=((List.range (row.length-1)).map fun p=>(aq row).getD p 0+(width-ba row).fdiv ((row.length:Int)-1)+
    if decide ((p:Int)≥(row.length:Int)-1-(width-ba row-(width-ba row).fdiv ((row.length:Int)-1)*((row.length:Int)-1)))=true then 1 else 0)++(aq row).drop (row.length-1):=by
   unfold bc;simp only[decide_eq_true_iff,hM];exact if_neg fun z=>z.elim (fun z=>c1 (by exact lz [_,_] [] [.e (.d .x0 .k1) .x1,.l .p11 .k1] (.a (.d .x0 .k1) .k1) .k1 [] rfl hM (il z))) c2
  obtain⟨d1,d2⟩:=vG (m:=width-ba row) (k:=(row.length:Int)-1) (b:=10000) (by exact(Int.not_lt.mp c1)) (by exact Int.le_of_lt (Int.not_le.mp c2)) (by exact lz [] [_,_] [.l .y0 (.k 10000),.l .k0 .y1] (.d .y0 .y1) (.k 10000) [] rfl h3 hw);rw[e]at h;refine x_a (qK (aa rfl) (aa rfl) (by exact fun zz=>lzf [_] [] _ [.l .k1 (.d .x0 .k1),.e (.d .x0 .k1) .k0] [] rfl (Int.not_lt.mp c1) zz) (by rw[hM];exact nA _ (by exact ln [_,_] [.l .x0 (.k 10000),.l .x1 .x0] .p11 (.k 1073741824) [] rfl h1 sb))) rfl (x_a (aT (aa rfl) (ev_mul (aa rfl) (aa rfl) (by exact lz [] [_] [.l .k0 .y0] (.a (.o (.k 4611686018427387904)) .k1) .y0 [] rfl d1) (by exact lz [] [_] [.l .y0 (.k 10000)] (.q 0 1) (.k 4611686018427387904) [] rfl d2))) rfl (x_r (fj (vQ (f:=eN) (vj (ay (aa rfl) (congrArg PV.int hM)) (by exact ln [_,_] [.l .x0 (.k 10000),.l .x1 .x0] .x1 (.k 16777216) [] rfl h1 sb)) (fun p hp R hR=>Cx rfl (ev_add (ev_add (aZ (aa rfl) (aa rfl) ?_) (aa rfl)) (pd (pf (aa rfl) (aT (aa rfl) (aa rfl))) aJ aJ)) hR) (by rw[List.length_range];exact ln [_,_,_] [.l .x0 .x1,.l .x2 .x0] .x2 .x1 [] rfl hb sb)) (jG (aa rfl) (ay (aa rfl) (congrArg PV.int hM))) (by rw[List.length_map,List.length_range,List.length_drop];exact ln [_,_,_,_,_] [.l .x0 .x1,.e .x2 .x0,.e (.a .x4 .x3) .x2] (.a .x3 .x4) .x1 [] rfl hb hgl (su (ln [_,_,_] [.f .x1 .x0,.l .x2 .x0] .x2 .x1 [] rfl hgl sb)))) (Wk.same h)));have hp':p<(aq row).length:=by have:=List.mem_range.mp hp;exact ln [_,_,_,_] [.f .x1 .x0,.l .p31 .x2,.l .x2 .x0] .p31 .x1 [] rfl hgl this sb
  rw[List.getElem?_eq_getElem hp',List.getD,List.getElem?_eq_getElem hp'];rfl
noncomputable def bg(row:List aj):Prop:=(∀p∈row,p.1≠[]∧1≤p.2∧p.2≤2)∧ek row≤4000
theorem bg.len{row:List aj}(h:bg row):row.length≤ek row:=by
 obtain⟨h,_⟩:=h
 induction row with
 | nil=>simp
 | cons p r ih=>
  have:=ih fun x hx=>h x (List.mem_cons_of_mem _ hx)
  have h1:=List.length_pos_iff.mpr (h p List.mem_cons_self).1;simp only[ek,List.map_cons,List.sum_cons,List.length_cons]at*
  lia
theorem bg.gaps{row:List aj}(h:bg row):∀g∈aq row,1≤g∧g≤2:=by
 intro g hg;unfold aq at hg;obtain⟨p,hp,rfl⟩:=List.mem_map.mp hg
 exact(h.1 p hp).2
theorem B5{p:Prop}[Decidable p]:0≤(if p then(1:Int)else 0)∧(if p then(1:Int)else 0)≤1:=by split<;>decide
theorem eO{row:List aj}(h:bg row){width:Int}{W:Nat}(hw:width≤W):∀g∈bc row width,1≤g∧g≤W+3:=by
 intro g hg;unfold bc at hg;have h0:=fq fun p hp=>Int.le_trans (by decide) (h.1 p hp).2.1
 by_cases hc:row.length-1<1∨width-ba row≤0
 ·rw[if_pos hc]at hg
  have:=h.gaps g hg;exact⟨this.1,lz [_] [_] [.l .y0 (.k 2)] .y0 (.a .x0 (.k 3)) [] rfl this.2⟩
 ·rw[if_neg hc]at hg;rcases List.mem_append.mp hg with hg|hg
  ·obtain⟨p,hp,rfl⟩:=List.mem_map.mp hg;have hp':=List.mem_range.mp hp;have hd0:0≤(width-ba row).fdiv ((row.length-1:Nat):Int):=Int.fdiv_nonneg (Int.le_of_lt (Int.not_le.mp fun z=>hc (.inr z))) (by exact lz [_] [] [] .k0 .x0 [] rfl);have hd1:(width-ba row).fdiv ((row.length-1:Nat):Int)≤W:=by
    have h1:=Int.mul_fdiv_self_le (x:=width-ba row) (k:=((row.length-1:Nat):Int)) (by exact lz [_,_] [] [.l .p01 .x1] .k1 .x1 [] rfl (il hp'));have h2:1*(width-ba row).fdiv ((row.length-1:Nat):Int)≤((row.length-1:Nat):Int)*(width-ba row).fdiv ((row.length-1:Nat):Int):=Int.mul_le_mul_of_nonneg_right (by exact lz [_,_] [] [.l .p01 .x1] .k1 .x1 [] rfl (il hp')) hd0;exact lz [_] [_,_,_,_] [.l .y0 .x0,.l .k0 .y1,.l .y3 (.d .y0 .y1),.l (.m 1 .y2) .y3] .y2 .x0 [] rfl hw h0 h1 h2
   have hgl:(aq row).length=row.length:=by unfold aq;rw[List.length_map]
   have hg:=h.gaps _ (List.mem_of_getElem? (aS (l:=aq row) (j:=p) (d:=0) (by exact ln [_,_,_,_] [.l .p01 .x1,.f .x2 .x3,.l .x1 .x3] .p01 .x2 [] rfl hp' hgl sb)));have hi:=B5 (p:=(p:Int)≥(row.length-1:Nat)-(width-ba row-(width-ba row).fdiv ((row.length-1:Nat):Int)*((row.length-1:Nat):Int)));exact⟨by exact lz [] [_,_,_] [.l .k0 .y0,.l .k1 .y1,.l .k0 .y2] .k1 (.a (.a .y1 .y0) .y2) [] rfl hd0 hg.1 hi.1,by exact lz [_] [_,_,_] [.l .y0 .x0,.l .y1 (.k 2),.l .y2 .k1] (.a (.a .y1 .y0) .y2) (.a .x0 (.k 3)) [] rfl hd1 hg.2 hi.2⟩
  ·have:=h.gaps g (List.drop_subset _ _ hg);exact⟨this.1,lz [_] [_] [.l .y0 (.k 2)] .y0 (.a .x0 (.k 3)) [] rfl this.2⟩
theorem jT{row:List aj}{width:Int}:row.length≤(bc row width).length+1:=by
 have hgl:(aq row).length=row.length:=by unfold aq;rw[List.length_map]
 unfold bc;dsimp only;split
 ·exact ln [_,_] [.f .x0 .x1] .x1 .p01 [] rfl hgl
 ·rw[List.length_append,List.length_map,List.length_range,List.length_drop];exact ln [_,_,_] [.l .x0 .p11] .x0 (.a (.a .x1 .x2) .k1) [] rfl sl
noncomputable def s27(vs:List PV)(σ:Sto)(Q:KV):Prop:=∃row width way last,vs=[ePs row,.int width,.str way,.bool last]∧bg row∧ -100000≤width∧width≤20∧Q (eI (a8 row width way last)) σ
theorem zx{row:List aj}{width:Int}{way:Nat}{last:Bool}(h1:bg row)(h2: -100000≤width)(h3:width≤20)(h:Q (eI (a8 row width way last)) σ):s27 [ePs row,.int width,.str way,.bool last] σ Q:=⟨row,width,way,last,rfl,h1,h2,h3,h⟩
theorem yA{i:Int}(h:i≤(20:Nat)):i.toNat≤big:=Nat.le_trans (Int.toNat_le.mpr h) (by decide)
theorem k27(h24:Sx 24=s24)(h25:Sx 25=s25)(h26:Sx 26=s26)(h:s27 vs σ Q):Bd Sx 4 b27 2 vs σ Q:=by
 obtain⟨row,width,way,last,rfl,h1,h2,h3,h⟩:=h;have hb:big=16777216:=rfl;have hl:=h1.len;have hw:=h1.2;have hgl:(aq row).length=row.length:=List.length_map _;have hown:=cH (G:=2) row (aq row) fun g hg=>(h1.gaps g hg).2
 rw[Nat.mul_comm]at hown;have hspr:=cH (G:=23) row (bc row width) fun g hg=>(eO (W:=20) h1 h3 g hg).2
 have hbl:row.length≤big:=by exact ln [_,_,_] [.f .x0 (.k 16777216),.l .x1 .x2,.l .x2 (.k 4000)] .x1 .x0 [] rfl hb hl hw
 refine⟨rfl,x_a (bb (ae (aa rfl) (ae (bb (pa rfl) rfl h25 fun Q q=>⟨row,rfl,hbl,q⟩) aD)) rfl h24 fun Q q=>uG (by exact ln [_,_] [.f .x1 .x0] .x0 .p11 [] rfl hgl) hbl (fun g hg=>by have q1:=h1.gaps g hg;exact⟨by exact lz [] [_] [.l .k1 .y0] (.a (.o (.k 4611686018427387904)) .k1) .y0 [] rfl q1.1,by exact lz [] [_] [.l .y0 (.k 2)] .y0 (.k 10000) [] rfl q1.2⟩) (by lia) q) rfl (x_a (aT (aa rfl) (aw (aa rfl))) rfl (x_i (cq (nB (aa rfl) qG) fun _=>jf (aa rfl)) (fun c=>?_) fun c=>x_q ?_))⟩
 ·have c:=Bool.and_eq_true_iff.mp c;rw[show a8 row width way last=_ from if_pos ⟨eq_of_beq c.1,bnt c.2⟩]at h;exact x_r (bb (ae (aa rfl) (ae (bb (pa rfl) rfl h26 fun Q q=>zy (by exact ln [_,_] [.l .x0 .x1,.l .x1 (.k 4000)] .x0 (.k 10000) [] rfl hl hw) (fun p hp=>Int.le_trans (by decide) (h1.1 p hp).2.1) (by exact lz [] [_] [.l .y0 (.k 20)] .y0 (.k 10000) [] rfl h3) q) aD)) rfl h24 fun Q q=>uG jT hbl (fun g hg=>by have q1:=eO (W:=20) h1 h3 g hg;exact⟨by exact lz [] [_] [.l .k1 .y0] (.a (.o (.k 4611686018427387904)) .k1) .y0 [] rfl q1.1,by exact lz [] [_] [.l .y0 (.a (.k 20) (.k 3))] .y0 (.k 10000) [] rfl q1.2⟩) (by lia) q) (Wk.same h)
 have hn:¬(way=1∧last=false):=fun z=>by rw[z.1,z.2]at c;cases c
 unfold a8 at h;rw[if_neg hn]at h;clear hn c hspr h1 hgl;generalize az row (aq row)=oc at*;refine x_i (dG (rU (aa rfl) aJ) fun _=>dG (nB (aa rfl) qG) fun _=>nB (aa rfl) qG) (fun c=>x_r (aa rfl) (Wk.same ?_)) fun c=>x_q ?_
 ·rw[if_pos ((Bool.or_eq_true_iff.mp c).imp of_decide_eq_true fun z=>(Bool.or_eq_true_iff.mp z).imp eq_of_beq eq_of_beq)]at h;exact h
 obtain⟨c1,c⟩:=Bool.or_eq_false_iff.mp c;obtain⟨c2,c3⟩:=Bool.or_eq_false_iff.mp c;have c1:=of_decide_eq_false c1;rw[if_neg fun z=>z.elim c1 fun z=>z.elim (ne_of_beq_false c2) (ne_of_beq_false c3)]at h;have c1:=Int.le_of_lt (Int.not_le.mp c1);obtain⟨d1,d2⟩:=vG (m:=width-oc.length) (k:=2) (b:=20) (by decide) c1 (by exact lz [_] [_] [.l .y0 (.k 20)] (.d .y0 .x0) (.k 20) [] rfl h3);refine x_i (nB (aa rfl) qG) (fun c4=>x_r (fj (kS (gA (fh rfl)) (aa rfl) ?_ ?_ ?_) (aa rfl) ?_) (Wk.same ?_)) fun c4=>x_q (x_r (fj (kS (gA (fh rfl)) (qK (aa rfl) aJ (by decide) (by decide)) ?_ ?_ ?_) (aa rfl) ?_) (Wk.same ?_))
 ·exact lz [_,_,_] [_] [.l (.o (.k 100000)) .y0,.l .x0 .x1,.l .x1 (.k 4000),.l .x2 (.a .x1 (.m 2 .x0))] (.a (.o (.k 4611686018427387904)) .k1) (.d .y0 .x2) [1,2,3] rfl h2 (il hl) (il hw) (il hown)
 ·exact lz [_] [_] [.l .y0 (.k 20)] (.a (.d .y0 .x0) .k1) (.k 4611686018427387904) [] rfl h3
 ·exact yA (by exact lz [_] [_] [.l .y0 (.k 20)] (.d .y0 .x0) (.k 20) [] rfl h3)
 ·rw[List.length_replicate];exact io (lz [_,_,_] [_] [.l .y0 (.k 20),.f .x0 (.k 16777216),.e .x2 (.d .y0 .x1)] (.a .x2 .x1) .x0 [] rfl h3 (ie hb) (tn c1))
 ·rw[if_pos (eq_of_beq c4)]at h;exact h
 ·exact lz [] [_] [.l .k0 .y0] (.a (.o (.k 4611686018427387904)) .k1) .y0 [] rfl d1
 ·exact lz [] [_] [.l .y0 (.k 20)] (.q 0 1) (.k 4611686018427387904) [] rfl d2
 ·exact yA d2
 ·rw[List.length_replicate];exact Nat.le_trans (Nat.add_le_add (Int.toNat_le.mpr d2) (show oc.length≤12000 by exact ln [_,_,_] [.l .x0 .x1,.l .x1 (.k 4000),.l .x2 (.a .x1 (.m 2 .x0))] .x2 (.k 12000) [2,3] rfl hl hw hown)) (by decide)
 ·rw[if_neg (ne_of_beq_false c4)]at h;exact h
end
end Mine
end
section
namespace Mine
section
variable {Sx:Spec} {σ:Sto} {Q:KV} {vs:List PV}
noncomputable def s28(vs:List PV)(σ:Sto)(Q:KV):Prop:=∃col c:Int,vs=[.int col,.int c,.int 8]∧0≤col∧col≤10000000∧Q (.int (ii col c)) σ
theorem zw{col c:Int}(h1:0≤col)(h2:col≤10000000)(h:Q (.int (ii col c)) σ):s28 [.int col,.int c,.int 8] σ Q:=⟨col,c,rfl,h1,h2,h⟩
theorem k28(h:s28 vs σ Q):Bd Sx 3 b28 0 vs σ Q:=by
 obtain⟨col,c,rfl,h1,h2,h⟩:=h;obtain⟨d1,d2⟩:=vG (m:=col) (k:=8) (b:=10000000) (by decide) h1 h2;refine⟨rfl,x_r (pd (cR (aa rfl) (fh rfl)) (ev_mul (ev_add (qK (aa rfl) (aa (v:=.int 8) rfl) (by decide) (by decide)) aJ) (aa rfl) (by exact lz [] [_] [.l .k0 .y0] (.a (.o (.k 4611686018427387904)) .k1) (.q 0 1) [] rfl d1) (by exact lz [] [_] [.l .y0 (.k 10000000)] (.a (.q 0 1) .k1) (.k 4611686018427387904) [] rfl d2)) (ev_add (aa rfl) aJ)) (Wk.same ?_)⟩;unfold ii at h
 by_cases hc:c=9
 ·subst hc;exact h
 ·rw[if_neg hc]at h;rw[if_neg fun z=>hc (eq_of_beq z)];exact h
theorem qR{col c:Int}(h:0≤col):col+1≤ii col c∧ii col c≤col+8:=by
 unfold ii;have hfd:col.fdiv 8=col / 8:=Int.fdiv_eq_ediv_of_nonneg _ (by decide);rw[hfd];split<;>lia
theorem da:∀(row:List Int) (n:Int),0≤n→n+row.length≤row.foldl ii n∧row.foldl ii n≤n+8*row.length
 | [],n,h=>by simp
 | c::row,n,h=>by
  have h1:=qR (c:=c) h;have h2:=da row (ii n c) (by exact lz [] [_,_] [.l .k0 .y0,.l (.q 0 1) .y1] .k0 .y1 [] rfl h h1.1);rw[List.foldl_cons,List.length_cons];exact⟨lz [_] [_,_,_] [.l (.q 0 1) .y1,.l (.a .y1 .x0) .y2] (.a .y0 .p01) .y2 [] rfl h1.1 h2.1,lz [_] [_,_,_] [.l .y1 (.a .y0 (.k 8)),.l .y2 (.a .y1 (.m 8 .x0))] .y2 (.a .y0 (.m 8 .p01)) [] rfl h1.2 h2.2⟩
noncomputable def s29(vs:List PV)(σ:Sto)(Q:KV):Prop:=∃row:List Int,vs=[eI row,.int row.length,.int 8]∧row.length≤1000000∧Q (.int (bu row)) σ
theorem zu{row:List Int}(h2:row.length≤1000000)(h:Q (.int (bu row)) σ):s29 [eI row,.int row.length,.int 8] σ Q:=⟨row,rfl,h2,h⟩
inductive I29(row:List Int)(σ:Sto):Nat→List PV→Sto→Prop
 | mk {k:Nat} {x:PV}:I29 row σ k [eI row,.int row.length,.int 8,.int ((row.take k).foldl ii 0),x] σ
theorem k29(h28:Sx 28=s28)(h:s29 vs σ Q):Bd Sx 3 b29 2 vs σ Q:=by
 obtain⟨row,rfl,h2,h⟩:=h;refine⟨rfl,x_a aJ rfl (dL (I29 row σ) (hE (ay (jH (aa rfl) (aa rfl)) (by rw[List.take_length]))) .mk (fun k hk loc τ K' I _ hK=>?_) fun loc τ I=>?_)⟩
 ·cases I;have hb:=da (row.take k) 0 (Int.le_refl 0);have hz:=Nat.le_trans (List.length_take_le k row) (Nat.le_trans (Nat.le_of_lt hk) h2);exact t_v rfl (x_a (ay (bb (pa rfl) rfl h28 fun Q q=>zw (by exact lz [_] [_] [.l (.a .k0 .x0) .y0] .k0 .y0 [] rfl hb.1) (by exact lz [_] [_] [.l .y0 (.a .k0 (.m 8 .x0)),.l .x0 (.k 1000000)] .y0 (.k 10000000) [1,8] rfl hb.2 (il hz)) q) (congrArg PV.int (show _=(row.take (k+1)).foldl ii 0 by rw[a6 hk,List.foldl_append];rfl))) rfl (x_n (hK _ _ .mk)))
 ·cases I;rw[List.take_length];exact x_r (aa rfl) (Wk.same h)
noncomputable def s30(vs:List PV)(σ:Sto)(Q:KV):Prop:=∃row:List Int,vs=[eI row,.int 8]∧row.length≤1000000∧Q (.int (bu row)) σ
theorem uE{row:List Int}(h2:row.length≤1000000)(h:Q (.int (bu row)) σ):s30 [eI row,.int 8] σ Q:=⟨row,rfl,h2,h⟩
theorem k30(h29:Sx 29=s29)(h:s30 vs σ Q):Bd Sx 2 b30 0 vs σ Q:=by
 obtain⟨row,rfl,h2,h⟩:=h;exact⟨rfl,x_r (bb (ae (aa rfl) (ae (aw (aa rfl)) (ae (aa rfl) aD))) rfl h29 fun Q q=>zu h2 q) (Wk.same h)⟩
noncomputable def bN(col:Int)(way:Nat)(L:List Int):cb:=.inst 0 [(0,.int col),(1,.str way),(2,eI L),(3,.int 8)]
noncomputable def s31(vs:List PV)(σ:Sto)(Q:KV):Prop:=∃a col way L,vs=[.obj a,.int col,.str way,eI L,.int 8]∧σ a=some (.inst 0 [])∧Q .none (σ.set a (bN col way L))
theorem k31(h:s31 vs σ Q):Bd Sx 5 b31 0 vs σ Q:=by
 obtain⟨a,col,way,L,rfl,h1,h⟩:=h;exact⟨rfl,dC (aa rfl) (aa rfl) h1 rfl rfl (dR (aa rfl) (aa rfl) rfl rfl (dR (aa rfl) (aa rfl) rfl rfl (dR (aa rfl) (aa rfl) rfl rfl (x_n (Wk.same h)))))⟩
noncomputable def s34(vs:List PV)(σ:Sto)(Q:KV):Prop:=∃row f col way L,vs=[eI row,.obj f]∧σ f=some (bN col way L)∧Q (eI (aG L row)) σ
theorem qb{row:List Int}{f:Nat}{col:Int}{way:Nat}{L:List Int}(h1:σ f=some (bN col way L))(h:Q (eI (aG L row)) σ):s34 [eI row,.obj f] σ Q:=⟨row,f,col,way,L,rfl,h1,h⟩
theorem k34(h:s34 vs σ Q):Bd Sx 2 b34 1 vs σ Q:=by
 obtain⟨row,f,col,way,L,rfl,h1,h⟩:=h;exact⟨rfl,x_a aJ rfl (jK (f:=PV.int) (p:=bY L) (fun j:Nat=>[eI row,.obj f,.int j]) 0 rfl (fun _=>rfl) (fun _=>rfl) (fun _=>rfl) (Nat.zero_le _) (fun m z hz=>
  have X:=aZ (f:=PV.int) (a:=.var 0) (b:=.var 2) (S:=Sx) (σ:=σ) (loc:=[eI row,.obj f,.int (m:Nat)]) (aa rfl) (aa rfl) hz
  dG (cR X (fh rfl)) fun _=>dG (cR X (fh rfl)) fun _=>yo X (aE (aa rfl) h1 rfl)) fun m _ hm e1 _=>x_r (jH (aa rfl) (aa rfl)) (Wk.same ((show aG L row=row.take m from e1)▸h)))⟩
noncomputable def s35(vs:List PV)(σ:Sto)(Q:KV):Prop:=∃a b,vs=[eI a,eI b]∧Q (eI (aO a b)) σ
noncomputable def pk2(a b:List Int)(k:Nat):Bool:=match a[k]?,b[k]? with
 | some x,some y=>x==y
 | _,_=>false
theorem gE:∀(a b:List Int) (m:Nat),(∀j,j<m→pk2 a b j=true)→pk2 a b m=false→aO a b=a.take m
 | [],b,m,_,_=>by simp[aO]
 | x::a,[],0,_,_=>by simp[aO]
 | x::a,[],m+1,h,_=>by have:=h 0 (by exact ln [_] [] .k1 .p01 [] rfl);simp[pk2]at this
 | x::a,y::b,0,_,h=>by
  have:(x==y)=false:=h;simp[aO,beq_eq_false_iff_ne.mp this]
 | x::a,y::b,m+1,h,h'=>by
  have h0:(x==y)=true:=h 0 (by exact ln [_] [] .k1 .p01 [] rfl)
  have:=gE a b m (fun j hj=>h (j+1) (by exact ln [_,_] [.l .p01 .x1] (.a .p01 .k1) .p11 [] rfl hj)) h';unfold aO;rw[if_pos (beq_iff_eq.mp h0),this];rfl
theorem cJ{a b:List Int}{k:Nat}(h:a.length≤k∨b.length≤k):pk2 a b k=false:=by
 unfold pk2;rcases h with h|h
 ·rw[List.getElem?_eq_none h]
 ·rw[List.getElem?_eq_none h];split<;>simp_all
theorem xj{a b:List Int}{k:Nat}:(decide ((k:Int)<a.length)&&(decide ((k:Int)<b.length)&&(a.getD k 0==b.getD k 0)))=pk2 a b k:=by
 by_cases h1:k<a.length
 ·by_cases h2:k<b.length
  ·unfold pk2;rw[aS (d:=0) h1,aS (d:=0) h2,decide_eq_true (Int.ofNat_lt.mpr h1),decide_eq_true (Int.ofNat_lt.mpr h2)];rfl
  ·rw[cJ (.inr (Nat.not_lt.mp h2)),decide_eq_false fun z=>h2 (Int.ofNat_lt.mp z),Bool.false_and,Bool.and_false]
 ·rw[cJ (.inl (Nat.not_lt.mp h1)),decide_eq_false fun z=>h1 (Int.ofNat_lt.mp z)];rfl
theorem k35(h:s35 vs σ Q):Bd Sx 2 b35 1 vs σ Q:=by
 obtain⟨a,b,rfl,h⟩:=h;refine⟨rfl,x_a aJ rfl (tZ 0 a.length (pk2 a b) (fun k=>[eI a,eI b,.int (k:Nat)]) rfl (fun k hk=>cJ (.inl hk)) (fun k=>ay (cq (cQ (aa rfl) (aw (aa rfl))) fun c1=>cq (cQ (aa rfl) (aw (aa rfl))) fun c2=>cR (aZ (f:=PV.int) (aa rfl) (aa rfl) (aS (Int.ofNat_lt.mp (of_decide_eq_true c1)))) (aZ (f:=PV.int) (aa rfl) (aa rfl) (aS (Int.ofNat_lt.mp (of_decide_eq_true c2))))) (congrArg PV.bool xj)) (fun j K h=>x_a (ay (ev_add (aa rfl) aJ) (show _=PV.int ((j+1:Nat):Int)from rfl)) rfl (x_n h)) fun m _ h2 h3=>x_r (jH (aa rfl) (aa rfl)) (Wk.same ?_))⟩;rw[gE a b m (fun j hj=>h2 j (Nat.zero_le _) hj) h3]at h;exact h
noncomputable def s36(vs:List PV)(σ:Sto)(Q:KV):Prop:=∃l,vs=[eI l]∧Q (.bool (bn l)) σ
inductive I36(l:List Int)(σ:Sto):Nat→List PV→Sto→Prop
 | mk {k:Nat} {x:PV} (he:bn l=bn (l.drop k)):I36 l σ k [eI l,x] σ
theorem k36(h:s36 vs σ Q):Bd Sx 1 b36 1 vs σ Q:=by
 obtain⟨l,rfl,h⟩:=h;refine⟨rfl,dL (I36 l σ) (hE (aa rfl)) (.mk rfl) (fun k hk loc τ K' I hR hK=>?_) fun loc τ I=>?_⟩
 ·obtain @⟨x,he⟩:=I;rw[List.drop_eq_getElem_cons hk]at he;unfold bn at he;rw[List.all_cons]at he;refine t_v rfl (f8 (pe rfl) (fun c=>x_r qL (hR _ _ (Wk.same ?_))) fun c=>x_n (hK _ _ (.mk (he.trans ?_))))
  ·have c:=Bool.and_eq_true_iff.mp c;rw[bnt c.1,bnt c.2]at he;rw[show bn l=false from he]at h;exact h
  ·rw[show(l[k]==32||l[k]==9)=true from Bool.or_eq_true_iff.mpr ((Bool.and_eq_false_iff.mp c).imp bnf bnf)];rfl
 ·obtain @⟨x,he⟩:=I;rw[List.drop_length]at he;rw[he]at h;exact x_r qL (Wk.same h)
noncomputable def s37(vs:List PV)(σ:Sto)(Q:KV):Prop:=∃rows p f col way L,vs=[.obj p,.obj f]∧σ p=some (.list (rows.map eI))∧σ f=some (bN col way L)∧rows≠[]∧Q (.tup [eI (aA L rows).1,eI (aA L rows).2]) σ
theorem zs{rows:List (List Int)}{p f:Nat}{col:Int}{way:Nat}{L:List Int}(h0:σ p=some (.list (rows.map eI)))(h1:σ f=some (bN col way L))(h2:rows≠[])(h:Q (.tup [eI (aA L rows).1,eI (aA L rows).2]) σ):s37 [.obj p,.obj f] σ Q:=⟨rows,p,f,col,way,L,rfl,h0,h1,h2,h⟩
inductive I37(p f:Nat)(r0 r1:List Int)(L:List Int)(rs:List (List Int))(σ:Sto):Nat→List PV→Sto→Prop
 | mk {k:Nat} {x:PV}:I37 p f r0 r1 L rs σ k [.obj p,.obj f,eI r0,eI ((rs.take k).foldl (fun a r=>aO a (aG L r)) r1),x] σ
theorem k37(h34:Sx 34=s34)(h35:Sx 35=s35)(h36:Sx 36=s36)(h:s37 vs σ Q):Bd Sx 2 b37 3 vs σ Q:=by
 obtain⟨rows,p,f,col,way,L,rfl,h0,h1,h2,h⟩:=h;have q34:∀{row:List Int} (Q:KV),Q (eI (aG L row)) σ→s34 [eI row,.obj f] σ Q:=fun Q q=>qb h1 q
 clear h1;have hg0:=List.getElem?_eq_getElem (List.length_pos_iff.mpr h2);refine⟨rfl,x_a (bb (ae (dM (n:=0) (f:=eI) (aa rfl) h0 aJ hg0) (ae (aa rfl) aD)) rfl h34 q34) rfl (f8 (cR (ib (f:=eI) (aa rfl) h0) aJ) (fun c=>?_) fun c=>?_)⟩
 ·have hl:rows.length=1:=Int.ofNat_inj.mp (eq_of_beq c);obtain⟨r0,rfl⟩:=List.length_eq_one_iff.mp hl;exact x_r (gz (ae (aa rfl) (ae (vM (f:=eI) (bb (pa rfl) rfl h36 fun Q q=>⟨_,rfl,q⟩) (aa rfl) iN) aD)) rfl) (Wk.same h)
 ·match rows,h2,c with
  | [r0],_,c=>cases c
  | r0::r1::rs,_,c=>
   refine x_a (bb (ae (dM (n:=1) (f:=eI) (aa rfl) h0 aJ rfl) (ae (aa rfl) aD)) rfl h34 q34) rfl (dL (I37 p f (aG L r0) (aG L r1) L rs σ) (hE (rS (f:=eI) (n:=2) (aa rfl) h0 aJ)) .mk (fun k hk loc τ K' I _ hK=>?_) fun loc τ I=>?_)
   ·cases I;exact t_v rfl (x_a (ay (bb (ae (aa rfl) (ae (bb (pa rfl) rfl h34 q34) aD)) rfl h35 fun Q q=>⟨_,_,rfl,q⟩) (congrArg eI (show _=(rs.take (k+1)).foldl (fun a r=>aO a (aG L r)) (aG L r1) by rw[a6 (l:=rs) hk,List.foldl_append];rfl))) rfl (x_n (hK _ _ .mk)))
   ·cases I;rw[show(rs.take (List.drop 2 (r0::r1::rs)).length)=rs from List.take_length];exact x_r (gz (pa rfl) rfl) (Wk.same h)
end
end Mine
end
section
namespace Mine
theorem bA:∀(l:List Int),(∀p∈(ao l).2,p.1≠[]∧(∀c∈p.1,br c=false)∧∀c∈p.2,br c=true)∧(∀c∈(ao l).1,br c=true)∧(ao l).1++(ao l).2.flatMap (fun p=>p.1++p.2)=l
 | []=>by simp[ao]
 | c :: r => by
  obtain⟨h1,h2,h3⟩:=bA r;unfold ao
  by_cases hc:br c=true
  ·rw[if_pos hc];refine⟨h1,fun x hx=>?_,?_⟩
   ·rcases List.mem_cons.mp hx with rfl|hx
    ·exact hc
    ·exact h2 x hx
   ·show c::((ao r).1++_)=_;rw[h3]
  ·rw [if_neg hc];split
   ·rename_i w g ps e1 e2;rw[e2]at h1 h3;rw[e1]at h3;refine⟨fun p hp=>?_,fun x hx=>(by cases hx),?_⟩
    ·rcases List.mem_cons.mp hp with rfl|hp
     ·have:=h1 (w,g) List.mem_cons_self;refine⟨by simp,fun x hx=>?_,this.2.2⟩;rcases List.mem_cons.mp hx with rfl|hx
      ·simpa using hc
      ·exact this.2.1 x hx
     ·exact h1 p (List.mem_cons_of_mem _ hp)
    ·rw[←h3];rfl
   ·rename_i hn;refine⟨fun p hp=>?_,fun x hx=>(by cases hx),?_⟩
    ·rcases List.mem_cons.mp hp with rfl|hp
     ·refine⟨by simp,fun x hx=>?_,h2⟩;rcases List.mem_cons.mp hx with rfl|hx
      ·simpa using hc
      ·cases hx
     ·exact h1 p hp
    ·show c::((ao r).1++List.flatMap (fun p=>p.1++p.2) (ao r).2)=_;rw[h3]
theorem oZ(w b:List Int):1≤ez w b∧ez w b≤2:=by unfold ez;split<;>(try split)<;>lia
theorem nW(ps:List (List Int×List Int)):(ps.map fun p=>p.1.length).sum≤(ps.flatMap fun p=>p.1++p.2).length:=by
 induction ps with
 | nil=>simp
 | cons p ps ih=>simp only[List.map_cons,List.sum_cons,List.flatMap_cons,List.length_append]at*;exact ln [_,_,_,_] [.l .x0 .x1] (.a .x2 .x0) (.a (.a .x2 .x3) .x1) [] rfl ih
theorem eZ{l:List Int}(h:l.length≤4000):bg (aB l):=by
 obtain⟨h1,h2,h3⟩:=bA l;refine⟨fun p hp=>?_,?_⟩
 ·unfold aB at hp;obtain⟨q,hq,rfl⟩:=List.mem_map.mp hp;exact⟨(h1 q hq).1,oZ _ _⟩
 ·have:=nW (ao l).2;have e:=congrArg List.length h3;rw[List.length_append]at e;unfold ek aB;rw[List.map_map]
  show(List.map (fun p=>p.1.length) (ao l).2).sum≤_;exact ln [_,_,_,_] [.l .x0 (.k 4000),.l .x1 .x2,.e (.a .x3 .x2) .x0] .x1 (.k 4000) [] rfl h this e
theorem iT(a b:List aj):ek (a++b)=ek a+ek b:=by unfold ek;rw[List.map_append,List.sum_append]
theorem jL(l:List aj)(k:Nat):ek l=ek (l.take k)+ek (l.drop k):=by rw[←iT,List.take_append_drop]
theorem bg.take{l:List aj}(h:bg l)(k:Nat):bg (l.take k):=⟨fun p hp=>h.1 p (List.take_subset _ _ hp),by have q11:=jL l k;have:=h.2;exact ln [_,_,_] [.f .x0 (.a .x1 .x2),.l .x0 (.k 4000)] .x1 (.k 4000) [] rfl q11 this⟩
theorem bg.drop{l:List aj}(h:bg l)(k:Nat):bg (l.drop k):=⟨fun p hp=>h.1 p (List.drop_subset _ _ hp),by have q12:=jL l k;have:=h.2;exact ln [_,_,_] [.f .x0 (.a .x1 .x2),.l .x0 (.k 4000)] .x2 (.k 4000) [] rfl q12 this⟩
theorem bg.rows:∀(n:Nat) (w0 w:Int) (ps:List aj),bg ps→∀part∈bL n w0 w ps,bg part
 | 0,_,_,_,_,_,h=>by cases h
 | n+1,w0,w,ps,hp,part,h=>by
  unfold bL at h;split at h
  ·cases h
  ·rcases List.mem_cons.mp h with rfl|h
   ·exact hp.take _
   ·exact bg.rows n w w _ (hp.drop _) part h
theorem kf:∀(n:Nat) (w0 w:Int) (ps:List aj),ps.length≤n→(bL n w0 w ps).flatten=ps
 | 0,_,_,ps,h=>by
  have:=List.length_eq_zero_iff.mp (Nat.le_zero.mp h);subst this;rfl
 | n+1,w0,w,ps,h=>by
  unfold bL;split
  ·rename_i e;subst e;rfl
  ·rename_i e
   have:=bU (width:=w0) e;rw[List.flatten_cons,kf n w w _ (by rw[List.length_drop];exact sc (ps.length) (aW w0 ps) (fun z0 w0=>ln [_,_,_,_] [.l .x0 .p11,.l .k1 .x2,.e (.a .x3 .x2) .x0] .x3 .x1 [] rfl h this w0) fun z0 w0=>ln [_,_] [.e .x1 .k0] .x1 .x0 [] rfl w0),List.take_append_drop]
theorem cz(w0 w:Int)(ps:List aj):(cg w0 w ps).flatten=ps:=kf _ _ _ _ (Nat.le_refl _)
theorem gS:∀(n:Nat) (w0 w:Int) (ps:List aj),∀part∈bL n w0 w ps,part≠[]
 | 0,_,_,_,_,h=>by cases h
 | n+1,w0,w,ps,part,h=>by
  unfold bL at h;split at h
  ·cases h
  ·rename_i e;rcases List.mem_cons.mp h with rfl|h
   ·have:=bU (width:=w0) e;intro z;have h2:min (aW w0 ps) ps.length=0:=by rw[←List.length_take,z];rfl
    have:=List.length_pos_iff.mpr e
    lia
   ·exact gS n w w _ part h
theorem ec{row:List aj}(h:bg row){width:Int}{W:Nat}(hw:width≤W)(way:Nat)(last:Bool):(a8 row width way last).length≤ek row+row.length*(W+3)+W:=by
 have hown:=cH (G:=2) row (aq row) fun g hg=>(h.gaps g hg).2
 have hspr:=cH (G:=W+3) row (bc row width) fun g hg=>(eO h hw g hg).2
 have hm:row.length*(W+3)=row.length*W+row.length*2+row.length:=by rw[Nat.mul_add];lia
 have hfd:(width-(az row (aq row)).length).fdiv 2=(width-(az row (aq row)).length) / 2:=Int.fdiv_eq_ediv_of_nonneg _ (by decide);unfold a8;rw[hfd];split
 ·exact ln [_,_,_,_] [.l .x2 (.a .x1 .x3)] .x2 (.a (.a .x1 .x3) .x0) [] rfl hspr
 ·split
  ·exact ln [_,_,_,_,_,_,_] [.l .x1 (.a .x2 .x3),.f .x4 (.a (.a .x5 .x3) .x6)] .x1 (.a (.a .x2 .x4) .x0) [] rfl hown hm
  ·split
   ·rw[List.length_append,List.length_replicate];lia
   ·rw[List.length_append,List.length_replicate];lia
noncomputable def rsz(rows:List (List Int)):Nat:=(rows.map fun r=>r.length+1).sum
theorem au(a b:List (List Int)):rsz (a++b)=rsz a+rsz b:=by unfold rsz;rw[List.map_append,List.sum_append]
theorem ax(a:List Int)(b:List (List Int)):rsz (a::b)=a.length+1+rsz b:=by unfold rsz;rw[List.map_cons,List.sum_cons]
theorem mT{a:List Int}{b:List (List Int)}(h:a∈b):a.length+1≤rsz b:=by
 induction b with
 | nil=>cases h
 | cons x b ih=>
  rw[ax];rcases List.mem_cons.mp h with rfl|h
  ·exact ln [_,_] [] .p01 (.a .p01 .x1) [] rfl
  ·have:=ih h;exact ln [_,_,_] [.l .p01 .x1] .p01 (.a .p21 .x1) [] rfl this
theorem fY(b:List (List Int)):b.length≤rsz b:=by
 induction b with
 | nil=>simp
 | cons x b ih=>rw[ax,List.length_cons];exact ln [_,_,_] [.l .x0 .x1] .p01 (.a .p21 .x1) [] rfl ih
theorem bC(r:List Int)(rs:List (List Int)):ad (r::rs)=r++rs.flatMap (fun r=>10::r):=by
 induction rs generalizing r with
 | nil=>simp[ad]
 | cons x rs ih=>unfold ad;rw[ih];simp
theorem m8{rows:List (List Int)}:(ad rows).length≤rsz rows:=by
 cases rows with
 | nil=>simp[ad]
 | cons r rs=>
  rw[bC,ax,List.length_append]
  have:(rs.flatMap fun r=>10::r).length=rsz rs:=by
   induction rs with
   | nil=>rfl
   | cons x rs ih=>rw[List.flatMap_cons,ax,List.length_append,ih];rfl
  exact ln [_,_,_] [.e .x0 .x1] (.a .x2 .x0) (.a .p21 .x1) [] rfl this
theorem bO(l:List Int):rsz (ah l)=l.length+1:=by
 induction l with
 | nil=>rfl
 | cons c l ih=>
  unfold ah;split
  ·rw[ax,ih];simp;exact lne [_] [] (.a .k1 .p01) (.a .p01 .k1) [] [] rfl rfl
  ·split
   ·rename_i h t e;rw[e,ax]at ih;rw[ax];simp;exact lne [_,_,_] [.e (.a .p01 .x1) .p21,.f (.a .p01 .x1) .p21] (.a (.a .p01 .k1) .x1) (.a .p21 .k1) [1,0] [0] rfl rfl ih ih
   ·rename_i e;rw[e]at ih;simp[rsz]at ih
theorem gw(L row:List Int):(aG L row).length≤row.length:=List.takeWhile_sublist _ |>.length_le
theorem eD:∀(a b:List Int),(aO a b).length≤a.length
 | [],b=>by simp[aO]
 | x::a,[]=>by simp[aO]
 | x::a,y::b=>by unfold aO;split<;>simp[eD a b]
theorem mf{L:List Int}{rows:List (List Int)}{M:Nat}(h:∀r∈rows,(aG L r).length≤M):(aA L rows).1.length≤M∧(aA L rows).2.length≤M:=by
 match rows,h with
 | [],_=>simp[aA]
 | [r],h=>
  have:=h r List.mem_cons_self;unfold aA;refine⟨this,?_⟩;dsimp only;split
  ·exact this
  ·simp
 | r0::r1::rs,h=>
  refine⟨h r0 List.mem_cons_self,?_⟩;have h1:=h r1 (by simp)
  show(List.foldl (fun a r=>aO a (aG L r)) (aG L r1) rs).length≤M
  have:∀(rs:List (List Int)) (a:List Int),a.length≤M→(rs.foldl (fun a r=>aO a (aG L r)) a).length≤M:=by
   intro rs
   induction rs with
   | nil=>exact fun a h=>h
   | cons x rs ih=>intro a h;rw[List.foldl_cons];exact ih _ (Nat.le_trans (eD _ _) h)
  exact this rs _ h1
theorem lH(n:Nat)(rs:List (List Int)):(rs.flatMap fun r=>10::r.drop n).length≤rsz rs:=by
 induction rs with
 | nil=>simp
 | cons x rs ih=>rw[List.flatMap_cons,ax,List.length_append,List.length_cons,List.length_drop];exact ln [_,_,_,_] [.l .x0 .x1,.l .x2 .x3] (.a .p21 .x0) (.a .p31 .x1) [] rfl ih sb
theorem dS{L:List Int}{rows:List (List Int)}(h:rows≠[]):(aC L rows).length+1≤rsz rows:=by
 match rows,h with
 | r0::rs,_=>
  unfold aC;rw[List.length_append,List.length_drop,ax]
  have:=lH (aA L (r0::rs)).2.length rs;show _-_+(List.flatMap _ rs).length+1≤_;simp only[List.headD_cons];exact ln [_,_,_,_] [.l .x0 .x1,.l .x2 .x3] (.a (.a .x2 .x0) .k1) (.a .p31 .x1) [] rfl this sb
theorem rj{col:Int}{way:Nat}{first rest:List Int}{n M W:Nat}(hc:col≤W)(hf:first.length≤M)(hr:rest.length≤M):∀(parts:List (List aj)) (k:Nat),(∀p∈parts,bg p)→
  rsz ((parts.zipIdx k).map fun p=>bh col way first rest n p.2 p.1)≤parts.length*(M+W+1)+(ek parts.flatten+parts.flatten.length*(W+3))
 | [],_,_=>by simp[rsz]
 | p::parts,k,h=>by
  have ih:=rj (way:=way) (n:=n) hc hf hr parts (k+1) fun x hx=>h x (List.mem_cons_of_mem _ hx)
  have hp:=h p List.mem_cons_self;have b1:=da first 0 (by exact lz [] [] [] .k0 .k0 [] rfl)
  have b2:=da rest 0 (by exact lz [] [] [] .k0 .k0 [] rfl);have e1:bu first=first.foldl ii 0:=rfl
  have e2:bu rest=rest.foldl ii 0:=rfl;have q1:=ec hp (width:=col-bu first) (W:=W) (by exact lz [_,_] [_,_,_] [.l .y0 .x0,.l (.a .k0 .x1) .y1,.f .y2 .y1] (.d .y0 .y2) .x0 [] rfl hc b1.1 e1) way (k+1==n);have q2:=ec hp (width:=col-bu rest) (W:=W) (by exact lz [_,_] [_,_,_] [.l .y0 .x0,.l (.a .k0 .x1) .y1,.f .y2 .y1] (.d .y0 .y2) .x0 [] rfl hc b2.1 e2) way (k+1==n);rw[List.zipIdx_cons,List.map_cons,ax,List.flatten_cons,iT,List.length_append,List.length_cons];have m1:(p.length+parts.flatten.length)*(W+3)=p.length*(W+3)+parts.flatten.length*(W+3):=Nat.add_mul _ _ _;have m2:(parts.length+1)*(M+W+1)=parts.length*(M+W+1)+(M+W+1):=Nat.succ_mul _ _;have hl:(bh col way first rest n k p).length≤M+(ek p+p.length*(W+3)+W):=by
   unfold bh;split
   ·rw[List.length_append];exact ln [_,_,_,_,_,_] [.l .x1 .x2,.l .x3 (.a (.a .x4 .x5) .x0)] (.a .x1 .x3) (.a .x2 (.a (.a .x4 .x5) .x0)) [] rfl hf q1
   ·rw[List.length_append];exact ln [_,_,_,_,_,_] [.l .x2 .x1,.l .x5 (.a (.a .x3 .x4) .x0)] (.a .x2 .x5) (.a .x1 (.a (.a .x3 .x4) .x0)) [] rfl hr q2
  show(bh col way first rest n k p).length+1+_≤_;exact ln [_,_,_,_,_,_,_,_,_,_,_] [.l .x2 (.a .x3 (.a .x4 .x5)),.f (.x 8) (.a (.x 7) .x5),.f (.x 9) (.a .x3 (.a (.a .x1 .x0) .k1)),.l (.x 10) (.a .x1 (.a (.a .x6 (.x 7)) .x0))] (.a (.p 10 1) .x2) (.a (.x 9) (.a (.a .x6 .x4) (.x 8))) [] rfl ih m1 m2 hl
theorem l7{parts:List (List aj)}(h:∀p∈parts,p≠[]):parts.length≤parts.flatten.length:=by
 induction parts with
 | nil=>simp
 | cons p parts ih=>
  have q10:=ih fun x hx=>h x (List.mem_cons_of_mem _ hx)
  have:=List.length_pos_iff.mpr (h p List.mem_cons_self);rw[List.flatten_cons,List.length_append,List.length_cons];exact ln [_,_,_] [.l .x0 .x1,.l .k1 .x2] .p01 (.a .x2 .x1) [] rfl q10 this
theorem qD{col:Int}{way:Nat}{L:List Int}{rows:List (List Int)}{M W:Nat}(hn:rows≠[])(hs:rsz rows≤4001)(hc:col≤W)(hM:∀r∈rows,(aG L r).length≤M):rsz (aH col way L rows)≤(aC L rows).length+(aB (aC L rows)).length*(M+2*W+4)∧(aB (aC L rows)).length≤(aC L rows).length:=by
 obtain⟨h1,h2⟩:=mf hM;have hw:=dS (L:=L) hn;have ok:=eZ (l:=aC L rows) (by exact ln [_,_] [.l .x0 (.k 4001),.l .p11 .x0] .x1 (.k 4000) [] rfl hs hw);have hfl:(aY col L rows).flatten=aB (aC L rows):=cz _ _ _;have hpl:=l7 (parts:=aY col L rows) (gS _ _ _ _)
 have:=rj (way:=way) (n:=(aY col L rows).length) hc h1 h2 (aY col L rows) 0 (bg.rows _ _ _ _ ok);rw[hfl]at this hpl;have hws:ek (aB (aC L rows))≤(aC L rows).length:=by
  obtain⟨_,_,h3⟩:=bA (aC L rows);have s:=nW (ao (aC L rows)).2;have e:=congrArg List.length h3;rw[List.length_append]at e;unfold ek aB;rw[List.map_map]
  show(List.map (fun p=>p.1.length) (ao (aC L rows)).2).sum≤_;exact ln [_,_,_,_] [.l .x1 .x2,.e (.a .x3 .x2) .x0] .x1 .x0 [] rfl s e
 have hl:=ok.len;refine⟨Nat.le_trans this ?_,Nat.le_trans hl hws⟩;rw[show M+2*W+4=(M+W+1)+(W+3) by exact lne [_,_] [] (.a (.a .x1 (.m 2 .x0)) (.k 4)) (.a (.a (.a .x1 .x0) .k1) (.a .x0 (.k 3))) [] [] rfl rfl,Nat.mul_add];have a1:=Nat.mul_le_mul_right (M+W+1) hpl
 lia
theorem hV{col:Int}{way:Nat}{L:List Int}{rows:List (List Int)}{M W:Nat}(hn:rows≠[])(hs:rsz rows≤4001)(hc:col≤W)(hM:∀r∈rows,(aG L r).length≤M):rsz (aH col way L rows)≤rsz rows*(M+2*W+5):=by
 obtain⟨h1,h2⟩:=qD (way:=way) hn hs hc hM;have hw:=dS (L:=L) hn;have a2:=Nat.mul_le_mul_right (M+2*W+4) (Nat.le_trans h2 (Nat.le_of_succ_le hw));rw[show M+2*W+5=1+(M+2*W+4) by exact lne [_,_] [] (.a (.a .x1 (.m 2 .x0)) (.k 5)) (.a .k1 (.a (.a .x1 (.m 2 .x0)) (.k 4))) [] [] rfl rfl,Nat.mul_add,Nat.mul_one];exact Nat.le_trans h1 (Nat.add_le_add (Nat.le_of_succ_le hw) a2)
theorem dK{col:Int}{way:Nat}{L:List Int}{M W:Nat}(hc:col≤W):∀(rows par:List (List Int)),rsz par+rsz rows≤4001→(∀r∈par++rows,(aG L r).length≤M)→rsz (bj col way L par rows)≤(rsz par+rsz rows)*(M+2*W+5)
 | [],par,hs,hM=>by
  unfold bj;split
  ·simp[rsz]
  ·rename_i h
   have:=hV (way:=way) h (by simp[rsz]at hs;unfold rsz;exact hs) hc (fun r hr=>hM r (List.mem_append_left _ hr))
   simpa [rsz]using this
 | r :: rows, par, hs, hM => by
  rw[ax]at hs⊢;unfold bj;split
  ·have ih:=dK hc (way:=way) rows [] (by simp[rsz]at*;exact ln [_,_,_] [.l (.a .x0 (.a .p11 .x2)) (.k 4001)] .x2 (.k 4001) [] rfl hs) (fun x hx=>hM x (by simp at hx⊢;exact .inr (.inr hx)));rw[au,ax];have hp:rsz (if par=[]then[]else aH col way L par)≤rsz par*(M+2*W+5):=by
    split
    ·simp[rsz]
    ·rename_i h;exact hV h (by exact ln [_,_,_] [.l (.a .x0 (.a .p11 .x2)) (.k 4001)] .x0 (.k 4001) [] rfl hs) hc fun x hx=>hM x (List.mem_append_left _ hx)
   have e0:rsz ([]:List (List Int))=0:=rfl;rw[e0,Nat.zero_add]at ih;have d1:(rsz par+(r.length+1+rsz rows))*(M+2*W+5)=rsz par*(M+2*W+5)+((r.length+1)*(M+2*W+5)+rsz rows*(M+2*W+5)):=by rw[Nat.add_mul,Nat.add_mul]
   have d2:r.length+1≤(r.length+1)*(M+2*W+5):=Nat.le_mul_of_pos_right _ (by exact ln [_,_] [] .k1 (.a (.a .x1 (.m 2 .x0)) (.k 5)) [] rfl);exact ln [_,_,_,_,_,_,_] [.l .x1 .x2,.l .x3 .x4,.f .x5 (.a .x4 (.a .x6 .x2)),.l .p01 .x6] (.a .x3 (.a .p01 .x1)) .x5 [] rfl ih hp d1 d2
  ·have ih:=dK hc (way:=way) rows (par++[r]) (by rw[au,ax];simp[rsz]at*;exact ln [_,_,_] [.l (.a .x0 (.a .p11 .x2)) (.k 4001)] (.a (.a .x0 .p11) .x2) (.k 4001) [] rfl hs) (fun x hx=>hM x (by simp at hx⊢;exact hx));rw[au,ax]at ih;have e0:rsz ([]:List (List Int))=0:=rfl;rw[e0]at ih;rw[show rsz par+(r.length+1+rsz rows)=rsz par+(r.length+1+0)+rsz rows by exact lne [_,_,_] [] (.a .x0 (.a .p11 .x2)) (.a (.a .x0 (.a .p11 .k0)) .x2) [] [] rfl rfl];exact ih
end Mine
end
section
namespace Mine
section
variable {Sx:Spec} {σ:Sto} {Q:KV} {vs:List PV}
theorem bJ:∀l:List Int,ah l≠[]
 | []=>by simp[ah]
 | c::r=>by unfold ah;split<;>(try split)<;>simp
theorem fB:∀(l:List Int) (c:Int) (rs:List (List Int)) (r:List Int),ah l=rs++[r]→ah (l++[c])=if c=10 then rs++[r]++[[]]else rs++[r++[c]]
 | [],c,rs,r,h=>by
  have h':([[]]:List (List Int))=rs++[r]:=h
  have:rs=[]∧r=[]:=by
   cases rs with
   | nil=>simp at h';exact⟨rfl,h'⟩
   | cons x xs=>simp at h'
  obtain⟨rfl,rfl⟩:=this;show ah [c]=_
  by_cases hc:c=10
  ·rw[if_pos hc];simp[ah,hc]
  ·rw[if_neg hc];simp[ah,hc]
 | d :: l, c, rs, r, h => by
  show ah (d::(l++[c]))=_;unfold ah at h⊢;obtain⟨rs',r',e⟩:∃rs' r',ah l=rs'++[r']:=by
   have:=bJ l;exact⟨(ah l).dropLast,(ah l).getLast this,(List.dropLast_concat_getLast this).symm⟩
  have ih:=fB l c rs' r' e
  by_cases hd:d=10
  ·rw[if_pos hd]at h⊢;rw[ih];rw[e]at h
   have:rs=[]::rs'∧r=r':=by
    have h2:([]::rs')++[r']=rs++[r]:=h
    have:=List.append_inj' h2 rfl;exact⟨this.1.symm,by simpa using this.2.symm⟩
   obtain⟨rfl,rfl⟩:=this
   split<;>rfl
  ·rw[if_neg hd]at h⊢;rw[ih];rw[e]at h;cases rs' with
   | nil=>
    have h2:[d::r']=rs++[r]:=h
    have:rs=[]∧r=d::r':=by
     cases rs with
     | nil=>simp at h2;exact⟨rfl,h2.symm⟩
     | cons x xs=>simp at h2
    obtain⟨rfl,rfl⟩:=this
    by_cases hc:c=10
    ·rw[if_pos hc,if_pos hc];rfl
    ·rw[if_neg hc,if_neg hc];rfl
   | cons x xs=>
    have h2:((d::x)::xs)++[r']=rs++[r]:=h
    have:=List.append_inj' h2 rfl;obtain⟨q1,q2⟩:=this;have q2:r=r':=by simpa using q2.symm
    subst q1 q2
    by_cases hc:c=10
    ·rw[if_pos hc,if_pos hc];rfl
    ·rw[if_neg hc,if_neg hc];rfl
inductive dP(σ τ:Sto):List Nat→List (List Int)→Prop
 | nil:dP σ τ [] []
 | cons {b:Nat} {r:List Int} {bs:List Nat} {rs:List (List Int)} (h:τ b=some (.list (r.map .int))) (h':σ b=Option.none) (x:dP σ τ bs rs):dP σ τ (b::bs) (r::rs)
theorem dP.mono{σ τ τ':Sto}{bs:List Nat}{rs:List (List Int)}(h:∀b∈bs,τ' b=τ b)(x:dP σ τ bs rs):dP σ τ' bs rs:=by
 induction x with
 | nil=>exact .nil
 | cons a b _ ih=>exact .cons ((h _ List.mem_cons_self).trans a) b (ih fun y hy=>h y (List.mem_cons_of_mem _ hy))
theorem dP.snoc{σ τ:Sto}{z:Nat}{r:List Int}(h:τ z=some (.list (r.map .int)))(h':σ z=Option.none){bs:List Nat}{rs:List (List Int)}(x:dP σ τ bs rs):dP σ τ (bs++[z]) (rs++[r]):=by
 induction x with
 | nil=>exact .cons h h' .nil
 | cons a b _ ih=>exact .cons a b ih
theorem dP.frz{σ τ:Sto}{bs:List Nat}{rs:List (List Int)}(x:dP σ τ bs rs):lO τ σ (bs.map .obj) (rs.map eI):=by
 induction x with
 | nil=>exact .nil
 | cons a b _ ih=>exact .cons (.obj a b (lO.refl _)) ih
theorem dP.some{σ τ:Sto}{b:Nat}{bs:List Nat}{rs:List (List Int)}(x:dP σ τ bs rs):b∈bs→τ b≠Option.none∧σ b=Option.none:=by
 induction x with
 | nil=>exact fun h=>by cases h
 | cons a c _ ih=>exact fun h=>(List.mem_cons.mp h).elim (fun e=>by rw[e];exact⟨fun z=>(by rw[a]at z;cases z),c⟩) ih
theorem ty{l:List PV}{v:PV}:kM (l++[v]) ((l++[v]).length-1:Int)=some v:=by
 rw[List.length_append,List.length_singleton];unfold kM;rw[if_neg (by exact fun zz=>lzf [_] [] _ [.l (.a (.d .p01 .k1) .k1) .k0] [] rfl zz),show(((l.length+1:Nat):Int)-1).toNat=l.length by exact ioe (lze [_,_] [] [.e .x0 (.d .p11 .k1),.l (.d .p11 .k1) .x0] .x0 .x1 [1,0] [0] rfl rfl (tn (lz [_] [] [] .k0 (.d .p01 .k1) [] rfl)) tl)];simp
noncomputable def s32(vs:List PV)(σ:Sto)(Q:KV):Prop:=∃l,vs=[eI l]∧l.length≤1000000∧Q (eII (ah l)) σ
theorem zt{l:List Int}(h1:l.length≤1000000)(h:Q (eII (ah l)) σ):s32 [eI l] σ Q:=⟨l,rfl,h1,h⟩
structure ei(σ:Sto)(l:List Int)(a k:Nat)(τ:Sto)(bs:List Nat)(z:Nat)(rs:List (List Int))(r:List Int):Prop where
 sp:ah (l.take k)=rs++[r]
 ha:τ a=some (.list ((bs++[z]).map .obj))
 F:dP σ τ bs rs
 hz:τ z=some (.list (r.map .int))
 z0:σ z=Option.none
 za:z≠a
 zb:z∉bs
 ab:a∉bs
 lb:bs.length≤k
 lr:r.length≤k
 old:∀b o,σ b=some o→τ b=some o
inductive AM(σ:Sto)(l:List Int)(a k:Nat)(loc:List PV)(τ:Sto):Prop
 | mk {x:PV} {bs:List Nat} {z:Nat} {rs:List (List Int)} {r:List Int} (e:loc=[eI l,.obj a,x]) (h:ei σ l a k τ bs z rs r)
theorem bK{σ τ:Sto}{a:Nat}{o:cb}(h:∀b o,σ b=some o→τ b=some o)(ha:σ a=Option.none):∀b x,σ b=some x→(τ.set a o) b=some x:=fun b x e=>by
 rw[an (fun q=>by rw[q,ha]at e;cases e)];exact h b x e
theorem jB{σ τ:Sto}(h:∀b o,σ b=some o→τ b=some o){y:Nat}(hy:τ y=Option.none):σ y=Option.none:=by
 cases e:σ y with
 | none=>rfl
 | some o=>rw[h y o e]at hy;cases hy
theorem bM{τ:Sto}{y z:Nat}{o:cb}(hy:τ y=Option.none)(hz:τ z=some o):y≠z:=fun e=>by rw[e,hz]at hy;cases hy
theorem ei.init{σ:Sto}{l:List Int}{a z:Nat}(hz:σ z=Option.none)(ha:(σ.set z (.list [])) a=Option.none):ei σ l a 0 ((σ.set z (.list [])).set a (.list [.obj z])) [] z [] []:=
 have haz:a≠z:=fun e=>by rw[e,af]at ha;cases ha
 have ha':σ a=Option.none:=(an haz).symm.trans ha
 ⟨rfl,af,.nil,(an haz.symm).trans af,hz,haz.symm,List.not_mem_nil,List.not_mem_nil,Nat.le_refl _,Nat.le_refl _,bK (bK (fun _ _ e=>e) hz) ha'⟩
theorem ei.brk{σ τ:Sto}{l:List Int}{a k z y:Nat}{bs:List Nat}{rs:List (List Int)}{r:List Int}(h:ei σ l a k τ bs z rs r)(a0:σ a=Option.none)(hs:ah (l.take (k+1))=rs++[r]++[[]])(hy:τ y=Option.none):ei σ l a (k+1) ((τ.set y (.list [])).set a (.list ((bs++[z]).map .obj++[.obj y]))) (bs++[z]) y (rs++[r]) []:=by
 have hya:=bM hy h.ha;have hyz:=bM hy h.hz;have hyb:y∉bs:=fun e=>(h.F.some e).1 hy
 have hys:=jB h.old hy;refine⟨hs,?_,dP.snoc ?_ h.z0 (h.F.mono fun b hb=>?_),(an hya).trans af,hys,hya,?_,?_,?_,Nat.zero_le _,bK (bK h.old hys) a0⟩
 ·rw[af,List.map_append (l₁:=bs++[z])];rfl
 ·rw[an h.za,an hyz.symm];exact h.hz
 ·rw[an (fun e:b=a=>h.ab (e▸hb)),an (fun e:b=y=>hyb (e▸hb))]
 ·exact fun e=>(List.mem_append.mp e).elim hyb fun e=>hyz (List.mem_singleton.mp e)
 ·exact fun e=>(List.mem_append.mp e).elim h.ab fun e=>h.za (List.mem_singleton.mp e).symm
 ·rw[List.length_append];exact Nat.succ_le_succ h.lb
theorem ei.add{σ τ:Sto}{l:List Int}{a k z:Nat}{c:Int}{bs:List Nat}{rs:List (List Int)}{r:List Int}(h:ei σ l a k τ bs z rs r)(hs:ah (l.take (k+1))=rs++[r++[c]]):ei σ l a (k+1) (τ.set z (.list (r.map .int++[.int c]))) bs z rs (r++[c]):=by
 refine⟨hs,(an h.za.symm).trans h.ha,h.F.mono fun b hb=>an fun e=>h.zb (e▸hb),?_,h.z0,h.za,h.zb,h.ab,Nat.le_succ_of_le h.lb,?_,bK h.old h.z0⟩
 ·rw[af,List.map_append];rfl
 ·rw[List.length_append];exact Nat.succ_le_succ h.lr
theorem k32(h:s32 vs σ Q):Bd Sx 1 b32 2 vs σ Q:=by
 obtain⟨l,rfl,hl,h⟩:=h;refine⟨rfl,x_A (Ay fun z hz a ha=>x_s rfl (dL (AM σ l a) (hE (aa rfl)) (.mk rfl (ei.init hz ha)) (fun k hk loc τ K' I _ hK=>?_) fun loc τ I=>?_))⟩
 ·cases I with|mk e I=>
  subst e;have a0:σ a=Option.none:=jB (bK (fun _ _ e=>e) hz) ha;have hsn:=fB (l.take k) l[k] _ _ I.sp;rw[←a6 hk]at hsn;have hz:k<big:=Nat.lt_of_lt_of_le hk (Nat.le_trans hl (Nat.le_of_ble_eq_true rfl));refine t_v rfl (x_i (cR (aa rfl) (fh rfl)) (fun c=>x_E (Az (aa rfl) I.ha ?_ fun y hy=>hK _ _ (.mk rfl (I.brk a0 ?_ hy)))) fun c=>x_E (wn (ny (aa rfl) (aT (rT (aa rfl) I.ha) aJ) I.ha ?_) I.hz (aa rfl) ?_ (hK _ _ (.mk rfl (I.add ?_)))))
  ·rw[List.length_map,List.length_append];exact Nat.lt_of_le_of_lt (Nat.succ_le_succ I.lb) (Nat.lt_of_lt_of_le (Nat.succ_lt_succ hk) (Nat.le_trans (Nat.succ_le_succ hl) (Nat.le_of_ble_eq_true rfl)))
  ·rw[hsn,if_pos (beq_iff_eq.mp c)]
  ·rw[List.map_append];exact ty
  ·rw[List.length_map];exact Nat.lt_of_le_of_lt I.lr hz
  ·rw[hsn,if_neg fun e=>by rw[e]at c;cases c]
 ·cases I with|mk e I=>
  subst e;have e:=I.sp;rw[List.take_length]at e
  have:=(I.F.snoc I.hz I.z0).frz;rw[←e]at this;exact x_r (aa rfl) ⟨eII (ah l),σ,.obj I.ha (jB (bK (fun _ _ e=>e) hz) ha) this,I.old,h⟩
noncomputable def s33(vs:List PV)(σ:Sto)(Q:KV):Prop:=∃rows p,vs=[.obj p]∧σ p=some (.list (rows.map eI))∧rsz rows≤big∧Q (eI (ad rows)) σ
theorem uD{rows:List (List Int)}{p:Nat}(h0:σ p=some (.list (rows.map eI)))(h1:rsz rows≤big)(h:Q (eI (ad rows)) σ):s33 [.obj p] σ Q:=⟨rows,p,rfl,h0,h1,h⟩
theorem vE(rs:List (List Int)):(rs.flatMap fun r=>10::r).length=rsz rs:=by
 induction rs with
 | nil=>rfl
 | cons x rs ih=>rw[List.flatMap_cons,ax,List.length_append,ih];rfl
inductive I33(σ:Sto)(p a:Nat)(rows:List (List Int)):Nat→List PV→Sto→Prop
 | mk {k:Nat} {x:PV} {acc:List Int} (hz:acc.length≤rsz (rows.take k)) (he:if k=0 then acc=[]else acc++(rows.drop k).flatMap (fun r=>10::r)=ad rows):I33 σ p a rows k [.obj p,.obj a,x] (σ.set a (.list (acc.map .int)))
theorem k33(h:s33 vs σ Q):Bd Sx 1 b33 2 vs σ Q:=by
 obtain⟨rows,p,rfl,h0,h1,h⟩:=h;have hl:=Nat.le_trans (fY rows) h1;refine⟨rfl,fz (fun d=>rfl) fun a ha=>?_⟩;have hpa:=bM ha h0;have h0':∀o,(σ.set a o) p=some (.list (rows.map eI)):=fun o=>(an hpa.symm).trans h0
 refine dL (I33 σ p a rows) (vj (ib (aa rfl) (h0' _)) hl) (.mk (acc:=[]) (Nat.zero_le _) rfl) (fun k hk loc τ K' I _ hK=>?_) fun loc τ I=>?_
 ·rw[List.length_range]at hk
  induction I with| @mk x acc hz he=>?_
  rw[List.getElem_range];have hd:rows.drop k=rows[k]::rows.drop (k+1):=List.drop_eq_getElem_cons hk;have hs:rsz rows=rsz (rows.take k)+rsz (rows.drop k):=by rw[←au,List.take_append_drop]
  rw[hd,ax]at hs;have ht:rsz (rows.take (k+1))=rsz (rows.take k)+(rows[k].length+1):=by rw[a6 hk,au,ax];rfl
  refine t_v rfl (f8 (fv (aa rfl) aJ) (fun c=>?_) fun c=>?_)
  ·have hk0:0<k:=Int.ofNat_lt.mp (of_decide_eq_true c);rw[if_neg (Nat.ne_of_gt hk0),hd,List.flatMap_cons]at he;refine x_E (ll (aa rfl) (fh rfl) (by exact ln [_,_,_,_,_,_] [.l .x0 .x1,.l .x2 .x3,.f .x0 (.a .x3 (.a .p41 .x5))] .p21 .x1 [] rfl h1 hz hs) (x_z (x_E (pB (aa rfl) (dM (aa rfl) (h0' _) (aa rfl) (List.getElem?_eq_getElem hk)) (by rw[List.length_append,List.length_singleton];exact ln [_,_,_,_,_,_] [.l .x0 .x1,.l .x2 .x3,.f .x0 (.a .x3 (.a .p41 .x5))] (.a .p21 .x4) .x1 [] rfl h1 hz hs) (x_n (hK _ _ (.mk ?_ ?_)))))))
   ·rw[ht,List.length_append,List.length_append,List.length_singleton];exact ln [_,_,_] [.l .x0 .x1] (.a .p01 .x2) (.a .x1 .p21) [] rfl hz
   ·rw[if_neg (Nat.succ_ne_zero k),←he,List.append_assoc,List.append_assoc];rfl
  ·have hk0:k=0:=Nat.le_zero.mp (Nat.not_lt.mp fun z=>of_decide_eq_false c (Int.ofNat_lt.mpr z));subst hk0;replace he:acc=[]:=he;subst he;refine x_E (pB (l:=[]) (aa rfl) (dM (aa rfl) (h0' _) (aa rfl) (List.getElem?_eq_getElem hk)) (by rw[List.length_nil];exact ln [_,_,_,_,_] [.l .x0 .x1,.f .x0 (.a .x2 (.a .p31 .x4))] (.a .k0 .x3) .x1 [] rfl h1 hs) (x_n (hK _ _ (.mk ?_ ?_))))
   ·rw[ht,List.nil_append];exact ln [_,_] [] .x1 (.a .x0 .p11) [] rfl
   ·rw[if_neg (Nat.succ_ne_zero 0)]
    match rows,hk with
    | r::rs,_=>rw[bC];rfl
 ·induction I with| @mk x acc hz he=>?_
  rw[List.length_range,List.drop_length]at he
  have:acc=ad rows:=by
   split at he
   ·rename_i e;rw[he,List.length_eq_zero_iff.mp e];rfl
   ·rw[←he];exact(List.append_nil _).symm
  subst this;exact x_r (aa rfl) (Wk.frz ha h)
noncomputable def s38(vs:List PV)(σ:Sto)(Q:KV):Prop:=∃rows p f col way L,vs=[.obj p,.obj f]∧σ p=some (.list (rows.map eI))∧σ f=some (bN col way L)∧rows≠[]∧rsz rows≤4001∧0≤col∧col≤20∧Q (eII (aH col way L rows)) σ
theorem uC{rows:List (List Int)}{p f:Nat}{col:Int}{way:Nat}{L:List Int}(h0:σ p=some (.list (rows.map eI)))(h1:σ f=some (bN col way L))(h2:rows≠[])(h3:rsz rows≤4001)(h4:0≤col)(h5:col≤20)(h:Q (eII (aH col way L rows)) σ):s38 [.obj p,.obj f] σ Q:=
 ⟨rows,p,f,col,way,L,rfl,h0,h1,h2,h3,h4,h5,h⟩
inductive I38(σ:Sto)(p f:Nat)(first rest r0:List Int)(rs:List (List Int)):Nat→List PV→Sto→Prop
 | mk {k:Nat} {x:PV} {acc:List Int} (he:acc=r0.drop first.length++(rs.take k).flatMap fun r=>10::r.drop rest.length):I38 σ p f first rest r0 rs k [.obj p,.obj f,eI first,eI rest,eI acc,x,.undef,.undef,.undef,.undef,.undef,.undef,.undef] σ
inductive J38(σ:Sto)(l:PV→PV→PV→List PV)(a:Nat)(out:List (List Int)):Nat→List PV→Sto→Prop
 | mk {k:Nat} {x y z:PV} {acc:List (List Int)} (he:acc=out.take k):J38 σ l a out k (l x y z) (σ.set a (.list (acc.map eI)))
theorem xz{col:Int}{way n k:Nat}{first rest:List Int}{part:List aj}:bh col way first rest n k part=(if k=0 then first else rest)++a8 part (if k=0 then col-bu first else col-bu rest) way (k+1==n):=by unfold bh;split<;>rfl
theorem xy{k n:Nat}:((k:Int)==(n:Int)-1)=(k+1==n):=by
 by_cases e:k+1=n
 ·rw[beq_iff_eq.mpr e,beq_iff_eq];exact lze [_,_] [] [.e .p01 .x1,.f .p01 .x1] .x0 (.d .x1 .k1) [1,0] [0] rfl rfl (ie e) (ie e)
 ·rw[beq_eq_false_iff_ne.mpr e,beq_eq_false_iff_ne];exact fun z=>e (by exact ioe (lze [_,_] [] [.e .x0 (.d .x1 .k1),.f .x0 (.d .x1 .k1)] .p01 .x1 [1,0] [0] rfl rfl z z))
theorem rN{α:Type}{P:α→Prop}{p:Prop}[Decidable p]{a b:α}(ha:P a)(hb:P b):P (if p then a else b):=by split<;>assumption
theorem k38(h19:Sx 19=s19)(h22:Sx 22=s22)(h27:Sx 27=s27)(h30:Sx 30=s30)(h37:Sx 37=s37)(h:s38 vs σ Q):Bd Sx 2 b38 11 vs σ Q:=by
 obtain⟨rows,p,f,col,way,L,rfl,h0,h1,h2,h3,h4,h5,h⟩:=h;have hb:big=16777216:=rfl;refine⟨rfl,x_t (bb (pa rfl) rfl h37 fun Q q=>zs h0 h1 h2 q) ?_⟩;obtain⟨hl1,hl2⟩:=mf (L:=L) (rows:=rows) (M:=4000) fun r hr=>by have q10:=mT hr;have:=gw L r;exact ln [_,_,_] [.l .x0 (.k 4001),.l .p11 .x0,.l .x2 .x1] .x2 (.k 4000) [] rfl h3 q10 this
 have hw:=Nat.le_trans (dS (L:=L) h2) h3;have hl4:(aC L rows).length≤4000:=by exact ln [_] [.l .p01 (.k 4001)] .x0 (.k 4000) [] rfl hw
 have ok:=eZ (l:=aC L rows) hl4;have hpos:=List.length_pos_iff.mpr h2;have hg0:=List.getElem?_eq_getElem hpos;have hwo:aC L rows=rows[0].drop (aA L rows).1.length++(rows.drop 1).flatMap fun r=>10::r.drop (aA L rows).2.length:=by
  match rows,hpos with
  | r::rs,_=>rfl
 rw[show aH col way L rows=(aY col L rows).zipIdx.map fun p=>bh col way (aA L rows).1 (aA L rows).2 (aY col L rows).length p.2 p.1 from rfl]at h;have hpd:aY col L rows=cg (col-bu (aA L rows).1) (col-bu (aA L rows).2) (aB (aC L rows)):=rfl;generalize (aA L rows).1=first at*
 generalize (aA L rows).2=rest at*;generalize rows[0]=r0 at*;generalize aC L rows=words at*;generalize aY col L rows=parts at*;refine x_a (jG (dM (n:=0) (aa rfl) h0 aJ hg0) (aw (aa rfl))) rfl (dL (I38 σ p f first rest r0 (rows.drop 1)) (hE (rS (n:=1) (aa rfl) h0 aJ)) (.mk (List.append_nil _).symm) (fun k hk loc τ K' I _ hK=>?_) fun loc τ I=>?_)
 ·induction I with| @mk x acc he=>?_
  generalize rows.drop 1=rs at*;have e1:acc++[10]++rs[k].drop rest.length=r0.drop first.length++(rs.take (k+1)).flatMap fun r=>10::r.drop rest.length:=by
   rw[a6 hk,List.flatMap_append,←List.append_assoc,←he,List.append_assoc,List.flatMap_cons,List.flatMap_nil,List.append_nil];rfl
  have hlen:(acc++[10]++rs[k].drop rest.length).length≤4000:=by
   have:=congrArg List.length hwo;rw[←List.take_append_drop (k+1) rs,List.flatMap_append,←List.append_assoc,←e1,List.length_append]at this;exact ln [_,_,_] [.l .p01 (.k 4001),.f .x0 (.a .x1 .x2)] .x1 (.k 4000) [] rfl hw this
  rw[List.length_append]at hlen;have hl2:(acc++[10]).length=acc.length+1:=List.length_append;exact t_v rfl (x_a (fj (fj (aa rfl) (gA (fh rfl)) (show acc.length+1≤big by lia)) (jG (aa rfl) (aw (aa rfl))) (by lia)) rfl (x_n (hK _ _ (.mk e1))))
 ·induction I with| @mk x wds he=>?_
  rw[List.take_length,←hwo]at he;subst he;clear hwo h0 h3 hw hg0 hpos h2;have okp:∀part∈parts,bg part:=by rw[hpd];exact bg.rows _ _ _ _ ok
  have hml:parts.length≤4000:=by
   have a1:=l7 (parts:=parts) (by rw[hpd];exact gS _ _ _ _);rw[hpd,cz,←hpd]at a1;exact Nat.le_trans a1 (Nat.le_trans ok.len ok.2)
  refine x_a (aT (p1 h1 rfl) (bb (ae (aa rfl) (ae (p1 h1 rfl) aD)) rfl h30 fun Q q=>uE (by exact ln [_] [.l .x0 (.k 4000)] .x0 (.k 1000000) [] rfl hl1) q)) rfl (x_a (aT (p1 h1 rfl) (bb (ae (aa rfl) (ae (p1 h1 rfl) aD)) rfl h30 fun Q q=>uE (by exact ln [_] [.l .x0 (.k 4000)] .x0 (.k 1000000) [] rfl hl2) q)) rfl (fz (fun d=>rfl) fun a ha=>x_a (bb (ae (bb (pa rfl) rfl h19 fun Q q=>up zC ⟨by exact ln [_,_] [.f .x0 (.k 16777216),.l .x1 (.k 4000)] .x1 .x0 [] rfl hb hl4,q⟩) (pa rfl)) rfl h22 fun Q q=>zA (fun p hp=>(ok.1 p hp).1) (Nat.le_trans (Nat.le_trans ok.len ok.2) (Nat.le_of_ble_eq_true rfl)) q) rfl ?_));rw[←hpd];clear hpd ok hl4;have b1:=da first 0 (Int.le_refl 0)
  have b2:=da rest 0 (Int.le_refl 0);have hfa:=(bM ha h1).symm;have hc:∀k:Nat,-100000≤(if k=0 then col-bu first else col-bu rest)∧(if k=0 then col-bu first else col-bu rest)≤20:=fun k=>rN (P:=fun x=>-100000≤x∧x≤20) ⟨by unfold bu;exact lz [_] [_,_] [.l .k0 .y0,.l .x0 (.k 4000),.l .y1 (.a .k0 (.m 8 .x0))] (.o (.k 100000)) (.d .y0 .y1) [1,8] rfl h4 (il hl1) b1.2,by unfold bu;exact lz [_] [_,_] [.l .y0 (.k 20),.l (.a .k0 .x0) .y1] (.d .y0 .y1) (.k 20) [] rfl h5 b1.1⟩ ⟨by unfold bu;exact lz [_] [_,_] [.l .k0 .y0,.l .x0 (.k 4000),.l .y1 (.a .k0 (.m 8 .x0))] (.o (.k 100000)) (.d .y0 .y1) [1,8] rfl h4 (il hl2) b2.2,by unfold bu;exact lz [_] [_,_] [.l .y0 (.k 20),.l (.a .k0 .x0) .y1] (.d .y0 .y1) (.k 20) [] rfl h5 b2.1⟩
  clear b1 b2 h4 h5;refine dL (J38 σ (fun u v w=>[.obj p,.obj f,eI first,eI rest,eI wds,x,.int (col-bu first),.int (col-bu rest),.obj a,vX parts,u,v,w]) a (parts.zipIdx.map fun p=>bh col way first rest parts.length p.2 p.1)) (vj (aw (aa rfl)) (by exact ln [_] [.l .x0 (.k 4000)] .x0 (.k 16777216) [] rfl hml)) (.mk (acc:=[]) List.take_zero.symm) (fun k hk loc τ K' I _ hK=>?_) fun loc τ I=>?_
  ·rw[List.length_range]at hk
   induction I with| @mk x2 y2 z2 acc he=>?_
   rw[List.getElem_range];have hk':k<(parts.zipIdx.map fun p=>bh col way first rest parts.length p.2 p.1).length:=by rw[List.length_map,List.length_zipIdx];exact hk
   have hx:acc++[(if k=0 then first else rest)++a8 parts[k] (if k=0 then col-bu first else col-bu rest) way (k+1==parts.length)]=(parts.zipIdx.map fun p=>bh col way first rest parts.length p.2 p.1).take (k+1):=by
    rw[a6 hk',←he,List.getElem_map,List.getElem_zipIdx,←xz,Nat.zero_add]
   have hal:acc.length≤k:=by rw[he];exact List.length_take_le _ _
   have hgk:=List.getElem?_eq_getElem hk;have okk:=okp parts[k] (List.getElem_mem hk);obtain⟨w1,w2⟩:=hc k;have hle:(if k=0 then first else rest).length≤4000:=rN (P:=fun l=>List.length l≤4000) hl1 hl2;refine t_v rfl (x_a (ay (vM (cR (aa rfl) aJ) (aa rfl) (aa rfl)) (congrArg eI (if0 k first rest))) rfl (x_a (ay (pd (cR (aa rfl) aJ) (aa rfl) (aa rfl)) (congrArg PV.int (if0 k _ _))) rfl ?_));generalize (if k=0 then first else rest)=lead at*;generalize (if k=0 then col-bu first else col-bu rest)=w at*;have q1:=ec okk (width:=w) (W:=20) w2 way (k+1==parts.length);have hlr:=okk.len;have hlw:=okk.2;generalize parts[k]=part at*;exact x_E (ll (aa rfl) (fj (aa rfl) (bb (ae (aZ (aa rfl) (aa rfl) hgk) (ae (aa rfl) (ae (p1 ((an hfa).trans h1) rfl) (ae (ay (cR (aa rfl) (aT (aw (aa rfl)) aJ)) (congrArg PV.bool xy)) aD)))) rfl h27 fun Q q=>zx okk w1 w2 q) (by lia)) (by exact ln [_,_,_,_] [.f .x0 (.k 16777216),.l .x1 (.k 4000),.l .p21 .x1,.l .x3 .x2] .p31 .x0 [] rfl hb hml hk hal) (x_n (hK _ _ (.mk hx))))
  ·induction I with| @mk x2 y2 z2 acc he=>?_
   rw[List.length_range,List.take_of_length_le (by rw[List.length_map,List.length_zipIdx];exact Nat.le_refl _)]at he;subst he;exact x_r (aa rfl) (Wk.frz ha h)
noncomputable def s39(vs:List PV)(σ:Sto)(Q:KV):Prop:=∃l f col way L,vs=[eI l,.obj f]∧σ f=some (bN col way L)∧l.length≤4000∧0≤col∧col≤20∧Q (eI (aV col way L l)) σ
theorem zr{l:List Int}{f:Nat}{col:Int}{way:Nat}{L:List Int}(h1:σ f=some (bN col way L))(h3:l.length≤4000)(h4:0≤col)(h5:col≤20)(h:Q (eI (aV col way L l)) σ):s39 [eI l,.obj f] σ Q:=
 ⟨l,f,col,way,L,rfl,h1,h3,h4,h5,h⟩
theorem d3{col:Int}{way:Nat}{L:List Int}{par:List (List Int)}:bj col way L par []=if par=[]then[]else aH col way L par:=by unfold bj;rfl
theorem cN{col:Int}{way:Nat}{L:List Int}{par rs:List (List Int)}{r:List Int}:bj col way L par (r::rs)=if aK L r then(if par=[]then[]else aH col way L par)++r::bj col way L [] rs else bj col way L (par++[r]) rs:=by
 conv=>lhs;unfold bj
inductive I39(σ:Sto)(l L:List Int)(f a:Nat)(col:Int)(way:Nat)(rows:List (List Int)):Nat→List PV→Sto→Prop
 | mk {k:Nat} {x:PV} {q:Nat} {par out:List (List Int)} {τ:Sto} (i1:τ a=some (.list (out.map eI))) (i2:τ q=some (.list (par.map eI))) (i3:q≠a) (i4:σ q=Option.none) (i5:∀b o,σ b=some o→τ b=some o)
  (i6:out++bj col way L par (rows.drop k)=bj col way L [] rows) (i7:rsz par+rsz (rows.drop k)≤4001):I39 σ l L f a col way rows k [eI l,.obj f,.obj a,.obj q,x] τ
theorem k39(h32:Sx 32=s32)(h33:Sx 33=s33)(h34:Sx 34=s34)(h38:Sx 38=s38)(h:s39 vs σ Q):Bd Sx 2 b39 3 vs σ Q:=by
 obtain⟨l,f,col,way,L,rfl,h1,h3,h4,h5,h⟩:=h;have hb:big=16777216:=rfl;have hsz:=dK (way:=way) (L:=L) (M:=4000) (W:=20) h5 (ah l) [] (by rw[bO];simp[rsz];exact h3) (fun r hr=>by
  have:=mT (show r∈ah l by simpa using hr);rw[bO]at this;have:=gw L r;exact ln [_,_,_] [.l .x0 (.k 4000),.l .p11 .p01,.l .x2 .x1] .x2 (.k 4000) [] rfl h3 (by assumption) this)
 rw[show rsz ([]:List (List Int))=0 from rfl,Nat.zero_add,bO]at hsz;replace hsz:rsz (bj col way L [] (ah l))≤16184045:=Nat.le_trans hsz (Nat.mul_le_mul (Nat.succ_le_succ h3) (by decide:4000+2*20+5≤4045));have hrs:rsz (ah l)≤4001:=by rw[bO];exact Nat.succ_le_succ h3
 rw[show aV col way L l=ad (bj col way L [] (ah l))from rfl]at h;refine⟨rfl,fz (fun d=>rfl) fun a ha=>fz (fun d=>rfl) fun q hq=>?_⟩;have hqa:=bM hq af;have hq':=(an hqa).symm.trans hq;have i5:=bK (o:=.list []) (bK (o:=.list []) (fun _ _ e=>e) ha) hq';refine dL (I39 σ l L f a col way (ah l)) (hE (bb (pa rfl) rfl h32 fun Q q=>zt (by exact ln [_] [.l .x0 (.k 4000)] .x0 (.k 1000000) [] rfl h3) q)) (.mk (par:=[]) (out:=[]) ((an hqa.symm).trans af) af hqa hq' i5 rfl (by rw[show rsz ([]:List (List Int))=0 from rfl,Nat.zero_add];exact hrs)) (fun k hk loc τ K' I _ hK=>?_) fun loc τ I=>?_
 all_goals
  clear i5 hq' hqa hq hrs h3;generalize ah l=rows at*
  induction I with| @mk x q par out _ i1 i2 i3 i4 i5 i6 i7=>?_
  have hsz:=hsz;rw[←i6,au]at hsz;have o1:=fY out;have o2:=fY par
 ·rw[List.drop_eq_getElem_cons hk]at i6 i7 hsz;rw[ax]at i7;rw[cN]at i6 hsz;generalize rows[k]=row at*;refine t_v rfl (x_i (cR (aw (bb (pa rfl) rfl h34 fun Q q=>qb (i5 f _ h1) q)) (aw (aa rfl))) (fun c=>?_) fun c=>?_)
  ·rw[if_pos (show aK L row=true from beq_iff_eq.mpr (Int.ofNat.inj (eq_of_beq c)))]at i6 hsz;rw[au,ax]at hsz;refine f8 (fv (ib (aa rfl) i2) aJ) (fun c2=>?_) fun c2=>?_
   ·have hne:par≠[]:=List.length_pos_iff.mp (Int.ofNat_lt.mp (of_decide_eq_true c2));rw[if_neg hne]at i6 hsz;have o3:=fY (aH col way L par);refine x_E (yx (aa rfl) i1 (bb (pa rfl) rfl h38 fun Q q=>uC i2 (i5 f _ h1) hne (by exact ln [_,_,_] [.l (.a .x0 (.a .p11 .x2)) (.k 4001)] .x0 (.k 4001) [] rfl i7) h4 h5 q) (by exact ln [_,_,_,_,_,_,_] [.f .x0 (.k 16777216),.l .x1 .x2,.l (.a .x2 (.a .x4 (.a .p31 .x5))) (.k 16184045),.l .x6 .x4] (.a .x1 .x6) .x0 [] rfl hb o1 hsz o3) (fz (fun d=>rfl) fun y hy=>?_));have hya:=bM hy af;have hys:=jB i5 ((an hya).symm.trans hy);exact x_z (x_E (wo (aa rfl) ((an hya.symm).trans af) (aa rfl) (by rw[List.length_append];exact ln [_,_,_,_,_,_,_] [.f .x0 (.k 16777216),.l .x1 .x2,.l (.a .x2 (.a .x4 (.a .p31 .x5))) (.k 16184045),.l .x6 .x4] (.a (.a .x1 .x6) .k1) .x0 [] rfl hb o1 hsz o3) (x_n (hK _ _ (.mk (par:=[]) af ((an hya).trans af) hya hys (bK (bK (bK i5 ha) hys) ha) (by rw[←i6,List.append_assoc,List.append_assoc];rfl) (Nat.le_trans (Nat.add_le_add (Nat.zero_le _) (Nat.le_refl _)) (Nat.le_trans (Nat.add_le_add_left (Nat.le_add_left _ _) _) i7)))))))
   ·have hne:par=[]:=List.length_eq_zero_iff.mp (Nat.le_zero.mp (Nat.not_lt.mp fun z=>of_decide_eq_false c2 (Int.ofNat_lt.mpr z)));subst hne;rw[if_pos rfl]at i6 hsz;exact x_E (wo (aa rfl) i1 (aa rfl) (by exact ln [_,_,_,_,_,_] [.f .x0 (.k 16777216),.l .x1 .x2,.l (.a .x2 (.a .x3 (.a .p41 .x5))) (.k 16184045)] .p11 .x0 [] rfl hb o1 hsz) (x_n (hK _ _ (.mk (par:=[]) af ((an i3).trans i2) i3 i4 (bK i5 ha) (by rw[←i6,List.append_assoc];rfl) (by exact ln [_,_,_] [.l (.a .x0 (.a .p11 .x2)) (.k 4001)] (.a .x0 .x2) (.k 4001) [] rfl i7)))))
  ·rw[if_neg (show ¬aK L row=true from fun z=>by rw[Int.ofNat_inj.mpr (eq_of_beq z)]at c;exact ne_of_beq_false c rfl)]at i6 hsz;exact x_E (wo (aa rfl) i2 (aa rfl) (by exact ln [_,_,_,_,_] [.f .x0 (.k 16777216),.l .x1 .x2,.l (.a .x2 (.a .p31 .x4)) (.k 4001)] .p11 .x0 [] rfl hb o2 i7) (x_n (hK _ _ (.mk ((an i3.symm).trans i1) af i3 i4 (bK i5 i4) i6 (by rw[au,ax,show rsz ([]:List (List Int))=0 from rfl];exact ln [_,_,_] [.l (.a .x0 (.a .p11 .x2)) (.k 4001)] (.a (.a .x0 (.a .p11 .k0)) .x2) (.k 4001) [] rfl i7)))))
 ·rw[List.drop_length,d3]at i6 hsz;rw[List.drop_length]at i7;refine f8 (fv (ib (aa rfl) i2) aJ) (fun c2=>?_) fun c2=>?_
  ·have hne:par≠[]:=List.length_pos_iff.mp (Int.ofNat_lt.mp (of_decide_eq_true c2));rw[if_neg hne]at i6 hsz;have o3:=fY (aH col way L par);exact x_E (yx (aa rfl) i1 (bb (pa rfl) rfl h38 fun Q q=>uC i2 (i5 f _ h1) hne (by exact ln [_,_] [.l (.a .x0 .x1) (.k 4001)] .x0 (.k 4001) [] rfl i7) h4 h5 q) (by exact ln [_,_,_,_,_] [.f .x0 (.k 16777216),.l (.a .x1 .x2) (.k 16184045),.l .x3 .x1,.l .x4 .x2] (.a .x3 .x4) .x0 [] rfl hb hsz o1 o3) (x_z (x_R (y_c (pa rfl) rfl h33 (uD af (by rw[au];exact ln [_,_,_] [.f .x0 (.k 16777216),.l (.a .x1 .x2) (.k 16184045)] (.a .x1 .x2) .x0 [] rfl hb hsz) (by rw[i6];exact Wk.drop (bK i5 ha) h))))))
  ·have hne:par=[]:=List.length_eq_zero_iff.mp (Nat.le_zero.mp (Nat.not_lt.mp fun z=>of_decide_eq_false c2 (Int.ofNat_lt.mpr z)));rw[if_pos hne]at i6 hsz;rw[List.append_nil]at i6;exact x_R (y_c (pa rfl) rfl h33 (uD i1 (by exact ln [_,_,_] [.f .x0 (.k 16777216),.l (.a .x2 .x1) (.k 16184045)] .x2 .x0 [] rfl hb hsz) (by rw[i6];exact Wk.drop i5 h)))
end
end Mine
end
section
namespace Mine
theorem n7(n:Nat):ct n []=[]:=rfl
theorem pU{n:Nat}{c:Int}{r:List Int}(h:br c=true):ct n (c::r)=ct (n+1) r:=by
 have:=gY [c] r (fun x hx=>by rcases List.mem_cons.mp hx with rfl|hx;exact h;cases hx);unfold ct;rw[show c::r=[c]++r from rfl,this];show cG (n+((ao r).1.length+1)) _=_;rw[show n+((ao r).1.length+1)=n+1+(ao r).1.length by exact lne [_,_] [] (.a .x0 .p11) (.a .p01 .x1) [] [] rfl rfl]
theorem mP{n:Nat}{l:List Int}(h:l.takeWhile nBl≠[]):ct n l=(n,n+(l.takeWhile nBl).length)::ct (n+(l.takeWhile nBl).length) (l.dropWhile nBl):=by
 have:=eY (l.takeWhile nBl) (l.dropWhile nBl) h (fun c hc=>by simpa [nBl]using eG c hc) (fun c hc=>by simpa [nBl]using c8 hc);rw[List.takeWhile_append_dropWhile]at this;unfold ct;rw[this];rfl
noncomputable def Asc(m:Nat):Nat→List (Nat×Nat)→Prop
 | n,[]=>n≤m
 | n,s::r=>n≤s.1∧s.1≤s.2∧Asc m s.2 r
theorem Asc.le{m:Nat}:∀{n:Nat} {l:List (Nat×Nat)},Asc m n l→n≤m
 | _,[],h=>h
 | _,_::_,⟨h1,h2,h3⟩=>Nat.le_trans h1 (Nat.le_trans h2 h3.le)
theorem Asc.up{m n n':Nat}(hn:n'≤n):∀{l:List (Nat×Nat)},Asc m n l→Asc m n' l
 | [],h=>Nat.le_trans hn h
 | _::_,⟨h1,h2⟩=>⟨Nat.le_trans hn h1,h2⟩
theorem jX:∀(ps:List (List Int×List Int)) (n:Nat),Asc (n+(ps.flatMap fun p=>p.1++p.2).length) n (cG n ps)
 | [],n=>Nat.le_refl _
 | p::ps,n=>by
  have:=jX ps (n+p.1.length+p.2.length);refine⟨Nat.le_refl _,Nat.le_add_right _ _,?_⟩;rw[List.flatMap_cons,List.length_append,List.length_append];rw[show n+(p.1.length+p.2.length+(ps.flatMap fun p=>p.1++p.2).length)=n+p.1.length+p.2.length+(ps.flatMap fun p=>p.1++p.2).length by exact lne [_,_,_,_] [] (.a .x0 (.a (.a .x1 .x2) .x3)) (.a (.a (.a .x0 .x1) .x2) .x3) [] [] rfl rfl];exact this.up (Nat.le_add_right _ _)
theorem fC(l:List Int):Asc l.length 0 (bm l):=by
 obtain⟨_,_,h3⟩:=bA l
 have:=jX (ao l).2 (ao l).1.length;rw[←List.length_append,h3]at this;unfold bm ct;rw[Nat.zero_add];exact this.up (Nat.zero_le _)
theorem Asc.get{m:Nat}:∀{l:List (Nat×Nat)} {n j:Nat} {s:Nat×Nat},Asc m n l→l[j]? = some s→n≤s.1∧s.1≤s.2∧Asc m s.2 (l.drop (j+1))
 | [],_,_,_,_,h=>by simp at h
 | x::l,n,0,s,⟨h1,h2,h3⟩,h=>by
  cases h;exact⟨h1,h2,h3⟩
 | x::l,n,j+1,s,⟨h1,h2,h3⟩,h=>by
  obtain⟨a,b,c⟩:=h3.get (show l[j]? = some s by simpa using h);exact⟨by exact ln [_,_,_,_] [.l .x0 .x1,.l .x1 .x2,.l .x2 .x3] .x0 .x3 [] rfl h1 h2 a,b,c⟩
noncomputable def Chn(old new:List Int):Nat→Nat→List ((Nat×Nat)×(Nat×Nat))→Prop
 | n,m,[]=>n≤old.length∧m≤new.length
 | n,m,k::r=>n≤k.1.1∧k.1.1≤k.1.2∧m≤k.2.1∧k.2.1≤k.2.2∧sub old k.1.1 k.1.2=sub new k.2.1 k.2.2∧Chn old new k.1.2 k.2.2 r
theorem Chn.le{old new:List Int}:∀{l:List ((Nat×Nat)×(Nat×Nat))} {n m:Nat},Chn old new n m l→n≤old.length∧m≤new.length
 | [],_,_,h=>h
 | _::_,_,_,⟨h1,h2,h3,h4,_,h5⟩=>by have:=h5.le;exact⟨ln [_,_,_,_] [.l .x0 .x1,.l .x1 .x2,.l .x2 .x3] .x0 .x3 [] rfl h1 h2 this.1,ln [_,_,_,_] [.l .x0 .x1,.l .x1 .x2,.l .x2 .x3] .x0 .x3 [] rfl h3 h4 this.2⟩
theorem sK{old w:List Int}{spans:List (Nat×Nat)}{n m:Nat}(h:j9 old w spans n=some m):n≤m∧∃s,spans[m]? = some s∧sub old s.1 s.2=w:=by
 unfold j9 at h;obtain⟨i,hi,rfl⟩:=Option.map_eq_some_iff.mp h;obtain⟨hl,hp,_⟩:=List.findIdx?_eq_some_iff_getElem.mp hi;rw[List.getElem_take,List.getElem_drop]at hp;have hl2:n+i<spans.length:=by rw[List.length_take,List.length_drop]at hl;exact sc (spans.length) (n) (fun z0 w0=>ln [_,_,_,_,_] [.l .p01 .x1,.e (.a .x4 .x2) .x3,.l .x1 .x4] (.a (.a .x2 .x0) .k1) .x3 [] rfl hl w0 (Nat.min_le_right _ _)) fun z0 w0=>lnf _ [_,_,_] [.l .p01 .x1,.e .x2 .k0,.l .x1 .x2] [] rfl hl w0 (Nat.min_le_right _ _)
 exact⟨by exact ln [_,_] [] .x1 (.a .x1 .x0) [] rfl,_,List.getElem?_eq_getElem hl2,by simpa using hp⟩
theorem iH{old new:List Int}{spans:List (Nat×Nat)}:∀(ns:List (Nat×Nat)) (i n m:Nat),Asc old.length n (spans.drop i)→Asc new.length m ns→Chn old new n m (cW old new spans i ns)
 | [],i,n,m,h1,h2=>⟨h1.le,h2⟩
 | s::ns,i,n,m,h1,⟨h2,h3,h4⟩=>by
  unfold cW;split
  ·rename_i j e;obtain⟨hj,t,ht,hw⟩:=sK e;have hg:=h1.get (show(spans.drop i)[j-i]? = some t by rw[List.getElem?_drop,show i+(j-i)=j by exact lne [_,_,_] [.e (.a .x2 .x0) .x1,.f (.a .x2 .x0) .x1] (.a .x0 .x2) .x1 [1,0] [0] rfl rfl (su hj) (su hj)];exact ht);obtain⟨a,b,c⟩:=hg;rw[List.drop_drop,show i+(j-i+1)=j+1 by exact lne [_,_,_] [.e (.a .x2 .x0) .x1,.f (.a .x2 .x0) .x1] (.a .x0 .p21) .p11 [1,0] [0] rfl rfl (su hj) (su hj)]at c;have hd:spans.getD j (0,0)=t:=by simp[List.getD,ht]
   rw[hd];exact⟨a,b,h2,h3,hw,iH ns (j+1) _ _ c h4⟩
  ·exact iH ns i n m h1 (h4.up (by exact ln [_,_,_] [.l .x0 .x1,.l .x1 .x2] .x0 .x2 [] rfl h2 h3))
theorem kD(old new:List Int):Chn old new 0 0 (dE old new):=iH _ 0 0 0 (by rw[List.drop_zero];exact fC old) (fC new)
theorem Chn.snoc{old new:List Int}:∀{l:List ((Nat×Nat)×(Nat×Nat))} {n m:Nat},Chn old new n m l→Chn old new n m (l++[((old.length,old.length),(new.length,new.length))])
 | [],n,m,⟨a,b⟩=>⟨a,Nat.le_refl _,b,Nat.le_refl _,by simp[sub],Nat.le_refl _,Nat.le_refl _⟩
 | _::_,_,_,⟨h1,h2,h3,h4,h5,h6⟩=>⟨h1,h2,h3,h4,h5,h6.snoc⟩
section
variable {Sx:Spec} {σ:Sto} {Q:KV} {vs:List PV}
noncomputable def s42(vs:List PV)(σ:Sto)(Q:KV):Prop:=∃l,vs=[eI l]∧l.length<big∧Q (eL eS (bm l)) σ
theorem uA{l:List Int}(h1:l.length<big)(h:Q (eL eS (bm l)) σ):s42 [eI l] σ Q:=⟨l,rfl,h1,h⟩
theorem ym{x:Int}:(!([9,10,32]:List Int).contains x)=nBl x:=by
 unfold nBl br
 by_cases h1:x=32<;>by_cases h2:x=9<;>by_cases h3:x=10<;>simp[h1,h2,h3]
inductive I42(l:List Int)(σ:Sto)(a:Nat):Nat→List PV→Sto→Prop
 | mk {k:Nat} {acc:List (Nat×Nat)} {x:PV} (hk:k≤l.length) (hz:acc.length≤k) (he:acc++ct k (l.drop k)=bm l):I42 l σ a (l.length-k) [eI l,.obj a,.int (k:Nat),x] (σ.set a (.list (acc.map eS)))
theorem k42(h:s42 vs σ Q):Bd Sx 1 b42 3 vs σ Q:=by
 obtain⟨l,rfl,hl,h⟩:=h;refine⟨rfl,fz (fun d=>rfl) fun a ha=>x_a aJ rfl (mL (I42 l σ a) _ (.mk (k:=0) (acc:=[]) (Nat.zero_le _) (Nat.zero_le _) rfl) fun n loc τ I=>?_)⟩
 induction I with| @mk k acc x hk hz he=>?_
 refine⟨decide (k<l.length),ay (cQ (aa rfl) (aw (aa rfl))) (congrArg PV.bool (decide_eq_decide.mpr Int.ofNat_lt)),fun c K _ hK=>?_,fun c=>?_⟩
 ·have hlt:=of_decide_eq_true c;refine x_a (aa rfl) rfl (jK (f:=PV.int) (p:=nBl) (fun j:Nat=>[eI l,.obj a,.int (j:Nat),.int (k:Nat)]) k rfl (fun _=>rfl) (fun _=>rfl) (fun _=>rfl) hk (fun m z hz=>ay (vJ (aZ (f:=PV.int) (aa rfl) (aa rfl) hz) (fh rfl) rfl) (congrArg PV.bool ym)) fun m hkm hml s1 s2=>?_);refine x_i (fv (aa rfl) (aa rfl)) (fun c=>?_) fun c=>?_
  ·have hkm:=Int.ofNat_lt.mp (of_decide_eq_true c);refine x_E (ll (f:=eS) (x:=(k,m)) (aa rfl) (gz (pa rfl) rfl) (by exact ln [_,_,_,_] [.l .p01 .x1,.l .x2 .x0,.l .x3 .x2] .p31 .x1 [] rfl hl hk hz) (x_z (x_n (hK _ _ _ (by exact ln [_,_,_,_,_] [.l .p11 .x2,.e (.a .x3 .x2) .x0,.f (.a .x4 .x1) .x0] .p31 .x4 [] rfl hkm (su hml) (su hk)) (.mk hml (by rw[List.length_append,List.length_singleton];exact ln [_,_,_] [.l .x1 .x0,.l .p01 .x2] .p11 .x2 [] rfl hz hkm) ?_)))));have hn:((l.take m).drop k).length=m-k:=by rw[List.length_drop,List.length_take,Nat.min_eq_left hml]
   have e:=mP (n:=k) (l:=l.drop k) (by rw[s1];intro z;rw[z,List.length_nil]at hn;exact lnf _ [_,_,_] [.l .p01 .x1,.f .k0 .x2,.f (.a .x2 .x0) .x1] [] rfl hkm hn (su (by assumption)));rw[s2,s1,hn,Nat.add_sub_cancel' (Nat.le_of_lt hkm)]at e;rw[←he,e,List.append_assoc];rfl
  ·have hkm:m=k:=Nat.le_antisymm (Nat.not_lt.mp fun z=>of_decide_eq_false c (Int.ofNat_lt.mpr z)) hkm;subst hkm;refine x_a (ay (ev_add (aa rfl) aJ) (show _=PV.int ((m+1:Nat):Int)from rfl)) rfl (x_z (x_n (hK _ _ _ (Nat.sub_lt_sub_left hlt (Nat.lt_succ_self m)) (.mk hlt (Nat.le_succ_of_le hz) ?_))));rw[List.drop_eq_getElem_cons hlt]at s1 he;have hb:br l[m]=true:=by
    cases hb:br l[m]with
    | true=>rfl
    | false=>
     rw[List.takeWhile_cons_of_pos (by unfold nBl;rw[hb];rfl),List.drop_eq_nil_of_le (List.length_take_le _ _)]at s1;cases s1
   rw[pU hb]at he;exact he
 ·rw[List.drop_eq_nil_of_le (Nat.not_lt.mp (of_decide_eq_false c)),n7,List.append_nil]at he;subst he;exact x_r (aa rfl) (Wk.frz ha h)
noncomputable def s43(vs:List PV)(σ:Sto)(Q:KV):Prop:=∃old new,vs=[eI old,eI new]∧old.length<big∧new.length<big∧Q (eL eK (dE old new)) σ
theorem zq{old new:List Int}(h1:old.length<big)(h2:new.length<big)(h:Q (eL eK (dE old new)) σ):s43 [eI old,eI new] σ Q:=⟨old,new,rfl,h1,h2,h⟩
theorem Asc.len{m:Nat}:∀{n:Nat} {l:List (Nat×Nat)},Asc m n l→(∀s∈l,s.1<s.2)→n+l.length≤m
 | _,[],h,_=>h
 | _,s::_,⟨h1,h2,h3⟩,h=>by
  have q10:=h3.len fun x hx=>h x (List.mem_cons_of_mem _ hx)
  have:=h s List.mem_cons_self;rw[List.length_cons];exact ln [_,_,_,_,_] [.l .x0 .x1,.l (.a .x2 .x3) .x4,.l .p11 .x2] (.a .x0 .p31) .x4 [] rfl h1 q10 this
theorem jW:∀(ps:List (List Int×List Int)) (n:Nat),(∀p∈ps,p.1≠[])→∀s∈cG n ps,s.1<s.2
 | [],_,_,s,h=>by cases h
 | p::ps,n,hp,s,h=>by
  unfold cG at h;rcases List.mem_cons.mp h with rfl|h
  ·have:=List.length_pos_iff.mpr (hp p List.mem_cons_self);show n<n+_;exact ln [_,_] [.l .k1 .x0] .p11 (.a .x1 .x0) [] rfl this
  ·exact jW ps _ (fun x hx=>hp x (List.mem_cons_of_mem _ hx)) s h
theorem iW(l:List Int):(bm l).length≤l.length:=by
 have:=(fC l).len (jW _ _ fun p hp=>((bA l).1 p hp).1);exact ln [_,_] [.l (.a .k0 .x0) .x1] .x0 .x1 [] rfl this
theorem iG{old new:List Int}{spans:List (Nat×Nat)}:∀(ns:List (Nat×Nat)) (i:Nat),(cW old new spans i ns).length≤ns.length
 | [],_=>Nat.le_refl _
 | s::ns,i=>by
  unfold cW;split
  ·have:=iG (old:=old) (new:=new) (spans:=spans) ns;simp;exact this _
  ·have:=iG (old:=old) (new:=new) (spans:=spans) ns i;simp;exact ln [_,_] [.l .x0 .x1] .x0 .p11 [] rfl this
noncomputable def j8(old w:List Int)(spans:List (Nat×Nat))(n j:Nat):Bool:=decide (j<min spans.length (n+4))&& !(sub old (spans.getD j (0,0)).1 (spans.getD j (0,0)).2==w)
theorem sL{old w:List Int}{spans:List (Nat×Nat)}{n m:Nat}(h0:n≤m)(h1:∀j,n≤j→j<m→j8 old w spans n j=true)(h2:j8 old w spans n m=false):
  (m<min spans.length (n+4)→j9 old w spans n=some m)∧(¬m<min spans.length (n+4)→j9 old w spans n=none):=by
 have hl:((spans.drop n).take 4).length=min 4 (spans.length-n):=by rw[List.length_take,List.length_drop]
 have hg:∀i (hi:i<((spans.drop n).take 4).length),((spans.drop n).take 4)[i]=spans.getD (n+i) (0,0):=fun i hi=>by
  rw[List.getElem_take,List.getElem_drop];rw[hl]at hi;simp[List.getD,List.getElem?_eq_getElem (show n+i<spans.length by exact sc (spans.length) (n) (fun z0 w0=>ln [_,_,_,_,_,_] [.e .x1 .x2,.l .p31 .x1,.e (.a .x5 .x0) .x4,.l .x2 .x5] (.a (.a .x0 .x3) .k1) .x4 [] rfl hl (by assumption) w0 (Nat.min_le_right _ _)) fun z0 w0=>lnf _ [_,_,_,_] [.e .x0 .x1,.l .p21 .x0,.e .x3 .k0,.l .x1 .x3] [] rfl hl (by assumption) w0 (Nat.min_le_right _ _))]
 constructor
 ·intro hm;unfold j9
  have:((spans.drop n).take 4).findIdx? (fun s=>sub old s.1 s.2==w)=some (m-n):=by
   rw[List.findIdx?_eq_some_iff_getElem];refine⟨by rw[hl];exact mc (4) (spans.length-n) (fun z0 w0=>ln [_,_,_,_,_] [.l .p11 .x3,.f .x2 (.k 4),.l .x3 (.a .x0 (.k 4)),.e (.a .x4 .x0) .x1] .p41 .x2 [] rfl hm w0 (Nat.min_le_right _ _) (su h0)) fun z0 w0=>ln [_,_,_,_,_,_,_] [.l .p11 .x3,.f .x2 .x5,.l .x3 .x6,.l .x6 (.a .x5 .x0),.e (.a .x4 .x0) .x1] .p41 .x2 [] rfl hm w0 (Nat.min_le_left _ _) sl (su h0),?_,fun j hj=>?_⟩
   ·rw[hg,show n+(m-n)=m by exact lne [_,_,_] [.e (.a .x2 .x0) .x1,.f (.a .x2 .x0) .x1] (.a .x0 .x2) .x1 [1,0] [0] rfl rfl (su h0) (su h0)];unfold j8 at h2;rw[decide_eq_true hm]at h2
    simpa using h2
   ·rw[hg]
    have:=h1 (n+j) (by exact ln [_,_] [] .x0 (.a .x0 .x1) [] rfl) (by exact ln [_,_,_,_] [.l .p21 .x3,.e (.a .x3 .x0) .x1] (.a (.a .x0 .x2) .k1) .x1 [] rfl hj (su h0));unfold j8 at this;rw[Bool.and_eq_true]at this
    simpa using this.2
  rw[this];show some (n+(m-n))=some m;rw[show n+(m-n)=m by exact lne [_,_,_] [.e (.a .x2 .x0) .x1,.f (.a .x2 .x0) .x1] (.a .x0 .x2) .x1 [1,0] [0] rfl rfl (su h0) (su h0)]
 ·intro hm;unfold j9;rw[List.findIdx?_eq_none_iff.mpr];rfl;intro x hx;obtain⟨i,hi,rfl⟩:=List.getElem_of_mem hx;rw[hg];have hi':=hi;rw[hl]at hi'
  have:=h1 (n+i) (by exact ln [_,_] [] .x0 (.a .x0 .x1) [] rfl) (by exact mc (spans.length) (n+4) (fun z0 w0=>sc (spans.length) (n) (fun z1 w1=>ln [_,_,_,_,_,_,_,_] [.e .x2 .x3,.l .x4 .x1,.l .p51 .x2,.f .x4 (.x 7),.e (.a .x6 .x0) (.x 7),.l .x3 .x6] (.a (.a .x0 .x5) .k1) .x1 [] rfl hl (Nat.not_lt.mp hm) hi w0 w1 (Nat.min_le_right _ _)) fun z1 w1=>ln [_,_,_,_,_,_] [.l .x0 .x1,.e .x2 .x3,.l .p41 .x2,.e .x5 .k0,.l .x3 .x5] (.a (.a .x0 .x4) .k1) .x1 [] rfl h0 hl hi w1 (Nat.min_le_right _ _)) fun z0 w0=>ln [_,_,_,_,_,_] [.e .x2 .x3,.l .x4 .x1,.l .p51 .x2,.f .x4 (.a .x0 (.k 4)),.l .x3 (.k 4)] (.a (.a .x0 .x5) .k1) .x1 [] rfl hl (Nat.not_lt.mp hm) hi w0 (Nat.min_le_left _ _));unfold j8 at this;rw[Bool.and_eq_true]at this
  simpa using this.2
theorem kG{old new:List Int}{sp r:List (Nat×Nat)}{n m:Nat}{s:Nat×Nat}(h:j9 old (sub new s.1 s.2) sp n=some m):cW old new sp n (s::r)=(sp.getD m (0,0),s)::cW old new sp (m+1) r:=by
 conv=>lhs;unfold cW
 rw[h]
theorem qv{old new:List Int}{sp r:List (Nat×Nat)}{n:Nat}{s:Nat×Nat}(h:j9 old (sub new s.1 s.2) sp n=none):cW old new sp n (s::r)=cW old new sp n r:=by
 conv=>lhs;unfold cW
 rw[h]
inductive I43(old new:List Int)(sp sn:List (Nat×Nat))(σ:Sto)(a:Nat):Nat→List PV→Sto→Prop
 | mk {k n:Nat} {acc:List ((Nat×Nat)×(Nat×Nat))} {x y z:PV} (hz:acc.length≤k) (he:acc++cW old new sp n (sn.drop k)=cW old new sp 0 sn):I43 old new sp sn σ a k [eI old,eI new,.obj a,eL eS sp,.int (n:Nat),x,y,z] (σ.set a (.list (acc.map eK)))
theorem k43(h42:Sx 42=s42)(h:s43 vs σ Q):Bd Sx 2 b43 6 vs σ Q:=by
 obtain⟨old,new,rfl,h1,h2,h⟩:=h;have hln:=iW new;refine⟨rfl,fz (fun d=>rfl) fun a ha=>x_a (bb (pa rfl) rfl h42 fun Q w=>uA h1 w) rfl (x_a aJ rfl ?_)⟩;rw[show dE old new=cW old new (bm old) 0 (bm new)from rfl]at h;refine dL (I43 old new (bm old) (bm new) σ a) (hE (bb (pa rfl) rfl h42 fun Q w=>uA h2 w)) (.mk (n:=0) (acc:=[]) (Nat.zero_le _) rfl) (fun k hk loc τ K' I _ hK=>?_) fun loc τ I=>?_
 all_goals
  generalize bm old=sp at*;generalize bm new=sn at*
  induction I with| @mk n acc x y z hz he=>?_
 ·rw[List.drop_eq_getElem_cons hk]at he;generalize sn[k]=s at*;have hmin:∀{j:Nat},Ev Sx (.cmp .lt (.var 7) (.blt .min [.blt .len [.var 3],.bin false .add (.var 4) (.glob 13)])) [eI old,eI new,.obj a,eL eS sp,.int (n:Nat),eN s.1,eN s.2,.int (j:Nat)] (σ.set a (.list (acc.map eK))) (.bool (decide (j<min sp.length (n+4)))):=fun{j}=>ay (cQ (aa rfl) (ay (qI (aw (aa rfl)) (ev_add (aa rfl) (fh rfl))) (congrArg PV.int (B9 sp.length (n+4))))) (congrArg PV.bool (decide_eq_decide.mpr Int.ofNat_lt))
  refine x_a (aa rfl) rfl (tZ n (n+4) (j8 old (sub new s.1 s.2) sp n) (fun j=>[eI old,eI new,.obj a,eL eS sp,.int (n:Nat),eN s.1,eN s.2,.int (j:Nat)]) rfl (fun j hj=>by unfold j8;rw[decide_eq_false fun z=>Nat.not_lt.mpr hj (Nat.lt_of_lt_of_le z (Nat.min_le_right _ _))];rfl) (fun j=>cq hmin fun c=>?_) (fun j K h=>x_a (ay (ev_add (aa rfl) aJ) (show _=PV.int ((j+1:Nat):Int)from rfl)) rfl (x_n h)) fun m hm1 m1 m2=>?_)
  ·have hg:=aS (d:=(0,0)) (Nat.lt_of_lt_of_le (of_decide_eq_true c) (Nat.min_le_left _ _));exact qH (eg (aa rfl) (Cp (aZ (aa rfl) (aa rfl) hg)) (Co (aZ (aa rfl) (aa rfl) hg))) (eg (aa rfl) (aa (v:=.int (s.1:Nat)) rfl) (aa (v:=.int (s.2:Nat)) rfl))
  ·obtain⟨sk1,sk2⟩:=sL hm1 m1 m2;refine x_i hmin (fun c=>?_) fun c=>x_z (x_n (hK _ _ (.mk (Nat.le_succ_of_le hz) ?_)))
   ·have hj:=of_decide_eq_true c;have hg:=aS (d:=(0,0)) (Nat.lt_of_lt_of_le hj (Nat.min_le_left _ _));rw[kG (sk1 hj)]at he;exact x_E (ll (f:=eK) (x:=(sp.getD m (0,0),s)) (aa rfl) (gz (ae (aZ (aa rfl) (aa rfl) hg) (ae (gz (pa rfl) rfl) aD)) rfl) (by exact ln [_,_,_,_,_] [.l .p11 .x0,.l .x2 .x1,.l .p31 .x2,.l .x4 .x3] .p41 .x0 [] rfl h2 hln hk hz) (x_a (ay (ev_add (aa rfl) aJ) (show _=PV.int ((m+1:Nat):Int)from rfl)) rfl (x_z (x_n (hK _ _ (.mk (by rw[List.length_append];exact Nat.succ_le_succ hz) (by rw[←he,List.append_assoc];rfl)))))))
   ·rw[qv (sk2 (of_decide_eq_false c))]at he;exact he
 ·rw[List.drop_length,show cW old new sp n []=[]from rfl,List.append_nil]at he;subst he;exact x_r (aa rfl) (Wk.frz ha h)
noncomputable def s44(vs:List PV)(σ:Sto)(Q:KV):Prop:=∃(s e:Nat) (old own:List Int),vs=[.int s,.int e,eI old,eI own]∧s≤e∧e≤old.length∧Q (eE (ch s e old own)) σ
theorem zp{s e:Nat}{old own:List Int}(h1:s≤e)(h2:e≤old.length)(h:Q (eE (ch s e old own)) σ):s44 [.int s,.int e,eI old,eI own] σ Q:=⟨s,e,old,own,rfl,h1,h2,h⟩
theorem qf{a b:List Int}{k:Nat}(h:pk2 a b k=true):k<a.length∧k<b.length:=by
 refine⟨Nat.lt_of_not_le fun q=>?_,Nat.lt_of_not_le fun q=>?_⟩
 ·rw[cJ (.inl q)]at h;cases h
 ·rw[cJ (.inr q)]at h;cases h
theorem fO{a b:List Int}{m:Nat}(h1:∀j,j<m→pk2 a b j=true)(h2:pk2 a b m=false):(aO a b).length=m:=by
 rw[gE a b m h1 h2,List.length_take];rcases Nat.eq_zero_or_pos m with h|h
 ·exact lne [_,_] [.l .x1 .x0,.e .x0 .k0] .x1 .x0 [1,0] [0] rfl rfl (Nat.min_le_left _ _) h
 ·have:=(qf (h1 (m-1) (by exact ln [_,_] [.e .p11 .x0] .p11 .x0 [] rfl (su h)))).1;exact sc (m) (1) (fun z0 w0=>mc (m) (a.length) (fun z1 w1=>lne [_,_] [.e .x1 .x0,.f .x1 .x0] .x1 .x0 [1,0] [0] rfl rfl w1 w1) fun z1 w1=>lne [_,_,_,_] [.l .x2 .x0,.e .x3 .x2,.l .p11 .x2,.f .p11 .x0,.f .x3 .x2] .x3 .x0 [1,1,0,0,0] [0,0] rfl rfl z1 w1 this w0 w1) fun z0 w0=>lne [_,_] [.l .x1 .x0,.l .p01 .k1] .x1 .x0 [1,0] [0] rfl rfl (Nat.min_le_left _ _) z0
theorem rn{l:List Int}{s e k:Nat}(h:s+k<e):(sub l s e)[k]? = l[s+k]? :=by
 unfold sub;rw[List.getElem?_drop,List.getElem?_take,if_pos h]
theorem bI{l:List Int}{s e:Nat}(h:e≤l.length):(sub l s e).length=e-s:=by
 unfold sub;rw[List.length_drop,List.length_take];exact sc (min e l.length) (s) (fun z0 w0=>mc (e) (l.length) (fun z1 w1=>lne [_,_,_,_,_] [.e (.a .x1 .x4) .x3,.e .x3 .x0,.f (.a .x2 .x4) .x0,.f (.a .x1 .x4) .x3,.f .x3 .x0,.e (.a .x2 .x4) .x0] .x1 .x2 [1,1,1,0,0,0] [0,0,0] rfl rfl w0 w1 (su (ln [_,_,_] [.l .x2 .x1,.e .x1 .x0] .x2 .x0 [] rfl z0 w1)) w0 w1 (su (ln [_,_,_] [.l .x2 .x1,.e .x1 .x0] .x2 .x0 [] rfl z0 w1))) fun z1 w1=>lne [_,_,_,_,_,_] [.e (.a .x2 .x5) .x4,.l .x1 .x0,.e .x4 .x1,.f (.a .x3 .x5) .x0,.l .x0 .x1,.f (.a .x2 .x5) .x4,.f .x4 .x1,.e (.a .x3 .x5) .x0] .x2 .x3 [1,1,1,1,0,0,0,0] [0,0,0,0] rfl rfl w0 z1 w1 (su (ln [_,_,_,_] [.l .x3 .x2,.l .x1 .x0,.e .x2 .x1] .x3 .x0 [] rfl z0 z1 w1)) h w0 w1 (su (ln [_,_,_,_] [.l .x3 .x2,.l .x1 .x0,.e .x2 .x1] .x3 .x0 [] rfl z0 z1 w1))) fun z0 w0=>mc (e) (l.length) (fun z1 w1=>lne [_,_] [.e .x0 .k0,.e .x1 .k0] .x0 .x1 [1,0] [0] rfl rfl w0 (Nat.sub_eq_zero_of_le (ln [_,_,_,_] [.e .x1 .k0,.f .x2 .x0,.l .x2 (.a .x1 .x3)] .x0 .x3 [] rfl w0 w1 sl))) fun z1 w1=>lne [_,_] [.e .x0 .k0,.e .x1 .k0] .x0 .x1 [1,0] [0] rfl rfl w0 (Nat.sub_eq_zero_of_le (ln [_,_,_,_,_] [.l .x0 .x1,.e .x2 .k0,.f .x3 .x1,.l .x3 (.a .x2 .x4)] .x0 .x4 [] rfl h w0 w1 sl))
theorem k44(h:s44 vs σ Q):Bd Sx 4 b44 2 vs σ Q:=by
 obtain⟨s,e,old,own,rfl,h1,h2,h⟩:=h;have hsl:=bI (s:=s) h2;refine⟨rfl,x_a aJ rfl (tZ 0 own.length (pk2 (sub old s e) own) (fun j=>[.int (s:Nat),.int (e:Nat),eI old,eI own,.int (j:Nat),.undef]) rfl (fun j hj=>cJ (.inr hj)) (fun j=>?_) (fun j K h=>x_a (ay (ev_add (aa rfl) aJ) (show _=PV.int ((j+1:Nat):Int)from rfl)) rfl (x_n h)) fun m _ m1 m2=>x_a aJ rfl ?_)⟩
 ·refine ay (cq (cQ (ev_add (aa rfl) (aa rfl)) (aa rfl)) fun c1=>cq (y:=old.getD (s+j) 0==own.getD j 0) (cQ (aa rfl) (aw (aa rfl))) fun c2=>?_) (congrArg PV.bool ?_)
  ·exact cR (aZ (f:=PV.int) (n:=s+j) (aa rfl) (ay (ev_add (aa rfl) (aa rfl)) (show _=PV.int ((s+j:Nat):Int)from rfl)) (aS (Nat.lt_of_lt_of_le (Int.ofNat_lt.mp (of_decide_eq_true c1)) h2))) (aZ (f:=PV.int) (aa rfl) (aa rfl) (aS (Int.ofNat_lt.mp (of_decide_eq_true c2))))
  ·by_cases q1:s+j<e
   ·by_cases q2:j<own.length
    ·unfold pk2;rw[rn q1,aS (d:=0) (Nat.lt_of_lt_of_le q1 h2),aS (d:=0) q2,decide_eq_true (show(s:Int)+j<e from Int.ofNat_lt.mpr q1),decide_eq_true (Int.ofNat_lt.mpr q2)];rfl
    ·rw[cJ (.inr (Nat.not_lt.mp q2)),decide_eq_false fun z=>q2 (Int.ofNat_lt.mp z),Bool.false_and,Bool.and_false]
   ·rw[cJ (.inl (by exact ln [_,_,_,_,_] [.e .x2 .x3,.l .x1 (.a .x0 .x4),.e (.a .x3 .x0) .x1] .x2 .x4 [] rfl hsl (Nat.not_lt.mp q1) (su h1))),decide_eq_false (show ¬(s:Int)+j<e from fun z=>q1 (Int.ofNat_lt.mp z))];rfl
 ·have hca:=fO (fun j hj=>m1 j (Nat.zero_le _) hj) m2;have hmle:m≤e-s∧m≤own.length:=by
   rcases Nat.eq_zero_or_pos m with hz|hz
   ·exact⟨by exact ln [_,_] [.e .x1 .k0] .x1 .x0 [] rfl hz,by exact ln [_,_] [.e .x0 .k0] .x0 .x1 [] rfl hz⟩
   ·have:=qf (m1 (m-1) (Nat.zero_le _) (by exact ln [_,_] [.e .p11 .x0] .p11 .x0 [] rfl (su hz)));exact⟨by exact ln [_,_,_,_] [.e .x0 .x1,.l .p31 .x0,.f .p31 .x2] .x2 .x1 [] rfl hsl this.1 (su hz),by exact ln [_,_,_] [.l .p11 .x2,.f .p11 .x0] .x0 .x2 [] rfl this.2 (su hz)⟩
  clear m1 m2;have hl1:((sub old s e).drop m).reverse.length=e-s-m:=by rw[List.length_reverse,List.length_drop,hsl]
  have hl2:(own.drop m).reverse.length=own.length-m:=by rw[List.length_reverse,List.length_drop]
  refine tZ 0 own.length (pk2 ((sub old s e).drop m).reverse (own.drop m).reverse) (fun j=>[.int (s:Nat),.int (e:Nat),eI old,eI own,.int (m:Nat),.int (j:Nat)]) rfl (fun j hj=>cJ (.inr (by exact ln [_,_,_,_] [.e .x1 .x2,.l .x0 .x3,.l .x2 .x0] .x1 .x3 [] rfl hl2 hj sb))) (fun j=>?_) (fun j K h=>x_a (ay (ev_add (aa rfl) aJ) (show _=PV.int ((j+1:Nat):Int)from rfl)) rfl (x_n h)) fun m' _ m1' m2'=>?_
  ·refine ay (cq (cQ (ev_add (aa rfl) (aa rfl)) (aT (aa rfl) (aa rfl))) fun c1=>cq (y:=old.getD (e-j-1) 0==own.getD (own.length-j-1) 0) (cQ (aa rfl) (aT (aw (aa rfl)) (aa rfl))) fun c2=>?_) (congrArg PV.bool ?_)
   ·have q1:=of_decide_eq_true c1;have q2:=of_decide_eq_true c2;exact cR (aZ (f:=PV.int) (aa rfl) (ay (aT (aT (aa rfl) (aa rfl)) aJ) (congrArg PV.int (show(e:Int)-j-1=((e-j-1:Nat):Int) by exact lze [_,_,_,_] [] [.f .p21 .x3,.f (.a .x3 .x1) .x0,.e .p21 .x3,.e (.a .x3 .x1) .x0] (.d (.d .x0 .x1) .k1) .x2 [1,1,0,0] [0,0] rfl rfl (ie (su (io (lz [_,_,_,_,_] [] [.l (.a (.a .x0 .x2) .k1) (.d .x1 .x3),.l .x1 (.a .x4 .x3)] .k1 .x4 [] rfl q1 (il sl))))) (ie (su (io (lz [_,_,_,_] [] [.l (.a (.a .x0 .x2) .k1) (.d .x1 .x3)] .x3 .x1 [] rfl q1)))) (ie (su (io (lz [_,_,_,_,_] [] [.l (.a (.a .x0 .x2) .k1) (.d .x1 .x3),.l .x1 (.a .x4 .x3)] .k1 .x4 [] rfl q1 (il sl))))) (ie (su (io (lz [_,_,_,_] [] [.l (.a (.a .x0 .x2) .k1) (.d .x1 .x3)] .x3 .x1 [] rfl q1))))))) (aS (by exact ln [_,_,_,_] [.l .x0 .x1,.l .x3 .x0,.e .p21 .x3] .p21 .x1 [] rfl h2 sb (su (io (lz [_,_,_,_,_] [] [.l (.a (.a .x0 .x2) .k1) (.d .x1 .x3),.l .x1 (.a .x4 .x3)] .k1 .x4 [] rfl q1 (il sl))))))) (aZ (f:=PV.int) (aa rfl) (ay (aT (aT (aw (aa rfl)) (aa rfl)) aJ) (congrArg PV.int (show(own.length:Int)-j-1=((own.length-j-1:Nat):Int) by exact lze [_,_,_,_] [] [.f .p21 .x3,.f (.a .x3 .x1) .x0,.e .p21 .x3,.e (.a .x3 .x1) .x0] (.d (.d .x0 .x1) .k1) .x2 [1,1,0,0] [0,0] rfl rfl (ie (su (io (lz [_,_,_,_] [] [.l .p01 (.d .x1 .x2),.l .x1 (.a .x3 .x2)] .k1 .x3 [] rfl q2 (il sl))))) (ie (su (io (lz [_,_,_] [] [.l .p01 (.d .x1 .x2)] .x2 .x1 [] rfl q2)))) (ie (su (io (lz [_,_,_,_] [] [.l .p01 (.d .x1 .x2),.l .x1 (.a .x3 .x2)] .k1 .x3 [] rfl q2 (il sl))))) (ie (su (io (lz [_,_,_] [] [.l .p01 (.d .x1 .x2)] .x2 .x1 [] rfl q2))))))) (aS (by exact ln [_,_,_] [.l .x2 .x0,.e .p11 .x2] .p11 .x0 [] rfl sb (su (io (lz [_,_,_,_] [] [.l .p01 (.d .x1 .x2),.l .x1 (.a .x3 .x2)] .k1 .x3 [] rfl q2 (il sl)))))))
   ·by_cases q1:j<e-s-m
    ·by_cases q2:j<own.length-m
     ·unfold pk2;rw[List.getElem?_reverse (by rw[List.length_drop,hsl];exact q1),List.getElem?_drop,List.length_drop,rn (by exact ln [_,_,_,_,_,_,_,_] [.e .x2 .x3,.l .x5 .x6,.e (.a .x3 .x0) .x1,.e .p61 (.x 7),.e (.a (.x 7) .x4) .x2] (.a (.a .x0 (.a .x4 .x5)) .k1) .x1 [] rfl hsl sb (su h1) (su (ln [_,_,_,_,_,_] [.f .x0 .x1,.l .p41 .x3,.l .x0 (.a .x5 .x2),.e (.a .x3 .x2) .x1] .k1 .x5 [] rfl hsl q1 sl (su hmle.1))) (su (ln [_,_,_] [.f .x0 .x1,.l .x2 .x1] .x2 .x0 [] rfl hsl hmle.1))),show s+(m+((sub old s e).length-m-1-j))=e-j-1 by exact lne [_,_,_,_,_,_,_,_,_,_,_] [.e .x2 .x3,.e (.a .x3 .x0) .x1,.e (.a .x6 .x5) (.x 8),.f (.p 7 1) (.x 9),.e (.p 8 1) (.x 10),.f (.a (.x 9) .x5) .x1,.e (.a (.x 10) .x4) .x2,.f .x2 .x3,.f (.a .x3 .x0) .x1,.f (.a .x6 .x5) (.x 8),.e (.p 7 1) (.x 9),.f (.p 8 1) (.x 10),.e (.a (.x 9) .x5) .x1,.f (.a (.x 10) .x4) .x2] (.a .x0 (.a .x4 .x6)) (.x 7) [1,1,1,1,1,1,1,0,0,0,0,0,0,0] [0,0,0,0,0,0,0] rfl rfl hsl (su h1) (su (ln [_,_,_,_,_,_,_] [.f .x0 .x1,.l .p41 .x3,.l .x6 .p51,.l .x0 (.a .x6 .x2),.e (.a .x3 .x2) .x1] .x4 .x5 [] rfl hsl q1 sl sl (su hmle.1))) (su (ln [_,_,_,_,_] [.l .p31 .x2,.l .x1 .x0,.l .x2 .x1,.l .x0 (.a .x4 .x3)] .k1 .x4 [] rfl q1 sb sb sl)) (su (ln [_,_,_,_,_,_] [.f .x0 .x1,.l .p41 .x3,.l .x0 (.a .x5 .x2),.e (.a .x3 .x2) .x1] .k1 .x5 [] rfl hsl q1 sl (su hmle.1))) (su (ln [_,_,_,_] [.l .p31 .x2,.l .x1 .x0,.l .x2 .x1] .x3 .x0 [] rfl q1 sb sb)) (su (ln [_,_,_] [.f .x0 .x1,.l .x2 .x1] .x2 .x0 [] rfl hsl hmle.1)) hsl (su h1) (su (ln [_,_,_,_,_,_,_] [.f .x0 .x1,.l .p41 .x3,.l .x6 .p51,.l .x0 (.a .x6 .x2),.e (.a .x3 .x2) .x1] .x4 .x5 [] rfl hsl q1 sl sl (su hmle.1))) (su (ln [_,_,_,_,_] [.l .p31 .x2,.l .x1 .x0,.l .x2 .x1,.l .x0 (.a .x4 .x3)] .k1 .x4 [] rfl q1 sb sb sl)) (su (ln [_,_,_,_,_,_] [.f .x0 .x1,.l .p41 .x3,.l .x0 (.a .x5 .x2),.e (.a .x3 .x2) .x1] .k1 .x5 [] rfl hsl q1 sl (su hmle.1))) (su (ln [_,_,_,_] [.l .p31 .x2,.l .x1 .x0,.l .x2 .x1] .x3 .x0 [] rfl q1 sb sb)) (su (ln [_,_,_] [.f .x0 .x1,.l .x2 .x1] .x2 .x0 [] rfl hsl hmle.1)),List.getElem?_reverse (by rw[List.length_drop];exact q2),List.getElem?_drop,List.length_drop,show m+(own.length-m-1-j)=own.length-j-1 by exact lne [_,_,_,_,_,_,_,_] [.e (.a .x2 .x0) .x1,.e (.a .x4 .x3) .x6,.f .p51 (.x 7),.e .p61 .x2,.f (.a (.x 7) .x3) .x1,.f (.a .x2 .x0) .x1,.f (.a .x4 .x3) .x6,.e .p51 (.x 7),.f .p61 .x2,.e (.a (.x 7) .x3) .x1] (.a .x0 .x4) .x5 [1,1,1,1,1,0,0,0,0,0] [0,0,0,0,0] rfl rfl (su hmle.2) (su (ln [_,_,_] [.l .p11 .x0,.l .x0 .p21] .x1 .x2 [] rfl q2 sl)) (su (ln [_,_,_,_] [.l .p21 .x1,.l .x1 .x0,.l .x0 (.a .x3 .x2)] .k1 .x3 [] rfl q2 sb sl)) (su (ln [_,_] [.l .p11 .x0] .k1 .x0 [] rfl q2)) (su (ln [_,_,_] [.l .p21 .x1,.l .x1 .x0] .x2 .x0 [] rfl q2 sb)) (su hmle.2) (su (ln [_,_,_] [.l .p11 .x0,.l .x0 .p21] .x1 .x2 [] rfl q2 sl)) (su (ln [_,_,_,_] [.l .p21 .x1,.l .x1 .x0,.l .x0 (.a .x3 .x2)] .k1 .x3 [] rfl q2 sb sl)) (su (ln [_,_] [.l .p11 .x0] .k1 .x0 [] rfl q2)) (su (ln [_,_,_] [.l .p21 .x1,.l .x1 .x0] .x2 .x0 [] rfl q2 sb)),aS (l:=old) (d:=0) (by exact ln [_,_,_,_] [.l .x0 .x1,.l .x3 .x0,.e .p21 .x3] .p21 .x1 [] rfl h2 sb (su (ln [_,_,_,_,_] [.l .p31 .x2,.l .x1 .x0,.l .x2 .x1,.l .x0 (.a .x4 .x3)] .k1 .x4 [] rfl q1 sb sb sl))),aS (l:=own) (d:=0) (by exact ln [_,_,_] [.l .x2 .x0,.e .p11 .x2] .p11 .x0 [] rfl sb (su (ln [_,_,_,_] [.l .p21 .x1,.l .x1 .x0,.l .x0 (.a .x3 .x2)] .k1 .x3 [] rfl q2 sb sl))),decide_eq_true (show(s:Int)+m<e-j by exact lz [_,_,_,_,_,_] [] [.l .p51 .x4,.e (.a .x2 .x0) .x1,.e (.a .x4 .x3) .x2] (.a (.a .x0 .x3) .k1) (.d .x1 .x5) [] rfl (il q1) (ie (su h1)) (ie (su hmle.1))),decide_eq_true (show(m:Int)<own.length-j by exact lz [_,_,_,_] [] [.l .p31 .x2,.e (.a .x2 .x0) .x1] .p01 (.d .x1 .x3) [] rfl (il q2) (ie (su hmle.2)))];rfl
     ·rw[cJ (.inr (by rw[hl2];exact Nat.not_lt.mp q2)),decide_eq_false (show ¬(m:Int)<own.length-j by exact fun zz=>lzf [_,_,_,_] [] _ [.l .x2 .x3,.l .p01 (.d .x1 .x3),.f (.a .x2 .x0) .x1] [] rfl (il (Nat.not_lt.mp q2)) zz (ie (su hmle.2))),Bool.false_and,Bool.and_false]
    ·rw[cJ (.inl (by rw[hl1];exact Nat.not_lt.mp q1)),decide_eq_false (show ¬(s:Int)+m<e-j by exact fun zz=>lzf [_,_,_,_,_,_] [] _ [.l .x4 .x5,.l (.a (.a .x0 .x3) .k1) (.d .x1 .x5),.f (.a .x2 .x0) .x1,.f (.a .x4 .x3) .x2] [] rfl (il (Nat.not_lt.mp q1)) zz (ie (su h1)) (ie (su hmle.1)))];rfl
  ·have hcb:=fO (fun j hj=>m1' j (Nat.zero_le _) hj) m2';have hmle':m'≤e-s-m∧m'≤own.length-m:=by
    rcases Nat.eq_zero_or_pos m' with hz|hz
    ·exact⟨by exact ln [_,_] [.e .x1 .k0] .x1 .x0 [] rfl hz,by exact ln [_,_] [.e .x1 .k0] .x1 .x0 [] rfl hz⟩
    ·have:=qf (m1' (m'-1) (Nat.zero_le _) (by exact ln [_,_] [.e .p11 .x0] .p11 .x0 [] rfl (su hz)));exact⟨by exact ln [_,_,_,_] [.e .x0 .x1,.l .p31 .x0,.f .p31 .x2] .x2 .x1 [] rfl hl1 this.1 (su hz),by exact ln [_,_,_,_] [.e .x0 .x1,.l .p31 .x0,.f .p31 .x2] .x2 .x1 [] rfl hl2 this.2 (su hz)⟩
   unfold ch at h;rw[hca]at h;simp only[hcb]at h;exact x_r (gz (ae (ev_add (aa rfl) (aa rfl)) (ae (ay (aT (aa rfl) (aa rfl)) (congrArg PV.int (show(e:Int)-m'=((e-m':Nat):Int) by exact lze [_,_,_] [] [.f (.a .x2 .x1) .x0,.e (.a .x2 .x1) .x0] (.d .x0 .x1) .x2 [1,0] [0] rfl rfl (ie (su (ln [_,_,_,_] [.l .x3 .x2,.l .x1 .x0,.l .x2 .x1] .x3 .x0 [] rfl hmle'.1 sb sb))) (ie (su (ln [_,_,_,_] [.l .x3 .x2,.l .x1 .x0,.l .x2 .x1] .x3 .x0 [] rfl hmle'.1 sb sb)))))) (ae (eg (aa rfl) (aa rfl) (ay (aT (aw (aa rfl)) (aa rfl)) (congrArg PV.int (show(own.length:Int)-m'=((own.length-m':Nat):Int) by exact lze [_,_,_] [] [.f (.a .x2 .x1) .x0,.e (.a .x2 .x1) .x0] (.d .x0 .x1) .x2 [1,0] [0] rfl rfl (ie (su (ln [_,_,_] [.l .x2 .x1,.l .x1 .x0] .x2 .x0 [] rfl hmle'.2 sb))) (ie (su (ln [_,_,_] [.l .x2 .x1,.l .x1 .x0] .x2 .x0 [] rfl hmle'.2 sb))))))) aD))) rfl) (Wk.same h)
noncomputable def s45(vs:List PV)(σ:Sto)(Q:KV):Prop:=∃old new,vs=[eI old,eI new]∧old.length<big∧new.length+1<big∧Q (eL eE (a9 old new)) σ
theorem zo{old new:List Int}(h1:old.length<big)(h2:new.length+1<big)(h:Q (eL eE (a9 old new)) σ):s45 [eI old,eI new] σ Q:=⟨old,new,rfl,h1,h2,h⟩
theorem bH{old new:List Int}{n m:Nat}{k:(Nat×Nat)×(Nat×Nat)}{r:List ((Nat×Nat)×(Nat×Nat))}:bD old new n m (k::r)=(if sub old n k.1.1=sub new m k.2.1 then[]else[ch n k.1.1 old (sub new m k.2.1)])++bD old new k.1.2 k.2.2 r:=by
 conv=>lhs;unfold bD
inductive I45(old new:List Int)(ks:List ((Nat×Nat)×(Nat×Nat)))(σ:Sto)(a:Nat):Nat→List PV→Sto→Prop
 | mk {k n m:Nat} {acc:List (Nat×Nat×List Int)} {x y z w:PV} (hz:acc.length≤k) (he:acc++bD old new n m (ks.drop k)=bD old new 0 0 ks) (hc:Chn old new n m (ks.drop k)):I45 old new ks σ a k [eI old,eI new,.obj a,.int (n:Nat),.int (m:Nat),x,y,z,w] (σ.set a (.list (acc.map eE)))
theorem k45(h43:Sx 43=s43)(h44:Sx 44=s44)(h:s45 vs σ Q):Bd Sx 2 b45 7 vs σ Q:=by
 obtain⟨old,new,rfl,h1,h2,h⟩:=h;have hkl:(dE old new).length≤new.length:=Nat.le_trans (iG _ _) (iW new);rw[show a9 old new=bD old new 0 0 (dE old new++[((old.length,old.length),(new.length,new.length))])from rfl]at h;have hc:=(kD old new).snoc;have hkz:(dE old new++[((old.length,old.length),(new.length,new.length))]).length<big:=by rw[List.length_append];exact Nat.lt_of_le_of_lt (Nat.succ_le_succ hkl) h2
 refine⟨rfl,fz (fun d=>rfl) fun a ha=>x_a aJ rfl (x_a aJ rfl (dL (I45 old new _ σ a) (hE (fj (f:=eK) (bb (pa rfl) rfl h43 fun Q w=>zq h1 (Nat.lt_of_succ_lt h2) w) (Aq (ae (gz (ae (gz (ae (aw (aa rfl)) (ae (aw (aa rfl)) aD)) rfl) (ae (gz (ae (aw (aa rfl)) (ae (aw (aa rfl)) aD)) rfl) aD)) rfl) aD) rfl:Ev Sx _ _ _ (eL eK [((old.length,old.length),(new.length,new.length))])) (by rw[List.length_append]at hkz;exact Nat.le_of_lt hkz))) (.mk (n:=0) (m:=0) (acc:=[]) (Nat.zero_le _) rfl hc) (fun k hk loc τ K' I _ hK=>?_) fun loc τ I=>?_))⟩
 all_goals
  generalize dE old new++[((old.length,old.length),(new.length,new.length))]=ks at*
  induction I with| @mk n m acc x y z w hz he hch=>?_
 ·rw[List.drop_eq_getElem_cons hk]at he hch;rw[bH]at he;generalize ks[k]=s at*;obtain⟨⟨b,e⟩,⟨f,l⟩⟩:=s;obtain⟨c1,c2,_,_,_,c6⟩:=hch;have cle:=c6.le;dsimp only at c1 c2 c6 cle he;refine f8 (qH (eg (aa rfl) (aa rfl) (aa (v:=.int (b:Nat)) rfl)) (eg (aa rfl) (aa rfl) (aa (v:=.int (f:Nat)) rfl))) (fun c=>?_) fun c=>x_a (aa (v:=.int (e:Nat)) rfl) rfl (x_a (aa (v:=.int (l:Nat)) rfl) rfl (x_n (hK _ _ (.mk (Nat.le_succ_of_le hz) ?_ c6))))
  ·rw[if_neg (show ¬sub old n b=sub new m f from ne_of_beq_false (bnt c))]at he;exact x_E (ll (aa rfl) (bb (ae (aa rfl) (ae (aa (v:=.int (b:Nat)) rfl) (ae (aa rfl) (ae (eg (aa rfl) (aa rfl) (aa (v:=.int (f:Nat)) rfl)) aD)))) rfl h44 fun Q q=>zp c1 (Nat.le_trans c2 cle.1) q) (by exact ln [_,_,_,_] [.l .p11 .x0,.l .p21 .x1,.l .x3 .x2] .p31 .x0 [] rfl hkz hk hz) (x_z (x_a (aa (v:=.int (e:Nat)) rfl) rfl (x_a (aa (v:=.int (l:Nat)) rfl) rfl (x_n (hK _ _ (.mk (by rw[List.length_append];exact Nat.succ_le_succ hz) (by rw[←he,List.append_assoc];rfl) c6)))))))
  ·rw[if_pos (show sub old n b=sub new m f from eq_of_beq (bnf c))]at he;exact he
 ·rw[List.drop_length,show bD old new n m []=[]from rfl,List.append_nil]at he;subst he;exact x_r (aa rfl) (Wk.frz ha h)
end
end Mine
end
section
namespace Mine
noncomputable def cap:Nat:=2000000
noncomputable def Ab(c:Nat)(gs ge:Int):cb:=.inst 1 [(4,.int 8),(5,.obj c),(6,.int gs),(7,.int ge)]
structure GA(σ:Sto)(t c:Nat)(pre gap post:List Int):Prop where
 ht:σ t=some (Ab c pre.length ((pre.length+gap.length:Nat):Int))
 hc:σ c=some (.list ((pre++gap++post).map .int))
 ne:t≠c
 sz:pre.length+gap.length+post.length≤cap+8
noncomputable def Fr(A:Nat→Prop)(σ σ':Sto):Prop:=∀a,¬A a→σ' a=σ a
theorem Fr.trans{A:Nat→Prop}{σ σ' σ'':Sto}(h:Fr A σ σ')(h':Fr A σ' σ''):Fr A σ σ'':=fun a ha=>(h' a ha).trans (h a ha)
theorem Fr.refl{A:Nat→Prop}{σ:Sto}:Fr A σ σ:=fun _ _=>rfl
theorem Fr.set{A:Nat→Prop}{σ σ':Sto}{a:Nat}{o:cb}(h:Fr A σ σ')(ha:A a):Fr A σ (σ'.set a o):=fun b hb=>(an fun e=>hb (by subst e;exact ha)).trans (h b hb)
theorem Fr.up{A B:Nat→Prop}{σ σ':Sto}(h:Fr A σ σ')(hab:∀a,A a→B a):Fr B σ σ':=fun a ha=>h a fun x=>ha (hab a x)
noncomputable def gtc(t c:Nat):Nat→Prop:=fun a=>a=t∨a=c
section
variable {Sx:Spec} {σ:Sto} {Q:KV} {vs:List PV}
noncomputable def s52(vs:List PV)(σ:Sto)(Q:KV):Prop:=∃t c pre gap post,vs=[.obj t]∧GA σ t c pre gap post∧Q (.int ((pre++post).length:Nat)) σ
theorem zi{t c:Nat}{pre gap post:List Int}(h0:GA σ t c pre gap post)(h:Q (.int ((pre++post).length:Nat)) σ):s52 [.obj t] σ Q:=⟨t,c,pre,gap,post,rfl,h0,h⟩
theorem k52(h:s52 vs σ Q):Bd Sx 1 b52 0 vs σ Q:=by
 obtain⟨t,c,pre,gap,post,rfl,h0,h⟩:=h;refine⟨rfl,x_r (ay (ev_add (aT (ib (f:=PV.int) (p0 h0.ht rfl) h0.hc) (p0 h0.ht rfl)) (p0 h0.ht rfl)) (congrArg PV.int (show((pre++gap++post).length:Int)-(pre.length+gap.length:Nat)+pre.length=((pre++post).length:Nat)from ?_))) (Wk.same h)⟩;rw[List.length_append,List.length_append,List.length_append];exact lze [_,_,_] [] [] (.a (.d (.a (.a .x0 .x1) .x2) (.a .x0 .x1)) .x0) (.a .x0 .x2) [] [] rfl rfl
noncomputable def s53(vs:List PV)(σ:Sto)(Q:KV):Prop:=∃(t c:Nat) (pre gap post:List Int) (n:Nat) (x:Int),vs=[.obj t,.int n]∧GA σ t c pre gap post∧(pre++post)[n]? = some x∧Q (.int x) σ
theorem zg{t c n:Nat}{x:Int}{pre gap post:List Int}(h0:GA σ t c pre gap post)(h1:(pre++post)[n]? = some x)(h:Q (.int x) σ):s53 [.obj t,.int n] σ Q:=⟨t,c,pre,gap,post,n,x,rfl,h0,h1,h⟩
theorem Cb{pre gap post:List Int}{n:Nat}(h:n<pre.length):(pre++gap++post)[n]? = (pre++post)[n]? :=by rw[List.append_assoc,List.getElem?_append_left h,List.getElem?_append_left h]
theorem Cc{pre gap post:List Int}{n:Nat}(h:pre.length≤n):(pre++gap++post)[n+gap.length]? = (pre++post)[n]? :=by
 rw[List.getElem?_append_right (by rw[List.length_append];exact ln [_,_,_] [.l .x0 .x1] (.a .x0 .x2) (.a .x1 .x2) [] rfl h),List.length_append,List.getElem?_append_right h,show n+gap.length-(pre.length+gap.length)=n-pre.length by exact lne [_,_,_,_,_] [.e (.a .x2 (.a .x0 .x4)) (.a .x1 .x4),.f (.a .x3 .x0) .x1,.f (.a .x2 (.a .x0 .x4)) (.a .x1 .x4),.e (.a .x3 .x0) .x1] .x2 .x3 [1,1,0,0] [0,0] rfl rfl (su (ln [_,_,_] [.l .x0 .x1] (.a .x0 .x2) (.a .x1 .x2) [] rfl h)) (su h) (su (ln [_,_,_] [.l .x0 .x1] (.a .x0 .x2) (.a .x1 .x2) [] rfl h)) (su h)]
theorem k53(h:s53 vs σ Q):Bd Sx 2 b53 0 vs σ Q:=by
 obtain⟨t,c,pre,gap,post,n,x,rfl,h0,h1,h⟩:=h;refine⟨rfl,x_i (cQ (aa rfl) (aE (aa rfl) h0.ht rfl)) (fun q=>x_r (dM (aE (aa rfl) h0.ht rfl) h0.hc (aa rfl) ?_) (Wk.same h)) fun q=>x_q (x_r (dM (aE (aa rfl) h0.ht rfl) h0.hc (n:=n+gap.length) (ay (ev_add (aT (aa rfl) (aE (aa rfl) h0.ht rfl)) (aE (aa rfl) h0.ht rfl)) (congrArg PV.int ?_)) ?_) (Wk.same h))⟩
 ·rw[Cb (Int.ofNat_lt.mp (of_decide_eq_true q))];exact h1
 ·show(n:Int)-pre.length+((pre.length+gap.length:Nat):Int)=((n+gap.length:Nat):Int);exact lze [_,_,_] [] [] (.a (.d .x0 .x1) (.a .x1 .x2)) (.a .x0 .x2) [] [] rfl rfl
 ·rw[Cc (Nat.le_of_not_lt fun z=>of_decide_eq_false q (Int.ofNat_lt.mpr z))];exact h1
theorem pr{α:Type}{a b:List α}{n:Nat}(h:a.length≤n):(a++b).drop n=b.drop (n-a.length):=by
 rw[List.drop_append,List.drop_eq_nil_of_le h,List.nil_append]
theorem cj{α:Type}{a b:List α}{n:Nat}(h:n≤a.length):(a++b).take n=a.take n:=by
 rw[List.take_append,show n-a.length=0 by exact lne [_] [.e .x0 .k0] .x0 .k0 [] [0] rfl rfl (Nat.sub_eq_zero_of_le h)];simp
theorem bS{α:Type}{a b:List α}{k:Nat}:(a++b).take (a.length+k)=a++b.take k:=by
 rw[List.take_append,List.take_of_length_le (by exact ln [_,_] [] .x0 (.a .x0 .x1) [] rfl),show a.length+k-a.length=k by exact lne [_,_,_] [.e (.a .x0 .x2) (.a .x2 .x1),.f (.a .x0 .x2) (.a .x2 .x1)] .x0 .x1 [1,0] [0] rfl rfl (su (ln [_,_] [] .x1 (.a .x1 .x0) [] rfl)) (su (ln [_,_] [] .x1 (.a .x1 .x0) [] rfl))]
theorem eC{α:Type}{a b:List α}{k:Nat}:(a++b).drop (a.length+k)=b.drop k:=by
 rw[pr (by exact ln [_,_] [] .x0 (.a .x0 .x1) [] rfl),show a.length+k-a.length=k by exact lne [_,_,_] [.e (.a .x0 .x2) (.a .x2 .x1),.f (.a .x0 .x2) (.a .x2 .x1)] .x0 .x1 [1,0] [0] rfl rfl (su (ln [_,_] [] .x1 (.a .x1 .x0) [] rfl)) (su (ln [_,_] [] .x1 (.a .x1 .x0) [] rfl))]
theorem bw{α:Type}{a b:List α}:(a++b).take a.length=a:=by rw[cj (Nat.le_refl _),List.take_length]
theorem aX{α:Type}{a b:List α}:(a++b).drop a.length=b:=by rw[pr (Nat.le_refl _),Nat.sub_self,List.drop_zero]
theorem cut{α:Type}(l:List α){n:Nat}(h:n≤l.length):∃a b,l=a++b∧a.length=n:=⟨l.take n,l.drop n,(List.take_append_drop n l).symm,by rw[List.length_take];exact mc (n) (l.length) (fun z0 w0=>lne [_,_] [.e .x1 .x0,.f .x1 .x0] .x1 .x0 [1,0] [0] rfl rfl w0 w0) fun z0 w0=>lne [_,_,_] [.l .x1 .x0,.e .x2 .x1,.l .x0 .x1,.f .x2 .x1] .x2 .x0 [1,1,0,0] [0,0] rfl rfl z0 w0 h w0⟩
noncomputable def s54(vs:List PV)(σ:Sto)(Q:KV):Prop:=∃(t c:Nat) (pre gap post:List Int) (s e:Nat),vs=[.obj t,.int s,.int e]∧GA σ t c pre gap post∧s≤e∧e≤(pre++post).length∧Q (eI (sub (pre++post) s e)) σ
theorem uy{t c s e:Nat}{pre gap post:List Int}(h0:GA σ t c pre gap post)(h1:s≤e)(h2:e≤(pre++post).length)(h:Q (eI (sub (pre++post) s e)) σ):s54 [.obj t,.int s,.int e] σ Q:=⟨t,c,pre,gap,post,s,e,rfl,h0,h1,h2,h⟩
theorem yM{pre gap post:List Int}{s e:Nat}(h:e≤pre.length):((pre++gap++post).take e).drop s=sub (pre++post) s e:=by
 unfold sub;rw[List.append_assoc,cj h,cj h]
theorem yN{pre gap post:List Int}{s e:Nat}(h:pre.length≤s)(h':s≤e):((pre++gap++post).take (e+gap.length)).drop (s+gap.length)=sub (pre++post) s e:=by
 obtain⟨i,rfl⟩:=Nat.exists_eq_add_of_le h;obtain⟨j,rfl⟩:=Nat.exists_eq_add_of_le (Nat.le_trans h h');unfold sub;rw[show pre.length+j+gap.length=(pre++gap).length+j by rw[List.length_append];exact lne [_,_,_] [] (.a (.a .x0 .x1) .x2) (.a (.a .x0 .x2) .x1) [] [] rfl rfl,show pre.length+i+gap.length=(pre++gap).length+i by rw[List.length_append];exact lne [_,_,_] [] (.a (.a .x0 .x1) .x2) (.a (.a .x0 .x2) .x1) [] [] rfl rfl,bS,eC,bS,eC]
theorem rm{pre gap post:List Int}{s e:Nat}(h:s≤pre.length)(h':pre.length≤e):((pre++gap++post).take pre.length).drop s++((pre++gap++post).take (e+gap.length)).drop (pre.length+gap.length)=sub (pre++post) s e:=by
 obtain⟨j,rfl⟩:=Nat.exists_eq_add_of_le h';unfold sub;rw[show pre.length+j+gap.length=(pre++gap).length+j by rw[List.length_append];exact lne [_,_,_] [] (.a (.a .x0 .x1) .x2) (.a (.a .x0 .x2) .x1) [] [] rfl rfl,bS,←List.length_append,aX,List.append_assoc,bw,bS,List.drop_append_of_le_length h]
theorem k54(h:s54 vs σ Q):Bd Sx 3 b54 1 vs σ Q:=by
 obtain⟨t,c,pre,gap,post,s,e,rfl,h0,h1,h2,h⟩:=h;have hd:∀n:Nat,(n:Int)+(((pre.length+gap.length:Nat):Int)-(pre.length:Nat))=((n+gap.length:Nat):Int):=fun n=>by exact lze [_,_,_] [] [] (.a .x0 (.d (.a .x1 .x2) .x1)) (.a .x0 .x2) [] [] rfl rfl
 have hsz:=h0.sz;refine⟨rfl,x_a (aT (aE (aa rfl) h0.ht rfl) (aE (aa rfl) h0.ht rfl)) rfl (x_i (rU (aa rfl) (aE (aa rfl) h0.ht rfl)) (fun q=>x_r (iM (aE (aa rfl) h0.ht rfl) h0.hc (aa rfl) (aa rfl)) (Wk.same ?_)) fun q=>x_q (x_i (pf (aa rfl) (aE (aa rfl) h0.ht rfl))
  (fun q2=>x_r (iM (aE (aa rfl) h0.ht rfl) h0.hc (ay (ev_add (aa rfl) (aa rfl)) (congrArg PV.int (hd s))) (ay (ev_add (aa rfl) (aa rfl)) (congrArg PV.int (hd e)))) (Wk.same ?_))
  fun q2=>x_q (x_r (fj (iM (aE (aa rfl) h0.ht rfl) h0.hc (aa rfl) (aE (aa rfl) h0.ht rfl)) (iM (aE (aa rfl) h0.ht rfl) h0.hc (aE (aa rfl) h0.ht rfl) (ay (ev_add (aa rfl) (aa rfl)) (congrArg PV.int (hd e)))) ?_) (Wk.same ?_))))⟩
 ·rw[yM (Int.ofNat_le.mp (of_decide_eq_true q))];exact h
 ·rw[yN (Int.ofNat_le.mp (of_decide_eq_true q2)) h1];exact h
 ·rw[←List.length_append,rm (Nat.le_of_not_le fun z=>of_decide_eq_false q2 (Int.ofNat_le.mpr z)) (Nat.le_of_not_le fun z=>of_decide_eq_false q (Int.ofNat_le.mpr z))];unfold sub;rw[List.length_drop,List.length_take,List.length_append];exact Nat.le_trans (Nat.le_trans (Nat.sub_le _ _) (Nat.min_le_right _ _)) (Nat.le_trans (by exact ln [_,_,_] [] (.a .x0 .x2) (.a (.a .x0 .x1) .x2) [] rfl) (Nat.le_trans hsz (Nat.le_of_ble_eq_true rfl)))
 ·rw[rm (Nat.le_of_not_le fun z=>of_decide_eq_false q2 (Int.ofNat_le.mpr z)) (Nat.le_of_not_le fun z=>of_decide_eq_false q (Int.ofNat_le.mpr z))];exact h
noncomputable def s55(vs:List PV)(σ:Sto)(Q:KV):Prop:=∃(t c:Nat) (pre gap post:List Int) (n:Nat),vs=[.obj t,.int n]∧GA σ t c pre gap post∧n≤pre.length+post.length∧
 ∀σ' gap',GA σ' t c ((pre++post).take n) gap' ((pre++post).drop n)→gap'.length=gap.length→Fr (gtc t c) σ σ'→Q .none σ'
theorem p8{t c n:Nat}{pre gap post:List Int}(h0:GA σ t c pre gap post)(h1:n≤pre.length+post.length)(h:∀σ' gap',GA σ' t c ((pre++post).take n) gap' ((pre++post).drop n)→gap'.length=gap.length→Fr (gtc t c) σ σ'→Q .none σ'):s55 [.obj t,.int n] σ Q:=⟨t,c,pre,gap,post,n,rfl,h0,h1,h⟩
theorem re{S:Spec}{K:KO}{loc:List PV}{e o lo hi:ME}{r:List MS}{l lz l':List Int}{d i j:Nat}(he:Ev S e loc σ (eL PV.int l'))(ho:Ev S o loc σ (.obj d))(hlo:Ev S lo loc σ (.int (i:Nat)))(hhi:Ev S hi loc σ (.int (j:Nat)))(hs:σ d=some (.list (l.map .int)))(h2:i≤j)(h3:j≤l.length)(h4:l.length+l'.length≤big)(hX:l.take i++l'++l.drop j=lz)(h:al ai S r loc (σ.set d (.list (lz.map .int))) K):al ai S (.setslice o lo hi e::r) loc σ K:=
 C6 he ho hlo hhi hs (Int.natCast_nonneg _) (Int.ofNat_le.mpr h2) (Int.ofNat_le.mpr h3) h4 hX h
theorem mvl{p1 p2 gap post:List Int}:((p1++p2++gap++post).take (p1++p2).length).drop p1.length=p2:=by rw[List.append_assoc,bw,aX]
theorem Df{p1 p2 gap post:List Int}:(p1++p2++gap++post).take (p1.length+gap.length)++p2++(p1++p2++gap++post).drop ((p1++p2).length+gap.length)=p1++(p2++gap).take gap.length++(p2++post):=by
 rw[←List.length_append (as:=p1++p2),aX,List.append_assoc p1,List.append_assoc p1,bS,cj (by rw[List.length_append];exact Nat.le_add_left _ _),List.append_assoc _ p2 post]
theorem mvr{pre gap p1 p2:List Int}:((pre++gap++(p1++p2)).take (pre.length+gap.length+p1.length)).drop (pre.length+gap.length)=p1:=by rw[←List.length_append,bS,aX,bw]
theorem De{pre gap p1 p2:List Int}:(pre++gap++(p1++p2)).take pre.length++p1++(pre++gap++(p1++p2)).drop (pre.length+p1.length)=(pre++p1)++(gap++p1).drop p1.length++p2:=by
 rw[List.append_assoc pre gap,bw,eC,←List.append_assoc gap,List.drop_append_of_le_length (by rw[List.length_append];exact Nat.le_add_left _ _),List.append_assoc (pre++p1)]
theorem GA.put{σ:Sto}{t c n m:Nat}{pre gap post pre' gap' post':List Int}{fs:List (Nat×PV)}(h0:GA σ t c pre gap post)(hn:n=pre'.length)(hm:m=pre'.length+gap'.length)(hz:pre'.length+gap'.length+post'.length≤cap+8):GA (((σ.set c (.list ((pre'++gap'++post').map .int))).set t (.inst 1 fs)).set t (Ab c (n:Nat) (m:Nat))) t c pre' gap' post':=
 ⟨by subst hn hm;exact af,(an h0.ne.symm).trans ((an h0.ne.symm).trans af),h0.ne,hz⟩
theorem k55(h:s55 vs σ Q):Bd Sx 2 b55 1 vs σ Q:=by
 obtain⟨t,c,pre,gap,post,n,rfl,h0,h1,h⟩:=h;have hsz:=h0.sz;have hb:cap+8+cap+8≤big:=Nat.le_of_ble_eq_true rfl;have hne:=h0.ne;refine⟨rfl,x_i (cQ (aa rfl) (aE (aa rfl) h0.ht rfl)) (fun q=>?_) fun q=>?_⟩
 ·have q:=Int.ofNat_lt.mp (of_decide_eq_true q);obtain⟨p1,p2,rfl,rfl⟩:=cut pre (Nat.le_of_lt q);rw[List.length_append]at hsz;have hG:((p2++gap).take gap.length).length=gap.length:=by rw[List.length_take,List.length_append];exact Nat.min_eq_left (Nat.le_add_left _ _)
  rw[List.append_assoc,bw,aX]at h;have e1:(((p1++p2).length+gap.length:Nat):Int)-p2.length=((p1.length+gap.length:Nat):Int):=by rw[List.length_append];exact lze [_,_,_] [] [] (.d (.a (.a .x0 .x1) .x2) .x1) (.a .x0 .x2) [] [] rfl rfl
  refine x_a (ay (iM (aE (aa rfl) h0.ht rfl) h0.hc (aa rfl) (aE (aa rfl) h0.ht rfl)) (congrArg eI mvl)) rfl (re (aa rfl) (aE (aa rfl) h0.ht rfl) (ay (aT (aE (aa rfl) h0.ht rfl) (aw (aa rfl))) (congrArg PV.int e1)) (aE (aa rfl) h0.ht rfl) h0.hc ?_ ?_ ?_ Df
   (dC (ay (aT (aE (aa rfl) ((an hne).trans h0.ht) rfl) (aw (aa rfl))) (congrArg PV.int e1)) (aa rfl) ((an hne).trans h0.ht) rfl rfl (x_n (x_q (dC (aa rfl) (aa rfl) af rfl rfl (x_n (Wk.same (h _ _ (h0.put rfl ?_ ?_) hG ((Fr.refl.set (.inr rfl)).set (.inl rfl) |>.set (.inl rfl))))))))))
  ·rw[List.length_append];exact ln [_,_,_] [] (.a .x0 .x2) (.a (.a .x0 .x1) .x2) [] rfl
  ·rw[List.length_append,List.length_append,List.length_append];exact ln [_,_,_,_,_] [.f .x4 (.a .x0 .x1)] (.a (.a .x0 .x1) .x2) (.a (.a .x4 .x2) .x3) [] rfl List.length_append
  ·rw[List.length_append,List.length_append,List.length_append];exact ln [_,_,_,_,_,_] [.l (.a (.a (.a .x0 (.k 8)) .x0) (.k 8)) .x1,.l (.a (.a (.a .x2 .x3) .x4) .x5) (.a .x0 (.k 8))] (.a (.a (.a (.a .x2 .x3) .x4) .x5) .x3) .x1 [1,2] rfl hb hsz
  ·rw[hG]
  ·rw[hG,List.length_append];exact ln [_,_,_,_,_] [.l (.a (.a (.a .x1 .x2) .x3) .x4) (.a .x0 (.k 8))] (.a (.a .x1 .x3) (.a .x2 .x4)) (.a .x0 (.k 8)) [] rfl hsz
 ·have q:=Nat.le_of_not_lt fun z=>of_decide_eq_false q (Int.ofNat_lt.mpr z)
  obtain⟨i,rfl⟩:=Nat.exists_eq_add_of_le q;obtain⟨p1,p2,rfl,rfl⟩:=cut post (Nat.le_of_add_le_add_left h1);rw[List.length_append]at hsz;have hG:((gap++p1).drop p1.length).length=gap.length:=by rw[List.length_drop,List.length_append];exact Nat.add_sub_cancel _ _
  rw[bS,eC,bw,aX]at h;have e1:((pre.length+gap.length:Nat):Int)+((pre.length+p1.length:Nat):Int)-pre.length=((pre.length+gap.length+p1.length:Nat):Int):=by exact lze [_,_,_] [] [] (.d (.a (.a .x0 .x1) (.a .x0 .x2)) .x0) (.a (.a .x0 .x1) .x2) [] [] rfl rfl
  refine x_a (ay (iM (aE (aa rfl) h0.ht rfl) h0.hc (aE (aa rfl) h0.ht rfl) (ay (aT (ev_add (aE (aa rfl) h0.ht rfl) (aa rfl)) (aE (aa rfl) h0.ht rfl)) (congrArg PV.int e1))) (congrArg eI mvr)) rfl (re (aa rfl) (aE (aa rfl) h0.ht rfl) (aE (aa rfl) h0.ht rfl) (ay (ev_add (aE (aa rfl) h0.ht rfl) (aw (aa rfl))) rfl) h0.hc ?_ ?_ ?_ De
   (dC (ay (ev_add (aE (aa rfl) ((an hne).trans h0.ht) rfl) (aw (aa rfl))) (show _=PV.int ((pre.length+gap.length+p1.length:Nat):Int)from rfl)) (aa rfl) ((an hne).trans h0.ht) rfl rfl (x_n (x_q (dC (aa rfl) (aa rfl) af rfl rfl (x_n (Wk.same (h _ _ (h0.put (n:=pre.length+p1.length) (m:=pre.length+gap.length+p1.length) (List.length_append).symm ?_ ?_) hG ((Fr.refl.set (.inr rfl)).set (.inl rfl) |>.set (.inl rfl))))))))))
  ·exact Nat.le_add_right _ _
  ·rw[List.length_append,List.length_append,List.length_append];exact ln [_,_,_,_] [] (.a .x0 .x2) (.a (.a .x0 .x1) (.a .x2 .x3)) [] rfl
  ·rw[List.length_append,List.length_append,List.length_append];exact ln [_,_,_,_,_,_] [.l (.a (.a (.a .x0 (.k 8)) .x0) (.k 8)) .x1,.l (.a (.a .x2 .x3) (.a .x4 .x5)) (.a .x0 (.k 8))] (.a (.a (.a .x2 .x3) (.a .x4 .x5)) .x4) .x1 [1,2] rfl hb hsz
  ·rw[hG,List.length_append];exact lne [_,_,_] [] (.a (.a .x0 .x1) .x2) (.a (.a .x0 .x2) .x1) [] [] rfl rfl
  ·rw[hG,List.length_append];exact ln [_,_,_,_,_] [.l (.a (.a .x1 .x2) (.a .x3 .x4)) (.a .x0 (.k 8))] (.a (.a (.a .x1 .x3) .x2) .x4) (.a .x0 (.k 8)) [] rfl hsz
noncomputable def s56(vs:List PV)(σ:Sto)(Q:KV):Prop:=∃(t c:Nat) (pre gap post:List Int) (n:Nat),vs=[.obj t,.int n]∧GA σ t c pre gap post∧pre.length+post.length+n≤cap∧
 ∀σ' gap',GA σ' t c pre gap' post→n≤gap'.length→Fr (gtc t c) σ σ'→Q .none σ'
theorem zf{t c n:Nat}{pre gap post:List Int}(h0:GA σ t c pre gap post)(h1:pre.length+post.length+n≤cap)(h:∀σ' gap',GA σ' t c pre gap' post→n≤gap'.length→Fr (gtc t c) σ σ'→Q .none σ'):s56 [.obj t,.int n] σ Q:=⟨t,c,pre,gap,post,n,rfl,h0,h1,h⟩
theorem k56(h:s56 vs σ Q):Bd Sx 2 b56 1 vs σ Q:=by
 obtain⟨t,c,pre,gap,post,n,rfl,h0,h1,h⟩:=h;have hsz:=h0.sz;have hcap:cap=2000000:=rfl;have hb:big=16777216:=rfl;have hne:=h0.ne;have e0:((pre.length+gap.length:Nat):Int)-(pre.length:Nat)=(gap.length:Nat):=by exact lze [_,_] [] [] (.d (.a .x0 .x1) .x0) .x1 [] [] rfl rfl
 refine⟨rfl,x_a (aT (aa rfl) (ay (aT (aE (aa rfl) h0.ht rfl) (aE (aa rfl) h0.ht rfl)) (congrArg PV.int e0))) rfl (x_i (fv (aa rfl) aJ) (fun q=>?_) fun q=>x_n (x_q (x_n (Wk.same (h σ gap h0 ?_ Fr.refl)))))⟩
 ·have q:=of_decide_eq_true q;have q2:gap.length<n:=by exact io (lz [_,_] [] [.l .k1 (.d .x0 .x1)] .p11 .x0 [] rfl q)
  have e1:(n:Int)-gap.length+8=((n-gap.length+8:Nat):Int):=by exact lze [_,_,_] [] [.f (.a .x2 .x1) .x0,.e (.a .x2 .x1) .x0] (.a (.d .x0 .x1) (.k 8)) (.a .x2 (.k 8)) [1,0] [0] rfl rfl (ie (su (Nat.le_of_lt q2))) (ie (su (Nat.le_of_lt q2)))
  have hG:(gap++List.replicate (n-gap.length+8) (0:Int)).length=gap.length+(n-gap.length+8):=by rw[List.length_append,List.length_replicate]
  refine re (l':=List.replicate (n-gap.length+8) 0) (lz:=pre++(gap++List.replicate (n-gap.length+8) 0)++post) (kS (gA aJ) (ay (ev_add (aa rfl) (aE (aa rfl) h0.ht rfl)) (congrArg PV.int e1)) ?_ ?_ ?_) (aE (aa rfl) h0.ht rfl) (aE (aa rfl) h0.ht rfl) (aE (aa rfl) h0.ht rfl) h0.hc (Nat.le_refl _) ?_ ?_ ?_
   (dC (ay (ev_add (ev_add (aE (aa rfl) ((an hne).trans h0.ht) rfl) (aa rfl)) (aE (aa rfl) ((an hne).trans h0.ht) rfl)) (congrArg PV.int (show((pre.length+gap.length:Nat):Int)+((n:Int)-gap.length)+8=((pre.length+(gap.length+(n-gap.length+8)):Nat):Int) by exact lze [_,_,_,_] [] [.e (.a (.d .x1 .x2) (.k 8)) (.a .x3 (.k 8)),.f (.a (.d .x1 .x2) (.k 8)) (.a .x3 (.k 8))] (.a (.a (.a .x0 .x2) (.d .x1 .x2)) (.k 8)) (.a .x0 (.a .x2 (.a .x3 (.k 8)))) [1,0] [0] rfl rfl e1 e1))) (aa rfl) ((an hne).trans h0.ht) rfl rfl (x_n (x_q (x_n (Wk.same (h _ (gap++List.replicate (n-gap.length+8) 0) ⟨?_,?_,hne,?_⟩ ?_ ((Fr.refl.set (.inr rfl)).set (.inl rfl))))))))
  ·exact lz [_] [] [] (.a (.o (.k 4611686018427387904)) .k1) (.a .x0 (.k 8)) [] rfl
  ·exact lz [_,_,_,_,_] [] [.l (.a (.a .x0 .x1) .x2) .x3,.e .x3 (.k 2000000),.l .x4 .x2] (.a (.a .x4 (.k 8)) .k1) (.k 4611686018427387904) [] rfl (il h1) (ie hcap) (il sb)
  ·show n-gap.length+8≤big;exact ln [_,_,_,_,_,_] [.l (.a (.a .x0 .x1) .x2) .x3,.e .x3 (.k 2000000),.f .x4 (.k 16777216),.l .x5 .x2] (.a .x5 (.k 8)) .x4 [] rfl h1 hcap hb sb
  ·rw[List.length_append,List.length_append];exact ln [_,_,_] [] (.a .x0 .x2) (.a (.a .x0 .x2) .x1) [] rfl
  ·rw[List.length_append,List.length_append,List.length_replicate];exact ln [_,_,_,_,_,_,_] [.l (.a (.a .x0 .x1) .x2) .x3,.e .x3 (.k 2000000),.f .x5 (.k 16777216),.e (.a .x6 .x4) .x2] (.a (.a (.a .x0 .x4) .x1) (.a .x6 (.k 8))) .x5 [] rfl h1 hcap hb (su (Nat.le_of_lt q2))
  ·rw[←List.length_append,bw,aX,List.append_assoc pre gap]
  ·rw[hG];exact af
  ·exact(an hne.symm).trans af
  ·rw[hG];exact ln [_,_,_,_,_,_] [.l (.a (.a .x0 .x1) .x2) .x3,.e (.a .x5 .x4) .x2] (.a (.a .x0 (.a .x4 (.a .x5 (.k 8)))) .x1) (.a .x3 (.k 8)) [] rfl h1 (su (Nat.le_of_lt q2))
  ·rw[hG];exact ln [_,_,_] [.f (.a .x2 .x1) .x0] .x0 (.a .x1 (.a .x2 (.k 8))) [] rfl (su (Nat.le_of_lt q2))
 ·have q:=of_decide_eq_false q;exact io (lz [_,_] [] [.l (.d .x0 .x1) .k0] .x0 .x1 [] rfl (Int.not_lt.mp q))
noncomputable def s57(vs:List PV)(σ:Sto)(Q:KV):Prop:=∃(t c:Nat) (pre gap post cs:List Int) (n:Nat),vs=[.obj t,.int n,eI cs]∧GA σ t c pre gap post∧n≤pre.length+post.length∧pre.length+post.length+cs.length≤cap∧
 ∀σ' gap',GA σ' t c ((pre++post).take n++cs) gap' ((pre++post).drop n)→Fr (gtc t c) σ σ'→Q .none σ'
theorem ze{t c n:Nat}{pre gap post cs:List Int}(h0:GA σ t c pre gap post)(h1:n≤pre.length+post.length)(h2:pre.length+post.length+cs.length≤cap)(h:∀σ' gap',GA σ' t c ((pre++post).take n++cs) gap' ((pre++post).drop n)→Fr (gtc t c) σ σ'→Q .none σ'):s57 [.obj t,.int n,eI cs] σ Q:=⟨t,c,pre,gap,post,cs,n,rfl,h0,h1,h2,h⟩
theorem k57(h55:Sx 55=s55)(h56:Sx 56=s56)(h:s57 vs σ Q):Bd Sx 3 b57 0 vs σ Q:=by
 obtain⟨t,c,pre,gap,post,cs,n,rfl,h0,h1,h2,h⟩:=h;have hcap:cap=2000000:=rfl;have hb:big=16777216:=rfl;refine⟨rfl,x_E (y_m (aa rfl) h0.ht rfl (ae (aw (aa rfl)) aD) rfl h56 (zf h0 h2 fun σ1 g1 G1 hg1 F1=>x_E (y_m (aa rfl) G1.ht rfl (pa rfl) rfl h55 (p8 G1 h1 fun σ2 g2 G2 hg2 F2=>?_))))⟩;have F:=F1.trans F2;rw[←List.length_append,←List.take_append_drop n (pre++post),List.length_append]at h2;have hA:((pre++post).take n).length=n:=by rw[List.length_take,List.length_append];exact Nat.min_eq_left h1
 clear h0 h1 G1 F1 F2;generalize (pre++post).take n=A at*;generalize (pre++post).drop n=B at*;subst hA;have hsz:=G2.sz;have hne:=G2.ne;have hx:(A++g2++B).take A.length++cs++(A++g2++B).drop (A.length+cs.length)=A++cs++g2.drop cs.length++B:=by
  rw[List.append_assoc A g2 B,bw,eC,List.drop_append_of_le_length (by exact ln [_,_,_] [.l .x0 .x1,.f .x2 .x1] .x0 .x2 [] rfl hg1 hg2),←List.append_assoc]
 refine re (aa rfl) (aE (aa rfl) G2.ht rfl) (aa rfl) (ay (ev_add (aa rfl) (aw (aa rfl))) (show _=PV.int ((A.length+cs.length:Nat):Int)from rfl)) G2.hc (Nat.le_add_right _ _) ?_ ?_ hx (dC (ev_add (aa rfl) (aw (aa rfl))) (aa rfl) ((an hne).trans G2.ht) rfl rfl (x_n (Wk.same (h _ (g2.drop cs.length) ⟨af.trans (show some (Ab c ((A.length:Int)+cs.length) ((A.length+g2.length:Nat):Int))=_ from ?_),(an hne.symm).trans af,hne,?_⟩ ((F.set (.inr rfl)).set (.inl rfl))))))
 ·rw[List.length_append,List.length_append];exact ln [_,_,_,_,_] [.l .x0 .x1,.f .x2 .x1] (.a .x3 .x0) (.a (.a .x3 .x2) .x4) [] rfl hg1 hg2
 ·rw[List.length_append,List.length_append];exact ln [_,_,_,_,_,_,_] [.e .x0 (.k 2000000),.f .x1 (.k 16777216),.l .x2 .x3,.f .x4 .x3,.l (.a (.a .x5 .x4) .x6) (.a .x0 (.k 8))] (.a (.a (.a .x5 .x4) .x6) .x2) .x1 [2,1,1,1,2] rfl hcap hb hg1 hg2 hsz
 ·rw[List.length_append,List.length_drop,show A.length+cs.length+(g2.length-cs.length)=A.length+g2.length by exact lne [_,_,_,_] [.e (.a .x3 .x0) .x1,.f (.a .x3 .x0) .x1] (.a (.a .x2 .x0) .x3) (.a .x2 .x1) [1,0] [0] rfl rfl (su (ln [_,_,_] [.l .x0 .x1,.f .x2 .x1] .x0 .x2 [] rfl hg1 hg2)) (su (ln [_,_,_] [.l .x0 .x1,.f .x2 .x1] .x0 .x2 [] rfl hg1 hg2))];rfl
 ·rw[List.length_append,List.length_drop];exact ln [_,_,_,_,_,_] [.l (.a (.a .x3 .x2) .x4) (.a .x0 (.k 8)),.e (.a .x5 .x1) .x2] (.a (.a (.a .x3 .x1) .x5) .x4) (.a .x0 (.k 8)) [] rfl hsz (su (ln [_,_,_] [.l .x0 .x1,.f .x2 .x1] .x0 .x2 [] rfl hg1 hg2))
noncomputable def s58(vs:List PV)(σ:Sto)(Q:KV):Prop:=∃(t c:Nat) (pre gap post:List Int) (s e:Nat),vs=[.obj t,.int s,.int e]∧GA σ t c pre gap post∧s≤e∧e≤pre.length+post.length∧
 ∀σ' gap',GA σ' t c ((pre++post).take s) gap' ((pre++post).drop e)→Fr (gtc t c) σ σ'→Q (eI (sub (pre++post) s e)) σ'
theorem zd{t c s e:Nat}{pre gap post:List Int}(h0:GA σ t c pre gap post)(h1:s≤e)(h2:e≤pre.length+post.length)(h:∀σ' gap',GA σ' t c ((pre++post).take s) gap' ((pre++post).drop e)→Fr (gtc t c) σ σ'→Q (eI (sub (pre++post) s e)) σ'):s58 [.obj t,.int s,.int e] σ Q:=⟨t,c,pre,gap,post,s,e,rfl,h0,h1,h2,h⟩
theorem k58(h54:Sx 54=s54)(h55:Sx 55=s55)(h:s58 vs σ Q):Bd Sx 3 b58 1 vs σ Q:=by
 obtain⟨t,c,pre,gap,post,s,e,rfl,h0,h1,h2,h⟩:=h;have h2':e≤(pre++post).length:=by rw[List.length_append];exact h2
 refine⟨rfl,x_a (gy (aa rfl) h0.ht rfl (pa rfl) rfl h54 fun Q w=>uy h0 h1 h2' w) rfl ?_⟩;generalize sub (pre++post) s e=gone at*;have fin:∀(σ1:Sto) (p1 g1 q1:List Int),GA σ1 t c p1 g1 q1→p1++q1=pre++post→s≤p1.length→p1.length≤e→Fr (gtc t c) σ σ1→al ai Sx (b58.drop 3) [.obj t,.int s,.int e,eI gone] σ1 (Ret Q):=fun σ1 p1 g1 q1 G he hs1 hs2 F=>by
  have hlen:p1.length+q1.length=(pre++post).length:=by rw[←he,List.length_append]
  have hsz:=G.sz;obtain⟨a1,a2,rfl,rfl⟩:=cut p1 hs1;obtain⟨b1,b2,rfl,hb'⟩:=cut q1 (show e-(a1++a2).length≤q1.length by exact ln [_,_,_,_,_] [.l .x0 .x1,.f (.a .x2 .x3) .x1,.e (.a .x4 .x2) .x0] .x4 .x3 [] rfl h2' hlen (su hs2));have ht1:(pre++post).take a1.length=a1:=by rw[←he,List.append_assoc,bw]
  have ht2:(pre++post).drop e=b2:=by
   rw[←he,←List.append_assoc,show e=(a1++a2++b1).length by rw[List.length_append];exact lne [_,_,_,_] [.f .x2 .x3,.f (.a .x3 .x1) .x0,.e .x2 .x3,.e (.a .x3 .x1) .x0] .x0 (.a .x1 .x2) [1,1,0,0] [0,0] rfl rfl hb' (su hs2) hb' (su hs2),aX]
  rw[ht1,ht2]at h;have hl:(a2++g1++b1).length=a2.length+g1.length+b1.length:=by rw[List.length_append,List.length_append]
  have hl2:(a1++a2).length=a1.length+a2.length:=List.length_append;have e1:(((a1++a2).length+g1.length:Nat):Int)+e-(a1++a2).length=((a1.length+(a2++g1++b1).length:Nat):Int):=by rw[hl];exact lze [_,_,_,_,_,_,_] [] [.f .x3 .x4,.e .x1 (.a .x2 .x6),.f (.a .x4 .x1) .x0,.e .x3 .x4,.f .x1 (.a .x2 .x6),.e (.a .x4 .x1) .x0] (.d (.a (.a .x1 .x5) .x0) .x1) (.a .x2 (.a (.a .x6 .x5) .x3)) [1,1,1,0,0,0] [0,0,0] rfl rfl (ie hb') (ie hl2) (ie (su hs2)) (ie hb') (ie hl2) (ie (su hs2))
  refine dC (ay (aT (ev_add (p0 G.ht rfl) (aa rfl)) (p0 G.ht rfl)) (congrArg PV.int e1)) (aa rfl) G.ht rfl rfl (dR (aa rfl) (aa rfl) rfl rfl (x_r (aa rfl) (Wk.same (h _ (a2++g1++b1) ⟨af,(an G.ne.symm).trans (G.hc.trans ?_),G.ne,?_⟩ (F.set (.inl rfl))))))
  ·rw[List.append_assoc a1 (a2++g1++b1),List.append_assoc (a2++g1),List.append_assoc a1 a2 g1,List.append_assoc a1]
  ·rw[hl];rw[List.length_append,List.length_append]at hsz;exact ln [_,_,_,_,_,_] [.l (.a (.a (.a .x0 .x2) .x3) (.a .x1 .x4)) (.a .x5 (.k 8))] (.a (.a .x0 (.a (.a .x2 .x3) .x1)) .x4) (.a .x5 (.k 8)) [] rfl hsz
 refine x_i (p0 h0.ht rfl) (fun q=>x_E (y_m (aa rfl) h0.ht rfl (pa rfl) rfl h55 (p8 h0 h2 fun σ1 g1 G1 hg1 F1=>x_z ?_))) fun q=>x_z (x_i (p0 h0.ht rfl) (fun q2=>x_E (y_m (aa rfl) h0.ht rfl (pa rfl) rfl h55 (p8 h0 (Nat.le_trans h1 h2) fun σ1 g1 G1 hg1 F1=>x_z ?_))) fun q2=>x_z (fin σ pre gap post h0 rfl (Nat.not_lt.mp fun z=>of_decide_eq_false q2 (Int.ofNat_lt.mpr z)) (Nat.not_lt.mp fun z=>of_decide_eq_false q (Int.ofNat_lt.mpr z)) Fr.refl))
 ·have hA:((pre++post).take e).length=e:=by rw[List.length_take];exact Nat.min_eq_left h2'
  exact cE (p0 G1.ht rfl) (decide_eq_false (by rw[hA];exact Int.not_lt.mpr (Int.ofNat_le.mpr h1))) (fin σ1 _ _ _ G1 (List.take_append_drop _ _) (by rw[hA];exact h1) (Nat.le_of_eq hA) F1)
 ·have hA:((pre++post).take s).length=s:=by rw[List.length_take];exact Nat.min_eq_left (Nat.le_trans h1 h2')
  exact fin σ1 _ _ _ G1 (List.take_append_drop _ _) (Nat.le_of_eq hA.symm) (by rw[hA];exact h1) F1
end
end Mine
end
section
namespace Mine
noncomputable def cL(n:Int)(bv:PV)(p:Int):cb:=.inst 2 [(8,.int n),(9,.bool false),(10,bv),(11,.int p)]
noncomputable def cA:Nat→List Nat→List (Int×PV)
 | _,[]=>[]
 | k,a::r=>((k:Int)+1,.obj a)::cA (k+1) r
noncomputable def dY:Nat→Nat→List Int
 | _,0=>[]
 | k,n+1=>((k:Int)+1)::dY (k+1) n
theorem kh:∀(ms:List Nat) (k:Nat),(cA k ms).map (·.1)=dY k ms.length
 | [],_=>rfl
 | a::r,k=>by show _::_=_::_;rw[kh r (k+1)]
theorem iB:∀(ms:List Nat) (k:Nat),(cA k ms).length=ms.length
 | [],_=>rfl
 | a::r,k=>by show _+1=_+1;rw[iB r (k+1)]
theorem iF:∀(n k:Nat),(dY k n).length=n
 | 0,_=>rfl
 | n+1,k=>by show _+1=_+1;rw[iF n (k+1)]
theorem mq:∀(n k i:Nat),i<n→(dY k n)[i]? = some (((k+i:Nat):Int)+1)
 | n+1,k,0,_=>by simp[dY]
 | n+1,k,i+1,h=>by
  have:=mq n (k+1) i (by exact ln [_,_] [.l (.a .p01 .k1) .p11] .p01 .x1 [] rfl h);rw[show k+1+i=k+(i+1) by exact lne [_,_] [] (.a .p11 .x0) (.a .x1 .p01) [] [] rfl rfl]at this
  simpa [dY]using this
theorem eU:∀(ms:List Nat) (k i a:Nat),ms[i]? = some a→((cA k ms).find? fun x=>x.1==((k+i:Nat):Int)+1)=some (((k+i:Nat):Int)+1,.obj a)
 | [],_,_,_,h=>by simp at h
 | b::r,k,0,a,h=>by
  cases h;simp[cA]
 | b::r,k,i+1,a,h=>by
  have:=eU r (k+1) i a (by simpa using h);rw[show k+1+i=k+(i+1) by exact lne [_,_] [] (.a .p01 .x1) (.a .x0 .p11) [] [] rfl rfl]at this;unfold cA;rw[List.find?_cons,beq_eq_false_iff_ne.mpr (by simp;exact fun zz=>lzf [_,_] [] _ [.f .x0 (.a .x0 .p11)] [] rfl zz)];exact this
theorem iY:∀(ms:List Nat) (k:Nat) (n:Int),(k:Int)+ms.length<n→(cA k ms).any (·.1==n)=false
 | [],_,_,_=>rfl
 | a::r,k,n,h=>by
  unfold cA;rw[List.any_cons,iY r (k+1) n (by rw[List.length_cons]at h;exact lz [_,_] [_] [.l (.a (.a .x0 .p11) .k1) .y0] (.a (.a .p01 .x1) .k1) .y0 [] rfl h),beq_eq_false_iff_ne.mpr (by rw[List.length_cons]at h;simp;exact fun zz=>lzf [_,_] [_] _ [.l (.a (.a .x0 .p11) .k1) .y0,.f .p01 .y0] [] rfl h zz)];rfl
theorem kg:∀(ms:List Nat) (k a:Nat),cA k (ms++[a])=cA k ms++[(((k+ms.length:Nat):Int)+1,.obj a)]
 | [],k,a=>rfl
 | b::r,k,a=>by
  show _::cA (k+1) (r++[a])=_;rw[kg r (k+1) a,List.length_cons,show k+1+r.length=k+(r.length+1) by exact lne [_,_] [] (.a .p01 .x1) (.a .x0 .p11) [] [] rfl rfl];rfl
theorem lU:∀(n k:Nat),fo (dY k n)=dY k n
 | 0,_=>rfl
 | 1,_=>rfl
 | n+2,k=>by
  have ih:=lU (n+1) (k+1);unfold dY;show nc _ (fo (dY (k+1) (n+1)))=_;rw[ih];unfold dY nc;rw[if_pos (by exact lz [_] [] [] .p01 (.a .p01 .k1) [] rfl)]
structure MA(σ:Sto)(m d b:Nat)(ms ps:List Nat):Prop where
 hm:σ m=some (.inst 3 [(12,.obj d)])
 hd:σ d=some (.dict (cA 0 ms))
 len:ms.length=ps.length
 at_:∀(i:Nat) a p,ms[i]? = some a→ps[i]? = some p→σ a=some (cL (i+1) (.obj b) p)
 nd:ms.Nodup
 md:m≠d
 mm:m∉ms
 dm:d∉ms
 sz:ms.length<60
theorem gQ{σ:Sto}{a:Nat}{o:cb}(h:σ a=some o):σ.set a o=σ:=by
 funext x;unfold Sto.set;split
 ·rename_i e;subst e;exact h.symm
 ·rfl
theorem MA.fr{σ τ:Sto}{m d b:Nat}{ms ps:List Nat}{A:Nat→Prop}(h:MA σ m d b ms ps)(F:Fr A σ τ)(h1:¬A m)(h2:¬A d)(h3:∀a∈ms,¬A a):MA τ m d b ms ps:=
 ⟨(F _ h1).trans h.hm,(F _ h2).trans h.hd,h.len,fun i a p ha hp=>(F _ (h3 a (List.mem_of_getElem? ha))).trans (h.at_ i a p ha hp),h.nd,h.md,h.mm,h.dm,h.sz⟩
theorem MA.set{σ:Sto}{m d b k a:Nat}{ms ps:List Nat}(h:MA σ m d b ms ps)(ha:ms[k]? = some a)(v:Nat):MA (σ.set a (cL (k+1) (.obj b) v)) m d b ms (ps.set k v):=by
 have hin:=List.mem_of_getElem? ha;refine⟨(an fun e=>h.mm (by rw[e];exact hin)).trans h.hm,(an fun e=>h.dm (by rw[e];exact hin)).trans h.hd,by rw[List.length_set];exact h.len,fun i x p hx hp=>?_,h.nd,h.md,h.mm,h.dm,h.sz⟩;obtain⟨hi,rfl⟩:=List.getElem?_eq_some_iff.mp hx;obtain⟨hk,rfl⟩:=List.getElem?_eq_some_iff.mp ha
 by_cases e:i=k
 ·subst e;rw[af];rw[List.getElem?_set_self (by rw[←h.len];exact hi)]at hp;cases hp;rfl
 ·rw[an (fun q=>e ((List.getElem_inj h.nd).mp q))];rw[List.getElem?_set_ne (Ne.symm e)]at hp;exact h.at_ i _ p hx hp
theorem xr{f:Nat→Nat}{ps:List Nat}{k:Nat}(h:k<ps.length):(ps.take (k+1)).map f++ps.drop (k+1)=((ps.take k).map f++ps.drop k).set k (f ps[k]):=by
 rw[a6 h,List.map_append,List.append_assoc];rw[List.set_append_right _ _ (by rw[List.length_map,List.length_take];exact(Nat.min_le_left _ _)),List.length_map,List.length_take,show k-min k ps.length=0 by exact mc (k) (ps.length) (fun z0 w0=>lne [_,_,_] [.f .x2 .x0,.e (.a .x1 .x2) .x0] .x1 .k0 [] [0,0] rfl rfl w0 (su (Nat.min_le_left _ _))) fun z0 w0=>lne [_,_,_,_] [.l .p01 .x1,.f .x3 .x1,.e (.a .x2 .x3) .x0] .x2 .k0 [] [0,0,0] rfl rfl h w0 (su (Nat.min_le_left _ _))];rw[List.drop_eq_getElem_cons h];rfl
theorem m5{body:List PV→Sto→KO→Prop}{KQ:KO}{t:Tgt}{σ:Sto}{m d b:Nat}{ms ps:List Nat}(f:Nat→Nat)(base:PV→PV→List PV)(h:MA σ m d b ms ps)(x0 y0:PV)
  (hstep:∀(k a p:Nat) τ x y (K:KO),ms[k]? = some a→τ m=some (.inst 3 [(12,.obj d)])→τ d=some (.dict (cA 0 ms))→τ a=some (cL (k+1) (.obj b) (p:Nat))→(∀x y,K (.next (base x y)) (τ.set a (cL (k+1) (.obj b) (f p:Nat))))→dO t (.int (((k:Nat):Int)+1)) (base x y) fun loc'=>body loc' τ K)
  (hq:∀τ x y,MA τ m d b ms (ps.map f)→Fr (·∈ms) σ τ→KQ (.next (base x y)) τ):o5 body t (fun _=>True) ((dY 0 ms.length).map .int) (base x0 y0) σ KQ:=by
 have hl:=h.len;refine nl (fun k loc τ=>∃x y,loc=base x y∧MA τ m d b ms ((ps.take k).map f++ps.drop k)∧Fr (·∈ms) σ τ) (fun _ _ _ _=>trivial) _ 0 _ _ ⟨x0,y0,rfl,by simpa using h,Fr.refl⟩ ?_ ?_
 ·rintro k x hx loc τ K ⟨x1,y1,rfl,M,F⟩ hK1 hK2;rw[Nat.zero_add]at hK2 M;have hk:k<ms.length:=by
   have:=(List.getElem?_eq_some_iff.mp hx).1;rw[List.length_map,iF]at this;exact this
  rw[List.getElem?_map,mq _ _ _ hk,Nat.zero_add]at hx;cases hx;have ha:ms[k]? = some ms[k]:=List.getElem?_eq_getElem hk;have hp:((ps.take k).map f++ps.drop k)[k]? = some (ps[k]'(by exact ln [_,_,_] [.e .x0 .x1,.l .p21 .x0] .p21 .x1 [] rfl hl hk)):=by
   rw[List.getElem?_append_right (by rw[List.length_map,List.length_take];exact(Nat.min_le_left _ _)),List.length_map,List.length_take,show k-min k ps.length=0 by exact mc (k) (ps.length) (fun z0 w0=>lne [_,_,_] [.f .x2 .x0,.e (.a .x1 .x2) .x0] .x1 .k0 [] [0,0] rfl rfl w0 (su (Nat.min_le_left _ _))) fun z0 w0=>lne [_,_,_,_,_] [.e .x0 .x1,.l .p21 .x0,.f .x4 .x1,.e (.a .x3 .x4) .x2] .x3 .k0 [] [0,0,0,0] rfl rfl hl hk w0 (su (Nat.min_le_left _ _)),List.getElem?_drop,Nat.add_zero,List.getElem?_eq_getElem (by exact ln [_,_,_] [.e .x0 .x1,.l .p21 .x0] .p21 .x1 [] rfl hl hk)]
  refine hstep k ms[k] (ps[k]'(by exact ln [_,_,_] [.e .x0 .x1,.l .p21 .x0] .p21 .x1 [] rfl hl hk)) τ x1 y1 K ha M.hm M.hd (M.at_ k _ _ ha hp) fun x y=>hK2 _ _ ⟨x,y,rfl,?_,F.set (List.getElem_mem hk)⟩
  rw[xr (by exact ln [_,_,_] [.e .x0 .x1,.l .p21 .x0] .p21 .x1 [] rfl hl hk)];exact M.set ha _
 ·rintro loc τ ⟨x1,y1,rfl,M,F⟩;rw[Nat.zero_add,List.length_map,iF,List.take_of_length_le (by exact ln [_,_] [.f .x0 .x1] .x1 .x0 [] rfl hl),List.drop_eq_nil_of_le (by exact ln [_,_] [.f .x0 .x1] .x1 .x0 [] rfl hl),List.append_nil]at M;exact hq τ x1 y1 M F
section
variable {Sx:Spec} {σ:Sto} {Q:KV} {vs:List PV}
noncomputable def s65(vs:List PV)(σ:Sto)(Q:KV):Prop:=∃(a:Nat) (n:Int),vs=[.obj a,.int n,.bool false]∧σ a=some (.inst 2 [])∧Q .none (σ.set a (cL n .none 0))
theorem zc{a:Nat}{n:Int}(h0:σ a=some (.inst 2 []))(h:Q .none (σ.set a (cL n .none 0))):s65 [.obj a,.int n,.bool false] σ Q:=⟨a,n,rfl,h0,h⟩
theorem k65(h:s65 vs σ Q):Bd Sx 3 b65 0 vs σ Q:=by
 obtain⟨a,n,rfl,h0,h⟩:=h;exact⟨rfl,dC (aa rfl) (aa rfl) h0 rfl rfl (dR (aa rfl) (aa rfl) rfl rfl (dR Ak (aa rfl) rfl rfl (dR aJ (aa rfl) rfl rfl (x_n (Wk.same h)))))⟩
noncomputable def s69(vs:List PV)(σ:Sto)(Q:KV):Prop:=∃(m:Nat),vs=[.obj m]∧σ m=some (.inst 3 [])∧∀d,σ d=Option.none→Q .none ((σ.set d (.dict [])).set m (.inst 3 [(12,.obj d)]))
theorem y9{m:Nat}(h0:σ m=some (.inst 3 []))(h:∀d,σ d=Option.none→Q .none ((σ.set d (.dict [])).set m (.inst 3 [(12,.obj d)]))):s69 [.obj m] σ Q:=⟨m,rfl,h0,h⟩
theorem k69(h:s69 vs σ Q):Bd Sx 1 b69 0 vs σ Q:=by
 obtain⟨m,rfl,h0,h⟩:=h;exact⟨rfl,wJ (Dm fun d hd=>xl (aa rfl) ((an (bM hd h0).symm).trans h0) rfl rfl (x_n (Wk.same (h d hd))))⟩
noncomputable def s70(vs:List PV)(σ:Sto)(Q:KV):Prop:=∃(m d:Nat) (ms:List Nat),vs=[.obj m]∧σ m=some (.inst 3 [(12,.obj d)])∧σ d=some (.dict (cA 0 ms))∧ms.length<60∧Q (eI (dY 0 ms.length)) σ
theorem p7{m d:Nat}{ms:List Nat}(h0:σ m=some (.inst 3 [(12,.obj d)]))(h1:σ d=some (.dict (cA 0 ms)))(h2:ms.length<60)(h:Q (eI (dY 0 ms.length)) σ):s70 [.obj m] σ Q:=⟨m,d,ms,rfl,h0,h1,h2,h⟩
theorem k70(h:s70 vs σ Q):Bd Sx 1 b70 0 vs σ Q:=by
 obtain⟨m,d,ms,rfl,h0,h1,h2,h⟩:=h;refine⟨rfl,?_⟩;refine x_r (ay (Af (aE (aa rfl) h0 rfl) h1 (by rw[iB];exact ln [_] [.l .p01 (.k 60)] .p01 (.k 64) [] rfl h2)) ?_) (Wk.same h);rw[kh,lU]
noncomputable def s71(vs:List PV)(σ:Sto)(Q:KV):Prop:=∃(m d a:Nat) (ms:List Nat) (bv:PV) (p0 pos:Int),vs=[.obj m,.obj a,.int pos]∧σ m=some (.inst 3 [(12,.obj d)])∧σ d=some (.dict (cA 0 ms))∧ms.length<59∧σ a=some (cL ((ms.length:Nat)+1) bv p0)∧
 Q .none ((σ.set d (.dict (cA 0 (ms++[a])))).set a (cL ((ms.length:Nat)+1) bv pos))
theorem k71(h:s71 vs σ Q):Bd Sx 3 b71 0 vs σ Q:=by
 obtain⟨m,d,a,ms,bv,p0,pos,rfl,h0,h1,h2,h3,h⟩:=h;have had:a≠d:=fun e=>by subst e;rw[h1]at h3;cases h3
 have hsn:=kg ms 0 a;rw[Nat.zero_add]at hsn;rw[hsn]at h;exact⟨rfl,C7 (aa rfl) (aE (aa rfl) h0 rfl) (aE (aa rfl) h3 rfl) h1 (iY ms 0 _ (by exact lz [_] [] [] (.a (.a .k0 .x0) .k1) .p01 [] rfl)) (by rw[iB];exact Nat.lt_trans h2 (Nat.lt_of_lt_of_le (by decide) (Nat.le_of_ble_eq_true (rfl:Nat.ble 60 big=true)))) (dC (aa rfl) (aa rfl) ((an had).trans h3) rfl rfl (x_n (Wk.same h)))⟩
noncomputable def kK(s e p:Nat):Nat:=if s<p then p+(e-s)else p
noncomputable def tI(s e p:Nat):Nat:=if e<p then p-(e-s)else if s<p then s else p
noncomputable def sO(s e n p:Nat):Nat:=if e≤p then p+n-(e-s)else if s<p then s else p
noncomputable def s74(vs:List PV)(σ:Sto)(Q:KV):Prop:=∃(m d b:Nat) (ms ps:List Nat) (s e:Nat),vs=[.obj m,.int s,.int e,.bool false]∧MA σ m d b ms ps∧s≤e∧∀σ',MA σ' m d b ms (ps.map (kK s e))→Fr (·∈ms) σ σ'→Q .none σ'
theorem y8{m d b s e:Nat}{ms ps:List Nat}(M:MA σ m d b ms ps)(h1:s≤e)(h:∀σ',MA σ' m d b ms (ps.map (kK s e))→Fr (·∈ms) σ σ'→Q .none σ'):s74 [.obj m,.int s,.int e,.bool false] σ Q:=⟨m,d,b,ms,ps,s,e,rfl,M,h1,h⟩
theorem k74(h70:Sx 70=s70)(h:s74 vs σ Q):Bd Sx 4 b74 2 vs σ Q:=by
 obtain⟨m,d,b,ms,ps,s,e,rfl,M,h1,h⟩:=h;refine⟨rfl,t0 (gy (aa rfl) M.hm rfl aD rfl h70 fun Q w=>p7 M.hm M.hd M.sz w) (m5 (kK s e) (fun x y=>[.obj m,.int s,.int e,.bool false,x,y]) M .undef .undef (fun k a p τ x y K ha hm hd hA hK=>?_) fun τ x y M' F=>x_q (x_n (Wk.same (h τ M' F))))⟩;have hf:=eU ms 0 k a ha;rw[Nat.zero_add]at hf
 have:=hK (.int (k+1)) (.obj a);refine t_v rfl (x_a (vN (aE (aa rfl) hm rfl) hd (aa rfl) hf) rfl (f8 (pK (n:=5) rfl hA rfl) (fun q=>?_) fun q=>x_n ?_))
 ·have q:s<p:=Int.ofNat_lt.mp ((Bool.or_eq_true_iff.mp q).elim of_decide_eq_true fun z=>by rw[Bool.and_eq_true_iff]at z;cases z.2);rw[show kK s e p=p+(e-s)from if_pos q]at this;exact dC (ay (aT (ev_add (pK (n:=5) rfl hA rfl) (aa rfl)) (aa rfl)) (congrArg PV.int (show(p:Int)+e-s=((p+(e-s):Nat):Int) by exact lze [_,_,_,_] [] [.f (.a .x3 .x0) .x1,.e (.a .x3 .x0) .x1] (.d (.a .x2 .x1) .x0) (.a .x2 .x3) [1,0] [0] rfl rfl (ie (su h1)) (ie (su h1))))) (aa rfl) hA rfl rfl (x_z (x_n this))
 ·rw[show kK s e p=p from if_neg fun z=>of_decide_eq_false (Bool.or_eq_false_iff.mp q).1 (Int.ofNat_lt.mpr z),gQ hA]at this;exact this
noncomputable def s75(vs:List PV)(σ:Sto)(Q:KV):Prop:=∃(m d b:Nat) (ms ps:List Nat) (s e:Nat),vs=[.obj m,.int s,.int e]∧MA σ m d b ms ps∧s≤e∧∀σ',MA σ' m d b ms (ps.map (tI s e))→Fr (·∈ms) σ σ'→Q .none σ'
theorem y7{m d b s e:Nat}{ms ps:List Nat}(M:MA σ m d b ms ps)(h1:s≤e)(h:∀σ',MA σ' m d b ms (ps.map (tI s e))→Fr (·∈ms) σ σ'→Q .none σ'):s75 [.obj m,.int s,.int e] σ Q:=⟨m,d,b,ms,ps,s,e,rfl,M,h1,h⟩
theorem k75(h70:Sx 70=s70)(h:s75 vs σ Q):Bd Sx 3 b75 2 vs σ Q:=by
 obtain⟨m,d,b,ms,ps,s,e,rfl,M,h1,h⟩:=h;refine⟨rfl,t0 (gy (aa rfl) M.hm rfl aD rfl h70 fun Q w=>p7 M.hm M.hd M.sz w) (m5 (tI s e) (fun x y=>[.obj m,.int s,.int e,x,y]) M .undef .undef (fun k a p τ x y K ha hm hd hA hK=>?_) fun τ x y M' F=>x_q (x_n (Wk.same (h τ M' F))))⟩;have hf:=eU ms 0 k a ha;rw[Nat.zero_add]at hf
 have:=hK (.int (k+1)) (.obj a);unfold tI at this;refine t_v rfl (x_a (vN (aE (aa rfl) hm rfl) hd (aa rfl) hf) rfl (x_i (pK (n:=4) rfl hA rfl) (fun q=>?_) fun q=>f8 (pK (n:=4) rfl hA rfl) (fun q2=>?_) fun q2=>x_z (x_n ?_)))
 ·have q:=Int.ofNat_lt.mp (of_decide_eq_true q);rw[if_pos q]at this;exact dC (ay (aT (pK (n:=4) rfl hA rfl) (aT (aa rfl) (aa rfl))) (congrArg PV.int (show(p:Int)-(e-s)=((p-(e-s):Nat):Int) by exact lze [_,_,_,_,_] [] [.f (.a .x3 .x4) .x2,.e (.a .x4 .x0) .x1,.e (.a .x3 .x4) .x2,.f (.a .x4 .x0) .x1] (.d .x2 (.d .x1 .x0)) .x3 [1,1,0,0] [0,0] rfl rfl (ie (su (ln [_,_,_] [.l .p01 .x1,.l .x2 .x0] .x2 .x1 [] rfl q sb))) (ie (su h1)) (ie (su (ln [_,_,_] [.l .p01 .x1,.l .x2 .x0] .x2 .x1 [] rfl q sb))) (ie (su h1))))) (aa rfl) hA rfl rfl (x_z (x_n this))
 all_goals rw[if_neg fun z=>of_decide_eq_false q (Int.ofNat_lt.mpr z)]at this
 ·rw[if_pos (Int.ofNat_lt.mp (of_decide_eq_true q2))]at this;exact dC (aa rfl) (aa rfl) hA rfl rfl (x_z (x_z (x_n this)))
 ·rw[if_neg fun z=>of_decide_eq_false q2 (Int.ofNat_lt.mpr z),gQ hA]at this;exact this
noncomputable def s76(vs:List PV)(σ:Sto)(Q:KV):Prop:=∃(m d b:Nat) (ms ps:List Nat) (s e n:Nat),vs=[.obj m,.int s,.int e,.int n]∧MA σ m d b ms ps∧s≤e∧∀σ',MA σ' m d b ms (ps.map (sO s e n))→Fr (·∈ms) σ σ'→Q .none σ'
theorem yZ{m d b s e n:Nat}{ms ps:List Nat}(M:MA σ m d b ms ps)(h1:s≤e)(h:∀σ',MA σ' m d b ms (ps.map (sO s e n))→Fr (·∈ms) σ σ'→Q .none σ'):s76 [.obj m,.int s,.int e,.int n] σ Q:=⟨m,d,b,ms,ps,s,e,n,rfl,M,h1,h⟩
theorem k76(h70:Sx 70=s70)(h:s76 vs σ Q):Bd Sx 4 b76 2 vs σ Q:=by
 obtain⟨m,d,b,ms,ps,s,e,n,rfl,M,h1,h⟩:=h;refine⟨rfl,t0 (gy (aa rfl) M.hm rfl aD rfl h70 fun Q w=>p7 M.hm M.hd M.sz w) (m5 (sO s e n) (fun x y=>[.obj m,.int s,.int e,.int n,x,y]) M .undef .undef (fun k a p τ x y K ha hm hd hA hK=>?_) fun τ x y M' F=>x_q (x_n (Wk.same (h τ M' F))))⟩;have hf:=eU ms 0 k a ha;rw[Nat.zero_add]at hf
 have:=hK (.int (k+1)) (.obj a);unfold sO at this;refine t_v rfl (x_a (vN (aE (aa rfl) hm rfl) hd (aa rfl) hf) rfl (x_i (pK (n:=5) rfl hA rfl) (fun q=>?_) fun q=>f8 (pK (n:=5) rfl hA rfl) (fun q2=>?_) fun q2=>x_z (x_n ?_)))
 ·have q:=Int.ofNat_le.mp (of_decide_eq_true q);rw[if_pos q]at this;exact dC (ay (aT (ev_add (pK (n:=5) rfl hA rfl) (aa rfl)) (aT (aa rfl) (aa rfl))) (congrArg PV.int (show(p:Int)+n-(e-s)=((p+n-(e-s):Nat):Int) by exact lze [_,_,_,_,_,_] [] [.f (.a .x4 .x5) (.a .x2 .x3),.e (.a .x5 .x0) .x1,.e (.a .x4 .x5) (.a .x2 .x3),.f (.a .x5 .x0) .x1] (.d (.a .x2 .x3) (.d .x1 .x0)) .x4 [1,1,0,0] [0,0] rfl rfl (ie (su (ln [_,_,_,_] [.l .x0 .x1,.l .x3 .x0] .x3 (.a .x1 .x2) [] rfl q sb))) (ie (su h1)) (ie (su (ln [_,_,_,_] [.l .x0 .x1,.l .x3 .x0] .x3 (.a .x1 .x2) [] rfl q sb))) (ie (su h1))))) (aa rfl) hA rfl rfl (x_z (x_n this))
 all_goals rw[if_neg fun z=>of_decide_eq_false q (Int.ofNat_le.mpr z)]at this
 ·rw[if_pos (Int.ofNat_lt.mp (of_decide_eq_true q2))]at this;exact dC (aa rfl) (aa rfl) hA rfl rfl (x_z (x_z (x_n this)))
 ·rw[if_neg fun z=>of_decide_eq_false q2 (Int.ofNat_lt.mpr z),gQ hA]at this;exact this
end
end Mine
end
section
namespace Mine
structure BX where
 b:Nat
 t:Nat
 c:Nat
 m:Nat
 d:Nat
 ms:List Nat
noncomputable def inX(X:BX)(a:Nat):Prop:=a=X.b∨a=X.t∨a=X.c∨a=X.m∨a=X.d∨a∈X.ms
noncomputable def db(t m:Nat)(point zv:Nat)(tk ctk:Int):cb:=.inst 4 [(8,.int 1),(13,.str 4),(14,.obj t),(15,.obj m),(16,.int point),(17,.int 1),(18,.int zv),(19,.none),(20,.bool true),(21,.bool false),(22,.int tk),(23,.int ctk),(24,.int 1),(25,eI []),
 (26,.none),(27,.none),(28,.none),(29,.none),(30,.none),(31,.none)]
structure BZ(σ:Sto)(X:BX)(text:List Int)(point zv:Nat)(tk ctk:Int)(ps:List Nat):Prop where
 hb:σ X.b=some (db X.t X.m point zv tk ctk)
 hg:∃pre gap post,GA σ X.t X.c pre gap post∧pre++post=text
 hm:MA σ X.m X.d X.b X.ms ps
 nd:(X.b::X.t::X.c::X.m::X.d::X.ms).Nodup
section
variable {σ σ':Sto} {X:BX} {text:List Int} {point zv:Nat} {tk ctk:Int} {ps:List Nat}
theorem BZ.ne(B:BZ σ X text point zv tk ctk ps):(X.b≠X.t∧X.b≠X.c∧X.b≠X.m∧X.b≠X.d∧X.b∉X.ms)∧(X.t≠X.c∧X.t≠X.m∧X.t≠X.d∧X.t∉X.ms)∧(X.c≠X.m∧X.c≠X.d∧X.c∉X.ms):=by
 have:=B.nd;simp only[List.nodup_cons,List.mem_cons,not_or]at this;obtain⟨h1,h2,h3,_⟩:=this;exact⟨h1,h2,h3⟩
theorem BZ.gFr(B:BZ σ X text point zv tk ctk ps)(F:Fr (gtc X.t X.c) σ σ'){pre gap post:List Int}(G:GA σ' X.t X.c pre gap post):BZ σ' X (pre++post) point zv tk ctk ps:=by
 obtain⟨⟨a1,a2,a3,a4,a5⟩,⟨b1,b2,b3,b4⟩,⟨c1,c2,c3⟩⟩:=B.ne;refine⟨(F _ ?_).trans B.hb,⟨pre,gap,post,G,rfl⟩,B.hm.fr F ?_ ?_ ?_,B.nd⟩
 ·rintro(e|e);exact a1 e;exact a2 e
 ·rintro(e|e);exact b2 e.symm;exact c1 e.symm
 ·rintro(e|e);exact b3 e.symm;exact c2 e.symm
 ·rintro a ha (e|e)
  ·exact b4 (e▸ha)
  ·exact c3 (e▸ha)
theorem BZ.bSet(B:BZ σ X text point zv tk ctk ps)(point' zv':Nat)(tk' ctk':Int):BZ (σ.set X.b (db X.t X.m point' zv' tk' ctk')) X text point' zv' tk' ctk' ps:=by
 obtain⟨⟨a1,a2,a3,a4,a5⟩,⟨b1,b2,b3,b4⟩,⟨c1,c2,c3⟩⟩:=B.ne;obtain⟨pre,gap,post,G,e⟩:=B.hg;have F:Fr (· = X.b) σ (σ.set X.b (db X.t X.m point' zv' tk' ctk')):=Fr.refl.set rfl;exact⟨af,⟨pre,gap,post,⟨(F _ (Ne.symm a1)).trans G.ht,(F _ (Ne.symm a2)).trans G.hc,G.ne,G.sz⟩,e⟩,B.hm.fr F (Ne.symm a3) (Ne.symm a4) (fun a ha e=>a5 (e▸ha)),B.nd⟩
theorem BZ.mFr{ps':List Nat}(B:BZ σ X text point zv tk ctk ps)(F:Fr (·∈X.ms) σ σ')(M:MA σ' X.m X.d X.b X.ms ps'):BZ σ' X text point zv tk ctk ps':=by
 obtain⟨⟨a1,a2,a3,a4,a5⟩,⟨b1,b2,b3,b4⟩,⟨c1,c2,c3⟩⟩:=B.ne;obtain⟨pre,gap,post,G,e⟩:=B.hg;exact⟨(F _ a5).trans B.hb,⟨pre,gap,post,⟨(F _ b4).trans G.ht,(F _ c3).trans G.hc,G.ne,G.sz⟩,e⟩,M,B.nd⟩
theorem BZ.fr{A:Nat→Prop}(B:BZ σ X text point zv tk ctk ps)(F:Fr A σ σ')(h:∀a,inX X a→¬A a):BZ σ' X text point zv tk ctk ps:=by
 obtain⟨pre,gap,post,G,e⟩:=B.hg;exact⟨(F _ (h _ (.inl rfl))).trans B.hb,⟨pre,gap,post,⟨(F _ (h _ (.inr (.inl rfl)))).trans G.ht,(F _ (h _ (.inr (.inr (.inl rfl))))).trans G.hc,G.ne,G.sz⟩,e⟩,
  B.hm.fr F (h _ (.inr (.inr (.inr (.inl rfl))))) (h _ (.inr (.inr (.inr (.inr (.inl rfl)))))) (fun a ha=>h a (.inr (.inr (.inr (.inr (.inr ha)))))),B.nd⟩
theorem jE:∀a,gtc X.t X.c a→inX X a:=fun a h=>h.elim (fun e=>.inr (.inl e)) (fun e=>.inr (.inr (.inl e)))
theorem m0:∀a,a∈X.ms→inX X a:=fun a h=>.inr (.inr (.inr (.inr (.inr h))))
end
section
variable {Sx:Spec} {σ:Sto} {Q:KV} {vs:List PV}
noncomputable def s80(vs:List PV)(σ:Sto)(Q:KV):Prop:=∃(b t m point zv:Nat) (tk ctk:Int),vs=[.obj b]∧σ b=some (db t m point zv tk ctk)∧Q (.int 1) σ
theorem yX{b t m point zv:Nat}{tk ctk:Int}(h0:σ b=some (db t m point zv tk ctk))(h:Q (.int 1) σ):s80 [.obj b] σ Q:=⟨b,t,m,point,zv,tk,ctk,rfl,h0,h⟩
theorem k80(h:s80 vs σ Q):Bd Sx 1 b80 0 vs σ Q:=by
 obtain⟨b,t,m,point,zv,tk,ctk,rfl,h0,h⟩:=h;exact⟨rfl,x_r (p0 h0 rfl) (Wk.same h)⟩
noncomputable def s81(vs:List PV)(σ:Sto)(Q:KV):Prop:=∃(b t m point zv:Nat) (tk ctk:Int),vs=[.obj b]∧σ b=some (db t m point zv tk ctk)∧Q (.int zv) σ
theorem yW{b t m point zv:Nat}{tk ctk:Int}(h0:σ b=some (db t m point zv tk ctk))(h:Q (.int zv) σ):s81 [.obj b] σ Q:=⟨b,t,m,point,zv,tk,ctk,rfl,h0,h⟩
theorem k81(h:s81 vs σ Q):Bd Sx 1 b81 0 vs σ Q:=by
 obtain⟨b,t,m,point,zv,tk,ctk,rfl,h0,h⟩:=h;exact⟨rfl,x_r (p0 h0 rfl) (Wk.same h)⟩
noncomputable def s82(vs:List PV)(σ:Sto)(Q:KV):Prop:=∃X text point zv tk ctk ps,vs=[.obj X.b]∧BZ σ X text point zv tk ctk ps∧Q (.int text.length) σ
theorem p6{X:BX}{text:List Int}{point zv:Nat}{tk ctk:Int}{ps:List Nat}(B:BZ σ X text point zv tk ctk ps)(h:Q (.int text.length) σ):s82 [.obj X.b] σ Q:=⟨X,text,point,zv,tk,ctk,ps,rfl,B,h⟩
theorem k82(h52:Sx 52=s52)(h:s82 vs σ Q):Bd Sx 1 b82 0 vs σ Q:=by
 obtain⟨X,text,point,zv,tk,ctk,ps,rfl,B,h⟩:=h;obtain⟨pre,gap,post,G,e⟩:=B.hg;exact⟨rfl,x_R (y_m (p0 B.hb rfl) G.ht rfl aD rfl h52 (zi G (e▸Wk.same h)))⟩
noncomputable def s83(vs:List PV)(σ:Sto)(Q:KV):Prop:=∃X text point tk ctk ps,∃(p:Nat) (x:Int),vs=[.obj X.b,.int p]∧BZ σ X text point (text.length+1) tk ctk ps∧1≤p∧text[p-1]? = some x∧Q (.int x) σ
theorem uv{X:BX}{text:List Int}{point:Nat}{tk ctk:Int}{ps:List Nat}{p:Nat}{x:Int}(B:BZ σ X text point (text.length+1) tk ctk ps)(h1:1≤p)(h2:text[p-1]? = some x)(h:Q (.int x) σ):s83 [.obj X.b,.int p] σ Q:=⟨X,text,point,tk,ctk,ps,p,x,rfl,B,h1,h2,h⟩
theorem k83(h53:Sx 53=s53)(h:s83 vs σ Q):Bd Sx 2 b83 0 vs σ Q:=by
 obtain⟨X,text,point,tk,ctk,ps,p,x,rfl,B,h1,h2,h⟩:=h;obtain⟨pre,gap,post,G,e⟩:=B.hg;have hl:=(List.getElem?_eq_some_iff.mp h2).1;exact⟨rfl,cE (p0 B.hb rfl) (Bool.or_eq_false_iff.mpr ⟨decide_eq_false (by exact fun zz=>lzf [_] [] _ [.l .k1 .x0,.l .p01 .k1] [] rfl (il h1) zz),decide_eq_false (by exact fun zz=>lzf [_,_,_] [] _ [.l .p11 .x2,.l .p21 .x0,.f .p11 .x0] [] rfl (il hl) zz (ie (su h1)))⟩) (x_R (y_m (p0 B.hb rfl) G.ht rfl (ae (pi rfl (show(p:Int)-1=((p-1:Nat):Int) by exact lze [_,_] [] [.f .p11 .x0,.e .p11 .x0] (.d .x0 .k1) .x1 [1,0] [0] rfl rfl (ie (su h1)) (ie (su h1)))) aD) rfl h53 (zg G (by rw[e];exact h2) (Wk.same h))))⟩
noncomputable def s84(vs:List PV)(σ:Sto)(Q:KV):Prop:=∃X text point zv tk ctk ps,∃(s e:Nat),vs=[.obj X.b,.int s,.int e]∧BZ σ X text point zv tk ctk ps∧1≤s∧s≤e∧e≤text.length+1∧Q (eI (sub text (s-1) (e-1))) σ
theorem mS{X:BX}{text:List Int}{point zv:Nat}{tk ctk:Int}{ps:List Nat}{s e:Nat}(B:BZ σ X text point zv tk ctk ps)(h1:1≤s)(h2:s≤e)(h3:e≤text.length+1)(h:Q (eI (sub text (s-1) (e-1))) σ):s84 [.obj X.b,.int s,.int e] σ Q:=⟨X,text,point,zv,tk,ctk,ps,s,e,rfl,B,h1,h2,h3,h⟩
theorem k84(h54:Sx 54=s54)(h:s84 vs σ Q):Bd Sx 3 b84 0 vs σ Q:=by
 obtain⟨X,text,point,zv,tk,ctk,ps,s,e,rfl,B,h1,h2,h3,h⟩:=h;obtain⟨pre,gap,post,G,he⟩:=B.hg;exact⟨rfl,x_R (y_m (p0 B.hb rfl) G.ht rfl (ae (pi rfl (show(s:Int)-1=((s-1:Nat):Int) by exact lze [_,_] [] [.f .p11 .x0,.e .p11 .x0] (.d .x0 .k1) .x1 [1,0] [0] rfl rfl (ie (su h1)) (ie (su h1)))) (ae (pi rfl (show(e:Int)-1=((e-1:Nat):Int) by exact lze [_,_] [] [.f .p11 .x0,.e .p11 .x0] (.d .x0 .k1) .x1 [1,0] [0] rfl rfl (ie (su (ln [_,_] [.l .k1 .x0,.l .x0 .x1] .k1 .x1 [] rfl h1 h2))) (ie (su (ln [_,_] [.l .k1 .x0,.l .x0 .x1] .k1 .x1 [] rfl h1 h2))))) aD)) rfl h54 (uy G (by exact ln [_,_,_,_] [.l .x0 .x1,.e .p21 .x0,.f .p31 .x1] .x2 .x3 [] rfl h2 (su h1) (su (ln [_,_] [.l .k1 .x0,.l .x0 .x1] .k1 .x1 [] rfl h1 h2))) (by rw[he];exact ln [_,_,_] [.l .x0 .p11,.e .p21 .x0] .x2 .x1 [] rfl h3 (su (ln [_,_] [.l .k1 .x0,.l .x0 .x1] .k1 .x1 [] rfl h1 h2))) (he▸Wk.same h)))⟩
noncomputable def s89(vs:List PV)(σ:Sto)(Q:KV):Prop:=∃(b t m point zv:Nat) (tk ctk:Int),vs=[.obj b,.bool true]∧σ b=some (db t m point zv tk ctk)∧Q .none (σ.set b (db t m point zv (tk+1) (tk+1)))
theorem yV{b t m point zv:Nat}{tk ctk:Int}(h0:σ b=some (db t m point zv tk ctk))(h:Q .none (σ.set b (db t m point zv (tk+1) (tk+1)))):s89 [.obj b,.bool true] σ Q:=⟨b,t,m,point,zv,tk,ctk,rfl,h0,h⟩
theorem k89(h:s89 vs σ Q):Bd Sx 2 b89 0 vs σ Q:=by
 obtain⟨b,t,m,point,zv,tk,ctk,rfl,h0,h⟩:=h;exact⟨rfl,dC (p0 h0 rfl) (aa rfl) h0 rfl rfl (yJ (aa rfl) rfl (dR (p0 af rfl) (aa rfl) rfl rfl (x_n (x_q (x_n (Wk.same h))))))⟩
noncomputable def s2(vs:List PV)(σ:Sto)(Q:KV):Prop:=∃(b t m point zv:Nat) (tk ctk:Int),vs=[.obj b]∧σ b=some (db t m point zv tk ctk)∧Q .none σ
theorem uF{b t m point zv:Nat}{tk ctk:Int}(h0:σ b=some (db t m point zv tk ctk))(h:Q .none σ):s2 [.obj b] σ Q:=⟨b,t,m,point,zv,tk,ctk,rfl,h0,h⟩
theorem k2(h:s2 vs σ Q):Bd Sx 1 b2 0 vs σ Q:=by
 obtain⟨b,t,m,point,zv,tk,ctk,rfl,h0,h⟩:=h;exact⟨rfl,cE (p0 h0 rfl) rfl (x_n (Wk.same h))⟩
noncomputable def s3(vs:List PV)(σ:Sto)(Q:KV):Prop:=∃X text point zv tk ctk ps,∃g:Int,vs=[.obj X.b,.int g]∧BZ σ X text point zv tk ctk ps∧text.length+g≤4194304∧Q .none σ
theorem ye{X:BX}{text:List Int}{point zv:Nat}{tk ctk:Int}{ps:List Nat}{g:Int}(B:BZ σ X text point zv tk ctk ps)(h1:text.length+g≤4194304)(h:Q .none σ):s3 [.obj X.b,.int g] σ Q:=⟨X,text,point,zv,tk,ctk,ps,g,rfl,B,h1,h⟩
theorem k3(h82:Sx 82=s82)(h:s3 vs σ Q):Bd Sx 2 b3 0 vs σ Q:=by
 obtain⟨X,text,point,zv,tk,ctk,ps,g,rfl,B,h1,h⟩:=h;exact⟨rfl,cE (fv (ev_add (gy (aa rfl) B.hb rfl aD rfl h82 fun Q q=>p6 B q) (aa rfl)) (fh rfl)) (decide_eq_false (Int.not_lt.mpr h1)) (x_n (Wk.same h))⟩
noncomputable def s4(vs:List PV)(σ:Sto)(Q:KV):Prop:=∃(b t m point zv:Nat) (tk ctk:Int) (s e:Nat),vs=[.obj b,.int s,.int e]∧σ b=some (db t m point zv tk ctk)∧1≤s∧1≤e∧s≤zv∧e≤zv∧Q (.tup [.int (min s e:Nat),.int (max s e:Nat)]) σ
theorem rA{b t m point zv s e:Nat}{tk ctk:Int}(h0:σ b=some (db t m point zv tk ctk))(h1:1≤s)(h2:1≤e)(h3:s≤zv)(h4:e≤zv)(h:Q (.tup [.int (min s e:Nat),.int (max s e:Nat)]) σ):s4 [.obj b,.int s,.int e] σ Q:=⟨b,t,m,point,zv,tk,ctk,s,e,rfl,h0,h1,h2,h3,h4,h⟩
theorem k4(h:s4 vs σ Q):Bd Sx 3 b4 2 vs σ Q:=by
 obtain⟨b,t,m,point,zv,tk,ctk,s,e,rfl,h0,h1,h2,h3,h4,h⟩:=h;have e1:min (s:Int) e=((min s e:Nat):Int):=B9 s e;have e2:max (s:Int) e=((max s e:Nat):Int):=Ca s e;refine⟨rfl,C5 (gz (ae (ay (qI (aa rfl) (aa rfl)) (congrArg PV.int e1)) (ae (ay (qJ (aa rfl) (aa rfl)) (congrArg PV.int e2)) aD)) rfl) (cE (p0 h0 rfl) ?_ (x_r (gz (pa rfl) rfl) (Wk.same h)))⟩;exact Bool.or_eq_false_iff.mpr ⟨decide_eq_false (Int.not_lt.mpr (Int.ofNat_le.mpr (Nat.le_min.mpr ⟨h1,h2⟩))),decide_eq_false (Int.not_lt.mpr (Int.ofNat_le.mpr (Nat.max_le.mpr ⟨h3,h4⟩)))⟩
noncomputable def s5(vs:List PV)(σ:Sto)(Q:KV):Prop:=∃(b t m point zv:Nat) (tk ctk:Int) (x y:PV),vs=[.obj b,x,y]∧σ b=some (db t m point zv tk ctk)∧Q .none σ
theorem ux{b t m point zv:Nat}{tk ctk:Int}{x y:PV}(h0:σ b=some (db t m point zv tk ctk))(h:Q .none σ):s5 [.obj b,x,y] σ Q:=⟨b,t,m,point,zv,tk,ctk,x,y,rfl,h0,h⟩
theorem k5(h:s5 vs σ Q):Bd Sx 3 b5 1 vs σ Q:=by
 obtain⟨b,t,m,point,zv,tk,ctk,x,y,rfl,h0,h⟩:=h;exact⟨rfl,t0 (l:=[]) (vO (f:=PV.int) (p0 h0 rfl)) (x_q (x_n (Wk.same h)))⟩
noncomputable def s6(vs:List PV)(σ:Sto)(Q:KV):Prop:=∃(b t m point zv:Nat) (tk ctk:Int) (x y z:PV),vs=[.obj b,x,y,z]∧σ b=some (db t m point zv tk ctk)∧Q .none (σ.set b (db t m point zv (tk+1) (tk+1)))
theorem uw{b t m point zv:Nat}{tk ctk:Int}{x y z:PV}(h0:σ b=some (db t m point zv tk ctk))(h:Q .none (σ.set b (db t m point zv (tk+1) (tk+1)))):s6 [.obj b,x,y,z] σ Q:=⟨b,t,m,point,zv,tk,ctk,x,y,z,rfl,h0,h⟩
theorem k6(h89:Sx 89=s89)(h:s6 vs σ Q):Bd Sx 4 b6 1 vs σ Q:=by
 obtain⟨b,t,m,point,zv,tk,ctk,x,y,z,rfl,h0,h⟩:=h;exact⟨rfl,x_E (y_m (aa rfl) h0 rfl (pa rfl) rfl h89 (yV h0 (t0 (l:=[]) (vO (f:=PV.int) (p0 af rfl)) (x_q (x_n (Wk.same h))))))⟩
noncomputable def s9(vs:List PV)(σ:Sto)(Q:KV):Prop:=∃(b t m point zv:Nat) (tk ctk:Int) (x y:PV),vs=[.obj b,x,y]∧σ b=some (db t m point zv tk ctk)∧Q .none σ
theorem yb{b t m point zv:Nat}{tk ctk:Int}{x y:PV}(h0:σ b=some (db t m point zv tk ctk))(h:Q .none σ):s9 [.obj b,x,y] σ Q:=⟨b,t,m,point,zv,tk,ctk,x,y,rfl,h0,h⟩
theorem k9(h:s9 vs σ Q):Bd Sx 3 b9 0 vs σ Q:=by
 obtain⟨b,t,m,point,zv,tk,ctk,x,y,rfl,h0,h⟩:=h;exact⟨rfl,cE (gC (p0 h0 rfl)) rfl (cE (gC (p0 h0 rfl)) rfl (x_n (Wk.same h)))⟩
noncomputable def s10(vs:List PV)(σ:Sto)(Q:KV):Prop:=∃(b t m point zv:Nat) (tk ctk:Int) (x y z:PV),vs=[.obj b,x,y,z]∧σ b=some (db t m point zv tk ctk)∧Q .none σ
theorem uI{b t m point zv:Nat}{tk ctk:Int}{x y z:PV}(h0:σ b=some (db t m point zv tk ctk))(h:Q .none σ):s10 [.obj b,x,y,z] σ Q:=⟨b,t,m,point,zv,tk,ctk,x,y,z,rfl,h0,h⟩
theorem k10(h:s10 vs σ Q):Bd Sx 4 b10 0 vs σ Q:=by
 obtain⟨b,t,m,point,zv,tk,ctk,x,y,z,rfl,h0,h⟩:=h;exact⟨rfl,cE (gC (p0 h0 rfl)) rfl (cE (gC (p0 h0 rfl)) rfl (x_n (Wk.same h)))⟩
end
end Mine
end
section
namespace Mine
noncomputable def dx(s e n p:Nat):Nat:=if p≤s then p else if e≤p then p+n-(e-s)else s
structure St where
 text:List Int
 point:Nat
 ps:List Nat
 tk:Int
 ctk:Int
noncomputable abbrev BA(σ:Sto)(X:BX)(S:St):Prop:=BZ σ X S.text S.point (S.text.length+1) S.tk S.ctk S.ps
noncomputable def c9(text:List Int)(s e:Nat)(cs:List Int):List Int:=text.take (s-1)++cs++text.drop (e-1)
noncomputable def er(s e:Nat)(cs:List Int)(S:St):St:=
 if s=e∧cs=[]then S else⟨c9 S.text s e cs,dx s e cs.length S.point,S.ps.map (dx s e cs.length),S.tk+1,S.tk+1⟩
section
variable {Sx:Spec} {σ:Sto} {Q:KV} {vs:List PV}
noncomputable def lE(s e p:Nat):Nat:=if s<p then max s (p+s-e)else p
noncomputable def s7(vs:List PV)(σ:Sto)(Q:KV):Prop:=∃X text point zv tk ctk ps,∃(s e:Nat),vs=[.obj X.b,.int s,.int e]∧BZ σ X text point zv tk ctk ps∧1≤s∧s≤e∧e≤text.length+1∧e≤zv∧
 ∀σ' gone,BZ σ' X (text.take (s-1)++text.drop (e-1)) (lE s e point) (zv-(e-s)) tk ctk ps→Fr (inX X) σ σ'→Q (eI gone) σ'
theorem yd{X:BX}{text:List Int}{point zv:Nat}{tk ctk:Int}{ps:List Nat}{s e:Nat}(B:BZ σ X text point zv tk ctk ps)(h1:1≤s)(h2:s≤e)(h3:e≤text.length+1)(h4:e≤zv)
  (h:∀σ' gone,BZ σ' X (text.take (s-1)++text.drop (e-1)) (lE s e point) (zv-(e-s)) tk ctk ps→Fr (inX X) σ σ'→Q (eI gone) σ'):s7 [.obj X.b,.int s,.int e] σ Q:=⟨X,text,point,zv,tk,ctk,ps,s,e,rfl,B,h1,h2,h3,h4,h⟩
theorem uS{s e p:Nat}(h:s<p):max (s:Int) (p-(e-s))=(lE s e p:Nat):=by
 rw[show lE s e p=max s (p+s-e)from if_pos h];rcases Nat.le_total e (p+s)with q|q
 ·rw[show(p:Int)-(e-s)=((p+s-e:Nat):Int) by exact lze [_,_,_,_] [] [.f (.a .x3 .x2) (.a .x1 .x0),.e (.a .x3 .x2) (.a .x1 .x0)] (.d .x1 (.d .x2 .x0)) .x3 [1,0] [0] rfl rfl (ie (su q)) (ie (su q))];exact Ca _ _
 ·rw[Int.max_eq_left (by exact lz [_,_,_] [] [.l (.a .x1 .x0) .x2] (.d .x1 (.d .x2 .x0)) .x0 [] rfl (il q)),Nat.max_eq_left (by exact ln [_,_] [.e .x1 .k0] .x1 .x0 [] rfl (Nat.sub_eq_zero_of_le q))]
theorem k7(h58:Sx 58=s58)(h:s7 vs σ Q):Bd Sx 3 b7 1 vs σ Q:=by
 obtain⟨X,text,point,zv,tk,ctk,ps,s,e,rfl,B,h1,h2,h3,h4,h⟩:=h;obtain⟨pre,gap,post,G,he⟩:=B.hg;have hl:=congrArg List.length he;rw[List.length_append]at hl;have hz:(zv:Int)-(e-s)=((zv-(e-s):Nat):Int):=by exact lze [_,_,_,_,_] [] [.f (.a .x3 .x4) .x2,.e (.a .x4 .x0) .x1,.e (.a .x3 .x4) .x2,.f (.a .x4 .x0) .x1] (.d .x2 (.d .x1 .x0)) .x3 [1,1,0,0] [0,0] rfl rfl (ie (su (ln [_,_,_] [.l .x0 .x1,.l .x2 .x0] .x2 .x1 [] rfl h4 sb))) (ie (su h2)) (ie (su (ln [_,_,_] [.l .x0 .x1,.l .x2 .x0] .x2 .x1 [] rfl h4 sb))) (ie (su h2))
 refine⟨rfl,cE (gC (p0 B.hb rfl)) rfl (x_A (y_m (p0 B.hb rfl) G.ht rfl (ae (pi rfl (show(s:Int)-1=((s-1:Nat):Int) by exact lze [_,_] [] [.f .p11 .x0,.e .p11 .x0] (.d .x0 .k1) .x1 [1,0] [0] rfl rfl (ie (su h1)) (ie (su h1)))) (ae (pi rfl (show(e:Int)-1=((e-1:Nat):Int) by exact lze [_,_] [] [.f .p11 .x0,.e .p11 .x0] (.d .x0 .k1) .x1 [1,0] [0] rfl rfl (ie (su (ln [_,_] [.l .k1 .x0,.l .x0 .x1] .k1 .x1 [] rfl h1 h2))) (ie (su (ln [_,_] [.l .k1 .x0,.l .x0 .x1] .k1 .x1 [] rfl h1 h2))))) aD)) rfl h58 (zd G (by exact ln [_,_,_,_] [.l .x0 .x1,.e .p21 .x0,.f .p31 .x1] .x2 .x3 [] rfl h2 (su h1) (su (ln [_,_] [.l .k1 .x0,.l .x0 .x1] .k1 .x1 [] rfl h1 h2))) (by exact ln [_,_,_,_,_] [.l .x0 .p11,.f (.a .x2 .x3) .x1,.e .p41 .x0] .x4 (.a .x2 .x3) [] rfl h3 hl (su (ln [_,_] [.l .k1 .x0,.l .x0 .x1] .k1 .x1 [] rfl h1 h2))) fun σ1 g1 G1 F1=>?_)))⟩;have B1:=B.gFr F1 G1;rw[he]at B1;refine x_s rfl (dC (p0i B1.hb rfl hz) (aa rfl) B1.hb rfl rfl (x_i (p0 af rfl) (fun q=>?_) fun q=>?_))
 ·exact dR (ay (qJ (aa rfl) (p0 af rfl)) (congrArg PV.int (uS (Int.ofNat_lt.mp (of_decide_eq_true q))))) (aa rfl) rfl rfl (x_n (x_q (x_r (aa rfl) (Wk.same (h _ _ (B1.bSet _ _ tk ctk) ((F1.up jE).set (.inl rfl)))))))
 ·have ho:lE s e point=point:=if_neg fun z=>of_decide_eq_false q (Int.ofNat_lt.mpr z)
  rw[ho]at h;exact x_q (x_r (aa rfl) (Wk.same (h _ _ (B1.bSet _ _ tk ctk) ((F1.up jE).set (.inl rfl)))))
noncomputable def inP(s n p:Nat):Nat:=if s<p then p+n else p
noncomputable def s8(vs:List PV)(σ:Sto)(Q:KV):Prop:=∃X text point zv tk ctk ps,∃(p:Nat) (cs:List Int),vs=[.obj X.b,.int p,eI cs]∧BZ σ X text point zv tk ctk ps∧1≤p∧p≤text.length+1∧text.length+cs.length≤cap∧
 ∀σ',BZ σ' X (text.take (p-1)++cs++text.drop (p-1)) (inP p cs.length point) (zv+cs.length) tk ctk ps→Fr (inX X) σ σ'→Q .none σ'
theorem yc{X:BX}{text:List Int}{point zv:Nat}{tk ctk:Int}{ps:List Nat}{p:Nat}{cs:List Int}(B:BZ σ X text point zv tk ctk ps)(h1:1≤p)(h2:p≤text.length+1)(h3:text.length+cs.length≤cap)
  (h:∀σ',BZ σ' X (text.take (p-1)++cs++text.drop (p-1)) (inP p cs.length point) (zv+cs.length) tk ctk ps→Fr (inX X) σ σ'→Q .none σ'):s8 [.obj X.b,.int p,eI cs] σ Q:=⟨X,text,point,zv,tk,ctk,ps,p,cs,rfl,B,h1,h2,h3,h⟩
theorem k8(h57:Sx 57=s57)(h:s8 vs σ Q):Bd Sx 3 b8 0 vs σ Q:=by
 obtain⟨X,text,point,zv,tk,ctk,ps,p,cs,rfl,B,h1,h2,h3,h⟩:=h;obtain⟨pre,gap,post,G,he⟩:=B.hg;have hl:=congrArg List.length he;rw[List.length_append]at hl;refine⟨rfl,cE (gC (p0 B.hb rfl)) rfl (x_E (y_m (p0 B.hb rfl) G.ht rfl (ae (pi rfl (show(p:Int)-1=((p-1:Nat):Int) by exact lze [_,_] [] [.f .p11 .x0,.e .p11 .x0] (.d .x0 .k1) .x1 [1,0] [0] rfl rfl (ie (su h1)) (ie (su h1)))) (ae (aa rfl) aD)) rfl h57 (ze G (by exact ln [_,_,_,_,_] [.l .x0 .p11,.f (.a .x2 .x3) .x1,.e .p41 .x0] .x4 (.a .x2 .x3) [] rfl h2 hl (su h1)) (by exact ln [_,_,_,_,_] [.l (.a .x0 .x1) .x2,.e (.a .x3 .x4) .x0] (.a (.a .x3 .x4) .x1) .x2 [] rfl h3 hl) fun σ1 g1 G1 F1=>?_)))⟩;have B1:=B.gFr F1 G1;rw[he]at B1;refine dC (ev_add (p0 B1.hb rfl) (aw (aa rfl))) (aa rfl) B1.hb rfl rfl (x_i (p0 af rfl) (fun q=>?_) fun q=>?_)
 ·have ho:inP p cs.length point=point+cs.length:=if_pos (Int.ofNat_lt.mp (of_decide_eq_true q));rw[ho]at h;exact dR (ev_add (p0 af rfl) (aw (aa rfl))) (aa rfl) rfl rfl (x_n (x_q (x_n (Wk.same (h _ (B1.bSet (point+cs.length) (zv+cs.length) tk ctk) ((F1.up jE).set (.inl rfl)))))))
 ·have ho:inP p cs.length point=point:=if_neg fun z=>of_decide_eq_false q (Int.ofNat_lt.mpr z)
  rw[ho]at h;exact x_q (x_n (Wk.same (h _ (B1.bSet point (zv+cs.length) tk ctk) ((F1.up jE).set (.inl rfl)))))
noncomputable def s11(vs:List PV)(σ:Sto)(Q:KV):Prop:=∃X S,∃(p:Nat) (cs:List Int) (ipb:Bool),vs=[.obj X.b,.int p,eI cs,.bool false,.bool ipb]∧BA σ X S∧1≤p∧p≤S.text.length+1∧S.text.length+cs.length≤cap∧
 (cs=[]→Q .none σ)∧(cs≠[]→∀σ',BA σ' X ⟨c9 S.text p p cs,if ipb then p+cs.length else inP p cs.length S.point,S.ps.map (kK p (p+cs.length)),S.tk+1,S.tk+1⟩→Fr (inX X) σ σ'→Q .none σ')
theorem uH{X:BX}{S:St}{p:Nat}{cs:List Int}{ipb:Bool}(B:BA σ X S)(h1:1≤p)(h2:p≤S.text.length+1)(h3:S.text.length+cs.length≤cap)(h4:cs=[]→Q .none σ)
  (h:cs≠[]→∀σ',BA σ' X ⟨c9 S.text p p cs,if ipb then p+cs.length else inP p cs.length S.point,S.ps.map (kK p (p+cs.length)),S.tk+1,S.tk+1⟩→Fr (inX X) σ σ'→Q .none σ'):s11 [.obj X.b,.int p,eI cs,.bool false,.bool ipb] σ Q:=⟨X,S,p,cs,ipb,rfl,B,h1,h2,h3,h4,h⟩
theorem ig{text cs:List Int}{s e:Nat}(h1:1≤s)(h2:s≤e)(h3:e≤text.length+1):(c9 text s e cs).length=text.length+cs.length-(e-s):=by
 unfold c9;rw[List.length_append,List.length_append,List.length_take,List.length_drop];exact mc (s-1) (text.length) (fun z0 w0=>lne [_,_,_,_,_,_,_,_,_,_] [.e .x3 (.x 7),.e (.p 7 1) .x0,.f (.p 8 1) .x1,.e (.a (.x 9) .x0) .x1,.e (.a .x5 (.x 8)) .x2,.f (.a .x6 (.x 9)) (.a .x2 .x4),.f .x3 (.x 7),.f (.p 7 1) .x0,.e (.p 8 1) .x1,.f (.a (.x 9) .x0) .x1,.f (.a .x5 (.x 8)) .x2,.e (.a .x6 (.x 9)) (.a .x2 .x4)] (.a (.a .x3 .x4) .x5) .x6 [1,1,1,1,1,1,0,0,0,0,0,0] [0,0,0,0,0,0] rfl rfl w0 (su h1) (su (ln [_,_] [.l .k1 .x0,.l .x0 .x1] .k1 .x1 [] rfl h1 h2)) (su h2) (su (ln [_,_,_] [.l .x0 .p11,.e .p21 .x0] .x2 .x1 [] rfl h3 (su (ln [_,_] [.l .k1 .x0,.l .x0 .x1] .k1 .x1 [] rfl h1 h2)))) (su (ln [_,_,_,_,_] [.l .k1 .x0,.l .x1 .p21,.e (.a .x4 .x0) .x1] .x4 (.a .x2 .x3) [] rfl h1 h3 (su h2))) w0 (su h1) (su (ln [_,_] [.l .k1 .x0,.l .x0 .x1] .k1 .x1 [] rfl h1 h2)) (su h2) (su (ln [_,_,_] [.l .x0 .p11,.e .p21 .x0] .x2 .x1 [] rfl h3 (su (ln [_,_] [.l .k1 .x0,.l .x0 .x1] .k1 .x1 [] rfl h1 h2)))) (su (ln [_,_,_,_,_] [.l .k1 .x0,.l .x1 .p21,.e (.a .x4 .x0) .x1] .x4 (.a .x2 .x3) [] rfl h1 h3 (su h2)))) fun z0 w0=>lne [_,_,_,_,_,_,_,_,_,_] [.l .x2 (.x 7),.e .x3 .x2,.e (.p 7 1) .x0,.f (.p 8 1) .x1,.e (.a (.x 9) .x0) .x1,.e (.a .x5 (.x 8)) .x2,.f (.a .x6 (.x 9)) (.a .x2 .x4),.f .x3 .x2,.l .x6 (.a .x2 .x4)] (.a (.a .x3 .x4) .x5) .x6 [1,1,1,1,1,1,1,0,0] [0,0,0,0,0,0,0] rfl rfl z0 w0 (su h1) (su (ln [_,_] [.l .k1 .x0,.l .x0 .x1] .k1 .x1 [] rfl h1 h2)) (su h2) (su (ln [_,_,_] [.l .x0 .p11,.e .p21 .x0] .x2 .x1 [] rfl h3 (su (ln [_,_] [.l .k1 .x0,.l .x0 .x1] .k1 .x1 [] rfl h1 h2)))) (su (ln [_,_,_,_,_] [.l .k1 .x0,.l .x1 .p21,.e (.a .x4 .x0) .x1] .x4 (.a .x2 .x3) [] rfl h1 h3 (su h2))) w0 sb
theorem k11(h2':Sx 2=s2)(h3':Sx 3=s3)(h4':Sx 4=s4)(h5':Sx 5=s5)(h6':Sx 6=s6)(h8:Sx 8=s8)(h10:Sx 10=s10)(h74:Sx 74=s74)(h:s11 vs σ Q):Bd Sx 5 b11 0 vs σ Q:=by
 obtain⟨X,⟨text,point,ps,tk,ctk⟩,p,cs,ipb,rfl,B,h1,h2,h3,h4,h⟩:=h;replace B:BZ σ X text point (text.length+1) tk ctk ps:=B;replace h2:p≤text.length+1:=h2;replace h3:text.length+cs.length≤cap:=h3;have hcap:cap=2000000:=rfl;refine⟨rfl,x_E (y_c (pa rfl) rfl h2' (uF B.hb (x_E (y_c (pa rfl) rfl h4' (rA B.hb h1 h1 h2 h2 (x_i (cR (aw (aa rfl)) aJ) (fun c=>?_) fun c=>x_q ?_))))))⟩
 ·exact x_r Ak (Wk.same (h4 (List.length_eq_zero_iff.mp (by have:=eq_of_beq c;exact ioe (lze [_] [] [.e .x0 .k0] .x0 .k0 [] [0] rfl rfl this)))))
 ·have hc:cs≠[]:=fun z=>by subst z;cases c
  refine x_E (y_c (ae (aa rfl) (ae (aw (aa rfl)) aD)) rfl h3' (ye B (by exact lz [_,_,_] [] [.l (.a .x0 .x1) .x2,.e .x2 (.k 2000000)] (.a .x0 .x1) (.k 4194304) [] rfl (il h3) (ie hcap)) (x_E (y_c (pa rfl) rfl h5' (ux B.hb (x_E (y_c (pa rfl) rfl h8 (yc B h1 h2 h3 fun σ1 B1 F1=>?_))))))));have hzv:text.length+1+cs.length=(c9 text p p cs).length+1:=by rw[ig h1 (Nat.le_refl _) h2];exact lne [_,_,_,_,_] [.e (.a .x4 .x0) .x0,.f (.a .x3 .x4) (.a .x1 .x2),.l .x3 (.a .x1 .x2)] (.a .p11 .x2) .p31 [1,1,0] [0,0] rfl rfl (su (ln [_] [] .x0 .x0 [] rfl)) (su (ln [_,_,_,_] [.e (.a .x3 .x0) .x0] .x3 (.a .x1 .x2) [] rfl (su (ln [_] [] .x0 .x0 [] rfl)))) sb
  rw[hzv]at B1;replace B1:BZ σ1 X (c9 text p p cs) _ _ tk ctk ps:=B1;have tail:∀(τ:Sto) (pt:Nat),BZ τ X (c9 text p p cs) pt ((c9 text p p cs).length+1) tk ctk ps→Fr (inX X) σ τ→pt=(if ipb then p+cs.length else inP p cs.length point)→al ai Sx (b11.drop 7) [.obj X.b,.int p,eI cs,.bool false,.bool ipb] τ (Ret Q):=fun τ pt B1 F1 hp=>
   x_E (y_m (p0 B1.hb rfl) B1.hm.hm rfl (ae (aa rfl) (ae (ev_add (aa rfl) (aw (aa rfl))) (ae (aa rfl) aD))) rfl h74 (y8 (e:=p+cs.length) B1.hm (Nat.le_add_right _ _) fun σ2 M2 F2=>
    have B2:=B1.mFr F2 M2
    x_E (y_c (ae (aa rfl) (ae (aa rfl) (ae (aw (aa rfl)) (ae (aa rfl) aD)))) rfl h10 (uI B2.hb (x_E (y_c (ae (aa rfl) (ae (aa rfl) (ae (ev_add (aa rfl) (aw (aa rfl))) (ae aJ aD)))) rfl h6' (uw B2.hb (x_n (Wk.same (h hc _ (hp▸B2.bSet _ _ (tk+1) (tk+1)) ((F1.trans (F2.up m0)).set (.inl rfl))))))))))))
  cases ipb with
  | true=>exact yJ (aa rfl) rfl (dC (ev_add (aa rfl) (aw (aa rfl))) (aa rfl) B1.hb rfl rfl (x_n (x_q (tail _ (p+cs.length) (B1.bSet _ _ tk ctk) (F1.set (.inl rfl)) rfl))))
  | false=>exact cE (aa rfl) rfl (tail _ _ B1 F1 rfl)
theorem kA{s e n p:Nat}(h:p≤s):dx s e n p=p:=if_pos h
theorem kB{s e n p:Nat}(h:s<p)(h':e≤p):dx s e n p=p+n-(e-s):=(if_neg (Nat.not_le.mpr h)).trans (if_pos h')
theorem mZ{s e n p:Nat}(h:s<p)(h':p<e):dx s e n p=s:=(if_neg (Nat.not_le.mpr h)).trans (if_neg (Nat.not_le.mpr h'))
theorem oz{p n q:Nat}:kK p (p+n) q=dx p p n q∧inP p n q=dx p p n q:=by
 rcases Nat.lt_or_ge p q with h|h
 ·rw[kB h (Nat.le_of_lt h),Nat.sub_self,Nat.sub_zero];exact⟨(if_pos h).trans (by rw[Nat.add_sub_cancel_left]),if_pos h⟩
 ·rw[kA h];exact⟨if_neg (Nat.not_lt.mpr h),if_neg (Nat.not_lt.mpr h)⟩
theorem xm{s e q:Nat}(a:s<q)(b:e≤q)(h:s<e):lE s e q=q-(e-s):=(if_pos a).trans ((Nat.max_eq_right (by exact ln [_,_,_,_] [.l .x2 .x1,.f (.a .x3 .x2) (.a .x1 .x0)] .x0 .x3 [] rfl b (su (ln [_,_,_] [.l .x2 .x1] .x2 (.a .x1 .x0) [] rfl b)))).trans (by exact lne [_,_,_,_,_,_] [.e (.a .x3 .x2) (.a .x1 .x0),.f (.a .x4 .x5) .x1,.e (.a .x5 .x0) .x2,.f (.a .x3 .x2) (.a .x1 .x0),.e (.a .x4 .x5) .x1,.f (.a .x5 .x0) .x2] .x3 .x4 [1,1,1,0,0,0] [0,0,0] rfl rfl (su (ln [_,_,_] [.l .x2 .x1] .x2 (.a .x1 .x0) [] rfl b)) (su (ln [_,_,_] [.l .x1 .x0,.l .x2 .x1] .x2 .x0 [] rfl b sb)) (su (Nat.le_of_lt h)) (su (ln [_,_,_] [.l .x2 .x1] .x2 (.a .x1 .x0) [] rfl b)) (su (ln [_,_,_] [.l .x1 .x0,.l .x2 .x1] .x2 .x0 [] rfl b sb)) (su (Nat.le_of_lt h))))
theorem oq{s e q:Nat}(a:s<q)(b:q<e):lE s e q=s:=(if_pos a).trans (Nat.max_eq_left (by exact sc (q+s) (e) (fun z0 w0=>ln [_,_,_,_] [.l .p11 .x2,.e (.a .x3 .x2) (.a .x1 .x0)] .x3 .x0 [] rfl b w0) fun z0 w0=>ln [_,_] [.e .x1 .k0] .x1 .x0 [] rfl w0))
theorem oA{s e q:Nat}(h:s<e)(h1:1≤s):tI s e q=dx s e 0 q∧lE s e q=dx s e 0 q:=by
 rcases Nat.lt_or_ge s q with a|a
 ·rcases Nat.lt_or_ge q e with b|b
  ·rw[mZ a b];exact⟨(if_neg (Nat.not_lt.mpr (Nat.le_of_lt b))).trans (if_pos a),oq a b⟩
  ·rw[kB a b,Nat.add_zero];refine⟨?_,xm a b h⟩;rcases Nat.eq_or_lt_of_le b with c|c
   ·subst c;exact(if_neg (Nat.lt_irrefl _)).trans ((if_pos a).trans (Nat.sub_sub_self (Nat.le_of_lt a)).symm)
   ·exact if_pos c
 ·rw[kA a];exact⟨(if_neg fun z=>Nat.not_lt.mpr a (Nat.lt_trans h z)).trans (if_neg (Nat.not_lt.mpr a)),if_neg (Nat.not_lt.mpr a)⟩
theorem oy{s e n q:Nat}(h:s<e)(h1:1≤s):sO s e n q=dx s e n q∧(if e≤q then q+n-(e-s)else inP s n (lE s e q))=dx s e n q:=by
 rcases Nat.lt_or_ge s q with a|a
 ·rcases Nat.lt_or_ge q e with b|b
  ·rw[mZ a b,oq a b];exact⟨(if_neg (Nat.not_le.mpr b)).trans (if_pos a),(if_neg (Nat.not_le.mpr b)).trans (if_neg (Nat.lt_irrefl _))⟩
  ·rw[kB a b];exact⟨if_pos b,if_pos b⟩
 ·rw[kA a,show lE s e q=q from if_neg (Nat.not_lt.mpr a)];have b:¬e≤q:=fun z=>Nat.not_lt.mpr a (Nat.lt_of_lt_of_le h z)
  exact⟨(if_neg b).trans (if_neg (Nat.not_lt.mpr a)),(if_neg b).trans (if_neg (Nat.not_lt.mpr a))⟩
noncomputable def s12(vs:List PV)(σ:Sto)(Q:KV):Prop:=∃X S,∃(p:Nat) (cs:List Int),vs=[.obj X.b,.int p,eI cs,.bool false]∧BA σ X S∧1≤p∧p≤S.text.length+1∧S.text.length+cs.length≤cap∧∀σ',BA σ' X (er p p cs S)→Fr (inX X) σ σ'→Q .none σ'
theorem zG{X:BX}{S:St}{p:Nat}{cs:List Int}(B:BA σ X S)(h1:1≤p)(h2:p≤S.text.length+1)(h3:S.text.length+cs.length≤cap)(h:∀σ',BA σ' X (er p p cs S)→Fr (inX X) σ σ'→Q .none σ'):s12 [.obj X.b,.int p,eI cs,.bool false] σ Q:=⟨X,S,p,cs,rfl,B,h1,h2,h3,h⟩
theorem k12(h11:Sx 11=s11)(h:s12 vs σ Q):Bd Sx 4 b12 0 vs σ Q:=by
 obtain⟨X,S,p,cs,rfl,B,h1,h2,h3,h⟩:=h;refine⟨rfl,x_E (y_c (pa rfl) rfl h11 (uH B h1 h2 h3 (fun hc=>x_n (Wk.same (h σ ?_ Fr.refl))) fun hc σ1 B1 F1=>x_n (Wk.same (h σ1 ?_ F1))))⟩
 ·unfold er;rw[if_pos ⟨rfl,hc⟩];exact B
 ·unfold er;rw[if_neg fun z=>hc z.2];have e1:S.ps.map (kK p (p+cs.length))=S.ps.map (dx p p cs.length):=List.map_congr_left fun q _=>oz.1
  rw[←e1,←oz.2];exact B1
noncomputable def s13(vs:List PV)(σ:Sto)(Q:KV):Prop:=∃X S,∃(cs:List Int),vs=[.obj X.b,eI cs,.bool false]∧BA σ X S∧1≤S.point∧S.point≤S.text.length+1∧S.text.length+cs.length≤cap∧(cs=[]→Q .none σ)∧
 (cs≠[]→∀σ',BA σ' X ⟨c9 S.text S.point S.point cs,S.point+cs.length,S.ps.map (kK S.point (S.point+cs.length)),S.tk+1,S.tk+1⟩→Fr (inX X) σ σ'→Q .none σ')
theorem zF{X:BX}{S:St}{cs:List Int}(B:BA σ X S)(h1:1≤S.point)(h2:S.point≤S.text.length+1)(h3:S.text.length+cs.length≤cap)(h4:cs≠[])(h:∀σ',BA σ' X ⟨c9 S.text S.point S.point cs,S.point+cs.length,S.ps.map (kK S.point (S.point+cs.length)),S.tk+1,S.tk+1⟩→Fr (inX X) σ σ'→Q .none σ'):s13 [.obj X.b,eI cs,.bool false] σ Q:=⟨X,S,cs,rfl,B,h1,h2,h3,fun e=>absurd e h4,fun _=>h⟩
theorem k13(h11:Sx 11=s11)(h:s13 vs σ Q):Bd Sx 3 b13 0 vs σ Q:=by
 obtain⟨X,S,cs,rfl,B,h1,h2,h3,h4,h⟩:=h;exact⟨rfl,x_E (y_c (pa0 B.hb rfl) rfl h11 (uH B h1 h2 h3 (fun hc=>x_n (Wk.same (h4 hc))) fun hc σ1 B1 F1=>x_n (Wk.same (h hc σ1 B1 F1))))⟩
noncomputable def s14(vs:List PV)(σ:Sto)(Q:KV):Prop:=∃X S,∃(s e:Nat),vs=[.obj X.b,.int s,.int e]∧BA σ X S∧1≤s∧s<e∧e≤S.text.length+1∧∀σ' gone,BA σ' X (er s e [] S)→Fr (inX X) σ σ'→Q (eI gone) σ'
theorem zE{X:BX}{S:St}{s e:Nat}(B:BA σ X S)(h1:1≤s)(h2:s<e)(h3:e≤S.text.length+1)(h:∀σ' gone,BA σ' X (er s e [] S)→Fr (inX X) σ σ'→Q (eI gone) σ'):s14 [.obj X.b,.int s,.int e] σ Q:=⟨X,S,s,e,rfl,B,h1,h2,h3,h⟩
theorem k14(h2':Sx 2=s2)(h4':Sx 4=s4)(h5':Sx 5=s5)(h6':Sx 6=s6)(h7:Sx 7=s7)(h9:Sx 9=s9)(h75:Sx 75=s75)(h:s14 vs σ Q):Bd Sx 3 b14 3 vs σ Q:=by
 obtain⟨X,⟨text,point,ps',tk,ctk⟩,s,e,rfl,B,h1,h2,h3,h⟩:=h;replace B:BZ σ X text point (text.length+1) tk ctk ps':=B;replace h3:e≤text.length+1:=h3;have hle:=Nat.le_of_lt h2;refine⟨rfl,x_E (y_c (pa rfl) rfl h2' (uF B.hb (x_T (y_c (pa rfl) rfl h4' (rA B.hb h1 (Nat.le_trans h1 hle) (Nat.le_trans hle h3) h3 ?_)))))⟩;rw[Nat.min_eq_left hle,Nat.max_eq_right hle];refine cE (pe rfl) (beq_eq_false_iff_ne.mpr fun z=>Nat.ne_of_lt h2 (Int.ofNat.inj z)) (x_E (y_c (pa rfl) rfl h5' (ux B.hb (x_A (y_c (pa rfl) rfl h7 (yd B h1 hle h3 h3 fun σ1 gone B1 F1=>x_s rfl (x_E (y_m (p0 B1.hb rfl) B1.hm.hm rfl (pa rfl) rfl h75 (y7 B1.hm hle fun σ2 M2 F2=>?_)))))))));have B2:=B1.mFr F2 M2;refine x_E (y_c (pa rfl) rfl h9 (yb B2.hb (x_E (y_c (pa rfl) rfl h6' (uw B2.hb (x_r (aa rfl) (Wk.same (h _ gone ?_ ((F1.trans (F2.up m0)).set (.inl rfl))))))))));unfold er;rw[if_neg fun z=>Nat.ne_of_lt h2 z.1];have e1:ps'.map (tI s e)=ps'.map (dx s e 0):=List.map_congr_left fun q _=>(oA h2 h1).1
 have e2:=(oA (q:=point) h2 h1).2;have e3:c9 text s e []=text.take (s-1)++text.drop (e-1):=by unfold c9;rw[List.append_nil]
 have e4:=ig (cs:=[]) h1 hle h3;show BZ _ X (c9 text s e []) (dx s e 0 point) ((c9 text s e []).length+1) _ _ (ps'.map (dx s e 0));rw[show(c9 text s e []).length+1=text.length+1-(e-s) by rw[e4,List.length_nil];exact lne [_,_,_,_] [.f (.a .x2 .x3) .p01,.e (.a .x1 .x3) (.a .x0 .k0),.e (.a .x2 .x3) .p01,.f (.a .x1 .x3) (.a .x0 .k0)] .p11 .x2 [1,1,0,0] [0,0] rfl rfl (su (ln [_,_,_] [.l .x0 .p11,.l .x2 .x0] .x2 .p11 [] rfl h3 sb)) (su (ln [_,_,_,_] [.l .k1 .x0,.l .x1 .p21,.e (.a .x3 .x0) .x1] .x3 (.a .x2 .k0) [] rfl h1 h3 (su (Nat.le_of_lt h2)))) (su (ln [_,_,_] [.l .x0 .p11,.l .x2 .x0] .x2 .p11 [] rfl h3 sb)) (su (ln [_,_,_,_] [.l .k1 .x0,.l .x1 .p21,.e (.a .x3 .x0) .x1] .x3 (.a .x2 .k0) [] rfl h1 h3 (su (Nat.le_of_lt h2)))),e3,←e2,←e1];exact B2.bSet _ _ (tk+1) (tk+1)
noncomputable def s15(vs:List PV)(σ:Sto)(Q:KV):Prop:=∃X S,∃(s e:Nat) (cs:List Int),vs=[.obj X.b,.int s,.int e,eI cs,.none]∧BA σ X S∧1≤s∧s≤e∧e≤S.text.length+1∧S.text.length+cs.length≤cap∧∀σ' v,BA σ' X (er s e cs S)→Fr (inX X) σ σ'→Q v σ'
theorem zD{X:BX}{S:St}{s e:Nat}{cs:List Int}(B:BA σ X S)(h1:1≤s)(h2:s≤e)(h3:e≤S.text.length+1)(h4:S.text.length+cs.length≤cap)(h:∀σ' v,BA σ' X (er s e cs S)→Fr (inX X) σ σ'→Q v σ'):s15 [.obj X.b,.int s,.int e,eI cs,.none] σ Q:=⟨X,S,s,e,cs,rfl,B,h1,h2,h3,h4,h⟩
theorem k15(h2':Sx 2=s2)(h3':Sx 3=s3)(h4':Sx 4=s4)(h5':Sx 5=s5)(h6':Sx 6=s6)(h7:Sx 7=s7)(h8:Sx 8=s8)(h9:Sx 9=s9)(h10:Sx 10=s10)(h12:Sx 12=s12)(h14:Sx 14=s14)(h76:Sx 76=s76)(h:s15 vs σ Q):Bd Sx 5 b15 4 vs σ Q:=by
 obtain⟨X,S,s,e,cs,rfl,B,h1,h2,h3,h4,h⟩:=h;have hcap:cap=2000000:=rfl;refine⟨rfl,x_E (y_c (pa rfl) rfl h2' (uF B.hb (x_T (y_c (pa rfl) rfl h4' (rA B.hb h1 (Nat.le_trans h1 h2) (Nat.le_trans h2 h3) h3 ?_)))))⟩;rw[Nat.min_eq_left h2,Nat.max_eq_right h2];refine x_i (pe rfl) (fun c=>?_) fun c=>x_q ?_
 ·have hse:s=e:=Int.ofNat.inj (eq_of_beq c);subst hse;exact x_E (y_c (pa rfl) rfl h12 (zG B h1 h3 h4 fun σ1 B1 F1=>x_r iN (Wk.same (h σ1 _ B1 F1))))
 have hlt:s<e:=Nat.lt_of_le_of_ne h2 fun z=>by subst z;exact ne_of_beq_false c rfl
 refine x_i (cR (aw (aa rfl)) aJ) (fun c=>?_) fun c=>x_q ?_
 ·have hc:cs=[]:=List.length_eq_zero_iff.mp (by have:=eq_of_beq c;exact ioe (lze [_] [] [.e .x0 .k0] .x0 .k0 [] [0] rfl rfl this));subst hc;exact x_R (y_c (pa rfl) rfl h14 (zE B h1 hlt h3 fun σ1 gone B1 F1=>Wk.same (h σ1 _ B1 F1)))
 obtain⟨text,point,ps',tk,ctk⟩:=S;replace B:BZ σ X text point (text.length+1) tk ctk ps':=B;replace h3:e≤text.length+1:=h3;replace h4:text.length+cs.length≤cap:=h4;refine x_E (y_c (ae (aa rfl) (ae (aT (aw (aa rfl)) (pe rfl)) aD)) rfl h3' (ye B (by exact lz [_,_,_,_,_] [] [.l .x0 .x1,.e .x2 (.k 2000000),.l (.a .x3 .x4) .x2] (.a .x3 (.d .x4 (.d .x1 .x0))) (.k 4194304) [] rfl (il h2) (ie hcap) (il h4)) (x_a (p0 B.hb rfl) rfl (x_E (y_c (pa rfl) rfl h5' (ux B.hb (x_A (y_c (pa rfl) rfl h7 (yd B h1 h2 h3 h3 fun σ1 gone B1 F1=>x_s rfl ?_)))))))));have hl1:(text.take (s-1)++text.drop (e-1)).length=text.length-(e-s):=by rw[List.length_append,List.length_take,List.length_drop,Nat.min_eq_left (by exact ln [_,_,_,_] [.l .p01 .x1,.l .x1 .p21,.l .x3 .x0] .x3 .x2 [] rfl hlt h3 sb)];exact lne [_,_,_,_,_,_,_,_] [.e .p31 .x0,.f .p61 .x1,.e (.a (.x 7) .x0) .x1,.e (.a .x4 .x6) .x2,.f (.a .x5 (.x 7)) .x2,.f .p31 .x0,.e .p61 .x1,.f (.a (.x 7) .x0) .x1,.f (.a .x4 .x6) .x2,.e (.a .x5 (.x 7)) .x2] (.a .x3 .x4) .x5 [1,1,1,1,1,0,0,0,0,0] [0,0,0,0,0] rfl rfl (su h1) (su (ln [_,_] [.l .k1 .x0,.l .x0 .x1] .k1 .x1 [] rfl h1 h2)) (su h2) (su (ln [_,_,_] [.l .x0 .p11,.e .p21 .x0] .x2 .x1 [] rfl h3 (su (ln [_,_] [.l .k1 .x0,.l .x0 .x1] .k1 .x1 [] rfl h1 h2)))) (su (ln [_,_,_,_] [.l .k1 .x0,.l .x1 .p21,.e (.a .x3 .x0) .x1] .x3 .x2 [] rfl h1 h3 (su h2))) (su h1) (su (ln [_,_] [.l .k1 .x0,.l .x0 .x1] .k1 .x1 [] rfl h1 h2)) (su h2) (su (ln [_,_,_] [.l .x0 .p11,.e .p21 .x0] .x2 .x1 [] rfl h3 (su (ln [_,_] [.l .k1 .x0,.l .x0 .x1] .k1 .x1 [] rfl h1 h2)))) (su (ln [_,_,_,_] [.l .k1 .x0,.l .x1 .p21,.e (.a .x3 .x0) .x1] .x3 .x2 [] rfl h1 h3 (su h2)))
 refine x_E (y_c (pa rfl) rfl h8 (yc B1 h1 (by exact ln [_,_,_,_,_,_] [.l .x1 .p21,.f .x3 .x4,.e (.a .x5 .x0) .x1,.f (.a .x4 .x5) .x2] .x0 .p31 [] rfl h3 hl1 (su h2) (su (ln [_,_,_,_] [.l .k1 .x0,.l .x1 .p21,.e (.a .x3 .x0) .x1] .x3 .x2 [] rfl h1 h3 (su h2)))) (by exact ln [_,_,_,_,_] [.l (.a .x1 .x2) .x0,.e .x3 .x4,.l .x4 .x1] (.a .x3 .x2) .x0 [] rfl h4 hl1 sb) fun σ2 B2 F2=>?_));have htx:(text.take (s-1)++text.drop (e-1)).take (s-1)++cs++(text.take (s-1)++text.drop (e-1)).drop (s-1)=c9 text s e cs:=by
  have hls:(text.take (s-1)).length=s-1:=by rw[List.length_take,Nat.min_eq_left (by exact ln [_,_,_,_] [.l .p01 .x1,.l .x1 .p21,.l .x3 .x0] .x3 .x2 [] rfl hlt h3 sb)]
  unfold c9;generalize text.take (s-1)=A at*;rw[←hls,bw,aX]
 rw[htx,show text.length+1-(e-s)+cs.length=(c9 text s e cs).length+1 by rw[ig h1 h2 h3];exact lne [_,_,_,_,_] [.e (.a .x2 .x4) .p01,.f (.a .x3 .x4) (.a .x0 .x1),.f (.a .x2 .x4) .p01,.e (.a .x3 .x4) (.a .x0 .x1)] (.a .x2 .x1) .p31 [1,1,0,0] [0,0] rfl rfl (su (ln [_,_,_] [.l .x0 .p11,.l .x2 .x0] .x2 .p11 [] rfl h3 sb)) (su (ln [_,_,_,_,_] [.l .k1 .x0,.l .x1 .p21,.e (.a .x4 .x0) .x1] .x4 (.a .x2 .x3) [] rfl h1 h3 (su h2))) (su (ln [_,_,_] [.l .x0 .p11,.l .x2 .x0] .x2 .p11 [] rfl h3 sb)) (su (ln [_,_,_,_,_] [.l .k1 .x0,.l .x1 .p21,.e (.a .x4 .x0) .x1] .x4 (.a .x2 .x3) [] rfl h1 h3 (su h2)))]at B2;have hmv:=(oy (n:=cs.length) (q:=point) hlt h1).2;have tail:∀(τ:Sto),BZ τ X (c9 text s e cs) (dx s e cs.length point) ((c9 text s e cs).length+1) tk ctk ps'→Fr (inX X) σ τ→al ai Sx (b15.drop 10) [.obj X.b,.int s,.int e,eI cs,.none,.int s,.int e,.int point,eI gone] τ (Ret Q):=fun τ B1 F1=>
  x_E (y_m (p0 B1.hb rfl) B1.hm.hm rfl (ae (aa rfl) (ae (aa rfl) (ae (aw (aa rfl)) aD))) rfl h76 (yZ B1.hm h2 fun σ3 M3 F3=>by
   have B3:=B1.mFr F3 M3;refine x_E (y_c (ae (aa rfl) (ae (aa rfl) (ae (aw (aa rfl)) (ae qL aD)))) rfl h10 (uI B3.hb (x_E (y_c (pa rfl) rfl h9 (yb B3.hb (cE (gC (aa rfl)) rfl (x_E (y_c (ae (aa rfl) (ae (aa rfl) (ae (ev_add (aa rfl) (aw (aa rfl))) (ae (pe rfl) aD)))) rfl h6' (uw B3.hb (x_r (aa rfl) (Wk.same (h _ _ ?_ ((F1.trans (F3.up m0)).set (.inl rfl))))))))))))));unfold er;rw[if_neg fun z=>Nat.ne_of_lt hlt z.1];have e1:ps'.map (sO s e cs.length)=ps'.map (dx s e cs.length):=List.map_congr_left fun q _=>(oy hlt h1).1
   show BZ _ X (c9 text s e cs) (dx s e cs.length point) ((c9 text s e cs).length+1) _ _ (ps'.map (dx s e cs.length));rw[←e1];exact B3.bSet _ _ (tk+1) (tk+1)))
 refine x_i (pe rfl) (fun c=>?_) fun c=>x_q ?_
 ·have hp:e≤point:=Int.ofNat_le.mp (of_decide_eq_true c);rw[if_pos hp]at hmv;exact dC (ay (aT (ev_add (aa rfl) (aw (aa rfl))) (pe rfl)) (congrArg PV.int (show(point:Int)+cs.length-(e-s)=((dx s e cs.length point:Nat):Int) by rw[←hmv];exact lze [_,_,_,_,_,_] [] [.f (.a .x3 .x5) (.a .x4 .x2),.e (.a .x5 .x0) .x1,.e (.a .x3 .x5) (.a .x4 .x2),.f (.a .x5 .x0) .x1] (.d (.a .x4 .x2) (.d .x1 .x0)) .x3 [1,1,0,0] [0,0] rfl rfl (ie (su (ln [_,_,_,_] [.l .x0 .x2,.l .x3 .x0] .x3 (.a .x2 .x1) [] rfl hp sb))) (ie (su h2)) (ie (su (ln [_,_,_,_] [.l .x0 .x2,.l .x3 .x0] .x3 (.a .x2 .x1) [] rfl hp sb))) (ie (su h2))))) (aa rfl) B2.hb rfl rfl (x_n (x_q (tail _ (B2.bSet _ _ tk ctk) ((F1.trans F2).set (.inl rfl)))))
 ·rw[if_neg fun z=>of_decide_eq_false c (Int.ofNat_le.mpr z)]at hmv;rw[hmv]at B2;exact tail _ B2 (F1.trans F2)
end
end Mine
end
section
namespace Mine
section
variable {Sx:Spec} {σ:Sto} {Q:KV} {vs:List PV}
theorem be{t:List Int}{p:Nat}(h:1≤p):1≤ak t p∧ak t p≤p:=by
 unfold ak
 have:=(List.takeWhile_sublist (l:=(t.take (p-1)).reverse) (·!= 10)).length_le;rw[List.length_reverse,List.length_take]at this;exact⟨ln [_,_,_,_,_] [.l .x1 .x2,.l .x2 .x4,.f (.a .x3 .x1) .x0,.e .p41 .x0] .k1 .x3 [] rfl this (Nat.min_le_left _ _) (su (ln [_,_,_,_] [.l .x1 .x2,.l .x2 .x3,.l .x3 .x0] .x1 .x0 [] rfl this (Nat.min_le_left _ _) sb)) (su h),sb⟩
theorem cy{t:List Int}{p:Nat}(h:1≤p)(h2:p≤t.length+1):p≤aQ t p∧aQ t p≤t.length+1:=by
 unfold aQ
 have:=(List.takeWhile_sublist (l:=t.drop (p-1)) (·!= 10)).length_le;rw[List.length_drop]at this;exact⟨ln [_,_] [] .x0 (.a .x0 .x1) [] rfl,ln [_,_,_,_,_] [.l .x2 .x3,.f .p41 .x0,.e (.a .x3 .x4) .x1] (.a .x0 .x2) .p11 [] rfl this (su h) (su (ln [_,_,_] [.l .x0 .p11,.e .p21 .x0] .x2 .x1 [] rfl h2 (su h)))⟩
noncomputable def s40(vs:List PV)(σ:Sto)(Q:KV):Prop:=∃X S,∃(p:Nat),vs=[.obj X.b,.int p]∧BA σ X S∧1≤p∧p≤S.text.length+1∧Q (.int (ak S.text p:Nat)) σ
theorem qa{X:BX}{S:St}{p:Nat}(B:BA σ X S)(h1:1≤p)(h2:p≤S.text.length+1)(h:Q (.int (ak S.text p:Nat)) σ):s40 [.obj X.b,.int p] σ Q:=⟨X,S,p,rfl,B,h1,h2,h⟩
theorem BV{t:List Int}{q:Nat}{x:Int}(h:t[q]? = some x):ak t (q+2)=if x=10 then q+2 else ak t (q+1):=by
 unfold ak;rw[show q+2-1=q+1 from rfl,List.take_add_one,h,Option.toList_some,List.reverse_append];show q+2-(List.takeWhile _ (x::(t.take q).reverse)).length=_
 by_cases e:x=10
 ·subst e;rfl
 ·rw[if_neg e,List.takeWhile_cons_of_pos (p:=fun x=>x != 10) (bne_iff_ne.mpr e)];exact Nat.succ_sub_succ _ _
theorem B0{t:List Int}{q:Nat}{x:Int}(h:t[q]? = some x):aQ t (q+1)=if x=10 then q+1 else aQ t (q+2):=by
 obtain⟨hq,e⟩:=List.getElem?_eq_some_iff.mp h;unfold aQ;rw[show q+1-1=q from rfl,List.drop_eq_getElem_cons hq,e]
 by_cases e:x=10
 ·subst e;rfl
 ·rw[if_neg e,List.takeWhile_cons_of_pos (p:=fun x=>x != 10) (bne_iff_ne.mpr e),List.length_cons];exact(congrArg (q+1+·) (Nat.add_comm _ 1)).trans (Nat.add_assoc _ _ _).symm
theorem zV{t:List Int}:aQ t (t.length+1)=t.length+1:=by
 unfold aQ;rw[show t.length+1-1=t.length from rfl,List.drop_length];rfl
inductive I40(b p:Nat)(t:List Int)(σ:Sto):Nat→List PV→Sto→Prop
 | mk {q:Nat} (hq:q≤t.length) (he:ak t (q+1)=ak t p):I40 b p t σ q [.obj b,.int p,.int (q+1:Nat)] σ
inductive I41(b p:Nat)(t:List Int)(σ:Sto):Nat→List PV→Sto→Prop
 | mk {q:Nat} (hq:q≤t.length) (he:aQ t (q+1)=aQ t p):I41 b p t σ (t.length-q) [.obj b,.int p,.int (q+1:Nat)] σ
theorem k40(h80:Sx 80=s80)(h83:Sx 83=s83)(h:s40 vs σ Q):Bd Sx 2 b40 1 vs σ Q:=by
 obtain⟨X,⟨t,point,ps,tk,ctk⟩,p,rfl,B,h1,h2,h⟩:=h;replace B:BZ σ X t point (t.length+1) tk ctk ps:=B;replace h2:p≤t.length+1:=h2;obtain⟨p,rfl⟩:=Nat.exists_eq_succ_of_ne_zero (Nat.ne_of_gt h1);refine⟨rfl,x_a (aa rfl) rfl (mL (I40 X.b (p+1) t σ) p (.mk (Nat.le_of_succ_le_succ h2) rfl) fun q loc τ I=>?_)⟩;obtain @⟨hq,he⟩:=I;have ht:=fv (S:=Sx) (a:=.var 2) (loc:=[.obj X.b,.int (p+1:Nat),.int (q+1:Nat)]) (aa rfl) (gy (o:=.var 0) (aa rfl) B.hb (show dq 4 13=_ from rfl) aD rfl h80 fun Q w=>yX B.hb w);cases q with
 | zero=>exact⟨_,cq (y:=false) ht fun c=>absurd c (by decide),fun c=>absurd c (by decide),fun _=>x_r (aa rfl) (Wk.same (by rw[←he]at h;exact h))⟩
 | succ q=>
  have hg:=List.getElem?_eq_getElem hq;rw[BV hg]at he;refine⟨_,ay (cq ht fun _=>pc (gy (aa rfl) B.hb rfl (ae (pi rfl (Int.add_sub_cancel ((q+1:Nat):Int) 1)) aD) rfl h83 fun Q w=>uv B (Nat.succ_pos q) hg w) (fh rfl)) (congrArg (fun x=>PV.bool (x&&_)) (decide_eq_true (Int.ofNat_lt.mpr (Nat.succ_lt_succ (Nat.succ_pos q))))),fun c K _ hK=>x_a (pi rfl (Int.add_sub_cancel ((q+1:Nat):Int) 1)) rfl (x_n (hK _ _ _ (Nat.lt_succ_self q) (.mk (Nat.le_of_lt hq) ?_))),fun c=>x_r (aa rfl) (Wk.same ?_)⟩
  ·rw[if_neg (fun z=>by rw[z]at c;cases c)]at he;exact he
  ·rw[if_pos (eq_of_beq (bnf c))]at he;rw[←he]at h;exact h
noncomputable def s41(vs:List PV)(σ:Sto)(Q:KV):Prop:=∃X S,∃(p:Nat),vs=[.obj X.b,.int p]∧BA σ X S∧1≤p∧p≤S.text.length+1∧Q (.int (aQ S.text p:Nat)) σ
theorem uB{X:BX}{S:St}{p:Nat}(B:BA σ X S)(h1:1≤p)(h2:p≤S.text.length+1)(h:Q (.int (aQ S.text p:Nat)) σ):s41 [.obj X.b,.int p] σ Q:=⟨X,S,p,rfl,B,h1,h2,h⟩
theorem k41(h81:Sx 81=s81)(h83:Sx 83=s83)(h:s41 vs σ Q):Bd Sx 2 b41 1 vs σ Q:=by
 obtain⟨X,⟨t,point,ps,tk,ctk⟩,p,rfl,B,h1,h2,h⟩:=h;replace B:BZ σ X t point (t.length+1) tk ctk ps:=B;replace h2:p≤t.length+1:=h2;obtain⟨p,rfl⟩:=Nat.exists_eq_succ_of_ne_zero (Nat.ne_of_gt h1);refine⟨rfl,x_a (aa rfl) rfl (mL (I41 X.b (p+1) t σ) _ (.mk (Nat.le_of_succ_le_succ h2) rfl) fun n loc τ I=>?_)⟩;obtain @⟨q,hq,he⟩:=I;have ht:=cQ (S:=Sx) (a:=.var 2) (loc:=[.obj X.b,.int (p+1:Nat),.int (q+1:Nat)]) (aa rfl) (gy (o:=.var 0) (aa rfl) B.hb (show dq 4 14=_ from rfl) aD rfl h81 fun Q w=>yW B.hb w);rcases Nat.eq_or_lt_of_le hq with e|hq
 ·subst e;rw[zV]at he;exact⟨_,cq (y:=false) ht fun c=>absurd (of_decide_eq_true c) (Int.lt_irrefl _),fun c=>absurd (of_decide_eq_true (Bool.and_eq_true_iff.mp c).1) (Int.lt_irrefl _),fun _=>x_r (aa rfl) (Wk.same (he▸h))⟩
 ·have hg:=List.getElem?_eq_getElem hq;rw[B0 hg]at he;refine⟨_,ay (cq ht fun _=>pc (gy (aa rfl) B.hb rfl (ae (aa rfl) aD) rfl h83 fun Q w=>uv B (Nat.succ_pos q) hg w) (fh rfl)) (congrArg (fun x=>PV.bool (x&&_)) (decide_eq_true (Int.ofNat_lt.mpr (Nat.succ_lt_succ hq)))),fun c K _ hK=>x_a (ay (ev_add (aa rfl) aJ) (show _=PV.int ((q+1+1:Nat):Int)from rfl)) rfl (x_n (hK _ _ _ (Nat.sub_lt_sub_left hq (Nat.lt_succ_self q)) (.mk hq ?_))),fun c=>x_r (aa rfl) (Wk.same ?_)⟩
  ·rw[if_neg (fun z=>by rw[z]at c;cases c)]at he;exact he
  ·rw[if_pos (eq_of_beq (bnf c))]at he;rw[←he]at h;exact h
noncomputable def s48(vs:List PV)(σ:Sto)(Q:KV):Prop:=∃X S,∃(p f:Nat) (col:Int) (way:Nat) (L:List Int),vs=[.obj X.b,.int p,.obj f]∧BA σ X S∧σ f=some (bN col way L)∧1≤p∧p≤S.text.length+1∧Q (.bool (aK L (eo S.text p))) σ
theorem zm{X:BX}{S:St}{p f:Nat}{col:Int}{way:Nat}{L:List Int}(B:BA σ X S)(h0:σ f=some (bN col way L))(h1:1≤p)(h2:p≤S.text.length+1)(h:Q (.bool (aK L (eo S.text p))) σ):s48 [.obj X.b,.int p,.obj f] σ Q:=⟨X,S,p,f,col,way,L,rfl,B,h0,h1,h2,h⟩
theorem k48(h34:Sx 34=s34)(h40:Sx 40=s40)(h41:Sx 41=s41)(h84:Sx 84=s84)(h:s48 vs σ Q):Bd Sx 3 b48 1 vs σ Q:=by
 obtain⟨X,S,p,f,col,way,L,rfl,B,h0,h1,h2,h⟩:=h;have l1:=be (t:=S.text) h1;have l2:=cy h1 h2;exact⟨rfl,x_a (gy (aa rfl) B.hb rfl (ae (bb (pa rfl) rfl h40 fun Q w=>qa B h1 h2 w) (ae (bb (pa rfl) rfl h41 fun Q w=>uB B h1 h2 w) aD)) rfl h84 fun Q w=>mS B l1.1 (Nat.le_trans l1.2 l2.1) l2.2 w) rfl (x_r (ay (cR (aw (bb (pa rfl) rfl h34 fun Q w=>qb h0 w)) (aw (aa rfl))) (congrArg PV.bool zP)) (Wk.same h))⟩
end
noncomputable def ju(n:Nat):Nat→List (Nat×Nat×List Int)→Prop
 | lo,[]=>lo≤n
 | lo,e::r=>lo≤e.1∧e.1≤e.2.1∧ju n e.2.1 r
noncomputable def dw(es:List (Nat×Nat×List Int)):Nat:=(es.map fun e=>e.2.2.length).sum
theorem ju.up{n lo lo':Nat}(h:lo'≤lo):∀{es:List (Nat×Nat×List Int)},ju n lo es→ju n lo' es
 | [],h1=>Nat.le_trans h h1
 | _::_,⟨h1,h2⟩=>⟨Nat.le_trans h h1,h2⟩
theorem ju.le{n:Nat}:∀{lo:Nat} {es:List (Nat×Nat×List Int)},ju n lo es→lo≤n
 | _,[],h=>h
 | _,_::_,⟨h1,h2,h3⟩=>Nat.le_trans h1 (Nat.le_trans h2 h3.le)
theorem lh:∀(a b:List Int),(aO a b).length≤b.length
 | [],b=>by simp[aO]
 | x::a,[]=>by simp[aO]
 | x::a,y::b=>by unfold aO;split<;>simp[lh a b]
theorem sU{s e:Nat}{old own:List Int}(h:s≤e)(h2:e≤old.length):s≤(ch s e old own).1∧(ch s e old own).1≤(ch s e old own).2.1∧(ch s e old own).2.1≤e∧(ch s e old own).2.2.length≤own.length:=by
 unfold ch;dsimp only;have h1:=eD (sub old s e) own;rw[bI h2]at h1;have h3:=eD ((sub old s e).drop (aO (sub old s e) own).length).reverse (own.drop (aO (sub old s e) own).length).reverse;rw[List.length_reverse,List.length_drop,bI h2]at h3;generalize (aO (sub old s e) own).length=a at*;generalize (aO ((sub old s e).drop a).reverse (own.drop a).reverse).length=b at*;refine⟨by exact ln [_,_] [] .x0 (.a .x0 .x1) [] rfl,by exact ln [_,_,_,_,_,_,_] [.l .x4 .x5,.e (.a .x3 .x0) .x1,.e (.a .x5 .x2) .x3,.f (.a .x6 .x4) .x1] (.a .x0 .x2) .x6 [] rfl h3 (su h) (su h1) (su (ln [_,_,_,_] [.l .x2 .x3,.l .x1 .x0,.l .x3 .x1] .x2 .x0 [] rfl h3 sb sb)),by exact sb,?_⟩;unfold sub;rw[List.length_drop,List.length_take];exact ln [_,_,_] [.l .x0 .x2,.l .x2 .x1] .x0 .x1 [] rfl sb (Nat.min_le_right _ _)
theorem mB{old new:List Int}:∀(ks:List ((Nat×Nat)×(Nat×Nat))) (n m:Nat),Chn old new n m ks→ju old.length n (bD old new n m ks)∧dw (bD old new n m ks)+m≤new.length
 | [],n,m,⟨h1,h2⟩=>⟨h1,by simp[bD,dw];exact h2⟩
 | k::ks,n,m,⟨h1,h2,h3,h4,h5,h6⟩=>by
  obtain⟨i1,i2⟩:=mB ks _ _ h6;have hle:=h6.le;rw[bH];split
  ·exact⟨i1.up (by exact ln [_,_,_] [.l .x0 .x1,.l .x1 .x2] .x0 .x2 [] rfl h1 h2),by rw[List.nil_append];exact ln [_,_,_,_,_] [.l .x0 .x1,.l .x1 .x2,.l (.a .x3 .x2) .x4] (.a .x3 .x0) .x4 [] rfl h3 h4 i2⟩
  ·obtain⟨a1,a2,a3,a4⟩:=sU (own:=sub new m k.2.1) h1 (show k.1.1≤old.length by exact ln [_,_,_] [.l .x0 .x1,.l .x1 .x2] .x0 .x2 [] rfl h2 hle.1);rw[bI (by exact ln [_,_,_] [.l .x0 .x1,.l .x1 .x2] .x0 .x2 [] rfl h4 hle.2)]at a4;refine⟨⟨a1,a2,i1.up (by exact ln [_,_,_] [.l .x0 .x1,.l .x2 .x0] .x2 .x1 [] rfl h2 a3)⟩,?_⟩;unfold dw at*;simp only[List.singleton_append,List.map_cons,List.sum_cons];exact ln [_,_,_,_,_,_,_] [.l .x1 .x2,.l (.a .x3 .x2) .x4,.l .x5 .x6,.e (.a .x6 .x0) .x1] (.a (.a .x5 .x3) .x0) .x4 [] rfl h4 i2 a4 (su h3)
theorem vV(old new:List Int):ju old.length 0 (a9 old new)∧dw (a9 old new)≤new.length:=by
 have:=mB _ _ _ (kD old new).snoc;exact⟨this.1,this.2⟩
theorem ju.drop{n:Nat}:∀{lo:Nat} {es:List (Nat×Nat×List Int)},ju n lo es→∀k,∃lo',ju n lo' (es.drop k)
 | lo,es,h,0=>⟨lo,h⟩
 | lo,[],h,k+1=>⟨lo,h⟩
 | _,_::_,⟨_,_,h⟩,k+1=>h.drop k
theorem qk(es:List (Nat×Nat×List Int))(k:Nat):dw (es.drop k)≤dw es:=by
 have:dw es=dw (es.take k)+dw (es.drop k):=by unfold dw;rw[←List.sum_append,←List.map_append,List.take_append_drop]
 exact ln [_,_,_] [.f .x0 (.a .x1 .x2)] .x2 .x0 [] rfl this
noncomputable def cY(s:Nat)(es:List (Nat×Nat×List Int))(S:St):St:=es.foldr (fun e S=>er (s+e.1) (s+e.2.1) e.2.2 S) S
theorem uL{s e:Nat}{cs:List Int}{S:St}(h1:1≤s)(h2:s≤e)(h3:e≤S.text.length+1):(er s e cs S).text.length=S.text.length+cs.length-(e-s):=by
 unfold er;split
 ·rename_i h;obtain⟨rfl,rfl⟩:=h;simp
 ·exact ig h1 h2 h3
theorem oh{s n:Nat}{S:St}(h1:1≤s)(hS:s-1+n≤S.text.length):∀(es:List (Nat×Nat×List Int)) (lo:Nat),ju n lo es→s-1+lo≤(cY s es S).text.length∧(cY s es S).text.length≤S.text.length+dw es
 | [],lo,h=>⟨by show _≤S.text.length;have:lo≤n:=h;exact ln [_,_,_,_] [.l (.a .x0 .x1) .x2,.l .x3 .x1] (.a .x0 .x3) .x2 [] rfl hS this,by show S.text.length≤_;simp[dw]⟩
 | e::es,lo,⟨a1,a2,a3⟩=>by
  obtain⟨i1,i2⟩:=oh h1 hS es _ a3;show _≤(er (s+e.1) (s+e.2.1) e.2.2 (cY s es S)).text.length∧(er (s+e.1) (s+e.2.1) e.2.2 (cY s es S)).text.length≤_;rw[uL (by exact ln [_,_] [.l .k1 .x0] .k1 (.a .x0 .x1) [] rfl h1) (by exact ln [_,_,_] [.l .x1 .x2] (.a .x0 .x1) (.a .x0 .x2) [] rfl a2) (by exact ln [_,_,_,_] [.l (.a .x1 .x2) .x3,.f .p11 .x0] (.a .x0 .x2) .p31 [] rfl i1 (su h1))]
  have:dw (e::es)=e.2.2.length+dw es:=by simp[dw]
  exact⟨ln [_,_,_,_,_,_,_,_,_] [.l .x2 .x3,.l (.a .x1 .x4) .x5,.e (.a (.x 8) (.a .x0 .x3)) (.a .x0 .x4),.f (.a (.x 7) (.x 8)) (.a .x5 .x6)] (.a .x1 .x2) (.x 7) [] rfl a1 i1 (su (ln [_,_,_] [.l .x1 .x2] (.a .x0 .x1) (.a .x0 .x2) [] rfl a2)) (su (ln [_,_,_,_,_,_,_] [.l (.a .x1 .x3) .x4,.e (.a .x6 (.a .x0 .x2)) (.a .x0 .x3)] .x6 (.a .x4 .x5) [] rfl i1 (su (ln [_,_,_] [.l .x1 .x2] (.a .x0 .x1) (.a .x0 .x2) [] rfl a2)))),ln [_,_,_,_,_,_] [.l .x1 (.a .x0 .x2),.f .x3 (.a .x4 .x2),.l .x5 (.a .x1 .x4)] .x5 (.a .x0 .x3) [] rfl i2 this sb⟩
section
variable {Sx:Spec} {σ:Sto} {Q:KV} {vs:List PV}
noncomputable def s46(vs:List PV)(σ:Sto)(Q:KV):Prop:=∃X S,∃(s e:Nat) (cs:List Int),vs=[.obj X.b,.int s,.int e,eI cs]∧BA σ X S∧1≤s∧s≤e∧e≤S.text.length+1∧S.text.length+cs.length+cs.length≤cap∧
 ∀σ',BA σ' X (cY s (a9 (sub S.text (s-1) (e-1)) cs) S)→Fr (inX X) σ σ'→Q (.bool (decide (a9 (sub S.text (s-1) (e-1)) cs≠[]))) σ'
theorem zn{X:BX}{S:St}{s e:Nat}{cs:List Int}(B:BA σ X S)(h1:1≤s)(h2:s≤e)(h3:e≤S.text.length+1)(h4:S.text.length+cs.length+cs.length≤cap)
  (h:∀σ',BA σ' X (cY s (a9 (sub S.text (s-1) (e-1)) cs) S)→Fr (inX X) σ σ'→Q (.bool (decide (a9 (sub S.text (s-1) (e-1)) cs≠[]))) σ'):s46 [.obj X.b,.int s,.int e,eI cs] σ Q:=⟨X,S,s,e,cs,rfl,B,h1,h2,h3,h4,h⟩
inductive I46(σ:Sto)(X:BX)(S:St)(s e:Nat)(cs:List Int)(es:List (Nat×Nat×List Int)):Nat→List PV→Sto→Prop
 | mk {k:Nat} {x y z:PV} {τ:Sto} (B:BA τ X (cY s (es.drop (es.length-k)) S)) (F:Fr (inX X) σ τ):I46 σ X S s e cs es k [.obj X.b,.int s,.int e,eI cs,eL eE es,x,y,z] τ
theorem k46(h15:Sx 15=s15)(h45:Sx 45=s45)(h84:Sx 84=s84)(h:s46 vs σ Q):Bd Sx 4 b46 4 vs σ Q:=by
 obtain⟨X,S,s,e,cs,rfl,B,h1,h2,h3,h4,h⟩:=h;have hcap:cap=2000000:=rfl;have hb:big=16777216:=rfl;have hcs:cs.length≤cap:=Nat.le_trans (Nat.le_add_left _ _) h4;have hsl:(sub S.text (s-1) (e-1)).length=e-1-(s-1):=bI (by exact ln [_,_,_] [.l .x0 .p11,.e .p21 .x0] .x2 .x1 [] rfl h3 (su (ln [_,_] [.l .k1 .x0,.l .x0 .x1] .k1 .x1 [] rfl h1 h2)));obtain⟨ok1,ok2⟩:=vV (sub S.text (s-1) (e-1)) cs;rw[hsl]at ok1;refine⟨rfl,x_a (bb (ae (gy (aa rfl) B.hb rfl (pa rfl) rfl h84 fun Q w=>mS B h1 h2 h3 w) (pa rfl)) rfl h45 fun Q w=>zo (by exact ln [_,_,_,_,_,_,_,_] [.l .x0 .p11,.l (.a (.a .x1 .x2) .x2) .x3,.e .x3 (.k 2000000),.f .x4 (.k 16777216),.e .x5 .x6,.l .x6 (.x 7),.e (.p 7 1) .x0] .p51 .x4 [] rfl h3 h4 hcap hb hsl sb (su (ln [_,_] [.l .k1 .x0,.l .x0 .x1] .k1 .x1 [] rfl h1 h2))) (by lia) w) rfl ?_⟩;clear hsl hb;generalize a9 (sub S.text (s-1) (e-1)) cs=es at*;refine dL (I46 σ X S s e cs es) (hE (Cl (aa rfl))) (.mk (by rw[Nat.sub_zero,List.drop_length];exact B) Fr.refl) (fun k hk loc τ K' I _ hK=>?_) fun loc τ I=>?_
 ·rw[List.length_reverse]at hk;obtain @⟨x,y,z,_,B1,F1⟩:=I;have hlt:es.length-1-k<es.length:=by exact ln [_,_,_] [.l .x1 .x2,.e .p21 .x0] .p11 .x0 [] rfl sb (su (ln [_,_] [.l .p01 .x1] .k1 .x1 [] rfl hk))
  rw[List.getElem_reverse];have hd:es.drop (es.length-(k+1))=es[es.length-1-k]::es.drop (es.length-k):=by
   rw[show es.length-(k+1)=es.length-1-k by exact lne [_,_,_,_,_] [.f (.a .x2 .x0) .x4,.e (.a .x3 .p01) .x1,.f .p41 .x1,.e (.a .x2 .x0) .x4,.f (.a .x3 .p01) .x1,.e .p41 .x1] .x3 .x2 [1,1,1,0,0,0] [0,0,0] rfl rfl (su (ln [_,_,_] [.l .p01 .x1,.l .x1 .p21] .x0 .x2 [] rfl hk sl)) (su hk) (su (ln [_,_] [.l .p01 .x1] .k1 .x1 [] rfl hk)) (su (ln [_,_,_] [.l .p01 .x1,.l .x1 .p21] .x0 .x2 [] rfl hk sl)) (su hk) (su (ln [_,_] [.l .p01 .x1] .k1 .x1 [] rfl hk)),List.drop_eq_getElem_cons hlt,show es.length-1-k+1=es.length-k by exact lne [_,_,_,_,_] [.e (.a .x2 .x0) .x4,.f (.a .x3 .x0) .x1,.e .p41 .x1,.f (.a .x2 .x0) .x4,.e (.a .x3 .x0) .x1,.f .p41 .x1] .p21 .x3 [1,1,1,0,0,0] [0,0,0] rfl rfl (su (ln [_,_,_] [.l .p01 .x1,.l .x1 .p21] .x0 .x2 [] rfl hk sl)) (su (Nat.le_of_lt hk)) (su (ln [_,_] [.l .p01 .x1] .k1 .x1 [] rfl hk)) (su (ln [_,_,_] [.l .p01 .x1,.l .x1 .p21] .x0 .x2 [] rfl hk sl)) (su (Nat.le_of_lt hk)) (su (ln [_,_] [.l .p01 .x1] .k1 .x1 [] rfl hk))]
  obtain⟨lo,hlo⟩:=ok1.drop (es.length-(k+1));have hszd:=qk es (es.length-(k+1));have hKK:∀x y z τ',BA τ' X (cY s (es.drop (es.length-(k+1))) S)→Fr (inX X) σ τ'→K' (.next [.obj X.b,.int s,.int e,eI cs,eL eE es,x,y,z]) τ':=fun x y z τ' b f=>hK _ _ (.mk b f)
  clear hK h;rw[hd]at hlo hszd hKK;generalize es[es.length-1-k]=ed at*;generalize es.drop (es.length-k)=r at*;obtain⟨a1,a2,a3⟩:=hlo;have hrl:=oh (S:=S) (n:=e-1-(s-1)) h1 (by exact ln [_,_,_,_,_] [.l .x0 .p11,.e (.a .x3 .x2) .x4,.e .p41 .x0] (.a .x2 .x3) .x1 [] rfl h3 (su (ln [_,_,_,_] [.l .x0 .x1,.l .x1 .p31,.e .p21 .x0] .x2 .x3 [] rfl h2 sl (su h1))) (su (ln [_,_] [.l .k1 .x0,.l .x0 .x1] .k1 .x1 [] rfl h1 h2))) r _ a3;have hle:=a3.le;have hsz:dw (ed::r)=ed.2.2.length+dw r:=List.sum_cons;exact x_E (y_c (ae (aa rfl) (ae (ev_add (aa rfl) (aa (v:=.int (ed.1:Nat)) rfl)) (ae (ev_add (aa rfl) (aa (v:=.int (ed.2.1:Nat)) rfl)) (ae (aa rfl) aD)))) rfl h15 (zD (s:=s+ed.1) (e:=s+ed.2.1) (cs:=ed.2.2) B1 (by exact ln [_,_] [.l .k1 .x0] .k1 (.a .x0 .x1) [] rfl h1) (by exact ln [_,_,_] [.l .x1 .x2] (.a .x0 .x1) (.a .x0 .x2) [] rfl a2) (by exact ln [_,_,_,_] [.l (.a .x2 .x1) .x3,.f .p21 .x0] (.a .x0 .x1) .p31 [] rfl hrl.1 (su h1)) (by exact ln [_,_,_,_,_,_,_,_] [.l (.a (.a .x0 .x1) .x1) .x2,.l .x3 .x1,.l .x4 .x3,.l .x5 (.a .x0 .x6),.f .x4 (.a (.x 7) .x6)] (.a .x5 (.x 7)) .x2 [] rfl h4 ok2 hszd hrl.2 hsz) fun σ2 v B2 F2=>x_n (hKK _ _ _ _ B2 (F1.trans F2))))
 ·obtain @⟨x,y,z,_,B1,F1⟩:=I;rw[List.length_reverse,Nat.sub_self]at B1;refine x_r (ay (fv (aw (aa rfl)) aJ) (congrArg PV.bool (decide_eq_decide.mpr ?_))) (Wk.same (h τ B1 F1));exact Int.ofNat_lt.trans List.length_pos_iff
end
noncomputable def cc(S:St)(lo hi:Nat):List Int:=sub S.text (ak S.text lo-1) (hi-1)
noncomputable def eA(col:Int)(way:Nat)(L:List Int)(lo hi:Nat)(S:St):List (Nat×Nat×List Int):=a9 (cc S lo hi) (aV col way L (cc S lo hi))
noncomputable def bk(col:Int)(way:Nat)(L:List Int)(lo hi:Nat)(S:St):St:=cY (ak S.text lo) (eA col way L lo hi S) S
noncomputable def fp(L t:List Int):Nat→Nat→Nat
 | 0,p=>p
 | n+1,p=>if p<t.length+1∧aK L (eo t p)=true then fp L t n (aQ t p+1)else p
noncomputable def upF(L t:List Int):Nat→Nat→Nat
 | 0,p=>p
 | n+1,p=>if 1<p∧aK L (eo t (p-1))=false then upF L t n (ak t (p-1))else p
noncomputable def fw(L t:List Int):Nat→Nat→Nat
 | 0,p=>p
 | n+1,p=>if p<t.length+1∧aK L (eo t (p+1))=false then fw L t n (aQ t (p+1))else p
noncomputable def gK(L t:List Int)(p:Nat):Nat:=fp L t (t.length+2) (ak t p)
noncomputable def aL(L t:List Int)(p:Nat):Nat×Nat:=
 if t.length+1≤gK L t p∨aK L (eo t (gK L t p))=true then(p,p)else(upF L t (t.length+2) (gK L t p),fw L t (t.length+2) (aQ t (gK L t p)))
theorem j6{L t:List Int}:∀(n p:Nat),1≤p→p≤fp L t n p
 | 0,p,_=>Nat.le_refl _
 | n+1,p,h=>by
  unfold fp;split
  ·rename_i q;have q10:=cy h (by exact Nat.le_of_lt q.1:p≤t.length+1)
   have:=j6 (L:=L) (t:=t) n (aQ t p+1) (by exact ln [_] [] .k1 .p01 [] rfl);exact ln [_,_,_] [.l .x0 .x1,.l .p11 .x2] .x0 .x2 [] rfl q10.1 this
  ·exact Nat.le_refl _
theorem t7{L t:List Int}:∀(n p:Nat),1≤p→1≤upF L t n p∧upF L t n p≤p
 | 0,p,h=>⟨h,Nat.le_refl _⟩
 | n+1,p,h=>by
  unfold upF;split
  ·rename_i q;have q11:=be (t:=t) (p:=p-1) (by exact ln [_,_] [.l (.k 2) .x0,.f .p11 .x0] .k1 .x1 [] rfl q.1 (su h))
   have:=t7 (L:=L) (t:=t) n (ak t (p-1)) (by exact q11.1);exact⟨this.1,ln [_,_,_,_] [.l .x1 .x2,.l .x3 .x1,.l .x2 .x0] .x3 .x0 [] rfl q11.2 this.2 sb⟩
  ·exact⟨h,Nat.le_refl _⟩
theorem pu{L t:List Int}:∀(n p:Nat),p≤t.length+1→p≤fw L t n p∧fw L t n p≤t.length+1
 | 0,p,h=>⟨Nat.le_refl _,h⟩
 | n+1,p,h=>by
  unfold fw;split
  ·rename_i q;have q12:=cy (t:=t) (p:=p+1) (by exact ln [_] [] .k1 .p01 [] rfl) (by exact q.1)
   have:=pu (L:=L) (t:=t) n (aQ t (p+1)) (by exact q12.2);exact⟨ln [_,_,_] [.l .p01 .x1,.l .x1 .x2] .x0 .x2 [] rfl q12.1 this.1,this.2⟩
  ·exact⟨Nat.le_refl _,h⟩
section
variable {Sx:Spec} {σ:Sto} {Q:KV} {vs:List PV}
noncomputable def s47(vs:List PV)(σ:Sto)(Q:KV):Prop:=∃X S,∃(s e f:Nat) (col:Int) (way:Nat) (L:List Int),vs=[.obj X.b,.int s,.int e,.obj f]∧BA σ X S∧σ f=some (bN col way L)∧1≤s∧1≤e∧s≤S.text.length+1∧e≤S.text.length+1∧0≤col∧col≤20∧
 S.text.length≤4000∧(aV col way L (cc S (min s e) (max s e))).length≤900000∧
 ∀σ',BA σ' X (bk col way L (min s e) (max s e) S)→Fr (inX X) σ σ'→Q (.bool (decide (eA col way L (min s e) (max s e) S≠[]))) σ'
theorem uz{X:BX}{S:St}{s e f:Nat}{col:Int}{way:Nat}{L:List Int}(B:BA σ X S)(h0:σ f=some (bN col way L))(h1:1≤s)(h2:1≤e)(h3:s≤S.text.length+1)(h4:e≤S.text.length+1)(h5:0≤col)(h6:col≤20)(h7:S.text.length≤4000)
  (h8:(aV col way L (cc S (min s e) (max s e))).length≤900000) (h:∀σ',BA σ' X (bk col way L (min s e) (max s e) S)→Fr (inX X) σ σ'→Q (.bool (decide (eA col way L (min s e) (max s e) S≠[]))) σ'):
  s47 [.obj X.b,.int s,.int e,.obj f] σ Q:=⟨X,S,s,e,f,col,way,L,rfl,B,h0,h1,h2,h3,h4,h5,h6,h7,h8,h⟩
theorem k47(h4':Sx 4=s4)(h39:Sx 39=s39)(h40:Sx 40=s40)(h46:Sx 46=s46)(h84:Sx 84=s84)(h:s47 vs σ Q):Bd Sx 4 b47 2 vs σ Q:=by
 obtain⟨X,S,s,e,f,col,way,L,rfl,B,h0,h1,h2,h3,h4,h5,h6,h7,h8,h⟩:=h;refine⟨rfl,x_t (bb (pa rfl) rfl h4' fun Q w=>rA B.hb h1 h2 h3 h4 w) ?_⟩;have a1:1≤min s e:=Nat.le_min.mpr ⟨h1,h2⟩;have a2:max s e≤S.text.length+1:=Nat.max_le.mpr ⟨h3,h4⟩;have a3:min s e≤max s e:=Nat.le_trans (Nat.min_le_left _ _) (Nat.le_max_left _ _);generalize min s e=lo at*;generalize max s e=hi at*;have l1:=be (t:=S.text) a1;have a4:=Nat.le_trans l1.2 a3;have hol:(cc S lo hi).length≤4000:=by unfold cc;rw[bI (by exact ln [_,_,_] [.l .x1 .p01,.e .p21 .x1] .x2 .x0 [] rfl a2 (su (ln [_,_] [.l .k1 .x0,.l .x0 .x1] .k1 .x1 [] rfl a1 a3)))];exact ln [_,_,_,_] [.l .x0 (.k 4000),.l .x1 .p01,.l .x2 .x3,.e .p31 .x1] .x2 (.k 4000) [] rfl h7 a2 sb (su (ln [_,_] [.l .k1 .x0,.l .x0 .x1] .k1 .x1 [] rfl a1 a3))
 refine x_a (bb (pa rfl) rfl h40 fun Q w=>qa B a1 (Nat.le_trans a3 a2) w) rfl (x_R (y_c (ae (aa rfl) (ae (aa rfl) (ae (aa rfl) (ae (bb (ae (gy (aa rfl) B.hb rfl (pa rfl) rfl h84 fun Q w=>mS B l1.1 a4 a2 w) (pa rfl)) rfl h39 fun Q w=>zr h0 hol h5 h6 w) aD)))) rfl h46 (zn B l1.1 a4 a2 ?_ fun σ1 B1 F1=>Wk.same (h σ1 B1 F1))));exact Nat.le_trans (Nat.add_le_add (Nat.add_le_add h7 h8) h8) (Nat.le_of_ble_eq_true rfl)
noncomputable def s49(vs:List PV)(σ:Sto)(Q:KV):Prop:=∃X S,∃(p f:Nat) (col:Int) (way:Nat) (L:List Int),vs=[.obj X.b,.int p,.obj f]∧BA σ X S∧σ f=some (bN col way L)∧1≤p∧p≤S.text.length+1∧Q (.tup [.int (aL L S.text p).1,.int (aL L S.text p).2]) σ
theorem zk{X:BX}{S:St}{p f:Nat}{col:Int}{way:Nat}{L:List Int}(B:BA σ X S)(h0:σ f=some (bN col way L))(h1:1≤p)(h2:p≤S.text.length+1)(h:Q (.tup [.int (aL L S.text p).1,.int (aL L S.text p).2]) σ):s49 [.obj X.b,.int p,.obj f] σ Q:=⟨X,S,p,f,col,way,L,rfl,B,h0,h1,h2,h⟩
theorem pY{L t:List Int}{k q:Nat}(h:¬(q<t.length+1∧aK L (eo t q)=true)):fp L t k q=q:=by
 cases k with
 | zero=>rfl
 | succ k=>exact if_neg h
theorem t6{L t:List Int}{k q:Nat}(h:¬(1<q∧aK L (eo t (q-1))=false)):upF L t k q=q:=by
 cases k with
 | zero=>rfl
 | succ k=>exact if_neg h
theorem qN{L t:List Int}{k q:Nat}(h:¬(q<t.length+1∧aK L (eo t (q+1))=false)):fw L t k q=q:=by
 cases k with
 | zero=>rfl
 | succ k=>exact if_neg h
inductive I49(σ:Sto)(b p f n:Nat)(F:Nat→Nat→Nat)(r:Nat):Nat→List PV→Sto→Prop
 | mk {q k:Nat} (hq:1≤q) (hk:n-q≤k) (he:F k q=r):I49 σ b p f n F r (n-q) [.obj b,.int p,.obj f,.int q,.undef,.undef] σ
inductive J49(σ:Sto)(b p f n q:Nat)(F:Nat→Nat→Nat)(r:Nat):Nat→List PV→Sto→Prop
 | mk {st k:Nat} (h1:1≤st) (h2:st≤n) (hk:st≤k) (he:F k st=r):J49 σ b p f n q F r st [.obj b,.int p,.obj f,.int q,.int st,.undef] σ
inductive L49(σ:Sto)(b p f n q st:Nat)(F:Nat→Nat→Nat)(r:Nat):Nat→List PV→Sto→Prop
 | mk {en k:Nat} (h1:en≤n) (hk:n+1-en≤k) (he:F k en=r):L49 σ b p f n q st F r (n+1-en) [.obj b,.int p,.obj f,.int q,.int st,.int en] σ
theorem k49(h40:Sx 40=s40)(h41:Sx 41=s41)(h48:Sx 48=s48)(h:s49 vs σ Q):Bd Sx 3 b49 3 vs σ Q:=by
 obtain⟨X,S,p,f,col,way,L,rfl,B,h0,h1,h2,h⟩:=h;have l1:=be (t:=S.text) h1;generalize ht:S.text=t at*;have q40:∀{p:Nat},1≤p→p≤t.length+1→∀Q:KV,Q (.int (ak t p:Nat)) σ→s40 [.obj X.b,.int p] σ Q:=fun a b Q w=>qa B a (ht▸b) (ht▸w)
 have q41:∀{p:Nat},1≤p→p≤t.length+1→∀Q:KV,Q (.int (aQ t p:Nat)) σ→s41 [.obj X.b,.int p] σ Q:=fun a b Q w=>uB B a (ht▸b) (ht▸w)
 have q48:∀{p:Nat},1≤p→p≤t.length+1→∀Q:KV,Q (.bool (aK L (eo t p))) σ→s48 [.obj X.b,.int p,.obj f] σ Q:=fun a b Q w=>zm B h0 a (ht▸b) (ht▸w)
 have hb:σ X.b=some (db X.t X.m S.point (t.length+1) S.tk S.ctk):=ht▸B.hb;clear B h0 ht;refine⟨rfl,x_a (bb (pa rfl) rfl h40 (q40 h1 h2)) rfl (mL (I49 σ X.b p f (t.length+2) (fp L t) (gK L t p)) _ (.mk l1.1 (Nat.sub_le _ _) rfl) fun n loc τ I=>?_)⟩;obtain @⟨q,k,hq,hk,he⟩:=I;refine⟨_,cq (p0 hb rfl) fun c=>bb (pa rfl) rfl h48 (q48 hq (Nat.le_of_lt (Int.ofNat_lt.mp (of_decide_eq_true c)))),fun c K _ hK=>?_,fun c=>?_⟩
 ·have c:=Bool.and_eq_true_iff.mp c;have c1:=Int.ofNat_lt.mp (of_decide_eq_true c.1);have le:=cy hq (Nat.le_of_lt c1);cases k with
  | zero=>exact absurd hk (by exact fun zz=>lnf _ [_,_,_,_] [.l .x1 .x2,.l .x2 .p01,.l .x3 .k0,.f (.a .x3 .x1) (.a .x0 (.k 2))] [] rfl le.1 le.2 hk (su (ln [_,_] [.l .p11 .p01] .x1 (.a .x0 (.k 2)) [] rfl c1)))
  | succ k=>
   unfold fp at he;rw[if_pos ⟨c1,c.2⟩]at he;exact x_a (ay (ev_add (bb (pa rfl) rfl h41 (q41 hq (Nat.le_of_lt c1))) aJ) (show _=PV.int ((aQ t q+1:Nat):Int)from rfl)) rfl (x_n (hK _ _ _ (by exact ln [_,_,_,_,_] [.l .x1 .x2,.f (.a .x3 .x1) (.a .x0 (.k 2)),.e (.a .x4 .p21) (.a .x0 (.k 2))] .p41 .x3 [] rfl le.1 (su (ln [_,_,_] [.l .x1 .x2,.l .x2 .p01] .x1 (.a .x0 (.k 2)) [] rfl le.1 le.2)) (su (ln [_,_] [.l .x1 .p01] .p11 (.a .x0 (.k 2)) [] rfl le.2))) (.mk (Nat.succ_pos _) (by exact ln [_,_,_,_,_,_] [.l .x1 .x2,.l .x3 .p41,.f (.a .x3 .x1) (.a .x0 (.k 2)),.e (.a .x5 .p21) (.a .x0 (.k 2))] .x5 .x4 [] rfl le.1 hk (su (ln [_,_,_] [.l .x1 .x2,.l .x2 .p01] .x1 (.a .x0 (.k 2)) [] rfl le.1 le.2)) (su (ln [_,_] [.l .x1 .p01] .p11 (.a .x0 (.k 2)) [] rfl le.2))) he)))
 have hq0:gK L t p=q:=he▸pY fun z=>by rw[decide_eq_true (Int.ofNat_lt.mpr z.1),z.2]at c;cases c
 unfold aL at h;rw[hq0]at h;clear hk he c hq0 l1 h2;refine f8 (dG (p0 hb rfl) fun c=>bb (pa rfl) rfl h48 (q48 hq (Nat.le_of_lt (Int.ofNat_lt.mp (Int.not_le.mp (of_decide_eq_false c)))))) (fun c=>x_r (gz (pa rfl) rfl) (Wk.same ?_)) fun c=>?_
 ·rw[if_pos ((Bool.or_eq_true_iff.mp c).imp (fun z=>Int.ofNat_le.mp (of_decide_eq_true z)) id)]at h;exact h
 have c:=Bool.or_eq_false_iff.mp c;have hlt:q<t.length+1:=Int.ofNat_lt.mp (Int.not_le.mp (of_decide_eq_false c.1));rw[if_neg fun z=>z.elim (Nat.not_le.mpr hlt) fun z=>by rw[c.2]at z;cases z]at h;have hle:=Nat.le_of_lt hlt;have le:=cy hq hle;refine x_a (aa rfl) rfl (mL (J49 σ X.b p f (t.length+1) q (upF L t) (upF L t (t.length+2) q)) _ (.mk hq hle (Nat.le_succ_of_le hle) rfl) fun st loc τ I=>?_);obtain @⟨k,hs1,hs2,hk,he⟩:=I;have e1:(st:Int)-1=((st-1:Nat):Int):=by exact lze [_,_] [] [.f .p11 .x0,.e .p11 .x0] (.d .x0 .k1) .x1 [1,0] [0] rfl rfl (ie (su hs1)) (ie (su hs1))
 have hs3:=Nat.le_trans (Nat.sub_le st 1) hs2;refine⟨_,cq (p0 hb rfl) fun c=>jf (bb (ae (aa rfl) (ae (pi rfl e1) (ae (aa rfl) aD))) rfl h48 (q48 (Nat.le_sub_one_of_lt (Int.ofNat_lt.mp (of_decide_eq_true c))) hs3)),fun c K _ hK=>?_,fun c=>?_⟩
 ·have c:=Bool.and_eq_true_iff.mp c;have c1:1<st:=Int.ofNat_lt.mp (of_decide_eq_true c.1);have c2:=Nat.le_sub_one_of_lt c1;have le:=be (t:=t) c2;cases k with
  | zero=>exact absurd hk (by exact fun zz=>lnf _ [_] [.l .k1 .x0,.l .x0 .k0] [] rfl hs1 hk)
  | succ k=>
   unfold upF at he;rw[if_pos ⟨c1,bnt c.2⟩]at he;exact x_a (bb (ae (aa rfl) (ae (pi rfl e1) aD)) rfl h40 (q40 c2 hs3)) rfl (x_n (hK _ _ _ (by exact ln [_,_,_] [.l .x2 .x1,.e .p11 .x0] .p21 .x0 [] rfl le.2 (su hs1)) (.mk le.1 (Nat.le_trans le.2 hs3) (by exact ln [_,_,_,_] [.l .x2 .x1,.l .x0 .p31,.e .p11 .x0] .x2 .x3 [] rfl le.2 hk (su hs1)) he)))
 rw[←he,t6 fun z=>by rw[decide_eq_true (show(st:Int)>1 from Int.ofNat_lt.mpr z.1),z.2]at c;cases c]at h;clear e1 hs1 hs2 hs3 hk he c;refine x_a (bb (pa rfl) rfl h41 (q41 hq hle)) rfl (mL (L49 σ X.b p f (t.length+1) q st (fw L t) (fw L t (t.length+2) (aQ t q))) _ (.mk le.2 (Nat.sub_le _ _) rfl) fun n loc τ I=>?_);obtain @⟨en,k,hs2,hk,he⟩:=I;refine⟨_,cq (p0 hb rfl) fun c=>jf (bb (ae (aa rfl) (ae (ay (ev_add (aa rfl) aJ) (show _=PV.int ((en+1:Nat):Int)from rfl)) (ae (aa rfl) aD))) rfl h48 (q48 (Nat.succ_pos _) (Int.ofNat_lt.mp (of_decide_eq_true c)))),fun c K _ hK=>?_,fun c=>?_⟩
 ·have c:=Bool.and_eq_true_iff.mp c;have c1:en<t.length+1:=Int.ofNat_lt.mp (of_decide_eq_true c.1);have le:=cy (t:=t) (Nat.succ_pos en) c1;cases k with
  | zero=>exact absurd hk (by lia)
  | succ k=>
   unfold fw at he;rw[if_pos ⟨c1,bnt c.2⟩]at he;exact x_a (bb (ae (aa rfl) (ae (ay (ev_add (aa rfl) aJ) (show _=PV.int ((en+1:Nat):Int)from rfl)) aD)) rfl h41 (q41 (Nat.succ_pos _) c1)) rfl (x_n (hK _ _ _ (by exact ln [_,_,_,_,_] [.l .p11 .x2,.f (.a .x3 .x1) (.a .p01 .k1),.e (.a .x4 .x2) (.a .p01 .k1)] .p41 .x3 [] rfl le.1 (su (ln [_,_] [.l .x1 .p01] .x1 (.a .p01 .k1) [] rfl hs2)) (su (ln [_,_] [.l .x1 .p01] .x1 (.a .p01 .k1) [] rfl le.2))) (.mk le.2 (by exact ln [_,_,_,_,_,_] [.l .p11 .x2,.l .x3 .p41,.f (.a .x3 .x1) (.a .p01 .k1),.e (.a .x5 .x2) (.a .p01 .k1)] .x5 .x4 [] rfl le.1 hk (su (ln [_,_] [.l .x1 .p01] .x1 (.a .p01 .k1) [] rfl hs2)) (su (ln [_,_] [.l .x1 .p01] .x1 (.a .p01 .k1) [] rfl le.2))) he)))
 rw[←he,qN fun z=>by rw[decide_eq_true (Int.ofNat_lt.mpr z.1),z.2]at c;cases c]at h;exact x_r (gz (pa rfl) rfl) (Wk.same h)
theorem rE{L t:List Int}{p:Nat}(h1:1≤p)(h2:p≤t.length+1):1≤(aL L t p).1∧(aL L t p).1≤(aL L t p).2∧(aL L t p).2≤t.length+1:=by
 unfold aL;split
 ·exact⟨h1,Nat.le_refl _,h2⟩
 ·rename_i q;have l1:=be (t:=t) h1;have a:=j6 (L:=L) (t:=t) (t.length+2) (ak t p) l1.1;have a':ak t p≤gK L t p:=a;have b:=cy (t:=t) (p:=gK L t p) (by exact ln [_,_] [.l .k1 .x0,.l .x0 .x1] .k1 .x1 [] rfl l1.1 a') (Nat.le_of_lt (Nat.not_le.mp fun z=>q (.inl z)));have c:=t7 (L:=L) (t:=t) (t.length+2) (gK L t p) (by exact ln [_,_] [.l .k1 .x0,.l .x0 .x1] .k1 .x1 [] rfl l1.1 a');have d:=pu (L:=L) (t:=t) (t.length+2) (aQ t (gK L t p)) b.2;dsimp only;exact⟨c.1,⟨ln [_,_,_,_] [.l .x0 .x1,.l .x2 .x0,.l .x1 .x3] .x2 .x3 [] rfl b.1 c.2 d.1,d.2⟩⟩
noncomputable def s50(vs:List PV)(σ:Sto)(Q:KV):Prop:=∃X S,∃(f:Nat) (col:Int) (way:Nat) (L:List Int),vs=[.obj X.b,.obj f]∧BA σ X S∧σ f=some (bN col way L)∧1≤S.point∧S.point≤S.text.length+1∧0≤col∧col≤20∧S.text.length≤4000∧
 ((aL L S.text S.point).1=(aL L S.text S.point).2→Q (.bool false) σ)∧
 ((aL L S.text S.point).1≠(aL L S.text S.point).2→(aV col way L (cc S (aL L S.text S.point).1 (aL L S.text S.point).2)).length≤900000∧
  ∀σ',BA σ' X (bk col way L (aL L S.text S.point).1 (aL L S.text S.point).2 S)→Fr (inX X) σ σ'→Q (.bool (decide (eA col way L (aL L S.text S.point).1 (aL L S.text S.point).2 S≠[]))) σ')
theorem p9{X:BX}{S:St}{f:Nat}{col:Int}{way:Nat}{L:List Int}(B:BA σ X S)(h0:σ f=some (bN col way L))(h1:1≤S.point)(h2:S.point≤S.text.length+1)(h3:0≤col)(h4:col≤20)(h5:S.text.length≤4000)
  (h6:(aL L S.text S.point).1=(aL L S.text S.point).2→Q (.bool false) σ)
  (h:(aL L S.text S.point).1≠(aL L S.text S.point).2→(aV col way L (cc S (aL L S.text S.point).1 (aL L S.text S.point).2)).length≤900000∧
  ∀σ',BA σ' X (bk col way L (aL L S.text S.point).1 (aL L S.text S.point).2 S)→Fr (inX X) σ σ'→Q (.bool (decide (eA col way L (aL L S.text S.point).1 (aL L S.text S.point).2 S≠[]))) σ'):s50 [.obj X.b,.obj f] σ Q:=
 ⟨X,S,f,col,way,L,rfl,B,h0,h1,h2,h3,h4,h5,h6,h⟩
theorem k50(h47:Sx 47=s47)(h49:Sx 49=s49)(h:s50 vs σ Q):Bd Sx 2 b50 2 vs σ Q:=by
 obtain⟨X,S,f,col,way,L,rfl,B,h0,h1,h2,h3,h4,h5,h6,h⟩:=h;have bd:=rE (L:=L) h1 h2;refine⟨rfl,x_t (bb (pa0 B.hb rfl) rfl h49 fun Q w=>zk B h0 h1 h2 w) ?_⟩;generalize (aL L S.text S.point).1=lo at*;generalize (aL L S.text S.point).2=hi at*;refine f8 (pe rfl) (fun c=>x_r qL (Wk.same (h6 (Int.ofNat_inj.mp (eq_of_beq c))))) fun c=>?_
 obtain⟨h7,h8⟩:=h fun z=>ne_of_beq_false c (Int.ofNat_inj.mpr z)
 have e1:=Nat.min_eq_left bd.2.1;have e2:=Nat.max_eq_right bd.2.1;exact x_R (y_c (pa rfl) rfl h47 (uz B h0 bd.1 (Nat.le_trans bd.1 bd.2.1) (Nat.le_trans bd.2.1 bd.2.2) bd.2.2 h3 h4 h5 (by rw[e1,e2];exact h7) fun σ1 B1 F1=>Wk.same (by rw[e1,e2]at B1⊢;exact h8 σ1 B1 F1)))
end
end Mine
end
section
namespace Mine
section
variable {Sx:Spec} {σ:Sto} {Q:KV} {vs:List PV}
noncomputable def s51(vs:List PV)(σ:Sto)(Q:KV):Prop:=∃(t:Nat),vs=[.obj t,eI [],.int 8]∧σ t=some (.inst 1 [])∧∀σ' c,σ c=Option.none→GA σ' t c [] (List.replicate 8 0) []→Fr (gtc t c) σ σ'→Q .none σ'
theorem zj{t:Nat}(h0:σ t=some (.inst 1 []))(h:∀σ' c,σ c=Option.none→GA σ' t c [] (List.replicate 8 0) []→Fr (gtc t c) σ σ'→Q .none σ'):s51 [.obj t,eI [],.int 8] σ Q:=⟨t,rfl,h0,h⟩
theorem wr{α:Type}{e:α→PV}{x y:List α}:tO true .add (eL e x) (eL e y) σ Q=cU true ((x++y).map e) σ Q:=by
 rw[List.map_append];rfl
theorem k51(h:s51 vs σ Q):Bd Sx 3 b51 0 vs σ Q:=by
 obtain⟨t,rfl,h0,h⟩:=h;refine⟨rfl,dC (aa rfl) (aa rfl) h0 rfl rfl (wJ ((vO (f:=PV.int) (l:=[]) (aa rfl)) _ ((kS (gA aJ) (aa (v:=.int 8) rfl) (by decide) (by decide) (by decide)) _ ?_)))⟩;rw[wr,q0];refine⟨by decide,fun c hc=>?_⟩;have hct:=bM hc af;refine xl (aa rfl) ((an hct.symm).trans af) rfl rfl (dR (aw (f:=PV.int) (l:=[]) (aa rfl)) (aa rfl) rfl rfl (dR (ev_add (aw (f:=PV.int) (l:=[]) (aa rfl)) (aa rfl)) (aa rfl) rfl rfl (x_n (Wk.same (h _ c ((an hct).symm.trans hc) ⟨af,(an hct).trans af,hct.symm,by decide⟩ (((Fr.refl.set (.inl rfl)).set (.inr rfl)).set (.inl rfl)))))))
noncomputable def rW(deck:List Nat)(m:Nat):Nat:=match deck with
 | []=>0
 | n::_=>n % m
theorem vZ{deck:List Nat}{m:Nat}(h:0<m):rW deck m<m:=by
 unfold rW;split
 ·exact h
 ·exact Nat.mod_lt _ h
noncomputable def s91(vs:List PV)(σ:Sto)(Q:KV):Prop:=∃(dk m:Nat) (deck:List Nat),vs=[.obj dk,.int m]∧0<m∧σ dk=some (.list (deck.map eN))∧Q (.int (rW deck m)) (σ.set dk (.list (deck.tail.map eN)))
theorem yT{dk m:Nat}{deck:List Nat}(h0:0<m)(h1:σ dk=some (.list (deck.map eN)))(h:Q (.int (rW deck m)) (σ.set dk (.list (deck.tail.map eN)))):s91 [.obj dk,.int m] σ Q:=⟨dk,m,deck,rfl,h0,h1,h⟩
theorem zX(l:List Nat):ivs (l.map eN)=some (l.map Int.ofNat):=by
 induction l with
 | nil=>rfl
 | cons n l ih=>show(ivs (l.map eN)).map ((n:Int)::·)=_;rw[ih];rfl
theorem k91(h:s91 vs σ Q):Bd Sx 2 b91 0 vs σ Q:=by
 obtain⟨dk,m,deck,rfl,h0,h1,h⟩:=h;refine⟨rfl,x_R (yv (Aj (aa rfl) h1 (zX deck) iN) (fun c=>?_) fun c=>aJ _ ?_)⟩
 ·cases deck with
  | nil=>cases c
  | cons n deck=>exact Cy (v:=.int (n:Int)) (aa rfl) h1 aJ (Int.le_refl _) rfl (aa (v:=.int (m:Int)) rfl _ ⟨fun e=>by exact lzf [_] [] _ [.l .k1 .x0,.e .x0 .k0] [] rfl (il h0) e,by rw[Int.fmod_eq_emod_of_nonneg _ (Int.natCast_nonneg _)];exact Wk.same h⟩)
 ·cases deck with
  | nil=>rw[show List.map eN ([]:List Nat).tail=List.map eN []from rfl,gQ h1]at h;exact Wk.same h
  | cons n deck=>cases c
noncomputable def s77(vs:List PV)(σ:Sto)(Q:KV):Prop:=∃(b:Nat),vs=[.obj b,.int 1,.str 4,.int 8]∧σ b=some (.inst 4 [])∧∀σ' t c m d,σ t=Option.none→σ c=Option.none→σ m=Option.none→σ d=Option.none→BA σ' ⟨b,t,c,m,d,[]⟩ ⟨[],1,[],1,1⟩→Fr (inX ⟨b,t,c,m,d,[]⟩) σ σ'→Q .none σ'
theorem yY{b:Nat}(h0:σ b=some (.inst 4 []))(h:∀σ' t c m d,σ t=Option.none→σ c=Option.none→σ m=Option.none→σ d=Option.none→BA σ' ⟨b,t,c,m,d,[]⟩ ⟨[],1,[],1,1⟩→Fr (inX ⟨b,t,c,m,d,[]⟩) σ σ'→Q .none σ'):s77 [.obj b,.int 1,.str 4,.int 8] σ Q:=⟨b,rfl,h0,h⟩
theorem k77(h51:Sx 51=s51)(h69:Sx 69=s69)(h:s77 vs σ Q):Bd Sx 4 b77 0 vs σ Q:=by
 obtain⟨b,rfl,h0,h⟩:=h;refine⟨rfl,dC (aa rfl) (aa rfl) h0 rfl rfl (dR (aa rfl) (aa rfl) rfl rfl (wJ (nI (ae iN (ae (aa rfl) aD)) rfl (fun _=>rfl) fun t ht=>?_)))⟩;rw[h51];have htb:=bM ht af;have ht0:=(an htb).symm.trans ht;refine zj af fun σ1 c hc G F=>⟨rfl,?_⟩
 have hct:=G.ne;have hcb:=bM hc ((an htb.symm).trans af);have hc0:=(an hcb).symm.trans ((an hct.symm).symm.trans hc);have f1:∀x,x≠b→x≠t→x≠c→σ1 x=σ x:=fun x h1 h2 h3=>(F x fun z=>z.elim h2 h3).trans ((an h2).trans (an h1))
 have hb1:σ1 b=some (.inst 4 [(8,.int 1),(13,.str 4)]):=(F b fun z=>z.elim htb.symm hcb.symm).trans ((an htb.symm).trans af);clear F hc ht h0;refine xl (fs':=[(8,.int 1),(13,.str 4),(14,.obj t)]) (aa rfl) hb1 rfl rfl (wJ (nI aD rfl (fun _=>rfl) fun m hm=>?_));rw[h69];have hmb:=bM hm af;have hm1:=(an hmb).symm.trans hm;have hmt:=bM hm1 G.ht;have hmc:=bM hm1 G.hc;have hm0:=(f1 m hmb hmt hmc).symm.trans hm1;refine y9 af fun d hd=>⟨rfl,?_⟩
 have hdm:=bM hd af;have hd1:=(an hdm).symm.trans hd;have hdb:=bM hd1 af;have hd2:=(an hdb).symm.trans hd1;have hdt:=bM hd2 G.ht;have hdc:=bM hd2 G.hc;have hd0:=(f1 d hdb hdt hdc).symm.trans hd2;have back:∀{x:Nat} {o1 o2 o3 o4 o:cb},x≠b→x≠m→x≠d→((((((σ1.set b o1).set m o2).set d o3).set m o4).set b o) x=σ1 x):=fun h1 h2 h3=>(an h1).trans ((an h2).trans ((an h3).trans ((an h2).trans (an h1))))
 refine xl (fs':=[(8,.int 1),(13,.str 4),(14,.obj t),(15,.obj m)]) (aa rfl) ((an hmb.symm).trans ((an hdb.symm).trans ((an hmb.symm).trans af))) rfl rfl (BD (r:=[]) [(16,.int 1),(17,.int 1),(18,.int 1),(19,.none),(20,.bool true),(21,.bool false),(22,.int 1),(23,.int 1),(24,.int 1),(25,.list false []),(26,.none),(27,.none),(28,.none),(29,.none),(30,.none),(31,.none)] 15 (Nat.le_of_ble_eq_true rfl) (fun p hp=>Nat.le_of_ble_eq_true (List.all_eq_true.mp (show List.all _ (fun p:Nat×PV=>Nat.ble p.1 15)=true from rfl) p hp)) rfl rfl (x_n (Wk.same (h _ t c m d ht0 hc0 hm0 hd0 ⟨af,⟨[],List.replicate 8 0,[],⟨?_,?_,hct,by decide⟩,rfl⟩,⟨?_,?_,rfl,fun i a p ha=>(by cases ha),List.nodup_nil,hdm.symm,List.not_mem_nil,List.not_mem_nil,Nat.le_of_ble_eq_true rfl⟩,?_⟩ fun x hx=>?_))))
 ·exact(back htb hmt.symm hdt.symm).trans G.ht
 ·exact(back hcb hmc.symm hdc.symm).trans G.hc
 ·exact(an hmb).trans af
 ·exact(an hdb).trans ((an hdm).trans af)
 ·simp[htb.symm,hcb.symm,hmb.symm,hdb.symm,hct,hmt.symm,hdt.symm,hmc.symm,hdc.symm,hdm.symm]
 ·unfold inX at hx;simp only[not_or]at hx;obtain⟨x1,x2,x3,x4,x5,_⟩:=hx
  exact(back x1 x4 x5).trans (f1 x x1 x2 x3)
theorem rI{α:Type}{l:List α}{a:α}(h:l.Nodup)(ha:a∉l):(l++[a]).Nodup:=List.nodup_append.mpr ⟨h,List.nodup_cons.mpr ⟨List.not_mem_nil,List.nodup_nil⟩,fun x hx y hy e=>ha (by rw[List.mem_singleton]at hy;rw[←hy,←e];exact hx)⟩
theorem MA.snoc{τ:Sto}{m d b a p:Nat}{ms ps:List Nat}(M:MA τ m d b ms ps)(ha:a∉ms)(ham:m≠a)(had:d≠a)(h1:ms.length<59):MA ((τ.set d (.dict (cA 0 (ms++[a])))).set a (cL ((ms.length:Nat)+1) (.obj b) p)) m d b (ms++[a]) (ps++[p]):=by
 refine⟨(an ham).trans ((an M.md).trans M.hm),(an had).trans af,(List.length_append.trans (congrArg (· + 1) M.len)).trans List.length_append.symm,fun i x q hx hq=>?_,?_,M.md,ou M.mm ham,ou M.dm had,by rw[List.length_append];exact Nat.succ_lt_succ h1⟩
 ·rcases Nat.lt_or_ge i ms.length with hi|hi
  ·rw[List.getElem?_append_left hi]at hx;rw[List.getElem?_append_left (M.len▸hi)]at hq;have hxm:=List.mem_of_getElem? hx
   exact(an (fun e:x=a=>ha (e▸hxm))).trans ((an (fun e:x=d=>M.dm (e▸hxm))).trans (M.at_ i x q hx hq))
  ·rw[List.getElem?_append_right hi]at hx;rw[List.getElem?_append_right (M.len▸hi),←M.len]at hq;have h0:i-ms.length=0:=Nat.lt_one_iff.mp (List.getElem?_eq_some_iff.mp hx).1;rw[h0]at hx hq;rw[Nat.le_antisymm (Nat.sub_eq_zero_iff_le.mp h0) hi,←Option.some.inj hx,←Option.some.inj hq];exact af
 ·exact rI M.nd ha
theorem g6{σ:Sto}{a x:Nat}{n:Int}{o:cb}(h0:σ a=some (cL n .none 0))(hx:σ x=some o)(ho:o≠cL n .none 0):a≠x:=fun e=>by subst e;rw[h0]at hx;exact ho (Option.some.inj hx).symm
theorem ky{n:Int}{c:Nat}{fs:List (Nat×PV)}(h:Nat.beq c 2=false):cb.inst c fs≠cL n .none 0:=fun z=>by injection z with z;subst z;cases h
theorem MA.fresh{σ:Sto}{m d b a:Nat}{n:Int}{ms ps:List Nat}(M:MA σ m d b ms ps)(h0:σ a=some (cL n .none 0)):a∉ms:=fun z=>by
 obtain⟨i,hi,e⟩:=List.getElem_of_mem z
 have:=M.at_ i a _ (by rw[List.getElem?_eq_getElem hi,e]) (List.getElem?_eq_getElem (by rw[←M.len];exact hi));rw[h0]at this;injection this with this
 injection this with _ this
 cases this
theorem BZ.snoc{τ:Sto}{X:BX}{text:List Int}{point zv p a:Nat}{tk ctk:Int}{ps:List Nat}(B:BZ τ X text point zv tk ctk ps)(hin:¬inX X a)(h1:X.ms.length<59):BZ ((τ.set X.d (.dict (cA 0 (X.ms++[a])))).set a (cL ((X.ms.length:Nat)+1) (.obj X.b) p)) {X with ms:=X.ms++[a]} text point zv tk ctk (ps++[p]):=by
 obtain⟨⟨a1,a2,a3,a4,a5⟩,⟨b1,b2,b3,b4⟩,⟨c1,c2,c3⟩⟩:=B.ne;obtain⟨pre,gap,post,G,e⟩:=B.hg;have hs:∀{x},inX X x→x≠X.d→((τ.set X.d (.dict (cA 0 (X.ms++[a])))).set a (cL ((X.ms.length:Nat)+1) (.obj X.b) p)) x=τ x:=fun{x} hx h=>(an (fun e:x=a=>hin (e▸hx))).trans (an h)
 refine⟨(hs (.inl rfl) a4).trans B.hb,⟨pre,gap,post,⟨(hs (.inr (.inl rfl)) b3).trans G.ht,(hs (.inr (.inr (.inl rfl))) c2).trans G.hc,G.ne,G.sz⟩,e⟩,B.hm.snoc (fun z=>hin (m0 _ z)) (fun e=>hin (.inr (.inr (.inr (.inl e.symm))))) (fun e=>hin (.inr (.inr (.inr (.inr (.inl e.symm)))))) h1,?_⟩;exact rI (l:=X.b::X.t::X.c::X.m::X.d::X.ms) B.nd fun z=>hin (by simp only[List.mem_cons]at z;exact z)
noncomputable def s90(vs:List PV)(σ:Sto)(Q:KV):Prop:=∃X S,∃(a p:Nat),vs=[.obj a,.obj X.b,.int p]∧BA σ X S∧σ a=some (cL ((X.ms.length:Nat)+1) .none 0)∧X.ms.length<59∧1≤p∧p≤S.text.length+1∧
 ∀σ',BA σ' {X with ms:=X.ms++[a]} {S with ps:=S.ps++[p]}→Fr (fun x=>inX X x∨x=a) σ σ'→Q .none σ'
theorem yU{X:BX}{S:St}{a p:Nat}(B:BA σ X S)(h0:σ a=some (cL ((X.ms.length:Nat)+1) .none 0))(h1:X.ms.length<59)(h2:1≤p)(h3:p≤S.text.length+1)
  (h:∀σ',BA σ' {X with ms:=X.ms++[a]} {S with ps:=S.ps++[p]}→Fr (fun x=>inX X x∨x=a) σ σ'→Q .none σ'):s90 [.obj a,.obj X.b,.int p] σ Q:=⟨X,S,a,p,rfl,B,h0,h1,h2,h3,h⟩
theorem k90(h71:Sx 71=s71)(h82:Sx 82=s82)(h:s90 vs σ Q):Bd Sx 3 b90 0 vs σ Q:=by
 obtain⟨X,S,a,p,rfl,B,h0,h1,h2,h3,h⟩:=h
 suffices H:∀τ,Fr (· = a) σ τ→τ a=some (cL ((X.ms.length:Nat)+1) (.obj X.b) 0)→al ai Sx (b90.drop 2) [.obj a,.obj X.b,.int p] τ (Ret Q)from⟨rfl,cE (Am (p0 h0 rfl)) rfl (dC (aa rfl) (aa rfl) h0 rfl rfl (H _ (Fr.refl.set rfl) af))⟩
 intro τ F1 ha1;have hin:¬inX X a:=fun hx=>by
  obtain⟨pre,gap,post,G,e⟩:=B.hg;exact hx.elim (g6 h0 B.hb (ky rfl)) fun hx=>hx.elim (g6 h0 G.ht (ky rfl)) fun hx=>hx.elim (g6 h0 G.hc (fun z=>by injection z)) fun hx=>hx.elim (g6 h0 B.hm.hm (ky rfl)) fun hx=>hx.elim (g6 h0 B.hm.hd (fun z=>by injection z)) (B.hm.fresh h0)
 have B1:=B.fr F1 fun x hx e=>hin (e▸hx)
 refine BE (Al (aa rfl)) rfl (x_E (y_m (aE (aa rfl) B1.hb rfl) B1.hm.hm rfl (ae (aa rfl) (ae (ay (qI (qJ (aa rfl) aJ) (ev_add (gy (aa rfl) B1.hb rfl aD rfl h82 fun Q q=>p6 B1 q) aJ)) (congrArg PV.int (show min (max (p:Int) 1) ((S.text.length:Int)+1)=p by rw[Int.max_eq_left (by exact lz [_] [] [.l .k1 .x0] .k1 .x0 [] rfl (il h2)),Int.min_eq_left (by exact lz [_,_] [] [.l .x0 .p11] .x0 .p11 [] rfl (il h3))]))) aD)) rfl h71 ⟨X.m,X.d,a,X.ms,.obj X.b,0,p,rfl,B1.hm.hm,B1.hm.hd,h1,ha1,x_n (x_q (x_n (Wk.same (h _ (B1.snoc hin h1) (((F1.up fun x e=>.inr e).set (.inl (.inr (.inr (.inr (.inr (.inl rfl))))))).set (.inr rfl))))))⟩))
end
end Mine
end
section
namespace Mine
noncomputable def dc(l:List Int)(p:Nat):Nat:=((l.take (p-1)).filter nBl).length
noncomputable def cr(l:List Int)(p:Nat):Bool:=decide (1<p∧p≤l.length)&&(nBl (l.getD (p-2) 32)&&nBl (l.getD (p-1) 32))
section
variable {Sx:Spec} {σ:Sto} {Q:KV} {vs:List PV}
noncomputable def s92(vs:List PV)(σ:Sto)(Q:KV):Prop:=∃c,vs=[.int c]∧Q (.bool (nBl c)) σ
theorem k92(h:s92 vs σ Q):Bd Sx 1 b92 0 vs σ Q:=by
 obtain⟨c,rfl,h⟩:=h;exact⟨rfl,x_r (ay (vJ (aa rfl) (gz (pa rfl) rfl) rfl) (congrArg PV.bool ym)) (Wk.same h)⟩
noncomputable def s93(vs:List PV)(σ:Sto)(Q:KV):Prop:=∃(l:List Int) (p:Nat),vs=[eI l,.int p]∧1≤p∧l.length≤big∧Q (.int (dc l p)) σ
theorem uu{l:List Int}{p:Nat}(h1:1≤p)(h2:l.length≤big)(h:Q (.int (dc l p)) σ):s93 [eI l,.int p] σ Q:=⟨l,p,rfl,h1,h2,h⟩
theorem k93(h92:Sx 92=s92)(h:s93 vs σ Q):Bd Sx 2 b93 0 vs σ Q:=by
 obtain⟨l,p,rfl,h1,h2,h⟩:=h;exact⟨rfl,x_r (aw (vP (g:=fun _=>.int 1) (hE (jH (aa rfl) (pi rfl (show(p:Int)-1=((p-1:Nat):Int) by exact lze [_,_] [] [.f .p11 .x0,.e .p11 .x0] (.d .x0 .k1) .x1 [1,0] [0] rfl rfl (ie (su h1)) (ie (su h1)))))) (fun x=>⟨_,rfl,bb (pa rfl) rfl h92 fun Q q=>⟨_,rfl,q⟩,aJ⟩) (Nat.le_trans (List.length_take_le' _ _) h2))) (Wk.same h)⟩
noncomputable def s94(vs:List PV)(σ:Sto)(Q:KV):Prop:=∃(l:List Int) (p:Nat),vs=[eI l,.int p]∧Q (.bool (cr l p)) σ
theorem ut{l:List Int}{p:Nat}(h:Q (.bool (cr l p)) σ):s94 [eI l,.int p] σ Q:=⟨l,p,rfl,h⟩
theorem k94(h92:Sx 92=s92)(h:s94 vs σ Q):Bd Sx 2 b94 0 vs σ Q:=by
 obtain⟨l,p,rfl,h⟩:=h;unfold cr at h;rw[Bool.decide_and]at h;have hi:∀{j:Nat} {e:ME},1≤j→j≤2→Ev Sx e [eI l,.int p] σ (.int (j:Nat))→(decide ((1:Int)<p)&&decide ((p:Int)≤l.length))=true→Ev Sx (.call 92 [.sub (.var 0) (.bin false .sub (.var 1) e)]) [eI l,.int p] σ (.bool (nBl (l.getD (p-j) 32))):=fun{j e} h1 h2 he c=>by
  have c:=Bool.and_eq_true_iff.mp c;have c1:=of_decide_eq_true c.1;have c2:=of_decide_eq_true c.2;exact bb (ae (aZ (f:=PV.int) (aa rfl) (ay (aT (aa rfl) he) (congrArg PV.int (show(p:Int)-j=((p-j:Nat):Int) by exact lze [_,_,_] [] [.f (.a .x2 .x0) .x1,.e (.a .x2 .x0) .x1] (.d .x1 .x0) .x2 [1,0] [0] rfl rfl (ie (su (io (lz [_,_] [] [.l .x0 (.k 2),.l (.k 2) .x1] .x0 .x1 [] rfl (il h2) c1)))) (ie (su (io (lz [_,_] [] [.l .x0 (.k 2),.l (.k 2) .x1] .x0 .x1 [] rfl (il h2) c1))))))) (aS (by exact io (lz [_,_,_,_] [] [.l .k1 .x0,.l .x1 .x2,.e (.a .x3 .x0) .x1] .p31 .x2 [] rfl (il h1) c2 (ie (su (io (lz [_,_] [] [.l .x0 (.k 2),.l (.k 2) .x1] .x0 .x1 [] rfl (il h2) c1)))))))) aD) rfl h92 fun Q q=>⟨_,rfl,q⟩
 refine⟨rfl,x_r (ay (cq (Cn aJ (aa rfl) (aw (aa rfl))) fun c=>cq (hi (j:=2) (by decide) (by decide) aJ c) fun _=>hi (j:=1) (by decide) (by decide) aJ c) (congrArg (fun x=>PV.bool (x&&_)) ?_)) (Wk.same h)⟩;rw[show decide ((1:Int)<p)=decide (1<p)from decide_eq_decide.mpr (Int.ofNat_lt (n:=1)),show decide ((p:Int)≤l.length)=decide (p≤l.length)from decide_eq_decide.mpr Int.ofNat_le]
noncomputable def vf(old new:List Int)(x:Nat×Nat):Prop:=1≤x.1∧1≤x.2∧dc old x.1=dc new x.2∧(cr old x.1=true→cr new x.2=true)
noncomputable def s95(vs:List PV)(σ:Sto)(Q:KV):Prop:=∃(old new:List Int) (bs ps:List Nat),vs=[eI old,eI new,eL eN bs,eL eN ps]∧old.length≤big∧new.length≤big∧(∀x∈bs.zip ps,vf old new x)∧old.filter nBl=new.filter nBl∧Q (.bool true) σ
theorem yS{old new:List Int}{bs ps:List Nat}(h1:old.length≤big)(h2:new.length≤big)(h3:∀x∈bs.zip ps,vf old new x)(h4:old.filter nBl=new.filter nBl)(h:Q (.bool true) σ):s95 [eI old,eI new,eL eN bs,eL eN ps] σ Q:=⟨old,new,bs,ps,rfl,h1,h2,h3,h4,h⟩
theorem lf{l:List Int}{v0 v1 v2 v3 v4 v5:PV}{e:ME}(h92:Sx 92=s92)(h1:l.length≤big)(he:Ev Sx e [v0,v1,v2,v3,v4,v5] σ (eI l)):Ev Sx (.comp false 1 (.var 6) (.var 6) (.expr e) [.call 92 [.var 6]]) [v0,v1,v2,v3,v4,v5] σ (eI (l.filter nBl)):=
 vP (hE he) (fun x=>⟨_,rfl,bb (pa rfl) rfl h92 fun Q q=>⟨_,rfl,q⟩,aa rfl⟩) h1
inductive I95(a b c d:PV)(σ:Sto):Nat→List PV→Sto→Prop
 | mk {k:Nat} {x y:PV}:I95 a b c d σ k [a,b,c,d,x,y] σ
theorem k95(h92:Sx 92=s92)(h93:Sx 93=s93)(h94:Sx 94=s94)(h:s95 vs σ Q):Bd Sx 4 b95 2 vs σ Q:=by
 obtain⟨old,new,bs,ps,rfl,h1,h2,h3,h4,h⟩:=h;refine⟨rfl,dL (I95 (eI old) (eI new) (eL eN bs) (eL eN ps) σ) (Dg (aa rfl) (aa rfl)) .mk (fun k hk loc τ K' I _ hK=>?_) fun loc τ I=>?_⟩
 ·cases I;obtain⟨k1,k2,k3,k4⟩:=h3 _ (List.getElem_mem hk);generalize (bs.zip ps)[k]=q at*;refine cE (pc (bb (ae (aa rfl) (ae (aa (v:=.int (q.1:Nat)) rfl) aD)) rfl h93 fun Q w=>uu k1 h1 w) (bb (ae (aa rfl) (ae (aa (v:=.int (q.2:Nat)) rfl) aD)) rfl h93 fun Q w=>uu k2 h2 w)) (by rw[k3,beq_self_eq_true];rfl) (cE (cq (bb (ae (aa rfl) (ae (aa (v:=.int (q.1:Nat)) rfl) aD)) rfl h94 fun Q w=>ut w) fun _=>jf (bb (ae (aa rfl) (ae (aa (v:=.int (q.2:Nat)) rfl) aD)) rfl h94 fun Q w=>ut w)) ?_ (x_n (hK _ _ .mk)));cases w:cr old q.1 with
  | true=>rw[k4 w];rfl
  | false=>rfl
 ·cases I;exact x_r (ay (Ao (lf h92 h1 (aa rfl)) (lf h92 h2 (aa rfl))) (congrArg PV.bool (by rw[h4,beq_self_eq_true]))) (Wk.same h)
end
end Mine
end
section
namespace Mine
theorem fN:∀(x y:List Int),∃x' y',x=aO x y++x'∧y=aO x y++y'
 | [],y=>⟨[],y,by simp[aO],by simp[aO]⟩
 | a::x,[]=>⟨a::x,[],by simp[aO],by simp[aO]⟩
 | a::x,b::y=>by
  unfold aO;split
  ·rename_i h;subst h;obtain⟨x',y',h1,h2⟩:=fN x y;exact⟨x',y',by rw[List.cons_append,←h1],by rw[List.cons_append,←h2]⟩
  ·exact⟨a::x,b::y,rfl,rfl⟩
theorem i9{s e:Nat}{old own:List Int}(h1:s≤e)(h2:e≤old.length):∃p mo mn q,sub old s e=p++mo++q∧own=p++mn++q∧ch s e old own=(s+p.length,s+p.length+mo.length,mn):=by
 have hl:=bI (s:=s) h2;unfold ch;dsimp only;generalize sub old s e=o at*;obtain⟨x',y',e1,e2⟩:=fN o own;generalize hp:aO o own=p at*;have d1:o.drop p.length=x':=by rw[e1,aX]
 have d2:own.drop p.length=y':=by rw[e2,aX]
 rw[d1,d2];obtain⟨x2,y2,e3,e4⟩:=fN x'.reverse y'.reverse;generalize hc:aO x'.reverse y'.reverse=c at*;have f1:x'=x2.reverse++c.reverse:=by rw[←List.reverse_append,←e3,List.reverse_reverse]
 have f2:y'=y2.reverse++c.reverse:=by rw[←List.reverse_append,←e4,List.reverse_reverse]
 refine⟨p,x2.reverse,y2.reverse,c.reverse,by rw[e1,f1,List.append_assoc],by rw[e2,f2,List.append_assoc],?_⟩;have hol:o.length=p.length+(x2.length+c.length):=by rw[e1,f1];simp
 have hwl:own.length=p.length+(y2.length+c.length):=by rw[e2,f2];simp
 have hs:sub own p.length (own.length-c.length)=y2.reverse:=by
  unfold sub;rw[show own.length-c.length=p.length+y2.length by exact lne [_,_,_,_,_] [.e .x2 (.a .x0 (.a .x3 .x1)),.e (.a .x4 .x1) .x2,.f .x2 (.a .x0 (.a .x3 .x1)),.f (.a .x4 .x1) .x2] .x4 (.a .x0 .x3) [1,1,0,0] [0,0] rfl rfl hwl (su (ln [_,_,_,_] [.f .x2 (.a .x0 (.a .x3 .x1))] .x1 .x2 [] rfl hwl)) hwl (su (ln [_,_,_,_] [.f .x2 (.a .x0 (.a .x3 .x1))] .x1 .x2 [] rfl hwl)),e2,f2,←List.append_assoc];rw[show p.length+y2.length=(p++y2.reverse).length by simp,bw,aX]
 rw[hs];refine Prod.ext rfl (Prod.ext ?_ rfl);show e-c.length=s+p.length+x2.reverse.length;rw[List.length_reverse];exact lne [_,_,_,_,_,_,_,_] [.f .x2 .x3,.e .x2 (.a .x4 (.a .x5 .x6)),.f (.a .x3 .x0) .x1,.e (.a (.x 7) .x6) .x1,.e .x2 .x3,.f .x2 (.a .x4 (.a .x5 .x6)),.e (.a .x3 .x0) .x1,.f (.a (.x 7) .x6) .x1] (.x 7) (.a (.a .x0 .x4) .x5) [1,1,1,1,0,0,0,0] [0,0,0,0] rfl rfl hl hol (su h1) (su (ln [_,_,_,_,_,_] [.e .x1 .x2,.f .x1 (.a .x3 (.a .x4 .x5)),.l .x2 .x0] .x5 .x0 [] rfl hl hol sb)) hl hol (su h1) (su (ln [_,_,_,_,_,_] [.e .x1 .x2,.f .x1 (.a .x3 (.a .x4 .x5)),.l .x2 .x0] .x5 .x0 [] rfl hl hol sb))
theorem qO{U mo V mn:List Int}:c9 (U++mo++V) (U.length+1) (U.length+mo.length+1) mn=U++mn++V:=by
 unfold c9;rw[show U.length+1-1=U.length by exact lne [_,_] [.e .p01 .p11,.f .p01 .p11] .x0 .x1 [1,0] [0] rfl rfl (su (ln [_] [] .k1 .p01 [] rfl)) (su (ln [_] [] .k1 .p01 [] rfl)),show U.length+mo.length+1-1=(U++mo).length by rw[List.length_append];exact lne [_,_,_] [.e .p01 (.a (.a .x1 .x2) .k1),.f .p01 (.a (.a .x1 .x2) .k1)] .x0 (.a .x1 .x2) [1,0] [0] rfl rfl (su (ln [_,_] [] .k1 (.a (.a .x0 .x1) .k1) [] rfl)) (su (ln [_,_] [] .k1 (.a (.a .x0 .x1) .k1) [] rfl)),aX,List.append_assoc U mo V,bw]
theorem l5{U mo V mn:List Int}{S:St}(h:S.text=U++mo++V):(er (U.length+1) (U.length+mo.length+1) mn S).text=U++mn++V:=by
 unfold er;split
 ·rename_i q;obtain⟨q1,rfl⟩:=q
  have:mo=[]:=List.length_eq_zero_iff.mp (by exact lne [_,_] [.f .p01 (.a (.a .x0 .x1) .k1)] .x1 .k0 [] [0] rfl rfl q1);subst this;exact h
 ·show c9 S.text _ _ _=_;rw[h,qO]
noncomputable def ci(f:Nat→Nat)(S S':St):Prop:=S'.point=f S.point∧S'.ps=S.ps.map f
theorem ci.id(S:St):ci (fun p=>p) S S:=⟨rfl,by simp⟩
theorem ci.trans{f g:Nat→Nat}{S S' S'':St}(h:ci f S S')(h':ci g S' S''):ci (fun p=>g (f p)) S S'':=⟨by rw[h'.1,h.1],by rw[h'.2,h.2];simp[Function.comp_def]⟩
theorem rJ{s p:Nat}:dx s s 0 p=p:=by
 rcases Nat.lt_or_ge s p with a|a
 ·rw[kB a (Nat.le_of_lt a),Nat.sub_self];rfl
 ·exact kA a
theorem l6{s e:Nat}{cs:List Int}{S:St}:ci (dx s e cs.length) S (er s e cs S):=by
 unfold er;split
 ·rename_i h;obtain⟨rfl,rfl⟩:=h;refine⟨rJ.symm,?_⟩
  have:S.ps.map (dx s s ([]:List Int).length)=S.ps.map fun p=>p:=List.map_congr_left fun p _=>rJ
  rw[this];simp
 ·exact⟨rfl,rfl⟩
structure Shf(lo n n':Nat)(f:Nat→Nat):Prop where
 ahead:∀p,p≤lo→f p=p
 behind:∀p,lo+n<p→f p=p+n'-n
 within:∀p,lo≤p→p≤lo+n→lo≤f p∧f p≤lo+n'
theorem Shf.id(lo n:Nat):Shf lo n n fun p=>p:=⟨fun _ _=>rfl,fun p _=>by exact lne [_,_,_] [.f (.a .x2 .x0) (.a .x1 .x0),.e (.a .x2 .x0) (.a .x1 .x0)] .x1 .x2 [1,0] [0] rfl rfl (su (ln [_,_] [] .x0 (.a .x1 .x0) [] rfl)) (su (ln [_,_] [] .x0 (.a .x1 .x0) [] rfl)),fun p h1 h2=>⟨h1,h2⟩⟩
theorem ox{lo n a b w:Nat}(h1:a≤b)(h2:b≤n):Shf lo n (n+w-(b-a)) (dx (lo+a) (lo+b) w):=by
 refine⟨fun p h=>kA (Nat.le_trans h (Nat.le_add_right _ _)),fun p h=>?_,fun p h h'=>?_⟩
 ·rw[kB (by exact ln [_,_,_,_,_] [.l .x0 .x1,.l .x1 .x2,.l (.a (.a .x3 .x2) .k1) .x4] (.a (.a .x3 .x0) .k1) .x4 [] rfl h1 h2 h) (by exact ln [_,_,_,_] [.l .x0 .x1,.l (.a (.a .x2 .x1) .k1) .x3] (.a .x2 .x0) .x3 [] rfl h2 h),Nat.add_sub_add_left];exact lne [_,_,_,_,_,_,_] [.e (.a .x2 .x5) (.a .x1 .x4),.f (.a .x3 .x0) (.a .x1 .x6),.f (.a .x6 .x5) (.a .x0 .x4),.f (.a .x2 .x5) (.a .x1 .x4),.e (.a .x3 .x0) (.a .x1 .x6),.e (.a .x6 .x5) (.a .x0 .x4)] .x2 .x3 [1,1,1,0,0,0] [0,0,0] rfl rfl (su (ln [_,_,_,_,_,_] [.l .x0 .x1,.l (.a (.a .x2 .x1) .k1) .x3,.l .x5 .x0] .x5 (.a .x3 .x4) [] rfl h2 h sb)) (su (ln [_,_,_,_] [.l (.a (.a .x1 .x0) .k1) .x2] .x0 (.a .x2 .x3) [] rfl h)) (su (ln [_,_,_,_] [.l .x0 .x1,.l .x3 .x0] .x3 (.a .x1 .x2) [] rfl h2 sb)) (su (ln [_,_,_,_,_,_] [.l .x0 .x1,.l (.a (.a .x2 .x1) .k1) .x3,.l .x5 .x0] .x5 (.a .x3 .x4) [] rfl h2 h sb)) (su (ln [_,_,_,_] [.l (.a (.a .x1 .x0) .k1) .x2] .x0 (.a .x2 .x3) [] rfl h)) (su (ln [_,_,_,_] [.l .x0 .x1,.l .x3 .x0] .x3 (.a .x1 .x2) [] rfl h2 sb))
 ·rcases Nat.lt_or_ge (lo+a) p with c|c
  ·rcases Nat.lt_or_ge p (lo+b)with d|d
   ·rw[mZ c d];exact⟨Nat.le_add_right _ _,by exact ln [_,_,_,_,_,_,_] [.l .x1 .x2,.f (.a .x4 .x6) (.a .x2 .x5),.e (.a .x6 .x0) .x1] (.a .x3 .x0) (.a .x3 .x4) [] rfl h2 (su (ln [_,_,_,_] [.l .x0 .x1,.l .x3 .x0] .x3 (.a .x1 .x2) [] rfl h2 sb)) (su h1)⟩
   ·rw[kB c d,Nat.add_sub_add_left];exact⟨by exact ln [_,_,_,_,_,_] [.l (.a .x1 .x0) .x2,.l .x5 .x0,.f (.a .x3 .x5) (.a .x2 .x4)] .x1 .x3 [] rfl d sb (su (ln [_,_,_,_,_] [.l (.a .x1 .x0) .x2,.l .x4 .x0] .x4 (.a .x2 .x3) [] rfl d sb)),by exact ln [_,_,_,_,_,_,_] [.l .x2 (.a .x1 .x0),.e (.a .x3 .x6) (.a .x2 .x5),.f (.a .x4 .x6) (.a .x0 .x5)] .x3 (.a .x1 .x4) [] rfl h' (su (ln [_,_,_,_,_] [.l (.a .x1 .x0) .x2,.l .x4 .x0] .x4 (.a .x2 .x3) [] rfl d sb)) (su (ln [_,_,_,_] [.l .x0 .x1,.l .x3 .x0] .x3 (.a .x1 .x2) [] rfl h2 sb))⟩
  ·rw[kA c];exact⟨h,by exact ln [_,_,_,_,_,_,_,_] [.l .x1 .x2,.l .x4 (.a .x3 .x0),.f (.a .x5 (.x 7)) (.a .x2 .x6),.e (.a (.x 7) .x0) .x1] .x4 (.a .x3 .x5) [] rfl h2 c (su (ln [_,_,_,_] [.l .x0 .x1,.l .x3 .x0] .x3 (.a .x1 .x2) [] rfl h2 sb)) (su h1)⟩
theorem Shf.trans{lo n n' n'':Nat}{f g:Nat→Nat}(h:Shf lo n n' f)(h':Shf lo n' n'' g):Shf lo n n'' fun p=>g (f p):=by
 refine⟨fun p hp=>?_,fun p hp=>?_,fun p h1 h2=>?_⟩
 ·rw[h.ahead p hp,h'.ahead p hp]
 ·have:=h.behind p hp;rw[this,h'.behind _ (by exact ln [_,_,_,_,_] [.l (.a (.a .x0 .x1) .k1) .x2,.f (.a .x3 .x1) (.a .x2 .x4)] (.a (.a .x0 .x4) .k1) .x3 [] rfl hp (su (ln [_,_,_,_] [.l (.a (.a .x0 .x1) .k1) .x2] .x1 (.a .x2 .x3) [] rfl hp)))];exact lne [_,_,_,_,_,_,_] [.e (.a .x2 .x0) (.a .x1 .x5),.e (.a .x3 .x5) (.a .x2 .x6),.f (.a .x4 .x0) (.a .x1 .x6),.f (.a .x2 .x0) (.a .x1 .x5),.f (.a .x3 .x5) (.a .x2 .x6),.e (.a .x4 .x0) (.a .x1 .x6)] .x3 .x4 [1,1,1,0,0,0] [0,0,0] rfl rfl (su (ln [_,_,_,_] [.l (.a (.a .x0 .x1) .k1) .x2] .x1 (.a .x2 .x3) [] rfl hp)) (su (ln [_,_,_,_,_,_] [.l (.a (.a .x0 .x1) .k1) .x2,.f (.a .x3 .x1) (.a .x2 .x4)] .x4 (.a .x3 .x5) [] rfl hp (su (ln [_,_,_,_] [.l (.a (.a .x0 .x1) .k1) .x2] .x1 (.a .x2 .x3) [] rfl hp)))) (su (ln [_,_,_,_] [.l (.a (.a .x0 .x1) .k1) .x2] .x1 (.a .x2 .x3) [] rfl hp)) (su (ln [_,_,_,_] [.l (.a (.a .x0 .x1) .k1) .x2] .x1 (.a .x2 .x3) [] rfl hp)) (su (ln [_,_,_,_,_,_] [.l (.a (.a .x0 .x1) .k1) .x2,.f (.a .x3 .x1) (.a .x2 .x4)] .x4 (.a .x3 .x5) [] rfl hp (su (ln [_,_,_,_] [.l (.a (.a .x0 .x1) .k1) .x2] .x1 (.a .x2 .x3) [] rfl hp)))) (su (ln [_,_,_,_] [.l (.a (.a .x0 .x1) .k1) .x2] .x1 (.a .x2 .x3) [] rfl hp))
 ·have:=h.within p h1 h2;exact h'.within _ this.1 this.2
theorem jz{X o Y:List Int}:sub (X++o++Y) X.length (X.length+o.length)=o:=by
 unfold sub;rw[List.append_assoc,bS,cj (Nat.le_refl _),List.take_length,aX]
theorem ea{l:List Int}{n k:Nat}(h:n≤k)(h2:k≤l.length):l.take n++sub l n k++l.drop k=l:=by
 unfold sub
 have:l.take n++(l.take k).drop n=l.take k:=by
  have e:=List.take_append_drop n (l.take k);rw[List.take_take,Nat.min_eq_left h]at e;exact e
 rw[this,List.take_append_drop]
theorem pq{l:List Int}{n k:Nat}(h:n≤k)(h2:k≤l.length):sub l n k++l.drop k=l.drop n:=by
 have e:=ea h h2
 have:=congrArg (List.drop n) e;rw[List.append_assoc]at this;rw[←this];have hl:(l.take n).length=n:=by rw[List.length_take];exact mc (n) (l.length) (fun z0 w0=>lne [_,_] [.e .x1 .x0,.f .x1 .x0] .x1 .x0 [1,0] [0] rfl rfl w0 w0) fun z0 w0=>lne [_,_,_,_] [.l .x2 .x0,.e .x3 .x2,.l .x0 .x1,.l .x1 .x2,.f .x3 .x2] .x3 .x0 [1,1,0,0,0] [0,0] rfl rfl z0 w0 h h2 w0
 generalize l.take n=A at*;rw[←hl,aX,hl]
theorem nU{l:List Int}{n k:Nat}(h:n≤k):l.take n++sub l n k=l.take k:=by
 unfold sub;have e:=List.take_append_drop n (l.take k);rw[List.take_take,Nat.min_eq_left h]at e;exact e
theorem oi{s:Nat}{a b:List (Nat×Nat×List Int)}{S:St}:cY s (a++b) S=cY s a (cY s b S):=by unfold cY;rw[List.foldr_append]
theorem og{s:Nat}{e:Nat×Nat×List Int}{S:St}:cY s [e] S=er (s+e.1) (s+e.2.1) e.2.2 S:=rfl
theorem ru{A C old Y own:List Int}{n k:Nat}{S:St}(h1:n≤k)(h2:k≤old.length)(hS:S.text=A++(old.take k++Y)++C):
  ∃f,(cY (A.length+1) (if sub old n k=own then[]else[ch n k old own]) S).text=A++(old.take n++own++Y)++C∧ci f S (cY (A.length+1) (if sub old n k=own then[]else[ch n k old own]) S)∧
   Shf (A.length+1) (k+Y.length) (n+own.length+Y.length) f:=by
 have hk:old.take k=old.take n++sub old n k:=(nU h1).symm;have hnl:(old.take n).length=n:=by rw[List.length_take];exact mc (n) (old.length) (fun z0 w0=>lne [_,_] [.e .x1 .x0,.f .x1 .x0] .x1 .x0 [1,0] [0] rfl rfl w0 w0) fun z0 w0=>lne [_,_,_,_] [.l .x2 .x0,.e .x3 .x2,.l .x0 .x1,.l .x1 .x2,.f .x3 .x2] .x3 .x0 [1,1,0,0,0] [0,0] rfl rfl z0 w0 h1 h2 w0
 by_cases q:sub old n k=own
 ·rw[if_pos q];refine⟨fun p=>p,?_,ci.id S,?_⟩
  ·show S.text=_;rw[hS,hk,q]
  ·have:own.length=k-n:=by rw[←q,bI h2]
   rw[show n+own.length+Y.length=k+Y.length by exact lne [_,_,_,_,_] [.e .x2 .x3,.e (.a .x3 .x0) .x1,.f .x2 .x3,.f (.a .x3 .x0) .x1] (.a (.a .x0 .x2) .x4) (.a .x1 .x4) [1,1,0,0] [0,0] rfl rfl this (su h1) this (su h1)];exact Shf.id _ _
 ·rw[if_neg q];obtain⟨p,mo,mn,r,e1,e2,e3⟩:=i9 (own:=own) h1 h2;rw[e3,og];dsimp only;have hsl:=bI (s:=n) h2;rw[e1]at hsl;simp only[List.length_append]at hsl;have hT:S.text=(A++old.take n++p)++mo++(r++Y++C):=by rw[hS,hk,e1];simp
  have hUl:(A++old.take n++p).length=A.length+(n+p.length):=by simp[hnl]
  have hw:own.length=p.length+mn.length+r.length:=by rw[e2];simp;exact lne [_,_,_] [] (.a .x0 (.a .x2 .x1)) (.a (.a .x0 .x2) .x1) [] [] rfl rfl
  refine⟨dx (A.length+1+(n+p.length)) (A.length+1+(n+p.length+mo.length)) mn.length,?_,l6,?_⟩
  ·have:=l5 (mn:=mn) hT;rw[hUl]at this;rw[show A.length+1+(n+p.length)=A.length+(n+p.length)+1 by exact lne [_,_,_] [] (.a .p21 (.a .x0 .x1)) (.a (.a .x2 (.a .x0 .x1)) .k1) [] [] rfl rfl,show A.length+1+(n+p.length+mo.length)=A.length+(n+p.length)+mo.length+1 by exact lne [_,_,_,_] [] (.a .p31 (.a (.a .x0 .x1) .x2)) (.a (.a (.a .x3 (.a .x0 .x1)) .x2) .k1) [] [] rfl rfl,this,e2];simp
  ·have:=ox (lo:=A.length+1) (n:=k+Y.length) (a:=n+p.length) (b:=n+p.length+mo.length) (w:=mn.length) (by exact ln [_,_,_] [] (.a .x0 .x1) (.a (.a .x0 .x1) .x2) [] rfl) (by exact ln [_,_,_,_,_,_,_] [.e (.a (.a .x2 .x3) .x4) .x5,.e (.a .x5 .x0) .x1] (.a (.a .x0 .x2) .x3) (.a .x1 .x6) [] rfl hsl (su h1));rw[show k+Y.length+mn.length-(n+p.length+mo.length-(n+p.length))=n+own.length+Y.length by exact lne [_,_,_,_,_,_,_,_,_,_,_] [.f (.a (.a .x2 .x3) .x4) .x5,.f .x6 (.a (.a .x2 (.x 7)) .x4),.f (.a .x5 .x0) .x1,.e (.a (.x 8) (.x 10)) (.a (.a .x1 (.x 9)) (.x 7)),.f (.a (.x 10) (.a .x0 .x2)) (.a (.a .x0 .x2) .x3),.e (.a (.a .x2 .x3) .x4) .x5,.e .x6 (.a (.a .x2 (.x 7)) .x4),.e (.a .x5 .x0) .x1,.f (.a (.x 8) (.x 10)) (.a (.a .x1 (.x 9)) (.x 7)),.e (.a (.x 10) (.a .x0 .x2)) (.a (.a .x0 .x2) .x3)] (.x 8) (.a (.a .x0 .x6) (.x 9)) [1,1,1,1,1,0,0,0,0,0] [0,0,0,0,0] rfl rfl hsl hw (su h1) (su (ln [_,_,_,_,_,_,_,_,_] [.e (.a (.a .x2 .x3) .x4) .x5,.l (.x 8) (.a (.a .x0 .x2) .x3),.e (.a .x5 .x0) .x1] (.x 8) (.a (.a .x1 (.x 7)) .x6) [] rfl hsl sb (su h1))) (su (ln [_,_,_] [] (.a .x0 .x1) (.a (.a .x0 .x1) .x2) [] rfl)) hsl hw (su h1) (su (ln [_,_,_,_,_,_,_,_,_] [.e (.a (.a .x2 .x3) .x4) .x5,.l (.x 8) (.a (.a .x0 .x2) .x3),.e (.a .x5 .x0) .x1] (.x 8) (.a (.a .x1 (.x 7)) .x6) [] rfl hsl sb (su h1))) (su (ln [_,_,_] [] (.a .x0 .x1) (.a (.a .x0 .x1) .x2) [] rfl))]at this;exact this
noncomputable def dy(old new:List Int):(Nat×Nat)×(Nat×Nat):=((old.length,old.length),(new.length,new.length))
theorem kU{A C old new:List Int}{S:St}(hS:S.text=A++old++C):∀(ks:List ((Nat×Nat)×(Nat×Nat))) (n m:Nat),Chn old new n m (ks++[dy old new])→
  ∃f,(cY (A.length+1) (bD old new n m (ks++[dy old new])) S).text=A++(old.take n++new.drop m)++C∧ci f S (cY (A.length+1) (bD old new n m (ks++[dy old new])) S)∧
   Shf (A.length+1) old.length (n+(new.length-m)) f
 | [],n,m,⟨h1,h2,h3,h4,h5,h6⟩=>by
  rw[List.nil_append,bH];rw[show bD old new (dy old new).1.2 (dy old new).2.2 []=[]from rfl,List.append_nil];have e:sub new m (dy old new).2.1=new.drop m:=by unfold sub dy;simp
  rw[e]
  have:=ru (A:=A) (C:=C) (old:=old) (Y:=[]) (own:=new.drop m) (S:=S) (n:=n) (k:=old.length) h1 (Nat.le_refl _) (by rw[hS];simp);obtain⟨f,f1,f2,f3⟩:=this;refine⟨f,?_,f2,?_⟩
  ·rw[List.append_nil]at f1;exact f1
  ·rw[List.length_drop]at f3;exact f3
 | k::ks,n,m,⟨h1,h2,h3,h4,h5,h6⟩=>by
  have hle:=h6.le;obtain⟨g,g1,g2,g3⟩:=kU hS ks k.1.2 k.2.2 h6;rw[List.cons_append,bH,oi];have hst:old.take k.1.2++new.drop k.2.2=old.take k.1.1++new.drop k.2.1:=by
   rw[←nU (l:=old) h2,h5,List.append_assoc,pq h4 hle.2]
  rw[hst]at g1;obtain⟨f,f1,f2,f3⟩:=ru (own:=sub new m k.2.1) h1 (show k.1.1≤old.length by exact ln [_,_,_] [.l .x0 .x1,.l .x1 .x2] .x0 .x2 [] rfl h2 hle.1) g1;refine⟨_,?_,g2.trans f2,g3.trans ?_⟩
  ·rw[f1,List.append_assoc (old.take n),pq h3 (by exact ln [_,_,_] [.l .x0 .x1,.l .x1 .x2] .x0 .x2 [] rfl h4 hle.2)]
  ·rw[bI (by exact ln [_,_,_] [.l .x0 .x1,.l .x1 .x2] .x0 .x2 [] rfl h4 hle.2),List.length_drop]at f3;have e1:sub old k.1.1 k.1.2=sub new k.2.1 k.2.2:=h5;have e2:=congrArg List.length e1;rw[bI (by exact hle.1),bI (by exact hle.2)]at e2;rw[show k.1.2+(new.length-k.2.2)=k.1.1+(new.length-k.2.1) by exact lne [_,_,_,_,_,_,_,_,_] [.e .x5 .x6,.f (.a .x5 .x0) .x1,.e (.a .x6 .x2) .x3,.e (.a (.x 7) .x3) .x4,.f (.a (.x 8) .x2) .x4,.f .x5 .x6,.e (.a .x5 .x0) .x1,.f (.a .x6 .x2) .x3,.f (.a (.x 7) .x3) .x4,.e (.a (.x 8) .x2) .x4] (.a .x1 (.x 7)) (.a .x0 (.x 8)) [1,1,1,1,1,0,0,0,0,0] [0,0,0,0,0] rfl rfl e2 (su h2) (su h4) (su hle.2) (su (ln [_,_,_] [.l .x0 .x1,.l .x1 .x2] .x0 .x2 [] rfl h4 hle.2)) e2 (su h2) (su h4) (su hle.2) (su (ln [_,_,_] [.l .x0 .x1,.l .x1 .x2] .x0 .x2 [] rfl h4 hle.2)),show n+(new.length-m)=n+(k.2.1-m)+(new.length-k.2.1) by exact lne [_,_,_,_,_,_,_] [.e (.a .x4 .x1) .x3,.f (.a .x5 .x1) .x2,.f (.a .x6 .x2) .x3,.f (.a .x4 .x1) .x3,.e (.a .x5 .x1) .x2,.e (.a .x6 .x2) .x3] (.a .x0 .x4) (.a (.a .x0 .x5) .x6) [1,1,1,0,0,0] [0,0,0] rfl rfl (su (ln [_,_,_,_] [.l .x0 .x1,.l .x1 .x2,.l .x2 .x3] .x0 .x3 [] rfl h3 h4 hle.2)) (su h3) (su (ln [_,_,_] [.l .x0 .x1,.l .x1 .x2] .x0 .x2 [] rfl h4 hle.2)) (su (ln [_,_,_,_] [.l .x0 .x1,.l .x1 .x2,.l .x2 .x3] .x0 .x3 [] rfl h3 h4 hle.2)) (su h3) (su (ln [_,_,_] [.l .x0 .x1,.l .x1 .x2] .x0 .x2 [] rfl h4 hle.2))];exact f3
theorem mA{A C old new:List Int}{S:St}(hS:S.text=A++old++C):
  ∃f,(cY (A.length+1) (a9 old new) S).text=A++new++C∧ci f S (cY (A.length+1) (a9 old new) S)∧Shf (A.length+1) old.length new.length f:=by
 obtain⟨f,f1,f2,f3⟩:=kU (new:=new) hS (dE old new) 0 0 (kD old new).snoc;refine⟨f,?_,f2,?_⟩
 ·rw[List.take_zero,List.drop_zero,List.nil_append]at f1;exact f1
 ·rw[Nat.zero_add,Nat.sub_zero]at f3;exact f3
theorem tG{old new:List Int}(h:a9 old new=[]):old=new:=by
 obtain⟨f,f1,_,_⟩:=mA (A:=[]) (C:=[]) (old:=old) (new:=new) (S:=⟨old,0,[],0,0⟩) (by simp);rw[h]at f1
 simpa [cY]using f1
end Mine
end
section
namespace Mine
noncomputable def a7(ps:List (List Int×List Int)):List Int:=ps.flatMap fun p=>p.1++p.2
theorem bZ(p:List Int×List Int)(ps:List (List Int×List Int)):a7 (p::ps)=p.1++p.2++a7 ps:=rfl
noncomputable def aI(l:List Int):List (List Int):=(ao l).2.map (·.1)
theorem iV:∀(ps:List (List Int×List Int)) (pre:List Int),(cG pre.length ps).map (fun s=>sub (pre++a7 ps) s.1 s.2)=ps.map (·.1)
 | [],_=>rfl
 | p::ps,pre=>by
  have ih:=iV ps (pre++p.1++p.2);unfold cG;rw[List.map_cons,List.map_cons];have e1:sub (pre++a7 (p::ps)) pre.length (pre.length+p.1.length)=p.1:=by
   rw[bZ,List.append_assoc p.1,←List.append_assoc pre];exact jz
  rw[e1];rw[List.length_append,List.length_append]at ih;rw[show pre++a7 (p::ps)=pre++p.1++p.2++a7 ps by rw[bZ];simp,ih]
theorem gd(l:List Int):(bm l).map (fun s=>sub l s.1 s.2)=aI l:=by
 obtain⟨_,_,h3⟩:=bA l
 have:=iV (ao l).2 (ao l).1;unfold bm ct aI;rw[Nat.zero_add];have e:(ao l).1++a7 (ao l).2=l:=h3;rw[e]at this;exact this
theorem oK{old new:List Int}{sp:List (Nat×Nat)}:∀(ns:List (Nat×Nat)) (i:Nat),(sp.drop i).map (fun s=>sub old s.1 s.2)=ns.map (fun s=>sub new s.1 s.2)→cW old new sp i ns=(sp.drop i).zip ns
 | [],i,h=>by
  have:sp.drop i=[]:=by
   cases e:sp.drop i with
   | nil=>rfl
   | cons x y=>rw[e]at h;cases h
  rw[this];rfl
 | s::ns,i,h=>by
  cases e:sp.drop i with
  | nil=>rw[e]at h;cases h
  | cons t r=>
   rw[e]at h;simp only[List.map_cons,List.cons.injEq]at h;have hi:i<sp.length:=by
    refine Nat.lt_of_not_le fun q=>?_
    rw[List.drop_eq_nil_of_le q]at e;cases e
   have ht:sp[i]=t∧sp.drop (i+1)=r:=by
    rw[List.drop_eq_getElem_cons hi]at e;injection e with e1 e2
    exact⟨e1,e2⟩
   have hs:j9 old (sub new s.1 s.2) sp i=some i:=by
    unfold j9;rw[e,show(t::r).take 4=t::r.take 3 from rfl,List.findIdx?_cons,h.1];simp
   rw[kG hs,show sp.getD i (0,0)=t by simp[List.getD,List.getElem?_eq_getElem hi,ht.1],oK ns (i+1) (by rw[ht.2];exact h.2),ht.2];rfl
theorem kF{old new:List Int}(h:aI old=aI new):dE old new=(bm old).zip (bm new):=by
 unfold dE;rw[oK _ 0 (by rw[List.drop_zero,gd,gd,h]),List.drop_zero]
theorem ji{old:List Int}:∀(sp:List (Nat×Nat)) (n:Nat),bD old old n n (sp.zip sp++[dy old old])=[]
 | [],n=>by
  rw[List.zip_nil_left,List.nil_append,bH,if_pos (show sub old n (dy old old).1.1=sub old n (dy old old).2.1 from rfl)];rfl
 | s::sp,n=>by
  rw[List.zip_cons_cons,List.cons_append,bH,if_pos rfl,List.nil_append];exact ji sp _
theorem gk{old new:List Int}:a9 old new=[]↔old=new:=by
 refine⟨tG,fun h=>?_⟩;subst h;unfold a9;rw[kF rfl];exact ji _ _
noncomputable def aU(l:List Int):Prop:=∀c∈l,br c=true
theorem aU.filter{l:List Int}(h:aU l):l.filter nBl=[]:=by
 rw[List.filter_eq_nil_iff];intro c hc;simp[nBl,h c hc]
theorem aU.take{l:List Int}(h:aU l)(k:Nat):aU (l.take k):=fun c hc=>h c (List.take_subset _ _ hc)
noncomputable def eu(T T':List Int)(f:Nat→Nat):Prop:=T.filter nBl=T'.filter nBl∧∀p,1≤p→1≤f p∧dc T p=dc T' (f p)∧(cr T p=true→cr T' (f p)=true)
theorem eu.id(T:List Int):eu T T fun p=>p:=⟨rfl,fun _ h=>⟨h,rfl,fun h=>h⟩⟩
theorem eu.trans{T T' T'':List Int}{f g:Nat→Nat}(h:eu T T' f)(h':eu T' T'' g):eu T T'' fun p=>g (f p):=
 ⟨h.1.trans h'.1,fun p hp=>by
  obtain⟨a,b,c⟩:=h.2 p hp;obtain⟨a',b',c'⟩:=h'.2 _ a;exact⟨a',b.trans b',fun w=>c' (c w)⟩⟩
theorem mx{α:Type}(l:List α)(d:α){i:Nat}(h:l.length≤i):l.getD i d=d:=by simp[List.getD,List.getElem?_eq_none h]
noncomputable def gB(T:List Int)(k:Nat):Bool:=nBl (T.getD k 32)
theorem jM{T:List Int}{p:Nat}:cr T p=true↔1<p∧gB T (p-2)=true∧gB T (p-1)=true:=by
 unfold cr gB;simp only[Bool.and_eq_true,decide_eq_true_eq];constructor
 ·rintro⟨⟨a,b⟩,c,d⟩;exact⟨a,c,d⟩
 ·rintro⟨a,c,d⟩;refine⟨⟨a,Nat.le_of_not_lt fun q=>?_⟩,c,d⟩;rw[show T.getD (p-1) 32=32 from mx _ _ (by exact ln [_,_,_] [.l .p11 .x0,.f .p21 .x0] .x1 .x2 [] rfl q (su (Nat.le_of_lt a)))]at d;cases d
theorem kN{U V:List Int}{k:Nat}:gB (U++V) k=if k<U.length then gB U k else gB V (k-U.length):=by
 unfold gB;split
 ·rename_i h;simp[List.getD,List.getElem?_append_left h]
 ·rename_i h;simp[List.getD,List.getElem?_append_right (Nat.le_of_not_lt h)]
theorem hQ{l:List Int}(h:aU l)(k:Nat):gB l k=false:=by
 unfold gB;rcases Nat.lt_or_ge k l.length with q|q
 ·rw[show l.getD k 32=l[k] by simp[List.getD,List.getElem?_eq_getElem q]];simp[nBl,h _ (List.getElem_mem q)]
 ·rw[mx _ _ q];rfl
theorem o0{U W:List Int}{k:Nat}(h:k<U.length):gB (U++W) k=gB U k:=by rw[kN,if_pos h]
theorem vy{U W:List Int}{j:Nat}:gB (U++W) (U.length+j)=gB W j:=by rw[kN,if_neg (Nat.not_lt.mpr (Nat.le_add_right _ _)),Nat.add_sub_cancel_left]
theorem rQ{U x V:List Int}{j:Nat}:gB (U++x++V) (U.length+x.length+j)=gB V j:=by rw[←List.length_append];exact vy
theorem rR{U x V:List Int}{j:Nat}(h:aU x)(q:j<x.length):gB (U++x++V) (U.length+j)=false:=by rw[List.append_assoc,vy,o0 q,hQ h]
theorem xY{T:List Int}{q:Nat}(h:gB T q=true)(h':gB T (q+1)=true):cr T (q+2)=true:=jM.mpr ⟨Nat.lt_add_left q (Nat.lt_succ_self 1),h,h'⟩
theorem t3{T:List Int}{p:Nat}(h:cr T p=true):∃q,p=q+2∧gB T q=true∧gB T (q+1)=true:=by
 obtain⟨a,b,c⟩:=jM.mp h;obtain⟨q,rfl⟩:=Nat.exists_eq_add_of_le' a;exact⟨q,rfl,b,c⟩
theorem yB{U x V:List Int}{j:Nat}(h:aU x):dc (U++x++V) (U.length+x.length+j+1)=(U.filter nBl).length+((V.take j).filter nBl).length:=by
 unfold dc;rw[Nat.add_sub_cancel,←List.length_append,bS,List.filter_append,List.filter_append,h.filter,List.append_nil,List.length_append]
theorem yC{U x V:List Int}{j:Nat}(h:aU x)(q:j≤x.length):dc (U++x++V) (U.length+j+1)=(U.filter nBl).length:=by
 unfold dc;rw[Nat.add_sub_cancel,List.append_assoc,bS,cj q,List.filter_append,(h.take j).filter,List.append_nil]
theorem CQ{U W W':List Int}{p:Nat}(h:p≤U.length):dc (U++W) (p+1)=dc (U++W') (p+1):=by
 unfold dc;rw[Nat.add_sub_cancel,cj h,cj h]
theorem ve{U mo V mn:List Int}(h1:aU mo)(h2:aU mn)(adj:mo≠[]∨U=[]∨gB U (U.length-1)=false∨gB V 0=false):eu (U++mo++V) (U++mn++V) (dx (U.length+1) (U.length+mo.length+1) mn.length):=by
 have no:∀q,q+2=U.length+1→gB (U++mo++V) q=true→gB (U++mo++V) (q+1)=true→False:=fun q e a b=>by
  have e':=Nat.succ.inj e;rw[e']at b;rcases adj with z|z|z|z
  ·rw[show U.length=U.length+0 from rfl,rR h1 (List.length_pos_iff.mpr z)]at b;cases b
  ·subst z;cases e'
  ·rw[←e',Nat.add_sub_cancel]at z;rw[List.append_assoc,o0 (by exact ln [_,_] [.e (.a .x0 (.k 2)) .p11] .p01 .x1 [] rfl e),z]at a;cases a
  ·by_cases y:mo=[]
   ·subst y;rw[List.append_nil,show U.length=U.length+0 from rfl,vy,z]at b;cases b
   ·rw[show U.length=U.length+0 from rfl,rR h1 (List.length_pos_iff.mpr y)]at b;cases b
 refine⟨by rw[List.filter_append,List.filter_append,List.filter_append,List.filter_append,h1.filter,h2.filter],fun p hp=>?_⟩
 by_cases c1:p≤U.length+1
 ·rw[kA c1];obtain⟨p,rfl⟩:=Nat.exists_eq_add_of_le' hp;refine⟨hp,by rw[List.append_assoc,List.append_assoc];exact CQ (Nat.le_of_succ_le_succ c1),fun w=>?_⟩;obtain⟨q,e,a,b⟩:=t3 w
  by_cases c2:q+2=U.length+1
  ·exact(no q c2 a b).elim
  ·rw[List.append_assoc,o0 (by omega)]at a b;rw[e,List.append_assoc];exact xY ((o0 (by exact ln [_,_,_] [.l .p01 .p11,.f .p01 (.a .x2 (.k 2))] .p21 .x1 [] rfl c1 e)).trans a) ((o0 (by exact nen c2 (fun z0=>ln [_,_] [.l (.a (.a .x1 (.k 2)) .k1) .p01] (.a .p11 .k1) .x0 [] rfl z0) fun z0=>ln [_,_,_] [.l .p01 .p11,.f .p01 (.a .x2 (.k 2)),.l (.a .p11 .k1) (.a .x2 (.k 2))] (.a .p21 .k1) .x1 [2,2] rfl c1 e z0)).trans b)
 ·have c1:=Nat.not_le.mp c1
  by_cases c2:U.length+mo.length+1≤p
  ·rw[kB c1 c2];obtain⟨j,rfl⟩:=Nat.exists_eq_add_of_le c2;rw[show U.length+mo.length+1+j+mn.length-(U.length+mo.length+1-(U.length+1))=U.length+mn.length+j+1 by exact lne [_,_,_,_,_,_] [.e (.a .x3 .x5) (.a (.a (.a (.a .x0 .x1) .k1) .x2) .x4),.f (.a .x5 .p01) (.a (.a .x0 .x1) .k1),.f (.a .x3 .x5) (.a (.a (.a (.a .x0 .x1) .k1) .x2) .x4),.e (.a .x5 .p01) (.a (.a .x0 .x1) .k1)] .x3 (.a (.a (.a .x0 .x4) .x2) .k1) [1,1,0,0] [0,0] rfl rfl (su (ln [_,_,_,_,_] [.l .x4 (.a (.a .x0 .x1) .k1)] .x4 (.a (.a (.a (.a .x0 .x1) .k1) .x2) .x3) [] rfl sb)) (su (ln [_,_] [] .p01 (.a (.a .x0 .x1) .k1) [] rfl)) (su (ln [_,_,_,_,_] [.l .x4 (.a (.a .x0 .x1) .k1)] .x4 (.a (.a (.a (.a .x0 .x1) .k1) .x2) .x3) [] rfl sb)) (su (ln [_,_] [] .p01 (.a (.a .x0 .x1) .k1) [] rfl)),show U.length+mo.length+1+j=U.length+mo.length+j+1 by exact lne [_,_,_] [] (.a (.a (.a .x0 .x1) .k1) .x2) (.a (.a (.a .x0 .x1) .x2) .k1) [] [] rfl rfl];refine⟨Nat.succ_le_succ (Nat.zero_le _),(yB h1).trans (yB h2).symm,fun w=>?_⟩;obtain⟨q,e,a,b⟩:=t3 w;cases j with
   | zero=>
    have e0:U.length+mo.length=q+1:=Nat.succ.inj e
    by_cases y:mo=[]
    ·subst y;exact(no q e.symm a b).elim
    ·obtain⟨k,hk⟩:=Nat.exists_eq_add_of_le' (List.length_pos_iff.mpr y);rw[hk]at e0;obtain rfl:U.length+k=q:=Nat.succ.inj e0;rw[rR h1 (hk▸Nat.lt_succ_self k)]at a;cases a
   | succ j=>
    obtain rfl:U.length+mo.length+j=q:=Nat.succ.inj (Nat.succ.inj e);exact xY (rQ.trans (rQ.symm.trans a)) ((rQ (j:=j+1)).trans ((rQ (j:=j+1)).symm.trans b))
  ·have c2:=Nat.not_le.mp c2;rw[mZ c1 c2];obtain⟨j,rfl⟩:=Nat.exists_eq_add_of_lt c1;rw[show U.length+1+j+1=U.length+(j+1)+1 by exact lne [_,_] [] (.a (.a .p01 .x1) .k1) (.a (.a .x0 .p11) .k1) [] [] rfl rfl]at c2 hp⊢;refine⟨Nat.succ_le_succ (Nat.zero_le _),(yC h1 (by exact ln [_,_,_] [.l (.a (.a (.a .x0 .p11) .k1) .k1) (.a (.a .x0 .x2) .k1)] .p11 .x2 [] rfl c2)).trans (yC (j:=0) h2 (Nat.zero_le _)).symm,fun w=>?_⟩;obtain⟨q,e,a,b⟩:=t3 w;rw[show q+1=U.length+(j+1) by exact lne [_,_,_] [.f (.a (.a .x0 .p11) .k1) (.a .x2 (.k 2)),.e (.a (.a .x0 .p11) .k1) (.a .x2 (.k 2))] .p21 (.a .x0 .p11) [1,0] [0] rfl rfl e e,rR h1 (by exact ln [_,_,_] [.l (.a (.a (.a .x0 .p11) .k1) .k1) (.a (.a .x0 .x2) .k1)] (.a .p11 .k1) .x2 [] rfl c2)]at b;cases b
end Mine
end
section
namespace Mine
theorem aU.app{a b:List Int}(h:aU (a++b)):aU a∧aU b:=⟨fun c hc=>h c (List.mem_append_left _ hc),fun c hc=>h c (List.mem_append_right _ hc)⟩
theorem xH{U p:List Int}(h:aU p)(hp:p≠[]):gB (U++p) ((U++p).length-1)=false:=by
 have:=List.length_pos_iff.mpr hp;rw[kN,List.length_append,if_neg (by exact fun zz=>lnf _ [_,_,_] [.l .k1 .x0,.l .p11 .x2,.l (.a .x2 .x0) .p11] [] rfl this zz sl)];exact hQ h _
theorem vz{q V:List Int}(h:aU q)(hq:q≠[]):gB (q++V) 0=false:=by
 have:=List.length_pos_iff.mpr hq;rw[kN,if_pos this];exact hQ h _
noncomputable def lM(lo o n:Nat)(S S':St)(T':List Int):Prop:=∃f,S'.text=T'∧ci f S S'∧Shf lo o n f∧eu S.text T' f
theorem lM.trans{S S1 S2:St}{T1 T2:List Int}{lo o n k n2:Nat}(h:lM lo o n S S1 T1)(e:n=k)(h':lM lo k n2 S1 S2 T2):lM lo o n2 S S2 T2:=by
 obtain⟨f,rfl,f2,f3,f4⟩:=h;obtain⟨g,g1,g2,g3,g4⟩:=h';subst e;exact⟨_,g1,f2.trans g2,f3.trans g3,f4.trans g4⟩
theorem lM.text{S S':St}{T':List Int}{lo o n:Nat}(h:lM lo o n S S' T'):S'.text=T':=h.elim fun _ h=>h.1
theorem As{old pre b R:List Int}{n k:Nat}(h:old=pre++b++R)(hn:pre.length=n)(hk:(pre++b).length=k):sub old n k=b∧n≤k∧k≤old.length:=by
 subst h;subst hn;subst hk;rw[List.length_append];exact⟨jz,Nat.le_add_right _ _,by rw[List.length_append,List.length_append];exact Nat.le_add_right _ _⟩
theorem oe{A C old pre b R Y own:List Int}{n k:Nat}{S:St}(h:old=pre++b++R)(hn:pre.length=n)(hk:(pre++b).length=k)(hS:S.text=A++(pre++b++Y)++C)(b1:aU b)(b2:aU own)
  (adj:b≠[]∨b=own∨A++pre=[]∨gB (A++pre) ((A++pre).length-1)=false∨gB (Y++C) 0=false):
  lM (A.length+1) (k+Y.length) (n+own.length+Y.length) S (cY (A.length+1) (if sub old n k=own then[]else[ch n k old own]) S) (A++(pre++own++Y)++C):=by
 obtain⟨c1,c2,c3⟩:=As h hn hk;have hl:n+b.length=k:=by rw[←hk,List.length_append,hn]
 obtain⟨p,mo,mn,r,e1,e2,e3⟩:=i9 (own:=own) c2 c3;rw[c1]at e1
 by_cases q:b=own
 ·rw[if_pos (c1.trans q),←q,hl];exact⟨fun p=>p,hS,ci.id S,Shf.id _ _,by rw[hS];exact eu.id _⟩
 ·rw [if_neg (fun z => q (c1.symm.trans z)), e3, og];subst e1;subst e2;obtain⟨b1',bq⟩:=b1.app;obtain⟨bp,bmo⟩:=b1'.app;have hT:∀x,A++(pre++(p++x++r)++Y)++C=(A++pre++p)++x++(r++Y++C):=fun x=>by simp only[List.append_assoc]
  have hU:(A++pre++p).length=A.length+(n+p.length):=by rw[List.length_append,List.length_append,hn,Nat.add_assoc]
  have s1:A.length+1+(n+p.length)=(A++pre++p).length+1:=by rw[hU,Nat.add_right_comm]
  have s2:A.length+1+(n+p.length+mo.length)=(A++pre++p).length+mo.length+1:=by rw[hU,Nat.add_right_comm,←Nat.add_assoc A.length (n+p.length)]
  have sh:=ox (lo:=A.length+1) (n:=k+Y.length) (w:=mn.length) (Nat.le_add_right (n+p.length) mo.length) (by rw[←hl,List.length_append,List.length_append];exact ln [_,_,_,_,_] [] (.a (.a .x0 .x1) .x2) (.a (.a .x0 (.a (.a .x1 .x2) .x3)) .x4) [] rfl);rw[Nat.add_sub_cancel_left,show k+Y.length+mn.length-mo.length=n+(p++mn++r).length+Y.length by rw[←hl,List.length_append,List.length_append,List.length_append,List.length_append];exact lne [_,_,_,_,_,_,_] [.e (.a .x3 .x2) (.a (.a (.a .x0 (.a (.a .x1 .x2) .x5)) .x6) .x4),.f (.a .x3 .x2) (.a (.a (.a .x0 (.a (.a .x1 .x2) .x5)) .x6) .x4)] .x3 (.a (.a .x0 (.a (.a .x1 .x4) .x5)) .x6) [1,0] [0] rfl rfl (su (ln [_,_,_,_,_,_] [] .x2 (.a (.a (.a .x0 (.a (.a .x1 .x2) .x4)) .x5) .x3) [] rfl)) (su (ln [_,_,_,_,_,_] [] .x2 (.a (.a (.a .x0 (.a (.a .x1 .x2) .x4)) .x5) .x3) [] rfl)),s1,s2]at sh;rw[hT]at hS⊢;refine⟨_,?_,l6,?_,?_⟩<;>dsimp only
  ·rw[s1,s2];exact l5 hS
  ·rw[s1,s2];exact sh
  ·rw [s1, s2, hS];refine ve bmo (b2.app.1).app.2 ?_
   by_cases z1:mo=[]
   ·by_cases z2:p=[]
    ·by_cases z3:r=[]
     ·rcases adj with a|a|a|a|a
      ·exact absurd (by rw[z1,z2,z3];rfl) a
      ·exact absurd a q
      ·exact .inr (.inl (by rw[z2,List.append_nil];exact a))
      ·exact .inr (.inr (.inl (by rw[z2,List.append_nil];exact a)))
      ·exact .inr (.inr (.inr (by rw[z3];exact a)))
     ·exact .inr (.inr (.inr (by rw[List.append_assoc];exact vz bq z3)))
    ·exact .inr (.inr (.inl (xH bp z2)))
   ·exact .inl z1
noncomputable def nj:List (List Int×List Int)→List (List Int×List Int)→Prop
 | p::r,p'::r'=>aU p.2∧aU p'.2∧(p.2≠[]∨p.2=p'.2)∧nj r r'
 | _,_=>True
theorem kc{A C old new:List Int}{S:St}(hS:S.text=A++old++C)(ps:List (List Int×List Int)):∀(ps':List (List Int×List Int)) (pre pre' b b':List Int) (n k n' k':Nat),ps.map (·.1)=ps'.map (·.1)→old=pre++b++a7 ps→new=pre'++b'++a7 ps'→
  pre.length=n→(pre++b).length=k→pre'.length=n'→(pre'++b').length=k'→
  aU b→aU b'→nj ps ps'→(b≠[]∨b=b'∨A++pre=[]∨gB (A++pre) ((A++pre).length-1)=false∨gB (a7 ps'++C) 0=false)→
  lM (A.length+1) old.length (n+b'.length+(a7 ps').length) S (cY (A.length+1) (bD old new n n' ((cG k ps).zip (cG k' ps')++[dy old new])) S) (A++(pre++b'++a7 ps')++C):=by
 induction ps with
 | nil=>
  intro ps' pre pre' b b' n k n' k' hw ho hn e1 e2 e3 e4 hb hb' _ adj;cases ps' with
  | cons x y=>cases hw
  | nil=>
   show lM _ _ _ S (cY _ (bD old new n n' [dy old new]) S) _;have e2':(pre++b).length=old.length:=by rw[ho];exact congrArg _ (List.append_nil _).symm
   have e4':(pre'++b').length=new.length:=by rw[hn];exact congrArg _ (List.append_nil _).symm
   rw[bH,show sub new n' (dy old new).2.1=b' from(As hn e3 e4').1,show bD old new (dy old new).1.2 (dy old new).2.2 []=[]from rfl,List.append_nil];exact oe (Y:=[]) ho e1 e2' (by rw[hS,ho];rfl) hb hb' adj
 | cons p ps ih=>
  intro ps' pre pre' b b' n k n' k' hw ho hn e1 e2 e3 e4 hb hb' hg adj;cases ps' with
  | nil=>cases hw
  | cons p' ps'=>
   injection hw with hw1 hw2
   have hw1:p.1=p'.1:=hw1;obtain⟨g1,g2,g3,g4⟩:=hg;have h:=ih ps' (pre++b++p.1) (pre'++b'++p'.1) p.2 p'.2 (k+p.1.length) (k+p.1.length+p.2.length) (k'+p'.1.length) (k'+p'.1.length+p'.2.length) hw2 (by rw[ho,bZ];simp only[List.append_assoc]) (by rw[hn,bZ];simp only[List.append_assoc])
    (by rw[List.length_append,e2]) (by rw[List.length_append,List.length_append,e2]) (by rw[List.length_append,e4]) (by rw[List.length_append,List.length_append,e4]) g1 g2 g4 (g3.elim .inl fun z=>.inr (.inl z))
   show lM _ _ _ S (cY _ (bD old new n n' (((k,k+p.1.length),(k',k'+p'.1.length))::((cG (k+p.1.length+p.2.length) ps).zip (cG (k'+p'.1.length+p'.2.length) ps')++[dy old new]))) S) _;rw[bH,oi,show sub new n' k'=b' from(As hn e3 e4).1];refine h.trans ?_ (oe ho e1 e2 ?_ hb hb' adj)
   ·rw[bZ,List.length_append,List.length_append,hw1,Nat.add_assoc,Nat.add_assoc,Nat.add_assoc]
   ·rw[h.text,bZ,hw1];simp only[List.append_assoc]
end Mine
end
section
namespace Mine
noncomputable def ej:List (List Int×List Int)→Prop
 | p::q::r=>p.2≠[]∧ej (q::r)
 | _=>True
theorem kt:∀l:List Int,ej (ao l).2
 | []=>trivial
 | c :: r => by
  have ih:=kt r;unfold ao;split
  ·exact ih
  ·split
   ·rename_i w g ps e1 e2;rw[e2]at ih;cases ps with
    | nil=>exact trivial
    | cons q ps=>exact ih
   ·rename_i hn;cases e:(ao r).2 with
    | nil=>exact trivial
    | cons q ps=>
     refine⟨fun z=>?_,?_⟩
     ·obtain⟨w,g⟩:=q;exact hn w g ps z e
     ·rw[←e];exact ih
theorem my:∀(ps ps':List (List Int×List Int)),ps.map (·.1)=ps'.map (·.1)→(∀p∈ps,aU p.2)→(∀p∈ps',aU p.2)→ej ps→(∀p p',ps.getLast? = some p→ps'.getLast? = some p'→p.2=[]→p'.2=[])→nj ps ps'
 | [],_,_,_,_,_,_=>trivial
 | _::_,[],h,_,_,_,_=>by cases h
 | [p],[p'],_,h1,h2,_,h4=>⟨h1 p List.mem_cons_self,h2 p' List.mem_cons_self,(Classical.em (p.2=[])).elim (fun z=>.inr (z.trans (h4 p p' rfl rfl z).symm)) .inl,trivial⟩
 | [_],_::_::_,h,_,_,_,_=>by simp at h
 | _::_::_,[_],h,_,_,_,_=>by simp at h
 | p::q::r,p'::q'::r',h,h1,h2,h3,h4=>by
  simp only[List.map_cons,List.cons.injEq]at h;exact⟨h1 p List.mem_cons_self,h2 p' List.mem_cons_self,.inl h3.1,my (q::r) (q'::r') (by simp only[List.map_cons,List.cons.injEq];exact h.2) (fun x hx=>h1 x (List.mem_cons_of_mem _ hx)) (fun x hx=>h2 x (List.mem_cons_of_mem _ hx)) h3.2
   fun x x' hx hx'=>h4 x x' (by rw[List.getLast?_cons_cons];exact hx) (by rw[List.getLast?_cons_cons];exact hx')⟩
noncomputable def b0(l:List Int):Prop:=l≠[]∧gB l (l.length-1)=true
theorem ce{a b:List Int}(h:b≠[]):b0 (a++b)↔b0 b:=by
 have hb:=List.length_pos_iff.mpr h;unfold b0;rw[kN,List.length_append,if_neg (by exact fun zz=>lnf _ [_,_,_] [.l .k1 .x0,.l .p11 .x2,.l (.a .x2 .x0) .p11] [] rfl hb zz sl),show a.length+b.length-1-a.length=b.length-1 by exact lne [_,_,_,_,_] [.e (.a .x1 .x4) .x3,.f .p21 .x0,.e .p31 (.a .x4 .x0),.f (.a .x1 .x4) .x3,.e .p21 .x0,.f .p31 (.a .x4 .x0)] .x1 .x2 [1,1,1,0,0,0] [0,0,0] rfl rfl (su (ln [_,_,_] [.l .k1 .x0,.l (.a .x2 .x0) .p11] .x2 .x1 [] rfl hb sl)) (su hb) (su (ln [_,_] [.l .k1 .x0] .k1 (.a .x1 .x0) [] rfl hb)) (su (ln [_,_,_] [.l .k1 .x0,.l (.a .x2 .x0) .p11] .x2 .x1 [] rfl hb sl)) (su hb) (su (ln [_,_] [.l .k1 .x0] .k1 (.a .x1 .x0) [] rfl hb))];simp[h]
theorem qB(ps:List (List Int×List Int))(p:List Int×List Int):a7 (ps++[p])=a7 ps++(p.1++p.2):=by unfold a7;simp
theorem d7{l:List Int}(h:aU l):¬b0 l:=fun⟨_,h2⟩=>by rw[hQ h]at h2;cases h2
theorem kT{w:List Int}(h:w≠[])(h2:∀c∈w,br c=false):b0 w:=by
 have:=List.length_pos_iff.mpr h;refine⟨h,?_⟩;unfold gB;rw[show w.getD (w.length-1) 32=w[w.length-1]'(by lia) by simp[List.getD,List.getElem?_eq_getElem (show w.length-1<w.length by lia)]];simp[nBl,h2 _ (List.getElem_mem (show w.length-1<w.length by exact ln [_,_] [.e .p11 .x0] .p11 .x0 [] rfl (su this)))]
theorem oH{l:List Int}{p:List Int×List Int}(h:(ao l).2.getLast? = some p):p.2=[]↔b0 l:=by
 obtain⟨h1,h2,h3⟩:=bA l;have hne:(ao l).2≠[]:=fun z=>by rw[z]at h;cases h
 have hp:p∈(ao l).2:=List.mem_of_getLast? h;have e:(ao l).2=(ao l).2.dropLast++[p]:=by
  have:=List.dropLast_concat_getLast hne;rw[List.getLast?_eq_some_getLast hne]at h;injection h with h
  rw[←h];exact this.symm
 have hl:l=((ao l).1++a7 (ao l).2.dropLast)++(p.1++p.2):=by
  have h3':(ao l).1++a7 (ao l).2=l:=h3;rw[e,qB]at h3';rw[List.append_assoc];exact h3'.symm
 obtain⟨p1,p2,p3⟩:=h1 p hp;rw[hl,ce (by simp[p1])];constructor
 ·intro z;rw[z,List.append_nil];exact kT p1 p2
 ·intro z;refine Classical.byContradiction fun q=>?_
  rw[ce q]at z;exact d7 p3 z
theorem iA{A C old new:List Int}{S:St}(hS:S.text=A++old++C)(hw:aI old=aI new)(hA:A=[]∨gB A (A.length-1)=false)(he:b0 old→b0 new):
  ∃f,(cY (A.length+1) (a9 old new) S).text=A++new++C∧ci f S (cY (A.length+1) (a9 old new) S)∧Shf (A.length+1) old.length new.length f∧eu S.text (A++new++C) f:=by
 obtain⟨o1,o2,o3⟩:=bA old;obtain⟨n1,n2,n3⟩:=bA new;have hg:nj (ao old).2 (ao new).2:=my _ _ hw (fun p hp=>(o1 p hp).2.2) (fun p hp=>(n1 p hp).2.2) (kt old) fun p p' hp hp' z=>(oH hp').mpr (he ((oH hp).mp z))
 have h:=kc hS (ao old).2 (ao new).2 [] [] (ao old).1 (ao new).1 0 _ 0 _ hw o3.symm n3.symm rfl rfl rfl rfl o2 n2 hg (by
  rcases hA with h|h
  ·right;right;left;rw[h];rfl
  ·right;right;right;left;rw[List.append_nil];exact h)
 have e:a9 old new=bD old new 0 0 ((cG ([]++(ao old).1).length (ao old).2).zip (cG ([]++(ao new).1).length (ao new).2)++[dy old new]):=by
  unfold a9;rw[kF hw];unfold bm ct;rw[Nat.zero_add,Nat.zero_add];rfl
 have hn:[]++(ao new).1++a7 (ao new).2=new:=n3;rw[hn,show 0+(ao new).1.length+(a7 (ao new).2).length=new.length by rw[Nat.zero_add,←List.length_append];exact congrArg _ n3]at h;rw[e];exact h
theorem fU{c:Int}{r:List Int}(h:br c=true):aI (c::r)=aI r:=by
 unfold aI
 conv=>lhs;unfold ao
 rw[if_pos h]
theorem cF:∀{b r:List Int},aU b→aI (b++r)=aI r
 | [],_,_=>rfl
 | c::b,r,h=>by
  rw[List.cons_append,fU (h c List.mem_cons_self)];exact cF fun x hx=>h x (List.mem_cons_of_mem _ hx)
noncomputable def wd(x:Int)(q:List Int×List (List Int×List Int)):List Int×List (List Int×List Int):=match q.1,q.2 with
 | [],(w,g)::ps=>([],(x::w,g)::ps)
 | b,ps=>([],([x],b)::ps)
theorem pv{x:Int}{q:List Int×List (List Int×List Int)}(h:q.1≠[]):(wd x q).2.map (·.1)=[x]::q.2.map (·.1):=by
 obtain⟨q1,q2⟩:=q;cases q1 with
 | nil=>exact absurd rfl h
 | cons y ys=>rfl
theorem gh{c:Int}{r:List Int}(h:br c=false):ao (c::r)=wd c (ao r):=by
 conv=>lhs;unfold ao
 rw[h];rfl
theorem fu{a:List Int}(h:a≠[])(h2:(ao a).1=[]):∃w g ps,(ao a).2=(w,g)::ps:=by
 cases e:(ao a).2 with
 | nil=>
  have:=(bA a).2.2;rw[h2,e]at this;exact absurd this.symm h
 | cons p ps=>exact⟨p.1,p.2,ps,rfl⟩
theorem fm:∀(a b:List Int) (c:Int),br c=true→aI (a++c::b)=aI a++aI b∧((ao (a++c::b)).1=[]↔a≠[]∧(ao a).1=[])
 | [],b,c,h=>by
  refine⟨by rw[List.nil_append,fU h];rfl,?_⟩;rw[List.nil_append];unfold ao;rw[if_pos h];simp
 | x :: a, b, c, h => by
  obtain⟨i1,i2⟩:=fm a b c h;rw[List.cons_append];cases hx:br x with
  | true=>
   refine⟨by rw[fU hx,fU hx,i1],?_⟩;have e:∀r,(ao (x::r)).1=x::(ao r).1:=fun r=>by
    conv=>lhs;unfold ao
    rw[if_pos hx]
   rw[e,e];simp
  | false=>
   refine⟨?_,?_⟩
   rotate_left
   ·rw[kr hx,kr hx];simp
   unfold aI at i1⊢;rw[gh hx,gh hx]
   by_cases ha:a≠[]∧(ao a).1=[]
   ·obtain⟨w,g,ps,e⟩:=fu ha.1 ha.2;have e1:=i2.mpr ha;obtain⟨w',g',ps',e'⟩:=fu (show a++c::b≠[] by simp) e1;rw[e,e']at i1;unfold wd;rw[ha.2,e1,e,e'];simp only[List.map_cons,List.cons_append,List.cons.injEq]at i1⊢;exact⟨⟨trivial,i1.1⟩,i1.2⟩
   ·have e1:(ao (a++c::b)).1≠[]:=fun z=>ha (i2.mp z)
    rw[pv e1,i1]
    by_cases ha1:a=[]
    ·subst ha1;rfl
    ·have:(ao a).1≠[]:=fun z=>ha ⟨ha1,z⟩
     rw[pv this];rfl
theorem gJ{a b:List Int}{c:Int}(h:br c=true):aI (a++c::b)=aI a++aI b:=(fm a b c h).1
theorem fA:∀(rows:List (List Int)),aI (ad rows)=rows.flatMap aI
 | []=>rfl
 | [r]=>by simp[ad]
 | r::q::rs=>by
  have e:ad (r::q::rs)=r++10::ad (q::rs):=rfl;rw[e,gJ (by decide),fA (q::rs)];rfl
end Mine
end
section
namespace Mine
theorem jr(c:Int)(h:List Int)(t:List (List Int)):ad ((c::h)::t)=c::ad (h::t):=by cases t<;>rfl
theorem fb:∀l:List Int,ad (ah l)=l
 | []=>rfl
 | c::r=>by
  have ih:=fb r;unfold ah;split
  ·rename_i h;subst h;cases e:ah r with
   | nil=>exact absurd e (bJ r)
   | cons x xs=>rw[e]at ih;show 10::ad (x::xs)=_;rw[ih]
  ·split
   ·rename_i x xs e;rw[e]at ih;rw[jr,ih]
   ·rename_i e;exact absurd e (bJ r)
theorem jU:∀(l:List Int),∀r∈ah l,(10:Int)∉r
 | [],r,h=>by simp[ah]at h;subst h;simp
 | c :: l, r, h => by
  have ih:=jU l;unfold ah at h;split at h
  ·rcases List.mem_cons.mp h with rfl|h
   ·simp
   ·exact ih r h
  ·rename_i hc;split at h
   ·rename_i x xs e;rw[e]at ih;rcases List.mem_cons.mp h with rfl|h
    ·have:=ih x List.mem_cons_self;simp[this,Ne.symm hc]
    ·exact ih r (List.mem_cons_of_mem _ h)
   ·rename_i e;exact absurd e (bJ l)
theorem gc:∀r:List Int,(10:Int)∉r→ah r=[r]
 | [],_=>rfl
 | c::r,h=>by
  have hc:c≠10:=fun e=>h (by simp[e])
  have ih:=gc r fun z=>h (List.mem_cons_of_mem _ z)
  unfold ah;rw[if_neg hc,ih]
theorem lT:∀(a b:List Int),(10:Int)∉a→ah (a++10::b)=a::ah b
 | [],b,_=>by
  show ah (10::b)=_
  conv=>lhs;unfold ah
  rw[if_pos rfl]
 | c::a,b,h=>by
  have hc:c≠10:=fun e=>h (by simp[e])
  have ih:=lT a b fun z=>h (List.mem_cons_of_mem _ z)
  rw[List.cons_append]
  conv=>lhs;unfold ah
  rw[if_neg hc,ih]
theorem jV:∀(rows:List (List Int)),rows≠[]→(∀r∈rows,(10:Int)∉r)→ah (ad rows)=rows
 | [],h,_=>absurd rfl h
 | [r],_,h=>gc r (h r List.mem_cons_self)
 | r::q::rs,_,h=>by
  show ah (r++10::ad (q::rs))=_;rw[lT _ _ (h r List.mem_cons_self),jV (q::rs) (by simp) fun x hx=>h x (List.mem_cons_of_mem _ hx)]
noncomputable def wOk(row:List aj):Prop:=∀p∈row,p.1≠[]∧∀c∈p.1,br c=false
noncomputable def bR:List aj→List Int→List (List Int×List Int)
 | [],_=>[]
 | [p],_=>[(p.1,[])]
 | p::q::r,g::gs=>(p.1,List.replicate g.toNat 32)::bR (q::r) gs
 | p::_::_,[]=>[(p.1,[])]
theorem eV:∀(row:List aj) (gaps:List Int),az row gaps=a7 (bR row gaps)
 | [],_=>by simp[az,bR,a7]
 | [p],gaps=>by rw[bz];simp[bR,a7]
 | p::q::r,[]=>by simp[az,bR,a7]
 | p::q::r,g::gs=>by
  rw[bE,eV (q::r) gs];rfl
theorem mF(n:Nat):aU (List.replicate n 32):=fun c hc=>by rw[(List.mem_replicate.mp hc).2];rfl
theorem jv:∀(row:List aj) (gaps:List Int),wOk row→∀p∈bR row gaps,p.1≠[]∧(∀c∈p.1,br c=false)∧aU p.2
 | [],_,_,p,h=>by simp[bR]at h
 | [x],_,hw,p,h=>by
  simp[bR]at h;subst h;exact⟨(hw x List.mem_cons_self).1,(hw x List.mem_cons_self).2,fun c hc=>by cases hc⟩
 | x::y::r,[],hw,p,h=>by
  simp[bR]at h;subst h;exact⟨(hw x List.mem_cons_self).1,(hw x List.mem_cons_self).2,fun c hc=>by cases hc⟩
 | x::y::r,g::gs,hw,p,h=>by
  unfold bR at h;rcases List.mem_cons.mp h with rfl|h
  ·exact⟨(hw x List.mem_cons_self).1,(hw x List.mem_cons_self).2,mF _⟩
  ·exact jv (y::r) gs (fun z hz=>hw z (List.mem_cons_of_mem _ hz)) p h
theorem nO:∀(row:List aj) (gaps:List Int),row.length≤gaps.length+1→(bR row gaps).map (·.1)=row.map (·.1)
 | [],_,_=>rfl
 | [x],_,_=>rfl
 | x::y::r,[],h=>by simp at h
 | x::y::r,g::gs,h=>by
  unfold bR;rw[List.map_cons,nO (y::r) gs (by simp at h⊢;exact h)];rfl
theorem jw:∀(row:List aj) (gaps:List Int),(∀g∈gaps,1≤g)→ej (bR row gaps)
 | [],_,_=>trivial
 | [_],_,_=>trivial
 | _::_::_,[],_=>trivial
 | x::y::r,g::gs,h=>by
  have hg:=h g List.mem_cons_self;have ih:=jw (y::r) gs fun z hz=>h z (List.mem_cons_of_mem _ hz)
  unfold bR;cases e:bR (y::r) gs with
  | nil=>exact trivial
  | cons a as=>
   rw[e]at ih;refine⟨fun z=>?_,ih⟩
   have:(List.replicate g.toNat (32:Int)).length=0:=by
    show(x.1,List.replicate g.toNat (32:Int)).2.length=0;rw[z];rfl
   rw[List.length_replicate]at this;exact lzf [_] [_] _ [.l .k1 .y0,.e .x0 .k0,.l .y0 .x0] [] rfl hg (ie this) tl
theorem gr:∀(X:List (List Int×List Int)),(∀p∈X,p.1≠[]∧(∀c∈p.1,br c=false)∧aU p.2)→ej X→ao (a7 X)=([],X)
 | [],_,_=>rfl
 | p::r,h,hg=>by
  obtain⟨a1,a2,a3⟩:=h p List.mem_cons_self;have ih:=gr r (fun x hx=>h x (List.mem_cons_of_mem _ hx)) (by cases r with
   | nil=>trivial
   | cons q r=>exact hg.2)
  have e:a7 (p::r)=p.1++(p.2++a7 r):=by rw[bZ,List.append_assoc]
  rw[e,eY p.1 _ a1 a2 ?_,gY p.2 _ a3,ih,List.append_nil];intro c hc
  by_cases hp:p.2=[]
  ·cases r with
   | nil=>rw[hp]at hc;cases hc
   | cons q r=>exact absurd hp hg.1
  ·cases e2:p.2 with
   | nil=>exact absurd e2 hp
   | cons x xs=>
    rw[e2]at hc a3;cases hc;exact a3 _ List.mem_cons_self
theorem ki{row:List aj}{gaps:List Int}(h1:wOk row)(h2:∀g∈gaps,1≤g)(h3:row.length≤gaps.length+1):aI (az row gaps)=row.map (·.1):=by
 unfold aI;rw[eV,gr _ (jv row gaps h1) (jw row gaps h2),nO _ _ h3]
theorem gg:∀{row:List aj} {gaps:List Int},wOk row→row≠[]→row.length≤gaps.length+1→b0 (az row gaps)
 | [],_,_,h,_=>absurd rfl h
 | [p],gaps,hw,_,_=>by rw[bz];exact kT (hw p List.mem_cons_self).1 (hw p List.mem_cons_self).2
 | _::_::_,[],_,_,h=>by simp at h
 | p::q::r,g::gs,hw,_,h=>by
  have ih:=gg (row:=q::r) (gaps:=gs) (fun z hz=>hw z (List.mem_cons_of_mem _ hz)) (by simp) (by simp at h⊢;exact h);rw[bE,ce ih.1];exact ih
theorem pT{row:List aj}(h:bg row)(width:Int):∀g∈bc row width,1≤g:=fun g hg=>(eO (W:=width.toNat) h (by exact tl) g hg).1
theorem mW{row:List aj}:row.length≤(aq row).length+1:=by unfold aq;rw[List.length_map];exact ln [_] [] .x0 .p01 [] rfl
theorem dU{row:List aj}(h:bg row)(width:Int)(way:Nat)(last:Bool):∃k gaps,a8 row width way last=List.replicate k 32++az row gaps∧(∀g∈gaps,1≤g)∧row.length≤gaps.length+1:=by
 unfold a8;split
 ·exact⟨0,_,rfl,pT h width,jT⟩
 ·split
  ·exact⟨0,_,rfl,fun g hg=>(h.gaps g hg).1,mW⟩
  ·split
   ·exact⟨_,_,rfl,fun g hg=>(h.gaps g hg).1,mW⟩
   ·exact⟨_,_,rfl,fun g hg=>(h.gaps g hg).1,mW⟩
theorem gX{row:List aj}(h:bg row)(hw:wOk row)(width:Int)(way:Nat)(last:Bool):aI (a8 row width way last)=row.map (·.1):=by
 obtain⟨k,gaps,e,g1,g2⟩:=dU h width way last;rw[e,cF (mF k),ki hw g1 g2]
theorem i0{row:List aj}(h:bg row)(hw:wOk row)(hn:row≠[])(width:Int)(way:Nat)(last:Bool):b0 (a8 row width way last):=by
 obtain⟨k,gaps,e,g1,g2⟩:=dU h width way last
 have:=gg hw hn g2;rw[e,ce this.1];exact this
theorem pO(l:List Int):wOk (aB l):=fun p hp=>by
 unfold aB at hp;obtain⟨q,hq,rfl⟩:=List.mem_map.mp hp
 have:=(bA l).1 q hq;exact⟨this.1,this.2.1⟩
theorem eX(l:List Int):(aB l).map (·.1)=aI l:=by unfold aB aI;rw[List.map_map];rfl
theorem nQ:∀(n:Nat) (w0 w:Int) (ps:List aj),wOk ps→∀part∈bL n w0 w ps,wOk part
 | 0,_,_,_,_,_,h=>by cases h
 | n+1,w0,w,ps,hp,part,h=>by
  unfold bL at h;split at h
  ·cases h
  ·rcases List.mem_cons.mp h with rfl|h
   ·exact fun p hx=>hp p (List.take_subset _ _ hx)
   ·exact nQ n w w _ (fun p hx=>hp p (List.drop_subset _ _ hx)) part h
theorem oR{c:Int}(h:bY [] c=true):br c=true:=by
 unfold bY at h;unfold br;simp at h⊢;rcases h with h|h<;>simp[h]
theorem c7(row:List Int):aU (aG [] row):=fun c hc=>oR (eG c hc)
theorem iE{row:List Int}{k:Nat}(h:k≤(aG [] row).length):aI (row.drop k)=aI row:=by
 have e:row=row.take k++row.drop k:=(List.take_append_drop k row).symm;have hb:aU (row.take k):=by
  have:row.take k=(aG [] row).take k:=by
   have:=List.takeWhile_append_dropWhile (p:=bY []) (l:=row);have e2:row=aG [] row++row.dropWhile (bY []):=this.symm
   conv=>lhs;rw[e2]
   exact cj h
  rw[this];exact(c7 row).take k
 conv=>rhs;rw[e]
 rw[cF hb]
theorem mE{x:Int}:∀{a b:List Int},x∈aO a b→x∈a
 | [],_,h=>by simp[aO]at h
 | _::_,[],h=>by simp[aO]at h
 | c::a,d::b,h=>by
  unfold aO at h;split at h
  ·rcases List.mem_cons.mp h with rfl|h
   ·exact List.mem_cons_self
   ·exact List.mem_cons_of_mem _ (mE h)
  ·cases h
theorem o6{L:List Int}:∀(rs:List (List Int)) (a:List Int),(rs.foldl (fun a r=>aO a (aG L r)) a).length≤a.length∧(∀r∈rs,(rs.foldl (fun a r=>aO a (aG L r)) a).length≤(aG L r).length)∧∀x∈rs.foldl (fun a r=>aO a (aG L r)) a,x∈a
 | [],a=>⟨Nat.le_refl _,fun r h=>(by cases h),fun x h=>h⟩
 | q::rs,a=>by
  obtain⟨h1,h2,h3⟩:=o6 rs (aO a (aG L q));rw[List.foldl_cons];refine⟨Nat.le_trans h1 (eD _ _),fun r hr=>?_,fun x hx=>mE (h3 x hx)⟩;rcases List.mem_cons.mp hr with rfl|hr
  ·exact Nat.le_trans h1 (lh _ _)
  ·exact h2 r hr
theorem e8{L:List Int}{r0:List Int}{rs:List (List Int)}(h:rs≠[]):(∀r∈rs,(aA L (r0::rs)).2.length≤(aG L r).length)∧∀x∈(aA L (r0::rs)).2,x∈aG L (rs.headD []):=by
 match rs,h with
 | r1::rs,_=>
  obtain⟨h1,h2,h3⟩:=o6 (L:=L) rs (aG L r1);refine⟨fun r hr=>?_,h3⟩;rcases List.mem_cons.mp hr with rfl|hr
  ·exact h1
  ·exact h2 r hr
theorem oG(rows:List (List Int)):aU (aA [] rows).1∧aU (aA [] rows).2:=by
 match rows with
 | []=>exact⟨fun c h=>(by cases h),fun c h=>by cases h⟩
 | [r]=>
  refine⟨c7 r,?_⟩;show aU (if _ then _ else _);split
  ·exact c7 r
  ·exact fun c h=>by cases h
 | r0::r1::rs=>
  refine⟨c7 r0,fun c hc=>c7 r1 c ((e8 (L:=[]) (r0:=r0) (rs:=r1::rs) (by simp)).2 c hc)⟩
theorem d9{rows:List (List Int)}(h:rows≠[]):aI (aC [] rows)=rows.flatMap aI:=by
 match rows,h with
 | [r],_=>
  unfold aC;simp only[List.headD_cons,List.tail_cons,List.flatMap_nil,List.append_nil,List.flatMap_cons];exact iE (Nat.le_refl _)
 | r0::r1::rs,_=>
  have hl:=(e8 (L:=[]) (r0:=r0) (rs:=r1::rs) (by simp)).1;unfold aC;simp only[List.headD_cons,List.tail_cons];generalize (aA [] (r0::r1::rs)).2.length=k at*;have h0:aI (r0.drop (aA [] (r0::r1::rs)).1.length)=aI r0:=iE (Nat.le_refl _);generalize r0.drop (aA [] (r0::r1::rs)).1.length=x at*;have e:∀(q:List (List Int)) (y:List Int),aI (y++q.flatMap fun r=>10::r.drop k)=aI y++q.flatMap fun r=>aI (r.drop k):=by
   intro q
   induction q with
   | nil=>intro y;simp
   | cons z q ih=>
    intro y;rw[List.flatMap_cons,List.cons_append,gJ (by decide),ih,List.flatMap_cons]
  have key:∀q:List (List Int),(∀r∈q,k≤(aG [] r).length)→q.flatMap (fun r=>aI (r.drop k))=q.flatMap aI:=by
   intro q
   induction q with
   | nil=>intro _;rfl
   | cons z q ih=>
    intro hq;rw[List.flatMap_cons,List.flatMap_cons,iE (hq z List.mem_cons_self),ih fun r hr=>hq r (List.mem_cons_of_mem _ hr)]
  rw[e,h0,key _ hl];rfl
theorem qu{col:Int}{way n i:Nat}{first rest:List Int}{part:List aj}(h1:aU first)(h2:aU rest)(h3:bg part)(h4:wOk part):aI (bh col way first rest n i part)=part.map (·.1):=by
 unfold bh;split
 ·rw[cF h1,gX h3 h4]
 ·rw[cF h2,gX h3 h4]
theorem o8{col:Int}{way n:Nat}{first rest:List Int}(h1:aU first)(h2:aU rest):∀(parts:List (List aj)) (k:Nat),(∀p∈parts,bg p∧wOk p)→
  ((parts.zipIdx k).map fun p=>bh col way first rest n p.2 p.1).flatMap aI=parts.flatten.map (·.1)
 | [],_,_=>rfl
 | p::parts,k,h=>by
  have hp:=h p List.mem_cons_self;rw[List.zipIdx_cons,List.map_cons,List.flatMap_cons,qu h1 h2 hp.1 hp.2,o8 h1 h2 parts (k+1) fun x hx=>h x (List.mem_cons_of_mem _ hx),List.flatten_cons,List.map_append]
theorem du{col:Int}{L:List Int}{rows:List (List Int)}(hn:rows≠[])(hs:rsz rows≤4001):∀p∈aY col L rows,bg p∧wOk p∧p≠[]:=fun p hp=>by
 have hw:=dS (L:=L) hn;exact⟨bg.rows _ _ _ _ (eZ (by exact ln [_,_] [.l .x0 (.k 4001),.l .p11 .x0] .x1 (.k 4000) [] rfl hs hw)) p hp,nQ _ _ _ _ (pO _) p hp,gS _ _ _ _ p hp⟩
theorem gj{col:Int}{way:Nat}{rows:List (List Int)}(hn:rows≠[])(hs:rsz rows≤4001):(aH col way [] rows).flatMap aI=rows.flatMap aI:=by
 obtain⟨b1,b2⟩:=oG rows;unfold aH;rw[o8 b1 b2 _ 0 fun p hp=>⟨(du hn hs p hp).1,(du hn hs p hp).2.1⟩]
 have:(aY col [] rows).flatten=aB (aC [] rows):=cz _ _ _;rw[this,eX,d9 hn]
theorem ef{col:Int}{way:Nat}:∀(rows par:List (List Int)),rsz par+rsz rows≤4001→(bj col way [] par rows).flatMap aI=(par++rows).flatMap aI
 | [],par,hs=>by
  rw[d3];split
  ·rename_i h;subst h;rfl
  ·rename_i h;rw[List.append_nil,gj h (by simp[rsz]at hs;unfold rsz;exact hs)]
 | r::rows,par,hs=>by
  rw[ax]at hs;rw[cN];split
  ·rw[List.flatMap_append,List.flatMap_cons,ef rows [] (by simp[rsz]at*;exact ln [_,_,_] [.l (.a .x0 (.a .p11 .x2)) (.k 4001)] .x2 (.k 4001) [] rfl hs),List.nil_append,List.flatMap_append,List.flatMap_cons];congr 1;split
   ·rename_i h;subst h;rfl
   ·rename_i h;exact gj h (by exact ln [_,_,_] [.l (.a .x0 (.a .p11 .x2)) (.k 4001)] .x0 (.k 4001) [] rfl hs)
  ·rw[ef rows (par++[r]) (by rw[au,ax];simp[rsz]at*;exact ln [_,_,_] [.l (.a .x0 (.a .p11 .x2)) (.k 4001)] (.a (.a .x0 .p11) .x2) (.k 4001) [] rfl hs)];simp
theorem lI{col:Int}{way:Nat}{l:List Int}(hl:l.length≤4000):aI (aV col way [] l)=aI l:=by
 unfold aV;rw[fA,ef _ _ (by rw[bO];simp[rsz];exact hl),List.nil_append,←fA,fb]
end Mine
end
section
namespace Mine
theorem mr(init:List (List Int))(r:List Int)(h:init≠[]):ad (init++[r])=ad init++10::r:=by
 match init,h with
 | q::qs,_=>rw[List.cons_append,bC,bC];simp
theorem kC{α:Type}{l:List α}{x:α}(h:l.getLast? = some x):l=l.dropLast++[x]:=by
 have hne:l≠[]:=fun z=>by subst z;cases h
 rw[List.getLast?_eq_some_getLast hne]at h;injection h with h
 rw[←h];exact(List.dropLast_concat_getLast hne).symm
theorem tj{rows:List (List Int)}{r:List Int}(h:rows.getLast? = some r)(he:b0 r):b0 (ad rows):=by
 rw[kC h]
 by_cases hi:rows.dropLast=[]
 ·rw[hi];exact he
 ·rw[mr _ _ hi,show ad rows.dropLast++10::r=(ad rows.dropLast++[10])++r by simp,ce he.1];exact he
theorem tE{rows:List (List Int)}(hn:rows≠[])(h:b0 (ad rows)):∃r,rows.getLast? = some r∧b0 r:=by
 have hl:=List.getLast?_eq_some_getLast hn;refine⟨_,hl,?_⟩;rw[kC hl]at h;generalize rows.getLast hn=r at*
 by_cases hi:rows.dropLast=[]
 ·rw[hi]at h;exact h
 ·rw[mr _ _ hi,show ad rows.dropLast++10::r=(ad rows.dropLast++[10])++r by simp]at h
  by_cases hr:r=[]
  ·subst hr;rw[List.append_nil,ce (by simp)]at h;exact absurd h (d7 (fun c hc=>by simp at hc;subst hc;rfl))
  ·exact(ce hr).mp h
theorem qM{r:List Int}(h:b0 r):aI r≠[]:=fun z=>by
 obtain⟨_,h2,h3⟩:=bA r;unfold aI at z
 have:(ao r).2=[]:=List.map_eq_nil_iff.mp z;rw[this]at h3;simp at h3;rw[←h3]at h;exact d7 h2 h
theorem tf{col:Int}{way n i:Nat}{first rest:List Int}{part:List aj}(h3:bg part)(h4:wOk part)(h5:part≠[]):b0 (bh col way first rest n i part):=by
 unfold bh;split
 ·have:=i0 h3 h4 h5 (col-bu first) way (i+1==n);rw[ce this.1];exact this
 ·have:=i0 h3 h4 h5 (col-bu rest) way (i+1==n);rw[ce this.1];exact this
theorem kQ{col:Int}{way:Nat}{L:List Int}{rows:List (List Int)}(hw:aI (aC L rows)≠[]):aH col way L rows≠[]:=by
 intro z;unfold aH at z;have z1:=List.map_eq_nil_iff.mp z;have hp:(aY col L rows).flatten=aB (aC L rows):=cz _ _ _;have z2:aY col L rows=[]:=by
  have:=congrArg List.length z1;rw[List.length_zipIdx]at this;exact List.length_eq_zero_iff.mp this
 rw[z2]at hp
 have:(aB (aC L rows)).map (·.1)=[]:=by rw[←hp];rfl
 rw[eX]at this;exact hw this
theorem nt{col:Int}{way:Nat}{L:List Int}{rows:List (List Int)}(hn:rows≠[])(hs:rsz rows≤4001):∀r∈aH col way L rows,b0 r:=fun r hr=>by
 unfold aH at hr;obtain⟨p,hp,rfl⟩:=List.mem_map.mp hr;have hm:=List.fst_mem_of_mem_zipIdx hp;obtain⟨a,b,c⟩:=du hn hs p.1 hm;exact tf a b c
theorem sT{row:List Int}(h:b0 row):aK [] row=false:=by
 unfold aK;rw[beq_eq_false_iff_ne];intro z;have e:row.takeWhile (bY [])=row:=by
  have:=List.takeWhile_append_dropWhile (p:=bY []) (l:=row);have hl:=congrArg List.length this;rw[List.length_append]at hl;have z':(row.takeWhile (bY [])).length=row.length:=z
  have:row.dropWhile (bY [])=[]:=List.length_eq_zero_iff.mp (by exact lne [_,_,_] [.e (.a .x1 .x2) .x0,.f .x1 .x0] .x2 .k0 [] [0,0] rfl rfl hl z');have h2:=List.takeWhile_append_dropWhile (p:=bY []) (l:=row);rw[this,List.append_nil]at h2;exact h2
 have hb:aU row:=by
  rw[←e];exact c7 row
 exact d7 hb h
theorem fg{col:Int}{way:Nat}:∀(rows par:List (List Int)) (r:List Int),rsz par+rsz rows≤4001→rows.getLast? = some r→b0 r→∃x,(bj col way [] par rows).getLast? = some x∧b0 x
 | [],_,_,_,h,_=>by cases h
 | [q],par,r,hs,h,he=>by
  have hq:q=r:=by simpa using h
  subst hq;rw[ax]at hs;have hs':rsz (par++[q])≤4001:=by rw[au,ax];exact hs
  rw[cN,sT he,if_neg (by decide),d3,if_neg (by simp)];have hne:aH col way [] (par++[q])≠[]:=kQ (by
   rw[d9 (by simp),List.flatMap_append];intro z
   have:=(List.append_eq_nil_iff.mp z).2;simp at this;exact qM he this)
  exact⟨_,List.getLast?_eq_some_getLast hne,nt (by simp) hs' _ (List.getLast_mem hne)⟩
 | q::q'::rows,par,r,hs,h,he=>by
  rw[ax]at hs;rw[List.getLast?_cons_cons]at h;rw[cN];split
  ·obtain⟨x,hx,hxe⟩:=fg (col:=col) (way:=way) (q'::rows) [] r (by simp[rsz]at*;exact ln [_,_,_,_] [.l (.a .x0 (.a .p11 (.a .p21 .x3))) (.k 4001)] (.a .p21 .x3) (.k 4001) [] rfl hs) h he;refine⟨x,?_,hxe⟩;rw[List.getLast?_append];cases e:bj col way [] [] (q'::rows)with
   | nil=>rw[e]at hx;cases hx
   | cons y ys=>rw[e]at hx;rw[List.getLast?_cons_cons,hx];rfl
  ·exact fg (q'::rows) (par++[q]) r (by rw[au,ax];simp[rsz]at*;exact ln [_,_,_,_] [.l (.a .x0 (.a .p11 (.a .p21 .x3))) (.k 4001)] (.a (.a .x0 .p11) (.a .p21 .x3)) (.k 4001) [] rfl hs) h he
theorem nq{col:Int}{way:Nat}{l:List Int}(hl:l.length≤4000)(h:b0 l):b0 (aV col way [] l):=by
 have hj:b0 (ad (ah l)):=by rw[fb];exact h
 obtain⟨r,hr,he⟩:=tE (bJ l) hj;obtain⟨x,hx,hxe⟩:=fg (col:=col) (way:=way) (ah l) [] r (by rw[bO];simp[rsz];exact hl) hr he;exact tj hx hxe
theorem pb{col:Int}{way:Nat}{L l:List Int}{M W:Nat}(hc:col≤W)(hl:l.length≤4000)(hM:∀r∈ah l,(aG L r).length≤M):(aV col way L l).length≤(l.length+1)*(M+2*W+5):=by
 have:=dK (way:=way) hc (ah l) [] (L:=L) (M:=M) (by rw[bO];simp[rsz];exact hl) (by simpa using hM);rw[bO,show rsz ([]:List (List Int))=0 from rfl,Nat.zero_add]at this;unfold aV;exact Nat.le_trans m8 this
theorem fH{col:Int}{way:Nat}{S:St}{lo hi:Nat}(h1:1≤lo)(h2:lo≤hi)(h3:hi≤S.text.length+1)(h4:S.text.length≤4000):
  ∃f,(bk col way [] lo hi S).text=S.text.take (ak S.text lo-1)++aV col way [] (cc S lo hi)++S.text.drop (hi-1)∧ci f S (bk col way [] lo hi S)∧
   Shf (ak S.text lo) (cc S lo hi).length (aV col way [] (cc S lo hi)).length f∧eu S.text (bk col way [] lo hi S).text f:=by
 have l1:=be (t:=S.text) h1;have ho:(cc S lo hi).length≤4000:=by unfold cc;rw[bI (by exact ln [_,_,_] [.l .x0 .p11,.e .p21 .x0] .x2 .x1 [] rfl h3 (su (ln [_,_] [.l .k1 .x0,.l .x0 .x1] .k1 .x1 [] rfl h1 h2)))];exact ln [_,_,_,_] [.l .x0 .p11,.l .x1 (.k 4000),.l .x2 .x3,.e .p31 .x0] .x2 (.k 4000) [] rfl h3 h4 sb (su (ln [_,_] [.l .k1 .x0,.l .x0 .x1] .k1 .x1 [] rfl h1 h2))
 have hS:S.text=S.text.take (ak S.text lo-1)++cc S lo hi++S.text.drop (hi-1):=(ea (by exact ln [_,_,_,_,_] [.l .x0 .x1,.l .x2 .x0,.e .p31 .x2,.f .p41 .x1] .x3 .x4 [] rfl h2 l1.2 (su l1.1) (su (ln [_,_] [.l .k1 .x0,.l .x0 .x1] .k1 .x1 [] rfl h1 h2))) (by exact ln [_,_,_] [.l .x0 .p11,.e .p21 .x0] .x2 .x1 [] rfl h3 (su (ln [_,_] [.l .k1 .x0,.l .x0 .x1] .k1 .x1 [] rfl h1 h2)))).symm;have hAl:(S.text.take (ak S.text lo-1)).length=ak S.text lo-1:=by rw[List.length_take];exact mc (ak S.text lo-1) (S.text.length) (fun z0 w0=>lne [_,_] [.e .x0 .x1,.f .x0 .x1] .x0 .x1 [1,0] [0] rfl rfl w0 w0) fun z0 w0=>lne [_,_,_,_,_,_] [.l .x2 .x5,.e .x4 .x2,.l .x0 .x1,.l .x1 .p21,.l .x3 .x0,.f .x4 .x2,.e .p51 .x3] .x4 .x5 [1,1,0,0,0,0,0] [0,0] rfl rfl z0 w0 h2 h3 l1.2 w0 (su l1.1)
 have hA : S.text.take (ak S.text lo - 1) = [] ∨ gB (S.text.take (ak S.text lo - 1)) ((S.text.take (ak S.text lo - 1)).length - 1) = false := by
  by_cases q:ak S.text lo=1
  ·left;rw[q];rfl
  ·right;rw[hAl];unfold gB;have hx:S.text[ak S.text lo-1-1]? = some 10:=by
    have hrl:(S.text.take (lo-1)).reverse.length=lo-1:=by rw[List.length_reverse,List.length_take];exact sc (ak S.text lo) (1) (fun z0 w0=>mc (lo-1) (S.text.length) (fun z1 w1=>lne [_,_] [.e .x0 .x1,.f .x0 .x1] .x0 .x1 [1,0] [0] rfl rfl w1 w1) fun z1 w1=>lne [_,_,_,_,_] [.l .x2 .x4,.e .x3 .x2,.l .x0 .x1,.l .x1 .p21,.f .x3 .x2,.e .p41 .x0] .x3 .x4 [1,1,0,0,0,0] [0,0] rfl rfl z1 w1 h2 h3 w1 (su h1)) fun z0 w0=>lne [_,_,_,_,_,_] [.l .x4 .x5,.l .x0 .x1,.l .x1 .p21,.l .x2 (.k 4000),.l .k1 .x3,.l .p31 .k1,.l .x5 .x0] .x4 .x5 [1,0,0,0,0,0,0] [0,1,1,1,4001,4001] rfl rfl (Nat.min_le_left _ _) h2 h3 h4 l1.1 z0 sb
    have hk:((S.text.take (lo-1)).reverse.takeWhile (·!= 10)).length<lo-1:=by
     unfold ak at q
     have:=(List.takeWhile_sublist (l:=(S.text.take (lo-1)).reverse) (·!= 10)).length_le;exact sc (ak S.text lo) (1) (fun z0 w0=>nen q (fun z1=>ln [_,_,_,_,_] [.e .x2 .x3,.l .x4 .x2,.l .p11 .k1,.f (.a .x1 .x4) .x0,.e .p31 .x0] .p41 .x3 [2,2] rfl hrl this z1 (su (ln [_,_,_,_] [.e .x1 .x2,.l .x3 .x1,.l .x2 .x0] .x3 .x0 [] rfl hrl this sb)) (su h1)) fun z1=>ln [_,_,_,_] [.l (.k 2) .x1,.e (.a .x1 .x3) .x0,.f .p21 .x0] .p31 .x2 [] rfl z1 (su (ln [_,_,_,_] [.e .x1 .x2,.l .x3 .x1,.l .x2 .x0] .x3 .x0 [] rfl hrl this sb)) (su h1)) fun z0 w0=>ln [_,_,_,_] [.l .k1 .x0,.e .x1 .x2,.l .x3 .x1,.l .p01 .k1] .p31 .x2 [] rfl l1.1 hrl this z0
    have e:=List.takeWhile_append_dropWhile (p:=(·!= (10:Int))) (l:=(S.text.take (lo-1)).reverse);cases hd:(S.text.take (lo-1)).reverse.dropWhile (·!= 10)with
    | nil=>
     rw[hd,List.append_nil]at e
     have:=congrArg List.length e
     lia
    | cons y ys=>
     have hy:y=10:=by
      have:=c8 (p:=(·!= (10:Int))) (l:=(S.text.take (lo-1)).reverse) (c:=y) (by rw[hd];rfl)
      simpa using this
     rw[hd,hy]at e;have hg:(S.text.take (lo-1)).reverse[((S.text.take (lo-1)).reverse.takeWhile (·!= 10)).length]? = some 10:=by
      conv=>lhs;rw[←e]
      rw[List.getElem?_append_right (by rw[e];exact Nat.le_refl _)];rw[e,Nat.sub_self];rfl
     rw[List.getElem?_reverse (by rw[List.length_take];exact sc (ak S.text lo) (1) (fun z0 w0=>mc (lo-1) (S.text.length) (fun z1 w1=>ln [_,_,_] [.l .p11 .x0,.f .x2 .x0] .p11 .x2 [] rfl hk w1) fun z1 w1=>ln [_,_,_,_,_,_] [.l .x0 .x1,.l .x1 .p21,.l .p41 .x3,.f .x5 .x2,.e .p31 .x0] .p41 .x5 [] rfl h2 h3 hk w1 (su h1)) fun z0 w0=>ln [_,_,_,_,_,_,_] [.l .x0 .x1,.l .x1 .p21,.l .x2 (.k 4000),.l .k1 .x3,.l .p51 .x4,.l .p31 .k1,.l .x4 .x0] .p51 .x6 [1,1,1,4001,1,4001] rfl h2 h3 h4 l1.1 hk z0 sb),List.length_take,List.getElem?_take,if_pos (by exact sc (ak S.text lo) (1) (fun z0 w0=>sc (min (lo-1) S.text.length) (1) (fun z1 w1=>ln [_,_,_,_] [.e .p21 .x3,.l .x1 .x2,.l .x3 .x0] .p11 .x0 [] rfl w1 sb (Nat.min_le_left _ _)) fun z1 w1=>ln [_,_,_,_] [.l .p11 .x0,.e .x3 .k0,.l .x2 .x3] .p21 .x0 [] rfl hk w1 sb) fun z0 w0=>ln [_,_,_,_,_] [.l .k1 .x0,.l .p01 .k1,.l .x2 .x3,.l .x3 .x4,.l .x4 .x1] .p21 .x1 [] rfl l1.1 z0 sb sb (Nat.min_le_left _ _))]at hg;unfold ak;rw[show lo-((S.text.take (lo-1)).reverse.takeWhile (·!= 10)).length-1-1=min (lo-1) S.text.length-1-((S.text.take (lo-1)).reverse.takeWhile (·!= 10)).length by lia];exact hg
   have:(S.text.take (ak S.text lo-1)).getD (ak S.text lo-1-1) 32=10:=by
    rw[List.getD,List.getElem?_take,if_pos (by lia),hx];rfl
   rw[this];rfl
 obtain⟨f,f1,f2,f3,f4⟩:=iA (new:=aV col way [] (cc S lo hi)) hS (lI ho).symm hA (nq ho);rw[hAl,show ak S.text lo-1+1=ak S.text lo by lia]at f1 f2 f3;refine⟨f,f1,f2,f3,?_⟩;have f1':(bk col way [] lo hi S).text=_:=f1;rw[f1'];exact f4
end Mine
end
section
namespace Mine
noncomputable def f9(R:List (List Int)):List Int:=R.flatMap fun r=>r++[10]
noncomputable def km(R:List (List Int)):List Int:=R.flatMap fun r=>10::r
theorem oj(R:List (List Int)):(f9 R).length=rsz R:=by
 induction R with
 | nil=>rfl
 | cons r R ih=>unfold f9 at*;rw[List.flatMap_cons,ax,List.length_append,ih];simp
theorem uQ(A B:List (List Int)):f9 (A++B)=f9 A++f9 B:=by unfold f9;rw[List.flatMap_append]
theorem fJ:∀(R1:List (List Int)) (r:List Int) (R2:List (List Int)),ad (R1++r::R2)=f9 R1++r++km R2
 | [],r,R2=>by rw[List.nil_append,bC];rfl
 | q::R1,r,R2=>by
  have ih:=fJ R1 r R2;have e:ad ((q::R1)++r::R2)=q++10::ad (R1++r::R2):=by
   cases R1<;>rfl
  rw[e,ih];unfold f9;simp
theorem jQ{p:Int→Bool}:∀{l r:List Int},(∀c∈l,p c=true)→(∀c,r.head? = some c→p c=false)→(l++r).takeWhile p=l
 | [],[],_,_=>rfl
 | [],c::r,_,h=>by rw[List.nil_append,List.takeWhile_cons,h c rfl];rfl
 | c::l,r,h,h2=>by
  rw[List.cons_append,List.takeWhile_cons,h c List.mem_cons_self];show c::(l++r).takeWhile p=_;rw[jQ (fun x hx=>h x (List.mem_cons_of_mem _ hx)) h2]
theorem qt{pre r post:List Int}{k:Nat}(h1:pre=[]∨pre.getLast? = some 10)(h2:(10:Int)∉r)(h3:post=[]∨post.head? = some 10)(hk:k≤r.length):
  ak (pre++r++post) (pre.length+1+k)=pre.length+1∧aQ (pre++r++post) (pre.length+1+k)=pre.length+r.length+1∧eo (pre++r++post) (pre.length+1+k)=r:=by
 have n10:∀c∈r,(c != 10)=true:=fun c hc=>by
  rw[bne_iff_ne];exact fun e=>h2 (e▸hc)
 have e1:ak (pre++r++post) (pre.length+1+k)=pre.length+1:=by
  unfold ak;have ht:(pre++r++post).take (pre.length+1+k-1)=pre++r.take k:=by
   rw[show pre.length+1+k-1=pre.length+k by exact lne [_,_,_] [.e .p11 (.a .p21 .x0),.f .p11 (.a .p21 .x0)] .x1 (.a .x2 .x0) [1,0] [0] rfl rfl (su (ln [_,_] [] .k1 (.a .p11 .x0) [] rfl)) (su (ln [_,_] [] .k1 (.a .p11 .x0) [] rfl)),List.append_assoc,bS,cj hk]
  rw[ht,List.reverse_append,jQ]
  ·rw[List.length_reverse,List.length_take];exact mc (k) (r.length) (fun z0 w0=>lne [_,_,_,_] [.f .x3 .x0,.e (.a .x1 .x3) (.a .p21 .x0),.e .x3 .x0,.f (.a .x1 .x3) (.a .p21 .x0)] .x1 .p21 [1,1,0,0] [0,0] rfl rfl w0 (su (ln [_,_,_] [.e .x2 .x0] .x2 (.a .p11 .x0) [] rfl w0)) w0 (su (ln [_,_,_] [.e .x2 .x0] .x2 (.a .p11 .x0) [] rfl w0))) fun z0 w0=>lne [_,_,_,_,_] [.l .x0 .x1,.f .x4 .x1,.e (.a .x2 .x4) (.a .p31 .x0),.l .x1 .x0,.e .x4 .x1,.f (.a .x2 .x4) (.a .p31 .x0)] .x2 .p31 [1,1,1,0,0,0] [0,0,0] rfl rfl hk w0 (su (ln [_,_,_,_] [.l .x1 .x0,.e .x3 .x1] .x3 (.a .p21 .x0) [] rfl z0 w0)) z0 w0 (su (ln [_,_,_,_] [.l .x1 .x0,.e .x3 .x1] .x3 (.a .p21 .x0) [] rfl z0 w0))
  ·intro c hc;exact n10 c (List.take_subset _ _ (List.mem_reverse.mp hc))
  ·intro c hc;rcases h1 with h1|h1
   ·subst h1;cases hc
   ·rw[List.head?_reverse,h1]at hc;cases hc;rfl
 have e2:aQ (pre++r++post) (pre.length+1+k)=pre.length+r.length+1:=by
  unfold aQ;have ht:(pre++r++post).drop (pre.length+1+k-1)=r.drop k++post:=by
   rw[show pre.length+1+k-1=pre.length+k by exact lne [_,_,_] [.e .p21 (.a .p11 .x0),.f .p21 (.a .p11 .x0)] .x2 (.a .x1 .x0) [1,0] [0] rfl rfl (su (ln [_,_] [] .k1 (.a .p11 .x0) [] rfl)) (su (ln [_,_] [] .k1 (.a .p11 .x0) [] rfl)),List.append_assoc,eC,List.drop_append_of_le_length hk]
  rw[ht,jQ]
  ·rw[List.length_drop];exact lne [_,_,_,_] [.e (.a .x3 .x0) .x1,.f (.a .x3 .x0) .x1] (.a (.a .p21 .x0) .x3) (.a (.a .x2 .x1) .k1) [1,0] [0] rfl rfl (su hk) (su hk)
  ·exact fun c hc=>n10 c (List.drop_subset _ _ hc)
  ·intro c hc;rcases h3 with h3|h3
   ·subst h3;cases hc
   ·rw[h3]at hc;cases hc;rfl
 refine⟨e1,e2,?_⟩;unfold eo;rw[e1,e2,show pre.length+1-1=pre.length by exact lne [_,_] [.e .p11 .p01,.f .p11 .p01] .x1 .x0 [1,0] [0] rfl rfl (su (ln [_] [] .k1 .p01 [] rfl)) (su (ln [_] [] .k1 .p01 [] rfl)),show pre.length+r.length+1-1=pre.length+r.length by exact lne [_,_,_] [.e .p21 (.a (.a .x1 .x0) .k1),.f .p21 (.a (.a .x1 .x0) .k1)] .x2 (.a .x1 .x0) [1,0] [0] rfl rfl (su (ln [_,_] [] .k1 (.a (.a .x1 .x0) .k1) [] rfl)) (su (ln [_,_] [] .k1 (.a (.a .x1 .x0) .k1) [] rfl))];exact jz
theorem sP(R:List (List Int)):f9 R=[]∨(f9 R).getLast? = some 10:=by
 by_cases h:R=[]
 ·left;subst h;rfl
 ·right;rw[←List.dropLast_concat_getLast h,uQ];unfold f9;simp
theorem qd(R:List (List Int)):km R=[]∨(km R).head? = some 10:=by
 cases R with
 | nil=>left;rfl
 | cons r R=>right;rfl
theorem bx{R1 R2:List (List Int)}{r:List Int}{k:Nat}(h:(10:Int)∉r)(hk:k≤r.length):
  ak (ad (R1++r::R2)) (rsz R1+1+k)=rsz R1+1∧aQ (ad (R1++r::R2)) (rsz R1+1+k)=rsz R1+r.length+1∧eo (ad (R1++r::R2)) (rsz R1+1+k)=r:=by
 have:=qt (sP R1) h (qd R2) hk;rw[oj]at this;rw[fJ];exact this
theorem cn{R:List (List Int)}(h:R≠[]):(ad R).length+1=rsz R:=by
 match R,h with
 | r::rs,_=>rw[bC,ax,List.length_append,vE];exact lne [_,_] [] (.a (.a .x0 .x1) .k1) (.a .p01 .x1) [] [] rfl rfl
theorem qr:∀(R:List (List Int)) (p:Nat),p<rsz R→∃R1 r R2 k,R=R1++r::R2∧p=rsz R1+k∧k≤r.length
 | [],p,h=>by simp[rsz]at h
 | r::R,p,h=>by
  by_cases q:p≤r.length
  ·exact⟨[],r,R,p,rfl,by simp[rsz],q⟩
  ·rw[ax]at h;obtain⟨R1,x,R2,k,e,hp,hk⟩:=qr R (p-(r.length+1)) (by exact ln [_,_,_,_] [.l .p01 (.a .p11 .x2),.e (.a .x3 .p11) .x0] .p31 .x2 [] rfl h (su (Nat.not_le.mp q)));exact⟨r::R1,x,R2,k,by rw[e];rfl,by rw[ax];exact lne [_,_,_,_,_] [.e .x2 (.a .x3 .x4),.f (.a .x2 .p11) .x0,.f .x2 (.a .x3 .x4),.e (.a .x2 .p11) .x0] .x0 (.a (.a .p11 .x3) .x4) [1,1,0,0] [0,0] rfl rfl hp (su (Nat.not_le.mp q)) hp (su (Nat.not_le.mp q)),hk⟩
variable {L:List Int}
noncomputable def iD(R:List (List Int)):Prop:=∀r∈R,(10:Int)∉r
theorem iz:∀(Z:List (List Int)) (R1:List (List Int)) (q:List Int) (R2:List (List Int)) (n:Nat),iD (R1++Z++q::R2)→(∀z∈Z,aK L z=true)→aK L q=false→Z.length<n→
  fp L (ad (R1++Z++q::R2)) n (rsz R1+1)=rsz (R1++Z)+1
 | [],R1,q,R2,n,h0,_,hq,hn=>by
  obtain⟨n,rfl⟩:∃m,n=m+1:=⟨n-1,(by have h9:0<n:=(by simpa using hn);exact lne [_,_] [.f .p11 .x0,.e .p11 .x0] .x0 .p11 [1,0] [0] rfl rfl (su hn) (su hn))⟩
  simp only[List.append_nil]at h0⊢;have hf:=bx (R1:=R1) (R2:=R2) (k:=0) (h0 q (by simp)) (Nat.zero_le _);unfold fp;rw[if_neg];rintro⟨_,h⟩;rw[Nat.add_zero]at hf;rw[hf.2.2,hq]at h;cases h
 | z::Z,R1,q,R2,n,h0,hz,hq,hn=>by
  obtain⟨n,rfl⟩:∃m,n=m+1:=⟨n-1,by simp at hn;exact lne [_,_] [.f .p11 .x0,.e .p11 .x0] .x0 .p11 [1,0] [0] rfl rfl (su (ln [_,_] [.l (.a .p01 .k1) .x1] .k1 .x1 [] rfl hn)) (su (ln [_,_] [.l (.a .p01 .k1) .x1] .k1 .x1 [] rfl hn))⟩
  have hzp:=hz z List.mem_cons_self;have e:R1++(z::Z)++q::R2=R1++z::(Z++q::R2):=by simp
  have e2:R1++(z::Z)++q::R2=(R1++[z])++Z++q::R2:=by simp
  have hf:=bx (R1:=R1) (R2:=Z++q::R2) (r:=z) (k:=0) (h0 z (by simp)) (Nat.zero_le _);rw[Nat.add_zero,←e]at hf;have hl:=cn (R:=R1++(z::Z)++q::R2) (by simp);have hs:rsz (R1++(z::Z)++q::R2)=rsz R1+(z.length+1+rsz Z)+(q.length+1+rsz R2):=by rw[au,au,ax,ax]
  unfold fp;rw[if_pos ⟨by exact ln [_,_,_,_,_,_,_] [.f .p21 .x3,.f .x3 (.a (.a .x0 (.a .p11 .x4)) (.a .p51 .x6))] (.a .p01 .k1) .p21 [] rfl hl hs,by rw[hf.2.2];exact hzp⟩,hf.2.1,show rsz R1+z.length+1+1=rsz (R1++[z])+1 by rw[au,ax,show rsz ([]:List (List Int))=0 from rfl];exact lne [_,_] [] (.a (.a (.a .x0 .x1) .k1) .k1) (.a (.a .x0 (.a .p11 .k0)) .k1) [] [] rfl rfl];have ih:=iz Z (R1++[z]) q R2 n (by rw[←e2];exact h0) (fun x hx=>hz x (List.mem_cons_of_mem _ hx)) hq (by simp at hn;exact hn);rw[←e2]at ih;rw[ih];simp
theorem od:∀(Z:List (List Int)) (R1:List (List Int)) (n:Nat),iD (R1++Z)→Z≠[]→(∀z∈Z,aK L z=true)→Z.length≤n→
  (ad (R1++Z)).length+1≤fp L (ad (R1++Z)) n (rsz R1+1)
 | [],_,_,_,h,_,_=>absurd rfl h
 | z::Z,R1,n,h0,_,hz,hn=>by
  obtain⟨n,rfl⟩:∃m,n=m+1:=⟨n-1,by simp at hn;exact lne [_,_] [.f .p11 .x0,.e .p11 .x0] .x0 .p11 [1,0] [0] rfl rfl (su (ln [_,_] [.l .p01 .x1] .k1 .x1 [] rfl hn)) (su (ln [_,_] [.l .p01 .x1] .k1 .x1 [] rfl hn))⟩
  have hzp:=hz z List.mem_cons_self;have e2:R1++z::Z=(R1++[z])++Z:=by simp
  have hf:=bx (R1:=R1) (R2:=Z) (r:=z) (k:=0) (h0 z (by simp)) (Nat.zero_le _);rw[Nat.add_zero]at hf;have hl:=cn (R:=R1++z::Z) (by simp);have hs:rsz (R1++z::Z)=rsz R1+(z.length+1+rsz Z):=by rw[au,ax]
  unfold fp;split
  ·rw[hf.2.1,show rsz R1+z.length+1+1=rsz (R1++[z])+1 by rw[au,ax,show rsz ([]:List (List Int))=0 from rfl];exact lne [_,_] [] (.a (.a (.a .x0 .x1) .k1) .k1) (.a (.a .x0 (.a .p11 .k0)) .k1) [] [] rfl rfl]
   by_cases hZ:Z=[]
   ·subst hZ
    have:=j6 (L:=L) (t:=ad (R1++[z])) n (rsz (R1++[z])+1) (by exact ln [_] [] .k1 .p01 [] rfl);exact ln [_,_,_] [.e .p01 .x1,.l .p11 .x2] .p01 .x2 [] rfl hl this
   ·have ih:=od Z (R1++[z]) n (by rw[←e2];exact h0) hZ (fun x hx=>hz x (List.mem_cons_of_mem _ hx)) (by simp at hn;exact hn);rw[←e2]at ih;exact ih
  ·rename_i q;rw[hf.2.2]at q
   have:¬(rsz R1+1<(ad (R1++z::Z)).length+1):=fun x=>q ⟨x,hzp⟩
   exact(Nat.not_lt.mp this)
theorem wM:∀(N:List (List Int)) (R1:List (List Int)) (R2:List (List Int)) (n:Nat),iD (R1++N++R2)→R2≠[]→(∀z∈N,aK L z=false)→(R1=[]∨∃R0 z,R1=R0++[z]∧aK L z=true)→N.length<n→
  upF L (ad (R1++N++R2)) n (rsz (R1++N)+1)=rsz R1+1:=by
 intro N;generalize hm:N.length=m
 induction m generalizing N with
 | zero=>
  intro R1 R2 n h0 h2 _ hR hn
  have:=List.length_eq_zero_iff.mp hm;subst this;obtain⟨n,rfl⟩:∃m,n=m+1:=⟨n-1,by exact lne [_,_] [.f .p11 .x0,.e .p11 .x0] .x0 .p11 [1,0] [0] rfl rfl (su hn) (su hn)⟩
  simp only[List.append_nil]at h0⊢;unfold upF;rw[if_neg];rintro⟨h1,h⟩;rcases hR with hR|⟨R0,z,rfl,hz⟩
  ·subst hR;simp[rsz]at h1
  ·have e:R0++[z]++R2=R0++z::R2:=by simp
   have hf:=bx (R1:=R0) (R2:=R2) (r:=z) (k:=z.length) (h0 z (by simp)) (Nat.le_refl _);rw[←e]at hf;rw[show rsz (R0++[z])+1-1=rsz R0+1+z.length by rw[au,ax,show rsz ([]:List (List Int))=0 from rfl];exact lne [_,_,_] [.e .p21 (.a (.a .x0 (.a .p11 .k0)) .k1),.f .p21 (.a (.a .x0 (.a .p11 .k0)) .k1)] .x2 (.a .p01 .x1) [1,0] [0] rfl rfl (su (ln [_,_] [] .k1 (.a (.a .x0 (.a .p11 .k0)) .k1) [] rfl)) (su (ln [_,_] [] .k1 (.a (.a .x0 (.a .p11 .k0)) .k1) [] rfl)),hf.2.2,hz]at h;cases h
 | succ m ih=>
  intro R1 R2 n h0 h2 hN hR hn;obtain⟨n,rfl⟩:∃m,n=m+1:=⟨n-1,by exact lne [_,_] [.f .p11 .x0,.e .p11 .x0] .x0 .p11 [1,0] [0] rfl rfl (su (ln [_,_] [.l (.a .p01 .k1) .x1] .k1 .x1 [] rfl hn)) (su (ln [_,_] [.l (.a .p01 .k1) .x1] .k1 .x1 [] rfl hn))⟩
  have hne:N≠[]:=fun z=>by subst z;cases hm
  obtain⟨N',y,rfl⟩:∃N' y,N=N'++[y]:=⟨N.dropLast,N.getLast hne,(List.dropLast_concat_getLast hne).symm⟩
  have hy:=hN y (by simp);have e:R1++(N'++[y])++R2=(R1++N')++y::R2:=by simp
  have e3:R1++(N'++[y])++R2=R1++N'++(y::R2):=by simp
  have hf:=bx (R1:=R1++N') (R2:=R2) (r:=y) (k:=y.length) (h0 y (by simp)) (Nat.le_refl _);rw[←e]at hf;have hs:rsz (R1++(N'++[y]))+1-1=rsz (R1++N')+1+y.length:=by
   rw[←List.append_assoc,au (R1++N'),ax,show rsz ([]:List (List Int))=0 from rfl];exact lne [_,_,_] [.e .p21 (.a (.a .x0 (.a .p11 .k0)) .k1),.f .p21 (.a (.a .x0 (.a .p11 .k0)) .k1)] .x2 (.a .p01 .x1) [1,0] [0] rfl rfl (su (ln [_,_] [] .k1 (.a (.a .x0 (.a .p11 .k0)) .k1) [] rfl)) (su (ln [_,_] [] .k1 (.a (.a .x0 (.a .p11 .k0)) .k1) [] rfl))
  unfold upF;rw[hs,if_pos ⟨by exact ln [_,_,_,_] [.f .x2 (.a .p01 .x1),.e .p21 .p31] (.k 2) .p31 [] rfl hs (su (ln [_] [] .k1 .p01 [] rfl)),by rw[hf.2.2];exact hy⟩,hf.1]
  have:=ih N' (by simp at hm;exact hm) R1 (y::R2) n (by rw[←e3];exact h0) (by simp) (fun z hz=>hN z (List.mem_append_left _ hz)) hR (by exact ln [_,_] [.l (.a .p01 .k1) .p11] .p01 .x1 [] rfl hn);rw[←e3]at this;exact this
theorem mC:∀(N:List (List Int)) (R1:List (List Int)) (R2:List (List Int)) (n:Nat),iD (R1++N++R2)→R1≠[]→(∀z∈N,aK L z=false)→(R2=[]∨∃z R3,R2=z::R3∧aK L z=true)→N.length<n→
  fw L (ad (R1++N++R2)) n (rsz R1)=rsz (R1++N)
 | [],R1,R2,n,h0,h1,_,hR,hn=>by
  obtain⟨n,rfl⟩:∃m,n=m+1:=⟨n-1,(by have h9:0<n:=(by simpa using hn);exact lne [_,_] [.f .p11 .x0,.e .p11 .x0] .x0 .p11 [1,0] [0] rfl rfl (su hn) (su hn))⟩
  simp only[List.append_nil]at h0⊢;unfold fw;rw[if_neg];rintro⟨h2,h⟩;rcases hR with hR|⟨z,R3,rfl,hz⟩
  ·subst hR;rw[List.append_nil]at h2
   have:=cn h1;exact lnf _ [_,_] [.l .p01 .p11,.e .p11 .x0] [] rfl h2 this
  ·have hf:=bx (R1:=R1) (R2:=R3) (r:=z) (k:=0) (h0 z (by simp)) (Nat.zero_le _);rw[Nat.add_zero]at hf;rw[hf.2.2,hz]at h;cases h
 | y::N,R1,R2,n,h0,h1,hN,hR,hn=>by
  obtain⟨n,rfl⟩:∃m,n=m+1:=⟨n-1,by simp at hn;exact lne [_,_] [.f .p11 .x0,.e .p11 .x0] .x0 .p11 [1,0] [0] rfl rfl (su (ln [_,_] [.l (.a .p01 .k1) .x1] .k1 .x1 [] rfl hn)) (su (ln [_,_] [.l (.a .p01 .k1) .x1] .k1 .x1 [] rfl hn))⟩
  have hy:=hN y List.mem_cons_self;have e:R1++(y::N)++R2=R1++y::(N++R2):=by simp
  have e2:R1++(y::N)++R2=(R1++[y])++N++R2:=by simp
  have hf:=bx (R1:=R1) (R2:=N++R2) (r:=y) (k:=0) (h0 y (by simp)) (Nat.zero_le _);rw[Nat.add_zero,←e]at hf;have hl:=cn (R:=R1++(y::N)++R2) (by simp);have hs:rsz (R1++(y::N)++R2)=rsz R1+(y.length+1+rsz N)+rsz R2:=by rw[au,au,ax]
  unfold fw;rw[if_pos ⟨by exact ln [_,_,_,_,_,_] [.f .p21 .x3,.f .x3 (.a (.a .x0 (.a .p11 .x4)) .x5)] .p01 .p21 [] rfl hl hs,by rw[hf.2.2];exact hy⟩,hf.2.1,show rsz R1+y.length+1=rsz (R1++[y]) by rw[au,ax,show rsz ([]:List (List Int))=0 from rfl];exact lne [_,_] [] (.a (.a .x0 .x1) .k1) (.a .x0 (.a .p11 .k0)) [] [] rfl rfl];have ih:=mC N (R1++[y]) R2 n (by rw[←e2];exact h0) (by simp) (fun x hx=>hN x (List.mem_cons_of_mem _ hx)) hR (by simp at hn;exact hn);rw[←e2]at ih;rw[ih];simp
structure wx(L:List Int)(R1 P R2:List (List Int)):Prop where
 no:iD (R1++P++R2)
 ne:P≠[]
 np:∀z∈P,aK L z=false
 up:R1=[]∨∃R0 z,R1=R0++[z]∧aK L z=true
 dn:R2=[]∨∃z R3,R2=z::R3∧aK L z=true
noncomputable def Loc(L:List Int)(R1 P:List (List Int))(p:Nat):Prop:=(rsz R1+1≤p∧p≤rsz (R1++P))∨∃R0 z Z k,R1=R0++z::Z∧(∀x∈z::Z,aK L x=true)∧p=rsz R0+1+k∧k≤z.length
theorem lZ{R:List (List Int)}(h:R≠[]):R.length<(ad R).length+2:=by
 have q10:=cn h
 have:=fY R;exact ln [_,_,_] [.f .p01 .x1,.l .x2 .x1] .p21 (.a .x0 (.k 2)) [] rfl q10 this
theorem rD{R1 P R2:List (List Int)}{p:Nat}(H:wx L R1 P R2)(hp:Loc L R1 P p):aL L (ad (R1++P++R2)) p=(rsz R1+1,rsz (R1++P)):=by
 have hne:R1++P++R2≠[]:=by simp[H.ne]
 have hfu:=lZ hne;have hlen:(R1++P++R2).length=R1.length+P.length+R2.length:=by simp;exact lne [_,_,_] [] (.a .x0 (.a .x1 .x2)) (.a (.a .x0 .x1) .x2) [] [] rfl rfl
 have hjl:=cn hne;have key:∃N1 q N2,P=N1++q::N2∧gK L (ad (R1++P++R2)) p=rsz (R1++N1)+1:=by
  rcases hp with⟨h1,h2⟩|⟨R0,z,Z,k,rfl,hz,rfl,hk⟩
  ·rw[au]at h2;obtain⟨N1,q,N2,k,rfl,e,hk⟩:=qr P (p-(rsz R1+1)) (by exact ln [_,_,_,_] [.l .x1 (.a .x0 .x2),.e (.a .x3 .p01) .x1] .p31 .x2 [] rfl h2 (su h1));refine⟨N1,q,N2,rfl,?_⟩;have ee:R1++(N1++q::N2)++R2=(R1++N1)++q::(N2++R2):=by simp
   have ee2:R1++(N1++q::N2)++R2=(R1++N1)++[]++q::(N2++R2):=by simp
   have hf:=bx (R1:=R1++N1) (R2:=N2++R2) (r:=q) (k:=k) (H.no q (by simp)) hk;rw[←ee]at hf;unfold gK;rw[show p=rsz (R1++N1)+1+k by rw[au];exact lne [_,_,_,_,_] [.e .x2 (.a .x3 .x4),.f (.a .x2 .p01) .x1,.f .x2 (.a .x3 .x4),.e (.a .x2 .p01) .x1] .x1 (.a (.a (.a .x0 .x3) .k1) .x4) [1,1,0,0] [0,0] rfl rfl e (su h1) e (su h1),hf.1]
   have:=iz (L:=L) [] (R1++N1) q (N2++R2) ((ad (R1++(N1++q::N2)++R2)).length+2) (by rw[←ee2];exact H.no) (fun z hz=>by cases hz) (H.np q (by simp)) (by simp);rw[←ee2,List.append_nil]at this;exact this
  ·obtain⟨q,N2,rfl⟩:∃q N2,P=q::N2:=by
    cases P with
    | nil=>exact absurd rfl H.ne
    | cons q N2=>exact⟨q,N2,rfl⟩
   refine⟨[],q,N2,rfl,?_⟩;have ee:R0++z::Z++(q::N2)++R2=R0++z::(Z++q::N2++R2):=by simp
   have ee2:R0++z::Z++(q::N2)++R2=R0++(z::Z)++q::(N2++R2):=by simp
   have hf:=bx (R1:=R0) (R2:=Z++q::N2++R2) (r:=z) (k:=k) (H.no z (by simp)) hk;rw[←ee]at hf;unfold gK;rw[hf.1]
   have:=iz (L:=L) (z::Z) R0 q (N2++R2) ((ad (R0++z::Z++(q::N2)++R2)).length+2) (by rw[←ee2];exact H.no) hz (H.np q (by simp)) (by simp at hfu⊢;exact ln [_,_,_,_,_] [.l (.a (.a .x2 (.a (.a .x3 (.a (.a .x0 .x1) .k1)) .k1)) .k1) (.a .x4 (.k 2))] .p31 .p41 [] rfl hfu);rw[←ee2]at this;rw[this];simp
 obtain⟨N1,q,N2,rfl,ht⟩:=key;have ee:R1++(N1++q::N2)++R2=(R1++N1)++q::(N2++R2):=by simp
 have hf:=bx (R1:=R1++N1) (R2:=N2++R2) (r:=q) (k:=0) (H.no q (by simp)) (Nat.zero_le _);rw[←ee,Nat.add_zero]at hf;have hs:rsz (R1++(N1++q::N2)++R2)=rsz (R1++N1)+(q.length+1+rsz N2)+rsz R2:=by
  rw[show R1++(N1++q::N2)++R2=(R1++N1)++(q::N2)++R2 by simp,au,au (R1++N1),ax]
 have hqp:0<q.length:=by
  refine Nat.pos_of_ne_zero fun z=>?_
  have:=List.length_eq_zero_iff.mp z;have h9:=H.np q (by simp);rw[this]at h9;cases h9
 unfold aL;rw[ht,if_neg (by
  rintro(h|h)
  ·exact lnf _ [_,_,_,_,_,_] [.f .p01 .x1,.f .x1 (.a (.a .x2 (.a .p31 .x4)) .x5),.l .k1 .x3,.l .p01 .p21] [] rfl hjl hs hqp h
  ·rw[hf.2.2,H.np q (by simp)]at h;cases h),hf.2.1]
 have hu:=wM (L:=L) N1 R1 (q::(N2++R2)) ((ad (R1++(N1++q::N2)++R2)).length+2) (by have:=H.no;rw[ee]at this;exact this) (by simp) (fun z hz=>H.np z (by simp[hz])) H.up (by simp at hfu hlen⊢;exact ln [_,_,_,_,_] [.l (.a (.a .x0 (.a .x1 (.a (.a .x2 .x3) .k1))) .k1) (.a .x4 (.k 2))] .p11 (.a .x4 (.k 2)) [] rfl hfu);rw[←ee]at hu;have ee3:R1++(N1++q::N2)++R2=(R1++N1++[q])++N2++R2:=by simp
 have hd:=mC (L:=L) N2 (R1++N1++[q]) R2 ((ad (R1++(N1++q::N2)++R2)).length+2) (by have:=H.no;rw[ee3]at this;exact this) (by simp) (fun z hz=>H.np z (by simp[hz])) H.dn (by simp at hfu hlen⊢;exact ln [_,_,_,_,_] [.l (.a (.a .x0 (.a .x1 (.a (.a .x2 .x3) .k1))) .k1) (.a .x4 (.k 2))] .p21 (.a .x4 (.k 2)) [] rfl hfu);rw[←ee3]at hd;rw[hu,show rsz (R1++N1)+q.length+1=rsz (R1++N1++[q]) by rw[au (R1++N1),ax,show rsz ([]:List (List Int))=0 from rfl];exact lne [_,_] [] (.a (.a .x0 .x1) .k1) (.a .x0 (.a .p11 .k0)) [] [] rfl rfl,hd];simp
theorem xx:∀(A:List (List Int)),∃R1 N1,A=R1++N1∧(∀z∈N1,aK L z=false)∧(R1=[]∨∃R0 z,R1=R0++[z]∧aK L z=true):=by
 intro A;generalize hm:A.length=m
 induction m generalizing A with
 | zero=>
  have:=List.length_eq_zero_iff.mp hm;subst this;exact⟨[],[],rfl,fun z h=>(by cases h),.inl rfl⟩
 | succ m ih=>
  have hne:A≠[]:=fun z=>by subst z;cases hm
  obtain⟨A',y,rfl⟩:∃A' y,A=A'++[y]:=⟨A.dropLast,A.getLast hne,(List.dropLast_concat_getLast hne).symm⟩
  cases hy:aK L y with
  | true=>exact⟨A'++[y],[],by simp,fun z h=>(by cases h),.inr ⟨A',y,rfl,hy⟩⟩
  | false=>
   obtain⟨R1,N1,rfl,h1,h2⟩:=ih A' (by simp at hm;exact hm);refine⟨R1,N1++[y],by simp,fun z hz=>?_,h2⟩;rcases List.mem_append.mp hz with hz|hz
   ·exact h1 z hz
   ·rw[List.mem_singleton]at hz;subst hz;exact hy
theorem o9:∀(B:List (List Int)),∃N2 R2,B=N2++R2∧(∀z∈N2,aK L z=false)∧(R2=[]∨∃z R3,R2=z::R3∧aK L z=true)
 | []=>⟨[],[],rfl,fun z h=>(by cases h),.inl rfl⟩
 | y::B=>by
  cases hy:aK L y with
  | true=>exact⟨[],y::B,rfl,fun z h=>(by cases h),.inr ⟨y,B,rfl,hy⟩⟩
  | false=>
   obtain⟨N2,R2,rfl,h1,h2⟩:=o9 B;exact⟨y::N2,R2,rfl,fun z hz=>by
    rcases List.mem_cons.mp hz with rfl|hz
    ·exact hy
    ·exact h1 z hz,h2⟩
theorem kP:∀(B:List (List Int)),(∀z∈B,aK L z=true)∨∃Z q B',B=Z++q::B'∧(∀z∈Z,aK L z=true)∧aK L q=false
 | []=>.inl fun z h=>by cases h
 | y :: B => by
  cases hy:aK L y with
  | false=>exact .inr ⟨[],y,B,rfl,fun z h=>(by cases h),hy⟩
  | true=>
   rcases kP B with h|⟨Z,q,B',rfl,h1,h2⟩
   ·exact .inl fun z hz=>by
     rcases List.mem_cons.mp hz with rfl|hz
     ·exact hy
     ·exact h z hz
   ·exact .inr ⟨y::Z,q,B',rfl,fun z hz=>by
     rcases List.mem_cons.mp hz with rfl|hz
     ·exact hy
     ·exact h1 z hz,h2⟩
theorem xk{R:List (List Int)}{p:Nat}(hne:R≠[])(h0:iD R)(h1:1≤p)(h2:p≤(ad R).length+1):
  aL L (ad R) p=(p,p)∨∃R1 P R2,R=R1++P++R2∧wx L R1 P R2∧Loc L R1 P p:=by
 have hjl:=cn hne;obtain⟨A,r,B,k,rfl,e,hk⟩:=qr R (p-1) (by exact ln [_,_,_,_] [.l .x0 .p11,.e .p11 .x2,.e .p31 .x0] .p31 .x2 [] rfl h2 hjl (su h1));rcases kP (L:=L) (r::B)with hall|⟨Z,q,B',hZ,hz,hq⟩
 ·left;have hf:=bx (R1:=A) (R2:=B) (r:=r) (k:=k) (h0 r (by simp)) hk;have hfu:=lZ hne
  have:=od (L:=L) (r::B) A ((ad (A++r::B)).length+2) h0 (by simp) hall (by simp at hfu⊢;exact ln [_,_,_] [.l (.a (.a .x1 .p21) .k1) (.a .x0 (.k 2))] .x2 .p01 [] rfl hfu);unfold aL gK;rw[show p=rsz A+1+k by exact lne [_,_,_,_] [.e .x1 (.a .x2 .x3),.f .p11 .x0,.f .x1 (.a .x2 .x3),.e .p11 .x0] .x0 (.a .p21 .x3) [1,1,0,0] [0,0] rfl rfl e (su h1) e (su h1),hf.1,if_pos (.inl this)]
 ·right;obtain⟨R1,N1,hA,g1,g2⟩:=xx (L:=L) (A++Z);obtain⟨N2,R2,rfl,g3,g4⟩:=o9 (L:=L) B';have hR:A++r::B=R1++(N1++q::N2)++R2:=by rw[hZ,←List.append_assoc,hA];simp
  refine⟨R1,N1++q::N2,R2,hR,⟨by rw[←hR];exact h0,by simp,fun z hz'=>?_,g2,g4⟩,?_⟩
  ·rcases List.mem_append.mp hz' with h|h
   ·exact g1 z h
   ·rcases List.mem_cons.mp h with rfl|h
    ·exact hq
    ·exact g3 z h
  ·cases Z with
   | nil=>
    left;rw[List.append_nil]at hA;rw[List.nil_append]at hZ;injection hZ with e1 e2
    subst e1;rw[hA]at e;rw[show R1++(N1++r::N2)=(R1++N1)++r::N2 by simp,au (R1++N1),ax];rw[au]at e⊢;exact⟨ln [_,_,_,_,_] [.f .x2 (.a (.a .x3 .x4) .x1),.e .p21 .x0] .p31 .x0 [] rfl e (su h1),ln [_,_,_,_,_,_,_] [.l .x1 .x2,.e .x3 (.a (.a .x4 .x5) .x1),.f .p31 .x0] .x0 (.a (.a .x4 .x5) (.a .p21 .x6)) [] rfl hk e (su h1)⟩
   | cons z Z=>
    right;rw[List.cons_append]at hZ;injection hZ with e1 e2
    subst e1;have hN:N1=[]:=by
     refine Classical.byContradiction fun hn=>?_
     have l1:(R1++N1).getLast? = some (N1.getLast hn):=by rw[List.getLast?_append,List.getLast?_eq_some_getLast hn];rfl
     rw[←hA,List.getLast?_append,List.getLast?_eq_some_getLast (show r::Z≠[] by simp)]at l1;replace l1:some ((r::Z).getLast (by simp))=some (N1.getLast hn):=l1;injection l1 with l1
     have a1:=g1 _ (List.getLast_mem hn);rw[←l1,hz _ (List.getLast_mem (by simp))]at a1;cases a1
    rw[hN,List.append_nil]at hA;exact⟨A,r,Z,k,hA.symm,hz,by exact lne [_,_,_,_] [.e .x1 (.a .x2 .x3),.f .p11 .x0,.f .x1 (.a .x2 .x3),.e .p11 .x0] .x0 (.a .p21 .x3) [1,1,0,0] [0,0] rfl rfl e (su h1) e (su h1),hk⟩
end Mine
end
section
namespace Mine
noncomputable def cod(row:List aj):List Int:=az row (aq row)
theorem td{col:Int}{first rest:List Int}{n i:Nat}{part:List aj}:bh col 0 first rest n i part=(if i=0 then first else rest)++cod part:=by
 have h:∀w l,a8 part w 0 l=cod part:=fun w l=>by
  unfold a8;rw[if_neg (by simp),if_pos (.inr (.inl rfl))];rfl
 unfold bh;rw[h,h];split<;>rfl
noncomputable def xw(first rest:List Int):List (List Int)→List (List Int)
 | []=>[]
 | c::cs=>(first++c)::cs.map (rest++·)
theorem rL{first rest:List Int}:∀(parts:List (List aj)) (k:Nat),0<k→((parts.zipIdx k).map fun p=>(if p.2=0 then first else rest)++cod p.1)=parts.map fun p=>rest++cod p
 | [],_,_=>rfl
 | p::parts,k,h=>by
  rw[List.zipIdx_cons,List.map_cons,List.map_cons,rL parts (k+1) (by exact ln [_] [] .k1 .p01 [] rfl)];rw[if_neg (show ¬(p,k).2=0 by show ¬k=0;exact fun zz=>lnf _ [_] [.l .k1 .x0,.e .x0 .k0] [] rfl h zz)]
theorem ff{col:Int}{L:List Int}{rows:List (List Int)}:aH col 0 L rows=xw (aA L rows).1 (aA L rows).2 ((aY col L rows).map cod):=by
 unfold aH;simp only[td];cases aY col L rows with
 | nil=>rfl
 | cons p ps=>
  rw[List.zipIdx_cons,List.map_cons,rL ps 1 (by decide)];simp[xw,List.map_map,Function.comp_def]
inductive de:List aj→List aj→Prop
 | nil:de [] []
 | one {p p':aj} (h:p.1=p'.1):de [p] [p']
 | cons {p q q':aj} {r r':List aj} (h:de (q::r) (q'::r')):de (p::q::r) (p::q'::r')
theorem de.len{a b:List aj}(h:de a b):a.length=b.length:=by
 induction h with
 | nil=>rfl
 | one _=>rfl
 | cons _ ih=>exact congrArg (· + 1) ih
theorem de.nil_iff{a b:List aj}(h:de a b):a=[]↔b=[]:=by
 have:=h.len
 constructor<;>intro e<;>subst e<;>simp at this
 ·exact List.length_eq_zero_iff.mp this.symm
 ·exact this
theorem iR{p q:aj}{r:List aj}:cod (p::q::r)=p.1++List.replicate p.2.toNat 32++cod (q::r):=rfl
theorem de.cod{a b:List aj}(h:de a b):cod a=cod b:=by
 induction h with
 | nil=>rfl
 | one h=>unfold Mine.cod;rw[bz,bz,h]
 | cons _ ih=>rw[iR,iR,ih]
theorem de.rowEndF{width:Int}{a b:List aj}(h:de a b):∀(used:Int) (best n:Nat),rowEndF width used best n a=rowEndF width used best n b:=by
 induction h with
 | nil=>exact fun _ _ _=>rfl
 | one h=>
  intro used best n;unfold Mine.rowEndF;rw[h,if_pos (c:=([]:List aj)=[]∨_) (.inl rfl),if_pos (c:=([]:List aj)=[]∨_) (.inl rfl)];rfl
 | cons _ ih=>
  intro used best n;unfold Mine.rowEndF;rw[ih,ih];simp only[reduceCtorEq]
theorem de.split{a b:List aj}(h:de a b):∀(k:Nat),(k<a.length→a.take k=b.take k∧de (a.drop k) (b.drop k))∧(a.length≤k→a.take k=a∧b.take k=b∧a.drop k=[]∧b.drop k=[]):=by
 induction h with
 | nil=>exact fun k=>⟨fun h=>(by cases h),fun _=>⟨List.take_nil,List.take_nil,List.drop_nil,List.drop_nil⟩⟩
 | one h=>
  intro k;cases k with
  | zero=>exact⟨fun _=>⟨rfl,.one h⟩,fun z=>(by cases z)⟩
  | succ k=>exact⟨fun z=>absurd z (Nat.not_lt.mpr (Nat.succ_le_succ (Nat.zero_le k))),fun _=>⟨congrArg (_::·) List.take_nil,congrArg (_::·) List.take_nil,List.drop_nil,List.drop_nil⟩⟩
 | cons h ih=>
  intro k;cases k with
  | zero=>exact⟨fun _=>⟨rfl,.cons h⟩,fun z=>(by cases z)⟩
  | succ k=>exact⟨fun z=>⟨congrArg (_::·) ((ih k).1 (Nat.lt_of_succ_lt_succ z)).1,((ih k).1 (Nat.lt_of_succ_lt_succ z)).2⟩,fun z=>⟨congrArg (_::·) ((ih k).2 (Nat.le_of_succ_le_succ z)).1,congrArg (_::·) ((ih k).2 (Nat.le_of_succ_le_succ z)).2.1,((ih k).2 (Nat.le_of_succ_le_succ z)).2.2⟩⟩
theorem de.rows:∀(n:Nat) (w0 w:Int) {a b:List aj},de a b→(bL n w0 w a).map Mine.cod=(bL n w0 w b).map Mine.cod
 | 0,_,_,_,_,_=>rfl
 | n+1,w0,w,a,b,h=>by
  unfold bL
  by_cases ha:a=[]
  ·rw[if_pos ha,if_pos (h.nil_iff.mp ha)]
  ·rw[if_neg ha,if_neg fun z=>ha (h.nil_iff.mpr z)];have he:aW w0 a=aW w0 b:=h.rowEndF 0 0 0;rw[←he];obtain⟨i1,i2⟩:=h.split (aW w0 a);rw[List.map_cons,List.map_cons]
   by_cases hk:aW w0 a<a.length
   ·rw[(i1 hk).1,de.rows n w w (i1 hk).2]
   ·obtain⟨j1,j2,j3,j4⟩:=i2 (by exact(Nat.not_lt.mp hk));rw[j1,j2,j3,j4,h.cod]
theorem eb(width:Int):∀(r:List aj) (used:Int) (best n:Nat) (pre:List aj),pre.length=n→best≤n→(0<best→∃p,(pre++r)[best-1]? = some p∧bV p=true)→
  ∀k,rowEndF width used best n r=k→k<n+r.length→0<k→∃p,(pre++r)[k-1]? = some p∧bV p=true
 | [],used,best,n,pre,hn,hb,hB,k,hk,hlt,h0=>by
  unfold rowEndF at hk;simp at hlt;lia
 | p :: r, used, best, n, pre, hn, hb, hB, k, hk, hlt, h0 => by
  have e:pre++p::r=(pre++[p])++r:=by simp
  unfold rowEndF at hk;split at hk
  ·subst hk;exact hB h0
  ·split at hk
   ·rename_i hq
    by_cases hr:r=[]
    ·subst hr;have hkn:k=n+1:=by
      split at hk
      ·exact hk.symm
      ·unfold rowEndF at hk;exact hk.symm
     subst hkn;simp at hlt
    ·have hmb:bV p=true:=hq.resolve_left hr;have hpn:(pre++p::r)[n]? = some p:=by rw[List.getElem?_append_right (by exact ln [_,_] [.e .x0 .x1] .x0 .x1 [] rfl hn),hn,Nat.sub_self];rfl
     split at hk
     ·subst hk;exact⟨p,by rw[Nat.add_sub_cancel];exact hpn,hmb⟩
     ·rw[e];exact eb width r _ (n+1) (n+1) (pre++[p]) (by simp[hn]) (Nat.le_refl _) (fun _=>⟨p,by rw[←e,Nat.add_sub_cancel];exact hpn,hmb⟩) k hk (by simp at hlt;exact ln [_,_,_] [.l .p11 (.a .x0 .p21)] .p11 (.a .p01 .x2) [] rfl hlt) h0
   ·rw[e];exact eb width r _ best (n+1) (pre++[p]) (by simp[hn]) (by exact ln [_,_] [.l .x1 .x0] .x1 .p01 [] rfl hb) (fun h=>by rw[←e];exact hB h) k hk (by simp at hlt;exact ln [_,_,_] [.l .p11 (.a .x0 .p21)] .p11 (.a .p01 .x2) [] rfl hlt) h0
theorem mU{width:Int}{ps:List aj}(h:aW width ps<ps.length)(hn:ps≠[]):∃p,(ps.take (aW width ps)).getLast? = some p∧bV p=true:=by
 have hp:=bU (width:=width) hn;obtain⟨p,hp1,hp2⟩:=eb width ps 0 0 0 [] rfl (Nat.le_refl _) (fun h=>by cases h) (aW width ps) rfl (by simpa using h) hp;refine⟨p,?_,hp2⟩;rw[List.nil_append]at hp1;rw[List.getLast?_eq_getElem?,List.length_take,Nat.min_eq_left (by exact Nat.le_of_lt h),List.getElem?_take,if_pos (by exact ln [_,_] [.e .p11 .x0] .p11 .x0 [] rfl (su hp))];exact hp1
noncomputable def Brk:List (List aj)→Prop
 | p::q::r=>(∃x,p.getLast? = some x∧bV x=true)∧Brk (q::r)
 | _=>True
theorem l0:∀(n:Nat) (w0 w:Int) (ps:List aj),ps.length≤n→Brk (bL n w0 w ps)
 | 0,_,_,_,_=>trivial
 | n+1,w0,w,ps,hn=>by
  unfold bL;split
  ·exact trivial
  ·rename_i h;have hp:=bU (width:=w0) h;have ih:=l0 n w w (ps.drop (aW w0 ps)) (by rw[List.length_drop];exact sc (ps.length) (aW w0 ps) (fun z0 w0=>ln [_,_,_,_] [.l .x0 .p11,.l .k1 .x2,.e (.a .x3 .x2) .x0] .x3 .x1 [] rfl hn hp w0) fun z0 w0=>ln [_,_] [.e .x1 .k0] .x1 .x0 [] rfl w0);cases e:bL n w w (ps.drop (aW w0 ps))with
   | nil=>exact trivial
   | cons q r=>
    rw[e]at ih;refine⟨mU (Nat.lt_of_not_le fun z=>?_) h,ih⟩;rw[List.drop_eq_nil_of_le z]at e
    have:bL n w w []=[]:=by cases n<;>simp[bL]
    rw[this]at e;cases e
noncomputable def fE:List (List Int×List Int)→List (List Int×List Int)
 | []=>[]
 | [a]=>[(a.1,[10])]
 | a::b::r=>a::fE (b::r)
noncomputable def cM:List (List aj)→List (List Int×List Int)
 | []=>[]
 | [p]=>bR p (aq p)
 | p::q::r=>fE (bR p (aq p))++cM (q::r)
theorem lX:∀(row:List aj),row≠[]→a7 (fE (bR row (aq row)))=cod row++[10]
 | [],h=>absurd rfl h
 | [p],_=>by simp[aq,bR,fE,a7,cod,az]
 | p::q::r,_=>by
  have ih:=lX (q::r) (by simp);have e:bR (p::q::r) (aq (p::q::r))=(p.1,List.replicate p.2.toNat 32)::bR (q::r) (aq (q::r)):=rfl;have hne:bR (q::r) (aq (q::r))≠[]:=by cases r<;>simp[bR,aq]
  rw[e];cases e2:bR (q::r) (aq (q::r))with
  | nil=>exact absurd e2 hne
  | cons a as=>
   rw[e2]at ih;show a7 (_::fE (a::as))=_;rw[bZ,ih];unfold cod;rw[show aq (p::q::r)=p.2::aq (q::r)from rfl,bE];simp
theorem kH:∀(parts:List (List aj)) (p:List aj),(∀x∈p::parts,x≠[])→a7 (cM (p::parts))=cod p++(parts.map cod).flatMap (fun r=>10::r)
 | [],p,_=>by
  show a7 (bR p (aq p))=_;rw[←eV];simp[cod]
 | q::parts,p,h=>by
  have ih:=kH parts q fun x hx=>h x (List.mem_cons_of_mem _ hx)
  show a7 (fE _++cM (q::parts))=_;rw[show ∀a b,a7 (a++b)=a7 a++a7 b from fun a b=>by unfold a7;rw[List.flatMap_append],lX p (h p List.mem_cons_self),ih];simp
end Mine
end
section
namespace Mine
noncomputable def mkP(p:List Int×List Int):aj:=(p.1,ez p.1 p.2)
noncomputable def PG(p:aj):Prop:=∃b,p.2=ez p.1 b
noncomputable def uU(L:List Int)(p:aj):Prop:=(∀c,p.1.head? = some c→bY L c=false)∧(jh p.1=true→p.1.getLast? = some 46)
theorem tW(l:List Int):∀p∈aB l,PG p:=fun p hp=>by
 unfold aB at hp;obtain⟨q,_,rfl⟩:=List.mem_map.mp hp;exact⟨q.2,rfl⟩
theorem rP{p:aj}(h:PG p):ez p.1 (List.replicate p.2.toNat 32)=p.2:=by
 obtain⟨b,hb⟩:=h;have h1:=oZ p.1 b;unfold ez at hb⊢;cases e:jh p.1 with
 | false=>rw[e]at hb;simpa using hb.symm
 | true=>
  rw[e,if_pos rfl]at hb;rw[if_pos rfl];have hc:(List.replicate p.2.toNat (32:Int)).contains 10=false:=by
   rw[List.contains_eq_mem,decide_eq_false_iff_not];intro hm
   have:=(List.mem_replicate.mp hm).2
   lia
  rw[hc,Bool.false_or,List.length_replicate];split at hb
  ·rw[hb];rfl
  ·rw[hb];rfl
theorem xG{L:List Int}{p:aj}(h:PG p)(hw:uU L p)(hb:bV p=true):ez p.1 [10]=p.2:=by
 obtain⟨b,hg⟩:=h;unfold ez at hg⊢;cases e:jh p.1 with
 | false=>rw[e]at hg;simpa using hg.symm
 | true=>
  rw[e,if_pos rfl]at hg;rw[if_pos rfl];have hl:=hw.2 e;unfold bV at hb;rw[hl]at hb;simp only[bne_self_eq_false,Bool.or_false,decide_eq_true_eq]at hb;rw[show(([10]:List Int).contains 10||decide (1<([10]:List Int).length))=true from rfl,if_pos rfl];split at hg
  ·exact hg.symm
  ·exact lze [] [_] [.l (.k 2) .y0,.e .y0 .k1] (.k 2) .y0 [1,0] [0] rfl rfl hb hg
theorem rt{L:List Int}:∀(row:List aj),(∀p∈row,PG p∧uU L p)→(∃x,row.getLast? = some x∧bV x=true)→(fE (bR row (aq row))).map mkP=row
 | [],_,⟨_,h,_⟩=>by cases h
 | [p],h,⟨x,hx,hb⟩=>by
  have:p=x:=by simpa using hx
  subst this;obtain⟨a,b⟩:=h p List.mem_cons_self;show[mkP (p.1,[10])]=[p];unfold mkP;rw[xG a b hb]
 | p::q::r,h,⟨x,hx,hb⟩=>by
  have ih:=rt (q::r) (fun y hy=>h y (List.mem_cons_of_mem _ hy)) ⟨x,by rw[List.getLast?_cons_cons]at hx;exact hx,hb⟩;have hne:bR (q::r) (aq (q::r))≠[]:=by cases r<;>simp[bR,aq]
  have e:bR (p::q::r) (aq (p::q::r))=(p.1,List.replicate p.2.toNat 32)::bR (q::r) (aq (q::r)):=rfl;rw[e];cases e2:bR (q::r) (aq (q::r))with
  | nil=>exact absurd e2 hne
  | cons a as=>
   rw[e2]at ih;show mkP _::(fE (a::as)).map mkP=_;rw[ih];unfold mkP;rw[rP (h p List.mem_cons_self).1]
theorem rc:∀(row:List aj),(∀p∈row,PG p)→de row ((bR row (aq row)).map mkP)
 | [],_=>.nil
 | [p],_=>.one rfl
 | p::q::r,h=>by
  have ih:=rc (q::r) fun y hy=>h y (List.mem_cons_of_mem _ hy)
  have e:(bR (p::q::r) (aq (p::q::r))).map mkP=p::(bR (q::r) (aq (q::r))).map mkP:=by
   show mkP (p.1,List.replicate p.2.toNat 32)::_=_;unfold mkP;rw[rP (h p List.mem_cons_self)];rfl
  rw[e];cases e2:(bR (q::r) (aq (q::r))).map mkP with
  | nil=>rw[e2]at ih;cases ih
  | cons a as=>rw[e2]at ih;exact .cons ih
theorem de.app:∀(a:List aj) {b b':List aj},b≠[]→de b b'→de (a++b) (a++b')
 | [],_,_,_,h=>h
 | p::a,b,b',hb,h=>by
  have ih:=de.app a hb h;rw[List.cons_append,List.cons_append];cases e1:a++b with
  | nil=>exact absurd (List.append_eq_nil_iff.mp e1).2 hb
  | cons x xs=>
   rw[e1]at ih;cases e2:a++b' with
   | nil=>rw[e2]at ih;cases ih
   | cons y ys=>rw[e2]at ih;exact .cons ih
theorem oN{L:List Int}:∀(parts:List (List aj)),(∀x∈parts,x≠[])→(∀x∈parts,∀p∈x,PG p∧uU L p)→Brk parts→de parts.flatten ((cM parts).map mkP)
 | [],_,_,_=>.nil
 | [p],_,h,_=>by
  have:=rc p fun x hx=>(h p List.mem_cons_self x hx).1
  simpa [cM]using this
 | p::q::r,hn,h,hb=>by
  have ih:=oN (q::r) (fun x hx=>hn x (List.mem_cons_of_mem _ hx)) (fun x hx=>h x (List.mem_cons_of_mem _ hx)) hb.2;show de (p++(q::r).flatten) ((fE _++cM (q::r)).map mkP);rw[List.map_append,rt p (h p List.mem_cons_self) hb.1];refine de.app p ?_ ih;rw[List.flatten_cons]
  have:=hn q (by simp);simp[this]
theorem lw:∀(a b:List (List Int×List Int)),(∀p∈a,p.2≠[])→ej b→ej (a++b)
 | [],_,_,h=>h
 | p::a,b,ha,h=>by
  have ih:=lw a b (fun x hx=>ha x (List.mem_cons_of_mem _ hx)) h;rw[List.cons_append];cases e:a++b with
  | nil=>exact trivial
  | cons x xs=>rw[e]at ih;exact⟨ha p List.mem_cons_self,ih⟩
theorem rq:∀(z:List (List Int×List Int)),ej z→∀p∈fE z,p.2≠[]
 | [],_,_,h=>by cases h
 | [a],_,p,h=>by simp[fE]at h;subst h;simp
 | a::b::r,hg,p,h=>by
  unfold fE at h;rcases List.mem_cons.mp h with rfl|h
  ·exact hg.1
  ·exact rq (b::r) hg.2 p h
theorem rp:∀(z:List (List Int×List Int)),(∀p∈z,p.1≠[]∧(∀c∈p.1,br c=false)∧aU p.2)→∀p∈fE z,p.1≠[]∧(∀c∈p.1,br c=false)∧aU p.2
 | [],_,_,h=>by cases h
 | [a],hz,p,h=>by
  simp[fE]at h;subst h
  have:=hz a List.mem_cons_self;exact⟨this.1,this.2.1,fun c hc=>by simp at hc;subst hc;rfl⟩
 | a::b::r,hz,p,h=>by
  unfold fE at h;rcases List.mem_cons.mp h with rfl|h
  ·exact hz _ List.mem_cons_self
  ·exact rp (b::r) (fun x hx=>hz x (List.mem_cons_of_mem _ hx)) p h
theorem oM:∀(parts:List (List aj)),(∀x∈parts,bg x∧wOk x)→(∀p∈cM parts,p.1≠[]∧(∀c∈p.1,br c=false)∧aU p.2)∧ej (cM parts)
 | [],_=>⟨fun p h=>(by cases h),trivial⟩
 | [p],h=>⟨jv p _ (h p List.mem_cons_self).2,jw p _ fun g hg=>((h p List.mem_cons_self).1.gaps g hg).1⟩
 | p::q::r,h=>by
  obtain⟨i1,i2⟩:=oM (q::r) fun x hx=>h x (List.mem_cons_of_mem _ hx)
  have hp:=h p List.mem_cons_self;have z1:=jv p (aq p) hp.2;have z2:=jw p (aq p) fun g hg=>(hp.1.gaps g hg).1
  show(∀x∈fE _++cM (q::r),_)∧ej (fE _++cM (q::r));refine⟨fun x hx=>?_,lw _ _ (rq _ z2) i2⟩;rcases List.mem_append.mp hx with hx|hx
  ·exact rp _ z1 x hx
  ·exact i1 x hx
theorem wh{p:aj}{r:List aj}(h:p.1≠[]):(cod (p::r)).head? = p.1.head? :=by
 cases hp:p.1 with
 | nil=>exact absurd hp h
 | cons c w=>
  cases r with
  | nil=>unfold cod;rw[bz,hp]
  | cons q r=>rw[iR,hp];rfl
theorem e9{L x y:List Int}(h1:∀c∈x,bY L c=true)(h2:∀c,y.head? = some c→bY L c=false):aG L (x++y)=x:=jQ h1 h2
theorem lg:∀x:List Int,aO x x=x
 | []=>rfl
 | c::x=>by unfold aO;rw[if_pos rfl,lg x]
theorem ta{L first rest c d:List Int}{cs:List (List Int)}(h1:∀x∈first,bY L x=true)(h2:∀x∈rest,bY L x=true)(h3:∀y∈c::d::cs,∀x,y.head? = some x→bY L x=false):
  aA L (xw first rest (c::d::cs))=(first,rest):=by
 show(aG L (first++c),(cs.map (rest++·)).foldl (fun a r=>aO a (aG L r)) (aG L (rest++d)))=_;rw[e9 h1 (h3 c (by simp)),e9 h2 (h3 d (by simp))];have h4:∀y∈cs,∀x,y.head? = some x→bY L x=false:=fun y hy=>h3 y (by simp[hy])
 clear h3;congr 1
 induction cs with
 | nil=>rfl
 | cons e cs ih=>
  rw[List.map_cons,List.foldl_cons,e9 h2 (h4 e List.mem_cons_self),lg];exact ih fun y hy=>h4 y (List.mem_cons_of_mem _ hy)
theorem u9{L:List Int}(rows:List (List Int)):(∀x∈(aA L rows).1,bY L x=true)∧∀x∈(aA L rows).2,bY L x=true:=by
 have hl:∀r:List Int,∀x∈aG L r,bY L x=true:=fun r x hx=>eG x hx
 match rows with
 | []=>exact⟨fun c h=>(by cases h),fun c h=>by cases h⟩
 | [r]=>
  refine⟨hl r,?_⟩;show ∀x∈(if bn (aG L r)then aG L r else[]),bY L x=true;split
  ·exact hl r
  ·exact fun c h=>by cases h
 | r0::r1::rs=>exact⟨hl r0,fun c hc=>hl r1 c ((e8 (L:=L) (r0:=r0) (rs:=r1::rs) (by simp)).2 c hc)⟩
theorem vF{rest:List Int}(cs:List (List Int)):((cs.map (rest++·)).flatMap fun r=>10::r.drop rest.length)=cs.flatMap fun r=>10::r:=by
 induction cs with
 | nil=>rfl
 | cons c cs ih=>
  rw[List.map_cons,List.flatMap_cons,List.flatMap_cons,ih,aX]
theorem zI{col:Int}{L:List Int}{rows:List (List Int)}(hn:rows≠[])(hs:rsz rows≤4001)(hw:aI (aC L rows)≠[])(hok:∀p∈aB (aC L rows),uU L p):aH col 0 L (aH col 0 L rows)=aH col 0 L rows:=by
 have hpf:=du (col:=col) (L:=L) hn hs;have hflat:(aY col L rows).flatten=aB (aC L rows):=cz _ _ _;have hbrk:Brk (aY col L rows):=l0 _ _ _ _ (Nat.le_refl _);have hpd:aY col L rows=cg (col-bu (aA L rows).1) (col-bu (aA L rows).2) (aB (aC L rows)):=rfl;obtain⟨ld1,ld2⟩:=u9 (L:=L) rows;rw[ff (rows:=rows)];generalize (aA L rows).1=first at*
 generalize (aA L rows).2=rest at*;have hps:aB (aC L rows)≠[]:=fun z=>by
  have:=eX (aC L rows);rw[z]at this;exact hw this.symm
 have hPG:=tW (aC L rows);generalize aB (aC L rows)=ps at*;generalize aY col L rows=parts at*;have hmem:∀x∈parts,∀p∈x,p∈ps:=fun x hx p hp=>by rw[←hflat];exact List.mem_flatten.mpr ⟨x,hx,hp⟩
 have hG:=oN (L:=L) parts (fun x hx=>(hpf x hx).2.2) (fun x hx p hp=>⟨hPG p (hmem x hx p hp),hok p (hmem x hx p hp)⟩) hbrk;obtain⟨jo,jg⟩:=oM parts fun x hx=>⟨(hpf x hx).1,(hpf x hx).2.1⟩
 rw[hflat]at hG;have hpj:aB (a7 (cM parts))=(cM parts).map mkP:=by
  unfold aB;rw[gr _ jo jg];rfl
 have hhead:∀x∈parts,∀c,(cod x).head? = some c→bY L c=false:=fun x hx c hc=>by
  obtain⟨_,a2,a3⟩:=hpf x hx;cases x with
  | nil=>exact absurd rfl a3
  | cons p r=>
   rw[wh (a2 p List.mem_cons_self).1]at hc
   exact(hok p (hmem _ hx p List.mem_cons_self)).1 c hc
 cases hparts:parts with
 | nil=>rw[hparts]at hflat;exact absurd hflat.symm hps
 | cons p0 r=>
  rw[hparts]at hpf hhead hpd hpj hG hflat;have hjf:=kH r p0 fun x hx=>(hpf x hx).2.2
  cases r with
  | nil=>
   show aH col 0 L [first++cod p0]=[first++cod p0];have hle:aA L [first++cod p0]=(first,if bn first then first else[]):=by
    show(aG L _,if bn (aG L _)then aG L _ else[])=_;rw[e9 ld1 (hhead p0 List.mem_cons_self)]
   rw[ff];have hwo:aC L [first++cod p0]=a7 (cM [p0]):=by
    unfold aC;rw[hle,hjf];simp
   unfold aY;rw[hwo,hpj,hle];dsimp only;have h1:aW (col-bu first) ps=ps.length:=by
    rw[fF hps]at hpd;injection hpd with e1 e2
    have hl:=l4 (width:=col-bu first) (ps:=ps);have hf:p0=ps:=by simpa using hflat
    rw[hf]at e1
    have:=congrArg List.length e1;rw[List.length_take]at this;exact lne [_,_,_] [.l .x0 .x1,.e .x1 .x2,.l .x2 .x0] .x0 .x1 [1,0,0] [0] rfl rfl hl this (Nat.min_le_left _ _)
   have h2:aW (col-bu first) ((cM [p0]).map mkP)=((cM [p0]).map mkP).length:=by
    have:=hG.rowEndF (width:=col-bu first) 0 0 0;unfold aW at h1⊢;rw[←this,h1,hG.len]
   have hne2:(cM [p0]).map mkP≠[]:=fun z=>hps (hG.nil_iff.mpr z)
   rw[fF hne2,h2,List.drop_length,ke,List.take_length];show[first++cod _]=_;rw[←hG.cod];have hf:p0=ps:=by simpa using hflat
   rw[hf]
  | cons p1 r=>
   have hl:=ta (L:=L) (first:=first) (rest:=rest) (c:=cod p0) (d:=cod p1) (cs:=r.map cod) ld1 ld2 (by
    intro y hy;rw[show cod p0::cod p1::r.map cod=(p0::p1::r).map cod from rfl]at hy;obtain⟨x,hx,rfl⟩:=List.mem_map.mp hy;exact hhead x hx)
   rw[List.map_cons,List.map_cons,ff,hl];dsimp only;congr 1;unfold aY;have hwo:aC L (xw first rest (cod p0::cod p1::r.map cod))=a7 (cM (p0::p1::r)):=by
    unfold aC;rw[hl,hjf]
    show(first++cod p0).drop first.length++(((cod p1::r.map cod).map (rest++·)).flatMap fun r=>10::r.drop rest.length)=_;rw[aX,vF];rfl
   rw[hwo,hpj,hl];dsimp only;have e:=de.rows ps.length (col-bu first) (col-bu rest) hG;have e2:cg (col-bu first) (col-bu rest) ((cM (p0::p1::r)).map mkP)=bL ps.length (col-bu first) (col-bu rest) ((cM (p0::p1::r)).map mkP):=by
    unfold cg;rw[hG.len]
   rw[e2,←e]
   show(cg _ _ ps).map cod=_;rw[←hpd];rfl
end Mine
end
section
namespace Mine
theorem g9{R1 P R2:List (List Int)}(h:P≠[]):ad (R1++P++R2)=f9 R1++ad P++km R2:=by
 match P,h with
 | p::P,_=>
  rw[show R1++p::P++R2=R1++p::(P++R2) by simp,fJ,bC];unfold km;rw[List.flatMap_append];simp
variable {L:List Int}
theorem kR{col:Int}{way:Nat}:∀(P par:List (List Int)),par++P≠[]→(∀r∈P,aK L r=false)→bj col way L par P=aH col way L (par++P)
 | [],par,h,_=>by
  rw[List.append_nil]at h⊢;rw[d3,if_neg h]
 | r::P,par,h,hp=>by
  rw[cN,hp r List.mem_cons_self,if_neg (by decide),kR P (par++[r]) (by simp) fun x hx=>hp x (List.mem_cons_of_mem _ hx)];simp
theorem nn{col:Int}{way:Nat}{P:List (List Int)}(h1:P≠[])(h2:iD P)(h3:∀r∈P,aK L r=false):aV col way L (ad P)=ad (aH col way L P):=by
 unfold aV;rw[jV P h1 h2,kR P [] (by simpa using h1) h3];rfl
theorem gU{c:Int}:∀(row:List aj) (gaps:List Int),c∈az row gaps→c=32∨∃p∈row,c∈p.1
 | [],_,h=>by simp[az]at h
 | [p],gaps,h=>by rw[bz]at h;exact .inr ⟨p,List.mem_cons_self,h⟩
 | p::q::r,[],h=>.inr ⟨p,List.mem_cons_self,h⟩
 | p::q::r,g::gs,h=>by
  rw[bE]at h;rcases List.mem_append.mp h with h|h
  ·rcases List.mem_append.mp h with h|h
   ·exact .inr ⟨p,List.mem_cons_self,h⟩
   ·exact .inl (List.mem_replicate.mp h).2
  ·rcases gU (q::r) gs h with h|⟨x,hx,hc⟩
   ·exact .inl h
   ·exact .inr ⟨x,List.mem_cons_of_mem _ hx,hc⟩
theorem mV{c:Int}{p:aj}{r:List aj}{gaps:List Int}(h:c∈p.1):c∈az (p::r) gaps:=by
 cases r with
 | nil=>rw[bz];exact h
 | cons q r=>cases gaps with
  | nil=>exact h
  | cons g gs=>rw[bE];exact List.mem_append_left _ (List.mem_append_left _ h)
theorem sZ(rows:List (List Int)):(∀x∈(aA L rows).1,∃r∈rows,x∈r)∧∀x∈(aA L rows).2,∃r∈rows,x∈r:=by
 have hl:∀r:List Int,∀x∈aG L r,x∈r:=fun r x hx=>(List.takeWhile_sublist _).subset hx
 match rows with
 | []=>exact⟨fun c h=>(by cases h),fun c h=>by cases h⟩
 | [r]=>
  refine⟨fun x hx=>⟨r,List.mem_cons_self,hl r x hx⟩,?_⟩;show ∀x∈(if bn (aG L r)then aG L r else[]),_;split
  ·exact fun x hx=>⟨r,List.mem_cons_self,hl r x hx⟩
  ·exact fun c h=>by cases h
 | r0::r1::rs=>exact⟨fun x hx=>⟨r0,List.mem_cons_self,hl r0 x hx⟩,fun c hc=>⟨r1,by simp,hl r1 c ((e8 (L:=L) (r0:=r0) (rs:=r1::rs) (by simp)).2 c hc)⟩⟩
theorem te{col:Int}{way n i:Nat}{first rest:List Int}{part:List aj}(h:bg part):∃k gaps,bh col way first rest n i part=(if i=0 then first else rest)++(List.replicate k 32++az part gaps):=by
 unfold bh;split
 ·obtain⟨k,g,e,_⟩:=dU h (col-bu first) way (i+1==n);exact⟨k,g,by rw[e]⟩
 ·obtain⟨k,g,e,_⟩:=dU h (col-bu rest) way (i+1==n);exact⟨k,g,by rw[e]⟩
theorem nr{col:Int}{way:Nat}{rows:List (List Int)}(hn:rows≠[])(hs:rsz rows≤4001)(h0:iD rows)(hok:∀p∈aB (aC L rows),∀c,p.1.head? = some c→bY L c=false):
  iD (aH col way L rows)∧∀r∈aH col way L rows,aK L r=false:=by
 obtain⟨m1,m2⟩:=sZ (L:=L) rows;have hpf:=du (col:=col) (L:=L) hn hs;have hflat:(aY col L rows).flatten=aB (aC L rows):=cz _ _ _;have key : ∀ r ∈ aH col way L rows, (10 : Int) ∉ r ∧ aK L r = false := fun r hr => by
  unfold aH at hr;obtain⟨q,hq,rfl⟩:=List.mem_map.mp hr;have hm:=List.fst_mem_of_mem_zipIdx hq;obtain⟨a1,a2,a3⟩:=hpf q.1 hm;obtain⟨k,gaps,e⟩:=te (col:=col) (way:=way) (n:=(aY col L rows).length) (i:=q.2) (first:=(aA L rows).1) (rest:=(aA L rows).2) a1;rw[e];refine⟨fun hc=>?_,?_⟩
  ·rcases List.mem_append.mp hc with hc|hc
   ·split at hc
    ·obtain⟨r,hr,hx⟩:=m1 _ hc;exact h0 r hr hx
    ·obtain⟨r,hr,hx⟩:=m2 _ hc;exact h0 r hr hx
   ·rcases List.mem_append.mp hc with hc|hc
    ·have:=(List.mem_replicate.mp hc).2;lia
    ·rcases gU _ _ hc with hc|⟨p,hp,hx⟩
     ·lia
     ·have:=(a2 p hp).2 10 hx;cases this
  ·obtain⟨p,ps,hps⟩:∃p ps,q.1=p::ps:=by
    cases e1:q.1 with
    | nil=>exact absurd e1 a3
    | cons p ps=>exact⟨p,ps,rfl⟩
   have hpm:p∈q.1:=by rw[hps];exact List.mem_cons_self
   obtain⟨c,w,hcw⟩:∃c w,p.1=c::w:=by
    cases e1:p.1 with
    | nil=>exact absurd e1 (a2 p hpm).1
    | cons c w=>exact⟨c,w,rfl⟩
   have hcl:bY L c=false:=hok p (by rw[←hflat];exact List.mem_flatten.mpr ⟨q.1,hm,hpm⟩) c (by rw[hcw];rfl);have hcin:c∈(if q.2=0 then(aA L rows).1 else(aA L rows).2)++(List.replicate k 32++az q.1 gaps):=by
    refine List.mem_append_right _ (List.mem_append_right _ ?_);rw[hps];exact mV (by rw[hcw];exact List.mem_cons_self)
   generalize (if q.2=0 then(aA L rows).1 else(aA L rows).2)++(List.replicate k 32++az q.1 gaps)=row at*;unfold aK;rw[beq_eq_false_iff_ne];intro z;have hall:row.takeWhile (bY L)=row:=by
    have h2:=List.takeWhile_append_dropWhile (p:=bY L) (l:=row);have hl:=congrArg List.length h2;rw[List.length_append]at hl;have z':(row.takeWhile (bY L)).length=row.length:=z
    have:row.dropWhile (bY L)=[]:=List.length_eq_zero_iff.mp (by exact lne [_,_,_] [.e (.a .x1 .x2) .x0,.f .x1 .x0] .x2 .k0 [] [0,0] rfl rfl hl z');rw[this,List.append_nil]at h2;exact h2
   rw[←hall]at hcin;rw[eG c hcin]at hcl;cases hcl
 exact⟨fun r hr=>(key r hr).1,fun r hr=>(key r hr).2⟩
theorem uW{row:List Int}(h:aK L row=false):∃c∈row,bY L c=false:=by
 refine Classical.byContradiction fun q=>?_
 have hall:∀c∈row,bY L c=true:=fun c hc=>by
  cases e:bY L c with
  | true=>rfl
  | false=>exact absurd ⟨c,hc,e⟩ q
 have:aG L row=row:=by
  have:=jQ (p:=bY L) (l:=row) (r:=[]) hall (fun c hc=>by cases hc);rw[List.append_nil]at this;exact this
 unfold aK at h;rw[this]at h;simp at h
structure CV(col:Int)(way:Nat)(L:List Int)(S:St)(R1 P R2:List (List Int)):Prop where
 old:cc S (rsz R1+1) (rsz (R1++P))=ad P
 start:ak S.text (rsz R1+1)=rsz R1+1
 new:aV col way L (cc S (rsz R1+1) (rsz (R1++P)))=ad (aH col way L P)
 ed:eA col way L (rsz R1+1) (rsz (R1++P)) S=a9 (ad P) (ad (aH col way L P))
 run:∃f,(bk col way L (rsz R1+1) (rsz (R1++P)) S).text=f9 R1++ad (aH col way L P)++km R2∧ci f S (bk col way L (rsz R1+1) (rsz (R1++P)) S)∧Shf (rsz R1+1) (ad P).length (ad (aH col way L P)).length f
theorem yf{col:Int}{way:Nat}{S:St}{R1 P R2:List (List Int)}(H:wx L R1 P R2)(hS:S.text=ad (R1++P++R2)):CV col way L S R1 P R2:=by
 have hj:=g9 (R1:=R1) (R2:=R2) H.ne;have hjl:=cn H.ne;have hpl:=oj R1;have hst:ak S.text (rsz R1+1)=rsz R1+1:=by
  rw[hS];obtain⟨p,P',rfl⟩:∃p P',P=p::P':=by
   cases hP:P with
   | nil=>exact absurd hP H.ne
   | cons p P'=>exact⟨p,P',rfl⟩
  have:=(bx (R1:=R1) (R2:=P'++R2) (r:=p) (k:=0) (H.no p (by simp)) (Nat.zero_le _)).1;rw[Nat.add_zero]at this;rw[show R1++p::P'++R2=R1++p::(P'++R2) by simp];exact this
 have hold:cc S (rsz R1+1) (rsz (R1++P))=ad P:=by
  unfold cc;rw[hst,hS,hj,au,show rsz R1+1-1=(f9 R1).length by exact lne [_,_,_] [.f .x0 .x1,.e .p21 .p11,.e .x0 .x1,.f .p21 .p11] .x2 .x0 [1,1,0,0] [0,0] rfl rfl hpl (su (ln [_] [] .k1 .p01 [] rfl)) hpl (su (ln [_] [] .k1 .p01 [] rfl)),show rsz R1+rsz P-1=(f9 R1).length+(ad P).length by exact lne [_,_,_,_,_] [.f .p01 .x1,.f .x2 .x3,.e .p41 (.a .x3 .x1),.e .p01 .x1,.e .x2 .x3,.f .p41 (.a .x3 .x1)] .x4 (.a .x2 .x0) [1,1,1,0,0,0] [0,0,0] rfl rfl hjl hpl (su (ln [_,_,_] [.e .p01 .x1] .k1 (.a .x2 .x1) [] rfl hjl)) hjl hpl (su (ln [_,_,_] [.e .p01 .x1] .k1 (.a .x2 .x1) [] rfl hjl))];exact jz
 have hnew:aV col way L (cc S (rsz R1+1) (rsz (R1++P)))=ad (aH col way L P):=by
  rw[hold];exact nn H.ne (fun r hr=>H.no r (by simp[hr])) H.np
 have hed:eA col way L (rsz R1+1) (rsz (R1++P)) S=a9 (ad P) (ad (aH col way L P)):=by
  unfold eA;rw[hnew,hold]
 refine⟨hold,hst,hnew,hed,?_⟩
 have:=mA (A:=f9 R1) (C:=km R2) (old:=ad P) (new:=ad (aH col way L P)) (S:=S) (by rw[hS,hj]);unfold bk;rw[hed,hst,←hpl];exact this
theorem tC{col:Int}{way:Nat}{lo hi:Nat}{S:St}(h:eA col way L lo hi S=[]):bk col way L lo hi S=S:=by
 unfold bk;rw[h];rfl
theorem qj{R1 P R2 F:List (List Int)}{p:Nat}{f:Nat→Nat}(H:wx L R1 P R2)(hF:F≠[])(h0:iD F)(hnp:∀r∈F,aK L r=false)(hf:Shf (rsz R1+1) (ad P).length (ad F).length f)(hp:Loc L R1 P p):
  wx L R1 F R2∧Loc L R1 F (f p):=by
 have l1:=cn H.ne;have l2:=cn hF;refine⟨⟨fun r hr=>?_,hF,hnp,H.up,H.dn⟩,?_⟩
 ·rcases List.mem_append.mp hr with hr|hr
  ·rcases List.mem_append.mp hr with hr|hr
   ·exact H.no r (by simp[hr])
   ·exact h0 r hr
  ·exact H.no r (by simp[hr])
 ·rcases hp with⟨a,b⟩|⟨R0,z,Z,k,e,hz,hk,hk2⟩
  ·left;rw[au]at b⊢
   have:=hf.within p a (by exact ln [_,_,_,_] [.f .p01 .x1,.l .x3 (.a .x2 .x1)] .x3 (.a .p21 .x0) [] rfl l1 b);exact⟨this.1,ln [_,_,_,_] [.e .p01 .x1,.l .x3 (.a .p21 .x0)] .x3 (.a .x2 .x1) [] rfl l2 this.2⟩
  ·right;refine⟨R0,z,Z,k,e,hz,?_,hk2⟩;have hle:p≤rsz R1+1:=by rw[e,au,ax];exact ln [_,_,_,_,_] [.e .x0 (.a .p11 .x2),.l .x2 .x3] .x0 (.a (.a .x1 (.a .p31 .x4)) .k1) [] rfl hk hk2
   rw[hf.ahead p hle];exact hk
end Mine
end
section
namespace Mine
noncomputable def sgn(c:Int):Prop:=c=97∨c=98∨c=99∨c=32∨c=10∨c=46
theorem sS{l:List Int}{p:aj}(h:p∈aB l):p.1≠[]∧∀c∈p.1,c∈l∧br c=false:=by
 unfold aB at h;obtain⟨q,hq,rfl⟩:=List.mem_map.mp h;obtain⟨h1,_,h3⟩:=bA l;refine⟨(h1 q hq).1,fun c hc=>⟨?_,(h1 q hq).2.1 c hc⟩⟩;rw[←h3];exact List.mem_append_right _ (List.mem_flatMap.mpr ⟨q,hq,List.mem_append_left _ hc⟩)
theorem nP{L:List Int}{rows:List (List Int)}{c:Int}(h:c∈aC L rows):c=10∨∃r∈rows,c∈r:=by
 unfold aC at h;rcases List.mem_append.mp h with h|h
 ·cases rows with
  | nil=>simp at h
  | cons r rs=>exact .inr ⟨r,List.mem_cons_self,List.drop_subset _ _ h⟩
 ·obtain⟨r,hr,hc⟩:=List.mem_flatMap.mp h;rcases List.mem_cons.mp hc with hc|hc
  ·exact .inl hc
  ·exact .inr ⟨r,List.mem_of_mem_tail hr,List.drop_subset _ _ hc⟩
theorem fV{c:Int}:∀{l r:List Int},r∈ah l→c∈r→c∈l
 | [],r,h,hc=>by simp[ah]at h;subst h;cases hc
 | x :: l, r, h, hc => by
  unfold ah at h;split at h
  ·rcases List.mem_cons.mp h with rfl|h
   ·cases hc
   ·exact List.mem_cons_of_mem _ (fV h hc)
  ·split at h
   ·rename_i y ys e;rcases List.mem_cons.mp h with rfl|h
    ·rcases List.mem_cons.mp hc with rfl|hc
     ·exact List.mem_cons_self
     ·exact List.mem_cons_of_mem _ (fV (l:=l) (r:=y) (by rw[e];exact List.mem_cons_self) hc)
    ·exact List.mem_cons_of_mem _ (fV (l:=l) (r:=r) (by rw[e];exact List.mem_cons_of_mem _ h) hc)
   ·rename_i e;exact absurd e (bJ l)
theorem vU{w:List Int}(h:∀c∈w,c=97∨c=98∨c=99∨c=46)(he:jh w=true):w.getLast? = some 46:=by
 unfold jh at he;have hd:w.reverse.dropWhile rM=w.reverse:=by
  cases e:w.reverse with
  | nil=>rfl
  | cons c r=>
   have hc:c∈w:=by rw[←List.mem_reverse,e];exact List.mem_cons_self
   have:rM c=false:=by rcases h c hc with q|q|q|q<;>subst q<;>rfl
   rw[List.dropWhile_cons,this];rfl
 rw[hd]at he;cases e:w.reverse with
 | nil=>rw[e]at he;cases he
 | cons c r=>
  rw[e]at he;have hc:c∈w:=by rw[←List.mem_reverse,e];exact List.mem_cons_self
  have hl:w.getLast? = some c:=by rw[←List.head?_reverse,e];rfl
  rw[hl];rcases h c hc with q|q|q|q<;>subst q<;>first|rfl|(exact absurd (show vm _=true from he) (by decide))
theorem xo{rows:List (List Int)}(h:∀r∈rows,∀c∈r,sgn c):∀p∈aB (aC [] rows),uU [] p:=fun p hp=>by
 obtain⟨h1,h2⟩:=sS hp;have hc:∀c∈p.1,c=97∨c=98∨c=99∨c=46:=fun c hc=>by
  obtain⟨a,b⟩:=h2 c hc;rcases nP a with q|⟨r,hr,hx⟩
  ·subst q;cases b
  ·rcases h r hr c hx with q|q|q|q|q|q
   ·exact .inl q
   ·exact .inr (.inl q)
   ·exact .inr (.inr (.inl q))
   ·subst q;cases b
   ·subst q;cases b
   ·exact .inr (.inr (.inr q))
 refine⟨fun c hcc=>?_,vU hc⟩;have hm:c∈p.1:=List.mem_of_mem_head? (by rw[hcc];rfl);cases e:bY [] c with
 | false=>rfl
 | true=>have:=oR e;rw[(h2 c hm).2]at this;cases this
theorem BQ{row:List Int}(h:aK [] row=false)(h0:(10:Int)∉row):aI row≠[]:=fun z=>by
 obtain⟨c,hc,hl⟩:=uW h;obtain⟨_,h2,h3⟩:=bA row;have h4:(ao row).2=[]:=List.map_eq_nil_iff.mp z;rw[h4]at h3;simp at h3;rw[h3]at h2;have hb:=h2 c hc;unfold bY at hl;unfold br at hb;simp at hl hb;rcases hb with hb|hb|hb
 ·exact hl.1 hb
 ·exact hl.2 hb
 ·subst hb;exact h0 hc
theorem sA{P:List (List Int)}(h1:P≠[])(h2:iD P)(h3:∀r∈P,aK [] r=false):aI (aC [] P)≠[]:=by
 rw[d9 h1];obtain⟨q,Q,rfl⟩:∃q Q,P=q::Q:=by
  cases P with
  | nil=>exact absurd rfl h1
  | cons q Q=>exact⟨q,Q,rfl⟩
 intro z;rw[List.flatMap_cons]at z;exact BQ (h3 q List.mem_cons_self) (h2 q List.mem_cons_self) (List.append_eq_nil_iff.mp z).1
theorem wv{col:Int}{S:St}(hc:∀c∈S.text,sgn c)(hl:S.text.length≤4000)(h1:1≤S.point)(h2:S.point≤S.text.length+1)(hne:(aL [] S.text S.point).1≠(aL [] S.text S.point).2):
  (aL [] (bk col 0 [] (aL [] S.text S.point).1 (aL [] S.text S.point).2 S).text (bk col 0 [] (aL [] S.text S.point).1 (aL [] S.text S.point).2 S).point)=
    (aL [] (bk col 0 [] (aL [] S.text S.point).1 (aL [] S.text S.point).2 S).text (bk col 0 [] (aL [] S.text S.point).1 (aL [] S.text S.point).2 S).point)∧
  ∃lo hi,aL [] (bk col 0 [] (aL [] S.text S.point).1 (aL [] S.text S.point).2 S).text (bk col 0 [] (aL [] S.text S.point).1 (aL [] S.text S.point).2 S).point=(lo,hi)∧
   eA col 0 [] lo hi (bk col 0 [] (aL [] S.text S.point).1 (aL [] S.text S.point).2 S)=[]∧
   (aV col 0 [] (cc (bk col 0 [] (aL [] S.text S.point).1 (aL [] S.text S.point).2 S) lo hi)).length≤(bk col 0 [] (aL [] S.text S.point).1 (aL [] S.text S.point).2 S).text.length:=by
 refine⟨rfl,?_⟩;have hj:=fb S.text;have hR:=bJ S.text;have h10:iD (ah S.text):=fun r hr=>jU S.text r hr
 have hrs:=bO S.text;have hch:∀r∈ah S.text,∀c∈r,sgn c:=fun r hr c hcr=>hc c (fV hr hcr)
 have hex:=xk (L:=[]) (p:=S.point) hR h10 h1 (by rw[hj];exact h2);rw[hj]at hex;rcases hex with e|⟨R1,P,R2,eR,H,hp⟩
 ·rw[e]at hne;exact absurd rfl hne
 ·rw[eR]at hj hch hrs;have hpa:=rD H hp;rw[hj]at hpa;rw[hpa];dsimp only;have F:=yf (col:=col) (way:=0) (S:=S) H hj.symm;obtain⟨f,f1,f2,f3⟩:=F.run;have hPs:rsz P≤4001:=by rw[au,au]at hrs;exact ln [_,_,_,_] [.l .x0 (.k 4000),.e (.a (.a .x1 .x2) .x3) .p01] .x2 (.k 4001) [] rfl hl hrs
  have hPc:∀r∈P,∀c∈r,sgn c:=fun r hr=>hch r (by simp[hr])
  have hP0:iD P:=fun r hr=>H.no r (by simp[hr])
  have hwd:=xo hPc;have hwn:=sA H.ne hP0 H.np;obtain⟨g1,g2⟩:=nr (col:=col) (way:=0) H.ne hPs hP0 fun p hp=>(hwd p hp).1
  have hFne:aH col 0 [] P≠[]:=kQ hwn;have href:=zI (col:=col) H.ne hPs hwn hwd;generalize bk col 0 [] (rsz R1+1) (rsz (R1++P)) S=S1 at*;obtain⟨H2,hp2⟩:=qj H hFne g1 g2 f3 hp;rw[←f2.1]at hp2;have hS1:S1.text=ad (R1++aH col 0 [] P++R2):=by rw[f1,g9 hFne]
  have hpa2:=rD H2 hp2;rw[←hS1]at hpa2;have F2:=yf (col:=col) (way:=0) (S:=S1) H2 hS1;refine⟨_,_,hpa2,?_,?_⟩
  ·rw[F2.ed,href];exact gk.mpr rfl
  ·rw[F2.new,href,f1];simp only[List.length_append];exact ln [_,_,_] [] .x0 (.a (.a .x1 .x0) .x2) [] rfl
theorem gp{col:Int}{way:Nat}{S:St}{lo hi:Nat}(hc:col≤13)(h1:1≤lo)(h2:lo≤hi)(h3:hi≤S.text.length+1)(hl:S.text.length≤40):(aV col way [] (cc S lo hi)).length≤2911:=by
 have l1:=be (t:=S.text) h1;have ho:(cc S lo hi).length≤40:=by unfold cc;rw[bI (by exact ln [_,_,_] [.l .x0 .p11,.e .p21 .x0] .x2 .x1 [] rfl h3 (su (ln [_,_] [.l .k1 .x0,.l .x0 .x1] .k1 .x1 [] rfl h1 h2)))];exact ln [_,_,_,_] [.l .x0 .p11,.l .x1 (.k 40),.l .x2 .x3,.e .p31 .x0] .x2 (.k 40) [] rfl h3 hl sb (su (ln [_,_] [.l .k1 .x0,.l .x0 .x1] .k1 .x1 [] rfl h1 h2))
 have:=pb (way:=way) (L:=[]) (W:=13) (M:=40) hc (show(cc S lo hi).length≤4000 by exact ln [_] [.l .x0 (.k 40)] .x0 (.k 4000) [] rfl ho) (fun r hr=>by
  have:=mT hr;rw[bO]at this
  have:=gw [] r;exact ln [_,_,_] [.l .x0 (.k 40),.l .p11 .p01,.l .x2 .x1] .x2 (.k 40) [] rfl ho (by assumption) this)
 have h4:((cc S lo hi).length+1)*(40+2*13+5)≤41*71:=Nat.mul_le_mul_right _ (by exact ln [_] [.l .x0 (.k 40)] .p01 (.k 41) [] rfl ho);exact ln [_,_] [.l .x0 .x1,.l .x1 (.m 41 (.k 71))] .x0 (.k 2911) [] rfl this h4
theorem t8{col:Int}{way:Nat}{L:List Int}{lo hi:Nat}{S:St}:eA col way L lo hi S=[]↔cc S lo hi=aV col way L (cc S lo hi):=gk
theorem pE{α:Type}{P:α→Prop}{l:List α}{a:α}(h:∀x∈l,P x)(ha:P a):∀x∈l++[a],P x:=fun x hx=>(List.mem_append.mp hx).elim (h x) fun z=>List.mem_singleton.mp z▸ha
end Mine
end
section
namespace Mine
structure LG(τ:Sto)(dk mk:Nat)(X:BX)(S:St):Prop where
 deck:∃deck:List Nat,τ dk=some (.list (deck.map eN))
 B:BA τ X S
 marks:τ mk=some (.list (X.ms.map .obj))
 ndk:¬inX X dk
 nmk:¬inX X mk
 ne:dk≠mk
section
variable {Sx:Spec} {σ:Sto} {Q:KV} {vs:List PV}
theorem vY{dk m:Nat}(h0:0<m)(hd:∃deck:List Nat,σ dk=some (.list (deck.map eN)))(h:∀(v:Nat) (deck:List Nat),v<m→Q (.int (v:Nat)) (σ.set dk (.list (deck.map eN)))):s91 [.obj dk,.int (m:Nat)] σ Q:=by
 obtain⟨deck,hd⟩:=hd;exact yT h0 hd (h _ _ (vZ h0))
noncomputable def cu:List Int:=[97,98,32,10,99,97,32,46]
theorem sI:∀c∈cu,sgn c:=by
 intro c hc;unfold sgn;unfold cu at hc;simp at hc
 lia
noncomputable def s96(vs:List PV)(σ:Sto)(Q:KV):Prop:=∃is:List Int,vs=[eI is]∧is.length≤63∧(∀a,σ a=Option.none)∧∀τ,Q (.bool true) τ
structure Dk(σ τ:Sto)(dk:Nat):Prop where
 d:∃deck:List Nat,τ dk=some (.list (deck.map eN))
 f:∀x,x≠dk→τ x=σ x
theorem Dk.refl{dk:Nat}(h:∃deck:List Nat,σ dk=some (.list (deck.map eN))):Dk σ σ dk:=⟨h,fun _ _=>rfl⟩
theorem LG.dk{τ:Sto}{dk mk:Nat}{X:BX}{S:St}(G:LG σ dk mk X S)(D:Dk σ τ dk):LG τ dk mk X S:=
 ⟨D.d,G.B.fr (A:=(· = dk)) (fun a ha=>D.f a ha) (fun a ha e=>G.ndk (e▸ha)),(D.f _ (Ne.symm G.ne)).trans G.marks,G.ndk,G.nmk,G.ne⟩
theorem dr{τ:Sto}{dk m:Nat}{loc:List PV}{e:ME}{K:KV}(h91:Sx 91=s91)(hl:js loc 1=some (.obj dk))(D:Dk σ τ dk)(he:Ev Sx e loc τ (.int (m:Nat)))(h0:0<m)(h:∀(v:Nat) (τ':Sto),v<m→Dk σ τ' dk→K (.int (v:Nat)) τ'):ac ai Sx (.call 91 [.var 1,e]) loc τ K:=
 y_c (ae (aa hl) (ae he aD)) rfl h91 (vY h0 D.d fun v deck hv=>h v _ hv ⟨⟨deck,af⟩,fun x hx=>(an hx).trans (D.f x hx)⟩)
theorem dra{τ:Sto}{dk m:Nat}{i:Int}{loc:List PV}{e:ME}{K:KV}(h91:Sx 91=s91)(hl:js loc 1=some (.obj dk))(D:Dk σ τ dk)(he:Ev Sx e loc τ (.int (m:Nat)))(h0:0<m)(h:∀(v:Nat) (τ':Sto),v<m→Dk σ τ' dk→K (.int (i+v)) τ'):ac ai Sx (.bin false .add (.int i) (.call 91 [.var 1,e])) loc τ K:=
 AA aJ (dr h91 hl D he h0 h)
theorem drx{α:Type}{f:α→PV}{l:List α}{τ:Sto}{dk:Nat}{loc:List PV}{a e:ME}{K:KV}(h91:Sx 91=s91)(ha:Ev Sx a loc τ (eL f l))(hl:js loc 1=some (.obj dk))(D:Dk σ τ dk)(he:Ev Sx e loc τ (.int (l.length:Nat)))(h0:0<l.length)(h:∀x∈l,∀τ':Sto,Dk σ τ' dk→K (f x) τ'):ac ai Sx (.sub a (.call 91 [.var 1,e])) loc τ K:=
 Ax ha (dr h91 hl D he h0 fun v τ' hv D'=>up rl ⟨l[v],List.getElem?_eq_getElem hv,h _ (List.getElem_mem hv) τ' D'⟩)
theorem dre{τ:Sto}{dk m:Nat}{j:Int}{loc:List PV}{e:ME}{K:KV}(h91:Sx 91=s91)(hl:js loc 1=some (.obj dk))(D:Dk σ τ dk)(he:Ev Sx e loc τ (.int (m:Nat)))(h0:0<m)(h:∀(v:Nat) (τ':Sto),v<m→Dk σ τ' dk→K (.bool ((v:Int)==j)) τ'):ac ai Sx (.cmp .eq (.call 91 [.var 1,e]) (.int j)) loc τ K:=
 CA (dr h91 hl D he h0 h)
inductive IC(σ:Sto)(dk:Nat):Nat→List PV→Sto→Prop
 | mk {k:Nat} {cs:List Int} {τ:Sto} (hk:cs.length=k) (hs:∀c∈cs,sgn c) (D:Dk σ τ dk):IC σ dk k (cs.map PV.int) τ
inductive IB(σ:Sto)(dk size:Nat):Nat→List PV→Sto→Prop
 | mk {k:Nat} {bs:List Nat} {τ:Sto} (hk:bs.length=k) (hs:∀b∈bs,1≤b∧b≤size) (D:Dk σ τ dk):IB σ dk size k (bs.map eN) τ
theorem qQ{is:PV}{dk:Nat}{K:KV}(h91:Sx 91=s91)(hd:∃deck:List Nat,σ dk=some (.list (deck.map eN)))(h:∀(cs:List Int) (τ:Sto),3≤cs.length→cs.length≤32→(∀c∈cs,sgn c)→Dk σ τ dk→K (eI cs) τ):
  ac ai Sx (.comp false 1 (.sub (.var 2) (.call 91 [.var 1,.int 8])) (.var 18) (.range (.bin false .add (.int 3) (.call 91 [.var 1,.int 30]))) []) [is,.obj dk,eI cu,.undef,.undef,.undef,.undef,.undef,.undef,.undef,.undef,.undef,.undef,.undef,.undef,.undef,.undef,.undef] σ K:=by
 rw[nC];refine dra (m:=30) h91 rfl (.refl hd) aJ (by decide) fun v τ hv D=>⟨by exact lz [_] [] [] (.a (.o (.k 2147483648)) .k1) (.a (.k 3) .x0) [] rfl,by exact lz [_] [] [.l .p01 (.k 30)] (.a (.k 3) .x0) (.k 16777216) [] rfl (il hv),?_⟩
 rw[show((3:Int)+v).toNat=3+v by exact ioe (lze [_,_] [] [.e .x1 (.a (.k 3) .x0),.l (.a (.k 3) .x0) .x1] .x1 (.a (.k 3) .x0) [1,0] [0] rfl rfl (tn (lz [_] [] [] .k0 (.a (.k 3) .x0) [] rfl)) tl)];refine iP (IC σ dk) (fun _ _ _ _=>trivial) (.mk (cs:=[]) rfl (fun c hc=>by cases hc) D) (fun k hk acc τ R I hR=>?_) fun acc τ I=>?_
 ·obtain @⟨cs,_,hk,hs,D⟩:=I;refine Aw rfl (drx (f:=PV.int) (l:=cu) h91 (aa rfl) rfl D aJ (by decide) fun x hx τ' D'=>hR _ _ ?_);rw[show cs.map PV.int++[.int x]=(cs++[x]).map PV.int by rw[List.map_append];rfl];exact .mk (by rw[List.length_append,hk];rfl) (pE hs (sI _ hx)) D'
 ·obtain @⟨cs,_,hk,hs,D⟩:=I;rw[List.length_range]at hk;exact⟨by rw[List.length_map,hk];exact Nat.le_trans (Nat.add_le_add_left (Nat.le_of_lt hv) 3) (by decide),h cs τ (by exact ln [_,_] [.f .x1 (.a (.k 3) .x0)] (.k 3) .x1 [] rfl hk) (by exact ln [_,_] [.l .p01 (.k 30),.e .x1 (.a (.k 3) .x0)] .x1 (.k 32) [] rfl hv hk) hs D⟩
theorem px{is cs b mk:PV}{dk size:Nat}{K:KV}(h91:Sx 91=s91)(h0:0<size)(hd:∃deck:List Nat,σ dk=some (.list (deck.map eN)))
  (h:∀(bs:List Nat) (τ:Sto),bs.length=4→(∀b∈bs,1≤b∧b≤size)→Dk σ τ dk→K (eL eN bs) τ):
  ac ai Sx (.comp false 1 (.bin false .add (.int 1) (.call 91 [.var 1,.var 5])) (.var 18) (.range (.int 4)) []) [is,.obj dk,eI cu,cs,b,.int size,mk,.undef,.undef,.undef,.undef,.undef,.undef,.undef,.undef,.undef,.undef,.undef] σ K:=by
 rw[nC];refine vj (n:=4) aJ (by decide) _ (iP (IB σ dk size) (fun _ _ _ _=>trivial) (.mk (bs:=[]) rfl (fun c hc=>by cases hc) (.refl hd)) (fun k hk acc τ R I hR=>?_) fun acc τ I=>?_)
 ·obtain @⟨bs,_,hk,hs,D⟩:=I;refine Aw rfl (dra h91 rfl D (aa rfl) h0 fun v τ' hv D'=>hR _ _ ?_);rw[show bs.map eN++[.int (1+v)]=(bs++[1+v]).map eN by rw[List.map_append];rfl];exact .mk (by rw[List.length_append,hk];rfl) (pE hs ⟨Nat.le_add_right _ _,by exact ln [_,_] [.l .p11 .x0] (.a .k1 .x1) .x0 [] rfl hv⟩) D'
 ·obtain @⟨bs,_,hk,hs,D⟩:=I;exact⟨by rw[List.length_map,hk];decide,h bs τ hk hs D⟩
inductive IP(σ:Sto)(ps:List Nat):Nat→List PV→Sto→Prop
 | mk {k:Nat}:IP σ ps k ((ps.take k).map eN) σ
theorem we{v0 v1 v2 v3 v4 v5 v7 v8 v9 v10 v11 v12 v13 v14 v15 v16 v17:PV}{dk mk:Nat}{X:BX}{S:St}(G:LG σ dk mk X S):
  Ev Sx (.comp false 1 (.attr (.var 18) 11) (.var 18) (.expr (.var 6)) []) [v0,v1,v2,v3,v4,v5,.obj mk,v7,v8,v9,v10,v11,v12,v13,v14,v15,v16,v17] σ (eL eN S.ps):=fun K h=>by
 have M:=G.B.hm;rw[nC];rw[vH]
 refine(aa (S:=Sx) (v:=.obj mk) rfl) _ ?_;rw[tq,G.marks];refine iP (W:=fun σ'=>σ' mk=some (.list (X.ms.map .obj))) (IP σ S.ps) (fun k l τ hI=>by cases hI;exact G.marks) .mk (fun k hk acc τ R I hR=>?_) fun acc τ I=>?_
 ·cases I;have hk':k<S.ps.length:=M.len▸hk;have hp:=M.at_ k _ _ (List.getElem?_eq_getElem hk) (List.getElem?_eq_getElem hk')
  have:=hR [eN S.ps[k]] σ (by
   rw[show(S.ps.take k).map eN++[eN S.ps[k]]=(S.ps.take (k+1)).map eN by rw[a6 hk',List.map_append];rfl];exact .mk)
  exact Aw rfl (aE (aa rfl) hp rfl _ this)
 ·cases I;rw[M.len,List.take_length];exact⟨by rw[List.length_map,←M.len];exact Nat.le_trans (Nat.le_of_lt M.sz) (by decide),h⟩
theorem BZ.some{X:BX}{text:List Int}{point zv:Nat}{tk ctk:Int}{ps:List Nat}(B:BZ σ X text point zv tk ctk ps){x:Nat}(hx:inX X x):σ x≠Option.none:=fun z=>by
 obtain⟨pre,gap,post,G,_⟩:=B.hg;rcases hx with e|e|e|e|e|e
 ·rw[e,B.hb]at z;cases z
 ·rw[e,G.ht]at z;cases z
 ·rw[e,G.hc]at z;cases z
 ·rw[e,B.hm.hm]at z;cases z
 ·rw[e,B.hm.hd]at z;cases z
 ·obtain⟨i,hi,e2⟩:=List.getElem_of_mem e;rw[B.hm.at_ i x _ (by rw[List.getElem?_eq_getElem hi,e2]) (List.getElem?_eq_getElem (B.hm.len▸hi))]at z;cases z
theorem oU{X:BX}{a x:Nat}(h:inX {X with ms:=X.ms++[a]} x):inX X x∨x=a:=
 h.elim (fun h=>.inl (.inl h)) fun h=>h.elim (fun h=>.inl (.inr (.inl h))) fun h=>h.elim (fun h=>.inl (.inr (.inr (.inl h)))) fun h=>h.elim (fun h=>.inl (.inr (.inr (.inr (.inl h))))) fun h=>h.elim (fun h=>.inl (.inr (.inr (.inr (.inr (.inl h)))))) fun h=>
  (List.mem_append.mp h).elim (fun h=>.inl (.inr (.inr (.inr (.inr (.inr h)))))) fun h=>.inr (List.mem_singleton.mp h)
theorem zQ{τ:Sto}{dk mk a p:Nat}{X:BX}{S:St}(G:LG σ dk mk X S)(hd:a≠dk)(hm:a≠mk)(B2:BA τ {X with ms:=X.ms++[a]} {S with ps:=S.ps++[p]})
  (F2:Fr (fun x=>inX X x∨x=a) ((σ.set a (cL ((X.ms.length:Nat)+1) .none 0)).set mk (.list (X.ms.map .obj++[.obj a]))) τ):LG τ dk mk {X with ms:=X.ms++[a]} {S with ps:=S.ps++[p]}:=by
 obtain⟨deck,h⟩:=G.deck;exact⟨⟨deck,(F2 _ (fun z=>z.elim G.ndk hd.symm)).trans ((an G.ne).trans ((an hd.symm).trans h))⟩,B2,(F2 _ (fun z=>z.elim G.nmk hm.symm)).trans (af.trans (by rw[List.map_append];rfl)),fun z=>(oU z).elim G.ndk hd.symm,fun z=>(oU z).elim G.nmk hm.symm,G.ne⟩
theorem LG.fresh{τ:Sto}{dk mk a:Nat}{X:BX}{S:St}(G:LG τ dk mk X S)(ha:τ a=Option.none):¬inX X a∧a≠dk∧a≠mk:=by
 obtain⟨deck,hd⟩:=G.deck;exact⟨fun z=>G.B.some z ha,bM ha hd,bM ha G.marks⟩
theorem LG.other{τ:Sto}{dk mk a:Nat}{X:BX}{S:St}{o:cb}(G:LG τ dk mk X S)(h1:¬inX X a)(h2:a≠dk)(h3:a≠mk):LG (τ.set a o) dk mk X S:=by
 obtain⟨deck,hd⟩:=G.deck;exact⟨⟨deck,by rw[an (Ne.symm h2)];exact hd⟩,G.B.fr (A:=(· = a)) (Fr.refl.set rfl) (fun b hb e=>h1 (e▸hb)),by rw[an (Ne.symm h3)];exact G.marks,G.ndk,G.nmk,G.ne⟩
theorem LG.fr{τ τ':Sto}{dk mk:Nat}{X:BX}{S S':St}(G:LG τ dk mk X S)(F:Fr (inX X) τ τ')(B:BA τ' X S'):LG τ' dk mk X S':=by
 obtain⟨deck,hd⟩:=G.deck;exact⟨⟨deck,by rw[F _ G.ndk];exact hd⟩,B,by rw[F _ G.nmk];exact G.marks,G.ndk,G.nmk,G.ne⟩
noncomputable def yK:List MS:=[.assign (.var 15) (.meth (.var 4) 2 [.int (1),.bin false .add (.meth (.var 4) 0 []) (.int (1))]),.assign (.var 16) (.bin false .add (.list false [.attr (.var 4) 16]) (.comp false 1 (.attr (.var 18) 11) (.var 18) (.expr (.var 6)) [])),.ite (.or (.cmp .ne (.var 14) (.cmp .ne (.var 15) (.var 3))) (.not (.call 95 [.var 3,.var 15,.var 7,.var 16]))) [.ret (.bool false)] [],.ite (.or (.cmp .ne (.attr (.var 10) 1) (.str 0)) (.var 13)) [.ret (.bool true)] [],.assign (.var 17) (.attr (.var 4) 23),.ret (.and (.not (.call 50 [.var 4,.var 10])) (.cmp .eq (.attr (.var 4) 23) (.var 17)))]
theorem DC{P P':Prop}(h:P):asB (.bool false) fun r=>asB (.bool !r) fun r=>if r=true then P else P':=(if_pos rfl:(if(!false)=true then P else P')=P)▸h
theorem wU{l:List Int}:sub l (1-1) (l.length+1-1)=l:=List.take_length
theorem tX{α:Type}{f:α→α}{l:List α}{x:α×α}(h:x∈l.zip (l.map f)):x.1∈l∧x.2=f x.1:=by
 induction l with
 | nil=>cases h
 | cons a l ih=>
  rcases List.mem_cons.mp h with rfl|h
  ·exact⟨List.mem_cons_self,rfl⟩
  ·exact⟨List.mem_cons_of_mem _ (ih h).1,(ih h).2⟩
theorem pQ{τ:Sto}{dk mk a p0 way n:Nat}{X:BX}{S':St}{codes:List Int}{ps:List Nat}{is:PV}{x1 y1 u1 u2:PV}{isr told:Bool}{col:Int}{g:Nat→Nat}
  (h50:Sx 50=s50) (h82:Sx 82=s82) (h84:Sx 84=s84) (h95:Sx 95=s95) (G:LG τ dk mk X S') (hf:τ a=some (bN col way [])) (hk:eu codes S'.text g) (hp:S'.point=g p0) (hps:S'.ps=ps.map g)
  (ht:told=decide (S'.text≠codes)) (hl1:S'.text.length≤900000) (hl2:codes.length≤900000) (h1:∀p∈p0::ps,1≤p)
  (hag:way=0→isr=false→∀K:KV,(∀τ',(∃S2,BA τ' X S2∧S2.ctk=S'.ctk)→K (.bool false) τ')→s50 [.obj X.b,.obj a] τ K) (h:∀τ,Q (.bool true) τ):
  al ai Sx yK [is,.obj dk,eI cu,eI codes,.obj X.b,.int n,.obj mk,eL eN (p0::ps),x1,y1,.obj a,u1,u2,.bool isr,.bool told,.undef,.undef,.undef] τ (Ret Q):=by
 have hX:=G.B.hb;have hb:∀{k:Nat},k≤900000→k≤big:=fun h=>Nat.le_trans h (Nat.le_of_ble_eq_true rfl)
 refine x_a (gy (aa rfl) hX rfl (ae aJ (ae (ay (ev_add (gy (aa rfl) hX rfl aD rfl h82 fun Q w=>p6 G.B w) aJ) (show _=PV.int ((S'.text.length+1:Nat):Int)from rfl)) aD)) rfl h84 fun Q w=>mS (s:=1) (e:=S'.text.length+1) G.B (Nat.le_refl _) (Nat.succ_le_succ (Nat.zero_le _)) (Nat.le_refl _) (by rw[wU];exact w)) rfl (x_a (fj (f:=eN) (l:=[S'.point]) (gA (aE (aa rfl) hX rfl)) (we G) ?_) rfl ?_)
 rotate_left
 ·refine cE (dG (x:=false) (ay (Ai (aa rfl) (qH (aa rfl) (aa rfl))) (congrArg PV.bool ?_)) fun _=>jf (bb (pa rfl) rfl h95 fun Q w=>yS (hb hl2) (hb hl1) ?_ hk.1 w)) rfl (f8 (dG (Ah (aE (aa rfl) hf rfl) qG) fun _=>aa rfl) (fun _=>x_r qL (Wk.same (h _))) fun c=>x_a (aE (aa rfl) hX rfl) rfl (x_R (CD (Cz (y_c (pa rfl) rfl h50 (hag ?_ ?_ _ fun τ' hS2=>?_))))))
  ·rw[ht]
   by_cases q:S'.text=codes
   ·rw[q,decide_eq_false (fun z=>z rfl),beq_self_eq_true];rfl
   ·rw[decide_eq_true q,beq_eq_false_iff_ne.mpr q];rfl
  ·rw[hp,hps];intro x hx;obtain⟨y1,y2⟩:=tX (l:=p0::ps) hx;obtain⟨k1,k2,k3⟩:=hk.2 x.1 (h1 _ y1);obtain⟨x1,x2⟩:=x;dsimp only at*;subst y2;exact⟨h1 _ y1,k1,k2,k3⟩
  ·exact eq_of_beq (bnf (Bool.or_eq_false_iff.mp c).1)
  ·exact(Bool.or_eq_false_iff.mp c).2
  ·obtain⟨S2,B2,hc⟩:=hS2;refine DC ?_;refine cR (aE (aa rfl) B2.hb rfl) (aa rfl) _ ?_;rw[hc,beq_self_eq_true];exact Wk.same (h _)
 ·have:=G.B.hm.sz
  have:=G.B.hm.len;exact Nat.le_trans (by rw[List.length_singleton];exact ln [_,_] [.l .p01 (.k 60),.f .x0 .x1] (.a .k1 .x1) (.k 61) [] rfl (by assumption) this) (Nat.le_of_ble_eq_true (rfl:Nat.ble 61 big=true))
theorem rh{col:Int}{way lo hi:Nat}{S:St}(hc:col≤13)(h1:1≤lo)(h2:lo≤hi)(h3:hi≤S.text.length+1)(hl:S.text.length≤40):
  decide (eA col way [] lo hi S≠[])=decide ((bk col way [] lo hi S).text≠S.text)∧(bk col way [] lo hi S).text.length≤4000:=by
 obtain⟨g,e,_⟩:=fH (col:=col) (way:=way) h1 h2 h3 (by exact ln [_] [.l .x0 (.k 40)] .x0 (.k 4000) [] rfl hl);have hS:S.text=S.text.take (ak S.text lo-1)++cc S lo hi++S.text.drop (hi-1):=(ea (by have:=be (t:=S.text) h1;exact ln [_,_,_,_,_] [.l .x0 .x1,.l .x2 .x0,.e .p31 .x2,.f .p41 .x1] .x3 .x4 [] rfl h2 this.2 (su this.1) (su (ln [_,_] [.l .k1 .x0,.l .x0 .x1] .k1 .x1 [] rfl h1 h2))) (by exact ln [_,_,_] [.l .x0 .p11,.e .p21 .x0] .x2 .x1 [] rfl h3 (su (ln [_,_] [.l .k1 .x0,.l .x0 .x1] .k1 .x1 [] rfl h1 h2)))).symm;have h9:=gp (way:=way) hc h1 h2 h3 hl;refine⟨?_,?_⟩
 ·rw[decide_eq_decide,e];refine not_congr ?_;rw[t8];refine⟨fun q=>?_,fun q=>?_⟩
  ·rw[←q];exact hS.symm
  ·have:=q.trans hS;rw[List.append_assoc,List.append_assoc]at this
   exact(List.append_cancel_right (List.append_cancel_left this)).symm
 ·rw[e];simp only[List.length_append,List.length_take,List.length_drop];exact ln [_,_,_,_] [.l .x0 (.k 40),.l .x1 (.k 2911),.l .x2 .x0,.l .x3 .x0] (.a (.a .x2 .x1) .x3) (.k 4000) [2] rfl hl h9 (Nat.min_le_right _ _) sb
theorem Ci{τ:Sto}{dk mk a way n s e:Nat}{X:BX}{S:St}{is:PV}{x1 y1 u1 u2:PV}{isr:Bool}{col:Int}
  (h50:Sx 50=s50) (h82:Sx 82=s82) (h84:Sx 84=s84) (h95:Sx 95=s95) (G:LG τ dk mk X S) (f1:¬inX X a) (hf:τ a=some (bN col way [])) (hl:S.text.length≤40) (hc0:0≤col) (hc:col≤13)
  (k1:1≤s) (k2:s≤S.text.length+1) (k3:1≤e) (k4:e≤S.text.length+1) (h1:∀p∈S.point::S.ps,1≤p) (hr:isr=true) (h:∀τ,Q (.bool true) τ):
  s47 [.obj X.b,.int s,.int e,.obj a] τ fun v τ'=>al ai Sx yK [is,.obj dk,eI cu,eI S.text,.obj X.b,.int n,.obj mk,eL eN (S.point::S.ps),x1,y1,.obj a,u1,u2,.bool isr,v,.undef,.undef,.undef] τ' (Ret Q):=by
 have m1:1≤min s e:=by exact mc (s) (e) (fun z0 w0=>ln [_,_] [.l .k1 .x0,.f .x1 .x0] .k1 .x1 [] rfl k1 w0) fun z0 w0=>ln [_,_] [.l .k1 .x0,.f .x1 .x0] .k1 .x1 [] rfl k3 w0
 have m2:min s e≤max s e:=by exact ln [_,_,_] [.l .x1 .x0,.l .x0 .x2] .x1 .x2 [] rfl (Nat.min_le_left _ _) (Nat.le_max_left _ _)
 have m3:max s e≤S.text.length+1:=by exact mc (s) (e) (fun z0 w0=>xc (s) (e) (fun z1 w1=>ln [_,_,_] [.l .x1 .p01,.e .x2 .x1] .x2 .p01 [] rfl k4 w1) fun z1 w1=>ln [_,_,_] [.l .x1 .p01,.e .x2 .x1] .x2 .p01 [] rfl k2 w1) fun z0 w0=>xc (s) (e) (fun z1 w1=>ln [_,_,_] [.l .x1 .p01,.e .x2 .x1] .x2 .p01 [] rfl k4 w1) fun z1 w1=>ln [_,_,_] [.l .x1 .p01,.e .x2 .x1] .x2 .p01 [] rfl k2 w1
 refine uz G.B hf k1 k3 k2 k4 hc0 (by exact lz [] [_] [.l .y0 (.k 13)] .y0 (.k 20) [] rfl hc) (by exact ln [_] [.l .x0 (.k 40)] .x0 (.k 4000) [] rfl hl) (by have:=gp (way:=way) hc m1 m2 m3 hl;exact ln [_] [.l .x0 (.k 2911)] .x0 (.k 900000) [] rfl this) fun τ' B' F'=>?_
 obtain⟨g,e1,e2,e3,e4⟩:=fH (col:=col) (way:=way) m1 m2 m3 (by exact ln [_] [.l .x0 (.k 40)] .x0 (.k 4000) [] rfl hl);obtain⟨t1,t2⟩:=rh (way:=way) hc m1 m2 m3 hl;exact pQ h50 h82 h84 h95 (G.fr F' B') (by rw[F' _ f1];exact hf) e4 e2.1 e2.2 t1 (by lia) (by lia) h1 (fun _ z=>by rw[hr]at z;cases z) h
theorem Ch{τ:Sto}{dk mk a way n:Nat}{X:BX}{S:St}{is:PV}{x1 y1 u1 u2:PV}{isr:Bool}{col:Int}
  (h50:Sx 50=s50) (h82:Sx 82=s82) (h84:Sx 84=s84) (h95:Sx 95=s95) (G:LG τ dk mk X S) (f1:¬inX X a) (hf:τ a=some (bN col way [])) (hl:S.text.length≤40) (hc0:0≤col) (hc:col≤13)
  (p1:1≤S.point) (p2:S.point≤S.text.length+1) (hs:∀c∈S.text,sgn c) (h1:∀p∈S.point::S.ps,1≤p) (h:∀τ,Q (.bool true) τ):
  s50 [.obj X.b,.obj a] τ fun v τ'=>al ai Sx yK [is,.obj dk,eI cu,eI S.text,.obj X.b,.int n,.obj mk,eL eN (S.point::S.ps),x1,y1,.obj a,u1,u2,.bool isr,v,.undef,.undef,.undef] τ' (Ret Q):=by
 refine p9 G.B hf p1 p2 hc0 (by exact lz [] [_] [.l .y0 (.k 13)] .y0 (.k 20) [] rfl hc) (by exact ln [_] [.l .x0 (.k 40)] .x0 (.k 4000) [] rfl hl) (fun hpe=>?_) fun hpe=>?_
 ·refine pQ h50 h82 h84 h95 G hf (eu.id S.text) rfl (by simp) (by simp) (by exact ln [_] [.l .x0 (.k 40)] .x0 (.k 900000) [] rfl hl) (by exact ln [_] [.l .x0 (.k 40)] .x0 (.k 900000) [] rfl hl) h1 (fun hw0 _ K hK=>?_) h;exact p9 G.B hf p1 p2 hc0 (by exact lz [] [_] [.l .y0 (.k 13)] .y0 (.k 20) [] rfl hc) (by exact ln [_] [.l .x0 (.k 40)] .x0 (.k 4000) [] rfl hl) (fun _=>hK _ ⟨_,G.B,rfl⟩) (fun z=>absurd hpe z)
 ·have bd:=rE (L:=[]) p1 p2;have sm:=gp (way:=way) hc bd.1 bd.2.1 bd.2.2 hl;refine⟨by lia,fun τ' B' F'=>?_⟩;obtain⟨g,e1,e2,e3,e4⟩:=fH (col:=col) (way:=way) bd.1 bd.2.1 bd.2.2 (by exact ln [_] [.l .x0 (.k 40)] .x0 (.k 4000) [] rfl hl);obtain⟨t1,t2⟩:=rh (way:=way) hc bd.1 bd.2.1 bd.2.2 hl;have hf':τ' a=some (bN col way []):=by rw[F' _ f1];exact hf
  have hag:way=0→∃lo hi,aL [] (bk col way [] (aL [] S.text S.point).1 (aL [] S.text S.point).2 S).text (bk col way [] (aL [] S.text S.point).1 (aL [] S.text S.point).2 S).point=(lo,hi)∧
   eA col way [] lo hi (bk col way [] (aL [] S.text S.point).1 (aL [] S.text S.point).2 S)=[]∧
   (aV col way [] (cc (bk col way [] (aL [] S.text S.point).1 (aL [] S.text S.point).2 S) lo hi)).length≤(bk col way [] (aL [] S.text S.point).1 (aL [] S.text S.point).2 S).text.length:=by
   rintro rfl
   exact(wv hs (by exact ln [_] [.l .x0 (.k 40)] .x0 (.k 4000) [] rfl hl) p1 p2 hpe).2
  have hpt:1≤(bk col way [] (aL [] S.text S.point).1 (aL [] S.text S.point).2 S).point∧(bk col way [] (aL [] S.text S.point).1 (aL [] S.text S.point).2 S).point≤(bk col way [] (aL [] S.text S.point).1 (aL [] S.text S.point).2 S).text.length+1:=by
   rw[e2.1];refine⟨(e4.2 _ p1).1,?_⟩;rw[e1];have l1:=be (t:=S.text) bd.1;have ho:(cc S (aL [] S.text S.point).1 (aL [] S.text S.point).2).length=(aL [] S.text S.point).2-1-(ak S.text (aL [] S.text S.point).1-1):=by unfold cc;rw[bI (by exact ln [_,_,_] [.l .x1 .p01,.e .p21 .x1] .x2 .x0 [] rfl bd.2.2 (su (ln [_,_] [.l .k1 .x0,.l .x0 .x1] .k1 .x1 [] rfl bd.1 bd.2.1)))]
   generalize (aV col way [] (cc S (aL [] S.text S.point).1 (aL [] S.text S.point).2))=ft at*;generalize (cc S (aL [] S.text S.point).1 (aL [] S.text S.point).2)=ol at*;simp only[List.length_append,List.length_take,List.length_drop]
   by_cases w1:S.point≤ak S.text (aL [] S.text S.point).1
   ·rw[e3.ahead _ w1];lia
   ·by_cases w2:ak S.text (aL [] S.text S.point).1+ol.length<S.point
    ·rw[e3.behind _ w2];exact sc (S.point+ft.length) (ol.length) (fun z0 w0=>mc (ak S.text (aL [] S.text S.point).fst-1) (S.text.length) (fun z1 w1=>ln [_,_,_,_,_,_,_,_,_,_] [.l .x1 .p01,.f .x3 .x4,.e (.a .x5 .x3) (.a .x1 .x2),.f .x6 (.x 9),.f (.a (.x 7) (.x 8)) .x0,.f (.a .x4 (.x 9)) (.x 8)] .x5 (.a (.a (.a .x6 .x2) (.x 7)) .k1) [] rfl p2 ho w0 w1 (su (ln [_,_,_,_,_,_,_] [.l .x1 .p01,.f .x3 .x4,.l (.a (.a .x2 .x3) .k1) .x1,.l .x5 (.a .x4 .x6),.l .x6 .x2] .x5 .x0 [] rfl p2 ho w2 sl sb)) (su (ln [_,_,_,_,_] [.l .x0 .x1,.l .x2 .x0,.f .p31 .x1,.e .p41 .x2] .x4 .x3 [] rfl bd.2.1 l1.2 (su (ln [_,_] [.l .k1 .x0,.l .x0 .x1] .k1 .x1 [] rfl bd.1 bd.2.1)) (su l1.1)))) fun z1 w1=>ln [_,_,_,_,_,_] [.l .x1 .p01,.f .x4 .x0,.l .x3 (.a .x1 .x2)] .x3 (.a (.a (.a .x4 .x2) .x5) .k1) [] rfl p2 w1 sb) fun z0 w0=>ln [_,_,_,_] [.e .x1 .k0] .x1 (.a (.a (.a .x2 .x0) .x3) .k1) [] rfl w0
    ·have:=e3.within S.point (by exact Nat.le_of_lt (Nat.not_le.mp w1)) (by exact(Nat.not_lt.mp w2))
     lia
  generalize bk col way [] (aL [] S.text S.point).1 (aL [] S.text S.point).2 S=S1 at*;refine pQ h50 h82 h84 h95 (G.fr F' B') hf' e4 e2.1 e2.2 t1 (by exact ln [_] [.l .x0 (.k 4000)] .x0 (.k 900000) [] rfl t2) (by exact ln [_] [.l .x0 (.k 40)] .x0 (.k 900000) [] rfl hl) h1 (fun hw0 _ K hK=>?_) h;obtain⟨lo,hi,a1,a2,a3⟩:=hag hw0;refine p9 B' hf' hpt.1 hpt.2 hc0 (by lia) (by exact t2) (fun _=>hK _ ⟨_,B',rfl⟩) fun _=>?_
  rw[a1];dsimp only;refine⟨by exact ln [_,_] [.l .x0 (.k 4000),.l .x1 .x0] .x1 (.k 900000) [] rfl t2 a3,fun τ2 B2 F2=>?_⟩;rw[a2];rw[tC a2]at B2;exact hK _ ⟨_,B2,rfl⟩
theorem e96{τ:Sto}{dk mk:Nat}{X:BX}{S:St}{is x y:PV}(h31:Sx 31=s31)(h47:Sx 47=s47)(h50:Sx 50=s50)(h82:Sx 82=s82)(h84:Sx 84=s84)(h91:Sx 91=s91)(h95:Sx 95=s95)(G:LG τ dk mk X S)(hl:S.text.length≤40)(hs:∀c∈S.text,sgn c)(h1:∀p∈S.point::S.ps,1≤p)(p2:S.point≤S.text.length+1)(h:∀τ,Q (.bool true) τ):
  al ai Sx (b96.drop 7) [is,.obj dk,eI cu,eI S.text,.obj X.b,.int (S.text.length+1:Nat),.obj mk,eL eN (S.point::S.ps),x,y,.undef,.undef,.undef,.undef,.undef,.undef,.undef,.undef] τ (Ret Q):=by
 refine x_A (CF rfl (jt (dra (m:=12) h91 rfl (.refl G.deck) aJ (by decide) fun v τ1 hv D1=>jt (drx (f:=PV.str) (l:=[0,1,2,3]) h91 (Aq (pa rfl) rfl) rfl D1 aJ (by decide) fun way _ τ2 D2=>jt (iN _ (jt (aJ _ (xK fun a ha=>?_))))))));have G2:=G.dk D2;obtain⟨f1,f2,f3⟩:=G2.fresh ha;have hc0:(0:Int)≤2+v:=by exact lz [_] [] [] .k0 (.a (.k 2) .x0) [] rfl
 have hc:(2:Int)+v≤13:=by exact lz [_] [] [.l .p01 (.k 12)] (.a (.k 2) .x0) (.k 13) [] rfl (il hv)
 generalize (2:Int)+v=col at*;refine up (congrFun (congrFun (congrFun h31 _) _) _) ⟨a,col,way,[],rfl,af,rfl,?_⟩;rw[gP];have G3:=G2.other (o:=bN col way []) f1 f2 f3;have ha3:(τ2.set a (bN col way [])) a=some (bN col way []):=af;clear ha D2 D1 G2 G hv;generalize τ2.set a (bN col way [])=τ3 at*;refine x_s rfl (C8 (wm (jt (dra h91 rfl (.refl G3.deck) (aa rfl) (Nat.succ_pos _) fun v1 τ4 hv1 D4=>jt (dra h91 rfl D4 (aa rfl) (Nat.succ_pos _) fun v2 τ5 hv2 D5=>jt (dre (m:=2) h91 rfl D5 aJ (by decide) fun v3 τ6 hv3 D6=>xK ⟨Nat.le_of_ble_eq_true rfl,?_⟩))))));have G6:=G3.dk D6;have ha6:=(D6.f _ f2).trans ha3;have k:∀{u:Nat},u<S.text.length+1→1≤1+u∧1+u≤S.text.length+1:=fun h=>⟨Nat.le_add_right _ _,by exact ln [_,_] [.l .p11 .p01] (.a .k1 .x1) .p01 [] rfl h⟩
 exact x_A (yv (aa rfl) (fun q=>y_c (pa rfl) rfl h47 (Ci (s:=1+v1) (e:=1+v2) h50 h82 h84 h95 G6 f1 ha6 hl hc0 hc (k hv1).1 (k hv1).2 (k hv2).1 (k hv2).2 h1 q h)) fun q=>y_c (pa rfl) rfl h50 (Ch h50 h82 h84 h95 G6 f1 ha6 hl hc0 hc (h1 _ List.mem_cons_self) p2 hs h1 h))
inductive I96(is b:PV)(dk mk nb:Nat)(codes:List Int)(bs:List Nat):Nat→List PV→Sto→Prop
 | mk {k:Nat} {x y:PV} {X:BX} {τ:Sto} (hb: .obj X.b=b) (hm:X.ms.length=k) (G:LG τ dk mk X ⟨codes,1+codes.length,(bs.drop 1).take k,2,2⟩):I96 is b dk mk nb codes bs k [is,.obj dk,eI cu,eI codes,b,.int (codes.length+1:Nat),.obj mk,eL eN bs,x,y,.undef,.undef,.undef,.undef,.undef,.undef,.undef,.undef] τ
theorem LG.pt{τ:Sto}{dk mk:Nat}{X:BX}{S:St}(G:LG τ dk mk X S)(p:Nat):LG (τ.set X.b (db X.t X.m p (S.text.length+1) S.tk S.ctk)) dk mk X {S with point:=p}:=by
 obtain⟨dd,hdd⟩:=G.deck;have hne:∀x,¬inX X x→x≠X.b:=fun x n e=>n (.inl e)
 exact⟨⟨dd,(an (hne _ G.ndk)).trans hdd⟩,G.B.bSet _ _ _ _,(an (hne _ G.nmk)).trans G.marks,G.ndk,G.nmk,G.ne⟩
theorem m96{dk mk:Nat}{X:BX}{codes:List Int}{is:PV}(h13:Sx 13=s13)(h31:Sx 31=s31)(h47:Sx 47=s47)(h50:Sx 50=s50)(h65:Sx 65=s65)(h82:Sx 82=s82)(h84:Sx 84=s84)(h90:Sx 90=s90)(h91:Sx 91=s91)(h95:Sx 95=s95)(G:LG σ dk mk X ⟨[],1,[],1,1⟩)(hm:X.ms=[])(hc1:3≤codes.length)(hc2:codes.length≤32)(hs:∀c∈codes,sgn c)(h:∀τ,Q (.bool true) τ):
  al ai Sx (b96.drop 3) [is,.obj dk,eI cu,eI codes,.obj X.b,.int (codes.length+1:Nat),.obj mk,.undef,.undef,.undef,.undef,.undef,.undef,.undef,.undef,.undef,.undef,.undef] σ (Ret Q):=by
 refine x_E (y_c (pa rfl) rfl h13 (zF G.B (Nat.le_refl _) (Nat.le_refl _) (Nat.le_trans (by rw[List.length_nil,Nat.zero_add];exact hc2) (Nat.le_of_ble_eq_true (rfl:Nat.ble 32 cap=true))) (fun z=>by subst z;cases hc1) fun σ3 B3 F3=>?_));rw[show c9 [] 1 1 codes=codes from List.append_nil _]at B3;have G3:LG σ3 dk mk X ⟨codes,1+codes.length,[],2,2⟩:=G.fr F3 B3;refine x_A (px h91 (Nat.succ_pos _) G3.deck fun bs τ hbs hbb D=>x_s rfl ?_);have G4:=G3.dk D;refine dL (I96 is (.obj X.b) dk mk 0 codes bs) (Dh (jG (n:=1) (aa rfl) aJ)) (.mk rfl (by rw[hm];rfl) G4) (fun k hk loc τ K' I _ hK=>?_) fun loc τ I=>?_
 ·clear G G3 G4 D B3 F3 hm;obtain @⟨x,y,X',_,hb,hm,G⟩:=I;rw[←hb]at hK⊢;rw[List.length_zipIdx]at hk;rw[List.getElem_zipIdx,Nat.zero_add];have hbk:=hbb _ (List.mem_of_mem_drop (List.getElem_mem hk));have hk3:(bs.drop 1).length=3:=by rw[List.length_drop,hbs]
  have hKK:∀{x y:PV} {τ:Sto} {a:Nat},LG τ dk mk {X' with ms:=X'.ms++[a]} ⟨codes,1+codes.length,(bs.drop 1).take k++[(bs.drop 1)[k]],2,2⟩→K' (.next [is,.obj dk,eI cu,eI codes,.obj X'.b,.int (codes.length+1:Nat),.obj mk,eL eN bs,x,y,.undef,.undef,.undef,.undef,.undef,.undef,.undef,.undef]) τ:=fun{_ _ _ a} g=>hK _ _ (.mk (X:={X' with ms:=X'.ms++[a]}) rfl (by rw[List.length_append,hm];rfl) (by rw[a6 hk];exact g))
  clear hK;generalize (bs.drop 1)[k]=p at*;refine x_E (CC (aa rfl) G.marks (nI (ae (ay (ev_add (aa (v:=.int (k:Nat)) rfl) aJ) (show _=PV.int ((X'.ms.length:Nat)+1) by rw[hm])) (ae qL aD)) rfl (fun _=>rfl) fun a ha=>?_));obtain⟨f1,f2,f3⟩:=G.fresh ha;rw[h65];refine zc af ⟨rfl,?_⟩;rw[gP,lu,an f3.symm,G.marks,xp];refine⟨by rw[List.length_map,hm];exact Nat.lt_trans (Nat.lt_of_lt_of_le hk (Nat.le_of_eq hk3)) (by decide),x_E (y_c (ae (ny (v:=.obj a) (aa rfl) aJ af ?_) (ae (aa rfl) (ae (aa (v:=.int (p:Nat)) rfl) aD))) rfl h90 (yU (G.B.fr ((Fr.refl (A:=fun x=>x=a∨x=mk).set (.inl rfl)).set (.inr rfl)) fun x hx z=>z.elim (fun e=>f1 (e▸hx)) fun e=>G.nmk (e▸hx)) ((an f3).trans af) (by exact ln [_,_,_] [.l .p01 .x1,.e .x2 .x0,.e .x1 (.k 3)] .p21 (.k 59) [] rfl hk hm hk3) hbk.1 hbk.2 fun τ2 B2 F2=>x_n (hKK (zQ G f2 f3 B2 F2))))⟩;unfold kM;rw[if_pos (by decide),List.length_append,List.length_singleton,if_neg (by exact fun zz=>lzf [_] [] _ [.l (.a (.a (.o .k1) .p01) .k1) .k0] [] rfl zz),show((-1:Int)+((X'.ms.map PV.obj).length+1:Nat)).toNat=(X'.ms.map PV.obj).length by exact ioe (lze [_,_] [] [.e .x0 (.a (.o .k1) .p11),.l (.a (.o .k1) .p11) .x0] .x0 .x1 [1,0] [0] rfl rfl (tn (lz [_] [] [] .k0 (.a (.o .k1) .p01) [] rfl)) tl),List.getElem?_append_right (Nat.le_refl _),Nat.sub_self];rfl
 ·clear G G3 G4 D B3 F3 hm h13 h65 h90;obtain @⟨x,y,X',_,hb,hm,G⟩:=I;rw[List.length_zipIdx,List.take_length]at G;rw[←hb];cases bs with
  | nil=>cases hbs
  | cons p0 ps=>
   have hp0:=hbb p0 List.mem_cons_self;have G':LG _ dk mk X' ⟨codes,p0,ps,2,2⟩:=G.pt p0;refine dC (aZ (n:=0) (f:=eN) (aa rfl) aJ rfl) (aa rfl) G.B.hb rfl rfl ?_;exact e96 (S:=⟨codes,p0,ps,2,2⟩) h31 h47 h50 h82 h84 h91 h95 G' (show codes.length≤40 from Nat.le_trans hc2 (by decide)) hs (fun p hp=>(hbb p hp).1) hp0.2 h
theorem k96(h13:Sx 13=s13)(h31:Sx 31=s31)(h47:Sx 47=s47)(h50:Sx 50=s50)(h65:Sx 65=s65)(h77:Sx 77=s77)(h82:Sx 82=s82)(h84:Sx 84=s84)(h90:Sx 90=s90)(h91:Sx 91=s91)(h95:Sx 95=s95)(h:s96 vs σ Q):Bd Sx 1 b96 17 vs σ Q:=by
 obtain⟨is,rfl,hl,he,h⟩:=h;refine⟨rfl,x_T (wm (jt (CB (g:=Int.natAbs) (h:=eN) (hE (vI (aa rfl) aJ (by decide))) (fun i _ R hR=>Cx rfl (Ap (aa rfl)) hR) (Nat.le_trans (List.length_take_le _ _) (by decide)) fun dk hdk=>jt (Aq (pa rfl) rfl _ (xK ⟨Nat.le_of_ble_eq_true rfl,x_A (qQ h91 ⟨_,af⟩ fun codes σ1 hc1 hc2 hcs D=>x_s rfl (x_T (wm (jt (nI (ae aJ (ae qG aD)) rfl (fun _=>rfl) fun b hb=>?_)))))⟩)))))⟩;obtain⟨deck,hd⟩:=D.d;rw[h77];refine yY af fun σ2 t c m d ht0 hc0 hm0 hd0 B F=>⟨rfl,jt (ev_add (aw (aa rfl)) aJ _ (jt (yu fun mk hmk=>xK ⟨Nat.le_of_ble_eq_true rfl,?_⟩)))⟩
 have hnm:¬inX ⟨b,t,c,m,d,[]⟩ mk:=fun z=>B.some z hmk
 have hbd:=bM hb hd;have hd1:(σ1.set b (.inst 4 [])) dk=some (.list (deck.map eN)):=(an hbd.symm).trans hd;have hnd:¬inX ⟨b,t,c,m,d,[]⟩ dk:=fun z=>z.elim hbd.symm fun z=>z.elim (bM ht0 hd1).symm fun z=>z.elim (bM hc0 hd1).symm fun z=>z.elim (bM hm0 hd1).symm fun z=>z.elim (bM hd0 hd1).symm fun z=>by cases z
 have hd2:=(F _ hnd).trans hd1;have hdm:=(bM hmk hd2).symm;exact m96 (X:=⟨b,t,c,m,d,[]⟩) h13 h31 h47 h50 h65 h82 h84 h90 h91 h95 ⟨⟨deck,(an hdm).trans hd2⟩,B.fr (A:=(· = mk)) (Fr.refl.set rfl) (fun a ha e=>hnm (e▸ha)),af,hnd,hnm,hdm⟩ rfl hc1 hc2 hcs h
end
end Mine
end
section
open PySem PySem.W PyProof.Rows
namespace Mine
set_option maxRecDepth 100000
noncomputable def lkS:List (Nat×(List PV→Sto→KV→Prop))→Spec
 | [],_=>fun _ _ _=>False
 | (g,s)::r,f=>match Nat.beq f g with
  | true=>s
  | false=>lkS r f
theorem rK:∀{l:List (Nat×(List PV→Sto→KV→Prop))} {f:Nat} {vs:List PV} {σ:Sto} {Q:KV},lkS l f vs σ Q→∃s,(f,s)∈l∧s vs σ Q
 | [],_,_,_,_,h=>h.elim
 | (g,s)::r,f,vs,σ,Q,h=>by
  have h':(match Nat.beq f g with|true=>s|false=>lkS r f) vs σ Q:=h;cases e:Nat.beq f g with
  | true=>rw[e]at h';rw[Nat.eq_of_beq_eq_true e];exact⟨s,List.mem_cons_self,h'⟩
  | false=>rw[e]at h';obtain⟨t,a,b⟩:=rK h';exact⟨t,List.mem_cons_of_mem _ a,b⟩
theorem Ae{α:Type}{C:α→Prop}:∀y∈([]:List α),C y:=fun _ h=>by cases h
theorem ag{α:Type}{C:α→Prop}{x:α}{l:List α}(h:C x)(t:∀y∈l,C y):∀y∈x::l,C y:=fun y hy=>by
 rcases List.mem_cons.mp hy with rfl|hy
 ·exact h
 ·exact t y hy
noncomputable def mO:List (Nat×(List PV→Sto→KV→Prop)):=[(2,s2),(3,s3),(4,s4),(5,s5),(6,s6),(7,s7),(8,s8),(9,s9),(10,s10),(11,s11),(12,s12),(13,s13),(14,s14),(15,s15),(16,s16),(17,s17),(18,s18),(19,s19),(20,s20),(21,s21),(22,s22),(23,s23),(24,s24),(25,s25),(26,s26),(27,s27),(28,s28),(29,s29),(30,s30),(31,s31),(32,s32),(33,s33),(34,s34),(35,s35),(36,s36),(37,s37),(38,s38),(39,s39),(40,s40),(41,s41),(42,s42),(43,s43),(44,s44),(45,s45),(46,s46),(47,s47),(48,s48),(49,s49),(50,s50),(51,s51),(52,s52),(53,s53),(54,s54),(55,s55),(56,s56),(57,s57),(58,s58),(65,s65),(69,s69),(70,s70),(71,s71),(74,s74),(75,s75),(76,s76),(77,s77),(80,s80),(81,s81),(82,s82),(83,s83),(84,s84),(89,s89),(90,s90),(91,s91),(92,s92),(93,s93),(94,s94),(95,s95),(96,s96)]
noncomputable def S02:Spec:=lkS mO
noncomputable def yD(h:Heap)(w:World)(x:Nat×(List PV→Sto→KV→Prop)):Prop:=∀vs σ Q,x.2 vs σ Q→∃a,wB (dI dB (KOf pwT w.params) h pwT w) x.1 a∧wA (dI dB (KOf pwT w.params) h pwT w) S02 x.1 a vs σ Q
theorem am{h:Heap}{w:World}{f g:Nat}{s:List PV→Sto→KV→Prop}(h1:Nat.ble (dB.rank.getD g 0+1) (dB.rank.getD f 0)=true)(h2:S02 g=s):jk (dI dB (KOf pwT w.params) h pwT w) S02 ((dI dB (KOf pwT w.params) h pwT w).rank f) g=s:=by
 funext vs σ Q
 show(dB.rank.getD g 0<dB.rank.getD f 0∧S02 g vs σ Q)=_;rw[h2];simp only[show dB.rank.getD g 0<dB.rank.getD f 0 from Nat.le_of_ble_eq_true h1,true_and]
theorem aN{h:Heap}{w:World}{f:Nat}{s:List PV→Sto→KV→Prop}{n k:Nat}{b:List MS}(hu:dB.used.elem f=true)(ha:jd f=some ⟨n,n+k,[],b⟩∨∃d,jd f=some ⟨n,n+k,d,b⟩)(hb:∀vs σ Q,s vs σ Q→Bd (jk (dI dB (KOf pwT w.params) h pwT w) S02 ((dI dB (KOf pwT w.params) h pwT w).rank f)) n b k vs σ Q):yD h w (f,s):=fun vs σ Q hs=>by
 obtain⟨a,e,hall⟩:=Cf (h0:=h) (prog:=pwT) (w:=w) (qA w.params) (List.mem_of_elem_eq_true hu);refine⟨a,hall,?_⟩;obtain⟨d,ha⟩:∃d,jd f=some ⟨n,n+k,d,b⟩:=by
  rcases ha with ha|ha
  ·exact⟨[],ha⟩
  ·exact ha
 rw[ha]at e;cases e;obtain⟨h1,h2⟩:=hb vs σ Q hs;refine⟨h1,?_⟩;show al ai _ b (vs++List.replicate (n+k-n) .undef) σ _;rw[Nat.add_sub_cancel_left];exact h2
theorem BP(h:Heap)(w:World):∀x∈mO,yD h w x:=by
 unfold mO;exact
 ag (aN rfl (.inr ⟨_,rfl⟩) fun _ _ _ hs=>k2 hs)<|
 ag (aN rfl (.inr ⟨_,rfl⟩) fun _ _ _ hs=>k3 (am rfl rfl) hs)<|
 ag (aN rfl (.inr ⟨_,rfl⟩) fun _ _ _ hs=>k4 hs)<|
 ag (aN rfl (.inr ⟨_,rfl⟩) fun _ _ _ hs=>k5 hs)<|
 ag (aN rfl (.inr ⟨_,rfl⟩) fun _ _ _ hs=>k6 (am rfl rfl) hs)<|
 ag (aN rfl (.inr ⟨_,rfl⟩) fun _ _ _ hs=>k7 (am rfl rfl) hs)<|
 ag (aN rfl (.inr ⟨_,rfl⟩) fun _ _ _ hs=>k8 (am rfl rfl) hs)<|
 ag (aN rfl (.inr ⟨_,rfl⟩) fun _ _ _ hs=>k9 hs)<|
 ag (aN rfl (.inr ⟨_,rfl⟩) fun _ _ _ hs=>k10 hs)<|
 ag (aN rfl (.inr ⟨_,rfl⟩) fun _ _ _ hs=>k11 (am rfl rfl) (am rfl rfl) (am rfl rfl) (am rfl rfl) (am rfl rfl) (am rfl rfl) (am rfl rfl) (am rfl rfl) hs)<|
 ag (aN rfl (.inr ⟨_,rfl⟩) fun _ _ _ hs=>k12 (am rfl rfl) hs)<|
 ag (aN rfl (.inr ⟨_,rfl⟩) fun _ _ _ hs=>k13 (am rfl rfl) hs)<|
 ag (aN rfl (.inr ⟨_,rfl⟩) fun _ _ _ hs=>k14 (am rfl rfl) (am rfl rfl) (am rfl rfl) (am rfl rfl) (am rfl rfl) (am rfl rfl) (am rfl rfl) hs)<|
 ag (aN rfl (.inr ⟨_,rfl⟩) fun _ _ _ hs=>k15 (am rfl rfl) (am rfl rfl) (am rfl rfl) (am rfl rfl) (am rfl rfl) (am rfl rfl) (am rfl rfl) (am rfl rfl) (am rfl rfl) (am rfl rfl) (am rfl rfl) (am rfl rfl) hs)<|
 ag (aN rfl (.inr ⟨_,rfl⟩) fun _ _ _ hs=>k16 hs)<|
 ag (aN rfl (.inr ⟨_,rfl⟩) fun _ _ _ hs=>k17 hs)<|
 ag (aN rfl (.inr ⟨_,rfl⟩) fun _ _ _ hs=>k18 (am rfl rfl) hs)<|
 ag (aN rfl (.inr ⟨_,rfl⟩) fun _ _ _ hs=>k19 (am rfl rfl) (am rfl rfl) hs)<|
 ag (aN rfl (.inr ⟨_,rfl⟩) fun _ _ _ hs=>k20 hs)<|
 ag (aN rfl (.inr ⟨_,rfl⟩) fun _ _ _ hs=>k21 (am rfl rfl) hs)<|
 ag (aN rfl (.inr ⟨_,rfl⟩) fun _ _ _ hs=>k22 (am rfl rfl) hs)<|
 ag (aN rfl (.inr ⟨_,rfl⟩) fun _ _ _ hs=>k23 hs)<|
 ag (aN rfl (.inr ⟨_,rfl⟩) fun _ _ _ hs=>k24 hs)<|
 ag (aN rfl (.inr ⟨_,rfl⟩) fun _ _ _ hs=>k25 hs)<|
 ag (aN rfl (.inr ⟨_,rfl⟩) fun _ _ _ hs=>k26 (am rfl rfl) (am rfl rfl) hs)<|
 ag (aN rfl (.inr ⟨_,rfl⟩) fun _ _ _ hs=>k27 (am rfl rfl) (am rfl rfl) (am rfl rfl) hs)<|
 ag (aN rfl (.inr ⟨_,rfl⟩) fun _ _ _ hs=>k28 hs)<|
 ag (aN rfl (.inr ⟨_,rfl⟩) fun _ _ _ hs=>k29 (am rfl rfl) hs)<|
 ag (aN rfl (.inr ⟨_,rfl⟩) fun _ _ _ hs=>k30 (am rfl rfl) hs)<|
 ag (aN rfl (.inr ⟨_,rfl⟩) fun _ _ _ hs=>k31 hs)<|
 ag (aN rfl (.inr ⟨_,rfl⟩) fun _ _ _ hs=>k32 hs)<|
 ag (aN rfl (.inr ⟨_,rfl⟩) fun _ _ _ hs=>k33 hs)<|
 ag (aN rfl (.inr ⟨_,rfl⟩) fun _ _ _ hs=>k34 hs)<|
 ag (aN rfl (.inr ⟨_,rfl⟩) fun _ _ _ hs=>k35 hs)<|
 ag (aN rfl (.inr ⟨_,rfl⟩) fun _ _ _ hs=>k36 hs)<|
 ag (aN rfl (.inr ⟨_,rfl⟩) fun _ _ _ hs=>k37 (am rfl rfl) (am rfl rfl) (am rfl rfl) hs)<|
 ag (aN rfl (.inr ⟨_,rfl⟩) fun _ _ _ hs=>k38 (am rfl rfl) (am rfl rfl) (am rfl rfl) (am rfl rfl) (am rfl rfl) hs)<|
 ag (aN rfl (.inr ⟨_,rfl⟩) fun _ _ _ hs=>k39 (am rfl rfl) (am rfl rfl) (am rfl rfl) (am rfl rfl) hs)<|
 ag (aN rfl (.inr ⟨_,rfl⟩) fun _ _ _ hs=>k40 (am rfl rfl) (am rfl rfl) hs)<|
 ag (aN rfl (.inr ⟨_,rfl⟩) fun _ _ _ hs=>k41 (am rfl rfl) (am rfl rfl) hs)<|
 ag (aN rfl (.inr ⟨_,rfl⟩) fun _ _ _ hs=>k42 hs)<|
 ag (aN rfl (.inr ⟨_,rfl⟩) fun _ _ _ hs=>k43 (am rfl rfl) hs)<|
 ag (aN rfl (.inr ⟨_,rfl⟩) fun _ _ _ hs=>k44 hs)<|
 ag (aN rfl (.inr ⟨_,rfl⟩) fun _ _ _ hs=>k45 (am rfl rfl) (am rfl rfl) hs)<|
 ag (aN rfl (.inr ⟨_,rfl⟩) fun _ _ _ hs=>k46 (am rfl rfl) (am rfl rfl) (am rfl rfl) hs)<|
 ag (aN rfl (.inr ⟨_,rfl⟩) fun _ _ _ hs=>k47 (am rfl rfl) (am rfl rfl) (am rfl rfl) (am rfl rfl) (am rfl rfl) hs)<|
 ag (aN rfl (.inr ⟨_,rfl⟩) fun _ _ _ hs=>k48 (am rfl rfl) (am rfl rfl) (am rfl rfl) (am rfl rfl) hs)<|
 ag (aN rfl (.inr ⟨_,rfl⟩) fun _ _ _ hs=>k49 (am rfl rfl) (am rfl rfl) (am rfl rfl) hs)<|
 ag (aN rfl (.inr ⟨_,rfl⟩) fun _ _ _ hs=>k50 (am rfl rfl) (am rfl rfl) hs)<|
 ag (aN rfl (.inr ⟨_,rfl⟩) fun _ _ _ hs=>k51 hs)<|
 ag (aN rfl (.inr ⟨_,rfl⟩) fun _ _ _ hs=>k52 hs)<|
 ag (aN rfl (.inr ⟨_,rfl⟩) fun _ _ _ hs=>k53 hs)<|
 ag (aN rfl (.inr ⟨_,rfl⟩) fun _ _ _ hs=>k54 hs)<|
 ag (aN rfl (.inr ⟨_,rfl⟩) fun _ _ _ hs=>k55 hs)<|
 ag (aN rfl (.inr ⟨_,rfl⟩) fun _ _ _ hs=>k56 hs)<|
 ag (aN rfl (.inr ⟨_,rfl⟩) fun _ _ _ hs=>k57 (am rfl rfl) (am rfl rfl) hs)<|
 ag (aN rfl (.inr ⟨_,rfl⟩) fun _ _ _ hs=>k58 (am rfl rfl) (am rfl rfl) hs)<|
 ag (aN rfl (.inr ⟨_,rfl⟩) fun _ _ _ hs=>k65 hs)<|
 ag (aN rfl (.inr ⟨_,rfl⟩) fun _ _ _ hs=>k69 hs)<|
 ag (aN rfl (.inr ⟨_,rfl⟩) fun _ _ _ hs=>k70 hs)<|
 ag (aN rfl (.inr ⟨_,rfl⟩) fun _ _ _ hs=>k71 hs)<|
 ag (aN rfl (.inr ⟨_,rfl⟩) fun _ _ _ hs=>k74 (am rfl rfl) hs)<|
 ag (aN rfl (.inr ⟨_,rfl⟩) fun _ _ _ hs=>k75 (am rfl rfl) hs)<|
 ag (aN rfl (.inr ⟨_,rfl⟩) fun _ _ _ hs=>k76 (am rfl rfl) hs)<|
 ag (aN rfl (.inr ⟨_,rfl⟩) fun _ _ _ hs=>k77 (am rfl rfl) (am rfl rfl) hs)<|
 ag (aN rfl (.inr ⟨_,rfl⟩) fun _ _ _ hs=>k80 hs)<|
 ag (aN rfl (.inr ⟨_,rfl⟩) fun _ _ _ hs=>k81 hs)<|
 ag (aN rfl (.inr ⟨_,rfl⟩) fun _ _ _ hs=>k82 (am rfl rfl) hs)<|
 ag (aN rfl (.inr ⟨_,rfl⟩) fun _ _ _ hs=>k83 (am rfl rfl) hs)<|
 ag (aN rfl (.inr ⟨_,rfl⟩) fun _ _ _ hs=>k84 (am rfl rfl) hs)<|
 ag (aN rfl (.inr ⟨_,rfl⟩) fun _ _ _ hs=>k89 hs)<|
 ag (aN rfl (.inr ⟨_,rfl⟩) fun _ _ _ hs=>k90 (am rfl rfl) (am rfl rfl) hs)<|
 ag (aN rfl (.inr ⟨_,rfl⟩) fun _ _ _ hs=>k91 hs)<|
 ag (aN rfl (.inr ⟨_,rfl⟩) fun _ _ _ hs=>k92 hs)<|
 ag (aN rfl (.inr ⟨_,rfl⟩) fun _ _ _ hs=>k93 (am rfl rfl) hs)<|
 ag (aN rfl (.inr ⟨_,rfl⟩) fun _ _ _ hs=>k94 (am rfl rfl) hs)<|
 ag (aN rfl (.inr ⟨_,rfl⟩) fun _ _ _ hs=>k95 (am rfl rfl) (am rfl rfl) (am rfl rfl) hs)<|
 ag (aN rfl (.inr ⟨_,rfl⟩) fun _ _ _ hs=>k96 (am rfl rfl) (am rfl rfl) (am rfl rfl) (am rfl rfl) (am rfl rfl) (am rfl rfl) (am rfl rfl) (am rfl rfl) (am rfl rfl) (am rfl rfl) (am rfl rfl) hs)<|
 Ae
theorem Ad(h:Heap)(w:World):wz (dI dB (KOf pwT w.params) h pwT w) S02:=fun f vs σ Q hs=>by
 obtain⟨s,hm,q⟩:=rK hs;exact BP h w (f,s) hm vs σ Q q
theorem holds02:PySem.Challenge.rw_pq0296_02.Holds:=zW S02 Ad fun is hl=>⟨is,rfl,hl,fun _=>rfl,fun _=>rfl⟩
end Mine
end
set_option maxRecDepth 100000 in
theorem PySem.Challenge.cw_pq0296_02_holds : PySem.Challenge.rw_pq0296_02.Holds := by
  exact Mine.holds02
