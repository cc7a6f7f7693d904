import Derived.Test.YtaggkglfnbcjdaaGreatDoorQ05
set_option linter.all false
set_option maxRecDepth 1000000
set_option maxHeartbeats 40000000
namespace Go.Dl.Ai
end Go.Dl.Ai
namespace Go.Proofs
end Go.Proofs
namespace Ty
end Ty
open Bool renaming false->Z,true->aa
open Go renaming Exit->aV
open Nat renaming beq->au,ble->eY
open Option renaming none->ae,some->J
open Go Go.Dl Go.Dl.Ai
def CY:=@List.filterMap_cons
def BA:=@List.append_nil
def uD:=@Nat.sub_zero
def xZ:=@Option.ne_none_iff_exists'
variable {j:List (Option E)}{v:aA}{k:A->AS->Bool}{u:tP}{d:A}{l:D}{g:E}{as_l:List A}{ds:List D}{Q:Program}{o:P}{L:List P}
namespace Go.Dl.Ai
section
variable [Gh]
structure oD(σ:AS):Prop where
 W:σ.W=[]
 iz:σ.iz=0
 used:σ.used=[]
 rb:σ.rb=0
def iv:ah:=λ_=>ae
variable {q:Fm}{h f:AS}{m:bE}{p i:Nat}{t:St}
theorem Qk{a:List (Nat×Option Nat)}{c b:Nat}(d:(c,J b)∈a):b∈a.filterMap (·.2):=ak
theorem Ei:∀{j:List (Nat×Option Nat)},(j.filterMap (·.2)).Nodup->∀{c d e:Nat},(c,J e)∈j->(d,J e)∈j->c=d
 |[],_,_,_,_,h,_=>by cases h
 |(m,i)::n,f,c,d,e,a,b=>by
  cases i with
  |none=>
   simp[CY]at f;rcases bt.1 a with g|a
   cases g;rcases bt.1 b with g|b
   cases g;exact Ei f a b
  |some o=>
   simp only[CY,kQ]at f;rcases bt.1 a with g|k
   grind;rcases bt.1 b with p|l
   grind;exact Ei U k l
structure adQ(h f:AS)(p i:Nat)(m W:bE):Prop where
 ρ:∀x,x<p->W.ρ x=m.ρ x
 gu:∀b,b<i->(W.H b).isSome=aa->(m.H b).isSome=aa/\W.ν b=m.ν b
 M:W.M=m.M
 n:W.n=f.ns
 nb:W.nb=f.nb
 le:p<=f.ns
 leb:i<=f.nb
 ref:∀r e,jR f r=J e->∃e',jR h r=J e'/\e.x<f.ns/\e.val W.ρ=e'.val m.ρ
theorem NR(S:GS q Z h m (dY t iv))(bC:oD h)(ag:oD f)(a6:1<p)(bH:p<=h.ns)(bL:i<=h.nb)(hw:zD h f p i=aa):
 ∃n,adQ h f p i m n/\((∀aO∈f.G,aO.x<f.ns/\aO.y<f.ns/\(True->aO.ok n.ρ))->GS q Z f n (dY t iv)):=by
 have hz:0<p:=y;unfold zD at hw;split at hw;rename_i aP aB hx hy;simp only[aq,jC]at hw;obtain⟨w1,w2,w3,w4,w5,w6,w7⟩:=hw;have w1:=iB w1;have w2:=iB w2;have w3:=vT w3;have w4:=vT w4;have w5:=vT w5;let B:=aP.j4 aB
 let n:bE:=bE.mk f.ns f.nb (λT=>if T<p then m.ρ T else((aQ B.e T).map (λr=>r.val m.ρ)).getD 0) (λb=>if b<i then m.ν b else((aQ B.b b).map (λV=>V.bind m.ν)).getD ae) (aQ f.H) m.M
 have an:∀T,T<p->n.ρ T=m.ρ T:=ak;have aR:∀b D,aQ f.H b=J D->(b,D)∈f.H:=λb D l=>Gc l;have bM:∀b,b<i->(aQ f.H b).isSome=aa->(aQ h.H b).isSome=aa:=by
  intro b l v;obtain⟨D,a7⟩:=dM.1 v;have:∀(j:List (Nat×AB)) (B:Bs),Cs h f p i j=J B->∀b D,(b,D)∈j->b<i->(aQ h.H b).isSome=aa:=by intro j;induction j with|nil=>grind|cons r aE ih=>obtain⟨b1,bd⟩:=r;intro B F b D o L;simp only[Cs]at F;split at F;grind;grind
  exact aj
 have X:Wi h f p i m n:=⟨S.p,an,w1,w2,rfl,rfl,rfl,rfl,hz,ak⟩;obtain⟨kx,be⟩:=WQ X S.je f.T aP hx;obtain⟨ky,_,bk⟩:=VR X f.H aB hy;have kB:nC h f p i m n B:=kx.j4 ky;have F:su m n B:=by refine⟨λr G=>?_,λr G=>?_⟩;have h1:=(kB.1 r G).1;have:aQ B.e r.1=J r.2:=Gg w3 G;grind;have h1:=(kB.2 r G).1;have:aQ B.b r.1=J r.2:=Gg w4 G;grind
 have aS:∀b ao C,aQ f.H b=J (.rows ao C)->b<i->∃a2 g,aQ h.H b=J (.rows a2 g)/\C.x<f.ns/\C.val n.ρ=g.val m.ρ:=λb ao C l L=>PJ X f.H aB hy F.right b ao C U L
 have a8:∀b,i<=b->(aQ f.H b).isSome=aa->∃V,(b,V)∈B.b:=by
  intro b l v;obtain⟨D,a7⟩:=dM.1 v;have:=w7 (b,D) (aR b D a7);simp only[fA,pq]at this;rcases this with hh|⟨r,G,bl⟩
  have:=ml.mp hh;omega;have:=aK bl;grind
 have a3:∀b id,(aQ f.H b).isSome=aa->n.ν b=J id->∃u,(aQ h.H u).isSome=aa/\m.ν u=J id/\(b<i->u=b)/\(i<=b->(b,J u)∈B.b/\(u<i->(aQ f.H u).isNone=aa)):=by
  intro b id v Y;by_cases l:b<i;grind;obtain⟨V,ac⟩:=a8 b y v;have Q:=F.2 _ ac;simp only at Q;rw[Q]at Y;cases V with
  |none=>cases Y
  |some u=>obtain⟨_,_,ao,C,_,_,H⟩:=kB.2 _ ac;obtain⟨a2,g,g6,_⟩:=H;have:=w6 u (Qk ac);exact⟨u,U,ar,qM,λ_=>⟨ac,λL=>by rcases fA _ _▸this.1 with h1|h1;have:=iB h1;omega;exact ar⟩⟩
 have al:∀b,(aQ h.H b).isSome=aa->(m.H b).isSome=aa:=λb l=>by rw[S.p.vH];exact l
 refine⟨n,⟨an,ak,rfl,rfl,rfl,w1,w2,λaE g w=>?_⟩,λbm=>?_⟩;have a4:∀k d,aQ f.T k=J d->∃M,zO h f p i ((aQ h.T k).getD .any) d=J M/\su m n M:=by
  have:∀(j:List (Nat×A)) (z:Bs),L9 h f p i j=J z->su m n z->∀k d,(k,d)∈j->∃M,zO h f p i ((aQ h.T k).getD .any) d=J M/\su m n M:=by
   intro j;induction j with
   |nil=>grind
   |cons r aE ih=>
    obtain⟨k1,a1⟩:=r;intro z e l k d o;simp only[L9]at e;split at e;rename_i z1 z2 x O;cases e;rcases bt.1 o with g|o
    cases g;exact⟨z1,x,l.left⟩;exact ih z2 O l.right k d o;grind
  exact λk d hk=>this f.T aP hx F.left k d (Gc hk)
 have a9:∀(as_l I:List A) (z:Bs) (K:Nat) (d:A),rI h f p i as_l I=J z->su m n z->I[K]? =J d->∃a0 z',as_l[K]? =J a0/\zO h f p i a0 d=J z'/\su m n z':=by
  intro as_l;induction as_l with
  |nil=>intro I z K d e _ hj;cases I<;>simp[rI]at e;grind
  |cons a1 as_l ih=>
   intro I z K d e R hj;cases I with
   |nil=>grind
   |cons b1 I=>
    simp only[rI]at e;split at e;rename_i z1 z2 H g6;cases e;cases K with|zero=>simp at hj;subst hj;exact⟨a1,z1,rfl,H,R.left⟩|succ K=>simpa using ih I z2 K d g6 R.right ar
    grind
 cases aE with
 |z=>cases w;exact⟨num 0,rfl,bw hz w1,by rw[dW S.p];simp[E.val,num,an 0 hz,S.p.z]⟩
 |s k=>
  simp only[jR]at w;split at w;rename_i d ha;obtain⟨M,x,O⟩:=a4 k d ha;obtain⟨C,t1,t2,t3⟩:=IX X aS x O w;refine⟨C,?_,t2,t3⟩;show(match aQ h.T k with|some d=>qA h d|none=>ae)=J C;cases P:aQ h.T k with
  |none=>rw[P]at t1;cases t1
  |some z=>grind
  grind
 |c k K=>
  simp only[jR]at w;split at w;rename_i b j0 ha;split at w;rename_i aI l;split at w;rename_i d a5;obtain⟨M,x,O⟩:=a4 k _ ha;have W:(aQ h.T k)=J (.ptr b j0)/\b<i:=by cases P:aQ h.T k with|none=>rw[P]at x;simp[zO]at x|some z=>rw[P]at x;cases z<;>simp[zO]at x;simp;omega
  obtain⟨W,L⟩:=W;have bn:∃ad z,aQ h.H b=J (.row ad)/\rI h f p i ad aI=J z/\su m n z:=by
   have:∀(j:List (Nat×AB)) (z:Bs),Cs h f p i j=J z->su m n z->(b,AB.row aI)∈j->∃ad z,aQ h.H b=J (.row ad)/\rI h f p i ad aI=J z/\su m n z:=by
    intro j;induction j with
    |nil=>grind
    |cons r aE ih=>
     obtain⟨b1,bd⟩:=r;intro z e R o;simp only[Cs]at e;split at e;rename_i z2 H;split at e;cases e;rcases bt.1 o with g|o
     cases g;omega;exact ih _ H R o;split at e;rename_i c0 c1 P;split at e;rename_i z3 g6;cases e;rcases bt.1 o with g|o
     cases g;exact⟨c0,z3,P,g6,R.left⟩;exact ih _ H R.right o;cases e;split at e;split at e;cases e;rcases bt.1 o with g|o
     cases g;exact ih _ H R.right o;cases e;cases e;split at e;cases e;rcases bt.1 o with g|o
     cases g;exact ih _ H R o;cases e;cases e;cases e
   exact this f.H aB hy F.right (aR _ _ l)
  obtain⟨ad,z,q1,q2,q3⟩:=bn;obtain⟨a0,z',q4,q5,q6⟩:=a9 ad aI z K d q2 q3 a5;obtain⟨C,t1,t2,t3⟩:=IX X aS q5 q6 w;refine⟨C,?_,t2,t3⟩;simp only[jR,W,q1,q4];exact t1;grind;grind;grind
 |a k K=>
  simp only[jR]at w;split at w;rename_i I ha;split at w;rename_i d a5;obtain⟨M,x,O⟩:=a4 k _ ha;have W:∃as_l,aQ h.T k=J (.agg as_l)/\rI h f p i as_l I=J M:=by cases P:aQ h.T k with|none=>rw[P]at x;simp[zO]at x|some z=>rw[P]at x;cases z<;>simp[zO]at x;exact⟨_,rfl,x⟩
  obtain⟨as_l,W,q2⟩:=W;obtain⟨a0,z',q4,q5,q6⟩:=a9 as_l I M K d q2 O a5;obtain⟨C,t1,t2,t3⟩:=IX X aS q5 q6 w;refine⟨C,?_,t2,t3⟩;simp only[jR,W,q4];exact t1;cases w;cases w
 have N:=S.m;refine⟨⟨rfl,rfl,rfl,by rw[an 0 hz,an 1 a6];exact S.p.gz,bw a6 w1,bm⟩,λk d hk=>be F.left k d (Gc hk),?_⟩;refine⟨N.m,N.dj,λb D l=>?_,λb id v Y=>⟨λ_=>rfl,λha=>by simp[kP,ag.W,iw]at ha⟩,λb b' id v ax Y bo=>?_,λb id v Y=>?_,N.frame,λnm bu=>by rw[ag.iz]at bu;omega,?_,N.base,λb id v L=>by rw[ag.rb]at L;omega,N.fr,by rw[ag.rb];omega,λb l=>by rw[ag.W]at l;cases l⟩;by_cases L:b<i;exact⟨bw L w2,bk F.right b D (aR _ _ l) L (X.ν b L (by rw[l];rfl)).2 λbA h0=>(N.heap b bA h0).2⟩;obtain⟨V,ac⟩:=a8 b y (by rw[l];rfl);obtain⟨x,O,ao,C,g3,g4,H⟩:=kB.2 _ ac;simp only at O g3;rw[l]at g3;cases g3;refine⟨O,g4,?_⟩;have Q:=F.2 _ ac;simp only at Q;cases V with|none=>simp only[U8]at Q;rw[Q];exact⟨H.2 F,H.1⟩|some u=>simp only[A6]at Q;obtain⟨a2,g,g6,g7,g8⟩:=H;obtain⟨_,f0,f1⟩:=N.heap u _ g6;rw[Q,g8 F f0];cases bb:m.ν u with|none=>rw[bb]at f1;exact⟨f1.1,f1.2.lm g7⟩|some id=>rw[bb]at f1;obtain⟨bB,es,f2,f3,f4⟩:=f1;exact⟨bB,es,by rw[<-CT.rV g7];exact f2,f3,f4.lm g7⟩
 obtain⟨u,o1,o2,o3,o4⟩:=a3 b id v Y;obtain⟨b1,p1,p2,p3,p4⟩:=a3 b' id ax bo;have g:=N.inj u b1 id (al _ o1) (al _ p1) o2 p2;subst g;by_cases l:b<i;by_cases ay:b'<i;rw[<-o3 l,<-p3 ay];have:=(p4 y).2 (by rw[o3 l];exact l);rw[o3 l]at this;have v:(aQ f.H b).isSome=aa:=v;cases G:aQ f.H b with
 |none=>rw[G]at v;cases v
 |some z=>rw[G]at this;cases this
 by_cases ay:b'<i;have:=(o4 y).2 (by rw[p3 ay];exact ay);rw[p3 ay]at this;have ax:(aQ f.H b').isSome=aa:=ax;cases G:aQ f.H b' with
 |none=>rw[G]at ax;cases ax
 |some z=>rw[G]at this;cases this
 exact Ei w5 (o4 y).1 (p4 y).1;obtain⟨u,o1,o2,_,_⟩:=a3 b id v Y;exact N.own u id (al _ o1) o2;rw[ag.iz];have:=N.room;omega;grind
end
section
variable [Gh]
variable {q:Fm}{e r:AS}{h:bE}{f:St}{t:cR}{w:Nat->List A->AS->(A->AS->Bool)->Bool}
def HC(c:cR)(d:Nat->List A->AS->(A->AS->Bool)->Bool):Prop:=∀(q:Fm) (a:Nat) (as_l:List A) (ds:List D) (e:AS) (h:bE) (k:A->AS->Bool) (f:St) (b:ah),d a as_l e k=aa->GS q Z e h (dY f b)->cd h as_l ds->c a ds f.O f.nx (jk q Z k h f b)
theorem GS.ako{c:Bool}{a:C}(d:GS q c e h a):GS q (!c) e h {a with X:=a.Y,Y:=a.X}:=by
 have m:=d.m;have g:zH a.Y a.X:=λid f=>by cases l:a.X id with|none=>rfl|some k=>rw[m.dj id U]at f;cases f
 have n:∀b,kP e (!c) b= !(kP e c b):=λb=>by simp[kP];grind
 exact⟨d.p,d.je,⟨λid=>by rw[m.m,Fu m.dj],g,m.heap,λb id i j=>by obtain⟨o,r⟩:=m.yn b id i j;grind,m.inj,m.own,m.frame,m.free,m.room,m.base,m.ss,m.fr,m.rb,m.wB⟩⟩
abbrev Qw(d:Fm)(e:Bool)(f:AS->Bool)(g:bE)(s0:St)(a:St)(h:ah):Prop:=∃b c,f b=aa/\GS d e b c (dY a h)/\cM g c/\a.bs=s0.bs
def Ln(F:mu t)(G:HC t w){i:Bool}{n:ah}{k:AS->Bool}(u:GS q i e h (dY f n))(b:(match v.guard with
 |none=>cP w i v.op e λd c=>k (c.put v.dst d)
 |some (j,A)=>match gP e (.t j) with
  |.yY=>k (e.put v.dst .yY)
  |d=>let D:=dS d e
   branch D.1 D.2 λm c=>let x:AS:={c with T:=(j,.bc m)::c.T}
    if m==A then cP w i v.op x λd c=>k (c.put v.dst d)
    else k (x.put v.dst .yY))=aa):d9 t v f λH=>Qw q i k h f H n:=by
 have aM:∀{e:AS} {o:bE},cM h o->GS q i e o (dY f n)->cP w i v.op e (λd c=>k (c.put v.dst d))=aa->
  aN t v.op f λl I K=>Qw q i k h f {f with T:=eE f.T v.dst l,O:=I,nx:=K} n:=by intro e o y p b;refine Up F v.op f (λl X Y L=>?_) (aaV p (λM N as_l ds x P Q r R=>by subst M;exact G q N as_l ds x P _ f n Q r R) b);obtain⟨d,c,S,p,r,z,U⟩:=L;exact⟨_,S,p,r.put U v.dst,y.trans z,rfl⟩
 unfold d9;split at b;rename_i C;rw[C];exact aM (cM.refl h) u b;rename_i j A C;rw[C];have s:=eL u rfl (.t j);split at b;rename_i V;rw[V]at s;have s:f.T j=.p (.v undef):=s;simp only[s];exact⟨_,h,b,u.put (a:=.yY) rfl v.dst,cM.refl h,rfl⟩;obtain⟨o,p,y,W⟩:=is u s;obtain⟨m,c,g,b,r⟩:=ve p W b;have g:f.T j=.p (B m):=g;have z:=r.XV (a:=.bc m) g;simp only[g];dsimp only at b;cases E:(m==A) with|true=>rw[E]at b;exact aM y z b|false=>rw[E]at b;exact⟨_,o,b,z.put (a:=.yY) rfl v.dst,y,rfl⟩
theorem K1{a:Bool}{c:List aA}{f:AS->Bool}(k:pR w a (v::c) e f=aa):(v.fc&& !a)=Z/\(match v.guard with
 |none=>cP w v.fc v.op e λd b=>pR w a c (b.put v.dst d) f
 |some (g,l)=>match gP e (.t g) with
  |.yY=>pR w a c (e.put v.dst .yY) f
  |d=>let h:=dS d e
   branch h.1 h.2 λi b=>let j:AS:={b with T:=(g,.bc i)::b.T}
    if i==l then cP w v.fc v.op j λd b=>pR w a c (b.put v.dst d) f
    else pR w a c (j.put v.dst .yY) f)=aa:=by
 simp only[pR]at k;grind
def PD(b:mu t)(m:HC t w){c:AS->Bool}:∀(n:List aA) (e:AS) (h:bE) (f:St),pR w Z n e c=aa->GS q Z e h (dY f iv)->eN t n f λd=>Qw q Z c h f d iv
 |[],e,h,f,a,g=>⟨e,h,a,g,cM.refl h,rfl⟩
 |v::i,e,h,f,a,g=>by
  obtain⟨o,a⟩:=K1 a;have p:=by simpa using o
  rw[p]at a;refine rJ b (λd j=>?_) (Ln (k:=λl=>pR w Z i l c) b m g a);obtain⟨l,r,s,u,x,E⟩:=j;refine DU b i (λF j=>?_) (PD b m i l r d s u);obtain⟨z,A,B,C,D,G⟩:=j;exact⟨z,A,B,C,x.trans D,y⟩
def F5(a:mu t)(j:HC t w){l:AS->Bool}:∀(B:List aA) (e:AS) (h:bE) (f:St) (F:ah),pR w aa B e l=aa->GS q Z e h (dY f F)->fS t B f F λg D=>Qw q Z l h f g D
 |[],e,h,f,F,b,m=>⟨e,h,b,m,cM.refl h,rfl⟩
 |v::i,e,h,f,F,b,m=>by
  obtain⟨M,b⟩:=K1 b;simp[fS];cases C:v.fc with
  |false=>rw[C]at b;simp;refine rJ a (λg c=>?_) (Ln (k:=λd=>pR w aa i d l) a j m b);obtain⟨d,n,o,p,r,E⟩:=c;refine rK a i (λG H c=>?_) (F5 a j i d n g F o p);obtain⟨s,u,x,z,A,I⟩:=c;exact⟨s,u,x,z,r.trans A,y⟩
  |true=>rw[C]at b;simp;have K:=m.ako;refine rJ a (λg c=>?_) (Ln (k:=λd=>pR w aa i d l) a j K b);obtain⟨d,n,o,p,r,E⟩:=c;have L:=p.ako;refine rK a i (λG H c=>?_) (F5 a j i d n {g with O:=f.O} g.O o L);obtain⟨s,u,x,z,A,I⟩:=c;exact⟨s,u,x,z,r.trans A,U⟩
theorem GS.enter(b:GS q Z e h (dY f iv))(B:oD e)(k:Nat)(r:Nat->Nat)(c:List Nat)(s:∀a∈c,a<e.nb):
 ∃l,GS q Z {e with iz:=k,used:=[],rb:=e.nb,W:=c} h (dY {f with bs:=f.nx,nx:=f.nx+k,gm:=r,O:=aX l f.O} (only l f.O)):=by
 have m:=b.m;have t:∀id,h.M id=f.O id:=λid=>by rw[m.m];show bp f.O iv id=_;simp only[bp];cases f.O id<;>rfl
 refine⟨c.filterMap (λa=>if(h.H a).isSome then h.ν a else ae),⟨⟨b.p.vn,b.p.vb,b.p.vH,b.p.gz,b.p.pS,b.p.facts⟩,b.je,?_⟩⟩;refine⟨λid=>by rw[t];show _=bp (aX _ _) (only _ _) id;rw[nU],Dj _ _,m.heap,λa id g i=>⟨λd=>?_,λd=>?_⟩,m.inj,m.own,m.frame,λnm C _=>m.fr _ (by show f.nx<=f.nx+nm;omega),i0,?_,λa id g D i=>?_,λid u=>m.fr id (gJ (Nat.le_add_right _ _) u),aw,s⟩;have n:a∉c:=λj=>by simp only[kP]at d;rw[zK.2 j]at d;grind
 show only (c.filterMap (λa=>if(h.H a).isSome then h.ν a else ae)) f.O id=ae;simp only[only];rw[ap];intro j;obtain⟨v,w,o⟩:=qT.1 j;split at o;rename_i x;exact n (m.inj a v id g x i o▸w);grind;have n:a∈c:=by simp only[kP]at d;cases y:iw c a with|true=>exact zK.1 y|false=>grind
 show aX (c.filterMap (λa=>if(h.H a).isSome then h.ν a else ae)) f.O id=ae;simp only[aX];grind;have:=m.base;have:=m.room;show q.n0<=f.nx;have E:(dY f iv).bs=f.bs:=rfl;have F:(dY f iv).nx=f.nx:=rfl;omega;have z:=(m.own a id g i).1;show id<f.nx;refine iP λA=>z (m.fr id A)
theorem GS.XP{F:ah}(a:GS q Z e h (dY f F)):GS q Z {e with iz:=0,used:=[],rb:=0,W:=[]} h (dY {f with O:=bp f.O F} iv):=by
 have m:=a.m;refine⟨⟨a.p.vn,a.p.vb,a.p.vH,a.p.gz,a.p.pS,a.p.facts⟩,a.je,?_⟩;refine⟨λid=>?_,aj,m.heap,λc id d g=>⟨aj,λb=>by simp[kP,iw]at b⟩,m.inj,m.own,m.frame,ak,?_,m.base,ak,m.fr,aw,ak⟩;rw[m.m];show bp f.O F id=bp (bp f.O F) iv id;simp[bp];cases f.O id with|some k=>rfl|none=>cases F id<;>rfl
 have:=m.room;show f.bs+0<=f.nx;have i:(dY f F).bs=f.bs:=rfl;have j:(dY f F).nx=f.nx:=rfl;omega
theorem aaA(b:GS q Z e h (dY f iv))(i:List aA):∀a∈Rd e i,a<e.nb:=by
 intro a m;obtain⟨l,_,j⟩:=qT.1 m;split at j;have o:∀k,(match aQ e.T (Uo i 20 k) with|some (.ptr a _)=>J a|some (.own a)=>J a|some (.rp a _)=>J a|some (.mp a)=>J a|_=>ae)=J a->a<e.nb:=by intro k d;split at d;rename_i g n c;cases d;have:=(b.je _ _ c).1;rwa [b.p.vb]at this;rename_i g c;cases d;have:=(b.je _ _ c).1;rwa [b.p.vb]at this;rename_i g n c;cases d;have:=(b.je _ _ c).1;rwa [b.p.vb]at this;rename_i g c;cases d;have:=(b.je _ _ c).1;rwa [b.p.vb]at this;cases d
 split at j;exact i0;exact i0;exact i0;exact i0;exact i0;exact i0;exact i0;grind;grind
abbrev Aw(c:Fm)(d:aV->AS->Bool)(e:bE)(f:aV)(g:St):Prop:=∃a b,d f a=aa/\oD a/\GS c Z a b (dY g iv)/\cM e b
theorem I0(g:Ik u e=J r):oD r/\∃h i,r.G=Gs.zj (h++i) e.G/\Dm r u.facts=J h/\vv r e u.top u.acc=J i:=by
 unfold Ik at g;dsimp only at g;split at g;rename_i h i o p;cases g;refine⟨aj,h,i,rfl,?_,?_⟩;have k:∀(d a:AS),d.T=a.T->d.H=a.H->∀b,jR d b=jR a b:=by intro d a c f b;cases b<;>simp only[jR,c,f,qA]
 have:∀(d a:AS),d.T=a.T->d.H=a.H->∀j,Dm d j=Dm a j:=by intro d a c f j;induction j with|nil=>rfl|cons l b ih=>obtain⟨m,n,q⟩:=l;simp only[Dm,ih,k d a c f]
 grind;have k:∀(d a:AS),d.T=a.T->d.H=a.H->∀b,jR d b=jR a b:=by intro d a c f b;cases b<;>simp only[jR,c,f,qA]
 have:∀(d a:AS),d.T=a.T->d.H=a.H->∀j,vv d e u.top j=vv a e u.top j:=by intro d a c f j;induction j with|nil=>rfl|cons l b ih=>obtain⟨m,n⟩:=l;simp only[vv,ih,k d a c f]
 grind;grind
def CZ(e:AS)(c:bE)(f:List (uV×Int))(d:uV×Int->Int)(g:Int):Prop:=∀a∈f,0<=a.2/\∃b,jR e a.1=J b/\b.val c.ρ<=d (a.1,a.2)-a.2*g/\d (a.1,0)<=b.val c.ρ
def tO(b:AS)(c:bE)(d:Int)(a:uV×Int):Int:=(match jR b a.1 with|some e=>e.val c.ρ|none=>0)+a.2*d
variable {m p:Nat}{i:bE}
theorem Ju{f:Fm}{i:Bool}{j:C}(c:GS f i e h j)(b:gX h d l)(a:qA e d=J g):g.x<h.n:=by
 cases d<;>simp[qA]at a<;>try (cases a;done)
 cases a;exact b.1;cases a;exact b.1;cases a;exact b.1;cases a;exact c.p.n0;split at a;rename_i m n o k;cases a;exact(c.m.heap _ _ k).2.1;grind;cases a;exact b.1
theorem agC{p:Fm}{q:Bool}{c:C}(i:GS p q e h c){m:uV}(b:jR e m=J g):g.x<h.n:=by
 cases m with
 |z=>cases b;exact i.p.n0
 |s k=>simp[jR]at b;split at b;rename_i d j;exact Ju i (i.je k d j) b;grind|c k n=>simp[jR]at b;split at b;split at b;rename_i v r;split at b;rename_i d j;obtain⟨_,id,f,w,m,_,_,_,t⟩:=i.m.heap _ _ r;obtain⟨l,_,o⟩:=cd.get ar n d j;exact Ju i o b;grind;grind;grind
 |a k n=>simp[jR]at b;split at b;rename_i as_l j;split at b;rename_i d u;obtain⟨x,_,t⟩:=i.je k _ j;obtain⟨l,_,o⟩:=cd.get ar n d u;exact Ju i o b;grind;grind
theorem Le(f:adQ e r m p h i)(W:GP e h):∀{j:List (uV×uV×Int)} {b:List F},Dm r j=J b->tk e j=aa->fx r.ns i.ρ b True
 |[],b,a,_=>by cases a;exact fx.nil
 |(d,k,z)::A,b,a,c=>by
  simp[Dm]at a;split at a;rename_i l n B o q s;cases a;simp[tk]at c;obtain⟨C,t,u,D⟩:=f.ref d l o;obtain⟨E,v,w,G⟩:=f.ref k n q;rw[t,v]at c;simp[aq]at c;have x:=dP W.hf c.1;intro y g;rcases bt.1 g with rfl|g
  refine⟨u,w,λ_=>nM ?_⟩;rw[ju]at x⊢;omega;exact Le f W s U y g;grind
theorem PN{f:AS}{h:bE}{k m:Int}(n:0<=m):∀{j:List (uV×Int)} {e:List F},vv r f k j=J e->CZ r i j (tO f h k) m->(∀d a,jR r d=J a->a.x<r.ns)->(∀d a,jR f d=J a->a.x<r.ns/\a.val i.ρ=a.val h.ρ)->fx r.ns i.ρ e True
 |[],e,b,_,_,_=>by cases b;exact fx.nil
 |(d,l)::j,e,b,v,w,o=>by
  simp[vv]at b;split at b;rename_i a x C y p z;cases b;intro A c;obtain⟨q,D,g,s,t⟩:=v (d,l) Y;simp at q g s t;rw[y]at g;cases g;obtain⟨u,B⟩:=o d x p;have:=ug q n;simp[tO,p]at s t;rcases bt.1 c with rfl|c
  refine⟨u,i0,λ_=>nM ?_⟩;omega;rcases bt.1 c with rfl|c
  refine⟨i0,u,λ_=>nM ?_⟩;rw[ju,B];omega;exact PN n z aj w o A c;grind
theorem SU{g:Int}:∀{j:List (uV×Int)},Q3 e j=aa->CZ e h j (tO e h g) g
 |[],_=>λi a=>by cases a
 |(d,l)::j,b=>by
  simp[Q3,aq]at b;intro i a;rcases bt.1 a with rfl|a
  have c:=b.1;split at c;rename_i k f;simp[dJ]at c;exact⟨c,k,f,by simp only[tO,f];omega,by simp only[tO,f];omega⟩;grind;exact SU b.2 i a
theorem V7(hJ:mu t){v:av}{ra:AS->(aV->AS->Bool)->Bool}(aR:∀(a:AS) (b:bE) (M:aV->AS->Bool) (H:St),ra a M=aa->oD a->GS q Z a b (dY H iv)->cH t v H λg f=>Aw q M b g f){ad:AS->Bool}{N:Nat}{a:AS}{b:bE}{M:aV->AS->Bool}{H:St}(aS:∀(a:AS) (b:bE) (H:St),ad a=aa->oD a->GS q Z a b (dY H iv)->∃l:Nat->St->Prop,l N H/\∀e f,l e f->cH t v f λg w=>match g with|.normal=>∃m,m<e/\l m w|g=>Aw q M b g w)(C:J8 ra u ad a M=aa)(hc:oD a)(I:GS q Z a b (dY H iv)):
 ∃l:Nat->St->Prop,l (u.top.toNat+1+N) H/\∀e f,l e f->cH t v f λg w=>match g with|.normal=>∃m,m<e/\l m w|g=>Aw q M b g w:=by
 unfold J8 at C;split at C;rename_i r hI;obtain⟨ag,fs,gs,eG,a0,a3⟩:=I0 hI;split at C;rename_i x0 y0 O P bm bn rx ry;simp only[aq]at C;obtain⟨hw,hf,al,bo,C⟩:=C;have an:=I.p.vn;have ao:=I.p.vb;have a4:=I.p.pS;have bs:=I.p.pos;have step:∀{D:AS} {T:bE} {f:St} {x:Int},GS q Z D T (dY f iv)->oD D->cM b T->zD D r a.ns a.nb=aa->tk D u.facts=aa->0<=x->CZ D T u.acc (tO a b u.top) x->
  ∃i,GS q Z r i (dY f iv)/\cM b i/\CZ r i u.acc (tO a b u.top) x/\adQ D r a.ns a.nb T i:=by
  intro D T f x V a5 S hw hf hr hA;have n1:a.ns<=D.ns:=by have:=S.n;rw[an,V.p.vn]at this;exact y
  have n2:a.nb<=D.nb:=by have:=S.nb;rw[ao,V.p.vb]at this;exact y
  obtain⟨i,k,a6⟩:=NR V a5 ag y n1 n2 hw;have ab:cM b i:=by refine⟨by rw[an,k.n];exact k.le,by rw[ao,k.nb];exact k.leb,λh B=>by rw[k.ρ h y];exact S.ρ h B,λax hb p=>?_⟩;obtain⟨X,q2⟩:=k.gu ax y p;obtain⟨Y,q4,q5⟩:=S.gu ax hb X;exact⟨Y,U,λid bu=>by rw[k.M];exact U⟩
  have ay:CZ r i u.acc (tO a b u.top) x:=by
   intro c z;obtain⟨hd,h,e1,aB,aE⟩:=hA c z;have:∃z',jR r c.1=J z':=by
    have:∀(j:List (uV×Int)) (aI:List F),vv r a u.top j=J aI->∀c∈j,∃z',jR r c.1=J z':=by intro j;induction j with|nil=>grind|cons d j ih=>obtain⟨a1,a2⟩:=d;intro aI S c z;simp only[vv]at S;grind
    exact aj
   obtain⟨z',e2⟩:=this;obtain⟨z2,e3,_,e4⟩:=k.ref c.1 z' e2;rw[e1]at e3;cases e3;exact U
  refine⟨i,a6 ?_,ab,ay,k⟩;have bA:0<r.ns:=bw y k.le;have bB:i.ρ 0=0:=by rw[k.ρ 0 y];exact V.p.z
  rw[eG];have bC:=(fx.append (Le k V.p a0 hf) (PN hr a3 ay (λd h B=>(k.ref d h B).choose_spec.2.1) (λd h B=>by have:h.x<b.n:=agC I B;exact⟨bw y k.le,E.jM ab y⟩)))
  intro a7 hm;rcases Gs.tH hm with hm|hm
  exact aj;obtain⟨X,q2,Y⟩:=I.p.facts a7 hm;refine⟨bw X k.le,bw q2 k.le,λ_=>?_⟩;have:=Y trivial;unfold F.ok at this⊢;rw[ab.ρ _ y,ab.ρ _ y];exact y
 have bH:x0.val b.ρ-y0.val b.ρ+u.rc<=u.top/\0<=u.top:=by split at al;rename_i o W;simp only[aq,dJ]at al;have:=yC I.p.hf W;unfold E.val;omega;grind
 obtain⟨W0,i1,i2,i3,i4⟩:=step I hc (cM.refl b) hw hf y (SU ar);have bL:∀x g,jR r x=J g->g.x<r.ns:=λx g he=>(i4.ref x g he).choose_spec.2.1;refine⟨λm f=>(∃e i,m=e+1+N/\GS q Z r i (dY f iv)/\cM b i/\CZ r i u.acc (tO a b u.top) (e:Int)/\O.val i.ρ-P.val i.ρ+u.rc<=e)\/
  (m<=N/\∃l:Nat->St->Prop,l m f/\∀e f,l e f->cH t v f λg w=>match g with|.normal=>∃m,m<e/\l m w|g=>Aw q M b g w),?_,?_⟩
 refine .inl ⟨u.top.toNat,W0,rfl,i1,i2,ak,?_⟩;obtain⟨x',e1,_,v1⟩:=i4.ref _ O rx;obtain⟨y',e2,_,v2⟩:=i4.ref _ P ry;grind
 .rintro m f (⟨e,i,rfl,K,Q,h3,h4⟩|⟨hm,l,hR,ac⟩)
  rotate_left
  refine gw hJ v (λg w p=>?_) (ac m f hR);cases g with
  |normal=>obtain⟨m',a8,a9⟩:=p;exact⟨m',a8,.inr ⟨y,l,a9,ac⟩⟩
  |_=>exact p
  refine gw hJ v (λg w p=>?_) (aR r i _ f C ag K);obtain⟨G,n,s,R,A,L⟩:=p;cases g with
  |normal=>
   simp only[fA]at s⊢;rcases s with s|s
   rotate_left
   obtain⟨l,hR,ac⟩:=aS G n w s R A;refine⟨N,y,.inr ⟨y,l,hR,λe f hn=>gw hJ v (λg w p=>?_) (ac e f hn)⟩⟩;cases g with|normal=>exact p|_=>obtain⟨bb,V2,X,q2,Y,q4⟩:=p;exact⟨bb,V2,X,q2,Y,(Q.trans L).trans q4⟩
   split at s;rename_i x' y' bM bO;simp only[aq]at s;obtain⟨w1,w2,⟨w3,w4⟩,w5⟩:=s;have gv:∀(x:uV) (g:E),jR r x=J g->g.val n.ρ=g.val i.ρ:=λx g he=>E.jM L (by rw[K.p.vn];exact i0);have ex:O.val n.ρ=O.val i.ρ:=aj;have ey:P.val n.ρ=P.val i.ρ:=aj;have a4:1<=O.val i.ρ-P.val i.ρ+u.rc:=by split at w5;rename_i o W;simp only[dJ]at w5;have:=yC A.p.hf W;rw[<-ex,<-ey];unfold E.val;omega;cases w5
   have bR:x'.val n.ρ-y'.val n.ρ+u.rc<=O.val i.ρ-P.val i.ρ+u.rc-1:=by split at w4;rename_i o c W z;simp only[dJ]at w4;have b1:=yC A.p.hf W;have b2:=yC A.p.hf z;rw[<-ex,<-ey];unfold E.val;omega;cases w4
   have bd:1<=e:=y;have be:CZ G n u.acc (tO a b u.top) ((e-1:Nat):Int):=by
    have bk:∀(j:List (uV×Int)),JZ G r j=aa->(∀c∈j,0<=c.2/\∃h,jR r c.1=J h/\h.val i.ρ<=tO a b u.top (c.1,c.2)-c.2*(e:Int)/\tO a b u.top (c.1,0)<=h.val i.ρ)->∀c∈j,0<=c.2/\∃h,jR G c.1=J h/\h.val n.ρ<=tO a b u.top (c.1,c.2)-c.2*((e-1:Nat):Int)/\tO a b u.top (c.1,0)<=h.val n.ρ:=by
     intro j;induction j with
     |nil=>intro _ _ c z;cases z
     |cons d j ih=>
      obtain⟨a1,v⟩:=d;intro p hA c z;simp only[JZ,aq]at p;rcases bt.1 z with rfl|z
      obtain⟨hd,h,B,aB,aE⟩:=hA (a1,v) ja;simp only at hd B aB aE;have K:=p.1;split at K;rename_i z1 z2 bl aO;rw[B]at aO;cases aO;simp only[aq]at K;have h5:=dP A.p.hf K.1;have h6:=dP A.p.hf K.2;rw[ju,gv _ h B]at h5;rw[gv _ h B]at h6;refine⟨hd,z1,bl,?_,by show tO a b u.top (a1,0)<=_;omega⟩;have e1:v*((e-1:Nat):Int)=v*(e:Int)-v:=by rw[Int.ofNat_sub bd,Int.mul_sub];simp
      simp only;rw[e1];omega;cases K;exact ih p.2 (λc z=>hA c (jz _ z)) c z
    exact bk u.acc w3 h3
   obtain⟨W2,k1,k2,k3,k4⟩:=step A R (Q.trans L) w1 w2 y be;refine⟨e-1+1+N,y,.inl ⟨e-1,W2,rfl,k1,k2,k3,?_⟩⟩;obtain⟨x2,e1,_,v1⟩:=k4.ref _ O rx;obtain⟨y2,e2,_,v2⟩:=k4.ref _ P ry;grind;grind
  |exit aP=>exact⟨G,n,s,R,A,Q.trans L⟩|goto aP=>exact⟨G,n,s,R,A,Q.trans L⟩|ret=>exact⟨G,n,s,R,A,Q.trans L⟩|panic aP=>exact⟨G,n,s,R,A,Q.trans L⟩|outgrown=>exact⟨G,n,s,R,A,Q.trans L⟩
 cases C;cases C
def Jn(a:tP):List tP->Nat|[]=>a.top.toNat+1|b::c=>a.top.toNat+1+Jn b c
def Lr(j:mu t){o:av}{p:AS->(aV->AS->Bool)->Bool}(k:∀(e:AS) (h:bE) (a:aV->AS->Bool) (f:St),p e a=aa->oD e->GS q Z e h (dY f iv)->cH t o f λg i=>Aw q a h g i){a:aV->AS->Bool}:∀(r:List tP) (u:tP) (e:AS) (h:bE) (f:St),E2 p u r e a=aa->oD e->GS q Z e h (dY f iv)->
 ∃l:Nat->St->Prop,l (Jn u r) f/\∀s i,l s i->cH t o i λg v=>match g with|.normal=>∃w,w<s/\l w v|g=>Aw q a h g v
 |[],u,e,h,f,m,c,d=>V7 (N:=0) j k (λ_ _ _ n=>by cases n) m c d|b::x,u,e,h,f,m,c,d=>V7 j k (λe h f n c d=>Lr j k x b e h f n c d) m c d
theorem aiS{c l d:AS}{e p:bE}{z r:St}(f:GS q Z c e (dY z iv))(A:Ik u c=J l)(B:u.acc=[])(h:GS q Z d p (dY r iv))(C:oD d)(j:cM e p)(D:zD d l c.ns c.nb=aa)(E:tk d u.facts=aa):
 ∃i,GS q Z l i (dY r iv)/\cM e i:=by
 obtain⟨G,S,H,I,K,b⟩:=I0 A;rw[B]at b;have b:H=[]:=by simp only[vv]at b;injection b with g;exact U
 subst b;have s:=f.p.vn;have t:=f.p.vb;have L:=by have:=j.n;rw[s,h.p.vn]at this;exact y
 have M:=by have:=j.nb;rw[t,h.p.vb]at this;exact y
 obtain⟨i,a,N⟩:=NR h C G f.p.pS L M D;have m:cM e i:=by refine⟨by rw[s,a.n];exact a.le,by rw[t,a.nb];exact a.leb,λv O=>by rw[a.ρ v y];exact j.ρ v O,λw P Q=>?_⟩;obtain⟨n,x⟩:=a.gu w y Q;obtain⟨o,T,V⟩:=j.gu w P n;exact⟨o,U,λid W=>by rw[a.M];exact U⟩
 refine⟨i,N ?_,m⟩;rw[I,BA];have X:=Le a h.p K E;intro R k;rcases Gs.tH k with k|k
 exact aj;obtain⟨n,x,o⟩:=f.p.facts R k;refine⟨bw n a.le,bw x a.le,λ_=>?_⟩;have:=o trivial;unfold F.ok at this⊢;rw[m.ρ _ y,m.ρ _ y];omega
def P6{l:Fm}{m:C}{d:E}{o:AS->Bool}:∀(f:List Int) (e:AS) (h:bE),MF d f e o=aa->oD e->GS l Z e h m->d.x<h.n->∃g,o g=aa/\oD g/\GS l Z g h m
 |[],e,h,c,a,b,_=>⟨e,c,a,b⟩
 |n::f,e,h,c,a,b,i=>by
  simp[MF,aq]at c;have p:(0:Nat)<e.ns:=by rw[<-b.p.vn];exact y
  rcases(by omega:n<d.val h.ρ\/d.val h.ρ<=n)with q|q
  rotate_left
  obtain⟨j,k⟩:=OR b (fx.le (by rw[<-b.p.vn];exact i) p (λ_=>by rw[dW b.p];exact q)) c.1;exact⟨_,j,⟨a.W,a.iz,a.used,a.rb⟩,k⟩;obtain⟨j,k⟩:=OR b (fx.le p (by rw[<-b.p.vn];exact i) (λ_=>by rw[dW b.p];omega)) c.2;exact P6 f _ h j ⟨a.W,a.iz,a.used,a.rb⟩ k i
theorem DM{j:Fm}{k:C}{m:Nat}{n:AS->Bool}:∀(t:List (Nat×List Int)) (e:AS) (h:bE),E0 m t e n=aa->oD e->GS j Z e h k->∃f p,n f=aa/\oD f/\GS j Z f p k/\cM h p
 |[],e,h,b,c,d=>⟨e,h,b,c,d,cM.refl h⟩
 |(g,u)::i,e,h,b,c,d=>by
  simp[E0]at b;split at b;rename_i as_l v;split at b;rename_i kd w x y;obtain⟨S,W,z⟩:=d.je m _ v;obtain⟨l,A,B⟩:=cd.get ar g _ y;obtain⟨o,rfl,D⟩:=B;obtain⟨q,E,r,s⟩:=mV d D;have F:=E.XV (a:=.agg (as_l.set g (intro (.int kd w x) e).1)) (by have:=cd.set s g A (z.grow r);exact aj)
  have G:=by have:=s.1;simpa[intro]using this
  obtain⟨H,I,K,L⟩:=P6 u _ q b ⟨c.W,c.iz,c.used,c.rb⟩ F G;obtain⟨M,N,O,P,Q,R⟩:=DM i H q I K L;exact⟨M,N,O,P,Q,r.trans R⟩;exact DM i e h b c d;exact DM i e h b c d
theorem rO(j:mu t)(p:HC t w):∀(V:AC) (e:AS) (h:bE) (k:aV->AS->Bool) (f:St),run w V e k=aa->oD e->GS q Z e h (dY f iv)->cH t V.jf f λg m=>Aw q k h g m
 |.skip,e,h,k,f,a,c,b=>⟨f,aj,e,h,a,c,b,cM.refl h⟩|.ret I,e,h,k,f,a,c,b=>by obtain⟨s1,K,f1,v,z,c1,c2,c3,c4⟩:=GS.uz I b c.W c.iz c.rb c.used;exact⟨s1,f1,e.uz I,K,a,aj,v,z⟩
 |.exit id,e,h,k,f,a,c,b=>⟨f,aj,e,h,a,c,b,cM.refl h⟩|.qm,e,h,k,f,a,c,b=>by simp[run]at a|.split k0 js d,e,h,k,f,a,c,b=>by simp only[run]at a;obtain⟨L,D,ax,ay,h',g'⟩:=DM js e h a c b;refine gw j d.jf (λg s1 l=>?_) (rO j p d L D k f ax ay h');obtain⟨ad,K,M,N,P,Q⟩:=l;exact⟨ad,K,M,N,P,g'.trans Q⟩
 |.dg I ab aB R,an,V0,k,s0,a,ac,h0=>by
  simp only[run]at a;obtain⟨f,h,f1,b,z,d1,d2,d3,d4⟩:=GS.uz I h0 ac.W ac.iz ac.rb ac.used;have c:oD (an.uz I):=aj;generalize an.uz I=e at b c a;have b:GS q Z e h (dY f iv):=b;refine⟨f,f1,λag=>?_⟩;cases aB with
  |false=>
   simp only[fN]at a;obtain⟨i,X⟩:=b.enter c ab ag [] ak;have A:GS q Z {e with iz:=ab,used:=[],rb:=e.nb,W:=[]} h (dY {f with bs:=f.nx,nx:=f.nx+ab,gm:=ag} iv):=by
    have s:=X.m;have mO:∀id,h.M id=f.O id:=λid=>by rw[b.m.m];show bp f.O iv id=_;simp only[bp];cases f.O id<;>rfl
    exact⟨X.p,X.je,⟨λid=>by rw[mO];show _=bp f.O iv id;simp only[bp];cases f.O id<;>rfl,aj,s.heap,λE id l hv=>⟨aj,λha=>by simp[kP,iw]at ha⟩,s.inj,s.own,s.frame,s.free,i0,s.base,s.ss,s.fr,aw,ak⟩⟩
   refine DU j R (λm l=>?_) (PD j p R _ h _ a (A.aeR I));obtain⟨L,D,n,C,h5,_⟩:=l;refine⟨_,D,n,aj,?_,z.trans h5⟩;have:=C.XP;have g:({m with O:=bp m.O iv}:St)=m:=by
    have:bp m.O iv=m.O:=by funext id;simp only[bp,iv];cases m.O id<;>rfl
    rw[this]
   grind
  |true=>simp only[aT]at a;obtain⟨i,X⟩:=b.enter c ab ag (Rd e R) (aaA b R);refine⟨i,?_⟩;refine rK j R (λm F' l=>?_) (F5 j p R _ h _ _ a (X.aeR I));obtain⟨L,D,n,C,h5,_⟩:=l;exact⟨_,D,n,aj,C.XP,z.trans h5⟩
 |.seq d E,e,h,k,f,a,c,b=>by
  simp only[run]at a;refine gw j d.jf (λg m l=>?_) (rO j p d e h _ f a c b);obtain⟨L,D,v,A,n,C⟩:=l;cases g with
  |normal=>refine gw j E.jf (λg S l=>?_) (rO j p E L D k m v A n);obtain⟨F,G,z,g2,g3,g4⟩:=l;exact⟨F,G,z,g2,g3,C.trans g4⟩
  |exit o=>grind|goto o=>grind|ret=>grind|panic o=>grind|outgrown=>grind
 |.Oz u d E,e,h,k,f,a,c,b=>by
  simp only[run]at a;split at a;rename_i r hI;simp only[aq]at a;obtain⟨al,ha,hb⟩:=a;have al:u.acc=[]:=by simpa using al
  refine gw j d.jf (λg m l=>?_) (rO j p d e h _ f ha c b);obtain⟨L,D,v,A,n,C⟩:=l;cases g with
  |normal=>simp only[aq]at v;obtain⟨i,i1,i2⟩:=aiS b hI al n A C U U;refine gw j E.jf (λg S l=>?_) (rO j p E r i k m hb (I0 hI).1 i1);obtain⟨F,G,z,g2,g3,g4⟩:=l;exact⟨F,G,z,g2,g3,i2.trans g4⟩
  |exit o=>grind|goto o=>grind|ret=>grind|panic o=>grind|outgrown=>grind
  cases a
 |.cond V d E,e,h,k,f,a,c,b=>by
  simp only[run]at a;obtain⟨K,v,z,r1⟩:=is b (eL b rfl V);obtain⟨ao,L,g,a,A⟩:=ve v r1 a;have n:=A.XP;have es:({f with O:=bp f.O iv}:St)=f:=by
   have:bp f.O iv=f.O:=by funext id;simp only[bp,iv];cases f.O id<;>rfl
   rw[this]
  rw[es]at n;have g:f.ev V=.p (B ao):=g;simp only[AC.jf,cH,g];cases ao with
  |true=>refine gw j d.jf (λg m l=>?_) (rO j p d _ K k f a aj n);obtain⟨F,G,M,N,P,Q⟩:=l;exact⟨F,G,M,N,P,z.trans Q⟩
  |false=>refine gw j E.jf (λg m l=>?_) (rO j p E _ K k f a aj n);obtain⟨F,G,M,N,P,Q⟩:=l;exact⟨F,G,M,N,P,z.trans Q⟩
 |.block id d,e,h,k,f,a,c,b=>by
  simp only[run]at a;refine gw j d.jf (λg m l=>?_) (rO j p d e h _ f a c b);obtain⟨L,D,v,A,n,C⟩:=l;cases g with
  |exit o=>
   simp only at v⊢;by_cases hi:o=id;subst hi;simp only[Nat.beq_refl,aT]at v⊢;grind;have hb:au o id=Z:=by cases hb:au o id with|false=>rfl|true=>exact absurd (aK hb) hi
   grind
  |normal=>grind|goto o=>grind|ret=>grind|panic o=>grind|outgrown=>grind
 |.loop u Y d,e,h,k,f,a,c,b=>by
  simp only[run]at a;split at a
  refine⟨λx m=>(x=Jn u Y+1/\m=f)\/∃H:Nat->St->Prop,x<=Jn u Y+0*x+x/\H x m/\∀x m,H x m->cH t d.jf m λg S=>match g with|.normal=>∃s,s<x/\H s S|g=>Aw q k h g S,⟨_,.inl ⟨rfl,rfl⟩⟩,?_⟩
  rintro x m (⟨rfl,rfl⟩|⟨H,_,hR,T⟩);refine gw j d.jf (λg s1 l=>?_) (rO j p d e h _ m a c b);obtain⟨ad,K,v,A,n,C⟩:=l;cases g with
  |normal=>obtain⟨H,hR,T⟩:=Lr j (λe h k f a c b=>rO j p d e h k f a c b) Y u ad K s1 v A n;refine⟨Jn u Y,y,.inr ⟨H,y,hR,λx m hn=>gw j d.jf (λg S l=>?_) (T x m hn)⟩⟩;cases g with|normal=>exact l|_=>obtain⟨F,G,M,N,P,Q⟩:=l;exact⟨F,G,M,N,P,C.trans Q⟩
  |exit o=>grind|goto o=>grind|ret=>grind|panic o=>grind|outgrown=>grind
  refine gw j d.jf (λg S l=>?_) (T x m hR);cases g with
  |normal=>obtain⟨s,hm,aE⟩:=l;exact⟨s,hm,.inr ⟨H,y,aE,T⟩⟩
  |_=>exact l
  obtain⟨H,hR,T⟩:=Lr j (λe h k f a c b=>rO j p d e h k f a c b) Y u e h f a c b;exact⟨H,⟨_,hR⟩,T⟩
end
section
variable [Gh]
structure AF where
 n:Nat
 rs:List AT
 body:AC
def AF.fn(F:AF):d6:={n:=F.n,rs:=F.rs,body:=F.body.jf}
def Ek:Nat->List A->List (Nat×A)|_,[]=>[]|i,d::as_l=>(i,d)::Ek (i+1) as_l
def zW(a:AS):List AT->Option (List A)
 |[]=>J []|.t k::b=>(zW a b).map ((aQ a.T k).getD .any::·)
 |.cell k f g::b=>match aQ a.T k with
  |some (.ptr h c)=>match aQ a.H h with
   |some (.row e)=>
    if g then(if eY f (e.drop c).length then(zW a b).map (.agg ((e.drop c).take f)::·) else ae)
    else match e[c]? with|some d=>(zW a b).map (d::·)|none=>ae
   |_=>ae
  |_=>ae
def Xl:List A->A|[d]=>d|as_l=>.eQ as_l
mutual
def off(a:List Nat):A->Bool|.ptr b _=> !iw a b|.rp b _=> !iw a b|.own b=> !iw a b|.mp b=> !iw a b|.agg as_l=>C1 a as_l|.eQ as_l=>C1 a as_l|.fn _ d c=>C1 a d&&C1 a c|_=>aa
def C1(a:List Nat):List A->Bool|[]=>aa|d::as_l=>off a d&&C1 a as_l
end
structure Xb(W:List Nat)(V V':bE):Prop where
 n:V.n<=V'.n
 nb:V.nb<=V'.nb
 ρ:∀x,x<V.n->V'.ρ x=V.ρ x
 gu:∀b,b<V.nb->iw W b=Z->(V'.H b).isSome=aa->(V.H b).isSome=aa/\V'.ν b=V.ν b/\∀id,V.ν b=J id->(V'.M id).map fg.wA=(V.M id).map fg.wA
mutual
theorem gX.BY{I:List Nat}{j n:bE}(b:Xb I j n):∀{d:A} {l:D},off I d=aa->gX j d l->gX n d l
 |.int k g,l,_,a=>⟨bw a.1 b.n,by rw[show g.val n.ρ=g.val j.ρ by unfold E.val;rw[b.ρ _ a.1]];exact a.2⟩|.bc i,l,_,a=>a
 |.bool ad ag tt ff,l,_,a=>by
  obtain⟨c,i,e,f,t,u⟩:=a;have K:∀{L:List F} {o:Prop},fx j.n j.ρ L o->fx n.n n.ρ L o:=λQ M R=>by obtain⟨N,O,S⟩:=Q M R;refine⟨bw N b.n,bw O b.n,λW=>?_⟩;have:=S W;unfold F.ok at this⊢;rw[b.ρ _ N,b.ρ _ O];exact this
  exact⟨bw c b.n,i,e,by rw[b.ρ _ c];exact f,K t,K u⟩
 |.str g,l,_,a=>by obtain⟨c,d,e,f⟩:=a;exact⟨bw c b.n,d,e,by rw[show g.val n.ρ=g.val j.ρ by unfold E.val;rw[b.ρ _ c]];exact f⟩
 |.aY al g an,l,_,a=>by obtain⟨c,o,G,e,f,t,u⟩:=a;exact⟨bw c b.n,o,G,e,f,by rw[show g.val n.ρ=g.val j.ρ by unfold E.val;rw[b.ρ _ c]];exact t,u⟩
 |.nil,l,_,a=>a|.agg as_l,l,h,a=>by obtain⟨ds,c,e⟩:=a;exact⟨ds,c,cd.BY b (by simpa[off]using h) e⟩
 |.eQ as_l,l,h,a=>by obtain⟨ds,c,e⟩:=a;exact⟨ds,c,cd.BY b (by simpa[off]using h) e⟩
 |.ptr i T,l,h,a=>by
  refine⟨bw a.1 b.nb,λp=>?_⟩;obtain⟨c,e,f⟩:=b.gu i a.1 (by simpa[off]using h) p;obtain⟨id,v,q,ao,m,r,x⟩:=a.2 c;obtain⟨w,s,z⟩:=zw ((f id m).trans (by rw[r];rfl))
  match w,z with|[U],_=>exact⟨id,v,q,U,e.trans m,s,x⟩
 |.rp i T,l,h,a=>by refine⟨bw a.1 b.nb,λp=>?_⟩;obtain⟨c,e,f⟩:=b.gu i a.1 (by simpa[off]using h) p;obtain⟨id,v,q,G,P,m,r,x,V⟩:=a.2 c;obtain⟨w,s,z⟩:=zw ((f id m).trans (by rw[r];rfl));exact⟨id,v,q,w,P,e.trans m,s,y,V⟩
 |.ip ts,l,_,a=>a|.own i,l,h,a=>by refine⟨bw a.1 b.nb,λp=>?_⟩;obtain⟨c,e,f⟩:=b.gu i a.1 (by simpa[off]using h) p;have B:=a.2 c;rw[e];cases H:j.ν i with|none=>rw[H]at B;exact B|some id=>rw[H]at B;obtain⟨v,q,G,m,r⟩:=B;obtain⟨w,s,z⟩:=zw ((f id H).trans (by rw[m];rfl));exact⟨v,q,w,s,by rw[z];exact r⟩
 |.fn M d ax,l,h,a=>by obtain⟨ds,X,c,e,f⟩:=a;simp only[off,aq]at h;exact⟨ds,X,c,cd.BY b h.1 e,cd.BY b h.2 f⟩
 |.any,_,_,_=>trivial|.ct ay,_,_,a=>a|.Fy,_,_,a=>a|.yY,_,_,a=>a
 |.nm sz P ev er,l,_,a=>by
  obtain⟨c,e,f,t,d,u,Y,h7,h8,h9,ab⟩:=a;have C:∀{g:E},g.x<j.n->g.val n.ρ=g.val j.ρ:=λhe=>by unfold E.val;rw[b.ρ _ he]
  exact⟨bw c b.n,bw e b.n,bw f b.n,bw t b.n,d,u,Y,by rw[C c];exact h7,by rw[C e];exact h8,by rw[C f];exact h9,by rw[C t];exact ab⟩
 |.mp i,l,h,a=>by refine⟨bw a.1 b.nb,λp=>?_⟩;obtain⟨c,e,f⟩:=b.gu i a.1 (by simpa[off]using h) p;obtain⟨id,q,mf,m,r,x⟩:=a.2 c;obtain⟨ac,s⟩:=Ww ((f id m).trans (by rw[r];rfl));exact⟨id,q,ac,e.trans m,s,x⟩
theorem cd.BY{c:List Nat}{d e:bE}(f:Xb c d e):∀{as_l:List A} {ds:List D},C1 c as_l=aa->cd d as_l ds->cd e as_l ds|[],[],_,_=>trivial|[],_::_,_,a=>a.elim|_::_,[],_,a=>a.elim|_::as_l,_::ds,b,a=>by simp only[C1,aq]at b;exact⟨gX.BY f b.1 a.1,cd.BY f b.2 a.2⟩
end
def FC(b:List Nat):List (Nat×AB)->Bool|[]=>aa|(_,.row c)::a=>C1 b c&&FC b a|(_,.rows _ _)::a=>FC b a|(_,.map _)::a=>FC b a
theorem Kd{e:List Nat}:∀{j:List (Nat×AB)} {d:Nat} {c:List A},FC e j=aa->aQ j d=J (.row c)->C1 e c=aa
 |[],_,_,_,a=>by simp[aQ]at a|(k,.row g)::f,d,c,b,a=>by simp[FC,aq]at b;rw[dQ]at a;split at a;grind;exact Kd U a|(k,.rows _ _)::f,d,c,b,a=>by simp[FC]at b;rw[dQ]at a;split at a;cases a;exact Kd b a
 |(k,.map _)::f,d,c,b,a=>by simp[FC]at b;rw[dQ]at a;split at a;cases a;exact Kd b a
def wN(b:AS):List (Nat×AB)->List (Nat×AB)×List (Nat×AB)|[]=>([],[])|q::c=>let a:=wN b c;if iw b.W q.1 then(a.1,q::a.2) else(q::a.1,a.2)
section
variable (a:Nat->List A->AS->(A->AS->Bool)->Bool)
def inl(F:AF)(d:List A)(b:AS)(h:A->AS->Bool):Bool:=
 if eY d.length F.n then
  let e:=wN b b.H
  run a F.body {T:=Ek 0 d,H:=e.1,G:=b.G,ns:=b.ns,nb:=b.nb,rb:=0,iz:=0,used:=[],W:=[]} λg c=>
   match g with
   |.normal|.ret=>match zW c F.rs with|some f=>(C1 b.W f&&FC b.W c.H)&&h (Xl f) {T:=b.T,H:=c.H++e.2,G:=c.G,ns:=c.ns,nb:=c.nb,rb:=b.rb,iz:=b.iz,used:=b.used,W:=b.W}|none=>Z
   |_=>Z
 else Z
end
variable {h:Fm}{a:AS}{e:bE}{c:St}{f:ah}
theorem VB{e:Type}(a c:List (Nat×e))(b:Nat):aQ (a++c) b=match aQ a b with|some d=>J d|none=>aQ c b:=by induction a with|nil=>rfl|cons f g ih=>obtain⟨k,d⟩:=f;rw[kR,dQ,dQ];grind
theorem JD(b:AS):∀(j:List (Nat×AB)) (a:Nat),aQ (wN b j).1 a=(if iw b.W a then ae else aQ j a)/\aQ (wN b j).2 a=(if iw b.W a then aQ j a else ae)|[],a=>by simp[wN,aQ]|(f,h)::g,a=>by obtain⟨c,d⟩:=JD b g a;simp[wN];by_cases e:iw b.W f=aa;rw[aU e];refine⟨?_,?_⟩;rw[c,dQ];grind;rw[dQ,d,dQ];grind;rw[ap e];refine⟨?_,?_⟩;rw[dQ,c,dQ];grind;rw[d,dQ];grind
theorem O6{f:bE}:∀(as_l:List A) (ds:List D) (a:Nat),cd f as_l ds->∀k d,aQ (Ek a as_l) k=J d->a<=k/\∃l,ds[k-a]? =J l/\gX f d l|[],[],a,_,k,d,c=>by simp[Ek,aQ]at c|[],_::_,_,e,_,_,_=>aj|_::_,[],_,e,_,_,_=>aj|b::as_l,l::ds,a,e,k,d,c=>by simp[Ek,dQ]at c;by_cases g:a=k;rw[aU g]at c;cases c;subst g;exact⟨y,l,Y,e.1⟩;rw[ap g]at c;obtain⟨h,i,j,m⟩:=O6 as_l ds (a+1) e.2 k d c;grind
theorem B6{v:bE}{K:List D->Prop}:∀(f:List AT) (as_l:List A) (K:List D->Prop),GS h Z a v (dY c iv)->oD a->zW a f=J as_l->(∀ds,cd v as_l ds->K ds)->jt c f K
 |[],as_l,K,e,g,b,i=>by cases b;exact aj
 |.t k::f,as_l,K,e,g,b,i=>by simp only[zW,bj]at b;obtain⟨j,m,rfl⟩:=b;simp only[jt];refine B6 (K:=K) f j _ e g m λds n=>i _ ⟨?_,n⟩;cases r:aQ a.T k with|none=>trivial|some d=>exact e.je k d r
 |.cell k z B::f,as_l,K,e,g,b,i=>by
  simp only[zW]at b;split at b;rename_i G p r;split at b;rename_i H C;have E:=e.je _ _ r;obtain⟨id,w,s,I,L,t,u,q⟩:=Nf e E C (by simp[kP,g.W,iw]);have t:c.O id=J (.row s.length w [s]):=t;have u:c.T k=.ptr id w s.length 0 p:=u;have M:=q.length;simp only[jt,u,t,tU];refine⟨Y,Y,?_⟩;split at b;rename_i o;subst o;split at b;rename_i x;have x:=iB x;have N:=(q.drop p).length;simp only[bj]at b;obtain⟨j,m,rfl⟩:=b;simp only[ba,aT];rw[aU y];exact B6 (K:=K) f j _ e g m λds n=>i _ ⟨⟨_,tK _,(q.drop p).take z⟩,n⟩;grind;rename_i o;have o:B=Z:=by simpa using o
  subst o;split at b;rename_i d F;obtain⟨l,n,O⟩:=cd.get q p _ F;simp only[bj]at b;obtain⟨j,m,rfl⟩:=b;simp only[ba,fN,dC,Ar,n];exact B6 (K:=K) f j _ e g m λds P=>i _ aj;grind;grind;grind
theorem aaK{b:bE}(a:cd b as_l ds):gX b (Xl as_l) (aM ds):=by
 cases as_l with
 |nil=>cases ds with|nil=>exact aj|cons=>exact aj
 |cons d as_l=>
  cases as_l with
  |nil=>cases ds with|nil=>exact aj|cons l ds=>cases ds with|nil=>exact a.1|cons=>exact a.2.elim
  |cons c e=>cases ds with|nil=>exact aj|cons l ds=>cases ds with|nil=>exact a.2.elim|cons f ds=>exact⟨_,rfl,a⟩
theorem aj8{a4:Nat->List A->AS->(A->AS->Bool)->Bool}(hC:HC (X Q) a4){F:AF}{a5:Nat}{fn:Func}(hf:Q.funcs[a5]? =J fn)(hc:cW Q fn=J F.fn)(hk:inl a4 F as_l a k=aa)(I:GS h Z a e (dY c f))(hr:cd e as_l ds):X Q a5 ds c.O c.nx (jk h Z k e c f):=by
 unfold inl at hk;split at hk;rename_i hn;have hn:=iB hn;have o:=I.m;have hl:=hr.length;refine X.Px hf hc (by simp only[AF.fn];omega) λbR=>?_;let Y:AS:={T:=Ek 0 as_l,H:=(wN a a.H).1,G:=a.G,ns:=a.ns,nb:=a.nb,rb:=0,iz:=0,used:=[],W:=[]}
 let V0:bE:={e with H:=aQ Y.H,M:=c.O}
 let ac:Fm:=⟨c.nx,λid=>∃b,(e.H b).isSome=aa/\iw a.W b=Z/\e.ν b=J id,c.O⟩
 have bk:∀b,aQ Y.H b=if iw a.W b then ae else aQ a.H b:=λb=>(JD a a.H b).1;have ay:∀b j,aQ Y.H b=J j->iw a.W b=Z/\aQ a.H b=J j:=by intro b j r;rw[bk]at r;split at r;cases r;exact U
 have S:∀b,(aQ a.H b).isSome=aa->(e.H b).isSome=aa:=λb r=>by rw[I.p.vH];exact r
 have MO:∀b id,(e.H b).isSome=aa->iw a.W b=Z->e.ν b=J id->e.M id=c.O id:=by intro b id m i n;have hy:=(o.yn b id m n).1 (by simp[kP,i]);rw[o.m];show bp c.O f id=c.O id;have hy:f id=ae:=hy;simp only[bp,hy];cases c.O id<;>rfl
 have g0:cM e V0:=⟨i0,i0,aj,ak⟩;have bl:∀(a0:ah),bp a0 iv=a0:=λa0=>by funext id;simp only[bp,iv];grind
 have bS:=o.room;have bT:=o.base;have bX:(dY c f).bs=c.bs:=rfl;have bZ:(dY c f).nx=c.nx:=rfl;have S0:GS ac Z Y V0 (dY (cN ds c.O c.nx) iv):=by
  refine⟨⟨I.p.vn,I.p.vb,rfl,I.p.gz,I.p.pS,I.p.facts⟩,λk d a1=>?_,?_⟩;obtain⟨_,l,t,v⟩:=O6 as_l ds 0 hr k d a1;have:(dY (cN ds c.O c.nx) iv).T k=l:=by show ds.getD k _=l;simp only[uD]at t;rw[xA,t];rfl
  rw[this];exact v.grow g0;refine⟨λid=>?_,aj,λb j r=>?_,λb id m n=>⟨aj,λha=>by simp[kP,Y,iw]at ha⟩,λb s id m ad n V=>?_,λb id m n=>?_,aj,ak,?_,i0,ak,aj,ak,ak⟩;show c.O id=bp c.O iv id;rw[bl];obtain⟨t,v⟩:=ay b j r;obtain⟨h3,h4⟩:=o.heap b j v;exact⟨h3,h4.grow g0 rfl ak⟩;obtain⟨j,x⟩:=dM.1 (show(aQ Y.H b).isSome=aa from m);obtain⟨an,aB⟩:=dM.1 ar;exact o.inj b s id ak ak n V;obtain⟨j,x⟩:=dM.1 ar;obtain⟨t,v⟩:=ay b j x;have N:=S b (by rw[v];rfl);refine⟨?_,ak⟩;show c.O id≠ae;rw[<-MO b id N t n];exact(o.own b id N n).1;exact i0
 have:=rO br hC F.body Y V0 _ (cN ds c.O c.nx) hk aj S0;refine gw br F.body.jf (λg s1 m=>?_) this;obtain⟨C,w,O,c1,S1,g1⟩:=m;have a6:∀rs,zW C F.rs=J rs->((C1 a.W rs&&FC a.W C.H)&&k (Xl rs) {T:=a.T,H:=C.H++(wN a a.H).2,G:=C.G,ns:=C.ns,nb:=C.nb,rb:=a.rb,iz:=a.iz,used:=a.used,W:=a.W})=aa->
  jt s1 F.rs λds=>ji c.nx (jk h Z k e c f) s1.O s1.nx (aM ds):=by
  intro rs bm hk;refine B6 (K:=λ_=>True) F.rs rs _ S1 c1 bm λes bn=>?_;have m1:=S1.m;have b0:(dY s1 iv).bs=s1.bs:=rfl;have b1:(dY s1 iv).nx=s1.nx:=rfl;have bo:c.nx<=s1.nx:=by have:=m1.room;have:=m1.base;have:ac.n0=c.nx:=rfl;omega
  have M1:∀id,w.M id=s1.O id:=λid=>by rw[m1.m];exact aj
  refine ji.d8 (λid u=>by rw[<-M1];exact m1.fr id u) bo ?_;have bs:∀b,aQ (wN a a.H).2 b=if iw a.W b then aQ a.H b else ae:=λb=>(JD a a.H b).2;let P:List (Nat×AB):=C.H++(wN a a.H).2
  let M2:ah:=bp s1.O f
  let V2:bE:={w with H:=aQ P,M:=M2,ν:=λb=>if iw a.W b then e.ν b else w.ν b}
  have R:∀b j,aQ P b=J j->(iw a.W b=Z/\aQ C.H b=J j)\/(iw a.W b=aa/\aQ a.H b=J j):=by
   intro b j r;simp only[P,VB]at r;split at r;rename_i d ha;cases r;by_cases L:b<a.nb;have bu:=jI S1 ha;have:=(g1.gu b (by show b<e.nb;rw[I.p.vb];exact L) bu).1;obtain⟨aE,aI⟩:=dM.1 (show(aQ Y.H b).isSome=aa from this);exact .inl ⟨(ay b aE aI).1,ha⟩;refine .inl ⟨?_,ha⟩;cases i:iw a.W b with|false=>rfl|true=>exact absurd (o.wB b (zK.1 i)) L
   rw[bs]at r;split at r;rename_i i;exact .inr ⟨i,r⟩;cases r
  have ao:∀b j,aQ C.H b=J j->(w.H b).isSome=aa:=λb j r=>jI S1 r;have bA:∀b,b<a.nb->(w.H b).isSome=aa->iw a.W b=Z/\(e.H b).isSome=aa/\w.ν b=e.ν b:=by intro b r m;obtain⟨D,z,_⟩:=g1.gu b (by show b<e.nb;rw[I.p.vb];exact r) m;obtain⟨aE,aI⟩:=dM.1 (show(aQ Y.H b).isSome=aa from D);exact⟨(ay b aE aI).1,S b (by rw[(ay b aE aI).2];rfl),z⟩
  have a2:∀id,id<c.nx->¬ac.N0 id->s1.O id=c.O id:=λid t v=>by rw[<-M1];exact m1.frame id t v
  have Yn:∀id,c.nx<=id->f id=ae:=by intro id u;have:=o.fr id u;rw[o.m]at this;exact(mU this).2
  have a7:∀id,ac.N0 id->f id=ae:=by rintro id ⟨b,t,v,h3⟩;exact(o.yn b id t h3).1 (by simp[kP,v])
  have aO:∀b id,(e.H b).isSome=aa->iw a.W b=aa->e.ν b=J id->s1.O id=ae/\f id=e.M id/\id<c.nx:=by
   intro b id m i n;have hX:c.O id=ae:=(o.yn b id m n).2 (by simp[kP,i]);have hM:e.M id=f id:=by rw[o.m];show bp c.O f id=f id;simp only[bp,hX]
   have L:id<c.nx:=iP λbB=>(o.own b id m n).1 (o.fr id bB);refine⟨?_,hM.symm,L⟩;rw[a2 id L ?_,hX];rintro⟨s,t,v,h3⟩;have:=o.inj b s id m t n h3;subst this;rw[i]at v;cases v
  have gV:cM e V2:=by
   refine⟨g1.n,g1.nb,g1.ρ,λb r m=>?_⟩;have m:(aQ P b).isSome=aa:=m;obtain⟨j,x⟩:=dM.1 m;rcases R b j x with⟨i,p⟩|⟨i,p⟩
   obtain⟨D,z,q3⟩:=g1.gu b r (ao b j p);obtain⟨aE,aI⟩:=dM.1 (show(aQ Y.H b).isSome=aa from D);obtain⟨q4,q5⟩:=ay b aE aI;have N:=S b (by rw[q5];rfl);refine⟨N,by show(if iw a.W b then e.ν b else w.ν b)=e.ν b;rw[i];exact z,λid u=>?_⟩;have r1:=q3 id u;have r1:(w.M id).map fg.wA=(c.O id).map fg.wA:=r1;rw[M1,<-MO b id N i u]at r1;show(bp s1.O f id).map fg.wA=_;rw[<-r1];have aS:=(o.own b id N u).1;cases hq:s1.O id with|some k=>simp only[bp,hq]|none=>rw[hq]at r1;cases hz:e.M id with|none=>exact absurd hz aS|some k=>rw[hz]at r1;cases r1
   have N:=S b (by rw[p];rfl);refine⟨N,by show(if iw a.W b then e.ν b else w.ν b)=e.ν b;rw[i];rfl,λid u=>?_⟩;obtain⟨f1,f2,f3⟩:=aO b id N i u;show(bp s1.O f id).map fg.wA=_;simp only[bp,f1,f2]
  simp only[aq]at hk;obtain⟨⟨bC,bH⟩,hk⟩:=hk;have gO:Xb a.W w V2:=by
   refine⟨bV _,bV _,λ_ _=>rfl,λb r i m=>?_⟩;have m:(aQ P b).isSome=aa:=m;obtain⟨j,x⟩:=dM.1 m;rcases R b j x with⟨_,p⟩|⟨E,_⟩
   refine⟨ao b j p,by show(if iw a.W b then e.ν b else w.ν b)=w.ν b;rw[i];rfl,λid u=>?_⟩;show(bp s1.O f id).map fg.wA=_;have aS:=(m1.own b id (ao b j p) u).1;rw[M1]at aS⊢;cases hq:s1.O id with|some k=>simp only[bp,hq]|none=>exact absurd hq aS
   rw[i]at E;cases E
  refine⟨_,_,V2,hk,?_,gV,?_⟩;refine⟨⟨S1.p.vn,S1.p.vb,rfl,S1.p.gz,S1.p.pS,S1.p.facts⟩,λk d a1=>(I.je k d a1).grow gV,?_⟩;have a3:∀b id,aQ C.H b≠ae->w.ν b=J id->s1.O id≠ae/\(c.nx<=id\/ac.N0 id):=by intro b id r n;obtain⟨j,x⟩:=xZ.1 r;obtain⟨D,z⟩:=m1.own b id (ao b j x) n;rw[M1]at D;exact⟨D,z⟩
  have a8:∀id,ac.N0 id->h.n0<=id\/h.N0 id:=by rintro id ⟨b,t,v,h3⟩;exact(o.own b id t h3).2
  have bL:∀id,ac.N0 id->e.M id≠ae:=by rintro id ⟨b,t,v,h3⟩;exact(o.own b id t h3).1
  have ag:∀b,iw a.W b=Z->V2.ν b=w.ν b:=λb i=>by show(if iw a.W b then e.ν b else w.ν b)=w.ν b;rw[i];rfl
  have ax:∀b,iw a.W b=aa->V2.ν b=e.ν b:=λb i=>by show(if iw a.W b then e.ν b else w.ν b)=e.ν b;rw[i];rfl
  have a9:∀id,id<c.nx->¬ac.N0 id->M2 id=e.M id:=by intro id t v;rw[o.m];show bp s1.O f id=bp c.O f id;simp only[bp,a2 id t v]
  refine⟨λid=>rfl,λid u=>?_,λb j r=>?_,λb id m n=>?_,λb s id m ad n V=>?_,λb id m n=>?_,λid t v=>?_,λnm t v=>?_,?_,o.base,λb id m L n=>?_,λid u=>?_,?_,λb r=>?_⟩;show f id=ae;have u:(s1.O id).isSome=aa:=u;by_cases L:id<c.nx;by_cases hN:ac.N0 id;exact a7 id hN;rw[a2 id L hN]at u;exact o.dj id u;exact Yn id y;rcases R b j r with⟨i,p⟩|⟨i,p⟩
  obtain⟨D,z⟩:=m1.heap b j p;refine⟨D,?_⟩;cases j with
  |row b2=>obtain⟨id,bM,aP,bO,e1,e2,e3,e4⟩:=z;refine⟨id,bM,aP,bO,(ag b i).trans e1,?_,e3,cd.BY gO (Kd bH p) e4⟩;show bp s1.O f id=_;rw[M1]at e2;simp only[bp,e2]
  |rows row g=>obtain⟨q3,q4⟩:=z;refine⟨q3,?_⟩;rw[ag b i];cases bb:w.ν b with|none=>rw[bb]at q4;exact q4|some id=>rw[bb]at q4;obtain⟨aP,es,f2,f3,f4⟩:=q4;refine⟨aP,es,?_,f3,f4⟩;show bp s1.O f id=_;rw[M1]at f2;simp only[bp,f2]
  |map b3=>obtain⟨id,aP,mf,e1,e2,e3⟩:=z;refine⟨id,aP,mf,(ag b i).trans e1,?_,e3⟩;show bp s1.O f id=_;rw[M1]at e2;simp only[bp,e2]
  obtain⟨D,z⟩:=o.heap b j p;refine⟨bw D (by have:=g1.nb;have g:w.nb=C.nb:=S1.p.vb;have e2:V0.nb=a.nb:=I.p.vb;show a.nb<=C.nb;omega),z.grow gV (ax b i) λid u=>?_⟩;obtain⟨f1,f2,f3⟩:=aO b id (S b (by rw[p];rfl)) i u;show bp s1.O f id=_;simp only[bp,f1,f2];have m:(aQ P b).isSome=aa:=m;obtain⟨j,x⟩:=dM.1 m;rcases R b j x with⟨i,p⟩|⟨i,p⟩
  rw[ag b i]at n;refine⟨λ_=>?_,λha=>by simp[kP,i]at ha⟩;obtain⟨_,q⟩:=a3 b id (by rw[p];simp) n;rcases q with q|q
  exact Yn id q;exact a7 id q;rw[ax b i]at n;refine⟨λha=>by simp[kP,i]at ha,λ_=>?_⟩;exact(aO b id (S b (by rw[p];rfl)) i n).1;have bd:∀b s,(aQ P b).isSome=aa->(aQ P s).isSome=aa->iw a.W b=Z->iw a.W s=aa->V2.ν b=J id->V2.ν s=J id->False:=by
   intro b s m ad i E n V;obtain⟨j,x⟩:=dM.1 m;obtain⟨an,aB⟩:=dM.1 ad;rcases R b j x with⟨_,p⟩|⟨B,_⟩
   rcases R s an aB with⟨B,_⟩|⟨_,aR⟩;rw[E]at B;cases B;rw[ag b i]at n;rw[ax s E]at V;exact(a3 b id (by rw[p];simp) n).1 (aO s id (S s (by rw[aR];rfl)) E V).1;rw[i]at B;cases B
  have m:(aQ P b).isSome=aa:=m;have ad:(aQ P s).isSome=aa:=ad;cases i:iw a.W b with
  |false=>
   cases E:iw a.W s with
   |false=>
    obtain⟨j,x⟩:=dM.1 m;obtain⟨an,aB⟩:=dM.1 ad;rcases R b j x with⟨_,p⟩|⟨B,_⟩
    rcases R s an aB with⟨_,aR⟩|⟨B,_⟩;rw[ag b i]at n;rw[ag s E]at V;exact m1.inj b s id (ao b j p) (ao s an aR) n V;rw[E]at B;cases B;rw[i]at B;cases B
   |true=>exact(bd b s m ad i E n V).elim
  |true=>
   cases E:iw a.W s with
   |false=>exact(bd s b ad m E i V n).elim
   |true=>
    obtain⟨j,x⟩:=dM.1 m;obtain⟨an,aB⟩:=dM.1 ad;rcases R b j x with⟨B,_⟩|⟨_,p⟩
    rw[i]at B;cases B;rcases R s an aB with⟨B,_⟩|⟨_,aR⟩
    rw[E]at B;cases B;rw[ax b i]at n;rw[ax s E]at V;exact o.inj b s id (S b (by rw[p];rfl)) (S s (by rw[aR];rfl)) n V
  have m:(aQ P b).isSome=aa:=m;obtain⟨j,x⟩:=dM.1 m;rcases R b j x with⟨i,p⟩|⟨i,p⟩
  rw[ag b i]at n;obtain⟨D,z⟩:=a3 b id (by rw[p];simp) n;refine⟨?_,z.elim (λq=>.inl y) (a8 id)⟩;show bp s1.O f id≠ae;intro hh;exact D (mU hh).1;rw[ax b i]at n;have N:=S b (by rw[p];rfl);obtain⟨D,z⟩:=o.own b id N n;obtain⟨f1,f2,f3⟩:=aO b id N i n;refine⟨?_,z⟩;show bp s1.O f id≠ae;simp only[bp,f1,f2];exact D;rw[<-o.frame id t v];refine a9 id y λhN=>?_;rcases a8 id hN with q|q
  omega;exact v q;have hq:=o.free nm t v;have L:c.bs+nm<c.nx:=by have:nm<a.iz:=t;omega
  show M2 (c.bs+nm)=ae;rw[a9 _ L λhN=>bL _ hN hq];exact hq;show c.bs+a.iz<=s1.nx;omega;have m:(aQ P b).isSome=aa:=m;obtain⟨j,x⟩:=dM.1 m;rcases R b j x with⟨i,p⟩|⟨i,p⟩
  rw[ag b i]at n;obtain⟨_,z,q3⟩:=bA b (bw L o.rb) (ao b j p);exact o.ss b id z L (by rw[<-q3];exact n);rw[ax b i]at n;exact o.ss b id (S b (by rw[p];rfl)) L n;have u:s1.nx<=id:=u;show bp s1.O f id=ae;have:=m1.fr id u;rw[M1]at this;simp only[bp,this];exact Yn id y;show a.rb<=C.nb;have:=o.rb;have:=g1.nb;have g:w.nb=C.nb:=S1.p.vb;have e2:V0.nb=a.nb:=I.p.vb;omega;show b<C.nb;have:=o.wB b r;have:=g1.nb;have g:w.nb=C.nb:=S1.p.vb;have e2:V0.nb=a.nb:=I.p.vb;omega;exact aaK (cd.BY gO bC bn)
 cases g with
 |normal=>refine⟨.inl rfl,?_⟩;simp only at O;split at O;(· exact a6 _ ar O);cases O
 |ret=>refine⟨.inr rfl,?_⟩;simp only at O;split at O;(· exact a6 _ ar O);cases O
 |exit be=>cases O
 |goto be=>cases O
 |panic be=>cases O
 |outgrown=>cases O
 cases hk
end
section
variable [Gh]
def AS.nA(a:AS)(ab:AB):AS:={a with H:=(a.nb,ab)::a.H,nb:=a.nb+1}
theorem GS.nA{j:Fm}{a:AS}{f:bE}{c:C}{id k:Nat}{ab:AB}{e:fg}(g:GS j Z a f c)(w:k<=id)(n:id<c.nx)(x:c.bs+a.iz<=k)(l:c.X id=ae)(h:c.Y id=ae)(o:∀b:bE,cM f b->b.ν a.nb=J id->b.M id=J e->wG b a.nb ab):
 ∃b,GS j Z (a.nA ab) b {c with X:=am c.X id (J e)}/\cM f b/\b.ν a.nb=J id/\b.M id=J e/\(b.H a.nb).isSome=aa/\a.nb<b.nb:=by
 have m:=g.m;have z:=m.base;obtain⟨q,r⟩:=g.Nx (gu:=e) (σ':=a.nA ab) rfl rfl rfl rfl rfl i0 i0 (by simp[AS.nA,dQ])
  (λi A d B=>by simp only[AS.nA,dQ]at d;rw[ap y]at d;exact⟨d,λs=>(m.own i id (jI g d) s).1 (by rw[m.m];simp[bp,l,h])⟩)
  (.inl (by rw[m.m];simp[bp,l,h])) ak h ak (λD=>by have:=m.rb;omega) n
  aj (by
   have:iw a.W a.nb=Z:=by cases t:iw a.W a.nb with|false=>rfl|true=>have:=m.wB _ (zK.1 t);omega
   simp[kP,AS.nA,this])
  (λi d=>by have:=m.wB i d;exact i0)
  (λnm E u=>⟨u,y⟩)
  (λv=>o _ v (by simp[bE.wr]) (by simp[bE.wr]))
 exact⟨_,q,r,by simp[bE.wr],by simp[bE.wr],by simp[bE.wr,AS.nA,dQ],i0⟩
theorem GS.aoD{u:Fm}{b:AS}{h:bE}{v:C}{ab:AB}(i:GS u Z b h v)(B:∀c:bE,cM h c->c.ν b.nb=ae->wG c b.nb ab):
 ∃c,GS u Z (b.nA ab) c v/\cM h c/\c.ν b.nb=ae/\(c.H b.nb).isSome=aa/\b.nb<c.nb:=by
 have m:=i.m;let c:bE:={h with nb:=b.nb+1,H:=aQ (b.nA ab).H,ν:=am h.ν b.nb ae}
 have w:∀a,a≠b.nb->aQ (b.nA ab).H a=aQ b.H a:=λa e=>by simp only[AS.nA,dQ];grind
 have n:∀a,a≠b.nb->c.ν a=h.ν a:=λa e=>ai e;have x:c.ν b.nb=ae:=bi;have D:∀a,a≠b.nb->(c.H a).isSome=aa->(h.H a).isSome=aa:=λa e o=>by have o:(aQ (b.nA ab).H a).isSome=aa:=o;rw[w a e]at o;rw[i.p.vH];exact o
 have q:∀a id,c.ν a=J id->a≠b.nb:=ak;have s:cM h c:=⟨i0,by show h.nb<=b.nb+1;rw[i.p.vb];omega,aj,λa e o=>by
  have E:a≠b.nb:=by rw[i.p.vb]at e;omega
  grind⟩
 refine⟨c,⟨⟨i.p.vn,rfl,rfl,i.p.gz,i.p.pS,i.p.facts⟩,λk d y=>(i.je k d y).grow s,?_⟩,s,x,by simp[c,AS.nA,dQ],by simp[c]⟩;refine⟨m.m,m.dj,λa z e=>?_,λa id e f=>?_,λa t id e F l r=>?_,λa id e f=>?_,m.frame,m.free,m.room,m.base,λa id e l f=>?_,m.fr,by simp only[AS.nA];exact Nat.le_succ_of_le m.rb,λa e=>by have:=m.wB a e;exact i0⟩;by_cases g:a=b.nb;subst g;simp only[AS.nA,dQ,aT,du]at e;subst e;exact aj;rw[w a g]at e;obtain⟨l,r⟩:=m.heap a z e;exact⟨i0,r.grow s U aj⟩;have j:=q a id f;rw[n a j]at f;exact m.yn a id U f;have j:=q a id l;have A:=q t id r;rw[n a j]at l;rw[n t A]at r;exact m.inj a t id U U l r;have j:=q a id f;rw[n a j]at f;exact m.own a id U f;have j:=q a id f;rw[n a j]at f;exact m.ss a id U l f
def Vs:List VT->List P->Prop|[],[]=>True|t::a,o::b=>VT.ok t o/\Vs a b|_,_=>False
def zd:P->ByteArray|.v (.string d)=>d|_=>⟨#[]⟩
def xP(b:CT)(a:P):List Int:=match b with|.nm _=>[lO a,Gh.kS (zd a) 0,Gh.kS (zd a) 1,Gh.kS (zd a) 2]|_=>[lO a]
def vp:List CT->List P->List Int|t::a,o::b=>xP t o++vp a b|_,_=>[]
def Al:VT->P->List Int|.aM a,o=>xP a o|.agg b,.agg c=>vp b c|.agg _,_=>[]
def rE:List VT->List P->List Int|t::a,o::b=>Al t o++rE a b|_,_=>[]
def AA(yV:List Int):Nat->Int|0=>0|i+1=>yV.getD i 0
structure SP where
 f:Nat
 uK:Bool
 ps:List VT
 rs:List VT
 cost:Int
 y6:List (List F×List F)
 C8:List F:=[]
 os:List Nat:=[]
def qG:CT:=.aY [.int .i64 (-9223372036854775808) 9223372036854775807] 0 140737488355328
def Wu:Int:=4611686018427387000
def OO(a:SP)(c d:List P):Prop:=∀e∈a.y6,(∀b∈e.1,b.ok (AA (rE a.ps c++rE a.rs d)))->∀b∈e.2,b.ok (AA (rE a.ps c++rE a.rs d))
def Pre(a:SP)(b:List P):Prop:=∀c∈a.C8,c.ok (AA (rE a.ps b))
def lg(c d:Nat)(e:List Nat):Nat->List VT->List P->List D->ah->ah->Prop
 |_,[],[],[],a,b=>b=a
 |i,n::g,o::h,l::ds,a,b=>
  if iw e i then
   (o=.v (.slice ae 0 0)/\l=.p o/\lg c d e (i+1) g h ds a b)\/
   ∃j f id k,o=.im j f Z/\(∃m p q,n=.aM (.aY m p q)/\f=m.length)/\c<=id/\id<d/\a id=ae/\l=.sl id k 0 j.length f Z/\lg c d e (i+1) g h ds (am a id (J (.row f k (j.map (·.map .p))))) b
  else l=.p o/\lg c d e (i+1) g h ds a b
 |_,_,_,_,_,_=>False
def bz(l:Program)(a:SP):Prop:=∀(e:ah) (b:Nat) (h:D->ah->Nat->Prop) (L:List P),Vs a.ps L->Pre a L->
 (a.uK=Z->(∀c d ds f,b<=c->Vs a.rs d->OO a L d->lg b c a.os 0 a.rs d ds e f->h (aM ds) f c)->X l a.f (L.map .p) e b h)/\
 (a.uK=aa->∀(i j:Nat) (m:P) (g:Int),i<b->e i=J (.row 2 j [[.p m,.p (I g)]])->CT.ok qG m->0<=g->g<=Wu-a.cost->
  (∀c d k n ds f,b<=c->Vs a.rs d->CT.ok qG n->g<=k->k<=g+a.cost->OO a L d->lg b c a.os 0 a.rs d ds (am e i (J (.row 2 j [[.p n,.p (I k)]]))) f->h (aM ds) f c)->X l a.f (.ptr i j 2 0 0::L.map .p) e b h)
def wu(a:Gs):List A->List VT->Bool|[],[]=>aa|d::as_l,b::c=>zC a d b&&wu a as_l c|_,_=>Z
def Yv:A->Option E|.int _ g=>J g|.str g=>J g|.aY _ g _=>J g|.nil=>J (num 0)|.bc a=>J (num (if a then 1 else 0))|.bool b aa _ _=>J ⟨b,0⟩|.nm c _ _ _=>J c|_=>ae
def Q0(b:CT)(a:A):List (Option E):=match b with
 |.nm _=>match a with|.nm c d e f=>[J c,J d,J e,J f]|_=>[ae,ae,ae,ae]
 |_=>[Yv a]
def MB:List CT->List A->List (Option E)|t::a,d::as_l=>Q0 t d++MB a as_l|_,_=>[]
def JP:List CT->List (Option E)|[]=>[]|.nm _::a=>ae::ae::ae::ae::JP a|_::a=>ae::JP a
def aeN:VT->A->List (Option E)|.aM b,d=>Q0 b d|.agg a,.agg as_l=>MB a as_l|.agg a,_=>JP a
def oH:List VT->List A->List (Option E)|t::a,d::as_l=>aeN t d++oH a as_l|_,_=>[]
def Oa(a:A)(b:AS):A×AS:=match a with
 |.ct (.aY e c d)=>intro (.aY e c d) b
 |.ct (.nm f)=>intro (.nm f) b
 |.ct .tu=>intro .tu b
 |.ct (.int k c d)=>intro (.int k c d) b
 |a=>(a,b)
def Eu(a:A)(b:AS):A×AS:=match a with
 |.ct (.aY c d e)=>intro (.aY c d e) b
 |.ct (.nm f)=>intro (.nm f) b
 |a=>(a,b)
def qe:List A->AS->List A×AS|[],a=>([],a)|d::as_l,a=>let b:=Eu d a;let c:=qe as_l b.2;(b.1::c.1,c.2)
def M7(a:A)(b:AS):A×AS:=match a with|.agg as_l=>let c:=qe as_l b;(.agg c.1,c.2)|a=>Oa a b
def J5:List A->AS->List A×AS|[],a=>([],a)|d::as_l,a=>let b:=M7 d a;let c:=J5 as_l b.2;(b.1::c.1,c.2)
def oU:List VT->AS->List A×AS
 |[],a=>([],a)|.aM f::d,a=>let b:=intro f a;let c:=oU d b.2;(b.1::c.1,c.2)
 |.agg g::d,a=>let b:=gZ g a;let e:=qe b.1 b.2;let c:=oU d e.2;(.agg e.1::c.1,c.2)
def j3(c:List Nat):Nat->List VT->AS->List A×AS
 |_,[],d=>([],d)
 |i,.aM h::e,d=>
  let b:=intro h d
  if iw c i then match b.1 with|.aY j g _=>let a:=j3 c (i+1) e (b.2.nA (.rows j g));(.own b.2.nb::a.1,a.2)|_=>let a:=j3 c (i+1) e b.2;(.any::a.1,a.2)
  else let a:=j3 c (i+1) e b.2;(b.1::a.1,a.2)
 |i,.agg k::e,d=>let b:=gZ k d;let f:=qe b.1 b.2;let a:=j3 c (i+1) e f.2;((if iw c i then .any else .agg f.1)::a.1,a.2)
def tF(b:AS):A->A
 |.own a=>match aQ b.H a with|some (.rows c g)=>.aY c g Z|_=>.own a
 |d=>d
def WK(a:List (Option E)):Nat->Option E|0=>J (num 0)|i+1=>match a[i]? with|some (J g)=>J g|_=>ae
def PZ(b:List (Option E))(a:F):Option F:=match WK b a.x,WK b a.y with|some d,J c=>J (dq d ⟨c.x,c.c+a.c⟩)|_,_=>ae
def wY(b:List (Option E))(e:Gs)(a:F):Bool:=match WK b a.x,WK b a.y with|some d,J c=>le e d ⟨c.x,c.c+a.c⟩|_,_=>Z
def QR(b:List (Option E)):List (List F×List F)->AS->AS|[],a=>a|(o,c)::d,a=>QR b d (if o.all (wY b a.G) then a.facts (c.filterMap (PZ b)) else a)
def YU(a:SP)(c:List A)(d:AS)(e:A->AS->Bool):Bool:=
 let b:=j3 a.os 0 a.rs d
 e (Xl b.1) (QR (oH a.ps c++oH a.rs (b.1.map (tF b.2))) a.y6 b.2)
def W7(a:SP)(b:List A)(c:AS):List A×AS:=match a.C8,a.y6 with|[],[]=>(b,c)|_,_=>J5 b c
def OQ(a:SP)(d:List A)(c:AS)(h:A->AS->Bool):Bool:=
 if a.uK then match d with
  |.ptr e i::f=>match aQ c.H e with
   |some (.row [j,k])=>let b:=dS k c
    match b.1 with
    |.int .i64 g=>
     if au i 0&&(!iw c.W e&&(Fh b.2.G j qG&&(le b.2.G (num 0) g&&(le b.2.G g (num (Wu-a.cost))&&(wu b.2.G f a.ps&&a.C8.all (wY (oH a.ps f) b.2.G)))))) then
      let l:=b.2.fresh [dq g ⟨b.2.ns,0⟩,dq ⟨b.2.ns,0⟩ ⟨g.x,g.c+a.cost⟩]
      YU a f (l.nD e (.row [.ct qG,.int .i64 ⟨b.2.ns,0⟩])) h
     else Z
    |_=>Z
   |_=>Z
  |_=>Z
 else(wu c.G d a.ps&&a.C8.all (wY (oH a.ps d) c.G))&&YU a d c h
def Sp(a:SP)(c:List A)(d:AS)(e:A->AS->Bool):Bool:=let b:=W7 a c d;OQ a b.1 b.2 e
variable {c:Fm}{e:Bool}{a:AS}{V:bE}{b:C}{f:St}{h:ah}
theorem Vs.length:∀{b:List VT} {c:List P},Vs b c->c.length=b.length|[],[],_=>rfl|[],_::_,a=>aj|_::_,[],a=>aj|_::_,_::_,a=>by simp[Vs.length a.2]
theorem FU(f:GP a V):∀{ts:List VT} {as_l:List A} {ds:List D},wu a.G as_l ts=aa->cd V as_l ds->∃e,ds=e.map .p/\Vs ts e
 |[],[],[],_,_=>aj|[],[],_::_,_,c=>aj|[],_::_,_,b,_=>by simp[wu]at b|_::_,[],_,b,_=>by simp[wu]at b|_::_,_::_,[],_,c=>aj
 |t::ts,d::as_l,l::ds,b,c=>by
  simp[wu,aq]at b;obtain⟨e,rfl,j⟩:=FU f b.2 c.2;have:∃o,l=.p o/\VT.ok t o:=by
   cases t with
   |aM t=>exact B8 f (by simpa[zC]using b.1) c.1
   |agg r=>
    have h:=b.1;cases d<;>simp[zC]at h;obtain⟨s,k,m⟩:=c.1;obtain⟨n,rfl,p⟩:=LC f h m;rcases k with⟨_,i⟩|⟨u,g,q⟩
    rw[nV]at i;cases i;rw[<-(uh ak).1 q]at g;exact⟨_,g,n,rfl,p⟩
  obtain⟨o,rfl,W⟩:=this;exact⟨o::e,rfl,W,j⟩
theorem ab4(i:GP a V)(e:gX V d (.p o))(c:Yv d=J g):g.x<V.n/\g.val V.ρ=lO o:=by
 cases d<;>simp[Yv]at c<;>try (cases c;done)
 cases c;obtain⟨f,b⟩:=e;cases b;exact aj;cases c;rename_i j;have b:=e;cases b;exact⟨i.n0,by rw[dW i];rfl⟩;rename_i m k n p;obtain⟨f,j,b,h,_⟩:=e;cases b;cases k;cases c;cases c;refine⟨f,?_⟩;simp[E.val,h,lO,Int.add_zero];cases c;obtain⟨f,d,b,h⟩:=e;cases b;exact aj;cases c;obtain⟨f,q,r,b,h,l,_⟩:=e;cases b;exact⟨f,l.trans (J9 h).symm⟩;cases c;have b:=e;cases b;exact⟨i.n0,by rw[dW i];rfl⟩;cases c;obtain⟨f,_,_,_,d,b,_,h,_⟩:=e;cases b;exact aj
def mP(a:bE)(b:List (Option E))(yV:List Int):Prop:=b.length=yV.length/\∀(c:Nat) (g:E),b[c]? =J (J g)->g.x<a.n/\yV[c]? =J (g.val a.ρ)
def mP.append{b:bE}{e:List (Option E)}{f g:List Int}(c:mP b j f)(h:mP b e g):mP b (j++e) (f++g):=by refine⟨by simp[c.1,h.1],λk i a=>?_⟩;rw[jZ]at a⊢;rw[<-c.1];split at a;rename_i d;rw[aU d];exact c.2 k i a;rename_i d;rw[ap d];exact h.2 _ i a
def mP.grow{a b:bE}(c:cM a b){yV:List Int}(d:mP a j yV):mP b j yV:=⟨d.1,λf g h=>by obtain⟨e,i⟩:=d.2 f g h;exact⟨bw e c.n,by rw[E.jM c e];exact i⟩⟩
theorem mP.aM{a:bE}{b:Option E}{c:Int}(d:∀g,b=J g->g.x<a.n/\g.val a.ρ=c):mP a [b] [c]:=by refine⟨rfl,λe g f=>?_⟩;grind
theorem Uk(f:GP a V){c:CT}(e:gX V d (.p o)):mP V (Q0 c d) (xP c o):=by unfold Q0 xP;split;split;rename_i i j k l;obtain⟨m,n,p,q,r,h,_,s,t,u,v⟩:=e;cases h;exact mP.append (mP.aM (λg b=>by cases b;exact aj)) (mP.append (mP.aM (λg b=>by cases b;exact aj)) (mP.append (mP.aM (λg b=>by cases b;exact aj)) (mP.aM (λg b=>by cases b;exact aj))));exact mP.append (mP.aM ak) (mP.append (mP.aM ak) (mP.append (mP.aM ak) (mP.aM ak)));exact mP.aM λg b=>ab4 f e b
theorem PT(b:GP a V):∀{c:List CT} {as_l:List A} {e:List P},Row c e->cd V as_l (e.map .p)->mP V (MB c as_l) (vp c e)|[],[],[],_,_=>⟨rfl,λj g h=>by simp[MB]at h⟩|[],_::_,[],_,f=>aj|[],_,_::_,b,_=>aj|_::_,_,[],b,_=>aj|_::_,[],_::_,_,f=>aj|t::c,d::as_l,o::e,i,f=>by simp[Row]at i;exact(Uk b f.1).append (PT b U f.2)
theorem Pu{V:bE}:∀{b:List CT} {d:List P},Row b d->mP V (JP b) (vp b d)|[],[],_=>⟨rfl,λh g e=>by simp[JP]at e⟩|[],_::_,c=>aj|_::_,[],c=>aj|t::b,o::d,c=>by simp[Row]at c;have ih:=Pu (V:=V) c.2;have a:∀{f:Int},mP V [ae] [f]:=mP.aM ak;cases t with|nm t=>exact mP.append a (mP.append a (mP.append a (mP.append a ih)))|_=>exact mP.append a ih
def adi(c:GP a V){b:VT}(h:VT.ok b o)(e:gX V d (.p o)):mP V (aeN b d) (Al b o):=by
 cases b with
 |aM b=>exact Uk c e
 |agg l=>
  obtain⟨m,rfl,f⟩:=h;cases d with
  |agg as_l=>
   obtain⟨ds,i,j⟩:=e;rcases i with⟨g,n⟩|⟨p,g,k⟩
   cases g;cases g;subst k;exact PT c f.1 j
  |_=>exact Pu f.1
theorem vw(b:GP a V):∀{c:List VT} {as_l:List A} {e:List P},Vs c e->cd V as_l (e.map .p)->mP V (oH c as_l) (rE c e)|[],[],[],_,_=>⟨rfl,λj g i=>by simp[oH]at i⟩|[],_::_,[],_,f=>aj|[],_,_::_,b,_=>aj|_::_,_,[],b,_=>aj|_::_,[],_::_,_,f=>aj|t::c,d::as_l,o::e,h,f=>(adi b h.1 f.1).append (vw b h.2 f.2)
theorem uB{c:bE}(e:GP a c){yV:List Int}(f:mP c j yV){b:Nat}(d:WK j b=J g):g.x<c.n/\g.val c.ρ=AA yV b:=by
 cases b with
 |zero=>cases d;exact⟨e.n0,dW e⟩
 |succ b=>simp[WK]at d;split at d;rename_i l h;cases d;obtain⟨i,k⟩:=f.2 b _ h;exact⟨i,by simp[AA,k]⟩;grind
theorem Z4{e:bE}(b:GP a e){yV:List Int}(f:mP e j yV){g:F}(c:wY j a.G g=aa):g.ok (AA yV):=by unfold wY at c;split at c;rename_i d m h i;obtain⟨n,k⟩:=uB b f h;obtain⟨o,l⟩:=uB b f i;have:=dP b.hf c;rw[ju,k,l]at this;unfold F.ok;omega;grind
theorem abr{c:bE}{b:SP}(d:GP a c)(e:Vs b.ps L)(f:cd c as_l (L.map .p))(W:b.C8.all (wY (oH b.ps as_l) a.G)=aa):Pre b L:=λg h=>Z4 d (vw d e f) ak
theorem Ts{q:List (Option E)}{yV:List Int}:∀(r:List (List F×List F)) (a:AS),GS c e a V b->mP V q yV->(∀s∈r,(∀g∈s.1,g.ok (AA yV))->∀g∈s.2,g.ok (AA yV))->GS c e (QR q r a) V b
 |[],a,f,_,_=>f
 |(o,t)::u,a,f,h,W=>by
  simp only[QR];refine Ts u _ ?_ h i0;split;rename_i v;refine f.facts λg w=>?_;obtain⟨x,y,i⟩:=qT.1 w;have z:∀g∈o,g.ok (AA yV):=by intro g A;have:=jC.1 v g A;unfold wY at this;split at this;rename_i d B j k;obtain⟨l,m⟩:=uB f.p h j;obtain⟨n,p⟩:=uB f.p h k;have:=dP f.p.hf ar;rw[ju,m,p]at this;unfold F.ok;omega;grind
  have C:=W (o,t) ja z x y;unfold PZ at i;split at i;rename_i d B j k;cases i;obtain⟨l,m⟩:=uB f.p h j;obtain⟨n,p⟩:=uB f.p h k;rw[f.p.vn]at l n;refine⟨l,n,λ_=>nM ?_⟩;rw[ju,m,p];unfold F.ok at C;omega;grind;exact ar
def ZY{f:AS}{a:bE}(g:GS c e f a b)(h:gX a d l):∃i,GS c e (Eu d f).2 i b/\cM a i/\gX i (Eu d f).1 l:=by unfold Eu;split;obtain⟨o,rfl,j⟩:=h;exact mV g j;obtain⟨o,rfl,j⟩:=h;exact mV g j;exact⟨a,g,cM.refl a,h⟩
def aaU{i:AS}{f:bE}(g:GS c e i f b)(h:gX f d l):∃j,GS c e (Oa d i).2 j b/\cM f j/\gX j (Oa d i).1 l:=by unfold Oa;split;obtain⟨o,rfl,a⟩:=h;exact mV g a;obtain⟨o,rfl,a⟩:=h;exact mV g a;obtain⟨o,rfl,a⟩:=h;exact mV g a;obtain⟨o,rfl,a⟩:=h;exact mV g a;exact⟨f,g,cM.refl f,h⟩
theorem B0:∀{as_l:List A} {ds:List D} {a:AS} {V:bE},GS c e a V b->cd V as_l ds->∃g,GS c e (qe as_l a).2 g b/\cM V g/\cd g (qe as_l a).1 ds|[],[],a,V,h,_=>⟨V,h,cM.refl V,ar⟩|[],_::_,_,_,_,f=>aj|_::_,[],_,_,_,f=>aj|d::as_l,l::ds,a,V,h,f=>by obtain⟨q,k,i,m⟩:=ZY h f.1;obtain⟨n,o,j,p⟩:=B0 k (f.2.grow i);exact⟨n,o,i.trans j,m.grow j,p⟩
def aaq{a:AS}{f:bE}(h:GS c e a f b)(i:gX f d l):∃g,GS c e (M7 d a).2 g b/\cM f g/\gX g (M7 d a).1 l:=by unfold M7;split;obtain⟨ds,j,k⟩:=i;obtain⟨m,n,o,p⟩:=B0 h k;exact⟨m,n,o,ds,j,p⟩;exact aaU h i
theorem MP:∀{as_l:List A} {ds:List D} {a:AS} {V:bE},GS c e a V b->cd V as_l ds->∃g,GS c e (J5 as_l a).2 g b/\cM V g/\cd g (J5 as_l a).1 ds|[],[],a,V,h,_=>⟨V,h,cM.refl V,ar⟩|[],_::_,_,_,_,f=>aj|_::_,[],_,_,_,f=>aj|d::as_l,l::ds,a,V,h,f=>by obtain⟨q,k,i,m⟩:=aaq h f.1;obtain⟨n,o,j,p⟩:=MP k (f.2.grow i);exact⟨n,o,i.trans j,m.grow j,p⟩
def ai4{g:SP}{d:AS}{a:bE}(h:GS c e d a b)(i:cd a as_l ds):∃f,GS c e (W7 g as_l d).2 f b/\cM a f/\cd f (W7 g as_l d).1 ds:=by unfold W7;split;exact⟨a,h,cM.refl a,i⟩;exact MP h i
def yI(a b:AS):Prop:=b.H=a.H/\b.T=a.T/\b.W=a.W/\b.nb=a.nb/\b.rb=a.rb/\b.iz=a.iz/\b.used=a.used
def yI.refl(a:AS):yI a a:=⟨rfl,rfl,rfl,rfl,rfl,rfl,rfl⟩
def yI.trans{c d e:AS}(a:yI c d)(b:yI d e):yI c e:=⟨b.1.trans a.1,b.2.1.trans a.2.1,b.2.2.1.trans a.2.2.1,b.2.2.2.1.trans a.2.2.2.1,b.2.2.2.2.1.trans a.2.2.2.2.1,b.2.2.2.2.2.1.trans a.2.2.2.2.2.1,b.2.2.2.2.2.2.trans a.2.2.2.2.2.2⟩
def ad0(b:A)(a:AS):yI a (Eu b a).2:=by unfold Eu;split;exact wa _ a;exact wa _ a;exact .refl a
def AE:∀(as_l:List A) (a:AS),yI a (qe as_l a).2|[],a=>.refl a|d::as_l,a=>(ad0 d a).trans (AE as_l _)
theorem Gd:∀{f:List VT} {i:List P} {a:AS} {V:bE},GS c e a V b->Vs f i->∃j,GS c e (oU f a).2 j b/\cM V j/\cd j (oU f a).1 (i.map .p)
 |[],[],a,V,d,_=>⟨V,d,cM.refl V,ar⟩|[],_::_,_,_,_,d=>aj|_::_,[],_,_,_,d=>aj|.aM x::f,o::i,a,V,d,g=>by obtain⟨r,k,l,m⟩:=mV d g.1;obtain⟨n,p,h,q⟩:=Gd k g.2;exact⟨n,p,l.trans h,m.grow h,q⟩
 |.agg y::f,o::i,a,V,d,g=>by obtain⟨s,rfl,t⟩:=g.1;obtain⟨r,k,l,m⟩:=DY d t;obtain⟨z,u,v,w⟩:=B0 k m;obtain⟨n,p,h,q⟩:=Gd u g.2;exact⟨n,p,l.trans (v.trans h),⟨s.map .p,.inr Y,w.grow h⟩,q⟩
theorem GS.abY(d:GS c e a V b){f:Nat}(g:b.nx<=f):GS c e a V {b with nx:=f}:=⟨d.p,d.je,⟨d.m.m,d.m.dj,d.m.heap,d.m.yn,d.m.inj,d.m.own,d.m.frame,d.m.free,gJ d.m.room g,d.m.base,d.m.ss,λid h=>d.m.fr id ak,d.m.rb,d.m.wB⟩⟩
theorem vU(d:List Nat):∀(b:List VT) (c:Nat) (a:AS),a.nb<=(j3 d c b a).2.nb/\∀e,e<a.nb->aQ (j3 d c b a).2.H e=aQ a.H e
 |[],_,a=>aj|.aM h::b,c,a=>by obtain⟨i,_,_,k,_⟩:=wa h a;have plain:=vU d b (c+1) (intro h a).2;simp[j3];split;split;rename_i l g n _;obtain⟨m,j⟩:=vU d b (c+1) ((intro h a).2.nA (.rows l g));simp[AS.nA]at m j;refine⟨by simp[AS.nA];omega,λe o=>?_⟩;have:=j e y;simp[AS.nA];rw[this,dQ,ap y,i];grind;grind
 |.agg f::b,c,a=>by obtain⟨i,_,_,k,_⟩:=yI.trans (BX f a) (AE (gZ f a).1 _);have plain:=vU d b (c+1) (qe (gZ f a).1 (gZ f a).2).2;simp[j3];grind
def Yh(a:CT)(b c:AS):tF c (intro a b).1=(intro a b).1:=by cases a<;>rfl
theorem yN{fm:Fm}{h:List Nat}{x I:Nat}:∀{e:List VT} {f:Nat} {n:List P} {ds:List D} {a:AS} {V:bE} {b:C} {q:ah},GS fm Z a V b->I<=b.nx->b.bs+a.iz<=x->(∀id,x<=id->b.Y id=ae)->
 Vs e n->lg x I h f e n ds b.X q->∃i,GS fm Z (j3 h f e a).2 i {b with X:=q}/\cM V i/\cd i (j3 h f e a).1 ds/\cd i ((j3 h f e a).1.map (tF (j3 h f e a).2)) (n.map .p)
 |[],f,[],[],a,V,b,q,t,_,_,_,_,c=>by have c:q=b.X:=c;subst c;exact⟨V,t,cM.refl V,ar,ar⟩|[],_,[],_::_,_,_,_,_,_,_,_,_,_,c=>aj|[],_,_::_,_,_,_,_,_,_,_,_,_,t,_=>aj|_::_,_,[],_,_,_,_,_,_,_,_,_,t,_=>aj|.aM j::e,_,o::n,[],_,_,_,_,_,_,_,_,_,c=>aj|.agg j::e,_,o::n,[],_,_,_,_,_,_,_,_,_,c=>aj
 |.aM j::e,f,o::n,l::ds,a,V,b,q,t,K,hc,L,r,c=>by
  obtain⟨M,N,O,z⟩:=mV t r.1;obtain⟨q1,_,_,q2,_,q4,_⟩:=wa j a;simp only[lg]at c;have plain:∀d:A,gX M d l->gX M d (.p o)->(∀Q,tF Q d=d)->lg x I h (f+1) e n ds b.X q->
   ∃i,GS fm Z (j3 h (f+1) e (intro j a).2).2 i {b with X:=q}/\cM V i/\cd i (d::(j3 h (f+1) e (intro j a).2).1) (l::ds)/\
    cd i ((d::(j3 h (f+1) e (intro j a).2).1).map (tF (j3 h (f+1) e (intro j a).2).2)) ((o::n).map .p):=by
   intro d ha ad ag c;obtain⟨u,v,k,r2,s2⟩:=yN N K y L r.2 c;exact⟨u,v,O.trans k,⟨ha.grow k,r2⟩,⟨by rw[ag];exact ad.grow k,s2⟩⟩
  simp only[j3];split at c;rename_i R;rw[aU R];split;rename_i B g aI he;rw[he]at z;obtain⟨F,p',S,x2,x3,x4,x5,_⟩:=z;cases x2;rcases c with⟨W,hd,c⟩|⟨ao,aO,id,ac,W,⟨m,G,H,ht,ax⟩,i1,i2,i3,hd,c⟩
  subst W hd;have al:S=[]:=by cases x3;rfl
  subst al;obtain⟨u,v,k,n2,a2,b2⟩:=N.aoD (ab:=.rows B g) (λi ac r=>⟨bw F ac.n,by rw[r];exact⟨by rw[E.jM ac F,x4];rfl,x5⟩⟩);obtain⟨w,T,s,r3,s3⟩:=yN v K (by simp only[AS.nA];omega) L r.2 c;have lk:=(vU h e (f+1) ((intro j a).2.nA (.rows B g))).2 (intro j a).2.nb i0;rw[show aQ ((intro j a).2.nA (.rows B g)).H (intro j a).2.nb=J (.rows B g) by simp[AS.nA,dQ]]at lk;refine⟨w,T,O.trans (k.trans s),⟨(show gX u (.own (intro j a).2.nb) _ from⟨b2,ak⟩).grow s,r3⟩,?_,s3⟩;simp only[tF,lk];exact(show gX M (.aY B g Z) (.p (.v (.slice ae 0 0))) from⟨F,_,[],rfl,x3,x4,x5,U⟩).grow (k.trans s);subst W hd;cases ht;have ay:m=B:=by simp only[intro]at he;cases he;rfl
  subst ay;have al:S=ao:=by cases x3;rfl
  subst al;subst ax;obtain⟨u,v,k,n2,m2,a2,b2⟩:=N.nA (ab:=.rows m g) i1 y y i3 U (λi g' r hm=>⟨bw F g'.n,by rw[r];exact⟨ac,S,hm,by rw[E.jM g' F,x4],x5⟩⟩)
  obtain⟨w,T,s,r3,s3⟩:=yN v K ar L r.2 c;have lk:=(vU h e (f+1) ((intro (.aY m G H) a).2.nA (.rows m g))).2 (intro (.aY m G H) a).2.nb i0;rw[show aQ ((intro (.aY m G H) a).2.nA (.rows m g)).H (intro (.aY m G H) a).2.nb=J (.rows m g) by simp[AS.nA,dQ]]at lk;refine⟨w,T,O.trans (k.trans s),⟨(show gX u (.own (intro (.aY m G H) a).2.nb) _ from⟨b2,ak⟩).grow s,r3⟩,?_,s3⟩;simp only[tF,lk];exact(show gX M (.aY m g Z) (.p (.im S m.length Z)) from⟨F,_,S,rfl,x3,x4,x5,U⟩).grow (k.trans s);have aB:lg x I h (f+1) e n ds b.X q:=by rcases c with⟨_,_,c⟩|⟨_,_,_,_,_,⟨m,G,H,ht,_⟩,_⟩;exact c;cases ht;exact aj
  exact plain .any aj aj aj aB;rename_i R;rw[ap R];obtain⟨rfl,c⟩:=c;exact plain _ z z (λQ=>Yh j a Q) c
 |.agg p::e,f,o::n,l::ds,a,V,b,q,t,K,hc,L,r,c=>by
  obtain⟨qs,rfl,hq⟩:=r.1;obtain⟨M,N,O,z⟩:=DY t hq;obtain⟨w,T,s,r3⟩:=B0 N z;obtain⟨q1,_,_,q2,_,q4,_⟩:=yI.trans (BX p a) (AE (gZ p a).1 _);simp only[lg]at c;simp only[j3];have aE:∀d:A,gX w d l->gX w d (.p (.agg qs))->(∀Q,tF Q d=d)->lg x I h (f+1) e n ds b.X q->
   ∃i,GS fm Z (j3 h (f+1) e (qe (gZ p a).1 (gZ p a).2).2).2 i {b with X:=q}/\cM V i/\cd i (d::(j3 h (f+1) e (qe (gZ p a).1 (gZ p a).2).2).1) (l::ds)/\
    cd i ((d::(j3 h (f+1) e (qe (gZ p a).1 (gZ p a).2).2).1).map (tF (j3 h (f+1) e (qe (gZ p a).1 (gZ p a).2).2).2)) ((.agg qs::n).map .p):=by
   intro d ha ad ag c;obtain⟨u,v,k,r2,s2⟩:=yN T K y L r.2 c;exact⟨u,v,O.trans (s.trans k),⟨ha.grow k,r2⟩,⟨by rw[ag];exact ad.grow k,s2⟩⟩
  split at c;grind;rename_i R;rw[ap R];obtain⟨rfl,c⟩:=c;have an:gX w (.agg (qe (gZ p a).1 (gZ p a).2).1) (.p (.agg qs)):=⟨qs.map .p,.inr Y,r3⟩;exact aE _ an an aj c
def UT{d:SP}{e:List P}{f h:Nat}{i:ah}(m:GS c Z a V b)(n:YU d as_l a k=aa)(o:h<=b.nx)(p:b.bs+a.iz<=f)(q:∀id,f<=id->b.Y id=ae)(r:Vs d.ps L)(s:cd V as_l (L.map .p))(j:Vs d.rs e)(W:OO d L e)(t:lg f h d.os 0 d.rs e ds b.X i):jS c Z k V b (aM ds) i b.nx:=by obtain⟨u,g,l,v,s1⟩:=yN m o p q j t;have w:=vw g.p r (s.grow l);have x:=vw g.p j s1;exact⟨_,_,u,n,Ts d.y6 _ g (w.append x) W,l,aaK v⟩
theorem W3{o:SP}(R:bz Q o)(e:OQ o as_l a k=aa)(d:GS c Z a V (dY f h))(r:cd V as_l ds):X Q o.f ds f.O f.nx (jk c Z k V f h):=by
 unfold OQ at e;split at e;rename_i s;split at e;rename_i m a4 a5;cases ds with
 |nil=>exact r.elim
 |cons l ds=>
  obtain⟨ag,y⟩:=r;split at e;rename_i lc b z;dsimp only at e;split at e;rename_i g he;split at e;rename_i S;simp only[aq,lJ]at S;obtain⟨A,T,c3,c4,c5,c6⟩:=S;have A:=aK A;subst A;obtain⟨p,w,t,e1,e2,B,e4,u⟩:=Nf d ag z (by simp[kP,T]);cases t with
  |nil=>exact u.elim
  |cons dl t=>
   cases t with
   |nil=>exact u.2.elim
   |cons da t=>
    cases t with
    |cons=>exact u.2.2.elim
    |nil=>
     obtain⟨j,i,q,Y⟩:=is d u.2.1;rw[he]at Y;obtain⟨x,x2⟩:=Y;subst x2;obtain⟨C,rfl,hL⟩:=B8 i.p c3 (u.1.grow q);have l4:=dP i.p.hf c4;have l5:=dP i.p.hf c5;rw[dW i.p]at l4 l5;obtain⟨L,rfl,al⟩:=FU i.p c6.1 (y.grow q);have a6:=abr i.p ar (y.grow q) U;have B:f.O p=J (.row 2 w [[.p C,.p (I (g.val j.ρ))]]):=B;have an:p<f.nx:=iP λao=>by have:=d.m.fr p ao;grind
     subst e4;refine((R f.O f.nx _ L ar ar).2 s) p w C (g.val j.ρ) an B hL l4 l5 λax ay n F aB O' G aE aI aO aP W H=>?_;have aR:LF (dS b a).2.ns (j.gF n).ρ [dq g ⟨(dS b a).2.ns,0⟩,dq ⟨(dS b a).2.ns,0⟩ ⟨g.x,g.c+o.cost⟩]:=LF.cons (nG i x) aw (by rw[qg x,dG i];exact aO) (LF.cons aw (nG i x) (by rw[yw i x,dG i];exact aP) LF.nil)
     have K:=aR.fresh i;have M:=j.j7 n;obtain⟨fH,_⟩:=OA b a;have ad:aQ ((dS b a).2.fresh [dq g ⟨(dS b a).2.ns,0⟩,dq ⟨(dS b a).2.ns,0⟩ ⟨g.x,g.c+o.cost⟩]).H m=J (.row [lc,b]):=by show aQ (dS b a).2.H m=_;rw[fH];exact z
     have aS:(j.gF n).ν m=J p:=by
      have a0:m<V.nb:=by rw[d.p.vb];exact(d.m.heap m _ z).1
      have a1:((j.gF n).H m).isSome=aa:=jI K ad;rw[((q.trans M).gu m a0 a1).2.1];exact e1
     have a2:(j.gF n).M p=J (.row 2 w [[.p C,.p (I (g.val j.ρ))]]):=by rw[K.m.m,<-d.m.m];exact e2
     have a7:kP ((dS b a).2.fresh [dq g ⟨(dS b a).2.ns,0⟩,dq ⟨(dS b a).2.ns,0⟩ ⟨g.x,g.c+o.cost⟩]) Z m=aa:=by obtain⟨_,_,fW,_⟩:=OA b a;show(iw (dS b a).2.W m==Z)=aa;rw[fW,T];rfl
     obtain⟨V3,h3,N⟩:=K.store (es':=[[.p F,.p (I n)]]) (ab:=.row [.ct qG,.int .i64 ⟨(dS b a).2.ns,0⟩]) ad aS a2 rfl ar (λN=>by refine⟨p,2,w,[.p F,.p (I n)],by simp[bE.wr],by simp[bE.wr],rfl,⟨F,rfl,aI⟩,⟨?_,?_⟩,aj⟩;show(dS b a).2.ns<j.n+1;rw[i.p.vn];omega;show D.p (I n)=D.p (.v (.int .i64 ((⟨(dS b a).2.ns,0⟩:E).val (j.gF n).ρ)));rw[dG i])
     have h4:=h3.abY G;have O:∀id,f.nx<=id->h id=ae:=λid P=>by have v:=d.m.fr id P;rw[d.m.m]at v;exact(mU v).2
     have a3:f.bs+(dS b a).2.iz<=f.nx:=by obtain⟨_,_,_,_,_,fc,_⟩:=OA b a;rw[fc];exact d.m.room
     have:=UT h4 e (bV _) a3 O ar ((y.grow q).grow (M.trans N)) ar W H;exact jS.grow (q.trans (M.trans N)) ar
  cases e;cases e;cases e
 cases e;rename_i s;have s:o.uK=Z:=by simpa using s
 simp only[aq]at e;obtain⟨L,rfl,al⟩:=FU d.p e.1.1 r;refine((R f.O f.nx _ L ar (abr d.p ar r U)).1 s) λax ay aB O' G aE W H=>?_;have O:∀id,f.nx<=id->h id=ae:=λid P=>by have v:=d.m.fr id P;rw[d.m.m]at v;exact(mU v).2
 exact UT (d.abY G) U (bV _) d.m.room O ar r ar W H
def PX{b:SP}(d:bz Q b)(e:Sp b as_l a k=aa)(g:GS c Z a V (dY f h))(i:cd V as_l ds):X Q b.f ds f.O f.nx (jk c Z k V f h):=by obtain⟨p,j,m,n⟩:=ai4 g i;exact br _ _ _ _ _ _ (λl q r o=>jS.grow m o) (W3 d e j n)
end
end Go.Dl.Ai
