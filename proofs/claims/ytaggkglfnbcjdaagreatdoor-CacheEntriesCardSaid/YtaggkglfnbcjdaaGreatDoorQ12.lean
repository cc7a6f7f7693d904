import Derived.Test.YtaggkglfnbcjdaaGreatDoorQ11
set_option linter.all false
set_option maxRecDepth 1000000
set_option maxHeartbeats 40000000
namespace Go.Dl.Ai
end Go.Dl.Ai
namespace Go.Proofs
end Go.Proofs
namespace Ty
end Ty
open Bool renaming false->Z,true->aa
open ByteArray renaming size->iO
open Classical renaming axiomOfChoice->Qp
open Go.IntKind renaming bits->m9,i32->AQ,i64->cI,wrap->qW
open Go.Proofs.Tryz renaming prog->af
open Go.Utf8 renaming encode->gY
open Go.Value renaming oneCell'->aJ,slice->GY
open List renaming range->cZ
open Nat renaming beq->au
open Option renaming none->ae,some->J
open Go Go.Dl Go.Dl.Ai
def Ge:=@List.getElem?_range
variable {bO O1 cJ:ah}{bZ n sid sg nx1 g3 idE gE i9 i v7 c91 K db fe w c e p u fq fw C aB V v bX Q bM dT dH x cU bH eV bT id:Nat}{H em es bB bS:List (List P)}{bn eJ:D}{N cT:Int}{T1 E:Nat->D}{ep fk:P}{hd xs ag row:List P}{s t:St}{aP:Exit->St->Prop}{f cg cE bC be:Bool}{aS eK aR:ByteArray}{R:Nat->List (List P)}{eZ:cR}{bu:D->ah->Nat->Prop}{bA:av}
namespace Go.Dl
open Go.Proofs Go.Dl.Ai
def Kw{a:ah}:∀(H:List P),mB a (H.map D.p) H|[]=>.nil|aS::H=>.cons _ _ _ _ (.p aS) (Kw H)
def IY{a:ah}:∀{Q p:List D} {c d:List P},mB a Q c->mB a p d->mB a (Q++p) (c++d)|_,_,_,_,.nil,b=>b|_,_,_,_,.cons _ _ _ _ e f,b=>.cons _ _ _ _ e (IY f b)
def Kl{a:ah}:∀(H:List (List P)),qH a (aW H) H|[]=>.nil|ag::H=>.cons _ _ _ _ (Kw ag) (Kl H)
def PV{a:ah}:∀{Q p:List (List D)} {c d:List (List P)},qH a Q c->qH a p d->qH a (Q++p) (c++d)|_,_,_,_,.nil,b=>b|_,_,_,_,.cons _ _ _ _ e f,b=>.cons _ _ _ _ e (PV f b)
theorem P8(b:de bO bZ n (aW H) bn):∃a,qP bO bn a/\Sl n a H:=by rcases b.sl with⟨rfl,rfl⟩|⟨id,v,_,rfl,c⟩;exact⟨_,.p _,.nil⟩;refine⟨.im H n Z,?_,.im _ _⟩;have:=qP.sl id v 0 H.length n Z _ H c Y (Kl H);grind
theorem aij(hN:0<=N/\N<=4611686018425000000)(Q:Du sid sg N T1 O1 nx1 g3 idE gE i9 i ep es hd v7 c91 K bB s)(a1:hd.length=6)(hj:K<=100)(hi:i<=100)(h7:v7<=1000)(R:Am em)(r:Sl 2 ep em)(T:∀a,Sl 9 a bB->jp em (es++[hd++[a,nl,nl,nl]]))(W:∀t f v w,Du sid sg (N+5000) T1 O1 nx1 g3 idE gE i9 i ep es hd v7 c91 K bB t->JE f->t.T 10=.ptr v w 9 0 0->t.O v=J (.row 9 w [f.map D.p])->aP .normal t):
 bx (X af) (.dg 13 aa (aZ 94 (xM 0)::aZ 98 (xF 3 0)::aZ 99 (jP 1 98)::aZ 100 (CM 2 3)::aZ 101 (xF 9 0)::aZ 102 (jP 1 101)::aZ 10 (.alloc 11 9 [aF,aH,aF,dZ,aH,aH,aF,aD,aD])::G 95 0::G 96 7::q 97 (dV 41 95 96)::UG)) s aP:=by
 letI:Gh:=jo;have ab:=Q;obtain⟨⟨fT,ac,a2,a4,b,a5⟩,h0,h3,h8,⟨g9,bA,h9,x⟩,ad,a6,ag,z,⟨j,A,C⟩,al,an,E,k,a7,a8⟩:=ab;have a0:s.T 0=.ptr sid sg 2 0 0:=U;have a3:s.T 3=.ptr nx1 g3 2 0 0:=U;have a9:s.T 9=.ptr i9 g9 10 0 0:=U;have n3:=b.lt z;have nE:=b.lt A;have n9:=b.lt x;have m1:idE≠nx1:=y;have m2:sid≠nx1:=y;have m3:sid≠i9:=y;have m4:i9≠nx1:=y;intro V;refine⟨[nx1,i9],?_⟩;simp(disch:=omega)[only,a0,a3,a9,z,x,m4,ba,ag,cF,dv];refine⟨n3,n9,?_⟩;refine ZX y y (ac.aL (by simp[aX,m2,m3])) y y λbX aR c bb hz F bd=>?_;have be:(VZ).cost=0:=rfl;simp(disch:=omega)[UG];have ao:∀e p,e≠sid->e≠nx1->e≠i9->s.O e=J p->c e=J p:=λe p k0 l m n=>by rw[F e k0];simp[aX,l,m,n]
 have ax:=ao idE _ y m1 (dB E) A;have L2:de c (nx1+1) 9 (aW bB) j:=C.gM ak;have ay:Fr c bX:=λe d=>by rw[F e y];simp only[aX];split<;>first|rfl|exact b e y
 obtain⟨a,vq,sq⟩:=P8 L2;have bk:=T a sq;have bl:(es++[hd++[a,nl,nl,nl]]).length=i+1:=by simp[k]
 have hv:qP c (.agg [.p ep,.sl idE gE 0 (i+1) 10 Z]) (.agg [ep,.im (es++[hd++[a,nl,nl,nl]]) 10 Z]):=by refine .agg _ _ (.cons _ _ _ _ (.p _) (.cons _ _ _ _ ?_ .nil));have hr:qH c (aW es++[hd.map D.p++[j,.p nl,.p nl,.p nl]]) (es++[hd++[a,nl,nl,nl]]):=PV (Kl es) (.cons _ _ _ _ (IY (Kw hd) (.cons _ _ _ _ vq (.cons _ _ _ _ (.p _) (.cons _ _ _ _ (.p _) (.cons _ _ _ _ (.p _) .nil))))) .nil);have:=qP.sl idE gE 0 (i+1) 10 Z _ _ ax (by simp[k]) hr;rw[gK,cp y]at this;exact ar
 refine ah0 ar y ay hv r (.im _ _) y λbm bn bo hq=>?_;simp(disch:=omega)[aaP];refine ahU R r hz hq ar y y λaB f g bs H bu L=>?_;have M:f.length=9:=by have:=(H jo).length;simpa[Ty.CX,Ty.kf]using this
 have aE:D.cells (.p (.agg f))=f.map .p:=by simp[D.cells,dw]
 have aI:bI [D.p (S {data:= #[]}),D.p (I 0),D.p (S {data:= #[]}),D.p (B Z),D.p (I 0),D.p (I 0),D.p (S {data:= #[]}),D.p (P.v (GY ae 0 0)),D.p (P.v (GY ae 0 0))] (f.map D.p) 0=f.map D.p:=by simp[bI,M]
 simp(disch:=omega)[Z6,M,aE,aI];generalize o:bp g (am (only [nx1,i9] s.O) (s.nx+11) (J (.row 9 (V (s.nx+11)) [f.map D.p])))=h;have O:∀e,e≠sid->g e=aX [nx1,i9] s.O e:=U;have aO:∀e,e≠sid->e≠s.nx+11->h e=s.O e:=by intro e l m;rw[<-o];simp only[bp,ai m,O e l,aX,only];split;grind;grind
 have vs:h sid=g sid:=by rw[<-o];obtain⟨_,_,u,_⟩:=L;simp[bp,u]
 have aS:h (s.nx+11)=J (.row 9 (V (s.nx+11)) [f.map D.p]):=by
  rw[<-o];have:g (s.nx+11)=ae:=by rw[O _ y];simp only[aX];split<;>first|rfl|exact b _ y
  simp[bp,this]
 have bC:∀e p,e≠sid->s.O e=J p->h e=J p:=λe p k0 n=>by have:=b.lt n;grind
 have m5:nx1≠sid:=y;refine W _ f (s.nx+11) (V (s.nx+11)) ⟨⟨λe d=>?_,(L.mono y).aL vs,ak,aw,λe d=>?_,y⟩,h0,h3,h8,ak,ad,ar,ar,U,⟨j,ak,C.gM ak⟩,al,an,E,k,y,U⟩ H Y aS
 .simp only[bP];repeat rw[ap y]
  exact U
 have d:aB<=e:=d;exact(aO e y y).trans (b e y)
def amP{b c:Nat}{a:List P}(d:Du sid sg (N+5000) T1 O1 nx1 g3 idE gE i9 i ep es hd v7 c91 K bB s)(f:hd.length=6)(g:K<=100)(h:i<=100)(u:v7<=1000)(j:JE a)(k:a.length=9)(v:s.T 10=.ptr b c 9 0 0)(l:s.O b=J (.row 9 c [a.map .p]))(m:∀t,Du sid sg N T1 O1 nx1 g3 idE gE i9 i ep es hd (v7+1) c91 (K+1) (bB++[a]) {t with T:=λe=>if e=92 then .p (I ((K+1:Nat):Int)) else t.T e}->t.T 92=.p (I K)->aP .normal t):
 bx (X af) UI s aP:=by
 letI:=jo;have n:=d.h7;have o:=lW (i:=v7) y;rw[show UI= z 3 [G 105 7,q 106 (di .add 105 1),G 7 106] _ from rfl,bF,dD];intro V;have p:∀bu:St->Prop,(bu {T:=eF (eF (eF s.T 105 (.p (I v7))) 106 (.p (I ((v7+1:Nat):Int)))) 7 (.p (I ((v7+1:Nat):Int))),O:=s.O,nx:=s.nx+3,bs:=s.nx,gm:=V})->eN (X af) [G 105 7,q 106 (di .add 105 1),G 7 106] {s with bs:=s.nx,nx:=s.nx+3,gm:=V} bu:=by intro bu r;simp[n,binOp,aC,o];exact r
 refine p _ (aja (d.next (λe w=>?_) Y rfl aw) f g h j k ar l m);exact cj
theorem ahE(C:0<=N/\N<=4611686018424000000)(a:Du sid sg N T1 O1 nx1 g3 idE gE i9 i ep es hd v7 c91 0 [] s)(c:hd.length=6)(D:c91<=3)(d:i<=100)(E:v7<=900)(m:Am em)(n:Sl 2 ep em)(o:∀bB b,List.length bB<=3->(∀f∈bB,JE f)->Sl 9 b bB->jp em (es++[hd++[b,nl,nl,nl]]))(p:∀t bB,Du sid sg N T1 O1 nx1 g3 idE gE i9 i ep es hd (v7+c91) c91 c91 bB t->aP (.exit 6) t):cH (X af) (.loop TY) s aP:=by
 letI:Gh:=jo;refine⟨λe s=>∃K:Nat,e=c91-K/\K<=c91/\∃bB,Du sid sg N T1 O1 nx1 g3 idE gE i9 i ep es hd (v7+K) c91 K bB s,⟨_,0,rfl,y,[],a⟩,?_⟩;clear a;rintro e s ⟨K,rfl,F,bB,a⟩;have g:s.T 91=.p (I c91):=(a.fm.fT 91 y).trans a.h91;have h:=a.h92;show cH _ (.seq _ (.seq _ (.seq _ _))) _ _;refine bU br ?_;by_cases q:K<c91;have r:=lW (i:=K) y;simp[g,h,binOp,aC,q];intro V;refine bU br ?_;simp[-az];rw[iY,lF];refine bU br ?_;refine aij (v7:=v7+K) y (a.next (λe j=>?_) ?_ rfl aw) c y d y m n (λb u=>o bB b (by have:=a.len;omega) a.all u) λt f G H v k w x=>?_;exact cj
 .simp only[bP];repeat rw[ap y]
  exact a.h7
 have z:f.length=9:=by have:=(k jo).length;simpa[Ty.CX,Ty.kf]using this
 refine mJ br _ (amP v c y d y k z w x λs2 l A=>?_);show cH _ (.dg _ _ _) _ _;refine mJ br _ ?_;simp[Zh,A,binOp,aC,r];intro L;refine⟨_,?_,K+1,rfl,y,bB++[f],l.next (λe j=>?_) ?_ rfl aw⟩;omega;by_cases M:e=92;exact U;exact cj;have:=l.h7;exact ar;have B:K=c91:=y;subst B;simp[-az,g,h,binOp,aC];intro V;refine bU br ?_;simp[-az];refine p _ bB (a.next (λe j=>?_) ?_ rfl aw);exact cj
 .simp only[bP];repeat rw[ap y]
  exact a.h7
def ahC{d:List (List P)}{ys:List P}(b:Fr s.O s.nx)(f:s.O db=J (.row w fe (aW d++[xs.map D.p++bn::ys.map D.p])))(g:de s.O bZ n (bS.map (·.map D.p)) bn)(h:∀id v,bn=.sl id v 0 bS.length n Z->db≠id):
 ∃aS s1,kh s s1/\Sl n aS bS/\s1.O db=J (.row w fe (aW (d++[xs++aS::ys])))/\(∀e,e≠db->(∀id v,bn=.sl id v 0 bS.length n Z->e≠id)->s1.O e=s.O e)/\(∀e,sD (s.T e)->s1.T e=s.T e)/\s1.nx=s.nx/\Fr s1.O s.nx:=by
 rcases g.sl with⟨rfl,rfl⟩|⟨id,v,l,rfl,i⟩;exact⟨_,s,.refl s,.nil,U,U,U,rfl,b⟩;have j:=h id v rfl;refine⟨.im bS n Z,{s with T:=λe=>gx id v n bS (s.T e),O:=j8 (· =db) id v n bS s.O},.step (· =db) id v n bS i (.refl _),.im bS Z,?_,λe k c=>?_,λe a=>a.uz,rfl,λe a=>?_⟩;have m:∀H:List (List P),(aW H).map (kn id v n bS)=aW H:=λH=>by simp only[mh];exact iL λag _=>Cp ag
 simp[j8,ap j,f,fK,Em];simp[FQ,Cp,kn,gx];have c:=c id v rfl;simp[j8,k,c];simp only[j8];split;rfl;split;rw[b e a];rfl;exact b e a
def Eg(a:Nat)(b:ByteArray)(c d e f:Bool):List P:=[S (gG a),S b,B c,B d,B e,B f]
theorem WT{a:P}(W:aS.size=0\/∃K,K<i/\aS=gG K)(b:Sl 9 a bB)(c:bB.length<=3)(d:∀f∈bB,JE f):Ae n i (Eg i aS cg cE bC be++[a,nl,nl,nl]):=⟨aS,cg,cE,bC,be,a,nl,nl,nl,bB,[],[],[],rfl,W,EA,⟨.nil,Y,Y,ak⟩,⟨.nil,Y,ak⟩,⟨.nil,Y,ak⟩⟩
theorem agz{g9:Nat}(hN:0<=N/\N<=4611686018423000000)(hi:i<5)(r:K4 sid sg N (λe=>e=0\/e=2\/e=3\/e=47) T1 O1 nx1 s)(h0:T1 0=.ptr sid sg 2 0 0)(h:T1 3=.ptr nx1 g3 2 0 0)(w:s.T 8=.p (I i))(x:s.T 9=.ptr i9 g9 10 0 0)(h7:s.T 7=.p (I v7))(A:v7<=900)(f:nx1<i9)(C:s.O i9=J (.row 10 g9 [[S (gG i),S ⟨#[]⟩,B Z,B Z,B Z,B Z,nl,nl,nl,nl].map .p]))(E:s.O nx1=J (.row 2 g3 [[.p ep,eJ]]))(j:de s.O (nx1+1) 10 (aW es) eJ)(F:∀id v,eJ=.sl id v 0 (aW es).length 10 Z->id<i9)(a:es.length=i)(aE:∀K ag,es[K]? =J ag->∀n,Ae n K ag)(k:Am em)(H:Sl 2 ep em)(L:∀t l idE gE aS cg cE bC be c bB,(iO aS=0\/∃K,K<i/\aS=gG K)->c<=3->Du sid sg (N+6) l O1 nx1 g3 idE gE i9 i ep es (Eg i aS cg cE bC be) (v7+c) c c bB t->(∀e,e=0\/e=2\/e=3\/e=47\/e=48->l e=s.T e)->aP .normal t):
 cH (X af) (.seq (z 6 (G 57 8::q 58 (di .gtr 57 0)::G 59 58::oT 60 59 (xM 0)::oT 61 59 (.call 7 [.t 60,.c (I 3)])::Iq) Rp) NL) s aP:=by
 letI:Gh:=jo;obtain⟨fT,M,aI,aO,O,Q⟩:=r;have R:s.T 0=.ptr sid sg 2 0 0:=U;have T:s.T 3=.ptr nx1 g3 2 0 0:=U;rw[iY];refine al4 y M O y y f y R T w x C E j F a U λs1 aS cg cE bC be W t1 ab k1 g n1 m=>?_;have q3:s1.O nx1=J (.row 2 g3 [[.p ep,eJ]]):=ak;have qL:de s1.O (nx1+1) 10 (aW es) eJ:=j.gM ak;show cH (X af) NL s1 aP;rw[show NL=.seq _ _ from rfl,iY];refine mJ br _ ?_;refine ajh m f rfl (by simp[nl,D.cells,P.cells,aJ]) y U U g q3 qL λs2 ac t2 p3 L2 k2 m2 n2 f2 w2=>?_;have aR:sid≠i9:=y;have a1:s2.O i9=J (.row 10 g9 [[.p (S (gG i)),.p (S aS),.p (B cg),.p (B cE),.p (B bC),.p (B be),.p nl,.p nl,.p nl,.p nl]]):=m2 i9 _ y g ak;obtain⟨idE,gE,a2,rfl,oE⟩:∃id v,nx1+1<=id/\ac=.sl id v 0 (es.length+1) 10 Z/\s2.O id=J (.row 10 v (aW (es++[Eg i aS cg cE bC be++[nl,nl,nl,nl]]))):=by rcases L2.sl with⟨u,_⟩|⟨id,v,o,h2,h⟩;simp at u;exact⟨id,v,o,U,h⟩
 have p:s2.T 0=.ptr sid sg 2 0 0:=U;have ad:fV sid sg (N+5) s2.O:=ab.aL U;have a4:sid<s2.nx:=y;show cH (X af) Ue s2 aP;rw[show Ue= z 3 (G 90 0::q 91 (.call 8 [.t 90,.c aH,.c (I 3)])::U0) (.block 6 (.loop TY)) from rfl];refine bU br ?_;simp[p];intro V;refine yu y y y ad y y λal ag O3 a5 an a6 ao a7=>?_;obtain⟨c,rfl⟩:=kg an;simp[U0];rw[lF];refine ahE (sg:=sg) (N:=N+6) (O1:=O1) (nx1:=nx1) (g3:=g3) (idE:=idE) (gE:=gE) (i9:=i9) (i:=i) (ep:=ep) (em:=em) (es:=es) (hd:=Eg i aS cg cE bC be) (v7:=v7) (c91:=c) y ⟨⟨λe b=>rfl,ak,ak,aw,λe b=>?_,Q⟩,by simp[p],?_,?_,⟨g9,[.p (S aS),.p (B cg),.p (B cE),.p (B bC),.p (B be),.p nl,.p nl,.p nl,.p nl],?_,ak⟩,Y,Y,?_,ak,⟨.p nl,ak,.inl ⟨rfl,rfl⟩⟩,y,f,?_,a,rfl,ak⟩ rfl y y A k H (λbB q6 ax hf hq=>?_) λt bB ay=>?_;have b:al<=e:=b;exact(ao e y).trans (f2 e y);exact U;exact U;exact U;exact U;have a8:=m.lt g;grind;refine⟨k,dK,λK ag d=>?_⟩;have a9:(es++[Eg i aS cg cE bC be++[q6,nl,nl,nl]]).length=i+1:=by simp[a]
 by_cases bb:K<es.length;grind;have o:=(bq.1 d).1;have aB:K=es.length:=y;subst aB;rw[kV (bV _)]at d;simp at d;rw[<-d,a];exact WT W hq ax hf
 .refine L t _ idE gE aS cg cE bC be c bB W y ay λe b=>?_
  simp only[bP];repeat rw[ap y]
  exact(t2 e y).trans (t1 e y)
structure Pr(sid sg:Nat)(N:Int)(T1:Nat->D)(O1:ah)(nx1 g3 n i v7:Nat)(ep:P)(es:List (List P))(s:St):Prop where
 fm:K4 sid sg (N+20000*i) (λk=>k=0\/k=2\/k=3\/k=47) T1 O1 nx1 s
 h0:T1 0=.ptr sid sg 2 0 0
 h2:sD (T1 2)
 h3:T1 3=.ptr nx1 g3 2 0 0
 h47:T1 47=.p (I n)
 h48:s.T 48=.p (I i)
 h7:s.T 7=.p (I v7)
 hv:v7<=3*i
 o:∃xd,s.O nx1=J (.row 2 g3 [[.p ep,xd]])/\de s.O (nx1+1) 10 (aW es) xd
 len:es.length=i
 all:∀j r,es[j]? =J r->∀n,Ae n j r
 tl:∀r∈es,∃A,r=A++[nl,nl,nl]/\A.length=7
theorem Pr.next(a:Pr sid sg N T1 O1 nx1 g3 n i v7 ep es s)(g:∀e,e=0\/e=2\/e=3\/e=47\/e=48\/e=7->t.T e=s.T e)(b:t.O=s.O)(h:s.nx<=t.nx):Pr sid sg N T1 O1 nx1 g3 n i v7 ep es t:=by obtain⟨⟨j,k,l,m,p,q⟩,h0,h2,h3,c,r,h7,hv,u,d,v,f⟩:=a;exact⟨⟨ak,U,U,y,by rw[b];exact bK,y⟩,h0,h2,h3,c,U,U,hv,U,d,U,f⟩
theorem ama{f:Nat->D}(hi:i<5)(hc:c<=3)(x:v7+c<=3*(i+1))(W:aS.size=0\/∃K,K<i/\aS=gG K)(k:T1 0=.ptr sid sg 2 0 0)(l:sD (T1 2))(m:T1 3=.ptr nx1 g3 2 0 0)(o:T1 47=.p (I n))(z:∀e,e=0\/e=2\/e=3\/e=47->f e=T1 e)(B:f 48=.p (I i))(C:∀K ag,es[K]? =J ag->∀n,Ae n K ag)(E:∀ag∈es,∃A,ag=A++[nl,nl,nl]/\A.length=7)(F:Du sid sg (N+20000*i+6) f O1 nx1 g3 idE gE i9 i ep es (Eg i aS cg cE bC be) (v7+c) c c bB s)(G:∀t ag,Pr sid sg N T1 O1 nx1 g3 n (i+1) (v7+c) ep (es++[ag]) t->aP .normal t):
 cH (X af) Tz s aP:=by
 letI:Gh:=jo;have H:=F;obtain⟨⟨p,L,an,ao,M,ax⟩,g0,ay,g8,g9,aB,aE,q,o3,⟨O,P,g⟩,hE,aI,aO,r,aR,Q⟩:=H;have a0:∀id v,O=.sl id v 0 bB.length 9 Z->idE≠id:=λid v u=>by rintro rfl;have:=(g.low u).2;grind
 obtain⟨w,s1,R,S,T,hO,j,hn,a1⟩:=ahC (xs:=Eg i aS cg cE bC be) (ys:=[nl,nl,nl]) M (by simpa using P) g U;have a2:∀e,e<=nx1->s1.O e=s.O e:=λe d=>hO e y λid v u=>by have:=(g.low u).1;omega
 have sT:∀e,e=0\/e=2\/e=3\/e=47->s1.T e=T1 e:=λe d=>by
  have b:=(p e y).trans (z e d);refine(j e ?_).trans b;rw[b];rcases d with rfl|rfl|rfl|rfl
  rw[k];exact .inr Y;exact l;rw[m];exact .inr Y;rw[o];exact .inl Y
 have ab:s1.T 48=.p (I i):=by have b:=(p 48 y).trans B;exact(j 48 (by rw[b];exact .inl Y)).trans b
 have e7:s1.T 7=.p (I ((v7+c:Nat):Int)):=(j 7 (by rw[q];exact .inl Y)).trans q;have ac:=lW (i:=i) y;refine⟨s1,R,?_⟩;simp[ab,binOp,aC,ac];intro V;refine G _ (Eg i aS cg cE bC be++[w,nl,nl,nl]) ⟨⟨λe d=>?_,?_,ak,aw,bK,y⟩,k,l,m,o,Y,?_,x,⟨.sl idE gE 0 (i+1) 10 Z,U,.inr ⟨idE,gE,y,U,T⟩⟩,by simp[r],λK ag a n'=>?_,λag hr=>?_⟩;simp only[bP];grind;refine(L.aL ak).mono ?_;omega
 .simp only[bP];repeat rw[ap y]
  exact e7
 by_cases ad:K<es.length;rw[xc ad]at a;exact C K ag a _;have h1:=(bq.1 a).1;have al:K=es.length:=by simp at h1;omega
 subst al;rw[kV (bV _)]at a;simp at a;rw[<-a,r];exact WT W S y Q;rcases bg.1 hr with h|h
 exact E ag h;exact⟨Eg i aS cg cE bC be++[w],by rw[bD.1 h];simp,by simp[Eg]⟩
theorem ag5(a:Pr sid sg N T1 O1 nx1 g3 n 0 0 ep [] s)(E:n<=5)(F:0<=N/\N<=4611686018422000000)(l:Am em)(m:Sl 2 ep em)(o:∀t es v7,Pr sid sg N T1 O1 nx1 g3 n n v7 ep es t->aP (.exit 4) t):cH (X af) (.loop Mg) s aP:=by
 letI:Gh:=jo;refine⟨λe s=>∃K:Nat,e=n-K/\K<=n/\∃v7 es,Pr sid sg N T1 O1 nx1 g3 n K v7 ep es s,ak,?_⟩;clear a;rintro e s ⟨i,rfl,G,v7,es,a⟩;have f:s.T 47=.p (I n):=(a.fm.fT 47 y).trans a.h47;have d:=a.h48;show cH _ (.seq _ (.seq _ (.seq _ _))) _ _;refine bU br ?_;by_cases p:i<n;have H:=lW (i:=i) y;have q:cI.wrap (97+(i:Int))=97+i:=iK y y;have r:AQ.wrap (97+(i:Int))=97+i:=by simp only[qW,m9,IntKind.signed];simp;omega
 obtain⟨eJ,w,g⟩:=a.o;have L:=a.hv;have M:0<(gY (97+(i:Int))).size/\(gY (97+(i:Int))).size<=4:=by have:∀i:Nat,i<5->0<(gY (97+(i:Int))).size/\(gY (97+(i:Int))).size<=4:=KZ;exact ak
 simp[-az,f,d,binOp,aC,p];intro V;refine bU br ?_;simp[-az];rw[iY,lF];refine bU br ?_;simp[d];intro O;refine bU br ?_;simp(disch:=omega)[binOp,aC,gD,fh,cF,dv,D.cells,P.cells,aJ,q,r,bI];intro x;refine⟨by show 1+_<=_;omega,?_⟩;have Q:=a.fm.gp;have R:=a.fm.YN;refine agz (v7:=v7) (i9:=s.nx+1+2+6) (g9:=x (s.nx+1+2+6)) y y ⟨λe b=>?_,a.fm.str.aL (ai y),λe h z=>(ai y).trans (a.fm.low e h z),aw,(a.fm.fr.mono aw).am aw,y⟩ a.h0 a.h3 Y Y (by simp[a.h7]) y y ?_ ((ai y).trans w) (g.gM λid v u h j=>(ai (by have:=a.fm.fr.lt j;omega)).trans j) (λid v u=>by have:=a.fm.fr.lt (g.low u).2;omega) a.len a.all l m λt S idE gE aS cg cE bC be c bB W A B k=>?_
 .simp only[bP];repeat rw[ap y]
  exact a.fm.fT e b
 simp[gG,nl];show cH (X af) Tz t _;refine ama (n:=n) (T1:=T1) y A y W a.h0 a.h2 a.h3 a.h47 (λe b=>(k e y).trans ?_) ((k 48 y).trans ?_) a.all a.tl B λs2 ag T=>?_
 .simp only[bP];repeat rw[ap y]
  exact a.fm.fT e b
 exact ar;grind;have C:i=n:=y;subst C;simp[-az,f,d,binOp,aC];intro V;refine bU br ?_;simp[-az];refine o _ es v7 (a.next (λe b=>?_) rfl aw);exact cj
def nR(A:Nat->List P)(b:Nat->D)(a:Nat):List D:=(A a).map D.p++[b a,.p nl,.p nl]
structure Cw(O:ah)(m idE gE n:Nat)(A:Nat->List P)(R:Nat->List (List P))(D':Nat->D):Prop where
 oE:O idE=J (.row 10 gE ((cZ n).map (nR A D')))
 L:∀k,k<n->de O m 7 (aW (R k)) (D' k)
 dj:∀j k,j<n->k<n->j≠k->∀id g g' l l',D' j=.sl id g 0 l 7 Z->D' k≠.sl id g' 0 l' 7 Z
 hA:∀k,k<n->(A k).length=7
 hm:idE<m
def mR{a}(b:Nat->a)(c:Nat)(d:a):Nat->a:=λe=>if e=c then d else b e
theorem PL{c}(d:Nat->c)(b a:Nat)(f:c):((cZ b).map d).set a f=(cZ b).map (mR d a f):=by apply jX;intro e;rw[jG];by_cases g:e<b;by_cases h:a=e;subst h;simp[g,mR];have i:¬e=a:=y;simp[h,i,g,mR];grind
theorem Uv{A:Nat->List P}:mR (nR A E) i ((A i).map D.p++[bn,.p nl,.p nl])=nR A (mR E i bn):=by funext e;simp[mR,nR];grind
def Cw.get{A:Nat->List P}(b:Cw bO bZ idE gE n A R E)(a:e<n):((cZ n).map (nR A E))[e]? =J ((A e).map D.p++[E e,.p nl,.p nl]):=by simp[a,nR]
def Cw.aL{A:Nat->List P}(a:Cw bO bZ idE gE n A R E)(b:cJ idE=bO idE)(d:∀e p,bZ<=e->bO e=J p->cJ e=J p):Cw cJ bZ idE gE n A R E:=⟨b.trans a.oE,λe c=>(a.L e c).gM U,a.dj,a.hA,a.hm⟩
theorem ahI{f rw0:Nat}{A:Nat->List P}(k:i<n)(hb:u<p/\f<p)(b:Cw s.O bZ idE gE n A R E)(r:Fr s.O s.nx)(W:bZ<=s.nx)(hl:(R i).length<=100)(X:row.length=7)(he:s.T u=.ptr idE gE 10 i 0)(hr:s.T f=.ptr fq fw 7 0 0)(oR:s.O fq=J (.row 7 fw [row.map D.p]))(hQ:∀t c,Cw t.O bZ idE gE n A (mR R i (R i++[row])) (mR E i c)->(∀e,e<p->t.T e=s.T e)->(∀e,e<bZ->e≠idE->t.O e=s.O e)->(∀e p,e≠idE->s.O e=J p->(∀v H,E i≠.sl e v 0 H 7 Z)->t.O e=J p)->s.nx<=t.nx->Fr t.O t.nx->(∀id v H,c=.sl id v 0 H 7 Z->s.nx<=id\/∃g j,E i=.sl id g 0 j 7 Z)->aP .normal t):
 bx eZ (.dg 11 aa ([⟨(J p),.mv (.t u),ae,aa⟩,⟨(J (p+1)),.mv (.t u),ae,Z⟩,⟨(J (p+2)),.lY (.t (p+1)),ae,Z⟩,⟨(J (p+3)),.fa (.t (p+2)) 7,ae,Z⟩,⟨(J (p+4)),.load 1 Z (.t (p+3)) aa,ae,Z⟩,⟨(J (p+5)),.load 7 aa (.t f) Z,ae,Z⟩]++([⟨(J (p+6)),.bQ 6 7 1 [aF,(I 0),aF,aF,(B Z),(I 0),(B Z)] [(0,(.t (p+5)))],ae,Z⟩,⟨(J (p+7)),.j4 7 7 80 (.t (p+4)) (.t (p+6)),ae,Z⟩]++[⟨(J (p+8)),.lY (.t p),ae,Z⟩,⟨(J (p+9)),.fa (.t (p+8)) 7,ae,Z⟩,oN (.store 1 (.t (p+9)) (.t (p+7)))]))) s aP:=by
 letI:Gh:=jo;have L:=b.oE;have N:=b.L i k;have Q:=b.get k;have l:=b.hA i k;have nE:=r.lt L;have ab:((A i).map D.p++[E i,.p nl,.p nl])[7]? =J (E i):=by rw[kV (by simp[l])];simp[l]
 have ac:(row.map D.p).take 7=row.map D.p:=cp U;have aB:D.cells (.p (.agg row))=row.map .p:=by simp[D.cells,dw]
 intro V;refine⟨[],?_⟩;have ad:aX [] s.O=s.O:=by funext e;simp[aX]
 rw[ad,rN];have ag:∀(F:ah) (bu:St->ah->Prop),(∀m,(∀e,e<p->m e=s.T e)->m p=.ptr idE gE 10 i 0->m (p+4)=E i->m (p+5)=.p (.agg row)->bu {T:=m,O:=s.O,nx:=s.nx+11,bs:=s.nx,gm:=V} F)->
  fS eZ [⟨(J p),.mv (.t u),ae,aa⟩,⟨(J (p+1)),.mv (.t u),ae,Z⟩,⟨(J (p+2)),.lY (.t (p+1)),ae,Z⟩,⟨(J (p+3)),.fa (.t (p+2)) 7,ae,Z⟩,⟨(J (p+4)),.load 1 Z (.t (p+3)) aa,ae,Z⟩,⟨(J (p+5)),.load 7 aa (.t f) Z,ae,Z⟩] {T:=s.T,O:=s.O,nx:=s.nx+11,bs:=s.nx,gm:=V} F bu:=by intro F bu hK;have aE:u≠p:=y;have r0:f≠p:=y;have r1:f≠p+1:=y;have r2:f≠p+2:=y;have r3:f≠p+3:=y;have r4:f≠p+4:=y;simp(disch:=omega)[he,hr,oR,L,ba,Q,ab,X,ac,bP,r0,r1,r2,r3,r4];refine⟨nE,hK _ (λe a=>?_) Y Y Y⟩;simp only[bP];repeat grind
 refine ag _ _ λT2 t1 t2 t3 t4=>?_;rw[rN,pY _ Y];have aI:∀id v H,E i=.sl id v 0 H 7 Z->idE≠id:=λid v H u=>by rintro rfl;have:=(N.low u).2;grind
 refine wj r aw aw t4 U t3 N W y y dK dK λc M T3 w q2 q3 q4 q5 q6 q7=>?_;have qE:M idE=J (.row 10 gE ((cZ n).map (nR A E))):=aj;have ub:T3 p=.ptr idE gE 10 i 0:=U;have al:=w.cell;have an:bI ((A i).map D.p++[E i,.p nl,.p nl]) [c] 7=(A i).map D.p++[c,.p nl,.p nl]:=by match A i,l with|[x1,x2,x3,x4,x5,x6,x7],_=>rfl
 have aO:((A i).map D.p++[E i,.p nl,.p nl]).length=10:=by simp[l]
 have ao:((cZ n).map (nR A E)).set i ((A i).map D.p++[c,.p nl,.p nl])=(cZ n).map (nR A (mR E i c)):=by rw[PL,Uv]
 have cg:p+7≠p+9:=y;have cE:p+7≠p+8:=y;simp(disch:=omega)[ub,qE,q2,al,Q,an,ao,l,k,bP];have ax:=b.hm;have aR:∀e,e<n->∀id v H,E e=.sl id v 0 H 7 Z->id<s.nx:=λe a id v H u=>r.lt ((b.L e a).low u).2;have x:∀id v H,c=.sl id v 0 H 7 Z->s.nx<=id\/∃g j,E i=.sl id g 0 j 7 Z:=by
  intro id v H u;have h:H=(aW (R i)++[D.cells (.p (.agg row))]).length:=by rcases w with⟨d,_⟩|⟨aS,g,_,d,_⟩;simp at d;grind
  subst h;rcases q6 id v u with d|⟨g,d⟩
  exact U;exact U
 have S:∀e z,e≠idE->s.O e=J z->(∀v H,E i≠.sl e v 0 H 7 Z)->am M idE (J (.row 10 gE ((cZ n).map (nR A (mR E i c))))) e=J z:=λe z k1 a0 a=>(ai k1).trans ak;refine hQ _ c ⟨Y,λe a=>?_,λK e C a G id v g H j o h=>?_,b.hA,ax⟩ (λe a=>?_) U S aw (λe a=>?_) x;by_cases q:e=i;subst q;have:=w.gM (O':=am M idE (J (.row 10 gE ((cZ n).map (nR A (mR E e c)))))) aj;simp only[mR,aT];grind;simp only[mR,ap q];exact(b.L e a).gM λid v u h1 h2=>S id _ y h2 λg j e'=>b.dj i e k a y id _ _ _ _ e' u;simp only[mR]at o h;split at o;rename_i ay;split at h;omega;subst ay;rcases x id v H o with d|⟨g2,l2,d⟩
 grind;exact b.dj K e C a G id _ _ _ _ d h;split at h;rename_i q;subst q;rcases x id g j h with d|⟨g2,l2,d⟩
 grind;exact b.dj K e C a G id _ _ _ _ o d;exact b.dj K e C a G id _ _ _ _ o h;simp only[bP];grind;have a:s.nx+11<=e:=a;exact aj
def D88:d6:=⟨10,[.t 1],z 1 [q 1 (.mv (.c aF))] (z 3 [oL 2 1 0,q 3 (di .add 2 1),oN (xS 1 0 3)] (z 7 [oL 4 1 0,q 5 (di .rem 4 26),q 6 (.lS .add 0 (.c (I 97)) (.t 5)),q 7 (.zf .i32 (.t 6)),q 8 (.yS (.t 7)),q 9 (.lS .add 0 (.c (S ⟨#[114]⟩)) (.t 8)),G 1 9] (.ret)))⟩
def aoF:cW af Tryz.f88=J D88:=h
def D89:d6:=⟨10,[.t 3],z 1 [q 3 (gR Z)] (z 7 [oL 4 1 1,d5 5 4,cA 6 2 5,G 7 0,q 8 (dV 51 6 7),q 9 (.yK (.t 8) 5 1 Z),G 3 9] (.ret))⟩
def apM:cW af Tryz.f89=J D89:=h
theorem anJ(a:Int):(gY a).size<=4:=by
 unfold gY;dsimp
 repeat' split
 all_goals exact i0
theorem Kt{a b:Nat}(m:c<=1000)(d:bO a=J (.row 1 b [[.p (I c)]]))(f:∀e Q,C<=e->iO Q<=100->bu (.p (S Q)) (am bO a (J (.row 1 b [[.p (I ((c+1:Nat):Int))]]))) e):X af 88 [.ptr a b 1 0 0] bO C bu:=by
 refine X.of Y aoF (by simp[D88]) λg=>?_;have n:=g.lt d;have h:=lW (i:=c) y;have o:0<=((c:Int)+1).tmod 26:=i0;have p:((c:Int)+1).tmod 26<26:=ak;have j:cI.wrap (((c:Int)+1).tmod 26)=((c:Int)+1).tmod 26:=iK y y;have k:cI.wrap (97+((c:Int)+1).tmod 26)=97+((c:Int)+1).tmod 26:=iK y y;have l:AQ.wrap (97+((c:Int)+1).tmod 26)=97+((c:Int)+1).tmod 26:=by simp only[qW,m9];simp;omega
 have q:=anJ (97+((c:Int)+1).tmod 26);simp(disch:=omega)[D88,cN,d,ba,binOp,aC,gD,h,bI,D.cells,P.cells,aJ,j,k,l];have r:({data:= #[114]}:ByteArray).size=1:=rfl;refine⟨y,.d8 bK y ?_⟩;have:=f (C+1+3+7) ({data:= #[114]}++gY (97+((c:Int)+1).tmod 26)) y dK;simpa using this
def jp.iW{em b:List (List P)}(c:jp em b){a:Nat}(f:a<b.length):iW (named (gG a)) b=a:=by have i:=c.len;refine yZ Y (AD.2 (tv (c.row a _ (bh f)))) λK d j g=>?_;cases h:named (gG a) d with|false=>rfl|true=>have e:=AD.1 h;rw[tv (c.row K d g)]at e;have:=Ut K y a y e;omega
def jp.apv(h:jp em es)(a:Sl 10 fk es):vN fk es where
 sl:=a
 len:=by have:=h.len;omega
 rows ag hr:=by obtain⟨i,hi,rfl⟩:=eD hr;obtain⟨aS,cg,cE,bC,be,b,c,d,e,bB,f,g,x,u,_⟩:=h.row i _ (bh hi);exact⟨U,gG i,aS,[B cg,B cE,B bC,B be,b,c,d,e],u⟩
def jp.ah7(a:jp em es):qf es:=by letI:=KJ em es a;exact lR ⟨es.length,Y⟩
def acR(a:jp em es)(d:bO db=J (.row 1 fe [[.ptr aB V 2 0 0]]))(G:bO aB=J (.row 2 V [[.p ep,eJ]]))(f:qP bO eJ fk)(g:∃id v H,eJ=.sl id v 0 H 10 Z)(h:Sl 10 fk es)(j:i<es.length)(k:∀b p,C<=b->bu (.p (B p)) bO b):X af 89 [.p (S (gG i)),.ptr db fe 1 0 0] bO C bu:=by
 refine X.of Y apM (by simp[D89]) λo=>?_;obtain⟨id,v,H,rfl⟩:=g;have q:=a.iW j;simp(disch:=omega)[D89,cN,d,G,ba];have l:bp (qy λ_=>ae) bO=bO:=by funext e;simp[bp,qy]
 refine X.view (.cons _ _ _ _ (.agg _ _ (.cons _ _ _ _ (.p _) (.cons _ _ _ _ f .nil))) (.cons _ _ _ _ (.p _) .nil)) ?_;refine vg (a.apv h) a.ah7 y λb r s ag t w m=>?_;obtain⟨aS,cg,cE,bC,be,z,A,D,E,bB,F,I,x,u,_⟩:=a.row _ ag m;rw[l];have hd:ji C bu bO b (.p (B be)):=.d8 bK y (k _ _ y);have n:C2 (.p (.agg ag))=.p (.agg ag)\/C2 (.p (.agg ag))=.agg (ag.map Xg):=by simp only[C2];split;simp;simp
 rcases n with c|c;rw[c,u];exact hd;rw[c,u];exact hd
def ago:List aA:=[fR 24 0]
def afE:List aA:=[G 7 32,G 8 39]
def Q2:List aA:=(q 39 (dV 19 33 38)::afE)
def FG:List aA:=[oT 84 77 (AM 83),dA 85 70 (jw 77 84),q 86 (qa 70 85)]
def F8:List aA:=(dA 77 70 (xM 76)::oT 78 77 (xM 6)::oT 79 77 (xM 9)::oT 80 77 (xN 79)::oT 81 77 (xF 80 0)::oT 82 77 (xL 1 81)::oT 83 77 (.iI (.t 78) [.t 82])::FG)
def DF:av:=.cond (.t 86) (.exit 1) (.skip)
def Zk:List aA:=[q 97 (.build [aF,aH,aF,aF,dZ,aH,dZ] [(0,1,.t 90),(1,1,.c (I 3)),(2,1,.t 94),(6,1,.t 96)]),vt (xS 7 11 97)]
def RP:List aA:=(q 96 (.call 7 [.t 95,.c (I 2)])::Zk)
def EB:List aA:=[oT 132 117 (qa 125 131),q 133 (jw 117 132)]
def EM:List aA:=(oT 124 117 (AM 123)::oT 125 117 (xM 124)::dA 126 125 (xM 6)::dA 127 125 (xM 10)::dA 128 125 (xN 127)::dA 129 125 (xF 128 0)::dA 130 125 (xL 1 129)::dA 131 125 (.iI (.t 126) [.t 130])::EB)
def Nv:List aA:=(dA 114 107 (AM 113)::oT 115 100 (qa 107 114)::q 116 (jw 100 115)::G 117 116::oT 118 117 (xM 6)::oT 119 117 (xM 9)::oT 120 117 (xN 119)::oT 121 117 (xF 120 0)::oT 122 117 (xL 1 121)::oT 123 117 (.iI (.t 118) [.t 122])::EM)
def SX:List aA:=(oT 107 100 (xM 106)::dA 108 107 (xM 6)::dA 109 107 (xM 10)::dA 110 107 (xN 109)::dA 111 107 (xF 110 0)::dA 112 107 (xL 1 111)::dA 113 107 (.iI (.t 108) [.t 112])::Nv)
def tQ:List aA:=(G 100 99::oT 101 100 (xM 6)::oT 102 100 (xM 9)::oT 103 100 (xN 102)::oT 104 100 (xF 103 0)::oT 105 100 (xL 1 104)::oT 106 100 (.iI (.t 101) [.t 105])::SX)
def TB:List aA:=[q 142 (.build [aF,aH,aF,aF,dZ,aH,dZ] [(0,1,.t 135),(1,1,.c (I 3)),(2,1,.t 139),(3,1,.t 141)]),vt (xS 7 12 142)]
def Jl:List aA:=[q 149 (jw 146 148)]
def Nt:av:=.cond (.t 149) (rF 4 [oF 150 11 0,oL 151 1 150,oF 152 11 3,oN (xS 1 152 151)]) (z 4 [oF 153 12 0,oL 154 1 153,oF 155 11 3,oN (xS 1 155 154)] (.dg 11 aa [aZ 156 (xM 10),G 157 10,d5 158 157,oF 159 158 7,q 160 (jP 1 159),cA 161 7 12,q 162 (.bQ 6 7 1 [aF,aH,aF,aF,dZ,aH,dZ] [(0,.t 161)]),q 163 (jE 7 7 80 160 162),d5 164 156,oF 165 164 7,oN (xS 1 165 163)]))
def SG:av:=
 z 7 (G 143 7::G 144 8::q 145 (xB .eql 143 144)::G 146 145::oT 147 146 (xM 0)::oT 148 146 (.call 7 [.t 147,.c (I 2)])::Jl)
  Nt
def NC:av:=
 .cond (.t 133) (.seq (.dg 11 aa (aZ 136 (xM 9)::aZ 137 (xN 136)::aZ 138 (xF 137 0)::aZ 139 (jP 1 138)::aZ 140 (xF 11 0)::aZ 141 (jP 1 140)::aZ 12 (.alloc 9 7 [aF,aH,aF,aF,dZ,aH,dZ])::G 134 5::q 135 (.iI (.t 134) [])::TB))
  SG) (.skip)
def N1:av:=.seq (.dg 11 aa [aZ 166 (xM 9),G 167 9,d5 168 167,oF 169 168 7,q 170 (jP 1 169),cA 171 7 11,q 172 (.bQ 6 7 1 [aF,aH,aF,aF,dZ,aH,dZ] [(0,.t 171)]),q 173 (jE 7 7 80 170 172),d5 174 166,oF 175 174 7,oN (xS 1 175 173)]) (.exit 1)
def Iv:av:=
 .seq (z 36 (G 98 0::q 99 (.call 7 [.t 98,.c (I 2)])::tQ)
  NC)
  N1
def NP:av:=
 .cond (.t 88) (.seq (.dg 11 aa (aZ 91 (xM 10)::aZ 92 (xN 91)::aZ 93 (xF 92 0)::aZ 94 (jP 1 93)::aZ 95 (xM 0)::aZ 11 (.alloc 9 7 [aF,aH,aF,aF,dZ,aH,dZ])::G 89 5::q 90 (.iI (.t 89) [])::RP))
  Iv) (.skip)
def aas:List aA:=[q 186 (.build [aF,aH,aF,aF,dZ,aH,dZ] [(0,1,.t 177),(1,1,.c (I 1)),(2,1,.t 181),(5,1,.t 183),(6,1,.t 185)]),vt (xS 7 13 186)]
def aab:List aA:=(q 185 (.call 7 [.t 184,.c (I 2)])::aas)
def RN:List aA:=(q 183 (.call 8 [.t 182,.c (I 1),.c (I 3)])::aab)
def IF:List aA:=[q 198 (jw 195 197),oF 199 13 4,oN (xS 1 199 198)]
def abM:List aA:=[q 227 (.build [aF,aH,aF,aF,dZ,aH,dZ] [(0,1,.t 218),(1,1,.c (I 2)),(2,1,.t 222),(3,1,.t 224),(6,1,.t 226)]),q 228 (.bQ 16 7 1 [aF,aH,aF,aF,dZ,aH,dZ] [(0,.t 227)]),q 229 (jE 17 7 80 216 228),d5 230 212,oF 231 230 7,vt (xS 1 231 229)]
def Sw:List aA:=(q 226 (.call 7 [.t 225,.c (I 2)])::abM)
def MT:av:=.cond (.t 211) (.dg 21 aa (aZ 212 (xM 10)::aZ 213 (xM 10)::aZ 214 (xN 213)::aZ 215 (xF 214 7)::aZ 216 (jP 1 215)::aZ 219 (xM 9)::aZ 220 (xN 219)::aZ 221 (xF 220 0)::aZ 222 (xL 1 221)::aZ 223 (xF 13 0)::aZ 224 (xL 1 223)::aZ 225 (xM 0)::G 217 5::q 218 (.iI (.t 217) [])::Sw)) (.skip)
def NY:av:=
 z 2 [G 210 0,q 211 (.call 7 [.t 210,.c (I 2)])]
  MT
def Mk:av:=
 .seq (.dg 11 aa [aZ 200 (xM 9),G 201 9,d5 202 201,oF 203 202 7,q 204 (jP 1 203),cA 205 7 13,q 206 (.bQ 6 7 1 [aF,aH,aF,aF,dZ,aH,dZ] [(0,.t 205)]),q 207 (jE 7 7 80 204 206),d5 208 200,oF 209 208 7,oN (xS 1 209 207)])
  NY
def Nr:av:=
 z 14 (oF 187 13 5::oL 188 1 187::q 189 (di .neq 188 3)::G 190 189::oT 191 190 (xM 7)::oT 192 190 (xM 8)::oT 193 190 (xB .neq 191 192)::q 194 (jw 190 193)::G 195 194::oT 196 195 (xM 0)::oT 197 195 (.call 7 [.t 196,.c (I 3)])::IF)
  Mk
def Jw:av:=
 .seq (.dg 13 aa (aZ 178 (xM 10)::aZ 179 (xN 178)::aZ 180 (xF 179 0)::aZ 181 (jP 1 180)::aZ 182 (xM 0)::aZ 184 (xM 0)::aZ 13 (.alloc 11 7 [aF,aH,aF,aF,dZ,aH,dZ])::G 176 5::q 177 (.iI (.t 176) [])::RN))
  Nr
def NG:av:=
 .seq (z 2 [G 87 0,q 88 (.call 7 [.t 87,.c (I 3)])]
  NP)
  Jw
def Mp:av:=
 z 14 [oL 40 1 3,d5 41 40,oF 42 41 1,oL 43 1 42,G 44 7,q 45 (xI 10 43 44),oL 46 1 3,d5 47 46,oF 48 47 1,oL 49 1 48,G 50 8,q 51 (xI 10 49 50),G 9 45,G 10 51] (.seq (z 35 (oL 52 1 4::q 53 (di .gtr 52 20)::G 54 53::dA 55 54 (xM 9)::dA 56 54 (xN 55)::dA 57 54 (xF 56 7)::dA 58 54 (xL 1 57)::dA 59 54 (fQ 58)::dA 60 54 (di .gtr 59 5)::q 61 (qa 54 60)::G 62 61::dA 63 62 (xM 10)::dA 64 62 (xN 63)::dA 65 62 (xF 64 7)::dA 66 62 (xL 1 65)::dA 67 62 (fQ 66)::dA 68 62 (di .gtr 67 5)::q 69 (qa 62 68)::G 70 69::dA 71 70 (xM 6)::dA 72 70 (xM 10)::dA 73 70 (xN 72)::dA 74 70 (xF 73 0)::dA 75 70 (xL 1 74)::dA 76 70 (.iI (.t 71) [.t 75])::F8)
  DF)
  NG)
def N6:av:=rF 2 [q 232 (di .add 24 1),G 24 232]
def Qt:av:=
 z 1 [q 25 (xB .lss 24 23)] (.seq (cX 25 0) (.seq (.block 1 (.seq (.dg 16 aa (aZ 27 (xL 1 3)::aZ 33 (xM 0)::aZ 34 (xL 1 3)::aZ 35 (xN 34)::aZ 36 (xF 35 1)::aZ 37 (xL 1 36)::aZ 38 (fQ 37)::G 26 0::d5 28 27::oF 29 28 1::aZ 30 (xL 1 29)::q 31 (fQ 30)::q 32 (dV 19 26 31)::Q2))
  Mp))
  N6))
def agb:av:=.block 0 (.loop Qt)
def D43:d6:=⟨233,[],z 1 [q 3 (iU 0 1 1)] (z 2 [q 4 (.alloc 0 1 [aH]),oN (.store 1 (.t 4) (.c aH))] (z 2 [q 14 (wW 88 [.t 4]),G 5 14] (z 2 [q 15 (wW 89 [.t 3]),G 6 15] (z 9 (G 16 0::oL 17 1 3::d5 18 17::oF 19 18 1::oL 20 1 19::q 21 (fQ 20)::q 22 (.lS .mul 0 (.c (I 2)) (.t 21))::q 23 (dV 19 16 22)::ago)
 agb))))⟩
def aoE:cW af Tryz.f43=J D43:=h
def jQ(b c d:Nat)(a:List (List P)):Prop:=a.length<=c/\(a.filter mK).length<=d/\∀ag∈a,DI b ag
def acv(A:Nat->List P)(b:Nat->P)(a:Nat):List P:=A a++[b a,nl,nl]
structure jJ(sid sg nx im gm idE gE n c:Nat)(O1:ah)(ep:P)(A:Nat->List P)(R:Nat->List (List P))(D':Nat->D)(N:Int)(s:St):Prop where
 h0:s.T 0=.ptr sid sg 2 0 0
 h3:∃g,s.T 3=.ptr nx g 1 0 0/\s.T 6=.fn (.func 89) [] [.ptr nx g 1 0 0]/\s.O nx=J (.row 1 g [[.ptr im gm 2 0 0]])
 h4:∃g,s.T 4=.ptr (nx+1) g 1 0 0/\s.T 5=.fn (.func 88) [] [.ptr (nx+1) g 1 0 0]/\s.O (nx+1)=J (.row 1 g [[.p (I c)]])
 om:s.O im=J (.row 2 gm [[.p ep,.sl idE gE 0 n 10 Z]])
 rel:Cw s.O (nx+2) idE gE n A R D'
 str:fV sid sg N s.O
 gp:nx+2<=s.nx
 fr:Fr s.O s.nx
 low:∀k,k<nx->k≠sid->k≠idE->s.O k=O1 k
 nN:sid<nx/\im<nx/\idE<nx
 qK:sid≠idE/\sid≠im/\im≠idE
def Fb(c:List (List P))(a:Nat)(A:Nat->List P):Prop:=∀(R:Nat->List (List P)) (b:Nat->P),(∀e,e<a->Sl 7 (b e) (R e))->(∀e,e<a->jQ a 7 6 (R e))->jp c ((cZ a).map (acv A b))
def de.len(b:de bO bZ n (aW bS) bn){a:D->Prop}:zJ bn a=a (.p (I bS.length)):=by rcases b.sl with⟨rfl,rfl⟩|⟨id,v,_,rfl,_⟩;simp;simp
def TP{a:ah}{n:Nat}{A:Nat->List P}{b:Nat->D}{c:Nat->P}:∀(H:List Nat),(∀e∈H,qP a (b e) (c e))->qH a (H.map (nR A b)) (H.map (acv A c))|[],_=>.nil|e::H,d=>.cons _ _ _ _ (IY (Kw _) (.cons _ _ _ _ U (.cons _ _ _ _ (.p _) (.cons _ _ _ _ (.p _) .nil)))) (TP (n:=n) H U)
theorem YY{A:Nat->List P}(b:jJ sid sg C aB V idE gE n c O1 ep A R E N s)(j:Fb em n A)(k:∀e,e<n->jQ n 7 6 (R e))(u:i<n)(h:s.T 3=.ptr C v 1 0 0)(w:s.nx<=bX)(l:∀d p,bX<=d->bu (.p (B p)) s.O d):X af 89 [.p (S (gG i)),.ptr C v 1 0 0] s.O bX bu:=by
 obtain⟨g3,m,x,o⟩:=b.h3;rw[m]at h;cases h;have f:∀e,∃a,e<n->qP s.O (E e) a/\Sl 7 a (R e):=λe=>by by_cases g:e<n;obtain⟨a,z,D⟩:=P8 (b.rel.L e g);grind;exact⟨nl,ak⟩
 obtain⟨a,f⟩:=Qp f;have q:=j R a U k;have r:=by have t:=TP (n:=n) (A:=A) (cZ n) λe g=>(f e (yH.1 g)).1;have:=qP.sl idE gE 0 n 10 Z _ _ b.rel.oE Y t;rw[gK,cp Y]at this;exact ar
 exact acR q o b.om r Y (.im _ _) U λd p F=>l d p y
structure CP(idE gE a b:Nat)(s:St):Prop where
 h7:s.T 7=.p (I a)
 h8:s.T 8=.p (I b)
 h9:s.T 9=.ptr idE gE 10 a 0
 Gz:s.T 10=.ptr idE gE 10 b 0
def jJ.next{A:Nat->List P}(a:jJ sid sg C aB V idE gE n c O1 ep A R E N s)(d:∀e,e<7->t.T e=s.T e)(b:t.O=s.O)(f:s.nx<=t.nx):jJ sid sg C aB V idE gE n c O1 ep A R E N t:=by obtain⟨h0,⟨g3,g,h,bC⟩,⟨i,j,k,be⟩,om,rel,str,gp,fr,low,nN,qK⟩:=a;exact⟨U,U,U,U,U,U,y,by rw[b];exact bK,U,nN,qK⟩
def akF{A:Nat->List P}(a:jJ sid sg C aB V idE gE n c O1 ep A R E N s)(b:s.T 7=.p (I Q))(d:s.T 8=.p (I p))(k:Q<n)(l:p<n)(f:∀t,jJ sid sg C aB V idE gE n c O1 ep A R E N t->CP idE gE Q p t->(∀e,e<40->e≠9->e≠10->t.T e=s.T e)->aP .normal t):
 bx (X af) (rF 14 [oL 40 1 3,d5 41 40,oF 42 41 1,oL 43 1 42,G 44 7,q 45 (xI 10 43 44),oL 46 1 3,d5 47 46,oF 48 47 1,oL 49 1 48,G 50 8,q 51 (xI 10 49 50),G 9 45,G 10 51]) s aP:=by letI:Gh:=jo;obtain⟨g3,g,m,bC⟩:=a.h3;have h:=a.om;have i:(Q:Int)<n:=y;have j:(p:Int)<n:=y;simp(disch:=omega)[g,bC,h,ba,b,d,i,j];intro o;refine f _ (a.next (λe r=>?_) rfl aw) ⟨by simp[b],by simp[d],Y,Y⟩ λe u v w=>?_;exact cj;exact cj
def ace{A:Nat->List P}(a:jJ sid sg C aB V idE gE n c O1 ep A R E N s)(g:CP idE gE Q p s)(d:Q<n)(f:p<n)(x:Fb em n A)(o:∀e,e<n->∃bA,A e=S (gG e)::bA)(B:∀e,e<n->jQ n 7 6 (R e))(h:∀t,jJ sid sg C aB V idE gE n c O1 ep A R E N t->(∀e,e<40->t.T e=s.T e)->aP (.exit 1) t)(F:∀t,jJ sid sg C aB V idE gE n c O1 ep A R E N t->(∀e,e<40->t.T e=s.T e)->c<=20->(R Q).length<=5->(R p).length<=5->aP .normal t):
 bx (X af) (z 35 (oL 52 1 4::q 53 (di .gtr 52 20)::G 54 53::dA 55 54 (xM 9)::dA 56 54 (xN 55)::dA 57 54 (xF 56 7)::dA 58 54 (xL 1 57)::dA 59 54 (fQ 58)::dA 60 54 (di .gtr 59 5)::q 61 (qa 54 60)::G 62 61::dA 63 62 (xM 10)::dA 64 62 (xN 63)::dA 65 62 (xF 64 7)::dA 66 62 (xL 1 65)::dA 67 62 (fQ 66)::dA 68 62 (di .gtr 67 5)::q 69 (qa 62 68)::G 70 69::dA 71 70 (xM 6)::dA 72 70 (xM 10)::dA 73 70 (xN 72)::dA 74 70 (xF 73 0)::dA 75 70 (xL 1 74)::dA 76 70 (.iI (.t 71) [.t 75])::F8) DF) s aP:=by
 letI:Gh:=jo;obtain⟨g3,H,K,bC⟩:=a.h3;obtain⟨g4,i,a5,be⟩:=a.h4;have j:=a.rel.oE;have k:=a.rel.get d;have L:=a.rel.get f;have M:∀e,e<n->((A e).map D.p++[E e,.p nl,.p nl])[7]? =J (E e):=λe b=>by have:=a.rel.hA e b;rw[kV (by simp[this])];simp[this]
 have ac:∀e,e<n->((A e).map D.p++[E e,.p nl,.p nl])[0]? =J (.p (S (gG e))):=λe b=>by obtain⟨bA,u⟩:=o e b;rw[u];rfl
 have r:=M Q d;have O:=M p f;have Y:(A Q).head? =J (S (gG Q)):=by obtain⟨bA,u⟩:=o Q d;rw[u];rfl
 have ab:(A p).head? =J (S (gG p)):=by obtain⟨bA,u⟩:=o p f;rw[u];rfl
 have v:∀bu,zJ (E Q) bu=bu (.p (I (R Q).length)):=λbu=>(a.rel.L Q d).len;have T:∀bu,zJ (E p) bu=bu (.p (I (R p).length)):=λbu=>(a.rel.L p f).len;have h7:=g.h7;have h8:=g.h8;have l:=g.h9;have U:=g.Gz;rw[bF,dD];intro ad;by_cases m:(20:Int)<c;simp[i,be,ba,binOp,aC,m,F8,FG,DF];refine h _ (a.next (λe b=>?_) rfl aw) λe b=>?_;exact j5;exact j5;by_cases w:(5:Int)<(R Q).length;simp[i,be,ba,binOp,aC,m,l,j,k,r,v,w,F8,FG,DF];refine h _ (a.next (λe b=>?_) rfl aw) λe b=>?_;exact j5;exact j5;by_cases W:(5:Int)<(R p).length;simp[i,be,ba,binOp,aC,m,l,U,j,k,L,r,O,v,T,w,W,F8,FG,DF];refine h _ (a.next (λe b=>?_) rfl aw) λe b=>?_;exact j5;exact j5;simp[i,be,K,ba,binOp,aC,m,l,U,j,k,L,r,O,ab,v,T,w,W];refine YY a x B f H aw λag t1 al=>?_;cases t1 with|false=>simp[F8,FG,DF];refine F _ (a.next (λe b=>?_) rfl aw) (λe b=>?_) y y y;exact j5;exact j5|true=>simp[F8,K,l,j,k,Y,ba];refine YY a x B d H y λbX t2 an=>?_;cases t2 with|true=>simp[unOp,FG,DF];refine F _ (a.next (λe b=>?_) rfl (by first|(show s.nx<=bX;omega)|exact bV _)) (λe b=>?_) y y y;exact j5;exact j5|false=>simp[unOp,FG,DF];refine h _ (a.next (λe b=>?_) rfl (by first|(show s.nx<=bX;omega)|exact bV _)) λe b=>?_;exact j5;exact j5
theorem jJ.aL{d g b h i f j k s l:Nat}{m:ah}{n:P}{A:Nat->List P}{o:Nat->List (List P)}{q:Nat->D}{t r:Int}{c a:St}(u:jJ d g b h i f j k s m n A o q t c)(z:∀e,e<7->a.T e=c.T e)(B:fV d g r a.O)(C:∀v p,c.O (b+1)=J (.row 1 v p)->a.O (b+1)=J (.row 1 v [[.p (I l)]]))(w:∀e p,e≠d->e≠b+1->c.O e=J p->a.O e=J p)(E:∀e,e<b->e≠d->e≠f->a.O e=c.O e)(F:c.nx<=a.nx)(x:Fr a.O a.nx):jJ d g b h i f j k l m n A o q r a:=by obtain⟨h0,⟨g3,G,H,bC⟩,⟨K,L,M,be⟩,om,rel,str,gp,fr,low,nN,qK⟩:=u;refine⟨U,ak,ak,ak,rel.aL ((w f _ y y rel.oE).trans rel.oE.symm) ak,ar,y,x,U,nN,qK⟩
def Ci(a:Nat->D)(b c:Nat):Prop:=∀K,K<b->∀id v H,a K=.sl id v 0 H 7 Z->id≠c
def jJ.free{A:Nat->List P}(a:jJ sid sg C aB V idE gE n c O1 ep A R E N s)(d:s.nx<=e):Ci E n e:=λK b id v H u=>by have:=a.fr.lt ((a.rel.L K b).low u).2;omega
structure aoC(s0 O3 W:ah)(sid cn i n0 n3:Nat)(iz row:fg):Prop where
 vi:W i=J row
 vc:W cn=J iz
 vs:W sid=O3 sid
 vo:∀k b,k≠sid->k≠cn->s0 k=J b->W k=J b
 vl:∀k,k<n0->k≠sid->k≠cn->W k=s0 k
 vf:Fr W n3
theorem Td{s0 a:ah}{Ws:List Nat}{cn n0 n3:Nat}{iz row:fg}(b:Fr s0 n0)(m:sid∉Ws)(n:cn∉Ws)(o:sid<n0)(q:cn<n0)(r:sid≠cn)(k:n0<=i)(s:i<n3)(t:(a sid).isSome=aa)(c:∀e,e≠sid->a e=am (aX Ws s0) cn (J iz) e):aoC s0 a (bp a (am (only Ws s0) i (J row))) sid cn i n0 n3 iz row:=by
 have g:∀e,e≠sid->e≠cn->e≠i->bp a (am (only Ws s0) i (J row)) e=s0 e:=by intro e d f l;simp only[bp,ai l,c e d,ai f,aX,only];by_cases h:e∈Ws;simp[h];grind
 refine⟨?_,?_,?_,λe p d f j=>(g e d f (by have:=b.lt j;omega)).trans j,ak,λe h=>(g e y y y).trans (b e y)⟩;have:a i=ae:=by rw[c i y,ai y];simp only[aX];split<;>first|rfl|exact b i k
 simp[bp,this];simp only[bp,c cn y,bi];cases u:a sid with|none=>grind|some p=>simp only[bp,u]
def amD{A:Nat->List P}(hN:0<=N/\N<=4611686018424000000)(a:jJ sid sg C aB V idE gE n c O1 ep A R E N s)(w:CP idE gE Q p s)(g:p<n)(hc:c<=100)(x:∀e,e<n->∃bA,A e=S (gG e)::bA)(z:∀t i v aR f,jJ sid sg C aB V idE gE n (c+1) O1 ep A R E (N+1) t->(∀e,e<89->e≠11->t.T e=s.T e)->t.T 11=.ptr i v 7 0 0->t.O i=J (.row 7 v [[S aR,I 3,S (gG p),S ⟨#[]⟩,B Z,I 0,B f].map .p])->iO aR<=100->C+2<=i->Ci E n i->aP .normal t):
 bx (X af) (.dg 11 aa (aZ 91 (xM 10)::aZ 92 (xN 91)::aZ 93 (xF 92 0)::aZ 94 (jP 1 93)::aZ 95 (xM 0)::aZ 11 (.alloc 9 7 [aF,aH,aF,aF,dZ,aH,dZ])::G 89 5::q 90 (.iI (.t 89) [])::RP)) s aP:=by
 letI:Gh:=jo;have ac:=a.nN;have ad:=a.qK;have ag:=a.gp;have h:=a.fr;obtain⟨j,a4,F,be⟩:=a.h4;have k:=a.rel.oE;have H:=a.rel.get g;have K:(A p).head? =J (S (gG p)):=by obtain⟨bA,u⟩:=x p g;rw[u];rfl
 have L:=a.h0;have M:=w.Gz;have O:=h.lt k;have l:sid≠idE:=y;have m:C+1≠idE:=y;intro d;refine⟨[idE],?_⟩;simp(disch:=omega)[aX,only,M,k,H,K,ba,L,F];refine⟨O,?_⟩;refine Kt (c:=c) y (by simp[aX,m,be]) λbX aR al T=>?_;have W:fV sid sg N (am (aX [idE] s.O) (C+1) (J (.row 1 j [[.p (I ((c+1:Nat):Int))]]))):=a.str.aL (by rw[ai y];simp[aX,l]);simp(disch:=omega)[RP];refine oq y W y y λab f O3 an e3 o=>?_;simp(disch:=omega)[Zk,fh,cF,dv,D.cells,P.cells,aJ,bI];have b:=Td (i:=s.nx+9) (n0:=s.nx) (n3:=ab) (iz:=.row 1 j [[.p (I ((c+1:Nat):Int))]]) (row:=.row 7 (d (s.nx+9)) [[.p (S aR),.p (I 3),.p (S (gG p)),.p aF,.p (B Z),.p (I 0),.p (B f)]]) h (by simp[l]) (by simp[m]) y y y y y (by obtain⟨_,_,u,_⟩:=o;exact U) e3;revert b;generalize bp O3 (am (only [idE] s.O) (s.nx+9) (J (.row 7 (d (s.nx+9)) [[.p (S aR),.p (I 3),.p (S (gG p)),.p aF,.p (B Z),.p (I 0),.p (B f)]])))=ao;intro b;refine z _ (s.nx+9) (d (s.nx+9)) aR f (a.aL (λe hk=>?_) (o.aL b.vs) (λv bb u=>?_) b.vo (λe k1 r _=>b.vl e y r y) aw b.vf) (λe k1 r=>?_) Y b.vi T y (a.free y);exact cj;rw[be]at u;cases u;exact b.vc;exact cj
def ant{A:Nat->List P}(hN:0<=N/\N<=4611686018424000000)(a:jJ sid sg C aB V idE gE n c O1 ep A R E N s)(z:CP idE gE Q p s)(hb:p<n)(hc:c<=100)(F:∀e,e<n->∃bA,A e=S (gG e)::bA){H:List D}(j:Q<n)(K:s.T 11=.ptr bM dT 7 0 0)(k:s.O bM=J (.row 7 dT [.p (S eK)::H]))(ac:C+2<=bM)(L:∀t i v aR,jJ sid sg C aB V idE gE n (c+1) O1 ep A R E (N+1) t->(∀e,e<134->e≠12->t.T e=s.T e)->t.T 12=.ptr i v 7 0 0->t.O i=J (.row 7 v [[S aR,I 3,S (gG Q),S eK,B Z,I 0,B Z].map .p])->iO aR<=100->C+2<=i->t.O bM=s.O bM->i≠bM->Ci E n i->aP .normal t):
 bx (X af) (.dg 11 aa (aZ 136 (xM 9)::aZ 137 (xN 136)::aZ 138 (xF 137 0)::aZ 139 (jP 1 138)::aZ 140 (xF 11 0)::aZ 141 (jP 1 140)::aZ 12 (.alloc 9 7 [aF,aH,aF,aF,dZ,aH,dZ])::G 134 5::q 135 (.iI (.t 134) [])::TB)) s aP:=by
 letI:Gh:=jo;have ad:=a.nN;have ag:=a.qK;have al:=a.gp;have f:=a.fr;obtain⟨g,a4,M,be⟩:=a.h4;have l:=a.rel.oE;have O:=a.rel.get j;have T:(A Q).head? =J (S (gG Q)):=by obtain⟨bA,u⟩:=F Q j;rw[u];rfl
 have W:=a.h0;have h9:=z.h9;have nE:=f.lt l;have m:sid≠idE:=y;have m2:C+1≠idE:=y;have o:=f.lt k;have r:sid≠bM:=y;have m4:bM≠idE:=y;have m5:C+1≠bM:=y;have cN:=a.str;intro d;refine⟨[idE,bM],?_⟩;simp(disch:=omega)[aX,only,h9,l,O,T,ba,W,M,K,k,m4];refine⟨nE,o,?_⟩;refine Kt (c:=c) y (by simp[aX,m2,m5,be]) λbX aR an hz=>?_;simp(disch:=omega)[TB,fh,cF,dv,D.cells,P.cells,aJ,bI];have ab:(s.O sid).isSome=aa:=by obtain⟨_,_,u,_⟩:=cN;rw[u];rfl
 have b:=Td (Ws:=[idE,bM]) (sid:=sid) (cn:=C+1) (i:=s.nx+9) (n0:=s.nx) (n3:=bX) (iz:=.row 1 g [[.p (I ((c+1:Nat):Int))]]) (row:=.row 7 (d (s.nx+9)) [[.p (S aR),.p (I 3),.p (S (gG Q)),.p (S eK),.p (B Z),.p (I 0),.p (B Z)]]) f U U y y y y y (by rw[ai y];simp[aX,m,r,ab]) λ_ _=>rfl;have h:bp (am (aX [idE,bM] s.O) (C+1) (J (.row 1 g [[.p (I ((c+1:Nat):Int))]]))) (am (only [idE,bM] s.O) (s.nx+9) (J (.row 7 (d (s.nx+9)) [[.p (S aR),.p (I 3),.p (S (gG Q)),.p (S eK),.p (B Z),.p (I 0),.p (B Z)]]))) sid=s.O sid:=b.vs.trans (by rw[ai y];simp[aX,m,r]);revert b h;have w:(((c+1:Nat):Int))=(c:Int)+1:=y;rw[w];generalize bp (am (aX [idE,bM] s.O) (C+1) (J (.row 1 g [[.p (I ((c:Int)+1))]]))) (am (only [idE,bM] s.O) (s.nx+9) (J (.row 7 (d (s.nx+9)) [[.p (S aR),.p (I 3),.p (S (gG Q)),.p (S eK),.p (B Z),.p (I 0),.p (B Z)]])))=ao;intro b h;refine L _ (s.nx+9) (d (s.nx+9)) aR (a.aL (λe hk=>?_) ((cN.mono y).aL h) (λv bb u=>?_) b.vo (λe k1 x _=>b.vl e y x y) aw b.vf) (λe k1 x=>?_) Y b.vi hz y (b.vl bM o y y) y (a.free y);exact cj;rw[be]at u;cases u;rw[w];exact b.vc;exact cj
def akx{A:Nat->List P}(hN:0<=N/\N<=4611686018424000000)(a:jJ sid sg C aB V idE gE n c O1 ep A R E N s)(w:CP idE gE Q p s)(h:p<n)(hc:c<=100)(x:∀e,e<n->∃bA,A e=S (gG e)::bA)(z:∀t i v aR cT f,jJ sid sg C aB V idE gE n (c+1) O1 ep A R E (N+2) t->(∀e,e<176->e≠13->t.T e=s.T e)->t.T 13=.ptr i v 7 0 0->t.O i=J (.row 7 v [[S aR,I 1,S (gG p),S ⟨#[]⟩,B Z,I cT,B f].map .p])->iO aR<=100->1<=cT->cT<=3->C+2<=i->Ci E n i->aP .normal t):
 bx (X af) (.dg 13 aa (aZ 178 (xM 10)::aZ 179 (xN 178)::aZ 180 (xF 179 0)::aZ 181 (jP 1 180)::aZ 182 (xM 0)::aZ 184 (xM 0)::aZ 13 (.alloc 11 7 [aF,aH,aF,aF,dZ,aH,dZ])::G 176 5::q 177 (.iI (.t 176) [])::RN)) s aP:=by
 letI:Gh:=jo;have ag:=a.nN;have al:=a.qK;have an:=a.gp;have j:=a.fr;obtain⟨F,a4,H,be⟩:=a.h4;have k:=a.rel.oE;have K:=a.rel.get h;have L:(A p).head? =J (S (gG p)):=by obtain⟨bA,u⟩:=x p h;rw[u];rfl
 have M:=a.h0;have O:=w.Gz;have T:=j.lt k;have l:sid≠idE:=y;have m:C+1≠idE:=y;intro d;refine⟨[idE],?_⟩;simp(disch:=omega)[aX,only,O,k,K,L,ba,M,H];refine⟨T,?_⟩;refine Kt (c:=c) y (by simp[aX,m,be]) λbX aR ao W=>?_;have ab:fV sid sg N (am (aX [idE] s.O) (C+1) (J (.row 1 F [[.p (I ((c+1:Nat):Int))]]))):=a.str.aL (by rw[ai y];simp[aX,l]);simp(disch:=omega)[RN];refine yu y y y ab y y λax cT O3 ay aE aI e3 ac=>?_;simp(disch:=omega)[aab];refine oq y ac y y λad f O4 aO e4 o=>?_;simp(disch:=omega)[aas,fh,cF,dv,D.cells,P.cells,aJ,bI];have b:=Td (i:=s.nx+11) (n3:=ad) (row:=.row 7 (d (s.nx+11)) [[.p (S aR),.p (I 1),.p (S (gG p)),.p aF,.p (B Z),.p (I cT),.p (B f)]]) j (by simp[l]) (by simp[m]) y y y y y (by obtain⟨_,_,u,_⟩:=o;exact U) λe g=>(e4 e g).trans (e3 e g);revert b;generalize bp O4 (am (only [idE] s.O) (s.nx+11) (J (.row 7 (d (s.nx+11)) [[.p (S aR),.p (I 1),.p (S (gG p)),.p aF,.p (B Z),.p (I cT),.p (B f)]])))=aS;intro b;refine z _ (s.nx+11) (d (s.nx+11)) aR cT f (a.aL (λe g=>?_) ((o.mono y).aL b.vs) (λv bb u=>?_) b.vo (λe k1 r _=>b.vl e y r y) aw b.vf) (λe k1 r=>?_) Y b.vi W y y y (a.free y);exact cj;rw[be]at u;cases u;exact b.vc;exact cj
theorem Rs{A:Nat->List P}{d:Nat}(l:jJ sid sg C aB V idE gE n c O1 ep A R E N s)(f:i<n)(hb:u<p/\d<p/\14<=p)(m:(R i).length<=100)(ab:row.length=7)(o:s.T u=.ptr idE gE 10 i 0)(q:s.T d=.ptr fq fw 7 0 0)(r:s.O fq=J (.row 7 fw [row.map D.p]))(w:∀t a,jJ sid sg C aB V idE gE n c O1 ep A (mR R i (R i++[row])) (mR E i a) N t->(∀e,e<p->t.T e=s.T e)->(∀e b,C+2<=e->s.O e=J b->Ci E n e->t.O e=J b/\Ci (mR E i a) n e)->aP .normal t):
 bx (X af) (.dg 11 aa ([⟨(J p),.mv (.t u),ae,aa⟩,⟨(J (p+1)),.mv (.t u),ae,Z⟩,⟨(J (p+2)),.lY (.t (p+1)),ae,Z⟩,⟨(J (p+3)),.fa (.t (p+2)) 7,ae,Z⟩,⟨(J (p+4)),.load 1 Z (.t (p+3)) aa,ae,Z⟩,⟨(J (p+5)),.load 7 aa (.t d) Z,ae,Z⟩]++([⟨(J (p+6)),.bQ 6 7 1 [aF,(I 0),aF,aF,(B Z),(I 0),(B Z)] [(0,(.t (p+5)))],ae,Z⟩,⟨(J (p+7)),.j4 7 7 80 (.t (p+4)) (.t (p+6)),ae,Z⟩]++[⟨(J (p+8)),.lY (.t p),ae,Z⟩,⟨(J (p+9)),.fa (.t (p+8)) 7,ae,Z⟩,oN (.store 1 (.t (p+9)) (.t (p+7)))]))) s aP:=by
 obtain⟨h0,⟨g3,a3,a6,bC⟩,⟨g4,a4,a5,be⟩,om,x,z,F,h,ac,G,L⟩:=l;refine ahI (rw0:=0) f y x h F m y o q r λt a M O ad Q hn S T=>w t a ⟨ak,ak,ak,ak,M,z.aL ak,y,S,ak,G,L⟩ O λe b hk j g=>⟨Q e b y j λv H u=>g i f e v H u rfl,λK U id v H u=>?_⟩;have ag:=h.lt j;simp[mR]at u;split at u;rcases T id v H u with k|⟨W,Y,k⟩
 omega;exact g i f id W Y k;exact g K U id v H u
def CP.aL(a:CP idE gE Q p s)(b:∀e,e=7\/e=8\/e=9\/e=10->t.T e=s.T e):CP idE gE Q p t:=⟨(b 7 y).trans a.h7,(b 8 y).trans a.h8,(b 9 y).trans a.h9,(b 10 y).trans a.Gz⟩
theorem Nw(a:jQ n p dH H)(b:DI n ag)(c:p+1<=x)(d:dH+(if mK ag then 1 else 0)<=cU):jQ n x cU (H++[ag]):=by obtain⟨e,f,g⟩:=a;refine⟨dK,?_,λh i=>?_⟩;grind;grind
theorem jJ.nD{A:Nat->List P}{b:Option fg}(d:jJ sid sg C aB V idE gE n c O1 ep A R E N s)(l:C+2<=x)(f:Ci E n x)(m:∀e,e<7->t.T e=s.T e)(g:t.O=am s.O x b)(h:s.nx<=t.nx)(i:x<t.nx):jJ sid sg C aB V idE gE n c O1 ep A R E N t:=by obtain⟨h0,⟨g3,o,p,bC⟩,⟨q,r,w,be⟩,om,rel,str,gp,fr,low,nN,qK⟩:=d;have u:∀e,e≠x->t.O e=s.O e:=U;refine⟨U,ak,ak,ak,⟨(u idE y).trans rel.oE,λe a=>(rel.L e a).gM λid v j z k=>(u id (f e a id v _ j)).trans k,rel.dj,rel.hA,y⟩,str.aL ak,y,by rw[g];exact(fr.mono h).am i,ak,nN,qK⟩
theorem aiJ{A:Nat->List P}(hN:0<=N/\N<=4611686018424000000)(b:jJ sid sg C aB V idE gE n c O1 ep A R E N s)(F:CP idE gE Q p s)(j:s.T 13=.ptr bH eV 7 0 0)(W:s.O bH=J (.row 7 eV [[S aR,I 1,S (gG p),S ⟨#[]⟩,B Z,I cT,B f].map .p]))(al:C+2<=bH)(hF:Ci E n bH)(hQ:∀t h,jJ sid sg C aB V idE gE n c O1 ep A R E (N+1) t->(∀e,e<187->t.T e=s.T e)->t.O bH=J (.row 7 eV [[S aR,I 1,S (gG p),S ⟨#[]⟩,B h,I cT,B f].map .p])->aP .normal t):
 bx (X af) (rF 14 (oF 187 13 5::oL 188 1 187::q 189 (di .neq 188 3)::G 190 189::oT 191 190 (xM 7)::oT 192 190 (xM 8)::oT 193 190 (xB .neq 191 192)::q 194 (jw 190 193)::G 195 194::oT 196 195 (xM 0)::oT 197 195 (.call 7 [.t 196,.c (I 3)])::IF)) s aP:=by
 letI:Gh:=jo;have an:=b.nN;have ao:=b.qK;have ax:=b.gp;have H:=b.fr;have h0:=b.h0;have K:=F.h7;have L:=F.h8;have ay:=H.lt W;have aE:bH≠idE:=y;have m:∀(a:ah) (o:Nat->D) (d:Nat) (h:Bool) (g:Nat->Nat),(∀e,e≠sid->a e=s.O e)->fV sid sg (N+1) a->(∀e,e<187->o e=s.T e)->s.nx<=d->Fr a d->aP .normal {T:=o,O:=am a bH (J (.row 7 eV [[.p (S aR),.p (I 1),.p (S (gG p)),.p aF,.p (B h),.p (I cT),.p (B f)]])),nx:=d,bs:=s.nx,gm:=g}:=by
  intro a o d h g k r hT hn ab;have h1:jJ sid sg C aB V idE gE n c O1 ep A R E (N+1) {s with O:=a,nx:=d}:=b.aL U r (λv bb u=>by obtain⟨g4,_,_,be⟩:=b.h4;grind) U U hn ab
  exact hQ _ h (h1.nD y hF ak rfl aw aw) hT Y
 have ac:∀a:ah,(∀e,e≠sid->a e=s.O e)->a bH=J (.row 7 eV [[.p (S aR),.p (I 1),.p (S (gG p)),.p aF,.p (B Z),.p (I cT),.p (B f)]]):=ak;have w:=ar;rw[dD];intro g;by_cases i:cT=3;simp[j,w,ba,binOp,aC,i,IF,bI,D.cells,P.cells,aJ];subst i;refine m s.O _ _ Z g U (b.str.mono y) (λe x=>?_) y bK;exact cj;have M:(cT !=3)=aa:=by simp[i]
 by_cases l:(Q:Int)=p;have z:((Q:Int) !=p)=Z:=by simp[l]
 simp[j,w,ba,binOp,aC,i,M,z,K,L,l,IF,bI,D.cells,P.cells,aJ];refine m s.O _ _ Z g U (b.str.mono y) (λe x=>?_) y bK;exact cj;have ad:¬Q=p:=y;have z:((Q:Int) !=p)=aa:=by simp[l]
 simp[j,w,ba,binOp,aC,i,M,z,K,L,h0,l,ad];refine oq y b.str y y λd fb a aI k r=>?_;have ag:=ac a k;simp[j,ag,IF,bI,D.cells,P.cells,aJ];refine m a _ _ fb g k r (λe x=>?_) y (λe x=>(k e y).trans (H e y));exact cj
theorem ak6{A:Nat->List P}(K:0<=N/\N<=4611686018424000000)(L:1<=n/\n<=5)(a:jJ sid sg C aB V idE gE n c O1 ep A R E N s)(k:∀t Q p,jJ sid sg C aB V idE gE n c O1 ep A R E (N+2) t->Q<n->p<n->t.T 7=.p (I ((Q:Nat):Int))->t.T 8=.p (I ((p:Nat):Int))->(∀e,e<26->e≠7->e≠8->t.T e=s.T e)->aP .normal t):
 bx (X af) (.dg 16 aa (aZ 27 (xL 1 3)::aZ 33 (xM 0)::aZ 34 (xL 1 3)::aZ 35 (xN 34)::aZ 36 (xF 35 1)::aZ 37 (xL 1 36)::aZ 38 (fQ 37)::G 26 0::d5 28 27::oF 29 28 1::aZ 30 (xL 1 29)::q 31 (fQ 30)::q 32 (dV 19 26 31)::Q2)) s aP:=by
 letI:Gh:=jo;have M:=a.nN;have O:=a.qK;have S:=a.gp;have l:=a.fr;have i:=a.h0;obtain⟨g3,m,T,bC⟩:=a.h3;have o:=a.om;have r:sid≠C:=y;have w:sid≠aB:=y;intro W;refine⟨[C,aB],?_⟩;simp(disch:=omega)[only,m,bC,o,i,ba];refine vR y y (a.str.aL (by simp[aX,r,w])) y y λbX Q O2 ab x ac z B=>?_;simp(disch:=omega)[Q2,i];refine vR y y B y y λD p d ad F ag H j=>?_;simp(disch:=omega)[afE];obtain⟨Q,rfl⟩:=kg x;obtain⟨p,rfl⟩:=kg F;have f:∀e,e≠sid->bp d (only [C,aB] s.O) e=s.O e:=by intro e g;simp only[bp,H e g,z e g,aX,only];by_cases b:e∈[C,aB];simp[b];grind
 have h:bp d (only [C,aB] s.O) sid=d sid:=by obtain⟨_,_,u,_⟩:=j;simp[bp,u]
 revert f h;generalize bp d (only [C,aB] s.O)=al;intro f h;refine k _ Q p (a.aL (λe b=>?_) ((j.mono y).aL h) (λv bb u=>?_) U U aw λe b=>?_) y y Y Y λe g k2 k3=>?_;exact cj;obtain⟨g4,_,_,be⟩:=a.h4;grind;have b:D<=e:=b;exact(f e y).trans (l e y);exact cj
def Yb(a:Nat)(b:Bool):List Nat->List aA->Bool|_,[]=>aa|c,dH::H=>(match dH.guard,dH.dst with|some (v,d),J bn=>((au v a&&(d== !b))||c.contains v)&& !au bn a&&Yb a b (bn::c) H|_,_=>Z)
def J4(a:List aA):List Nat:=a.filterMap (·.dst)
theorem vD{d:cR}{x:Nat}{w:Bool}:∀(Q:List aA) (a:List Nat) {s:St} {bu:St->Prop},Yb x w a Q=aa->s.T x=.p (B w)->(∀bn∈a,s.T bn=.p (.v undef))->(∀c,(∀e,e∉J4 Q->c e=s.T e)->bu {s with T:=c})->eN d Q s bu
 |[],a,s,bu,_,_,_,f=>f s.T U
 |⟨n,o,p,q⟩::H,a,s,bu,b,j,hd,f=>by
  simp only[Yb]at b;split at b
  .rename_i _ _ v r bn
   simp only[aq,fA,qY,List.contains_iff_mem]at b;obtain⟨⟨g,h⟩,k⟩:=b;have h:bn≠x:=by rintro rfl;simp at h
   have next:eN d H {s with T:=eE s.T (J bn) (.p (.v undef))} bu:=by refine vD H (bn::a) k ?_ ?_ λc l=>?_;simp only[dR,bP,ap (dB h),j];intro e i;simp only[dR,bP];grind;refine f c λe i=>?_;simp only[J4,CY,bt,not_or]at i;refine(l e i.2).trans ?_;exact U
   show d9 d _ s _;unfold d9;rcases g with⟨m,rfl⟩|g
   obtain rfl:=aK m;grind;simp only[hd v g];exact ar
  cases b
theorem amK{A:Nat->List P}(hN:0<=N/\N<=4611686018424000000)(a:jJ sid sg C aB V idE gE n c O1 ep A R E N s)(ht:CP idE gE Q p s)(k:Q<n)(l:p<n)(hM:Fb em n A)(ac:∀e,e<n->∃bA,A e=S (gG e)::bA)(hR:∀e,e<n->jQ n 7 6 (R e))(hQ:∀t bT,jJ sid sg C aB V idE gE n c O1 ep A R E (N+1) t->(∀e,e<98->t.T e=s.T e)->(∀e,e≠sid->t.O e=s.O e)->t.T 133=.p (B bT)->aP .normal t):
 bx (X af) (rF 36 (G 98 0::q 99 (.call 7 [.t 98,.c (I 2)])::tQ)) s aP:=by
 letI:Gh:=jo;have aI:=a.nN;have aO:=a.gp;have al:=a.fr;have h0:=a.h0;obtain⟨g3,a3,d,bC⟩:=a.h3;have H:=a.rel.get k;have K:=a.rel.get l;have L:(A Q).head? =J (S (gG Q)):=by obtain⟨bA,u⟩:=ac Q k;rw[u];rfl
 have M:(A p).head? =J (S (gG p)):=by obtain⟨bA,u⟩:=ac p l;rw[u];rfl
 have W:=ht.h9;have ab:=ht.Gz;rw[dD];intro an;simp[h0];refine oq y a.str y y λbX fb m aR e2 ao=>?_;have aS:s.nx<=bX:=y;have h1:jJ sid sg C aB V idE gE n c O1 ep A R E (N+1) {s with O:=m,nx:=bX}:=a.aL U ao (λv bb u=>by obtain⟨g4,_,_,be⟩:=a.h4;grind) U U y λe b=>(e2 e ak).trans (al e ak)
 have f:m idE=_:=h1.rel.oE;have g:∀(o:Nat->D) (r:Nat) (bT:Bool),(∀e,e<98->o e=s.T e)->bX<=r->o 133=.p (B bT)->aP .normal {T:=o,O:=m,nx:=r,bs:=s.nx,gm:=an}:=λo r bT hT hn a0=>hQ _ bT (h1.next ak rfl hn) hT e2 ar
 have h:∀(e i:Nat) (b:e<n) (z:bX<=i) {bu:D->ah->Nat->Prop},(∀ad bb,i<=ad->bu (.p (B bb)) m ad)->X af 89 [.p (S (gG e)),.ptr C g3 1 0 0] m i bu:=λe i b z bu ax=>YY h1 hM hR b a3 z ax;cases fb with
 |false=>have u:tQ=tQ.take 1++((tQ.drop 1).take 15++((tQ.drop 16).take 2++((tQ.drop 18).take 15++tQ.drop 33))):=rfl;rw[u,iX];show eN _ [G 100 99] _ _;simp only[eM,j6,mZ,dR];rw[iX];refine vD (x:=100) (w:=Z) _ [] (by rfl) Y ak λT1 F=>?_;have u1:T1 100=.p (B Z):=(F 100 eB).trans Y;rw[iX];show eN _ [q 116 (jw 100 115),G 117 116] _ _;simp only[eM,j6,mZ,cV,iF,zA,dR,u1,bP,aT];rw[iX];refine vD (x:=117) (w:=Z) _ [] (by rfl) Y ak λT2 j=>?_;have u2:T2 117=.p (B Z):=(j 117 eB).trans Y;show eN _ [q 133 (jw 117 132)] _ _;simp only[eM,j6,cV,iF,zA,dR,u2];have d1:∀bn∈J4 ((tQ.drop 1).take 15),98<=bn:=eB;have d2:∀bn∈J4 ((tQ.drop 18).take 15),98<=bn:=eB;refine g _ _ Z (λe b=>?_) y Y;simp only[bP];rw[ap y,j e ak];simp only[bP];rw[ap y,ap y,F e ak];exact cj
 |true=>
  simp[tQ,d,W,f,H,L,ba];refine h Q _ k y λr F ag=>?_;cases F with
  |true=>simp[SX,unOp];simp[Nv,d,W,f,H,L,ba,unOp];refine h Q _ k ag λi j z=>?_;cases j with|true=>simp[EM,d,ab,f,K,M,ba,unOp];refine h p _ l y λay t3 aE=>?_;simp[EB];refine g _ _ t3 (λe b=>?_) y Y;exact j5|false=>simp[EM,unOp];simp[EB];refine g _ _ aa (λe b=>?_) y Y;exact j5
  |false=>simp[SX,d,ab,f,K,M,ba];refine h p _ l ag λi j z=>?_;cases j with|true=>simp[Nv,unOp];simp[EM,unOp];simp[EB];refine g _ _ Z (λe b=>?_) y Y;exact j5|false=>simp[Nv,d,W,f,H,L,ba,unOp];refine h Q _ k y λay t3 aE=>?_;cases t3 with|true=>simp[EM,d,ab,f,K,M,ba,unOp];refine h p _ l y λa1 t4 a2=>?_;simp[EB];refine g _ _ t4 (λe b=>?_) y Y;exact j5|false=>simp[EM,unOp];simp[EB];refine g _ _ aa (λe b=>?_) y Y;exact j5
theorem ag3{A:Nat->List P}(hN:0<=N/\N<=4611686018424000000)(j:jJ sid sg C aB V idE gE n c O1 ep A R E N s)(ht:CP idE gE Q p s)(ha:Q<n)(o:p<n)(hc:c<=100)(a2:∀e,e<n->∃bA,A e=S (gG e)::bA)(hl:(R p).length<=100){a7:List D}(a8:s.T 13=.ptr bH eV 7 0 0)(aI:s.O bH=J (.row 7 eV [.p (S eK)::a7]))(b4:C+2<=bH)(hF:Ci E n bH)(W:∀t b aR f,jJ sid sg C aB V idE gE n (c+1) O1 ep A (mR R p (R p++[[S aR,I 2,S (gG Q),S eK,B Z,I 0,B f]])) (mR E p b) (N+1) t->iO aR<=100->(∀e,e<212->t.T e=s.T e)->aP .normal t):
 bx (X af) (.dg 21 aa (aZ 212 (xM 10)::aZ 213 (xM 10)::aZ 214 (xN 213)::aZ 215 (xF 214 7)::aZ 216 (jP 1 215)::aZ 219 (xM 9)::aZ 220 (xN 219)::aZ 221 (xF 220 0)::aZ 222 (xL 1 221)::aZ 223 (xF 13 0)::aZ 224 (xL 1 223)::aZ 225 (xM 0)::G 217 5::q 218 (.iI (.t 217) [])::Sw)) s aP:=by
 letI:Gh:=jo;have a9:=j.nN;have bb:=j.qK;have b5:=j.gp;have ab:=j.fr;obtain⟨g4,a4,a5,be⟩:=j.h4;have g:=j.rel;have oE:=g.oE;have aO:=g.L p o;have hA:=g.hA p o;have gA:=g.get ha;have gB:=g.get o;have bd:(A Q).head? =J (S (gG Q)):=by obtain⟨bA,u⟩:=a2 Q ha;rw[u];rfl
 have bk:((A p).map D.p++[E p,.p nl,.p nl])[7]? =J (E p):=by rw[kV (by simp[hA])];simp[hA]
 have a0:=j.h0;have h9:=ht.h9;have bl:=ht.Gz;have nE:=ab.lt oE;have m1:sid≠idE:=y;have m2:C+1≠idE:=y;have b6:=ab.lt aI;have m3:sid≠bH:=y;have m4:bH≠idE:=y;have m5:C+1≠bH:=y;have aS:=g.hm;have cN:=j.str;intro an;refine⟨[idE,bH],?_⟩;simp(disch:=omega)[only,h9,bl,oE,gA,gB,bd,bk,ba,a0,a5,a8,aI,m4];refine⟨nE,?_⟩;refine Kt (c:=c) y (by simp[aX,m2,m5,be]) λbX aR b7 hz=>?_;have bm:fV sid sg N (am (aX [idE,bH] s.O) (C+1) (J (.row 1 g4 [[.p (I ((c+1:Nat):Int))]]))):=cN.aL (by rw[ai y];simp[aX,m1,m3]);simp(disch:=omega)[Sw];refine oq y bm y y λac f h b8 e3 bn=>?_;have w:∀e,e≠sid->e≠C+1->e≠idE->e≠bH->h e=s.O e:=λe x k2 k3 k4=>(e3 e x).trans ((ai k2).trans (by simp[aX,k3,k4]));have vE:h idE=ae:=(e3 idE y).trans ((ai y).trans (by simp[aX]));have b9:h bH=ae:=(e3 bH y).trans ((ai y).trans (by simp[aX]));have vC:h (C+1)=J (.row 1 g4 [[.p (I ((c+1:Nat):Int))]]):=(e3 _ y).trans Y;have f3:Fr h s.nx:=λe a=>(w e y y y y).trans (ab e a);have ca:∀id v H,E p=.sl id v 0 H 7 Z->idE≠id:=λid v H u=>by rintro rfl;have:=(aO.low u).2;grind
 have L3:de h (C+2) 7 (aW (R p)) (E p):=aO.gM λid v u h1 m=>(w id y y y (hF p o id v _ u)).trans m;obtain⟨row,ao⟩:∃row:List P,row=[S aR,I 2,S (gG Q),S eK,B Z,I 0,B f]:=Y;have W:=W (aR:=aR) (f:=f);rw[<-ao]at W;have cb:row.length=7:=by rw[ao];rfl
 have bo:D.cells (.p (.agg row))=row.map .p:=by simp[D.cells,dw]
 have bB:∀T1:Nat->D,(∀e,e<212->T1 e=s.T e)->T1 212=.ptr idE gE 10 p 0->T1 216=E p->T1 218=.p (S aR)->T1 222=.p (S (gG Q))->T1 224=.p (S eK)->T1 226=.p (B f)->fS (X af) abM {T:=T1,O:=h,nx:=ac,bs:=s.nx,gm:=an} (only [idE,bH] s.O) λt F=>aP .normal {t with O:=bp t.O F}:=by
  intro T1 t1 cc cg bL bM bO bR;show fS _ ([(q 227 (.build [aF,aH,aF,aF,dZ,aH,dZ] [(0,1,.t 218),(1,1,.c (I 2)),(2,1,.t 222),(3,1,.t 224),(6,1,.t 226)]):aA)]++([q 228 (.bQ 16 7 1 [aF,aH,aF,aF,dZ,aH,dZ] [(0,.t 227)]),q 229 (jE 17 7 80 216 228)]++[d5 230 212,oF 231 230 7,vt (xS 1 231 229)])) _ _ _;rw[rN,pY _ Y];have bS:∀bu:St->Prop,bu {T:=eF T1 227 (.p (.agg row)),O:=h,nx:=ac,bs:=s.nx,gm:=an}->eN (X af) [q 227 (.build [aF,aH,aF,aF,dZ,aH,dZ] [(0,1,.t 218),(1,1,.c (I 2)),(2,1,.t 222),(3,1,.t 224),(6,1,.t 226)])] {T:=T1,O:=h,nx:=ac,bs:=s.nx,gm:=an} bu:=by intro bu hK;simp[fh,cF,dv,D.cells,P.cells,aJ,bI,bL,bM,bO,bR];rw[ao]at hK;exact hK
  refine bS _ ?_;rw[rN,pY _ Y];refine wj (d:=.p (.agg row)) f3 aw aw Y ak ar L3 y y y dK dK λb M T3 q1 q2 q3 q4 q5 q6 q7=>?_;have ub:T3 212=.ptr idE gE 10 p 0:=U;have oF:only [idE,bH] s.O idE=J (.row 10 gE ((cZ n).map (nR A E))):=by simp[only,oE]
  have bT:=q1.cell;have bZ:bI ((A p).map D.p++[E p,.p nl,.p nl]) [b] 7=(A p).map D.p++[b,.p nl,.p nl]:=by match A p,hA with|[x1,x2,x3,x4,x5,x6,x7],_=>rfl
  have b0:((cZ n).map (nR A E)).set p ((A p).map D.p++[b,.p nl,.p nl])=(cZ n).map (nR A (mR E p b)):=by rw[PL,Uv]
  simp(disch:=omega)[ub,oF,q2,bT,gB,bZ,b0,hA,o];have b1:∀e,e<C+2->M e=h e:=q4;have vW:∀e,e≠idE->e≠bH->bp M (am (only [idE,bH] s.O) idE (J (.row 10 gE ((cZ n).map (nR A (mR E p b)))))) e=M e:=by
   intro e x k2;simp only[bp,ai x,only];have:e∉[idE,bH]:=by simp[x,k2]
   rw[ap ar];cases M e<;>rfl
  have ax:bp M (am (only [idE,bH] s.O) idE (J (.row 10 gE ((cZ n).map (nR A (mR E p b)))))) idE=J (.row 10 gE ((cZ n).map (nR A (mR E p b)))):=by simp[bp,b1 idE aS,vE]
  have ad:∀e k,M e=J k->bp M (am (only [idE,bH] s.O) idE (J (.row 10 gE ((cZ n).map (nR A (mR E p b)))))) e=J k:=by intro e k u;simp[bp,u]
  revert vW ax ad;generalize bp M (am (only [idE,bH] s.O) idE (J (.row 10 gE ((cZ n).map (nR A (mR E p b))))))=ay;intro vW ax ad;have ch:∀e,e<n->∀id v H,E e=.sl id v 0 H 7 Z->id<s.nx:=λe a id v H u=>ab.lt ((g.L e a).low u).2;have a1:∀id v H,b=.sl id v 0 H 7 Z->s.nx<=id\/∃r l',E p=.sl id r 0 l' 7 Z:=by
   intro id v H u;have l:H=(aW (R p)++[D.cells (.p (.agg row))]).length:=by rcases q1 with⟨i,_⟩|⟨ck,r,_,i,_⟩;simp at i;grind
   subst l;rcases q6 id v u with i|⟨r,i⟩
   exact U;exact U
  have vk:∀e k,e≠sid->e≠C+1->e≠idE->e≠bH->s.O e=J k->(∀v H,E p≠.sl e v 0 H 7 Z)->ay e=J k:=λe k x k2 k3 k4 cl a=>ad e k (q3 e k ak ak);have ag:∀e,e<C+2->e≠idE->ay e=h e:=ak;have b2:Cw ay (C+2) idE gE n A (mR R p (R p++[row])) (mR E p b):=by
   refine⟨ax,λe a=>?_,λK e hj a aE id v r H l' L l=>?_,g.hA,aS⟩;by_cases al:e=p;subst al;have:=q1.gM λid v u h1 m=>ad id _ m;simp only[mR,aT];rw[bo,<-uZ]at this;exact ar;simp only[mR,ap al];refine(g.L e a).gM λid v u h1 m=>vk id _ y y ?_ (hF e a id v _ u) m λr l' e'=>g.dj p e o a y id _ _ _ _ e' u;omega;simp only[mR]at L l;split at L;rename_i b3;split at l;omega;subst b3;rcases a1 id v H L with i|⟨g2,l2,i⟩
   grind;exact g.dj K e hj a aE id _ _ _ _ i l;split at l;rename_i al;subst al;rcases a1 id r l' l with i|⟨g2,l2,i⟩
   grind;exact g.dj K e hj a aE id _ _ _ _ L i;exact g.dj K e hj a aE id _ _ _ _ L l
  have tT:∀e,e<212->eF (eF T3 230 (.ptr idE gE 10 p 0)) 231 (.ptr idE gE 10 p 7) e=s.T e:=λe a=>by simp only[bP];rw[ap y,ap y];exact((q7 e y y).trans cj).trans U
  obtain⟨h0,⟨g3,a3,a6,bC⟩,_,om,_,_,_,_,cm,_,_⟩:=j;refine W _ b ⟨U,⟨g3,U,U,(ag C y y).trans ((w C y y y y).trans bC)⟩,U,(ag aB y y).trans ((w aB y y y y).trans om),b2,bn.aL (ag sid y y),aw,λe a=>?_,λe h1 m h3=>(ag e y h3).trans ((w e m y h3 y).trans U),a9,bb⟩ hz tT;have a:ac<=e:=a;exact(vW e y y).trans (q5 e a)
 refine bB _ (λe a=>?_) Y Y Y Y Y Y;exact cj
def jJ.up{A:Nat->List P}{b:Int}(a:jJ sid sg C aB V idE gE n c O1 ep A R E N s)(d:N<=b):jJ sid sg C aB V idE gE n c O1 ep A R E b s:=⟨a.h0,a.h3,a.h4,a.om,a.rel,a.str.mono d,a.gp,a.fr,a.low,a.nN,a.qK⟩
theorem jJ.uK{b:ah}{A:Nat->List P}(a:jJ sid sg C aB V idE gE n c O1 ep A R E N s)(d:∀e,e≠sid->b e=s.O e)(f:fV sid sg (N+1) b)(g:s.nx<=bX):jJ sid sg C aB V idE gE n c O1 ep A R E (N+1) {s with O:=b,nx:=bX}:=by have nN:=a.nN;have gp:=a.gp;exact a.aL U f (λv h u=>by obtain⟨i,_,_,be⟩:=a.h4;grind) U U g λe j=>(d e ak).trans (a.fr e ak)
def VH{b:Int}{A:Nat->List P}(l:0<=N/\N<=4611686018424000000)(a:jJ sid sg C aB V idE gE n c O1 ep A R E N s)(m:b<=1000000000)(o:14<=x)(g:∀t f,jJ sid sg C aB V idE gE n c O1 ep A R E (N+1) t->(∀e,e<x->t.T e=s.T e)->t.T (x+1)=.p (B f)->(∀e,e≠sid->t.O e=s.O e)->aP .normal t):
 bx (X af) (rF 2 [⟨(J x),.mv (.t 0),ae,Z⟩,⟨(J (x+1)),.call 7 [(.t x),(.c (I b))],ae,Z⟩]) s aP:=by have h:=a.h0;have p:=a.nN;have q:=a.gp;rw[dD];intro r;simp[h];refine oq y a.str y y λbX i u v d j=>?_;refine g _ i ((a.uK d j (by omega:s.nx<=bX)).next (λe k=>?_) rfl aw) (λe k=>?_) Y d;exact cj;exact cj
def ajd{A:Nat->List P}(u:0<=N/\N<=4611686018424000000)(a:jJ sid sg C aB V idE gE n c O1 ep A R E N s)(f:CP idE gE Q p s)(g:∀t bT,jJ sid sg C aB V idE gE n c O1 ep A R E (N+1) t->(∀e,e<143->t.T e=s.T e)->(∀e,e≠sid->t.O e=s.O e)->t.T 149=.p (B bT)->aP .normal t):
 bx (X af) (rF 7 (G 143 7::G 144 8::q 145 (xB .eql 143 144)::G 146 145::oT 147 146 (xM 0)::oT 148 146 (.call 7 [.t 147,.c (I 2)])::Jl)) s aP:=by
 have h:=a.h0;have i:=f.h7;have j:=f.h8;have v:=a.nN;have w:=a.gp;rw[dD];intro x;by_cases b:(Q:Int)=p;have k:((Q:Int)==p)=aa:=by simp[b]
 simp[h,i,j,binOp,aC,b];refine oq y a.str y y λbX m z D l o=>?_;simp[Jl];refine g _ m ((a.uK l o (by omega:s.nx<=bX)).next (λe d=>?_) rfl aw) (λe d=>?_) l Y;exact cj;exact cj;have r:¬Q=p:=y;have k:((Q:Int)==p)=Z:=U;simp[h,i,j,binOp,aC,k,b,r,Jl];refine g _ Z ((a.up y).next (λe d=>?_) rfl aw) (λe d=>?_) U Y;exact cj;exact cj
def aex{a b:Nat}{A:Nat->List P}{d l:ByteArray}{k0 f:Int}{g h i:P}{m:List D}(j:jJ sid sg C aB V idE gE n c O1 ep A R E N s)(B:14<=x)(F:cU<x)(o:s.T 11=.ptr bM dT 7 0 0)(k:s.O bM=J (.row 7 dT [[S aR,I k0,g,S l,h,I f,i].map .p]))(G:C+2<=bM)(p:Ci E n bM)(q:s.T cU=.ptr a b 7 0 0)(r:s.O a=J (.row 7 b [.p (S d)::m]))(u:∀t,jJ sid sg C aB V idE gE n c O1 ep A R E N t->(∀e,e<x->t.T e=s.T e)->(∀e,e≠bM->t.O e=s.O e)->t.O bM=J (.row 7 dT [[S aR,I k0,g,S d,h,I f,i].map .p])->aP .normal t):
 bx (X af) (rF 4 [⟨(J x),.fa (.t cU) 0,ae,Z⟩,⟨(J (x+1)),.load 1 Z (.t x) Z,ae,Z⟩,⟨(J (x+2)),.fa (.t 11) 3,ae,Z⟩,oN (.store 1 (.t (x+2)) (.t (x+1)))]) s aP:=by have H:=j.fr.lt k;have v:(11:Nat)≠x:=y;have w:(11:Nat)≠x+1:=y;have K:cU≠x:=y;rw[dD];intro L;simp[q,r,ba,o,v,w,k,bI,D.cells,P.cells,aJ];refine u _ (j.nD y p (λe z=>?_) rfl aw aw) (λe z=>?_) U Y;exact cj;exact cj
def QV(f:∀e,e<n->jQ n 7 6 (R e))(a:jQ n x cU (R i))(b:DI n ag)(c:x+1<=7)(d:cU+(if mK ag then 1 else 0)<=6):∀e,e<n->jQ n 7 6 (mR R i (R i++[ag]) e):=by intro e g;simp[mR];split;exact Nw a b c d;exact U
theorem Qy(a:jQ n x cU H)(b:H.length<=dH):jQ n dH dH H:=⟨b,ak,a.2.2⟩
def age{b c:Nat}(d:jQ n x cU (R p))(a:jQ n x cU (R Q))(e:DI n ag)(f:x+1<=b)(g:cU+(if mK ag then 1 else 0)<=c):jQ n b c (mR R p (R p++[ag]) Q):=by simp[mR];split;exact Nw d e f g;exact⟨by have:=a.1;omega,by have:=a.2.1;omega,a.2.2⟩
def SH{a:ByteArray}(b:bT<n)(c:aR.size<=100)(d:a.size<=100):DI n [S aR,I 3,S (gG bT),S a,B Z,I 0,B f]/\mK [S aR,I 3,S (gG bT),S a,B Z,I 0,B f]=Z:=⟨⟨aR,3,bT,a,Z,0,f,rfl,c,d,y,y,y,y,b⟩,by simp[mK]⟩
def adt{a:ByteArray}(b:bT<n)(c:aR.size<=100)(d:a.size<=100):DI n [S aR,I 2,S (gG bT),S a,B Z,I 0,B f]/\mK [S aR,I 2,S (gG bT),S a,B Z,I 0,B f]=Z:=⟨⟨aR,2,bT,a,Z,0,f,rfl,c,d,y,y,y,y,b⟩,by simp[mK]⟩
def agQ{nd:Bool}(a:bT<n)(b:aR.size<=100)(c:1<=cT)(d:cT<=3):DI n [S aR,I 1,S (gG bT),S ⟨#[]⟩,B nd,I cT,B f]:=⟨aR,1,bT,⟨#[]⟩,nd,cT,f,rfl,b,eB,y,y,y,y,a⟩
theorem adD{A:Nat->List P}(hN:0<=N/\N<=4611686018423999000)(o:jJ sid sg C aB V idE gE n c O1 ep A R E N s)(r:CP idE gE Q p s)(b:Q<n)(d:p<n)(hc:c<=99)(hM:Fb em n A)(W:∀e,e<n->∃bA,A e=S (gG e)::bA)(a:∀e,e<n->jQ n 7 6 (R e))(ax:(R Q).length<=5)(ay:(R p).length<=5)(aE:s.T 11=.ptr bM dT 7 0 0)(aI:s.O bM=J (.row 7 dT [[S aR,I 3,S (gG p),S ⟨#[]⟩,B Z,I 0,B f].map .p]))(u:aR.size<=100)(aO:C+2<=bM)(v:Ci E n bM)(hQ:∀t Y R' g,jJ sid sg C aB V idE gE n Y O1 ep A R' g (N+3) t->Y<=c+1->(∀e,e<n->jQ n 7 6 (R' e))->(∀e,e<26->e≠12->t.T e=s.T e)->aP (.exit 1) t):
 bx (X af) Iv s aP:=by
 have x:=Qy (a Q b) ax;have Rb:=Qy (a p d) ay;rw[show Iv=.seq (z 36 (G 98 0::q 99 (.call 7 [.t 98,.c (I 2)])::tQ) NC) N1 from rfl,bF,bF];have D:∀s2 h i g w,jJ sid sg C aB V idE gE n h O1 ep A i g (N+3) s2->h<=c+1->(∀e,e<n->jQ n 7 6 (i e))->jQ n 6 5 (i Q)->(∀e,e<26->e≠12->s2.T e=s.T e)->s2.O bM=J (.row 7 dT [[S aR,I 3,S (gG p),S w,B Z,I 0,B f].map .p])->iO w<=100->bx (X af) N1 s2 aP:=by intro s2 h i g w F aS a0 ab j o2 hw;rw[show N1=.seq _ (.exit 1) from rfl,bF];obtain⟨k,H⟩:=SH d u hw;refine Rs F b y (by have:=ab.1;omega) rfl ((j 9 y y).trans r.h9) U o2 λs3 bb l m _=>?_;exact hQ s3 h _ _ l aS (QV a0 ab k y U) ak
 refine amK y o r b d hM W a λs1 bT r1 t1 o1 a1=>?_;show bx _ NC s1 _;have K:=(o1 bM (by have:=o.nN;omega)).trans aI;have ac:=(t1 11 y).trans aE;have ad:=r.aL λe hk=>t1 e y;rw[show NC=.cond (.t 133) _ .skip from rfl,kA];rw[iF,a1];cases bT with|false=>rw[iV,mD];exact D s1 c R E ⟨#[]⟩ (r1.up y) y a ⟨y,ak,x.2.2⟩ ak K eB|true=>rw[jU,bF];refine ant y r1 ad d y W b ac K y λs2 ag bd z2 F j a2 a3 al be a4 a5 bk=>?_;show bx _ SG s2 _;have a6:=a4.trans K;have a7:=(j 11 y y).trans ac;have an:=ad.aL λe hk=>j e y y;rw[show SG= z 7 (G 143 7::G 144 8::q 145 (xB .eql 143 144)::G 146 145::oT 147 146 (xM 0)::oT 148 146 (.call 7 [.t 147,.c (I 2)])::Jl) Nt from rfl,bF];refine ajd y F an λs3 bT l m o3 a8=>?_;show bx _ Nt s3 _;have bl:=o.nN;have L:=(o3 bM y).trans a6;have ao:=(o3 ag y).trans a3;have M:=(m 11 y).trans a7;have a9:=(m 12 y).trans a2;rw[show Nt=.cond (.t 149) _ _ from rfl,kA];rw[iF,a8];have tt:∀e,e<26->e≠12->s3.T e=s.T e:=ak;cases bT with|true=>rw[jU];refine aex l y y M L y v M L λs4 r4 O o4 T=>?_;exact D s4 (c+1) R E aR ak y a ⟨y,ak,x.2.2⟩ ak T u|false=>rw[iV,bF];refine aex l y y M L y v a9 ao λs4 r4 O o4 T=>?_;obtain⟨k,H⟩:=SH b al u;refine Rs r4 d y y rfl ((O 10 y).trans ((m 10 y).trans an.Gz)) U ((o4 ag a5).trans ao) λs5 bm r5 t5 o5=>?_;exact D s5 (c+1) _ _ z2 (r5.up y) y (QV a Rb k y (by rw[H];decide)) (age Rb x k y (by rw[H];decide)) (λe k1 k2=>(t5 e y).trans ((O e y).trans (tt e k1 k2))) (o5 bM _ aO T v).1 al
theorem ahh{A:Nat->List P}(hN:0<=N/\N<=4611686018423999000)(i:jJ sid sg C aB V idE gE n c O1 ep A R E N s)(a:CP idE gE Q p s)(d:Q<n)(g:p<n)(hc:c<=99)(j:∀e,e<n->∃bA,A e=S (gG e)::bA)(h:∀e,e<n->jQ n 7 6 (R e))(K:(R Q).length<=5)(L:(R p).length<=5)(k:∀t l m M,jJ sid sg C aB V idE gE n l O1 ep A m M (N+5) t->l<=c+2->(∀e,e<n->jQ n 7 6 (m e))->(∀e,e<26->e≠13->t.T e=s.T e)->aP .normal t):
 bx (X af) Jw s aP:=by
 have o:=Qy (h Q d) K;have O:=Qy (h p g) L;rw[show Jw=.seq _ Nr from rfl,bF];refine akx y i a g y j λs1 bH eV aR cT f T W Y ab q ao ax ay r=>?_;show bx _ Nr s1 _;have u:=a.aL λe hk=>W e y y;rw[show Nr=.seq _ Mk from rfl,bF];refine aiJ y T u Y ab y r λs2 v r2 t2 w=>?_;show bx _ Mk s2 _;rw[show Mk=.seq _ NY from rfl,bF];have x:=agQ (nd:=v) (f:=f) g q y y;have D:5+(if mK [S aR,I 1,S (gG p),S ⟨#[]⟩,B v,I cT,B f] then 1 else 0)<=6:=by split<;>omega
 refine Rs r2 d y y rfl ((t2 9 y).trans u.h9) U w λs3 aE r3 t3 o3=>?_;show bx _ NY s3 _;obtain⟨ac,ad⟩:=o3 bH _ y w r;have F:=QV h o x y D;have ag:jQ n 6 6 _:=age o O x y D;rw[show NY= z 2 [G 210 0,⟨(J (210+1)),.call 7 [(.t 210),(.c (I 2))],ae,Z⟩] MT from rfl,bF];refine VH y r3 y y λs4 f4 H t4 aI o4=>?_;show bx _ MT s4 _;have b:∀e,e<26->e≠13->s4.T e=s.T e:=ak;rw[show MT=.cond (.t 211) _ .skip from rfl,kA];rw[iF,show s4.T 211=_ from ar];cases f4 with|false=>rw[iV,mD];exact k s4 (c+1) _ _ (H.up y) y F b|true=>rw[jU];have aO:=i.nN;have al:CP idE gE Q p s4:=⟨(b 7 y y).trans a.h7,(b 8 y y).trans a.h8,(b 9 y y).trans a.h9,(b 10 y y).trans a.Gz⟩;refine ag3 y H al d g y j (by have:=ag.1;omega) U ((o4 bH y).trans ac) y ad λs5 aS z5 f5 r5 an t5=>?_;obtain⟨p5,q5⟩:=adt d an q;exact k s5 (c+1+1) _ _ (r5.up y) y (QV F ar p5 y ar) ak
theorem ab8{A:Nat->List P}(hN:0<=N/\N<=4611686018423998000)(F:jJ sid sg C aB V idE gE n c O1 ep A R E N s)(H:s.T 7=.p (I Q))(K:s.T 8=.p (I p))(b:Q<n)(a:p<n)(L:c<=22)(l:Fb em n A)(d:∀e,e<n->∃bA,A e=S (gG e)::bA)(g:∀e,e<n->jQ n 7 6 (R e))(h:∀u t m o M,u=.normal\/u=.exit 1->jJ sid sg C aB V idE gE n m O1 ep A o M (N+6) t->m<=22->(∀e,e<n->jQ n 7 6 (o e))->(∀e,e=23\/e=24->t.T e=s.T e)->aP u t):
 bx (X af) Mp s aP:=by rw[show Mp=.seq _ (.seq _ NG) from rfl,bF];refine akF F H K b a λs1 O q t1=>?_;show bx _ (.seq _ NG) s1 _;rw[bF];refine ace O q b a l d g (λs2 i r=>?_) λs2 i r an v w=>?_;exact h _ s2 c R E Y (i.up y) L g ak;show bx _ NG s2 _;have T:=q.aL λe j=>r e y;have U:∀e,e=23\/e=24->s2.T e=s.T e:=ak;rw[show NG=.seq (z 2 [G 87 0,⟨(J (87+1)),.call 7 [(.t 87),(.c (I 3))],ae,Z⟩] NP) Jw from rfl,bF,bF];refine VH y i y y λs3 W x B ab o3=>?_;show bx _ NP s3 _;have k:=T.aL λe j=>B e y;have ao:=λe j=>(B e y).trans (U e j);rw[show NP=.cond (.t 88) (.seq _ Iv) .skip from rfl,kA];rw[iF,show s3.T 88=_ from ab];cases W with|false=>rw[iV,mD];show bx _ Jw s3 _;exact ahh y x k b a y d g v w λs4 c4 R4 D4 D ax ac t4=>h _ s4 c4 R4 D4 Y ak y ac ak|true=>rw[jU,bF];refine amD y x k a y d λs4 bM dT aR f D t4 ad ag hz ay hF=>?_;show bx _ Iv s4 _;exact adD y D (k.aL ak) b a y l d g v w ad ag hz y hF λs5 c5 R5 D5 r5 aE al t5=>h _ s5 c5 R5 D5 Y (r5.up y) y al ak
end Go.Dl
namespace Go.Dl
def lX{d e:dh}{a:Nat}{b c:Int}(g:s.ev d=.p (I b))(h:s.ev e=.p (I c))(i:b<c->∀V,bx eZ bA {s with T:=eF s.T a (.p (B aa)),nx:=s.nx+1,bs:=s.nx,gm:=V} aP)(j:¬b<c->∀V,aP (.exit id) {s with T:=eF s.T a (.p (B Z)),nx:=s.nx+1,bs:=s.nx,gm:=V}):
 bx eZ (z 1 [⟨J a,.lS .lss 0 d e,ae,Z⟩] (.seq (.cond (.t a) .skip (.exit id)) bA)) s aP:=by
 rw[bF,dD];intro V;have k:∀V,({s with bs:=s.nx,nx:=s.nx+1,gm:=V}:St).ev d=.p (I b):=λV=>by rw[<-g];cases d<;>rfl
 have l:∀V,({s with bs:=s.nx,nx:=s.nx+1,gm:=V}:St).ev e=.p (I c):=λV=>by rw[<-h];cases e<;>rfl
 rw[eM,sI,k,l];simp only[binOp,aC,j6];refine⟨trivial,?_⟩;by_cases f:b<c;rw[qu f];rw[bF,kA];show sC (eF s.T a (.p (B aa)) a) _ _;rw[bP,aU rfl,jU,mD];exact i f V;rw[mz f];rw[bF,kA];show sC (eF s.T a (.p (B Z)) a) _ _;rw[bP,aU rfl,iV,Lo];exact j f V
def Mb(g:mu eZ){d e:dh}{a:Nat}{b c:Int}(h:s.ev d=.p (I b))(i:s.ev e=.p (I c))(j:b<c->∀V,cH eZ bA {s with T:=eF s.T a (.p (B aa)),nx:=s.nx+1,bs:=s.nx,gm:=V} aP)(k:¬b<c->∀V,aP (.exit id) {s with T:=eF s.T a (.p (B Z)),nx:=s.nx+1,bs:=s.nx,gm:=V}):
 cH eZ (z 1 [⟨J a,.lS .lss 0 d e,ae,Z⟩] (.seq (.cond (.t a) .skip (.exit id)) bA)) s aP:=by
 refine Ai.bU g ?_;rw[dD];intro V;have l:∀V,({s with bs:=s.nx,nx:=s.nx+1,gm:=V}:St).ev d=.p (I b):=λV=>by rw[<-h];cases d<;>rfl
 have m:∀V,({s with bs:=s.nx,nx:=s.nx+1,gm:=V}:St).ev e=.p (I c):=λV=>by rw[<-i];cases e<;>rfl
 rw[eM,sI,l,m];simp only[binOp];refine⟨trivial,Ai.bU g ?_⟩;by_cases f:b<c;rw[qu f,kA];show sC (eF s.T a (.p (B aa)) a) _ _;rw[bP,aU rfl,jU,mD];exact j f V;rw[mz f,kA];show sC (eF s.T a (.p (B Z)) a) _ _;rw[bP,aU rfl,iV,Lo];exact k f V
end Go.Dl
namespace Go.Dl
open Go.Proofs Go.Dl.Ai
theorem aiy{A:Nat->List P}{j:Int}(hN:0<=N/\N<=4611686018423990000)(v:1<=n/\n<=5)(b:jJ sid sg C aB V idE gE n 0 O1 ep A R E N s)(d:s.T 23=.p (I j))(f:s.T 24=.p (I 0))(w:0<=j/\j<10)(x:Fb em n A)(D:∀e,e<n->∃bA,A e=S (gG e)::bA)(a:∀e,e<n->jQ n 7 6 (R e))(F:∀t H l k,jJ sid sg C aB V idE gE n H O1 ep A l k (N+90) t->(∀e,e<n->jQ n 7 6 (l e))->aP (.exit 0) t):
 bx (X af) (.loop Qt) s aP:=by
 letI:Gh:=jo;obtain⟨bZ,rfl⟩:=kg w.1;refine⟨λe s=>∃K:Nat,e=bZ-K/\K<=bZ/\s.T 23=.p (I (bZ:Int))/\s.T 24=.p (I (K:Int))/\∃c R E,jJ sid sg C aB V idE gE n c O1 ep A R E (N+9*K) s/\c<=22/\∀e,e<n->jQ n 7 6 (R e),⟨_,0,rfl,y,d,f,0,R,E,U,y,a⟩,?_⟩;clear b d f a;rintro e s ⟨K,rfl,hj,d,f,c,R,E,b,L,a⟩;have M:=lW (i:=K) y;rw[show Qt= z 1 [q 25 (xB .lss 24 23)] (.seq (cX 25 0) (.seq (.block 1 (.seq (.dg 16 aa (aZ 27 (xL 1 3)::aZ 33 (xM 0)::aZ 34 (xL 1 3)::aZ 35 (xN 34)::aZ 36 (xF 35 1)::aZ 37 (xL 1 36)::aZ 38 (fQ 37)::G 26 0::d5 28 27::oF 29 28 1::aZ 30 (xL 1 29)::q 31 (fQ 30)::q 32 (dV 19 26 31)::Q2)) Mp)) N6)) from rfl];refine lX f d (λan m=>?_) λao m=>?_;rw[bF,gQ,bF];have r0:jJ sid sg C aB V idE gE n c O1 ep A R E (N+9*K) {s with T:=eF s.T 25 (.p (B aa)),nx:=s.nx+1,bs:=s.nx,gm:=m}:=b.next cj rfl aw;refine ak6 y v r0 λs1 Q p O W hb e7 e8 t1=>?_;show bx _ Mp s1 _;have ab:s1.T 23=.p (I (bZ:Int)):=U;have ac:s1.T 24=.p (I (K:Int)):=U;refine ab8 y O e7 e8 W hb L x D a λu s2 c2 R2 k he r2 ad ag o=>?_;have ax:=(o 23 y).trans ab;have al:=(o 24 y).trans ac;have step:bx (X af) N6 s2 λu g=>match u with|.normal=>∃r,r<bZ-K/\∃h:Nat,r=bZ-h/\h<=bZ/\g.T 23=.p (I (bZ:Int))/\g.T 24=.p (I (h:Int))/\∃c R E,jJ sid sg C aB V idE gE n c O1 ep A R E (N+9*h) g/\c<=22/\∀e,e<n->jQ n 7 6 (R e)|u=>aP u g:=by simp only[N6,dD,eM,sI,iF,zA,al,binOp,aC,dR,M];intro ay;refine⟨Y,_,?_,K+1,rfl,y,ar,Y,c2,R2,k,(r2.up y).next (λe hk=>?_) rfl aw,ad,ag⟩;omega;exact cj
 rcases he with rfl|rfl;exact step;exact ar;refine F _ c R E ((b.up y).next (λe hk=>?_) rfl aw) a;exact cj
theorem Va{A:Nat->List P}(O:0<=N/\N<=4611686018423980000)(l:1<=n/\n<=5)(m:fV sid sg N bO)(a:bO aB=J (.row 2 V [[.p ep,.sl idE gE 0 n 10 Z]]))(h:bO idE=J (.row 10 gE ((cZ n).map (nR A λ_=>.p nl))))(o:∀e,e<n->(A e).length=7)(Q:sid<C)(b:sid≠idE/\sid≠aB/\aB≠idE)(p:Fb em n A)(q:∀e,e<n->∃bA,A e=S (gG e)::bA)(r:∀c cJ R E,C<=c->fV sid sg (N+91) cJ->cJ aB=J (.row 2 V [[.p ep,.sl idE gE 0 n 10 Z]])->Cw cJ (C+2) idE gE n A R E->(∀e,e<n->jQ n 7 6 (R e))->(∀e,e<C->e≠sid->e≠idE->cJ e=bO e)->Fr cJ c->bu (.eQ []) cJ c):
 X af 43 [.ptr sid sg 2 0 0,.ptr aB V 2 0 0] bO C bu:=by letI:Gh:=jo;refine X.of Y aoE (by simp[D43]) λd=>?_;have s:=d.lt a;have u:=d.lt h;have v:cI.wrap (2*(n:Int))=2*n:=iK y y;have T:∀e,e<C->e≠C/\e≠C+1:=qM;simp(disch:=omega)[D43,cN,D.cells,ba,bI,P.cells,aJ,a,binOp,aC,v];intro i j g3;have w:fV sid sg N (am (am bO C (J (.row 1 (i C) [[.ptr aB V 2 0 0]]))) (C+1) (J (.row 1 (j (C+1)) [[.p (I 0)]]))):=m.aL U;refine vR y y w y y λbX x z W B ab f F=>?_;simp only[ago,eM,j6,mZ,zA,dR];rw[show agb=.block 0 (.loop Qt) from rfl,gQ];have g:∀e,e<C->e≠sid->z e=bO e:=U;refine aiy (R:=λ_=>[]) y l ⟨Y,⟨i C,Y,Y,(f C y).trans Y⟩,⟨j (C+1),Y,Y,(f (C+1) y).trans Y⟩,(g aB s b.2.1.symm).trans a,⟨(g idE u b.1.symm).trans h,λe _=>.inl ⟨rfl,rfl⟩,ak,o,y⟩,F,aw,λe k=>?_,λe G H _=>g e G H,y,b⟩ Y Y ⟨B,y⟩ p q (λe _=>⟨Y,Y,ak⟩) λt c' K L ag M=>?_;have k:bX<=e:=k;exact(f e y).trans (by rw[ai y,ai y];exact d e y);simp only[aT];exact⟨Y,.d8 ag.fr (by have:=ag.gp;omega) (r t.nx t.O K L (by have:=ag.gp;omega) (ag.str.mono y) ag.om ag.rel M ag.low ag.fr)⟩
def BT(id:Nat)(a:D):Prop:=(∃aS,a=.p aS)\/(∃Q p c u f,a=.ptr Q p c u f)\/∃b v dH H n f,a=.sl b v dH H n f/\b≠id
def BT.uz{b:List (List P)}(a:BT id bn):gx id v n b bn=bn:=by rcases a with⟨aS,rfl⟩|⟨Q,p,c,u,f,rfl⟩|⟨d,e,dH,H,g,f,rfl,a⟩;simp[gx];simp[gx];simp[gx,a]
def F7{id b c:Nat}{d:List (List P)}:∀(H:List D),(∀bn∈H,BT id bn)->kn id b c d H=H|[],_=>by simp[kn]|bn::H,a=>by simp[kn,(a bn ja).uz,F7 H λx e=>a x (jz _ e)]
def LW(c:Fr s.O s.nx)(d:de s.O bZ n (aW bS) (s.T bT)):
 ∃aS s1,kh s s1/\Sl n aS bS/\s1.T bT=.p aS/\(∀e,(∀v H,s.T bT≠.sl e v 0 H n Z)->s1.O e=s.O e)/\(∀e,(∀id v H,s.T bT=.sl id v 0 H n Z->BT id (s.T e))->s1.T e=s.T e)/\s1.nx=s.nx/\Fr s1.O s.nx:=by
 rcases d.sl with⟨rfl,u⟩|⟨id,v,g,u,f⟩;exact⟨_,s,.refl s,.nil,u,λe _=>rfl,λe _=>rfl,rfl,c⟩;refine⟨.im bS n Z,{s with T:=λe=>gx id v n bS (s.T e),O:=j8 (λ_=>False) id v n bS s.O},.step (λ_=>False) id v n bS f (.refl _),.im bS Z,?_,λe a=>?_,λe b=>(b id v _ u).uz,rfl,λe b=>?_⟩;show gx id v n bS (s.T bT)=_;rw[u];simp[gx];have a:e≠id:=by rintro rfl;exact a v _ u
 simp[j8,a];simp only[j8];split;rfl;simp[c e b]
def OY{a:List (List D)}{b:List D}(g:Fr s.O s.nx)(i:s.O db=J (.row w fe a))(h:a[K]? =J (xs.map D.p++bn::b))(j:de s.O bZ n (aW bS) bn)(k:∀id v H,bn=.sl id v 0 H n Z->db≠id)(l:∀id v H,bn=.sl id v 0 H n Z->(∀cU∈b,BT id cU)/\∀e ag,a[e]? =J ag->e≠K->∀cU∈ag,BT id cU):
 ∃aS s1,kh s s1/\Sl n aS bS/\s1.O db=J (.row w fe (a.set K (xs.map D.p++ .p aS::b)))/\(∀e,e≠db->(∀v H,bn≠.sl e v 0 H n Z)->s1.O e=s.O e)/\(∀e,(∀id v H,bn=.sl id v 0 H n Z->BT id (s.T e))->s1.T e=s.T e)/\s1.nx=s.nx/\Fr s1.O s.nx:=by
 rcases j.sl with⟨rfl,rfl⟩|⟨id,v,z,rfl,m⟩;refine⟨_,s,.refl s,.nil,i.trans ?_,λe _ _=>rfl,λe _=>rfl,rfl,g⟩;have:a.set K (xs.map D.p++D.p aD::b)=a:=by apply jX;intro e;rw[jG];split;rename_i d;subst d;split;exact h.symm;rename_i f;rw[Hg y];rfl
 rw[this];have o:db≠id:=k id v _ rfl;obtain⟨p,q⟩:=l id v _ rfl;refine⟨.im bS n Z,{s with T:=λe=>gx id v n bS (s.T e),O:=j8 (· =db) id v n bS s.O},.step (· =db) id v n bS m (.refl _),.im bS Z,?_,λe r f=>?_,λe c=>(c id v _ rfl).uz,rfl,λe c=>?_⟩;have t:a.map (kn id v n bS)=a.set K (xs.map D.p++ .p (.im bS n Z)::b):=by apply jX;intro e;rw[dN,jG];split;rename_i d;subst d;have x:=(bq.1 h).1;rw[aU x,h];simp only[fK,FQ,Cp,kn,F7 b p];simp[gx];rename_i d;cases c:a[e]? with|none=>rfl|some ag=>simp only[fK];rw[F7 ag (q e ag c λu=>d u.symm)]
 simp only[j8,ap o,aT,i,fK,Em,t];have f:e≠id:=by rintro rfl;exact f v _ rfl
 simp[j8,r,f];simp only[j8];split;rfl;split;rw[g e c];rfl;exact g e c
def Oi(a:List P):∀bn∈a.map D.p,BT id bn:=λbn hd=>by obtain⟨aS,_,rfl⟩:=List.mem_map.1 hd;exact .inl ⟨aS,rfl⟩
def acB{A:Nat->List P}(N:Fr s.O s.nx)(k:Cw s.O bZ idE gE n A R E):
 ∃a:Nat->P,∃s1:St,kh s s1/\(∀e,e<n->Sl 7 (a e) (R e))/\s1.O idE=J (.row 10 gE (aW ((cZ n).map λe=>A e++[a e,nl,nl])))/\(∀e,e<bZ->e≠idE->s1.O e=s.O e)/\(∀e,sD (s.T e)->s1.T e=s.T e)/\s1.nx=s.nx/\Fr s1.O s.nx:=by
 letI:Gh:=jo;have main:∀K,K<=n->∃a:Nat->P,∃s1:St,kh s s1/\(∀e,e<K->Sl 7 (a e) (R e))/\s1.O idE=J (.row 10 gE ((cZ n).map λe=>if e<K then(A e++[a e,nl,nl]).map D.p else nR A E e))/\(∀e,K<=e->e<n->de s1.O bZ 7 (aW (R e)) (E e))/\(∀e,e<bZ->e≠idE->s1.O e=s.O e)/\(∀e,sD (s.T e)->s1.T e=s.T e)/\s1.nx=s.nx/\Fr s1.O s.nx:=by
  intro K;induction K with
  |zero=>exact λ_=>⟨λ_=>nl,s,.refl s,λe d=>y,by simpa using k.oE,λe _ d=>k.L e d,λ_ _ _=>rfl,λ_ _=>rfl,rfl,N⟩
  |succ K ih=>
   intro hj;obtain⟨a,s1,m,o,i,q,d,l,j,r⟩:=ih y;have O:((cZ n).map λe=>if e<K then(A e++[a e,nl,nl]).map D.p else nR A E e)[K]? =J ((A K).map D.p++E K::[.p nl,.p nl]):=by have S:K<n:=y;simp[S,nR]
   have t:=q K (bV _) y;have T:∀id v H,E K=.sl id v 0 H 7 Z->idE≠id:=λid v H u=>by rintro rfl;have:=(t.low u).2;rw[i]at this;cases this
   obtain⟨aS,s2,U,W,V,F,X,Y,ab⟩:=OY (j▸r) i O t T λid v H u=>⟨λcU b=>by
    simp only[bt,iD,iT]at b;rcases b with rfl|rfl
    exact .inl ⟨_,rfl⟩;exact .inl ⟨_,rfl⟩,λe ag w G cU b=>by
    have h:e<n:=by have:=(bq.1 w).1;simpa using this
    simp only[dN,Ge h,fK,du]at w;subst w;split at b;exact Oi _ cU b;rename_i ad;simp only[nR,bg,bt,iD,iT]at b;rcases b with b|rfl|rfl|rfl
    exact Oi _ cU b;rcases(q e y h) with⟨_,g⟩|⟨ac,I,_,g,_⟩
    exact .inl ⟨_,g⟩;refine .inr (.inr ⟨ac,I,_,_,_,_,g,?_⟩);rintro rfl;exact k.dj K e y h (dB G) _ _ _ _ _ u g;exact .inl ⟨_,rfl⟩;exact .inl ⟨_,rfl⟩⟩
   refine⟨mR a K aS,s2,m.trans U,λe G=>?_,V.trans ?_,λe al L=>(q e y L).gM λid v u h1 z=>(F id (λee=>?_) λI l' B=>?_).trans z,λe k1 M=>(F e M λv H u=>?_).trans (d e k1 M),λe C=>(X e λid v H u=>?_).trans (l e C),Y.trans j,by rw[<-j];exact ab⟩;simp only[mR];split;rename_i u;subst u;exact W;exact o e y;congr 2;apply jX;intro e;rw[jG];by_cases h:e<n;by_cases u:K=e;subst u;simp[h,mR];have B:¬e=K:=λx=>u x.symm;have g:(e<K+1)=(e<K):=by apply propext;omega
   simp[u,B,h,mR,g];by_cases u:K=e;omega;simp[u,h];subst ee;rw[i]at z;cases z;exact k.dj K e y L y _ _ _ _ _ B u;have:=(t.low u).1;omega;rw[l e C];rcases C with⟨aS,u⟩|⟨Q,p,c,u,f,g⟩
   exact .inl ⟨aS,u⟩;exact .inr (.inl ⟨_,_,_,_,_,g⟩)
 obtain⟨a,s1,m,o,i,_,d,l,j,r⟩:=main n (bV _);refine⟨a,s1,m,o,i.trans ?_,d,l,j,r⟩;congr 2;simp only[aW,mh];refine iL λe d=>?_;simp[yH.1 d]
def V6(a:List P):Prop:=∃(Q u:ByteArray) (e:Int) (dH:ByteArray) (p:Bool),a=[S Q,S u,I e,S dH,B p]/\Q.size<=300
theorem jq.view{B:ah}(a:jq cJ C n H bn)(b:∀ag∈H,pN ag=aa):C2 bn=bn/\de (bp (qy cJ) B) C n (aW H) bn:=by rcases a with⟨rfl,rfl⟩|⟨id,v,c,rfl,d⟩;exact⟨aj,aj⟩;refine⟨aj,.inr ⟨id,v,c,Y,?_⟩⟩;simp only[bp,qy,d,Pk b,aW]
theorem aiK(z:jp em es)(a:1<=es.length)(L:Fr bO C)(M:qP bO bn (.agg [ep,fk]))(N:Sl 2 ep em)(n:Sl 10 fk es){g:ByteArray}(O:∀k b h cJ (i j:List (List P)),C<=k->de cJ C 5 (aW i) b->de cJ C 5 (aW j) h->(∀id v e o p q,b=.sl id v 0 e 5 Z->h=.sl o p 0 q 5 Z->id≠o)->(∀ag∈i++j,V6 ag)->i.length+j.length<=200->(∀e,e<C->cJ e=bO e)->Fr cJ k->bu (.eQ [b,h]) cJ k):
 X af 53 [bn,.p (S g)] bO C bu:=by
 refine X.view (.cons _ _ _ _ M (.cons _ _ _ _ (.p _) .nil)) ?_;letI:Gh:=KJ em es z;have c:=z.mg a N n;obtain⟨e0,x,r,R,T,V,aO,_,aP,hn,A⟩:=nO y rfl c;cases R;obtain⟨W,Y,p,g3,g4⟩:=TS T;have ab:∀ag∈r,mG W ag<=6:=by intro ag c;obtain⟨Q,aS,cg,cE,bC,be,f,B,D,x2,rfl,E,_,a,d,l,F⟩:=kz aj;obtain⟨bB,f1,_,f3,f4,_⟩:=a;have:=Ff g3 bB;simp only[mG,kL,lI,lz f1];omega
 have ac:∀ag∈r,uT ag<=6:=by intro ag c;obtain⟨Q,aS,cg,cE,bC,be,f,B,D,x2,rfl,E,_,a,d,l,F⟩:=kz aj;obtain⟨ad,s,r2,G,H⟩:=Cd d;simp only[uT,kL,lI,lz s];exact G
 refine PG Y (nW rfl V ar A) (lR ar) y y (λx n=>JR Ja y (g4 x n)) (λag c=>E7 (eb:=.bool) aj) ak
  λk b h cJ i j t al hc an aR a0 a1 ao ax ay=>?_
 obtain⟨O2,I,w,a2⟩:=an;have a3:=hc.le (lR ar) qC;have a4:=pP (pr:=named g) (es:=r);have cg:=Lt ab (by simp[mG,oQ]) t;have cE:=Lt ac (by simp[uT,oQ]) t;have a5:t.length<=5:=y;have s1:∀ag∈i,V6 ag/\pN ag=aa:=by intro ag c;obtain⟨aB,_,Q,e,g,rfl,a,d,l⟩:=ao ag c;exact⟨⟨Q,aB,e,_,g,rfl,a⟩,rfl⟩
 have s2:∀ag∈j,V6 ag/\pN ag=aa:=by intro ag c;obtain⟨r',a6,aE,K,rfl⟩:=ax ag c;obtain⟨Q,aS,cg,cE,bC,be,f,B,D,x,rfl,E,_,_,d,_⟩:=kz aj;obtain⟨ad,s,r2,G,H⟩:=Cd d;simp only[kL,lI,lz s]at K;have:=H aE K;obtain⟨p1,q1,rfl,⟨g,hb,a7⟩,k1⟩:=Row.cons ar;obtain⟨p2,q2,rfl,⟨e,rfl,_⟩,q⟩:=Row.cons k1;obtain⟨p3,q3,rfl,⟨tz,rfl,a8⟩,k3⟩:=Row.cons q;obtain⟨p4,q4,rfl,⟨bk,rfl,_⟩,k4⟩:=Row.cons k3;obtain⟨p5,q5,rfl,⟨aI,rfl⟩,k5⟩:=Row.cons k4;obtain⟨p6,q6,rfl,⟨cT,rfl,_⟩,k6⟩:=Row.cons k5;obtain⟨p7,q7,rfl,⟨ca,rfl⟩,k7⟩:=Row.cons k6;obtain rfl:=Row.nil k7;subst hb;have a9:Dt 5<=100:=eB;have bb:g.size<=100:=y;exact⟨⟨g,_,0,tz,!aI,rfl,y⟩,rfl⟩
 have G1:jq cJ C 5 i b:=by rcases I with⟨a,d,_⟩|⟨id,v,a,d,l⟩;exact aj;refine .inr ⟨id,v,a,d,?_⟩;rcases w with⟨_,_,u⟩|⟨o,p,F,h5,u⟩;exact U;rw[u,ai aj,l,bi]
 have G2:=w.num;obtain⟨v1,w1⟩:=G1.view U;obtain⟨v2,w2⟩:=G2.view U;have u:C2 (.eQ [b,h])=.eQ [b,h]:=by simp only[C2,wD,v1,v2]
 rw[u];refine O k b h _ i j al w1 w2 aj (λag A=>?_) y (λe m=>?_) λe m=>?_;grind;have:cJ e=ae:=by rw[w.low e m,I.low e m]
 simp[bp,qy,this];have a:=ay e m;simp[bp,qy,a,L e y]
end Go.Dl
