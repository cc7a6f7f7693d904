import Derived.Test.YtaggkglfnbcjdaaGreatDoorQ13
set_option linter.all false
set_option maxRecDepth 1000000
set_option maxHeartbeats 40000000
namespace Go.Dl.Ai
end Go.Dl.Ai
namespace Go.Proofs
end Go.Proofs
namespace Ty
end Ty
open Bool renaming false->Z,true->aa
open Go renaming Code->pd
open Go.IntKind renaming i64->cI
open Go.Proofs.Tryz renaming f72->nh,func72->Qq,prog->af
open Go.Region renaming ready->kZ
open Go.Value renaming oneCell'->aJ
open Go.Value.int renaming injEq->xG
open Go.Value.string renaming injEq->Bn
open List renaming any_eq_false->Hu,filter_filter->GC,filter_sublist->qJ,map_append->cG,mem_map->bN,perm_append_singleton->IK,range->cZ
open List.Perm renaming append_left->Bh
open Option renaming none->ae,some->J
open Go Go.Dl Go.Dl.Ai
def pG:=@Bool.eq_iff_iff
def Cx:=@beq_self_eq_true
def oG:=@List.filter_eq_self
def tW:=@List.filter_congr
variable {bT:cR}{a H K:List P}{id g t N aS bn bB bS L bu Q V be cJ cT:Nat}{bA O bC E:ah}{R:D->ah->Nat->Prop}{bZ:Nat->D}{aP bX f:P}{aR bO bH refs tags:List (List P)}{s:St}{aB:Exit->St->Prop}{i:CI}{db:Type}{A:List Nat}{v v':CV}{cU:List D}{ag w:Int}{c0:D}{cg:P->Prop}{cE:KK}
namespace Go.Dl
open Go.Proofs Go.Dl.Ai
theorem aiF(ha:qw a)(hb:qw H){x z:Nat}{h i:Nat}{j:Nat->Nat}{T0:Nat->D}(l:bA id=J (.row 3 g [a.map .p]))(m:bA x=J (.row 3 z [H.map .p]))(p1:T0 6=.ptr id g 3 0 0)(p2:T0 8=.ptr x z 3 0 0){A:St->Prop}(ab:∀c,(∀f,f<22->c f=T0 f)->c 50=.p (B (se a H))->A {T:=c,O:=bA,nx:=h,bs:=i,gm:=j}):eN bT [oF 22 6 0,oL 23 1 22,oF 24 8 0,oL 25 1 24,q 26 (xB .eql 23 25),G 27 26,oT 28 27 (xF 6 1),oT 29 27 (xL 1 28),oT 30 27 (xF 8 1),oT 31 27 (xL 1 30),oT 32 27 (xB .eql 29 31),q 33 (jw 27 32),G 34 33,oT 35 34 (xF 6 2),oT 36 34 (xL 1 35),oT 37 34 (xF 8 2),oT 38 34 (xL 1 37),oT 39 34 (xB .eql 36 38),oT 40 34 (xM 39),dA 41 40 (xF 6 2),dA 42 40 (xL 1 41),dA 43 40 (di .eql 42 0),oT 44 34 (qa 40 43),oT 45 34 (xM 44),dA 46 45 (xF 8 2),dA 47 45 (xL 1 46),dA 48 45 (di .eql 47 0),oT 49 34 (qa 45 48),q 50 (jw 34 49)] {T:=T0,O:=bA,nx:=h,bs:=i,gm:=j} A:=by
 obtain⟨s,K,d,rfl⟩:=ha;obtain⟨t,n,e,rfl⟩:=hb;have l:bA id=J (.row 3 g [[.p (S s),.p (S K),.p (I d)]]):=l;have m:bA x=J (.row 3 z [[.p (S t),.p (S n),.p (I e)]]):=m;show eN bT ([oF 22 6 0,oL 23 1 22,oF 24 8 0,oL 25 1 24,q 26 (xB .eql 23 25),G 27 26]++([oT 28 27 (xF 6 1),oT 29 27 (xL 1 28),oT 30 27 (xF 8 1),oT 31 27 (xL 1 30),oT 32 27 (xB .eql 29 31)]++([q 33 (jw 27 32),G 34 33]++([oT 35 34 (xF 6 2),oT 36 34 (xL 1 35),oT 37 34 (xF 8 2),oT 38 34 (xL 1 37),oT 39 34 (xB .eql 36 38),oT 40 34 (xM 39),dA 41 40 (xF 6 2),dA 42 40 (xL 1 41),dA 43 40 (di .eql 42 0),oT 44 34 (qa 40 43),oT 45 34 (xM 44),dA 46 45 (xF 8 2),dA 47 45 (xL 1 46),dA 48 45 (di .eql 47 0),oT 49 34 (qa 45 48)]++[q 50 (jw 34 49)])))) _ A;simp only[iX];have ad:∀(b:Nat->D) (k:St->Prop),b 6=.ptr id g 3 0 0->b 8=.ptr x z 3 0 0->(∀c,(∀f,f<22->c f=b f)->c 27=.p (B (s.toList==t.toList))->k {T:=c,O:=bA,nx:=h,bs:=i,gm:=j})->eN bT [oF 22 6 0,oL 23 1 22,oF 24 8 0,oL 25 1 24,q 26 (xB .eql 23 25),G 27 26] {T:=b,O:=bA,nx:=h,bs:=i,gm:=j} k:=by intro b k C F L;simp[C,F,l,m];exact L _ cj Y
 have ag:∀(b:Nat->D) (k:St->Prop) (o:Bool),b 6=.ptr id g 3 0 0->b 8=.ptr x z 3 0 0->b 27=.p (B o)->(∀c,(∀f,f<22->c f=b f)->c 34=.p (B (o&&(K.toList==n.toList)))->k {T:=c,O:=bA,nx:=h,bs:=i,gm:=j})->eN bT [oT 28 27 (xF 6 1),oT 29 27 (xL 1 28),oT 30 27 (xF 8 1),oT 31 27 (xL 1 30),oT 32 27 (xB .eql 29 31)] {T:=b,O:=bA,nx:=h,bs:=i,gm:=j} λs'=>eN bT [q 33 (jw 27 32),G 34 33] s' k:=by
  intro b k o C F u L;have P:∀(c:Nat->D),(∀f,f<22->c f=b f)->c 27=.p (B o)->(o=aa->c 32=.p (B (K.toList==n.toList)))->eN bT [q 33 (jw 27 32),G 34 33] {T:=c,O:=bA,nx:=h,bs:=i,gm:=j} k:=by intro c M u al;cases o with|true=>simp[u,al rfl];exact L _ (λf Q=>by simp only[bP];grind) Y|false=>simp[u];exact L _ (λf Q=>by simp only[bP];grind) Y
  cases o with|true=>generalize hL:([q 33 (jw 27 32),G 34 33]:List aA)=L2 at P⊢;simp[C,F,u,l,m,ba,binOp,gD];exact P _ cj (by simp[u]) Y|false=>refine vD _ [] (by rfl) u ak λc M=>?_;have dd:∀E∈J4 [oT 28 27 (xF 6 1),oT 29 27 (xL 1 28),oT 30 27 (xF 8 1),oT 31 27 (xL 1 30),oT 32 27 (xB .eql 29 31)],22<=E/\E≠27:=eB;exact P c ak ak Y
 refine ad _ _ p1 p2 λbZ a1 a9=>ag bZ _ _ U U a9 λT2 b1 v=>?_;have R:∀(b:Nat->D) (p:Bool),(∀f,f<22->b f=T0 f)->b 34=.p (B p)->(p=aa->b 49=.p (B (((d==e)||(d==0))||(e==0))))->se [S s,S K,I d] [S t,S n,I e]=(p&&(((d==e)||(d==0))||(e==0)))->eN bT [q 50 (jw 34 49)] {T:=b,O:=bA,nx:=h,bs:=i,gm:=j} A:=by intro b p M ac an r;cases p with|true=>simp[ac,an rfl];exact ab _ (λf Q=>by simp only[bP];grind) (by simp[r])|false=>simp[ac];exact ab _ (λf Q=>by simp only[bP];grind) (by simp[r])
 have r:se [S s,S K,I d] [S t,S n,I e]=(((s.toList==t.toList)&&(K.toList==n.toList))&&(((d==e)||(d==0))||(e==0))):=by simp only[se,Bool.and_assoc]
 have bb:∀f,f<22->T2 f=T0 f:=U;have V:=(bb 6 y).trans p1;have W:=(bb 8 y).trans p2;revert v r;generalize ((s.toList==t.toList)&&(K.toList==n.toList))=p;intro v r;cases p with
 |false=>refine vD _ [] (by rfl) v ak λc M=>?_;have dd:∀E∈J4 [oT 35 34 (xF 6 2),oT 36 34 (xL 1 35),oT 37 34 (xF 8 2),oT 38 34 (xL 1 37),oT 39 34 (xB .eql 36 38),oT 40 34 (xM 39),dA 41 40 (xF 6 2),dA 42 40 (xL 1 41),dA 43 40 (di .eql 42 0),oT 44 34 (qa 40 43),oT 45 34 (xM 44),dA 46 45 (xF 8 2),dA 47 45 (xL 1 46),dA 48 45 (di .eql 47 0),oT 49 34 (qa 45 48)],22<=E/\E≠34:=eB;exact R c Z ak ak Y r
 |true=>
  generalize hL:([q 50 (jw 34 49)]:List aA)=L3 at R⊢;have X:∀(b:Nat->D),(∀f,f<22->b f=T2 f)->b 34=.p (B aa)->b 49=.p (B (((d==e)||(d==0))||(e==0)))->eN bT L3 {T:=b,O:=bA,nx:=h,bs:=i,gm:=j} A:=λb M C F=>R b aa U C U r;by_cases w:(d==e)=aa;simp[V,W,v,l,m,ba,binOp,aC,w];exact X _ cj ar (by simp[w]);have w:(d==e)=Z:=by simpa using w
  by_cases N:(d==0)=aa;simp[V,W,v,l,m,ba,binOp,aC,w,N];exact X _ cj ar U;have N:(d==0)=Z:=by simpa using N
  simp[V,W,v,l,m,ba,binOp,aC,w,N];exact X _ cj ar U
def XW:av->List aA|.seq _ (.seq _ (.seq (.block _ (.seq _ (.seq (.dg _ _ a) _))) _))=>a|_=>[]
structure Wm(O:ah)(nx:Nat)(T1:Nat->D)(q:P)(n j id g:Nat)(a:List P)(s:St):Prop where
 fT:∀k,k<14->k≠8->s.T k=T1 k
 t16:s.T 16=.p q
 t17:s.T 17=.p (I n)
 t18:s.T 18=.p (I j)
 t6:T1 6=.ptr id g 3 0 0
 oa:s.O id=J (.row 3 g [a.map .p])
 low:∀k,k<nx->s.O k=O k
 hn:nx<=s.nx
 fr:Fr s.O s.nx
theorem agH(m:Wm O t bZ aP aR.length N id g a s)(n:Sl 3 aP aR)(o:qw a)(h:qw K)(p:aR[N]? =J K)(r:se a K=Z->∀b,Wm O t bZ aP aR.length N id g a b->aB .normal b)(u:se a K=aa->∀b,b.T 4=.p (B aa)->(∀f,f<t->b.O f=O f)->t<=b.nx->Fr b.O b.nx->aB .ret b):
 bx (X af) (.seq (rF 4 [q 20 (xI 3 16 18),cA 21 3 20,q 8 (.alloc 2 3 [aF,aF,aH]),oN (xS 3 8 21)]) (.seq (rF 29 (XW AK)) (.cond (.t 50) (.seq (rF 1 [q 4 (gR aa)]) (.ret)) (.skip)))) s aB:=by
 obtain⟨W,v,ab,w,x,z,ac,hn,i⟩:=m;have j:K.length=3:=by obtain⟨ad,ag,al,rfl⟩:=h;rfl
 have A:K.take 3=K:=ak;have E:D.cells (.p (.agg K))=K.map .p:=by simp[D.cells,dw]
 have F:∀d:List D,d.length=3->bI d (K.map .p) 0=K.map .p:=λd G=>by simp[bI,j,G]
 have an:=i.lt z;have ao:id≠s.nx+2:=y;generalize H:(av.seq (rF 29 (XW AK)) (.cond (.t 50) (.seq (rF 1 [q 4 (gR aa)]) (.ret)) (.skip)))=C;rw[bF,dD];intro e;simp[v,w,dm n,p,ft,j,A,E,F];subst H;have L:∀s1:St,(∀f,f<16->f≠8->s1.T f=s.T f)->s1.T 16=.p aP->s1.T 17=.p (I aR.length)->s1.T 18=.p (I N)->s1.T 8=.ptr (s.nx+2) (e (s.nx+2)) 3 0 0->s1.O=am s.O (s.nx+2) (J (.row 3 (e (s.nx+2)) [K.map .p]))->s1.nx=s.nx+4->bx (X af) (.seq (rF 29 (XW AK)) (.cond (.t 50) (.seq (rF 1 [q 4 (gR aa)]) (.ret)) (.skip))) s1 aB:=by
  intro s1 u1 ax ay aE M c P;have Q:s1.T 6=.ptr id g 3 0 0:=U;have k:s1.O id=J (.row 3 g [a.map .p]):=by rw[c];exact U
  have R:s1.O (s.nx+2)=J (.row 3 (e (s.nx+2)) [K.map .p]):=by rw[c,bi]
  have aI:∀f,f<t->s1.O f=O f:=λf hk=>by rw[c];exact(ai y).trans U
  have S:Fr s1.O (s1.nx+29):=by rw[c,P];exact(i.mono y).am y
  rw[bF,dD];intro g1;refine aiF o h k R Q M λT aO V=>?_;show bx _ (.cond _ _ _) _ _;rw[kA,iF];show sC (T 50) _ _;rw[V];cases l:se a K with|false=>rw[iV,mD];exact r l _ ⟨ak,U,U,U,x,k,U,aw,S⟩|true=>rw[jU];simp;intro g2;exact u l _ Y U aw bK
 exact L _ cj ar ar ar Y rfl rfl
theorem aih(c:Wm O t bZ aP aR.length 0 id g a s)(x:Sl 3 aP aR)(z:qw a)(V:∀K∈aR,qw K)(W:aR.length<=100000)(A:aR.any (se a)=Z->∀b,Wm O t bZ aP aR.length aR.length id g a b->aB (.exit 2) b)(p:aR.any (se a)=aa->∀b,b.T 4=.p (B aa)->(∀f,f<t->b.O f=O f)->t<=b.nx->Fr b.O b.nx->aB .ret b):
 bx (X af) (.loop AK) s aB:=by
 refine⟨λf s=>∃N:Nat,f=aR.length-N/\N<=aR.length/\Wm O t bZ aP aR.length N id g a s/\∀(i:Nat) K,i<N->aR[i]? =J K->se a K=Z,ak,?_⟩;clear c;rintro f s ⟨N,rfl,hj,c,C⟩;have E:=lW (i:=N) y;have next:∀(h:Nat) (e:Nat->D) (q:Nat->Nat) (r u:Nat),(∀f,f<18->f≠8->e f=s.T f)->e 18=.p (I h)->Wm O t bZ aP aR.length h id g a {s with T:=e,nx:=s.nx+r,bs:=u,gm:=q}:=by intro h e q r u p F;obtain⟨G,H,L,M,j,k,d,l,m⟩:=c;exact⟨ak,U,U,F,j,k,d,aw,bK⟩
 refine lX c.t18 c.t17 (λab n=>?_) λac n=>?_;have ad:N<aR.length:=y;have P:aR[N]? =J aR[N]:=Y;rw[bF,gQ];refine agH (next N _ n 1 s.nx cj (by simp[c.t18])) x z U P (λQ s2 v=>?_) λQ s2 R d l m=>?_;simp[v.t18,binOp,aC,E];intro g2;obtain⟨G,H,L,M,j,k,d,l,m⟩:=v;refine⟨aR.length-(N+1),y,N+1,rfl,y,⟨λf k1 k2=>?_,ar,ar,Y,j,k,d,aw,bK⟩,λi K o w=>?_⟩;simp only[bP];grind;grind;exact p ak s2 R d l m;have S:N=aR.length:=y;subst S;refine A ?_ _ (next _ _ n 1 s.nx cj (by simp[c.t18]));rw[Hu];intro K w;obtain⟨i,o,rfl⟩:=eD w;simp[C i _ o (bh o)]
structure TfS(O:ah)(nx:Nat)(n j:Nat)(q q0:P)(s:St):Prop where
 t1:s.T 1=.p q
 t10:s.T 10=.p q0
 t11:s.T 11=.p (I n)
 t12:s.T 12=.p (I j)
 low:∀k,k<nx->s.O k=O k
 hn:nx<=s.nx
 fr:Fr s.O s.nx
theorem aiv(n:TfS O t bO.length N aP bX s)(o:Sl 3 bX bO)(h:Sl 3 aP aR)(j:qw K)(p:bO[N]? =J K)(r:∀K∈aR,qw K)(u:aR.length<=100000)(v:aR.any (se K)=Z->∀a,TfS O t bO.length N aP bX a->aB .normal a)(w:aR.any (se K)=aa->∀a,a.T 4=.p (B aa)->(∀f,f<t->a.O f=O f)->t<=a.nx->Fr a.O a.nx->aB .ret a):
 bx (X af) (.block 1 (.seq (rF 4 [q 14 (xI 3 10 12),cA 15 3 14,q 6 (.alloc 2 3 [aF,aF,aH]),oN (xS 3 6 15)]) (.seq (rF 3 [G 16 1,q 17 (fQ 16),fR 18 0]) (.block 2 (.loop AK))))) s aB:=by
 obtain⟨x,z,ac,A,E,ad,F⟩:=n;have k:K.length=3:=by obtain⟨e,ag,al,rfl⟩:=j;rfl
 have H:K.take 3=K:=ak;have L:D.cells (.p (.agg K))=K.map .p:=by simp[D.cells,dw]
 have M:∀b:List D,b.length=3->bI b (K.map .p) 0=K.map .p:=λb P=>by simp[bI,k,rz,P]
 generalize Q:AK=C;rw[gQ,bF,dD];intro l;simp[-gQ,z,A,dm o,p,ft,k,H,L,M,x,dO h];intro g4;subst Q;rw[gQ];have R:∀s1:St,(∀f,f<14->f≠6->s1.T f=s.T f)->s1.T 6=.ptr (s.nx+2) (l (s.nx+2)) 3 0 0->s1.T 16=.p aP->s1.T 17=.p (I aR.length)->s1.T 18=.p (I 0)->s1.O=am s.O (s.nx+2) (J (.row 3 (l (s.nx+2)) [K.map .p]))->s1.nx=s.nx+4+3->bx (X af) (.loop AK) s1 λe a=>match(match e with|.exit i=>if i=2 then(Exit.normal) else .exit i|e=>e) with|.exit i=>if i=1 then aB .normal a else aB (.exit i) a|e=>aB e a:=by intro s1 u1 S T V W m un;refine aih (O:=O) ⟨U,T,V,W,S,U,λf hk=>by rw[m];exact(ai y).trans (E f hk),y,by rw[m,un];exact(F.mono y).am y⟩ h j r u (λc s2 ab=>?_) λc s2 t4 lw d g=>?_;simp;obtain⟨fT,_,_,_,_,_,an,d,g⟩:=ab;exact v c s2 ⟨U,U,U,U,U,d,g⟩;exact w c s2 t4 lw d g
 refine pC br _ (λe a hh=>?_) (R _ cj Y Y Y Y rfl rfl);grind
theorem U6{a:P}{r0:P}(d:Sl 3 bX bO)(C:Sl 3 aP aR)(V:∀K∈bO,qw K)(E:∀K∈aR,qw K)(W:aR.length<=100000/\bO.length<=100000)(F:∀m,t<=m->R (.p (B (pX bO aR))) O m):X af 147 [.p (.agg [a,r0,bX]),.p aP] O t R:=by
 refine X.of Y alt (by simp[acZ]) λn=>?_;have G:D.cells (.p (.agg [a,r0,bX]))=[.p a,.p r0,.p bX]:=rfl;simp[acZ,cN,G,ba,dO d];intro g0 g1;have o:∀(c:St) v,c.T 4=.p (B v)->pX bO aR=v->(∀f,f<t->c.O f=O f)->t<=c.nx->ji t R c.O c.nx (c.T 4):=by intro c v g h b d;rw[g,<-h];exact .low n d b (F _ d)
 refine⟨λf s=>∃N:Nat,f=bO.length-N/\N<=bO.length/\TfS O t bO.length N aP bX s/\∀(a:Nat) K,a<N->bO[a]? =J K->aR.any (se K)=Z,⟨_,0,rfl,y,⟨Y,Y,Y,Y,λf hk=>ai y,aw,(n.mono aw).am aw⟩,ak⟩,?_⟩;rintro f s ⟨N,rfl,hj,e,H⟩;have I:=lW (i:=N) y;have L:∀j p,(∀f,f<13->j f=s.T f)->TfS O t bO.length N aP bX {s with T:=j,nx:=s.nx+1,bs:=s.nx,gm:=p}:=λj p hT=>by obtain⟨k,q,r,l,b,u,w⟩:=e;exact⟨U,U,U,U,b,aw,bK⟩
 refine lX e.t12 e.t11 (λab x=>?_) λac x=>?_;have ad:N<bO.length:=y;have M:bO[N]? =J bO[N]:=Y;rw[bF];refine aiv (L _ x cj) d C U M E y (λh s2 Q=>?_) λh s2 g b S ag=>?_;obtain⟨k,q,r,l,b,u,w⟩:=Q;simp only[dD,eM,sI,mZ,iF,zA,l,binOp,aC,dR,I];intro g3;refine⟨Y,bO.length-(N+1),y,N+1,rfl,y,⟨by simp[k],ar,ar,Y,b,aw,bK⟩,λa K z A=>?_⟩;grind;exact⟨Y,o s2 aa g (pq.2 ak) b S⟩;refine⟨rfl,?_⟩;obtain⟨k,q,r,l,b,u,w⟩:=e;simp;have:=o {s with T:=eF (eF s.T 13 (.p (B Z))) 4 (.p (B Z)),nx:=s.nx+1+1} Z Y (by unfold pX;rw[Hu];intro K A;obtain⟨a,z,rfl⟩:=eD A;simp[H a _ y (bh z)]) b aw
 exact ar
def JC:av:=.cond (.t 23) (rF 6 [G 24 0,d5 25 24,oF 26 25 4,oL 27 1 26,cA 28 3 6,oN (.m (.Ug (.st [.s,.i,.i])) 5 [.t 27,.t 28])]) (.skip)
def abB:av:=
 z 2 [q 15 (.m .next 0 [.t 14]),q 16 (xE 15 0)] (.seq (cX 16 0) (.block 1 (z 6 [q 17 (.m .Ew 0 [.t 14]),q 18 (xE 17 0),q 19 (xE 17 1),q 6 (.alloc 3 3 [aF,aH,aH]),oN (xS 3 6 18),G 7 19] (z 4 [G 20 1,cA 21 3 6,G 22 7,q 23 (.iI (.t 20) [.t 21,.t 22])]
  JC))))
def Ip:av:=.cond (.t 41) (rF 6 [G 42 0,d5 43 42,oF 44 43 5,oL 45 1 44,G 46 8,oN (.m (.Ug (.aM .s)) 5 [.t 45,.t 46])]) (.skip)
def aaa:av:=
 z 2 [q 34 (.m .next 0 [.t 33]),q 35 (xE 34 0)] (.seq (cX 35 2) (.block 3 (z 5 [q 36 (.m .Ew 0 [.t 33]),q 37 (xE 36 0),q 38 (xE 36 1),G 8 37,G 9 38] (z 3 [G 39 2,G 40 9,q 41 (.iI (.t 39) [.t 40])]
  Ip))))
def MS:av:=z 5 [G 29 0,d5 30 29,oF 31 30 5,oL 32 1 31,q 33 (.m .range 4 [.t 32])] (.block 2 (.loop aaa))
def Yd:d6:=⟨47,[],.seq (z 5 [G 10 0,d5 11 10,oF 12 11 4,oL 13 1 12,q 14 (.m .range 4 [.t 13])] (.block 0 (.loop abB)))
 MS⟩
def akT:cW af Tryz.f137=J Yd:=h
structure CE where
 key:P
 id:Nat
 g:Nat
 born:Nat
 mi:P
 tags:P
 ob:List AO
 np:List (List P)
 at_:Int
 used:Int
def CE.row(a:CE):List D:=[.p a.mi,.p a.tags,.p (I a.at_),.p (I a.used)]
def CE.kv(a:CE):P×D×Nat:=(a.key,.ptr a.id a.g 4 0 0,a.born)
def CF(a:P):Prop:=∃(b:ByteArray) (c w:Int),a=.agg [S b,I c,I w]
def Fw(b:P):Prop:=∃a:ByteArray,b=S a
open Classical in
noncomputable def yq(a:P)(b:CE):Bool:=decide (a=b.key)
def vK{a:CE}:yq f a=aa↔f=a.key:=by simp[yq]
def P7{a:CE}:yq f a=Z↔f≠a.key:=by simp[yq]
def IZ{a b:ByteArray}:(a.toList==b.toList)=aa↔a=b:=⟨toList_inj,U⟩
theorem J0{a:CE}(g:CF f)(b:CF a.key):jN (.st [.s,.i,.i]) f a.key=J (yq f a):=by
 obtain⟨d,e,w,rfl⟩:=g;obtain⟨h,i,j,b⟩:=b;have c:yq (.agg [S d,I e,I w]) a=((d.toList==h.toList)&&((e==i)&&((w==j)&&aa))):=by rw[pG,vK,b];simp only[aq,qY];simp only[P.agg.injEq,kJ,P.v.injEq,Bn,xG,pL,pu];exact⟨U,λ⟨c,k⟩=>⟨toList_inj (by simp[c]),k⟩⟩
 rw[c,b];exact aj
theorem Ky{a:CE}(d:Fw f)(b:Fw a.key):jN (.aM .s) f a.key=J (yq f a):=by
 obtain⟨c,rfl⟩:=d;obtain⟨e,b⟩:=b;have g:yq (S c) a=(c.toList==e.toList):=by rw[pG,vK,b,IZ];simp
 rw[g,b];exact aj
theorem yQ{c:KK}{a:P}(d:jN c a a=J aa):∀{b:List CE},(∀x∈b,jN c a x.key=J (yq a x))->jF c a (b.map CE.kv)=J (b.findIdx? (yq a))|[],_=>by simp[jF,d]|x::b,e=>by have i:=e x ja;have f:=yQ d λg h=>e g (jz _ h);simp[bG,jF,CE.kv]at f⊢;grind
structure sb(RK:P->Prop)(clock:Nat)(l:List CE):Prop where
 k:∀x∈l,RK x.key
 nk:(l.map (·.key)).Nodup
 lt:∀x∈l,x.born<clock
 nb:(l.map (·.born)).Nodup
theorem mA{d:Type}{c:d->db}{b:List d}(g:(b.map c).Nodup):∀e∈b,∀f∈b,c e=c f->e=f:=by induction b with|nil=>grind|cons a b ih=>grind
theorem sb.filter{c:P->Prop}{d:Nat}{e:List CE}(a:sb c d e)(f:CE->Bool):sb c d (e.filter f):=⟨λb g=>a.k b ak,a.nk.sublist ((qJ).map _),λb g=>a.lt b ak,a.nb.sublist ((qJ).map _)⟩
theorem KY{a:List CE}(e:(a.map (·.key)).Nodup){b:CE}(d:b∈a)(g:f=b.key):∃i,a.findIdx? (yq f)=J i/\a[i]? =J b:=by cases c:a.findIdx? (yq f) with|none=>rw[ui]at c;have:=c b d;rw[P7]at this;exact aj|some i=>rw[ms]at c;obtain⟨h,W,_⟩:=c;refine⟨i,rfl,?_⟩;rw[vK]at W;have:=mA e a[i] Y b d ak;exact U
theorem HV{b:List CE}(f:(b.map (·.born)).Nodup){d:CE}{c:Nat}(e:b[c]? =J d):b.eraseIdx c=b.filter λg=> !(g.born==d.born):=by
 induction b generalizing c with
 |nil=>simp
 |cons a b ih=>
  simp only[bG,kQ,bN,not_exists,not_and]at f;cases c with
  |zero=>
   simp at e;subst e;simp only[List.eraseIdx_cons_zero,mc,Cx,BE,fN,dC]
   symm
   rw[oG];exact U
  |succ c=>grind
def Jh{c e:Type}{d:c->e}:∀{b:List c} {i:Nat},(b.map d).eraseIdx i=(b.eraseIdx i).map d|[],i=>Y|a::b,0=>Y|a::b,i+1=>by simp[Jh]
def left(b:CE->Bool)(c:List Nat)(d:List CE):List CE:=d.filter λa=> !(c.contains a.born&&b a)
def RX{b:CE->Bool}{a:List CE}:left b [] a=a:=by simp[left]
def Pf{c:CE->Bool}{b:List CE}(e:(b.map (·.born)).Nodup){a:CE}(f:a∈b)(W:c a=Z):left c (A++[a.born]) b=left c A b:=by refine tW λd g=>?_;by_cases h:d.born=a.born;have:=mA e d g a f h;exact U;exact U
def Ph{d:CE->Bool}{b:List CE}(e:(b.map (·.born)).Nodup){a:CE}(f:a∈b)(W:d a=aa):left d (A++[a.born]) b=(left d A b).filter λc=> !(c.born==a.born):=by unfold left;rw[GC];refine tW λc g=>?_;by_cases h:c.born=a.born;have:=mA e c g a f h;exact U;exact U
def Sd{a:CE->Bool}{b:List CE}(f:∀c∈left a A b,c.born∈A):left a A b=b.filter λc=> !a c:=by refine tW λd g=>?_;by_cases e:d.born∈A;simp[e];have:d∈left a A b:=jB.2 U;exact U
theorem PY{c:List CE}{b:CE}(g:b∈c)(h:b.born∉A):(c.filter λa=> !((A++[b.born]).contains a.born)).length<(c.filter λa=> !(A.contains a.born)).length:=by
 have e:(c.filter λa=> !((A++[b.born]).contains a.born))=(c.filter λa=> !(A.contains a.born)).filter λa=> !(a.born==b.born):=by rw[GC];refine tW λa _=>?_;by_cases d:a.born=b.born<;>simp[d]
 rw[e];have f:b∈c.filter λa=> !(A.contains a.born):=U;refine Nat.lt_of_le_of_ne ak λd=>?_;have:=(List.length_filter_eq_length_iff.1 d) b f;grind
theorem ag6{nm c b d:Nat}{a:List (P×D×Nat)}(e:s.T c=.ptr aS bn 0 0 0)(f:s.O aS=J (.oe bn bB bS b A d))(g:s.O bB=J (.map bS L a))(h:A=[]\/a=[]\/∃aP∈a,aP.2.2<d)(i:∀aP∈a,aP.2.2∉A->R (.eQ [.p (B aa),.p aP.1,aP.2.1]) (am s.O aS (J (.oe bn bB bS b (A++[aP.2.2]) L))) s.nx)(j:(∀aP∈a,aP.2.2<b->aP.2.2∈A)->R (.eQ [.p (B Z)]) s.O s.nx):aN bT (.m .next nm [.t c]) s R:=by rw[aof];simp only[bG,eC,iF,e,th,f,g];grind
def Zg{a:dh}{d:D}{ds:List D}(b:s.ev a=.eQ (d::ds))(c:R d s.O s.nx):aN bT (.ext a 0) s R:=by rw[agF];exact U
theorem Dz(C:mu bT){c g t m:Nat}{u:av}{n:List CE}(h:List Nat->List CE)(I:List Nat->St->Prop){v:List Nat}(R:c≠g)(S:∀A a,a∈h A->a∈n)(V:∀a∈n,a.born<L)(D:∀A s,I A s->s.T t=.ptr aS bn 0 0 0/\s.O aS=J (.oe bn bB bS L A L)/\s.O bB=J (.map bS L ((h A).map CE.kv)))(w:I v s)(E:∀A s a o p,I A s->a∈h A->a.born∉A->bx bT u {s with T:=eF (eF s.T c p) g (.p (B aa)),O:=am s.O aS (J (.oe bn bB bS L (A++[a.born]) L)),nx:=s.nx+2,bs:=s.nx,gm:=o} λe j=>match e with|.normal=>I (A++[a.born]) j|.exit i=>if i=m then I (A++[a.born]) j else aB (.exit i) j|e=>aB e j)(F:∀A s o p,I A s->(∀a∈h A,a.born∈A)->aB (.exit id) {s with T:=eF (eF s.T c p) g (.p (B Z)),nx:=s.nx+2,bs:=s.nx,gm:=o}):
 bx bT (.loop (z 2 [⟨(J c),.m .next 0 [(.t t)],ae,Z⟩,⟨(J g),.ext (.t c) 0,ae,Z⟩] (.seq (.cond (.t g) (.skip) (.exit id)) (.block m u)))) s aB:=by
 refine⟨λf s=>∃A,f=(n.filter λG=> !(A.contains G.born)).length/\I A s,⟨_,v,rfl,w⟩,?_⟩;clear w;rintro f s ⟨A,rfl,q⟩;obtain⟨H,K,M⟩:=D A s q;rw[bF,dD];intro x;rw[eM];refine ag6 H K M ?_ (λaP k r=>?_) λN=>?_;by_cases P:(h A).map CE.kv=[];exact U;obtain⟨aP,k⟩:=List.exists_mem_of_ne_nil _ P;obtain⟨a,l,rfl⟩:=bN.1 k;exact .inr (.inr ⟨_,k,i0⟩);obtain⟨a,l,rfl⟩:=bN.1 k;have Q:=E A s a x (.eQ [.p (B aa),.p a.key,.ptr a.id a.g 4 0 0]) q l r;rw[eM];refine Zg (d:=.p (B aa)) (ds:=[.p a.key,.ptr a.id a.g 4 0 0]) (by simp[CE.kv]) ?_;simp only[j6,dR,CE.kv];rw[bF,kA,iF];simp only[bP,aT,jU,mD,gQ];refine pC C _ (λe j b=>?_) Q;revert b;cases e with|normal=>exact λb=>⟨_,PY aj r,_,rfl,b⟩|exit i=>dsimp only;by_cases y:i=m;rw[aU y,aU y];exact λb=>⟨_,PY aj r,_,rfl,b⟩;grind|_=>exact λb=>b
 rw[eM];refine Zg (d:=.p (B Z)) (ds:=[]) Y ?_;simp only[j6,dR];rw[bF,kA,iF];simp only[bP,aT,iV,Lo];exact F A s x _ q λa l=>N _ (xU l) i0
structure Na(p:CE->Bool)(co:Nat)(eo:List CE)(O0:ah)(nx0 m mg iid gi:Nat)(s1 s2:List Nat)(s:St):Prop where
 it:s.O iid=J (.oe gi m mg co s1 co)
 mp:s.O m=J (.map mg co ((left p s2 eo).map CE.kv))
 low:∀k,k<nx0->k≠m->s.O k=O0 k
 hi:nx0<=iid
 hm:m<nx0
 hn:nx0<=s.nx
 fr:Fr s.O s.nx
def Na.next{d:CE->Bool}{e:List CE}{s1 s2:List Nat}{c:St}(a:Na d L e bC bu bB bS aS bn s1 s2 s)(b:c.O=s.O)(hn:s.nx<=c.nx):Na d L e bC bu bB bS aS bn s1 s2 c:=⟨by rw[b];exact a.it,by rw[b];exact a.mp,λf g h=>by rw[b];exact a.low f g h,a.hi,a.hm,by have:=a.hn;omega,by rw[b];exact a.fr.mono hn⟩
def vZ{c:CE->Bool}{a:List CE}{b:CE}(d:b∈left c A a):b∈a:=(jB.1 d).1
theorem acx{b:CE->Bool}{c:List CE}{a:CE}{F:FuncId}(g:sb CF L c)(O:Na b L c bC bu i.o i.go aS bn (A++[a.born]) A s)(m:a∈left b A c)(hc:bC i.c=J (.row 6 i.gc [i.row v]))(aE:i.c<bu)(aI:i.c≠i.o)(P:s.T 0=.ptr i.c i.gc 6 0 0)(Q:s.T 1=.fn (.func F) [] cU)(R:s.T 14=.ptr aS bn 0 0 0)(n:∀(E:ah) nx' (o:D->ah->Nat->Prop),(∀f,f<bu->f≠i.o->E f=bC f)->bu<=nx'->(∀p,nx'<=p->o (.p (B (b a))) E p)->X af F (.p a.key::.ptr a.id a.g 4 0 0::cU) E nx' o)(r:∀j,Na b L c bC bu i.o i.go aS bn (A++[a.born]) (A++[a.born]) j->(∀f,f=0\/f=1\/f=2\/f=14->j.T f=s.T f)->aB .normal j):
 bx (X af) (z 6 [q 17 (.m .Ew 0 [.t 14]),q 18 (xE 17 0),q 19 (xE 17 1),q 6 (.alloc 3 3 [aF,aH,aH]),oN (xS 3 6 18),G 7 19] (z 4 [G 20 1,cA 21 3 6,G 22 7,q 23 (.iI (.t 20) [.t 21,.t 22])]
 JC)) s aB:=by
 have k:=vZ m;obtain⟨d,e,w,h⟩:=g.k a k;obtain⟨t,T,aO,u,x,hn,V⟩:=O;have aP:=V.lt t;have ab:D.cells (.p (.agg [S d,I e,I w]))=[.p (S d),.p (I e),.p (I w)]:=rfl;have aR:CE.kv a∈(left b A c).map CE.kv:=ak;have ac:CE.kv a=(.agg [S d,I e,I w],.ptr a.id a.g 4 0 0,a.born):=by rw[CE.kv,h]
 rw[h]at n;generalize hC:JC=C;rw[bF,dD];intro l;simp[-bN,R,th,t,T];intro _;refine⟨_,_,_,by rw[<-ac];exact ar,rfl,?_⟩;simp[ab,Q];intro g1;refine n _ _ _ aj y λad a0=>?_;subst hC;have al:∀s2:St,(∀f,f=0\/f=1\/f=2\/f=14->s2.T f=s.T f)->s2.T 23=.p (B (b a))->s2.T 6=.ptr (s.nx+3) (l (s.nx+3)) 3 0 0->s2.O=am s.O (s.nx+3) (J (.row 3 (l (s.nx+3)) [[.p (S d),.p (I e),.p (I w)]]))->s2.nx=ad->bx (X af) JC s2 aB:=by
  intro s2 ag uv u6 H un;have a1:∀f,f≠s.nx+3->s2.O f=s.O f:=U;have o6:s2.O (s.nx+3)=J (.row 3 (l (s.nx+3)) [[.p (S d),.p (I e),.p (I w)]]):=by rw[H,bi]
  have an:Fr s2.O s2.nx:=by rw[H,un];exact bK
  have oc:s2.O i.c=J (.row 6 i.gc [i.row v]):=ak;have K:s2.O i.o=J (.map i.go L ((left b A c).map CE.kv)):=ak;rw[show JC=.cond (.t 23) _ .skip from rfl,kA,iF,uv];cases W:b a with
  |false=>rw[iV,mD];exact r s2 ⟨ak,by rw[Pf g.nb k W];exact K,ak,u,x,y,an⟩ ag
  |true=>
   rw[jU];have M:sb CF L (left b A c):=g.filter _;have u0:=(ag 0 y).trans P;obtain⟨N,a2,a3⟩:=KY M.nk m h.symm;have ao:jF (.st [.s,.i,.i]) (.agg [S d,I e,I w]) ((left b A c).map CE.kv)=J (J N):=by rw[yQ (by simp[jN,mX,tj]) λax hy=>J0 ⟨d,e,w,rfl⟩ (g.k ax (vZ hy))];exact U
   have ay:((left b A c).map CE.kv).eraseIdx N=(left b (A++[a.born]) c).map CE.kv:=by rw[Ph g.nb k W,<-HV M.nb ar,Jh]
   simp[u0,oc,CI.row,ba,u6,o6,cF,dv,th,K,ao,ay];intro g2;refine r _ ⟨(ai y).trans ak,Y,λf k1 k2=>(ai k2).trans ak,u,x,aw,bK⟩ λf h=>?_;simp only[bP];grind
 refine al _ (λf h=>?_) Y Y rfl rfl;exact cj
end Go.Dl
variable {d x0:CE}{p:CE->Bool}{e j all M bM:List CE}
namespace Go.Dl
open Go.Proofs Go.Dl.Ai
theorem aci{F:FuncId}(a:sb Fw L e)(I:Na p L e bC bu i.l i.gl aS bn (A++[d.born]) A s)(k:d∈left p A e)(hc:bC i.c=J (.row 6 i.gc [i.row v]))(ao:i.c<bu)(ax:i.c≠i.l)(K:s.T 0=.ptr i.c i.gc 6 0 0)(M:s.T 2=.fn (.func F) [] cU)(N:s.T 33=.ptr aS bn 0 0 0)(O:∀(E:ah) nx' (l:D->ah->Nat->Prop),(∀f,f<bu->f≠i.l->E f=bC f)->bu<=nx'->(∀m,nx'<=m->l (.p (B (p d))) E m)->X af F (.ptr d.id d.g 4 0 0::cU) E nx' l)(n:∀c,Na p L e bC bu i.l i.gl aS bn (A++[d.born]) (A++[d.born]) c->(∀f,f=0\/f=2\/f=33->c.T f=s.T f)->aB .normal c):
 bx (X af) (z 5 [q 36 (.m .Ew 0 [.t 33]),q 37 (xE 36 0),q 38 (xE 36 1),G 8 37,G 9 38] (z 3 [G 39 2,G 40 9,q 41 (.iI (.t 39) [.t 40])]
 Ip)) s aB:=by
 have g:=vZ k;obtain⟨h,b⟩:=a.k d g;obtain⟨o,r,P,t,u,hn,Q⟩:=I;have ay:=Q.lt o;have aE:CE.kv d∈(left p A e).map CE.kv:=ak;have R:CE.kv d=(S h,.ptr d.id d.g 4 0 0,d.born):=by rw[CE.kv,b]
 generalize T:Ip=C;rw[bF,dD];intro g0;simp[-bN,N,th,o,r];intro _;refine⟨_,_,_,by rw[<-R];exact ar,rfl,?_⟩;simp[M];intro g1;refine O _ _ _ P y λV aI=>?_;subst T;have ab:∀s2:St,(∀f,f=0\/f=2\/f=33->s2.T f=s.T f)->s2.T 41=.p (B (p d))->s2.T 8=.p (S h)->s2.O=s.O->s2.nx=V->bx (X af) Ip s2 aB:=by
  intro s2 ag uv u8 j un;have ac:Fr s2.O s2.nx:=by rw[j,un];exact bK
  have oc:s2.O i.c=J (.row 6 i.gc [i.row v]):=by rw[j];exact U
  have w:s2.O i.l=J (.map i.gl L ((left p A e).map CE.kv)):=by rw[j];exact r
  rw[show Ip=.cond (.t 41) _ .skip from rfl,kA,iF,uv];cases W:p d with
  |false=>rw[iV,mD];exact n s2 ⟨U,by rw[Pf a.nb g W];exact w,U,t,u,y,ac⟩ ag
  |true=>
   rw[jU];have x:sb Fw L (left p A e):=a.filter _;have u0:=(ag 0 y).trans K;obtain⟨H,aO,aP⟩:=KY x.nk k b.symm;have ad:jF (.aM .s) (S h) ((left p A e).map CE.kv)=J (J H):=by rw[yQ (by simp[jN,tj]) λal hy=>Ky aj (a.k al (vZ hy))];exact U
   have an:((left p A e).map CE.kv).eraseIdx H=(left p (A++[d.born]) e).map CE.kv:=by rw[Ph a.nb g W,<-HV x.nb ar,Jh]
   simp[u0,oc,CI.row,ba,u8,th,w,ad,an];intro g2;refine n _ ⟨(ai y).trans U,Y,U,t,u,aw,bK⟩ λf b=>?_;simp only[bP];grind
 refine ab _ (λf b=>?_) Y Y rfl rfl;exact cj
theorem UH{z q:FuncId}{C r:List D}(P:sb CF L e)(S:sb Fw Q j)(l:O i.c=J (.row 6 i.gc [i.row v]))(F:O i.o=J (.map i.go L (e.map CE.kv)))(T:O i.l=J (.map i.gl Q (j.map CE.kv)))(ad:i.o≠i.l)(al:∀d∈e,∀(E:ah) a (h:D->ah->Nat->Prop),(∀f,f<t->f≠i.o->f≠i.l->E f=O f)->t<=a->(∀u,a<=u->h (.p (B (p d))) E u)->X af z (.p d.key::.ptr d.id d.g 4 0 0::C) E a h)(an:∀d∈j,∀(E:ah) a (h:D->ah->Nat->Prop),(∀f,f<t->f≠i.o->f≠i.l->E f=O f)->t<=a->(∀u,a<=u->h (.p (B (p d))) E u)->X af q (.ptr d.id d.g 4 0 0::r) E a h)(ao:∀a E,t<=a->E i.o=J (.map i.go L ((e.filter λd=> !p d).map CE.kv))->E i.l=J (.map i.gl Q ((j.filter λd=> !p d).map CE.kv))->(∀f,f<t->f≠i.o->f≠i.l->E f=O f)->Fr E a->R (.eQ []) E a):
 X af 137 [.ptr i.c i.gc 6 0 0,.fn (.func z) [] C,.fn (.func q) [] r] O t R:=by
 refine X.of Y akT (by simp[Yd]) λG=>?_;have nc:=G.lt l;have no:=G.lt F;have nl:=G.lt T;have ax:i.c≠i.o:=by intro m;rw[m,F]at l;cases l
 have ay:i.c≠i.l:=by intro m;rw[m,T]at l;cases l
 rw[show Yd.body=.seq (.seq _ (.block 0 (.loop abB))) MS from rfl,bF,bF,dD];intro V;simp[-gQ,cN,l,CI.row,ba,th,F];rw[gQ];refine Dz br (λA=>left p A e) (λA s=>Na p L e O t i.o i.go (t+4) (V (t+4)) A A s/\s.T 0=.ptr i.c i.gc 6 0 0/\s.T 1=.fn (.func z) [] C/\s.T 2=.fn (.func q) [] r/\s.T 14=.ptr (t+4) (V (t+4)) 0 0 0) y (λA d k=>vZ k) P.lt (λA s b=>⟨U,b.1.it,b.1.mp⟩) ⟨⟨bi,by rw[RX];exact aj,aj,y,no,aw,bK⟩,Y,Y,Y,Y⟩ (λA s d H I b k hn=>?_) λA s H I b aB=>?_;obtain⟨g,w,W,x,aE⟩:=b;refine acx P ⟨bi,(ai y).trans g.mp,λf n o=>(ai y).trans (g.low f n o),y,y,by have:=g.hn;exact aw,(g.fr.mono aw).am (by have:=g.fr.lt g.it;exact aw)⟩ k l nc ax (by simp[w]) (by simp[W]) ar (λE a h h1 h2 K=>al d (vZ k) E a h U h2 K) λs2 ab ag=>?_;exact U;obtain⟨g,w,W,x,aE⟩:=b;have aI:=g.mp.trans (by rw[Sd U]);have aP:=g.fr;have aR:=g.hn;have aS:∀s1:St,s1.T 0=.ptr i.c i.gc 6 0 0->s1.T 2=.fn (.func q) [] r->s1.O=s.O->s1.nx=s.nx+2->bx (X af) MS s1 λm M=>(m=.normal\/m=.ret)/\jt M Yd.rs λds=>ji t R M.O M.nx (aM ds):=by
  intro s1 u0 u2 N un;have a0:∀f,f<t->f≠i.o->s1.O f=O f:=λf n o=>by rw[N];exact g.low f n o
  have oc:s1.O i.c=J (.row 6 i.gc [i.row v]):=U;have ol:s1.O i.l=J (.map i.gl Q (j.map CE.kv)):=ak;have oo:s1.O i.o=J (.map i.go L ((e.filter λd=> !p d).map CE.kv)):=by rw[N];exact aI
  have a1:Fr s1.O s1.nx:=by rw[N,un];exact bK
  rw[show MS=.seq _ (.block 2 (.loop aaa)) from rfl,bF,dD];intro g1;simp[-gQ,u0,oc,CI.row,ba,th,ol];rw[gQ];refine Dz br (λA=>left p A j) (λA s=>Na p Q j s1.O s1.nx i.l i.gl (s1.nx+4) (g1 (s1.nx+4)) A A s/\s.T 0=.ptr i.c i.gc 6 0 0/\s.T 2=.fn (.func q) [] r/\s.T 33=.ptr (s1.nx+4) (g1 (s1.nx+4)) 0 0 0) y (λA d k=>vZ k) S.lt (λA s b=>⟨U,b.1.it,b.1.mp⟩) ⟨⟨bi,by rw[RX];exact aj,aj,y,y,aw,bK⟩,by simp[u0],by simp[u2],Y⟩ (λA s d H I b k hn=>?_) λA s H I b aB=>?_;obtain⟨c,w,x,aO⟩:=b;refine aci S ⟨bi,(ai y).trans c.mp,λf n o=>(ai y).trans (c.low f n o),y,y,by have:=c.hn;exact aw,(c.fr.mono aw).am (by have:=c.fr.lt c.it;exact aw)⟩ k oc y ay (by simp[w]) (by simp[x]) ar (λE a h h1 h2 K=>an d (vZ k) E a h ak y K) λs2 ab ag=>?_;exact⟨ab,U,U,U⟩;obtain⟨c,w,x,aO⟩:=b;have a2:=c.mp.trans (by rw[Sd U]);have a3:=c.hn;refine⟨Y,?_⟩;have ac:Fr s.O (s.nx+2):=c.fr.mono y;exact .d8 ac aw (ao _ _ aw ((c.low _ y ad).trans oo) ar (λf n o k3=>(c.low f y k3).trans U) ac)
 exact U
def apV:List aA:=[q 13 (xB .leq 8 12)]
def X3:av:=.cond (.t 13) (.ret) (.skip)
def Ft:av:=z 2 [q 24 (.m .next 0 [.t 23]),q 25 (xE 24 0)] (.seq (cX 25 0) (.block 1 (z 3 [q 26 (.m .Ew 0 [.t 23]),q 27 (xE 26 1),G 4 27] (rF 7 [oL 28 1 2,G 29 4,d5 30 29,oF 31 30 3,oL 32 1 31,q 33 (.pf .mn [.t 28,.t 32]),oN (xS 1 2 33)]))))
def Fq:av:=z 2 [q 39 (.m .next 0 [.t 38]),q 40 (xE 39 0)] (.seq (cX 40 2) (.block 3 (z 3 [q 41 (.m .Ew 0 [.t 38]),q 42 (xE 41 1),G 6 42] (rF 7 [oL 43 1 2,G 44 6,d5 45 44,oF 46 45 3,oL 47 1 46,q 48 (.pf .mn [.t 43,.t 47]),oN (xS 1 2 48)]))))
def QH:av:=z 7 [G 14 0,d5 15 14,oF 16 15 3,oL 17 1 16,q 18 (di .add 17 1),q 2 (.alloc 5 1 [aH]),oN (xS 1 2 18)] (.seq (z 5 [G 19 0,d5 20 19,oF 21 20 4,oL 22 1 21,q 23 (.m .range 4 [.t 22])] (.block 0 (.loop Ft))) (.seq (z 5 [G 34 0,d5 35 34,oF 36 35 5,oL 37 1 36,q 38 (.m .range 4 [.t 37])] (.block 2 (.loop Fq))) (rF 4 [G 49 0,q 50 (wW 138 [.t 2]),q 51 (wW 139 [.t 2]),q 52 (sV 137 49 50 51)])))
def D72:d6:=⟨53,[],.seq (.seq (.dg 7 aa (aZ 9 (xM 0)::aZ 10 (xN 9)::aZ 11 (xF 10 0)::aZ 12 (xL 1 11)::G 7 0::q 8 (oW 14 7)::apV))
 X3)
 QH⟩
def apA:cW af nh=J D72:=h
def adH:d6:=⟨12,[.t 5],z 2 [q 3 (iU 0 3 0),q 5 (gR Z)] (z 7 [G 6 1,d5 7 6,oF 8 7 3,oL 9 1 8,oL 10 1 2,q 11 (xB .eql 9 10),G 5 11] (.ret))⟩
def anC:cW af Tryz.f138=J adH:=h
def adg:d6:=⟨10,[.t 3],z 1 [q 3 (gR Z)] (z 7 [G 4 0,d5 5 4,oF 6 5 3,oL 7 1 6,oL 8 1 1,q 9 (xB .eql 7 8),G 3 9] (.ret))⟩
def am7:cW af Tryz.f139=J adg:=h
structure PE(co:Nat)(eo:List CE)(O0:ah)(nx0 m mg iid gi tid tg:Nat)(u:Int)(seen s2:List Nat)(s:St):Prop where
 it:s.O iid=J (.oe gi m mg co seen co)
 mp:s.O m=J (.map mg co (eo.map CE.kv))
 mn:∃n,s.O tid=J (.row 1 tg [[.p (I n)]])/\n<=u/\(∀x∈eo,x.born∈s2->n<=x.used)/\(n=u\/∃x∈eo,x.used=n)
 low:∀k,k<nx0->k≠tid->s.O k=O0 k
 hi:nx0<=iid
 ht:tid<nx0
 hm:m<nx0
 hmt:m≠tid
 hn:nx0<=s.nx
 fr:Fr s.O s.nx
theorem abV(c:PE L e bC bu bB bS aS bn V be ag (A++[d.born]) A s)(g:d∈e)(i:(e.map (·.born)).Nodup)(j:bC d.id=J (.row 4 d.g [d.row]))(k:d.id<bu)(l:d.id≠V)(m:s.T 2=.ptr V be 1 0 0)(n:s.T 23=.ptr aS bn 0 0 0)(o:∀a,PE L e bC bu bB bS aS bn V be ag (A++[d.born]) (A++[d.born]) a->(∀f,f=0\/f=2\/f=23->a.T f=s.T f)->aB .normal a):
 bx (X af) (z 3 [q 26 (.m .Ew 0 [.t 23]),q 27 (xE 26 1),G 4 27] (rF 7 [oL 28 1 2,G 29 4,d5 30 29,oF 31 30 3,oL 32 1 31,q 33 (.pf .mn [.t 28,.t 32]),oN (xS 1 2 33)])) s aB:=by
 obtain⟨b,p,⟨w,r,M,N,O⟩,t,u,v,x,B,Q,C⟩:=c;have R:=C.lt b;have S:CE.kv d∈e.map CE.kv:=ak;have T:V≠aS:=y;have E:s.O d.id=J (.row 4 d.g [[.p d.mi,.p d.tags,.p (I d.at_),.p (I d.used)]]):=(t _ k l).trans j;rw[bF,dD];intro W;simp[-bN,n,th,b,p];intro _;refine⟨_,_,_,ar,rfl,?_⟩;simp[m,r,ba,E,bI,D.cells,P.cells,aJ];intro Y;have ab:(if d.used<w then d.used else w)<=d.used/\(if d.used<w then d.used else w)<=w:=by split<;>omega
 refine o _ ⟨aj,U,⟨_,bi,y,λF H K=>?_,?_⟩,U,u,v,x,B,aw,bK⟩ λf hk=>?_;rcases bg.1 K with h|h
 grind;have:=mA i F H d g ak;exact U;grind;exact cj
theorem aer(k:sb cg L e)(a:PE L e bC bu bB bS aS bn V be ag [] [] s)(B:∀d∈e,bC d.id=J (.row 4 d.g [d.row])/\d.id<bu/\d.id≠V)(g:s.T 0=c0)(c:s.T 2=.ptr V be 1 0 0)(h:s.T 23=.ptr aS bn 0 0 0)(C:∀b w,b.T 0=c0->b.T 2=.ptr V be 1 0 0->b.O V=J (.row 1 be [[.p (I w)]])->w<=ag->(∀d∈e,w<=d.used)->(w=ag\/∃d∈e,d.used=w)->(∀f,f<bu->f≠V->b.O f=bC f)->bu<=b.nx->Fr b.O b.nx->aB (.exit 0) b):
 bx (X af) (.loop Ft) s aB:=by refine Dz br (λ_=>e) (λA s=>PE L e bC bu bB bS aS bn V be ag A A s/\s.T 0=c0/\s.T 2=.ptr V be 1 0 0/\s.T 23=.ptr aS bn 0 0 0) y U k.lt (λA s a=>⟨U,a.1.it,a.1.mp⟩) ⟨a,g,c,h⟩ (λA s d D E a l m=>?_) λA s D E a M=>?_;obtain⟨⟨n,F,⟨w,o,i,p,j⟩,q,r,t,u,x,m,z⟩,g,c,h⟩:=a;have N:=z.lt n;obtain⟨G,H,K⟩:=B d l;refine abV ⟨bi,aj,⟨w,aj,i,p,j⟩,aj,r,t,u,x,aw,bK⟩ l k.nb G H K (by simp[c]) ar λs2 O v=>?_;exact U;obtain⟨⟨n,F,⟨w,o,i,p,j⟩,q,r,t,u,x,m,z⟩,g,c,h⟩:=a;exact C _ w (by simp[g]) (by simp[c]) o i U j q aw bK
theorem ado(c:PE L e bC bu bB bS aS bn V be ag (A++[d.born]) A s)(g:d∈e)(i:(e.map (·.born)).Nodup)(j:bC d.id=J (.row 4 d.g [d.row]))(k:d.id<bu)(l:d.id≠V)(m:s.T 2=.ptr V be 1 0 0)(n:s.T 38=.ptr aS bn 0 0 0)(o:∀a,PE L e bC bu bB bS aS bn V be ag (A++[d.born]) (A++[d.born]) a->(∀f,f=0\/f=2\/f=38->a.T f=s.T f)->aB .normal a):
 bx (X af) (z 3 [q 41 (.m .Ew 0 [.t 38]),q 42 (xE 41 1),G 6 42] (rF 7 [oL 43 1 2,G 44 6,d5 45 44,oF 46 45 3,oL 47 1 46,q 48 (.pf .mn [.t 43,.t 47]),oN (xS 1 2 48)])) s aB:=by
 obtain⟨b,p,⟨w,r,M,N,O⟩,t,u,v,x,B,Q,C⟩:=c;have R:=C.lt b;have S:CE.kv d∈e.map CE.kv:=ak;have T:V≠aS:=y;have E:s.O d.id=J (.row 4 d.g [[.p d.mi,.p d.tags,.p (I d.at_),.p (I d.used)]]):=(t _ k l).trans j;rw[bF,dD];intro W;simp[-bN,n,th,b,p];intro _;refine⟨_,_,_,ar,rfl,?_⟩;simp[m,r,ba,E,bI,D.cells,P.cells,aJ];intro Y;have ab:(if d.used<w then d.used else w)<=d.used/\(if d.used<w then d.used else w)<=w:=by split<;>omega
 refine o _ ⟨aj,U,⟨_,bi,y,λF H K=>?_,?_⟩,U,u,v,x,B,aw,bK⟩ λf hk=>?_;rcases bg.1 K with h|h
 grind;have:=mA i F H d g ak;exact U;grind;exact cj
theorem aeo(k:sb cg L e)(a:PE L e bC bu bB bS aS bn V be ag [] [] s)(B:∀d∈e,bC d.id=J (.row 4 d.g [d.row])/\d.id<bu/\d.id≠V)(g:s.T 0=c0)(c:s.T 2=.ptr V be 1 0 0)(h:s.T 38=.ptr aS bn 0 0 0)(C:∀b w,b.T 0=c0->b.T 2=.ptr V be 1 0 0->b.O V=J (.row 1 be [[.p (I w)]])->w<=ag->(∀d∈e,w<=d.used)->(w=ag\/∃d∈e,d.used=w)->(∀f,f<bu->f≠V->b.O f=bC f)->bu<=b.nx->Fr b.O b.nx->aB (.exit 2) b):
 bx (X af) (.loop Fq) s aB:=by refine Dz br (λ_=>e) (λA s=>PE L e bC bu bB bS aS bn V be ag A A s/\s.T 0=c0/\s.T 2=.ptr V be 1 0 0/\s.T 38=.ptr aS bn 0 0 0) y U k.lt (λA s a=>⟨U,a.1.it,a.1.mp⟩) ⟨a,g,c,h⟩ (λA s d D E a l m=>?_) λA s D E a M=>?_;obtain⟨⟨n,F,⟨w,o,i,p,j⟩,q,r,t,u,x,m,z⟩,g,c,h⟩:=a;have N:=z.lt n;obtain⟨G,H,K⟩:=B d l;refine ado ⟨bi,aj,⟨w,aj,i,p,j⟩,aj,r,t,u,x,aw,bK⟩ l k.nb G H K (by simp[c]) ar λs2 O v=>?_;exact U;obtain⟨⟨n,F,⟨w,o,i,p,j⟩,q,r,t,u,x,m,z⟩,g,c,h⟩:=a;exact C _ w (by simp[g]) (by simp[c]) o i U j q aw bK
theorem ajc{b:List D}(j:CF f)(c:O id=J (.row 4 g [b]))(k:b[3]? =J (.p (I ag)))(d:O V=J (.row 1 be [[.p (I w)]]))(l:∀e,t<=e->R (.p (B (ag==w))) O e):X af 138 [.p f,.ptr id g 4 0 0,.ptr V be 1 0 0] O t R:=by refine X.of Y anC (by simp[adH]) λa=>?_;obtain⟨h,i,bB,rfl⟩:=j;have p:=a.lt c;have q:=a.lt d;have m:id≠t:=y;have n:V≠t:=y;have o:D.cells (.p (.agg [S h,I i,I bB]))=[.p (S h),.p (I i),.p (I bB)]:=rfl;simp[adH,cN,o,c,d,m,n,ba,k,binOp,aC];intro r;exact .low a y aj (l _ y)
def ag4{a:List D}(c:O id=J (.row 4 g [a]))(d:a[3]? =J (.p (I ag)))(e:O V=J (.row 1 be [[.p (I w)]]))(f:∀b,t<=b->R (.p (B (ag==w))) O b):X af 139 [.ptr id g 4 0 0,.ptr V be 1 0 0] O t R:=by refine X.of Y am7 (by simp[adg]) λh=>?_;simp[adg,cN,c,e,ba,d,binOp,aC];exact .d8 bK y (f _ y)
structure wV(O:ah)(i:CI)(v:CV)(co cl:Nat)(eo el:List CE):Prop where
 c:O i.c=J (.row 6 i.gc [i.row v])
 o:O i.o=J (.map i.go co (eo.map CE.kv))
 l:O i.l=J (.map i.gl cl (el.map CE.kv))
 b:∀x∈eo++el,O x.id=J (.row 4 x.g [x.row])
 Mo:sb CF co eo
 Ml:sb Fw cl el
 ol:i.o≠i.l
 nd:((eo++el).map (·.id)).Nodup
theorem wV.ne(a:wV O i v L Q e j):i.c≠i.o/\i.c≠i.l/\∀d∈e++j,d.id≠i.c/\d.id≠i.o/\d.id≠i.l:=by refine⟨λf=>?_,λf=>?_,λd g=>⟨λf=>?_,λf=>?_,λf=>?_⟩⟩;have:=a.c;rw[f,a.o]at this;grind;have:=a.c;rw[f,a.l]at this;grind;have:=a.b d g;rw[f,a.c]at this;grind;have:=a.b d g;rw[f,a.o]at this;grind;have:=a.b d g;rw[f,a.l]at this;grind
theorem arx(l:sb cg L e)(g:s.T 0=.ptr i.c i.gc 6 0 0)(m:s.T 2=.ptr V be 1 0 0)(n:s.O i.c=J (.row 6 i.gc [i.row v]))(b:s.O i.o=J (.map i.go L (e.map CE.kv)))(h:s.O V=J (.row 1 be [[.p (I ag)]]))(j:∀d∈e,s.O d.id=J (.row 4 d.g [d.row]))(c:Fr s.O s.nx)(x:∀a w,a.T 0=.ptr i.c i.gc 6 0 0->a.T 2=.ptr V be 1 0 0->a.O V=J (.row 1 be [[.p (I w)]])->w<=ag->(∀d∈e,w<=d.used)->(w=ag\/∃d∈e,d.used=w)->(∀f,f<s.nx->f≠V->a.O f=s.O f)->s.nx<=a.nx->Fr a.O a.nx->aB .normal a):
 bx (X af) (z 5 [G 19 0,d5 20 19,oF 21 20 4,oL 22 1 21,q 23 (.m .range 4 [.t 22])] (.block 0 (.loop Ft))) s aB:=by
 have o:=c.lt h;have p:=c.lt b;have r:i.o≠V:=by intro t;rw[t,h]at b;cases b
 generalize u:(av.loop Ft)=A;rw[bF,dD];intro B;simp[-gQ,g,n,CI.row,ba,th,b];subst u;rw[gQ];refine aer (c0:=.ptr i.c i.gc 6 0 0) l ⟨bi,aj,⟨ag,aj,y,ak,.inl rfl⟩,aj,y,o,p,r,aw,bK⟩ (λd k=>⟨j d k,c.lt (j d k),ak⟩) (by simp[g]) (by simp[m]) Y λa w C D E F H K M N O=>?_;grind
theorem arD(l:sb cg L e)(g:s.T 0=.ptr i.c i.gc 6 0 0)(m:s.T 2=.ptr V be 1 0 0)(n:s.O i.c=J (.row 6 i.gc [i.row v]))(b:s.O i.l=J (.map i.gl L (e.map CE.kv)))(h:s.O V=J (.row 1 be [[.p (I ag)]]))(j:∀d∈e,s.O d.id=J (.row 4 d.g [d.row]))(c:Fr s.O s.nx)(x:∀a w,a.T 0=.ptr i.c i.gc 6 0 0->a.T 2=.ptr V be 1 0 0->a.O V=J (.row 1 be [[.p (I w)]])->w<=ag->(∀d∈e,w<=d.used)->(w=ag\/∃d∈e,d.used=w)->(∀f,f<s.nx->f≠V->a.O f=s.O f)->s.nx<=a.nx->Fr a.O a.nx->aB .normal a):
 bx (X af) (z 5 [G 34 0,d5 35 34,oF 36 35 5,oL 37 1 36,q 38 (.m .range 4 [.t 37])] (.block 2 (.loop Fq))) s aB:=by
 have o:=c.lt h;have p:=c.lt b;have r:i.l≠V:=by intro t;rw[t,h]at b;cases b
 generalize u:(av.loop Fq)=A;rw[bF,dD];intro B;simp[-gQ,g,n,CI.row,ba,th,b];subst u;rw[gQ];refine aeo (c0:=.ptr i.c i.gc 6 0 0) l ⟨bi,aj,⟨ag,aj,y,ak,.inl rfl⟩,aj,y,o,p,r,aw,bK⟩ (λd k=>⟨j d k,c.lt (j d k),ak⟩) (by simp[g]) (by simp[m]) Y λa w C D E F H K M N O=>?_;grind
theorem ZJ(F:wV s.O i v L Q e j)(hu:0<=v.cf/\v.cf<=1000000)(m:Fr s.O s.nx)(K:s.T 0=.ptr i.c i.gc 6 0 0)(hQ:∀b w,(∀d∈e++j,w<=d.used)->(w=v.cf+1\/∃d∈e++j,d.used=w)->b.O i.o=J (.map i.go L ((e.filter λd=> !(d.used==w)).map CE.kv))->b.O i.l=J (.map i.gl Q ((j.filter λd=> !(d.used==w)).map CE.kv))->(∀f,f<s.nx->f≠i.o->f≠i.l->b.O f=s.O f)->s.nx<=b.nx->Fr b.O b.nx->aB .normal b):
 bx (X af) QH s aB:=by
 obtain⟨an,ao,N⟩:=F.ne;obtain⟨k,ab,M,H,o,O,ol,nd⟩:=F;have r:=m.lt k;have no:=m.lt ab;have nl:=m.lt M;have ac:cI.wrap (v.cf+1)=v.cf+1:=iK y y;rw[show QH= z 7 [G 14 0,d5 15 14,oF 16 15 3,oL 17 1 16,q 18 (di .add 17 1),q 2 (.alloc 5 1 [aH]),oN (xS 1 2 18)] (.seq (z 5 [G 19 0,d5 20 19,oF 21 20 4,oL 22 1 21,q 23 (.m .range 4 [.t 22])] (.block 0 (.loop Ft))) (.seq (z 5 [G 34 0,d5 35 34,oF 36 35 5,oL 37 1 36,q 38 (.m .range 4 [.t 37])] (.block 2 (.loop Fq))) (rF 4 [G 49 0,q 50 (wW 138 [.t 2]),q 51 (wW 139 [.t 2]),q 52 (sV 137 49 50 51)]))) from rfl,bF,dD];intro R;generalize hC:(av.seq (z 5 [G 19 0,d5 20 19,oF 21 20 4,oL 22 1 21,q 23 (.m .range 4 [.t 22])] (.block 0 (.loop Ft))) (.seq (z 5 [G 34 0,d5 35 34,oF 36 35 5,oL 37 1 36,q 38 (.m .range 4 [.t 37])] (.block 2 (.loop Fq))) (rF 4 [G 49 0,q 50 (wW 138 [.t 2]),q 51 (wW 139 [.t 2]),q 52 (sV 137 49 50 51)])))=C;simp[K,k,CI.row,ba,binOp,aC,ac,bI,D.cells,P.cells,aJ];subst hC;have ad:∀s1:St,s1.T 0=.ptr i.c i.gc 6 0 0->s1.T 2=.ptr (s.nx+5) (R (s.nx+5)) 1 0 0->s1.O=am s.O (s.nx+5) (J (.row 1 (R (s.nx+5)) [[.p (I (v.cf+1))]]))->s1.nx=s.nx+7->bx (X af) (av.seq (z 5 [G 19 0,d5 20 19,oF 21 20 4,oL 22 1 21,q 23 (.m .range 4 [.t 22])] (.block 0 (.loop Ft))) (.seq (z 5 [G 34 0,d5 35 34,oF 36 35 5,oL 37 1 36,q 38 (.m .range 4 [.t 37])] (.block 2 (.loop Fq))) (rF 4 [G 49 0,q 50 (wW 138 [.t 2]),q 51 (wW 139 [.t 2]),q 52 (sV 137 49 50 51)]))) s1 aB:=by
  intro s1 u0 u2 t un;have ag:∀f,f<s.nx->s1.O f=s.O f:=λf hk=>by rw[t];exact aj
  have S:∀d∈e++j,d.id<s.nx:=λd a=>m.lt (H d a);rw[bF];refine arx o u0 u2 ((ag _ r).trans k) U (by rw[t];exact bi) U (by rw[t,un];exact bK) λs2 n1 a0 a2 a3 a4 a5 a6 a7 a8 a9=>?_;have al:∀f,f<s.nx->s2.O f=s.O f:=ak;show bx _ (.seq _ _) s2 _;rw[bF];refine arD O a0 a2 ((al _ r).trans k) U a3 U a9 λs3 T b0 b2 V b4 b5 b6 b7 b8 b9=>?_;have n:∀f,f<s.nx->s3.O f=s.O f:=ak;show bx _ (.dg 4 Z _) s3 _;rw[dD];intro g1;simp[b0,b2];have nt:=y;refine UH (p:=λd=>d.used==T) o O ((n _ r).trans k) U U ol (λd a E W K' g u l=>?_) (λd a E W K' g u l=>?_) λW E g u l h4 h5=>?_;have c:=jx j a;have x:=S d c;obtain⟨m1,A,B⟩:=N d c;exact ajc (o.k d a) (((g d.id y A B).trans (n _ x)).trans (H d c)) rfl ((g _ y y y).trans V) l;have c:=mw e a;have x:=S d c;obtain⟨m1,A,B⟩:=N d c;exact ag4 (((g d.id y A B).trans (n _ x)).trans (H d c)) rfl ((g _ y y y).trans V) l;refine hQ _ T (λd a=>?_) ?_ u l (λf k1 k2 k3=>(h4 f y k2 k3).trans (n f k1)) aw h5;rcases bg.1 a with h|h
  have:=a5 d h;omega;exact b5 d h;rcases b6 with h|⟨d,a,h⟩
  rcases a6 with h'|⟨d,a,h'⟩;exact .inl y;exact .inr ⟨d,jx _ a,y⟩;exact .inr ⟨d,mw _ a,h⟩
 exact ad _ (by simp[K]) Y rfl rfl
theorem tw{a:Option Nat}{b:fG}{e:Bool}{c:St->Prop}:d9 bT ⟨a,b,ae,e⟩ s c=aN bT b s λd O t=>c {s with T:=eE s.T a d,O:=O,nx:=t}:=aj
def rgA:pd->Array Oper|.seq (.seq (.region _ a _) _) _=>a|_=> #[]
def rgI:pd->Nat|.seq (.seq (.region i _ _) _) _=>i|_=>0
def rgX:pd->pd|.seq (.seq _ d) _=>d|_=>.skip
def rgY:pd->pd|.seq _ a=>a|_=>.skip
noncomputable def Do:pd:=(nh.body).getD .skip
noncomputable def FX:Array Oper:=rgA Do
def tDs:List aA:=[G 7 0,q 8 (oW 14 7),G 9 0,d5 10 9,oF 11 10 0,oL 12 1 11,q 13 (xB .leq 8 12)]
def ajR:nh.body=J (.seq (.seq (.region (rgI Do) FX aa) (rgX Do)) (rgY Do)):=by rfl
def aru:rL af nh.ntmps FX 0 FX.toList=J tDs:=h
noncomputable def tX:av:=(mr af nh.ntmps (rgX Do)).getD .qm
noncomputable def tY:av:=(mr af nh.ntmps (rgY Do)).getD .qm
theorem t_x:mr af nh.ntmps (rgX Do)=J tX:=aj
def t_y:mr af nh.ntmps (rgY Do)=J tY:=h
theorem ar7:tX=X3:=aj
def arj:zY tY=QH:=h
theorem apq:af.follows .mixedOrders=aa:=aj
theorem akq:FX.size=7:=aj
def PP(b a:Nat):Array Bool:= #[1<=b,2<=b,1<=a,2<=a,3<=a,4<=a,7<=b]
def rdl(b a:Nat):List Nat:=if b=2 then if a=4 then [6] else [2+a] else if a=4 then [b] else [b,2+a]
def t_r:((cZ 3).all λa=>(cZ 5).all λH=>kZ .any FX (PP a H)==rdl a H)=aa:=h
theorem adL{r:Nat->Nat}{T0:Nat->D}{s:St->Prop}(u:wV O i v L Q e j)(V:e.length<=1000000/\j.length<=1000000)(M:T0 0=.ptr i.c i.gc 6 0 0)(P:∀b k,b 0=.ptr i.c i.gc 6 0 0->b 13=.p (B (decide (((e.length+j.length:Nat):Int)<=v.size)))->t+7<=k->s {T:=b,O:=O,nx:=k,bs:=t,gm:=r}):
 yr (X af) FX tDs 7 #[Z,Z,Z,Z,Z,Z,Z] {T:=T0,O:=O,nx:=t+7,bs:=t,gm:=r} s:=by
 have x:=u.c;have R:∀(n a H:Nat) (b:Nat->D) k,a<=2->H<=4->a+H+n=6->b 0=.ptr i.c i.gc 6 0 0->(1<=a->b 7=.ptr i.c i.gc 6 0 0)->(2<=a->b 8=.p (I ((e.length+j.length:Nat):Int)))->(1<=H->b 9=.ptr i.c i.gc 6 0 0)->(2<=H->b 10=.ptr i.c i.gc 6 0 0)->(3<=H->b 11=.ptr i.c i.gc 6 0 0)->(4<=H->b 12=.p (I v.size))->t+7<=k->yr (X af) FX tDs (n+1) (PP a H) {T:=b,O:=O,nx:=k,bs:=t,gm:=r} s:=by
  intro n;induction n with
  |zero=>intro a H b k m o S c z A C E F K l;obtain⟨rfl,rfl⟩:a=2/\H=4:=y;have p:kZ .any FX (PP 2 4)=[6]:=h;refine⟨U,λN d f g=>?_⟩;rw[p]at d;obtain rfl:=bD.1 d;obtain rfl:(q 13 (xB .leq 8 12))=f:=kN g;rw[tw,sI];simp only[iF,A y,K y,binOp,aC];exact⟨Y,aj,P _ _ (by simp[c]) Y l⟩
  |succ n ih=>
   intro a H b k m o S c z A C E F K l;have p:kZ .any FX (PP a H)=rdl a H:=by simpa using jC.1 (jC.1 t_r a dK) H dK
   refine⟨by rw[p];unfold rdl;grind,λN d f g=>?_⟩;have d:(N=a/\a<2)\/(N=2+H/\H<4):=by rw[p]at d;unfold rdl at d;split at d<;>split at d<;>simp at d<;>omega
   rcases d with⟨rfl,m⟩|⟨rfl,o⟩
   .have w:(PP N H).setIfInBounds N aa=PP (N+1) H:=by obtain rfl|rfl:N=0\/N=1:=y;all_goals exact aj
    rw[w];obtain rfl|rfl:N=0\/N=1:=y;obtain rfl:(G 7 0)=f:=kN g;rw[tw,mZ];exact ih 1 H _ _ y o y (by simp[c]) (by simp[c]) Y U U U U l;obtain rfl:(q 8 (oW 14 7))=f:=kN g;rw[tw,RF];simp only[bG,eC,iF,z y];refine afT U x u.o u.l λW ab=>?_;exact ih 2 H _ _ y o y (by simp[c]) U Y U U U U y
   .have w:(PP a H).setIfInBounds (2+H) aa=PP a (H+1):=by obtain rfl|rfl|rfl|rfl:H=0\/H=1\/H=2\/H=3:=y;all_goals exact aj
    rw[w];obtain rfl|rfl|rfl|rfl:H=0\/H=1\/H=2\/H=3:=y;obtain rfl:(G 9 0)=f:=kN g;rw[tw,mZ];exact ih a 1 _ _ m y y (by simp[c]) U U (by simp[c]) Y Y Y l;obtain rfl:(d5 10 9)=f:=kN g;rw[tw,abk];simp only[iF,C y];exact ih a 2 _ _ m y y (by simp[c]) U U U Y Y Y l;obtain rfl:(oF 11 10 0)=f:=kN g;rw[tw,Nj];simp only[iF,E y];exact ih a 3 _ _ m y y (by simp[c]) U U U U Y Y l;obtain rfl:(oL 12 1 11)=f:=kN g;rw[tw,adb];simp only[iF,F y,x,CI.row];refine⟨Y,Y,Y,?_⟩;exact ih a 4 _ _ m y y (by simp[c]) U U U U U Y l
 exact R 6 0 0 _ _ y y rfl M Y Y Y Y Y Y y
def ahm(l:wV O i v L Q e j)(r:0<=v.cf/\v.cf<=1000000)(u:e.length<=1000000/\j.length<=1000000)(x:((e.length+j.length:Nat):Int)<=v.size->∀a,t<=a->R (.eQ []) O a)(z:¬((e.length+j.length:Nat):Int)<=v.size->∀w a E,(∀d∈e++j,w<=d.used)->(w=v.cf+1\/∃d∈e++j,d.used=w)->E i.o=J (.map i.go L ((e.filter λd=> !(d.used==w)).map CE.kv))->E i.l=J (.map i.gl Q ((j.filter λd=> !(d.used==w)).map CE.kv))->(∀f,f<t->f≠i.o->f≠i.l->E f=O f)->t<=a->Fr E a->R (.eQ []) E a):
 X af 72 [.ptr i.c i.gc 6 0 0] O t R:=by
 have h:=apA;unfold cW at h;rw[bj]at h;obtain⟨k,A,m⟩:=h;have B:k.rs=[]:=by have:=congrArg d6.rs m;exact this
 have C:1<=k.n:=by have:=congrArg d6.n m;have U:k.n=53:=this;omega
 refine X.aoA Qq ajR A aru apq t_x t_y C λn D=>?_;rw[B,akq];refine adL l u (by simp[cN]) λo c F G V=>?_;rw[bF,ar7,show X3=.cond (.t 13) .ret .skip from rfl,kA,iF];show sC (o 13) _ _;rw[G];by_cases g:((e.length+j.length:Nat):Int)<=v.size;rw[qu g,jU,Wc];refine⟨.inr rfl,?_⟩;rw[UN,afA];exact⟨O,c,.refl _,y,n.mono y,x g c y⟩;rw[mz g,iV,mD];show bx _ tY _ _;refine pV br tY ?_;rw[arj];refine ZJ (s:={T:=o,O:=O,nx:=c,bs:=t,gm:=D}) l r (n.mono aw) F λb w H I K M N p q=>?_;refine⟨.inl rfl,?_⟩;rw[UN,afA];have p:c<=b.nx:=p;exact⟨b.O,b.nx,.refl _,y,q,z g w b.nx b.O H I K M (λf W P S=>N f aw P S) y q⟩
def af1:av:=rF 11 [G 8 0,G 9 0,d5 10 9,oF 11 10 2,oL 12 1 11,oF 13 3 0,oL 14 1 13,q 15 (.pf .mx [.t 12,.t 14]),d5 16 8,oF 17 16 2,oN (xS 1 17 15)]
def D73:d6:=⟨18,[],z 1 [q 3 (iU 0 3 1)] (z 4 [G 4 0,q 5 (wW 140 [.t 3]),q 6 (wW 142 [.t 3]),q 7 (sV 137 4 5 6)]
 af1)⟩
def apT:cW af Tryz.f73=J D73:=h
def SJ:List aA:=[q 18 (jw 13 17),G 5 18]
def Ym:d6:=⟨19,[.t 5],z 2 [q 3 (iU 0 3 0),q 5 (gR Z)] (z 14 (G 6 1::d5 7 6::oF 8 7 2::oL 9 1 8::oF 10 2 0::oL 11 1 10::q 12 (xB .lss 9 11)::G 13 12::oT 14 13 (xF 2 1)::oT 15 13 (xL 1 14)::oT 16 13 (uS 3 3)::oT 17 13 (dV 141 15 16)::SJ) (.ret))⟩
def ajS:cW af Tryz.f140=J Ym:=h
def Tk:List aA:=[q 18 (jw 11 17),G 3 18]
def YV:d6:=⟨19,[.t 3],z 1 [q 3 (gR Z)] (z 16 (G 4 0::d5 5 4::oF 6 5 2::oL 7 1 6::oF 8 1 0::oL 9 1 8::q 10 (xB .lss 7 9)::G 11 10::oT 12 11 (uS 3 1)::oT 13 11 (xM 0)::oT 14 11 (xN 13)::oT 15 11 (xF 14 1)::oT 16 11 (xL 1 15)::oT 17 11 (dV 143 12 16)::Tk) (.ret))⟩
def amv:cW af Tryz.f142=J YV:=h
def K9(a:List P):Prop:=∃(b:ByteArray) (c w:Int),a=[S b,I c,I w]
def wq(a b:List P):Bool:=match mX [.s,.i,.i] a b with|some c=>c|none=>Z
def acb(b:K9 a)(c:K9 H):vL (.eq Z [.s,.i,.i]) [.p (.agg a),.p (.agg H)]=J (B (wq a H)):=by obtain⟨d,e,w,rfl⟩:=b;obtain⟨f,g,h,rfl⟩:=c;simp[vL,wq,mX,tj]
theorem aei{a:List P}(c:Sl 3 aP bH)(hl:bH.length<=100000)(B:∀K∈bH,K9 K)(o:K9 a)(C:∀b E,t<=b->(∀f,f<t->E f=O f)->Fr E b->R (.p (I (zZ (wq a) bH))) O b):X af 193 [.p aP,.p (.agg a)] O t R:=by
 refine X.of Y akR (by simp[acF]) λF=>?_;have e:a.length=3:=by obtain⟨G,H,w,rfl⟩:=o;rfl
 have p:a.take 3=a:=ak;have L:D.cells (.p (.agg a))=a.map .p:=by simp[D.cells,dw]
 have q:cF (a.map D.p)=.p (.agg a):=Y;simp[acF,cN,dO c,L,e];intro g g1;refine⟨λf s=>∃N:Nat,f=bH.length-N/\N<=bH.length/\IdS (am O t (J (.row 3 (g t) [a.map .p]))) t (.p aP) (.p (.agg a)) bH.length N s/\s.T 3=.ptr t (g t) 3 0 0/\∀i K,i<N->bH[i]? =J K->wq a K=Z,⟨_,0,rfl,y,⟨Y,Y,Y,Y,Y,rfl,aw⟩,Y,ak⟩,?_⟩;rintro f s ⟨N,rfl,hj,⟨h,M,Q,r,j,k,l⟩,u,S⟩;have T:=lW (i:=N) y;have v:∀(d:Int) b,t<=b->zZ (wq a) bH=d->ji t R (am O t (J (.row 3 (g t) [a.map .p]))) b (.p (I d)):=by intro d b l V;rw[<-V];exact .low F l aj (C b O l U bK)
 refine lX j r (λac g2=>?_) λad g2=>?_;have ab:N<bH.length:=y;have m:bH[N]? =J bH[N]:=Y;have n:=B _ (bJ ab);generalize bH[N]=K at m n;have x:K.length=3:=by obtain⟨G,H,w,rfl⟩:=n;rfl
 have z:K.take 3=K:=ak;have A:=acb o n;rw[bF,gQ];cases W:wq a K with|true=>simp[j,u,h,dm c,m,ft,x,z,k,ba,e,<-cD,p,q,A,W];exact v _ _ y (On S ar W)|false=>simp[j,u,h,dm c,m,ft,x,z,k,ba,e,<-cD,p,q,A,W,binOp,aC,T];intro g3;refine⟨bH.length-(N+1),y,N+1,rfl,y,⟨by simp[h],by simp[M],by simp[Q],by simp[r],Y,Y,?_⟩,λi r' hi ag=>?_⟩;exact aw;grind
 refine⟨rfl,?_⟩;simp[k];exact v _ _ y (JJ ak)
theorem P5{a:List P}(d:Sl 3 aP bH)(e:bH.length<=100000)(f:∀K∈bH,K9 K)(b:K9 a)(g:∀c,t<=c->R (.p (B (bH.any (wq a)))) O c):X af 141 [.p aP,.p (.agg a)] O t R:=by
 refine X.of Y am8 (by simp[acg]) λh=>?_;have i:a.length=3:=by obtain⟨n,o,w,rfl⟩:=b;rfl
 have j:a.take 3=a:=ak;have k:D.cells (.p (.agg a))=a.map .p:=by simp[D.cells,dw]
 have l:cF (a.map D.p)=.p (.agg a):=Y;simp[acg,cN,k,i,ba,<-cD,j,l];intro p q;refine aei d e f b λm _ r _ _=>?_;simp[abt,binOp,aC];have:=g m y;rw[<-TL]at this;exact .low h y aj (by simpa using this)
structure rQ(r:List P)(num:Int)(refs tags:List (List P)):Prop where
 sh:∃qr qt,r=[I num,qr,qt]/\Sl 3 qr refs/\Sl 3 qt tags
 hr:∀r∈refs,K9 r
 ht:∀r∈tags,qw r
 lr:refs.length<=1000
 lt:tags.length<=1000
def acW:P->List P|.agg K=>K|_=>[]
def DN:P->Bool|.v (.string _)=>aa|_=>Z
def mL(num:Int)(b c:List (List P))(a:CE):Bool:=decide (a.at_<num)&&(if DN a.key then pX c a.np else b.any (wq (acW a.key)))
theorem aia{num:Int}(o:rQ K num refs tags)(c:CF d.key)(g:O d.id=J (.row 4 d.g [d.row]))(h:O cJ=J (.row 3 cT [K.map .p]))(i:∀j,t<=j->R (.p (B (mL num refs tags d))) O j):X af 140 [.p d.key,.ptr d.id d.g 4 0 0,.ptr cJ cT 3 0 0] O t R:=by
 refine X.of Y ajS (by simp[Ym]) λe=>?_;obtain⟨⟨v,w,rfl,p,x⟩,q,z,A,C⟩:=o;obtain⟨a,b,bB,c⟩:=c;have E:=e.lt g;have F:=e.lt h;have k:d.id≠t:=y;have l:cJ≠t:=y;have m:D.cells (.p (.agg [S a,I b,I bB]))=[.p (S a),.p (I b),.p (I bB)]:=rfl;have n:mL num refs tags d=(decide (d.at_<num)&&refs.any (wq [S a,I b,I bB])):=by simp[mL,c,DN,acW]
 have r:cF [D.p (S a),.p (I b),.p (I bB)]=.p (.agg [S a,I b,I bB]):=Y;rw[c];by_cases f:d.at_<num;simp[Ym,cN,m,g,h,k,l,ba,CE.row,binOp,aC,f,r];intro s G;refine P5 p y q ⟨a,b,bB,rfl⟩ λu H=>?_;simp[SJ];exact .low e y aj (by have:=i u y;rw[n]at this;simpa[f]using this);simp[Ym,SJ,cN,m,g,h,k,l,ba,CE.row,binOp,aC,f];intro s;exact .low e y aj (by have:=i (t+2+14) y;rw[n]at this;simpa[f]using this)
def agN{num:Int}(l:rQ K num refs tags)(b:Fw d.key)(m:Sl 3 d.tags d.np)(n:∀K∈d.np,qw K)(u:d.np.length<=1000)(c:O d.id=J (.row 4 d.g [d.row]))(e:O cJ=J (.row 3 cT [K.map .p]))(f:∀g,t<=g->R (.p (B (mL num refs tags d))) O g):X af 142 [.ptr d.id d.g 4 0 0,.ptr cJ cT 3 0 0] O t R:=by
 refine X.of Y amv (by simp[YV]) λh=>?_;obtain⟨⟨i,j,rfl,o,p⟩,v,q,w,x⟩:=l;obtain⟨z,b⟩:=b;have A:=h.lt c;have C:=h.lt e;have k:mL num refs tags d=(decide (d.at_<num)&&pX tags d.np):=by simp[mL,b,DN]
 have r:cF [D.p (I num),.p i,.p j]=.p (.agg [I num,i,j]):=Y;by_cases a:d.at_<num;simp[YV,cN,c,e,ba,CE.row,binOp,aC,a,r];intro E;refine abP p m q n y rfl (ie o) λs F=>?_;simp[Tk];exact .d8 bK y (by have:=f s y;rw[k]at this;simpa[a]using this);simp[YV,Tk,cN,c,e,ba,CE.row,binOp,aC,a];exact .d8 bK y (by have:=f (t+1+16) y;rw[k]at this;simpa[a]using this)
structure LU(x:CE):Prop where
 mi:∃rows,Sl 9 x.mi rows/\jv jh rows x.ob
 ol:x.ob.length<=1000
 tags:Sl 3 x.tags x.np
 tt:∀r∈x.np,qw r
 tl:x.np.length<=1000
 ne:DN x.key=Z->x.ob≠[]
theorem akk{num:Int}(q:wV O i v L Q e j)(F:∀d∈e++j,LU d)(n:rQ K num refs tags)(G:∀b E,t<=b->E i.c=J (.row 6 i.gc [i.row {v with floor:=if num>v.floor then num else v.floor}])->E i.o=J (.map i.go L ((e.filter λd=> !mL num refs tags d).map CE.kv))->E i.l=J (.map i.gl Q ((j.filter λd=> !mL num refs tags d).map CE.kv))->(∀f,f<t->f≠i.c->f≠i.o->f≠i.l->E f=O f)->Fr E b->R (.eQ []) E b):
 X af 73 [.ptr i.c i.gc 6 0 0,.p (.agg K)] O t R:=by refine X.of Y apT (by simp[D73]) λl=>?_;obtain⟨ad,ag,r⟩:=q.ne;obtain⟨s,N,M,H,u,w,S,nd⟩:=q;have T:=l.lt s;have no:=l.lt N;have nl:=l.lt M;have x:∀d∈e++j,d.id<t:=λd a=>l.lt (H d a);have V:=n;obtain⟨⟨h,k,rfl,h1,h2⟩,h3,h4,h5,h6⟩:=V;have W:D.cells (.p (.agg [I num,h,k]))=[.p (I num),.p h,.p k]:=rfl;have on:∀g,am O t (J (.row 3 g [[.p (I num),.p h,.p k]])) t=J (.row 3 g [[I num,h,k].map .p]):=U;have ab:∀g f,f<t->am O t (J (.row 3 g [[.p (I num),.p h,.p k]])) f=O f:=aj;simp[D73,cN,W];intro g0 g1;refine UH (p:=mL num refs tags) u w ((ab _ _ T).trans s) U U S (λd a E b K' z A m=>?_) (λd a E b K' z A m=>?_) λb E z A m a4 a5=>?_;have c:=jx j a;have hi:=x d c;obtain⟨m1,m2,m3⟩:=r d c;exact aia n (u.k d a) ak ak m;have c:=mw e a;have hi:=x d c;obtain⟨m1,m2,m3⟩:=r d c;obtain⟨_,_,B,o,C,_⟩:=F d c;exact agN n (w.k d a) B o C ak ak m;have oc:E i.c=J (.row 6 i.gc [i.row v]):=ak;have ac:=(a4 t y y y).trans (on (g0 t));simp[af1,oc,ac,CI.row,ba,bI,D.cells,P.cells,aJ];refine .d8 bK y (G _ _ y ?_ aj aj (λf B o C k4=>(ai o).trans ak) bK);rw[bi];exact aj
def aeA:av:=z 6 [G 16 0,oF 17 3 0,oL 18 1 17,d5 19 16,oF 20 19 1,oN (xS 1 20 18)] (z 1 [fR 4 0] (.ret))
def D27:d6:=⟨21,[.t 4],z 2 [q 3 (iU 0 3 1),fR 4 0] (.seq (z 8 [oF 5 3 0,oL 6 1 5,G 7 0,d5 8 7,oF 9 8 1,oL 10 1 9,q 11 (di .add 10 1),q 12 (xB .neq 6 11)] (.cond (.t 12) (z 1 [fR 4 7] (.ret)) (.skip))) (z 3 [G 13 0,cA 14 3 3,q 15 (dV 73 13 14)]
 aeA))⟩
def ap2:cW af Tryz.f27=J D27:=h
def D32:d6:=⟨14,[],z 1 [q 3 (iU 0 3 1)] (z 7 [oF 4 3 0,oL 5 1 4,G 6 0,d5 7 6,oF 8 7 1,oL 9 1 8,q 10 (xB .gtr 5 9)] (.cond (.t 10) (rF 3 [G 11 0,cA 12 3 3,q 13 (dV 73 11 12)]) (.skip)))⟩
def aox:cW af Tryz.f32=J D32:=h
structure kX(O:ah)(i:CI)(v:CV)(all:List CE):Prop where
 s:∃co cl eo el,wV O i v co cl eo el/\(eo++el).Perm all
 ok:∀x∈all,LU x
 ord:all.Pairwise λx y=>x.used<y.used
 us:∀x∈all,x.used<=v.cf
 u0:0<=v.cf
def Lz(b:CI)(c:List CE)(a:Nat):Prop:=a=b.c\/a=b.o\/a=b.l\/∃d∈c,d.id=a
structure kY(O O':ah)(nx nx':Nat)(i:CI)(v':CV)(all all':List CE):Prop where
 inv:kX O' i v' all'
 low:∀k,k<nx->¬Lz i all k->O' k=O k
 ids:∀x∈all',(∃y∈all,y.id=x.id)\/nx<=x.id
 hn:nx<=nx'
 fr:Fr O' nx'
def wV.X1(f:wV O i v L Q e j)(a:CE->Bool)(h:E i.c=J (.row 6 i.gc [i.row v']))(k:E i.o=J (.map i.go L ((e.filter a).map CE.kv)))(m:E i.l=J (.map i.gl Q ((j.filter a).map CE.kv)))(n:∀d∈e++j,E d.id=O d.id):wV E i v' L Q (e.filter a) (j.filter a):=by refine⟨h,k,m,λd g=>?_,f.Mo.filter a,f.Ml.filter a,f.ol,?_⟩;rw[<-na]at g;have:=(jB.1 g).1;rw[n d ar];exact f.b d ar;rw[<-na];exact f.nd.sublist ((qJ).map _)
theorem kX.X1{c b:ah}{h l:Nat}{a:CI}{m n:CV}{g:List CE}(p:kX c a m g)(i:CE->Bool)(B:n.cf=m.cf)(q:Fr c h)(r:h<=l)(t:Fr b l)(u:∀L Q e j,wV c a m L Q e j->(∀d,d∈e++j↔d∈g)->b a.c=J (.row 6 a.gc [a.row n])/\b a.o=J (.map a.go L ((e.filter i).map CE.kv))/\b a.l=J (.map a.gl Q ((j.filter i).map CE.kv))/\∀f,f<h->f≠a.c->f≠a.o->f≠a.l->b f=c f):kY c b h l a n g (g.filter i):=by obtain⟨⟨L,Q,e,j,k,W⟩,ok,ord,us,u0⟩:=p;obtain⟨v,w,x,z⟩:=u L Q e j k ak;obtain⟨C,D,E⟩:=k.ne;have F:=k.X1 i v w x λd A=>z _ (q.lt (k.b d A)) U U U;refine⟨⟨ak,ak,ak,ak,y⟩,λf G o=>?_,ak,r,t⟩;have o:¬(f=a.c\/f=a.o\/f=a.l\/∃d∈g,d.id=f):=o;grind
theorem WA{num:Int}(g:kX O i v all)(h:rQ K num refs tags)(k:∀a E,kY O E t a i {v with floor:=if num>v.floor then num else v.floor} all (all.filter λd=> !mL num refs tags d)->R (.eQ []) E a):
 X af 73 [.ptr i.c i.gc 6 0 0,.p (.agg K)] O t R:=by refine X.fr ⟨_,Tryz.func73,by rfl,by rfl⟩ λl=>?_;have m:=g;obtain⟨⟨L,Q,e,j,b,W⟩,x,y,z,n⟩:=m;refine akk b ak h λa E o p q r s u=>k a E ?_;obtain⟨A,B,C⟩:=b.ne;have D:=b.X1 (λd=> !mL num refs tags d) p q r λd w=>s _ (l.lt (b.b d w)) U U U;refine⟨⟨ak,ak,ak,ak,n⟩,λf F c=>?_,ak,o,u⟩;have c:¬(f=i.c\/f=i.o\/f=i.l\/∃d∈all,d.id=f):=c;grind
def kX.aL(a:kX O i v all)(h:∀f H,O f=J H->E f=J H):kX E i v all:=by obtain⟨⟨L,Q,e,j,⟨k,l,M,H,b,c,d,g⟩,W⟩,ok,ord,us,u0⟩:=a;exact⟨⟨L,Q,e,j,⟨U,U,U,U,b,c,d,g⟩,W⟩,ok,ord,us,u0⟩
def kX.oc(a:kX O i v all):O i.c=J (.row 6 i.gc [i.row v]):=by obtain⟨⟨L,Q,e,j,b,W⟩,_⟩:=a;exact b.c
theorem kX.arV(b:kX O i v all)(k:v'.cf=v.cf)(c:E=am O i.c (J (.row 6 i.gc [i.row v']))):kX E i v' all:=by obtain⟨⟨L,Q,e,j,a,W⟩,ok,ord,us,u0⟩:=b;obtain⟨l,m,n⟩:=a.ne;obtain⟨o,p,M,H,d,f,g,h⟩:=a;subst c;exact⟨⟨L,Q,e,j,⟨Y,aj,aj,U,d,f,g,h⟩,W⟩,ok,ord,U,y⟩
theorem kY.refl{a:Nat}(c:kX O i v all)(d:Fr O t)(e:∀f,f<t->E f=O f)(hn:t<=a)(g:Fr E a):kY O E t a i v all all:=⟨c.aL λf H b=>(e f (d.lt b)).trans b,U,ak,hn,g⟩
theorem RM{num:Int}(g:kX O i v all)(hh:0<=v.heard/\v.heard<=4611686018427387904)(u:rQ K num refs tags)(C:num≠v.heard+1->∀c E,kY O E t c i v all all->R (.p (I 7)) E c)(F:num=v.heard+1->∀c E,kY O E t c i {v with heard:=num,floor:=if num>v.floor then num else v.floor} all (all.filter λd=> !mL num refs tags d)->R (.p (I 0)) E c):
 X af 27 [.ptr i.c i.gc 6 0 0,.p (.agg K)] O t R:=by
 refine X.of Y ap2 (by simp[D27]) λk=>?_;have n:=g.oc;have nc:=k.lt n;have w:i.c≠t:=y;have G:=u;obtain⟨⟨a,b,rfl,M,g2⟩,g3,g4,g5,g6⟩:=G;have o:D.cells (.p (.agg [I num,a,b]))=[.p (I num),.p a,.p b]:=rfl;have x:cI.wrap (v.heard+1)=v.heard+1:=iK y y;have z:cF [D.p (I num),.p a,.p b]=.p (.agg [I num,a,b]):=Y;by_cases p:num=v.heard+1;subst p;have o:D.cells (.p (.agg [I (v.heard+1),a,b]))=[.p (I (v.heard+1)),.p a,.p b]:=rfl;have z:cF [D.p (I (v.heard+1)),.p a,.p b]=.p (.agg [I (v.heard+1),a,b]):=ar;simp[D27,cN,o,n,w,CI.row,ba,binOp,aC,x,z];intro q M;refine WA (num:=v.heard+1) (refs:=refs) (tags:=tags) (g.aL λf H m=>(ai (by have:=k.lt m;omega)).trans m) u λc E r=>?_;obtain⟨A,B,ab,ac,s⟩:=r;have N:¬Lz i all t:=by rintro(h|h|h|⟨d,hx,h⟩);omega;obtain⟨⟨L,Q,e,j,l,W⟩,_⟩:=g;have:=k.lt l.o;omega;obtain⟨⟨L,Q,e,j,l,W⟩,_⟩:=g;have:=k.lt l.l;omega;obtain⟨⟨L,Q,e,j,l,W⟩,_⟩:=g;have:=k.lt (l.b d ak);omega
 have S:E t=J (.row 3 (q t) [[.p (I (v.heard+1)),.p a,.p b]]):=(B t y N).trans Y;have T:=A.oc;simp[aeA,S,T,CI.row,ba,bI,D.cells,P.cells,aJ];have U:=A.arV (v':={v with heard:=v.heard+1,floor:=if v.heard+1>v.floor then v.heard+1 else v.floor}) rfl rfl;have r:kY O _ t (c+6+1) i _ all _:=⟨U,λf k1 V=>(ai aj).trans ((B f y V).trans aj),ak,y,bK⟩;exact .d8 bK y (F rfl _ _ r);have m:(num !=v.heard+1)=aa:=by simp[p]
 simp[D27,cN,o,n,w,CI.row,ba,binOp,aC,x,m,p];intro q;have s:Fr (am O t (J (.row 3 (q t) [[.p (I num),.p a,.p b]]))) (t+2+8+1):=bK;refine .d8 s y (C y _ _ (.refl g k aj y s))
theorem apd{num:Int}(g:kX O i v all)(l:rQ K num refs tags)(q:num<=v.heard->∀a E,kY O E t a i v all all->R (.eQ []) E a)(r:v.heard<num->∀a E,kY O E t a i {v with floor:=if num>v.floor then num else v.floor} all (all.filter λd=> !mL num refs tags d)->R (.eQ []) E a):
 X af 32 [.ptr i.c i.gc 6 0 0,.p (.agg K)] O t R:=by refine X.of Y aox (by simp[D32]) λh=>?_;have j:=g.oc;have B:=h.lt j;have m:i.c≠t:=y;have s:=l;obtain⟨⟨b,c,rfl,C,F⟩,G,L,M,N⟩:=s;have n:D.cells (.p (.agg [I num,b,c]))=[.p (I num),.p b,.p c]:=rfl;have u:cF [D.p (I num),.p b,.p c]=.p (.agg [I num,b,c]):=Y;by_cases k:v.heard<num;simp[D32,cN,n,j,m,CI.row,ba,binOp,aC,u,k];intro o;refine WA (num:=num) (refs:=refs) (tags:=tags) (g.aL λf H p=>(ai (by have:=h.lt p;omega)).trans p) l λa E w=>?_;obtain⟨x,z,P,Q,e⟩:=w;refine .d8 e y (r k _ _ ⟨x,λf S A=>(z f y A).trans aj,ak,y,e⟩);simp[D32,cN,n,j,m,CI.row,ba,binOp,aC,k];intro o;have e:Fr (am O t (J (.row 3 (o t) [[.p (I num),.p b,.p c]]))) (t+1+7):=bK;exact .d8 e y (q y _ _ (.refl g h aj y e))
def afK:List aA:=[oN (xS 9 4 25),q 5 (gR aa)]
def afl:av:=z 9 (G 19 6::d5 20 19::oF 21 20 0::oL 22 1 21::q 23 (.ti 9 (.t 22) (.c aH))::cA 24 9 23::q 25 (oW 74 24)::afK) (.ret)
def D28:d6:=⟨26,[.cell 4 9 aa,.t 5],z 3 [q 3 (iU 0 3 1),q 4 (.alloc 1 9 [aF,aH,aH,aH,aH,aH,aF,aD,aD]),q 5 (gR Z)] (z 7 [G 7 0,d5 8 7,oF 9 8 4,oL 10 1 9,cA 11 3 3,q 12 (.sQ (.st [.s,.i,.i]) (.p (.v (.pointer ae))) Z (.t 10) (.t 11)),G 6 12] (.seq (z 2 [G 13 6,q 14 (.lP Z (.t 13) (.c (.v (.pointer ae))))] (.cond (.t 14) (z 3 [q 15 (.build [aF,aH,aH,aH,aH,aH,aF,aD,aD] []),oN (xS 9 4 15),q 5 (gR Z)] (.ret)) (.skip))) (z 3 [G 16 0,G 17 6,q 18 (dV 71 16 17)]
 afl)))⟩
def aob:cW af Tryz.f28=J D28:=h
def ae1:List aA:=[G 4 22,q 5 (gR aa)]
def aeO:av:=z 7 (G 18 6::d5 19 18::oF 20 19 0::oL 21 1 20::q 22 (oW 70 21)::ae1) (.ret)
def D36:d6:=⟨23,[.t 4,.t 5],z 2 [q 4 (.mv (.c aD)),q 5 (gR Z)] (z 7 [G 7 0,d5 8 7,oF 9 8 5,oL 10 1 9,G 11 1,q 12 (.sQ (.aM .s) (.p (.v (.pointer ae))) Z (.t 10) (.t 11)),G 6 12] (.seq (z 2 [G 13 6,q 14 (.lP Z (.t 13) (.c (.v (.pointer ae))))] (.cond (.t 14) (z 2 [q 4 (.mv (.c aD)),q 5 (gR Z)] (.ret)) (.skip))) (z 3 [G 15 0,G 16 6,q 17 (dV 71 15 16)]
 aeO)))⟩
def api:cW af Tryz.f36=J D36:=h
def CE.up(a:CE)(b:Int):CE:={a with used:=b}
def rP(b:List CE)(a:CE)(c:Int):List CE:=b.filter (λd=> !(d.id==a.id))++[a.up c]
def qc(a:CE)(c:Int)(b:CE):CE:=if b.id=a.id then a.up c else b
theorem Og{a:CE}{b:Int}:∀{M:List CE},(M.map (·.id)).Nodup->a∈M->(M.map (qc a b)).Perm (rP M a b)
 |[],_,c=>by cases c
 |y::M,d,c=>by
  simp only[bG,kQ,bN,not_exists,not_and]at d;by_cases g:y.id=a.id;have i:a=y:=by rcases bt.1 c with h|h;exact h;grind
  subst i;have j:M.map (qc a b)=M:=by
   conv=>rhs;rw[<-List.map_id M]
   refine iL λe f=>?_;simp[qc,d.1 e f]
  have k:M.filter (λy=> !(y.id==a.id))=M:=by rw[oG];intro e f;simp[d.1 e f]
  simp only[bG,j,rP,mc,Cx,BE,fN,dC,k];rw[show qc a b a=a.up b by simp[qc]];exact(IK _ _).symm;have l:a∈M:=by rcases bt.1 c with h|h;exact aj;exact h
  have m:(y.id==a.id)=Z:=U;simp only[bG,rP,mc,m,Bool.not_false,aT,kR];rw[show qc a b y=y by simp[qc,g]];exact(Og U l).cons y
def Cl(c:∀a∈M,a.id=d.id->a=d):(M.map (qc d ag)).map CE.kv=M.map CE.kv/\(M.map (qc d ag)).map (·.key)=M.map (·.key)/\(M.map (qc d ag)).map (·.born)=M.map (·.born)/\(M.map (qc d ag)).map (·.id)=M.map (·.id):=by
 have f:∀a∈M,(qc d ag a).kv=a.kv/\(qc d ag a).key=a.key/\(qc d ag a).born=a.born/\(qc d ag a).id=a.id:=by intro a b;unfold qc;split;rename_i e;have:=c a b e;subst this;exact⟨rfl,rfl,rfl,rfl⟩;simp
 refine⟨?_,?_,?_,?_⟩<;>(rw[mh];refine iL λa b=>?_);exact U;exact U;exact U;exact U
theorem sb.qc{i:P->Prop}{j:Nat}{b:List CE}(d:sb i j b){c:CE}{e:Int}(n:∀a∈b,a.id=c.id->a=c):sb i j (b.map (qc c e)):=by obtain⟨_,l,m,_⟩:=Cl n;refine⟨λa o=>?_,by rw[l];exact d.nk,λa o=>?_,by rw[m];exact d.nb⟩;have:a.key∈(b.map (Dl.qc c e)).map (·.key):=ak;rw[l]at this;obtain⟨f,g,h⟩:=bN.1 ar;rw[<-h];exact d.k f g;have:a.born∈(b.map (Dl.qc c e)).map (·.born):=ak;rw[m]at this;obtain⟨f,g,h⟩:=bN.1 ar;rw[<-h];exact d.lt f g
def LU.up{b:CE}(a:LU b)(c:Int):LU (b.up c):=⟨a.mi,a.ol,a.tags,a.tt,a.tl,a.ne⟩
theorem kX.pX(t:kX O i v all)(g:d∈all):kX (am (am O i.c (J (.row 6 i.gc [i.row {v with cf:=v.cf+1}]))) d.id (J (.row 4 d.g [(d.up (v.cf+1)).row]))) i {v with cf:=v.cf+1} (rP all d (v.cf+1)):=by
 obtain⟨⟨L,Q,e,j,n,W⟩,ok,ord,us,u0⟩:=t;obtain⟨G,u,o⟩:=n.ne;have p:=W.mem_iff.2 g;obtain⟨I,K,w⟩:=o d p;obtain⟨N,P,M,H,x,z,A,k⟩:=n;have l:=λa b c=>mA k a b d p c;have q:=λa b c=>l a (jx _ b) c;have r:=λa b c=>l a (mw _ b) c;obtain⟨B,_,_,_⟩:=Cl q;obtain⟨C,_,_,_⟩:=Cl r;obtain⟨_,_,_,D⟩:=Cl l;have E:=(W.map _).nodup_iff.1 k;refine⟨⟨L,Q,e.map (qc d (v.cf+1)),j.map (qc d (v.cf+1)),⟨(ai y).trans Y,by rw[B];exact aj,by rw[C];exact(ai (dB w)).trans ((ai (dB u)).trans M),λa b=>?_,x.qc q,z.qc r,A,by rw[<-cG,D];exact k⟩,by rw[<-cG];exact(W.map _).trans (Og E g)⟩,λa b=>?_,?_,λa b=>?_,aw⟩;rw[<-cG]at b;obtain⟨m,f,rfl⟩:=bN.1 b;unfold qc;split;exact bi;rename_i F;exact(ai F).trans ((ai (o m f).1).trans (H m f));rcases bg.1 b with h|h
 exact ok a (jB.1 h).1;rw[bD.1 h];exact(ok d g).up _;refine Bw.2 ⟨ord.sublist qJ,List.pairwise_singleton _ _,λa b m f=>?_⟩;rw[bD.1 f];have:=us a (jB.1 b).1;show a.used<v.cf+1;omega;show a.used<=v.cf+1;rcases bg.1 b with h|h
 have:=us a (jB.1 h).1;omega;rw[bD.1 h];exact u7 _
theorem E5{c:Nat}(b:jN cE f f=J aa)(e:∀d∈M,jN cE f d.key=J (yq f d))(j:(M.map (·.key)).Nodup):
 ((∀d∈M,d.key≠f)/\KP cE f (.map g c (M.map CE.kv))=J ae)\/∃d∈M,d.key=f/\KP cE f (.map g c (M.map CE.kv))=J (J (.ptr d.id d.g 4 0 0)):=by simp[KP,yQ b e];cases a:M.findIdx? (yq f) with|none=>grind|some h=>rw[ms]at a;obtain⟨i,W,_⟩:=a;rw[vK]at W;refine .inr ⟨M[h],Y,U,?_⟩;simp[i,CE.kv]
theorem alC{b:ByteArray}(r:kX O i v all)(hu:v.cf<=1000000)(P:(∀d∈all,d.key≠S b)->∀a E,kY O E t a i v all all->R (.eQ [.p nl,.p (B Z)]) E a)(T:∀d∈all,d.key=S b->∀a E aP bH,kY O E t a i {v with cf:=v.cf+1} all (rP all d (v.cf+1))->Sl 9 aP bH->jv jh bH d.ob->R (.eQ [.p aP,.p (B aa)]) E a):
 X af 36 [.ptr i.c i.gc 6 0 0,.p (S b)] O t R:=by
 refine X.of Y api (by simp[D36]) λk=>?_;have s:=r;obtain⟨⟨L,Q,e,j,u,W⟩,x,ax,us,u0⟩:=r;obtain⟨ay,aB,aE⟩:=u.ne;have V:=u;obtain⟨l,aI,M,H,Mo,z,ol,nd⟩:=V;have nc:=k.lt l;have aO:=k.lt M;have A:i.l<t+2:=y;rcases E5 (g:=i.gl) (c:=Q) (by simp[jN,tj]) (λC n=>Ky ⟨b,rfl⟩ (z.k C n)) z.nk with⟨aR,o⟩|⟨d,D,F,o⟩
 simp[D36,cN,l,CI.row,ba,M,uN,A,o,vr];refine .d8 bK y (P (λd D ab=>?_) _ _ (.refl s k U y bK));rcases bg.1 (W.mem_iff.2 D)with h|h
 obtain⟨e',aS,w,F⟩:=Mo.k d h;grind;exact aj;have ac:d∈e++j:=U;have m:=W.mem_iff.1 ac;have G:O d.id=J (.row 4 d.g [[.p d.mi,.p d.tags,.p (I d.at_),.p (I d.used)]]):=aj;have a0:=k.lt G;obtain⟨bH,hq,K⟩:=(x d m).mi;simp[D36,aeO,cN,l,CI.row,ba,M,uN,A,o,vr];refine Q4 y l G λa1 a2=>?_;have ad:=s.pX m;have p:(am (am O i.c (J (.row 6 i.gc [i.row {v with cf:=v.cf+1}]))) d.id (J (.row 4 d.g [[.p d.mi,.p d.tags,.p (I d.at_),.p (I (v.cf+1))]]))) d.id=J (.row 4 d.g [[.p d.mi,.p d.tags,.p (I d.at_),.p (I (v.cf+1))]]):=Y;have q:∀a,t<=a->kY O (am (am O i.c (J (.row 6 i.gc [i.row {v with cf:=v.cf+1}]))) d.id (J (.row 4 d.g [[.p d.mi,.p d.tags,.p (I d.at_),.p (I (v.cf+1))]]))) t a i {v with cf:=v.cf+1} all (rP all d (v.cf+1)):=λa hn=>⟨ad,λf k1 k2=>(ai (λab=>k2 (.inr ak))).trans (ai aj),λC n=>.inl (by rcases bg.1 n with h|h;grind;rw[bD.1 h];exact aj),hn,bK⟩
 revert p q;generalize (am (am O i.c (J (.row 6 i.gc [i.row {v with cf:=v.cf+1}]))) d.id (J (.row 4 d.g [[.p d.mi,.p d.tags,.p (I d.at_),.p (I (v.cf+1))]])))=O2;intro p q;simp[ae1,p,ba];refine BJ hq (by have:=K.length;have:=(x d m).ol;omega) K λag q' al a3 an ao=>?_;have N:=q ag y;exact .d8 N.fr y (T d m F _ _ q' al N an ao)
theorem kX.low(b:kX O i v all){a:Nat}(l:i.c<a)(m:i.o<a)(n:i.l<a)(o:∀d∈all,d.id<a)(p:∀f,f<a->E f=O f):kX E i v all:=by obtain⟨⟨L,Q,e,j,⟨q,r,M,H,c,g,h,k⟩,W⟩,ok,ord,us,u0⟩:=b;exact⟨⟨L,Q,e,j,⟨U,U,U,ak,c,g,h,k⟩,W⟩,ok,ord,us,u0⟩
def kX.H7(c:kX O i v all){a:Nat}(b:Fr O a):i.c<a/\i.o<a/\i.l<a/\∀d∈all,d.id<a:=by obtain⟨⟨L,Q,e,j,⟨f,g,M,H,k,l,m,n⟩,W⟩,ok,ord,us,u0⟩:=c;exact⟨b.lt f,b.lt g,b.lt M,λd h=>b.lt (H d (W.mem_iff.2 h))⟩
abbrev Rq:List P:=[S ⟨#[]⟩,I 0,I 0,I 0,I 0,I 0,S ⟨#[]⟩,nl,nl]
theorem LH{a:ByteArray}{l:Int}(hi:kX O i v all)(hu:v.cf<=1000000)(h1:(∀d∈all,d.key≠.agg [S a,I l,I w])->∀o E,kY O E t o i v all all->R (.eQ [.p (.agg Rq),.p (B Z)]) E o)(h2:∀d∈all,d.key=.agg [S a,I l,I w]->∀o E K m,kY O E t o i {v with cf:=v.cf+1} all (rP all d (v.cf+1))->jh K m->d.ob.head? =J m->R (.eQ [.p (.agg K),.p (B aa)]) E o):
 X af 28 [.ptr i.c i.gc 6 0 0,.p (.agg [S a,I l,I w])] O t R:=by
 refine X.of Y aob (by simp[D28]) λp=>?_;have A:=hi;obtain⟨⟨L,Q,e,j,hs,W⟩,ok,bm,us,u0⟩:=hi;obtain⟨bn,bo,bs⟩:=hs.ne;have aR:=hs;obtain⟨C,m,M,H,Mo,Ml,ol,nd⟩:=aR;have nc:=p.lt C;have no:=p.lt m;have al:i.o≠t:=y;have an:i.o≠t+1:=y;have ao:i.c≠t:=y;have ax:i.c≠t+1:=y;have c3:D.cells (.p (.agg [S a,I l,I w]))=[.p (S a),.p (I l),.p (I w)]:=rfl;have p3:cF [.p (S a),.p (I l),.p (I w)]=.p (.agg [S a,I l,I w]):=rfl;have F:cF [.p aF,.p (I 0),.p (I 0),.p (I 0),.p (I 0),.p (I 0),.p aF,.p aD,.p aD]=.p (.agg Rq):=rfl;have G:D.cells (.p (.agg Rq))=[.p aF,.p (I 0),.p (I 0),.p (I 0),.p (I 0),.p (I 0),.p aF,.p aD,.p aD]:=rfl;have N:t≠t+1:=y;have ay:i.o<t+3:=y;rcases E5 (g:=i.go) (c:=L) (by simp[jN,mX,tj]) (λP q=>J0 ⟨a,l,w,rfl⟩ (Mo.k P q)) Mo.nk with⟨bu,T⟩|⟨d,hx,V,T⟩
 simp[D28,cN,C,CI.row,ba,m,uN,ao,ax,al,an,T,vr,c3,p3,F,G,N,ay,bI];intro k;simp[fh,F,G,bI,N];have s:=((p.mono (by omega:t<=t+2)).am (id:=t) (b:=fg.row 3 (k t) [[.p (S a),.p (I l),.p (I w)]]) y).am (id:=t+1) (b:=fg.row 9 (k (t+1)) [[.p aF,.p (I 0),.p (I 0),.p (I 0),.p (I 0),.p (I 0),.p aF,.p aD,.p aD]]) y;refine .d8 bK y (h1 (λd hx a=>?_) _ _ (.refl A p aj y bK));rcases bg.1 (W.mem_iff.2 hx)with h|h
 exact aj;obtain⟨e',V⟩:=Ml.k d h;grind;have aS:d∈e++j:=U;have r:=W.mem_iff.1 aS;have ox:O d.id=J (.row 4 d.g [[.p d.mi,.p d.tags,.p (I d.at_),.p (I d.used)]]):=aj;have bB:=p.lt ox;obtain⟨bH,hq,hA⟩:=(ok d r).mi;simp[D28,afl,cN,C,CI.row,ba,m,uN,ao,ax,al,an,T,vr,c3,p3,F,G,N,ay,bI];intro k;have s:=((p.mono (by omega:t<=t+2)).am (id:=t) (b:=fg.row 3 (k t) [[.p (S a),.p (I l),.p (I w)]]) y).am (id:=t+1) (b:=fg.row 9 (k (t+1)) [[.p aF,.p (I 0),.p (I 0),.p (I 0),.p (I 0),.p (I 0),.p aF,.p aD,.p aD]]) y;have ab:∀f,f<t->am (am O t (J (.row 3 (k t) [[.p (S a),.p (I l),.p (I w)]]))) (t+1) (J (.row 9 (k (t+1)) [[.p aF,.p (I 0),.p (I 0),.p (I 0),.p (I 0),.p (I 0),.p aF,.p aD,.p aD]])) f=O f:=aj;have u:am (am O t (J (.row 3 (k t) [[.p (S a),.p (I l),.p (I w)]]))) (t+1) (J (.row 9 (k (t+1)) [[.p aF,.p (I 0),.p (I 0),.p (I 0),.p (I 0),.p (I 0),.p aF,.p aD,.p aD]])) (t+1)=J (.row 9 (k (t+1)) [[.p aF,.p (I 0),.p (I 0),.p (I 0),.p (I 0),.p (I 0),.p aF,.p aD,.p aD]]):=Y;revert s ab u;generalize bC:am (am O t (J (.row 3 (k t) [[.p (S a),.p (I l),.p (I w)]]))) (t+1) (J (.row 9 (k (t+1)) [[.p aF,.p (I 0),.p (I 0),.p (I 0),.p (I 0),.p (I 0),.p aF,.p aD,.p aD]]))=bA;intro s ab u;have a0:kX bA i v all:=A.aL λf H hb=>(ab f (p.lt hb)).trans hb;obtain⟨q1,q2,q3,q4⟩:=A.H7 p;have c1:bA i.c=J (.row 6 i.gc [i.row v]):=U;have a1:bA d.id=J (.row 4 d.g [[.p d.mi,.p d.tags,.p (I d.at_),.p (I d.used)]]):=ak;refine Q4 (i:=i) (v:=v) y c1 a1 λbL bM=>?_;have a2:=a0.pX r;have ac:(am (am bA i.c (J (.row 6 i.gc [i.row {v with cf:=v.cf+1}]))) d.id (J (.row 4 d.g [[.p d.mi,.p d.tags,.p (I d.at_),.p (I (v.cf+1))]]))) d.id=J (.row 4 d.g [[.p d.mi,.p d.tags,.p (I d.at_),.p (I (v.cf+1))]]):=Y;have ad:(am (am bA i.c (J (.row 6 i.gc [i.row {v with cf:=v.cf+1}]))) d.id (J (.row 4 d.g [[.p d.mi,.p d.tags,.p (I d.at_),.p (I (v.cf+1))]]))) (t+1)=J (.row 9 (k (t+1)) [[.p aF,.p (I 0),.p (I 0),.p (I 0),.p (I 0),.p (I 0),.p aF,.p aD,.p aD]]):=aj;have hR:∀o aB,t+2<=o->kY O (am (am (am bA i.c (J (.row 6 i.gc [i.row {v with cf:=v.cf+1}]))) d.id (J (.row 4 d.g [[.p d.mi,.p d.tags,.p (I d.at_),.p (I (v.cf+1))]]))) (t+1) (J aB)) t o i {v with cf:=v.cf+1} all (rP all d (v.cf+1)):=λo aB hn=>⟨a2.low q1 q2 q3 (λP q=>by rcases bg.1 q with h|h;grind;rw[bD.1 h];exact ar) aj,λf k1 k2=>(ai y).trans ((ai (λa=>k2 (.inr ak))).trans ((ai aj).trans U)),λP q=>.inl (by rcases bg.1 q with h|h;grind;rw[bD.1 h];exact⟨d,r,rfl⟩),y,(((s.mono y).am y).am y).am y⟩
 revert ac ad hR;generalize (am (am bA i.c (J (.row 6 i.gc [i.row {v with cf:=v.cf+1}]))) d.id (J (.row 4 d.g [[.p d.mi,.p d.tags,.p (I d.at_),.p (I (v.cf+1))]])))=O2;intro ac ad hR;have aE:=(ok d r).ne (by rw[V];rfl);have a3:∃K x m z,bH=K::x/\d.ob=m::z/\jh K m:=by generalize d.ob=ob at hA aE;cases hA with|nil=>exact absurd rfl aE|cons K m x z h _=>exact⟨K,x,m,z,rfl,rfl,h⟩
 obtain⟨K,x,o',z,rfl,a4,aI⟩:=a3;have a5:=aI;obtain⟨⟨q7,q8,a,h7,h8⟩,hc,hv,bO⟩:=a5;have h9:K.length=9:=by rw[a];simp[hc]
 have a6:K.take 9=K:=cp y;simp[ac,dm hq,ft,h9,a6];intro g1;refine IE aI λa9 n bR aO=>?_;have bb:=aO;obtain⟨⟨a7,a8,e2,b7,b8⟩,bd,_,_⟩:=bb;have aP:n.length=9:=by rw[e2];simp[bd]
 have be:D.cells (.p (.agg n))=n.map .p:=by simp[D.cells,dw]
 have bk:∀ag:List D,ag.length=9->bI ag (n.map .p) 0=n.map .p:=λag u=>by simp[bI,aP,rz,u]
 have W:cF (n.map D.p)=.p (.agg n):=jL;have bl:n.take 9=n:=cp y;simp[afK,ad,be,aP,bk,W,ba,<-cD,bl];have hr:=hR a9 (.row 9 (k (t+1)) [n.map .p]) y;exact .d8 hr.fr y (h2 d r V _ _ n o' hr aO (by rw[a4];rfl))
open Classical in
noncomputable def kr(a:P)(b:List CE):List CE:=b.filter λc=> !yq a c
theorem Aa(a:∀d∈M,d.key≠f):kr f M=M:=by unfold kr;rw[oG];intro d b;rw[P7.2 aj];rfl
def tL(b:d∈kr f M):d∈M/\d.key≠f:=by obtain⟨c,a⟩:=jB.1 b;refine⟨c,λe=>?_⟩;rw[vK.2 U]at a;cases a
theorem B1{a:List db}{b:db}(c:a.Nodup)(d:b∉a):(a++[b]).Nodup:=by grind
def CE.bo(a:CE)(b:Nat):CE:={a with born:=b}
theorem RB{e:Nat}(g:sb cg e M)(j:x0.key=f)(t:cg f)(u:jN cE f f=J aa)(v:∀d∈M,jN cE f d.key=J (yq f d))(p:Nat):
 ∃q bM H,Fv cE f (.ptr x0.id x0.g 4 0 0) (.map p e (M.map CE.kv))=J (.map p q (bM.map CE.kv))/\sb cg q bM/\bM.Perm (kr f M++[x0.bo H]):=by
 simp only[Fv,yQ u v];cases m:M.findIdx? (yq f) with
 |none=>
  rw[ui]at m;have r:∀d∈M,d.key≠f:=ak;refine⟨e+1,M++[x0.bo e],e,by simp[CE.kv,CE.bo,j],⟨λd c=>?_,?_,λd c=>?_,?_⟩,by rw[Aa r]⟩;rcases bg.1 c with c|c
  exact g.k d c;rw[bD.1 c];show cg x0.key;rw[j];exact t;rw[cG];refine B1 g.nk λn=>?_;obtain⟨b,h,i⟩:=bN.1 n;exact r b h (i.trans j);rcases bg.1 c with c|c
  have:=g.lt d c;omega;rw[bD.1 c];exact i0;rw[cG];refine B1 g.nb λn=>?_;obtain⟨b,h,i⟩:=bN.1 n;have s:=g.lt b h;have i:b.born=e:=i;omega
 |some l=>
  rw[ms]at m;obtain⟨E,W,_⟩:=m;rw[vK]at W;obtain⟨a,b,H,rfl,rfl⟩:∃a b H,M=a++b::H/\l=a.length:=by refine⟨M.take l,M[l],M.drop (l+1),?_,dK⟩;simp
  have h:f=b.key:=by simpa using W
  obtain⟨s,w,F,G⟩:=g;have o:=w;simp only[cG,bG]at o;rw[jW]at o;obtain⟨I,x,K⟩:=o;rw[kQ]at x;have y:∀k∈a,k.key≠f:=ak;have z:∀k∈H,k.key≠f:=ak;have A:(a++x0.bo b.born::H).map (·.key)=(a++b::H).map (·.key):=by simp only[cG,bG];rw[show(x0.bo b.born).key=b.key from j.trans h]
  have L:(a++x0.bo b.born::H).map (·.born)=(a++b::H).map (·.born):=by simp only[cG,bG];rfl
  refine⟨e,a++x0.bo b.born::H,b.born,?_,⟨λd c=>?_,ak,λd c=>?_,ak⟩,?_⟩;simp[CE.kv,CE.bo,j];have:d.key∈(a++x0.bo b.born::H).map (·.key):=ak;rw[A]at this;obtain⟨k,B,i⟩:=bN.1 ar;rw[<-i];exact s k B;have:d.born∈(a++x0.bo b.born::H).map (·.born):=ak;grind;have:kr f (a++b::H)=a++H:=by
   have C:kr f (a++b::H)=kr f a++kr f (b::H):=na ..;have D:kr f (b::H)=kr f H:=by unfold kr;rw[mc,vK.2 h];rfl
   rw[C,D,Aa y,Aa z]
  rw[this,jd];exact Bh _ (IK _ _).symm
def Pa(a:M.Perm bM):(kr f M).Perm (kr f bM):=a.filter _
def RS:kr f (M++bM)=kr f M++kr f bM:=na ..
theorem wV.pX(k:wV O i v L Q e j)(m:d∈e++j):wV (am (am O i.c (J (.row 6 i.gc [i.row {v with cf:=v.cf+1}]))) d.id (J (.row 4 d.g [(d.up (v.cf+1)).row]))) i {v with cf:=v.cf+1} L Q (e.map (qc d (v.cf+1))) (j.map (qc d (v.cf+1))):=by obtain⟨u,w,q⟩:=k.ne;obtain⟨x,z,A⟩:=q d m;obtain⟨c,o,M,H,Mo,Ml,ol,nd⟩:=k;have h:=λf a g=>mA nd f a d m g;have n:=λf a g=>h f (jx _ a) g;have p:=λf a g=>h f (mw _ a) g;obtain⟨r,_,_,_⟩:=Cl n;obtain⟨s,_,_,_⟩:=Cl p;obtain⟨_,_,_,t⟩:=Cl h;refine⟨(ai y).trans Y,by rw[r];exact aj,by rw[s];exact aj,λf a=>?_,Mo.qc n,Ml.qc p,ol,by rw[<-cG,t];exact nd⟩;rw[<-cG]at a;obtain⟨B,C,rfl⟩:=bN.1 a;unfold qc;split;exact bi;exact U
def tI(b:Int)(a:List CE):List CE:=if(a.length:Int)<=b then a else a.tail
theorem RH(e:M.Pairwise λd a=>d.used<a.used)(f:∀d∈M,d.used<=ag)(g:∀d∈M,w<=d.used)(b:w=ag+1\/∃d∈M,d.used=w):M.filter (λd=> !(d.used==w))=M.tail:=by
 cases M with
 |nil=>rfl
 |cons a M=>
  rw[List.pairwise_cons]at e;have h:=g a ja;have i:=f a ja;have c:a.used=w:=by rcases b with b|⟨d,j,c⟩;omega;grind
  rw[mc,c,Cx];show M.filter _=M;rw[oG];grind
theorem wV.aoX(q:wV O i v L Q e j)(K:∀N H,O N=J H->bA N=J H)(u:x0.key=f)(x:CF f)(y:x0.id≠i.c/\x0.id≠i.o/\x0.id≠i.l/\∀g∈e++j,g.id≠x0.id)(z:bA x0.id=J (.row 4 x0.g [x0.row])):
 ∃k bM H,Fv (.st [.s,.i,.i]) f (.ptr x0.id x0.g 4 0 0) (.map i.go L (e.map CE.kv))=J (.map i.go k (bM.map CE.kv))/\wV (am bA i.o (J (.map i.go k (bM.map CE.kv)))) i v k Q bM j/\(bM++j).Perm (kr f (e++j)++[x0.bo H]):=by
 obtain⟨P,R,T⟩:=q.ne;obtain⟨c,o,M,H,Mo,Ml,ol,nd⟩:=q;obtain⟨n,p,w,rfl⟩:=x;obtain⟨k,bM,r,A,B,C⟩:=RB Mo u ⟨n,p,w,rfl⟩ (by simp[jN,mX,tj]) (λg m=>J0 ⟨n,p,w,rfl⟩ (Mo.k g m)) i.go;have D:kr (.agg [S n,I p,I w]) j=j:=Aa λg m s=>by obtain⟨a,V⟩:=Ml.k g m;grind
 have W:(bM++j).Perm (kr (.agg [S n,I p,I w]) (e++j)++[x0.bo r]):=by rw[RS,D];refine(C.append_right j).trans ?_;rw[jd,jd];exact Bh _ List.perm_append_comm
 obtain⟨X,E,d3,F⟩:=y;refine⟨k,bM,r,A,⟨U,Y,aj,λd G=>?_,B,Ml,ol,?_⟩,W⟩;have:=W.mem_iff.1 G;rcases bg.1 ar with h|h
 have t:=(tL h).1;exact U;rw[bD.1 h];exact(ai E).trans z;rw[(W.map _).nodup_iff,cG];refine B1 (nd.sublist (qJ.map _)) λt=>?_;obtain⟨g,m,s⟩:=bN.1 t;exact F g (tL m).1 s
theorem wV.apU(n:wV O i v L Q e j)(G:∀N H,O N=J H->bA N=J H)(t:x0.key=f)(u:Fw f)(x:x0.id≠i.c/\x0.id≠i.o/\x0.id≠i.l/\∀g∈e++j,g.id≠x0.id)(y:bA x0.id=J (.row 4 x0.g [x0.row])):
 ∃k bM H,Fv (.aM .s) f (.ptr x0.id x0.g 4 0 0) (.map i.gl Q (j.map CE.kv))=J (.map i.gl k (bM.map CE.kv))/\wV (am bA i.l (J (.map i.gl k (bM.map CE.kv)))) i v L k e bM/\(e++bM).Perm (kr f (e++j)++[x0.bo H]):=by
 obtain⟨I,K,P⟩:=n.ne;obtain⟨c,o,M,H,Mo,Ml,ol,nd⟩:=n;obtain⟨p,rfl⟩:=u;obtain⟨k,bM,q,z,A,B⟩:=RB Ml t aj (by simp[jN,tj]) (λg m=>Ky aj (Ml.k g m)) i.gl;have C:kr (S p) e=e:=Aa λg m r=>by obtain⟨a,R,w,T⟩:=Mo.k g m;grind
 have W:(e++bM).Perm (kr (S p) (e++j)++[x0.bo q]):=by rw[RS,C,jd];exact Bh _ B
 obtain⟨V,X,D,E⟩:=x;refine⟨k,bM,q,z,⟨U,U,Y,λd F=>?_,Mo,A,ol,?_⟩,W⟩;have:=W.mem_iff.1 F;rcases bg.1 ar with h|h
 have s:=(tL h).1;exact U;rw[bD.1 h];exact(ai D).trans y;rw[(W.map _).nodup_iff,cG];refine B1 (nd.sublist (qJ.map _)) λs=>?_;obtain⟨g,m,r⟩:=bN.1 s;exact E g (tL m).1 r
def kX.put{g:ah}(k:wV g i v L Q e j)(W:(e++j).Perm (kr f all++[d]))(ok:∀a∈all,LU a)(l:LU d)(ord:all.Pairwise λd a=>d.used<a.used)(us:∀a∈all,a.used<=v.cf)(u0:0<=v.cf):
 kX (am (am g i.c (J (.row 6 i.gc [i.row {v with cf:=v.cf+1}]))) d.id (J (.row 4 d.g [(d.up (v.cf+1)).row]))) i {v with cf:=v.cf+1} (kr f all++[d.up (v.cf+1)]):=by
 have m:=W.mem_iff.2 (mw _ ja);have n:=k.nd;have c:=(W.map _).nodup_iff.1 n;have o:(e.map (qc d (v.cf+1))++j.map (qc d (v.cf+1))).Perm (kr f all++[d.up (v.cf+1)]):=by
  rw[<-cG];refine(W.map _).trans ((Og c Y).trans ?_);have p:(kr f all++[d]).filter (λa=> !(a.id==d.id))=kr f all:=by rw[na];have q:[d].filter (λa=> !(a.id==d.id))=[]:=Y;rw[q,BA,oG];intro a b;rw[cG,jW]at c;have:=c.2.2 a.id (xU b) d.id ja;have r:=jY.2 this;rw[r];rfl
  unfold rP;rw[p]
 refine⟨⟨L,Q,_,_,k.pX m,o⟩,λa b=>?_,?_,λa b=>?_,aw⟩;rcases bg.1 b with h|h
 exact ok a (tL h).1;rw[bD.1 h];exact l.up _;refine Bw.2 ⟨ord.sublist qJ,Y,λa b u t=>?_⟩;rw[bD.1 t];have:=us a (tL b).1;show a.used<v.cf+1;omega;show a.used<=v.cf+1;rcases bg.1 b with h|h
 have:=us a (tL h).1;omega;rw[bD.1 h];exact u7 _
theorem Se(k:kX O i v all)(F:v.cf<=1000000)(G:all.length<=1000000)(l:∀a E,kY O E t a i v all (tI v.size all)->R (.eQ []) E a):
 X af 72 [.ptr i.c i.gc 6 0 0] O t R:=by refine X.fr ⟨_,Qq,by rfl,by rfl⟩ λg=>?_;have m:=k;obtain⟨⟨L,Q,e,j,b,W⟩,H,n,o,p⟩:=m;have q:=W.length_eq;rw[List.length_append]at q;refine ahm b y y (λr a s=>l a O ?_) λr w a E I K u x h z A=>l a E ?_;rw[show tI v.size all=all from aU y];exact .refl k g U s bK;rw[show tI v.size all=all.filter (λd=> !(d.used==w)) from(ap y).trans (RH n o ak ak).symm];obtain⟨M,N,P⟩:=b.ne;have S:=b.X1 (λd=> !(d.used==w)) ((h _ (g.lt b.c) y y).trans b.c) u x λd B=>h _ (g.lt (b.b d B)) U U;refine⟨⟨ak,ak,ak,ak,p⟩,λf C c=>?_,ak,z,A⟩;have c:=c;exact h f C (λD=>c (.inr U)) λD=>c (.inr U)
end Go.Dl
