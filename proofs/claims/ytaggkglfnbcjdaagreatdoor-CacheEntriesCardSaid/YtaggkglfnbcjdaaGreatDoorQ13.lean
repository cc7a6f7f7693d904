import Derived.Test.YtaggkglfnbcjdaaGreatDoorQ12
set_option linter.all false
set_option maxRecDepth 1000000
set_option maxHeartbeats 40000000
namespace Go.Dl.Ai
end Go.Dl.Ai
namespace Go.Proofs
end Go.Proofs
namespace Ty
end Ty
open Bool renaming false->Z,true->aa
open Go.IntKind renaming i64->cI
open Go.Proofs.Tryz renaming prog->af
open Go.Value renaming oneCell'->aJ
open List renaming length_cons->ij,set_set->ze
open Option renaming none->ae,some->J
open Go Go.Dl Go.Dl.Ai
def mc:=@List.filter_cons
def rz:=@List.drop_of_length_le
def ui:=@List.findIdx?_eq_none_iff
variable {V bn E bX bC aP bu ag cU eZ fe fD db fk eJ eK m id aR i j g2 t:Nat}{bM K:ah}{aB bS:P}{N fE eV:Int}{w H:St}{dT:cR}{fq r:List P}{bA:D->ah->Nat->Prop}{p:List P->Bool}{bB aS bT Q bH cg fw:List (List P)}{be cT:ByteArray}{bO:Exit->St->Prop}{dH:List (List D)}{cE bZ:D}{cJ:Bool}{fU fX:Type}{fJ:List D}
namespace Go.Dl
open Go.Proofs Go.Dl.Ai
def Xd:List aA:=[G 27 35,q 36 (xE 27 0),q 37 (xE 27 1),G 7 36,G 8 37]
def Xz:av:=.dg 2 Z [q 58 (di .add 42 1),G 42 58]
def XO:av:=
 .seq (.dg 1 Z [q 43 (xB .lss 42 41)]) (.seq (.cond (.t 43) (.skip) (.exit 2)) (.seq (.block 3 (.seq (.dg 4 Z [q 44 (xI 5 40 42),cA 45 5 44,q 10 (.alloc 2 5 [aF,aF,aH,aF,dZ]),oN (xS 5 10 45)]) (.seq (.dg 7 Z [oF 46 10 1,oL 47 1 46,G 48 5,d5 49 48,oF 50 49 0,oL 51 1 50,q 52 (xB .eql 47 51)]) (.cond (.t 52) (.dg 6 Z [G 53 6,oF 54 10 0,oL 55 1 54,q 56 (.bQ 3 1 1 [aF] [(0,.t 55)]),q 57 (jE 4 1 16 53 56),G 6 57]) (.skip)))))
  Xz))
def apj:av:=.block 2 (.loop XO)
def Y8:List aA:=[fR 61 0]
def ET:List aA:=[q 71 (xI 1 66 70),oL 72 1 71,q 73 (.bQ 7 1 1 [aF] [(0,.t 72)]),G 11 73]
def Uw:List aA:=[q 79 (xI 1 74 78),oL 80 1 79,G 12 80]
def NN:List aA:=[q 89 (jw 86 88)]
def Mj:av:=.cond (.t 89) (.dg 5 Z [G 90 11,G 91 12,q 92 (.bQ 2 1 1 [aF] [(0,.t 91)]),q 93 (jE 3 1 16 90 92),G 11 93]) (.skip)
def I7:av:=
 .seq (.dg 9 Z (G 81 12::G 82 11::q 83 (.ti 1 (.t 82) (.c aH))::oL 84 1 83::q 85 (xB .neq 81 84)::G 86 85::oT 87 86 (xM 0)::oT 88 86 (.call 7 [.t 87,.c (I 2)])::NN))
  Mj
def IN:av:=.cond (.t 95) (.dg 11 Z [G 96 5,G 97 5,d5 98 97,oF 99 98 8,oL 100 1 99,G 101 11,q 102 (.bQ 6 1 1 [aD] [(0,.t 101)]),q 103 (jE 7 1 24 100 102),d5 104 96,oF 105 104 8,oN (xS 1 105 103)]) (.dg 11 Z [G 106 5,G 107 5,d5 108 107,oF 109 108 9,oL 110 1 109,G 111 11,q 112 (.bQ 6 1 1 [aD] [(0,.t 111)]),q 113 (jE 7 1 24 110 112),d5 114 106,oF 115 114 9,oN (xS 1 115 113)])
def NJ:av:=
 .seq (.dg 2 Z [G 94 0,q 95 (.call 7 [.t 94,.c (I 2)])])
  IN
def EX:av:=
 .seq (.seq (.dg 8 Z (G 74 6::G 75 0::G 76 6::q 77 (fQ 76)::q 78 (.call 19 [.t 75,.t 77])::Uw))
  I7)
  NJ
def Ui:av:=.dg 2 Z [q 116 (di .add 61 1),G 61 116]
def Xj:av:=
 .seq (.dg 1 Z [q 62 (xB .lss 61 60)]) (.seq (.cond (.t 62) (.skip) (.exit 4)) (.seq (.block 5 (.seq (.seq (.dg 3 Z [G 63 6,q 64 (fQ 63),q 65 (di .eql 64 0)]) (.cond (.t 65) (.exit 5) (.skip))) (.seq (.dg 9 Z (G 66 6::G 67 0::G 68 6::q 69 (fQ 68)::q 70 (.call 19 [.t 67,.t 69])::ET))
  EX)))
  Ui))
def apF:av:=.block 4 (.loop Xj)
def QG:av:=
 .seq (.dg 3 Z (G 59 0::q 60 (.call 19 [.t 59,.c (I 3)])::Y8))
  apF
def MH:av:=
 .seq (.seq (.dg 5 Z [G 38 7,G 39 8,q 40 (jE 2 5 64 38 39),q 41 (fQ 40),fR 42 0])
  apj)
  QG
def R8:av:=.dg 2 Z [q 117 (di .add 18 1),G 18 117]
def XK:av:=
 .seq (.dg 1 Z [q 19 (xB .lss 18 17)]) (.seq (.cond (.t 19) (.skip) (.exit 0)) (.seq (.block 1 (.seq (.dg 2 Z [G 20 18,G 4 20]) (.seq (.dg 7 Z [G 21 1,d5 22 21,oF 23 22 1,oL 24 1 23,G 25 4,q 26 (xI 10 24 25),G 5 26]) (.seq (.dg 1 Z [q 6 (.mv (.c aD))]) (.seq (.dg 13 Z (G 28 1::d5 29 28::cA 30 2 29::G 31 5::d5 32 31::oF 33 32 0::oL 34 1 33::q 35 (.call 53 [.t 30,.t 34])::Xd))
  MH)))))
  R8))
def D44:d6:={n:=118,rs:=[],body:=(.seq (.dg 6 Z [G 13 1,d5 14 13,oF 15 14 1,oL 16 1 15,q 17 (fQ 16),fR 18 0]) (.block 0 (.loop XK)))}
def aoP:cW af Tryz.f44=J D44:=h
structure zo(sid sg nx im gm idE gE n:Nat)(O1:ah)(ep:P)(N:Int)(s:St):Prop where
 h0:s.T 0=.ptr sid sg 2 0 0
 h1:s.T 1=.ptr im gm 2 0 0
 VN:s.T 17=.p (I n)
 om:s.O im=J (.row 2 gm [[.p ep,.sl idE gE 0 n 10 Z]])
 str:fV sid sg N s.O
 gp:nx<=s.nx
 fr:Fr s.O s.nx
 low:∀k,k<nx->k≠sid->k≠idE->s.O k=O1 k
 nN:sid<nx/\im<nx/\idE<nx
 qK:sid≠idE/\sid≠im/\im≠idE
theorem zo.aL(a:zo V bn E bX bC aP bu ag bM aB N w)(c:∀t,t=0\/t=1\/t=17->H.T t=w.T t)(d:fV V bn fE H.O)(e:∀t,t<E->t≠V->t≠aP->H.O t=w.O t)(f:w.nx<=H.nx)(b:Fr H.O H.nx):zo V bn E bX bC aP bu ag bM aB fE H:=by obtain⟨h0,h1,VN,om,str,gp,fr,low,nN,qK⟩:=a;exact⟨U,U,U,ak,ar,y,b,U,nN,qK⟩
def zo.next(a:zo V bn E bX bC aP bu ag bM aB N w)(d:N<=fE)(e:∀t,t=0\/t=1\/t=17->H.T t=w.T t)(b:H.O=w.O)(c:w.nx<=H.nx):zo V bn E bX bC aP bu ag bM aB fE H:=a.aL e (by rw[b];exact a.str.mono d) U c (by rw[b];exact a.fr.mono c)
theorem ah5{c:St->Prop}{a:P}(g:Fr w.O w.bs)(h:w.bs+eZ<w.nx)(i:w.bs+fk<w.nx)(j:w.T fD=.p a)(W:a.cells=[a])(k:de w.O m 1 (aW bB) (w.T eJ))(l:m<=w.bs)(n:eZ≠fk)(o:cU≠eJ)(x:eK≠db)(z:cU≠db)(A:bB.length<=1000)(p:fe<=1000)(q:∀H,de H.O m 1 (aW (bB++[[a]])) (H.T eK)->(∀t,t≠cU->t≠db->t≠eK->H.T t=w.T t)->(∀t b,w.O t=J b->(∀aR bB,w.T eJ≠.sl t aR 0 bB 1 Z)->H.O t=J b)->(∀t,t<m->H.O t=w.O t)->H.nx=w.nx->Fr H.O w.nx->c H):
 eN dT [⟨J cU,.bQ eZ 1 1 fq [(0,.t fD)],ae,Z⟩,⟨J db,.j4 fk 1 fe (.t eJ) (.t cU),ae,Z⟩,⟨J eK,.mv (.t db),ae,Z⟩] w c:=by
 have d:(bB.length+1)*fe<=1001*1000:=BB y p;show eN dT ([⟨J cU,.bQ eZ 1 1 fq [(0,.t fD)],ae,Z⟩,⟨J db,.j4 fk 1 fe (.t eJ) (.t cU),ae,Z⟩]++[⟨J eK,.mv (.t db),ae,Z⟩]) w c;rw[iX];refine wj g h i j (by simp[D.cells,W]) rfl k l n o dK dK λB M C e r s u v E F=>?_;simp only[eM,j6,mZ,iF,dR];refine q _ ?_ (λt G I K=>?_) (λt b d L=>s t b d λid aR f=>?_) u rfl v;have f:D.cells (.p a)=[a].map D.p:=by simp[D.cells,W]
 rw[f,<-uZ]at e;simpa[r]using e;exact U;grind
structure IQ(sid sg nx im gm idE gE n:Nat)(O1:ah)(ep:P)(N:Int)(i:Nat)(RR:List (List D))(rows own:List (List P))(s:St):Prop where
 c:zo sid sg nx im gm idE gE n O1 ep N s
 h5:s.T 5=.ptr idE gE 10 i 0
 h18:s.T 18=.p (I i)
 oE:s.O idE=J (.row 10 gE RR)
 L40:de s.O nx 5 (aW rows) (s.T 40)
 h41:s.T 41=.p (I rows.length)
 L6:de s.O nx 1 (aW own) (s.T 6)
 names:∀r∈own,∃a:ByteArray,r=[S a]/\a.size<=300
theorem de.wid{d a:Nat}{e f:List (List D)}{b c:D}(g:de K m ag e b)(h:de K d a f c)(o:ag≠a){i j k:Nat}(l:b=.sl id aR 0 j ag Z):c≠.sl id i 0 k a Z:=by intro n;have p:=(g.low l).2;have q:=(h.low n).2;grind
theorem ahl{b c:Nat}{e:List D}{own:List (List P)}(f:w.T 10=.ptr b c 5 0 0)(g:w.O b=J (.row 5 c [.p (S be)::e]))(s:de w.O m 1 (aW own) (w.T 6))(h:own.length<=1000)(i:m<=w.nx)(j:Fr w.O w.nx)(k:∀H,de H.O m 1 (aW (own++[[S be]])) (H.T 6)->(∀t,t<53->t≠6->H.T t=w.T t)->(∀t d,w.O t=J d->(∀aR bB,w.T 6≠.sl t aR 0 bB 1 Z)->H.O t=J d)->(∀t,t<m->H.O t=w.O t)->w.nx<=H.nx->Fr H.O H.nx->bO .normal H):
 bx dT (.dg 6 Z [G 53 6,oF 54 10 0,oL 55 1 54,q 56 (.bQ 3 1 1 [aF] [(0,.t 55)]),q 57 (jE 4 1 16 53 56),G 6 57]) w bO:=by
 show bx dT (.dg 6 Z ([G 53 6,oF 54 10 0,oL 55 1 54]++[q 56 (.bQ 3 1 1 [aF] [(0,.t 55)]),q 57 (jE 4 1 16 53 56),G 6 57])) w bO;rw[dD];intro bC;rw[iX];have l:∀bA:St->Prop,(∀a,(∀t,t<53->a t=w.T t)->a 53=w.T 6->a 55=.p (S be)->bA {T:=a,O:=w.O,nx:=w.nx+6,bs:=w.nx,gm:=bC})->eN dT [G 53 6,oF 54 10 0,oL 55 1 54] {w with bs:=w.nx,nx:=w.nx+6,gm:=bC} bA:=by intro bA n;simp[f,g];refine n _ (λt u=>?_) Y Y;simp[bP];repeat grind
 refine l _ λa v x o=>?_;refine ah5 j aw aw o rfl U i y y y y h y λH p z A r B C=>?_;refine k H p ak U r U U
theorem acC{own:List (List P)}{nm:ByteArray}{r0:List D}(hs:IQ V bn E bX bC aP bu ag bM aB N i dH aS own w)(A:w.T 42=.p (I j))(a0:own.length<=j)(F:dH[i]? =J (.p (S nm)::r0))(ax:∀r∈aS,V6 r)(hl:aS.length<=200)(n:j<aS.length)(K:∀H L,IQ V bn E bX bC aP bu ag bM aB N i dH aS L H->H.T 42=.p (I j)->L.length<=j+1->bO .normal H):
 bx (X af) (.seq (.dg 4 Z [q 44 (xI 5 40 42),cA 45 5 44,q 10 (.alloc 2 5 [aF,aF,aH,aF,dZ]),oN (xS 5 10 45)]) (.seq (.dg 7 Z [oF 46 10 1,oL 47 1 46,G 48 5,d5 49 48,oF 50 49 0,oL 51 1 50,q 52 (xB .eql 47 51)]) (.cond (.t 52) (.dg 6 Z [G 53 6,oF 54 10 0,oL 55 1 54,q 56 (.bQ 3 1 1 [aF] [(0,.t 55)]),q 57 (jE 4 1 16 53 56),G 6 57]) (.skip)))) w bO:=by
 obtain⟨c,M,a1,s,Q,a2,L6,names⟩:=hs;have nE:=c.fr.lt s;have a3:=c.nN;have a4:=c.gp;obtain⟨be,a,d,e,f,R,ha⟩:=ax _ (bJ n);have W:(aW aS)[j]? =J ([S be,S a,I d,S e,B f].map D.p):=by simp[aW,n,R]
 have a5:(j:Int)<aS.length:=y;obtain⟨id,aR,a6,ab,u⟩:∃id aR,E<=id/\w.T 40=.sl id aR 0 aS.length 5 Z/\w.O id=J (.row 5 aR (aW aS)):=by rcases Q.sl with⟨h,_⟩|h;grind;exact ar
 have a7:=c.fr.lt u;generalize hC:(av.dg 6 Z [G 53 6,oF 54 10 0,oL 55 1 54,q 56 (.bQ 3 1 1 [aF] [(0,.t 55)]),q 57 (jE 4 1 16 53 56),G 6 57])=C;have ac:∀(b k:Nat->Nat) (m:Nat->D) (v ad:Nat),w.nx+4<=v->(∀t,t<44->t≠10->m t=w.T t)->∀s1:St,s1={T:=m,O:=am w.O (w.nx+2) (J (.row 5 (b (w.nx+2)) [[.p (S be),.p (S a),.p (I d),.p (S e),.p (B f)]])),nx:=v,bs:=ad,gm:=k}->IQ V bn E bX bC aP bu ag bM aB N i dH aS own s1/\s1.T 42=.p (I j):=by intro b k m v ad hn hT s1 x;subst x;have a8:∀t z,w.O t=J z->am w.O (w.nx+2) (J (.row 5 (b (w.nx+2)) [[.p (S be),.p (S a),.p (I d),.p (S e),.p (B f)]])) t=J z:=λt z g=>(ai (by have:=c.fr.lt g;omega)).trans g;refine⟨⟨c.aL ak (c.str.aL (ai y)) (λt k1 o k3=>ai y) aw (((c.fr.mono y).am y).mono hn),U,U,U,?_,U,?_,U⟩,U⟩;show de _ E 5 _ (m 40);rw[hT 40 y y];exact Q.gM U;show de _ E 1 _ (m 6);rw[hT 6 y y];exact L6.gM U
 have a9:id≠w.nx+2:=y;have al:cF [.p (S be),.p (S a),.p (I d),.p (S e),.p (B f)]=.p (.agg [S be,S a,I d,S e,B f]):=jL (l:=[S be,S a,I d,S e,B f]);by_cases g:(a.toList==nm.toList)=aa;simp(disch:=omega)[-az,A,ab,ba,u,W,n,al,bI,D.cells,P.cells,aJ,dw,M,s,F,binOp,gD,g];intro b k;subst hC;have ay:∀s1:St,IQ V bn E bX bC aP bu ag bM aB N i dH aS own s1->s1.T 42=.p (I j)->s1.T 10=.ptr (w.nx+2) (b (w.nx+2)) 5 0 0->s1.O (w.nx+2)=J (.row 5 (b (w.nx+2)) [[.p (S be),.p (S a),.p (I d),.p (S e),.p (B f)]])->bx (X af) (.dg 6 Z [G 53 6,oF 54 10 0,oL 55 1 54,q 56 (.bQ 3 1 1 [aF] [(0,.t 55)]),q 57 (jE 4 1 16 53 56),G 6 57]) s1 bO:=by intro s1 x bb aE aI;obtain⟨p,bd,bk,bl,an,bm,ao,bo⟩:=x;refine ahl aE aI ao y p.gp p.fr λs2 l2 t2 o m2 n2 f2=>?_;refine K s2 _ ⟨p.aL ak (p.str.aL U) U n2 f2,U,U,U,?_,U,l2,λr R=>?_⟩ U U;rw[t2 40 y y];refine an.gM λid aR e1 _ g=>o id _ g λaR bB=>?_;exact an.wid ao y e1;grind
 refine ay _ (ac b k _ _ _ y (λt k1 o=>?_) _ rfl).1 ar Y Y;exact cj;have aO:(a.toList==nm.toList)=Z:=by simpa using g
 simp(disch:=omega)[-az,A,ab,ba,u,W,n,al,bI,D.cells,P.cells,aJ,dw,M,s,F,binOp,gD,aO];intro b k;refine K _ own (ac b k _ _ _ y (λt k1 o=>?_) _ rfl).1 ar y;exact cj
theorem ael{nm:ByteArray}{r0:List D}(a:IQ V bn E bX bC aP bu ag bM aB N i dH aS [] w)(e:w.T 42=.p (I 0))(m:dH[i]? =J (.p (S nm)::r0))(z:∀r∈aS,V6 r)(n:aS.length<=200)(o:∀H own,IQ V bn E bX bC aP bu ag bM aB N i dH aS own H->own.length<=200->bO (.exit 2) H):
 bx (X af) (.loop XO) w bO:=by
 refine⟨λt w=>∃j:Nat,t=aS.length-j/\j<=aS.length/\w.T 42=.p (I (j:Int))/\∃own,IQ V bn E bX bC aP bu ag bM aB N i dH aS own w/\own.length<=j,⟨_,0,rfl,y,e,[],a,Y⟩,?_⟩;clear a e;rintro t w ⟨j,rfl,A,e,own,a,p⟩;have q:=lW (i:=j) y;refine lX e a.h41 (λC f=>?_) λF f=>?_;rw[bF,gQ];have s:IQ V bn E bX bC aP bu ag bM aB N i dH aS own {w with T:=eF w.T 43 (.p (B aa)),nx:=w.nx+1,bs:=w.nx,gm:=f}:=by obtain⟨b,c,g,d,h,k,l,names⟩:=a;exact⟨b.next y cj rfl aw,by simp[c],ar,d,ar,ar,ar,U⟩
 refine acC s ar p m U n y λs2 u v x G=>?_;show bx _ Xz s2 _;simp only[Xz,dD,eM,j6,sI,mZ,iF,zA,x,binOp,aC,dR,q];intro K;obtain⟨b,c,g,d,h,k,l,names⟩:=v;refine⟨Y,_,?_,j+1,rfl,y,Y,u,⟨b.next y (λt L=>?_) rfl aw,by simp[c],ar,d,ar,ar,ar,U⟩,y⟩;omega;exact cj;obtain⟨b,c,g,d,h,k,l,names⟩:=a;exact o _ own ⟨b.next y cj rfl aw,by simp[c],ar,d,ar,ar,ar,U⟩ y
theorem Rg{a off:Nat}{b:List D}{c:D}(hb:12<=a)(r:w.T 5=.ptr aP bu 10 i 0)(s:w.T 11=.p bS)(u:bS.cells=[bS])(v:w.O aP=J (.row 10 bu dH))(k:dH[i]? =J b)(ag:b.length=10)(l:b[off]? =J c)(al:off<10)(n:de w.O m 1 (aW bT) c)(x:Fr w.O w.nx)(z:m<=w.nx)(hl:bT.length<=1000)(hE:aP<m)(A:∀H d,H.O aP=J (.row 10 bu (dH.set i (b.set off d)))->de H.O m 1 (aW (bT++[[bS]])) d->(∀t,t<a->H.T t=w.T t)->(∀t,t<m->t≠aP->H.O t=w.O t)->(∀t h,t≠aP->w.O t=J h->(∀aR bB,c≠.sl t aR 0 bB 1 Z)->H.O t=J h)->w.nx<=H.nx->Fr H.O H.nx->(∀id aR bB,d=.sl id aR 0 bB 1 Z->w.nx<=id\/∃o B,c=.sl id o 0 B 1 Z)->bO .normal H):
 bx dT (rF 11 ([⟨(J a),.mv (.t 5),ae,Z⟩,⟨(J (a+1)),.mv (.t 5),ae,Z⟩,⟨(J (a+2)),.lY (.t (a+1)),ae,Z⟩,⟨(J (a+3)),.fa (.t (a+2)) off,ae,Z⟩,⟨(J (a+4)),.load 1 Z (.t (a+3)) Z,ae,Z⟩,⟨(J (a+5)),.mv (.t 11),ae,Z⟩]++([⟨(J (a+6)),.bQ 6 1 1 [aD] [(0,(.t (a+5)))],ae,Z⟩,⟨(J (a+7)),.j4 7 1 24 (.t (a+4)) (.t (a+6)),ae,Z⟩]++[⟨(J (a+8)),.lY (.t a),ae,Z⟩,⟨(J (a+9)),.fa (.t (a+8)) off,ae,Z⟩,oN (.store 1 (.t (a+9)) (.t (a+7)))]))) w bO:=by
 letI:Gh:=jo;rw[dD];intro bC;rw[iX];have nE:=y;have an:(b.drop off).head? =J c:=by rw[List.head?_drop];exact l
 have C:∀bA:St->Prop,(∀f,(∀t,t<a->f t=w.T t)->f a=.ptr aP bu 10 i 0->f (a+4)=c->f (a+5)=.p bS->bA {T:=f,O:=w.O,nx:=w.nx+11,bs:=w.nx,gm:=bC})->eN dT [⟨(J a),.mv (.t 5),ae,Z⟩,⟨(J (a+1)),.mv (.t 5),ae,Z⟩,⟨(J (a+2)),.lY (.t (a+1)),ae,Z⟩,⟨(J (a+3)),.fa (.t (a+2)) off,ae,Z⟩,⟨(J (a+4)),.load 1 Z (.t (a+3)) Z,ae,Z⟩,⟨(J (a+5)),.mv (.t 11),ae,Z⟩] {w with bs:=w.nx,nx:=w.nx+11,gm:=bC} bA:=by intro bA E;have F:5≠a:=y;have G:11≠a:=y;have p:11≠a+1:=y;have I:11≠a+2:=y;have K:11≠a+3:=y;have L:11≠a+4:=y;simp[r,s,v,ba,k,l,bP,F,G,p,I,K,L];refine E _ (λt e=>?_) Y Y Y;simp only[bP];repeat grind
 refine C _ λT2 t1 t2 N P=>?_;rw[iX];have ao:∀id aR bB,c=.sl id aR 0 bB 1 Z->aP≠id:=λid aR bB j=>by rintro rfl;have:=(n.low j).2;grind
 have Q:D.cells (.p bS)=[.p bS]:=by simp[D.cells,u]
 refine wj x aw aw P U N n z y y dK dK λd M R g S q3 q4 V q6 q7=>?_;have W:M aP=J (.row 10 bu dH):=U;have X:R a=.ptr aP bu 10 i 0:=U;have ab:=g.cell;have ac:bI b [d] off=b.set off d:=by rw[List.set_eq_take_append_cons_drop,aU y];simp[bI]
 have b1:a+7≠a+9:=y;have b2:a+7≠a+8:=y;have ad:off+1<=b.length:=y;simp(disch:=omega)[X,W,S,ab,k,ac,ad,bP];refine A _ d Y ?_ (λt e=>?_) U (λt h k1 ax e=>(ai k1).trans ak) aw (λt e=>?_) λid aR bB j=>?_;rw[Q,show [D.p bS]=[bS].map D.p from rfl,<-uZ]at g;exact g.gM λid aR j h1 h2=>(ai y).trans h2;simp only[bP];grind;have e:w.nx+11<=t:=e;exact(ai y).trans (V t e);have p:bB=(aW bT++[D.cells (.p bS)]).length:=by rcases g with⟨q,_⟩|⟨ay,o,_,q,_⟩;simp at q;grind
 grind
structure yl(sid sg nx im gm idE gE n:Nat)(O1:ah)(ep:P)(N:Int)(i:Nat)(es:List (List P))(A:List P)(own u x:List (List P))(dU dX:D)(s:St):Prop where
 c:zo sid sg nx im gm idE gE n O1 ep N s
 h5:s.T 5=.ptr idE gE 10 i 0
 h18:s.T 18=.p (I i)
 h6:∃po,s.T 6=.p po/\Sl 1 po own
 oE:s.O idE=J (.row 10 gE ((aW es).set i (A.map D.p++[dU,dX])))
 Lu:de s.O nx 1 (aW u) dU
 Lx:de s.O nx 1 (aW x) dX
 dj:∀id g l g' l',dU=.sl id g 0 l 1 Z->dX≠.sl id g' 0 l' 1 Z
 nu:∀r∈u,Dx r
 nX:∀r∈x,Dx r
 hA:A.length=8
 hi:i<es.length
theorem yl.aL{b e f h i g j k:Nat}{l:ah}{m:P}{w n:Int}{o:Nat}{p:List (List P)}{A:List P}{own q r:List (List P)}{s u:D}{d a:St}(x:yl b e f h i g j k l m w o p A own q r s u d)(C:∀t,t<20->t≠11->t≠12->a.T t=d.T t)(E:fV b e n a.O)(y:∀t v,t≠b->d.O t=J v->a.O t=J v)(F:∀t,t<f->t≠b->a.O t=d.O t)(z:d.nx<=a.nx)(B:Fr a.O a.nx):yl b e f h i g j k l m n o p A own q r s u a:=by obtain⟨c,h5,h18,⟨G,h6,H⟩,oE,Lu,Lx,dj,nu,nX,hA,hi⟩:=x;have I:=c.nN;exact⟨c.aL ak ar U z B,U,U,U,y g _ (dB c.qK.1) oE,Lu.gM ak,Lx.gM ak,dj,nu,nX,hA,hi⟩
structure DJ(sid sg nx im gm idE gE n:Nat)(O1:ah)(ep:P)(N:Int)(i:Nat)(es:List (List P))(A:List P)(own u x:List (List P))(dU dX:D)(l:List (List P))(s:St):Prop where
 b:yl sid sg nx im gm idE gE n O1 ep N i es A own u x dU dX s
 L11:de s.O nx 1 (aW l) (s.T 11)
 d11:∀id g k g' k',s.T 11=.sl id g 0 k 1 Z->dU≠.sl id g' 0 k' 1 Z/\dX≠.sl id g' 0 k' 1 Z
 nl:∀r∈l,∃a:ByteArray,r=[S a]/\a.size<=300
theorem adY{A:List P}{own:List (List P)}(F:0<=N/\N<=4611686018424000000)(a:yl V bn E bX bC aP bu ag bM aB N i Q A own bT bH cE bZ w)(I:1<=own.length)(K:own.length<=1000)(m:∀r∈own,∃be:ByteArray,r=[S be]/\be.size<=300)(n:∀H be,DJ V bn E bX bC aP bu ag bM aB (N+1) i Q A own bT bH cE bZ [[S be]] H->(∀t,t<63->t≠11->H.T t=w.T t)->bO .normal H):
 bx (X af) (rF 9 (G 66 6::G 67 0::G 68 6::q 69 (fQ 68)::q 70 (dV 19 67 69)::ET)) w bO:=by
 letI:Gh:=jo;obtain⟨L,o,f⟩:=a.h6;have p:=a.c.h0;have M:=a.c.nN;have O:=a.c.gp;have g:=a.c.fr;rw[dD];intro s;simp[o,p,dO f];refine vR y y a.c.str y y λu t R T v W x z=>?_;obtain⟨t,rfl⟩:=kg v;have b:t<own.length:=y;obtain⟨be,B,ab⟩:=m _ (bJ b);have C:own[t]? =J [S be]:=by simp[b,B]
 simp[ET,-wd,dm f,C];refine yB (by simp[D.cells,P.cells,aJ]) ?_;simp[D.cells,P.cells,aJ];have h:∀t c,w.O t=J c->t<w.nx:=λt c j=>g.lt j;refine n _ be ⟨a.aL (λt d k k3=>?_) (z.aL (ai y)) (λt c d j=>(ai ak).trans U) (λt d k=>(ai y).trans U) aw (λt b=>?_),.inr ⟨w.nx+7,s (w.nx+7),y,Y,Y⟩,λid aR t g' k' l=>?_,ak⟩ λt d k=>?_;exact cj;have b:u<=t:=b;exact(ai y).trans ((x t y).trans (g t y));simp at l;obtain⟨rfl,_⟩:=l;refine⟨λe=>?_,λe=>?_⟩;have:=h _ _ (a.Lu.low e).2;omega;have:=h _ _ (a.Lx.low e).2;omega;exact cj
theorem DJ.aL{d f g h i j k l:Nat}{m:ah}{n:P}{z o:Int}{p:Nat}{q:List (List P)}{A:List P}{own r s u:List (List P)}{v w:D}{e c:St}(a:DJ d f g h i j k l m n z p q A own r s v w u e)(B:∀t,t<20->t≠12->c.T t=e.T t)(F:fV d f o c.O)(C:∀t,t≠d->c.O t=e.O t)(E:e.nx<=c.nx):DJ d f g h i j k l m n o p q A own r s v w u c:=by have G:=a.b.c.nN;have x:=B 11 y y;have H:=a.b.c.gp;exact⟨a.b.aL U ar U U E (λt I=>(C t y).trans (a.b.c.fr t y)),by rw[x];exact a.L11.gM ak,by rw[x];exact a.d11,a.nl⟩
def aag{A:List P}{own:List (List P)}(s:0<=N/\N<=4611686018424000000)(a:DJ V bn E bX bC aP bu ag bM aB N i Q A own bT bH cE bZ bB w)(u:1<=own.length)(v:own.length<=1000)(d:∀r∈own,∃be:ByteArray,r=[S be]/\be.size<=300)(e:∀H be,DJ V bn E bX bC aP bu ag bM aB (N+1) i Q A own bT bH cE bZ bB H->(∀t,t<63->t≠12->H.T t=w.T t)->H.T 12=.p (S be)->be.size<=300->bO .normal H):
 bx (X af) (rF 8 (G 74 6::G 75 0::G 76 6::q 77 (fQ 76)::q 78 (dV 19 75 77)::Uw)) w bO:=by
 letI:=jo;obtain⟨x,f,b⟩:=a.b.h6;have g:=a.b.c.h0;have z:=a.b.c.nN;have B:=a.b.c.gp;have C:=a.b.c.fr;rw[dD];intro D;simp[f,g,dO b];refine vR y y a.b.c.str y y λF t I K h L j k=>?_;obtain⟨t,rfl⟩:=kg h;have c:t<own.length:=y;obtain⟨be,l,m⟩:=d _ (bJ c);have n:own[t]? =J [S be]:=by simp[c,l]
 simp[Uw,dm b,n];refine e _ be (a.aL (λt o p=>?_) k j aw) (λt o p=>?_) Y m;exact cj;exact cj
theorem acV{c:St->Prop}{p:P}(i:Fr w.O w.bs)(j:w.bs+eZ<w.nx)(k:w.bs+fk<w.nx)(l:w.T fD=.p p)(W:p.cells=[p])(n:de w.O m 1 (aW bB) (w.T eJ))(o:m<=w.bs)(q:eZ≠fk)(r:cU≠eJ)(B:eK≠db)(C:cU≠db)(E:bB.length<=1000)(s:fe<=1000)(u:∀H,de H.O m 1 (aW (bB++[[p]])) (H.T eK)->(∀t,t≠cU->t≠db->t≠eK->H.T t=w.T t)->(∀t b,w.O t=J b->(∀aR bB,w.T eJ≠.sl t aR 0 bB 1 Z)->H.O t=J b)->(∀t,t<m->H.O t=w.O t)->H.nx=w.nx->Fr H.O w.nx->(∀id aR t,H.T eK=.sl id aR 0 t 1 Z->w.bs<=id\/∃e v,w.T eJ=.sl id e 0 v 1 Z)->c H):
 eN dT [⟨J cU,.bQ eZ 1 1 fq [(0,.t fD)],ae,Z⟩,⟨J db,.j4 fk 1 fe (.t eJ) (.t cU),ae,Z⟩,⟨J eK,.mv (.t db),ae,Z⟩] w c:=by
 have f:(bB.length+1)*fe<=1001*1000:=BB y s;show eN dT ([⟨J cU,.bQ eZ 1 1 fq [(0,.t fD)],ae,Z⟩,⟨J db,.j4 fk 1 fe (.t eJ) (.t cU),ae,Z⟩]++[⟨J eK,.mv (.t db),ae,Z⟩]) w c;rw[iX];refine wj i j k l (by simp[D.cells,W]) rfl n o q r dK dK λF M G d g x z A I K=>?_;simp[eM,dR];refine u _ ?_ (λt L N O=>?_) (λt b f Q=>x t b f λid aR a=>?_) z rfl A λid aR t a=>?_;have a:D.cells (.p p)=[p].map D.p:=by simp[D.cells,W]
 rw[a,<-uZ]at d;simpa[g]using d;exact U;grind;have a:=by simpa[g]using a
 have R:t=(aW bB++[D.cells (.p p)]).length:=by rcases d with⟨h,_⟩|⟨S,e,_,h,_⟩;simp at h;grind
 grind
theorem amg{A:List P}{own:List (List P)}(n:DJ V bn E bX bC aP bu ag bM aB N i Q A own bT bH cE bZ bB w)(R:w.T 12=.p (S cT))(T:cT.size<=300)(o:bB.length<=1000)(s:∀H,DJ V bn E bX bC aP bu ag bM aB N i Q A own bT bH cE bZ (bB++[[S cT]]) H->(∀t,t<63->t≠11->H.T t=w.T t)->bO .normal H):
 bx (X af) (rF 5 [G 90 11,G 91 12,q 92 (.bQ 2 1 1 [aF] [(0,.t 91)]),q 93 (jE 3 1 16 90 92),G 11 93]) w bO:=by
 obtain⟨a,W,ab,nl⟩:=n;have ac:=a.c.nN;have u:=a.c.gp;have c:=a.c.fr;show bx _ (rF 5 ([G 90 11,G 91 12]++[q 92 (.bQ 2 1 1 [aF] [(0,.t 91)]),q 93 (jE 3 1 16 90 92),G 11 93])) w bO;rw[dD];intro bC;rw[iX];rw[eM,mZ,eM,mZ,j6];simp only[iF,dR];have ad:(eF (eF w.T 90 (w.T 11)) 91 (eF w.T 90 (w.T 11) 12)) 90=w.T 11:=Y;have d:∀t a,w.O t=J a->t<w.nx:=λt a v=>c.lt v;refine acV (p:=S cT) c aw aw ar rfl ar u y y y y o y λH x z B q4 e q6 f=>?_;have B:∀t a,w.O t=J a->(∀aR bB,w.T 11≠.sl t aR 0 bB 1 Z)->H.O t=J a:=U;have f:∀id aR t,H.T 11=.sl id aR 0 t 1 Z->w.nx<=id\/∃g h,w.T 11=.sl id g 0 h 1 Z:=ak;have C:∀t,t<63->t≠11->H.T t=w.T t:=λt k1 j=>(z t y y j).trans cj;obtain⟨k,h5,al,⟨po,h6,an⟩,oE,l,m,D,F,I,K,L⟩:=a;have e:H.nx=w.nx+5:=e;refine s H ⟨⟨k.aL ak (k.str.aL U) U y U,U,U,U,U,l.gM ak,m.gM ak,D,F,I,K,L⟩,x,λid aR t g h M=>?_,λr hr=>?_⟩ C;rcases f id aR t M with O|⟨g2,j,O⟩
 refine⟨λb=>?_,λb=>?_⟩;have:=d _ _ (l.low b).2;omega;have:=d _ _ (m.low b).2;omega;grind;grind
theorem ad1{A:List P}{own:List (List P)}(C:0<=N/\N<=4611686018424000000)(a:DJ V bn E bX bC aP bu ag bM aB N i Q A own bT bH cE bZ [[S be]] w)(b:w.T 12=.p (S cT))(j:cT.size<=300)(c:∀H bB,DJ V bn E bX bC aP bu ag bM aB (N+1) i Q A own bT bH cE bZ bB H->bB.length<=2->(∀t,t<63->t≠11->H.T t=w.T t)->bO .normal H):
 bx (X af) I7 w bO:=by
 have k:=a.b.c.h0;have D:=a.b.c.nN;have F:=a.b.c.gp;have K:=a.b.c.fr;obtain⟨id,aR,L,d,e⟩:∃id aR,E<=id/\w.T 11=.sl id aR 0 1 1 Z/\w.O id=J (.row 1 aR [[.p (S be)]]):=by rcases a.L11.sl with⟨l,_⟩|⟨id,aR,M,O,R⟩;simp at l;grind
 rw[show I7= z 9 (G 81 12::G 82 11::q 83 (.ti 1 (.t 82) (.c aH))::oL 84 1 83::q 85 (xB .neq 81 84)::G 86 85::oT 87 86 (xM 0)::oT 88 86 (.call 7 [.t 87,.c (I 2)])::NN) Mj from rfl,bF];have f:∀s2 cJ,DJ V bn E bX bC aP bu ag bM aB (N+1) i Q A own bT bH cE bZ [[S be]] s2->(∀t,t<63->s2.T t=w.T t)->s2.T 89=.p (B cJ)->bx (X af) Mj s2 bO:=by intro s2 cJ g T m;rw[show Mj=.cond (.t 89) _ .skip from rfl,kA,iF,m];cases cJ with|false=>rw[iV,mD];exact c s2 _ g Y U|true=>rw[jU];refine amg g U j Y λs3 n W=>c s3 _ n Y U
 rw[dD];intro ab;by_cases h:(cT.toList==be.toList)=aa;simp[b,d,e,ba,binOp,gD,h,NN];refine f _ Z (a.aL (λt o p=>?_) (a.b.c.str.mono y) U aw) (λt r=>?_) Y;exact cj;exact cj;have s:(cT.toList==be.toList)=Z:=by simpa using h
 simp[k,b,d,e,ba,binOp,gD,s];refine oq y a.b.c.str y y λac u O2 ad v x=>?_;simp[NN];refine f _ u (a.aL (λt o p=>?_) x v aw) (λt r=>?_) Y;exact cj;exact cj
def abq{c:dh}{a b:av}(d:w.ev c=.p (.v (.bool cJ))):cH dT (.cond c a b) w bO=sC (.p (.v (.bool cJ))) (cH dT a w bO) (cH dT b w bO):=by simp only[cH,d];cases cJ;simp;simp
theorem aj4{A:List P}{own:List (List P)}(hs:DJ V bn E bX bC aP bu ag bM aB N i Q A own bT bH cE bZ bB w)(hl:bB.length<=2)(hu:bT.length<=100)(hx:bH.length<=100)(ao:w.T 95=.p (B cJ))(L:∀H M O ax ay,yl V bn E bX bC aP bu ag bM aB N i Q A own M O ax ay H->M.length+O.length<=bT.length+bH.length+1->(∀t,t<63->(∃p,w.T t=.p p)->H.T t=w.T t)->bO .normal H):
 cH (X af) IN w bO:=by
 letI:Gh:=jo;obtain⟨⟨a,R,S,⟨po,T,a1⟩,oE,Lu,Lx,dj,nu,nX,b,hi⟩,ab,a2,aE⟩:=hs;have aI:=a.nN;have a3:=a.gp;obtain⟨bS,s1,hz,m,ac,hO,hT,aO,aS⟩:=LW a.fr ab;have a0:∀t,t<E->s1.O t=w.O t:=λt d=>hO t λaR bB e=>by have:=(ab.low e).1;omega
 have f:∀t,sD (w.T t)->s1.T t=w.T t:=λt d=>hT t λid aR bB _=>by rcases d with h|h;exact .inl h;exact .inr U
 have r5:s1.T 5=.ptr aP bu 10 i 0:=(f 5 (by rw[R];exact .inr Y)).trans R;have l:zo V bn E bX bC aP bu ag bM aB N s1:=a.aL (λt d=>f t (by rcases d with rfl|rfl|rfl;rw[a.h0];exact .inr Y;rw[a.h1];exact .inr Y;rw[a.VN];exact .inl Y)) (a.str.aL U) U y U
 have n:de s1.O E 1 (aW bT) cE:=Lu.gM ak;have o:de s1.O E 1 (aW bH) bZ:=Lx.gM ak;have ad:=(a0 aP aI.2.2).trans oE;have a4:((aW Q).set i (A.map D.p++[cE,bZ]))[i]? =J (A.map D.p++[cE,bZ]):=by rw[jG,aU rfl,aU U]
 have g8:(A.map D.p++[cE,bZ])[8]? =J cE:=by rw[kV (by simp[b])];simp[b]
 have g9:(A.map D.p++[cE,bZ])[9]? =J bZ:=by rw[kV (by simp[b])];simp[b]
 have s8:∀g,(A.map D.p++[cE,bZ]).set 8 g=A.map D.p++[g,bZ]:=U;have s9:∀g,(A.map D.p++[cE,bZ]).set 9 g=A.map D.p++[cE,g]:=U;have a5:Dx [bS]:=⟨bS,bB,rfl,m,hl,aE⟩;have al:∀t an,s1.O t=J an->t<s1.nx:=λt an hb=>by rw[aO];exact aS.lt hb
 have a6:s1.T 18=.p (I i):=(f 18 (by rw[S];exact .inl Y)).trans S;have p6:s1.T 6=.p po:=(f 6 (by rw[T];exact .inl Y)).trans T;rw[show IN=.cond (.t 95) _ _ from rfl,abq (c:=.t 95) ao];cases cJ with
 |true=>
  rw[jU];refine⟨s1,hz,?_⟩;refine Rg y r5 ac (ie m) ad ar (by simp[b]) g8 y n U y y y λs2 q j s k u v x z C=>?_;rw[ze,s8]at j;refine L s2 (bT++[[bS]]) bH q bZ ⟨l.aL (λt d=>k t y) (l.str.aL (u V y a.qK.1)) U x z,U,U,U,j,s,o.gM λid aR e _ F=>v id _ y F ak,λid aR t g' k' e G=>?_,λr K=>?_,nX,b,hi⟩ dK λt d W=>(k t y).trans (f t (.inl W));rcases C id aR t e with h|⟨g2,k2,h⟩
  have:=al _ _ (o.low G).2;omega;grind;rcases bg.1 K with h|h
  exact U;grind
 |false=>
  rw[iV];refine⟨s1,hz,?_⟩;refine Rg y r5 ac (ie m) ad ar (by simp[b]) g9 y o U y y y λs2 q j s k u v x z C=>?_;rw[ze,s9]at j;refine L s2 bT (bH++[[bS]]) cE q ⟨l.aL (λt d=>k t y) (l.str.aL (u V y a.qK.1)) U x z,U,U,U,j,n.gM λid aR e _ F=>v id _ y F ak,s,λid aR t g' k' e G=>?_,nu,λr K=>?_,b,hi⟩ dK λt d W=>(k t y).trans (f t (.inl W));rcases C id g' k' G with h|⟨g2,k2,h⟩
  have:=al _ _ (n.low e).2;omega;grind;rcases bg.1 K with h|h
  exact U;grind
def ai9{A:List P}{own:List (List P)}(h:0<=N/\N<=4611686018424000000)(a:DJ V bn E bX bC aP bu ag bM aB N i Q A own bT bH cE bZ bB w)(b:∀H c,DJ V bn E bX bC aP bu ag bM aB (N+1) i Q A own bT bH cE bZ bB H->(∀t,t<94->H.T t=w.T t)->H.T 95=.p (B c)->bO .normal H):
 bx (X af) (rF 2 [G 94 0,q 95 (.call 7 [.t 94,.c (I 2)])]) w bO:=by have d:=a.b.c.h0;have j:=a.b.c.nN;have k:=a.b.c.gp;rw[dD];intro l;simp[d];refine oq y a.b.c.str y y λm e n o f g=>?_;refine b _ e (a.aL (λt p r=>?_) g f aw) (λt s=>?_) Y;exact cj;exact cj
def yl.Mi{A:List P}{own:List (List P)}(a:yl V bn E bX bC aP bu ag bM aB N i Q A own bT bH cE bZ w)(e:N<=fE)(f:∀t,t<20->t≠11->t≠12->H.T t=w.T t)(b:H.O=w.O)(d:w.nx<=H.nx):yl V bn E bX bC aP bu ag bM aB fE i Q A own bT bH cE bZ H:=a.aL f (by rw[b];exact a.c.str.mono e) U U d (by rw[b];exact a.c.fr.mono d)
theorem aik{A:List P}{own:List (List P)}(hN:0<=N/\N<=4611686018423999000)(a:yl V bn E bX bC aP bu ag bM aB N i Q A own bT bH cE bZ w)(ad:∀r∈own,∃be:ByteArray,r=[S be]/\be.size<=300)(c:own.length<=1000)(l:bT.length<=100)(m:bH.length<=100)(d:∀H f g n o,yl V bn E bX bC aP bu ag bM aB (N+4) i Q A own f g n o H->f.length+g.length<=bT.length+bH.length+1->(∀t,t=60\/t=61->(∃p,w.T t=.p p)->H.T t=w.T t)->bO .normal H):
 cH (X af) (.block 5 (.seq (z 3 [G 63 6,q 64 (fQ 63),q 65 (di .eql 64 0)] (.cond (.t 65) (.exit 5) (.skip))) (z 9 (G 66 6::G 67 0::G 68 6::q 69 (fQ 68)::q 70 (dV 19 67 69)::ET) EX))) w bO:=by
 letI:Gh:=jo;obtain⟨po,h,j⟩:=a.h6;generalize s:(av.seq (rF 9 (G 66 6::G 67 0::G 68 6::q 69 (fQ 68)::q 70 (dV 19 67 69)::ET)) EX)=C;rw[lF];refine bU br ?_;rw[bF,dD];intro al;by_cases b:own.length=0;have k:((own.length:Int)==0)=aa:=by simp[b]
 simp[h,dO j,binOp,aC,b];refine d _ bT bH cE bZ (a.Mi y cj rfl aw) y λt u _=>?_;exact cj;have k:((own.length:Int)==0)=Z:=U;have v:¬own=[]:=ak;simp[h,dO j,binOp,aC,k,b,v];subst s;have x:∀s1,yl V bn E bX bC aP bu ag bM aB N i Q A own bT bH cE bZ s1->(∀t,t<63->s1.T t=w.T t)->cH (X af) (z 9 (G 66 6::G 67 0::G 68 6::q 69 (fQ 68)::q 70 (dV 19 67 69)::ET) EX) s1 λe H=>match e with|.exit i=>if i=5 then bO .normal H else bO (.exit i) H|e=>bO e H:=by intro s1 B t1;refine bU br ?_;refine adY y B y c U λs2 be D t2=>?_;show cH _ EX s2 _;rw[show EX=.seq (.seq _ I7) NJ from rfl,iY];refine mJ br _ ?_;rw[bF];refine aag y D y c U λs3 cT F t3 I K=>?_;show bx _ I7 s3 _;refine ad1 y F I K λs4 bB L M t4=>?_;show cH _ NJ s4 _;rw[show NJ=.seq _ IN from rfl];refine bU br ?_;refine ai9 y L λs5 an O t5 R=>?_;show cH _ IN s5 _;refine aj4 O M l m R λs6 T W Y ab ao ac t6=>?_;have tt:∀t,t=60\/t=61->s5.T t=w.T t:=ak;exact d s6 T W Y ab ak ac ak
 refine x _ (a.Mi y cj rfl aw) λt u=>?_;exact cj
theorem ag1{A:List P}{own:List (List P)}{a b:D}(u:0<=N/\N<=4611686018423990000)(c:yl V bn E bX bC aP bu ag bM aB N i Q A own [] [] a b w)(d:w.T 60=.p (I (m:Int)))(e:w.T 61=.p (I 0))(v:m<=2)(x:∀r∈own,∃be:ByteArray,r=[S be]/\be.size<=300)(f:own.length<=1000)(g:∀H bT bH a b,yl V bn E bX bC aP bu ag bM aB (N+8) i Q A own bT bH a b H->bT.length+bH.length<=2->bO (.exit 4) H):
 cH (X af) (.loop Xj) w bO:=by refine⟨λt w=>∃j:Nat,t=m-j/\j<=m/\w.T 60=.p (I (m:Int))/\w.T 61=.p (I (j:Int))/\∃bT bH a b,yl V bn E bX bC aP bu ag bM aB (N+4*j) i Q A own bT bH a b w/\bT.length+bH.length<=j,⟨_,0,rfl,y,d,e,[],[],a,b,U,Y⟩,?_⟩;clear c d e a b;rintro t w ⟨j,rfl,z,d,e,bT,bH,a,b,c,B⟩;have h:=lW (i:=j) y;refine Mb br e d (λC k=>?_) λF k=>?_;rw[iY];refine aik y (yl.Mi c (u7 _) cj rfl aw) U f y y λs2 l n o p q G K=>?_;have L:s2.T 60=.p (I (m:Int)):=U;have s:s2.T 61=.p (I (j:Int)):=U;show cH _ Ui s2 _;refine mJ br _ ?_;simp only[Ui,dD,eM,j6,sI,mZ,iF,zA,s,binOp,aC,dR,h];intro M;refine⟨Y,_,?_,j+1,rfl,y,ar,Y,l,n,o,p,q.Mi y (λt O _ _=>?_) rfl aw,y⟩;omega;exact cj;exact g _ bT bH a b (c.Mi y cj rfl aw) y
def Lq(a:Q[i]? =J r):(aW Q)[i]? =J (r.map D.p):=by simp[a]
theorem Xa(a:Q[i]? =J r):(aW Q).set i (r.map D.p)=aW Q:=by apply jX;grind
def ZS:(aW Q).set i (r.map D.p)=aW (Q.set i r):=by simp
theorem jp.arQ(b:jp cg Q){A:List P}(m:Q[i]? =J (A++[nl,nl]))(n:A.length=8){d e:P}(w:Sl 1 d bT)(x:Sl 1 e bH)(y:bT.length<=10)(z:bH.length<=10)(C:∀r∈bT,Dx r)(D:∀r∈bH,Dx r):jp cg (Q.set i (A++[d,e])):=by
 refine⟨b.em,by simpa using b.len,λt r a=>?_⟩;rw[List.length_set];rw[jG]at a;split at a;rename_i c;subst c;split at a;simp[du]at a;subst a;obtain⟨p,f,g,h,j,k,l,E,F,o,q,G,H,c,s,g2,u,I,K⟩:=b.row _ _ m;have v:A=[S (gG i),S p,B f,B g,B h,B j,k,l]:=by match A,n,c with|[L,M,N,O,R,T,U,V],_,c=>grind
 subst v;exact⟨p,f,g,h,j,k,l,d,e,o,q,bT,bH,rfl,s,g2,u,EA,EA⟩;grind;exact b.row t r a
theorem ano{f g:List (List P)}{A:List P}{n o:D}{nm:ByteArray}{u:List P}(hN:0<=N/\N<=4611686018423980000)(d:zo V bn E bX bC aP bu ag bM aB N w)(j:w.T 5=.ptr aP bu 10 i 0)(k:w.T 18=.p (I i))(F:w.T 6=.p nl)(v:w.T 7=n)(x:w.T 8=o)(p:w.O aP=J (.row 10 bu (aW Q)))(K:de w.O E 5 (aW f) n)(L:de w.O E 5 (aW g) o)(M:∀r∈f++g,V6 r)(O:f.length+g.length<=200)(l:Q[i]? =J (A++[nl,nl]))(R:A.length=8)(T:A++[nl,nl]=S nm::u)(hQ:∀H own bT bH cE bZ,yl V bn E bX bC aP bu ag bM aB (N+9) i Q A own bT bH cE bZ H->bT.length+bH.length<=2->bO .normal H):
 cH (X af) MH w bO:=by
 letI:Gh:=jo;have aI:=d.nN;have aO:=d.gp;have B:=d.fr;have W:(aW Q)[i]? =J (.p (S nm)::u.map D.p):=by rw[Lq l,T];rfl
 have ab:i<Q.length:=ak;have ac:∀s4 own,zo V bn E bX bC aP bu ag bM aB N s4->s4.T 5=.ptr aP bu 10 i 0->s4.T 18=.p (I i)->s4.O aP=J (.row 10 bu (aW Q))->de s4.O E 1 (aW own) (s4.T 6)->(∀r∈own,∃be:ByteArray,r=[S be]/\be.size<=300)->own.length<=200->cH (X af) QG s4 bO:=by
  intro s4 own a j k p C names aS;obtain⟨po,s5,hz,a0,e6,hO,hT,a1,a2⟩:=LW a.fr C;have ad:∀t,t<E->s5.O t=s4.O t:=λt b=>hO t λaR bB al=>by have:=(C.low al).1;omega
  have s:∀t,sD (s4.T t)->s5.T t=s4.T t:=λt b=>hT t λid aR bB _=>by rcases b with h|h;exact .inl h;exact .inr U
  have e:zo V bn E bX bC aP bu ag bM aB N s5:=a.aL (λt b=>s t (by rcases b with rfl|rfl|rfl;rw[a.h0];exact .inr Y;rw[a.h1];exact .inr Y;rw[a.VN];exact .inl Y)) (a.str.aL U) U y U
  have b5:yl V bn E bX bC aP bu ag bM aB N i Q A own [] [] (.p nl) (.p nl) s5:=⟨e,(s 5 (by rw[j];exact .inr Y)).trans j,(s 18 (by rw[k];exact .inl Y)).trans k,U,(ad aP y).trans (p.trans (by have:=Xa l;grind)),.inl ⟨rfl,rfl⟩,.inl ⟨rfl,rfl⟩,ak,ak,ak,R,ab⟩
  rw[show QG= z 3 (G 59 0::q 60 (.call 19 [.t 59,.c (I 3)])::Y8) (.block 4 (.loop Xj)) from rfl,iY];refine⟨s5,hz,?_⟩;have h0:=e.h0;have a3:=e.gp;rw[dD];intro a4;simp[h0];refine vR y y e.str y y λa5 bH O2 a6 an a7 e2 ao=>?_;obtain⟨m,rfl⟩:=kg an;simp[Y8];rw[lF];refine ag1 (m:=m) y (b5.aL (λt k1 k2 k3=>?_) ao U U aw (λt b=>(e2 t ak).trans (e.fr t ak))) Y Y y U y λs6 bT bH cE bZ a8 a9=>?_;exact cj;grind
 rw[show MH=.seq (z 5 [G 38 7,G 39 8,q 40 (jE 2 5 64 38 39),q 41 (fQ 40),fR 42 0] (.block 2 (.loop XO))) QG from rfl,iY];refine mJ br _ ?_;rw[bF,dD];intro bb;simp[-lB,v,x];have G1:jq w.O E 5 f n:=K.sl;have G2:jq w.O E 5 g o:=L.sl;refine uI (by simpa[v]using G1) (by simpa[x]using G2.fO) y y aw λid aR ax hw=>?_;have ay:id<w.nx+5:=by rcases hw with⟨h,_⟩|⟨g0,_,h⟩;exact U;have:=B.lt h;omega
 simp;refine ael ⟨d.aL (λt b=>?_) (d.str.aL (ai y)) (λt k1 _ _=>ai y) aw ((B.mono aw).am ay),by simp[j],by simp[k],(ai y).trans p,.inr ⟨id,aR,ax,by simp[aW],by simp[aW]⟩,Y,by simp[F];exact .inl ⟨rfl,rfl⟩,λr l=>by cases l⟩ Y W M (by simpa using O) λs4 own c aE=>?_;exact j5;simp only[aT];exact ac s4 own c.c c.h5 c.h18 c.oE c.L6 c.names aE
theorem adW{A:List P}(O:0<=N/\N<=4611686018423980000)(a:zo V bn E bX bC aP bu ag bM aB N w)(k:w.T 18=.p (I i))(e:w.O aP=J (.row 10 bu (aW Q)))(f:jp cg Q)(l:Q.length=ag)(m:i<ag)(b:Q[i]? =J (A++[nl,nl]))(n:A.length=8)(o:Sl 2 aB cg)(r:∀H own bT bH cE bZ,yl V bn E bX bC aP bu ag bM aB (N+9) i Q A own bT bH cE bZ H->bT.length+bH.length<=2->bO .normal H):
 cH (X af) (.block 1 (z 2 [G 20 18,G 4 20] (z 7 [G 21 1,d5 22 21,oF 23 22 1,oL 24 1 23,G 25 4,q 26 (xI 10 24 25),G 5 26] (z 1 [q 6 (.mv (.c aD))] (z 13 (G 28 1::d5 29 28::cA 30 2 29::G 31 5::d5 32 31::oF 33 32 0::oL 34 1 33::q 35 (dV 53 30 34)::Xd)
  MH))))) w bO:=by
 letI:Gh:=jo;have g:=a.h1;have h:=a.om;have R:=a.nN;have T:=a.gp;have W:=a.fr;obtain⟨nm,c,j⟩:∃nm c,A++[nl,nl]=S nm::c:=by obtain⟨p,b1,b2,b3,b4,q6,q7,q8,q9,fl,rl,u0,x0,ab,_⟩:=f.row _ _ b;exact U
 have s:(aW Q)[i]? =J (.p (S nm)::c.map D.p):=by rw[Lq b,j];rfl
 have ac:(i:Int)<ag:=y;have u:cF [D.p aB,.sl aP bu 0 ag 10 Z]=.agg [.p aB,.sl aP bu 0 ag 10 Z]:=by simp[cF,dv]
 have v:qP w.O (.agg [.p aB,.sl aP bu 0 ag 10 Z]) (.agg [aB,.im Q 10 Z]):=by have:=qP.sl aP bu 0 ag 10 Z _ _ e (by simp[l]) (Kl Q);rw[gK,cp y]at this;exact .agg _ _ (.cons _ _ _ _ (.p _) (.cons _ _ _ _ ar .nil))
 rw[lF];generalize x:MH=C;refine bU br ?_;simp[k];intro ad;refine bU br ?_;simp(disch:=omega)[g,h,ba,m];intro al;refine bU br ?_;simp;intro an;refine bU br ?_;simp(disch:=omega)[g,h,ba,e,s,u];intro ao;refine aiK f y bK v o (.im _ _) λax d1 d2 O2 l1 l2 ay B F aE K d aI L=>?_;simp[Xd];subst x;refine ano y (a.aL (λt hk=>?_) (a.str.aL ak) ak aw L) Y ar (by simp[nl]) Y Y ak (B.adB y) (F.adB y) K d b n j λH own bT bH cE bZ M d=>?_;exact cj;exact r H own bT bH cE bZ M d
theorem akD{A:List P}{own:List (List P)}(x:yl V bn E bX bC aP bu ag bM aB N i Q A own bT bH cE bZ w)(hi:i<100)(z:∀H a e,zo V bn E bX bC aP bu ag bM aB N H->H.T 18=.p (I ((i+1:Nat):Int))->H.O aP=J (.row 10 bu (aW (Q.set i (A++[a,e]))))->Sl 1 a bT->Sl 1 e bH->bO .normal H):
 cH (X af) R8 w bO:=by
 letI:Gh:=jo;obtain⟨b,h5,n,⟨po,h6,ad⟩,B,k,f,dj,nu,nX,hA,al⟩:=x;have an:=b.nN;have C:=lW (i:=i) y;have ao:((aW Q).set i (A.map D.p++[cE,bZ]))[i]? =J (A.map D.p++cE::[bZ]):=by rw[jG,aU rfl,aU U]
 have ax:∀(o:List D) t r,((aW Q).set i o)[t]? =J r->t≠i->∀id,∀g∈r,BT id g:=by intro o t r l d id g m;rw[jG,ap y]at l;simp only[dN,bj]at l;obtain⟨r0,_,rfl⟩:=l;exact Oi _ g m
 have ay:∀id aR bB,cE=.sl id aR 0 bB 1 Z->aP≠id:=λid aR bB c=>by have:=(k.low c).1;omega
 have aE:∀id aR bB,bZ=.sl id aR 0 bB 1 Z->aP≠id:=λid aR bB c=>by have:=(f.low c).1;omega
 obtain⟨a,s1,F,G,p,K,L,n1,f1⟩:=OY b.fr B ar k ak λid aR bB c=>⟨λg m=>by
  rw[bD.1 m];rcases f with⟨_,j⟩|⟨M,O,_,j,_⟩
  exact .inl U;refine .inr (.inr ⟨M,O,_,_,_,_,j,?_⟩);grind,ak⟩
 have R:((aW Q).set i (A.map D.p++[cE,bZ])).set i (A.map D.p++ .p a::[bZ])=(aW Q).set i ((A++[a]).map D.p++bZ::[]):=by rw[ze];simp
 rw[R]at p;have S:de s1.O E 1 (aW bH) bZ:=f.gM ak;have aI:((aW Q).set i ((A++[a]).map D.p++bZ::[]))[i]? =J ((A++[a]).map D.p++bZ::[]):=by rw[jG,aU rfl,aU U]
 obtain⟨e,s2,T,W,q,k2,t2,n2,f2⟩:=OY U p ar S ak ak;have j:((aW Q).set i ((A++[a]).map D.p++bZ::[])).set i ((A++[a]).map D.p++ .p e::[])=aW (Q.set i (A++[a,e])):=by rw[ze,<-ZS];simp
 rw[j]at q;have ab:∀t,t<E->t≠aP->s2.O t=w.O t:=λt d s=>(k2 t s λaR bB c=>by have:=(f.low c).1;omega).trans (K t s λaR bB c=>by have:=(k.low c).1;omega);have u:∀t,sD (w.T t)->s2.T t=w.T t:=λt d=>by
  have v:s1.T t=w.T t:=L t λid aR bB _=>by rcases d with h|h;exact .inl h;exact .inr U
  refine(t2 t λid aR bB _=>?_).trans v;rw[v];rcases d with h|h
  exact .inl h;exact .inr U
 have c2:zo V bn E bX bC aP bu ag bM aB N s2:=b.aL (λt d=>u t (by rcases d with rfl|rfl|rfl;rw[b.h0];exact .inr Y;rw[b.h1];exact .inr Y;rw[b.VN];exact .inl Y)) (b.str.aL (ab V y b.qK.1)) U y bK
 have ac:s2.T 18=.p (I i):=(u 18 (by rw[n];exact .inl Y)).trans n;refine⟨s2,F.trans T,?_⟩;simp only[dD,eM,j6,sI,mZ,iF,zA,ac,binOp,aC,dR,C];intro aO;refine⟨Y,z _ a e (c2.next y (λt d=>?_) rfl aw) Y q G W⟩;exact cj
theorem agv{a:List (List P)}(F:0<=N/\N<=4611686018423970000)(c:zo V bn E bX bC aP bu ag bM aB N w)(f:w.T 18=.p (I 0))(d:w.O aP=J (.row 10 bu (aW a)))(b:jp cg a)(e:a.length=ag)(g:∀(i:Nat) r,a[i]? =J r->∃A,r=A++[nl,nl]/\A.length=8)(o:Sl 2 aB cg)(p:∀H h,zo V bn E bX bC aP bu ag bM aB (N+50) H->H.O aP=J (.row 10 bu (aW h))->jp cg h->h.length=ag->bO (.exit 0) H):
 cH (X af) (.loop XK) w bO:=by
 have G:ag<=5:=by have:=b.len;omega
 refine⟨λt w=>∃i:Nat,t=ag-i/\i<=ag/\w.T 18=.p (I (i:Int))/\zo V bn E bX bC aP bu ag bM aB (N+9*i) w/\∃a,w.O aP=J (.row 10 bu (aW a))/\jp cg a/\a.length=ag/\∀j r,i<=j->a[j]? =J r->∃A,r=A++[nl,nl]/\A.length=8,⟨_,0,rfl,y,f,U,a,d,b,e,ak⟩,?_⟩;clear c f d b e g a;rintro t w ⟨i,rfl,K,f,c,a,d,b,e,g⟩;refine Mb br f c.VN (λL q=>?_) λM q=>?_;have s:i<ag:=y;have l:i<a.length:=y;obtain⟨A,u,m⟩:=g i _ y (bh l);have n:=(bh l).trans (by rw[u]);rw[iY];refine adW y (c.next (u7 _) cj rfl aw) ar d b e s n m o λs2 own bT bH cE bZ k O=>?_;show cH _ R8 s2 _;have v:=k.nu;have x:=k.nX;refine akD k y λs3 Q R S z B C D=>?_;refine⟨ag-(i+1),y,i+1,rfl,y,z,ak,_,B,b.arQ n m C D y y v x,U,λj r T W=>?_⟩;grind;exact p _ a (c.next y cj rfl aw) d b e
def aiP(z:0<=N/\N<=4611686018423970000)(g:fV V bn N K)(d:K bX=J (.row 2 bC [[.p aB,.sl aP bu 0 ag 10 Z]]))(h:K aP=J (.row 10 bu (aW Q)))(j:jp cg Q)(k:Q.length=ag)(l:∀(i:Nat) r,Q[i]? =J r->∃A,r=A++[nl,nl]/\A.length=8)(m:Sl 2 aB cg)(n:V≠aP/\V≠bX/\bX≠aP)(o:∀e b c,E<=e->fV V bn (N+50) b->b bX=J (.row 2 bC [[.p aB,.sl aP bu 0 ag 10 Z]])->b aP=J (.row 10 bu (aW c))->jp cg c->c.length=ag->(∀t,t<E->t≠V->t≠aP->b t=K t)->Fr b e->bA (.eQ []) b e):
 X af 44 [.ptr V bn 2 0 0,.ptr bX bC 2 0 0] K E bA:=by
 letI:Gh:=jo;refine X.Px Y aoP (by simp[D44]) λf=>?_;have p:=f.lt d;have q:=f.lt h;have s:V<E:=by obtain⟨_,_,u,_⟩:=g;exact f.lt u
 show cH _ (.seq _ (.block 0 (.loop XK))) _ _;refine bU br ?_;simp(disch:=omega)[cN,d,ba];intro B;rw[lF];refine agv y ⟨Y,Y,Y,d,g,aw,bK,λ_ _ _ _=>rfl,⟨s,p,q⟩,n⟩ Y h j k l m λH c a v w x=>?_;simp only;exact⟨Y,.d8 a.fr a.gp (o H.nx H.O c a.gp a.str a.om v w x a.low a.fr)⟩
theorem aks{A:List P}(h:Ae ag i (A++[nl,nl,nl]))(k:A.length=7):∃(p:ByteArray) (c d e f:Bool) (b:P) (a:List (List P)),A=[S (gG i),S p,B c,B d,B e,B f,b]/\(p.size=0\/∃j,j<i/\p=gG j)/\(Sl 9 b a/\a.length<=3/\∀l∈a,JE l):=by
 obtain⟨p,c,d,e,f,b,m,n,o,a,q,bT,bH,g,r,s,_⟩:=h
 match A,k,g with|[t,u,v,w,x,y,z],_,g=>grind
theorem ahu(d:Am cg)(y:Q.length<=5)(e:∀(j:Nat) r,Q[j]? =J r->∀ag,Ae ag j r){A:Nat->List P}(f:∀(t:Nat) r,Q[t]? =J r->r=A t++[nl,nl,nl]/\(A t).length=7):Fb cg Q.length A:=by
 intro g bS z h;refine⟨d,U,λi r b=>?_⟩;simp[d7,List.length_range];have a:=by have:=(bq.1 b).1;simpa using this
 simp[dN,Ge a,fK,du]at b;subst b;obtain⟨k,l⟩:=f i _ (bh a);have c:=e i _ (bh a) Q.length;rw[k]at c;obtain⟨p,m,n,o,q,s,u,v,w,x⟩:=aks c l;obtain⟨B,C,D⟩:=h i a;rw[acv,v];exact⟨p,m,n,o,q,s,bS i,nl,nl,u,g i,[],[],rfl,w,x,EA,⟨.nil,Y,ak⟩,⟨.nil,Y,ak⟩⟩
theorem ail{F:Nat->D}{a f v7:Nat}(hN:0<=N/\N<=4611686018422000000)(hn:1<=ag/\ag<=5)(hs:Pr V bn N F bM a f ag ag v7 aB Q w)(hE:Am cg)(al:Sl 2 aB cg)(h2:F 2=.ptr (a-1) g2 2 0 0)(h1:1<=a)(I:∃r,bM (a-1)=J (.row 2 g2 [r])/\r.length=2)(bC:V<a-1)(hQ:∀H b o,H.T 2=.ptr (a-1) g2 2 0 0->H.O (a-1)=J (.row 2 g2 [[.p aB,.p b]])->jp cg o->o.length=ag->Sl 10 b o->fV V bn (N+100000+200) H.O->(∀t,t<a-1->t≠V->H.O t=bM t)->a<=H.nx->Fr H.O H.nx->bO .ret H):
 cH (X af) Im w bO:=by
 letI:Gh:=jo;obtain⟨⟨fT,an,bH,bL,K,bR⟩,h0,_,h3,bT,bX,L,hv,⟨xd,M,Lx⟩,hl,ao,ax⟩:=hs;obtain⟨u,I,R⟩:=I;have W:w.T 0=.ptr V bn 2 0 0:=U;have e2:w.T 2=.ptr (a-1) g2 2 0 0:=U;have e3:w.T 3=.ptr a f 2 0 0:=U;have n3:=K.lt M;obtain⟨aP,bu,bZ,rfl,v⟩:∃id aR,a+1<=id/\xd=.sl id aR 0 ag 10 Z/\w.O id=J (.row 10 aR (aW Q)):=by rcases Lx.sl with⟨g,_⟩|⟨id,aR,h1,h2,h3⟩;grind;grind
 have nE:=K.lt v;obtain⟨A,x⟩:∃A:Nat->List P,∀(t:Nat) r,Q[t]? =J r->r=A t++[nl,nl,nl]/\(A t).length=7:=by refine⟨λt=>(Q.getD t []).take 7,λt r c=>?_⟩;obtain⟨A,g,hA⟩:=ax r ak;exact U
 have hM:Fb cg ag A:=by rw[<-hl];exact ahu hE y U x
 have ab:∀t,t<ag->∃r,Q[t]? =J r:=U;have ay:∀t,t<ag->(A t).length=7:=U;have aE:∀t,t<ag->∃aI,A t=S (gG t)::aI:=λt c=>by obtain⟨r,h⟩:=ab t c;obtain⟨g,L⟩:=x t r h;have:=ao t r h ag;rw[g]at this;obtain⟨p,b1,b2,b3,b4,q6,fl,eA,_⟩:=aks ar L;exact U
 have aO:aW Q=(List.range ag).map (nR A λ_=>.p nl):=by apply jX;intro t;by_cases c:t<ag;obtain⟨r,h⟩:=ab t c;obtain⟨g,_⟩:=x t r h;rw[Lq h,g];simp[c,nR];exact U
 rw[aO]at v;have B:V≠aP/\V≠a/\a≠aP:=y;rw[show Im= z 2 [G 123 0,q 124 (dV 43 123 3)] Nc from rfl];refine bU br ?_;rw[dD];intro m;simp[W,e3];refine Va y hn an M v ay y B hM aE λj k aS D' b0 a0 a1 b5 a2 b6 a3=>?_;have hS:∀(d:Nat->D),(∀t,t<120->d t=w.T t)->cH (X af) Nc {T:=d,O:=k,nx:=j,bs:=w.nx,gm:=m} bO:=by
  intro d t2;obtain⟨bS,s3,z3,hq,a4,k3,t3,ac,f3⟩:=acB (s:={T:=d,O:=k,nx:=j,bs:=w.nx,gm:=m}) a3 ar;have a5:=hM aS bS hq a2;have u0:s3.T 0=.ptr V bn 2 0 0:=(t3 0 (by rw[show({T:=d,O:=k,nx:=j,bs:=w.nx,gm:=m}:St).T 0=d 0 from rfl,t2 0 y,W];exact .inr Y)).trans U;have u2:s3.T 2=.ptr (a-1) g2 2 0 0:=ak;have u3:s3.T 3=.ptr a f 2 0 0:=(t3 3 (by rw[show({T:=d,O:=k,nx:=j,bs:=w.nx,gm:=m}:St).T 3=d 3 from rfl,t2 3 y,e3];exact .inr Y)).trans U;have ac:s3.nx=j:=ac;have v3:∀t,t<w.nx->t≠aP->s3.O t=k t:=ak;rw[show Nc= z 2 [G 125 0,q 126 (dV 44 125 3)] Mn from rfl,iY];refine⟨s3,z3,?_⟩;rw[dD];intro C;simp[u0,u3];refine aiP y (a0.aL ak) ((v3 a n3 B.2.2).trans a1) a4 a5 Y (λi r hi=>?_) al B λn l ad b7 a6 a7 b8 a8 a9 bb bd=>?_;have bk:i<ag:=by have:=(bq.1 hi).1;simpa using this
  simp only[dN,Ge bk,fK,du]at hi;exact⟨A i++[bS i],U,U⟩;have hF:∀(e:Nat->D),(∀t,t<120->e t=s3.T t)->cH (X af) Mn {T:=e,O:=l,nx:=n,bs:=s3.nx,gm:=C} bO:=by
   intro e t4;have L4:de l (a+1) 10 (aW ad) (.sl aP bu 0 ag 10 Z):=.inr ak;obtain⟨b,s5,z5,bl,bm,k5,t5,E,f5⟩:=Rv (s:={T:=e,O:=l,nx:=n,bs:=s3.nx,gm:=C}) (xs:=[aB]) (ys:=[]) bd a7 L4 ak;have w2:s5.T 2=.ptr (a-1) g2 2 0 0:=ak;have w3:s5.T 3=.ptr a f 2 0 0:=(t5 3 (by rw[show({T:=e,O:=l,nx:=n,bs:=s3.nx,gm:=C}:St).T 3=e 3 from rfl,t4 3 y,u3];exact .inr Y)).trans U;have E:s5.nx=n:=E;have v5:∀t,t<a->t≠V->s5.O t=bM t:=λt c bo=>(k5 t y ak).trans ((bb t y bo y).trans ((v3 t y y).trans ak));have vs:s5.O V=l V:=U;have p2:s5.O (a-1)=J (.row 2 g2 [u]):=ak;have bA:s5.O a=J (.row 2 f [[.p aB,.p b]]):=by simpa using bm
   rw[show Mn= z 2 [cA 127 2 3,oN (xS 2 2 127)] .ret from rfl,iY];refine⟨s5,z5,?_⟩;rw[dD];intro g6;have bB:bI u [.p aB,.p b] 0=[.p aB,.p b]:=by match u,R with|[be,b9],_=>rfl
   have hc:D.cells (.p (.agg [aB,b]))=[.p aB,.p b]:=rfl;simp[w2,w3,bA,ba,p2,bB,hc,R];refine⟨_,.refl _,hQ _ b ad (by simp[w2]) Y a8 a9 bl (((a6.aL vs).mono y).aL (ai y)) (λt k1 k2=>(ai y).trans ak) aw ?_⟩;exact((show Fr s5.O s5.nx by rw[E];exact f5).mono aw).am aw
  refine hF _ λt c=>?_;exact j5
 refine hS _ λt c=>?_;exact cj
theorem ai6(hN:0<=N/\N<=4611686018420000000)(o:fV V bn N K)(L:∀h d aB c cg Q,E<=h->fV V bn (N+200000) d->jp cg Q->1<=Q.length->Sl 2 aB cg->Sl 10 c Q->(∀t,t<E->t≠V->d t=K t)->Fr d h->bA (.p (.agg [aB,c])) d h):
 X af 15 [.ptr V bn 2 0 0] K E bA:=by
 letI:Gh:=jo;refine X.Px Y aoc (by simp[Rj]) λp=>?_;have nS:V<E:=by obtain⟨_,_,e,_⟩:=o;exact p.lt e
 show cH _ (.seq _ (.seq _ (.seq (z 4 (G 11 0::q 12 (.bQ 1 1 4 [aH] [(0,.c aH),(1,.c (I 1)),(2,.c (I 1)),(3,.c (I 2))])::q 13 (dV 6 11 12)::Yg) (.block 0 (.loop QA))) MQ))) _ _;refine bU br ?_;simp[cN];intro g2;refine bU br ?_;simp;intro f;rw[iY,iY];refine mJ br _ ?_;simp[fP,D.cells,P.cells,aJ,dp,dv];intro g4;refine BS.l ?_;have a1:fV V bn N (am (am K E (J (.row 2 (g2 E) [[.p nl,.p nl]]))) (E+1) (J (.row 2 (f (E+1)) [[.p nl,.p nl]]))):=o.aL (by rw[ai y,ai y]);refine IW Y Y Y ar y y λr bH b a2 M g a3=>?_;have O:0<=bH/\bH<=2:=by simp at M;omega
 obtain⟨s,rfl⟩:=kg O.1;simp[Yg];have a4:∀t,t<E->t≠V->b t=K t:=λt k1 R=>(g t R).trans (by rw[ai y,ai y]);have o2:b E=J (.row 2 (g2 E) [[.p nl,.p nl]]):=(g E y).trans (by rw[ai y,bi];rfl);have S:b (E+1)=J (.row 2 (f (E+1)) [[.p nl,.p nl]]):=(g (E+1) y).trans bi;have a5:Fr b r:=λt i=>(g t y).trans (by rw[ai y,ai y];exact p t y);have T:∀w:St,w.T 0=.ptr V bn 2 0 0->w.T 2=.ptr E (g2 E) 2 0 0->w.T 3=.ptr (E+1) (f (E+1)) 2 0 0->w.T 13=.p (I (s:Int))->w.T 14=.p (I 0)->w.O=b->w.nx=r->cH (X af) (.block 0 (.loop QA)) w λe H=>match e with|.normal=>cH (X af) MQ H λe H=>(e=.normal\/e=.ret)/\jt H Rj.rs λa=>ji E bA H.O H.nx (aM a)|e=>(e=.normal\/e=.ret)/\jt H Rj.rs λa=>ji E bA H.O H.nx (aM a):=by
  intro w W t2 t3 ab ac u sn;rw[lF];refine agA (N:=N+1) ⟨⟨U,U,λ_ _ _=>by rw[u],y,U,y⟩,W,by rw[t2];exact .inr Y,t3,ab,ac,⟨.p nl,by rw[u];exact S,.inl ⟨rfl,rfl⟩⟩,rfl,ak⟩ y y λs1 cg ad=>?_;simp only[aT];obtain⟨⟨v,al,a6,a7,an,a8⟩,h0,h2,h3,a9,bb,⟨ed,od,j⟩,hl,ao⟩:=ad;have x:Am cg:=⟨y,ao⟩;obtain⟨aB,s3,z3,k,bd,k3,A,n3,f3⟩:=Rv (xs:=[]) (ys:=[nl]) an od j (λid aR e=>by have:=(j.low e).1;omega);have be:∀t,t<E+1->s3.O t=s1.O t:=λt i=>k3 t y λid aR e=>by have:=(j.low e).1;omega
  have B:s3.T 0=.ptr V bn 2 0 0:=(A 0 (by rw[v 0 y,h0];exact .inr Y)).trans U;have v2:s3.T 2=.ptr E (g2 E) 2 0 0:=ak;have v3:s3.T 3=.ptr (E+1) (f (E+1)) 2 0 0:=(A 3 (by rw[v 3 y,h3];exact .inr Y)).trans U;rw[show MQ= z 1 [fR 7 0] (.seq (z 3 (G 46 0::q 47 (.call 8 [.t 46,.c (I 1),.c (I 5)])::Sh) (.block 4 (.loop Mg))) Im) from rfl,iY];refine⟨s3,z3,?_⟩;rw[dD];intro g5;simp only[eM,j6,mZ,zA,dR];rw[iY,iY];refine mJ br _ ?_;rw[dD];intro g6;simp[B];have bk:fV V bn (N+1+10000*s) s3.O:=al.aL U;refine yu y y y ar y y λC ag F bl bm bo e4 ax=>?_;obtain⟨ag,rfl⟩:=kg (by omega:0<=ag);simp[Sh];have ay:∀s5:St,(∀t,t=0\/t=2\/t=3->s5.T t=s3.T t)->s5.T 7=.p (I 0)->s5.T 47=.p (I (ag:Int))->s5.T 48=.p (I 0)->s5.O=F->s5.nx=C->cH (X af) (.block 4 (.loop Mg)) s5 λe H=>match e with|.normal=>cH (X af) Im H λe H=>(e=.normal\/e=.ret)/\jt H Rj.rs λa=>ji E bA H.O H.nx (aM a)|e=>(e=.normal\/e=.ret)/\jt H Rj.rs λa=>ji E bA H.O H.nx (aM a):=by
   intro s5 l w7 aE aI wO wn;rw[lF];have w0:=(l 0 y).trans B;have w2:=(l 2 y).trans v2;have w3:=(l 3 y).trans v3;have bs:s3.nx=s1.nx:=n3;have bu:Fr F C:=λt i=>(e4 t y).trans (f3 t y);refine ag5 (N:=N+30000) (O1:=b) (em:=cg) ⟨⟨U,by rw[wO];exact ax.mono y,U,y,U,y⟩,w0,ak,w3,aE,aI,w7,y,⟨.p nl,ak,.inl ⟨rfl,rfl⟩⟩,rfl,ak,ak⟩ y y x k λs6 Q v7 aO=>?_;simp only[aT];refine ail (N:=N+30000) (g2:=g2 E) y y aO x k ar y U y λs7 c aP m n hM bB aS a0 bC bL bM=>?_;refine⟨Y,?_⟩;have m:s7.T 2=.ptr E (g2 E) 2 0 0:=by simpa using m
   have n:s7.O E=J (.row 2 (g2 E) [[.p aB,.p c]]):=by simpa using n
   simp[Rj,m,n,ba];exact .d8 ar y (L s7.nx s7.O aB c cg aP y (a0.mono y) hM y k aS ak ar)
  refine ay _ (λt i=>?_) Y Y Y rfl rfl;simp only[bP];repeat grind
 exact T _ Y Y Y Y Y rfl rfl
def adj:List aA:=[q 3 (.alloc 2 2 [aD,aD]),oN (xS 2 3 7)]
def acS:List aA:=[q 10 (di .eql 9 0)]
def Y4:av:=.cond (.t 10) (z 2 [cA 11 2 3,oN (xS 2 2 11)] (.ret)) (.skip)
def abU:av:=
 z 3 (cA 8 2 3::q 9 (oW 16 8)::acS)
  Y4
def ac5:av:=rF 2 [q 12 (di .add 4 1),G 4 12]
def anT:av:=
 z 1 [q 5 (di .lss 4 5)] (.seq (cX 5 0) (.seq (.block 1 (z 4 (G 6 0::q 7 (oW 15 6)::adj)
  abU))
  ac5))
def SO:av:=z 6 [q 13 (.build [aF,aH,aF,dZ,aH,aH,aF,aD,aD] [(0,1,.c (S ⟨#[97]⟩)),(1,1,.c (I 2))]),q 14 (.bQ 1 9 1 [aF,aH,aF,dZ,aH,aH,aF,aD,aD] [(0,.t 13)]),q 15 (.build [aF,aF,dZ,dZ,dZ,dZ,aD,aD,aD,aD] [(0,1,.c (S ⟨#[101,97]⟩)),(3,1,.c (B aa)),(6,1,.t 14)]),q 16 (.bQ 3 10 1 [aF,aF,dZ,dZ,dZ,dZ,aD,aD,aD,aD] [(0,.t 15)]),q 17 (.build [aD,aD] [(1,1,.t 16)]),oN (xS 2 2 17)] (.ret)
def D4:d6:=⟨18,[.cell 2 2 aa],z 1 [q 2 (.alloc 0 2 [aD,aD])] (.seq (z 1 [fR 4 0] (.block 0 (.loop anT)))
 SO)⟩
def asd:cW af Tryz.f4=J D4:=h
theorem ahw(d:jp cg Q)(e:1<=Q.length){b:P}(f:Sl 2 aB cg)(g:Sl 10 b Q)(h:∀a c,E<=a->bA (.p (I c)) K a):X af 16 [.p (.agg [aB,b])] K E bA:=by letI:=KJ cg Q d;refine(s73 K E bA [.agg [aB,b]] ⟨d.mg e f g,aj⟩ (λn i=>by cases i)).1 rfl λa o q r j k _ l=>?_;obtain⟨rfl,rfl⟩:=mY l;obtain⟨p,s,rfl,⟨c,rfl,_⟩,m⟩:=Vs.cons k;obtain rfl:=Vs.nil m;exact h a c j
def Ls:List P:=[S ⟨#[97]⟩,I 2,S ⟨#[]⟩,B Z,I 0,I 0,S ⟨#[]⟩,nl,nl]
def Jd:List P:=[S ⟨#[101,97]⟩,S ⟨#[]⟩,B Z,B aa,B Z,B Z,.im [Ls] 9 aa,nl,nl,nl]
theorem aho:JE Ls:=by intro a;refine⟨⟨_,rfl,eB⟩,⟨2,rfl,eB,eB⟩,⟨_,rfl,eB⟩,aj,⟨0,rfl,eB,eB⟩,⟨0,rfl,eB,eB⟩,⟨_,rfl,eB⟩,?_,?_,aj⟩;exact⟨[],aj,eB,eB,ak,aj⟩;exact⟨[],aj,eB,eB,ak,aj⟩
theorem arL:jp [] [Jd]:=by
 refine⟨⟨Y,ak⟩,Y,λi r a=>?_⟩;have b:=by have:=(bq.1 a).1;simpa using this
 subst b;simp at a;subst a;refine⟨⟨#[]⟩,Z,aa,Z,Z,.im [Ls] 9 aa,nl,nl,nl,[Ls],[],[],[],?_,aj,⟨aj,Y,λd c=>by rw[bD.1 c];exact aho⟩,⟨aj,Y,Y,ak⟩,⟨aj,Y,ak⟩,⟨aj,Y,ak⟩⟩;exact aj
theorem KV{nm:Nat}{b:List P}{a:dh}(c:w.ev a=.p (.agg r))(d:r.length=ag)(h:bA (.p (.im [r] ag aa)) w.O w.nx):aN dT (.bQ nm ag 1 b [(0,a)]) w bA:=by
 have e:(w.ev a).cells=r.map D.p:=by rw[c];simp[D.cells,dw]
 have f:fP w.ev ag (List.replicate 1 (b.map D.p)) [(0,a)]=J [r.map D.p]:=by simp[fP,e,d]
 simp only[wd,f];have g:dp [r.map D.p]=J [r]:=by simp[dp,nV]
 rw[g];exact aj
structure VG(sid sg:Nat)(N:Int)(O:ah)(nx g2 j:Nat)(s:St):Prop where
 t0:s.T 0=.ptr sid sg 2 0 0
 t2:s.T 2=.ptr nx g2 2 0 0
 t4:s.T 4=.p (I (j:Int))
 st:fV sid sg N s.O
 low:∀k,k<nx->k≠sid->s.O k=O k
 hn:nx+1<=s.nx
 fr:Fr s.O s.nx
 hs:sid<nx
theorem agq(hN:0<=N/\N<=4611686018411000000)(x:VG V bn N K E g2 j w)(o2:w.O E=J (.row 2 g2 [[.p nl,.p nl]]))(A:∀H,VG V bn (N+200000) K E g2 j H->H.O E=J (.row 2 g2 [[.p nl,.p nl]])->bO .normal H)(C:∀H aB a cg Q,VG V bn (N+200000) K E g2 j H->H.O E=J (.row 2 g2 [[.p aB,.p a]])->jp cg Q->1<=Q.length->Sl 2 aB cg->Sl 10 a Q->bO .ret H):
 bx (X af) (.block 1 (z 4 (G 6 0::q 7 (oW 15 6)::adj) abU)) w bO:=by
 letI:Gh:=jo;obtain⟨h,F,L,M,ac,hn,ad,k⟩:=x;rw[gQ,bF,dD];intro c;simp[h];refine ai6 y M λl d aB a cg Q ag O m n o p al ao=>?_;have p2:d E=J (.row 2 g2 [[.p nl,.p nl]]):=ak;have r:D.cells (.p (.agg [aB,a]))=[.p aB,.p a]:=rfl;simp[adj,r,bI];rw[show abU= z 3 (cA 8 2 3::q 9 (oW 16 8)::acS) Y4 from rfl,bF,dD];intro g6;simp;refine ahw m n o p λax e ay=>?_;simp[acS,binOp,aC];have hO:∀t,t<E+1->t≠V->am d (w.nx+2) (J (.row 2 (c (w.nx+2)) [[.p aB,.p a]])) t=w.O t:=λt P R=>(ai y).trans ak;have S:∀s4:St,s4.T 0=.ptr V bn 2 0 0->s4.T 2=.ptr E g2 2 0 0->s4.T 4=.p (I (j:Int))->s4.O=am d (w.nx+2) (J (.row 2 (c (w.nx+2)) [[.p aB,.p a]]))->l<=s4.nx->VG V bn (N+200000) K E g2 j s4/\s4.O E=J (.row 2 g2 [[.p nl,.p nl]]):=by intro s4 f cT g b s;refine⟨⟨f,cT,g,by rw[b];exact O.aL aj,λt P R=>by rw[b];grind,y,by rw[b];exact bK,k⟩,by rw[b];exact aj⟩
 have T:∀s4:St,s4.T 0=.ptr V bn 2 0 0->s4.T 2=.ptr E g2 2 0 0->s4.T 4=.p (I (j:Int))->s4.T 3=.ptr (w.nx+2) (c (w.nx+2)) 2 0 0->s4.T 10=.p (B (e==0))->s4.O=am d (w.nx+2) (J (.row 2 (c (w.nx+2)) [[.p aB,.p a]]))->l<=s4.nx->bx (X af) Y4 s4 λe H=>match e with|.exit i=>if i=1 then bO .normal H else bO (.exit i) H|e=>bO e H:=by
  intro s4 f cT g U W b s;obtain⟨u,v⟩:=S s4 f cT g b s;rw[show Y4=.cond (.t 10) _ .skip from rfl,kA,iF,W];cases he:(e==0) with
  |false=>rw[iV,mD];exact A s4 u v
  |true=>
   rw[jU];have b3:s4.O (w.nx+2)=J (.row 2 (c (w.nx+2)) [[.p aB,.p a]]):=by rw[b,bi]
   simp[U,b3,ba,cT,v,r,bI];intro g7;obtain⟨_,_,_,ab,aE,aI,aP,_⟩:=u;refine C _ aB a cg Q ⟨by simp[f],by simp[cT],by simp[g],ab.aL aj,aj,aw,bK,k⟩ Y m n o p
 exact T _ (by simp[h]) (by simp[F]) (by simp[L]) Y Y rfl aw
theorem ahB(hN:0<=N/\N<=4611686018410000000)(x:fV V bn N K)(G:∀l c aB a cg Q,E<=l->fV V bn (N+1000000) c->jp cg Q->1<=Q.length->Sl 2 aB cg->Sl 10 a Q->(∀t,t<E->t≠V->c t=K t)->Fr c l->bA (.p (.agg [aB,a])) c l):
 X af 4 [.ptr V bn 2 0 0] K E bA:=by
 letI:Gh:=jo;refine X.of Y asd (by simp[D4]) λI=>?_;have d:V<E:=by obtain⟨_,_,e,_⟩:=x;exact I.lt e
 have z:∀(w:St) g2 aB a cg Q,w.T 2=.ptr E g2 2 0 0->w.O E=J (.row 2 g2 [[.p aB,.p a]])->E<=w.nx->fV V bn (N+1000000) w.O->jp cg Q->1<=Q.length->Sl 2 aB cg->Sl 10 a Q->(∀t,t<E->t≠V->w.O t=K t)->Fr w.O w.nx->jt w D4.rs λm=>ji E bA w.O w.nx (aM m):=by intro w g2 aB a cg Q f g n h o p q s L u;simp[D4,f,g,ba];exact .d8 u n (G w.nx w.O aB a cg Q n h o p q s L u)
 show bx _ (.seq _ (.seq (.seq _ (.block 0 (.loop anT))) SO)) _ _;rw[bF];simp[cN];intro g2 g3;refine⟨λt w=>∃j:Nat,t=5-j/\j<=5/\VG V bn (N+200000*j) K E (g2 E) j w/\w.O E=J (.row 2 (g2 E) [[.p nl,.p nl]]),⟨_,0,rfl,y,⟨Y,Y,Y,by simpa using x.aL aj,aj,aw,bK,d⟩,by simp[nl]⟩,?_⟩;rintro t w ⟨j,rfl,hj,M,g⟩;have O:=lW (i:=j) y;have R:=M;obtain⟨A,f,v,h,B,n,u,_⟩:=R;refine lX v rfl (λad S=>?_) λag S=>?_;rw[bF];refine agq (j:=j) y ⟨by simp[A],by simp[f],by simp[v],h,B,aw,bK,d⟩ g (λs2 b k=>?_) λs2 aB a cg Q b k o p q s=>?_;show bx _ ac5 s2 _;obtain⟨C,cT,F,al,an,ao,ax,_⟩:=b;simp only[ac5,dD,eM,j6,sI,mZ,iF,zA,F,binOp,aC,dR,O];intro T;refine⟨Y,5-(j+1),y,j+1,rfl,y,⟨by simp[C],by simp[cT],Y,ak,U,aw,bK,d⟩,k⟩;exact⟨Y,z s2 (g2 E) aB a cg Q b.t2 k (by have:=b.hn;omega) (b.st.mono y) o p q s b.low b.fr⟩;show(0:Nat)=0/\bx _ SO _ _;refine⟨rfl,?_⟩;have W:∀s1:St,VG V bn (N+200000*j) K E (g2 E) j s1->s1.O E=J (.row 2 (g2 E) [[.p nl,.p nl]])->bx (X af) SO s1 λe H=>(e=.normal\/e=.ret)/\jt H D4.rs λm=>ji E bA H.O H.nx (aM m):=by intro s1 ab q2;obtain⟨C,cT,F,ac,ay,aE,aI,_⟩:=ab;have hc:D.cells (.p (.agg [nl,.im [Jd] 10 aa]))=[.p nl,.p (.im [Jd] 10 aa)]:=rfl;have p1:cF (Ls.map D.p)=.p (.agg Ls):=Y;have k:cF (Jd.map D.p)=.p (.agg Jd):=Y;rw[show SO=.seq _ .ret from rfl,bF,dD];intro T;simp[-wd,fh,bI,D.cells,P.cells,aJ,cF,dv];refine KV (r:=Ls) ar rfl ?_;simp[-wd,fh,bI,D.cells,P.cells,aJ,cF,dv];refine KV (r:=Jd) ar rfl ?_;simp[-wd,fh,bI,D.cells,P.cells,aJ,cF,dv,cT,q2];exact z _ (g2 E) nl (.im [Jd] 10 aa) [] [Jd] (by simp[cT]) bi aw ((ac.mono y).aL aj) arL Y aj aj aj bK
 exact W _ ⟨by simp[A],by simp[f],by simp[v],h,B,aw,bK,d⟩ g
def UK:d6:=⟨8,[.t 2],z 1 [q 2 (.mv (.c aD))] (.seq (z 2 [G 3 0,q 4 (.lP Z (.t 3) (.c aD))] (.cond (.t 4) (z 1 [q 2 (.mv (.c aD))] (.ret)) (.skip))) (z 4 [q 5 (.bQ 0 3 0 [aH,aH,aF] []),G 6 0,q 7 (jE 2 3 32 5 6),G 2 7] (.ret)))⟩
def alI:cW af Tryz.f144=J UK:=h
def Zs:d6:=⟨8,[.t 2],z 1 [q 2 (.mv (.c aD))] (.seq (z 2 [G 3 0,q 4 (.lP Z (.t 3) (.c aD))] (.cond (.t 4) (z 1 [q 2 (.mv (.c aD))] (.ret)) (.skip))) (z 4 [q 5 (.bQ 0 1 0 [aH] []),G 6 0,q 7 (jE 2 1 8 5 6),G 2 7] (.ret)))⟩
def ao8:cW af Tryz.f56=J Zs:=h
def D78:d6:=⟨8,[.t 2],z 1 [q 2 (.mv (.c aD))] (.seq (z 2 [G 3 0,q 4 (.lP Z (.t 3) (.c aD))] (.cond (.t 4) (z 1 [q 2 (.mv (.c aD))] (.ret)) (.skip))) (z 4 [q 5 (.bQ 0 3 0 [aF,aF,aH] []),G 6 0,q 7 (jE 2 3 40 5 6),G 2 7] (.ret)))⟩
def aog:cW af Tryz.f78=J D78:=h
def ad4:List aA:=[dA 12 9 (AM 11),q 13 (qa 9 12)]
def adX:List aA:=(q 8 (AM 7)::G 9 8::dA 10 9 (xM 1)::dA 11 9 (.call 25 [.t 10,.c aH,.c (I 999999999999999)])::ad4)
def aef:av:=.cond (.t 13) (z 2 [q 4 (.mv (.c (.v (.pointer ae)))),fR 5 1] (.ret)) (.skip)
def am3:av:=z 9 [G 14 0,G 15 1,G 16 1,q 17 (.Av 3 (.p (.v (.pointer ae)))),q 18 (.Av 4 (.p (.v (.pointer ae)))),q 19 (.build [aH,aH,aH,aH,.v (.map ae),.v (.map ae)] [(0,1,.t 14),(1,1,.t 15),(2,1,.t 16),(4,1,.t 17),(5,1,.t 18)]),q 20 (iU 6 6 19),G 4 20,fR 5 0] (.ret)
def D9:d6:=⟨21,[.t 4,.t 5],z 2 [q 4 (.mv (.c (.v (.pointer ae)))),fR 5 0] (.seq (z 8 (G 6 0::q 7 (.call 25 [.t 6,.c (I 1),.c (I 1000)])::adX)
 aef)
 am3)⟩
def ari:cW af Tryz.f9=J D9:=h
def D25:d6:=⟨15,[.t 6],z 1 [q 6 (gR Z)] (z 9 [G 7 0,G 8 1,q 9 (xB .geq 7 8),G 10 9,oT 11 10 (xM 0),oT 12 10 (xM 2),oT 13 10 (xB .leq 11 12),q 14 (jw 10 13),G 6 14] (.ret))⟩
def apH:cW af Tryz.f25=J D25:=h
def D12:d6:=⟨7,[.t 2],z 1 [fR 2 0] (z 5 [G 3 0,d5 4 3,oF 5 4 1,oL 6 1 5,G 2 6] (.ret))⟩
def ao6:cW af Tryz.f12=J D12:=h
def D13:d6:=⟨7,[.t 2],z 1 [fR 2 0] (z 5 [G 3 0,d5 4 3,oF 5 4 2,oL 6 1 5,G 2 6] (.ret))⟩
def ao5:cW af Tryz.f13=J D13:=h
def D14:d6:=⟨14,[.t 2],z 1 [fR 2 0] (.seq (.dg 12 aa [aZ 8 (xM 0),aZ 9 (xN 8),aZ 10 (xF 9 5),aZ 11 (xL 1 10),G 3 0,d5 4 3,oF 5 4 4,aZ 6 (xL 1 5),q 7 (.m .len 4 [.t 6]),q 12 (.m .len 9 [.t 11]),q 13 (xB .add 7 12),G 2 13]) (.ret))⟩
def apk:cW af Tryz.f14=J D14:=h
def D68:d6:=⟨10,[.cell 2 3 aa],z 2 [q 1 (iU 0 9 0),q 2 (.alloc 1 3 [aF,aH,aH])] (z 8 [oF 3 1 0,oL 4 1 3,oF 5 1 1,oL 6 1 5,oF 7 1 2,oL 8 1 7,q 9 (.build [aF,aH,aH] [(0,1,.t 4),(1,1,.t 6),(2,1,.t 8)]),oN (xS 3 2 9)] (.ret))⟩
def apX:cW af Tryz.f68=J D68:=h
def TD:d6:=⟨25,[.t 6],z 1 [q 6 (gR Z)] (z 19 [G 7 2,G 8 0,d5 9 8,oF 10 9 2,oL 11 1 10,q 12 (xB .lss 7 11),G 13 12,dA 14 13 (xM 1),dA 15 13 (.lP aa (.t 14) (.c (.v (.pointer ae)))),dA 16 13 (xM 15),oT 17 16 (xM 1),oT 18 16 (xN 17),oT 19 16 (xF 18 2),oT 20 16 (xL 1 19),oT 21 16 (xM 2),oT 22 16 (xB .gtr 20 21),dA 23 13 (jw 16 22),q 24 (qa 13 23),G 6 24] (.ret))⟩
def ae5:cW af Tryz.f69=J TD:=h
def D71:d6:=⟨18,[],z 8 [G 4 0,d5 5 4,oF 6 5 3,oL 7 1 6,q 8 (di .add 7 1),d5 9 4,oF 10 9 3,oN (xS 1 10 8)] (rF 8 [G 11 1,G 12 0,d5 13 12,oF 14 13 3,oL 15 1 14,d5 16 11,oF 17 16 3,oN (xS 1 17 15)])⟩
def apt:cW af Tryz.f71=J D71:=h
def agm:List aA:=[q 15 (.bQ 3 9 1 [aF,aH,aH,aH,aH,aH,aF,aD,aD] [(0,.t 14)]),q 16 (jE 4 9 120 12 15),G 3 16]
def YO:av:=rF 2 [q 17 (di .add 8 1),G 8 17]
def aol:av:=
 z 1 [q 9 (xB .lss 8 7)] (.seq (cX 9 0) (.seq (.block 1 (z 4 [q 10 (xI 9 6 8),cA 11 9 10,q 5 (.alloc 2 9 [aF,aH,aH,aH,aH,aH,aF,aD,aD]),oN (xS 9 5 11)] (rF 6 (G 12 3::cA 13 9 5::q 14 (oW 74 13)::agm))))
  YO))
def aeS:av:=z 2 [G 18 3,G 2 18] (.ret)
def D70:d6:=⟨19,[.t 2],z 1 [q 2 (.mv (.c aD))] (z 1 [q 3 (.mv (.c aD))] (.seq (z 3 [G 6 0,q 7 (fQ 6),fR 8 0] (.block 0 (.loop aol)))
 aeS))⟩
def aoL:cW af Tryz.f70=J D70:=h
def af8:List aA:=[vt (xS 1 9 5),oF 10 1 8,vt (xS 1 10 8)]
def af0:List aA:=(aZ 9 (xF 1 7)::q 8 (oW 56 7)::af8)
def afa:av:=z 2 [cA 11 9 1,oN (xS 9 2 11)] (.ret)
def D74:d6:=⟨12,[.cell 2 9 aa],z 2 [q 1 (iU 0 9 0),q 2 (.alloc 1 9 [aF,aH,aH,aH,aH,aH,aF,aD,aD])] (.seq (.dg 10 aa (aZ 6 (xF 1 8)::aZ 7 (xL 1 6)::oF 3 1 7::aZ 4 (xL 1 3)::q 5 (oW 144 4)::af0))
 afa)⟩
def aoW:cW af Tryz.f74=J D74:=h
def Vt(l:Sl 3 bS aS)(m:aS.length<=1000000)(j:∀a b,E<=a->Sl 3 b aS->bA (.p b) K a):X af 144 [.p bS] K E bA:=by
 refine X.fr ⟨_,Tryz.func144,by rfl,by rfl⟩ λk=>?_;refine X.rW ?_;have n:∀a e f,E<=a->nz K E 3 aS e f->∃c d,wR e f c d/\bA c d a:=λa e f g o=>by obtain⟨b,p,h⟩:=o.rW k;exact⟨_,_,p,j a b g h⟩
 have i:∀a b,E<=a->Sl 3 b aS->∃c d,wR (.p b) K c d/\bA c d a:=λa b g h=>⟨_,_,.refl _ _,j a b g h⟩;refine X.of Y alI (by simp[UK]) λ_=>?_;cases l with|nil=>simp[UK,cN];exact .d8 bK y (i _ _ y .nil)|im Q q=>cases aS with|nil=>simp[UK,cN,fP,dp];refine⟨λbC=>BS.l ?_,.d8 bK y (i _ _ y .nil)⟩;simp[fO,fF];exact .d8 bK y (i _ _ y (.im _ _))|cons be bB=>simp[-lB,UK,cN,fP,dp];intro bC;refine BS.l ?_;have r:fO K 3 (.p (.im (be::bB) 3 q))=J ((be::bB).map (·.map .p)):=vV (.im _ _);simp only[ij]at m;simp[r];refine⟨y,y,λaR=>.d8 ((k.mono y).am y) y (n _ _ _ y (.inr ⟨E+1+2+2,aR,y,Y,Y⟩))⟩
def Vf(l:Sl 1 bS aS)(m:aS.length<=1000000)(j:∀a b,E<=a->Sl 1 b aS->bA (.p b) K a):X af 56 [.p bS] K E bA:=by
 refine X.fr ⟨_,Tryz.func56,by rfl,by rfl⟩ λk=>?_;refine X.rW ?_;have n:∀a e f,E<=a->nz K E 1 aS e f->∃c d,wR e f c d/\bA c d a:=λa e f g o=>by obtain⟨b,p,h⟩:=o.rW k;exact⟨_,_,p,j a b g h⟩
 have i:∀a b,E<=a->Sl 1 b aS->∃c d,wR (.p b) K c d/\bA c d a:=λa b g h=>⟨_,_,.refl _ _,j a b g h⟩;refine X.of Y ao8 (by simp[Zs]) λ_=>?_;cases l with|nil=>simp[Zs,cN];exact .d8 bK y (i _ _ y .nil)|im Q q=>cases aS with|nil=>simp[Zs,cN,fP,dp];refine⟨λbC=>BS.l ?_,.d8 bK y (i _ _ y .nil)⟩;simp[fO,fF];exact .d8 bK y (i _ _ y (.im _ _))|cons be bB=>simp[-lB,Zs,cN,fP,dp];intro bC;refine BS.l ?_;have r:fO K 1 (.p (.im (be::bB) 1 q))=J ((be::bB).map (·.map .p)):=vV (.im _ _);simp only[ij]at m;simp[r];refine⟨y,y,λaR=>.d8 ((k.mono y).am y) y (n _ _ _ y (.inr ⟨E+1+2+2,aR,y,Y,Y⟩))⟩
def Vg(l:Sl 3 bS aS)(m:aS.length<=1000000)(j:∀a b,E<=a->Sl 3 b aS->bA (.p b) K a):X af 78 [.p bS] K E bA:=by
 refine X.fr ⟨_,Tryz.func78,by rfl,by rfl⟩ λk=>?_;refine X.rW ?_;have n:∀a e f,E<=a->nz K E 3 aS e f->∃c d,wR e f c d/\bA c d a:=λa e f g o=>by obtain⟨b,p,h⟩:=o.rW k;exact⟨_,_,p,j a b g h⟩
 have i:∀a b,E<=a->Sl 3 b aS->∃c d,wR (.p b) K c d/\bA c d a:=λa b g h=>⟨_,_,.refl _ _,j a b g h⟩;refine X.of Y aog (by simp[D78]) λ_=>?_;cases l with|nil=>simp[D78,cN];exact .d8 bK y (i _ _ y .nil)|im Q q=>cases aS with|nil=>simp[D78,cN];refine⟨λbC=>BS.l ?_,.d8 bK y (i _ _ y .nil)⟩;simp[fO,fF];exact .d8 bK y (i _ _ y (.im _ _))|cons be bB=>simp[-lB,D78,cN,fP,dp];intro bC;refine BS.l ?_;have r:fO K 3 (.p (.im (be::bB) 3 q))=J ((be::bB).map (·.map .p)):=vV (.im _ _);simp only[ij]at m;simp[r];refine⟨y,y,λaR=>.d8 ((k.mono y).am y) y (n _ _ _ y (.inr ⟨E+1+2+2,aR,y,Y,Y⟩))⟩
inductive jv{α β:Type}(R:α->β->Prop):List α->List β->Prop|nil:jv R [] []|cons (a:α) (b:β) (l:List α) (l':List β):R a b->jv R l l'->jv R (a::l) (b::l')
def jv.length{c d:Type}{e:c->d->Prop}{a:List c}{b:List d}(f:jv e a b):a.length=b.length:=by induction f with|nil=>rfl|cons be g a b _ _ ih=>simp[ih]
def jv.j4{a:fU->fX->Prop}{b d:List fU}{c e:List fX}(f:jv a b c)(g:jv a d e):jv a (b++d) (c++e):=by induction f with|nil=>exact g|cons be i b c h _ ih=>exact .cons _ _ _ _ h ih
def jv.at{e f:Type}{g:e->f->Prop}{b:List e}{c:List f}(d:jv g b c):∀(i:Nat) be,b[i]? =J be->∃a,c[i]? =J a/\g be a:=by
 induction d with
 |nil=>intro i be d;simp at d
 |cons be a b c j _ ih=>intro i bH h;cases i with|zero=>simp at h;subst h;exact⟨a,rfl,j⟩|succ i=>simpa using ih i bH ar
def jv.jf{c:fU->fX->Prop}{a:List fU}{b:List fX}(d:jv c a b):∀(i:Nat),jv c (a.eraseIdx i) (b.eraseIdx i):=by
 induction d with
 |nil=>intro i;exact .nil
 |cons be g a b e f ih=>intro i;cases i with|zero=>exact f|succ i=>exact .cons _ _ _ _ e U
def jv.filter{b c:Type}{d:b->c->Prop}{g:b->Bool}{h:c->Bool}(W:∀be a,d be a->g be=h a){e:List b}{f:List c}(j:jv d e f):jv d (e.filter g) (f.filter h):=by induction j with|nil=>exact .nil|cons be a e f i _ ih=>rw[mc,mc,W be a i];split;exact .cons _ _ _ _ i ih;exact ar
structure AO where
 c:List P
 vs:List (List P)
 os:List (List P)
structure Obj(r:List P)(c:List P)(vs os:List (List P)):Prop where
 sh:∃q7 q8,r=c++[q7,q8]/\Sl 3 q7 vs/\Sl 1 q8 os
 hc:c.length=7
 hv:vs.length<=1000000
 ho:os.length<=1000000
theorem ag2{a:fg}:bp (aX [t] K) (am (only [t] K) t (J a))=am K t (J a):=by funext j;by_cases b:j=t;subst b;simp[bp,aX];simp[bp,aX,only,b];grind
def UP:only [t] K t=K t:=by simp[only]
def IE{k:List P}{b m:List (List P)}(z:Obj r k b m)(c:∀n o,E<=n->Obj o k b m->bA (.p (.agg o)) K n):X af 74 [.p (.agg r)] K E bA:=by
 obtain⟨⟨A,B,rfl,C,F⟩,p,q,s⟩:=z;refine X.of Y aoW (by simp[D74]) λG=>?_;have M:(k++[A,B]).length=9:=by simp[p]
 match k,p with
 |[d,e,f,g,h,i,j],_=>
  have H:∀be a,cF [.p d,.p e,.p f,.p g,.p h,.p i,.p j,.p be,.p a]=.p (.agg [d,e,f,g,h,i,j,be,a]):=λbe a=>jL (l:=[d,e,f,g,h,i,j,be,a]);have I:∀bS b,Sl 3 bS b->D.cells (.p bS)=[.p bS]:=λbS b c=>by simp[D.cells,ie c]
  have L:∀bS b,Sl 1 bS b->D.cells (.p bS)=[.p bS]:=λbS b c=>by simp[D.cells,ie c]
  have u:∀be a,D.cells (.p (.agg [d,e,f,g,h,i,j,be,a]))=[.p d,.p e,.p f,.p g,.p h,.p i,.p j,.p be,.p a]:=λbe a=>rfl;simp[D74,cN,u];intro N O;refine⟨[E],?_⟩;simp[aX,only,ba];refine Vt C q λQ be R v=>?_;simp[af0];refine Vf F s λS a T w=>?_;have x:E≠E+1:=y;simp[af8,bI,I be b v,L a m w,UP,x];rw[ag2];simp[afa,ba,H,u,bI,x];refine .low G y (λt U=>?_) (c _ _ y ⟨⟨be,a,rfl,v,w⟩,rfl,q,s⟩);rw[ai y,ai y,ai y,ai y]
abbrev jh(b:List P)(a:AO):Prop:=Obj b a.c a.vs a.os
structure CoS(O:ah)(nx:Nat)(q:P)(rows:List (List P))(ob:List AO)(j:Nat)(s:St):Prop where
 t6:s.T 6=.p q
 t7:s.T 7=.p (I rows.length)
 t8:s.T 8=.p (I j)
 L:∃l',de s.O nx 9 (aW l') (s.T 3)/\jv jh l' (ob.take j)
 low:∀k,k<nx->s.O k=O k
 hn:nx<=s.nx
 fr:Fr s.O s.nx
theorem ahL{e:List AO}(u:CoS K E bS aS e j w)(v:Sl 9 bS aS)(hl:aS.length<=1000)(x:jv jh aS e)(A:j<aS.length)(B:∀H,H.T 6=.p bS->H.T 7=.p (I aS.length)->H.T 8=.p (I j)->(∃a,de H.O E 9 (aW a) (H.T 3)/\jv jh a (e.take (j+1)))->(∀t,t<E->H.O t=K t)->E<=H.nx->Fr H.O H.nx->bO .normal H):
 bx (X af) (z 4 [q 10 (xI 9 6 8),cA 11 9 10,q 5 (.alloc 2 9 [aF,aH,aH,aH,aH,aH,aF,aD,aD]),oN (xS 9 5 11)] (rF 6 (G 12 3::cA 13 9 5::q 14 (oW 74 13)::agm))) w bO:=by
 obtain⟨C,t7,F,⟨a,L,h⟩,ag,hn,i⟩:=u;obtain⟨al,N,f⟩:=x.at j _ (bh A);have k:aS[j]? =J aS[j]:=Y;have O:=f;obtain⟨⟨P,q8,l,h7,h8⟩,Q,hv,an⟩:=O;have c:aS[j].length=9:=by rw[l];simp[Q]
 generalize aS[j]=r at k f l c;have m:r.take 9=r:=ak;have R:D.cells (.p (.agg r))=r.map .p:=by simp[D.cells,dw]
 have S:∀fq:List D,fq.length=9->bI fq (r.map .p) 0=r.map .p:=λfq T=>by simp[bI,c,rz,T]
 have W:cF (r.map D.p)=.p (.agg r):=Y;rw[bF,dD];intro n;simp[C,F,dm v,k,ft,c,m,R,S];intro g1;have e3:∀ao:Nat->D,True:=U;simp[ba,c,<-cD,m,W];refine IE f λax b ay o=>?_;have V:=o;obtain⟨⟨a7,a8,e2,b7,b8⟩,ab,_,_⟩:=V;have aB:b.length=9:=by rw[e2];simp[ab]
 have ac:D.cells (.p (.agg b))=b.map .p:=by simp[D.cells,dw]
 have ad:Fr (am w.O (w.nx+2) (J (.row 9 (n (w.nx+2)) [r.map .p]))) (w.nx+4):=(i.mono y).am y;show eN _ ([q 15 (.bQ 3 9 1 _ [(0,.t 14)]),q 16 (jE 4 9 120 12 15)]++[G 3 16]) _ _;rw[iX];have aE:∀t g,w.O t=J g->am w.O (w.nx+2) (J (.row 9 (n (w.nx+2)) [r.map .p])) t=J g:=λt g p=>(ai (by have:=i.lt p;omega)).trans p;have aI:a.length<=1000:=by have:=h.length;simp at this;omega
 refine wj (d:=.p (.agg b)) ad aw aw Y ak Y (L.gM ak) aw y y dK dK λaO M T' s q2 q3 q4 q5 q6 P=>?_;simp only[eM,j6,mZ,iF,dR];refine B _ ?_ ?_ ?_ ⟨a++[b],?_,?_⟩ (λt hk=>(q4 t hk).trans ((ai y).trans U)) aw q5;exact U;exact U;exact U;rw[ac,<-uZ]at s;simpa[q2]using s;rw[nf,N];exact h.j4 (.cons _ _ _ _ o .nil)
def BJ(m:Sl 9 bS aS)(v:aS.length<=1000){a:List AO}(n:jv jh aS a)(x:∀o f p,E<=o->Sl 9 f p->jv jh p a->bA (.p f) K o):X af 70 [.p bS] K E bA:=by
 refine X.fr ⟨_,Tryz.func70,by rfl,by rfl⟩ λq=>?_;refine X.rW ?_;refine X.of Y aoL (by simp[D70]) λ_=>?_;simp[D70,cN,dO m];intro bC;refine⟨λt w=>∃j:Nat,t=aS.length-j/\j<=aS.length/\CoS K E bS aS a j w,⟨_,0,rfl,y,Y,Y,Y,⟨[],.inl Y,.nil⟩,U,aw,bK⟩,?_⟩;rintro t w ⟨j,rfl,H,c⟩;have z:=lW (i:=j) y;refine lX c.t8 c.t7 (λI r=>?_) λL r=>?_;rw[bF,gQ];have A:CoS K E bS aS a j {w with T:=eF w.T 9 (.p (B aa)),nx:=w.nx+1,bs:=w.nx,gm:=r}:=by obtain⟨g,h,k,⟨b,l,d⟩,e,s,u⟩:=c;exact⟨by simp[g],by simp[h],by simp[k],⟨b,ar,d⟩,e,aw,bK⟩
 refine ahL A m v n y λs2 g h k C e s u=>?_;show bx _ YO s2 _;simp only[YO,dD,eM,j6,sI,mZ,iF,zA,k,binOp,aC,dR,z];intro g2;obtain⟨b,l,d⟩:=C;exact⟨Y,aS.length-(j+1),y,j+1,rfl,y,by simp[g],by simp[h],Y,⟨b,ar,d⟩,e,aw,bK⟩;obtain⟨g,h,k,⟨b,l,d⟩,e,s,u⟩:=c;refine⟨rfl,?_⟩;simp[aeS];have M:jv jh b a:=by
  have:a.take j=a:=cp (by have:=n.length;omega)
  rwa [this]at d
 have D:jq w.O E 9 b (w.T 3):=l.sl;refine jq.done D q bK y e λN F _=>?_;obtain⟨f,G,c⟩:=F.rW q;exact⟨_,_,G,x _ f b y c ar⟩
def ahQ{e:AO}{a:ByteArray}{b c:Int}{d:List P}(o:jh r e)(p:e.c=S a::I b::I c::d)(q:∀f,E<=f->bA (.p (.agg [S a,I b,I c])) K f):X af 68 [.p (.agg r)] K E bA:=by
 obtain⟨⟨g,h,i,v,w⟩,j,_,_⟩:=o;refine X.of Y apX (by simp[D68]) λs=>?_;rw[p]at i j;have u:d.length=4:=by simpa using j
 match d,u with|[k,l,m,n],_=>subst i;have x:D.cells (.p (.agg [S a,I b,I c,k,l,m,n,g,h]))=[.p (S a),.p (I b),.p (I c),.p k,.p l,.p m,.p n,.p g,.p h]:=rfl;have z:E≠E+1:=y;simp[D68,cN,ba,fh,bI,D.cells,P.cells,aJ,cF,dv,dw];intro A;refine .low s y (λt B=>?_) (q _ y);rw[ai y,ai y]
def PA{b d e:Int}(f:∀g,E<=g->bA (.p (B (decide (d<=b)&&decide (b<=e)))) K g):X af 25 [.p (I b),.p (I d),.p (I e)] K E bA:=by refine X.of Y apH (by simp[D25]) λh=>?_;by_cases a:d<=b;by_cases c:b<=e;simp[D25,cN,binOp,aC,a,c];exact .d8 bK y (by simpa[a,c]using f _ y);simp[D25,cN,binOp,aC,a,c];exact .d8 bK y (by simpa[a,c]using f _ y);simp[D25,cN,binOp,aC,a];exact .d8 bK y (by simpa[a]using f _ y)
structure CI where
 c:Nat
 gc:Nat
 o:Nat
 go:Nat
 l:Nat
 gl:Nat
structure CV where
 size:Int
 heard:Int
 floor:Int
 cf:Int
def CI.row(a:CI)(b:CV):List D:=[.p (I b.size),.p (I b.heard),.p (I b.floor),.p (I b.cf),.mp a.o a.go,.mp a.l a.gl]
def Q4{i:CI}{v:CV}{d e:P}{g:Int}(l:0<=v.cf/\v.cf<=1000000)(b:K i.c=J (.row 6 i.gc [i.row v]))(a:K id=J (.row 4 aR [[.p d,.p e,.p (I eV),.p (I g)]]))(h:∀f,E<=f->bA (.eQ []) (am (am K i.c (J (.row 6 i.gc [i.row {v with cf:=v.cf+1}]))) id (J (.row 4 aR [[.p d,.p e,.p (I eV),.p (I (v.cf+1))]]))) f):X af 71 [.ptr i.c i.gc 6 0 0,.ptr id aR 4 0 0] K E bA:=by
 refine X.of Y apt (by simp[D71]) λc=>?_;have m:=c.lt b;have n:=c.lt a;have j:id≠i.c:=by rintro rfl;rw[b]at a;cases a
 have k:cI.wrap (v.cf+1)=v.cf+1:=iK y y;simp[D71,cN,b,CI.row,ba,binOp,aC,k,bI,D.cells,P.cells,aJ,j,a];exact .d8 (((c.mono y).am y).am y) y (by simpa[CI.row]using h _ y)
def KS{a:CI}{c:CV}(d:K a.c=J (.row 6 a.gc [a.row c]))(e:∀f,E<=f->bA (.p (B (decide (eV<c.floor)))) K f):X af 69 [.ptr a.c a.gc 6 0 0,.p (.v (.pointer ae)),.p (I eV)] K E bA:=by refine X.of Y ae5 (by simp[TD]) λg=>?_;by_cases b:eV<c.floor;simp[TD,cN,d,CI.row,ba,binOp,aC,b];exact .d8 bK y (by simpa[b]using e _ y);simp[TD,cN,d,CI.row,ba,binOp,aC,b];exact .d8 bK y (by simpa[b]using e _ y)
def KM{a:CI}{c:CV}{d:List D}{e:Int}(f:K a.c=J (.row 6 a.gc [a.row c]))(i:K id=J (.row 4 aR [d]))(j:d[2]? =J (.p (I e)))(g:∀h,E<=h->bA (.p (B (decide (eV<c.floor)||decide (eV<e)))) K h):X af 69 [.ptr a.c a.gc 6 0 0,.ptr id aR 4 0 0,.p (I eV)] K E bA:=by refine X.of Y ae5 (by simp[TD]) λk=>?_;by_cases b:eV<c.floor;simp[TD,cN,f,CI.row,ba,binOp,aC,b];exact .d8 bK y (by simpa[b]using g _ y);simp[TD,cN,f,CI.row,ba,binOp,aC,b,i,j];exact .d8 bK y (by simpa[b]using g _ y)
theorem afT{a:CI}{h:CV}{co cl:Nat}{ko kl:List (P×D×Nat)}(n:ko.length<=1000000/\kl.length<=1000000)(c:K a.c=J (.row 6 a.gc [a.row h]))(d:K a.o=J (.map a.go co ko))(e:K a.l=J (.map a.gl cl kl))(i:∀f,E<=f->bA (.p (I ((ko.length+kl.length:Nat):Int))) K f):X af 14 [.ptr a.c a.gc 6 0 0] K E bA:=by
 refine X.of Y apk (by simp[D14]) λj=>?_;have o:=j.lt c;have k:a.o≠a.c:=by intro b;rw[b,c]at d;cases d
 have l:a.l≠a.c:=by intro b;rw[b,c]at e;cases e
 have m:cI.wrap ((ko.length:Int)+kl.length)=ko.length+kl.length:=iK y y;simp[cN];intro p q;refine⟨[a.c],?_⟩;simp[aX,only,c,CI.row,ba,th,k,l,d,e,binOp,aC,m];have b:bp (aX [a.c] K) (only [a.c] K)=K:=by funext t;by_cases g:t=a.c;subst g;simp[bp,aX,only];simp[bp,aX,only,g];grind
 rw[b];exact .d8 bK y (by simpa using i _ y)
def aiZ{a:CI}{b:CV}(d:K a.c=J (.row 6 a.gc [a.row b]))(e:∀c,E<=c->bA (.p (I b.heard)) K c):X af 12 [.ptr a.c a.gc 6 0 0] K E bA:=by refine X.of Y ao6 (by simp[D12]) λf=>?_;simp[D12,cN,d];exact .d8 bK y (e _ y)
def aiB{a:CI}{b:CV}(d:K a.c=J (.row 6 a.gc [a.row b]))(e:∀c,E<=c->bA (.p (I b.floor)) K c):X af 13 [.ptr a.c a.gc 6 0 0] K E bA:=by refine X.of Y ao5 (by simp[D13]) λf=>?_;simp[D13,cN,d];exact .d8 bK y (e _ y)
def Zn:List aA:=[G 4 8]
def ac8:d6:=⟨9,[.t 4],z 3 [q 2 (iU 0 3 0),q 3 (iU 1 1 1),q 4 (gR Z)] (z 5 (oF 5 2 2::oL 6 1 5::q 7 (wW 195 [.t 3])::q 8 (dV 194 6 7)::Zn) (.ret))⟩
def anm:cW af Tryz.f143=J ac8:=h
def aam:List aA:=[G 3 6]
def acY:d6:=⟨7,[.t 3],z 2 [q 2 (iU 0 3 0),q 3 (gR Z)] (z 4 (oL 4 1 1::q 5 (wW 196 [.t 2])::q 6 (dV 194 4 5)::aam) (.ret))⟩
def ajq:cW af Tryz.f195=J acY:=h
def sL:d6:=⟨33,[.t 3],z 2 [q 2 (iU 0 3 0),q 3 (gR Z)] (z 30 [oF 4 1 0,oL 5 1 4,oF 6 2 0,oL 7 1 6,q 8 (xB .eql 5 7),G 9 8,oT 10 9 (xF 1 1),oT 11 9 (xL 1 10),oT 12 9 (xF 2 1),oT 13 9 (xL 1 12),oT 14 9 (xB .eql 11 13),q 15 (jw 9 14),G 16 15,oT 17 16 (xF 1 2),oT 18 16 (xL 1 17),oT 19 16 (xF 2 2),oT 20 16 (xL 1 19),oT 21 16 (xB .eql 18 20),oT 22 16 (xM 21),dA 23 22 (xF 1 2),dA 24 22 (xL 1 23),dA 25 22 (di .eql 24 0),oT 26 16 (qa 22 25),oT 27 16 (xM 26),dA 28 27 (xF 2 2),dA 29 27 (xL 1 28),dA 30 27 (di .eql 29 0),oT 31 16 (qa 27 30),q 32 (jw 16 31),G 3 32] (.ret))⟩
def anl:cW af Tryz.f196=J sL:=h
def aac:List aA:=[q 8 (di .geq 7 0),G 4 8]
def ad6:d6:=⟨9,[.t 4],z 1 [q 4 (gR Z)] (z 5 (G 5 0::G 6 1::q 7 (dV 270 5 6)::aac) (.ret))⟩
def anu:cW af Tryz.f194=J ad6:=h
def UY:av:=.cond (.t 16) (z 2 [G 17 5,G 4 17] (.ret)) (.skip)
def aaG:av:=rF 2 [q 18 (di .add 8 1),G 8 18]
def alb:av:=
 z 1 [q 9 (xB .lss 8 7)] (.seq (cX 9 0) (.seq (.block 1 (z 2 [G 10 8,G 5 10] (z 6 [G 11 1,G 12 0,G 13 5,q 14 (xI 3 12 13),cA 15 3 14,q 16 (.iI (.t 11) [.t 15])]
  UY)))
  aaG))
def aax:av:=z 1 [fR 4 (-1)] (.ret)
def acm:d6:=⟨19,[.t 4],z 1 [fR 4 0] (.seq (z 3 [G 6 0,q 7 (fQ 6),fR 8 0] (.block 0 (.loop alb)))
 aax)⟩
def amG:cW af Tryz.f270=J acm:=h
def abt:List aA:=[q 8 (di .geq 7 0),G 4 8]
def acg:d6:=⟨9,[.t 4],z 2 [q 3 (iU 0 3 1),q 4 (gR Z)] (z 5 (G 5 0::cA 6 3 3::q 7 (dV 193 5 6)::abt) (.ret))⟩
def am8:cW af Tryz.f141=J acg:=h
def alq:av:=z 1 [q 9 (xB .lss 8 7)] (.seq (cX 9 0) (.seq (.block 1 (z 2 [G 10 8,G 5 10] (z 6 [cA 11 3 3,G 12 0,G 13 5,q 14 (xI 3 12 13),cA 15 3 14,q 16 (.pf (.eq Z [.s,.i,.i]) [.t 11,.t 15])] (.cond (.t 16) (z 2 [G 17 5,G 4 17] (.ret)) (.skip))))) (rF 2 [q 18 (di .add 8 1),G 8 18])))
def acF:d6:=⟨19,[.t 4],z 2 [q 3 (iU 0 3 1),fR 4 0] (.seq (z 3 [G 6 0,q 7 (fQ 6),fR 8 0] (.block 0 (.loop alq))) (z 1 [fR 4 (-1)] (.ret)))⟩
def akR:cW af Tryz.f193=J acF:=h
def AK:av:=z 1 [q 19 (xB .lss 18 17)] (.seq (cX 19 2) (.seq (.block 3 (z 4 [q 20 (xI 3 16 18),cA 21 3 20,q 8 (.alloc 2 3 [aF,aF,aH]),oN (xS 3 8 21)] (z 29 [oF 22 6 0,oL 23 1 22,oF 24 8 0,oL 25 1 24,q 26 (xB .eql 23 25),G 27 26,oT 28 27 (xF 6 1),oT 29 27 (xL 1 28),oT 30 27 (xF 8 1),oT 31 27 (xL 1 30),oT 32 27 (xB .eql 29 31),q 33 (jw 27 32),G 34 33,oT 35 34 (xF 6 2),oT 36 34 (xL 1 35),oT 37 34 (xF 8 2),oT 38 34 (xL 1 37),oT 39 34 (xB .eql 36 38),oT 40 34 (xM 39),dA 41 40 (xF 6 2),dA 42 40 (xL 1 41),dA 43 40 (di .eql 42 0),oT 44 34 (qa 40 43),oT 45 34 (xM 44),dA 46 45 (xF 8 2),dA 47 45 (xL 1 46),dA 48 45 (di .eql 47 0),oT 49 34 (qa 45 48),q 50 (jw 34 49)] (.cond (.t 50) (z 1 [q 4 (gR aa)] (.ret)) (.skip))))) (rF 2 [q 51 (di .add 18 1),G 18 51])))
def anB:av:=z 1 [q 13 (xB .lss 12 11)] (.seq (cX 13 0) (.seq (.block 1 (z 4 [q 14 (xI 3 10 12),cA 15 3 14,q 6 (.alloc 2 3 [aF,aF,aH]),oN (xS 3 6 15)] (z 3 [G 16 1,q 17 (fQ 16),fR 18 0] (.block 2 (.loop AK))))) (rF 2 [q 52 (di .add 12 1),G 12 52])))
def acZ:d6:=⟨53,[.t 4],z 2 [q 2 (iU 0 3 0),q 4 (gR Z)] (.seq (z 4 [oF 9 2 2,oL 10 1 9,q 11 (fQ 10),fR 12 0] (.block 0 (.loop anB))) (z 1 [q 4 (gR Z)] (.ret)))⟩
def alt:cW af Tryz.f147=J acZ:=h
def qw(a:List P):Prop:=∃(b bB:ByteArray) (cJ:Int),a=[S b,S bB,I cJ]
def se(b c:List P):Bool:=match b,c with|[.v (.string d),.v (.string r),.v (.int _ cJ)],[.v (.string e),.v (.string f),.v (.int _ a)]=>(d.toList==e.toList)&&((r.toList==f.toList)&&((cJ==a||cJ==0)||a==0))|_,_=>Z
def pX(a b:List (List P)):Bool:=a.any λbe=>b.any (se be)
def zZ(a:List P->Bool)(b:List (List P)):Int:=match b.findIdx? a with|some i=>i|none=> -1
def On(b:∀i r,i<j->aS[i]? =J r->p r=Z)(a:aS[j]? =J r)(W:p r=aa):zZ p aS=j:=by
 have:aS.findIdx? p=J j:=by rw[ms];have c:=(bq.1 a).1;refine⟨c,by rw[(bq.1 a).2];exact W,λi d=>?_⟩;have:=b i aS[i] d (bh _);simp[this]
 simp[zZ,this]
def JJ(a:∀(i:Nat) r,aS[i]? =J r->p r=Z):zZ p aS= -1:=by
 have:aS.findIdx? p=ae:=by rw[ui];intro r b;obtain⟨i,c,rfl⟩:=eD b;exact a i _ Y
 simp[zZ,this]
theorem TL:decide (zZ p aS>=0)=aS.any p:=by unfold zZ;grind
structure IdS(O:ah)(nx:Nat)(q:D)(f:D)(n j:Nat)(s:St):Prop where
 t0:s.T 0=q
 t1:s.T 1=f
 t6:s.T 6=q
 t7:s.T 7=.p (I n)
 t8:s.T 8=.p (I j)
 hO:s.O=O
 hn:nx<=s.nx
theorem aea{F:FuncId}(d:Sl 3 bS aS)(G:aS.length<=100000)(b:∀r∈aS,r.length=3)(u:∀r∈aS,∀a (e:D->ah->Nat->Prop),E<=a->(∀f,a<=f->e (.p (B (p r))) K f)->X af F (.p (.agg r)::fJ) K a e)(g:∀a,E<=a->bA (.p (I (zZ p aS))) K a):X af 270 [.p bS,.fn (.func F) [] fJ] K E bA:=by
 refine X.of Y amG (by simp[acm]) λH=>?_;simp[acm,cN,dO d];intro bC;refine⟨λt w=>∃j:Nat,t=aS.length-j/\j<=aS.length/\IdS K E (.p bS) (.fn (.func F) [] fJ) aS.length j w/\∀i r,i<j->aS[i]? =J r->p r=Z,⟨_,0,rfl,y,⟨Y,Y,Y,Y,Y,rfl,aw⟩,ak⟩,?_⟩;rintro t w ⟨j,rfl,L,⟨h,k,v,l,c,m,M⟩,n⟩;have x:=lW (i:=j) y;refine lX c l (λN z=>?_) λO z=>?_;have A:j<aS.length:=y;have o:aS[j]? =J aS[j]:=Y;have q:=bJ A;have s:=b _ q;generalize aS[j]=r at o q s;have C:r.take 3=r:=ak;rw[bF,gQ];simp[c,k,h,dm d,o,ft,s,C,m];intro g2;refine u r ar _ _ y λP Q=>?_;cases W:p r with|true=>simp[UY];exact .d8 bK y (by rw[<-On n ar W];exact g _ y)|false=>simp[UY,aaG,c,binOp,aC,x];intro R;refine⟨aS.length-(j+1),y,j+1,rfl,y,⟨by simp[h],by simp[k],by simp[v],by simp[l],Y,Y,aw⟩,λi S T U=>?_⟩;grind
 refine⟨rfl,?_⟩;simp[aax];rw[m];refine .d8 bK y ?_;rw[<-JJ λi r b=>n i r (by have:=(bq.1 b).1;omega) b];exact g _ y
def PQ{F:FuncId}(d:Sl 3 bS aS)(e:aS.length<=100000)(f:∀r∈aS,r.length=3)(g:∀r∈aS,∀a (b:D->ah->Nat->Prop),E<=a->(∀c,a<=c->b (.p (B (p r))) K c)->X af F (.p (.agg r)::fJ) K a b)(h:∀a,E<=a->bA (.p (B (aS.any p))) K a):X af 194 [.p bS,.fn (.func F) [] fJ] K E bA:=by refine X.of Y anu (by simp[ad6]) λl=>?_;simp[ad6,cN];intro bC;refine aea d e f (λr i a b m j=>g r i a b y j) λk n=>?_;simp[aac,binOp];have:=h k y;rw[<-TL]at this;exact .d8 bK y (by simpa using this)
def zI:av->List aA|.seq _ (.seq (.dg _ _ bB) _)=>bB|_=>[]
theorem acz{C F:List P}(ha:qw C)(hb:qw F)(hO:K id=J (.row 3 aR [C.map .p]))(ad:∀s,E<=s->bA (.p (B (se C F))) K s):X af 196 [.p (.agg F),.ptr id aR 3 0 0] K E bA:=by
 refine X.of Y anl (by simp[sL]) λV=>?_;obtain⟨k,r,cJ,rfl⟩:=ha;obtain⟨d,c,b,rfl⟩:=hb;have n1:=V.lt hO;have ay:id≠E:=y;have ag:D.cells (.p (.agg [S d,S c,I b]))=[.p (S d),.p (S c),.p (I b)]:=rfl;have aB:∀u e s,E+1<=s->se [S k,S r,I cJ] [S d,S c,I b]=u->ji E bA (am K E (J (.row 3 e [[.p (S d),.p (S c),.p (I b)]]))) s (.p (B u)):=by intro u e s hn l;refine .low V y (λt hk=>ai y) ?_;rw[<-l];exact ad _ y
 rw[show sL.body= z 2 [q 2 (iU 0 3 0),q 3 (gR Z)] (z 30 ((zI sL.body).take 6++((zI sL.body).drop 6).take 5++(((zI sL.body).drop 11).take 2++(((zI sL.body).drop 13).take 15++(zI sL.body).drop 28))) .ret) from rfl];rw[bF];simp[cN,ag];intro e g2;simp only[iX];have m:am K E (J (.row 3 (e E) [[.p (S d),.p (S c),.p (I b)]])) id=J (.row 3 aR [[.p (S k),.p (S r),.p (I cJ)]]):=U;have n:am K E (J (.row 3 (e E) [[.p (S d),.p (S c),.p (I b)]])) E=J (.row 3 (e E) [[.p (S d),.p (S c),.p (I b)]]):=Y;have W:∀u,se [S k,S r,I cJ] [S d,S c,I b]=u->ji E bA (am K E (J (.row 3 (e E) [[.p (S d),.p (S c),.p (I b)]]))) (E+2+30) (.p (B u)):=U;revert m n W;generalize am K E (J (.row 3 (e E) [[.p (S d),.p (S c),.p (I b)]]))=bM;intro m n W;have al:∀(a:Nat->D) (i:St->Prop),a 1=.ptr id aR 3 0 0->a 2=.ptr E (e E) 3 0 0->(∀f,f 1=.ptr id aR 3 0 0->f 2=.ptr E (e E) 3 0 0->f 9=.p (B (k.toList==d.toList))->i {T:=f,O:=bM,nx:=E+2+30,bs:=E+2,gm:=g2})->eN (X af) ((zI sL.body).take 6) {T:=a,O:=bM,nx:=E+2+30,bs:=E+2,gm:=g2} i:=by intro a i g h x;show eN _ [oF 4 1 0,oL 5 1 4,oF 6 2 0,oL 7 1 6,q 8 (xB .eql 5 7),G 9 8] _ _;simp[g,h,m,n,binOp,gD];exact x _ (by simp[g]) (by simp[h]) Y
 have an:∀(a:Nat->D) (i:St->Prop) (bH:Bool),a 1=.ptr id aR 3 0 0->a 2=.ptr E (e E) 3 0 0->a 9=.p (B bH)->(∀f,f 1=.ptr id aR 3 0 0->f 2=.ptr E (e E) 3 0 0->f 16=.p (B (bH&&(r.toList==c.toList)))->i {T:=f,O:=bM,nx:=E+2+30,bs:=E+2,gm:=g2})->eN (X af) (((zI sL.body).drop 6).take 5) {T:=a,O:=bM,nx:=E+2+30,bs:=E+2,gm:=g2} λH=>eN (X af) (((zI sL.body).drop 11).take 2) H i:=by
  intro a i bH g h o x;have L:∀(a:Nat->D) (j:D),a 1=.ptr id aR 3 0 0->a 2=.ptr E (e E) 3 0 0->a 9=.p (B bH)->(bH=aa->a 14=.p (B (r.toList==c.toList)))->eN (X af) (((zI sL.body).drop 11).take 2) {T:=a,O:=bM,nx:=E+2+30,bs:=E+2,gm:=g2} i:=by intro a j g h o ao;show eN _ [q 15 (jw 9 14),G 16 15] _ _;cases bH with|true=>simp[o,ao rfl];exact x _ (by simp[g]) (by simp[h]) Y|false=>simp[o];exact x _ (by simp[g]) (by simp[h]) Y
  cases bH with|true=>show eN _ [oT 10 9 (xF 1 1),oT 11 9 (xL 1 10),oT 12 9 (xF 2 1),oT 13 9 (xL 1 12),oT 14 9 (xB .eql 11 13)] _ λH=>eN (X af) (((zI sL.body).drop 11).take 2) H i;generalize hL:((zI sL.body).drop 11).take 2=L2 at L⊢;simp[g,h,o,m,n,ba,binOp,gD];exact L _ (.p nl) (by simp[g]) (by simp[h]) (by simp[o]) Y|false=>refine vD _ [] (by rfl) o ak λf w=>?_;exact L f (.p nl) ((w 1 eB).trans g) ((w 2 eB).trans h) ((w 9 eB).trans o) Y
 refine al _ _ Y Y λT1 a1 cT a9=>an T1 _ _ a1 cT a9 λT2 M N p=>?_;have ab:∀(a:Nat->D) (j:Bool),a 16=.p (B j)->(j=aa->a 31=.p (B (((cJ==b)||(cJ==0))||(b==0))))->se [S k,S r,I cJ] [S d,S c,I b]=(j&&(((cJ==b)||(cJ==0))||(b==0)))->eN (X af) ((zI sL.body).drop 28) {T:=a,O:=bM,nx:=E+2+30,bs:=E+2,gm:=g2} λH=>jt H sL.rs λQ=>ji E bA H.O H.nx (aM Q):=by intro a j ac ax l;show eN _ [q 32 (jw 16 31),G 3 32] _ _;cases j with|true=>simp[ac,ax rfl,sL];exact U|false=>simp[ac,sL];exact U
 have l:se [S k,S r,I cJ] [S d,S c,I b]=(((k.toList==d.toList)&&(r.toList==c.toList))&&(((cJ==b)||(cJ==0))||(b==0))):=by simp only[se,Bool.and_assoc]
 revert p l;generalize ((k.toList==d.toList)&&(r.toList==c.toList))=j;intro p l;cases j with
 |false=>refine vD _ [] (by rfl) p ak λf w=>?_;exact ab f Z ((w 16 eB).trans p) Y l
 |true=>
  show eN _ [oT 17 16 (xF 1 2),oT 18 16 (xL 1 17),oT 19 16 (xF 2 2),oT 20 16 (xL 1 19),oT 21 16 (xB .eql 18 20),oT 22 16 (xM 21),dA 23 22 (xF 1 2),dA 24 22 (xL 1 23),dA 25 22 (di .eql 24 0),oT 26 16 (qa 22 25),oT 27 16 (xM 26),dA 28 27 (xF 2 2),dA 29 27 (xL 1 28),dA 30 27 (di .eql 29 0),oT 31 16 (qa 27 30)] _ _;generalize hL:(λH=>eN (X af) ((zI sL.body).drop 28) H λH=>jt H sL.rs λQ=>ji E bA H.O H.nx (aM Q))=K3;have R:∀(a:Nat->D),a 16=.p (B aa)->a 31=.p (B (((cJ==b)||(cJ==0))||(b==0)))->K3 {T:=a,O:=bM,nx:=E+2+30,bs:=E+2,gm:=g2}:=λa g h=>by rw[<-hL];exact ab a aa g U l
  by_cases v:(cJ==b)=aa;simp[M,N,p,m,n,ba,binOp,aC,v];exact R _ ar (by simp[v]);have v:(cJ==b)=Z:=by simpa using v
  by_cases A:(cJ==0)=aa;simp[M,N,p,m,n,ba,binOp,aC,v,A];exact R _ ar U;have A:(cJ==0)=Z:=by simpa using A
  simp[M,N,p,m,n,ba,binOp,aC,v,A];exact R _ ar U
def acJ{a:List P}(c:qw a)(g:Sl 3 bS fw)(h:∀r∈fw,qw r)(i:fw.length<=100000)(d:K id=J (.row 1 aR [[.p bS]]))(j:∀b,E<=b->bA (.p (B (fw.any (se a)))) K b):X af 195 [.p (.agg a),.ptr id aR 1 0 0] K E bA:=by
 refine X.of Y ajq (by simp[acY]) λe=>?_;have o:=e.lt d;have p:id≠E:=y;have k:D.cells (.p (.agg a))=a.map .p:=by simp[D.cells,dw]
 have l:a.length=3:=by obtain⟨m,r,cJ,rfl⟩:=c;rfl
 simp(disch:=omega)[acY,cN,k,l,d,ba];intro q g2;refine PQ g i (λr f=>by obtain⟨m,r,cJ,rfl⟩:=h r f;rfl) (λr f b s u n=>acz c U Y n) λv w=>?_;simp[aam];exact .low e y (λt x=>ai y) (j _ y)
def abP{b:P}{a:P}{c:List (List P)}{r0:P}(e:Sl 3 b c)(f:Sl 3 bS fw)(h:∀r∈c,qw r)(i:∀r∈fw,qw r)(o:fw.length<=100000/\c.length<=100000)(p:a.cells=[a])(q:r0.cells=[r0])(j:∀d,E<=d->bA (.p (B (pX c fw))) K d):X af 143 [.p (.agg [a,r0,b]),.p bS] K E bA:=by
 refine X.of Y anm (by simp[ac8]) λk=>?_;have l:D.cells (.p (.agg [a,r0,b]))=[.p a,.p r0,.p b]:=rfl;have m:D.cells (.p bS)=[.p bS]:=by simp[D.cells,ie f]
 have s:E≠E+1:=y;simp(disch:=omega)[ac8,cN,l,m];intro u g2;refine PQ e y (λr g=>by obtain⟨v,r,cJ,rfl⟩:=h r g;rfl) (λr g d w e n=>acJ U f i y Y n) λx z=>?_;simp[Zn];refine .low k y (λt A=>?_) (j _ y);rw[ai y,ai y]
end Go.Dl
