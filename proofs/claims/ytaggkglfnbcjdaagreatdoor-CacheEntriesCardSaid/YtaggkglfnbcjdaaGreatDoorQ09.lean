import Derived.Test.YtaggkglfnbcjdaaGreatDoorProg
import Derived.Shelf.Small.Strs
import Derived.Shelf.Strings.Search1
import Derived.Shelf.Strings.Repeat
import Derived.Test.YtaggkglfnbcjdaaGreatDoorQ08
set_option linter.all false
set_option maxRecDepth 1000000
set_option maxHeartbeats 40000000
namespace Go.Dl.Ai
end Go.Dl.Ai
namespace Go.Proofs
end Go.Proofs
namespace Ty
end Ty
open Bool renaming false->Z,true->aa
open ByteArray renaming data_append->Um,size->iO
open Go.Lib renaming compareBytes->rh,indexByte->oh,indexByte_ge->HQ,repeatL->BM
open Go.Proofs.Tryz renaming func97->JM,prog->af
open Go.RowKit renaming Below->HK
open Go.Value renaming oneCell'->aJ
open List renaming getElem?_take_of_lt->D0,length_append->fj,map_append->cG,mem_map->bN,set->nj
open Nat renaming beq->au
open Option renaming none->ae,some->J
open Go Go.Dl Go.Dl.Ai
def BB:=@Nat.mul_le_mul
variable {o aB e bO cJ cU:ByteArray}{bS bH n:List P}{C p H V ag aP cg bM t:P}{bX aR j M id bn db eb ge c0 w dH:Nat}{f u:St}{v L aS:List (List P)}{bZ:Exit->St->Prop}{be bu bA bB bT dT eJ:Bool}{K:D->ah->Nat->Prop}{cE:Program}{vs0:List Value}{eK eV:Hp}{bC:cC}{d:D}{Q:ah}{erow:List D}{eZ fe:Int}{cT:List CT}
namespace Go.Dl
open Go.Proofs Go.Dl.Ai
def Zz:av:=rF 2 [q 39 (di .add 28 1),G 28 39]
def SR:av:=
 z 1 [q 29 (xB .lss 28 27)] (.seq (cX 29 0) (.seq (.block 1 (z 3 [q 30 (xI 1 26 28),oL 31 1 30,G 8 31] (rF 8 [oF 32 6 1,oL 33 1 32,G 34 8,q 35 (.build [aF,aH,dZ,aH,aH,aF] [(0,1,.t 34),(1,1,.c (I 2))]),q 36 (.bQ 4 6 1 [aF,aH,dZ,aH,aH,aF] [(0,.t 35)]),q 37 (jE 5 6 64 33 36),oF 38 6 1,oN (xS 1 38 37)])))
  Zz))
def ahx:av:=rF 3 [cA 108 2 2,cA 109 10 13,q 110 (sV 170 108 109 6)]
def aif:av:=
 .cond (.t 92) (.seq (.dg 16 aa [aZ 93 (xF 6 1),aZ 94 (xL 1 93),cA 95 2 2,cA 96 10 13,oF 97 13 1,oL 98 1 97,q 99 (.lS .neq 0 (.t 98) (.c aF)),G 100 99,oT 101 100 (xF 5 2),oT 102 100 (xL 1 101),oT 103 100 (AM 102),q 104 (jw 100 103),q 105 (sV 169 95 96 104),q 106 (jE 13 6 64 94 105),oF 107 6 1,vt (xS 1 107 106)])
  ahx) (.skip)
def ai5:av:=
 .seq (.dg 6 aa [aZ 90 (xF 3 0),aZ 91 (xL 1 90),cA 87 2 2,G 88 12,q 89 (dV 110 87 88),q 92 (xB .eql 89 91)])
  aif
def agP:av:=rF 2 [q 111 (di .add 76 1),G 76 111]
def ahi:av:=
 z 1 [q 77 (xB .lss 76 75)] (.seq (cX 77 2) (.seq (.block 3 (z 3 [q 78 (xI 1 74 76),oL 79 1 78,G 12 79] (.seq (.dg 9 aa [aZ 80 (xF 2 1),aZ 81 (jP 1 80),aZ 82 (CM 2 2),aZ 13 (.alloc 7 10 [aF,aF,dZ,dZ,dZ,dZ,aD,aD,aD,aD]),G 83 12,q 84 (dV 96 82 83),q 85 (xI 10 81 84),q 86 (CM 10 85),vt (xS 10 13 86)])
  ai5)))
  agP))
def aix:av:=z 2 [cA 112 5 6,oN (xS 5 4 112)] (.ret)
def alT:av:=
 .seq (z 3 [G 74 10,q 75 (fQ 74),fR 76 0] (.block 2 (.loop ahi)))
  aix
def akO:av:=
 .seq (z 3 [oF 61 3 1,oL 62 1 61,q 63 (.lS .neq 0 (.t 62) (.c aF))] (.cond (.t 63) (rF 11 [oF 64 6 3,oL 65 1 64,oF 66 3 1,oL 67 1 66,oF 68 6 2,oL 69 1 68,q 70 (.build [aF,aD,aF] [(0,1,.c (S ⟨#[117,112,95]⟩)),(2,1,.t 67),(1,1,.t 69)]),q 71 (.bQ 7 3 1 [aF,aD,aF] [(0,.t 70)]),q 72 (jE 8 3 56 65 71),oF 73 6 3,oN (xS 1 73 72)]) (.skip)))
  alT
def ak0:av:=
 z 5 [G 56 9,oF 57 5 4,oL 58 1 57,q 59 (.build [aF,aH,dZ,aH,aH,aF] [(0,1,.c (S ⟨#[103,111,110,101]⟩)),(1,1,.c (I 4)),(2,1,.c (B aa))]),q 60 (.iI (.t 56) [.t 58,.t 59])]
  akO
def akL:av:=
 z 5 [G 51 9,oF 52 5 3,oL 53 1 52,q 54 (.build [aF,aH,dZ,aH,aH,aF] [(0,1,.c (S ⟨#[118,101,114,115,105,111,110]⟩)),(1,1,.c (I 2))]),q 55 (.iI (.t 51) [.t 53,.t 54])]
  ak0
def amO:av:=
 z 6 [G 45 9,G 46 10,q 47 (fQ 46),q 48 (di .gtr 47 1),q 49 (.build [aF,aH,dZ,aH,aH,aF] [(0,1,.c (S ⟨#[116,121,112,101]⟩)),(1,1,.c (I 3))]),q 50 (.iI (.t 45) [.t 48,.t 49])]
  akL
def JH:av:=
 z 2 [q 40 (wW 168 [.t 3,.t 6]),G 9 40] (z 5 [cA 41 2 2,oF 42 5 0,oL 43 1 42,q 44 (dV 17 41 43),G 10 44]
  amO)
def UL:av:=
 .seq (z 4 [oF 25 6 2,oL 26 1 25,q 27 (fQ 26),fR 28 0] (.block 0 (.loop SR)))
  JH
def akX:av:=
 .seq (.dg 9 aa [aZ 18 (xF 3 0),aZ 19 (jP 1 18),aZ 6 (.alloc 7 5 [aF,aD,aD,aD,aD]),oF 20 5 5,q 21 (jP 1 20),q 22 (.bQ 4 1 1 [aF] [(0,.c (S ⟨#[105,100]⟩))]),q 23 (dV 167 21 22),q 24 (.build [aF,aD,aD,aD,aD] [(0,1,.t 19),(2,1,.t 23)]),vt (xS 5 6 24)])
  UL
def YC:d6:=⟨113,[.cell 4 5 aa],z 3 [q 2 (iU 0 2 0),q 3 (iU 1 10 1),q 4 (.alloc 2 5 [aF,aD,aD,aD,aD])] (z 6 [cA 14 2 2,oF 15 3 0,oL 16 1 15,q 17 (dV 51 14 16),q 5 (.alloc 4 10 [aF,aF,dZ,dZ,dZ,dZ,aD,aD,aD,aD]),oN (xS 10 5 17)]
 akX)⟩
def anp:cW af Tryz.f111=J YC:=h
def bId:ByteArray:=⟨#[105,100]⟩
def qF(has:Bool):List (List P):=(if has then [[S uG]] else [])++[[S bId]]
def kq(a:List P):List P:=match a with|[aB]=>[aB,I 2,B Z,I 0,I 0,S ⟨#[]⟩]|_=>[]
structure I1(a:ByteArray)(er rr:List P)(e0 x q:P)(O:ah)(nx tr tt:Nat)(cols:List (List P))(s:St):Prop where
 h2:∃g,s.T 2=.ptr nx g 2 0 0/\s.O nx=J (.row 2 g [[.p e0,.p x]])
 h3:∃g,s.T 3=.ptr (nx+1) g 10 0 0/\s.O (nx+1)=J (.row 10 g [er.map .p])
 h4:∃g,s.T 4=.ptr (nx+2) g 5 0 0/\s.O (nx+2)=J (.row 5 g [[.p aF,.p aD,.p aD,.p aD,.p aD]])
 h5:∃g,s.T 5=.ptr tr g 10 0 0/\s.O tr=J (.row 10 g [rr.map .p])
 h6:∃g dc,s.T 6=.ptr tt g 5 0 0/\s.O tt=J (.row 5 g [[.p (S a),dc,.p q,.p aD,.p aD]])/\jq s.O (tt+1) 6 cols dc
 htr:nx+2<tr
 htt:tr<tt
 gp:tt<s.nx
 hbs:nx<=s.bs
 Zu:s.bs<=s.nx
 fr:Fr s.O s.nx
 low:∀k,k<nx->s.O k=O k
def I1.next{g:P}{h:ah}{e:Nat}{i:List (List P)}(a:I1 o bS bH g C p h e bX aR i f)(d:∀c,2<=c->c<=6->u.T c=f.T c)(b:u.O=f.O)(j:e<=u.bs)(h2:u.bs<=u.nx)(h3:f.nx<=u.nx):I1 o bS bH g C p h e bX aR i u:=by refine⟨?_,?_,?_,?_,?_,a.htr,a.htt,by have:=a.gp;omega,j,h2,?_,λc k=>by rw[b];exact a.low c k⟩;rw[d 2 y y,b];exact a.h2;rw[d 3 y y,b];exact a.h3;rw[d 4 y y,b];exact a.h4;rw[d 5 y y,b];exact a.h5;rw[d 6 y y,b];exact a.h6;rw[b];exact a.fr.mono h3
theorem ahD{j:P}{k:ah}{c:Nat}(h:I1 o bS bH j C p k c bX aR [] f)(s:Sl 1 p v)(t:∀n∈v,∃e:ByteArray,n=[S e])(hl:v.length<1000)(G:∀u,I1 o bS bH j C p k c bX aR (v.map kq) u->cH (X af) JH u bZ):cH (X af) UL f bZ:=by
 show cH _ (.seq _ _) _ _;refine bU br ?_;obtain⟨w,H,d,g,l⟩:=h.h6;have x:=h.hbs;have z:=h.Zu;simp(disch:=omega)[d,g,ba,dO s];intro gm;refine⟨λM u=>∃a:Nat,M=v.length-a/\a<=v.length/\I1 o bS bH j C p k c bX aR ((v.take a).map kq) u/\u.T 26=.p p/\u.T 27=.p (I v.length)/\u.T 28=.p (I a),⟨v.length,0,Y,y,?_,Y,Y,Y⟩,?_⟩;refine h.next (λA K m=>?_) rfl aw aw aw;exact cj;clear d g l x z;rintro M s1 ⟨a,rfl,hi,b,L,B,q⟩;have x:=b.hbs;have z:=b.Zu;have ad:=b.gp;have N:=b.htr;have O:=b.htt;by_cases r:a<v.length;obtain⟨e,E⟩:=t _ (bJ r);have F:v[a]? =J [S e]:=by rw[bh r,E]
 have Q:=Wk (i:=a) y;obtain⟨w,H,d,g,l⟩:=b.h6;simp(disch:=omega)[-az,-lB,SR,d,g,L,B,q,r,dm s,F,E,ft,ba,binOp,aC,ai,fP,fh,dp,dv,cF,bI,D.cells,uP,zh,Cz,Fg,BZ,dw];intro R;refine BS.l ?_;refine uI (ys:=[kq [S e]]) (by simpa using l) aj dK dK aw λid bn T V=>?_;have W:aR≠id:=y;have ag:id<s1.nx+1+3+8:=by rcases V with⟨rfl,_⟩|⟨g0,_,ab⟩;simp;have:=b.fr.lt ab;omega
 simp(disch:=omega)[Zz,W,g,q,ai,D.cells,bI,nj,binOp,aC,Q];intro al;refine⟨_,y,a+1,rfl,y,?_,ar,ar,Y⟩;have an:=b.fr;have ao:=b.low;obtain⟨⟨g2,m,o2⟩,⟨g3,h3,o3⟩,⟨g4,h4,o4⟩,⟨g5,h5,o5⟩,_⟩:=b;have ax:(v.map kq).take (a+1)=(v.take a).map kq++[kq [S e]]:=by rw[<-cD,nf,F];simp
 have e1:c≠id:=y;have e2:c+1≠id:=y;have e3:c+2≠id:=y;have e4:bX≠id:=y;have e5:id≠aR:=y;refine⟨⟨g2,by simp[m],aj⟩,⟨g3,by simp[h3],aj⟩,⟨g4,by simp[h4],aj⟩,⟨g5,by simp[h5],aj⟩,
  ⟨w,.sl id bn 0 ((v.map kq).take (a+1)).length 6 Z,by simp[d],?_,.inr ⟨id,bn,T,rfl,?_⟩⟩,N,O,aw,aw,aw,?_,λA t=>?_⟩
 exact U;exact U;exact bK;exact aj;have ac:a=v.length:=y;subst ac;simp(disch:=omega)[-az,SR,B,q,binOp,aC];intro R;refine G _ ?_;rw[y7]at b;refine b.next (λA K m=>?_) rfl aw aw aw;exact cj
theorem Qg{g:P}{d:List (List P)}(l:vN C d)(r:qf d)(al:H.cells=[H])(an:V.cells=[V])(ao:ag.cells=[ag])(ax:aP.cells=[aP])(ay:g.cells=[g])(s:0<=iW (named o) d){h:ah}{a:Nat}(v:∀n∈d,∃o aB be bu bA bB H V ag aP,n=[S o,S aB,B be,B bu,B bA,B bB,H,V,ag,aP]/\H.cells=[H]/\V.cells=[V]/\ag.cells=[ag]/\aP.cells=[aP])(w:Fr h a->∀f p has bH bX aR,bH∈d->Sl 1 p (qF has)->I1 o [S o,S aB,B be,B bu,B bA,B bB,H,V,ag,aP] bH g C p h a bX aR [] f->cH (X af) UL f λt u=>(t=.normal\/t=.ret)/\jt u YC.rs λx=>ji a K u.O u.nx (aM x)):X af 111 [.p (.agg [g,C]),.p (.agg [S o,S aB,B be,B bu,B bA,B bB,H,V,ag,aP])] h a K:=by
 refine X.Px Y anp (by simp[YC]) λi=>?_;have aE:C.cells=[C]:=by cases l.sl<;>simp[P.cells,aJ]
 show cH _ (.seq _ (.seq _ _)) _ _;refine bU br ?_;simp(disch:=omega)[cN,D.cells,P.cells];intro j;refine bU br ?_;simp(disch:=omega);intro z;refine vg l r s λc l0 ri bH aI _ E=>?_;obtain⟨G,I,L,M,N,m,O,Q,R,T,rfl,W,k7,k8,k9⟩:=v _ (iS E);simp(disch:=omega)[D.cells,P.cells,W,k7,k8,k9,ai,bI];show cH _ (.seq _ _) _ _;refine bU br ?_;intro ab;refine⟨[a+1],?_⟩;have g1:a+3+4<c:=y;have g2:a+3<=c:=y;simp(disch:=omega)[aX,only,ba,ai,fP,dp,dv];refine⟨y,y,BS.l (Jj aj Y λac p aO q=>?_)⟩;have ad:=ig q;simp(disch:=omega)[ad,fh,aX,only,D.cells,uP,zh,Cz,Fg,BZ,dw,ba,ai,bI,dv,cF,nj];have h1:∀(A F:ah) b,(A b=ae->F b=ae)->bp (aX [a+1] A) F b=bp (aX [a+1] A) F b:=U;refine w i _ p m [S G,S I,B L,B M,B N,B m,O,Q,R,T] (a+3+4) (c+7) ak q ⟨⟨j a,Y,?_⟩,⟨j (a+1),Y,?_⟩,⟨j (a+2),Y,?_⟩,⟨z (a+3+4),Y,?_⟩,⟨ab (c+7),.p aD,Y,?_,aj⟩,y,y,?_,?_,?_,λb k=>?_,λb k=>?_⟩;simp(disch:=omega)[bp,aX,only,ai];simp(disch:=omega)[bp,aX,only,ai];simp(disch:=omega)[bp,aX,only,ai];simp(disch:=omega)[bp,aX,only,ai];have e:c+7≠a+1:=y;simp(disch:=omega)[bp,aX,only,ai,e,i (c+7) y];exact aw;exact aw;exact aw;have k:ac<=b:=k;have e:b≠a+1:=y;simp(disch:=omega)[bp,aX,only,ai,e,i b y];have e:b≠a+1:=y;simp(disch:=omega)[bp,aX,only,ai,e];grind
end Go.Dl
namespace Go.Dl
open Go.Proofs Go.Dl.Ai Go.Shelf
def X.ce{c:FuncId}{a:Value}{d:ah}{e:Nat}(k:As cE c)(l:∀b,Calls cE c vs0.toArray b λt j=>t=.returned a/\j=b)(m:K (.p (.v a)) d e):X cE c (vs0.map λf=>.p (.v f)) d e K:=by
 refine⟨k,λb bC n o p v q=>?_⟩;have t:n=vs0.toArray:=by
  refine tG U λg r s=>?_;have w:=by simpa using s
  obtain⟨f,h,i⟩:=(D.ld _ _ _).1 q g (.p (.v vs0[g])) Y;simp[bf]at h;have i:f=vs0[g]:=i;rw[jb r]at h;cases h;simpa using i
 subst t;refine(l b).mono λt j u=>?_;obtain⟨rfl,rfl⟩:=u;exact⟨a,bC,.p (.v a),d,e,rfl,m,rfl,o,eI.refl _ _ _ _,p,y⟩
def rS:Ren:=⟨λM=>match M with|106=>116|213=>173|265=>228|217=>302|266=>340|M=>M,λdH=>dH,λbn=>bn⟩
def Z9:Lays.n106 af rS where
 mixed:=h
 f106:=h
 f213:=h
 f265:=h
 t3:=h
 a3:=T
 z3:=T
 v3:=T
 t9:=h
 a9:=T
 z9:=T
 v9:=T
def ajV:Lays.n217 af rS where
 mixed:=h
 f217:=h
 f266:=h
 t3:=h
 a3:=T
 z3:=T
 v3:=T
 t5:=h
 a5:=T
 z5:=T
 v5:=T
 t9:=h
 a9:=T
 z9:=T
 v9:=T
def DP:∀(o e:List UInt8),-1<=rh o e/\rh o e<=1|[],[]=>by simp[rh]|[],_::_=>by simp[rh]|_::_,[]=>by simp[rh]|o::L,e::cg=>by simp only[rh];have:=DP L cg;split;omega;split<;>omega
def JL:∀(L:List UInt8) (bC:UInt8),oh L bC<=(L.length:Int)-1|[],_=>by simp[oh]|e::L,bC=>by simp only[oh];have:=JL L bC;have a:=HQ L bC;simp only[List.length_cons];split;omega;split<;>omega
def aau[Gh]:bz af S61:=by refine .n rfl λb c K k d W f=>?_;obtain⟨aB,l,rfl,⟨o,rfl,_⟩,g⟩:=Vs.cons d;obtain⟨p,m,rfl,⟨e,rfl,_⟩,h⟩:=Vs.cons g;obtain rfl:=Vs.nil h;have a:=DP o.data.toList e.data.toList;refine X.ce (vs0:=[.string o,.string e]) ⟨_,Tryz.func116,by rfl,by rfl⟩ (λi=>Any.strings_Compare Z9 o e i) ?_;exact f c [I _] [.p (I _)] b (bV _) ⟨⟨_,rfl,a.1,a.2⟩,trivial⟩ (by intro p j;simp at j) (by simp[lg,iw])
def Vd[Gh]:bz af S2:=by refine .n rfl λc d K k e W f=>?_;obtain⟨aB,l,rfl,⟨o,rfl,m⟩,g⟩:=Vs.cons e;obtain⟨p,n,rfl,⟨bC,rfl,_⟩,h⟩:=Vs.cons g;obtain rfl:=Vs.nil h;have i:=HQ o.data.toList bC.toNat.toUInt8;have q:=JL o.data.toList bC.toNat.toUInt8;have r:o.size=o.data.toList.length:=rfl;refine X.ce (vs0:=[.string o,.int .u8 bC]) ⟨_,Tryz.func302,by rfl,by rfl⟩ (λj=>Any.stringslite_IndexByte ajV o bC j) ?_;refine f d [I _] [.p (I _)] c (bV _) ⟨⟨_,rfl,i,y⟩,trivial⟩ ?_ (by simp[lg,iw]);intro p a;simp only[bt,iD,iT]at a;subst a;intro _ H b;rw[bD]at b;subst b;show oh o.data.toList bC.toNat.toUInt8-(o.size:Int)<=-1;omega
def Dw{N:Nat->Prop}{O:ah}(h:∀e ob,eK e=J ob->eV e=J ob)(a:Sm eK eV):eI N eK bC O eV bC O where
 sm:=a
 aL:=U
 md:=U
 own:=U
 gen:=qM
 loc:=U
 size:=U
 Co:=λe hb=>by obtain⟨ob,t⟩:=xZ.1 hb;exact U
 fr:=qM
 nw:=U
 A9:=U
def Js{O:ah}(h:∀e ob,eK e=J ob->eV e=J ob)(a:Sm eK eV)(hi:iA eK bC O):iA eV bC O where
 gu:=λid k b=>fg.yt (λ_ hb=>hi.gC hb) (Dw (N:=λ_=>False) h a) (hi.gu id k b) rfl (λe hb=>hi.gC ⟨id,U,hb⟩) λe hb=>by obtain⟨ob,t⟩:=xZ.1 (hi.there e (hi.gC ⟨id,U,hb⟩));exact U
 apart:=hi.apart
 there:=λe hb=>by obtain⟨ob,t⟩:=xZ.1 (hi.there e hb);exact U
theorem X.below{f:FuncId}{c:Value}{g:ah}{i:Nat}(q:As cE f)(h:∀a,Calls cE f vs0.toArray a λt d=>t=.returned c/\HK a.heap.size a d)(r:K (.p (.v c)) g i):X cE f (vs0.map λj=>.p (.v j)) g i K:=by
 refine⟨q,λa bC s u v C w=>?_⟩;have t:s=vs0.toArray:=by
  refine tG U λk x z=>?_;have o:=by simpa using z
  obtain⟨j,l,m⟩:=(D.ld _ _ _).1 w k (.p (.v vs0[k])) Y;simp only[bf]at l;have m:j=vs0[k]:=m;rw[jb x]at l;cases l;simpa using m
 subst t;refine(h a).mono λt d A=>?_;obtain⟨rfl,b⟩:=A;have p:∀e n,W a e=J n->W d e=J n:=λe n B=>by
  have o:e<a.heap.size:=by rcases uk e a.heap.size with h|h;exact h;grind
  rw[show W d e=W a e from b.block e o];exact B
 exact⟨c,bC,.p (.v c),g,i,rfl,r,rfl,Js p ⟨b.os,b.output⟩ u,Dw p ⟨b.os,b.output⟩,v,y⟩
theorem adh[Gh]:bz af S1:=by
 refine .n rfl λb c K i d W e=>?_;obtain⟨aB,j,rfl,⟨o,rfl,a⟩,f⟩:=Vs.cons d;obtain⟨p,k,rfl,⟨bC,rfl,l,m⟩,g⟩:=Vs.cons f;obtain rfl:=Vs.nil g;have a:=by have:=a;omega
 obtain⟨M,rfl⟩:∃M:Nat,bC=M:=⟨bC.toNat,y⟩;have n:o.size*M<=10*200:=BB y y;refine X.below ⟨_,Tryz.func177,by rfl,by rfl⟩ (λh=>Any.strings_Repeat rep arb o M h y y) ?_;refine e c [S ⟨(BM o.data.toList M).toArray⟩] [.p (S ⟨(BM o.data.toList M).toArray⟩)] b y ⟨⟨_,rfl,?_⟩,ar⟩ (by intro p q;grind) aj;show((BM o.data.toList M).toArray.size:Int)<=2000;rw[vu,Lib.repeatL_length];have:o.data.toList.length=o.size:=Y;rw[this,AY];omega
theorem X.ajB{d:FuncId}{R:Value->Prop}{f:ah}{g:Nat}(q:As cE d)(h:∀a,Calls cE d vs0.toArray a λt c=>∃n,t=.returned n/\R n/\HK a.heap.size a c)(r:∀n,R n->K (.p (.v n)) f g):X cE d (vs0.map λi=>.p (.v i)) f g K:=by
 refine⟨q,λa bC s u v E w=>?_⟩;have t:s=vs0.toArray:=by
  refine tG U λj x z=>?_;have o:=by simpa using z
  obtain⟨i,k,l⟩:=(D.ld _ _ _).1 w j (.p (.v vs0[j])) Y;simp[bf]at k;have l:i=vs0[j]:=l;rw[jb x]at k;cases k;simpa using l
 subst t;refine(h a).mono λt c A=>?_;obtain⟨n,rfl,B,b⟩:=A;have p:∀e m,W a e=J m->W c e=J m:=λe m C=>by
  have o:e<a.heap.size:=by rcases uk e a.heap.size with h|h;exact h;grind
  rw[show W c e=W a e from b.block e o];exact C
 exact⟨n,bC,.p (.v n),f,g,rfl,r n B,rfl,Js p ⟨b.os,b.output⟩ u,Dw p ⟨b.os,b.output⟩,v,y⟩
theorem Zc{a b:UInt8}{c:ah}{d:Nat}(f:o.size<=1000)(g:∀n:ByteArray,n.size<=o.size->K (.p (S n)) c d):X af 256 [.p (S o),.p (S ⟨#[a]⟩),.p (S ⟨#[b]⟩)] c d K:=
 X.ajB (R:=λe=>∃n:ByteArray,e=.string n/\n.size<=o.size) ⟨_,Tryz.func256,by rfl,by rfl⟩
  (λh=>(adO W5 ao4 o a b h f).mono ak) λe ⟨n,t,i⟩=>by subst t;exact g n i
def Xt:d6:=⟨12,[.t 2],z 2 [q 1 (iU 0 5 0),q 2 (.mv (.c aF))] (.seq (z 3 [oF 3 1 2,oL 4 1 3,q 5 (di .eql 4 0)] (.cond (.t 5) (z 4 [oF 6 1 0,oL 7 1 6,q 8 (.lS .add 0 (.t 7) (.c (S ⟨#[95,105,100]⟩))),G 2 8] (.ret)) (.skip))) (z 4 [oF 9 1 0,oL 10 1 9,q 11 (.call 256 [.t 10,.c (S ⟨#[46]⟩),.c (S ⟨#[95]⟩)]),G 2 11] (.ret)))⟩
def alH:cW af Tryz.f186=J Xt:=h
theorem UB{a:Int}{b c:P}{d:ah}{f:Nat}(p:o.size<=300)(g:b.cells=[b])(h:c.cells=[c])(i:∀w n,f<=w->iO n<=400->K (.p (S n)) d w):
 X af 186 [.p (.agg [S o,b,I a,S e,c])] d f K:=by refine X.of Y alH (by simp[Xt]) λj=>?_;have q:(⟨#[95,105,100]⟩:ByteArray).size=3:=rfl;by_cases k:a=0;subst k;simp(disch:=omega)[-az,Xt,cN,D.cells,P.cells,aJ,ba,ft,bI,g,h,binOp,aC,gD];refine λl=>⟨y,.low j y aj (i _ _ y ?_)⟩;simp;omega;have m:(a==0)=Z:=U;simp(disch:=omega)[-az,Xt,cN,D.cells,P.cells,aJ,ba,ft,bI,g,h,binOp,aC,gD,k,m];exact λl=>Zc y λn r=>.low j y aj (i _ _ y y)
theorem RQ[Gh]:bz af S54:=by refine .n rfl λc t K u d W f=>?_;obtain⟨aB,v,rfl,a,g⟩:=Vs.cons d;obtain rfl:=Vs.nil g;obtain⟨w,rfl,b,_⟩:=a;obtain⟨x,z,rfl,⟨o,rfl,a⟩,h⟩:=Row.cons b;obtain⟨A,B,rfl,i,j⟩:=Row.cons h;obtain⟨C,D,rfl,⟨E,rfl,_,_⟩,k⟩:=Row.cons j;obtain⟨F,G,rfl,⟨e,rfl,_⟩,l⟩:=Row.cons k;obtain⟨H,I,rfl,m,q⟩:=Row.cons l;obtain rfl:=Row.nil q;refine UB y (eU i) (eU m) λr n s b=>?_;exact f r [S n] [.p (S n)] c s ⟨⟨_,rfl,y⟩,ar⟩ (by intro p L;grind) aj
def UF:d6:=⟨15,[.t 6],z 1 [q 6 (gR Z)] (z 9 [G 7 0,G 8 1,q 9 (xB .geq 7 8),G 10 9,oT 11 10 (xM 0),oT 12 10 (xM 2),oT 13 10 (xB .leq 11 12),q 14 (jw 10 13),G 6 14] (.ret))⟩
def anK:cW af Tryz.f126=J UF:=h
def adI:d6:=⟨6,[.t 2],z 1 [q 2 (gR Z)] (z 4 [G 3 0,q 4 (.call 154 [.t 3,.c (S ⟨#[97,98,99,100,101,102,103,104,105,106,107,108,109,110,111,112,113,114,115,116,117,118,119,120,121,122,48,49,50,51,52,53,54,55,56,57,95,46]⟩)]),q 5 (.lS .eql 0 (.t 4) (.c aF)),G 2 5] (.ret))⟩
def alw:cW af Tryz.f279=J adI:=h
def DA:List aA:=[oT 27 22 (.lS .eql 0 (.t 26) (.c aF)),q 28 (jw 22 27),G 4 28]
def DH:List aA:=(q 21 (jw 16 20)::G 22 21::oT 23 22 (xM 0)::oT 24 22 (xM 6)::oT 25 22 (.lS .add 0 (.c (S ⟨#[97,98,99,100,101,102,103,104,105,106,107,108,109,110,111,112,113,114,115,116,117,118,119,120,121,122,48,49,50,51,52,53,54,55,56,57]⟩)) (.t 24))::oT 26 22 (dV 154 23 25)::DA)
def Te:d6:=⟨29,[.t 4],z 1 [q 4 (gR Z)] (z 2 [fR 5 12,q 6 (.mv (.c aF))] (.seq (z 1 [G 7 1] (.cond (.t 7) (rF 2 [fR 5 40,q 6 (.mv (.c (S ⟨#[95]⟩)))]) (.skip))) (z 22 (G 8 0::q 9 (.lS .neq 0 (.t 8) (.c aF))::G 10 9::oT 11 10 (xM 0)::oT 12 10 (.len aa (.t 11))::oT 13 10 (xM 5)::oT 14 10 (xB .leq 12 13)::q 15 (jw 10 14)::G 16 15::oT 17 16 (xM 0)::oT 18 16 (.IL (.t 17) (.c aH))::oT 19 16 (.zf .i64 (.t 18))::oT 20 16 (.call 126 [.t 19,.c (I 97),.c (I 122)])::DH) (.ret))))⟩
def aoJ:cW af Tryz.f90=J Te:=h
def TN{a:ah}{b:Nat}(g:o.size<=1000)(h:e.size<=1000)(c:∀(j:Nat) C,e.data.toList[j]? =J C->C.toNat<128)(d:K (.p (S ⟨(Lib.trimS o.data.toList e.data.toList).toArray⟩)) a b):
 X af 154 [.p (S o),.p (S e)] a b K:=
 X.below ⟨_,Tryz.func154,by rfl,by rfl⟩ (λf=>Any.strings_Trim_laid aca ag8 o e f y y c) d
def R9{a d f:Int}{g:ah}{h:Nat}(b:∀w e,h<=w->K (.p (B e)) g w):
 X af 126 [.p (I a),.p (I d),.p (I f)] g h K:=by refine X.of Y anK (by simp[UF]) λj=>?_;by_cases c:d<=a;by_cases i:a<=f;simp(disch:=omega)[UF,cN,binOp,aC,c,i];exact .d8 bK y (b _ _ y);simp(disch:=omega)[UF,cN,binOp,aC,c,i];exact .d8 bK y (b _ _ y);simp(disch:=omega)[UF,cN,binOp,aC,c];exact .d8 bK y (b _ _ y)
theorem PK{a:ByteArray}(d:a=⟨#[]⟩\/a=⟨#[95]⟩):∀(j:Nat) C,((⟨#[97,98,99,100,101,102,103,104,105,106,107,108,109,110,111,112,113,114,115,116,117,118,119,120,121,122,48,49,50,51,52,53,54,55,56,57]⟩:ByteArray)++a).data.toList[j]? =J C->C.toNat<128:=by intro j C b;have c:=iS b;rw[Um,Array.toList_append]at c;have e:∀C∈([97,98,99,100,101,102,103,104,105,106,107,108,109,110,111,112,113,114,115,116,117,118,119,120,121,122,48,49,50,51,52,53,54,55,56,57]:List UInt8),C.toNat<128:=eB;have f:∀C∈([95]:List UInt8),C.toNat<128:=eB;grind
theorem abZ(a:¬o=⟨#[]⟩):o.toList.isEmpty=Z:=by rw[Lib.toList_data];obtain⟨⟨L⟩⟩:=o;grind
theorem acA(a:¬o=⟨#[]⟩):∃C:UInt8,o[0]? =J C:=by obtain⟨⟨L⟩⟩:=o;cases L with|nil=>exact aj|cons C L=>exact aj
theorem agR{f:Bool}{g:ah}{c:Nat}(m:o.size<=1000)(i:∀w e,c<=w->K (.p (B e)) g w):
 X af 90 [.p (S o),.p (B f)] g c K:=by
 refine X.of Y aoJ (by simp[Te]) λn=>?_;have p:∀(M:Nat) (e:Bool),c<=M->ji c K g M (.p (B e)):=λM e q=>.d8 bK y (i _ _ y);by_cases h:o=⟨#[]⟩;subst h;cases f<;>
 .simp(disch:=omega)[Te,DH,DA,cN,binOp,aC,gD]
  grind
 have b:=abZ h;obtain⟨C,d⟩:=acA h;cases f;by_cases a:(o.size:Int)<=12;simp(disch:=omega)[-az,-cV,-bW,↓cQ,↓fi,Te,cN,binOp,aC,gD,b,d,a];refine λj=>R9 λk e l=>?_;cases e;simp(disch:=omega)[-az,-cV,-bW,↓cQ,↓fi,DH,DA];grind;simp(disch:=omega)[-az,-cV,-bW,↓cQ,↓fi,DH,b,d,a,binOp,gD];refine⟨eB,TN y eB (PK Y) ?_⟩;simp(disch:=omega)[-az,-cV,-bW,↓cQ,↓fi,DA,binOp,gD];grind;simp(disch:=omega)[-az,-cV,-bW,↓cQ,↓fi,Te,DH,DA,cN,binOp,aC,gD,b,a];grind;by_cases a:(o.size:Int)<=40;simp(disch:=omega)[-az,-cV,-bW,↓cQ,↓fi,Te,cN,binOp,aC,gD,b,d,a];refine λj=>R9 λk e l=>?_;cases e;simp(disch:=omega)[-az,-cV,-bW,↓cQ,↓fi,DH,DA];grind;simp(disch:=omega)[-az,-cV,-bW,↓cQ,↓fi,DH,b,d,a,binOp,gD];refine⟨eB,TN y eB (PK Y) ?_⟩;simp(disch:=omega)[-az,-cV,-bW,↓cQ,↓fi,DA,binOp,gD];grind;simp(disch:=omega)[-az,-cV,-bW,↓cQ,↓fi,Te,DH,DA,cN,binOp,aC,gD,b,a];grind
theorem ahj[Gh]:bz af S20:=by refine .n rfl λb j K k c W d=>?_;obtain⟨aB,l,rfl,⟨o,rfl,m⟩,f⟩:=Vs.cons c;obtain⟨p,n,rfl,a,g⟩:=Vs.cons f;obtain rfl:=Vs.nil g;obtain⟨e,rfl⟩:∃e,p=B e:=a;refine agR y λh be i=>?_;exact d h [B be] [.p (B be)] b i aj (by intro p a;grind) aj
theorem aap[Gh]:bz af S21:=by refine .n rfl λa b K i c W d=>?_;obtain⟨aB,k,rfl,⟨o,rfl,l⟩,f⟩:=Vs.cons c;obtain rfl:=Vs.nil f;refine X.of Y alw (by simp[adI]) λm=>?_;simp(disch:=omega)[adI,cN];refine TN y eB (λj C n=>?_) ?_;have q:∀C∈([97,98,99,100,101,102,103,104,105,106,107,108,109,110,111,112,113,114,115,116,117,118,119,120,121,122,48,49,50,51,52,53,54,55,56,57,95,46]:List UInt8),C.toNat<128:=eB;grind;have g:∀(M:Nat) (e:Bool),b<=M->ji b K a M (.p (B e)):=λM e h=>.d8 bK y (d _ [B e] [.p (B e)] a h aj (by intro p r;grind) aj);exact g _ _ y
end Go.Dl
namespace Go.Dl
open Go.Proofs Go.Dl.Ai
def XY:av:=.cond (.t 45) (.exit 1) (.skip)
def aeJ:av:=rF 2 [q 58 (di .add 49 1),G 49 58]
def QM:av:=
 z 1 [q 50 (xB .lss 49 48)] (.seq (cX 50 2) (.seq (.block 3 (z 4 [q 51 (xI 9 47 49),cA 52 9 51,q 11 (.alloc 2 9 [aF,aH,aF,dZ,aH,aH,aF,aD,aD]),oN (xS 9 11 52)] (rF 6 [G 53 5,oF 54 11 0,oL 55 1 54,q 56 (.bQ 3 1 1 [aF] [(0,.t 55)]),q 57 (jE 4 1 16 53 56),G 5 57])))
  aeJ))
def agl:av:=rF 2 [q 71 (di .add 62 1),G 62 71]
def Q6:av:=
 z 1 [q 63 (xB .lss 62 61)] (.seq (cX 63 4) (.seq (.block 5 (z 4 [q 64 (xI 7 60 62),cA 65 7 64,q 13 (.alloc 2 7 [aF,aH,aF,aF,dZ,aH,dZ]),oN (xS 7 13 65)] (rF 6 [G 66 5,oF 67 13 0,oL 68 1 67,q 69 (.bQ 3 1 1 [aF] [(0,.t 68)]),q 70 (jE 4 1 16 66 69),G 5 70])))
  agl))
def afi:av:=z 4 [oF 59 9 7,oL 60 1 59,q 61 (fQ 60),fR 62 0] (.block 4 (.loop Q6))
def afp:av:=
 .seq (z 4 [oF 46 9 6,oL 47 1 46,q 48 (fQ 47),fR 49 0] (.block 2 (.loop QM)))
  afi
def XN:av:=rF 2 [q 72 (di .add 35 1),G 35 72]
def XC:av:=
 z 1 [q 36 (xB .lss 35 34)] (.seq (cX 36 0) (.seq (.block 1 (z 4 [q 37 (xI 10 33 35),cA 38 10 37,q 9 (.alloc 2 10 [aF,aF,dZ,dZ,dZ,dZ,aD,aD,aD,aD]),oN (xS 10 9 38)] (.seq (z 7 [cA 39 2 6,oF 40 9 0,oL 41 1 40,q 42 (dV 51 39 41),q 43 (.yK (.t 42) 0 1 Z),G 44 7,q 45 (xB .neq 43 44)]
  XY)
  afp)))
  XN))
def aaB:av:=z 2 [G 73 5,G 4 73] (.ret)
def afL:av:=
 .seq (z 6 [oF 30 2 1,oL 31 1 30,G 32 1,q 33 (.tZ 10 (.t 31) ae (J (.t 32)) ae),q 34 (fQ 33),fR 35 0] (.block 0 (.loop XC)))
  aaB
def D97:d6:=⟨74,[.t 4],z 2 [q 2 (iU 0 2 0),q 4 (.mv (.c aD))] (z 2 [q 14 (.bQ 0 1 5 [aF] [(0,.c (S ⟨#[105,100]⟩)),(1,.c (S ⟨#[116,121,112,101]⟩)),(2,.c (S ⟨#[118,101,114,115,105,111,110]⟩)),(3,.c (S ⟨#[103,111,110,101]⟩)),(4,.c (S ⟨#[116,101,110,97,110,116]⟩))]),G 5 14] (z 8 [oF 15 2 1,oL 16 1 15,G 17 1,q 18 (di .add 17 1),q 19 (.tZ 10 (.t 16) ae (J (.t 18)) ae),q 20 (.build [aD,aD] [(1,1,.t 19)]),q 6 (.alloc 6 2 [aD,aD]),oN (xS 2 6 20)] (z 10 [cA 21 2 6,oF 22 2 1,oL 23 1 22,G 24 1,q 25 (xI 10 23 24),oF 26 25 0,oL 27 1 26,q 28 (dV 51 21 27),q 29 (.yK (.t 28) 0 1 Z),G 7 29]
 afL)))⟩
def apG:cW af Tryz.f97=J D97:=h
structure Eo(es:List (List P))(e0:P)(fl1 fl2 fl3:Bool)(i:Nat)(O:ah)(nx g0 tb gb:Nat)(s:St)(j c:Nat):Prop where
 hj:j<=i
 N:∃l,jq s.O (nx+1) 1 l (s.T 5)/\5<=l.length/\l.length<=5+10*j+c/\∀r∈l,∃a:ByteArray,r=[S a]/\a.size<=100
 h2:s.T 2=.ptr nx g0 2 0 0
 hO:s.O nx=J (.row 2 g0 [[.p e0,.p (.im es 10 fl1)]])
 h6:s.T 6=.ptr tb gb 2 0 0
 WJ:nx<tb
 hOb:s.O tb=J (.row 2 gb [[.p aD,.p (.im (es.take (i+1)) 10 fl2)]])
 h7:∃rn,s.T 7=.p (S rn)
 h33:s.T 33=.p (.im (es.take i) 10 fl3)
 h34:s.T 34=.p (I i)
 h35:s.T 35=.p (I j)
 gp:nx<s.nx
 fr:Fr s.O s.nx
 low:∀k,k<nx->s.O k=O k
section
variable {es:List (List P)}{e0:P}{fl1 g h:Bool}{i:Nat}{O:ah}{nx k tb l:Nat}
def Eo.next{d c':Nat}(a:Eo es e0 fl1 g h i O nx k tb l f j d)(N:∃L,jq u.O (nx+1) 1 L (u.T 5)/\5<=L.length/\L.length<=5+10*j+c'/\∀n∈L,∃o:ByteArray,n=[S o]/\o.size<=100)(c:u.T 2=f.T 2/\u.T 6=f.T 6/\u.T 7=f.T 7/\u.T 33=f.T 33/\u.T 34=f.T 34/\u.T 35=f.T 35)(hO:∀b,b<=nx\/b=tb->u.O b=f.O b)(e:f.nx<=u.nx)(fr:Fr u.O u.nx):Eo es e0 fl1 g h i O nx k tb l u j c':=
 ⟨a.hj,N,c.1.trans a.h2,(hO _ y).trans a.hO,c.2.1.trans a.h6,a.WJ,(hO _ y).trans a.hOb,by rw[c.2.2.1];exact a.h7,c.2.2.2.1.trans a.h33,c.2.2.2.2.1.trans a.h34,c.2.2.2.2.2.trans a.h35,bw a.gp e,fr,λb m=>(hO b y).trans (a.low b m)⟩
theorem jq.ne{g a:Nat}{h:List (List P)}{i b:Nat}{c:List (List D)}(j:d=.sl id bn 0 b M Z)(k:Q id=J (.row M bn c)){e:Nat}{f:List (List D)}(l:Q a=J (.row db e f))(m:M≠db):id≠a:=by grind
structure FI(fs:P)(fl:List (List P))(a b c:Nat)(eb ge:Nat)(erow:List D)(q:Nat)(s:St):Prop where
 hq:q<=fl.length
 ha:s.T a=.p fs
 hb:s.T b=.p (I fl.length)
 hc:s.T c=.p (I q)
 h9:s.T 9=.ptr eb ge 10 0 0
 hOe:s.O eb=J (.row 10 ge [erow])
theorem arX(F:Sl 9 bM aS)(ag:aS.length<=3)(hj:j<100)(al:c0<=10)(G:∀H∈aS,zu H)(an:nx<eb)(c:Eo es e0 fl1 g h i O nx k tb l f j c0)(o:FI bM aS 47 48 49 eb ge erow 0 f)(I:∀u,Eo es e0 fl1 g h i O nx k tb l u j (c0+aS.length)->u.T 9=.ptr eb ge 10 0 0->u.O eb=J (.row 10 ge [erow])->bZ (.exit 2) u):
 bx (X af) (.loop QM) f bZ:=by
 refine⟨λM f=>∃p:Nat,M=aS.length-p/\Eo es e0 fl1 g h i O nx k tb l f j (c0+p)/\FI bM aS 47 48 49 eb ge erow p f,ak,?_⟩;clear c o;rintro M f ⟨p,rfl,c,o⟩;obtain⟨ao,⟨L,K,N,Q,ax⟩,h2,hO,h6,ay,v,h7,aB,aE,aI,aO,d,aP⟩:=_root_.id c;obtain⟨hq,R,w,q,x,e⟩:=_root_.id o;by_cases z:p<aS.length;have A:aS[p]? =J aS[p]:=Y;obtain⟨B,aR,a0,k2,a1,a3,a4,a5,a6,w2,a7,C,a8,a9,bb,T,bd⟩:=(G _ (bJ z)).sh;rw[C]at A;have V:=ie ar;have W:=lW (i:=p) y;have be:=d.lt e;have bk:=d.lt v;simp(disch:=omega)[-lB,QM,R,w,q,z,dm F,A,C,ft,ba,D.cells,P.cells,aJ,bI,binOp,aC,fP,dp,dv,ai,T,V];intro ab bl;refine BS.l ?_;refine uI (m:=nx+1) (ys:=[[S B]]) (by simpa using K.aL d aj) aj dK dK aw λid bn bm r=>?_;have bo:∀b,b<=nx\/b=tb\/b=eb->b≠id:=by
  rintro b s rfl;rcases r with⟨t,_⟩|⟨E,t,a⟩
  grind;rcases s with s|rfl|rfl
  omega;simp at a;rw[ai y,v]at a;grind;simp at a;rw[ai y,e]at a;grind
 have bs:id<f.nx+100:=by rcases r with⟨t,_⟩|⟨E,t,a⟩;exact U;exact iP λac=>by simp at a;rw[ai y,d id y]at a;cases a
 have bu:id<f.nx+1+4+6:=by rcases r with⟨t,_⟩|⟨E,t,a⟩;exact U;refine iP λac=>?_;simp at a;rw[ai y,d id y]at a;cases a
 simp[aeJ,q,binOp,aC,W,-cG,-fj];intro bA;refine⟨_,y,p+1,rfl,c.next ⟨L++[[S B]],.inr ⟨id,bn,y,Y,Y⟩,dK,dK,λn bB=>?_⟩ Y (λb s=>?_) aw ?_,⟨y,ar,ar,Y,by simp[x],?_⟩⟩;grind;show am (am f.O _ _) id _ b=f.O b;rw[ai ak,ai y];exact bK;show am (am f.O _ _) id _ eb=_;rw[ai U,ai y];exact e;have ad:p=aS.length:=y;subst ad;simp[-az,QM,w,q,binOp,aC];intro ab;exact I _ (c.next ⟨L,ar,N,Q,U⟩ Y U aw bK) (by simp[x]) e
theorem asg(C:Sl 7 bM aS)(ad:aS.length<=7)(hj:j<100)(ag:c0<=10)(E:∀H∈aS,N7 H)(F:∀H∈aS,∀o G,H=S o::G->o.size<=100)(al:nx<eb)(c:Eo es e0 fl1 g h i O nx k tb l f j c0)(e:FI bM aS 60 61 62 eb ge erow 0 f)(I:∀u,Eo es e0 fl1 g h i O nx k tb l u j (c0+aS.length)->bZ (.exit 4) u):
 bx (X af) (.loop Q6) f bZ:=by
 refine⟨λM f=>∃p:Nat,M=aS.length-p/\Eo es e0 fl1 g h i O nx k tb l f j (c0+p)/\FI bM aS 60 61 62 eb ge erow p f,ak,?_⟩;clear c e;rintro M f ⟨p,rfl,c,e⟩;obtain⟨an,⟨L,K,N,Q,ao⟩,h2,hO,h6,ax,w,h7,ay,aB,aE,aI,d,aO⟩:=_root_.id c;obtain⟨hq,R,x,m,T,q⟩:=_root_.id e;by_cases r:p<aS.length;have z:aS[p]? =J aS[p]:=Y;obtain⟨A,k2,aP,aR,a0,a1,a3,s⟩:=(E _ (bJ r)).sh;have a4:=F _ (bJ r) _ _ s;rw[s]at z;have V:=lW (i:=p) y;have a5:=d.lt q;have a6:=d.lt w;simp(disch:=omega)[-lB,Q6,R,x,m,r,dm C,z,s,ft,ba,D.cells,P.cells,aJ,bI,binOp,aC,fP,dp,dv,ai];intro W a7;refine BS.l ?_;refine uI (ys:=[[S A]]) (by simpa using K.aL d aj) aj dK dK aw λid bn a8 B=>?_;have a9:∀a,a<=nx\/a=tb\/a=eb->a≠id:=by
  rintro a v rfl;rcases B with⟨t,_⟩|⟨ab,t,b⟩
  grind;rcases v with v|rfl|rfl
  omega;simp at b;rw[ai y,w]at b;grind;simp at b;rw[ai y,q]at b;grind
 have bb:id<f.nx+1+4+6:=by rcases B with⟨t,_⟩|⟨ab,t,b⟩;exact U;refine iP λbd=>?_;simp at b;rw[ai y,d id y]at b;cases b
 simp[agl,m,binOp,aC,V,-cG,-fj];intro be;refine⟨_,y,p+1,rfl,c.next ⟨L++[[S A]],.inr ⟨id,bn,y,Y,Y⟩,dK,dK,λn bk=>?_⟩ Y (λa v=>?_) aw ?_,⟨y,ar,ar,Y,by simp[T],?_⟩⟩;grind;show am (am f.O _ _) id _ a=f.O a;rw[ai ak,ai y];exact bK;show am (am f.O _ _) id _ eb=_;rw[ai U,ai y];exact q;have ac:p=aS.length:=y;subst ac;simp[-az,Q6,x,m,binOp,aC];intro W;exact I _ (c.next ⟨L,ar,N,Q,U⟩ Y U aw bK)
theorem WE{c:Type}{a:c->Bool}{b:List c}{d:c}(e:d∈b)(W:a d=aa):0<=iW a b:=by have g:=qC (pr:=a) (es:=b);by_cases f:iW a b<0;have:=WU f d e;grind;omega
theorem vN.take{e b:P}{a:List (List P)}(c:vN e a)(d:Nat)(f:Sl 10 b (a.take d)):vN b (a.take d):=⟨f,by have:=c.len;simp;omega,λn g=>c.rows n ak⟩
theorem ai7(hx:vN C es)(aO:e0.cells=[e0])(b6:es.length<90)(h:i<es.length)(he:qf (es.take (i+1)))(ab:∀n∈es,OS n)(aR:∀n∈es,(oQ (n.getD 6 (.v undef))).length<=3)(a0:∀n∈es,(oQ (n.getD 7 (.v undef))).length<=7/\∀H∈oQ (n.getD 7 (.v undef)),∀o a1,H=S o::a1->o.size<=100)(a2:∀w d Q L,nx<=w->nz O nx 1 L d Q->5<=L.length->L.length<=1000->(∀n∈L,∃o:ByteArray,n=[S o]/\o.size<=100)->Fr Q w->K d Q w):
 X af 97 [.p (.agg [e0,C]),.p (I i)] O nx K:=by
 refine X.of JM apG (by simp[D97]) λhf=>?_;obtain⟨fl1,rfl⟩:∃fl1,C=.im es 10 fl1:=by cases hx with|mk sl b7 b8=>cases sl with|nil=>simp at h|im es a3=>exact⟨a3,rfl⟩
 have a4:=lW (i:=i) y;have b:es[i]? =J es[i]:=bh h;obtain⟨o,c,be,bu,bA,bB,H,V,ag,aP,aS,a5,a,_⟩:=(ab _ (bJ h)).sh;rw[a]at b;have a6:(i:Int)+1<=es.length:=y;have a7:(i:Int)<=es.length:=y;simp(disch:=omega)[D97,cN,D.cells,P.cells,aJ,ba,ft,aO,fP,fh,dp,dv,binOp,aC,a4,jK,a6,b,a,bI,cF,Wn];intro a8 a9;refine BS.r ?_;intro bb;refine⟨y,?_⟩;intro b9;have bd:Sl 10 (.im (es.take (i+1)) 10 (fl1&&decide (i+1=es.length))) (es.take (i+1)):=.im _ _;have k:=hx.take (i+1) bd;have bk:es[i]∈es.take (i+1):=iS (i:=i) (by rw[D0 y];exact bh h);refine vg k he (WE bk (by rw[a];exact zx.2 rfl)) λca lc ri bH cb _ bl=>?_;obtain⟨_,ra,rp,cc,t⟩:=k.rows bH (iS bl);rw[t];simp(disch:=omega)[afL,ai,ba,jK,a7,Wn];intro cg;refine⟨λM f=>∃j:Nat,M=i-j/\Eo es e0 fl1 (fl1&&decide (i+1=es.length)) (fl1&&decide (i=es.length)) i O nx (a8 nx) (nx+2+2+6) (bb (nx+2+2+6)) f j 0,⟨i,0,Y,y,⟨[[S ⟨#[105,100]⟩],[S ⟨#[116,121,112,101]⟩],[S ⟨#[118,101,114,115,105,111,110]⟩],[S ⟨#[103,111,110,101]⟩],[S ⟨#[116,101,110,97,110,116]⟩]],.inr ⟨nx+2,a9 (nx+2),y,Y,by simp(disch:=omega)[ai]⟩,Y,Y,?_⟩,Y,by simp(disch:=omega)[ai],Y,y,by simp(disch:=omega)[ai],⟨ra,Y⟩,Y,ic,Y,ic,?_,λe g=>by simp(disch:=omega)[ai]⟩,?_⟩;intro n a;simp only[bt,iD,iT]at a;rcases a with rfl|rfl|rfl|rfl|rfl<;>exact⟨_,rfl,eB⟩
 exact(((hf.mono ic).am ic).am ic).am ic;clear a b;rintro M f ⟨j,rfl,hB⟩;obtain⟨hj,⟨L,hN,u,hl,v⟩,h2,hO,h6,ch,x,⟨bO,l⟩,ac,z,A,ck,m,ad⟩:=_root_.id hB;by_cases al:j<i;have E:es[j]∈es:=bJ y;have b:(es.take i)[j]? =J es[j]:=by rw[D0 al];exact bh y
 have an:(es.take i)[j]'dK=es[j]:=Y;have bm:es[j]∈es.take (i+1):=iS (i:=j) (by rw[D0 y];exact bh y);obtain⟨o,c,be,bu,bA,bB,H,V,ag,aP,aS,a5,a,p,q,hU,hX,cl,cm,bn,bo⟩:=(ab _ E).sh;have F:=aR _ E;have r:=a0 _ E;rw[a]at b F r an;simp only[kL,lI,lz p,lz q]at F r;have bs:=ie p;have bC:=ie q;have ao:=lW (i:=j) y;have cn:=m.lt x;have cq:j<(es.take i).length:=dK;simp(disch:=omega)[-az,XC,h6,ac,z,A,x,al,b,an,a,ags,ft,ba,D.cells,P.cells,aJ,bI,binOp,aC,ai,bs,bC,hU,hX];intro s cr;refine vg k he (WE bm (by rw[a];exact zx.2 rfl)) λbL cs cv bM cw _ t=>?_;obtain⟨_,G,cx,cy,bR⟩:=k.rows bM (iS t);rw[bR];have ax:Fr (am f.O (f.nx+1+2) (J (.row 10 (s (f.nx+1+2)) [[.p (S o),.p (S c),.p (B be),.p (B bu),.p (B bA),.p (B bB),.p H,.p V,.p ag,.p aP]]))) bL:=(m.mono y).am y;have ay:jq (am f.O (f.nx+1+2) (J (.row 10 (s (f.nx+1+2)) [[.p (S o),.p (S c),.p (B be),.p (B bu),.p (B bA),.p (B bB),.p H,.p V,.p ag,.p aP]]))) (nx+1) 1 L (f.T 5):=hN.aL m (λe g=>ai y);by_cases aB:G.toList=bO.toList;have N:(G.toList==bO.toList)=aa:=by simp[aB]
 simp(disch:=omega)[-az,XY,afp,l,binOp,gD,N,ba,ai,dO p];intro bS;refine arX (es:=es) (e0:=e0) (fl1:=fl1) (i:=i) (O:=O) (nx:=nx) (tb:=nx+2+2+6) (j:=j) (eb:=f.nx+1+2) (ge:=s (f.nx+1+2)) (c0:=0) (erow:=[.p (S o),.p (S c),.p (B be),.p (B bu),.p (B bA),.p (B bB),.p H,.p V,.p ag,.p aP]) p F y y bn y (hB.next ⟨L,by simpa using ay,u,hl,v⟩ (by simp[l]) (λe g=>by simp(disch:=omega)[ai]) dK ?_) ⟨y,Y,Y,Y,Y,Y⟩ λs2 R aE T=>?_;exact ax.mono ic;obtain⟨_,_,g2,gO,g6,_,cz,⟨cE,g7⟩,cJ,cK,cL,cT,aI,cU⟩:=_root_.id R;have cX:=aI.lt T;simp(disch:=omega)[-az,afi,aE,T,ba,dO q];intro c1;refine asg (es:=es) (e0:=e0) (fl1:=fl1) (i:=i) (O:=O) (nx:=nx) (tb:=nx+2+2+6) (j:=j) (eb:=f.nx+1+2) (ge:=s (f.nx+1+2)) (c0:=0+aS.length) (erow:=[.p (S o),.p (S c),.p (B be),.p (B bu),.p (B bA),.p (B bB),.p H,.p V,.p ag,.p aP]) q r.1 y y bo r.2 y (R.next (c':=0+aS.length) ?_ Y (λe g=>rfl) ic (aI.mono ic)) ⟨y,Y,Y,Y,by simp[aE],T⟩ λs3 bT=>?_;obtain⟨l',U,W,z3,z4⟩:=R.N;exact⟨l',by simpa using U,W,z3,z4⟩;obtain⟨_,⟨l3,U,W,z3,z4⟩,q2,qO,q6,_,bX,⟨bZ,q7⟩,b0,b1,b2,c2,b3,b4⟩:=_root_.id bT;simp[XN,b2,binOp,aC,ao];intro c3;exact⟨_,y,j+1,rfl,y,⟨l3,by simpa using U,W,y,z4⟩,by simp[q2],qO,by simp[q6],y,bX,⟨bZ,by simp[q7]⟩,by simp[b0],by simp[b1],Y,ic,b3.mono ic,b4⟩;have N:(G.toList==bO.toList)=Z:=jY.2 aB;simp(disch:=omega)[-az,XY,XN,l,A,binOp,aC,gD,N,ao];intro bS;refine⟨_,y,j+1,rfl,y,⟨L,by simpa using ay,u,y,v⟩,by simp[h2],by simp(disch:=omega)[ai,hO],by simp[h6],y,by simp(disch:=omega)[ai,x],⟨bO,by simp[l]⟩,by simp[ac],by simp[z],Y,ic,ax.mono ic,λe g=>by simp(disch:=omega)[ai,ad e g]⟩;have b5:j=i:=y;subst b5;simp[-az,XC,aaB,z,A,binOp,aC];exact(hN.mono (Nat.le_succ nx)).done hf (m.mono y) y ad λO2 g1 g2=>a2 _ _ _ L y g1 u y v g2
end
section
variable [Gh]
def aiU:bz af S35:=by
 refine .n rfl λad nx K al u W v=>?_;obtain⟨aB,x,rfl,a,z⟩:=Vs.cons u;obtain⟨p,x,rfl,⟨b,rfl,an,ao⟩,A⟩:=Vs.cons z;obtain rfl:=Vs.nil A;obtain⟨e0,C,k,rfl,B,l,m,_,ax,hn,c⟩:=nO (.inr rfl) rfl a;have e:=W ⟨3,2,-1⟩ Y;have ay:lO C=k.length:=LI l;have aE:b<k.length:=by simp[F.ok,rE,Al,vp,xP,AA,zd]at e;have t:lO (I b)=b:=rfl;first|omega|(rw[t]at e;omega)|(simp only[lO]at e;omega)|(have h9:b-lO C<=-1:=e;omega)
 obtain⟨f,rfl⟩:∃f:Nat,b=f:=⟨b.toNat,y⟩;refine X.fr ⟨_,JM,by rfl,by rfl⟩ λg=>?_;refine ai7 (i:=f) (nW rfl l m c) (eU B) y y (lR (Gh.FD _ _ m)) (λn a=>E7 (eb:=.bool) (c n a)) (λn a=>?_) (λn a=>?_) λw d Q L D E h5 hl G M=>?_;obtain⟨o,aB,be,bu,bA,bB,H,V,ag,N,rfl,q,_,h,r,O,P⟩:=kz (c n a);obtain⟨aS,R,_,f3,f4,_⟩:=h;simp only[kL,lI,lz R];omega;obtain⟨o,aB,be,bu,bA,bB,H,V,ag,N,rfl,q,_,h,r,O,P⟩:=kz (c n a);obtain⟨aI,S,r2,r3,T⟩:=Cd r;simp only[kL,lI,lz S];refine⟨y,λH g o aO t=>?_⟩;have s:=T H g;rw[t]at s;obtain⟨p1,q1,U,⟨a1,e2,h⟩,_⟩:=Row.cons s;cases U;cases e2;have:Dt 5=100:=rfl;omega;obtain⟨p,j,ab⟩:=nz.rs (row:=[.str 100]) (lo:=5) (hi:=1000) rfl g M E;refine v w [p] [d] Q D ⟨⟨_,j,y,y,λn ac=>?_,LT.zero⟩,trivial⟩ (by intro p j;simp at j) ab;obtain⟨o,rfl,q⟩:=G n ac;exact⟨⟨o,rfl,y⟩,trivial⟩
end
def S0:SP:=⟨19,aa,[.aM Ty.gW],[.aM Ty.gW],1,[([],[⟨0,2,0⟩]),([⟨0,1,-1⟩],[⟨2,1,-1⟩]),([⟨1,0,0⟩],[⟨2,0,0⟩])],[],[]⟩
def s0[Gh]:bz af S0:=ale
def s1[Gh]:bz af S1:=adh
def s2[Gh]:bz af S2:=Vd
def S3:SP:=⟨125,Z,[.aM (.str 1000),.aM (.str 1)],[.aM (.str 1000),.aM (.str 1000),.aM .bool],0,[([],[⟨3,1,0⟩,⟨4,1,0⟩])],[],[]⟩
def s3[Gh]:bz af S3:=iG (s2.c .n) [(251,[(43,.lp ⟨[],[],[],.z,.z,0,0,[],Z⟩ [])]),(178,[])] [(4,.gv [4,5,6])] h
def S4:SP:=⟨319,Z,[.aM (.str 1000),.aM (.str 1)],[.aM .bool],0,[],[],[]⟩
def s4[Gh]:bz af S4:=iG (s2.c .n) [(251,[(43,.lp ⟨[],[],[],.z,.z,0,0,[],Z⟩ [])]),(343,[])] [(4,.gv [4])] h
def S5:SP:=⟨85,aa,[],[.aM (.z 1 4)],1,[],[],[]⟩
def s5[Gh]:bz af S5:=iG (s0.c .n) [(8,[])] [(4,.gv [2])] h
def S6:SP:=⟨123,aa,[],[.aM Ty.gW],2,[],[],[]⟩
def s6[Gh]:bz af S6:=iG (s0.c .n) [(8,[]),(6,[])] [(21,.gv [2]),(17,.gv [2]),(11,.gv [2])] h
def S7:SP:=⟨124,aa,[],[.aM (.str 20000)],6,[],[],[]⟩
def s7[Gh]:bz af S7:=iG (s1.c (s0.c .n)) [(8,[]),(6,[]),(7,[])] [(18,.lp ⟨[(0,[.aL,.int .i64])],bY [18,3,0] [(19,.int .i64),(4,.str)],[(.c 0 1,.s 19,4611686018427386996),(.s 18,.c 0 1,3),(.c 0 1,.s 18,4611686018427386996),(.z,.c 0 1,0),(.s 18,.s 4,3),(.z,.s 4,0),(.s 18,.s 19,3),(.s 19,.s 18,0),(.z,.s 19,0)],.s 18,.s 19,0,3,[(.s 19,1),(.s 4,19),(.c 0 1,1)],Z⟩ []),(31,.gv [2]),(8,.gv [2])] h
def S8:SP:=⟨52,aa,[.aM (.z 0 10)],[.agg Ty.kf],8,[],[],[]⟩
def s8[Gh]:bz af S8:=iG (s7.c (s6.c (s0.c .n))) [(6,[]),(8,[])] [(29,.gv [4])] h
def S9:SP:=⟨87,aa,[.aM (.z 0 10)],[.agg Ty.kf],9,[],[],[]⟩
def s9[Gh]:bz af S9:=iG (s8.c (s0.c .n)) [(7,[])] [(12,.gv [4]),(8,.gv [4])] h
def S10:SP:=⟨148,aa,[.aM (.z 0 10),.aM (.aY Ty.Af 0 1000),.aM (.aY [Ty.gW] 0 0)],[.agg (Ty.nY 0)],12,[],[],[]⟩
def s10[Gh]:bz af S10:=iG (s9.c (s0.c .n)) [(197,[]),(7,[])] [(8,.lp ⟨[],bY [15,14] ((16,.int .i64)::bY [3] ((9,.own [.z 0 10,.z 0 0,.z 0 0,.z 0 0,.z 0 0,.str 0,.str 100,.str 300,.bool,.nil,.nil,.nil,.nil])::bY [0,1,8] [])),[(.s 9,.s 16,0),(.c 0 1,.s 9,4611686018427386988),(.s 1,.s 9,10),(.s 3,.s 9,0),(.s 14,.s 9,1000),(.s 9,.s 14,0),(.s 15,.s 9,1000),(.s 9,.s 15,0),(.z,.s 9,0),(.c 0 1,.s 16,4611686018427386988),(.s 1,.s 16,10),(.s 3,.s 16,0),(.s 14,.s 16,1000),(.s 16,.s 14,0),(.s 15,.s 16,1000),(.s 16,.s 15,0),(.z,.s 16,0)],.s 15,.s 16,0,1000,[(.s 16,1),(.s 9,1)],Z⟩ []),(29,.lp ⟨[],bY [34,33,35,9,0,1,8] [],[],.z,.z,0,0,[],Z⟩ []),(56,.gv [8]),(52,.gv [8])] h
def S11:SP:=⟨86,aa,[.aM (.z 0 10),.aM (.aY Ty.Af 0 1000),.aM (.aY [Ty.gW] 0 0),.aM (.z 0 0)],[.agg (Ty.nY 0)],20,[],[],[]⟩
def Zw[Gh]:bz af S11:=iG (s10.c .n) [] [(25,.lp ⟨[],[],[],.z,.z,0,0,[],Z⟩ []),(8,.gv [10])] h
def S12:SP:=⟨153,aa,[.aM (.aY Ty.Af 0 1000),.aM (.aY [Ty.gW] 0 0),.aM (.z 1 1)],[.agg (Ty.nY 1)],100,[],[],[]⟩
def s12[Gh]:bz af S12:=iG (Zw.c (s0.c .n)) [(8,[]),(150,[]),(199,[])] [(39,.gv [8]),(35,.gv [8]),(29,.gv [8]),(19,.gv [8]),(13,.gv [8])] h
def S13:SP:=⟨152,aa,[.aM (.aY Ty.Af 0 1000),.aM (.aY [Ty.gW] 0 0),.aM (.z 1 1)],[.agg (Ty.nY 1)],200,[],[],[]⟩
def s13[Gh]:bz af S13:=iG (s5.c (Zw.c (s0.c .n))) [(8,[]),(6,[]),(150,[]),(198,[])] [(47,.lp ⟨[(11,[.aL,.aL,.aL,.aL,.aL,.aL,.aL,.aL,.aL,.own (Ty.nY 0),.aL,.aL,.aL]),(59,[.aL,.int .i64])],bY [60,10,9] ((61,.int .i64)::bY [11,8,59] []),[(.s 10,.c 59 1,4),(.s 60,.c 59 1,3),(.z,.c 59 1,0),(.c 11 9,.s 61,1),(.s 10,.c 11 9,2),(.s 60,.c 11 9,1),(.c 11 9,.s 60,1),(.z,.c 11 9,-2),(.c 11 9,.z,4),(.s 61,.c 11 9,-1),(.s 10,.s 61,3),(.s 60,.s 61,2),(.s 61,.s 60,0),(.z,.s 61,-1),(.s 61,.z,3)],.z,.s 61,3,2,[(.c 59 1,20)],aa⟩ []),(66,.gv [8]),(60,.gv [8]),(35,.gv [8]),(29,.gv [8]),(23,.gv [8]),(13,.gv [8])] h
def S14:SP:=⟨86,aa,[.aM (.z 0 10),.aM (.aY Ty.Af 0 1000),.aM (.aY [Ty.gW] 0 0),.aM (.z 1 1)],[.agg (Ty.nY 1)],300,[],[],[]⟩
def s14[Gh]:bz af S14:=iG (s12.c (s13.c (s5.c (Zw.c (s10.c (s0.c .n)))))) [(6,[]),(126,[]),(151,[]),(150,[]),(149,[]),(8,[]),(7,[])] [(25,.lp ⟨[(12,[.aL,.aL,.aL,.aL,.aL,.aL,.aL,.aL,.aL,.own (Ty.nY 0),.aL,.aL,.aL]),(33,[.aL,.int .i64])],bY [34] ((35,.int .i64)::bY [11,1,12,10,33] []),[(.z,.s 35,0)],.z,.s 35,2,2,[(.c 12 9,2),(.c 33 1,40)],Z⟩ []),(118,.gv [10]),(110,.gv [10]),(102,.gv [10]),(98,.gv [10]),(92,.gv [10]),(79,.gv [10]),(73,.gv [10]),(61,.gv [10]),(46,.gv [10]),(40,.gv [10]),(8,.gv [10])] h
def S15:SP:=⟨153,aa,[.aM (.aY Ty.Af 0 1000),.aM (.aY [Ty.gW] 0 0),.aM (.z 2 2)],[.agg (Ty.nY 2)],1000,[],[],[]⟩
def s15[Gh]:bz af S15:=iG (s14.c (s0.c .n)) [(8,[]),(150,[]),(199,[])] [(39,.gv [8]),(35,.gv [8]),(29,.gv [8]),(19,.gv [8]),(13,.gv [8])] h
def S16:SP:=⟨152,aa,[.aM (.aY Ty.Af 0 1000),.aM (.aY [Ty.gW] 0 0),.aM (.z 2 2)],[.agg (Ty.nY 2)],2000,[],[],[]⟩
def s16[Gh]:bz af S16:=iG (s5.c (s14.c (s0.c .n))) [(8,[]),(6,[]),(150,[]),(198,[])] [(47,.lp ⟨[(11,[.aL,.aL,.aL,.aL,.aL,.aL,.aL,.aL,.aL,.own (Ty.nY 1),.aL,.aL,.aL]),(59,[.aL,.int .i64])],bY [60,10,9] ((61,.int .i64)::bY [11,8,59] []),[(.s 10,.c 59 1,4),(.s 60,.c 59 1,3),(.z,.c 59 1,0),(.c 11 9,.s 61,1),(.s 10,.c 11 9,2),(.s 60,.c 11 9,1),(.c 11 9,.s 60,1),(.z,.c 11 9,-2),(.c 11 9,.z,4),(.s 61,.c 11 9,-1),(.s 10,.s 61,3),(.s 60,.s 61,2),(.s 61,.s 60,0),(.z,.s 61,-1),(.s 61,.z,3)],.z,.s 61,3,2,[(.c 59 1,300)],aa⟩ []),(66,.gv [8]),(60,.gv [8]),(35,.gv [8]),(29,.gv [8]),(23,.gv [8]),(13,.gv [8])] h
def S17:SP:=⟨86,aa,[.aM (.z 0 10),.aM (.aY Ty.Af 0 1000),.aM (.aY [Ty.gW] 0 0),.aM (.z 2 2)],[.agg (Ty.nY 2)],3000,[],[],[]⟩
def s17[Gh]:bz af S17:=iG (s15.c (s16.c (s5.c (s14.c (s10.c (s0.c .n)))))) [(6,[]),(126,[]),(151,[]),(150,[]),(149,[]),(8,[]),(7,[])] [(25,.lp ⟨[(12,[.aL,.aL,.aL,.aL,.aL,.aL,.aL,.aL,.aL,.own (Ty.nY 1),.aL,.aL,.aL]),(33,[.aL,.int .i64])],bY [34] ((35,.int .i64)::bY [11,1,12,10,33] []),[(.z,.s 35,0)],.z,.s 35,2,2,[(.c 12 9,2),(.c 33 1,600)],Z⟩ []),(118,.gv [10]),(110,.gv [10]),(102,.gv [10]),(98,.gv [10]),(92,.gv [10]),(79,.gv [10]),(73,.gv [10]),(61,.gv [10]),(46,.gv [10]),(40,.gv [10]),(8,.gv [10])] h
def S18:SP:=⟨40,aa,[.aM (.str 100),.aM (.aY Ty.Mw 0 2),.aM (.aY Ty.Af 0 1000),.aM .bool],[.agg Ty.CX],4000,[],[],[]⟩
def s18[Gh]:bz af S18:=iG (s9.c (s17.c (s0.c (s5.c .n)))) [(8,[]),(7,[])] [(41,.gv [10]),(21,.gv [10]),(13,.gv [10])] h
def S19:SP:=⟨126,Z,[.aM Ty.gW,.aM Ty.gW,.aM Ty.gW],[.aM .bool],0,[],[],[]⟩
def Pl[Gh]:bz af S19:=iG .n [] [(4,.gv [6])] h
def s20[Gh]:bz af S20:=ahj
def s21[Gh]:bz af S21:=aap
def S22:SP:=⟨151,Z,[.aM (.z 0 100),.aM (.z 0 100)],[.aM .bool],0,[],[],[]⟩
def s22[Gh]:bz af S22:=iG (Pl.c .n) [] [(8,.gv [4])] h
def S23:SP:=⟨127,Z,[.aM (.z 0 10),.agg Ty.kf],[.aM (.z 0 25)],0,[],[],[]⟩
def s23[Gh]:bz af S23:=iG (Pl.c .n) [(252,[(6,.lp ⟨[],bY [7,6] [(8,.int .i64)],[(.s 6,.s 8,100),(.s 8,.s 6,0),(.s 7,.s 8,100),(.s 8,.s 7,0),(.z,.s 8,0)],.s 7,.s 8,0,100,[(.s 8,1)],Z⟩ [])]),(179,[])] [(12,.gv [4]),(8,.gv [4])] h
def S24:SP:=⟨257,Z,[.agg Ty.kf],[.aM (.z 0 25)],0,[],[],[]⟩
def Tg[Gh]:bz af S24:=iG (Pl.c .n) [(252,[(6,.lp ⟨[],bY [7,6] [(8,.int .i64)],[(.s 6,.s 8,100),(.s 8,.s 6,0),(.s 7,.s 8,100),(.s 8,.s 7,0),(.z,.s 8,0)],.s 7,.s 8,0,100,[(.s 8,1)],Z⟩ [])]),(179,[])] [(4,.gv [2])] h
def S25:SP:=⟨257,Z,[.agg Ty.ma],[.aM (.z 0 25)],0,[],[],[]⟩
def s25[Gh]:bz af S25:=iG (Pl.c .n) [(252,[(6,.lp ⟨[],bY [7,6] [(8,.int .i64)],[(.s 6,.s 8,100),(.s 8,.s 6,0),(.s 7,.s 8,100),(.s 8,.s 7,0),(.z,.s 8,0)],.s 7,.s 8,0,100,[(.s 8,1)],Z⟩ [])]),(179,[])] [(4,.gv [2])] h
def S26:SP:=⟨93,Z,[.agg Ty.Jz,.agg Ty.CX],[.aM (.z 0 25)],0,[],[],[]⟩
def s26[Gh]:bz af S26:=iG (s23.c (Pl.c (s20.c .n))) [(156,[]),(155,[(6,.lp ⟨[],bY [7,0,1] [(8,.int .i64)],[(.z,.s 8,0)],.z,.s 8,2,2,[],Z⟩ [])]),(91,[]),(160,[(6,.lp ⟨[],bY [7,0,1] [(8,.int .i64)],[(.z,.s 8,0)],.z,.s 8,3,3,[],Z⟩ [])]),(98,[])] [(55,.lp ⟨[],bY [93,92] ((94,.int .i64)::bY [3] []),[],.z,.s 94,3,3,[(.s 94,1)],Z⟩ []),(104,.gv [4]),(92,.gv [4]),(100,.gv [4]),(81,.gv [4]),(74,.gv [4]),(43,.gv [4]),(33,.gv [4]),(37,.gv [4]),(23,.gv [4]),(17,.gv [4]),(11,.gv [4])] h
def S27:SP:=⟨45,Z,[.agg Ty.Jz],[.aM (.z 0 25)],0,[],[],[]⟩
def s27[Gh]:bz af S27:=iG (s26.c (s20.c .n)) [(95,[]),(157,[(6,.lp ⟨[],bY [7,0,1] [(8,.int .i64)],[(.s 0,.s 8,1),(.s 8,.s 0,0),(.s 7,.s 8,1),(.s 8,.s 7,0),(.z,.s 8,0),(.s 8,.z,1)],.z,.s 8,1,1,[],Z⟩ [])]),(94,[]),(92,[]),(155,[(6,.lp ⟨[],bY [7,0,1] [(8,.int .i64)],[(.s 0,.s 8,1),(.s 8,.s 0,0),(.s 7,.s 8,1),(.s 8,.s 7,0),(.z,.s 8,0),(.s 8,.z,1)],.z,.s 8,1,1,[],Z⟩ [])]),(91,[])] [(14,.lp ⟨[],bY [14,1,13] [(15,.int .i64)],[(.c 1 1,.s 15,5),(.c 1 0,.s 15,2),(.s 15,.c 1 0,0),(.s 13,.s 15,2),(.s 15,.s 13,0),(.s 14,.s 15,2),(.s 15,.s 14,0),(.z,.s 15,0),(.s 15,.z,2)],.z,.s 15,2,2,[],Z⟩ []),(49,.lp ⟨[],bY [39,4,38] ((40,.int .i64)::bY [15,14,1,13] []),[(.c 1 1,.s 40,5),(.c 1 0,.s 40,2),(.c 4 1,.s 40,2),(.s 40,.c 4 1,0),(.c 4 0,.s 40,100),(.s 13,.s 40,2),(.s 14,.s 40,2),(.s 38,.s 40,2),(.s 40,.s 38,0),(.s 39,.s 40,2),(.s 40,.s 39,0),(.z,.s 40,0),(.s 40,.z,2)],.z,.s 40,2,2,[],Z⟩ []),(92,.gv [2]),(80,.gv [2]),(74,.gv [2]),(68,.gv [2]),(38,.gv [2]),(32,.gv [2])] h
def S28:SP:=⟨96,Z,[.agg Ty.tMP,.aM (.nm 0)],[.aM (.z (-1) 4)],0,[([],[⟨7,4,0⟩,⟨4,7,0⟩])],[⟨4,2,-1⟩],[]⟩
def Qa[Gh]:bz af S28:=X4
def S29:SP:=⟨96,Z,[.agg Ty.Jz,.aM (.str 100)],[.aM (.z (-1) 4)],0,[([],[⟨4,2,-1⟩])],[],[]⟩
def s29[Gh]:bz af S29:=iG .n [(159,[]),(158,[(6,.lp ⟨[],bY [7,0,1] [(8,.int .i64)],[(.s 0,.s 8,5),(.s 8,.s 0,0),(.s 7,.s 8,5),(.s 8,.s 7,0),(.z,.s 8,0)],.s 7,.s 8,0,5,[(.s 8,1)],Z⟩ [])])] [(4,.gv [4])] h
def S30:SP:=⟨122,Z,[.agg Ty.tMP,.aM (.nm 0)],[.aM (.aY [.tu] 0 5)],0,[([⟨4,2,-1⟩],[⟨0,7,-1⟩])],[],[]⟩
def s30[Gh]:bz af S30:=ahV
def S31:SP:=⟨51,Z,[.agg Ty.tMP,.aM (.nm 0)],[.agg (Ty.rZ 0)],0,[],[⟨4,2,-1⟩],[]⟩
def Ma[Gh]:bz af S31:=ab9
def S32:SP:=⟨50,Z,[.agg Ty.oi,.aM (.nm 0),.aM (.nm 0)],[.aM .bool],0,[],[],[]⟩
def s32[Gh]:bz af S32:=iG (Qa.c (s30.c .n)) [(176,[(6,.lp ⟨[],bY [7,0,1] [(8,.int .i64)],[(.s 1,.s 8,4),(.s 0,.s 8,5),(.s 7,.s 8,5),(.z,.s 8,0)],.z,.s 8,5,5,[(.s 8,1)],Z⟩ [])]),(121,[])] [(4,.gv [6])] h
def s33[Gh]:bz af S33:=Yr
def S34:SP:=⟨53,Z,[.agg Ty.oi,.aM (.nm 0)],[.aM (.aY Ty.UV 0 1000),.aM (.aY Ty.abG 0 1000)],0,[([],[⟨7,5,0⟩,⟨5,7,0⟩,⟨8,6,0⟩,⟨6,8,0⟩])],[],[]⟩
def PI[Gh]:bz af S34:=abL
def s35[Gh]:bz af S35:=aiU
def S36:SP:=⟨100,Z,[.agg Ty.zy],[.aM (.z 0 25)],0,[],[],[]⟩
def s36[Gh]:bz af S36:=iG (Pl.c .n) [] [(39,.gv [2]),(35,.gv [2]),(29,.gv [2]),(23,.gv [2]),(9,.gv [2])] h
def S37:SP:=⟨102,Z,[.agg Ty.oi,.aM (.nm 0)],[.aM (.aY Ty.zy 0 150)],0,[],[],[]⟩
def s37[Gh]:bz af S37:=iG (s30.c .n) [] [(8,.lp ⟨[],bY [11,2,10] [(12,.int .i64),(5,.own Ty.zy)],[(.c 2 1,.s 5,5),(.c 2 0,.s 5,2),(.s 10,.s 5,5),(.s 11,.s 5,5),(.z,.s 5,0),(.c 2 1,.s 12,5),(.c 2 0,.s 12,2),(.s 10,.s 12,5),(.s 11,.s 12,5),(.z,.s 12,0)],.z,.s 12,5,5,[(.s 12,1),(.s 5,7)],Z⟩ []),(23,.gv [4])] h
def S38:SP:=⟨46,Z,[.agg Ty.oi,.aM (.z 0 4)],[.aM (.z 0 25)],0,[],[⟨3,2,-1⟩],[]⟩
def s38[Gh]:bz af S38:=iG (s26.c (s35.c (s29.c (s20.c .n)))) [(99,[]),(160,[(6,.lp ⟨[],bY [7,0,1] [(8,.int .i64)],[],.z,.s 8,1009,1009,[(.s 8,1)],Z⟩ [])]),(98,[])] [(45,.lp ⟨[],bY [93,2,92] ((94,.int .i64)::bY [5] [(7,.own [.str 100])]),[],.s 93,.s 94,0,3,[(.s 94,1),(.s 7,1)],Z⟩ []),(80,.lp ⟨[],bY [116,115] [(117,.int .i64),(7,.own [.str 100])],[(.s 7,.s 117,1003)],.s 116,.s 117,0,7,[(.s 117,1)],Z⟩ []),(111,.gv [4]),(105,.gv [4]),(97,.gv [4]),(72,.gv [4]),(64,.gv [4]),(37,.gv [4]),(31,.gv [4]),(25,.gv [4]),(19,.gv [4]),(13,.gv [4])] h
def S39:SP:=⟨47,Z,[.agg Ty.oi,.agg (Ty.rZ 0),.agg Ty.zy],[.aM (.z 0 25)],0,[],[],[]⟩
def s39[Gh]:bz af S39:=iG (s32.c (s37.c (Ma.c (Qa.c (s36.c .n))))) [(101,[(6,.lp ⟨[],bY [10,0,2,1,9] [(11,.int .i64)],[],.s 10,.s 11,0,150,[(.s 11,1)],Z⟩ [])])] [(50,.gv [6]),(64,.gv [6]),(60,.gv [6]),(37,.gv [6]),(31,.gv [6]),(10,.gv [6])] h
def s40[Gh]:bz af S40:=acM
def s41[Gh]:bz af S41:=anV
def S42:SP:=⟨167,Z,[.aM .bool,.aM (.aY [.str 400] 0 12)],[.aM (.aY [.str 400] 0 13)],0,[],[],[]⟩
def s42[Gh]:bz af S42:=iG .n [] [(12,.gv [4]),(8,.gv [4])] h
def S43:SP:=⟨42,Z,[.agg Ty.oi,.aM (.nm 0)],[.aM (.aY [.str 0,.str 300,.z 0 10] 0 1000)],0,[],[],[]⟩
def s43[Gh]:bz af S43:=iG (PI.c .n) [] [(10,.lp ⟨[],bY [17,16] [(18,.int .i64),(7,.own [.str 0,.str 300,.z 0 10])],[(.s 7,.s 18,0),(.s 16,.s 7,1000),(.s 7,.s 16,0),(.s 17,.s 7,1000),(.s 7,.s 17,0),(.z,.s 7,0),(.s 18,.s 7,0),(.s 16,.s 18,1000),(.s 18,.s 16,0),(.s 17,.s 18,1000),(.s 18,.s 17,0),(.z,.s 18,0)],.s 17,.s 18,0,1000,[(.s 18,1),(.s 7,1)],Z⟩ []),(25,.gv [4])] h
def S44:SP:=⟨42,Z,[.agg Ty.oi,.aM (.nm 0)],[.aM (.aY [.str 0,.str 300,.z 0 10] 0 1000)],0,[],[],[0]⟩
def s44[Gh]:bz af S44:=iG (PI.c .n) [] [(10,.lp ⟨[],bY [17,16] [(18,.int .i64),(7,.own [.str 0,.str 300,.z 0 10])],[(.s 7,.s 18,0),(.s 16,.s 7,1000),(.s 7,.s 16,0),(.s 17,.s 7,1000),(.s 7,.s 17,0),(.z,.s 7,0),(.s 18,.s 7,0),(.s 16,.s 18,1000),(.s 18,.s 16,0),(.s 17,.s 18,1000),(.s 18,.s 17,0),(.z,.s 18,0)],.s 17,.s 18,0,1000,[(.s 18,1),(.s 7,1)],Z⟩ [])] h
def S45:SP:=⟨208,Z,[.agg (Ty.nY 0)],[.aM (.z 1 1),.aM (.z 1 1)],0,[],[],[]⟩
def s45[Gh]:bz af S45:=iG .n [] [(8,.lp ⟨[],bY [10,9,11,2,3] [],[],.z,.z,0,0,[],Z⟩ []),(25,.gv [2,3])] h
def S46:SP:=⟨208,Z,[.agg (Ty.nY 1)],[.aM (.z 1 11),.aM (.z 1 2)],0,[],[],[]⟩
def s46[Gh]:bz af S46:=iG (s45.c .n) [] [(8,.lp ⟨[],bY [10,9] [(11,.int .i64),(2,.int .i64),(3,.int .i64)],[(.s 3,.s 2,-1),(.s 3,.s 11,0),(.s 9,.s 3,10),(.s 3,.s 9,0),(.s 10,.s 3,10),(.s 3,.s 10,0),(.z,.s 3,0),(.s 3,.z,1),(.s 2,.s 11,1),(.s 9,.s 2,9),(.s 2,.s 9,1),(.s 10,.s 2,9),(.s 2,.s 10,1),(.z,.s 2,-1),(.s 11,.s 2,-1),(.s 9,.s 11,10),(.s 11,.s 9,0),(.s 10,.s 11,10),(.s 11,.s 10,0),(.z,.s 11,0)],.s 10,.s 11,0,10,[(.s 11,1),(.s 2,1)],Z⟩ []),(25,.gv [2,3])] h
def S47:SP:=⟨208,Z,[.agg (Ty.nY 2)],[.aM (.z 1 1000),.aM (.z 1 3)],0,[],[],[]⟩
def s47[Gh]:bz af S47:=iG (s46.c .n) [] [(8,.lp ⟨[],bY [10,9] [(11,.int .i64),(2,.int .i64),(3,.int .i64)],[(.s 9,.s 3,10),(.s 10,.s 3,10),(.z,.s 3,0),(.s 3,.z,2),(.s 9,.s 2,9),(.s 10,.s 2,9),(.z,.s 2,-1),(.s 11,.s 2,-1),(.s 9,.s 11,10),(.s 11,.s 9,0),(.s 10,.s 11,10),(.s 11,.s 10,0),(.z,.s 11,0)],.s 10,.s 11,0,10,[(.s 11,1),(.s 2,11)],Z⟩ []),(25,.gv [2,3])] h
def S48:SP:=⟨275,Z,[.agg (Ty.nY 2),.aM (.str 10)],[.aM .bool],0,[],[],[]⟩
def s48[Gh]:bz af S48:=iG (s4.c .n) [(318,[])] [(6,.gv [4])] h
def S50:SP:=⟨109,Z,[.aM (.aY [.z 0 100] 0 100)],[.aM (.z 0 100),.aM .bool],0,[],[],[]⟩
def s50[Gh]:bz af S50:=iG .n [] [(8,.lp ⟨[],(9,.int .i64)::bY [7,8] [(4,.int .i64)],[(.s 8,.s 4,100),(.s 7,.s 4,100),(.z,.s 4,0),(.s 4,.z,100),(.s 8,.s 9,100),(.s 9,.s 8,0),(.s 7,.s 9,100),(.s 9,.s 7,0),(.z,.s 9,0)],.s 7,.s 9,0,100,[(.s 9,1)],Z⟩ []),(34,.gv [2,3]),(30,.gv [2,3])] h
def S51:SP:=⟨134,Z,[.aM (.z 0 9)],[.agg [.z 2 2,.z 0 9,.str 0]],0,[],[],[]⟩
def s51[Gh]:bz af S51:=iG .n [(252,[(6,.lp ⟨[],bY [7,6,8] [],[],.z,.z,0,0,[],Z⟩ [])]),(126,[]),(179,[]),(257,[]),(187,[])] [(4,.gv [2])] h
def S52:SP:=⟨134,Z,[.aM Ty.gW],[.agg Ty.kf],0,[],[],[]⟩
def s52[Gh]:bz af S52:=iG (Tg.c .n) [(187,[])] [(4,.gv [2])] h
def S53:SP:=⟨217,Z,[.agg [.z 2 2,.z 0 9,.str 0]],[.aM (.str 2000)],0,[],[],[]⟩
def s53[Gh]:bz af S53:=iG (Tg.c .n) [(358,[]),(351,[]),(332,[]),(284,[]),(187,[])] [(25,.gv [2]),(13,.gv [2])] h
def s54[Gh]:bz af S54:=RQ
def S55:SP:=⟨213,Z,[.agg Ty.Jz,.agg (Ty.rZ 0),.aM (.str 300)],[.agg Ty.kf],0,[],[],[]⟩
def s55[Gh]:bz af S55:=iG (s3.c .n) [] [(8,.lp ⟨[],bY [24,8,3,7,23] ((25,.int .i64)::bY [6] []),[(.c 3 1,.s 25,5),(.c 3 0,.s 25,2),(.s 23,.s 25,3),(.s 25,.s 23,0),(.s 7,.s 25,300),(.s 8,.s 25,300),(.s 24,.s 25,3),(.s 25,.s 24,0),(.z,.s 25,0)],.s 24,.s 25,0,3,[(.s 25,1)],Z⟩ []),(36,.lp ⟨[],bY [40,11,39] ((41,.int .i64)::bY [25,24,8,3,7,23,6] []),[(.c 3 1,.s 41,5),(.c 3 0,.s 41,2),(.s 41,.c 3 0,0),(.c 11 1,.s 41,0),(.c 11 0,.s 41,100),(.s 23,.s 41,3),(.s 7,.s 41,100),(.s 8,.s 41,300),(.s 24,.s 41,3),(.s 39,.s 41,2),(.s 41,.s 39,0),(.s 40,.s 41,2),(.s 41,.s 40,0),(.z,.s 41,0),(.s 41,.z,2)],.z,.s 41,2,2,[],Z⟩ []),(50,.lp ⟨[],bY [47,13,46] ((48,.int .i64)::bY [41,40,11,39,25,24,8,3,7,23,6] []),[(.c 3 1,.s 48,5),(.c 3 0,.s 48,2),(.c 11 1,.s 48,0),(.c 11 0,.s 48,100),(.c 13 1,.s 48,2),(.s 48,.c 13 1,0),(.s 23,.s 48,3),(.s 7,.s 48,100),(.s 8,.s 48,300),(.s 24,.s 48,3),(.s 39,.s 48,2),(.s 40,.s 48,2),(.s 46,.s 48,2),(.s 48,.s 46,0),(.s 47,.s 48,2),(.s 48,.s 47,0),(.z,.s 48,0),(.s 48,.z,2)],.z,.s 48,2,2,[],Z⟩ []),(73,.gv [6]),(66,.gv [6]),(31,.gv [6])] h
def S56:SP:=⟨169,Z,[.agg Ty.oi,.agg (Ty.rZ 0),.aM .bool],[.aM (.aY Ty.Ab 0 100)],0,[],[],[]⟩
def s56[Gh]:bz af S56:=iG (s55.c (s54.c (s41.c (s40.c .n)))) [] [(8,.lp ⟨[],bY [17,3,4] ((2,.ct .bool)::bY [16] [(18,.int .i64),(7,.own Ty.Ab)]),[],.s 17,.s 18,0,12,[(.s 18,1),(.s 7,1)],Z⟩ []),(35,.gv [6])] h
def S57:SP:=⟨216,Z,[.agg Ty.oi,.agg (Ty.rZ 0),.aM (.aY [.str 300] 0 2),.aM (.str 400)],[.aM Ty.gW],0,[],[],[]⟩
def s57[Gh]:bz af S57:=iG (s54.c (s41.c (s40.c .n))) [(160,[(6,.lp ⟨[],bY [7,0,1] [(8,.int .i64)],[(.s 1,.s 8,300),(.s 0,.s 8,2),(.s 8,.s 0,0),(.s 7,.s 8,2),(.s 8,.s 7,0),(.z,.s 8,0),(.s 8,.z,2)],.z,.s 8,2,2,[],Z⟩ [])])] [(6,.lp ⟨[],bY [17,2,3,16] [(18,.int .i64)],[(.s 16,.s 18,12),(.s 18,.s 16,0),(.s 3,.s 18,400),(.s 2,.s 18,2),(.s 17,.s 18,12),(.s 18,.s 17,0),(.z,.s 18,0)],.s 17,.s 18,0,12,[(.s 18,1)],Z⟩ []),(27,.gv [8]),(22,.gv [8])] h
def S58:SP:=⟨254,Z,[.aM (.aY Ty.kf 0 10000)],[.aM (.aY [.int .u8 0 255] 0 100000000)],0,[],[],[]⟩
def s58[Gh]:bz af S58:=iG (Tg.c .n) [(187,[])] [(8,.lp ⟨[],bY [8,7] [(9,.int .i64),(3,.own [.int .u8 0 255])],[(.s 7,.s 3,10000),(.s 8,.s 3,10000),(.z,.s 3,0),(.s 9,.s 3,0),(.s 7,.s 9,10000),(.s 9,.s 7,0),(.s 8,.s 9,10000),(.s 9,.s 8,0),(.z,.s 9,0)],.s 8,.s 9,0,10000,[(.s 9,1),(.s 3,102)],Z⟩ []),(37,.lp ⟨[],bY [5] ((6,.int .i64)::bY [9,8,7] [(3,.own [.int .u8 0 255])]),[(.c 5 0,.s 3,9),(.s 7,.s 3,9999),(.s 8,.s 3,9999),(.z,.s 3,-1),(.s 6,.s 3,55),(.s 6,.c 5 0,55),(.s 6,.s 7,55),(.s 6,.s 8,55),(.s 6,.z,56)],.s 6,.z,1,57,[(.s 3,1)],Z⟩ []),(51,.gv [2])] h
def S59:SP:=⟨183,Z,[.aM (.aY Ty.kf 0 10000)],[.aM (.str 100000000)],0,[],[],[]⟩
def s59[Gh]:bz af S59:=iG (s58.c .n) [] [(4,.gv [2])] h
def S60:SP:=⟨62,Z,[.agg Ty.yU,.agg Ty.yU],[.aM Ty.gW],0,[],[],[]⟩
def s60[Gh]:bz af S60:=iG .n [(180,[]),(128,[]),(59,[(6,.lp ⟨[],bY [10,9] ((11,.int .i64)::bY [0,1] []),[(.z,.s 11,0)],.z,.s 11,3,3,[(.s 11,1)],Z⟩ [])]),(253,[]),(181,[]),(130,[(6,.lp ⟨[],bY [10,9] ((11,.int .i64)::bY [0,1] []),[(.z,.s 11,0),(.s 11,.z,2)],.z,.s 11,2,2,[],Z⟩ [])])] [(14,.gv [4]),(10,.gv [4])] h
def s61[Gh]:bz af S61:=aau
def s62[Gh]:bz af S62:=abX
def S63:SP:=⟨191,Z,[.aM (.aY Ty.ma 0 100),.aM (.aY Ty.ma 0 100)],[.aM Ty.gW],0,[],[],[]⟩
def s63[Gh]:bz af S63:=iG (s61.c (s25.c .n)) [(311,[]),(187,[]),(261,[]),(260,[(6,.lp ⟨[],bY [12,2,11] ((13,.int .i64)::bY [0,1] []),[(.s 1,.s 13,100),(.s 13,.s 1,0),(.s 0,.s 13,100),(.s 13,.s 0,0),(.s 11,.s 13,100),(.s 13,.s 11,0),(.s 12,.s 13,100),(.s 13,.s 12,0),(.z,.s 13,0)],.s 12,.s 13,0,100,[(.s 13,1)],Z⟩ [])])] [(4,.gv [4])] h
def S64:SP:=⟨110,Z,[.agg Ty.oi,.aM (.nm 0)],[.aM (.str 100)],0,[],[],[]⟩
def s64[Gh]:bz af S64:=iG (Ma.c .n) [] [(14,.gv [4]),(10,.gv [4])] h
def S65:SP:=⟨112,Z,[.agg Ty.oi,.aM (.nm 0),.agg Ty.zy],[.aM (.str 100),.aM (.str 100)],0,[],[],[]⟩
def s65[Gh]:bz af S65:=iG (Qa.c .n) [] [(23,.lp ⟨[],bY [45,44] ((46,.int .i64)::bY [1,5] []),[(.c 5 3,.s 46,100),(.c 5 2,.s 46,12),(.s 1,.s 46,12),(.s 44,.s 46,7),(.s 46,.s 44,0),(.s 45,.s 46,7),(.s 46,.s 45,0),(.z,.s 46,0)],.s 45,.s 46,0,7,[(.s 46,1)],Z⟩ []),(44,.gv [6,7]),(39,.gv [6,7]),(17,.gv [6,7]),(11,.gv [6,7])] h
def S66:SP:=⟨166,Z,[.agg (Ty.nY 0),.aM (.aY [.str 0,.str 300,.z 0 10] 0 1000),.aM (.aY [Ty.gW] 0 0),.aM .bool],[.aM (.z 0 100),.aM (.z 0 25)],0,[],[],[]⟩
def s66[Gh]:bz af S66:=iG (s21.c (Tg.c (s48.c .n))) [(321,[]),(320,[(6,.lp ⟨[],bY [7,0,1] [(8,.int .i64)],[],.s 7,.s 8,0,1000,[(.s 8,1)],Z⟩ [])]),(278,[]),(210,[]),(277,[]),(276,[]),(126,[]),(209,[])] [(8,.lp ⟨[],bY [21,20,22,1,2] ((3,.ct .bool)::bY [4,10] []),[],.z,.z,0,0,[],Z⟩ []),(0,.sp 0 [(0,[]),(1,[22,23])]),(39,.gv [8,9]),(49,.gv [8,9])] h
def S67:SP:=⟨166,Z,[.agg (Ty.nY 1),.aM (.aY [.str 0,.str 300,.z 0 10] 0 1000),.aM (.aY [Ty.gW] 0 0),.aM .bool],[.aM (.z 0 100),.aM (.z 0 25)],0,[],[],[]⟩
def s67[Gh]:bz af S67:=iG (s22.c (s21.c (Tg.c (s50.c (s48.c (s66.c .n)))))) [(212,[(18,.lp ⟨[],bY [1] [(9,.int .i64),(8,.own [.z 0 100])],[(.s 8,.s 9,1)],.z,.s 8,10,9,[(.s 9,2),(.s 8,1)],Z⟩ []),(7,.gv [1]),(40,.gv [8]),(13,.gv [1000006])]),(321,[]),(320,[(6,.lp ⟨[],bY [7,0,1] [(8,.int .i64)],[],.s 7,.s 8,0,1000,[(.s 8,1)],Z⟩ [])]),(278,[]),(322,[]),(281,[(10,.lp ⟨[],bY [18,8,17] ((19,.int .i64)::(10,.ct .bool)::bY [0,1,2] [(9,.int .i64)]),[(.z,.s 9,0),(.s 9,.z,4),(.z,.s 19,0)],.z,.s 19,2,2,[],Z⟩ []),(24,.lp ⟨[],bY [26,12,25] ((27,.int .i64)::bY [19,18,8,17] ((10,.ct .bool)::bY [0,1,2] [(9,.int .i64)])),[(.z,.s 9,0),(.s 9,.z,4),(.z,.s 27,0)],.z,.s 27,2,2,[],Z⟩ [])]),(277,[]),(280,[(6,.lp ⟨[],bY [12,2,11] ((13,.int .i64)::bY [0] []),[(.z,.s 13,0)],.z,.s 13,3,3,[],Z⟩ [])]),(211,[(80,.gv [3]),(24,.gv [3])]),(210,[]),(276,[]),(126,[]),(209,[])] [(8,.lp ⟨[],bY [21,20] ((22,.int .i64)::bY [1,2] ((3,.ct .bool)::bY [4] [(10,.own [.z 0 100])])),[(.s 22,.s 10,0)],.s 21,.s 22,0,10,[(.s 22,1),(.s 10,1)],Z⟩ []),(0,.sp 0 [(0,[]),(1,[22,23])]),(39,.gv [8,9]),(69,.gv [8,9]),(65,.gv [8,9]),(49,.gv [8,9]),(27,.gv [8,9])] h
def S68:SP:=⟨166,Z,[.agg (Ty.nY 2),.aM (.aY [.str 0,.str 300,.z 0 10] 0 1000),.aM (.aY [Ty.gW] 0 0),.aM .bool],[.aM (.z 0 100),.aM (.z 0 25)],0,[],[],[]⟩
def s68[Gh]:bz af S68:=iG (s22.c (s21.c (Tg.c (s50.c (s48.c (s67.c .n)))))) [(212,[(18,.lp ⟨[],bY [1] [(9,.int .i64),(8,.own [.z 0 100])],[(.s 8,.s 9,1)],.z,.s 8,10,9,[(.s 9,2),(.s 8,1)],Z⟩ []),(7,.gv [1]),(40,.gv [8]),(13,.gv [1000006])]),(321,[]),(320,[(6,.lp ⟨[],bY [7,0,1] [(8,.int .i64)],[],.s 7,.s 8,0,1000,[(.s 8,1)],Z⟩ [])]),(278,[]),(322,[]),(281,[(10,.lp ⟨[],bY [18,8,17] ((19,.int .i64)::(10,.ct .bool)::bY [0,1,2] [(9,.int .i64)]),[(.z,.s 9,0),(.s 9,.z,4),(.z,.s 19,0)],.z,.s 19,2,2,[],Z⟩ []),(24,.lp ⟨[],bY [26,12,25] ((27,.int .i64)::bY [19,18,8,17] ((10,.ct .bool)::bY [0,1,2] [(9,.int .i64)])),[(.z,.s 9,0),(.s 9,.z,4),(.z,.s 27,0)],.z,.s 27,2,2,[],Z⟩ [])]),(277,[]),(280,[(6,.lp ⟨[],bY [12,2,11] ((13,.int .i64)::bY [0] []),[(.z,.s 13,0)],.z,.s 13,3,3,[],Z⟩ [])]),(211,[(80,.gv [3]),(24,.gv [3])]),(210,[]),(276,[]),(126,[]),(209,[])] [(8,.lp ⟨[],bY [21,20] ((22,.int .i64)::bY [1,2] ((3,.ct .bool)::bY [4] [(10,.own [.z 0 100])])),[(.s 22,.s 10,0)],.s 21,.s 22,0,10,[(.s 22,1),(.s 10,1)],Z⟩ []),(0,.sp 0 [(0,[]),(1,[22,23])]),(39,.gv [8,9]),(69,.gv [8,9]),(65,.gv [8,9]),(49,.gv [8,9]),(27,.gv [8,9])] h
def S69:SP:=⟨48,Z,[.agg Ty.oi,.agg (Ty.rZ 0)],[.aM (.z 0 25)],0,[],[],[]⟩
def s69[Gh]:bz af S69:=iG (s50.c (s68.c (s47.c (s43.c (s62.c (s41.c (s40.c .n))))))) [(165,[]),(207,[(6,.lp ⟨[],bY [7,0,1,8] [],[],.z,.z,0,0,[],Z⟩ [])]),(163,[]),(108,[]),(160,[(6,.lp ⟨[],bY [7,0,1] [(8,.int .i64)],[(.z,.s 8,0)],.z,.s 8,1,1,[],Z⟩ [])]),(98,[]),(107,[]),(162,[(6,.lp ⟨[],bY [7,0,1] [(8,.int .i64)],[],.s 7,.s 8,0,12,[(.s 8,1)],Z⟩ [])]),(106,[])] [(8,.lp ⟨[],bY [28,5,27] ((29,.int .i64)::bY [3,2] []),[],.s 28,.s 29,0,20,[(.s 29,1)],Z⟩ []),(30,.lp ⟨[],bY [42,7,41] ((43,.int .i64)::bY [29,28,5,39,38,37,27,3,2] []),[(.z,.s 43,0)],.z,.s 43,2,2,[],Z⟩ []),(62,.lp ⟨[],bY [61,3,2,60] [(62,.int .i64)],[],.s 61,.s 62,0,3,[(.s 62,1)],Z⟩ []),(101,.gv [4]),(96,.gv [4]),(87,.gv [4]),(47,.gv [4]),(54,.gv [4]),(25,.gv [4])] h
def S70:SP:=⟨98,Z,[.aM (.aY [.str 400] 0 1000),.aM (.str 400)],[.aM .bool],0,[],[],[]⟩
def s70[Gh]:bz af S70:=iG .n [(160,[(6,.lp ⟨[],bY [7,0,1] [(8,.int .i64)],[(.s 1,.s 8,400),(.s 0,.s 8,1000),(.s 8,.s 0,0),(.s 7,.s 8,1000),(.s 8,.s 7,0),(.z,.s 8,0)],.s 7,.s 8,0,1000,[(.s 8,1)],Z⟩ [])])] [(4,.gv [4])] h
def Su:FL:=[(215,[]),(323,[(3,.lp ⟨[],bY [2,0,3,1] [(8,.int .i64)],[],.s 2,.s 8,0,11,[(.s 8,1)],Z⟩ []),(15,.lp ⟨[],(9,.int .i64)::bY [8,2,0,3,1] [],[(.s 9,.s 2,-1)],.s 9,.z,0,11,[],Z⟩ [])]),(282,[(5,.lp ⟨[],bY [10,11,2,4,3,0,1] [],[],.z,.z,0,0,[],Z⟩ [])]),(227,[]),(172,[]),(214,[]),(170,[(8,.lp ⟨[(2,[.aL,.aL,.aL,.own Ty.zQ,.aL])],bY [24,23] ((25,.int .i64)::bY [3,2,4] [(6,.ct .bool)]),[],.s 24,.s 25,0,6,[(.s 25,1),(.c 2 3,1)],Z⟩ []),(26,.lp ⟨[(2,[.aL,.aL,.aL,.aL,.own [.str 10000,.aY [.str 400] 0 30,.bool]])],bY [61,3,2,4,6,60] [(62,.int .i64)],[(.z,.s 62,0)],.z,.s 62,2,2,[(.c 2 4,10)],Z⟩ []),(40,.lp ⟨[(2,[.aL,.aL,.aL,.aL,.own [.str 10000,.aY [.str 400] 0 30,.bool]])],bY [68,10,67] ((69,.int .i64)::bY [62,61,3,2,4,6,60] []),[],.s 68,.s 69,0,10,[(.s 69,1),(.c 2 4,1)],Z⟩ []),(57,.lp ⟨[],bY [80,79] ((81,.int .i64)::bY [13] ((14,.own [.str 400])::bY [12,69,68,10,67,62,61,3,2,4,6,60] [])),[],.s 80,.s 81,0,12,[(.s 81,1),(.s 14,1)],Z⟩ []),(76,.gv [95])]),(168,[])]
noncomputable def Tf:En:=⟨[S53,S51,S57,S70,S40,S42,S54,S41,S31,S56,S64,S28,S33],QI af Su,[]⟩
def adv[Gh]:wF af Tf:=yL.en (s53.c (s51.c (s57.c (s70.c (s40.c (s42.c (s54.c (s41.c (Ma.c (s56.c (s64.c (Qa.c (s33.c .n))))))))))))) Su h
def TG:AC:=BP [(20,.lp ⟨[(6,[.aL,.own Ty.yh,.aL,.own Ty.zQ,.own [.str 10000,.aY [.str 400] 0 30,.bool]])],bY [75,5,2,3,74] ((76,.int .i64)::bY [6,4] []),[],.z,.s 76,5,5,[(.s 76,1),(.c 6 1,100),(.c 6 3,6),(.c 6 4,20)],Z⟩ []),(4,.jn ⟨[(6,[.aL,.own Ty.yh,.aL,.aL,.aL])],bY [9,10,5,2,3,6,4] [],[(.z,.c 6 1,-1),(.c 6 1,.z,3)],.z,.z,0,0,[],Z⟩),(6,.jn ⟨[(6,[.aL,.own Ty.yh,.aL,.aL,.aL])],bY [9,10,5,2,3,6,4] [],[(.z,.c 6 1,-1),(.c 6 1,.z,4)],.z,.z,0,0,[],Z⟩),(8,.jn ⟨[(6,[.aL,.own Ty.yh,.aL,.aL,.aL])],bY [10,5,2,3,6,4] [],[(.z,.c 6 1,-1),(.c 6 1,.z,5)],.z,.z,0,0,[],Z⟩),(10,.jn ⟨[(6,[.aL,.aL,.aL,.own [.str 10,.aY [.em 7] 0 10,.str 100],.aL])],bY [10,5,2,3,6,4] [],[(.z,.c 6 3,0),(.c 6 3,.z,1)],.z,.z,0,0,[],Z⟩)] JH 0
def ady[Gh]:run (Kh Tf 24) TG Ty.qi (M6 Ty.B5 [1,3,4] [.cell 4 5 aa])=aa:=h
def ain:JH=TG.jf:=by rfl
section
variable [Gh]
def Oq{c:bE}:∀{cT:List CT} {b:List P},Row cT b->cd c (cT.map .ct) (b.map .p)|[],[],_=>ar|[],_::_,a=>ar|_::_,[],a=>ar|dH::cT,aB::b,a=>by simp[Row]at a;exact⟨⟨aB,rfl,a.1⟩,Oq a.2⟩
theorem Kr{c:Type}:∀{L:List (Nat×c)} {b:Nat} {o:c},Ai.aQ L b=J o->(b,o)∈L|[],_,_,a=>by simp[Ai.aQ]at a|(d,e)::n,b,o,a=>by simp only[Ai.aQ]at a;split at a;rename_i t;have t:=aK t;grind;exact jz _ (Kr a)
def anx{z:ByteArray}{er rr:List P}{B k C:P}{i:ah}{a l m:Nat}{b:List (List P)}{g:St}{ad:D->ah->Nat->Prop}(hs:I1 z er rr B k C i a l m (b.map kq) g)(hl:1<=b.length)(a6:b.length<=2)(hq:Sl 1 C b)(hk:∀n∈b,∃e:ByteArray,n=[S e]/\e.size<=400)(ay:Gh.kc (b.map kq))(aB:Gh.kk b)(ha:Gh.nm z)(h0:CT.ok (Ty.aY Ty.OG 2) B)(hx:CT.ok (.aY (Ty.rZ 2) 1 5) k)(ag:Row Ty.nT er)(al:Row Ty.nT rr)(aE:Fr i a)(hK:∀w an d q Q,a<=w->Vs (Ty.B5.map .aM) an->lg a w [1,3,4] 0 (Ty.B5.map .aM) an q i Q->FH d q->Fr Q w->ad d Q w):cH (X af) JH g λt u=>(t=.normal\/t=.ret)/\jt u YC.rs λq=>ji a ad u.O u.nx (aM q):=by
 rw[ain];obtain⟨⟨g2,r,F⟩,⟨g3,G,I⟩,⟨g4,K,L⟩,⟨g5,j,M⟩,⟨g6,dc,h6,N,n6⟩,a7,a8,a9,ao,bb,hF,aI⟩:=hs;have aO:b.map kq≠[]:=by intro c;have:=congrArg List.length c;simp at this;subst this;simp at hl
 rcases n6 with⟨c,_⟩|⟨ax,gc,bd,rfl,s⟩;exact absurd c aO;have be:=hF.lt s;obtain⟨f,aP,bk,bl,aR,aS,a0⟩:∃f,Sl 10 k f/\(1:Int)<=f.length/\(f.length:Int)<=5/\(∀n∈f,Row (Ty.rZ 2) n)/\Gh.pre f/\(f.length:Int)=Gh.n:=by
  obtain⟨f,O,r,G,K,j⟩:=hx;have j:Ai.LT 2 f:=j;have j:Gh.pre f/\(f.length:Int)=Gh.n:=by simpa[Ai.LT]using j
  exact⟨f,O,r,G,K,j.1,j.2⟩
 let R:Nat->Option Nat:=λe=>if e=0 then J a else if e=1 then J (a+1) else if e=2 then J (a+2) else if e=3 then J l else if e=4 then J m else if e=5 then J ax else ae
 let o:bE:=⟨3,6,λk=>if k=1 then Gh.n else if k=2 then b.length else 0,R,Ai.aQ Ty.qi.H,g.O⟩
 have a1:∀(i:ah),bp i iv=i:=λi=>by funext id;simp only[bp];cases i id<;>rfl
 have bm:∀e,(o.H e).isSome=aa->e<6:=by intro e h;show e<6;have h:(Ai.aQ Ty.qi.H e).isSome=aa:=h;obtain⟨v,T⟩:=dM.1 h;have:=Kr T;simp[Ty.qi]at this;omega
 have U:∀e id,o.ν e=J id->(e=0/\id=a)\/(e=1/\id=a+1)\/(e=2/\id=a+2)\/(e=3/\id=l)\/(e=4/\id=m)\/(e=5/\id=ax):=by
  intro e id c;have c:R e=J id:=c;simp only[R]at c
  repeat' split at c
  all_goals (first|(cases c;omega)|cases c)
 have a2:∀e v,Ai.aQ Ty.qi.H e=J v->e<6/\wG o e v:=by
  intro e v T;have p:=Kr T;simp only[Ty.qi,bt,iD,iT]at p;rcases p with⟨rfl,rfl⟩|⟨rfl,rfl⟩|⟨rfl,rfl⟩|⟨rfl,rfl⟩|⟨rfl,rfl⟩|⟨rfl,rfl⟩
  exact⟨eB,a,2,g2,_,rfl,F,rfl,⟨B,rfl,h0⟩,⟨by show(1:Nat)<3;decide,k,f,rfl,aP,by show Gh.n+0=_;omega,⟨aR,by simp[Ai.LT,jO,Ty.rZ,aS,a0]⟩,λc=>by cases c⟩,trivial⟩;refine⟨eB,a+1,10,g3,_,rfl,I,?_,Oq ag⟩;have:=ag.length;simp[this,Ty.nT,Ty.rZ];exact⟨eB,a+2,5,g4,_,rfl,L,rfl,⟨_,rfl,⟨⟨#[]⟩,rfl,eB⟩⟩,rfl,rfl,rfl,rfl,trivial⟩;refine⟨eB,l,10,g5,_,rfl,M,?_,Oq al⟩;have:=al.length;simp[this,Ty.nT,Ty.rZ];refine⟨eB,m,5,g6,_,rfl,N,rfl,⟨_,rfl,z,rfl,ha⟩,⟨by show(5:Nat)<6;decide,λ_=>?_⟩,⟨C,rfl,b,hq,y,y,λn V=>?_,?_⟩,rfl,rfl,trivial⟩;exact⟨6,gc,_,s,Y⟩;obtain⟨e,rfl,h⟩:=hk n V;exact⟨⟨e,rfl,by show(e.size:Int)<=400;omega⟩,trivial⟩;simp[Ai.LT,jO,aB];refine⟨eB,by show(2:Nat)<3;decide,gc,b.map kq,s,by show(b.length:Int)+0=_;simp,λn V=>?_,?_⟩;obtain⟨r0,a3,rfl⟩:=bN.1 V;obtain⟨e,rfl,h⟩:=hk r0 a3;exact⟨⟨e,rfl,by show(e.size:Int)<=400;omega⟩,⟨2,rfl,eB,eB⟩,⟨Z,rfl⟩,⟨0,rfl,eB,eB⟩,⟨0,rfl,eB,eB⟩,⟨⟨#[]⟩,rfl,eB⟩,trivial⟩;simp[Ai.LT,jO,Ty.yh,ay]
 have bn:a<=g.bs:=ao;refine aiQ adv ady ⟨rfl,rfl,rfl,rfl⟩ aE ⟨⟨rfl,rfl,rfl,⟨rfl,rfl⟩,eB,?_⟩,?_,⟨λid=>?_,?_,a2,λe id _ _=>⟨λ_=>rfl,λc=>?_⟩,λe b' id O r W a4=>?_,λe id O W=>?_,λid ac _=>?_,λnm a5=>?_,?_,ao,λe id _ h _=>?_,λid ac=>?_,rD _,λe h=>?_⟩⟩ hK;intro H x;have x:H∈[dq (num 1) ⟨1,0⟩,dq ⟨1,0⟩ (num 5),dq (num 1) ⟨2,0⟩,dq ⟨2,0⟩ (num 2)]:=(Gs.tH x).resolve_right Gs.O8;simp only[bt,iD,iT]at x;have v1:o.ρ 1=Gh.n:=rfl;have v2:o.ρ 2=b.length:=rfl;rcases x with rfl|rfl|rfl|rfl
 exact⟨by simp[dq,num,Ty.qi],by simp[dq,Ty.qi],λ_=>nM (by simp only[E.val,num];rw[v1];show(0:Int)+1<=Gh.n+0;omega)⟩;exact⟨by simp[dq,Ty.qi],by simp[dq,num,Ty.qi],λ_=>nM (by simp only[E.val,num];rw[v1];show Gh.n+0<=(0:Int)+5;omega)⟩;exact⟨by simp[dq,num,Ty.qi],by simp[dq,Ty.qi],λ_=>nM (by simp only[E.val,num];rw[v2];show(0:Int)+1<=b.length+0;omega)⟩;exact⟨by simp[dq,Ty.qi],by simp[dq,num,Ty.qi],λ_=>nM (by simp only[E.val,num];rw[v2];show(b.length:Int)+0<=(0:Int)+2;omega)⟩;intro bo A hA;have p:=Kr hA;simp only[Ty.qi,bt,xe,iD,iT]at p;rcases p with⟨rfl,rfl⟩|⟨rfl,rfl⟩|⟨rfl,rfl⟩|⟨rfl,rfl⟩|⟨rfl,rfl⟩
 exact⟨by show(0:Nat)<6;decide,λ_=>⟨a,2,g2,_,rfl,F,r⟩⟩;exact⟨by show(1:Nat)<6;decide,λ_=>⟨a+1,10,g3,_,rfl,I,G⟩⟩;exact⟨by show(2:Nat)<6;decide,λ_=>⟨a+2,5,g4,_,rfl,L,K⟩⟩;exact⟨by show(3:Nat)<6;decide,λ_=>⟨l,10,g5,_,rfl,M,j⟩⟩;exact⟨by show(4:Nat)<6;decide,λ_=>⟨m,5,g6,_,rfl,N,h6⟩⟩;show g.O id=bp g.O iv id;rw[a1];exact λid _=>rfl;cases c;have q1:=U _ _ W;have q2:=U _ _ a4;omega;have q1:=U _ _ W;refine⟨?_,.inl aw⟩;show g.O id≠ae;rcases q1 with⟨_,rfl⟩|⟨_,rfl⟩|⟨_,rfl⟩|⟨_,rfl⟩|⟨_,rfl⟩|⟨_,rfl⟩
 rw[F];simp;rw[I];simp;rw[L];simp;rw[M];simp;rw[N];simp;rw[s];simp;exact aI id ac;cases a5;show g.bs+0<=g.nx;omega;cases h;exact hF id ac;cases h
end
def aaT:List aA:=[q 21 (.yK (.t 20) 5 1 Z),G 7 16,G 8 21]
def Z7:List aA:=(aZ 16 (.yK (.t 15) 5 1 Z)::q 20 (dV 51 17 19)::aaT)
def abw:List aA:=[q 31 (.build [aF,aD,aD,aD,aD] [(0,1,.t 27),(2,1,.t 30)]),vt (xS 5 9 31)]
def aa8:av:=rF 2 [q 46 (di .add 35 1),G 35 46]
def Sk:av:=
 z 1 [q 36 (xB .lss 35 34)] (.seq (cX 36 0) (.seq (.block 1 (z 3 [q 37 (xI 1 33 35),oL 38 1 37,G 11 38] (rF 8 [oF 39 9 1,oL 40 1 39,G 41 11,q 42 (.build [aF,aH,dZ,aH,aH,aF] [(0,1,.t 41),(1,1,.c (I 2))]),q 43 (.bQ 4 6 1 [aF,aH,dZ,aH,aH,aF] [(0,.t 42)]),q 44 (jE 5 6 64 40 43),oF 45 9 1,oN (xS 1 45 44)])))
  aa8))
def VV:List aA:=[q 62 (.build [aF,aD,aF] [(0,1,.c (S ⟨#[114,105,103,104,116,95]⟩)),(2,1,.t 58),(1,1,.t 61)]),q 63 (.bQ 16 3 2 [aF,aD,aF] [(0,.t 54),(1,.t 62)]),oF 64 9 3,oN (xS 1 64 63)]
def Wy:List aA:=(q 61 (dV 167 59 60)::VV)
def Zf:List aA:=(aZ 54 (.build [aF,aD,aF] [(0,1,.c (S ⟨#[108,101,102,116,95]⟩)),(2,1,.t 50),(1,1,.t 53)])::q 58 (dV 110 55 57)::Wy)
def Z8:List aA:=(q 53 (dV 167 51 52)::Zf)
def WD:List aA:=[q 68 (.build [aF,aD,dZ] [(0,1,.c (S ⟨#[114,105,103,104,116,95]⟩)),(1,1,.t 67)]),q 69 (.bQ 4 3 1 [aF,aD,dZ] [(0,.t 68)]),oF 70 9 4,oN (xS 1 70 69)]
def We:av:=z 2 [cA 71 5 9,oN (xS 5 6 71)] (.ret)
def ais:av:=
 z 7 (G 65 7::q 66 (.bQ 1 1 1 [aF] [(0,.c (S ⟨#[114,105,103,104,116,95,105,100]⟩))])::q 67 (dV 167 65 66)::WD)
  We
def Uy:av:=
 .seq (.dg 19 aa (aZ 47 (CM 2 3)::aZ 51 (xM 7)::aZ 52 (.bQ 5 1 1 [aF] [(0,.c (S ⟨#[108,101,102,116,95,105,100]⟩))])::aZ 55 (CM 2 3)::aZ 56 (xF 5 2)::aZ 57 (jP 1 56)::aZ 59 (xM 8)::aZ 60 (.bQ 13 1 1 [aF] [(0,.c (S ⟨#[114,105,103,104,116,95,105,100]⟩))])::oF 48 4 0::q 49 (jP 1 48)::q 50 (dV 110 47 49)::Z8))
  ais
def Ry:av:=
 .seq (z 4 [oF 32 9 2,oL 33 1 32,q 34 (fQ 33),fR 35 0] (.block 0 (.loop Sk)))
  Uy
def Tr:av:=
 .seq (.dg 12 aa (aZ 22 (xF 4 0)::aZ 23 (jP 1 22)::aZ 24 (.lS .add 0 (.t 23) (.c (S ⟨#[95]⟩)))::aZ 25 (xF 5 0)::aZ 26 (jP 1 25)::aZ 27 (xB .add 24 26)::aZ 9 (.alloc 10 5 [aF,aD,aD,aD,aD])::G 28 7::q 29 (.bQ 7 1 2 [aF] [(0,.c (S ⟨#[108,101,102,116,95,105,100]⟩)),(1,.c (S ⟨#[114,105,103,104,116,95,105,100]⟩))])::q 30 (dV 167 28 29)::abw))
  Ry
def TH:d6:=⟨72,[.cell 6 5 aa],z 4 [q 3 (iU 0 2 0),q 4 (iU 1 10 1),q 5 (iU 2 7 2),q 6 (.alloc 3 5 [aF,aD,aD,aD,aD])] (.seq (.dg 12 aa (aZ 12 (uS 2 3)::aZ 17 (uS 2 3)::aZ 18 (xF 5 2)::aZ 19 (xL 1 18)::oF 13 4 0::oL 14 1 13::q 15 (dV 51 12 14)::Z7))
 Tr)⟩
def akP:cW af Tryz.f113=J TH:=h
section
variable [Gh]
end
def tC(e:ah)(b:Nat)(a:List (List P))(c:D)(d:Option Nat):Prop:=(d=ae/\a=[]/\c=.p aD)\/∃id bn,d=J id/\c=.sl id bn 0 a.length b Z/\e id=J (.row b bn (a.map (·.map .p)))
structure wI[Gh](a:ByteArray)(pc pk:P)(cols ks fo ix:List (List P)):Prop where
 a:a.size<=400
 pc:Sl 6 pc cols
 pk:Sl 1 pk ks
 lc:cols.length<=1000
 lk:ks.length<=13
 lf:fo.length<=1000
 li:ix.length<=1000
 rc:∀r∈cols,Row Ty.Ab r
 rk:∀r∈ks,Row [.str 400] r
 rf:∀r∈fo,Row Ty.zQ r
 ri:∀r∈ix,Row Ty.M0 r
 key:∀k∈ks,∃c∈cols,c.head? =k.head?
structure Da[Gh](nx nx':Nat)(O O':ah)(d:D):Prop where
 ex:∃(a:ByteArray) (pc pk:P) (cols ks fo ix:List (List P)) (dF dI:D) (oF oI:Option Nat),FH d [.p (S a),.p pc,.p pk,dF,dI]/\wI a pc pk cols ks fo ix/\tC O' 3 fo dF oF/\tC O' 3 ix dI oI/\(∀i,oF=J i->oI≠J i)/\
  (∀i,oF=J i\/oI=J i->nx<=i/\i<nx')/\∀k,oF≠J k->oI≠J k->O' k=O k
def zG[Gh]{has:Bool}(c:∀n∈L,∃e:ByteArray,n=[S e]/\e.size<=100):∀n∈(if has then [[S uG]] else [])++L,∃e:ByteArray,n=[S e]/\e.size<=100:=by
 intro n b;rcases bg.1 b with a|a
 cases has;cases a;simp at a;subst a;exact⟨uG,rfl,eB⟩;exact U
theorem RG[Gh]{hi:Int}(a:Sl 1 p L)(b:(L.length:Int)<=hi)(c:∀n∈L,∃e:ByteArray,n=[S e]/\e.size<=100):CT.ok (.aY [.str 400] 0 hi) p:=⟨L,a,y,b,λn d=>by obtain⟨e,rfl,f⟩:=c n d;exact⟨⟨e,rfl,y⟩,aj⟩,aj⟩
theorem ac4[Gh](a:n=[S e])(b:e.size<=400):Row Ty.Ab (kq n):=by subst a;exact⟨⟨e,rfl,y⟩,⟨2,rfl,eB,eB⟩,aj,⟨0,rfl,eB,eB⟩,⟨0,rfl,eB,eB⟩,⟨⟨#[]⟩,rfl,eB⟩,aj⟩
structure OK(er rr:List P)(e0 x:P)(own oth:Bool)(O:ah)(nx:Nat)(s:St):Prop where
 h3:∃g,s.T 3=.ptr nx g 2 0 0/\s.O nx=J (.row 2 g [[.p e0,.p x]])
 h4:∃g,s.T 4=.ptr (nx+1) g 10 0 0/\s.O (nx+1)=J (.row 10 g [er.map .p])
 h5:∃g,s.T 5=.ptr (nx+2) g 7 0 0/\s.O (nx+2)=J (.row 7 g [rr.map .p])
 h6:∃g,s.T 6=.ptr (nx+3) g 5 0 0/\s.O (nx+3)=J (.row 5 g [[.p aF,.p aD,.p aD,.p aD,.p aD]])
 h7:s.T 7=.p (B own)
 h8:s.T 8=.p (B oth)
 gp:nx+3<s.nx
 hbs:nx<=s.bs
 Zu:s.bs<=s.nx
 fr:Fr s.O s.nx
 low:∀k,k<nx->s.O k=O k
def OK.next{g:P}{own:Bool}{h:ah}{b:Nat}(c:OK bS bH g C own bT h b f)(d:∀a,3<=a->a<=8->u.T a=f.T a)(e:∀a,a<=b+3->u.O a=f.O a)(i:b<=u.bs)(j:u.bs<=u.nx)(h3:f.nx<=u.nx)(k:Fr u.O u.nx):OK bS bH g C own bT h b u:=by refine⟨?_,?_,?_,?_,?_,?_,by have:=c.gp;omega,i,j,k,λa l=>by rw[e a y];exact c.low a l⟩;rw[d 3 y y,e b y];exact c.h3;rw[d 4 y y,e (b+1) y];exact c.h4;rw[d 5 y y,e (b+2) y];exact c.h5;rw[d 6 y y,e (b+3) y];exact c.h6;rw[d 7 y y];exact c.h7;rw[d 8 y y];exact c.h8
def Ng:ByteArray:=⟨#[108,101,102,116,95,105,100]⟩
def EZ:ByteArray:=⟨#[114,105,103,104,116,95,105,100]⟩
def MR(has:Bool):List (List P):=(if has then [[S uG]] else [])++[[S Ng],[S EZ]]
theorem agB{d:P}{c:List (List P)}(g:vN C c)(m:qf c)(F:H.cells=[H])(G:V.cells=[V])(L:ag.cells=[ag])(M:aP.cells=[aP])(N:d.cells=[d])(r:0<=iW (named o) c)(s:0<=iW (named cJ) c)(p:∀n∈c,∃o aB be bu bA bB H V ag aP,n=[S o,S aB,B be,B bu,B bA,B bB,H,V,ag,aP]/\H.cells=[H]/\V.cells=[V]/\ag.cells=[ag]/\aP.cells=[aP]){h:ah}{a:Nat}(i:Fr h a->∀f own bT,OK [S o,S aB,B be,B bu,B bA,B bB,H,V,ag,aP] [S bO,I eZ,S cJ,S cU,B dT,I fe,B eJ] d C own bT h a f->bx (X af) Tr f λt u=>(t=.normal\/t=.ret)/\jt u TH.rs λv=>ji a K u.O u.nx (aM v)):
 X af 113 [.p (.agg [d,C]),.p (.agg [S o,S aB,B be,B bu,B bA,B bB,H,V,ag,aP]),.p (.agg [S bO,I eZ,S cJ,S cU,B dT,I fe,B eJ])] h a K:=by
 refine X.of Y akP (by simp[TH]) λq=>?_;have O:C.cells=[C]:=by cases g.sl<;>simp[P.cells,aJ]
 have i:=i q;show bx _ (.seq _ (.seq _ _)) _ _;simp(disch:=omega)[cN,D.cells,P.cells];intro e Q;refine⟨[a,a+2],?_⟩;simp(disch:=omega)[aX,only,ba,ai];refine vg g m r λR T U bH W _ w=>?_;obtain⟨ra,rp,ab,ac,ad,x,rf,al,ru,rx,rfl,k6,k7,k8,k9⟩:=p _ (iS w);simp(disch:=omega)[Z7,aX,only,ba,ft,ai];refine vg g m s λz l1 an ao ax _ A=>?_;obtain⟨ay,aE,aI,aO,aR,E,aS,a0,a1,a2,rfl,_⟩:=p _ (iS A);simp(disch:=omega)[aaT,aX,only,ba,ft,ai];refine i _ x E ⟨⟨e a,Y,by simp(disch:=omega)[bp,aX,only,ai]⟩,⟨e (a+1),Y,by simp(disch:=omega)[bp,aX,only,ai]⟩,⟨e (a+2),Y,by simp(disch:=omega)[bp,aX,only,ai]⟩,⟨e (a+3),Y,by simp(disch:=omega)[bp,aX,only,ai]⟩,Y,Y,aw,aw,aw,λb j=>?_,λb j=>?_⟩;have j:z<=b:=j;have k:b≠a:=y;have l:b≠a+2:=y;simp(disch:=omega)[bp,aX,only,ai,k,l];rw[q b y];have k:b≠a:=y;have l:b≠a+2:=y;simp(disch:=omega)[bp,aX,only,ai,k,l];grind
structure Pp(er rr:List P)(e0 x:P)(own oth:Bool)(O:ah)(nx tt:Nat)(nm:ByteArray)(q:P)(cols:List (List P))(s:St):Prop where
 st:OK er rr e0 x own oth O nx s
 h9:∃g dc,s.T 9=.ptr tt g 5 0 0/\s.O tt=J (.row 5 g [[.p (S nm),dc,.p q,.p aD,.p aD]])/\jq s.O (tt+1) 6 cols dc
 lo:nx+3<tt
 hi:tt<s.nx
theorem Pp.next{f g:List P}{h i:P}{own j:Bool}{k:ah}{e l:Nat}{nm:ByteArray}{m:P}{n:List (List P)}{c a:St}(b:Pp f g h i own j k e l nm m n c)(q:∀d,3<=d->d<=9->a.T d=c.T d)(o:a.O=c.O)(r:e<=a.bs)(s:a.bs<=a.nx)(p:c.nx<=a.nx):Pp f g h i own j k e l nm m n a:=by refine⟨b.st.next aj U r s p (by rw[o];exact b.st.fr.mono p),?_,b.lo,by have:=b.hi;omega⟩;rw[q 9 y y,o];exact b.h9
theorem agZ{h:P}{own:Bool}{i:ah}{a:Nat}(e:OK [S o,S aB,B be,B bu,B bA,B bB,H,V,ag,aP] [S bO,I eZ,S cJ,S cU,B dT,I fe,B eJ] h C own bT i a f)(z:o.size<=100)(E:bO.size<=100)(l:∀u aR nm p,iO nm<=400->Sl 1 p (MR own)->Pp [S o,S aB,B be,B bu,B bA,B bB,H,V,ag,aP] [S bO,I eZ,S cJ,S cU,B dT,I fe,B eJ] h C own bT i a aR nm p [] u->bx (X af) Ry u bZ):bx (X af) Tr f bZ:=by
 obtain⟨F,m,n⟩:=e.h4;obtain⟨G,q,r⟩:=e.h5;have K:=e.gp;have s:=e.h7;have s1:(⟨#[95]⟩:ByteArray).size=1:=rfl;show bx _ (.seq _ _) _ _;simp only[bF];intro t;refine⟨[a+1,a+2],?_⟩;simp(disch:=omega)[only,m,n,q,r,s,ba,ai,binOp,gD,fP,fh,dp,dv,D.cells,uP,zh,Cz,Fg,BZ,dw];refine⟨y,y,y,y,BS.l (Jj aj Y λv p L j=>?_)⟩;have w:=ig j;simp(disch:=omega)[abw,w,fh,aX,only,D.cells,uP,zh,Cz,Fg,BZ,dw,ba,ai,bI,dv,cF,nj];have k:=e.fr;have M:∀(A:Option fg) b,b<f.nx+10->bp (aX [a+1,a+2] f.O) (am (only [a+1,a+2] f.O) (f.nx+10) A) b=f.O b:=by intro A b g;have c:b≠f.nx+10:=y;by_cases d:b=a+1\/b=a+2;simp[bp,aX,only,c,d,ai];simp[bp,aX,only,c,d,ai];grind
 refine l _ (f.nx+10) (o++⟨#[95]⟩++bO) p dK j ⟨e.next (λb c d=>?_) ak ?_ ?_ ?_ ?_,⟨t (f.nx+10),.p aD,Y,?_,aj⟩,y,?_⟩;exact cj;exact aw;exact aw;exact aw;intro b g;have g:v<=b:=g;have c:b≠f.nx+10:=y;have d:b≠a+1:=y;have x:b≠a+2:=y;simp[bp,aX,only,c,d,x,ai,k b y];have c:f.nx+10≠a+1:=y;have d:f.nx+10≠a+2:=y;simp[bp,aX,only,c,d,k (f.nx+10) y];exact aw
theorem XI{h:P}{own:Bool}{j:ah}{k:Nat}{nm:ByteArray}(c:Pp bS bH h C own bT j k aR nm p [] f)(r:Sl 1 p v)(s:∀n∈v,∃e:ByteArray,n=[S e])(hl:v.length<1000)(H:∀u,Pp bS bH h C own bT j k aR nm p (v.map kq) u->bx (X af) Uy u bZ):bx (X af) Ry f bZ:=by
 show bx _ (.seq _ _) _ _;obtain⟨t,K,d,g,l⟩:=c.h9;have w:=c.st.hbs;have x:=c.st.Zu;have z:=c.hi;simp(disch:=omega)[d,g,ba,dO r];intro gm;refine⟨λM u=>∃a:Nat,M=v.length-a/\a<=v.length/\Pp bS bH h C own bT j k aR nm p ((v.take a).map kq) u/\u.T 33=.p p/\u.T 34=.p (I v.length)/\u.T 35=.p (I a),⟨v.length,0,Y,y,?_,Y,Y,Y⟩,?_⟩;refine c.next (λm A B=>?_) rfl aw aw aw;exact cj;clear d g l w x z;rintro M s1 ⟨a,rfl,hi,b,L,E,o⟩;have w:=b.st.hbs;have x:=b.st.Zu;have z:=b.hi;have N:=b.lo;by_cases q:a<v.length;obtain⟨e,F⟩:=s _ (bJ q);have G:v[a]? =J [S e]:=by rw[bh q,F]
 have O:=Wk (i:=a) y;obtain⟨t,K,d,g,l⟩:=b.h9;simp(disch:=omega)[-az,-lB,Sk,d,g,L,E,o,q,dm r,G,F,ft,ba,binOp,aC,ai,fP,fh,dp,dv,cF,bI,D.cells,uP,zh,Cz,Fg,BZ,dw];intro Q;refine BS.l ?_;refine uI (ys:=[kq [S e]]) (by simpa using l) aj dK dK aw λid bn R T=>?_;have V:aR≠id:=y;have ac:id<s1.nx+1+3+8:=by rcases T with⟨rfl,_⟩|⟨g0,_,W⟩;simp;have:=b.st.fr.lt W;omega
 simp(disch:=omega)[aa8,V,g,o,ai,D.cells,bI,nj,binOp,aC,O];intro ad;refine⟨_,y,a+1,rfl,y,?_,ar,ar,Y⟩;have ag:=b.st.fr;have al:(v.map kq).take (a+1)=(v.take a).map kq++[kq [S e]]:=by rw[<-cD,nf,G];simp
 have e5:id≠aR:=y;refine⟨b.st.next (λm A B=>?_) (λm s=>?_) aw aw aw ?_,⟨t,.sl id bn 0 ((v.map kq).take (a+1)).length 6 Z,by simp[d],?_,.inr ⟨id,bn,R,rfl,?_⟩⟩,N,aw⟩;exact cj;exact aj;exact bK;exact U;exact U;have ab:a=v.length:=y;subst ab;simp(disch:=omega)[-az,Sk,E,o,binOp,aC];intro Q;refine H _ ?_;rw[y7]at b;refine b.next (λm A B=>?_) rfl aw aw aw;exact cj
def bL:ByteArray:=⟨#[108,101,102,116,95]⟩
def bR:ByteArray:=⟨#[114,105,103,104,116,95]⟩
def ahA[Gh]{e0:P}{own:Bool}{i:ah}{a:Nat}{nm:ByteArray}(j:Pp [S o,S aB,B be,B bu,B bA,B bB,H,V,ag,aP] [S bO,I eZ,S cJ,S cU,B dT,I fe,B eJ] e0 C own bT i a aR nm p (v.map kq) f)(ax:nm.size<=400)(hq:Sl 1 p v)(ab:v=MR own)(U:Fr i a)(ay:∀{i:ah} {a:Nat} {K:D->ah->Nat->Prop},(∀w e,a<=w->iO e<=100->K (.p (S e)) i w)->X af 110 [.p (.agg [e0,C]),.p (S o)] i a K)(aE:∀{i:ah} {a:Nat} {K:D->ah->Nat->Prop},(∀w e,a<=w->iO e<=100->K (.p (S e)) i w)->X af 110 [.p (.agg [e0,C]),.p (S cJ)] i a K)(hK:∀w d Q,a<=w->Da a w i Q d->Fr Q w->K d Q w):
 bx (X af) Uy f λt u=>(t=.normal\/t=.ret)/\jt u TH.rs λds=>ji a (λd Q w=>∃d2 O2,wR d Q d2 O2/\K d2 O2 w) u.O u.nx (aM ds):=by
 have ac:∀n∈v,∃e:ByteArray,n=[S e]/\e.size<=100:=by rw[ab];exact zG (by intro n g;simp at g;rcases g with rfl|rfl;exact⟨Ng,rfl,eB⟩;exact⟨EZ,rfl,eB⟩)
 have bd:v.length<=3:=by rw[ab];unfold MR;cases own<;>simp
 have hl:v≠[]:=by rw[ab];simp[MR]
 obtain⟨g3,h3,o3⟩:=j.st.h3;obtain⟨g4,h4,o4⟩:=j.st.h4;obtain⟨g5,h5,o5⟩:=j.st.h5;obtain⟨g6,h6,o6⟩:=j.st.h6;obtain⟨g9,dc,h9,o9,n9⟩:=j.h9;have bk:=j.st.gp;have h7:=j.st.h7;have h8:=j.st.h8;have aI:=j.st.fr;have aO:=j.st.low;have bl:=j.lo;have bm:=j.hi;have bn:=ig hq;rcases n9 with⟨aS,_⟩|⟨h,x,bo,rfl,oc⟩
 exact absurd aS (by simpa using hl);have bs:=aI.lt oc;show bx _ (.seq _ _) _ _;simp only[bF];intro l;refine⟨[a,a+2],?_⟩;have A1:aX [a,a+2] f.O (a+1)=f.O (a+1):=by simp[aX]
 have A2:aX [a,a+2] f.O aR=f.O aR:=by have e1:aR≠a:=y;have e2:aR≠a+2:=y;simp[aX,e1,e2]
 have A3:aX [a,a+2] f.O (a+3)=f.O (a+3):=by simp[aX]
 rw[o6]at A3;have F1:only [a,a+2] f.O a=f.O a:=by simp[only]
 have F2:only [a,a+2] f.O (a+2)=f.O (a+2):=by simp[only]
 rw[o4]at A1;rw[o9]at A2;rw[o3]at F1;rw[o5]at F2;have W:∀c,bp (aX [a,a+2] f.O) (only [a,a+2] f.O) c=f.O c:=by intro c;by_cases M:c=a\/c=a+2;simp[bp,aX,only,M];simp[bp,aX,only,M];cases f.O c<;>rfl
 generalize aX [a,a+2] f.O=A at A1 A2 A3 W⊢;generalize only [a,a+2] f.O=F at F1 F2 W⊢;simp(disch:=omega)[h3,F1,h4,A1,h5,F2,h7,h8,ba,fP,dp,dv,D.cells,uP];refine⟨y,BS.l ⟨y,y,BS.l ⟨y,ay λbC z bH bM=>?_⟩⟩⟩;simp(disch:=omega)[Z8];refine Jj (.im _ _) Y λbS G bX ad=>?_;have al:=ig ad;simp(disch:=omega)[Zf,al,fh,D.cells,uP,zh,Cz,Fg,BZ,dw,ba,ai,bI,dv,cF,nj];refine aE λbZ E b0 a0=>?_;simp(disch:=omega)[Wy];refine Jj (.im _ _) Y λb L b1 an=>?_;have a1:=ig an;simp(disch:=omega)[VV,al,a1,fh,fP,dp,h9,A2,D.cells,uP,zh,Cz,Fg,BZ,dw,ba,ai,bI,dv,cF,nj];refine BS.r ?_;show bx _ (.seq _ _) _ _;simp only[bF];simp(disch:=omega)[h7,fP,dp,dv,D.cells,uP];intro r;refine BS.l ?_;refine Jj (.im _ _) Y λa2 N b2 ao=>?_;have a3:=ig ao;have e3:f.nx+16≠aR:=y;simp(disch:=omega)[WD,a3,fh,fP,dp,h9,bp,D.cells,uP,zh,Cz,Fg,BZ,dw,ba,ai,bI,dv,cF,nj];refine BS.r ?_;have e4:a+3≠aR:=y;have e5:a+3≠f.nx+16:=y;have e6:a+3≠b+4:=y;have e7:aR≠b+4:=y;simp(disch:=omega)[We,TH,h6,h9,A3,bp,e4,e5,e6,e7,D.cells,uP,zh,Cz,Fg,BZ,dw,ba,ai,bI,dv,cF,nj];have a4:h≠f.nx+16:=y;have a5:h≠b+4:=y;have a6:∀(b3:ah),Fr (am (am i (f.nx+16) (J (.row 3 (l (f.nx+16)) ([[S bL,G,S z],[S bR,L,S E]].map (·.map .p))))) (b+4) (J (.row 3 (r (b+4)) ([[S bR,N,B Z]].map (·.map .p))))) (a2+2):=λ_=>((U.mono y).am y).am y;refine .aX (O':=am (am (am i h (J (.row 6 x ((v.map kq).map (·.map .p))))) (f.nx+16) (J (.row 3 (l (f.nx+16)) ([[S bL,G,S z],[S bR,L,S E]].map (·.map .p))))) (b+4) (J (.row 3 (r (b+4)) ([[S bR,N,B Z]].map (·.map .p))))) (λc=>?_) ((((U.mono y).am y).am y).am y) y
  ⟨.agg [.p (S nm),.p (.im (v.map kq) 6 Z),.p p,.sl (f.nx+16) (l (f.nx+16)) 0 2 3 Z,.sl (b+4) (r (b+4)) 0 1 3 Z],am (am i (f.nx+16) (J (.row 3 (l (f.nx+16)) ([[S bL,G,S z],[S bR,L,S E]].map (·.map .p))))) (b+4) (J (.row 3 (r (b+4)) ([[S bR,N,B Z]].map (·.map .p)))),?_,hK _ _ _ y ⟨nm,.im (v.map kq) 6 Z,p,v.map kq,v,[[S bL,G,S z],[S bR,L,S E]],[[S bR,N,B Z]],_,_,J (f.nx+16),J (b+4),.inl ⟨rfl,rfl⟩,⟨ax,.im _ _,hq,dK,y,Y,Y,?_,?_,?_,?_,?_⟩,.inr ⟨_,_,rfl,rfl,?_⟩,.inr ⟨_,_,rfl,rfl,?_⟩,?_,?_,?_⟩ (a6 i)⟩
 by_cases k:c=b+4;subst k;right;have s:b+4≠a+3:=y;have q:b+4≠aR:=y;simp[ai,s,q,bR];by_cases m:c=f.nx+16;subst m;right;have s:f.nx+16≠a+3:=y;have q:f.nx+16≠aR:=y;have T:f.nx+16≠b+4:=y;simp[ai,s,q,T,bp,bL,bR];by_cases O:c=h;subst O;right;have s:c≠a+3:=y;have q:c≠aR:=y;have R:=W c;rw[oc]at R;have z5:bp (am (am A (f.nx+16) (J (.row 3 (l (f.nx+16)) ([[S bL,G,S z],[S bR,L,S E]].map (·.map .p))))) aR (J (.row 5 g9 [[.p (S nm),.sl c x 0 v.length 6 Z,.p p,.sl (f.nx+16) (l (f.nx+16)) 0 2 3 Z,.p aD]]))) F c=bp A F c:=by simp[bp,ai,q,m]
 simp[ai,s,q,k,m,bL,bR]at z5⊢;rw[z5,R];simp;by_cases k4:c<a;right;have s:c≠a+3:=y;have q:c≠aR:=y;have R:=W c;rw[aO c k4]at R;simp[ai,s,q,k,m,O,bp]at R⊢;exact R.symm;left;simp[ai,k,m,O,U c y];refine .step h x 6 (v.map kq) (by simp[ai,a4,a5]) ?_;have e1:gx h x 6 (v.map kq) (.agg [.p (S nm),.sl h x 0 v.length 6 Z,.p p,.sl (f.nx+16) (l (f.nx+16)) 0 2 3 Z,.sl (b+4) (r (b+4)) 0 1 3 Z])=.agg [.p (S nm),.p (.im (v.map kq) 6 Z),.p p,.sl (f.nx+16) (l (f.nx+16)) 0 2 3 Z,.sl (b+4) (r (b+4)) 0 1 3 Z]:=by have s:f.nx+16≠h:=y;have q:b+4≠h:=y;have T:(v.map kq).take v.length=v.map kq:=cp Y;simp[gx,kn,s,q,T,cF,dv]
 have e2:am (am (am (am i h (J (.row 6 x ((v.map kq).map (·.map .p))))) (f.nx+16) (J (.row 3 (l (f.nx+16)) ([[S bL,G,S z],[S bR,L,S E]].map (·.map .p))))) (b+4) (J (.row 3 (r (b+4)) ([[S bR,N,B Z]].map (·.map .p))))) h ae=
  am (am i (f.nx+16) (J (.row 3 (l (f.nx+16)) ([[S bL,G,S z],[S bR,L,S E]].map (·.map .p))))) (b+4) (J (.row 3 (r (b+4)) ([[S bR,N,B Z]].map (·.map .p)))):=by funext c;by_cases k:c=b+4;subst k;have:b+4≠h:=y;simp[ai,this];by_cases m:c=f.nx+16;subst m;have:f.nx+16≠h:=y;have T:f.nx+16≠b+4:=y;simp[ai,this,T];by_cases O:c=h;subst O;simp[ai,k,m,U c y];simp[ai,k,m,O]
 show wR (gx h x 6 (v.map kq) (.agg [.p (S nm),.sl h x 0 v.length 6 Z,.p p,.sl (f.nx+16) (l (f.nx+16)) 0 2 3 Z,.sl (b+4) (r (b+4)) 0 1 3 Z])) _ _ _;rw[e1,e2];exact .refl _ _;intro n g;obtain⟨r0,h0,rfl⟩:=bN.1 g;obtain⟨e,hb,a0⟩:=ac r0 h0;exact ac4 hb y;intro n g;obtain⟨e,rfl,hb⟩:=ac n g;exact⟨⟨e,rfl,y⟩,trivial⟩;intro n g;have k:=RG (hi:=30) ad (by cases own<;>simp) (zG (by intro n g;simp at g;subst g;exact⟨Ng,rfl,eB⟩));have m:=RG (hi:=30) an (by cases bT<;>simp) (zG (by intro n g;simp at g;subst g;exact⟨EZ,rfl,eB⟩));simp only[bt,iD,iT]at g;rcases g with rfl|rfl
 exact⟨⟨bL,rfl,eB⟩,k,⟨z,rfl,y⟩,trivial⟩;exact⟨⟨bR,rfl,eB⟩,m,⟨E,rfl,y⟩,trivial⟩;intro n g;have k:=RG (hi:=100) ao (by cases own<;>simp) (zG (by intro n g;simp at g;subst g;exact⟨EZ,rfl,eB⟩));simp only[bt,iD,iT]at g;subst g;exact⟨⟨bR,rfl,eB⟩,k,⟨Z,rfl⟩,trivial⟩;intro n g;obtain⟨e,rfl,hb⟩:=ac n g;exact⟨kq [S e],xU g,rfl⟩;have:f.nx+16≠b+4:=y;simp[ai,this];simp;intro a7 a8 a9;simp only[du]at a8 a9;omega;intro a7 bb;simp only[du]at bb;omega;intro c h1 M;have h1:c≠f.nx+16:=λt=>h1 (by rw[t]);have M:c≠b+4:=λt=>M (by rw[t]);simp[ai,h1,M]
section
variable [Gh]
def Jk(c:VT.ok Ty.MG cg)(d:Gh.nm o){a:ah}{b:Nat}(f:∀w e,b<=w->iO e<=100->K (.p (S e)) a w):X af 110 [.p cg,.p (S o)] a b K:=(s64 a b K [cg,S o] ⟨c,⟨o,rfl,d⟩,trivial⟩ (λH g=>by cases g)).1 rfl λw l m Q h i _ j=>by obtain⟨rfl,rfl⟩:=mY j;obtain⟨aB,n,rfl,⟨e,rfl,p⟩,k⟩:=Vs.cons i;obtain rfl:=Vs.nil k;exact f w e h y
def SA{a:List (List P)}(b:∀n∈a,Row (Ty.rZ 2) n):∀n∈a,∃o aB be bu bA bB H V ag aP,n=[S o,S aB,B be,B bu,B bA,B bB,H,V,ag,aP]/\H.cells=[H]/\V.cells=[V]/\ag.cells=[ag]/\aP.cells=[aP]:=by intro n c;obtain⟨o,aB,be,bu,bA,bB,H,V,ag,aP,rfl,_,_,d,e,f,g⟩:=kz (b n c);exact⟨o,aB,be,bu,bA,bB,H,V,ag,aP,rfl,eU d,eU e,eU f,eU g⟩
def Rn{a:List (List P)}(W:Gh.pre a)(c:(a.length:Int)=Gh.n)(b:Gh.nm o):0<=iW (named o) a:=by have d:=Gh.ED o b;rw[Dd W b y];exact Gh.sH o 0 b
def Uh{b:P}(h:VT.ok Ty.MG cg)(r:VT.ok (.agg Ty.nT) t)(a:VT.ok (.agg Ty.zy) b){l:ah}{i:Nat}(s:∀w d Q,i<=w->Da i w l Q d->Fr Q w->K d Q w):
 X af 113 [.p cg,.p t,.p b] l i K:=by obtain⟨e0,C,es,rfl,u,v,c,ab,ac,g,m⟩:=nO (.inr rfl) rfl h;obtain⟨bS,rfl,x,_⟩:=r;obtain⟨bH,rfl,z,_⟩:=a;have g:=g rfl;obtain⟨o,aB,be,bu,bA,bB,H,V,ag,aP,rfl,j,_,A,B,D,E⟩:=kz x;obtain⟨p1,q1,rfl,⟨bO,rfl,ad⟩,F⟩:=Row.cons z;obtain⟨p2,q2,rfl,⟨eZ,rfl,_⟩,G⟩:=Row.cons F;obtain⟨p3,q3,rfl,⟨cJ,rfl,n⟩,I⟩:=Row.cons G;obtain⟨p4,q4,rfl,⟨cU,rfl,_⟩,L⟩:=Row.cons I;obtain⟨p5,q5,rfl,⟨dT,rfl⟩,M⟩:=Row.cons L;obtain⟨p6,q6,rfl,⟨fe,rfl,_⟩,N⟩:=Row.cons M;obtain⟨p7,q7,rfl,⟨eJ,rfl⟩,O⟩:=Row.cons N;obtain rfl:=Row.nil O;have R:=nW rfl v c m;have al:=Gh.Cb o j;refine X.rW (agB R (lR c) (eU A) (eU B) (eU D) (eU E) (eU u) (Rn c g j) (Rn c g n) (SA m) λS f own bT T=>?_);refine agZ T y y λs2 aR nm p U q W=>?_;refine XI W q ?_ ?_ λs3 Y=>?_;intro b a;obtain⟨e,hb,_⟩:=zG (by intro b a;simp at a;rcases a with rfl|rfl;exact⟨Ng,rfl,eB⟩;exact⟨EZ,rfl,eB⟩) b a;exact⟨e,hb⟩;unfold MR;cases own<;>simp;exact ahA Y U q rfl S (λk=>Jk h j k) (λk=>Jk h n k) s
end
theorem aa7{b:List (List P)}{c:ah}{a:Option Nat}(e:tC c db L d a)(g:a≠J id):gx id bn M b d=d:=by rcases e with⟨_,_,rfl⟩|⟨f,h,rfl,rfl,_⟩;rfl;have:f≠id:=aj;simp[gx,this]
section
variable [Gh]
theorem aaN{l:Nat}{i j:List CT}{v x z A:Int}{m n:P}{o p:D}{k:ah}(h:lg l w [1,3,4] 3 [.aM (.aY i v x),.aM (.aY j z A)] [m,n] [o,p] k Q){e c:List (List P)}(s3:Sl i.length m e)(s4:Sl j.length n c):
 ∃oF f,tC Q i.length e o oF/\tC Q j.length c p f/\(∀a,oF=J a->f≠J a)/\(∀a,oF=J a\/f=J a->l<=a/\a<w/\k a=ae)/\∀b,oF≠J b->f≠J b->Q b=k b:=by
 simp only[lg]at h;rcases h with⟨rfl,rfl,h⟩|⟨d,M,id,bn,rfl,⟨q,r,s,t,rfl⟩,B,C,E,rfl,h⟩
 obtain rfl:e=[]:=by cases s3;rfl
 rcases h with⟨rfl,rfl,h⟩|⟨d,M,id,bn,rfl,⟨q,r,s,t,rfl⟩,B,C,E,rfl,h⟩;obtain rfl:c=[]:=by cases s4;rfl
 exact⟨ae,ae,.inl Y,.inl Y,ak,ak,U⟩;cases t;obtain rfl:c=d:=by cases s4;rfl
 subst h;exact⟨ae,J id,.inl Y,.inr Y,ak,ak,λb _ h=>ai aj⟩;cases t;obtain rfl:e=d:=by cases s3;rfl
 rcases h with⟨rfl,rfl,h⟩|⟨d,M,u,H,rfl,⟨q,r,s,t,rfl⟩,I,K,g,rfl,h⟩;obtain rfl:c=[]:=by cases s4;rfl
 subst h;exact⟨J id,ae,.inr Y,.inl Y,U,ak,λb h _=>ai aj⟩;cases t;obtain rfl:c=d:=by cases s4;rfl
 subst h;have F:u≠id:=by rintro rfl;rw[bi]at g;cases g
 refine⟨J id,J u,.inr ⟨id,bn,rfl,rfl,by rw[ai y,bi]⟩,.inr Y,λa h G=>?_,λa h=>?_,λb h G=>?_⟩;grind;rcases h with h|h<;>cases h
 exact U;refine⟨y,y,?_⟩;rw[ai F]at g;exact g;rw[ai aj,ai aj]
def anN{a:Nat}(b:Row (.nm dH::cT) n):Row (.nm a::cT) n:=by cases n with|nil=>exact ar|cons aB c=>exact ar
def T6(a:Row (.em dH::cT) n):Row (.str (Dt dH)::cT) n:=by cases n with|nil=>exact ar|cons aB b=>exact ar
theorem anY{has:Bool}(aS:∀f,Gh.kc f->∃bM,f=(qF has).map kq++bM)(a0:∀f,Gh.kk f->f=qF has){I:ah}{K c:Nat}{L:List P}{b:D}{l:List D}{a:ah}{N:D->ah->Nat->Prop}(hv:Vs (Ty.B5.map .aM) L)(m:lg K c [1,3,4] 0 (Ty.B5.map .aM) L l I a)(ab:FH b l)(ac:Fr a c)(O:∀b a,Da K c I a b->Fr a c->N b a c):∃o Q,wR b a o Q/\N o Q c:=by
 have ad:∀n∈qF has,∃e:ByteArray,n=[S e]/\e.size<=100:=zG (by intro n d;simp at d;subst d;exact⟨bId,rfl,eB⟩);obtain⟨p0,q0,rfl,⟨g,rfl,a1⟩,ag⟩:=Vs.cons hv;obtain⟨p1,q1,rfl,⟨al,sc,_,a2,an,a3⟩,ao⟩:=Vs.cons ag;obtain⟨R,q2,rfl,⟨v,sk,_,a4,ax,a5⟩,ay⟩:=Vs.cons ao;obtain⟨p3,q3,rfl,⟨fo,T,_,a6,a7,_⟩,aB⟩:=Vs.cons ay;obtain⟨p4,q4,rfl,⟨ix,V,_,a8,a9,_⟩,aE⟩:=Vs.cons aB;obtain rfl:=Vs.nil aE;obtain⟨bM,rfl⟩:∃bM,al=(qF has).map kq++bM:=aj;obtain rfl:v=qF has:=aj;have hI:∀q,Sl 6 q ((qF has).map kq++bM)->wI g q R ((qF has).map kq++bM) (qF has) fo ix:=λq aI=>⟨y,aI,sk,y,y,y,y,λn d=>T6 (an n d),λn d=>T6 (ax n d),U,U,λr W=>by obtain⟨e,rfl,_⟩:=ad r W;exact⟨kq [S e],ak,rfl⟩⟩
 match l,m with
 |[d0,d1,o,s,u],m=>
  have X:=m;simp only[Ty.B5,List.map]at X;obtain⟨rfl,aO⟩:=X;rcases aO with⟨rfl,rfl,w⟩|⟨aP,M,id,bn,rfl,⟨bb,lo,hi,t,rfl⟩,bd,be,hO,rfl,w⟩
  obtain⟨rfl,x⟩:=w;obtain⟨oF,h,i,j,z,A,B⟩:=aaN (by simpa only[Ty.aY,lg,iw,au,fN,dC,aT]using x) T V;exact⟨b,a,aj,O _ _ ⟨g,_,_,_,_,_,_,s,u,oF,h,ar,aj,i,j,z,U,B⟩ ac⟩;cases t;obtain rfl:_=aP:=by cases sc;rfl
  obtain⟨rfl,x⟩:=w;obtain⟨oF,h,i,j,z,A,B⟩:=aaN (by simpa only[Ty.aY,lg,iw,au,fN,dC,aT]using x) T V;have Y:oF≠J id:=λk=>by have:=(A id (.inl k)).2.2;rw[bi]at this;grind
  have db:h≠J id:=λk=>by have:=(A id (.inr k)).2.2;rw[bi]at this;grind
  have aR:a id=J (.row 6 bn (((qF has).map kq++bM).map (·.map .p))):=by rw[B id Y db,bi];rfl
  have hd:b=.agg [.p (S g),.sl id bn 0 ((qF has).map kq++bM).length 6 Z,.p R,s,u]:=by
   rcases ab with⟨rfl,_⟩|⟨ps,rfl,t⟩;rfl
   match ps,t with|_::p::_,t=>simp at t
  refine⟨_,_,.step id bn 6 _ aR aj,O _ _ ⟨g,_,_,_,_,_,_,s,u,oF,h,?_,aj,?_,?_,z,U,λr k h2=>?_⟩ ?_⟩;rw[hd];simp only[gx,kn,aa7 i Y,aa7 j db,bf,bV,kG,aT,gK];rw[cp y];exact tK _;exact i.imp U λ⟨C,E,F,G,H⟩=>⟨C,E,F,G,by rw[ai ak];exact H⟩;exact j.imp U λ⟨C,E,F,G,H⟩=>⟨C,E,F,G,by rw[ai ak];exact H⟩;by_cases W:r=id;exact U;exact U;exact bK
end
def Vc{c:Gh}{b h:List (List P)->Prop}{i:∀e bM,b e->b (e++bM)}{f:Nat}{g:ah}(a: @Da (JV c b h i) f w g Q d): @Da c f w g Q d:=by obtain⟨⟨o,j,k,l,v,m,p,q,r,oF,s,H,⟨t,u,x,y,z,A,B,C,D,E,F,G⟩,I⟩⟩:=a;exact⟨o,j,k,l,v,m,p,q,r,oF,s,ar,⟨t,u,x,y,z,A,B,λn a=>(tB _ _ rfl).2 (C n a),λn a=>(tB _ _ rfl).2 (D n a),λn a=>(tB _ _ rfl).2 (E n a),λn a=>(tB _ _ rfl).2 (F n a),G⟩,ar⟩
theorem Ql[G:Gh](l:VT.ok Ty.MG cg)(u:VT.ok (.agg Ty.nT) t){h:ah}{c:Nat}(v:∀w d Q,c<=w->Da c w h Q d->Fr Q w->K d Q w):X af 111 [.p cg,.p t] h c K:=by
 have m:=l;obtain⟨x,C,b,rfl,z,A,ad,al,an,i,q⟩:=nO y rfl l;obtain⟨bS,rfl,r,_⟩:=u;have i:=i rfl;obtain⟨o,aB,be,bu,bA,bB,H,V,ag,aP,rfl,j,_,B,D,E,F⟩:=kz r;have I:=nW rfl A ar q;have ao:=Gh.Cb o j;refine X.rW (Qg I (lR ar) (eU B) (eU D) (eU E) (eU F) (eU z) (Rn ar i j) (SA aj) λk f p has bH bX aR L s M=>?_);have ax:∀n∈qF has,∃e:ByteArray,n=[S e]/\e.size<=100:=zG (by intro n a;simp at a;subst a;exact⟨bId,rfl,eB⟩);have ay:1<=(qF has).length/\(qF has).length<=2:=by unfold qF;cases has<;>simp
 refine ahD M s (λn a=>?_) y λs2 N=>?_;grind;refine @anx (JV G (λb=>∃bM,b=(qF has).map kq++bM) (λb=>b=qF has) ak) o _ bH x C p h c bX aR (qF has) s2 _ N y y s (λn a=>?_) ⟨[],Y⟩ rfl j ?_ ?_ ?_ ?_ k ?_;grind;obtain⟨O,t,a,_⟩:=m;cases t;exact(Oh _ _ rfl).1 a.1;obtain⟨O,t,a,_⟩:=m;cases t;exact(Oh _ _ rfl).1 a.2.1;exact(tB _ _ rfl).1 r;exact(tB _ _ rfl).1 (anN (q _ L));intro w P d R Q T U W ab ac;exact @anY (JV G _ _ _) has (λb g=>g) (λb g=>g) h c w P d R Q K U W ab ac λd Q g k=>v _ _ _ T (Vc g) k
end Go.Dl
