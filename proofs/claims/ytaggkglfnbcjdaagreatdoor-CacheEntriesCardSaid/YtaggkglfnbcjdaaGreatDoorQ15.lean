import Derived.Test.YtaggkglfnbcjdaaGreatDoorProg
import Derived.Test.YtaggkglfnbcjdaaGreatDoorQ14
set_option linter.all false
set_option maxRecDepth 1000000
set_option maxHeartbeats 40000000
namespace Go.Dl.Ai
end Go.Dl.Ai
namespace Go.Proofs
end Go.Proofs
namespace Ty
end Ty
open Bool renaming false->Z,true->aa
open Go renaming FuncId->cB
open Go.Proofs.Tryz renaming prog->af
open Go.Value.int renaming injEq->xG
open Go.Value.string renaming injEq->Bn
open List renaming filter->IB,findIdx?_cons->He,length_append->fj,length_eraseIdx_of_lt->Bj,map_append->cG,mem_map->bN
open Option renaming none->ae,some->J
open Go Go.Dl Go.Dl.Ai
def AI:=@List.length_filter_le
def xC:=@or_congr_right
variable {A Q:ah}{u H id7 g7 id g L aB bC bA K cg cE:Nat}{i:CI}{dH v dT:CV}{all eJ aP:List CE}{be:Exit->St->Prop}{a e:ByteArray}{bS eK k aR:P}{V bT bH bM bX:List (List P)}{bB:List AO}{at_ t n bO cJ:Int}{w:St}{ag:D->ah->Nat->Prop}{r cT:List P}{bn:AO}{p:List P->Bool}{cs:List D}{cU:cR}{dl bZ db:D}{aS:List (List D)}
namespace Go.Dl
open Go.Proofs Go.Dl.Ai
def afJ:List aA:=[q 7 (.alloc 2 3 [aF,aH,aH]),oN (xS 3 7 10)]
def XU:av:=.cond (.t 19) (z 1 [q 6 (gR Z)] (.ret)) (.skip)
def agd:List aA:=[G 23 2,q 24 (.build [aD,aD,aH,aH] [(0,1,.t 22),(2,1,.t 23)]),q 25 (iU 5 4 24),G 8 25]
def aeD:av:=z 1 [q 6 (gR aa)] (.ret)
def af6:av:=
 z 2 [G 35 0,q 36 (oW 72 35)]
  aeD
def agj:av:=
 z 7 [G 26 0,d5 27 26,oF 28 27 4,oL 29 1 28,cA 30 3 7,G 31 8,oN (.qx (.st [.s,.i,.i]) (.t 29) (.t 30) (.t 31))] (z 3 [G 32 0,G 33 8,q 34 (dV 71 32 33)]
  af6)
def YZ:av:=
 z 7 (cA 20 9 4::q 21 (.bQ 1 9 1 [aF,aH,aH,aH,aH,aH,aF,aD,aD] [(0,.t 20)])::q 22 (oW 70 21)::agd)
  agj
def YX:av:=
 .seq (z 9 [G 11 0,G 12 0,d5 13 12,oF 14 13 4,oL 15 1 14,cA 16 3 7,q 17 (.sQ (.st [.s,.i,.i]) (.p (.v (.pointer ae))) Z (.t 15) (.t 16)),G 18 2,q 19 (sV 69 11 17 18)]
  XU)
  YZ
def D26:d6:=⟨37,[.t 6],z 2 [q 4 (iU 0 9 1),q 6 (gR Z)] (z 4 (cA 9 9 4::q 10 (oW 68 9)::afJ)
 YX)⟩
def apE:cW af Tryz.f26=J D26:=h
def Ya:av:=.cond (.t 20) (z 1 [q 10 (gR Z)] (.ret)) (.skip)
def aeG:List aA:=[G 25 4,q 26 (.build [aD,aD,aH,aH] [(0,1,.t 22),(1,1,.t 24),(2,1,.t 25)]),q 27 (iU 6 4 26),G 11 27]
def aeF:List aA:=(G 23 3::q 24 (oW 78 23)::aeG)
def agi:av:=z 1 [q 10 (gR aa)] (.ret)
def aev:av:=
 z 2 [G 37 0,q 38 (oW 72 37)]
  agi
def afb:av:=
 z 7 [G 28 0,d5 29 28,oF 30 29 5,oL 31 1 30,G 32 1,G 33 11,oN (.qx (.aM .s) (.t 31) (.t 32) (.t 33))] (z 3 [G 34 0,G 35 11,q 36 (dV 71 34 35)]
  aev)
def Yp:av:=
 z 8 (G 21 2::q 22 (oW 70 21)::aeF)
  afb
def D34:d6:=⟨39,[.t 10],z 1 [q 10 (gR Z)] (.seq (z 9 [G 12 0,G 13 0,d5 14 13,oF 15 14 5,oL 16 1 15,G 17 1,q 18 (.sQ (.aM .s) (.p (.v (.pointer ae))) Z (.t 16) (.t 17)),G 19 4,q 20 (sV 69 12 18 19)]
 Ya)
 Yp)⟩
def aoN:cW af Tryz.f34=J D34:=h
def sa(c:CV)(d:List CE)(e:P)(a:Int):Prop:=a<c.floor\/∃b∈d,b.key=e/\a<b.at_
theorem kY.trans{j l m:ah}{c n o:Nat}{d:CI}{p:CV}{f q r:List CE}(v:∀k,k<c->¬Lz d f k->l k=j k)(s:∀a∈q,(∃g∈f,g.id=a.id)\/c<=a.id)(hn:c<=n)(b:kY l m n o d p q r):kY j m c o d p f r:=⟨b.inv,λk w t=>(b.low k y λh=>t (by rcases h with h|h|h|⟨a,i,h⟩;exact aj;exact .inr U;exact .inr U;rcases s a i with⟨g,u,e⟩|x;exact .inr ak;omega)).trans U,λa i=>by rcases b.ids a i with⟨g,u,e⟩|h;grind;grind,by have:=b.hn;omega,b.fr⟩
def kY.grow{b:Nat}(a:kY A Q u H i dH all eJ)(hn:H<=b):kY A Q u b i dH all eJ:=⟨a.inv,a.low,a.ids,by have:=a.hn;omega,a.fr.mono hn⟩
theorem PS(C:kX A i v all)(l:Fr A u)(hu:v.cf<=999999)(aE:all.length<=999999)(R:Sl 9 bS V)(E:jv jh V bB)(T:bB.length<=1000)(ab:Sl 3 eK bT)(ac:∀r∈bT,qw r)(ad:bT.length<=1000)(o:w.T 0=.ptr i.c i.gc 6 0 0)(F:w.T 1=.p (S a))(p:w.T 2=.p bS)(G:w.T 3=.p eK)(q:w.T 4=.p (I at_))(hO:w.O=A)(hn:u<=w.nx)(hQ:∀m f,m.T 10=.p (B aa)->f.key=S a->f.ob=bB->f.np=bT->f.at_=at_->kY A m.O u m.nx i {v with cf:=v.cf+1} all (tI v.size (kr (S a) all++[f]))->be .ret m):
 bx (X af) Yp w be:=by
 have ag:=C;obtain⟨⟨co,cl,s,el,n,W⟩,ok,al,us,u0⟩:=C;obtain⟨aI,aO,aS⟩:=n.ne;have H:=n.c;have aP:=n.l;have nc:=l.lt H;have an:=l.lt aP;simp[Yp,p];intro c;refine BJ R (by have:=E.length;omega) E λa0 aR bX a1 ao a2=>?_;simp[aeF,o,F,p,G,q,hO];refine Vg ab y λax b a3 a4=>?_;have cq:D.cells (.p aR)=[.p aR]:=by simp[D.cells,ie ao]
 have ct:D.cells (.p b)=[.p b]:=by simp[D.cells,ie ar]
 have pk:cF [.p aR,.p b,.p (I at_),.p (I 0)]=.p (.agg [aR,b,I at_,I 0]):=rfl;have ck:D.cells (.p (.agg [aR,b,I at_,I 0]))=[.p aR,.p b,.p (I at_),.p (I 0)]:=rfl;simp[aeG,q,fh,cq,ct,show D.cells (.p (I at_))=[.p (I at_)] from rfl,pk,ck,bI];have d:∀k,k<u->am A (w.nx+6) (J (.row 4 (c (w.nx+6)) [[.p aR,.p b,.p (I at_),.p (I 0)]])) k=A k:=aj;have t:am A (w.nx+6) (J (.row 4 (c (w.nx+6)) [[.p aR,.p b,.p (I at_),.p (I 0)]])) (w.nx+6)=J (.row 4 (c (w.nx+6)) [[.p aR,.p b,.p (I at_),.p (I 0)]]):=Y;have L:Fr (am A (w.nx+6) (J (.row 4 (c (w.nx+6)) [[.p aR,.p b,.p (I at_),.p (I 0)]]))) ax:=bK;revert d t L;generalize am A (w.nx+6) (J (.row 4 (c (w.nx+6)) [[.p aR,.p b,.p (I at_),.p (I 0)]]))=x;intro d t L;obtain⟨bZ,db,q3,q4⟩:=ag.H7 l;have a5:∀j∈s++el,j.id<u:=ak;have a6:∀K z,A K=J z->x K=J z:=λK z M=>(d K (l.lt M)).trans M;obtain⟨cT,N,O,e1,P,Q⟩:=n.apU U (x0:={key:=S a,id:=w.nx+6,g:=c (w.nx+6),born:=0,mi:=aR,tags:=b,ob:=bB,np:=bT,at_:=at_,used:=0}) rfl aj ak t;have c1:x i.c=_:=(d _ nc).trans H;have l1:x i.l=_:=(d _ an).trans aP;simp[afb,o,F,p,G,q,c1,l1,CI.row,ba,uN,e1];intro g2;have a7:({key:=S a,id:=w.nx+6,g:=c (w.nx+6),born:=O,mi:=aR,tags:=b,ob:=bB,np:=bT,at_:=at_,used:=0}:CE)∈s++N:=Q.mem_iff.2 (mw _ aj);have ay:(s++N).Perm (kr (S a) all++[({key:=S a,id:=w.nx+6,g:=c (w.nx+6),born:=O,mi:=aR,tags:=b,ob:=bB,np:=bT,at_:=at_,used:=0}:CE)]):=Q.trans ((Pa W).append_right _);have aB:=kX.put P ay ok ⟨aj,T,ar,ac,ad,λh=>by cases h⟩ al us u0;refine Q4 y P.c aj λa8 a9=>?_;simp[aev,o];intro bA;refine Se aB aw (by have:=AI (λj=> !yq (S a) j) all;rw[fj];show(IB _ all).length+1<=_;omega) λbb O5 hr=>?_
 simp[agi];have hR:=kY.trans (λk k1 k2=>(ai y).trans ((ai aj).trans ((ai λe=>k2 (.inr U)).trans (d k k1)))) (λj hy=>by rcases bg.1 hy with h|h;exact .inl ⟨j,(tL h).1,rfl⟩;rw[bD.1 h];exact .inr (by show u<=w.nx+6;omega)) y hr
 intro g4;exact hQ _ _ Y rfl rfl rfl rfl (hR.grow aw)
theorem ahX(E:kX A i v all)(F:v.cf<=999999)(ax:all.length<=999999)(G:Sl 9 bS V)(K:jv jh V bB)(L:bB.length<=1000)(M:Sl 3 eK bT)(N:∀r∈bT,qw r)(O:bT.length<=1000)(P:sa v all (S a) at_->∀H Q,kY A Q u H i v all all->ag (.p (B Z)) Q H)(R:¬sa v all (S a) at_->∀H Q b,b.key=S a->b.ob=bB->b.np=bT->b.at_=at_->kY A Q u H i {v with cf:=v.cf+1} all (tI v.size (kr (S a) all++[b]))->ag (.p (B aa)) Q H):
 X af 34 [.ptr i.c i.gc 6 0 0,.p (S a),.p bS,.p eK,.p (I at_)] A u ag:=by
 refine X.of Y aoN (by simp[D34]) λf=>?_;have m:=E;obtain⟨⟨co,cl,eo,T,hs,W⟩,ok,ay,us,u0⟩:=E;have ac:=hs;obtain⟨k,bn,aP,aB,Mo,o,ol,nd⟩:=ac;have nc:=f.lt k;have aE:=f.lt aP;have ab:i.l<u+1:=y;rcases E5 (g:=i.gl) (c:=cl) (by simp[jN,tj]) (λj p=>Ky ⟨a,rfl⟩ (o.k j p)) o.nk with⟨aI,q⟩|⟨b,s,hk,q⟩
 have aO:∀b∈all,b.key≠S a:=λb s e=>by rcases bg.1 (W.mem_iff.2 s)with h|h;obtain⟨e',t,n,hk⟩:=Mo.k b h;grind;exact aj
 have ad:sa v all (S a) at_↔at_<v.floor:=⟨λh=>h.elim id ak,aj⟩;simp[D34,cN,k,CI.row,ba,aP,uN,ab,q,vr];intro g0;refine KS k λal an=>?_;simp[Ya];refine⟨λw=>.d8 bK y (P U _ _ (.refl m f U y bK)),λw=>?_⟩;refine PS (a:=a) (at_:=at_) m f F y G K L M N O Y Y Y Y Y rfl aw λs' b x z l C D d=>⟨Y,?_⟩;rw[x];exact .d8 d.fr d.hn (R U _ _ b z l C D d);have ao:b∈eo++T:=U;have aR:=W.mem_iff.1 ao;have ox:A b.id=J (.row 4 b.g [[.p b.mi,.p b.tags,.p (I b.at_),.p (I b.used)]]):=aj;have aS:=W;have ad:sa v all (S a) at_↔at_<v.floor\/at_<b.at_:=by
  refine xC ⟨λ⟨j,p,e,h⟩=>?_,ak⟩;have:j∈T:=by rcases bg.1 (W.mem_iff.2 p)with h|h;obtain⟨e',t,n,hk⟩:=Mo.k j h;grind;exact h
  have l:j=b:=mA o.nk j ar b s U;rw[<-l];exact h
 simp[D34,cN,k,CI.row,ba,aP,uN,ab,q,vr];intro g0;refine KM k ox rfl λal an=>?_;simp[Ya];refine⟨λw=>.d8 bK y (P U _ _ (.refl m f U y bK)),λw a0=>?_⟩;refine PS (a:=a) (at_:=at_) m f F y G K L M N O Y Y Y Y Y rfl aw λs' b x z l C D d=>⟨Y,?_⟩;rw[x];exact .d8 d.fr d.hn (R U _ _ b z l C D d)
theorem Sx{id4 g4:Nat}(C:kX A i v all)(f:Fr A u)(hu:v.cf<=999999)(aI:all.length<=999999)(Q:jh r bn)(m:w.T 0=.ptr i.c i.gc 6 0 0)(o:w.T 2=.p (I at_))(E:w.T 4=.ptr id4 g4 9 0 0)(F:w.T 7=.ptr id7 g7 3 0 0)(aO:u<=id4/\u<=id7/\id4<w.nx/\id7<w.nx)(R:w.O id4=J (.row 9 g4 [r.map .p]))(aS:w.O id7=J (.row 3 g7 [[.p (S e),.p (I t),.p (I n)]]))(hO:∀k,k<u->w.O k=A k)(a0:Fr w.O w.nx)(hn:u<=w.nx)(T:∀j c,j.T 6=.p (B aa)->c.key=.agg [S e,I t,I n]->c.ob=[bn]->c.np=[]->c.at_=at_->kY A j.O u j.nx i {v with cf:=v.cf+1} all (tI v.size (kr (.agg [S e,I t,I n]) all++[c]))->be .ret j):
 bx (X af) YZ w be:=by
 have V:=C;obtain⟨⟨co,cl,eo,p,l,W⟩,ok,ab,us,u0⟩:=C;obtain⟨a1,a2,a3⟩:=l.ne;have G:=l.c;have aP:=l.o;have nc:=f.lt G;have ac:=f.lt aP;have ad:=Q;obtain⟨⟨q7,q8,er,a4,h8⟩,hc,hv,a5⟩:=ad;have h9:r.length=9:=by rw[er];simp[hc]
 have ag:r.take 9=r:=ak;have al:D.cells (.p (.agg r))=r.map .p:=by simp[D.cells,dw]
 have an:dp [r.map D.p]=J [r]:=by simp[dp,nV]
 have ao:cF (r.map D.p)=.p (.agg r):=Y;simp[YZ,m,o,E,F,R,ba,<-cD,ag,ao,h9,fP,al,an];intro a;refine .l ?_;refine BJ aj Y aj λax aR bX a6 ay a7=>?_;have cq:D.cells (.p aR)=[.p aR]:=by simp[D.cells,ie ay]
 have pk:cF [.p aR,.p aD,.p (I at_),.p (I 0)]=.p (.agg [aR,.v (.slice ae 0 0),I at_,I 0]):=rfl;have ck:D.cells (.p (.agg [aR,.v (.slice ae 0 0),I at_,I 0]))=[.p aR,.p aD,.p (I at_),.p (I 0)]:=rfl;simp[agd,o,fh,cq,show D.cells (.p (I at_))=[.p (I at_)] from rfl,pk,ck,bI];have b:∀k,k<u->am w.O (w.nx+5) (J (.row 4 (a (w.nx+5)) [[.p aR,.p aD,.p (I at_),.p (I 0)]])) k=A k:=aj;have q:am w.O (w.nx+5) (J (.row 4 (a (w.nx+5)) [[.p aR,.p aD,.p (I at_),.p (I 0)]])) (w.nx+5)=(J (.row 4 (a (w.nx+5)) [[.p aR,.p aD,.p (I at_),.p (I 0)]])):=Y;have s:am w.O (w.nx+5) (J (.row 4 (a (w.nx+5)) [[.p aR,.p aD,.p (I at_),.p (I 0)]])) id7=J (.row 3 g7 [[.p (S e),.p (I t),.p (I n)]]):=aj;have H:Fr (am w.O (w.nx+5) (J (.row 4 (a (w.nx+5)) [[.p aR,.p aD,.p (I at_),.p (I 0)]]))) ax:=bK;revert b q H s;generalize am w.O (w.nx+5) (J (.row 4 (a (w.nx+5)) [[.p aR,.p aD,.p (I at_),.p (I 0)]]))=x;intro b q s H;obtain⟨bZ,db,q3,q4⟩:=V.H7 f;have a8:∀d∈eo++p,d.id<u:=ak;have a9:∀K z,A K=J z->x K=J z:=λK z L=>(b K (f.lt L)).trans L;obtain⟨cT,M,N,e1,O,P⟩:=l.aoX U (x0:=({key:=.agg [S e,I t,I n],id:=w.nx+5,g:=a (w.nx+5),born:=0,mi:=aR,tags:=.v (.slice ae 0 0),ob:=[bn],np:=[],at_:=at_,used:=0}:CE)) rfl ⟨e,t,n,rfl⟩ ⟨aw,aw,aw,ak⟩ q;have c1:x i.c=_:=(b _ nc).trans G;have l1:x i.o=_:=(b _ ac).trans aP;have p3:cF [.p (S e),.p (I t),.p (I n)]=.p (.agg [S e,I t,I n]):=rfl;simp[agj,m,o,E,F,c1,l1,CI.row,ba,uN,e1,s,p3];intro g2;have bb:({key:=.agg [S e,I t,I n],id:=w.nx+5,g:=a (w.nx+5),born:=N,mi:=aR,tags:=.v (.slice ae 0 0),ob:=[bn],np:=[],at_:=at_,used:=0}:CE)∈M++p:=P.mem_iff.2 (mw _ aj);have aB:(M++p).Perm (kr (.agg [S e,I t,I n]) all++[({key:=.agg [S e,I t,I n],id:=w.nx+5,g:=a (w.nx+5),born:=N,mi:=aR,tags:=.v (.slice ae 0 0),ob:=[bn],np:=[],at_:=at_,used:=0}:CE)]):=P.trans ((Pa W).append_right _);have aE:=kX.put O aB ok ⟨aj,Y,aj,Y,Y,U⟩ ab us u0;refine Q4 y O.c aj λbd bk=>?_;simp[af6,m];intro bA;refine Se aE aw (by have:=AI (λd=> !yq (.agg [S e,I t,I n]) d) all;rw[fj];show(IB _ all).length+1<=_;omega) λbl O5 hr=>?_
 simp[aeD];have hR:=kY.trans (λk k1 k2=>(ai y).trans ((ai aj).trans ((ai λe=>k2 (.inr U)).trans (b k k1)))) (λd hy=>by rcases bg.1 hy with h|h;exact .inl ⟨d,(tL h).1,rfl⟩;rw[bD.1 h];exact .inr (by show u<=w.nx+5;omega)) y hr
 intro g4;exact T _ _ Y rfl rfl rfl rfl (hR.grow aw)
theorem ZC(hi:kX A i v all)(hu:v.cf<=999999)(an:all.length<=999999)(x:jh r bn)(ao:bn.c=S e::I t::I n::cT)(h1:sa v all (.agg [S e,I t,I n]) at_->∀H Q,kY A Q u H i v all all->ag (.p (B Z)) Q H)(h2:¬sa v all (.agg [S e,I t,I n]) at_->∀H Q a,a.key=.agg [S e,I t,I n]->a.ob=[bn]->a.np=[]->a.at_=at_->kY A Q u H i {v with cf:=v.cf+1} all (tI v.size (kr (.agg [S e,I t,I n]) all++[a]))->ag (.p (B aa)) Q H):
 X af 26 [.ptr i.c i.gc 6 0 0,.p (.agg r),.p (I at_)] A u ag:=by
 refine X.of Y apE (by simp[D26]) λj=>?_;have p:=hi;obtain⟨⟨co,cl,eo,el,hs,W⟩,ok,a4,us,u0⟩:=hi;have ax:=hs;obtain⟨ac,om,aP,K,L,Ml,ol,nd⟩:=ax;have nc:=j.lt ac;have ay:=j.lt om;have aB:=x;obtain⟨⟨q7,q8,er,a5,h8⟩,hc,hv,a6⟩:=aB;have h9:r.length=9:=by rw[er];simp[hc]
 have aE:r.take 9=r:=ak;have aI:D.cells (.p (.agg r))=r.map .p:=by simp[D.cells,dw]
 have aO:cF (r.map D.p)=.p (.agg r):=Y;simp[D26,cN,h9,aI,ba,<-cD,aE,aO];intro d b;refine ahQ x ao λad a7=>?_;have c3:D.cells (.p (.agg [S e,I t,I n]))=[.p (S e),.p (I t),.p (I n)]:=rfl;have aR:u+4≠u:=y;have aS:∀a0:List D,am (am (am A u (J (.row 9 (d u) [r.map .p]))) (u+4) (J (.row 3 (b (u+4)) [a0]))) (u+4) (J (.row 3 (b (u+4)) [[.p (S e),.p (I t),.p (I n)]]))=am (am A u (J (.row 9 (d u) [r.map .p]))) (u+4) (J (.row 3 (b (u+4)) [[.p (S e),.p (I t),.p (I n)]])):=U;simp[afJ,c3,bI,aR,aS];have f:∀k,k<u->(am (am A u (J (.row 9 (d u) [r.map .p]))) (u+4) (J (.row 3 (b (u+4)) [[.p (S e),.p (I t),.p (I n)]]))) k=A k:=aj;have z:(am (am A u (J (.row 9 (d u) [r.map .p]))) (u+4) (J (.row 3 (b (u+4)) [[.p (S e),.p (I t),.p (I n)]]))) u=J (.row 9 (d u) [r.map .p]):=Y;have m:(am (am A u (J (.row 9 (d u) [r.map .p]))) (u+4) (J (.row 3 (b (u+4)) [[.p (S e),.p (I t),.p (I n)]]))) (u+4)=J (.row 3 (b (u+4)) [[.p (S e),.p (I t),.p (I n)]]):=Y;have q:Fr (am (am A u (J (.row 9 (d u) [r.map .p]))) (u+4) (J (.row 3 (b (u+4)) [[.p (S e),.p (I t),.p (I n)]]))) ad:=bK;revert f z m q;generalize am (am A u (J (.row 9 (d u) [r.map .p]))) (u+4) (J (.row 3 (b (u+4)) [[.p (S e),.p (I t),.p (I n)]]))=C;intro f z m q;have E:C i.c=_:=(f _ nc).trans ac;have o1:C i.o=_:=(f _ ay).trans om;have a8:kX C i v all:=p.aL λk K hb=>(f k (j.lt hb)).trans hb;have p3:cF [.p (S e),.p (I t),.p (I n)]=.p (.agg [S e,I t,I n]):=rfl;have al:i.o<ad:=y;rcases E5 (g:=i.go) (c:=co) (by simp[jN,mX,tj]) (λo M=>J0 ⟨e,t,n,rfl⟩ (L.k o M)) L.nk with⟨a9,N⟩|⟨a,F,s,N⟩
 have bb:∀a∈all,a.key≠.agg [S e,I t,I n]:=λa F e=>by rcases bg.1 (W.mem_iff.2 F)with h|h;exact aj;obtain⟨e',s⟩:=Ml.k a h;grind
 have O:sa v all (.agg [S e,I t,I n]) at_↔at_<v.floor:=⟨λh=>h.elim id ak,aj⟩;simp[YX,E,CI.row,ba,o1,uN,al,N,vr,m,p3];intro g2;refine KS E λa1 a2=>?_;simp[XU];refine⟨λG=>.d8 bK y (h1 U _ _ (.refl p j f y bK)),λG=>?_⟩;refine Sx (at_:=at_) (id4:=u) (g4:=d u) (id7:=u+4) (g7:=b (u+4)) p j hu y x Y Y Y Y aw z m f bK aw λs' a P R w T V l=>⟨Y,?_⟩;rw[P];exact .d8 l.fr l.hn (h2 U _ _ a R w T V l);have ab:a∈eo++el:=jx _ F;have a3:=W.mem_iff.1 ab;have ox:C a.id=J (.row 4 a.g [[.p a.mi,.p a.tags,.p (I a.at_),.p (I a.used)]]):=(f _ (j.lt (K a ab))).trans (K a ab);have O:sa v all (.agg [S e,I t,I n]) at_↔at_<v.floor\/at_<a.at_:=by
  refine xC ⟨λ⟨o,M,e,h⟩=>?_,λh=>⟨a,a3,s,h⟩⟩;have:o∈eo:=by rcases bg.1 (W.mem_iff.2 M)with h|h;exact h;obtain⟨e',s⟩:=Ml.k o h;rw[s]at e;cases e
  have w:o=a:=mA L.nk o this a F (e.trans s.symm);rw[<-w];exact h
 simp[YX,E,CI.row,ba,o1,uN,al,N,vr,m,p3];intro g2;refine KM E ox rfl λa1 a2=>?_;simp[XU];refine⟨λG=>.d8 (q.mono y) y (h1 (O.2 G) _ _ (.refl p j f y (q.mono y))),λG bd=>?_⟩;refine Sx (e:=e) (t:=t) (n:=n) (at_:=at_) (id4:=u) (g4:=d u) (id7:=u+4) (g7:=b (u+4)) p j hu an x Y Y Y Y ⟨y,y,aw,aw⟩ z m f (q.mono aw) aw λs' a P R w T V l=>⟨.inr rfl,?_⟩;rw[P];exact .d8 l.fr l.hn (h2 (λh=>by have:=O.1 h;omega) _ _ a R w T V l)
theorem M5{d:Int}(j:¬((1<=bO/\bO<=1000)/\(0<=d/\d<=999999999999999))->∀H Q,(∀k,k<u->Q k=A k)->u<=H->Fr Q H->ag (.eQ [.p (.v (.pointer ae)),.p (I 1)]) Q H)(x:(1<=bO/\bO<=1000)/\(0<=d/\d<=999999999999999)->∀H Q i,u<=i.c->u<=i.o->u<=i.l->kX Q i {size:=bO,heard:=d,floor:=d,cf:=0} []->(∀k,k<u->Q k=A k)->u<=H->Fr Q H->ag (.eQ [.ptr i.c i.gc 6 0 0,.p (I 0)]) Q H):
 X af 9 [.p (I bO),.p (I d)] A u ag:=by
 refine X.of Y ari (by simp[D9]) λG=>?_;simp[D9,cN];intro K;refine PA λL M=>?_;have m:∀ag:P->Prop,unOp .not (.p (B aa)) ag=ag (B Z):=aj;have n:∀ag:P->Prop,unOp .not (.p (B Z)) ag=ag (B aa):=aj;by_cases p:1<=bO/\bO<=1000;have f:(decide (1<=bO)&&decide (bO<=1000))=aa:=by simpa using p
 rw[f];simp[adX];refine PA λb N=>?_;by_cases q:0<=d/\d<=999999999999999;have h:(decide (0<=d)&&decide (d<=999999999999999))=aa:=by simpa using q
 rw[h];simp;simp[am3,fh];intro e;refine .l (.l ?_);have z:∀id g,D.cells (.mp id g)=[.mp id g]:=aj;have C:∀k,D.cells (.p (I k))=[.p (I k)]:=aj;have E:∀r s a t,D.cells (cF [.p (I bO),.p (I d),.p (I d),.p (I 0),.mp r a,.mp s t])=[.p (I bO),.p (I d),.p (I d),.p (I 0),.mp r a,.mp s t]:=aj;simp[bI,z,C,E];have O:∀k,k<u->am (am (am A (b+3) (J (.map (e (b+3)) 0 []))) (b+4) (J (.map (e (b+4)) 0 []))) (b+6) (J (.row 6 (e (b+6)) [[.p (I bO),.p (I d),.p (I d),.p (I 0),.mp (b+3) (e (b+3)),.mp (b+4) (e (b+4))]])) k=A k:=aj;have v:Fr (am (am (am A (b+3) (J (.map (e (b+3)) 0 []))) (b+4) (J (.map (e (b+4)) 0 []))) (b+6) (J (.row 6 (e (b+6)) [[.p (I bO),.p (I d),.p (I d),.p (I 0),.mp (b+3) (e (b+3)),.mp (b+4) (e (b+4))]]))) (b+9):=bK;refine .d8 v y (x y _ _ {c:=b+6,gc:=e (b+6),o:=b+3,go:=e (b+3),l:=b+4,gl:=e (b+4)} aw aw aw ?_ U y v);have R:∀w,sb w 0 []:=λw=>⟨λ_ F=>(by cases F),Y,ak,Y⟩;exact⟨⟨0,0,[],[],⟨bi,Y,Y,ak,U,U,aw,Y⟩,Y⟩,ak,Y,ak,aw⟩;have h:(decide (0<=d)&&decide (d<=999999999999999))=Z:=by simpa using q
 rw[h];simp[ad4,aef,m,n];exact .d8 bK y (j y _ _ U y bK);have f:(decide (1<=bO)&&decide (bO<=1000))=Z:=by simpa using p
 rw[f];simp[adX,ad4,aef,m,n];exact .d8 bK y (j y _ _ U y bK)
def D82:d6:=⟨33,[.t 6],z 1 [q 6 (.mv (.c aD))] (z 6 [G 8 0,G 9 1,G 10 2,G 11 0,q 12 (fQ 11),q 13 (.tZ 7 (.t 8) (J (.t 9)) (J (.t 10)) (J (.t 12)))] (.seq (z 3 [G 14 1,G 15 2,q 16 (xB .eql 14 15)] (.cond (.t 16) (z 2 [G 17 0,G 6 17] (.ret)) (.skip))) (z 3 [G 18 0,q 19 (fQ 18),G 7 19] (z 8 [G 20 0,G 21 1,q 22 (.tZ 7 (.t 20) ae (J (.t 21)) ae),G 23 0,G 24 2,q 25 (.tZ 7 (.t 23) (J (.t 24)) ae ae),q 26 (jE 6 7 104 22 25),G 0 26] (z 6 [G 27 0,G 28 0,q 29 (fQ 28),G 30 7,q 31 (.m (.Zb 7) 4 [.t 27,.t 29,.t 30]),oN (.GF 7 [aF,aH,aH,aF,aD,aD,aH] (.t 31))] (z 2 [G 32 0,G 6 32] (.ret)))))))⟩
def aoV:cW af Tryz.f82=J D82:=h
theorem agT[Gh]:J1 af 82 7:=by
 intro A u ag id g i K a b v w x c;refine X.Cm ?_;refine X.of Y aoV (by simp[D82]) λe=>?_;have z:=e.lt b;have B:(a.map (·.map D.p)).length=a.length:=Y;have C:(a.length:Int)<=a.length:=y;have E:(K:Int)<=a.length:=y;have F:(i:Int)<=K:=y;by_cases f:i=K;subst f;simp(disch:=omega)[D82,cN,jK,b,binOp,aC];refine⟨y,.d8 bK y (.inl ?_)⟩;have:=c (u+1+6+3+2) g y;rw[Nat.sub_self,uD,um]at this;rw[yd b]at this;exact this;have h:((i:Int)==(K:Int))=Z:=ak;have j:fO A 7 (.sl id g K (a.length-K) 7 Z)=J ((a.drop K).map (·.map .p)):=by simp[fO,fF,b,nn];exact⟨y,cp Y⟩
 have G:(a.drop K).length=a.length-K:=Y;have k:i≠a.length:=y;simp(disch:=omega)[-az,D82,cN,jK,b,binOp,aC,h,j,k];refine⟨y,y,y,y,y,y,y,λH=>?_⟩;have d:((a.map (·.map D.p)).take i++((a.map (·.map D.p)).drop K++(a.map (·.map D.p)).drop (i+(a.length-K)))).length=a.length:=dK;generalize l:(a.map (·.map D.p)).take i++((a.map (·.map D.p)).drop K++(a.map (·.map D.p)).drop (i+(a.length-K)))=m at d⊢;have n:((i:Int)+((a.length-K:Nat):Int)).toNat=i+(a.length-K):=y;have o:((a.length:Nat):Int).toNat=a.length:=y;have p:i+(a.length-K)+(a.length-(i+(a.length-K)))=a.length:=y;have q:(0:Int)<=(i:Int)+((a.length-K:Nat):Int):=y;have r:(i:Int)+((a.length-K:Nat):Int)<=a.length:=y;simp only[th,dt,n,o,d,bf,p];refine⟨Y,Y,Y,Y,y,q,r,y,Y,Y,Y,y,?_⟩;simp only[oS];refine .d8 bK y (.inr ⟨id,7,g,i+(a.length-K),_,dt _ _ _,?_⟩);have s:a.length-(K-i)=i+(a.length-K):=y;have:=c (u+1+6+3+3+8+6+2) g y;rw[s]at this;have t:List.take (i+(a.length-K)) m=(a.take i++a.drop K).map (·.map D.p):=by rw[<-l,<-jd,xi dK,cp dK,cG,cD,nn]
 rw[oS,xi dK,AZ,Nat.min_self,t];exact this
def XT:av:=.cond (.t 16) (z 2 [G 17 5,G 4 17] (.ret)) (.skip)
def af5:av:=rF 2 [q 18 (di .add 8 1),G 8 18]
def apu:av:=
 z 1 [q 9 (xB .lss 8 7)] (.seq (cX 9 0) (.seq (.block 1 (z 2 [G 10 8,G 5 10] (z 6 [G 11 1,G 12 0,G 13 5,q 14 (xI 7 12 13),cA 15 7 14,q 16 (.iI (.t 11) [.t 15])]
  XT)))
  af5))
def aeE:av:=z 1 [fR 4 (-1)] (.ret)
def D79:d6:=⟨19,[.t 4],z 1 [fR 4 0] (.seq (z 3 [G 6 0,q 7 (fQ 6),fR 8 0] (.block 0 (.loop apu)))
 aeE)⟩
def aop:cW af Tryz.f79=J D79:=h
def D81:d6:=⟨17,[.t 4],z 3 [q 2 (iU 0 7 0),q 3 (iU 1 7 1),q 4 (gR Z)] (z 13 [oF 5 2 0,cA 6 3 5,oF 7 3 0,cA 8 3 7,q 9 (.pf (.eq Z [.s,.i,.i]) [.t 6,.t 8]),G 10 9,oT 11 10 (xF 2 3),oT 12 10 (xL 1 11),oT 13 10 (xF 3 3),oT 14 10 (xL 1 13),oT 15 10 (xB .eql 12 14),q 16 (jw 10 15),G 4 16] (.ret))⟩
def apK:cW af Tryz.f81=J D81:=h
def agp:List aA:=[G 3 6]
def D80:d6:=⟨7,[.t 3],z 2 [q 2 (iU 0 7 0),q 3 (gR Z)] (z 4 (cA 4 7 2::cA 5 7 1::q 6 (dV 81 4 5)::agp) (.ret))⟩
def apw:cW af Tryz.f80=J D80:=h
def afX:List aA:=[G 3 6]
def D83:d6:=⟨7,[.t 3],z 2 [q 2 (iU 0 7 0),q 3 (gR Z)] (z 4 (cA 4 7 2::cA 5 7 1::q 6 (dV 81 4 5)::afX) (.ret))⟩
def an6:cW af Tryz.f83=J D83:=h
structure KE where
 key:P
 list:P
 tags:P
 ob:List AO
 np:List (List P)
 at_:Int
def YH:P->List P|.agg r=>r|_=>[S ⟨#[]⟩,I 0,I 0]
def alP:P->P|.agg _=>S ⟨#[]⟩|p=>p
def KE.row(a:KE):List P:=YH a.key++[alP a.key,a.list,a.tags,I a.at_]
def uU(b:P):Prop:=CF b\/∃a:ByteArray,a≠⟨#[]⟩/\b=S a
structure mT(x:KE):Prop where
 key:uU x.key
 mi:∃rows,Sl 9 x.list rows/\jv jh rows x.ob
 ol:x.ob.length<=1000
 tags:Sl 3 x.tags x.np
 tt:∀r∈x.np,qw r
 tl:x.np.length<=1000
def qb(b:uU k):∃(e:ByteArray) (t n:Int) (a:ByteArray),YH k=[S e,I t,I n]/\alP k=S a/\(k=.agg [S e,I t,I n]/\a=⟨#[]⟩\/k=S a/\a≠⟨#[]⟩/\e=⟨#[]⟩/\t=0/\n=0):=by rcases b with⟨e,t,n,rfl⟩|⟨a,c,rfl⟩;exact⟨e,t,n,⟨#[]⟩,rfl,rfl,Y⟩;exact⟨⟨#[]⟩,0,0,a,rfl,rfl,U⟩
def KE.len{b:KE}(c:uU b.key):b.row.length=7:=by obtain⟨e,t,n,a,d,f,_⟩:=qb c;simp[KE.row,d]
open Classical in
noncomputable def Ax(a b:P):Bool:=decide (a=b)
def vQ{a b:P}:Ax a b=aa↔a=b:=by simp[Ax]
theorem Zi{b c:KE}(o:mT b)(p:mT c)(i:∀H,u<=H->ag (.p (B (Ax b.key c.key))) A H):X af 81 [.p (.agg b.row),.p (.agg c.row)] A u ag:=by
 refine X.of Y apK (by simp[D81]) λq=>?_;obtain⟨e,t,n,a,r,s,w⟩:=qb o.key;obtain⟨d,f,g,h,x,z,C⟩:=qb p.key;have E:D.cells (.p (.agg b.row))=[.p (S e),.p (I t),.p (I n),.p (S a),.p b.list,.p b.tags,.p (I b.at_)]:=by simp[D.cells,dw,KE.row,r,s]
 have F:D.cells (.p (.agg c.row))=[.p (S d),.p (I f),.p (I g),.p (S h),.p c.list,.p c.tags,.p (I c.at_)]:=by simp[D.cells,dw,KE.row,x,z]
 have G:∀e t n,cF [.p (S e),.p (I t),.p (I n)]=.p (.agg [S e,I t,I n]):=U;have K:u≠u+1:=y;have L:Ax b.key c.key=((e.toList==d.toList)&&((t==f)&&((n==g)&&aa))&&(a.toList==h.toList)):=by
  rw[pG];simp only[vQ,aq,IZ];simp only[qY,pu];rcases w with⟨k,M⟩|⟨k,M,T,V,N⟩<;>rcases C with⟨O,P⟩|⟨O,P,W,ab,ac⟩
  exact U;grind;exact U;exact U
 rw[L]at i;have j:vL (.eq Z [.s,.i,.i]) [.p (.agg [S e,I t,I n]),.p (.agg [S d,I f,I g])]=J (B ((e.toList==d.toList)&&((t==f)&&((n==g)&&aa)))):=by simp[vL,mX,tj]
 have ad:∀v l m H,u+2<=H->ag (.p (B v)) A H->ji u ag (am (am A u (J (.row 7 l [[.p (S e),.p (I t),.p (I n),.p (S a),.p b.list,.p b.tags,.p (I b.at_)]]))) (u+1) (J (.row 7 m [[.p (S d),.p (I f),.p (I g),.p (S h),.p c.list,.p c.tags,.p (I c.at_)]]))) H (.p (B v)):=by intro v l m H N Q;exact .low q y aj Q
 generalize ((e.toList==d.toList)&&((t==f)&&((n==g)&&aa)))=R at j i;simp[D81,cN,E,F,ba,K,G,j];cases R;grind;simp[binOp,gD];grind
theorem ahT{a b:KE}(c:mT a)(d:mT b)(e:A id=J (.row 7 g [b.row.map .p]))(h:∀H,u<=H->ag (.p (B (Ax a.key b.key))) A H):X af 80 [.p (.agg a.row),.ptr id g 7 0 0] A u ag:=by
 refine X.of Y apw (by simp[D80]) λf=>?_;have q:=f.lt e;have i:id≠u:=y;have j:=KE.len c.key;have k:=KE.len d.key;have l:D.cells (.p (.agg a.row))=a.row.map .p:=by simp[D.cells,dw]
 have m:cF (a.row.map D.p)=.p (.agg a.row):=Y;have n:cF (b.row.map D.p)=.p (.agg b.row):=Y;have o:a.row.take 7=a.row:=ak;have p:b.row.take 7=b.row:=ak;simp[D80,cN,l,j,k,ba,i,e,<-cD,o,p,m,n];intro r s;refine Zi c d λt v=>?_;simp[agp];exact .low f y aj (h _ y)
theorem agw{a b:KE}(c:mT a)(d:mT b)(e:A id=J (.row 7 g [b.row.map .p]))(h:∀H,u<=H->ag (.p (B (Ax a.key b.key))) A H):X af 83 [.p (.agg a.row),.ptr id g 7 0 0] A u ag:=by
 refine X.of Y an6 (by simp[D83]) λf=>?_;have q:=f.lt e;have i:id≠u:=y;have j:=KE.len c.key;have k:=KE.len d.key;have l:D.cells (.p (.agg a.row))=a.row.map .p:=by simp[D.cells,dw]
 have m:cF (a.row.map D.p)=.p (.agg a.row):=Y;have n:cF (b.row.map D.p)=.p (.agg b.row):=Y;have o:a.row.take 7=a.row:=ak;have p:b.row.take 7=b.row:=ak;simp[D83,cN,l,j,k,ba,i,e,<-cD,o,p,m,n];intro r s;refine Zi c d λt v=>?_;simp[afX];exact .low f y aj (h _ y)
theorem TX{a:D}{d:Nat}{F:cB}(f:de A d 7 (aW V) a)(T:V.length<=100000)(b:∀r∈V,r.length=7)(L:∀r∈V,∀H (j:D->ah->Nat->Prop),u<=H->(∀l,H<=l->j (.p (B (p r))) A l)->X af F (.p (.agg r)::cs) A H j)(h:∀H,u<=H->ag (.p (I (zZ p V))) A H):X af 79 [a,.fn (.func F) [] cs] A u ag:=by
 refine X.of Y aop (by simp[D79]) λhf=>?_;have M:∀ag:D->Prop,zJ a ag=ag (.p (I V.length)):=λag=>by
  rcases f with⟨e,rfl⟩|⟨id,g,_,rfl,_⟩;have:V=[]:=by simpa[aW]using e
  exact U;simp
 simp[D79,cN,M];intro gm;refine⟨λk w=>∃K:Nat,k=V.length-K/\K<=V.length/\IdS A u a (.fn (.func F) [] cs) V.length K w/\∀i r,i<K->V[i]? =J r->p r=Z,⟨_,0,rfl,y,⟨Y,Y,Y,Y,Y,rfl,aw⟩,ak⟩,?_⟩;rintro k w ⟨K,rfl,hj,⟨m,n,N,o,c,q,hn⟩,s⟩;have O:=lW (i:=K) y;refine lX c o (λab P=>?_) λac P=>?_;have t:K<V.length:=y;have v:V[K]? =J V[K]:=Y;have x:=bJ t;have z:=b _ x;generalize V[K]=r at v x z;have Q:r.take 7=r:=ak;have R:cF (r.map D.p)=.p (.agg r):=Y;obtain⟨id,g,_,rfl,C⟩:∃id g,d<=id/\a=.sl id g 0 (aW V).length 7 Z/\A id=J (.row 7 g (aW V)):=by rcases f with⟨e,_⟩|h;grind;exact ar
 have E:(aW V)[K]? =J (r.map .p):=by simp[v]
 have G:(aW V).length=V.length:=Y;generalize aW V=aS at C E G m N⊢;have S:∀h,aS[K]'h=r.map .p:=ak;rw[bF,gQ];simp[c,n,m,q,C,E,S,G,t,ba,z,<-cD,Q,R];intro g2;refine L r ar _ _ y λad al=>?_;cases W:p r with|true=>simp[XT];exact .d8 bK y (by rw[<-On s ar W];exact h _ y)|false=>simp[XT,af5,c,binOp,aC,O];intro bA;refine⟨V.length-(K+1),y,K+1,rfl,y,⟨U,by simp[n],U,by simp[o],Y,Y,aw⟩,λi r' hi an=>?_⟩;grind
 refine⟨rfl,?_⟩;simp[aeE];rw[q];refine .d8 bK y ?_;rw[<-JJ λi r b=>s i r (by have:=(bq.1 b).1;omega) b];exact h _ y
end Go.Dl
variable {C bu:List KE}{x E:KE}
namespace Go.Dl
open Go.Proofs Go.Dl.Ai
def Y6:List aA:=[G 5 11]
def afd:List aA:=[d5 47 38,oF 48 47 3,oN (xS 1 48 46)]
def aeV:List aA:=[d5 75 69,oF 76 75 3,oN (xS 1 76 74)]
def Xn:av:=z 1 [q 4 (gR aa)] (.ret)
def J7:av:=
 .seq (z 10 [G 59 0,d5 60 59,oF 61 60 3,oL 62 1 61,q 63 (fQ 62),G 64 0,d5 65 64,oF 66 65 0,oL 67 1 66,q 68 (xB .gtr 63 67)] (.cond (.t 68) (rF 9 (G 69 0::G 70 0::d5 71 70::oF 72 71 3::oL 73 1 72::q 74 (.call 82 [.t 73,.c aH,.c (I 1)])::aeV)) (.skip)))
  Xn
def Yt:av:=
 .seq (.dg 11 aa [aZ 49 (xM 0),G 50 0,d5 51 50,oF 52 51 3,q 53 (jP 1 52),cA 54 7 3,q 55 (.bQ 6 7 1 [aF,aH,aH,aF,aD,aD,aH] [(0,.t 54)]),q 56 (jE 7 7 104 53 55),d5 57 49,oF 58 57 3,oN (xS 1 58 56)])
  J7
def pU:av:=
 .seq (z 24 [oF 12 3 6,oL 13 1 12,G 14 0,d5 15 14,oF 16 15 2,oL 17 1 16,q 18 (xB .lss 13 17),G 19 18,dA 20 19 (xM 5),dA 21 19 (di .geq 20 0),dA 22 19 (xM 21),oT 23 22 (xM 0),oT 24 22 (xN 23),oT 25 22 (xF 24 3),oT 26 22 (xL 1 25),oT 27 22 (xM 5),oT 28 22 (xI 7 26 27),oT 29 22 (xF 28 6),oT 30 22 (xL 1 29),oT 31 22 (xF 3 6),oT 32 22 (xL 1 31),oT 33 22 (xB .gtr 30 32),dA 34 19 (jw 22 33),q 35 (qa 19 34)] (.cond (.t 35) (z 1 [q 4 (gR Z)] (.ret)) (.skip))) (.seq (z 2 [G 36 5,q 37 (di .geq 36 0)] (.cond (.t 37) (rF 12 (G 38 0::G 39 0::d5 40 39::oF 41 40 3::oL 42 1 41::G 43 5::G 44 5::q 45 (di .add 44 1)::q 46 (sV 82 42 43 45)::afd)) (.skip)))
  Yt)
def D35:d6:=⟨77,[.t 4],z 2 [q 3 (iU 0 7 1),q 4 (gR Z)] (z 7 (G 6 0::d5 7 6::oF 8 7 3::oL 9 1 8::q 10 (wW 80 [.t 3])::q 11 (dV 79 9 10)::Y6)
 pU)⟩
def ao0:cW af Tryz.f35=J D35:=h
def YQ:List aA:=[G 6 13]
def N3:List aA:=[q 35 (jE 11 7 104 32 34),d5 36 24,oF 37 36 3,oN (xS 1 37 35)]
def YM:av:=z 3 [cA 38 7 7,oN (xS 7 4 38),q 5 (gR aa)] (.ret)
def Mt:av:=
 .seq (z 2 [G 14 6,q 15 (di .lss 14 0)] (.cond (.t 15) (z 3 [q 16 (.build [aF,aH,aH,aF,aD,aD,aH] []),oN (xS 7 4 16),q 5 (gR Z)] (.ret)) (.skip))) (z 9 [G 17 0,d5 18 17,oF 19 18 3,oL 20 1 19,G 21 6,q 22 (xI 7 20 21),cA 23 7 22,q 7 (.alloc 7 7 [aF,aH,aH,aF,aD,aD,aH]),oN (xS 7 7 23)] (.seq (.dg 15 aa (aZ 24 (xM 0)::aZ 33 (uS 7 7)::aZ 34 (.bQ 10 7 1 [aF,aH,aH,aF,aD,aD,aH] [(0,.t 33)])::G 25 0::d5 26 25::oF 27 26 3::q 28 (jP 1 27)::G 29 6::G 30 6::q 31 (di .add 30 1)::q 32 (sV 82 28 29 31)::N3))
  YM))
def D37:d6:=⟨39,[.cell 4 7 aa,.t 5],z 3 [q 3 (iU 0 7 1),q 4 (.alloc 1 7 [aF,aH,aH,aF,aD,aD,aH]),q 5 (gR Z)] (z 7 (G 8 0::d5 9 8::oF 10 9 3::oL 11 1 10::q 12 (wW 83 [.t 3])::q 13 (dV 79 11 12)::YQ)
 Mt)⟩
def aot:cW af Tryz.f37=J D37:=h
structure KI(O:ah)(kc gk:Nat)(v:CV)(ke:List KE)(dl:D):Prop where
 c:O kc=J (.row 4 gk [[.p (I v.size),.p (I v.heard),.p (I v.floor),dl]])
 l:de O 0 7 (aW (ke.map KE.row)) dl
def KF(b c:ah)(d:Nat):Prop:=∀k a,k≠d->b k=J a->(∀g e,a≠.row 7 g e)->c k=J a
def KF.refl:KF A A L:=λ_ _ _ a _=>a
theorem KF.trans{a b:ah}(g:KF A a L)(c:KF a b L):KF A b L:=λk d e h f=>c k d e aj f
def yj{a:List (List P)}:(aW a).length=a.length:=Y
def akz{a b:List aA}{s1:St}{c:St->Prop}{dl:D}{r:List P}(d:∀ag:St->Prop,ag s1->eN cU a w ag)(e:eN cU b s1 c):eN cU a w λf=>eN cU b f c:=d _ e
theorem ak1(s:w.T 0=.ptr L aB 4 0 0)(t:w.T 3=.ptr bC bA 7 0 0)(u:KI w.O L aB v C dl)(j:w.O bC=J (.row 7 bA [x.row.map .p]))(z:mT x)(f:Fr w.O w.nx)(hl:C.length<=100000)(A:∀b c,b.T 0=.ptr L aB 4 0 0->KI b.O L aB v (C++[x]) c->KF w.O b.O L->Fr b.O b.nx->w.nx<=b.nx->bx (X af) J7 b be):
 bx (X af) Yt w be:=by
 obtain⟨h,aP⟩:=u;have B:=f.lt h;have n3:=f.lt j;have E:=KE.len z.key;have F:x.row.take 7=x.row:=ak;have H:cF (x.row.map D.p)=.p (.agg x.row):=Y;have I:D.cells (.p (.agg x.row))=x.row.map .p:=by simp[D.cells,dw]
 rw[show Yt=.seq (.dg 11 aa ([aZ 49 (xM 0)]++([G 50 0,d5 51 50,oF 52 51 3,q 53 (jP 1 52),cA 54 7 3]++([q 55 (.bQ 6 7 1 [aF,aH,aH,aF,aD,aD,aH] [(0,.t 54)]),q 56 (jE 7 7 104 53 55)]++[d5 57 49,oF 58 57 3,oN (xS 1 58 56)])))) J7 from rfl];rw[bF];intro K;refine⟨[],?_⟩;simp only[SE,Lm];rw[show∀(a:aA) aP,[a]++aP=a::aP from U,It,mZ,pY _ eB,iX];refine akz (dl:=dl) (r:=x.row) (s1:={T:=eF (eF (eF (eF (eF (eF w.T 49 (.ptr L aB 4 0 0)) 50 (.ptr L aB 4 0 0)) 51 (.ptr L aB 4 0 0)) 52 (.ptr L aB 4 0 3)) 53 dl) 54 (.p (.agg x.row)),O:=w.O,nx:=w.nx+11,bs:=w.nx,gm:=K}) ?_ ?_;intro ag N;simp[s,t,h,B,ba,j,E,<-cD,F,H];exact N;have i:de w.O 0 7 (aW (C.map KE.row)) dl:=aP;rw[iX];refine wj (d:=.p (.agg x.row)) f aw aw Y U Y i y y y dK dK λc M l bZ db m q4 P q6 q7=>?_;have Q:∀id g,dl=.sl id g 0 (aW (C.map KE.row)).length 7 Z->L≠id:=λid g e n=>by have:=(i.low e).2;grind
 have R:=m L _ h Q;have S:l 49=.ptr L aB 4 0 0:=U;have V:l 0=.ptr L aB 4 0 0:=U;have W:=bZ.cell;have o:de M 0 7 (aW ((C++[x]).map KE.row)) c:=by rw[I,<-uZ]at bZ;rw[cG];exact bZ
 have ac:∀id g p,c=.sl id g 0 p 7 Z->L≠id:=λid g p e n=>by have:=(o.low e).2;grind
 simp[S,db,R,W,bI,Kz];refine A _ c V ⟨Y,o.gM λid g e _ ho=>(ai aj).trans ho⟩ (λk ab k1 hb hs=>(ai k1).trans (m k ab hb λid g e n=>?_)) (P.am aw) aw;have:=(i.low e).2;grind
theorem UM{i:Nat}(m:de A 0 7 (aW (C.map KE.row)) dl)(f:i<C.length)(r:C.length<=100001)(n:∀H Q b,u<=H->de Q 0 7 (aW ((C.eraseIdx i).map KE.row)) b->(∀k,(∀id g c a,dl=.sl id g 0 c 7 a->k≠id)->Q k=A k)->Fr Q H->(∀id g c a,b=.sl id g 0 c 7 a->∃d o,dl=.sl id d 0 o 7 a)->ag b Q H):
 X af 82 [dl,.p (I i),.p (I ((i+1:Nat):Int))] A u ag:=by
 letI:=jo;refine X.fr ⟨_,Tryz.func82,by rfl,by rfl⟩ λh=>?_;rcases m with⟨e,_⟩|⟨id,g,_,rfl,j⟩
 have:=by simpa[aW]using e
 subst this;simp at f;rw[yj];refine agT A u ag id g i (i+1) (C.map KE.row) j y dK dK λH d l=>?_;have p:(C.map KE.row).take i++(C.map KE.row).drop (i+1)=(C.eraseIdx i).map KE.row:=by rw[List.eraseIdx_eq_take_drop_succ,cG,cD,nn]
 have q:(C.map KE.row).length-(i+1-i)=((C.eraseIdx i).map KE.row).length:=by rw[d7,d7,Bj f];omega
 rw[p,q];refine n H _ _ l (.inr ⟨id,d,y,Y,Y⟩) (λk s=>ai aj) ((h.mono l).am (by have:=h.lt j;omega)) λt v w x e=>ak
theorem yi{f:List (List D)}(h:de A 0 7 f dl){a:Nat}{b:fg}(j:A a=J b)(k:∀g i,b≠.row 7 g i):∀id g c d,dl=.sl id g 0 c 7 d->a≠id:=λid g c d e l=>by have:=(h.low e).2;grind
def wt(b:Int)(a:List KE):List KE:=if b<(a.length:Int) then a.eraseIdx 0 else a
theorem agf(d:w.T 0=.ptr L aB 4 0 0)(o:KI w.O L aB v C dl)(p:Fr w.O w.nx)(q:C.length<=100001)(f:0<=v.size)(h:∀a r,a.T 4=.p (B aa)->KI a.O L aB v (wt v.size C) r->KF w.O a.O L->Fr a.O a.nx->w.nx<=a.nx->be .ret a):
 bx (X af) J7 w be:=by
 obtain⟨b,aP⟩:=o;have G:=p.lt b;have j:∀ag:D->Prop,zJ dl ag=ag (.p (I C.length)):=λag=>by
  rcases aP with⟨e,rfl⟩|⟨id,g,_,rfl,_⟩;have:C=[]:=by simpa[aW]using e
  exact U;simp
 by_cases c:v.size<(C.length:Int);simp[J7,d,b,ba,j,binOp,aC,c];intro s;refine UM (i:=0) aP y q λt u x H l m K _=>?_;have z:u L=_:=(m L (yi aP b U)).trans b;have A:=l.cell;have M:L<t:=y;simp[aeV,Xn,z,ba,A,bI];intro N;refine h _ x Y ⟨Y,?_⟩ (λk O E n f=>(ai E).trans ((m k (yi aP n f)).trans n)) bK aw;rw[show wt v.size C=C.eraseIdx 0 from aU c];exact l.gM λid g e _ F=>(ai ak).trans F;simp[J7,Xn,d,b,ba,j,binOp,aC,c];intro s;refine h _ dl Y ?_ .refl bK aw;rw[show wt v.size C=C from ap c];exact aj
open Classical in
noncomputable def pE(a:P)(b:List P):Bool:=decide (∃x:KE,uU x.key/\x.row=b/\x.key=a)
theorem Wx(b:uU x.key)(c:uU E.key)(d:x.row=E.row):x.key=E.key:=by obtain⟨e,t,n,a,f,g,j⟩:=qb b;obtain⟨k,l,m,o,h,i,p⟩:=qb c;simp[KE.row,f,g,h,i,kR,rA,kJ,P.v.injEq,Bn,xG,pL]at d;grind
theorem SS(a:uU x.key):pE k x.row=Ax x.key k:=by rw[pG,vQ];simp[pE,dJ];exact⟨λ⟨E,b,e,c⟩=>(Wx a b U).trans c,ak⟩
theorem abn(a:∀x∈C,uU x.key):zZ (pE k) (C.map KE.row)=match C.findIdx? (λE=>Ax E.key k) with|some i=>(i:Int)|none=> -1:=by
 have:(C.map KE.row).findIdx? (pE k)=C.findIdx? (λE=>Ax E.key k):=by induction C with|nil=>rfl|cons E aP ih=>rw[bG,He,He,SS U,ih U]
 unfold zZ;exact aj
noncomputable def qQ(a:P)(b:List KE):List KE:=b.filter λE=> !Ax E.key a
def LM{a:List KE}(c:∀x∈a,x.key≠k):qQ k a=a:=by
 unfold qQ;rw[oG];intro x d;have:Ax x.key k=Z:=by cases b:Ax x.key k with|false=>rfl|true=>exact absurd (vQ.1 b) U
 exact U
theorem aey(c:(C.map (·.key)).Nodup):(C.findIdx? (λE=>Ax E.key k)=ae/\∀x∈C,x.key≠k)\/∃i x,C.findIdx? (λE=>Ax E.key k)=J i/\C[i]? =J x/\x.key=k/\(∀E∈C,E.key=k->E=x)/\C.eraseIdx i=qQ k C:=by
 cases d:C.findIdx? (λE=>Ax E.key k) with
 |none=>rw[ui]at d;exact .inl ⟨rfl,λx h e=>by have:=d x h;rw[vQ.2 e]at this;grind⟩
 |some i=>
  rw[ms]at d;obtain⟨q,W,_⟩:=d;rw[vQ]at W;refine .inr ⟨i,C[i],rfl,Y,W,λE f e=>mA c E f _ Y U,?_⟩;obtain⟨a,E,b,rfl,rfl⟩:∃a E b,C=a++E::b/\i=a.length:=by refine⟨C.take i,C[i],C.drop (i+1),?_,dK⟩;simp
  have f:=by simpa using W
  simp only[cG,bG]at c;rw[jW]at c;obtain⟨r,j,l⟩:=c;rw[kQ]at j;have m:∀g∈a,g.key≠k:=λg s e=>l _ ak _ Y (e.trans f.symm);have n:∀g∈b,g.key≠k:=ak;have o:qQ k (a++E::b)=qQ k a++qQ k (E::b):=na ..;have p:qQ k (E::b)=qQ k b:=by unfold qQ;rw[mc,vQ.2 f];rfl
  rw[o,p,LM m,LM n,List.eraseIdx_append_of_length_le y];simp
def Cr(b:CV)(c:List KE)(d:P)(a:Int):Prop:=a<b.floor\/∃x∈c,x.key=d/\a<x.at_
def KI.low(a:KI A L aB v C dl)(d:∀k b,A k=J b->Q k=J b):KI Q L aB v C dl:=⟨d _ _ a.c,a.l.gM U⟩
def XZ(b:uU x.key):x.row[6]? =J (I x.at_):=by obtain⟨e,t,n,a,c,d,_⟩:=qb b;simp[KE.row,c]
def IA:av->List aA|.seq (.seq (.dg _ _ aP) _) _=>aP|_=>[]
def aha{d:St->Prop}(e:w.T 0=.ptr L aB 4 0 0)(f:w.T 3=.ptr bC bA 7 0 0)(g:w.T 5=.p (I (-1)))(h:w.O L=J (.row 4 aB [[.p (I v.size),.p (I v.heard),.p (I v.floor),dl]]))(i:w.O bC=J (.row 7 bA [x.row.map .p]))(l:uU x.key)(a:∀c,(∀k,k<6->c k=w.T k)->c 35=.p (B (decide (x.at_<v.floor)))->d {w with T:=c}):eN cU (IA pU) w d:=by have j:=XZ l;by_cases b:x.at_<v.floor;rw[qu b]at a;simp(disch:=omega)[-bW,↓fi,IA,pU,e,f,g,h,i,ba,j,binOp,aC,b];exact a _ cj Y;rw[mz b]at a;simp(disch:=omega)[-az,-cV,-bW,↓cQ,↓fi,IA,pU,e,f,g,h,i,ba,j,binOp,aC,b];exact a _ cj Y
theorem ahF{a e:Nat}{f:St->Prop}(h:w.T 0=.ptr L aB 4 0 0)(i:w.T 3=.ptr bC bA 7 0 0)(j:w.T 5=.p (I a))(l:w.O L=J (.row 4 aB [[.p (I v.size),.p (I v.heard),.p (I v.floor),.sl id g 0 e 7 Z]]))(m:w.O bC=J (.row 7 bA [x.row.map .p]))(o:uU x.key)(p:uU E.key)(q:w.O id=J (.row 7 g aS))(r:a<e)(s:aS[a]? =J (E.row.map .p))(b:∀d,(∀k,k<6->d k=w.T k)->d 35=.p (B (decide (x.at_<v.floor)||decide (x.at_<E.at_)))->f {w with T:=d}):eN cU (IA pU) w f:=by have n:=XZ o;have t:=XZ p;have u:∀y,aS[a]'y=E.row.map .p:=ak;by_cases c:x.at_<v.floor;rw[qu c,Bool.true_or]at b;simp(disch:=omega)[-bW,↓fi,IA,pU,h,i,j,l,m,ba,n,binOp,aC,c];exact b _ cj Y;rw[mz c,Bool.false_or]at b;simp(disch:=omega)[-az,-cV,-bW,↓cQ,↓fi,IA,pU,h,i,j,l,m,ba,n,t,q,r,s,u,binOp,aC,c];exact b _ cj Y
def By:av->av|.seq _ r=>r|c=>c
theorem ah9(g:w.T 0=.ptr L aB 4 0 0)(h:w.T 3=.ptr bC bA 7 0 0)(i:w.T 5=.p (I (-1)))(d:KI w.O L aB v C dl)(e:w.O bC=J (.row 7 bA [x.row.map .p]))(f:mT x)(N:Fr w.O w.nx)(j:C.length<=100000)(k:0<=v.size)(l:x.at_<v.floor->∀a,a.T 4=.p (B Z)->a.O=w.O->w.nx<=a.nx->be .ret a)(m:¬x.at_<v.floor->∀a n,a.T 4=.p (B aa)->KI a.O L aB v (wt v.size (C++[x])) n->KF w.O a.O L->Fr a.O a.nx->w.nx<=a.nx->be .ret a):
 bx (X af) pU w be:=by rw[show pU=.seq (z 24 (IA pU) (.cond (.t 35) (z 1 [q 4 (gR Z)] .ret) .skip)) (By pU) from rfl,bF,bF,dD];intro O;refine aha g h i d.c e f.key λb t o=>?_;have p:b 0=.ptr L aB 4 0 0:=U;have r:b 3=.ptr bC bA 7 0 0:=U;have s:b 5=.p (I (-1)):=U;rw[kA,iF];show sC (b 35) _ _;rw[o];by_cases c:x.at_<v.floor;rw[qu c,jU];rw[bF,dD];intro u;simp only;exact l c _ Y rfl aw;rw[mz c,iV,mD];show bx _ (By pU) _ _;simp[By,pU,s,binOp,aC];intro u;refine ak1 (by simp[p]) (by simp[r]) d e f bK j λs2 P y A D E Q=>?_;refine agf y A E U k λs3 F G H K M R=>?_;exact m c s3 F G H (D.trans K) M ak
theorem aje{b:Nat}(G:w.T 0=.ptr L aB 4 0 0)(H:w.T 3=.ptr bC bA 7 0 0)(K:w.T 5=.p (I b))(c:KI w.O L aB v C dl)(n:w.O bC=J (.row 7 bA [x.row.map .p]))(M:∀id g N O,dl=.sl id g 0 N 7 O->bC≠id)(o:mT x)(P:mT E)(Q:C[b]? =J E)(R:Fr w.O w.nx)(hl:C.length<=100000)(f:0<=v.size)(S:x.at_<v.floor\/x.at_<E.at_->∀a,a.T 4=.p (B Z)->a.O=w.O->w.nx<=a.nx->be .ret a)(T:¬(x.at_<v.floor\/x.at_<E.at_)->∀a V,a.T 4=.p (B aa)->KI a.O L aB v (wt v.size (C.eraseIdx b++[x])) V->KF w.O a.O L->Fr a.O a.nx->w.nx<=a.nx->be .ret a):
 bx (X af) pU w be:=by
 rw[show pU=.seq (z 24 (IA pU) (.cond (.t 35) (z 1 [q 4 (gR Z)] .ret) .skip)) (By pU) from rfl,bF,bF,dD];intro g0;have h:b<C.length:=ak;have W:(aW (C.map KE.row))[b]? =J (E.row.map .p):=by simp[Q]
 obtain⟨id,g,e,j⟩:∃id g,dl=.sl id g 0 C.length 7 Z/\w.O id=J (.row 7 g (aW (C.map KE.row))):=by rcases c.l with⟨e,_⟩|⟨id,g,_,e,aE⟩;grind;grind
 have l:=c.c;rw[e]at l;refine ahF G H K l n o.key P.key j h W λd t ab=>?_;have p:d 0=.ptr L aB 4 0 0:=U;have t3:d 3=.ptr bC bA 7 0 0:=U;have t5:d 5=.p (I b):=U;have aI:(0:Int)<=b:=y;have ac:=lW (i:=b) y;rw[kA,iF];show sC (d 35) _ _;rw[ab];by_cases r:x.at_<v.floor\/x.at_<E.at_;rw[show(decide (x.at_<v.floor)||decide (x.at_<E.at_))=aa from U,jU];rw[bF,dD];intro g1;simp only[mZ,zA,dR,Wc];exact S r _ Y rfl aw;rw[show(decide (x.at_<v.floor)||decide (x.at_<E.at_))=Z by grind,iV,mD];show bx _ (By pU) _ _;simp[By,pU,p,t5,binOp,aC,l,ba,ac];intro g1;rw[<-e];refine UM c.l h y λs u aO aP A m ad _=>?_;have c2:u L=_:=(m L (yi c.l c.c (λg rs e=>by cases e))).trans c.c;have ag:u bC=_:=(m bC M).trans n;have al:=A.cell;have an:L<s:=by have:=R.lt c.c;omega
 have ao:bC≠L:=ak;have ax:(C.eraseIdx b).length<=100000:=by rw[Bj h];omega
 simp[afd,c2,ba,al,bI];refine ak1 (by simp[p]) (by simp[t3]) ⟨bi,A.gM λid g e _ j=>(ai ak).trans j⟩ ((ai ao).trans ag) o (ad.am an) ax λs2 aR u0 u1 u2 u3 D=>?_;refine agf u0 u1 u3 (by rw[fj];show _+1<=_;omega) f λs3 ay w1 w2 w3 w4 w5=>?_;exact T r s3 ay w1 w2 (KF.trans (λk aS k1 F f=>(ai k1).trans ((m k (yi c.l F f)).trans F)) (u2.trans w3)) w4 (by have D:s<=s2.nx:=D;omega)
theorem Kf(F:KI A L aB v C dl)(G:∀E∈C,mT E)(hn:(C.map (·.key)).Nodup)(m:mT x)(O:C.length<=100000)(P:0<=v.size)(R:Cr v C x.key x.at_->∀H Q,KI Q L aB v C dl->KF A Q L->u<=H->Fr Q H->ag (.p (B Z)) Q H)(S:¬Cr v C x.key x.at_->∀H Q n,KI Q L aB v (wt v.size (qQ x.key C++[x])) n->KF A Q L->u<=H->Fr Q H->ag (.p (B aa)) Q H):
 X af 35 [.ptr L aB 4 0 0,.p (.agg x.row)] A u ag:=by
 refine X.of Y ao0 (by simp[D35]) λK=>?_;have T:=F.c;have nc:=K.lt T;have lx:=KE.len m.key;have dx:D.cells (.p (.agg x.row))=x.row.map .p:=by simp[D.cells,dw]
 have ab:L≠u:=y;simp[D35,cN,dx,lx,T,ab,ba];intro o g1;have M:∀k b,A k=J b->am A u (J (.row 7 (o u) [x.row.map .p])) k=J b:=λk b h=>(ai (by have:=K.lt h;omega)).trans h;have q:am A u (J (.row 7 (o u) [x.row.map .p])) u=J (.row 7 (o u) [x.row.map .p]):=Y;have V:Fr (am A u (J (.row 7 (o u) [x.row.map .p]))) (u+1):=bK;revert M q V;generalize am A u (J (.row 7 (o u) [x.row.map .p]))=O1;intro M q V;have j:KI O1 L aB v C dl:=F.low M;have c1:=j.c;refine TX (p:=pE x.key) j.l U (λr c=>?_) (λr c H K' ao ac=>?_) λz ax=>?_;obtain⟨E,s,rfl⟩:=bN.1 c;exact KE.len (G E s).key;obtain⟨E,s,rfl⟩:=bN.1 c;exact ahT U m q λay aE=>by rw[<-SS (G E s).key];exact ac _ y
 rw[abn λE s=>(G E s).key];have ad:=XZ m.key;have aI:(x.row.map D.p)[6]? =J (.p (I x.at_)):=by simp[ad]
 rcases aey hn with⟨N,al⟩|⟨i,E,N,hi,aO,aP,aR⟩;rw[N];have an:Cr v C x.key x.at_↔x.at_<v.floor:=⟨λW=>W.elim id ak,aj⟩;simp[Y6];refine ah9 Y Y Y j q m bK O P (λc d f l a=>⟨Y,?_⟩) λc d n f l a t w=>⟨Y,?_⟩;rw[f,l];have a:z<=d.nx:=a;exact .d8 bK y (R U _ _ j (λk b _ h _=>U) y bK);rw[f];have w:z<=d.nx:=w;exact .d8 t y (S U _ _ n (by rw[LM al];exact l) (KF.trans (λk b _ h _=>U) a) y t);rw[N];have aS:E∈C:=ak;have an:Cr v C x.key x.at_↔x.at_<v.floor\/x.at_<E.at_:=xC ak;simp[Y6];refine aje Y Y Y j q (λid g a0 a1 e W=>?_) m U hi bK O P (λc d f l a=>⟨Y,?_⟩) λc d n f l a t w=>⟨Y,?_⟩;have:=K.lt (F.l.low e).2;omega;rw[f,l];have a:z<=d.nx:=a;exact .d8 bK y (R U _ _ j (λk b _ h _=>U) y bK);rw[f];have w:z<=d.nx:=w;exact .d8 t y (S U _ _ n ak (KF.trans (λk b _ h _=>U) a) y t)
def ahW{b:Nat}(K:w.T 0=.ptr L aB 4 0 0)(h6:w.T 6=.p (I b))(h7:w.T 7=.ptr id7 g7 7 0 0)(c:KI w.O L aB v C dl)(l:w.O id7=J (.row 7 g7 [E.row.map .p]))(N:∀id g j h,dl=.sl id g 0 j 7 h->id7≠id)(hy:mT E)(hi:C[b]? =J E)(s:Fr w.O w.nx)(hl:C.length<=100000)(hQ:∀d P,(∀k,k<24->d.T k=w.T k)->KI d.O L aB v (C.eraseIdx b++[E]) P->(∀k m,k≠L->w.O k=J m->(∀id g j h,dl=.sl id g 0 j 7 h->k≠id)->d.O k=J m)->Fr d.O d.nx->w.nx<=d.nx->(∀id g j h,P=.sl id g 0 j 7 h->w.nx<=id\/∃Q R,dl=.sl id Q 0 R 7 h)->be .normal d):
 bx (X af) (.dg 15 aa (aZ 24 (xM 0)::aZ 33 (uS 7 7)::aZ 34 (.bQ 10 7 1 [aF,aH,aH,aF,aD,aD,aH] [(0,.t 33)])::
  ([G 25 0,d5 26 25,oF 27 26 3,q 28 (jP 1 27),G 29 6,G 30 6,q 31 (di .add 30 1)]++
  (q 32 (sV 82 28 29 31))::N3))) w be:=by
 have S:b<C.length:=(bq.1 hi).1;have t:=c.c;have nc:=s.lt t;have n7:=s.lt l;have U:L≠id7:=λa=>by rw[<-a,t]at l;cases l
 have ly:=KE.len hy.key;have ty:E.row.take 7=E.row:=cp y;have py:cF (E.row.map D.p)=.p (.agg E.row):=jL;have dy:D.cells (.p (.agg E.row))=E.row.map .p:=by simp[D.cells,dw]
 have ao:dp [E.row.map D.p]=J [E.row]:=by simp[dp,nV]
 have ax:=lW (i:=b) y;intro f;refine⟨[id7],?_⟩;generalize ay:([G 25 0,d5 26 25,oF 27 26 3,q 28 (jP 1 27),G 29 6,G 30 6,q 31 (di .add 30 1)]++
  (q 32 (sV 82 28 29 31))::N3:List aA)=rest
 simp[K,h7,UP,l,ba,ly,<-cD,ty,py,fP,dy,ao];refine .l ?_;subst ay;rw[pY _ eB,iX];have u:∀k,k≠id7->aX [id7] w.O k=w.O k:=λk a=>by simp[aX,a]
 have x:aX [id7] w.O L=_:=(u L U).trans t;have V:de (aX [id7] w.O) 0 7 (aW (C.map KE.row)) dl:=c.l.gM λid g e _ ho=>(u id (λa=>N id g _ _ e a.symm)).trans ho;refine akz (dl:=dl) (r:=E.row) (s1:={T:=eF (eF (eF (eF (eF (eF (eF (eF (eF (eF w.T 24 (.ptr L aB 4 0 0)) 33 (.p (.agg E.row))) 34 (.p (.im [E.row] 7 aa))) 25 (.ptr L aB 4 0 0)) 26 (.ptr L aB 4 0 0)) 27 (.ptr L aB 4 0 3)) 28 dl) 29 (.p (I b))) 30 (.p (I b))) 31 (.p (I ((b+1:Nat):Int))),O:=aX [id7] w.O,nx:=w.nx+15,bs:=w.nx,gm:=f}) ?_ ?_;intro ag hK;simp[K,h6,x,nc,ba,binOp,aC,ax];exact hK;rw[eM,RF];simp only[bG,eC,iF,bP];simp only[Nat.reduceEqDiff,dC,aT];refine UM V S y λn o W aP Y z ab ac=>?_;rw[show N3=[q 35 (jE 11 7 104 32 34),d5 36 24,oF 37 36 3,oN (xS 1 37 35)] from rfl,eM];have aR:(C.eraseIdx b).length<=100000:=by rw[Bj S];omega
 have c2:o L=_:=(z L (yi V x (λg rs e=>by cases e))).trans x;have ad:o id7=ae:=(z id7 N).trans (by simp[aX]);have aE:(aW ((C.eraseIdx b).map KE.row)).length=(C.eraseIdx b).length:=by rw[yj,d7]
 have A:aW ((C.eraseIdx b).map KE.row)++[E.row.map D.p]=aW ((C.eraseIdx b++[E]).map KE.row):=by simp[aW]
 generalize aW ((C.eraseIdx b).map KE.row)=aS at Y aE A;refine MN (ys:=[E.row.map .p]) (by simpa using Y) (by simp[fO,fF]) (by show(_+1)*104<=_;omega) (by show _+1<=_;omega) (rD _) λid g _ B=>?_;have aI:id≠L/\id≠id7/\id<n:=by rcases B with⟨e,_⟩|⟨f,_,a⟩;have e:id=w.nx+11:=e;exact⟨y,y,y⟩;have a:o id=J (.row 7 f aS):=a;exact⟨λe=>(by rw[e,c2]at a;cases a),λe=>(by rw[e,ad]at a;cases a),ab.lt a⟩
 obtain⟨al,an,a0⟩:=aI;have a1:L<n:=y;simp[c2,ai (dB al),bI,Ku];have p:∀M:ah,∀k,k≠id7->bp M (only [id7] w.O) k=M k:=λM k a=>by simp only[bp,only,List.contains_cons,List.contains_nil,Bool.or_false];cases M k with|none=>simp[a]|some m=>rfl
 have aO:(aW ((C.eraseIdx b++[E]).map KE.row)).length=aS.length+1:=by rw[<-A];simp
 refine hQ _ (.sl id g 0 (aS.length+1) 7 Z) (λk c=>j5) ⟨(p _ L U).trans bi,.inr ⟨id,g,rD _,by rw[aO],?_⟩⟩ (λk m k1 F hs=>?_) (λk c=>?_) (by show w.nx<=n;omega) (λa2 g' a3 f' e'=>?_);rw[<-A];exact(p _ id an).trans ((ai al).trans bi);by_cases H:k=id7;subst H;have hM:am (am o id (J (.row 7 g (aS++[E.row.map .p])))) L (J (.row 4 aB [[.p (I v.size),.p (I v.heard),.p (I v.floor),.sl id g 0 (aS.length+1) 7 Z]])) k=ae:=(ai k1).trans ((ai (dB an)).trans ad);show bp _ _ k=_;simp only[bp];rw[hM];simpa[only]using F;refine(p _ k H).trans ((ai k1).trans ((ai λe=>?_).trans ((z k hs).trans ((u k H).trans F))));have a4:=s.lt F;rcases B with⟨a,_⟩|⟨f,a,_⟩
 have a:id=w.nx+11:=a;omega;have a:W=.sl id f 0 aS.length 7 Z:=by simpa using a
 obtain⟨Q,R,e2⟩:=ac _ _ _ _ a;exact hs _ _ _ _ e2 e;have c:n<=k:=c;refine(p _ k y).trans ((ai y).trans ((ai y).trans (ab k c)));cases e';rcases B with⟨a,_⟩|⟨f,a,_⟩
 have a:id=w.nx+11:=a;exact .inl y;have a:W=.sl id f 0 aS.length 7 Z:=by simpa using a
 exact .inr (ac _ _ _ _ a)
def aek:av->av|.seq _ (.seq _ t)=>t|c=>c
abbrev zE:List P:=[S ⟨#[]⟩,I 0,I 0,S ⟨#[]⟩,.v (.slice ae 0 0),.v (.slice ae 0 0),I 0]
def Kn(w:KI A L aB v C dl)(F:∀E∈C,mT E)(hn:(C.map (·.key)).Nodup)(hx:mT x)(hl:C.length<=100000)(h1:(∀E∈C,E.key≠x.key)->∀H Q,KI Q L aB v C dl->KF A Q L->u<=H->Fr Q H->ag (.eQ [.p (.agg zE),.p (B Z)]) Q H)(h2:∀E∈C,E.key=x.key->∀H Q P,KI Q L aB v (qQ x.key C++[E]) P->KF A Q L->u<=H->Fr Q H->ag (.eQ [.p (.agg E.row),.p (B aa)]) Q H):
 X af 37 [.ptr L aB 4 0 0,.p (.agg x.row)] A u ag:=by
 refine X.of Tryz.func37 aot (by simp[D37]) λj=>?_;have al:=w.c;have nc:=j.lt al;have lx:=KE.len hx.key;have dx:D.cells (.p (.agg x.row))=x.row.map .p:=by simp[D.cells,dw]
 have aE:L≠u:=y;have an:L≠u+1:=y;simp[D37,cN,dx,lx,al,aE,an];intro c g1;have K:∀k b,A k=J b->(am (am A u (J (.row 7 (c u) [x.row.map .p]))) (u+1) (J (.row 7 (c (u+1)) [[.p aF,.p (I 0),.p (I 0),.p aF,.p aD,.p aD,.p (I 0)]]))) k=J b:=λk b d=>(ai (by have:=j.lt d;omega)).trans ((ai (by have:=j.lt d;omega)).trans d);have W:(am (am A u (J (.row 7 (c u) [x.row.map .p]))) (u+1) (J (.row 7 (c (u+1)) [[.p aF,.p (I 0),.p (I 0),.p aF,.p aD,.p aD,.p (I 0)]]))) u=J (.row 7 (c u) [x.row.map .p]):=(ai y).trans bi;have M:(am (am A u (J (.row 7 (c u) [x.row.map .p]))) (u+1) (J (.row 7 (c (u+1)) [[.p aF,.p (I 0),.p (I 0),.p aF,.p aD,.p aD,.p (I 0)]]))) (u+1)=J (.row 7 (c (u+1)) [[.p aF,.p (I 0),.p (I 0),.p aF,.p aD,.p aD,.p (I 0)]]):=bi;have s:Fr ((am (am A u (J (.row 7 (c u) [x.row.map .p]))) (u+1) (J (.row 7 (c (u+1)) [[.p aF,.p (I 0),.p (I 0),.p aF,.p aD,.p aD,.p (I 0)]])))) (u+2):=((j.mono (by omega:u<=u+2)).am y).am y;revert K W M s;generalize (am (am A u (J (.row 7 (c u) [x.row.map .p]))) (u+1) (J (.row 7 (c (u+1)) [[.p aF,.p (I 0),.p (I 0),.p aF,.p aD,.p aD,.p (I 0)]])))=l;intro K W M s;have N:KI l L aB v C dl:=w.low K;have c1:=N.c;refine TX (p:=pE x.key) N.l (by rw[d7];exact hl) (λr hr=>?_) (λr hr H K' a7 aI=>?_) λa a8=>?_;obtain⟨E,t,rfl⟩:=bN.1 hr;exact KE.len (F E t).key;obtain⟨E,t,rfl⟩:=bN.1 hr;exact agw (F E t) hx W λa9 aO=>by rw[<-SS (F E t).key];exact aI _ aO
 rw[abn λE t=>(F E t).key];have hT:aek Mt=.seq (.dg 15 aa (aZ 24 (xM 0)::aZ 33 (uS 7 7)::aZ 34 (.bQ 10 7 1 [aF,aH,aH,aF,aD,aD,aH] [(0,.t 33)])::
  ([G 25 0,d5 26 25,oF 27 26 3,q 28 (jP 1 27),G 29 6,G 30 6,q 31 (di .add 30 1)]++
  (q 32 (sV 82 28 29 31))::N3))) YM:=rfl
 rw[show Mt=.seq (z 2 [G 14 6,q 15 (di .lss 14 0)] (.cond (.t 15) (z 3 [q 16 (.build [aF,aH,aH,aF,aD,aD,aH] []),oN (xS 7 4 16),q 5 (gR Z)] (.ret)) (.skip))) (z 9 [G 17 0,d5 18 17,oF 19 18 3,oL 20 1 19,G 21 6,q 22 (xI 7 20 21),cA 23 7 22,q 7 (.alloc 7 7 [aF,aH,aH,aF,aD,aD,aH]),oN (xS 7 7 23)] (aek Mt)) from rfl];generalize aek Mt=tl at hT⊢;have pz:cF [.p aF,.p (I 0),.p (I 0),.p aF,.p aD,.p aD,.p (I 0)]=.p (.agg zE):=rfl;have cz:D.cells (.p (.agg zE))=[.p aF,.p (I 0),.p (I 0),.p aF,.p aD,.p aD,.p (I 0)]:=rfl;rcases aey hn with⟨ab,aP⟩|⟨i,E,ab,R,aR,bb,a0⟩
 rw[ab];simp[YQ,binOp,aC];intro m;simp[fh,pz,cz,M,bI,ba];rw[yd M];exact .d8 (s.mono y) y (h1 aP _ _ N (λk b _ d _=>K k b d) y (s.mono y));rw[ab];have ao:E∈C:=iS R;have ax:i<C.length:=(bq.1 R).1;have ay:=F E ao;have ly:=KE.len ay.key;have ty:E.row.take 7=E.row:=cp y;have py:cF (E.row.map D.p)=.p (.agg E.row):=jL;have dy:D.cells (.p (.agg E.row))=E.row.map .p:=by simp[D.cells,dw]
 have S:(aW (C.map KE.row))[i]? =J (E.row.map .p):=by simp[aW,R]
 obtain⟨id,g,e,ho⟩:∃id g,dl=.sl id g 0 C.length 7 Z/\l id=J (.row 7 g (aW (C.map KE.row))):=by
  rcases N.l with⟨e,_⟩|⟨id,g,_,e,n⟩;have:C=[]:=by simpa[aW]using e
  subst this;simp at ax;exact⟨id,g,by rw[e,yj,d7],n⟩
 have bd:=j.lt (w.l.low e).2;rw[e]at c1;generalize aW (C.map KE.row)=aS at S ho;have a1:∀n,aS[i]'n=E.row.map .p:=λn=>by rw[bh n]at S;exact kN S
 have a2:¬((i:Int)<0):=y;simp[YQ,binOp,aC,a2,c1,ba,ax,ho,S,a1,ly,<-cD,ty,py,dy,bI];intro m;have O:∀k b,l k=J b->(am l (a+2+7) (J (.row 7 (m (a+2+7)) [E.row.map .p]))) k=J b:=λk b d=>(ai (by have:=s.lt d;omega)).trans d;have T:(am l (a+2+7) (J (.row 7 (m (a+2+7)) [E.row.map .p]))) (a+2+7)=J (.row 7 (m (a+2+7)) [E.row.map .p]):=bi;have ac:Fr ((am l (a+2+7) (J (.row 7 (m (a+2+7)) [E.row.map .p])))) (a+2+9):=(s.mono y).am y;revert O T ac;generalize (am l (a+2+7) (J (.row 7 (m (a+2+7)) [E.row.map .p])))=O2;intro O T ac;have U:∀id g f h,dl=.sl id g 0 f 7 h->id<u:=λid g f h e=>j.lt (w.l.low e).2;rw[hT,bF];refine ahW Y Y Y (N.low O) T (λid g f h e=>by have:=U id g f h e;omega) ay R ac hl λo P u0 u1 u2 u3 u4 u5=>?_;have u4:a+2+9<=o.nx:=u4;have t4:o.T 4=.ptr (u+1) (c (u+1)) 7 0 0:=(u0 4 y).trans Y;have t7:o.T 7=.ptr (a+2+7) (m (a+2+7)) 7 0 0:=(u0 7 y).trans Y;have o7:o.O (a+2+7)=_:=u2 _ _ y T λid g f h e=>by have:=U id g f h e;omega
 have oz:o.O (u+1)=_:=u2 _ _ y (O _ _ M) λid g f h e=>by have:=U id g f h e;omega
 have a3:∀ad:List D,ad.length=7->bI ad (E.row.map .p) 0=E.row.map .p:=λad hz=>by simp[bI,ly,rz,hz]
 simp[YM,t4,t7,o7,oz,ba,ly,<-cD,ty,py,dy,a3];have a4:KF A o.O L:=λk b k1 d hs=>u2 k b k1 (O k b (K k b d)) (yi w.l d hs);have a5:KI (am o.O (u+1) (J (.row 7 (c (u+1)) [E.row.map .p]))) L aB v (C.eraseIdx i++[E]) P:=by
  refine⟨(ai an).trans u1.c,u1.l.gM λbe g' e' _ a6=>(ai λn=>?_).trans a6⟩;rw[n]at e';rcases u5 _ _ _ _ e' with V|⟨g5,l5,V⟩
  have V:a+2+9<=u+1:=V;omega;have:=U _ _ _ _ V;omega
 refine .d8 ((u3.am y).mono y) y (h2 E ao aR _ _ P (by rw[<-a0];exact a5) (λk b k1 d hs=>(ai (by have:=j.lt d;omega)).trans (a4 k b k1 d hs)) y ((u3.am y).mono y))
def agn:List aA:=[d5 11 4,oF 12 11 3,oN (xS 1 12 10)]
def D77:d6:=⟨13,[],z 1 [q 3 (iU 0 3 1)] (rF 10 (G 4 0::G 5 0::d5 6 5::oF 7 6 3::oL 8 1 7::q 9 (wW 146 [.t 3])::q 10 (dV 145 8 9)::agn))⟩
def aoT:cW af Tryz.f77=J D77:=h
def R6:List aA:=[G 4 9]
def ZI:List aA:=[G 4 16]
def MW:av:=z 9 [G 17 4,G 18 17,oT 19 18 (xF 2 6),oT 20 18 (xL 1 19),oT 21 18 (xF 1 0),oT 22 18 (xL 1 21),oT 23 18 (xB .lss 20 22),q 24 (jw 18 23),G 3 24] (.ret)
def Ub:av:=
 .seq (z 3 [oF 10 2 3,oL 11 1 10,q 12 (.lS .neq 0 (.t 11) (.c aF))] (.cond (.t 12) (rF 5 (cA 13 3 1::oF 14 2 5::oL 15 1 14::q 16 (dV 147 13 15)::ZI)) (.skip)))
  MW
def ade:d6:=⟨25,[.t 3],z 2 [q 2 (iU 0 7 0),q 3 (gR Z)] (z 6 (oF 5 1 1::oL 6 1 5::oF 7 2 0::cA 8 3 7::q 9 (dV 141 6 8)::R6)
 Ub)⟩
def aju:cW af Tryz.f146=J ade:=h
def RI:List aA:=[G 5 10]
def Is:List aA:=[q 29 (AM 28)]
def Ib:av:=.cond (.t 29) (z 5 [G 30 0,G 31 5,cA 32 7 7,q 33 (xI 7 30 31),oN (xS 7 33 32)] (rF 3 [G 34 5,q 35 (di .add 34 1),G 5 35])) (.skip)
def Tj:av:=rF 3 [G 20 6,q 21 (di .add 20 1),G 6 21]
def EE:av:=
 .seq (z 4 [G 16 6,G 17 0,q 18 (fQ 17),q 19 (xB .lss 16 18)] (cX 19 0)) (.seq (.block 1 (z 6 [G 22 0,G 23 6,q 24 (xI 7 22 23),cA 25 7 24,q 7 (.alloc 4 7 [aF,aH,aH,aF,aD,aD,aH]),oN (xS 7 7 25)] (z 4 (G 26 1::cA 27 7 7::q 28 (.iI (.t 26) [.t 27])::Is)
  Ib)))
  Tj)
def Sc:av:=z 4 [G 36 0,G 37 5,q 38 (.tZ 7 (.t 36) (J (.t 37)) ae ae),oN (.GF 7 [aF,aH,aH,aF,aD,aD,aH] (.t 38))] (z 4 [G 39 0,G 40 5,q 41 (.tZ 7 (.t 39) ae (J (.t 40)) ae),G 4 41] (.ret))
def Sr:av:=
 .seq (z 2 [G 11 5,q 12 (di .eql 11 (-1))] (.cond (.t 12) (z 2 [G 13 0,G 4 13] (.ret)) (.skip))) (.seq (z 3 [G 14 5,q 15 (di .add 14 1),G 6 15] (.block 0 (.loop EE)))
  Sc)
def adA:d6:=⟨42,[.t 4],z 1 [q 4 (.mv (.c aD))] (z 4 (G 8 0::G 9 1::q 10 (dV 79 8 9)::RI)
 Sr)⟩
def ajm:cW af Tryz.f145=J adA:=h
def XA:av:=z 6 [G 16 0,oF 17 3 0,oL 18 1 17,d5 19 16,oF 20 19 1,oN (xS 1 20 18)] (z 11 [G 21 0,G 22 0,d5 23 22,oF 24 23 2,oL 25 1 24,oF 26 3 0,oL 27 1 26,q 28 (.pf .mx [.t 25,.t 27]),d5 29 21,oF 30 29 2,oN (xS 1 30 28)] (z 1 [fR 4 0] (.ret)))
def D31:d6:=⟨31,[.t 4],z 2 [q 3 (iU 0 3 1),fR 4 0] (.seq (z 8 [oF 5 3 0,oL 6 1 5,G 7 0,d5 8 7,oF 9 8 1,oL 10 1 9,q 11 (di .add 10 1),q 12 (xB .neq 6 11)] (.cond (.t 12) (z 1 [fR 4 7] (.ret)) (.skip))) (z 3 [G 13 0,cA 14 3 3,q 15 (dV 77 13 14)]
 XA))⟩
def apy:cW af Tryz.f31=J D31:=h
def W6:av:=rF 11 [G 14 0,G 15 0,d5 16 15,oF 17 16 2,oL 18 1 17,oF 19 3 0,oL 20 1 19,q 21 (.pf .mx [.t 18,.t 20]),d5 22 14,oF 23 22 2,oN (xS 1 23 21)]
def D33:d6:=⟨24,[],z 1 [q 3 (iU 0 3 1)] (.seq (z 7 [oF 4 3 0,oL 5 1 4,G 6 0,d5 7 6,oF 8 7 1,oL 9 1 8,q 10 (xB .gtr 5 9)] (.cond (.t 10) (rF 3 [G 11 0,cA 12 3 3,q 13 (dV 77 11 12)]) (.skip)))
 W6)⟩
def aoY:cW af Tryz.f33=J D33:=h
def oV(num:Int)(b c:List (List P))(a:KE):Bool:=(if DN a.key then pX c a.np else b.any (wq (YH a.key)))&&decide (a.at_<num)
def aaQ{i2 g2:Nat}{num:Int}{b:Bool}{e f h i j k l m:D}(n:w.T 1=.ptr id g 3 0 0)(o:w.T 2=.ptr i2 g2 7 0 0)(c:w.T 4=.p (B b))(p:w.O id=J (.row 3 g [[.p (I num),l,m]]))(q:w.O i2=J (.row 7 g2 [[e,f,h,i,j,k,.p (I at_)]]))(d:∀a,a.T 3=.p (B (b&&decide (at_<num)))->a.O=w.O->w.nx<=a.nx->be .ret a):bx (X af) MW w be:=by cases b;simp(disch:=omega)[MW,c];intro r;exact d _ Y rfl aw;simp(disch:=omega)[-az,-cV,-bW,↓cQ,↓fi,MW,n,o,c,p,q,ba,binOp,aC];intro r;exact d _ Y rfl aw
theorem aa0(h:mT x){num:Int}(z:rQ r num bH bM)(j:A id=J (.row 3 g [r.map .p]))(C:∀H,u<=H->ag (.p (B (oV num bH bM x))) A H):X af 146 [.p (.agg x.row),.ptr id g 3 0 0] A u ag:=by
 refine X.of Y aju (by simp[ade]) λo=>?_;obtain⟨⟨E,F,rfl,G,K⟩,L,M,lr,lt⟩:=z;have n1:=o.lt j;have N:id≠u:=y;obtain⟨e,t,n,a,O,P,Q⟩:=qb h.key;have R:D.cells (.p (.agg x.row))=[.p (S e),.p (I t),.p (I n),.p (S a),.p x.list,.p x.tags,.p (I x.at_)]:=by simp[D.cells,dw,KE.row,O,P]
 have T:∀e t n,cF [.p (S e),.p (I t),.p (I n)]=.p (.agg [S e,I t,I n]):=U;have V:∀a i p,cF [.p a,.p i,.p p]=.p (.agg [a,i,p]):=U;simp at j;simp[ade,cN,R,ba,N,j,T];intro c g1;have f:(am A u (J (.row 7 (c u) [[.p (S e),.p (I t),.p (I n),.p (S a),.p x.list,.p x.tags,.p (I x.at_)]]))) id=J (.row 3 g [[.p (I num),.p E,.p F]]):=U;have d:(am A u (J (.row 7 (c u) [[.p (S e),.p (I t),.p (I n),.p (S a),.p x.list,.p x.tags,.p (I x.at_)]]))) u=J (.row 7 (c u) [[.p (S e),.p (I t),.p (I n),.p (S a),.p x.list,.p x.tags,.p (I x.at_)]]):=Y;have q:∀k,k<u->(am A u (J (.row 7 (c u) [[.p (S e),.p (I t),.p (I n),.p (S a),.p x.list,.p x.tags,.p (I x.at_)]]))) k=A k:=aj;revert f d q;generalize (am A u (J (.row 7 (c u) [[.p (S e),.p (I t),.p (I n),.p (S a),.p x.list,.p x.tags,.p (I x.at_)]])))=W;intro f d q;refine P5 G y L ⟨e,t,n,rfl⟩ λal an=>?_;have ao:∀v H,u<=H->oV num bH bM x=v->ji u ag W H (.p (B v)):=λv H s hv=>.low o s U (by rw[<-hv];exact C _ s);rcases Q with⟨l,m⟩|⟨l,m,_⟩
 have w:oV num bH bM x=(bH.any (wq [S e,I t,I n])&&decide (x.at_<num)):=by simp[oV,l,DN,YH]
 subst m;generalize hb:bH.any (wq [S e,I t,I n])=i at w⊢;simp[R6,Ub,d,ba,binOp,gD];intro ab;refine aaQ (b:=i) Y Y Y f d λs' w1 w2 w3=>⟨.inr rfl,?_⟩;grind;have w:oV num bH bM x=(pX bM x.np&&decide (x.at_<num)):=by simp[oV,l,DN]
 have ac:a.toList.isEmpty=Z:=by cases hl:a.toList with|nil=>exact absurd (IZ.1 U) m|cons _ _=>rfl
 have ad:a.toList≠[]:=ak;simp[R6,Ub,d,f,ba,binOp,gD,ac,ad,V];intro ab;refine U6 K h.tags M h.tt (by have:=h.tl;omega) λax ay=>?_;simp[ZI];refine aaQ (g:=g) (i2:=u) (g2:=c u) (num:=num) (at_:=x.at_) (b:=pX bM x.np) Y Y Y f d λs' w1 w2 w3=>⟨.inr rfl,?_⟩;grind
structure Uz(O:ah)(nx id g:Nat)(f:D)(rows:List (List P))(p:List P->Bool)(j:Nat)(s:St):Prop where
 t0:s.T 0=.sl id g 0 rows.length 7 Z
 t1:s.T 1=f
 t6:s.T 6=.p (I j)
 i:∃(i:Nat) (R:List (List D)),s.T 5=.p (I i)/\i+1<=j/\s.O id=J (.row 7 g R)/\R.length=rows.length/\R.take i=aW ((rows.take j).filter λr=> !p r)/\R.drop j=(aW rows).drop j/\∀r∈R,r.length=7
 low:∀k,k<nx->k≠id->s.O k=O k
 hn:nx<=s.nx
 fr:Fr s.O s.nx
theorem agK{F:cB}(hs:Uz A u id g (.fn (.func F) [] cs) V p K w)(a1:id<u)(t:K<V.length)(hl:V.length<=100001)(h7:∀r∈V,r.length=7)(ao:∀r∈V,∀Q H (v:D->ah->Nat->Prop),(∀k,k<u->k≠id->Q k=A k)->u<=H->Fr Q H->(∀x,H<=x->v (.p (B (p r))) Q x)->X af F (.p (.agg r)::cs) Q H v)(C:∀b,(∀s2:St,s2.T=eF (eF (eF b.T 20 (.p (I K))) 21 (.p (I ((K+1:Nat):Int)))) 6 (.p (I ((K+1:Nat):Int)))->s2.O=b.O->b.nx<=s2.nx->Uz A u id g (.fn (.func F) [] cs) V p (K+1) s2)->b.T 6=.p (I K)->be .normal b):
 bx (X af) (z 6 [G 22 0,G 23 6,q 24 (xI 7 22 23),cA 25 7 24,q 7 (.alloc 4 7 [aF,aH,aH,aF,aD,aD,aH]),oN (xS 7 7 25)] (z 4 (G 26 1::cA 27 7 7::q 28 (.iI (.t 26) [.t 27])::Is)
  Ib)) w be:=by
 obtain⟨E,t1,h,⟨i,aS,t5,a2,L,ax,a3,M,N⟩,a4,hn,hf⟩:=hs;have j:V[K]? =J V[K]:=Y;have O:=bJ t;have f:=h7 _ O;have R:aS[K]? =J (V[K].map .p):=by
  have l:(aS.drop K)[0]? =((aW V).drop K)[0]? :=by rw[M]
  simpa[aW,j]using l
 generalize V[K]=r at j O f R;have ay:∀aB,aS[K]'aB=r.map .p:=ak;have S:r.take 7=r:=ak;have T:cF (r.map D.p)=.p (.agg r):=Y;have ab:D.cells (.p (.agg r))=r.map .p:=by simp[D.cells,dw]
 have aE:K<aS.length:=y;have a5:id≠w.nx+4:=y;have ac:∀m:List D,m.length=7->bI m (r.map .p) 0=r.map .p:=λm hz=>by simp[bI,f,hz]
 simp[E,h,L,R,ay,t,aE,ba,f,<-cD,S,T,ab,ac,t1];intro c g1;have n:∀k,k<w.nx->am w.O (w.nx+4) (J (.row 7 (c (w.nx+4)) [r.map .p])) k=w.O k:=aj;have o:am w.O (w.nx+4) (J (.row 7 (c (w.nx+4)) [r.map .p])) (w.nx+4)=J (.row 7 (c (w.nx+4)) [r.map .p]):=Y;have ad:Fr (am w.O (w.nx+4) (J (.row 7 (c (w.nx+4)) [r.map .p]))) (w.nx+6):=bK;revert n o ad;generalize am w.O (w.nx+4) (J (.row 7 (c (w.nx+4)) [r.map .p]))=d;intro n o ad;refine ao r ar d _ _ ak y bK λal a6=>?_;have aI:d id=_:=(n id y).trans L;have aO:=lW (i:=i) y;have n1:∀ag:P->Prop,unOp .not (.p (B aa)) ag=ag (B Z):=aj;have n2:∀ag:P->Prop,unOp .not (.p (B Z)) ag=ag (B aa):=aj;have s:i<aS.length:=y;have a7:∀k,k<u->k≠id->d k=A k:=ak;have a8:V.take (K+1)=V.take K++[r]:=by rw[nf,j];rfl
 have aP:aS.drop (K+1)=(aW V).drop (K+1):=by have:=congrArg (List.drop 1) M;simpa[Cv]using this
 cases W:p r with
 |true=>simp[Is,Ib,n1];refine C _ (λs2 l a e=>?_) (by simp[h]);have e:al<=s2.nx:=e;have a:s2.O=d:=a;refine⟨U,U,U,⟨i,aS,U,y,U,ax,?_,ar,N⟩,U,y,by rw[a];exact bK⟩;exact U
 |false=>
  have an:=N aS[i] (bJ s);have aR:i<V.length:=y;have a0:=ac aS[i] an;simp[Is,Ib,n2,E,t5,o,aI,ba,f,<-cD,S,T,ab,s,binOp,aC,aO,aR,an,a0];intro bA;refine C _ (λs2 l a e=>?_) (by simp[h]);have e:al+5+3<=s2.nx:=e;have a:s2.O=am d id (J (.row 7 g (aS.set i (r.map .p)))):=a;refine⟨U,U,U,⟨i+1,aS.set i (r.map .p),U,y,U,U,?_,?_,λr' a9=>?_⟩,U,y,by rw[a];exact bK⟩;have e5:(aS.set i (r.map .p)).take (i+1)=aS.take i++[r.map .p]:=by rw[nf,List.take_set_of_le y];simp[s]
  exact U;rw[List.drop_set_of_lt y,aP];grind
theorem aky{c:D}(d:Uz A u id g c V p V.length w)(m:id<u)(n:V.length<=100001)(e:∀a i b,a.T 4=.sl id g 0 i 7 Z->a.O id=J (.row 7 g b)->i<=b.length->b.take i=aW (V.filter λr=> !p r)->(∀k,k<u->k≠id->a.O k=A k)->u<=a.nx->Fr a.O a.nx->be .ret a):
 bx (X af) Sc w be:=by obtain⟨f,o,q,⟨i,aS,h,s,j,l,t,v,x⟩,z,B,C⟩:=d;simp(disch:=omega)[Sc,f,h,j,jK,l];refine⟨y,λE=>⟨y,e _ i _ Y bi dK ?_ U aw bK⟩⟩;grind
theorem ahs{F:cB}{j0:Nat}{s0:St}(S:Uz A u id g (.fn (.func F) [] cs) V p j0 s0)(v:id<u)(W:j0<=V.length)(x:V.length<=100001)(C:∀r∈V,r.length=7)(E:∀r∈V,∀Q H (f:D->ah->Nat->Prop),(∀k,k<u->k≠id->Q k=A k)->u<=H->Fr Q H->(∀h,H<=h->f (.p (B (p r))) Q h)->X af F (.p (.agg r)::cs) Q H f)(I:∀a,Uz A u id g (.fn (.func F) [] cs) V p V.length a->be (.exit 0) a):
 bx (X af) (.loop EE) s0 be:=by
 refine⟨λk w=>∃K:Nat,k=V.length-K/\K<=V.length/\Uz A u id g (.fn (.func F) [] cs) V p K w,ak,?_⟩;rintro k w ⟨K,rfl,hj,b⟩;have j:=b.t0;have l:=b.t6;rw[show EE=.seq (z 4 [G 16 6,G 17 0,q 18 (fQ 17),q 19 (xB .lss 16 18)] (cX 19 0)) (By EE) from rfl];have m:By EE=.seq (.block 1 (z 6 [G 22 0,G 23 6,q 24 (xI 7 22 23),cA 25 7 24,q 7 (.alloc 4 7 [aF,aH,aH,aF,aD,aD,aH]),oN (xS 7 7 25)] (z 4 (G 26 1::cA 27 7 7::q 28 (.iI (.t 26) [.t 27])::Is)
  Ib))) Tj:=rfl
 generalize By EE=ab at m⊢;have n:∀c d o s,(∀k,k<16->c k=w.T k)->w.nx<=d->Uz A u id g (.fn (.func F) [] cs) V p K {T:=c,O:=w.O,nx:=d,bs:=o,gm:=s}:=λc d o s hT ac=>by obtain⟨a0,a1,a6,⟨i,aS,a5,L⟩,M,hn,hf⟩:=b;exact⟨U,U,U,⟨i,aS,U,L⟩,M,aw,bK⟩
 by_cases t:K<V.length;have ad:(K:Int)<V.length:=y;have N:=lW (i:=K) y;simp[j,l,binOp,aC,t];intro P;rw[m,bF,gQ];refine agK (n _ _ _ _ cj y) v t x C E λa ag R=>?_;simp only[Tj,dD,eM,j6,mZ,sI,iF,zA,dR,bP,binOp,aC,R,aT,N];intro g1;exact⟨Y,_,y,K+1,rfl,y,U⟩;have e:K=V.length:=y;subst e;simp[j,l,binOp,aC];intro P;exact I _ (n _ _ _ _ cj y)
theorem anX{F:cB}{f:KE->Bool}(W:∀x∈C,p x.row=f x)(ax:∀x∈C,uU x.key)(q:de A 0 7 (aW (C.map KE.row)) dl)(G:C.length<=100000)(s:∀x∈C,∀Q H (c:D->ah->Nat->Prop),(∀k,k<u->(∀id g h d,dl=.sl id g 0 h 7 d->k≠id)->Q k=A k)->u<=H->Fr Q H->(∀j,H<=j->c (.p (B (f x))) Q j)->X af F (.p (.agg x.row)::cs) Q H c)(m:∀H Q n,u<=H->de Q 0 7 (aW ((C.filter λx=> !f x).map KE.row)) n->(∀k,k<u->(∀id g h d,dl=.sl id g 0 h 7 d->k≠id)->Q k=A k)->Fr Q H->(∀id g h d,n=.sl id g 0 h 7 d->∃I L,dl=.sl id I 0 L 7 d)->ag n Q H):
 X af 145 [dl,.fn (.func F) [] cs] A u ag:=by
 refine X.Cm ?_;refine X.of Y ajm (by simp[adA]) λM=>?_;have N:(C.map KE.row).filter (λr=> !p r)=(C.filter λx=> !f x).map KE.row:=by rw[List.filter_map];congr 1;refine tW λx a=>?_;show(!p x.row)=_;rw[W x a]
 have t:∀r∈C.map KE.row,r.length=7:=λr b=>by obtain⟨x,a,rfl⟩:=bN.1 b;exact KE.len U
 simp[adA,cN];intro g0;refine TX (p:=p) q U t (λr b H c v o=>?_) λay aB=>?_;obtain⟨x,a,rfl⟩:=bN.1 b;exact s x a A H c U y bK λj O=>by rw[<-W x a];exact o _ y
 have P:zZ p (C.map KE.row)=(match(C.map KE.row).findIdx? p with|some i=>(i:Int)|none=> -1):=rfl
 rw[P];cases l:(C.map KE.row).findIdx? p with
 |none=>
  rw[ui]at l;have aE:(C.filter λx=> !f x)=C:=by rw[oG];intro x a;rw[<-W x a,l _ ak];rfl
  simp[RI,Sr,binOp,aC];refine .d8 bK y (.inl (m _ A dl y ak U bK U))
 |some i=>
  rw[ms]at l;obtain⟨R,aI,S⟩:=l;obtain⟨id,g,rfl,w⟩:∃id g,dl=.sl id g 0 (C.map KE.row).length 7 Z/\A id=J (.row 7 g (aW (C.map KE.row))):=by
   rcases q with⟨e,_⟩|⟨id,g,_,e,m⟩;have:C=[]:=by simpa[aW]using e
   grind;grind
  have z:=M.lt w;have aO:(C.map KE.row).length<=100000:=by rw[d7];exact G
  generalize T:C.map KE.row=V at*;have ab:=lW (i:=i) y;have ac:((i:Int)== -1)=Z:=Y;simp[RI,Sr,binOp,aC,ab,ac];intro g1;have ad:V.take (i+1)=V.take i++[V[i]]:=by rw[nf,bh R];rfl
  have al:(V.take i).filter (λr=> !p r)=V.take i:=by rw[oG];intro r b;obtain⟨K,hj,rfl⟩:=eD b;rw[ud]at hj;have:=S K y;rw[List.getElem_take];simpa using this
  refine ahs (F:=F) (cs:=cs) (p:=p) (j0:=i+1) ⟨Y,Y,Y,⟨i,aW V,Y,y,w,Y,?_,rfl,λr b=>?_⟩,λ_ _ _=>rfl,aw,bK⟩ z y y t (λr b Q H c aP v an o=>?_) λs' ao=>⟨rfl,aky ao z y λs2 i2 R3 w1 w2 w3 w4 w5 E w7=>⟨Y,?_⟩⟩;rw[ad,na,al];exact U;grind;rw[<-T]at b;obtain⟨x,a,rfl⟩:=bN.1 b;exact s x a Q H c aj v an λj O=>by rw[<-W x a];exact o _ y
  rw[w1];have aR:id<s2.nx:=y;refine .d8 w7 E (.inr ⟨id,7,g,i2,R3,w2,m _ _ _ E ?_ (λk k1 k2=>(ai aj).trans aj) bK λaS g' a0 f' e=>?_⟩);rw[<-N,<-w4];exact .inr ⟨id,g,y,ak,Y⟩;grind
open Classical in
noncomputable def pD(a:List KE)(b:KE->Bool)(c:List P):Bool:=decide (∃x∈a,x.row=c/\b x=aa)
def aic(b:mT x)(i:mT E)(c:x.row=E.row):x.key=E.key/\x.list=E.list/\x.tags=E.tags/\x.at_=E.at_:=by have j:=Wx b.key i.key c;obtain⟨e,t,n,a,d,f,_⟩:=qb b.key;have g:=d;have h:=f;rw[j]at g h;simp only[KE.row,d,f,g,h,kR,rA,kJ,P.v.injEq,xG,pL,pu]at c;exact U
def aj3{a:Nat}{b:P}{c d:List (List P)}(f:Sl a b c)(e:Sl a b d):c=d:=by
 cases f with
 |nil=>cases e with|nil=>rfl
 |im=>cases e with|im=>rfl
theorem als{num:Int}(a:∀x∈C,mT x)(b:x∈C):pD C (oV num bH bM) x.row=oV num bH bM x:=by rw[pG];simp[pD,dJ];refine⟨λ⟨E,c,e,d⟩=>?_,ak⟩;obtain⟨g,h,f,i⟩:=aic U U e;have j:=aj3 (a E c).tags (f▸(a x b).tags);unfold oV at d⊢;grind
theorem Pd{num:Int}(j:KI A L aB v C dl)(l:∀x∈C,mT x)(m:rQ r num bH bM)(E:C.length<=100000)(F:∀H Q G,KI Q L aB v (C.filter λx=> !oV num bH bM x) G->KF A Q L->u<=H->Fr Q H->ag (.eQ []) Q H):
 X af 77 [.ptr L aB 4 0 0,.p (.agg r)] A u ag:=by
 refine X.of Y aoT (by simp[D77]) λf=>?_;have n:=j.c;have nc:=f.lt n;have I:r.length=3:=by obtain⟨⟨qr,qt,rfl,_⟩,_⟩:=m;rfl
 have K:D.cells (.p (.agg r))=r.map .p:=by simp[D.cells,dw]
 have M:L≠u:=y;simp[D77,cN,K,I,n,M,ba];intro a g1;have h:∀k b,A k=J b->am A u (J (.row 3 (a u) [r.map .p])) k=J b:=λk b c=>(ai (by have:=f.lt c;omega)).trans c;have o:am A u (J (.row 3 (a u) [r.map .p])) u=J (.row 3 (a u) [r.map .p]):=Y;have q:Fr (am A u (J (.row 3 (a u) [r.map .p]))) (u+1):=bK;revert h o q;generalize am A u (J (.row 3 (a u) [r.map .p]))=O1;intro h o q;have d:=j.low h;have ab:∀id g s t,dl=.sl id g 0 s 7 t->id<u:=λid g s t e=>f.lt (j.l.low e).2;refine anX (p:=pD C (oV num bH bM)) (λx i=>als l i) (λx i=>(l x i).key) d.l E (λx i Q H K' ac ad al N=>?_) λO P R an w z ao ax=>?_;exact aa0 U m ak N;have S:P L=_:=(z L y (yi d.l d.c U)).trans d.c;have T:=w.cell;simp[agn,S,ba,T,bI];have ay:L<O:=y;refine .d8 bK y (F _ _ R ⟨Y,w.gM λid g e _ V=>(ai ak).trans V⟩ (λk b W c hs=>?_) y bK);have B:=h k b c;exact(ai W).trans ((z k (by have:=f.lt c;omega) (yi d.l B hs)).trans B)
abbrev CV.fl(a:CV)(num:Int):CV:={a with floor:=if num>a.floor then num else a.floor}
theorem WL{num:Int}(h:w.T 0=.ptr L aB 4 0 0)(i:w.T 3=.ptr bC bA 3 0 0)(b:KI w.O L aB v C dl)(j:w.O bC=J (.row 3 bA [[.p (I num),bZ,db]]))(l:Fr w.O w.nx)(m:∀a,KI a.O L aB (v.fl num) C dl->KF w.O a.O L->Fr a.O a.nx->w.nx<=a.nx->be .normal a):
 bx (X af) W6 w be:=by have c:=b.c;have q:=l.lt c;have d:vL .mx [.p (I v.floor),.p (I num)]=J (I (v.fl num).floor):=rfl;have n:∀f,D.cells (.p (I f))=[.p (I f)]:=aj;generalize o:(v.fl num).floor=r at d;simp[W6,h,i,c,j,ba,d,bI,n];intro s;refine m _ ⟨?_,b.l.gM λid g e _ p=>(ai ak).trans p⟩ (λk t u x y=>U) bK aw;rw[o];simp
def Zp{num:Int}(l:KI A L aB v C dl)(G:∀x∈C,mT x)(w:rQ r num bH bM)(K:C.length<=100000)(M:num<=v.heard->∀H Q,KI Q L aB (v.fl num) C dl->KF A Q L->u<=H->Fr Q H->ag (.eQ []) Q H)(N:v.heard<num->∀H Q O,KI Q L aB (v.fl num) (C.filter λx=> !oV num bH bM x) O->KF A Q L->u<=H->Fr Q H->ag (.eQ []) Q H):
 X af 33 [.ptr L aB 4 0 0,.p (.agg r)] A u ag:=by refine X.of Y aoY (by simp[D33]) λm=>?_;have n:=l.c;have nc:=m.lt n;have P:=w;obtain⟨⟨a,b,rfl,_⟩,_⟩:=P;have z:D.cells (.p (.agg [I num,a,b]))=[.p (I num),.p a,.p b]:=rfl;have B:cF [.p (I num),.p a,.p b]=.p (.agg [I num,a,b]):=rfl;have E:L≠u:=y;by_cases o:v.heard<num;simp[D33,cN,z,n,E,ba,binOp,aC,o,B];intro c R;have e:∀k d,A k=J d->(am A u (J (.row 3 (c u) [[.p (I num),.p a,.p b]]))) k=J d:=λk d f=>(ai (by have:=m.lt f;omega)).trans f;have g:(am A u (J (.row 3 (c u) [[.p (I num),.p a,.p b]]))) u=J (.row 3 (c u) [[.p (I num),.p a,.p b]]):=Y;have h:Fr (am A u (J (.row 3 (c u) [[.p (I num),.p a,.p b]]))) (u+1):=bK;revert e g h;generalize (am A u (J (.row 3 (c u) [[.p (I num),.p a,.p b]])))=S;intro e g h;have p:=l.low e;refine Pd p G w K λT O2 V W F n2 r2=>?_;have o2:=F u _ y g U;refine WL Y Y W o2 r2 λq s t i j=>⟨Y,?_⟩;have j:T<=q.nx:=j;exact .d8 i y (N o _ _ V s (KF.trans (λk d _ f _=>U) (F.trans t)) y i);simp[D33,cN,z,n,E,ba,binOp,aC,o,B];intro c R;have e:∀k d,A k=J d->(am A u (J (.row 3 (c u) [[.p (I num),.p a,.p b]]))) k=J d:=λk d f=>(ai (by have:=m.lt f;omega)).trans f;have g:(am A u (J (.row 3 (c u) [[.p (I num),.p a,.p b]]))) u=J (.row 3 (c u) [[.p (I num),.p a,.p b]]):=Y;have h:Fr (am A u (J (.row 3 (c u) [[.p (I num),.p a,.p b]]))) (u+1):=bK;revert e g h;generalize (am A u (J (.row 3 (c u) [[.p (I num),.p a,.p b]])))=S;intro e g h;have p:=l.low e;refine WL Y Y p g bK λq s t i j=>⟨Y,?_⟩;have j:u+1+7<=q.nx:=j;exact .d8 i y (M y _ _ s (KF.trans (λk d _ f _=>U) t) y i)
abbrev CV.he(a:CV)(num:Int):CV:={a with heard:=num,floor:=if num>a.floor then num else a.floor}
theorem ac1{num:Int}(h:w.T 0=.ptr L aB 4 0 0)(i:w.T 3=.ptr bC bA 3 0 0)(b:KI w.O L aB v C dl)(j:w.O bC=J (.row 3 bA [[.p (I num),bZ,db]]))(l:Fr w.O w.nx)(m:∀a,a.T 4=.p (I 0)->KI a.O L aB (v.he num) C dl->KF w.O a.O L->Fr a.O a.nx->w.nx<=a.nx->be .ret a):
 bx (X af) XA w be:=by have c:=b.c;have r:=l.lt c;have n:bC≠L:=ak;have d:vL .mx [.p (I v.floor),.p (I num)]=J (I (v.he num).floor):=rfl;have o:∀f,D.cells (.p (I f))=[.p (I f)]:=aj;generalize p:(v.he num).floor=s at d;simp[XA,h,i,c,j,ba,d,bI,o,n];intro t;refine m _ Y ⟨?_,b.l.gM λid g e _ q=>(ai ak).trans q⟩ (λk u x y z=>U) bK aw;rw[p];simp
def Wp{num:Int}(i:KI A L aB v C dl)(hh:0<=v.heard/\v.heard<=4611686018427387904)(F:∀x∈C,mT x)(p:rQ r num bH bM)(G:C.length<=100000)(K:num≠v.heard+1->∀H Q,KI Q L aB v C dl->KF A Q L->u<=H->Fr Q H->ag (.p (I 7)) Q H)(M:num=v.heard+1->∀H Q N,KI Q L aB (v.he num) (C.filter λx=> !oV num bH bM x) N->KF A Q L->u<=H->Fr Q H->ag (.p (I 0)) Q H):
 X af 31 [.ptr L aB 4 0 0,.p (.agg r)] A u ag:=by
 refine X.of Y apy (by simp[D31]) λj=>?_;have l:=i.c;have nc:=j.lt l;have O:=p;obtain⟨⟨a,b,rfl,_⟩,_⟩:=O;have q:D.cells (.p (.agg [I num,a,b]))=[.p (I num),.p a,.p b]:=rfl;have s:cF [.p (I num),.p a,.p b]=.p (.agg [I num,a,b]):=rfl;have t:L≠u:=y;have w:IntKind.i64.wrap (v.heard+1)=v.heard+1:=iK y y;by_cases m:num=v.heard+1;have P:=M m;have n:(num==v.heard+1)=aa:=by simpa using m
 simp[D31,cN,q,l,t,ba,binOp,aC,w,n,s,bne];intro c g1;have e:∀k d,A k=J d->(am A u (J (.row 3 (c u) [[.p (I num),.p a,.p b]]))) k=J d:=λk d f=>(ai (by have:=j.lt f;omega)).trans f;have g:(am A u (J (.row 3 (c u) [[.p (I num),.p a,.p b]]))) u=J (.row 3 (c u) [[.p (I num),.p a,.p b]]):=Y;have h:Fr (am A u (J (.row 3 (c u) [[.p (I num),.p a,.p b]]))) (u+1):=bK;revert e g h;generalize (am A u (J (.row 3 (c u) [[.p (I num),.p a,.p b]])))=R;intro e g h;have o:=i.low e;refine Pd o F p G λS O2 T V z n2 W=>?_;have o2:=z u _ y g U;refine ac1 Y Y V o2 W λs' w0 w1 w2 B E=>⟨Y,?_⟩;have E:S<=s'.nx:=E;rw[w0];exact .d8 B y (P _ _ T w1 (KF.trans (λk d _ f _=>U) (z.trans w2)) y B);have n:(num==v.heard+1)=Z:=U;simp[D31,cN,q,l,t,ba,binOp,aC,w,n,s,bne];intro c;have e:∀k d,A k=J d->(am A u (J (.row 3 (c u) [[.p (I num),.p a,.p b]]))) k=J d:=λk d f=>(ai (by have:=j.lt f;omega)).trans f;have g:(am A u (J (.row 3 (c u) [[.p (I num),.p a,.p b]]))) u=J (.row 3 (c u) [[.p (I num),.p a,.p b]]):=Y;have h:Fr (am A u (J (.row 3 (c u) [[.p (I num),.p a,.p b]]))) (u+1):=bK;revert e g h;generalize (am A u (J (.row 3 (c u) [[.p (I num),.p a,.p b]])))=R;intro e g h;have o:=i.low e;exact .d8 bK y (K m _ _ o (λk d _ f _=>U) y bK)
def LP(a:CE)(b:KE):Prop:=a.key=b.key/\a.ob=b.ob/\a.np=b.np/\a.at_=b.at_
abbrev sN(a:List CE)(b:List KE):Prop:=jv LP a b
theorem sN.mem(b:sN aP bu):(∀x∈aP,∃E∈bu,LP x E)/\∀E∈bu,∃x∈aP,LP x E:=by induction b with|nil=>simp|cons a c aP bu d _ ih=>grind
theorem sN.filter{b:List CE}{c:List KE}(h:sN b c){d:CE->Bool}{f:KE->Bool}(g:∀x∈b,∀E,LP x E->d x=f E):sN (b.filter d) (c.filter f):=by induction h with|nil=>exact aj|cons a i b c j _ ih=>have ih:=ih λx k E e=>g x (jz _ k) E e;have e:=g a ja i j;rw[mc,mc,<-e];split;exact aj;exact ar
theorem sN.off(a:sN aP bu):sN (kr k aP) (qQ k bu):=a.filter λx _ E e=>by
 have:yq k x=Ax E.key k:=by rw[pG,vK,vQ,<-e.1];exact aj
 rw[this]
theorem sN.YI(c:sN aP bu){b:CE}(d:LP b E):sN (aP++[b]) (bu++[E]):=by induction c with|nil=>exact aj|cons a e aP bu f _ ih=>exact aj
theorem sN.aca(b:sN aP bu):sN (tI bO aP) (wt bO bu):=by have e:=b.length;unfold tI wt;by_cases c:(aP.length:Int)<=bO;grind;rw[ap c,aU y];cases b with|nil=>exact aj|cons a f aP bu g d=>exact d
def sN.WV(d:sN aP bu):sa v aP k at_↔Cr v bu k at_:=by refine xC ⟨λ⟨x,a,e,b⟩=>?_,λ⟨E,c,e,b⟩=>?_⟩;obtain⟨E,c,w⟩:=d.mem.1 x a;exact⟨E,c,w.1▸e,w.2.2.2▸b⟩;obtain⟨x,a,w⟩:=d.mem.2 E c;exact⟨x,a,w.1▸e,w.2.2.2▸b⟩
def sN.drop(c:sN aP bu)(d:∀x∈aP,uU x.key){num:Int}:sN (aP.filter λx=> !mL num bH bM x) (bu.filter λE=> !oV num bH bM E):=c.filter λx f E w=>by
 obtain⟨s1,s2,s3,s4⟩:=w;have:mL num bH bM x=oV num bH bM E:=by unfold mL oV;rw[<-s1,<-s3,<-s4,Bool.and_comm];rcases d x f with⟨e,t,n,b⟩|⟨a,_,b⟩<;>rw[b]<;>rfl
 rw[this]
theorem sN.pX(f:sN aP bu)(g:(aP.map (·.key)).Nodup)(h:(aP.map (·.id)).Nodup){a:CE}(d:a∈aP)(i:E∈bu)(j:a.key=E.key)(k:(bu.map (·.key)).Nodup){l:Int}:sN (rP aP a l) (qQ a.key bu++[E]):=by
 have e:LP a E:=by obtain⟨b,c,w⟩:=f.mem.1 a d;have:=mA k b c E i (w.1.symm.trans j);exact ak
 have m:sN (aP.filter λb=> !(b.id==a.id)) (qQ a.key bu):=f.filter λb c dT w=>by
  have:(b.id==a.id)=Ax dT.key a.key:=by rw[pG,qY,vQ,<-w.1];exact⟨λe=>by rw[mA h b c a d e],λe=>by rw[mA g b c a d e]⟩
  rw[this]
 exact m.YI ar
def sN.ase(b:sN aP bu):aP.map (·.key)=bu.map (·.key):=by induction b with|nil=>rfl|cons a d aP bu c _ ih=>rw[bG,bG,ih,c.1]
theorem kX.Xv(f:kX A i v all):(all.map (·.key)).Nodup/\(all.map (·.id)).Nodup/\∀x∈all,CF x.key\/Fw x.key:=by
 obtain⟨⟨l,m,n,o,⟨p,bn,aP,q,b,c,r,t⟩,W⟩,ok,ord,us,u0⟩:=f;refine⟨(W.map _).nodup_iff.1 ?_,ak,λx d=>?_⟩;rw[cG,jW];refine⟨b.nk,c.nk,λa g u j e=>?_⟩;obtain⟨x,d,rfl⟩:=bN.1 g;obtain⟨E,k,rfl⟩:=bN.1 j;obtain⟨w,y,z,B⟩:=b.k x d;obtain⟨C,D⟩:=c.k E k;grind;rcases bg.1 (W.mem_iff.2 d)with h|h
 exact .inl (b.k x h);exact .inr (c.k x h)
def D39:d6:=⟨10,[.cell 2 3 aa],z 2 [q 1 (iU 0 9 0),q 2 (.alloc 1 3 [aF,aH,aH])] (z 8 [oF 3 1 0,oL 4 1 3,oF 5 1 1,oL 6 1 5,oF 7 1 2,oL 8 1 7,q 9 (.build [aF,aH,aH] [(0,1,.t 4),(1,1,.t 6),(2,1,.t 8)]),oN (xS 3 2 9)] (.ret))⟩
def aoz:cW af Tryz.f39=J D39:=h
def apS:av:=z 1 [q 14 (xB .lss 13 12)] (.seq (cX 14 0) (.seq (.block 1 (z 2 [G 15 13,G 5 15] (z 9 [G 16 0,G 17 5,q 18 (xI 1 16 17),oL 19 1 18,G 20 1,G 21 5,q 22 (xI 1 20 21),oL 23 1 22,q 24 (xB .neq 19 23)] (.cond (.t 24) (z 1 [q 4 (gR Z)] (.ret)) (.skip))))) (rF 2 [q 25 (di .add 13 1),G 13 25])))
def D76:d6:=⟨26,[.t 4],z 1 [q 4 (gR Z)] (.seq (z 5 [G 6 0,q 7 (fQ 6),G 8 1,q 9 (fQ 8),q 10 (xB .neq 7 9)] (.cond (.t 10) (z 1 [q 4 (gR Z)] (.ret)) (.skip))) (.seq (z 3 [G 11 0,q 12 (fQ 11),fR 13 0] (.block 0 (.loop apS))) (z 1 [q 4 (gR aa)] (.ret))))⟩
def an8:cW af Tryz.f76=J D76:=h
def an5:av:=z 1 [q 14 (xB .lss 13 12)] (.seq (cX 14 0) (.seq (.block 1 (z 2 [G 15 13,G 5 15] (z 9 [G 16 0,G 17 5,q 18 (xI 3 16 17),cA 19 3 18,G 20 1,G 21 5,q 22 (xI 3 20 21),cA 23 3 22,q 24 (.pf (.eq aa [.i,.i,.s]) [.t 19,.t 23])] (.cond (.t 24) (z 1 [q 4 (gR Z)] (.ret)) (.skip))))) (rF 2 [q 25 (di .add 13 1),G 13 25])))
def D75:d6:=⟨26,[.t 4],z 1 [q 4 (gR Z)] (.seq (z 5 [G 6 0,q 7 (fQ 6),G 8 1,q 9 (fQ 8),q 10 (xB .neq 7 9)] (.cond (.t 10) (z 1 [q 4 (gR Z)] (.ret)) (.skip))) (.seq (z 3 [G 11 0,q 12 (fQ 11),fR 13 0] (.block 0 (.loop an5))) (z 1 [q 4 (gR aa)] (.ret))))⟩
def ao1:cW af Tryz.f75=J D75:=h
theorem CN(j:jh r bn)(l:bn.c=S e::I t::I n::cT)(m:∀H,u<=H->ag (.p (.agg [S e,I t,I n])) A H):X af 39 [.p (.agg r)] A u ag:=by
 obtain⟨⟨a,b,c,q,s⟩,d,_,_⟩:=j;refine X.of Y aoz (by simp[D39]) λo=>?_;rw[l]at c d;have p:cT.length=4:=by simpa using d
 match cT,p with|[f,g,h,i],_=>subst c;have v:D.cells (.p (.agg [S e,I t,I n,f,g,h,i,a,b]))=[.p (S e),.p (I t),.p (I n),.p f,.p g,.p h,.p i,.p a,.p b]:=rfl;have w:u≠u+1:=y;simp[D39,cN,ba,fh,bI,D.cells,P.cells,Value.oneCell',cF,dv,dw];intro bA;refine .low o y (λk x=>?_) (m _ y);exact aj
structure EqS(O:ah)(nx:Nat)(q q':P)(n j:Nat)(s:St):Prop where
 t0:s.T 0=.p q
 t1:s.T 1=.p q'
 t12:s.T 12=.p (I n)
 t13:s.T 13=.p (I j)
 hO:s.O=O
 hn:nx<=s.nx
def ahv(a:Sl 1 bS V)(b:Sl 1 aR V)(q:V.length<=100000)(h:∀r∈V,∃k:Int,r=[I k])(j:∀H,u<=H->ag (.p (B aa)) A H):X af 76 [.p bS,.p aR] A u ag:=by refine X.of Y an8 (by simp[D76]) λs=>?_;simp[D76,cN,dO a,dO b,binOp,aC];intro t;refine⟨λk w=>∃K:Nat,k=V.length-K/\K<=V.length/\EqS A u bS aR V.length K w,⟨_,0,rfl,y,⟨Y,Y,Y,Y,rfl,aw⟩⟩,?_⟩;rintro k w ⟨K,rfl,v,⟨c,d,l,e,f,x⟩⟩;have m:=lW (i:=K) y;refine lX e l (λz n=>?_) λC n=>?_;have o:K<V.length:=y;have g:V[K]? =J V[K]:=Y;obtain⟨k,p⟩:=h _ (bJ o);rw[p]at g;rw[bF,gQ];simp[e,d,c,dm a,dm b,g,ft,f,binOp,aC,bne,m];intro D;refine⟨V.length-(K+1),y,K+1,rfl,y,⟨by simp[c],by simp[d],ar,Y,Y,aw⟩⟩;refine⟨rfl,?_⟩;show ji u ag w.O (w.nx+1+1) _;rw[f];exact .d8 bK y (j _ y)
def ahO(b:Sl 3 bS V)(c:Sl 3 aR V)(t:V.length<=100000)(j:∀r∈V,∃(k n:Int) (a:ByteArray),r=[I k,I n,S a])(l:∀H,u<=H->ag (.p (B aa)) A H):X af 75 [.p bS,.p aR] A u ag:=by refine X.of Y ao1 (by simp[D75]) λv=>?_;simp[D75,cN,dO b,dO c,binOp,aC];intro x;refine⟨λk w=>∃K:Nat,k=V.length-K/\K<=V.length/\EqS A u bS aR V.length K w,⟨_,0,rfl,y,⟨Y,Y,Y,Y,rfl,aw⟩⟩,?_⟩;rintro k w ⟨K,rfl,z,⟨d,e,m,f,g,C⟩⟩;have o:=lW (i:=K) y;refine lX f m (λD p=>?_) λE p=>?_;have q:K<V.length:=y;have h:V[K]? =J V[K]:=Y;obtain⟨k,n,a,s⟩:=j _ (bJ q);rw[s]at h;rw[bF,gQ];simp[f,e,d,dm b,dm c,h,ft,g,binOp,aC,bne,o,vL,mX,tj];intro F;refine⟨V.length-(K+1),y,K+1,rfl,y,⟨by simp[d],by simp[e],ar,Y,Y,aw⟩⟩;refine⟨rfl,?_⟩;show ji u ag w.O (w.nx+1+1) _;rw[g];exact .d8 bK y (l _ y)
def aeP:List aA:=[q 51 (jw 45 50),G 4 51]
def afY:List aA:=(q 44 (jw 38 43)::G 45 44::oT 46 45 (xF 2 8)::oT 47 45 (xL 1 46)::oT 48 45 (xF 3 8)::oT 49 45 (xL 1 48)::oT 50 45 (dV 76 47 49)::aeP)
def D29:d6:=⟨52,[.t 4],z 3 [q 2 (iU 0 9 0),q 3 (iU 1 9 1),q 4 (gR Z)] (z 48 (oF 5 2 0::oL 6 1 5::oF 7 3 0::oL 8 1 7::q 9 (xB .eql 6 8)::G 10 9::oT 11 10 (xF 2 1)::oT 12 10 (xL 1 11)::oT 13 10 (xF 3 1)::oT 14 10 (xL 1 13)::oT 15 10 (xB .eql 12 14)::q 16 (jw 10 15)::G 17 16::oT 18 17 (xF 2 2)::oT 19 17 (xL 1 18)::oT 20 17 (xF 3 2)::oT 21 17 (xL 1 20)::oT 22 17 (xB .eql 19 21)::q 23 (jw 17 22)::G 24 23::oT 25 24 (xF 2 3)::oT 26 24 (xL 1 25)::oT 27 24 (xF 3 3)::oT 28 24 (xL 1 27)::oT 29 24 (xB .eql 26 28)::q 30 (jw 24 29)::G 31 30::oT 32 31 (xF 2 4)::oT 33 31 (uS 3 32)::oT 34 31 (xF 3 4)::oT 35 31 (uS 3 34)::oT 36 31 (.pf (.eq Z [.i,.i,.s]) [.t 33,.t 35])::q 37 (jw 31 36)::G 38 37::oT 39 38 (xF 2 7)::oT 40 38 (xL 1 39)::oT 41 38 (xF 3 7)::oT 42 38 (xL 1 41)::oT 43 38 (dV 75 40 42)::afY) (.ret))⟩
def apI:cW af Tryz.f29=J D29:=h
structure uu(o:AO):Prop where
 c:∃(e:ByteArray) (t n a b m:Int) (s:ByteArray),o.c=[S e,I t,I n,I a,I b,I m,S s]
 vs:∀r∈o.vs,∃(k n:Int) (a:ByteArray),r=[I k,I n,S a]
 os:∀r∈o.os,∃k:Int,r=[I k]
 lv:o.vs.length<=100000
 lo:o.os.length<=100000
def Jv{g:List P}(o:jh r bn)(p:jh g bn)(q:uu bn)(s:∀H,u<=H->ag (.p (B aa)) A H):X af 29 [.p (.agg r),.p (.agg g)] A u ag:=by
 refine X.of Tryz.func29 apI (by simp[D29]) λv=>?_;obtain⟨⟨e,t,n,a,b,c,w,x⟩,z,C,E,F⟩:=q;obtain⟨⟨h,i,d,G,K⟩,_,_,_⟩:=o;obtain⟨⟨j,l,f,g7,L⟩,_,_,_⟩:=p;rw[x]at d f;have d:r=[S e,I t,I n,I a,I b,I c,S w,h,i]:=d;have f:g=[S e,I t,I n,I a,I b,I c,S w,j,l]:=f;subst d;subst f;have M:D.cells (.p (.agg [S e,I t,I n,I a,I b,I c,S w,h,i]))=[.p (S e),.p (I t),.p (I n),.p (I a),.p (I b),.p (I c),.p (S w),.p h,.p i]:=rfl;have N:D.cells (.p (.agg [S e,I t,I n,I a,I b,I c,S w,j,l]))=[.p (S e),.p (I t),.p (I n),.p (I a),.p (I b),.p (I c),.p (S w),.p j,.p l]:=rfl;have O:cF [.p (I b),.p (I c),.p (S w)]=.p (.agg [I b,I c,S w]):=rfl;have m:u≠u+1:=y;have Q:vL (.eq Z [.i,.i,.s]) [.p (.agg [I b,I c,S w]),.p (.agg [I b,I c,S w])]=J (B aa):=by simp[vL,mX,tj]
 simp(disch:=omega)[-az,-cV,-bW,↓cQ,↓fi,D29,cN,M,N,ba,m,O,Q,binOp,aC,gD];intro R T;refine ahO G g7 E z λU V=>?_;simp(disch:=omega)[-az,-cV,-bW,↓cQ,↓fi,afY,ba,m];refine ahv K L F C λW Y=>?_;simp(disch:=omega)[-az,-cV,-bW,↓cQ,↓fi,aeP];exact .low v y (λk hk=>(ai y).trans (ai y)) (s _ y)
def afh:List aA:=[q 30 (AM 29)]
def afR:av:=.cond (.t 30) (z 1 [q 6 (gR Z)] (.ret)) (.skip)
def aeY:av:=rF 2 [q 31 (di .add 17 1),G 17 31]
def apb:av:=
 z 1 [q 18 (xB .lss 17 16)] (.seq (cX 18 0) (.seq (.block 1 (z 6 [G 19 17,q 20 (xI 9 15 17),cA 21 9 20,q 8 (.alloc 3 9 [aF,aH,aH,aH,aH,aH,aF,aD,aD]),G 7 19,oN (xS 9 8 21)] (z 6 [G 22 1,G 23 7,q 24 (xI 9 22 23),cA 25 9 24,q 9 (.alloc 4 9 [aF,aH,aH,aH,aH,aH,aF,aD,aD]),oN (xS 9 9 25)] (z 5 (G 26 2::cA 27 9 8::cA 28 9 9::q 29 (.iI (.t 26) [.t 27,.t 28])::afh)
  afR))))
  aeY))
def YB:av:=z 1 [q 6 (gR aa)] (.ret)
def D84:d6:=⟨32,[.t 6],z 1 [q 6 (gR Z)] (.seq (z 5 [G 10 0,q 11 (fQ 10),G 12 1,q 13 (fQ 12),q 14 (xB .neq 11 13)] (.cond (.t 14) (z 1 [q 6 (gR Z)] (.ret)) (.skip))) (.seq (z 3 [G 15 0,q 16 (fQ 15),fR 17 0] (.block 0 (.loop apb)))
 YB))⟩
def aps:cW af Tryz.f84=J D84:=h
def af2:List aA:=[G 4 7]
def D38:d6:=⟨8,[.t 4],z 1 [q 4 (gR Z)] (z 4 (G 5 0::G 6 1::q 7 (.call 84 [.t 5,.t 6,.c (.fn (.func 29) [] [])])::af2) (.ret))⟩
theorem apW:cW af Tryz.f38=J D38:=aj
structure EfS(O:ah)(nx:Nat)(q q':P)(n j:Nat)(s:St):Prop where
 t1:s.T 1=.p q'
 t2:s.T 2=.p (.fn (.func 29) [] [])
 t15:s.T 15=.p q
 t16:s.T 16=.p (I n)
 t17:s.T 17=.p (I j)
 low:∀k,k<nx->s.O k=O k
 hn:nx<=s.nx
 fr:Fr s.O s.nx
theorem aoa(j:Sl 9 bS V)(l:Sl 9 aR bX)(m:jv jh V bB)(n:jv jh bX bB)(ac:∀bn∈bB,uu bn)(hl:bB.length<=1000)(z:∀H,u<=H->ag (.p (B aa)) A H):X af 84 [.p bS,.p aR,.p (.fn (.func 29) [] [])] A u ag:=by
 refine X.of Y aps (by simp[D84]) λC=>?_;have E:=m.length;have F:=n.length;have ad:(V.length:Int)=bX.length:=y;simp[D84,cN,dO j,dO l,binOp,aC,E,F];intro gm;refine⟨λk w=>∃K:Nat,k=bB.length-K/\K<=bB.length/\EfS A u bS aR bB.length K w,⟨_,0,rfl,y,⟨Y,Y,Y,Y,Y,U,aw,bK⟩⟩,?_⟩;rintro k w ⟨K,rfl,hj,⟨o,p,G,I,d,L,hn,al⟩⟩;have M:=lW (i:=K) y;refine lX d I (λan N=>?_) λao N=>?_;have ax:K<bB.length:=y;obtain⟨bn,O,c⟩:=m.at K _ (bh y);obtain⟨f,Q,g⟩:=n.at K _ (bh y);have:f=bn:=by rw[O]at Q;exact ak
 subst this;have q:V[K]? =J V[K]:=Y;have s:bX[K]? =J bX[K]:=Y;have R:uu f:=ak;generalize V[K]=r at q c;generalize bX[K]=a at s g;have t:∀r:List P,jh r f->r.length=9:=λr c=>by obtain⟨⟨_,_,e,_,_⟩,hc,_,_⟩:=c;exact U
 have v:=t r c;have x:=t a g;have S:r.take 9=r:=ak;have T:a.take 9=a:=ak;have W:D.cells (.p (.agg r))=r.map .p:=by simp[D.cells,dw]
 have c2:D.cells (.p (.agg a))=a.map .p:=by simp[D.cells,dw]
 have y1:∀b:List D,b.length=9->bI b (r.map .p) 0=r.map .p:=λb h=>by simp[bI,v,rz,h]
 have y2:∀b:List D,b.length=9->bI b (a.map .p) 0=a.map .p:=λb h=>by simp[bI,x,rz,h]
 have p1:cF (r.map D.p)=.p (.agg r):=Y;have p2:cF (a.map D.p)=.p (.agg a):=Y;have n2:∀ag:P->Prop,unOp .not (.p (B aa)) ag=ag (B Z):=aj;have ab:w.nx+1+3≠w.nx+1+6+4:=y;rw[bF,gQ];simp[o,p,G,d,dm j,dm l,q,s,ft,ba,v,x,S,T,W,c2,y1,y2,p1,p2,<-cD,ab];intro g2 bA g4;refine Jv c g R λay aB=>?_;simp[afh,afR,aeY,n2,d,binOp,aC,M];intro g5;refine⟨bB.length-(K+1),y,K+1,rfl,y,⟨by simp[o],by simp[p],ar,ar,Y,λk hk=>?_,aw,?_⟩⟩;exact aj;exact bK;refine⟨rfl,?_⟩;show bx _ YB _ _;simp[YB];exact .low C y L (z _ y)
def YR(a:Sl 9 bS V)(b:Sl 9 aR bX)(c:jv jh V bB)(d:jv jh bX bB)(e:∀bn∈bB,uu bn)(f:bB.length<=1000)(g:∀H,u<=H->ag (.p (B aa)) A H):X af 38 [.p bS,.p aR] A u ag:=by refine X.of Y apW (by simp[D38]) λh=>?_;simp[D38,cN];intro i;refine aoa a b c d e f λj k=>?_;simp[af2];exact .d8 bK y (g _ y)
def amr[Gh](d:Row Ty.jy r):∃bn,jh r bn/\uu bn:=by obtain⟨F,G,rfl,⟨e,rfl,_⟩,f⟩:=Row.cons d;obtain⟨H,K,rfl,⟨t,rfl,_⟩,g⟩:=Row.cons f;obtain⟨L,M,rfl,⟨n,rfl,_⟩,h⟩:=Row.cons g;obtain⟨N,O,rfl,⟨a,rfl,_⟩,i⟩:=Row.cons h;obtain⟨P,Q,rfl,⟨j,rfl,_⟩,l⟩:=Row.cons i;obtain⟨R,T,rfl,⟨m,rfl,_⟩,o⟩:=Row.cons l;obtain⟨U,V,rfl,⟨w,rfl,_⟩,p⟩:=Row.cons o;obtain⟨q,W,rfl,⟨s,u,_,X,v,_⟩,x⟩:=Row.cons p;obtain⟨y,r9,rfl,⟨z,A,_,lo,B,_⟩,C⟩:=Row.cons x;obtain rfl:=Row.nil C;refine⟨⟨[S e,I t,I n,I a,I j,I m,S w],s,z⟩,⟨⟨q,y,rfl,u,A⟩,rfl,aw,aw⟩,Y,λr b=>?_,λr b=>?_,aw,aw⟩;obtain⟨_,_,rfl,⟨k,rfl,_⟩,c⟩:=Row.cons (v r b);obtain⟨_,_,rfl,⟨n,rfl,_⟩,D⟩:=Row.cons c;obtain⟨_,_,rfl,⟨a,rfl,_⟩,E⟩:=Row.cons D;obtain rfl:=Row.nil E;simp;obtain⟨_,_,rfl,⟨k,rfl,_⟩,c⟩:=Row.cons (B r b);obtain rfl:=Row.nil c;simp
def ai1{a:P}(b:Sl 9 a V):a≠I n:=by rintro rfl;cases b
structure JS(sid sg kc gk:Nat)(i:CI)(N:Int)(v:CV)(all:List CE)(ke:List KE)(dl:D)(j:Nat)(O:ah):Prop where
 st:fV sid sg N O
 ci:kX O i v all
 ki:KI O kc gk v ke dl
 zr:sN all ke
 uQ:∀y∈ke,mT y
 KO:∀y∈ke,∀o∈y.ob,uu o
 us:v.cf<=j
 len:all.length<=j
 hd:0<=v.heard/\v.heard<=999999999999999+j
 fl:v.heard<=v.floor/\v.floor<=v.heard+3
 sz:0<=v.size
def JS.nd(a:JS cg cE L aB i cJ v all C dl K A):(C.map (·.key)).Nodup:=by rw[<-a.zr.ase];exact a.ci.Xv.1
def JS.kl(a:JS cg cE L aB i cJ v all C dl K A):C.length<=K:=by rw[<-a.zr.length];exact a.len
theorem zT(c:kX A i v all){b:Nat}(d:Lz i all b):(∃g a,A b=J (.row 6 g a))\/(∃g a e,A b=J (.map g a e))\/∃g p a,A b=J (.row 4 g [.p p::a])/\∀n:Int,p≠I n:=by
 obtain⟨⟨l,m,o,q,⟨a,bn,aP,f,r,s,t,u⟩,W⟩,h,w,y,z⟩:=c;rcases d with rfl|rfl|rfl|⟨x,j,rfl⟩
 exact U;exact U;exact U;obtain⟨V,k,_⟩:=(h x j).mi;exact .inr (.inr ⟨_,_,_,f x ak,λn=>ai1 k⟩)
theorem kY.zR(h:kX A i v all)(j:kY A Q u H i dH all eJ)(k:Fr A u){c a:Nat}(d:A c=J (.row a g aS))(m:a≠6)(o:a=4->∃(n:Int) (b:List D),aS=[.p (I n)::b]):Q c=J (.row a g aS):=by
 refine(j.low c (k.lt d) λl=>?_).trans d;rcases zT h l with⟨f,b,e⟩|⟨f,b,q,e⟩|⟨f,p,b,e,W⟩
 grind;grind;grind
def kY.str(c:kX A i v all)(d:kY A Q u H i dH all eJ)(f:Fr A u)(b:fV cg cE cJ A):fV cg cE cJ Q:=by obtain⟨g,a,e,b⟩:=b;exact⟨g,a,d.zR c f e y y,b⟩
def kY.ki(a:kX A i v all)(b:kY A Q u H i dH all eJ)(c:Fr A u)(d:KI A L aB dT C dl):KI Q L aB dT C dl:=⟨b.zR a c d.c y U,d.l.gM λid g _ _ e=>b.zR a c e y y⟩
theorem KF.zR(d:KF A Q L)(f:KI A L aB v C dl){b a:Nat}(c:A b=J (.row a g aS))(h:a≠4)(i:a≠7):Q b=J (.row a g aS):=d b _ (λe=>by subst e;rw[f.c]at c;grind) c U
def KF.str(c:KF A Q L)(d:KI A L aB v C dl)(b:fV cg cE cJ A):fV cg cE cJ Q:=by obtain⟨f,a,e,b⟩:=b;exact⟨f,a,c.zR d e y y,b⟩
theorem KF.ci(l:KF A Q L)(m:KI A L aB dT C dl)(d:kX A i v all):kX Q i v all:=by
 have f:∀k b,Lz i all k->A k=J b->Q k=J b:=λk b h j=>by
  refine l k b (λe=>?_) j λg F e=>?_;rw[e]at h j;rcases zT d h with⟨c,a,e⟩|⟨c,a,n,e⟩|⟨c,p,a,e,W⟩<;>rw[m.c]at e
  cases e;cases e;grind;subst e;rcases zT d h with⟨c,a,e⟩|⟨c,a,n,e⟩|⟨c,p,a,e,W⟩<;>rw[j]at e<;>cases e
 obtain⟨⟨o,q,r,s,⟨a,bn,aP,b,t,u,w,y⟩,W⟩,z,B,D,E⟩:=d;exact⟨⟨o,q,r,s,⟨aj,f _ _ (.inr Y) bn,f _ _ (.inr Y) aP,λx G=>f _ _ (.inr ak) U,t,u,w,y⟩,W⟩,z,B,D,E⟩
def S92:SP:=⟨30,aa,[.agg Ty.oi,.agg Ty.lU,.aM (.z 0 4000000000000000000)],[.agg [.z 0 4000000000000000000,.aY [.str 100,.z 0 10,Ty.gW] 0 2,.aY [.str 100,.str 0,.z 0 10] 0 2]],20,[([],[⟨5,6,0⟩,⟨6,5,0⟩])],[],[]⟩
def s92[Gh]:bz af S92:=iG (Ma.c (s0.c .n)) [(39,[])] [(8,.lp ⟨[(0,[.aL,.int .i64]),(9,[.aL,.own [.nm 0,.z 0 10,Ty.gW],.own [.nm 0,.str 0,.z 0 10]])],bY [14,0,6,5] ((15,.int .i64)::bY [9,8] []),[(.c 9 2,.s 15,0),(.c 9 1,.c 9 2,0),(.z,.c 9 1,0),(.c 0 1,.s 15,4611686018427386981),(.s 15,.z,2)],.z,.s 15,2,2,[(.c 0 1,1)],Z⟩ []),(29,.gv [8])] h
end Go.Dl
