import Derived.Shelf.Lays
import Derived.Shelf.Strings.BuilderX
import Derived.Test.YtaggkglfnbcjdaaGreatDoorProg
import Derived.Shelf.Strings.Replace
import Derived.Shelf.Strings.SlTrimAscii
import Derived.Shelf.SlLaysF0
import Derived.Test.YtaggkglfnbcjdaaGreatDoorQ06
set_option linter.all false
set_option maxRecDepth 1000000
set_option maxHeartbeats 40000000
namespace Go.Dl.Ai
end Go.Dl.Ai
namespace Go.Proofs
end Go.Proofs
namespace Ty
end Ty
open Array renaming replicate->iE
open Bool renaming false->Z,true->aa
open ByteArray renaming size_extract->Bu
open Go renaming Calls->iQ,Exit->aV,FuncId->cB
open Go.Code renaming region->rg,seq->G7
open Go.Lib renaming IsBuilder->yX,byteCells->yP,byteCells_append->Br,byteCells_length->BL,bytes_beq_false_iff->GL,countByte->IG,extract_to_end->Ht,indexByte->oh,size_eq->Gy,strCells->Hm,strCells_eq->A8
open Go.Proofs renaming enters_of->ph
open Go.Proofs.Any renaming Builder_WriteString->AP,hidR->lH,strings_Count_one->Hr
open Go.Proofs.Body renaming n154_ntmps->HL
open Go.Proofs.Builder renaming Extra->ue
open Go.Proofs.Lays renaming n154->CG,n155->GN
open Go.Proofs.SlLaysF0 renaming n6->qR
open Go.Proofs.Tryz renaming prog->af
open Go.Region renaming ready->kZ
open Iff renaming rfl->kW
open List renaming length_append->fj,length_cons->ij,set_cons_zero->Jr
open Nat renaming beq->au
open Option renaming none->ae,some->J
open Or renaming inr->xy
open Go Go.Dl Go.Dl.Ai
def rD:=@Nat.zero_le
def AZ:=@List.take_take
def xq:=@List.length_drop
def Cv:=@List.drop_drop
def ud:=@List.length_take
variable {aB:Fm}{ag:AS}{aP:bE}{a:ByteArray}{b f m nx N bM bB be bX bC bu bT bO bA hb g3:Nat}{u bn:List aA}{row:List CT}{V cells:List D}{l:List (List P)}{d bZ bH:D}{r:ah}{R:D->ah->Nat->Prop}{z aS:dh}{aR:cR}{cg:fG}{bS w:Bool}{x cE:List P}{Q:aV->St->Prop}{rows:List (List D)}
namespace Go.Dl.Ai
section
variable [Gh]
structure En where
 KR:List SP
 fns:List (Nat×AF)
 LS:List (Nat×Nat):=[]
def J1(h:Program)(i c:Nat):Prop:=∀(e:ah) (nx:Nat) (R:D->ah->Nat->Prop) (id f d b:Nat) (a:List (List P)),e id=J (.row c f (a.map (·.map .p)))->d<=b->b<=a.length->a.length<=1000000->
 (∀N g,nx<=N->R (.sl id g 0 (a.length-(b-d)) c Z) (am e id (J (.row c g ((a.take d++a.drop b).map (·.map .p))))) N)->X h i [.sl id f 0 a.length c Z,.p (I d),.p (I b)] e nx R
def yf(a:AS)(b c:E):E×AS:=
 if au c.x 0 then(⟨b.x,b.c-c.c⟩,a)
 else if au b.x c.x then(num (b.c-c.c),a)
 else(⟨a.ns,0⟩,a.fresh ((match zc a.G c with|some d=>[dq ⟨a.ns,0⟩ ⟨b.x,b.c-d⟩]|none=>[])++(match top a.G c with|some d=>[dq ⟨b.x,b.c-d⟩ ⟨a.ns,0⟩]|none=>[])++
  (match bd a.G b.x c.x with|some d=>[dq ⟨a.ns,0⟩ (num (d+b.c-c.c))]|none=>[])++(match bd a.G c.x b.x with|some d=>[dq (num (b.c-c.c-d)) ⟨a.ns,0⟩]|none=>[])))
def WR{j:Bool}{k:C}{d e:E}(a:GS aB j ag aP k)(g:d.x<aP.n)(l:e.x<aP.n):∃f,GS aB j (yf ag d e).2 f k/\cM aP f/\(yf ag d e).1.x<f.n/\(yf ag d e).1.val f.ρ=d.val aP.ρ-e.val aP.ρ/\f.ν=aP.ν/\f.M=aP.M:=by unfold yf;split;rename_i b;have b:=aK b;exact⟨aP,a,cM.refl aP,g,by simp[E.val,b,a.p.z];omega,rfl,rfl⟩;split;rename_i b;have b:=aK b;exact⟨aP,a,cM.refl aP,by have:=a.p.vn;have:=y;simp[num];omega,by rw[dW a.p];simp[E.val,b];omega,rfl,rfl⟩;have h:=a.p.hf;refine⟨aP.gF (d.val aP.ρ-e.val aP.ρ),LF.fresh a (LF.append (LF.append (LF.append ?_ ?_) ?_) ?_),aP.j7 _,by simp[bE.gF,a.p.vn],dG a,rfl,rfl⟩;split;rename_i i c;have:=qB h a.p.z c;exact LF.cons aw (nG a g) (by rw[J6 a g,dG a];omega) LF.nil;exact LF.nil;split;rename_i i c;have:=qn h a.p.z c;exact LF.cons (nG a g) aw (by rw[J6 a g,dG a];omega) LF.nil;exact LF.nil;split;rename_i i c;have:=yC h c;exact LF.cons aw (by simp[num]) (by rw[lA a,dG a];unfold E.val;omega) LF.nil;exact LF.nil;split;rename_i i c;have:=yC h c;exact LF.cons (by simp[num]) aw (by rw[lA a,dG a];unfold E.val;omega) LF.nil;exact LF.nil
def ZD(a:AS)(b c:E):(yf a b c).2.H=a.H/\(yf a b c).2.W=a.W:=by unfold yf;split;simp;split<;>exact⟨rfl,rfl⟩
def OV(g:Nat)(h:List A)(i:AS)(j:A->AS->Bool):Bool:=match h with
 |[.own b,z,aS]=>let x:=dS z i;let a:=dS aS x.2;match x.1,a.1,aQ a.2.H b with
  |.int .i64 e,.int .i64 f,J (.rows row c)=>if(au row.length g&&kP a.2 Z b)&&((le a.2.G (num 0) e&&le a.2.G e f)&&(le a.2.G f c&&(le a.2.G (num 1) c&&le a.2.G c (num 1000000)))) then
   let d:=yf a.2 f e
   let l:=yf d.2 c d.1
   j (.own l.2.nb) (l.2.uX b Z (.rows (qq row) l.1)) else Z
  |_,_,_=>Z
 |_=>Z
def Kh(en:En):Nat->Nat->List A->AS->(A->AS->Bool)->Bool
 |0,f,b,ag,c=>en.KR.any λa=>au a.f f&&Sp a b ag c
 |n+1,f,b,ag,c=>if en.KR.any λa=>au a.f f then en.KR.any λa=>au a.f f&&Sp a b ag c
  else match aQ en.LS f with|some m=>OV m b ag c|none=>match aQ en.fns f with|some F=>inl (Kh en n) F b ag c|none=>Z
structure wF(Pg:Program)(en:En):Prop where
 KR:∀sp∈en.KR,bz Pg sp
 fns:∀f F,aQ en.fns f=J F->∃fn,Pg.funcs[f]? =J fn/\cW Pg fn=J F.fn
 LS:∀f n,aQ en.LS f=J n->J1 Pg f n
theorem X2{w:Program}{n:Nat}(W:J1 w f n){i:St}{B:ah}{C:List A}{o:List D}{F:A->AS->Bool}(g:OV n C ag F=aa)(Y:GS aB Z ag aP (dY i B))(a:cd aP C o):X w f o i.O i.nx (jk aB Z F aP i B):=by
 unfold OV at g;split at g;rename_i b z aS
 match o,a with
 |[d0,G,H],a=>
  obtain⟨V1,h1,p,l⟩:=is Y a.2.1;obtain⟨h,c,q,I⟩:=is h1 (a.2.2.1.grow p);have l:=l.grow q;have r0:=(a.1.grow p).grow q;dsimp only at g;split at g;rename_i d e row r ei ej hb;rw[ei]at l;rw[ej]at I;obtain⟨i1,i2⟩:=l;obtain⟨j1,j2⟩:=I;split at g;rename_i K;simp only[aq]at K;obtain⟨⟨j,L⟩,⟨s,M⟩,O,t,u⟩:=K;have j:=aK j;have s:=dP c.p.hf s;have M:=dP c.p.hf M;have O:=dP c.p.hf O;have t:=dP c.p.hf t;have u:=dP c.p.hf u;rw[dW c.p]at s t u;obtain⟨_,P,v⟩:=c.m.heap b _ hb;have r0:=r0.2 (jI c hb);cases m:h.ν b with
  |none=>rw[m]at v;have:=y;omega
  |some id=>
   rw[m]at v r0;obtain⟨Q,k,R,m2,m3⟩:=v;obtain⟨s',g',aE,S,ac⟩:=r0;rw[R]at S;cases S;have hO:i.O id=J (.row n Q (k.map (·.map .p))):=j▸c.La hb L m R;have ii:d.val h.ρ=((d.val h.ρ).toNat:Int):=y;have jj:e.val h.ρ=((e.val h.ρ).toNat:Int):=y;rw[ac,i2,j2,ii,jj,d7,j];refine W i.O i.nx _ id Q _ _ k hO y y y λN ad al=>?_;have h3:=c.abY al;obtain⟨T,h4,g3,G,H,d3,d4⟩:=WR h3 j1 i1;obtain⟨V4,h5,g4,l1,l2,l3,l4⟩:=WR h4 (bw P g3.n) G;obtain⟨an,ao⟩:=ZD (dS aS (dS z ag).2).2 e d;obtain⟨ax,ay⟩:=ZD (yf (dS aS (dS z ag).2).2 e d).2 r (yf (dS aS (dS z ag).2).2 e d).1;have U:=hb;rw[<-an,<-ax]at U;have ev:r.val T.ρ=k.length:=by rw[E.jM g3 P];exact m2
   have vd:(yf (dS aS (dS z ag).2).2 e d).1.val T.ρ=((e.val h.ρ).toNat-(d.val h.ρ).toNat:Nat):=by rw[H];omega
   obtain⟨V5,h6,V,k1,k2,k3,k4⟩:=h5.uX (ab:=.rows (qq row) (yf (yf (dS aS (dS z ag).2).2 e d).2 r (yf (dS aS (dS z ag).2).2 e d).1).1)
    U (by rw[l3,d3];exact m) (by simp only[kP,ay,ao];exact L) (λV=>by refine⟨by simp only[bE.wr];exact l1,?_⟩;simp only[bE.wr,bi];refine⟨ad,k.take (d.val h.ρ).toNat++k.drop (e.val h.ρ).toNat,by rw[sj,j],?_,m3.sub λx a=>?_⟩;simp;omega;grind)
   refine jS.grow (p.trans (q.trans (g3.trans (g4.trans V)))) ⟨_,_,_,g,h6,cM.refl _,k4,λ_=>?_⟩;grind
  cases g;cases g
 |[],a=>exact a.elim|[_],a=>exact a.2.elim|[_,_],a=>exact a.2.2.elim|_::_::_::_::_,a=>exact a.2.2.2.elim
 cases g
def Lk{i:Program}{en:En}(b:wF i en):∀n,HC (X i) (Kh en n)
 |0=>by intro aB f j u ag aP k l o a c d;obtain⟨h,e,g⟩:=pq.1 a;simp only[aq]at g;have:=aK g.1;subst this;exact PX (b.KR h e) U c d
 |n+1=>by intro aB f j u ag aP k l o a c d;simp only[Kh]at a;split at a;obtain⟨h,e,g⟩:=pq.1 a;simp only[aq]at g;have:=aK g.1;subst this;exact PX (b.KR h e) U c d;split at a;rename_i m e;exact X2 (b.LS f m e) a c d;split at a;rename_i F p;obtain⟨s,q,r⟩:=b.fns f F p;exact aj8 (Lk b n) q r a c d;cases a
def wz(a:SP):AS:=
 if a.uK then {T:=[],H:=[(0,.row [.ct qG,.int .i64 ⟨2,0⟩])],G:=Gs.zj [dq (num 0) ⟨1,0⟩,dq ⟨1,0⟩ (num 30),dq (num 0) ⟨2,0⟩,dq ⟨2,0⟩ (num (Wu-a.cost))] .nil,ns:=3,nb:=1,rb:=0,iz:=0,used:=[],W:=[]}
 else {T:=[],H:=[],G:=Gs.zj [dq (num 0) ⟨1,0⟩,dq ⟨1,0⟩ (num 30)] .nil,ns:=2,nb:=0,rb:=0,iz:=0,used:=[],W:=[]}
def Kq(b:SP)(a:AS):Bool:=
 if b.uK then match aQ a.H 0 with|some (.row [d,.int .i64 c])=>Fh a.G d qG&&(le a.G ⟨2,0⟩ c&&le a.G c ⟨2,b.cost⟩)|_=>Z
 else aa
def rU(a:SP):List A×AS:=
 let x:=oU a.ps (wz a)
 (x.1,x.2.facts (a.C8.filterMap (PZ (oH a.ps x.1))))
def sE(b:AS)(c:List Nat):Nat->List A->List A|_,[]=>[]|i,a::d=>(if iw c i then tF b a else a)::sE b c (i+1) d
def Oy(c:AS)(d:List Nat):Nat->List A->Bool
 |_,[]=>aa
 |i,a::e=>(if iw d i then match a with
  |.own b=>match aQ c.H b with|some (.rows _ _)=>aa|_=>Z
  |.nil=>aa|_=>Z else aa)&&Oy c d (i+1) e
def rG(a:List Nat):Nat->List A->List Nat|_,[]=>[]|i,.own b::c=>if iw a i then b::rG a (i+1) c else rG a (i+1) c|i,_::c=>rG a (i+1) c
def BV(a:AS)(b:List Nat)(c:List A)(d:List VT):Bool:=wu a.G (sE a b 0 c) d&&(Oy a b 0 c&&Ck (rG b 0 c))
def adr{e:Gs}{f:E}{a:VT}(h:zC e (.aY row f Z) a=aa):∃d b c,a=.aM (.aY d b c)/\row.length=d.length:=by
 cases a with
 |aM g=>
  simp[zC]at h;cases g with
  |aY i b c=>
   simp only[Fh,aq,fA]at h;refine⟨i,b,c,rfl,?_⟩;rcases h.1 with h|h
   exact CT.rV h;exact aK h.1
  |_=>simp[Fh]at h
 |agg j=>simp[zC]at h
theorem yb{e:AS}{f:List Nat}{g:Nat}:∀{d:List A} {c:Nat},Oy e f c d=aa->g∈rG f c d->∃row h,aQ e.H g=J (.rows row h)
 |[],c,_,b=>by simp[rG]at b
 |a::d,c,i,b=>by
  simp only[Oy,aq]at i;cases a with
  |own j=>
   simp[rG]at b;split at b;rename_i k;rcases bt.1 b with h|b
   grind;exact yb U b;exact yb U b
  |_=>simp[rG]at b;exact yb U b
theorem CH{fm:Fm}{s:AS}{l:bE}{h:St}{nx:Nat}{k:List Nat}(i:GS fm Z s l (dY h iv))(C:∀b row E id,aQ s.H b=J (.rows row E)->l.ν b=J id->nx<=id):
 ∀(e:List A) (c:Nat) (p:List VT) (u:List D) (g:ah),cd l e u->Oy s k c e=aa->(rG k c e).Nodup->wu s.G (sE s k c e) p=aa->
  (∀id,g id=ae\/g id=h.O id)->(∀b∈rG k c e,∀id,l.ν b=J id->g id=ae)->
  ∃j r,cd l (sE s k c e) (j.map .p)/\Vs p j/\lg nx h.nx k c p j u g r/\∀id,r id=ae\/r id=h.O id
 |[],c,[],[],g,_,_,_,_,w,_=>⟨[],g,ar,ar,rfl,w⟩|[],_,_::_,_,_,_,_,_,q,_,_=>by simp[sE,wu]at q|[],_,[],_::_,_,x,_,_,_,_,_=>aj|_::_,_,_,[],_,x,_,_,_,_,_=>aj|_::_,_,[],_::_,_,_,_,_,q,_,_=>by simp[sE,wu]at q
 |a::e,c,K::p,d::u,g,x,Q,F,q,w,R=>by
  simp only[sE,wu,aq]at q;obtain⟨m,G⟩:=q;simp only[Oy,aq]at Q;obtain⟨L,y⟩:=Q;have aM:∀{a:A} {d:D},zC s.G a K=aa->gX l a d->∃n,d=.p n/\VT.ok K n:=by
   intro a d q o;obtain⟨ps,S,M⟩:=FU (ts:=[K]) (as_l:=[a]) (ds:=[d]) i.p (by simp[wu,q]) aj
   match ps,S,M with|[n],S,M=>exact⟨n,ak,M.1⟩
  by_cases f:iw k c=aa;simp only[f,aT]at m L;split at L;rename_i b;simp only[rG,f,aT,kQ]at F;simp only[rG,f,aT]at R;split at L;rename_i row E hb;simp only[tF,hb]at m;have T:=jI i hb;obtain⟨_,V,N⟩:=i.m.heap b _ hb;have o:=x.1.2 T;cases O:l.ν b with
  |none=>rw[O]at o N;have o:d=.p (.v (.slice ae 0 0)):=o;subst o;have ad:gX l (.aY row E Z) (.p (.v (.slice ae 0 0))):=⟨V,_,[],rfl,aj,U,U,U⟩;obtain⟨n,B,W⟩:=aM m ar;cases B;obtain⟨j,r,t,H,P,v⟩:=CH i C e (c+1) p u g x.2 y U G w i0;exact⟨_::j,r,⟨by simp only[f,aT,tF,hb];exact ar,t⟩,aj,by simp only[lg,f,aT];exact U,v⟩
  |some id=>
   rw[O]at o N;obtain⟨X,I,Y,m2,m3⟩:=N;obtain⟨s',g',ay,m4,hd⟩:=o;rw[Y]at m4;cases m4;subst hd;have ad:gX l (.aY row E Z) (.p (.im I row.length Z)):=⟨V,_,I,rfl,aj,m2,m3,U⟩;obtain⟨n,B,W⟩:=aM m ar;cases B;obtain⟨aB,lo,hi,ht,hl⟩:=adr m;have aE:h.O id=J (.row row.length X (I.map (·.map .p))):=by
    have:=i.m.m id;rw[Y]at this;show(dY h iv).X id=_;have e2:bp (dY h iv).X (dY h iv).Y id=h.O id:=by simp only[bp,dY,iv];cases h.O id<;>rfl
    rw[e2]at this;exact aj
   have aI:id<h.nx:=iP λag=>by have:=i.m.fr id ag;grind
   have aO:g id=ae:=aj;obtain⟨j,r,t,H,P,v⟩:=CH i C e (c+1) p u (am g id (J (.row row.length X (I.map (·.map .p))))) x.2 y U G (λz=>by
    by_cases hx:z=id;exact U;exact U) (λb2 al ab an=>by
    have ao:ab≠id:=by
     rintro rfl;have:b2=b:=by have ac:=yb y al;obtain⟨H,e2,ac⟩:=ac;exact i.m.inj b2 b ab (jI i ar) T an O
     subst this;exact ak
    rw[ai ao];grind)
   refine⟨_::j,r,⟨by simp only[f,aT,tF,hb];exact ar,t⟩,aj,?_,v⟩;simp only[lg,f,aT];grind
  grind;have o:d=.p (.v (.slice ae 0 0)):=x.1;subst o;simp only[tF]at m;obtain⟨n,B,W⟩:=aM m x.1;cases B;have aP:(rG k (c+1) e).Nodup:=by simpa only[rG]using F
  obtain⟨j,r,t,H,P,v⟩:=CH i C e (c+1) p u g x.2 y ar G w aj;exact⟨_::j,r,⟨by simp only[f,aT,tF];exact x.1,t⟩,aj,by simp only[lg,f,aT];exact U,v⟩;grind;simp only[f,fN,dC]at m;obtain⟨n,rfl,W⟩:=aM m x.1;have ax:rG k c (a::e)=rG k (c+1) e:=by cases a<;>simp[rG,f]
  rw[ax]at F R;obtain⟨j,r,t,H,P,v⟩:=CH i C e (c+1) p u g x.2 y F G w aj;refine⟨n::j,r,?_,aj,?_,v⟩;simp only[sE,f,fN,dC];exact⟨x.1,t⟩;simp only[lg,f,fN,dC];exact U
def OT(en:En)(e:Nat)(a:SP)(F:AF):Bool:=
 let x:=rU a
 let b:=if a.uK then .ptr 0 0::x.1 else x.1
 Nat.ble b.length F.n&&run (Kh en e) F.body {x.2 with T:=Ek 0 b} λf ag=>
  match f with
  |.normal|.ret=>match zW ag F.rs with
   |some c=>BV ag a.os c a.rs&&(Kq a ag&&a.y6.all λd=>
    let l:=oH a.ps x.1++oH a.rs (sE ag a.os 0 c)
    let g:=Gs.zj (d.1.filterMap (PZ l)) ag.G
    d.2.all (wY l g))
   |none=>Z
  |_=>Z
def CB:∀(b:List VT) (ag:AS),oD ag->oD (oU b ag).2
 |[],ag,a=>a|.aM h::b,ag,a=>by simp[oU];refine CB b _ ?_;obtain⟨_,_,c,i,d,e,f⟩:=wa h ag;exact⟨c.trans a.W,e.trans a.iz,f.trans a.used,d.trans a.rb⟩
 |.agg g::b,ag,a=>by simp[oU];refine CB b _ ?_;obtain⟨_,_,c,_,d,e,f⟩:=yI.trans (BX g ag) (AE (gZ g ag).1 _);exact⟨c.trans a.W,e.trans a.iz,f.trans a.used,d.trans a.rb⟩
theorem Uj{c:SP}{e:List P}{i:C}(o:GS aB Z (wz c) aP i)(j:Vs c.ps e)(W:Pre c e):∃g,GS aB Z (rU c).2 g i/\cM aP g/\cd g (rU c).1 (e.map .p):=by obtain⟨p,d,q,k⟩:=Gd o j;refine⟨p,d.facts λf r=>?_,q,k⟩;obtain⟨s,t,h⟩:=qT.1 r;have u:=W s t;have l:=vw d.p j k;unfold PZ at h;split at h;rename_i a b v hb;cases h;obtain⟨m,w⟩:=uB d.p l v;obtain⟨n,x⟩:=uB d.p l hb;rw[d.p.vn]at m n;refine⟨m,n,λ_=>nM ?_⟩;rw[ju,w,x];unfold F.ok at u;omega;grind
theorem aiY{Pg:Program}{en:En}(he:wF Pg en){a7:Nat}{c:SP}{Fa:AF}{fn:Func}(j:Pg.funcs[c.f]? =J fn)(hc:cW Pg fn=J Fa.fn)(q:OT en a7 c Fa=aa):bz Pg c:=by
 intro e nx R V a8 bo;unfold OT at q;simp only[aq]at q;obtain⟨hn,q⟩:=q;have hn:=iB hn;have ax:∀(e:ah),bp e iv=e:=λe=>by funext id;simp only[bp,iv];grind
 have main:∀(N:List A) (s:List D) (t:bE) (aB:Fm),aB.n0=nx->aB.O0=e->
  N=(if c.uK then .ptr 0 0::(rU c).1 else(rU c).1)->
  (∀l:Fr e nx,GS aB Z {(rU c).2 with T:=Ek 0 N} t (dY (cN s e nx) iv))->cd t (rU c).1 (V.map .p)->s.length=N.length->
  (∀l:Fr e nx,∀g i s1 p u,oD g->GS aB Z g i (dY s1 iv)->cM t i->Kq c g=aa->cd i p u->BV g c.os p c.rs=aa->
   (∀P,cd i (sE g c.os 0 p) (P.map .p)->Vs c.rs P->OO c V P)->ji nx R s1.O s1.nx (aM u))->X Pg c.f s e nx R:=by
  intro N s t aB e1 e2 e3 hS bs b4 ac;refine X.Px j hc (by simp only[AF.fn];exact U) λl=>?_;have hS:=hS l;have bu:oD {(rU c).2 with T:=Ek 0 N}:=by
   have:oD (wz c):=by unfold wz;split<;>exact aj
   have:=CB c.ps _ ar;have:oD (rU c).2:=⟨this.W,this.iz,this.used,this.rb⟩;exact⟨this.W,this.iz,this.used,this.rb⟩
  rw[e3]at hS bu;have:=rO br (Lk he a7) Fa.body _ t _ (cN s e nx) q ar hS;refine gw br Fa.body.jf (λh s1 hs=>?_) this;obtain⟨g,i,Q,c1,S1,g1⟩:=hs;have b5:∀p,zW g Fa.rs=J p->(BV g c.os p c.rs&&(Kq c g&&c.y6.all λay=>
   (ay.2.all (wY (oH c.ps (rU c).1++oH c.rs (sE g c.os 0 p)) (Gs.zj (ay.1.filterMap (PZ (oH c.ps (rU c).1++oH c.rs (sE g c.os 0 p)))) g.G)))))=aa->jt s1 Fa.rs λu=>ji nx R s1.O s1.nx (aM u):=by
   intro p aE q;simp only[aq]at q;obtain⟨k2,k3,k4⟩:=q;refine B6 (K:=λ_=>True) Fa.rs p _ S1 c1 aE λu bA=>?_;refine ac l g i s1 p u c1 S1 g1 k3 bA k2 λP b6 bB=>?_;intro ay hq bC f aI;have bL:=jC.1 k4 ay hq;have a9:=jC.1 bL f aI;have t1:=vw S1.p ar (bs.grow g1);have t2:=vw S1.p bB ar;have S:=t1.append t2;have hG:∀f∈Gs.zj (ay.1.filterMap (PZ (oH c.ps (rU c).1++oH c.rs (sE g c.os 0 p)))) g.G,f.ok i.ρ:=by
    intro f j;rcases Gs.tH j with j|j
    obtain⟨f0,bM,a3⟩:=qT.1 j;have bO:=bC f0 bM;unfold PZ at a3;split at a3;rename_i a b ha hb;cases a3;obtain⟨a1,a2⟩:=uB S1.p S ha;obtain⟨b1,b2⟩:=uB S1.p S hb;refine nM ?_;rw[ju,a2,b2];unfold F.ok at bO;omega;grind;exact S1.p.hf f j
   unfold wY at a9;split at a9;rename_i a b ha hb;obtain⟨a1,a2⟩:=uB S1.p S ha;obtain⟨b1,b2⟩:=uB S1.p S hb;have:=dP hG ar;rw[ju,a2,b2]at this;unfold F.ok;omega;grind
  cases h with
  |normal=>refine⟨Y,?_⟩;simp only at Q;split at Q;(· exact aj);cases Q
  |ret=>refine⟨Y,?_⟩;simp only at Q;split at Q;(· exact aj);cases Q
  |exit bb=>cases Q
  |goto bb=>cases Q
  |panic bb=>cases Q
  |outgrown=>cases Q
 have bd:∀{aB:Fm} {g:AS} {i:bE} {s1:St},aB.n0=nx->GS aB Z g i (dY s1 iv)->nx<=s1.nx:=by intro aB g i s1 h L;have:=L.m.room;have:=L.m.base;have e1:(dY s1 iv).bs=s1.bs:=rfl;have e2:(dY s1 iv).nx=s1.nx:=rfl;omega
 have M1:∀{aB:Fm} {g:AS} {i:bE} {s1:St},GS aB Z g i (dY s1 iv)->∀id,i.M id=s1.O id:=by intro aB g i s1 L id;rw[L.m.m];show bp s1.O iv id=_;rw[ax]
 have be:∀{aB:Fm} {ag:AS} {aP:bE} {an:C} (N:List A) (s:List D),GS aB Z ag aP an->cd aP N s->an={dY (cN s e nx) iv with T:=an.T}->GS aB Z {ag with T:=Ek 0 N} aP (dY (cN s e nx) iv):=by
  intro aB ag aP an N s L hr hc;have v:GM aB Z ag aP (dY (cN s e nx) iv):=by have m:=L.m;rw[hc]at m;exact⟨m.m,aj,m.heap,m.yn,m.inj,m.own,m.frame,m.free,m.room,m.base,m.ss,m.fr,m.rb,m.wB⟩
  refine⟨⟨L.p.vn,L.p.vb,L.p.vH,L.p.gz,L.p.pS,L.p.facts⟩,λaO a bR=>?_,⟨v.m,aj,v.heap,v.yn,v.inj,v.own,v.frame,v.free,v.room,v.base,v.ss,v.fr,v.rb,v.wB⟩⟩;obtain⟨_,d,h1,h2⟩:=O6 N s 0 hr aO a bR;have:(dY (cN s e nx) iv).T aO=d:=by show s.getD aO _=d;simp only[uD]at h1;rw[xA,h1];rfl
  rw[this];exact h2
 have b7:(rU c).1.length=c.ps.length:=by
  have:∀(ts:List VT) (ag:AS),(oU ts ag).1.length=ts.length:=by intro ts;induction ts with|nil=>exact aj|cons S ts ih=>intro ag;cases S<;>simp[oU,ih]
  exact aj
 have b8:=a8.length;refine⟨λad hK=>?_,λad n sg a0 al a4 hO hL h0 h1 hK=>?_⟩
 let aB:Fm:=⟨nx,λ_=>False,e⟩
 let M:bE:=⟨2,0,λz=>if z=1 then Gh.n else 0,λ_=>ae,aQ (wz c).H,e⟩
 let cb:C:={dY (cN (V.map .p) e nx) iv with T:=λ_=>.any}
 have o:wz c={T:=[],H:=[],G:=Gs.zj [dq (num 0) ⟨1,0⟩,dq ⟨1,0⟩ (num 30)] .nil,ns:=2,nb:=0,rb:=0,iz:=0,used:=[],W:=[]}:=by simp[wz,ad]
 have ao:∀l:Fr e nx,GS aB Z (wz c) M cb:=by
  intro l;refine⟨⟨(by rw[o]),(by rw[o]),rfl,aj,U,λf j=>?_⟩,λaO a q=>(by rw[o]at q;simp[aQ]at q),?_⟩;rw[o]at j⊢;have j:f∈[dq (num 0) ⟨1,0⟩,dq ⟨1,0⟩ (num 30)]:=(Gs.tH j).resolve_right Gs.O8;simp only[bt,iD,iT]at j;have n0:=Gh.W9;have n1:=Gh.Us;rcases j with rfl|rfl
  exact⟨i0,i0,λ_=>nM (by simp only[E.val,num,M];omega)⟩;exact⟨i0,i0,λ_=>nM (by simp only[E.val,num,M];omega)⟩;refine⟨λid=>(by show e id=bp e iv id;rw[ax]),aj,λb ab hb=>(by rw[o]at hb;simp[aQ]at hb),ak,ak,ak,aj,ak,?_,i0,ak,aj,U,ak⟩;rw[o];exact i0
 by_cases l:Fr e nx;obtain⟨t,h2,g2,x⟩:=Uj aj ar ar;refine main _ (V.map .p) t aB rfl rfl (by rw[ad];rfl) (λ_=>be _ _ h2 x rfl) x (by have:=x.length;simpa using this) ?_;intro _ g i s1 p u c1 S1 g1 _ aE B a5;have aR:=bd rfl S1;unfold BV at B;simp only[aq]at B;have ao:∀id,e id=ae\/e id=s1.O id:=by intro id;by_cases hi:id<nx;refine .inr ?_;have:=S1.m.frame id hi (λhh=>hh);rw[M1 S1]at this;exact this.symm;exact .inl (l id y)
 have ge:∀b row h id,aQ g.H b=J (.rows row h)->i.ν b=J id->nx<=id:=λb row h id hb k=>((S1.m.own b id (jI S1 hb) k).2).resolve_right (λhh=>hh);obtain⟨P,r,r1,x,r3,r4⟩:=CH S1 ge p 0 c.rs u e aE B.2.1 (vT B.2.2) B.1 ao (λb hb id k=>by obtain⟨row,h,a6⟩:=yb B.2.1 hb;exact l id (ge b row h id a6 k))
 exact .aX r4 (λid aS=>(r4 id).elim (λh=>h) (λh=>by rw[h,<-M1 S1];exact S1.m.fr id aS)) aR (hK s1.nx P u r aR x (a5 P r1 x) r3);exact⟨(X.of (args:=V.map .p) (K:=R) j hc (by rw[ad]at hn;simp only[fN,dC]at hn;simp only[AF.fn,d7];omega) (λhh=>absurd hh l)).1,λw an vs hi aI=>absurd aI l⟩
 let aB:Fm:=⟨nx,λid=>id=n,e⟩
 let M:bE:=⟨3,1,λz=>if z=2 then al else if z=1 then Gh.n else 0,λb=>if b=0 then J n else ae,aQ (wz c).H,e⟩
 let cb:C:={dY (cN (.ptr n sg 2 0 0::V.map .p) e nx) iv with T:=λ_=>.any}
 have o:wz c={T:=[],H:=[(0,.row [.ct qG,.int .i64 ⟨2,0⟩])],G:=Gs.zj [dq (num 0) ⟨1,0⟩,dq ⟨1,0⟩ (num 30),dq (num 0) ⟨2,0⟩,dq ⟨2,0⟩ (num (Wu-c.cost))] .nil,ns:=3,nb:=1,rb:=0,iz:=0,used:=[],W:=[]}:=by simp[wz,ad]
 have b0:∀b id,M.ν b=J id->b=0/\id=n:=by intro b id k;have k:(if b=0 then J n else ae)=J id:=k;split at k;rename_i hb;cases k;exact⟨hb,rfl⟩;cases k
 have ao:∀l:Fr e nx,GS aB Z (wz c) M cb:=by
  intro l;refine⟨⟨(by rw[o]),(by rw[o]),rfl,⟨rfl,rfl⟩,(by rw[o];show 1<3;omega),λf j=>?_⟩,λaO a q=>(by rw[o]at q;simp[aQ]at q),?_⟩;rw[o]at j⊢;have j:f∈[dq (num 0) ⟨1,0⟩,dq ⟨1,0⟩ (num 30),dq (num 0) ⟨2,0⟩,dq ⟨2,0⟩ (num (Wu-c.cost))]:=(Gs.tH j).resolve_right Gs.O8;simp only[bt,iD,iT]at j;have n0:=Gh.W9;have n1:=Gh.Us;rcases j with rfl|rfl|rfl|rfl
  exact⟨by simp[dq,num],by simp[dq],λ_=>nM (by simp only[E.val,num,M];simpa using n0)⟩;exact⟨by simp[dq],by simp[dq,num],λ_=>nM (by simp only[E.val,num,M];simpa using n1)⟩;refine⟨by simp[dq,num],by simp[dq],λ_=>nM ?_⟩;simp only[E.val,num,M];simpa using h0;refine⟨by simp[dq],by simp[dq,num],λ_=>nM ?_⟩;simp only[E.val,num,M];simpa using h1;refine⟨λid=>(by show e id=bp e iv id;rw[ax]),λid _=>rfl,λb ab hb=>?_,λb id hs k=>⟨λ_=>rfl,λha=>(by rw[o]at ha;simp[kP,iw]at ha)⟩,λb b' id _ _ k bS=>(by rw[(b0 b id k).1,(b0 b' id bS).1]),λb id _ k=>?_,λid _ _=>rfl,λnm bk=>(by rw[o]at bk;simp at bk),?_,bV _,λb id _ a4=>(by rw[o]at a4;simp at a4),λid aS=>l id aS,(by rw[o];exact rD _),λb hb=>(by rw[o]at hb;cases hb)⟩;rw[o]at hb⊢;simp only[dQ]at hb;split at hb;rename_i bT;subst bT;cases hb;refine⟨Nat.one_pos,n,2,sg,[.p a0,.p (I al)],rfl,hO,rfl,⟨a0,rfl,hL⟩,⟨?_,?_⟩,trivial⟩;show 2<3;omega;show D.p (I al)=_;simp[E.val,M];simp[aQ]at hb;obtain⟨rfl,rfl⟩:=b0 b id k;exact⟨by show e id≠ae;rw[hO];simp,.inr rfl⟩;rw[o];exact bV _
 by_cases l:Fr e nx;obtain⟨t,h2,g2,x⟩:=Uj (ao l) a8 bo;have kH:∀(ts:List VT) (ag:AS),(oU ts ag).2.H=ag.H:=by
  intro ts;induction ts with
  |nil=>intro ag;rfl
  |cons S ts ih=>intro ag;cases S with|aM S=>simp only[oU];rw[ih,(wa S ag).1]|agg us=>simp only[oU];rw[ih,(AE _ _).1,(BX us ag).1]
 have bX:(t.H 0).isSome=aa:=by rw[h2.p.vH];show(aQ (oU c.ps (wz c)).2.H 0).isSome=aa;rw[kH,o];rfl
 have q0:=g2.gu 0 (by show 0<1;omega) bX;have rp:gX t (.ptr 0 0) (.ptr n sg 2 0 0):=by refine⟨bw (show 0<1 by omega) g2.nb,λ_=>⟨n,2,sg,[.p a0,.p (I al)],q0.2.1,?_,rfl⟩⟩;rw[h2.m.m];show bp e iv n=_;rw[ax];exact hO
 have bl:t.ρ 2=al:=g2.ρ 2 (show 2<3 by omega);have n1:2<t.n:=bw (show 2<3 by omega) g2.n;refine main (.ptr 0 0::(rU c).1) (.ptr n sg 2 0 0::V.map .p) t aB rfl rfl (by rw[ad];rfl) (λ_=>be _ _ h2 ⟨rp,x⟩ rfl) x (by have:=x.length;simpa using this) ?_;intro _ g i s1 p u c1 S1 g1 ac aE B a5;have aR:=bd rfl S1;unfold BV at B;simp only[aq]at B;unfold Kq at ac;rw[ad]at ac;simp only[aT]at ac;split at ac;rename_i lc h hl;simp only[aq]at ac;obtain⟨f1,f2,f3⟩:=ac;have bm:=jI S1 hl;obtain⟨p1,p2,p3⟩:=g1.gu 0 (bw (show 0<1 by omega) g2.nb) bm;have bZ:t.M n=J (.row 2 sg [[.p a0,.p (I al)]]):=by rw[h2.m.m];show bp e iv n=_;rw[ax];exact hO
 obtain⟨b9,m1,m2⟩:=zw ((p3 n q0.2.1).trans (by rw[bZ];rfl));obtain⟨_,ca,s',g',r',w1,w2,w3,w4⟩:=S1.m.heap 0 _ hl;rw[p2,q0.2.1]at w1;cases w1;rw[m1]at w2;cases w2
 match r',w4 with
 |[bH,da],w4=>
  obtain⟨L2,rfl,b3⟩:=B8 S1.p f1 w4.1;obtain⟨e1,e2⟩:=w4.2.1;subst e2;have l1:=dP S1.p.hf f2;have l2:=dP S1.p.hf f3;have v1:(⟨2,0⟩:E).val i.ρ=al:=by simp only[E.val];rw[g1.ρ 2 n1,bl];omega
  have v2:(⟨2,c.cost⟩:E).val i.ρ=al+c.cost:=by simp only[E.val];rw[g1.ρ 2 n1,bl]
  rw[v1]at l1;rw[v2]at l2;have mS:=M1 S1 n;rw[m1]at mS;have ge:∀b row h id,aQ g.H b=J (.rows row h)->i.ν b=J id->nx<=id/\id≠n:=by
   intro b row h id hb k;have bn:id≠n:=by rintro rfl;have:=S1.m.inj b 0 id (jI S1 hb) bm k (p2.trans q0.2.1);subst this;rw[hl]at hb;cases hb
   exact⟨((S1.m.own b id (jI S1 hb) k).2).resolve_right bn,bn⟩
  have ao:∀id,am e n (J (.row 2 sg [[.p L2,.p (I (h.val i.ρ))]])) id=ae\/am e n (J (.row 2 sg [[.p L2,.p (I (h.val i.ρ))]])) id=s1.O id:=by intro id;by_cases hs:id=n;subst hs;refine .inr ?_;rw[bi];exact mS;rw[ai hs];by_cases hi:id<nx;refine .inr ?_;have:=S1.m.frame id hi (λhh=>hs hh);rw[M1 S1]at this;exact this.symm;exact .inl (l id y)
  obtain⟨P,r,r1,x,r3,r4⟩:=CH (nx:=nx) S1 (λb row h id hb k=>(ge b row h id hb k).1) p 0 c.rs u _ aE B.2.1 (vT B.2.2) B.1 ao (λb hb id k=>by obtain⟨row,h,a6⟩:=yb B.2.1 hb;obtain⟨h1,h2⟩:=ge b row h id a6 k;rw[ai h2];exact l id h1)
  exact .aX (O':=r) r4 (λid aS=>(r4 id).elim (λh=>h) (λh=>by rw[h,<-M1 S1];exact S1.m.fr id aS)) aR (hK s1.nx P _ L2 u r aR x b3 l1 l2 (a5 P r1 x) r3)
 cases ac;exact⟨(X.of (args:=.ptr n sg 2 0 0::V.map .p) (O:=e) (nx:=nx) (K:=R) j hc (by rw[ad]at hn;simp only[aT,ij]at hn;simp only[AF.fn,ij,d7];omega) (λhh=>absurd hh l)).1,λw an vs hi aI=>absurd aI l⟩
end
end Go.Dl.Ai
namespace Go.Dl.Ai
variable [Gh]
def wF.nil{b:Program}:wF b ⟨[],[],[]⟩:=⟨λ_ a=>(by cases a),λ_ _ a=>(by cases a),λ_ _ a=>(by cases a)⟩
def wF.sp{a:Program}{sp:SP}{d:List SP}{e:List (Nat×AF)}{f:List (Nat×Nat)}(g:bz a sp)(b:wF a ⟨d,e,f⟩):wF a ⟨sp::d,e,f⟩:=⟨λh c=>by rcases bt.1 c with rfl|c;exact g;exact b.KR h c,b.fns,b.LS⟩
theorem wF.fn{a:Program}{F:AF}{fn:Func}{d:List SP}{e:List (Nat×AF)}{g:List (Nat×Nat)}(j:a.funcs[f]? =J fn)(k:cW a fn=J F.fn)(c:wF a ⟨d,e,g⟩):wF a ⟨d,(f,F)::e,g⟩:=⟨c.KR,λh i b=>by simp only[aQ]at b;split at b;rename_i hb;cases b;have hb:=aK hb;grind;exact c.fns h i b,c.LS⟩
theorem wF.Ug{b:Program}{d:Nat}{e:List SP}{g:List (Nat×AF)}{h:List (Nat×Nat)}(k:J1 b f d)(c:wF b ⟨e,g,h⟩):wF b ⟨e,g,(f,d)::h⟩:=⟨c.KR,c.fns,λi j a=>by simp only[aQ]at a;split at a;rename_i hb;cases a;have hb:=aK hb;grind;exact c.LS i j a⟩
end Go.Dl.Ai
namespace Go.Dl.Ai
def zs(a:List (Nat×List Nat))(b:Nat):List Nat:=(aQ a b).getD []
end Go.Dl.Ai
namespace Go.Dl.Ai
section
variable [Gh]
def bz.n{e:Program}{a:SP}(g:a.uK=Z)(h:∀(b:ah) (nx:Nat) (R:D->ah->Nat->Prop) (V:List P),Vs a.ps V->Pre a V->
 (∀N d u r,nx<=N->Vs a.rs d->OO a V d->lg nx N a.os 0 a.rs d u b r->R (aM u) r N)->X e a.f (V.map .p) b nx R):bz e a:=
 λb nx R V i W=>⟨λ_ j=>h b nx R V i W j,λf=>by rw[g]at f;cases f⟩
def bz.s{i:Program}{a:SP}(m:a.uK=aa)(o:∀(b:ah) (nx:Nat) (R:D->ah->Nat->Prop) (V:List P),Vs a.ps V->Pre a V->
 ∀(e f:Nat) (j:P) (d:Int),e<nx->b e=J (.row 2 f [[.p j,.p (I d)]])->CT.ok qG j->0<=d->d<=Wu-a.cost->
 (∀N g h k u r,nx<=N->Vs a.rs g->CT.ok qG k->d<=h->h<=d+a.cost->OO a V g->lg nx N a.os 0 a.rs g u (am b e (J (.row 2 f [[.p k,.p (I h)]]))) r->R (aM u) r N)->X i a.f (.ptr e f 2 0 0::V.map .p) b nx R):bz i a:=
 λb nx R V p W=>⟨λl=>(by rw[m]at l;cases l),λ_=>o b nx R V p W⟩
theorem Vs.cons{d:VT}{e:List VT}{c:List P}(f:Vs (d::e) c):∃a b,c=a::b/\VT.ok d a/\Vs e b:=by cases c with|nil=>exact aj|cons a b=>exact⟨a,b,rfl,f.1,f.2⟩
theorem Vs.nil{a:List P}(b:Vs [] a):a=[]:=by cases a with|nil=>rfl|cons=>exact aj
theorem Row.cons{d:CT}{e:List CT}{a:List P}(f:Row (d::e) a):∃b c,a=b::c/\CT.ok d b/\Row e c:=by cases a with|nil=>exact aj|cons b c=>simp[Row]at f;grind
theorem Row.nil{a:List P}(b:Row [] a):a=[]:=by cases a with|nil=>rfl|cons=>exact aj
end
end Go.Dl.Ai
namespace Go.Dl
inductive wR:D->ah->D->ah->Prop|refl (d:D) (O:ah):wR d O d O|step (id g s:Nat) (ps:List (List P)) {d d':D} {O r:ah} (hO:O id=J (.row s g (ps.map (·.map .p)))) (h:wR (gx id g s ps d) (am O id ae) d' r):wR d O d' r
def Iy{id b c:Nat}{d:List (List P)}{a:ah}:j8 (λ_=>False) id b c d a=am a id ae:=by funext k;simp only[j8,am];simp
theorem wR.Ah{a:Hp}{l:D}{b:ah}(m:wR d b l r):∀{e:cC} {i:Value} (f:Nat->Prop),iA a e b->D.rd a e d i->∃g,iA a g r/\D.rd a g l i/\eI f a e b a g r/\∀nx,Fr b nx->Fr r nx:=by induction m with|refl d b=>exact λf h j=>⟨_,h,j,eI.refl _ _ _ _,U⟩|step id t u v k m ih=>intro e i f h j;have n:=RO (sel:=λ_=>False) h k;have o:=SY (c:=e) (H:=a) (sel:=λ_=>False) k f;rw[Iy]at n o;obtain⟨g,p,q,g3,s⟩:=ih f n (zS h k _ _ j);refine⟨g,p,q,o.trans g3,λnx w=>s nx λx y=>?_⟩;simp only[am];split;rfl;exact aj
def X.rW{c:Program}{e:cB}{f:ah}(g:X c e V f nx λd r N=>∃a b,wR d r a b/\R a b N):X c e V f nx R:=by refine⟨g.1,λw h i j k l m=>(g.2 w h i j k l m).mono λB C n=>?_⟩;obtain⟨o,D,d,r,N,p,⟨a,b,q,s⟩,t,u,v,E,x⟩:=n;obtain⟨y,z,A,g3,F⟩:=q.Ah (λid=>nx<=id) u t;exact⟨o,y,a,b,N,p,s,A,z,v.trans g3,U,x⟩
end Go.Dl
namespace Go.Dl
@[simp]def jU{A B:Prop}:sC (.p (.v (.bool aa))) A B=A:=Y
@[simp]def iV{A B:Prop}:sC (.p (.v (.bool Z))) A B=B:=Y
@[congr]def an2{a:D}{A B:Prop}(b:a=bZ):sC a A B=sC bZ A B:=by rw[b]
def wK:D->Bool->Prop->Prop->Prop
 |.p (.v (.bool b)),bS,A,B=>match b,bS with|true,aa=>A|false,Z=>A|_,_=>B
 |.p (.v (.tuple _)),_,_,B=>B|_,_,_,_=>False
def fi{c:Option Nat}{d:Nat}{f:Bool}{a:St}{e:St->Prop}:eN aR (⟨c,cg,J (d,bS),f⟩::bn) a e=wK (a.T d) bS (aN aR cg a λz g nx=>eN aR bn {a with T:=eE a.T c z,O:=g,nx:=nx} e) (eN aR bn {a with T:=eE a.T c (.p (.v undef))} e):=by
 simp[bW];cases a.T d with
 |p z=>cases z with
  |v aS=>cases aS with
   |bool b=>cases b<;>cases bS<;>rfl
   |_=>rfl
  |_=>rfl
 |_=>rfl
@[simp]def aqT{A B:Prop}:wK (.p (.v (.bool aa))) aa A B=A:=rfl
@[simp]def aql{A B:Prop}:wK (.p (.v (.bool Z))) Z A B=A:=rfl
@[simp]def aqa{A B:Prop}:wK (.p (.v (.bool aa))) Z A B=B:=rfl
@[simp]def aqj{A B:Prop}:wK (.p (.v (.bool Z))) aa A B=B:=rfl
@[simp]def am2{A B:Prop}:wK (.p (.v undef)) w A B=B:=rfl
@[congr]def ajT{a:D}{A B:Prop}(b:a=bZ):wK a w A B=wK bZ w A B:=by rw[b]
def cQ{b c d:dh}{a:St}:aN aR (.pick b c d) a R=sC (a.ev b) (R (a.ev c) a.O a.nx) (R (a.ev d) a.O a.nx):=by
 simp[cV];cases a.ev b with
 |p z=>cases z with
  |v aS=>cases aS with
   |bool e=>cases e<;>simp
   |_=>rfl
  |_=>rfl
 |_=>rfl
def Fr.lt{a:ah}{b id:Nat}(d:Fr a b){e:fg}(c:a id=J e):id<b:=by refine iP λf=>?_;rw[d id f]at c;cases c
def nz(b:ah)(g:Nat)(c:Nat)(a:List (List P))(d:D)(e:ah):Prop:=
 (a=[]/\d=.p (.v (.slice ae 0 0))/\e=b)\/
  ∃id f,g<=id/\d=.sl id f 0 a.length c Z/\e=am b id (J (.row c f (a.map (·.map .p))))
def jq(e:ah)(f:Nat)(b:Nat)(a:List (List P))(c:D):Prop:=(a=[]/\c=.p (.v (.slice ae 0 0)))\/∃id d,f<=id/\c=.sl id d 0 a.length b Z/\e id=J (.row b d (a.map (·.map .p)))
theorem jq.mono{a:Nat}(b:jq r nx a l d)(c:m<=nx):jq r m a l d:=by rcases b with b|⟨id,e,f,g,h⟩;exact aj;exact .inr ak
theorem jq.done{b:ah}{c:Nat}(j:jq r nx c l d)(e:Fr b nx)(k:Fr r N)(f:nx<=N)(p:∀a,a<nx->r a=b a)(h:∀g,nz b nx c l d g->Fr g N->R d g N):ji nx R r N d:=by rcases j with⟨rfl,rfl⟩|⟨id,m,q,rfl,n⟩;exact .low e f U (h _ (.inl Y) bK);have i:Fr (am b id (J (.row c m (l.map (·.map .p))))) N:=(e.mono f).am (k.lt n);refine .aX (λa=>?_) i f (h _ (.inr ak) i);by_cases o:a=id;exact U;rw[ai o];by_cases s:a<nx;exact U;exact .inl (e a y)
theorem jq.apz{f:ah}{k m:Nat}{n:List (List P)}{p w:D}(z:jq r nx k l d)(b:jq r nx m n p)(A:∀id g a h q B C s2,d=.sl id g 0 a C Z->p=.sl h q 0 B s2 Z->id≠h)(c:Fr f nx)(s:Fr r N)(e:nx<=N)(H:∀a,a<nx->r a=f a)(o:∀t u,nz f nx k l d t->nz t nx m n p u->Fr t N->Fr u N->R w u N):ji nx R r N w:=by rcases z with⟨rfl,rfl⟩|⟨id,g,E,rfl,v⟩;rcases b with⟨rfl,rfl⟩|⟨id,g,E,rfl,v⟩;exact .low c e U (o _ _ (.inl Y) (.inl Y) (c.mono e) bK);have b:Fr (am f id (J (.row m g (n.map (·.map .p))))) N:=(c.mono e).am (s.lt v);refine .aX (λa=>?_) b e (o _ _ (.inl Y) (.inr ak) (c.mono e) b);by_cases i:a=id;exact U;rw[ai i];by_cases x:a<nx;exact U;exact .inl (c a y);have j:Fr (am f id (J (.row k g (l.map (·.map .p))))) N:=(c.mono e).am (s.lt v);rcases b with⟨rfl,rfl⟩|⟨h,q,I,rfl,F⟩;refine .aX (λa=>?_) j e (o _ _ (.inr ak) (.inl Y) j j);by_cases i:a=id;exact U;rw[ai i];by_cases x:a<nx;exact U;exact .inl (c a y);have A:=aj;have b:Fr (am (am f id (J (.row k g (l.map (·.map .p))))) h (J (.row m q (n.map (·.map .p))))) N:=j.am (s.lt F);refine .aX (λa=>?_) b e (o _ _ (.inr ak) (.inr ak) j b);by_cases G:a=h;exact U;rw[ai G];by_cases i:a=id;exact U;rw[ai i];by_cases x:a<nx;exact U;exact .inl (c a y)
theorem nz.rW{a c:ah}{b:Nat}(g:Fr a nx)(h:nz a nx b l d c):∃e,wR d c (.p e) a/\Sl b e l:=by
 rcases h with⟨rfl,rfl,rfl⟩|⟨id,f,i,rfl,rfl⟩;exact⟨_,aj,aj⟩;refine⟨.im l b Z,?_,aj⟩;refine .step id f b l Y ?_;have j:am (am a id (J (.row b f (l.map (·.map .p))))) id ae=a:=by rw[oS];funext k;by_cases m:k=id;subst m;rw[bi,g k i];exact U
 rw[j];simp only[gx,bf,bV,gK];rw[cp y];exact aj
def YJ{c:ah}{id d a:Nat}{b:List (List D)}(e:c id=J (.row a d b)):fF c a (.sl id d 0 b.length a Z)=J b:=by simp[fF,e]
theorem uI{nm b:Nat}{a:St}{ys:List (List P)}(c:jq a.O m b l (a.ev z))(f:fO a.O b (a.ev aS)=J (ys.map (·.map .p)))(g:(l.length+ys.length)*bM<=2^47)(h:l.length+ys.length<=2^47)(i:m<=a.bs+nm)(j:∀id d,m<=id->((id=a.bs+nm/\a.ev z=.p (.v (.slice ae 0 0)))\/∃e,a.ev z=.sl id e 0 l.length b Z/\a.O id=J (.row b e (l.map (·.map .p))))->R (.sl id d 0 (l++ys).length b Z) (am a.O id (J (.row b d ((l++ys).map (·.map .p))))) a.nx):aN aR (.j4 nm b bM z aS) a R:=by
 simp[lB,f];rcases c with⟨rfl,c⟩|⟨id,d,k,c,n⟩
 grind;grind
theorem jq.fO{b:ah}{e c:Nat}{a:List (List P)}{d:D}(f:jq b e c a d):fO b c d=J (a.map (·.map .p)):=by rcases f with⟨rfl,rfl⟩|⟨id,h,i,rfl,g⟩;exact aj;have:a.length=(a.map (·.map D.p)).length:=Y;simp[Dl.fO];rw[this];exact YJ g
theorem nz.num{e:ah}{a:Nat}(f:nz e nx a l d r):jq r nx a l d:=by rcases f with⟨b,c,_⟩|⟨id,g,b,c,h⟩;exact aj;exact .inr ⟨id,g,b,c,U⟩
theorem nz.low{b:ah}{c:Nat}(e:nz b nx c l d r):∀a,a<nx->r a=b a:=by rcases e with⟨_,_,rfl⟩|⟨id,f,g,_,rfl⟩;exact U;exact aj
theorem jq.aL{a:ah}{e:Nat}(f:jq a m e l d)(h:Fr a b)(i:∀c,c<b->r c=a c):jq r m e l d:=by rcases f with f|⟨id,j,k,n,g⟩;exact aj;exact .inr ⟨id,j,k,n,by rw[i id (h.lt g)];exact g⟩
namespace Ai
theorem nz.rs{b:ah}{a:Nat}{lo hi:Int}(i:a=row.length)(j:Fr b nx)(e:Fr r N)(f:nz b nx a l d r):∃c,Sl a c l/\lg nx N [0] 0 [.aM (.aY row lo hi)] [c] [d] b r:=by rcases f with⟨rfl,rfl,rfl⟩|⟨id,g,h,rfl,rfl⟩;exact⟨_,aj,by simp[lg]⟩;refine⟨.im l a Z,aj,?_⟩;simp only[lg];exact .inr ⟨l,a,id,g,rfl,U,h,e.lt (by rw[bi]),aj,rfl,rfl⟩
end Ai
end Go.Dl
namespace Go.Dl.Ai
structure zi(em es:List (List P)):Prop where
 len:es.length<=5
 row:∀(i:Nat) x,es[i]? =J x->∃a p bn,x=S a::S p::bn/\a.size≠0/\a.size<=12/\(p.size=0\/∃j r',j<i/\es[j]? =J r'/\mF r'=p)
 inj:∀(i j:Nat) x r',es[i]? =J x->es[j]? =J r'->mF x=mF r'->i=j
 st:∀x∈es,mG em x<=100
 on:∀x∈es,uT x<=100
 NH:∀f,kw em f<=2
def AD{a:ByteArray}:named a x=aa↔mF x=a:=by unfold named;rw[yF];exact oZ _ _
section
variable {c es:List (List P)}
def zi.NT(e:zi c es){a:Nat}(b:es[a]? =J x):iW (named (mF x)) es=a:=by refine yZ b (AD.2 rfl) λf d i g=>?_;cases h:named (mF x) d with|false=>rfl|true=>have:=e.inj f a d x g b (AD.1 h);omega
def zi.AG(d:zi c es)(e:∃x∈es,mF x=a):∃(b:Nat) (x:List P),es[b]? =J x/\mF x=a/\iW (named a) es=b:=by obtain⟨x,f,rfl⟩:=e;obtain⟨b,g,rfl⟩:=eD f;exact⟨b,_,Y,rfl,d.NT Y⟩
theorem zi.abW(f:zi c es){b:Int}{g:List Int}(i:lj es b g): -1<=b->(g.length:Int)<=b+1:=by
 induction i with
 |FB d o=>grind
 |step d x g h i ih=>
  intro _;obtain⟨a,e,bn,rfl,_,_,W⟩:=f.row d x h;have p:=ih qC;have q:iW (named (QN (S a::S e::bn))) es<d:=by
   show iW (named e) es<d;rcases W with W|⟨b,r,s,k,t⟩
   have:iW (named e) es= -1:=by refine Ct λx h=>?_;obtain⟨j,l,rfl⟩:=eD h;obtain⟨u,v,w,m,y,_⟩:=f.row j _ (bh l);cases n:named e es[j] with|false=>rfl|true=>have:=AD.1 n;rw[m]at this;have this:=ar;subst this;exact aj
   omega;have:=f.NT k;grind
  simp;omega
theorem zX{f:List P->Nat}{es:List (List P)}(a:∀x∈es,f x<=100):∀{l:List Int},(∀i∈l,0<=i/\i<es.length)->sF f es l<=100*l.length|[],_=>i0|i::l,b=>by have h:=b i ja;have c:=zX a λd e=>b d (jz _ e);have g:i.toNat<es.length:=y;have j:=a _ (bJ g);unfold sF at c⊢;grind
open Classical in
noncomputable def Wf(a:List (List P))(b:ByteArray):List Int:=if h:∃l,lj a (iW (named b) a) l then h.choose else []
theorem an0{b:List (List P)}{c:List Int}(e:lj b (iW (named a) b) c):Wf b a=c:=by have d:∃c,lj b (iW (named a) b) c:=aj;unfold Wf;rw[dif_pos d];exact d.choose_spec.inj e
def WW(b:zi c es){d:List P->Nat}(f:∀x∈es,d x<=100):sF d es (Wf es a)<=500:=by unfold Wf;split;rename_i g;have e:=g.choose_spec;have h:=b.abW e qC;have i:=zX f e.range;have j:=pP (pr:=named a) (es:=es);have:=b.len;omega;simp[sF]
noncomputable def DT(d a:List (List P))(b:ByteArray)(c:Nat):Int:=if c=0 then iW (named b) a else if c=1 then sF (mG d) a (Wf a b) else if c=2 then sF uT a (Wf a b) else 0
@[reducible] noncomputable def arY(em c:List (List P))(h:zi em c)(kc kk:List (List P)->Prop)(o:∀c q,kc c->kc (c++q)):Gh where
 kc:=kc
 kk:=kk
 Ro:=o
 n:=c.length
 nm a:=∃x∈c,mF x=a
 kS:=DT em c
 pre l:=∃k,l=c.take k
 NH l:=l=em
 Cb a ha:=by obtain⟨i,x,h1,h2,_⟩:=h.AG ha;obtain⟨g,p,bn,rfl,_,h3,_⟩:=h.row i x h1;have h2:g=a:=h2;rw[<-h2];exact h3
 sH a d ha:=by obtain⟨i,x,_,_,h3⟩:=h.AG ha;unfold DT;split;omega;split;omega;split<;>omega
 ED a ha:=by have:=pP (pr:=named a) (es:=c);simpa[DT]using this
 MX a d ha:=by have h1:=pP (pr:=named a) (es:=c);have h2:=h.len;have h3:=WW h (a:=a) h.st;have h4:=WW h (a:=a) h.on;unfold DT;split;omega;split;omega;split<;>omega
 Ex em' f e:=by subst e;exact h.NH f
 W9:=y
 Us:=by have:=h.len;omega
 FD l k e:=by obtain⟨m,rfl⟩:=e;exact⟨min k m,by rw[AZ]⟩
 pre_nil:=⟨0,Y⟩
 EP l e:=by obtain⟨m,rfl⟩:=e;simp;omega
 aeZ a ha:=by obtain⟨i,x,h1,h2,_⟩:=h.AG ha;obtain⟨g,p,bn,rfl,h3,_⟩:=h.row i x h1;have h2:g=a:=h2;rw[<-h2];exact h3
 aa3 a b ha hb e:=by obtain⟨i,x,h1,h2,h3⟩:=h.AG ha;obtain⟨d,j,h4,h5,h6⟩:=h.AG hb;simp only[DT,aT]at e;have:i=d:=y;subst this;rw[h1]at h4;cases h4;rw[<-h2,<-h5]
 Er l i x e hr:=by
  obtain⟨m,rfl⟩:=e;rw[nv]at hr;split at hr;obtain⟨a,p,bn,rfl,h3,h4,h5⟩:=h.row i x hr;refine⟨a,p,bn,rfl,⟨_,iS hr,rfl⟩,?_,?_⟩;simp only[DT,aT];exact h.NT hr;rcases h5 with h5|⟨d,j,h6,h7,h8⟩
  exact .inl h5;refine .inr ⟨⟨j,iS h7,h8⟩,?_⟩;have:=h.NT h7;rw[h8]at this;simp only[DT,aT];omega;cases hr
 je em' l a ch e1 e2 e3 ha hc:=by
  subst e1;obtain⟨m,rfl⟩:=e2;have:c.take m=c:=by rw[cp];simp at e3;omega
  rw[this]at hc⊢;have:=an0 hc;simp[DT,this]
end
end Go.Dl.Ai
section
open Go Go.Dl Go.Dl.Ai
namespace Ty
def i64(a b:Int):CT:=.int .i64 a b
def gW:CT:=i64 (-9223372036854775808) 9223372036854775807
def nm:CT:=.str 100
def en:CT:=.nm 0
def kd:CT:=i64 0 10
def kf:List CT:=[kd,gW,.str 100]
def ma:List CT:=[gW,gW,.str 140737488355328]
def Af:List CT:=[nm,.str 300,kd]
def nY:Nat->List CT|0=>[kd,i64 0 30,i64 0 100]++kf++[.str 300,.str 300,.bool,.nil,.nil,.nil,.nil]|n+1=>[kd,i64 0 30,i64 0 100]++kf++[.str 300,.str 300,.bool,.aY (nY n) 0 10,.nil,.nil,.nil]
def aY(a:List CT)(b:Int):CT:=.aY a 0 b
def alf:CT:=aY Af 1000
def EY:CT:=aY [.str 0,.str 300,kd] 1000
def CX:List CT:=[nm,kd,nm,.bool]++kf++[aY [nm] 3,aY (nY 2) 1]
def Cf:List CT:=[nm,kd,nm,.bool]++kf++[aY [nm] 3,.nil]
def Mw:List CT:=[nm,aY Cf 2]
def zy:List CT:=[nm,kd,en,nm,.bool,kd,.bool]
def apL:List CT:=[.em 5,kd,en,nm,.bool,kd,.bool]
def names:CT:=aY [nm] 1000
def rZ(a:Nat):List CT:=[.nm a,nm,.bool,.bool,.bool,.bool,aY CX 3,aY apL 7,aY [aY [.str 300] 2] 10,aY [aY [.str 300] 2] 10]
def nT:List CT:=rZ 0
def Jz:List CT:=[aY Mw 2,aY (rZ 0) 5]
def UV:List CT:=[.str 300,en,kd,.str 0,.bool]
def abG:List CT:=[nm,en,i64 0 0,en,.bool]
def afx:List CT:=[.str 300,en,kd,nm,.bool]
def je(a:Int):CT:=aY afx a
def Ab:List CT:=[.str 400,kd,.bool]++kf
def zQ:List CT:=[nm,aY [.str 400] 30,nm]
def M0:List CT:=[.str 10000,aY [.str 400] 100,.bool]
def MV:List CT:=[.str 400,aY Ab 1000,aY [.str 400] 14,aY zQ 1000,aY M0 1000]
def W8(a:CT):List CT:=[a,i64 0 10,gW,i64 0 10]++kf++[aY kf 1000,aY [gW] 1000]
def jy:List CT:=W8 (.nm 3)
def yU:List CT:=[en,nm,i64 0 10,gW,gW]
def aoU:List CT:=[nm,kd,nm,nm,.bool,kd,.bool]
def lU:List CT:=[aY jy 10,aY yU 10]
def Ot:List CT:=[aY jy 50,aY yU 10]
def M:VT:=.agg Jz
def OG:List CT:=[.em 4,aY Cf 2]
def oi:List CT:=[aY OG 2,.aY (rZ 2) 1 5]
def MG:VT:=.agg oi
def tMP:List CT:=[aY Mw 2,.aY (rZ 1) 0 5]
def yh:List CT:=[.em 6,kd,.bool]++kf
def B5:List CT:=[.str 400,aY yh 1000,.aY [.em 7] 1 2,aY zQ 1000,aY M0 1000]
def qi:AS:={T:=[(2,.ptr 0 0),(3,.ptr 1 0),(4,.ptr 2 0),(5,.ptr 3 0),(6,.ptr 4 0)],H:=[(0,.row [.ct (aY OG 2),.aY (rZ 2) ⟨1,0⟩ Z]),(1,.row (nT.map .ct)),(2,.row [.ct (.str 0),.nil,.nil,.nil,.nil]),(3,.row (nT.map .ct)),(4,.row [.ct (.nm 0),.own 5,.ct (.aY [.em 7] 1 2),.nil,.nil]),(5,.rows yh ⟨2,0⟩)],G:=Gs.zj [dq (num 1) ⟨1,0⟩,dq ⟨1,0⟩ (num 5),dq (num 1) ⟨2,0⟩,dq ⟨2,0⟩ (num 2)] .nil,ns:=3,nb:=6,rb:=0,iz:=0,used:=[],W:=[]}
end Ty
end
section
open Go Go.Dl Go.Dl.Ai
namespace Go.Dl
abbrev S1:SP:=⟨177,Z,[.aM (.str 10),.aM (.z 0 200)],[.aM (.str 2000)],0,[],[],[]⟩
abbrev S2:SP:=⟨302,Z,[.aM (.str 1000),.aM (.int .u8 0 255)],[.aM (.z (-1) 999)],0,[([],[⟨3,1,-1⟩])],[],[]⟩
abbrev S20:SP:=⟨90,Z,[.aM (.str 1000),.aM .bool],[.aM .bool],0,[],[],[]⟩
abbrev S21:SP:=⟨279,Z,[.aM (.str 1000)],[.aM .bool],0,[],[],[]⟩
abbrev S33:SP:=⟨17,Z,[.agg Ty.oi,.aM (.nm 0)],[.aM (.aY [.nm 0] 1 5)],0,[],[],[]⟩
abbrev S35:SP:=⟨97,Z,[.agg Ty.oi,.aM (.z 0 4)],[.aM (.aY [.str 100] 5 1000)],0,[],[⟨3,2,-1⟩],[0]⟩
abbrev S40:SP:=⟨103,Z,[.agg Ty.oi,.agg (Ty.rZ 0)],[.aM (.aY Ty.UV 0 6)],0,[],[],[0]⟩
abbrev S41:SP:=⟨104,Z,[.agg (Ty.rZ 0)],[.aM (.aY Ty.abG 0 6)],0,[],[],[0]⟩
abbrev S54:SP:=⟨186,Z,[.agg Ty.afx],[.aM (.str 400)],0,[],[],[]⟩
abbrev S61:SP:=⟨116,Z,[.aM (.str 9223372036854775807),.aM (.str 9223372036854775807)],[.aM (.z (-1) 1)],0,[],[],[]⟩
abbrev S62:SP:=⟨105,Z,[.aM (.aY [.aY [.aY [.str 300] 0 2] 0 10] 2 2)],[.aM (.aY [.aY [.str 300] 0 2] 0 20)],0,[],[],[]⟩
abbrev S72:SP:=⟨49,Z,[.agg Ty.oi],[.agg [.aY Ty.MV 0 1000]],0,[],[],[]⟩
abbrev S79:SP:=⟨57,Z,[.agg Ty.oi,.agg Ty.Ot,.aM (.str 100),.aM (.z 0 10),.aM Ty.gW],[.agg [.str 100,.z 0 10,Ty.gW,.z 0 10,.z 0 10,Ty.gW,.str 100,.aY Ty.kf 0 1000,.aY [Ty.gW] 0 1000],.aM .bool],0,[],[],[]⟩
abbrev S85:SP:=⟨64,Z,[.agg Ty.oi,.agg Ty.lU],[.agg [.aY [.str 400,.aY [.aY Ty.ma 0 1000] 0 100] 0 1000]],0,[],[],[]⟩
end Go.Dl
end
namespace Go.Dl.Ai
section
theorem mJ{g:cR}(f:mu g):∀(d:av) {e:St} {Q:aV->St->Prop},bx g d e Q->cH g d e Q
 |.skip,e,_,c=>⟨e,aj,c⟩|.ret,e,_,c=>⟨e,aj,c⟩|.qm,_,_,c=>c.elim|.exit _,e,_,c=>⟨e,aj,c⟩|.dg _ _ _,e,_,c=>⟨e,aj,c⟩|.seq a b,e,Q,c=>gw f a (λh i j=>by cases h with|normal=>exact mJ f b j|_=>exact j) (mJ f a c)
 |.cond o a b,e,Q,c=>by
  simp only[bx,cH]at c⊢;split at c;rename_i h
  (try simp[h])
  split at c;exact mJ f a c;exact mJ f b c;exact U
 |.block id a,e,Q,c=>mJ f a c|.loop a,e,Q,c=>by obtain⟨k,l,c⟩:=c;exact⟨k,l,λm i n=>mJ f a (c m i n)⟩
def bU(f:mu aR){a b:av}{c:St}(g:bx aR a c λe d=>match e with|.normal=>cH aR b d Q|e=>Q e d):cH aR (.seq a b) c Q:=mJ f a g
@[congr]def an3{a:av}{b:St}:cH aR a b Q=cH aR a b Q:=Y
variable [Gh]
theorem mY{g h:Nat}:∀{e:List VT} {f:Nat} {b:List P} {u:List D} {c r:ah},lg g h [] f e b u c r->u=b.map .p/\r=c|[],_,[],[],_,_,a=>aj|[],_,_::_,_,_,_,a=>aj|[],_,[],_::_,_,_,a=>aj|_::_,_,[],_,_,_,a=>aj|_::_,_,_::_,[],_,_,a=>aj|t::e,f,i::b,d::u,c,r,a=>by simp only[lg]at a;obtain⟨rfl,a⟩:=a;obtain⟨rfl,rfl⟩:=mY a;simp
def atF(b:List VT)(c:List AT)(d:aV)(a:AS):Bool:=match d with
 |.normal|.ret=>match zW a c with|some l=>BV a [] l b|none=>Z
 |_=>Z
def M6(b:List CT)(c:List Nat)(d:List AT)(e:aV)(a:AS):Bool:=match e with
 |.normal|.ret=>match zW a d with|some [.agg f]=>BV a c f (b.map .aM)|_=>Z
 |_=>Z
theorem aiQ{q:Program}{en:En}(D:wF q en){s:Nat}{h:AC}{g:List AT}{l:List Nat}{m:AS}{t:bE}{n:St}{a:ah}(E:run (Kh en s) h m (M6 row l g)=aa)(F:oD m)(G:Fr a nx)(H:GS ⟨nx,λ_=>False,a⟩ Z m t (dY n iv))(I:∀N i d u r,nx<=N->Vs (row.map .aM) i->lg nx N l 0 (row.map .aM) i u a r->FH d u->Fr r N->R d r N):
 cH (X q) h.jf n λc o=>(c=.normal\/c=.ret)/\jt o g λu=>ji nx R o.O o.nx (aM u):=by
 have L:∀(a:ah),bp a iv=a:=λa=>by funext id;simp only[bp];cases a id<;>rfl
 have:=rO br (Lk D s) h _ t _ n E F H;refine gw br h.jf (λc s1 M=>?_) this;obtain⟨p,v,e,O,S1,g1⟩:=M;have P:∀id,v.M id=s1.O id:=by intro id;rw[S1.m.m];show bp s1.O iv id=_;rw[L]
 have w:nx<=s1.nx:=by have h1:=S1.m.room;have x:=S1.m.base;have e1:(dY s1 iv).bs=s1.bs:=rfl;have e2:(dY s1 iv).nx=s1.nx:=rfl;have x:nx<=(dY s1 iv).bs:=x;omega
 have ac:∀j,zW p g=J [.agg j]->BV p l j (row.map .aM)=aa->jt s1 g λu=>ji nx R s1.O s1.nx (aM u):=by
  intro j Q k;refine B6 (K:=λ_=>True) g _ _ S1 O Q λbH f=>?_
  match bH,f with
  |[d],f=>
   obtain⟨u,ad,S⟩:=f.1;unfold BV at k;simp only[aq]at k;have ag:∀id,a id=ae\/a id=s1.O id:=by intro id;by_cases T:id<nx;refine .inr ?_;have:=S1.m.frame id T Y;grind;exact .inl (G id y)
   have V:∀b row c id,aQ p.H b=J (.rows row c)->v.ν b=J id->nx<=id:=λb row c id hb z=>((S1.m.own b id (jI S1 hb) z).2).resolve_right Y;obtain⟨i,r,r1,W,r3,A⟩:=CH S1 V j 0 (row.map .aM) u a S U (vT U) k.1 U (λb hb id z=>by obtain⟨row,c,al⟩:=yb k.2.1 hb;exact aj)
   have B:Fr r s1.nx:=λid ab=>(A id).elim U (λc=>by rw[c,<-P];exact S1.m.fr id ab);exact .aX A B w (I s1.nx i d u r w W r3 ar B)
  |[],f=>exact aj|_::_::_,f=>exact f.2.elim
 cases c with
 |normal=>refine⟨Y,?_⟩;simp only[M6]at e;grind|ret=>refine⟨Y,?_⟩;simp only[M6]at e;grind|exit C=>cases e
 |goto C=>cases e
 |panic C=>cases e
 |outgrown=>cases e
end
section
inductive Nd where|gv (l:List Nat)|lp (a:tP) (m:List tP)|sp (k:Nat) (l:List (Nat×List Int))|jn (a:tP)
def Nd.find{d:Type}(b:Nd->Option d)(c:Nat):List (Nat×Nd)->Option d|[]=>ae|(e,a)::x=>if au e c then(match b a with|some z=>J z|none=>Nd.find b c x) else Nd.find b c x
def Nd.pz:Nd->Option (List Nat)|.gv l=>J l|_=>ae
def Nd.pl:Nd->Option (tP×List tP)|.lp a m=>J (a,m)|_=>ae
def Nd.ps:Nd->Option (Nat×List (Nat×List Int))|.sp a m=>J (a,m)|_=>ae
def Nd.pj:Nd->Option tP|.jn a=>J a|_=>ae
def MI:av->Nat|.seq a b=>MI a+MI b+1|.cond _ a b=>MI a+MI b+1|.block _ a=>MI a+1|.loop a=>MI a+1|_=>1
def zL:tP:=⟨[],[],[],.z,.z,0,0,[],Z⟩
def bY(a:List Nat)(b:List (Nat×TA)):List (Nat×TA):=a.map (λc=>(c,.aL))++b
def Zj(c:List (Nat×Nd))(d:Nat)(a:AC):AC:=match Nd.find Nd.ps d c with|some b=>.split b.1 b.2 a|none=>a
def BP(e:List (Nat×Nd)):av->Nat->AC
 |.dg h d l,c=>Zj e c (.dg ((Nd.find Nd.pz c e).getD []) h d l)|.seq a b,c=>Zj e c (match Nd.find Nd.pj c e with|some f=>.Oz f (BP e a (c+1)) (BP e b (c+1+MI a))|none=>.seq (BP e a (c+1)) (BP e b (c+1+MI a)))|.cond z a b,c=>Zj e c (.cond z (BP e a (c+1)) (BP e b (c+1+MI a)))|.block g a,c=>.block g (BP e a (c+1))|.loop a,c=>match Nd.find Nd.pl c e with|some f=>.loop f.1 f.2 (BP e a (c+1))|none=>.loop zL [] (BP e a (c+1))
 |.ret,c=>.ret ((Nd.find Nd.pz c e).getD [])|.skip,_=>.skip|.exit g,_=>.exit g|.qm,_=>.qm
def I6(b:List (Nat×Nd))(c:Nat)(a:AC):(Zj b c a).jf=a.jf:=by unfold Zj;split<;>rfl
def vF(c:List (Nat×Nd)):∀(d:av) (e:Nat),(BP c d e).jf=d|.dg ..,e=>I6 c e _|.seq a b,e=>by simp[BP,I6];split<;>simp[AC.jf,vF c a,vF c b]|.cond z a b,e=>by simp[BP,I6,AC.jf,vF c a,vF c b]|.block f a,e=>by simp[BP,AC.jf,vF c a]|.loop a,e=>by simp[BP];split<;>simp[AC.jf,vF c a]|.ret,_=>rfl|.skip,_=>rfl|.exit _,_=>rfl|.qm,_=>rfl
def VQ(a:Program)(b:Nat):d6:=((a.funcs[b]?).bind (cW a)).getD ⟨0,[],.skip⟩
def anF(F:d6)(a:List (Nat×Nd)):AF:=⟨F.n,F.rs,BP a F.body 0⟩
def has(a:Program)(b:Nat):Bool:=((a.funcs[b]?).bind (cW a)).isSome
def WO{a:Program}(d:List (Nat×Nd))(b:has a f=aa):∃c,a.funcs[f]? =J c/\cW a c=J (anF (VQ a f) d).fn:=by obtain⟨F,b⟩:=dM.1 b;obtain⟨c,e,g⟩:=Option.bind_eq_some_iff.1 b;refine⟨c,e,?_⟩;simp[g,VQ,b,A7,AF.fn,anF,vF]
variable [Gh]
abbrev FL:=List (Nat×List (Nat×Nd))
def QI(a:Program):FL->List (Nat×AF)|[]=>[]|q::l=>(q.1,anF (VQ a q.1) q.2)::QI a l
inductive yL(Pg:Program):List SP->List (Nat×Nat)->Prop|n:yL Pg [] []|c' {s l d}:bz Pg s->yL Pg l d->yL Pg (s::l) d|d {f n l d}:J1 Pg f n->yL Pg l d->yL Pg l ((f,n)::d)
def bz.c{a:Program}{s:SP}{b:List SP}{d:List (Nat×Nat)}(e:bz a s)(f:yL a b d):yL a (s::b) d:=.c' e f
def yL.en{b:Program}{e:List SP}{d:List (Nat×Nat)}(a:yL b e d):∀(m:FL),(m.all λq=>has b q.1)=aa->wF b ⟨e,QI b m,d⟩
 |q::m,c=>by simp only[List.all_cons,aq]at c;obtain⟨h,f,g⟩:=WO q.2 c.1;exact .fn f g (a.en m c.2)
 |[],_=>by induction a with|n=>exact .nil|c' a _ ih=>exact .sp a ih|d a _ ih=>exact .Ug a ih
def anS(a:Program)(d:List SP)(e:List (Nat×Nat))(c:FL)(b:SP)(f:List (Nat×Nd)):Bool:=(c.all λg=>has a g.1)&&(has a b.f&&OT ⟨d,QI a c,e⟩ 24 b (anF (VQ a b.f) f))
def iG{a:Program}{c:List SP}{d:List (Nat×Nat)}{e:SP}(h:yL a c d)(f:FL)(g:List (Nat×Nd))(b:anS a c d f e g=aa):bz a e:=by simp only[anS,aq]at b;obtain⟨k,i,j⟩:=WO g b.2.1;exact aiY (h.en f U) i j b.2.2
end
def XS(a:Nat):Bool:= !(au a 6||au a 7)
mutual
def noK:CT->Bool|.aY row _ _=>Oc row|.em a=>XS a|.nm a=>XS a|_=>aa
def Oc:List CT->Bool|[]=>aa|t::a=>noK t&&Oc a
end
@[reducible]def JV(c:Gh)(a d:List (List P)->Prop)(e:∀b f,a b->a (b++f)):Gh:={c with kc:=a,kk:=d,Ro:=e}
def Ul(a:Oc row=aa):XS (jO row)=aa:=by cases row with|nil=>rfl|cons b c=>simp[Oc,aq]at a;cases b<;>first|rfl|exact a.1
section
variable {c:Gh}{e g:List (List P)->Prop}{h:∀es fs,e es->e (es++fs)}
theorem VF{a:Nat}{d:List (List P)}(f:XS a=aa): @LT c a d↔@LT (JV c e g h) a d:=by
 have i:¬au a 6=aa:=λb=>by have:=aK b;subst this;cases f
 have j:¬au a 7=aa:=λb=>by have:=aK b;subst this;cases f
 unfold LT;rw[ap i,ap j,ap i,ap j];exact aj
mutual
theorem Oh:∀(b:CT) (a:P),noK b=aa->(@CT.ok c b a↔@CT.ok (JV c e g h) b a)
 |.int q o p,a,_=>kW|.bool,a,_=>kW|.str r,a,_=>kW|.aY row o p,a,d=>by constructor;rintro⟨f,i,j,k,l,m⟩;exact⟨f,i,j,k,λx n=>(tB row x d).1 (l x n),(VF (Ul d)).1 m⟩;rintro⟨f,i,j,k,l,m⟩;exact⟨f,i,j,k,λx n=>(tB row x d).2 (l x n),(VF (Ul d)).2 m⟩
 |.nil,a,_=>kW|.any,a,_=>kW|.nm b,a,_=>kW|.tu,a,_=>kW|.em b,a,_=>kW
theorem tB:∀(a:List CT) (b:List P),Oc a=aa->(@Row c a b↔@Row (JV c e g h) a b)|[],[],_=>kW|[],_::_,_=>kW|_::_,[],_=>kW|t::a,f::b,d=>by simp only[Oc,aq]at d;simp only[Row];rw[Oh t f d.1,tB a b d.2]
end
end
end Go.Dl.Ai
namespace Go.Dl
open Go.Proofs Go.Shelf
def WN:Ren:={f:=λz=>match z with|105=>177|212=>245|99=>246|165=>247|166=>248|170=>249|169=>250|263=>297|264=>298|206=>299|240=>300|241=>301|276=>338|277=>339|n=>n,t:=λz=>match z with|9=>9|3=>3|4=>4|20=>20|0=>0|46=>265|109=>320|5=>5|72=>326|76=>330|51=>307|146=>367|53=>309|148=>369|70=>323|37=>324|75=>329|127=>371|164=>396|80=>176|n=>n,g:=λz=>z}
def rep:Lays.n105 af WN where
 mixed:=h
 f99:=h
 f105:=h
 f165:=h
 f166:=h
 f169:=h
 f170:=h
 f206:=h
 f212:=h
 f240:=h
 f241:=h
 f263:=h
 f264:=h
 f276:=h
 f277:=h
 t0:=h
 a0:=T
 z0:=T
 v0:=T
 t3:=h
 a3:=T
 z3:=T
 v3:=T
 t4:=h
 a4:=T
 z4:=T
 v4:=T
 t5:=h
 a5:=T
 z5:=T
 v5:=T
 t9:=h
 a9:=T
 z9:=T
 v9:=T
 t20:=h
 a20:=T
 z20:=T
 v20:=T
 t37:=h
 a37:=T
 z37:=T
 v37:=T
 t46:=h
 a46:=T
 z46:=T
 v46:=T
 t51:=h
 a51:=T
 z51:=T
 v51:=T
 t53:=h
 a53:=T
 z53:=T
 v53:=T
 t70:=h
 a70:=T
 z70:=T
 v70:=T
 t72:=h
 a72:=T
 z72:=T
 v72:=T
 t75:=h
 a75:=T
 z75:=T
 v75:=T
 t76:=h
 a76:=T
 z76:=T
 v76:=T
 t109:=h
 a109:=T
 z109:=T
 v109:=T
 t127:=h
 a127:=T
 z127:=T
 v127:=T
 t146:=h
 a146:=T
 z146:=T
 v146:=T
 t148:=h
 a148:=T
 z148:=T
 v148:=T
 t164:=h
 a164:=T
 z164:=T
 v164:=T
def arb:ue af WN where
 sizeBuilder:=h
 liesBuilder:=h
 t5:=h
 a5:=T
 z5:=T
 v5:=T
 infoByte:=h
 cellsByte:=h
 sizeByte:=h
 neB5:=eB
def UZ:Ren:={f:=λz=>match z with|155=>256|154=>306|138=>342|165=>247|143=>343|166=>248|197=>272|169=>250|195=>354|218=>355|240=>300|241=>301|219=>251|260=>315|276=>338|277=>339|217=>302|225=>303|224=>304|267=>305|266=>340|314=>341|n=>n,t:=λz=>match z with|9=>9|3=>3|4=>4|72=>326|0=>0|76=>330|105=>347|21=>21|5=>5|70=>323|20=>20|37=>324|75=>329|127=>371|164=>396|46=>265|119=>401|139=>404|138=>403|146=>367|51=>307|80=>176|n=>n,g:=λz=>match z with|1=>0|3=>1|4=>2|n=>n}
def W5:GN af UZ where
 mixed:=h
 f138:=h
 f143:=h
 f154:=h
 f155:=h
 f165:=h
 f166:=h
 f169:=h
 f195:=h
 f197:=h
 f217:=h
 f218:=h
 f219:=h
 f224:=h
 f225:=h
 f240:=h
 f241:=h
 f260:=h
 f266:=h
 f267:=h
 f276:=h
 f277:=h
 f314:=h
 t0:=h
 a0:=T
 z0:=T
 v0:=T
 t3:=h
 a3:=T
 z3:=T
 v3:=T
 t4:=h
 a4:=T
 z4:=T
 v4:=T
 t5:=h
 a5:=T
 z5:=T
 v5:=T
 t9:=h
 a9:=T
 z9:=T
 v9:=T
 t20:=h
 a20:=T
 z20:=T
 v20:=T
 t21:=h
 a21:=T
 z21:=T
 v21:=T
 t37:=h
 a37:=T
 z37:=T
 v37:=T
 t46:=h
 a46:=T
 z46:=T
 v46:=T
 t51:=h
 a51:=T
 z51:=T
 v51:=T
 t70:=h
 a70:=T
 z70:=T
 v70:=T
 t72:=h
 a72:=T
 z72:=T
 v72:=T
 t75:=h
 a75:=T
 z75:=T
 v75:=T
 t76:=h
 a76:=T
 z76:=T
 v76:=T
 t105:=h
 a105:=T
 z105:=T
 v105:=T
 t119:=h
 a119:=T
 z119:=T
 t127:=h
 a127:=T
 z127:=T
 v127:=T
 t138:=h
 a138:=T
 z138:=T
 v138:=T
 t139:=h
 a139:=T
 z139:=T
 v139:=T
 t146:=h
 a146:=T
 z146:=T
 v146:=T
 t164:=h
 a164:=T
 z164:=T
 v164:=T
 g1:=h
 g3:=h
 g4:=h
def ao4:ue af UZ where
 sizeBuilder:=h
 liesBuilder:=h
 t5:=h
 a5:=T
 z5:=T
 v5:=T
 infoByte:=h
 cellsByte:=h
 sizeByte:=h
 neB5:=eB
end Go.Dl
section
open Go.Dl
namespace Go.Proofs
open Go.Shelf Go.RowKit Go.Lib
variable {P:Program}{k:Ren}
def AG{c:UInt8}:∀{l:List UInt8},0<l.count c->∃a:Nat,oh l c=a/\a<l.length/\l.count c=1+(l.drop (a+1)).count c
 |[],b=>by simp at b
 |z::l,b=>by
  by_cases d:z=c;subst d;exact⟨0,by simp[oh],Y,dK⟩;have e:l.count c=(z::l).count c:=by simp[d]
  obtain⟨a,f,g,h⟩:=AG (by rw[e];exact b);refine⟨a+1,?_,U,dK⟩;have hb:=jY.2 d;have i:((a:Int)== -1)=Z:=Y;show(if z==c then(0:Int) else if indexByte l c== -1 then -1 else indexByte l c+1)=_;exact U
set_option maxHeartbeats 16000000 in
set_option maxRecDepth 1000000 in
theorem aae(L:CG P k)(X:ue P k)(s:ByteArray)(c d:UInt8)(w:World)(hs:s.size<=1000)(qK:c≠d)(hc0:0<s.data.toList.count c):
 iQ P (k.f 154) #[.string s,.string ⟨#[c]⟩,.string ⟨#[d]⟩,.int .i64 (-1)] w λe w'=>∃x:ByteArray,e=.returned (.string x)/\x.size<=s.size/\Below w.heap.size w w':=by
 have hC:=Hr {L with} s c w;obtain⟨R,hK⟩:∃R:Nat,IG s.data.toList c=R:=⟨_,rfl⟩;rw[hK]at hC;have hlenL:s.data.toList.length=s.size:=(Gy s).symm;have hK1:1<=R:=by rw[<-hK];exact hc0
 have hKs:R<=s.size:=by rw[<-hK,<-hlenL];exact List.count_le_length
 have hKc:R<=(s.data.toList.drop 0).count c:=by rw[gK,<-hK];exact bV _
 clear hK hc0;obtain⟨ss,ho⟩:∃o:ByteArray,o=⟨#[c]⟩:=⟨_,rfl⟩;obtain⟨new,hn⟩:∃o:ByteArray,o=⟨#[d]⟩:=⟨_,rfl⟩;have hI:∀(t:ByteArray) (w:World),iQ P (k.f 143) #[.string t,.string ss] w λe w'=>e=.returned (.int .i64 (oh t.data.toList c))/\w'=w:=λt w=>by rw[ho];exact Any.strings_Index_one {L with} t c w
 have hos:ss.size=1:=by rw[ho];rfl
 have hns:new.size=1:=by rw[hn];rfl
 have hbeq:(ss.toList==new.toList)=Z:=(GL ss new).2 (by rw[ho,hn];intro e;apply qK;injection e with e;injection e with e;injection e);rw[<-ho,<-hn];rw[<-ho]at hC;clear ho hn;have hcz:((R:Int)==0)=Z:=jY.2 y;have mixed:=L.mixed;have t72:=L.t72;have a72:=L.a72;have z72:=L.z72;have v72:=L.v72;have u72:=bv L.t72;have t70:=L.t70;have a70:=L.a70;have z70:=L.z70;have v70:=L.v70;have u70:=bv L.t70;have t37:=L.t37;have a37:=L.a37;have z37:=L.z37;have v37:=L.v37;have u37:=bv L.t37;have bA:=L.t3;have a3:=L.a3;have z3:=L.z3;have v3:=L.v3;have u3:=bv L.t3;have t9:=L.t9;have a9:=L.a9;have z9:=L.z9;have v9:=L.v9;have u9:=bv L.t9;have t4:=L.t4;have a4:=L.a4;have z4:=L.z4;have v4:=L.v4;have u4:=bv L.t4;have e138:∀V w,(callFunc (k.f 138) V).run P w=.ok (.enter (k.f 138) V) w:=ph L.f138 h rfl;have e143:∀V w,(callFunc (k.f 143) V).run P w=.ok (.enter (k.f 143) V) w:=ph L.f143 h rfl;have e165:∀V w,(callFunc (k.f 165) V).run P w=.ok (.enter (k.f 165) V) w:=ph L.f165 h rfl;have e166:∀V w,(callFunc (k.f 166) V).run P w=.ok (.enter (k.f 166) V) w:=ph L.f166 h rfl;have e169:∀V w,(callFunc (k.f 169) V).run P w=.ok (.enter (k.f 169) V) w:=ph L.f169 h rfl;have hg1:wrap64 ((s.size:Int)+wrap64 ((R:Int)*0))=(s.size:Int):=by simp[wrap64];omega
 go_enter L.f154,HL k
 go_wp2_with (first|(go_at_fn (k.f 138);refine hC.mono ?_;rintro e w' ⟨rfl,hw⟩;rw[hw]))
 clear hC;refine(Any.Builder_Grow_fresh {L with} X w.heap.size w.heap.size _ _ (bV _) (heap_alloc_new w _) Y y).mono ?_;rintro e w1 ⟨rfl,hb0,hb1⟩;have H1:=lH (xy hb0:yX (k.t 72) (k.t 5) w.heap.size w.heap.size (yP []) w1);have Hb1:=lH (((Below.refl w.heap.size w).alloc (bV _) _).trans hb1);clear hb0 hb1
 go_wp2_with fail
 go_loopg [11,53] R (λg Zw s53 wx=>∃(i start:Nat) (acc:List UInt8),s53=.int .i64 i/\Zw=.int .i64 start/\i+g=R/\start<=s.size/\
  Hid (yX (k.t 72) (k.t 5) w.heap.size w.heap.size (yP acc) wx)/\Hid (Below w.heap.size w wx)/\g<=(s.data.toList.drop start).count c/\acc.length<=start)
 case atStart=>exact⟨0,0,[],rfl,rfl,y,rD _,H1,Hb1,hKc,Y⟩
 case round=>
  obtain⟨i,start,acc,rfl,rfl,hig,hst,HB,HW,hgc,hbd⟩:=hrel;have hBw:w.heap.size<=wr.heap.size:=HW.out.size;have c1:(0:Int)<=(start:Int):=y;have c2:(start:Int)<=(s.size:Int):=y;cases gk with
  |zero=>
   have hiK:¬((i:Int)<(R:Int)):=y
   go_wp2_with fail
   refine(AP {L with} X w.heap.size w.heap.size _ _ wr HB.out (by rw[BL,Bu];omega) hBw).mono ?_;rintro e w3 ⟨rfl,h3,hb3⟩;rw[A8,Ht,<-Br]at h3;have H3:=lH (xy h3:yX (k.t 72) (k.t 5) w.heap.size w.heap.size _ w3);have Hb3:=lH (HW.out.trans hb3);have hBw3:w.heap.size<=w3.heap.size:=Hb3.out.size;clear h3 hb3
   go_wp2_with fail
   refine(Any.Builder_String_any {L with} X w.heap.size w.heap.size _ w3 H3.out hBw3).mono ?_;rintro e w5 ⟨rfl,hb5⟩;have Hb5:=lH (Hb3.out.trans hb5);clear hb5
   go_wp2
   go_ret
   refine⟨_,rfl,?_,Hb5.out⟩;show(acc++s.data.toList.drop start).toArray.size<=s.size;rw[vu,fj,xq,hlenL];omega
  |succ g=>
   have hiK:(i:Int)<(R:Int):=y;obtain⟨j,hj,hjl,hjc⟩:=AG (l:=s.data.toList.drop start) (c:=c) y;have hroom:j+1<=s.size-start:=by rw[xq,hlenL]at hjl;omega
   have c3:(start:Int)<=(start:Int)+(j:Int):=y;have c4:(start:Int)+(j:Int)<=(s.size:Int):=y;have hnext:yP acc++Hm (s.extract start (start+j))++Hm new=yP (acc++(s.data.toList.drop start).take j++new.data.toList):=by rw[A8,A8,Lib.extract_data,Nat.add_sub_cancel_left,<-Br,<-Br]
   have hcnt:g<=(s.data.toList.drop (start+j+1)).count c:=by rw[Cv]at hjc;rw[show start+j+1=start+(j+1) by omega];omega
   have htl:((s.data.toList.drop start).take j).length=j:=by rw[ud,xq,hlenL];omega
   have hnl:new.data.toList.length=1:=by rw[<-Gy];exact hns
   have Hn:=lH hnext;clear hnext hjc
   go_wp2_with (first|(go_at_fn (k.f 143);refine(hI _ _).mono ?_;rintro e w' ⟨rfl,hw⟩;rw[hw,Ht,hj]))
   refine(AP {L with} X w.heap.size w.heap.size _ (s.extract start (start+j)) wr HB.out (by rw[BL,Bu];omega) hBw).mono ?_;rintro e w3 ⟨rfl,h3,hb3⟩;have hBw3:w.heap.size<=w3.heap.size:=gJ hBw hb3.size;have H3:=lH h3;have Hb3:=lH hb3;clear h3 hb3
   go_wp2_with fail
   refine(AP {L with} X w.heap.size w.heap.size _ new w3 (xy H3.out) (by rw[fj,BL,Lib.strCells_length,Bu];omega) hBw3).mono ?_;rintro e w4 ⟨rfl,h4,hb4⟩;rw[Hn.out]at h4;have H4:=lH (xy h4:yX (k.t 72) (k.t 5) w.heap.size w.heap.size _ w4);have Hb4:=lH ((HW.out.trans Hb3.out).trans hb4);clear h4 hb4
   go_wp2
   go_roundg g
   case measure=>omega
   case rel=>exact⟨i+1,start+j+1,_,by first|rfl|(simp;unfold wrap64;omega),by first|rfl|simp|(simp;unfold wrap64;omega),y,y,H4,Hb4,hcnt,by simp only[fj,htl,hnl];omega⟩
set_option maxHeartbeats 4000000 in
set_option maxRecDepth 1000000 in
theorem VD(L:CG P k)(s:ByteArray)(c d:UInt8)(w:World)(qK:c≠d)(hc0:s.data.toList.count c=0):
 iQ P (k.f 154) #[.string s,.string ⟨#[c]⟩,.string ⟨#[d]⟩,.int .i64 (-1)] w λe w'=>e=.returned (.string s)/\w'=w:=by
 have hC:=Hr {L with} s c w;have hz:IG s.data.toList c=0:=hc0;rw[hz]at hC;obtain⟨ss,ho⟩:∃o:ByteArray,o=⟨#[c]⟩:=⟨_,rfl⟩;obtain⟨new,hn⟩:∃o:ByteArray,o=⟨#[d]⟩:=⟨_,rfl⟩;have hbeq:(ss.toList==new.toList)=Z:=(GL ss new).2 (by rw[ho,hn];intro e;apply qK;injection e with e;injection e with e;injection e);rw[<-ho,<-hn];rw[<-ho]at hC;clear ho hn hc0 hz;have bA:=L.t3;have a3:=L.a3;have z3:=L.z3;have v3:=L.v3;have t9:=L.t9;have a9:=L.a9;have z9:=L.z9;have v9:=L.v9;have t4:=L.t4;have a4:=L.a4;have z4:=L.z4;have v4:=L.v4;have e138:∀V w,(callFunc (k.f 138) V).run P w=.ok (.enter (k.f 138) V) w:=ph L.f138 h rfl
 go_enter L.f154,HL k
 go_wp2_with (first|(go_at_fn (k.f 138);refine hC.mono ?_;rintro e w' ⟨rfl,hw⟩;rw[hw]))
 go_ret
 exact⟨rfl,rfl⟩
def abb(e:CG P k)(l:ue P k)(a:ByteArray)(b d:UInt8)(c:World)(m:a.size<=1000):
 iQ P (k.f 154) #[.string a,.string ⟨#[b]⟩,.string ⟨#[d]⟩,.int .i64 (-1)] c λf g=>∃x:ByteArray,f=.returned (.string x)/\x.size<=a.size/\Below c.heap.size c g:=by by_cases j:b=d;exact(Any.strings_Replace_none e a ⟨#[b]⟩ ⟨#[d]⟩ (-1) c U).mono λf g ⟨h,i⟩=>⟨a,h,y,i▸Below.refl _ _⟩;by_cases n:a.data.toList.count b=0;exact(VD e a b d c j n).mono λf g ⟨h,i⟩=>⟨a,h,y,i▸Below.refl _ _⟩;exact aae e l a b d c m j y
set_option maxHeartbeats 1000000 in
def adO(L:GN P k)(X:ue P k)(s:ByteArray)(c d:UInt8)(w:World)(hs:s.size<=1000):
 iQ P (k.f 155) #[.string s,.string ⟨#[c]⟩,.string ⟨#[d]⟩] w λe w'=>∃x:ByteArray,e=.returned (.string x)/\x.size<=s.size/\Below w.heap.size w w':=by
 have hR:=abb {L with} X s c d w hs;have bA:=L.t3;have a3:=L.a3;have z3:=L.z3;have v3:=L.v3;have t9:=L.t9;have a9:=L.a9;have z9:=L.z9;have v9:=L.v9;have e154:∀V w,(callFunc (k.f 154) V).run P w=.ok (.enter (k.f 154) V) w:=ph L.f154 h rfl
 go_enter L.f155,Body.n155_ntmps k
 go_wp2_with (go_at_fn (k.f 154);refine hR.mono ?_;rintro e w' ⟨x,rfl,hr,hw⟩)
 go_ret
 exact⟨x,rfl,hr,hw⟩
end Go.Proofs
end
namespace Go.Dl
open Go.Proofs Go.Shelf
def Ss:Ren:={f:=λz=>match z with|160=>154|232=>201|231=>200|227=>202|234=>204|233=>203|236=>206|235=>205|228=>271|271=>274|151=>273|197=>272|120=>317|152=>316|260=>315|137=>346|119=>347|224=>304|225=>303|217=>302|266=>340|n=>n,t:=λz=>match z with|9=>9|4=>4|3=>3|5=>5|117=>287|116=>286|0=>0|124=>290|21=>21|105=>347|46=>265|119=>401|139=>404|138=>403|n=>n,g:=λz=>match z with|3=>1|4=>2|n=>n}
def aca:Lays.n160 af Ss where
 mixed:=h
 f119:=h
 f120:=h
 f137:=h
 f151:=h
 f152:=h
 f160:=h
 f197:=h
 f217:=h
 f224:=h
 f225:=h
 f227:=h
 f228:=h
 f231:=h
 f232:=h
 f233:=h
 f234:=h
 f235:=h
 f236:=h
 f260:=h
 f266:=h
 f271:=h
 t0:=h
 a0:=T
 z0:=T
 v0:=T
 t3:=h
 a3:=T
 z3:=T
 v3:=T
 t4:=h
 a4:=T
 z4:=T
 v4:=T
 t5:=h
 a5:=T
 z5:=T
 v5:=T
 t9:=h
 a9:=T
 z9:=T
 v9:=T
 t21:=h
 a21:=T
 z21:=T
 v21:=T
 t46:=h
 a46:=T
 z46:=T
 v46:=T
 t105:=h
 a105:=T
 z105:=T
 v105:=T
 t116:=h
 a116:=T
 z116:=T
 t117:=h
 a117:=T
 z117:=T
 v117:=T
 t119:=h
 a119:=T
 z119:=T
 t124:=h
 a124:=T
 z124:=T
 v124:=T
 t138:=h
 a138:=T
 z138:=T
 v138:=T
 t139:=h
 a139:=T
 z139:=T
 v139:=T
 g3:=h
 g4:=h
def ag8:(af.info? (Ss.t 116)).map (λa=>(a.zero,a.size))=J (J (.agg (iE 256 (.bool Z))),256):=h
end Go.Dl
namespace Go.Dl
def de(e:ah)(f b:Nat)(a:List (List D))(c:D):Prop:=(a=[]/\c=.p (.v (.slice ae 0 0)))\/∃id d,f<=id/\c=.sl id d 0 a.length b Z/\e id=J (.row b d a)
theorem de.aL{c:ah}{e:Nat}(f:de c m e rows d)(g:∀a b,m<=a->c a=J b->r a=c a):de r m e rows d:=f.imp U ak
theorem MN{nm b:Nat}{a:St}{ys:List (List D)}(c:de a.O m b rows (a.ev z))(f:fO a.O b (a.ev aS)=J ys)(g:(rows.length+ys.length)*bM<=2^47)(h:rows.length+ys.length<=2^47)(i:m<=a.bs+nm)(j:∀id d,m<=id->((id=a.bs+nm/\rows=[])\/∃e,a.ev z=.sl id e 0 rows.length b Z/\a.O id=J (.row b e rows))->R (.sl id d 0 (rows++ys).length b Z) (am a.O id (J (.row b d (rows++ys)))) a.nx):aN aR (.j4 nm b bM z aS) a R:=by
 simp only[lB,f];rcases c with⟨rfl,c⟩|⟨id,d,k,c,l⟩
 grind;grind
def yB{nm b:Nat}{c:List P}{a:St}(e:(a.ev z).cells.length=b)(d:R (.sl (a.bs+nm) (a.gm (a.bs+nm)) 0 1 b Z) (am a.O (a.bs+nm) (J (.row b (a.gm (a.bs+nm)) [(a.ev z).cells]))) a.nx):aN aR (.bQ nm b 1 c [(0,z)]) a R:=by
 have:fP a.ev b (List.replicate 1 (c.map D.p)) [(0,z)]=J [(a.ev z).cells]:=by simp[fP,e]
 simp only[wd,this];cases W:dp [(a.ev z).cells] with|none=>exact d|some f=>exact BS.r d
def Ku{id a off b c:Nat}{d:Bool}:D.cells (.sl id a off b c d)=[.sl id a off b c d]:=rfl
def B4{c:ah}{d a:Nat}{e:List D}(f:c b=J (.row a d [e])):fO c a (.sl b d 0 1 a Z)=J [e]:=by simp[fO,fF,f]
theorem Ox{c off w:Nat}{a:St}{F:ah}{j:St->ah->Prop}(k:a.T bX=d)(D:d.cells.length=c)(l:a.T bT=bH)(n:de a.O m c rows bH)(s:m<=a.bs+bu)(E:a.O (a.bs+be)=ae)(G:be≠bu)(H:bB≠bT)(t:a.T bA=.ptr hb g3 w 0 0)(u:bA≠bB)(v:bA≠bC)(x:bC≠bO)(z:F hb=J (.row w g3 [cells]))(I:off+1<=cells.length)(K:(rows.length+1)*bM<=2^47)(L:rows.length+1<=2^47)(o:∀id f A p,m<=id->id≠a.bs+be->((id=a.bs+bu/\rows=[])\/∃g,a.O id=J (.row c g rows))->(∀e,e≠bB->e≠bC->e≠bO->p e=a.T e)->
  j {a with T:=p,O:=am (am a.O (a.bs+be) (J (.row c A [d.cells]))) id (J (.row c f (rows++[d.cells])))} (am F hb (J (.row w g3 [bI cells [.sl id f 0 (rows++[d.cells]).length c Z] off])))):
 fS aR [⟨J bB,.bQ be c 1 cE [(0,.t bX)],ae,Z⟩,⟨J bC,.j4 bu c bM (.t bT) (.t bB),ae,Z⟩,⟨J bO,.fa (.t bA) off,ae,Z⟩,⟨ae,.store 1 (.t bO) (.t bC),ae,aa⟩] a F j:=by
 rw[El];refine yB U ?_;rw[El];have M:∀id f,de a.O m c rows (.sl id f 0 rows.length c Z)->id≠a.bs+be->True:=U;refine MN (m:=m) (rows:=rows) (ys:=[d.cells]) ?_ ?_ y y s ?_;simp only[iF,dR,bP];rw[ap y,l];refine n.aL λe b _ o=>ai λh=>?_;grind;simp only[iF,dR,bP,aT,k];exact B4 Y;intro id f B q;have r:id≠a.bs+be:=by rcases q with⟨h,_⟩|⟨g,h,i⟩;exact EA;simp only[iF,dR,bP]at h;rw[ap y,l]at h;rcases n with⟨_,N⟩|⟨P,Q,_,R,S⟩;grind;grind
 have C:(id=a.bs+bu/\rows=[])\/∃g,a.O id=J (.row c g rows):=by rcases q with V|⟨g,_,i⟩;exact U;refine .inr ⟨g,?_⟩;simp only[ai r]at i;exact i
 rw[El,Nj];simp only[iF,dR,bP];rw[ap v,ap u,t];simp only[bf];rw[It,Jo];simp only[iF,dR,bP,aT,ap x,z,tU,Ku,ID];refine⟨Y,Y,ak,rfl,y,?_⟩;simp only[ZM,Jr,k];refine o id f _ _ B r C λe W X k3=>?_;exact U
theorem Ud{c off i:Nat}{a:St}{j:St->Prop}(k:a.T bX=d)(F:d.cells.length=c)(l:a.T bT=bH)(n:de a.O m c rows bH)(s:m<=a.bs+bu)(G:a.O (a.bs+be)=ae)(H:be≠bu)(I:bB≠bT)(t:a.T bA=.ptr hb g3 i 0 0)(u:bA≠bB)(v:bA≠bC)(w:bC≠bO)(x:a.O hb=J (.row i g3 [cells]))(K:off+1<=cells.length)(L:(rows.length+1)*bM<=2^47)(M:rows.length+1<=2^47)(z:hb≠a.bs+be)(N:hb≠a.bs+bu)(P:∀id e,bH=.sl id e 0 rows.length c Z->hb≠id)(o:∀id e A p,m<=id->id≠a.bs+be->id≠hb->((id=a.bs+bu/\rows=[])\/∃g,a.O id=J (.row c g rows))->(∀f,f≠bB->f≠bC->f≠bO->p f=a.T f)->
  j {a with T:=p,O:=am (am (am a.O (a.bs+be) (J (.row c A [d.cells]))) id (J (.row c e (rows++[d.cells])))) hb (J (.row i g3 [bI cells [.sl id e 0 (rows++[d.cells]).length c Z] off]))}):
 eN aR [⟨J bB,.bQ be c 1 cE [(0,.t bX)],ae,Z⟩,⟨J bC,.j4 bu c bM (.t bT) (.t bB),ae,Z⟩,⟨J bO,.fa (.t bA) off,ae,Z⟩,⟨ae,.store 1 (.t bO) (.t bC),ae,Z⟩] a j:=by
 rw[eM];refine yB U ?_;rw[eM];refine MN (m:=m) (rows:=rows) (ys:=[d.cells]) ?_ ?_ y y s ?_;simp only[iF,dR,bP];rw[ap y,l];refine n.aL λf b _ o=>ai λh=>?_;grind;simp only[iF,dR,bP,aT,k];exact B4 Y;intro id e B C;have q:(id=a.bs+bu/\rows=[])\/∃g,bH=.sl id g 0 rows.length c Z/\a.O id=J (.row c g rows)/\id≠a.bs+be:=by rcases C with r|⟨g,h,Q⟩;exact U;simp only[iF,dR,bP]at h;rw[ap y,l]at h;rcases n with⟨_,R⟩|⟨S,V,_,W,X⟩;grind;grind
 have D:id≠a.bs+be:=by rcases q with⟨h,_⟩|⟨_,_,_,r⟩;omega;exact r
 have ab:hb≠id:=by rcases q with⟨h,_⟩|⟨g,h,_,_⟩;omega;exact U
 rw[eM,Nj];simp only[iF,dR,bP];rw[ap v,ap u,t];simp only[bf];rw[eM,Jo];have E:am (am a.O (a.bs+be) (J (.row c (a.gm (a.bs+be)) [(a.T bX).cells]))) id (J (.row c e (rows++[d.cells]))) hb=J (.row i g3 [cells]):=by rw[ai y,ai z];exact x
 simp only[iF,dR,bP,aT,ap w,E,tU,Ku,ID];refine⟨Y,Y,ak,rfl,y,?_⟩;simp only[j6,Jr,k];refine o id e _ _ B D y ?_ λf k1 k2 k3=>?_;grind;exact U
def B9{c:Option Nat}{d:Nat}{a:St}{F:ah}{e:St->ah->Prop}:fS aR (⟨c,cg,J (d,bS),Z⟩::bn) a F e=wK (a.T d) bS (aN aR cg a λz f nx=>fS aR bn {a with T:=eE a.T c z,O:=f,nx:=nx} F e) (fS aR bn {a with T:=eE a.T c (.p (.v undef))} F e):=by
 simp only[fS,d9];cases a.T d with
 |p z=>cases z with
  |v aS=>cases aS with
   |bool b=>cases b<;>cases bS<;>rfl
   |_=>rfl
  |_=>rfl
 |_=>rfl
end Go.Dl
namespace Go.Dl
open Go.Proofs Go.Shelf
def adF:Ren:={f:=λz=>match z with|6=>114|15=>172|14=>171|28=>226|29=>227|20=>218|21=>219|22=>220|23=>221|24=>222|25=>223|26=>224|27=>225|46=>286|47=>287|48=>288|49=>289|50=>290|57=>335|n=>n,t:=λz=>match z with|22=>117|24=>125|25=>208|3=>3|39=>265|0=>0|53=>307|55=>309|4=>4|46=>301|45=>300|50=>199|5=>5|9=>9|66=>357|70=>361|76=>392|77=>292|n=>n,g:=λz=>z}
def akG:qR af adF where
 mixed:=h
 f6:=⟨ "slices.SortFunc[[]dumbwaiter/api.Table,dumbwaiter/api.Table]",rfl,h⟩
 f14:=⟨ "slices.pdqsortCmpFunc[dumbwaiter/api.Table]",rfl,h⟩
 f15:=h
 f20:=⟨ "slices.insertionSortCmpFunc[dumbwaiter/api.Table]",rfl,h⟩
 f21:=⟨ "slices.heapSortCmpFunc[dumbwaiter/api.Table]",rfl,h⟩
 f22:=⟨ "slices.breakPatternsCmpFunc[dumbwaiter/api.Table]",rfl,h⟩
 f23:=⟨ "slices.choosePivotCmpFunc[dumbwaiter/api.Table]",rfl,h⟩
 f24:=⟨ "slices.reverseRangeCmpFunc[dumbwaiter/api.Table]",rfl,h⟩
 f25:=⟨ "slices.partialInsertionSortCmpFunc[dumbwaiter/api.Table]",rfl,h⟩
 f26:=⟨ "slices.partitionEqualCmpFunc[dumbwaiter/api.Table]",rfl,h⟩
 f27:=⟨ "slices.partitionCmpFunc[dumbwaiter/api.Table]",rfl,h⟩
 f28:=h
 f29:=h
 f46:=⟨ "slices.siftDownCmpFunc[dumbwaiter/api.Table]",rfl,h⟩
 f47:=h
 f48:=h
 f49:=⟨ "slices.medianAdjacentCmpFunc[dumbwaiter/api.Table]",rfl,h⟩
 f50:=⟨ "slices.medianCmpFunc[dumbwaiter/api.Table]",rfl,h⟩
 f57:=⟨ "slices.order2CmpFunc[dumbwaiter/api.Table]",rfl,h⟩
 t0:=h
 a0:=T
 z0:=T
 v0:=T
 t3:=h
 a3:=T
 z3:=T
 v3:=T
 t4:=h
 a4:=T
 z4:=T
 v4:=T
 t5:=h
 a5:=T
 z5:=T
 v5:=T
 t9:=h
 a9:=T
 z9:=T
 v9:=T
 t22:=h
 a22:=T
 z22:=T
 v22:=T
 t25:=h
 a25:=T
 z25:=T
 v25:=T
 t39:=h
 a39:=T
 z39:=T
 v39:=T
 t45:=h
 a45:=T
 z45:=T
 v45:=T
 t46:=h
 a46:=T
 z46:=T
 v46:=T
 t50:=h
 a50:=T
 z50:=T
 v50:=T
 t53:=h
 a53:=T
 z53:=T
 v53:=T
 t55:=h
 a55:=T
 z55:=T
 v55:=T
 t66:=h
 a66:=T
 z66:=T
 v66:=T
 t70:=h
 a70:=T
 z70:=T
 v70:=T
 t76:=h
 a76:=T
 z76:=T
 v76:=T
 t77:=h
 a77:=T
 z77:=T
 v77:=T
def acj:Ren:={f:=λz=>match z with|6=>117|15=>172|14=>174|28=>226|29=>227|20=>229|21=>230|22=>231|23=>232|24=>233|25=>234|26=>235|27=>236|46=>291|47=>287|48=>288|49=>292|50=>293|57=>336|n=>n,t:=λz=>match z with|22=>122|24=>211|25=>212|3=>3|39=>265|0=>0|53=>307|55=>309|4=>4|46=>301|45=>300|50=>199|5=>5|9=>9|66=>357|70=>361|76=>392|77=>292|n=>n,g:=λz=>z}
def akS:qR af acj where
 mixed:=h
 f6:=⟨ "slices.SortFunc[[]dumbwaiter/api.Foreign,dumbwaiter/api.Foreign]",rfl,h⟩
 f14:=⟨ "slices.pdqsortCmpFunc[dumbwaiter/api.Foreign]",rfl,h⟩
 f15:=h
 f20:=⟨ "slices.insertionSortCmpFunc[dumbwaiter/api.Foreign]",rfl,h⟩
 f21:=⟨ "slices.heapSortCmpFunc[dumbwaiter/api.Foreign]",rfl,h⟩
 f22:=⟨ "slices.breakPatternsCmpFunc[dumbwaiter/api.Foreign]",rfl,h⟩
 f23:=⟨ "slices.choosePivotCmpFunc[dumbwaiter/api.Foreign]",rfl,h⟩
 f24:=⟨ "slices.reverseRangeCmpFunc[dumbwaiter/api.Foreign]",rfl,h⟩
 f25:=⟨ "slices.partialInsertionSortCmpFunc[dumbwaiter/api.Foreign]",rfl,h⟩
 f26:=⟨ "slices.partitionEqualCmpFunc[dumbwaiter/api.Foreign]",rfl,h⟩
 f27:=⟨ "slices.partitionCmpFunc[dumbwaiter/api.Foreign]",rfl,h⟩
 f28:=h
 f29:=h
 f46:=⟨ "slices.siftDownCmpFunc[dumbwaiter/api.Foreign]",rfl,h⟩
 f47:=h
 f48:=h
 f49:=⟨ "slices.medianAdjacentCmpFunc[dumbwaiter/api.Foreign]",rfl,h⟩
 f50:=⟨ "slices.medianCmpFunc[dumbwaiter/api.Foreign]",rfl,h⟩
 f57:=⟨ "slices.order2CmpFunc[dumbwaiter/api.Foreign]",rfl,h⟩
 t0:=h
 a0:=T
 z0:=T
 v0:=T
 t3:=h
 a3:=T
 z3:=T
 v3:=T
 t4:=h
 a4:=T
 z4:=T
 v4:=T
 t5:=h
 a5:=T
 z5:=T
 v5:=T
 t9:=h
 a9:=T
 z9:=T
 v9:=T
 t22:=h
 a22:=T
 z22:=T
 v22:=T
 t25:=h
 a25:=T
 z25:=T
 v25:=T
 t39:=h
 a39:=T
 z39:=T
 v39:=T
 t45:=h
 a45:=T
 z45:=T
 v45:=T
 t46:=h
 a46:=T
 z46:=T
 v46:=T
 t50:=h
 a50:=T
 z50:=T
 v50:=T
 t53:=h
 a53:=T
 z53:=T
 v53:=T
 t55:=h
 a55:=T
 z55:=T
 v55:=T
 t66:=h
 a66:=T
 z66:=T
 v66:=T
 t70:=h
 a70:=T
 z70:=T
 v70:=T
 t76:=h
 a76:=T
 z76:=T
 v76:=T
 t77:=h
 a77:=T
 z77:=T
 v77:=T
def acH:Ren:={f:=λz=>match z with|6=>119|15=>172|14=>175|28=>226|29=>227|20=>237|21=>238|22=>239|23=>240|24=>241|25=>242|26=>243|27=>244|46=>294|47=>287|48=>288|49=>295|50=>296|57=>337|n=>n,t:=λz=>match z with|22=>123|24=>215|25=>216|3=>3|39=>265|0=>0|53=>307|55=>309|4=>4|46=>301|45=>300|50=>199|5=>5|9=>9|66=>357|70=>361|76=>392|77=>292|n=>n,g:=λz=>z}
def akE:qR af acH where
 mixed:=h
 f6:=⟨ "slices.SortFunc[[]dumbwaiter/api.Index,dumbwaiter/api.Index]",rfl,h⟩
 f14:=⟨ "slices.pdqsortCmpFunc[dumbwaiter/api.Index]",rfl,h⟩
 f15:=h
 f20:=⟨ "slices.insertionSortCmpFunc[dumbwaiter/api.Index]",rfl,h⟩
 f21:=⟨ "slices.heapSortCmpFunc[dumbwaiter/api.Index]",rfl,h⟩
 f22:=⟨ "slices.breakPatternsCmpFunc[dumbwaiter/api.Index]",rfl,h⟩
 f23:=⟨ "slices.choosePivotCmpFunc[dumbwaiter/api.Index]",rfl,h⟩
 f24:=⟨ "slices.reverseRangeCmpFunc[dumbwaiter/api.Index]",rfl,h⟩
 f25:=⟨ "slices.partialInsertionSortCmpFunc[dumbwaiter/api.Index]",rfl,h⟩
 f26:=⟨ "slices.partitionEqualCmpFunc[dumbwaiter/api.Index]",rfl,h⟩
 f27:=⟨ "slices.partitionCmpFunc[dumbwaiter/api.Index]",rfl,h⟩
 f28:=h
 f29:=h
 f46:=⟨ "slices.siftDownCmpFunc[dumbwaiter/api.Index]",rfl,h⟩
 f47:=h
 f48:=h
 f49:=⟨ "slices.medianAdjacentCmpFunc[dumbwaiter/api.Index]",rfl,h⟩
 f50:=⟨ "slices.medianCmpFunc[dumbwaiter/api.Index]",rfl,h⟩
 f57:=⟨ "slices.order2CmpFunc[dumbwaiter/api.Index]",rfl,h⟩
 t0:=h
 a0:=T
 z0:=T
 v0:=T
 t3:=h
 a3:=T
 z3:=T
 v3:=T
 t4:=h
 a4:=T
 z4:=T
 v4:=T
 t5:=h
 a5:=T
 z5:=T
 v5:=T
 t9:=h
 a9:=T
 z9:=T
 v9:=T
 t22:=h
 a22:=T
 z22:=T
 v22:=T
 t25:=h
 a25:=T
 z25:=T
 v25:=T
 t39:=h
 a39:=T
 z39:=T
 v39:=T
 t45:=h
 a45:=T
 z45:=T
 v45:=T
 t46:=h
 a46:=T
 z46:=T
 v46:=T
 t50:=h
 a50:=T
 z50:=T
 v50:=T
 t53:=h
 a53:=T
 z53:=T
 v53:=T
 t55:=h
 a55:=T
 z55:=T
 v55:=T
 t66:=h
 a66:=T
 z66:=T
 v66:=T
 t70:=h
 a70:=T
 z70:=T
 v70:=T
 t76:=h
 a76:=T
 z76:=T
 v76:=T
 t77:=h
 a77:=T
 z77:=T
 v77:=T
end Go.Dl
namespace Go.Dl
theorem RD{e:Hp}{f:cC}{g:Nat->Option Value}{c:Nat}:∀(h:List (List D)) (a d:Nat),D.jl e f g a c h->D.jl e f g a c (h.take d)|[],_,_,b=>U|_::_,_,0,_=>aj|x::i,a,d+1,b=>⟨b.1,b.2.1,RD i (a+c) d b.2.2⟩
section
variable {j:Hp}{g:cC}{c:ah}{id h i k:Nat}{e:List (List D)}
def C6(b:c id=J (.row h i e))(a:Nat):(am c id (J (.row h i (e.take k))) a).isSome=(c a).isSome:=by by_cases d:a=id;exact U;exact U
theorem iA.Cm(f:iA j g c)(l:c id=J (.row h i e)):iA j g (am c id (J (.row h i (e.take k)))):=by
 refine⟨λa o d=>?_,λp a b q d=>f.apart p a b (by rwa [C6 l]at q) (by rwa [C6 l]at d),f.there⟩;by_cases m:a=id;subst m;rw[bi]at d;cases d;have:=f.gu a _ l;refine⟨this.1,?_⟩;have n:=this.2;cases r:g.loc a with|none=>grind|some b=>rw[r]at n;obtain⟨s,t,u,v,w⟩:=n;exact⟨s,t,u,v,RD e 0 k w⟩
 rw[ai m]at d;exact f.gu a o d
theorem eI.Cm(f:c id=J (.row h i e))(l:Nat->Prop):eI l j g c j g (am c id (J (.row h i (e.take k)))):=by
 have o:∀b,Md g (am c id (J (.row h i (e.take k)))) b->Md g c b:=by rintro b ⟨a,d,m⟩;exact⟨a,by rwa [C6 f]at d,m⟩
 have:=eI.refl l j g c;refine {this with md:=U,nw:=λa p n=>?_};have d:=C6 (k:=k) f a;rw[n]at d;cases q:am c id (J (.row h i (e.take k))) a with|none=>rfl|some r=>grind
end
theorem X.Cm{j:Program}{l:cB}{m:List D}{n:ah}{o:Nat}{g:D->ah->Nat->Prop}(p:X j l m n o λd r N=>g d r N\/∃id a b c e,r id=J (.row a b e)/\g d (am r id (J (.row a b (e.take c)))) N):X j l m n o g:=by
 refine⟨p.1,λw q s t u v x=>(p.2 w q s t u v x).mono λL M y=>?_⟩;obtain⟨z,A,d,r,N,B,f,C,E,F,G,H⟩:=y;rcases f with f|⟨id,a,b,c,e,h,f⟩
 grind;refine⟨z,A,d,_,N,B,f,C,E.Cm h,F.trans (eI.Cm h _),λi I=>?_,H⟩;have K:=C6 (k:=c) h i;rw[G i I]at K;cases O:am r id (J (.row a b (e.take c))) i with|none=>rfl|some P=>grind
mutual
inductive qP(O:ah):D->P->Prop|p (z:P):qP O (.p z) z|agg (u:List D) (ps:List P) (h:mB O u ps):qP O (.agg u) (.agg ps)|sl (id g off len s:Nat) (full:Bool) (es:List (List D)) (rs:List (List P)) (hO:O id=J (.row s g es)) (hl:off+len<=es.length) (h:qH O es rs):qP O (.sl id g off len s full) (.im ((rs.drop off).take len) s full)|ptr (id g s i j:Nat) (es:List (List D)) (x:List D) (r':List P) (hO:O id=J (.row s g es)) (hr:es[i]? =J x) (h:mB O x r'):qP O (.ptr id g s i j) (.ip (r'.drop j))|fn (f:Fn) (a b:List D) (a' b':List P) (h:mB O a a') (h2:mB O b b'):qP O (.fn f a b) (.fn f a' b')
inductive mB(O:ah):List D->List P->Prop|nil:mB O [] []|cons (d:D) (p:P) (u:List D) (ps:List P) (h:qP O d p) (h2:mB O u ps):mB O (d::u) (p::ps)
inductive qH(O:ah):List (List D)->List (List P)->Prop|nil:qH O [] []|cons (x:List D) (r':List P) (rs:List (List D)) (rs':List (List P)) (h:mB O x r') (h2:qH O rs rs'):qH O (x::rs) (r'::rs')
end
def cC.Gl(a:cC)(c:ah):cC:={a with own:=λb=>a.own b/\¬Md a c b}
def mB.length{b:ah}:∀{u:List D} {a:List P},mB b u a->a.length=u.length|_,_,.nil=>rfl|_,_,.cons _ _ _ _ _ c=>by simp[c.length]
def qH.length{b:ah}:∀{u:List (List D)} {a:List (List P)},qH b u a->a.length=u.length|_,_,.nil=>rfl|_,_,.cons _ _ _ _ _ c=>by simp[c.length]
theorem qH.at{c:ah}:∀{u:List (List D)} {d:List (List P)},qH c u d->∀(a:Nat) (b:List P),d[a]? =J b->∃x,u[a]? =J x/\mB c x b|_,_,.nil,a,b,e=>by simp at e|_,_,.cons x h i j e g,a,b,f=>by cases a with|zero=>grind|succ a=>simp at f;simpa using g.at a b f
section
variable {g:Hp}{c:cC}{e:ah}(h:iA g c e)
include h
mutual
theorem qP.rd:∀{d:D} {p:P},qP e d p->∀{k:Value},D.rd g c d k->P.rd g (c.Gl e).own p k
 |_,_,.p z,k,j=>P.lQ (own':=(c.Gl e).own) (λb ob hb o=>⟨hb,λX=>o X.1⟩) _ _ j|_,_,.agg u ps m,k,j=>by obtain⟨vs,q,r,F⟩:=j;exact⟨vs,q,by rw[m.length];exact r,m.iR F⟩
 |_,_,.fn f a b a' b' R hb,k,j=>by obtain⟨fv,cv,q,r,F,h4,h5⟩:=j;exact⟨fv,cv,q,by rw[R.length];exact r,by rw[hb.length];exact F,R.mN h4,hb.mN h5⟩
 |_,_,.ptr id ab s l ac es x S t G m,k,j=>by obtain⟨⟨a,rfl,H⟩,_,j⟩:=j;have hb:=h.gu _ _ t;obtain⟨b,I,v⟩:=j hb.1;cases v;have w:=hb.2;simp only[I]at w;obtain⟨ad,B,K,C,hR⟩:=w;refine⟨_,B,K,(0,0),rfl,rfl,λo=>o.2 ⟨id,by simp[t],I⟩,C,?_⟩;have E:=((D.gd _ _ _ _).1 hR l x G).2;have W:=m.iR E;rw[P.dE]at W⊢;intro L ag M;rw[mo]at M;obtain⟨k,q,r⟩:=W (ac+L) ag M;refine⟨k,?_,r⟩;rw[<-q];simp only[bf,xT]
 |_,_,.sl id ab off A s ax es rs t I m,k,j=>by
  obtain⟨⟨a,L,rfl,M,H,hz⟩,_,j⟩:=j;have hb:=h.gu _ _ t;have j:=j hb.1;have w:=hb.2;have ay:=m.length;have al:((rs.drop off).take A).length=A:=dK;cases N:c.loc id with
  |none=>simp only[N]at j;obtain⟨rfl,rfl,a',v⟩:=j;cases v;exact⟨a,0,0,rfl,Y,y,λ_=>rfl,λ_=>rfl,H,.inl Y⟩
  |some b=>
   simp only[N]at j w;obtain⟨k',T,B,K,fz,v,aB,O,aE,C,U⟩:=j;cases v;obtain⟨ad,aI,T2,V,G⟩:=w;rw[C]at V;cases V;refine⟨J ⟨b,T,ae⟩,A,L,rfl,al.symm,y,λhf=>?_,(λj=>by cases j),H,?_⟩;rw[aU hf]at U;exact U;by_cases h0:A=0;refine .inl ?_;subst h0;simp;refine .inr ⟨⟨b,T,ae⟩,B,K,(0,0),rfl,rfl,λo=>o.2 ⟨id,by simp[t],N⟩,C,(P.gd _ _ _ _).2 λl S Q=>?_⟩;have O:=O y;have an:l<A:=by have:=(bq.1 Q).1;omega
   rw[nv,aU an,mo]at Q;have ao:=qH.jl m (f:=λl=>B[l]?) (n:=s) (i:=0) G;have E:=(P.gd _ _ _ _).1 ao (off+l) S Q;refine⟨E.1,?_⟩;have:=E.2;rw[O,show off*s+l*s=0+(off+l)*s by rw[bf,eX]];exact this
theorem mB.iR:∀{u:List D} {b:List P},mB e u b->∀{f:Nat->Option Value} {a:Nat},D.iR g c f a u->P.iR g (c.Gl e).own f a b|_,_,.nil,f,a,h=>trivial|_,_,.cons d p u b i j,f,a,h=>by obtain⟨⟨k,l,m,n⟩,o⟩:=h;exact⟨⟨k,l,m,qP.rd i n⟩,mB.iR j o⟩
theorem mB.mN:∀{u:List D} {b:List P},mB e u b->∀{f:Nat->Option Value} {a:Nat},D.mN g c f a u->P.mN g (c.Gl e).own f a b|_,_,.nil,f,a,h=>trivial|_,_,.cons d o u b i j,f,a,h=>by obtain⟨⟨k,l,m⟩,n⟩:=h;exact⟨⟨k,l,qP.rd i m⟩,mB.mN j n⟩
theorem qH.jl:∀{u:List (List D)} {b:List (List P)},qH e u b->∀{f:Nat->Option Value} {n i:Nat},D.jl g c f i n u->P.jl g (c.Gl e).own f i n b|_,_,.nil,f,n,i,a=>trivial|_,_,.cons x j k l d h,f,n,i,a=>⟨by rw[d.length];exact a.1,mB.iR d a.2.1,qH.jl h a.2.2⟩
end
end
mutual
def FE:P->Bool|.v _=>aa|.agg c=>pN c|.im d _ _=>d.isEmpty|.ip _=>Z|.fn _ a b=>pN a&&pN b
def pN:List P->Bool|[]=>aa|p::a=>FE p&&pN a
end
section
variable {c e:Hp}{own g:Nat->Prop}
mutual
theorem FY:∀(m:P) (i:Value),FE m=aa->P.rd c own m i->P.rd e g m i
 |.v _,_,_,h=>h|.agg p,i,d,h=>by obtain⟨q,j,k,l⟩:=h;exact⟨q,j,k,Ms p d l⟩
 |.im w x y,i,d,h=>by obtain⟨a,r,s,j,k,l,n,o,t,_⟩:=h;exact⟨a,r,s,j,k,l,n,o,t,.inl (by simpa[FE]using d)⟩
 |.ip _,_,d,_=>by simp[FE]at d|.fn f a b,i,d,h=>by simp only[FE,aq]at d;obtain⟨u,v,j,k,l,n,o⟩:=h;exact⟨u,v,j,k,l,Gm a d.1 n,Gm b d.2 o⟩
theorem Ms:∀(a:List P) {b:Nat->Option Value} {d:Nat},pN a=aa->P.iR c own b d a->P.iR e g b d a|[],_,_,_,_=>trivial|p::a,b,d,f,i=>by simp only[pN,aq]at f;obtain⟨⟨h,j,k,l⟩,m⟩:=i;exact⟨⟨h,j,k,FY p h f.1 l⟩,Ms a f.2 m⟩
theorem Gm:∀(a:List P) {b:Nat->Option Value} {d:Nat},pN a=aa->P.mN c own b d a->P.mN e g b d a|[],_,_,_,_=>trivial|p::a,b,d,f,i=>by simp only[pN,aq]at f;obtain⟨⟨h,j,k⟩,l⟩:=i;exact⟨⟨h,j,FY p h f.1 k⟩,Gm a f.2 l⟩
end
end
def Xg(a:P):D:=if FE a then .p a else .any
mutual
def C2:D->D
 |.p z=>if FE z then .p z else match z with|.agg c=>.agg (c.map Xg)|_=>.any
 |.agg u=>.agg (wD u)|.eQ u=>.eQ (wD u)|.fn f a b=>.fn f (wD a) (wD b)|d=>d
def wD:List D->List D|[]=>[]|d::u=>C2 d::wD u
end
def qy(a:ah):ah:=λb=>match a b with|some (.row c d e)=>J (.row c d (e.map wD))|_=>ae
section
variable {e:Hp}{c c3:cC}(g:c3.gen=c.gen)(h:c3.loc=c.loc)
def wL(a:List D):(wD a).length=a.length:=by induction a with|nil=>rfl|cons d u ih=>simp[wD,ih]
theorem ai2(a:P)(b:Value)(d:P.rd e c.own a b):D.rd e c3 (Xg a) b:=by unfold Xg;split;rename_i f;exact FY a b f d;exact aj
include g h
mutual
theorem RE:∀(d:D) (j:Value),D.rd e c d j->D.rd e c3 (C2 d) j
 |.p z,j,i=>by
  simp only[C2];split;rename_i r;exact FY z j r i;split;obtain⟨n,k,l,m⟩:=i;refine⟨n,k,by simpa using l,(D.dE _ _ _).2 λs d o=>?_⟩;simp only[dN,bj]at o;obtain⟨p,t,rfl⟩:=o;obtain⟨j,v,w,g3⟩:=(P.dE _ _ _).1 m s p t;exact⟨j,v,w,ai2 p j g3⟩
  trivial
 |.agg u,j,i=>by obtain⟨n,k,l,m⟩:=i;exact⟨n,k,by rw[wL];exact l,LO u m⟩
 |.eQ u,j,i=>by obtain⟨n,k,l,m⟩:=i;exact⟨n,k,by rw[wL];exact l,E3 u m⟩
 |.fn f a b,j,i=>by obtain⟨x,y,k,l,m,A,B⟩:=i;exact⟨x,y,k,by rw[wL];exact l,by rw[wL];exact m,E3 a A,E3 b B⟩
 |.ptr id q C E F,j,i=>by simp only[C2,D.rd,g,h]at i⊢;exact i|.sl id q off G C H,j,i=>by simp only[C2,D.rd,g,h]at i⊢;exact i|.mp id q,j,i=>by simp only[C2,D.rd,g,h]at i⊢;exact i|.any,j,i=>trivial
theorem LO:∀(u:List D) {a:Nat->Option Value} {b:Nat},D.iR e c a b u->D.iR e c3 a b (wD u)|[],_,_,_=>trivial|d::u,a,b,g=>by obtain⟨⟨f,h,i,j⟩,k⟩:=g;exact⟨⟨f,h,i,RE d f j⟩,LO u k⟩
theorem E3:∀(u:List D) {a:Nat->Option Value} {b:Nat},D.mN e c a b u->D.mN e c3 a b (wD u)|[],_,_,_=>trivial|d::u,a,b,g=>by obtain⟨⟨f,h,i⟩,j⟩:=g;exact⟨⟨f,h,RE d f i⟩,E3 u j⟩
end
theorem Wr{b:Nat->Option Value}{d:Nat}:∀(l:List (List D)) {f:Nat},D.jl e c b f d l->D.jl e c3 b f d (l.map wD)|[],_,_=>ar|x::i,_,a=>⟨by rw[wL];exact a.1,LO g h x a.2.1,Wr i a.2.2⟩
end
theorem X.view{Pg:Program}{S:cB}{T:List P}{f:ah}(hv:mB f V T)(h:X Pg S (T.map .p) (λ_=>ae) nx λd r N=>R (C2 d) (bp (qy r) f) N):X Pg S V f nx R:=by
 refine⟨h.1,λw g vs k hf l hd=>?_⟩;have aI:D.mN (W w) (g.Gl f) (λi=>vs[i]?) 0 (T.map .p):=by have:=mB.mN k hv hd;rw[P.ld]at this;rw[D.ld];intro j d e;simp only[dN,bj]at e;obtain⟨C,n,rfl⟩:=e;exact aj
 refine(h.2 w (g.Gl f) vs ⟨ak,ak,(λb hb=>k.there b hb.1)⟩ i0 (by simp[hv.length,l]) aI).mono λs w' A=>?_;obtain⟨ax,o,d,r,N,p,e,h3,Y,a,h6,h7⟩:=A;have ay:∀b,¬Md (g.Gl f) (λ_=>ae) b:=by rintro b ⟨j,e,_⟩;simp at e
 have H:∀id,(f id).isSome=aa->o.gen id=g.gen id/\o.loc id=g.loc id/\r id=ae:=by
  intro id E;have B:¬nx<=id:=λab=>by rw[hf id ab]at E;cases E
  have hg:=a.fr id B rfl;exact⟨hg,a.loc id hg,a.nw id B rfl⟩
 let x:cC:={o with own:=λb=>o.own b\/Md g f b}
 have aO:∀{id j},qy r id=J j->∃I z K,r id=J (.row I z K)/\j=.row I z (K.map wD):=by intro id j e;simp only[qy]at e;split at e;grind;cases e
 have L:∀{id},(qy r id).isSome=aa->(r id).isSome=aa:=by intro id l;cases n:qy r id with|none=>grind|some j=>grind
 have ac:∀{id},(bp (qy r) f id).isSome=aa->(qy r id).isSome=aa\/(f id).isSome=aa:=by intro id l;simp only[bp]at l;cases n:qy r id with|none=>grind|some j=>simp
 have ext:eI (λid=>nx<=id) (W w) g f (W w') x (bp (qy r) f):=by
  refine⟨λb ob hb _=>a.aL b ob hb U,λb hb=>?_,λb hb=>?_,a.gen,a.loc,a.size,a.Co,λid B _=>a.fr id B rfl,λid B E=>?_,λb hb hh hm=>.inl (a.A9 b aj hh U),a.sm⟩;obtain⟨id,l,q⟩:=hb;rcases ac l with h|h
  rcases a.md b ⟨id,U,q⟩with h|h;exact aj;grind;exact .inl ⟨id,h,ak⟩;rcases hb with hb|hb;rcases a.own b hb with h|h;exact .inl h.1;grind;exact .inl (k.gC hb);have:=a.nw id B rfl;simp[bp,qy,this,E]
 have F:∀b,Md g f b->g.own b:=λb hb=>k.gC hb;refine⟨ax,x,C2 d,_,N,p,e,RE (c:=o) (c3:=x) rfl rfl d ax h3,⟨λid j e=>?_,λi t b aP aR M O=>?_,λb hb=>?_⟩,ext,λid ab=>?_,h7⟩;simp only[bp]at e;cases n:qy r id with
 |some C=>rw[n]at e;cases e;obtain⟨I,z,K,s,rfl⟩:=aO n;have hb:=Y.gu id _ s;refine⟨hb.1,?_⟩;have G:=hb.2;have el:x.loc id=o.loc id:=rfl;rw[el];cases q:o.loc id with|none=>grind|some b=>simp only[q]at G⊢;obtain⟨E,ad,ag,u,hr⟩:=G;exact⟨aj,ad,ag,u,Wr (c:=o) (c3:=x) rfl rfl _ hr⟩
 |none=>
  rw[n]at e;have e:f id=J j:=e;obtain⟨g1,g2,_⟩:=H id (by simp[e]);have hb:=k.gu id j e;have a2:∀b,g.loc id=J b->Md g f b:=λb q=>⟨id,by simp[e],q⟩;cases j with
  |row I z K=>refine⟨g1.trans hb.1,?_⟩;have G:=hb.2;have el:x.loc id=g.loc id:=g2;rw[el];cases q:g.loc id with|none=>grind|some b=>simp only[q]at G⊢;obtain⟨_,ad,ag,u,hr⟩:=G;have:=a.aL b _ u U;exact⟨ak,ad,ag,ar,D.uH F ext _ _ _ _ hr⟩
  |map z aB kv=>obtain⟨Q,b,q,_,al,u,an,l,A⟩:=hb;refine⟨ak,b,ak,ak,al,a.aL b _ u U,an,l,λi s ao C n=>?_⟩;obtain⟨e3,e4,e5⟩:=A i s ao C n;exact⟨P.lQ (eI.pure F ext) _ _ e3,D.mI F ext _ _ e4,e5⟩
  |iq z S=>obtain⟨aB,kv,aS,Q,b,q,_,al,u,an,l,A⟩:=hb;refine⟨aB,kv,aS,ak,b,ak,ak,al,a.aL b _ u U,an,l,λi s ao C n=>?_⟩;obtain⟨e3,e4,e5⟩:=A i s ao C n;exact⟨P.lQ (eI.pure F ext) _ _ e3,D.mI F ext _ _ e4,e5⟩
  |oe z m mg a3 a4 a5=>obtain⟨Q,b,q,_,hm,bm,u,A⟩:=hb;have a6:=a.gen m;have a7:(g.Gl f).gen m=g.gen m:=rfl;refine⟨ak,b,ak,ak,ak,bm,a.aL b _ u (ay b),λs=>?_⟩;have s:o.gen m=mg:=s;have:o.loc m=g.loc m:=a.loc m y;grind
 have aE:∀{i t},(r i).isSome=aa->(f t).isSome=aa->x.loc i=J b->x.loc t=J b->False:=by
  intro i t p v a0 a1;rcases a.md b ⟨i,p,a0⟩with h|h
  exact ay b h;exact k.there b (k.gC ⟨t,v,by rw[<-(H t v).2.1];exact a1⟩) h
 rcases ac aP with p|p<;>rcases ac aR with v|v;exact Y.apart i t b (L p) (L v) M O;exact(aE (L p) v M O).elim;exact(aE (L v) p O M).elim;exact k.apart i t b p v (by rw[<-(H i p).2.1];exact M) (by rw[<-(H t v).2.1];exact O);rcases hb with hb|hb;exact Y.there b hb;exact a.Co b (k.there b (k.gC hb));have Q:=h6 id ab;have e2:=hf id y;simp[bp,qy,Q,e2]
def yr(e:cR)(b:Array Oper)(g:List aA):Nat->Array Bool->St->(St->Prop)->Prop|0,a,c,R=>kZ .any b a=[]/\R c|f+1,a,c,R=>kZ .any b a≠[]/\∀h∈kZ .any b a,∀d,g[h]? =J d->d9 e d c λi=>yr e b g f (a.setIfInBounds h aa) i R
section
variable {g:Program}{i:Nat}{c:Array Oper}
theorem aak(G:rL g i c 0 c.toList=J u){x:aV->Act->World->Prop}:
 ∀(l:Nat) (e:Array Bool) (a:Act) (w:World) (f:cC) (b:St) (R:St->Prop),
  e.size=c.size->Rz i w f a b->b.bs+c.size<=b.nx->
  (∀d,d<c.size->e.getD d aa=Z->b.gm (b.bs+d)=f.gen (b.bs+d)+1/\b.O (b.bs+d)=ae)->
  yr (X g) c u l e b R->
  (∀j m n k,R j->Rz i k m n j->eI (λid=>b.bs<=id) (W w) f b.O (W k) m j.O->b.nx<=j.nx->x .normal n k)->
  wpAny g .any c x l e a w:=by
 obtain⟨H,I⟩:=wS c.toList 0 u G;intro l;induction l with
 |zero=>intro e a w f b R K o L p h q;exact⟨h.1,q b f a w h.2 o (eI.refl _ _ _ _) y⟩
 |succ l ih=>
  intro e a w f b R K o L p h q;refine⟨λM=>absurd M h.1,λd z=>?_⟩;obtain⟨A,N,ac,B,_⟩:=Bg z;have O:d<u.length:=by rw[H];simpa using A
  have C:=bh O;obtain⟨o',P,ad⟩:=I d _ C;have D:=by simpa using P
  rw[B]at D;cases D;obtain⟨Q,ag⟩:=p d A N;refine Ap B ak o y Q (h.2 d z _ C) λj m n k S T r al hb V=>?_;have Y:eI (λid=>b.bs<=id) (W w) f b.O (W k) m j.O:=r.mono λid s=>by rcases s with h|h<;>omega
  refine ih (e.setIfInBounds d aa) n k m j R U T y (λt hj v=>?_) S λs2 c2 a2 w2 k2 R2 x2 an=>q s2 c2 a2 w2 k2 R2 (Y.trans ak) y;rw[LX y]at v;by_cases ab:t=d;grind;rw[ap ab]at v;obtain⟨q1,E⟩:=p t hj v;have F:¬Ni b d (b.bs+t):=λs=>by rcases s with h|h<;>omega
  rw[hb,V,r.fr _ F E];exact⟨q1,r.nw _ F E⟩
theorem YT{id:Nat}(q:rL g i c 0 c.toList=J u)(A:g.follows .mixedOrders=aa){l:World}{n:cC}{o:ah}{a:St}{f:World}{d:cC}{h:Act}(e:Rz i f d h a)(r:eI (oX m) (W l) n o (W f) d a.O)(B:m<=a.nx)(s:∀t,yr (X g) c u c.size (iE c.size Z) {a with bs:=a.nx,nx:=a.nx+c.size,gm:=t} λb=>Q .normal b):
 (rg id c aa).wp g (λv p k=>∃b j,Q v b/\Rz i k j p b/\eI (oX m) (W l) n o (W k) j b.O/\m<=b.nx) h f:=by refine xV ar ?_;have w:Rz i {f with drawn:=f.drawn+1} d h {a with bs:=a.nx,nx:=a.nx+c.size,gm:=λid=>d.gen id+1}:=⟨e.sz,e.df,e.tm,e.inv,λid C=>e.fr id ak⟩;refine aak q c.size _ h _ d _ _ Y w aw (λD E _=>⟨rfl,e.fr _ aw⟩) (s λid=>d.gen id+1) λb j p k x y z F=>?_;exact⟨b,j,x,y,r.trans (z.mono ak),ak⟩
def IV{h:cR}(j:mu h){k:List aA}:∀(f:Nat) (e:Array Bool) {a:St} {R g:St->Prop},(∀a,R a->g a)->yr h c k f e a R->yr h c k f e a g|0,e,a,R,g,i,b=>⟨b.1,i _ b.2⟩|f+1,e,a,R,g,i,b=>⟨b.1,λl m d n=>rJ j (λp o=>IV j f _ i o) (b.2 l m d n)⟩
theorem X.aoA{H:cB}{h:Func}{id:Nat}{o q:Code}{v s:av}(I:g.funcs[H]? =J h)(K:h.body=J (.seq (.seq (.region id c aa) o) q)){F:d6}(k:Th g h=J F)(T:rL g h.ntmps c 0 c.toList=J u)(ax:g.follows .mixedOrders=aa)(B:mr g h.ntmps o=J v)(hy:mr g h.ntmps q=J s){p:ah}(hn:V.length<=F.n)(ay:Fr p nx->∀L,yr (X g) c u c.size (iE c.size Z) {(cN V p nx)with bs:=nx,nx:=nx+c.size,gm:=L} λs1=>bx (X g) (.seq v s) s1 λe a=>(e=.normal\/e=.ret)/\jt a F.rs λu=>∃r N,yJ r a.O/\nx<=N/\Fr r N/\R (aM u) r N):X g H V p nx R:=by
 unfold Th at k;split at k;rename_i aB M;rw[K]at M;cases M;split at k;rename_i d x hd ab;split at k;rename_i aE;cases k;refine⟨⟨h,I,ar,U⟩,λw C vs hi ac hs ad=>?_⟩;refine Bf I K ?_;have hR:=rz0 hi ac hs ad hn;refine kU (?_:(G7 (G7 (rg id c aa) o) q).wp g (λ(e:aV) i b=>∃a f,((e=.normal\/e=.ret)/\jt a x λu=>∃r N,yJ r a.O/\nx<=N/\Fr r N/\R (aM u) r N)/\Rz h.ntmps b f i a/\eI (oX nx) (W w) C p (W b) f a.O/\nx<=a.nx) _ _) λe i b j=>?_;refine wp_seq (kU (Q:=λe i b=>∃a f,(match e with|.normal=>bx (X g) s a λe a=>(e=.normal\/e=.ret)/\jt a x λu=>∃r N,yJ r a.O/\nx<=N/\Fr r N/\R (aM u) r N|e=>(e=.normal\/e=.ret)/\jt a x λu=>∃r N,yJ r a.O/\nx<=N/\Fr r N/\R (aM u) r N)/\Rz h.ntmps b f i a/\eI (oX nx) (W w) C p (W b) f a.O/\nx<=a.nx) (wp_seq (kU (YT (Q:=λe s1=>e=.normal/\bx (X g) (.seq v s) s1 λe a=>(e=.normal\/e=.ret)/\jt a x λu=>∃r N,yJ r a.O/\nx<=N/\Fr r N/\R (aM u) r N) T ar hR (eI.refl _ _ _ _) (bV _) λL=>IV br _ _ (λs1 E=>⟨rfl,E⟩) aj) λe i b j=>?_)) λe i b j=>?_)
 obtain⟨a,f,⟨G,j⟩,l,z,A⟩:=j;subst G;exact DL o v B a _ b f i l z A j;obtain⟨a,f,j,l,z,A⟩:=j;cases e with|normal=>exact DL q s hy a _ b f i l z A j|exit O=>grind|goto O=>grind|ret=>exact⟨a,f,j,l,z,A⟩|panic O=>grind|outgrown=>grind
 obtain⟨a,f,⟨G,aI⟩,l,B,hm⟩:=j;obtain⟨m,t,⟨r,N,aO,ag,aP,hK⟩,h3,h4,h5,h6⟩:=Db l ab ar;have al:∃n,(results h i.tmps).run g b=.ok n b/\D.rd (W b) f (aM m) n:=by
  have aR:=FO h4 h5;by_cases E:t.length=1;obtain⟨P,rfl⟩:=rC.1 E;have an:m.length=1:=by rw[<-h3];rfl
  obtain⟨o,rfl⟩:=rC.1 an;refine⟨P,?_,h6 0 P o rfl rfl⟩;exact ar;refine⟨.tuple t.toArray,?_,?_⟩;grind;have:aM m=.eQ m:=by cases m with|nil=>rfl|cons o m=>cases m with|nil=>exact aj|cons q ys=>rfl
  rw[this];refine⟨t.toArray,rfl,y,(D.ld _ _ _).2 λS d hk=>?_⟩;have aS:S<t.length:=by have:=(bq.1 hk).1;omega
  exact⟨t[S],Y,ak⟩
 obtain⟨n,hv,ao⟩:=al;have a0:bodyPost g h (λe b=>∃n f d r N,e=.returned n/\R d r N/\D.rd (W b) f d n/\iA (W b) f r/\eI (λid=>nx<=id) (W w) C p (W b) f r/\Fr r N/\nx<=N) .ret i b:=⟨l.df,n,hv,n,f,aM m,r,N,rfl,hK,ao,l.inv.sub ar,B.sub ar,ar,ag⟩
 rcases G with rfl|rfl;exact ar;exact ar;cases k;cases k;cases k
end
end Go.Dl
