import Derived.Shelf.SlSortCmp.NoneTotal
import Derived.Test.YtaggkglfnbcjdaaGreatDoorProg
import Derived.Test.YtaggkglfnbcjdaaGreatDoorQ09
set_option linter.all false
set_option maxRecDepth 1000000
set_option maxHeartbeats 40000000
namespace Go.Dl.Ai
end Go.Dl.Ai
namespace Go.Proofs
end Go.Proofs
namespace Ty
end Ty
open Array renaming extract_size->HT
open Bool renaming false->Z,true->aa
open Go renaming Calls->iQ
open Go.IntKind renaming i64->cI
open Go.Proofs.AnyF renaming slices_SortFunc_none->HS
open Go.Proofs.SlLaysF0 renaming n6->qR
open Go.Proofs.Tryz renaming func114->GZ,func117->G8,func119->Ig,prog->af
open Go.Value renaming oneCell'->aJ
open List renaming Perm->rB,flatMap_append->Gn,flatMap_cons->mW,getElem_ofFn->If,length->fZ,length_append->fj,length_cons->ij,map_append->cG,mem_flatMap->xz
open Option renaming mem_toList->Hb,none->ae,some->J
open Prod renaming fst->pJ,snd->Bc
open UInt8 renaming lt_iff_toNat_lt->Iu
open Go Go.Dl Go.Dl.Ai
def qu:=@decide_eq_true
def An:=@of_decide_eq_true
def GV:=@of_decide_eq_false
def qV:=@getElem!_pos
def mw:=@List.mem_append_right
def jx:=@List.mem_append_left
variable {k n i aS eb ge rb gr bB bZ bM:Nat}{cJ:Type}{p V:ByteArray}{bO:Option Nat}{cg:Program}{f K H bH ag bu bX rp Q:P}{u bC bS cE aP:List (List P)}{M:D}{d o:St}{r C be tr E:List P}{bn:Exit->St->Prop}{bA aR aB bT:Bool}{la lb:Int}
namespace Go.Dl
open Go.Proofs Go.Dl.Ai Go.Shelf Go.RowKit Go.Lib Go.Sort
def acX:∀a:List UInt8,compareBytes a a=0|[]=>rfl|f::a=>by simp[compareBytes,acX a]
def Pq:∀b p c:List UInt8,compareBytes b p<0->compareBytes p c<0->compareBytes b c<0|[],[],_,a,_=>y|[],_::_,[],_,a=>by simp[compareBytes]at a|[],_::_,_::_,_,_=>ar|_::_,[],_,a,_=>by simp[compareBytes]at a|_::_,_::_,[],_,a=>ar|f::b,Q::p,d::c,a,k=>by have ih:=Pq b p c;simp[compareBytes,Iu]at a k⊢;omega
def Ny:∀b p c:List UInt8,0<=compareBytes b p->0<=compareBytes p c->0<=compareBytes b c|[],[],_,_,a=>a|[],_::_,_,a,_=>by simp[compareBytes]at a|_::_,[],[],_,_=>y|_::_,[],_::_,_,a=>by simp[compareBytes]at a|_::_,_::_,[],_,_=>ar|f::b,Q::p,d::c,a,k=>by have ih:=Ny b p c;simp[compareBytes,Iu]at a k⊢;omega
def Wd(b:Nat)(a:List Value):Prop:=a.length=b/\(∀c∈a,c.oneCell'=aa)/\∃d be,a=.string d::be
abbrev Rw(a:Nat):Type:={u:List Value//Wd a u}
def nmL:List Value->List UInt8|.string a::_=>a.data.toList|_=>[]
def zV(a:Rw k):List Value:=a.1
def Zy(a b:Rw k):Int:=compareBytes (nmL a.1) (nmL b.1)
def arh:SWO (ltOf (Zy (k:=k))) where
 irrefl f:=by simp[ltOf,Zy,acX]
 trans f Q z h1 h2:=by exact qu (Pq _ _ _ (An h1) (An h2))
 ntrans f Q z h1 h2:=by exact mz (ua.2 (Ny _ _ _ (ua.1 (GV h1)) (ua.1 (GV h2))))
theorem Dn{e:Type}{g:cJ->e}:∀{d H:List e},d.Perm H->∀{u:List cJ},u.map g=H->∃c:List cJ,c.Perm u/\c.map g=d:=by
 intro d H h;induction h with
 |nil=>intro u b;exact⟨u,Y,b⟩
 |cons f h ih=>
  intro u b;cases u with
  |nil=>cases b
  |cons a u=>simp only[bG,kJ]at b;obtain⟨c,i,j⟩:=ih b.2;exact⟨a::c,U,U⟩
 |swap f Q q=>
  intro u b
  match u,b with|a::p::u,b=>simp only[bG,kJ]at b;exact⟨p::a::u,aj,U⟩
 |trans i j k l=>intro u b;obtain⟨c,r,m⟩:=l b;obtain⟨n,s,o⟩:=k m;exact⟨n,aj,o⟩
def Zl{a:World}{b c:Nat}{d:Array Value}{e:TypeId}(f:a.heap[b]? =J (.cells d e (0,0))):a.frozen? ⟨b,c,ae⟩=Z:=by simp[World.frozen?,f]
theorem X.aeu{F:Ren}(a0:qR cg F)(ab:0<k)(aE:∀(b:World),(isAgg (F.t 24)).run cg b=.ok aa b)(zE:∀(b:World),(Go.sizeOf (F.t 24)).run cg b=.ok k b){q:Nat}(eg:∀(a1:Array Value) (b:World),(callFunc q a1).run cg b=.ok (.enter q a1) b)(bk:∀(f Q:List Value) (b:World),Wd k f->Wd k Q->iQ cg q #[.agg f.toArray,.agg Q.toArray] b λx s=>x=.returned (.int .i64 (compareBytes (nmL f) (nmL Q)))/\∃C K,s=grow (b.drewN C) K)(he:As cg (F.f 6)){id t:Nat}{a:List (List D)}{u:ah}{z:Nat}{ac:D->ah->Nat->Prop}(hO:u id=J (.row k t a))(bl:∀r∈a,∃(L:ByteArray) (be:List D),r=.p (S L)::be)(cl:a.length<4611686018427387904)(hK:∀a2:List (List D),a2.Perm a->ac (.eQ []) (am u id (J (.row k t a2))) z):X cg (F.f 6) [.sl id t 0 a.length k Z,.p (.fn (.func q) [] [])] u z ac:=by
 refine⟨he,λb A aP hi hf hs hd=>?_⟩;obtain⟨v0,bm,bn⟩:=(D.ld _ _ _).1 hd 0 _ rfl;obtain⟨v1,bo,bs⟩:=(D.ld _ _ _).1 hd 1 _ rfl;obtain⟨fv,cv,rfl,cm,cn,_,_⟩:=bs;have bu:aP= #[v0,.func (.func q) fv cv]:=by
  simp only[bf]at bm bo;simp only[ij,tS]at hs;refine tG (by simpa using hs) λi v d=>?_;have:i<2:=by simpa using d
  rcases(by omega:i=0\/i=1)with rfl|rfl;grind;grind
 subst bu;obtain rfl:fv= #[]:=ak;obtain rfl:cv= #[]:=ak;have O:=hi.gu id _ hO;obtain⟨⟨pa,kc,rfl,cq,cr,cs⟩,_,P⟩:=bn;have P:=P O.1;have G:=O.2;have bA:a.length=0->iQ cg (F.f 6) #[.slice pa a.length kc,.func (.func q) #[] #[]] b λx s=>∃e c' M O' ad,x=.returned e/\ac M O' ad/\D.rd (W s) c' M e/\iA (W s) c' O'/\eI (λid=>z<=id) (W b) A u (W s) c' O'/\Fr O' ad/\z<=ad:=by intro h0;have bB:=xY.1 h0;rw[h0];refine(HS a0 pa kc _ b).mono λx s ⟨v,d⟩=>?_;subst v;subst d;have:=hK [] (by rw[bB]);rw[show am u id (J (.row k t []))=u from yd U]at this;exact⟨_,A,.eQ [],u,z,rfl,this,⟨#[],rfl,rfl,ar⟩,hi,eI.refl _ _ _ _,hf,y⟩
 by_cases ag:a.length=0;exact bA ag;cases R:A.loc id with
 |none=>rw[R]at G;simp only at G;rw[G]at ag;simp at ag
 |some p=>
  rw[R]at P G;simp only at P G;obtain⟨cw,bO,j,T,fz,bC,bH,ho,cx,hH,a3⟩:=P;cases bC;obtain⟨bL,cy,T2,a4,hr⟩:=G;rw[hH]at a4;cases a4;obtain rfl:bO=0:=y;simp only[fN,dC,bf]at a3;have al:=(D.gd _ _ _ _).1 hr;have bM:p<b.heap.size:=by rcases uk p b.heap.size with h|h;exact h;grind
  have an:b.heap[p]? =J (.cells j T (0,0)):=hH;have bR:∀i (r:List D),a[i]? =J r->∀H,H<k->∃e,j[i*k+H]? =J e/\e.oneCell'=aa:=by intro i r B H hm;obtain⟨v,d⟩:=al i r B;have cz:H<r.length:=y;obtain⟨e,m,h4,_⟩:=(D.dE _ _ _).1 d H r[H] Y;exact ak
  have ao:∀i,i<a.length->Wd k (List.ofFn λH:Fin k=>j[i*k+H.1]!):=by intro i a5;have B:=bh a5;refine⟨Y,λe hv=>?_,?_⟩;obtain⟨H,rfl⟩:=List.mem_ofFn.1 hv;obtain⟨e,m,h4⟩:=bR i _ B H.1 H.2;grind;obtain⟨L,be,cE⟩:=bl _ (bJ a5);obtain⟨v,d⟩:=al i _ B;obtain⟨e,m,h4,h5⟩:=(D.dE _ _ _).1 d 0 (.p (S L)) U;have h5:e=.string L:=h5;obtain⟨k',rfl⟩:∃k',k=k'+1:=U;refine⟨L,_,by rw[List.ofFn_succ];congr 1;rw[getElem!_def];simp only[bf,uC]at m⊢;exact U⟩
  haveI:Inhabited (Rw k):=⟨⟨_,ao 0 y⟩⟩;let M:Array (Rw k):=Array.ofFn λi:Fin a.length=>(⟨_,ao i.1 i.2⟩:Rw k)
  have E:M.size=a.length:=Array.size_ofFn;have a6:∀i (h:i<a.length),M[i]! =(⟨_,ao i h⟩:Rw k):=by intro i h;rw[qV M i (by rw[E];exact h)];exact Array.getElem_ofFn (by simpa using h)
  have cJ:a.length*k<=j.size:=by rw[<-a3];exact gH _ bH
  have bS:∀c,c<a.length*k->(flatK (zV) k M)[c]! =j[c]! :=by intro c ht;rw[get_flatK _ _ _ c (by rw[E];exact ht)];have v:c/k<a.length:=(Nat.div_lt_iff_lt_mul ab).2 ht;have d:c%k<k:=AL _ ab;rw[a6 _ v];simp only[zV];rw[qV _ _ (by simpa using d)];simp only[If];rw[Nat.div_add_mod' c k]
  have bT:HoldsK (zV) k b p 0 M:=by
   intro g hj;have bX:g<a.length*k:=by rw[<-E];simpa using hj
   refine⟨?_,Zl an⟩;rw[BR an,bf];show j[g]? =J (flatK (zV) k M)[g]!;rw[bS g bX,qV j g y,jb y]
  have bZ:CmpLays cg q #[] (zV) k (Zy (k:=k)) p 0 M.size b:=by intro H K dk _ f Q;have:=bk f.1 Q.1 (sortWorldK (zV) k b p 0 H dk K) f.2 Q.2;simpa[zV,Zy]using this
  have a7:=AnyQ.slices_SortFunc a0 k aE zE zV (λf=>f.2.1) (λf=>f.2.2.1) Zy arh q #[] p 0 kc M b eg bZ bT bM y;rw[E]at a7;refine a7.mono λx s ⟨v,l,H,K,a8,_,hw⟩=>?_;subst v;have ax:l.size=a.length:=by rw[a8.1,E]
  have b0:l.toList.Perm M.toList:=by
   have d:=a8.2.2;have e1:l.extract 0 a.length=l:=by rw[<-ax];exact HT
   have e2:M.extract 0 a.length=M:=by
    conv=>lhs;rw[<-E]
    exact HT
   rw[e1,e2]at d;exact d
  have b1:(a.zip M.toList).map Bc=M.toList:=List.map_snd_zip (by simp only[Bb];omega);have b2:(a.zip M.toList).map pJ=a:=List.map_fst_zip (by simp only[Bb];omega);obtain⟨I,ay,b3⟩:=Dn b0 b1;have b4:(I.map pJ).Perm a:=by have:=ay.map pJ;rw[b2]at this;exact this
  let w:World:=putRowK (zV) k (Sort.ahead b H) p 0 l
  let n:Array Value:=putCells _root_.id 0 (flatK (zV) k l) j
  have aB:W w p=J (.cells n T (0,0)):=by simp only[W,w,putRowK,putRow,mapBlock,sX,aT];show Option.map _ b.heap[p]? =_;rw[an];rfl
  have a9:∀Q,Q≠p->W w Q=W b Q:=by intro Q o;simp only[W,w,putRowK,putRow,mapBlock,sX];rw[ap (dB o)];rfl
  have aI:n.size=j.size:=by simp[n,putCells]
  have b5:∀c,c<a.length*k->n[c]? =J (flatK (zV) k l)[c]! :=by
   intro c ht;have d:c<n.size:=by rw[aI];omega
   rw[jb d];have m:c<(flatK (zV) k l).size:=by rw[size_flatK,ax];exact ht
   simp only[n,putCells,Array.getElem_mapIdx,rD,bf,m,kG,aT,uD,_root_.id]
  have hx:=Ki (N:=λid=>z<=id) id p (.row k t a) (.row k t (I.map pJ)) j n T hO R hH aB aI a9 ⟨rfl,rfl⟩;have b6:∀p,Md A u p->A.own p:=λp O=>hi.gC O;have b7:I.length=a.length:=by have:=ay.length_eq;simp at this;omega
  have b8:D.jl (W w) A (λi=>n[i]?) 0 k (I.map pJ):=by
   refine(D.gd _ _ _ _).2 λi r B=>?_;rw[dN,bj]at B;obtain⟨⟨r',f⟩,aO,rfl⟩:=B;have b9:i<a.length:=by rw[<-b7];exact(bq.1 aO).1
   have ca:l[i]! =f:=by
    have:(I.map Bc)[i]? =J f:=by rw[dN,aO];rfl
    rw[b3]at this;rw[qV l i y];have m:i<l.toList.length:=dK;rw[bh m]at this;simpa using this
   have cb:=ay.mem_iff.1 (iS aO);obtain⟨g,hj,aR⟩:=eD cb;have aS:g<a.length:=by rw[List.length_zip]at hj;omega
   rw[List.getElem_zip]at aR;have cc:a[g]=r':=congrArg pJ aR;have ch:M[g]! =f:=by have:=congrArg Bc aR;rw[qV M g (by rw[E];exact aS)];simpa using this
   obtain⟨g1,g2⟩:=al g r' (by rw[bh aS,cc]);refine⟨g1,(D.dE _ _ _).2 λC V bb=>?_⟩;obtain⟨e,m,h4,h5⟩:=(D.dE _ _ _).1 g2 C V bb;have hq:C<k:=by have:=(bq.1 bb).1;rw[g1]at this;exact this
   have bd:i*k+C<a.length*k:=by have:(i+1)*k<=a.length*k:=gH _ b9;rw[eX,Nat.one_mul]at this;omega
   refine⟨e,?_,h4,D.mI b6 hx _ _ h5⟩;simp only[bf]at m⊢;rw[b5 _ bd,get_flatK _ _ _ _ (by rw[ax];exact bd)];have e1:(i*k+C)/k=i:=by rw[qX,Nat.add_mul_div_right _ _ ab,Nat.div_eq_of_lt hq,bf]
   have e2:(i*k+C)%k=C:=by rw[qX,yA,xr hq]
   rw[e1,e2,ca,<-ch,a6 g aS];simp only[zV];rw[qV _ _ (by simpa using hq)];simp only[If];rw[getElem!_def,m]
  have ck:=Om hi id p (.row k t a) (.row k t (I.map pJ)) j n T hO R hH aB aI a9 ⟨rfl,rfl⟩ ⟨O.1,by simp only[R];exact⟨bL,n,T,aB,b8⟩⟩;have hg:∀Q ob,W w Q=J ob->W s Q=J ob:=by intro Q ob o;rw[hw];show(w.heap++K)[Q]? =J ob;have o:w.heap[Q]? =J ob:=o;rw[xj (lN.1 o).1];exact o
  refine⟨_,A,.eQ [],_,z,rfl,hK _ b4,⟨#[],rfl,rfl,trivial⟩,Js hg ⟨by rw[hw];rfl,by rw[hw];rfl⟩ ck,hx.trans (Dw hg ⟨by rw[hw];rfl,by rw[hw];rfl⟩),λQ o=>?_,bV _⟩;have cK:Q≠id:=λx=>by rw[x]at o;have:=hf id o;rw[hO]at this;cases this
  exact aj
theorem X.YF{a:Ren}(m:qR cg a)(n:As cg (a.f 6)){b:ah}{c:Nat}{g:D->ah->Nat->Prop}(o:g (.eQ []) b c):X cg (a.f 6) [.p aD,.p f] b c g:=by
 refine⟨n,λp q aP r s h j=>?_⟩;obtain⟨w,t,d⟩:=(D.ld _ _ _).1 j 0 _ rfl;obtain⟨k,u,_⟩:=(D.ld _ _ _).1 j 1 _ rfl;have d:=d;subst d;have v:aP= #[.slice ae 0 0,k]:=by
  simp[bf]at t u;simp[ij]at h;refine tG (by simpa using h) λi l e=>?_;have:=by simpa using e
  rcases(by omega:i=0\/i=1)with rfl|rfl;grind;grind
 subst v;refine(HS m ae 0 k p).mono λx z ⟨l,e⟩=>?_;subst l;subst e;exact⟨_,q,.eQ [],b,c,rfl,o,⟨#[],rfl,rfl,aj⟩,r,eI.refl _ _ _ _,s,y⟩
def L7(a b:ByteArray)(c:World):iQ af 116 #[.string a,.string b] c λd e=>d=.returned (.int .i64 (compareBytes a.data.toList b.data.toList))/\e=c:=Any.strings_Compare Z9 a b c
def arR(a b:ByteArray)(x1 x2 x3 x4 y1 y2 y3 y4:Value)(W:World):iQ af 115 #[.agg #[.string a,x1,x2,x3,x4],.agg #[.string b,y1,y2,y3,y4]] W λe w'=>e=.returned (.int .i64 (compareBytes a.data.toList b.data.toList))/\∃C os',w'=grow (W.drewN C) os':=by
 have hcon:=L7 a b;generalize compareBytes a.data.toList b.data.toList=r at hcon⊢
 go_enter Tryz.func115,Tryz.ntmps115
 go_wp2_with (go_at_call 116;refine(hcon _).mono ?_;rintro e w' ⟨rfl,rfl⟩)
 go_ret
 exact⟨rfl,0,_,by rw[alloc_eq_grow,alloc_eq_grow,grow_grow];rfl⟩
def aku(a b:ByteArray)(x1 x2 y1 y2:Value)(W:World):iQ af 118 #[.agg #[.string a,x1,x2],.agg #[.string b,y1,y2]] W λe w'=>e=.returned (.int .i64 (compareBytes a.data.toList b.data.toList))/\∃C os',w'=grow (W.drewN C) os':=by
 have hcon:=L7 a b;generalize compareBytes a.data.toList b.data.toList=r at hcon⊢
 go_enter Tryz.func118,Tryz.ntmps118
 go_wp2_with (go_at_call 116;refine(hcon _).mono ?_;rintro e w' ⟨rfl,rfl⟩)
 go_ret
 exact⟨rfl,0,_,by rw[alloc_eq_grow,alloc_eq_grow,grow_grow];rfl⟩
def aj1(a b:ByteArray)(x1 x2 y1 y2:Value)(W:World):iQ af 120 #[.agg #[.string a,x1,x2],.agg #[.string b,y1,y2]] W λe w'=>e=.returned (.int .i64 (compareBytes a.data.toList b.data.toList))/\∃C os',w'=grow (W.drewN C) os':=by
 have hcon:=L7 a b;generalize compareBytes a.data.toList b.data.toList=r at hcon⊢
 go_enter Tryz.func120,Tryz.ntmps120
 go_wp2_with (go_at_call 116;refine(hcon _).mono ?_;rintro e w' ⟨rfl,rfl⟩)
 go_ret
 exact⟨rfl,0,_,by rw[alloc_eq_grow,alloc_eq_grow,grow_grow];rfl⟩
def anO{a:List Value}(g:Wd 5 a):∃b c d e f,a=[.string b,c,d,e,f]:=by
 obtain⟨h,_,b,be,rfl⟩:=g
 match be,h with|[c,d,e,f],_=>simp
def X0{a:List Value}(e:Wd 3 a):∃b c d,a=[.string b,c,d]:=by
 obtain⟨f,_,b,be,rfl⟩:=e
 match be,f with|[c,d],_=>simp
section
variable {id g:Nat}{a:List (List D)}{b:ah}{c:Nat}{e:D->ah->Nat->Prop}
def aoQ(k:b id=J (.row 5 g a))(l:∀r∈a,∃(d:ByteArray) (be:List D),r=.p (S d)::be)(A:a.length<1000000)(m:∀j:List (List D),j.Perm a->e (.eQ []) (am b id (J (.row 5 g j))) c):
 X af 114 [.sl id g 0 a.length 5 Z,.p (.fn (.func 115) [] [])] b c e:=
 X.aeu akG eB (λi=>rT h) (λi=>mQ h) U (λf Q i n o=>by obtain⟨d,q,s,t,u,rfl⟩:=anO n;obtain⟨p,v,w,x,z,rfl⟩:=anO o;exact arR d p q s t u v w x z i) ⟨_,GZ,by rfl,by rfl⟩ k l y m
def aoK(k:b id=J (.row 3 g a))(l:∀r∈a,∃(d:ByteArray) (be:List D),r=.p (S d)::be)(v:a.length<1000000)(m:∀j:List (List D),j.Perm a->e (.eQ []) (am b id (J (.row 3 g j))) c):
 X af 117 [.sl id g 0 a.length 3 Z,.p (.fn (.func 118) [] [])] b c e:=
 X.aeu akS eB (λi=>rT h) (λi=>mQ h) U (λf Q i n o=>by obtain⟨d,q,s,rfl⟩:=X0 n;obtain⟨p,t,u,rfl⟩:=X0 o;exact aku d p q s t u i) ⟨_,G8,by rfl,by rfl⟩ k l y m
def an7(k:b id=J (.row 3 g a))(l:∀r∈a,∃(d:ByteArray) (be:List D),r=.p (S d)::be)(v:a.length<1000000)(m:∀j:List (List D),j.Perm a->e (.eQ []) (am b id (J (.row 3 g j))) c):
 X af 119 [.sl id g 0 a.length 3 Z,.p (.fn (.func 120) [] [])] b c e:=
 X.aeu akE eB (λi=>rT h) (λi=>mQ h) U (λf Q i n o=>by obtain⟨d,q,s,rfl⟩:=X0 n;obtain⟨p,t,u,rfl⟩:=X0 o;exact aj1 d p q s t u i) ⟨_,Ig,by rfl,by rfl⟩ k l y m
def ajX(a:e (.eQ []) b c):X af 117 [.p aD,.p f] b c e:=X.YF akS ⟨_,G8,by rfl,by rfl⟩ a
def ajZ(a:e (.eQ []) b c):X af 119 [.p aD,.p f] b c e:=X.YF akE ⟨_,Ig,by rfl,by rfl⟩ a
def aj9(a:e (.eQ []) b c):X af 114 [.p aD,.p f] b c e:=X.YF akG ⟨_,GZ,by rfl,by rfl⟩ a
end
end Go.Dl
namespace Go.Dl
open Go.Proofs Go.Dl.Ai
def XJ:List aA:=[q 25 (xB .eql 22 24)]
def WZ:List aA:=[q 31 (.bQ 5 5 1 [aF,aD,aD,aD,aD] [(0,.t 30)]),q 32 (jE 6 5 112 27 31),oF 33 3 0,vt (xS 1 33 32)]
def QJ:av:=.cond (.t 25) (.dg 9 aa (aZ 26 (xF 3 0)::aZ 27 (jP 1 26)::cA 28 2 1::cA 29 10 5::q 30 (dV 111 28 29)::WZ)) (.skip)
def YG:List aA:=[G 44 49,q 50 (xE 44 0),q 51 (xE 44 1),G 8 50,G 9 51]
def XG:List aA:=[q 68 (.bQ 6 5 1 [aF,aD,aD,aD,aD] [(0,.t 67)]),q 69 (jE 7 5 112 63 68),oF 70 3 0,vt (xS 1 70 69)]
def ME:av:=z 10 [G 52 8,oF 53 5 0,oL 54 1 53,q 55 (xB .eql 52 54),G 56 55,oT 57 56 (xM 9),oT 58 56 (xF 7 0),oT 59 56 (xL 1 58),oT 60 56 (xB .eql 57 59),q 61 (jw 56 60)] (.cond (.t 61) (.dg 10 aa (aZ 62 (xF 3 0)::aZ 63 (jP 1 62)::cA 64 2 1::cA 65 10 5::cA 66 7 7::q 67 (sV 113 64 65 66)::XG)) (.skip))
def Y0:av:=rF 2 [q 71 (di .add 37 1),G 37 71]
def ML:av:=
 z 1 [q 38 (xB .lss 37 36)] (.seq (cX 38 2) (.seq (.block 3 (z 4 [q 39 (xI 7 35 37),cA 40 7 39,q 7 (.alloc 2 7 [aF,aH,aF,aF,dZ,aH,dZ]),oN (xS 7 7 40)] (.seq (z 3 [oF 41 7 1,oL 42 1 41,q 43 (di .neq 42 3)] (.cond (.t 43) (.exit 3) (.skip))) (z 10 (cA 45 2 1::oF 46 5 0::oL 47 1 46::cA 48 7 7::q 49 (sV 112 45 47 48)::YG)
  ME))))
  Y0))
def QO:av:=z 4 [oF 34 5 7,oL 35 1 34,q 36 (fQ 35),fR 37 0] (.block 2 (.loop ML))
def ZR:av:=rF 2 [q 72 (di .add 15 1),G 15 72]
def Qu:av:=
 z 1 [q 16 (xB .lss 15 14)] (.seq (cX 16 0) (.seq (.block 1 (z 4 [q 17 (xI 10 13 15),cA 18 10 17,q 5 (.alloc 2 10 [aF,aF,dZ,dZ,dZ,dZ,aD,aD,aD,aD]),oN (xS 10 5 18)] (.seq (.seq (.dg 7 aa (aZ 23 (xF 5 0)::aZ 24 (xL 1 23)::cA 19 2 1::oF 20 5 0::aZ 21 (xL 1 20)::q 22 (dV 110 19 21)::XJ))
  QJ)
  QO)))
  ZR))
def abp:av:=rF 3 [oF 86 11 4,oL 87 1 86,q 88 (.call 119 [.t 87,.c (.fn (.func 120) [] [])])]
def ZB:av:=rF 2 [q 89 (di .add 79 1),G 79 89]
def Uf:av:=
 z 1 [q 80 (xB .lss 79 78)] (.seq (cX 80 4) (.seq (.block 5 (z 4 [q 81 (xI 5 77 79),cA 82 5 81,q 11 (.alloc 2 5 [aF,aD,aD,aD,aD]),oN (xS 5 11 82)] (z 3 [oF 83 11 3,oL 84 1 83,q 85 (.call 117 [.t 84,.c (.fn (.func 118) [] [])])]
  abp)))
  ZB))
def ND:av:=z 2 [cA 90 1 3,oN (xS 1 2 90)] (.ret)
def amf:av:=
 .seq (z 4 [oF 76 3 0,oL 77 1 76,q 78 (fQ 77),fR 79 0] (.block 4 (.loop Uf)))
  ND
def anL:av:=
 z 3 [oF 73 3 0,oL 74 1 73,q 75 (.call 114 [.t 74,.c (.fn (.func 115) [] [])])]
  amf
def D49:d6:=⟨91,[.cell 2 1 aa],z 2 [q 1 (iU 0 2 0),q 2 (.alloc 1 1 [aD])] (z 1 [q 3 (.alloc 0 1 [aD])] (.seq (z 4 [oF 12 1 1,oL 13 1 12,q 14 (fQ 13),fR 15 0] (.block 0 (.loop Qu)))
 anL))⟩
def apc:cW af Tryz.f49=J D49:=h
abbrev TT:=List D×Option Nat×Option Nat
def nQ(a:TT):List Nat:=a.2.1.toList++a.2.2.toList
theorem tC.aL{a b:ah}(c:tC a n u M bO)(d:∀i,bO=J i->b i=a i):tC b n u M bO:=c.imp U ak
section
variable [Gh]
structure E9(O:ah)(t:TT):Prop where
 ex:∃(a:ByteArray) (pc pk:P) (cols ks fo ix:List (List P)) (dF dI:D),t.1=[.p (S a),.p pc,.p pk,dF,dI]/\wI a pc pk cols ks fo ix/\tC O 3 fo dF t.2.1/\tC O 3 ix dI t.2.2
def vj{a:TT}(b:a.2.1=J i):i∈nQ a:=by simp[nQ,b]
def uY{a:TT}(b:a.2.2=J i):i∈nQ a:=by simp[nQ,b]
def E9.aL{c d:ah}{a:TT}(f:E9 c a)(e:∀i∈nQ a,d i=c i):E9 d a:=by obtain⟨g,h,j,k,l,m,n,o,p,q,r,s,t⟩:=f;exact⟨g,h,j,k,l,m,n,o,p,q,r,s.aL λi b=>e i (vj b),t.aL λi b=>e i (uY b)⟩
structure Dc(O:ah)(lo hi:Nat)(L:List TT):Prop where
 KW:∀t∈L,E9 O t
 nd:(L.flatMap nQ).Nodup
 EU:∀i∈L.flatMap nQ,lo<=i/\i<hi
theorem Dc.aL{d e:ah}{f a hi':Nat}{c:List TT}(b:Dc d f a c)(k:∀i∈c.flatMap nQ,e i=d i)(g:a<=hi'):Dc e f hi' c:=⟨λh j=>(b.KW h j).aL ak,b.nd,λi a=>⟨(b.EU i a).1,bw (b.EU i a).2 g⟩⟩
theorem E9.row{d:ah}{e:TT}(g:E9 d e){f:Nat}(a:f∈nQ e):∃c h,d f=J (.row 3 c h):=by
 obtain⟨m,n,o,p,q,r,s,t,u,b,v,i,j⟩:=g;simp only[nQ,bg,Hb]at a;rcases a with a|a
 rcases i with⟨b,_⟩|⟨k,c,b,_,l⟩;grind;grind;rcases j with⟨b,_⟩|⟨k,c,b,_,l⟩;grind;grind
def Dc.row{b:ah}{e a:Nat}{c:List TT}(f:Dc b e a c){d:Nat}(a:d∈c.flatMap nQ):∃g h,b d=J (.row 3 g h):=by obtain⟨i,j,a⟩:=xz.1 a;exact(f.KW i j).row a
theorem Dc.YI{e:ah}{f a g:Nat}{h:List TT}{b:TT}(c:Dc e f a h)(m:f<=a)(n:a<=g)(o:E9 e b)(q:(nQ b).Nodup)(r:∀i∈nQ b,a<=i/\i<g):Dc e f g (h++[b]):=by
 refine⟨λbu d=>?_,?_,λi a=>?_⟩;rcases bg.1 d with d|d
 exact c.KW bu d;grind;rw[Gn,jW];refine⟨c.nd,U,λj k p s l=>?_⟩;subst l;have:=(c.EU j k).2;grind;rw[Gn,bg]at a;rcases a with a|a
 have:=c.EU i a;omega;grind
structure pH(e0 x:P)(O:ah)(nx:Nat)(L:List TT)(s:St):Prop where
 h1:∃g,s.T 1=.ptr nx g 2 0 0/\s.O nx=J (.row 2 g [[.p e0,.p x]])
 h2:∃g,s.T 2=.ptr (nx+1) g 1 0 0/\s.O (nx+1)=J (.row 1 g [[.p aD]])
 h3:∃g dl,s.T 3=.ptr (nx+2) g 1 0 0/\s.O (nx+2)=J (.row 1 g [[dl]])/\de s.O (nx+3) 5 (L.map (·.1)) dl
 al9:Dc s.O (nx+3) s.nx L
 gp:nx+2<s.nx
 fr:Fr s.O s.nx
 low:∀k,k<nx->s.O k=O k
def pH.next{b:ah}{a:Nat}{c:List TT}(g:pH K f b a c d)(q:∀k,1<=k->k<=3->o.T k=d.T k)(r:∀k p,d.O k=J p->o.O k=d.O k)(h:d.nx<=o.nx)(fr:Fr o.O o.nx)(s:∀k,k<a->o.O k=d.O k):pH K f b a c o:=by obtain⟨⟨t,u,bA⟩,⟨v,w,aR⟩,⟨j,l,x,aB,m⟩,e,z,A,B⟩:=g;refine⟨U,U,⟨j,l,U,U,m.aL U⟩,e.aL (λi n=>?_) h,y,fr,U⟩;obtain⟨C,D,E⟩:=e.row n;exact U
theorem aaj{ac:ah}{a:Nat}{b:List TT}{s2:St}{z o:Nat}{t F:ah}{q tc E T V G:Nat}{ax:List P}{r:Nat}{u:D}{ad:St->ah->Prop}(A:pH K f ac a b d)(h3:d.T 3=.ptr (a+2) r 1 0 0)(b3:d.O (a+2)=J (.row 1 r [[u]]))(c3:de d.O (a+3) 5 (b.map (·.1)) u)(ay:Da o z (aX [a+2] d.O) t M)(a9:d.nx<=s2.bs)(bb:s2.bs+9<=o)(bd:o<=z)(aB:Fr t z)(e1:s2.T tc=M)(e2:s2.T V=u)(e3:s2.T 3=.ptr (a+2) r 1 0 0)(H:s2.O=t)(e5:s2.nx=z)(hF:F=only [a+2] d.O)(ag:∀k,1<=k->k<=2->s2.T k=d.T k)(aE:q≠T)(be:q<9)(bk:T<9)(aI:aS≠V)(bl:3<aS)(bm:3<E)(bn:3<G)(aO:E≠G)(hl:b.length<1000)(l:∀s3 v W,pH K f ac a (b++[v]) {s3 with O:=bp s3.O W}->s3.nx=z->(∀k,k≠aS->k≠E->k≠G->s3.T k=s2.T k)->(∀k p,k<d.nx->d.O k=J p->k≠a+2->(∀n es,p≠.row 5 n es)->bp s3.O W k=J p)->ad s3 W):
 fS (X af) [⟨J aS,.bQ q 5 1 ax [(0,.t tc)],ae,Z⟩,⟨J E,.j4 T 5 112 (.t V) (.t aS),ae,Z⟩,⟨J G,.fa (.t 3) 0,ae,Z⟩,vt (.store 1 (.t G) (.t E))] s2 F ad:=by
 obtain⟨c,e,g,aP,ks,fo,ix,h,j,oF,oI,a0,hI,w1,w2,w3,w4,w5⟩:=ay.ex;have bo:=A.gp;have a3:M.cells=[.p (S c),.p e,.p g,h,j]:=by rcases a0 with⟨rfl,_⟩|⟨ps,rfl,I⟩;rfl;show(P.agg ps).cells.map D.p=_;exact I.symm
 have ab:∀k,k<o->t k=aX [a+2] d.O k:=ak;have al:∀k,k<o->k≠a+2->t k=d.O k:=λk l an=>by rw[ab k l];simp[aX,an]
 have bs:de s2.O (a+3) 5 (b.map (·.1)) u:=by rw[H];refine c3.aL λk p l ao=>al k ?_ y;have:=A.fr.lt ao;omega
 have bu:∀k,d.nx<=k->k<o->t k=ae:=λk h1 h2=>by rw[ab k h2];simp[aX,A.fr k h1]
 refine Ox (hb:=a+2) (g3:=r) (w:=1) (m:=a+3) (cells:=[u]) (rows:=b.map (·.1)) e1 U e2 ar y (by rw[H];grind) aE aI e3 y y aO (by rw[hF];simp[only,b3]) Y dK dK ?_;intro id n gb T' a4 an hw L;rw[a3];have bB:id<o:=by rcases hw with⟨rfl,_⟩|⟨g0,x⟩;omega;rw[H]at x;refine iP λbC=>?_;by_cases a5:oF=J id;rcases w1 with⟨C,_⟩|⟨i,g',q1,q2,q3⟩;grind;grind;by_cases a6:oI=J id;rcases w2 with⟨C,_⟩|⟨i,g',q1,q2,q3⟩;grind;grind;rw[w5 id a5 a6]at x;simp only[aX]at x;split at x;cases x;rw[A.fr id y]at x;cases x
 let v:TT:=([.p (S c),.p e,.p g,h,j],oF,oI)
 have bH:∀i,i∈nQ v->o<=i/\i<z:=λi s=>by simp only[nQ,bg,Hb,v]at s;exact U
 have bL:∀i∈b.flatMap nQ,i≠id:=λi s I=>by subst I;obtain⟨gi,es,bM⟩:=A.al9.row s;grind
 have N:∀k,k≠a+2->k≠id->k≠s2.bs+q->bp (am (am s2.O (s2.bs+q) (J (.row 5 gb [[.p (S c),.p e,.p g,h,j]]))) id (J (.row 5 n (b.map (·.1)++[[.p (S c),.p e,.p g,h,j]])))) (am F (a+2) (J (.row 1 r [bI [u] [.sl id n 0 (b.map (·.1)++[[.p (S c),.p e,.p g,h,j]]).length 5 Z] 0]))) k=t k:=by intro k B Q k3;simp only[bp];rw[ai Q,ai k3,ai B,hF,H];simp only[only,bD,ap B];cases t k<;>rfl
 have bO:bp (am (am s2.O (s2.bs+q) (J (.row 5 gb [[.p (S c),.p e,.p g,h,j]]))) id (J (.row 5 n (b.map (·.1)++[[.p (S c),.p e,.p g,h,j]])))) (am F (a+2) (J (.row 1 r [bI [u] [.sl id n 0 (b.map (·.1)++[[.p (S c),.p e,.p g,h,j]]).length 5 Z] 0]))) (a+2)=J (.row 1 r [[.sl id n 0 (b.map (·.1)++[[.p (S c),.p e,.p g,h,j]]).length 5 Z]]):=by simp only[bp];rw[ai (by omega:a+2≠id),ai (by omega:a+2≠s2.bs+q),H,ab _ y];simp[aX,bI]
 have bR:bp (am (am s2.O (s2.bs+q) (J (.row 5 gb [[.p (S c),.p e,.p g,h,j]]))) id (J (.row 5 n (b.map (·.1)++[[.p (S c),.p e,.p g,h,j]])))) (am F (a+2) (J (.row 1 r [bI [u] [.sl id n 0 (b.map (·.1)++[[.p (S c),.p e,.p g,h,j]]).length 5 Z] 0]))) id=J (.row 5 n (b.map (·.1)++[[.p (S c),.p e,.p g,h,j]])):=by simp only[bp,bi]
 refine l _ v _ ?_ e5 L ?_;obtain⟨⟨g1,a1,bA⟩,⟨g2,a2,aR⟩,_,h4,h5,h6,h7⟩:=A;have R:∀k,k<o->k≠a+2->k≠id->k≠s2.bs+q->_=d.O k:=λk l B Q k3=>(N k B Q k3).trans (al k l B);refine⟨⟨g1,?_,(R a y y y y).trans bA⟩,⟨g2,?_,(R (a+1) y y y y).trans aR⟩,⟨r,_,?_,ar,.inr ⟨id,n,a4,by simp[v],ak⟩⟩,?_,aw,λk l=>?_,λk l=>(R k y y y y).trans U⟩;show T' 1=_;rw[L 1 y y y,ag 1 y y];exact a1;show T' 2=_;rw[L 2 y y y,ag 2 y y];exact a2;show T' 3=_;rw[L 3 y y y];exact e3;show Dc _ (a+3) s2.nx (b++[v]);refine(h4.aL (hi':=o) (λi s=>?_) y).YI y y ⟨c,e,g,aP,ks,fo,ix,h,j,rfl,hI,w1.aL λi s=>?_,w2.aL λi s=>?_⟩ ?_ U;have:=h4.EU i s;exact R i y y U y;have:=w4 i (.inl s);exact N i y y y;have:=w4 i (.inr s);exact N i y y y;simp only[nQ,v];cases a7:oF with|none=>grind|some i=>cases a8:oI with|none=>simp|some bS=>have:=w3 i a7;rw[a8]at this;simp;grind
 have l:s2.nx<=k:=l;exact(N k y y y).trans (aB k y);intro k p l ao B bT;have Q:k≠id:=by
  rintro rfl;rcases hw with⟨I,_⟩|⟨g0,x⟩
  omega;grind
 grind
end
end Go.Dl
variable {L:List TT}{w:TT}
namespace Go.Dl
open Go.Proofs Go.Dl.Ai
section
variable [Gh]
structure ym(x:P)(nx n i eb ge:Nat)(r:List P)(s:St):Prop where
 h5:s.T 5=.ptr eb ge 10 0 0
 o5:s.O eb=J (.row 10 ge [r.map .p])
 heb:nx+2<eb
 C7:s.T 13=.p x
 Et:s.T 14=.p (I n)
 I9:s.T 15=.p (I i)
def ym.next{c:Nat}(a:ym f c n i eb ge r d)(b:∀k,k=5\/k=13\/k=14\/k=15->o.T k=d.T k)(e:o.O eb=d.O eb):ym f c n i eb ge r o:=⟨(b 5 y).trans a.h5,e.trans a.o5,a.heb,(b 13 y).trans a.C7,(b 14 y).trans a.Et,(b 15 y).trans a.I9⟩
def ahg{g:ah}{a:Nat}(l:VT.ok Ty.MG (.agg [K,f]))(m:VT.ok (.agg Ty.nT) (.agg r))(p:VT.ok (.agg Ty.zy) (.agg C))(s:r.length=10)(t:C.length=7)(c:pH K f g a L d)(b:ym f a n i eb ge r d)(u:d.T 7=.ptr rb gr 7 0 0)(v:d.O rb=J (.row 7 gr [C.map .p]))(T:a+2<rb)(x:L.length<1000)(z:∀o w,pH K f g a (L++[w]) o->ym f a n i eb ge r o->(∀k,k<62->o.T k=d.T k)->d.nx<=o.nx->bn .normal o):
 bx (X af) (.dg 10 aa (aZ 62 (xF 3 0)::aZ 63 (jP 1 62)::cA 64 2 1::cA 65 10 5::cA 66 7 7::q 67 (sV 113 64 65 66)::XG)) d bn:=by
 have A:=c;obtain⟨⟨V,B,bA⟩,⟨W,a2,aR⟩,⟨g3,dl,e,aB,E⟩,h4,F,h6,ab⟩:=A;intro gm;refine⟨[a+2],?_⟩;have h:eb≠a+2:=by have:=b.heb;omega
 have G:rb≠a+2:=y;have H:cF ((r.map D.p).take 10)=.p (.agg r):=by rw[cp U,jL]
 have I:cF ((C.map D.p).take 7)=.p (.agg C):=by rw[cp U,jL]
 simp(disch:=omega)[aX,only,B,e,bA,aB,b.h5,b.o5,u,v,h,G,ba,ai,s,t,H,I];refine⟨F,Uh l m p λac M O1 N O P=>?_⟩;unfold XG;refine aaj c e aB E (by simpa[aX]using O) Y Y N P Y Y (by simp[e]) rfl rfl rfl cj y y y y y y y y x λs3 w F' Q ad j R=>?_;refine z _ w Q (b.next (λk S=>?_) ?_) (λk S=>?_) ?_;show s3.T k=_;rw[j k y y y];exact cj;exact(R eb _ (c.fr.lt b.o5) b.o5 h U).trans b.o5.symm;show s3.T k=_;rw[j k y y y];exact cj;exact aw
def ZF{a:ByteArray}{c:P}(h:VT.ok Ty.MG H)(i:Gh.nm a)(j:VT.ok (.agg Ty.zy) c){d:ah}{e:Nat}{f:D->ah->Nat->Prop}(k:∀b p g,e<=b->f (.eQ [.p (S p),.p (S g)]) d b):X af 112 [.p H,.p (S a),.p c] d e f:=(s65 d e f [H,S a,c] ⟨h,⟨a,rfl,i⟩,j,trivial⟩ (λag l=>by cases l)).1 rfl λb t u v m n _ o=>by obtain⟨rfl,rfl⟩:=mY o;obtain⟨V,q,rfl,⟨p,rfl,w⟩,r⟩:=Vs.cons n;obtain⟨V,q,rfl,⟨g,rfl,x⟩,s⟩:=Vs.cons r;obtain rfl:=Vs.nil s;exact k b p g m
theorem aj6{g:ah}{a:Nat}{x z c1 c2:ByteArray}{Q:List P}(R:VT.ok Ty.MG (.agg [K,f]))(A:VT.ok (.agg Ty.nT) (.agg r))(B:VT.ok (.agg Ty.zy) (.agg C))(V:r=S x::be)(W:C=S z::Q)(E:pH K f g a L d)(h:ym f a n i eb ge r d)(j:d.T 7=.ptr rb gr 7 0 0)(F:d.O rb=J (.row 7 gr [C.map .p]))(ab:a+2<rb)(hl:L.length<1000)(b:d.T 49=.eQ [.p (S c1),.p (S c2)])(l:∀o G,pH K f g a G o->G.length<=L.length+1->ym f a n i eb ge r o->(∀k,k=35\/k=36\/k=37->o.T k=d.T k)->bn .normal o):
 eN (X af) YG d λo=>bx (X af) ME o bn:=by
 have c:=h.o5;have m:=h.h5;have ad:r.length=10:=by obtain⟨ps,q,s,_⟩:=A;cases q;have:=s.length;simpa[Ty.nT,Ty.rZ]using this
 have ac:C.length=7:=by obtain⟨ps,q,s,_⟩:=B;cases q;have:=s.length;simpa[Ty.zy]using this
 rw[V]at c;have t:=F;rw[W]at t;have ag:∀(e:Nat->D) (H p:Nat) (u:Nat->Nat),d.nx<=H->(∀k,k<44->k≠8->k≠9->e k=d.T k)->pH K f g a L {T:=e,O:=d.O,nx:=H,bs:=p,gm:=u}/\ym f a n i eb ge r {T:=e,O:=d.O,nx:=H,bs:=p,gm:=u}:=λe H p u I e3=>⟨E.next ak U I (E.fr.mono I) U,h.next ak rfl⟩
 simp(disch:=omega)[↓fi,YG,ft,b];cases v:(c1.toList==x.toList) with
 |false=>simp(disch:=omega)[-az,-cV,-bW,↓cQ,↓fi,ME,ba,ft,binOp,gD,b,m,c,v];intro M;refine l _ L (ag _ _ _ _ y cj).1 y (ag _ _ _ _ y cj).2 cj;all_goals exact cj
 |true=>
  cases N:(c2.toList==z.toList) with
  |false=>simp(disch:=omega)[-az,-cV,-bW,↓cQ,↓fi,ME,ba,ft,binOp,gD,b,m,c,j,t,v,N];intro M;refine l _ L (ag _ _ _ _ y cj).1 y (ag _ _ _ _ y cj).2 cj;all_goals exact cj
  |true=>simp(disch:=omega)[-az,-cV,-bW,↓cQ,↓fi,ME,ba,ft,binOp,gD,b,m,c,j,t,v,N];intro M;refine ahg R A B y ac (ag _ _ _ _ y λk k1 k2 k3=>?_).1 (ag _ _ _ _ y λk k1 k2 k3=>?_).2 (by simp[j]) F ab hl λo w g1 g2 g3 g4=>?_;exact cj;exact cj;refine l _ (L++[w]) g1 Y g2 λk hk=>(g3 k y).trans ?_;exact cj
structure TsR(rl:P)(m j:Nat)(s:St):Prop where
 h35:s.T 35=.p rl
 h36:s.T 36=.p (I m)
 h37:s.T 37=.p (I j)
theorem agL{t:ah}{c m:Nat}{q:ByteArray}(I:VT.ok Ty.MG (.agg [K,f]))(ab:VT.ok (.agg Ty.nT) (.agg r))(hr:r=[S q,S V,B bA,B aR,B aB,B bT,ag,bH,bu,bX])(ac:Sl 7 bH bC)(ax:∀C∈bC,Row Ty.zy C)(a8:bC.length<=7)(a9:m<900)(b:∃L,pH K f t c L d/\L.length<=m)(g:ym f c n i eb ge r d)(hR:TsR bH bC.length 0 d)(hQ:∀o L,pH K f t c L o->L.length<=m+7->ym f c n i eb ge r o->bn (.exit 2) o):
 bx (X af) (.loop ML) d bn:=by
 subst hr;refine⟨λk d=>∃a:Nat,k=bC.length-a/\a<=bC.length/\(∃L,pH K f t c L d/\L.length<=m+a)/\ym f c n i eb ge [S q,S V,B bA,B aR,B aB,B bT,ag,bH,bu,bX] d/\TsR bH bC.length a d,⟨_,0,rfl,y,ar,g,hR⟩,?_⟩;clear b g hR;rintro k d ⟨a,rfl,hj,⟨L,b,hL⟩,g,⟨ad,M,u⟩⟩;by_cases N:a<bC.length;have O:bC[a]? =J bC[a]:=Y;have ay:=bJ N;have al:=ax _ ay;obtain⟨p1,q1,Q,⟨v,rfl,bb⟩,R⟩:=Row.cons al;obtain⟨p2,q2,rfl,⟨w,rfl,_⟩,g2⟩:=Row.cons R;obtain⟨p3,q3,rfl,⟨x,rfl,bd⟩,T⟩:=Row.cons g2;obtain⟨p4,q4,rfl,⟨rb,rfl,_⟩,W⟩:=Row.cons T;obtain⟨p5,q5,rfl,⟨z,rfl⟩,g5⟩:=Row.cons W;obtain⟨p6,q6,rfl,⟨A,rfl,_⟩,g6⟩:=Row.cons g5;obtain⟨p7,q7,rfl,⟨E,rfl⟩,g7⟩:=Row.cons g6;obtain rfl:=Row.nil g7;have hq:VT.ok (.agg Ty.zy) (.agg bC[a]):=⟨_,rfl,al,ar⟩;rw[Q]at O hq;have aE:=lW (i:=a) y;have an:∀o s,pH K f t c s o->s.length<=m+a+1->ym f c n i eb ge [S q,S V,B bA,B aR,B aB,B bT,ag,bH,bu,bX] o->(∀k,k=35\/k=36\/k=37->o.T k=d.T k)->bx (X af) Y0 o λe F=>match e with|.normal=>∃H,H<bC.length-a/\∃a:Nat,H=bC.length-a/\a<=bC.length/\(∃L,pH K f t c L F/\L.length<=m+a)/\ym f c n i eb ge [S q,S V,B bA,B aR,B aB,B bT,ag,bH,bu,bX] F/\TsR bH bC.length a F|e=>bn e F:=by intro o s ao be aI hT;simp only[Y0];simp[hT 37 y,u,binOp,aC,aE];intro h;refine⟨_,y,a+1,rfl,y,⟨s,ao.next cj U aw (ao.fr.mono aw) U,y⟩,aI.next cj rfl,⟨U,U,Y⟩⟩
 have bk:=b.gp;obtain⟨bl,a1,aO⟩:=b.h1;have bm:=g.heb;have bo:=b.fr.lt g.o5;have aP:∀(h:Nat->Nat) (H:Nat),d.nx+1+4<=H->Fr (am d.O (d.nx+1+2) (J (.row 7 (h (d.nx+1+2)) [[.p (S v),.p (.v (.int .i64 w)),.p (S x),.p (S rb),.p (.v (.bool z)),.p (.v (.int .i64 A)),.p (.v (.bool E))]]))) H:=λh H I=>(b.fr.mono y).am y;have ha:Gh.nm q:=by obtain⟨ps,e,aS,_⟩:=ab;cases e;obtain⟨_,_,e,⟨p,rfl,hb⟩,_⟩:=Row.cons aS;cases e;exact hb
 by_cases G:w=3;subst G;have a0:cF [.p (S v),.p (.v (.int .i64 3)),.p (S x),.p (S rb),.p (.v (.bool z)),.p (.v (.int .i64 A)),.p (.v (.bool E))]=.p (.agg [S v,.v (.int .i64 3),S x,S rb,.v (.bool z),.v (.int .i64 A),.v (.bool E)]):=jL (l:=[S v,.v (.int .i64 3),S x,S rb,.v (.bool z),.v (.int .i64 A),.v (.bool E)]);simp(disch:=omega)[-az,-cV,-bW,↓cQ,↓fi,ML,ad,M,u,N,dm ac,O,Q,ft,ba,D.cells,P.cells,aJ,bI,binOp,aC,ai,a1,aO,g.h5,g.o5,a0];intro h a2;refine ZF I ha hq λbs a3 a4 bB=>?_;refine aj6 (rb:=d.nx+1+2) (gr:=h (d.nx+1+2)) (r:=[S q,S V,B bA,B aR,B aB,B bT,ag,bH,bu,bX]) (n:=n) (i:=i) (ge:=ge) (L:=L) I ab hq rfl rfl (b.next (λk k1 k2=>?_) (λk p j=>ai (by have:=b.fr.lt j;omega)) aw (aP h _ aw) (λk j=>ai y)) (g.next (λk j=>?_) (ai y)) Y Y y y (c1:=a3) (c2:=a4) Y λo s R g2 T W=>?_;exact cj;exact cj;refine an _ s R y T λk j=>(W k j).trans ?_;exact cj
 .have a5:(w !=3)=aa:=by simp[G]
  have a6:(w==3)=Z:=by simp[G]
  simp(disch:=omega)[-az,-cV,-bW,↓cQ,↓fi,ML,ad,M,u,N,dm ac,O,Q,ft,ba,D.cells,P.cells,aJ,bI,binOp,aC,ai,G,a5,a6];intro h a2;refine an _ L (b.next cj (λk p j=>ai (by have:=b.fr.lt j;omega)) aw U (λk j=>ai y)) y (g.next cj (ai y)) cj;all_goals exact cj
 have a7:a=bC.length:=y;subst a7;simp[-az,ML,M,u,binOp,aC];intro h;exact hQ _ L (b.next cj U aw (b.fr.mono aw) U) y (g.next cj rfl)
end
section
variable [Gh]
def abe{g:ah}{b:Nat}(j:VT.ok Ty.MG (.agg [K,f]))(l:VT.ok (.agg Ty.nT) (.agg r))(m:r.length=10)(c:pH K f g b L d)(a:ym f b n i eb ge r d)(p:L.length<1000)(s:∀o w,pH K f g b (L++[w]) o->ym f b n i eb ge r o->bn .normal o):
 bx (X af) (.dg 9 aa (aZ 26 (xF 3 0)::aZ 27 (jP 1 26)::cA 28 2 1::cA 29 10 5::q 30 (dV 111 28 29)::WZ)) d bn:=by
 have t:=c;obtain⟨⟨H,u,bA⟩,⟨I,N,aR⟩,⟨O,P,e,aB,v⟩,Q,x,R,S⟩:=t;intro T;refine⟨[b+2],?_⟩;have h:eb≠b+2:=by have:=a.heb;omega
 have z:cF ((r.map D.p).take 10)=.p (.agg r):=by rw[cp U,jL]
 simp(disch:=omega)[aX,only,u,e,bA,aB,a.h5,a.o5,h,ba,ai,m,z];refine⟨x,Ql j l λV M W A B C=>?_⟩;unfold WZ;refine aaj c e aB v (by simpa[aX]using B) Y Y A C Y Y (by simp[e]) rfl rfl rfl cj y y y y y y y y p λs3 w F' E ab F G=>?_;refine s _ w E (a.next (λk hk=>?_) ?_);show s3.T k=_;rw[F k y y y];exact cj;exact(G eb _ (c.fr.lt a.o5) a.o5 h U).trans a.o5.symm
def ai0{e:ah}{a:Nat}{c:ByteArray}(j:VT.ok Ty.MG (.agg [K,f]))(l:Gh.nm c)(m:r=S c::be)(g:pH K f e a L d)(b:ym f a n i eb ge r d)(s:∀o p,pH K f e a L o->ym f a n i eb ge r o->o.T 25=.p (B p)->bn .normal o):
 bx (X af) (.dg 7 aa (aZ 23 (xF 5 0)::aZ 24 (xL 1 23)::cA 19 2 1::oF 20 5 0::aZ 21 (xL 1 20)::q 22 (dV 110 19 21)::XJ)) d bn:=by
 have t:=g;obtain⟨⟨y,u,bA⟩,⟨z,A,aR⟩,⟨C,D,E,aB,F⟩,G,H,I,M⟩:=t;have h:=b.o5;rw[m]at h;intro N;refine⟨[eb],?_⟩;have v:a≠eb:=by have:=b.heb;omega
 simp(disch:=omega)[aX,only,u,bA,b.h5,h,v,ba,ai];refine Jk j l λw p O P=>?_;unfold XJ;simp[binOp,gD];refine s _ (p.toList==c.toList) (g.next (λk Q R=>?_) (λk p _=>congrFun (nU _ _) k) aw ?_ (λk x=>congrFun (nU _ _) k)) (b.next (λk x=>?_) (congrFun (nU _ _) eb)) Y;exact cj;show Fr (bp _ _) w;rw[nU];exact bK;exact cj
theorem aiN{e:ah}{a:Nat}{b:ByteArray}{j:Bool}(l:VT.ok Ty.MG (.agg [K,f]))(m:VT.ok (.agg Ty.nT) (.agg [S b,S V,B bA,B aR,B aB,B bT,ag,bH,bu,bX]))(p:Sl 7 bH bC)(F:∀C∈bC,Row Ty.zy C)(z:bC.length<=7)(G:L.length<800)(q:pH K f e a L d)(r:ym f a n i eb ge [S b,S V,B bA,B aR,B aB,B bT,ag,bH,bu,bX] d)(s:d.T 25=.p (B j))(H:∀o g,pH K f e a g o->g.length<=L.length+8->ym f a n i eb ge [S b,S V,B bA,B aR,B aB,B bT,ag,bH,bu,bX] o->bn .normal o):
 bx (X af) (.seq QJ QO) d bn:=by
 have t:∀s2 c,pH K f e a c s2->c.length<=L.length+1->ym f a n i eb ge [S b,S V,B bA,B aR,B aB,B bT,ag,bH,bu,bX] s2->bx (X af) QO s2 bn:=by intro s2 c u A h;have D:=h.h5;have E:=h.o5;simp(disch:=omega)[QO,D,E,ba,dO p];intro I;refine agL l m rfl p U z y ⟨c,u.next (λk M N=>?_) U aw (u.fr.mono aw) U,A⟩ (h.next (λk O=>?_) rfl) ⟨Y,Y,Y⟩ λo g v x P=>?_;exact cj;exact cj;grind
 cases j with|false=>simp[QJ,s];exact t d L q y r|true=>simp[QJ,s];refine abe l m rfl q r y λo w v x=>?_;exact t o (L++[w]) v Y x
theorem agU{a:List (List P)}{O:ah}{nx:Nat}(h:VT.ok Ty.MG (.agg [K,f]))(E:Sl 10 f a)(an:a.length<=5)(F:∀r∈a,Row (Ty.rZ 2) r)(b:pH K f O nx [] d)(g:d.T 13=.p f)(c:d.T 14=.p (I a.length))(e:d.T 15=.p (I 0))(G:∀o L,pH K f O nx L o->L.length<=50->bn (.exit 0) o):
 bx (X af) (.loop Qu) d bn:=by refine⟨λk d=>∃i:Nat,k=a.length-i/\i<=a.length/\(∃L,pH K f O nx L d/\L.length<=8*i)/\d.T 13=.p f/\d.T 14=.p (I a.length)/\d.T 15=.p (I i),⟨_,0,rfl,y,U,g,c,e⟩,?_⟩;clear b g c e;rintro k d ⟨i,rfl,hi,⟨L,b,hL⟩,g,c,e⟩;by_cases t:i<a.length;have u:a[i]? =J a[i]:=Y;have M:=bJ t;have v:=F _ M;obtain⟨j,V,bA,aR,aB,bT,ag,bH,bu,bX,w,N,_,l,m,Q,R⟩:=kz v;rw[w]at u v;obtain⟨bC,x,_,ao,T,_⟩:=m;have W:VT.ok (.agg Ty.nT) (.agg [S j,S V,B bA,B aR,B aB,B bT,ag,bH,bu,bX]):=⟨_,rfl,ar,trivial⟩;have ab:=lW (i:=i) y;have ax:=b.gp;have c1:=eU l;have c2:=ig x;have c3:=eU Q;have c4:=eU R;simp(disch:=omega)[-az,Qu,g,c,e,t,dm E,u,w,ft,ba,D.cells,uP,zh,Cz,dw,bI,binOp,aC,ai,c1,c2,c3,c4];intro q;have ac:bC.length<=7:=y;have ay:∀H,d.nx+1+4<=H->Fr (am d.O (d.nx+1+2) (J (.row 10 (q (d.nx+1+2)) [[.p (S j),.p (S V),.p (B bA),.p (B aR),.p (B aB),.p (B bT),.p ag,.p bH,.p bu,.p bX]]))) H:=λH h=>(b.fr.mono y).am y;refine ai0 (n:=a.length) (i:=i) (eb:=d.nx+1+2) (ge:=q (d.nx+1+2)) (r:=[S j,S V,B bA,B aR,B aB,B bT,ag,bH,bu,bX]) h N rfl (b.next (λk l m=>?_) (λk p z=>ai (by have:=b.fr.lt z;omega)) aw U (λk z=>ai y)) ⟨Y,Y,y,?_,?_,?_⟩ λs1 p g1 g2 g3=>?_;exact cj;exact ar;exact ar;exact ar;refine aiN h W x (λC hq=>T6 (T C hq)) ac y g1 g2 g3 λs2 L2 A w2 s=>?_;have ad:=s.I9;simp[ZR,ad,binOp,aC,ab];intro aE;refine⟨_,y,i+1,rfl,y,⟨L2,A.next (λk l m=>?_) U aw (A.fr.mono aw) U,y⟩,by simp[s.C7],by simp[s.Et],Y⟩;exact cj;have al:i=a.length:=y;subst al;simp[-az,Qu,c,e,binOp,aC];intro q;exact G _ L (b.next cj U aw (b.fr.mono aw) U) y
end
def vM{id a b:Nat}{c:List (List P)}:∀(u:List D),kn id a b c u=u.map (gx id a b c)|[]=>rfl|M::u=>by simp[kn,bG,vM u]
theorem Lb{g:Nat}{h:List (List D)}{c:List (List P)}(m:d.O bB=J (.row g bZ h))(e:tC d.O n c M bO)(s:bO≠J bB):
 ∃(b:D->D) (C:P) (s1:St),kh d s1/\Sl n C c/\b M=.p C/\(∀f,b (.p f)=.p f)/\(∀i a j p l,b (.ptr i a j p l)=.ptr i a j p l)/\(∀i a u n ag,bO≠J i->b (.sl i a 0 u n ag)=.sl i a 0 u n ag)/\
  s1.nx=d.nx/\(∀k,s1.T k=b (d.T k))/\s1.O bB=J (.row g bZ (h.map (·.map b)))/\∀k,k≠bB->bO≠J k->s1.O k=d.O k:=by
 rcases e with⟨rfl,rfl,rfl⟩|⟨id,a,rfl,rfl,o⟩;exact⟨λf=>f,_,d,aj,aj,rfl,U,U,U,rfl,U,U,U⟩;have q:bB≠id:=aj;refine⟨gx id a n c,.im c n Z,_,.step (λk=>k=bB) id a n c o (.refl _),aj,?_,aj,aj,λi t u H ag e=>?_,rfl,U,?_,λk r e=>?_⟩;simp only[gx,bf,bV,kG,aT,gK];simp;have:i≠id:=aj;simp[gx,this];simp only[j8,ap q,aT,m,fK,Em];congr 2;exact iL λu _=>vM u;have:k≠id:=aj;simp only[j8,ap y,ap r]
section
variable [Gh]
theorem aiR{b:ah}{d:Nat}{e:D->ah->Nat->Prop}{a:List (List P)}(h:tC b 3 a M bO)(n:∀r∈a,∃(i:ByteArray) (be:List P),r=S i::be)(o:a.length<=1000)(f:∀c bS,rB bS a->tC c 3 bS M bO->(∀k,bO≠J k->c k=b k)->e (.eQ []) c d):
 X af 117 [M,.p (.fn (.func 118) [] [])] b d e:=by rcases h with⟨rfl,rfl,rfl⟩|⟨id,j,rfl,rfl,l⟩;exact ajX (f b [] Y (.inl Y) U);have m:a.length=(a.map (·.map D.p)).length:=Y;rw[m];refine aoK l (λr p=>?_) y λq W=>?_;grind;obtain⟨bS,g,rfl⟩:=Dn W rfl;refine f _ bS g (.inr ⟨id,j,rfl,?_,Y⟩) λk s=>ai aj;simp[g.length_eq]
theorem aip{b:ah}{d:Nat}{e:D->ah->Nat->Prop}{a:List (List P)}(h:tC b 3 a M bO)(n:∀r∈a,∃(i:ByteArray) (be:List P),r=S i::be)(o:a.length<=1000)(f:∀c bS,rB bS a->tC c 3 bS M bO->(∀k,bO≠J k->c k=b k)->e (.eQ []) c d):
 X af 119 [M,.p (.fn (.func 120) [] [])] b d e:=by rcases h with⟨rfl,rfl,rfl⟩|⟨id,j,rfl,rfl,l⟩;exact ajZ (f b [] Y (.inl Y) U);have m:a.length=(a.map (·.map D.p)).length:=Y;rw[m];refine an7 l (λr p=>?_) y λq W=>?_;grind;obtain⟨bS,g,rfl⟩:=Dn W rfl;refine f _ bS g (.inr ⟨id,j,rfl,?_,Y⟩) λk s=>ai aj;simp[g.length_eq]
def Fk(h:List P):Prop:=∃(a:ByteArray) (b c d e:P) (i j f g:List (List P)),h=[S a,b,c,d,e]/\wI a b c i j f g/\Sl 3 d f/\Sl 3 e g
theorem wI.arf{a:ByteArray}{pc pk:P}{b c d e:List (List P)}(f:wI a pc pk b c d e)(g:rB bS d)(h:rB cE e):wI a pc pk b c bS cE:=by obtain⟨i,j,k,l,m,n,o,p,q,s,t,r⟩:=f;exact⟨i,j,k,l,m,by rw[g.length_eq];exact n,by rw[h.length_eq];exact o,p,q,ak,ak,r⟩
structure Wt(O:ah)(nx idL gL n:Nat)(A:List (List P))(B:List TT)(s:St):Prop where
 h2:∃g,s.T 2=.ptr (nx+1) g 1 0 0/\s.O (nx+1)=J (.row 1 g [[.p aD]])
 h3:∃g,s.T 3=.ptr (nx+2) g 1 0 0/\s.O (nx+2)=J (.row 1 g [[.sl idL gL 0 n 5 Z]])
 hL:s.O idL=J (.row 5 gL (A.map (·.map D.p)++B.map (·.1)))
 h77:s.T 77=.sl idL gL 0 n 5 Z
 h78:s.T 78=.p (I n)
 h79:s.T 79=.p (I A.length)
 hn:n=A.length+B.length
 avo:n<=50
 al9:Dc s.O (nx+3) s.nx B
 pure:∀r∈A,Fk r
 hid:nx+3<=idL
 gp:nx+2<s.nx
 fr:Fr s.O s.nx
 low:∀k,k<nx->s.O k=O k
def aeg(b:Row Ty.zQ r):∃(a:ByteArray) (be:List P),r=S a::be:=by obtain⟨V,C,rfl,⟨a,rfl,_⟩,_⟩:=Row.cons b;simp
def ab6(b:Row Ty.M0 r):∃(a:ByteArray) (be:List P),r=S a::be:=by obtain⟨V,C,rfl,⟨a,rfl,_⟩,_⟩:=Row.cons b;simp
def E9.abO{j:ah}{a:D->D}(k:E9 j w)(o:∀f,a (.p f)=.p f)(d:∀i b u n ag,bO≠J i->a (.sl i b 0 u n ag)=.sl i b 0 u n ag)(e:∀i∈nQ w,bO≠J i):w.1.map a=w.1:=by
 obtain⟨p,q,r,s,t,v,x,g,h,y,_,l,m⟩:=k;have z:a g=g:=by rcases l with⟨_,_,rfl⟩|⟨i,b,c,rfl,_⟩;exact U;exact d _ _ _ _ _ (e i (vj c))
 have A:a h=h:=by rcases m with⟨_,_,rfl⟩|⟨i,b,c,rfl,_⟩;exact U;exact d _ _ _ _ _ (e i (uY c))
 exact U
def E6(a:List D):(cF a).cells=a:=by
 have:=tK a;rcases this with⟨b,_⟩|⟨d,b,c⟩
 rw[b];rfl;rw[b,c];rfl
theorem alX{F:ah}{u:Nat}{s2:St}{A:List (List P)}{B:List TT}{l:ByteArray}{m q:P}{ab ks fo ix:List (List P)}{dF s:D}(hs:Wt F u bB bZ n A (w::B) d)(et:w.1=[.p (S l),.p m,.p q,dF,s])(hI:wI l m q ab ks fo ix)(p1:rB bS fo)(p2:rB cE ix)(w1:tC s2.O 3 bS dF w.2.1)(w2:tC s2.O 3 cE s w.2.2)(hO:∀k p,d.O k=J p->w.2.1≠J k->w.2.2≠J k->s2.O k=J p)(hT:∀k,k=2\/k=3\/k=77\/k=78\/k=79->s2.T k=d.T k)(hn:d.nx<=s2.nx)(hf:Fr s2.O s2.nx)(ao:∀k,k<u->s2.O k=d.O k)(hK:∀o pf pi,Sl 3 pf bS->Sl 3 pi cE->Wt F u bB bZ n (A++[[S l,m,q,pf,pi]]) B o->bn .normal o):cH (X af) ZB s2 bn:=by
 have ax:=hs;obtain⟨⟨g2,a2,aR⟩,⟨g3,a3,aB⟩,v,ay,aE,bk,aI,bl,e,aO,aP,bm,aS,a0⟩:=ax;have nd:=e.nd;simp only[mW,jW]at nd;obtain⟨ac,a1,x⟩:=nd;have G:∀k p,d.O k=J p->(∀g z,p≠.row 3 g z)->w.2.1≠J k/\w.2.2≠J k:=by intro k p h hb;refine⟨λa=>?_,λa=>?_⟩;obtain⟨g,z,b⟩:=(e.KW w Y).row (vj a);grind;obtain⟨g,z,b⟩:=(e.KW w Y).row (uY a);grind
 have H:=G _ _ v (λ_ _ b=>by cases b);have n2:=G _ _ aR (λ_ _ b=>by cases b);have n3:=G _ _ aB (λ_ _ b=>by cases b);have a4:=hO _ _ v H.1 H.2;obtain⟨C,K,s3,F1,l1,bo,a5,bs,L,M,a6,a7,N⟩:=Lb a4 w1 U;have a8:tC s3.O 3 cE s w.2.2:=w2.aL λi c=>N i ak (λa=>by have:=ac;simp[nQ,a,c]at this)
 obtain⟨O,R,s4,F2,l2,bA,a9,bC,ad,T,bb,bH,ag⟩:=Lb a7 a8 U;have fI:C s=s:=by rcases w2 with⟨_,_,rfl⟩|⟨i,g,e1,rfl,_⟩;exact U;refine L _ _ _ _ _ λa=>?_;have:=ac;simp[nQ,a,e1]at this
 have bL:((A.map (·.map D.p)++(w::B).map (·.1)).map (·.map C)).map (·.map O)=(A++[[S l,m,q,K,R]]).map (·.map D.p)++B.map (·.1):=by
  have hA:∀r:List P,((r.map D.p).map C).map O=r.map D.p:=U;have hB:∀bu∈B,(bu.1.map C).map O=bu.1:=λbu E=>by have t:=e.KW bu U;have V:∀i∈nQ bu,w.2.1≠J i/\w.2.2≠J i:=λi c=>⟨λa=>x i (vj a) i ak rfl,λa=>x i (uY a) i ak rfl⟩;rw[t.abO a5 L U,t.abO a9 ad U]
  simp only[cG,mh,bG,eC,et,jd,kR,rA];congr 1;exact U;congr 1;exact U;exact iL U
 show∃s1,kh s2 s1/\bx _ (.dg _ _ _) s1 _;refine⟨s4,F1.trans F2,?_⟩;have T4:∀k f,s2.T k=.p f->s4.T k=.p f:=U;have bM:∀k i g f Q al,s2.T k=.ptr i g f Q al->s4.T k=.ptr i g f Q al:=U;have bd:s4.T 79=.p (I A.length):=U;have be:=lW (i:=A.length) y;have bO:A.length+(B.length+1)=n:=by simpa using aI.symm
 simp[bd,binOp,aC,be];intro gm;have O4:∀k p,d.O k=J p->k≠bB->w.2.1≠J k->w.2.2≠J k->s4.O k=J p:=U;refine hK _ K R l1 l2 ⟨⟨g2,?_,?_⟩,⟨g3,?_,?_⟩,?_,?_,?_,?_,?_,y,?_,?_,aP,?_,?_,λk h=>?_⟩;exact U;grind;exact U;grind;grind;have:s4.T 77=.sl bB bZ 0 n 5 Z:=by rw[bb,a6,(hT 77 y).trans ay,L _ _ _ _ _ U,ad _ _ _ _ _ H.2]
 exact ar;simp[T4 78 _ ((hT 78 y).trans aE)];simp;simp;omega;refine⟨λbu E=>?_,a1,λi c=>?_⟩;have t:=e.KW bu (jz _ E);have V:∀i∈nQ bu,w.2.1≠J i/\w.2.2≠J i:=λi c=>⟨λa=>x i (vj a) i (xz.2 ⟨bu,E,c⟩) rfl,λa=>x i (uY a) i (xz.2 ⟨bu,E,c⟩) rfl⟩;refine t.aL λi c=>?_;obtain⟨g,z,b⟩:=t.row c;rw[b];exact O4 _ _ b (λa=>by rw[a,v]at b;cases b) (V i c).1 (V i c).2;have:=e.EU i (by simp only[mW];exact mw _ c);refine⟨this.1,?_⟩;show i<s4.nx+2;rw[T,M];omega;intro r j;rcases bg.1 j with j|j
 exact aO r j;rw[bD]at j;exact⟨l,m,q,K,R,ab,ks,bS,cE,j,hI.arf p1 p2,l1,l2⟩;show u+2<s4.nx+2;rw[T,M];omega;intro k h;have h:s4.nx+2<=k:=h;rw[T,M]at h;show s4.O k=ae;have an:k≠bB:=by have:=aS.lt v;omega
 have W:w.2.1≠J k:=λa=>by have:=e.EU k (by simp only[mW];exact jx _ (vj a));omega
 have k2:w.2.2≠J k:=λa=>by have:=e.EU k (by simp only[mW];exact jx _ (uY a));omega
 rw[ag k an k2,N k an W];exact hf k y;show s4.O k=F k;have W:w.2.1≠J k:=λa=>by have:=e.EU k (by simp only[mW];exact jx _ (vj a));omega
 have k2:w.2.2≠J k:=λa=>by have:=e.EU k (by simp only[mW];exact jx _ (uY a));omega
 rw[ag k y k2,N k y W,ao k h];exact a0 k h
theorem adR{O:ah}{e:Nat}{B:List TT}(f:Wt O e bB bZ n [] B d)(N:∀o A,Wt O e bB bZ n A [] o->bn (.exit 4) o):cH (X af) (.loop Uf) d bn:=by
 refine⟨λk d=>∃A B,k=B.length/\Wt O e bB bZ n A B d,⟨_,[],B,rfl,f⟩,?_⟩;clear f;rintro k d ⟨A,B,rfl,f⟩;have P:=f;obtain⟨⟨Q,R,aR⟩,⟨T,U,aB⟩,C,E,s,l,t,V,g,W,ab,an,u,ac⟩:=P;show cH _ (.seq _ (.seq _ (.seq _ _))) _ _;refine bU br ?_;cases B with
 |nil=>simp at t;have a:¬((A.length:Int)<n):=y;simp[s,l,binOp,aC,a];intro gm;refine bU br ?_;simp;refine N _ A ⟨⟨Q,by simp[R],aR⟩,⟨T,by simp[U],aB⟩,C,by simp[E],by simp[s],by simp[l],by simp[t],V,g.aL (λ_ _=>rfl) aw,W,ab,aw,u.mono aw,ac⟩
 |cons w B=>
  simp at t;have a:(A.length:Int)<n:=y;obtain⟨F,G,H,ao,ks,fo,ix,I,K,L,h,w1,w2⟩:=g.KW w ja;have ad:(A.map (·.map D.p)++w.1::B.map (·.1))[A.length]? =J [.p (S F),.p G,.p H,I,K]:=by rw[kV Y];simp[L]
  simp[-az,s,l,binOp,aC,a];intro gm;refine bU br ?_;simp[-az];refine bU br ?_;simp(disch:=omega)[-az,E,l,C,ad,ba,E6,bI];intro ag;refine⟨y,λax=>?_⟩;have m:∀i,w.2.1=J i->e+3<=i/\i<d.nx:=λi b=>g.EU i (by simp only[mW];exact jx _ (vj b));have v:∀i,w.2.2=J i->e+3<=i/\i<d.nx:=λi b=>g.EU i (by simp only[mW];exact jx _ (uY b));refine aiR (w1.aL λi b=>ai (by have:=m i b;omega)) (λr x=>aeg (h.rf r x)) h.lf λO1 bS p1 y1 j=>?_;have hb:O1 (d.nx+1+2)=J (.row 5 (ag (d.nx+1+2)) [[.p (S F),.p G,.p H,I,K]]):=(j _ λa=>by have:=m _ a;omega).trans bi;simp(disch:=omega)[abp,hb,ba];intro ay;have M:(nQ w).Nodup:=by have:=g.nd;simp only[mW,jW]at this;exact this.1
  refine aip (w2.aL λi b=>?_) (λr x=>ab6 (h.ri r x)) h.li λz cE p2 y2 q=>?_;rw[j i (λa=>by simp[nQ,a,b]at M),ai (by have:=v i b;omega)];refine alX f L h p1 p2 (y1.aL λi b=>q i (λa=>by simp[nQ,a,b]at M)) y2 (λk p c k1 k2=>?_) (λk c=>?_) ?_ ?_ (λk c=>?_) λo pf pi l1 l2 al=>⟨_,y,_,B,rfl,al⟩;show z k=J p;rw[q k k2,j k k1,ai (by have:=u.lt c;omega)];exact c;exact j5;show d.nx<=d.nx+1+4+3+3;omega;intro k c;have c:d.nx+1+4+3+3<=k:=c;show z k=ae;rw[q k λa=>by have:=v _ a;omega,j k λa=>by have:=m _ a;omega,ai y];exact u k y;show z k=d.O k;rw[q k λa=>by have:=v _ a;omega,j k λa=>by have:=m _ a;omega,ai y]
end
section
variable [Gh]
def WB{id a off b:Nat}{c:Bool}:cF [.sl id a off b n c]=.agg [.sl id a off b n c]:=rfl
theorem amz{b:ah}{a:Nat}{A:List (List P)}{h:D->ah->Nat->Prop}(g:Fr b a)(p:Wt b a bB bZ n A [] d)(q:∀c C e,a<=c->Sl 5 C e->e.length<=50->(∀r∈e,Fk r)->h (.p (.agg [C])) b c):
 cH (X af) ND d λi o=>(i=.normal\/i=.ret)/\jt o D49.rs λs=>ji a (λM t c=>∃j l,wR M t j l/\h j l c) o.O o.nx (aM s):=by
 refine mJ br _ ?_;obtain⟨⟨H,u,aR⟩,⟨I,v,aB⟩,m,K,L,N,w,O,e,x,Q,R,z,B⟩:=p;simp(disch:=omega)[ND,D49,u,v,aR,aB,ba,E6,WB,Ku,D.cells,bI];have E:A.length=n:=by simpa using w.symm
 have S:=z.lt m;have F:am (am b bB (J (.row 5 bZ (A.map (·.map D.p))))) bB ae=b:=by rw[oS];funext k;by_cases f:k=bB;subst f;rw[bi,g k y];exact U
 refine .aX (λk=>?_) ((g.mono (by show a<=d.nx+2;omega)).am (by show bB<d.nx+2;omega)) y ⟨_,_,.step bB bZ 5 A (by rw[bi]) aj,?_⟩;by_cases f:k=bB;subst f;refine .inr ?_;rw[bi];show _=am d.O _ _ _;rw[ai y,m];simp;rw[ai f];by_cases G:k<a;refine .inr ?_;show _=am d.O _ _ _;rw[ai y,B k G];exact .inl (g k y);rw[F];simp only[gx,kn,<-E,bf,bV,kG,aT,gK];rw[cp y];exact q _ _ A y aj y x
theorem ZO(p:VT.ok Ty.MG H){e:ah}{a:Nat}{q:D->ah->Nat->Prop}(s:∀t C l,a<=t->Sl 5 C l->l.length<=50->(∀r∈l,Fk r)->q (.p (.agg [C])) e t):X af 49 [.p H] e a q:=by
 have N:=p;obtain⟨K,f,Q,rfl,R,m,an,ao,ax,hn,ay⟩:=nO y rfl p;have S:=ig m;have T:=eU R;refine X.rW ?_;refine X.Px Y apc (by simp[D49]) λu=>?_;show cH _ (.seq _ (.seq _ (.seq _ _))) _ _;refine bU br ?_;simp(disch:=omega)[cN,D.cells,dw,S,T];intro aE;refine bU br ?_;simp(disch:=omega);intro V;refine bU br ?_;simp(disch:=omega)[ba,dO m,ai];intro aI;refine agU (O:=e) (nx:=a) N m y aj ⟨Y,Y,⟨V (a+2),.p aD,Y,Y,aj⟩,⟨ak,Y,ak⟩,Y,?_,aj⟩ Y Y Y λs1 L h1 hL=>?_;exact bK;simp;show cH _ (.seq _ _) _ _;refine bU br ?_;obtain⟨⟨g1,a1,bA⟩,⟨v,a2,aR⟩,⟨x,dl,g,aB,c3⟩,b,h5,z,h7⟩:=h1;simp(disch:=omega)[g,aB,ba];intro aO;rcases c3 with⟨E,rfl⟩|⟨bB,bZ,ab,rfl,F⟩
 refine aj9 ?_;show cH _ (.seq (.seq _ (.block _ (.loop _))) _) _ _;refine bU br ?_;simp(disch:=omega)[g,aB,ba];intro ac;refine⟨λ_ d=>d.T 2=.ptr (a+1) v 1 0 0/\d.T 3=.ptr (a+2) x 1 0 0/\d.O=s1.O/\s1.nx<=d.nx/\d.T 78=.p (I 0)/\d.T 79=.p (I 0),EA,?_⟩;rintro _ d ⟨w2,w3,wO,wn,ad,ag⟩;simp[-az,Uf,ad,ag,binOp,aC];intro aP;refine mJ br _ ?_;simp(disch:=omega)[ND,D49,w2,w3,wO,aR,aB,ba,D.cells,P.cells,aJ,bI];refine .low u y (λk G=>?_) ⟨_,_,aj,s _ _ [] y aj Y ak⟩;exact aj;refine aoQ F (λr hr=>?_) dK λaS W=>?_;obtain⟨w,h,rfl⟩:=List.mem_map.1 hr;obtain⟨a0,pc,pk,a4,ks,fo,ix,dF,dI,E,_⟩:=(b.KW w h).ex;exact U;obtain⟨L2,j,rfl⟩:=Dn W rfl;have n:(L.map (·.1)).length=L.length:=Y;have a5:=z.lt F;have al:∀i∈L.flatMap nQ,i≠bB:=λi c E=>by obtain⟨a6,Q,a7⟩:=b.row c;grind
 have M:=j.flatMap_right nQ;show cH _ (.seq (.seq _ (.block _ (.loop _))) _) _ _;show cH _ (.seq _ (.block _ (.loop _))) _ _;refine bU br ?_;simp(disch:=omega)[g,aB,ba,ai];intro ac;refine adR (O:=e) (B:=L2) ⟨⟨v,by simp[a2],aj⟩,⟨x,by simp[g],by show am s1.O _ _ _=_;rw[ai y,aB,n]⟩,Y,by simp[n],by simp[n],Y,by simp[j.length_eq],y,?_,ak,ab,by show a+2<s1.nx+3+4;omega,?_,λk G=>?_⟩ λo A hA=>?_;refine⟨λw h=>(b.KW w (j.mem_iff.1 h)).aL λi c=>?_,M.nodup_iff.2 b.nd,λi c=>?_⟩;show am s1.O _ _ _=_;rw[ai (al i (xz.2 ⟨w,j.mem_iff.1 h,c⟩))];have:=b.EU i (M.mem_iff.1 c);refine⟨this.1,?_⟩;show i<s1.nx+3+4;omega;exact(z.mono (by show s1.nx<=s1.nx+3+4;omega)).am (by show bB<s1.nx+3+4;omega);show am s1.O _ _ _=_;rw[ai y,h7 k G];exact amz u hA s
end
section
variable [Gh]
theorem TC(a:Fk r):Row Ty.MV r:=by obtain⟨b,o,q,s,t,c,d,e,f,rfl,g,s3,s4⟩:=a;obtain⟨u,h,i,v,w,x,z,j,k,l,m,A⟩:=g;have B:∀(n:Nat) (p:Nat),n<=p->((n:Int)<=p):=qM;exact⟨⟨b,rfl,y⟩,⟨c,h,y,y,j,aj⟩,⟨d,i,y,y,k,aj⟩,⟨e,s3,y,y,l,aj⟩,⟨f,s4,y,y,m,aj⟩,aj⟩
theorem X8:bz af S72:=by refine .n rfl λa j k l b W c=>?_;obtain⟨V,m,rfl,d,e⟩:=Vs.cons b;obtain rfl:=Vs.nil e;refine ZO d λf C g h i n o=>?_;refine c f [.agg [C]] _ a h ⟨⟨[C],rfl,⟨⟨g,i,y,y,λr p=>TC U,ar⟩,ar⟩,ar⟩,ar⟩ (by intro C q;grind) OU
end
def Ka:List aA:=[oT 36 32 (.yK (.t 35) 5 1 Z),oT 37 32 (AM 36),oT 38 32 (xM 37),dA 39 38 (xF 13 1),dA 40 38 (xL 1 39),dA 41 38 (xM 3),dA 42 38 (xB .eql 40 41),oT 43 32 (qa 38 42),q 44 (jw 32 43)]
def Q7:List aA:=(q 31 (jw 25 30)::G 32 31::oT 33 32 (uS 2 5)::oT 34 32 (xM 2)::oT 35 32 (dV 51 33 34)::Ka)
def JY:av:=.cond (.t 44) (z 3 [cA 45 9 13,oN (xS 9 10 45),q 11 (gR aa)] (.ret)) (.skip)
def Qz:av:=rF 2 [q 46 (di .add 17 1),G 17 46]
def QW:av:=
 z 1 [q 18 (xB .lss 17 16)] (.seq (cX 18 0) (.seq (.block 1 (z 4 [q 19 (xI 9 15 17),cA 20 9 19,q 13 (.alloc 2 9 [aF,aH,aH,aH,aH,aH,aF,aD,aD]),oN (xS 9 13 20)] (z 24 (oF 21 13 2::oL 22 1 21::G 23 4::q 24 (xB .eql 22 23)::G 25 24::oT 26 25 (uS 2 5)::oT 27 25 (xF 13 0)::oT 28 25 (xL 1 27)::oT 29 25 (xM 2)::oT 30 25 (sV 50 26 28 29)::Q7)
  JY)))
  Qz))
def aft:av:=z 3 [q 47 (.build [aF,aH,aH,aH,aH,aH,aF,aD,aD] []),oN (xS 9 10 47),q 11 (gR Z)] (.ret)
def D57:d6:=⟨48,[.cell 10 9 aa,.t 11],z 4 [q 5 (iU 0 2 0),q 6 (iU 1 2 1),q 10 (.alloc 2 9 [aF,aH,aH,aH,aH,aH,aF,aD,aD]),q 11 (gR Z)] (.seq (z 4 [oF 14 6 0,oL 15 1 14,q 16 (fQ 15),fR 17 0] (.block 0 (.loop QW)))
 aft)⟩
def apO:cW af Tryz.f57=J D57:=h
structure aat(r:List P):Prop where
 sh:∃(a gs:ByteArray) (t id v gk gn:Int) (vs os:P),r=[S a,I t,I id,I v,I gk,I gn,S gs,vs,os]/\vs.cells=[vs]/\os.cells=[os]
theorem adl{a:cJ->Bool}{b:List cJ}{c:cJ}(d:c∈b)(W:a c=aa):0<=iW a b:=by have f:=qC (pr:=a) (es:=b);by_cases e:iW a b<0;have:=WU e c d;grind;omega
def LV:List P:=[S ⟨#[]⟩,I 0,I 0,I 0,I 0,I 0,S ⟨#[]⟩,.v (.slice ae 0 0),.v (.slice ae 0 0)]
structure afk(e0 x:P)(obs:List (List P))(op:P)(Ew:ByteArray)(tn id:Int)(O:ah)(nx g0 g2:Nat)(n:Nat)(s:St)(i:Nat):Prop where
 n:n=obs.length-i
 hi:i<=obs.length
 h2:s.T 2=.p (S Ew)
 h3:s.T 3=.p (I tn)
 h4:s.T 4=.p (I id)
 h5:s.T 5=.ptr nx g0 2 0 0
 hO:s.O nx=J (.row 2 g0 [[.p e0,.p x]])
 Gz:s.T 10=.ptr (nx+2) g2 9 0 0
 hO2:s.O (nx+2)=J (.row 9 g2 [LV.map .p])
 I9:s.T 15=.p op
 h16:s.T 16=.p (I obs.length)
 VN:s.T 17=.p (I i)
 gp:nx+2<s.nx
 fr:Fr s.O s.nx
 low:∀k,k<nx->s.O k=O k
def ab3{e M:P}{j a:List (List P)}(N:vN f j)(he:qf j)(aE:j.length<900)(aI:K.cells=[K])(u:Sl 9 e a)(bm:a.length<1000)(aO:∀r∈a,aat r)(aR:M.cells=[M])(aS:∀r∈j,∃q1 q2 q3 q4 q5 be,∃p:Bool,r=q1::q2::q3::q4::q5::B p::be){v:ByteArray}{g id:Int}{x:ah}{c:Nat}{ag:D->ah->Nat->Prop}(O:∀al r p,c<=al->(r∈a\/r=LV)->ag (.eQ [.p (.agg r),.p (B p)]) x al):X af 57 [.p (.agg [K,f]),.p (.agg [e,M]),.p (S v),.p (I g),.p (I id)] x c ag:=by
 refine X.of Tryz.func57 apO (by simp[D57]) λz=>?_;have a0:f.cells=[f]:=by cases N.sl<;>simp[P.cells,aJ]
 have a1:e.cells=[e]:=by cases u<;>simp[P.cells,aJ]
 simp(disch:=omega)[D57,cN,D.cells,P.cells,aJ,ba,a0,a1,aI,aR,dO u];intro l bn;refine⟨λn d=>∃i:Nat,afk K f a e v g id x c (l c) (l (c+2)) n d i,⟨a.length,0,Y,y,Y,Y,Y,Y,by simp(disch:=omega)[ai],Y,by simp[LV],Y,Y,Y,ic,?_,λk b=>by simp(disch:=omega)[ai]⟩,?_⟩;exact(((z.mono ic).am ic).am ic).am ic;rintro n d ⟨i,rfl,hi,A,h,Q,C,E,m,q,R,F,s,bo,T,G⟩;by_cases L:i<a.length;have U:a[i]? =J a[i]:=bh L;have V:=bJ L;obtain⟨bs,gs,w,an,bu,gk,gn,aP,os,t,ao,ax⟩:=(aO _ V).sh;rw[t]at U;have W:=Wk (i:=i) y;have ab:∀(o:St),o.T 2=d.T 2->o.T 3=d.T 3->o.T 4=d.T 4->o.T 5=d.T 5->o.T 10=d.T 10->o.T 15=d.T 15->o.T 16=d.T 16->o.T 17=.p (I ((i+1:Nat):Int))->(∀k,k<d.nx->o.O k=d.O k)->d.nx<=o.nx->Fr o.O o.nx->
  ∃H,H<a.length-i/\∃i,afk K f a e v g id x c (l c) (l (c+2)) H o i:=λo e2 e3 e4 e5 a2 a3 a4 a5 eO en ef=>
  ⟨_,y,i+1,rfl,y,e2.trans A,e3.trans h,e4.trans Q,e5.trans C,(eO _ y).trans E,a2.trans m,(eO _ y).trans q,a3.trans R,a4.trans F,a5,y,ef,λk b=>(eO k y).trans (G k b)⟩
 by_cases ay:an=id;subst ay;simp(disch:=omega)[-az,-cV,-bW,↓cQ,↓fi,QW,A,h,Q,C,R,F,s,E,L,dm u,U,t,ft,ba,D.cells,P.cells,aJ,bI,binOp,aC,ai,ao,ax];intro a6 a7;refine Py N he aE λbA lc bB hc=>?_;by_cases ac:iW (named v) j∈lc;simp(disch:=omega)[-az,-cV,-bW,↓cQ,↓fi,Q7,ac,A,C,E,ai,ba];refine vg N he (hc.range _ ac).1 λbC bH ri rr bL _ a8=>?_;obtain⟨q1,q2,q3,q4,q5,be,bb,a9⟩:=aS rr (iS a8);rw[a9];have bM:∀(o:St),o.T 10=.ptr (c+2) (l (c+2)) 9 0 0->True:=λ_ _=>trivial;cases bb with
 |false=>
  simp(disch:=omega)[-az,-cV,-bW,↓cQ,↓fi,Ka,JY,h,m,q,ba,ft,D.cells,P.cells,aJ,bI,binOp,aC,unOp,ai,LV,dv,cF]
  skip
  exact .low z y (λk b=>by simp(disch:=omega)[ai,G k b]) (O _ _ _ y (.inl (t▸V)))
 |true=>
  by_cases aB:w=g;have ad:(w==g)=aa:=by simp[aB]
  simp(disch:=omega)[-az,-cV,-bW,↓cQ,↓fi,Ka,JY,h,m,q,ba,ft,D.cells,P.cells,aJ,bI,binOp,aC,unOp,ai,LV,dv,cF,ad];exact .low z y (λk b=>by simp(disch:=omega)[ai,G k b]) (O _ _ _ y (.inl (t▸V)));have ad:(w==g)=Z:=jY.2 aB;simp(disch:=omega)[-az,-cV,-bW,↓cQ,↓fi,Ka,JY,Qz,s,W,h,m,q,ba,ft,D.cells,P.cells,aJ,bI,binOp,aC,unOp,ai,LV,dv,cF,ad];intro bd;refine ab _ Y Y Y Y Y Y Y Y (λk b=>by simp(disch:=omega)[ai]) ic ?_;exact(T.mono ic).am ic
 simp(disch:=omega)[-az,-cV,-bW,↓cQ,↓fi,Q7,Ka,JY,Qz,ac,s,binOp,aC,W];intro bd;refine ab _ Y Y Y Y Y Y Y Y (λk b=>by simp(disch:=omega)[ai]) ic ?_;exact(T.mono ic).am ic;have bk:(an==id)=Z:=jY.2 ay;simp(disch:=omega)[-az,-cV,-bW,↓cQ,↓fi,QW,Q7,Ka,JY,Qz,W,A,h,Q,C,R,F,s,E,L,dm u,U,t,ft,ba,D.cells,P.cells,aJ,bI,binOp,aC,ai,ao,ax,bk];intro a6 a7;refine ab _ Y Y Y Y Y Y Y Y (λk b=>by simp(disch:=omega)[ai]) ic ?_;exact(T.mono ic).am ic;have bl:i=a.length:=y;subst bl;simp(disch:=omega)[-az,-cV,-bW,↓cQ,↓fi,QW,aft,m,F,s,q,binOp,aC,fh,cF,dv,LV,bI,D.cells,P.cells,ba,aJ];exact .low z y (λk b=>by simp(disch:=omega)[ai,G k b]) (O _ _ _ y (.inr rfl))
def aec:d6:=⟨19,[.t 4],z 1 [fR 4 0] (.seq (z 3 [G 6 0,q 7 (fQ 6),fR 8 0] (.block 0 (.loop (z 1 [q 9 (xB .lss 8 7)] (.seq (cX 9 0) (.seq (.block 1 (z 2 [G 10 8,G 5 10] (z 6 [G 11 1,G 12 0,G 13 5,q 14 (xI 6 12 13),cA 15 6 14,q 16 (.iI (.t 11) [.t 15])] (.cond (.t 16) (z 2 [G 17 5,G 4 17] (.ret)) (.skip))))) (rF 2 [q 18 (di .add 8 1),G 8 18]))))))) (z 1 [fR 4 (-1)] (.ret)))⟩
def ak3:cW af Tryz.f309=J aec:=h
def adS:d6:=⟨8,[.t 3],z 2 [q 2 (iU 0 6 0),q 3 (gR Z)] (z 5 [oF 4 2 0,oL 5 1 4,oL 6 1 1,q 7 (xB .eql 5 6),G 3 7] (.ret))⟩
def alJ:cW af Tryz.f310=J adS:=h
def aep:d6:=⟨9,[.t 4],z 3 [q 2 (iU 0 5 0),q 3 (iU 1 1 1),fR 4 0] (z 5 [oF 5 2 1,oL 6 1 5,q 7 (wW 310 [.t 3]),q 8 (dV 309 6 7),G 4 8] (.ret))⟩
def amt:cW af Tryz.f259=J aep:=h
def aar:List aA:=[q 23 (xI 3 19 22),cA 24 3 23,q 12 (.alloc 6 3 [aH,aH,aF]),oN (xS 3 12 24)]
def ZK:av:=.dg 12 aa [aZ 29 (xM 9),G 25 8,cA 26 3 12,q 27 (.bQ 2 3 1 [aH,aH,aF] [(0,.t 26)]),q 28 (jE 3 3 32 25 27),G 30 29,oT 31 30 (xF 12 0),oT 32 30 (xL 1 31),oT 33 30 (di .neq 32 0),q 34 (jw 30 33),G 8 28,G 9 34]
def aaO:av:=rF 2 [q 35 (di .add 15 1),G 15 35]
def Np:av:=
 z 1 [q 16 (xB .lss 15 14)] (.seq (cX 16 0) (.seq (.block 1 (z 3 [q 17 (xI 1 13 15),oL 18 1 17,G 11 18] (z 8 (G 19 1::cA 20 5 3::G 21 11::q 22 (dV 259 20 21)::aar)
  ZK)))
  aaO))
def abC:av:=z 4 [G 36 8,G 37 9,G 6 36,G 7 37] (.ret)
def acE:d6:=⟨38,[.t 6,.t 7],z 3 [q 3 (iU 0 5 0),q 6 (.mv (.c aD)),q 7 (gR Z)] (z 1 [q 8 (.mv (.c aD))] (z 1 [q 9 (gR aa)] (.seq (z 3 [G 13 2,q 14 (fQ 13),fR 15 0] (.block 0 (.loop Np)))
 abC)))⟩
def ams:cW af Tryz.f190=J acE:=h
theorem Xm{a:List (List P)}(m:Sl 6 f a)(H:a.length<1000000000000)(w:∀r∈a,r.length=6){h:FuncId}{j:List D}{pr:List P->Bool}{c:ah}{g:Nat}{o:D->ah->Nat->Prop}(W:∀r∈a,∀(b:Nat) (p:D->ah->Nat->Prop),g<=b->(∀q,b<=q->p (.p (B (pr r))) c q)->X af h (.p (.agg r)::j) c b p)(s:∀b,g<=b->o (.p (I (iW pr a))) c b):X af 309 [.p f,.fn (.func h) [] j] c g o:=by refine X.of Y ak3 (by simp[aec]) λK=>?_;simp[aec,cN,dO m];intro _;refine⟨λn d=>∃i:Nat,n=a.length-i/\i<=a.length/\(∀e k,e<i->a[e]? =J k->pr k=Z)/\d.T 0=.p f/\d.T 1=.fn (.func h) [] j/\d.T 7=.p (I a.length)/\d.T 8=.p (I i)/\d.O=c/\g<=d.nx,⟨a.length,0,Y,y,Y,?_⟩,?_⟩;simp;omega;rintro n d ⟨i,rfl,L,t,x,z,A,u,v,M⟩;simp[A,u,v,binOp,aC];refine⟨λC=>?_,λN=>?_⟩;have E:a[i]? =J a[i]:=Y;have l:=w _ (bJ C);simp[x,z,u,v,dm m,E,ft,l];rw[show a[i].take 6=a[i] by grind];refine W _ Y _ _ y λO Q=>?_;simp;refine⟨λF=>?_,λR=>?_⟩;refine .d8 bK y ?_;rw[<-yZ ar F t];exact s _ y;refine⟨a.length-(i+1),y,i+1,rfl,y,λe k G S=>?_,?_,y⟩;grind;rw[iK y y];rfl;refine .d8 bK y ?_;rw[<-Ct λr l=>?_];exact s _ y;obtain⟨e,G,T⟩:=eD l;exact t e r y U
theorem U7{c:ByteArray}(g:r.length=5){id d:Nat}{b:ah}{a:Nat}{e:D->ah->Nat->Prop}(k:id<a)(h:b id=J (.row 1 d [[.p (S p)]]))(i:∀f,a<=f->e (.p (B (named p (S c::r)))) b f):X af 310 [.p (.agg (S c::r)),.ptr id d 1 0 0] b a e:=by refine X.of Y alJ (by simp[adS]) λj=>?_;have l:id≠a:=y;simp(disch:=omega)[adS,cN,D.cells,dw,g,h,ba,binOp,gD,ai];intro m;refine .low j y aj (i _ y)
theorem Xp[Gh]{c g d e f:P}{a:List (List P)}(h:Sl 6 g a)(v:a.length<=1000)(o:∀r∈a,Row Ty.Ab r)(w:c.cells=[c])(x:d.cells=[d])(z:e.cells=[e])(A:f.cells=[f]){i:ah}{j:Nat}{l:D->ah->Nat->Prop}(q:∀b,j<=b->l (.p (I (iW (named p) a))) i b):X af 259 [.p (.agg [c,g,d,e,f]),.p (S p)] i j l:=by refine X.of Y amt (by simp[aep]) λs=>?_;have B:=ig h;simp(disch:=omega)[aep,cN,D.cells,dw,uP];intro E;refine Xm h y (λr m=>(o r m).length) (pr:=named p) (λr m b F t n=>?_) λb t=>?_;obtain⟨V,C,rfl,⟨G,rfl,_⟩,u⟩:=Row.cons aj;exact U7 (by have:=u.length;exact ar) y Y n;refine .low s y (λk n=>?_) (q _ y);exact aj
def Y2{c:List P}{d:List (List P)}(e:c=[S p])(f:∃a∈d,a.head? =c.head?):0<=iW (named p) d:=by obtain⟨a,g,b⟩:=f;subst e;cases a with|nil=>simp at b|cons V C=>simp at b;subst b;refine adl g ?_;simp[named,mF]
structure OH(tr:List P)(rp kp:P)(vs:List (List P))(n i:Nat)(O:ah)(nx g:Nat)(l:List (List P))(s:St):Prop where
 h1:s.T 1=.p rp
 h3:s.T 3=.ptr nx g 5 0 0
 o3:s.O nx=J (.row 5 g [tr.map .p])
 N:jq s.O (nx+1) 3 l (s.T 8)
 h9:∃b,s.T 9=.p (B b)
 C7:s.T 13=.p kp
 Et:s.T 14=.p (I n)
 I9:s.T 15=.p (I i)
 mem:∀r∈l,r∈vs
 gp:nx<s.nx
 fr:Fr s.O s.nx
 low:∀k,k<nx->s.O k=O k
theorem Xk{kp:P}{O:ah}{nx g:Nat}{vb gv:Nat}{vk vn:Int}{vz:ByteArray}(s:OH tr rp kp aP n i O nx g u d)(j:d.T 12=.ptr vb gv 3 0 0)(e:d.O vb=J (.row 3 gv [[.p (I vk),.p (I vn),.p (S vz)]]))(H:nx<vb)(K:∀id g,d.T 8=.sl id g 0 u.length 3 Z->id≠vb)(L:[I vk,I vn,S vz]∈aP)(M:u.length<100)(l:∀o,OH tr rp kp aP n i O nx g (u++[[I vk,I vn,S vz]]) o->bn .normal o):bx (X af) ZK d bn:=by
 obtain⟨N,Q,R,t,⟨v,f⟩,V,W,ab,ac,ad,m,ag⟩:=s;have al:=m.lt e;have w:cF [.p (I vk),.p (I vn),.p (S vz)]=.p (.agg [I vk,I vn,S vz]):=Y;intro x;refine⟨[],?_⟩;simp(disch:=omega)[-lB,-cV,-bW,j,e,f,ba,w,fP,D.cells,dw,dp,dv];refine BS.l ?_;refine uI (ys:=[[I vk,I vn,S vz]]) (by simpa using t) aj dK dK aw λid b y q=>?_;have an:id<d.nx+12:=by rcases q with⟨h,_⟩|⟨z,h,c⟩;exact U;have:=m.lt c;omega
 have ao:vb≠id:=by
  rintro rfl;rcases q with⟨h,_⟩|⟨z,h,c⟩
  grind;exact aj
 have r:∀(a:Nat->D),(∀k,k<25->k≠8->k≠9->a k=d.T k)->a 8=.sl id b 0 (u++[[I vk,I vn,S vz]]).length 3 Z->(∃p,a 9=.p (B p))->OH tr rp kp aP n i O nx g (u++[[I vk,I vn,S vz]]) {T:=a,O:=am d.O id (J (.row 3 b ((u++[[I vk,I vn,S vz]]).map (·.map .p)))),nx:=d.nx+12,bs:=d.nx,gm:=x}:=λa e1 c A=>⟨U,U,aj,.inr ⟨id,b,y,c,Y⟩,A,U,U,U,ak,aw,bK,aj⟩
 have C:am d.O id (J (.row 3 b ((u++[[I vk,I vn,S vz]]).map (·.map D.p)))) vb=J (.row 3 gv [[.p (I vk),.p (I vn),.p (S vz)]]):=U;cases v with|false=>simp(disch:=omega)[-az,-lB,-cV,-bW,↓cQ,↓B9,f,-cG,-fj];refine l _ (r _ (λk E F G=>?_) rfl Y);exact cj|true=>simp(disch:=omega)[-az,-lB,-cV,-bW,↓cQ,↓B9,f,j,e,C,ba,binOp,aC,-cG,-fj];refine l _ (r _ (λk E F G=>?_) ?_ ?_);exact cj;rfl;simp
section
variable [Gh]
theorem Vn{f:ByteArray}{h j c e kp:P}{m a fo ix:List (List P)}{q:ah}{nx g:Nat}(hI:wI f h j m a fo ix)(al:c.cells=[c])(an:e.cells=[e])(ao:Sl 3 rp aP)(a6:aP.length=m.length)(ax:∀ay∈aP,∃k n aB,ay=[I k,I n,S aB])(aE:Sl 1 kp a)(r:OH [S f,h,j,c,e] rp kp aP a.length 0 q nx g [] d)(hQ:∀o u,u.length=a.length->OH [S f,h,j,c,e] rp kp aP a.length a.length q nx g u o->bn (.exit 0) o):bx (X af) (.loop Np) d bn:=by
 refine⟨λk d=>∃i u,k=a.length-i/\i<=a.length/\fZ u=i/\OH [S f,h,j,c,e] rp kp aP a.length i q nx g u d,⟨_,0,[],rfl,y,rfl,r⟩,?_⟩;clear r;rintro k d ⟨i,u,rfl,hi,R,r⟩;obtain⟨s,G,H,K,⟨T,U⟩,L,t,v,W,a7,w,ab⟩:=_root_.id r;have aI:=hI;obtain⟨i1,i2,i3,i4,i5,i6,i7,i8,i9,a8,a9,aO⟩:=aI;by_cases M:i<a.length;have ac:a[i]? =J a[i]:=bh M;have ad:=bJ M;obtain⟨V,C,N,⟨x,rfl,_⟩,h5⟩:=Row.cons (i9 _ ad);obtain rfl:=Row.nil h5;rw[N]at ac;have aR:=Y2 N (aO _ ad);have aS:=pP (pr:=named x) (es:=m);have z:(iW (named x) m).toNat<aP.length:=y;obtain⟨A,B,E,F⟩:=ax _ (bJ z);have ag:aP[(iW (named x) m).toNat]? =J [I A,I B,S E]:=by rw[bh z,F]
 have a0:[I A,I B,S E]∈aP:=F▸bJ z;generalize a1:iW (named x) m=cx at aR aS z ag F;have a2:=lW (i:=i) y;simp(disch:=omega)[-az,Np,s,G,H,L,t,v,M,dm aE,ac,N,ft,ba,binOp,aC];intro gm;have a3:cF [.p (S f),.p h,.p j,.p c,.p e]=.p (.agg [S f,h,j,c,e]):=jL (l:=[S f,h,j,c,e]);rw[a3];refine Xp i2 y i8 rfl (ig i3) al an λbb bd=>?_;rw[a1];simp(disch:=omega)[aar,s,dm ao,ag,F,ft,D.cells,dw,zh,uP,bI];refine⟨y,Xk (i:=i) (n:=a.length) (g:=g) (tr:=[S f,h,j,c,e]) (rp:=rp) (kp:=kp) (vb:=d.nx+1+3+6) (gv:=gm (d.nx+1+3+6)) (vk:=A) (vn:=B) (vz:=E) (O:=q) (nx:=nx) ⟨by simp[s],by simp[G],?_,?_,⟨T,by simp[U]⟩,by simp[L],by simp[t],by simp[v],W,aw,(w.mono aw).am aw,λk hk=>?_⟩ Y Y y (λid g' p=>?_) a0 y λo b=>?_⟩;show am d.O _ _ _=_;rw[ai y];exact H;show jq (am d.O _ _) _ _ _ _;simpa using K.aL w λk hk=>ai y;show am d.O _ _ _=_;rw[ai y];exact ab k hk;simp at p;rcases K with⟨_,Q⟩|⟨be,bk,_,Q,ho⟩
 rw[Q]at p;cases p;rw[Q]at p;cases p;have:=w.lt ho;omega;have a4:=b.I9;obtain⟨b',w9⟩:=b.h9;simp[aaO,a4,binOp,aC,a2];intro bl;refine⟨_,y,i+1,rfl,y,u++[[I A,I B,S E]],by simp[R],?_⟩;exact⟨by simp[b.h1],by simp[b.h3],b.o3,by simpa using b.N,⟨b',by simp[w9]⟩,by simp[b.C7],by simp[b.Et],Y,b.mem,by have:=b.gp;show nx<o.nx+2;omega,b.fr.mono aw,b.low⟩;have a5:i=a.length:=y;subst a5;simp[-az,Np,t,v,binOp,aC];intro gm;exact hQ _ u R ⟨by simp[s],by simp[G],H,by simpa using K,⟨T,by simp[U]⟩,by simp[L],by simp[t],by simp[v],W,aw,w.mono aw,ab⟩
end
def TW:d6:=⟨7,[],z 1 [q 2 (iU 0 5 0)] (rF 3 [G 4 1,q 5 (wW 189 [.t 2]),q 6 (dV 188 4 5)])⟩
def Z0:cW af Tryz.f135=J TW:=h
def Rk:d6:=⟨9,[],rF 5 [G 4 0,G 5 0,q 6 (fQ 5),G 7 1,q 8 (sV 258 4 6 7)]⟩
def abs:cW af Tryz.f188=J Rk:=h
def abF:List aA:=[G 10 15,q 16 (xE 10 0),q 17 (xE 10 1),G 6 16,G 7 17]
def aay:List aA:=[G 18 23,q 24 (xE 18 0),q 25 (xE 18 1),G 8 24,G 9 25]
def abA:List aA:=[G 5 28]
def ZQ:av:=z 4 (G 26 6::G 27 8::q 28 (dV 191 26 27)::abA) (.ret)
def abH:av:=
 z 10 (cA 19 5 2::G 20 1::oF 21 2 2::oL 22 1 21::q 23 (sV 190 19 20 22)::aay)
  ZQ
def acO:d6:=⟨29,[.t 5],z 1 [fR 5 0] (z 10 (cA 11 5 2::G 12 0::oF 13 2 2::oL 14 1 13::q 15 (sV 190 11 12 14)::abF)
 abH)⟩
def alQ:cW af Tryz.f189=J acO:=h
def NS:List aA:=[oT 33 21 (di .lss 32 0),q 34 (jw 21 33)]
def Mu:av:=cX 34 2
def aa6:av:=.seq (.block 3 (.dg 18 aa [aZ 39 (xM 0),aZ 40 (xM 9),aZ 41 (di .sub 40 1),G 37 0,G 38 9,G 42 0,G 43 9,q 44 (di .sub 43 1),q 45 (xI 1 42 44),oL 46 1 45,G 47 0,G 48 9,q 49 (xI 1 47 48),oL 50 1 49,q 51 (xI 1 37 38),oN (xS 1 51 46),q 52 (xI 1 39 41),oN (xS 1 52 50)])) (rF 3 [G 35 9,q 36 (di .sub 35 1),G 9 36])
def MD:av:=
 .seq (z 17 (G 18 9::G 19 1::q 20 (xB .gtr 18 19)::G 21 20::oT 22 21 (xM 3)::oT 23 21 (xM 0)::oT 24 21 (xM 9)::oT 25 21 (xI 1 23 24)::oT 26 21 (xL 1 25)::oT 27 21 (xM 0)::oT 28 21 (xM 9)::oT 29 21 (di .sub 28 1)::oT 30 21 (xI 1 27 29)::oT 31 21 (xL 1 30)::oT 32 21 (.iI (.t 22) [.t 26,.t 31])::NS)
  Mu)
  aa6
def abh:av:=rF 3 [G 15 8,q 16 (di .add 15 1),G 8 16]
def M4:av:=
 .seq (z 3 [G 12 8,G 13 2,q 14 (xB .lss 12 13)] (cX 14 0)) (.seq (.block 1 (z 2 [G 17 8,G 9 17] (.block 2 (.loop MD))))
  abh)
def R1:d6:=⟨53,[],z 3 [G 10 1,q 11 (di .add 10 1),G 8 11] (.block 0 (.loop M4))⟩
def Zx:cW af Tryz.f307=J R1:=h
def aa9:av:=z 2 [G 19 8,G 7 19] (rF 4 [G 20 8,G 21 6,q 22 (xB .add 20 21),G 8 22])
def Mx:av:=
 .seq (z 3 [G 11 8,G 12 1,q 13 (xB .leq 11 12)] (cX 13 0)) (.block 1 (z 5 [G 14 0,G 15 7,G 16 8,G 17 2,q 18 (.call 307 [.t 14,.t 15,.t 16,.t 17])]
  aa9))
def akV:av:=z 2 [G 44 8,G 7 44] (rF 5 [G 45 8,G 46 6,q 47 (.lS .mul 0 (.c (I 2)) (.t 46)),q 48 (xB .add 45 47),G 8 48])
def ajJ:av:=
 .seq (z 3 [G 33 8,G 34 1,q 35 (xB .leq 33 34)] (cX 35 4)) (.block 5 (z 8 [G 36 0,G 37 7,G 38 7,G 39 6,q 40 (xB .add 38 39),G 41 8,G 42 2,q 43 (.call 308 [.t 36,.t 37,.t 40,.t 41,.t 42])]
  akV))
def alg:av:=rF 3 [G 61 6,q 62 (di .mul 61 2),G 6 62]
def ajY:av:=
 .seq (z 4 [G 49 7,G 50 6,q 51 (xB .add 49 50),G 9 51] (z 3 [G 52 9,G 53 1,q 54 (xB .lss 52 53)] (.cond (.t 54) (rF 6 [G 55 0,G 56 7,G 57 9,G 58 1,G 59 2,q 60 (.call 308 [.t 55,.t 56,.t 57,.t 58,.t 59])]) (.skip))))
  alg
def UO:av:=
 .seq (z 3 [G 28 6,G 29 1,q 30 (xB .lss 28 29)] (cX 30 2)) (.block 3 (z 4 [G 31 6,q 32 (.lS .mul 0 (.c (I 2)) (.t 31)),fR 7 0,G 8 32] (.seq (.block 4 (.loop ajJ))
  ajY)))
def Tm:av:=.block 2 (.loop UO)
def Rr:av:=
 z 5 [G 23 0,G 24 7,G 25 1,G 26 2,q 27 (.call 307 [.t 23,.t 24,.t 25,.t 26])]
  Tm
def Tl:d6:=⟨63,[],z 1 [fR 6 20] (z 3 [G 10 6,fR 7 0,G 8 10] (.seq (.block 0 (.loop Mx))
 Rr))⟩
def Z1:cW af Tryz.f258=J Tl:=h
section
variable [Gh]
theorem UR{o:ByteArray}{q f h i:P}{s t G H:List (List P)}{a:ah}{b:Nat}{v:D->ah->Nat->Prop}(c:wI o q f s t G H)(w:h.cells=[h])(x:i.cells=[i])(K:Sl 3 rp aP)(L:aP.length=s.length)(M:∀N∈aP,∃k n O,N=[I k,I n,S O])(z:∀A C u p,b<=A->Sl 3 C u->fZ u=t.length->(∀r∈u,r∈aP)->v (.eQ [.p C,.p (B p)]) a A):X af 190 [.p (.agg [S o,q,f,h,i]),.p rp,.p f] a b v:=by
 have i2:=ig c.pc;have Q:=ig c.pk;refine X.rW ?_;refine X.of Y ams (by simp[acE]) λj=>?_;simp(disch:=omega)[acE,cN,D.cells,dw,Q,w,x,dO c.pk];intro R ad;refine Vn (g:=R b) (nx:=b) c w x K L M c.pk ⟨Y,Y,Y,aj,Y,Y,Y,Y,ak,aw,bK,λk e=>by show am a _ _ _=_;rw[ai y]⟩ λd u E T=>?_;obtain⟨h1,h3,o3,V,⟨F,W⟩,ag,al,an,ab,ao,fr,ac⟩:=T;simp[abC,W];rcases V with⟨rfl,l⟩|⟨id,m,ax,l,hO⟩
 rw[l];refine .low j y ac ⟨_,_,aj,z _ _ [] F y aj E U⟩;rw[l];have ay:=fr.lt hO;have e2:am (am a id (J (.row 3 m (u.map (·.map D.p))))) id ae=a:=by rw[oS];funext k;by_cases e:k=id;subst e;rw[bi,j k y];exact U
 refine .aX (O':=am a id (J (.row 3 m (u.map (·.map D.p))))) (λk=>?_) bK y ⟨_,_,.step id m 3 u Y aj,?_⟩;by_cases e:k=id;exact U;rw[ai e];by_cases aB:k<b;exact U;exact .inl (j k y);rw[e2];simp only[gx,kn,bf,bV,kG,aT,gK];rw[cp y];exact z _ _ u F y aj E ab
def pO(a:Nat)(b:P):Prop:=∃aP,Sl 3 b aP/\fZ aP=a/\∀c∈aP,Row Ty.ma c
def acn{a:List P}(c:Row Ty.ma a):∃k n b,a=[I k,I n,S b]:=by obtain⟨g,h,rfl,⟨k,rfl,_⟩,d⟩:=Row.cons c;obtain⟨i,j,rfl,⟨n,rfl,_⟩,e⟩:=Row.cons d;obtain⟨l,m,rfl,⟨b,rfl,_⟩,f⟩:=Row.cons e;obtain rfl:=Row.nil f;simp
theorem agt{a:List (List P)}(g:Sl 3 f u)(h:Sl 3 Q a)(t:u.length<=100)(v:a.length<=100)(i:∀r∈u,Row Ty.ma r)(j:∀r∈a,Row Ty.ma r){c:ah}{d:Nat}{e:D->ah->Nat->Prop}(k:∀b n,d<=b->e (.p (I n)) c b):X af 191 [.p f,.p Q] c d e:=(s63 c d e [f,Q] ⟨⟨u,g,y,y,i,aj⟩,⟨a,h,y,y,j,aj⟩,aj⟩ (λag l=>by cases l)).1 rfl λb w x z m o _ q=>by obtain⟨rfl,rfl⟩:=mY q;obtain⟨V,A,rfl,⟨p,rfl,B⟩,s⟩:=Vs.cons o;obtain rfl:=Vs.nil s;exact k b p m
theorem acf{c:ByteArray}{d e a b:P}{g r s t:List (List P)}{h:ah}{i k:Nat}{l:D->ah->Nat->Prop}(j:wI c d e g r s t)(m:a.cells=[a])(o:b.cells=[b])(u:pO g.length f)(v:pO g.length Q)(K:aS<i)(p:h aS=J (.row 5 k [[S c,d,e,a,b].map .p]))(w:∀q n,i<=q->l (.p (I n)) h q):X af 189 [.p f,.p Q,.ptr aS k 5 0 0] h i l:=by obtain⟨L,x,z,M⟩:=u;obtain⟨N,A,B,O⟩:=v;refine X.of Y alQ (by simp[acO]) λR=>?_;have C:cF [.p (S c),.p d,.p e,.p a,.p b]=.p (.agg [S c,d,e,a,b]):=aj;simp(disch:=omega)[acO,cN,p];intro T;refine UR j m o x z (λE F=>acn U) λV W l1 bA ab G ac ad=>?_;simp(disch:=omega)[abF];simp(disch:=omega)[abH,p,ba,C];intro ag;refine UR j m o A B (λE F=>acn U) λal q2 l2 aR an H ao ax=>?_;simp(disch:=omega)[aay];simp(disch:=omega)[ZQ];intro ay;have:=j.lk;refine agt G H y y U U λaB n aE=>?_;simp[abA];exact .d8 bK y (w _ n y)
def fC(a:List P):List (List D):=a.map λf=>[.p f]
@[simp]def GJ:(fC E).length=E.length:=by simp[fC]
def yE(a:i<E.length):(fC E)[i]? =J [.p E[i]]:=by simp[fC]
def X5:(fC E).set i [.p f]=fC (E.set i f):=by simp[fC]
structure FM(tr:List P)(m id g tb tg:Nat)(n:Nat)(a b:Int)(O:ah)(nx:Nat)(s:St):Prop where
 h0:s.T 0=.sl id g 0 n 1 Z
 h1:s.T 1=.p (I a)
 h2:s.T 2=.p (I b)
 h3:s.T 3=.fn (.func 189) [] [.ptr tb tg 5 0 0]
 hO:∃R:List P,s.O=am O id (J (.row 1 g (fC R)))/\R.length=n/\∀x∈R,pO m x
 ob:O tb=J (.row 5 tg [tr.map .p])
 qK:tb≠id
 WJ:tb<nx
 hid:id<nx
 gp:nx<=s.nx
def FM.next{c id e:Nat}{f g:Int}{h:ah}{i:Nat}(a:FM tr c id e aS bM n f g h i d)(b:∀k,k<=3->o.T k=d.T k)(hO:o.O=d.O)(j:d.nx<=o.nx):FM tr c id e aS bM n f g h i o:=⟨(b 0 y).trans a.h0,(b 1 y).trans a.h1,(b 2 y).trans a.h2,(b 3 y).trans a.h3,by rw[hO];exact a.hO,a.ob,a.qK,a.WJ,a.hid,gJ a.gp j⟩
section
variable {h:ByteArray}{l q b e:P}{a A B F:List (List P)}(t:wI h l q a A B F)(v:b.cells=[b])(z:e.cells=[e])
include t v z
theorem ZW{id i:Nat}{j:ah}{k c:Nat}(r:FM [S h,l,q,b,e] a.length id i aS bM n la lb j k d)(s:d.T 9=.p (I c))(O:c<n)(P:1<=c)(Q:n<1000)(t:∀o,FM [S h,l,q,b,e] a.length id i aS bM n la lb j k o->o.T 9=.p (I ((c-1:Nat):Int))->o.T 8=d.T 8->bn .normal o):bx (X af) aa6 d bn:=by
 obtain⟨m,u,v,w,⟨E,x,z,p⟩,A,B,C,F,R⟩:=r;have G:cI.wrap ((c:Int)-1)=((c-1:Nat):Int):=by rw[iK y y];omega
 have H:(fC E)[c-1]? =J [.p E[c-1]]:=yE y;have K:(fC E)[c]? =J [.p E[c]]:=yE y;have L:(E[c-1]).cells=[E[c-1]]:=by obtain⟨aP,g,_⟩:=p _ (bJ (by omega:c-1<E.length));exact ig g
 have M:(E[c]).cells=[E[c]]:=by obtain⟨aP,g,_⟩:=p _ (bJ (by omega:c<E.length));exact ig g
 have N:(fC (E.set c E[c-1]))[c-1]? =J [.p E[c-1]]:=by rw[yE dK];simp(disch:=omega)
 show bx _ (.seq (.block 3 (.dg 18 aa _)) _) _ _;rw[bF,gQ];intro T;refine⟨[],?_⟩;simp(disch:=omega)[s,m,x,binOp,aC,G,H,K,ba,D.cells,L,M,bI,X5,N];refine⟨y,y,y,λU=>?_⟩;refine t _ ⟨by simp[m],by simp[u],by simp[v],by simp[w],⟨_,rfl,by simp[z],λf V=>?_⟩,A,B,C,F,aw⟩ Y Y;grind
theorem agE{id m:Nat}{p:ah}{r j:Nat}(c:FM [S h,l,q,b,e] a.length id m aS bM n la lb p r d)(f:d.T 9=.p (I j))(g:d.T 8=.p (I i))(s:j<n)(V:0<=la)(G:n<1000)(x:∀o,FM [S h,l,q,b,e] a.length id m aS bM n la lb p r o->o.T 8=.p (I i)->bn (.exit 2) o):bx (X af) (.loop MD) d bn:=by
 refine⟨λj d=>j<n/\FM [S h,l,q,b,e] a.length id m aS bM n la lb p r d/\d.T 9=.p (I j)/\d.T 8=.p (I i),⟨j,s,c,f,g⟩,?_⟩;clear c f g s j;rintro j d ⟨s,c,f,g⟩;have H:=c;obtain⟨K,A,W,L,⟨E,u,Y,B⟩,M,N,ab,ac,ad⟩:=H;by_cases C:la<j;have w:cI.wrap ((j:Int)-1)=((j-1:Nat):Int):=by rw[iK y y];omega
 have O:(fC E)[j-1]? =J [.p E[j-1]]:=yE y;have P:(fC E)[j]? =J [.p E[j]]:=yE y;simp(disch:=omega)[MD,f,K,A,L,u,binOp,aC,w,O,P,ba,C];intro Q;refine⟨y,y,?_⟩;refine acf t v z (B _ (bJ _)) (B _ (bJ _)) y ((ai N).trans M) λag R al=>?_;by_cases D:R<0;simp(disch:=omega)[-az,-cV,-bW,↓cQ,↓fi,NS,binOp,aC,D];simp[-az,Mu];refine ZW t v z (c.next (λk F=>?_) u.symm aw) (by simp[f]) y y G λo w T U=>⟨j-1,y,y,w,T,U.trans (by simp[g])⟩;exact j5;simp(disch:=omega)[-az,-cV,-bW,↓cQ,↓fi,NS,binOp,aC,D];simp[-az,Mu];refine x _ (c.next (λk F=>?_) u.symm aw) (by simp[g]);exact j5;simp(disch:=omega)[-az,-cV,-bW,↓cQ,↓fi,MD,f,A,binOp,aC,C];intro Q;simp(disch:=omega)[-az,-cV,-bW,↓cQ,↓fi,NS];simp[-az,Mu];refine x _ (c.next (λk F=>?_) rfl aw) (by simp[g]);exact j5
theorem afI{id m:Nat}{la lb:Nat}{c:ah}{s:Nat}{A:D->ah->Nat->Prop}(u:c id=J (.row 1 m (fC E)))(G:∀f∈E,pO a.length f)(p:c aS=J (.row 5 bM [[S h,l,q,b,e].map .p]))(H:E.length=n)(ac:lb<=E.length)(K:E.length<1000)(ad:la<1000)(L:∀B g,s<=B->fZ g=E.length->(∀f∈g,pO a.length f)->A (.eQ []) (am c id (J (.row 1 m (fC g)))) B):X af 307 [.sl id m 0 n 1 Z,.p (I la),.p (I lb),.fn (.func 189) [] [.ptr aS bM 5 0 0]] c s A:=by
 subst H;refine X.of Tryz.func307 Zx (by simp[R1]) λw=>?_;have M:=w.lt p;have N:=w.lt u;have O:aS≠id:=by rintro rfl;rw[u]at p;cases p
 have P:=lW (i:=la) y;simp(disch:=omega)[R1,cN,binOp,aC,P];intro gm;refine⟨λk d=>∃i:Nat,k=lb-i/\FM [S h,l,q,b,e] a.length id m aS bM E.length la lb c s d/\d.T 8=.p (I i),⟨_,la+1,rfl,⟨Y,Y,Y,Y,⟨E,(yd u).symm,rfl,G⟩,p,O,M,N,aw⟩,Y⟩,?_⟩;rintro k d ⟨i,rfl,r,x⟩;have C:=r.h2;by_cases F:i<lb;have Q:=lW (i:=i) y;simp(disch:=omega)[M4,x,C,binOp,aC,F];intro ag;refine agE t v z (j:=i) (i:=i) (r.next (λk R=>?_) rfl aw) Y (by simp[x]) y y K λo T U=>?_;exact j5;simp[abh,U,binOp,aC,Q];intro al;refine⟨_,y,i+1,rfl,T.next (λk R=>?_) rfl aw,Y⟩;exact j5;simp(disch:=omega)[-az,M4,x,C,binOp,aC,F];obtain⟨g,V,W,ab⟩:=r.hO;have:=r.gp;rw[V];refine .d8 ((w.mono y).am y) y (L _ g y W ab)
structure XL(m id g tb tg n c:Nat)(O:ah)(nx:Nat)(s:St):Prop where
 h0:s.T 0=.sl id g 0 n 1 Z
 h1:s.T 1=.p (I n)
 h2:s.T 2=.fn (.func 189) [] [.ptr tb tg 5 0 0]
 h6:s.T 6=.p (I 20)
 h7:s.T 7=.p (I c)
 hO:∃R:List P,s.O=am O id (J (.row 1 g (fC R)))/\R.length=n/\∀x∈R,pO m x
 gp:nx<=s.nx
omit t v z in
theorem XL.next{c id e f:Nat}{g:ah}{h:Nat}(a:XL c id e aS bM n f g h d)(b:∀k,k=0\/k=1\/k=2\/k=6\/k=7->o.T k=d.T k)(hO:o.O=d.O)(i:d.nx<=o.nx):XL c id e aS bM n f g h o:=⟨(b 0 y).trans a.h0,(b 1 y).trans a.h1,(b 2 y).trans a.h2,(b 6 y).trans a.h6,(b 7 y).trans a.h7,by rw[hO];exact a.hO,gJ a.gp i⟩
theorem acP{id g:Nat}{i:ah}{n:Nat}{H:D->ah->Nat->Prop}(u:i id=J (.row 1 g (fC E)))(Q:∀f∈E,pO a.length f)(p:i aS=J (.row 5 bM [[S h,l,q,b,e].map .p]))(hn:E.length<=20)(R:∀K j,n<=K->fZ j=E.length->(∀f∈j,pO a.length f)->H (.eQ []) (am i id (J (.row 1 g (fC j)))) K):X af 258 [.sl id g 0 E.length 1 Z,.p (I E.length),.fn (.func 189) [] [.ptr aS bM 5 0 0]] i n H:=by
 refine X.of Tryz.func258 Z1 (by simp[Tl]) λw=>?_;have an:=w.lt p;have ao:=w.lt u;have T:aS≠id:=by rintro rfl;rw[u]at p;cases p
 simp(disch:=omega)[Tl,cN];intro gm;refine⟨λk d=>∃c:Nat,k=20-c/\(c=0\/c=20)/\XL a.length id g aS bM E.length c i n d/\d.T 8=.p (I ((c:Int)+20)),⟨_,0,rfl,.inl rfl,⟨Y,Y,Y,Y,Y,⟨E,(yd u).symm,rfl,Q⟩,aw⟩,Y⟩,?_⟩;rintro k d ⟨c,rfl,hc,U,x⟩;have V:=U;obtain⟨A,m,B,C,L,⟨j,r,M,N⟩,ax⟩:=V;have O:d.O aS=J (.row 5 bM [[S h,l,q,b,e].map .p]):=by rw[r,ai T];exact p
 have P:d.O id=J (.row 1 g (fC j)):=by rw[r,bi]
 by_cases ay:c+20<=E.length;obtain rfl:c=0:=y;have F:(20:Int)<=E.length:=y;simp(disch:=omega)[Mx,x,m,A,L,B,binOp,aC,F];intro W;refine afI t v z (la:=0) (lb:=20) P N O M y y y λab s ac ad G=>?_;have ag:d.T 8=.p (I 20):=by rw[x];rfl
 simp(disch:=omega)[-az,aa9,ag,C,binOp,aC];intro aB;refine⟨0,y,20,rfl,.inr rfl,⟨by simp[A],by simp[m],by simp[B],by simp[C],Y,⟨s,by simp[r,oS],y,G⟩,aw⟩,by simp;rfl⟩;have F:¬(c:Int)+20<=E.length:=y;simp(disch:=omega)[-az,Mx,x,m,binOp,aC,F];intro W;simp(disch:=omega)[-az,Rr,A,m,B,L];intro aE;refine afI t v z P N O M y y y λab s ac ad G=>?_;simp(disch:=omega)[-az,Tm];refine⟨λ_ o=>o.T 6=.p (I 20)/\o.T 1=.p (I E.length)/\o.O=am i id (J (.row 1 g (fC s)))/\n<=o.nx,⟨0,by simp[C],by simp[m],by simp[r,oS],aw⟩,?_⟩;rintro _ o ⟨w6,w1,wO,wn⟩;have al:¬(20:Int)<E.length:=y;simp(disch:=omega)[-az,UO,w6,w1,binOp,aC,al];rw[wO];exact .d8 ((w.mono y).am y) y (R _ s y y G)
theorem TO{id d:Nat}{c:ah}{i:Nat}{j:D->ah->Nat->Prop}(k:c id=J (.row 1 d (fC E)))(o:∀f∈E,pO a.length f)(p:c aS=J (.row 5 bM [[S h,l,q,b,e].map .p]))(r:E.length<=20)(s:∀m g,i<=m->fZ g=E.length->(∀f∈g,pO a.length f)->j (.eQ []) (am c id (J (.row 1 d (fC g)))) m):X af 188 [.sl id d 0 E.length 1 Z,.fn (.func 189) [] [.ptr aS bM 5 0 0]] c i j:=by refine X.of Tryz.func188 abs (by simp[Rk]) λn=>?_;have A:=n.lt k;simp(disch:=omega)[Rk,cN];refine acP t v z k o p r λB u C w x=>?_;exact .d8 ((n.mono y).am y) y (s _ u y w x)
theorem Yj{id d:Nat}{g:ah}{c:Nat}{n:D->ah->Nat->Prop}(o:g id=J (.row 1 d (fC E)))(s:∀f∈E,pO a.length f)(u:E.length<=20)(w:∀p i,c<=p->fZ i=E.length->(∀f∈i,pO a.length f)->n (.eQ []) (am g id (J (.row 1 d (fC i)))) p):X af 135 [.p (.agg [S h,l,q,b,e]),.sl id d 0 E.length 1 Z] g c n:=by refine X.of Tryz.func135 Z0 (by simp[TW]) λj=>?_;have C:=j.lt o;have F:=ig t.pc;have G:=ig t.pk;simp(disch:=omega)[TW,cN,D.cells,dw];intro H;refine TO t v z (by rw[ai y];exact o) s Y u λI x K A B=>?_;refine .aX (λk=>?_) ((j.mono y).am y) y (w _ x y A B);by_cases r:k=c;refine .inl ?_;rw[r,ai y,j c (bV _)];refine .inr ?_;by_cases m:k=id;rw[m];simp;rw[ai m,ai m,ai r]
end
end
section
variable [Gh]
def I4{a b:CT}{c d e f g h i j k l:Int}{m:Int}(n:Row [.nm 3,.int .i64 c d,.int .i64 e f,.int .i64 g h,.int .i64 i j,.int .i64 k l,.str m,a,b] r):aat r:=by obtain⟨H,I,rfl,⟨o,rfl,K⟩,p⟩:=Row.cons n;obtain⟨L,M,rfl,⟨w,rfl,_⟩,q⟩:=Row.cons p;obtain⟨N,O,rfl,⟨id,rfl,_⟩,s⟩:=Row.cons q;obtain⟨P,Q,rfl,⟨t,rfl,_⟩,u⟩:=Row.cons s;obtain⟨R,S,rfl,⟨v,rfl,_⟩,x⟩:=Row.cons u;obtain⟨T,U,rfl,⟨y,rfl,_⟩,z⟩:=Row.cons x;obtain⟨V,W,rfl,⟨A,rfl,_⟩,B⟩:=Row.cons z;obtain⟨aP,X,rfl,C,D⟩:=Row.cons B;obtain⟨E,Y,rfl,F,G⟩:=Row.cons D;obtain rfl:=Row.nil G;exact⟨o,A,w,id,t,v,y,aP,E,rfl,eU C,eU F⟩
theorem aco:bz af S79:=by
 refine .n rfl λe z A D g W h=>?_;obtain⟨V,E,rfl,a,i⟩:=Vs.cons g;obtain⟨F,G,rfl,⟨H,rfl,j,_⟩,k⟩:=Vs.cons i;obtain⟨I,L,rfl,⟨M,rfl,_⟩,l⟩:=Vs.cons k;obtain⟨N,O,rfl,⟨P,rfl,_⟩,m⟩:=Vs.cons l;obtain⟨Q,R,rfl,⟨id,rfl,_⟩,n⟩:=Vs.cons m;obtain rfl:=Vs.nil n;obtain⟨K,f,S,rfl,o,q,T,_,U,X,c⟩:=nO y rfl a;obtain⟨op,w1,rfl,⟨ab,s,_,ac,d,_⟩,t⟩:=Row.cons j;obtain⟨pp,w2,rfl,u,v⟩:=Row.cons t;obtain rfl:=Row.nil v;refine ab3 (nW rfl q ar c) (lR ar) y (eU o) s y (λr a=>I4 (d r a)) (eU u) (λr a=>?_) λw r p x b=>?_;obtain⟨ad,V,bA,aR,aB,bT,ag,bH,bu,x2,rfl,_⟩:=kz (c r a);simp;refine h w [.agg r,B p] _ e x ⟨⟨r,rfl,?_,ar⟩,aj,ar⟩ (by intro C hq;grind) akU;rcases b with b|rfl
 exact CT.ww (by rfl) (d r b);refine⟨⟨⟨#[]⟩,rfl,eB⟩,⟨0,rfl,eB,eB⟩,⟨0,rfl,eB,eB⟩,⟨0,rfl,eB,eB⟩,⟨0,rfl,eB,eB⟩,⟨0,rfl,eB,eB⟩,⟨⟨#[]⟩,rfl,eB⟩,⟨[],aj,eB,eB,Y,ar⟩,⟨[],aj,eB,eB,Y,ar⟩,ar⟩
end
def s72[Gh]:bz af S72:=X8
def S73:SP:=⟨16,Z,[.agg Ty.oi],[.aM (.z 0 25)],0,[],[],[]⟩
def s73[Gh]:bz af S73:=iG (s72.c (s69.c (s39.c (s38.c (s27.c .n))))) [] [(24,.lp ⟨[],bY [29] ((30,.int .i64)::bY [1] []),[(.c 1 1,.s 30,5),(.c 1 0,.s 30,2),(.s 29,.s 30,5),(.z,.s 30,0)],.z,.s 30,5,5,[(.s 30,1)],Z⟩ []),(49,.lp ⟨[],bY [42,41] ((43,.int .i64)::bY [1] []),[(.c 1 1,.s 43,5),(.c 1 0,.s 43,2),(.s 41,.s 43,5),(.s 42,.s 43,5),(.z,.s 43,0)],.z,.s 43,5,5,[(.s 43,1)],Z⟩ []),(63,.lp ⟨[],bY [49,7,48] ((50,.int .i64)::bY [43,42,41,1] []),[(.c 1 1,.s 50,5),(.c 1 0,.s 50,2),(.c 7 7,.s 50,7),(.s 50,.c 7 7,0),(.s 41,.s 50,5),(.s 42,.s 50,5),(.s 48,.s 50,7),(.s 50,.s 48,0),(.s 49,.s 50,7),(.s 50,.s 49,0),(.z,.s 50,0)],.s 49,.s 50,0,7,[(.s 50,1)],Z⟩ []),(89,.lp ⟨[],bY [65,64] ((66,.int .i64)::bY [1] []),[(.c 1 1,.s 66,5),(.c 1 0,.s 66,2),(.s 64,.s 66,5),(.s 65,.s 66,5),(.z,.s 66,0)],.z,.s 66,5,5,[(.s 66,1)],Z⟩ []),(118,.lp ⟨[],bY [85,84] [(86,.int .i64),(15,.ct .bool)],[(.s 84,.s 86,1000),(.s 86,.s 84,0),(.s 85,.s 86,1000),(.s 86,.s 85,0),(.z,.s 86,0)],.s 85,.s 86,0,1000,[(.s 86,1)],Z⟩ []),(141,.gv [2]),(137,.gv [2]),(107,.gv [2]),(81,.gv [2]),(42,.gv [2]),(10,.gv [2])] h
def S74:SP:=⟨54,Z,[.agg Ty.oi,.agg Ty.UV],[.aM (.aY [.str 100] 0 3)],0,[],[],[]⟩
def s74[Gh]:bz af S74:=iG (s3.c (Qa.c .n)) [] [(10,.lp ⟨[],bY [32,7,2,6,31] [(33,.int .i64)],[(.c 2 1,.s 33,5),(.c 2 0,.s 33,2),(.s 31,.s 33,3),(.s 33,.s 31,0),(.s 6,.s 33,300),(.s 7,.s 33,300),(.s 32,.s 33,3),(.s 33,.s 32,0),(.z,.s 33,0)],.s 32,.s 33,0,3,[(.s 33,1)],Z⟩ []),(38,.lp ⟨[],bY [48,10,47] ((49,.int .i64)::bY [33,32,7,2,6,31] []),[(.c 2 1,.s 49,5),(.c 2 0,.s 49,2),(.s 49,.c 2 0,0),(.c 10 1,.s 49,0),(.c 10 0,.s 49,100),(.s 31,.s 49,3),(.s 6,.s 49,100),(.s 7,.s 49,300),(.s 32,.s 49,3),(.s 47,.s 49,2),(.s 49,.s 47,0),(.s 48,.s 49,2),(.s 49,.s 48,0),(.z,.s 49,0),(.s 49,.z,2)],.z,.s 49,2,2,[],Z⟩ []),(52,.lp ⟨[(12,[.ct (.str 100),.aL])],bY [55,12,54] ((56,.int .i64)::bY [49,48,10,47,33,32,7,2,6,31] []),[(.c 2 1,.s 56,5),(.c 2 0,.s 56,2),(.c 10 1,.s 56,0),(.c 10 0,.s 56,100),(.c 12 1,.s 56,2),(.s 56,.c 12 1,0),(.s 31,.s 56,3),(.s 6,.s 56,100),(.s 7,.s 56,300),(.s 32,.s 56,3),(.s 47,.s 56,2),(.s 48,.s 56,2),(.s 54,.s 56,2),(.s 56,.s 54,0),(.s 55,.s 56,2),(.s 56,.s 55,0),(.z,.s 56,0),(.s 56,.z,2)],.z,.s 56,2,2,[],Z⟩ []),(75,.gv [4]),(68,.gv [4]),(33,.gv [4])] h
def S75:SP:=⟨58,Z,[.agg Ty.oi,.agg Ty.jy],[.aM (.z 0 25)],0,[],[],[]⟩
def s75[Gh]:bz af S75:=iG (s70.c (s74.c (PI.c (s23.c (Pl.c (Ma.c (Qa.c .n))))))) [] [(52,.lp ⟨[],bY [106,2,105] ((107,.int .i64)::bY [8,3] []),[],.s 106,.s 107,0,1000,[(.s 107,1)],Z⟩ []),(96,.lp ⟨[],bY [154,3,153] [(155,.int .i64)],[],.s 154,.s 155,0,1000,[(.s 155,1)],Z⟩ []),(124,.gv [4]),(119,.gv [4]),(113,.gv [4]),(89,.gv [4]),(83,.gv [4]),(73,.gv [4]),(36,.gv [4]),(26,.gv [4]),(18,.gv [4])] h
def S76:SP:=⟨60,Z,[.agg Ty.oi,.agg Ty.jy],[.aM (.aY [Ty.gW] 3 3)],0,[],[],[]⟩
def s76[Gh]:bz af S76:=iG (Qa.c (Ma.c .n)) [] [(4,.gv [4])] h
def S77:SP:=⟨129,Z,[.agg Ty.oi,.agg Ty.yU],[.agg Ty.aoU,.aM .bool],0,[],[],[]⟩
def s77[Gh]:bz af S77:=iG (s65.c (Qa.c .n)) [(101,[(6,.lp ⟨[],bY [10,0,2,1,9] [(11,.int .i64)],[(.s 9,.s 11,7),(.s 11,.s 9,0),(.s 2,.s 11,100),(.s 0,.s 11,7),(.s 11,.s 0,0),(.s 10,.s 11,7),(.s 11,.s 10,0),(.z,.s 11,0)],.s 10,.s 11,0,7,[(.s 11,1)],Z⟩ [])])] [(20,.gv [4,5]),(26,.gv [4,5])] h
def S78:SP:=⟨61,Z,[.agg Ty.oi,.agg Ty.yU],[.aM (.z 0 25)],0,[],[],[]⟩
def s78[Gh]:bz af S78:=iG (Pl.c (Ma.c (s77.c .n))) [(65,[])] [(31,.gv [4]),(27,.gv [4]),(21,.gv [4]),(10,.gv [4])] h
def s79[Gh]:bz af S79:=aco
def S80:SP:=⟨131,Z,[.agg Ty.oi,.agg Ty.jy,.aM (.aY [.str 300] 0 2)],[.aM (.str 100000000),.aM .bool],0,[],[],[]⟩
def s80[Gh]:bz af S80:=iG (s59.c (s52.c (PI.c .n))) [(255,[(6,.lp ⟨[],bY [7,0,3] [(8,.int .i64)],[],.s 7,.s 8,0,4001,[(.s 8,1)],Z⟩ [])]),(184,[]),(182,[])] [(10,.lp ⟨[],bY [29,4,9,8,28] [(30,.int .i64),(10,.own Ty.kf)],[(.z,.s 30,0)],.z,.s 30,2,2,[(.s 10,2000)],Z⟩ []),(25,.lp ⟨[],bY [35,34] ((36,.int .i64)::bY [12,30,29,4,9,8,28] [(10,.own Ty.kf)]),[],.s 35,.s 36,0,1000,[(.s 36,1),(.s 10,1)],Z⟩ []),(45,.lp ⟨[],bY [55,12,54] ((56,.int .i64)::bY [30,29,4,9,8,28] [(10,.own Ty.kf)]),[],.s 55,.s 56,0,1000,[(.s 56,1),(.s 10,1)],Z⟩ []),(65,.gv [6,7]),(64,.gv [10]),(5,.gv [1000003])] h
def S81:SP:=⟨63,Z,[.agg Ty.oi,.agg Ty.lU],[.aM (.z 0 25)],0,[],[],[]⟩
def s81[Gh]:bz af S81:=iG (s80.c (s32.c (s77.c (s79.c (PI.c .n))))) [] [(6,.lp ⟨[],bY [32,31] ((33,.int .i64)::bY [3,2] []),[],.s 32,.s 33,0,10,[(.s 33,1)],Z⟩ []),(22,.lp ⟨[],bY [45,6,44] ((46,.int .i64)::bY [33,32,31,3,2] []),[],.s 45,.s 46,0,1000,[(.s 46,1)],Z⟩ []),(48,.lp ⟨[],bY [80,79] ((81,.int .i64)::bY [3,2] []),[],.s 80,.s 81,0,10,[(.s 81,1)],Z⟩ []),(77,.lp ⟨[],bY [124,3,2,123] [(125,.int .i64)],[],.z,.s 125,5,5,[(.s 125,1)],Z⟩ []),(91,.lp ⟨[],bY [131,22,130] ((132,.int .i64)::bY [125,124,3,2,123] []),[],.s 131,.s 132,0,10,[(.s 132,1)],Z⟩ []),(107,.lp ⟨[],bY [139,25,24,138] ((140,.int .i64)::bY [132,131,22,130,125,124,3,2,123] []),[],.s 139,.s 140,0,10,[(.s 140,1)],Z⟩ []),(140,.gv [4]),(132,.gv [4]),(70,.gv [4]),(40,.gv [4])] h
def S82:SP:=⟨182,Z,[.aM Ty.gW],[.agg Ty.kf],0,[],[],[]⟩
def s82[Gh]:bz af S82:=iG (s52.c .n) [] [(12,.gv [2]),(8,.gv [2])] h
def S83:SP:=⟨132,Z,[.agg Ty.oi,.aM (.nm 0)],[.aM (.aY [.str 100] 0 5)],0,[],[],[]⟩
def s83[Gh]:bz af S83:=iG (s30.c (Ma.c .n)) [] [(18,.lp ⟨[],bY [21,2,20] [(22,.int .i64),(6,.own [.nm 0])],[(.s 6,.s 22,0),(.c 2 1,.s 6,5),(.c 2 0,.s 6,2),(.s 20,.s 6,5),(.s 21,.s 6,5),(.z,.s 6,0),(.s 22,.s 6,0),(.c 2 1,.s 22,5),(.c 2 0,.s 22,2),(.s 20,.s 22,5),(.s 21,.s 22,5),(.z,.s 22,0)],.z,.s 22,5,5,[(.s 22,1),(.s 6,1)],Z⟩ []),(33,.gv [4]),(10,.gv [4])] h
def S84:SP:=⟨133,Z,[.agg Ty.oi,.agg Ty.MV,.agg Ty.jy],[.aM (.aY Ty.ma 0 1000)],0,[([],[⟨20,4,0⟩,⟨4,20,0⟩])],[],[]⟩
def s84[Gh]:bz af S84:=iG (s82.c (s54.c (PI.c (Tg.c (s52.c .n))))) [(187,[]),(185,[])] [(10,.lp ⟨[],bY [41,40] ((42,.int .i64)::bY [9,5,4,7] []),[],.s 41,.s 42,0,1000,[(.s 42,1)],Z⟩ []),(27,.lp ⟨[],bY [57,5,56] ((58,.int .i64)::bY [4,7] []),[],.s 57,.s 58,0,1000,[(.s 58,1)],Z⟩ []),(46,.lp ⟨[],bY [75,7,74] [(76,.int .i64),(14,.own Ty.ma)],[(.s 14,.s 76,0),(.s 76,.s 14,0),(.s 76,.s 75,0)],.s 75,.s 76,0,1000,[(.s 14,1)],Z⟩ []),(61,.gv [6])] h
section
variable [Gh]
def alp{f:D}{a:ah}{b:Nat}{c:D->ah->Nat->Prop}(g:∀e,b<=e->c (.eQ []) a e):X af 307 [.p aD,.p (I 0),.p (I 0),f] a b c:=by refine X.of Y Zx (by simp[R1]) λk=>?_;simp(disch:=omega)[R1,cN,binOp,aC];intro l;refine⟨λ_ d=>d.T 8=.p (I 1)/\d.T 2=.p (I 0)/\d.O=a/\b<=d.nx,⟨0,by simp;rfl,Y,rfl,aw⟩,?_⟩;rintro _ d ⟨h,i,j,m⟩;simp(disch:=omega)[-az,M4,h,i,j,binOp,aC];exact .d8 bK y (g _ y)
theorem Vl(i:tr.length=5){b:ah}{a:Nat}{e:D->ah->Nat->Prop}(j:∀f,a<=f->e (.eQ []) b f):X af 135 [.p (.agg tr),.p aD] b a e:=by refine X.of Y Z0 (by simp[TW]) λk=>?_;simp(disch:=omega)[TW,cN,D.cells,dw,i];intro g;refine X.of Y abs (by simp[Rk]) λr=>?_;simp(disch:=omega)[Rk,cN];refine X.of Y Z1 (by simp[Tl]) λs=>?_;simp(disch:=omega)[Tl,cN];intro t;refine⟨λ_ d=>d.T 0=.p aD/\d.T 1=.p (I 0)/\d.T 6=.p (I 20)/\d.T 7=.p (I 0)/\d.T 8=.p (I 20)/\d.O=am b a (J (.row 5 (g a) [tr.map .p]))/\a+13<=d.nx,Y,?_⟩;rintro _ d ⟨l,c,h,m,n,p,u⟩;simp(disch:=omega)[-az,Mx,n,c,binOp,aC];intro v;simp(disch:=omega)[-az,Rr,l,c,m];intro w;refine alp λx z=>?_;simp(disch:=omega)[-az,Tm];refine⟨λ_ o=>o.T 6=.p (I 20)/\o.T 1=.p (I 0)/\o.O=d.O/\a+13<=o.nx,EA,?_⟩;rintro _ o ⟨h,c,q,A⟩;simp(disch:=omega)[-az,UO,h,c,binOp,aC];have B:Fr (am b a (J (.row 5 (g a) [tr.map .p]))) (o.nx+3):=bK;rw[q,p];refine .d8 ar y (.d8 ar y ?_);exact .low k y aj (j _ y)
theorem alj{b:ByteArray}(f:VT.ok Ty.MG H)(n:Gh.nm b){c:ah}{d:Nat}{e:D->ah->Nat->Prop}(g:∀a C,d<=a->CT.ok (Ty.aY [Ty.nm] 5) C->e (.p C) c a):X af 132 [.p H,.p (S b)] c d e:=(s83 c d e [H,S b] ⟨f,aj,aj⟩ (λag h=>by cases h)).1 rfl λa o p q i j _ k=>by obtain⟨rfl,rfl⟩:=mY k;obtain⟨V,r,rfl,l,m⟩:=Vs.cons j;obtain rfl:=Vs.nil m;exact g a V i l
def aiL{a:P}{b:ByteArray}(h:CT.ok (Ty.aY [Ty.nm] 5) a)(w:b.size<=400){d:ah}{e:Nat}{f:D->ah->Nat->Prop}(i:∀c p,e<=c->f (.p (B p)) d c):X af 98 [.p a,.p (S b)] d e f:=by obtain⟨j,k,l,g,m,x⟩:=h;have g:=g;refine(s70 d e f [a,S b] ⟨⟨j,k,l,y,λr n=>?_,ar⟩,⟨b,rfl,y⟩,ar⟩ (λag o=>by cases o)).1 rfl λc z A C q s _ t=>?_;obtain⟨V,a,rfl,⟨p,rfl,E⟩,u⟩:=Row.cons (m r n);exact⟨⟨p,rfl,y⟩,u⟩;obtain⟨rfl,rfl⟩:=mY t;obtain⟨V,F,rfl,⟨p,rfl⟩,v⟩:=Vs.cons s;obtain rfl:=Vs.nil v;exact i c p q
theorem LY{a:Int}(f: -9223372036854775808<=a/\a<=9223372036854775807){c:ah}{d:Nat}{e:D->ah->Nat->Prop}(g:∀b r,d<=b->Row Ty.ma r->e (.p (.agg r)) c b):X af 134 [.p (I a)] c d e:=by refine(s52 c d e [I a] ⟨aj,aj⟩ (λag h=>by cases h)).1 rfl λb s t u f i _ j=>?_;obtain⟨rfl,rfl⟩:=mY j;obtain⟨V,v,rfl,⟨r,rfl,l,_⟩,m⟩:=Vs.cons i;obtain rfl:=Vs.nil m;refine g b r f ?_;obtain⟨w,x,rfl,⟨k,rfl,z⟩,n⟩:=Row.cons l;obtain⟨A,B,rfl,⟨C,rfl,E⟩,o⟩:=Row.cons n;obtain⟨F,G,rfl,⟨p,rfl,H⟩,q⟩:=Row.cons o;obtain rfl:=Row.nil q;exact⟨⟨k,rfl,y,y⟩,aj,⟨p,rfl,y⟩,ar⟩
theorem ac3{h:ByteArray}{b i m n:P}{c o p q:List (List P)}(j:VT.ok Ty.MG H)(s:tr=[S h,b,i,m,n])(t:wI h b i c o p q)(u:Fk tr)(k:Row Ty.jy r)(v:RT 3 r){d:ah}{e:Nat}{g:D->ah->Nat->Prop}(w:∀a C,e<=a->pO c.length C->g (.p C) d a):X af 133 [.p H,.p (.agg tr),.p (.agg r)] d e g:=by
 refine(s84 d e g [H,.agg tr,.agg r] ⟨j,⟨tr,rfl,TC u,aj⟩,⟨r,rfl,k,v⟩,aj⟩ (λag x=>by cases x)).1 rfl λa T U O' y z W A=>?_;obtain⟨rfl,rfl⟩:=mY A;obtain⟨V,qs,rfl,⟨aP,l,_,hl,B,_⟩,E⟩:=Vs.cons z;obtain rfl:=Vs.nil E;refine w a V y ⟨aP,l,?_,B⟩;have G:=W _ aj ak ⟨20,4,0⟩ Y;have I:=W _ aj ak ⟨4,20,0⟩ Y;obtain⟨ps,rfl,L,_⟩:=j;obtain⟨K,q1,rfl,_,M⟩:=Row.cons L;obtain⟨f,q2,rfl,_,N⟩:=Row.cons M;obtain rfl:=Row.nil N;obtain⟨on,gs,ot,ab,ov,gk,gn,va,os,O,ac,ad⟩:=(I4 k).sh;subst O;subst s;have Q:lO V=aP.length:=by cases l<;>rfl
 have R:lO b=c.length:=by cases t.pc<;>rfl
 simp[S84,Ty.oi,Ty.MV,Ty.jy,Ty.W8,Ty.kf,Ty.aY,Ty.kd,Ty.i64,Ty.gW,F.ok,rE,Al,vp,xP,AA,Q,R]at G I;omega
end
end Go.Dl
