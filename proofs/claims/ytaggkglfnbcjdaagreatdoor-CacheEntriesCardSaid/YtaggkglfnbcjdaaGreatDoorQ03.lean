import Derived.Deep.LoopGhost
import Derived.Test.YtaggkglfnbcjdaaGreatDoorQ02
set_option linter.all false
set_option maxRecDepth 1000000
set_option maxHeartbeats 40000000
namespace Go.Dl.Ai
end Go.Dl.Ai
namespace Go.Proofs
end Go.Proofs
namespace Ty
end Ty
open Array renaming replicate->iE
open Bool renaming false->Z,or_eq_false_iff->Jt,true->aa
open Go renaming Act->cu,BinOp->iH,Exit->aV,FuncId->cB,IntKind->cY,ResultVar->xD,loadVar->my,results->xu
open Int renaming add->vP
open List renaming range->cZ,replicate->fL
open Nat renaming beq->au,ble->eY
open Option renaming none->ae,some->J
open Go Go.Dl Go.Dl.Ai
def pL:=@true_and
def qT:=@List.mem_filterMap
def xV:=@wp_region_any
def um:=@List.take_append_drop
def xU:=@List.mem_map_of_mem
def kU:=@wp_mono
def xA:=@List.getD_eq_getElem?_getD
def Hg:=@List.getElem?_eq_none
def Bf:=@calls_of_wp
def rC:=@List.length_eq_one_iff
def kL:=@List.getD_cons_succ
def ms:=@List.findIdx?_eq_some_iff_getElem
def iB:=@Nat.le_of_ble_eq_true
def qZ:=@Nat.ble_eq_true_of_le
def ja:=@List.mem_cons_self
def xY:=@List.length_eq_zero_iff
def bw:=@Nat.lt_of_lt_of_le
variable {L:Array Oper}{l:List (Nat×aA)}{k nx dH id be t w bu m cJ bA bH R:Nat}{bn:aA}{d:St}{K:D->ah->Nat->Prop}{i dT:D}{O bX O':ah}{ag:aV->St->Prop}{a b:av}{C bZ:World}{cg u:cC}{bB cE:Type}{bT:Func}{args:List D}{aP bO cU out:Bool}{cT:fG}{bS:List aA}{r bC aS:dh}{db:Nat->D}{es:List (List P)}{N:Int}{aR aB:Option dh}{eJ:KK}{bM:Nat->Int}{g:List P}
namespace Go.Dl
def LJ(b:List Oper):List (List Nat):=b.foldl (λa bn=>a++[((vh bn).foldl (λl i=>(a.getD i []).foldl (λl N=>if l.contains N then l else N::l) (if l.contains i then l else i::l)) [])]) []
def UC(b:List (List Nat))(c:List aA)(a:Nat)(d:aA):Bool:=tM d.op&&c.zipIdx.any λ(e,N)=> !tM e.op&&a !=N&& !((b.getD a []).contains N)&& !((b.getD N []).contains a)
def afH(a:List aA):Nat->Nat->Nat
 |0,t=>t
 |aP+1,t=>match a.find? λi=>i.dst==J t with
  |some i=>match i.op with|.fa (.t R) _|.lY (.t R)|.mv (.t R)=>afH a aP R|_=>t
  |none=>t
def Sn(a:List aA):fG->Option Nat|.load _ _ (.t r) _|.store _ (.t r) _ _|.sQ _ _ _ (.t r) _|.qx _ (.t r) _ _|.oY (.t r) _ _=>J (afH a 50 r)|_=>ae
def Uq(a:List aA):Nat->Nat->Nat
 |0,t=>t
 |aP+1,t=>match a.find? λi=>i.dst==J t with
  |some i=>match i.op with|.fa (.t R) _|.lY (.t R)|.mv (.t R)=>Uq a aP R|.load _ _ (.t R) _=>100000+Uq a aP R|_=>t
  |none=>t
def Ds(mk:Nat)(a:List aA)(b:fG):Option Nat:=
 if mk==4 then match b with|.load _ _ (.t r) _|.store _ (.t r) _ _|.sQ _ _ _ (.t r) _|.qx _ (.t r) _ _|.oY (.t r) _ _=>J (Uq a 50 r)|_=>ae
 else Sn a b
def Vr(d:List (List Nat))(a:List aA)(c:aA):Bool:=match c.op with
 |.store .. |.qx .. |.oY .. =>match Sn a c.op with|some g=>a.zipIdx.any λ(b,e)=>(tA b.op&&b.dst==J g)&&UC d a e b|none=>Z
 |_=>Z
def agD(a:List (List Nat))(c:List aA)(b:Nat)(e:aA):Bool:=tM e.op&&c.zipIdx.any λ(d,N)=> !tM d.op&& !Vr a c d&&b !=N&& !((a.getD b []).contains N)&& !((a.getD N []).contains b)
def P9(mk:Nat)(d:List (List Nat))(a:List aA)(e:Nat)(b:aA):Bool:=(if(mk==2||mk==3)&& !(tA b.op||Yk b.op) then agD d a e b else UC d a e b)||match Ds mk a b.op with|some g=>(match b.op with|.store .. |.qx .. |.oY .. =>aa|_=>(d.getD e []).all (λN=>match a[N]? with|some c=>tM c.op|none=>Z))&&a.zipIdx.any λ(c,N)=>(Ds mk a c.op==J g||(mk !=0&&tA c.op&&c.dst==J g))&&UC d a N c|none=>Z
def RC(e:Bool)(f:List (List Nat)):Nat->List (Nat×aA)->List (Nat×aA)->List (Nat×aA)
 |0,_,c=>c.reverse
 |aP+1,b,c=>
  let d:=λ(a:Nat×aA)=>(f.getD a.1 []).all λN=> !(b.any λg=>g.1==N)
  match(b.find? λa=>a.2.fc&&(!e||tM a.2.op)&&d a).orElse (λ_=>b.find? λa=>tM a.2.op&&d a)|>.orElse (λ_=>b.find? d) with|some a=>RC e f aP (b.filter λg=>g.1 !=a.1) (a::c)|none=>c.reverse
def U3(b:List (List Nat))(c:List aA)(a:Nat):Bool:=c.zipIdx.any λ(d,N)=>tA d.op&&a !=N&& !((b.getD a []).contains N)&& !((b.getD N []).contains a)
def Ag(b:Bool×Bool)(a:aA):aA:={a with op:=if b.1 then MU a.op else a.op,fc:=b.2}
def M8:List Nat->Bool|[]=>aa|r::a=> !a.contains r&&M8 a
def Fe:∀{l:List Nat},M8 l=aa->l.Nodup|[],_=>Y|r::b,a=>by simp[M8,aq]at a;exact kQ.2 ⟨U,Fe a.2⟩
def DV(b:Nat)(a:aA):aA:=match a.op with|.store c (.t r) aS _=>if r=b then {a with op:=.store c (.t r) aS aa} else a|_=>a
def DD(a:Nat):List (Nat×aA)->List (Nat×aA)|[]=>[]|q::g=>(q.1,DV a q.2)::(if q.2.dst=J a then g else DD a g)
def MM(a:aA):Option Nat:=match a.op,a.guard with|.alloc ..,ae=>a.dst|_,_=>ae
def yW:List (Nat×aA)->List (Nat×aA)|[]=>[]|q::g=>q::(match MM q.2 with|some k=>DD k (yW g)|none=>yW g)
def vB(mk:Nat)(e:Program)(f:Nat)(a:Array Oper):Option (List (Nat×aA)):=
 match rL e f a 0 a.toList with
 |none=>ae
 |some d=>
  let c:=LJ a.toList
  let l:List (Nat×aA):=(RC (mk==3) c a.size (d.zipIdx.map λ(i,m)=>(m,Ag (aa,P9 mk c d m i) i)) []).filterMap λb=>(d[b.1]?).map λi=>(b.1,Ag (U3 c d b.1,b.2.fc) i)
  if MK a c&&(sS c (yW l)&&(decide (l.length=a.size)&&(M8 (l.map (·.1))&&(cZ a.size).all λm=>l.any λb=>b.1==m))) then J l else ae
def Sf(a:Program)(b:Nat)(c:Array Oper):Option (List (Nat×aA)):=match vB 1 a b c with|some l=>J l|none=>match vB 2 a b c with|some l=>J l|none=>match vB 3 a b c with|some l=>J l|none=>vB 0 a b c
theorem RU{a:Program}{b:Nat}(c:Sf a b L=J l):∃mk,vB mk a b L=J l:=by unfold Sf at c;grind
def arp(d:List (Nat×aA)):Bool:=
 let c:=d.map (·.2)
 c.any λa=>a.fc&&match Ds 4 c a.op with|some g=>decide (100000<=g)&&c.any λb=> !b.fc&&Ds 4 c b.op==J g|none=>Z
def Xx(a:Program)(b:Nat)(c:Array Oper):Option (List (Nat×aA)):=
 match Sf a b c with
 |some l=>if arp l then match vB 4 a b c with|some d=>J d|none=>J l
  else J l
 |none=>vB 4 a b c
theorem VI{b:Program}{c:Nat}(a:Xx b c L=J l):∃mk,vB mk b c L=J l:=by unfold Xx at a;split at a;rename_i e d;split at a;split at a;grind;cases a;exact RU d;cases a;exact RU d;grind
def Xc(d:Array Oper)(a:List (Nat×aA))(b:Nat):Bool:=
 let c:=LJ d.toList
 ((a.drop b).all λbC=>(a.take b).all λr=>(c.getD bC.1 []).contains r.1)&&(sS c (a.take b)&&sS c (a.drop b))
def acp(b:Array Oper)(a:List (Nat×aA)):av:=
 if 30<b.size then match(cZ a.length).find? (λk=>((a.take k).any λr=> !tM r.2.op)&&Xc b a k) with|some k=>.seq (.dg b.size aa ((a.take k).map (·.2))) (.dg b.size aa ((a.drop k).map (·.2)))|none=>.dg b.size aa (a.map (·.2))
 else .dg b.size aa (a.map (·.2))
def mr(c:Program)(d:Nat):Code->Option av
 |.skip=>J .skip
 |.region _ L e=>
  if e then if c.follows .mixedOrders then(Xx c d L).map (acp L) else ae
  else(rL c d L 0 L.toList).map (.dg L.size Z)
 |.seq a b=>match mr c d a,mr c d b with|some r,J bC=>J (.seq r bC)|_,_=>ae
 |.cond u a b=>match cO u,mr c d a,mr c d b with|some f,J r,J bC=>J (.cond f r bC)|_,_,_=>ae
 |.block id a=>(mr c d a).map (.block id)|.loop a=>(mr c d a).map .loop|.exit id=>J (.exit id)|.ret=>J .ret|_=>J .qm
section
variable {j:Program}{c:Nat}
theorem wS{d:Array Oper}:∀(l:List Oper) (m:Nat) (a:List aA),rL j c d m l=J a->a.length=l.length/\∀(k:Nat) (i:aA),a[k]? =J i->∃bn,l[k]? =J bn/\Dr j c d (m+k) bn=J i
 |[],m,a,b=>by simp[rL,du]at b;exact U
 |bn::e,m,a,b=>by
  simp[rL]at b;split at b;rename_i i f n g;cases b;obtain⟨h,o⟩:=wS e (m+1) f g;refine⟨by simp[h],λk p q=>?_⟩;cases k with|zero=>grind|succ k=>grind
  grind
theorem XD{b:cR}(a:fG)(c:St)(d:D->ah->Nat->Prop)(e:aN b (MU a) c d):aN b a c d:=by cases a with|load be w r f=>simp only[MU,aN]at e⊢;grind|_=>exact e
theorem KD{a:cR}(_hJ:mu a)(g:Bool×Bool)(b:aA)(c:St)(h:St->Prop)(d:d9 a (Ag g b) c h):d9 a b c h:=by
 have i:∀e,aN a (if g.1=aa then MU b.op else b.op) c e->aN a b.op c e:=by intro e f;split at f;exact XD _ _ _ f;exact f
 unfold d9 Ag at d;unfold d9;simp at d;split at d;rename_i j;(try simp[]);exact i _ d;grind
def we(b c:aA):Prop:=c.dst=b.dst/\∀(a:cR),mu a->∀d K,d9 a c d K->d9 a b d K
def we.refl(a:aA):we a a:=⟨rfl,λ_ _ _ _ b=>b⟩
theorem Ve(i:Nat)(a:aA):we a (DV i a):=by
 unfold DV;split;rename_i c r aS k f;split;refine⟨rfl,λg l d K b=>?_⟩;have j:∀e,aN g (.store c (.t r) aS aa) d e->aN g a.op d e:=by intro e h;rw[f];simp only[aN]at h⊢;split at h;grind;omega
 unfold d9 at b⊢;simp at b;split at b;rename_i f;(try simp[]);exact j _ b;grind;exact .refl a;exact .refl a
def Fl(b:Nat)(a:St):Prop:=∃id w c m N,a.T b=.ptr id w c m N/\a.bs<=id
theorem Tt{b:cR}{g:St->Prop}(i:Fl k d)(a:d9 b bn d g):d9 b (DV k bn) d g:=by
 unfold DV;split;rename_i c r aS p h;split;rename_i j;subst j;obtain⟨id,w,be,m,N,l,q⟩:=i;have n:∀e,aN b bn.op d e->aN b (.store c (.t r) aS aa) d e:=by intro e f;rw[h]at f;have o:d.ev (.t r)=.ptr id w be m N:=l;simp only[aN,o]at f⊢;split at f;grind;omega
 unfold d9 at a⊢;simp only;split at a;rename_i h;(try simp only);exact n _ a;grind;exact a;exact a
theorem Jm(b:Nat)(a:aA):(DV b a).dst=a.dst/\(DV b a).fc=a.fc:=by unfold DV;grind
theorem Fl.put{a:Option Nat}{b:D}{c:ah}{e:Nat}(f:Fl k d)(i:a≠J k):Fl k {d with T:=eE d.T a b,O:=c,nx:=e}:=by obtain⟨id,w,be,m,N,g,h⟩:=f;refine⟨id,w,be,m,N,?_,h⟩;simp;rw[vG ak];exact g
def FK{h:cR}(e:mu h){b:Nat}:∀(g:List (Nat×aA)) (d:St) (F:ah) (K:St->ah->Prop),Fl b d->fS h (g.map (·.2)) d F K->fS h ((DD b g).map (·.2)) d F K|[],d,F,K,_,a=>a|q::g,d,F,K,f,a=>by simp[DD,bG,fS,(Jm b q.2).2]at a⊢;cases k:q.2.fc with|false=>rw[k]at a;have a:=Tt f a;refine lE e U rfl rfl rfl rfl (λi O nx c=>?_) a;split;exact c;rename_i j;exact FK e g _ F K (f.put (by rw[(Jm b q.2).1];exact j)) c|true=>rw[k]at a;have l:Fl b {d with O:=F}:=f;have a:=Tt l a;refine lE e U rfl rfl rfl rfl (λi O nx c=>?_) a;split;exact c;rename_i j;exact FK e g _ _ K (f.put (by rw[(Jm b q.2).1];exact j)) c
def In(a:MM bn=J k){e:cR}{f:St->Prop}(b:d9 e bn d f):d9 e bn d λg=>f g/\Fl k g:=by unfold MM at a;split at a;rename_i nm c j h i;unfold d9 at b⊢;simp[h,i]at b⊢;exact⟨b.1,b.2,d.bs+nm,d.gm (d.bs+nm),c,0,0,by rw[a];simp[eE,am],aw⟩;cases a
def CA{f:cR}(b:mu f):∀(g:List (Nat×aA)) (d:St) (F:ah) (K:St->ah->Prop),fS f (g.map (·.2)) d F K->fS f ((yW g).map (·.2)) d F K
 |[],d,F,K,a=>a
 |q::g,d,F,K,a=>by
  simp[yW,bG,fS]at a⊢;cases h:MM q.2 with
  |none=>cases e:q.2.fc with|false=>rw[e]at a;exact lE b U rfl rfl rfl rfl (λi O nx c=>CA b g _ F K c) a|true=>rw[e]at a;exact lE b U rfl rfl rfl rfl (λi O nx c=>CA b g _ _ K c) a
  |some k=>cases e:q.2.fc with|false=>rw[e]at a;exact lE b U rfl rfl rfl rfl (λi O nx c=>FK b _ _ F K U (CA b g _ F K c.1)) (In h a)|true=>rw[e]at a;exact lE b U rfl rfl rfl rfl (λi O nx c=>FK b _ _ _ K c.2 (CA b g _ _ K c.1)) (In h a)
theorem Pc{b:Nat}:∀{g:List (Nat×aA)} {m:Nat} {a:aA},(m,a)∈DD b g->∃i,(m,i)∈g/\we i a
 |q::g,m,a,h=>by
  simp[DD,bt]at h;rcases h with⟨rfl,rfl⟩|h
  exact⟨q.2,Y,Ve b q.2⟩;split at h;exact⟨a,U,.refl a⟩;obtain⟨i,c,d⟩:=Pc h;grind
def we.trans{a b c:aA}(e:we a b)(f:we b c):we a c:=⟨f.1.trans e.1,λg h d K i=>e.2 g h d K (f.2 g h d K i)⟩
theorem DE:∀{g:List (Nat×aA)} {m:Nat} {a:aA},(m,a)∈yW g->∃i,(m,i)∈g/\we i a
 |q::g,m,a,h=>by
  simp[yW,bt]at h;rcases h with rfl|h
  exact⟨a,Y,.refl a⟩;split at h;obtain⟨i,b,c⟩:=Pc h;obtain⟨d,f,e⟩:=DE b;exact⟨d,U,e.trans c⟩;obtain⟨i,b,c⟩:=DE h;grind
def P4{a:Nat}:∀(g:List (Nat×aA)),(DD a g).map (·.1)=g.map (·.1)|[]=>rfl|q::g=>by simp[DD,bG,kJ,pL];split;rfl;exact P4 g
def Az:∀(g:List (Nat×aA)),(yW g).map (·.1)=g.map (·.1)|[]=>rfl|q::g=>by simp[yW,bG,kJ,pL];split;rw[P4,Az g];exact Az g
theorem nU(b:List Nat)(a:ah):bp (aX b a) (only b a)=a:=by funext id;simp[bp,aX,only];grind
theorem Dj(a:List Nat)(b:ah):zH (aX a b) (only a b):=by intro id c;simp[aX]at c;by_cases d:id∈a;grind;simp[only,d]
abbrev oX(a:Nat):Nat->Prop:=λid=>a<=id
def ajH{b:aV->cu->World->Prop}{next:cu->World->Prop}{e:aV}{a:cu}(c:match e with|.normal=>next a C|e=>b e a C):Exit.then next b e a C:=by cases e<;>exact c
theorem KU{mk:Nat}(d:vB mk j c L=J l):∃a,rL j c L 0 L.toList=J a/\MK L (LJ L.toList)=aa/\sS (LJ L.toList) (yW l)=aa/\l.length=L.size/\M8 (l.map (·.1))=aa/\
 (∀m,(∃i,(m,i)∈l)↔m<L.size)/\∀(m:Nat) (b:aA),(m,b)∈l->∃e bO,a[m]? =J e/\b=Ag bO e:=by
 unfold vB at d;split at d;cases d;rename_i a g;simp only at d;split at d;rename_i h;cases d;obtain⟨s,t⟩:=wS L.toList 0 a g;simp only[aq,dJ]at h;obtain⟨u,o,p,q,v⟩:=h;have w:∀(m:Nat) (b:aA),(m,b)∈(RC (mk==3) (LJ L.toList) L.size (a.zipIdx.map λ(i,m)=>(m,Ag (aa,P9 mk (LJ L.toList) a m i) i)) []).filterMap (λf=>(a[f.1]?).map λi=>(f.1,Ag (U3 (LJ L.toList) a f.1,f.2.fc) i))->
  ∃e bO,a[m]? =J e/\b=Ag bO e:=by intro m b k;obtain⟨f,_,n⟩:=qT.1 k;simp[bj,xe]at n;obtain⟨e,x,r,y⟩:=n;subst r;exact ak
 refine⟨a,g,ar,o,p,q,λm=>⟨λ⟨b,k⟩=>?_,λaB=>?_⟩,aj⟩;grind;have:=jC.1 ar m U;grind;grind
def adV{c:cR}:bx c (.seq a b) d ag=bx c a d λe f=>match e with|.normal=>bx c b f ag|e=>ag e f:=rfl
def Sz{f:List aA}{a:av}{P:St->St->Prop}(W:∀s1,bx (X j) a s1 ag->∃s2,P s1 s2/\bx (X j) a s2 ag)(b:bx (X j) (.dg dH aa f) d λe c=>match e with|.normal=>bx (X j) a c ag|e=>ag e c):bx (X j) (.dg dH aa f) d λe s1=>e=.normal/\∃s2,P s1 s2/\bx (X j) a s2 ag:=by simp only[bx]at b⊢;intro g;obtain⟨h,b⟩:=b g;exact⟨h,rK br _ (λc k i=>⟨Y,W _ i⟩) b⟩
theorem Nq{mk:Nat}(z:vB mk j c L=J l)(v:Xc L l k=aa)(aS:j.follows .mixedOrders=aa){Rl:St->St->Prop}(P:∀s1 s2,Rl s1 s2->∀C u b,Rz c C u b s1->∃f,Rz c C f b s2/\eI (oX be) (W C) u s1.O (W C) f s2.O/\s2.nx=s1.nx){b:cu}(p:Rz c C u b d)(Q:eI (oX be) (W bZ) cg bX (W C) u d.O)(hm:be<=d.nx)(q:bx (X j) (.dg L.size aa ((l.take k).map (·.2))) d λg s1=>g=.normal/\∃s2,Rl s1 s2/\bx (X j) (.dg L.size aa ((l.drop k).map (·.2))) s2 ag):
 (Code.region id L aa).wp j (λg r n=>∃e f,ag g e/\Rz c n f r e/\eI (oX be) (W bZ) cg bX (W n) f e.O/\be<=e.nx) b C:=by
 obtain⟨A,R,a0,a2,S,T,a3,B⟩:=KU z;obtain⟨a4,V⟩:=wS L.toList 0 A R;have D:∀(m:Nat) (g:aA),(∃i bO,A[m]? =J i/\we (Ag bO i) g)->∃bn E,L[m]? =J bn/\Dr j c L m bn=J E/\∀d (K:St->Prop),d9 (X j) g d K->d9 (X j) E d K:=by rintro m g ⟨i,bO,o,ab⟩;obtain⟨bn,w,h3⟩:=V m i o;exact⟨bn,i,ak,ak,λd K q=>KD br bO i d K (ab.2 _ br d K q)⟩
 have a5:∀{m},m<L.size->(iE L.size Z).getD m aa=Z:=U;have ac:Ez L (iE L.size Z):=λm bn ho z=>by grind
 have a6:∀(d:St) (C:World) (u:cC) (b:cu) (h:List Nat),Rz c C u b d->Rz c {C with drawn:=C.drawn+1} u b {d with bs:=d.nx,nx:=d.nx+L.size,gm:=λid=>u.gen id+1,O:=bp (aX h d.O) (only h d.O)}:=by intro d C u b h p;rw[nU];exact⟨p.sz,p.df,p.tm,p.inv,λid ad=>p.fr id ak⟩
 have a7:∀(d:St) (C:World) (u:cC) (b:cu) (h:List Nat) (a:Nat),Rz c C u b d->u.gen (d.nx+a)+1=u.gen (d.nx+a)+1/\aX h d.O (d.nx+a)=ae/\only h d.O (d.nx+a)=ae:=by intro d C u b h a p;have F:=p.fr (d.nx+a) y;refine⟨rfl,?_,?_⟩;simp only[aX,F];simp;simp only[only,F];simp
 refine xV ar ?_;simp only[Xc,aq]at v;obtain⟨a8,al,an⟩:=v;have G:=Fe T;rw[<-um k l,List.map_append,jW]at G;obtain⟨n1,n2,n3⟩:=G;simp only[bx]at q;obtain⟨h,q⟩:=q λid=>u.gen id+1;have a9:∀a,a∈l↔a∈l.take k\/a∈l.drop k:=λa=>by rw[<-bg,um]
 have ao:L.size=(l.take k).length+(l.drop k).length:=by rw[<-S,<-List.length_append,um]
 have ax:(wpAny j .any L (λg r n=>∃e f,ag g e/\Rz c n f r e/\eI (oX be) (W bZ) cg bX (W n) f e.O/\be<=e.nx) L.size (iE L.size Z) b {C with drawn:=C.drawn+1})=wpAny j .any L (λg r n=>∃e f,ag g e/\Rz c n f r e/\eI (oX be) (W bZ) cg bX (W n) f e.O/\be<=e.nx) ((l.take k).length+(l.drop k).length) (iE L.size Z) b {C with drawn:=C.drawn+1}:=by rw[<-ao]
 rw[ax];refine P0 ar (later:=(l.drop k).map (·.1)) D
  (l.take k).length (l.take k) (iE L.size Z) b {C with drawn:=C.drawn+1} u {d with bs:=d.nx,nx:=d.nx+L.size,gm:=λid=>u.gen id+1,O:=aX h d.O} (only h d.O) _ rfl Y n1
  ak
  (λbC hy a H=>by refine⟨?_,ak⟩;obtain⟨bb,hz,rfl⟩:=List.mem_map.1 hy;grind)
  (λa H=>by obtain⟨i,bO,o,w⟩:=B a.1 a.2 U;exact⟨i,bO,o,w▸we.refl _⟩) ac al aj (Dj h d.O) aw
  aj q ?_
 intro s0 F0 c9 a1 I l1 h0 ay M bd aB aE bk;obtain⟨_,s1,hr,o⟩:=h0;rw[nU]at M;obtain⟨x,s,aI,aO⟩:=P _ _ hr _ _ _ ay;have bl:d.nx+L.size<=s1.nx:=by rw[aO];exact y
 have aP:eI (oX be) (W C) u d.O (W I) c9 (bp s0.O F0):=M.mono ak;obtain⟨t,o⟩:=o λid=>x.gen id+1;refine Mm ar D (l.drop k).length (l.drop k) l1 a1 I x {s1 with bs:=s1.nx,nx:=s1.nx+L.size,gm:=λid=>x.gen id+1,O:=aX t s1.O} (only t s1.O) _ rfl aB n2
  ak
  (λa H=>by obtain⟨i,bO,o,w⟩:=B a.1 a.2 U;exact⟨i,bO,o,w▸we.refl _⟩) aE an
  (by have g:bp (aX t s1.O) (only t s1.O)=s1.O:=nU _ _;simp only[g];exact⟨s.sz,s.df,s.tm,s.inv,λid ad=>s.fr id ak⟩)
  (Dj t _) aw
  aj o ?_
 intro e F' f r n v aR N bm;refine⟨_,f,v,aR,?_,ak⟩;rw[nU]at N;exact((Q.trans aP).trans aI).trans (N.mono ak)
theorem DL:∀(ab:Code) (i:av),mr j c ab=J i->∀(d:St) (ag:aV->St->Prop) (C:World) (u:cC) (a:cu),
 Rz c C u a d->eI (oX be) (W bZ) cg bX (W C) u d.O->be<=d.nx->bx (X j) i d ag->
 ab.wp j (λv A x=>∃g n,ag v g/\Rz c x n A g/\eI (oX be) (W bZ) cg bX (W x) n g.O/\be<=g.nx) a C:=by
 intro ab;induction ab with
 |skip=>intro i e d ag C u a h p q b;cases e;exact wp_skip ⟨d,u,b,h,p,q⟩
 |region id L ao=>
  intro i e d ag C u a h p q b;simp only[mr]at e;split at e;rename_i S;subst S;split at e;rename_i bb;simp only[bj]at e;obtain⟨l,T,rfl⟩:=e;obtain⟨mk,T⟩:=VI T;obtain⟨ds,ac,bd,ax,ay,aE,aI,bk⟩:=KU T;obtain⟨bl,aO⟩:=wS L.toList 0 ds ac;have aP:∀(m:Nat) (v:aA),(∃I bO,ds[m]? =J I/\we (Ag bO I) v)->∃bn d',L[m]? =J bn/\Dr j c L m bn=J d'/\∀d (K:St->Prop),d9 (X j) v d K->d9 (X j) d' d K:=by rintro m v ⟨I,bO,D,an⟩;obtain⟨bn,h2,h3⟩:=aO m I D;exact⟨bn,I,ak,ak,λd K b=>KD br bO I d K (an.2 _ br d K b)⟩
  have bm:∀{m},m<L.size->(iE L.size Z).getD m aa=Z:=U;have aR:Ez L (iE L.size Z):=λm bn ho T=>by grind
  have bo:∀(d:St) (C:World) (u:cC) (a:cu) (E:List Nat),Rz c C u a d->Rz c {C with drawn:=C.drawn+1} u a {d with bs:=d.nx,nx:=d.nx+L.size,gm:=λid=>u.gen id+1,O:=bp (aX E d.O) (only E d.O)}:=by intro d C u a E h;rw[nU];exact⟨h.sz,h.df,h.tm,h.inv,λid aS=>h.fr id ak⟩
  have bu:∀(d:St) (C:World) (u:cC) (a:cu) (E:List Nat) (G:Nat),Rz c C u a d->u.gen (d.nx+G)+1=u.gen (d.nx+G)+1/\aX E d.O (d.nx+G)=ae/\only E d.O (d.nx+G)=ae:=by intro d C u a E G h;have hf:=h.fr (d.nx+G) y;refine⟨rfl,?_,?_⟩;simp only[aX,hf];simp;simp only[only,hf];simp
  have plain:bx (X j) (.dg L.size aa (l.map (·.2))) d ag->wpAny j .any L (λv A x=>∃g n,ag v g/\Rz c x n A g/\eI (oX be) (W bZ) cg bX (W x) n g.O/\be<=g.nx) L.size (iE L.size Z) a {C with drawn:=C.drawn+1}:=by
   intro b;simp only[bx]at b;obtain⟨E,b⟩:=b λid=>u.gen id+1;exact Mm ar aP
    L.size (yW l) (iE L.size Z) a {C with drawn:=C.drawn+1} u {d with bs:=d.nx,nx:=d.nx+L.size,gm:=λid=>u.gen id+1,O:=aX E d.O} (only E d.O) _ (by rw[<-d7,Az,d7];exact ay) Y (by rw[Az];exact Fe aE)
    (λm=>⟨λ⟨v,he⟩=>by obtain⟨e',a0,_⟩:=DE he;grind,λ⟨aB,_⟩=>by obtain⟨v,he⟩:=(aI m).2 aB;have q:=xU (f:=(·.1)) he;rw[<-Az]at q;grind⟩)
    (λG o=>by obtain⟨e',a0,an⟩:=DE o;grind) aR ax aj (Dj E d.O) aw
    aj (CA br _ _ _ _ b)
    (λg F' n A x F z w a1=>⟨_,n,F,z,p.trans (by rw[nU]at w;exact w.mono ak),ak⟩)
  unfold acp at b;split at b;split at b;rename_i k F;have F:=List.find?_some F;rw[aq]at F;simp only[adV]at b;exact Nq T U ar (Rl:=Eq) (λs1 s2 v C u a h=>⟨u,ak,v▸eI.refl _ _ _ _,by rw[v]⟩) h p q (Sz (λs1 D=>⟨s1,rfl,D⟩) b);exact xV ar (plain b);exact xV ar (plain b);cases e;rename_i S;have S:ao=Z:=by simpa using S
  subst S;simp only[bj]at e;obtain⟨ds,ac,rfl⟩:=e;simp only[bx]at b;have b:=b λid=>u.gen id+1;refine wp_region ?_;have a3:Rz c C u a {d with bs:=d.nx,nx:=d.nx+L.size,gm:=λid=>u.gen id+1}:=⟨h.sz,h.df,h.tm,h.inv,λid aS=>h.fr id ak⟩;have:=NU (Q:=λv A x=>∃g n,ag v g/\Rz c x n A g/\eI (oX be) (W bZ) cg bX (W x) n g.O/\be<=g.nx) L.toList 0 ds C u a _ _
   ak ac a3 Y (λk F=>⟨rfl,h.fr _ aw⟩) b (λg n A x F z w a1=>⟨g,n,F,z,p.trans (w.mono ak),ak⟩)
  simpa[List.range_eq_range']using this
 |seq r bC ad al=>
  intro i e d ag C u a h p q b;simp only[mr]at e;split at e;rename_i H dy D h2;cases e;refine wp_seq (kU (ad H D d _ C u a h p q b) λv A x o=>?_);obtain⟨g,n,o,z,w,B⟩:=o;cases v with|normal=>exact al dy h2 g ag x n A z w B o|exit m=>exact⟨g,n,o,z,w,B⟩|goto m=>exact⟨g,n,o,z,w,B⟩|ret=>exact⟨g,n,o,z,w,B⟩|panic m=>exact⟨g,n,o,z,w,B⟩|outgrown=>exact⟨g,n,o,z,w,B⟩
  cases e
 |cond a4 r bC ad al=>
  intro i e d ag C u a h p q b;simp only[mr]at e;split at e;rename_i dz H dy h0 D h2;cases e;simp only[bx]at b;have V:=eR (s:=d) h.tm h0;split at b;rename_i t ht;rw[ht]at V;have V:a.eval a4=.bool t:=V;cases t with|true=>exact wp_cond_true V (ad H D d ag C u a h p q b)|false=>exact wp_cond_false V (al dy h2 d ag C u a h p q b)
  exact b.elim;cases e
 |block id r ih=>intro i e d ag C u a h p q b;simp only[mr,bj]at e;obtain⟨H,D,rfl⟩:=e;refine wp_block (kU (ih H D d _ C u a h p q b) λv A x o=>?_);obtain⟨g,n,o,z,w,B⟩:=o;cases v with|exit m=>simp only[Exit.inBlock];grind|normal=>exact⟨g,n,o,z,w,B⟩|goto m=>exact⟨g,n,o,z,w,B⟩|ret=>exact⟨g,n,o,z,w,B⟩|panic m=>exact⟨g,n,o,z,w,B⟩|outgrown=>exact⟨g,n,o,z,w,B⟩
 |loop r ih=>
  intro i e d ag C u a h p q b;simp only[mr,bj]at e;obtain⟨H,D,rfl⟩:=e;simp only[bx]at b;obtain⟨a5,⟨k0,a6⟩,a7⟩:=b;refine wp_loop_ghost (λk A x=>∃g n,a5 k g/\Rz c x n A g/\eI (oX be) (W bZ) cg bX (W x) n g.O/\be<=g.nx) k0 ⟨d,u,a6,h,p,q⟩ ?_;rintro k A x ⟨g,n,F,z,w,B⟩;refine kU (ih H D g _ x n A z w B (a7 k g F)) λv a2 w2 o=>?_;obtain⟨s2,M,o,N,P,R⟩:=o;cases v with
  |normal=>obtain⟨k',a8,a9⟩:=o;exact⟨k',a8,s2,M,a9,N,P,R⟩
  |exit m=>exact⟨s2,M,o,N,P,R⟩|goto m=>exact⟨s2,M,o,N,P,R⟩|ret=>exact⟨s2,M,o,N,P,R⟩|panic m=>exact⟨s2,M,o,N,P,R⟩|outgrown=>exact⟨s2,M,o,N,P,R⟩
 |exit id=>intro i e d ag C u a h p q b;cases e;exact wp_exit ⟨d,u,b,h,p,q⟩
 |ret=>intro i e d ag C u a h p q b;cases e;exact wp_ret ⟨d,u,b,h,p,q⟩
 |rangeFunc _ _ _ _ _ _=>intro i e d ag C u a h p q b;cases e;exact b.elim
 |scope _ _=>intro i e d ag C u a h p q b;cases e;exact b.elim
 |label _=>intro i e d ag C u a h p q b;cases e;exact b.elim
 |goto _=>intro i e d ag C u a h p q b;cases e;exact b.elim
 |refuse _=>intro i e d ag C u a h p q b;cases e;exact b.elim
end
inductive AT where|t (k:Nat)|cell (k n:Nat) (cU:Bool)
structure d6 where
 n:Nat
 rs:List AT
 body:av
def LQ(a:Program):List xD->Option (List AT)|[]=>J []|.tmp k::b=>(LQ a b).map (.t k::·)|.cell k t::b=>match lh a t,Ef a t,LQ a b with|some c,J w,J g=>J (.cell k c w::g)|_,_,_=>ae
def Th(b:Program)(a:Func):Option d6:=
 match a.body with
 |some c=>match mr b a.ntmps c,LQ b a.results.toList with|some i,J d=>if(a.name== "runtime.NumGoroutine")=Z then J {n:=a.ntmps,rs:=d,body:=i} else ae|_,_=>ae
 |none=>ae
def jt(a:St):List AT->(List D->Prop)->Prop
 |[],K=>K []|.t k::b,K=>jt a b λc=>K (a.T k::c)
 |.cell k d w::b,K=>
  match a.T k with
  |.ptr id e bA m N=>match a.O id with
   |some (.row f h es)=>f=bA/\h=e/\match es[m]? with
    |some g=>match ba d w (g.drop N) with|some i=>jt a b λc=>K (i::c)|none=>False
    |none=>False
   |_=>False
  |_=>False
def aM:List D->D|[i]=>i|a=>.eQ a
def T0(a:List D):Nat->D:=λt=>a.getD t (.p (.v undef))
def cN(b:List D)(c:ah)(a:Nat):St:={T:=T0 b,O:=c,nx:=a,bs:=a,gm:=λ_=>0}
section
variable {c:Program}
def V9{e f:Type}{g:e->Sem f}{b:World}:∀{l:List e} {d:List f},l.length=d.length->(∀(k:Nat) (r:e) (aS:f),l[k]? =J r->d[k]? =J aS->(g r).run c b=.ok aS b)->(l.mapM g).run c b=.ok d b|[],[],_,_=>Y|[],_::_,a,_=>by simp at a|_::_,[],a,_=>by simp at a|r::i,aS::d,a,h=>by have j:=h 0 r aS rfl rfl;have m:=V9 (by simpa using a) λk bC R n o=>h (k+1) bC R ar ar;exact U
def acw{b:bB->Sem cE}{a:Array bB}{d:List cE}(f:d.length=a.toList.length)(e:∀(k:Nat) (r:bB) (aS:cE),a.toList[k]? =J r->d[k]? =J aS->(b r).run c C=.ok aS C):(a.mapM b).run c C=.ok d.toArray C:=by
 have g:=V9 y e;have h:a.mapM b=(do let l'<-a.toList.mapM b;pure l'.toArray):=by rw[<-Array.toArray_toList (xs:=a),List.mapM_toArray];simp
 exact U
theorem FO{d:Array Value}{a:List Value}(e:a.length=bT.results.toList.length)(f:∀(k:Nat) (g:xD) (aS:Value),bT.results.toList[k]? =J g->a[k]? =J aS->
 ((match g with|.tmp t=>pure (d.getD t undef)|.cell b t=>do my t (<-asAddr (d.getD b undef)):Sem Value)).run c C=.ok aS C):
 (xu bT d).run c C=.ok (if f:a.toArray.size=1 then a.toArray[0] else .tuple a.toArray) C:=by unfold xu;rw[iN,acw e aj];simp
theorem Db{L:Nat}{h:World}{x:cC}{u:cu}{y:St}(n:Rz L h x u y):∀{p:List xD} {q:List AT} {K:List D->Prop},LQ c p=J q->jt y q K->
 ∃(l:List D) (f:List Value),K l/\f.length=l.length/\f.length=p.length/\(∀(k:Nat) (g:xD) (aS:Value),p[k]? =J g->f[k]? =J aS->
  ((match g with|.tmp t=>pure (u.tmps.getD t undef)|.cell b t=>do my t (<-asAddr (u.tmps.getD b undef)):Sem Value)).run c h=.ok aS h)/\∀(k:Nat) (aS:Value) (i:D),f[k]? =J aS->l[k]? =J i->D.rd (W h) x i aS
 |[],q,K,d,a=>by simp only[LQ,du]at d;subst d;exact⟨[],[],a,rfl,rfl,ak,ak⟩
 |.tmp t::p,q,K,d,a=>by
  simp only[LQ,bj]at d;obtain⟨es,z,rfl⟩:=d;obtain⟨l,f,A,B,C,M,O⟩:=Db n z a;refine⟨y.T t::l,u.tmps.getD t undef::f,A,by simp[B],by simp[C],λk g aS r e=>?_,λk aS i e s=>?_⟩;cases k with|zero=>simp at r e;subst r e;simp|succ k=>exact aj
  cases k with|zero=>simp at e s;subst e s;simpa using n.tm t|succ k=>exact aj
 |.cell b t::p,q,K,d,a=>by
  simp only[LQ]at d;split at d;rename_i be w es P Q z;cases d;have v:=n.tm b;simp only[jt]at a;split at a;rename_i id g' bA m N R;rw[R]at v;obtain⟨_,_,v⟩:=v;split at a;rename_i E g2 al S;obtain⟨rfl,rfl,a⟩:=a;have F:=n.inv.gu _ _ S;obtain⟨T,G,V⟩:=v F.1;have H:=F.2;simp only[G]at H;obtain⟨_,an,db,X,Y⟩:=H;split at a;rename_i g ab;split at a;rename_i i s;obtain⟨l,f,A,B,C,M,O⟩:=Db n z a;have I:=((D.gd _ _ _ _).1 Y m g ab).2;have I:=D.zN (j:=N) ar;simp only[bf]at I;have G:=wE (o:=m*E+N) P Q X;have ac:∃aS,(my t ⟨T,m*E+N,ae⟩).run c h=.ok aS h/\D.rd (W h) x i aS:=by rcases Rt s ar with⟨ad,us,q2,q3,q4⟩|⟨ad,aS,q3,q4⟩;grind;exact U
  obtain⟨v0,ag,ao⟩:=ac;refine⟨i::l,v0::f,A,by simp[B],by simp[C],λk g aS r e=>?_,λk aS i e s=>?_⟩;cases k with|zero=>simp at r e;subst r e;simp[V,asAddr,ag]|succ k=>exact aj
  grind;exact a.elim;exact a.elim;exact a.elim;exact a.elim;cases d
theorem rz0{a:Array Value}{b:Nat}(d:iA (W C) u O)(e:Fr O nx)(g:a.size=args.length)(f:D.mN (W C) u (λm=>a[m]?) 0 args)(h:args.length<=b):
 Rz b C u {tmps:=a++iE (b-a.size) undef,defers:=[]} (cN args O nx):=by
 refine⟨U,rfl,λt=>?_,d,e⟩;simp only[cN,T0];by_cases i:t<args.length;obtain⟨aS,c,j⟩:=(D.ld _ _ _).1 f t args[t] Y;simp[bf]at c;have:(a++iE (b-a.size) undef).getD t undef=aS:=by rw[pA,xj y,c];rfl
 grind;have:(a++iE (b-a.size) undef).getD t undef=undef:=by rw[pA,Hy y];rw[Array.getElem?_replicate];split<;>rfl
 simp only[this];rw[xA,Hg y];rfl
theorem X.apr{l:cB}{F:d6}(m:c.funcs[l]? =J bT)(a:Th c bT=J F)(p:args.length<=F.n)(q:Fr O nx->bx (X c) F.body (cN args O nx) λf h=>(f=.normal\/f=.ret)/\jt h F.rs λs=>∃O' bH,yJ O' h.O/\nx<=bH/\Fr O' bH/\K (aM s) O' bH):X c l args O nx K:=by
 unfold Th at a;split at a;rename_i t v;split at a;rename_i i rs w x;split at a;rename_i ac;cases a;refine⟨⟨bT,m,ar,U⟩,λC u vs aB n z A=>?_⟩;refine Bf m v ?_;have B:=rz0 aB n z A p;refine kU (DL t i w _ _ C u _ B (eI.refl _ _ _ _) (bV _) (q n)) λf o b E=>?_;obtain⟨h,e,⟨G,ad⟩,j,H,hm⟩:=E;obtain⟨d,g,⟨O',bH,ag,I,al,L⟩,M,N,P,Q⟩:=Db j x ar;have S:∃aS,(xu bT o.tmps).run c b=.ok aS b/\D.rd (W b) e (aM d) aS:=by
  have an:=FO N P;by_cases T:g.length=1;obtain⟨R,rfl⟩:=rC.1 T;have V:d.length=1:=by rw[<-M];rfl
  obtain⟨r,rfl⟩:=rC.1 V;refine⟨R,?_,Q 0 R r rfl rfl⟩;exact ar;refine⟨.tuple g.toArray,?_,?_⟩;grind;have:aM d=.eQ d:=by cases d with|nil=>rfl|cons r d=>cases d with|nil=>exact aj|cons bC ys=>rfl
  rw[this];refine⟨g.toArray,rfl,y,(D.ld _ _ _).2 λk i hk=>?_⟩;have ao:k<g.length:=by have:=(bq.1 hk).1;omega
  exact⟨g[k],Y,ak⟩
 obtain⟨aS,hv,ab⟩:=S;have ax:bodyPost c bT (λf b=>∃aS e i O' bH,f=.returned aS/\K i O' bH/\D.rd (W b) e i aS/\iA (W b) e O'/\eI (λid=>nx<=id) (W C) u O (W b) e O'/\Fr O' bH/\nx<=bH) .ret o b:=⟨j.df,aS,hv,aS,e,aM d,O',bH,rfl,L,ab,j.inv.sub ar,H.sub ar,ar,I⟩
 rcases G with rfl|rfl;exact ar;exact ar;cases a;cases a;cases a
end
end Go.Dl
variable {f:List AT}
namespace Go.Dl
section
variable {c:cR}(e:mu c)
include e
theorem pC:∀(i:av) {d:St} {ag j:aV->St->Prop},(∀k l,ag k l->j k l)->bx c i d ag->bx c i d j
 |.skip,_,_,_,g,f=>g _ _ f|.ret,_,_,_,g,f=>g _ _ f|.qm,_,_,_,_,f=>f.elim|.exit _,_,_,_,g,f=>g _ _ f|.dg dH m L,d,ag,j,g,f=>by intro n;have f:=f n;cases m with|false=>exact DU e L (λ_ h=>g _ _ h) f|true=>obtain⟨o,f⟩:=f;exact⟨o,rK e L (λ_ _ h=>g _ _ h) f⟩
 |.seq a b,d,ag,j,g,f=>by refine pC a (λk l h=>?_) f;cases k with|normal=>exact pC b g h|_=>exact g _ _ h
 |.cond u a b,d,ag,j,g,f=>by
  simp[bx]at f⊢;split at f;rename_i k
  (try simp[])
  split at f;exact pC a g f;exact pC b g f;omega
 |.block id a,d,ag,j,g,f=>by refine pC a (λk l h=>?_) f;grind|.loop a,d,ag,j,g,f=>by obtain⟨p,q,f⟩:=f;refine⟨p,q,λr l s=>pC a (λk t h=>?_) (f r l s)⟩;grind
end
theorem DR{e:St}:∀(f:List AT) {K c:List D->Prop},(∀l,K l->c l)->jt e f K->jt e f c
 |[],_,_,b,a=>aj|.t _::f,_,_,b,a=>DR f (λ_ d=>b _ d) a
 |.cell k i w::f,K,c,b,a=>by
  simp[jt]at a⊢;split at a;rename_i j
  (try simp[])
  split at a;rename_i m
  (try simp[])
  obtain⟨g,h,a⟩:=a;refine⟨g,h,?_⟩;split at a;rename_i n
  (try simp[])
  split at a;rename_i o
  (try simp[])
  exact DR f (λ_ d=>b _ d) a;omega;omega;omega;omega
section
variable {c:cR}
@[simp ↓]def mD:bx c .skip d ag=ag .normal d:=_root_.id rfl
@[simp ↓]def Wc:bx c .ret d ag=ag .ret d:=_root_.id rfl
@[simp ↓]def Lo:bx c (.exit id) d ag=ag (.exit id) d:=_root_.id rfl
@[simp ↓]def bF:bx c (.seq a b) d ag=bx c a d λe f=>match e with|.normal=>bx c b f ag|e=>ag e f:=_root_.id rfl
def sC:D->Prop->Prop->Prop|.p (.v (.bool t)),A,B=>(t=aa->A)/\(t=Z->B)|_,_,_=>False
@[simp ↓]def az{a:Bool}{A B:Prop}:sC (.p (.v (.bool a))) A B=((a=aa->A)/\(a=Z->B)):=_root_.id rfl
@[simp ↓]def kA{e:dh}:bx c (.cond e a b) d ag=sC (d.ev e) (bx c a d ag) (bx c b d ag):=by
 simp[bx];cases d.ev e with
 |p r=>cases r with
  |v bC=>cases bC with
   |bool t=>cases t<;>simp
   |_=>rfl
  |_=>rfl
 |_=>rfl
@[simp ↓]def gQ:bx c (.block id a) d ag=bx c a d λe b=>match e with|.exit m=>if m=id then ag .normal b else ag (.exit m) b|e=>ag e b:=_root_.id rfl
@[simp ↓]def dD{a:List aA}:bx c (.dg dH Z a) d ag=∀b:Nat->Nat,eN c a {d with bs:=d.nx,nx:=d.nx+dH,gm:=b} λe=>ag .normal e:=_root_.id rfl
@[simp ↓]def j6{a:St->Prop}:eN c [] d a=a d:=_root_.id rfl
@[simp ↓]def eM{a:Option Nat}{b:St->Prop}:eN c (⟨a,cT,ae,bO⟩::bS) d b=aN c cT d λr O nx=>eN c bS {d with T:=eE d.T a r,O:=O,nx:=nx} b:=_root_.id rfl
@[simp ↓]def bW{a:Option Nat}{f:Bool}{e:St->Prop}:eN c (⟨a,cT,J (w,f),bO⟩::bS) d e=match d.T w with
 |.p (.v (.bool b))=>match(b==f) with|true=>aN c cT d λr O nx=>eN c bS {d with T:=eE d.T a r,O:=O,nx:=nx} e|false=>eN c bS {d with T:=eE d.T a (.p (.v undef))} e
 |.p (.v (.tuple _))=>eN c bS {d with T:=eE d.T a (.p (.v undef))} e|_=>False:=by simp[eN,d9];cases d.T w<;>rfl
@[simp ↓]def ZM{F:ah}{a:St->ah->Prop}:fS c [] d F a=a d F:=_root_.id rfl
@[simp ↓]def El{a:Option Nat}{F:ah}{b:St->ah->Prop}:fS c (⟨a,cT,ae,Z⟩::bS) d F b=aN c cT d λr O nx=>fS c bS {d with T:=eE d.T a r,O:=O,nx:=nx} F b:=_root_.id rfl
@[simp ↓]def It{a:Option Nat}{F:ah}{b:St->ah->Prop}:fS c (⟨a,cT,ae,aa⟩::bS) d F b=aN c cT {d with O:=F} λr O nx=>fS c bS {d with T:=eE d.T a r,nx:=nx} O b:=_root_.id rfl
@[simp ↓]def iF{a:Nat}:d.ev (.t a)=d.T a:=_root_.id rfl
@[simp ↓]def zA{a:P}:d.ev (.c a)=.p a:=_root_.id rfl
@[simp ↓]def ID{a:D}:eE db ae a=db:=_root_.id rfl
def eF(a:Nat->D)(b:Nat)(c:D):Nat->D:=am a b c
@[simp ↓]def dR{a:Nat}{b:D}:eE db (J a) b=eF db a b:=_root_.id rfl
@[simp]def bP{a:Nat}{b:D}:eF db a b k=if k=a then b else db k:=_root_.id rfl
@[simp]def bi{c:Nat->cE}{a:Nat}{b:cE}:am c a b a=b:=by simp[am]
@[simp]def ai{b:Nat->cE}{c:Nat}{d:cE}{a:Nat}(e:a≠c):am b c d a=b a:=by simp[am,e]
@[simp]def oS{b:Nat->cE}{a:Nat}{d c:cE}:am (am b a d) a c=am b a c:=by funext r;simp[am];split<;>rfl
def RZ:List D->Nat->D|[],_=>.p (.v undef)|a::_,0=>a|_::l,b+1=>RZ l b
@[simp ↓]def asw{a:Nat}:RZ [] a=.p (.v undef):=_root_.id rfl
@[simp ↓]def arU{a:D}{b:List D}:RZ (a::b) 0=a:=_root_.id rfl
@[simp ↓]def ara{c:D}{a:List D}{b:Nat}:RZ (c::a) (b+1)=RZ a b:=_root_.id rfl
def Rx:∀(l:List D) (b:Nat),l.getD b (.p (.v undef))=RZ l b|[],b=>Y|a::l,0=>rfl|a::l,b+1=>by simp[kL];exact Rx l b
@[simp ↓]def as6:T0 args t=RZ args t:=Rx args t
@[simp ↓]def asz{a:bB}{b:List bB}:(a::b)[0]? =J a:=Y
@[simp ↓]def asq{c:bB}{a:List bB}{b:Nat}:(c::a)[b+1]? =a[b]? :=Y
@[simp ↓]def atU{a:Nat}:([]:List bB)[a]? =ae:=Y
@[simp ↓]def UN{a:List D->Prop}:jt d [] a=a []:=_root_.id rfl
@[simp ↓]def aug{a:List D->Prop}:jt d (.t k::f) a=jt d f λb=>a (d.T k::b):=_root_.id rfl
@[simp ↓]def aqb{a:Nat}{b:Bool}{c:List D->Prop}:jt d (.cell k a b::f) c=(match d.T k with
 |.ptr id e bA m N=>match d.O id with
  |some (.row h j es)=>h=bA/\j=e/\match es[m]? with
   |some g=>match ba a b (g.drop N) with|some i=>jt d f λl=>c (i::l)|none=>False
   |none=>False
  |_=>False
 |_=>False):=_root_.id rfl
@[simp]def au2:aM [i]=i:=_root_.id rfl
@[simp]def au3{a b:D}{c:List D}:aM (a::b::c)=.eQ (a::b::c):=_root_.id rfl
@[simp]def afA:aM []=.eQ []:=_root_.id rfl
@[simp ↓]def aun{c:cR}{a:PF}{b:List dh}:aN c (.pf a b) d K=(match vL a (b.map d.ev) with|some e=>K (.p e) d.O d.nx|none=>False):=_root_.id rfl
@[simp ↓]def aqw{a:cR}{neg:Bool}:aN a (.lP neg r bC) d K=(match Jp (d.ev r) (d.ev bC) with|some l=>∀b∈l,K (.p (B (b !=neg))) d.O d.nx|none=>False):=_root_.id rfl
@[simp ↓]def asm{a:cR}:aN a .qm d K=False:=_root_.id rfl
@[simp ↓]def asy{a:cR}:bx a .qm d ag=False:=_root_.id rfl
@[simp]def aiw{a b:Int}:vL .mx [.p (.v (.int .i64 a)),.p (.v (.int .i64 b))]=J (I (if b>a then b else a)):=_root_.id rfl
@[simp]def aiM{a b:Int}:vL .mn [.p (.v (.int .i64 a)),.p (.v (.int .i64 b))]=J (I (if b<a then b else a)):=_root_.id rfl
@[simp]def Li{a:Nat}:Jp (.p (.v (.slice ae 0 0))) (.p (.v (.slice ae a k)))=J [aa]:=_root_.id rfl
@[simp]def agu{a:Nat}:Jp (.p (.im es be aP)) (.p (.v (.slice ae a k)))=J (if es.isEmpty then [aa,Z] else [Z]):=_root_.id rfl
@[simp]def ah6{a off:Nat}:Jp (.sl id w off bu be aP) (.p (.v (.slice ae a k)))=J (if bu=0 then [aa,Z] else [Z]):=_root_.id rfl
@[simp]def Z2:Jp (.p (.v (.pointer ae))) (.p (.v (.pointer ae)))=J [aa]:=_root_.id rfl
@[simp]def Sj{a b:Nat}:Jp (.ptr id w a m b) (.p (.v (.pointer ae)))=J [Z]:=_root_.id rfl
@[simp]def ag7{a:List P}:Jp (.p (.ip a)) (.p (.v (.pointer ae)))=J [Z]:=_root_.id rfl
@[simp ↓]def mZ{a:cR}:aN a (.mv r) d K=(K (d.ev r) d.O d.nx):=_root_.id rfl
@[simp ↓]def cV{e:cR}{a b c:dh}:aN e (.pick a b c) d K=(match d.ev a with
 |.p (.v (.bool t))=>match t with|true=>K (d.ev b) d.O d.nx|false=>K (d.ev c) d.O d.nx
 |_=>False):=_root_.id rfl
@[simp ↓]def aq8{c:cR}{nm a:Nat}{b:List P}:aN c (.alloc nm a b) d K=(b.length=a/\K (.ptr (d.bs+nm) (d.gm (d.bs+nm)) a 0 0) (am d.O (d.bs+nm) (J (.row a (d.gm (d.bs+nm)) [b.map .p]))) d.nx):=_root_.id rfl
@[simp ↓]def asp{b:cR}{nm a:Nat}:aN b (.box nm a r) d K=((d.ev r).cells.length=a/\K (.ptr (d.bs+nm) (d.gm (d.bs+nm)) a 0 0) (am d.O (d.bs+nm) (J (.row a (d.gm (d.bs+nm)) [(d.ev r).cells]))) d.nx):=_root_.id rfl
@[simp ↓]def aq2{c:cR}{a:List P}{b:List (Nat×Nat×dh)}:aN c (.build a b) d K=(match fh d.ev (a.map .p) b with|some e=>K (cF e) d.O d.nx|none=>False):=_root_.id rfl
@[simp ↓]def wd{e:cR}{nm a:Nat}{b:List P}{c:List (Nat×dh)}:aN e (.bQ nm a k b c) d K=(match fP d.ev a (fL k (b.map .p)) c with
 |some es=>match dp es with|some f=>BS (K (.p (.im f a aa)) d.O d.nx) λ_=>K (.sl (d.bs+nm) (d.gm (d.bs+nm)) 0 k a Z) (am d.O (d.bs+nm) (J (.row a (d.gm (d.bs+nm)) es))) d.nx|none=>K (.sl (d.bs+nm) (d.gm (d.bs+nm)) 0 k a Z) (am d.O (d.bs+nm) (J (.row a (d.gm (d.bs+nm)) es))) d.nx
 |none=>False):=_root_.id rfl
@[simp ↓]def adb{c:cR}{a:Nat}{b:Bool}:aN c (.load a cU r b) d K=(match d.ev r with
 |.p (.ip e)=>match ft a cU e with|some i=>K (.p i) d.O d.nx|none=>False
 |.ptr id w bA m N=>
  match d.O id with
  |some (.row f h es)=>f=bA/\h=w/\(b=aa->id<d.bs)/\
   match es[m]? with
   |some g=>match ba a cU (g.drop N) with|some i=>K i d.O d.nx|none=>False
   |none=>False
  |_=>False
 |_=>False):=_root_.id rfl
@[simp ↓]def Jo{f:cR}{a:Nat}{b:Bool}:aN f (.store a r aS b) d K=(match d.ev r with
 |.ptr id w bA m N=>
  match d.O id with
  |some (.row c e es)=>c=bA/\e=w/\(b=aa->d.bs<=id)/\(d.ev aS).cells.length=a/\
   match es[m]? with|some g=>N+a<=g.length/\K .any (am d.O id (J (.row c e (es.set m (bI g (d.ev aS).cells N))))) d.nx|none=>False
  |_=>False
 |_=>False):=_root_.id rfl
@[simp ↓]def abk{c:cR}:aN c (.lY r) d K=(match d.ev r with|.ptr id w e m N=>K (.ptr id w e m N) d.O d.nx|.p (.ip a)=>K (.p (.ip a)) d.O d.nx|.fn (.func aP) b a=>K (.fn (.func aP) b a) d.O d.nx|.p (.fn (.func aP) b a)=>K (.p (.fn (.func aP) b a)) d.O d.nx|_=>False):=_root_.id rfl
@[simp ↓]def sI{b:cR}{a:iH}:aN b (.lS a t r bC) d K=(binOp a t (d.ev r) (d.ev bC) λc=>K (.p c) d.O d.nx):=_root_.id rfl
@[simp ↓]def atZ{b:cR}{a:UnOp}:aN b (.un a r) d K=(unOp a (d.ev r) λc=>K (.p c) d.O d.nx):=_root_.id rfl
@[simp ↓]def ary{b:cR}{a:cY}:aN b (.zf a r) d K=(match d.ev r with|.p (.v (.int _ c))=>K (.p (.v (.int a (a.wrap c)))) d.O d.nx|_=>False):=_root_.id rfl
@[simp ↓]def ar1{b:cR}:aN b (.yS r) d K=(match d.ev r with|.p (.v (.int _ c))=>K (.p (S (Utf8.encode c))) d.O d.nx|.p (.v (.string a))=>K (.p (S a)) d.O d.nx|_=>False):=_root_.id rfl
@[simp ↓]def asA{b:cR}:aN b (.EN r) d K=(match fF d.O 1 (d.ev r) with
 |some es=>match Kv es ⟨#[]⟩ with|some a=>K (.p (S a)) d.O d.nx|none=>False
 |none=>False):=_root_.id rfl
@[simp ↓]def asC{b:cR}:aN b (.KX r) d K=(match d.ev r with|.p (.v (.string a))=>K (.p (.im (mC a) 1 Z)) d.O d.nx|_=>False):=_root_.id rfl
@[simp ↓]def Nj{a:cR}{off:Nat}:aN a (.fa r off) d K=(match d.ev r with|.ptr id w b m N=>K (.ptr id w b m (N+off)) d.O d.nx|.p (.ip c)=>K (.p (.ip (c.drop off))) d.O d.nx|_=>False):=_root_.id rfl
@[simp ↓]def asx{b:cR}{off a:Nat}:aN b (.yK r off a cU) d K=(match d.ev r with
 |.p (.agg c)=>match ft a cU (c.drop off) with|some i=>K (.p i) d.O d.nx|none=>False
 |.agg e=>match ba a cU (e.drop off) with|some i=>K i d.O d.nx|none=>False
 |_=>False):=_root_.id rfl
def LL(a:Nat)(c d:D)(b:D->Prop):Prop:=
 match d with
 |.p (.v (.int _ k))=>
  match c with
  |.sl id w off bu bA _=>bA=a/\0<=k/\k<bu/\b (.ptr id w a (off+k.toNat) 0)|.p (.im es bA _)=>bA=a/\0<=k/\match es[k.toNat]? with|some g=>b (.p (.ip g))|none=>False
  |_=>False
 |_=>False
@[simp ↓]def Wg{a:Nat}{b:dh}:aN c (.ti a r b) d K=LL a (d.ev r) (d.ev b) λi=>K i d.O d.nx:=_root_.id rfl
@[simp ↓]def ass{e:cR}{c:dh}:aN e (.IL r c) d K=(match d.ev c with
 |.p (.v (.int _ k))=>
  match d.ev r with
  |.p (.v (.string a))=>0<=k/\match a[k.toNat]? with|some b=>K (.p (.v (.int .u8 b.toNat))) d.O d.nx|none=>False
  |_=>False
 |_=>False):=_root_.id rfl
@[simp ↓]def Wn{f:cR}{c:Nat}{b:Option dh}:aN f (.tZ c r aR aB b) d K=(match d.ev r with
 |.sl id w off bu bA e=>bA=c/\
  jK d.ev bu bu (λbe=>jK d.ev bu be (λa=>jK d.ev 0 a (λl=>
   (e=aa->b.isSome=aa\/a=bu)/\
   K (if b.isSome&& !(decide (a=be)) then .any else .sl id w (off+l) (a-l) c (if b.isSome then aa else e)) d.O d.nx) aR) aB) b
 |.p (.im es bA e)=>bA=c/\
  jK d.ev es.length es.length (λbe=>jK d.ev es.length be (λa=>jK d.ev 0 a (λl=>
   (b.isSome=aa->a=be)/\
   K (.p (.im ((es.take a).drop l) c (if b.isSome then aa else(e&&decide (a=es.length))))) d.O d.nx) aR) aB) b
 |.p (.v (.slice ae 0 0))=>jK d.ev 0 0 (λbe=>jK d.ev 0 be (λa=>jK d.ev 0 a (λ_=>K (.p (.v (.slice ae 0 0))) d.O d.nx) aR) aB) b|_=>False):=_root_.id rfl
@[simp ↓]def aso{c:cR}:aN c (.Il r aR aB) d K=(match d.ev r with|.p (.v (.string a))=>jK d.ev a.size a.size (λb=>jK d.ev 0 b (λl=>K (.p (S (a.extract l b))) d.O d.nx) aR) aB|_=>False):=_root_.id rfl
@[simp ↓]def asr{f:cR}{nm a:Nat}{b:List P}{c e:dh}:aN f (.Hx nm a cJ b c e) d K=(match d.ev c,d.ev e with
 |.p (.v (.int .i64 l)),.p (.v (.int .i64 u))=>0<=l/\l<=u/\u*cJ<=2^47/\u<=2^47/\b.length=a/\0<a/\
  K (.sl (d.bs+nm) (d.gm (d.bs+nm)) 0 l.toNat a Z) (am d.O (d.bs+nm) (J (.row a (d.gm (d.bs+nm)) (fL l.toNat (b.map .p))))) d.nx
 |_,_=>False):=_root_.id rfl
def zJ(b:D)(a:D->Prop):Prop:=match b with|.p (.v (.slice ae 0 0))=>a (.p (I 0))|.p (.im es _ _)=>a (.p (I es.length))|.sl _ _ _ bu _ _=>a (.p (I bu))|_=>False
@[simp ↓]def Km:aN c (.len Z r) d K=zJ (d.ev r) λi=>K i d.O d.nx:=_root_.id rfl
@[simp ↓]def arH:aN c (.len aa r) d K=(match d.ev r with|.p (.v (.string a))=>K (.p (I a.size)) d.O d.nx|_=>False):=_root_.id rfl
@[simp ↓]def lB{f:cR}{nm b:Nat}:aN f (.j4 nm b cJ r bC) d K=(
 match fO d.O b (d.ev bC) with
 |none=>False
 |some a=>
  match d.ev r with
  |.p (.v (.slice ae 0 0))=>a.length*cJ<=2^47/\a.length<=2^47/\
   ∀w,K (.sl (d.bs+nm) w 0 a.length b Z) (am d.O (d.bs+nm) (J (.row b w a))) d.nx
  |.p (.im es bA e)=>e=aa/\bA=b/\(es.length+a.length)*cJ<=2^47/\es.length+a.length<=2^47/\(a=[]->K (d.ev r) d.O d.nx)/\
   (a≠[]->∀w,K (.sl (d.bs+nm) w 0 (es.length+a.length) b Z) (am d.O (d.bs+nm) (J (.row b w (es.map (·.map .p)++a)))) d.nx)
  |.sl id w off bu bA e=>
   match d.O id with
   |some (.row g h es)=>bA=b/\g=b/\h=w/\(bu+a.length)*cJ<=2^47/\bu+a.length<=2^47/\
    match e with
    |false=>off=0/\if bu=es.length then∀c,K (.sl id c 0 (bu+a.length) b Z) (am d.O id (J (.row b c (es++a)))) d.nx
     else bu+a.length<=es.length/\K (.sl id w 0 (bu+a.length) b Z) (am d.O id (J (.row b w (es.take bu++a++es.drop (bu+a.length))))) d.nx
    |true=>off+bu<=es.length/\(a=[]->K (d.ev r) d.O d.nx)/\
     (a≠[]->∀c,K (.sl (d.bs+nm) c 0 (bu+a.length) b Z) (am d.O (d.bs+nm) (J (.row b c ((es.drop off).take bu++a)))) d.nx)
   |_=>False
  |_=>False):=_root_.id rfl
@[simp ↓]def arA{a:cR}:aN a (.Fx r) d K=(
 match d.ev r with|.p (.v (.slice ae 0 0))=>K (.p (I 0)) d.O d.nx|_=>False):=_root_.id rfl
@[simp ↓]def asa{e:cR}{nm a:Nat}{b:List P}{c:dh}:aN e (.Ed nm a cJ b r c) d K=(
 match d.ev r,d.ev c with
 |.p (.v (.slice ae 0 0)),.p (.v (.int .i64 k))=>0<k/\k*cJ<=2^47/\k<=2^47/\b.length=a/\0<a/\
  ∀w,K (.sl (d.bs+nm) w 0 k.toNat a Z) (am d.O (d.bs+nm) (J (.row a w (fL k.toNat (b.map .p))))) d.nx
 |_,_=>False):=_root_.id rfl
@[simp ↓]def ast{a:cR}{nm:Nat}{b:D}:aN a (.Av nm b) d K=(
 BS (K (.mp (d.bs+nm) (d.gm (d.bs+nm))) (am d.O (d.bs+nm) (J (.map (d.gm (d.bs+nm)) 0 []))) d.nx)
  λ_=>K (.mp (d.bs+nm) (d.gm (d.bs+nm))) (am d.O (d.bs+nm) (J (.iq (d.gm (d.bs+nm)) λ_=>ae))) d.nx):=_root_.id rfl
@[simp ↓]def arB{f:cR}{a:D}{b:Bool}{c:dh}:aN f (.sQ eJ a b r c) d K=(
 match d.ev r,d.ev c with
 |.mp id w,.p kp=>id<d.bs/\match d.O id with
  |some e=>uN e=J w/\match KP eJ kp e with|some g=>K (vr b a g) d.O d.nx|none=>False
  |none=>False
 |_,_=>False):=_root_.id rfl
@[simp ↓]def ard{e:cR}{a:dh}:aN e (.qx eJ r a aS) d K=(
 match d.ev r,d.ev a with
 |.mp id w,.p kp=>match d.O id with
  |some c=>uN c=J w/\match Fv eJ kp (d.ev aS) c with|some b=>K .any (am d.O id (J b)) d.nx|none=>False
  |none=>False
 |_,_=>False):=_root_.id rfl
@[simp ↓]def aof{c:cR}{a:ZL}{nm:Nat}{b:List dh}:aN c (.m a nm b) d K=(
 th a (d.bs+nm) (d.gm (d.bs+nm)) (b.map d.ev) d.O λi O=>K i O d.nx):=_root_.id rfl
@[simp ↓]def asB{c:cR}{a:Nat}{b:List P}:aN c (.GF a b r) d K=(
 match d.ev r with
 |.p (.v (.slice ae 0 0))=>K (.eQ []) d.O d.nx|.sl id w off bu bA _=>bA=a/\b.length=a/\0<a/\match d.O id with|some (.row e f es)=>e=a/\f=w/\off+bu<=es.length/\K (.eQ []) (am d.O id (J (.row a w (es.take off++fL bu (b.map .p)++es.drop (off+bu))))) d.nx|_=>False
 |_=>False):=_root_.id rfl
@[simp ↓]def agF{a:cR}:aN a (.ext r m) d K=(match d.ev r with
 |.eQ b=>match b[m]? with|some i=>K i d.O d.nx|none=>False
 |_=>False):=_root_.id rfl
@[simp ↓]def RF{a:cR}{b:cB}{c:List dh}:aN a (.call b c) d K=(a b (c.map d.ev) d.O d.nx K):=_root_.id rfl
@[simp ↓]def aqK{a:cR}{b:List dh}:aN a (.iI r b) d K=(match d.ev r with|.fn (.func aP) c e=>a aP (c++b.map d.ev++e) d.O d.nx K|.p (.fn (.func aP) c e)=>a aP (c.map .p++b.map d.ev++e.map .p) d.O d.nx K|_=>False):=_root_.id rfl
@[simp ↓]def asv{c:cR}{a:Fn}{first b:List dh}:aN c (.Ho a first b) d K=(K (.fn a (first.map d.ev) (b.map d.ev)) d.O d.nx):=_root_.id rfl
end
@[simp]def SE:aX [] O=O:=by funext id;simp[aX]
@[simp]def Lm:only [] O=λ_=>ae:=by funext id;simp[only]
@[simp]def Kz:bp O (λ_=>ae)=O:=by funext id;simp[bp];cases O id<;>rfl
def yJ.refl(a:ah):yJ a a:=λ_=>Y
inductive Sl(d:Nat):P->List (List P)->Prop|nil:Sl d (.v (.slice ae 0 0)) []|im (es:List (List P)) (full:Bool):Sl d (.im es d full) es
def dO{c:Nat}{a:P}{b:D->Prop}(d:Sl c a es):zJ (.p a) b=b (.p (I es.length)):=by cases d<;>rfl
def dm{b:Nat}{c:P}{a:Int}{kd:cY}{d:D->Prop}(e:Sl b c es):LL b (.p c) (.p (.v (.int kd a))) d=(0<=a/\match es[a.toNat]? with|some g=>d (.p (.ip g))|none=>False):=by cases e<;>simp[LL]
def vV{a:Nat}{b:P}(c:Sl a b es):fO O a (.p b)=J (es.map (·.map .p)):=by cases c<;>simp[fO,fF]
def W4{a:Nat}{b:P}(c:Sl a b es):fF O a (.p b)=J (es.map (·.map .p)):=by cases c<;>simp[fF]
@[simp]def asn{off b:Nat}{a:D->Prop}:zJ (.sl id w off bu b aP) a=a (.p (I bu)):=_root_.id rfl
@[simp]def asu{b:Nat}{a:D->Prop}:zJ (.p (.im es b aP)) a=a (.p (I es.length)):=_root_.id rfl
@[simp]def arN{a:D->Prop}:zJ (.p (.v (.slice ae 0 0))) a=a (.p (I 0)):=_root_.id rfl
@[simp]def aib{off b:Nat}{kd:cY}{a:Int}{c:D->Prop}:LL b (.sl id w off bu bA aP) (.p (.v (.int kd a))) c=(bA=b/\0<=a/\a<bu/\c (.ptr id w b (off+a.toNat) 0)):=_root_.id rfl
@[simp]def ags{b:Nat}{kd:cY}{a:Int}{c:D->Prop}:LL b (.p (.im es bA aP)) (.p (.v (.int kd a))) c=(bA=b/\0<=a/\match es[a.toNat]? with|some g=>c (.p (.ip g))|none=>False):=_root_.id rfl
@[simp]def jL{l:List P}:cF (l.map .p)=.p (.agg l):=by simp[cF,nV]
@[simp]def aue{a:P}:cF [.p a]=.p (.agg [a]):=jL (l:=[a])
@[simp]def au1{a b:P}:cF [.p a,.p b]=.p (.agg [a,b]):=jL (l:=[a,b])
@[simp]def asJ{a b c:P}:cF [.p a,.p b,.p c]=.p (.agg [a,b,c]):=jL (l:=[a,b,c])
@[congr]def apg{a:D}{b:D->Prop}(c:a=dT):zJ a b=zJ dT b:=by rw[c]
@[congr]def aoG{a:Nat}{b c d:D}{e:D->Prop}(f:b=dT)(g:c=d):LL a b c e=LL a dT d e:=U
@[congr]def aom{a:cR}{b:av}:bx a b d ag=bx a b d ag:=Y
@[congr]def an1{a:cR}{b:List aA}{c:St->Prop}:eN a b d c=eN a b d c:=Y
@[congr]def ang{a:cR}{b:List aA}{F:ah}{c:St->ah->Prop}:fS a b d F c=fS a b d F c:=Y
@[congr]def ap0{a:cR}{b:fG}:aN a b d K=aN a b d K:=Y
@[congr]def aqy{a:Program}{b:cB}{c d:List D}(e:c=d)(f:O=O'):X a b c O nx K=X a b d O' nx K:=U
def yJ.low(a:Fr O nx)(b:∀id,id<nx->O' id=O id):yJ O O':=λid=>by by_cases aB:id<nx;exact U;exact .inl (a id y)
structure ji(nx:Nat)(K:D->ah->Nat->Prop)(O:ah)(bH:Nat)(i:D):Prop where
 h:∃O' nx'',yJ O' O/\nx<=nx''/\Fr O' nx''/\K i O' nx''
def ji.d8(a:Fr O bH)(b:nx<=bH)(h:K i O bH):ji nx K O bH i:=⟨O,bH,yJ.refl O,b,a,h⟩
def ji.aX(a:yJ O' O)(b:Fr O' bH)(c:nx<=bH)(h:K i O' bH):ji nx K O bH i:=⟨O',bH,a,c,b,h⟩
def zY:av->av|.dg u i L=>.dg u (i&&L.any (·.fc)) L|.seq a b=>.seq (zY a) (zY b)|.cond u a b=>.cond u (zY a) (zY b)|.block m a=>.block m (zY a)|.loop a=>.loop (zY a)|u=>u
def Mq{a:cR}(f:mu a){F:ah}:∀(l:List aA) {d:St} {K:St->Prop} {b:St->ah->Prop},l.any (·.fc)=Z->(∀d,K d->b d F)->eN a l d K->fS a l d F b|[],_,_,_,_,c,e=>c _ e|bn::l,d,K,b,g,c,e=>by simp only[List.any_cons,Jt]at g;simp[fS,g.1];exact rJ f (λi h=>Mq f l U c h) e
def pV{g:cR}(e:mu g):∀(i:av) {d:St} {ag:aV->St->Prop},bx g (zY i) d ag->bx g i d ag
 |.skip,_,_,c=>c|.ret,_,_,c=>c|.qm,_,_,c=>c|.exit _,_,_,c=>c|.dg dH m L,d,ag,c=>by simp[zY]at c;cases k:m with|false=>rw[k]at c;exact c|true=>rw[k]at c;simp[Be]at c;cases h:L.any (·.fc) with|true=>rw[h]at c;exact c|false=>rw[h]at c;intro n;refine⟨[],?_⟩;simp[Lm];exact Mq e L h (λj f=>by rw[Kz];exact f) (c n)
 |.seq a b,d,ag,c=>by refine pC e a (λl j f=>?_) (pV e a c);cases l with|normal=>exact pV e b f|_=>exact f
 |.cond u a b,d,ag,c=>by
  simp only[zY,bx]at c⊢;split at c;rename_i l
  (try simp[])
  split at c;exact pV e a c;exact pV e b c;omega
 |.block id a,d,ag,c=>pV e a c|.loop a,d,ag,c=>by obtain⟨o,p,c⟩:=c;exact⟨o,p,λq j r=>pV e a (c q j r)⟩
def aoq(F:d6):d6:={F with body:=zY F.body}
def cW(a:Program)(b:Func):Option d6:=(Th a b).map aoq
def ji.low{a d:ah}{b c:Nat}{e:D}{f:D->ah->Nat->Prop}(g:Fr a b)(i:b<=c)(j:∀id,id<b->d id=a id)(h:f e a c):ji b f d c e:=⟨a,c,yJ.low g j,i,λk l=>g k y,h⟩
def X.of{a:Program}{d:cB}{F:d6}(f:a.funcs[d]? =J bT)(b:cW a bT=J F)(g:args.length<=F.n)(h:Fr O nx->bx (X a) F.body (cN args O nx) λe c=>(e=.normal\/e=.ret)/\jt c F.rs λi=>ji nx K c.O c.nx (aM i)):X a d args O nx K:=by unfold cW at b;rw[bj]at b;obtain⟨n,j,rfl⟩:=b;exact X.apr f j g λk=>pC br _ (λ_ _ l=>⟨U,DR _ (λ_ m=>m.h) l.2⟩) (pV br _ (h k))
theorem Fr.am{c:ah}{a id:Nat}{b:Option fg}(d:Fr c a)(e:id<a):Fr (am c id b) a:=by intro k f;exact aj
def Fr.mono{a:Nat}(b:Fr O a)(c:a<=be):Fr O be:=λk d=>b k y
theorem yd{a:Option fg}(b:O id=a):Dl.am O id a=O:=by funext k;simp only[Dl.am];grind
def iW(a:bB->Bool)(b:List bB):Int:=match b.findIdx? a with|some m=>m|none=> -1
theorem Ct{a:bB->Bool}{b:List bB}(c:∀g∈b,a g=Z):iW a b= -1:=by unfold iW;grind
def yZ{pr:bB->Bool}{a:List bB}{b:bB}(c:a[m]? =J b)(e:pr b=aa)(f:∀N d,N<m->a[N]? =J d->pr d=Z):iW pr a=m:=by
 unfold iW;have g:=(bq.1 c).1;have h:=(bq.1 c).2;have:a.findIdx? pr=J m:=by rw[ms];refine⟨g,by rw[h];exact e,λN i=>?_⟩;simp[f N a[N] i Y]
 rw[this]
theorem qC{pr:bB->Bool}{es:List bB}: -1<=iW pr es:=by unfold iW;grind
theorem pP{pr:bB->Bool}{es:List bB}:iW pr es<es.length:=by unfold iW;split;rename_i m a;have:=ms.1 a;grind;omega
theorem Ur{a:bB->Bool}{b:List bB}(c:0<=iW a b):∃g,b[(iW a b).toNat]? =J g/\a g=aa:=by unfold iW at c⊢;split;rename_i m aB;obtain⟨d,e,_⟩:=ms.1 aB;exact U;grind
theorem WU{a:bB->Bool}{b:List bB}(c:iW a b<0):∀g∈b,a g=Z:=by unfold iW at c;grind
def mF:List P->ByteArray|.v (.string a)::_=>a|_=>⟨#[]⟩
def QN:List P->ByteArray|_::.v (.string a)::_=>a|_=>⟨#[]⟩
def named(a:ByteArray)(b:List P):Bool:=(mF b).toList==a.toList
inductive lj(es:List (List P)):Int->List Int->Prop|FB (m:Int) (h:m<0):lj es m []|step (m:Nat) (g:List P) (l:List Int) (hr:es[m]? =J g) (h:lj es (iW (named (QN g)) es) l):lj es m (l++[(m:Int)])
theorem lj.range{a:List Int}(b:lj es N a):∀m∈a,0<=m/\m<es.length:=by induction b with|FB m b=>simp|step m g a c b ih=>grind
def lj.ne{a:List Int}(b:lj es N a)(c:0<=N):a≠[]:=by cases b with|FB m b=>omega|step=>simp
theorem lj.inj{c:List Int}(d:lj es N c):∀{a:List Int},lj es N a->c=a:=by
 induction d with
 |FB m d=>intro a b;cases b with|FB=>rfl|step=>omega
 |step m g c e d ih=>intro a b;generalize f:(m:Int)=N at b;cases b with|FB=>omega|step h i j k l=>grind
def oQ:P->List (List P)|.im es _ _=>es|_=>[]
def kw(b:List (List P))(c:List P):Nat:=match c with
 |_::.v (.int _ k)::.v (.string d)::bS=>
  (if decide (0<k)&&(oQ (bS.getD 5 (.v undef))).isEmpty then 1 else 0)+
   (if k=0 then(b.map λr=>match r with|.v (.string a)::e::_=>if a.toList==d.toList then(oQ e).length else 0|_=>0).sum else 0)
 |_=>0
def mG(a:List (List P))(b:List P):Nat:=((oQ (b.getD 6 (.v undef))).map (kw a)).sum
def mK:List P->Bool|_::.v (.int _ k)::_=>k==1|_=>Z
def uT(a:List P):Nat:=((oQ (a.getD 7 (.v undef))).filter mK).length
def sF(a:List P->Nat)(b:List (List P))(c:List Int):Nat:=(c.map λm=>a (b.getD m.toNat [])).sum
end Go.Dl
namespace Go.Dl.Ai
section
structure F where
 x:Nat
 y:Nat
 c:Int
def F.ok(b:Nat->Int)(a:F):Prop:=b a.x-b a.y<=a.c
def ltI:Int->Int->Bool|.ofNat a,.ofNat b=>eY (a+1) b|.negSucc _,.ofNat _=>aa|.ofNat _,.negSucc _=>Z|.negSucc a,.negSucc b=>eY (b+1) a
inductive Gs where|nil|node (bn m:List (Nat×Int)) (l g:Gs)
def Gs.get:Gs->Nat->List (Nat×Int)×List (Nat×Int)|.nil,_=>([],[])|.node bn m l g,a=>if eY a 1 then(bn,m) else if au (a%2) 0 then l.get (a/2) else g.get (a/2)
def Gs.FN(c:Gs)(a:Nat×Int)(b:Bool):Gs:=match c with|.nil=>if b then .node [a] [] .nil .nil else .node [] [a] .nil .nil|.node bn m l g=>if b then .node (a::bn) m l g else .node bn (a::m) l g
def Gs.Bq(b:Nat×Int)(c:Bool):Nat->Nat->Gs->Gs|0,_,t=>t|n+1,a,t=>if eY a 1 then t.FN b c else match t with|.nil=>if au (a%2) 0 then .node [] [] (Bq b c n (a/2) .nil) .nil else .node [] [] .nil (Bq b c n (a/2) .nil)|.node bn m l g=>if au (a%2) 0 then .node bn m (Bq b c n (a/2) l) g else .node bn m l (Bq b c n (a/2) g)
def Gs.add(b:Gs)(a:F):Gs:=Gs.Bq (a.x,a.c) Z 24 (a.y+1) (Gs.Bq (a.y,a.c) aa 24 (a.x+1) b)
def Gs.zj:List F->Gs->Gs|[],a=>a|aP::g,a=>Gs.add (Gs.zj g a) aP
def Gs.Has(b:Gs)(a:F):Prop:=(a.y,a.c)∈(b.get (a.x+1)).1\/(a.x,a.c)∈(b.get (a.y+1)).2
instance:Membership F Gs:=⟨Gs.Has⟩
def Gs.O8{b:F}:¬b∈Gs.nil:=by intro a;have a:Gs.Has .nil b:=a;simp[Gs.Has,Gs.get]at a
theorem Gs.adN{d:Gs}{e:Nat×Int}{c b:Nat}(W:eY c 1=aa)(g:0<c)(h:0<b):
 (∀a,a∈((d.FN e out).get b).1->a∈(d.get b).1\/(out=aa/\c=b/\a=e))/\(∀a,a∈((d.FN e out).get b).2->a∈(d.get b).2\/(out=Z/\c=b/\a=e)):=by
 have W:c<=1:=iB W;have:c=1:=y;subst this;cases d<;>cases out<;>simp only[Gs.FN,fN,dC,aT,Gs.get]<;>
 .by_cases f:eY b 1=aa
  .have:b=1:=by have:=iB f;omega
   subst this;simp;try exact U
  simp only[f];grind
theorem Gs.Lf{e:Nat×Int}{out:Bool}:∀{n p:Nat} {t:Gs} {q:Nat},0<p->0<q->
 (∀a,a∈((Gs.Bq e out n p t).get q).1->a∈(t.get q).1\/(out=aa/\p=q/\a=e))/\(∀a,a∈((Gs.Bq e out n p t).get q).2->a∈(t.get q).2\/(out=Z/\p=q/\a=e))
 |0,p,t,q,_,_=>⟨aj,aj⟩
 |n+1,p,t,q,k,o=>by
  simp only[Gs.Bq];split;rename_i W;exact Gs.adN W k o;rename_i W;have W:¬p<=1:=λf=>W (qZ f);have j:∀(l:Gs),¬q<=1->p%2=q%2->(∀a,a∈((Gs.Bq e out n (p/2) l).get (q/2)).1->a∈(l.get (q/2)).1\/(out=aa/\p=q/\a=e))/\(∀a,a∈((Gs.Bq e out n (p/2) l).get (q/2)).2->a∈(l.get (q/2)).2\/(out=Z/\p=q/\a=e)):=by intro l c d;have:=Gs.Lf (e:=e) (out:=out) (n:=n) (p:=p/2) (t:=l) (q:=q/2) y y;refine⟨λa r=>?_,λa r=>?_⟩;grind;grind
  have i:∀{a b:Nat},¬au a b=aa->a≠b:=λf e=>f U;cases t with|nil=>dsimp only;split;rename_i d;have d:=aK d;simp only[Gs.get];split;simp;rename_i c;have c:¬q<=1:=λf=>c (qZ f);split;rename_i h;have h:=aK h;have:=j .nil c y;exact ar;simp;rename_i d;have d:=i d;simp only[Gs.get];split;simp;rename_i c;have c:¬q<=1:=λf=>c (qZ f);split;simp;rename_i h;have h:=i h;have:=j .nil c y;exact ar|node bn m l g=>dsimp only;split;rename_i d;have d:=aK d;simp only[Gs.get];split;grind;rename_i c;have c:¬q<=1:=λf=>c (qZ f);split;rename_i h;have h:=aK h;grind;grind;rename_i d;have d:=i d;simp only[Gs.get];split;grind;rename_i c;have c:¬q<=1:=λf=>c (qZ f);grind
theorem Gs.aiW{c:Gs}{a b:F}(h:b∈c.add a):b=a\/b∈c:=by
 have h:=h;unfold Gs.Has Gs.add at h;have f:=λ{d:Nat}=>Gs.Lf (e:=(a.x,a.c)) (out:=Z) (n:=24) (p:=a.y+1) (t:=Gs.Bq (a.y,a.c) aa 24 (a.x+1) c) (q:=d);have g:=λ{d:Nat}=>Gs.Lf (e:=(a.y,a.c)) (out:=aa) (n:=24) (p:=a.x+1) (t:=c) (q:=d);have i:∀b,Gs.Has c b->b∈c:=aj;rcases h with h|h
 rcases(f y y).1 _ h with h|⟨j,_,_⟩;rcases(g y y).1 _ h with h|⟨_,k,l⟩;exact .inr aj;cases a;cases b;grind;grind;rcases(f y y).2 _ h with h|⟨_,k,l⟩;rcases(g y y).2 _ h with h|⟨j,_,_⟩;exact .inr (i b (.inr h));grind;cases a;cases b;grind
def Gs.tH{a:F}:∀{c:List F} {b:Gs},a∈Gs.zj c b->a∈c\/a∈b|[],_,h=>.inr h|aP::g,b,h=>by rcases Gs.aiW h with rfl|h;simp;rcases Gs.tH h with h|h;exact U;exact U
def ya:List (Nat×Int)->Nat->Option Int|[],_=>ae|(d,i)::g,r=>if au d r then J i else ya g r
def Ke(a:Int):List (Nat×Int)->List (Nat×Int)->List Nat->List (Nat×Int)×List Nat|[],D,t=>(D,t)|(R,C)::g,D,t=>match ya D R with|some b=>if ltI (vP a C) b then Ke a g ((R,vP a C)::D) (if au R 0 then t else R::t) else Ke a g D t|none=>Ke a g ((R,vP a C)::D) (if au R 0 then t else R::t)
def O7(a:Gs)(b:Bool):Nat->List Nat->List (Nat×Int)->List (Nat×Int)|0,_,D=>D|_+1,[],D=>D|n+1,c::t,D=>match ya D c with|some i=>let g:=Ke i (if b then(a.get (c+1)).1 else(a.get (c+1)).2) D t;O7 a b n g.2 g.1|none=>O7 a b n t D
def aeX(b:Gs)(a:Nat):List (Nat×Int):=O7 b aa 200 [a] [(a,0)]
def toY(b:Gs)(a:Nat):List (Nat×Int):=O7 b Z 200 [a] [(a,0)]
def adM(a b:Option Int):Option Int:=match a,b with|some a,J b=>if ltI a b then J a else J b|some a,ae=>J a|none,b=>b
def arF(a b:Option Int):Option Int:=match a,b with|some a,J b=>J (vP a b)|_,_=>ae
def bd(b:Gs)(c a:Nat):Option Int:=
 if au c a then J 0
 else if au c 0 then ya (toY b a) 0
 else
  let D:=aeX b c
  if au a 0 then ya D 0
  else match ya D 0 with|some i=>adM (ya D a) (arF (J i) (ya (toY b a) 0))|none=>ya D a
def VW(a:Nat->Int)(b:Nat)(c:Bool)(D:List (Nat×Int)):Prop:=∀d i,ya D d=J i->if c then a b-a d<=i else a d-a b<=i
theorem FR{a:Nat->Int}{c f:Nat}{e:Bool}{h:Int}(i:if e then a c-a f<=h else a f-a c<=h):∀{es D:List (Nat×Int)} {t:List Nat},VW a c e D->(∀b∈es,if e then a f-a b.1<=b.2 else a b.1-a f<=b.2)->VW a c e (Ke h es D t).1
 |[],_,_,j,_=>j
 |(R,C)::g,D,t,j,l=>by
  have q:=l (R,C) ja;have k:=λb p=>l b (jz _ p);have m:VW a c e ((R,vP h C)::D):=by intro d b n;simp only[ya]at n;split at n;rename_i o;have o:=aK o;grind;exact aj
  simp[Ke];split;split;exact FR i m k;exact FR i j k;exact FR i m k
theorem JX{e:Nat->Int}{g:Nat}{b:Bool}{h:Gs}(c:∀aP∈h,aP.ok e):∀{n:Nat} {t:List Nat} {D:List (Nat×Int)},VW e g b D->VW e g b (O7 h b n t D)|0,_,_,a=>a|_+1,[],_,a=>a|n+1,j::t,D,a=>by simp[O7];split;rename_i i k;refine JX c (FR aj a ?_);intro d f;cases b;simp[fN]at f⊢;exact c ⟨d.1,j,d.2⟩ (.inr f);simp[]at f⊢;exact c ⟨j,d.1,d.2⟩ aj;exact JX c a
theorem Sa{a:Nat}:VW bM a out [(a,0)]:=by intro d i b;simp only[ya]at b;split at b;rename_i c;have c:=aK c;grind;grind
def Gb{c:Gs}(e:∀aP∈c,aP.ok bM){d a:Nat}{b:Int}(f:ya (aeX c d) a=J b):bM d-bM a<=b:=by have:=JX e Sa a b f;exact ar
def ZU{c:Gs}(e:∀aP∈c,aP.ok bM){d a:Nat}{b:Int}(f:ya (toY c d) a=J b):bM a-bM d<=b:=by have:=JX e Sa a b f;exact ar
theorem ahz{b c:Option Int}{a:Int}(d:adM b c=J a):b=J a\/c=J a:=by unfold adM at d;grind
theorem yC{c:Gs}(b:∀aP∈c,aP.ok bM){g d:Nat}{e:Int}(h:bd c g d=J e):bM g-bM d<=e:=by
 unfold bd at h;split at h;rename_i a;have a:=aK a;grind;split at h;rename_i a;have a:=aK a;subst a;exact ZU b h;dsimp at h;split at h;rename_i a;have a:=aK a;subst a;exact Gb b h;split at h;rename_i i j;have l:=Gb b j;rcases ahz h with h|h
 exact Gb b h;cases f:ya (toY c d) 0 with
 |none=>rw[f]at h;cases h
 |some k=>rw[f]at h;have m:=ZU b f;have h:J (i+k)=J e:=h;grind
 exact Gb b h
structure E where
 x:Nat
 c:Int
def E.val(b:Nat->Int)(a:E):Int:=b a.x+a.c
def num(a:Int):E:=⟨0,a⟩
def le(c:Gs)(a b:E):Bool:=match bd c a.x b.x with|some i=>decide (i<=b.c-a.c)|none=>Z
theorem dP{b:Gs}(e:∀aP∈b,aP.ok bM){c d:E}(a:le b c d=aa):c.val bM<=d.val bM:=by unfold le at a;split at a;rename_i i f;have:=yC e f;simp at a;unfold E.val;omega;grind
def top(b:Gs)(a:E):Option Int:=(bd b a.x 0).map (· +a.c)
def zc(b:Gs)(a:E):Option Int:=(bd b 0 a.x).map λi=>a.c-i
def qn{a:Gs}(e:∀aP∈a,aP.ok bM)(g:bM 0=0){b:E}{c:Int}(d:top a b=J c):b.val bM<=c:=by simp[top,bj]at d;obtain⟨i,f,rfl⟩:=d;have:=yC e f;unfold E.val;omega
def qB{a:Gs}(e:∀aP∈a,aP.ok bM)(g:bM 0=0){b:E}{c:Int}(d:zc a b=J c):c<=b.val bM:=by simp[zc,bj]at d;obtain⟨i,f,rfl⟩:=d;have:=yC e f;unfold E.val;omega
class Gh where
 n:Int
 nm:ByteArray->Prop
 kS:ByteArray->Nat->Int
 pre:List (List P)->Prop
 Cb:∀a,nm a->a.size<=12
 sH:∀a N,nm a->0<=kS a N
 ED:∀a,nm a->kS a 0<n
 MX:∀a N,nm a->kS a N<=1000
 NH:List (List P)->Prop
 Ex:∀em aP,NH em->kw em aP<=2
 W9:0<=n
 Us:n<=30
 FD:∀es k,pre es->pre (es.take k)
 pre_nil:pre []
 EP:∀es,pre es->(es.length:Int)<=n
 aeZ:∀a,nm a->a.size≠0
 aa3:∀a b,nm a->nm b->kS a 0=kS b 0->a=b
 Er:∀es (m:Nat) g,pre es->es[m]? =J g->∃a p bS,g=S a::S p::bS/\nm a/\kS a 0=m/\(p.size=0\/(nm p/\kS p 0<m))
 kc:List (List P)->Prop
 kk:List (List P)->Prop
 Ro:∀es fs,kc es->kc (es++fs)
 je:∀em es a l,NH em->pre es->(es.length:Int)=n->nm a->lj es (iW (named a) es) l->kS a 1=sF (mG em) es l/\kS a 2=sF uT es l
variable [Gh]
inductive CT where|int (k:cY) (aR aB:Int)|bool|str (n:Int)|aY (row:List CT) (aR aB:Int)|nil|any|nm (t:Nat)|tu|em (t:Nat)
def Dt(a:Nat):Int:=if eY 6 a then 400 else 100
def jO:List CT->Nat|.nm t::_=>t|.em t::_=>t|_=>0
def whole(a:Nat):Bool:=au a 2||(au a 4||(au a 6||au a 7))
def lO:P->Int|.v (.int _ c)=>c|.v (.bool b)=>if b then 1 else 0|.v (.string a)=>a.size|.im es _ _=>es.length|_=>0
def Dep(b:List P):Prop:=∃a c d,b[0]? =J (S a)/\Gh.nm a/\b[7]? =J c/\b[8]? =J d/\lO c=Gh.kS a 1/\lO d=Gh.kS a 2
def RT(a:Nat)(b:List P):Prop:=if au a 3 then Dep b else True
def LT(b:Nat)(a:List (List P)):Prop:=if au b 1 then Gh.pre a else if au b 2 then Gh.pre a/\(a.length:Int)=Gh.n else if au b 3 then∀g∈a,Dep g else if au b 4 then Gh.NH a else if au b 5 then(a.filter mK).length<=6 else if au b 6 then Gh.kc a else if au b 7 then Gh.kk a else True
mutual
def CT.ok:CT->P->Prop|.int k aR aB,c=>∃d:Int,c=.v (.int k d)/\aR<=d/\d<=aB|.bool,c=>∃b,c=.v (.bool b)|.str d,c=>∃a:ByteArray,c=S a/\(a.size:Int)<=d|.aY e aR aB,c=>∃es,Sl e.length c es/\aR<=es.length/\(es.length:Int)<=aB/\(∀g∈es,Row e g)/\LT (jO e) es|.nil,c=>c=.v (.slice ae 0 0)|.any,c=>c.cells=[c]|.nm _,c=>∃a:ByteArray,c=S a/\Gh.nm a|.tu,c=>∃d:Int,c=.v (.int .i64 d)/\0<=d/\d<Gh.n|.em t,c=>∃a:ByteArray,c=S a/\(a.size:Int)<=Dt t
def Row:List CT->List P->Prop|[],[]=>True|t::a,b::c=>CT.ok t b/\Row a c|_,_=>False
end
def Rows(a:List CT)(b:List (List P)):Prop:=(∀g∈b,Row a g)/\LT (jO a) b
def nF(a:List CT)(b:List P):Prop:=Row a b/\RT (jO a) b
theorem Row.length:∀{b:List CT} {c:List P},Row b c->c.length=b.length|[],[],_=>rfl|[],_::_,a=>aj|_::_,[],a=>aj|_::b,_::c,a=>by simp[Row]at a;simp[Row.length a.2]
theorem Row.get:∀{b:List CT} {c:List P},Row b c->∀(m:Nat) (t:CT),b[m]? =J t->∃d,c[m]? =J d/\CT.ok t d|[],[],_,m,t,a=>by simp at a|[],_::_,a,_,_,_=>aj|_::_,[],a,_,_,_=>aj|_::b,d::c,a,m,t,e=>by simp[Row]at a;cases m with|zero=>grind|succ m=>simp at e;simpa using Row.get a.2 m t e
theorem Row.drop:∀{c:List CT} {d:List P} (a:Nat),Row c d->Row (c.drop a) (d.drop a)|_,_,0,b=>ar|[],[],a+1,_=>ar|[],_::_,_,b=>aj|_::_,[],_,b=>aj|_::c,_::d,a+1,b=>by simp[Row]at b;simpa using Row.drop a b.2
theorem Row.take:∀{c:List CT} {d:List P} (b:Nat),Row c d->Row (c.take b) (d.take b)|_,_,0,a=>aj|[],[],b+1,_=>ar|[],_::_,_,a=>aj|_::_,[],_,a=>aj|_::c,_::d,b+1,a=>by simp[Row]at a;simpa[Row] using⟨a.1,Row.take b a.2⟩
theorem Row.append:∀{b d:List CT} {c e:List P},Row b c->Row d e->Row (b++d) (c++e)|[],_,[],_,_,a=>ar|[],_,_::_,_,a,_=>aj|_::_,_,[],_,a,_=>aj|_::b,_,_::c,_,a,k=>by simp at a⊢;exact⟨a.1,Row.append a.2 k⟩
theorem Rows.get{b:List CT}(c:Rows b es)(d:g∈es):nF b g:=by refine⟨c.1 g d,?_⟩;unfold RT;split;rename_i a;have a:=aK a;have:=c.2;rw[a]at this;exact aj;simp
def qq:List CT->List CT|.nm t::g=>.nm (if au t 3 then 3 else 0)::g|.em t::g=>.str (Dt t)::g|g=>g
def CD:List CT->List CT|.nm _::g=>.nm 0::g|.em t::g=>.str (Dt t)::g|g=>g
def MY:List CT->List CT|.nm t::g=>.nm (if au t 2 then 1 else if eY 4 t then 0 else t)::g|.em t::g=>.str (Dt t)::g|g=>g
def acT{a:List CT}:Row (qq a) g↔Row a g:=by unfold qq;split;cases g<;>simp[Row,CT.ok];cases g<;>simp[Row,CT.ok];rfl
def Wj{a:List CT}:Row (CD a) g↔Row a g:=by unfold CD;split;cases g<;>simp[Row,CT.ok];cases g<;>simp[Row,CT.ok];rfl
def ahd{a:List CT}:Row (MY a) g↔Row a g:=by unfold MY;split;cases g<;>simp[Row,CT.ok];cases g<;>simp[Row,CT.ok];rfl
@[simp]theorem sj{row:List CT}:(qq row).length=row.length:=by unfold qq;grind
@[simp]theorem My{a:List CT}:(CD a).length=a.length:=by unfold CD;grind
@[simp]theorem aoB{a:List CT}:(MY a).length=a.length:=by unfold MY;grind
def VJ{a:List CT}:jO (CD a)=0:=by unfold CD;split;rfl;rfl;rename_i b c;unfold jO;simp
def LT.zero:LT 0 es:=by simp[LT]
theorem Rows.CD{a:List CT}{b:List (List P)}(c:∀g∈b,Row a g):Rows (CD a) b:=⟨λg d=>Wj.2 U,by rw[VJ];exact aj⟩
theorem Rows.of{a:List CT}(d:∀g∈es,nF a g):Rows (qq a) es:=by
 refine⟨λg b=>acT.2 (d g b).1,?_⟩;unfold Go.Dl.Ai.qq;split;rename_i t bS;show LT (if au t 3 then 3 else 0) es;split;rename_i c;have c:=aK c;subst c;simp[LT];intro g b;have:=(d g b).2;exact ar;exact aj;exact aj;rename_i e f;have:jO a=0:=by unfold jO;split;exact aj;exact aj;rfl
 rw[this];exact aj
def Rows.sub{a:List CT}{b:List (List P)}(c:Rows a es)(d:∀g∈b,g∈es):Rows (Go.Dl.Ai.qq a) b:=Rows.of λg e=>c.get U
theorem Rows.take{f:List CT}{d:List (List P)}(i:Rows f d)(j:Nat):Rows (MY f) (d.take j):=by
 refine⟨λg k=>ahd.2 (i.1 g ak),?_⟩;have a:=i.2;unfold MY;split;rename_i t bS;show LT (if au t 2 then 1 else if eY 4 t then 0 else t) (d.take j);have a:LT t d:=a;split;rename_i c;have c:=aK c;subst c;simp[LT]at a⊢;exact Gh.FD _ _ U;split;exact aj;rename_i c e;unfold LT at a⊢;split;rename_i h;rw[aU h]at a;exact Gh.FD _ _ a;rename_i h;rw[ap h]at a;rw[ap c]at a;have l:¬au t 4=aa:=λb=>e (by rw[aK b];rfl);have m:¬au t 5=aa:=λb=>e (by rw[aK b];rfl);have n:¬au t 6=aa:=λb=>e (by rw[aK b];rfl);have o:¬au t 7=aa:=λb=>e (by rw[aK b];rfl);grind;exact aj;rename_i b a;have:jO f=0:=by unfold jO;split;exact aj;exact aj;rfl
 rw[this];exact aj
theorem Rows.nil{a:List CT}(b:whole (jO a)=Z):Rows a []:=by refine⟨ak,?_⟩;simp[whole,Jt]at b;unfold LT;split;exact Gh.pre_nil;exact U
def Rows.arc{b:List CT}(c:Rows b es)(d:au (jO b) 1=aa):(es.length:Int)<=Gh.n:=by have a:=c.2;unfold LT at a;rw[aU d]at a;exact Gh.EP _ a
def Rows.ar8{a:List CT}(c:Rows a es)(d:au (jO a) 2=aa):(es.length:Int)=Gh.n:=by have b:=c.2;have:=aK d;rw[this]at b;simp[LT]at b;omega
def kp(b c:List CT):List CT:=match b,qq c with|.em t::_,.str a::g=>if au t 6&&decide (a<=400) then .em 6::g else .str a::g|_,d=>d
theorem Pe(b a:List CT):(kp b a).length=a.length:=by rw[<-sj (row:=a)];unfold kp;grind
def Wo{d e:List CT}{f:List (List P)}(j:Rows d es)(h:Rows (Go.Dl.Ai.qq e) (es++f)):Rows (kp d e) (es++f):=by
 unfold kp;split;rename_i t r0 o g k;rw[k]at h;split;rename_i i;simp only[aq,dJ]at i;have l:=aK i.1;subst l;refine⟨λc m=>?_,?_⟩;have:=h.1 c m;cases c with|nil=>exact ar|cons p c=>simp[Row]at this⊢;obtain⟨⟨a,b,q⟩,n⟩:=this;exact⟨⟨a,b,by have:Dt 6=400:=rfl;omega⟩,n⟩
 have b:=j.2;simp[jO]at b⊢;exact Gh.Ro _ _ b;exact ar;exact ar
def Ys(a:Nat)(b:List CT):List CT:=if au a 0 then b else Go.Dl.Ai.CD (b.drop a)
def nF.drop{b:List CT}{c:List P}(a:Nat)(e:nF b c):nF (Ys a b) (c.drop a):=by unfold Ys;split;rename_i d;have d:=aK d;exact U;exact⟨Wj.2 (e.1.drop a),by rw[VJ];simp[RT]⟩
def Cq(b a:Nat):Bool:=au a 0||(au b a||(au b 2&&au a 1))
theorem LT.sub(h:Cq t R=aa)(c:LT t es):LT R es:=by
 simp only[Cq,fA,aq]at h;rcases h with h|h|⟨a,b⟩
 have:=aK h;subst this;exact aj;have:=aK h;grind;have a:=aK a;have b:=aK b;subst a b;simp[LT]at c⊢;exact U
theorem RT.sub(h:Cq t R=aa)(b:RT t g):RT R g:=by
 simp only[Cq,fA,aq]at h;rcases h with h|h|⟨c,a⟩
 have:=aK h;subst this;simp[RT];have:=aK h;grind;have a:=aK a;subst a;simp[RT]
mutual
def CT.sub:CT->CT->Bool|.int k aR aB,.int f c d=>decide (k=f)&&(decide (c<=aR)&&decide (aB<=d))|.bool,.bool=>aa|.str a,.str be=>decide (a<=be)|.aY b aR aB,.aY e c d=>(CT.lm b e||(au b.length e.length&&(decide (aB<=0)&& !(whole (jO e)))))&&(decide (c<=aR)&&decide (aB<=d))|.nil,.nil=>aa|.nil,.aY b aR aB=>decide (aR<=0)&&(decide (0<=aB)&& !(whole (jO b)))|.any,.any=>aa|.nm t,.nm R=>Cq t R|.nm _,.str a=>decide (12<=a)|.em t,.em R=>au t R|.em t,.str a=>decide (Dt t<=a)|.tu,.tu=>aa|.tu,.int k aR aB=>decide (k=.i64)&&(decide (aR<=0)&&decide (29<=aB))|_,_=>Z
def CT.lm:List CT->List CT->Bool|[],[]=>aa|t::a,R::b=>CT.sub t R&&CT.lm a b|_,_=>Z
end
def CT.rV:∀{b c:List CT},CT.lm b c=aa->b.length=c.length|[],[],_=>rfl|[],_::_,a=>by simp[CT.lm]at a|_::_,[],a=>by simp[CT.lm]at a|_::b,_::c,a=>by simp[CT.lm]at a;simp[CT.rV a.2]
theorem LG{b c:List CT}(a:CT.lm b c=aa):Cq (jO b) (jO c)=aa:=by
 cases c with
 |nil=>exact aj
 |cons R c=>
  cases b with
  |nil=>simp[CT.lm]at a
  |cons t b=>
   simp[CT.lm]at a;cases R<;>try exact aj
   cases t<;>simp[CT.sub]at a;exact a.1;cases t<;>simp[CT.sub]at a;simp[jO,Cq,a.1]
mutual
theorem CT.aaz:∀{t R:CT} {c:P},CT.sub t R=aa->CT.ok t c->CT.ok R c
 |.int k aR aB,R,c,b,W=>by cases R<;>simp[CT.sub]at b;obtain⟨h,d,f,j⟩:=W;obtain⟨rfl,i,e⟩:=b;exact⟨h,d,y,y⟩
 |.bool,R,c,b,W=>by cases R<;>simp[CT.sub]at b;exact W
 |.str h,R,c,b,W=>by cases R<;>simp[CT.sub]at b;obtain⟨a,d,f⟩:=W;exact⟨a,d,y⟩
 |.aY o aR aB,R,c,b,W=>by
  cases R with
  |aY p q r=>
   simp only[CT.sub,aq,fA,dJ,lJ]at b;obtain⟨es,d,f,j,i,l⟩:=W;obtain⟨e,s,u⟩:=b;rcases e with e|⟨e,v,m⟩
   exact⟨es,by rw[<-CT.rV e];exact d,y,y,λg n=>CT.ww e (i g n),LT.sub (LG e) l⟩;have e:=aK e;have:es.length=0:=y;rw[xY]at this;subst this;exact⟨[],by rw[<-e];exact d,y,y,Rows.nil m⟩
  |_=>simp[CT.sub]at b
 |.nil,R,c,b,W=>by cases R<;>simp only[CT.sub,aq,dJ,lJ,reduceCtorEq]at b;have W:c=.v (.slice ae 0 0):=W;subst W;exact⟨[],.nil,by simpa using b.1,by simpa using b.2.1,Rows.nil b.2.2⟩;exact W
 |.any,R,c,b,W=>by cases R<;>simp[CT.sub]at b;exact W
 |.nm t,R,c,b,W=>by cases R<;>simp[CT.sub]at b;obtain⟨a,d,f⟩:=W;have:=Gh.Cb a f;exact⟨a,d,y⟩;exact W
 |.em t,R,c,b,W=>by cases R<;>simp[CT.sub]at b;obtain⟨a,d,f⟩:=W;exact⟨a,d,y⟩;subst b;exact W
 |.tu,R,c,b,W=>by cases R<;>simp[CT.sub]at b;obtain⟨h,d,f,j⟩:=W;obtain⟨rfl,i,e⟩:=b;have:=Gh.Us;exact⟨h,d,y,y⟩;exact W
theorem CT.ww:∀{d a:List CT} {b:List P},CT.lm d a=aa->Row d b->Row a b
 |[],a,b,c,W=>by cases a with|nil=>exact W|cons=>simp[CT.lm]at c
 |t::d,a,b,c,W=>by cases a with|nil=>simp[CT.lm]at c|cons R a=>cases b with|nil=>simp[Row]at W|cons e b=>simp[CT.lm]at c;simp[Row]at W⊢;exact⟨CT.aaz c.1 W.1,CT.ww c.2 W.2⟩
end
def Rows.lm{a b:List CT}(c:CT.lm a b=aa)(d:Rows a es):Rows b es:=⟨λg e=>CT.ww c (d.1 g e),LT.sub (LG c) d.2⟩
def nF.lm{a b:List CT}(c:CT.lm a b=aa)(d:nF a g):nF b g:=⟨CT.ww c d.1,RT.sub (LG c) d.2⟩
inductive A where|int (k:cY) (e:E)|bc (b:Bool)|bool (r:Nat) (pol:Bool) (tt ff:List F)|str (e:E)|aY (row:List CT) (e:E) (full:Bool)|nil|agg (as_l:List A)|eQ (as_l:List A)|ptr (b N:Nat)|rp (b N:Nat)|ip (ts:List CT)|own (b:Nat)|fn (aP:Nat) (first caps:List A)|any|ct (t:CT)|Fy|yY|nm (sz m ev er:E)|mp (b:Nat)
inductive VT where|aM (t:CT)|agg (ts:List CT)
def VT.ok:VT->P->Prop|.aM t,a=>CT.ok t a|.agg c,a=>∃b,a=.agg b/\nF c b
inductive AB where|row (cells:List A)|rows (row:List CT) (e:E)|map (t:VT)
structure bE where
 n:Nat
 nb:Nat
 ρ:Nat->Int
 ν:Nat->Option Nat
 H:Nat->Option AB
 M:ah
def FH(b:D)(a:List D):Prop:=(b=.agg a/\dv a=ae)\/∃c,b=.p (.agg c)/\a=c.map .p
def E.lt(a:E)(b:Nat):Prop:=a.x<b
def fx(a:Nat)(b:Nat->Int)(c:List F)(d:Prop):Prop:=∀aP∈c,aP.x<a/\aP.y<a/\(d->aP.ok b)
mutual
def gX(c:bE):A->D->Prop|.int k f,i=>f.x<c.n/\i=.p (.v (.int k (f.val c.ρ)))|.bc b,i=>i=.p (B b)|.bool r x y z,i=>r<c.n/\∃b:Bool,i=.p (B b)/\c.ρ r=(if b=x then 1 else 0)/\fx c.n c.ρ y (b=aa)/\fx c.n c.ρ z (b=Z)|.str f,i=>f.x<c.n/\∃a:ByteArray,i=.p (S a)/\f.val c.ρ=a.size|.aY j f C,i=>f.x<c.n/\∃h es,i=.p h/\Sl j.length h es/\f.val c.ρ=es.length/\Rows j es/\(C=aa->h=.v (.slice ae 0 0)\/h=.im es j.length aa)|.nil,i=>i=.p (.v (.slice ae 0 0))|.agg l,i=>∃e,FH i e/\cd c l e|.eQ l,i=>∃e,i=.eQ e/\cd c l e|.ptr b N,i=>b<c.nb/\((c.H b).isSome=aa->∃id d w g,c.ν b=J id/\c.M id=J (.row d w [g])/\i=.ptr id w d 0 N)|.rp b N,i=>b<c.nb/\((c.H b).isSome=aa->∃id d w es,∃m:Nat,c.ν b=J id/\c.M id=J (.row d w es)/\m<es.length/\i=.ptr id w d m N)|.ip E,i=>∃g,i=.p (.ip g)/\nF E g|.own b,i=>b<c.nb/\((c.H b).isSome=aa->match c.ν b with|none=>i=.p (.v (.slice ae 0 0))|some id=>∃d w es,c.M id=J (.row d w es)/\i=.sl id w 0 es.length d Z)|.fn aP a u,i=>∃e n,(i=.fn (.func aP) e n\/∃o p,i=.p (.fn (.func aP) o p)/\e=o.map .p/\n=p.map .p)/\cd c a e/\cd c u n|.any,_=>True|.ct t,i=>∃h,i=.p h/\CT.ok t h|.Fy,i=>i=.p (.v (.pointer ae))|.yY,i=>i=.p (.v undef)|.nm q m s v,i=>q.x<c.n/\m.x<c.n/\s.x<c.n/\v.x<c.n/\∃a:ByteArray,i=.p (S a)/\Gh.nm a/\q.val c.ρ=a.size/\m.val c.ρ=Gh.kS a 0/\s.val c.ρ=Gh.kS a 1/\v.val c.ρ=Gh.kS a 2|.mp b,i=>b<c.nb/\((c.H b).isSome=aa->∃id w F,c.ν b=J id/\c.M id=J (.iq w F)/\i=.mp id w)
def cd(b:bE):List A->List D->Prop|[],[]=>True|a::c,i::d=>gX b a i/\cd b c d|_,_=>False
end
def wG(b:bE)(c:Nat):AB->Prop
 |.row k=>∃id d w g,b.ν c=J id/\b.M id=J (.row d w [g])/\d=g.length/\cd b k g|.rows e f=>f.x<b.n/\match b.ν c with|none=>f.val b.ρ=0/\Rows e []|some id=>∃w,∃es:List (List P),b.M id=J (.row e.length w (es.map (·.map .p)))/\f.val b.ρ=es.length/\Rows e es
 |.map t=>∃id w h,b.ν c=J id/\b.M id=J (.iq w h)/\∀a i,h a=J i->∃j,i=.p j/\VT.ok t j
def zw{a:Option fg}{b c:Nat}(d:a.map fg.wA=J (0,b,w,c)):∃es,a=J (.row b w es)/\es.length=c:=by
 cases a with
 |none=>cases d
 |some a=>cases a<;>simp[fg.wA]at d;exact U
def Ww{b:Option fg}(a:b.map fg.wA=J (3,0,w,0)):∃c,b=J (.iq w c):=by match b,a with|some (.iq d aP),a=>simp[fg.wA]at a;exact U|some (.row ..),a=>simp[fg.wA]at a|some (.map ..),a=>simp[fg.wA]at a|some (.oe ..),a=>simp[fg.wA]at a
structure cM(V V':bE):Prop where
 n:V.n<=V'.n
 nb:V.nb<=V'.nb
 ρ:∀r,r<V.n->V'.ρ r=V.ρ r
 gu:∀b,b<V.nb->(V'.H b).isSome=aa->(V.H b).isSome=aa/\V'.ν b=V.ν b/\∀id,V.ν b=J id->(V'.M id).map fg.wA=(V.M id).map fg.wA
def cM.refl(a:bE):cM a a:=⟨y,y,qM,U⟩
theorem cM.trans{d e f:bE}(a:cM d e)(c:cM e f):cM d f:=by refine⟨gJ a.n c.n,gJ a.nb c.nb,λr g=>(c.ρ r (bw g a.n)).trans (a.ρ r g),λb h i=>?_⟩;obtain⟨j,k,l⟩:=c.gu b (bw h a.nb) i;obtain⟨m,o,p⟩:=a.gu b h j;grind
def E.jM{a d:bE}(e:cM a d){b:E}(f:b.x<a.n):b.val d.ρ=b.val a.ρ:=by unfold E.val;rw[e.ρ _ f]
def fx.grow{b c:bE}(a:cM b c){d:List F}{e:Prop}(h:fx b.n b.ρ d e):fx c.n c.ρ d e:=by intro aP i;obtain⟨f,g,j⟩:=h aP i;refine⟨bw f a.n,bw g a.n,λk=>?_⟩;have:=j k;unfold F.ok at this⊢;rw[a.ρ _ f,a.ρ _ g];omega
mutual
theorem gX.grow{C G:bE}(c:cM C G):∀{a:A} {i:D},gX C a i->gX G a i
 |.int k H,i,g=>⟨bw g.1 c.n,by rw[E.jM c g.1];exact g.2⟩|.bc b,i,g=>g|.bool r V W X,i,g=>by obtain⟨e,b,f,h,p,q⟩:=g;exact⟨bw e c.n,b,f,by rw[c.ρ _ e];exact h,p.grow c,q.grow c⟩
 |.str H,i,g=>by obtain⟨e,a,f,h⟩:=g;exact⟨bw e c.n,a,f,by rw[E.jM c e];exact h⟩
 |.aY Y H ab,i,g=>by obtain⟨e,I,es,f,h,p,q⟩:=g;exact⟨bw e c.n,I,es,f,h,by rw[E.jM c e];exact p,q⟩
 |.nil,i,g=>g|.agg K,i,g=>by obtain⟨s,e,f⟩:=g;exact⟨s,e,cd.grow c f⟩
 |.eQ K,i,g=>by obtain⟨s,e,f⟩:=g;exact⟨s,e,cd.grow c f⟩
 |.ptr b N,i,g=>by
  refine⟨bw g.1 c.nb,λl=>?_⟩;obtain⟨e,f,h⟩:=c.gu b g.1 l;obtain⟨id,d,w,ac,j,n,x⟩:=g.2 e;obtain⟨v,o,z⟩:=zw ((h id j).trans (by rw[n];rfl))
  match v,z with|[L],_=>exact⟨id,d,w,L,f.trans j,o,x⟩
 |.rp b N,i,g=>by refine⟨bw g.1 c.nb,λl=>?_⟩;obtain⟨e,f,h⟩:=c.gu b g.1 l;obtain⟨id,d,w,es,m,j,n,x,M⟩:=g.2 e;obtain⟨v,o,z⟩:=zw ((h id j).trans (by rw[n];rfl));exact⟨id,d,w,v,m,f.trans j,o,y,M⟩
 |.ip ts,i,g=>g|.own b,i,g=>by refine⟨bw g.1 c.nb,λl=>?_⟩;obtain⟨e,f,h⟩:=c.gu b g.1 l;have B:=g.2 e;rw[f];cases F:C.ν b with|none=>rw[F]at B;exact B|some id=>rw[F]at B;obtain⟨d,w,es,j,n⟩:=B;obtain⟨v,o,z⟩:=zw ((h id F).trans (by rw[j];rfl));exact⟨d,w,v,o,by rw[z];exact n⟩
 |.fn aP a u,i,g=>by obtain⟨s,O,e,f,h⟩:=g;exact⟨s,O,e,cd.grow c f,cd.grow c h⟩
 |.any,_,_=>trivial|.ct t,_,g=>g|.Fy,_,g=>g|.yY,_,g=>g|.nm sz m ev er,i,g=>by obtain⟨e,f,h,p,a,q,P,Q,R,S,T⟩:=g;exact⟨bw e c.n,bw f c.n,bw h c.n,bw p c.n,a,q,P,by rw[E.jM c e];exact Q,by rw[E.jM c f];exact R,by rw[E.jM c h];exact S,by rw[E.jM c p];exact T⟩
 |.mp b,i,g=>by refine⟨bw g.1 c.nb,λl=>?_⟩;obtain⟨e,f,h⟩:=c.gu b g.1 l;obtain⟨id,w,mf,j,n,x⟩:=g.2 e;obtain⟨U,o⟩:=Ww ((h id j).trans (by rw[n];rfl));exact⟨id,w,U,f.trans j,o,x⟩
theorem cd.grow{c d:bE}(e:cM c d):∀{a:List A} {b:List D},cd c a b->cd d a b|[],[],_=>trivial|[],_::_,g=>g.elim|_::_,[],g=>g.elim|_::a,_::b,g=>⟨gX.grow e g.1,cd.grow e g.2⟩
end
theorem cd.length{c:bE}:∀{a:List A} {b:List D},cd c a b->b.length=a.length|[],[],_=>rfl|[],_::_,g=>aj|_::_,[],g=>aj|_::a,_::b,g=>by simp[cd.length g.2]
theorem cd.get{e:bE}:∀{c:List A} {d:List D},cd e c d->∀(m:Nat) (a:A),c[m]? =J a->∃i,d[m]? =J i/\gX e a i|[],[],_,m,a,b=>by simp at b|[],_::_,g,_,_,_=>aj|_::_,[],g,_,_,_=>aj|_::c,i::d,g,m,a,b=>by cases m with|zero=>simp at b;subst b;exact⟨i,rfl,g.1⟩|succ m=>simp at b;simpa using cd.get g.2 m a b
theorem cd.append{a:bE}:∀{b d:List A} {c es:List D},cd a b c->cd a d es->cd a (b++d) (c++es)|[],_,[],_,_,e=>ar|[],_,_::_,_,g,_=>aj|_::_,_,[],_,g,_=>aj|_::b,_,_::c,_,g,e=>⟨g.1,cd.append g.2 e⟩
theorem cd.drop{d:bE}:∀{b:List A} {c:List D} (a:Nat),cd d b c->cd d (b.drop a) (c.drop a)|_,_,0,e=>ar|[],[],a+1,_=>ar|[],_::_,_,g=>aj|_::_,[],_,g=>aj|_::b,_::c,a+1,g=>by simpa using cd.drop a g.2
theorem cd.take{d:bE}:∀{b:List A} {c:List D} (a:Nat),cd d b c->cd d (b.take a) (c.take a)|_,_,0,e=>aj|[],[],a+1,_=>ar|[],_::_,_,g=>aj|_::_,[],_,g=>aj|_::b,_::c,a+1,g=>by simpa[cd] using⟨g.1,cd.take a g.2⟩
def cd.bI{a:bE}{c d:List A}{e f:List D}(g:cd a c e)(h:cd a d f)(b:Nat):cd a (bI c d b) (bI e f b):=by unfold Dl.bI;rw[h.length];exact cd.append (cd.append (g.take b) h) (g.drop _)
end
abbrev CT.z(a b:Int):CT:=.int .i64 a b
abbrev CT.aI:CT:=.int .i64 (-9223372036854775808) 9223372036854775807
section
variable [Gh]
structure AS where
 T:List (Nat×A)
 H:List (Nat×AB)
 G:Gs
 ns:Nat
 nb:Nat
 rb:Nat
 iz:Nat
 used:List Nat
 W:List Nat
 ow:List Nat:=[]
def aQ{b:Type}:List (Nat×b)->Nat->Option b|[],_=>ae|(k,a)::g,r=>if au k r then J a else aQ g r
def iw:List Nat->Nat->Bool|[],_=>Z|k::g,r=>if au k r then aa else iw g r
def AS.fresh(a:AS)(b:List F):AS:={a with ns:=a.ns+1,G:=Gs.zj b a.G}
def AS.facts(a:AS)(b:List F):AS:={a with G:=Gs.zj b a.G}
def AS.put(b:AS)(c:Option Nat)(a:A):AS:=match c with|none=>b|some k=>{b with T:=(k,a)::b.T}
def dq(a b:E):F:=⟨a.x,b.x,b.c-a.c⟩
def wU:cY->Int:=λk=>if k.signed then -(2^(k.bits-1)) else 0
def uR:cY->Int:=λk=>if k.signed then 2^(k.bits-1)-1 else 2^k.bits-1
def ac9(b:Nat)(a:E):List F:=if au b 1 then [dq a ⟨1,0⟩] else if au b 2 then [dq a ⟨1,0⟩,dq ⟨1,0⟩ a] else []
def intro(b:CT)(a:AS):A×AS:=match b with|.int k aR aB=>(.int k ⟨a.ns,0⟩,a.fresh [⟨0,a.ns,-aR⟩,⟨a.ns,0,aB⟩])|.bool=>(.bool a.ns aa [] [],a.fresh [⟨0,a.ns,0⟩,⟨a.ns,0,1⟩])|.str d=>(.str ⟨a.ns,0⟩,a.fresh [⟨0,a.ns,0⟩,⟨a.ns,0,d⟩])|.aY c aR aB=>(.aY c ⟨a.ns,0⟩ Z,a.fresh ([⟨0,a.ns,0⟩,⟨0,a.ns,-aR⟩,⟨a.ns,0,aB⟩]++ac9 (jO c) ⟨a.ns,0⟩))|.nil=>(.nil,a)|.any=>(.any,a)|.em b=>(.str ⟨a.ns,0⟩,a.fresh [⟨0,a.ns,0⟩,⟨a.ns,0,Dt b⟩])|.tu=>(.int .i64 ⟨a.ns,0⟩,a.fresh [⟨0,a.ns,0⟩,⟨a.ns,1,-1⟩])|.nm _=>(.nm ⟨a.ns,0⟩ ⟨a.ns+1,0⟩ ⟨a.ns+2,0⟩ ⟨a.ns+3,0⟩,(((a.fresh [⟨0,a.ns,0⟩,⟨a.ns,0,12⟩]).fresh [⟨0,a.ns+1,0⟩,⟨a.ns+1,1,-1⟩]).fresh [⟨0,a.ns+2,0⟩,⟨a.ns+2,0,1000⟩]).fresh [⟨0,a.ns+3,0⟩,⟨a.ns+3,0,1000⟩])
def Y7:A->A|.nm b _ _ _=>.str b|a=>a
def dS(a:A)(b:AS):A×AS:=match a with
 |.ct t=>let g:=intro t b;(Y7 g.1,g.2)
 |a=>(Y7 a,b)
def ux:P->A|.v (.int k c)=>.int k (num c)|.v (.bool b)=>.bc b|.v (.string a)=>.str (num a.size)|.v (.slice ae 0 0)=>.nil|.v (.pointer ae)=>.Fy|.fn (.func aP) [] []=>.fn aP [] []|_=>.any
def Cg:P->A|.agg a=>.agg (a.map ux)|p=>ux p
def gP(a:AS):dh->A|.t b=>(aQ a.T b).getD .any|.c c=>Cg c
def yM(c:AS):A->Option (List A)|.agg d=>J d|.eQ _=>ae|.any=>ae|.yY=>ae|.ptr b N=>if(aQ c.H b).isSome then J [.ptr b N] else ae|.rp b N=>if(aQ c.H b).isSome then J [.rp b N] else ae|.own b=>if(aQ c.H b).isSome then J [.own b] else ae|.mp b=>if(aQ c.H b).isSome then J [.mp b] else ae|a=>J [a]
def Lv(a:AS):A->Option Bool|.bc b=>J b|.bool r c _ _=>if le a.G (num 1) ⟨r,0⟩ then J c else if le a.G ⟨r,0⟩ (num 0) then J (!c) else ae|_=>ae
def apN(b:Gs)(a:F):Bool:=le b ⟨a.y,a.c+1⟩ ⟨a.x,0⟩
def FA(a:List F)(b:AS)(c:AS->Bool):Bool:=if a.any (apN b.G) then aa else c (b.facts a)
def branch(d:A)(a:AS)(c:Bool->AS->Bool):Bool:=match Lv a d with|some b=>c b a|none=>match d with|.bool r e f g=>FA ((if e then⟨0,r,-1⟩ else⟨r,0,0⟩)::f) a (c aa)&&FA ((if e then⟨r,0,0⟩ else⟨0,r,-1⟩)::g) a (c Z)|_=>Z
def arw(b:Gs):A->Option CT
 |.int k a=>match zc b a,top b a with|some aR,J aB=>J (.int k aR aB)|_,_=>ae
 |.bc _=>J .bool|.bool .. =>J .bool|.str a=>(top b a).map .str|.aY c a _=>match zc b a,top b a with|some aR,J aB=>J (.aY c aR aB)|_,_=>ae
 |.nil=>J .nil|.ct t=>J t|.nm .. =>J (.nm 0)|_=>ae
def Fh(b:Gs)(g:A)(d:CT):Bool:=match g,d with|.int k a,.int h aR aB=>decide (k=h)&&(le b (num aR) a&&le b a (num aB))|.bc _,.bool=>aa|.bool ..,.bool=>aa|.str a,.str e=>le b a (num e)|.aY c a _,.aY f aR aB=>(CT.lm c f||(au c.length f.length&&(le b a (num 0)&& !(whole (jO f)))))&&(le b (num aR) a&&le b a (num aB))|.nil,.aY c aR aB=>decide (aR<=0)&&(decide (0<=aB)&& !(whole (jO c)))|.nm i _ _ _,.str e=>le b i (num e)|.nm ..,.nm _=>aa|.int .i64 a,.tu=>le b (num 0) a&&le b ⟨a.x,a.c+1⟩ ⟨1,0⟩|.nil,.nil=>aa|.ct d,R=>CT.sub d R|_,_=>Z
def Yc:A->Option E|.aY _ a _=>J a|.nil=>J (num 0)|_=>ae
def Yf(c:Gs)(d:List A):Bool:=match d with
 |.nm _ _ e f::_=>match d[7]?,d[8]? with
  |some r,J bC=>match Yc r,Yc bC with|some a,J b=>(le c a e&&le c e a)&&(le c b f&&le c f b)|_,_=>Z
  |_,_=>Z
 |_=>Z
def DS(b:Gs):List A->List CT->Bool|[],[]=>aa|a::c,t::d=>Fh b a t&&DS b c d|_,_=>Z
def DZ(a b:Int):Int:=if a<=b then a else b
def wC(a b:Int):Int:=if a<=b then b else a
mutual
def CT.Oz:CT->CT->Option CT|.int k aR aB,.int f d b=>if k=f then J (.int k (DZ aR d) (wC aB b)) else ae|.bool,.bool=>J .bool|.nil,.nil=>J .nil|.nil,.aY c aR aB=>J (.aY c (DZ 0 aR) (wC 0 aB))|.aY c aR aB,.nil=>J (.aY c (DZ 0 aR) (wC 0 aB))|.str a,.str be=>J (.str (wC a be))|.nm t,.nm R=>J (.nm (if au t R then t else if(au t 1&&au R 2)||(au t 2&&au R 1) then 1 else 0))|.nm _,.str a=>J (.str (wC a 12))|.str a,.nm _=>J (.str (wC a 12))|.tu,.tu=>J .tu|.em t,.em R=>if au t R then J (.em t) else J (.str (wC (Dt t) (Dt R)))|.em t,.str a=>J (.str (wC a (Dt t)))|.str a,.em t=>J (.str (wC a (Dt t)))|.tu,.int k aR aB=>if k=.i64 then J (.int k (DZ 0 aR) (wC 29 aB)) else ae|.int k aR aB,.tu=>if k=.i64 then J (.int k (DZ 0 aR) (wC 29 aB)) else ae|.aY c aR aB,.aY e d b=>if aB=0 then J (.aY e (DZ aR d) (wC aB b)) else if b=0 then J (.aY c (DZ aR d) (wC aB b)) else(CT.Q5 c e).map λg=>.aY g (DZ aR d) (wC aB b)|_,_=>ae
def CT.Q5:List CT->List CT->Option (List CT)
 |[],[]=>J []|t::a,R::b=>match CT.Oz t R,CT.Q5 a b with|some aS,J c=>J (aS::c)|_,_=>ae
 |_,_=>ae
end
def N5(b:Gs):List A->Option (List CT)|[]=>J []|a::c=>match arw b a,N5 b c with|some t,J d=>J (t::d)|_,_=>ae
def anE(a:Gs)(b:List A):Option (List CT):=match N5 a b with|some (.nm _::c)=>J (.nm (if Yf a b then 3 else 0)::c)|g=>g
def No(a:Gs)(b:List A)(c:List CT):Bool:=DS a b c&&(!(au (jO c) 3)||Yf a b)
def To(c:Gs):List (List A)->Option (List CT)|[]=>J []|[g]=>anE c g|g::f=>match anE c g,To c f with|some a,J b=>CT.Q5 a b|_,_=>ae
def Bk(a:AS)(b:E->List F)(c:E->AS->Bool):Bool:=c ⟨a.ns,0⟩ (a.fresh (b ⟨a.ns,0⟩))
def UD(b c:Int)(a:E):List F:=[dq (num b) a,dq a (num c)]
def nH(kd:cY)(a:AS)(b c:Int)(d:A->AS->Bool):Bool:=Bk a (UD b c) λe a=>d (.int kd e) a
def Cc(a:AS)(b c:List F)(d:A->AS->Bool):Bool:=d (.bool a.ns aa b c) (a.fresh [⟨0,a.ns,0⟩,⟨a.ns,0,1⟩])
def Xr(c:AS)(a b:E)(e:E->AS->Bool):Bool:=
 if au b.x 0 then e ⟨a.x,a.c+b.c⟩ c
 else if au a.x 0 then e ⟨b.x,a.c+b.c⟩ c
 else Bk c (λg=>(match zc c.G b with|some d=>[dq ⟨a.x,a.c+d⟩ g]|none=>[])++(match top c.G b with|some d=>[dq g ⟨a.x,a.c+d⟩]|none=>[])++
  (match zc c.G a with|some d=>[dq ⟨b.x,b.c+d⟩ g]|none=>[])++(match top c.G a with|some d=>[dq g ⟨b.x,b.c+d⟩]|none=>[])) e
def qz(a:AS)(b c:E):E×AS:=
 if au c.x 0 then(⟨b.x,b.c+c.c⟩,a)
 else if au b.x 0 then(⟨c.x,b.c+c.c⟩,a)
 else(⟨a.ns,0⟩,a.fresh ((match zc a.G c with|some d=>[dq ⟨b.x,b.c+d⟩ ⟨a.ns,0⟩]|none=>[])++(match top a.G c with|some d=>[dq ⟨a.ns,0⟩ ⟨b.x,b.c+d⟩]|none=>[])))
def OD(c:AS)(a b:E)(e:E->AS->Bool):Bool:=
 if au b.x 0 then e ⟨a.x,a.c-b.c⟩ c
 else if au a.x b.x then e (num (a.c-b.c)) c
 else Bk c (λg=>(match zc c.G b with|some d=>[dq g ⟨a.x,a.c-d⟩]|none=>[])++(match top c.G b with|some d=>[dq ⟨a.x,a.c-d⟩ g]|none=>[])++
  (match bd c.G a.x b.x with|some d=>[dq g (num (d+a.c-b.c))]|none=>[])++(match bd c.G b.x a.x with|some d=>[dq (num (a.c-b.c-d)) g]|none=>[])) e
def EK(kd:cY)(a:AS)(b:E)(c:A->AS->Bool):Bool:=if le a.G (num (wU kd)) b&&le a.G b (num (uR kd)) then c (.int kd b) a else nH kd a (wU kd) (uR kd) c
def FF(a:AS)(c d:List F)(e f:Bool)(b:A->AS->Bool):Bool:=if e then b (.bc aa) a else if f then b (.bc Z) a else Cc a c d b
def ltB(c:AS)(a b:E)(d:A->AS->Bool):Bool:=FF c [dq ⟨a.x,a.c+1⟩ b] [dq b a] (le c.G ⟨a.x,a.c+1⟩ b) (le c.G b a) d
def leB(c:AS)(b a:E)(d:A->AS->Bool):Bool:=FF c [dq b a] [dq ⟨a.x,a.c+1⟩ b] (le c.G b a) (le c.G ⟨a.x,a.c+1⟩ b) d
def neF(c:Gs)(a b:E):List F:=(if le c a b then [dq ⟨a.x,a.c+1⟩ b] else [])++(if le c b a then [dq ⟨b.x,b.c+1⟩ a] else [])
def eqB(c:AS)(a b:E)(d:A->AS->Bool):Bool:=FF c [dq a b,dq b a] (neF c.G a b) (le c.G a b&&le c.G b a) (le c.G ⟨a.x,a.c+1⟩ b||le c.G ⟨b.x,b.c+1⟩ a) d
def neB(c:AS)(a b:E)(d:A->AS->Bool):Bool:=FF c (neF c.G a b) [dq a b,dq b a] (le c.G ⟨a.x,a.c+1⟩ b||le c.G ⟨b.x,b.c+1⟩ a) (le c.G a b&&le c.G b a) d
def anW(a:Gs)(b:E):Bool:=match top a b with|some c=>decide (c<=-1)|none=>Z
def BN(k:iH)(kd:cY)(a:AS)(d c:E)(b:A->AS->Bool):Bool:=
 match k with
 |.add=>Xr a d c λe a=>EK kd a e b|.sub=>OD a d c λe a=>EK kd a e b|.mul=>match zc a.G d,top a.G d,zc a.G c,top a.G c with|some f,J h,J i,J j=>if decide (0<=f)&&(decide (0<=i)&&decide (h*j<=uR kd)) then Bk a (λg=>UD (f*i) (h*j) g++((if decide (1<=i) then [dq d g] else [])++(if decide (1<=f) then [dq c g] else []))) λe a=>b (.int kd e) a else nH kd a (wU kd) (uR kd) b|_,_,_,_=>nH kd a (wU kd) (uR kd) b
 |.quo=>match zc a.G c with
  |some i=>if decide (1<=i) then match zc a.G d,top a.G d with|some f,J h=>if decide (0<=f)&&decide (h<=uR kd) then Bk a (λg=>UD 0 h g++[dq g d]++(if au c.x 0 then [dq g (num (h/c.c))] else [])) λe a=>b (.int kd e) a else nH kd a (wU kd) (uR kd) b|_,_=>nH kd a (wU kd) (uR kd) b
   else if anW a.G c then nH kd a (wU kd) (uR kd) b else Z
  |none=>Z
 |.rem=>match zc a.G c with
  |some i=>if decide (1<=i) then match zc a.G d with
   |some f=>if decide (0<=f) then Bk a (λg=>[dq (num 0) g,dq ⟨g.x,g.c+1⟩ c,dq g d]) λe a=>b (.int kd e) a
    else Bk a (λg=>[dq ⟨g.x,g.c+1⟩ c]++(match top a.G c with|some j=>[dq (num (1-j)) g]|none=>[dq (num f) g])) λe a=>b (.int kd e) a
   |none=>Z
   else Z
  |none=>Z
 |.and=>match zc a.G c,top a.G c with|some i,J j=>if decide (0<=i)&&decide (j<=uR kd) then nH kd a 0 j b else nH kd a (wU kd) (uR kd) b|_,_=>nH kd a (wU kd) (uR kd) b
 |.or=>nH kd a (wU kd) (uR kd) b|.xor=>nH kd a (wU kd) (uR kd) b|.andNot=>nH kd a (wU kd) (uR kd) b|.eql=>eqB a d c b|.neq=>neB a d c b|.lss=>ltB a d c b|.leq=>leB a d c b|.gtr=>ltB a c d b|.geq=>leB a c d b|.shl=>if le a.G (num 0) c then nH kd a (wU kd) (uR kd) b else Z|.shr=>if le a.G (num 0) c then(match zc a.G d,top a.G d with|some f,J h=>if decide (0<=f) then nH kd a 0 h b else nH kd a f (if decide (0<=h) then h else 0) b|_,_=>Z) else Z
def acq(f:iH)(b:AS)(c a:E)(d:A->AS->Bool):Bool:=match f with|.add=>Xr b c a λe b=>if le b.G e (num 9223372036854775807) then d (.str e) b else Z|.eql=>Cc b [dq c a,dq a c] (if au a.x 0&&(decide (a.c=0)) then [dq (num 1) c] else []) d|.neq=>Cc b (if au a.x 0&&(decide (a.c=0)) then [dq (num 1) c] else []) [dq c a,dq a c] d|.lss|.leq|.gtr|.geq=>Cc b [] [] d|_=>Z
def ads(op:iH)(f:Nat)(c:AS)(x e:A)(d:A->AS->Bool):Bool:=
 match x,e with
 |.int kd a,.int g b=>match op with|.shl=>BN .shl kd c a b d|.shr=>BN .shr kd c a b d|op=>decide (kd=g)&&BN op kd c a b d
 |.str a,.str b=>acq op c a b d
 |x,e=>match op with
  |.eql=>match Lv c x,Lv c e with|some a,J b=>au f 1&&d (.bc (a==b)) c|_,_=>au f 1&&branch x c λa c=>branch e c λb c=>d (.bc (a==b)) c
  |.neq=>au f 1&&branch x c λa c=>branch e c λb c=>d (.bc (!(a==b))) c|_=>Z
def unA(e:UnOp)(a:AS)(c:A)(d:A->AS->Bool):Bool:=match e,c with|.neg,.int kd f=>OD a (num 0) f λg a=>EK kd a g d|.not,.bc b=>d (.bc (!b)) a|.not,.bool c h i j=>d (.bool c (!h) j i) a|_,_=>Z
end
end Go.Dl.Ai
