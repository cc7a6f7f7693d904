import Derived.Test.YtaggkglfnbcjdaaGreatDoorQ04
set_option linter.all false
set_option maxRecDepth 1000000
set_option maxHeartbeats 40000000
namespace Go.Dl.Ai
end Go.Dl.Ai
namespace Go.Proofs
end Go.Proofs
namespace Ty
end Ty
open Bool renaming false->Z,true->aa
open Function renaming comp_def->Bp
open Go renaming Exit->aV
open Go.Code renaming region->rg
open List renaming map_append->cG,mem_map->bN
open Nat renaming beq->au,ble->eY,blt->iM
open Option renaming none->ae,some->J
open Go Go.Dl Go.Dl.Ai
def uh:=@List.map_inj_right
def cp:=@List.take_of_length_le
def tS:=@List.length_nil
def U8:=@Option.bind_none
variable {aR:KK}{o q:dh}{K:Option dh}{Q:Nat}{I d:D}{neg R:Bool}{a w:E}{ag:Option (List CT)}{v:List CT}{ys:List (List P)}{aB:List D}{r:VT}{u:P}{L:D->ah->Nat->Prop}{aP:Func}
namespace Go.Dl.Ai
section
variable [Gh]
variable {g:Fm}{f:Bool}{e:AS}{b:bE}{j:cR}{c:St}{i:ah}{h:A->AS->Bool}{k:Nat->List A->AS->(A->AS->Bool)->Bool}
theorem sJ{h:bE}{r:AS}{l s:E}{m o:Nat}{t:E->Bool}{u:Nat->Prop}{d:Option dh}(z:GS g f e b (dY c i))(p:GS g f r h (dY c i))(A:cM b h)(B:l.val h.ρ=m)(C:l.x<h.n)(D:s.val h.ρ=o)(j:DX r.G l s t (d.map (gP e))=aa)(v:∀(k:E) (n:Nat),k.x<h.n->k.val h.ρ=n->(d=ae->n=m)->(d≠ae->n<=o)->t k=aa->u n):jK c.ev m o u d:=by
 cases d with
 |none=>exact v l m C B qM ak j
 |some d=>
  simp[fK,DX]at j;have q:=(eL z rfl d).grow A;revert j q;generalize gP e d=a;intro j q;cases a with
  |int kd k=>simp[aq]at j;obtain⟨F,G⟩:=q;have w:=dP p.p.hf j.1;have x:=dP p.p.hf j.2.1;rw[dW p.p]at w;rw[D]at x;simp[jK,G];exact⟨w,x,v k _ F y ak qM U⟩
  |_=>grind
def Uu{a:List CT}:(if K.isNone=aa then MY a else qq a).length=a.length:=by split<;>simp
theorem VU{a:List CT}{b c:List (List P)}(d:Rows a b)(e:∀f∈c,f∈b)(g:K=ae->(∃h,c=b.take h)\/False):Rows (if K.isNone=aa then MY a else qq a) c:=by
 split;rename_i i;rcases g (by simpa using i) with⟨h,rfl⟩|j
 exact d.take h;exact aj;exact d.sub e
theorem am0{Q:Nat}{A B:Option dh}(d:GS g f e b (dY c i))(a:cP k f (.tZ Q o K A B) e h=aa):aN j (.tZ Q o K A B) c (jk g f h b c i):=by
 simp only[cP]at a;have C:=eL d rfl o;have m:(num 0).val b.ρ=(0:Nat):=dW d.p;have q:(num 0).x<b.n:=d.p.n0;split at a;rename_i aB ag aE L;rw[L]at C;obtain⟨r,u,s,R,x3,D,S,x6⟩:=C;simp only[aq]at a;obtain⟨n,a⟩:=a;have n:=aK n;cases x3 with
 |nil=>
  simp only[aN,R];have M:ag.val b.ρ=(0:Nat):=by simpa using D
  refine sJ d d (cM.refl b) M r M a λT N V t X m4 a=>sJ d d (cM.refl b) M r t a λab l v w u3 O a=>sJ d d (cM.refl b) m q w a λac x F l2 l3 l4 a=>?_;split at a;obtain⟨al,an,V',a,G,z,P,r2⟩:=EO d v F a;have aI:l=0:=by by_cases H:A=ae;exact U;have:=O H;by_cases I:B=ae;grind;grind
  have aO:x=0:=by by_cases H:K=ae;exact U;grind
  refine jS.grow z (.ce a G ⟨P,_,[],rfl,aj,?_,VU S Y U,U⟩);omega;grind
 |im s aP=>
  simp only[aN,R];refine⟨n,sJ d d (cM.refl b) D r D a λT N V t X m4 a=>sJ d d (cM.refl b) D r t a λab l v w u3 O a=>sJ d d (cM.refl b) m q w a λac x F l2 l3 l4 a=>?_⟩;split at a;rename_i p;obtain⟨al,an,V',a,G,z,P,r2⟩:=EO d v F a;have aR:N<=s.length:=by by_cases I:B=ae;exact U;exact U
  have aS:l<=s.length:=by by_cases H:A=ae;exact U;grind
  have a0:x<=l:=by by_cases H:K=ae;exact U;exact U
  refine⟨λI=>?_,jS.grow z (.ce a G ⟨P,_,(s.take l).drop x,rfl,by rw[Uu,<-n];exact aj,?_,?_,λad=>.inr ?_⟩)⟩;simp only[fA,aq]at p;rcases p with p|p
  grind;have g1:=dP d.p.hf p.1;have g2:=dP d.p.hf p.2;omega;simp;omega;refine VU S ak λa1=>.inl ⟨l,?_⟩;exact U;simp only[fA,aq]at ad;rcases ad with I|⟨ao,ax⟩
  rw[I,Uu,n];rfl;have ay:=dP G.p.hf ax;rw[E.jM z r,E.jM z v]at ay;rcases x6 ao with W|W
  cases W;cases W;have:l=s.length:=y;rw[Uu,n];exact U;grind
 rename_i L;rw[L]at C;simp only[aN,show c.ev o=_ from C];refine sJ d d (cM.refl b) m q m a λT N V t X m4 a=>sJ d d (cM.refl b) m q t a λab l v w u3 O a=>sJ d d (cM.refl b) m q w a λac x F l2 l3 l4 a=>?_;exact .ce a d rfl;cases a
def al5{p:Option dh}(m:GS g f e b (dY c i))(d:cP k f (.Il o K p) e h=aa):aN j (.Il o K p) c (jk g f h b c i):=by
 simp[cP]at d;obtain⟨t,l,q,n⟩:=is m (eL m rfl o);have u:(num 0).val t.ρ=(0:Nat):=dW l.p;have v:=l.p.n0;split at d;rename_i G w;rw[w]at n;obtain⟨x,a,y,r⟩:=n;simp[aN,y];refine sJ m l q r x r d λH s z A I L d=>sJ m l q u v A d λM B C N O P d=>?_;obtain⟨Q,R,S,d,D,E,n,T⟩:=EO l z C d;have V:s<=a.size:=by by_cases F:p=ae;exact U;exact U
 have W:B<=s:=by by_cases F:K=ae;exact U;exact U
 refine jS.grow (q.trans E) (.ce d D ⟨n,_,rfl,?_⟩);simp;omega;cases d
theorem Wa(d:GP e b){a:E}(c:CR e.G Q a=aa):a.val b.ρ*Q<=140737488355328/\a.val b.ρ<=140737488355328:=by unfold CR at c;split at c;rename_i r f;have:=qn d.hf d.z f;simp[aq,dJ]at c;refine⟨?_,y⟩;have:a.val b.ρ*Q<=r*Q:=ON y y;omega;grind
theorem anI{nm p:Nat}{q:List P}{r s:dh}(t:GS g f e b (dY c i))(d:cP k f (.Hx nm p Q q r s) e h=aa):aN j (.Hx nm p Q q r s) c (jk g f h b c i):=by
 simp only[cP]at d;obtain⟨Y,E,x,m⟩:=is t (eL t rfl r);obtain⟨F,l,z,A⟩:=is E ((eL t rfl s).grow x);have m:=m.grow z;split at d;rename_i a ac G H;rw[G]at m;rw[H]at A;obtain⟨I,K⟩:=m;obtain⟨b1,L⟩:=A;split at d;rename_i M ad;split at d;rename_i B;simp only[aq]at B;obtain⟨n,u,C,o,v,N,O⟩:=B;have n:=dP l.p.hf n;have u:=dP l.p.hf u;rw[dW l.p]at n;have C:=Wa l.p C;have o:=aK o;have v:=ml.mp v;obtain⟨zs,w,R⟩:=Fj l.p N (yv l.p q);have w:=by have:=w;exact((uh ak).1 this).symm
 subst w;simp only[aN,K,L];refine⟨n,u,y,y,o,v,?_⟩;have S:=R.length;obtain⟨T,U,D,V,W,f3,X⟩:=l.alloc (ab:=.rows (CD M) a) O (λD=>by refine⟨by simp only[bE.wr];exact I,?_⟩;simp only[bE.wr,bi];refine⟨c.gm (c.bs+nm),List.replicate (a.val F.ρ).toNat zs,by rw[My,<-S,o,List.map_replicate],dK,Rows.CD ak⟩)
 refine jS.grow (x.trans z) ⟨_,_,T,d,U,D,X,λ_=>?_⟩;rw[V];exact⟨p,c.gm (c.bs+nm),_,W,by simp;rfl⟩;cases d;cases d;cases d
theorem aa4{a:bE}{i:C}{c:E}{d:Bool}(b:GS g f e a i)(h:c.x<a.n)(k:d=aa->c.val a.ρ=0):
 fx e.ns a.ρ (if neg=aa then [] else [dq c (num 0)]) ((d !=neg)=aa)/\fx e.ns a.ρ (if neg=aa then [dq c (num 0)] else []) ((d !=neg)=Z):=by rw[b.p.vn]at h;cases neg with|true=>refine⟨fx.nil,fx.le h b.p.pos λj=>?_⟩;rw[dW b.p];grind|false=>refine⟨fx.le h b.p.pos λj=>?_,fx.nil⟩;rw[dW b.p];grind
theorem Di{b:bE}{h:C}{a:E}{c:Bool}{i:A->AS->Bool}(d:GS g f e b h)(j:a.x<b.n)(k:c=aa->a.val b.ρ=0)(l:FF e (if neg then [] else [dq a (num 0)]) (if neg then [dq a (num 0)] else []) (neg&&le e.G (num 1) a) (!neg&&le e.G (num 1) a) i=aa):uL g f i b h (.p (B (c !=neg))):=by
 obtain⟨m,n⟩:=aa4 d j k;have aM:le e.G (num 1) a=aa->c=Z:=by intro o;have:=dP d.p.hf o;rw[dW d.p]at this;cases p:c with|false=>rfl|true=>grind
 refine Es d l (λq=>?_) (λr=>?_) m n;grind;grind
theorem adC(m:GS g f e b (dY c i))(a:cP k f (.lP neg o q) e h=aa):aN j (.lP neg o q) c (jk g f h b c i):=by
 unfold cP at a;split at a<;>try (cases a;done)
 all_goals (rename_i N;cases N)
 rename_i B C;obtain⟨O,p,s,r⟩:=is m (eL m rfl o);simp only[aN];have v:c.ev (.c (.v (.slice ae B C)))=.p (.v (.slice ae B C)):=rfl;rw[v];dsimp only at a;split at a;rename_i d;rw[d]at r;rw[show c.ev o=_ from r];simp only[Li,bD];rintro l rfl;refine jS.grow s (.ce a p ?_);cases neg<;>rfl;rename_i P w Y d;rw[d]at r;obtain⟨D,u,E,Q,R,x4,x5,_⟩:=r;rw[Q];cases R with
 |nil=>simp only[Li,bD];rintro l rfl;exact jS.grow s (Di p D qM a)
 |im E ab=>simp only[agu];intro l x;refine jS.grow s (Di p D (λS=>?_) a);grind
 rename_i F d;rw[d]at r;split at a;rename_i P w x;obtain⟨_,G,y⟩:=p.m.heap F _ x;have t:=r.2 (jI p x);cases H:O.ν F with
 |none=>rw[H]at y t;rw[t];simp only[Li,bD];rintro l rfl;exact jS.grow s (Di p G qM a)
 |some id=>rw[H]at y t;obtain⟨K,E,T,f3,f4⟩:=y;obtain⟨s2,g2,ac,L,U⟩:=t;rw[T]at L;cases L;rw[U];simp only[ah6];intro l ad;refine jS.grow s (Di p G (λS=>?_) a);grind
 grind;grind;have n:=eL m rfl o;simp only[aN];have v:c.ev (.c (.v (.pointer ae)))=.p (.v (.pointer ae)):=rfl;rw[v];split at a;rename_i d;rw[d]at n;rw[show c.ev o=_ from n];simp only[Z2,bD];rintro l rfl;refine .ce a m ?_;cases neg<;>rfl;rename_i ts d;rw[d]at n;obtain⟨M,w,hr⟩:=n;rw[w];simp only[ag7,bD];rintro l rfl;refine .ce a m ?_;cases neg<;>rfl;rename_i l V d;rw[d]at n;split at a;rename_i z;obtain⟨id,I,K,M,W,X,A⟩:=n.2 (by rw[m.p.vH];exact z);rw[A];simp only[Sj,bD];rintro l rfl;refine .ce a m ?_;cases neg<;>rfl;grind;rename_i l V d;rw[d]at n;split at a;rename_i z;obtain⟨id,I,K,M,ag,W,X,e4,A⟩:=n.2 (by rw[m.p.vH];exact z);rw[A];simp only[Sj,bD];rintro l rfl;refine .ce a m ?_;cases neg<;>rfl;grind;grind
end
section
variable [Gh]
variable {g:Fm}{f:Bool}{c:AS}{V:bE}{l:cR}{e:St}{j:ah}{h:A->AS->Bool}{t:Nat->List A->AS->(A->AS->Bool)->Bool}{k:C}
def VE{e:E}(b:GS g f c V k)(i:a.x<V.n)(m:e.x<V.n):∃h,GS g f (qz c a e).2 h k/\cM V h/\(qz c a e).1.x<h.n/\(qz c a e).1.val h.ρ=a.val V.ρ+e.val V.ρ/\h.ν=V.ν/\h.M=V.M:=by unfold qz;split;rename_i d;have d:=aK d;exact⟨V,b,cM.refl V,i,by simp[E.val,d,b.p.z];omega,rfl,rfl⟩;split;rename_i d;have d:=aK d;exact⟨V,b,cM.refl V,m,by simp[E.val,d,b.p.z];omega,rfl,rfl⟩;have l:=b.p.hf;refine⟨V.gF (a.val V.ρ+e.val V.ρ),LF.fresh b (LF.append ?_ ?_),V.j7 _,by simp[bE.gF,b.p.vn],dG b,rfl,rfl⟩;split;rename_i n j;have:=qB l b.p.z j;exact LF.cons (nG b i) aw (by rw[yw b i,dG b];omega) LF.nil;exact LF.nil;split;rename_i n j;have:=qn l b.p.z j;exact LF.cons aw (nG b i) (by rw[yw b i,dG b];omega) LF.nil;exact LF.nil
def aaD(a:AS)(b c:E):(qz a b c).2.H=a.H/\(qz a b c).2.W=a.W/\(qz a b c).2.nb=a.nb/\(qz a b c).2.iz=a.iz/\(qz a b c).2.used=a.used:=by unfold qz;split;simp;split<;>exact⟨rfl,rfl,rfl,rfl,rfl⟩
def GS.alc{H2:List (Nat×AB)}(b:GS g f c V k)(r:∀o i,aQ H2 o=J i->aQ c.H o=J i):GS g f {c with H:=H2} {V with H:=aQ H2} k/\cM V {V with H:=aQ H2}:=by
 have v:∀o,(aQ H2 o).isSome=aa->(V.H o).isSome=aa:=by intro o d;obtain⟨i,s⟩:=dM.1 d;exact jI b (r o i s)
 have j:cM V {V with H:=aQ H2}:=⟨aw,aw,U,U⟩;have m:=b.m;exact⟨⟨⟨b.p.vn,b.p.vb,rfl,b.p.gz,b.p.pS,b.p.facts⟩,λh a t=>(b.je h a t).grow j,⟨m.m,m.dj,λo n d=>⟨(m.heap o n U).1,(m.heap o n U).2.grow j rfl U⟩,
  λo id d e=>m.yn o id U e,λo q id d w l u=>m.inj o q id U U l u,λo id d e=>m.own o id U e,m.frame,m.free,m.room,m.base,λo id d l e=>m.ss o id U l e,m.fr,m.rb,m.wB⟩⟩,j⟩
theorem GS.use{nm:Nat}(a:GS g f c V k):GS g f {c with used:=nm::c.used} V k:=⟨⟨a.p.vn,a.p.vb,a.p.vH,a.p.gz,a.p.pS,a.p.facts⟩,a.je,⟨a.m.m,a.m.dj,a.m.heap,a.m.yn,a.m.inj,a.m.own,a.m.frame,λh b d=>a.m.free h b aj,a.m.room,a.m.base,a.m.ss,a.m.fr,a.m.rb,a.m.wB⟩⟩
theorem vO{n:Nat}{q:A}(b:GS g f c V k)(a:Jc f n c q=J (ag,w))(j:gX V q d):
 ∃ys:List (List P),fF k.X n d=J (ys.map (·.map .p))/\w.x<V.n/\w.val V.ρ=ys.length/\(∀e,ag=J e->e.length=n/\Rows e ys)/\(ag=ae->ys=[]):=by
 unfold Jc at a;split at a;cases a;exact⟨[],by rw[show d=_ from j];exact aj,b.p.n0,by rw[dW b.p];rfl,ak,U⟩;rename_i e y H;split at a;rename_i h;have h:=aK h;cases a;obtain⟨z,u,l,B,C,D,I,_⟩:=j;exact⟨l,by rw[B,W4 (h▸C)],z,D,ak,ak⟩;grind;rename_i r;split at a;rename_i e y m;split at a;rename_i s;simp only[aq]at s;have h:=aK s.1;cases a;obtain⟨_,t,o⟩:=b.m.heap r _ m;have i:=j.2 (jI b m);cases p:V.ν r with|none=>rw[p]at o i;exact⟨[],by rw[i];exact aj,t,U,ak,U⟩|some id=>rw[p]at o i;obtain⟨K,l,v,E,L⟩:=o;obtain⟨s2,M,N,x,F⟩:=i;rw[v]at x;cases x;have G:=b.La m U p v;refine⟨l,?_,t,E,ak,ak⟩;rw[F];simp[fF,G,h,cp]
 grind;grind;grind
theorem Ie{e:Nat}{p:A}(q:GS g f c V k)(m:OF f e c p=J (ag,w))(i:gX V p d):
 ∃ys:List (List P),fO k.X e d=J (ys.map (·.map .p))/\w.x<V.n/\w.val V.ρ=ys.length/\(∀a,ag=J a->a.length=e/\Rows a ys)/\(ag=ae->ys=[]):=by
 have u:∀(h:E) (b:ByteArray),d=.p (S b)->h.x<V.n->h.val V.ρ=b.size->(if au e 1 then J (J [CT.int .u8 0 255],h) else ae)=J (ag,w)->
  ∃ys:List (List P),fO k.X e d=J (ys.map (·.map .p))/\w.x<V.n/\w.val V.ρ=ys.length/\(∀a,ag=J a->a.length=e/\Rows a ys)/\(ag=ae->ys=[]):=by intro h b r j l n;clear m;split at n;rename_i o;have o:=aK o;subst o;cases n;exact⟨mC b,by rw[r];exact aj,j,by rw[DQ];exact l,λ_ s=>(by cases s;exact⟨rfl,λv i=>H8 i,aj⟩),ak⟩;cases n
 unfold OF at m;split at m;rename_i h;obtain⟨j,b,l,t⟩:=i;exact aj;rename_i h _ _ _;obtain⟨j,_,_,_,b,l,_,t,_⟩:=i;exact aj;obtain⟨ys,j,l⟩:=vO q m i;refine⟨ys,?_,l⟩;unfold fO;split;rename_i b _ _;simp[fF]at j;exact ar
def SL{c:List CT}{a:Option (List CT)}(d:Y9 c a=J v)(f:∀e,a=J e->Rows e ys)(j:a=ae->ys=[]):(∀b,nF c b->nF v b)/\∀b∈ys,nF v b:=by
 cases a with
 |none=>cases d;exact U
 |some a=>obtain⟨g,h⟩:=aem d;exact⟨g,λb i=>h b ((f a rfl).get i)⟩
def Rows.append{b:List CT}{c:List (List P)}(d:Rows b c)(e:∀a,nF b a->nF v a)(h:∀a∈ys,nF v a):Rows (qq v) (c++ys):=Rows.of λa f=>(bg.1 f).elim (λg=>e a (d.get g)) U
theorem F6{a:bE}{b:E}{n:Nat}(d:GP c a)(e:CR c.G Q b=aa)(f:b.val a.ρ=n):n*Q<=2^47/\n<=2^47:=by obtain⟨g,h⟩:=Wa d e;grind
theorem NZ{g h:Int}:∀{d:List (List P)} {a:ByteArray},(∀b∈d,Row [.int .u8 g h] b)->∃e,Kv (d.map (·.map .p)) a=J e/\e.size=a.size+d.length
 |[],a,_=>aj
 |b::d,a,f=>by
  have c:=f b Y
  match b,c with
  |[],c=>exact aj|[u],c=>obtain⟨⟨k,W,_,_⟩,_⟩:=c;subst W;obtain⟨e,i,l⟩:=NZ (λb j=>f b (jz _ j));refine⟨e,i,?_⟩;exact EA
  |_::_::_,c=>exact c.2.elim
theorem akJ(i:GS g f c V (dY e j))(b:cP t f (.EN o) c h=aa):aN l (.EN o) e (jk g f h V e j):=by
 simp only[cP]at b;have m:=eL i rfl o;have r:∀(a:A) (d:E) (p:List CT),(∃K k,p=[.int .u8 K k])->gP c o=a->Jc f 1 c a=J (J p,d)->h (.str d) c=aa->aN l (.EN o) e (jk g f h V e j):=by intro a d p ⟨K,k,u⟩ v w b;obtain⟨ys,q,x,y,z,_⟩:=vO i w (v▸m);have q:fF e.O 1 (e.ev o)=J (ys.map (·.map .p)):=q;obtain⟨_,B⟩:=z p rfl;subst u;obtain⟨s,C,D⟩:=NZ (a:=⟨#[]⟩) B.1;simp only[aN,q,C];exact .ce b i ⟨x,s,rfl,by rw[y,D,show(⟨#[]⟩:ByteArray).size=0 from rfl];simp⟩
 split at b;rename_i n;rw[n]at m;have m:e.ev o=_:=m;simp only[aN,m];exact .ce b i ⟨i.p.n0,_,rfl,by rw[dW i.p];rfl⟩;rename_i K k d H n;exact r _ d _ ⟨K,k,rfl⟩ n aj b;rename_i s n;split at b;rename_i K k d F;split at b;rename_i G;exact r _ d _ ⟨K,k,rfl⟩ n (by simp[Jc,F,G]) b;cases b;cases b;cases b
theorem ad3{d:Bool}{e:List CT}{b:Option (List CT)}{c:List (List P)}(a:X6 d e b=J v)(j:d=aa->c=[])(f:Rows e c)(g:∀h,b=J h->Rows h ys)(i:b=ae->ys=[]):Rows (qq v) (c++ys):=by unfold X6 at a;split at a;rename_i k;rw[j k]at f⊢;rw[rA];split at a;cases a;rw[i rfl];exact Rows.of ak;rename_i b;cases a;exact Rows.of λo l=>(g _ rfl).get l;obtain⟨m,n⟩:=SL a g i;exact f.append m n
theorem amw{nm m:Nat}(d:GS g f c V (dY e j))(a:cP t f (.j4 nm m Q o q) c h=aa):aN l (.j4 nm m Q o q) e (jk g f h V e j):=by
 simp only[cP]at a;have B:=eL d rfl o;split at a;rename_i ag w ax;obtain⟨ys,y1,P,z,y4,y5⟩:=Ie d ax (eL d rfl q);have y1:fO e.O m (e.ev q)=J (ys.map (·.map .p)):=y1;simp only[aN,y1];split at a;rename_i K;rw[K]at B;rw[show e.ev o=_ from B];simp only;split at a;rename_i x;split at a;rename_i p;simp only[aq]at p;obtain⟨L,M⟩:=F6 d.p p.1 z;obtain⟨ay,a0⟩:=y4 x rfl;refine⟨U,U,λi=>?_⟩;obtain⟨F,C,r,s,G,R,H⟩:=d.alloc (ab:=.rows (qq x) w) p.2 (λr=>by refine⟨by simp only[bE.wr];exact P,?_⟩;simp only[bE.wr,bi];exact⟨i,ys,by rw[sj,ay],z,Rows.sub ar U⟩)
 refine⟨_,_,F,a,C,r,H,λ_=>?_⟩;rw[s];exact⟨m,i,_,G,by simp;rfl⟩;grind;grind;rename_i x k a1 K;rw[K]at B;split at a;rename_i p;simp only[aq]at p;have hn:=aK p.2;split at a;rename_i N ad;split at a;rename_i A;simp only[aq]at A;have S:=aK A.1;split at a;rename_i a2;simp only[aq]at a;have aB:=B;obtain⟨x1,u,v,x2,x3,x4,x5,x6⟩:=aB;have T:=ad3 ad (λal=>by have:=dP d.p.hf al;rw[dW d.p,x4]at this;exact xY.1 y) x5 U y5
 obtain⟨V1,D,X,z1,O,an,zM⟩:=VE d x1 P;obtain⟨eH,eW,aE,ec,eu⟩:=aaD c k w;obtain⟨L,M⟩:=F6 (n:=v.length+ys.length) D.p ar y;have fr:nP (qz c k w).2 nm=aa:=by simp only[nP,ec,eu];exact A.2
 have a3:∀i,jk g f h V e j (.sl (e.bs+nm) i 0 (v.length+ys.length) m Z) (am e.O (e.bs+nm) (J (.row m i (v.map (·.map .p)++ys.map (·.map .p))))) e.nx:=by
  intro i;obtain⟨F,C,r,s,G,R,H⟩:=D.alloc (ab:=.rows (qq N) (qz c k w).1) (gu:=.row m i (v.map (·.map .p)++ys.map (·.map .p))) fr (λr=>by refine⟨ar,?_⟩;simp only[bE.wr,bi];exact⟨i,v++ys,by rw[sj,S,cG],U,T⟩)
  refine jS.grow X ⟨_,_,F,a.2,C,r,H,λ_=>?_⟩;rw[s];exact⟨m,i,_,G,by simp;rfl⟩
 have a4:ys=[]->jk g f h V e j (e.ev o) e.O e.nx:=by
  intro hy;have ao:=a.1;split at ao;rename_i al;have:=dP d.p.hf al;rw[dW d.p,z,hy]at this;grind;have aI:w.x<c.ns:=by rw[<-d.p.vn];exact P
  obtain⟨aO,h2⟩:=OR d (fx.le aI d.p.pos (λ_=>by rw[dW d.p,z,hy];simp)) ao;exact .ce aO h2 B
 rcases x6 U with W|W;subst W;cases x3;grind;grind;grind;grind;grind;grind;rename_i I K;rw[K]at B;split at a;rename_i x k hb;split at a;rename_i p;simp only[aq]at p;have hn:=aK p.2.1;split at a;rename_i N ad;split at a;rename_i A;simp only[aq]at A;have S:=aK A.1;obtain⟨T,q2⟩:=SL ad (λaP hr=>(y4 aP hr).2) y5;obtain⟨_,f0,s⟩:=d.m.heap I _ hb;obtain⟨V1,D,X,z1,O,an,zM⟩:=VE d f0 P;obtain⟨eH,eW,aE,ec,eu⟩:=aaD c k w;have aR:aQ (qz c k w).2.H I=J (.rows x k):=by rw[eH];exact hb
 have fr:nP (qz c k w).2 nm=aa:=by simp only[nP,ec,eu];exact p.2.2
 have ac:=B.2 (jI d hb);have aS:kP (qz c k w).2 f I=aa:=by simp only[kP,eW];exact p.1
 cases hv:V.ν I with
 |none=>
  rw[hv]at s ac;obtain⟨L,M⟩:=F6 (n:=ys.length) D.p A.2 (by rw[O,s.1,z];simp);rw[ac];refine⟨by simpa only[d7,tS,bf]using L,by simpa only[d7,tS,bf]using M,λi=>?_⟩;obtain⟨F,C,r,k1,k2,k3,k4⟩:=D.alloc (nm:=nm) (ab:=.rows (kp x N) (qz c k w).1) (gu:=.row m i (ys.map (·.map .p))) fr (λr=>by refine⟨by simp only[bE.wr];exact z1,?_⟩;simp only[bE.wr,bi];exact⟨i,ys,by rw[Pe,S],by rw[O,s.1,z];simp,by simpa using Wo s.2 (s.2.append T q2)⟩)
  obtain⟨h4,g4⟩:=C.alc (H2:=((qz c k w).2.nb,.rows (kp x N) (qz c k w).1)::rm I (qz c k w).2.H) (λo a5 E=>by simp only[AS.alloc];rw[dQ]at E⊢;split;rename_i e1;rw[aU e1]at E;exact E;rename_i e1;rw[ap e1,Ep]at E;split at E;cases E;exact E)
  refine jS.grow (X.trans (r.trans g4)) ⟨_,_,_,a,h4,cM.refl _,by simpa using k4,λ_=>?_⟩;show match F.ν (qz c k w).2.nb with|none=>_|some id=>_
  rw[k1];exact⟨m,i,_,k2,by simp;rfl⟩
 |some id=>
  rw[hv]at s ac;obtain⟨i,v,G,R,H⟩:=s;obtain⟨s2,g2,a6,f5,f6⟩:=ac;rw[G]at f5;cases f5;have hX:e.O id=J (.row x.length i (v.map (·.map .p))):=d.La hb p.1 hv G;obtain⟨L,M⟩:=F6 (n:=v.length+ys.length) D.p A.2 (by rw[O,R,z];simp);rw[f6];simp only[hX];refine⟨hn,hn,trivial,by simpa only[d7,tS,bf]using L,by simpa only[d7,tS,bf]using M,trivial,?_⟩;rw[aU trivial];intro g2;obtain⟨F,C,r,k1,k2,k3,k4⟩:=D.uX (b:=I) (id:=id) (ab:=.rows (kp x N) (qz c k w).1) (gu:=.row m g2 (v.map (·.map .p)++ys.map (·.map .p))) aR (by rw[an];exact hv) aS (λr=>by refine⟨by simp only[bE.wr];exact z1,?_⟩;simp only[bE.wr,bi];exact⟨g2,v++ys,by rw[Pe,S,cG],by rw[O,R,z];simp,Wo H (H.append T q2)⟩)
  have h4:=C.use (nm:=nm);refine jS.grow (X.trans r) ⟨_,_,_,a,h4,cM.refl _,k4,λ_=>?_⟩;rw[k1];exact⟨m,g2,_,k2,Y⟩
 cases a;cases a;grind;grind;grind;cases a
theorem aa2{f:SK}{g:A}{h:Option IntKind}(i:skA f g h=aa)(b:gX V g d):∃u,d=.p u/\(match f with|.b=>∃j,u=.v (.bool j)|.i=>∃kd e,h=J kd/\u=.v (.int kd e)|.s=>∃a,u=.v (.string a)):=by unfold skA at i;split at i;exact⟨_,b,_,rfl⟩;obtain⟨_,j,c,_⟩:=b;exact U;exact ar;obtain⟨_,a,c,_⟩:=b;exact U;obtain⟨_,_,_,_,a,c,_⟩:=b;exact U;obtain⟨u,c,a,rfl,_⟩:=b;exact U;rename_i k;obtain⟨u,c,e,rfl,_⟩:=b;grind;obtain⟨u,c,a,rfl,_⟩:=b;exact U;obtain⟨u,c,a,rfl,_⟩:=b;exact U;rename_i k0 l k;obtain⟨_,c⟩:=b;grind;rename_i k0 K m k;obtain⟨u,c,e,rfl,_⟩:=b;grind;grind
theorem WI:∀{f:List SK} {g ys:List A} {j k:List D},JB f g ys=aa->cd V g j->cd V ys k->∃c d b,j=c.map .p/\k=d.map .p/\mX f c d=J b
 |[],[],[],[],[],_,_,_=>⟨[],[],aa,rfl,rfl,rfl⟩|[],[],[],[],_::_,_,_,l=>aj|[],[],[],_::_,_,_,l,_=>aj|[],[],_::_,_,_,a,_,_=>by simp[JB]at a|[],_::_,_,_,_,a,_,_=>by simp[JB]at a|_::_,[],_,_,_,a,_,_=>by simp[JB]at a|_::_,_::_,[],_,_,a,_,_=>by simp[JB]at a|_::_,_::_,_::_,[],_,_,l,_=>aj|_::_,_::_,_::_,_::_,[],_,_,l=>aj
 |h::f,o::g,q::ys,j::C,k::E,a,t,v=>by
  simp only[JB,aq]at a;obtain⟨u,rfl,W⟩:=aa2 a.1 t.1;obtain⟨w,rfl,m⟩:=aa2 a.2.1 v.1;obtain⟨c,d,b,rfl,rfl,y⟩:=WI a.2.2 t.2 v.2;have:∃n,tj h u w=J n:=by
   cases h with
   |b=>obtain⟨p,rfl⟩:=W;obtain⟨r,rfl⟩:=m;exact⟨_,rfl⟩
   |i=>obtain⟨F,p,z,rfl⟩:=W;obtain⟨G,r,x,rfl⟩:=m;rw[z]at x;cases x;exact⟨p==r,by simp[tj]⟩
   |s=>obtain⟨p,rfl⟩:=W;obtain⟨r,rfl⟩:=m;exact⟨_,rfl⟩
  obtain⟨n,B⟩:=this;exact⟨u::c,w::d,n&&b,rfl,rfl,by simp[mX,B,y]⟩
theorem ao3{T:PF}{U:List dh}(i:GS g f c V (dY e j))(d:cP t f (.pf T U) c h=aa):aN l (.pf T U) e (jk g f h V e j):=by
 unfold cP at d;split at d<;>try (cases d;done)
 all_goals (rename_i Y;cases Y)
 rename_i o q;obtain⟨V1,F,z,k⟩:=is i (eL i rfl o);obtain⟨m,b,A,B⟩:=is F ((eL i rfl q).grow z);have k:=k.grow A;have p:=z.trans A;dsimp only at d;split at d;rename_i a x C D;rw[C]at k;rw[D]at B;obtain⟨E,G⟩:=k;obtain⟨r,H⟩:=B;simp only[aN,bG,eC,G,H,aiw];split at d;rename_i s;have:=dP b.p.hf s;rw[ap y];exact jS.grow p (.ce d b aj);split at d;rename_i s;have:=dP b.p.hf s;refine jS.grow p (.ce d b ⟨r,?_⟩);grind;generalize u:(if x.val m.ρ>a.val m.ρ then x.val m.ρ else a.val m.ρ)=v;obtain⟨e',I,K,L,M,N,O,P⟩:=qv b d v (by refine LF.append (LF.cons (nG b E) aw (by rw[qg E,dG b,<-u];omega) (LF.cons (nG b r) aw (by rw[qg r,dG b,<-u];omega) LF.nil)) ?_;split;rename_i ab ac Q n;have t1:=qn b.p.hf b.p.z Q;have t2:=qn b.p.hf b.p.z n;refine LF.cons aw (by simp[num]) ?_ LF.nil;rw[dG b,lA b,<-u];unfold wC;omega;exact LF.nil)
 exact jS.grow p ⟨_,I,K,L,M,N,O,by rw[P]⟩;cases d;rename_i o q;obtain⟨V1,F,z,k⟩:=is i (eL i rfl o);obtain⟨m,b,A,B⟩:=is F ((eL i rfl q).grow z);have k:=k.grow A;have p:=z.trans A;dsimp only at d;split at d;rename_i a x C D;rw[C]at k;rw[D]at B;obtain⟨E,G⟩:=k;obtain⟨r,H⟩:=B;simp only[aN,bG,eC,G,H,aiM];split at d;rename_i s;have:=dP b.p.hf s;refine jS.grow p (.ce d b ⟨r,?_⟩);grind;split at d;rename_i s;have:=dP b.p.hf s;rw[ap y];exact jS.grow p (.ce d b aj);generalize u:(if x.val m.ρ<a.val m.ρ then x.val m.ρ else a.val m.ρ)=v;obtain⟨e',I,K,L,M,N,O,P⟩:=qv b d v (by refine LF.append (LF.cons aw (nG b E) (by rw[qg E,dG b,<-u];omega) (LF.cons aw (nG b r) (by rw[qg r,dG b,<-u];omega) LF.nil)) ?_;split;rename_i ab ac Q n;have t1:=qB b.p.hf b.p.z Q;have t2:=qB b.p.hf b.p.z n;refine LF.cons (by simp[num]) aw ?_ LF.nil;rw[dG b,lA b,<-u];unfold DZ;omega;exact LF.nil)
 exact jS.grow p ⟨_,I,K,L,M,N,O,by rw[P]⟩;cases d;rename_i neg ks o q;have W:=eL i rfl o;have X:=eL i rfl q;split at d;rename_i xs ys C D;rw[C]at W;rw[D]at X;obtain⟨dx,ad,ag⟩:=W;obtain⟨dy,al,an⟩:=X;split at d;rename_i hs;obtain⟨ps,qs,x,rfl,rfl,hb⟩:=WI hs ag an;have ex:e.ev o=.p (.agg ps):=by rcases ad with⟨_,n⟩|⟨ao,R,S⟩;rw[nV]at n;cases n;rw[R,(uh ak).1 S]
 have w:e.ev q=.p (.agg qs):=by rcases al with⟨_,n⟩|⟨ao,R,S⟩;rw[nV]at n;cases n;rw[R,(uh ak).1 S]
 simp only[aN,bG,eC,ex,w,vL,hb];exact rR i d fx.nil fx.nil;cases d;cases d
def afz{b:Nat}{m:C}(i:GS g f c V m)(p:gX V (.mp b) d)(j:aQ c.H b=J (.map r))(q:kP c f b=aa):
 ∃id e h,V.ν b=J id/\V.M id=J (.iq e h)/\m.X id=J (.iq e h)/\d=.mp id e/\∀a d,h a=J d->∃u,d=.p u/\VT.ok r u:=by obtain⟨id,e,h,k,l,s⟩:=p.2 (jI i j);obtain⟨_,v,w,x,n,o,t⟩:=i.m.heap b _ j;rw[k]at n;cases n;rw[l]at o;cases o;exact⟨id,e,h,k,l,i.La j q k l,s,t⟩
theorem V8(b:GP c V){a:A}(e:zC c.G a r=aa)(f:gX V a d):∃u,d=.p u/\VT.ok r u:=by
 cases r with
 |aM r=>exact B8 b ar f
 |agg n=>
  cases a<;>simp[zC]at e;obtain⟨o,i,j⟩:=f;obtain⟨k,rfl,l⟩:=LC b e j;rcases i with⟨_,g⟩|⟨p,h,m⟩
  rw[nV]at g;cases g;rw[<-(uh ak).1 m]at h;exact⟨_,h,k,rfl,l⟩
theorem ajA(b:VT.ok r u):match r with|.aM r=>gX V (.ct r) (.p u)|.agg a=>gX V (.agg (a.map .ct)) (.p u):=by cases r with|aM r=>exact aj|agg a=>obtain⟨c,rfl,d⟩:=b;exact⟨c.map .p,.inr Y,Ce d.1⟩
theorem ahH{e:A->AS->Bool}(a:GS g f c V k)(W:VT.ok r u)(b:X9 r R c e=aa):uL g f e V k (if R=aa then .eQ [.p u,.p (B aa)] else .p u):=by
 have d:=ajA (V:=V) W;cases r with
 |aM r=>cases R with|true=>exact .ce b a ⟨_,rfl,d,rfl,aj⟩|false=>exact .ce b a d
 |agg h=>cases R with|true=>exact .ce b a ⟨_,rfl,d,rfl,aj⟩|false=>exact .ce b a d
theorem anG{nm:Nat}(d:GS g f c V (dY e j))(a:cP t f (.Av nm I) c h=aa):aN l (.Av nm I) e (jk g f h V e j):=by
 simp only[cP]at a;split at a;rename_i r q;split at a;rename_i i;refine Or.inr ?_;obtain⟨k,b,m,n,o,s,p⟩:=d.alloc (ab:=.map r) (gu:=.iq (e.gm (e.bs+nm)) λ_=>ae) i (λb=>⟨e.bs+nm,e.gm (e.bs+nm),λ_=>ae,by simp[bE.wr,dY],by simp[bE.wr,dY],ak⟩)
 exact⟨_,_,k,a,b,m,p,λ_=>⟨_,_,_,n,o,rfl⟩⟩;cases a;cases a
theorem ait(m:GS g f c V (dY e j))(b:cP t f (.sQ aR I R o q) c h=aa):aN l (.sQ aR I R o q) e (jk g f h V e j):=by
 unfold cP at b;split at b<;>try (cases b;done)
 all_goals (rename_i B;cases B)
 dsimp only at b;obtain⟨S,d,k,v⟩:=is m (eL m rfl q);have x:=(eL m rfl o).grow k;split at b;rename_i T C w D;rw[w]at v;rw[D]at x;obtain⟨_,a,E,_⟩:=v;split at b;rename_i r y;split at b;rename_i i;simp only[aq]at i;obtain⟨F,n⟩:=i;have n:=Nat.lt_of_succ_le (iB n);obtain⟨id,G,z,H,U,p,K,X⟩:=afz d x y F;have p:e.O id=J (.iq G z):=p;have L:id<e.bs:=d.m.ss C id (jI d y) n H;simp only[aN,K,E,p,uN,KP];refine⟨L,Y,?_⟩;unfold ajz at b;split at b;rename_i A;have M:∀{u:P},VT.ok r u->X9 r R (dS (gP c q) c).2 h=aa->jk g f h V e j (vr R (.p A) (J (.p u))) e.O e.nx:=λW N=>by have:=jS.grow k (ahH d W N);exact ar
 have s:=Nu d.p A;cases hm:z a with
 |none=>split at b;rename_i i;simp only[aq,lJ]at i;obtain⟨u,O,Q⟩:=V8 d.p i.2 s;cases O;have:=M Q b;rw[i.1]at this⊢;exact ar;simp only[aq]at b;cases R with|true=>exact jS.grow k (.ce b.2 d ⟨_,rfl,s,rfl,aj⟩)|false=>exact jS.grow k (.ce ak d s)
 |some d0=>grind
 grind;cases b;cases b;cases b
theorem ZA{i:Nat}{a:dh}{k:bE}{l:ByteArray}(m:GS g f (dS (gP c q) c).2 k (dY e j))(t:cM V k)(v:gX k (.mp i) (e.ev o))(w:gX k (gP c a) (e.ev a))(n:aQ (dS (gP c q) c).2.H i=J (.map r))(p:kP (dS (gP c q) c).2 f i=aa)(x:zC (dS (gP c q) c).2.G (gP c a) r=aa)(y:h .any ((dS (gP c q) c).2.nD i (.map r))=aa):
 ∃id b d,e.O id=J (.iq b d)/\e.ev o=.mp id b/\jk g f h V e j .any (am e.O id (J (.iq b λo=>if o=l then J (e.ev a) else d o))) e.nx:=by
 obtain⟨id,b,d,z,A,B,C,F⟩:=afz m v n p;obtain⟨u,G,H⟩:=V8 m.p x w;refine⟨id,b,d,B,C,?_⟩;obtain⟨D,E,s⟩:=m.akv (ab:=.map r) (mf':=λo=>if o=l then J (e.ev a) else d o) n z A p (λs=>⟨id,b,λo=>if o=l then J (e.ev a) else d o,by simp[bE.wr],by simp[bE.wr],ak⟩)
 exact jS.grow (t.trans s) ⟨.any,_,D,y,E,cM.refl _,aj⟩
theorem ahS{i:dh}(d:GS g f c V (dY e j))(b:cP t f (.qx aR o q i) c h=aa):aN l (.qx aR o q i) e (jk g f h V e j):=by
 unfold cP at b;split at b<;>try (cases b;done)
 all_goals (rename_i p;cases p)
 dsimp only at b;obtain⟨C,s,k,m⟩:=is d (eL d rfl q);have n:=(eL d rfl o).grow k;have u:=(eL d rfl i).grow k;split at b;rename_i D E w v;rw[w]at m;rw[v]at n;obtain⟨_,a,x,_⟩:=m;split at b;rename_i r y;split at b;rename_i z;simp only[aq]at z;obtain⟨id,F,G,A,B,H⟩:=ZA s k n u y U U b;simp only[aN,B,x,A,uN];exact aj;cases b;cases b;cases b
def agO{i:dh}(d:GS g f c V (dY e j))(b:cP t f (.oY o q i) c h=aa):aN l (.oY o q i) e (jk g f h V e j):=by simp only[cP]at b;obtain⟨B,p,k,m⟩:=is d (eL d rfl q);have n:=(eL d rfl o).grow k;have s:=(eL d rfl i).grow k;split at b;rename_i C D w u;rw[w]at m;rw[u]at n;obtain⟨_,a,v,_⟩:=m;split at b;rename_i r x;split at b;rename_i y;simp only[aq]at y;obtain⟨id,E,F,z,A,G⟩:=ZA p k n s x U U b;simp only[aN,A,v,z];simp;omega;cases b;cases b;cases b
def arz{d:ZL}{nm:Nat}{i:List dh}(b:GS g f c V (dY e j))(a:cP t f (.m d nm i) c h=aa):aN l (.m d nm i) e (jk g f h V e j):=by
 unfold cP at a;split at a<;>try (cases a;done)
 all_goals (rename_i p;cases p)
 rename_i o;have k:=eL b rfl o;split at a;rename_i G q;rw[q]at k;split at a;rename_i m;simp only[aq]at m;obtain⟨H,n⟩:=dM.1 m.1;obtain⟨id,r,s,u,v,w⟩:=k.2 (jI b n);have x:e.O id=J (.iq r s):=b.La n U u v;simp only[aN,bG,eC,w,th,x];refine⟨Y,λy=>?_⟩;obtain⟨I,z,A,B,C,D,E,F⟩:=qv b a y (LF.cons (by simp[num]) aw (by rw[lA b,dG b];omega) LF.nil);exact⟨_,z,A,B,C,D,E,by rw[F]⟩;cases a;cases a
theorem aaV{s:fG}(d:GS g f c V (dY e j))(u:f=Z->∀n p w c V,t n p c h=aa->GS g f c V (dY e j)->cd V p w->l n w e.O e.nx (jk g f h V e j))(b:cP t f s c h=aa):aN l s e (jk g f h V e j):=by
 cases s with
 |qm=>simp[cP]at b|Av nm I=>exact anG d b|sQ aR I R o q=>exact ait d b|qx aR o q v=>exact ahS d b|oY o q v=>exact agO d b|lP neg o q=>exact adC d b|pf n p=>exact ao3 d b|mv o=>exact aoS d b|pick k a x=>exact aiI d b|alloc nm i I=>exact aed d b|box nm i o=>exact al3 d b|build I A=>exact adE d b|bQ nm i k I A=>exact ZH d b|load i B o m=>exact ai3 d b|store i o v C=>cases C with|false=>exact adK d b|true=>simp[cP]at b
 |lY o=>exact acI d b|lS D r o q=>exact amF d b|un D o=>exact apC d b|zf kd o=>exact ahM d b|yS o=>exact ag0 d b|KX o=>exact ala d b|EN o=>exact akJ d b|GF i I o=>cases b
 |Fx o=>cases b
 |Ed nm i x I o E=>cases b
 |fa o off=>exact aoZ d b|yK o off i B=>exact ajk d b|ti i o y=>exact ajn d b|IL o y=>exact ajw d b|tZ i o K F N=>exact am0 d b|Il o K F=>exact al5 d b|Hx nm i x I E k=>exact anI d b|len O o=>exact alN d b|j4 nm i x o q=>exact amw d b|ext o y=>exact akW d b|call n p=>simp only[cP]at b;split at b;cases b;rename_i G;exact u U n _ _ c V b d (EG d rfl p)
 |iI o p=>simp only[cP]at b;have z:=eL d rfl o;split at b;rename_i n a k H;rw[H]at z;obtain⟨w,P,Q,L,M⟩:=z;have S:=cd.append (cd.append L (EG d rfl p)) M;split at b;cases b;rename_i G;have u:=u U;simp only[aN];grind;cases b
 |Ho n a k=>cases n with|func n=>exact ajI d b|_=>simp[cP]at b
 |m s nm p=>exact arz d b
end
end Go.Dl.Ai
namespace Go.Dl
def cC.aX(a:cC)(id:Nat):cC:={a with own:=λb=>a.own b/\a.loc id≠J b}
section
variable {H:Hp}{c:cC}{O:ah}{id g f:Nat}{i:List (List D)}
theorem wl(hO:(O id).isSome=aa)(N:Nat->Prop):eI N H c O H (c.aX id) (am O id ae) where
 aL _ _ h _:=h
 md b:=by
  rintro⟨k,a,hl⟩;refine .inl ⟨k,?_,hl⟩;by_cases e:k=id;exact U
  rwa [ai e]at a
 own b h:=.inl h.1
 gen _:=i0
 loc _ _:=rfl
 size _ arr _ fz h:=U
 Co _ h:=h
 fr _ _ _:=rfl
 nw k _ h:=by by_cases e:k=id;exact U;exact U
 A9 b h _ hm:=⟨h,λe=>hm aj⟩
 sm:=aj
theorem NK(o:iA H c O)(F:(O id).isSome=aa):iA H (c.aX id) (am O id ae):=by
 have p:=wl (H:=H) (c:=c) F (λ_=>False);have q:∀a,Md c O a->c.own a:=λa j=>o.gC j;have K:∀{b d},am O id ae b=J d->b≠id/\O b=J d:=by intro b d m;by_cases e:b=id;subst e;simp at m;rw[ai e]at m;exact U
 refine⟨λb d v=>?_,λk w a n x r s=>?_,λa m=>o.there a m.1⟩;obtain⟨L,v⟩:=K v;have j:=o.gu b d v;have own:∀a,c.loc b=J a->c.own a->(c.aX id).own a:=by intro a h t;refine⟨t,λe=>L ?_⟩;exact o.apart b id a (by simp[v]) F h e
 cases d with
 |row g f i=>refine⟨j.1,?_⟩;have x:=j.2;have e:(c.aX id).loc b=c.loc b:=rfl;rw[e];cases h:c.loc b with|none=>grind|some a=>simp only[h]at x⊢;obtain⟨t,M,N,l,Q⟩:=x;exact⟨U,M,N,l,D.uH q p _ _ _ _ Q⟩
 |map f G I=>obtain⟨n,a,h,t,y,l,z,A,u⟩:=j;refine⟨n,a,h,U,y,l,z,A,λk e B d C=>?_⟩;obtain⟨r,s,E⟩:=u k e B d C;exact⟨P.lQ (eI.pure q p) _ _ r,D.mI q p _ _ s,E⟩
 |oe f X Y ab ac ad=>obtain⟨n,a,h,t,R,S,l,u⟩:=j;exact⟨n,a,h,U,R,S,l,u⟩
 |iq f ag=>obtain⟨G,I,T,n,a,h,t,y,l,z,A,u⟩:=j;refine⟨G,I,T,n,a,h,U,y,l,z,A,λk e B d C=>?_⟩;obtain⟨r,s,E⟩:=u k e B d C;exact⟨P.lQ (eI.pure q p) _ _ r,D.mI q p _ _ s,E⟩
 have V:(O k).isSome=aa:=by cases m:am O id ae k with|none=>grind|some d=>exact U
 have W:(O w).isSome=aa:=by cases m:am O id ae w with|none=>grind|some d=>exact U
 exact o.apart k w a V W r s
theorem abj(m:iA H c O){h:List (List P)}(n:O id=J (.row g f (h.map (·.map .p)))){off b:Nat}{o:Bool}(S:off+b<=h.length){i:Value}(d:D.rd H c (.sl id f off b g o) i):
 P.rd H (c.aX id).own (.im ((h.drop off).take b) g o) i:=by
 obtain⟨⟨a,z,rfl,T,p,V⟩,_,d⟩:=d;have j:=m.gu _ _ n;have d:=d j.1;have q:=j.2;have W:((h.drop off).take b).length=b:=dK;cases r:c.loc id with
 |none=>simp only[r]at d;obtain⟨rfl,rfl,X,k⟩:=d;cases k;exact⟨a,0,0,rfl,Y,y,qM,qM,p,Y⟩
 |some e=>
  simp only[r]at d q;obtain⟨k',s,A,B,fz,k,ab,C,ac,t,ad⟩:=d;cases k;obtain⟨ag,al,T2,v,E⟩:=q;rw[t]at v;cases v;refine⟨J ⟨e,s,ae⟩,b,z,rfl,y,y,λhf=>?_,U,p,?_⟩;grind;by_cases h0:b=0;exact U;refine .inr ⟨⟨e,s,ae⟩,A,B,(0,0),rfl,rfl,λF=>F.2 ar,t,(P.gd _ _ _ _).2 λw G l=>?_⟩;have C:=y;have I:w<b:=by have:=(bq.1 l).1;omega
  rw[nv,aU I,mo]at l;have x:=(D.gd _ _ _ _).1 E (off+w) (G.map .p) (by simp[l]);refine⟨by simpa using x.1,(P.dE _ _ _).2 λK u L=>?_⟩;have M:=wl (H:=H) (c:=c) (O:=O) (id:=id) (by simp[n]) (λ_=>False);have N:∀e,Md c O e->c.own e:=λe j=>m.gC j;obtain⟨i,h1,Q,R⟩:=(D.dE _ _ _).1 x.2 K (.p u) (by simp[L]);refine⟨i,?_,Q,P.lQ (eI.pure N M) _ _ R⟩;grind
end
mutual
def gx(id e b:Nat)(c:List (List P)):D->D|.sl h i off f j k=>if h=id/\i=e/\j=b/\off+f<=c.length then .p (.im ((c.drop off).take f) b k) else .sl h i off f j k|.agg g=>cF (kn id e b c g)|.eQ g=>.eQ (kn id e b c g)|.fn l a m=>.fn l (kn id e b c a) (kn id e b c m)|d=>d
def kn(id a b:Nat)(c:List (List P)):List D->List D|[]=>[]|d::e=>gx id a b c d::kn id a b c e
end
def Em(id c d:Nat)(e:List (List P)):fg->fg|.row g b h=>.row g b (h.map (kn id c d e))|.map b i j=>.map b i (j.map λf=>(f.1,gx id c d e f.2.1,f.2.2))|.oe b k l m n o=>.oe b k l m n o|.iq b p=>.iq b λa=>(p a).map (gx id c d e)
def BI(id b c:Nat)(d:List (List P))(e:ah):ah:=λa=>if a=id then ae else(e a).map (Em id b c d)
section
variable {l:Hp}{b:cC}{k:ah}{id g h:Nat}{j:List (List P)}(e:iA l b k)(f:k id=J (.row g h (j.map (·.map .p))))
include e f
theorem wZ(a:List D):(kn id h g j a).length=a.length:=by clear e f;induction a with|nil=>rfl|cons d b ih=>simp[kn,ih]
mutual
theorem zS:∀(d:D) (v:Value),D.rd l b d v->D.rd l (b.aX id) (gx id h g j d) v
 |.p o,v,c=>P.lQ (eI.pure (λq t=>e.gC t) (wl (by simp[f]) (λ_=>False))) _ _ c|.agg n,v,c=>by obtain⟨p,i,k,m⟩:=c;exact D.OE ⟨p,i,by rw[wZ e f];exact k,LK _ _ n m⟩
 |.eQ n,v,c=>by obtain⟨p,i,k,m⟩:=c;exact⟨p,i,by rw[wZ e f];exact k,Gj _ _ n m⟩
 |.ptr r s B C E,v,c=>c|.sl r s off F G H,v,c=>by simp only[gx];split;rename_i u;obtain⟨rfl,rfl,rfl,w⟩:=u;exact abj e f w c;exact c
 |.fn I a q,v,c=>by obtain⟨x,y,i,k,m,z,A⟩:=c;exact⟨x,y,i,by rw[wZ e f];exact k,by rw[wZ e f];exact m,Gj _ _ a z,Gj _ _ q A⟩
 |.mp r s,v,c=>c|.any,v,c=>trivial
theorem LK(a:Nat->Option Value):∀(i:Nat) (c:List D),D.iR l b a i c->D.iR l (b.aX id) a i (kn id h g j c)|_,[],_=>trivial|i,d::e,f=>by obtain⟨⟨v,k,m,n⟩,o⟩:=f;exact⟨⟨v,k,m,zS d v n⟩,LK a (i+1) e o⟩
theorem Gj(a:Nat->Option Value):∀(i:Nat) (c:List D),D.mN l b a i c->D.mN l (b.aX id) a i (kn id h g j c)|_,[],_=>trivial|i,d::e,f=>by obtain⟨⟨v,k,m⟩,n⟩:=f;exact⟨⟨v,k,zS d v m⟩,Gj a (i+1) e n⟩
end
theorem Wh(c:Nat->Option Value)(d:Nat):∀(k:List (List D)) (a:Nat),D.jl l b c a d k->D.jl l (b.aX id) c a d (k.map (kn id h g j))|[],_,_=>ar|m::n,a,i=>⟨by rw[wZ e f];exact i.1,LK e f c a m i.2.1,Wh c d n (a+d) i.2.2⟩
theorem acK(e:Nat->Prop):eI e l b k l (b.aX id) (BI id h g j k):=by
 have d:=wl (H:=l) (c:=b) (O:=k) (id:=id) (by simp[f]) e;have i:∀a,(BI id h g j k a).isSome=(am k id ae a).isSome:=by intro a;simp[BI];by_cases t:a=id;exact U;exact U
 refine {d with md:=λm n=>d.md m ?_,nw:=λa o p=>?_};obtain⟨a,u,q⟩:=n;exact⟨a,ak,q⟩;have r:=d.nw a o p;have s:=i a;rw[r]at s;cases v:BI id h g j k a with|none=>rfl|some w=>grind
theorem U4:iA l (b.aX id) (BI id h g j k):=by
 have z:=NK e (id:=id) (by simp[f]);have M:∀{c m},BI id h g j k c=J m->c≠id/\∃i,k c=J i/\m=Em id h g j i:=by intro c m s;simp only[BI]at s;split at s;cases s;rename_i o;simp only[bj]at s;grind
 refine⟨λc m N=>?_,λv S q y A p t=>?_,z.there⟩;obtain⟨T,i,V,rfl⟩:=M N;have B:=z.gu c i U;have u:=e.gu c i V;cases i with
 |row ac C es=>refine⟨u.1,?_⟩;have A:=u.2;have p:=B.2;have o:(b.aX id).loc c=b.loc c:=rfl;rw[o]at p⊢;cases r:b.loc c with|none=>grind|some q=>simp only[r]at A p⊢;obtain⟨_,W,X,w,Y⟩:=A;exact⟨U,W,X,w,Wh e f _ _ _ _ Y⟩
 |map C O Q=>obtain⟨y,q,r,_,D,w,E,hs,F⟩:=u;obtain⟨_,b',x,G,_⟩:=B;have o:(b.aX id).loc c=b.loc c:=rfl;rw[o,r]at x;cases x;refine⟨y,q,r,G,D,w,E,U,λv o H m n=>?_⟩;simp only[dN,bj]at n;obtain⟨i,n,rfl⟩:=n;obtain⟨p,t,I⟩:=F v o H i n;exact⟨ak,zS e f _ _ t,I⟩
 |oe C ad mg ag al an=>exact ar|iq C ao=>obtain⟨O,Q,K,y,q,r,_,D,w,E,hs,F⟩:=u;obtain⟨_,_,_,_,b',x,G,_⟩:=B;have o:(b.aX id).loc c=b.loc c:=rfl;rw[o,r]at x;cases x;refine⟨O,Q.map λm=>(m.1,gx id h g j m.2.1,m.2.2),⟨λm n=>?_,λa d R=>?_,by rw[mh];exact K.nd⟩,y,q,r,G,D,w,E,U,λv o H m n=>?_⟩;obtain⟨i,L,rfl⟩:=bN.1 n;obtain⟨a,p,t⟩:=K.key i L;exact U;simp only[bj]at R;obtain⟨d0,ab,rfl⟩:=R;obtain⟨i,L,p⟩:=K.all a d0 ab;exact⟨_,bN.2 ⟨i,L,rfl⟩,p⟩;simp only[dN,bj]at n;obtain⟨i,n,rfl⟩:=n;obtain⟨p,t,I⟩:=F v o H i n;exact⟨P.lQ (eI.pure (λq u=>e.gC u) (wl (by simp[f]) (λ_=>False))) _ _ p,zS e f _ _ t,I⟩
 have ax:∀c,(BI id h g j k c).isSome=aa->(am k id ae c).isSome=aa:=by intro c N;cases s:BI id h g j k c with|none=>grind|some m=>obtain⟨T,i,n,_⟩:=M s;exact U
 exact z.apart v S q U U p t
end
inductive WH:D->ah->D->ah->Prop|refl (d:D) (O:ah):WH d O d O|step (id g s:Nat) (ps:List (List P)) {d d':D} {O O':ah} (hO:O id=J (.row s g (ps.map (·.map .p)))) (h:WH (gx id g s ps d) (BI id g s ps O) d' O'):WH d O d' O'
def WH.Ah{a:Hp}{l:D}{b g:ah}(m:WH d b l g):∀{h:cC} {v:Value} (c:Nat->Prop),iA a h b->D.rd a h d v->∃e,iA a e g/\D.rd a e l v/\eI c a h b a e g/\∀i,Fr b i->Fr g i:=by induction m with|refl d b=>exact λc f j=>⟨_,f,j,eI.refl _ _ _ _,U⟩|step id u w x k m ih=>intro h v c f j;obtain⟨e,n,o,p,q⟩:=ih c (U4 f k) (zS f k _ _ j);refine⟨e,n,o,(acK f k c).trans p,λi r=>q i λs t=>?_⟩;simp only[BI];split;rfl;rw[r s t];rfl
def X.uz{f:Program}{g:FuncId}{h:ah}{c:Nat}(i:X f g aB h c λd j e=>∃a b,WH d j a b/\L a b e):X f g aB h c L:=by refine⟨i.1,λk l m n o p q=>(i.2 k l m n o p q).mono λE F r=>?_⟩;obtain⟨v,G,d,j,e,s,⟨a,b,t,u⟩,w,x,y,H,z⟩:=r;obtain⟨A,B,C,D,I⟩:=t.Ah (λid=>c<=id) x w;exact⟨v,A,a,b,e,s,u,C,B,y.trans D,U,z⟩
section
variable {H:Hp}{c:cC}{O:ah}{id s g:Nat}{ps:List (List P)}{sel:Nat->Prop}[DecidablePred sel]
open Classical in
noncomputable def j8(c:Nat->Prop)(id d e:Nat)(f:List (List P))(b:ah):ah:=λa=>if a=id then ae else if c a then(b a).map (Em id d e f) else b a
theorem DB{sel:Nat->Prop}(a:Nat):(j8 sel id g s ps O a).isSome=(am O id ae a).isSome:=by simp[j8];by_cases b:a=id;exact U;rw[ap b,ai b];grind
def RO{sel:Nat->Prop}(e:iA H c O)(f:O id=J (.row s g (ps.map (·.map .p)))):iA H (c.aX id) (j8 sel id g s ps O):=by have h:=U4 e f;have i:=NK e (id:=id) (by simp[f]);refine⟨λa j b=>?_,λl m n o p q r=>?_,h.there⟩;by_cases d:a=id;subst d;simp[j8]at b;by_cases k:sel a;refine h.gu a j ?_;simp only[j8,ap d,aU k]at b;simp only[BI,ap d];exact b;refine i.gu a j ?_;simp only[j8,ap d,ap k]at b;exact U;exact i.apart l m n (by rw[<-DB];exact o) (by rw[<-DB];exact p) q r
theorem SY{sel:Nat->Prop}(e:O id=J (.row s g (ps.map (·.map .p))))(d:Nat->Prop):eI d H c O H (c.aX id) (j8 sel id g s ps O):=by have b:=wl (H:=H) (c:=c) (O:=O) (id:=id) (by simp[e]) d;refine {b with md:=λf h=>b.md f ?_,nw:=λa i j=>?_};obtain⟨a,k,l⟩:=h;exact⟨a,by rw[<-DB];exact k,l⟩;have m:=b.nw a i j;have n:=DB (O:=O) (id:=id) (g:=g) (s:=s) (ps:=ps) (sel:=sel) a;rw[m]at n;cases o:j8 sel id g s ps O a with|none=>rfl|some p=>grind
end
inductive kh:St->St->Prop
 |refl (s:St):kh s s
 |step (sel:Nat->Prop) (id g n:Nat) (ps:List (List P)) {s s':St} (hO:s.O id=J (.row n g (ps.map (·.map .p)))) (h:kh {s with T:=λk=>gx id g n ps (s.T k),O:=j8 sel id g n ps s.O} s'):kh s s'
def kh.nx{a b:St}(c:kh a b):b.nx=a.nx:=by induction c with|refl=>rfl|step d id e f g h c ih=>exact ih
def kh.Ah{b:Nat}{d:World}{j:Act}{e g:St}(k:kh e g):∀{h:cC} (c:Nat->Prop),Rz b d h j e->∃f,Rz b d f j g/\eI c (W d) h e.O (W d) f g.O:=by
 induction k with
 |refl e=>exact λc a=>⟨_,a,eI.refl _ _ _ _⟩
 |step o id p q s i k ih=>
  intro h c a;obtain⟨f,m,n⟩:=ih c ⟨a.sz,a.df,λr=>zS a.inv i _ _ (a.tm r),RO a.inv i,λb l=>by simp only[j8];split;rfl;split;rw[a.fr b l];rfl;exact a.fr b l⟩
  exact⟨f,m,(SY i c).trans n⟩
section
variable (b:cR)
def cH:av->St->(aV->St->Prop)->Prop
 |.dg m n o,d,c=>∃s1,kh d s1/\bx b (.dg m n o) s1 c|.skip,d,c=>∃s1,kh d s1/\c .normal s1|.seq a h,d,c=>cH a d λe f=>match e with|.normal=>cH h f c|e=>c e f
 |.cond p a h,d,c=>
  match d.ev p with
  |.p (.v (.bool r))=>match r with|true=>cH a d c|false=>cH h d c
  |_=>False
 |.block id a,d,c=>cH a d λe f=>match e with|.exit j=>if j=id then c .normal f else c (.exit j) f|e=>c e f
 |.loop a,d,c=>∃i:Nat->St->Prop,(∃g,i g d)/\∀g f,i g f->cH a f λe k=>match e with|.normal=>∃l,l<g/\i l k|e=>c e k
 |.exit id,d,c=>∃s1,kh d s1/\c (.exit id) s1|.ret,d,c=>∃s1,kh d s1/\c .ret s1|.qm,_,_=>False
end
section
variable {b:cR}(c:mu b)
include c
theorem gw:∀(d:av) {g:St} {h i:aV->St->Prop},(∀j l,h j l->i j l)->cH b d g h->cH b d g i
 |.skip,_,_,_,f,⟨s1,k,e⟩=>⟨s1,k,f _ _ e⟩|.ret,_,_,_,f,⟨s1,k,e⟩=>⟨s1,k,f _ _ e⟩|.qm,_,_,_,_,e=>e.elim|.exit _,_,_,_,f,⟨s1,k,e⟩=>⟨s1,k,f _ _ e⟩|.dg s t u,g,h,i,f,⟨s1,k,e⟩=>⟨s1,k,pC c _ f e⟩|.seq a n,g,h,i,f,e=>by refine gw a (λj l m=>?_) e;cases j with|normal=>exact gw n f m|_=>exact f _ _ m
 |.cond v a n,g,h,i,f,e=>by
  simp[cH]at e⊢;split at e;rename_i j
  (try simp[])
  split at e;exact gw a f e;exact gw n f e;omega
 |.block id a,g,h,i,f,e=>by refine gw a (λj l m=>?_) e;grind|.loop a,g,h,i,f,e=>by obtain⟨o,p,e⟩:=e;refine⟨o,p,λq l r=>gw a (λj s2 m=>?_) (e q l r)⟩;grind
theorem sd:∀(d:av) {f:St} {g:aV->St->Prop},cH b (zY d) f g->cH b d f g
 |.skip,_,_,e=>e|.ret,_,_,e=>e|.qm,_,_,e=>e|.exit _,_,_,e=>e|.dg l m n,f,g,⟨s1,o,e⟩=>⟨s1,o,pV c (.dg l m n) e⟩|.seq a h,f,g,e=>by refine gw c a (λi j k=>?_) (sd a e);cases i with|normal=>exact sd h k|_=>exact k
 |.cond t a h,f,g,e=>by
  simp[zY,cH]at e⊢;split at e;rename_i i
  (try simp[])
  split at e;exact sd a e;exact sd h e;omega
 |.block id a,f,g,e=>sd a e|.loop a,f,g,e=>by obtain⟨p,q,e⟩:=e;exact⟨p,q,λr j s=>sd a (e r j s)⟩
end
section
variable {b:Program}{c:Nat}
def Qf{f:Nat}{g:List aA}{h:av}{i:St}{c:aV->St->Prop}{P:St->St->Prop}(a:bx (X b) (.dg f aa g) i λe d=>match e with|.normal=>∃s2,P d s2/\bx (X b) h s2 c|e=>c e d):bx (X b) (.dg f aa g) i λe s1=>e=.normal/\∃s2,P s1 s2/\bx (X b) h s2 c:=by simp only[bx]at a⊢;intro j;obtain⟨k,a⟩:=a j;exact⟨k,rK br _ (λd m l=>⟨Y,l⟩) a⟩
theorem Yi{x:Nat}{M:World}{N:cC}{O:ah}:∀(P:Code) (d:av),mr b c P=J d->∀(n:St) (v:aV->St->Prop) (m:World) (u:cC) (a:Act),
 Rz c m u a n->eI (oX x) (W M) N O (W m) u n.O->x<=n.nx->cH (X b) d n v->
 P.wp b (λw A z=>∃h g,v w h/\Rz c z g A h/\eI (oX x) (W M) N O (W z) g h.O/\x<=h.nx) a m:=by
 intro P;induction P with
 |skip=>intro d e n v m u a i p s f;cases e;obtain⟨s1,t,f⟩:=f;obtain⟨g,k,l⟩:=t.Ah (oX x) i;exact wp_skip ⟨s1,g,f,k,p.trans l,by rw[t.nx];exact s⟩
 |region id ab ac=>
  intro d e n v m u a i p s f;have S:∀{ad dr ag},d=.dg ad dr ag->Code.wp b (rg id ab ac) (λw A z=>∃h g,v w h/\Rz c z g A h/\eI (oX x) (W M) N O (W z) g h.O/\x<=h.nx) a m:=by intro ad dr ag w;subst w;obtain⟨s1,t,f⟩:=f;obtain⟨g,k,l⟩:=t.Ah (oX x) i;exact DL (rg id ab ac) _ e s1 v m g a k (p.trans l) (by rw[t.nx];exact s) f
  simp only[mr]at e;split at e;split at e;simp only[bj]at e;rename_i al aI;subst al;obtain⟨an,Q,w⟩:=e;unfold acp at w;split at w;split at w;rename_i R H;subst w;have H:=List.find?_some H;rw[aq]at H;obtain⟨mk,Q⟩:=VI Q;obtain⟨s1,t,f⟩:=f;obtain⟨g,k,l⟩:=t.Ah (oX x) i;refine Nq Q U ar (λs1 s2 hr m u a i=>?_) k (p.trans l) (by rw[t.nx];exact s) (Qf f);obtain⟨B,K,h3⟩:=hr.Ah (oX x) i;exact⟨B,K,h3,hr.nx⟩;exact S w.symm;exact S w.symm;cases e;simp only[bj]at e;obtain⟨an,Q,w⟩:=e;exact S w.symm
 |seq o q T V=>
  intro d e n v m u a i p s f;simp only[mr]at e;split at e;rename_i D Y t K;cases e;refine wp_seq (kU (T D t n _ m u a i p s f) λw A z j=>?_);obtain⟨h,g,j,k,l,y⟩:=j;cases w with|normal=>exact V Y K h v z g A k l y j|exit C=>exact⟨h,g,j,k,l,y⟩|goto C=>exact⟨h,g,j,k,l,y⟩|ret=>exact⟨h,g,j,k,l,y⟩|panic C=>exact⟨h,g,j,k,l,y⟩|outgrown=>exact⟨h,g,j,k,l,y⟩
  cases e
 |cond I o q T V=>
  intro d e n v m u a i p s f;simp only[mr]at e;split at e;rename_i dz D Y h0 t K;cases e;simp only[cH]at f;have L:=eR i.tm h0;split at f;rename_i r ht;rw[ht]at L;have L:a.eval I=.bool r:=L;cases r with|true=>exact wp_cond_true L (T D t n v m u a i p s f)|false=>exact wp_cond_false L (V Y K n v m u a i p s f)
  exact f.elim;cases e
 |block id o ih=>intro d e n v m u a i p s f;simp only[mr,bj]at e;obtain⟨D,t,rfl⟩:=e;refine wp_block (kU (ih D t n _ m u a i p s f) λw A z j=>?_);obtain⟨h,g,j,k,l,y⟩:=j;cases w with|exit C=>simp only[Exit.inBlock];grind|normal=>exact⟨h,g,j,k,l,y⟩|goto C=>exact⟨h,g,j,k,l,y⟩|ret=>exact⟨h,g,j,k,l,y⟩|panic C=>exact⟨h,g,j,k,l,y⟩|outgrown=>exact⟨h,g,j,k,l,y⟩
 |loop o ih=>
  intro d e n v m u a i p s f;simp only[mr,bj]at e;obtain⟨D,t,rfl⟩:=e;simp only[cH]at f;obtain⟨ao,⟨k0,ax⟩,ay⟩:=f;refine wp_loop_ghost (λR A z=>∃h g,ao R h/\Rz c z g A h/\eI (oX x) (W M) N O (W z) g h.O/\x<=h.nx) k0 ⟨n,u,ax,i,p,s⟩ ?_;rintro R A z ⟨h,g,H,k,l,y⟩;refine kU (ih D t h _ z g A k l y (ay R h H)) λw a2 w2 j=>?_;obtain⟨s2,B,j,E,F,G⟩:=j;cases w with
  |normal=>obtain⟨k',aB,aE⟩:=j;exact⟨k',aB,s2,B,aE,E,F,G⟩
  |exit C=>exact⟨s2,B,j,E,F,G⟩|goto C=>exact⟨s2,B,j,E,F,G⟩|ret=>exact⟨s2,B,j,E,F,G⟩|panic C=>exact⟨s2,B,j,E,F,G⟩|outgrown=>exact⟨s2,B,j,E,F,G⟩
 |exit id=>intro d e n v m u a i p s f;cases e;obtain⟨s1,t,f⟩:=f;obtain⟨g,k,l⟩:=t.Ah (oX x) i;exact wp_exit ⟨s1,g,f,k,p.trans l,by rw[t.nx];exact s⟩
 |ret=>intro d e n v m u a i p s f;cases e;obtain⟨s1,t,f⟩:=f;obtain⟨g,k,l⟩:=t.Ah (oX x) i;exact wp_ret ⟨s1,g,f,k,p.trans l,by rw[t.nx];exact s⟩
 |rangeFunc _ _ _ _ _ _=>intro d e n v m u a i p s f;cases e;exact f.elim
 |scope _ _=>intro d e n v m u a i p s f;cases e;exact f.elim
 |label _=>intro d e n v m u a i p s f;cases e;exact f.elim
 |goto _=>intro d e n v m u a i p s f;cases e;exact f.elim
 |refuse _=>intro d e n v m u a i p s f;cases e;exact f.elim
theorem X.alx{p:FuncId}{F:d6}(r:b.funcs[p]? =J aP)(e:Th b aP=J F){l:ah}{h:Nat}(A:aB.length<=F.n)(B:Fr l h->cH (X b) F.body (cN aB l h) λj m=>(j=.normal\/j=.ret)/\jt m F.rs λC=>∃a c,yJ a m.O/\h<=c/\Fr a c/\L (aM C) a c):X b p aB l h L:=by
 unfold Th at e;split at e;rename_i E G;split at e;rename_i d rs H I;split at e;rename_i ag;cases e;refine⟨⟨aP,r,ar,U⟩,λs t vs K u M N=>?_⟩;refine Bf r G ?_;have O:=rz0 K u M N A;refine kU (Yi E d H _ _ s t _ O (eI.refl _ _ _ _) (bV _) (B u)) λj w f P=>?_;obtain⟨m,i,⟨Q,al⟩,n,R,hm⟩:=P;obtain⟨g,k,⟨a,c,an,S,ao,T⟩,V,h4,h5,h6⟩:=Db n I ar;have ab:∃v,(results aP w.tmps).run b f=.ok v f/\D.rd (W f) i (aM g) v:=by
  have ax:=FO h4 h5;by_cases h1:k.length=1;obtain⟨x,rfl⟩:=rC.1 h1;have ac:g.length=1:=by rw[<-V];rfl
  obtain⟨o,rfl⟩:=rC.1 ac;refine⟨x,?_,h6 0 x o rfl rfl⟩;exact ar;refine⟨.tuple k.toArray,?_,?_⟩;grind;have:aM g=.eQ g:=by cases g with|nil=>rfl|cons o g=>cases g with|nil=>exact aj|cons q ys=>rfl
  rw[this];refine⟨k.toArray,rfl,y,(D.ld _ _ _).2 λz d hk=>?_⟩;have ay:z<k.length:=by have:=(bq.1 hk).1;omega
  exact⟨k[z],Y,ak⟩
 obtain⟨v,hv,ad⟩:=ab;have aE:bodyPost b aP (λj f=>∃v i d a c,j=.returned v/\L d a c/\D.rd (W f) i d v/\iA (W f) i a/\eI (λid=>h<=id) (W s) t l (W f) i a/\Fr a c/\h<=c) .ret w f:=⟨n.df,v,hv,v,i,aM g,a,c,rfl,T,ad,n.inv.sub ar,R.sub ar,ar,S⟩
 rcases Q with rfl|rfl;exact ar;exact ar;cases e;cases e;cases e
def X.Px{f:FuncId}{F:d6}(h:b.funcs[f]? =J aP)(c:cW b aP=J F){d:ah}{a:Nat}(i:aB.length<=F.n)(j:Fr d a->cH (X b) F.body (cN aB d a) λg e=>(g=.normal\/g=.ret)/\jt e F.rs λk=>ji a L e.O e.nx (aM k)):X b f aB d a L:=by unfold cW at c;rw[bj]at c;obtain⟨p,l,rfl⟩:=c;exact X.alx h l i λm=>gw br _ (λ_ _ n=>⟨U,DR _ (λ_ o=>o.h) n.2⟩) (sd br _ (j m))
end
def kh.trans{a s1 s2:St}(b:kh a s1)(c:kh s1 s2):kh a s2:=by induction b with|refl=>exact c|step d id e f g h b ih=>exact .step d id e f g h U
end Go.Dl
namespace Go.Dl.Ai
section
variable [Gh]
mutual
def Tb(b:Nat)(c:List CT)(d:E):A->A|.own f=>if au f b then .aY c d Z else .own f|.agg e=>.agg (FZ b c d e)|.eQ e=>.eQ (FZ b c d e)|.fn g a h=>.fn g (FZ b c d a) (FZ b c d h)|a=>a
def FZ(b:Nat)(c:List CT)(d:E):List A->List A|[]=>[]|a::e=>Tb b c d a::FZ b c d e
end
def afD(a:Nat)(b:List CT)(c:E):AB->AB|.row d=>.row (FZ a b c d)|e=>e
def OI(b:Nat)(c:List CT)(d:E):List (Nat×A)->List (Nat×A)|[]=>[]|(e,a)::f=>(e,Tb b c d a)::OI b c d f
def De(b:Nat)(c:List CT)(d:E):List (Nat×AB)->List (Nat×AB)|[]=>[]|(e,a)::f=>if au e b then De b c d f else(e,afD b c d a)::De b c d f
def AS.vJ(a:AS)(b:Nat):AS:=match aQ a.H b with|some (.rows c d)=>{a with T:=OI b c d a.T,H:=De b c d a.H}|_=>a
mutual
def abR:A->List Nat|.own c=>[c]|.agg b=>Kk b|.eQ b=>Kk b|.fn _ a d=>Kk a++Kk d|_=>[]
def Kk:List A->List Nat|[]=>[]|a::b=>abR a++Kk b
end
def Ux(b:AS)(c:Nat):List Nat:=match aQ b.T c with
 |some (.ptr d _)=>match aQ b.H d with|some (.row e)=>Kk e|_=>[]
 |some a=>abR a|none=>[]
def AS.uz(a:AS):List Nat->AS|[]=>a|k::b=>((Ux a k).foldl AS.vJ a).uz b
theorem PM{d:Nat}{e:List CT}{f:E}:∀{g:List (Nat×A)} {c:Nat} {a:A},aQ (OI d e f g) c=J a->∃h,aQ g c=J h/\a=Tb d e f h|[],_,_,b=>by simp[OI,aQ]at b|(j,k)::l,c,a,b=>by simp[OI,aQ]at b⊢;split at b;grind;rename_i i;rw[ap i];exact PM b
theorem DG{f:Nat}{g:List CT}{h:E}:∀{i:List (Nat×AB)} {c:Nat} {a:AB},aQ (De f g h i) c=J a->c≠f/\∃d,aQ i c=J d/\a=afD f g h d|[],_,_,b=>by simp[De,aQ]at b|(o,p)::q,c,a,b=>by simp only[De]at b;split at b;rename_i e;have e:=aK e;obtain⟨j,d,k,l⟩:=DG b;refine⟨j,d,?_,l⟩;simp only[aQ];rw[ap (λm=>j ((aK m).symm.trans e))];exact k;rename_i e;simp only[aQ]at b⊢;split at b;grind;rename_i n;rw[ap n];exact DG b
def Cp{id b c:Nat}{d:List (List P)}:∀(a:List P),kn id b c d (a.map .p)=a.map .p|[]=>rfl|u::a=>by simp[kn,gx,Cp a]
structure Fz(b:Nat)(row:List CT)(e:E)(V V1:bE)(f:D->D):Prop where
 hn:V1.n=V.n
 M9:V1.nb=V.nb
 Dk:V1.ρ=V.ρ
 BQ:V1.ν=V.ν
 hH:∀b',(V1.H b').isSome=aa->b'≠b/\(V.H b').isSome=aa
 fp:∀p,f (.p p)=.p p
 amh:∀i g s a c,f (.ptr i g s a c)=.ptr i g s a c
 ar3:∀ds,dv ds=ae->FH (f (.agg ds)) (ds.map f)
 arm:∀ds,f (.eQ ds)=.eQ (ds.map f)
 ffn:∀g a c,f (.fn g a c)=.fn g (a.map f) (c.map f)
 asi:∀d,gX V (.own b) d->gX V1 (.aY row e Z) (f d)
 fmp:∀i g,f (.mp i g)=.mp i g
 ajx:∀b' id g mf,b'≠b->(V.H b').isSome=aa->V.ν b'=J id->V.M id=J (.iq g mf)->V1.M id=J (.iq g λa=>(mf a).map f)
 anf:∀b' id,b'≠b->(V.H b').isSome=aa->V.ν b'=J id->(V1.M id).map fg.wA=(V.M id).map fg.wA
 fsl:∀b' id s g es,b'≠b->(V.H b').isSome=aa->V.ν b'=J id->V.M id=J (.row s g es)->f (.sl id g 0 es.length s Z)=.sl id g 0 es.length s Z/\V1.M id=J (.row s g (es.map (·.map f)))
variable {h:Nat}{g:List CT}{i:E}{c f:bE}{l:D->D}
mutual
theorem Fz.rel(b:Fz h g i c f l):∀(a:A) (d:D),gX c a d->gX f (Tb h g i a) (l d)
 |.int Y o,d,e=>by obtain⟨k,rfl⟩:=e;rw[b.fp];exact⟨by rw[b.hn];exact k,by rw[b.Dk]⟩
 |.bc o,d,e=>by have e:d=.p (B o):=e;subst e;rw[b.fp];exact rfl|.bool o ab tt ff,d,e=>by obtain⟨k,q,rfl,m,z,C⟩:=e;rw[b.fp];exact⟨by rw[b.hn];exact k,q,rfl,by rw[b.Dk];exact m,by rw[b.hn,b.Dk];exact z,by rw[b.hn,b.Dk];exact C⟩
 |.str o,d,e=>by obtain⟨k,q,rfl,m⟩:=e;rw[b.fp];exact⟨by rw[b.hn];exact k,q,rfl,by rw[b.Dk];exact m⟩
 |.aY E o fu,d,e=>by obtain⟨k,u,F,rfl,m,z,C⟩:=e;rw[b.fp];exact⟨by rw[b.hn];exact k,u,F,rfl,m,by rw[b.Dk];exact z,C⟩
 |.nil,d,e=>by have e:d=.p (.v (.slice ae 0 0)):=e;subst e;rw[b.fp];exact rfl
 |.agg H,d,e=>by
  obtain⟨t,k,j⟩:=e;rcases k with⟨rfl,hn⟩|⟨G,rfl,rfl⟩
  exact⟨t.map l,b.ar3 t hn,b.LN H t j⟩;rw[b.fp];have:=b.LN H _ j;rw[mh]at this;exact⟨G.map .p,.inr ⟨G,rfl,rfl⟩,by simpa[Bp,b.fp]using this⟩
 |.eQ H,d,e=>by obtain⟨t,rfl,j⟩:=e;rw[b.arm];exact⟨t.map l,rfl,b.LN H t j⟩
 |.ptr p O,d,e=>by refine⟨by rw[b.M9];exact e.1,λw=>?_⟩;obtain⟨k,j⟩:=b.hH p w;obtain⟨id,v,n,E,s,x,rfl⟩:=e.2 j;obtain⟨_,y⟩:=b.fsl p id v n [E] k j s x;rw[b.amh];exact⟨id,v,n,E.map l,by rw[b.BQ];exact s,y,rfl⟩
 |.rp p O,d,e=>by refine⟨by rw[b.M9];exact e.1,λw=>?_⟩;obtain⟨k,j⟩:=b.hH p w;obtain⟨id,v,n,F,P,s,x,Q,rfl⟩:=e.2 j;obtain⟨_,y⟩:=b.fsl p id v n F k j s x;rw[b.amh];exact⟨id,v,n,_,P,by rw[b.BQ];exact s,y,by simpa using Q,rfl⟩
 |.ip ts,d,e=>by obtain⟨E,rfl,j⟩:=e;rw[b.fp];exact⟨E,rfl,j⟩
 |.own p,d,e=>by simp only[Tb];split;rename_i K;have K:=aK K;subst K;exact b.asi d e;refine⟨by rw[b.M9];exact e.1,λw=>?_⟩;obtain⟨k,j⟩:=b.hH p w;have m:=e.2 j;rw[b.BQ];split;rename_i I;rw[I]at m;have m:d=.p (.v (.slice ae 0 0)):=m;subst m;exact b.fp _;rename_i id I;rw[I]at m;obtain⟨v,n,F,s,rfl⟩:=m;obtain⟨x,y⟩:=b.fsl p id v n F k j I s;exact⟨v,n,_,y,by rw[x,d7]⟩
 |.fn n a R,d,e=>by
  obtain⟨t,S,k,j,m⟩:=e;have L:=b.LN a t j;have M:=b.LN R S m;rcases k with rfl|⟨G,N,rfl,rfl,rfl⟩
  rw[b.ffn];exact⟨_,_,.inl rfl,L,M⟩;rw[b.fp];rw[mh]at L M;exact⟨G.map .p,N.map .p,.inr ⟨G,N,rfl,rfl,rfl⟩,by simpa[Bp,b.fp]using L,by simpa[Bp,b.fp]using M⟩
 |.mp p,d,e=>by refine⟨by rw[b.M9];exact e.1,λw=>?_⟩;obtain⟨k,j⟩:=b.hH p w;obtain⟨id,n,T,s,x,rfl⟩:=e.2 j;have y:=b.ajx p id n T k j s x;rw[b.fmp];exact⟨id,n,_,by rw[b.BQ];exact s,y,rfl⟩
 |.any,d,e=>trivial|.ct r,d,e=>by obtain⟨u,rfl,j⟩:=e;rw[b.fp];exact⟨u,rfl,j⟩
 |.Fy,d,e=>by have e:d=.p (.v (.pointer ae)):=e;subst e;rw[b.fp];exact rfl|.yY,d,e=>by have e:d=.p (.v undef):=e;subst e;rw[b.fp];exact rfl|.nm a h c2 d2,d,e=>by obtain⟨k,j,m,z,q,rfl,C,U,V,W,X⟩:=e;rw[b.fp];exact⟨by rw[b.hn];exact k,by rw[b.hn];exact j,by rw[b.hn];exact m,by rw[b.hn];exact z,q,rfl,C,by rw[b.Dk];exact U,by rw[b.Dk];exact V,by rw[b.Dk];exact W,by rw[b.Dk];exact X⟩
theorem Fz.LN(k:Fz h g i c f l):∀(e:List A) (j:List D),cd c e j->cd f (FZ h g i e) (j.map l)|[],[],_=>trivial|[],_::_,b=>b.elim|_::_,[],b=>b.elim|a::e,d::j,b=>⟨k.rel a d b.1,k.LN e j b.2⟩
end
def vM(id a b:Nat)(c:List (List P)):∀(e:List D),kn id a b c e=e.map (gx id a b c)|[]=>rfl|d::f=>by simp[kn,vM id a b c f]
variable {j:Fm}{b:AS}{e:St}
theorem Fz.gs(k:Fz h g i c f l)(s:GS j Z b c (dY e λ_=>ae))(R:b.W=[])(ax:b.iz=0)(ay:b.rb=0){s1:St}(S:∀m,s1.T m=l (e.T m))(N:s1.bs=e.bs)(V:s1.nx=e.nx)(W:∀m,f.M m=s1.O m)(X:f.H=aQ (De h g i b.H))(Y:∀m,c.M m=ae->f.M m=ae)(ac:∀m,m<j.n0->¬j.N0 m->f.M m=c.M m):
 GS j Z {b with T:=OI h g i b.T,H:=De h g i b.H} f (dY s1 λ_=>ae)/\cM c f:=by
 refine⟨⟨⟨k.hn.trans s.p.vn,k.M9.trans s.p.vb,X,by rw[k.Dk];exact s.p.gz,s.p.pS,by rw[k.Dk];exact s.p.facts⟩,λm a hk=>?_,?_⟩,?_⟩;obtain⟨B,t,rfl⟩:=PM hk;show gX f _ (s1.T m);rw[S];exact k.rel B _ (s.je m B t);have w:=s.m;refine⟨λid=>?_,aj,λn ab G=>?_,λn id C p=>⟨aj,λI=>?_⟩,λb1 b2 id ad ag t z=>?_,λn id C p=>?_,λid D O=>(ac id D O).trans (w.frame id D O),λnm aB=>?_,?_,?_,λn id C aE=>?_,λid D=>?_,?_,λn G=>?_⟩;rw[W];show s1.O id=bp s1.O (λ_=>ae) id;simp;obtain⟨x,B,t,rfl⟩:=DG G;obtain⟨z,K⟩:=w.heap n B t;have q:(c.H n).isSome=aa:=by rw[s.p.vH,t];rfl
 refine⟨z,?_⟩;cases B with
 |row al=>obtain⟨id,P,v,E,y,A,F,L⟩:=K;obtain⟨_,M⟩:=k.fsl n id P v [E] x q y A;exact⟨id,P,v,E.map l,by rw[k.BQ];exact y,M,U,k.LN al E L⟩
 |rows an e'=>obtain⟨y,A⟩:=K;refine⟨by rw[k.hn];exact y,?_⟩;rw[k.BQ,k.Dk];cases p:c.ν n with|none=>grind|some id=>rw[p]at A;obtain⟨v,es,F,L,M⟩:=A;obtain⟨_,e6⟩:=k.fsl n id an.length v _ x q p F;refine⟨v,es,?_,L,M⟩;rw[e6,mh];congr 2;exact iL λE _=>by simp[k.fp]
 |map r=>obtain⟨id,v,mf,y,A,F⟩:=K;refine⟨id,v,_,by rw[k.BQ];exact y,k.ajx n id v mf x q y A,λa d Q=>?_⟩;simp only[bj]at Q;obtain⟨d0,ao,rfl⟩:=Q;obtain⟨u,k2,k3⟩:=F a d0 ao;exact⟨u,by rw[k2,k.fp],k3⟩
 have I:kP b Z n=Z:=I;simp[kP,R,iw]at I;rw[k.BQ]at t z;exact w.inj b1 b2 id (k.hH _ ad).2 (k.hH _ ag).2 t z;rw[k.BQ]at p;obtain⟨x,q⟩:=k.hH n C;obtain⟨t,z⟩:=w.own n id q p;refine⟨?_,z⟩;have ht:=k.anf n id x q p;intro hn;rw[hn]at ht;cases aI:c.M id with|none=>exact aj|some m=>grind
 grind;have:=w.room;show s1.bs+b.iz<=s1.nx;rw[N,V];exact ar;have:=w.base;show j.n0<=s1.bs;rw[N];exact ar;grind;have D:s1.nx<=id:=D;exact Y id (w.fr id (by show e.nx<=id;omega));exact aw;grind;refine⟨by rw[k.hn];omega,by rw[k.M9];omega,λo _=>by rw[k.Dk],λn G C=>?_⟩;obtain⟨x,q⟩:=k.hH n C;exact⟨q,by rw[k.BQ],λid p=>k.anf n id x q p⟩
theorem GS.vJ(o:GS j Z b c (dY e λ_=>ae))(G:b.W=[])(an:b.iz=0)(K:b.rb=0)(k:Nat):∃s1 f,kh e s1/\GS j Z (b.vJ k) f (dY s1 λ_=>ae)/\cM c f:=by
 unfold AS.vJ;split;rename_i g i L;obtain⟨ao,v⟩:=o.m.heap k _ L;obtain⟨N,v⟩:=v;have A:∀id,c.M id=e.O id:=λid=>by rw[o.m.m];show bp e.O (λ_=>ae) id=_;simp
 have jI:(c.H k).isSome=aa:=by rw[o.p.vH,L];rfl
 have P:∀a,(aQ (De k g i b.H) a).isSome=aa->a≠k/\(c.H a).isSome=aa:=by intro a W;obtain⟨ab,X⟩:=dM.1 W;obtain⟨Y,a0,r,_⟩:=DG X;exact⟨Y,by rw[o.p.vH,r];rfl⟩
 cases w:c.ν k with
 |none=>
  rw[w]at v;have v:i.val c.ρ=0/\Rows g []:=v;let f:bE:={c with H:=aQ (De k g i b.H)}
  have I:Fz k g i c f id:=by refine⟨rfl,rfl,rfl,rfl,P,U,U,λds hn=>?_,U,U,λd C=>?_,U,λa h l mf _ _ _ x=>by simpa using x,aj,λa h sz l es _ _ _ x=>dK⟩;simp only[List.map_id_fun];exact aj;have r:=C.2 ar;rw[w]at r;have r:d=.p (.v (.slice ae 0 0)):=r;subst r;exact⟨N,_,[],rfl,aj,ak,U,U⟩
  obtain⟨D,E⟩:=I.gs o G y K U rfl rfl A rfl aj aj;exact⟨e,f,aj,D,E⟩
 |some id=>
  rw[w]at v;obtain⟨l,q,Q,ax,ay⟩:=v;let s:Nat->Prop:=λn=>¬(n<j.n0/\¬j.N0 n)
  let s1:St:={e with T:=λn=>gx id l g.length q (e.T n),O:=j8 s id l g.length q e.O}
  let f:bE:={c with H:=aQ (De k g i b.H),M:=s1.O}
  obtain⟨_,aB⟩:=o.m.own k id ar w;have I:Fz k g i c f (gx id l g.length q):=by
   have R:∀a h,a≠k->(c.H a).isSome=aa->c.ν a=J h->f.M h=(c.M h).map (Em id l g.length q):=λa h t u z=>by have B:h≠id:=λee=>t (o.m.inj a k id u ar U w);obtain⟨_,ho⟩:=o.m.own a h u z;have ac:s h:=ak;show j8 s id l g.length q e.O h=_;rw[A];simp only[j8,ap B,aU ar]
   refine⟨rfl,rfl,rfl,rfl,P,aj,aj,λds hn=>?_,λ_=>by simp[gx,vM],λ_ _ _=>by simp[gx,vM],λd C=>?_,aj,λa h S mf t u z x=>by rw[R a h t u z,x];rfl,λa h t u z=>by rw[R a h t u z,Option.map_map];congr 1;funext n;cases n<;>simp[Em,fg.wA],λa h sz S ad t u z x=>?_⟩;simp only[gx,vM];exact tK _;have r:=C.2 ar;rw[w]at r;obtain⟨s',S,ad,V,rfl⟩:=r;rw[Q]at V;cases V;refine⟨N,_,q,?_,aj,y,ar,U⟩;simp[gx];have B:h≠id:=λee=>t (o.m.inj a k id u ar U w);refine⟨by simp[gx,B],?_⟩;obtain⟨_,ho⟩:=o.m.own a h u z;have ac:s h:=ak;show j8 s id l g.length q e.O h=_;rw[A]at x;simp only[j8,ap B,aU ar,x,fK,Em];congr 2;exact iL λag _=>vM id l g.length q ag
  have aE:e.O id=J (.row g.length l (q.map (·.map .p))):=by rw[<-A];exact Q
  obtain⟨D,E⟩:=I.gs o G y K (s1:=s1) aj rfl rfl aj rfl (λn F=>by show j8 s id l g.length q e.O n=ae;rw[A]at F;simp only[j8,F];simp) (λn F aI=>by show j8 s id l g.length q e.O n=c.M n;have t:n≠id:=ak;have al:¬s n:=aj;simp only[j8,ap t,ap al];exact U)
  exact⟨s1,f,.step s id l g.length q ar aj,D,E⟩
 exact⟨e,c,aj,o,cM.refl c⟩
theorem AS.PW(b:Nat)(a:AS):(a.vJ b).W=a.W/\(a.vJ b).iz=a.iz/\(a.vJ b).rb=a.rb/\(a.vJ b).used=a.used/\(a.vJ b).G=a.G:=by unfold AS.vJ;grind
theorem GS.akt:∀(a:List Nat) {b:AS} {e:St} {c:bE},GS j Z b c (dY e λ_=>ae)->b.W=[]->b.iz=0->b.rb=0->∃s1 f,kh e s1/\GS j Z (a.foldl AS.vJ b) f (dY s1 λ_=>ae)/\cM c f
 |[],b,e,c,d,_,_,_=>⟨e,c,aj,d,cM.refl c⟩|h::a,b,e,c,d,g,t,i=>by obtain⟨s1,f,k,l,n⟩:=d.vJ g y i h;obtain⟨u,v,w,_,_⟩:=AS.PW h b;obtain⟨s2,o,q,r,s⟩:=GS.akt a l U y y;exact⟨s2,o,k.trans q,r,n.trans s⟩
def AS.Ps:∀(a:List Nat) (b:AS),((a.foldl AS.vJ b).W=b.W/\(a.foldl AS.vJ b).iz=b.iz/\(a.foldl AS.vJ b).rb=b.rb/\(a.foldl AS.vJ b).used=b.used)|[],b=>Y|h::a,b=>by obtain⟨c,d,e,f,_⟩:=AS.PW h b;obtain⟨g,i,j,k⟩:=AS.Ps a (b.vJ h);exact U
theorem GS.uz:∀(a:List Nat) {b:AS} {e:St} {c:bE},GS j Z b c (dY e λ_=>ae)->b.W=[]->b.iz=0->b.rb=0->b.used=[]->∃s1 f,kh e s1/\GS j Z (b.uz a) f (dY s1 λ_=>ae)/\cM c f/\(b.uz a).W=[]/\(b.uz a).iz=0/\(b.uz a).rb=0/\(b.uz a).used=[]
 |[],b,e,c,d,g,n,h,i=>⟨e,c,aj,d,cM.refl c,g,ar,h,i⟩
 |k::a,b,e,c,d,g,n,h,i=>by
  let l:=Ux b k
  obtain⟨s1,f,o,q,r⟩:=GS.akt l d g y h;obtain⟨x,z,A,B⟩:=AS.Ps l b;obtain⟨s2,s,t,u,v,w⟩:=GS.uz a q U y y U;exact⟨s2,s,o.trans t,u,r.trans v,w⟩
end
section
variable [Gh]
structure Bs where
 e:List (Nat×E)
 b:List (Nat×Option Nat)
def Bs.nil:Bs:=⟨[],[]⟩
def Bs.j4(a c:Bs):Bs:=⟨a.e++c.e,a.b++c.b⟩
def Yu(c:Gs)(a b:E):Bool:=(au a.x b.x&&decide (a.c=b.c))||(le c a b&&le c b a)
def tE(c d:AS)(e:Nat)(b a:E):Option Bs:=
 if eY e a.x then(if decide (a.c=0)&&iM a.x d.ns then J ⟨[(a.x,b)],[]⟩ else ae)
 else if Yu c.G b a then J .nil else ae
def yk(a:Nat):List F->List F->Bool|[],[]=>aa|f::c,b::d=>(au f.x b.x&&(au f.y b.y&&(decide (f.c=b.c)&&(iM f.x a&&iM f.y a))))&&yk a c d|_,_=>Z
mutual
def zO(e c:AS)(f i:Nat):A->A->Option Bs
 |_,.any=>J .nil|a,.ct r=>if Fh e.G a r then J .nil else ae|.int B j,.int C h=>if B=C then tE e c f j h else ae|.bc g,.bc b=>if g=b then J .nil else ae|.bool o D n p,.bc b=>if Lv e (.bool o D n p)=J b then J .nil else ae|.bool o u n p,.bool E F G H=>if(au o E&&(u==F&&(iM o f&&(yk f n G&&yk f p H))))=aa then J .nil else ae|.str j,.str h=>tE e c f j h|.aY k j K,.aY l h L=>if CT.lm k l&&(!L||K) then tE e c f j h else ae|.nil,.nil=>J .nil|.nil,.aY k j _=>if whole (jO k) then ae else tE e c f (num 0) j|.nm a g s d,.nm t b v M=>match tE e c f a t,tE e c f g b,tE e c f s v,tE e c f d M with|some o,J q,J I,J r=>J ((o.j4 q).j4 (I.j4 r))|_,_,_,_=>ae
 |.nm a _ _ _,.str h=>tE e c f a h|.agg w,.agg x=>rI e c f i w x|.eQ w,.eQ x=>rI e c f i w x|.ptr g y,.ptr b z=>if g=b/\y=z/\g<i then J .nil else ae|.rp g y,.rp b z=>if g=b/\y=z/\g<i then J .nil else ae|.mp g,.mp b=>if g=b/\g<i then J .nil else ae|.ip N,.ip O=>if CT.lm N O then J .nil else ae|.own g,.own b=>if b<i then(if g=b then J .nil else ae) else match aQ e.H g,aQ c.H b with|some (.rows k j),J (.rows l h)=>if CT.lm k l&&iM b c.nb then(tE e c f j h).map λm=>⟨m.e,(b,J g)::m.b⟩ else ae|_,_=>ae
 |.nil,.own b=>if b<i then ae else match aQ c.H b with|some (.rows l h)=>if iM b c.nb&& !(whole (jO l)) then(tE e c f (num 0) h).map λm=>⟨m.e,(b,ae)::m.b⟩ else ae|_=>ae
 |.fn P a s,.fn Q t v=>if P=Q then match rI e c f i a t,rI e c f i s v with|some o,J q=>J (o.j4 q)|_,_=>ae else ae
 |.Fy,.Fy=>J .nil|.yY,.yY=>J .nil|_,_=>ae
def rI(b c:AS)(d e:Nat):List A->List A->Option Bs
 |[],[]=>J .nil|a::f,g::h=>match zO b c d e a g,rI b c d e f h with|some o,J q=>J (o.j4 q)|_,_=>ae
 |_,_=>ae
end
mutual
def Bi:CT->CT->Bool|.int e K a,.int f b c=>decide (e=f)&&(decide (K=b)&&decide (a=c))|.bool,.bool=>aa|.str g,.str h=>decide (g=h)|.aY i K a,.aY j b c=>FJ i j&&(decide (K=b)&&decide (a=c))|.nil,.nil=>aa|.any,.any=>aa|.nm r,.nm d=>au r d|.tu,.tu=>aa|.em r,.em d=>au r d|_,_=>Z
def FJ:List CT->List CT->Bool|[],[]=>aa|r::a,b::c=>Bi r b&&FJ a c|_,_=>Z
end
def ac7:VT->VT->Bool|.aM r,.aM a=>Bi r a|.agg b,.agg c=>FJ b c|_,_=>Z
def L9(b c:AS)(d e:Nat):List (Nat×A)->Option Bs|[]=>J .nil|(f,a)::g=>match zO b c d e ((aQ b.T f).getD .any) a,L9 b c d e g with|some o,J q=>J (o.j4 q)|_,_=>ae
def Cs(a b:AS)(c d:Nat):List (Nat×AB)->Option Bs
 |[]=>J .nil
 |(e,f)::g=>match Cs a b c d g with
  |some q=>if d<=e then J q else match aQ a.H e,f with
   |some (.row h),.row i=>match rI a b c d h i with|some o=>J (o.j4 q)|none=>ae
   |some (.rows j k),.rows l m=>if CT.lm j l then match tE a b c k m with|some o=>J (o.j4 q)|none=>ae else ae
   |some (.map r),.map n=>if ac7 r n then J q else ae|_,_=>ae
  |none=>ae
def Ck:List Nat->Bool|[]=>aa|o::a=> !iw a o&&Ck a
inductive uV where|z|s (k:Nat)|c (k j:Nat)|a (k j:Nat)
def qA(c:AS):A->Option E
 |.int _ b=>J b|.str b=>J b|.aY _ b _=>J b|.nil=>J (num 0)|.own d=>match aQ c.H d with|some (.rows _ b)=>J b|_=>ae
 |.nm a _ _ _=>J a|_=>ae
def jR(b:AS):uV->Option E
 |.z=>J (num 0)|.s c=>match aQ b.T c with|some a=>qA b a|none=>ae
 |.c c d=>match aQ b.T c with
  |some (.ptr e _)=>match aQ b.H e with
   |some (.row f)=>match f[d]? with|some a=>qA b a|none=>ae
   |_=>ae
  |_=>ae
 |.a c d=>match aQ b.T c with
  |some (.agg g)=>match g[d]? with|some a=>qA b a|none=>ae
  |_=>ae
inductive TA where|int (k:IntKind)|str|aY (row:List CT)|own (row:List CT)|ct (t:CT)|agg (l:List TA)|aL|any
mutual
def mk:TA->A->AS->A×AS
 |.int e,_,b=>(.int e ⟨b.ns,0⟩,{b with ns:=b.ns+1})|.str,_,b=>(.str ⟨b.ns,0⟩,{b with ns:=b.ns+1})|.aY c,_,b=>(.aY c ⟨b.ns,0⟩ Z,{b with ns:=b.ns+1})|.own c,a,b=>(.own b.nb,{b with ns:=b.ns+1,nb:=b.nb+1,H:=(b.nb,.rows c ⟨b.ns,0⟩)::(match a with|.own f=>rm f b.H|_=>b.H)})|.ct r,_,b=>(.ct r,b)|.agg g,a,b=>match a with|.agg h=>let d:=mkL g h b;(.agg d.1,d.2)|_=>(.any,b)
 |.aL,a,b=>(a,b)|.any,_,b=>(.any,b)
def mkL:List TA->List A->AS->List A×AS|r::e,a::f,b=>let c:=mk r a b;let d:=mkL e f c.2;(c.1::d.1,d.2)|_,_,b=>([],b)
end
def mkT:List (Nat×TA)->AS->List (Nat×A)×AS|[],a=>([],a)|(b,r)::d,a=>let c:=mk r ((aQ a.T b).getD .any) a;let I:=mkT d c.2;((b,c.1)::I.1,I.2)
def mkC:List (Nat×List TA)->AS->AS
 |[],a=>a
 |(e,f)::b,a=>match aQ a.T e with
  |some (.ptr c _)=>match aQ a.H c with|some (.row g)=>let d:=mkL f g a;mkC b (d.2.nD c (.row d.1))|_=>mkC b a
  |_=>mkC b a
structure tP where
 cells:List (Nat×List TA)
 je:List (Nat×TA)
 facts:List (uV×uV×Int)
 rx:uV
 ry:uV
 rc:Int
 top:Int
 acc:List (uV×Int)
 arW:Bool:=Z
def Dm(b:AS):List (uV×uV×Int)->Option (List F)|[]=>J []|(a,c,d)::e=>match jR b a,jR b c,Dm b e with|some o,J q,J f=>J (dq o ⟨q.x,q.c+d⟩::f)|_,_,_=>ae
def vv(b c:AS)(e:Int):List (uV×Int)->Option (List F)|[]=>J []|(a,d)::f=>match jR b a,jR c a,vv b c e f with|some o,J q,J g=>J (dq q o::dq o ⟨q.x,q.c+d*e⟩::g)|_,_,_=>ae
def Ik(b:tP)(c:AS):Option AS:=
 let e:=mkC b.cells c
 let a:=mkT b.je e
 let d:AS:={a.2 with T:=a.1}
 match Dm d b.facts,vv d c b.top b.acc with|some f,J g=>J {T:=a.1,H:=a.2.H,G:=Gs.zj (f++g) c.G,ns:=a.2.ns,nb:=a.2.nb,rb:=0,iz:=0,used:=[],W:=[]}|_,_=>ae
inductive AC where|skip|dg (fz:List Nat) (iz:Nat) (draw:Bool) (ops:List aA)|seq (a b:AC)|cond (c:dh) (a b:AC)|block (id:Nat) (a:AC)|loop (an:tP) (more:List tP) (a:AC)|exit (id:Nat)|ret (fz:List Nat)|qm|split (k:Nat) (js:List (Nat×List Int)) (a:AC)|Oz (an:tP) (a b:AC)
def AC.jf:AC->av|.skip=>.skip|.dg _ c d f=>.dg c d f|.seq a b=>.seq a.jf b.jf|.cond c a b=>.cond c a.jf b.jf|.block e a=>.block e a.jf|.loop _ _ a=>.loop a.jf|.exit e=>.exit e|.ret _=>.ret|.qm=>.qm|.split _ _ a=>a.jf|.Oz _ a b=>.seq a.jf b.jf
def tk(b:AS):List (uV×uV×Int)->Bool|[]=>aa|(a,c,d)::e=>match jR b a,jR b c with|some o,J q=>le b.G o ⟨q.x,q.c+d⟩&&tk b e|_,_=>Z
def zD(c a:AS)(d b:Nat):Bool:=
 match L9 c a d b a.T,Cs c a d b a.H with
 |some o,J q=>let B:=o.j4 q
  eY d a.ns&&(eY b a.nb&&(Ck (B.e.map (·.1))&&(Ck (B.b.map (·.1))&&(Ck (B.b.filterMap (·.2))&&(((B.b.filterMap (·.2)).all λe=>(eY b e||(aQ a.H e).isNone)&&iM e c.nb)&&(a.H.all λf=>iM f.1 b||(B.b.any λI=>au I.1 f.1)))))))
 |_,_=>Z
def Uo(b:List aA):Nat->Nat->Nat
 |0,r=>r
 |f+1,r=>match b.find? (λd=>match d.dst with|some c=>au c r|none=>Z) with
  |some d=>match d.op with|.fa (.t a) _|.lY (.t a)|.mv (.t a)=>Uo b f a|_=>r
  |none=>r
def Rd(c:AS)(b:List aA):List Nat:=
 b.filterMap λd=>if d.fc then match d.op with
  |.load _ _ (.t o) _|.store _ (.t o) _ _|.len _ (.t o)|.ti _ (.t o) _|.sQ _ _ _ (.t o) _|.qx _ (.t o) _ _|.oY (.t o) _ _=>match aQ c.T (Uo b 20 o) with|some (.ptr a _)=>J a|some (.own a)=>J a|some (.rp a _)=>J a|some (.mp a)=>J a|_=>ae
  |_=>ae else ae
def Q3(b:AS):List (uV×Int)->Bool|[]=>aa|(a,d)::c=>(match jR b a with|some _=>decide (0<=d)|none=>Z)&&Q3 b c
def JZ(b c:AS):List (uV×Int)->Bool|[]=>aa|(a,d)::e=>(match jR b a,jR c a with|some o,J q=>le b.G o ⟨q.x,q.c+d⟩&&le b.G q o|_,_=>Z)&&JZ b c e
def J8(j:AS->(aV->AS->Bool)->Bool)(a:tP)(k:AS->Bool)(b:AS)(l:aV->AS->Bool):Bool:=match Ik a b with
 |some d=>match jR b a.rx,jR b a.ry,jR d a.rx,jR d a.ry with
  |some f,J g,J o,J q=>
   zD b d b.ns b.nb&&(tk b a.facts&&((match bd b.G f.x g.x with|some u=>decide (u+f.c-g.c+a.rc<=a.top)&&decide (0<=a.top)|none=>Z)&&(Q3 b a.acc&&
   j d λe c=>match e with
    |.normal=>(match jR c a.rx,jR c a.ry with
     |some h,J i=>zD c d b.ns b.nb&&(tk c a.facts&&(JZ c d a.acc&&
      (match bd c.G h.x o.x,bd c.G q.x i.x with|some u,J m=>decide (u+h.c-o.c+(m+q.c-i.c)<=-1)|_,_=>Z)&&
      (match bd c.G q.x o.x with|some u=>decide (u+q.c-o.c<=a.rc-1)|none=>Z)))
     |_,_=>Z)||k c
    |e=>l e c)))
  |_,_,_,_=>Z
 |none=>Z
def E2(c:AS->(aV->AS->Bool)->Bool)(e:tP):List tP->AS->(aV->AS->Bool)->Bool|[],d,a=>J8 c e (λ_=>Z) d a|b::f,d,a=>J8 c e (λg=>E2 c b f g a) d a
def MF(d:E):List Int->AS->(AS->Bool)->Bool|[],a,b=>b a|c::e,a,b=>FA [dq d (num c)] a b&&FA [dq (num (c+1)) d] a λa=>MF d e a b
def E0(b:Nat):List (Nat×List Int)->AS->(AS->Bool)->Bool
 |[],a,L=>L a
 |(e,g)::c,a,L=>match aQ a.T b with
  |some (.agg f)=>match f[e]? with
   |some (.ct (.int kd K h))=>let d:=intro (.int kd K h) a
    MF ⟨a.ns,0⟩ g {d.2 with T:=(b,.agg (f.set e d.1))::d.2.T} λa=>E0 b c a L
   |_=>E0 b c a L
  |_=>E0 b c a L
section
variable (b:Nat->List A->AS->(A->AS->Bool)->Bool)
def pR(g:Bool):List aA->AS->(AS->Bool)->Bool
 |[],d,e=>e d
 |c::h,d,e=>
  if c.fc&& !g then Z else
  match c.guard with
  |none=>cP b c.fc c.op d λa f=>pR g h (f.put c.dst a) e
  |some (i,m)=>match gP d (.t i) with
   |.yY=>pR g h (d.put c.dst .yY) e
   |a=>let j:=dS a d
    branch j.1 j.2 λk f=>let l:AS:={f with T:=(i,.bc k)::f.T}
     if k==m then cP b c.fc c.op l λa f=>pR g h (f.put c.dst a) e
     else pR g h (l.put c.dst .yY) e
def run:AC->AS->(aV->AS->Bool)->Bool
 |.skip,c,d=>d .normal c|.dg h p j k,c,d=>pR b j k {c.uz h with iz:=p,used:=[],rb:=(c.uz h).nb,W:=if j then Rd (c.uz h) k else [],ow:=h} λf=>d .normal {f with iz:=0,used:=[],rb:=0,W:=[]}|.seq a i,c,d=>run a c λe f=>match e with|.normal=>run i f d|e=>d e f
 |.cond q a i,c,d=>let l:=dS (gP c q) c;branch l.1 l.2 λr f=>if r then run a {f with iz:=0,used:=[],rb:=0,W:=[]} d else run i {f with iz:=0,used:=[],rb:=0,W:=[]} d|.block id a,c,d=>run a c λe f=>match e with|.exit m=>if au m id then d .normal f else d (.exit m) f|e=>d e f
 |.loop g n a,c,d=>if g.arW then run a c λe f=>match e with|.normal=>E2 (λc d=>run a c d) g n f d|e=>d e f
  else E2 (λc d=>run a c d) g n c d
 |.exit id,c,d=>d (.exit id) c|.ret h,c,d=>d .ret (c.uz h)|.qm,_,_=>Z|.split d s a,c,L=>E0 d s c λf=>run a f L|.Oz g a i,c,d=>match Ik g c with|some o=>g.acc.isEmpty&&(run a c (λe f=>match e with|.normal=>zD f o c.ns c.nb&&tk f g.facts|e=>d e f)&&run i o d)|none=>Z
end
mutual
theorem VX:∀{r b:CT},Bi r b=aa->r=b
 |.int e K c,b,a=>by cases b<;>simp[Bi]at a;obtain⟨rfl,rfl,rfl⟩:=a;rfl
 |.bool,b,a=>by cases b<;>simp[Bi]at a;rfl
 |.str f,b,a=>by cases b<;>simp[Bi]at a;subst a;rfl
 |.aY g K c,b,a=>by cases b<;>simp[Bi]at a;obtain⟨d,rfl,rfl⟩:=a;rw[LR d]
 |.nil,b,a=>by cases b<;>simp[Bi]at a;rfl
 |.any,b,a=>by cases b<;>simp[Bi]at a;rfl
 |.nm r,b,a=>by cases b<;>simp[Bi]at a;subst a;rfl
 |.tu,b,a=>by cases b<;>simp[Bi]at a;rfl
 |.em r,b,a=>by cases b<;>simp[Bi]at a;subst a;rfl
theorem LR:∀{c a:List CT},FJ c a=aa->c=a
 |[],a,b=>by cases a with|nil=>rfl|cons=>simp[FJ]at b
 |r::c,a,b=>by cases a with|nil=>simp[FJ]at b|cons d a=>simp[FJ]at b;rw[VX b.1,LR b.2]
end
def aii{a:VT}(b:ac7 r a=aa):r=a:=by cases r<;>cases a<;>simp[ac7]at b;rw[VX b];rw[LR b]
end
section
variable [Gh]
theorem vT:∀{b:List Nat},Ck b=aa->b.Nodup|[],_=>Y|o::d,a=>by simp[Ck,aq]at a;refine kQ.2 ⟨λc=>?_,vT a.2⟩;rw[zK.2 c]at a;grind
theorem Gc{c:Type}:∀{d:List (Nat×c)} {o:Nat} {a:c},aQ d o=J a->(o,a)∈d|[],_,_,b=>by simp[aQ]at b|(e,f)::g,o,a,b=>by rw[dQ]at b;split at b;grind;exact jz _ (Gc b)
theorem Gg{c:Type}:∀{b:List (Nat×c)} {o:Nat} {a:c},(b.map (·.1)).Nodup->(o,a)∈b->aQ b o=J a
 |[],_,_,_,h=>by cases h
 |(d,f)::g,o,a,e,h=>by
  simp only[bG,kQ]at e;rw[dQ];rcases bt.1 h with i|h
  grind;have:d≠o:=ak;rw[ap y];exact Gg U h
section
variable {h g:AS}{e c:bE}{i j:Nat}
def su(b c:bE)(B:Bs):Prop:=(∀a∈B.e,c.ρ a.1=a.2.val b.ρ)/\∀a∈B.b,c.ν a.1=a.2.bind b.ν
def su.left{b f:Bs}(d:su e c (b.j4 f)):su e c b:=⟨λa g=>d.1 a (bg.2 U),λa g=>d.2 a (bg.2 U)⟩
def su.right{f b:Bs}(d:su e c (f.j4 b)):su e c b:=⟨λa g=>d.1 a (bg.2 U),λa g=>d.2 a (bg.2 U)⟩
def nC(i b:AS)(j k:Nat)(c d:bE)(B:Bs):Prop:=
 (∀a∈B.e,j<=a.1/\a.1<b.ns)/\∀a∈B.b,k<=a.1/\a.1<b.nb/\∃f e,aQ b.H a.1=J (.rows f e)/\e.x<b.ns/\
  match a.2 with|some l=>∃h g,aQ i.H l=J (.rows h g)/\CT.lm h f=aa/\(su c d B->g.x<c.n->e.val d.ρ=g.val c.ρ)|none=>Rows f []/\(su c d B->e.val d.ρ=0)
def nC.j4{w x:Bs}(y:nC h g i j e c w)(z:nC h g i j e c x):nC h g i j e c (w.j4 x):=by
 refine⟨λb d=>(bg.1 d).elim (y.1 b) (z.1 b),λb d=>?_⟩;rcases bg.1 d with d|d
 obtain⟨l,m,n,o,p,q,a⟩:=y.2 b d;refine⟨l,m,n,o,p,q,?_⟩;cases k:b.2 with|none=>rw[k]at a;exact⟨U,λf=>a.2 f.left⟩|some A=>rw[k]at a;obtain⟨r,s,t,u,v⟩:=a;exact⟨r,s,t,u,λf=>v f.left⟩
 obtain⟨l,m,n,o,p,q,a⟩:=z.2 b d;refine⟨l,m,n,o,p,q,?_⟩;cases k:b.2 with|none=>rw[k]at a;exact⟨U,λf=>a.2 f.right⟩|some A=>rw[k]at a;obtain⟨r,s,t,u,v⟩:=a;exact⟨r,s,t,u,λf=>v f.right⟩
def nC.nil:nC h g i j e c .nil:=⟨λb a=>(by cases a),λb a=>(by cases a)⟩
structure Wi(h g:AS)(i j:Nat)(e c:bE):Prop where
 p:GP h e
 ρ:∀x,x<i->c.ρ x=e.ρ x
 n:i<=g.ns
 b:j<=g.nb
 wn:c.n=g.ns
 wb:c.nb=g.nb
 wH:c.H=aQ g.H
 wM:c.M=e.M
 z:0<i
 ν:∀b,b<j->(aQ g.H b).isSome=aa->(aQ h.H b).isSome=aa/\c.ν b=e.ν b
variable (b:Wi h g i j e c)
include b
theorem acd{d:E}(k:d.x<i)(j:Yu h.G a d=aa):d.val c.ρ=a.val e.ρ:=by
 have l:d.val c.ρ=d.val e.ρ:=by unfold E.val;rw[b.ρ _ k]
 rw[l];simp only[Yu,fA,aq,dJ]at j;rcases j with⟨f,g⟩|⟨f,g⟩
 have f:=aK f;simp[E.val,f,g];have:=dP b.p.hf f;have:=dP b.p.hf g;omega
theorem jr{j:E}{B:Bs}(f:tE h g i a j=J B):(∀k∈B.e,i<=k.1/\k.1<g.ns)/\B.b=[]/\j.x<g.ns/\(su e c B->j.val c.ρ=a.val e.ρ):=by unfold tE at f;split at f;rename_i d;have d:=iB d;split at f;rename_i l;simp only[aq,dJ]at l;have n:=ml.mp l.2;cases f;refine⟨λk m=>?_,rfl,n,λo=>?_⟩;grind;have:=o.1 (j.x,a) Y;simp at this;unfold E.val at this⊢;omega;grind;rename_i d;have d:=iP λp=>d (qZ p);split at f;rename_i q;cases f;exact⟨λk m=>(by cases m),rfl,bw d b.n,λ_=>acd b d q⟩;grind
theorem pZ{d:E}{B:Bs}(f:tE h g i a d=J B):nC h g i j e c B:=by obtain⟨k,l,_⟩:=jr b f;exact⟨k,ak⟩
omit b in
theorem NA:∀{b g:List F},yk i b g=aa->b=g/\∀f∈b,f.x<i/\f.y<i
 |[],[],_=>⟨rfl,λ_ a=>by cases a⟩|[],_::_,a=>by simp[yk]at a|_::_,[],a=>by simp[yk]at a
 |f::n,k::o,a=>by
  simp only[yk,aq,dJ]at a;obtain⟨⟨h,j,p,c,d⟩,l⟩:=a;obtain⟨q,m⟩:=NA l;have h:=aK h;have j:=aK j;have c:=ml.mp c;have d:=ml.mp d;refine⟨by cases f;cases k;simp_all,λI e=>?_⟩;rcases bt.1 e with rfl|e
  exact⟨c,d⟩;exact m I e
theorem Qd{a d:List F}{f:Prop}(j:yk i a d=aa)(k:fx e.n e.ρ a f):fx c.n c.ρ d f:=by obtain⟨rfl,l⟩:=NA j;intro g h;obtain⟨m,n⟩:=l g h;have:=b.n;have o:=b.wn;refine⟨y,y,λW=>?_⟩;have:=(k g h).2.2 W;unfold F.ok at this⊢;rw[b.ρ _ m,b.ρ _ n];omega
omit b in
theorem aiG{g:AS}{h:bE}{i:Nat}{b j:Bool}{k l:List F}(c:GP g h)(o:gX h (.bool i b k l) d)(a:Lv g (.bool i b k l)=J j):d=.p (B j):=by obtain⟨p,e,m,n,q,r⟩:=o;simp only[Lv]at a;split at a;rename_i f;cases a;have:=dP c.hf f;rw[dW c]at this;simp only[E.val]at this;rw[m];by_cases W:e=b;rw[W];rw[ap W]at n;omega;split at a;rename_i f;cases a;have:=dP c.hf f;rw[dW c]at this;simp only[E.val]at this;rw[m];by_cases W:e=b;rw[aU W]at n;omega;cases e<;>cases b<;>simp_all;cases a
mutual
theorem WX:∀(a P:A) (B:Bs),zO h g i j a P=J B->nC h g i j e c B/\(su e c B->∀d,gX e a d->gX c P d)
 |a,P,B,f=>by
  unfold zO at f;split at f;cases f;exact⟨nC.nil,λ_ d _=>trivial⟩;rename_i r _;split at f;rename_i Q;cases f;exact⟨nC.nil,λ_ d k=>B8 b.p Q k⟩;cases f;rename_i aE R k' O;split at f;rename_i hk;subst hk;obtain⟨s,v,n,t⟩:=jr b f;exact⟨pZ b f,λl d k=>⟨by rw[b.wn];exact n,by rw[t l];exact k.2⟩⟩;cases f;rename_i E K;split at f;rename_i p;cases f;subst p;exact⟨nC.nil,λ_ d k=>k⟩;cases f;rename_i o aI tt ff K;split at f;rename_i p;cases f;exact⟨nC.nil,λ_ d k=>aiG b.p k p⟩;cases f;rename_i o u tt ff x' p' aO aP;split at f;rename_i p;simp only[aq,qY]at p;obtain⟨s,rfl,n,t,h5⟩:=p;have s:=aK s;subst s;have n:=ml.mp n;cases f;refine⟨nC.nil,λ_ d k=>?_⟩;obtain⟨_,E,w,S,r4,r5⟩:=k;exact⟨by rw[b.wn];exact bw n b.n,E,w,by rw[b.ρ _ n];exact S,Qd b t r4,Qd b h5 r5⟩;cases f;rename_i R O;obtain⟨s,v,n,t⟩:=jr b f;exact⟨pZ b f,λl d k=>by obtain⟨_,a,C,w⟩:=k;exact⟨by rw[b.wn];exact n,a,C,by rw[t l];exact w⟩⟩
  rename_i ab R ao V O aR;split at f;rename_i m;simp only[aq,fA,lJ]at m;obtain⟨s,v,n,t⟩:=jr b f;refine⟨pZ b f,λl d k=>?_⟩;obtain⟨_,u,es,C,w,S,r4,r5⟩:=k;have hl:=CT.rV m.1;refine⟨by rw[b.wn];exact n,u,es,C,hl▸w,by rw[t l];exact S,Rows.lm m.1 r4,λQ=>?_⟩;rw[<-hl];refine r5 ?_;rcases m.2 with m|m
  rw[Q]at m;cases m;exact m;cases f;cases f;exact⟨nC.nil,λ_ d k=>k⟩;rename_i ab R ao;split at f;cases f;rename_i W;obtain⟨s,v,n,t⟩:=jr b f;exact⟨pZ b f,λl d k=>⟨by rw[b.wn];exact n,_,[],k,.nil,by rw[t l,dW b.p];rfl,Rows.nil (Bool.not_eq_true _▸W),λ_=>.inl rfl⟩⟩;rename_i a1 b1 c1 d1 a2 b2 c2 d2;split at f;rename_i o q I r X hy hz W;cases f;obtain⟨_,_,x3,x4⟩:=jr b X;obtain⟨_,_,y3,y4⟩:=jr b hy;obtain⟨_,_,z3,z4⟩:=jr b hz;obtain⟨_,_,t3,t4⟩:=jr b W;refine⟨((pZ b X).j4 (pZ b hy)).j4 ((pZ b hz).j4 (pZ b W)),λl d k=>?_⟩;obtain⟨_,_,_,_,a,D,M,N,e4,e5,e6⟩:=k;exact⟨by rw[b.wn];exact x3,by rw[b.wn];exact y3,by rw[b.wn];exact z3,by rw[b.wn];exact t3,a,D,M,by rw[x4 l.left.left];exact N,by rw[y4 l.left.right];exact e4,by rw[z4 l.right.left];exact e5,by rw[t4 l.right.right];exact e6⟩;cases f;obtain⟨s,v,n,t⟩:=jr b f;exact⟨pZ b f,λl d k=>by obtain⟨_,_,_,_,a,C,_,w,_⟩:=k;exact⟨by rw[b.wn];exact n,a,C,by rw[t l];exact w⟩⟩
  rename_i ac bs;obtain⟨s,v⟩:=zB ac bs B f;exact⟨s,λl d k=>by obtain⟨L,C,w⟩:=k;exact⟨L,C,v l L w⟩⟩;rename_i ac bs;obtain⟨s,v⟩:=zB ac bs B f;exact⟨s,λl d k=>by obtain⟨L,C,w⟩:=k;exact⟨L,C,v l L w⟩⟩;rename_i E ax K j';split at f;rename_i m;obtain⟨rfl,rfl,p⟩:=m;cases f;refine⟨nC.nil,λ_ d k=>⟨by rw[b.wb];exact bw p b.b,λx=>?_⟩⟩;rw[b.wH]at x;obtain⟨H,F⟩:=b.ν E p x;obtain⟨id,ad,T,G,D,M,N⟩:=k.2 (by rw[b.p.vH];exact H);exact⟨id,ad,T,G,F.trans D,by rw[b.wM];exact M,N⟩;cases f;rename_i E ax K j';split at f;rename_i m;obtain⟨rfl,rfl,p⟩:=m;cases f;refine⟨nC.nil,λ_ d k=>⟨by rw[b.wb];exact bw p b.b,λx=>?_⟩⟩;rw[b.wH]at x;obtain⟨H,F⟩:=b.ν E p x;obtain⟨id,ad,T,G,ay,D,M,N⟩:=k.2 (by rw[b.p.vH];exact H);exact⟨id,ad,T,G,ay,F.trans D,by rw[b.wM];exact M,N⟩;cases f;rename_i E K;split at f;rename_i m;obtain⟨rfl,p⟩:=m;cases f;refine⟨nC.nil,λ_ d k=>⟨by rw[b.wb];exact bw p b.b,λx=>?_⟩⟩;rw[b.wH]at x;obtain⟨H,F⟩:=b.ν E p x;obtain⟨id,T,mf,D,M,N⟩:=k.2 (by rw[b.p.vH];exact H);exact⟨id,T,mf,F.trans D,by rw[b.wM];exact M,N⟩;cases f;rename_i ts us;split at f;rename_i x;cases f;exact⟨nC.nil,λ_ d k=>by obtain⟨G,C,w⟩:=k;exact⟨G,C,nF.lm x w⟩⟩;cases f;rename_i E K;split at f;rename_i p;split at f;rename_i m;subst m;cases f;refine⟨nC.nil,λ_ d k=>⟨by rw[b.wb];exact bw p b.b,λx=>?_⟩⟩;rw[b.wH]at x;obtain⟨H,F⟩:=b.ν E p x;have:=k.2 (by rw[b.p.vH];exact H);rw[F,b.wM];exact this;cases f;rename_i p;split at f;rename_i ab R V O H F;split at f;rename_i m;simp only[aq]at m;have U:=ml.mp m.2;simp only[bj]at f;obtain⟨G,ag,rfl⟩:=f;obtain⟨s,v,n,t⟩:=jr b ag;have hw:∀{al},su e c ⟨G.e,al⟩->su e c G:=λl=>⟨l.1,λan z=>by rw[v]at z;cases z⟩;refine⟨⟨s,λan z=>?_⟩,λl d k=>⟨by rw[b.wb];exact U,λx=>?_⟩⟩;rcases bt.1 z with rfl|z
  exact⟨y,U,V,O,F,n,ab,R,H,m.1,λl _=>t (hw l)⟩;rw[v]at z;cases z;have D:=l.2 (K,J E) Y;simp only[A6]at D;have:=k.2 (by rw[b.p.vH,H];rfl);rw[D,b.wM];exact this;cases f;cases f;rename_i K;split at f;cases f;rename_i p;split at f;rename_i V O F;split at f;rename_i m;simp only[aq,lJ]at m;have U:=ml.mp m.1;simp only[bj]at f;obtain⟨G,ag,rfl⟩:=f;obtain⟨s,v,n,t⟩:=jr b ag;have hw:∀{al},su e c ⟨G.e,al⟩->su e c G:=λl=>⟨l.1,λan z=>by rw[v]at z;cases z⟩;refine⟨⟨s,λan z=>?_⟩,λl d k=>⟨by rw[b.wb];exact U,λx=>?_⟩⟩;rcases bt.1 z with rfl|z
  exact⟨y,U,V,O,F,n,Rows.nil m.2,λl=>by rw[t (hw l),dW b.p]⟩;rw[v]at z;cases z;have D:=l.2 (K,ae) Y;simp only[U8]at D;rw[D];exact k;cases f;cases f;rename_i aS a aB f' P c';split at f;rename_i Q;subst Q;split at f;rename_i o q X hy;cases f;obtain⟨s,v⟩:=zB a P o X;obtain⟨n,t⟩:=zB aB c' q hy;exact⟨s.j4 n,λl d k=>by obtain⟨L,cs,C,w,S⟩:=k;exact⟨L,cs,C,v l.left L w,t l.right cs S⟩⟩
  cases f;cases f;cases f;exact⟨nC.nil,λ_ d k=>k⟩;cases f;exact⟨nC.nil,λ_ d k=>k⟩;cases f
theorem zB:∀(l m:List A) (B:Bs),rI h g i j l m=J B->nC h g i j e c B/\(su e c B->∀f,cd e l f->cd c m f)
 |[],[],B,b=>by simp only[rI]at b;cases b;exact⟨nC.nil,λ_ f k=>by cases f with|nil=>trivial|cons=>exact k.elim⟩
 |[],_::_,B,b=>by simp[rI]at b|_::_,[],B,b=>by simp[rI]at b
 |a::l,p::m,B,b=>by
  simp only[rI]at b;split at b;rename_i o q r s;cases b;obtain⟨t,u⟩:=WX a p o r;obtain⟨v,w⟩:=zB l m q s;exact⟨t.j4 v,λn f k=>by cases f with|nil=>exact k.elim|cons d f=>exact⟨u n.left d k.1,w n.right f k.2⟩⟩
  cases b
end
theorem WQ{l:Nat->D}(p:∀d a,aQ h.T d=J a->gX e a (l d)):∀(m:List (Nat×A)) (B:Bs),L9 h g i j m=J B->nC h g i j e c B/\(su e c B->∀d a,(d,a)∈m->gX c a (l d))
 |[],B,f=>by simp[L9]at f;cases f;exact⟨nC.nil,ak⟩
 |(d,a)::r,B,f=>by
  simp[L9]at f;split at f;rename_i o q s t;cases f;obtain⟨u,v⟩:=WX b _ a o s;obtain⟨w,x⟩:=WQ p r q t;refine⟨u.j4 w,λn y z k=>?_⟩;rcases bt.1 k with C|k
  cases C;refine v n.left _ ?_;cases E:aQ h.T d with|none=>trivial|some I=>exact U
  exact x n.right y z k;grind
theorem VR:∀(A:List (Nat×AB)) (B:Bs),Cs h g i j A=J B->nC h g i j e c B/\(∀d t,(d,t)∈A->d<j->(aQ h.H d).isSome=aa)/\
 (su e c B->∀d t,(d,t)∈A->d<j->c.ν d=e.ν d->(∀H,aQ h.H d=J H->wG e d H)->wG c d t)
 |[],B,a=>by simp[Cs]at a;cases a;exact⟨nC.nil,ak,ak⟩
 |(d,t)::M,B,a=>by
  simp[Cs]at a;split at a;rename_i q N;obtain⟨C,h4,I⟩:=VR M q N;split at a;grind;rename_i hb;split at a;rename_i O P u;split at a;rename_i o x;cases a;obtain⟨Q,R⟩:=zB b O P o x;refine⟨Q.j4 C,λk l f m=>?_,λp k l f m v n=>?_⟩;grind;rcases bt.1 f with s|f
  cases s;obtain⟨id,S,w,K,T,D,E,V⟩:=n _ u;exact⟨id,S,w,K,U,by rw[b.wM];exact D,E,R p.left K V⟩;exact I p.right k l f m v n;grind;rename_i ac s ad e' u;split at a;rename_i F;split at a;rename_i o x;cases a;obtain⟨g1,g2,W,X⟩:=jr b x;refine⟨(pZ b x).j4 C,λk l f m=>?_,λp k l f m v n=>?_⟩;grind;rcases bt.1 f with s|f
  cases s;obtain⟨f0,z⟩:=n _ u;refine⟨by rw[b.wn];exact W,?_⟩;rw[v,X p.left];cases L:e.ν d with|none=>rw[L]at z;exact⟨y,z.2.lm F⟩|some id=>rw[L]at z;obtain⟨w,Y,f2,f3,f4⟩:=z;exact⟨w,Y,by rw[b.wM,<-CT.rV F];exact f2,f3,f4.lm F⟩
  exact I p.right k l f m v n;grind;grind;rename_i r t' u;split at a;rename_i G;cases a;have G:=aii G;subst G;refine⟨C,λk l f m=>?_,λp k l f m v n=>?_⟩;grind;rcases bt.1 f with s|f
  cases s;obtain⟨id,w,mf,T,D,E⟩:=n _ u;exact⟨id,w,mf,U,by rw[b.wM];exact D,E⟩;grind;grind;grind;grind
theorem PJ:∀(r:List (Nat×AB)) (B:Bs),Cs h g i j r=J B->su e c B->∀l m k,(l,.rows m k)∈r->l<j->∃p d,aQ h.H l=J (.rows p d)/\k.x<g.ns/\k.val c.ρ=d.val e.ρ
 |[],B,a,n,l,m,k,f,_=>by cases f
 |(l,A)::u,B,a,n,s,m,k,f,t=>by
  simp[Cs]at a;split at a;rename_i q v;have ih:=PJ u q v;split at a;grind;split at a;split at a;cases a;rcases bt.1 f with d|f
  cases d;exact ih n.right s m k f t;grind;rename_i p d C D w;split at a;split at a;rename_i o x;cases a;rcases bt.1 f with d|f
  cases d;obtain⟨E,F,y,z⟩:=jr b x;exact⟨p,d,w,y,z n.left⟩;exact ih n.right s m k f t;grind;grind;grind;grind;grind
theorem IX(F:∀v p s,aQ g.H v=J (.rows p s)->v<j->∃w m,aQ h.H v=J (.rows w m)/\s.x<g.ns/\s.val c.ρ=m.val e.ρ){C D:A}{B:Bs}{m:E}(d:zO h g i j C D=J B)(y:su e c B)(a:qA g D=J m):∃s,qA h C=J s/\m.x<g.ns/\m.val c.ρ=s.val e.ρ:=by unfold zO at d;split at d;cases a;cases a;rename_i T l V n;split at d;obtain⟨t,u,f,k⟩:=jr b d;cases a;exact⟨l,rfl,f,U⟩;grind;cases a;cases a;cases a;rename_i l n;obtain⟨t,u,f,k⟩:=jr b d;cases a;exact⟨l,rfl,f,U⟩;rename_i w l G p n W;split at d;obtain⟨t,u,f,k⟩:=jr b d;cases a;exact⟨l,rfl,f,U⟩;grind;cases a;exact⟨num 0,rfl,bw b.z b.n,by rw[dW b.p];simp[E.val,num,b.ρ 0 b.z,b.p.z]⟩;rename_i w n G;split at d;cases d;obtain⟨t,u,f,k⟩:=jr b d;cases a;exact⟨num 0,rfl,f,U⟩;split at d;rename_i o q I r H X Y ab;cases d;cases a;obtain⟨_,_,f,k⟩:=jr b H;exact⟨_,rfl,f,k y.left.left⟩;grind;rename_i K b1 c1 d1 n;obtain⟨t,u,f,k⟩:=jr b d;cases a;exact⟨K,rfl,f,U⟩;cases a;cases a;cases a;cases a;cases a;cases a;rename_i v L;split at d;rename_i M;split at d;rename_i N;subst N;simp only[qA]at a;split at a;rename_i p n x;cases a;obtain⟨w,l,O,P,Q⟩:=F v p m x M;exact⟨l,by simp[qA,O],P,Q⟩;grind;grind;rename_i hb;split at d;rename_i w l p n R x;split at d;simp only[bj]at d;obtain⟨S,z,rfl⟩:=d;obtain⟨t,u,f,k⟩:=jr b z;simp only[qA,x]at a;cases a;exact⟨l,by simp[qA,R],f,k ⟨y.1,ak⟩⟩;grind;grind;rename_i L;split at d;cases d;split at d;rename_i p n x;split at d;simp only[bj]at d;obtain⟨S,z,rfl⟩:=d;obtain⟨t,u,f,k⟩:=jr b z;simp only[qA,x]at a;cases a;exact⟨num 0,rfl,f,k ⟨y.1,ak⟩⟩;grind;grind;cases a;cases a;cases a;grind
end
end
end Go.Dl.Ai
