import Derived.Test.YtaggkglfnbcjdaaGreatDoorProg
import Derived.Test.YtaggkglfnbcjdaaGreatDoorQ07
set_option linter.all false
set_option maxRecDepth 1000000
set_option maxHeartbeats 40000000
namespace Go.Dl.Ai
end Go.Dl.Ai
namespace Go.Proofs
end Go.Proofs
namespace Ty
end Ty
open Bool renaming false->Z,true->aa
open ByteArray renaming mk->uy,size_append->Qe
open Go.IntKind renaming i64->cI
open Go.Proofs.Tryz renaming func103->Hh,func122->Gp,prog->af
open Go.Utf8 renaming encode->gY
open Go.Value renaming oneCell'->aJ
open List renaming length_append->fj,length_cons->ij,length_pos_iff->xQ,map_append->cG,mem_map->bN,replicate->fL,sum_cons->Gr
open Nat renaming le_succ->Hw,mul_add->G5
open Option renaming none->ae,some->J
open Go Go.Dl Go.Dl.Ai
def u7:=@Int.le_refl
def nf:=@List.take_add_one
def na:=@List.filter_append
def y7:=@List.take_length
def lI:=@List.getD_cons_zero
def kG:=@and_self
def Bv:=@List.length_singleton
variable {n id g bu nx' Q i rest fb gf m:Nat}{t aB o v be aP:P}{C:D->ah->Nat->Prop}{l:List Int}{V aS E j bS bH:Int}{c:List P}{A:ByteArray}{K ag:ah}{M:D}{f:List P->Nat}{aR bn:List CT}{H bO:CT}{bB:Type}{e:St}{bC:Exit->St->Prop}{bA:Gh}{bT:cR}
namespace Go.Dl
open Go.Proofs Go.Dl.Ai
def D55:d6:=⟨16,[.t 4],z 1 [fR 4 0] (.seq (z 2 [G 5 1,q 6 (di .lss 5 1)] (.cond (.t 6) (z 1 [fR 4 0] (.ret)) (.skip))) (z 4 [G 7 0,G 8 1,q 9 (xB .rem 7 8),G 0 9] (.seq (z 2 [G 10 0,q 11 (di .lss 10 0)] (.cond (.t 11) (rF 4 [G 12 0,G 13 1,q 14 (xB .add 12 13),G 0 14]) (.skip))) (z 2 [G 15 0,G 4 15] (.ret)))))⟩
def apB:cW af Tryz.f55=J D55:=h
def D19:d6:=⟨64,[.t 4],z 1 [fR 4 0] (z 8 [G 7 0,d5 8 7,oF 9 8 1,oL 10 1 9,q 11 (di .add 10 1),d5 12 7,oF 13 12 1,oN (xS 1 13 11)] (.seq (z 6 [G 14 0,d5 15 14,oF 16 15 0,oL 17 1 16,q 18 (fQ 17),q 19 (di .eql 18 0)] (.cond (.t 19) (z 8 [G 20 0,d5 21 20,oF 22 21 1,oL 23 1 22,q 24 (di .mul 23 7919),G 25 1,q 26 (dV 55 24 25),G 4 26] (.ret)) (.skip))) (z 12 [G 27 0,d5 28 27,oF 29 28 1,oL 30 1 29,q 31 (di .sub 30 1),G 32 0,d5 33 32,oF 34 33 0,oL 35 1 34,q 36 (fQ 35),q 37 (xB .rem 31 36),G 5 37] (z 12 [G 38 0,d5 39 38,oF 40 39 1,oL 41 1 40,q 42 (di .sub 41 1),G 43 0,d5 44 43,oF 45 44 0,oL 46 1 45,q 47 (fQ 46),q 48 (xB .quo 42 47),G 6 48] (z 16 [G 49 0,d5 50 49,oF 51 50 0,oL 52 1 51,G 53 5,q 54 (xI 1 52 53),oL 55 1 54,q 56 (.call 55 [.t 55,.c (I 1073741824)]),G 57 6,G 58 5,q 59 (.lS .add 0 (.c (I 7919)) (.t 58)),q 60 (xB .mul 57 59),q 61 (xB .add 56 60),G 62 1,q 63 (dV 55 61 62),G 4 63] (.ret))))))⟩
def aoy:cW af Tryz.f19=J D19:=h
def D7:d6:=⟨9,[.t 4],z 1 [q 4 (gR Z)] (z 5 [G 5 0,G 6 1,q 7 (dV 19 5 6),q 8 (di .eql 7 0),G 4 8] (.ret))⟩
def ar6:cW af Tryz.f7=J D7:=h
def D8:d6:=⟨19,[.t 6],z 1 [fR 6 0] (.seq (z 3 [G 7 2,G 8 1,q 9 (xB .lss 7 8)] (.cond (.t 9) (z 2 [G 10 1,G 6 10] (.ret)) (.skip))) (z 9 [G 11 1,G 12 0,G 13 2,G 14 1,q 15 (xB .sub 13 14),q 16 (di .add 15 1),q 17 (dV 19 12 16),q 18 (xB .add 11 17),G 6 18] (.ret)))⟩
def asf:cW af Tryz.f8=J D8:=h
def D6:d6:=⟨12,[.t 4],z 1 [fR 4 0] (z 8 [G 5 1,G 6 0,G 7 1,q 8 (fQ 7),q 9 (dV 19 6 8),q 10 (xI 1 5 9),oL 11 1 10,G 4 11] (.ret))⟩
def arO:cW af Tryz.f6=J D6:=h
def iK{n:Int}(a: -9223372036854775808<=n)(b:n<=9223372036854775807):cI.wrap n=n:=by simp only[IntKind.wrap,IntKind.bits,IntKind.signed];simp;omega
def Ks{b a:Int}(i:a<=9223372036854775807){e:ah}{f:Nat}(d:∀nx' c,f<=nx'->0<=c->(1<=a->c<a)->(a<1->c=0)->C (.p (I c)) e nx'):
 X af 55 [.p (I b),.p (I a)] e f C:=by refine X.of Y apB (by simp[D55]) λj=>?_;simp[D55,cN,binOp,aC];refine⟨λg=>?_,λg=>⟨y,λh=>?_,λh=>?_⟩⟩;exact .d8 bK y (d _ _ y y y y);have:=HR b (show 0<a by omega);rw[iK y y];exact .d8 bK y (d _ _ y y y y);have:=BO b (show 0<a by omega);exact .d8 bK y (d _ _ y y y y)
inductive Lh:P->Nat->Prop|nil:Lh aD 0|im (es:List (List P)) (full:Bool) (h:∀r∈es,∃x:Int,r=[I x]):Lh (.im es 1 full) es.length
def IP{f:P}{d:Int}{e:ah}{h:Nat}(k:d<=9223372036854775807)(v:Lh f bu)(H:id<h)(r:e id=J (.row 2 g [[.p f,.p (I V)]]))(w:0<=V)(K:V<4611686018427387904)(l:∀nx' c,h<=nx'->0<=c->(1<=d->c<d)->(d<1->c=0)->C (.p (I c)) (am e id (J (.row 2 g [[.p f,.p (I (V+1))]]))) nx'):
 X af 19 [.ptr id g 2 0 0,.p (I d)] e h C:=by refine X.of Tryz.func19 aoy (by simp[D19]) λo=>?_;have s:=iK (n:=V+1) y y;have x:=iK (n:=V) y y;have p:∀m,Fr e m->h<=m->Fr (am e id (J (.row 2 g [[.p f,.p (I (V+1))]]))) m:=λm z L=>z.am y;cases v with|nil=>simp(disch:=omega)[D19,cN,binOp,aC,r,ba,D.cells,P.cells,aJ,bI,s];refine Ks k λnx' c q i a j=>?_;exact .d8 (p _ (o.mono y) y) y (l _ _ y i a j)|im b M A=>simp(disch:=omega)[D19,cN,binOp,aC,r,ba,D.cells,P.cells,aJ,bI,s,x];refine⟨λ_=>?_,λu=>?_⟩;refine Ks k λnx' c q i a j=>?_;exact .d8 (p _ (o.mono y) y) y (l _ _ y i a j);have W:0<b.length:=xQ.2 u;have q:0<=V.tmod b.length:=BG _ w;have i:V.tmod b.length<b.length:=BO _ y;refine⟨u,q,?_⟩;have a:(V.tmod b.length).toNat<b.length:=y;obtain⟨t,B⟩:=A _ (bJ a);rw[bh a,B];simp[ft];refine Ks y λnx' c j N O Q=>?_;simp;refine Ks k λnx' c R E F G=>?_;exact .d8 (p _ (o.mono y) y) y (l _ _ y E F G)
def alE{a:P}{e:Int}{b:ah}{d:Nat}(f:e<=9223372036854775807)(h:Lh a bu)(i:id<d)(j:b id=J (.row 2 g [[.p a,.p (I V)]]))(k:0<=V)(l:V<4611686018427387904)(m:∀nx' A,d<=nx'->C (.p (B A)) (am b id (J (.row 2 g [[.p a,.p (I (V+1))]]))) nx'):
 X af 7 [.ptr id g 2 0 0,.p (I e)] b d C:=by refine X.of Tryz.func7 ar6 (by simp[D7]) λn=>?_;simp[D7,cN];refine IP f h y j k l λnx' c o p q r=>?_;simp[binOp,aC];exact .d8 ((n.am i).mono y) y (m _ _ y)
def Wv{b:P}{d:ah}{a:Nat}(p: -1000000000000000000<=aS)(q:aS<=1000000000000000000)(r:E<=1000000000000000000)(j:Lh b bu)(k:id<a)(f:d id=J (.row 2 g [[.p b,.p (I V)]]))(l:0<=V)(m:V<4611686018427387904)(h:∀nx' c e,a<=nx'->aS<=c->(aS<=E->c<=E)->(E<aS->c=aS)->V<=e->e<=V+1->C (.p (I c)) (am d id (J (.row 2 g [[.p b,.p (I e)]]))) nx'):
 X af 8 [.ptr id g 2 0 0,.p (I aS),.p (I E)] d a C:=by refine X.of Tryz.func8 asf (by simp[D8]) λi=>?_;simp[D8,cN,binOp,aC];refine⟨λo=>?_,λo=>?_⟩;refine .d8 (i.mono y) y ?_;have:=h (a+1+3+2) aS V y y y y y y;rw[yd f]at this;exact this;rw[iK (n:=E-aS) y y,iK y y];refine IP y j y f l m λnx' c s t u v=>?_;simp;rw[iK y y];exact .d8 ((i.am k).mono y) y (h _ _ _ y y y y y y)
def akd{b:P}{a:List (List P)}{j:Bool}{d:ah}{e:Nat}(k:a≠[])(l:∀c∈a,∃t:Int,c=[I t])(u:a.length<1000000)(m:Lh b bu)(n:id<e)(o:d id=J (.row 2 g [[.p b,.p (I V)]]))(p:0<=V)(q:V<4611686018427387904)(r:∀nx' t,e<=nx'->[I t]∈a->C (.p (I t)) (am d id (J (.row 2 g [[.p b,.p (I (V+1))]]))) nx'):
 X af 6 [.ptr id g 2 0 0,.p (.im a 1 j)] d e C:=by refine X.of Tryz.func6 arO (by simp[D6]) λs=>?_;have W:0<a.length:=xQ.2 k;simp[D6,cN];refine IP y m y o p q λnx' c v w x z=>?_;simp;have h:c.toNat<a.length:=y;have f:=bJ h;obtain⟨t,i⟩:=l _ f;rw[i]at f;rw[bh h,i];simp[ft];exact⟨y,.d8 ((s.am n).mono y) y (r _ _ y f)⟩
def B7[Gh]{d:P}(a:CT.ok qG d):∃bu,Lh d bu/\bu<=140737488355328:=by
 obtain⟨b,e,_,j,f,_⟩:=a;cases e with
 |nil=>exact⟨0,.nil,y⟩
 |im b g=>
  refine⟨b.length,.im b g λc h=>?_,y⟩;have a:=f c h
  match c,a with
  |[o],a=>obtain⟨⟨n,i,_⟩,_⟩:=a;exact⟨n,by rw[i]⟩
  |[],a=>simp[Row]at a|_::_::_,a=>simp[Row]at a
def ale[Gh]:bz af ({f:=19,uK:=aa,ps:=[(.aM .aI)],rs:=[(.aM .aI)],cost:=1,y6:=[([],[⟨0,2,0⟩]),([⟨0,1,(-1)⟩],[⟨2,1,(-1)⟩]),([⟨1,0,0⟩],[⟨2,0,0⟩])],C8:=[],os:=[]}:Go.Dl.Ai.SP):=by refine .s rfl λq r C s e _ t u g V h i b j d k=>?_;obtain⟨o,w,rfl,⟨n,rfl,x,l⟩,a⟩:=Vs.cons e;obtain rfl:=Vs.nil a;obtain⟨bu,m,_⟩:=B7 b;have d:V<=4611686018427387000-1:=d;refine IP l m h i j y λnx' c p z A B=>?_;refine k nx' [I c] (V+1) g [.p (I c)] _ p ⟨⟨c,rfl,y,y⟩,trivial⟩ b y (u7 _) ?_ (by simp[lg,iw]);intro v a;simp only[bt,iD,iT]at a;rcases a with rfl|rfl|rfl<;>simp[F.ok,rE,Al,xP,lO,AA]<;>omega
end Go.Dl
namespace Go.Dl
open Go.Proofs
def adT:d6:=⟨19,[.t 4],z 1 [fR 4 0] (.seq (z 3 [G 6 0,q 7 (fQ 6),fR 8 0] (.block 0 (.loop (z 1 [q 9 (xB .lss 8 7)] (.seq (cX 9 0) (.seq (.block 1 (z 2 [G 10 8,G 5 10] (z 6 [G 11 1,G 12 0,G 13 5,q 14 (xI 10 12 13),cA 15 10 14,q 16 (.iI (.t 11) [.t 15])] (.cond (.t 16) (z 2 [G 17 5,G 4 17] (.ret)) (.skip))))) (rF 2 [q 18 (di .add 8 1),G 8 18]))))))) (z 1 [fR 4 (-1)] (.ret)))⟩
def anr:cW af Tryz.f158=J adT:=h
def acL:d6:=⟨8,[.t 3],z 2 [q 2 (iU 0 10 0),q 3 (gR Z)] (z 5 [oF 4 2 0,oL 5 1 4,oL 6 1 1,q 7 (xB .eql 5 6),G 3 7] (.ret))⟩
def alU:cW af Tryz.f159=J acL:=h
def D96:d6:=⟨9,[.t 4],z 3 [q 2 (iU 0 2 0),q 3 (iU 1 1 1),fR 4 0] (z 5 [oF 5 2 1,oL 6 1 5,q 7 (wW 159 [.t 3]),q 8 (dV 158 6 7),G 4 8] (.ret))⟩
def apf:cW af Tryz.f96=J D96:=h
def adc:d6:=⟨25,[.t 4],z 2 [q 2 (iU 0 2 0),q 4 (.mv (.c aD))] (z 1 [q 5 (.mv (.c aD))] (.seq (z 4 [cA 7 2 2,G 8 1,q 9 (dV 96 7 8),G 6 9] (.block 0 (.loop (.seq (z 2 [G 10 6,q 11 (di .geq 10 0)] (cX 11 0)) (.seq (.block 1 (rF 5 [G 20 6,q 21 (.bQ 1 1 1 [aH] [(0,.t 20)]),G 22 5,q 23 (jE 3 1 8 21 22),G 5 23])) (rF 9 [cA 12 2 2,oF 13 2 1,oL 14 1 13,G 15 6,q 16 (xI 10 14 15),oF 17 16 1,oL 18 1 17,q 19 (dV 96 12 18),G 6 19])))))) (z 2 [G 24 5,G 4 24] (.ret))))⟩
def amn:cW af Tryz.f122=J adc:=h
def D51:d6:=⟨14,[.cell 4 10 aa],z 2 [q 2 (iU 0 2 0),q 4 (.alloc 1 10 [aF,aF,dZ,dZ,dZ,dZ,aD,aD,aD,aD])] (.seq (.dg 10 aa [aZ 5 (xF 2 1),aZ 6 (xL 1 5),aZ 7 (uS 2 2),G 8 1,q 9 (dV 122 7 8),q 10 (.ti 1 (.t 9) (.c aH)),oL 11 1 10,q 12 (xI 10 6 11),cA 13 10 12,oN (xS 10 4 13)]) (.ret))⟩
def ao9:cW af Tryz.f51=J D51:=h
theorem VA{a:List (List P)}(l:Sl 10 t a)(K:a.length<1000000000000)(u:∀c∈a,c.length=10){f:FuncId}{g:List D}{pr:List P->Bool}{b:ah}{d:Nat}(W:∀c∈a,∀(nx':Nat) (m:D->ah->Nat->Prop),d<=nx'->(∀o,nx'<=o->m (.p (B (pr c))) b o)->X af f (.p (.agg c)::g) b nx' m)(p:∀nx',d<=nx'->C (.p (I (iW pr a))) b nx'):X af 158 [.p t,.fn (.func f) [] g] b d C:=by refine X.of Y anr (by simp[adT]) λL=>?_;simp[adT,cN,dO l];intro _;refine⟨λn e=>∃i:Nat,n=a.length-i/\i<=a.length/\(∀j h,j<i->a[j]? =J h->pr h=Z)/\e.T 0=.p t/\e.T 1=.fn (.func f) [] g/\e.T 7=.p (I a.length)/\e.T 8=.p (I i)/\e.O=b/\d<=e.nx,⟨a.length,0,Y,y,Y,?_⟩,?_⟩;simp;omega;rintro n e ⟨i,rfl,E,q,v,w,x,r,s,M⟩;simp[x,r,s,binOp,aC];refine⟨λz=>?_,λN=>?_⟩;have A:a[i]? =J a[i]:=Y;have k:=u _ (bJ z);simp[v,w,r,s,dm l,A,ft,k];rw[show a[i].take 10=a[i] by grind];refine W _ Y _ _ y λO Q=>?_;simp;refine⟨λF=>?_,λR=>?_⟩;refine .d8 bK y ?_;rw[<-yZ ar F q];exact p _ y;refine⟨a.length-(i+1),y,i+1,rfl,y,λj h G S=>?_,?_,y⟩;grind;rw[iK y y];rfl;refine .d8 bK y ?_;rw[<-Ct λc k=>?_];exact p _ y;obtain⟨j,G,H⟩:=eD k;exact q j c y U
structure aaY(r:List P):Prop where
 len:r.length=10
 sh:∃a b rest,r=S a::S b::rest
theorem Vw(e:aaY c){a:ah}{b:Nat}(j:id<b)(f:a id=J (.row 1 g [[.p (S A)]]))(h:∀nx',b<=nx'->C (.p (B (named A c))) a nx'):X af 159 [.p (.agg c),.ptr id g 1 0 0] a b C:=by refine X.of Y alU (by simp[acL]) λi=>?_;obtain⟨d,k,l,rest,rfl⟩:=e;simp at d;simp(disch:=omega)[acL,cN,D.cells,P.cells,d,f,ba,binOp,gD];intro m;refine .low i y aj (h _ y)
structure vN(x:P)(es:List (List P)):Prop where
 sl:Sl 10 x es
 len:es.length<1000000
 rows:∀r∈es,aaY r
theorem v8{d:List (List P)}(a:vN t d){e:ah}{f:Nat}(h:∀nx',f<=nx'->C (.p (I (iW (named A) d))) e nx'):X af 96 [.p (.agg [aB,t]),.p (S A)] e f C:=by refine X.of Y apf (by simp[D96]) λi=>?_;simp(disch:=omega)[D96,cN,D.cells,P.cells,aJ];intro k;refine VA a.sl (by have:=a.len;omega) (λc b=>(a.rows c b).len) (pr:=named A) (λc b nx' l j g=>?_) λnx' j=>?_;exact Vw (a.rows c b) y Y g;refine .low i y (λm g=>?_) (h _ y);exact aj
def qf(a:List (List P)):Prop:=∀(i:Nat) (c:List P),a[i]? =J c->iW (named (QN c)) a<i
def wJ(a:List Int):List (List D):=a.map λi=>[.p (I i)]
@[simp]def an4:(wJ l).length=l.length:=by simp[wJ]
def adx(b:ah)(e:Nat)(a:List Int)(c:D)(d:ah):Prop:=
 (a=[]/\c=.p aD/\d=b)\/(∃i,a=[i]/\c=.p (.im [[I i]] 1 aa)/\d=b)\/
  ∃id g,e<=id/\a≠[]/\c=.sl id g 0 a.length 1 Z/\d=am b id (J (.row 1 g (wJ a)))
def QY(c:ah)(d:Nat)(a:List Int)(b:D):Prop:=
 (a=[]/\b=.p aD)\/(∃i,a=[i]/\b=.p (.im [[I i]] 1 aa))\/
  ∃id g,d<=id/\a≠[]/\b=.sl id g 0 a.length 1 Z/\c id=J (.row 1 g (wJ a))
theorem QY.done{c:ah}{a:Nat}(j:QY K a l M)(d:Fr c a)(k:Fr K nx')(e:a<=nx')(o:∀b,b<a->K b=c b)(f:∀ag,adx c a l M ag->Fr ag nx'->C M ag nx'):ji a C K nx' M:=by rcases j with⟨rfl,rfl⟩|⟨i,rfl,rfl⟩|⟨id,g,p,q,rfl,m⟩;exact .low d e U (f _ (.inl Y) bK);exact .low d e U (f _ (.inr Y) bK);have h:Fr (am c id (J (.row 1 g (wJ l)))) nx':=(d.mono e).am (k.lt m);refine .aX (λb=>?_) h e (f _ (.inr ak) h);by_cases n:b=id;exact U;rw[ai n];by_cases r:b<a;exact U;exact .inl (d b y)
structure acr(es:List (List P))(O:ah)(nx:Nat)(g0:Nat)(j:Int)(n:Nat)(s:St)(i:Int)(acc:List Int)(d:D):Prop where
 lt:n=(i+1).toNat
 lo: -1<=i
 hi:i<es.length
 ch:∀l,lj es i l->lj es j (l++acc)
 avp:QY s.O (nx+1) acc d
 low:∀k,k<=nx->s.O k=O k
 t2:s.T 2=.ptr nx g0 2 0 0
 t5:s.T 5=d
 t6:s.T 6=.p (I i)
 gp:nx+3<=s.nx
 fr:Fr s.O s.nx
 sz:acc.length+(i+1).toNat<=es.length
def VY{a:List (List P)}(c:vN t a)(he:qf a){z:ah}{b:Nat}(h:∀nx' l M K,b<=nx'->lj a (iW (named A) a) l->adx z b l M K->Fr K nx'->C M K nx'):X af 122 [.p (.agg [aB,t]),.p (S A)] z b C:=by
 refine X.of Gp amn (by simp[adc]) λO=>?_;simp(disch:=omega)[adc,cN,D.cells,P.cells,aJ,ba];intro B ay;refine v8 c λaE aI=>?_;have aO:=c.len;refine⟨λn e=>∃i d M,acr a (am z b (J (.row 2 (B b) [[.p aB,.p t]]))) b (B b) (iW (named A) a) n e i d M,⟨_,_,[],_,rfl,qC,pP,λl k=>by simpa using k,.inl ⟨rfl,rfl⟩,λ_ _=>rfl,Y,Y,Y,dK,?_,?_⟩,?_⟩;exact(O.mono dK).am dK;have:=pP (pr:=named A) (es:=a);simp;omega;rintro n e ⟨i,d,M,rfl,aP,E,Q,R,m,f,s,u,aR,p,F⟩;have G:e.O b=J (.row 2 (B b) [[.p aB,.p t]]):=by rw[m _ (bV _)];simp
 simp[u,binOp,aC];refine⟨λH=>?_,λv=>?_⟩
 .have v:i.toNat<a.length:=y
  have q:a[i.toNat]? =J a[i.toNat]:=bh v;have an:=he _ _ q;obtain⟨k,aS,o,rest,w⟩:=c.rows _ (bJ v);have T:QN a[i.toNat]=o:=by rw[w];rfl
  rw[T]at an;have next:∀l,lj a (iW (named o) a) l->lj a (iW (named A) a) (l++(i::d)):=by intro l k;rw[<-T]at k;have:=lj.step _ _ l q k;rw[show((i.toNat:Nat):Int)=i by omega]at this;simpa using Q _ this
  have hh:=pP (pr:=named o) (es:=a);have a0:=qC (pr:=named o) (es:=a);rcases R with⟨rfl,rfl⟩|⟨j,rfl,rfl⟩|⟨id,g,ao,I,rfl,L⟩
  simp(disch:=omega)[f,s,u,G,fP,D.cells,P.cells,aJ,fF,dp,dv,dm c.sl,q,w,ft,ba,H];intro U;refine BS.l ?_;simp(disch:=omega)[fO,fF];intro V;refine v8 c λW ab=>?_;refine⟨_,y,_,[i],_,rfl,qC,pP,next,.inr (.inl ⟨i,rfl,rfl⟩),m,f,Y,Y,dK,p.mono dK,?_⟩;simp at F⊢;omega;simp(disch:=omega)[f,s,u,G,fP,D.cells,P.cells,aJ,fF,dp,dv,dm c.sl,q,w,ft,ba,H];intro U;refine BS.l ?_;simp(disch:=omega)[fO,fF];intro N V;refine v8 c λW ab=>?_;refine⟨_,y,_,[i,j],_,rfl,qC,pP,next,.inr (.inr ⟨e.nx+2+3,N,y,Y,rfl,by simp[wJ]⟩),λr x=>?_,f,Y,Y,dK,?_,?_⟩;simp only;rw[ai y];exact m r x;exact(p.mono dK).am dK;simp at F⊢;omega;have a1:=p.lt L;have ac:wJ d≠[]:=by simpa[wJ]using I
  have ad:(wJ d).take d.length=wJ d:=cp Y;simp(disch:=omega)[f,s,u,G,fP,D.cells,P.cells,aJ,fF,dp,dv,dm c.sl,q,w,ft,ba,H,L,I,ac,ad];intro U;refine BS.l ?_;simp(disch:=omega)[fO,fF,L,I,ac,ad];refine⟨y,y,?_⟩;intro N V;refine v8 c λW ab=>?_;refine⟨_,y,_,i::d,_,rfl,qC,pP,next,.inr (.inr ⟨e.nx+2+3,N,y,Y,?_,by simp[wJ]⟩),λr x=>?_,f,rfl,Y,dK,?_,?_⟩;simp[qX];simp only;rw[ai y];exact m r x;exact(p.mono dK).am dK;simp at F⊢;omega
 simp[s];have al:=Q [] (.FB i v);simp only[rA]at al;have ax:QY e.O b d M:=by rcases R with h|h|⟨id,g,ao,h⟩;exact .inl h;exact .inr (.inl h);exact .inr (.inr ⟨id,g,y,h⟩)
 refine ax.done O (p.mono y) y (λr x=>?_) λag h1 f=>h _ _ _ _ y al h1 f;rw[m r y,ai y]
theorem vg{d:List (List P)}(k:vN t d)(H:qf d)(I:0<=iW (named A) d){f:ah}{a:Nat}(s:∀nx' l i c,a<=nx'->lj d (iW (named A) d) (i::l)->d[i.toNat]? =J c->C (.p (.agg c)) f nx'):X af 51 [.p (.agg [aB,t]),.p (S A)] f a C:=by
 refine X.of Y ao9 (by simp[D51]) λu=>?_;simp(disch:=omega)[D51,cN,D.cells,P.cells];intro n R;refine⟨[a],?_⟩;simp(disch:=omega)[only];refine VY k H λT l M K U m o V=>?_;have W:=m.ne I;have w:=m.range;have x:∀i:Int,0<=i->i<d.length->∃c,d[i.toNat]? =J c/\c.length=10:=by intro i h e;have L:i.toNat<d.length:=y;exact⟨_,Y,(k.rows _ (bJ L)).len⟩
 have z:K (a+1)=J (.row 10 (n (a+1)) [[.p aF,.p aF,.p (B Z),.p (B Z),.p (B Z),.p (B Z),.p aD,.p aD,.p aD,.p aD]]):=by rcases o with⟨_,_,rfl⟩|⟨_,_,_,rfl⟩|⟨id,g,E,_,_,rfl⟩;exact aj;simp[aX];rw[ai y];simp[aX]
 have N:∀b,b<a->K b=f b:=by
  intro b F;have:aX [a] (am (am f a (J (.row 2 (n a) [[.p aB,.p t]]))) (a+1) (J (.row 10 (n (a+1)) [[.p aF,.p aF,.p (B Z),.p (B Z),.p (B Z),.p (B Z),.p aD,.p aD,.p aD,.p aD]]))) b=f b:=by have e:b≠a:=y;have O:b≠a+1:=y;simp[aX,e,O]
  rcases o with⟨_,_,rfl⟩|⟨_,_,_,rfl⟩|⟨id,g,E,_,_,rfl⟩;exact ar;exact ar;exact aj
 have ab:∀{G:ah} (v:Option fg) (b:Nat),b<a->bp (am K (a+1) v) (only [a] G) b=f b:=by intro G v b F;have e:b≠a:=y;simp only[bp,only,bD,e,dC,ai (show b≠a+1 by omega),N b F];cases f b<;>rfl
 rcases o with⟨rfl,rfl,p⟩|⟨i,rfl,rfl,p⟩|⟨id,g,E,_,rfl,p⟩;exact aj;obtain⟨h,e⟩:=w i Y;obtain⟨c,j,q⟩:=x i h e;have r:c.take 10=c:=ak;simp[ft,ba,dm k.sl,j,q,z,h,D.cells,P.cells,bI,bp,<-cD,r];exact .low u y aj (s _ _ _ _ y m j);cases l with
 |nil=>exact i0
 |cons i l=>
  obtain⟨h,e⟩:=w i Y;obtain⟨c,j,q⟩:=x i h e;have r:c.take 10=c:=ak;have Q:K id=J (.row 1 g (wJ (i::l))):=by rw[p];simp
  simp[ft,ba,dm k.sl,j,q,z,h,D.cells,P.cells,bI,bp,<-cD,r,Q,wJ];exact .low u y aj (s _ _ _ _ y m j)
end Go.Dl
namespace Go.Dl
open Go.Proofs Go.Dl.Ai
def zx:named A c=aa↔mF c=A:=by unfold named;rw[yF];exact oZ _ _
def adk(a:mF c≠A):named A c=Z:=by cases b:named A c with|false=>rfl|true=>exact absurd (zx.1 b) a
theorem aao{a:ah}{b nx':Nat}(c:Fr a b)(d:adx a b l M ag):∃v,wR M ag (.p v) a/\Sl 1 v (l.map λi=>[I i]):=by
 rcases d with⟨rfl,rfl,rfl⟩|⟨i,rfl,rfl,rfl⟩|⟨id,g,e,j,rfl,rfl⟩;exact⟨_,aj,aj⟩;exact⟨_,aj,aj⟩;refine⟨.im (l.map λi=>[I i]) 1 Z,?_,aj⟩;have H:wJ l=(l.map λi=>[I i]).map (·.map .p):=by simp[wJ]
 refine .step id g 1 (l.map λi=>[I i]) U ?_;have f:am (am a id (J (.row 1 g (wJ l)))) id ae=a:=by rw[oS];funext k;by_cases h:k=id;subst h;rw[bi,c k e];exact U
 rw[f];simp only[gx,d7,bf,bV];rw[cp Y];exact aj
def X.fr{a:Program}{b:FuncId}{e:List D}{c:ah}{d:Nat}(g:As a b)(h:Fr c d->X a b e c d C):X a b e c d C:=⟨g,λi j k E f=>(h f).2 i j k E f⟩
def OP{a:List (List P)}(d:vN t a)(e:qf a){b:ah}{c:Nat}(f:∀nx' l v,c<=nx'->lj a (iW (named A) a) l->Sl 1 v (l.map λi=>[I i])->C (.p v) b nx'):X af 122 [.p (.agg [aB,t]),.p (S A)] b c C:=by refine X.fr ⟨_,Gp,by rfl,by rfl⟩ λg=>?_;refine X.rW (VY d e λnx' l M K h j k _=>?_);obtain⟨v,m,n⟩:=aao (nx':=nx') g k;exact⟨_,_,m,f nx' l v h j n⟩
def lj.le{b:List (List P)}(d:qf b)(a:lj b j l)(f: -1<=j):(l.length:Int)<=j+1:=by induction a with|FB i a=>simp;omega|step i c l e a ih=>have:=d _ _ e;have:=ih qC;simp;omega
section
variable [Gh]
theorem Dd{b:List (List P)}{a:ByteArray}(W:Gh.pre b)(e:Gh.nm a)(n:Gh.kS a 0<b.length):iW (named a) b=Gh.kS a 0:=by have p:=Gh.sH a 0 e;have g:(Gh.kS a 0).toNat<b.length:=y;have f:=bh g;obtain⟨c,o,rest,H,h,q,_⟩:=Gh.Er b _ _ W f;have i:=Gh.aa3 c a h e y;subst i;have:=yZ (pr:=named c) f (by rw[H];exact zx.2 rfl) λj r s k=>?_;omega;obtain⟨l,aP,t,m,u,v,_⟩:=Gh.Er b _ _ W k;refine adk λd=>?_;rw[m]at d;have d:l=c:=d;grind
theorem abQ{b:List (List P)}{a:ByteArray}(W:Gh.pre b)(e:0<=iW (named a) b):Gh.nm a/\Gh.kS a 0=iW (named a) b:=by obtain⟨c,f,d⟩:=Ur e;obtain⟨g,aP,i,h,j,k,_⟩:=Gh.Er b _ _ W f;rw[h]at d;have:=zx.1 d;have this:g=a:=ar;grind
theorem Vh{a:List (List P)}{b:ByteArray}(W:Gh.pre a)(d:¬(Gh.nm b/\Gh.kS b 0<a.length)):iW (named b) a= -1:=by have e:=qC (pr:=named b) (es:=a);by_cases c:0<=iW (named b) a;obtain⟨f,g⟩:=abQ W c;have:=pP (pr:=named b) (es:=a);grind;omega
def lR{b:List (List P)}(W:Gh.pre b):qf b:=by
 intro i c d;obtain⟨e,o,rest,rfl,f,g,a⟩:=Gh.Er b _ _ W d;show iW (named o) b<i;rcases a with a|⟨a,h⟩
 rw[Vh W λj=>Gh.aeZ _ U a];omega;have k:=(bq.1 d).1;rw[Dd W a y];omega
theorem ah3{a:List (List P)}(b:Sl 10 t a)(W:Gh.pre a)(f:∀c∈a,c.length=10):vN t a:=by have:=Gh.EP a W;have:=Gh.Us;refine⟨b,y,λc d=>?_⟩;obtain⟨i,E,rfl⟩:=eD d;obtain⟨e,o,rest,H,_⟩:=Gh.Er a i _ W (bh E);exact⟨aj,e,o,rest,H⟩
theorem nO(e:Q=1\/Q=2)(f:aR.length=9)(g:VT.ok (.agg [H,.aY (.nm Q::aR) aS E]) o):
 ∃aB t a,o=.agg [aB,t]/\CT.ok H aB/\Sl 10 t a/\Gh.pre a/\aS<=a.length/\(a.length:Int)<=E/\(Q=2->(a.length:Int)=Gh.n)/\(∀c∈a,Row (.nm Q::aR) c):=by
 obtain⟨r,rfl,s,_⟩:=g;obtain⟨aB,h,rfl,i,j⟩:=Row.cons ar;obtain⟨t,h,rfl,k,l⟩:=Row.cons j;obtain rfl:=Row.nil l;obtain⟨a,d,m,n,p,b⟩:=k;have q:=by
  have H:(CT.nm Q::aR).length=10:=by simp[f]
  rw[H]at d;exact d
 have b:Ai.LT Q a:=b;rcases e with rfl|rfl
 exact⟨aB,t,a,rfl,i,q,ar,m,n,qM,p⟩;have b:=by simpa[Ai.LT]using b
 grind
def nW{a:List (List P)}(f:aR.length=9)(b:Sl 10 t a)(W:Gh.pre a)(d:∀c∈a,Row (.nm Q::aR) c):vN t a:=ah3 b W λc e=>by have:=(d c e).length;exact U
theorem OU{b:VT}{a:ah}{c:Nat}:lg c nx' [] 0 [b] [o] [.p o] a a:=aj
def X4:bz af ({f:=96,uK:=Z,ps:=[(.agg [(.aY [(.str 100),(.aY [(.str 100),(.z 0 10),(.str 100),.bool,(.z 0 10),.aI,(.str 100),(.aY [(.str 100)] 0 3),.nil] 0 2)] 0 2),(.aY [(.nm 1),(.str 100),.bool,.bool,.bool,.bool,(.aY [(.str 100),(.z 0 10),(.str 100),.bool,(.z 0 10),.aI,(.str 100),(.aY [(.str 100)] 0 3),(.aY [(.z 0 10),(.z 0 30),(.z 0 100),(.z 0 10),.aI,(.str 100),(.str 300),(.str 300),.bool,(.aY [(.z 0 10),(.z 0 30),(.z 0 100),(.z 0 10),.aI,(.str 100),(.str 300),(.str 300),.bool,(.aY [(.z 0 10),(.z 0 30),(.z 0 100),(.z 0 10),.aI,(.str 100),(.str 300),(.str 300),.bool,.nil,.nil,.nil,.nil] 0 10),.nil,.nil,.nil] 0 10),.nil,.nil,.nil] 0 1)] 0 3),(.aY [(.em 5),(.z 0 10),(.nm 0),(.str 100),.bool,(.z 0 10),.bool] 0 7),(.aY [(.aY [(.str 300)] 0 2)] 0 10),(.aY [(.aY [(.str 300)] 0 2)] 0 10)] 0 5)]),(.aM (.nm 0))],rs:=[(.aM (.z (-1) 4))],cost:=0,y6:=[([],[⟨7,4,0⟩,⟨4,7,0⟩])],C8:=[⟨4,2,(-1)⟩],os:=[]}:Go.Dl.Ai.SP):=by
 refine .n rfl λe r C s g W h=>?_;obtain⟨o,i,rfl,j,k⟩:=Vs.cons g;obtain⟨v,i,rfl,⟨A,rfl,a⟩,l⟩:=Vs.cons k;obtain rfl:=Vs.nil l;obtain⟨aB,t,b,rfl,_,c,u,_,_,_,m⟩:=nO y rfl j;refine v8 (nW rfl c ar m) λnx' n=>?_;have p:=W ⟨4,2,-1⟩ Y;have w:lO t=b.length:=by cases c<;>rfl
 have q:Gh.kS A 0<b.length:=by simp[F.ok,rE,Al,vp,xP,AA,zd]at p;omega
 have E:=Dd ar a q;rw[E];have:=Gh.ED A a;have:=Gh.sH A 0 a;have:=Gh.EP b ar;refine h nx' [I (Gh.kS A 0)] _ e n ⟨⟨_,rfl,y,y⟩,ar⟩ ?_ OU;intro v d;simp only[bt,iD,iT]at d;subst d;simp[F.ok,rE,Al,vp,xP,lO,AA,zd]
def ahV:bz af ({f:=122,uK:=Z,ps:=[(.agg [(.aY [(.str 100),(.aY [(.str 100),(.z 0 10),(.str 100),.bool,(.z 0 10),.aI,(.str 100),(.aY [(.str 100)] 0 3),.nil] 0 2)] 0 2),(.aY [(.nm 1),(.str 100),.bool,.bool,.bool,.bool,(.aY [(.str 100),(.z 0 10),(.str 100),.bool,(.z 0 10),.aI,(.str 100),(.aY [(.str 100)] 0 3),(.aY [(.z 0 10),(.z 0 30),(.z 0 100),(.z 0 10),.aI,(.str 100),(.str 300),(.str 300),.bool,(.aY [(.z 0 10),(.z 0 30),(.z 0 100),(.z 0 10),.aI,(.str 100),(.str 300),(.str 300),.bool,(.aY [(.z 0 10),(.z 0 30),(.z 0 100),(.z 0 10),.aI,(.str 100),(.str 300),(.str 300),.bool,.nil,.nil,.nil,.nil] 0 10),.nil,.nil,.nil] 0 10),.nil,.nil,.nil] 0 1)] 0 3),(.aY [(.em 5),(.z 0 10),(.nm 0),(.str 100),.bool,(.z 0 10),.bool] 0 7),(.aY [(.aY [(.str 300)] 0 2)] 0 10),(.aY [(.aY [(.str 300)] 0 2)] 0 10)] 0 5)]),(.aM (.nm 0))],rs:=[(.aM (.aY [.tu] 0 5))],cost:=0,y6:=[([⟨4,2,(-1)⟩],[⟨0,7,(-1)⟩])],C8:=[],os:=[]}:Go.Dl.Ai.SP):=by
 refine .n rfl λk D C G m W n=>?_;obtain⟨o,p,rfl,q,r⟩:=Vs.cons m;obtain⟨v,p,rfl,⟨A,rfl,g⟩,s⟩:=Vs.cons r;obtain rfl:=Vs.nil s;obtain⟨aB,t,a,rfl,_,h,H,_,K,_,b⟩:=nO y rfl q;refine OP (nW rfl h ar b) (lR ar) λnx' l v u d e=>?_;have E:=pP (pr:=named A) (es:=a);have L:=d.le (lR ar) qC;have M:=Gh.EP a ar;refine n nx' [v] _ k u ⟨⟨_,e,Y,dK,?_,ar⟩,ar⟩ ?_ OU;intro c b;obtain⟨i,E,rfl⟩:=bN.1 b;have:=d.range i E;exact⟨⟨i,rfl,y,y⟩,ar⟩;intro f j;simp only[bt,iD,iT]at j;subst j;have w:lO t=a.length:=by cases h<;>rfl
 have x:lO v=l.length:=by
  generalize z:(l.map λi=>[I i])=B at e;have:l.length=B.length:=by rw[<-z];simp
  rw[this];cases e<;>rfl
 simp[F.ok,rE,Al,vp,xP,AA,zd,w,x];intro N;have:=Dd ar g y;have O:=Gh.sH A 0 g;have:=d.ne y;have:=xQ.2 this;omega
theorem ab9:bz af ({f:=51,uK:=Z,ps:=[(.agg [(.aY [(.str 100),(.aY [(.str 100),(.z 0 10),(.str 100),.bool,(.z 0 10),.aI,(.str 100),(.aY [(.str 100)] 0 3),.nil] 0 2)] 0 2),(.aY [(.nm 1),(.str 100),.bool,.bool,.bool,.bool,(.aY [(.str 100),(.z 0 10),(.str 100),.bool,(.z 0 10),.aI,(.str 100),(.aY [(.str 100)] 0 3),(.aY [(.z 0 10),(.z 0 30),(.z 0 100),(.z 0 10),.aI,(.str 100),(.str 300),(.str 300),.bool,(.aY [(.z 0 10),(.z 0 30),(.z 0 100),(.z 0 10),.aI,(.str 100),(.str 300),(.str 300),.bool,(.aY [(.z 0 10),(.z 0 30),(.z 0 100),(.z 0 10),.aI,(.str 100),(.str 300),(.str 300),.bool,.nil,.nil,.nil,.nil] 0 10),.nil,.nil,.nil] 0 10),.nil,.nil,.nil] 0 1)] 0 3),(.aY [(.em 5),(.z 0 10),(.nm 0),(.str 100),.bool,(.z 0 10),.bool] 0 7),(.aY [(.aY [(.str 300)] 0 2)] 0 10),(.aY [(.aY [(.str 300)] 0 2)] 0 10)] 0 5)]),(.aM (.nm 0))],rs:=[(.agg [(.nm 0),(.str 100),.bool,.bool,.bool,.bool,(.aY [(.str 100),(.z 0 10),(.str 100),.bool,(.z 0 10),.aI,(.str 100),(.aY [(.str 100)] 0 3),(.aY [(.z 0 10),(.z 0 30),(.z 0 100),(.z 0 10),.aI,(.str 100),(.str 300),(.str 300),.bool,(.aY [(.z 0 10),(.z 0 30),(.z 0 100),(.z 0 10),.aI,(.str 100),(.str 300),(.str 300),.bool,(.aY [(.z 0 10),(.z 0 30),(.z 0 100),(.z 0 10),.aI,(.str 100),(.str 300),(.str 300),.bool,.nil,.nil,.nil,.nil] 0 10),.nil,.nil,.nil] 0 10),.nil,.nil,.nil] 0 1)] 0 3),(.aY [(.em 5),(.z 0 10),(.nm 0),(.str 100),.bool,(.z 0 10),.bool] 0 7),(.aY [(.aY [(.str 300)] 0 2)] 0 10),(.aY [(.aY [(.str 300)] 0 2)] 0 10)])],cost:=0,y6:=[],C8:=[⟨4,2,(-1)⟩],os:=[]}:Go.Dl.Ai.SP):=by
 refine .n rfl λg w C x h W j=>?_;obtain⟨o,k,rfl,m,n⟩:=Vs.cons h;obtain⟨v,k,rfl,⟨A,rfl,a⟩,p⟩:=Vs.cons n;obtain rfl:=Vs.nil p;obtain⟨aB,t,b,rfl,_,d,z,_,B,_,e⟩:=nO y rfl m;have q:=W ⟨4,2,-1⟩ Y;have D:lO t=b.length:=by cases d<;>rfl
 have r:Gh.kS A 0<b.length:=by simp[F.ok,rE,Al,vp,xP,AA,zd]at q;omega
 have E:=Dd ar a r;have G:=Gh.sH A 0 a;refine vg (nW rfl d ar e) (lR ar) y λnx' l i c s H u=>?_;refine j nx' [.agg c] _ g s ⟨⟨c,rfl,?_,ar⟩,ar⟩ (by intro v I;grind) OU;exact CT.ww (by rfl) (e c (iS u))
end
def aen:d6:=⟨31,[.t 2],z 2 [q 1 (iU 0 10 0),q 2 (.mv (.c aD))] (z 1 [q 3 (.mv (.c aD))] (.seq (z 4 [oF 6 1 7,oL 7 1 6,q 8 (fQ 7),fR 9 0] (.block 0 (.loop (z 1 [q 10 (xB .lss 9 8)] (.seq (cX 10 0) (.seq (.block 1 (z 4 [q 11 (xI 7 7 9),cA 12 7 11,q 5 (.alloc 2 7 [aF,aH,aF,aF,dZ,aH,dZ]),oN (xS 7 5 12)] (z 3 [oF 13 5 1,oL 14 1 13,q 15 (di .eql 14 1)] (.cond (.t 15) (rF 14 [G 16 3,oF 17 5 0,oL 18 1 17,oF 19 1 0,oL 20 1 19,oF 21 5 2,oL 22 1 21,oF 23 5 4,oL 24 1 23,q 25 (AM 24),q 26 (.build [aF,aF,aH,aF,dZ] [(0,1,.t 18),(1,1,.t 20),(3,1,.t 22),(4,1,.t 25)]),q 27 (.bQ 11 5 1 [aF,aF,aH,aF,dZ] [(0,.t 26)]),q 28 (jE 12 5 64 16 27),G 3 28]) (.skip))))) (rF 2 [q 29 (di .add 9 1),G 9 29]))))))) (z 2 [G 30 3,G 2 30] (.ret))))⟩
def alL:cW af Tryz.f104=J aen:=h
def yp(nm:P):List P->List P|[a,_,b,_,.v (.bool c),_,_]=>[a,nm,I 0,b,B (!c)]|_=>[]
structure N7(r:List P):Prop where
 sh:∃(a:ByteArray) (k:Int) (to_l bk:ByteArray) (need:Bool) (od:Int) (ca:Bool),r=[S a,I k,S to_l,S bk,B need,I od,B ca]
theorem VC(a:bB->Bool)(b:List bB)(c:Nat)(d:bB)(e:b[c]? =J d):(b.take (c+1)).filter a=(b.take c).filter a++if a d then [d] else []:=by rw[nf,na,e];grind
structure agr(rels:List (List P))(row:List D)(nm:ByteArray)(R:P)(O:ah)(nx g0:Nat)(n:Nat)(s:St)(i:Nat):Prop where
 n:n=rels.length-i
 hi:i<=rels.length
 N:jq s.O (nx+1) 5 (((rels.take i).filter mK).map (yp (S nm))) (s.T 3)
 h1:s.T 1=.ptr nx g0 10 0 0
 hO:s.O nx=J (.row 10 g0 [row])
 h7:s.T 7=.p R
 h8:s.T 8=.p (I rels.length)
 h9:s.T 9=.p (I i)
 gp:nx<s.nx
 fr:Fr s.O s.nx
 low:∀k,k<nx->s.O k=O k
theorem ZT{nm Q:ByteArray}{R T V W:Bool}{F f r s:P}{a:List (List P)}(m:Sl 7 f a)(hF:F.cells=[F])(hU:r.cells=[r])(hX:s.cells=[s])(aR:a.length<1000)(ax:∀c∈a,N7 c){A:ah}{o:Nat}(ay:∀nx' M K,o<=nx'->nz A o 5 ((a.filter mK).map (yp (S nm))) M K->Fr K nx'->C M K nx'):
 X af 104 [.p (.agg [S nm,S Q,B R,B T,B V,B W,F,f,r,s])] A o C:=by
 refine X.of Y alL (by simp[aen]) λhf=>?_;have aS:f.cells=[f]:=by cases m<;>simp[P.cells,aJ]
 simp(disch:=omega)[aen,cN,D.cells,P.cells,ba,dO m];intro aB a0;refine⟨λn e=>∃i:Nat,agr a [.p (S nm),.p (S Q),.p (B R),.p (B T),.p (B V),.p (B W),.p F,.p f,.p r,.p s] nm f A o (aB o) n e i,
  ⟨a.length,0,Y,y,aj,Y,Y,Y,Y,Y,aw,?_,?_⟩,?_⟩
 exact bK;exact aj;rintro n e ⟨i,rfl,E,t,h,G,j,d,u,a1,ab,a2⟩;by_cases p:i<a.length;have v:a[i]? =J a[i]:=Y;obtain⟨H,b,L,bk,N,od,ca,w⟩:=(ax _ (bJ p)).sh;rw[w]at v;have k:=VC mK a i _ ar;have aE:mK [S H,I b,S L,S bk,B N,I od,B ca]=(b==1):=rfl;have a3:yp (S nm) [S H,I b,S L,S bk,B N,I od,B ca]=[S H,S nm,I 0,S L,B (!N)]:=rfl;rw[aE]at k;have O:cI.wrap ((i:Int)+1)=((i+1:Nat):Int):=by rw[iK y y];rfl
 have a4:((a.take i).filter mK).length<1000:=ak;by_cases x:b=1;subst x;simp only[BEq.rfl]at k;rcases t with⟨z,l⟩|⟨id,g,ac,l,ad⟩
 have z:(a.take i).filter mK=[]:=by simpa using z
 rw[z]at k;simp(disch:=omega)[-az,h,l,j,d,u,G,p,dm m,v,w,ft,ba,D.cells,P.cells,aJ,bI,binOp,aC,fh,fP,dp,dv,unOp,cF,ai,O];intro al an;refine BS.l ?_;simp(disch:=omega) only[fO,fF,aT,bG,eC];refine⟨Y,Y,λq aI=>⟨_,y,i+1,rfl,y,.inr ⟨e.nx+1+4+3+12,q,y,U,U⟩,by simp[h],?_,by simp[j],by simp[d],Y,aw,?_,λb x=>?_⟩⟩;exact aj;exact bK;exact aj;have aO:=ab.lt ar;simp(disch:=omega)[-az,h,l,j,d,u,G,p,dm m,v,w,ft,ba,D.cells,P.cells,aJ,bI,binOp,aC,fh,fP,dp,dv,unOp,cF,ai,O];intro al an;refine BS.l ?_;simp(disch:=omega) only[fO,fF,aT,bG,eC,ai,ad];refine⟨Y,Y,dK,dK,?_⟩;rw[aU Y];refine λq aI=>⟨_,y,i+1,rfl,y,.inr ⟨id,q,y,U,U⟩,by simp[h],?_,by simp[j],by simp[d],Y,aw,?_,λb x=>?_⟩;exact aj;exact bK;exact aj;have ao:(b==1)=Z:=U;rw[ao]at k;simp only[fN,dC,BA]at k;simp(disch:=omega)[-az,h,j,d,u,G,p,dm m,v,w,ft,ba,D.cells,P.cells,aJ,bI,binOp,aC,ao,ai,O];intro al an;refine⟨_,y,i+1,rfl,y,?_,by simp[h],?_,by simp[j],by simp[d],Y,aw,?_,λb x=>?_⟩;rw[k];rcases t with⟨z,l⟩|⟨id,g,ac,l,ad⟩
 exact aj;have aO:=ab.lt ar;exact .inr ⟨id,g,ac,by simp[l],aj⟩;exact aj;exact bK;exact aj;simp[-az,d,u,binOp,aC,p];have aP:i=a.length:=y;subst aP;rw[y7]at t;exact(t.mono y).done hf bK y U λag g1 q=>ay _ _ _ y g1 q
section
variable [Gh]
def Pn(b:Row [H,.z 0 10,.nm 0,.str 100,.bool,.z 0 10,.bool] c)(d:∀o,CT.ok H o->∃a:ByteArray,o=S a):N7 c:=by obtain⟨be,t,rfl,e,f⟩:=Row.cons b;obtain⟨aP,u,rfl,⟨g,rfl,_⟩,h⟩:=Row.cons f;obtain⟨v,w,rfl,⟨i,rfl,_⟩,j⟩:=Row.cons h;obtain⟨x,y,rfl,⟨k,rfl,_⟩,l⟩:=Row.cons j;obtain⟨z,A,rfl,⟨m,rfl⟩,n⟩:=Row.cons l;obtain⟨B,C,rfl,⟨p,rfl,_⟩,q⟩:=Row.cons n;obtain⟨D,E,rfl,⟨r,rfl⟩,s⟩:=Row.cons q;obtain rfl:=Row.nil s;obtain⟨a,rfl⟩:=d _ e;exact⟨a,g,i,k,m,p,r,rfl⟩
theorem kz{F g h i:CT}(n:Row [.nm Q,.str 100,.bool,.bool,.bool,.bool,F,g,h,i] c):
 ∃a o j k l m f b d t,c=[S a,S o,B j,B k,B l,B m,f,b,d,t]/\Gh.nm a/\(o.size:Int)<=100/\CT.ok F f/\CT.ok g b/\CT.ok h d/\CT.ok i t:=by obtain⟨be,A,rfl,⟨a,rfl,C⟩,p⟩:=Row.cons n;obtain⟨aP,D,rfl,⟨o,rfl,W⟩,q⟩:=Row.cons p;obtain⟨e,E,rfl,⟨j,rfl⟩,r⟩:=Row.cons q;obtain⟨e,G,rfl,⟨k,rfl⟩,s⟩:=Row.cons r;obtain⟨e,H,rfl,⟨l,rfl⟩,u⟩:=Row.cons s;obtain⟨e,I,rfl,⟨m,rfl⟩,v⟩:=Row.cons u;obtain⟨f,K,rfl,L,w⟩:=Row.cons v;obtain⟨b,M,rfl,N,x⟩:=Row.cons w;obtain⟨d,O,rfl,P,y⟩:=Row.cons x;obtain⟨t,R,rfl,T,z⟩:=Row.cons y;obtain rfl:=Row.nil z;grind
def Cd(e:CT.ok (.aY [.em 5,.z 0 10,.nm 0,.str 100,.bool,.z 0 10,.bool] 0 E) o):
 ∃a,Sl 7 o a/\(a.length:Int)<=E/\(a.filter mK).length<=6/\∀c∈a,Row [.em 5,.z 0 10,.nm 0,.str 100,.bool,.z 0 10,.bool] c:=by obtain⟨b,f,_,g,h,d⟩:=e;have d:Ai.LT 5 b:=d;exact⟨b,f,g,ar,h⟩
def Ja(a:P)(b:CT.ok (.em Q) a):∃c:ByteArray,a=S c:=by obtain⟨c,b,_⟩:=b;exact U
theorem KH{a:ByteArray}(k:Gh.nm a)(b:Row [.em 5,.z 0 10,.nm 0,.str 100,.bool,.z 0 10,.bool] c):Row [.str 100,.nm 0,.z 0 0,.nm 0,.bool] (yp (S a) c):=by obtain⟨be,l,rfl,⟨A,rfl,m⟩,d⟩:=Row.cons b;obtain⟨aP,n,rfl,⟨o,rfl,_⟩,e⟩:=Row.cons d;obtain⟨p,q,rfl,⟨r,rfl,s⟩,f⟩:=Row.cons e;obtain⟨t,u,rfl,⟨v,rfl,_⟩,g⟩:=Row.cons f;obtain⟨w,x,rfl,⟨z,rfl⟩,h⟩:=Row.cons g;obtain⟨B,C,rfl,⟨D,rfl,_⟩,i⟩:=Row.cons h;obtain⟨E,F,rfl,⟨G,rfl⟩,j⟩:=Row.cons i;obtain rfl:=Row.nil j;exact⟨aj,aj,⟨0,rfl,y,y⟩,aj,⟨_,rfl⟩,ar⟩
theorem anV:bz af S41:=by refine .n rfl λw x C z d W e=>?_;obtain⟨o,A,rfl,⟨c,rfl,a,_⟩,g⟩:=Vs.cons d;obtain rfl:=Vs.nil g;obtain⟨B,o,D,E,F,G,f,H,I,t,rfl,h,_,i,j,k,l⟩:=kz a;obtain⟨L,m,N,O,n⟩:=Cd j;refine X.fr ⟨_,Tryz.func104,by rfl,by rfl⟩ λp=>?_;refine ZT m (eU i) (eU k) (eU l) y (λc a=>Pn (n c a) Ja) λnx' M K q r s=>?_;obtain⟨v,b,u⟩:=nz.rs (row:=[.str 100,.nm 0,.z 0 0,.nm 0,.bool]) rfl p s r;refine e nx' [v] [M] K q ⟨⟨_,b,y,dK,?_,ar⟩,ar⟩ (by intro v b;grind) u;intro c a;obtain⟨r0,P,rfl⟩:=bN.1 a;exact KH h ak
end
def CO:av:=z 1 [q 51 (xB .lss 50 49)] (.seq (cX 51 4) (.seq (.block 5 (z 4 [q 52 (xI 9 48 50),cA 53 9 52,q 11 (.alloc 2 9 [aF,aH,aF,dZ,aH,aH,aF,aD,aD]),oN (xS 9 11 53)] (z 10 [oF 54 7 1,oL 55 1 54,q 56 (di .eql 55 0),G 57 56,oT 58 57 (xF 9 0),oT 59 57 (xL 1 58),oT 60 57 (xF 7 2),oT 61 57 (xL 1 60),oT 62 57 (xB .eql 59 61),q 63 (jw 57 62)] (.cond (.t 63) (rF 17 [G 64 5,oF 65 7 0,oL 66 1 65,q 67 (.lS .add 0 (.t 66) (.c (S ⟨#[46]⟩))),oF 68 11 0,oL 69 1 68,q 70 (xB .add 67 69),oF 71 3 0,oL 72 1 71,oF 73 11 1,oL 74 1 73,oF 75 11 3,oL 76 1 75,q 77 (.build [aF,aF,aH,aF,dZ] [(0,1,.t 70),(1,1,.t 72),(2,1,.t 74),(4,1,.t 76)]),q 78 (.bQ 14 5 1 [aF,aF,aH,aF,dZ] [(0,.t 77)]),q 79 (jE 15 5 64 64 78),G 5 79]) (.skip))))) (rF 2 [q 80 (di .add 50 1),G 50 80])))
def N9:av:=z 1 [q 44 (xB .lss 43 42)] (.seq (cX 44 2) (.seq (.block 3 (z 4 [q 45 (xI 2 41 43),cA 46 2 45,q 9 (.alloc 2 2 [aF,aD]),oN (xS 2 9 46)] (z 4 [oF 47 9 1,oL 48 1 47,q 49 (fQ 48),fR 50 0] (.block 4 (.loop CO))))) (rF 2 [q 81 (di .add 43 1),G 43 81])))
def EQ:av:=z 1 [q 16 (xB .lss 15 14)] (.seq (cX 16 0) (.seq (.block 1 (z 4 [q 17 (xI 9 13 15),cA 18 9 17,q 7 (.alloc 2 9 [aF,aH,aF,dZ,aH,aH,aF,aD,aD]),oN (xS 9 7 18)] (.seq (z 9 [oF 19 7 1,oL 20 1 19,q 21 (di .gtr 20 0),G 22 21,oT 23 22 (xF 7 8),oT 24 22 (xL 1 23),oT 25 22 (fQ 24),oT 26 22 (di .eql 25 0),q 27 (jw 22 26)] (.cond (.t 27) (rF 13 [G 28 5,oF 29 7 0,oL 30 1 29,oF 31 3 0,oL 32 1 31,oF 33 7 1,oL 34 1 33,oF 35 7 3,oL 36 1 35,q 37 (.build [aF,aF,aH,aF,dZ] [(0,1,.t 30),(1,1,.t 32),(2,1,.t 34),(4,1,.t 36)]),q 38 (.bQ 10 5 1 [aF,aF,aH,aF,dZ] [(0,.t 37)]),q 39 (jE 11 5 64 28 38),G 5 39]) (.skip))) (z 4 [oF 40 2 0,oL 41 1 40,q 42 (fQ 41),fR 43 0] (.block 2 (.loop N9)))))) (rF 2 [q 82 (di .add 15 1),G 15 82])))
def acQ:d6:=⟨84,[.t 4],z 3 [q 2 (iU 0 2 0),q 3 (iU 1 10 1),q 4 (.mv (.c aD))] (z 1 [q 5 (.mv (.c aD))] (.seq (z 4 [oF 12 3 6,oL 13 1 12,q 14 (fQ 13),fR 15 0] (.block 0 (.loop EQ))) (z 2 [G 83 5,G 4 83] (.ret))))⟩
def amA:cW af Tryz.f103=J acQ:=h
structure zu(f:List P):Prop where
 sh:∃(a of ds:ByteArray) (k dk dn:Int) (nl:Bool) (tx fo:P) (w:Nat) (es:List (List P)),f=[S a,I k,S of,B nl,I dk,I dn,S ds,tx,fo]/\a.size<=100/\0<=k/\k<=10/\tx.cells=[tx]/\Sl w fo es
structure MZ(x:List P):Prop where
 sh:∃(a:ByteArray) (fs:P) (fl:List (List P)),x=[S a,fs]/\Sl 9 fs fl/\fl.length<1000/\∀f∈fl,zu f
def Ij(a:ByteArray):List P->Nat|.v (.string b)::c::_=>if b.toList==a.toList then(oQ c).length else 0|_=>0
def lz{a:List (List P)}(b:Sl n o a):oQ o=a:=by cases b<;>rfl
def ie{a:List (List P)}(b:Sl n o a):o.cells=[o]:=by cases b<;>simp[P.cells,aJ]
def aaH{b:List (List P)}{f c g:ByteArray}{a h i:Int}{nl:Bool}{j d:P}{k:Nat}{e:List (List P)}(l:Sl k d e):
 kw b [S f,I a,S c,B nl,I h,I i,S g,j,d]=(if decide (0<a)&&e.isEmpty then 1 else 0)+(if a=0 then(b.map (Ij c)).sum else 0):=by simp only[kw,kL,lI,lz l];congr 1
def Ao(nm:ByteArray)(c:List P):Prop:=∃(b:ByteArray) (a:Int) (A:Bool),c=[S b,S nm,I a,S ⟨#[]⟩,B A]/\b.size<=300/\0<=a/\a<=10
structure SB(ep mp Fp:P)(em F:List (List P))(row:List D)(nm:ByteArray)(O:ah)(nx g0 g1:Nat)(s:St)(i:Nat)(rest:Nat):Prop where
 hi:i<=F.length
 N:∃l,jq s.O (nx+2) 5 l (s.T 5)/\l.length+rest=(F.map (kw em)).sum/\∀r∈l,Ao nm r
 h2:s.T 2=.ptr nx g0 2 0 0
 h3:s.T 3=.ptr (nx+1) g1 10 0 0
 hO:s.O nx=J (.row 2 g0 [[.p ep,.p mp]])
 hO1:s.O (nx+1)=J (.row 10 g1 [row])
 C7:s.T 13=.p Fp
 Et:s.T 14=.p (I F.length)
 I9:s.T 15=.p (I i)
 gp:nx+2<=s.nx
 fr:Fr s.O s.nx
 low:∀k,k<nx->s.O k=O k
def Ua(a:bB->Nat){b:List bB}{c:bB}(d:b[i]? =J c):((b.drop i).map a).sum=a c+((b.drop (i+1)).map a).sum:=by have e:=(bq.1 d).1;have f:=(bq.1 d).2;rw[HD e,f];simp
def lW(a:i<1000000):cI.wrap ((i:Int)+1)=((i+1:Nat):Int):=by rw[iK y y];rfl
structure SF(a of ds:ByteArray)(k dk dn:Int)(nl:Bool)(tx fo:P)(nx:Nat)(s:St)(fb gf:Nat):Prop where
 h7:s.T 7=.ptr fb gf 9 0 0
 hfb:nx+2<=fb
 hOf:s.O fb=J (.row 9 gf [[.p (S a),.p (I k),.p (S of),.p (B nl),.p (I dk),.p (I dn),.p (S ds),.p tx,.p fo]])
section
variable {nm L:ByteArray}{O R T U:Bool}{p u r x z F:P}{b d:List (List P)}{w:ah}{h W G:Nat}
variable {a of ds:ByteArray}{k dk dn:Int}{nl:Bool}{tx fo:P}{bX:Nat}{bM:List (List P)}
def SB.next{j:List D}{a:St}{m:Nat}(f:SB p u r b d j nm w h W G e i rest)(N:∃l,jq a.O (h+2) 5 l (a.T 5)/\l.length+m=(d.map (kw b)).sum/\∀c∈l,Ao nm c)(g:a.T 2=e.T 2/\a.T 3=e.T 3/\a.T 13=e.T 13/\a.T 14=e.T 14/\a.T 15=e.T 15)(hO:∀k,k<h+2->a.O k=e.O k)(n:e.nx<=a.nx)(fr:Fr a.O a.nx):SB p u r b d j nm w h W G a i m:=
 ⟨f.hi,N,g.1.trans f.h2,g.2.1.trans f.h3,(hO _ y).trans f.hO,(hO _ y).trans f.hO1,g.2.2.1.trans f.C7,g.2.2.2.1.trans f.Et,g.2.2.2.2.trans f.I9,gJ f.gp n,fr,λk o=>(hO k y).trans (f.low k o)⟩
theorem At{a:List (List P)}(b:jq e.O (h+2) 5 a (e.T 5))(d:M=e.T 5)(f:Fr e.O e.nx)(i:∀k,k<e.nx->K k=e.O k):jq K (h+2) 5 a M:=by
 subst d;rcases b with b|⟨id,g,j,l,c⟩
 exact aj;exact .inr ⟨id,g,j,l,by rw[i id (f.lt c)];exact c⟩
structure SI(xa:ByteArray)(fs:P)(xl:List (List P))(eb ge q j:Nat)(b:List (List P))(p:P)(s:St):Prop where
 hq:q<=xl.length
 h9:s.T 9=.ptr eb ge 2 0 0
 hOe:s.O eb=J (.row 2 ge [[.p (S xa),.p fs]])
 h48:s.T 48=.p fs
 h49:s.T 49=.p (I xl.length)
 h50:s.T 50=.p (I q)
 h41:s.T 41=.p p
 h42:s.T 42=.p (I b.length)
 h43:s.T 43=.p (I j)
theorem apx{eb ge:Nat}{xa:ByteArray}{fs:P}{m:List (List P)}{restJ j:Nat}(ha:a.size<=100)(hs:Sl 9 fs m)(bm:m.length<1000)(hx:∀f∈m,zu f)(bn:(d.map (kw b)).sum<1000)(C:SB p u r b d [.p (S nm),.p (S L),.p (B O),.p (B R),.p (B T),.p (B U),.p r,.p x,.p z,.p F] nm w h W G e i ((if k=0/\xa.toList=of.toList then m.length else 0)+restJ))(hF:SF a of ds k dk dn nl tx fo h e fb gf)(bo:h+2<=eb)(hI:SI xa fs m eb ge 0 j b p e)(hQ:∀V,SB p u r b d [.p (S nm),.p (S L),.p (B O),.p (B R),.p (B T),.p (B U),.p r,.p x,.p z,.p F] nm w h W G V i (restJ)->SF a of ds k dk dn nl tx fo h V fb gf->V.T 41=.p p->V.T 42=.p (I b.length)->V.T 43=.p (I j)->bC (.exit 4) V):
 bx (X af) (.loop CO) e bC:=by
 refine⟨λn e=>∃v:Nat,n=m.length-v/\SB p u r b d [.p (S nm),.p (S L),.p (B O),.p (B R),.p (B T),.p (B U),.p r,.p x,.p z,.p F] nm w h W G e i ((if k=0/\xa.toList=of.toList then m.length-v else 0)+restJ)/\SF a of ds k dk dn nl tx fo h e fb gf/\SI xa fs m eb ge v j b p e,⟨_,0,rfl,C,hF,hI⟩,?_⟩;clear C hF hI;rintro n e ⟨v,rfl,C,hF,hI⟩;obtain⟨E,⟨l,hN,hl,ay⟩,h2,h3,hO,a0,bs,bu,bA,bB,t,bH⟩:=_root_.id C;obtain⟨H,ac,o⟩:=_root_.id hF;obtain⟨hq,M,s,N,K,ad,ag,al,an⟩:=_root_.id hI;by_cases Q:v<m.length;have ao:m[v]? =J m[v]:=bh Q;obtain⟨a2,bL,bM,k2,bO,bR,aB,bS,bT,w2,bX,q,bZ,a6,a7,aE,a8⟩:=(hx _ (bJ Q)).sh;rw[q]at ao;have aI:=ie a8;have aO:=lW (i:=v) y;have b0:=t.lt s;have b1:=t.lt o;have a9:Ao nm [S (a++⟨#[46]⟩++a2),S nm,I k2,S ⟨#[]⟩,B aB]:=⟨_,k2,aB,rfl,by simp only[Qe];have:(uy #[46]).size=1:=rfl;omega,a6,a7⟩;have a1:a.size+(uy #[46]).size<=9223372036854775807:=by have:(uy #[46]).size=1:=rfl;omega
 have a3:a.size+(uy #[46]).size+a2.size<=9223372036854775807:=by have:(uy #[46]).size=1:=rfl;omega
 have a4:∀c∈l++[[S (a++⟨#[46]⟩++a2),S nm,I k2,S ⟨#[]⟩,B aB]],Ao nm c:=by
  intro c q;rcases bg.1 q with q|q
  exact ay c q;rw[bD]at q;rw[q];exact a9
 by_cases A:k=0/\xa.toList=of.toList;obtain⟨rfl,ab⟩:=A;simp only[ab,kG,aT]at hl⊢;have a5:(l++[[S (a++⟨#[46]⟩++a2),S nm,I k2,S ⟨#[]⟩,B aB]]).length+(m.length-(v+1)+restJ)=(d.map (kw b)).sum:=dK;rcases hN with⟨rfl,h5⟩|⟨id,g,b2,h5,aP⟩
 simp(disch:=omega)[-az,CO,h2,h3,h5,H,M,N,K,ad,hO,a0,o,s,Q,dm hs,ao,q,ft,ba,D.cells,P.cells,aJ,bI,binOp,aC,gD,ab,fh,fP,dp,dv,unOp,cF,ai,aO,aE,aI];intro ax aR;refine⟨a1,a3,BS.l ?_⟩;simp(disch:=omega) only[fO,fF,aT,bG,eC];refine⟨Y,Y,λg2 bb=>⟨_,y,v+1,rfl,C.next ⟨_,.inr ⟨e.nx+1+4+10+15,g2,y,Y,Y⟩,a5,a4⟩ Y (λk A=>by simp(disch:=omega)[ai]) ic ?_,⟨by simp[H],ac,by simp(disch:=omega)[ai,o]⟩,⟨y,by simp[M],by simp(disch:=omega)[ai,s],by simp[N],by simp[K],Y,by simp[ag],by simp[al],by simp[an]⟩⟩⟩;exact((t.mono ic).am ic).am ic;have b3:=t.lt aP;have b4:id≠fb:=by rintro rfl;rw[aP]at o;simp at o
 have b5:id≠eb:=by rintro rfl;rw[aP]at s;simp at s
 simp(disch:=omega)[-az,CO,h2,h3,h5,H,M,N,K,ad,hO,a0,o,s,Q,dm hs,ao,q,ft,ba,D.cells,P.cells,aJ,bI,binOp,aC,gD,ab,fh,fP,dp,dv,unOp,cF,ai,aO,aE,aI];intro ax aR;refine⟨a1,a3,BS.l ?_⟩;simp(disch:=omega) only[fO,fF,aT,bG,eC,ai,aP];refine⟨trivial,trivial,dK,dK,?_⟩;rw[aU Y];refine λg2 bb=>⟨_,y,v+1,rfl,C.next ⟨_,.inr ⟨id,g2,y,Y,Y⟩,a5,a4⟩ Y (λk A=>by simp(disch:=omega)[ai]) ic ?_,⟨by simp[H],ac,by simp(disch:=omega)[ai,o]⟩,⟨y,by simp[M],by simp(disch:=omega)[ai,s],by simp[N],by simp[K],Y,by simp[ag],by simp[al],by simp[an]⟩⟩;exact((t.mono ic).am ic).am ic;simp only[A,dC]at hl⊢;have b6:∀(ax aR:Nat->Nat),True:=λ_ _=>trivial;by_cases aS:k=0;subst aS;have ab:¬xa.toList=of.toList:=λbd=>A ⟨rfl,bd⟩;have be:(xa.toList==of.toList)=Z:=jY.2 ab;simp(disch:=omega)[-az,CO,H,M,N,K,ad,o,s,Q,dm hs,ao,q,ft,ba,D.cells,P.cells,aJ,bI,binOp,aC,gD,be,ai,aO,aE,aI];intro ax aR;refine⟨_,y,v+1,rfl,C.next ⟨l,At hN Y t (λk A=>by simp(disch:=omega)[ai]),by simpa[ab]using hl,ay⟩ Y (λk A=>by simp(disch:=omega)[ai]) ic ?_,⟨by simp[H],ac,by simp(disch:=omega)[ai,o]⟩,⟨y,by simp[M],by simp(disch:=omega)[ai,s],by simp[N],by simp[K],Y,by simp[ag],by simp[al],by simp[an]⟩⟩;exact(t.mono ic).am ic;have bk:(k==0)=Z:=jY.2 aS;simp(disch:=omega)[-az,CO,H,M,N,K,ad,o,s,Q,dm hs,ao,q,ft,ba,D.cells,P.cells,aJ,bI,binOp,aC,bk,ai,aO,aE,aI];intro ax aR;refine⟨_,y,v+1,rfl,C.next ⟨l,At hN Y t (λk A=>by simp(disch:=omega)[ai]),by simpa[aS]using hl,ay⟩ Y (λk A=>by simp(disch:=omega)[ai]) ic ?_,⟨by simp[H],ac,by simp(disch:=omega)[ai,o]⟩,⟨y,by simp[M],by simp(disch:=omega)[ai,s],by simp[N],by simp[K],Y,by simp[ag],by simp[al],by simp[an]⟩⟩;exact(t.mono ic).am ic;simp[-az,CO,K,ad,binOp,aC,Q];intro ax;have bl:v=m.length:=y;subst bl;refine hQ _ (C.next ⟨l,by simpa using hN,by simpa using hl,ay⟩ Y (λk A=>rfl) ic (t.mono ic)) ⟨by simp[H],ac,o⟩ (by simp[ag]) (by simp[al]) (by simp[an])
theorem mid(ha:a.size<=100)(hE:Sl 2 p b)(aR:b.length<1000)(ag:∀t∈b,MZ t)(al:(d.map (kw b)).sum<1000)(c:SB p u r b d [.p (S nm),.p (S L),.p (B O),.p (B R),.p (B T),.p (B U),.p r,.p x,.p z,.p F] nm w h W G e i ((if k=0 then(b.map (Ij of)).sum else 0)+rest))(q:SF a of ds k dk dn nl tx fo h e fb gf)(o:e.T 41=.p p)(f:e.T 42=.p (I b.length))(g:e.T 43=.p (I 0))(hQ:∀H,SB p u r b d [.p (S nm),.p (S L),.p (B O),.p (B R),.p (B T),.p (B U),.p r,.p x,.p z,.p F] nm w h W G H i (rest)->bC (.exit 2) H):
 bx (X af) (.loop N9) e bC:=by
 refine⟨λn e=>∃j:Nat,n=b.length-j/\j<=b.length/\SB p u r b d [.p (S nm),.p (S L),.p (B O),.p (B R),.p (B T),.p (B U),.p r,.p x,.p z,.p F] nm w h W G e i ((if k=0 then((b.drop j).map (Ij of)).sum else 0)+rest)/\SF a of ds k dk dn nl tx fo h e fb gf/\e.T 41=.p p/\e.T 42=.p (I b.length)/\e.T 43=.p (I j),⟨_,0,rfl,y,by simpa using c,q,o,f,g⟩,?_⟩;clear c q o f g;rintro n e ⟨j,rfl,hj,c,q,o,f,g⟩;obtain⟨E,s,h2,h3,hO,aS,a0,a1,a2,a3,v,a4⟩:=_root_.id c;obtain⟨h7,an,ab⟩:=_root_.id q;by_cases A:j<b.length;have K:b[j]? =J b[j]:=bh A;obtain⟨M,fs,xl,hr,C,ao,hx⟩:=(ag _ (bJ A)).sh;rw[hr]at K;have ac:=Ua (Ij of) K;have he:Ij of [S M,fs]=if M.toList=of.toList then xl.length else 0:=by simp[Ij,lz C]
 rw[he]at ac;have ax:=lW (i:=j) y;have ay:=ie C;have a5:=v.lt ab;simp(disch:=omega)[-az,N9,o,f,g,A,dm hE,K,hr,ft,ba,D.cells,P.cells,aJ,bI,binOp,aC,ai,ay,dO C];intro ad a6;refine apx (a:=a) (of:=of) (ds:=ds) (k:=k) (dk:=dk) (dn:=dn) (nl:=nl) (tx:=tx) (fo:=fo) (gf:=gf) (ge:=ad (e.nx+1+2)) (xa:=M) (j:=j) (restJ:=(if k=0 then((b.drop (j+1)).map (Ij of)).sum else 0)+rest) ha C ao hx al (c.next ?_ Y (λk m=>by simp(disch:=omega)[ai]) ic ?_) ⟨by simp[h7],an,by simp(disch:=omega)[ai,ab]⟩ (eb:=e.nx+1+2) y
  ⟨y,Y,Y,Y,Y,Y,by simp[o],by simp[f],by simp[g]⟩ ?_
 obtain⟨l,s,N,aB⟩:=s;refine⟨l,At s Y v (λk m=>by simp(disch:=omega)[ai]),?_,aB⟩;rw[ac]at N;by_cases m:k=0;simp only[m,aT,pL]at N⊢;omega;simp only[m,dC,false_and]at N⊢;omega;exact(v.mono ic).am ic;intro H Q V aE aI aO;simp[binOp,aC,aO,ax];intro a7;refine⟨_,y,j+1,rfl,y,Q.next ?_ Y (λk m=>rfl) ic (Q.fr.mono ic),⟨by simp[V.h7],V.hfb,V.hOf⟩,by simp[aE],by simp[aI],Y⟩;obtain⟨l,z1,z2,z3⟩:=Q.N;exact⟨l,by simpa using z1,by simpa using z2,z3⟩;simp[-az,N9,f,g,binOp,aC,A];intro ad;have aP:j=b.length:=y;subst aP;obtain⟨l,z1,z2,z3⟩:=s;exact hQ _ (c.next ⟨l,by simpa using z1,by simpa using z2,z3⟩ Y (λk m=>rfl) ic (v.mono ic))
def T8(o:Sl 2 p b)(W:Sl 9 r d)(a7:u.cells=[u])(hR:x.cells=[x])(hU:z.cells=[z])(hX:F.cells=[F])(bu:d.length<1000)(ay:b.length<1000)(a8:∀f∈d,zu f)(aB:∀t∈b,MZ t)(aE:(d.map (kw b)).sum<1000)(a9:∀nx' M K l,h<=nx'->nz w h 5 l M K->l.length=(d.map (kw b)).sum->(∀c∈l,Ao nm c)->Fr K nx'->C M K nx'):
 X af 103 [.p (.agg [p,u]),.p (.agg [S nm,S L,B O,B R,B T,B U,r,x,z,F])] w h C:=by
 refine X.of Hh amA (by simp[acQ]) λhf=>?_;have bb:=ie W;have bd:=ie o;simp(disch:=omega)[acQ,cN,D.cells,P.cells,aJ,ba,dO W,hR,bb,bd,a7,hU,hX];intro a2 bA;refine⟨λn e=>∃i:Nat,n=d.length-i/\SB p u r b d [.p (S nm),.p (S L),.p (B O),.p (B R),.p (B T),.p (B U),.p r,.p x,.p z,.p F] nm w h (a2 h) (a2 (h+1)) e i (((d.drop i).map (kw b)).sum),
  ⟨d.length,0,Y,y,⟨[],.inl ⟨rfl,Y⟩,Y,Y⟩,Y,Y,by simp(disch:=omega)[ai],Y,Y,Y,Y,ic,?_,λk hk=>by simp(disch:=omega)[ai]⟩,?_⟩
 exact((hf.mono ic).am ic).am ic;rintro n e ⟨i,rfl,hB⟩;obtain⟨E,⟨l,hN,hl,aI⟩,h2,h3,hO,aO,aP,al,an,bB,q,be⟩:=_root_.id hB;by_cases ab:i<d.length;have ac:d[i]? =J d[i]:=bh ab;obtain⟨a,of,ds,k,dk,dn,nl,tx,fo,bX,bM,m,ha,bk,bl,aR,ad⟩:=(a8 _ (bJ ab)).sh;rw[m]at ac;have aS:=ie ad;have s:=lW (i:=i) y;have a3:=Ua (kw b) ac;rw[aaH ad]at a3;rw[a3]at hl;by_cases ao:0<k;have ax:k≠0:=y;simp only[ax,dC,ao,decide_true,Be,uC]at hl;cases bM with
 |nil=>
  simp only[List.isEmpty_nil,aT]at hl;have bm:Ao nm [S a,S nm,I k,S ⟨#[]⟩,B nl]:=⟨_,k,nl,rfl,y,bk,bl⟩;have a4:∀c∈l++[[S a,S nm,I k,S ⟨#[]⟩,B nl]],Ao nm c:=by
   intro c m;rcases bg.1 m with m|m
   exact aI c m;rw[bD]at m;rw[m];exact bm
  have a5:(l++[[S a,S nm,I k,S ⟨#[]⟩,B nl]]).length+((if k=0 then(b.map (Ij of)).sum else 0)+((d.drop (i+1)).map (kw b)).sum)=(d.map (kw b)).sum:=by simp only[ax,dC,fj,Bv];omega
  rcases hN with⟨rfl,h5⟩|⟨id,g,bC,h5,a6⟩;simp(disch:=omega)[-az,EQ,h2,h3,h5,aP,al,an,hO,aO,ab,dm W,ac,m,ft,ba,D.cells,P.cells,aJ,bI,binOp,aC,fh,fP,dp,dv,unOp,cF,ai,s,aR,aS,dO ad,dO o,ao];intro v a0;refine BS.l ?_;simp(disch:=omega) only[fO,fF,aT,bG,eC];refine⟨Y,Y,λg2 bn=>?_⟩;refine mid (a:=a) (of:=of) (ds:=ds) (k:=k) (dk:=dk) (dn:=dn) (nl:=nl) (tx:=tx) (fo:=fo) (fb:=e.nx+1+2) (gf:=v (e.nx+1+2)) (rest:=((d.drop (i+1)).map (kw b)).sum) ha o ay aB aE (hB.next ?_ Y (λk hk=>by simp(disch:=omega)[ai]) ic ?_) ⟨Y,y,by simp(disch:=omega)[ai]⟩ Y Y Y (λs' j=>?_);exact⟨_,.inr ⟨e.nx+1+4+9+11,g2,y,Y,Y⟩,a5,a4⟩;exact((q.mono ic).am ic).am ic;simp[binOp,aC,j.I9,s];intro a1;obtain⟨A,N,Q,V⟩:=j.N;exact⟨_,y,i+1,rfl,⟨y,⟨A,by simpa using N,by simpa using Q,V⟩,by simp[j.h2],by simp[j.h3],j.hO,j.hO1,by simp[j.C7],by simp[j.Et],Y,gJ j.gp ic,j.fr.mono ic,j.low⟩⟩;have bH:=q.lt a6;simp(disch:=omega)[-az,EQ,h2,h3,h5,aP,al,an,hO,aO,ab,dm W,ac,m,ft,ba,D.cells,P.cells,aJ,bI,binOp,aC,fh,fP,dp,dv,unOp,cF,ai,s,aR,aS,dO ad,dO o,ao,a6,fO,fF];intro v a0;refine BS.l ?_;refine⟨y,y,λg2 bn=>?_⟩;refine mid (a:=a) (of:=of) (ds:=ds) (k:=k) (dk:=dk) (dn:=dn) (nl:=nl) (tx:=tx) (fo:=fo) (fb:=e.nx+1+2) (gf:=v (e.nx+1+2)) (rest:=((d.drop (i+1)).map (kw b)).sum) ha o ay aB aE (hB.next ?_ Y (λk hk=>by simp(disch:=omega)[ai]) ic ?_) ⟨Y,y,by simp(disch:=omega)[ai]⟩ Y Y Y (λs' j=>?_);exact⟨_,.inr ⟨id,g2,y,Y,Y⟩,a5,a4⟩;exact((q.mono ic).am ic).am ic;simp[binOp,aC,j.I9,s];intro a1;obtain⟨A,N,Q,V⟩:=j.N;exact⟨_,y,i+1,rfl,⟨y,⟨A,by simpa using N,by simpa using Q,V⟩,by simp[j.h2],by simp[j.h3],j.hO,j.hO1,by simp[j.C7],by simp[j.Et],Y,gJ j.gp ic,j.fr.mono ic,j.low⟩⟩
 |cons H bM=>have bo:((bM.length:Int)+1==0)=Z:=jY.2 y;simp(disch:=omega)[-az,EQ,h2,h3,aP,al,an,hO,aO,ab,dm W,ac,m,ft,ba,D.cells,P.cells,aJ,bI,binOp,aC,fh,fP,dp,dv,unOp,cF,ai,s,aR,aS,dO ad,dO o,ao,bo];intro v a0;refine mid (a:=a) (of:=of) (ds:=ds) (k:=k) (dk:=dk) (dn:=dn) (nl:=nl) (tx:=tx) (fo:=fo) (fb:=e.nx+1+2) (gf:=v (e.nx+1+2)) (rest:=((d.drop (i+1)).map (kw b)).sum) ha o ay aB aE (hB.next ?_ Y (λk hk=>by simp(disch:=omega)[ai]) ic ?_) ⟨Y,y,by simp(disch:=omega)[ai]⟩ Y Y Y (λs' j=>?_);exact⟨l,At hN Y q (λk hk=>by simp(disch:=omega)[ai]),by simpa[ax]using hl,aI⟩;exact(q.mono ic).am ic;simp[binOp,aC,j.I9,s];intro a1;obtain⟨A,N,Q,V⟩:=j.N;exact⟨_,y,i+1,rfl,⟨y,⟨A,by simpa using N,by simpa using Q,V⟩,by simp[j.h2],by simp[j.h3],j.hO,j.hO1,by simp[j.C7],by simp[j.Et],Y,gJ j.gp ic,j.fr.mono ic,j.low⟩⟩
 have ax:k=0:=y;subst ax;simp(disch:=omega)[-az,EQ,h2,h3,aP,al,an,hO,aO,ab,dm W,ac,m,ft,ba,D.cells,P.cells,aJ,bI,binOp,aC,fh,fP,dp,dv,unOp,cF,ai,s,aR,aS,dO ad,dO o,ao];intro v a0;refine mid (a:=a) (of:=of) (ds:=ds) (k:=0) (dk:=dk) (dn:=dn) (nl:=nl) (tx:=tx) (fo:=fo) (fb:=e.nx+1+2) (gf:=v (e.nx+1+2)) (rest:=((d.drop (i+1)).map (kw b)).sum) ha o ay aB aE (hB.next ?_ Y (λk hk=>by simp(disch:=omega)[ai]) ic ?_) ⟨Y,y,by simp(disch:=omega)[ai]⟩ Y Y Y (λs' j=>?_);exact⟨l,At hN Y q (λk hk=>by simp(disch:=omega)[ai]),by simpa using hl,aI⟩;exact(q.mono ic).am ic;simp[binOp,aC,j.I9,s];intro a1;obtain⟨A,N,Q,V⟩:=j.N;exact⟨_,y,i+1,rfl,⟨y,⟨A,by simpa using N,by simpa using Q,V⟩,by simp[j.h2],by simp[j.h3],j.hO,j.hO1,by simp[j.C7],by simp[j.Et],Y,gJ j.gp ic,j.fr.mono ic,j.low⟩⟩;have bs:i=d.length:=y;subst bs;simp[-az,EQ,al,an,binOp,aC];refine(hN.mono y).done hf (q.mono y) y be λag G g2=>a9 _ _ _ l y G (by simpa using hl) aI g2
end
def NX:av:=z 1 [q 9 (xB .lss 8 7)] (.seq (cX 9 0) (.seq (.block 1 (z 2 [G 10 8,G 5 10] (z 6 [G 11 1,G 12 0,G 13 5,q 14 (xI 1 12 13),oL 15 1 14,q 16 (xB .eql 11 15)] (.cond (.t 16) (z 2 [G 17 5,G 4 17] (.ret)) (.skip))))) (rF 2 [q 18 (di .add 8 1),G 8 18])))
def adZ:d6:=⟨19,[.t 4],z 1 [fR 4 0] (.seq (z 3 [G 6 0,q 7 (fQ 6),fR 8 0] (.block 0 (.loop NX))) (z 1 [fR 4 (-1)] (.ret)))⟩
def amq:cW af Tryz.f176=J adZ:=h
def acD:d6:=⟨9,[.t 4],z 1 [q 4 (gR Z)] (z 5 [G 5 0,G 6 1,q 7 (dV 176 5 6),q 8 (di .geq 7 0),G 4 8] (.ret))⟩
def aln:cW af Tryz.f121=J acD:=h
def D50:d6:=⟨14,[.t 6],z 2 [q 3 (iU 0 2 0),q 6 (gR Z)] (.seq (.dg 8 aa [aZ 7 (uS 2 3),aZ 10 (uS 2 3),aZ 11 (xM 2),G 8 1,q 9 (dV 122 7 8),q 12 (dV 96 10 11),q 13 (dV 121 9 12),G 6 13]) (.ret))⟩
def aou:cW af Tryz.f50=J D50:=h
def Wk(a:i<1000000):cI.wrap ((i:Int)+1)=((i+1:Nat):Int):=by rw[iK y y];rfl
theorem X7(b:Sl 1 v (l.map λi=>[I i]))(x:l.length<1000){d:ah}{f:Nat}(p:∀nx' c,f<=nx'->(0<=c↔j∈l)->C (.p (I c)) d nx'):X af 176 [.p v,.p (I j)] d f C:=by
 refine X.of Y amq (by simp[adZ]) λz=>?_;simp[adZ,cN,dO b];intro A;refine⟨λn e=>∃i:Nat,n=l.length-i/\i<=l.length/\(∀a,a<i->l[a]?≠J j)/\e.T 0=.p v/\e.T 1=.p (I j)/\e.T 7=.p (I l.length)/\e.T 8=.p (I i)/\e.O=d/\f<=e.nx,⟨l.length,0,Y,y,qM,Y,Y,Y,Y,rfl,aw⟩,?_⟩;rintro n e ⟨i,rfl,E,B,q,r,g,h,k,D⟩;by_cases m:i<l.length;have F:(l.map λi=>[I i])[i]? =J [I l[i]]:=Y;have s:=Wk (i:=i) y;by_cases t:j=l[i];have o:(j==l[i])=aa:=by simp[<-t]
 simp(disch:=omega)[NX,q,r,g,h,k,m,dm b,ft,ba,binOp,aC,o];exact .d8 bK y (p _ _ y U);have o:(j==l[i])=Z:=U;simp(disch:=omega)[-az,NX,q,r,g,h,k,m,dm b,ft,ba,binOp,aC,o,s];refine⟨_,y,i+1,rfl,y,λa u=>?_,Y,y⟩;grind;simp[-az,NX,g,h,k,binOp,aC,m];refine .d8 bK y (p _ _ y ⟨ak,λw=>?_⟩);obtain⟨a,u,rfl⟩:=eD w;grind
def Qi(d:Sl 1 v (l.map λi=>[I i]))(e:l.length<1000){a:ah}{b:Nat}(f:∀nx',b<=nx'->C (.p (B (decide (j∈l)))) a nx'):X af 121 [.p v,.p (I j)] a b C:=by
 refine X.of Y aln (by simp[acD]) λh=>?_;simp[acD,cN];refine X7 d e λk c m g=>?_;have H:decide (0<=c)=decide (j∈l):=by simp[g]
 simp[binOp,aC,H];exact .d8 bK y (f _ y)
theorem Py{a:List (List P)}(c:vN t a)(d:qf a)(o:a.length<900){e:ByteArray}{f:ah}{b:Nat}(h:∀nx' l,b<=nx'->lj a (iW (named A) a) l->C (.p (B (decide (iW (named e) a∈l)))) f nx'):X af 50 [.p (.agg [aB,t]),.p (S A),.p (S e)] f b C:=by
 refine X.of Y aou (by simp[D50]) λi=>?_;have j:t.cells=[t]:=by cases c.sl<;>simp[P.cells,aJ]
 simp(disch:=omega)[D50,cN,D.cells,P.cells,ba,j];intro p q;refine⟨[b],?_⟩;simp(disch:=omega)[aX,only,ba];refine OP c d λr l v s g k=>?_;have u:=g.le d qC;have w:=pP (pr:=named A) (es:=a);try simp
 refine v8 c λx z=>?_;try simp
 refine Qi k y λE F=>?_;try simp
 refine .low i y (λm G=>?_) (h _ _ y g);have n:m≠b:=y;simp[bp,n,aX,only];grind
def QP:av:=.cond (.t 19) (rF 6 [G 20 5,oF 21 7 0,oL 22 1 21,q 23 (.bQ 3 1 1 [aF] [(0,.t 22)]),q 24 (jE 4 1 16 20 23),G 5 24]) (.skip)
def Qv:av:=rF 2 [q 25 (di .add 11 1),G 11 25]
def XM:av:=
 z 1 [q 12 (xB .lss 11 10)] (.seq (cX 12 0) (.seq (.block 1 (z 4 [q 13 (xI 10 9 11),cA 14 10 13,q 7 (.alloc 2 10 [aF,aF,dZ,dZ,dZ,dZ,aD,aD,aD,aD]),oN (xS 10 7 14)] (z 5 [cA 15 2 2,oF 16 7 0,oL 17 1 16,G 18 1,q 19 (sV 50 15 17 18)]
  QP)))
  Qv))
def aeK:av:=z 2 [G 26 5,G 4 26] (.ret)
def D17:d6:=⟨27,[.t 4],z 2 [q 2 (iU 0 2 0),q 4 (.mv (.c aD))] (z 1 [q 5 (.mv (.c aD))] (.seq (z 4 [oF 8 2 1,oL 9 1 8,q 10 (fQ 9),fR 11 0] (.block 0 (.loop XM)))
 aeK))⟩
def apJ:cW af Tryz.f17=J D17:=h
def lj.asj{b:List (List P)}(a:lj b j l)(c:0<=j):j∈l:=by cases a with|FB i a=>omega|step=>simp
structure akl(es:List (List P))(e0 x:P)(b:ByteArray)(O:ah)(nx g0:Nat)(n:Nat)(s:St)(i:Nat):Prop where
 n:n=es.length-i
 hi:i<=es.length
 N:∃l,jq s.O (nx+1) 1 l (s.T 5)/\l.length<=i/\(∀r∈l,∃r'∈es,r=[S (mF r')])/\(iW (named b) es<i->l≠[])
 h1:s.T 1=.p (S b)
 h2:s.T 2=.ptr nx g0 2 0 0
 hO:s.O nx=J (.row 2 g0 [[.p e0,.p x]])
 h9:s.T 9=.p x
 Gz:s.T 10=.p (I es.length)
 h11:s.T 11=.p (I i)
 gp:nx<s.nx
 fr:Fr s.O s.nx
 low:∀k,k<nx->s.O k=O k
theorem Yx{d:List (List P)}(k:vN t d)(he:qf d)(ab:d.length<900)(ac:aB.cells=[aB])(H:0<=iW (named A) d)(ad:∀c∈d,∀o∈c,o.cells=[o]){x:ah}{m:Nat}(al:∀nx' M K l,m<=nx'->nz x m 1 l M K->l≠[]->l.length<=d.length->(∀c∈l,∃r'∈d,c=[S (mF r')])->Fr K nx'->C M K nx'):X af 17 [.p (.agg [aB,t]),.p (S A)] x m C:=by
 refine X.of Y apJ (by simp[D17]) λhf=>?_;have an:t.cells=[t]:=by cases k.sl<;>simp[P.cells,aJ]
 simp(disch:=omega)[D17,cN,D.cells,P.cells,ba,dO k.sl,an,ac];intro ao aS;refine⟨λn e=>∃i:Nat,akl d aB t A x m (ao m) n e i,⟨d.length,0,Y,y,⟨[],aj,Y,Y,qM⟩,Y,Y,Y,Y,Y,Y,aw,?_,aj⟩,?_⟩;exact bK;rintro n e ⟨i,rfl,E,⟨l,z,hl,a0,I⟩,s,u,hO,v,L,p,a1,N,a2⟩;by_cases O:i<d.length;have B:d[i]? =J d[i]:=Y;have ax:=bJ O;obtain⟨b,F,pa,rest,a⟩:=k.rows _ ar;have f:=ad _ ax
 match rest,a with
 |[q1,q2,q3,q4,q5,q6,q7,q8],a=>
  rw[a]at B f b;have c1:=f q1 Y;have c2:=f q2 Y;have c3:=f q3 Y;have c4:=f q4 Y;have c5:=f q5 Y;have c6:=f q6 Y;have c7:=f q7 Y;have c8:=f q8 Y;have G:=Wk (i:=i) y;simp(disch:=omega)[-az,XM,s,u,v,L,p,hO,O,dm k.sl,B,a,ft,ba,D.cells,P.cells,aJ,bI,binOp,aC,ai,c1,c2,c3,c4,c5,c6,c7,c8];intro a3 a4;refine Py k he ab λay lc a5 hc=>?_;by_cases w:iW (named A) d∈lc;rcases z with⟨rfl,j⟩|⟨id,g,Q,j,R⟩
  simp(disch:=omega)[-az,QP,w,j,ft,ba,D.cells,P.cells,aJ,fP,dp,dv,ai,fO,fF];intro aE;refine BS.l ?_;refine λh=>?_;simp[Qv,p,binOp,aC,G];intro T;refine⟨_,y,i+1,rfl,y,⟨[[S F]],.inr ⟨ay+4,h,y,Y,Y⟩,Y,λc q=>⟨_,ar,by rw[bD.1 q,a];rfl⟩,U⟩,by simp[s],by simp[u],?_,by simp[v],ar,Y,aw,?_,λV W=>?_⟩;exact aj;exact bK;exact aj;have aI:=N.lt ar;simp(disch:=omega)[-az,QP,w,j,ft,ba,D.cells,P.cells,aJ,fP,dp,dv,ai,fO,fF,R];intro aE;refine BS.l ?_;refine⟨y,y,λh=>?_⟩;simp[Qv,p,binOp,aC,G];intro T;refine⟨_,y,i+1,rfl,y,⟨l++[[S F]],.inr ⟨id,h,y,Y,Y⟩,U,λc q=>(bg.1 q).elim U λq=>⟨_,ar,by rw[bD.1 q,a];rfl⟩,U⟩,by simp[s],by simp[u],?_,by simp[v],ar,Y,aw,?_,λV W=>?_⟩;exact aj;exact bK;exact aj;simp(disch:=omega)[-az,QP,w];simp[Qv,p,binOp,aC,G];intro T;refine⟨_,y,i+1,rfl,y,⟨l,?_,y,U,λhh=>I ?_⟩,by simp[s],by simp[u],?_,by simp[v],ar,Y,aw,?_,λV W=>?_⟩;rcases z with⟨j,h6⟩|⟨id,g,Q,j,R⟩
  exact aj;have aI:=N.lt ar;exact .inr ⟨id,g,Q,by simp[j],aj⟩;by_cases aO:iW (named A) d=i;refine absurd ?_ w;have aP:=Ur H;obtain⟨r2,r,h⟩:=aP;rw[aO]at r;rw[show((i:Int).toNat)=i by omega,B]at r;cases r;have e1:F=A:=zx.1 h;subst e1;exact hc.asj H;omega;exact aj;exact bK;exact aj
 |[],a=>rw[a]at b;simp at b|[_],a=>rw[a]at b;simp at b|[_,_],a=>rw[a]at b;simp at b|[_,_,_],a=>rw[a]at b;simp at b|[_,_,_,_],a=>rw[a]at b;simp at b|[_,_,_,_,_],a=>rw[a]at b;simp at b|[_,_,_,_,_,_],a=>rw[a]at b;simp at b|[_,_,_,_,_,_,_],a=>rw[a]at b;simp at b|_::_::_::_::_::_::_::_::_::_,a=>rw[a]at b;simp at b
 have aR:i=d.length:=y;subst aR;simp[-az,XM,aeK,L,p,binOp,aC];exact(z.mono y).done hf bK y U λag r h=>al _ _ _ l y r (I (by have:=pP (pr:=named A) (es:=d);omega)) hl U h
section
variable [Gh]
theorem Ze(a:Row aR c):∀o∈c,o.cells=[o]:=by
 induction aR generalizing c with
 |nil=>obtain rfl:=Row.nil a;simp
 |cons Q aR ih=>
  obtain⟨o,v,rfl,d,e⟩:=Row.cons a;intro f b;rcases bt.1 b with rfl|b
  exact eU d;exact aj
theorem Yr:bz af S33:=by refine .n rfl λe G C H g W h=>?_;obtain⟨o,i,rfl,a,j⟩:=Vs.cons g;obtain⟨v,i,rfl,⟨A,rfl,b⟩,k⟩:=Vs.cons j;obtain rfl:=Vs.nil k;obtain⟨aB,t,I,rfl,m,n,L,_,N,p,d⟩:=nO y rfl a;have p:=y;have O:=Gh.ED A b;have P:=Gh.sH A 0 b;have E:=Dd ar b y;refine X.fr ⟨_,Tryz.func17,by rfl,by rfl⟩ λq=>?_;refine X.rW (Yx (nW rfl n ar d) (lR ar) y (eU m) y (λc a=>Ze (d c a)) λnx' M K l r s u Q w _=>?_);obtain⟨v,x,z⟩:=s.rW q;refine⟨_,_,x,h nx' [v] _ e r ⟨⟨l,z,?_,y,?_,ar⟩,ar⟩ (by intro v R;grind) OU⟩;have:=xQ.2 u;omega;intro c B;obtain⟨D,F,rfl⟩:=w c B;obtain⟨S,o,T,U,V,Y,f,rl,ab,t,rfl,ha,_⟩:=kz (d D F);exact⟨aj,ar⟩
end
def aeB:av:=rF 9 [G 25 5,oF 26 2 1,oL 27 1 26,G 28 7,q 29 (xI 10 27 28),cA 30 10 29,q 31 (oW 104 30),q 32 (jE 7 5 64 25 31),G 5 32]
def afy:av:=rF 2 [q 33 (di .add 12 1),G 12 33]
def Yw:av:=
 z 1 [q 13 (xB .lss 12 11)] (.seq (cX 13 0) (.seq (.block 1 (z 3 [q 14 (xI 1 10 12),oL 15 1 14,G 7 15] (.seq (.dg 10 aa [aZ 16 (xM 4),cA 17 2 2,oF 18 2 1,oL 19 1 18,G 20 7,q 21 (xI 10 19 20),cA 22 10 21,q 23 (dV 103 17 22),q 24 (jE 8 5 64 16 23),G 4 24])
  aeB)))
  afy))
def aeC:av:=.block 0 (.loop Yw)
def afU:av:=z 4 [G 34 4,G 35 5,G 4 34,G 5 35] (.ret)
def D53:d6:=⟨36,[.t 4,.t 5],z 3 [q 2 (iU 0 2 0),q 4 (.mv (.c aD)),q 5 (.mv (.c aD))] (.seq (z 5 [cA 8 2 2,G 9 1,q 10 (dV 122 8 9),q 11 (fQ 10),fR 12 0]
 aeC)
 afU)⟩
def apY:cW af Tryz.f53=J D53:=h
structure aod(em es:List (List P))(L:List Int)(ep x q:P)(nm:ByteArray)(O:ah)(nx g0:Nat)(n:Nat)(s:St)(i:Nat):Prop where
 n:n=L.length-i
 hi:i<=L.length
 N:∃l,jq s.O (nx+1) 5 l (s.T 4)/\l.length=sF (mG em) es (L.take i)/\(∀r∈l,∃nm',(∃r'∈es,mF r'=nm')/\Ao nm' r)
 N2:∃l,jq s.O (nx+1) 5 l (s.T 5)/\l.length=sF uT es (L.take i)/\(∀r∈l,∃r'∈es,∃rel∈oQ (r'.getD 7 (.v undef)),r=yp (S (mF r')) rel)
 ne:∀id g k id2 g2 k2 s1 s2,s.T 4=.sl id g 0 k s1 Z->s.T 5=.sl id2 g2 0 k2 s2 Z->id≠id2
 h2:s.T 2=.ptr nx g0 2 0 0
 hO:s.O nx=J (.row 2 g0 [[.p ep,.p x]])
 Gz:s.T 10=.p q
 h11:s.T 11=.p (I L.length)
 h12:s.T 12=.p (I i)
 gp:nx<s.nx
 fr:Fr s.O s.nx
 low:∀k,k<nx->s.O k=O k
structure OS(r:List P):Prop where
 sh:∃(a pa:ByteArray) (b1 b2 b3 b4:Bool) (f rl u xx:P) (fl rels:List (List P)),r=[S a,S pa,B b1,B b2,B b3,B b4,f,rl,u,xx]/\Sl 9 f fl/\Sl 7 rl rels/\u.cells=[u]/\xx.cells=[xx]/\fl.length<1000/\rels.length<1000/\(∀f∈fl,zu f)/\(∀r∈rels,N7 r)
def PH{a:List (List P)}{b:List Int}(d:b[i]? =J j)(e:a[j.toNat]? =J c):sF f a (b.take (i+1))=sF f a (b.take i)+f c:=by have g:=(bq.1 d).1;have h:=(bq.1 d).2;unfold sF;rw[nf,d];simp[e]
theorem zX{es:List (List P)}(d:∀c∈es,f c<=n)(b:f []<=n)(a:List Int):sF f es a<=n*a.length:=by
 induction a with
 |nil=>exact i0
 |cons j a ih=>
  have H:sF f es (j::a)=f (es.getD j.toNat [])+sF f es a:=by simp[sF]
  have:f (es.getD j.toNat [])<=n:=by rw[xA];cases e:es[j.toNat]? with|none=>exact b|some c=>grind
  rw[H,ij,G5];omega
theorem PG{F:P}{u b:List (List P)}(hE:Sl 2 F u)(G:vN t b)(he:qf b)(cn:b.length<900)(cq:u.length<1000)(bH:∀t∈u,MZ t)(a4:∀c∈b,OS c)(ac:∀c∈b,mG u c<100){L:ah}{a:Nat}(M:∀nx' N O K q w d,a<=nx'->lj b (iW (named A) b) d->(∃ag,nz L a 5 q N ag/\nz ag a 5 w O K/\Fr ag nx')->(∀id g k ad Q k2 s1 s2,N=.sl id g 0 k s1 Z->O=.sl ad Q 0 k2 s2 Z->id≠ad)->q.length=sF (mG u) b d->w.length=sF uT b d->(∀c∈q,∃a5,(∃R∈b,mF R=a5)/\Ao a5 c)->(∀c∈w,∃R∈b,∃al∈oQ (R.getD 7 (.v undef)),c=yp (S (mF R)) al)->Fr K nx'->C (.eQ [N,O]) K nx'):
 X af 53 [.p (.agg [F,t]),.p (S A)] L a C:=by
 refine X.of Y apY (by simp[D53]) λhf=>?_;have a6:t.cells=[t]:=ie G.sl;have bL:=ie hE;simp(disch:=omega)[D53,cN,D.cells,P.cells,aJ,ba,a6,bL];intro an cr;refine OP G he λcs d v cv hc hq=>?_;have bM:=hc.range;have cw:=hc.le he qC;have cx:=pP (pr:=named A) (es:=b);simp[dO hq,aeC];refine⟨λn e=>∃i:Nat,aod u b d F t v A L a (an a) n e i,⟨d.length,0,Y,y,⟨[],aj,aj,Y⟩,⟨[],aj,aj,Y⟩,Y,Y,Y,Y,Y,Y,aw,?_,aj⟩,?_⟩;exact bK;rintro n e ⟨i,rfl,E,⟨q,hN,hl,a7⟩,⟨w,ao,ax,a8⟩,ay,T,hO,a9,aB,aE,cy,V,bO⟩;by_cases aI:i<d.length;have bb:(d.map λi=>[I i])[i]? =J [I d[i]]:=by simp[aI]
 have aO:d[i]? =J d[i]:=Y;obtain⟨W,bR⟩:=bM _ (bJ aI);generalize d[i]=j at bb aO W bR;have bd:j.toNat<b.length:=y;have z:=bh bd;have aP:=bJ bd;obtain⟨aR,pa,b1,b2,b3,b4,f,rl,cz,xx,fl,ab,h,hF,hR,hU,hX,bS,cE,cJ,cK⟩:=(a4 _ ar).sh;have bT:=ac _ aP;have bX:mG u b[j.toNat]=(fl.map (kw u)).sum:=by rw[h];simp[mG,lz hF]
 have bZ:uT b[j.toNat]=(ab.filter mK).length:=by rw[h];simp[uT,lz hR]
 have be:=PH (f:=mG u) aO z;have bk:=PH (f:=uT) aO z;rw[bX]at be bT;rw[bZ]at bk;rw[h]at z;have b0:=Wk (i:=i) y;have cL:∀(o:Prop),(0<=j/\o)↔o:=U;simp(disch:=omega)[-az,Yw,T,a9,aB,aE,hO,aI,dm hq,dm G.sl,bb,z,h,ft,ba,D.cells,P.cells,aJ,binOp,aC,ai,W];intro cT cU;refine⟨[],?_⟩;simp(disch:=omega)[-lB,T,hO,dm G.sl,z,h,ft,ba,W];refine T8 hE hF a6 (ie hR) hU hX bS y U bH y λbl N O1 B cX bm b5 b6 b7=>?_;have aS:=bm.low;refine uI (by simpa using hN.aL V ak) (by simpa using bm.num.fO) ?_ ?_ aw λp x c0 a0=>?_;have:=zX (λc h=>Bm (ac c h)) (by simp[mG,oQ]) (d.take i);grind;have:=zX (λc h=>Bm (ac c h)) (by simp[mG,oQ]) (d.take i);grind;have c1:O1 a=J (.row 2 (an a) [[.p F,.p t]]):=by rw[aS a y];simpa using hO
 have c2:p<bl:=by rcases a0 with⟨H,_⟩|⟨g0,_,H⟩;exact EA;exact iP λa1=>by have:=b7 p a1;grind
 have bn:jq (am O1 p (J (.row 5 x ((q++B).map (·.map .p))))) (a+1) 5 w (e.T 5):=by
  rcases ao with M|⟨r,g5,h1,h5,b8⟩;exact aj;have c3:=V.lt b8;have c4:r≠p:=by rcases a0 with⟨H,_⟩|⟨g0,H,_⟩;exact EA;exact aj
  refine .inr ⟨r,g5,h1,h5,?_⟩;rw[ai y,aS r y];exact ar
 have b9:Fr (am O1 p (J (.row 5 x ((q++B).map (·.map .p))))) bl:=bK;simp only[aeB];generalize a2:am O1 p (J (.row 5 x ((q++B).map (·.map .p))))=O4 at bn b9;have bo:O4 a=J (.row 2 (an a) [[.p F,.p t]]):=by rw[<-a2,ai y];exact ar
 have c5:O4 p=J (.row 5 x ((q++B).map (·.map .p))):=by rw[<-a2,bi]
 have ca:∀k,k<a->O4 k=L k:=λk hk=>by rw[<-a2,ai y,aS k y];exact U
 simp(disch:=omega)[-lB,-cG,-fj,T,bo,dm G.sl,z,h,ft,ba,W];intro c6;refine ZT hR (ie hF) hU hX y U λcb O ag c7 bs bu=>?_;have a3:=bs.low;have cc:ag p=J (.row 5 x ((q++B).map (·.map .p))):=by rw[a3 p y];exact ar
 have cg:=zX (f:=uT) (n:=1000) (es:=b) (λc h=>by obtain⟨_,_,_,_,_,_,_,c8,_,_,_,c9,H,_,ch,_,_,_,hb,_⟩:=(a4 c h).sh;rw[H];simp only[uT,kL,lI,lz ch];grind) (by simp[uT,oQ]) (d.take i)
 have da:(ab.filter mK).length<1000:=ak;simp at cg;refine uI (m:=a+1) (l:=w) (ys:=(ab.filter mK).map (yp (S aR))) (by simpa using bn.aL ar ak) (by simpa using bs.num.fO) dK dK aw λr g5 db bA=>?_;have dc:r<cb:=by rcases bA with⟨H,_⟩|⟨g0,_,H⟩;exact EA;exact iP λa1=>by have:=bu r a1;grind
 have bB:p≠r:=by rcases bA with⟨H,_⟩|⟨g0,H,_⟩;simp at H;omega;simp at H;rcases a0 with⟨e4,_⟩|⟨g0,e4,_⟩;rcases ao with⟨_,M⟩|⟨dd,df,h1,bC,ck⟩;rw[M]at H;cases H;rw[H]at bC;cases bC;have:=V.lt ck;simp at e4;omega;simp at e4;exact ay _ _ _ _ _ _ _ _ e4 H
 simp(disch:=omega)[-cG,-fj,afy,aE,binOp,aC,b0];intro dj;refine⟨_,y,i+1,rfl,y,⟨q++B,.inr ⟨p,x,y,Y,?_⟩,?_,?_⟩,⟨w++(ab.filter mK).map (yp (S aR)),.inr ⟨r,g5,y,Y,Y⟩,?_,?_⟩,?_,by simp[T],?_,by simp[a9],by simp[aB],Y,dK,?_,λk hk=>?_⟩;show am ag r _ p=_;rw[ai bB];exact cc;rw[be,fj,hl,b5];intro c s;rcases bg.1 s with s|s
 exact a7 c s;exact⟨aR,⟨_,aP,by rw[h];rfl⟩,b6 c s⟩;rw[bk,fj,ax,d7];intro c s;rcases bg.1 s with s|s
 exact a8 c s;obtain⟨al,cl,rfl⟩:=bN.1 s;exact⟨_,aP,al,by rw[h];simpa[lz hR] using(jB.1 cl).1,by rw[h];rfl⟩;intro id g k ad Q k2 s1 s2 e1 e2;simp at e1 e2;rw[<-e1.1,<-e2.1];exact bB;show am ag r _ a=_;rw[ai y,a3 a y];exact bo;exact(bu.mono ic).am ic;show am ag r _ k=_;rw[ai y,a3 k y];exact ca k hk;have cm:i=d.length:=y;subst cm;rw[y7]at hl ax;simp[-az,Yw,afU,aB,aE,binOp,aC];exact(hN.mono (Hw a)).apz (ao.mono (Hw a)) ay hf (V.mono y) y bO λag O3 g1 Q g3 x=>M _ _ _ _ q w d y hc ⟨ag,g1,Q,g3⟩ ay hl ax a7 a8 x
section
variable [Gh]
def Eh{c:CT}{d:List P}(e:∀o,CT.ok c o->∃a b,Sl a o b)(f:Row [.str 100,.z 0 10,.str 100,.bool,.z 0 10,.int .i64 aS E,.str 100,bO,c] d):zu d:=by obtain⟨be,F,rfl,⟨g,rfl,G⟩,h⟩:=Row.cons f;obtain⟨aP,H,rfl,⟨i,rfl,j,k⟩,l⟩:=Row.cons h;obtain⟨I,K,rfl,⟨m,rfl,_⟩,n⟩:=Row.cons l;obtain⟨L,M,rfl,⟨nl,rfl⟩,p⟩:=Row.cons n;obtain⟨N,O,rfl,⟨q,rfl,_⟩,r⟩:=Row.cons p;obtain⟨Q,R,rfl,⟨s,rfl,_⟩,t⟩:=Row.cons r;obtain⟨S,T,rfl,⟨u,rfl,_⟩,v⟩:=Row.cons t;obtain⟨w,U,rfl,x,z⟩:=Row.cons v;obtain⟨A,V,rfl,B,C⟩:=Row.cons z;obtain rfl:=Row.nil C;obtain⟨a,b,D⟩:=e _ B;exact⟨g,m,u,i,q,s,nl,w,A,a,b,rfl,y,j,k,eU x,D⟩
theorem aaL(a:P)(c:CT.ok (.aY bn aS E) a):∃d b,Sl d a b:=by obtain⟨b,e,_⟩:=c;grind
theorem alk(b:P)(a:CT.ok .nil b):∃c d,Sl c b d:=by have a:=a;subst a;exact aj
def JR{b:List P}(c:∀o,CT.ok H o->∃a:ByteArray,o=S a)(n:bH<=900)(d:Row [H,.aY [.str 100,.z 0 10,.str 100,.bool,.z 0 10,.int .i64 aS E,.str 100,bO,.nil] bS bH] b):MZ b:=by obtain⟨be,p,rfl,e,g⟩:=Row.cons d;obtain⟨h,q,rfl,⟨i,j,_,r,k,_⟩,l⟩:=Row.cons g;obtain rfl:=Row.nil l;obtain⟨a,rfl⟩:=c _ e;exact⟨a,h,i,rfl,j,y,λf m=>Eh alk (k f m)⟩
def Ff{b:List (List P)}(c:Gh.NH b)(a:List (List P)):(a.map (kw b)).sum<=2*a.length:=by induction a with|nil=>simp|cons f a ih=>have:=Gh.Ex b f c;simp;omega
def E7{a b eb:CT}(d:Row [.nm Q,.str 100,.bool,.bool,.bool,.bool,.aY [.str 100,.z 0 10,.str 100,.bool,.z 0 10,.int .i64 aS E,.str 100,bO,.aY bn bS bH] 0 3,.aY [.em 5,.z 0 10,.nm 0,.str 100,.bool,.z 0 10,.bool] 0 7,a,b] c):OS c:=by obtain⟨e,o,g,h,i,j,f,k,l,t,rfl,B,_,m,n,p,q⟩:=kz d;obtain⟨r,s,_,C,u,_⟩:=m;obtain⟨v,w,D,F,x⟩:=Cd n;exact⟨e,o,g,h,i,j,f,k,l,t,r,v,rfl,s,w,eU p,eU q,y,y,λf z=>Eh aaL (u f z),λc A=>Pn (x c A) Ja⟩
theorem Pw{nm:ByteArray}(g:Gh.nm nm)(a:Ao nm c):Row [.str 300,.nm 0,.z 0 10,.str 0,.bool] c:=by obtain⟨b,d,A,rfl,h,e,f⟩:=a;exact⟨⟨b,rfl,y⟩,aj,⟨d,rfl,e,f⟩,⟨⟨#[]⟩,rfl,eB⟩,aj,aj⟩
def TS{b:P}(d:CT.ok (.aY [.em 4,.aY bn 0 2] 0 2) b):∃a,Sl 2 b a/\a.length<=2/\Gh.NH a/\∀t∈a,Row [.em 4,.aY bn 0 2] t:=by obtain⟨a,e,_,g,f,c⟩:=d;have c:Ai.LT 4 a:=c;exact⟨a,e,y,ar,f⟩
theorem acM:bz af S40:=by refine .n rfl λI L C N e W g=>?_;obtain⟨o,O,rfl,h,i⟩:=Vs.cons e;obtain⟨aP,P,rfl,⟨c,rfl,b,_⟩,j⟩:=Vs.cons i;obtain rfl:=Vs.nil j;obtain⟨aB,t,Q,rfl,k,m,R,_,S,T,_⟩:=nO y rfl h;obtain⟨V,n,Y,p,q⟩:=TS k;obtain⟨ab,o,b1,b2,b3,b4,f,rl,ac,x2,rfl,r,_,s,u,w,x⟩:=kz b;obtain⟨z,A,_,f3,B,_⟩:=s;have ad:=Ff p z;refine X.fr ⟨_,Hh,by rfl,by rfl⟩ λa=>?_;refine T8 n A (ie m) (eU u) (eU w) (eU x) y y (λf a=>Eh aaL (B f a)) (λt D=>JR Ja y (q t D)) y λnx' M K l E F hl ag G=>?_;obtain⟨v,d,H⟩:=nz.rs (row:=[.str 300,.nm 0,.z 0 10,.str 0,.bool]) rfl a G F;exact g nx' [v] [M] K E ⟨⟨_,d,y,y,λc b=>Pw r U,ar⟩,ar⟩ (by intro v d;grind) H
theorem acu{k r:ah}{l:Nat}{b c:List (List P)}{o p:D}(q:Fr k l)(z:nz k l n b o ag)(s:nz ag l m c p r)(A:∀id g f a d B e s2,o=.sl id g 0 f e Z->p=.sl a d 0 B s2 Z->id≠a):
 ∃t u,wR (.eQ [o,p]) r (.eQ [.p t,.p u]) k/\Sl n t b/\Sl m u c:=by
 have h:∀(i:ah) (id:Nat) (f:fg),i id=ae->am (am i id (J f)) id ae=i:=by intro i id f C;rw[oS];funext j;by_cases E:j=id;exact U;exact U
 rcases z with⟨rfl,rfl,rfl⟩|⟨id,g,v,rfl,rfl⟩;rcases s with⟨rfl,rfl,rfl⟩|⟨a,d,w,rfl,rfl⟩;exact⟨_,_,aj,aj,aj⟩;refine⟨_,.im c m Z,.step a d m c Y ?_,aj,aj⟩;rw[h _ _ _ aj];simp only[gx,kn,bf,bV,gK];rw[cp y];exact aj;rcases s with⟨rfl,rfl,rfl⟩|⟨a,d,w,rfl,rfl⟩;refine⟨.im b n Z,_,.step id g n b (by rw[bi]) ?_,.im _ _,.nil⟩;rw[h _ _ _ (q id v)];simp only[gx,kn,bf,bV,kG,aT,gK];rw[cp y];exact aj;have x:=A _ _ _ _ _ _ _ _ rfl rfl;refine⟨.im b n Z,.im c m Z,.step a d m c (by rw[bi]) ?_,.im _ _,.im _ _⟩;rw[h _ _ _ (by rw[ai (dB x),q a w])];simp only[gx,kn,x,false_and,dC,bf,bV,kG,aT,gK];rw[cp y];refine .step id g n b (by rw[bi]) ?_;rw[h _ _ _ (q id v)];simp only[gx,kn,bf,bV,kG,aT,gK];rw[cp y];exact .refl _ _
theorem akU{b c:VT}{a:ah}{d:Nat}:lg d nx' [] 0 [b,c] [o,v] [.p o,.p v] a a:=aj
def LI{a:List (List P)}(b:Sl n o a):lO o=a.length:=by cases b<;>rfl
def Lt{b:List (List P)}(d:∀c∈b,f c<=n)(e:f []<=n)(a:List Int):sF f b a<=n*a.length:=zX d e a
theorem abL:bz af ({f:=53,uK:=Z,ps:=[(.agg [(.aY [(.em 4),(.aY [(.str 100),(.z 0 10),(.str 100),.bool,(.z 0 10),.aI,(.str 100),(.aY [(.str 100)] 0 3),.nil] 0 2)] 0 2),(.aY [(.nm 2),(.str 100),.bool,.bool,.bool,.bool,(.aY [(.str 100),(.z 0 10),(.str 100),.bool,(.z 0 10),.aI,(.str 100),(.aY [(.str 100)] 0 3),(.aY [(.z 0 10),(.z 0 30),(.z 0 100),(.z 0 10),.aI,(.str 100),(.str 300),(.str 300),.bool,(.aY [(.z 0 10),(.z 0 30),(.z 0 100),(.z 0 10),.aI,(.str 100),(.str 300),(.str 300),.bool,(.aY [(.z 0 10),(.z 0 30),(.z 0 100),(.z 0 10),.aI,(.str 100),(.str 300),(.str 300),.bool,.nil,.nil,.nil,.nil] 0 10),.nil,.nil,.nil] 0 10),.nil,.nil,.nil] 0 1)] 0 3),(.aY [(.em 5),(.z 0 10),(.nm 0),(.str 100),.bool,(.z 0 10),.bool] 0 7),(.aY [(.aY [(.str 300)] 0 2)] 0 10),(.aY [(.aY [(.str 300)] 0 2)] 0 10)] 1 5)]),(.aM (.nm 0))],rs:=[(.aM (.aY [(.str 300),(.nm 0),(.z 0 10),(.str 0),.bool] 0 1000)),(.aM (.aY [(.str 100),(.nm 0),(.z 0 0),(.nm 0),.bool] 0 1000))],cost:=0,y6:=[([],[⟨7,5,0⟩,⟨5,7,0⟩,⟨8,6,0⟩,⟨6,8,0⟩])],C8:=[],os:=[]}:Go.Dl.Ai.SP):=by
 refine .n rfl λH nx C aI I W L=>?_;obtain⟨o,M,rfl,a,N⟩:=Vs.cons I;obtain⟨v,M,rfl,⟨A,rfl,b⟩,O⟩:=Vs.cons N;obtain rfl:=Vs.nil O;obtain⟨aB,t,l,rfl,P,Q,aO,_,aP,g,d⟩:=nO y rfl a;have g:=g rfl;obtain⟨m,R,g2,n,S⟩:=TS P;have aR:=Gh.ED A b;have h0:=Gh.sH A 0 b;have E:=Dd ar b y;have T:∀c∈l,mG m c<=6:=by intro c a;obtain⟨p,o,h,i,q,r,f,s,u,x2,rfl,e,_,V,w,h3,h4⟩:=kz (d c a);obtain⟨Y,f1,_,f3,f4,_⟩:=V;have:=Ff n Y;simp only[mG,kL,lI,lz f1];omega
 refine X.fr ⟨_,Tryz.func53,by rfl,by rfl⟩ λhf=>?_;refine X.rW (PG R (nW rfl Q ar d) (lR ar) y y (λt hx=>JR Ja y (S t hx)) (λc a=>E7 (eb:=.bool) (d c a)) ak
  λnx' d1 d2 K l1 l2 x ab z ac ad aS a0 al an a3=>?_)
 obtain⟨ag,ao,ax,_⟩:=ac;obtain⟨q1,q2,hg,B,D⟩:=acu hf ao ax ad;obtain⟨a1,a2⟩:=Gh.je m l A x n ar g b z;have a4:=z.le (lR ar) y;have a5:=y;have h:=Lt T (by simp[mG,oQ]) x;have i:=Gh.MX A 2 b;refine⟨_,_,hg,L nx' [q1,q2] _ H ab ⟨⟨l1,B,y,y,?_,ar⟩,⟨l2,D,y,y,?_,ar⟩,ar⟩ ?_ akU⟩;intro c a;obtain⟨a6,⟨j,k,rfl⟩,ay⟩:=al c a;obtain⟨p,o,h,i,q,r,f,s,u,t,rfl,e,_⟩:=kz (d j k);exact Pw e ay;intro c a;obtain⟨j,k,a7,aE,rfl⟩:=an c a;obtain⟨p,o,h,i,q,r,f,s,u,t,rfl,e,_,_,w,_⟩:=kz (d j k);obtain⟨a8,r1,r2,r3,r4⟩:=Cd w;simp only[kL,lI,lz r1]at aE;exact KH e U;intro f G;have e1:=LI B;have e2:=LI D;simp only[bt,iD,iT]at G;subst G;simp[F.ok,rE,Al,vp,xP,AA,zd,e1,e2];omega
end
def gG(a:Nat):ByteArray:=⟨#[101]⟩++gY (97+(a:Int))
def zq(a:Nat):ByteArray:=⟨#[109]⟩++gY (97+(a:Int))
def Ut:∀i<5,∀j<5,gG i=gG j->i=j:=KZ
def Pv:∀i<5,(gG i).size=2:=KZ
def alo:zq 0≠zq 1:=KZ
def Pt:∀i<5,(zq i).size=2:=KZ
def toList_inj{a:ByteArray}(b:(a.toList==A.toList)=aa):a=A:=by rw[yF]at b;exact(oZ _ _).1 b
def JE(a:List P):Prop:=∀bA:Gh,@Row bA Ty.CX a
def OB(a:List P):Prop:=∀bA:Gh,@Row bA Ty.Cf a
def DI(d:Nat)(e:List P):Prop:=∃(c:ByteArray) (a:Int) (Q:Nat) (A:ByteArray) (f:Bool) (b:Int) (g:Bool),e=[S c,I a,S (gG Q),S A,B f,I b,B g]/\c.size<=100/\A.size<=100/\0<=a/\a<=10/\0<=b/\b<=10/\Q<d
def Dx(a:List P):Prop:=∃(o:P) (l:List (List P)),a=[o]/\Sl 1 o l/\l.length<=2/\∀a∈l,∃b:ByteArray,a=[S b]/\b.size<=300
def Ae(l e:Nat)(a:List P):Prop:=∃(o:ByteArray) (m n p q:Bool) (g h i k:P) (c b d t:List (List P)),a=[S (gG e),S o,B m,B n,B p,B q,g,h,i,k]/\(o.size=0\/∃j,j<e/\o=gG j)/\(Sl 9 g c/\c.length<=3/\∀f∈c,JE f)/\(Sl 7 h b/\b.length<=7/\(b.filter mK).length<=6/\∀a∈b,DI l a)/\(Sl 1 i d/\d.length<=10/\∀a∈d,Dx a)/\(Sl 1 k t/\t.length<=10/\∀a∈t,Dx a)
def Am(b:List (List P)):Prop:=b.length<=2/\∀(i:Nat) t,b[i]? =J t->∃(o:P) (a:List (List P)),t=[S (zq i),o]/\Sl 9 o a/\a.length<=2/\∀f∈a,OB f
structure jp(em es:List (List P)):Prop where
 em:Am em
 len:es.length<=5
 row:∀(i:Nat) r,es[i]? =J r->Ae es.length i r
def aah(a:List P->Nat)(b:Nat):∀(l:List (List P)),(∀t∈l,a t<=b)->(l.map a).sum<=b*l.length|[],_=>Y|t::l,c=>by have d:=c t ja;have e:=aah a b l U;simp[bG,Gr,ij,G5];omega
theorem Ex{b:List (List P)}(e:Am b)(f:List P):kw b f<=2:=by
 unfold kw;split;rename_i r g rest;have c:(b.map λt=>match t with|.v (.string h)::i::_=>if h.toList==g.toList then(oQ i).length else 0|_=>0).sum<=2:=by
  obtain⟨d,a⟩:=e
  match b,d,a with
  |[],_,_=>simp|[t],_,a=>obtain⟨o,j,rfl,c,d,_⟩:=a 0 t rfl;have:=lz c;grind
  |[t,k],_,a=>obtain⟨o,j,rfl,c,d,_⟩:=a 0 t rfl;obtain⟨aP,s,rfl,l,u,_⟩:=a 1 k rfl;have m:=lz c;have n:=lz l;simp only[bG,eC,Gr,List.sum_nil,m,n];split;rename_i p;split;rename_i q;exact absurd ((toList_inj p).trans (toList_inj q).symm) alo;omega;grind
  |_::_::_::_,d,_=>grind
 grind;omega
def tv(a:Ae n i c):mF c=gG i:=by obtain⟨o,b,d,e,f,g,h,j,k,l,m,p,t,rfl,_⟩:=a;rfl
def jp.arI{em a:List (List P)}(h:jp em a):zi em a where
 len:=h.len
 row i c E:=by
  have nN:=(bq.1 E).1;have hl:=h.len;obtain⟨o,e,g,k,l,b,d,m,n,fl,p,q,t,rfl,W,_⟩:=h.row i c E;have hs:=Pv i y;refine⟨_,_,_,rfl,y,y,?_⟩;rcases W with W|⟨j,hj,rfl⟩
  exact U;have r:j<a.length:=y;exact .inr ⟨j,a[j],hj,Y,tv (h.row j _ Y)⟩
 inj i j c r' E hj H:=by have h1:=(bq.1 E).1;have h2:=(bq.1 hj).1;have hl:=h.len;rw[tv (h.row i c E),tv (h.row j r' hj)]at H;exact Ut i y j y H
 st c hr:=by obtain⟨i,E,rfl⟩:=eD hr;obtain⟨o,e,g,k,l,b,d,m,n,fl,p,q,t,H,_,⟨s6,s,_⟩,_⟩:=h.row i _ (bh E);rw[H];show((oQ b).map (kw em)).sum<=100;rw[lz s6];have:=aah (kw em) 2 fl λf _=>Ex h.em f;omega
 on c hr:=by obtain⟨i,E,rfl⟩:=eD hr;obtain⟨o,e,g,k,l,b,d,m,n,fl,p,q,t,H,_,_,⟨s7,u,v,_⟩,_⟩:=h.row i _ (bh E);rw[H];show((oQ d).filter mK).length<=100;rw[lz s7];omega
 NH f:=Ex h.em f
@[reducible] noncomputable def KJ(a b:List (List P))(c:jp a b):Gh:=arY a b c.arI (λ_=>True) (λ_=>True) (λ_ _ _=>trivial)
theorem U2[Gh]{a:List (List P)}{d:Int}(e:Sl 1 v a)(f:(a.length:Int)<=d)(b:∀c∈a,Dx c):CT.ok (.aY [.aY [.str 300] 0 2] 0 d) v:=⟨a,e,y,f,λc g=>by obtain⟨o,l,rfl,h,k,i⟩:=b c g;exact⟨⟨l,h,y,y,λc b=>by obtain⟨j,rfl,m⟩:=i c b;exact⟨⟨j,rfl,y⟩,aj⟩,aj⟩,aj⟩,aj⟩
theorem jp.mg{em a:List (List P)}(b:jp em a)(C:1<=a.length){f g:P}(k:Sl 2 f em)(l:Sl 10 g a): @VT.ok (KJ em a b) Ty.MG (.agg [f,g]):=by
 letI:=KJ em a b;have D:=b.len;have F:∀Q,Q<a.length->Gh.nm (gG Q):=λQ G=>by exact⟨a[Q],Y,tv (b.row Q _ Y)⟩
 refine⟨_,rfl,⟨⟨em,k,y,by have:=b.em.1;omega,λc d=>?_,?_⟩,⟨a,l,y,y,λc d=>?_,?_⟩,aj⟩,aj⟩;obtain⟨i,E,rfl⟩:=eD d;obtain⟨o,e,H,m,I,K⟩:=b.em.2 i _ (bh E);rw[H];have bH:=b.em.1;have n:=Pt i y;exact⟨⟨zq i,rfl,by rw[n];decide⟩,⟨e,m,y,y,aj,aj⟩,aj⟩;exact aj;obtain⟨i,E,rfl⟩:=eD d;obtain⟨o,L,M,N,O,R,S,T,V,e,p,X,t,H,W,⟨s6,l6,f6⟩,⟨s7,l7,ab,q⟩,⟨s8,l8,r⟩,⟨s9,l9,s⟩⟩:=b.row i _ (bh E);rw[H];have ac:o.size<=100:=by rcases W with W|⟨j,hj,rfl⟩;omega;have:=Pv j y;omega
 refine⟨⟨gG i,rfl,U⟩,⟨o,rfl,y⟩,aj,aj,aj,aj,⟨e,s6,y,y,aj,aj⟩,⟨p,s7,y,y,λc d=>?_,?_⟩,U2 s8 y r,U2 s9 y s,aj⟩;obtain⟨h,u,Q,A,nd,v,ca,rfl,z1,z2,w,x,z,B,z7⟩:=q c d;exact⟨⟨h,rfl,by show(h.size:Int)<=100;omega⟩,⟨u,rfl,w,x⟩,⟨gG Q,rfl,U⟩,⟨A,rfl,y⟩,aj,⟨v,rfl,z,B⟩,aj,aj⟩;exact ar;show Ai.LT 2 a;have:Gh.pre a/\(a.length:Int)=Gh.n:=⟨⟨a.length,Y⟩,rfl⟩;exact ar
mutual
def RW:CT->Bool|.aY bn _ _=>NB bn&&Nat.beq (jO bn) 0|.nm _=>Z|.tu=>Z|_=>aa
def NB:List CT->Bool|[]=>aa|Q::aR=>RW Q&&NB aR
end
mutual
theorem JO(b d:Gh):∀(Q:CT) {o:P},RW Q=aa->@CT.ok b Q o->@CT.ok d Q o
 |.int _ _ _,_,_,a=>a|.bool,_,_,a=>a|.str _,_,_,a=>a|.nil,_,_,a=>a|.any,_,_,a=>a|.em _,_,_,a=>a|.nm _,_,W,_=>by cases W
 |.tu,_,W,_=>by cases W
 |.aY bn aS E,o,W,a=>by simp only[RW,aq]at W;obtain⟨e,f,g,h,i,l⟩:=a;have j:=aK W.2;exact⟨e,f,g,h,λc k=>Dp b d bn W.1 (i c k),by rw[j];exact trivial⟩
theorem Dp(b c:Gh):∀(aR:List CT) {d:List P},NB aR=aa->@Row b aR d->@Row c aR d|[],[],_,_=>trivial|[],_::_,_,a=>a.elim|_::_,[],_,a=>a.elim|Q::aR,o::d,W,a=>by simp only[NB,aq]at W;exact⟨JO b c Q W.1 a.1,Dp b c aR W.2 a.2⟩
end
theorem ajo{a:List P}(b: @Row bA Ty.CX a):JE a:=λc=>Dp bA c _ aj b
theorem aiO{a:List P}(b: @Row bA Ty.Cf a):OB a:=λc=>Dp bA c _ aj b
def XQ:d6:=⟨27,[.t 4],z 1 [q 4 (.mv (.c aD))] (.seq (z 2 [G 5 1,q 6 (di .lss 5 0)] (.cond (.t 6) (rF 2 [q 7 .qm,oN .qm]) (.skip))) (.seq (z 8 [G 8 1,G 9 0,q 10 (.Fx (.t 9)),G 11 0,q 12 (fQ 11),q 13 (xB .sub 10 12),q 14 (xB .sub 8 13),G 1 14] (z 2 [G 15 1,q 16 (di .gtr 15 0)] (.cond (.t 16) (rF 10 [G 17 0,G 18 0,q 19 (.Fx (.t 18)),q 20 (.tZ 1 (.t 17) ae (J (.t 19)) ae),G 21 1,q 22 (.Ed 5 1 24 [aD] (.t 20) (.t 21)),G 23 0,q 24 (fQ 23),q 25 (.tZ 1 (.t 22) ae (J (.t 24)) ae),G 0 25]) (.skip)))) (z 2 [G 26 0,G 4 26] (.ret))))⟩
def amm:cW af Tryz.f161=J XQ:=h
def NE:av:=z 1 [q 12 (xB .lss 11 10)] (.seq (cX 12 0) (.seq (.block 1 (z 3 [q 13 (xI 1 9 11),oL 14 1 13,G 5 14] (z 5 [G 15 3,G 16 5,q 17 (fQ 16),q 18 (xB .add 15 17),G 3 18] (z 2 [G 19 3,q 20 (di .lss 19 0)] (.cond (.t 20) (rF 2 [q 21 .qm,oN .qm]) (.skip)))))) (rF 2 [q 22 (di .add 11 1),G 11 22])))
def I5:av:=z 1 [q 28 (xB .lss 27 26)] (.seq (cX 28 2) (.seq (.block 3 (z 3 [q 29 (xI 1 25 27),oL 30 1 29,G 8 30] (rF 4 [G 31 6,G 32 8,q 33 (jE 2 1 24 31 32),G 6 33]))) (rF 2 [q 34 (di .add 27 1),G 27 34])))
def ac0:d6:=⟨36,[.t 2],z 1 [q 2 (.mv (.c aD))] (z 1 [fR 3 0] (.seq (z 3 [G 9 0,q 10 (fQ 9),fR 11 0] (.block 0 (.loop NE))) (z 3 [G 23 3,q 24 (.call 161 [.c aD,.t 23]),G 6 24] (.seq (z 3 [G 25 0,q 26 (fQ 25),fR 27 0] (.block 2 (.loop I5))) (z 2 [G 35 6,G 2 35] (.ret))))))⟩
def ajG:cW af Tryz.f105=J ac0:=h
def anU{a:ah}{b:Nat}(l:n<=1000)(f:n=0->∀nx',b<=nx'->C (.p aD) a nx')(h:0<n->∀nx' id g,b<=id->id<nx'->C (.sl id g 0 0 1 Z) (am a id (J (.row 1 g (fL n [.p aD])))) nx'):
 X af 161 [.p aD,.p (I n)] a b C:=by
 refine X.of Y amm (by simp[XQ]) λm=>?_;have c:¬(n:Int)<0:=y;have d:cI.wrap 0=0:=eB;have e:cI.wrap (n:Int)=n:=iK y y;have o:cI.wrap ((n:Int)-0)=n:=by rw[Int.sub_zero];exact y
 by_cases i:n=0;subst i;simp(disch:=omega)[XQ,cN,binOp,aC,c,d,e,jK];exact .d8 bK y (f rfl _ y);have j:(0:Int)<n:=y;have k:0<n:=y;simp(disch:=omega)[-az,XQ,cN,binOp,aC,c,d,e,jK,j,k];exact⟨y,y,λg=>.d8 bK y (h y _ _ _ y y)⟩
def C5(a b:List (List P)):Nat->List (List P)|0=>[]|1=>a|_=>a++b
def zF(a:Nat):List (List P):=fL a [.v (.slice ae 0 0)]
structure CcA(p:P)(O:ah)(nx:Nat)(a b:List (List P))(n:Nat)(s:St)(i:Nat):Prop where
 n:n=2-i
 hi:i<=2
 h0:s.T 0=.p p
 h3:s.T 3=.p (I (C5 a b i).length)
 h9:s.T 9=.p p
 Gz:s.T 10=.p (I 2)
 h11:s.T 11=.p (I i)
 hO:s.O=O
 gp:nx<=s.nx
structure CcB(p:P)(O:ah)(nx:Nat)(a b:List (List P))(n:Nat)(s:St)(i:Nat):Prop where
 n:n=2-i
 hi:i<=2
 h25:s.T 25=.p p
 h26:s.T 26=.p (I 2)
 h27:s.T 27=.p (I i)
 val:(i=0/\a.length+b.length=0/\s.T 6=.p aD)\/∃id g,nx<=id/\s.T 6=.sl id g 0 (C5 a b i).length 1 Z/\s.O id=J (.row 1 g ((C5 a b i++zF (a.length+b.length-(C5 a b i).length)).map (·.map .p)))
 gp:nx<=s.nx
 fr:Fr s.O s.nx
 low:∀k,k<nx->s.O k=O k
theorem SQ{nm a:Nat}{b c:dh}{l ys:List (List P)}(f:e.ev b=.sl id g 0 l.length 1 Z)(h:e.O id=J (.row 1 g ((l++zF m).map (·.map .p))))(i:fO e.O 1 (e.ev c)=J (ys.map (·.map .p)))(r:ys.length<=m)(j:(l.length+ys.length)*a<=2^47)(k:l.length+ys.length<=2^47)(n:∀d,C (.sl id d 0 (l++ys).length 1 Z) (am e.O id (J (.row 1 d ((l++ys++zF (m-ys.length)).map (·.map .p))))) e.nx):aN bT (.j4 nm 1 a b c) e C:=by
 simp only[lB,i,f,h,d7];refine⟨Y,Y,Y,j,k,Y,?_⟩;by_cases o:m=0;subst o;grind;rw[ap (by simp[zF];omega)];refine⟨by simp[zF];omega,?_⟩;have:=n g;have p:List.take l.length ((l++zF m).map (·.map D.p))=l.map (·.map .p):=by rw[<-cD,List.take_left' rfl]
 have q:List.drop (l.length+ys.length) ((l++zF m).map (·.map D.p))=(zF (m-ys.length)).map (·.map .p):=by rw[<-nn,<-Cv,List.drop_left' rfl];simp[zF]
 rw[p,q];simpa using this
theorem TM{c a:List (List P)}{q:ah}{k:Nat}{s0:St}(W:Sl 1 o [[be],[aP]])(r:Sl 1 be c)(x:Sl 1 aP a)(S:c.length<=100)(V:a.length<=100)(X:CcB o q k c a 2 s0 0)(F:∀d,Fr d.O d.nx->k<=d.nx->(∀h,h<k->d.O h=q h)->jq d.O k 1 (c++a) (d.T 6)->bC (.exit 2) d):bx bT (.loop I5) s0 bC:=by
 have G:be.cells=[be]:=by cases r<;>simp[P.cells,aJ]
 have H:aP.cells=[aP]:=by cases x<;>simp[P.cells,aJ]
 have K:cI.wrap 1=1:=eB;have L:cI.wrap 2=2:=eB;refine⟨λn e=>∃i:Nat,CcB o q k c a n e i,ak,?_⟩;rintro n e ⟨i,rfl,E,s,t,b,u,ab,z,ac⟩;obtain rfl|rfl|rfl:i=0\/i=1\/i=2:=y;have b:e.T 27=.p (I 0):=b;simp(disch:=omega)[-az,-lB,I5,s,t,b,dm W,ft,ba,D.cells,P.cells,aJ,G,bI,binOp,aC,K];intro v;rcases u with⟨_,ht,p⟩|⟨id,g,f,p,j⟩
 obtain rfl:a=[]:=qh y;refine uI aj (by simpa using vV r) y y aw λid g f M A=>⟨1,y,1,y,y,ar,ar,Y,.inr ⟨id,g,f,aj,by simp[C5,zF,bi]⟩,aw,?_,λh C=>?_⟩;have:id<e.nx+1+3+4:=by rcases M with⟨rfl,_⟩|⟨_,N,_⟩;simp;simp[p]at N
 exact bK;exact aj;have Q:=z.lt j;refine SQ (id:=id) (g:=g) (l:=[]) (ys:=c) (m:=c.length+a.length) ar ar (by simpa using vV r) y dK dK λw A=>⟨1,y,1,y,y,ar,ar,Y,.inr ⟨id,w,f,aj,by simp[C5,bi]⟩,aw,?_,λh C=>?_⟩;exact bK;exact aj;have b:e.T 27=.p (I 1):=b;simp(disch:=omega)[-az,-lB,I5,s,t,b,dm W,ft,ba,D.cells,P.cells,aJ,H,bI,binOp,aC,L];intro v;rcases u with⟨R,_⟩|⟨id,g,f,p,j⟩
 omega;have Q:=z.lt j;refine SQ (id:=id) (g:=g) (l:=c) (ys:=a) (m:=a.length) ar (by simpa[C5]using j) (by simpa using vV x) y y y λw A=>⟨2,y,y,ar,ar,Y,.inr ⟨id,w,f,aj,by simp[C5,bi,zF]⟩,aw,?_,λh C=>?_⟩;exact bK;exact aj;have b:e.T 27=.p (I 2):=b;simp(disch:=omega)[-az,I5,s,t,b,binOp,aC];intro v;refine F {T:=eF e.T 28 (D.p (B Z)),O:=e.O,nx:=e.nx+1,bs:=e.nx,gm:=v} ?_ ?_ U ?_;exact bK;exact aw;rcases u with⟨R,_⟩|⟨id,g,f,p,j⟩
 omega;refine .inr ⟨id,g,f,ar,?_⟩;simpa[C5,zF]using j
theorem ad2{a c:List (List P)}{p:ah}{h:Nat}(W:Sl 1 o [[be],[aP]])(q:Sl 1 be a)(r:Sl 1 aP c)(A:a.length<=100)(B:c.length<=100)(G:∀nx' M K,h<=nx'->nz p h 1 (a++c) M K->Fr K nx'->C M K nx'):
 X af 105 [.p o] p h C:=by
 refine X.of Y ajG (by simp[ac0]) λH=>?_;have L:be.cells=[be]:=by cases q<;>simp[P.cells,aJ]
 have N:aP.cells=[aP]:=by cases r<;>simp[P.cells,aJ]
 simp(disch:=omega)[-az,ac0,cN,dO W];have O:cI.wrap 1=1:=eB;have Q:cI.wrap 2=2:=eB;intro gm;refine⟨λn e=>∃i:Nat,CcA o p h a c n e i,⟨2,0,rfl,y,Y,aj,Y,Y,Y,rfl,aw⟩,?_⟩;rintro n e ⟨i,rfl,E,j,d,k,v,f,w,ad⟩;obtain rfl|rfl|rfl:i=0\/i=1\/i=2:=y;have x:cI.wrap (a.length:Int)=a.length:=iK y y;have z:¬(a.length:Int)<0:=y;have d:e.T 3=.p (I 0):=d;have f:e.T 11=.p (I 0):=f;simp(disch:=omega)[-az,NE,j,d,k,v,f,w,dm W,ft,ba,D.cells,P.cells,aJ,L,bI,binOp,aC,dO q,x,z,O];intro R;exact⟨1,y,1,y,y,by simp[j],aj,by simp[k],ar,Y,rfl,aw⟩;have x:cI.wrap ((a.length:Int)+c.length)=a.length+c.length:=iK y y;have z:¬(a.length:Int)+c.length<0:=y;have d:e.T 3=.p (I a.length):=d;have f:e.T 11=.p (I 1):=f;simp(disch:=omega)[-az,NE,j,d,k,v,f,w,dm W,ft,ba,D.cells,P.cells,aJ,N,bI,binOp,aC,dO r,x,z,Q];intro R;exact⟨2,y,y,by simp[j],by simp[C5],by simp[k],ar,Y,rfl,aw⟩;have d:e.T 3=.p (I (a++c).length):=d;have f:e.T 11=.p (I 2):=f;simp(disch:=omega)[-az,NE,j,d,k,v,f,w,binOp,aC];have al:(0:Int)<=0:=y;have S:(a.length:Int)+c.length=((a.length+c.length:Nat):Int):=y;rw[S];have F:∀b:St,Fr b.O b.nx->h<=b.nx->(∀s,s<h->b.O s=p s)->jq b.O h 1 (a++c) (b.T 6)->ji h C b.O (b.nx+2) (b.T 6):=λb t u l m=>m.done H bK y l λag T V=>G _ _ _ y T V
 refine anU y (λhz ab hn ac=>?_) λhz ab id g an ao ac=>?_;rw[dO W];refine TM W q r A B ⟨rfl,y,Y,Y,Y,U,aw,?_,U⟩ λb t u l m=>⟨rfl,F b t u l m⟩;exact bK;rw[dO W];refine TM W q r A B ⟨rfl,y,Y,Y,Y,.inr ⟨id,g,y,aj,by simp[C5,bi,zF]⟩,aw,?_,λs hk=>?_⟩ λb t u l m=>⟨rfl,F b t u l m⟩;exact bK;exact aj
theorem Qb{b:ah}{c:Nat}{a:List (List P)}(d:Fr b c)(e:nz b c n a M ag):∃v,wR M ag (.p v) b/\Sl n v a:=by
 rcases e with⟨rfl,rfl,rfl⟩|⟨id,g,f,rfl,rfl⟩;exact⟨_,aj,aj⟩;refine⟨.im a n Z,.step id g n a Y ?_,aj⟩;have h:gx id g n a (.sl id g 0 a.length n Z)=.p (.im a n Z):=by simp[gx]
 have i:am (am b id (J (.row n g (a.map (·.map .p))))) id ae=b:=by rw[oS];funext k;by_cases j:k=id;subst j;rw[bi,d k f];exact U
 rw[h,i];exact aj
theorem abX[Gh]:bz af S62:=by
 refine .n rfl λg z C B j W k=>?_;obtain⟨o,D,rfl,d,l⟩:=Vs.cons j;obtain rfl:=Vs.nil l;obtain⟨h,m,n,p,i,E⟩:=d;obtain⟨a,b,rfl⟩:∃a b,h=[a,b]:=by match h,n,p with|[],c,_=>simp at c|[_],c,_=>simp at c|[a,b],_,_=>simp|_::_::_::_,_,c=>grind
 obtain⟨be,F,rfl,q,e⟩:=Row.cons (i a Y);obtain rfl:=Row.nil e;obtain⟨aP,G,rfl,r,f⟩:=Row.cons (i b Y);obtain rfl:=Row.nil f;obtain⟨s,d,H,I,L,N⟩:=q;obtain⟨A,t,O,P,Q,R⟩:=r;refine X.fr ⟨_,Tryz.func105,by rfl,by rfl⟩ λu=>?_;refine X.rW (ad2 m d t y y λnx' M K w x S=>?_);obtain⟨v,e,f⟩:=Qb u x;refine⟨.p v,g,e,k nx' [v] [.p v] g w ⟨⟨s++A,f,y,dK,?_,?_⟩,ar⟩ (by intro v T;grind) aj⟩;grind;exact ar
def YA:d6:=⟨10,[.t 4],z 1 [q 4 (.mv (.c aD))] (.seq (z 1 [G 5 0] (.cond (.t 5) (z 4 [q 6 (.bQ 0 1 1 [aF] [(0,.c (S ⟨#[116,101,110,97,110,116]⟩))]),G 7 1,q 8 (jE 2 1 16 6 7),G 4 8] (.ret)) (.skip))) (z 2 [G 9 1,G 4 9] (.ret)))⟩
def alZ:cW af Tryz.f167=J YA:=h
def ig{a:List (List P)}(b:Sl n o a):o.cells=[o]:=by cases b<;>simp[P.cells,aJ]
def uP{a:ByteArray}:P.cells (.v (.string a))=[.v (.string a)]:=rfl
def zh{a:IntKind}{b:Int}:P.cells (.v (.int a b))=[.v (.int a b)]:=rfl
def Cz{a:Bool}:P.cells (.v (.bool a))=[.v (.bool a)]:=rfl
def Fg:P.cells (.v (.slice ae n m))=[.v (.slice ae n m)]:=rfl
def BZ{a:List (List P)}{b:Bool}:P.cells (.im a n b)=[.im a n b]:=rfl
def dw{a:List P}:P.cells (.agg a)=a:=rfl
def uG:ByteArray:=⟨#[116,101,110,97,110,116]⟩
theorem Jj{has:Bool}{a:List (List P)}(i:Sl 1 v a)(n:a.length<=100){d:ah}{b:Nat}(e:∀nx' f,b<=nx'->Sl 1 f ((if has then [[S uG]] else [])++a)->C (.p f) d nx'):X af 167 [.p (B has),.p v] d b C:=by
 refine X.fr ⟨_,Tryz.func167,by rfl,by rfl⟩ λo=>?_;refine X.rW ?_;refine X.of Y alZ (by simp[YA]) λj=>?_;cases has with
 |false=>simp[YA,cN];exact .d8 bK y ⟨_,_,aj,e _ _ y ar⟩
 |true=>
  simp(disch:=omega)[-lB,YA,cN];intro p;refine BS.l ?_;simp only;simp(disch:=omega);simp only[vV i];refine⟨dK,dK,λh=>?_,λh g=>?_⟩;obtain rfl:a=[]:=by simpa using h
  exact .d8 bK y ⟨_,_,aj,e _ _ y aj⟩;have k:nz d b 1 ([S uG]::a) (.sl (b+1+1+2) g 0 ([S uG]::a).length 1 Z) (am d (b+1+1+2) (J (.row 1 g (([S uG]::a).map (·.map .p))))):=.inr ak;obtain⟨f,l,q⟩:=Qb j k;have m:1+(a.map λc=>c.map D.p).length=([S uG]::a).length:=dK;rw[m];exact .d8 bK y ⟨_,_,l,e _ _ y ar⟩
end Go.Dl
