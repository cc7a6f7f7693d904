import Derived.Test.YtaggkglfnbcjdaaGreatDoorCards
import Derived.Test.YtaggkglfnbcjdaaGreatDoorTie
import Derived.ProofKit
import Derived.OpenShut
import Derived.SizedLaws
import Derived.Deep.DeepHandedRow
import Derived.Test.YtaggkglfnbcjdaaGreatDoorQ16
set_option linter.all false
set_option maxRecDepth 1000000
set_option maxHeartbeats 40000000
namespace Go.Dl.Ai
end Go.Dl.Ai
namespace Go.Proofs
end Go.Proofs
namespace Ty
end Ty
open Bool renaming true->aa
open Go.Exit renaming ret->sP
open Go.Proofs.Tryz renaming prog->af
open Go.Value renaming oneCell'->aJ
open Option renaming some->J
open Go Go.Dl Go.Dl.Ai
variable {f:P}{d:World}{k:Nat}
namespace Go.Dl
open Go.Proofs Go.Dl.Ai
section
variable {g l:Nat}{q:CI}{h:Int}{i n o p:Nat}{j e:List P}{O:ah}{nx:Nat}{a c:St}{m:Exit->St->Prop}{size heard:Int}
theorem arn[Gh](k:VT.ok Ty.MG (.agg j))(q:VT.ok (.agg Ty.lU) (.agg e))(b:ES g l h i n o p j e a)(G:0<=h/\h<=4611686018416000000)(H:a.T 6=.p (I size))(K:a.T 7=.p (I heard))(r:∀c,c.T 2=.p (B aa)->a.nx<=c.nx->Fr c.O c.nx->m .ret c):bx (X af) YS a m:=by
 have t:=b.fr;have L:g<a.nx:=by obtain⟨_,_,u,_⟩:=b.st;exact t.lt u
 rw[show YS=.seq (.seq _ ad7) Qx from rfl];simp(disch:=omega)[b.t3];intro M;refine oq y b.st y y λN v O P w s=>?_;rw[show ad7=.cond (.t 29) _ .skip from rfl];cases v with|false=>simp(disch:=omega);refine afM (size:=size) (heard:=heard) k q (b.call (λx z=>?_) w s rfl aw) y ?_ ?_ λs2 d A f=>r s2 d ak f;exact cj;exact ar;exact ar|true=>simp(disch:=omega)[b.t3];intro Q;refine yu y y y s y y λR C S T _ _ V D=>?_;simp(disch:=omega)[akM,b.t3];refine yu y y y D y y λW E O4 ab _ _ e4 F=>?_;simp(disch:=omega)[afm];refine afM (size:=C) (heard:=E) k q (b.call (λx z=>?_) U F rfl aw) y Y Y λs2 d A f=>r s2 d ak f;exact cj
theorem asl[Gh](d:VT.ok Ty.MG (.agg j))(f:VT.ok (.agg Ty.lU) (.agg e))(b:ES g l h i n o p j e a)(z:0<=h/\h<=4611686018415000000)(k:∀c,c.T 2=.p (B aa)->a.nx<=c.nx->Fr c.O c.nx->m .ret c):bx (X af) YK a m:=by
 have q:=b.fr;have A:g<a.nx:=by obtain⟨_,_,r,_⟩:=b.st;exact q.lt r
 rw[show YK=.seq _ YS from rfl];simp(disch:=omega)[b.t3];intro C;refine .l ?_;refine IW Y Y Y b.st y y λE s F G H I t=>?_;simp(disch:=omega)[ajy,b.t3,fP,D.cells,P.cells,aJ,dp,dv];refine .l ?_;refine IW Y Y Y t y y λK u L M N O v=>?_;simp(disch:=omega)[ake];refine arn (size:=s) (heard:=u) d f (b.call (λQ R=>?_) U v rfl aw) y Y Y λs2 w S x=>k s2 w ak x;exact cj
theorem asb[Gh](p:VT.ok Ty.MG (.agg j))(E:a.T 3=.ptr g l 2 0 0)(F:a.T 4=.ptr i n 2 0 0)(t:a.O i=J (.row 2 n [j.map .p]))(u:fV g l h a.O)(f:Fr a.O a.nx)(v:i≠g)(hN:0<=h/\h<=4600000000000000000)(G:∀c,c.T 2=.p (B aa)->a.nx<=c.nx->Fr c.O c.nx->m .ret c):bx (X af) Xo a m:=by
 have nS:g<a.nx:=by obtain⟨_,_,q,_⟩:=u;exact f.lt q
 have H:=f.lt t;have I:=Dq p;have p6:cF (j.map .p)=.p (.agg j):=Y;have K:j.take 2=j:=ak;rw[show Xo=.seq _ YK from rfl,bF];intro k;refine⟨[i],?_⟩;simp(disch:=omega)[only,E,F,t,ba,I,<-cD,K,H,D.cells,P.cells,aJ,dp,dv];refine .l ?_;refine IW Y Y Y (u.aL (by simp[aX,dB v]):fV g l h (aX [i] a.O)) y y λab w O2 ac L e2 N=>?_;have ad:1<=w/\w<=9:=by simp at L;omega
 simp(disch:=omega)[alm];refine aiE p y y N y y λO o e ag x e3 Q=>?_;have z:∀d,d≠g->o d=aX [i] a.O d:=U;have A:e.length=2:=by obtain⟨_,_,_,_,q,_⟩:=Ga x;rw[q];rfl
 have R:D.cells (.p (.agg e))=e.map .p:=by simp[D.cells,dw]
 have S:bI [D.p aD,.p aD] (e.map .p) 0=e.map .p:=by simp[Dl.bI,A]
 simp(disch:=omega)[anD,R,S,A];have C:=adq (b:=.row 2 (k (a.nx+6)) [e.map .p]) z dK (show a.nx+6≠g by omega) (f _ y);have r:fV g l (h+1+1000000000000) (bp o (am (only [i] a.O) (a.nx+6) (J (.row 2 (k (a.nx+6)) [e.map .p])))):=Ou Q;have s:Fr (bp o (am (only [i] a.O) (a.nx+6) (J (.row 2 (k (a.nx+6)) [e.map .p])))) O:=frM (λd hk=>(z d y).trans (Mc f d y)) ((Ia bK).am y);revert C r s;generalize bp o (am (only [i] a.O) (a.nx+6) (J (.row 2 (k (a.nx+6)) [e.map .p])))=M;rintro⟨C,T⟩ r s;exact asl p x ⟨ar,ar,Y,ak,T,r,s,v,y⟩ y λs2 V k2 W=>G s2 V ak W
theorem aad(b:∀m:Gh,@CT.ok m qG f){K:D->ah->Nat->Prop}(n:∀a d,nx<=a->Fr d a->K (.p (B aa)) d a):X af 3 [.p f] O nx K:=by
 refine X.of Y arK (by simp[D3]) λF=>?_;have G:∀c,c.T 2=.p (B aa)->nx<=c.nx->Fr c.O c.nx->(sP=.normal\/sP=.ret)/\jt c D3.rs λo=>ji nx K c.O c.nx (aM o):=by intro c p e g;refine⟨Y,?_⟩;simp[D3,p];exact .d8 g e (n _ _ e g)
 obtain⟨h,q,_⟩:=b jo;have r:D.cells (.p f)=[.p f]:=by simp[D.cells,ie q]
 have s:cF [.p f,.p (I 0)]=.p (.agg [f,I 0]):=rfl;have t:D.cells (.p (.agg [f,I 0]))=[.p f,.p (I 0)]:=rfl;show bx _ (.seq _ (.seq _ (.seq _ Xo))) _ _;simp(disch:=omega)[cN,fh,r,bI,s,t];intro i H;have u:fV (nx+1+2) (i (nx+1+2)) 0 (am O (nx+1+2) (J (.row 2 (i (nx+1+2)) [[.p f,.p (I 0)]]))):=⟨f,0,Y,b,y,y⟩;refine ahB y u λL M j k v h N w l x z A P Q=>?_;letI:Gh:=KJ v h l;have C:=l.mg x z A;have E:D.cells (.p (.agg [j,k]))=[.p j,.p k]:=rfl;simp(disch:=omega)[amR,E,bI];exact asb C Y Y bi (w.aL Y) bK y y ak
end
end Go.Dl
namespace Go.Proofs.YtaggkglfnbcjdaaGreatDoor
open Go.ChangeShapes Go.WideShapes Go.ChangeAt Go.RowKit Go.Dl Go.Dl.Ai
def own:ownKnob af.godebug=none:=h
def agW:laidOutB af=aa:=h
def ajN:af.cellsOf 3=1:=h
def ajO:af.bytesOf 3=8:=h
def ahc{own:Nat->Prop}(r:∀g,¬own g){c:Addr}{i:Nat}{zs:List Int}(s:k<=i)(A:zs.length=i)(j:c.spot=none)(t:∃p,d.shape? c.block=J p)(u:∀a,a<zs.length->d.cell? (c.add a)=J (.int .i64 (zs.getD a 0))):P.rd (W d) own (.im ((zs.take k).map λl=>[I l]) 1 false) (.slice (J c) k i):=by
 refine⟨J c,k,i,rfl,dK,s,(λb=>by cases b),(λb=>by cases b),(λB b=>by cases b;exact j),.inr ?_⟩;obtain⟨g,off,C⟩:=c;have j:=j;subst j;obtain⟨p,h⟩:=t;simp[World.shape?]at h;cases m:d.heap[g]? with
 |none=>rw[m]at h;cases h
 |some v=>
  cases v with
  |cells o w x=>
   refine⟨⟨g,off,none⟩,o,w,x,rfl,rfl,r g,m,?_⟩;have y:=λa n=>by have:=u a n;rw[add_plain]at this;simpa[World.cell?,m]using this
   have z:∀(e:List Int) (f:Nat),(∀a,a<e.length->o[f+a]? =J (.int .i64 (e.getD a 0)))->P.jl (W d) own (λa=>o[a]?) f 1 (e.map λl=>[I l]):=by intro e;induction e with|nil=>exact λ_ _=>trivial|cons l e ih=>intro f b;refine⟨rfl,⟨⟨_,by simpa using b 0 Y,rfl,rfl⟩,trivial⟩,ih (f+1) λa n=>?_⟩;have:=b (a+1) dK;rw[show f+1+a=f+(a+1) by omega];simpa using this
   refine z _ off λa n=>?_;have q:a<k/\a<zs.length:=by rw[ud]at n;omega
   rw[y a q.2];simp[q.1]
  |_=>rw[m]at h;cases h
def agX{zs:List Int}(g:(k:Int)<=140737488355328)(d:∀a∈zs,(Lit.int .i64 a).wf=aa):∀b:Gh,@CT.ok b qG (.im ((zs.take k).map λa=>[I a]) 1 false):=by
 intro b;refine⟨_,.im _ false,y,by rw[d7,ud];omega,λh e=>?_,by simp[jO,Ai.LT]⟩;obtain⟨a,f,rfl⟩:=List.mem_map.1 e;have:=d a (List.mem_of_mem_take f);have c:=by simpa[Lit.wf,IntKind.has,IntKind.min,IntKind.max,IntKind.bits,IntKind.signed]using this
 exact⟨⟨a,rfl,c.1,c.2⟩,trivial⟩
def amM(a:Gh): @CT.ok a qG aD:=⟨[],.nil,Y,Y,Y,by simp[jO,Ai.LT]⟩
def Po{c:Value}(m:∀n:Gh,@CT.ok n qG f)(o:P.rd (W d) (λ_=>False) f c):
 Calls af 3 #[c] d λi b=>i=.returned (.bool aa)/\b.os=d.os/\b.output=d.output/\d.heap.size<=b.heap.size/\∀a,a<d.heap.size->b.heap[a]? =d.heap[a]? :=by
 have p:=aad (O:=λ_=>none) (nx:=0) m (K:=λj _ _=>j=.p (B aa)) (λ_ _ _ _=>rfl);refine(p.2 d ⟨λ_=>none,λ_=>0,λ_=>False⟩ #[c] ⟨(λ_ _ h=>by cases h),(λ_ _ _ h=>by cases h),λ_ h=>h.elim⟩ (λ_ _=>rfl) rfl ⟨⟨c,rfl,o⟩,trivial⟩).mono λi b q=>?_;obtain⟨t,u,j,v,w,rfl,rfl,e,_,g,_,_⟩:=q;have e:=e;subst e;have k:=λa r=>by have l:W d a=J d.heap[a]:=jb r;have s:=g.aL a _ l (λ⟨id,h,_⟩=>by cases h);exact(show b.heap[a]? =_ from s).trans (show d.heap[a]? =_ from l).symm
 refine⟨rfl,g.sm.os,g.sm.out,?_,k⟩;rcases uk b.heap.size d.heap.size with h|h
 have:=k b.heap.size h;rw[Array.getElem?_eq_none (bV _),jb h]at this;cases this;exact h
end Go.Proofs.YtaggkglfnbcjdaaGreatDoor
