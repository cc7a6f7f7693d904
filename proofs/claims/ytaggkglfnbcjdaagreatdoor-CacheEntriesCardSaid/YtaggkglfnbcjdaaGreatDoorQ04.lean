import Derived.Test.YtaggkglfnbcjdaaGreatDoorQ03
set_option linter.all false
set_option maxRecDepth 1000000
set_option maxHeartbeats 40000000
namespace Go.Dl.Ai
end Go.Dl.Ai
namespace Go.Proofs
end Go.Proofs
namespace Ty
end Ty
open BitVec renaming ofInt->iC
open Bool renaming false->Z,true->aa
open Go renaming IntKind->cY
open Go.IntKind renaming bits->m9,signed->rj,wrap->qW
open Go.Utf8 renaming encode->gY
open Int renaming ediv_le_ediv->Gw,ediv_le_self->BD,ediv_nonneg->tR,le_total->Bt,mul_ediv_add_emod->Hi,mul_le_mul->Jb,pow_pos->HZ,tmod_eq_emod_of_nonneg->Hv
open List renaming head?_map->HN,replicate->fL
open Nat renaming beq->au,ble->eY,blt->iM
open Option renaming none->ae,some->J
open Go Go.Dl Go.Dl.Ai
def ug:=@Int.mul_nonneg
def ON:=@Int.mul_le_mul_of_nonneg_right
def BO:=@Int.tmod_lt_of_pos
def BG:=@Int.tmod_nonneg
def HR:=@Int.lt_tmod_of_pos
def ml:=@Nat.blt_eq
def iP:=@Nat.lt_of_not_le
def Bm:=@Nat.le_of_lt
def tU:=@List.getElem?_cons_zero
def nn:=@List.map_drop
def cD:=@List.map_take
variable {aB:Type}{g j:dh}{a e b:E}{d:D}{K:Nat->Int}{n t id r s:Nat}{O aP R ag:List F}{v L I:Int}{l:Prop}{Q:BinOp}{ab aR:AB}{gu:fg}{u:List (List P)}{w:List A}{x o:List CT}{i:List P}{N:Bool}
namespace Go.Dl.Ai
section
variable [Gh]
def dQ{b:Nat}{c:aB}{d:List (Nat×aB)}{a:Nat}:aQ ((b,c)::d) a=if b=a then J c else aQ d a:=by simp only[aQ];simp
def zK{a:List Nat}{b:Nat}:iw a b=aa↔b∈a:=by induction a with|nil=>simp[iw]|cons c i ih=>simp only[iw];by_cases d:c=b;exact U;exact EA
structure Fm where
 n0:Nat
 N0:Nat->Prop
 O0:ah
structure C where
 T:Nat->D
 bs:Nat
 nx:Nat
 X:ah
 Y:ah
def yV(a:AS)(b:Nat->Int)(c:Nat->Option Nat)(M:ah):bE:=⟨a.ns,a.nb,b,c,aQ a.H,M⟩
def kP(a:AS)(b:Bool)(c:Nat):Bool:=iw a.W c==b
structure GP(σ:AS)(V:bE):Prop where
 vn:V.n=σ.ns
 vb:V.nb=σ.nb
 vH:V.H=aQ σ.H
 gz:V.ρ 0=0/\V.ρ 1=Gh.n
 pS:1<σ.ns
 facts:∀f∈σ.G,f.x<σ.ns/\f.y<σ.ns/\(True->f.ok V.ρ)
def GP.z{b:AS}{a:bE}(c:GP b a):a.ρ 0=0:=c.gz.1
def GP.pos{a:AS}{b:bE}(c:GP a b):0<a.ns:=Nat.lt_trans y c.pS
structure GM(fm:Fm)(fl:Bool)(σ:AS)(V:bE)(c:C):Prop where
 m:∀id,V.M id=bp c.X c.Y id
 dj:zH c.X c.Y
 heap:∀b ab,aQ σ.H b=J ab->b<σ.nb/\wG V b ab
 yn:∀b id,(V.H b).isSome=aa->V.ν b=J id->(kP σ fl b=aa->c.Y id=ae)/\(kP σ fl b=Z->c.X id=ae)
 inj:∀b b' id,(V.H b).isSome=aa->(V.H b').isSome=aa->V.ν b=J id->V.ν b'=J id->b=b'
 own:∀b id,(V.H b).isSome=aa->V.ν b=J id->V.M id≠ae/\(fm.n0<=id\/fm.N0 id)
 frame:∀id,id<fm.n0->¬fm.N0 id->V.M id=fm.O0 id
 free:∀nm,nm<σ.iz->nm∉σ.used->V.M (c.bs+nm)=ae
 room:c.bs+σ.iz<=c.nx
 base:fm.n0<=c.bs
 ss:∀b id,(V.H b).isSome=aa->b<σ.rb->V.ν b=J id->id<c.bs
 fr:∀id,c.nx<=id->V.M id=ae
 rb:σ.rb<=σ.nb
 wB:∀b∈σ.W,b<σ.nb
structure GS(fm:Fm)(fl:Bool)(σ:AS)(V:bE)(c:C):Prop where
 p:GP σ V
 je:∀k a,aQ σ.T k=J a->gX V a (c.T k)
 m:GM fm fl σ V c
def GP.hf{b:AS}{c:bE}(d:GP b c):∀a∈b.G,a.ok c.ρ:=λa hf=>(d.facts a hf).2.2 Y
def wG.grow{b f:bE}(g:cM b f){c:Nat}{h:AB}(m:f.ν c=b.ν c)(v:∀id,b.ν c=J id->f.M id=b.M id)(a:wG b c h):wG f c h:=by
 cases h with
 |row w=>obtain⟨id,n,r,p,k,i,d,q⟩:=a;exact⟨id,n,r,p,U,U,d,cd.grow g q⟩
 |map t=>obtain⟨id,r,s,k,i,d⟩:=a;exact⟨id,r,s,U,U,d⟩
 |rows o e=>obtain⟨j,a⟩:=a;refine⟨bw j g.n,?_⟩;rw[m];cases l:b.ν c with|none=>rw[l]at a;simp at a⊢;rw[E.jM g j];exact a|some id=>rw[l]at a;obtain⟨r,u,k,i,d⟩:=a;exact⟨r,u,U,by rw[E.jM g j];exact i,d⟩
def bE.gF(a:bE)(b:Int):bE:={a with n:=a.n+1,ρ:=λg=>if g=a.n then b else a.ρ g}
theorem bE.j7(a:bE)(b:Int):cM a (a.gF b):=⟨i0,i0,λg c=>by simp[bE.gF,Nat.ne_of_lt c],λ_ _ d=>⟨d,rfl,aj⟩⟩
def GM.grow{fm:Fm}{fl:Bool}{a d:AS}{e f:bE}{c:C}(h:GM fm fl a e c)(l:cM e f)(hH:d.H=a.H)(i:f.H=e.H)(BQ:f.ν=e.ν)(g:f.M=e.M)(M9:d.nb=a.nb)(j:d.rb=a.rb)(hc:d.iz=a.iz)(n:d.used=a.used)(k:d.W=a.W):GM fm fl d f c where
 m id:=by rw[g];exact h.m id
 dj:=h.dj
 heap b ab hb:=by rw[hH]at hb;obtain⟨h1,h2⟩:=h.heap b ab hb;exact⟨y,h2.grow l (by rw[BQ]) U⟩
 yn b id:=by rw[i,BQ];have:=h.yn b id;simpa[kP,k]using this
 inj b b' id:=by rw[i,BQ];exact h.inj b b' id
 own b id:=by rw[i,BQ,g];exact h.own b id
 frame id:=by rw[g];exact h.frame id
 free nm h1 h2:=by rw[g];rw[hc]at h1;rw[n]at h2;exact h.free nm h1 h2
 room:=by rw[hc];exact h.room
 base:=h.base
 ss b id:=by rw[i,BQ,j];exact h.ss b id
 fr id:=by rw[g];exact h.fr id
 rb:=by rw[j,M9];exact h.rb
 wB:=by rw[k,M9];exact h.wB
theorem GP.fresh{b:AS}{a:bE}(h:GP b a)(c:Int){d:List F}(hl:∀f∈d,f.x<=b.ns/\f.y<=b.ns)(hf:∀f∈d,f.ok (a.gF c).ρ):GP (b.fresh d) (a.gF c) where
 vn:=by simp[bE.gF,AS.fresh,h.vn]
 vb:=h.vb
 vH:=h.vH
 gz:=by have:=h.pS;have e:=h.vn;have h0:¬(0=a.n):=y;have h1:¬(1=a.n):=y;simp[bE.gF,h0,h1,h.gz]
 pS:=by have:=h.pS;exact i0
 facts:=by
  intro f hm;simp only[AS.fresh]at hm⊢;rcases Gs.tH hm with hm|hm
  grind;obtain⟨h1,h2,h3⟩:=h.facts f hm;refine⟨y,y,λ_=>?_⟩;have:=h3 trivial;unfold F.ok at this⊢;rw[(bE.j7 a c).ρ _ (by rw[h.vn];exact h1),(bE.j7 a c).ρ _ (by rw[h.vn];exact h2)];omega
variable {y:Fm}{z:Bool}{q:AS}{c:bE}{B:C}
def GS.fresh(h:GS y z q c B)(b:Int){d:List F}(hl:∀f∈d,f.x<=q.ns/\f.y<=q.ns)(e:∀f∈d,f.ok (c.gF b).ρ):GS y z (q.fresh d) (c.gF b) B where
 p:=h.p.fresh b hl e
 je k a hk:=(h.je k a hk).grow (bE.j7 c b)
 m:=h.m.grow (bE.j7 c b) rfl rfl rfl rfl rfl rfl rfl rfl rfl
theorem GS.facts(h:GS y z q c B){a:List F}(b:fx q.ns c.ρ a True):GS y z (q.facts a) c B where
 p:=⟨h.p.vn,h.p.vb,h.p.vH,h.p.gz,h.p.pS,by
  intro f hm;rcases Gs.tH hm with hm|hm
  exact aj;exact h.p.facts f hm⟩
 je:=h.je
 m:=h.m.grow (cM.refl c) rfl rfl rfl rfl rfl rfl rfl rfl rfl
def GS.aeR(a:GS y z q c B)(b:List Nat):GS y z {q with ow:=b} c B:=⟨⟨a.p.vn,a.p.vb,a.p.vH,a.p.gz,a.p.pS,a.p.facts⟩,a.je,⟨a.m.m,a.m.dj,a.m.heap,a.m.yn,a.m.inj,a.m.own,a.m.frame,a.m.free,a.m.room,a.m.base,a.m.ss,a.m.fr,a.m.rb,a.m.wB⟩⟩
def jS(d:Fm)(e:Bool)(f:A->AS->Bool)(g:bE)(h:C)(i:D)(j:ah)(k:Nat):Prop:=∃a c b,f a c=aa/\GS d e c b {h with X:=j,nx:=k}/\cM g b/\gX b a i
abbrev uL(b:Fm)(c:Bool)(d:A->AS->Bool)(e:bE)(a:C)(f:D):Prop:=jS b c d e a f a.X a.nx
def jS.ce{b:A->AS->Bool}{a:A}(e:b a q=aa)(f:GS y z q c B)(g:gX c a d):uL y z b c B d:=⟨a,q,c,e,f,cM.refl c,g⟩
def jS.grow{b:A->AS->Bool}{e:bE}{f:ah}{g:Nat}(h:cM c e)(i:jS y z b e B d f g):jS y z b c B d f g:=by obtain⟨a,j,k,l,m,n,o⟩:=i;exact⟨a,j,k,l,m,h.trans n,o⟩
def qg(b:e.x<c.n)(a:Int):e.val (c.gF a).ρ=e.val c.ρ:=E.jM (bE.j7 c a) b
def WC(a:Int):(⟨c.n,0⟩:E).val (c.gF a).ρ=a:=by simp[E.val,bE.gF]
def nM(c:a.val K<=b.val K):(dq a b).ok K:=by unfold E.val at c;unfold dq F.ok;exact aw
def dW{a:Int}(b:GP q c):(num a).val c.ρ=a:=by simp[E.val,num,b.z]
end
section
variable [Gh]
variable {h:Fm}{k:Bool}{f:AS}{c:bE}{m:C}
def LF(c:Nat)(d:Nat->Int)(e:List F):Prop:=∀f∈e,∃a b:E,f=dq a b/\a.x<=c/\b.x<=c/\a.val d<=b.val d
def LF.nil:LF n K []:=λb a=>by cases a
theorem LF.cons(d:a.x<=n)(e:b.x<=n)(f:a.val K<=b.val K)(g:LF n K O):LF n K (dq a b::O):=λh c=>by rcases bt.1 c with rfl|c;grind;exact aj
theorem LF.append(b:LF n K O)(c:LF n K aP):LF n K (O++aP):=λd a=>by rcases bg.1 a with a|a;exact aj;exact aj
theorem LF.fresh{d:Int}{i:List F}(l:GS h k f c m)(j:LF f.ns (c.gF d).ρ i):GS h k (f.fresh i) (c.gF d) m:=by refine l.fresh d (λe g=>?_) (λe g=>?_);obtain⟨a,b,rfl,o,p,_⟩:=j e g;exact aj;obtain⟨a,b,rfl,_,_,n⟩:=j e g;exact nM n
def Un(c:Fm)(d:Bool)(f:E->AS->Bool)(g:bE)(h:C)(i:Int):Prop:=∃e b a,f e b=aa/\GS c d b a h/\cM g a/\e.x<a.n/\e.val a.ρ=i
def qv{d:E->List F}{e:E->AS->Bool}(b:GS h k f c m)(g:Bk f d e=aa)(a:Int)(i:LF f.ns (c.gF a).ρ (d ⟨f.ns,0⟩)):Un h k e c m a:=⟨⟨f.ns,0⟩,_,_,g,i.fresh b,c.j7 a,by simp[bE.gF,b.p.vn],by rw[<-b.p.vn];exact WC a⟩
def Un.FN{a:E->AS->Bool}(b:a e f=aa)(d:GS h k f c m)(g:e.x<c.n)(i:e.val c.ρ=v):Un h k a c m v:=⟨e,f,c,b,d,cM.refl c,g,i⟩
def nG(a:GS h k f c m)(b:e.x<c.n):e.x<=f.ns:=by have:=a.p.vn;omega
def lA{a:Int}(b:GS h k f c m):(num a).val (c.gF v).ρ=a:=by
 have d:(num a).x<c.n:=by have:=b.p.vn;have:=b.p.pos;simp[num];omega
 rw[qg d,dW b.p]
def dG(a:GS h k f c m):(⟨f.ns,0⟩:E).val (c.gF v).ρ=v:=by rw[<-a.p.vn];exact WC v
theorem LZ{a:Int}(b:GS h k f c m):(⟨f.ns,a⟩:E).val (c.gF v).ρ=v+a:=by have:=dG (v:=v) b;unfold E.val at this⊢;grind
def yw{n:Int}(b:GS h k f c m)(a:e.x<c.n):(⟨e.x,e.c+n⟩:E).val (c.gF v).ρ=e.val c.ρ+n:=by have:=qg a v;unfold E.val at this⊢;exact aw
def J6{a:Int}(b:GS h k f c m)(d:e.x<c.n):(⟨e.x,e.c-a⟩:E).val (c.gF v).ρ=e.val c.ρ-a:=by have:=yw (n:= -a) (v:=v) b d;exact ar
def Dy(a:GS h k f c m)(b:L<=v)(d:v<=I):LF f.ns (c.gF v).ρ (UD L I ⟨f.ns,0⟩):=LF.cons (by simp[num]) aw (by rw[lA a,dG a];exact b) (LF.cons aw (by simp[num]) (by rw[lA a,dG a];exact d) LF.nil)
def VP{p:E->AS->Bool}(d:GS h k f c m)(j:a.x<c.n)(l:b.x<c.n)(i:Xr f a b p=aa):Un h k p c m (a.val c.ρ+b.val c.ρ):=by unfold Xr at i;split at i;rename_i e;have e:=aK e;exact .FN i d j (by simp[E.val,e,d.p.z];omega);split at i;rename_i e;have e:=aK e;exact .FN i d l (by simp[E.val,e,d.p.z];omega);refine qv d i _ ?_;have o:=d.p.hf;refine LF.append (LF.append (LF.append ?_ ?_) ?_) ?_;split;rename_i n g;have:=qB o d.p.z g;exact LF.cons (nG d j) aw (by rw[yw d j,dG d];omega) LF.nil;exact LF.nil;split;rename_i n g;have:=qn o d.p.z g;exact LF.cons aw (nG d j) (by rw[yw d j,dG d];omega) LF.nil;exact LF.nil;split;rename_i n g;have:=qB o d.p.z g;exact LF.cons (nG d l) aw (by rw[yw d l,dG d];omega) LF.nil;exact LF.nil;split;rename_i n g;have:=qn o d.p.z g;exact LF.cons aw (nG d l) (by rw[yw d l,dG d];omega) LF.nil;exact LF.nil
def EO{o:E->AS->Bool}(d:GS h k f c m)(j:a.x<c.n)(p:b.x<c.n)(i:OD f a b o=aa):Un h k o c m (a.val c.ρ-b.val c.ρ):=by unfold OD at i;split at i;rename_i e;have e:=aK e;exact .FN i d j (by simp[E.val,e,d.p.z];omega);split at i;rename_i e;have e:=aK e;exact .FN i d (by have:=d.p.vn;have:=y;simp[num];omega) (by rw[dW d.p];simp[E.val,e];omega);refine qv d i _ ?_;have l:=d.p.hf;refine LF.append (LF.append (LF.append ?_ ?_) ?_) ?_;split;rename_i n g;have:=qB l d.p.z g;exact LF.cons aw (nG d j) (by rw[J6 d j,dG d];omega) LF.nil;exact LF.nil;split;rename_i n g;have:=qn l d.p.z g;exact LF.cons (nG d j) aw (by rw[J6 d j,dG d];omega) LF.nil;exact LF.nil;split;rename_i n g;have:=yC l g;exact LF.cons aw (by simp[num]) (by rw[lA d,dG d];unfold E.val;omega) LF.nil;exact LF.nil;split;rename_i n g;have:=yC l g;exact LF.cons (by simp[num]) aw (by rw[lA d,dG d];unfold E.val;omega) LF.nil;exact LF.nil
def yo{kd:cY}{a:A->AS->Bool}(b:GS h k f c m)(d:nH kd f L I a=aa)(g:L<=v)(i:v<=I):uL h k a c m (.p (.v (.int kd v))):=by obtain⟨e,j,l,n,o,p,q,r⟩:=qv b d v (Dy b g i);exact⟨_,j,l,n,o,p,q,by rw[r]⟩
def Ko(kd:cY)(a:Int):wU kd<=kd.wrap a/\kd.wrap a<=uR kd:=by cases kd<;>simp[wU,uR,qW,m9,rj]<;>(try split)<;>omega
def J3{kd:cY}{a:Int}(b:wU kd<=a)(c:a<=uR kd):kd.wrap a=a:=by cases kd<;>simp[wU,uR,qW,m9,rj] at* <;>(try split)<;>omega
theorem Dv{kd:cY}{g:A->AS->Bool}(a:GS h k f c m)(l:e.x<c.n)(b:EK kd f e g=aa):uL h k g c m (.p (.v (.int kd (kd.wrap (e.val c.ρ))))):=by unfold EK at b;split at b;rename_i d;simp[aq]at d;have i:=dP a.p.hf d.1;have j:=dP a.p.hf d.2;rw[dW a.p]at i j;rw[J3 i j];exact .ce b a aj;exact yo a b (Ko kd _).1 (Ko kd _).2
def rR{e:A->AS->Bool}{b:Bool}(a:GS h k f c m)(g:Cc f R ag e=aa)(j:fx f.ns c.ρ R (b=aa))(l:fx f.ns c.ρ ag (b=Z)):uL h k e c m (.p (B b)):=by
 have d:cM c (c.gF (if b then 1 else 0)):=c.j7 _;refine⟨_,_,c.gF (if b then 1 else 0),g,?_,d,?_⟩;have i:LF f.ns (c.gF (if b then 1 else 0)).ρ [dq (num 0) ⟨f.ns,0⟩,dq ⟨f.ns,0⟩ (num 1)]:=LF.cons (by simp[num]) aw (by rw[lA a,dG a];omega) (LF.cons aw (by simp[num]) (by rw[lA a,dG a];omega) LF.nil)
 exact i.fresh a;have n:=fx.grow d (by rw[a.p.vn];exact j);have o:=fx.grow d (by rw[a.p.vn];exact l);refine⟨by simp[bE.gF,a.p.vn],b,rfl,?_,n,o⟩;rw[<-a.p.vn];simp[bE.gF]
def fx.le(d:a.x<n)(e:b.x<n)(f:l->a.val K<=b.val K):fx n K [dq a b] l:=by intro g c;rw[bD]at c;subst c;exact⟨d,e,λW=>nM U⟩
def fx.nil:fx n K [] l:=λb a=>by cases a
theorem fx.append(b:fx n K O l)(c:fx n K aP l):fx n K (O++aP) l:=λd a=>by rcases bg.1 a with a|a;exact aj;exact aj
def Es{g i b:Bool}{j:A->AS->Bool}(d:GS h k f c m)(a:FF f R ag g i j=aa)(l:g=aa->b=aa)(n:i=aa->b=Z)(o:fx f.ns c.ρ R (b=aa))(p:fx f.ns c.ρ ag (b=Z)):uL h k j c m (.p (B b)):=by unfold FF at a;split at a;rename_i e;rw[l e];exact .ce a d rfl;split at a;rename_i e;rw[n e];exact .ce a d rfl;exact rR d a o p
def ju{b:Int}:(⟨a.x,a.c+b⟩:E).val K=a.val K+b:=by unfold E.val;exact aw
theorem aaF{j:A->AS->Bool}(d:GS h k f c m)(g:a.x<c.n)(i:b.x<c.n)(l:ltB f a b j=aa):uL h k j c m (.p (B (decide (a.val c.ρ<b.val c.ρ)))):=by rw[d.p.vn]at g i;refine Es d l (λe=>?_) (λe=>?_) (fx.le g i λe=>?_) (fx.le i g λe=>?_);have:=dP d.p.hf e;rw[ju]at this;grind;have:=dP d.p.hf e;exact U;rw[ju];grind;grind
theorem Zd{j:A->AS->Bool}(d:GS h k f c m)(g:a.x<c.n)(i:b.x<c.n)(l:leB f a b j=aa):uL h k j c m (.p (B (decide (a.val c.ρ<=b.val c.ρ)))):=by rw[d.p.vn]at g i;refine Es d l (λe=>?_) (λe=>?_) (fx.le g i λe=>?_) (fx.le i g λe=>?_);have:=dP d.p.hf e;exact U;have:=dP d.p.hf e;rw[ju]at this;grind;grind;rw[ju];grind
def ZV(d:GS h k f c m)(g:a.x<c.n)(i:b.x<c.n)(W:l->a.val c.ρ≠b.val c.ρ):fx f.ns c.ρ (neF f.G a b) l:=by
 rw[d.p.vn]at g i;refine fx.append ?_ ?_;split;rename_i e;have:=dP d.p.hf e;exact fx.le g i λj=>by have:=W j;rw[ju];omega
 exact fx.nil;split;rename_i e;have:=dP d.p.hf e;exact fx.le i g λj=>by have:=W j;rw[ju];omega
 exact fx.nil
def adn(g:GS h k f c m)(d:a.x<c.n)(e:b.x<c.n)(W:l->a.val c.ρ=b.val c.ρ):fx f.ns c.ρ [dq a b,dq b a] l:=by rw[g.p.vn]at d e;exact fx.append (fx.le d e U) (fx.le e d U)
theorem am5{g:A->AS->Bool}(d:GS h k f c m)(i:a.x<c.n)(j:b.x<c.n)(l:eqB f a b g=aa):uL h k g c m (.p (B (a.val c.ρ==b.val c.ρ))):=by
 refine Es d l (λe=>?_) (λe=>?_) (adn d i j ak) (ZV d i j ak);simp[aq]at e;have n:=dP d.p.hf e.1;have o:=dP d.p.hf e.2;grind;simp[fA]at e;rcases e with e|e
 have:=dP d.p.hf e;rw[ju]at this;grind;have:=dP d.p.hf e;rw[ju]at this;grind
theorem ajD{g:A->AS->Bool}(d:GS h k f c m)(i:a.x<c.n)(j:b.x<c.n)(l:neB f a b g=aa):uL h k g c m (.p (B (a.val c.ρ !=b.val c.ρ))):=by
 refine Es d l (λe=>?_) (λe=>?_) (ZV d i j ak) (adn d i j ak);simp[fA]at e;rcases e with e|e
 have:=dP d.p.hf e;rw[ju]at this;grind;have:=dP d.p.hf e;rw[ju]at this;grind;simp[aq]at e;have n:=dP d.p.hf e.1;have o:=dP d.p.hf e.2;grind
end
section
variable [Gh]
variable {h:Fm}{k:Bool}{f:AS}{c:bE}{m:C}
def sM{kd:cY}{a:Int}{b:A->AS->Bool}(d:GS h k f c m)(e:nH kd f (wU kd) (uR kd) b=aa):uL h k b c m (.p (.v (.int kd (kd.wrap a)))):=yo d e (Ko kd a).1 (Ko kd a).2
def aaM(kd:cY):wU kd<=0:=by cases kd<;>simp[wU,m9,rj]
def aly{kd:cY}{a b:Int}(c:0<=b)(d:b<=uR kd):0<=kd.wrap (iC kd.bits a&&&iC kd.bits b).toNat/\kd.wrap (iC kd.bits a&&&iC kd.bits b).toNat<=b:=by
 have e:(iC kd.bits b).toNat=b.toNat:=by
  rw[BitVec.toNat_ofInt];have:b%(2^kd.bits:Nat)=b:=by refine Int.emod_eq_of_lt c ?_;revert d;cases kd<;>simp[uR,m9]<;>omega
  rw[this]
 have f:(iC kd.bits a&&&iC kd.bits b).toNat<=b.toNat:=by rw[BitVec.toNat_and,e];exact Nat.and_le_right
 have:=aaM kd;rw[J3 y y];omega
theorem Of{kd:cY}{Y:A->AS->Bool}(g:GS h k f c m)(n:a.x<c.n)(o:b.x<c.n)(d:BN Q kd f a b Y=aa):
 aC Q kd (a.val c.ρ) (b.val c.ρ) λl=>uL h k Y c m (.p l):=by
 have i:=g.p.hf;have j:=g.p.z;have ag:=aaM kd;cases Q with
 |add=>simp only[BN]at d;obtain⟨e,t,u,S,T,p,r,s⟩:=VP g n o d;have:=Dv T r S;rw[s]at this;exact jS.grow p ar
 |sub=>simp only[BN]at d;obtain⟨e,t,u,S,T,p,r,s⟩:=EO g n o d;have:=Dv T r S;rw[s]at this;exact jS.grow p ar
 |mul=>
  simp only[BN]at d;simp only[aC];split at d;rename_i D U F L w G x z;split at d;rename_i v;simp only[aq,dJ]at v;have M:=qB i j w;have N:=qn i j G;have O:=qB i j x;have P:=qn i j z;have m1:D*F<=a.val c.ρ*b.val c.ρ:=Jb M O y y;have m2:a.val c.ρ*b.val c.ρ<=U*L:=Jb N P y y;have m3:0<=D*F:=ug y y;rw[J3 y y];obtain⟨e,t,u,p,r,s,B,C⟩:=qv g d (a.val c.ρ*b.val c.ρ) (by refine LF.append (Dy g m1 m2) (LF.append ?_ ?_);split;rename_i H;simp only[dJ]at H;refine LF.cons (nG g n) aw ?_ LF.nil;rw[dG g,qg n];have:=Int.mul_le_mul_of_nonneg_left (show 1<=b.val c.ρ by omega) (show 0<=a.val c.ρ by omega);omega;exact LF.nil;split;rename_i ac;simp only[dJ]at ac;refine LF.cons (nG g o) aw ?_ LF.nil;rw[dG g,qg o];have:=ON (show 1<=a.val c.ρ by omega) (show 0<=b.val c.ρ by omega);omega;exact LF.nil)
  exact⟨_,t,u,p,r,s,B,by rw[C]⟩;exact sM g d;exact sM g d
 |quo=>
  simp only[BN]at d;simp only[aC];split at d;rename_i F x;have O:=qB i j x;split at d;rename_i H;simp only[dJ]at H;refine⟨y,?_⟩;split at d;rename_i D U w G;split at d;rename_i v;simp only[aq,dJ]at v;have M:=qB i j w;have N:=qn i j G;have V:(a.val c.ρ).tdiv (b.val c.ρ)=a.val c.ρ/b.val c.ρ:=ak;have I:0<=a.val c.ρ/b.val c.ρ:=tR y y;have R:a.val c.ρ/b.val c.ρ<=a.val c.ρ:=BD _ y;rw[V,J3 y y];obtain⟨e,t,u,p,r,s,B,C⟩:=qv g d (a.val c.ρ/b.val c.ρ) (by
   refine LF.append (LF.append (Dy g I y) (LF.cons aw (nG g n) (by rw[dG g,qg n];exact R) LF.nil)) ?_;split;rename_i X;have X:=aK X;have ad:b.val c.ρ=b.c:=by simp[E.val,X,j]
   refine LF.cons aw (by simp[num]) ?_ LF.nil;rw[dG g,lA g,ad];exact Gw y N;exact LF.nil)
  exact⟨_,t,u,p,r,s,B,by rw[C]⟩;exact sM g d;exact sM g d;split at d;rename_i K;unfold anW at K;split at K;rename_i L z;have P:=qn i j z;simp only[dJ]at K;exact⟨y,sM g d⟩;grind;grind;grind
 |rem=>
  simp only[BN]at d;simp only[aC];split at d;rename_i F x;have O:=qB i j x;split at d;rename_i H;simp only[dJ]at H;refine⟨y,?_⟩;have al:(a.val c.ρ).tmod (b.val c.ρ)<b.val c.ρ:=BO _ y;split at d;rename_i D w;have M:=qB i j w;split at d;rename_i v;simp only[dJ]at v;have I:0<=(a.val c.ρ).tmod (b.val c.ρ):=BG _ y;have R:(a.val c.ρ).tmod (b.val c.ρ)<=a.val c.ρ:=by rw[Hv y];have:=Hi (a.val c.ρ) (b.val c.ρ);have:0<=b.val c.ρ*(a.val c.ρ/b.val c.ρ):=ug y (tR y y);omega
  obtain⟨e,t,u,p,r,s,B,C⟩:=qv g d ((a.val c.ρ).tmod (b.val c.ρ)) (by refine LF.cons (by simp[num]) aw (by rw[lA g,dG g];exact I) (LF.cons aw (nG g o) (by rw[qg o];show(⟨f.ns,0+1⟩:E).val _<=_;rw[LZ g];omega) (LF.cons aw (nG g n) (by rw[dG g,qg n];exact R) LF.nil)))
  exact⟨_,t,u,p,r,s,B,by rw[C]⟩;rename_i K;simp only[dJ]at K;have an: -(b.val c.ρ)<(a.val c.ρ).tmod (b.val c.ρ):=by have:=HR (a.val c.ρ) (show 0<b.val c.ρ by omega);omega
  have ao:a.val c.ρ<=(a.val c.ρ).tmod (b.val c.ρ)\/0<=(a.val c.ρ).tmod (b.val c.ρ):=by rcases Bt 0 (a.val c.ρ)with ab|ab;exact .inr (BG _ ab);left;have e:=Int.neg_tmod (-(a.val c.ρ)) (b.val c.ρ);rw[Int.neg_neg]at e;rw[e];have hn:0<=-(a.val c.ρ):=y;rw[Hv hn];have:=Hi (-(a.val c.ρ)) (b.val c.ρ);have:0<=b.val c.ρ*(-(a.val c.ρ)/b.val c.ρ):=ug y (tR hn y);omega
  obtain⟨e,t,u,p,r,s,B,C⟩:=qv g d ((a.val c.ρ).tmod (b.val c.ρ)) (by refine LF.append (LF.cons aw (nG g o) (by rw[qg o];show(⟨f.ns,0+1⟩:E).val _<=_;rw[LZ g];omega) LF.nil) ?_;split;rename_i L z;have P:=qn i j z;exact LF.cons (by simp[num]) aw (by rw[lA g,dG g];omega) LF.nil;exact LF.cons (by simp[num]) aw (by rw[lA g,dG g];omega) LF.nil)
  exact⟨_,t,u,p,r,s,B,by rw[C]⟩;grind;grind;grind
 |and=>simp only[BN]at d;simp only[aC];split at d;rename_i F L x z;have O:=qB i j x;have P:=qn i j z;split at d;rename_i v;simp only[aq,dJ]at v;have:=aly (kd:=kd) (a:=a.val c.ρ) (b:=b.val c.ρ) y y;exact yo g d y y;exact sM g d;exact sM g d|or=>exact sM g d|xor=>exact sM g d|andNot=>exact sM g d|eql=>exact am5 g n o d|neq=>exact ajD g n o d|lss=>exact aaF g n o d|leq=>exact Zd g n o d|gtr=>exact aaF g o n d|geq=>exact Zd g o n d|shl=>simp only[BN]at d;split at d;rename_i e;have:=dP i e;rw[dW g.p]at this;exact⟨y,sM g d⟩;cases d
 |shr=>
  simp only[BN]at d;split at d;rename_i e;have h0:=dP i e;rw[dW g.p]at h0;refine⟨h0,?_⟩;split at d;rename_i D U w G;have M:=qB i j w;have N:=qn i j G;split at d;rename_i v;simp only[dJ]at v;have W:0<(2:Int)^(min (b.val c.ρ).toNat kd.bits):=HZ y;have V:(a.val c.ρ).fdiv (2^(min (b.val c.ρ).toNat kd.bits))=a.val c.ρ/2^(min (b.val c.ρ).toNat kd.bits):=ak;rw[V];have I:0<=a.val c.ρ/2^(min (b.val c.ρ).toNat kd.bits):=tR y y;have R:a.val c.ρ/2^(min (b.val c.ρ).toNat kd.bits)<=a.val c.ρ:=BD _ y;exact yo g d I y;have W:0<(2:Int)^(min (b.val c.ρ).toNat kd.bits):=HZ y;rw[Int.fdiv_eq_ediv_of_nonneg _ y];refine yo g d ?_ ?_;rcases Bt 0 (a.val c.ρ)with q|q
  have:=tR q (Int.le_of_lt W);grind;have:=(Int.le_ediv_iff_mul_le W (a:=a.val c.ρ) (b:=a.val c.ρ)).2 (by have h8:=ug (show(0:Int)<=2^(min (b.val c.ρ).toNat kd.bits)-1 by omega) (show 0<=-(a.val c.ρ) by omega);grind)
  omega;rcases Bt 0 (a.val c.ρ)with q|q
  have:=BD (2^(min (b.val c.ρ).toNat kd.bits)) q;simp only[dJ];split<;>omega;have:=Gw W q;rw[Int.zero_ediv]at this;simp only[dJ];split<;>omega;grind;cases d
theorem OR{a:AS->Bool}(b:GS h k f c m)(d:fx f.ns c.ρ O True)(e:FA O f a=aa):a (f.facts O)=aa/\GS h k (f.facts O) c m:=by have n:=b.facts d;unfold FA at e;split at e;rename_i g;exfalso;obtain⟨r,i,j⟩:=pq.1 g;have:=dP b.p.hf j;have l:=(d r i).2.2 Y;unfold F.ok at l;unfold E.val at this;grind;exact U
theorem ve{t:A}{w:Bool->AS->Bool}(a:GS h k f c m)(u:gX c t d)(i:branch t f w=aa):∃b j,d=.p (B b)/\w b j=aa/\GS h k j c m:=by
 unfold branch at i;split at i
 .rename_i b n
  refine⟨b,f,?_,i,a⟩;cases t<;>simp only[Lv]at n<;>try grind
  cases n;exact u;rename_i g p R ag;obtain⟨D,q,x,l,G,H⟩:=u;split at n;rename_i e;cases n;have:=dP a.p.hf e;rw[dW a.p]at this;simp only[E.val]at this;grind;split at n;rename_i e;cases n;have:=dP a.p.hf e;rw[dW a.p]at this;simp only[E.val]at this;rw[x];by_cases W:q=p;grind;cases q<;>cases p<;>simp_all;grind
 split at i;rename_i g p R ag _;obtain⟨D,q,x,l,G,H⟩:=u;simp only[aq]at i;have z:∀(o:F) (O:List F) (v:AS->Bool),o.x<c.n->o.y<c.n->o.ok c.ρ->fx c.n c.ρ O True->FA (o::O) f v=aa->∃j,v j=aa/\GS h k j c m:=by
  intro o O v Q S T V i;have I:fx f.ns c.ρ (o::O) True:=by
   intro r s;rw[<-a.p.vn];rcases bt.1 s with rfl|s
   exact U;exact aj
  unfold FA at i;split at i;rename_i K;exfalso;obtain⟨r,s,L⟩:=pq.1 K;have:=dP a.p.hf L;have M:=(I r s).2.2 Y;unfold F.ok at M;simp only[E.val]at this;omega;exact⟨_,i,a.facts ar⟩
 have X:0<c.n:=by have:=a.p.vn;have:=y;omega
 cases C:q with
 |true=>
  obtain⟨j,N,P⟩:=z _ _ _ ak ak (by rw[C]at l;cases p<;>simp at l<;>simp[F.ok,a.p.z,l]) ak i.1
  grind
 |false=>
  obtain⟨j,N,P⟩:=z _ _ _ ak ak (by rw[C]at l;cases p<;>simp at l<;>simp[F.ok,a.p.z,l]) ak i.2
  grind
 grind
theorem aiq{j i:E}{d a:ByteArray}{r:A->AS->Bool}(b:GS h k f c m)(n:j.x<c.n)(s:i.x<c.n)(t:j.val c.ρ=d.size)(u:i.val c.ρ=a.size)(g:acq Q f j i r=aa):
 gD Q d a λl=>uL h k r c m (.p l):=by
 have v:(num 1).x<c.n:=by have:=b.p.vn;have:=y;simp[num];omega
 have w:∀{l:Prop},(l->d=a)->fx f.ns c.ρ [dq j i,dq i j] l:=λW=>adn b n s U;have aM:∀{l:Prop},(l->d≠a)->fx f.ns c.ρ (if au i.x 0&&(decide (i.c=0)) then [dq (num 1) j] else []) l:=by
  intro l W;split;rename_i e;simp only[aq,dJ]at e;have x:=aK e.1;have I:(a.size:Int)=0:=by rw[<-u];simp[E.val,x,e.2,b.p.z]
  refine fx.le (by rw[<-b.p.vn];exact v) (by rw[<-b.p.vn];exact n) λo=>?_;rw[dW b.p,t];have:d.size≠0:=λz=>W o (by have K:d.data.size=0:=z;have L:a.data.size=0:=(by omega:a.size=0);cases d;cases a;grind)
  omega;exact fx.nil
 have M:∀{d a:ByteArray},(d.toList==a.toList)=aa->d=a:=by intro d a e;have e:=eq_of_beq e;rw[sA,sA]at e;cases d;cases a;simpa using e
 cases Q with
 |add=>simp only[acq]at g;obtain⟨e,B,C,p,q,D,F,G⟩:=VP b n s g;dsimp only at p;split at p;rename_i H;have:=dP q.p.hf H;rw[dW q.p,G,t,u]at this;exact⟨y,_,B,C,p,q,D,F,_,rfl,U⟩;grind
 |eql=>refine rR b g aj (aM λe o=>?_);grind|neq=>refine rR b g (aM λe o=>?_) (w λe=>?_);grind;grind|lss=>exact rR b g fx.nil fx.nil|leq=>exact rR b g fx.nil fx.nil|gtr=>exact rR b g fx.nil fx.nil|geq=>exact rR b g fx.nil fx.nil|_=>cases g
def ahZ{o p:A}{u v:D}{e:A->AS->Bool}(g:GS h k f c m)(q:gX c o u)(s:gX c p v)(d:ads Q t f o p e=aa):
 Dl.binOp Q t u v λl=>uL h k e c m (.p l):=by
 unfold ads at d;split at d;rename_i kd a O b;obtain⟨i,rfl⟩:=q;obtain⟨j,rfl⟩:=s;split at d;exact Of g i j d;exact Of g i j d;rename_i G H;simp only[aq,dJ]at d;obtain⟨rfl,d⟩:=d;have:=Of g i j d;simp only[Dl.binOp];cases Q<;>first|exact(G rfl).elim|exact(H rfl).elim|exact⟨rfl,this⟩|(simp only[pL];exact this)
 rename_i a b;obtain⟨i,P,rfl,w⟩:=q;obtain⟨j,R,rfl,x⟩:=s;simp only[Dl.binOp];exact aiq g i j w x d;have F:∀(r:Bool->Bool->Bool) (e:A->AS->Bool),(branch o f λa f=>branch p f λb f=>e (.bc (r a b)) f)=aa->∃a b,u=.p (B a)/\v=.p (B b)/\uL h k e c m (.p (B (r a b))):=by intro r e d;obtain⟨a,S,w,d,i⟩:=ve g q d;obtain⟨b,T,x,d,j⟩:=ve i s d;exact⟨a,b,w,x,.ce d j rfl⟩
 split at d;split at d;rename_i a b I K;simp only[aq]at d;have n:=aK d.1;have L:branch o f (λb f=>b==a)=aa:=by unfold branch;rw[I];simp
 have M:branch p f (λy f=>y==b)=aa:=by unfold branch;rw[K];simp
 obtain⟨N,_,rfl,z,_⟩:=ve g q L;obtain⟨y,_,rfl,C,_⟩:=ve g s M;have z:N=a:=by simpa using z
 have C:y=b:=by simpa using C
 subst z C;exact⟨n,.ce d.2 g rfl⟩;simp only[aq]at d;have n:=aK d.1;obtain⟨a,b,rfl,rfl,E⟩:=F (λa b=>a==b) e U;exact⟨n,E⟩;simp only[aq]at d;have n:=aK d.1;obtain⟨a,b,rfl,rfl,E⟩:=F (λa b=> !(a==b)) e U;exact⟨n,E⟩;cases d
def akB{o:UnOp}{i:A}{p:A->AS->Bool}(a:GS h k f c m)(j:gX c i d)(g:unA o f i p=aa):Dl.unOp o d λl=>uL h k p c m (.p l):=by
 have q:(num 0).x<c.n:=by have:=a.p.vn;have:=a.p.pos;simp[num];omega
 unfold unA at g;split at g;rename_i kd e;obtain⟨n,rfl⟩:=j;obtain⟨w,x,y,r,s,t,u,v⟩:=EO a q n g;have:=Dv s u r;rw[v,dW a.p]at this;exact jS.grow t ar;cases j;exact .ce g a rfl;rename_i i z R ag;obtain⟨n,b,rfl,B,C,D⟩:=j;refine .ce g a ⟨n,!b,rfl,?_,?_,?_⟩;exact U;exact U;exact U;cases g
end
section
variable [Gh]
def rm{c:Type}(b:Nat):List (Nat×c)->List (Nat×c)|[]=>[]|(d,a)::i=>if au d b then rm b i else(d,a)::rm b i
theorem Ep{c:Nat}{d:List (Nat×aB)}{b:Nat}:aQ (rm c d) b=if b=c then ae else aQ d b:=by
 induction d with
 |nil=>simp[rm,aQ]
 |cons g i ih=>
  obtain⟨f,a⟩:=g;simp only[rm];split;rename_i e;have e:=aK e;subst e;rw[ih,dQ];grind;rename_i e;rw[dQ,dQ,ih];by_cases h:f=b;subst h;have:f≠c:=λj=>by subst j;simp at e
  exact U;exact U
def AS.alloc(a:AS)(nm:Nat)(b:Bool)(ab:AB):AS:={a with H:=(a.nb,ab)::a.H,nb:=a.nb+1,used:=nm::a.used,W:=if b then a.nb::a.W else a.W}
def AS.nD(a:AS)(b:Nat)(c:AB):AS:={a with H:=(b,c)::rm b a.H}
def AS.uX(a:AS)(b:Nat)(c:Bool)(ab:AB):AS:={a with H:=(a.nb,ab)::rm b a.H,nb:=a.nb+1,W:=if c then a.nb::a.W else a.W}
def nP(a:AS)(nm:Nat):Bool:=iM nm a.iz&& !iw a.used nm
theorem Yq{a:AS}{nm:Nat}(b:nP a nm=aa):nm<a.iz/\nm∉a.used:=by simp only[nP,aq]at b;refine⟨ml.mp b.1,λc=>?_⟩;have:=zK.2 c;grind
variable {q:Fm}{k:Bool}{c:AS}{f:bE}{h:C}
theorem GS.put{a:A}{i:D}(b:GS q k c f h)(n:gX f a i)(d:Option Nat):GS q k (c.put d a) f {h with T:=eE h.T d i}:=by cases d with|none=>exact ar|some k0=>refine⟨⟨b.p.vn,b.p.vb,b.p.vH,b.p.gz,b.p.pS,b.p.facts⟩,λj l g=>?_,?_⟩;simp only[AS.put,dQ]at g;simp only[eE,Dl.am];by_cases e:k0=j;grind;rw[ap e]at g;rw[ap y];exact b.je j l g;have:=b.m.grow (cM.refl f) rfl rfl rfl rfl rfl rfl rfl rfl rfl;exact⟨this.m,this.dj,this.heap,this.yn,this.inj,this.own,this.frame,this.free,this.room,this.base,this.ss,this.fr,this.rb,this.wB⟩
theorem GS.XV{k0:Nat}{a:A}(b:GS q k c f h)(j:gX f a (h.T k0)):GS q k {c with T:=(k0,a)::c.T} f h:=by refine⟨⟨b.p.vn,b.p.vb,b.p.vH,b.p.gz,b.p.pS,b.p.facts⟩,λg i d=>?_,b.m.grow (cM.refl f) rfl rfl rfl rfl rfl rfl rfl rfl rfl⟩;simp[dQ]at d;by_cases e:k0=g;grind;rw[ap e]at d;exact b.je g i d
def jI{a:Nat}(b:GS q k c f h)(d:aQ c.H a=J ab):(f.H a).isSome=aa:=by rw[b.p.vH,d];rfl
theorem GS.aov{b:Nat}{j:AB}(i:GS q k c f h)(u:aQ c.H b=J ab)(v:wG f b j):∃l,GS q k (c.nD b j) l h/\cM f l:=by
 have t:∀g,aQ (c.nD b j).H g=if b=g then J j else aQ c.H g:=by intro g;simp only[AS.nD,dQ,Ep];by_cases e:b=g;simp[e];grind
 let l:={f with H:=aQ (c.nD b j).H}
 have A:∀g,(l.H g).isSome=(f.H g).isSome:=by intro g;show(aQ (c.nD b j).H g).isSome=_;rw[t,i.p.vH];by_cases e:b=g;grind;simp[e]
 have r:cM f l:=⟨i0,i0,aj,ak⟩;refine⟨l,⟨⟨i.p.vn,i.p.vb,rfl,i.p.gz,i.p.pS,i.p.facts⟩,λw a x=>(i.je w a x).grow r,?_⟩,r⟩;have m:=i.m;refine⟨m.m,m.dj,λg y d=>?_,λg id d n=>m.yn g id ak n,λg z id d B o s=>m.inj g z id ak ak o s,
  λg id d n=>m.own g id ak n,m.frame,m.free,m.room,m.base,λg id d o n=>m.ss g id ak o n,m.fr,m.rb,m.wB⟩
 rw[t]at d;by_cases e:b=g;rw[aU e]at d;cases d;subst e;exact⟨(m.heap b ab u).1,v.grow r rfl aj⟩;rw[ap e]at d;obtain⟨o,s⟩:=m.heap g y d;exact⟨o,s.grow r rfl aj⟩
def bE.wr(a:bE)(H:Nat->Option AB)(nb b:Nat)(id:Nat)(c:fg):bE:={a with nb:=nb,H:=H,ν:=am a.ν b (J id),M:=am a.M id (J c)}
theorem GS.Nx{b:Nat}{σ':AS}(r:GS q k c f h)(V:σ'.T=c.T)(H:σ'.G=c.G)(en:σ'.ns=c.ns)(C:σ'.rb=c.rb)(D:σ'.iz=c.iz)(E:c.nb<=σ'.nb)(W:b<σ'.nb)(Y:aQ σ'.H b=J ab)(K:∀g l,aQ σ'.H g=J l->g≠b->aQ c.H g=J l/\f.ν g≠J id)(ac:f.M id=ae\/∃F l,aQ c.H F=J l/\f.ν F=J id)(L:b<c.nb->f.ν b=J id/\(f.H b).isSome=aa/\(f.M id).map fg.wA=J gu.wA)(hY:h.Y id=ae)(ad:q.n0<=id\/q.N0 id)(ag:b<c.rb->id<h.bs)(al:id<h.nx)(M:∀g,g≠b->g<c.nb->iw σ'.W g=iw c.W g)(an:kP σ' k b=aa)(N:∀g∈σ'.W,g<σ'.nb)(O:∀nm,nm<c.iz->nm∉σ'.used->nm∉c.used/\h.bs+nm≠id)(ao:cM f (f.wr (aQ σ'.H) σ'.nb b id gu)->wG (f.wr (aQ σ'.H) σ'.nb b id gu) b ab):
 GS q k σ' (f.wr (aQ σ'.H) σ'.nb b id gu) {h with X:=am h.X id (J gu)}/\cM f (f.wr (aQ σ'.H) σ'.nb b id gu):=by
 have m:=r.m;have ax:∀g l,aQ σ'.H g=J l->g≠b->aQ c.H g=J l:=U;have s:∀g,g≠b->(aQ σ'.H g).isSome=aa->(f.H g).isSome=aa/\f.ν g≠J id:=by intro g t o;obtain⟨l,G⟩:=dM.1 o;obtain⟨d,i⟩:=K g l G t;exact⟨jI r d,i⟩
 have z:cM f (f.wr (aQ σ'.H) σ'.nb b id gu):=by refine⟨i0,by simp only[bE.wr];rw[r.p.vb];exact E,aj,λg t o=>?_⟩;by_cases e:g=b;subst e;obtain⟨d,i,A⟩:=L (by rw[<-r.p.vb];exact t);refine⟨i,by simp[bE.wr,d],λu B=>?_⟩;rw[d]at B;cases B;rw[A];simp[bE.wr];obtain⟨d,i⟩:=s g e o;refine⟨d,by simp[bE.wr,e],λu B=>?_⟩;have:u≠id:=ak;simp[bE.wr,this]
 refine⟨⟨⟨r.p.vn.trans y,rfl,rfl,r.p.gz,by rw[en];exact r.p.pS,by rw[en,H];exact r.p.facts⟩,λP a hk=>(r.je P a ak).grow z,?_⟩,z⟩;have hX:∀g l,g≠b->aQ σ'.H g=J l->f.ν g≠J id:=U;have ay:∀g u,g≠b->(aQ σ'.H g).isSome=aa->f.ν g=J u->u≠id:=ak;refine⟨λj=>?_,λj I=>?_,λg l t=>?_,λg j o n=>?_,λg w j t Q d i=>?_,λg j o n=>?_,λj d i=>?_,λnm d i=>?_,by rw[D];exact m.room,m.base,λg j o d n=>?_,λj I=>?_,by rw[C];exact gJ m.rb E,N⟩;by_cases e:j=id;subst e;simp[bE.wr,bp];simp only[bE.wr,bp,ai e];rw[m.m];rfl;by_cases e:j=id;exact U;have I:(am h.X id (J gu) j).isSome=aa:=I;rw[ai e]at I;exact m.dj j I;by_cases e:g=b;grind;obtain⟨d,i⟩:=m.heap g l U;refine⟨y,i.grow z (by simp[bE.wr,e]) λj I=>?_⟩;have:j≠id:=ak;simp[bE.wr,this];by_cases e:g=b;subst e;simp only[bE.wr,bi,du]at n;grind;simp only[bE.wr,ai e]at n;obtain⟨d,i⟩:=s g e o;have R:g<c.nb:=by obtain⟨l,G⟩:=dM.1 o;exact(m.heap g l aj).1
 have:=m.yn g j d n;have S:kP σ' k g=kP c k g:=by simp[kP,M g e R]
 rw[S];refine⟨U,λhh=>?_⟩;have:j≠id:=aj;exact U;by_cases x:g=b;by_cases v:w=b;omega;exfalso;subst x;simp only[bE.wr,bi,du]at d;simp only[bE.wr,ai v]at i;exact aj;by_cases v:w=b;exfalso;subst v;simp only[bE.wr,bi,du]at i;simp only[bE.wr,ai x]at d;exact aj;simp only[bE.wr,ai x]at d;simp only[bE.wr,ai v]at i;exact m.inj g w j (s g x t).1 (s w v Q).1 d i;by_cases e:g=b;subst e;simp only[bE.wr,bi,du]at n;subst n;exact⟨by simp[bE.wr],ar⟩;simp only[bE.wr,ai e]at n;obtain⟨d,i⟩:=m.own g j (s g e o).1 n;have:j≠id:=aj;exact⟨by simpa[bE.wr,this]using d,i⟩;have:j≠id:=ak;simp only[bE.wr,ai y];exact m.frame j d i;rw[D]at d;obtain⟨A,T⟩:=O nm d i;simp only[bE.wr,ai T];exact m.free nm d A;rw[C]at d;by_cases e:g=b;subst e;simp only[bE.wr,bi,du]at n;exact aw;simp only[bE.wr,ai e]at n;exact m.ss g j (s g e o).1 d n;have:j≠id:=by simp only at I;omega
 simp only[bE.wr,ai y];exact m.fr j I
def WF{a:AS}(c:∀b∈a.W,b<a.nb):iw (if k then a.nb::a.W else a.W) a.nb==k:=by
 have d:iw a.W a.nb=Z:=by cases e:iw a.W a.nb with|false=>rfl|true=>have:=c _ (zK.1 e);omega
 cases k<;>simp[iw,d]
def Wl{a:AS}{b:Nat}(c:b≠a.nb):iw (if k then a.nb::a.W else a.W) b=iw a.W b:=by
 cases k;rfl;simp only[aT,iw];have:au a.nb b=Z:=by cases d:au a.nb b with|false=>rfl|true=>exact absurd (aK d).symm c
 exact U
theorem afC{a:AS}(c:∀b∈a.W,b<a.nb):∀g∈(if k then a.nb::a.W else a.W),g<a.nb+1:=by grind
theorem GS.alloc{nm:Nat}{ab:AB}{gu:fg}(d:GS q k c f h)(l:nP c nm=aa)(n:cM f (f.wr (aQ (c.alloc nm k ab).H) (c.nb+1) c.nb (h.bs+nm) gu)->wG (f.wr (aQ (c.alloc nm k ab).H) (c.nb+1) c.nb (h.bs+nm) gu) c.nb ab):
 ∃a,GS q k (c.alloc nm k ab) a {h with X:=am h.X (h.bs+nm) (J gu)}/\cM f a/\a.ν c.nb=J (h.bs+nm)/\a.M (h.bs+nm)=J gu/\(a.H c.nb).isSome=aa/\c.nb<a.nb:=by
 obtain⟨o,r⟩:=Yq l;have m:=d.m;have i:=m.free nm o r;have j:=m.m (h.bs+nm);rw[i]at j;obtain⟨A,s⟩:=mU j.symm;obtain⟨t,u⟩:=d.Nx (σ':=c.alloc nm k ab) rfl rfl rfl rfl rfl i0 i0 (by simp[AS.alloc,dQ])
  (λg B b C=>by simp only[AS.alloc,dQ]at b;rw[ap y]at b;refine⟨b,λv=>?_⟩;exact(m.own g _ (jI d b) v).1 i)
  U ak s (.inl (by have:=m.base;omega)) (λw=>by have:=m.rb;omega) (by have:=m.room;omega)
  (λg b w=>Wl y) (WF m.wB) (afC m.wB)
  (λx D z=>⟨aj,λe=>z ((show x=nm by omega)▸aj)⟩) n
 exact⟨_,t,u,by simp[bE.wr],by simp[bE.wr],by simp[bE.wr,AS.alloc,dQ],i0⟩
theorem GS.store{a i:Nat}{n es':List (List D)}(j:GS q k c f h)(o:aQ c.H a=J aR)(b:f.ν a=J id)(w:f.M id=J (.row i r n))(x:es'.length=n.length)(s:kP c k a=aa)(z:cM f (f.wr (aQ (c.nD a ab).H) c.nb a id (.row i r es'))->wG (f.wr (aQ (c.nD a ab).H) c.nb a id (.row i r es')) a ab):
 ∃t,GS q k (c.nD a ab) t {h with X:=am h.X id (J (.row i r es'))}/\cM f t:=by
 have m:=j.m;have d:=jI j o;have A:=(m.heap a aR o).1;have B:h.Y id=ae:=(m.yn a id d b).1 s;obtain⟨I,K⟩:=j.Nx (σ':=c.nD a ab) rfl rfl rfl rfl rfl i0 A (by simp[AS.nD,dQ])
  (λg L l u=>by simp only[AS.nD,dQ,Ep]at l;rw[ap y,ap u]at l;refine⟨l,λC=>u (m.inj g a id (jI j l) d C b)⟩)
  ak (λ_=>⟨b,d,by rw[w];simp[fg.wA,x]⟩) B (m.own a id d b).2 (λE=>m.ss a id d E b)
  (by refine iP λF=>?_;have:=m.fr id F;grind)
  aj s m.wB
  (λG H v=>⟨v,λe=>by have:=m.free G H v;grind⟩) z
 grind
theorem GS.akv{a:Nat}{u mf':ByteArray->Option D}(i:GS q k c f h)(l:aQ c.H a=J aR)(b:f.ν a=J id)(v:f.M id=J (.iq r u))(n:kP c k a=aa)(w:cM f (f.wr (aQ (c.nD a ab).H) c.nb a id (.iq r mf'))->wG (f.wr (aQ (c.nD a ab).H) c.nb a id (.iq r mf')) a ab):
 ∃o,GS q k (c.nD a ab) o {h with X:=am h.X id (J (.iq r mf'))}/\cM f o:=by
 have m:=i.m;have d:=jI i l;have x:=(m.heap a aR l).1;have z:h.Y id=ae:=(m.yn a id d b).1 n;obtain⟨G,H⟩:=i.Nx (σ':=c.nD a ab) rfl rfl rfl rfl rfl i0 x (by simp[AS.nD,dQ])
  (λg I j s=>by simp only[AS.nD,dQ,Ep]at j;rw[ap y,ap s]at j;refine⟨j,λA=>s (m.inj g a id (jI i j) d A b)⟩)
  ak (λ_=>⟨b,d,by rw[v];exact aj⟩) z (m.own a id d b).2 (λB=>m.ss a id d B b)
  (by refine iP λC=>?_;have:=m.fr id C;grind)
  aj n m.wB
  (λE F t=>⟨t,λe=>by have:=m.free E F t;grind⟩) w
 grind
theorem GS.uX{b id:Nat}{n ab:AB}{gu:fg}(i:GS q k c f h)(o:aQ c.H b=J n)(j:f.ν b=J id)(s:kP c k b=aa)(t:cM f (f.wr (aQ (c.uX b k ab).H) (c.nb+1) c.nb id gu)->wG (f.wr (aQ (c.uX b k ab).H) (c.nb+1) c.nb id gu) c.nb ab):
 ∃d,GS q k (c.uX b k ab) d {h with X:=am h.X id (J gu)}/\cM f d/\d.ν c.nb=J id/\d.M id=J gu/\(d.H c.nb).isSome=aa/\c.nb<d.nb:=by
 have m:=i.m;have l:=jI i o;have F:=(m.heap b n o).1;have u:h.Y id=ae:=(m.yn b id l j).1 s;obtain⟨v,G⟩:=m.own b id l j;obtain⟨w,x⟩:=i.Nx (σ':=c.uX b k ab) rfl rfl rfl rfl rfl i0 i0 (by simp[AS.uX,dQ])
  (λg H a I=>by simp only[AS.uX,dQ,Ep]at a;rw[ap y]at a;split at a;cases a;rename_i z;exact⟨a,λA=>z (m.inj g b id (jI i a) l A j)⟩)
  ak ak u ar (λB=>by have:=m.rb;omega)
  (by refine iP λC=>?_;exact v (m.fr id C))
  (λg a B=>Wl y) (WF m.wB) (afC m.wB)
  (λD E r=>⟨r,λe=>by have:=m.free D E r;grind⟩) t
 exact⟨_,w,x,by simp[bE.wr],by simp[bE.wr],by simp[bE.wr,AS.uX,dQ],i0⟩
end
section
variable [Gh]
def Q1(b:AS):List A->List (Nat×Nat×dh)->Option (List A)|a,[]=>J a|a,(off,n,g)::d=>match yM b (gP b g) with|some c=>if au c.length n&&eY (off+n) a.length then Q1 b (bI a c off) d else ae|none=>ae
def NQ(b:AS)(c:Nat):List (List A)->List (Nat×dh)->Option (List (List A))|a,[]=>J a|a,(j,g)::e=>match yM b (gP b g) with|some d=>if au d.length c&&iM j a.length then NQ b c (a.set j d) e else ae|none=>ae
def DX(a:Gs)(c d:E)(b:E->Bool):Option A->Bool|none=>b c|some (.int _ g)=>le a (num 0) g&&(le a g d&&b g)|some _=>Z
def Jc(d:Bool)(a:Nat)(c:AS):A->Option (Option (List CT)×E)
 |.nil=>J (ae,num 0)|.aY o e _=>if au o.length a then J (J o,e) else ae|.own b=>match aQ c.H b with|some (.rows o e)=>if au o.length a&&kP c d b then J (J o,e) else ae|_=>ae
 |_=>ae
def OF(c:Bool)(b:Nat)(d:AS):A->Option (Option (List CT)×E)|.str e=>if au b 1 then J (J [.int .u8 0 255],e) else ae|.nm e _ _ _=>if au b 1 then J (J [.int .u8 0 255],e) else ae|a=>Jc c b d a
def Ov(a b:List CT):Option (List CT):=if CT.lm b a then J a else match CT.Q5 a b with|some v=>if CT.lm a v&&CT.lm b v then J v else ae|none=>ae
def Y9(a:List CT):Option (List CT)->Option (List CT)|none=>J a|some b=>Ov a b
def X6(c:Bool)(b:List CT)(a:Option (List CT)):Option (List CT):=if c then(match a with|none=>J b|some a=>J a) else Y9 b a
def CR(a:Gs)(b:Nat)(c:E):Bool:=match top a c with|some t=>decide (t*b<=140737488355328)&&decide (t<=140737488355328)|none=>Z
def AS.arJ(a:AS)(nm b:Nat)(c:Bool)(d:AB):AS:={a with H:=(a.nb,d)::rm b a.H,nb:=a.nb+1,used:=nm::a.used,W:=if c then a.nb::a.W else a.W}
def skA:SK->A->Option cY->Bool|.b,.bc _,_=>aa|.b,.bool ..,_=>aa|.b,.ct .bool,_=>aa|.s,.str _,_=>aa|.s,.nm ..,_=>aa|.s,.ct (.nm _),_=>aa|.i,.ct .tu,J a=>decide (.i64=a)|.s,.ct (.str _),_=>aa|.s,.ct (.em _),_=>aa|.i,.int b _,J a=>decide (b=a)|.i,.ct (.int b _ _),J a=>decide (b=a)|_,_,_=>Z
def ikA:A->Option cY|.int a _=>J a|.ct (.int a _ _)=>J a|.ct .tu=>J .i64|_=>ae
def JB:List SK->List A->List A->Bool|[],[],[]=>aa|k::a,g::b,c::d=>skA k g (ikA g)&&(skA k c (ikA g)&&JB a b d)|_,_,_=>Z
def FP(a:List CT)(b:AS):Option (List A×AS):=match a[7]?,a[8]? with
 |some (CT.aY d _ _),J (CT.aY e _ _)=>
  let c:=intro (.nm 0) b
  J ((((a.map .ct).set 0 c.1).set 7 (.aY d ⟨b.ns+2,0⟩ Z)).set 8 (.aY e ⟨b.ns+3,0⟩ Z),c.2)
 |_,_=>ae
def gZ(a:List CT)(b:AS):List A×AS:=
 if au (jO a) 3 then match FP a b with|some i=>i|none=>(a.map .ct,b)
 else(a.map .ct,b)
def QL(c b:Nat)(f:Bool)(a:List CT)(d:AS)(e:A->AS->Bool):Bool:=
 if f then(if au b 0&&au c a.length then(let i:=gZ a d;e (.agg i.1) i.2) else if eY c (a.drop b).length then e (.agg (((a.drop b).take c).map .ct)) d else Z)
 else match a[b]? with
  |some t=>let i:=intro t d;e i.1 i.2
  |none=>Z
def zC(b:Gs):A->VT->Bool|a,.aM t=>Fh b a t|.agg w,.agg x=>No b w x|_,_=>Z
def ctZ:P->Option CT|.v (.int a _)=>J (.int a (wU a) (uR a))|.v (.bool _)=>J .bool|.v (.string _)=>J (.str 1000000000)|_=>ae
def anh:List P->Option (List CT)|[]=>J []|l::a=>match ctZ l,anh a with|some t,J x=>J (t::x)|_,_=>ae
def vtZ:D->Option VT|.p (.agg a)=>(anh a).map .agg|.p l=>(ctZ l).map .aM|_=>ae
def X9(a:VT)(b:Bool)(c:AS)(d:A->AS->Bool):Bool:=match a with|.aM a=>d (if b then .eQ [.ct a,.bc aa] else .ct a) c|.agg x=>d (if b then .eQ [.agg (x.map .ct),.bc aa] else .agg (x.map .ct)) c
def ajz(c:VT)(f:D)(a:Bool)(b:AS)(d:A->AS->Bool):Bool:=match f with|.p e=>if !a&&zC b.G (Cg e) c then X9 c a b d else X9 c a b d&&d (if a then .eQ [Cg e,.bc Z] else Cg e) b|_=>Z
def mvB(a:AS):dh->Option Nat
 |.t n=>match aQ a.T n with|some (.ct .bool)=>J n|_=>ae
 |.c _=>ae
theorem akZ{a:AS}(b:mvB a g=J n):g=.t n/\aQ a.T n=J (.ct .bool):=by
 cases g with
 |c _=>cases b
 |t d=>simp[mvB]at b;grind
def cP(O:Nat->List A->AS->(A->AS->Bool)->Bool)(h:Bool)(P:fG)(c:AS)(d:A->AS->Bool):Bool:=
 match P with
 |.mv g=>match mvB c g with
  |some n=>let i:=dS (.ct .bool) c
   d i.1 {i.2 with T:=(n,i.1)::i.2.T}
  |none=>d (gP c g) c
 |.pick r a b=>let i:=dS (gP c r) c;branch i.1 i.2 λt R=>d (if t then gP c a else gP c b) R|.alloc nm n k=>if au k.length n&&nP c nm then d (.ptr c.nb 0) (c.alloc nm h (.row (k.map ux))) else Z|.box nm n g=>match yM c (gP c g) with|some p=>if au p.length n&&nP c nm then d (.ptr c.nb 0) (c.alloc nm h (.row p)) else Z|none=>Z
 |.build k H=>match Q1 c (k.map ux) H with|some p=>d (.agg p) c|none=>Z
 |.bQ nm n S k H=>match NQ c n (fL S (k.map ux)) H with
  |some C=>match(match C with|[]=>N5 c.G (k.map ux)|_=>To c.G C) with|some o=>if au o.length n&&C.all (λi=>No c.G i o) then(if iw c.ow (1000000+nm) then(if nP c nm then d (.own c.nb) (c.alloc nm h (.rows (qq o) (num C.length))) else Z) else d (.aY (qq o) (num C.length) aa) c) else Z|none=>Z
  |none=>Z
 |.load n N g mk=>match gP c g with
  |.ptr b s=>match aQ c.H b with
   |some (.row y)=>if kP c h b&&(!mk||iM b c.rb) then
    (if N then(if eY n (y.drop s).length then d (.agg ((y.drop s).take n)) c else Z)
     else match y[s]? with
      |some (.ct t)=>let i:=intro t c;d i.1 (i.2.nD b (.row (y.set s i.1)))
      |some a=>d a c|none=>Z) else Z
   |_=>Z
  |.rp b s=>match aQ c.H b with|some (.rows o e)=>if kP c h b&&(!mk||iM b c.rb) then QL n s N o c d else Z|_=>Z
  |.ip x=>QL n 0 N x c d|_=>Z
 |.store n g v Z=>match yM c (gP c v) with
  |some p=>if au p.length n then match gP c g with
   |.ptr b s=>match aQ c.H b with|some (.row y)=>if kP c h b&&eY (s+n) y.length then d .any (c.nD b (.row (bI y p s))) else Z|_=>Z
   |.rp b s=>match aQ c.H b with
    |some (.rows o e)=>if kP c h b&&eY (s+n) o.length then
     (match N5 c.G p with
      |some x=>match Ov o (bI o x s) with|some u=>if DS c.G p x&&au u.length o.length then d .any (c.nD b (.rows (CD u) e)) else Z|none=>Z
      |none=>Z) else Z
    |_=>Z
   |_=>Z
   else Z
  |none=>Z
 |.lY g=>match gP c g with|.ptr b s=>if(aQ c.H b).isSome then d (.ptr b s) c else Z|.rp b s=>if(aQ c.H b).isSome then d (.rp b s) c else Z|.ip x=>d (.ip x) c|.fn z a r=>d (.fn z a r) c|_=>Z
 |.lS Q t g m=>let i:=dS (gP c g) c;let f:=dS (gP c m) i.2;ads Q t f.2 i.1 f.1 d|.un Q g=>let i:=dS (gP c g) c;unA Q i.2 i.1 d|.zf kd g=>let i:=dS (gP c g) c;match i.1 with|.int _ e=>EK kd i.2 e d|_=>Z
 |.KX g=>let i:=dS (gP c g) c;match i.1 with|.str e=>d (.aY [.int .u8 0 255] e Z) i.2|_=>Z
 |.EN g=>match gP c g with
  |.nil=>d (.str (num 0)) c|.aY [.int .u8 _ _] e _=>d (.str e) c|.own b=>match aQ c.H b with|some (.rows [.int .u8 _ _] e)=>if kP c h b then d (.str e) c else Z|_=>Z
  |_=>Z
 |.yS g=>let i:=dS (gP c g) c;match i.1 with|.int _ _=>Bk i.2 (UD 0 4) λe c=>d (.str e) c|.str e=>d (.str e) i.2|_=>Z
 |.fa g off=>match gP c g with|.ptr b s=>if(aQ c.H b).isSome then d (.ptr b (s+off)) c else Z|.rp b s=>if(aQ c.H b).isSome then d (.rp b (s+off)) c else Z|.ip x=>d (.ip (Ys off x)) c|_=>Z
 |.yK g off n N=>match gP c g with
  |.agg p=>
   if N then(if eY n (p.drop off).length then d (.agg ((p.drop off).take n)) c else Z)
   else match p[off]? with
    |some (.ct t)=>let i:=intro t c;d i.1 (match g with|.t l=>{i.2 with T:=(l,.agg (p.set off i.1))::i.2.T}|.c _=>i.2)
    |some a=>d a c|none=>Z
  |_=>Z
 |.ti n g j=>let f:=dS (gP c j) c;match f.1 with
  |.int _ e=>match gP c g with
   |.aY o l _=>if au o.length n&&(le f.2.G (num 0) e&&le f.2.G ⟨e.x,e.c+1⟩ l) then d (.ip o) f.2 else Z|.own b=>match aQ f.2.H b with|some (.rows o l)=>if au o.length n&&(le f.2.G (num 0) e&&le f.2.G ⟨e.x,e.c+1⟩ l) then d (.rp b 0) f.2 else Z|_=>Z
   |_=>Z
  |_=>Z
 |.IL g j=>let i:=dS (gP c g) c;let f:=dS (gP c j) i.2;match f.1,i.1 with|.int _ e,.str l=>if le f.2.G (num 0) e&&le f.2.G ⟨e.x,e.c+1⟩ l then nH .u8 f.2 0 255 d else Z|_,_=>Z
 |.tZ n g L I F=>match gP c g with|.aY o e G=>au o.length n&&DX c.G e e (λl=>DX c.G e l (λq=>DX c.G (num 0) q (λD=>if(!F.isSome||(le c.G q l&&le c.G l q)) then OD c q D λi c=>d (.aY (if L.isNone then MY o else qq o) i (F.isSome||(G&&le c.G e q))) c else Z) (L.map (gP c))) (I.map (gP c))) (F.map (gP c))|.nil=>DX c.G (num 0) (num 0) (λl=>DX c.G (num 0) l (λq=>DX c.G (num 0) q (λ_=>d .nil c) (L.map (gP c))) (I.map (gP c))) (F.map (gP c))|_=>Z
 |.Il g L I=>let i:=dS (gP c g) c;match i.1 with|.str e=>DX i.2.G e e (λq=>DX i.2.G (num 0) q (λD=>OD i.2 q D λk c=>d (.str k) c) (L.map (gP c))) (I.map (gP c))|_=>Z
 |.Hx nm n E k D r=>let i:=dS (gP c D) c;let f:=dS (gP c r) i.2;match i.1,f.1 with
  |.int .i64 a,.int .i64 b=>match N5 f.2.G (k.map ux) with|some o=>if le f.2.G (num 0) a&&(le f.2.G a b&&(CR f.2.G E b&&(au k.length n&&(iM 0 n&&(DS f.2.G (k.map ux) o&&nP f.2 nm))))) then d (.own f.2.nb) (f.2.alloc nm h (.rows (CD o) a)) else Z|none=>Z
  |_,_=>Z
 |.len U g=>let i:=dS (gP c g) c;match U,i.1 with
  |true,.str e=>d (.int .i64 e) i.2|false,.aY _ e _=>d (.int .i64 e) i.2|false,.nil=>d (.int .i64 (num 0)) i.2|false,.own b=>match aQ i.2.H b with|some (.rows _ e)=>d (.int .i64 e) i.2|_=>Z
  |_,_=>Z
 |.j4 nm n E g m=>match OF h n c (gP c m) with
  |some (K,B)=>match gP c g with
   |.nil=>match K with|some o=>if CR c.G E B&&nP c nm then d (.own c.nb) (c.alloc nm h (.rows (qq o) B)) else Z|none=>Z
   |.aY o e G=>if G&&au o.length n then
    match X6 (le c.G e (num 0)) o K with
    |some u=>if au u.length n&&nP c nm then
     let i:=qz c e B
     if CR i.2.G E i.1 then (if le c.G (num 1) B then aa else FA [dq B (num 0)] c λc=>d (.aY o e G) c)&&d (.own i.2.nb) (i.2.alloc nm h (.rows (qq u) i.1)) else Z
     else Z
    |none=>Z
    else Z
   |.own b=>match aQ c.H b with
    |some (.rows o e)=>if kP c h b&&(au o.length n&&nP c nm) then
     match Y9 o K with
     |some u=>let i:=qz c e B
      if au u.length n&&CR i.2.G E i.1 then d (.own i.2.nb) (i.2.arJ nm b h (.rows (kp o u) i.1)) else Z
     |none=>Z
     else Z
    |_=>Z
   |_=>Z
  |none=>Z
 |.ext g j=>match gP c g with
  |.eQ w=>match w[j]? with
   |some (.ct t)=>let i:=intro t c;d i.1 i.2
   |some a=>d a c|none=>Z
  |_=>Z
 |.call z M=>if h then Z else O z (M.map (gP c)) c d|.iI g M=>match gP c g with|.fn z a r=>if h then Z else O z (a++M.map (gP c)++r) c d|_=>Z
 |.Ho (.func z) a r=>d (.fn z (a.map (gP c)) (r.map (gP c))) c
 |.lP neg g (.c (.v (.slice ae _ _)))=>let i:=dS (gP c g) c;match i.1 with
  |.nil=>d (.bc (!neg)) i.2|.aY _ e _=>FF i.2 (if neg then [] else [dq e (num 0)]) (if neg then [dq e (num 0)] else []) (neg&&le i.2.G (num 1) e) (!neg&&le i.2.G (num 1) e) d|.own b=>match aQ i.2.H b with|some (.rows _ e)=>FF i.2 (if neg then [] else [dq e (num 0)]) (if neg then [dq e (num 0)] else []) (neg&&le i.2.G (num 1) e) (!neg&&le i.2.G (num 1) e) d|_=>Z
  |_=>Z
 |.lP neg g (.c (.v (.pointer ae)))=>match gP c g with|.Fy=>d (.bc (!neg)) c|.ip _=>d (.bc neg) c|.ptr b _=>if(aQ c.H b).isSome then d (.bc neg) c else Z|.rp b _=>if(aQ c.H b).isSome then d (.bc neg) c else Z|_=>Z
 |.Av nm k=>match vtZ k with|some t=>if nP c nm then d (.mp c.nb) (c.alloc nm h (.map t)) else Z|none=>Z
 |.sQ (.aM .s) k V g m=>let i:=dS (gP c m) c;match i.1,gP c g with
  |.str _,.mp b=>match aQ i.2.H b with|some (.map t)=>if kP i.2 h b&&iM b i.2.rb then ajz t k V i.2 d else Z|_=>Z
  |_,_=>Z
 |.qx (.aM .s) g m v=>let i:=dS (gP c m) c;match i.1,gP c g with
  |.str _,.mp b=>match aQ i.2.H b with|some (.map t)=>if kP i.2 h b&&zC i.2.G (gP c v) t then d .any (i.2.nD b (.map t)) else Z|_=>Z
  |_,_=>Z
 |.oY g m v=>let i:=dS (gP c m) c;match i.1,gP c g with
  |.str _,.mp b=>match aQ i.2.H b with|some (.map t)=>if kP i.2 h b&&zC i.2.G (gP c v) t then d .any (i.2.nD b (.map t)) else Z|_=>Z
  |_,_=>Z
 |.m .len nm [g]=>match gP c g with|.mp b=>if(aQ c.H b).isSome&&kP c h b then Bk c (λi=>[dq (num 0) i]) λe c=>d (.int .i64 e) c else Z|_=>Z
 |.pf .mx [g,m]=>let i:=dS (gP c g) c;let f:=dS (gP c m) i.2;match i.1,f.1 with|.int .i64 a,.int .i64 b=>if le f.2.G b a then d (.int .i64 a) f.2 else if le f.2.G a b then d (.int .i64 b) f.2 else Bk f.2 (λi=>[dq a i,dq b i]++(match top f.2.G a,top f.2.G b with|some l,J n=>[dq i (num (wC l n))]|_,_=>[])) λe c=>d (.int .i64 e) c|_,_=>Z
 |.pf .mn [g,m]=>let i:=dS (gP c g) c;let f:=dS (gP c m) i.2;match i.1,f.1 with|.int .i64 a,.int .i64 b=>if le f.2.G b a then d (.int .i64 b) f.2 else if le f.2.G a b then d (.int .i64 a) f.2 else Bk f.2 (λi=>[dq i a,dq i b]++(match zc f.2.G a,zc f.2.G b with|some l,J n=>[dq (num (DZ l n)) i]|_,_=>[])) λe c=>d (.int .i64 e) c|_,_=>Z
 |.pf (.eq neg W) [g,m]=>match gP c g,gP c m with|.agg X,.agg Y=>if JB W X Y then Cc c [] [] d else Z|_,_=>Z
 |_=>Z
end
section
variable [Gh]
variable {m:Fm}{p:Bool}{h:AS}{f:bE}{k:C}
def GP.n0(a:GP h f):0<f.n:=by rw[a.vn];exact a.pos
theorem PU(a:GP h f)(b:P):gX f (ux b) (.p b):=by have c:=a.n0;have d:∀n,(num n).val f.ρ=n:=λn=>dW a;unfold ux;split;exact⟨c,by rw[d]⟩;rfl;exact⟨c,_,rfl,U⟩;rfl;rfl;exact⟨[],[],Y,aj,aj⟩;exact aj
theorem yv(b:GP h f):∀a:List P,cd f (a.map ux) (a.map .p)|[]=>aj|l::a=>⟨PU b l,yv b a⟩
def Nu(b:GP h f)(a:P):gX f (Cg a) (.p a):=by unfold Cg;split;rename_i c;exact⟨c.map .p,.inr Y,yv b c⟩;exact PU b a
def eL{d:St}(e:GS m p h f k)(g:k.T=d.T)(b:dh):gX f (gP h b) (d.ev b):=by
 cases b with
 |t n=>simp[gP,St.ev];cases i:aQ h.T n with|none=>trivial|some a=>rw[<-g];exact e.je n a i
 |c l=>exact Nu e.p l
theorem EG{b:St}(c:GS m p h f k)(d:k.T=b.T):∀a:List dh,cd f (a.map (gP h)) (a.map b.ev)|[]=>aj|g::a=>⟨eL c d g,EG c d a⟩
theorem TK{a:P}(b:Sl n a u):a.cells=[a]:=by cases b;exact aj;rfl
theorem eU{d:CT}{e:P}(c:CT.ok d e):e.cells=[e]:=by
 cases d with
 |int f L I=>obtain⟨n,rfl,_⟩:=c;exact aj
 |bool=>obtain⟨b,rfl⟩:=c;exact aj
 |str n=>obtain⟨a,rfl,_⟩:=c;exact aj
 |aY o L I=>obtain⟨u,c,_⟩:=c;exact TK c
 |nil=>have c:e=.v (.slice ae 0 0):=c;subst c;exact aj|any=>exact c|nm d=>obtain⟨a,rfl,_⟩:=c;exact aj
 |tu=>obtain⟨n,rfl,_⟩:=c;exact aj
 |em d=>obtain⟨a,rfl,_⟩:=c;exact aj
theorem DK{n:A}(q:GP h f)(c:yM h n=J w)(a:gX f n d):cd f w d.cells:=by
 have aM:∀{n:A},gX f n d->d.cells=[d]->cd f [n] d.cells:=λa e=>by rw[e];exact aj
 cases n with
 |agg F=>
  cases c;obtain⟨z,B,p⟩:=a;rcases B with⟨rfl,_⟩|⟨C,rfl,rfl⟩
  exact p;exact ar
 |eQ _=>cases c
 |any=>cases c
 |yY=>cases c
 |ptr b s=>simp only[yM]at c;split at c;rename_i m;cases c;obtain⟨id,v,r,i,_,_,e⟩:=a.2 (by rw[q.vH];exact m);exact aM a (by rw[e];rfl);grind
 |rp b s=>simp only[yM]at c;split at c;rename_i m;cases c;obtain⟨id,v,r,u,j,_,_,_,e⟩:=a.2 (by rw[q.vH];exact m);exact aM a (by rw[e];rfl);grind
 |own b=>
  simp only[yM]at c;split at c;rename_i m;cases c;have p:=a.2 (by rw[q.vH];exact m);cases y:f.ν b with|none=>rw[y]at p;exact aM a (by rw[p];exact aj)|some id=>rw[y]at p;obtain⟨v,r,u,_,e⟩:=p;exact aM a (by rw[e];rfl)
  grind
 |int G e=>cases c;have e:=a.2;exact aM a (by rw[e];exact aj)
 |bc b=>cases c;exact aM a (by rw[show d=_ from a];exact aj)
 |bool g H R ag=>cases c;have k:=a;obtain⟨_,b,e,_⟩:=k;exact aM a (by rw[e];exact aj)
 |str e=>cases c;have k:=a;obtain⟨_,b,e,_⟩:=k;exact aM a (by rw[e];exact aj)
 |aY o e I=>cases c;have k:=a;obtain⟨_,l,u,e,m,_⟩:=k;exact aM a (by rw[e];simp[D.cells,TK m])
 |nil=>cases c;exact aM a (by rw[show d=_ from a];exact aj)
 |ip x=>cases c;have k:=a;obtain⟨i,e,_⟩:=k;exact aM a (by rw[e];rfl)
 |fn K n b=>cases c;have k:=a;obtain⟨z,L,e,_⟩:=k;refine aM a ?_;rcases e with e|⟨C,M,e,_⟩<;>rw[e]<;>rfl
 |ct t=>cases c;have k:=a;obtain⟨l,e,E⟩:=k;exact aM a (by rw[e];simp[D.cells,eU E])
 |nm n b O P=>cases c;have k:=a;obtain⟨_,_,_,_,b,e,_⟩:=k;exact aM a (by rw[e];exact aj)
 |mp b=>simp only[yM]at c;split at c;rename_i m;cases c;obtain⟨id,r,Q,_,_,e⟩:=a.2 (by rw[q.vH];exact m);exact aM a (by rw[e];rfl);grind
 |Fy=>cases c;exact aM a (by rw[show d=_ from a];exact aj)
def aio(a:GP h f):(⟨1,0⟩:E).val f.ρ=Gh.n:=by simp[E.val,a.gz.2]
theorem B8{k:A}{s:CT}(c:GP h f)(g:Fh h.G k s=aa)(i:gX f k d):∃l,d=.p l/\CT.ok s l:=by
 unfold Fh at g;split at g;rename_i z e B L I;simp[aq,dJ]at g;obtain⟨rfl,a,j⟩:=g;have a:=dP c.hf a;have j:=dP c.hf j;rw[dW c]at a j;exact⟨_,i.2,_,rfl,a,j⟩;exact⟨_,i,_,rfl⟩;obtain⟨_,b,e,_⟩:=i;exact⟨_,e,_,rfl⟩;rename_i e n;obtain⟨_,k,m,q⟩:=i;have a:=dP c.hf g;rw[dW c,q]at a;exact⟨_,m,k,rfl,a⟩;rename_i o e C D L I;simp only[aq]at g;obtain⟨p,a,j⟩:=g;have a:=dP c.hf a;have j:=dP c.hf j;rw[dW c]at a j;obtain⟨_,l,u,m,q,t,v,_⟩:=i;simp only[fA,aq,lJ]at p;rcases p with p|⟨p,r,w⟩
 exact⟨l,m,u,by rw[<-CT.rV p];exact q,y,y,Rows.lm p v⟩;have p:=aK p;have r:=dP c.hf r;rw[dW c]at r;have:u.length=0:=y;rw[xY]at this;subst this;exact⟨l,m,[],ak,y,y,Rows.nil w⟩;simp[aq,lJ]at g;exact⟨_,i,[],aj,y,U,Rows.nil U⟩;obtain⟨_,_,_,_,k,m,q,t,_⟩:=i;have a:=dP c.hf g;rw[dW c,t]at a;exact⟨_,m,k,rfl,a⟩;obtain⟨_,_,_,_,k,m,q,_⟩:=i;exact⟨_,m,k,rfl,q⟩;simp[aq]at g;have a:=dP c.hf g.1;have j:=dP c.hf g.2;rw[dW c]at a;rw[aio c]at j;refine⟨_,i.2,_,rfl,a,?_⟩;unfold E.val at j⊢;grind;exact⟨_,i,rfl⟩;obtain⟨l,e,x⟩:=i;exact⟨l,e,CT.aaz g x⟩;grind
theorem Fj(g:GP h f):∀{w:List A} {x:List CT} {e:List D},DS h.G w x=aa->cd f w e->∃c,e=c.map .p/\Row x c|[],[],[],_,_=>aj|[],[],_::_,_,i=>aj|[],_::_,_,b,_=>by simp[DS]at b|_::_,[],_,b,_=>by simp[DS]at b|_::_,_::_,[],_,i=>aj|a::w,t::x,d::e,b,i=>by simp[DS,aq]at b;obtain⟨l,rfl,j⟩:=B8 g b.1 i.1;obtain⟨c,rfl,k⟩:=Fj g b.2 i.2;exact⟨l::c,rfl,j,k⟩
def J9{a:P}(b:Sl n a u):lO a=u.length:=by cases b<;>rfl
theorem agJ{c:List P}(i:GP h f)(b:Yf h.G w=aa)(k:cd f w (c.map .p)):Dep c:=by
 unfold Yf at b;split at b;rename_i t j v x z;cases c with
 |nil=>exact aj
 |cons l c=>
  obtain⟨_,_,_,_,a,q,D,U,V,W,X⟩:=k.1;have q:=by injection q
  subst q;split at b;rename_i g Y F G;split at b
  .rename_i e7 e8 H I
   simp[aq]at b;have B:∀{m:A} {n:Nat} {e:E} {r:E},(A.nm t r v x::z)[n]? =J m->cd f (A.nm t r v x::z) ((S a::c).map .p)->Yc m=J e->∃o,(S a::c)[n]? =J o/\lO o=e.val f.ρ:=by
    intro m n e r K k p;obtain⟨d,b,C⟩:=cd.get k n m K;simp only[dN,bj]at b;obtain⟨o,L,rfl⟩:=b;refine⟨o,L,?_⟩;cases m<;>simp[Yc]at p<;>try (cases p;done)
    cases p;obtain⟨_,p',u,s,M,N,_⟩:=C;cases s;rw[J9 M,N];cases p;have s:=C;cases s;rw[dW i];rfl
   obtain⟨O,Q,m7⟩:=B F k H;obtain⟨R,T,m8⟩:=B G k I;have l1:=dP i.hf b.1.1;have l2:=dP i.hf b.1.2;have l3:=dP i.hf b.2.1;have l4:=dP i.hf b.2.2;exact⟨a,O,R,rfl,D,Q,T,y,y⟩
  grind;grind
 grind
theorem LC(c:GP h f){d:List D}(b:No h.G w x=aa)(g:cd f w d):∃a,d=a.map .p/\nF x a:=by
 simp[No,aq,fA]at b;obtain⟨a,rfl,j⟩:=Fj c b.1 g;refine⟨a,rfl,j,?_⟩;unfold RT;split;rename_i e;rcases b.2 with i|i
 grind;exact agJ c i g;simp
def Kj(a:GS m p h f k)(b:Int):(⟨1,0⟩:E).val (f.gF b).ρ=Gh.n:=by
 have c:(1:Nat)≠f.n:=by have:=a.p.vn;have:=a.p.pS;omega
 simp[E.val,bE.gF,c,a.p.gz.2]
def ahe{t:Nat}(a:GS m p h f k)(b:Rows o u):LF h.ns (f.gF u.length).ρ (ac9 (jO o) ⟨h.ns,0⟩):=by have W:=a.p.pS;unfold ac9;split;rename_i e;exact LF.cons aw aw (by rw[Kj a,dG a];exact b.arc e) LF.nil;split;rename_i e;have:=b.ar8 e;exact LF.cons aw aw (by rw[Kj a,dG a];omega) (LF.cons aw aw (by rw[Kj a,dG a];omega) LF.nil);exact LF.nil
theorem U5(a:GS m p h f k)(b:0<=v)(e:v<Gh.n):GS m p (h.fresh [⟨0,h.ns,0⟩,⟨h.ns,1,-1⟩]) (f.gF v) k:=by have c:∀(g:Nat),(⟨0,g,0⟩:F)=dq (num 0) ⟨g,0⟩:=aj;have d:∀(g:Nat),(⟨g,1,-1⟩:F)=dq ⟨g,1⟩ ⟨1,0⟩:=aj;refine LF.fresh a ?_;rw[c,d];refine LF.cons (by simp[num]) aw (by rw[lA a,dG a];exact b) (LF.cons aw (Bm a.p.pS) ?_ LF.nil);rw[Kj a,LZ a];omega
theorem Ru(b:GS m p h f k){a:ByteArray}(c:Gh.nm a):∃d,GS m p (intro (.nm 0) h).2 d k/\cM f d/\gX d (.nm ⟨h.ns,0⟩ ⟨h.ns+1,0⟩ ⟨h.ns+2,0⟩ ⟨h.ns+3,0⟩) (.p (S a))/\
 (⟨h.ns+2,0⟩:E).val d.ρ=Gh.kS a 1/\(⟨h.ns+3,0⟩:E).val d.ρ=Gh.kS a 2:=by
 have w:∀(g:Nat) (n:Int),(⟨0,g,n⟩:F)=dq (num (-n)) ⟨g,0⟩:=λg n=>by simp[dq,num]
 have x:∀(g:Nat) (n:Int),(⟨g,0,n⟩:F)=dq ⟨g,0⟩ (num n):=λg n=>by simp[dq,num]
 have G:∀(g:Nat),(⟨g,1,-1⟩:F)=dq ⟨g,1⟩ ⟨1,0⟩:=aj;have i:∀{h:AS} {f:bE} (b:GS m p h f k) (v j:Int),0<=v->v<=j->GS m p (h.fresh [⟨0,h.ns,0⟩,⟨h.ns,0,j⟩]) (f.gF v) k:=by intro h f b v j H z;refine LF.fresh b ?_;rw[w,x];exact LF.cons (by simp[num]) aw (by rw[lA b,dG b];omega) (LF.cons aw (by simp[num]) (by rw[lA b,dG b];exact z) LF.nil)
 have I:=Gh.Cb a c;have o:=i b a.size 12 y y;have q:=U5 o (Gh.sH a 0 c) (Gh.ED a c);have r:=i q (Gh.kS a 1) 1000 (Gh.sH a 1 c) (Gh.MX a 1 c);have A:=i r (Gh.kS a 2) 1000 (Gh.sH a 2 c) (Gh.MX a 2 c);have B:=f.j7 a.size;have s:=(f.gF a.size).j7 (Gh.kS a 0);have l:=((f.gF a.size).gF (Gh.kS a 0)).j7 (Gh.kS a 1);have e:=(((f.gF a.size).gF (Gh.kS a 0)).gF (Gh.kS a 1)).j7 (Gh.kS a 2);have K:=b.p.vn;have C:(⟨h.ns,0⟩:E).val ((((f.gF a.size).gF (Gh.kS a 0)).gF (Gh.kS a 1)).gF (Gh.kS a 2)).ρ=a.size:=by rw[E.jM (s.trans (l.trans e)) (by simp[bE.gF];omega),dG b]
 have D:(⟨h.ns+1,0⟩:E).val ((((f.gF a.size).gF (Gh.kS a 0)).gF (Gh.kS a 1)).gF (Gh.kS a 2)).ρ=Gh.kS a 0:=by rw[E.jM (l.trans e) (by simp[bE.gF];omega)];exact dG o
 have t:(⟨h.ns+2,0⟩:E).val ((((f.gF a.size).gF (Gh.kS a 0)).gF (Gh.kS a 1)).gF (Gh.kS a 2)).ρ=Gh.kS a 1:=by rw[E.jM e (by simp[bE.gF];omega)];exact dG q
 have u:(⟨h.ns+3,0⟩:E).val ((((f.gF a.size).gF (Gh.kS a 0)).gF (Gh.kS a 1)).gF (Gh.kS a 2)).ρ=Gh.kS a 2:=dG r;refine⟨_,A,B.trans (s.trans (l.trans e)),⟨by simp[bE.gF];omega,by simp[bE.gF];omega,by simp[bE.gF];omega,by simp[bE.gF];omega,a,rfl,c,C,D,t,u⟩,t,u⟩
theorem mV{i:CT}{s:P}(c:GS m p h f k)(d:CT.ok i s):∃l,GS m p (intro i h).2 l k/\cM f l/\gX l (intro i h).1 (.p s):=by
 have j:∀(g:Nat) (n:Int),(⟨0,g,n⟩:F)=dq (num (-n)) ⟨g,0⟩:=λg n=>by simp[dq,num]
 have q:∀(g:Nat) (n:Int),(⟨g,0,n⟩:F)=dq ⟨g,0⟩ (num n):=λg n=>by simp[dq,num]
 have L:∀(v n:Int),-n<=v->(num (-n)).val (f.gF v).ρ<=(⟨h.ns,0⟩:E).val (f.gF v).ρ:=λv n x=>by rw[lA c,dG c];exact x
 have I:∀(v n:Int),v<=n->(⟨h.ns,0⟩:E).val (f.gF v).ρ<=(num n).val (f.gF v).ρ:=λv n x=>by rw[lA c,dG c];exact x
 have B:∀n:Int,(num n).x<=h.ns:=λn=>by simp[num]
 have C:∀v,h.ns<(f.gF v).n:=λv=>by simp[bE.gF,c.p.vn]
 cases i with
 |int D a b=>obtain⟨n,rfl,e,r⟩:=d;refine⟨f.gF n,LF.fresh c ?_,f.j7 n,U,?_⟩;rw[j,q];exact LF.cons U aw (L _ _ y) (LF.cons aw U U LF.nil);rw[dG c]
 |bool=>obtain⟨b,rfl⟩:=d;refine⟨f.gF (if b=aa then 1 else 0),LF.fresh c ?_,f.j7 _,U,b,rfl,?_,fx.nil,fx.nil⟩;rw[j,q];exact LF.cons U aw (L _ _ y) (LF.cons aw U ak LF.nil);rw[<-c.p.vn];simp[bE.gF]
 |str n=>obtain⟨a,rfl,e⟩:=d;refine⟨f.gF a.size,LF.fresh c ?_,f.j7 _,U,a,rfl,dG c⟩;rw[j,q];exact LF.cons U aw i0 (LF.cons aw U U LF.nil)
 |aY o a b=>obtain⟨u,z,e,r,w⟩:=d;refine⟨f.gF u.length,LF.fresh c ?_,f.j7 _,U,s,u,rfl,z,dG c,w,ak⟩;rw[j,j,q];exact LF.cons U aw i0 (LF.cons U aw (L _ _ y) (LF.cons aw U U (ahe (t:=0) c w)))
 |nil=>have d:s=.v (.slice ae 0 0):=d;subst d;exact⟨f,c,cM.refl f,rfl⟩|any=>exact⟨f,c,cM.refl f,aj⟩|nm i=>obtain⟨a,rfl,A⟩:=d;obtain⟨l,e,r,w,_⟩:=Ru c A;exact⟨l,e,r,w⟩
 |em i=>obtain⟨a,rfl,e⟩:=d;refine⟨f.gF a.size,LF.fresh c ?_,f.j7 _,U,a,rfl,dG c⟩;rw[j,q];exact LF.cons U aw i0 (LF.cons aw U U LF.nil)
 |tu=>obtain⟨n,rfl,e,r⟩:=d;exact⟨f.gF n,U5 c e r,f.j7 n,U,by rw[dG c]⟩
def WS{a:bE}{c:A}(e:gX a c d):gX a (Y7 c) d:=by unfold Y7;split;obtain⟨f,_,_,_,b,g,_,h,_⟩:=e;exact⟨f,b,g,h⟩;exact ar
def is{b:A}(c:GS m p h f k)(e:gX f b d):∃a,GS m p (dS b h).2 a k/\cM f a/\gX a (dS b h).1 d:=by unfold dS;split;obtain⟨l,rfl,g⟩:=e;obtain⟨a,i,j,n⟩:=mV c g;exact⟨a,i,j,WS n⟩;exact⟨f,c,cM.refl f,WS e⟩
def wa(b:CT)(a:AS):(intro b a).2.H=a.H/\(intro b a).2.T=a.T/\(intro b a).2.W=a.W/\(intro b a).2.nb=a.nb/\(intro b a).2.rb=a.rb/\(intro b a).2.iz=a.iz/\(intro b a).2.used=a.used:=by cases b<;>exact⟨rfl,rfl,rfl,rfl,rfl,rfl,rfl⟩
def OA(b:A)(a:AS):(dS b a).2.H=a.H/\(dS b a).2.T=a.T/\(dS b a).2.W=a.W/\(dS b a).2.nb=a.nb/\(dS b a).2.rb=a.rb/\(dS b a).2.iz=a.iz/\(dS b a).2.used=a.used:=by unfold dS;split;exact wa _ _;simp
theorem UW{l:St}(e:GS m p h f k)(o:k.T=l.T):∀(q:List (Nat×Nat×dh)) (c:List A) (d:List D) (b:List A),cd f c d->Q1 h c q=J b->∃u,fh l.ev d q=J u/\cd f b u
 |[],c,d,b,i,a=>by cases a;exact aj
 |(off,n,g)::s,c,d,b,i,a=>by simp only[Q1]at a;split at a;rename_i v t;split at a;rename_i j;simp only[aq]at j;have w:=aK j.1;have x:=iB j.2;have r:=DK e.p t (eL e o g);have y:=r.length;have z:=i.length;have ih:=UW e o s _ _ b (i.bI r off) a;simp only[fh];exact U;grind;grind
def yg(b:bE):List (List A)->List (List D)->Prop|[],[]=>True|a::w,d::c=>cd b a d/\yg b w c|_,_=>False
theorem yg.length{b:bE}:∀{w:List (List A)} {a:List (List D)},yg b w a->a.length=w.length|[],[],_=>rfl|[],_::_,i=>aj|_::_,[],i=>aj|_::_,_::_,i=>by simp[yg.length i.2]
theorem yg.set{a:bE}{b:List A}{c:List D}(d:cd a b c):∀{w:List (List A)} {e:List (List D)} (j:Nat),yg a w e->yg a (w.set j b) (e.set j c)|[],[],j,_=>ar|[],_::_,_,i=>aj|_::_,[],_,i=>aj|_::_,_::_,0,i=>⟨d,i.2⟩|_::_,_::_,j+1,i=>⟨i.1,yg.set d j i.2⟩
theorem yg.W5{a:bE}{b:List A}{c:List D}(d:cd a b c):∀n:Nat,yg a (fL n b) (fL n c)|0=>aj|n+1=>⟨d,yg.W5 d n⟩
theorem P2{o:St}(e:GS m p h f k)(q:k.T=o.T)(i:Nat):∀(r:List (Nat×dh)) (c:List (List A)) (d:List (List D)) (b:List (List A)),yg f c d->NQ h i c r=J b->∃u,fP o.ev i d r=J u/\yg f b u
 |[],c,d,b,l,a=>by cases a;exact aj
 |(j,g)::t,c,d,b,l,a=>by simp only[NQ]at a;split at a;rename_i w v;split at a;rename_i n;simp only[aq]at n;have x:=aK n.1;have y:=ml.mp n.2;have s:=DK e.p v (eL e q g);have z:=s.length;have B:=l.length;have ih:=P2 e q i t _ _ b (l.set s j) a;simp only[fP];exact U;grind;grind
theorem WM(e:GP h f){g:List CT}:∀{w:List (List A)} {b:List (List D)},yg f w b->w.all (λi=>No h.G i g)=aa->∃u,dp b=J u/\u.length=w.length/\∀i∈u,nF g i
 |[],[],_,_=>⟨[],rfl,rfl,Y⟩|[],_::_,i,_=>aj|_::_,[],i,_=>aj|a::w,d::b,i,c=>by simp only[List.all_cons,aq]at c;obtain⟨j,rfl,m⟩:=LC e c.1 i.1;obtain⟨u,k,l,n⟩:=WM e i.2 c.2;refine⟨j::u,by simp[dp,nV,k],by simp[l],λo p=>?_⟩;grind
theorem tK(a:List D):FH (cF a) a:=by
 unfold cF;split;rename_i b e;have:∀(a:List D) (b:List P),dv a=J b->a=b.map .p:=by
  intro a;induction a with
  |nil=>intro b e;cases e;rfl
  |cons d a ih=>intro b e;cases d<;>simp[dv]at e;grind
 exact .inr ak;exact aj
end
section
variable [Gh]
variable {q:Fm}{k:Bool}{h:AS}{f:bE}{B:cR}{c:St}{z:ah}
def dY(a:St)(b:ah):C:=⟨a.T,a.bs,a.nx,a.O,b⟩
abbrev jk(a:Fm)(b:Bool)(c:A->AS->Bool)(e:bE)(f:St)(g:ah):D->ah->Nat->Prop:=λd h i=>jS a b c e (dY f g) d h i
theorem GS.La{a:Nat}{c:C}(b:GS q k h f c)(d:aQ h.H a=J ab)(e:kP h k a=aa)(g:f.ν a=J id)(i:f.M id=J gu):c.X id=J gu:=by have j:=(b.m.yn a id (jI b d) g).1 e;have:=b.m.m id;rw[i]at this;simp[bp,j]at this;grind
theorem cd.set{a:bE}{c:A}{d:D}(f:gX a c d):∀{w:List A} {b:List D} (j:Nat),b[j]? =J d->cd a w b->cd a (w.set j c) b|[],[],j,_,_=>ar|[],_::_,_,_,i=>ar|_::_,[],_,_,i=>aj|_::_,_::_,0,e,i=>by simp at e;subst e;exact⟨f,i.2⟩|_::_,_::_,j+1,e,i=>⟨i.1,cd.set f j ar i.2⟩
def Ar(a:List aB)(b:Nat):(a.drop b).head? =a[b]? :=by simp
def Nf{a:Nat}{l:List A}{m:C}(b:GS q k h f m)(p:gX f (.ptr a s) d)(e:aQ h.H a=J (.row l))(t:kP h k a=aa):
 ∃id r i,f.ν a=J id/\f.M id=J (.row i.length r [i])/\m.X id=J (.row i.length r [i])/\d=.ptr id r i.length 0 s/\cd f l i:=by obtain⟨id,c,r,i,g,j,u⟩:=p.2 (jI b e);obtain⟨_,x,y,z,B,n,o,v,w⟩:=b.m.heap a _ e;rw[g]at n;cases n;rw[j]at o;cases o;subst v;exact⟨id,r,i,g,j,b.La e t g j,u,w⟩
theorem ae3{b:Nat}{n:C}(g:GS q k h f n)(v:gX f (.rp b s) d)(i:aQ h.H b=J (.rows o e))(w:kP h k b=aa):
 ∃id r,∃a:List (List P),∃j:Nat,f.ν b=J id/\f.M id=J (.row o.length r (a.map (·.map .p)))/\n.X id=J (.row o.length r (a.map (·.map .p)))/\j<a.length/\d=.ptr id r o.length j s/\e.x<f.n/\e.val f.ρ=a.length/\Rows o a:=by obtain⟨id,c,r,u,j,l,m,B,x⟩:=v.2 (jI g i);obtain⟨_,y,p⟩:=g.m.heap b _ i;rw[l]at p;obtain⟨D,a,t,z,A⟩:=p;rw[m]at t;cases t;exact⟨id,r,a,j,l,m,g.La i w l m,ak,x,y,z,A⟩
def Ce{d:bE}:∀{b:List CT} {c:List P},Row b c->cd d (b.map .ct) (c.map .p)|[],[],_=>ar|[],_::_,a=>ar|_::_,[],a=>ar|_::_,_::_,a=>by simp[Row]at a;exact⟨⟨_,rfl,U⟩,Ce U⟩
theorem cd.YD{a:bE}{c:A}:∀{w:List A} {b:List D} (j:Nat),(∀d,b[j]? =J d->gX a c d)->cd a w b->cd a (w.set j c) b|[],[],j,_,_=>ar|[],_::_,_,_,i=>ar|_::_,[],_,_,i=>aj|_::_,_::_,0,e,i=>⟨U,i.2⟩|_::_,_::_,j+1,e,i=>⟨i.1,cd.YD j U i.2⟩
theorem Vu{e:List A×AS}{n:C}(r:GS q k h f n)(g:Row x i)(b:Dep i)(j:FP x h=J e):∃c,GS q k e.2 c n/\cM f c/\cd c e.1 (i.map .p):=by
 unfold FP at j;split at j;rename_i Q R S T U V s t;cases j;obtain⟨a,u,v,w,y,o,p,z,B⟩:=b;obtain⟨c,D,E,m,F,G⟩:=Ru r y;have H:h.ns+2<c.n:=by obtain⟨_,_,I,_⟩:=m;exact I
 have K:h.ns+3<c.n:=by obtain⟨_,_,_,L,_⟩:=m;exact L
 refine⟨c,D,E,?_⟩;obtain⟨l,W,M⟩:=g.get 7 _ s;rw[o]at W;cases W;obtain⟨l,W,N⟩:=g.get 8 _ t;rw[p]at W;cases W;obtain⟨O,s7,_,_,X,Y⟩:=M;obtain⟨P,s8,_,_,w8,x8⟩:=N;refine cd.YD 8 (λd b=>?_) (cd.YD 7 (λd b=>?_) (cd.YD 0 (λd b=>?_) (Ce g)));simp only[dN,p,fK,du]at b;subst b;exact⟨K,v,P,rfl,s8,by rw[G,<-B,J9 s8],aj,ak⟩;simp only[dN,o,fK,du]at b;subst b;exact⟨H,u,O,rfl,s7,by rw[F,<-z,J9 s7],aj,ak⟩;simp only[dN,w,fK,du]at b;subst b;exact m;grind
def DY{d:C}(b:GS q k h f d)(a:nF x i):∃c,GS q k (gZ x h).2 c d/\cM f c/\cd c (gZ x h).1 (i.map .p):=by unfold gZ;split;rename_i e;split;rename_i l j;have g:=a.2;rw[RT,aU e]at g;exact Vu b a.1 g j;exact⟨f,b,cM.refl f,Ce a.1⟩;exact⟨f,b,cM.refl f,Ce a.1⟩
theorem BX(b:List CT)(a:AS):(gZ b a).2.H=a.H/\(gZ b a).2.T=a.T/\(gZ b a).2.W=a.W/\(gZ b a).2.nb=a.nb/\(gZ b a).2.rb=a.rb/\(gZ b a).2.iz=a.iz/\(gZ b a).2.used=a.used:=by have d:=wa (.nm 0) a;unfold gZ;split;split;rename_i e c;unfold FP at c;grind;simp;simp
theorem Ri{r:A->AS->Bool}{u:C}(c:GS q k h f u)(v:nF x i)(a:QL n s N x h r=aa):∃d,ft n N (i.drop s)=J d/\uL q k r f u (.p d):=by
 unfold QL at a;have e:=v.1;have F:=e.length;split at a;rename_i b;subst b;split at a;rename_i g;simp only[aq]at g;have z:=aK g.1;have B:=aK g.2;subst z B;obtain⟨D,j,m,o⟩:=DY c v;refine⟨.agg i,by simp only[ft,aT,gK];grind,jS.grow m (.ce a j ⟨i.map .p,.inr Y,o⟩)⟩;split at a;rename_i w;have w:=iB w;have y:=e.drop s;have G:=y.length;refine⟨_,by simp only[ft,aT];grind,.ce a c ⟨((i.drop s).take n).map .p,.inr ⟨_,rfl,rfl⟩,?_⟩⟩;have p:=y.take n;exact Ce p;grind;rename_i b;have b:=by simpa using b
 subst b;split at a;rename_i t p;obtain⟨l,W,E⟩:=e.get s t p;obtain⟨D,j,m,o⟩:=mV c E;refine⟨l,by simp[ft,W],jS.grow m (.ce a j o)⟩;exact aj
theorem ai3{mk:Bool}{Q:A->AS->Bool}{ac:Nat->List A->AS->(A->AS->Bool)->Bool}(p:GS q k h f (dY c z))(a:cP ac k (.load n N g mk) h Q=aa):aN B (.load n N g mk) c (jk q k Q f c z):=by
 simp only[cP]at a;have C:=eL p rfl g;have aB:∀{b id:Nat} {ab:AB},aQ h.H b=J ab->f.ν b=J id->(!mk||iM b h.rb)=aa->mk=aa->id<c.bs:=by intro b id ab E hv F hm;subst hm;simp at F;exact p.m.ss b id (jI p E) F hv
 split at a;rename_i b s G;rw[G]at C;split at a;rename_i R E;split at a;rename_i F;simp only[aq]at F;obtain⟨id,r,i,S,T,v,H,w⟩:=Nf p C E U;have v:c.O id=J (.row i.length r [i]):=v;simp only[aN,H,v];refine⟨Y,Y,ak,?_⟩;simp only[tU];have hl:=w.length;split at a;rename_i u;subst u;split at a;rename_i K;have K:=iB K;have aE:=(w.drop s).length;simp only[ba,aT];rw[aU y];exact .ce a p ⟨_,tK _,(w.drop s).take n⟩;grind;rename_i u;have u:N=Z:=by simpa using u
 subst u;split at a;rename_i t ht;obtain⟨d,m,l,rfl,ad⟩:=cd.get w s _ ht;obtain⟨L,I,V,W⟩:=mV p ad;obtain⟨hH,_⟩:=wa t h;have M:aQ (intro t h).2.H b=J (.row R):=by rw[hH];exact E
 have ag:wG L b (.row (R.set s (intro t h).1)):=by
  obtain⟨_,al⟩:=I.m.heap b _ M;obtain⟨aI,s2,O,r2,X,f2,f3,f4⟩:=al;have an:L.ν b=f.ν b:=(V.gu b (by rw[p.p.vb];omega) (jI I M)).2.1;have ao:L.M id=f.M id:=by rw[I.m.m,p.m.m]
  rw[an,S]at X;cases X;rw[ao,T]at f2;cases f2;exact⟨id,_,r,i,U,U,rfl,cd.set W s m f4⟩
 obtain⟨V2,h2,O⟩:=I.aov M ag;simp only[ba,Ar,m];exact jS.grow (V.trans O) (.ce a h2 (W.grow O));rename_i a' _ ax;obtain⟨d,m,ay⟩:=cd.get w s _ ax;simp only[ba,Ar,m];exact .ce a p ay;exact aj;cases a;cases a;rename_i b s G;rw[G]at C;split at a;rename_i o e E;split at a;rename_i F;simp only[aq]at F;obtain⟨id,r,ps,j,S,T,v,H,w,_,_,e6⟩:=ae3 p C E U;have v:c.O id=J (.row o.length r (ps.map (·.map .p))):=v;simp only[aN,w,v];refine⟨Y,Y,ak,?_⟩;rw[dN,bh H];simp only[fK];obtain⟨d,m,P⟩:=Ri p (e6.get (bJ H)) a;have:ba n N ((ps[j].map D.p).drop s)=J (.p d):=by rw[<-nn];unfold ba;unfold ft at m;split;rename_i u;rw[aU u]at m;split at m;rename_i K;cases m;rw[aU ak,<-cD,jL];grind;rename_i u;rw[ap u]at m;rw[HN,m];rfl
 simp only[this];exact P;cases a;cases a;rename_i x G;rw[G]at C;obtain⟨i,e,hr⟩:=C;simp only[aN,e];obtain⟨d,m,P⟩:=Ri p hr a;simp only[gK]at m;simp only[m];exact P;cases a
theorem ahG{d e c:List CT}(b:Ov d e=J c):(∀a,Row d a->Row c a)/\∀a,Row e a->Row c a:=by unfold Ov at b;split at b;rename_i f;cases b;exact⟨U,λa W=>CT.ww f W⟩;split at b;split at b;rename_i g;cases b;simp[aq]at g;exact⟨λa W=>CT.ww U W,λa W=>CT.ww U W⟩;grind;grind
theorem aem{d e c:List CT}(b:Ov d e=J c):(∀a,nF d a->nF c a)/\∀a,nF e a->nF c a:=by unfold Ov at b;split at b;rename_i f;cases b;exact⟨U,λa W=>nF.lm f W⟩;split at b;split at b;rename_i g;cases b;simp[aq]at g;exact⟨λa W=>nF.lm U W,λa W=>nF.lm U W⟩;grind;grind
def Row.bI{b c:List CT}{d e:List P}(f:Row b d)(g:Row c e)(a:Nat):Row (bI b c a) (bI d e a):=by unfold Dl.bI;rw[g.length];exact Row.append (Row.append (f.take a) g) (f.drop _)
def aiD{e:Type}(a:aB->e)(b c:List aB)(d:Nat):(bI b c d).map a=bI (b.map a) (c.map a) d:=by simp[Dl.bI]
theorem adK{l:dh}{N:A->AS->Bool}{S:Nat->List A->AS->(A->AS->Bool)->Bool}(d:GS q k h f (dY c z))(a:cP S k (.store n g l) h N=aa):aN B (.store n g l) c (jk q k N f c z):=by
 simp only[cP]at a;have w:=eL d rfl g;split at a;rename_i T V;have E:=DK d.p V (eL d rfl l);have O:=E.length;split at a;rename_i P;have P:=aK P;split at a;rename_i b s F;rw[F]at w;split at a;rename_i W t;split at a;rename_i u;simp only[aq]at u;have X:=iB u.2;obtain⟨id,r,i,G,H,m,C,D⟩:=Nf d w t U;have m:c.O id=J (.row i.length r [i]):=m;have hl:=D.length;simp only[aN,C,m];refine⟨Y,Y,ak,y,?_⟩;simp only[tU];refine⟨y,?_⟩;have ax:(bI i (c.ev l).cells s).length=i.length:=by rw[BW];omega
 obtain⟨I,K,p⟩:=d.store (es':=[bI i (c.ev l).cells s]) (ab:=.row (bI W T s)) t G H rfl U (λp=>⟨id,i.length,r,bI i (c.ev l).cells s,by simp[bE.wr],by simp[bE.wr],y,(D.grow p).bI (E.grow p) s⟩)
 exact⟨.any,_,I,a,K,p,aj⟩;cases a;cases a;rename_i b s F;rw[F]at w;split at a;rename_i o e t;split at a;rename_i u;simp only[aq]at u;have X:=iB u.2;split at a;rename_i x ay;split at a;rename_i ac aB;split at a;rename_i L;simp only[aq]at L;have ad:=aK L.2;obtain⟨Q,R,ag⟩:=Fj d.p L.1 E;obtain⟨al,an⟩:=ahG ar;obtain⟨id,r,v,j,G,H,m,C,D,e7,e8,M⟩:=ae3 d w t U;have m:c.O id=J (.row o.length r (v.map (·.map .p))):=m;have aE:=(M.1 _ (bJ C)).length;have aI:Q.length=n:=by rw[R]at O;simp at O;omega
 simp only[aN,D,m];refine⟨Y,Y,ak,y,?_⟩;rw[dN,bh C];simp only[fK,d7];refine⟨y,?_⟩;obtain⟨I,K,p⟩:=d.store (es':=(v.map (·.map .p)).set j (bI (v[j].map .p) (c.ev l).cells s)) (ab:=.rows (CD ac) e) t G H Y U (λp=>by
  refine⟨ar,?_⟩;simp only[bE.wr,bi];refine⟨r,v.set j (bI v[j] Q s),?_,?_,Rows.CD λaO ao=>?_⟩;rw[My,ad,List.map_set,aiD,R];exact U;rcases List.mem_or_eq_of_mem_set ao with hm|rfl
  exact al _ (M.1 _ hm);exact an _ ((M.1 _ Y).bI ag s))
 exact⟨.any,_,I,a,K,p,aj⟩;cases a;cases a;cases a;cases a;cases a;cases a;cases a;cases a
def aed{nm:Nat}{a:List P}{g:A->AS->Bool}{l:Nat->List A->AS->(A->AS->Bool)->Bool}(i:GS q k h f (dY c z))(b:cP l k (.alloc nm n a) h g=aa):aN B (.alloc nm n a) c (jk q k g f c z):=by
 simp only[cP]at b;split at b;rename_i d;simp only[aq]at d;have j:=aK d.1;refine⟨j,?_⟩;obtain⟨m,o,e,p,r,t,s⟩:=i.alloc (ab:=.row (a.map ux)) (gu:=.row n (c.gm (c.bs+nm)) [a.map .p]) d.2 (λe=>⟨c.bs+nm,n,c.gm (c.bs+nm),a.map .p,by simp[bE.wr,dY],by simp[bE.wr,dY],by simp[j],(yv i.p a).grow e⟩)
 exact⟨_,_,m,b,o,e,s,λ_=>⟨c.bs+nm,n,c.gm (c.bs+nm),a.map .p,p,r,rfl⟩⟩;cases b
def al3{nm:Nat}{i:A->AS->Bool}{l:Nat->List A->AS->(A->AS->Bool)->Bool}(b:GS q k h f (dY c z))(a:cP l k (.box nm n g) h i=aa):aN B (.box nm n g) c (jk q k i f c z):=by
 simp only[cP]at a;split at a;rename_i m o;have j:=DK b.p o (eL b rfl g);have v:=j.length;split at a;rename_i d;simp only[aq]at d;have w:=aK d.1;refine⟨y,?_⟩;obtain⟨p,r,e,s,t,x,u⟩:=b.alloc (ab:=.row m) (gu:=.row n (c.gm (c.bs+nm)) [(c.ev g).cells]) d.2 (λe=>⟨c.bs+nm,n,c.gm (c.bs+nm),(c.ev g).cells,by simp[bE.wr,dY],by simp[bE.wr,dY],y,j.grow e⟩)
 exact⟨_,_,p,a,r,e,u,λ_=>⟨c.bs+nm,n,c.gm (c.bs+nm),(c.ev g).cells,s,t,rfl⟩⟩;cases a;cases a
theorem Jf{c:dh->D}{d:Nat}:∀{e:List (Nat×dh)} {b u:List (List D)},fP c d b e=J u->u.length=b.length
 |[],_,_,a=>by cases a;rfl
 |(j,g)::f,b,u,a=>by simp only[fP]at a;split at a;have:=Jf a;exact U;grind
theorem Cn:∀{u:List (List D)} {b:List (List P)},dp u=J b->u=b.map (·.map .p)
 |[],b,a=>by cases a;rfl
 |i::d,b,a=>by simp[dp]at a;split at a;rename_i l e W c;cases a;simp[Cn c,Aj i l W];grind
theorem ZH{nm d:Nat}{g:List P}{i:List (Nat×dh)}{r:A->AS->Bool}{y:Nat->List A->AS->(A->AS->Bool)->Bool}(b:GS q k h f (dY c z))(a:cP y k (.bQ nm n d g i) h r=aa):aN B (.bQ nm n d g i) c (jk q k r f c z):=by
 simp only[cP]at a;split at a;rename_i s L;split at a;rename_i o M;split at a;rename_i j;simp only[aq]at j;have l:=aK j.1;obtain⟨u,t,v⟩:=P2 b rfl n i _ _ s (yg.W5 (yv b.p g) d) ar;obtain⟨e,m,p,w⟩:=WM b.p v j.2;simp only[aN];rw[t];simp only[m];split at a;split at a;rename_i C;have D:e.length=d:=by rw[p];have:=v.length;have E:=Jf t;simp at E;omega
 obtain⟨F,x,G,H,I,N,K⟩:=b.alloc (ab:=.rows (qq o) (num s.length)) (gu:=.row n (c.gm (c.bs+nm)) u) C (λx=>by refine⟨by simp only[bE.wr];exact b.p.n0,?_⟩;simp only[bE.wr,bi];exact⟨c.gm (c.bs+nm),e,by rw[sj,l,Cn m],by rw[dW b.p,p],Rows.of w⟩)
 refine .r ⟨_,_,F,a,x,G,K,λ_=>?_⟩;rw[H];exact⟨n,c.gm (c.bs+nm),_,I,by rw[<-D,Cn m,d7];rfl⟩;grind;refine .l (.ce a b ⟨b.p.n0,.im e n aa,e,rfl,by rw[sj,l];exact aj,by rw[dW b.p,p],Rows.of w,λ_=>.inr (by rw[sj,l])⟩);cases a;cases a;cases a
end
section
variable [Gh]
variable {k:Fm}{h:Bool}{m:AS}{p:bE}{B:cR}{f:St}{q:ah}{z:A->AS->Bool}{C:Nat->List A->AS->(A->AS->Bool)->Bool}
def adE{b:List P}{c:List (Nat×Nat×dh)}(d:GS k h m p (dY f q))(a:cP C h (.build b c) m z=aa):aN B (.build b c) f (jk k h z p f q):=by simp[cP]at a;split at a;rename_i e g;obtain⟨u,i,j⟩:=UW d rfl c _ _ e (yv d.p b) g;simp[aN,i];exact .ce a d ⟨u,tK u,j⟩;cases a
def aoS(a:GS k h m p (dY f q))(b:cP C h (.mv g) m z=aa):aN B (.mv g) f (jk k h z p f q):=by simp[cP]at b;split at b;rename_i n d;obtain⟨rfl,e⟩:=akZ d;have i:=a.je n _ e;obtain⟨o,j,l,c⟩:=is a i;exact .grow l (.ce b (j.XV c) c);exact .ce b a (eL a rfl g)
def aiI{d g i:dh}(b:GS k h m p (dY f q))(a:cP C h (.pick d g i) m z=aa):aN B (.pick d g i) f (jk k h z p f q):=by simp[cP]at a;obtain⟨o,l,c,n⟩:=is b (eL b rfl d);obtain⟨t,r,e,a,j⟩:=ve l n a;simp[aN,e];cases t with|true=>exact jS.grow c (.ce a j ((eL b rfl g).grow c))|false=>exact jS.grow c (.ce a j ((eL b rfl i).grow c))
theorem acI(d:GS k h m p (dY f q))(c:cP C h (.lY g) m z=aa):aN B (.lY g) f (jk k h z p f q):=by
 simp only[cP]at c;have l:=eL d rfl g;split at c;rename_i b s n;rw[n]at l;split at c;rename_i t;have o:=l;obtain⟨id,E,r,i,w,y,u⟩:=o.2 (by rw[d.p.vH];exact t);simp[aN,u];exact .ce c d ak;cases c;rename_i b s n;rw[n]at l;split at c;rename_i t;have o:=l;obtain⟨id,E,r,i,j,w,y,F,u⟩:=o.2 (by rw[d.p.vH];exact t);simp[aN,u];exact .ce c d ak;cases c;rename_i x n;rw[n]at l;have o:=l;obtain⟨i,e,v⟩:=o;simp[aN,e];exact .ce c d aj;rename_i G a H n;rw[n]at l;obtain⟨A,D,e,v⟩:=l;rcases e with e|⟨I,K,e,w,y⟩
 simp[aN,e];exact .ce c d ⟨A,D,Y,v⟩;simp[aN,e];exact .ce c d ⟨A,D,ak,v⟩;cases c
def amF{a:dh}(b:GS k h m p (dY f q))(c:cP C h (.lS Q t g a) m z=aa):aN B (.lS Q t g a) f (jk k h z p f q):=by simp[cP]at c;obtain⟨r,i,d,j⟩:=is b (eL b rfl g);obtain⟨s,n,e,o⟩:=is i ((eL b rfl a).grow d);have:=ahZ n (j.grow e) o c;exact Nh (λl W=>jS.grow (d.trans e) W) this
def apC{a:UnOp}(b:GS k h m p (dY f q))(c:cP C h (.un a g) m z=aa):aN B (.un a g) f (jk k h z p f q):=by simp[cP]at c;obtain⟨j,d,e,i⟩:=is b (eL b rfl g);exact P1 (λl W=>jS.grow e W) (akB d i c)
def ahM{kd:cY}(b:GS k h m p (dY f q))(a:cP C h (.zf kd g) m z=aa):aN B (.zf kd g) f (jk k h z p f q):=by simp[cP]at a;obtain⟨o,d,i,c⟩:=is b (eL b rfl g);split at a;rename_i k0 e j;rw[j]at c;obtain⟨l,n⟩:=c;simp[aN,n];exact jS.grow i (Dv d l a);cases a
theorem Zm(a:Int):(gY a).size<=4:=by unfold gY;generalize (if Utf8.valid a=aa then a.toNat else Utf8.runeError)=b;dsimp;by_cases c:b<0x80;rw[aU c];exact i0;rw[ap c];by_cases d:b<0x800;rw[aU d];exact i0;rw[ap d];by_cases e:b<0x10000;rw[aU e];exact i0;rw[ap e];exact i0
def ag0(l:GS k h m p (dY f q))(b:cP C h (.yS g) m z=aa):aN B (.yS g) f (jk k h z p f q):=by simp[cP]at b;obtain⟨n,d,o,c⟩:=is l (eL l rfl g);split at b;rename_i k0 e i;rw[i]at c;obtain⟨r,j⟩:=c;simp[aN,j];have E:=Zm (e.val n.ρ);obtain⟨F,s,t,u,v,w,x,A⟩:=qv d b (gY (e.val n.ρ)).size (Dy d y y);exact jS.grow o ⟨_,s,t,u,v,w,x,_,rfl,A⟩;rename_i e i;rw[i]at c;obtain⟨r,a,j,D⟩:=c;simp[aN,j];exact jS.grow o (.ce b d ⟨r,a,rfl,D⟩);cases b
theorem H8{c:ByteArray}(a:i∈mC c):Row [.int .u8 0 255] i:=by unfold mC at a;obtain⟨b,_,rfl⟩:=List.mem_map.1 a;refine⟨⟨(b.toNat:Int),rfl,y,?_⟩,aj⟩;have:=b.toNat_lt;omega
def DQ(a:ByteArray):(mC a).length=a.size:=by unfold mC;simp
theorem ala(c:GS k h m p (dY f q))(b:cP C h (.KX g) m z=aa):aN B (.KX g) f (jk k h z p f q):=by simp[cP]at b;obtain⟨u,j,l,d⟩:=is c (eL c rfl g);split at b;rename_i e n;rw[n]at d;obtain⟨o,a,r,s⟩:=d;simp[aN,r];exact jS.grow l (.ce b j ⟨o,_,mC a,rfl,aj,by rw[DQ];exact s,⟨λi t=>H8 t,aj⟩,U⟩);cases b
theorem aoZ{off:Nat}(d:GS k h m p (dY f q))(a:cP C h (.fa g off) m z=aa):aN B (.fa g off) f (jk k h z p f q):=by simp only[cP]at a;have c:=eL d rfl g;split at a;rename_i b s l;rw[l]at c;split at a;rename_i n;obtain⟨id,t,r,i,u,v,o⟩:=c.2 (by rw[d.p.vH];exact n);simp[aN,o];exact .ce a d ⟨c.1,ak⟩;cases a;rename_i b s l;rw[l]at c;split at a;rename_i n;obtain⟨id,t,r,i,j,u,v,y,o⟩:=c.2 (by rw[d.p.vH];exact n);simp[aN,o];exact .ce a d ⟨c.1,ak⟩;cases a;rename_i x l;rw[l]at c;obtain⟨i,e,w⟩:=c;simp[aN,e];exact .ce a d ⟨_,rfl,w.drop off⟩;cases a
theorem ajk{off:Nat}(o:GS k h m p (dY f q))(a:cP C h (.yK g off n N) m z=aa):aN B (.yK g off n N) f (jk k h z p f q):=by
 simp only[cP]at a;have w:=eL o rfl g;split at a;rename_i M F;rw[F]at w;obtain⟨x,y,j⟩:=w;have O:=j.length;have s:∀(d:D) (u:D->ah->Nat->Prop),ba n N (x.drop off)=J d->u d f.O f.nx->aN B (.yK g off n N) f u:=by
  intro d u b P;simp only[aN];rcases y with⟨e,_⟩|⟨G,e,rfl⟩
  exact U;simp only[e];have:∃l,ft n N (G.drop off)=J l/\d=.p l:=by rw[<-nn]at b;unfold ba at b;unfold ft;split at b;rename_i i;rw[aU i];split at b;rename_i r;cases b;exact⟨_,aU (by simpa using r),by rw[<-cD,jL]⟩;grind;rename_i i;rw[ap i];rw[HN,bj]at b;grind
  grind
 split at a;rename_i i;subst i;split at a;rename_i r;have r:=iB r;have Q:=(j.drop off).length;exact s _ _ (by simp only[ba,aT];grind) (.ce a o ⟨_,tK _,(j.drop off).take n⟩);cases a;rename_i i;have i:N=Z:=by simpa using i
 subst i;split at a;rename_i t H;obtain⟨d,b,l,rfl,I⟩:=cd.get j off _ H;obtain⟨R,A,E,v⟩:=mV o I;refine s (.p l) _ (by simp[ba,Ar,b]) (jS.grow E ?_);cases g with|t S=>refine .ce a (A.XV ⟨x,?_,cd.set v off b (j.grow E)⟩) v;exact y|c T=>exact .ce a A v
 rename_i V _ K;obtain⟨d,b,L⟩:=cd.get j off _ K;exact s d _ (by simp[ba,Ar,b]) (.ce a o L);cases a;cases a
theorem akW{b:Nat}(c:GS k h m p (dY f q))(a:cP C h (.ext g b) m z=aa):aN B (.ext g b) f (jk k h z p f q):=by simp[cP]at a;have j:=eL c rfl g;split at a;rename_i w o;rw[o]at j;obtain⟨D,e,n⟩:=j;simp[aN,e];split at a;rename_i t r;obtain⟨d,i,l,rfl,s⟩:=cd.get n b _ r;obtain⟨E,u,v,x⟩:=mV c s;simp[i];exact jS.grow v (.ce a u x);rename_i F _ y;obtain⟨d,i,A⟩:=cd.get n b _ y;simp[i];exact .ce a c A;grind;cases a
def ajI{d:Nat}{a b:List dh}(c:GS k h m p (dY f q))(e:cP C h (.Ho (.func d) a b) m z=aa):aN B (.Ho (.func d) a b) f (jk k h z p f q):=by simp[cP]at e;exact .ce e c ⟨_,_,Y,EG c rfl a,EG c rfl b⟩
theorem ajn(v:GS k h m p (dY f q))(a:cP C h (.ti n g j) m z=aa):aN B (.ti n g j) f (jk k h z p f q):=by
 simp only[cP]at a;obtain⟨E,c,w,F⟩:=is v (eL v rfl j);have i:=(eL v rfl g).grow w;split at a;rename_i kd e M;rw[M]at F;obtain⟨V,G⟩:=F;split at a;rename_i o N W x;rw[x]at i;obtain⟨X,l,u,O,P,Q,R,_⟩:=i;split at a;rename_i d;simp only[aq]at d;have A:=aK d.1;have s:=dP c.p.hf d.2.1;have D:=dP c.p.hf d.2.2;rw[dW c.p]at s;rw[ju,Q]at D;rw[Wg,G,O,dm (A▸P)];have S:(e.val E.ρ).toNat<u.length:=y;refine⟨s,?_⟩;rw[bh S];exact jS.grow w (.ce a c ⟨_,rfl,R.get Y⟩);cases a;rename_i b x;rw[x]at i;split at a;rename_i o N H;split at a;rename_i d;simp only[aq]at d;have A:=aK d.1;have s:=dP c.p.hf d.2.1;have D:=dP c.p.hf d.2.2;rw[dW c.p]at s;rw[ju]at D;obtain⟨_,f0,t⟩:=c.m.heap b _ H;have I:=i.2 (jI c H);cases K:E.ν b with|none=>rw[K]at t;have t:=y;omega|some id=>rw[K]at t I;obtain⟨r,u,T,f3,f4⟩:=t;obtain⟨s2,g2,ab,L,U⟩:=I;rw[T]at L;cases L;rw[Wg,G,U,aib];refine⟨A,s,dK,jS.grow w (.ce a c ⟨i.1,ak⟩)⟩
 cases a;cases a;cases a;cases a
def ajw(i:GS k h m p (dY f q))(b:cP C h (.IL g j) m z=aa):aN B (.IL g j) f (jk k h z p f q):=by simp only[cP]at b;obtain⟨G,u,n,c⟩:=is i (eL i rfl g);obtain⟨o,d,r,s⟩:=is u ((eL i rfl j).grow n);have c:=c.grow r;split at b;rename_i kd e H v w;rw[v]at s;rw[w]at c;obtain⟨I,x⟩:=s;obtain⟨K,a,A,D⟩:=c;split at b;rename_i l;simp[aq]at l;have t:=dP d.p.hf l.1;have E:=dP d.p.hf l.2;rw[dW d.p]at t;rw[ju,D]at E;simp[aN,x,A];refine⟨t,?_⟩;have F:(e.val o.ρ).toNat<a.size:=y;rw[getElem?_pos a _ F];have L:(a[(e.val o.ρ).toNat]).toNat<256:=UInt8.toNat_lt _;exact jS.grow (n.trans r) (yo d b y y);cases b;cases b
theorem alN{v:Bool}(w:GS k h m p (dY f q))(c:cP C h (.len v g) m z=aa):aN B (.len v g) f (jk k h z p f q):=by
 simp[cP]at c;obtain⟨E,d,n,i⟩:=is w (eL w rfl g);split at c;rename_i e j;rw[j]at i;obtain⟨L,a,F,M⟩:=i;simp[aN,F];exact jS.grow n (.ce c d aj);rename_i o e N j;rw[j]at i;obtain⟨O,l,u,G,H,P,Q,_⟩:=i;rw[Km,G,dO H];exact jS.grow n (.ce c d aj);rename_i j;rw[j]at i;rw[Km,show f.ev g=_ from i];exact jS.grow n (.ce c d ⟨d.p.n0,by rw[dW d.p]⟩);rename_i b j;rw[j]at i;split at c;rename_i o e x;obtain⟨_,y,s⟩:=d.m.heap b _ x;have t:=i.2 (jI d x);cases A:E.ν b with|none=>rw[A]at s t;rw[Km,t];exact jS.grow n (.ce c d ⟨y,by rw[s.1]⟩)|some id=>rw[A]at s t;obtain⟨r,u,I,R,S⟩:=s;obtain⟨s2,T,V,D,K⟩:=t;rw[I]at D;cases D;rw[Km,K];exact jS.grow n (.ce c d ⟨y,U⟩)
 cases c;cases c
end
end Go.Dl.Ai
