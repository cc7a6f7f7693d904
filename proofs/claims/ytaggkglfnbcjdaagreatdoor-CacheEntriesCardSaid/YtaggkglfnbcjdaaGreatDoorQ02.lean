import Derived.Laws.IdiomRangeMap
import Derived.Test.YtaggkglfnbcjdaaGreatDoorQ01
set_option linter.all false
set_option maxRecDepth 1000000
set_option maxHeartbeats 40000000
namespace Go.Dl.Ai
end Go.Dl.Ai
namespace Go.Proofs
end Go.Proofs
namespace Ty
end Ty
open Array renaming ext_getElem?->HU,getElem?_setIfInBounds->xm,getElem_mem->JA,isEmpty->GI,mem_append->Gt,mem_filter->vX,mem_map->GG,mem_toList_iff->Hd,set!_eq_setIfInBounds->AR,toList_push->IR
open Bool renaming false->Z,true->aa
open ByteArray renaming ext->Qh
open Go renaming Act->cu,MapEntry->fy,Operand->cS,choose->xK,execOp->aG,getObj->kK,resolve->lC,setObj->uc,wpAny->xX
open Go.Act renaming put->HP
open Go.Builtin renaming delete_->A0,len_->pI
open Go.Instr renaming lookup->yT,mapUpdate->Bd,next->x9,sliceBounds->jD
open Go.MapKept renaming run_getObj_map->pF,run_setObj_map->GO
open Go.Question renaming cut->UE,forced->Ak,mapNext->Hc
open Go.Region renaming binds->HX,ready->kZ,wanted->sK
open Go.Sem renaming run->vS
open List renaming getElem?_eraseIdx->Hq,getElem_map->G0,length_cons->ij,map_append->cG,map_set->HM,mem_map->bN
open Nat renaming strongRecOn->IM
open Option renaming map_none->HA,none->ae,some->J
open Go Go.Dl Go.Dl.Ai
def mz:=@decide_eq_false
def jY:=@beq_eq_false_iff_ne
def jz:=@List.mem_cons_of_mem
def bg:=@List.mem_append
def bD:=@List.mem_singleton
def jW:=@List.nodup_append
def Bw:=@List.pairwise_append
def bJ:=@List.getElem_mem
def iS:=@List.mem_of_getElem?
def uk:=@Nat.lt_or_ge
def iL:=@List.map_congr_left
def bt:=@List.mem_cons
def iD:=@List.not_mem_nil
def iT:=@or_false
def pA:=@Array.getD_eq_getD_getElem?
def A6:=@Option.bind_some
def lJ:=@Bool.not_eq_true'
def fA:=@Bool.or_eq_true
def qY:=@beq_iff_eq
def jB:=@List.mem_filter
def yH:=@List.mem_range
def A7:=@Option.getD_some
def BE:=@Bool.not_true
def pq:=@List.any_eq_true
def kR:=@List.cons_append
def rA:=@List.nil_append
def kQ:=@List.nodup_cons
def xe:=@Prod.mk.injEq
variable {V bA:Hp}{L C:ah}{id E v e i m bn bC:Nat}{x:List (P×D×Nat)}{I:Value}{z:Array fy}{ag:Obj}{f j:cS}{g l bB u:TypeId}{M d:D}{bu:KK}{aB:ByteArray->Option D}{aS aP bM:dh}{r:Option Nat}{p:aA}{be:P->Prop}{aR:BinOp}{H:cC}{G:World}{Q:Exit->cu->World->Prop}{R:Array Bool}{bH:List (List Nat)}{bO:Nat->aA->Prop}
namespace Go.Dl
theorem C3{N:Nat->Prop}{c:cC}(id b:Nat)(k i:fg)(hO:L id=J k)(hl:c.loc id=J b)(hb:∀j T d,V b≠J (.cells j T d))(n:bA b≠ae)(hH:∀f,f≠b->bA f=V f)(m:Sm V bA):
 eI N V c L bA c (am L id (J i)) where
 sm:=m
 aL f ag h hm:=by have:f≠b:=λg=>hm ⟨id,by simp[hO],U⟩;exact U
 md f h:=by
  obtain⟨e,h1,h2⟩:=h;refine .inl ⟨e,?_,h2⟩;by_cases g:e=id;exact U
  rwa [eP _ _ g]at h1
 own f h:=U
 gen e:=y
 loc e _:=rfl
 size f a l d h:=by grind
 Co f h:=by grind
 fr e _ _:=rfl
 nw e _ ho:=by by_cases g:e=id;grind;rw[eP _ _ g];exact ho
 A9 f h _ _:=h
theorem E8{c:cC}(hv:iA V c L)(id b:Nat)(k d:fg)(hO:L id=J k)(hl:c.loc id=J b)(hb:∀i T j,V b≠J (.cells i T j))(l:bA b≠ae)(hH:∀f,f≠b->bA f=V f)(m:Sm V bA)(n:d.rd bA c id):iA bA c (am L id (J d)) where
 gu e q hq:=by by_cases g:e=id;subst g;rw[dt]at hq;grind;rw[eP _ _ g]at hq;refine fg.yt (λf a=>hv.gC a) (C3 (N:=λ_=>True) id b k d hO hl hb l hH m) (hv.gu e q hq) rfl (λf a=>hv.gC ⟨e,by simp[hq],a⟩) (λf a=>?_);refine hH f λex=>g ?_;subst ex;exact hv.apart e id f (by simp[hq]) (by simp[hO]) a hl
 apart e r f hi hj h1 h2:=by
  have aB:∀e,(am L id (J d) e).isSome=aa->(L e).isSome=aa:=by
   intro e h;by_cases g:e=id;exact U
   rwa [eP _ _ g]at h
  exact hv.apart e r f U U h1 h2
 there f h:=by by_cases g:f=b;exact U;rw[hH f g];exact hv.there f h
section
variable {Pg:Program}{F:Nat->Prop}{o:Oper}{a:cu}{b:World}{n:cC}{k:St}{A:D->ah->Nat->Prop}
theorem TV{a:cC}(c:iA V a L)(d:L id=J (.map E v x))(f:D.rd V a (.mp id E) I):
 ∃i z,I=.map (J i)/\a.loc id=J i/\a.own i/\a.gen id=E/\V i=J (.map z v)/\E4 z v/\z.size=x.length/\
  ∀(e:Nat) (g:fy),z[e]? =J g->∀(b:P×D×Nat),x[e]? =J b->P.rd V a.own b.1 g.key/\D.rd V a b.2.1 g.val/\g.born=b.2.2:=by
 obtain⟨h,i,j,k,z,l,m,n,o⟩:=c.gu _ _ d;obtain⟨_,_,p⟩:=f;grind
theorem LD{b:cC}(c:z.size=x.length)(d:∀(e:Nat) (g:fy),z[e]? =J g->∀(a:P×D×Nat),x[e]? =J a->P.rd V b.own a.1 g.key/\D.rd V b a.2.1 g.val/\g.born=a.2.2):xO V b.own z.toList x:=
 ⟨y,ak⟩
def Ow(c:z.size=x.length){a:P×D×Nat}(b:x[e]? =J a):∃g,z[e]? =J g:=by have:=(bq.1 b).1;exact U
def nB(a:World)(b:Nat)(c:Obj):World:={a with heap:=a.heap.setIfInBounds b c}
def Kp{a:Obj}(c:W b i=J a):W (nB b i ag) i=J ag:=by have:=(lN.1 c).1;simp[nB,this]
def JU{a:Nat}(c:a≠i):W (nB b i ag) a=W b a:=by simp[nB,dB c]
theorem abi(b:Mz Pg g=J M)(d:World):∃I,(zeroValue g).run Pg d=.ok I d/\∀(V:Hp) (n:cC),D.rd V n M I:=by unfold Mz at b;split at b;rename_i e h;simp[bj]at b;obtain⟨f,i,rfl⟩:=b;exact⟨f,by simp[zeroValue,typeInfo,h,i],λV n=>PB (a:=⟨#[],[]⟩) (w:=d) (c:=⟨λ_=>ae,λ_=>0,λ_=>False⟩) (s:=⟨λ_=>.any,λ_=>ae,0,0,λ_=>0⟩) aj f⟩;grind
theorem Rc(i:z.size=x.length)(b:E4 z v)(d:∀(e:Nat) (g:fy),z[e]? =J g->∀(a:P×D×Nat),x[e]? =J a->g.born=a.2.2):Y3 v x:=by
 have f:x.map (·.2.2)=z.toList.map (·.born):=by apply jX;intro e;simp[dN,ye];by_cases c:e<x.length;grind;exact U
 refine⟨λa h=>?_,by rw[f];exact b.2⟩;obtain⟨e,c,rfl⟩:=eD h;have:=d e _ (jb y) _ (bh c);rw[<-this];exact b.1 _ Y
variable (c:iA (W b) n k.O)(t:∀l,D.rd (W b) n (k.T l) (a.tmps.getD l undef))
theorem aoi(e:W b i=J (.map z v)):∀a c d,W b i≠J (.cells a c d):=ak
theorem Si{a:cC}(c:wh V a id E v x)(d:D.rd V a (.mp id E) I):
 ∃i z,I=.map (J i)/\a.loc id=J i/\a.own i/\a.gen id=E/\V i=J (.map z v)/\E4 z v/\z.size=x.length/\
  ∀(e:Nat) (g:fy),z[e]? =J g->∀(b:P×D×Nat),x[e]? =J b->P.rd V a.own b.1 g.key/\D.rd V a b.2.1 g.val/\g.born=b.2.2:=by
 obtain⟨f,i,h,j,z,k,l,m,n⟩:=c;obtain⟨_,_,o⟩:=d;grind
def aie(a b:ByteArray):jN (.aM .s) (S a) (S b)=J (decide (a=b)):=by simp[jN,tj,du];by_cases g:a=b;exact U;rw[mz g,jY];intro c;rw[sA,sA]at c;exact g (Qh (gq.1 c))
theorem amZ{kp:P}{b:Option D}(c:KP bu kp (.iq E aB)=J b):∃a,bu=.aM .s/\kp=S a/\b=aB a:=by simp[KP]at c;grind
theorem ah4{kp:P}{b:fg}(c:Fv bu kp d (.iq E aB)=J b):∃a,bu=.aM .s/\kp=S a/\b=.iq E (λf=>if f=a then J d else aB f):=by simp[Fv]at c;grind
theorem F9{d:ByteArray->Option D}{a:ByteArray}:∀{x:List (P×D×Nat)},(∀q∈x,∃i:ByteArray,q.1=S i/\d i=J q.2.1)->
 (jF (.aM .s) (S a) x=J ae/\∀q∈x,q.1≠S a)\/∃e q,jF (.aM .s) (S a) x=J (J e)/\x[e]? =J q/\q.1=S a/\d a=J q.2.1
 |[],_=>.inl ⟨by simp[jF,jN,tj],Y⟩
 |q::p,f=>by
  obtain⟨i,h,k⟩:=f q Y;have ih:=F9 (a:=a) λq l=>f q (jz _ l);have b:jN (.aM .s) (S a) q.1=J (decide (a=i)):=by rw[h];exact aie a i
  by_cases g:a=i;subst g;refine .inr ⟨0,q,?_,rfl,h,k⟩;simp only[jF,b,decide_true];grind;have b:jN (.aM .s) (S a) q.1=J Z:=by rw[b,mz g]
  have r:q.1≠S a:=ak;rcases ih with⟨c,m⟩|⟨e,j,c,m,n,o⟩
  refine .inl ⟨by simp only[jF,b,c,HA],λj s=>?_⟩;grind;exact .inr ⟨e+1,j,by simp only[jF,b,c,fK],ar,n,o⟩
include c t
theorem amX{nm:Nat}(j:F (k.bs+nm))(m:k.bs+nm<k.nx)(d:k.gm (k.bs+nm)=n.gen (k.bs+nm)+1)(p:o.op=.makeMap l ae)(h:aN (X Pg) (.Av nm M) k A):OW Pg F k.nx o a b n k.O A:=by
 have t:(aG a.eval o).run Pg b=.ok (.value (.map (J b.heap.size))) (b.alloc (.map #[] 0)):=by simp[aG,p,Instr.makeMap]
 have q:∀f,J b.heap.size=J f->W b f=ae/\W (b.alloc (.map #[] 0)) f≠ae:=λf r=>by cases r;simp
 have e:∀f ag,W b f=J ag->W (b.alloc (.map #[] 0)) f=J ag:=λf ag h=>me _ h;have g:wh (W (b.alloc (.map #[] 0))) (n.new (k.bs+nm) (J b.heap.size)) (k.bs+nm) (n.gen (k.bs+nm)+1) 0 []:=by refine⟨by simp[cC.new,dt],b.heap.size,by simp[cC.new,dt],?_,#[],oC _,⟨ak,Y⟩,rfl,ak⟩;simp[cC.new]
 have i:∀aP:fg,aP.rd (W (b.alloc (.map #[] 0))) (n.new (k.bs+nm) (J b.heap.size)) (k.bs+nm)->A (.mp (k.bs+nm) (n.gen (k.bs+nm)+1)) (am k.O (k.bs+nm) (J aP)) k.nx->OW Pg F k.nx o a b n k.O A:=λaP s h=>OW.value ar h ⟨rfl,by simp[cC.new,dt],λ_=>⟨_,by simp[cC.new,dt],rfl⟩⟩ (Kx c (k.bs+nm) (J b.heap.size) _ q e aj s) (EV (k.bs+nm) (J b.heap.size) _ ak e j aj) y (Cu m)
 rcases h with h|h;rw[d]at h;exact i (.map (n.gen (k.bs+nm)+1) 0 []) g h;have h:A (.mp (k.bs+nm) (k.gm (k.bs+nm))) (am k.O (k.bs+nm) (J (.iq (k.gm (k.bs+nm)) λ_=>ae))) k.nx:=h;rw[d]at h;exact i (.iq (n.gen (k.bs+nm)+1) λ_=>ae) ⟨0,[],⟨ak,ak,Y⟩,g⟩ h
theorem ahn{s:Bool}(hx:cO f=J aS)(hk:cO j=J aP)(y:o.op=.lookup l f j s)(C:Pg.underlying l=J (.map bB g))(S:EC Pg bB=J bu)(hz:Mz Pg g=J M)(h:aN (X Pg) (.sQ bu M s aS aP) k A):OW Pg F k.nx o a b n k.O A:=by
 have T:=eR t hx;have u:=eR t hk;simp only[aN]at h;split at h;rename_i id E kp ex ek;obtain⟨_,h⟩:=h;rw[ex]at T;rw[ek]at u;have u:P.rd (W b) n.own kp (a.eval j):=u;split at h;rename_i ax V;obtain⟨G,h⟩:=h;have H:∀(v:Nat) (x:List (P×D×Nat)) (Y:Option (Option Nat)) (m:Option (P×D×Nat)),wh (W b) n id E v x->(∃r,jF bu kp x=J r/\(match r with|some e=>∃p,x[e]? =J p/\m=J p|none=>m=ae))->
  A (vr s M (m.map (·.2.1))) k.O k.nx->OW Pg F k.nx o a b n k.O A:=by
  intro v x Y m q ⟨r,ab,I⟩ K;obtain⟨i,z,L,hl,aI,hg,hH,hb,hs,ac⟩:=Si q T;have ay:=LD hs ac;have N:(kK i).run Pg b=.ok (.map z v) b:=pF hH;have O:=yG (w:=b) S u (wk ar) z.isEmpty;have Q:=Ad (w:=b) S u ay ar;cases r with
  |some e=>
   obtain⟨p,ad,rfl⟩:=I;obtain⟨en,ag⟩:=Ow hs ad;obtain⟨r1,r2,r3⟩:=ac e en ag p ad;have hv:BU z.toList e=en.val:=by simp[BU,ag]
   cases s with
   |true=>
    have R:(aG a.eval o).run Pg b=.ok (.value (.tuple #[en.val,.bool aa])) b:=by simp[aG,y,yT,bv C,L,N,O,Q,hv]
    refine OW.ce (d:=.eQ [p.2.1,.p (B aa)]) c ar (by simpa[vr]using K) ⟨_,rfl,rfl,U,⟨_,rfl,rfl⟩,aj⟩
   |false=>
    have R:(aG a.eval o).run Pg b=.ok (.value en.val) b:=by simp[aG,y,yT,bv C,L,N,O,Q,hv]
    exact OW.ce c ar (by simpa[vr]using K) r2
  |none=>
   subst I;obtain⟨zv,al,aO⟩:=abi hz b;cases s with
   |true=>
    have R:(aG a.eval o).run Pg b=.ok (.value (.tuple #[zv,.bool Z])) b:=by simp[aG,y,yT,bv C,L,N,O,Q,al]
    refine OW.ce (d:=.eQ [M,.p (B Z)]) c ar (by simpa[vr]using K) ⟨_,rfl,rfl,U,⟨_,rfl,rfl⟩,aj⟩
   |false=>
    have R:(aG a.eval o).run Pg b=.ok (.value zv) b:=by simp[aG,y,yT,bv C,L,N,O,Q,al]
    exact OW.ce c ar (by simpa[vr]using K) U
 cases ax with
 |row=>cases G
 |oe=>cases G
 |map g' v x=>cases G;have q:wh (W b) n id E v x:=c.gu _ _ V;simp only[KP]at h;cases ab:jF bu kp x with|none=>grind|some r=>rw[ab]at h;cases r with|none=>exact H v x ae ae q U h|some e=>simp only at h;cases I:x[e]? with|none=>grind|some p=>rw[I]at h;exact H v x ae (J p) q U h
 |iq g' aB=>
  cases G;obtain⟨v,x,an,q⟩:∃v x,Oj x aB/\wh (W b) n id E v x:=c.gu _ _ V;split at h;rename_i Y hr;obtain⟨a0,rfl,rfl,rfl⟩:=amZ hr;rcases F9 an.key with⟨i1,i2⟩|⟨e,m,i1,i2,i3,i4⟩
  refine H v x ae ae q ⟨ae,i1,rfl⟩ ?_;cases ao:aB a0 with|none=>rw[ao]at h;exact h|some d0=>obtain⟨m,aR,aE⟩:=an.all a0 d0 ao;exact absurd aE aj
  rw[i4]at h;exact H v x ae (J m) q U h;grind
 exact aj;exact aj
theorem ah1{u:TypeId}{e:Call}{nm:Nat}(y:e.callee=.builtin .len)(B:e.args.toList=[f])(C:e.argTypes.toList=[l])(K:cO f=J aS)(D:o.op=.call e)(G:Pg.underlying l=J (.map bB g))(d:aN (X Pg) (.m .len nm [aS]) k A):OW Pg F k.nx o a b n k.O A:=by
 have h:=eR t K;simp only[aN,bG,eC]at d;cases H:k.ev aS<;>simp only[H,th]at d<;>try (exact d.elim)
 rename_i id E;rw[H]at h;split at d;rename_i I v x j;obtain⟨rfl,d⟩:=d;obtain⟨i,z,m,L,M,N,p,O,q,P⟩:=TV c j h;have r:(kK i).run Pg b=.ok (.map z v) b:=pF p;have s:e.args= #[f]:=by rw[<-gq];simpa using B
 have Q:(aG a.eval o).run Pg b=.ok (.value (.int .i64 x.length)) b:=by
  have w:e.argTypes= #[l]:=by rw[<-gq];simpa using C
  simp[aG,D,y,invoke,builtin,lC,s,w,m,r,pI,q,bv G];rfl
 exact OW.ce c ar d rfl;rename_i I aB j;obtain⟨rfl,d⟩:=d;obtain⟨v,x,S,R⟩:∃v x,Oj x aB/\wh (W b) n id I v x:=c.gu _ _ j;obtain⟨i,z,m,L,M,N,p,O,q,P⟩:=Si R h;have r:(kK i).run Pg b=.ok (.map z v) b:=pF p;have s:e.args= #[f]:=by rw[<-gq];simpa using B
 have Q:(aG a.eval o).run Pg b=.ok (.value (.int .i64 x.length)) b:=by
  have w:e.argTypes= #[l]:=by rw[<-gq];simpa using C
  simp[aG,D,y,invoke,builtin,lC,s,w,m,r,pI,q,bv G];rfl
 exact OW.ce c ar (d x.length) rfl;exact aj
omit c t in
theorem aa5{b a:fy}(c:E4 z v)(d:z[e]? =J b)(h:a.born=b.born):E4 (z.set! e a) v:=by
 have i:e<z.size:=(lN.1 d).1;have g:(z.set! e a).toList.map (·.born)=z.toList.map (·.born):=by simp only[AR,OX,HM];apply jX;intro j;rw[jG];split;rename_i k;subst k;simp[h,i,(lN.1 d).2];rfl
 refine⟨λf l=>?_,by rw[g];exact c.2⟩;have:f.born∈(z.set! e a).toList.map (·.born):=bN.2 ⟨f,l,rfl⟩;rw[g]at this;obtain⟨p,m,n⟩:=bN.1 this;rw[<-n];exact c.1 p m
theorem L8{B:cS}{kp:P}{k0:fg}(K:k.O id=J k0)(hM:wh (W b) n id E v x)(h1:D.rd (W b) n (.mp id E) (a.eval f))(O:P.rd (W b) n.own kp (a.eval j))(h3:D.rd (W b) n d (a.eval B))(T:o.op=.mapUpdate l f j B\/o.op=.insert l f j B)(hu:Pg.underlying l=J (.map bB g))(ad:EC Pg bB=J bu)(a5:jF bu kp x=J r)(m:∀e,r=J e->∃s,x[e]? =J s)(a6:∀C H I G,(match r with|some e=>∃s,x[e]? =J s/\C=v/\H=x.set e (kp,d,s.2.2)|none=>C=v+1/\H=x++[(kp,d,v)])->(wh (W G) n id E C H->I.rd (W G) n id)->A .any (am k.O id (J I)) k.nx->True){I:fg}(hK:A .any (am k.O id (J I)) k.nx)(aI:∀V C H,(match r with|some e=>∃s,x[e]? =J s/\C=v/\H=x.set e (kp,d,s.2.2)|none=>C=v+1/\H=x++[(kp,d,v)])->wh V n id E C H->I.rd V n id):OW Pg F k.nx o a b n k.O A:=by
 have al:∀G,(Bd l (a.eval f) (a.eval j) (a.eval B)).run Pg b=.ok () G->(aG a.eval o).run Pg b=.ok .skip G:=by intro G hr;rcases T with T|T<;>simp[aG,T,hr]
 obtain⟨i,z,e1,L,a7,hg,Q,M,hs,U⟩:=Si hM h1;have aO:=LD hs U;have an:(kK i).run Pg b=.ok (.map z v) b:=pF Q;have ao:∀ag,(uc i ag).run Pg b=.ok () (nB b i ag):=λag=>GO ag Q;have R:∀i,Md n k.O i->n.own i:=λi M=>c.gC M;have ax:=yG (w:=b) ad O (wk ar) Z;have ay:=Ad (w:=b) ad O aO ar;cases r with
 |some e=>
  obtain⟨s,hq⟩:=m e rfl;obtain⟨en,ab⟩:=Ow hs hq;obtain⟨r1,r2,r3⟩:=U e en ab s hq;obtain⟨q',aB,aP⟩:=Lw ar;rw[hq]at aB;cases aB;have aR:=acG (Pg:=Pg) (w:=b) aP O r1;have aS:e<z.size:=ak;let h:=z.set! e {en with key:=a.eval j,val:=a.eval B}
  have a0:z.modify e (λg=>{g with key:=a.eval j,val:=a.eval B})=h:=by apply HU;intro r;simp only[h,sX,AR,xm];split;grind;rfl
  have aE:=al (nB b i (.map h v)) (by
   have a1:((z[e]?).map (·.key)).getD (a.eval j)=en.key:=by rw[ab];rfl
   simp only[Bd,iN,bv hu,lZ,e1,an,ax,ay,fK,a1,aR,a0,ao])
  have X:W (nB b i (.map h v)) i=J (.map h v):=Kp Q;have S:∀f,f≠i->W (nB b i (.map h v)) f=W b f:=λf t=>JU t;have u:=C3 (N:=F) id i _ I K L ak ak S aj;have hk:wh (W (nB b i (.map h v))) n id E v (x.set e (kp,d,s.2.2)):=by refine⟨hg,i,L,ar,h,X,aa5 M ab rfl,ak,λr ej m qj q=>?_⟩;rw[jG]at q;simp only[h,AR,xm]at m;split at q;rename_i ac;subst ac;simp only[aT,aS]at m;cases m;split at q;cases q;exact⟨P.lQ ak _ _ O,D.mI R u _ _ h3,r3⟩;simp;omega;rename_i ac;rw[ap ac]at m;obtain⟨t1,t2,t3⟩:=U r ej m qj q;exact⟨P.lQ ak _ _ t1,D.mI R u _ _ t2,t3⟩
  exact OW.skip ar hK trivial (E8 c id i _ _ K L ak ak S aj ak) u y (yR K)
 |none=>
  let h:=z.push {key:=a.eval j,val:=a.eval B,born:=v}
  have aE:=al (nB b i (.map h (v+1))) (by simp only[Bd,iN,bv hu,lZ,e1,an,ax,ay,HA,ao,h])
  have X:W (nB b i (.map h (v+1))) i=J (.map h (v+1)):=Kp Q;have S:∀f,f≠i->W (nB b i (.map h (v+1))) f=W b f:=λf t=>JU t;have u:=C3 (N:=F) id i _ I K L ak ak S aj;have a2:E4 h (v+1):=by
   refine⟨λf t=>?_,?_⟩;simp only[h,IR,bg,bD]at t;rcases t with t|rfl
   have:=M.1 f t;omega;exact aw;simp only[h,IR,cG,bG,eC];refine jW.2 ⟨M.2,Y,λf t p hy=>?_⟩;obtain⟨g,he,rfl⟩:=bN.1 t;have:=M.1 g he;grind
  have hk:wh (W (nB b i (.map h (v+1)))) n id E (v+1) (x++[(kp,d,v)]):=by
   refine⟨hg,i,L,ar,h,X,a2,ak,λr ej m qj q=>?_⟩;simp only[h,Array.getElem?_push]at m;rw[jZ]at q;split at q;rename_i a3;rw[ap y]at m;obtain⟨t1,t2,t3⟩:=U r ej m qj q;exact⟨P.lQ ak _ _ t1,D.mI R u _ _ t2,t3⟩;rename_i a3;have a4:r=x.length:=by have:=(bq.1 q).1;simp at this;omega
   subst a4;rw[aU hs.symm]at m;cases m;simp at q;subst q;exact⟨P.lQ (eI.pure R u) _ _ O,D.mI R u _ _ h3,rfl⟩
  exact OW.skip aE hK trivial (E8 c id i _ _ K L (aoi Q) (by rw[X];simp) S ⟨rfl,rfl⟩ (aI _ _ _ ⟨rfl,rfl⟩ hk)) u (bV _) (yR K)
omit c t in
theorem akb{b:ByteArray}{G:Nat}{z:List (P×D×Nat)}(m:Oj x aB)(W:match r with|some e=>∃c,x[e]? =J c/\G=v/\z=x.set e (S b,d,c.2.2)|none=>G=v+1/\z=x++[(S b,d,v)])(H:jF (.aM .s) (S b) x=J r):Oj z (λf=>if f=b then J d else aB f):=by
 rcases F9 (a:=b) m.key with⟨t,n⟩|⟨e,c,t,n,A,R⟩;rw[H]at t;cases t;obtain⟨_,rfl⟩:=W;refine⟨λc l=>?_,λo B k=>?_,?_⟩;rcases bg.1 l with l|l;obtain⟨i,k,q⟩:=m.key c l;have:i≠b:=λg=>n c l (by rw[k,g]);exact⟨i,k,by simp[this,q]⟩;simp only[bD]at l;subst l;exact⟨b,rfl,Y⟩;by_cases g:o=b;subst g;exact⟨(S o,d,v),Y,rfl⟩;simp only[g,dC]at k;obtain⟨c,q,u⟩:=m.all o B k;exact⟨c,by simp[q],u⟩;rw[cG,bG,eC,Bw];refine⟨m.nd,Y,λf M p I=>?_⟩;obtain⟨c,l,rfl⟩:=bN.1 M;simp only[bD]at I;subst I;exact n c l;rw[H]at t;cases t;obtain⟨T,K,_,rfl⟩:=W;rw[n]at K;cases K;have s:e<x.length:=(bq.1 n).1;have N:(x.set e (S b,d,c.2.2)).map (·.1)=x.map (·.1):=by
  rw[HM];apply jX;intro j;rw[jG];split;rename_i w;subst w;have y:x[e].1=S b:=by have:=bh s;rw[n]at this;cases this;exact A
  simp[s,y];rfl
 refine⟨λO Q=>?_,λo B k=>?_,by rw[N];exact m.nd⟩;obtain⟨j,w,rfl⟩:=eD Q;have C:j<x.length:=by simpa using w
 rw[List.getElem_set];split;exact⟨b,rfl,Y⟩;rename_i E;obtain⟨i,k,q⟩:=m.key x[j] (bJ C);have:i≠b:=by
  rintro rfl;have L:=List.pairwise_iff_getElem.1 m.nd;have y:x[e].1=S i:=by have:=bh s;rw[n]at this;cases this;exact A
  rcases Fs E with F|F;have:=L e j (by simpa using s) (by simpa using C) F;simp only[G0]at this;exact this (by rw[y,k]);have:=L j e (by simpa using C) (by simpa using s) F;simp only[G0]at this;exact this (by rw[y,k])
 exact⟨i,k,by simp[this,q]⟩;by_cases g:o=b;subst g;refine⟨(S o,d,c.2.2),?_,rfl⟩;exact List.mem_set (h:=by simpa using s) ..;simp only[g,dC]at k;obtain⟨O,q,u⟩:=m.all o B k;obtain⟨j,w,rfl⟩:=eD q;refine⟨x[j],?_,u⟩;have E:e≠j:=by rintro rfl;have:=bh s;rw[n]at this;cases this;rw[A]at u;cases u;exact g rfl
 have:(x.set e (S b,d,c.2.2))[j]? =J x[j]:=by rw[List.getElem?_set_ne E,bh w]
 exact iS this
theorem O9{C:cS}(Q:cO f=J aS)(R:cO j=J aP)(T:cO C=J bM)(D:o.op=.mapUpdate l f j C\/o.op=.insert l f j C)(G:Pg.underlying l=J (.map bB g))(I:EC Pg bB=J bu)(d:aN (X Pg) (.qx bu aS aP bM) k A):OW Pg F k.nx o a b n k.O A:=by
 have u:=eR t Q;have m:=eR t R;have K:=eR t T;simp[aN]at d;split at d;rename_i id E kp Y ek;rw[Y]at u;rw[ek]at m;have m:=m;split at d;rename_i ab q;obtain⟨w,d⟩:=d;split at d;rename_i i p;cases ab with
 |row=>cases w
 |oe=>cases w
 |map g' v x=>
  cases w;have y:=c.gu _ _ q;simp[Fv]at p;cases z:jF bu kp x with
  |none=>grind
  |some r=>
   rw[z]at p;cases r with
   |none=>cases p;exact L8 c t q y u m K D G I ar ak U d (λV H L h s=>by obtain⟨rfl,rfl⟩:=h;exact s)
   |some e=>simp at p;cases N:x[e]? with|none=>grind|some B=>rw[N]at p;cases p;exact L8 c t q y u m K D G I ar ak U d (λV H L h s=>by obtain⟨q',O,rfl,rfl⟩:=h;rw[N]at O;cases O;exact s)
 |iq g' aB=>
  cases w;obtain⟨v,x,P,y⟩:∃v x,Oj x aB/\wh (W b) n id E v x:=c.gu _ _ q;obtain⟨a0,rfl,rfl,rfl⟩:=ah4 ar;obtain⟨r,z,hj⟩:∃r,jF (.aM .s) (S a0) x=J r/\∀e,r=J e->∃B,x[e]? =J B:=by rcases F9 P.key with⟨M,_⟩|⟨e,B,M,i2,_⟩;exact⟨_,M,λe h=>by cases h⟩;exact⟨_,M,λi' h=>by cases h;exact⟨B,i2⟩⟩
  exact L8 c t q y u m K D G I z hj (λ_ _ _ _ _ _ _=>trivial) d (λV H L h s=>⟨H,L,akb P h z,s⟩)
 exact aj;exact aj;exact aj
theorem ahr{e:cS}(h:cO f=J aS)(i:cO j=J aP)(m:cO e=J bM)(v:o.op=.insert l f j e)(p:Pg.underlying l=J (.map bB g))(q:EC Pg bB=J (.aM .s))(d:aN (X Pg) (.oY aS aP bM) k A):OW Pg F k.nx o a b n k.O A:=by refine O9 c t h i m U p q ?_;simp[aN]at d⊢;split at d;rename_i id E w r s;simp[r,s];split at d;rename_i x aB u;obtain⟨rfl,d⟩:=d;simp only[u,uN];exact aj;exact aj;exact U
theorem aid{q:Call}{nm:Nat}(hc:q.callee=.builtin .delete)(aE:q.args.toList=[f,j])(aI:q.argTypes.toList=[l,u])(B:cO f=J aS)(L:cO j=J aP)(ho:o.op=.call q)(U:Pg.underlying l=J (.map bB g))(C:EC Pg bB=J bu)(d:aN (X Pg) (.m (.Ug bu) nm [aS,aP]) k A):OW Pg F k.nx o a b n k.O A:=by
 have V:=eR t B;have p:=eR t L;simp only[aN,bG,eC]at d;cases Y:k.ev aS<;>simp only[Y,th]at d<;>try (exact d.elim)
 rename_i id E;cases ek:k.ev aP<;>simp only[ek]at d<;>try (exact d.elim)
 rename_i kp;rw[Y]at V;rw[ek]at p;have p:P.rd (W b) n.own kp (a.eval j):=p;have ha:q.args= #[f,j]:=by rw[<-gq];simpa using aE
 have aO:q.argTypes= #[l,u]:=by rw[<-gq];simpa using aI
 have ab:∀G,(A0 #[l,u] o.type #[a.eval f,a.eval j]).run Pg b=.ok (.tuple #[]) G->(aG a.eval o).run Pg b=.ok (.value (.tuple #[])) G:=by intro G hr;simp[aG,ho,hc,invoke,builtin,lC,ha,aO,hr]
 split at d;rename_i g' v x H;obtain⟨rfl,d⟩:=d;obtain⟨i,z,e1,M,a6,hg,I,K,hs,ac⟩:=TV c H V;have ad:=LD hs ac;have al:(kK i).run Pg b=.ok (.map z v) b:=pF I;have an:∀ag,(uc i ag).run Pg b=.ok () (nB b i ag):=λag=>GO ag I;have aR:∀i,Md n k.O i->n.own i:=λi K=>c.gC K;split at d;rename_i e a0;have O:=yG (w:=b) C p (wk ar) z.isEmpty;have Q:=Ad (w:=b) C p ad ar;obtain⟨a7,hq,_⟩:=Lw ar;obtain⟨en,a8⟩:=Ow hs hq;have ao:e<z.size:=ak;let h:=z.eraseIdxIfInBounds e
 have R:h.toList=z.toList.eraseIdx e:=by simp[h]
 have S:=ab (nB b i (.map h v)) (by simp[A0,bv U,e1,al,O,Q,an,h])
 have a1:W (nB b i (.map h v)) i=J (.map h v):=Kp I;have ax:∀f,f≠i->W (nB b i (.map h v)) f=W b f:=λf B=>JU B;have ay:=C3 (N:=F) id i _ (.map g' v (x.eraseIdx e)) H M ak ak ax aj;have a2:E4 h v:=by refine⟨λf B=>?_,?_⟩;rw[R]at B;exact K.1 f ak;rw[R];exact K.2.sublist ak
 have L:fg.rd (W (nB b i (.map h v))) n id (.map g' v (x.eraseIdx e)):=by
  refine⟨hg,i,M,ar,h,a1,a2,?_,λr T s qj a3=>?_⟩;grind;have s:h.toList[r]? =J T:=by simpa using s
  rw[R,Hq]at s;rw[Hq]at a3;have:∃m:Nat,z.toList[m]? =J T/\x[m]? =J qj:=by split at s;grind;grind
  obtain⟨m,a9,a4⟩:=this;obtain⟨t1,t2,t3⟩:=ac m T ak qj a4;exact⟨P.lQ ak _ _ t1,D.mI aR ay _ _ t2,t3⟩
 exact OW.value ar d aj (E8 c id i _ _ H M ak ak ax aj L) ay y (yR H);rename_i a0;have O:=yG (w:=b) C p (wk ar) z.isEmpty;have Q:=Ad (w:=b) C p ad ar;have S:=ab (nB b i (.map z v)) (by simp[A0,bv U,e1,al,O,Q,an])
 have a5:nB b i (.map z v)=b:=by have aB:b.heap[i]? =J (.map z v):=I;have ao:=(lN.1 aB).1;have hv:=(lN.1 aB).2;unfold nB;congr 1;apply HU;intro r;rw[xm];split;rename_i s;subst s;simp[ao,hv];rfl
 rw[a5]at S;exact OW.ce c S d trivial;grind;exact aj
theorem aav{nm:Nat}(q:F (k.bs+nm))(r:k.bs+nm<k.nx)(s:k.gm (k.bs+nm)=n.gen (k.bs+nm)+1)(h:cO f=J aS)(u:o.op=.range l f)(w:Pg.underlying l=J (.map bB g))(d:aN (X Pg) (.m .range nm [aS]) k A):OW Pg F k.nx o a b n k.O A:=by
 have j:=eR t h;simp only[aN,bG,eC]at d;cases m:k.ev aS<;>simp only[m,th]at d<;>try (exact d.elim)
 rename_i id E;rw[m]at j;split at d;rename_i B v x C;obtain⟨rfl,d⟩:=d;rw[s]at d;obtain⟨i,z,D,G,N,H,I,O,P,Q⟩:=TV c C j;have R:(aG a.eval o).run Pg b=.ok (.value (.pointer (J ⟨b.heap.size,0,ae⟩))) (b.alloc (.mapIter (J i) v #[] v)):=by have:=run_range_map b l bB g i z v w I;simp[aG,u,D,this]
 have K:∀f,J b.heap.size=J f->W b f=ae/\W (b.alloc (.mapIter (J i) v #[] v)) f≠ae:=λf h=>by cases h;simp
 have p:∀f ag,W b f=J ag->W (b.alloc (.mapIter (J i) v #[] v)) f=J ag:=λf ag d=>me _ d;have L:fg.rd (W (b.alloc (.mapIter (J i) v #[] v))) (n.new (k.bs+nm) (J b.heap.size)) (k.bs+nm) (.oe (n.gen (k.bs+nm)+1) id B v [] v):=by refine⟨by simp[cC.new,dt],b.heap.size,by simp[cC.new,dt],by simp[cC.new],?_,i,oC _,λM=>?_⟩;by_cases e:id=k.bs+nm;subst e;simp[cC.new,dt];omega;simp[cC.new,eP _ _ e,H];by_cases e:id=k.bs+nm;subst e;simp[cC.new,dt]at M;omega;simp[cC.new,eP _ _ e,G]
 refine OW.value ar d ⟨Y,by simp[cC.new,dt],λ_=>⟨b.heap.size,by simp[cC.new,dt],Y⟩⟩ (Kx c (k.bs+nm) (J b.heap.size) _ K p aj L) (EV (k.bs+nm) (J b.heap.size) _ ak p q aj) y (Cu r);exact aj
theorem VL{d:Nat}{f:List Nat}(g:k.O id=J (.oe E m d bn f bC))(h:D.rd (W b) n (.ptr id E 0 0 0) I):
 ∃a e,I=.pointer (J ⟨a,0,ae⟩)/\n.loc id=J a/\n.own a/\n.gen id=E/\W b a=J (.mapIter (J e) bn f.toArray bC)/\d<=n.gen m/\(n.gen m=d->n.loc m=J e):=by obtain⟨i,a,j,l,o,e,p,q⟩:=c.gu _ _ g;obtain⟨_,_,r⟩:=h;grind
theorem agV{nm:Nat}(w:cO f=J aS)(y:o.op=.entry f)(d:aN (X Pg) (.m .Ew nm [aS]) k A):OW Pg F k.nx o a b n k.O A:=by
 have h:=eR (s:=k) t w;simp only[aN,bG,eC]at d;cases l:k.ev aS<;>simp only[l,th]at d<;>try (exact d.elim)
 rename_i id E p e r;have B:p=0/\e=0/\r=0:=by by_cases C:p=0/\e=0/\r=0;exact C;grind
 obtain⟨rfl,rfl,rfl⟩:=B;simp only at d;rw[l]at h;split at d;rename_i g' m mg bn g bC D;obtain⟨rfl,d⟩:=d;obtain⟨q,G,H,hl,an,hg,I,ao,K⟩:=VL c t D h;split at d;rename_i ax v x L;obtain⟨rfl,rfl,d⟩:=d;obtain⟨M,i,N,ay,z,O,u,P,Q⟩:=c.gu _ _ L;have R:i=G:=by have:=K M;rw[N]at this;cases this;rfl
 subst R;obtain⟨aB,S,T,V⟩:=d (Rc P u ak);obtain⟨j,W,rfl⟩:=eD S;have ab:z[j]? =J z[j]:=Y;obtain⟨r1,r2,r3⟩:=Q j _ ab _ (bh W);have ac:z.find? (λf=>f.born==x[j].2.2)=J z[j]:=by rw[<-Array.find?_toList,<-r3];exact find_born z[j] z.toList u.2 Y
 have ad:g.toArray.back? =J x[j].2.2:=by simpa[Array.back?,List.getLast?_eq_getElem?]using T
 have aE:(aG a.eval o).run Pg b=.ok (.value (.tuple #[z[j].key,z[j].val])) b:=by
  have ag:(kK q).run Pg b=.ok (.mapIter (J i) bn g.toArray v) b:=by have:b.heap[q]? =J (.mapIter (J i) bn g.toArray v):=I;simp[kK,vS,this]
  have al:(kK i).run Pg b=.ok (.map z v) b:=pF O;simp[aG,y,H,Instr.entry,ag,al,ad,ac]
 exact OW.ce c ar V ⟨_,rfl,rfl,⟨_,rfl,r1⟩,U,aj⟩;exact aj;exact aj
omit c t in
theorem Tw(t:TypeId){d i:Nat}{c:Array Nat}{h:Array fy}(D:W b d=J (.mapIter (J i) bn c bC))(z:W b i=J (.map h v))(E:(!c.isEmpty&& !h.isEmpty&&h.all (λf=>decide (f.born>=bC)))=Z):
 ((∀g∈h.toList,g.born<bn->c.contains g.born=aa)/\∃a:World,a.Alike b/\(x9 (.pointer (J ⟨d,0,ae⟩)) Z t).run Pg b=.ok (.tuple #[.bool Z]) a)\/
 ∃g∈h.toList,c.contains g.born=Z/\∃a:World,a.Alike b/\(x9 (.pointer (J ⟨d,0,ae⟩)) Z t).run Pg b=.ok (.tuple #[.bool aa,g.key,g.val]) (nB a d (.mapIter (J i) bn (c.push g.born) v)):=by
 have A:b.heap[d]? =J (.mapIter (J i) bn c bC):=D;have Q:b.heap[i]? =J (.map h v):=z;have F:(kK d).run Pg b=.ok (.mapIter (J i) bn c bC) b:=by simp[kK,vS,A]
 have G:(kK i).run Pg b=.ok (.map h v) b:=pF z;have H:∀p,0<p->∃(r:Nat) (a:World),r<p/\a.Alike b/\(xK (Hc p)).run Pg b=.ok r a:=by intro p l;by_cases B:p<=1;exact⟨0,b,l,⟨rfl,rfl,rfl⟩,by simp[xK,vS,Ak,B]⟩;exact⟨_,b.drew,AL _ l,⟨rfl,rfl,rfl⟩,by simp only[xK,vS,Ak,dJ,B,dC,UE];rfl⟩
 let left:=h.filter λg=> !c.contains g.born
 let j:=left.filter (·.born<bn)
 let C:=left.filter (·.born>=bn)
 let e:Array (Option fy):=(if j.isEmpty then #[ae] else #[])++(j++C).map J
 have I:0<e.size:=by
  simp only[e];by_cases u:j.isEmpty=aa;simp[u];omega;have:0<j.size:=by rcases Nat.eq_zero_or_pos j.size with w|w;exact absurd (by simp[GI,w]) u;exact w
  simp[u];omega
 obtain⟨r,a,x,y,K⟩:=H e.size I;have L:∀g,J g∈e->g∈h.toList/\c.contains g.born=Z:=by
  intro g k;simp only[e,Gt,GG]at k;rcases k with k|⟨f,m,k⟩
  split at k<;>simp at k;cases k;have:g∈left:=by rcases m with m|m;exact(vX.1 m).1;exact(vX.1 m).1
  obtain⟨q,n⟩:=vX.1 this;exact⟨Hd.2 q,by simpa using n⟩
 have M:ae∈e->∀g∈h.toList,g.born<bn->c.contains g.born=aa:=by
  intro l g k N;have O:j.isEmpty=aa:=by
   simp only[e,Gt,GG]at l;rcases l with l|⟨f,_,m⟩
   split at l;assumption;simp at l;cases m
  cases o:c.contains g.born with
  |true=>rfl
  |false=>
   exfalso;have q:g∈left:=vX.2 ⟨Hd.1 k,by rw[o];rfl⟩;have n:g∈j:=vX.2 ⟨q,by simpa using N⟩;have:j.size=0:=by simpa[GI]using O
   rw[Array.eq_empty_of_size_eq_zero this]at n;simp at n
 have P:∀ag,(uc d ag).run Pg a=.ok () (nB a d ag):=by
  intro ag;have:a.heap[d]? =J (.mapIter (J i) bn c bC):=by rw[y.1];exact A
  simp[uc,vS,this,nB]
 have s:(x9 (.pointer (J ⟨d,0,ae⟩)) Z t).run Pg b=(match e[r]? with|some (J g)=>(do uc d (.mapIter (J i) bn (c.push g.born) v);pure (.tuple #[.bool aa,g.key,g.val]):Sem Value)|some ae=>pure (.tuple #[.bool Z])|none=>stuck "Next: no such candidate").run Pg a:=by simp only[x9,iN,F,G,Result.andThen,E,fN,dC];have:(xK (Hc e.size)).run Pg b=.ok r a:=K;simp only[e,left,j,C] at this;simp only[this];rfl
 rw[jb x]at s;cases o:e[r] with|none=>rw[o]at s;refine .inl ⟨M (by rw[<-o];exact JA x),a,y,?_⟩;rw[s];simp|some g=>rw[o]at s;obtain⟨q,n⟩:=L g (by rw[<-o];exact JA x);refine .inr ⟨g,q,n,a,y,?_⟩;rw[s];simp[P]
theorem ada{nm:Nat}(G:cO f=J aS)(T:o.op=.next f Z)(d:aN (X Pg) (.m .next nm [aS]) k A):OW Pg F k.nx o a b n k.O A:=by
 have U:=eR t G;simp only[aN,bG,eC]at d;cases V:k.ev aS<;>simp only[V,th]at d<;>try (exact d.elim)
 rename_i id E ab e r;have hz:ab=0/\e=0/\r=0:=by by_cases hh:ab=0/\e=0/\r=0;exact hh;grind
 obtain⟨rfl,rfl,rfl⟩:=hz;simp only at d;rw[V]at U;split at d;rename_i g' m mg bn q bC B;obtain⟨rfl,d⟩:=d;obtain⟨h,bm,e1,H,ax,hg,I,ay,hm⟩:=VL c t B U;split at d;rename_i ac v x hM;obtain⟨rfl,d⟩:=d;obtain⟨aB,i,aE,bb,z,aI,K,hs,L⟩:=c.gu _ _ hM;have aO:i=bm:=by have:=hm aB;rw[aE]at this;cases this;rfl
 subst aO;have aP:=Rc hs K ak;obtain⟨aR,a0,a1⟩:=d aP;have bd:(!q.toArray.isEmpty&& !z.isEmpty&&z.all (λf=>decide (f.born>=bC)))=Z:=by rcases aR with rfl|rfl|⟨a2,M,a3⟩;simp;grind;obtain⟨j,u,rfl⟩:=eD M;have w:z[j]? =J z[j]:=Y;have C:=(L j _ w _ (bh u)).2.2;grind
 have ad:∀i,Md n k.O i->n.own i:=λi K=>c.gC K;rcases Tw (Pg:=Pg) o.type I aI ar with⟨be,p,l,O⟩|⟨g,he,a4,p,l,O⟩
 have s:W p=W b:=by simp[W,l.1,l.2.1,l.2.2]
 have Q:(aG a.eval o).run Pg b=.ok (.value (.tuple #[.bool Z])) p:=by simp[aG,T,e1,O]
 refine OW.value ar (a1 λa2 M a3=>?_) (by rw[s];exact⟨_,rfl,rfl,⟨_,rfl,rfl⟩,aj⟩) (by rw[s];exact c) (by rw[s];exact eI.refl _ _ _ _) y (λd=>d);obtain⟨j,u,rfl⟩:=eD M;have w:z[j]? =J z[j]:=jb y;have C:=(L j _ w _ (bh u)).2.2;grind;obtain⟨j,u,rfl⟩:=eD he;have al:j<x.length:=by simpa[hs]using u
 have w:z[j]? =J z.toList[j]:=Y;obtain⟨r1,r2,C⟩:=L j _ w _ (bh al);have s:W p=W b:=by simp[W,l.1,l.2.1,l.2.2]
 have a5:W p h=J (.mapIter (J i) bn q.toArray bC):=by rw[s];exact I
 have Q:(aG a.eval o).run Pg b=.ok (.value (.tuple #[.bool aa,z.toList[j].key,z.toList[j].val])) (nB p h (.mapIter (J i) bn (q.toArray.push z.toList[j].born) v)):=by simp[aG,T,e1,O]
 have hK:=a0 x[j] (bJ al) (by rw[<-C];simpa using a4);generalize a6:Obj.mapIter (J i) bn (q.toArray.push z.toList[j].born) v=ag at Q;have R:W (nB p h ag) h=J ag:=Kp a5;have an:∀f,f≠h->W (nB p h ag) f=W b f:=λf G=>by rw[JU G,s]
 have ao:∀a7 a8 fz,W b h≠J (.cells a7 a8 fz):=λ_ _ _ g=>by rw[I]at g;cases g
 have S:=C3 (N:=F) id h _ (.oe g' m ac bn (q++[x[j].2.2]) v) B H ao (by rw[R];simp) an ⟨l.2.1,l.2.2⟩;have a9:fg.rd (W (nB p h ag)) n id (.oe g' m ac bn (q++[x[j].2.2]) v):=by refine⟨hg,h,H,ax,ay,i,?_,hm⟩;rw[R,<-a6,C];simp
 refine OW.value Q hK ⟨_,rfl,rfl,⟨_,rfl,rfl⟩,⟨_,rfl,P.lQ (eI.pure ad S) _ _ r1⟩,⟨_,rfl,D.mI ad S _ _ r2⟩,trivial⟩ (E8 c id h _ _ B H ao (by rw[R];simp) an ⟨l.2.1,l.2.2⟩ a9) S (bV _) (yR B);exact aj;exact aj
omit c t in
theorem Re{g:Hp}{i:cC}{a:Array Value}{c:Nat}(k:0<c):∀(f:List (List D)) (e:Nat),D.jl g i (λe=>a[e]?) e c f->f.length=0\/e+f.length*c<=a.size
 |[],_,_=>.inl rfl
 |l::m,e,h=>by
  obtain⟨t,n,o⟩:=h;refine .inr ?_;rcases Re k m (e+c) o with j|j
  have p:∀(b:List D) (e:Nat),D.iR g i (λe=>a[e]?) e b->b.length=0\/e+b.length<=a.size:=by
   intro b;induction b with
   |nil=>intro e _;exact .inl rfl
   |cons d u ih=>
    intro e h;obtain⟨⟨I,q,_⟩,r⟩:=h;have v:e<a.size:=by rcases uk e a.size with h|h;exact h;simp[h]at q
    rcases ih (e+1) r with s|s<;>simp only[ij]<;>omega
  have:=p l e n;simp only[ij,j];omega;simp only[ij,eX];omega
theorem anM{B nm:Nat}{q r s:Option cS}{Q C D:dh}(hx:cO f=J Q)(R:nZ q=J (J C))(j:nZ r=J (J D))(hm:nZ s=J ae)(ho:o.op=.slice l f q r s)(hu:Pg.underlying l=J (.slice g))(hn:lh Pg g=J B)(u:aN (X Pg) (.m (.Zb B) nm [Q,C,D]) k A):OW Pg F k.nx o a b n k.O A:=by
 have e:=eR t hx;have a2:∀(i:Option Addr) (v G p j m:Nat),a.eval f=.slice i v G->(jD aa v G (q.map a.eval) (r.map a.eval) (s.map a.eval)).run Pg b=.ok (p,j,m) b->
  (aG a.eval o).run Pg b=.ok (.value (.slice (if m=p then i else i.map (·.add (p*B))) (j-p) (m-p))) b:=by intro i v G p j m he hb;simp[aG,ho,he,Instr.sliceAt,Instr.slice,bv hu,hb,mQ hn]
 simp only[aN,bG,eC]at u;unfold th at u;split at u<;>rename_i S T<;>first|(cases S;done)|skip
 rename_i n1 id E off v n' a3 k1 d H h;cases S;simp only[kJ,pu]at T;obtain⟨ed,el,eh⟩:=T;split at u;rename_i I g' V hO;obtain⟨rfl,aB,rfl,rfl,W,aE,a4,a5,hK⟩:=u;subst aB;rw[ed]at e;obtain⟨⟨ao,aP,Y,hk,aI,a6⟩,hg,e⟩:=e;have ab:=c.gu _ _ hO;have e:=e ab.1;have ac:=ab.2;have a7:off+h.toNat<=off+aP:=by
  cases K:n.loc id with
  |none=>grind
  |some i=>
   rw[K]at e ac;obtain⟨H,L,ag,al,fz,w,_,an,aO,N,hc⟩:=e;obtain⟨_,a8,T2,ax,hr⟩:=ac;rw[N]at ax;cases ax;rw[Y]at w;cases w;simp only[fN,dC]at hc;have O:=Re W V 0 hr;rcases O with O|O
   omega;have h3:V.length*I<=(off+aP)*I:=y;have h4:=Qn h3 W;omega
 obtain⟨z1,rfl,aR⟩:∃M,q=J M/\cO M=J C:=by cases q with|none=>simp[nZ]at R|some M=>exact⟨M,rfl,by simpa[nZ]using R⟩
 obtain⟨z2,rfl,aS⟩:∃M,r=J M/\cO M=J D:=by cases r with|none=>simp[nZ]at j|some M=>exact⟨M,rfl,by simpa[nZ]using j⟩
 obtain rfl:s=ae:=by cases s with|none=>rfl|some M=>simp[nZ]at hm
 have x:=eR t aR;have z:=eR t aS;rw[el]at x;rw[eh]at z;have x:a.eval z1=.int k1 d:=x;have z:a.eval z2=.int H h:=z;have a0:d=d.toNat:=y;have a1:h=h.toNat:=y;have a9:d.toNat<=h.toNat:=y;have bb:h.toNat<=aP:=y;have h6:(jD aa v aP ((J z1).map a.eval) ((J z2).map a.eval) ((ae:Option cS).map a.eval)).run Pg b=.ok (d.toNat,h.toNat,aP) b:=by simp[jD,x,z,lD aE a0 y,lD (by omega:0<=h) a1 y]
 refine OW.ce c aj hK ⟨⟨_,_,rfl,y,λa' P=>?_,λP=>?_⟩,hg,λ_=>?_⟩;cases ao with|none=>grind|some ad=>have:=aI ad rfl;split at P;exact U;cases P;show(ad.add _).spot=ae;rw[ku _ ar]
 grind;cases K:n.loc id with|none=>grind|some i=>rw[K]at e;obtain⟨H,L,ag,al,fz,w,_,an,aO,N,hc⟩:=e;rw[Y]at w;cases w;refine⟨aP-d.toNat,if aP=d.toNat then L else L+d.toNat*I,ag,al,fz,?_,y,λbd=>?_,y,N,?_⟩;by_cases ay:aP=d.toNat;simp[ay];simp[ay,tN];have:aP≠d.toNat:=y;rw[ap this,an y,eX];grind
 exact aj;exact aj
theorem YP{nm:Nat}(x:F (k.bs+nm))(y:k.bs+nm<k.nx)(z:k.gm (k.bs+nm)=n.gen (k.bs+nm)+1){B:fG}(d:Xs Pg nm o=J B)(q:aN (X Pg) B k A):OW Pg F k.nx o a b n k.O A:=by unfold Xs at d;split at d;rename_i l e;split at d;simp[bj]at d;obtain⟨M,D,rfl⟩:=d;exact amX c t x y z e q;grind;rename_i l f j E e;split at d;rename_i g h i;split at d;cases d;rename_i m s;exact ahn c t h i e g m s q;grind;grind;rename_i l f j I e;split at d;rename_i g h i m;simp[bj]at d;obtain⟨bu,r,rfl⟩:=d;exact O9 c t h i m U g r q;grind;rename_i l f j I e;split at d;rename_i g h i m;simp[bj]at d;obtain⟨bu,r,d⟩:=d;split at d;subst d;exact ahr c t h i m e g r q;subst d;exact O9 c t h i m U g r q;grind;rename_i l f e;split at d;cases d;rename_i g h;exact aav c t x y z h e g q;grind;rename_i f e;simp[bj]at d;obtain⟨p,v,rfl⟩:=d;exact ada c t v e q;rename_i f e;simp[bj]at d;obtain⟨p,v,rfl⟩:=d;exact agV c t v e q;rename_i l f G H K e;split at d;rename_i g h i m s;simp[bj]at d;obtain⟨L,C,rfl⟩:=d;exact anM c t h i m s e g C q;grind;rename_i j e;split at d;rename_i w;split at d;rename_i f l g h;split at d;cases d;rename_i i m;exact ah1 (u:=l) c t w g h m e i q;grind;grind;rename_i w;split at d;rename_i f p l u g h;split at d;rename_i i m s;simp[bj]at d;obtain⟨bu,r,rfl⟩:=d;exact aid c t w g h m s e i r q;grind;grind;grind;grind
theorem aa1{nm:Nat}(h:F (k.bs+nm))(i:k.bs+nm<k.nx)(j:k.gm (k.bs+nm)=n.gen (k.bs+nm)+1)(p:∀id,k.nx<=id->F id)(q:Fr k.O k.nx){l:fG}(d:cop Pg nm o=J l)(m:aN (X Pg) l k A):OW Pg F k.nx o a b n k.O A:=by
 unfold cop at d;cases e:Xu Pg nm o with
 |none=>
  rw[e]at d;simp[Option.orElse_none]at d;cases f:Xs Pg nm o with
  |none=>rw[f]at d;cases d;exact aj
  |some g=>rw[f]at d;cases d;exact YP c t h i j f m
 |some g=>rw[e]at d;cases d;exact Za c t h i j p q e m
end
section
def OZ:Option dh->List dh|none=>[]|some f=>[f]
def fG.args:fG->List dh|.mv f|.box _ _ f|.load _ _ f _|.lY f|.un _ f|.zf _ f|.yS f|.KX f|.EN f|.GF _ _ f|.Fx f|.fa f _|.yK f _ _ _|.len _ f|.ext f _=>[f]|.pick e g i=>[e,g,i]|.alloc .. =>[]|.Av .. =>[]|.Ed _ _ _ _ f h=>[f,h]|.sQ _ _ _ f j=>[f,j]|.qx _ f j I=>[f,j,I]|.oY f j I=>[f,j,I]|.qm=>[]|.lP _ f p=>[f,p]|.pf _ a=>a|.build _ b=>b.map (·.2.2)|.bQ _ _ _ _ b=>b.map (·.2)|.store _ f I _|.lS _ _ f I|.ti _ f I|.IL f I|.j4 _ _ _ f I=>[f,I]|.Hx _ _ _ _ f I=>[f,I]|.tZ _ f c d k=>f::(OZ c++OZ d++OZ k)|.Il f c d=>f::(OZ c++OZ d)|.call _ a=>a|.iI f a=>f::a|.Ho _ a l=>a++l|.m _ _ a=>a
def KN{c d:dh->D}:∀(a:List (Nat×Nat×dh)) (b:List D),(∀f∈a.map (·.2.2),c f=d f)->fh c b a=fh d b a|[],_,_=>rfl|(h,i,f)::a,b,e=>by have g:=e f Y;simp[fh,g];split;exact KN a _ U;rfl
def KL{d e:dh->D}(b:Nat):∀(a:List (Nat×dh)) (c:List (List D)),(∀f∈a.map (·.2),d f=e f)->fP d b c a=fP e b c a|[],_,_=>rfl|(i,f)::a,c,g=>by have h:=g f Y;simp[fP,h];split;exact KL b a _ U;rfl
theorem Aq{b c:dh->D}(d e:Nat)(f:Nat->Prop)(a:Option dh)(g:∀p∈OZ a,b p=c p):jK b d e f a=jK c d e f a:=by cases a with|none=>rfl|some p=>simp[jK];rw[g p aj]
variable {a:cR}
theorem PC(w:fG)(c e:St)(b:D->ah->Nat->Prop)(g:∀f∈w.args,c.ev f=e.ev f)(k:c.O=e.O)(n:c.nx=e.nx)(r:c.bs=e.bs)(s:c.gm=e.gm):
 aN a w c b=aN a w e b:=by cases w with|build M x=>simp only[aN,k,n];rw[KN x _ g]|bQ nm y j M x=>simp only[aN,k,n,r,s];rw[KL y x _ g]|tZ y f o q z=>have t:=g f (by simp[fG.args]);have u:∀d l b,jK c.ev d l b o=jK e.ev d l b o:=λd l b=>Aq d l b o λp i=>g p (by simp[fG.args,i]);have v:∀d l b,jK c.ev d l b q=jK e.ev d l b q:=λd l b=>Aq d l b q λp i=>g p (by simp[fG.args,i]);have B:∀d l b,jK c.ev d l b z=jK e.ev d l b z:=λd l b=>Aq d l b z λp i=>g p (by simp[fG.args,i]);simp only[aN,k,n,t,u,v,B]|Il f o q=>have t:=g f (by simp[fG.args]);have u:∀d l b,jK c.ev d l b o=jK e.ev d l b o:=λd l b=>Aq d l b o λp i=>g p (by simp[fG.args,i]);have v:∀d l b,jK c.ev d l b q=jK e.ev d l b q:=λd l b=>Aq d l b q λp i=>g p (by simp[fG.args,i]);simp only[aN,k,n,t,u,v]|pf j h=>have:h.map c.ev=h.map e.ev:=iL aj;simp only[aN,k,n,this]|qm=>rfl|m j nm h=>have:h.map c.ev=h.map e.ev:=iL aj;simp only[aN,k,n,r,s,this]|call aB h=>have:h.map c.ev=h.map e.ev:=iL aj;simp only[aN,k,n,this]|iI f h=>have t:=g f (by simp[fG.args]);have:h.map c.ev=h.map e.ev:=iL aj;simp only[aN,k,n,this,t]|Ho aB h A=>have u:h.map c.ev=h.map e.ev:=iL λp i=>g p (by simp[fG.args,i]);have v:A.map c.ev=A.map e.ev:=iL λp i=>g p (by simp[fG.args,i]);simp only[aN,k,n,u,v]|alloc nm y M=>simp only[aN,k,n,r,s]|Av nm M=>simp only[aN,k,n,r,s]|_=>simp only[fG.args,bt,iD,iT,forall_eq,forall_eq_or_imp]at g;simp only[aN,k,n,r,s,g]
def tM:fG->Bool|.store .. |.j4 .. |.call .. |.iI .. |.lP .. |.m .. |.EN .. |.GF .. |.Ed .. |.qx .. |.oY .. =>Z|_=>aa
def tA:fG->Bool|.alloc .. |.box .. |.bQ .. |.Hx .. |.Av .. =>aa|_=>Z
def fG.nm:fG->Nat|.alloc nm .. |.box nm .. |.bQ nm .. |.Hx nm .. |.Av nm .. =>nm|_=>0
def Yk:fG->Bool|.load .. |.sQ .. =>aa|_=>Z
def sW{e:dh->D}{c f:Nat}{g:Nat->Prop}{d:Option dh}(a:jK e c f g d):∃b,jK e c f (λm=>m=b) d/\g b:=by cases d with|none=>exact⟨c,rfl,a⟩|some p=>simp[jK]at a⊢;split at a;rename_i j b h;exact⟨b.toNat,y,a.2.2⟩;exact a.elim
theorem ql{b:dh->D}{c d:Nat}{e f:Nat->Prop}(i:∀g,e g->f g){a:Option dh}(h:jK b c d e a):jK b c d f a:=by cases a with|none=>exact aj|some p=>simp[jK]at h⊢;grind
def Gk{b:IntKind}{c d:Int}{e:P->Prop}(f:∀g,e g->be g)(a:aC aR b c d e):aC aR b c d be:=by cases aR<;>simp[aC]at a⊢<;>first|exact f _ a|exact⟨a.1,f _ a.2⟩
def Xf{b c:ByteArray}{d:P->Prop}(e:∀f,d f->be f)(a:gD aR b c d):gD aR b c be:=by cases aR<;>simp[gD]at a⊢<;>first|exact e _ a|exact⟨a.1,e _ a.2⟩|exact a.elim
theorem Nh{c:Nat}{d e:D}{f:P->Prop}(b:∀g,f g->be g)(a:binOp aR c d e f):binOp aR c d e be:=by unfold binOp at a⊢;split at a;split at a;exact Gk b a;exact Gk b a;exact⟨a.1,Gk b a.2⟩;exact Xf b a;grind;omega
def Jg{b:IntKind}{c d:Int}{e:P->Prop}(a:aC aR b c d e):∃f,aC aR b c d (λg=>g=f)/\e f:=by cases aR<;>simp only[aC]at a⊢<;>first|exact⟨_,rfl,a⟩|exact⟨_,U,a.2⟩
def abx{b c:ByteArray}{d:P->Prop}(a:gD aR b c d):∃e,gD aR b c (λf=>f=e)/\d e:=by cases aR<;>simp only[gD]at a⊢<;>first|exact⟨_,rfl,a⟩|exact⟨_,U,a.2⟩|exact a.elim
def abd{d:Nat}{e f:D}{g:P->Prop}(a:binOp aR d e f g):∃c,binOp aR d e f (λi=>i=c)/\g c:=by unfold binOp at a⊢;split at a;split at a;exact Jg a;exact Jg a;obtain⟨c,h,b⟩:=Jg a.2;exact⟨c,⟨a.1,h⟩,b⟩;exact abx a;obtain⟨h,b⟩:=a;split at b;exact⟨_,U,b⟩;exact⟨_,U,b⟩;exact b.elim;exact a.elim
theorem P1{a:UnOp}{b:D}{c:P->Prop}(f:∀d,c d->be d)(e:unOp a b c):unOp a b be:=by unfold unOp at e⊢;grind
def ac2{b:UnOp}{c:D}{d:P->Prop}(a:unOp b c d):∃e,unOp b c (λf=>f=e)/\d e:=by unfold unOp at a⊢;split at a;exact⟨_,rfl,a⟩;exact⟨_,rfl,a⟩;exact a.elim
def uM(A:ah)(id:Nat)(a:Option fg):ah:=match a with|some i=>am A id (J i)|none=>A
def QT:fG->Bool|.sQ .. =>aa|_=>Z
def Agr(d:fG)(g:Nat)(a b:ah):Prop:=b=a\/((∀c E f e,d=.load c E f e->e=aa)/\∀id,id<g->b id=a id)\/(QT d=Z/\∀id c E h,a id=J (.row c E h)->b id=a id)
structure QS(a:cR)(o:fG)(s:St)(d:D)(j:Option fg):Prop where
 y8:∀(C:ah) (nx':Nat),Agr o s.bs s.O C->∀K:D->ah->Nat->Prop,
  K d (uM C (s.bs+o.nm) j) nx'->aN a o {s with O:=C,nx:=nx'} K
 made:j.isSome=aa->tA o=aa
theorem Qc(B:fG)(q:St)(c:D->ah->Nat->Prop)(v:tM B=aa)(h:aN a B q c):
 ∃d j,QS a B q d j/\c d (uM q.O (q.bs+B.nm) j) q.nx:=by
 have n:∀(C:ah) (k:Nat),St.ev {q with O:=C,nx:=k}=q.ev:=aj;cases B with
 |store=>cases v
 |lP=>cases v
 |qm=>exact h.elim|pf j R=>simp only[aN]at h;split at h;rename_i H g;exact⟨_,ae,⟨λC k _ c b=>by simp only[aN,n,g];exact b,aj⟩,h⟩;exact h.elim|j4=>cases v
 |EN=>cases v
 |GF=>cases v
 |Ed=>cases v
 |Fx f=>simp only[aN]at h;split at h;rename_i g;exact⟨_,ae,⟨λC k _ c b=>by simp only[aN,n,g];exact b,aj⟩,h⟩;exact h.elim|qx=>cases v
 |oY=>cases v
 |Av nm M=>rcases h with h|h;exact⟨.mp (q.bs+nm) (q.gm (q.bs+nm)),J (.map (q.gm (q.bs+nm)) 0 []),⟨λC k _ c b=>Or.inl b,aj⟩,h⟩;exact⟨.mp (q.bs+nm) (q.gm (q.bs+nm)),J (.iq (q.gm (q.bs+nm)) λ_=>ae),⟨λC k _ c b=>Or.inr b,aj⟩,h⟩
 |sQ bu M ok f j=>
  simp only[aN]at h;split at h;rename_i id E kp K o;obtain⟨S,h⟩:=h;split at h;rename_i ac x;obtain⟨T,h⟩:=h;split at h;rename_i V L;exact⟨_,ae,⟨λC k w c b=>by
   have N:C id=q.O id:=by rcases w with rfl|w|w;rfl;exact U;simp[QT]at w
   have P:=N.trans x;simp only[aN,n,K,o,P,L];exact⟨S,T,b⟩,aj⟩,h⟩
  exact h.elim;exact h.elim;exact h.elim
 |m=>cases v
 |call=>cases v
 |iI=>cases v
 |mv f=>exact⟨_,ae,⟨λC k _ c b=>by simp only[aN,n];exact b,aj⟩,h⟩
 |pick ad ag i=>
  simp only[aN]at h;split at h;rename_i l g;cases l with|true=>exact⟨_,ae,⟨λC k _ c b=>by simp only[aN,n,g];exact b,aj⟩,h⟩|false=>exact⟨_,ae,⟨λC k _ c b=>by simp only[aN,n,g];exact b,aj⟩,h⟩
  exact h.elim
 |alloc nm y M=>exact⟨_,J _,⟨λC k _ c b=>⟨h.1,b⟩,aj⟩,h.2⟩|box nm y f=>exact⟨_,J _,⟨λC k _ c b=>⟨h.1,b⟩,aj⟩,h.2⟩|build M W=>simp only[aN]at h;split at h;rename_i X g;exact⟨_,ae,⟨λC k _ c b=>by simp only[aN,n,g];exact b,aj⟩,h⟩;exact h.elim
 |bQ nm y j M W=>
  simp only[aN]at h;split at h;rename_i Y g;split at h;rename_i qs o;rcases h with h|h
  exact⟨_,ae,⟨λC k _ c b=>by simp only[aN,n,g,o];exact aj,aj⟩,h⟩;exact⟨_,J _,⟨λC k _ c b=>by simp only[aN,n,g,o];exact .r b,aj⟩,h⟩;rename_i o;exact⟨_,J _,⟨λC k _ c b=>by simp only[aN,n,g,o];exact b,aj⟩,h⟩;exact h.elim
 |load y E f fl=>
  simp only[aN]at h;split at h;rename_i X g;split at h;rename_i d o;exact⟨_,ae,⟨λC k _ c b=>by simp only[aN,n,g,o];exact b,aj⟩,h⟩;exact h.elim;rename_i id g' n' e r g;split at h;rename_i n2 g2 Y o;obtain⟨s,t,F,h⟩:=h;split at h;rename_i V x;split at h;rename_i d L;exact⟨_,ae,⟨λC k w c b=>by
   have N:C id=q.O id:=by rcases w with rfl|w|w;rfl;grind;grind
   have P:=N.trans o;simp only[aN,n,g,P,x,L];exact⟨s,t,F,b⟩,aj⟩,h⟩
  exact h.elim;exact h.elim;exact h.elim;exact h.elim
 |lY f=>simp only[aN]at h;split at h;rename_i g;exact⟨_,ae,⟨λC k _ c b=>by simp only[aN,n,g];exact b,aj⟩,h⟩;rename_i g;exact⟨_,ae,⟨λC k _ c b=>by simp only[aN,n,g];exact b,aj⟩,h⟩;rename_i g;exact⟨_,ae,⟨λC k _ c b=>by simp only[aN,n,g];exact b,aj⟩,h⟩;rename_i g;exact⟨_,ae,⟨λC k _ c b=>by simp only[aN,n,g];exact b,aj⟩,h⟩;exact h.elim|lS aR l f p=>simp only[aN]at h;obtain⟨H,s,t⟩:=abd h;exact⟨.p H,ae,⟨λC k _ c b=>by simp only[aN,n];exact Nh (λab g=>by subst g;exact b) s,aj⟩,t⟩
 |un aR f=>simp only[aN]at h;obtain⟨H,s,t⟩:=ac2 h;exact⟨.p H,ae,⟨λC k _ c b=>by simp only[aN,n];exact P1 (λab g=>by subst g;exact b) s,aj⟩,t⟩
 |zf j f=>simp only[aN]at h;split at h;rename_i g;exact⟨_,ae,⟨λC k _ c b=>by simp only[aN,n,g];exact b,aj⟩,h⟩;exact h.elim|yS f=>simp only[aN]at h;split at h;rename_i g;exact⟨_,ae,⟨λC k _ c b=>by simp only[aN,n,g];exact b,aj⟩,h⟩;rename_i g;exact⟨_,ae,⟨λC k _ c b=>by simp only[aN,n,g];exact b,aj⟩,h⟩;exact h.elim|KX f=>simp only[aN]at h;split at h;rename_i g;exact⟨_,ae,⟨λC k _ c b=>by simp only[aN,n,g];exact b,aj⟩,h⟩;exact h.elim|fa f off=>simp only[aN]at h;split at h;rename_i g;exact⟨_,ae,⟨λC k _ c b=>by simp only[aN,n,g];exact b,aj⟩,h⟩;rename_i g;exact⟨_,ae,⟨λC k _ c b=>by simp only[aN,n,g];exact b,aj⟩,h⟩;exact h.elim|yK f off y E=>simp only[aN]at h;split at h;rename_i g;split at h;rename_i o;exact⟨_,ae,⟨λC k _ c b=>by simp only[aN,n,g,o];exact b,aj⟩,h⟩;exact h.elim;rename_i g;split at h;rename_i o;exact⟨_,ae,⟨λC k _ c b=>by simp only[aN,n,g,o];exact b,aj⟩,h⟩;exact h.elim;exact h.elim|ti y f e=>simp only[aN]at h;split at h;rename_i g;split at h;rename_i o;obtain⟨s,t,F,h⟩:=h;exact⟨_,ae,⟨λC k _ c b=>by simp only[aN,n,g,o];exact⟨s,t,F,b⟩,aj⟩,h⟩;rename_i o;obtain⟨s,t,h⟩:=h;split at h;rename_i x;exact⟨_,ae,⟨λC k _ c b=>by simp only[aN,n,g,o,x];exact⟨s,t,b⟩,aj⟩,h⟩;exact h.elim;exact h.elim;exact h.elim
 |IL f e=>simp only[aN]at h;split at h;rename_i g;split at h;rename_i o;obtain⟨s,h⟩:=h;split at h;rename_i x;exact⟨_,ae,⟨λC k _ c b=>by simp only[aN,n,g,o,x];exact⟨s,b⟩,aj⟩,h⟩;exact h.elim;exact h.elim;exact h.elim
 |tZ y f lo hi mx=>simp only[aN]at h;split at h;rename_i g;obtain⟨Q,h⟩:=h;obtain⟨m,G,h⟩:=sW h;obtain⟨u,z,h⟩:=sW h;obtain⟨I,A,t,h⟩:=sW h;refine⟨_,ae,⟨λC k _ c b=>?_,aj⟩,h⟩;simp only[aN,n,g];refine⟨Q,ql ?_ G⟩;rintro _ rfl;refine ql ?_ z;rintro _ rfl;refine ql ?_ A;rintro _ rfl;exact⟨t,b⟩;rename_i g;obtain⟨Q,h⟩:=h;obtain⟨m,G,h⟩:=sW h;obtain⟨u,z,h⟩:=sW h;obtain⟨I,A,s,h⟩:=sW h;refine⟨_,ae,⟨λC k _ c b=>?_,aj⟩,h⟩;simp only[aN,n,g];refine⟨Q,ql ?_ G⟩;rintro _ rfl;refine ql ?_ z;rintro _ rfl;refine ql ?_ A;rintro _ rfl;exact⟨s,b⟩;rename_i g;obtain⟨m,G,h⟩:=sW h;obtain⟨u,z,h⟩:=sW h;obtain⟨I,A,h⟩:=sW h;refine⟨_,ae,⟨λC k _ c b=>?_,aj⟩,h⟩;simp only[aN,n,g];refine ql ?_ G;rintro _ rfl;refine ql ?_ z;rintro _ rfl;refine ql ?_ A;rintro _ rfl;exact b;exact h.elim
 |Il f lo hi=>simp only[aN]at h;split at h;rename_i g;obtain⟨u,z,h⟩:=sW h;obtain⟨I,A,h⟩:=sW h;refine⟨_,ae,⟨λC k _ c b=>?_,aj⟩,h⟩;simp only[aN,n,g];refine ql ?_ z;rintro _ rfl;refine ql ?_ A;rintro _ rfl;exact b;exact h.elim
 |Hx nm y i M I j=>simp only[aN]at h;split at h;rename_i K o;obtain⟨s,t,F,h4,h5,h6,h⟩:=h;exact⟨_,J _,⟨λC k _ c b=>by simp only[aN,n,K,o];exact⟨s,t,F,h4,h5,h6,b⟩,aj⟩,h⟩;exact h.elim
 |len al f=>simp only[aN]at h;split at h;split at h;rename_i g;exact⟨_,ae,⟨λC k _ c b=>by simp only[aN,n,g];exact b,aj⟩,h⟩;exact h.elim;split at h;rename_i g;exact⟨_,ae,⟨λC k _ c b=>by simp only[aN,n,g];exact b,aj⟩,h⟩;rename_i g;exact⟨_,ae,⟨λC k _ c b=>by simp only[aN,n,g];exact b,aj⟩,h⟩;rename_i g;exact⟨_,ae,⟨λC k _ c b=>by simp only[aN,n,g];exact b,aj⟩,h⟩;exact h.elim|ext f e=>simp only[aN]at h;split at h;rename_i g;split at h;rename_i o;exact⟨_,ae,⟨λC k _ c b=>by simp only[aN,n,g,o];exact b,aj⟩,h⟩;exact h.elim;exact h.elim|Ho aB R bs=>exact⟨_,ae,⟨λC k _ c b=>by simp only[aN,n];exact b,aj⟩,h⟩
end
def zH(A F:ah):Prop:=∀id,(A id).isSome=aa->F id=ae
def zU{A F:ah}(a:(A id).isSome=aa):bp A F id=A id:=by obtain⟨j,b⟩:=dM.1 a;simp[bp,b]
def nr{A F:ah}(a:A id=ae):bp A F id=F id:=by simp[bp,a]
def mU{A F:ah}(a:bp A F id=ae):A id=ae/\F id=ae:=by cases b:A id with|none=>rw[nr b]at a;exact U|some j=>simp[bp,b]at a
def Fu{A F:ah}(c:zH A F):bp A F=bp F A:=by
 funext id;cases a:A id with
 |none=>cases b:F id with|none=>simp[bp,a,b]|some j=>simp[bp,a,b]
 |some j=>have:=c id (by simp[a]);simp[bp,a,this]
theorem zH.symm{A F:ah}(a:zH A F):zH F A:=by intro id c;cases b:A id with|none=>rfl|some j=>have:=a id (by simp[b]);grind
def WP{A F:ah}:yJ A (bp A F):=by intro id;cases a:A id with|none=>simp|some j=>exact .inr (by simp[bp,a])
theorem frame{x:Nat->Prop}{f:cC}{A d F:ah}(p:iA V f (bp A F))(K:zH A F)(y:iA bA H d)(b:eI x V f A bA H d)(I:∀id,(F id).isSome=aa->¬x id):
 iA bA H (bp d F)/\eI x V f (bp A F) bA H (bp d F)/\zH d F:=by
 have q:∀id,(F id).isSome=aa->A id=ae/\d id=ae/\H.gen id=f.gen id/\H.loc id=f.loc id:=by intro id h;have a:=K.symm id h;have c:=b.fr id (I id h) a;exact⟨a,b.nw id (I id h) a,c,b.loc id c⟩
 have L:zH d F:=by intro id h;cases X:F id with|none=>rfl|some j=>grind
 have z:∀id i,(F id).isSome=aa->f.loc id=J i->(V i≠ae)/\f.own i/\¬Md f A i:=by
  intro id i h g;have B:(bp A F id).isSome=aa:=by rw[nr U];exact h
  have s:f.own i:=p.gC aj;refine⟨p.there i s,s,?_⟩;rintro⟨r,u,M⟩;have:r=id:=p.apart r id i (by rw[zU u];exact u) B M g;subst this;rw[(q r h).1]at u;cases u
 have N:∀i,Md f A i->f.own i:=λi ⟨id,h,g⟩=>p.gC ⟨id,by rw[zU h];exact h,g⟩;refine⟨⟨λid j t=>?_,λe r i v k a c=>?_,y.there⟩,?_,L⟩;cases l:d id with
 |some aP=>rw[zU (by simp[l]),l]at t;cases t;exact y.gu id j l
 |none=>
  rw[nr l]at t;have C:(F id).isSome=aa:=by simp[t]
  obtain⟨a,c,m,n⟩:=q id C;have O:=p.gu id j (by rw[nr a];exact t);refine fg.yt N b O m (λi g=>?_) (λi g=>?_);obtain⟨o,D,w⟩:=z id i C g;exact b.A9 i D o w;obtain⟨o,D,w⟩:=z id i C g;cases P:V i with|none=>exact aj|some ag=>exact b.aL i ag P w
 have Y:∀e r,(d e).isSome=aa->(F r).isSome=aa->H.loc e=J i->H.loc r=J i->False:=by
  intro e r v k a c;obtain⟨_,_,m,n⟩:=q r k;rw[n]at c;obtain⟨o,D,w⟩:=z r i k c;rcases b.md i aj with h|h
  exact aj;exact aj
 cases Q:d e with
 |some ki=>cases E:d r with|some R=>exact y.apart e r i U U a c|none=>rw[nr E]at k;grind
 |none=>rw[nr Q]at v;cases E:d r with|some R=>grind|none=>rw[nr E]at k;obtain⟨o,_,_,S⟩:=q e v;obtain⟨T,_,_,p4⟩:=q r k;exact p.apart e r i (by rw[nr o];exact v) (by rw[nr T];exact k) ak ak
 refine⟨λi ag h B=>b.aL i ag h λ⟨id,a,c⟩=>B ⟨id,by rw[zU a];exact a,c⟩,λi ⟨id,a,c⟩=>?_,b.own,b.gen,b.loc,b.size,b.Co,
  λid G s=>b.fr id G (mU s).1,λid G s=>?_,λi a c m=>b.A9 i a c λ⟨id,n,W⟩=>m ⟨id,by rw[zU n];exact n,W⟩,b.sm⟩
 cases l:d id with
 |some j=>rcases b.md i ⟨id,by simp[l],c⟩ with⟨r,m,n⟩|h;exact .inl ⟨r,by rw[zU m];exact m,n⟩;exact U
 |none=>rw[nr l]at a;obtain⟨o,_,_,S⟩:=q id a;exact .inl ⟨id,by rw[nr o];exact a,ak⟩
 obtain⟨a,c⟩:=mU s;rw[nr (b.nw id G a)];exact c
structure Rz(n:Nat)(w:World)(c:cC)(a:cu)(s:St):Prop where
 sz:a.tmps.size=n
 df:a.defers=[]
 tm:∀l,D.rd (W w) c (s.T l) (a.tmps.getD l undef)
 inv:iA (W w) c s.O
 fr:Fr s.O s.nx
def ae4(a:Nat):Option Nat->Bool|some d=>decide (d<a)|none=>aa
def Dr(b:Program)(c:Nat)(d:Array Oper)(e:Nat)(a:Oper):Option aA:=
 match cop b e a with
 |none=>ae
 |some aR=>
  if ae4 c a.dst=aa then match a.guard with|none=>J {dst:=a.dst,op:=aR}|some (r,f)=>match(d[r]?).bind (·.dst) with|some l=>J {dst:=a.dst,op:=aR,guard:=J (l,f)}|none=>ae
  else ae
def ate:fG->fG->Bool|.load a E f _,.load b c aS _=>decide (a=b)&&(E==c)&&(match f,aS with|.t d,.t i=>decide (d=i)|.c _,.c _=>Z|_,_=>Z)|_,_=>Z
def MU:fG->fG|.load a E f _=>.load a E f aa|b=>b
def Wz{c:Nat->Prop}{a:World}{b:cC}(e:iA (W a) b L)(f:eI c (W a) b L (W G) H C)(g:D.rd (W a) b d I):D.rd (W G) H d I:=D.mI (λ_ h=>e.gC h) f d I g
def abE{N:Nat->Prop}{e:Nat}{h:World}{i:cC}{c:cu}{f:St}(a:Rz e h i c f)(k:eI N (W h) i f.O (W G) H C){b:Option Nat}(o:D.rd (W G) H d I)(m:∀j,b=J j->j<e):(c.put b I).tmps.size=e/\(c.put b I).defers=[]/\∀l,D.rd (W G) H (eE f.T b d l) ((c.put b I).tmps.getD l undef):=by
 cases b with
 |none=>exact⟨a.sz,a.df,λl=>Wz a.inv k (a.tm l)⟩
 |some j=>
  have n:=m j rfl;refine⟨by simp[HP,a.sz],a.df,λl=>?_⟩;simp only[HP,eE];by_cases g:l=j;subst g;rw[dt];have p:l<c.tmps.size:=by rw[a.sz];exact n
  exact U;rw[eP _ _ g];rw[pA,Array.getElem?_setIfInBounds_ne y,<-pA];exact Wz a.inv k (a.tm l)
def Ni(a:St)(b:Nat):Nat->Prop:=λid=>id=a.bs+b\/a.nx<=id
section
variable {b:Program}{c:Nat}{a:Array Oper}
theorem Ap{k:Oper}{o:aA}{q:World}{v:cC}{h:cu}{f:St}{x:St->Prop}{s:cu->World->Prop}(ho:a[e]? =J k)(p:Dr b c a e k=J o)(m:Rz c q v h f)(ac:f.bs+e<f.nx)(ad:f.gm (f.bs+e)=v.gen (f.bs+e)+1)(y:d9 (X b) o f x)(P:∀w H R G,x w->Rz c G H R w->eI (Ni f e) (W q) v f.O (W G) H w.O->f.nx<=w.nx->w.bs=f.bs->w.gm=f.gm->s R G):wpOp b a Q e s h q:=by
 unfold Dr at p;split at p;cases p;rename_i aR ag;split at p;rename_i S;have V:∀j,k.dst=J j->j<c:=by intro j t;rw[t]at S;simpa[ae4]using S
 have run:∀be:D->ah->Nat->Prop,aN (X b) aR f be->(∀I G H o C n,be o C n->D.rd (W G) H o I->iA (W G) H C->eI (Ni f e) (W q) v f.O (W G) H C->f.nx<=n->(Fr f.O f.nx->Fr C n)->s (h.put k.dst I) G)->k.wp b h q s Q:=by intro be B t;exact aa1 m.inv m.tm aj ac ad (λid y=>.inr y) m.fr ag B s Q t
 have al:∀I G H E C n,x {f with T:=eE f.T k.dst E,O:=C,nx:=n}->D.rd (W G) H E I->iA (W G) H C->eI (Ni f e) (W q) v f.O (W G) H C->f.nx<=n->(Fr f.O f.nx->Fr C n)->s (h.put k.dst I) G:=by intro I G H E C n t hd hi Y an hf;obtain⟨g,u,z⟩:=abE m Y hd V;exact P _ H _ G t ⟨g,u,z,hi,hf m.fr⟩ Y an rfl rfl
 have skip:x {f with T:=eE f.T k.dst (.p (.v undef))}->s (h.put k.dst undef) q:=by intro t;obtain⟨g,u,z⟩:=abE (N:=Ni f e) m (eI.refl _ _ _ _) (d:=.p (.v undef)) rfl V;exact P _ v _ q t ⟨g,u,z,m.inv,m.fr⟩ (eI.refl _ _ _ _) aw rfl rfl
 unfold wpOp;simp only[ho];split at p;rename_i A;cases p;have hw:sK k (yielded a h.tmps)=aa:=by simp[sK,A]
 rw[aU hw];have B:aN (X b) aR f (λo L ao=>x {f with T:=eE f.T k.dst o,O:=L,nx:=ao}):=y;exact .inl (run _ B λI G H o C n g u z h4 h5 h6=>al I G H o C n g u z h4 h5 h6);rename_i r ab A;split at p;rename_i l ht;cases p;simp only[d9]at y;split at y;rename_i i F;have g:=m.tm l;rw[F]at g;have g:h.tmps.getD l undef=.bool i:=g;have u:h.tmps[l]? =J (.bool i):=by rw[pA]at g;cases K:h.tmps[l]? with|none=>rw[K]at g;simp[undef]at g|some I=>grind
 have M:yielded a h.tmps r=J i:=by simp[yielded,ht,u]
 have ax:sK k (yielded a h.tmps)=(i==ab):=by simp only[sK,A,M];cases i<;>cases ab<;>rfl
 grind;rename_i vs F;have g:=m.tm l;rw[F]at g;have g:h.tmps.getD l undef=.tuple vs:=g;have M:yielded a h.tmps r=ae:=by simp only[yielded,ht,A6];cases K:h.tmps[l]? with|none=>rfl|some I=>rw[pA,K]at g;grind
 have ax:sK k (yielded a h.tmps)=Z:=by simp only[sK,A,M];rfl
 exact U;exact aj;grind;cases p
end
def rL(a:Program)(b:Nat)(c:Array Oper):Nat->List Oper->Option (List aA)|_,[]=>J []|e,f::g=>match Dr a b c e f,rL a b c (e+1) g with|some d,J h=>J (d::h)|_,_=>ae
section
variable {b:Program}{c:Nat}{a:Array Oper}
theorem NU{Q:Exit->cu->World->Prop}:∀(m:List Oper) (e:Nat) (q:List aA) (g:World) (i:cC) (n:cu) (f:St) (o:St->Prop),
 (∀(j:Nat) (p:Oper),m[j]? =J p->a[e+j]? =J p)->rL b c a e m=J q->Rz c g i n f->f.bs+e+m.length<=f.nx->
 (∀j,j<m.length->f.gm (f.bs+e+j)=i.gen (f.bs+e+j)+1/\f.O (f.bs+e+j)=ae)->eN (X b) q f o->
 (∀k H r G,o k->Rz c G H r k->eI (λid=>f.bs<=id) (W g) i f.O (W G) H k.O->f.nx<=k.nx->Q .normal r G)->wpOps b a Q (List.range' e m.length) n g
 |[],e,q,g,i,n,f,o,_,l,t,_,_,h,u=>by simp only[rL,du]at l;subst l;exact u f i n g h t (eI.refl _ _ _ _) y
 |p::A,e,q,g,i,n,f,o,x,l,t,B,v,h,u=>by
  simp only[rL]at l;split at l;rename_i d C D E;cases l;simp only[ij]at B v⊢;rw[List.range'_succ,wpOps_cons];have F:a[e]? =J p:=by simpa using x 0 p Y
  have I:=v 0 y;simp only[uC]at I;refine Ap F D t y y h λk H r G s K w ab L M=>?_;have N:eI (λid=>f.bs<=id) (W g) i f.O (W G) H k.O:=w.mono λid O=>by rcases O with h|h<;>omega
  refine NU A (e+1) C G H r k o (λj P s=>by have:=x (j+1) P (by simpa using s);grind) E K y (λj s=>?_) s
   (λs2 R S T V R2 x2 ac=>u s2 R S T V R2 (N.trans ak) y)
  have:=v (j+1) y;rw[show f.bs+e+(j+1)=f.bs+(e+1)+j by omega]at this;have z:¬Ni f e (f.bs+(e+1)+j):=by rintro(h|h)<;>omega
  rw[L,M];exact⟨by rw[w.fr _ z U];omega,w.nw _ z U⟩;cases l
end
def EF:List dh->List Nat|[]=>[]|.t j::a=>j::EF a|.c _::a=>EF a
def aA.looks(a:aA):List Nat:=EF a.op.args++(match a.guard with|some (E,_)=>[E]|none=>[])
def EJ:fG->Bool|.load _ _ _ a=>a|_=>aa
def Iw(b a:aA):Bool:=(match b.dst with|some d=> !(a.looks.contains d)&& !(a.dst==J d)|none=>aa)&&(match a.dst with|some d=> !(b.looks.contains d)|none=>aa)
def VO:fG->Bool|.store .. |.qx .. |.oY .. =>aa|_=>Z
def OL:fG->Bool|.qx .. |.oY .. =>aa|_=>Z
def Ih:fG->Bool|.store _ _ _ a=>a|_=>Z
def Yl(a b:aA):Bool:=match a.op,b.op with|.oY _ (.c (.v (.string c))) _,.oY _ (.c (.v (.string i))) _=>a.fc==b.fc&&a.guard.isNone&&b.guard.isNone&&a.dst.isNone&&b.dst.isNone&& !(c.data.toList==i.data.toList)|_,_=>Z
def Ev(a b:aA):Bool:=
 (Iw a b&&tM a.op&&(((tM b.op&&((EJ a.op|| !tA b.op)&&(EJ b.op|| !tA a.op)))&&(!(tA a.op&&tA b.op)||a.op.nm !=b.op.nm))||(a.fc&& !b.fc)||(!a.fc&&b.fc)))||
 ((Iw a b&&(VO a.op&&a.fc&& !b.fc))||(Yl a b||(Iw a b&&((tM a.op&& !tA a.op)&&((!QT a.op&&OL b.op)||(EJ a.op&&Ih b.op)))&&a.fc==b.fc)))
def y9{c:Nat}:∀{b:List dh},dh.t c∈b->c∈EF b|.t r::b,a=>by simp only[bt,dh.t.injEq]at a;simp only[EF,bt];exact a.imp qM y9|.c f::b,a=>by simp only[bt,reduceCtorEq,false_or]at a;simp only[EF];exact y9 a
def mu(a:cR):Prop:=∀aB b L c (e be:D->ah->Nat->Prop),(∀d C f,e d C f->be d C f)->a aB b L c e->a aB b L c be
theorem br{b:Program}:mu (X b):=by intro aB k L l m be n a;refine⟨a.1,λc d e f h i j=>(a.2 c d e f h i j).mono λg G o=>?_⟩;grind
section
variable {a:cR}(k:mu a)
include k
theorem Up(e:fG)(h:St){l n:D->ah->Nat->Prop}(c:∀d C r,l d C r->n d C r)(b:aN a e h l):aN a e h n:=by
 by_cases s:tM e=aa;obtain⟨d,j,u,v⟩:=Qc e h l s b;exact u.y8 h.O h.nx aj n (c _ _ _ v);cases e with
 |store o f I x=>simp only[aN]at b⊢;split at b;grind;omega|Ed nm o i M f z=>simp only[aN]at b⊢;grind|EN f=>simp only[aN]at b⊢;grind
 |GF o M f=>
  simp only[aN]at b⊢;split at b;rename_i g
  (try simp only[g])
  exact c _ _ _ b;grind;omega
 |j4 nm o i f p=>
  simp only[aN]at b⊢;split at b;omega;rename_i A g
  (try simp only[g])
  split at b;rename_i q
  (try simp only[q])
  exact⟨b.1,y,λE=>c _ _ _ (b.2.2 E)⟩;grind;rename_i q
  (try simp only[q])
  split at b;grind;omega;omega
 |lP neg f p=>simp only[aN]at b⊢;grind|qx bu f j I=>simp only[aN]at b⊢;split at b;grind;omega|oY f j I=>simp only[aN]at b⊢;grind|m j nm t=>exact adG (λd C w=>c d C _ w) b|call aB t=>exact k _ _ _ _ _ _ c b|iI f t=>simp only[aN]at b⊢;split at b;rename_i g;(try simp only[g]);exact k _ _ _ _ _ _ c b;rename_i g;(try simp only[g]);exact k _ _ _ _ _ _ c b;omega|_=>simp[tM]at s
theorem lE{s s2:St}{g h:St->Prop}(m:∀l∈p.looks,s2.T l=s.T l)(o:s2.O=s.O)(q:s2.nx=s.nx)(x:s2.bs=s.bs)(z:s2.gm=s.gm)(n:∀d L b,g {s with T:=eE s.T p.dst d,O:=L,nx:=b}->h {s2 with T:=eE s2.T p.dst d,O:=L,nx:=b})(e:d9 a p s g):d9 a p s2 h:=by
 have A:∀f∈p.op.args,s.ev f=s2.ev f:=by intro f r;cases f with|t j=>exact(m j (by simp only[aA.looks,bg];exact .inl (y9 r))).symm|c B=>rfl
 have u:aN a p.op s (λd L b=>g {s with T:=eE s.T p.dst d,O:=L,nx:=b})->aN a p.op s2 (λd L b=>h {s2 with T:=eE s2.T p.dst d,O:=L,nx:=b}):=by intro e;rw[<-PC p.op s s2 _ U U y y U];exact Up k _ _ (λd L b v=>n d L b v) e
 have C:g {s with T:=eE s.T p.dst (.p (.v undef))}->h {s2 with T:=eE s2.T p.dst (.p (.v undef))}:=by intro e;have:=n (.p (.v undef)) s.O s.nx e;rw[<-o,<-q]at this;exact this
 unfold d9 at e⊢;cases i:p.guard with|none=>rw[i]at e;exact u e|some w=>obtain⟨E,D⟩:=w;rw[i]at e;have F:s2.T E=s.T E:=m E (by simp[aA.looks,i]);grind
structure QD(a:cR)(f:aA)(s:St)(d:D)(j:Option fg):Prop where
 y8:∀(s2:St),(∀l∈f.looks,s2.T l=s.T l)->s2.bs=s.bs->s2.gm=s.gm->(s2.O=s.O\/(EJ f.op=aa/\∀id,id<s.bs->s2.O id=s.O id)\/(QT f.op=Z/\∀id n E es,s.O id=J (.row n E es)->s2.O id=s.O id))->∀K:St->Prop,
  K {s2 with T:=eE s2.T f.dst d,O:=uM s2.O (s.bs+f.op.nm) j}->d9 a f s2 K
 made:j.isSome=aa->tA f.op=aa
omit k in
theorem mj{b:aA}{e:St}{u:St->Prop}(A:tM b.op=aa)(f:d9 a b e u):
 ∃d j,QD a b e d j/\u {e with T:=eE e.T b.dst d,O:=uM e.O (e.bs+b.op.nm) j}:=by
 have x:aN a b.op e (λd L v=>u {e with T:=eE e.T b.dst d,O:=L,nx:=v})->(∀(s2:St) (h:St->Prop),(∀l∈b.looks,s2.T l=e.T l)->aN a b.op s2 (λd L v=>h {s2 with T:=eE s2.T b.dst d,O:=L,nx:=v})->d9 a b s2 h)->
  ∃d j,QD a b e d j/\u {e with T:=eE e.T b.dst d,O:=uM e.O (e.bs+b.op.nm) j}:=by
  intro f B;obtain⟨d,j,y,q⟩:=Qc b.op e _ A f;refine⟨d,j,⟨λs2 k o C m h s=>B s2 h k ?_,y.made⟩,q⟩;have D:∀p∈b.op.args,St.ev {e with O:=s2.O,nx:=s2.nx} p=s2.ev p:=by intro p F;cases p with|t r=>exact(k r (by simp only[aA.looks,bg];exact .inl (y9 F))).symm|c H=>rfl
  rw[<-PC b.op {e with O:=s2.O,nx:=s2.nx} s2 _ D rfl rfl o.symm C.symm];refine y.y8 s2.O s2.nx ?_ _ s;rcases m with m|⟨z,m⟩|m
  exact .inl m;exact .inr (.inl ⟨λI E p K g=>by rw[g]at z;exact z,m⟩);exact .inr (.inr m)
 unfold d9 at f;cases n:b.guard with
 |none=>rw[n]at f;exact x f λs2 h _ q=>by unfold d9;rw[n];exact q
 |some G=>
  obtain⟨E,M⟩:=G;rw[n]at f;have w:E∈b.looks:=by simp[aA.looks,n]
  simp only at f;split at f;rename_i i o;split at f;rename_i g;exact x f λs2 h k q=>by unfold d9;rw[n];simp only[k E w,o,g];exact q
  rename_i g;refine⟨.p (.v undef),ae,⟨λs2 k _ _ _ h s=>?_,λg=>by cases g⟩,f⟩;unfold d9;rw[n];simp only[k E w,o,g];exact s;rename_i N o;refine⟨.p (.v undef),ae,⟨λs2 k _ _ _ h s=>?_,λg=>by cases g⟩,f⟩;unfold d9;rw[n];simp only[k E w,o];exact s;exact f.elim
def mH(d:cR)(b:aA)(c:St)(F:ah)(e:St->ah->Prop):Prop:=match b.fc with|false=>d9 d b c λa=>e a F|true=>d9 d b {c with O:=F} λa=>e {a with O:=c.O} a.O
omit k in
theorem NI(b:aA)(c:List aA)(d:St)(F:ah)(e:St->ah->Prop):
 fS a (b::c) d F e=mH a b d F λf g=>fS a c f g e:=by simp only[fS,mH]<;>cases b.fc<;>rfl
omit k in
theorem JQ(g:Nat->D){d b:Option Nat}(h a:D)(i:∀j,d=J j->b≠J j):eE (eE g d h) b a=eE (eE g b a) d h:=by
 cases d with
 |none=>cases b<;>rfl
 |some e=>cases b with|none=>rfl|some r=>have k:r≠e:=λa=>i e rfl (by rw[a]);funext l;simp only[eE,am];by_cases c:l=r;rw[aU c,ap (λa=>k (c.symm.trans a)),aU c];rw[ap c];by_cases f:l=e;rw[aU f,aU f];rw[ap f,ap f,ap c]
omit k in
theorem vG{c:Nat->D}{a:Option Nat}{b:Nat}(e:∀j,a=J j->b≠j):eE c a d b=c b:=by cases a with|none=>rfl|some j=>exact eP _ _ (e j rfl)
omit k in
theorem Ea{b:aA}(d:Iw b p=aa):(∀j,b.dst=J j->j∉p.looks/\p.dst≠J j)/\(∀j,p.dst=J j->j∉b.looks):=by simp only[Iw,aq]at d;obtain⟨a,e⟩:=d;constructor;intro j c;rw[c]at a;simp at a;exact⟨a.1,a.2⟩;intro j c;rw[c]at e;simpa using e
omit k in
theorem ahf{h:fG}{e:St}{z:D->ah->Nat->Prop}(C:VO h=aa)(b:aN a h e z):
 ∃d t,(∀s2:St,(∀f∈h.args,s2.ev f=e.ev f)->s2.O=e.O->s2.bs=e.bs->∀k:D->ah->Nat->Prop,k d t s2.nx->aN a h s2 k)/\z d t e.nx/\(OL h=aa->∀id u E x,e.O id=J (.row u E x)->t id=e.O id)/\(Ih h=aa->∀id,id<e.bs->t id=e.O id):=by
 cases h with
 |store u f I M=>
  simp only[aN]at b;split at b;rename_i l;split at b;rename_i m;obtain⟨v,F,A,G,b⟩:=b;split at b;rename_i i;exact⟨_,_,λs2 c n H k o=>by have p:=c f (by simp[fG.args]);have q:=c I (by simp[fG.args]);simp only[aN,p,q,n,l,m,i];exact⟨v,F,by rw[H];exact A,G,b.1,o⟩,b.2,λW=>by simp[OL]at W,λr B w=>eP _ _ λg=>by have:=A (by simpa[Ih]using r);omega⟩
  exact b.elim;exact b.elim;exact b.elim
 |qx bu f j I=>
  simp only[aN]at b;split at b;rename_i l m;split at b;rename_i i;obtain⟨v,b⟩:=b;split at b;rename_i K;exact⟨_,_,λs2 c n _ k o=>by have p:=c f (by simp[fG.args]);have q:=c j (by simp[fG.args]);have y:=c I (by simp[fG.args]);simp only[aN,p,q,y,n,l,m,i,K];exact⟨v,o⟩,b,(λ_ B u L x s=>eP _ _ λw=>by subst w;rw[i]at s;cases s;cases v),λr=>by simp[Ih]at r⟩
  exact b.elim;exact b.elim;exact b.elim
 |oY f j I=>
  simp only[aN]at b;split at b;rename_i l m;split at b;rename_i i;exact⟨_,_,λs2 c n _ k o=>by have p:=c f (by simp[fG.args]);have q:=c j (by simp[fG.args]);have y:=c I (by simp[fG.args]);simp only[aN,p,q,y,n,l,m,i];exact⟨b.1,o⟩,b.2,(λ_ B u L x s=>eP _ _ λw=>by subst w;rw[i]at s;cases s),λr=>by simp[Ih]at r⟩
  exact b.elim;exact b.elim
 |_=>simp[VO]at C
omit k in
theorem Pj{e:aA}{b:St}{s:St->Prop}(A:VO e.op=aa)(h:d9 a e b s):
 ∃d j,(∀s2:St,(∀l∈e.looks,s2.T l=b.T l)->s2.O=b.O->s2.bs=b.bs->∀f:St->Prop,f {s2 with T:=eE s2.T e.dst d,O:=j}->d9 a e s2 f)/\s {b with T:=eE b.T e.dst d,O:=j}/\(OL e.op=aa->∀id v E w,b.O id=J (.row v E w)->j id=b.O id)/\(Ih e.op=aa->∀id,id<b.bs->j id=b.O id):=by
 have z:aN a e.op b (λd L x=>s {b with T:=eE b.T e.dst d,O:=L,nx:=x})->(∀(s2:St) (f:St->Prop),(∀l∈e.looks,s2.T l=b.T l)->aN a e.op s2 (λd L x=>f {s2 with T:=eE s2.T e.dst d,O:=L,nx:=x})->d9 a e s2 f)->
  ∃d j,(∀s2:St,(∀l∈e.looks,s2.T l=b.T l)->s2.O=b.O->s2.bs=b.bs->∀f:St->Prop,f {s2 with T:=eE s2.T e.dst d,O:=j}->d9 a e s2 f)/\s {b with T:=eE b.T e.dst d,O:=j}/\(OL e.op=aa->∀id v E w,b.O id=J (.row v E w)->j id=b.O id)/\(Ih e.op=aa->∀id,id<b.bs->j id=b.O id):=by intro h B;obtain⟨d,j,C,o,D⟩:=ahf A h;refine⟨d,j,λs2 k q F f m=>B s2 f k (C s2 (λp G=>?_) q F _ m),o,D⟩;cases p with|t r=>exact k r (by simp only[aA.looks,bg];exact .inl (y9 G))|c I=>rfl
 unfold d9 at h;cases n:e.guard with
 |none=>rw[n]at h;exact z h λs2 f _ o=>by unfold d9;rw[n];exact o
 |some H=>
  obtain⟨E,K⟩:=H;rw[n]at h;have y:E∈e.looks:=by simp[aA.looks,n]
  simp only at h;split at h;rename_i i u;split at h;rename_i g;exact z h λs2 f k o=>by unfold d9;rw[n];simp only[k E y,u,g];exact o
  rename_i g;refine⟨.p (.v undef),b.O,λs2 k q _ f m=>?_,h,λ_ _ _ _ _ _=>rfl,λ_ _ _=>rfl⟩;unfold d9;rw[n];simp only[k E y,u,g];rw[<-q]at m;exact m;rename_i M u;refine⟨.p (.v undef),b.O,λs2 k q _ f m=>?_,h,λ_ _ _ _ _ _=>rfl,λ_ _ _=>rfl⟩;unfold d9;rw[n];simp only[k E y,u];rw[<-q]at m;exact m;exact h.elim
omit k in
theorem UA{b:aA}(j:Yl b p=aa){c:St}{K:St->Prop}(d:d9 a b c λs1=>d9 a p s1 K):d9 a p c λs1=>d9 a b s1 K:=by
 unfold Yl at j;split at j;rename_i I f k N i l y z;simp only[aq,lJ,Option.isNone_iff_eq_none]at j;obtain⟨⟨⟨⟨⟨_,A⟩,r⟩,B⟩,C⟩,n⟩:=j;have n:f≠i:=by rintro rfl;simp at n
 unfold d9 at d⊢;simp only[A,r,y,z,B,C,eE]at d⊢;simp only[aN]at d⊢;have D:∀(L:ah) (M:dh),St.ev {c with T:=c.T,O:=L,nx:=c.nx} M=c.ev M:=λL M=>by cases M<;>rfl
 have F:∀(M:P),c.ev (.c M)=.p M:=λ_=>rfl;simp only[F,D]at d⊢;split at d;rename_i id E Q R G;cases G;split at d;rename_i h aB s;obtain⟨rfl,d⟩:=d;split at d;rename_i e r S U H;cases H;split at d;rename_i t u m;obtain⟨rfl,d⟩:=d;by_cases o:e=id;subst o;simp only[am,aT,du,fg.iq.injEq]at m;obtain⟨rfl,rfl⟩:=m;simp only[s,am,aT];refine⟨trivial,trivial,?_⟩;have:am (am c.O e (J (.iq h λb=>if b=i then J (c.ev l) else aB b))) e (J (.iq h λb=>if b=f then J (c.ev k) else if b=i then J (c.ev l) else aB b))=
  am (am c.O e (J (.iq h λb=>if b=f then J (c.ev k) else aB b))) e (J (.iq h λb=>if b=i then J (c.ev l) else if b=f then J (c.ev k) else aB b)):=by funext q;simp only[am];split;congr 2;funext M;by_cases v:M=f;subst v;simp[n];simp[v];rfl
 rw[this];exact d;simp only[am,o,dC]at m;simp only[m];have w:¬id=e:=λg=>o g.symm;simp only[am,w,dC,s];refine⟨trivial,trivial,?_⟩;have:am (am c.O e (J (.iq t λb=>if b=i then J (c.ev l) else u b))) id (J (.iq h λb=>if b=f then J (c.ev k) else aB b))=
  am (am c.O id (J (.iq h λb=>if b=f then J (c.ev k) else aB b))) e (J (.iq t λb=>if b=i then J (c.ev l) else u b)):=by funext q;simp only[am];by_cases x:q=id;subst x;simp[w];simp[x]
 rw[this];exact d;exact d.elim;exact d.elim;exact d.elim;exact d.elim;cases j
theorem swap{e:aA}(o:Ev e p=aa){c:St}{F:ah}{B:St->ah->Prop}(h:mH a e c F λs1 P=>mH a p s1 P B):mH a p c F λs1 P=>mH a e s1 P B:=by
 simp only[Ev,fA]at o;rcases o with o|o|o|o
 case inr.inr.inr=>
  simp only[aq,qY,lJ,fA]at o;obtain⟨⟨G,⟨C,aI⟩,an⟩,Q⟩:=o;obtain⟨V,X⟩:=Ea G;have ab:∀{f:Nat->D} {d:D} (l:Nat),l∈p.looks->eE f e.dst d l=f l:=λl H=>vG ak;have ac:∀{f:Nat->D} {d:D} (l:Nat),l∈e.looks->eE f p.dst d l=f l:=λl H=>vG ak;have u:∀(f:Nat->D) (d g:D),eE (eE f p.dst g) e.dst d=eE (eE f e.dst d) p.dst g:=λf d g=>(JQ f d g U).symm;have ao:VO p.op=aa:=by cases hy:p.op<;>simp_all [OL,VO,Ih]
  have ad:∀(c:St) (B:St->Prop),(d9 a e c λs1=>d9 a p s1 B)->d9 a p c λs1=>d9 a e s1 B:=by
   intro c B h;obtain⟨v,q,n,h⟩:=mj C h;have ax:q=ae:=by cases q with|none=>rfl|some R=>have:=n.made rfl;grind
   subst ax;obtain⟨x,O1,r,h,hr⟩:=Pj ao h;refine r c U rfl rfl _ ?_;refine n.y8 {c with T:=eE c.T p.dst x,O:=O1} U rfl rfl (.inr (an.elim (λW=>.inr ⟨U,hr.1 U⟩) (λW=>.inl ⟨U,hr.2 U⟩))) _ ?_;simp only[u,uM]at h⊢;exact h
  unfold mH at h⊢;cases I:e.fc<;>simp only[I,<-Q]at h⊢;exact ad c _ h;exact ad {c with O:=F} (λs1=>B {s1 with O:=c.O} s1.O) h
 case inr.inr.inl=>
  have Q:e.fc=p.fc:=by have o:=o;unfold Yl at o;split at o;grind;cases o
  unfold mH at h⊢;cases I:e.fc<;>simp only[I,<-Q]at h⊢;exact UA o h;have:=UA (K:=λs1=>B {s1 with O:=c.O} s1.O) o h;exact this
 case inr.inl=>
  simp only[aq]at o;obtain⟨G,⟨ay,E⟩,z⟩:=o;obtain⟨V,X⟩:=Ea G;have ab:∀{f:Nat->D} {d:D} (l:Nat),l∈p.looks->eE f e.dst d l=f l:=λl H=>vG ak;have ac:∀{f:Nat->D} {d:D} (l:Nat),l∈e.looks->eE f p.dst d l=f l:=λl H=>vG ak;have u:∀(f:Nat->D) (d g:D),eE (eE f p.dst g) e.dst d=eE (eE f e.dst d) p.dst g:=λf d g=>(JQ f d g U).symm;have z:p.fc=Z:=by simpa using z
  unfold mH at h⊢;simp only[E,z]at h⊢;obtain⟨v,O1,n,h,_⟩:=Pj ay h;refine lE k (s:={c with T:=eE c.T e.dst v}) (s2:=c) U rfl rfl rfl rfl (λd L M w=>?_) h;refine n {c with T:=eE c.T p.dst d,O:=F,nx:=M} U rfl rfl _ ?_;simp only[u]at w⊢;exact w
 simp only[aq,fA]at o;obtain⟨⟨G,C⟩,aB⟩:=o;obtain⟨V,X⟩:=Ea G;have ab:∀{f:Nat->D} {d:D} (l:Nat),l∈p.looks->eE f e.dst d l=f l:=λl H=>vG ak;have ac:∀{f:Nat->D} {d:D} (l:Nat),l∈e.looks->eE f p.dst d l=f l:=λl H=>vG ak;have u:∀(f:Nat->D) (d g:D),eE (eE f p.dst g) e.dst d=eE (eE f e.dst d) p.dst g:=λf d g=>(JQ f d g U).symm;rcases aB with(⟨⟨N,aO,aP⟩,aE⟩|⟨E,z⟩)|⟨E,z⟩
 have names:∀{A:ah} {i:Nat} {q t:Option fg},(q.isSome=aa->tA e.op=aa)->(t.isSome=aa->tA p.op=aa)->
  uM (uM A (i+p.op.nm) t) (i+e.op.nm) q=uM (uM A (i+e.op.nm) q) (i+p.op.nm) t:=by
  intro A i q t m1 m2;cases q with
  |none=>exact aj
  |some n=>
   cases t with
   |none=>rfl
   |some r=>
    have aR:e.op.nm≠p.op.nm:=by rcases aE with h|h;grind;grind
    funext id;simp only[uM,am];grind
 have aS:∀{A:ah} {i id m:Nat} {j:Option fg},id<i->uM A (i+m) j id=A id:=by intro A i id m j a0;cases j with|none=>rfl|some R=>exact eP _ _ y
 have ag:∀{A:ah} {i:Nat} {j:Option fg},(j.isSome=aa->tA e.op=aa)->(A=uM A (i+e.op.nm) j\/(EJ p.op=aa/\∀id,id<i->A id=uM A (i+e.op.nm) j id)):=by intro A i j w;cases j with|none=>exact aj|some R=>grind
 have al:∀{A:ah} {i:Nat} {j:Option fg},(j.isSome=aa->tA p.op=aa)->(uM A (i+p.op.nm) j=A\/(EJ e.op=aa/\∀id,id<i->uM A (i+p.op.nm) j id=A id)):=by intro A i j w;cases j with|none=>exact aj|some R=>grind
 unfold mH at h⊢;cases I:e.fc<;>cases hy:p.fc<;>simp only[I,hy]at h⊢;obtain⟨v,q,n,h⟩:=mj C h;obtain⟨x,t,r,h⟩:=mj N h;refine r.y8 c U rfl rfl ((ag n.made).imp aj aj) _ ?_;refine n.y8 {c with T:=eE c.T p.dst x,O:=uM c.O (c.bs+p.op.nm) t} U rfl rfl ((al r.made).imp aj aj) _ ?_;have S:=names (A:=c.O) (i:=c.bs) n.made r.made;simp only[u]at h⊢;rw[S];exact h;obtain⟨v,q,n,h⟩:=mj C h;obtain⟨x,t,r,h⟩:=mj N h;refine r.y8 {c with O:=F} U rfl rfl Y _ ?_;refine n.y8 {c with T:=eE c.T p.dst x} U rfl rfl Y _ ?_;simp only[u]at h⊢;exact h;obtain⟨v,q,n,h⟩:=mj C h;obtain⟨x,t,r,h⟩:=mj N h;refine r.y8 c U rfl rfl Y _ ?_;refine n.y8 {c with T:=eE c.T p.dst x,O:=F} U rfl rfl Y _ ?_;simp only[u]at h⊢;exact h;obtain⟨v,q,n,h⟩:=mj C h;obtain⟨x,t,r,h⟩:=mj N h;refine r.y8 {c with O:=F} U rfl rfl ((ag n.made).imp aj aj) _ ?_;refine n.y8 {c with T:=eE c.T p.dst x,O:=uM F (c.bs+p.op.nm) t} U rfl rfl ((al r.made).imp aj aj) _ ?_;have S:=names (A:=F) (i:=c.bs) n.made r.made;simp only[u]at h⊢;rw[S];exact h
 have z:p.fc=Z:=by simpa using z
 unfold mH at h⊢;simp only[E,z]at h⊢;obtain⟨v,q,n,h⟩:=mj C h;refine lE k (s:={c with T:=eE c.T e.dst v}) (s2:=c) U rfl rfl rfl rfl (λd L M w=>?_) h;refine n.y8 {c with T:=eE c.T p.dst d,O:=F,nx:=M} U rfl rfl Y _ ?_;simp only[u]at w⊢;exact w
 have E:e.fc=Z:=by simpa using E
 unfold mH at h⊢;simp only[E,z]at h⊢;obtain⟨v,q,n,h⟩:=mj C h;refine lE k (s:={c with T:=eE c.T e.dst v,O:=F}) (s2:={c with O:=F}) U rfl rfl rfl rfl (λd L M w=>?_) h;refine n.y8 {c with T:=eE c.T p.dst d,nx:=M} U rfl rfl Y _ ?_;simp only[u]at w⊢;exact w
end
def vh(a:Oper):List Nat:=(a.after.toList.filter (HX .any ·)).map (·.on)
def MK(b:Array Oper)(c:List (List Nat)):Bool:=(List.range b.size).all λe=>match b[e]? with|some a=>(vh a).all (λr=>decide (r<e))&&(c.getD e []).all λr=>(vh a).contains r||(vh a).any λd=>(c.getD d []).contains r|none=>Z
def sS(a:List (List Nat)):List (Nat×aA)->Bool|[]=>aa|f::b=>(b.all λp=>(a.getD p.1 []).contains f.1||Ev f.2 p.2)&&sS a b
section
variable {b:Program}{c:Nat}{a:Array Oper}
theorem Bg(c:e∈kZ .any a R):e<a.size/\R.getD e aa=Z/\∃d,a[e]? =J d/\∀r∈vh d,R.getD r Z=aa:=by simp only[kZ,jB,yH,aq]at c;obtain⟨b,i,f⟩:=c;refine⟨b,ak,a[e],by simp[b],λr h=>?_⟩;simp only[vh,bN,jB]at h;obtain⟨g,⟨j,k⟩,rfl⟩:=h;simp only[jb b,fK,A7]at f;have:=E1.1 f g aj;grind
theorem aeh(b:e<a.size)(h:R.getD e aa=Z)(d:∀c,a[e]? =J c->∀r∈vh c,R.getD r Z=aa):e∈kZ .any a R:=by simp only[kZ,jB,yH,aq];refine⟨b,U,?_⟩;simp only[jb b,fK,A7];refine E1.2 λg i=>?_;by_cases f:HX .any g=aa;simp only[f,BE,Bool.false_or];exact d a[e] (by simp[b]) g.on (by simp only[vh,bN,jB];grind);exact U
def Ez(c:Array Oper)(a:Array Bool):Prop:=∀e b,c[e]? =J b->a.getD e Z=aa->∀r∈vh b,a.getD r Z=aa
def Mh(k:MK a bH=aa)(l:Ez a R):∀(e:Nat) (c:Oper),a[e]? =J c->(∀r∈vh c,R.getD r Z=aa)->∀r∈bH.getD e [],R.getD r Z=aa:=by
 intro e;induction e using IM with
 |_ e ih=>
  intro c g h r m;have q:=(lN.1 g).1;have f:=jC.1 k e U;simp only[g,aq]at f;have b:=jC.1 f.2 r m;simp only[fA]at b;rcases b with b|b
  exact h r (by simpa using b);obtain⟨d,i,n⟩:=pq.1 b;have o:d<e:=by simpa using jC.1 f.1 d i
  have j:d<a.size:=y;have p:=h d i;exact ih d o a[d] (by simp[j]) (l d a[d] (by simp[j]) p) r (by simpa using n)
def K6{b:cR}(f:mu b){c:aA}{g:St}{F:ah}{h i:St->ah->Prop}(j:∀k l,h k l->i k l)(a:mH b c g F h):mH b c g F i:=by unfold mH at a⊢;cases m:c.fc<;>simp only[m]at a⊢;exact lE f U rfl rfl rfl rfl (λd L n e=>j _ _ e) a;exact lE f U rfl rfl rfl rfl (λd L n e=>j _ _ e) a
def alz{a:cR}(g:mu a){h:aA}:∀(b c:List aA) {d:St} {F:ah} {e:St->ah->Prop},(∀f∈b,Ev f h=aa)->fS a (b++h::c) d F e->mH a h d F λi j=>fS a (b++c) i j e
 |[],c,d,F,e,_,k=>ar
 |f::b,c,d,F,e,o,k=>by
  rw[kR,NI]at k;have n:mH a f d F λs1 l=>mH a h s1 l λi j=>fS a (b++c) i j e:=K6 g (λs1 l m=>alz g b c U m) k
  refine K6 g (λs1 l m=>?_) (swap g U n);rw[kR,NI];exact m
theorem LX{a:Nat}{b:Bool}(c:e<R.size):(R.setIfInBounds e aa).getD a b=if a=e then aa else R.getD a b:=by simp only[pA,xm];grind
theorem KG{d:List (List Nat)}:∀{a b:List (Nat×aA)} {p:Nat×aA},sS d (a++p::b)=aa->sS d (a++b)=aa/\∀f∈a,((d.getD p.1 []).contains f.1||Ev f.2 p.2)=aa|[],b,p,c=>by simp only[rA,sS,aq]at c⊢;exact U|f::a,b,p,c=>by simp only[kR,sS,aq]at c⊢;obtain⟨e,g⟩:=KG c.2;grind
theorem P0(ha:MK a bH=aa){ao:Exit->cu->World->Prop}{m:Nat}{later:List Nat}(bn:∀e d,bO e d->∃I d',a[e]? =J I/\Dr b c a e I=J d'/\∀i (D:St->Prop),d9 (X b) d i D->d9 (X b) d' i D):
 ∀(Q:Nat) (s:List (Nat×aA)) (R:Array Bool) (N:cu) (w:World) (x:cC) (i:St) (F:ah) (D:St->ah->Prop),
  s.length=Q->R.size=a.size->(s.map (·.1)).Nodup->(∀e,((∃d,(e,d)∈s)\/e∈later)↔e<a.size/\R.getD e aa=Z)->(∀p∈later,∀k∈s,k.1∈bH.getD p []/\k.1≠p)->(∀k∈s,bO k.1 k.2)->Ez a R->sS bH s=aa->
  Rz c w x N {i with O:=bp i.O F}->zH i.O F->i.bs+a.size<=i.nx->
  (∀k∈s,i.gm (i.bs+k.1)=x.gen (i.bs+k.1)+1/\i.O (i.bs+k.1)=ae/\F (i.bs+k.1)=ae)->
  fS (X b) (s.map (·.2)) i F D->
  (∀l u H z G l',D l u->Rz c G H z {l with O:=bp l.O u}->eI (λid=>i.bs<=id) (W w) x (bp i.O F) (W G) H (bp l.O u)->i.nx<=l.nx->l'.size=a.size->Ez a l'->(∀e,e∈later↔e<a.size/\l'.getD e aa=Z)->xX b .any a ao m l' z G)->
  xX b .any a ao (Q+m) R N w:=by
 intro Q;induction Q with
 |zero=>intro s R N w x i F D hl ax ay K ag hd hc aS q ab bo hg h hK;have hr:s=[]:=ak;subst hr;rw[bf];exact hK i F x N w R h q (eI.refl _ _ _ _) y ax hc ak
 |succ Q ih=>
  intro s R N w x i F D hl ax ay K ag hd hc aS q ab bo hg h hK;rw[Nat.succ_add];have a0:∀{e},e<a.size->R.getD e aa=R.getD e Z:=U;refine⟨λh0=>?_,λe hi=>?_⟩
  exfalso;have bs:∃e,e<a.size/\R.getD e aa=Z:=by cases s with|nil=>simp at hl|cons k bu=>exact⟨k.1,(K k.1).1 (.inl ⟨k.2,Y⟩)⟩
  obtain⟨e,hi⟩:=bs;have:∀e,e<a.size->R.getD e aa=Z->False:=by
   intro e;induction e using IM with
   |_ e bA=>
    intro h1 h2;by_cases bB:∀I,a[e]? =J I->∀r∈vh I,R.getD r Z=aa;have:=aeh h1 h2 aj;rw[h0]at this;simp at this;apply bB;intro I P r A;have t:=jC.1 ha e U;simp only[P,aq]at t;have bC:r<e:=by simpa using jC.1 t.1 r A
    have bL:r<a.size:=y;cases n:R.getD r Z with|true=>rfl|false=>exact(bA r bC bL U).elim
  exact this e y hi.2
  .obtain⟨h1,h2,I,P,bM⟩:=Bg hi
   have S:∃d,(e,d)∈s:=by
    rcases(K e).2 aj with h|h;exact h;cases al:s with
    |nil=>rw[al]at hl;simp at hl
    |cons k bu=>
     have n:k∈s:=by rw[al];simp
     have h4:=Mh ha hc e I P U k.1 (ag e h k n).1;have T:=((K k.1).1 (.inl ⟨k.2,n⟩));rw[a0 y,h4]at T;exact absurd T.2 Y
   obtain⟨d,S⟩:=S;obtain⟨B,L,al⟩:=List.append_of_mem S;subst al;obtain⟨bR,bS⟩:=KG aS;have b1:∀k∈B,k∈B++(e,d)::L:=U;have bT:∀f∈B.map (·.2),Ev f d=aa:=by
    intro f C;obtain⟨k,n,rfl⟩:=bN.1 C;have t:=bS k n;simp only[fA]at t;rcases t with t|t
    exfalso;have h4:=Mh ha hc e I P U k.1 (by simpa using t);have T:=((K k.1).1 (.inl ⟨k.2,U⟩));rw[a0 T.1,h4]at T;exact absurd T.2 Y;exact t
   have t:mH (X b) d i F λl u=>fS (X b) ((B++L).map (·.2)) l u D:=by rw[cG];refine alz br (B.map (·.2)) (L.map (·.2)) bT ?_;simpa using h
   obtain⟨aB,a1,a3⟩:=hg (e,d) S;simp only at aB a1 a3;obtain⟨o',d',a4,a5,a6⟩:=bn e d (hd _ S);rw[P]at a4;cases a4;have a7:∀k∈B++L,k.1≠e:=by
    intro k n g;have M:((B++(e,d)::L).map (·.1)).Nodup:=ay;rw[cG,bG,jW]at M;simp only[kQ,bN,bt]at M;rcases bg.1 n with n|n
    exact M.2.2 k.1 ⟨k,n,rfl⟩ e (.inl rfl) g;exact M.2.1.1 ⟨k,n,g⟩
   have next:∀(l:St) (u:ah) (H:cC) (z:cu) (G:World),fS (X b) ((B++L).map (·.2)) l u D->Rz c G H z {l with O:=bp l.O u}->zH l.O u->
    eI (Ni i e) (W w) x (bp i.O F) (W G) H (bp l.O u)->i.nx<=l.nx->l.bs=i.bs->l.gm=i.gm->xX b .any a ao (Q+m) (R.setIfInBounds e aa) z G:=by
    intro l u H z G hh v bX C ac V ad;have bZ:eI (λid=>i.bs<=id) (W w) x (bp i.O F) (W G) H (bp l.O u):=C.mono λid o=>by rcases o with h|h<;>omega
    have a8:e<R.size:=y;refine ih (B++L) (R.setIfInBounds e aa) z G H l u D ?_ (by simpa using ax) ?_ ?_ (λp hy k n=>ag p hy k ?_) (λk n=>hd k ?_) ?_ bR v bX y (λk n=>?_) hh
     (λs2 F2 c2 a2 w2 l2 k2 R2 x2 b2=>hK s2 F2 c2 a2 w2 l2 k2 R2 (bZ.trans (by rw[V]at x2;exact x2)) y)
    simp at hl⊢;omega;have M:((B++(e,d)::L).map (·.1)).Nodup:=ay;rw[cG,bG,jW]at M;rw[cG,jW];exact⟨M.1,(kQ.1 M.2.1).2,λf C p hy=>M.2.2 f C p (by simp only[bt];exact .inr hy)⟩;intro r;rw[LX a8];constructor;rintro(⟨g,E⟩|an);have A:=a7 (r,g) E;simp only at A;rw[ap A];refine(K r).1 (.inl ⟨g,?_⟩);simp only[bg,bt]at E⊢;exact E.imp (λh=>h) .inr;rw[ap λg=>(ag r an (e,d) S).2 g.symm];exact(K r).1 (.inr an);rintro⟨b0,aE⟩;by_cases A:r=e;simp[A]at aE;rw[ap A]at aE;rcases(K r).2 ⟨b0,aE⟩ with⟨g,E⟩|an
    refine .inl ⟨g,?_⟩;simp only[bg,bt,xe]at E⊢;rcases E with E|⟨rfl,_⟩|E
    exact .inl E;exact absurd rfl A;exact .inr E;exact .inr an;simp only[bg,bt]at n⊢;exact n.imp (λh=>h) .inr;simp only[bg,bt]at n⊢;exact n.imp (λh=>h) .inr;intro r oj aI aO j hk;rw[LX a8]at aO⊢;by_cases A:r=e;subst A;rw[P]at aI;cases aI;have:=bM j hk;split;rfl;exact this;rw[ap A]at aO;have:=hc r oj aI aO j hk;split;rfl;exact this;have a9:k∈B++(e,d)::L:=by simp only[bg,bt]at n⊢;exact n.imp (λh=>h) .inr
    obtain⟨g1,g2,g3⟩:=hg k a9;have b3:=((K k.1).1 (.inl ⟨k.2,a9⟩)).1;have b4:=a7 k n;have bb:¬Ni i e (i.bs+k.1):=by rintro(h|h)<;>omega
    have bd:bp i.O F (i.bs+k.1)=ae:=by simp[bp,g2,g3]
    have be:=mU (C.nw _ bb bd);rw[V,ad,C.fr _ bb bd];exact⟨g1,be.1,be.2⟩
   have bk:i.bs+e<i.nx:=y;unfold mH at t;cases hf:d.fc with
   |false=>
    simp only[hf]at t;have aP:Rz c w x N i:=⟨q.sz,q.df,q.tm,q.inv.sub WP,λid o=>(mU (q.fr id o)).1⟩;refine Ap P a5 aP bk aB (a6 _ _ t) λl H z G hk v C ac V ad=>?_;have hN:∀id,(F id).isSome=aa->¬Ni i e id:=by rintro id o (rfl|aR);rw[a3]at o;cases o;have:=(mU (q.fr id aR)).2;rw[this]at o;cases o
    obtain⟨f1,f2,f3⟩:=frame q.inv ab v.inv C hN;refine next l F H z G hk ⟨v.sz,v.df,v.tm,f1,λid o=>?_⟩ f3 f2 ac V ad
    simp only at o;have e1:=v.fr id o;have e2:=(mU (q.fr id (by simp only;omega))).2;simp[bp,e1,e2]
   |true=>
    simp only[hf]at t;have bl:Rz c w x N {i with O:=bp F i.O}:=by rw[<-Fu ab];exact q
    have aP:Rz c w x N {i with O:=F}:=⟨q.sz,q.df,q.tm,bl.inv.sub WP,λid o=>(mU (q.fr id o)).2⟩;refine Ap P a5 aP bk aB (a6 _ _ t) λl H z G hk v C ac V ad=>?_;have hN:∀id,(i.O id).isSome=aa->¬Ni {i with O:=F} e id:=by rintro id o (g|aR);simp only at g;subst g;rw[a1]at o;cases o;have:=(mU (q.fr id aR)).1;rw[this]at o;cases o
    obtain⟨f1,f2,f3⟩:=frame bl.inv ab.symm v.inv C hN;have bm:bp l.O i.O=bp i.O l.O:=Fu f3;refine next {l with O:=i.O} l.O H z G hk ⟨v.sz,v.df,v.tm,by rw[bm]at f1;exact f1,λid o=>?_⟩ f3.symm (by rw[<-Fu ab,bm]at f2;exact f2) ac V ad
    simp only at o;have e1:=v.fr id o;have e2:=(mU (q.fr id (by simp only at ac⊢;omega))).1;simp[bp,e1,e2]
theorem Mm(w:MK a bH=aa){t:Exit->cu->World->Prop}(x:∀e d,bO e d->∃u v,a[e]? =J u/\Dr b c a e u=J v/\∀g (i:St->Prop),d9 (X b) d g i->d9 (X b) v g i):
 ∀(q:Nat) (h:List (Nat×aA)) (R:Array Bool) (r:cu) (n:World) (o:cC) (g:St) (F:ah) (i:St->ah->Prop),
  h.length=q->R.size=a.size->(h.map (·.1)).Nodup->(∀e,(∃d,(e,d)∈h)↔e<a.size/\R.getD e aa=Z)->(∀k∈h,bO k.1 k.2)->Ez a R->sS bH h=aa->
  Rz c n o r {g with O:=bp g.O F}->zH g.O F->g.bs+a.size<=g.nx->
  (∀k∈h,g.gm (g.bs+k.1)=o.gen (g.bs+k.1)+1/\g.O (g.bs+k.1)=ae/\F (g.bs+k.1)=ae)->
  fS (X b) (h.map (·.2)) g F i->
  (∀l p H s G,i l p->Rz c G H s {l with O:=bp l.O p}->eI (λid=>g.bs<=id) (W n) o (bp g.O F) (W G) H (bp l.O p)->g.nx<=l.nx->t .normal s G)->
  xX b .any a t q R r n:=by
 intro q h R r n o g F i y z A S B C D E I K L M N;refine P0 (m:=0) (later:=[]) w x q h R r n o g F i y z A U ak B C D E I K L M λl p H s G T j P f le V Y h3=>⟨?_,N l p H s G j P f le⟩;apply List.eq_nil_iff_forall_not_mem.2;intro e Q;obtain⟨q1,q2,_⟩:=Bg Q;grind
end
section
variable {a:cR}(b:mu a)
include b
theorem rJ{c:aA}{d:St}{e f:St->Prop}(h:∀g,e g->f g)(i:d9 a c d e):d9 a c d f:=lE b U rfl rfl rfl rfl (λ_ _ _ j=>h _ j) i
theorem DU:∀(c:List aA) {f:St} {g be:St->Prop},(∀h,g h->be h)->eN a c f g->eN a c f be|[],_,_,_,d,e=>d _ e|_::c,_,_,_,d,e=>rJ b (λ_ i=>DU c d i) e
theorem rK:∀(d:List aA) {g:St} {F:ah} {h be:St->ah->Prop},(∀i j,h i j->be i j)->fS a d g F h->fS a d g F be|[],_,_,_,_,e,c=>e _ _ c|k::d,_,_,_,_,e,c=>by simp only[fS]at c⊢;cases l:k.fc<;>simp only[l]at c⊢;exact rJ b (λ_ f=>rK d e f) c;exact rJ b (λ_ f=>rK d e f) c
end
end Go.Dl
