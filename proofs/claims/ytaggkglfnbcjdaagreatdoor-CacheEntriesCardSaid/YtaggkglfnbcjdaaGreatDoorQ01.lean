import Derived.Laws.BytesString
import Derived.Laws.StructEq
import Derived.ChangeKeysEq
import Derived.MapKept
import Derived.Test.YtaggkglfnbcjdaaGreatDoorQ00
set_option linter.all false
set_option maxRecDepth 1000000
set_option maxHeartbeats 40000000
namespace Go.Dl.Ai
end Go.Dl.Ai
namespace Go.Proofs
end Go.Proofs
namespace Ty
end Ty
open Array renaming range->uA,size_append->GX
open Bool renaming false->Z,true->aa
open Go renaming Addr->fB,Field->jV,MapEntry->fy,Operand->cS,TypeId->dL,asIntOf->qS,binOp->fM,execOp->aG,grownCap->lG,grownCap_le_maxLen->HF,growslice_fits->Jx,maxLen->lL,newRow->oA,resolve->lC,run_eqGuard_agg->Hz,run_equalIn_struct->G9,run_part_plain->Bx,size_zeroCells->xo,storeCells->Ba
open Go.Builtin renaming append_->nq,clear_->xv,firstCells->iZ,lenOf->xR,nextslicecap->GB,zeroCells->lM
open Go.Deferred renaming ofValue->GQ
open Go.Instr renaming checkKey->vm,findAsking->AU,findKey->AX,findNow->rq,keyThatStays->GH,makeSlice->GR,sameBits->pB,sameNow->uF,slice->CJ,sliceAt->BF,sliceBound->Jq,sliceBounds->jD
open Go.IntKind renaming i64->cI
open Go.Op renaming eqFields->Gx,equal->qk,equalIn->uE,maxDepth->BH
open Go.Program renaming fieldsOf->Gq
open Go.Question renaming forced->Ak
open Go.World renaming setRow->Bl
open List renaming replicate->fL,take->ou
open Nat renaming mul_eq_zero->Hf
open Option renaming map_map->IH,none->ae,some->J
open PUnit renaming unit->xH
open Go Go.Dl Go.Dl.Ai
def fN:=@Bool.false_eq_true
def dC:=@if_false
def aq:=@Bool.and_eq_true
def dJ:=@decide_eq_true_eq
def qh:=@List.eq_nil_of_length_eq_zero
def xT:=@Nat.add_assoc
def AY:=@Nat.mul_comm
def AL:=@Nat.mod_lt
def mh:=@List.map_map
def Hy:=@Array.getElem?_append_right
def xj:=@Array.getElem?_append_left
def HD:=@List.drop_eq_getElem_cons
def kN:=@Option.some.inj
def gK:=@List.drop_zero
def Qn:=@Nat.le_of_mul_le_mul_right
def xc:=@List.getElem?_append_left
def kV:=@List.getElem?_append_right
def Ji:=@not_false_eq_true
def eC:=@List.map_nil
def kJ:=@List.cons.injEq
def pu:=@and_true
def sA:=@ByteArray.toList_eq
def oZ:=@MapKept.bytes_beq
def tG:=@Array.ext
def jb:=@Array.getElem?_eq_getElem
def Be:=@Bool.true_and
def jC:=@List.all_eq_true
variable {f u:cS}{k:Call}{i:TypeInfo}{n len cap a id t:Nat}{j g G s ty:dL}{aS bn bA:Option cS}{bB bu Q:Option dh}{o:Array Value}{ys es:List (List D)}{w':World}{b:Option fB}{q olds:List Value}{d:D}{r F R:Value}{l be:List P}{ag:ah}{S:Nat->Option Value}{aR x neg:Bool}{T:fB}{A:P×D×Nat}{V aB:dh}{C:Array jV}{E:List SK}{H:FuncId}{bC:List dh}{aP:KK}{K:List (P×D×Nat)}{e:Option Nat}
namespace Go.Dl
section
variable {v:Program}{L:Nat->Prop}{z:Oper}{c:Act}{m:World}{B:cC}{w:St}{I:D->ah->Nat->Prop}
variable (h:iA (W m) B w.O)(p:∀j,D.rd (W m) B (w.T j) (c.tmps.getD j undef))
include h p
theorem IU{b:Option cS}{d:Option dh}{f top:Nat}{h:Nat->Prop}(e:nZ b=J d)(a:jK w.ev f top h d):
 ∃n,h n/\((b=ae/\d=ae/\n=f)\/∃l k,∃i:Int,b=J l/\d.isSome=aa/\c.eval l=.int k i/\0<=i/\i=n/\n<=top):=by cases b with|none=>simp[nZ,du]at e;subst e;exact⟨f,a,Y⟩|some l=>simp[nZ,bj]at e;obtain⟨s,m,rfl⟩:=e;have j:=eR p m;simp[jK]at a;split at a;rename_i k i g;rw[g]at j;obtain⟨o,r,q⟩:=a;exact⟨i.toNat,q,.inr ⟨l,k,i,rfl,rfl,j,o,y,y⟩⟩;exact a.elim
omit h p in
theorem lD{b:IntKind}{a:Int}{top:Nat}(f:0<=a)(c:a=n)(d:n<=top)(e:BoundsCode):(Jq (.int b a) top e).run v m=.ok n m:=by subst c;simp[Jq,qS,d]
theorem akQ{o:dh}(C:cO f=J o)(D:nZ aS=J bB)(E:nZ bn=J bu)(F:z.op=.slice j f aS bn ae)(G:v.underlying j=J .string)(d:aN (X v) (.Il o bB bu) w I):OW v L w.nx z c m B w.O I:=by
 have q:=eR p C;simp only[aN]at d;split at d;rename_i b g;rw[g]at q;have H:c.eval f=.string b:=q;obtain⟨a,K,M⟩:=IU h p E d;obtain⟨t,N,r⟩:=IU h p D K;refine OW.ce h ?_ N rfl;have O:(jD Z b.size b.size (aS.map c.eval) (bn.map c.eval) ae).run v m=.ok (t,a,b.size) m:=by rcases M with⟨rfl,_,rfl⟩|⟨l,k,i,rfl,_,s,u,x,A⟩;rcases r with⟨rfl,_,rfl⟩|⟨P,Q,R,rfl,_,e,n,S,T⟩;exact aj;simp[jD,e,lD n y y];rcases r with⟨rfl,_,rfl⟩|⟨P,Q,R,rfl,_,e,n,S,T⟩;simp[jD,s,lD u x A];simp[jD,s,e,lD u x A,lD n y y]
 simp[aG,F,H,BF,CJ,bv G,O];exact aj
theorem I3(I:nZ aS=J bB)(K:nZ bn=J bu)(L:nZ bA=J Q)(U:(Q.isSome&&bu.isNone)=Z)(V:len<=cap){u:Nat->Nat->Nat->Prop}(b:jK w.ev len len (λa=>jK w.ev len a (λb=>jK w.ev 0 b (λt=>u a b t) bB) bu) Q):
 ∃a b t,u a b t/\t<=b/\b<=a/\a<=len/\(Q=ae->a=len)/\(jD aa len cap (aS.map c.eval) (bn.map c.eval) (bA.map c.eval)).run v m=.ok (t,b,if Q.isSome then a else cap) m:=by
 obtain⟨a,M,x⟩:=IU h p L b;obtain⟨s,N,r⟩:=IU h p K M;obtain⟨t,O,q⟩:=IU h p I N;have P:a<=len:=by rcases x with⟨_,_,rfl⟩|⟨_,_,_,_,_,_,_,_,d⟩;omega;exact d
 have R:s<=a:=by rcases r with⟨rfl,S,rfl⟩|⟨_,_,_,_,_,_,_,_,d⟩;grind;exact d
 have T:t<=s:=by rcases q with⟨_,_,rfl⟩|⟨_,_,_,_,_,_,_,_,d⟩;omega;exact d
 refine⟨a,s,t,O,T,R,P,λg=>?_,?_⟩;grind;rcases x with⟨rfl,rfl,rfl⟩|⟨W,X,Y,rfl,z,A,B,C,ab⟩
 rcases r with⟨rfl,_,rfl⟩|⟨l,k,i,rfl,_,e,f,j,d⟩;rcases q with⟨rfl,_,rfl⟩|⟨D,E,F,rfl,_,n,o,G,H⟩;exact aj;simp[jD,n,lD o y y];rcases q with⟨rfl,_,rfl⟩|⟨D,E,F,rfl,_,n,o,G,H⟩;simp[jD,e,lD f j (show s<=cap by omega)];simp[jD,e,n,lD f j (show s<=cap by omega),lD o y y];rcases r with⟨rfl,S,rfl⟩|⟨l,k,i,rfl,_,e,f,j,d⟩;grind;rcases q with⟨rfl,_,rfl⟩|⟨D,E,F,rfl,_,n,o,G,H⟩;simp[jD,A,e,lD B C (show a<=cap by omega),lD f j d,z];simp[jD,A,e,n,lD B C (show a<=cap by omega),lD f j d,lD o y y,z]
theorem ank{ag:dh}(hx:cO f=J ag)(R:nZ aS=J bB)(s:nZ bn=J bu)(V:nZ bA=J Q)(W:(Q.isSome&&bu.isNone)=Z)(ho:z.op=.slice j f aS bn bA)(hu:v.underlying j=J (.slice g))(hn:lh v g=J n)(q:aN (X v) (.tZ n ag bB bu Q) w I):OW v L w.nx z c m B w.O I:=by
 have e:=eR p hx;have al:∀(b:Option fB) (len cap t s a:Nat),c.eval f=.slice b len cap->(jD aa len cap (aS.map c.eval) (bn.map c.eval) (bA.map c.eval)).run v m=.ok (t,s,a) m->
  (aG c.eval z).run v m=.ok (.value (.slice (if a=t then b else b.map (·.add (t*n))) (s-t) (a-t))) m:=by intro b len cap t s a u hb;simp[aG,ho,u,BF,CJ,bv hu,hb,mQ hn]
 simp only[aN]at q;split at q;rename_i id S off len K aR N;rw[N]at e;obtain⟨⟨ao,i,E,hk,ay,a2⟩,hg,e⟩:=e;obtain⟨rfl,q⟩:=q;obtain⟨a,l,t,⟨a3,r⟩,h2,h3,h4,h5,F⟩:=I3 h p R s V W hk q;by_cases x:(Q.isSome&& !(decide (l=a)))=aa;rw[aU x]at r;exact OW.ce h aj r aj;rw[ap x]at r;have an:Q.isSome=aa->l=a:=ak;have hM:t<=(if Q.isSome=aa then a else i)/\l<=(if Q.isSome=aa then a else i)/\(if Q.isSome=aa then a else i)<=i:=by split<;>omega
 obtain⟨M,H⟩:∃M,M=(if Q.isSome=aa then a else i):=Y;rw[<-H]at hM F;refine OW.ce h aj r ⟨⟨_,_,rfl,y,λT d=>?_,λd=>?_⟩,hg,λu=>?_⟩;cases ao with|none=>grind|some C=>have:=ay C rfl;split at d;exact U;cases d;show(C.add (t*K)).spot=ae;rw[ku _ ar]
 cases ao with|none=>grind|some C=>grind
 have e:=e u;cases aB:B.loc id with|none=>grind|some b=>rw[aB]at e;obtain⟨k2,o',o,G,fz,e4,_,a4,a5,hH,hc⟩:=e;rw[E]at e4;cases e4;refine⟨M-t,if M=t then o' else o'+t*K,o,G,fz,?_,y,λa6=>?_,y,hH,?_⟩;by_cases aE:M=t;grind;simp[aE,tN];grind;grind
 rename_i es K aR N;rw[N]at e;obtain⟨b,k0,i,E,aI,ax,hf,aO,aP,hr⟩:=e;obtain⟨rfl,q⟩:=q;rw[aI]at E ax hf;obtain⟨a,l,t,⟨an,r⟩,h2,h3,h4,h5,F⟩:=I3 h p R s V W ax q;have hM:t<=(if Q.isSome=aa then a else i)/\l<=(if Q.isSome=aa then a else i)/\(if Q.isSome=aa then a else i)<=i:=by split<;>omega
 obtain⟨M,H⟩:∃M,M=(if Q.isSome=aa then a else i):=Y;rw[<-H]at hM F;have a0:((es.take l).drop t).length=l-t:=dK;refine OW.ce h (al _ _ _ _ _ _ E F) r ⟨_,_,_,rfl,a0.symm,y,λab=>?_,λd=>?_,λT d=>?_,?_⟩;cases ac:Q.isSome with|true=>simp only[ac,aT]at H;have:=an ac;omega|false=>simp only[ac,fN,dC]at H ab;subst H;simp only[aq,dJ]at ab;have:=hf ab.1;omega
 cases b with|none=>have:=aO rfl;omega|some C=>split at d<;>cases d
 cases b with
 |none=>split at d<;>cases d
 |some C=>have:=aP C rfl;split at d;cases d;exact this;cases d;show(C.add (t*K)).spot=ae;rw[ku _ this]
 by_cases u:(es.take l).drop t=[];exact .inl u;have a7:t<l:=by apply AJ;intro hc;exact u (qh y)
 rcases hr with rfl|⟨T,o,G,fz,rfl,O,a1,hH,hr⟩;simp at u;refine .inr ⟨T.add (t*K),o,G,fz,?_,by rw[ku _ O],by rw[ku _ O];exact a1,by rw[ku _ O];exact hH,?_⟩;rw[ap y];rfl;rw[ku _ O];refine(P.gd _ _ _ _).2 λk A x=>?_;rw[mo,nv]at x;split at x;have:=(P.gd _ _ _ _).1 hr (t+k) A x
 rwa [eX,<-xT]at this
 cases x;rename_i N;rw[N]at e;have E:c.eval f=.slice ae 0 0:=e;obtain⟨a,l,t,r,h2,h3,h4,h5,F⟩:=I3 h p R s V W (bV 0) q;obtain rfl:a=0:=y;obtain rfl:l=0:=y;obtain rfl:t=0:=y;refine OW.ce h (al _ _ _ _ _ _ E F) r ?_;simp[D.rd,P.rd];exact aj
end
theorem P3{l:Hp}{m:cC}{b:Nat}(p:D.jl l m (λi=>o[i]?) b n ys):
 ∃q:List Value,q.length=ys.length*n/\(∀(e:Nat) (s:Value),q[e]? =J s->o[b+e]? =J s)/\(∀s∈q,s.oneCell'=aa)/\D.jl l m (λi=>q[i]?) 0 n ys:=by
 rw[D.gd]at p;have z:∀e,e<ys.length*n->∃r d,o[b+e]? =J r/\r.oneCell'=aa/\(ys[e/n]?.bind (·[e%n]?))=J d/\D.rd l m d r:=by
  intro e f;have A:0<n:=ak;have g:=Nat.div_lt_of_lt_mul (by rwa [AY]);obtain⟨c,h⟩:=p (e/n) _ (bh g);have t:e%n<ys[e/n].length:=by rw[c];exact AL _ A
  obtain⟨r,u,v,w⟩:=(D.dE _ _ _).1 h (e%n) _ (bh t);refine⟨r,_,?_,v,U,w⟩;have:b+e/n*n+e%n=b+e:=by rw[xT,AY,Nat.div_add_mod]
  rwa [this]at u
 let q:=(List.range (ys.length*n)).map λe=>o.getD (b+e) undef
 have B:∀e,e<ys.length*n->∃r,q[e]? =J r/\o[b+e]? =J r:=by intro e f;obtain⟨r,d,c,_⟩:=z e f;exact⟨r,by simp[q,f,c],c⟩
 have F:q.length=ys.length*n:=by simp[q]
 have G:∀(e:Nat) (s:Value),q[e]? =J s->e<ys.length*n/\o[b+e]? =J s:=by
  intro e s j;have f:e<ys.length*n:=by have:=(bq.1 j).1;omega
  obtain⟨r,c,h⟩:=B e f;rw[c]at j;cases j;exact U
 refine⟨q,y,U,λs j=>?_,(D.gd _ _ _ _).2 λk x C=>?_⟩;grind;obtain⟨c,h⟩:=p k x C;refine⟨c,(D.dE _ _ _).2 λa d g=>?_⟩;obtain⟨r,u,v,w⟩:=(D.dE _ _ _).1 h a d g;have t:a<n:=by have:=(bq.1 g).1;omega
 have E:k<ys.length:=ak;have f:k*n+a<ys.length*n:=by have:(k+1)*n<=ys.length*n:=gH _ E;rw[eX]at this;omega
 grind
section
variable {Pg:Program}{p:Nat->Prop}{v:Oper}{c:Act}{w:World}{h:cC}{m:St}{z:D->ah->Nat->Prop}
def B3(c:Nat)(a:Option fB)(d:Nat)(b:World):(iZ c 0 (.slice a 0 d)).run Pg b=.ok #[] b:=by cases a<;>simp[iZ,loadCells,loadCellsFrom]
def K0{k a b:Nat}{c:Nat×Nat}(d:w'.heap[a]? =J (.cells o G c))(f:q.length=len*n)(g:∀(e:Nat) (s:Value),q[e]? =J s->o[b+e]? =J s):(iZ n len (.slice (J ⟨a,b,ae⟩) len k)).run Pg w'=.ok q.toArray w':=by
 have:=OJ (P:=Pg) w' ⟨a,b,ae⟩ q λe r h=>by rw[tN,BR d];exact U
 rw[f]at this;exact ar
theorem vO(O:iA (W w) h m.O)(c:fF m.O n d=J ys)(u:D.rd (W w) h d r):
 ∃b k,r=.slice b ys.length k/\∃q:List Value,q.length=ys.length*n/\(∀s∈q,s.oneCell'=aa)/\D.jl (W w) h (λi=>q[i]?) 0 n ys/\
  ∀w':World,w'.heap=w.heap->(iZ n ys.length r).run Pg w'=.ok q.toArray w':=by
 unfold fF at c;split at c;cases c;have g:=u;subst g;exact⟨ae,0,rfl,[],Y,Y,aj,aj⟩;rename_i es P aR;split at c;rename_i v;subst v;cases c;obtain⟨b,a,k,rfl,C,E,Q,_,_,j⟩:=u;rw[C]at E Q⊢;refine⟨b,k,Y,?_⟩;rcases j with rfl|⟨T,o,G,F,rfl,H,R,t,j⟩
 exact⟨[],Y,Y,aj,λw' _=>by simpa using B3 _ _ _ _⟩;obtain⟨q,f,U,l,x⟩:=P3 ((D.afg _ _ _ _).2 j);refine⟨q,f,l,x,λw' z=>?_⟩;have V:T=⟨T.block,T.off,ae⟩:=by cases T;simp only at H;subst H;rfl
 rw[V];have B:w'.heap[T.block]? =J (.cells o G F):=by rw[z];exact t
 have:=K0 (Pg:=Pg) (k:=k) B (by simpa using f) U;grind;grind;rename_i id S off len P aR;split at c;rename_i v;subst v;split at c;rename_i s2 g' es X;split at c;rename_i hc;obtain⟨rfl,rfl,E⟩:=hc;cases c;have I:((es.drop off).take len).length=len:=dK;rw[I];obtain⟨_,hg,f⟩:=u;have K:=O.gu _ _ X;have f:=f K.1;have L:=K.2;cases M:h.loc id with
 |none=>rw[M]at f;obtain⟨rfl,rfl,b,rfl⟩:=f;exact⟨b,0,rfl,[],Y,Y,aj,λw' _=>B3 _ _ _ _⟩
 |some b=>
  rw[M]at f L;obtain⟨k,o',o,G,F,rfl,hk,ab,C,t,ag⟩:=f;obtain⟨R,al,T2,N,j⟩:=L;rw[t]at N;cases N;have ac:D.jl (W w) h (λi=>o[i]?) (off*s2) s2 ((es.drop off).take len):=by refine(D.gd _ _ _ _).2 λe A p=>?_;rw[nv]at p;split at p;rw[mo]at p;have:=(D.gd _ _ _ _).1 j _ A p;grind;cases p
  obtain⟨q,l,x,h5,h6⟩:=P3 ac;rw[I]at l;refine⟨_,k,rfl,q,l,h5,h6,λw' z=>?_⟩;have B:w'.heap[b]? =J (.cells o G (0,0)):=by rw[z];exact t
  by_cases ad:k=0;obtain rfl:len=0:=y;have:q=[]:=ak;subst this;exact B3 _ _ _ _;rw[ab ad];exact K0 B l x
 grind;grind;grind;grind
theorem Ie(p:iA (W w) h m.O)(a:fO m.O n d=J ys)(f:D.rd (W w) h d r):
 (∀w':World,(xR r).run Pg w'=.ok ys.length w')/\∃q:List Value,q.length=ys.length*n/\(∀s∈q,s.oneCell'=aa)/\D.jl (W w) h (λi=>q[i]?) 0 n ys/\
  ∀w':World,w'.heap=w.heap->(iZ n ys.length r).run Pg w'=.ok q.toArray w':=by
 unfold fO at a;split at a;rename_i c;split at a;rename_i t;subst t;cases a;have g:r=.string c:=f;subst g;have j:((mC c).map (·.map D.p)).length=c.size:=by simp[mC]
 refine⟨λw'=>by rw[j];exact aj,c.data.toList.map λb=>.int .u8 b.toNat,U,?_,?_,?_⟩;intro s u;obtain⟨b,_,rfl⟩:=List.mem_map.1 u;rfl;refine(D.gd _ _ _ _).2 λk x l=>?_;simp only[mC,mh,dN,bj]at l;obtain⟨b,v,rfl⟩:=l;refine⟨rfl,(D.dE _ _ _).2 λe d o=>?_⟩;have y:e=0:=by have:=(bq.1 o).1;simp at this;omega
 subst y;cases o;exact⟨.int .u8 b.toNat,by simp[v],rfl,rfl⟩;intro w' _;rw[j];simp only[iZ];have:c.extract 0 c.size=c:=Y;rw[this];simp[wP,<-gq];grind;obtain⟨b,k,g,q,z,A,B,C⟩:=vO p a f;exact⟨λw'=>by rw[g];exact aj,q,z,A,B,C⟩
def vY(f:Pg.underlying j=J (.slice g))(c:Pg.underlying s=J (.slice g)\/Pg.underlying s=J .string)(h:Pg.info? g=J i){e:Value}(k:∀w':World,(xR e).run Pg w'=.ok a w')(l:(iZ i.size a e).run Pg w=.ok q.toArray w)(m:len+a<=cap)(n:∀d,b=J d->(Ba (d.add (len*i.size)) q).run Pg w=.ok () w')(o:b=ae->w'=w):
 (nq #[j,s] ty #[.slice b len cap,e]).run Pg w=.ok (.slice b (len+a) cap) w':=by
 rcases c with c|c<;>cases b with
 |none=>obtain rfl:=o rfl;simp[nq,bv f,bv c,sizeOf,typeInfo,h,k,m,l]
 |some d=>simp[nq,bv f,bv c,sizeOf,typeInfo,h,k,m,l,n d rfl]
theorem Qm{h:Value}(k:Pg.underlying j=J (.slice g))(c:Pg.underlying s=J (.slice g)\/Pg.underlying s=J .string)(l:Pg.info? g=J i)(m:i.zero=J h){d e:Value}(n:d=.slice b len cap)(o:∀w':World,(xR e).run Pg w'=.ok a w')(f:∀w':World,w'.heap=w.heap->(iZ i.size len d).run Pg w'=.ok olds.toArray w')(p:∀w':World,w'.heap=w.heap->(iZ i.size a e).run Pg w'=.ok q.toArray w')(r:cap<len+a)(t:len+a<=lL)(A:(len+a)*i.bytes<=140737488355328):
 (nq #[j,s] ty #[d,e]).run Pg w=
  .ok (.slice (J ⟨w.heap.size,0,ae⟩) (len+a) (lG w (len+a) cap g))
   (w.drew.alloc (.cells (olds.toArray++q.toArray++lM h.cells (lG w (len+a) cap g-(len+a))) g)):=by
 have B:=Jx r y;have u:¬(len+a<=cap):=y;have v:¬(9223372036854775807<((len:Int)+(a:Int))):=by simp only[lL]at t;omega
 have x:¬(281474976710656<GB (len+a) cap*i.bytes):=y;have z:=p w.drew rfl;have f:=f w.drew rfl;subst n;rcases c with c|c<;>
 .simp[nq,bv k,bv c,sizeOf,typeInfo,zeroValue,l,m,o,u,v,x,Ak,z,f,oA,lG]
  grind
end
section
variable {Pg:Program}{N:Nat->Prop}{z:Oper}{v:Act}{w:World}{m:cC}{p:St}{B:D->ah->Nat->Prop}
theorem Sg{d:Nat->Prop}{a b:Hp}{e:cC}(id:Nat)(c:Option Nat)(g:fg)(m:∀f,c=J f->a f=ae)(n:∀f j,a f=J j->b f=J j)(k:d id\/(ag id).isSome=aa)(o:Sm a b):
 eI d a e ag b (e.new id c) (am ag id (J g)):=
 {EV (N:=λ_=>True) id c g m n Y o with
  fr:=λi p l=>by
   have:i≠id:=by
    rintro rfl;rcases k with h|h
    exact aj;grind
   simp[cC.new,eP _ _ y]
  nw:=λi p l=>by
   have:i≠id:=by
    rintro rfl;rcases k with h|h
    exact aj;grind
   rw[eP _ _ y];exact l}
theorem Nk{N:Nat->Prop}{w:World}{a:cC}(g:iA (W w) a ag)(id:Nat)(h:N id\/(ag id).isSome=aa)(b:Array Value)(e:dL)(c:Nat)(d:List (List D))(j:D.jl (W w) a (λi=>b[i]?) 0 c d):
 iA (W (w.alloc (.cells b e))) (a.new id (J w.heap.size)) (am ag id (J (.row c (a.gen id+1) d)))/\
 eI N (W w) a ag (W (w.alloc (.cells b e))) (a.new id (J w.heap.size)) (am ag id (J (.row c (a.gen id+1) d))):=
 ⟨(AN (N:=λ_=>True) g id Y b e c d j).1,Sg id (J w.heap.size) _ ak (λf l k=>me _ k) h aj⟩
def Ix{b:fg}(h:id<n\/(ag id).isSome=aa)(a:Fr ag n):Fr (am ag id (J b)) n:=by rcases h with h|h;exact Cu h a;obtain⟨d,c⟩:=dM.1 h;exact yR c a
theorem KQ{b:Hp}{c:cC}{a:Nat}(f:D.jl b c S a n es)(e:D.jl b c S (a+es.length*n) n ys):D.jl b c S a n (es++ys):=by rw[D.gd]at f e⊢;intro k x d;rw[jZ]at d;split at d;exact aj;rename_i g;have:=e _ x d;rw[show a+es.length*n+(k-es.length)*n=a+k*n by rw[xT,<-eX];grind]at this;exact ar
theorem yD{b:Hp}{c:cC}{f:Nat->Option Value}{g h:Nat}(i:D.jl b c S g n ys)(q:∀e,e<ys.length*n->f (h+e)=S (g+e)):D.jl b c f h n ys:=by
 rw[D.gd]at i⊢;intro k x j;obtain⟨m,o⟩:=i k x j;refine⟨m,(D.dE _ _ _).2 λa d l=>?_⟩;obtain⟨r,s,t⟩:=(D.dE _ _ _).1 o a d l;have u:=by have:=(bq.1 l).1;omega
 have p:=(bq.1 j).1;have v:k*n+a<ys.length*n:=by have:(k+1)*n<=ys.length*n:=gH _ p;rw[eX]at this;omega
 grind
def zt(a:k.callee=.builtin .append)(b:k.args.toList=[f,u])(c:k.argTypes.toList=[j,s])(d:z.op=.call k)(e:(nq #[j,s] z.type #[v.eval f,v.eval u]).run Pg w=.ok r w'):(aG v.eval z).run Pg w=.ok (.value r) w':=by
 have g:k.args= #[f,u]:=by rw[<-gq];simpa using b
 have h:k.argTypes= #[j,s]:=by rw[<-gq];simpa using c
 simp[aG,d,lC,a,g,h,invoke,builtin,e]
theorem agI{a:Hp}{c:cC}{d off:Nat}{e:Nat}(f:D.rd a c (.sl id d off len n aR) r)(h:r=.slice b t e)(i:b=J T):T.spot=ae:=by obtain⟨⟨v,j,g,_,k,_⟩,_⟩:=f;grind
theorem ag9{c:Hp}{d:cC}{e:List (List P)}{f:Nat}(h:D.rd c d (.p (.im e n aR)) r)(i:r=.slice b t f)(j:b=J T):T.spot=ae:=by obtain⟨v,a,k,g,_,_,_,_,l,_⟩:=h;grind
theorem VM{N:Nat->Prop}{g:World}{h:cC}{l c b:Nat}(w:iA (W g) h ag)(z:ag id=J (.row n l es))(B:h.loc id=J c)(p:W g c=J (.cells o G (0,0)))(h0:0<n)(an:D.jl (W g) h (λe=>q[e]?) 0 n ys)(ao:q.length=ys.length*n)(ax:∀s∈q,s.oneCell'=aa)(ay:b+ys.length<=es.length):
 es.length*n<=o.size/\∃f:Array Value,f.size=o.size/\W (g.setRow c f) c=J (.cells f G (0,0))/\iA (W (g.setRow c f)) h (am ag id (J (.row n l (es.take b++ys++es.drop (b+ys.length)))))/\
  eI N (W g) h ag (W (g.setRow c f)) h (am ag id (J (.row n l (es.take b++ys++es.drop (b+ys.length)))))/\(Ba ⟨c,b*n,ae⟩ q).run Pg g=.ok () (g.setRow c f):=by
 have t:=w.gu _ _ z;have M:=t.2;simp only[B]at M;obtain⟨aO,aP,T2,O,P⟩:=M;rw[show g.heap[c]? =_ from p]at O;cases O;have Q:es.length*n<=o.size:=by
  by_cases he:es=[];simp[he];have hl:0<es.length:=ak;have aR:es[es.length-1]? =J es[es.length-1]:=Y;obtain⟨R,C⟩:=(D.gd _ _ _ _).1 P _ _ ar;have hc:(es[es.length-1])[n-1]? =J (es[es.length-1])[n-1]:=Y;obtain⟨A,hq,_⟩:=(D.dE _ _ _).1 C _ _ hc;have S:=(lN.1 hq).1;have T:es.length*n=(es.length-1)*n+n:=by
   conv=>lhs;rw[show es.length=(es.length-1)+1 by omega]
   rw[eX,Nat.one_mul]
  omega
 have aB:b*n+q.length<=o.size:=by rw[ao,<-eX];exact gJ (gH _ ay) Q
 refine⟨Q,(o.toList.take (b*n)++q++o.toList.drop (b*n+q.length)).toArray,?_⟩;generalize V:(o.toList.take (b*n)++q++o.toList.drop (b*n+q.length)).toArray=f;have X:f.size=o.size:=by rw[<-V];simp;omega
 have v:W (g.setRow c f) c=J (.cells f G (0,0)):=Fc g c o f G (0,0) p;have ab:∀u,u≠c->W (g.setRow c f) u=W g u:=by intro u hy;simp only[Bl,sX];simp[dB hy]
 have E:=Ki (N:=N) id c (.row n l es) (.row n l (es.take b++ys++es.drop (b+ys.length))) o f G z ar p v y ab aj;have ac:∀c,Md h ag c->h.own c:=λc t=>w.gC t;have F:∀a,f[a]? =if a<b*n then o[a]? else if a<b*n+q.length then q[a-b*n]? else o[a]? :=by intro a;rw[<-V];simp only[qI];rw[jd,jZ];have aE:(ou (b*n) o.toList).length=b*n:=dK;rw[aE];split;exact U;rw[jZ];by_cases m:a<b*n+q.length;grind;rw[ap y,ap m,mo];simp only[ye];congr 1;omega
 have H:D.jl (W (g.setRow c f)) h (λi=>o[i]?) 0 n es:=D.uH ac E _ _ _ _ P;have ad:D.jl (W (g.setRow c f)) h (λe=>q[e]?) 0 n ys:=D.uH ac E _ _ _ _ an;have hk:fg.rd (W (g.setRow c f)) h id (.row n l (es.take b++ys++es.drop (b+ys.length))):=by
  refine⟨t.1,?_⟩;simp only[B];refine⟨ar,f,G,v,(D.gd _ _ _ _).2 λk x j=>?_⟩;rw[D.gd]at H ad;have aI:(es.take b).length=b:=dK;have part:∀(I:Nat) (K:Nat->Option Value),(∀a,a<n->f[k*n+a]? =K (I*n+a))->(x.length=n/\D.iR (W (g.setRow c f)) h K (0+I*n) x)->x.length=n/\D.iR (W (g.setRow c f)) h (λi=>f[i]?) (0+k*n) x:=by
   intro I K hg ⟨R,C⟩;refine⟨R,(D.dE _ _ _).2 λa d hd=>?_⟩;obtain⟨r,hv,S,T⟩:=(D.dE _ _ _).1 C a d hd;have m:a<n:=by have:=(bq.1 hd).1;omega
   refine⟨r,?_,S,T⟩;simp only[bf]at hv⊢;rw[hg a m];exact hv
  rw[jd,jZ,aI]at j;split at j;rename_i L;rw[nv,aU L]at j;refine part k (λi=>o[i]?) (λa m=>?_) (H k x j);rw[F,aU];have:(k+1)*n<=b*n:=gH _ L;rw[eX]at this;omega;rename_i L;have aS:b*n<=k*n:=gH _ y;rw[jZ]at j;split at j;rename_i al;refine part (k-b) (λi=>q[i]?) (λa m=>?_) (ad (k-b) x j);have e1:k*n=b*n+(k-b)*n:=by rw[<-eX];congr 1;omega
  have e2:(k-b)*n+n<=ys.length*n:=by have:(k-b+1)*n<=ys.length*n:=gH _ al;rw[eX]at this;omega
  rw[F,ap y,aU y];congr 1;omega;rename_i al;rw[mo,show b+ys.length+(k-b-ys.length)=k by omega]at j;refine part k (λi=>o[i]?) (λa m=>?_) (H k x j);have e2:b*n+ys.length*n<=k*n:=by rw[<-eX];exact gH _ y
  rw[F,ap y,ap y]
 refine⟨X,v,Om w id c _ _ o f G z B p v X ab ⟨rfl,rfl⟩ hk,E,?_⟩;have:=H0 Pg c (b*n) G q 0 o g p (by simpa using aB) ax;grind
variable (h:iA (W w) m p.O)(I:∀j,D.rd (W w) m (p.T j) (v.tmps.getD j undef))
include h
theorem EW{a:Value}(c:Pg.underlying j=J (.slice g))(d:Pg.underlying s=J (.slice g)\/Pg.underlying s=J .string)(l:Pg.info? g=J i)(I:i.zero=J a)(K:a.cells.size=i.size)(_h0:0<i.size)(n:k.callee=.builtin .append)(r:k.args.toList=[f,u])(t:k.argTypes.toList=[j,s])(x:z.op=.call k)(A:v.eval f=.slice b len cap)(ao:∀T,b=J T->T.spot=ae)(L:es.length=len)(C:∀w':World,(xR (v.eval u)).run Pg w'=.ok ys.length w')(M:olds.length=len*i.size)(O:q.length=ys.length*i.size)(P:∀w':World,w'.heap=w.heap->(iZ i.size len (v.eval f)).run Pg w'=.ok olds.toArray w')(Q:∀w':World,w'.heap=w.heap->(iZ i.size ys.length (v.eval u)).run Pg w'=.ok q.toArray w')(R:D.jl (W w) m (λe=>olds[e]?) 0 i.size es)(V:D.jl (W w) m (λe=>q[e]?) 0 i.size ys)(X:len+ys.length<=cap->len=0/\ys=[]/\cap=0)(ax:(len+ys.length)*i.bytes<=2^47)(ay:len+ys.length<=2^47)(id:Nat)(E:(N id/\id<p.nx)\/(p.O id).isSome=aa)(F:∀S,B (.sl id S 0 (len+ys.length) i.size Z) (am p.O id (J (.row i.size S (es++ys)))) p.nx):OW Pg N p.nx z v w m p.O B:=by
 by_cases hr:len+ys.length<=cap;obtain⟨rfl,rfl,rfl⟩:=X hr;have ab:es=[]:=ak;subst ab;have ac:q=[]:=qh U;subst ac;have G:=vY (ty:=z.type) c d l (b:=b) (len:=0) (cap:=0) C aj Y aj U;rw[<-A]at G;have hn:iA (W w) (m.new id ae) (am p.O id (J (.row i.size (m.gen id+1) []))):=Kx h id ae _ ak aj aj ⟨by simp[cC.new,dt],by simp[cC.new,dt]⟩
 have ad:eI N (W w) m p.O (W w) (m.new id ae) (am p.O id (J (.row i.size (m.gen id+1) []))):=Sg id ae _ ak aj (E.imp (·.1) U) aj
 refine OW.value (zt n r t x ar) (F (m.gen id+1)) ⟨ak,by simp[cC.new,dt],λ_=>?_⟩ hn ad y (Ix ak);simp only[cC.new,dt];simp;have hg:cap<len+ys.length:=y;have H:len+ys.length<=lL:=by simp only[lL];omega
 have G:=Qm (ty:=z.type) c d l I A C P Q hg H y;have ag:=FT w (len+ys.length) cap g;have al:=HF w (len+ys.length) cap g H;let o:Array Value:=olds.toArray++q.toArray++lM a.cells (lG w (len+ys.length) cap g-(len+ys.length))
 have aB:o.size=lG w (len+ys.length) cap g*i.size:=by simp only[o,GX,vu,xo,K,M,O,<-eX];congr 1;omega
 have aE:D.jl (W w.drew) m (λe=>o[e]?) 0 i.size (es++ys):=by refine KQ (yD R λe hj=>?_) (yD V λe hj=>?_);grind;rw[L];simp only[o,bf,Array.append_assoc];rw[Hy U,xj U];exact U
 have an:iA (W w.drew) m p.O:=h;obtain⟨h4,h5⟩:=Nk (N:=N) (w:=w.drew) an id (E.imp (·.1) U) o g _ _ ar;refine OW.value (zt n r t x ar) (F (m.gen id+1)) ⟨ak,by simp[cC.new,dt],λ_=>?_⟩ h4 h5 y (Ix ak);simp only[cC.new,dt];exact⟨_,0,o,g,(0,0),rfl,ag,qM,al,oC (w:=w.drew) _,U⟩
include I
omit h I in
theorem NW{m:Hp}{o:cC}{b:List Value}:∀{es:List (List D)} {i:Nat} {c v:ByteArray},b.length=i+es.length->D.jl m o (λe=>b[e]?) i 1 es->Kv es c=J v->
 ∃d:List Int,b.drop i=d.map (Value.int .u8)/\v=d.foldl (λx n=>x.push (UInt8.ofNat n.toNat)) c
 |[],i,c,v,f,_,a=>by cases a;exact⟨[],by rw[List.drop_eq_nil_of_le (by simp at f;omega)];rfl,rfl⟩
 |x::es,i,c,v,f,h,a=>by
  unfold Kv at a;split at a;rename_i g;cases g;rename_i n t g;cases g;obtain⟨_,p,h⟩:=h;obtain⟨⟨r,j,_,k⟩,_⟩:=p;have k:r=.int .u8 n:=k;subst k;obtain⟨d,q,s⟩:=NW (i:=i+1) (by simp at f;omega) h a;refine⟨n::d,?_,s⟩;have l:i<b.length:=by simp at f;omega
  rw[HD l,q];have:b[i]=.int .u8 n:=by simp only at j;rw[bh l]at j;exact kN j
  rw[this];rfl;cases a
theorem ali{i j:dL}{l:dh}(s:cO f=J l)(t:z.op=.convert i j f)(u:Pg.underlying i=J (.slice g))(x:Pg.underlying j=J .string)(A:Pg.underlying g=J (.int .u8))(d:aN (X Pg) (.EN l) p B):OW Pg N p.nx z v w m p.O B:=by
 simp only[aN]at d;split at d;rename_i es C;split at d;rename_i b D;obtain⟨a,k,n,q,L,_,E,F⟩:=vO h C (eR I s);obtain⟨o,e,r⟩:=NW y E D;rw[gK]at e;have c:=F w rfl;rw[n]at c;have G:(Conv.bytesToString (.slice a es.length k)).run Pg w=.ok (.string b) w:=by
  cases a with
  |none=>
   have H:=by simp only[iZ]at c;simpa using c.symm
   have K:o=[]:=by rw[H]at e;simpa using e.symm
   rw[r,K];exact aj
  |some a=>simp only[iZ,Nat.mul_one]at c;rw[r];exact run_bytesToString w a es.length k o (by rw[c,e])
 have M:(aG v.eval z).run Pg w=.ok (.value (.string b)) w:=by have:=run_convert_bytes_string w i j g a es.length k u A x;rw[G,<-n]at this;simp only[aG,t,iN,this];rfl
 exact OW.ce h ar d rfl;exact aj;exact aj
theorem amk{nm:Nat}(hN:N (p.bs+nm))(aP:p.bs+nm<p.nx)(Q:Pg.underlying j=J (.slice g))(R:Pg.underlying s=J (.slice g)\/Pg.underlying s=J .string)(bO:sB Pg g=J be)(M:Pg.info? g=J i)(h0:0<be.length)(hk:k.callee=.builtin .append)(ab:k.args.toList=[f,u])(ac:k.argTypes.toList=[j,s])(H:cO f=J V)(hy:cO u=J aB)(ho:z.op=.call k)(t:aN (X Pg) (.j4 nm be.length i.bytes V aB) p B):OW Pg N p.nx z v w m p.O B:=by
 obtain⟨i',l,bm,hz,aS,bR,_⟩:=z8 bO;rw[M]at bm;cases bm;have r:=eR I H;have h2:=eR I hy;simp only[aN]at t;rw[<-bR]at t h0;split at t;exact aj;rename_i ys bS;obtain⟨ey,q,ag,bn,ax,ay⟩:=Ie (Pg:=Pg) h bS h2;split at t;rename_i K;rw[K]at r;have C:v.eval f=.slice ae 0 0:=r;obtain⟨hb,hl,t⟩:=t;refine EW h Q R M hz aS h0 hk ab ac ho C ak (es:=[]) rfl ey (olds:=[]) Y ag (λw' _=>by rw[C];exact aj) ay aj ax (λhr=>⟨rfl,?_,rfl⟩) U y (p.bs+nm) (.inl ⟨hN,aP⟩) (by simpa using t);grind;rename_i es n' aR K;obtain⟨rfl,rfl,hb,hl,a8,t⟩:=t;have a1:=vO (Pg:=Pg) h (n:=i.size) (d:=.p (.im es i.size aa)) (ys:=es.map (·.map .p)) (by simp[fF]) (by rw[K]at r;exact r);obtain⟨xb,E,A,olds,aE,_,a2,aI⟩:=a1;have a6:E=es.length:=by rw[K]at r;obtain⟨b,a,L,e3,hm,_,hf,_⟩:=r;rw[A]at e3;cases e3;rw[hf rfl,hm]
 by_cases P:ys=[];have aO:q=[]:=qh U;have al:=vY (Pg:=Pg) (w:=w) (ty:=z.type) Q R M (b:=xb) (len:=es.length) (cap:=E) ey aj U (w':=w) (λad _=>by rw[aO];rfl) U;have bT:v.eval f=.slice xb es.length E:=by simpa using A
 have a9:es.length+ys.length=es.length:=by rw[P];rfl
 rw[a9,<-bT]at al;exact OW.ce h (zt hk ab ac ho ar) (a8 P) r;refine EW h Q R M hz aS h0 hk ab ac ho A (λT ha=>ag9 (K▸r) A ha) (es:=es.map (·.map .p)) rfl ey aE ag aI ay a2 ax (λhr=>?_) U U (p.bs+nm) (.inl ⟨hN,aP⟩) (by simpa using t P);simp only[d7]at hr⊢;exact absurd (qh y) P;rename_i id S off len n' aR K;split at t;rename_i n2 g' es F;obtain⟨rfl,rfl,rfl,hb,hl,t⟩:=t;split at t
 .obtain⟨rfl,t⟩:=t
  split at t
  case isFalse qK=>
   obtain⟨bX,t⟩:=t;rw[K]at r;have bo:=r;obtain⟨_,hg,r⟩:=r;have a3:=h.gu _ _ F;have r:=r a3.1;have a4:=a3.2;cases an:m.loc id with
   |none=>grind
   |some b=>
    simp only[an]at r a4;obtain⟨L,o',o,G,fz,C,bZ,bb,b0,hH,ao⟩:=r;obtain⟨b1,b2,T2,a5,hr⟩:=a4;rw[hH]at a5;cases a5;simp only[fN,dC,bf]at ao;obtain⟨bs,x,cc,bd,cg,ch,bu⟩:=VM (Pg:=Pg) (N:=N) h F ar hH h0 ax ag bn y;have ck:es.length<=L:=by rw[<-ao]at bs;exact Qn bs h0
    have b3:len+ys.length<=L:=y;have bk:L≠0:=y;have al:=vY (Pg:=Pg) (w:=w) (ty:=z.type) Q R M (b:=J ⟨b,o',ae⟩) (len:=len) (cap:=L) ey aj y (w':=w.setRow b x) (λad bl=>by cases bl;rw[bb bk,tN];grind) ak
    rw[<-C]at al;refine OW.value (zt hk ab ac ho ar) t ⟨ak,hg,λ_=>?_⟩ ar ar y (yR F);grind
  rename_i a7;subst a7;rw[K]at r;have bo:=r;obtain⟨_,hg,r⟩:=r;have a3:=h.gu _ _ F;have r:=r a3.1;have a4:=a3.2;cases an:m.loc id with
  |none=>rw[an]at r;obtain⟨_,cl,b,C⟩:=r;have b4:es=[]:=ak;subst b4;refine EW h Q R M hz aS h0 hk ab ac ho C ak (es:=[]) rfl ey (olds:=[]) Y ag (λw' _=>by rw[C];exact B3 _ _ _ _) ay aj ax (λhr=>⟨rfl,?_,rfl⟩) hb hl id (.inr (by simp[F])) (by simpa using t);grind
  |some b=>
   simp only[an]at r a4;obtain⟨L,o',o,G,fz,C,bZ,bb,b0,hH,ao⟩:=r;obtain⟨b1,b2,T2,a5,hr⟩:=a4;rw[hH]at a5;cases a5;simp only[fN,dC,bf]at ao;by_cases b3:es.length+ys.length<=L
   let x:Array Value:=(o.toList.take (es.length*i.size)++q++o.toList.drop (es.length*i.size+q.length)).toArray
   have bX:es.length*i.size+q.length<=o.size:=by rw[<-ao,ag,<-eX];exact gH _ y
   have bu:∀ad,(J ⟨b,o',ae⟩:Option fB)=J ad->(Ba (ad.add (es.length*i.size)) q).run Pg w=.ok () (w.setRow b x):=by
    intro ad bl;cases bl;by_cases bk:L=0;have aO:q=[]:=qh ak;have b5:x=o:=by simp[x,aO]
    have:w.setRow b x=w:=by rw[b5];exact setRow_self w b o G (0,0) hH
    rw[this,aO];rfl;rw[bb bk,tN];have:=H0 Pg b (0*i.size+es.length*i.size) G q 0 o w hH y bn;grind
   have al:=vY (Pg:=Pg) (w:=w) (ty:=z.type) Q R M (b:=J ⟨b,o',ae⟩) (len:=es.length) (cap:=L) ey aj y bu ak;rw[<-C]at al;have cm:x.size=o.size:=by simp[x];omega
   have bd:W (w.setRow b x) b=J (.cells x G (0,0)):=Fc w b o x G (0,0) hH;have cn:∀u,u≠b->W (w.setRow b x) u=W w u:=by intro u hy;simp only[W,Bl,sX];simp[dB hy]
   have b6:∀f,J b=J f->W w f=ae\/(m.loc id=J f/\m.own f):=ak;have bA:∀f ob,W w f=J ob->m.loc id≠J f->W (w.setRow b x) f=J ob:=ak;have bB:∀f,m.loc id=J f->∀bC T0 b7,W w f=J (.cells bC T0 b7)->∃bH b8,W (w.setRow b x) f=J (.cells bH T0 b8)/\bH.size=bC.size:=by intro f H a0 T0 f0 hh;rw[an]at H;cases H;rw[show W w b=_ from hH]at hh;cases hh;exact ak
   have bL:∀f,m.loc id=J f->W w f≠ae->W (w.setRow b x) f≠ae:=by intro f H _;rw[an]at H;cases H;rw[bd];simp
   have cq:Sm (W w) (W (w.setRow b x)):=aj;have H:=Rf (N:=N) (c:=m) (O:=p.O) id (J b) _ (.row i.size (m.gen id+1) (es++ys)) F b6 bA bB bL ar;have bM:∀b,Md m p.O b->m.own b:=λb hb=>h.gC hb;have b9:fg.rd (W (w.setRow b x)) (m.new id (J b)) id (.row i.size (m.gen id+1) (es++ys)):=by refine⟨by simp[cC.new,dt],?_⟩;simp only[cC.new,dt];refine⟨Y,x,G,bd,KQ (yD (D.uH bM H _ _ _ _ hr) λe hj=>?_) (yD (D.uH bM H _ _ _ _ ax) λe hj=>?_)⟩;simp only[bf,x,qI,jd];rw[xc dK,nv,aU hj];simp;simp only[bf,x,qI,jd];have aP:(ou (es.length*i.size) o.toList).length=es.length*i.size:=dK;rw[kV y,aP,xc y];simp
   refine OW.value (zt hk ab ac ho ar) (t (m.gen id+1)) ⟨ak,by simp[cC.new,dt],λ_=>?_⟩
    (acN h id (J b) _ _ F ak bA bB bL ar b9) H y (yR F)
   simp only[cC.new,dt];grind
   have a1:=vO (Pg:=Pg) h (n:=i.size) (d:=.sl id g' 0 es.length i.size Z) (ys:=es) (by simp[fF,F]) bo;obtain⟨xb,E,A,olds,aE,_,a2,aI⟩:=a1;have a6:E=L:=by rw[C]at A;cases A;rfl
   subst a6;exact EW h Q R M hz aS h0 hk ab ac ho A ak (es:=es) rfl ey aE ag aI ay a2 ax aj hb hl id (.inr (by simp[F])) t
 obtain⟨ca,a8,t⟩:=t;have cb:p.ev V=.sl id g' off len i.size aa:=K;have a7:((es.drop off).take len).length=len:=dK;have a1:=vO (Pg:=Pg) h (n:=i.size) (d:=.sl id g' off len i.size aa) (ys:=(es.drop off).take len) (by simp[fF,F,ca]) (by rw[<-cb];exact r);obtain⟨xb,E,A,olds,aE,_,a2,aI⟩:=a1;rw[a7]at A aE aI;have a6:E=len:=by rw[K]at r;obtain⟨_,hg,r⟩:=r;have r:=r (h.gu _ _ F).1;cases an:m.loc id with|none=>grind|some b=>rw[an]at r;obtain⟨L,o',o,G,fz,C,_,_,_,_,ao⟩:=r;simp only[aT]at ao;rw[C]at A;cases A;exact ao
 subst a6;by_cases P:ys=[];have aO:q=[]:=qh (by rw[ag,P];simp);have al:=vY (Pg:=Pg) (w:=w) (ty:=z.type) Q R M (b:=xb) (len:=E) (cap:=E) ey (ay w rfl) (by rw[P];simp) (w':=w) (λad _=>by rw[aO];rfl) (λ_=>rfl);have a9:E+ys.length=E:=by rw[P];rfl
 rw[a9,<-A]at al;exact OW.ce h (zt hk ab ac ho al) (a8 P) r;refine EW h Q R M hz aS h0 hk ab ac ho A (λT ha=>agI (K▸r) A ha) (es:=(es.drop off).take E) a7 ey aE ag aI ay a2 ax (λhr=>?_) hb hl (p.bs+nm) (.inl ⟨hN,aP⟩) (t P);grind;exact aj;grind
end
theorem aig{k:Program}{l:Hp}{own:Nat->Prop}{m:World}{q:Nat}{g:SK}{o p:P}(b:KT k j=J g)(c:tj g o p=J x)(h:P.rd l own o F)(i:P.rd l own p R):(uE (q+1) j F R).run k m=.ok x m:=by unfold KT at b;unfold tj at c;split at c;rename_i a n;have d:=h;have e:=i;cases c;split at b<;>cases b;rename_i f;rw[d,e];exact run_equalIn_bool' _ _ _ _ _ f;rename_i g a s n;have d:=h;have e:=i;split at c;rename_i r;cases c;subst r;split at b<;>cases b;rename_i f;rw[d,e];exact run_equalIn_int _ _ _ _ _ _ _ f;grind;rename_i a n;have d:=h;have e:=i;cases c;split at b<;>cases b;rename_i f;rw[d,e];exact run_equalIn_string _ _ _ _ _ f;grind
theorem A4{g:Program}{p:Hp}{own:Nat->Prop}{w:World}{d:Nat}{h j:Array Value}:∀(C:List jV) (off:Nat) (E:List SK) (a b:List P) (x:Bool),xn g C off=J E->mX E a b=J x->
 P.iR p own (λi=>h[i]?) off a->P.iR p own (λi=>j[i]?) off b->(Gx (d+1) h j C).run g w=.ok x w
 |[],off,E,a,b,x,e,c,_,_=>by simp only[xn,du]at e;subst e;cases a<;>cases b<;>simp[mX]at c;subst c;exact aj
 |H::C,off,E,a,b,x,e,c,l,m=>by
  simp only[xn]at e;split at e;rename_i r;obtain⟨rfl,s,W⟩:=r;split at e;rename_i k t v y;cases e;cases a with|nil=>simp[mX]at c|cons f a=>cases b with|nil=>simp[mX]at c|cons u b=>simp only[mX]at c;split at c;rename_i q A z B;cases c;obtain⟨⟨F,n,_,D⟩,l⟩:=l;obtain⟨⟨R,o,_,G⟩,m⟩:=m;have ih:=A4 (d:=d) (w:=w) C (H.offset+1) t a b A y B l m;have I:(uE (d+1) H.type F R).run g w=.ok q w:=aig v z D G;have n:h[H.offset]? =J F:=n;have o:j[H.offset]? =J R:=o;simp only[Gx,s,ne_eq,Ji,aT,iN,Bx w W n,Bx w W o,lZ,I];cases q;simp;exact ar;grind
  grind;grind
section
variable {h:Program}{L:Nat->Prop}{v:Oper}{p:Act}{m:World}{z:cC}{c:St}{y:D->ah->Nat->Prop}
variable (M:iA (W m) z c.O)(I:∀j,D.rd (W m) z (c.T j) (p.tmps.getD j undef))
include M I
theorem abl(t:cO f=J V)(x:cO u=J aB)(A:h.underlying j=J (.struct C))(B:xn h C.toList 0=J E)(D:h.stoodInHeld j=Z)(k:h.eqGuardType h.depth j=Z)(a:(neg=Z/\v.op=.binOp .eql j f u s)\/(neg=aa/\v.op=.binOp .neq j f u s))(g:aN (X h) (.pf (.eq neg E) [V,aB]) c y):OW h L c.nx v p m z c.O y:=by
 have l:=eR I t;have n:=eR I x;simp only[aN,bG,eC]at g;split at g;rename_i W e;simp only[vL]at e;split at e;grind;grind;rename_i Y ab ds G ys H o;cases H;simp only[kJ,pu]at o;obtain⟨K,N⟩:=o;rw[K]at l;rw[N]at n;obtain⟨F,q,_,O⟩:=l;obtain⟨R,r,_,P⟩:=n;split at e;rename_i b Q;cases e;have S:h.fieldsOf j=C:=by simp[Gq,A]
 have T:=A4 (w:=m) (d:=9998) C.toList 0 E G ys b B Q O P;have i:=G9 m 9999 j F R U D;rw[S,T]at i;refine OW.ce M ?_ g rfl;rcases a with⟨rfl,a⟩|⟨rfl,a⟩
 simp[aG,a,q,r,Hz m _ _ _ _ _ _ k,run_eql_struct,i];simp[aG,a,q,r,Hz m _ _ _ _ _ _ k,run_neq_struct,i];grind;grind;exact aj
theorem Wq{b:Nat}(C:cO f=J V)(D:cO (.const (.slice ae n b))=J aB)(E:h.underlying j=J (.slice g))(d:(neg=Z/\v.op=.binOp .eql j f (.const (.slice ae n b)) s)\/(neg=aa/\v.op=.binOp .neq j f (.const (.slice ae n b)) s))(q:aN (X h) (.lP neg V aB) c y):OW h L c.nx v p m z c.O y:=by
 have i:=eR I C;cases D;simp only[aN]at q;have u:∀(l:Option fB) (a e:Nat),p.eval f=.slice l a e->y (.p (B (l.isNone !=neg))) c.O c.nx->OW h L c.nx v p m z c.O y:=by
  intro l a e w F;have x:(qk j (.slice l a e) (.slice ae n b)).run h m=.ok l.isNone m:=by unfold qk BH uE;cases l<;>simp[bv E]
  refine OW.ce M ?_ F rfl;have A:p.eval (.const (.slice ae n b))=.slice ae n b:=rfl;rcases d with⟨rfl,d⟩|⟨rfl,d⟩
  simp[aG,d,w,A,eqGuard,fM,x];simp[aG,d,w,A,eqGuard,fM,x]
 split at q;rename_i t k;change (match c.ev V with|.p (.v (.slice ae _ _))=>J [aa]|.p (.im es _ _)=>J (if es.isEmpty then [aa,Z] else [Z])|.sl _ _ _ len _ _=>J (if len=0 then [aa,Z] else [Z])|_=>ae)=J t at k;split at k;rename_i a e o;cases k;rw[o]at i;exact aj;rename_i es _ _ o;cases k;rw[o]at i;obtain⟨l,a,e,r,K,G,_,H,_⟩:=i;refine u l a e r (q _ ?_);grind;rename_i id S off len N aR o;cases k;rw[o]at i;obtain⟨⟨l,e,r,G,_,H⟩,_⟩:=i;refine u l len e r (q _ ?_);split;grind;cases l with|none=>grind|some _=>simp
 grind;exact aj
theorem VK(q:cO f=J V)(r:cO (.const (.pointer ae))=J aB)(u:h.underlying j=J (.pointer g))(a:(neg=Z/\v.op=.binOp .eql j f (.const (.pointer ae)) s)\/(neg=aa/\v.op=.binOp .neq j f (.const (.pointer ae)) s))(i:aN (X h) (.lP neg V aB) c y):OW h L c.nx v p m z c.O y:=by
 have b:=eR I q;cases r;simp only[aN]at i;have A:∀(l:Option fB),p.eval f=.pointer l->y (.p (B (l.isNone !=neg))) c.O c.nx->OW h L c.nx v p m z c.O y:=by
  intro l k w;have n:(qk j (.pointer l) (.pointer ae)).run h m=.ok l.isNone m:=by unfold qk BH uE;cases l<;>simp[bv u]
  refine OW.ce M ?_ w rfl;have o:p.eval (.const (.pointer ae))=.pointer ae:=rfl;rcases a with⟨rfl,a⟩|⟨rfl,a⟩
  simp[aG,a,k,o,eqGuard,fM,n];simp[aG,a,k,o,eqGuard,fM,n]
 split at i;rename_i t d;change (match c.ev V with|.p (.v (.pointer ae))=>J [aa]|.p (.ip _)=>J [Z]|.ptr .. =>J [Z]|_=>ae)=J t at d;split at d;rename_i e;cases d;rw[e]at b;exact aj;rename_i C e;cases d;rw[e]at b;obtain⟨l,_,_,_,x,_⟩:=b;exact aj;rename_i e;cases d;rw[e]at b;obtain⟨⟨l,x,_⟩,_⟩:=b;exact aj;grind;exact aj
theorem apQ(q:k.callee=.builtin .max)(b:k.args.toList=[f,u])(r:cO f=J V)(s:cO u=J aB)(t:v.op=.call k)(d:aN (X h) (.pf .mx [V,aB]) c y):OW h L c.nx v p m z c.O y:=by
 have j:=eR I r;have l:=eR I s;have b:k.args= #[f,u]:=by rw[<-gq];simpa using b
 simp only[aN,bG,eC]at d;split at d;rename_i w e;simp only[vL]at e;split at e;rename_i a n x o;cases e;simp only[kJ,pu]at o;obtain⟨g,i⟩:=o;rw[g]at j;rw[i]at l;have g:p.eval f=.int .i64 a:=j;have i:p.eval u=.int .i64 n:=l;refine OW.ce M ?_ d rfl;simp[aG,t,lC,q,b,invoke,builtin,g,i,run_max_int2];grind;grind;grind;exact aj
theorem aoR(q:k.callee=.builtin .min)(b:k.args.toList=[f,u])(r:cO f=J V)(s:cO u=J aB)(t:v.op=.call k)(d:aN (X h) (.pf .mn [V,aB]) c y):OW h L c.nx v p m z c.O y:=by
 have j:=eR I r;have l:=eR I s;have b:k.args= #[f,u]:=by rw[<-gq];simpa using b
 simp only[aN,bG,eC]at d;split at d;rename_i w e;simp only[vL]at e;split at e;grind;rename_i a n x o;cases e;simp only[kJ,pu]at o;obtain⟨g,i⟩:=o;rw[g]at j;rw[i]at l;have g:p.eval f=.int .i64 a:=j;have i:p.eval u=.int .i64 n:=l;refine OW.ce M ?_ d rfl;simp[aG,t,lC,q,b,invoke,builtin,g,i,run_min_int2];grind;grind;exact aj
end
section
variable {z:Program}{N:Nat->Prop}{L:Oper}{I:Act}{w:World}{B:cC}{c:St}{M:D->ah->Nat->Prop}
def Fi{a:Int}(b:0<=a)(c:a<=2^47):cI.wrap a=a:=by have:a%18446744073709551616=a:=y;simp[IntKind.wrap,IntKind.bits];omega
variable (h:iA (W w) B c.O)(m:∀j,D.rd (W w) B (c.T j) (I.tmps.getD j undef))
include h m
theorem akH{nm:Nat}(hN:N (c.bs+nm))(s:c.bs+nm<c.nx)(ad:c.gm (c.bs+nm)=B.gen (c.bs+nm)+1)(G:L.op=.makeSlice j f u)(H:z.underlying j=J (.slice g))(hz:sB z g=J l)(x:z.info? g=J i)(hx:cO f=J V)(hy:cO u=J aB)(b:aN (X z) (.Hx nm l.length i.bytes l V aB) c M):OW z N c.nx L I w B c.O M:=by
 obtain⟨i',n,K,ag,al,C,an⟩:=z8 hz;rw[x]at K;cases K;have O:=eR m hx;have P:=eR m hy;simp only[aN]at b;split at b;rename_i t k p q;rw[p]at O;rw[q]at P;have p:I.eval f=.int .i64 t:=O;have q:I.eval u=.int .i64 k:=P;obtain⟨ao,aS,hb,a0,_,a1,b⟩:=b;have ax:0<=k:=y;have a2:(k.toNat:Int)=k:=y;have a3:(t.toNat:Int)=t:=y;have ay:n.cells.size=l.length:=by rw[al,C]
 let o:Array Value:=(uA (k.toNat*i.size)).map λe=>n.cells[e%n.cells.size]!
 have a4:D.jl (W w) B (λe=>o[e]?) 0 l.length (fL t.toNat (l.map .p)):=by
  refine(D.gd _ _ _ _).2 λe A Q=>?_;have hj:e<t.toNat:=by have:=(bq.1 Q).1;simpa using this
  have:A=l.map .p:=by have:=(bq.1 Q).2;simpa using this.symm
  subst this;refine⟨Y,(D.dE _ _ _).2 λa d R=>?_⟩;have hm:a<l.length:=by have:=(bq.1 R).1;simpa using this
  obtain⟨r,S,E,F⟩:=(D.dE _ _ _).1 (an (W w) B) a d R;refine⟨r,?_,E,F⟩;have s:e*l.length+a<k.toNat*l.length:=by have:(e+1)*l.length<=k.toNat*l.length:=gH _ y;rw[eX]at this;omega
  simp only[bf]at S⊢;have aE:(e*l.length+a)%n.cells.size=a:=by rw[ay,qX,yA,xr hm]
  simp only[o,H6,F4,C];rw[aU s];simp only[fK,aE];rw[getElem!_def,S]
 obtain⟨E,F⟩:=AN h (c.bs+nm) hN o g _ _ ar;rw[ad]at b;refine OW.value (v:=.slice (J ⟨w.heap.size,0,ae⟩) t.toNat k.toNat) ?_ b ⟨ak,by simp[cC.new,dt],λ_=>?_⟩ E F y (Cu s);have T:cI.wrap t=t:=Fi ao y;have U:cI.wrap k=k:=Fi ax y;have n1:¬(t<0):=y;have n2:¬(k<0):=y;have n3:¬(k<t):=y;have n4:¬(281474976710656<(i.bytes:Int)*k):=by rw[Int.mul_comm];omega
 have aI:¬(l.length=0):=y;have a5:(k.toNat*i.size=0)->(k.toNat=0):=λg=>(Hf.1 g).resolve_right y;by_cases ab:k.toNat=0;have ac:uA 0= #[]:=by apply Array.ext';simp
 have aO:o= #[]:=by simp[o,ab,ac]
 have a6:t.toNat=0:=y;simp[aG,G,p,q,GR,bv H,asInt,qS,sizeOf,typeInfo,x,T,U,n1,n2,n3,n4,ab,aO,ac,oA];have a7:¬(k.toNat*i.size=0):=y;have aP:¬(i.size=0):=by rw[C];exact aI
 have a8:0<k:=y;have aR:¬(k<=0):=y;simp[aG,G,p,q,GR,bv H,asInt,qS,sizeOf,typeInfo,x,T,U,n1,n2,n3,n4,aR,aP,zeroValue,ag,oA,o];grind;simp only[cC.new,dt];refine⟨k.toNat,0,o,g,(0,0),rfl,y,qM,?_,oC _,ak⟩;simp only[lL];omega;exact aj
omit h m in
theorem PR{f:Hp}{g:cC}{c:Value}(k:c.cells.size=l.length)(m:D.iR f g (λe=>c.cells[e]?) 0 (l.map .p))(b:Nat):
 D.jl f g (λe=>(lM c.cells b).toList[e]?) 0 l.length (fL b (l.map .p)):=by
 refine(D.gd _ _ _ _).2 λe A h=>?_;have t:e<b:=by have:=(bq.1 h).1;simpa using this
 have:A=l.map .p:=by have:=(bq.1 h).2;simpa using this.symm
 subst this;refine⟨Y,(D.dE _ _ _).2 λa d i=>?_⟩;have n:a<l.length:=by have:=(bq.1 i).1;simpa using this
 obtain⟨r,j,o,p⟩:=(D.dE _ _ _).1 m a d i;refine⟨r,?_,o,p⟩;have q:e*l.length+a<b*l.length:=by have:(e+1)*l.length<=b*l.length:=gH _ y;rw[eX]at this;omega
 simp only[bf]at j⊢;have s:(e*l.length+a)%l.length=a:=by rw[qX,yA,xr n]
 simp only[lM,ye,H6,F4,k];rw[aU q];simp only[fK,s];rw[getElem!_def,j]
theorem ahJ{b:dh}(e:k.callee=.builtin .cap)(i:k.args.toList=[f])(l:k.argTypes.toList=[j])(n:z.underlying j=J (.slice g))(o:cO f=J b)(p:L.op=.call k)(a:aN (X z) (.Fx b) c M):OW z N c.nx L I w B c.O M:=by
 have d:=eR m o;have q:k.args= #[f]:=by rw[<-gq];simpa using i
 have r:k.argTypes= #[j]:=by rw[<-gq];simpa using l
 simp[aN]at a;split at a;rename_i s;rw[s]at d;have t:I.eval f=.slice ae 0 0:=d;refine OW.ce h ?_ a rfl;simp[aG,p,lC,e,q,r,invoke,builtin,t,Builtin.cap_,bv n,goInt];exact aj
theorem ahy{nm:Nat}(A:N (c.bs+nm))(ax:c.bs+nm<c.nx){kd:IntKind}(C:z.underlying j=J (.slice g))(E:z.underlying s=J (.int kd))(F:sB z g=J be)(p:z.info? g=J i)(h0:0<be.length)(G:k.callee=.builtin .append)(H:k.args.toList=[f,u])(K:k.argTypes.toList=[j,s])(O:cO f=J V)(P:cO u=J aB)(Q:L.op=.call k)(b:aN (X z) (.Ed nm be.length i.bytes be V aB) c M):OW z N c.nx L I w B c.O M:=by
 obtain⟨i',l,q,R,r,d,S⟩:=z8 F;rw[p]at q;cases q;have t:=eR m O;have v:=eR m P;simp only[aN]at b;split at b;rename_i n T Y;rw[T]at t;rw[Y]at v;have ex:I.eval f=.slice ae 0 0:=t;have ey:I.eval u=.int .i64 n:=v;obtain⟨ay,hb,aE,_,_,b⟩:=b;have x:l.cells.size=be.length:=by rw[r,d]
 have ab:(n.toNat:Int)=n:=y;generalize hm:n.toNat=a at*;have aI:0<a:=y;have ac:a*i.bytes<=140737488355328:=by
  have:((a*i.bytes:Nat):Int)<=140737488355328:=by rw[Int.natCast_mul,ab];exact hb
  omega
 have ad:a<=lL:=by simp only[lL];omega
 have aO:=Jx y ac;have ag:=FT w a 0 g;have al:=HF w a 0 g ad;let o:Array Value:=lM l.cells a++lM l.cells (lG w a 0 g-a)
 have aP:o.size=lG w a 0 g*i.size:=by simp only[o,GX,xo,r,<-eX];congr 1;omega
 have aR:(nq #[j,s] L.type #[I.eval f,I.eval u]).run z w=.ok (.slice (J ⟨w.heap.size,0,ae⟩) a (lG w a 0 g)) (w.drew.alloc (.cells o g)):=by
  have w1:cI.wrap n=n:=Fi y y;have n1:¬(n<0):=y;have n2:¬(281474976710656<n*(i.bytes:Int)):=y;have n3:¬(9223372036854775807<(a:Int)):=y;have n4:¬(281474976710656<GB a 0*i.bytes):=y;have n5:¬(a=0):=y;have n6:¬(i.size=0):=y;have n7:¬(a<=0):=y;have n8:¬(n<=0):=y;have n9:¬(9223372036854775807<max n 0):=y;have an:¬(a*i.size=0):=λg=>by rcases Hf.1 g with g|g<;>omega
  rw[ex,ey];simp[n8,n9,an,nq,bv C,bv E,sizeOf,typeInfo,zeroValue,p,R,asInt,qS,w1,n1,n2,hm,n3,n4,n5,n6,n7,Ak,iZ,oA,lG,o]
 have aS:D.jl (W w.drew) B (λe=>o[e]?) 0 i.size (fL a (be.map .p)):=by have:=PR x (S (W w) B) a;rw[d];refine yD ar λe hj=>?_;simp only[o,bf];rw[xj (by rw[xo,x];grind)];simp
 have ao:iA (W w.drew) B c.O:=h;obtain⟨h4,h5⟩:=Nk ao (c.bs+nm) (.inl A) o g _ _ ar;rw[<-d]at b;refine OW.value (zt G H K Q ar) (b (B.gen (c.bs+nm)+1)) ⟨ak,by simp[cC.new,dt],λ_=>?_⟩ h4 h5 y (Ix U);simp only[cC.new,dt];exact⟨_,0,o,g,(0,0),rfl,ag,qM,al,oC _,U⟩;exact aj
theorem alO{E:dh}(Y:k.callee=.builtin .clear)(ab:k.args.toList=[f])(ac:k.argTypes.toList=[j])(p:z.underlying j=J (.slice g))(hz:sB z g=J l)(F:0<l.length)(hx:cO f=J E)(ho:L.op=.call k)(a:aN (X z) (.GF l.length l E) c M):OW z N c.nx L I w B c.O M:=by
 have d:=eR m hx;have ha:k.args= #[f]:=by rw[<-gq];simpa using ab
 have ad:k.argTypes= #[j]:=by rw[<-gq];simpa using ac
 obtain⟨i,q,ag,al,an,ao,ax⟩:=z8 hz;have u:q.cells.size=l.length:=by rw[an,ao]
 have v:∀r w',(xv #[j] L.type #[I.eval f]).run z w=.ok r w'->(aG I.eval L).run z w=.ok (.value r) w':=by intro r w' hv;simp[aG,ho,lC,Y,ha,ad,invoke,builtin,hv]
 simp only[aN]at a;split at a;rename_i x;rw[x]at d;have n:I.eval f=.slice ae 0 0:=d;refine OW.ce h (v (.tuple #[]) w ?_) a ⟨#[],rfl,rfl,aj⟩;simp[n,xv,bv p];rename_i id S off len n' aR x;obtain⟨rfl,_,_,a⟩:=a;split at a;rename_i n2 g' es t;obtain⟨rfl,rfl,ay,a⟩:=a;rw[x]at d;obtain⟨_,hg,d⟩:=d;have H:=h.gu _ _ t;have d:=d H.1;have K:=H.2;by_cases O:len=0;subst O;have aB:am c.O id (J (.row l.length g' (es.take off++fL 0 (l.map .p)++es.drop (off+0))))=c.O:=by funext A;by_cases P:A=id;subst P;rw[dt,t];simp;rw[eP _ _ P]
 rw[aB]at a;obtain⟨C,aP,n⟩:∃C aP,I.eval f=.slice C 0 aP:=by grind
 refine OW.ce h (v (.tuple #[]) w ?_) a ⟨#[],rfl,rfl,ar⟩;cases C<;>simp[n,xv,bv p];cases aE:B.loc id with
 |none=>grind
 |some b=>
  simp only[aE]at d K;obtain⟨k',o',o,G,fz,n,a4,aI,a5,Q,a6⟩:=d;obtain⟨a7,a8,T2,R,hr⟩:=K;rw[Q]at R;cases R;have aO:((lM q.cells len).toList).length=(fL len (l.map (D.p))).length*l.length:=by simp[xo,u]
  have a9:∀s∈(lM q.cells len).toList,s.oneCell'=aa:=by
   intro s p;obtain⟨e,T,rfl⟩:=eD p;have bd:e<len*l.length:=by rw[aO]at T;simpa using T
   have hm:e%l.length<l.length:=AL _ F;obtain⟨r,V,h4,_⟩:=(D.dE _ _ _).1 (ax (W w) B) (e%l.length) (.p l[e%l.length]) (by simp[hm]);simp only[bf]at V;have:(lM q.cells len).toList[e]=r:=by simp only[lM,Array.getElem_toList,Array.getElem_map,Array.getElem_range,u];rw[getElem!_def,V]
   rw[this];exact h4
  obtain⟨_,aS,be,bk,a0,a1,a2⟩:=VM (Pg:=z) h t ar Q F (PR u U len) y U (by simpa using ay);rw[List.length_replicate]at a0 a1;have a3:k'≠0:=y;refine OW.value (v (.tuple #[]) (w.setRow b aS) ?_) a ⟨#[],rfl,rfl,ar⟩ ar ar y (yR t);rw[aI a3]at n;simp[n,xv,bv p,zeroValue,typeInfo,ag,al,a2,O]
 exact aj;exact aj
omit h m in
theorem OW.enter(h:∀id,c.nx<=id->N id)(j:Fr c.O c.nx){vs:Array Value}{b:List D}(k:(aG I.eval L).run z w=.ok (.enter H vs) w)(l:iA (W w) B c.O)(m:vs.size=b.length)(n:D.mN (W w) B (λi=>vs[i]?) 0 b){e:D->ah->Nat->Prop}(o:X z H b c.O c.nx e)(p:∀d a f,e d a f->M d a f):OW z N c.nx L I w B c.O M:=by
 intro next F q
 unfold Oper.wp;rw[k,Oper.upon_enter];refine(o.2 w B vs l j m n).mono λg w' s=>?_;obtain⟨r,t,d,a,u,rfl,v,x,y,A,C,E⟩:=s;exact q r w' t d a u (p _ _ _ v) x y (A.mono h) E (λ_=>C)
omit h m in
theorem I2(d:As z H)(a:Array Value):(callFunc H a).run z w=.ok (.enter H a) w:=by
 obtain⟨b,e,f,c⟩:=d;have h:¬(b.name= "runtime.NumGoroutine"):=by simpa using f
 have i:¬(b.body=ae):=by intro g;rw[g]at c;simp at c
 simp[callFunc,e,h,i]
theorem aiC(b:∀id,c.nx<=id->N id)(e:Fr c.O c.nx)(f:k.callee=.value (.func H))(has:wg k.args.toList=J bC)(g:L.op=.call k)(a:aN (X z) (.call H bC) c M):OW z N c.nx L I w B c.O M:=by obtain⟨i,j⟩:=DO h m has;refine OW.enter b e ?_ h i j a (λd n o l=>l);simp[aG,g,lC,f,Act.eval,GQ,invoke,I2 a.1]
theorem ach(y:∀id,c.nx<=id->N id)(A:Fr c.O c.nx){q:cS}{t:dh}(E:k.callee=.value q)(F:cO q=J t)(has:wg k.args.toList=J bC)(G:L.op=.call k)(a:aN (X z) (.iI t bC) c M):OW z N c.nx L I w B c.O M:=by
 obtain⟨O,u⟩:=DO h m has;have l:=eR m F;have Q:∀(S:FuncId) (b f:Array Value) (C j:List D),I.eval q=.func (.func S) b f->b.size=C.length->f.size=j.length->D.mN (W w) B (λi=>b[i]?) 0 C->D.mN (W w) B (λi=>f[i]?) 0 j->
  X z S (C++bC.map c.ev++j) c.O c.nx M->OW z N c.nx L I w B c.O M:=by intro S b f C j g v x n o a;refine OW.enter y A (vs:=b++k.args.map I.eval++f) ?_ h U ?_ a (λd R T H=>H);simp[aG,G,lC,E,g,GQ,invoke,I2 a.1];rw[D.ld]at n o u⊢;intro e d p;simp only[bf]at n o u⊢;rw[jd,jZ]at p;grind
 simp only[aN]at a;split at a;rename_i S C j g;rw[g]at l;obtain⟨b,f,K,v,x,n,o⟩:=l;grind;rename_i S C j g;rw[g]at l;obtain⟨b,f,K,v,x,n,o⟩:=l;have conv:∀(r:Array Value) (s:List P),P.mN (W w) B.own (λi=>r[i]?) 0 s->D.mN (W w) B (λi=>r[i]?) 0 (s.map .p):=by intro r s a;rw[P.ld]at a;refine(D.ld _ _ _).2 λe d p=>?_;simp only[dN,bj]at p;obtain⟨V,W,rfl⟩:=p;exact aj
 grind;exact aj
theorem Za{nm:Nat}(C:N (c.bs+nm))(D:c.bs+nm<c.nx)(G:c.gm (c.bs+nm)=B.gen (c.bs+nm)+1)(Q:∀id,c.nx<=id->N id)(R:Fr c.O c.nx){S:fG}(a:Xu z nm L=J S)(o:aN (X z) S c M):OW z N c.nx L I w B c.O M:=by
 unfold Xu at a;split at a
 case h_1 f ho=>simp only[bj]at a;obtain⟨u,x,rfl⟩:=a;exact afu h m x U o
 case h_2 f ho=>simp only[bj]at a;obtain⟨u,x,rfl⟩:=a;exact afu h m x U o
 case h_3 f u l ho=>split at a;cases a;rename_i b d e;exact ahb h m b d e ho o;grind
 case h_4 g ho=>split at a;cases a;rename_i b;exact adJ h m C D G ho b o;grind
 case h_5 g f ho=>split at a;rename_i b d;split at a;cases a;cases a;rename_i e;exact alu h m C D G d ho e o;grind
 case h_6 j parts ho=>split at a;rename_i b d;split at a;rename_i e;split at a;cases a;rename_i q;exact ab7 h m ho b d e q o;grind;grind;grind
 case h_7 j len parts ho=>split at a;rename_i b;split at a;rename_i d e;split at a;cases a;rename_i q;exact abS h m C D G ho b d e y y y o;grind;grind;grind
 case h_8 j f ho=>split at a;cases a;rename_i b d e;exact ahN h m e ho b d o;grind
 case h_9 j f r ho=>split at a;rename_i b d e;split at a;cases a;cases a;rename_i q;exact aes h m d e ho b q o;grind
 case h_10 f ho=>simp only[bj]at a;obtain⟨u,x,rfl⟩:=a;exact acs h m x ho o
 case h_11 op j f u s ho=>split at a;cases a;rename_i b d e;exact UQ h m d e ho U o;cases a;rename_i b d e;exact UQ h m d e ho ak o;cases a;rename_i b d e;exact UQ h m d e ho ak o;rename_i b d e;split at a;rename_i E T;split at a;rename_i q;split at a;cases a;exact abl h m d e b T U U (.inl ⟨rfl,ho⟩) o;cases a;exact abl h m d e b T U U (.inr ⟨rfl,ho⟩) o;grind;grind;grind;rename_i b d e;split at a;cases a;exact Wq h m d e b (.inl ⟨rfl,ho⟩) o;cases a;exact Wq h m d e b (.inr ⟨rfl,ho⟩) o;grind;rename_i b d e;split at a;cases a;exact VK h m d e b (.inl ⟨rfl,ho⟩) o;cases a;exact VK h m d e b (.inr ⟨rfl,ho⟩) o;grind;grind
 case h_12 op j f ho=>simp only[bj]at a;obtain⟨u,x,rfl⟩:=a;exact apn h m x ho o
 case h_13 p A f ho=>split at a;cases a;rename_i b d e;exact ahY h m e ho b d o;cases a;rename_i b d e;exact WY h m e ho U d o;cases a;rename_i b d e;exact WY h m e ho U d o;rename_i b d e;split at a;cases a;rename_i q;exact al7 h m e ho b d q o;grind;rename_i b d e;split at a;cases a;rename_i q;exact ali h m e ho b d q o;grind;grind
 case h_14 H f u ho=>split at a;cases a;rename_i b d;exact ajF h m b d ho o;grind
 case h_15 j f u ho=>split at a;rename_i b;split at a;cases a;rename_i d e q v;exact akH h m C D G ho b d e q v o;grind;grind
 case h_16 j f aS hh bA ho=>
  split at a;cases a;rename_i b d e q v;cases bA with|none=>exact akQ h m d e q ho b o|some l=>simp only[nZ,bj]at v;grind
  rename_i b d e q v;split at a;cases a;rename_i F;simp only[bj]at a;obtain⟨n,K,rfl⟩:=a;exact ank h m d e q v ak ho b K o;grind
 case h_17 j f H ho=>split at a;rename_i b d;split at a;rename_i e;split at a;rename_i q;split at a;cases a;cases a;rename_i v;exact aos h m d ho b e q v o;grind;grind;grind
 case h_18 j f H ho=>split at a;rename_i b d;split at a;rename_i e;split at a;cases a;rename_i q v;exact aj5 h m d ho b e q v o;grind;grind;grind
 case h_19 j f u ho=>split at a;rename_i b d e;simp only[bj]at a;obtain⟨n,K,rfl⟩:=a;exact amL h m d e ho b K o;grind
 case h_20 j f u ho=>split at a;cases a;rename_i b d e;exact al8 h m d e ho b o;grind
 case h_21 f i ho=>simp only[bj]at a;obtain⟨u,x,rfl⟩:=a;exact akn h m x ho o
 case h_22 k ho=>split at a;rename_i t;split at a;rename_i b d;split at a;cases a;rename_i e q;exact Zr h m t b d e q ho o;cases a;rename_i e q;exact Zr h m t b d (str:=Z) U q ho o;grind;grind;rename_i t;split at a;rename_i b d;split at a;rename_i e q v;split at a;rename_i F V;split at a;cases a;rename_i O;obtain⟨O,P⟩:=O;exact amk h m C D e (ahq O) F V P t b d q v ho o;split at a;rename_i kd W;split at a;cases a;rename_i P;exact ahy h m C D e W F V P t b d q v ho o;grind;grind;grind;grind;grind;rename_i t;split at a;rename_i b d;split at a;cases a;rename_i e q;exact ahJ h m t b d e q ho o;grind;grind;rename_i t;split at a;rename_i b d;split at a;rename_i e q;split at a;rename_i v;split at a;cases a;rename_i F;exact alO h m t b d e v F q ho o;grind;grind;grind;grind;rename_i t;split at a;rename_i b;split at a;cases a;rename_i e q;exact apQ h m t b e q ho o;grind;grind;rename_i t;split at a;rename_i b;split at a;cases a;rename_i e q;exact aoR h m t b e q ho o;grind;grind;rename_i H t;simp only[bj]at a;obtain⟨bC,has,rfl⟩:=a;exact aiC h m Q R t has ho o;rename_i f t;split at a;cases a;rename_i b d;exact ach h m Q R ar b d ho o;grind;grind
 grind
end
section
variable {Pg:Program}{c:Hp}{own:Nat->Prop}{w:World}
theorem Ol{a:SK}(b:KT Pg j=J a):∃d,Pg.underlying j=J d/\(match a,d with|.b,.bool=>True|.i,.int _=>True|.s,.string=>True|_,_=>False):=by unfold KT at b;grind
theorem yF(a b:ByteArray):(a.toList==b.toList)=(a==b):=by
 have e:(a.toList==b.toList)=aa↔a=b:=by constructor;intro c;have c:=eq_of_beq c;rw[sA,sA]at c;cases a;cases b;simpa using c;exact U
 cases f:(a.toList==b.toList)<;>cases d:(a==b)<;>try rfl
 have:=(oZ a b).1 d;grind;have:=e.1 f;rw[(oZ a b).2 ar]at d;cases d
theorem Tv{d:TypeDesc}{g:SK}{k l:P}(o:KT Pg j=J g)(p:Pg.underlying j=J d)(b:tj g k l=J x)(h:P.rd c own k F)(i:P.rd c own l R):
 uF d F R=J x:=by obtain⟨q,m,r⟩:=Ol o;rw[p]at m;cases m;unfold tj at b;split at b;rename_i a n;have e:=h;have f:=i;cases b;subst e f;cases d<;>simp_all [uF];rename_i g a s n;have e:=h;have f:=i;subst e f;split at b;rename_i t;cases b;cases d<;>simp_all [uF];grind;rename_i a n;have e:=h;have f:=i;cases b;subst e f;cases d<;>simp_all [uF,yF];grind
theorem WG{h:SK}{i j:P}(b:tj h i j=J aa)(f:P.rd c own i F)(g:P.rd c own j R):F=R/\∀n,pB n F F=aa:=by unfold tj at b;split at b;rename_i a n;have d:=f;have e:=g;simp at b;subst d e b;exact⟨rfl,λn=>by simp[pB]⟩;rename_i h a l n;have d:=f;have e:=g;split at b;rename_i k;simp at b;subst d e b k;exact⟨rfl,λn=>by simp[pB]⟩;grind;rename_i a n;have d:=f;have e:=g;rw[yF]at b;have b:=(oZ a n).1 ak;subst d e b;exact⟨rfl,λn=>by simp[pB,(oZ a a).2 rfl]⟩;grind
theorem SZ{j l:Array Value}:∀(E:List SK) (b ys:List P) (i:Nat),mX E b ys=J aa->P.iR c own (λi=>j[i]?) i b->P.iR c own (λi=>l[i]?) i ys->
 b.length=ys.length/\∀e,e<b.length->∃r,j[i+e]? =J r/\l[i+e]? =J r/\∀n,pB n r r=aa
 |[],[],[],i,_,_,_=>Y|[],[],_::_,_,a,_,_=>by simp[mX]at a|[],_::_,_,_,a,_,_=>by simp[mX]at a|_::_,[],_,_,a,_,_=>by simp[mX]at a|_::_,_::_,[],_,a,_,_=>by simp[mX]at a
 |k::E,f::b,u::ys,i,a,d,h=>by
  simp[mX]at a;split at a;rename_i t A m o;simp at a;obtain⟨rfl,rfl⟩:=a;obtain⟨⟨v,w,_,p⟩,d⟩:=d;obtain⟨⟨x,y,_,q⟩,h⟩:=h;obtain⟨g,z⟩:=WG m p q;subst g;obtain⟨s,ih⟩:=SZ E b ys (i+1) o d h;refine⟨by simp[s],λe B=>?_⟩;cases e with|zero=>exact U|succ e=>have:=ih e ak;grind
  grind
theorem Zq{d f:P}(a:jN aP d f=J aa)(h:P.rd c own d F)(i:P.rd c own f R):F=R/\pB 10000 F F=aa:=by
 unfold jN at a;split at a;obtain⟨j,k⟩:=WG a h i;exact aj;rename_i E n ys;obtain⟨o,rfl,v,p⟩:=h;obtain⟨q,rfl,w,s⟩:=i;obtain⟨x,t⟩:=SZ E n ys 0 a p s;have g:o=q:=by apply tG y;intro e j k;obtain⟨r,l,m,_⟩:=t e y;simp[bf]at l m;rw[jb j]at l;rw[jb k]at m;exact ak
 subst g;refine⟨rfl,?_⟩;simp only[pB,BEq.rfl,Be,jC];rintro⟨z,b⟩ u;obtain⟨e,A,g⟩:=eD u;grind;grind
def acG{a b:P}(d:jN aP a b=J aa)(e:P.rd c own a F)(f:P.rd c own b R):(GH R F).run Pg w=.ok F w:=by obtain⟨g,h⟩:=Zq d e f;subst g;simp[GH,h]
theorem K5{e:SK}{f h:P}(i:KT Pg j=J e)(g:tj e f h=J x)(b:P.rd c own f r)(k:Bool)(l:Nat):(vm k (l+1) j r).run Pg w=.ok () w:=by obtain⟨d,m,n⟩:=Ol i;unfold vm;simp[iN,bv m,Result.andThen];unfold tj at g;split at g;have a:=b;subst a;cases d<;>simp_all;have a:=b;subst a;cases d<;>simp_all;have a:=b;subst a;cases d<;>simp_all;grind
theorem K8{em:Bool}{n:Nat}{g:Array Value}:∀(C:List jV) (off:Nat) (E:List SK) (a b:List P) (x:Bool),xn Pg C off=J E->mX E a b=J x->P.iR c own (λi=>g[i]?) off a->
 (forIn (m:=Sem) C xH λH _=>do
  if H.name≠ "_" then
   vm em (n+1) H.type (<-part H.type g H.offset)
   pure (.yield xH)
  else pure (.yield xH)).run Pg w=.ok xH w
 |[],_,_,_,_,_,_,_,_=>Y
 |H::C,off,E,a,b,x,e,d,h=>by
  simp only[xn]at e;split at e;rename_i l;obtain⟨rfl,o,W⟩:=l;split at e;rename_i k p q r;cases e;cases a with|nil=>simp[mX]at d|cons f a=>cases b with|nil=>simp[mX]at d|cons u b=>simp only[mX]at d;split at d;rename_i z A s t;cases d;obtain⟨⟨F,j,_,v⟩,h⟩:=h;have ih:=K8 (em:=em) (n:=n) C (H.offset+1) p a b A r t h;have j:g[H.offset]? =J F:=j;have y:=K5 (w:=w) q s v em n;rw[List.forIn_cons];simp only[o,ne_eq,Ji,aT,iN,Bx w W j,lZ,y,wP];exact ih;grind
  grind;grind
def BU(a:List fy)(b:Nat):Value:=((a[b]?).map (·.val)).getD undef
def xO(c:Hp)(own:Nat->Prop)(a:List fy)(b:List (P×D×Nat)):Prop:=a.length=b.length/\∀(n:Nat) (g:fy) (A:P×D×Nat),a[n]? =J g->b[n]? =J A->P.rd c own A.1 g.key
def xO.tail{a:fy}{d:List fy}(b:xO c own (a::d) (A::K)):P.rd c own A.1 a.key/\xO c own d K:=⟨b.2 0 a A rfl rfl,by simpa using b.1,λn e f g h=>b.2 (n+1) e f ar ar⟩
theorem Gi{a:P}{b:List (P×D×Nat)}(d:jF aP a (A::b)=J e):
 (jN aP a A.1=J aa/\e=J 0)\/(jN aP a A.1=J Z/\∃c,jF aP a b=J c/\e=c.map (· +1)):=by simp[jF]at d;grind
theorem wk{d:KK}{b:P}:∀{K:List (P×D×Nat)} {e:Option Nat},jF d b K=J e->jN d b b=J aa|[],e,a=>by simp[jF]at a;grind|A::x,e,a=>by simp[jF]at a;split at a;rename_i f c;exact wk c;rename_i f c;exact wk c;grind
theorem Lw{b:KK}{c:P}:∀{K:List (P×D×Nat)} {i:Nat},jF b c K=J (J i)->∃A,K[i]? =J A/\jN b c A.1=J aa
 |[],i,a=>by simp[jF]at a;grind
 |A::x,i,a=>by
  rcases Gi a with⟨g,d⟩|⟨g,h,d,f⟩;grind;cases h with
  |none=>cases f
  |some e=>cases f;obtain⟨j,k,l⟩:=Lw d;exact U
theorem K7{k:dL}{l:TypeDesc}{m:SK}{kp:P}{o:Value}(d:KT Pg k=J m)(f:Pg.underlying k=J l)(h:P.rd c own kp o):∀(es:List fy) (K:List (P×D×Nat)) (i:Nat) (e:Option Nat),
 xO c own es K->jF (.aM m) kp K=J e->rq l o es i=J (e.map λn=>(i+n,BU es n))
 |[],[],i,e,_,b=>by simp only[jF]at b;split at b;cases b;rfl;grind
 |[],_::_,_,_,a,_=>by simp[xO]at a|_::_,[],_,_,a,_=>by simp[xO]at a
 |g::es,A::K,i,e,a,b=>by
  obtain⟨p,a⟩:=a.tail;rcases Gi b with⟨j,rfl⟩|⟨j,q,r,rfl⟩
  have:=Tv d f j h p;simp[rq,this,BU];have:=Tv d f j h p;have ih:=K7 d f h es K (i+1) q a r;simp only[rq,this,ih,IH];congr 1;cases q with|none=>rfl|some n=>simp[BU];omega
theorem SN{f h:P}(k:Pg.underlying j=J (.struct C))(l:xn Pg C.toList 0=J E)(m:Pg.stoodInHeld j=Z)(a:jN (.st E) f h=J x)(b:P.rd c own f F)(e:P.rd c own h R):
 (qk j F R).run Pg w=.ok x w:=by
 unfold jN at a;split at a;grind;rename_i q n ys g;cases g;obtain⟨F,rfl,_,b⟩:=b;obtain⟨R,rfl,_,e⟩:=e;have o:Pg.fieldsOf j=C:=by simp[Gq,k]
 have p:=A4 (w:=w) (d:=9998) C.toList 0 E n ys x l a b e;have i:=G9 w 9999 j F R U m;rw[o,p]at i;exact i;grind
theorem Ey{d:dL}{m:Array jV}{o:List SK}{kp:P}{p:Value}(f:Pg.underlying d=J (.struct m))(h:xn Pg m.toList 0=J o)(j:Pg.stoodInHeld d=Z)(k:P.rd c own kp p):∀(es:List fy) (K:List (P×D×Nat)) (i:Nat) (e:Option Nat),
 xO c own es K->jF (.st o) kp K=J e->(AU d p es i).run Pg w=.ok (e.map λn=>(i+n,BU es n)) w
 |[],[],i,e,_,b=>by simp only[jF]at b;split at b;cases b;exact aj;grind
 |[],_::_,_,_,a,_=>by simp[xO]at a|_::_,[],_,_,a,_=>by simp[xO]at a
 |g::es,A::K,i,e,a,b=>by
  obtain⟨q,a⟩:=a.tail;rcases Gi b with⟨l,rfl⟩|⟨l,r,s,rfl⟩
  have:=SN (w:=w) f h j l k q;simp[AU,this,BU];have:=SN (w:=w) f h j l k q;have ih:=Ey f h j k es K (i+1) r a s;simp only[AU,iN,this,lZ,ih,IH];simp only[fN,dC,ih];congr 1;cases r with|none=>rfl|some n=>simp[BU];omega
theorem Pb(a:EC Pg j=J aP):(∃k,aP=.aM k/\KT Pg j=J k)\/∃C E,aP=.st E/\Pg.underlying j=J (.struct C)/\xn Pg C.toList 0=J E/\Pg.stoodInHeld j=Z:=by unfold EC at a;grind
theorem Ad{kp:P}(p:EC Pg j=J aP)(l:P.rd c own kp r){a:Array fy}(f:xO c own a.toList K)(b:jF aP kp K=J e):
 (AX j r a.toList).run Pg w=.ok (e.map λn=>(n,BU a.toList n)) w:=by
 rcases Pb p with⟨k,rfl,m⟩|⟨C,E,rfl,h,q,s⟩;obtain⟨d,o,_⟩:=Ol m;have:=K7 m o l a.toList K 0 e f b;simp only[bf]at this;exact MapKept.run_findKey o ar;cases i:a.toList with
 |nil=>
  rw[i]at f;cases K with
  |nil=>simp only[jF]at b;split at b;cases b;simp[AX,bv h,rq];grind
  |cons=>simp[xO]at f
 |cons g x=>
  rw[<-i];have t:rq (.struct C) r a.toList 0=ae:=by rw[i];simp[rq,uF]
  have:=Ey (w:=w) h q s l a.toList K 0 e f b;simp only[bf]at this;simp[AX,bv h,t,this]
def yG{kp:P}(f:EC Pg j=J aP)(d:P.rd c own kp r)(a:jN aP kp kp=J aa)(b:Bool):(vm b 10000 j r).run Pg w=.ok () w:=by
 rcases Pb f with⟨k,rfl,g⟩|⟨C,E,rfl,h,i,_⟩;exact K5 g a d b 9999;cases kp with
 |agg e=>obtain⟨F,rfl,_,l⟩:=d;have:=K8 (w:=w) (em:=b) (n:=9998) C.toList 0 E e e aa i a l;unfold vm;simp only[iN,bv h,lZ];rw[<-Array.forIn_toList];simp only[this,lZ,wP]
 |_=>simp[jN]at a
end
end Go.Dl
