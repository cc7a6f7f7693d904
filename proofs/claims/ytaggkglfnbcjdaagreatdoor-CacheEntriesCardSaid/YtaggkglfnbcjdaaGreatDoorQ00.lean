import Derived.Calls
import Derived.Orders
import Derived.ArgAppend
import Derived.Lib.ConvBytes
set_option linter.all false
set_option maxRecDepth 1000000
set_option maxHeartbeats 40000000
namespace Go.Dl.Ai
end Go.Dl.Ai
namespace Go.Proofs
end Go.Proofs
namespace Ty
end Ty
open Array renaming ext'->ur,range->uA
open BitVec renaming ofInt->iC
open Bool renaming false->Z,true->aa
open Go renaming Addr->fB,BinOp->iH,Field->jV,IntKind->cY,MapEntry->fy,Operand->cS,TypeId->dL,binOp->fM,execOp->aG,goInt->uf,loadVar->my,newRow->oA,part->ni
open Go.Builtin renaming len_->pI
open Go.Instr renaming buildSlice->Gv,fill->uq,sureAddr->AV
open Go.Lib renaming bytesCells->JF,bytesWorld->uj
open Go.Op renaming bytesLess->xh,equal->qk,intArith->HH,intBits->xf,intDiv->Jy,shift->G3,stringOp->HG,unary->Ha
open Go.Oper renaming wp->Bo
open Go.Value renaming cells->ny,oneCell'->aJ
open List renaming head?_eq_getElem?->HE,range->cZ,replicate->fL,take->ou
open Nat renaming beq->au
open Option renaming none->ae,some->J
open True renaming intro->Hl
open Go Go.Dl Go.Dl.Ai
def ap:=@if_neg
def dM:=@Option.isSome_iff_exists
def AJ:=@Classical.byContradiction
def gJ:=@Nat.le_trans
def aK:=@Nat.eq_of_beq_eq_true
def dN:=@List.getElem?_map
def bj:=@Option.map_eq_some_iff
def du:=@Option.some.injEq
def bf:=@Nat.zero_add
def bv:=@run_underlying
def ua:=@Int.not_lt
def gq:=@Array.toList_inj
def iN:=@Sem.run_bind
def lZ:=@Result.andThen_ok
def OJ:=@run_loadCells_list
def bh:=@List.getElem?_eq_getElem
def bq:=@List.getElem?_eq_some_iff
def eX:=@Nat.add_mul
def lN:=@Array.getElem?_eq_some_iff
def aT:=@if_true
def wP:=@Sem.run_pure
def jX:=@List.ext_getElem?
def eD:=@List.getElem_of_mem
def H0:=@run_storeCells_at
def uC:=@Nat.add_zero
def Fc:=@setRow_heap
def sX:=@Array.getElem?_modify
def dB:=@Ne.symm
def qI:=@List.getElem?_toArray
def jd:=@List.append_assoc
def jZ:=@List.getElem?_append
def mo:=@List.getElem?_drop
def ye:=@Array.getElem?_toList
def jG:=@List.getElem?_set
def aU:=@if_pos
def nv:=@List.getElem?_take
def Fs:=@Nat.lt_or_gt_of_ne
def gH:=@Nat.mul_le_mul_right
def bV:=@Nat.le_refl
def OX:=@Array.toList_setIfInBounds
def vu:=@List.size_toArray
def Bb:=@Array.length_toList
def bG:=@List.map_cons
def E1:=@Array.all_eq_true'
def qX:=@Nat.add_comm
def yA:=@Nat.add_mul_mod_self_right
def xr:=@Nat.mod_eq_of_lt
def H6:=@Array.getElem?_map
def F4:=@Array.getElem?_range
def fK:=@Option.map_some
def d7:=@List.length_map
def FT:=@grownCap_ge
variable {K E:Prop}{b id aR i f n j:Nat}{be bn:Type}{x:cS}{e C V:dL}{v:Value}{w':World}{L Q:Array Value}{ag:Nat×Nat}{u:Bool}{aS:Array jV}{aB:Array (Nat×cS)}
namespace Go.Dl
def y(a:K:=by omega):K:=a
def Y(a:K:=by simp):K:=a
def aw(a:K:=by (try dsimp only);omega):K:=a
def ic(a:K:=by simp<;>omega):K:=a
def dK(a:K:=by simp;omega):K:=a
def h(a:K:=by kernel_rfl):K:=a
def eB(a:K:=by decide):K:=a
def KZ(a:K:=by decide+kernel):K:=a
def ar(a:K:=by assumption):K:=a
def qM(a:K:=by intros;omega):K:=a
def U(a:K:=by intros;simp[*]):K:=a
def EA(a:K:=by simp[*];omega):K:=a
def mcN(a:K:=by simp(disch:=omega)[*,ai]):K:=a
def bK(a:K:=by (try dsimp only);repeat' (first|exact Fr.mono (by assumption) (by omega)|refine Fr.am ?_ (by omega))):K:=a
theorem aj(a:K:=by intros;(try dsimp only);(repeat rw[ai (by omega)]);first|done|rfl|assumption|solve_by_elim):K:=a
def cj(a:K:=by intros;simp only[bP];repeat rw[ap (by omega)]):K:=a
theorem i0(a:K:=by solve_by_elim):K:=a
theorem ak(a:K:=by grind):K:=a
def T(a:K:=by intro;rfl):K:=a
def mcT(a:E)(b:E->K:=by intro a;simpa using a):K:=b a
def mcH(a:E)(b:E->K:=by intro a;omega):K:=b a
def mcW{e:Sort _}{c d:e}(a:c=d)(b:E)(f:c=d->E->K:=by intro a b;rw[a];exact b):K:=f a b
def au6(a:E)(b:E->K:=by intro a;simp[a]):K:=b a
def avk{c:Prop}(a:E)(b:c)(d:E->c->K:=by intro a b;simp[a,b]):K:=d a b
def avm{d e:Prop}(a:E)(b:d)(c:e)(f:E->d->e->K:=by intro a b c;simp[a,b,c]):K:=f a b c
inductive P where|v (x:Value)|agg (cs:List P)|im (es:List (List P)) (s:Nat) (full:Bool)|ip (cs:List P)|fn (f:Fn) (first captured:List P)
inductive D where|p (x:P)|agg (cs:List D)|eQ (cs:List D)|ptr (id u s i j:Nat)|sl (id u off len s:Nat) (full:Bool)|fn (f:Fn) (first captured:List D)|mp (id u:Nat)|any
def E4(a:Array fy)(b:Nat):Prop:=(∀x∈a.toList,x.born<b)/\(a.toList.map (·.born)).Nodup
inductive fg where|row (s u:Nat) (es:List (List D))|map (u clock:Nat) (kv:List (P×D×Nat))|oe (u m mg since:Nat) (seen:List Nat) (last:Nat)|iq (u:Nat) (f:ByteArray->Option D)
structure Oj(kv:List (P×D×Nat))(f:ByteArray->Option D):Prop where
 key:∀E∈kv,∃a:ByteArray,E.1=.v (.string a)/\f a=J E.2.1
 all:∀a d,f a=J d->∃E∈kv,E.1=.v (.string a)
 nd:(kv.map (·.1)).Pairwise (· ≠·)
structure Hp where
 f:Nat->Option Obj
 os:Os
 out:Array (Nat×ByteArray)
instance:CoeFun Hp λ_=>Nat->Option Obj:=⟨Hp.f⟩
structure Sm(H H':Hp):Prop where
 os:H'.os=H.os
 out:H'.out=H.out
theorem Sm.refl(a:Hp):Sm a a:=aj
def Sm.trans{a b c:Hp}(d:Sm a b)(e:Sm b c):Sm a c:=⟨e.os.trans d.os,e.out.trans d.out⟩
abbrev ah:=Nat->Option fg
structure cC where
 loc:Nat->Option Nat
 gen:Nat->Nat
 own:Nat->Prop
section
variable (a:Hp)(own:Nat->Prop)
mutual
def P.rd:P->Value->Prop
 |.v x,c=>c=x|.agg e,c=>∃Q:Array Value,c=.agg Q/\Q.size=e.length/\P.iR (λi=>Q[i]?) 0 e
 |.im h m o,c=>∃b n g,c=.slice b n g/\n=h.length/\n<=g/\(o=aa->g=n)/\(b=ae->g=0)/\(∀d,b=J d->d.spot=ae)/\
  (h=[]\/∃(d:fB) (L:Array Value) (V:dL) (ag:Nat×Nat),b=J d/\d.spot=ae/\¬own d.block/\a d.block=J (.cells L V ag)/\
   P.jl (λi=>L[i]?) d.off m h)
 |.ip e,c=>∃(b:fB) (L:Array Value) (V:dL) (ag:Nat×Nat),c=.pointer (J b)/\b.spot=ae/\¬own b.block/\a b.block=J (.cells L V ag)/\
  P.iR (λi=>L[i]?) b.off e
 |.fn f l e,c=>∃j k:Array Value,c=.func f j k/\j.size=l.length/\k.size=e.length/\P.mN (λi=>j[i]?) 0 l/\P.mN (λi=>k[i]?) 0 e
def P.iR(a:Nat->Option Value)(b:Nat):List P->Prop|[]=>True|K::c=>(∃v,a b=J v/\v.oneCell'=aa/\P.rd K v)/\P.iR a (b+1) c
def P.mN(a:Nat->Option Value)(b:Nat):List P->Prop|[]=>True|K::c=>(∃v,a b=J v/\P.rd K v)/\P.mN a (b+1) c
def P.jl(b:Nat->Option Value)(i a:Nat):List (List P)->Prop|[]=>True|c::d=>c.length=a/\P.iR b i c/\P.jl b (i+a) a d
end
end
section
variable (c:Hp)(a:cC)
mutual
def D.rd:D->Value->Prop
 |.p x,d=>P.rd c a.own x d|.agg k,d=>∃Q:Array Value,d=.agg Q/\Q.size=k.length/\D.iR (λi=>Q[i]?) 0 k|.eQ k,d=>∃Q:Array Value,d=.tuple Q/\Q.size=k.length/\D.mN (λi=>Q[i]?) 0 k|.ptr id u l i j,d=>(∃g:fB,d=.pointer (J g)/\g.spot=ae)/\u<=a.gen id/\(a.gen id=u->∃b,a.loc id=J b/\d=.pointer (J ⟨b,i*l+j,ae⟩))
 |.sl id u off h l t,d=>(∃(g:Option fB) (e:Nat),d=.slice g h e/\h<=e/\(∀o,g=J o->o.spot=ae)/\(g=ae->e=0))/\u<=a.gen id/\(a.gen id=u->
  match a.loc id with
  |none=>off=0/\h=0/\∃g,d=.slice g 0 0
  |some b=>∃(e q:Nat) (L:Array Value) (V:dL) (ag:Nat×Nat),d=.slice (J ⟨b,q,ae⟩) h e/\h<=e/\(e≠0->q=off*l)/\e<=maxLen/\c b=J (.cells L V ag)/\
   (if t then e=h else(off+e)*l=L.size))
 |.fn f r s,d=>∃m n:Array Value,d=.func f m n/\m.size=r.length/\n.size=s.length/\D.mN (λi=>m[i]?) 0 r/\D.mN (λi=>n[i]?) 0 s|.mp id u,d=>d.oneCell'=aa/\u<=a.gen id/\(a.gen id=u->∃b,a.loc id=J b/\d=.map (J b))|.any,_=>True
def D.iR(a:Nat->Option Value)(b:Nat):List D->Prop|[]=>True|d::c=>(∃v,a b=J v/\v.oneCell'=aa/\D.rd d v)/\D.iR a (b+1) c
def D.mN(a:Nat->Option Value)(b:Nat):List D->Prop|[]=>True|d::c=>(∃v,a b=J v/\D.rd d v)/\D.mN a (b+1) c
end
def D.jl(d:Nat->Option Value)(i b:Nat):List (List D)->Prop|[]=>True|e::f=>e.length=b/\D.iR c a d i e/\D.jl d (i+b) b f
def wh(id h f:Nat)(g:List (P×D×Nat)):Prop:=a.gen id=h/\∃b,a.loc id=J b/\a.own b/\∃(d:Array fy),c b=J (.map d f)/\E4 d f/\
 d.size=g.length/\∀(i:Nat) (e:fy),d[i]? =J e->∀(E:P×D×Nat),g[i]? =J E->P.rd c a.own E.1 e.key/\D.rd c a E.2.1 e.val/\e.born=E.2.2
def fg.rd(id:Nat):fg->Prop
 |.row n u k=>a.gen id=u/\
  match a.loc id with|none=>k=[]|some b=>a.own b/\∃(L:Array Value) (V:dL),c b=J (.cells L V (0,0))/\D.jl c a (λi=>L[i]?) 0 n k
 |.map u g d=>a.gen id=u/\∃b,a.loc id=J b/\a.own b/\∃(h:Array fy),c b=J (.map h g)/\E4 h g/\
  h.size=d.length/\∀(i:Nat) (e:fy),h[i]? =J e->∀(E:P×D×Nat),d[i]? =J E->P.rd c a.own E.1 e.key/\D.rd c a E.2.1 e.val/\e.born=E.2.2
 |.oe u j l o p q=>a.gen id=u/\∃b,a.loc id=J b/\a.own b/\l<=a.gen j/\∃m,c b=J (.mapIter (J m) o p.toArray q)/\(a.gen j=l->a.loc j=J m)|.iq u f=>∃g d,Oj d f/\wh c a id u g d
end
structure iA(H:Hp)(c:cC)(O:ah):Prop where
 gu:∀id k,O id=J k->k.rd H c id
 apart:∀i j b,(O i).isSome=aa->(O j).isSome=aa->c.loc i=J b->c.loc j=J b->i=j
 there:∀b,c.own b->H b≠ae
def Md(a:cC)(b:ah)(c:Nat):Prop:=∃id,(b id).isSome=aa/\a.loc id=J c
theorem iA.gC{i:Hp}{a:cC}{c:ah}(j:iA i a c)(k:Md a c b):a.own b:=by
 obtain⟨id,l,m⟩:=k;obtain⟨d,n⟩:=dM.1 l;have:=j.gu id d n;cases d with
 |row o u p=>simp[fg.rd,m]at this;exact U|map u q r=>obtain⟨_,e,g,h,_⟩:=this;grind
 |oe u s t v w x=>obtain⟨_,e,g,h,_⟩:=this;grind
 |iq u f=>obtain⟨_,_,_,_,e,g,h,_⟩:=this;grind
structure eI(N:Nat->Prop)(H:Hp)(c:cC)(O:ah)(H':Hp)(c':cC)(O':ah):Prop where
 aL:∀b ob,H b=J ob->¬Md c O b->H' b=J ob
 md:∀b,Md c' O' b->Md c O b\/H b=ae
 own:∀b,c'.own b->c.own b\/H b=ae
 gen:∀id,c.gen id<=c'.gen id
 loc:∀id,c'.gen id=c.gen id->c'.loc id=c.loc id
 size:∀b L V ag,H b=J (.cells L V ag)->∃arr' fz',H' b=J (.cells arr' V fz')/\arr'.size=L.size
 Co:∀b,H b≠ae->H' b≠ae
 fr:∀id,¬N id->O id=ae->c'.gen id=c.gen id
 nw:∀id,¬N id->O id=ae->O' id=ae
 A9:∀b,c.own b->H b≠ae->¬Md c O b->c'.own b
 sm:Sm H H'
theorem eI.refl(d:Nat->Prop)(a:Hp)(b:cC)(c:ah):eI d a b c a b c:=⟨U,U,U,qM,U,U,qM,qM,U,U,aj⟩
theorem eI.mono{M c:Nat->Prop}{d f:Hp}{g h:cC}{i j:ah}(a:eI c d g i f h j)(l:∀id,c id->M id):eI M d g i f h j:={a with fr:=λid k b=>a.fr id (λe=>aj) b,nw:=λid k b=>a.nw id (λe=>aj) b}
theorem eI.trans{N:Nat->Prop}{e f g:Hp}{c a d:cC}{i j l:ah}(h:eI N e c i f a j)(k:eI N f a j g d l):eI N e c i g d l where
 aL b ob hb ho:=by
  refine k.aL b ob (h.aL b ob hb ho) λh2=>?_;rcases h.md b h2 with h3|h3
  exact aj;grind
 md b hb:=by rcases k.md b hb with h2|h2;exact h.md b h2;refine .inr (AJ λh3=>h.Co b h3 h2)
 own b hb:=by rcases k.own b hb with h2|h2;exact h.own b h2;refine .inr (AJ λh3=>h.Co b h3 h2)
 gen id:=gJ (h.gen id) (k.gen id)
 loc id he:=by have h1:=h.gen id;have h2:=k.gen id;have m:a.gen id=c.gen id:=y;have n:d.gen id=a.gen id:=y;rw[k.loc id n,h.loc id m]
 size b L V ag hb:=by obtain⟨o,p,h2,s2⟩:=h.size b L V ag hb;obtain⟨a3,q,h3,s3⟩:=k.size b o V p h2;exact U
 Co b hb:=k.Co b (h.Co b hb)
 fr id hl ho:=(k.fr id hl (h.nw id hl ho)).trans (h.fr id hl ho)
 nw id hl ho:=k.nw id hl (h.nw id hl ho)
 A9 b hb hh hm:=k.A9 b (h.A9 b hb hh hm) (h.Co b hh) λh2=>(h.md b h2).elim hm hh
 sm:=h.sm.trans k.sm
def yJ(a b:ah):Prop:=∀id,a id=ae\/a id=b id
theorem iA.sub{H:Hp}{c:cC}{O a:ah}(h:iA H c O)(hs:yJ a O):iA H c a where
 gu id k hk:=by rcases hs id with h1|h1;grind;exact h.gu id k ak
 apart i j b hi hj h1 h2:=by
  refine h.apart i j b ?_ ?_ h1 h2;rcases hs i with e|e
  grind;grind;rcases hs j with e|e
  grind;grind
 there:=h.there
theorem Md.sub{a:cC}{c d:ah}(f:yJ d c)(g:Md a d b):Md a c b:=by
 obtain⟨id,i,h⟩:=g;refine⟨id,?_,h⟩;rcases f id with e|e
 grind;grind
def eI.sub{c:Nat->Prop}{d f:Hp}{g h:cC}{i j k:ah}(a:eI c d g i f h j)(l:yJ k j):eI c d g i f h k:={a with md:=λb m=>a.md b (m.sub l),nw:=λid n o=>(l id).elim U (λe=>e.trans (a.nw id n o))}
section mono
variable {a c:Hp}{own own':Nat->Prop}(d:∀b ob,a b=J ob->¬own b->c b=J ob/\¬own' b)
include d
mutual
theorem P.lQ:∀(K:P) (g:Value),P.rd a own K g->P.rd c own' K g
 |.v _,_,b=>b|.agg h,g,b=>by obtain⟨Q,e,r,s⟩:=b;exact⟨Q,e,r,P.Gf _ _ h s⟩
 |.im t I M,g,b=>by
  obtain⟨l,n,u,e,w,x,y,z,A,i⟩:=b;refine⟨l,n,u,e,w,x,y,z,A,?_⟩;rcases i with B|⟨C,L,V,ag,m,o,p,q,i⟩
  exact .inl B;obtain⟨j,k⟩:=d _ _ q p;exact .inr ⟨C,L,V,ag,m,o,k,j,P.R7 _ _ _ t i⟩
 |.ip h,g,b=>by obtain⟨l,L,V,ag,m,o,p,q,i⟩:=b;obtain⟨j,k⟩:=d _ _ q p;exact⟨l,L,V,ag,m,o,k,j,P.Gf _ _ h i⟩
 |.fn f D h,g,b=>by obtain⟨E,F,e,j,k,G,H⟩:=b;exact⟨E,F,e,j,k,P.Lp _ _ D G,P.Lp _ _ h H⟩
theorem P.Gf(d:Nat->Option Value):∀(i:Nat) (b:List P),P.iR a own d i b->P.iR c own' d i b|_,[],_=>trivial|i,K::b,e=>by obtain⟨⟨v,f,g,h⟩,j⟩:=e;exact⟨⟨v,f,g,P.lQ K v h⟩,P.Gf d (i+1) b j⟩
theorem P.Lp(d:Nat->Option Value):∀(i:Nat) (b:List P),P.mN a own d i b->P.mN c own' d i b|_,[],_=>trivial|i,K::b,e=>by obtain⟨⟨v,f,g⟩,h⟩:=e;exact⟨⟨v,f,P.lQ K v g⟩,P.Lp d (i+1) b h⟩
theorem P.R7(d:Nat->Option Value):∀(i b:Nat) (e:List (List P)),P.jl a own d i b e->P.jl c own' d i b e|_,_,[],_=>trivial|i,b,g::e,f=>⟨f.1,P.Gf d i g f.2.1,P.R7 d (i+b) b e f.2.2⟩
end
end mono
section ext
variable {m:Nat->Prop}{d g:Hp}{a h:cC}{l o:ah}(k:∀b,Md a l b->a.own b)(c:eI m d a l g h o)
include k c
theorem eI.pure:∀b e,d b=J e->¬a.own b->g b=J e/\¬h.own b:=by
 intro b e f k;refine⟨c.aL b e f aj,λi=>?_⟩;rcases c.own b i with j|j
 exact aj;grind
mutual
theorem D.mI:∀(C:D) (m:Value),D.rd d a C m->D.rd g h C m
 |.p x,m,l=>P.lQ (eI.pure k c) x m l|.agg z,m,l=>by obtain⟨Q,e,q,r⟩:=l;exact⟨Q,e,q,D.OC _ _ z r⟩
 |.eQ z,m,l=>by obtain⟨Q,e,q,r⟩:=l;exact⟨Q,e,q,D.Kb _ _ z r⟩
 |.ptr id u F i j,m,l=>by obtain⟨s,n,o⟩:=l;have t:=c.gen id;refine⟨s,gJ n t,λE=>?_⟩;have v:a.gen id=u:=y;obtain⟨b,A,w⟩:=o v;exact⟨b,by rw[c.loc id y];exact A,w⟩
 |.sl id u off ab F ac,m,l=>by obtain⟨s,n,o⟩:=l;have t:=c.gen id;refine⟨s,gJ n t,λE=>?_⟩;have v:a.gen id=u:=y;have B:=o v;rw[c.loc id y];revert B;cases a.loc id with|none=>exact λG=>G|some b=>rintro⟨H,I,L,V,ag,w,K,M,N,O,r⟩;obtain⟨R,S,T,q⟩:=c.size _ _ _ _ O;exact⟨H,I,R,V,S,w,K,M,N,T,by rw[q];exact r⟩
 |.fn f U W,m,l=>by obtain⟨X,Y,e,n,o,B,h4⟩:=l;exact⟨X,Y,e,n,o,D.Kb _ _ U B,D.Kb _ _ W h4⟩
 |.mp id u,m,l=>by obtain⟨s,n,o⟩:=l;have t:=c.gen id;refine⟨s,gJ n t,λE=>?_⟩;have v:a.gen id=u:=y;obtain⟨b,A,w⟩:=o v;exact⟨b,by rw[c.loc id y];exact A,w⟩
 |.any,_,_=>trivial
theorem D.OC(b:Nat->Option Value):∀(i:Nat) (c:List D),D.iR d a b i c->D.iR g h b i c|_,[],_=>Hl|i,E::e,f=>by obtain⟨⟨v,j,k,l⟩,m⟩:=f;exact⟨⟨v,j,k,D.mI E v l⟩,D.OC b (i+1) e m⟩
theorem D.Kb(b:Nat->Option Value):∀(i:Nat) (c:List D),D.mN d a b i c->D.mN g h b i c|_,[],_=>Hl|i,E::e,f=>by obtain⟨⟨v,j,k⟩,l⟩:=f;exact⟨⟨v,j,D.mI E v k⟩,D.Kb b (i+1) e l⟩
end
theorem D.uH(b:Nat->Option Value)(e:Nat):∀(f:List (List D)) (i:Nat),D.jl d a b i e f->D.jl g h b i e f|[],_,_=>ar|l::f,i,j=>⟨j.1,D.OC k c b i l j.2.1,D.uH b e f (i+e) j.2.2⟩
end ext
def fg.wA:fg->Nat×Nat×Nat×Nat|.row a u b=>(0,a,u,b.length)|.map u _ _=>(1,0,u,0)|.iq u _=>(3,0,u,0)|.oe u _ _ _ _ _=>(2,0,u,0)
end Go.Dl
variable {g:fg}{aP M:List D}{d:D}{R:List P}
namespace Go.Dl
section
inductive dh where|t (n:Nat)|c (x:P)
inductive SK where|b|i|s
inductive KK where|aM (k:SK)|st (ks:List SK)
inductive PF where|mx|mn|eq (neg:Bool) (ks:List SK)
inductive ZL where|Ew|len|Ug (kk:KK)|range|next|Zb (n:Nat)
inductive fG where|qm|lP (neg:Bool) (x y:dh)|pf (k:PF) (args:List dh)|mv (x:dh)|pick (c a b:dh)|alloc (nm s:Nat) (zero:List P)|box (nm s:Nat) (x:dh)|build (zero:List P) (aB:List (Nat×Nat×dh))|bQ (nm s n:Nat) (zero:List P) (aB:List (Nat×dh))|load (n:Nat) (agg:Bool) (x:dh) (fl:Bool)|store (n:Nat) (x v:dh) (ow:Bool:=Z)|lY (x:dh)|lS (op:iH) (C:Nat) (x y:dh)|un (op:UnOp) (x:dh)|zf (k:cY) (x:dh)|yS (x:dh)|KX (x:dh)|EN (x:dh)|fa (x:dh) (off:Nat)|yK (x:dh) (off n:Nat) (agg:Bool)|ti (s:Nat) (x i:dh)|IL (x i:dh)|tZ (s:Nat) (x:dh) (lo hi mx:Option dh)|Il (x:dh) (lo hi:Option dh)|Hx (nm s bytes:Nat) (zero:List P) (len cap:dh)|len (str:Bool) (x:dh)|j4 (nm s bytes:Nat) (x y:dh)|GF (s:Nat) (zero:List P) (x:dh)|Fx (x:dh)|Ed (nm s bytes:Nat) (zero:List P) (x l:dh)|ext (x:dh) (i:Nat)|call (f:FuncId) (args:List dh)|iI (x:dh) (args:List dh)|Ho (f:Fn) (first cap:List dh)|Av (nm:Nat) (zero:D)|sQ (kk:KK) (zero:D) (ok:Bool) (x k:dh)|qx (kk:KK) (x k v:dh)|oY (x k v:dh)|m (k:ZL) (nm:Nat) (args:List dh)
structure aA where
 dst:Option Nat
 op:fG
 guard:Option (Nat×Bool):=ae
 fc:Bool:=Z
inductive av where|skip|dg (iz:Nat) (draw:Bool) (ops:List aA)|seq (a b:av)|cond (c:dh) (a b:av)|block (id:Nat) (a:av)|loop (a:av)|exit (id:Nat)|ret|qm
structure St where
 T:Nat->D
 O:ah
 nx:Nat
 bs:Nat
 gm:Nat->Nat
def am(a:Nat->be)(c:Nat)(b:be):Nat->be:=λx=>if x=c then b else a x
def St.ev(a:St):dh->D|.t n=>a.T n|.c x=>.p x
def P.cells:P->List P|.agg M=>M|.v x=>if x.oneCell' then [.v x] else []|x=>[x]
def D.cells:D->List D|.agg aP=>aP|.p x=>x.cells.map .p|.eQ _=>[]|.any=>[]|d=>[d]
def dv:List D->Option (List P)|[]=>J []|.p x::aP=>(dv aP).map (x::·)|_::_=>ae
def cF(a:List D):D:=match dv a with|some b=>.p (.agg b)|none=>.agg a
def ft(b:Nat)(c:Bool)(a:List P):Option P:=if c then(if b<=a.length then J (.agg (a.take b)) else ae) else a.head?
def ba(b:Nat)(c:Bool)(a:List D):Option D:=if c then(if b<=a.length then J (cF (a.take b)) else ae) else a.head?
def bI(a b:List bn)(off:Nat):List bn:=a.take off++b++a.drop (off+b.length)
def dp:List (List D)->Option (List (List P))|[]=>J []|a::b=>match dv a,dp b with|some K,J c=>J (K::c)|_,_=>ae
def fh(a:dh->D):List D->List (Nat×Nat×dh)->Option (List D)|M,[]=>J M|M,(off,n,x)::b=>if(a x).cells.length=n/\off+n<=M.length then fh a (bI M (a x).cells off) b else ae
def fP(a:dh->D)(b:Nat):List (List D)->List (Nat×dh)->Option (List (List D))|M,[]=>J M|M,(i,x)::c=>if(a x).cells.length=b/\i<M.length then fP a b (M.set i (a x).cells) c else ae
abbrev I(a:Int):P:=.v (.int .i64 a)
abbrev B(a:Bool):P:=.v (.bool a)
abbrev S(a:ByteArray):P:=.v (.string a)
def vEq:Value->Value->Option Bool|.bool a,.bool b=>J (a==b)|.int g a,.int c b=>if g=c then J (a==b) else ae|.string a,.string b=>J (a==b)|_,_=>ae
def asc:List P->List P->Option Bool
 |[],[]=>J aa|.v a::c,.v b::d=>match vEq a b,asc c d with|some K,J E=>J (K&&E)|_,_=>ae
 |_,_=>ae
def gD(d:iH)(a b:ByteArray)(c:P->Prop):Prop:=match d with|.add=>a.size+b.size<=9223372036854775807/\c (S (a++b))|.eql=>c (B (a.toList==b.toList))|.neq=>c (B (!(a.toList==b.toList)))|.lss=>c (B (xh a.toList b.toList))|.leq=>c (B (xh a.toList b.toList||a.toList==b.toList))|.gtr=>c (B (!(xh a.toList b.toList||a.toList==b.toList)))|.geq=>c (B (!(xh a.toList b.toList)))|_=>False
def aC(e:iH)(a:cY)(c b:Int)(d:P->Prop):Prop:=match e with|.add=>d (.v (.int a (a.wrap (c+b))))|.sub=>d (.v (.int a (a.wrap (c-b))))|.mul=>d (.v (.int a (a.wrap (c*b))))|.quo=>b≠0/\d (.v (.int a (a.wrap (c.tdiv b))))|.rem=>b≠0/\d (.v (.int a (c.tmod b)))|.and=>d (.v (.int a (a.wrap (iC a.bits c&&&iC a.bits b).toNat)))|.or=>d (.v (.int a (a.wrap (iC a.bits c|||iC a.bits b).toNat)))|.xor=>d (.v (.int a (a.wrap (iC a.bits c^^^iC a.bits b).toNat)))|.andNot=>d (.v (.int a (a.wrap (iC a.bits c&&& ~~~ iC a.bits b).toNat)))|.eql=>d (B (c==b))|.neq=>d (B (c !=b))|.lss=>d (B (decide (c<b)))|.leq=>d (B (decide (c<=b)))|.gtr=>d (B (decide (c>b)))|.geq=>d (B (decide (c>=b)))|.shl=>0<=b/\d (.v (.int a (a.wrap (c*2^(min b.toNat a.bits)))))|.shr=>0<=b/\d (.v (.int a (c.fdiv (2^(min b.toNat a.bits)))))
def tj:SK->P->P->Option Bool|.b,.v (.bool a),.v (.bool b)=>J (a==b)|.i,.v (.int g a),.v (.int c b)=>if g=c then J (a==b) else ae|.s,.v (.string a),.v (.string b)=>J (a.toList==b.toList)|_,_,_=>ae
def mX:List SK->List P->List P->Option Bool
 |[],[],[]=>J aa|g::a,x::b,c::d=>match tj g x c,mX a b d with|some K,J E=>J (K&&E)|_,_=>ae
 |_,_,_=>ae
def vL:PF->List D->Option P
 |.mx,[.p (.v (.int .i64 a)),.p (.v (.int .i64 b))]=>J (I (if b>a then b else a))|.mn,[.p (.v (.int .i64 a)),.p (.v (.int .i64 b))]=>J (I (if b<a then b else a))|.eq neg c,[.p (.agg d),.p (.agg e)]=>match mX c d e with|some b=>J (B (b !=neg))|none=>ae
 |_,_=>ae
def Jp:D->D->Option (List Bool)
 |x,.p (.v (.slice ae _ _))=>match x with|.p (.v (.slice ae _ _))=>J [aa]|.p (.im a _ _)=>J (if a.isEmpty then [aa,Z] else [Z])|.sl _ _ _ b _ _=>J (if b=0 then [aa,Z] else [Z])|_=>ae
 |x,.p (.v (.pointer ae))=>match x with|.p (.v (.pointer ae))=>J [aa]|.p (.ip _)=>J [Z]|.ptr .. =>J [Z]|_=>ae
 |_,_=>ae
def mC(a:ByteArray):List (List P):=a.data.toList.map λb=>[.v (.int .u8 b.toNat)]
def binOp(op:iH)(d:Nat)(e f:D)(c:P->Prop):Prop:=
 match e,f with
 |.p (.v (.int g a)),.p (.v (.int h b))=>match op with|.shl=>aC .shl g a b c|.shr=>aC .shr g a b c|op=>g=h/\aC op g a b c
 |.p (.v (.string a)),.p (.v (.string b))=>gD op a b c|.p (.v (.bool a)),.p (.v (.bool b))=>d=1/\match op with|.eql=>c (B (a==b))|.neq=>c (B (!(a==b)))|_=>False
 |_,_=>False
def unOp(c:UnOp)(d:D)(a:P->Prop):Prop:=match c,d with|.neg,.p (.v (.int g n))=>a (.v (.int g (g.wrap (0-n))))|.not,.p (.v (.bool b))=>a (B (!b))|_,_=>False
def fF(e:ah)(b:Nat):D->Option (List (List D))
 |.p (.v (.slice ae 0 0))=>J []|.p (.im a c _)=>if c=b then J (a.map (·.map .p)) else ae
 |.sl id u off d c _=>
  if c=b then match e id with|some (.row s2 f a)=>if s2=b/\f=u/\off+d<=a.length then J ((a.drop off).take d) else ae|_=>ae
  else ae
 |_=>ae
def fO(b:ah)(a:Nat)(d:D):Option (List (List D)):=match d with|.p (.v (.string c))=>if a=1 then J ((mC c).map (·.map .p)) else ae|d=>fF b a d
def Kv:List (List D)->ByteArray->Option ByteArray|[],a=>J a|[.p (.v (.int .u8 n))]::b,a=>Kv b (a.push (UInt8.ofNat n.toNat))|_,_=>ae
def jK(b:dh->D)(c:Nat)(top:Nat)(a:Nat->Prop):Option dh->Prop|none=>a c|some x=>match b x with|.p (.v (.int _ n))=>0<=n/\n<=top/\a n.toNat|_=>False
def jN:KK->P->P->Option Bool|.aM g,x,a=>tj g x a|.st b,.agg c,.agg d=>mX b c d|_,_,_=>ae
def jF(b:KK)(a:P):List (P×D×Nat)->Option (Option Nat)
 |[]=>match jN b a a with|some aa=>J ae|_=>ae
 |E::c=>match jN b a E.1,jF b a c with|some aa,J _=>J (J 0)|some Z,J j=>J (j.map (· +1))|_,_=>ae
structure Y3(clock:Nat)(kv:List (P×D×Nat)):Prop where
 lt:∀E∈kv,E.2.2<clock
 nd:(kv.map (·.2.2)).Nodup
def th(r:ZL)(p q:Nat)(s:List D)(a:ah)(e:D->ah->Prop):Prop:=
 match r,s with
 |.Ew,[.ptr id u 0 0 0]=>
  match a id with
  |some (.oe b g h k f l)=>b=u/\
   match a g with|some (.map m d c)=>m=h/\d=l/\(Y3 d c->∃E∈c,f.getLast? =J E.2.2/\e (.eQ [.p E.1,E.2.1]) a)|_=>False
  |_=>False
 |.len,[.mp id u]=>match a id with|some (.map b _ c)=>b=u/\e (.p (I c.length)) a|some (.iq b _)=>b=u/\∀n:Nat,e (.p (I n)) a|_=>False
 |.Ug t,[.mp id u,.p kp]=>
  match a id with
  |some (.map b d c)=>b=u/\match jF t kp c with|some (J i)=>e .any (am a id (J (.map b d (c.eraseIdx i))))|some ae=>e .any a|none=>False
  |_=>False
 |.range,[.mp id u]=>match a id with|some (.map b d _)=>b=u/\e (.ptr p q 0 0 0) (am a p (J (.oe q id u d [] d)))|_=>False
 |.next,[.ptr id u 0 0 0]=>
  match a id with
  |some (.oe b g h k f l)=>b=u/\
   match a g with
   |some (.map m d c)=>m=h/\(Y3 d c->(f=[]\/c=[]\/∃E∈c,E.2.2<l)/\
    (∀E∈c,E.2.2∉f->e (.eQ [.p (B aa),.p E.1,E.2.1]) (am a id (J (.oe b g h k (f++[E.2.2]) d))))/\
    ((∀E∈c,E.2.2<k->E.2.2∈f)->e (.eQ [.p (B Z)]) a))
   |_=>False
  |_=>False
 |.Zb n,[.sl id u off _ v w,.p (.v (.int _ j)),.p (.v (.int _ o))]=>match a id with|some (.row x b y)=>v=n/\x=n/\b=u/\w=Z/\0<n/\0<=j/\j<=o/\off+o.toNat<=y.length/\e (.sl id u (off+j.toNat) (o.toNat-j.toNat) n Z) a|_=>False
 |_,_=>False
theorem adG{b:ZL}{c e:Nat}{f:List D}{g:ah}{h i:D->ah->Prop}(k:∀d j,h d j->i d j)(a:th b c e f g h):th b c e f g i:=by unfold th at a⊢;split at a;grind;grind;grind;grind;split at a;grind;omega;grind;omega
def vr(a:Bool)(b:D):Option D->D|some d=>if a then .eQ [d,.p (B aa)] else d|none=>if a then .eQ [b,.p (B Z)] else b
def KP(a:KK)(kp:P):fg->Option (Option D)
 |.map _ _ b=>match jF a kp b with
  |some (J i)=>match b[i]? with|some E=>J (J E.2.1)|none=>ae
  |some ae=>J ae|none=>ae
 |.iq _ f=>match a,kp with|.aM .s,.v (.string c)=>J (f c)|_,_=>ae
 |_=>ae
def Fv(d:KK)(kp:P)(b:D):fg->Option fg
 |.map u c a=>match jF d kp a with
  |some (J i)=>match a[i]? with|some E=>J (.map u c (a.set i (kp,b,E.2.2)))|none=>ae
  |some ae=>J (.map u (c+1) (a++[(kp,b,c)]))|none=>ae
 |.iq u f=>match d,kp with|.aM .s,.v (.string e)=>J (.iq u (λx=>if x=e then J b else f x))|_,_=>ae
 |_=>ae
def uN:fg->Option Nat|.map u _ _=>J u|.iq u _=>J u|_=>ae
abbrev cR:=FuncId->List D->ah->Nat->(D->ah->Nat->Prop)->Prop
def BS(a:Prop)(b:Unit->Prop):Prop:=a\/b ()
theorem BS.l{a:Prop}{b:Unit->Prop}(c:a):BS a b:=aj
def BS.r{b:Prop}{a:Unit->Prop}(c:a ()):BS b a:=.inr c
@[congr]def arG{a b:Prop}{c:Unit->Prop}(d:a=b):BS a c=BS b c:=by rw[d]
variable (a:cR)
def aN(W:fG)(c:St)(e:D->ah->Nat->Prop):Prop:=
 match W with
 |.qm=>False|.lP neg x H=>match Jp (c.ev x) (c.ev H) with|some q=>∀b∈q,e (.p (B (b !=neg))) c.O c.nx|none=>False
 |.pf g t=>match vL g (t.map c.ev) with|some K=>e (.p K) c.O c.nx|none=>False
 |.mv x=>e (c.ev x) c.O c.nx
 |.pick L m b=>
  match c.ev L with
  |.p (.v (.bool C))=>match C with|true=>e (c.ev m) c.O c.nx|false=>e (c.ev b) c.O c.nx
  |_=>False
 |.alloc nm n o=>o.length=n/\e (.ptr (c.bs+nm) (c.gm (c.bs+nm)) n 0 0) (am c.O (c.bs+nm) (J (.row n (c.gm (c.bs+nm)) [o.map .p]))) c.nx|.box nm n x=>(c.ev x).cells.length=n/\e (.ptr (c.bs+nm) (c.gm (c.bs+nm)) n 0 0) (am c.O (c.bs+nm) (J (.row n (c.gm (c.bs+nm)) [(c.ev x).cells]))) c.nx|.build o aB=>match fh c.ev (o.map .p) aB with|some M=>e (cF M) c.O c.nx|none=>False
 |.bQ nm n g o aB=>
  match fP c.ev n (fL g (o.map .p)) aB with
  |some h=>match dp h with|some X=>BS (e (.p (.im X n aa)) c.O c.nx) λ_=>e (.sl (c.bs+nm) (c.gm (c.bs+nm)) 0 g n Z) (am c.O (c.bs+nm) (J (.row n (c.gm (c.bs+nm)) h))) c.nx|none=>e (.sl (c.bs+nm) (c.gm (c.bs+nm)) 0 g n Z) (am c.O (c.bs+nm) (J (.row n (c.gm (c.bs+nm)) h))) c.nx
  |none=>False
 |.load n N x Y=>
  match c.ev x with
  |.p (.ip M)=>match ft n N M with|some d=>e (.p d) c.O c.nx|none=>False
  |.ptr id u p i j=>
   match c.O id with
   |some (.row w s h)=>w=p/\s=u/\(Y=aa->id<c.bs)/\
    match h[i]? with
    |some y=>match ba n N (y.drop j) with|some d=>e d c.O c.nx|none=>False
    |none=>False
   |_=>False
  |_=>False
 |.store n x v ow=>
  match c.ev x with
  |.ptr id u p i j=>
   match c.O id with
   |some (.row w s h)=>w=p/\s=u/\(ow=aa->c.bs<=id)/\(c.ev v).cells.length=n/\
    match h[i]? with|some y=>j+n<=y.length/\e .any (am c.O id (J (.row w s (h.set i (bI y (c.ev v).cells j))))) c.nx|none=>False
   |_=>False
  |_=>False
 |.lY x=>match c.ev x with|.ptr id u n i j=>e (.ptr id u n i j) c.O c.nx|.p (.ip M)=>e (.p (.ip M)) c.O c.nx|.fn (.func f) E M=>e (.fn (.func f) E M) c.O c.nx|.p (.fn (.func f) E M)=>e (.p (.fn (.func f) E M)) c.O c.nx|_=>False
 |.lS T C x H=>binOp T C (c.ev x) (c.ev H) λK=>e (.p K) c.O c.nx|.un T x=>unOp T (c.ev x) λK=>e (.p K) c.O c.nx|.zf g x=>match c.ev x with|.p (.v (.int _ n))=>e (.p (.v (.int g (g.wrap n)))) c.O c.nx|_=>False
 |.yS x=>match c.ev x with|.p (.v (.int _ n))=>e (.p (S (Utf8.encode n))) c.O c.nx|.p (.v (.string m))=>e (.p (S m)) c.O c.nx|_=>False
 |.KX x=>match c.ev x with|.p (.v (.string m))=>e (.p (.im (mC m) 1 Z)) c.O c.nx|_=>False
 |.EN x=>
  match fF c.O 1 (c.ev x) with
  |some h=>match Kv h ⟨#[]⟩ with|some m=>e (.p (S m)) c.O c.nx|none=>False
  |none=>False
 |.fa x off=>match c.ev x with|.ptr id u n i j=>e (.ptr id u n i (j+off)) c.O c.nx|.p (.ip M)=>e (.p (.ip (M.drop off))) c.O c.nx|_=>False
 |.yK x off n N=>
  match c.ev x with
  |.p (.agg M)=>match ft n N (M.drop off) with|some d=>e (.p d) c.O c.nx|none=>False
  |.agg aP=>match ba n N (aP.drop off) with|some d=>e d c.O c.nx|none=>False
  |_=>False
 |.ti n x i=>
  match c.ev i with
  |.p (.v (.int _ g))=>
   match c.ev x with
   |.sl id u off k p _=>p=n/\0<=g/\g<k/\e (.ptr id u n (off+g.toNat) 0) c.O c.nx|.p (.im h p _)=>p=n/\0<=g/\match h[g.toNat]? with|some y=>e (.p (.ip y)) c.O c.nx|none=>False
   |_=>False
  |_=>False
 |.IL x i=>
  match c.ev i with
  |.p (.v (.int _ g))=>
   match c.ev x with
   |.p (.v (.string m))=>0<=g/\match m[g.toNat]? with|some b=>e (.p (.v (.int .u8 b.toNat))) c.O c.nx|none=>False
   |_=>False
  |_=>False
 |.tZ n x O P z=>
  match c.ev x with
  |.sl id u off k p A=>p=n/\
   jK c.ev k k (λF=>jK c.ev k F (λr=>jK c.ev 0 r (λq=>
    (A=aa->z.isSome=aa\/r=k)/\
    e (if z.isSome&& !(decide (r=F)) then .any else .sl id u (off+q) (r-q) n (if z.isSome then aa else A)) c.O c.nx) O) P) z
  |.p (.im h p A)=>p=n/\
   jK c.ev h.length h.length (λF=>jK c.ev h.length F (λr=>jK c.ev 0 r (λq=>
    (z.isSome=aa->r=F)/\
    e (.p (.im ((h.take r).drop q) n (if z.isSome then aa else(A&&decide (r=h.length))))) c.O c.nx) O) P) z
  |.p (.v (.slice ae 0 0))=>jK c.ev 0 0 (λF=>jK c.ev 0 F (λr=>jK c.ev 0 r (λ_=>e (.p (.v (.slice ae 0 0))) c.O c.nx) O) P) z|_=>False
 |.Il x O P=>match c.ev x with|.p (.v (.string m))=>jK c.ev m.size m.size (λr=>jK c.ev 0 r (λq=>e (.p (S (m.extract q r))) c.O c.nx) O) P|_=>False
 |.Hx nm n G o k U=>
  match c.ev k,c.ev U with
  |.p (.v (.int .i64 q)),.p (.v (.int .i64 L))=>0<=q/\q<=L/\L*G<=2^47/\L<=2^47/\o.length=n/\0<n/\
   e (.sl (c.bs+nm) (c.gm (c.bs+nm)) 0 q.toNat n Z) (am c.O (c.bs+nm) (J (.row n (c.gm (c.bs+nm)) (fL q.toNat (o.map .p))))) c.nx
  |_,_=>False
 |.len ab x=>
  match ab with
  |true=>match c.ev x with|.p (.v (.string m))=>e (.p (I m.size)) c.O c.nx|_=>False
  |false=>match c.ev x with|.p (.v (.slice ae 0 0))=>e (.p (I 0)) c.O c.nx|.p (.im h _ _)=>e (.p (I h.length)) c.O c.nx|.sl _ _ _ k _ _=>e (.p (I k)) c.O c.nx|_=>False
 |.j4 nm n G x H=>
  match fO c.O n (c.ev H) with
  |none=>False
  |some l=>
   match c.ev x with
   |.p (.v (.slice ae 0 0))=>l.length*G<=2^47/\l.length<=2^47/\
    ∀u,e (.sl (c.bs+nm) u 0 l.length n Z) (am c.O (c.bs+nm) (J (.row n u l))) c.nx
   |.p (.im h p A)=>A=aa/\p=n/\(h.length+l.length)*G<=2^47/\h.length+l.length<=2^47/\(l=[]->e (c.ev x) c.O c.nx)/\
    (l≠[]->∀u,e (.sl (c.bs+nm) u 0 (h.length+l.length) n Z) (am c.O (c.bs+nm) (J (.row n u (h.map (·.map .p)++l)))) c.nx)
   |.sl id u off k p A=>
    match c.O id with
    |some (.row w s h)=>p=n/\w=n/\s=u/\(k+l.length)*G<=2^47/\k+l.length<=2^47/\
     match A with
     |false=>off=0/\if k=h.length then∀Q,e (.sl id Q 0 (k+l.length) n Z) (am c.O id (J (.row n Q (h++l)))) c.nx
      else k+l.length<=h.length/\e (.sl id u 0 (k+l.length) n Z) (am c.O id (J (.row n u (h.take k++l++h.drop (k+l.length))))) c.nx
     |true=>off+k<=h.length/\(l=[]->e (c.ev x) c.O c.nx)/\
      (l≠[]->∀Q,e (.sl (c.bs+nm) Q 0 (k+l.length) n Z) (am c.O (c.bs+nm) (J (.row n Q ((h.drop off).take k++l)))) c.nx)
    |_=>False
   |_=>False
 |.Fx x=>match c.ev x with|.p (.v (.slice ae 0 0))=>e (.p (I 0)) c.O c.nx|_=>False
 |.Ed nm n G o x q=>
  match c.ev x,c.ev q with
  |.p (.v (.slice ae 0 0)),.p (.v (.int .i64 g))=>0<g/\g*G<=2^47/\g<=2^47/\o.length=n/\0<n/\
   ∀u,e (.sl (c.bs+nm) u 0 g.toNat n Z) (am c.O (c.bs+nm) (J (.row n u (fL g.toNat (o.map .p))))) c.nx
  |_,_=>False
 |.GF n o x=>
  match c.ev x with
  |.p (.v (.slice ae 0 0))=>e (.eQ []) c.O c.nx|.sl id u off k p _=>p=n/\o.length=n/\0<n/\match c.O id with|some (.row w s h)=>w=n/\s=u/\off+k<=h.length/\e (.eQ []) (am c.O id (J (.row n u (h.take off++fL k (o.map .p)++h.drop (off+k))))) c.nx|_=>False
  |_=>False
 |.ext x i=>
  match c.ev x with
  |.eQ aP=>match aP[i]? with|some d=>e d c.O c.nx|none=>False
  |_=>False
 |.call f t=>a f (t.map c.ev) c.O c.nx e|.iI x t=>match c.ev x with|.fn (.func f) E M=>a f (E++t.map c.ev++M) c.O c.nx e|.p (.fn (.func f) E M)=>a f (E.map .p++t.map c.ev++M.map .p) c.O c.nx e|_=>False
 |.Ho f first U=>e (.fn f (first.map c.ev) (U.map c.ev)) c.O c.nx
 |.Av nm _=>BS (e (.mp (c.bs+nm) (c.gm (c.bs+nm))) (am c.O (c.bs+nm) (J (.map (c.gm (c.bs+nm)) 0 []))) c.nx)
  λ_=>e (.mp (c.bs+nm) (c.gm (c.bs+nm))) (am c.O (c.bs+nm) (J (.iq (c.gm (c.bs+nm)) λ_=>ae))) c.nx
 |.sQ V o ok x g=>
  match c.ev x,c.ev g with
  |.mp id u,.p kp=>id<c.bs/\match c.O id with
   |some R=>uN R=J u/\match KP V kp R with|some y=>e (vr ok o y) c.O c.nx|none=>False
   |none=>False
  |_,_=>False
 |.qx V x g v=>
  match c.ev x,c.ev g with
  |.mp id u,.p kp=>match c.O id with
   |some R=>uN R=J u/\match Fv V kp (c.ev v) R with|some b=>e .any (am c.O id (J b)) c.nx|none=>False
   |none=>False
  |_,_=>False
 |.oY x g v=>
  match c.ev x,c.ev g with
  |.mp id u,.p (.v (.string m))=>match c.O id with|some (.iq s f)=>s=u/\e .any (am c.O id (J (.iq s (λx=>if x=m then J (c.ev v) else f x)))) c.nx|_=>False
  |_,_=>False
 |.m g nm t=>th g (c.bs+nm) (c.gm (c.bs+nm)) (t.map c.ev) c.O λd ac=>e d ac c.nx
def eE(a:Nat->D):Option Nat->D->Nat->D|none,_=>a|some d,x=>am a d x
def d9(e:aA)(c:St)(f:St->Prop):Prop:=
 match e.guard with
 |none=>aN a e.op c λd g h=>f {c with T:=eE c.T e.dst d,O:=g,nx:=h}
 |some (u,i)=>
  match c.T u with
  |.p (.v (.bool b))=>match(b==i) with|true=>aN a e.op c λd g h=>f {c with T:=eE c.T e.dst d,O:=g,nx:=h}|false=>f {c with T:=eE c.T e.dst (.p (.v undef))}
  |.p (.v (.tuple _))=>f {c with T:=eE c.T e.dst (.p (.v undef))}|_=>False
def eN:List aA->St->(St->Prop)->Prop|[],b,c=>c b|d::e,b,c=>d9 a d b λf=>eN e f c
def bp(A B:ah):ah:=λid=>match A id with|some g=>J g|none=>B id
def fS:List aA->St->ah->(St->ah->Prop)->Prop|[],b,F,c=>c b F|e::f,b,F,c=>match e.fc with|false=>d9 a e b λd=>fS f d F c|true=>d9 a e {b with O:=F} λd=>fS f {d with O:=b.O} d.O c
def only(a:List Nat)(b:ah):ah:=λid=>if id∈a then b id else ae
def aX(a:List Nat)(b:ah):ah:=λid=>if id∈a then ae else b id
def bx:av->St->(Exit->St->Prop)->Prop
 |.skip,c,d=>d .normal c
 |.dg j q k,c,d=>∀l:Nat->Nat,
  match q with|false=>eN a k {c with bs:=c.nx,nx:=c.nx+j,gm:=l} λf=>d .normal f|true=>∃m,fS a k {c with bs:=c.nx,nx:=c.nx+j,gm:=l,O:=aX m c.O} (only m c.O) λf F=>d .normal {f with O:=bp f.O F}
 |.seq g b,c,d=>bx g c λe f=>match e with|.normal=>bx b f d|e=>d e f
 |.cond r g b,c,d=>
  match c.ev r with
  |.p (.v (.bool C))=>match C with|true=>bx g c d|false=>bx b c d
  |_=>False
 |.block id g,c,d=>bx g c λe f=>match e with|.exit i=>if i=id then d .normal f else d (.exit i) f|e=>d e f
 |.loop g,c,d=>∃h:Nat->St->Prop,(∃n,h n c)/\∀n f,h n f->bx g f λe o=>match e with|.normal=>∃p,p<n/\h p o|e=>d e o
 |.exit id,c,d=>d (.exit id) c|.ret,c,d=>d .ret c|.qm,_,_=>False
end
end Go.Dl
variable {r l A F:dh}
namespace Go.Dl
abbrev aD:P:=.v (.slice ae 0 0)
abbrev aF:P:=S ⟨#[]⟩
abbrev aH:P:=I 0
abbrev dZ:P:=B Z
abbrev q(a:Nat)(b:fG):aA:=⟨J a,b,ae,Z⟩
abbrev aZ(a:Nat)(b:fG):aA:=⟨J a,b,ae,aa⟩
abbrev oN(a:fG):aA:=⟨ae,a,ae,Z⟩
abbrev vt(a:fG):aA:=⟨ae,a,ae,aa⟩
abbrev oT(a b:Nat)(c:fG):aA:=⟨J a,c,J (b,aa),Z⟩
abbrev dA(a b:Nat)(c:fG):aA:=⟨J a,c,J (b,Z),Z⟩
abbrev xM(a:Nat):fG:=.mv (.t a)
abbrev xMi(a:Int):fG:=.mv (.c (I a))
abbrev gR(a:Bool):fG:=.mv (.c (B a))
abbrev xL(a b:Nat):fG:=.load a Z (.t b) Z
abbrev uS(a b:Nat):fG:=.load a aa (.t b) Z
abbrev jP(a b:Nat):fG:=.load a Z (.t b) aa
abbrev CM(a b:Nat):fG:=.load a aa (.t b) aa
abbrev xF(a b:Nat):fG:=.fa (.t a) b
abbrev xS(a b c:Nat):fG:=.store a (.t b) (.t c)
abbrev xN(a:Nat):fG:=.lY (.t a)
abbrev xI(a b c:Nat):fG:=.ti a (.t b) (.t c)
abbrev xB(a:iH)(b c:Nat):fG:=.lS a 0 (.t b) (.t c)
abbrev di(a:iH)(b:Nat)(c:Int):fG:=.lS a 0 (.t b) (.c (I c))
abbrev jw(a b:Nat):fG:=.pick (.t a) (.t b) (.c (B Z))
abbrev qa(a b:Nat):fG:=.pick (.t a) (.c (B aa)) (.t b)
abbrev fQ(a:Nat):fG:=.len Z (.t a)
abbrev jE(a b c d e:Nat):fG:=.j4 a b c (.t d) (.t e)
abbrev iU(a b c:Nat):fG:=.box a b (.t c)
abbrev xE(a b:Nat):fG:=.ext (.t a) b
abbrev wW(a:Nat)(b:List dh):fG:=.Ho (.func a) [] b
abbrev AM(a:Nat):fG:=.un .not (.t a)
abbrev G(a b:Nat):aA:=⟨J a,.mv (.t b),ae,Z⟩
abbrev fR(a:Nat)(b:Int):aA:=⟨J a,.mv (.c (I b)),ae,Z⟩
abbrev oL(a b c:Nat):aA:=⟨J a,.load b Z (.t c) Z,ae,Z⟩
abbrev cA(a b c:Nat):aA:=⟨J a,.load b aa (.t c) Z,ae,Z⟩
abbrev oF(a b c:Nat):aA:=⟨J a,.fa (.t b) c,ae,Z⟩
abbrev d5(a b:Nat):aA:=⟨J a,.lY (.t b),ae,Z⟩
end Go.Dl
namespace Go.Dl
abbrev oW(a b:Nat):fG:=.call a [.t b]
abbrev dV(a b c:Nat):fG:=.call a [.t b,.t c]
abbrev sV(a b c d:Nat):fG:=.call a [.t b,.t c,.t d]
abbrev rF(a:Nat)(b:List aA):av:=.dg a Z b
abbrev z(a:Nat)(b:List aA)(c:av):av:=.seq (.dg a Z b) c
abbrev cX(a b:Nat):av:=.cond (.t a) .skip (.exit b)
end Go.Dl
namespace Go.Dl
def j5(a:K:=by simp only[bP];repeat rw[ap y]):K:=a
abbrev W(a:World):Hp:=⟨λb=>a.heap[b]?,a.os,a.output⟩
theorem fg.yt{I:Nat->Prop}{m n:Hp}{a j:cC}{w K:ah}(h:∀b,Md a w b->a.own b)(c:eI I m a w n j K)(d:g.rd m a id)(M:j.gen id=a.gen id)(S:∀b,a.loc id=J b->j.own b)(T:∀b,a.loc id=J b->n b=m b):g.rd n j id:=by
 have N:=c.loc id M;cases g with
 |row W u X=>simp only[fg.rd]at d⊢;refine⟨y,?_⟩;rw[N];cases O:a.loc id with|none=>grind|some b=>simp only[O]at d;obtain⟨_,_,L,V,Y,Q⟩:=d;refine⟨U,L,V,U,D.uH h c _ _ _ _ Q⟩
 |map u x z=>obtain⟨A,b,B,C,o,F,p,k,q⟩:=d;refine⟨y,b,U,U,o,U,p,k,λi e l E r=>?_⟩;obtain⟨s,t,v⟩:=q i e l E r;exact⟨P.lQ (eI.pure h c) _ _ s,D.mI h c _ _ t,v⟩
 |oe u G mg ab ac ad=>obtain⟨A,b,B,C,H,R,F,k⟩:=d;have ag:=c.gen G;refine⟨y,b,U,U,y,R,U,λl=>?_⟩;rw[c.loc G y];grind
 |iq u f=>obtain⟨x,z,H,A,b,B,C,o,F,p,k,q⟩:=d;refine⟨x,z,H,y,b,U,U,o,U,p,k,λi e l E r=>?_⟩;obtain⟨s,t,v⟩:=q i e l E r;exact⟨P.lQ (eI.pure h c) _ _ s,D.mI h c _ _ t,v⟩
def cC.new(a:cC)(id:Nat)(b:Option Nat):cC:={loc:=am a.loc id b,gen:=am a.gen id (a.gen id+1),own:=λx=>a.own x\/J x=b}
def dt(c:Nat->be)(a:Nat)(b:be):am c a b a=b:=by simp[am]
def eP(b:Nat->be){c a:Nat}(d:be)(e:a≠c):am b c d a=b a:=by simp[am,e]
theorem EV{N:Nat->Prop}{H a:Hp}{c:cC}{O:ah}(id:Nat)(b:Option Nat)(k:fg)(hn:∀x,b=J x->H x=ae)(hH:∀x ob,H x=J ob->a x=J ob)(d:N id)(f:Sm H a):
 eI N H c O a (c.new id b) (am O id (J k)) where
 sm:=f
 aL x ob h _:=U
 md x h:=by obtain⟨i,h1,h2⟩:=h;by_cases e:i=id;subst e;simp[cC.new,dt]at h2;exact U;rw[eP _ _ e]at h1;simp[cC.new,eP _ _ e]at h2;exact .inl aj
 own x h:=by rcases h with h|h;exact U;exact U
 gen i:=by by_cases e:i=id;subst e;simp[cC.new,dt];simp[cC.new,eP _ _ e]
 loc i h:=by by_cases e:i=id;subst e;simp[cC.new,dt]at h;simp[cC.new,eP _ _ e]
 size x L V ag h:=U
 Co x h:=by cases g:H x with|none=>exact aj|some ob=>exact U
 fr i hl _:=by simp[cC.new,eP _ _ (show i≠id from λe=>hl (e▸d))]
 nw i hl ho:=by rw[eP _ _ ak];exact ho
 A9 x h _ _:=aj
theorem Kx{H d:Hp}{c:cC}{O:ah}(hv:iA H c O)(id:Nat)(b:Option Nat)(k:fg)(hn:∀x,b=J x->H x=ae/\d x≠ae)(hH:∀x ob,H x=J ob->d x=J ob)(l:Sm H d)(m:k.rd d (c.new id b) id):iA d (c.new id b) (am O id (J k)) where
 gu i E hq:=by by_cases e:i=id;subst e;rw[dt]at hq;grind;rw[eP _ _ e]at hq;have h:=hv.gu i E hq;refine fg.yt (λx f=>hv.gC f) (EV (N:=λ_=>True) id b k U hH Y l) h (by simp[cC.new,eP _ _ e]) (λx f=>?_) (λx f=>?_);exact .inl (hv.gC ⟨i,by simp[hq],f⟩);have n:c.own x:=hv.gC ⟨i,by simp[hq],f⟩;cases g:H x with|none=>exact absurd g (hv.there x ar)|some ob=>exact U
 apart i j x hi hj h1 h2:=by by_cases e:i=id;by_cases a:j=id;omega;subst e;simp only[cC.new,dt]at h1;simp only[cC.new,eP _ _ a]at h2;rw[eP _ _ a]at hj;exact absurd U (hv.there x (hv.gC aj));by_cases a:j=id;subst a;simp only[cC.new,dt]at h2;simp only[cC.new,eP _ _ e]at h1;rw[eP _ _ e]at hi;exact absurd U (hv.there x (hv.gC aj));rw[eP _ _ e]at hi;rw[eP _ _ a]at hj;simp only[cC.new,eP _ _ e]at h1;simp only[cC.new,eP _ _ a]at h2;exact hv.apart i j x hi hj h1 h2
 there x h:=by
  rcases h with h|h;cases g:H x with|none=>exact absurd g (hv.there x h)|some ob=>exact U
  exact U
theorem Ki{N:Nat->Prop}{H d:Hp}{c:cC}{O:ah}(id b:Nat)(k j:fg)(f g:Array Value)(T:dL)(hO:O id=J k)(hl:c.loc id=J b)(hb:H b=J (.cells f T (0,0)))(m:d b=J (.cells g T (0,0)))(hs:g.size=f.size)(hH:∀x,x≠b->d x=H x)(l:Sm H d):
 eI N H c O d c (am O id (J j)) where
 sm:=l
 aL x ob h hm:=by have:x≠b:=λe=>hm ⟨id,by simp[hO],U⟩;exact U
 md x h:=by
  obtain⟨i,h1,h2⟩:=h;refine .inl ⟨i,?_,h2⟩;by_cases e:i=id;exact U
  rwa [eP _ _ e]at h1
 own x h:=U
 gen i:=y
 loc i _:=rfl
 size x a C ag h:=by grind
 Co x h:=by grind
 fr i _ _:=rfl
 nw i _ ho:=by by_cases e:i=id;grind;rw[eP _ _ e];exact ho
 A9 x h _ _:=h
theorem Om{H a:Hp}{c:cC}{O:ah}(hv:iA H c O)(id b:Nat)(k g:fg)(l m:Array Value)(T:dL)(hO:O id=J k)(hl:c.loc id=J b)(hb:H b=J (.cells l T (0,0)))(n:a b=J (.cells m T (0,0)))(hs:m.size=l.size)(hH:∀x,x≠b->a x=H x)(o:Sm H a)(p:g.rd a c id):iA a c (am O id (J g)) where
 gu i E hq:=by by_cases e:i=id;subst e;rw[dt]at hq;grind;rw[eP _ _ e]at hq;refine fg.yt (λx d=>hv.gC d) (Ki (N:=λ_=>True) id b k g l m T hO hl hb n hs hH o) (hv.gu i E hq) rfl (λx d=>hv.gC ⟨i,by simp[hq],d⟩) (λx d=>?_);refine hH x λex=>e ?_;subst ex;exact hv.apart i id x (by simp[hq]) (by simp[hO]) d hl
 apart i j x hi hj h1 h2:=by
  have f:∀i,(am O id (J g) i).isSome=aa->(O i).isSome=aa:=by
   intro i h;by_cases e:i=id;exact U
   rwa [eP _ _ e]at h
  exact hv.apart i j x U U h1 h2
 there x h:=by by_cases e:x=b;exact U;rw[hH x e];exact hv.there x h
theorem Rf{N:Nat->Prop}{H a:Hp}{c:cC}{O:ah}(id:Nat)(b:Option Nat)(k f:fg)(hO:O id=J k)(hn:∀x,b=J x->H x=ae\/(c.loc id=J x/\c.own x))(hH:∀x ob,H x=J ob->c.loc id≠J x->a x=J ob)(l:∀x,c.loc id=J x->∀L V ag,H x=J (.cells L V ag)->∃d g,a x=J (.cells d V g)/\d.size=L.size)(hd:∀x,c.loc id=J x->H x≠ae->a x≠ae)(j:Sm H a):
 eI N H c O a (c.new id b) (am O id (J f)) where
 sm:=j
 aL x ob h hm:=hH x ob h λe=>hm ⟨id,by simp[hO],e⟩
 md x h:=by
  obtain⟨i,h1,h2⟩:=h;by_cases e:i=id;subst e;simp only[cC.new,dt]at h2;rcases hn x h2 with h3|h3
  exact U;exact .inl ⟨i,by simp[hO],U⟩;rw[eP _ _ e]at h1;simp only[cC.new,eP _ _ e]at h2;exact .inl aj
 own x h:=by rcases h with h|h;exact U;grind
 gen i:=by by_cases e:i=id;subst e;simp[cC.new,dt];simp[cC.new,eP _ _ e]
 loc i h:=by by_cases e:i=id;subst e;simp[cC.new,dt]at h;simp[cC.new,eP _ _ e]
 size x L V ag h:=by grind
 Co x h:=by by_cases e:c.loc id=J x;exact U;cases m:H x with|none=>exact aj|some ob=>exact U
 fr i _ ho:=by by_cases e:i=id;grind;simp[cC.new,eP _ _ e]
 nw i _ ho:=by by_cases e:i=id;grind;rw[eP _ _ e];exact ho
 A9 x h _ _:=aj
theorem acN{H d:Hp}{c:cC}{O:ah}(hv:iA H c O)(id:Nat)(b:Option Nat)(k l:fg)(hO:O id=J k)(hn:∀x,b=J x->(H x=ae\/(c.loc id=J x/\c.own x))/\d x≠ae)(hH:∀x ob,H x=J ob->c.loc id≠J x->d x=J ob)(n:∀x,c.loc id=J x->∀L V ag,H x=J (.cells L V ag)->∃m o,d x=J (.cells m V o)/\m.size=L.size)(hd:∀x,c.loc id=J x->H x≠ae->d x≠ae)(p:Sm H d)(q:l.rd d (c.new id b) id):iA d (c.new id b) (am O id (J l)) where
 gu i E hq:=by by_cases e:i=id;subst e;rw[dt]at hq;grind;rw[eP _ _ e]at hq;have h:=hv.gu i E hq;refine fg.yt (λx f=>hv.gC f) (Rf (N:=λ_=>True) id b k l hO U hH n hd p) h (by simp[cC.new,eP _ _ e]) (λx f=>?_) (λx f=>?_);exact .inl (hv.gC ⟨i,by simp[hq],f⟩);have r:c.own x:=hv.gC ⟨i,by simp[hq],f⟩;cases g:H x with|none=>exact absurd g (hv.there x ar)|some ob=>exact hH x ob g λh2=>e (hv.apart i id x (by simp[hq]) (by simp[hO]) f h2)
 apart i j x hi hj h1 h2:=by
  have key:∀j,j≠id->(O j).isSome=aa->c.loc j=J x->b=J x->False:=by
   intro j a hj h2 h1;rcases(hn x h1).1 with h3|h3
   exact absurd h3 (hv.there x (hv.gC aj));exact a (hv.apart j id x hj (by simp[hO]) h2 U)
  by_cases e:i=id;by_cases a:j=id;omega;subst e;simp only[cC.new,dt]at h1;simp only[cC.new,eP _ _ a]at h2;rw[eP _ _ a]at hj;exact aj;by_cases a:j=id;subst a;simp only[cC.new,dt]at h2;simp only[cC.new,eP _ _ e]at h1;rw[eP _ _ e]at hi;exact aj;rw[eP _ _ e]at hi;rw[eP _ _ a]at hj;simp only[cC.new,eP _ _ e]at h1;simp only[cC.new,eP _ _ a]at h2;exact hv.apart i j x hi hj h1 h2
 there x h:=by
  rcases h with h|h;by_cases e:c.loc id=J x;exact hd x e (hv.there x h);cases g:H x with|none=>exact absurd g (hv.there x h)|some ob=>exact U
  exact U
def MC:Value->P|.agg M=>if M.all (·.oneCell') then .agg (M.toList.map .v) else .v (.agg M)|v=>.v v
def cO:cS->Option dh|.tmp C=>J (.t C)|.const v=>J (.c (MC v))|.func f=>J (.c (.fn (.func f) [] []))|.global _=>ae
def wg:List cS->Option (List dh)|[]=>J []|x::a=>match cO x,wg a with|some b,J c=>J (b::c)|_,_=>ae
def nZ:Option cS->Option (Option dh)|none=>J ae|some x=>(cO x).map J
def Ef(a:Program)(b:dL):Option Bool:=match a.underlying b with|some (.struct _)|some (.array ..)=>J aa|some _=>J Z|none=>ae
def lh(a:Program)(b:dL):Option Nat:=(a.info? b).map (·.size)
def sB(a:Program)(b:dL):Option (List P):=
 match a.info? b with
 |some i=>match i.zero with|some R=>if R.cells.size=i.size/\R.cells.all (·.oneCell')=aa then J (R.cells.toList.map .v) else ae|none=>ae
 |none=>ae
def EH(a:Program)(b:Array jV):List (Nat×cS)->Option (List (Nat×Nat×dh))
 |[]=>J []
 |(i,x)::c=>match b[i]?,cO x,EH a b c with
  |some f,J d,J e=>match lh a f.type with|some n=>if n=0 then ae else J ((f.offset,n,d)::e)|none=>ae
  |_,_,_=>ae
def ER:List (Nat×cS)->Option (List (Nat×dh))|[]=>J []|(i,x)::a=>match cO x,ER a with|some b,J c=>J ((i,b)::c)|_,_=>ae
def KT(a:Program)(b:dL):Option SK:=match a.underlying b with|some .bool=>J .b|some (.int _)=>J .i|some .string=>J .s|_=>ae
def xn(a:Program):List jV->Nat->Option (List SK)
 |[],_=>J []
 |f::b,off=>
  if f.offset=off/\f.name≠ "_"/\a.plainKey f.type=aa then match KT a f.type,xn a b (off+1) with|some g,J c=>J (g::c)|_,_=>ae
  else ae
def aet(a:Program)(b c:dL)(d:Nat):Bool:=match a.underlying b with|some (.slice e)=>au e c|some .string=>au d 1|_=>Z
theorem ahq{a:Program}{b:dL}{d:Nat}(c:aet a b e d=aa):a.underlying b=J (.slice e)\/a.underlying b=J .string:=by unfold aet at c;split at c;rename_i f g;rw[<-aK c];exact U;exact U;grind
def arZ:Option dh->Option dh->Option dh->Bool|some (.t _),J (.t _),ae=>aa|_,_,_=>Z
def Xu(c:Program)(nm:Nat)(s:Oper):Option fG:=
 match s.op with
 |.move x|.assign x=>(cO x).map .mv|.pick k a b=>match cO k,cO a,cO b with|some k,J a,J b=>J (.pick k a b)|_,_,_=>ae
 |.alloc e=>match sB c e with|some R=>J (.alloc nm R.length R)|none=>ae
 |.box e x=>match lh c e,cO x with|some n,J a=>if n=0 then ae else J (.box nm n a)|_,_=>ae
 |.build C aB=>match c.underlying C,sB c C with
  |some (.struct aS),J R=>match EH c aS aB.toList with|some m=>if aS.all (λf=>(lh c f.type).isSome) then J (.build R m) else ae|none=>ae
  |_,_=>ae
 |.buildSlice C o aB=>match c.underlying C with
  |some (.slice e)=>match sB c e,ER aB.toList with|some R,J m=>if o*R.length<=2^24/\0<R.length/\o<=2^24 then J (.bQ nm R.length o R m) else ae|_,_=>ae
  |_=>ae
 |.load C x=>match lh c C,Ef c C,cO x with|some n,J u,J a=>J (.load n u a Z)|_,_,_=>ae
 |.store C x v=>match lh c C,cO x,cO v with|some n,J a,J b=>if n=0 then ae else J (.store n a b)|_,_,_=>ae
 |.nilCheck x=>(cO x).map .lY
 |.binOp d C x l _=>match c.underlying C,cO x,cO l with
  |some .bool,J a,J b=>J (.lS d 1 a b)|some (.int _),J a,J b=>J (.lS d 0 a b)|some .string,J a,J b=>J (.lS d 0 a b)
  |some (.struct t),J a,J b=>match xn c t.toList 0 with
   |some q=>if c.stoodInHeld C=Z/\c.eqGuardType c.depth C=Z then match d with|.eql=>J (.pf (.eq Z q) [a,b])|.neq=>J (.pf (.eq aa q) [a,b])|_=>ae else ae
   |none=>ae
  |some (.slice _),J a,J b=>match d,l with|.eql,.const (.slice ae _ _)=>J (.lP Z a b)|.neq,.const (.slice ae _ _)=>J (.lP aa a b)|_,_=>ae
  |some (.pointer _),J a,J b=>match d,l with|.eql,.const (.pointer ae)=>J (.lP Z a b)|.neq,.const (.pointer ae)=>J (.lP aa a b)|_,_=>ae
  |_,_,_=>ae
 |.unOp d _ x=>(cO x).map (.un d)
 |.convert w y x=>match c.underlying w,c.underlying y,cO x with
  |some (.int _),J (.int g),J a=>J (.zf g a)|some (.int _),J .string,J a=>J (.yS a)|some .string,J .string,J a=>J (.yS a)|some .string,J (.slice e),J a=>match c.underlying e with|some (.int .u8)=>J (.KX a)|_=>ae
  |some (.slice e),J .string,J a=>match c.underlying e with|some (.int .u8)=>J (.EN a)|_=>ae
  |_,_,_=>ae
 |.makeFunc f first z=>match wg first.toList,wg z.toList with|some a,J b=>J (.Ho f a b)|_,_=>ae
 |.makeSlice C h g=>match c.underlying C with
  |some (.slice e)=>match sB c e,c.info? e,cO h,cO g with|some R,J i,J a,J b=>J (.Hx nm R.length i.bytes R a b)|_,_,_,_=>ae
  |_=>ae
 |.slice C x A B D=>match c.underlying C,cO x,nZ A,nZ B,nZ D with|some .string,J a,J h,J j,J ae=>J (.Il a h j)|some (.slice e),J a,J h,J j,J p=>if(p.isSome&&j.isNone)||arZ h j p then ae else(lh c e).map λn=>.tZ n a h j p|_,_,_,_,_=>ae
 |.fieldAddr C x f=>match c.underlying C,cO x with
  |some (.struct aS),J a=>match aS[f]? with
   |some E=>match lh c E.type with|some n=>if n=0 then ae else J (.fa a E.offset)|none=>ae
   |none=>ae
  |_,_=>ae
 |.field C x f=>match c.underlying C,cO x with
  |some (.struct aS),J a=>match aS[f]? with
   |some E=>match lh c E.type,Ef c E.type with|some n,J u=>J (.yK a E.offset n u)|_,_=>ae
   |none=>ae
  |_,_=>ae
 |.indexAddr C x i=>match c.underlying C,cO x,cO i with|some (.slice e),J a,J b=>(lh c e).map λn=>.ti n a b|_,_,_=>ae
 |.index C x i=>match c.underlying C,cO x,cO i with|some .string,J a,J b=>J (.IL a b)|_,_,_=>ae
 |.extract x i=>(cO x).map (.ext · i)
 |.call g=>
  match g.callee with
  |.builtin .len=>match g.args.toList,g.argTypes.toList with
   |[x],[C]=>match c.underlying C,cO x with|some .string,J a=>J (.len aa a)|some (.slice _),J a=>J (.len Z a)|_,_=>ae
   |_,_=>ae
  |.builtin .append=>match g.args.toList,g.argTypes.toList with
   |[x,l],[C,r]=>match c.underlying C,cO x,cO l with
    |some (.slice e),J a,J b=>match sB c e,c.info? e with
     |some R,J i=>if aet c r e R.length=aa/\0<R.length then J (.j4 nm R.length i.bytes a b)
      else match c.underlying r with|some (.int _)=>if 0<R.length then J (.Ed nm R.length i.bytes R a b) else ae|_=>ae
     |_,_=>ae
    |_,_,_=>ae
   |_,_=>ae
  |.builtin .cap=>match g.args.toList,g.argTypes.toList with
   |[x],[C]=>match c.underlying C,cO x with|some (.slice _),J a=>J (.Fx a)|_,_=>ae
   |_,_=>ae
  |.builtin .clear=>match g.args.toList,g.argTypes.toList with
   |[x],[C]=>match c.underlying C,cO x with
    |some (.slice e),J a=>match sB c e with|some R=>if 0<R.length then J (.GF R.length R a) else ae|none=>ae
    |_,_=>ae
   |_,_=>ae
  |.builtin .max=>match g.args.toList with
   |[x,l]=>match cO x,cO l with|some a,J b=>J (.pf .mx [a,b])|_,_=>ae
   |_=>ae
  |.builtin .min=>match g.args.toList with
   |[x,l]=>match cO x,cO l with|some a,J b=>J (.pf .mn [a,b])|_,_=>ae
   |_=>ae
  |.value (.func f)=>(wg g.args.toList).map (.call f)|.value x=>match cO x,wg g.args.toList with|some a,J F=>J (.iI a F)|_,_=>ae
  |_=>ae
 |_=>ae
def EC(a:Program)(b:dL):Option KK:=
 match KT a b with
 |some g=>J (.aM g)
 |none=>match a.underlying b with
  |some (.struct c)=>match xn a c.toList 0 with|some d=>if a.stoodInHeld b=Z then J (.st d) else ae|none=>ae
  |_=>ae
def Mz(a:Program)(b:dL):Option D:=match a.info? b with|some i=>i.zero.map λR=>.p (MC R)|none=>ae
def Xs(c:Program)(nm:Nat)(k:Oper):Option fG:=match k.op with
 |.makeMap C ae=>match c.underlying C with|some (.map _ e)=>(Mz c e).map λR=>.Av nm R|_=>ae
 |.lookup C x g m=>match c.underlying C,cO x,cO g with
  |some (.map h e),J a,J b=>match EC c h,Mz c e with|some f,J R=>J (.sQ f R m a b)|_,_=>ae
  |_,_,_=>ae
 |.mapUpdate C j g v=>match c.underlying C,cO j,cO g,cO v with|some (.map h _),J a,J b,J d=>(EC c h).map λf=>.qx f a b d|_,_,_,_=>ae
 |.insert C j g v=>match c.underlying C,cO j,cO g,cO v with
  |some (.map h _),J a,J b,J d=>(EC c h).map λf=>match f with|.aM .s=>.oY a b d|f=>.qx f a b d
  |_,_,_,_=>ae
 |.range C x=>match c.underlying C,cO x with|some (.map _ _),J a=>J (.m .range nm [a])|_,_=>ae
 |.next i Z=>(cO i).map λa=>.m .next nm [a]|.entry i=>(cO i).map λa=>.m .Ew nm [a]|.slice C x o p q=>match c.underlying C,cO x,nZ o,nZ p,nZ q with|some (.slice e),J a,J (J r),J (J s),J ae=>(lh c e).map λn=>.m (.Zb n) nm [a,r,s]|_,_,_,_,_=>ae
 |.call g=>match g.callee with
  |.builtin .len=>match g.args.toList,g.argTypes.toList with
   |[x],[C]=>match c.underlying C,cO x with|some (.map _ _),J a=>J (.m .len nm [a])|_,_=>ae
   |_,_=>ae
  |.builtin .delete=>match g.args.toList,g.argTypes.toList with
   |[x,l],[C,_]=>match c.underlying C,cO x,cO l with|some (.map h _),J a,J b=>(EC c h).map λf=>.m (.Ug f) nm [a,b]|_,_,_=>ae
   |_,_=>ae
  |_=>ae
 |_=>ae
def cop(a:Program)(nm:Nat)(b:Oper):Option fG:=J (((Xu a nm b).orElse λ_=>Xs a nm b).getD .qm)
section
variable {a:Hp}{own:Nat->Prop}{c:cC}
theorem P.dE(c:Nat->Option Value):∀(b:List P) (i:Nat),P.iR a own c i b↔∀g K,b[g]? =J K->∃v,c (i+g)=J v/\v.oneCell'=aa/\P.rd a own K v|[],i=>by simp[P.iR]|K::b,i=>by rw[P.iR,P.dE c b (i+1)];constructor;grind;intro d;refine⟨by simpa using d 0 K Y,λg E e=>?_⟩;have:=d (g+1) E (by simpa using e);grind
theorem P.ld(c:Nat->Option Value):∀(b:List P) (i:Nat),P.mN a own c i b↔∀g K,b[g]? =J K->∃v,c (i+g)=J v/\P.rd a own K v|[],i=>by simp[P.mN]|K::b,i=>by rw[P.mN,P.ld c b (i+1)];constructor;grind;intro d;refine⟨by simpa using d 0 K Y,λg E e=>?_⟩;have:=d (g+1) E (by simpa using e);grind
theorem P.gd(c:Nat->Option Value)(b:Nat):∀(e:List (List P)) (i:Nat),P.jl a own c i b e↔∀g d,e[g]? =J d->d.length=b/\P.iR a own c (i+g*b) d
 |[],i=>by simp[P.jl]
 |K::j,i=>by
  rw[P.jl,P.gd c b j (i+b)];constructor;rintro⟨k,l,m⟩ g E f;cases g with|zero=>grind|succ g=>grind
  intro h;have k:=h 0 K Y;refine⟨y,ak,λg E f=>?_⟩;have:=h (g+1) E (by simpa using f);grind
theorem D.dE(d:Nat->Option Value):∀(b:List D) (i:Nat),D.iR a c d i b↔∀g K,b[g]? =J K->∃v,d (i+g)=J v/\v.oneCell'=aa/\D.rd a c K v|[],i=>by simp[D.iR]|f::b,i=>by rw[D.iR,D.dE d b (i+1)];constructor;grind;intro e;refine⟨by simpa using e 0 f Y,λg E h=>?_⟩;have:=e (g+1) E (by simpa using h);grind
theorem D.ld(d:Nat->Option Value):∀(b:List D) (i:Nat),D.mN a c d i b↔∀g K,b[g]? =J K->∃v,d (i+g)=J v/\D.rd a c K v|[],i=>by simp[D.mN]|f::b,i=>by rw[D.mN,D.ld d b (i+1)];constructor;grind;intro e;refine⟨by simpa using e 0 f Y,λg E h=>?_⟩;have:=e (g+1) E (by simpa using h);grind
theorem D.gd(d:Nat->Option Value)(b:Nat):∀(f:List (List D)) (i:Nat),D.jl a c d i b f↔∀g e,f[g]? =J e->e.length=b/\D.iR a c d (i+g*b) e
 |[],i=>by simp[D.jl]
 |k::l,i=>by
  rw[D.jl,D.gd d b l (i+b)];constructor;rintro⟨m,n,o⟩ g E h;cases g with|zero=>grind|succ g=>grind
  intro j;have m:=j 0 k Y;refine⟨y,ak,λg E h=>?_⟩;have:=j (g+1) E (by simpa using h);grind
theorem D.JW(e:Nat->Option Value)(f:Nat)(h:List P):D.iR a c e f (h.map .p)↔P.iR a c.own e f h:=by rw[D.dE,P.dE];constructor;intro i g K b;have:=i g (.p K) (by simp[b]);exact ar;intro i g d b;simp[dN,bj]at b;obtain⟨K,W,rfl⟩:=b;exact aj
def D.afg(f:Nat->Option Value)(h i:Nat)(j:List (List P)):D.jl a c f h i (j.map (·.map .p))↔P.jl a c.own f h i j:=by rw[D.gd,P.gd];constructor;intro e g K b;have:=e g (K.map .p) (by simp[b]);simpa[D.JW]using this;intro e g d b;simp[dN,bj]at b;obtain⟨K,W,rfl⟩:=b;simpa[D.JW]using e g K W
def Aj:∀(aP:List D) (b:List P),dv aP=J b->aP=b.map .p
 |[],b,a=>by simp[dv]at a;exact U
 |d::aP,b,a=>by
  cases d with
  |p x=>simp[dv,bj]at a;obtain⟨c,e,rfl⟩:=a;simp[Aj aP c e]
  |_=>simp[dv]at a
def nV:∀(a:List P),dv (a.map .p)=J a|[]=>rfl|K::a=>by simp[dv,nV a]
def D.OE(b:D.rd a c (.agg aP) v):D.rd a c (cF aP) v:=by unfold cF;cases W:dv aP with|none=>exact b|some d=>have:=Aj aP d W;subst this;obtain⟨Q,e,g,f⟩:=b;exact⟨Q,e,U,(D.JW _ _ _).1 f⟩
theorem P.zz{c:P}(b:P.rd a own c v)(h:c.cells≠[]):v.cells.size=c.cells.length/\P.iR a own (λi=>v.cells[i]?) 0 c.cells:=by
 cases c with
 |agg M=>obtain⟨Q,rfl,m,o⟩:=b;exact aj
 |v x=>
  obtain rfl:=b;have j:v.oneCell'=aa:=AJ λe=>h (by simp[P.cells,e]);have k:v.cells= #[v]:=by cases v<;>simp_all [aJ,ny]
  simp[P.cells,j,k,P.iR,P.rd]
 |im p q r=>have d:=b;obtain⟨l,n,g,rfl,_⟩:=b;refine⟨aj,?_⟩;simpa[P.cells,P.iR,ny,aJ]using d
 |ip M=>have d:=b;obtain⟨l,L,V,ag,rfl,_⟩:=b;refine⟨aj,?_⟩;simpa[P.cells,P.iR,ny,aJ]using d
 |fn f s M=>have d:=b;obtain⟨t,u,rfl,_⟩:=b;refine⟨aj,?_⟩;simpa[P.cells,P.iR,ny,aJ]using d
theorem DW(a:v.oneCell'=aa):v.cells= #[v]:=by cases v<;>simp_all [aJ,ny]
theorem D.zz{l:D}{h:Value}(d:D.rd a c l h)(m:l.cells≠[]):h.cells.size=l.cells.length/\D.iR a c (λi=>h.cells[i]?) 0 l.cells:=by
 cases l with
 |p x=>have k:x.cells≠[]:=λe=>m (by simp[D.cells,e]);have:=P.zz d k;exact⟨by simpa[D.cells]using this.1,by simpa[D.cells,D.JW]using this.2⟩|agg M=>obtain⟨Q,rfl,k,s⟩:=d;exact aj
 |eQ _=>exact aj|any=>exact aj
 |ptr id u n i j=>
  have k:h.oneCell'=aa:=by obtain⟨⟨o,rfl,_⟩,_⟩:=d;rfl
  have b:=DW k;refine⟨by simp[D.cells,b],?_⟩;simp only[D.cells,b,D.iR];exact U
 |sl id u off t n v=>
  have k:h.oneCell'=aa:=by obtain⟨⟨o,g,rfl,_⟩,_⟩:=d;rfl
  have b:=DW k;refine⟨by simp[D.cells,b],?_⟩;simp only[D.cells,b,D.iR];exact U
 |mp id u=>have b:=DW d.1;refine⟨by simp[D.cells,b],?_⟩;simp only[D.cells,b,D.iR];exact⟨⟨h,Y,d.1,d⟩,Y⟩|fn f w M=>have y:=d;obtain⟨q,r,rfl,_⟩:=d;have b:(Value.func f q r).oneCell'=aa:=rfl;refine⟨aj,?_⟩;simp only[D.cells,DW b,D.iR];exact U
end
def As(b:Program)(c:FuncId):Prop:=∃a,b.funcs[c]? =J a/\(a.name== "runtime.NumGoroutine")=Z/\a.body.isNone=Z
def Fr(a:ah)(b:Nat):Prop:=∀id,b<=id->a id=ae
def X(k:Program):cR:=λf l c g m=>
 As k f/\∀(a:World) (h:cC) (Q:Array Value),iA (W a) h c->Fr c g->Q.size=l.length->D.mN (W a) h (λi=>Q[i]?) 0 l->
  Calls k f Q a λe w'=>∃v j d b aR,e=.returned v/\m d b aR/\D.rd (W w') j d v/\iA (W w') j b/\eI (λid=>g<=id) (W a) h c (W w') j b/\Fr b aR/\g<=aR
def OW(i:Program)(j:Nat->Prop)(c:Nat)(e:Oper)(f:Act)(g:World)(k:cC)(h:ah)(l:D->ah->Nat->Prop):Prop:=
 ∀(next:Act->World->Prop) (m:Exit->Act->World->Prop),
  (∀v w' b d a aR,l d a aR->D.rd (W w') b d v->iA (W w') b a->eI j (W g) k h (W w') b a->c<=aR->(Fr h c->Fr a aR)->next (f.put e.dst v) w')->e.wp i f g next m
section
variable {h:Program}{q:Nat->Prop}{k:Oper}{a:Act}{w:World}{c:cC}{s:St}{m:D->ah->Nat->Prop}
def OW.value{e:cC}{b:ah}(f:(aG a.eval k).run h w=.ok (.value v) w')(g:m d b aR)(i:D.rd (W w') e d v)(j:iA (W w') e b)(l:eI q (W w) c s.O (W w') e b)(n:s.nx<=aR)(o:Fr s.O s.nx->Fr b aR):OW h q s.nx k a w c s.O m:=by
 intro next r p
 unfold Bo;rw[f];exact p v w' e d b aR g i j l n o
def OW.skip{e:cC}{b:ah}(f:(aG a.eval k).run h w=.ok .skip w')(g:m d b aR)(i:D.rd (W w') e d undef)(j:iA (W w') e b)(l:eI q (W w) c s.O (W w') e b)(n:s.nx<=aR)(o:Fr s.O s.nx->Fr b aR):OW h q s.nx k a w c s.O m:=by
 intro next r p
 unfold Bo;rw[f];exact p undef w' e d b aR g i j l n o
def OW.ce(b:iA (W w) c s.O)(e:(aG a.eval k).run h w=.ok (.value v) w)(f:m d s.O s.nx)(g:D.rd (W w) c d v):OW h q s.nx k a w c s.O m:=OW.value e f g b (eI.refl _ _ _ _) y U
variable (o:iA (W w) c s.O)(p:∀C,D.rd (W w) c (s.T C) (a.tmps.getD C undef))
include p
theorem PB{c:Hp}{own:Nat->Prop}(a:Value):P.rd c own (MC a) a:=by
 cases a with
 |agg M=>
  simp only[MC];split;rename_i e;refine⟨M,rfl,Y,(P.dE _ _ _).2 λg K b=>?_⟩;simp[dN,bj]at b;obtain⟨r,d,rfl⟩:=b;have f:=by simpa using d
  refine⟨r,U,?_,rfl⟩;grind;rfl
 |_=>rfl
theorem eR(b:cO x=J l):D.rd (W w) c (s.ev l) (a.eval x):=by cases x with|tmp C=>simp[cO,du]at b;subst b;exact aj|const v=>simp[cO,du]at b;subst b;exact PB p v|func f=>simp[cO,du]at b;subst b;exact⟨#[],#[],rfl,rfl,rfl,aj,aj⟩|global u=>cases b
include o
theorem afu(b:cO x=J l)(d:k.op=.move x\/k.op=.assign x)(f:aN (X h) (.mv l) s m):OW h q s.nx k a w c s.O m:=by refine OW.ce o ?_ f (eR p b);rcases d with e|e<;>simp[aG,e]
theorem ahb{d f:cS}{g:dh}(n:cO x=J A)(r:cO d=J F)(t:cO f=J g)(i:k.op=.pick x d f)(b:aN (X h) (.pick A F g) s m):OW h q s.nx k a w c s.O m:=by
 have j:=eR p n;simp[aN]at b;split at b;rename_i C e;rw[e]at j;have l:a.eval x=.bool C:=j;cases C with|true=>refine OW.ce o ?_ b (eR p r);simp[aG,i,l,asBool]|false=>refine OW.ce o ?_ b (eR p t);simp[aG,i,l,asBool]
 exact aj
theorem akn(j:cO x=J l)(n:k.op=.extract x i)(b:aN (X h) (.ext l i) s m):OW h q s.nx k a w c s.O m:=by have f:=eR p j;simp only[aN]at b;split at b;rename_i aP e;rw[e]at f;obtain⟨Q,r,z,t⟩:=f;split at b;rename_i d u;obtain⟨v,g,y⟩:=(D.ld _ _ _).1 t i d u;simp only[bf]at g;refine OW.ce o ?_ b y;simp[aG,n,r,Instr.extract,g];exact aj;exact aj
theorem Tn:∀{e:List cS} {b:List dh},wg e=J b->b.length=e.length/\∀(g:Nat) (l:dh),b[g]? =J l->∃x:cS,e[g]? =J x/\D.rd (W w) c (s.ev l) (a.eval x)
 |[],b,d=>by simp[wg]at d;exact U
 |x::e,b,d=>by
  simp[wg]at d;split at d;rename_i l k h i;cases d;obtain⟨j,m⟩:=Tn i;refine⟨by simp[j],λg R f=>?_⟩;cases g with|zero=>simp at f;subst f;exact⟨x,Y,eR p h⟩|succ g=>exact aj
  grind
theorem DO{b:Array cS}{e:List dh}(f:wg b.toList=J e):
 (b.map a.eval).size=(e.map s.ev).length/\D.mN (W w) c (λi=>(b.map a.eval)[i]?) 0 (e.map s.ev):=by obtain⟨h,j⟩:=Tn o p f;refine⟨U,(D.ld _ _ _).2 λg d k=>?_⟩;grind
theorem ajF{b:Fn}{d e:Array cS}{f g:List dh}(i:wg d.toList=J f)(j:wg e.toList=J g)(l:k.op=.makeFunc b d e)(n:aN (X h) (.Ho b f g) s m):OW h q s.nx k a w c s.O m:=by obtain⟨r,t⟩:=DO o p i;obtain⟨u,v⟩:=DO o p j;refine OW.ce o ?_ n ⟨_,_,rfl,r,u,t,v⟩;simp[aG,l,Instr.makeFunc]
theorem apn{j:UnOp}(r:cO x=J l)(n:k.op=.unOp j C x)(d:aN (X h) (.un j l) s m):OW h q s.nx k a w c s.O m:=by have f:=eR p r;simp[aN,unOp]at d;split at d;rename_i g t e;rw[e]at f;have i:a.eval x=.int g t:=f;refine OW.ce o ?_ d rfl;simp[aG,n,i,Ha,HH];rename_i b e;rw[e]at f;have i:a.eval x=.bool b:=f;refine OW.ce o ?_ d rfl;simp[aG,n,i,Ha];exact aj
theorem ahY{d f:dL}{g k0:cY}(j:cO x=J l)(n:k.op=.convert d f x)(r:h.underlying d=J (.int k0))(t:h.underlying f=J (.int g))(b:aN (X h) (.zf g l) s m):OW h q s.nx k a w c s.O m:=by have i:=eR p j;simp[aN]at b;split at b;rename_i u v e;rw[e]at i;have y:a.eval x=.int u v:=i;refine OW.ce o ?_ b rfl;simp[aG,n,y,convert,bv r,bv t,Conv.intToInt];exact aj
theorem WY{j r:dL}(v:cO x=J l)(t:k.op=.convert j r x)(d:h.underlying j=J .string\/∃g,h.underlying j=J (.int g))(u:h.underlying r=J .string)(f:aN (X h) (.yS l) s m):OW h q s.nx k a w c s.O m:=by
 have i:=eR p v;simp only[aN]at f;split at f;rename_i y z e;rw[e]at i;have n:a.eval x=.int y z:=i;refine OW.ce o ?_ f rfl;rcases d with d|⟨g,d⟩<;>simp[aG,t,n,convert,bv d,bv u,Conv.intToString]
 rename_i b e;rw[e]at i;have n:a.eval x=.string b:=i;refine OW.ce o ?_ f rfl;rcases d with d|⟨g,d⟩<;>simp[aG,t,n,convert,bv d,bv u]
 exact aj
end
section
variable {Pg:Program}{q:Nat->Prop}{k:Oper}{a:Act}{w:World}{o:cC}{c:St}{m:D->ah->Nat->Prop}
def Vp(a:iH)(b:dL)(c d:cS)(e f:cY)(g h:Int):(eqGuard a b c d (.int e g) (.int f h)).run Pg w=.ok () w:=by unfold eqGuard;simp
def U9(a:iH)(b:dL)(c d:cS)(e f:ByteArray):(eqGuard a b c d (.string e) (.string f)).run Pg w=.ok () w:=by unfold eqGuard;simp
def IT(a:iH)(b:dL)(c d:cS)(e f:Bool):(eqGuard a b c d (.bool e) (.bool f)).run Pg w=.ok () w:=by unfold eqGuard;simp
def II(b:iH)(i:dL)(c d:cY)(e f:Int)(g:P->Prop)(h:b=.shl\/b=.shr\/c=d)(a:aC b c e f g):
 ∃v,(fM b i (.int c e) (.int d f)).run Pg w=.ok v w/\g (.v v):=by
 cases b<;>simp only[aC]at a<;>simp only[reduceCtorEq,false_or]at h<;>(try subst h)
 case shl=>exact⟨_,by simp[fM,G3,ua.2 a.1],a.2⟩
 case shr=>exact⟨_,by simp[fM,G3,ua.2 a.1],a.2⟩
 case quo=>exact⟨_,by simp[fM,Jy,a.1],a.2⟩
 case rem=>exact⟨_,by simp[fM,Jy,a.1],a.2⟩
 case and=>exact⟨_,by simp[fM,xf],a⟩
 case or=>exact⟨_,by simp[fM,xf],a⟩
 case xor=>exact⟨_,by simp[fM,xf],a⟩
 case andNot=>exact⟨_,by simp[fM,xf],a⟩
 all_goals exact⟨_,by simp[fM,HH,Op.intCmp],a⟩
def aaw(b:iH)(f:dL)(c d:ByteArray)(e:P->Prop)(a:gD b c d e):
 ∃v,(fM b f (.string c) (.string d)).run Pg w=.ok v w/\e (.v v):=by
 cases b<;>simp[gD]at a
 case add=>
  refine⟨_,?_,a.2⟩;have:¬(((c.size+d.size:Nat):Int)>IntKind.i64.max):=by have:=a.1;simp;omega
  simp only[fM,HG];rw[ap y];rfl
 all_goals first|exact a.elim|exact⟨_,by simp[fM,HG],a⟩
variable (h:iA (W w) o c.O)(p:∀C,D.rd (W w) o (c.T C) (a.tmps.getD C undef))
include h p
theorem UQ{s:iH}{D:dL}{z:Nat}{l:cS}(E:cO x=J A)(G:cO l=J F)(t:k.op=.binOp s C x l D)(H:z=1->Pg.underlying C=J .bool)(b:aN (X Pg) (.lS s z A F) c m):OW Pg q c.nx k a w o c.O m:=by
 have i:=eR p E;have j:=eR p G;simp only[aN,binOp]at b;split at b;rename_i g d r n e f;rw[e]at i;rw[f]at j;have e:a.eval x=.int g d:=i;have f:a.eval l=.int r n:=j;have I:∃v,(fM s C (.int g d) (.int r n)).run Pg w=.ok v w/\m (.p (.v v)) c.O c.nx:=by split at b;exact II _ C g r d n _ Y b;exact II _ C g r d n _ Y b;exact II _ C g r d n _ U b.2
 obtain⟨v,u,y⟩:=I;refine OW.ce h ?_ y rfl;simp[aG,t,e,f,Vp,u];rename_i d n e f;rw[e]at i;rw[f]at j;have e:a.eval x=.string d:=i;have f:a.eval l=.string n:=j;obtain⟨v,u,y⟩:=aaw (Pg:=Pg) (w:=w) s C d n _ b;refine OW.ce h ?_ y rfl;simp[aG,t,e,f,U9,u];rename_i d n e f;rw[e]at i;rw[f]at j;have e:a.eval x=.bool d:=i;have f:a.eval l=.bool n:=j;obtain⟨K,b⟩:=b;have B:(qk C (.bool d) (.bool n)).run Pg w=.ok (d==n) w:=by unfold qk Op.maxDepth Op.equalIn;simp[bv (H K)]
 split at b;refine OW.ce h ?_ b rfl;simp only[aG,t,e,f];simp[IT,fM,B];refine OW.ce h ?_ b rfl;simp only[aG,t,e,f];simp[IT,fM,B];exact aj;exact aj
theorem Zr{i:Call}{str:Bool}(t:i.callee=.builtin .len)(y:i.args.toList=[x])(z:i.argTypes.toList=[C])(s:match str with|true=>Pg.underlying C=J .string|false=>∃e,Pg.underlying C=J (.slice e))(A:cO x=J l)(B:k.op=.call i)(d:aN (X Pg) (.len str l) c m):OW Pg q c.nx k a w o c.O m:=by
 have f:=eR p A;have D:i.args= #[x]:=by rw[<-gq];simpa using y
 have E:i.argTypes= #[C]:=by rw[<-gq];simpa using z
 have j:∀v,(pI #[C] k.type #[a.eval x]).run Pg w=.ok v w->(aG a.eval k).run Pg w=.ok (.value v) w:=by intro v F;simp[aG,B,resolve,t,D,E,invoke,builtin,F]
 simp only[aN]at d;split at d;split at d;rename_i R e;rw[e]at f;have g:a.eval x=.string R:=f;refine OW.ce h (j (.int .i64 R.size) ?_) d rfl;simp[g,pI,bv s,uf];exact aj;obtain⟨M,r⟩:=s;split at d;rename_i e;rw[e]at f;have g:a.eval x=.slice ae 0 0:=f;refine OW.ce h (j (.int .i64 0) ?_) d rfl;simp[g,pI,bv r,uf];rename_i G n H e;rw[e]at f;obtain⟨b,n,I,g,K,_⟩:=f;refine OW.ce h (j (.int .i64 G.length) ?_) d rfl;simp[g,K,pI,bv r,uf];rename_i id u off L n H e;rw[e]at f;obtain⟨⟨b,I,g,_⟩,_⟩:=f;refine OW.ce h (j (.int .i64 L) ?_) d rfl;simp[g,pI,bv r,uf];exact aj
end
def tN(a b c:Nat):(⟨a,b,ae⟩:fB).add c=⟨a,b+c,ae⟩:=by unfold Addr.add;simp
def ku(a:fB)(b:a.spot=ae)(c:Nat):a.add c=⟨a.block,a.off+c,ae⟩:=by cases a;simp at b;subst b;exact tN _ _ _
def BR{a:World}{c:Nat}(d:a.heap[b]? =J (.cells L V ag)):a.cell? ⟨b,c,ae⟩=L[c]? :=by simp[World.cell?,d]
section
variable {a:Program}{t:Nat->Prop}{o:Oper}{k:Act}{c:World}{s:cC}{h:St}{q:D->ah->Nat->Prop}
theorem rT(b:Ef a C=J u):(isAgg C).run a c=.ok u c:=by unfold Ef at b;split at b;rename_i e;cases b;simp[isAgg,bv e];rename_i e;cases b;simp[isAgg,bv e];rename_i d f g e;cases b;simp only[isAgg,iN,bv e,lZ];simp;grind
def mQ(b:lh a C=J n):(sizeOf C).run a c=.ok n c:=by unfold lh at b;simp[bj]at b;obtain⟨i,d,rfl⟩:=b;simp[sizeOf,typeInfo,d]
def wE(g:lh a C=J n)(d:Ef a C=J u){o:Nat}(e:c.heap[b]? =J (.cells L V ag)):
 (u=aa->∀Q:List Value,Q.length=n->(∀(j:Nat) (v:Value),Q[j]? =J v->L[o+j]? =J v)->(my C ⟨b,o,ae⟩).run a c=.ok (.agg Q.toArray) c)/\
 (u=Z->∀v,L[o]? =J v->(my C ⟨b,o,ae⟩).run a c=.ok v c):=by
 constructor;rintro rfl Q h f;have:=OJ (P:=a) c ⟨b,o,ae⟩ Q λj v i=>by rw[tN,BR e];exact U
 rw[h]at this;simp[my,rT d,mQ g,this];rintro rfl v f;have:c.cell? ⟨b,o,ae⟩=J v:=by rw[BR e];exact f
 simp[my,rT d,this]
theorem ZG{f:Hp}{own:Nat->Prop}{d:List P}{b:P}(c:ft n u d=J b){a:Nat}(h:P.iR f own (λi=>L[i]?) a d):
 (u=aa/\∃Q:List Value,Q.length=n/\(∀(j:Nat) (v:Value),Q[j]? =J v->L[a+j]? =J v)/\P.rd f own b (.agg Q.toArray))\/
 (u=Z/\∃v,L[a]? =J v/\P.rd f own b v):=by
 rw[P.dE]at h;unfold ft at c;split at c;rename_i k;split at c;rename_i w;cases c;refine .inl ⟨k,?_⟩;have p:∀j,j<n->∃v,L[a+j]? =J v:=λj l=>by obtain⟨v,e,_⟩:=h j _ (bh (by omega:j<d.length));exact U
 have x:∀j,j<n->a+j<L.size:=ak;let Q:List Value:=(cZ n).map λj=>L.getD (a+j) undef
 have q:∀(j:Nat) (v:Value),Q[j]? =J v->L[a+j]? =J v:=by
  intro j v l;simp only[Q,dN,bj]at l;obtain⟨m,o,rfl⟩:=l;have r:j<n:=by have:=(bq.1 o).1;simpa using this
  have:m=j:=by have:=(bq.1 o).2;simpa using this.symm
  subst this;obtain⟨v,e⟩:=p m r;simp[e]
 refine⟨Q,by simp[Q],q,Q.toArray,rfl,by simp[Q];omega,(P.dE _ _ _).2 λg K y=>?_⟩;grind;grind;rename_i k;refine .inr ⟨by simpa using k,?_⟩;have s:d[0]? =J b:=by rw[<-HE];exact c
 obtain⟨v,e,_,t⟩:=h 0 b s;exact⟨v,by simpa using e,t⟩
theorem Rt{c:Hp}{e:cC}(b:ba n u M=J d){a:Nat}(h:D.iR c e (λi=>L[i]?) a M):
 (u=aa/\∃Q:List Value,Q.length=n/\(∀(j:Nat) (v:Value),Q[j]? =J v->L[a+j]? =J v)/\D.rd c e d (.agg Q.toArray))\/
 (u=Z/\∃v,L[a]? =J v/\D.rd c e d v):=by
 rw[D.dE]at h;unfold ba at b;split at b;rename_i k;split at b;rename_i s;cases b;refine .inl ⟨k,?_⟩;have p:∀j,j<n->∃v,L[a+j]? =J v:=λj f=>by obtain⟨v,l,_⟩:=h j _ (bh (by omega:j<M.length));exact U
 let Q:List Value:=(cZ n).map λj=>L.getD (a+j) undef
 have q:∀(j:Nat) (v:Value),Q[j]? =J v->L[a+j]? =J v:=by
  intro j v f;simp only[Q,dN,bj]at f;obtain⟨m,o,rfl⟩:=f;have r:j<n:=by have:=(bq.1 o).1;simpa using this
  have:m=j:=by have:=(bq.1 o).2;simpa using this.symm
  subst this;obtain⟨v,l⟩:=p m r;simp[l]
 refine⟨Q,by simp[Q],q,D.OE ⟨Q.toArray,rfl,ak,(D.dE _ _ _).2 λg K t=>?_⟩⟩;grind;grind;rename_i k;refine .inr ⟨U,?_⟩;have w:M[0]? =J d:=by rw[<-HE];exact b
 grind
theorem P.zN{a:Hp}{own:Nat->Prop}{b:Nat->Option Value}{c:List P}(d:P.iR a own b i c):P.iR a own b (i+j) (c.drop j):=by rw[P.dE]at d⊢;grind
theorem D.zN{a:Hp}{b:cC}{c:Nat->Option Value}(d:D.iR a b c i M):D.iR a b c (i+j) (M.drop j):=by rw[D.dE]at d⊢;grind
variable (m:iA (W c) s h.O)(p:∀C,D.rd (W c) s (h.T C) (k.tmps.getD C undef))
include m p
theorem ahN{O:Bool}(P:cO x=J l)(R:o.op=.load C x)(G:lh a C=J n)(H:Ef a C=J u)(f:aN (X a) (.load n u l O) h q):OW a t h.nx o k c s h.O q:=by
 have w:=eR p P;have al:∀(g:fB) v,k.eval x=.pointer (J g)->(my C g).run a c=.ok v c->(aG k.eval o).run a c=.ok (.value v) c:=by intro g v S T;simp[aG,R,S,Instr.loadAt,AV,T]
 simp only[aN]at f;split at f;rename_i M e;rw[e]at w;obtain⟨g,L,V,ag,W,I,Y,y,z⟩:=w;split at f;rename_i d A;have an:g=⟨g.block,g.off,ae⟩:=by cases g;simp only at I;subst I;rfl
 have B:=wE (o:=g.off) G H y;rcases ZG A z with⟨E,Q,h2,F,r⟩|⟨E,v,F,r⟩
 exact OW.ce m ak f r;exact OW.ce m ak f r;exact aj;rename_i id g' n' i j e;rw[e]at w;obtain⟨_,_,w⟩:=w;split at f;rename_i n2 g2 es hO;obtain⟨rfl,rfl,_,f⟩:=f;have y:=m.gu _ _ hO;obtain⟨b,B,W⟩:=w y.1;have K:=y.2;simp only[B]at K;obtain⟨Y,L,V,hH,z⟩:=K;split at f;rename_i ab ac;split at f;rename_i d A;have N:=((D.gd _ _ _ _).1 z i ab ac).2;have N:=D.zN (j:=j) ar;simp only[bf]at N;have B:=wE (o:=i*n2+j) G H hH;rcases Rt A ar with⟨E,Q,h2,F,r⟩|⟨E,v,F,r⟩
 exact OW.ce m ak f r;exact OW.ce m U f r;exact aj;exact aj;exact aj;exact aj
theorem aos{u:jV}(A:cO x=J l)(B:o.op=.fieldAddr C x f)(D:a.underlying C=J (.struct aS))(E:aS[f]? =J u)(F:lh a u.type=J n)(G:n≠0)(v:aN (X a) (.fa l u.offset) h q):OW a t h.nx o k c s h.O q:=by
 have d:=eR p A;have H:∀(g:fB),k.eval x=.pointer (J g)->(aG k.eval o).run a c=.ok (.value (.pointer (J (g.add u.offset)))) c:=by intro g w;simp[aG,B,w,Instr.fieldAt,AV,bv D,E,fieldPlace,mQ F,G]
 simp only[aN]at v;split at v;rename_i id Q R i j e;rw[e]at d;obtain⟨⟨g,y,r⟩,I,d⟩:=d;refine OW.ce m (H _ y) v ⟨⟨_,rfl,by rw[ku _ r]⟩,I,λw=>?_⟩;obtain⟨b,K,z⟩:=d w;rw[y]at z;cases z;exact⟨b,K,by rw[tN];grind⟩;rename_i M e;rw[e]at d;obtain⟨g,L,V,ag,y,r,S,N,O⟩:=d;refine OW.ce m U v ⟨g.add u.offset,L,V,ag,rfl,by rw[ku _ r],by rw[ku _ r];exact ar,by rw[ku _ r];exact N,?_⟩;rw[ku _ r];exact P.zN O;exact aj
theorem acs(u:cO x=J l)(r:o.op=.nilCheck x)(n:aN (X a) (.lY l) h q):OW a t h.nx o k c s h.O q:=by have b:=eR p u;simp only[aN]at n;split at n;rename_i id A B i j e;rw[e]at b;have d:=b;obtain⟨⟨v,g,C⟩,D,b⟩:=b;refine OW.ce m ?_ n d;simp[aG,r,g];rename_i M e;rw[e]at b;have d:=b;obtain⟨v,L,V,ag,g,_⟩:=b;refine OW.ce m ?_ n d;simp[aG,r,g];rename_i f w M e;rw[e]at b;have d:=b;obtain⟨y,z,g,_⟩:=b;refine OW.ce m ?_ n d;simp[aG,r,g];rename_i f w M e;rw[e]at b;have d:=b;obtain⟨y,z,g,_⟩:=b;refine OW.ce m ?_ n d;simp[aG,r,g];exact aj
theorem al8{e:cS}(w:cO x=J l)(y:cO e=J r)(z:o.op=.index C x e)(A:a.underlying C=J .string)(d:aN (X a) (.IL l r) h q):OW a t h.nx o k c s h.O q:=by have n:=eR p w;have u:=eR p y;simp only[aN]at d;split at d;rename_i g i f;rw[f]at u;have f:k.eval e=.int g i:=u;split at d;rename_i b j;rw[j]at n;have j:k.eval x=.string b:=n;obtain⟨B,d⟩:=d;split at d;rename_i v D;refine OW.ce m ?_ d rfl;simp[aG,z,j,f,Instr.index,asIntOf,bv A,B,D];exact aj;exact aj;exact aj
theorem amL{z:cS}(R:cO x=J l)(S:cO z=J r)(T:o.op=.indexAddr C x z)(U:a.underlying C=J (.slice e))(W:lh a e=J n)(d:aN (X a) (.ti n l r) h q):OW a t h.nx o k c s h.O q:=by
 have f:=eR p R;have H:=eR p S;simp only[aN]at d;split at d;rename_i g i A;rw[A]at H;have A:k.eval z=.int g i:=H;have ax:∀(j:fB) (w I:Nat),k.eval x=.slice (J j) w I->0<=i->i<w->(aG k.eval o).run a c=.ok (.value (.pointer (J (j.add (i.toNat*n))))) c:=by intro j w I B D E;simp[aG,T,B,A,Instr.indexAt,asIntOf,bv U,mQ W,D,E]
 split at d;rename_i id u off w K Y F;rw[F]at f;obtain⟨⟨ao,M,N,hk,ab,ay⟩,hg,f⟩:=f;obtain⟨rfl,D,ac,d⟩:=d;cases ao with|none=>grind|some j=>have v:=ab j rfl;refine OW.ce m aj d ⟨⟨_,rfl,by rw[ku _ v]⟩,hg,λB=>?_⟩;have f:=f B;cases E:s.loc id with|none=>grind|some b=>rw[E]at f;obtain⟨k2,o',L,V,ag,O,_,al,_,_,_⟩:=f;rw[N]at O;cases O;have:M≠0:=y;obtain rfl:=al y;exact⟨b,rfl,by rw[tN,eX];rfl⟩
 rename_i es K Y F;rw[F]at f;obtain⟨j,n2,M,N,aB,aE,hf,_,_,G⟩:=f;obtain⟨rfl,D,d⟩:=d;split at d;rename_i an Q;have ac:=(bq.1 Q).1;rcases G with rfl|⟨a',L,V,ag,rfl,v,aI,hH,G⟩
 grind;have aO:=((P.gd _ _ _ _).1 G _ an Q).2;refine OW.ce m ak d ⟨a'.add (i.toNat*K),L,V,ag,rfl,by rw[ku _ v],by rw[ku _ v];exact ar,by rw[ku _ v];exact hH,?_⟩;rw[ku _ v];exact ar;exact aj;exact aj;exact aj
end
theorem Cu{a:ah}(b:id<n)(c:Fr a n):Fr (am a id (J g)) n:=by intro i d;rw[eP _ _ y];exact aj
theorem yR{a:ah}{c:fg}(b:a id=J g)(d:Fr a n):Fr (am a id (J c)) n:=by intro i f;by_cases e:i=id;subst e;rw[d i f]at b;cases b;rw[eP _ _ e];exact aj
section alloc
variable {w:World}{a:cC}{c:ah}
def oC(a:Obj):W (w.alloc a) w.heap.size=J a:=heap_alloc_new w a
def me(b:Obj){a:Nat}{c:Obj}(d:W w a=J c):W (w.alloc b) a=J c:=by have e:=(lN.1 d).1;exact(@heap_alloc_old w b a e).trans d
theorem AN{N:Nat->Prop}(h:iA (W w) a c)(id:Nat)(k:N id)(d:Array Value)(e:dL)(f:Nat)(g:List (List D))(l:D.jl (W w) a (λi=>d[i]?) 0 f g):
 iA (W (w.alloc (.cells d e))) (a.new id (J w.heap.size)) (am c id (J (.row f (a.gen id+1) g)))/\
 eI N (W w) a c (W (w.alloc (.cells d e))) (a.new id (J w.heap.size)) (am c id (J (.row f (a.gen id+1) g))):=by
 have j:eI N (W w) a c (W (w.alloc (.cells d e))) (a.new id (J w.heap.size)) (am c id (J (.row f (a.gen id+1) g))):=EV id (J w.heap.size) _ ak (λx m b=>me _ b) k aj
 refine⟨Kx h id (J w.heap.size) _ (λx b=>by cases b;simp) (λx m b=>me _ b) aj ?_,j⟩;simp only[fg.rd,cC.new,dt];refine⟨Y,Y,d,e,oC _,?_⟩;exact D.uH (λx b=>h.gC b) j _ _ _ _ l
end alloc
section
variable {h:Program}{s:Nat->Prop}{o:Oper}{m:Act}{c:World}{k:cC}{a:St}{p:D->ah->Nat->Prop}
theorem aeb{off:Nat}(l:lh h C=J n)(d:Ef h C=J u){e:Hp}{own:Nat->Prop}{a:List P}{f:P}(_hs:Q.size=a.length)(m:P.iR e own (λi=>Q[i]?) 0 a)(o:ft n u (a.drop off)=J f):∃v,(ni C Q off).run h c=.ok v c/\P.rd e own f v:=by
 have g:=P.zN (j:=off) m;simp only[bf]at g;rcases ZG o g with⟨rfl,p,q,k,b⟩|⟨rfl,v,k,b⟩
 refine⟨_,?_,b⟩;simp only[ni,iN,rT d,lZ,aT,mQ l,wP];congr 2;apply ur;apply jX;grind;refine⟨v,?_,b⟩;simp[ni,rT d,k]
theorem ad9{off:Nat}(l:lh h C=J n)(b:Ef h C=J u){e:Hp}{f:cC}(_hs:Q.size=M.length)(m:D.iR e f (λi=>Q[i]?) 0 M)(o:ba n u (M.drop off)=J d):∃v,(ni C Q off).run h c=.ok v c/\D.rd e f d v:=by
 have g:=D.zN (j:=off) m;simp only[bf]at g;rcases Rt o g with⟨rfl,p,q,k,a⟩|⟨rfl,v,k,a⟩
 refine⟨_,?_,a⟩;simp only[ni,iN,rT b,lZ,aT,mQ l,wP];congr 2;apply ur;apply jX;grind;refine⟨v,?_,a⟩;simp[ni,rT b,k]
variable (q:iA (W c) k a.O)(t:∀C,D.rd (W c) k (a.T C) (m.tmps.getD C undef))
include q t
theorem aj5{b:jV}(F:cO x=J l)(G:o.op=.field C x f)(H:h.underlying C=J (.struct aS))(I:aS[f]? =J b)(B:lh h b.type=J n)(D:Ef h b.type=J u)(g:aN (X h) (.yK l b.offset n u) a p):OW h s a.nx o m c k a.O p:=by
 have i:=eR t F;have E:∀(Q:Array Value) v,m.eval x=.agg Q->(ni b.type Q b.offset).run h c=.ok v c->(aG m.eval o).run h c=.ok (.value v) c:=by intro Q v K L;simp[aG,G,K,Instr.field,bv H,I,asAgg,L]
 simp only[aN]at g;split at g;rename_i M e;rw[e]at i;obtain⟨Q,j,r,w⟩:=i;split at g;rename_i d y;obtain⟨v,z,A⟩:=aeb B D r w y;exact OW.ce q (E Q v j z) g A;exact aj;rename_i M e;rw[e]at i;obtain⟨Q,j,r,w⟩:=i;split at g;rename_i d y;obtain⟨v,z,A⟩:=ad9 B D r w y;exact OW.ce q (E Q v j z) g A;exact aj;exact aj
theorem adJ{nm:Nat}(l:s (a.bs+nm))(n:a.bs+nm<a.nx)(t:a.gm (a.bs+nm)=k.gen (a.bs+nm)+1)(u:o.op=.alloc e)(b:sB h e=J R)(f:aN (X h) (.alloc nm R.length R) a p):OW h s a.nx o m c k a.O p:=by
 unfold sB at b;split at b;rename_i i w;split at b;rename_i d x;split at b;rename_i E;cases b;have z:D.jl (W c) k (λi=>d.cells[i]?) 0 (d.cells.toList.map P.v).length [(d.cells.toList.map P.v).map D.p]:=by
  refine⟨Y,?_,aj⟩;rw[D.JW,P.dE];intro g K j;simp only[dN,bj]at j;obtain⟨r,A,rfl⟩:=j;have F:d.cells[g]? =J r:=by simpa using A
  exact⟨r,U,ak,rfl⟩
 obtain⟨B,C⟩:=AN q (a.bs+nm) l d.cells e _ _ z;obtain⟨_,f⟩:=f;rw[t]at f;refine OW.value (v:=.pointer (J ⟨c.heap.size,0,ae⟩)) ?_ f ⟨Y,by simp[cC.new,dt],λ_=>⟨c.heap.size,by simp[cC.new,dt],Y⟩⟩ B C y (Cu n);simp[aG,u,Instr.alloc,zeroValue,typeInfo,w,x,newVar,oA];grind;grind;grind
theorem alu{nm:Nat}(d:s (a.bs+nm))(f:a.bs+nm<a.nx)(g:a.gm (a.bs+nm)=k.gen (a.bs+nm)+1)(j:cO x=J l)(r:o.op=.box e x)(B:n≠0)(b:aN (X h) (.box nm n l) a p):OW h s a.nx o m c k a.O p:=by have u:=eR t j;obtain⟨C,b⟩:=b;rw[g]at b;obtain⟨E,F⟩:=D.zz u ak;have w:D.jl (W c) k (λi=>(m.eval x).cells[i]?) 0 n [(a.ev l).cells]:=aj;obtain⟨z,A⟩:=AN q (a.bs+nm) d (m.eval x).cells e _ _ w;refine OW.value (v:=.pointer (J ⟨c.heap.size,0,ae⟩)) ?_ b ⟨Y,by simp[cC.new,dt],λ_=>⟨c.heap.size,by simp[cC.new,dt],Y⟩⟩ z A y (Cu f);simp[aG,r,Instr.box,newVar,oA]
theorem aes{R:cS}(G:cO x=J l)(hv:cO R=J r)(ho:o.op=.store C x R)(hn:lh h C=J n)(h0:n≠0)(B:aN (X h) (.store n l r) a p):OW h s a.nx o m c k a.O p:=by
 have S:=eR t G;have h2:=eR t hv;simp only[aN]at B;split at B;rename_i id u n' i j e;rw[e]at S;obtain⟨_,hg,S⟩:=S;split at B;rename_i f g2 es T;obtain⟨rfl,rfl,_,O,B⟩:=B;split at B;rename_i M an;obtain⟨a3,B⟩:=B;have P:=q.gu _ _ T;obtain⟨b,ad,e1⟩:=S P.1;have ao:=P.2;simp only[ad]at ao;obtain⟨aO,L,V,hH,hr⟩:=ao;obtain⟨ax,hc⟩:=D.zz h2 ak;have ab:=(D.gd _ _ _ _).1 hr i M an;simp only[bf]at ab;have a4:i*f+j+n<=L.size:=by have a5:M[j+n-1]? =J M[j+n-1]:=Y;obtain⟨E,w,_⟩:=(D.dE _ _ _).1 ab.2 _ _ ar;have:=(lN.1 w).1;omega
 let Q:List Value:=(m.eval R).cells.toList
 have aP:Q.length=n:=by simp[Q,ax,O]
 have a6:∀E∈Q,E.oneCell'=aa:=by
  intro E w;obtain⟨g,hk,rfl⟩:=eD w;have aR:g<(a.ev r).cells.length:=y;obtain⟨q',H,F,_⟩:=(D.dE _ _ _).1 hc g _ (bh aR);have:(m.eval R).cells[g]? =J Q[g]:=by simp[Q]
  simp only[bf]at H;rw[this]at H;cases H;exact F
 let A:Array Value:=(L.toList.take (i*f+j)++Q++L.toList.drop (i*f+j+Q.length)).toArray
 have aS:(aG m.eval o).run h c=.ok .skip (c.setRow b A):=by have:=H0 h b (i*f+j) V Q 0 L c hH y U;simp only[uC]at this;simp[aG,ho,e1,Instr.storeAt,AV,storeVar,mQ hn,ax,O,Q,A,this]
 have a0:A.size=L.size:=by simp[A];omega
 have ag:W (c.setRow b A) b=J (.cells A V (0,0)):=Fc c b L A V (0,0) hH;have ay:∀l,l≠b->W (c.setRow b A) l=W c l:=by intro l hy;simp only[W,World.setRow,sX];simp[dB hy]
 have aB:∀v,A[v]? =if v<i*f+j then L[v]? else if v<i*f+j+n then Q[v-(i*f+j)]? else L[v]? :=by intro v;simp only[A,qI];rw[jd,jZ];have I:(ou (i*f+j) L.toList).length=i*f+j:=dK;rw[I];split;exact U;rw[jZ,aP];by_cases hm:v<i*f+j+n;grind;rw[ap y,ap hm,mo];simp only[ye];congr 1;omega
 have G:=Ki (N:=s) id b (.row f g2 es) (.row f g2 (es.set i (bI M (a.ev r).cells j))) L A V T ar hH ag y ay ⟨rfl,rfl⟩;have ac:∀b,Md k a.O b->k.own b:=λb P=>q.gC P;have a1:=(bq.1 an).1;have hk:fg.rd (W (c.setRow b A)) k id (.row f g2 (es.set i (bI M (a.ev r).cells j))):=by
  refine⟨P.1,?_⟩;simp only[ad];refine⟨aO,A,V,ag,(D.gd _ _ _ _).2 λg E w=>?_⟩;rw[jG]at w;split at w;rename_i al;subst al;simp only[a1,aT,du]at w;subst w;refine⟨by simp[bI,O];omega,(D.dE _ _ _).2 λv d z=>?_⟩;have hm:v<f:=by have:=(bq.1 z).1;simp[bI,O]at this;omega
  simp only[bI,jd]at z;rw[jZ]at z;have I:(ou j M).length=j:=dK;rw[I]at z;simp only[bf];rw[aB];split at z;rename_i aE;rw[aU y];rw[nv,aU aE]at z;obtain⟨E,w,F,K⟩:=(D.dE _ _ _).1 ab.2 v d z;exact⟨E,w,F,D.mI ac G _ _ K⟩;rename_i aE;rw[ap y];rw[jZ,O]at z;split at z;rename_i a2;rw[aU y];obtain⟨E,w,F,K⟩:=(D.dE _ _ _).1 hc _ d z;refine⟨E,?_,F,D.mI ac G _ _ K⟩;simp only[bf]at w;simp only[Q,ye];rw[show i*f+v-(i*f+j)=v-j by omega];exact w;rename_i a2;rw[ap y];rw[mo]at z;obtain⟨E,w,F,K⟩:=(D.dE _ _ _).1 ab.2 _ d z;refine⟨E,?_,F,D.mI ac G _ _ K⟩;rw[show i*f+v=i*f+(j+n+(v-j-n)) by omega];exact w;rename_i al;have aI:=(D.gd _ _ _ _).1 hr g E w;refine⟨aI.1,(D.dE _ _ _).2 λv d z=>?_⟩;obtain⟨q',H,F,K⟩:=(D.dE _ _ _).1 aI.2 v d z;refine⟨q',?_,F,D.mI ac G _ _ K⟩;have hm:v<f:=by have:=(bq.1 z).1;omega
  simp only[bf]at H⊢;rw[aB];have a7:j+n<=f:=y;rcases Fs al with I|I
  have:(i+1)*f<=g*f:=gH _ I;rw[eX]at this;rw[ap y,ap y];exact H;have:(g+1)*f<=i*f:=gH _ I;rw[eX]at this;rw[aU y];exact H
 exact OW.skip aS B trivial (Om q id b _ _ L A V T ad hH ag a0 ay ⟨rfl,rfl⟩ hk) G (bV _) (yR T);exact aj;exact aj;exact aj
end
def BW(a b:List bn)(off:Nat)(c:off+b.length<=a.length):(bI a b off).length=a.length:=by simp[bI];omega
theorem Ca(b c:List bn)(off:Nat)(d:off+c.length<=b.length)(a:Nat):
 (bI b c off)[a]? =if a<off then b[a]? else if a<off+c.length then c[a-off]? else b[a]? :=by have e:(ou off b).length=off:=dK;simp[bI,jd];grind
theorem Pm(off:Nat):∀(a:List Value) (g:Nat) (M:Array Value),off+g+a.length<=M.size->
 ((a.zipIdx g).foldl (λM (K:Value×Nat)=>M.setIfInBounds (off+K.2) K.1) M).toList=bI M.toList a (off+g)
 |[],g,M,_=>by simp[bI]|x::b,g,M,c=>by simp[List.zipIdx_cons,List.foldl_cons];rw[Pm off b (g+1) _ ak];simp[OX];apply jX;intro d;rw[Ca _ _ _ ak,Ca _ _ _ y];grind
def NF(off:Nat)(b a:Array Value)(c:off+b.size<=a.size):
 (b.zipIdx.foldl (λa (K:Value×Nat)=>a.setIfInBounds (off+K.2) K.1) a)=(bI a.toList b.toList off).toArray:=by apply ur;rw[<-Array.foldl_toList,Array.toList_zipIdx];have:=Pm off b.toList 0 a y;exact ar
section
variable {m:Program}{t:Nat->Prop}{q:Oper}{p:Act}{a:World}{k:cC}{c:St}{s:D->ah->Nat->Prop}
def ahp{c:Hp}{e:cC}{b:Array Value}{off:Nat}(n:L.size=M.length)(l:b.size=aP.length)(h:off+aP.length<=M.length)(j:D.iR c e (λi=>L[i]?) 0 M)(m:D.iR c e (λi=>b[i]?) 0 aP):
 (bI L.toList b.toList off).toArray.size=(bI M aP off).length/\D.iR c e (λi=>(bI L.toList b.toList off).toArray[i]?) 0 (bI M aP off):=by refine⟨by rw[vu,BW _ _ _ U,BW _ _ _ h];omega,(D.dE _ _ _).2 λk d a=>?_⟩;rw[Ca _ _ _ h]at a;simp[bf,qI];rw[Ca _ _ _ U];simp[Bb,l];split at a;rename_i f;rw[aU f];simpa using(D.dE _ _ _).1 j k d a;rename_i f;rw[ap f];split at a;rename_i g;rw[aU g];simpa using(D.dE _ _ _).1 m _ d a;rename_i g;rw[ap g];simpa using(D.dE _ _ _).1 j k d a
theorem abJ{fs:List jV}(d:∀f∈fs,(lh m f.type).isSome=aa):
 ∃a,fs.mapM (λf=>(m.info? f.type).map λi=>(f.offset,i.size))=J a/\∀(i:Nat) (f:jV) (n:Nat),fs[i]? =J f->lh m f.type=J n->a[i]? =J (f.offset,n):=by induction fs with|nil=>simp|cons f fs ih=>obtain⟨e,k,l⟩:=ih U;have h:=d f Y;unfold lh at h;cases j:m.info? f.type with|none=>grind|some i=>refine⟨(f.offset,i.size)::e,U,λg u n b c=>?_⟩;cases g with|zero=>simp at b;subst b;simp[lh,j]at c;simp[c]|succ g=>exact aj
theorem z8(a:sB m e=J R):
 ∃i b,m.info? e=J i/\i.zero=J b/\b.cells.size=i.size/\i.size=R.length/\∀(c:Hp) (k:cC),D.iR c k (λi=>b.cells[i]?) 0 (R.map .p):=by
 unfold sB at a;split at a;rename_i i j;split at a;rename_i b f;split at a;rename_i l;cases a;refine⟨i,b,ar,f,y,U,λc k=>?_⟩;rw[D.JW,P.dE];intro g K d;simp[dN,bj]at d;obtain⟨r,h,rfl⟩:=d;have n:=by simpa using h
 exact⟨r,U,ak,rfl⟩;grind;grind;grind
def P.akm{h:Nat->Prop}{c d:Hp}{a:cC}{e j:ah}(k:∀b,Md a e b->a.own b)(l:eI h c a e d a j){f:Nat->Option Value}{g:List (List P)}(m:D.jl c a f i n (g.map (·.map .p))):P.jl d a.own f i n g:=
 (D.afg _ _ _ _).1 (D.uH k l _ _ _ _ m)
variable (o:iA (W a) k c.O)(w:∀C,D.rd (W a) k (c.T C) (p.tmps.getD C undef))
include o w
theorem RY{q:Array jV}{place:Nat->Option (Nat×Nat)}(r:∀(i:Nat) (f:jV) (n:Nat),q[i]? =J f->lh m f.type=J n->place i=J (f.offset,n)):
 ∀{aB:List (Nat×cS)} {h:List (Nat×Nat×dh)} {L:Array Value} {M e:List D},EH m q aB=J h->L.size=M.length->D.iR (W a) k (λi=>L[i]?) 0 M->
  fh c.ev M h=J e->∃g,uq place L (aB.map λE=>(E.1,p.eval E.2))=J g/\g.size=e.length/\D.iR (W a) k (λi=>g[i]?) 0 e
 |[],h,L,M,e,b,j,o,d=>by simp[EH,du]at b;subst b;simp[fh,du]at d;subst d;exact⟨L,rfl,j,o⟩|(i,x)::aB,h,L,M,e,b,j,o,d=>by simp only[EH]at b;split at b;rename_i f l K t u v;split at b;rename_i n z;split at b;cases b;rename_i N;cases b;simp only[fh]at d;split at d;rename_i s;have A:=eR w u;obtain⟨B,C⟩:=D.zz A ak;have F:=ahp j B (by rw[s.1];exact s.2) o C;obtain⟨g,G,H,I⟩:=RY r v y F.2 d;refine⟨g,?_,H,I⟩;simp only[bG,uq,r i f n t z];have O:=y;rw[ap U];rw[NF _ _ _ y];exact G;grind;grind;grind
theorem ab7{e:List (Nat×Nat×dh)}(g:q.op=.build C aB)(h:m.underlying C=J (.struct aS))(j:sB m C=J R)(l:EH m aS aB.toList=J e)(G:aS.all (λf=>(lh m f.type).isSome)=aa)(b:aN (X m) (.build R e) c s):OW m t c.nx q p a k c.O s:=by
 obtain⟨i,H,n,r,I,K,u⟩:=z8 j;simp only[aN]at b;split at b;rename_i M v;obtain⟨x,y,L⟩:=abJ (fs:=aS.toList) λf N=>E1.1 ar f aj;obtain⟨d,z,A,B⟩:=RY o w (place:=(x.toArray[·]?)) U
  l U (u _ _) v
 have F:m.built C (aB.map λE=>(E.1,p.eval E.2)).toList=J d:=by simp only[Program.built,n,h,r,y,Array.toList_map];exact z
 refine OW.ce o ?_ b (D.OE ⟨d,rfl,A,B⟩);simp only[aG,g,iN,run_build a C _ d F];rfl;exact aj
theorem PO:∀{aB:List (Nat×cS)} {r:List (Nat×dh)} {n:Nat} {L:Array Value} {b f:List (List D)},ER aB=J r->n≠0->L.size=b.length*n->
 D.jl (W a) k (λi=>L[i]?) 0 n b->fP c.ev n b r=J f->
 ∃m,uq (λi=>J (i*n,n)) L (aB.map λE=>(E.1,p.eval E.2))=J m/\m.size=f.length*n/\f.length=b.length/\D.jl (W a) k (λi=>m[i]?) 0 n f
 |[],r,n,L,b,f,h,C,s,t,j=>by simp only[ER,du]at h;subst h;simp only[fP,du]at j;subst j;exact⟨L,rfl,s,rfl,t⟩
 |(i,x)::aB,r,n,L,b,f,h,C,s,t,j=>by
  simp only[ER]at h;split at h;rename_i l N F G;cases h;simp only[fP]at j;split at j;rename_i H;have I:=eR w F;obtain⟨O,K⟩:=D.zz I ak;have P:(p.eval x).cells.size=n:=y;have Q:i*n+n<=L.size:=by rw[s,<-Nat.succ_mul];exact gH _ y
  have R:(bI L.toList (p.eval x).cells.toList (i*n)).toArray.size=(b.set i (c.ev l).cells).length*n:=by rw[vu,BW _ _ _ dK];simpa using s
  have S:D.jl (W a) k (λg=>(bI L.toList (p.eval x).cells.toList (i*n)).toArray[g]?) 0 n (b.set i (c.ev l).cells):=by
   refine(D.gd _ _ _ _).2 λg E o=>?_;rw[jG]at o;simp only[bf];split at o;rename_i u;subst u;simp only[H.2,aT,du]at o;subst o;refine⟨y,(D.dE _ _ _).2 λe d q=>?_⟩;have M:e<n:=by have:=(bq.1 q).1;omega
   simp only[qI];rw[Ca _ _ _ dK,ap y,aU U];rw[show i*n+e-i*n=e by omega];simpa using(D.dE _ _ _).1 K e d q;rename_i u;obtain⟨v,z⟩:=(D.gd _ _ _ _).1 t g E o;refine⟨v,(D.dE _ _ _).2 λe d q=>?_⟩;have M:e<n:=by have:=(bq.1 q).1;omega
   have A:=(D.dE _ _ _).1 z e d q;simp only[bf]at A;simp only[qI];rw[Ca _ _ _ dK];rcases Fs u with B|B
   have:(i+1)*n<=g*n:=gH _ B;grind;have:(g+1)*n<=i*n:=gH _ B;grind
  obtain⟨m,v,z,T,A⟩:=PO G C y ar j;refine⟨m,?_,z,U,A⟩;simp only[bG,uq];rw[ap ak];rw[NF _ _ _ y];exact v;grind;grind
theorem abS{nm:Nat}(hN:t (c.bs+nm))(K:c.bs+nm<c.nx)(ao:c.gm (c.bs+nm)=k.gen (c.bs+nm)+1){f:Nat}{A:List (Nat×dh)}(ho:q.op=.buildSlice C f aB)(hu:m.underlying C=J (.slice e))(hz:sB m e=J R)(ax:ER aB.toList=J A)(a6:f*R.length<=2^24)(h0:0<R.length)(a7:f<=2^24)(h:aN (X m) (.bQ nm R.length f R A) c s):OW m t c.nx q p a k c.O s:=by
 obtain⟨i,u,ab,ay,aE,B,aI⟩:=z8 hz;simp only[aN]at h;split at h;rename_i H ac;let L:Array Value:=(uA (f*R.length)).map λg=>u.cells[g%u.cells.size]!
 have aO:u.cells.size=R.length:=by rw[aE,B]
 have ad:D.jl (W a) k (λg=>L[g]?) 0 R.length (fL f (R.map .p)):=by
  refine(D.gd _ _ _ _).2 λg E j=>?_;have hk:g<f:=by have:=(bq.1 j).1;simpa using this
  have:E=R.map .p:=by have:=(bq.1 j).2;simpa using this.symm
  subst this;refine⟨Y,(D.dE _ _ _).2 λF d hd=>?_⟩;have hm:F<R.length:=by have:=(bq.1 hd).1;simpa using this
  obtain⟨v,G,M,z⟩:=(D.dE _ _ _).1 (aI (W a) k) F d hd;refine⟨v,?_,M,z⟩;have K:g*R.length+F<f*R.length:=by have:(g+1)*R.length<=f*R.length:=gH _ hk;rw[eX]at this;omega
  simp only[bf]at G⊢;have aP:(g*R.length+F)%u.cells.size=F:=by rw[aO,qX,yA,xr hm]
  simp only[L,H6,F4];rw[aU K];simp only[fK,aP];rw[getElem!_def,G]
 obtain⟨l,G,M,al,z⟩:=PO o w ax y ak ad ac;have aR:H.length=f:=by simpa using al
 have a8:(aG p.eval q).run m a=.ok (.value (.slice (J ⟨a.heap.size,0,ae⟩) f f)) (a.alloc (.cells l e)):=by
  have a9:¬(f*i.size>2^24):=by rw[B];omega
  have aS:¬(16777216<f*i.size):=y;have N:uq (λg=>J (g*i.size,i.size)) L (aB.toList.map λE=>(E.1,p.eval E.2))=J l:=by rw[B];exact G
  by_cases O:f*i.size=0;have Q:L= #[]:=by simp[L,<-B,O]
  rw[Q]at N;have a0:uA 0= #[]:=by apply ur;simp
  simp[aG,ho,Gv,bv hu,sizeOf,typeInfo,ab,O,a0,N,oA];have Q:(uA (f*i.size)).map (λg=>u.cells[g%u.cells.size]!)=L:=by simp only[L,B]
  simp[aG,ho,Gv,bv hu,sizeOf,typeInfo,ab,O,aS,zeroValue,ay,Q,N,oA]
 have a1:s (.sl (c.bs+nm) (c.gm (c.bs+nm)) 0 f R.length Z) (am c.O (c.bs+nm) (J (.row R.length (c.gm (c.bs+nm)) H))) c.nx->OW m t c.nx q p a k c.O s:=by
  intro h;obtain⟨h4,h5⟩:=AN o (c.bs+nm) hN l e _ _ z;rw[ao]at h;refine OW.value ar h ⟨ak,by simp[cC.new,dt],λ_=>?_⟩ h4 h5 y (Cu K);simp only[cC.new,dt];refine⟨f,0,l,e,(0,0),rfl,y,qM,?_,oC _,?_⟩;have:(2:Nat)^24<=maxLen:=by simp[maxLen]
  omega;exact U
 split at h
 .rename_i A I
  rcases h with h|h
  rotate_left
  exact aj;have a2:H=A.map (·.map .p):=by clear a1 h z ac ad G M al aR;induction H generalizing A with|nil=>simp[dp]at I;exact U|cons a3 rs ih=>simp only[dp]at I;split at I;rename_i E qs j a4;cases I;simp[ih qs a4,Aj a3 E j];grind
  have a5:¬k.own a.heap.size:=λhc=>o.there _ hc Y;have S:eI t (W a) k c.O (W (a.alloc (.cells l e))) k c.O:=
   ⟨λx T h _=>me _ h,U,U,qM,U,λx p V ag h=>⟨p,ag,me _ h,rfl⟩,
    λx h=>by cases n:W a x with|none=>exact aj|some T=>rw[me _ n];simp,qM,U,U,aj⟩
  have an:∀b,Md k c.O b->k.own b:=λb r=>o.gC r;have bb:iA (W (a.alloc (.cells l e))) k c.O:=⟨λi E j=>fg.yt an S (o.gu i E j) rfl (λb r=>o.gC ⟨i,by simp[j],r⟩) (λb r=>by have bd:k.own b:=o.gC ⟨i,by simp[j],r⟩;cases n:W a b with|none=>exact absurd n (o.there b ar)|some T=>exact me _ n),o.apart,λb r=>by cases n:W a b with|none=>exact absurd n (o.there b r)|some T=>rw[me _ n];simp⟩
  refine OW.value ar h ⟨J ⟨a.heap.size,0,ae⟩,f,f,rfl,?_,y,qM,ak,ak,.inr ⟨⟨a.heap.size,0,ae⟩,l,e,(0,0),rfl,rfl,a5,oC _,?_⟩⟩ ar S y U;grind;rw[a2]at z;exact P.akm an S z
 exact aj;exact aj
theorem al7{z r:dL}(F:cO x=J l)(G:q.op=.convert z r x)(H:m.underlying z=J .string)(u:m.underlying r=J (.slice e))(I:m.underlying e=J (.int .u8))(A:aN (X m) (.KX l) c s):OW m t c.nx q p a k c.O s:=by
 have C:=eR w F;simp only[aN]at A;split at A;rename_i b K;rw[K]at C;have L:p.eval x=.string b:=C;have T:(aG p.eval q).run m a=.ok (.value (.slice (J ⟨a.heap.size,0,ae⟩) b.size (grownCap a b.size 0 e))) (uj a e b):=by have:=Lib.run_convert_string_bytes a z r e b H u I;simp only[aG,G,L,iN,this];rfl
 have V:∀x d,W a x=J d->W (uj a e b) x=J d:=by
  intro x d h;have M:x<a.heap.size:=by have h:a.heap[x]? =J d:=h;exact ak
  show(uj a e b).heap[x]? =J d;rw[Lib.bytesWorld_at_old a e b x M];exact h
 have N:¬k.own a.heap.size:=λO=>o.there _ O Y;have h:eI t (W a) k c.O (W (uj a e b)) k c.O:=
  ⟨ak,U,U,qM,U,ak,
   ak,qM,U,U,aj⟩
 have Q:∀b,Md k c.O b->k.own b:=λb f=>o.gC f;have ab:iA (W (uj a e b)) k c.O:=⟨λi r u=>fg.yt Q h (o.gu i r u) rfl (λb f=>o.gC ⟨i,by simp[u],f⟩) (λn f=>by have ac:k.own n:=o.gC ⟨i,by simp[u],f⟩;cases B:W a n with|none=>exact absurd B (o.there n ar)|some d=>grind),o.apart,λn f=>by cases B:W a n with|none=>exact absurd B (o.there n f)|some d=>grind⟩
 have ad:(mC b).length=b.size:=by unfold mC;rw[d7];rfl
 refine OW.value ar A ⟨J ⟨a.heap.size,0,ae⟩,b.size,_,rfl,y,FT a b.size 0 e,ak,ak,ak,.inr ⟨⟨a.heap.size,0,ae⟩,JF a e b,e,_,rfl,rfl,N,Lib.bytesWorld_at_new a e b,?_⟩⟩ ar h y U;refine(P.gd _ _ _ _).2 λg ag D=>?_;simp only[mC,dN,bj]at D;obtain⟨v,R,rfl⟩:=D;have al:g<b.data.size:=by have:=(bq.1 R).1;simpa using this
 refine⟨rfl,(P.dE _ _ _).2 λj z E=>?_⟩;have S:j=0:=by have:=(bq.1 E).1;simp at this;omega
 subst S;cases E;refine⟨.int .u8 v.toNat,?_,rfl,rfl⟩;simp only[JF,bf,Nat.mul_one,uC];grind;exact aj
end
end Go.Dl
