/- CacheEntries returns true for each list of integers and leaves its argument as it was, by the tied card of its seat: the five tables of the row are laid as the text lays them; no other condition. -/
import Derived.Test.YtaggkglfnbcjdaaGreatDoorQ22
set_option linter.all false
set_option maxRecDepth 1000000
set_option maxHeartbeats 40000000
namespace Go.Dl.Ai
end Go.Dl.Ai
namespace Go.Proofs
end Go.Proofs
namespace Ty
end Ty
open Bool renaming false->Z,true->aa
open Go renaming DataW->xt
open Go.ChangeSpec renaming post_alike->Qo
open Go.OpenClaim renaming holds_of_cond->UX,pre_eq_preRow->Qj
open Go.OpenSpec renaming ofChange->sU,preRow_of_cond->Tp
open Go.Proofs.Tryz renaming checked->CQ,f3->kF,func3->C4,params3->Hj,prog->af,underlying22->xJ
open Go.Value renaming cells->ny,okWide->Iz
open Go.World renaming holding->GA
open Option renaming some->J
open Go Go.Dl Go.Dl.Ai
namespace Go.Proofs.YtaggkglfnbcjdaaGreatDoor
open Go.ChangeShapes Go.WideShapes Go.ChangeAt Go.RowKit Go.Dl Go.Dl.Ai
def ac6(u:Type)(d:TypeId×Value->u)(a:World)(G:Nat)(f:Array Value)(m v:List (xt u))(H:List MemPlace)(w:∀(x:Nat) t g,kF.params[x]? =J t->f[x]? =J g->Iz af a .any G t g)(y:DataW.Whole d af kF.params.toList Rows.cacheEntriesSpec.vars Z a f.toList m v H)(z:(DataW.weightsEach af (kF.params.toList++(sU Rows.cacheEntriesSpec).bare.plain.varTypes af) (m++v)).all (· <=reachBytes)=aa):
 Calls af 3 f a λn b=>∃g,n=.returned g/\Rows.cacheEntriesSpec.post d af kF Z aa Z Z a f g b:=by
 have A:=y;obtain⟨l,ag,I,K,rfl,al,an⟩:=y;have B:DataW.TrodAll d af a 0 (λ_=>aa) aa kF.params.toList f.toList m l:=I;rw[Hj]at B w z;obtain⟨o,L,rfl,rfl,C⟩:=trodAll_one B;obtain⟨rfl,rfl⟩:=trodVars_none K;have p:=w 0 22 o rfl rfl;have M:=C;obtain⟨ao,N⟩:=C;have O:∀q∈l,q.block<a.heap.size:=λq i=>by simpa using A.lt q (jx _ i)
 have D:∀b:World,b.os=a.os/\b.output=a.output/\a.heap.size<=b.heap.size/\(∀r,r<a.heap.size->b.heap[r]? =a.heap[r]?)->Rows.cacheEntriesSpec.post d af kF Z aa Z Z a #[o] (.bool aa) b:=by rintro b ⟨P,Q,R,S⟩;have E:Below a.heap.size a {b with tape:=a.tape}:=⟨P,rfl,Q,R,S⟩;have T:DataW.Trod d af {b with tape:=a.tape} 0 (λU=>decide (U<a.heap.size)) aa 22 o L l:=Below.trod agW h (An h) M E O;refine Qo (W'':={b with tape:=a.tape}) ⟨_,_,_,[],l,[],A,?_,?_,rfl,E.frame _,λc=>by cases c⟩ ⟨rfl,rfl,rfl⟩;exact trodAll_mk1 (shut_bool Tryz.underlying4 aa);exact trodAll_mk1 T
 obtain⟨a0,V,ax,rfl⟩:=okWide_slice xJ p;rcases open_ints xJ Tryz.underlying3 ajN N with⟨k,i⟩|⟨ay,aB,aE,zs,k,_,W,hm,F,i,X,Y⟩
 simp[ny]at k;obtain⟨rfl,rfl,rfl⟩:=k;exact(Po amM rfl).mono λn b ⟨s,c⟩=>⟨_,s,D b c⟩;simp[ny]at k;obtain⟨rfl,rfl,rfl⟩:=k;simp only[aT]at F;simp only[xe]at i;obtain⟨rfl,-⟩:=i;have ab:(V:Int)<=140737488355328:=by have:=sized_slice z (j:=0) (t:=22) (e:=3) rfl rfl xJ;rw[ajO]at this;simp only[lits,d7,ud,xq,reachBytes]at this;omega
 simp only[Iz,xJ,Cell.okWide,Cell.ok]at p;obtain⟨_,_,_,ac,aI,aO,ad,_⟩:=p;exact(Po (agX ab Y) (ahc (λ_ c=>c) W F ac ⟨_,ad⟩ X)).mono λn b ⟨s,c⟩=>⟨_,s,D b c⟩
def SC:xt Unit->List Value|.lit (.int k n)=>[.int k n]|.agg l=>go l|_=>[]
where go:List (xt Unit)->List Value
 |[]=>[]|d::a=>SC d++go a
def OM(a:Array Obj)(b:Nat)(c:xt Unit):Array Obj:=a.modify b fun
 |.cells _ d e=>.cells (SC c).toArray d e|f=>f
noncomputable def JG(a:Os):World:={GA af a ⟨#[],#[],[]⟩with heap:=OM (OM (OM (OM (OM (GA af a ⟨#[],#[],[]⟩).heap 1 Rows.laid_unicode_utf8_first) 2 Rows.laid_unicode_utf8_acceptRanges) 3 Rows.laid_internal_strconv_uint64pow10) 4 Rows.laid_math_bits_deBruijn32tab) 5 Rows.laid_math_bits_deBruijn64tab}
def aeq(a:Os):laidMet af Rows.cacheEntriesRow.laid ((JG a).forCall (λ_ _=>0) ⟨#[],#[.slice none 0 0],[]⟩).memory:=laidMet_of_run' 8 h h
def Yk(a:Os){b:Type}(c:TypeId×Value->b):∃d,DataW.whole c af ((JG a).forCall (λ_ _=>0) ⟨#[],#[.slice none 0 0],[]⟩).memory kF.params.toList Rows.cacheEntriesSpec.vars Z #[Value.slice none 0 0].toList 8=J ([.nil],[],d):=⟨[],h⟩
def lifted(a:Os)(d:a.Started)(c:Type)(b:TypeId×Value->c)(F:Stop.Interp):
 ReturnsInHanded {} CQ a 3 .any ((sU Rows.cacheEntriesSpec).preRow b af kF Rows.cacheEntriesRow.domain Z Rows.cacheEntriesRow.laid) (((sU Rows.cacheEntriesSpec).at F).post b af kF Z aa Z Z):=by
 obtain⟨q,e⟩:=Yk a b;refine returnsInHanded_of_row (C:=CQ) (s:=sU Rows.cacheEntriesSpec) own d h C4
  (witness_row_at (enc:=b) (C:=CQ) Z (JG a) #[.slice none 0 0] rfl h h h
   (Tp 8 e h (λr f=>by cases f) h (aeq a))) ?_
 intro g i j k l m n o _ _ p t _ _;exact ac6 c b g i j k l m n o p
def amc:Tryz.pinned.checked.prog.funcNamed Rows.cacheEntriesRow.func=J 3:=h
def ap1:kF.isWrapper Tryz.pinned.checked.prog Rows.cacheEntriesRow.wrapper Rows.cacheEntriesRow.mainSum:=by unfold Func.isWrapper;first|(rw[aU KZ];kernel_rfl)|(rw[ap KZ];exact⟨rfl,rfl⟩)
def arS:Rows.CacheEntriesSaid:=
 UX 3 kF rfl rfl rfl rfl rfl rfl rfl ⟨rfl,rfl,rfl,rfl,rfl⟩ rfl rfl rfl rfl rfl amc C4 akA
  (An h) ap1
  (λa b c d _ F=>by rw[Qj];exact lifted a b c d F)
def plain(b:FuncId)(c:Func)(f:Tryz.pinned.checked.prog.funcNamed "dumbwaiter/dumblaw2.CacheEntries"=J b)(g:Tryz.pinned.checked.prog.funcs[b]? =J c):
 Z=Tryz.pinned.checked.prog.looks []/\∀(d:Nat) a,c.params[d]? =J a->Tryz.pinned.checked.prog.wantsStandIn a=Z:=by
 obtain rfl:b=3:=kN ((show af.funcNamed "dumbwaiter/dumblaw2.CacheEntries"=J 3 by kernel_rfl).symm.trans f)|>.symm;obtain rfl:c=kF:=(kN (C4.symm.trans g)).symm;refine⟨h,λd a e=>?_⟩;rw[Hj] at e;obtain rfl:a=22:=by simpa using Array.mem_of_getElem? e
 exact(show af.wantsStandIn 22=Z by kernel_rfl)
theorem cacheEntries_card:Rows.CacheEntriesCardSaid:=Claim7.holds_tied_plain_at .later [] _ _ _ _ arS (λ_ a=>by cases a) h (λ_ a=>by cases a) cacheEntries_row_tie rfl ⟨rfl,rfl⟩ h rfl plain h
end Go.Proofs.YtaggkglfnbcjdaaGreatDoor
