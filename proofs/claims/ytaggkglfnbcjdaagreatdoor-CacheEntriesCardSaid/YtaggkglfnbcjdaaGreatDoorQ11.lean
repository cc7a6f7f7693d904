import Derived.Test.YtaggkglfnbcjdaaGreatDoorProg
import Derived.Test.YtaggkglfnbcjdaaGreatDoorQ10
set_option linter.all false
set_option maxRecDepth 1000000
set_option maxHeartbeats 40000000
namespace Go.Dl.Ai
end Go.Dl.Ai
namespace Go.Proofs
end Go.Proofs
namespace Ty
end Ty
open Bool renaming false->Z,true->aa
open ByteArray renaming size->iO
open Eq renaming trans->tV
open Go.Proofs.Tryz renaming prog->af
open Go.Utf8 renaming encode->gY
open Go.Value renaming oneCell'->aJ
open List renaming length->fZ,map_append->cG
open Option renaming none->ae,some->J
open Go Go.Dl Go.Dl.Ai
def xi:=@List.take_append_of_le_length
def kg:=@Int.eq_ofNat_of_zero_le
variable {V E aR aS pc cE cU db bn bZ:P}{aB O':ah}{Q:Nat->D}{u aP bB xb xg m n ob og i id ib gb c v t eK bS fE fk eV dT fe g3 bu cg bO dH fX fJ:Nat}{bC K A eJ bT:List P}{a:ByteArray}{s b:St}{rows:List (List D)}{d bX ed cT:D}{ag:Exit->St->Prop}{cols fq fw fD bH bA bM H C be em:List (List P)}{eZ:cR}{f:ByteArray->Option D}{fU:Int}{cJ:Gh}
namespace Go.Dl
open Go.Proofs Go.Dl.Ai
def afN:List aA:=[q 19 (.yK (.t 18) 0 1 Z),q 20 (fQ 19),fR 21 0]
def YE:List aA:=[q 41 (dV 98 38 40)]
def XX:List aA:=[q 48 (.bQ 6 1 1 [aD] [(0,.t 47)]),q 49 (jE 7 1 24 43 48),oF 50 8 1,vt (xS 1 50 49)]
def XH:av:=.cond (.t 41) (.dg 10 aa (aZ 42 (xF 8 1)::aZ 43 (jP 1 42)::cA 44 2 2::cA 45 5 7::cA 46 9 10::q 47 (sV 133 44 45 46)::XX)) (.skip)
def Yz:av:=rF 2 [q 51 (di .add 31 1),G 31 51]
def Nn:av:=
 z 1 [q 32 (xB .lss 31 30)] (.seq (cX 32 2) (.seq (.block 3 (z 4 [q 33 (xI 9 29 31),cA 34 9 33,q 10 (.alloc 2 9 [aF,aH,aH,aH,aH,aH,aF,aD,aD]),oN (xS 9 10 34)] (.seq (.dg 7 aa (aZ 39 (xF 7 0)::aZ 40 (xL 1 39)::cA 35 2 2::oF 36 10 0::oL 37 1 36::q 38 (dV 132 35 37)::YE))
  XH)))
  Yz))
def Z5:List aA:=[vt (.oY (.t 68) (.c (S ⟨#[114,105,103,104,116,95,105,100]⟩)) (.t 77)),G 78 68,G 13 78]
def Zv:List aA:=(vt (.oY (.t 68) (.c (S ⟨#[108,101,102,116,95,105,100]⟩)) (.t 74))::q 77 (oW 134 76)::Z5)
def SM:List aA:=(vt (.oY (.t 68) (.c (S ⟨#[116,101,110,97,110,116]⟩)) (.t 71))::q 74 (oW 134 73)::Zv)
def abc:av:=rF 2 [q 93 (di .add 82 1),G 82 93]
def MA:av:=
 z 1 [q 83 (xB .lss 82 81)] (.seq (cX 83 6) (.seq (.block 7 (z 4 [q 84 (xI 6 80 82),cA 85 6 84,q 16 (.alloc 2 6 [aF,aH,dZ,aH,aH,aF]),oN (xS 6 16 85)] (rF 8 [G 86 14,G 87 13,oF 88 16 0,oL 89 1 88,q 90 (.sQ (.aM .s) (.p (.agg [aH,aH,aF])) Z (.t 87) (.t 89)),q 91 (.bQ 5 3 1 [aH,aH,aF] [(0,.t 90)]),q 92 (jE 6 3 32 86 91),G 14 92])))
  abc))
def aaE:av:=rF 7 [oF 94 8 1,oL 95 1 94,G 96 14,q 97 (.bQ 3 1 1 [aD] [(0,.t 96)]),q 98 (jE 4 1 24 95 97),oF 99 8 1,oN (xS 1 99 98)]
def amY:av:=
 z 1 [q 14 (.mv (.c aD))] (.seq (z 4 [oF 79 7 1,oL 80 1 79,q 81 (fQ 80),fR 82 0] (.block 6 (.loop MA)))
  aaE)
def aba:av:=rF 2 [q 100 (di .add 55 1),G 55 100]
def afQ:av:=
 z 1 [q 56 (xB .lss 55 54)] (.seq (cX 56 4) (.seq (.block 5 (z 4 [q 57 (xI 5 53 55),cA 58 5 57,q 12 (.alloc 2 5 [aF,aF,aH,aH,aH]),oN (xS 5 12 58)] (.seq (z 9 [oF 59 12 0,oL 60 1 59,q 61 (.lS .add 0 (.t 60) (.c (S ⟨#[95]⟩))),oF 62 12 1,oL 63 1 62,q 64 (xB .add 61 63),oF 65 7 0,oL 66 1 65,q 67 (xB .neq 64 66)] (.cond (.t 67) (.exit 5) (.skip))) (.seq (.dg 15 aa (aZ 68 (.Av 0 (.p (.agg [aH,aH,aF])))::aZ 72 (xF 12 3)::aZ 73 (jP 1 72)::aZ 75 (xF 12 4)::aZ 76 (jP 1 75)::oF 69 12 2::aZ 70 (jP 1 69)::q 71 (oW 134 70)::SM))
  amY))))
  aba))
def Z3:av:=rF 7 [oF 105 5 0,oL 106 1 105,cA 107 2 8,q 108 (.bQ 3 2 1 [aF,aD] [(0,.t 107)]),q 109 (jE 4 2 40 106 108),oF 110 5 0,oN (xS 1 110 109)]
def alB:av:=
 z 4 [cA 101 5 7,oF 102 8 1,oL 103 1 102,q 104 (dV 135 101 103)]
  Z3
def aeI:av:=
 .seq (z 4 [oF 52 3 1,oL 53 1 52,q 54 (fQ 53),fR 55 0] (.block 4 (.loop afQ)))
  alB
def ajs:av:=rF 2 [q 111 (di .add 21 1),G 21 111]
def afe:av:=
 z 1 [q 22 (xB .lss 21 20)] (.seq (cX 22 0) (.seq (.block 1 (z 4 [q 23 (xI 5 19 21),cA 24 5 23,q 7 (.alloc 2 5 [aF,aD,aD,aD,aD]),oN (xS 5 7 24)] (z 5 [oF 25 7 0,oL 26 1 25,q 27 (.build [aF,aD] [(0,1,.t 26)]),q 8 (.alloc 3 2 [aF,aD]),oN (xS 2 8 27)] (.seq (z 4 [oF 28 3 0,oL 29 1 28,q 30 (fQ 29),fR 31 0] (.block 2 (.loop Nn)))
  aeI))))
  ajs))
def aoH:av:=.block 0 (.loop afe)
def RJ:av:=z 2 [cA 112 1 5,oN (xS 1 4 112)] (.ret)
def D64:d6:=⟨113,[.cell 4 1 aa],z 3 [q 2 (iU 0 2 0),q 3 (iU 1 2 1),q 4 (.alloc 2 1 [aD])] (z 1 [q 5 (.alloc 0 1 [aD])] (.seq (z 5 (cA 17 2 2::q 18 (oW 49 17)::afN)
 aoH)
 RJ))⟩
def aoO:cW af Tryz.f64=J D64:=h
section
variable [Gh]
structure qD(e0 x op pp:P)(O1:ah)(T1:Nat->D)(nx nx1 tb tg xb xg:Nat)(tr:List P)(a:ByteArray)(m:Nat)(R:List P)(s:St):Prop where
 h2:∃g,s.T 2=.ptr nx g 2 0 0/\O1 nx=J (.row 2 g [[.p e0,.p x]])
 h3:∃g,s.T 3=.ptr (nx+1) g 2 0 0/\O1 (nx+1)=J (.row 2 g [[.p op,.p pp]])
 h7:s.T 7=.ptr tb tg 5 0 0/\s.O tb=J (.row 5 tg [tr.map .p])
 h8:∃dr,s.T 8=.ptr xb xg 2 0 0/\s.O xb=J (.row 2 xg [[.p (S a),dr]])/\de s.O nx1 1 (fC R) dr
 akN:∀y∈R,pO m y
 fT:∀k,k=4\/k=5\/k=19\/k=20\/k=21->s.T k=T1 k
 WJ:nx1<=tb
 hxb:nx1<=xb
 htx:tb≠xb
 hn1:nx+1<nx1
 gp:nx1<=s.nx
 fr:Fr s.O s.nx
 low:∀k,k<nx1->s.O k=O1 k
theorem qD.next{f:Nat}(i:qD V E aR aS aB Q f u aP bB xb xg bC a m K s)(n:∀c,c=2\/c=3\/c=4\/c=5\/c=7\/c=8\/c=19\/c=20\/c=21->b.T c=s.T c)(d:∀c,c<s.nx->b.O c=s.O c)(o:s.nx<=b.nx)(fr:Fr b.O b.nx):qD V E aR aS aB Q f u aP bB xb xg bC a m K b:=by obtain⟨⟨p,q,r⟩,⟨g3,t,v⟩,⟨w,g⟩,⟨j,x,h,k⟩,akN,fT,WJ,hxb,htx,hn1,gp,e,low⟩:=i;refine⟨U,U,⟨U,(d _ (e.lt g)).trans g⟩,⟨j,U,(d _ (e.lt h)).trans h,k.aL λc z _ l=>d c (e.lt l)⟩,U,ak,WJ,hxb,htx,hn1,y,fr,ak⟩
theorem de.YW{b:ah}(c:de b m n rows d)(e:∀a t,m<=a->b a=J (.row n t rows)->O' a=b a):de O' m n rows d:=c.imp U ak
def ahR{c:Nat}{h:ByteArray}{orest:List D}{i:List P}(j:VT.ok Ty.MG (.agg [V,E]))(k:a.size<=400)(l:bC=S a::i)(n:Gh.nm h)(o:qD V E aR aS aB Q c u aP bB xb xg bC a m K s)(p:s.T 10=.ptr ob og 9 0 0)(e:s.O ob=J (.row 9 og [.p (S h)::orest]))(r:∀b f,(∀d,d<35->b.T d=s.T d)->b.O=s.O->s.nx<=b.nx->b.T 41=.p (B f)->ag .normal b):
 bx (X af) (.dg 7 aa (aZ 39 (xF 7 0)::aZ 40 (xL 1 39)::cA 35 2 2::oF 36 10 0::oL 37 1 36::q 38 (dV 132 35 37)::YE)) s ag:=by
 have t:=o;obtain⟨⟨v,w,x⟩,⟨g3,I,L⟩,⟨z,g⟩,⟨M,N,O,R⟩,T,U,W,ab,ac,ad,al,hf,A⟩:=t;have C:s.O c=J (.row 2 v [[.p V,.p E]]):=by rw[A c y];exact x
 rw[l]at g;have F:c≠aP:=y;have G:ob≠aP:=by rintro rfl;rw[g]at e;cases e
 intro gm;refine⟨[aP],?_⟩;simp(disch:=omega)[aX,only,w,C,z,g,p,e,F,G,ba,ai];refine alj j n λan bn ao H=>?_;simp(disch:=omega)[YE];refine aiL H k λax f ay=>?_;refine r _ f (λd hk=>?_) (nU _ _) aw Y;exact cj
theorem al6{h:Nat}(M:VT.ok Ty.MG (.agg [V,E]))(N:bC=[S a,pc,cE,cU,db])(O:wI a pc cE cols fq fw fD)(hT:Fk bC)(x:Row Ty.jy A)(P:RT 3 A)(hl:K.length<1000)(R:qD V E aR aS aB Q h u aP bB xb xg bC a cols.length K s)(T:s.T 10=.ptr ob og 9 0 0)(m:s.O ob=J (.row 9 og [A.map .p]))(W:∀b e,qD V E aR aS aB Q h u aP bB xb xg bC a cols.length (K++[e]) b->(∀c,c<42->b.T c=s.T c)->ag .normal b):
 bx (X af) (.dg 10 aa (aZ 42 (xF 8 1)::aZ 43 (jP 1 42)::cA 44 2 2::cA 45 5 7::cA 46 9 10::q 47 (sV 133 44 45 46)::XX)) s ag:=by
 have ab:=R;obtain⟨⟨g2,a2,b2⟩,⟨g3,a3,b3⟩,⟨a7,n⟩,⟨i,z,j,c8⟩,bb,fT,ac,ad,o,al,bd,k,an⟩:=ab;have ao:s.O h=J (.row 2 g2 [[.p V,.p E]]):=by rw[an h y];exact b2
 have ax:A.length=9:=by have:=x.length;simpa[Ty.jy,Ty.W8,Ty.kf]using this
 have ay:cF ((A.map D.p).take 9)=.p (.agg A):=by rw[cp U,jL]
 have aE:cF [.p (S a),.p pc,.p cE,.p cU,.p db]=.p (.agg [S a,pc,cE,cU,db]):=jL (l:=[S a,pc,cE,cU,db]);have B:=n;rw[N]at B;have n1:h≠xb:=y;have n2:ob≠xb:=by rintro rfl;rw[j]at m;cases m
 have aI:=k.lt j;intro gm;refine⟨[xb],?_⟩;simp(disch:=omega)[aX,only,a2,ao,a7,B,z,j,T,m,n1,n2,o,ba,ai,ax,ay,aE];refine⟨aI,?_⟩;refine ac3 M rfl O ak x P λaO e be hy=>?_;have F:e.cells=[e]:=by obtain⟨vs,f,_⟩:=hy;exact ig f
 unfold XX;have a0:∀c t,s.O c=J (.row 1 t (fC K))->c≠xb:=by rintro c t f rfl;rw[j]at f;cases f
 have a1:de (aX [xb] s.O) u 1 (fC K) i:=c8.YW λc t g G=>by simp[aX,a0 c t G]
 have bk:s.O (s.nx+6)=ae:=k _ y;refine Ox (hb:=xb) (g3:=xg) (w:=2) (cells:=[.p (S a),i]) (d:=.p e) Y (by simp[D.cells,F]) Y a1 aw (by show aX [xb] s.O (s.nx+6)=ae;simp only[aX];exact U) y y (by simp[z]) y y y (by simp[only,j]) Y dK dK λid t gb T' bl a4 p a5=>?_;have a6:D.cells (.p e)=[.p e]:=by simp[D.cells,F]
 rw[a6];have bm:id<s.nx+10:=by rcases p with⟨H,_⟩|⟨I,f⟩;exact U;simp only[aX,bD]at f;split at f;cases f;have:=k.lt f;omega
 have bn:id≠xb:=by rcases p with⟨H,_⟩|⟨I,f⟩;exact EA;simp only[aX,bD]at f;grind
 have bo:∀c r,c<s.nx->s.O c=J r->(∀t C,r≠.row 1 t C)->c≠id:=by
  rintro c r g G hn rfl;rcases p with⟨H,_⟩|⟨I,f⟩
  grind;simp only[aX,bD]at f;grind
 have bs:id≠s.nx+6:=a4;have v:∀c,c≠xb->c≠id->c≠s.nx+6->bp (am (am (aX [xb] s.O) (s.nx+6) (J (.row 1 gb [[.p e]]))) id (J (.row 1 t (fC K++[[D.p e]])))) (am (only [xb] s.O) xb (J (.row 2 xg [bI [.p (S a),i] [.sl id t 0 (fC K++[[D.p e]]).length 1 Z] 1]))) c=s.O c:=by intro c L k2 k3;simp only[bp];rw[ai k2,ai k3,ai L];simp only[only,aX,bD,ap L];cases s.O c<;>rfl
 have bu:bp (am (am (aX [xb] s.O) (s.nx+6) (J (.row 1 gb [[.p e]]))) id (J (.row 1 t (fC K++[[D.p e]])))) (am (only [xb] s.O) xb (J (.row 2 xg [bI [.p (S a),i] [.sl id t 0 (fC K++[[D.p e]]).length 1 Z] 1]))) xb=J (.row 2 xg [[.p (S a),.sl id t 0 (fC (K++[e])).length 1 Z]]):=by simp only[bp];rw[ai y,ai (by omega:xb≠s.nx+6)];simp[aX,bI]
 have bA:bp (am (am (aX [xb] s.O) (s.nx+6) (J (.row 1 gb [[.p e]]))) id (J (.row 1 t (fC K++[[D.p e]])))) (am (only [xb] s.O) xb (J (.row 2 xg [bI [.p (S a),i] [.sl id t 0 (fC K++[[D.p e]]).length 1 Z] 1]))) id=J (.row 1 t (fC (K++[e]))):=by simp only[bp,bi];simp[fC]
 have a9:∀c,c<42->T' c=s.T c:=λc g=>by rw[a5 c y y y];exact cj
 have bH:=k.lt n;have bL:∀c,c<u->c≠id:=qM;refine W _ e ⟨U,U,⟨U,(v aP o U y).trans n⟩,⟨_,U,ar,.inr ak⟩,λeJ hz=>?_,ak,ac,ad,o,al,aw,λc g=>?_,λc g=>?_⟩ a9;grind;have g:aO<=c:=g;exact(v c y y y).trans (k c y);exact(v c y y y).trans U
theorem aiu{d:Nat}(t:VT.ok Ty.MG (.agg [V,E]))(v:bC=[S a,pc,cE,cU,db])(w:wI a pc cE cols fq fw fD)(hT:Fk bC)(ao:Sl 9 aR bH)(ax:∀A∈bH,Row Ty.jy A/\RT 3 A)(a6:bH.length<=10)(f:qD V E aR aS aB Q d u aP bB xb xg bC a cols.length [] s)(l:s.T 29=.p aR)(h:s.T 30=.p (I bH.length))(g:s.T 31=.p (I 0))(hQ:∀b K,fZ K<=10->qD V E aR aS aB Q d u aP bB xb xg bC a cols.length K b->ag (.exit 2) b):bx (X af) (.loop Nn) s ag:=by
 refine⟨λc s=>∃i:Nat,c=bH.length-i/\i<=bH.length/\(∃K,fZ K<=i/\qD V E aR aS aB Q d u aP bB xb xg bC a cols.length K s)/\s.T 29=.p aR/\s.T 30=.p (I bH.length)/\s.T 31=.p (I i),⟨_,0,rfl,y,dK,l,h,g⟩,?_⟩;clear f l h g;rintro c s ⟨i,rfl,hi,⟨K,hR,f⟩,l,h,g⟩;by_cases x:i<bH.length
 .have z:bH[i]? =J bH[i]:=Y
  obtain⟨B,ay⟩:=ax _ (bJ x);obtain⟨C,F,G,H,L,M,N,P,R,p,aE,aI⟩:=(I4 ar).sh;have aO:Gh.nm C:=by rw[p]at B;obtain⟨_,_,e,⟨j,rfl,hb⟩,_⟩:=Row.cons ar;cases e;exact hb
  rw[p]at z B ay;have a0:=lW (i:=i) y;have a7:=f.gp;have a1:=f.fr;simp(disch:=omega)[Nn,l,h,g,x,dm ao,z,p,ft,D.cells,uP,zh,dw,aE,aI,bI,binOp,aC];intro n;have W:∀(q:Nat->D) (m j:Nat) (ab:Nat->Nat),s.nx+1+4<=m->(∀c,c<31->c≠10->c≠16->c≠17->c≠18->q c=s.T c)->qD V E aR aS aB Q d u aP bB xb xg bC a cols.length K {T:=q,O:=am s.O (s.nx+1+2) (J (.row 9 (n (s.nx+1+2)) [[.p (S C),.p (I G),.p (I H),.p (I L),.p (I M),.p (I N),.p (S F),.p P,.p R]])),nx:=m,bs:=j,gm:=ab}:=λq m j ab a8 ac=>f.next ak (λc hk=>ai y) aw ((a1.mono aw).am aw)
  have ad:∀b o,fZ o<=i+1->qD V E aR aS aB Q d u aP bB xb xg bC a cols.length o b->(∀c,c=29\/c=30\/c=31->b.T c=s.T c)->bx (X af) Yz b λe k=>match e with|.normal=>∃m,m<bH.length-i/\∃i:Nat,m=bH.length-i/\i<=bH.length/\(∃K,fZ K<=i/\qD V E aR aS aB Q d u aP bB xb xg bC a cols.length K k)/\k.T 29=.p aR/\k.T 30=.p (I bH.length)/\k.T 31=.p (I i)|e=>ag e k:=by intro b o a2 al ac;simp[Yz,ac 31 y,g,binOp,aC,a0];intro a9;refine⟨_,y,i+1,rfl,y,⟨o,a2,al.next (λc hk=>?_) U aw (al.fr.mono aw)⟩,U,U,Y⟩;simp only[bP];repeat grind
  refine ahR (ob:=s.nx+1+2) (og:=n (s.nx+1+2)) t (by have:=w.a;omega) v aO (W _ _ _ _ y λc k1 r k3 k4 k5=>?_) Y (orest:=[.p (I G),.p (I H),.p (I L),.p (I M),.p (I N),.p (S F),.p P,.p R]) Y λs1 j g1 g2 g3 g4=>?_;exact cj;have a3:∀c,c<32->c≠10->s1.T c=s.T c:=λc k1 r=>by rw[g1 c y];exact cj
  have g3:s.nx+1+4<=s1.nx:=g3;have an:qD V E aR aS aB Q d u aP bB xb xg bC a cols.length K s1:=by have:=W s1.T s1.nx s1.bs s1.gm g3 (λc k1 r k3 k4 k5=>a3 c y r);rw[show am s.O (s.nx+1+2) _=s1.O from U]at this;exact ar
  cases j with|false=>simp[-az,XH,g4];exact ad s1 K y an ak|true=>simp[-az,XH,g4];refine al6 (ob:=s.nx+1+2) (og:=n (s.nx+1+2)) t v w hT ar ar y an U U λs2 a4 w1 w2=>?_;exact ad s2 (K++[a4]) U w1 ak
 have a5:i=bH.length:=y;subst a5;simp[-az,Nn,h,g,binOp,aC];intro n;refine hQ _ K y (f.next (λc hk=>?_) U aw (f.fr.mono aw));exact cj
end
@[simp ↓]def ars{b c d:dh}{e:D->ah->Nat->Prop}:aN eZ (.oY b c d) s e=(match s.ev b,s.ev c with
 |.mp id t,.p (.v (.string a))=>match s.O id with|some (.iq g f)=>g=t/\e .any (am s.O id (J (.iq g (λb=>if b=a then J (s.ev d) else f b)))) s.nx|_=>False
 |_,_=>False):=_root_.id rfl
section
variable [Gh]
def Ay(a:ByteArray->Option D):Prop:=∀b d,a b=J d->∃A,d=.p (.agg A)/\Row Ty.ma A
def apP:Row Ty.ma [I 0,I 0,S ⟨#[]⟩]:=⟨⟨0,rfl,eB,eB⟩,⟨0,rfl,eB,eB⟩,⟨⟨#[]⟩,rfl,eB⟩,trivial⟩
def Ay.VQ(b:Ay f)(a:ByteArray):∃A,vr Z (.p (.agg [I 0,I 0,S ⟨#[]⟩])) (f a)=.p (.agg A)/\Row Ty.ma A:=by cases c:f a with|none=>exact⟨_,rfl,apP⟩|some d=>obtain⟨A,rfl,e⟩:=b a d c;exact⟨A,rfl,e⟩
theorem Ay.put(c:Ay f)(g:Row Ty.ma A):Ay (λE=>if E=a then J (.p (.agg A)) else f E):=by intro e d b;simp at b;split at b;grind;exact c e d b
theorem amB{pb pg:Nat}{pe pr:ByteArray}{pt pl prr:Int}(g:Fr s.O s.nx)(l:s.T 12=.ptr pb pg 5 0 0)(h:s.O pb=J (.row 5 pg [[.p (S pe),.p (S pr),.p (I pt),.p (I pl),.p (I prr)]]))(m: -9223372036854775808<=pt/\pt<=9223372036854775807)(n: -9223372036854775808<=pl/\pl<=9223372036854775807)(o: -9223372036854775808<=prr/\prr<=9223372036854775807)(p:∀b e i f,b.T 13=.mp e i->b.O e=J (.iq i f)->Ay f->s.nx<=e->e<b.nx->Fr b.O b.nx->(∀a,a<s.nx->b.O a=s.O a)->(∀a,a<68->a≠13->b.T a=s.T a)->ag .normal b):
 bx (X af) (.dg 15 aa (aZ 68 (.Av 0 (.p (.agg [aH,aH,aF])))::aZ 72 (xF 12 3)::aZ 73 (jP 1 72)::aZ 75 (xF 12 4)::aZ 76 (jP 1 75)::oF 69 12 2::aZ 70 (jP 1 69)::q 71 (oW 134 70)::SM)) s ag:=by
 have r:=g.lt h;have t:s.O s.nx=ae:=g _ y;have v:pb≠s.nx:=y;intro w;refine⟨[pb],?_⟩;simp(disch:=omega)[only,l,h,v,ba];refine BS.r ?_;refine⟨r,?_⟩;refine LY m λu x N z=>?_;simp(disch:=omega)[SM];refine LY n λO A P C=>?_;simp(disch:=omega)[Zv];refine LY o λD F Q G=>?_;simp(disch:=omega)[Z5];have H:Ay (λ_=>ae):=λa d K=>by cases K
 have L:∀(B:ah),(∀a,a≠s.nx->B a=only [pb] s.O a)->∀a,a<s.nx->bp (aX [pb] s.O) B a=s.O a:=λB j a c=>by simp only[bp,aX,bD];by_cases W:a=pb;rw[aU W,j a y];simp[only,W];rw[ap W,j a y];simp only[only,bD,ap W];grind
 refine p _ s.nx (w s.nx) (λE=>if E=EZ then J (.p (.agg F)) else if E=Ng then J (.p (.agg A)) else if E=uG then J (.p (.agg x)) else ae) Y ?_ (((H.put z).put C).put G) y aw (λa c=>?_) (λa c=>L _ U a c) λa R T=>?_;simp[bp,aX,t];rfl;have c:D<=a:=c;have M:a≠s.nx:=y;have k:a≠pb:=y;simp only[bp,aX,bD,ap k,g a y];rw[ai M];simp[only,k];exact cj
structure acy(s0:St)(pc:P)(n c:Nat)(l:List (List P))(s:St):Prop where
 low:∀k,k<s0.nx->s.O k=s0.O k
 fT:∀k,k<79->k≠14->k≠16->s.T k=s0.T k
 N:jq s.O s0.nx 3 l (s.T 14)
 h80:s.T 80=.p pc
 h81:s.T 81=.p (I n)
 h82:s.T 82=.p (I c)
 akN:∀r∈l,Row Ty.ma r
 gp:s0.nx<=s.nx
 fr:Fr s.O s.nx
theorem air{s0:St}{mb mg:Nat}(E:Sl 6 pc cols)(hc:cols.length<=1000)(F:∀A∈cols,Row Ty.Ab A)(aB:s0.T 13=.mp mb mg)(om:s0.O mb=J (.iq mg f))(G:Ay f)(aE:mb<s0.nx)(d:acy s0 pc cols.length 0 [] s)(H:∀b bA,fZ bA=cols.length->acy s0 pc cols.length cols.length bA b->ag (.exit 6) b):bx (X af) (.loop MA) s ag:=by
 refine⟨λa s=>∃c:Nat,a=cols.length-c/\c<=cols.length/\∃bA:List (List P),bA.length=c/\acy s0 pc cols.length c bA s,⟨_,0,rfl,y,[],rfl,d⟩,?_⟩;clear d;rintro a s ⟨c,rfl,aI,bA,k,d⟩;have K:=d;obtain⟨L,l,M,N,n,e,aO,aP,o⟩:=K;by_cases p:c<cols.length;have q:cols[c]? =J cols[c]:=Y;obtain⟨p1,q1,r,⟨nm,rfl,_⟩,O⟩:=Row.cons (F _ (bJ p));obtain⟨p2,q2,rfl,⟨Q,rfl,_⟩,R⟩:=Row.cons O;obtain⟨p3,q3,rfl,⟨T,rfl⟩,g3⟩:=Row.cons R;obtain⟨p4,q4,rfl,⟨V,rfl,_⟩,W⟩:=Row.cons g3;obtain⟨p5,q5,rfl,⟨cn,rfl,_⟩,g5⟩:=Row.cons W;obtain⟨p6,q6,rfl,⟨cz,rfl,_⟩,g6⟩:=Row.cons g5;obtain rfl:=Row.nil g6;rw[r]at q;have ab:=lW (i:=c) y;have ac:s.T 13=.mp mb mg:=U;have ad:s.O mb=J (.iq mg f):=U;obtain⟨A,u,v⟩:=G.VQ nm;obtain⟨w,x,z,er⟩:=acn v;rw[er]at u v;have aR:mb<s.nx:=y;have al:mb≠s.nx+1+2:=y;simp(disch:=omega)[-lB,MA,N,n,e,p,dm E,q,r,ft,ba,D.cells,uP,zh,Cz,dw,bI,binOp,aC,ac,ad,al,uN,KP,u,fP,dp,dv];intro B aS;refine⟨y,BS.l ?_⟩;have C:∀m,s.nx+1+4<=m->Fr (am s.O (s.nx+1+2) (J (.row 6 (B (s.nx+1+2)) [[.p (S nm),.p (.v (.int .i64 Q)),.p (.v (.bool T)),.p (.v (.int .i64 V)),.p (.v (.int .i64 cn)),.p (S cz)]]))) m:=λm hm=>(o.mono y).am y;refine uI (ys:=[[I w,I x,S z]]) (by simpa using M.aL o λa hk=>ai y) (by simp[fO,fF]) dK dK aw λid t an ao=>?_;have a0:id<s.nx+1+4+8:=by rcases ao with⟨ax,_⟩|⟨a1,ax,e2⟩;exact U;have:=(C (s.nx+1+4) y).lt e2;omega
 simp[abc,e,binOp,aC,ab,-cG,-List.length_append];intro a2;refine⟨_,y,c+1,rfl,y,bA++[[I w,I x,S z]],by simp[k],?_⟩;refine⟨λa hk=>?_,λa g h j=>?_,.inr ⟨id,t,an,Y,Y⟩,ar,ar,Y,λr' a3=>?_,aw,(C (s.nx+1+4+8+2) y).am y⟩;show am (am s.O _ _) _ _ a=_;rw[ai y,ai y];exact U;refine tV ?_ (l a g h j);exact cj;grind;have ay:c=cols.length:=y;subst ay;simp[-az,MA,n,e,binOp,aC];intro B;refine H _ bA k ⟨L,λa g h j=>?_,ar,ar,ar,ar,U,aw,bK⟩;refine tV ?_ (l a g h j);exact cj
def aal{d:Nat}(b:jq s.O m n bA (s.T d)):∃bn s1,kh s s1/\Sl n bn bA/\s1.T d=.p bn/\s1.nx=s.nx/\(∀v,v<m->s1.O v=s.O v)/\(∀v,s1.O v=s.O v\/s1.O v=ae)/\(∀v E,s.T v=.p E->s1.T v=.p E)/\(∀v i t a e c,s.T v=.ptr i t a e c->s1.T v=.ptr i t a e c):=by rcases b with⟨rfl,f⟩|⟨id,t,j,f,g⟩;exact⟨_,s,.refl s,.nil,f,rfl,U,U,U,U⟩;refine⟨.im bA n Z,_,.step (λ_=>False) id t n bA g (.refl _),.im _ _,?_,rfl,λv h=>?_,λv=>?_,λv E b=>?_,λv i k a e c b=>?_⟩;show gx id t n bA (s.T d)=_;rw[f];simp only[gx,bf,bV,kG,aT,gK];simp;show j8 (λ_=>False) id t n bA s.O v=s.O v;rw[Iy,ai y];show j8 (λ_=>False) id t n bA s.O v=s.O v\/j8 (λ_=>False) id t n bA s.O v=ae;rw[Iy];by_cases h:v=id;exact U;exact U;show gx id t n bA (s.T v)=_;rw[b];rfl;show gx id t n bA (s.T v)=_;rw[b];rfl
def Ec{e:cR}:∀(a c:List aA) (s:St) (d:St->Prop),eN e (a++c) s d=eN e a s λb=>eN e c b d
 |[],_,_,_=>rfl|f::a,c,s,d=>by simp only[kR,eN];congr 1;funext b;exact Ec a c b d
theorem akI{o:Nat}{e:P}(hl:K.length<1000)(x:pO m e)(z:qD V E aR aS aB Q o u aP bB xb xg bC a m K s)(A:s.T 14=.p e)(B:∀b,qD V E aR aS aB Q o u aP bB xb xg bC a m (K++[e]) b->(∀c,c<94->b.T c=s.T c)->ag .normal b):bx (X af) aaE s ag:=by
 have F:=z;obtain⟨⟨g2,a2,b2⟩,⟨g3,a3,b3⟩,⟨a7,H⟩,⟨p,q,k,r⟩,ao,fT,I,L,M,N,ax,g,ay⟩:=F;have R:e.cells=[e]:=by obtain⟨vs,f,_⟩:=x;exact ig f
 have aE:=g.lt k;have aI:∀c t,s.O c=J (.row 1 t (fC K))->c≠xb:=by rintro c t f rfl;rw[k]at f;cases f
 have W:D.cells (.p e)=[.p e]:=by simp[D.cells,R]
 have h3:∀(h:Nat->Nat) (l:St->Prop),l {T:=eF (eF (eF s.T 94 (.ptr xb xg 2 0 1)) 95 p) 96 (.p e),O:=s.O,nx:=s.nx+7,bs:=s.nx,gm:=h}->eN (X af) [oF 94 8 1,oL 95 1 94,G 96 14] {s with bs:=s.nx,nx:=s.nx+7,gm:=h} l:=by intro h l hK;simp(disch:=omega)[q,k,ba,A];exact hK
 intro h;refine(Ec [oF 94 8 1,oL 95 1 94,G 96 14] _ _ _).mpr (h3 h _ ?_);refine Ud (d:=.p e) Y U Y r aw (g _ aw) y y (by simp[q]) y y y k Y dK dK aw aw (λid t v=>?_) λid t gb T' ab ac aO w ad=>?_;rcases r with⟨e1,e2⟩|⟨i,g',_,e2,ho⟩
 grind;grind;rw[W];have a0:id<s.nx+7:=by rcases w with⟨v,_⟩|⟨g0,f⟩;exact U;have:=g.lt f;omega
 have a1:∀c n,c<s.nx->s.O c=J n->(∀t C,n≠.row 1 t C)->c≠id:=by
  rintro c n j hb hn rfl;rcases w with⟨v,_⟩|⟨g0,f⟩
  grind;grind
 have al:∀c,c<94->T' c=s.T c:=λc j=>by rw[ad c y y y];exact cj
 have a4:=g.lt H;have a5:id≠s.nx+3:=ac;have an:∀c,c≠xb->c≠id->c≠s.nx+3->am (am (am s.O (s.nx+3) (J (.row 1 gb [[D.p e]]))) id (J (.row 1 t (fC K++[[D.p e]])))) xb (J (.row 2 xg [bI [.p (S a),p] [.sl id t 0 (fC K++[[D.p e]]).length 1 Z] 1])) c=s.O c:=U;refine B _ ⟨U,U,ak,⟨.sl id t 0 (fC (K++[e])).length 1 Z,U,bi.trans (by simp[bI]),.inr ⟨id,t,ab,rfl,(ai y).trans (bi.trans (by simp[fC]))⟩⟩,λeJ hz=>?_,ak,I,L,M,N,aw,λc j=>?_,λc j=>?_⟩ al;grind;have j:s.nx+7<=c:=j;exact(an c y y y).trans (g c y);grind
end
section
variable [Gh]
def Yy(b:D):Prop:=(∃E,b=.p E)\/∃i t a d c,b=.ptr i t a d c
theorem adu{k:Nat}{W:List P}(a1:bC=[S a,pc,cE,cU,db])(w:wI a pc cE cols fq fw fD)(a4:Sl 5 aS bM)(a5:∀A∈bM,Row Ty.yU A)(b0:bM.length<=10)(b1:W.length<=10)(ab:∀d,d=4\/d=5\/d=19\/d=20\/d=21->Yy (Q d))(g:qD V E aR aS aB Q k u aP bB xb xg bC a cols.length W s)(x:s.T 53=.p aS)(o:s.T 54=.p (I bM.length))(l:s.T 55=.p (I 0))(hQ:∀b K,fZ K<=20->qD V E aR aS aB Q k u aP bB xb xg bC a cols.length K b->ag (.exit 4) b):cH (X af) (.loop afQ) s ag:=by
 refine⟨λd s=>∃v:Nat,d=bM.length-v/\v<=bM.length/\(∃K,fZ K<=10+v/\qD V E aR aS aB Q k u aP bB xb xg bC a cols.length K s)/\s.T 53=.p aS/\s.T 54=.p (I bM.length)/\s.T 55=.p (I v),⟨_,0,rfl,y,ak,x,o,l⟩,?_⟩;clear g x o l;rintro d s ⟨v,rfl,hj,⟨K,hR,g⟩,x,o,l⟩;have b2:=g.gp;have C:=g.fr;show cH _ (.seq _ (.seq _ (.seq _ _))) _ _;refine bU br ?_;by_cases F:v<bM.length
 .have ac:bM[v]? =J bM[v]:=Y
  obtain⟨p1,q1,e1,⟨n,rfl,a6⟩,g1⟩:=Row.cons (a5 _ (bJ F));obtain⟨p2,q2,rfl,⟨p,rfl,b3⟩,g2⟩:=Row.cons g1;obtain⟨p3,q3,rfl,⟨G,rfl,b4⟩,g3⟩:=Row.cons g2;obtain⟨p4,q4,rfl,⟨H,rfl,b5⟩,g4⟩:=Row.cons g3;obtain⟨p5,q5,rfl,⟨L,rfl,b6⟩,g5⟩:=Row.cons g4;obtain rfl:=Row.nil g5;rw[e1]at ac;have b8:=Gh.Cb n a6;have a9:=lW (i:=v) y;obtain⟨a7,q⟩:=g.h7;have b9:=C.lt q;rw[a1]at q;simp[-az,o,l,binOp,aC,F];intro bb;refine bU br ?_;simp[-az];show cH _ (.seq _ (.seq (.seq _ _) (.seq _ _))) _ _;refine bU br ?_;simp(disch:=omega)[x,l,dm a4,ac,e1,F,ft,D.cells,uP,zh,dw,bI];intro M;have ad:∀b z,fZ z<=10+v+1->qD V E aR aS aB Q k u aP bB xb xg bC a cols.length z b->(∀d,d=53\/d=54\/d=55->b.T d=s.T d)->cH (X af) aba b λe r=>match e with|.normal=>∃m,m<bM.length-v/\∃v:Nat,m=bM.length-v/\v<=bM.length/\(∃K,fZ K<=10+v/\qD V E aR aS aB Q k u aP bB xb xg bC a cols.length K r)/\r.T 53=.p aS/\r.T 54=.p (I bM.length)/\r.T 55=.p (I v)|e=>ag e r:=by intro b z ca al an;show∃s1,kh b s1/\bx _ (.dg _ _ _) s1 _;refine⟨b,.refl b,?_⟩;simp[an 55 y,l,binOp,aC,a9];intro ao;refine⟨_,y,v+1,rfl,y,⟨z,y,al.next (λd j=>?_) U aw (al.fr.mono aw)⟩,U,U,Y⟩;simp only[bP];repeat grind
  have bd:∀(N:Nat->D) (m B:Nat) (ax:Nat->Nat),s.nx+1+4<=m->(∀d,d<22->d≠12->d≠13->N d=s.T d)->qD V E aR aS aB Q k u aP bB xb xg bC a cols.length K {T:=N,O:=am s.O (s.nx+1+2) (J (.row 5 (M (s.nx+1+2)) [[.p (S n),.p (S p),.p (.v (.int .i64 G)),.p (.v (.int .i64 H)),.p (.v (.int .i64 L))]])),nx:=m,bs:=B,gm:=ax}:=λN m B ax cb an=>g.next ak (λd j=>ai y) aw ((C.mono aw).am aw)
  refine bU br ?_;have ay:(⟨#[95]⟩:ByteArray).size=1:=rfl;have aE:n.size+(⟨#[95]⟩:ByteArray).size<=9223372036854775807:=by rw[ay];omega
  have cc:n.size+(⟨#[95]⟩:ByteArray).size+p.size<=9223372036854775807:=by rw[ay];omega
  cases hb:((n++⟨#[95]⟩++p).toList==a.toList) with
  |false=>simp(disch:=omega)[-az,ba,binOp,gD,hb,a7,q];intro ao;refine⟨aE,y,?_⟩;refine ad _ K y (bd _ _ _ _ y cj) cj;all_goals exact cj
  |true=>
   simp(disch:=omega)[-az,ba,binOp,gD,hb,a7,q];intro ao;refine⟨aE,y,?_⟩;refine bU br ?_;refine amB (pb:=s.nx+1+2) (pg:=M (s.nx+1+2)) (pe:=n) (pr:=p) (pt:=G) (pl:=H) (prr:=L) ((C.mono aw).am aw) Y Y y y y λs1 aI bk f bl wm wv aO bm cg R wT=>?_;have ch:∀d,d<56->d≠12->d≠13->s1.T d=s.T d:=λd k1 k2 k3=>by rw[wT d y k3];exact cj
   have aO:s.nx+1+4+9<=aI:=aO;have R:∀d,d<s.nx+1+4+9->s1.O d=am s.O (s.nx+1+2) (J (.row 5 (M (s.nx+1+2)) [[.p (S n),.p (S p),.p (.v (.int .i64 G)),.p (.v (.int .i64 H)),.p (.v (.int .i64 L))]])) d:=U;have bo:s1.O aP=J (.row 5 bB [[.p (S a),.p pc,.p cE,.p cU,.p db]]):=by rw[R aP y,ai y];exact q
   have bu:s1.T 7=.ptr aP bB 5 0 0:=U;show cH _ (.seq _ (.seq _ _)) _ _;refine bU br ?_;simp;intro ck;refine bU br ?_;simp(disch:=omega)[bu,bo,ba,dO w.pc];intro cl;have cm:=w.lc;refine air (pc:=pc) (cols:=cols) (mb:=aI) (mg:=bk) (f:=f) (s0:=s1) w.pc y w.rc bl wm wv bm ⟨U,cj,.inl Y,Y,Y,Y,ak,aw,bK⟩ λs2 bA hl bH=>?_;obtain⟨bL,cn,N2,_,_,_,cq,cr,bO⟩:=bH;obtain⟨bn,s3,F3,hq,bR,n3,o3,bS,p3,q3⟩:=aal N2;have cs:∀d,d<56->d≠12->d≠13->d≠14->d≠16->s2.T d=s.T d:=ak;have a0:∀d,d<56->d≠12->d≠13->d≠14->d≠16->Yy (s.T d)->s3.T d=s.T d:=λd k1 k2 k3 k4 k5 ab=>by rcases ab with⟨E,e⟩|⟨i,t,a,B,c,e⟩;exact U;rw[q3 d i t a B c U,e]
   have bT:∀d,d<s.nx->s3.O d=s.O d:=λd j=>by rw[o3 d y,bL d y];rw[R d y,ai y]
   have be:∀d,d=2\/d=3\/d=4\/d=5\/d=7\/d=8\/d=19\/d=20\/d=21->Yy (s.T d):=by
    intro d j;obtain⟨g2,a2,_⟩:=g.h2;obtain⟨g3,a3,_⟩:=g.h3;obtain⟨dr,a8,_⟩:=g.h8;rcases j with rfl|rfl|rfl|rfl|rfl|rfl|rfl|rfl|rfl
    exact .inr U;exact .inr U;rw[g.fT 4 y];exact U;rw[g.fT 5 y];exact U;exact .inr U;exact .inr U;rw[g.fT 19 y];exact U;rw[g.fT 20 y];exact U;rw[g.fT 21 y];exact U
   have bX:qD V E aR aS aB Q k u aP bB xb xg bC a cols.length K s3:=g.next (λd j=>a0 d y y y y y U) bT y λd j=>by rcases bS d with h|h;rw[h];exact bO d y;exact ar
   refine⟨s3,F3,akI y ⟨bA,hq,hl,U⟩ bX bR λs4 w1 w2=>?_⟩;refine ad s4 (K++[bn]) U w1 λd j=>(w2 d y).trans (a0 d y y y y y ?_);rcases j with rfl|rfl|rfl
   exact .inl U;exact .inl U;exact .inl U
 have bZ:v=bM.length:=y;subst bZ;simp[-az,o,l,binOp,aC];intro bb;refine bU br ?_;simp[-az];refine hQ _ K y (g.next (λd j=>?_) U aw bK);exact cj
end
section
variable [Gh]
def Od(c:List P):Prop:=∃(a:ByteArray) (b:P),c=[S a,b]/\a.size<=400/\CT.ok (Ty.aY [Ty.aY Ty.ma 1000] 100) b
structure Eb(e0 x op pp q:P)(O:ah)(nx n i:Nat)(L:List (List P))(s:St):Prop where
 h2:∃g,s.T 2=.ptr nx g 2 0 0/\s.O nx=J (.row 2 g [[.p e0,.p x]])
 h3:∃g,s.T 3=.ptr (nx+1) g 2 0 0/\s.O (nx+1)=J (.row 2 g [[.p op,.p pp]])
 h4:∃g,s.T 4=.ptr (nx+2) g 1 0 0/\s.O (nx+2)=J (.row 1 g [[.p aD]])
 h5:∃g dl,s.T 5=.ptr (nx+3) g 1 0 0/\s.O (nx+3)=J (.row 1 g [[dl]])/\jq s.O (nx+4) 2 L dl
 h19:s.T 19=.p q
 h20:s.T 20=.p (I n)
 h21:s.T 21=.p (I i)
 rows:∀r∈L,Od r
 gp:nx+3<s.nx
 fr:Fr s.O s.nx
 low:∀k,k<nx->s.O k=O k
theorem ajC{a:ah}(c:de a m 1 (fC K) d):∃b,tC a 1 (K.map λE=>[E]) d b/\∀i,b=J i->m<=i:=by
 rcases c with⟨e,rfl⟩|⟨id,t,g,rfl,f⟩;obtain rfl:K=[]:=by simpa[fC]using e
 exact⟨ae,.inl Y,ak⟩;refine⟨J id,.inr ⟨id,t,rfl,Y,by rw[f];simp[fC]⟩,ak⟩
def aim{a:ah}(b:jq a m n bA d):de a m n (bA.map (·.map .p)) d:=by rcases b with⟨rfl,rfl⟩|⟨id,t,c,rfl,e⟩;exact .inl Y;exact .inr ⟨id,t,c,Y,e⟩
theorem aaS{B:ah}{f:Nat}{s2:St}{dr:D}(hL:H.length<900)(C:Eb V E aR aS bn B f n i H s)(W:a.size<=400)(hR:K.length<=20)(hv:∀g∈K,pO m g)(hm:m<=1000)(h8:s2.T 8=.ptr xb xg 2 0 0)(G:s2.O xb=J (.row 2 xg [[.p (S a),dr]]))(c8:de s2.O s.nx 1 (fC K) dr)(aB:s.nx<=xb)(hT:∀e,e=2\/e=3\/e=4\/e=5\/e=19\/e=20\/e=21->s2.T e=s.T e)(hO:∀e,e<s.nx->s2.O e=s.O e)(hn:s.nx<=s2.nx)(o:Fr s2.O s2.nx)(hQ:∀b A,Od A->Eb V E aR aS bn B f n i (H++[A]) b->ag .normal b):cH (X af) Z3 s2 ag:=by
 obtain⟨ab,I,aE⟩:=ajC c8;have aI:=C.gp;have u:ab≠J xb:=by rcases I with⟨k,_⟩|⟨id,t,k,_,p⟩;exact U;grind
 obtain⟨fz,g,s3,F,L,f1,f2,f3,f4,f5,f6,f7,M⟩:=Lb G ar u;obtain⟨⟨g2,a2,b2⟩,⟨g3,a3,b3⟩,⟨g4,a4,b4⟩,⟨q,bX,a5,b5,N⟩,aO,aP,a0,rows,_,fr,a1⟩:=C;have O3:∀e,e<s.nx->s3.O e=s.O e:=ak;have T3:∀e E,e=2\/e=3\/e=4\/e=5\/e=19\/e=20\/e=21->s.T e=.p E->s3.T e=.p E:=U;have ac:∀e i t a P c,e=2\/e=3\/e=4\/e=5\/e=19\/e=20\/e=21->s.T e=.ptr i t a P c->s3.T e=.ptr i t a P c:=U;have a8:s3.T 8=.ptr xb xg 2 0 0:=by rw[f6,h8,f3]
 have b8:s3.O xb=J (.row 2 xg [[.p (S a),.p g]]):=by rw[f7];simp[f1,f2]
 have yc:=ig L;have ad:=ac 5 _ _ _ _ _ y a5;have Q:s3.O (f+3)=J (.row 1 q [[bX]]):=U;have w:Fr s3.O s3.nx:=λe h=>by
  rw[f5]at h;have a6:=o.lt G;rcases I with⟨k,_⟩|⟨id,t,k,_,p⟩
  rw[M e y U];exact o e h;have:=o.lt p;rw[M e y ak];exact o e h
 have n3:s.nx<=s3.nx:=y;have al:de s3.O (f+4) 2 (H.map (·.map .p)) bX:=(aim N).YW λe t h an=>O3 e (fr.lt an);have R:Od [S a,g]:=⟨a,g,rfl,W,_,L,Y,dK,λA j=>by obtain⟨eJ,hz,rfl⟩:=List.mem_map.1 j;obtain⟨vs,h1,h2,x⟩:=hv eJ hz;exact⟨⟨vs,h1,y,y,x,LT.zero⟩,trivial⟩,LT.zero⟩
 have ao:D.cells (.p (.agg [S a,g]))=[.p (S a),.p g]:=rfl;have x:∀(l:Nat->Nat) (z:St->Prop),z {T:=eF (eF (eF s3.T 105 (.ptr (f+3) q 1 0 0)) 106 bX) 107 (.p (.agg [S a,g])),O:=s3.O,nx:=s3.nx+7,bs:=s3.nx,gm:=l}->eN (X af) [oF 105 5 0,oL 106 1 105,cA 107 2 8] {s3 with bs:=s3.nx,nx:=s3.nx+7,gm:=l} z:=by intro l z hK;simp(disch:=omega)[a8,b8,ad,Q,ba];exact hK
 show∃s1,kh s2 s1/\bx _ (.dg _ _ _) s1 _;refine⟨s3,F,λl=>?_⟩;refine(Ec [oF 105 5 0,oL 106 1 105,cA 107 2 8] _ _ _).mpr (x l _ ?_);have a7:∀id t,bX=.sl id t 0 (H.map (·.map D.p)).length 2 Z->f+3≠id:=λid t k=>by rcases N with⟨_,e2⟩|⟨v,g',hj,e2,_⟩;grind;grind
 refine Ud (hb:=f+3) (d:=.p (.agg [S a,g])) Y U Y al aw (w _ aw) y y ar y y y Q Y dK dK aw aw U λid t gb T' ax u a9 hw ay=>?_;rw[ao];have bb:id<s3.nx+7:=by rcases hw with⟨k,_⟩|⟨g0,p⟩;exact U;have:=w.lt p;omega
 have bd:id≠s3.nx+3:=u;have be:∀e,e<105->T' e=s3.T e:=λe h=>by rw[ay e y y y];exact cj
 have r:∀e,e≠f+3->e<s.nx->e<f+4->am (am (am s3.O (s3.nx+3) (J (.row 2 gb [[D.p (S a),D.p g]]))) id (J (.row 2 t (H.map (·.map D.p)++[[D.p (S a),D.p g]])))) (f+3) (J (.row 1 q [bI [bX] [.sl id t 0 (H.map (·.map D.p)++[[D.p (S a),D.p g]]).length 2 Z] 0])) e=s.O e:=λe k1 k2 k3=>by rw[ai k1,ai y,ai y];exact U
 refine hQ _ [S a,g] R ⟨⟨g2,U,(r f y y y).trans b2⟩,⟨g3,U,(r (f+1) y y y).trans b3⟩,⟨g4,U,(r (f+2) y y y).trans b4⟩,⟨q,_,U,bi.trans (by simp[bI];rfl),.inr ⟨id,t,ax,Y,U⟩⟩,U,U,U,λA j=>?_,aw,λe h=>?_,λe h=>(r e y y y).trans U⟩;rcases bg.1 j with j|j
 exact U;rw[bD.1 j];exact R;have h:s3.nx+7<=e:=h;show am (am (am s3.O (s3.nx+3) _) id _) (f+3) _ e=ae;rw[ai y,ai y,ai y];exact w e y
theorem alV{v:ah}{d:Nat}{s0:St}(hm:VT.ok Ty.MG (.agg [V,E]))(w:Sl 9 aR bH)(ho:∀A∈bH,Row Ty.jy A/\RT 3 A)(ab:bH.length<=10)(x:Sl 5 aS bM)(W:∀A∈bM,Row Ty.yU A)(ac:bM.length<=10)(B:H.length<900)(C:Fk bC)(o:Eb V E aR aS bn v d n i H s0)(bZ:∀c,c<s0.nx->s.O c=s0.O c)(ad:∀c,c=2\/c=3\/c=4\/c=5\/c=19\/c=20\/c=21->s.T c=s0.T c)(b0:s0.nx<=s.nx)(F:Fr s.O s.nx)(h7:∃aP bB,s.T 7=.ptr aP bB 5 0 0/\s0.nx<=aP/\s.O aP=J (.row 5 bB [bC.map .p]))(G:∀b A,Od A->Eb V E aR aS bn v d n i (H++[A]) b->ag .normal b):
 cH (X af) (z 5 [oF 25 7 0,oL 26 1 25,q 27 (.build [aF,aD] [(0,1,.t 26)]),q 8 (.alloc 3 2 [aF,aD]),oN (xS 2 8 27)] (.seq (z 4 [oF 28 3 0,oL 29 1 28,q 30 (fQ 29),fR 31 0] (.block 2 (.loop Nn)))
  aeI)) s ag:=by
 obtain⟨aP,bB,L,al,p⟩:=h7;have an:=C;obtain⟨a,pc,cE,cU,db,cols,fq,fw,fD,rfl,f,ao,ax⟩:=an;have ay:=o;obtain⟨⟨g2,a2,b2⟩,⟨g3,a3,b3⟩,⟨g4,a4,b4⟩,⟨g5,bX,a5,b5,c5⟩,b1,b6,b8,rows,b9,ca,cb⟩:=ay;have cc:=F.lt p;have aB:=ig ao;have aE:=ig ax;have ea:=f.a;refine bU br ?_;simp(disch:=omega)[L,p,ba,fh,uP,dw,D.cells,bI];intro g;refine bU br ?_;have aI:s.T 3=.ptr (d+1) g3 2 0 0:=U;have aO:s.O (d+1)=J (.row 2 g3 [[.p aR,.p aS]]):=ak;have cg:d+1<s.nx:=y;simp(disch:=omega)[aI,aO,ba,dO w,ai];intro a0;have a1:qD V E aR aS s0.O s0.T d s0.nx aP bB (s.nx+3) (g (s.nx+3)) [S a,pc,cE,cU,db] a cols.length [] {T:=eF (eF (eF (eF (eF (eF (eF (eF s.T 25 (.ptr aP bB 5 0 0)) 26 (.p (S a))) 27 (.p (.agg [S a,.v (.slice ae 0 0)]))) 8 (.ptr (s.nx+3) (g (s.nx+3)) 2 0 0)) 28 (.ptr (d+1) g3 2 0 0)) 29 (.p aR)) 30 (.p (I bH.length))) 31 (.p (I 0)),O:=am s.O (s.nx+3) (J (.row 2 (g (s.nx+3)) [[.p (S a),.p aD]])),nx:=s.nx+5+4,bs:=s.nx+5,gm:=a0}:=by refine⟨⟨g2,?_,b2⟩,⟨g3,?_,b3⟩,⟨?_,?_⟩,⟨.p aD,Y,Y,.inl ⟨rfl,rfl⟩⟩,ak,λc e=>?_,al,y,y,y,aw,(F.mono aw).am aw,λc e=>?_⟩;exact U;exact ar;simp[L];show am s.O _ _ _=_;rw[ai y];exact p;refine tV ?_ (ad c y);exact cj;show am s.O _ _ _=_;rw[ai y];exact U
 refine aiu hm rfl f C w ho ab a1 Y Y Y λs1 K a6 j=>?_;simp;show cH _ (.seq (.seq _ (.block _ (.loop _))) _) _ _;show cH _ (.seq _ (.block _ (.loop _))) _ _;refine bU br ?_;obtain⟨a8,a9,ch⟩:=j.h3;have bb:s1.O (d+1)=J (.row 2 a8 [[.p aR,.p aS]]):=(j.low _ y).trans ar;simp(disch:=omega)[a9,bb,ba,dO x];intro ck;have bd:∀c,c=4\/c=5\/c=19\/c=20\/c=21->Yy (s0.T c):=by rintro c (rfl|rfl|rfl|rfl|rfl);exact .inr U;exact .inr U;exact .inl U;exact .inl U;exact .inl U
 refine adu rfl f x W ac a6 bd (j.next (λc e=>?_) U aw (j.fr.mono aw)) Y Y Y λs2 r M be=>?_;exact cj;show cH _ (.seq _ _) _ _;refine bU br ?_;obtain⟨⟨cl,cm,cn⟩,⟨cq,cr,cs⟩,⟨bk,bl⟩,⟨cv,bm,u,bo⟩,cw,fT,_,N,cx,_,cy,P,cz⟩:=be;have bu:cF [.p (S a),.p pc,.p cE,.p cU,.p db]=.p (.agg [S a,pc,cE,cU,db]):=jL (l:=[S a,pc,cE,cU,db]);have Q:∀c,c=2\/c=3\/c=4\/c=5\/c=19\/c=20\/c=21->s2.T c=s0.T c:=by rintro c (rfl|rfl|h);grind;grind;exact U
 simp(disch:=omega)[bk,bl,bm,u,ba,bu];intro cJ;rcases bo with⟨R,rfl⟩|⟨id,t,bA,rfl,k⟩
 refine Vl rfl λbL bO=>?_;refine aaS B o y M U f.lc ar u (.inl U) N (λc e=>?_) U aw bK G;refine tV ?_ (Q c e);exact cj;have bR:(fC r).length=r.length:=GJ;rw[bR];refine Yj f aB aE k U M λbL R3 bO bS bT=>?_;have cK:s.nx+3≠id:=by rintro R;rw[<-R,u]at k;cases k
 refine aaS (dr:=.sl id t 0 r.length 1 Z) (xb:=s.nx+3) (xg:=g (s.nx+3)) (a:=a) (m:=cols.length) B o y y bT f.lc ar ?_ (.inr ⟨id,t,bA,by rw[GJ,bS],Y⟩) N (λc e=>?_) (λc e=>?_) aw ((P.mono aw).am (by have:=P.lt k;exact aw)) G;exact U;refine tV ?_ (Q c e);exact cj;show am s2.O _ _ _=_;rw[ai y];exact U
end
section
variable [Gh]
def Eb.next{c:ah}{d e:Nat}(f:Eb V E aR aS bn c d n i H s)(h:∀a,a=2\/a=3\/a=4\/a=5\/a=19\/a=20->b.T a=s.T a)(h21:b.T 21=.p (I e))(g:b.O=s.O)(j:s.nx<=b.nx):Eb V E aR aS bn c d n e H b:=by obtain⟨⟨k,l,m⟩,⟨g3,o,p⟩,⟨q,r,t⟩,⟨u,bX,v,w,x⟩,h19,h20,_,rows,gp,fr,low⟩:=f;exact⟨U,U,U,U,U,U,h21,U,y,by rw[g];exact bK,U⟩
theorem ajj{O:ah}{nx:Nat}{c:List (List P)}(n:VT.ok Ty.MG (.agg [V,E]))(o:Sl 9 aR bH)(p:∀A∈bH,Row Ty.jy A/\RT 3 A)(q:bH.length<=10)(r:Sl 5 aS bM)(W:∀A∈bM,Row Ty.yU A)(t:bM.length<=10)(u:Sl 5 bn c)(v:∀A∈c,Fk A)(M:c.length<=50)(d:Eb V E aR aS bn O nx c.length 0 [] s)(w:∀b H,fZ H<=50->Eb V E aR aS bn O nx c.length c.length H b->ag (.exit 0) b):cH (X af) (.loop afe) s ag:=by
 refine⟨λe s=>∃i:Nat,e=c.length-i/\i<=c.length/\∃H:List (List P),H.length<=i/\Eb V E aR aS bn O nx c.length i H s,⟨_,0,rfl,y,[],Y,d⟩,?_⟩;clear d;rintro e s ⟨i,rfl,N,H,Q,d⟩;have j:=d.h20;have f:=d.h21;have x:=d.h19;have z:=d.fr;have R:=d.gp;show cH _ (.seq _ (.seq _ (.seq _ _))) _ _;refine bU br ?_;by_cases g:i<c.length;have B:c[i]? =J c[i]:=bh g;have k:=v _ (bJ g);have l:(c[i]).length=5:=by obtain⟨a,pc,cE,cU,db,cols,fq,fw,fD,C,_⟩:=k;rw[C];rfl
 have F:=lW (i:=i) y;simp[j,f,binOp,aC,g];intro G;refine bU br ?_;simp;show cH _ (.seq _ (.seq _ (.seq (.seq _ _) _))) _ _;refine bU br ?_;have I:(c[i]).take 5=c[i]:=cp y;simp(disch:=omega)[x,f,dm u,B,g,ft,ba,D.cells,dw,l,I,bI];intro K;refine alV n o p q r W t y k d (λe h=>ai y) (λe h=>?_) (by show s.nx<=s.nx+1+4;omega) ((z.mono (by show s.nx<=s.nx+1+4;omega)).am (by show s.nx+1+2<s.nx+1+4;omega)) ⟨s.nx+1+2,K (s.nx+1+2),Y,y,by simp[l]⟩ λb A S m=>?_;exact j5;show∃s1,kh b s1/\bx _ (.dg _ _ _) s1 _;refine⟨b,.refl b,?_⟩;simp[m.h21,binOp,aC,F];intro T;refine⟨_,y,i+1,rfl,y,H++[A],dK,m.next (λe h=>?_) Y rfl (by show b.nx<=b.nx+2;omega)⟩;exact j5;have L:i=c.length:=y;subst L;simp[-az,j,f,binOp,aC];intro G;refine bU br ?_;simp[-az];refine w _ H y (d.next (λe h=>?_) (by simp[f]) rfl (by show s.nx<=s.nx+1;omega));exact j5
def amQ{i:P}{d:ah}{a:Nat}{j:D->ah->Nat->Prop}(k:VT.ok Ty.MG i)(l:Sl 9 aR bH)(G:∀A∈bH,Row Ty.jy A/\RT 3 A)(I:bH.length<=10)(m:Sl 5 aS bM)(W:∀A∈bM,Row Ty.yU A)(K:bM.length<=10)(n:∀o p H,a<=o->Sl 2 p H->fZ H<=50->(∀A∈H,Od A)->j (.p (.agg [p])) d o):X af 64 [.p i,.p (.agg [aR,aS])] d a j:=by
 have q:=k;obtain⟨V,E,C,rfl,L,f,ac,ad,ag,hn,al⟩:=nO (.inr rfl) rfl k;have an:=ig f;have ao:=eU L;have ax:=ig l;have ay:=ig m;refine X.rW ?_;refine X.Px Tryz.func64 aoO (by simp[D64]) λe=>?_;show cH _ (.seq _ (.seq _ (.seq (.seq _ (.block _ (.loop _))) _))) _ _;refine bU br ?_;simp(disch:=omega)[cN,D.cells,dw];intro g;refine bU br ?_;simp(disch:=omega);intro M;show cH _ (.seq _ (.block _ (.loop _))) _ _;refine bU br ?_;simp(disch:=omega);intro aB;refine ZO q λu bn aE aI r N Q=>?_;simp(disch:=omega)[afN,ft,dO r];refine ajj (O:=d) (nx:=a) q l G I m W K r Q N ⟨⟨g a,Y,by simp(disch:=omega)⟩,⟨g (a+1),Y,by simp(disch:=omega)[ai]⟩,⟨g (a+2),Y,by simp(disch:=omega)[ai]⟩,⟨M (a+3),.p aD,Y,Y,.inl ⟨rfl,rfl⟩⟩,Y,Y,Y,(λA h=>by cases h),by show a+3<u;omega,?_,λb c=>by simp(disch:=omega)[ai]⟩ λs H R f=>?_;exact((((e.mono (by show a<=u;omega)).am (by show a<u;omega)).am (by show a+1<u;omega)).am (by show a+2<u;omega)).am (by show a+3<u;omega);obtain⟨_,_,⟨g4,v,w⟩,⟨g5,bX,x,z,S⟩,_,_,_,rows,aO,T,B⟩:=f;refine mJ br _ ?_;rcases S with⟨rfl,rfl⟩|⟨id,t,aP,rfl,F⟩
 simp(disch:=omega)[RJ,D64,v,x,w,z,ba,D.cells,dw,bI];refine .low e (by show a<=s.nx+2;omega) (λb c=>?_) ⟨_,_,.refl _ _,n _ _ [] (by show a<=s.nx+2;omega) .nil Y (λA h=>by cases h)⟩;show am s.O _ _ _=_;rw[ai y,B b c];simp(disch:=omega)[RJ,D64,v,x,w,z,ba,E6,WB,Ku,D.cells,bI];have a0:=T.lt F;have U:am (am d id (J (.row 2 t (H.map (·.map D.p))))) id ae=d:=by rw[oS];funext b;by_cases c:b=id;subst c;rw[bi,e b y];rw[ai c]
 refine .aX (λb=>?_) ((e.mono (by show a<=s.nx+2;omega)).am (by show id<s.nx+2;omega)) (by show a<=s.nx+2;omega) ⟨_,_,.step id t 2 H (by rw[bi]) (.refl _ _),?_⟩;by_cases c:b=id;subst c;refine .inr ?_;rw[bi];show _=am s.O _ _ _;rw[ai y,F];rw[ai c];by_cases ab:b<a;refine .inr ?_;show _=am s.O _ _ _;rw[ai y,B b ab];exact .inl (e b y);rw[U];simp only[gx,kn,bf,bV,kG,aT,gK];rw[cp (bV _)];exact n _ _ H (by show a<=s.nx+2;omega) (.im _ _) R rows
def ab5(b:Od A):Row [.str 400,Ty.aY [Ty.aY Ty.ma 1000] 100] A:=by obtain⟨a,d,rfl,e,c⟩:=b;exact⟨⟨a,rfl,y⟩,c,trivial⟩
def anq:bz af S85:=by
 refine .n rfl λd z B C e W f=>?_;obtain⟨D,g,rfl,h,i⟩:=Vs.cons e;obtain⟨eK,g,rfl,⟨E,rfl,j,_⟩,k⟩:=Vs.cons i;obtain rfl:=Vs.nil k;obtain⟨aR,F,rfl,l,m⟩:=Row.cons j;obtain⟨aS,G,rfl,n,o⟩:=Row.cons m;obtain rfl:=Row.nil o;obtain⟨bH,p,_,I,b,q⟩:=l;obtain⟨bM,r,_,K,s,_⟩:=n;have bT:∀A∈bH,RT 3 A:=λA a=>by have:=Rows.get ⟨b,q⟩ a;exact this.2
 refine amQ h p (λA a=>⟨b A a,bT A a⟩) y r s y λt c H u v L a=>?_;refine f t [.agg [c]] _ d u ⟨⟨[c],rfl,⟨⟨H,v,y,y,λA w=>ab5 (a A w),LT.zero⟩,trivial⟩,by simp[RT,jO]⟩,trivial⟩ (by intro bn x;simp at x) OU
end
def s85[Gh]:bz af S85:=anq
def S86:SP:=⟨22,Z,[.agg Ty.oi,.agg Ty.lU],[.aM (.z 0 25)],0,[],[],[]⟩
def s86[Gh]:bz af S86:=iG (s85.c (s81.c (s60.c (s78.c (s76.c (s75.c (s73.c .n))))))) [(180,[]),(128,[]),(59,[(6,.lp ⟨[],bY [10,9] ((11,.int .i64)::bY [0,1] []),[(.s 1,.s 11,3),(.s 0,.s 11,3),(.s 9,.s 11,3),(.s 10,.s 11,3),(.z,.s 11,0)],.z,.s 11,3,3,[(.s 11,1)],Z⟩ [])])] [(24,.lp ⟨[],bY [34,33] ((35,.int .i64)::bY [2,3] []),[(.c 3 1,.s 35,10),(.c 3 0,.s 35,10),(.s 35,.c 3 0,0),(.c 2 1,.s 35,5),(.c 2 0,.s 35,2),(.s 33,.s 35,10),(.s 35,.s 33,0),(.s 34,.s 35,10),(.s 35,.s 34,0),(.z,.s 35,0)],.s 34,.s 35,0,10,[(.s 35,1)],Z⟩ []),(72,.lp ⟨[],bY [69,68] ((70,.int .i64)::bY [2,3] []),[(.c 3 1,.s 70,10),(.s 70,.c 3 1,0),(.c 3 0,.s 70,10),(.c 2 1,.s 70,5),(.c 2 0,.s 70,2),(.s 68,.s 70,10),(.s 70,.s 68,0),(.s 69,.s 70,10),(.s 70,.s 69,0),(.z,.s 70,0)],.s 69,.s 70,0,10,[(.s 70,1)],Z⟩ []),(130,.lp ⟨[],bY [108,107] [(109,.int .i64)],[(.s 107,.s 109,1000),(.s 109,.s 107,0),(.s 108,.s 109,1000),(.s 109,.s 108,0),(.z,.s 109,0)],.s 108,.s 109,0,1000,[(.s 109,1)],Z⟩ []),(151,.gv [4]),(124,.gv [4]),(113,.gv [4]),(107,.gv [4]),(91,.gv [4]),(65,.gv [4]),(59,.gv [4]),(43,.gv [4]),(10,.gv [4])] h
def S87:SP:=⟨18,aa,[.agg Ty.oi,.aM (.nm 0),.aM (.z 0 10),.aM Ty.gW],[.agg Ty.jy],100000,[],[],[]⟩
def s87[Gh]:bz af S87:=iG (s74.c (PI.c (s8.c (s0.c (Ma.c .n))))) [(7,[]),(8,[])] [(24,.lp ⟨[(12,[.aL,.aL,.aL,.aL,.aL,.aL,.aL,.own Ty.kf,.aL]),(0,[.aL,.int .i64])],bY [47,0,6,46] ((48,.int .i64)::bY [14,12,10] []),[(.c 12 7,.s 48,0),(.s 48,.c 12 7,0),(.s 48,.s 47,0)],.s 47,.s 48,0,1000,[(.c 12 7,1),(.c 0 1,10)],Z⟩ []),(57,.gv [10])] h
def D20:d6:=⟨33,[.t 6],z 1 [q 6 (.mv (.c aD))] (z 6 [G 8 0,G 9 1,G 10 2,G 11 0,q 12 (fQ 11),q 13 (.tZ 9 (.t 8) (J (.t 9)) (J (.t 10)) (J (.t 12)))] (.seq (z 3 [G 14 1,G 15 2,q 16 (xB .eql 14 15)] (.cond (.t 16) (z 2 [G 17 0,G 6 17] (.ret)) (.skip))) (z 3 [G 18 0,q 19 (fQ 18),G 7 19] (z 8 [G 20 0,G 21 1,q 22 (.tZ 9 (.t 20) ae (J (.t 21)) ae),G 23 0,G 24 2,q 25 (.tZ 9 (.t 23) (J (.t 24)) ae ae),q 26 (jE 6 9 120 22 25),G 0 26] (z 6 [G 27 0,G 28 0,q 29 (fQ 28),G 30 7,q 31 (.m (.Zb 9) 4 [.t 27,.t 29,.t 30]),oN (.GF 9 [aF,aH,aH,aH,aH,aH,aF,aD,aD] (.t 31))] (z 2 [G 32 0,G 6 32] (.ret)))))))⟩
def apm:cW af Tryz.f20=J D20:=h
def ahP[Gh]:J1 af 20 9:=by
 intro f c u id t i v C a w x z d;refine X.Cm ?_;refine X.of Tryz.func20 apm (by simp[D20]) λb=>?_;have A:=b.lt a;have V:(C.map (·.map D.p)).length=C.length:=Y;have B:(C.length:Int)<=C.length:=y;have E:(v:Int)<=C.length:=y;have F:(i:Int)<=v:=y;by_cases g:i=v;subst g;simp(disch:=omega)[D20,cN,jK,binOp,aC];refine⟨y,.d8 (b.mono y) y (.inl ?_)⟩;have:=d (c+1+6+3+2) t y;rw[Nat.sub_self,uD,um]at this;rw[yd a]at this;exact this;have h:((i:Int)==(v:Int))=Z:=jY.2 y;have j:fO f 9 (.sl id t v (C.length-v) 9 Z)=J ((C.drop v).map (·.map .p)):=by simp[fO,fF,a,nn];exact⟨y,cp Y⟩
 have G:(C.drop v).length=C.length-v:=Y;have k:i≠C.length:=y;simp(disch:=omega)[-az,D20,cN,jK,a,binOp,aC,h,j,k];refine⟨y,y,y,y,y,y,y,λI=>?_⟩;have e:((C.map (·.map D.p)).take i++((C.map (·.map D.p)).drop v++(C.map (·.map D.p)).drop (i+(C.length-v)))).length=C.length:=dK;generalize l:(C.map (·.map D.p)).take i++((C.map (·.map D.p)).drop v++(C.map (·.map D.p)).drop (i+(C.length-v)))=H at e⊢;have m:((i:Int)+((C.length-v:Nat):Int)).toNat=i+(C.length-v):=y;have n:((C.length:Nat):Int).toNat=C.length:=y;have o:i+(C.length-v)+(C.length-(i+(C.length-v)))=C.length:=y;have p:(0:Int)<=(i:Int)+((C.length-v:Nat):Int):=y;have q:(i:Int)+((C.length-v:Nat):Int)<=C.length:=y;simp only[th,dt,m,n,e,bf,o];refine⟨trivial,trivial,trivial,trivial,y,p,q,y,trivial,trivial,trivial,y,?_⟩;simp only[oS];refine .d8 ((b.mono y).am y) y (.inr ⟨id,9,t,i+(C.length-v),_,dt _ _ _,?_⟩);have r:C.length-(v-i)=i+(C.length-v):=y;have:=d (c+1+6+3+3+8+6+2) t y;rw[r]at this;have s:List.take (i+(C.length-v)) H=(C.take i++C.drop v).map (·.map D.p):=by rw[<-l,<-jd,xi dK,cp dK,cG,cD,nn]
 rw[oS,xi dK,AZ,Nat.min_self,s];exact this
def S88:SP:=⟨21,aa,[.agg Ty.oi,.agg Ty.Ot],[.agg Ty.Ot],100000000,[([],[⟨5,3,0⟩,⟨6,4,0⟩])],[],[]⟩
def s88[Gh]:bz af S88:=iG (s0.c (s79.c (PI.c .n))) [(7,[]),(56,[])] [(3,.lp ⟨[(5,[.aY Ty.jy,.aL]),(0,[.aL,.int .i64])],bY [2,5,6,0,4] [],[(.c 5 0,.a 2 0,0),(.z,.c 5 0,0)],.c 5 0,.z,0,50,[(.c 0 1,200000)],Z⟩ []),(13,.lp ⟨[(0,[.aL,.int .i64])],bY [2,25,24] ((26,.int .i64)::(8,.own Ty.jy)::bY [7,5,6,0,4] []),[(.s 8,.s 26,0),(.s 26,.s 25,0)],.s 25,.s 26,0,50,[(.s 8,1),(.c 0 1,2000)],Z⟩ [⟨[(0,[.aL,.int .i64])],bY [2,25,24] ((26,.int .i64)::(8,.own Ty.jy)::(7,.ct .bool)::bY [5,6,0,4] [(141,.any),(142,.any)]),[(.s 8,.s 26,-1),(.z,.s 8,0),(.s 26,.s 25,0)],.z,.s 26,50,49,[(.c 0 1,2000)],Z⟩]),(34,.lp ⟨[(0,[.aL,.int .i64])],bY [2,42,41] ((43,.int .i64)::bY [10,7] ((13,.ct .bool)::bY [26,25,24,8,5,6,0,4] [])),[],.s 42,.s 43,0,1000,[(.s 43,1),(.c 0 1,2)],Z⟩ []),(59,.lp ⟨[],bY [2,66,65] ((67,.int .i64)::(18,.own [Ty.gW])::bY [13,15,14,43,42,41,10,7,26,25,24,8,5,6,0,4] []),[],.z,.s 67,50,50,[(.s 67,1),(.s 18,1)],Z⟩ []),(103,.gv [6]),(99,.gv [146]),(92,.gv [10])] h
def S89:SP:=⟨5,aa,[.agg Ty.oi,.aM (.z 1 9)],[.agg Ty.lU],1000000000000,[],[],[]⟩
def s89[Gh]:bz af S89:=iG (s60.c (s86.c (s88.c (s87.c (s0.c (s33.c (.d ahP .n))))))) [(262,[(3,.lp ⟨[],bY [2,0,3,1] [(8,.int .i64)],[(.z,.s 8,-1)],.z,.s 8,9,8,[],Z⟩ []),(15,.lp ⟨[],(9,.int .i64)::bY [8,2,0,3,1] [],[(.s 9,.s 2,-1)],.s 9,.z,0,8,[],Z⟩ [])]),(192,[(5,.lp ⟨[],bY [10,11,2,4,3,0,1] [],[],.z,.z,0,0,[],Z⟩ [])]),(227,[]),(172,[]),(136,[]),(67,[]),(66,[]),(65,[]),(24,[(5,.lp ⟨[(2,[.aL,.aY Ty.yU]),(0,[.aL,.int .i64])],bY [14,2,5,0] [(15,.int .i64)],[(.c 2 1,.s 15,0)],.s 14,.s 15,0,9,[(.c 2 1,1),(.c 0 1,4)],Z⟩ []),(47,.gv [112])]),(23,[]),(6,[]),(8,[])] [(10,.lp ⟨[(7,[.own Ty.jy,.aL]),(0,[.aL,.int .i64])],bY [18,8,17] ((19,.int .i64)::bY [0,4,2,7,6] []),[],.z,.s 19,5,5,[(.s 19,1),(.c 7 0,15),(.c 0 1,1500033)],Z⟩ []),(32,.lp ⟨[(7,[.own Ty.jy,.aL]),(0,[.aL,.int .i64])],bY [10,11] ((30,.int .i64)::bY [19,18,8,17,0,4,2,7,6] []),[],.z,.s 30,3,3,[(.s 30,1),(.c 7 0,5),(.c 0 1,500011)],Z⟩ []),(52,.lp ⟨[(0,[.aL,.int .i64]),(7,[.own Ty.jy,.aL])],bY [42,12] ((43,.int .i64)::bY [30,10,11,19,18,8,17,0,4,2,7,6] []),[],.s 42,.s 43,0,5,[(.s 43,1),(.c 0 1,100002),(.c 7 0,1)],Z⟩ []),(69,.lp ⟨[(0,[.aL,.int .i64]),(7,[.own Ty.jy,.aL])],bY [0,4,2,7,6] [],[(.z,.c 7 0,0),(.c 7 0,.z,75)],.c 7 0,.z,-1,74,[(.c 0 1,1)],Z⟩ []),(84,.lp ⟨[(7,[.aY Ty.jy,.aL]),(0,[.aL,.int .i64])],bY [0,4,2,7,6] [],[(.z,.c 7 0,0),(.c 7 0,.z,9)],.c 7 0,.z,0,9,[(.c 0 1,100000001)],Z⟩ []),(101,.gv [6]),(96,.gv [119]),(81,.gv [77])] h
def VZ:SP:=⟨41,aa,[.aM (.z 0 1000)],[.aM (.str 100)],0,[],[],[]⟩
def s90[Gh]:bz af VZ:=iG .n [] [(4,.gv [4])] h
def S91:SP:=⟨40,aa,[.aM (.str 100),.aM .nil,.aM .nil,.aM .bool],[.agg Ty.Cf],4000,[],[⟨0,4,-1⟩],[]⟩
def s91[Gh]:bz af S91:=iG (s9.c (s0.c (s5.c .n))) [(8,[]),(7,[])] [(41,.gv [10])] h
def fV(b c:Nat)(d:Int)(e:ah):Prop:=∃(H:P) (a:Int),e b=J (.row 2 c [[.p H,.p (I a)]])/\(∀cJ:Gh,@CT.ok cJ qG H)/\0<=a/\a<=d
def fV.aL{b c:Nat}{d:Int}{e:ah}(f:fV b c d e)(h:O' b=e b):fV b c d O':=by obtain⟨H,a,i,g⟩:=f;exact⟨H,a,U,g⟩
def fV.mono{b c:Nat}{d:Int}{e:ah}(f:fV b c d e)(j:d<=fU):fV b c fU e:=by obtain⟨H,a,g,h,i,k⟩:=f;exact⟨H,a,g,h,i,y⟩
theorem aaW:jp [] []:=⟨⟨Y,ak⟩,Y,ak⟩
@[reducible] noncomputable def jo:Gh:=KJ [] [] aaW
theorem Cj{a:P}(b: @CT.ok cJ qG a):∀cJ:Gh,@CT.ok cJ qG a:=λc=>JO cJ c _ aj b
section
variable {e g:Nat}{k:Int}{h:ah}{j:Nat}{l:D->ah->Nat->Prop}
def vR{b:Int}(t:1<=b)(u:b<=1000000000)(i:fV e g k h)(v:k<=4611686018427000000)(m:e<j)(n:∀c A O',j<=c->0<=A->A<b->(∀d,d≠e->O' d=h d)->fV e g (k+1) O'->l (.p (I A)) O' c):
 X af 19 [.ptr e g 2 0 0,.p (I b)] h j l:=by obtain⟨H,a,o,f,p,w⟩:=i;letI:=jo;obtain⟨x,q,_⟩:=B7 (f jo);exact IP y q m o p y λc A r s g3 _=>n c A _ r s y U ⟨H,a+1,Y,f,y,y⟩
def oq{d:Int}(t:d<=1000000000)(i:fV e g k h)(u:k<=4611686018427000000)(m:e<j)(n:∀b o O',j<=b->(∀c,c≠e->O' c=h c)->fV e g (k+1) O'->l (.p (B o)) O' b):
 X af 7 [.ptr e g 2 0 0,.p (I d)] h j l:=by obtain⟨H,a,p,f,q,v⟩:=i;letI:=jo;obtain⟨w,r,_⟩:=B7 (f jo);exact alE y r m p q y λb A s=>n b A _ s U ⟨H,a+1,Y,f,y,y⟩
def yu{b c:Int}(v:0<=b)(w:b<=c)(x:c<=1000000000)(m:fV e g k h)(z:k<=4611686018427000000)(n:e<j)(o:∀d A O',j<=d->b<=A->A<=c->(∀f,f≠e->O' f=h f)->fV e g (k+1) O'->l (.p (I A)) O' d):
 X af 8 [.ptr e g 2 0 0,.p (I b),.p (I c)] h j l:=by obtain⟨H,a,p,i,q,B⟩:=m;letI:=jo;obtain⟨C,r,_⟩:=B7 (i jo);exact Wv y y y r n p q y λd A s t u g3 _ D E=>o d A _ t u y U ⟨H,s,Y,i,y,y⟩
def IW{f:Bool}(i:C≠[])(m:∀A∈C,∃E:Int,A=[I E])(n:C.length<1000000)(o:fV e g k h)(w:k<=4611686018427000000)(p:e<j)(q:∀b E O',j<=b->[I E]∈C->(∀c,c≠e->O' c=h c)->fV e g (k+1) O'->l (.p (I E)) O' b):
 X af 6 [.ptr e g 2 0 0,.p (.im C 1 f)] h j l:=by obtain⟨H,a,r,d,s,x⟩:=o;letI:=jo;obtain⟨z,t,_⟩:=B7 (d jo);exact akd i m n t p r s y λb E u v=>q b E _ u v U ⟨H,a+1,Y,d,y,y⟩
theorem ZX{b:Int}(i:0<=b)(m:b<=1000)(n:fV e g k h)(B:k<=4611686018427000000)(o:e<j)(p:∀c a O',j<=c->iO a<=100->(∀d,d≠e->O' d=h d)->fV e g (k+(VZ).cost) O'->l (.p (S a)) O' c):
 X af 41 [.ptr e g 2 0 0,.p (I b)] h j l:=by obtain⟨H,a,q,C,r,D⟩:=n;letI:=jo;have E:(VZ).cost<=10000:=KZ;refine(s90 h j l [I b] ⟨⟨b,rfl,i,m⟩,aj⟩ (λf s=>by cases s)).2 rfl e g H a o q U r (by show a<=4611686018427387000-(VZ).cost;omega) λc F t u G O' v w x K g3 _ z=>?_;obtain⟨rfl,rfl⟩:=mY z;obtain⟨L,M,rfl,⟨eJ,rfl,N⟩,A⟩:=Vs.cons w;obtain rfl:=Vs.nil A;exact p c eJ _ v y U ⟨u,t,Y,Cj x,y,y⟩
theorem ad8(z:a.size<=100)(n:fV e g k h)(A:k<=4611686018427000000)(o:e<j)(p:∀b f O',j<=b->OB f->(∀d,d≠e->O' d=h d)->fV e g (k+4000) O'->l (.p (.agg f)) O' b):
 X af 40 [.ptr e g 2 0 0,.p (S a),.p aD,.p aD,.p (B aa)] h j l:=by obtain⟨H,i,q,C,r,D⟩:=n;letI:=jo;refine(s91 h j l [S a,.v (.slice ae 0 0),.v (.slice ae 0 0),B aa] ⟨⟨a,rfl,y⟩,rfl,rfl,⟨aa,rfl⟩,aj⟩ (λf c=>?_)).2 rfl e g H i o q U r (by show i<=4611686018427387000-4000;omega) λb E m s F O' t u v G g3 _ w=>?_;simp only[S91,bD]at c;subst c;exact aj;obtain⟨rfl,rfl⟩:=mY w;obtain⟨I,K,rfl,⟨f,rfl,c,_⟩,x⟩:=Vs.cons u;obtain rfl:=Vs.nil x;exact p b f _ t (aiO c) U ⟨s,m,Y,Cj v,y,by have:m<=i+4000:=g3;omega⟩
end
def Yg:List aA:=[fR 14 0]
def Xw:List aA:=[fR 25 0]
def afr:List aA:=[q 35 (.bQ 7 9 1 [aF,aH,aF,dZ,aH,aH,aF,aD,aD] [(0,.t 34)]),q 36 (jE 8 9 128 29 35),oF 37 5 1,vt (xS 1 37 36)]
def Xi:List aA:=(q 34 (.call 40 [.t 30,.t 33,.c aD,.c aD,.c (B aa)])::afr)
def afV:av:=rF 2 [q 38 (di .add 25 1),G 25 38]
def Xe:av:=
 z 1 [q 26 (xB .lss 25 24)] (.seq (cX 26 2) (.seq (.block 3 (z 2 [G 27 25,G 6 27] (.dg 11 aa (aZ 28 (xF 5 1)::aZ 29 (jP 1 28)::aZ 30 (xM 0)::G 31 0::G 32 6::q 33 (dV 41 31 32)::Xi))))
  afV))
def XR:av:=.block 2 (.loop Xe)
def QQ:av:=rF 7 [oF 39 3 0,oL 40 1 39,cA 41 2 5,q 42 (.bQ 3 2 1 [aF,aD] [(0,.t 41)]),q 43 (jE 4 2 40 40 42),oF 44 3 0,oN (xS 1 44 43)]
def ak7:av:=rF 2 [q 45 (di .add 14 1),G 14 45]
def QA:av:=
 z 1 [q 15 (xB .lss 14 13)] (.seq (cX 15 0) (.seq (.block 1 (z 2 [G 16 14,G 4 16] (z 8 [G 17 4,q 18 (.lS .add 0 (.c (I 97)) (.t 17)),q 19 (.zf .i32 (.t 18)),q 20 (.yS (.t 19)),q 21 (.lS .add 0 (.c (S ⟨#[109]⟩)) (.t 20)),q 22 (.build [aF,aD] [(0,1,.t 21)]),q 5 (.alloc 6 2 [aF,aD]),oN (xS 2 5 22)] (.seq (z 3 (G 23 0::q 24 (.call 8 [.t 23,.c (I 1),.c (I 2)])::Xw)
  XR)
  QQ))))
  ak7))
def aoo:av:=.block 0 (.loop QA)
def Sh:List aA:=[fR 48 0]
def Iq:List aA:=[q 62 (jw 59 61)]
def UJ:List aA:=[q 68 (xI 10 64 67),oF 69 68 0,oL 70 1 69,oF 71 9 1,oN (xS 1 71 70)]
def ZN:List aA:=[oF 80 9 2,oN (xS 1 80 73),oF 81 9 3,oN (xS 1 81 75),oF 82 9 4,oN (xS 1 82 77),oF 83 9 5,oN (xS 1 83 79)]
def Zo:List aA:=(G 78 0::q 79 (.call 7 [.t 78,.c (I 3)])::ZN)
def abv:List aA:=(G 76 0::q 77 (.call 7 [.t 76,.c (I 3)])::Zo)
def Sv:List aA:=(G 74 0::q 75 (.call 7 [.t 74,.c (I 2)])::abv)
def Rp:av:=.cond (.t 62) (.dg 10 aa (aZ 63 (xF 3 1)::aZ 64 (xL 1 63)::G 65 0::G 66 8::q 67 (dV 19 65 66)::UJ)) (rF 16 (G 72 0::q 73 (.call 7 [.t 72,.c (I 3)])::Sv))
def U0:List aA:=[fR 92 0]
def Z6:List aA:=[vt (xS 9 10 104)]
def aaP:List aA:=(q 104 (.call 40 [.t 94,.t 97,.t 99,.t 103,.c dZ])::Z6)
def UG:List aA:=(q 103 (dV 42 100 102)::aaP)
def UI:av:=z 3 [G 105 7,q 106 (di .add 105 1),G 7 106] (.dg 15 aa [aZ 107 (xF 3 1),aZ 108 (jP 1 107),aZ 109 (xM 8),oF 110 3 1,aZ 111 (jP 1 110),G 112 8,q 113 (xI 10 111 112),oF 114 113 6,q 115 (jP 1 114),cA 116 9 10,q 117 (.bQ 10 9 1 [aF,aH,aF,dZ,aH,aH,aF,aD,aD] [(0,.t 116)]),q 118 (jE 11 9 128 115 117),q 119 (xI 10 108 109),oF 120 119 6,oN (xS 1 120 118)])
def Zh:av:=rF 2 [q 121 (di .add 92 1),G 92 121]
def TY:av:=
 z 1 [q 93 (xB .lss 92 91)] (.seq (cX 93 6) (.seq (.block 7 (.seq (.dg 13 aa (aZ 94 (xM 0)::aZ 98 (xF 3 0)::aZ 99 (jP 1 98)::aZ 100 (CM 2 3)::aZ 101 (xF 9 0)::aZ 102 (jP 1 101)::aZ 10 (.alloc 11 9 [aF,aH,aF,dZ,aH,aH,aF,aD,aD])::G 95 0::G 96 7::q 97 (dV 41 95 96)::UG))
  UI))
  Zh))
def aka:av:=.block 6 (.loop TY)
def Ue:av:=
 z 3 (G 90 0::q 91 (.call 8 [.t 90,.c aH,.c (I 3)])::U0)
  aka
def NL:av:=
 z 7 [oF 84 3 1,oL 85 1 84,cA 86 10 9,q 87 (.bQ 3 10 1 [aF,aF,dZ,dZ,dZ,dZ,aD,aD,aD,aD] [(0,.t 86)]),q 88 (jE 4 10 136 85 87),oF 89 3 1,oN (xS 1 89 88)]
  Ue
def Tz:av:=rF 2 [q 122 (di .add 48 1),G 48 122]
def Mg:av:=
 z 1 [q 49 (xB .lss 48 47)] (.seq (cX 49 4) (.seq (.block 5 (z 2 [G 50 48,G 8 50] (z 8 [G 51 8,q 52 (.lS .add 0 (.c (I 97)) (.t 51)),q 53 (.zf .i32 (.t 52)),q 54 (.yS (.t 53)),q 55 (.lS .add 0 (.c (S ⟨#[101]⟩)) (.t 54)),q 56 (.build [aF,aF,dZ,dZ,dZ,dZ,aD,aD,aD,aD] [(0,1,.t 55)]),q 9 (.alloc 6 10 [aF,aF,dZ,dZ,dZ,dZ,aD,aD,aD,aD]),oN (xS 10 9 56)] (.seq (z 6 (G 57 8::q 58 (di .gtr 57 0)::G 59 58::oT 60 59 (xM 0)::oT 61 59 (.call 7 [.t 60,.c (I 3)])::Iq)
  Rp)
  NL))))
  Tz))
def alK:av:=.block 4 (.loop Mg)
def Mn:av:=z 2 [cA 127 2 3,oN (xS 2 2 127)] (.ret)
def Nc:av:=
 z 2 [G 125 0,q 126 (dV 44 125 3)]
  Mn
def Im:av:=
 z 2 [G 123 0,q 124 (dV 43 123 3)]
  Nc
def MQ:av:=
 z 1 [fR 7 0] (.seq (z 3 (G 46 0::q 47 (.call 8 [.t 46,.c (I 1),.c (I 5)])::Sh)
  alK)
  Im)
def Rj:d6:=⟨128,[.cell 2 2 aa],z 1 [q 2 (.alloc 0 2 [aD,aD])] (z 1 [q 3 (.alloc 0 2 [aD,aD])] (.seq (z 4 (G 11 0::q 12 (.bQ 1 1 4 [aH] [(0,.c aH),(1,.c (I 1)),(2,.c (I 1)),(3,.c (I 2))])::q 13 (dV 6 11 12)::Yg)
 aoo)
 MQ))⟩
def aoc:cW af Tryz.f15=J Rj:=h
def iY{a c:av}:cH eZ (.seq a c) s ag=cH eZ a s λe b=>match e with|.normal=>cH eZ c b ag|e=>ag e b:=_root_.id rfl
def lF{a:av}:cH eZ (.block id a) s ag=cH eZ a s λe b=>match e with|.exit i=>if i=id then ag .normal b else ag (.exit i) b|e=>ag e b:=_root_.id rfl
structure K4(sid sg:Nat)(N:Int)(kp:Nat->Prop)(T1:Nat->D)(O1:ah)(nx1:Nat)(s:St):Prop where
 fT:∀k,kp k->s.T k=T1 k
 str:fV sid sg N s.O
 low:∀k,k<nx1->k≠sid->s.O k=O1 k
 gp:nx1<=s.nx
 fr:Fr s.O s.nx
 YN:sid<nx1
def K4.next{c e:Nat}{i:Int}{kp:Nat->Prop}(d:K4 c e i kp Q aB u s)(j:∀a,kp a->b.T a=s.T a)(k:fV c e fU b.O)(l:∀a,a<u->a≠c->b.O a=s.O a)(m:s.nx<=b.nx)(fr:Fr b.O b.nx):K4 c e fU kp Q aB u b:=⟨λa f=>(j a f).trans (d.fT a f),k,λa g h=>(l a g h).trans (d.low a g h),by have:=d.gp;omega,fr,d.YN⟩
abbrev aW(a:List (List P)):List (List D):=a.map (·.map D.p)
structure Nz(sid sg:Nat)(N:Int)(T1:Nat->D)(O1:ah)(nx1 ib gb:Nat)(a:ByteArray)(c j:Nat)(fl:List (List P))(s:St):Prop where
 fm:K4 sid sg (N+4000*j) (λk=>k<=24/\k≠6) T1 O1 nx1 s
 h0:T1 0=.ptr sid sg 2 0 0
 h5:T1 5=.ptr ib gb 2 0 0
 h24:T1 24=.p (I c)
 h25:s.T 25=.p (I j)
 o:∃fd,s.O ib=J (.row 2 gb [[.p (S a),fd]])/\de s.O nx1 9 (aW fl) fd
 hb:nx1<=ib
 len:fl.length=j
 all:∀f∈fl,OB f
def OM{a b:D}:bI [a,b] [d] 1=[a,d]:=rfl
theorem anv{g l:Nat}{j:Int}(z:Nz g l j Q aB u ib gb a c v be s)(O:s.T 6=.p (I v))(hj:v<=100)(hN:0<=j/\j<=4611686018426000000)(P:∀b f,Nz g l j Q aB u ib gb a c v be s->Nz g l j Q aB u ib gb a c (v+1) (be++[f]) {b with T:=λe=>if e=25 then .p (I ((v+1:Nat):Int)) else b.T e}->b.T 25=.p (I v)->b.T 24=.p (I c)->ag .normal b):
 bx (X af) (.dg 11 aa (aZ 28 (xF 5 1)::aZ 29 (jP 1 28)::aZ 30 (xM 0)::G 31 0::G 32 6::q 33 (dV 41 31 32)::Xi)) s ag:=by
 letI:Gh:=jo;have R:=z;obtain⟨⟨fT,V,aP,aR,r,aS⟩,W,h5,ab,a1,⟨x,n,c5⟩,ac,hl,a2⟩:=R;have A:s.T 0=.ptr g l 2 0 0:=U;have B:s.T 5=.ptr ib gb 2 0 0:=U;have E:g≠ib:=y;have ad:=r.lt n;intro gm;refine⟨[ib],?_⟩;simp(disch:=omega)[only,A,B,n,O,ba];refine⟨ad,?_⟩;refine ZX y y (V.aL (by simp[aX,E])) y y λa3 eJ O2 a4 hz a6 a7=>?_;simp(disch:=omega)[Xi,A];refine ad8 hz ar (by have:(VZ).cost=0:=rfl;omega) y λal f i a8 an a9 F=>?_;unfold afr;have k:∀e,e≠g->i e=aX [ib] s.O e:=U;have h9:f.length=9:=by letI:=jo;have:=(an jo).length;simpa[Ty.Cf,Ty.kf]using this
 have ao:D.cells (.p (.agg f))=f.map D.p:=by letI:=jo;simp[D.cells,dw]
 have bb:∀e,s.nx<=e->i e=ae:=λe h=>by rw[k e y];simp only[aX];split<;>first|rfl|exact r e h
 have ax:de i u 9 (aW be) x:=c5.YW λe t h H=>by
  rw[k e y];have:e≠ib:=by rintro rfl;rw[n]at H;cases H
  simp[aX,this]
 refine Ox (hb:=ib) (g3:=gb) (w:=2) (m:=u) (cells:=[.p (S a),x]) (d:=.p (.agg f)) Y U Y ax aw U y y (by simp[B]) y y y (by simp[only,n]) Y dK dK λid t ay T' bd K hw aE=>?_;rw[ao];have aI:id≠ib/\id≠g/\id<s.nx+11/\∀e,e<s.nx->(∀t C,s.O e≠J (.row 9 t C))->e≠id:=by rcases hw with⟨L,_⟩|⟨g0,o⟩;grind;have hq:id≠g:=y;have o:i id=_:=o;rw[k id hq]at o;simp only[aX,bD]at o;grind
 obtain⟨bk,bl,bm,bn⟩:=aI;have K:id≠s.nx+7:=K;generalize p:bp (am (am i (s.nx+7) (J (.row 9 ay [f.map D.p]))) id (J (.row 9 t (aW be++[f.map D.p])))) (am (only [ib] s.O) ib (J (.row 2 gb [bI [.p (S a),x] [.sl id t 0 (aW be++[f.map D.p]).length 9 Z] 1])))=M;have aO:∀e,e≠g->e≠ib->e≠id->e≠s.nx+7->M e=s.O e:=by intro e k0 N k2 k3;rw[<-p];simp only[bp];rw[ai k2,ai k3,ai N,k e k0];simp only[only,aX,bD,ap N];cases s.O e<;>rfl
 have bo:M g=i g:=by rw[<-p];simp only[bp];rw[ai y,ai (by omega:g≠s.nx+7),ai E];obtain⟨_,_,L,_⟩:=F;rw[L]
 have bs:M ib=J (.row 2 gb [[.p (S a),.sl id t 0 (aW (be++[f])).length 9 Z]]):=by rw[<-p];simp only[bp];rw[ai y,ai (by omega:ib≠s.nx+7),k ib y];simp[aX,bI,aW]
 have bu:M id=J (.row 9 t (aW (be++[f]))):=by rw[<-p];simp only[bp,bi];simp[aW]
 have bA:∀e,e<28->T' e=s.T e:=λe h=>by rw[aE e y y y];exact cj
 refine P _ f z ⟨⟨λe h=>?_,?_,λe bB bC=>?_,aw,λe h=>?_,y⟩,W,h5,ab,?_,⟨_,ar,.inr ak⟩,ac,by simp[hl],?_⟩ U U;grind;refine(F.aL ar).mono ?_;have:(VZ).cost=0:=rfl;omega;grind;have h:al<=e:=h;exact(aO e y y y y).trans (r e y);simp;grind
theorem Nz.next{e f:Nat}{g:Int}(h:Nz e f g Q aB u ib gb a c v be s)(k:∀d,d<=25->d≠6->b.T d=s.T d)(i:b.O=s.O)(l:s.nx<=b.nx):Nz e f g Q aB u ib gb a c v be b:=by obtain⟨⟨m,n,p,q,r,t⟩,h0,h5,h24,h25,w,hb,j,x⟩:=h;exact⟨⟨ak,U,U,y,by rw[i];exact bK,y⟩,h0,h5,h24,U,U,hb,j,U⟩
theorem ahK{g h:Nat}{N:Int}(d:Nz g h N Q aB u ib gb a c 0 [] s)(z:c<=100)(n:0<=N/\N<=4611686018426000000)(o:∀b be,Nz g h N Q aB u ib gb a c c be b->ag (.exit 2) b):cH (X af) (.loop Xe) s ag:=by refine⟨λe s=>∃v:Nat,e=c-v/\v<=c/\∃be,Nz g h N Q aB u ib gb a c v be s,ak,?_⟩;clear d;rintro e s ⟨v,rfl,A,be,d⟩;have k:s.T 24=.p (I c):=(d.fm.fT 24 y).trans d.h24;have j:=d.h25;show cH _ (.seq _ (.seq _ (.seq _ _))) _ _;refine bU br ?_;by_cases p:v<c;have q:=lW (i:=v) y;simp[k,j,binOp,aC,p];intro r;refine bU br ?_;simp;rw[iY,lF];refine bU br ?_;simp[j];intro B;refine mJ br _ (anv (d.next (λe l m=>?_) rfl aw) Y y n λb f _ t w C=>?_);exact cj;show cH _ (.dg _ _ _) _ _;refine mJ br _ ?_;simp[afV,w,binOp,aC,q];intro D;refine⟨_,?_,v+1,rfl,y,be++[f],t.next (λe l m=>?_) rfl aw⟩;omega;by_cases E:e=25;exact U;exact cj;have x:v=c:=y;subst x;simp[-az,k,j,binOp,aC];intro r;refine bU br ?_;simp[-az];refine o _ be (d.next (λe l m=>?_) rfl aw);exact cj
def sD(b:D):Prop:=(∃d,b=.p d)\/∃a e c g f,b=.ptr a e c g f
def sD.uz(b:sD d){e:List (List P)}:gx id t n e d=d:=by rcases b with⟨g,rfl⟩|⟨a,h,c,i,f,rfl⟩<;>simp[gx]
theorem Cp{id a b:Nat}{c:List (List P)}:∀(bA:List P),kn id a b c (bA.map D.p)=bA.map D.p|[]=>aj|p::bA=>by simp[kn,gx,Cp bA]
theorem FQ{id b c:Nat}{e:List (List P)}:∀(bA a:List D),kn id b c e (bA++a)=kn id b c e bA++kn id b c e a|[],a=>aj|d::bA,a=>by simp[kn,FQ bA a]
theorem de.sl{e:ah}{f b:Nat}{a:List (List P)}{c:D}(d:de e f b (a.map (·.map D.p)) c):(a=[]/\c=.p aD)\/∃id t,f<=id/\c=.sl id t 0 a.length b Z/\e id=J (.row b t (a.map (·.map D.p))):=by rcases d with⟨d,g⟩|⟨id,t,h,i,j⟩;exact .inl ⟨by simpa using d,g⟩;grind
def Rv{xs ys:List P}{b:List (List P)}(e:Fr s.O s.nx)(g:s.O ib=J (.row eK gb [xs.map D.p++d::ys.map D.p]))(i:de s.O m n (b.map (·.map D.p)) d)(j:∀id t,d=.sl id t 0 b.length n Z->ib≠id):
 ∃h s1,kh s s1/\Sl n h b/\s1.O ib=J (.row eK gb [xs.map D.p++ .p h::ys.map D.p])/\(∀a,a≠ib->(∀id t,d=.sl id t 0 b.length n Z->a≠id)->s1.O a=s.O a)/\(∀a,sD (s.T a)->s1.T a=s.T a)/\s1.nx=s.nx/\Fr s1.O s.nx:=by rcases i.sl with⟨rfl,rfl⟩|⟨id,t,p,rfl,k⟩;exact⟨_,s,.refl s,.nil,g,λa _ _=>rfl,λa _=>rfl,rfl,e⟩;have l:ib≠id:=j id t rfl;refine⟨.im b n Z,{s with T:=λa=>gx id t n b (s.T a),O:=j8 (· =ib) id t n b s.O},.step (· =ib) id t n b k (.refl _),.im b Z,?_,λa o f=>?_,λa c=>c.uz,rfl,λa c=>?_⟩;simp[j8,l,g,Em,FQ,Cp,kn,gx];have f:=f id t rfl;simp[j8,o,f];simp only[j8];split;rfl;split;rw[e a c];rfl;exact e a c
def iX{e:cR}:∀(a c:List aA) (s:St) (d:St->Prop),eN e (a++c) s d=eN e a s λb=>eN e c b d
 |[],_,_,_=>rfl|f::a,c,s,d=>by simp only[kR,eN];congr 1;funext b;exact iX a c b d
def de.gM{b:ah}(a:de b m n rows d)(f:∀id t,d=.sl id t 0 rows.length n Z->m<=id->b id=J (.row n t rows)->O' id=J (.row n t rows)):de O' m n rows d:=a.imp (λa=>a) λ⟨i,t,c,e,g⟩=>⟨i,t,c,e,f i t e c g⟩
def de.cell{b:ah}(c:de b m n rows d):D.cells d=[d]:=by rcases c with⟨_,a⟩|⟨_,_,_,a,_⟩<;>rw[a]<;>rfl
def de.low{c:ah}(e:de c m n rows d){len:Nat}{f:Bool}(b:d=.sl id t 0 len n f):m<=id/\c id=J (.row n t rows):=by rcases e with⟨_,a⟩|⟨j,k,g,a,h⟩;rw[a]at b;cases b;rw[a]at b;injection b with i a;subst i;subst a;exact⟨g,h⟩
def TJ{p q off c:Nat}{A:St->Prop}{g:List (List D)}{cells:List D}(h:Fr s.O s.bs)(al:s.bs+bS<s.nx)(an:s.bs+dT<s.nx)(u:s.T fk=d)(L:d.cells.length=n)(B:s.T fe=bX)(C:de s.O m n rows bX)(hm:m<=s.bs)(ao:bS≠dT)(E:aP≠fe)(N:s.T q=.ptr c g3 eK i 0)(P:q≠aP)(Q:q≠eV)(R:eV≠p)(F:s.O c=J (.row eK g3 g))(S:g[i]? =J cells)(U:off+1<=cells.length)(W:∀id t,bX=.sl id t 0 rows.length n Z->c≠id)(X:(rows.length+1)*fE<=2^47)(Y:rows.length+1<=2^47)(j:∀v M G,M c=J (.row eK g3 (g.set i (bI cells [v] off)))->de M m n (rows++[d.cells]) v->(∀a r,a≠c->s.O a=J r->(∀id t,bX=.sl id t 0 rows.length n Z->a≠id)->M a=J r)->(∀a,a<m->a≠c->M a=s.O a)->Fr M s.nx->(∀a,a≠aP->a≠eV->a≠p->G a=s.T a)->(∀id t,v=.sl id t 0 (rows++[d.cells]).length n Z->(s.bs<=id\/∃t,bX=.sl id t 0 rows.length n Z))->A {s with T:=G,O:=M}):
 eN eZ [⟨J aP,.bQ bS n 1 eJ [(0,.t fk)],ae,Z⟩,⟨J eV,.j4 dT n fE (.t fe) (.t aP),ae,Z⟩,⟨J p,.fa (.t q) off,ae,Z⟩,oN (.store 1 (.t p) (.t eV))] s A:=by
 have ax:=h.lt F;have H:s.O (s.bs+bS)=ae:=h _ y;rw[eM];refine yB (by simp[u,L]) ?_;rw[eM];refine MN (ys:=[d.cells]) ?_ ?_ (by simpa using X) (by simpa using Y) (by show m<=s.bs+dT;omega) ?_;simp only[iF,dR,bP];rw[ap (dB E),B];refine C.aL λa r _ j=>ai λb=>?_;rw[b,H]at j;cases j;simp only[iF,dR,bP,aT,u];exact B4 (by rw[bi]);intro id t ab hw;have k:(id=s.bs+dT/\rows=[])\/∃e,bX=.sl id e 0 rows.length n Z/\s.O id=J (.row n e rows)/\id≠s.bs+bS:=by rcases hw with l|⟨e,b,hO⟩;exact .inl l;simp only[iF,dR,bP]at b;rw[ap (dB E),B]at b;rcases C with⟨_,e1⟩|⟨ac,g',_,I,w⟩;rw[e1]at b;cases b;rw[I]at b;cases b;exact .inr ⟨_,I,w,by rintro rfl;rw[H]at w;cases w⟩
 have ay:id≠s.bs+bS:=by rcases k with⟨b,_⟩|⟨_,_,_,l⟩;omega;exact l
 have K:c≠id:=by rcases k with⟨b,_⟩|⟨e,V,b,_⟩;omega;exact W _ _ V
 have aB:id<s.nx:=by rcases k with⟨b,_⟩|⟨e,_,b,_⟩;omega;have:=h.lt b;omega
 rw[eM,Nj];simp only[iF,dR,bP];rw[ap Q,ap P,N];simp only[bf];rw[eM,Jo];have ad:am (am s.O (s.bs+bS) (J (.row n (s.gm (s.bs+bS)) [(s.T fk).cells]))) id (J (.row n t (rows++[d.cells]))) c=J (.row eK g3 g):=by rw[ai K,ai y];exact F
 simp only[iF,dR,bP,aT,ap R,ad,S,Ku,ID];refine⟨trivial,trivial,(λl=>by cases l),rfl,U,?_⟩;simp only[j6,u];have x:∀a,a≠c->a≠id->a≠s.bs+bS->am (am (am s.O (s.bs+bS) (J (.row n (s.gm (s.bs+bS)) [d.cells]))) id (J (.row n t (rows++[d.cells])))) c (J (.row eK g3 (g.set i (bI cells [.sl id t 0 (rows++[d.cells]).length n Z] off)))) a=s.O a:=λa f o z=>by rw[ai f,ai o,ai z]
 refine j _ _ _ bi (.inr ⟨id,t,ab,rfl,by rw[ai (dB K),bi]⟩) (λa r f c ag=>?_) (λa f o=>x a o y y) (λa j=>?_) (λa f o z=>?_) λac g' b=>?_;have aE:=h.lt c;refine(x a f ?_ y).trans c;rcases k with⟨b,_⟩|⟨e,V,b,_⟩
 omega;exact ag _ _ V;exact(x a y y y).trans (h a y);simp[f,o,z];cases b;rcases k with⟨b,_⟩|⟨e,V,b,_⟩
 exact .inl y;exact .inr ⟨_,V⟩
def wj{r:St->Prop}(f:Fr s.O s.bs)(P:s.bs+bS<s.nx)(Q:s.bs+dT<s.nx)(i:s.T fk=d)(C:d.cells.length=n)(u:s.T fe=bX)(v:de s.O m n rows bX)(R:m<=s.bs)(S:bS≠dT)(w:aP≠fe)(D:(rows.length+1)*fE<=2^47)(E:rows.length+1<=2^47)(e:∀j M k,de M m n (rows++[d.cells]) j->k eV=j->(∀a g,s.O a=J g->(∀id t,bX=.sl id t 0 rows.length n Z->a≠id)->M a=J g)->(∀a,a<m->M a=s.O a)->Fr M s.nx->(∀id t,j=.sl id t 0 (rows++[d.cells]).length n Z->(s.bs<=id\/∃t,bX=.sl id t 0 rows.length n Z))->(∀a,a≠aP->a≠eV->k a=s.T a)->r {s with T:=k,O:=M}):
 eN eZ [⟨J aP,.bQ bS n 1 eJ [(0,.t fk)],ae,Z⟩,⟨J eV,.j4 dT n fE (.t fe) (.t aP),ae,Z⟩] s r:=by
 have x:s.O (s.bs+bS)=ae:=f _ y;rw[eM];refine yB (by simp[i,C]) ?_;rw[eM];refine MN (ys:=[d.cells]) ?_ ?_ (by simpa using D) (by simpa using E) (by show m<=s.bs+dT;omega) ?_;simp only[iF,dR,bP];rw[ap (dB w),u];refine v.aL λa g _ e=>ai λb=>?_;rw[b,x]at e;cases e;simp only[iF,dR,bP,aT,i];exact B4 (by rw[bi]);intro id t F G;have h:(id=s.bs+dT/\rows=[])\/∃c,bX=.sl id c 0 rows.length n Z/\s.O id=J (.row n c rows)/\id≠s.bs+bS:=by rcases G with l|⟨c,b,U⟩;exact .inl l;simp only[iF,dR,bP]at b;rw[ap (dB w),u]at b;rcases v with⟨_,H⟩|⟨I,K,_,z,o⟩;rw[H]at b;cases b;rw[z]at b;cases b;exact .inr ⟨_,z,o,by rintro rfl;rw[x]at o;cases o⟩
 have W:id≠s.bs+bS:=by rcases h with⟨b,_⟩|⟨_,_,_,l⟩;omega;exact l
 have X:id<s.nx:=by rcases h with⟨b,_⟩|⟨c,_,b,_⟩;omega;have:=f.lt b;omega
 simp only[j6,iF,i,dR];have p:∀a,a≠id->a≠s.bs+bS->am (am s.O (s.bs+bS) (J (.row n (s.gm (s.bs+bS)) [d.cells]))) id (J (.row n t (rows++[d.cells]))) a=s.O a:=λa q L=>by rw[ai q,ai L]
 refine e _ _ _ (.inr ⟨id,t,F,rfl,bi⟩) Y (λa g A N=>?_) (λa B=>p a y y) (λa e=>(p a y y).trans (f a y)) (λI K b=>?_) λa B q=>by simp[B,q]
 have ab:=f.lt A;refine(p a ?_ y).trans A;rcases h with⟨b,_⟩|⟨c,V,b,_⟩
 omega;exact N _ _ V;cases b;rcases h with⟨b,_⟩|⟨c,V,b,_⟩
 exact .inl y;exact .inr ⟨_,V⟩
def pY{d:cR}{F:ah}{e:St->ah->Prop}:∀(a:List aA) {s:St},(∀c∈a,c.fc=Z)->fS d a s F e=eN d a s λb=>e b F
 |[],_,_=>rfl|c::a,s,f=>by have g:=f c ja;simp only[fS,g];congr 1;funext b;exact pY a λc h=>f c (jz _ h)
def acU(b:Nat)(c:List P):Prop:=∃(a:P) (be:List (List P)),c=[S (zq b),a]/\Sl 9 a be/\be.length<=2/\∀f∈be,OB f
structure Pz(sid sg:Nat)(N:Int)(T1:Nat->D)(O1:ah)(nx1 g3 n i:Nat)(em:List (List P))(s:St):Prop where
 fm:K4 sid sg (N+10000*i) (λk=>k=0\/k=2\/k=3\/k=13) T1 O1 nx1 s
 h0:T1 0=.ptr sid sg 2 0 0
 h2:sD (T1 2)
 h3:T1 3=.ptr nx1 g3 2 0 0
 C7:T1 13=.p (I n)
 Et:s.T 14=.p (I i)
 o:∃ed,s.O nx1=J (.row 2 g3 [[ed,.p aD]])/\de s.O (nx1+1) 2 (aW em) ed
 len:em.length=i
 all:∀i x,em[i]? =J x->acU i x
theorem alY{j m:Nat}{r:Int}{fd:D}(hi:i<2)(w:K4 j m (r+10000*i+9000) (λa=>a=0\/a=2\/a=3\/a=13) Q aB u s)(x:Q 0=.ptr j m 2 0 0)(z:sD (Q 2))(A:Q 3=.ptr u g3 2 0 0)(B:Q 13=.p (I n))(F:s.T 14=.p (I i))(G:s.T 5=.ptr ib gb 2 0 0)(aS:u<ib)(o3:s.O u=J (.row 2 g3 [[ed,.p aD]]))(K:de s.O (u+1) 2 (aW em) ed)(a0:∀id t,ed=.sl id t 0 (aW em).length 2 Z->ib≠id)(L:s.O ib=J (.row 2 gb [[.p (S (zq i)),fd]]))(l:de s.O (u+1) 9 (aW be) fd)(N:em.length=i)(hr:∀i E,em[i]? =J E->acU i E)(ab:be.length<=2)(hf:∀f∈be,OB f)(hQ:∀b E,Pz j m r Q aB u g3 n (i+1) (em++[E]) {b with T:=λa=>if a=14 then .p (I ((i+1:Nat):Int)) else b.T a}->b.T 14=.p (I i)->ag .normal b):
 cH (X af) QQ s ag:=by
 letI:Gh:=jo;obtain⟨e,s1,hz,P,ac,R,o,a1,a2⟩:=Rv (xs:=[S (zq i)]) (ys:=[]) w.fr (by simpa using L) l (λid t c=>by rintro rfl;have:=(l.low (by simpa using c)).2;grind);obtain⟨V,ad,al,a4,an,a5⟩:=w;have a6:∀a p,a≠ib->s.O a=J p->(∀t C,p≠.row 9 t C)->s1.O a=s.O a:=λa p g hb hn=>R a g λid t c=>by rintro rfl;have:=(l.low c).2;grind
 have W:∀a,a<=u->s1.O a=s.O a:=λa g=>R a y λid t c=>by have:=(l.low c).1;omega
 refine⟨s1,hz,?_⟩;have a3:s.T 3=.ptr u g3 2 0 0:=U;have b3:s1.T 3=.ptr u g3 2 0 0:=(o 3 (by rw[a3];exact .inr Y)).trans a3;have b5:s1.T 5=.ptr ib gb 2 0 0:=(o 5 (by rw[G];exact .inr Y)).trans G;have a7:s1.T 14=.p (I i):=(o 14 (by rw[F];exact .inl Y)).trans F;have p3:s1.O u=J (.row 2 g3 [[ed,.p aD]]):=U;have a8:=ig P;have ao:D.cells (.p (.agg [S (zq i),e]))=[.p (S (zq i)),.p e]:=rfl;have ax:de s1.O (u+1) 2 (aW em) ed:=K.gM ak;have ay:∀(k:Nat->Nat) (q:St->Prop),q {T:=eF (eF (eF s1.T 39 (.ptr u g3 2 0 0)) 40 ed) 41 (.p (.agg [S (zq i),e])),O:=s1.O,nx:=s1.nx+7,bs:=s1.nx,gm:=k}->eN (X af) [oF 39 3 0,oL 40 1 39,cA 41 2 5] {s1 with bs:=s1.nx,nx:=s1.nx+7,gm:=k} q:=by intro k q hK;simp(disch:=omega)[b3,b5,p3,ac,ba,cF,dv];exact hK
 intro k;refine(iX [oF 39 3 0,oL 40 1 39,cA 41 2 5] _ _ _).mpr (ay k _ ?_);refine TJ (i:=0) (cells:=[ed,.p aD]) (rows:=aW em) (d:=.p (.agg [S (zq i),e])) U aw aw Y U Y ax (by show u+1<=s1.nx;have:=an.lt L;omega) y y (by simp[b3]) y y y p3 rfl Y (λid t c=>by have:=(K.low c).1;omega) dK dK λaE M T' m1 m2 m3 m4 m5 m6 _=>?_;have aI:∀a,a<39->sD (s.T a)->T' a=s.T a:=λa g a9=>by rw[m6 a y y y];simp only[bP];grind
 have bb:∀a,a=0\/a=2\/a=3\/a=13->sD (s.T a):=by
  intro a g;rw[V a g];rcases g with rfl|rfl|rfl|rfl
  rw[x];exact .inr Y;exact z;rw[A];exact .inr Y;rw[B];exact .inl Y
 refine hQ _ [S (zq i),e] ⟨⟨λa g=>?_,?_,λa k1 k2=>?_,aw,m5,y⟩,x,z,A,B,Y,⟨aE,m1,?_⟩,by simp[N],λv E h=>?_⟩ U;simp only[ap (show a≠14 by omega)];exact(aI a y ak).trans (V a g);obtain⟨H,aO,c,q1,q2,q3⟩:=ad;have e1:=(W j y).trans c;refine⟨H,aO,(m4 j y y).trans e1,q1,q2,?_⟩;omega;exact(m4 a y y).trans ((W a y).trans (al a k1 k2));have:aW (em++[[S (zq i),e]])=aW em++[D.cells (.p (.agg [S (zq i),e]))]:=by simp[aW,ao]
 rw[this];exact m2;by_cases aP:v<em.length;rw[xc aP]at h;exact hr v E h;have:=(bq.1 h).1;have aR:v=em.length:=by simp at this;omega
 subst aR;rw[kV (bV _)]at h;simp at h;rw[<-h,N];exact⟨e,be,rfl,P,ab,hf⟩
theorem Pz.next{c d:Nat}{e:Int}(f:Pz c d e Q aB u g3 n i em s)(j:∀a,a=0\/a=2\/a=3\/a=13\/a=14->b.T a=s.T a)(g:b.O=s.O)(k:s.nx<=b.nx):Pz c d e Q aB u g3 n i em b:=by obtain⟨⟨l,m,p,q,r,t⟩,h0,h2,h3,C7,Et,v,h,w⟩:=f;exact⟨⟨ak,U,U,y,by rw[g];exact bK,y⟩,h0,h2,h3,C7,U,U,h,U⟩
theorem de.adB{a:ah}{b:Nat}(c:de a m n rows d)(e:b<=m):de a b n rows d:=c.imp U ak
theorem ajf{d f:Nat}{e:Int}(m:i<2)(hN:0<=e/\e<=4611686018425000000)(o:K4 d f (e+10000*i) (λa=>a=0\/a=2\/a=3\/a=13) Q aB u s)(p:Q 0=.ptr d f 2 0 0)(r:sD (Q 2))(v:Q 3=.ptr u g3 2 0 0)(w:Q 13=.p (I n))(ac:s.T 14=.p (I i))(x:s.T 5=.ptr ib gb 2 0 0)(B:u<ib)(o3:s.O u=J (.row 2 g3 [[ed,.p aD]]))(C:de s.O (u+1) 2 (aW em) ed)(ad:∀id t,ed=.sl id t 0 (aW em).length 2 Z->id<ib)(h:s.O ib=J (.row 2 gb [[.p (S (zq i)),.p aD]]))(D:em.length=i)(F:∀i E,em[i]? =J E->acU i E)(H:∀b E,Pz d f e Q aB u g3 n (i+1) (em++[E]) {b with T:=λa=>if a=14 then .p (I ((i+1:Nat):Int)) else b.T a}->b.T 14=.p (I i)->ag .normal b):
 cH (X af) (.seq (z 3 (G 23 0::q 24 (.call 8 [.t 23,.c (I 1),.c (I 2)])::Xw) XR) QQ) s ag:=by
 letI:Gh:=jo;have K:=o;obtain⟨fT,L,al,an,j,ao⟩:=K;have k:s.T 0=.ptr d f 2 0 0:=U;have ax:=j.lt h;rw[iY];refine bU br ?_;simp[k];intro gm;refine yu y y y L y y λM A O2 ay aE aI l O=>?_;simp[Xw];obtain⟨c,rfl⟩:=kg (show 0<=A by omega);rw[show XR=.block 2 (.loop Xe) from rfl,lF];refine ahK (N:=e+10000*i+1) (c:=c) ⟨⟨λa g=>rfl,O.mono y,λa _ _=>rfl,aw,λa g=>?_,y⟩,?_,?_,Y,Y,⟨_,(l ib y).trans h,.inl Y⟩,bV _,rfl,ak⟩ y y λb be P=>?_;have g:M<=a:=g;exact(l a y).trans (j a y);simp[k];simp[x];obtain⟨⟨R,V,aO,aP,W,aR⟩,g0,g5,aS,a1,⟨ab,p5,L5⟩,a2,gl,a3⟩:=P;have tt:∀a,a<23->a≠6->b.T a=s.T a:=λa g h6=>by rw[R a y];exact cj
 have kp:∀a,a<ib->a≠d->b.O a=s.O a:=U;show cH (X af) QQ b ag;refine alY m (fd:=ab) (ib:=ib) (gb:=gb) (ed:=ed) (em:=em) (g3:=g3) (n:=n) ⟨ak,V.mono y,ak,y,W,y⟩ p r v w U U B ak (C.gM ak) ak p5 (L5.adB y) D F y U H
theorem agA{d e:Nat}{N:Int}(a:Pz d e N Q aB u g3 n 0 [] s)(K:n<=2)(o:0<=N/\N<=4611686018425000000)(p:∀b em,Pz d e N Q aB u g3 n n em b->ag (.exit 0) b):cH (X af) (.loop QA) s ag:=by
 letI:Gh:=jo;refine⟨λc s=>∃v:Nat,c=n-v/\v<=n/\∃em,Pz d e N Q aB u g3 n v em s,ak,?_⟩;clear a;rintro c s ⟨i,rfl,L,em,a⟩;have h:s.T 13=.p (I n):=(a.fm.fT 13 y).trans a.C7;have g:=a.Et;show cH _ (.seq _ (.seq _ (.seq _ _))) _ _;refine bU br ?_;by_cases q:i<n;have r:=lW (i:=i) y;have w:IntKind.i64.wrap (97+(i:Int))=97+i:=iK y y;have x:IntKind.i32.wrap (97+(i:Int))=97+i:=by simp only[IntKind.wrap,IntKind.bits,IntKind.signed];simp;omega
 have M:s.T 0=.ptr d e 2 0 0:=(a.fm.fT 0 y).trans a.h0;have O:s.T 3=.ptr u g3 2 0 0:=(a.fm.fT 3 y).trans a.h3;obtain⟨ed,z,j⟩:=a.o;simp[-az,h,g,binOp,aC,q];intro A;refine bU br ?_;simp[-az];rw[iY,lF];refine bU br ?_;simp[g];intro R;refine bU br ?_;have S:0<(gY (97+(i:Int))).size/\(gY (97+(i:Int))).size<=4:=by have:∀i:Nat,i<2->0<(gY (97+(i:Int))).size/\(gY (97+(i:Int))).size<=4:=KZ;exact ak
 simp(disch:=omega)[binOp,aC,gD,fh,cF,dv,D.cells,P.cells,aJ,w,x,bI];intro B;refine⟨by show 1+_<=_;omega,?_⟩;refine ajf (ib:=s.nx+1+2+6) (gb:=B (s.nx+1+2+6)) y o ⟨λc f=>?_,a.fm.str.aL (ai (by have:=a.fm.YN;have:=a.fm.gp;omega)),λc k C=>(ai (by have:=a.fm.gp;omega)).trans (a.fm.low c k C),by show u<=s.nx+1+2+8;have:=a.fm.gp;omega,(a.fm.fr.mono aw).am aw,a.fm.YN⟩ a.h0 a.h2 a.h3 a.C7 ar Y (by have:=a.fm.gp;omega) ((ai (by have:=a.fm.gp;omega)).trans z) (j.gM λid t l k m=>(ai (by have:=a.fm.fr.lt m;omega)).trans m) (λid t l=>by have:=a.fm.fr.lt (j.low l).2;omega) ?_ a.len a.all λb E F G=>?_
 .simp only[bP];repeat rw[ap y]
  exact a.fm.fT c f
 simp[zq];show cH _ (.dg _ _ _) _ _;refine mJ br _ ?_;simp[G,binOp,aC,r];intro T;refine⟨_,?_,i+1,rfl,y,em++[E],F.next (λc f=>?_) rfl aw⟩;omega;by_cases f:c=14;exact U;exact cj;have H:i=n:=y;subst H;simp[-az,h,g,binOp,aC];intro A;refine bU br ?_;simp[-az];refine p _ em (a.next (λc f=>?_) rfl aw);exact cj
def nl:P:=.v (.slice ae 0 0)
def U1{d g:Nat}{e:Int}(F:0<=e/\e<=4611686018426000000)(n:fV d g e s.O)(h:Fr s.O s.nx)(H:d≠bu)(f:s.T 0=.ptr d g 2 0 0)(t:s.T 9=.ptr bu cg 10 0 0)(o:s.O bu=J (.row 10 cg [[S a,S ⟨#[]⟩,B Z,B Z,B Z,B Z,nl,nl,nl,nl].map .p]))(u:∀b i j k l,(∀c,c<57->b.T c=s.T c)->fV d g (e+4) b.O->(∀c,c≠d->c≠bu->b.O c=s.O c)->b.O bu=J (.row 10 cg [[S a,S ⟨#[]⟩,B i,B j,B k,B l,nl,nl,nl,nl].map .p])->s.nx<=b.nx->Fr b.O b.nx->ag .normal b):
 bx (X af) (rF 16 (G 72 0::q 73 (.call 7 [.t 72,.c (I 3)])::Sv)) s ag:=by
 letI:Gh:=jo;have K:d<s.nx:=by obtain⟨_,_,v,_⟩:=n;exact h.lt v
 have L:=h.lt o;simp[f];intro M;refine oq y n y y λN i aB O Q w=>?_;simp[Sv,f];refine oq y w y y λR j T V W x=>?_;simp[abv,f];refine oq y x y y λY k O3 ab e3 z=>?_;simp[Zo,f];refine oq y z y y λA l p ac e4 C=>?_;have r:∀c,c≠d->p c=s.O c:=U;have E:p bu=J (.row 10 cg [[.p (S a),.p aF,.p (B Z),.p (B Z),.p (B Z),.p (B Z),.p nl,.p nl,.p nl,.p nl]]):=(r bu y).trans o;simp[ZN,t,E,bI,D.cells,P.cells,aJ];refine u _ i j k l (λc m=>?_) ((C.mono y).aL U) (λc k1 k2=>?_) (by simp[nl]) aw λc m=>?_;exact cj;exact U;have m:A<=c:=m;exact(ai y).trans ((r c y).trans (h c y))
theorem aaf{d k:Nat}{f:Int}(hN:0<=f/\f<=4611686018426000000)(z:fV d k f s.O)(l:Fr s.O s.nx)(L:d≠bu)(ao:d<u)(ax:u<bu)(hi:0<i)(ay:i<=5)(M:s.T 0=.ptr d k 2 0 0)(N:s.T 3=.ptr u g3 2 0 0)(O:s.T 8=.p (I i))(Q:s.T 9=.ptr bu cg 10 0 0)(F:s.O bu=J (.row 10 cg [[S a,S ⟨#[]⟩,B Z,B Z,B Z,B Z,nl,nl,nl,nl].map .p]))(R:s.O u=J (.row 2 g3 [[.p bZ,cT]]))(T:de s.O (u+1) 10 (aW C) cT)(hx:∀id t,cT=.sl id t 0 (aW C).length 10 Z->id<bu)(hl:C.length=i)(V:∀v A,C[v]? =J A->∀n,Ae n v A)(W:∀b e m o p r,(e.size=0\/∃v,v<i/\e=gG v)->(∀c,c<57->b.T c=s.T c)->fV d k (f+4) b.O->(∀c,c≠d->c≠bu->b.O c=s.O c)->b.O bu=J (.row 10 cg [[S a,S e,B m,B o,B p,B r,nl,nl,nl,nl].map .p])->s.nx<=b.nx->Fr b.O b.nx->ag .normal b):
 bx (X af) (.dg 10 aa (aZ 63 (xF 3 1)::aZ 64 (xL 1 63)::aZ 65 (xM 0)::aZ 66 (xM 8)::q 67 (dV 19 65 66)::UJ)) s ag:=by
 letI:Gh:=jo;have aB:d<s.nx:=by obtain⟨_,_,g,_⟩:=z;exact l.lt g
 have aE:=l.lt F;have aI:=y;have Y:d≠u:=y;have n2:bu≠u:=y;intro gm;refine⟨[u],?_⟩;simp(disch:=omega)[only,M,N,O,R];refine vR y y (z.aL (by simp[aX,Y])) y y λab A w aO ac aP x G=>?_;obtain⟨v,rfl⟩:=kg ac;have H:v<C.length:=y;obtain⟨id,t,aR,ad,hO⟩:∃id t,u+1<=id/\cT=.sl id t 0 C.length 10 Z/\s.O id=J (.row 10 t (aW C)):=by rcases T.sl with⟨g,_⟩|h;grind;exact ar
 have aS:id<bu:=U;obtain⟨e,m,o,p,r,q6,q7,q8,q9,be,rl,a0,E,hr,_⟩:=V v _ (bh H) 5;have e2:w id=J (.row 10 t (aW C)):=by rw[x id y];have:id≠u:=y;simp[aX,this,hO]
 have e9:w bu=J (.row 10 cg [[.p (S a),.p aF,.p (B Z),.p (B Z),.p (B Z),.p (B Z),.p nl,.p nl,.p nl,.p nl]]):=by rw[x bu y];simp only[aX,bD,ap n2];exact F
 have al:(aW C)[v]? =J ([S (gG v),S e,B m,B o,B p,B r,q6,q7,q8,q9].map .p):=by simp[aW,dN,bh H,hr]
 subst ad;have an:(v:Int)<C.length:=y;simp(disch:=omega)[UJ,Q,e2,e9,al,an,bI,D.cells,P.cells,aJ,ba];have K:∀c,c≠d->c≠bu->bp (am w bu (J (.row 10 cg [[D.p (S a),D.p (S (gG v)),D.p (B Z),D.p (B Z),D.p (B Z),D.p (B Z),D.p nl,D.p nl,D.p nl,D.p nl]]))) (only [u] s.O) c=s.O c:=by intro c k1 k2;simp only[bp,ai k2,x c k1,aX,only,bD];by_cases j:c=u;exact U;grind
 refine W _ (gG v) Z Z Z Z ak (λc j=>?_) ((G.mono y).aL ?_) K ?_ aw λc j=>?_;exact cj;obtain⟨_,_,g,_⟩:=G;simp only[bp,ai L,g];simp[bp];have j:ab<=c:=j;exact(K c y y).trans (l c y)
theorem al4{e w:Nat}{r:Int}(hN:0<=r/\r<=4611686018425000000)(x:fV e w r s.O)(N:Fr s.O s.nx)(D:e≠bu)(V:e<u)(Y:u<bu)(ab:i<=5)(k:s.T 0=.ptr e w 2 0 0)(h3:s.T 3=.ptr u g3 2 0 0)(E:s.T 8=.p (I i))(F:s.T 9=.ptr bu cg 10 0 0)(O:s.O bu=J (.row 10 cg [[S a,S ⟨#[]⟩,B Z,B Z,B Z,B Z,nl,nl,nl,nl].map .p]))(o3:s.O u=J (.row 2 g3 [[.p bZ,cT]]))(ac:de s.O (u+1) 10 (aW C) cT)(hx:∀id t,cT=.sl id t 0 (aW C).length 10 Z->id<bu)(hl:C.length=i)(al:∀v A,C[v]? =J A->∀n,Ae n v A)(H:∀b l d f g h,(iO l=0\/∃v,v<i/\l=gG v)->(∀c,c<57->b.T c=s.T c)->fV e w (r+5) b.O->(∀c,c≠e->c≠bu->b.O c=s.O c)->b.O bu=J (.row 10 cg [[S a,S l,B d,B f,B g,B h,nl,nl,nl,nl].map .p])->s.nx<=b.nx->Fr b.O b.nx->ag .normal b):
 cH (X af) (z 6 (G 57 8::q 58 (di .gtr 57 0)::G 59 58::oT 60 59 (xM 0)::oT 61 59 (.call 7 [.t 60,.c (I 3)])::Iq) Rp) s ag:=by
 letI:Gh:=jo;refine mJ br _ ?_;rw[bF,dD];intro gm;have an:e<s.nx:=by obtain⟨_,_,ad,_⟩:=x;exact N.lt ad
 by_cases K:0<i;simp[E,k,binOp,aC,K];refine oq y x y y λn1 d aB ao P Q=>?_;simp[Iq];have e3:aB u=J (.row 2 g3 [[.p bZ,cT]]):=ak;have R:=(P bu y).trans O;have L':de aB (u+1) 10 (aW C) cT:=ac.gM ak;have ax:Fr aB n1:=λc j=>(P c y).trans (N c y);cases d with|true=>refine aaf y Q ar D V Y K ab (by simp[k]) (by simp[h3]) (by simp[E]) (by simp[F]) R e3 L' hx hl U λb l d f g h W m L M o T p=>H b l d f g h W (λc j=>(m c j).trans ?_) ak U o ak p;exact cj|false=>refine U1 y Q ar D (by simp[k]) (by simp[F]) R λb d f g h m L M o T p=>H b _ d f g h (.inl (by rfl)) (λc j=>(m c j).trans ?_) ak U o ak p;exact cj
 simp[E,k,binOp,aC,K,Iq];refine U1 y x bK D (by simp[k]) (by simp[F]) O λb d f g h m L M o T p=>H b _ d f g h (.inl (by rfl)) (λc j=>(m c j).trans ?_) (L.mono y) M o ak p;exact cj
def uZ:aW (bA++[A])=aW bA++[A.map D.p]:=Y
theorem ajh(g:Fr s.O s.nx)(I:u<bu)(h:A.length=10)(K:∀E∈A,D.cells (.p E)=[.p E])(L:C.length<=100)(j:s.T 3=.ptr u g3 2 0 0)(p:s.T 9=.ptr bu cg 10 0 0)(k:s.O bu=J (.row 10 cg [A.map .p]))(l:s.O u=J (.row 2 g3 [[.p bZ,cT]]))(m:de s.O (u+1) 10 (aW C) cT)(r:∀b e,(∀a,a<84->b.T a=s.T a)->b.O u=J (.row 2 g3 [[.p bZ,e]])->de b.O (u+1) 10 (aW (C++[A])) e->(∀a,a<u->b.O a=s.O a)->(∀a n,a≠u->s.O a=J n->(∀id t,cT=.sl id t 0 (aW C).length 10 Z->a≠id)->b.O a=J n)->s.nx<=b.nx->Fr b.O b.nx->(∀id t,e=.sl id t 0 (C.length+1) 10 Z->s.nx<=id\/∃t,cT=.sl id t 0 (aW C).length 10 Z)->ag .normal b):
 bx (X af) (rF 7 [oF 84 3 1,oL 85 1 84,cA 86 10 9,q 87 (.bQ 3 10 1 [aF,aF,dZ,dZ,dZ,dZ,aD,aD,aD,aD] [(0,.t 86)]),q 88 (jE 4 10 136 85 87),oF 89 3 1,oN (xS 1 89 88)]) s ag:=by
 letI:Gh:=jo;have N:=g.lt k;have P:=y;have v:(A.map D.p).take 10=A.map D.p:=cp (by simp[h]);have Q:D.cells (.p (.agg A))=A.map .p:=by simp[D.cells,dw]
 have w:∀(c:Nat->Nat) (f:St->Prop),f {T:=eF (eF (eF s.T 84 (.ptr u g3 2 0 1)) 85 cT) 86 (.p (.agg A)),O:=s.O,nx:=s.nx+7,bs:=s.nx,gm:=c}->eN (X af) [oF 84 3 1,oL 85 1 84,cA 86 10 9] {s with bs:=s.nx,nx:=s.nx+7,gm:=c} f:=by intro c f x;simp(disch:=omega)[j,p,l,k,ba,h,v];exact x
 intro c;refine(iX [oF 84 3 1,oL 85 1 84,cA 86 10 9] _ _ _).mpr (w c _ ?_);refine TJ (i:=0) (d:=.p (.agg A)) g aw aw Y U Y m aw y y (by simp[j]) y y y l rfl Y (λid t o=>by have:=(m.low o).1;omega) dK dK λz M R B S V W F G H=>?_;refine r _ z (λa hk=>?_) B ak ak aj aw F λid t o=>H id t U;refine(G a y y y).trans ?_;exact cj
structure Du(sid sg:Nat)(N:Int)(T1:Nat->D)(O1:ah)(nx1 g3 idE gE i9 i:Nat)(ep:P)(es:List (List P))(hd:List P)(v7 c91 j:Nat)(fl:List (List P))(s:St):Prop where
 fm:K4 sid sg (N+5000*j) (λk=>k=0\/k=2\/k=3\/k=8\/k=9\/k=47\/k=48\/k=91) T1 O1 nx1 s
 h0:T1 0=.ptr sid sg 2 0 0
 h3:T1 3=.ptr nx1 g3 2 0 0
 h8:T1 8=.p (I i)
 h9:∃g9 rest,T1 9=.ptr i9 g9 10 0 0/\s.O i9=J (.row 10 g9 [.p (S (gG i))::rest])
 h91:T1 91=.p (I c91)
 h92:s.T 92=.p (I j)
 h7:s.T 7=.p (I v7)
 o3:s.O nx1=J (.row 2 g3 [[.p ep,.sl idE gE 0 (i+1) 10 Z]])
 oE:∃fd,s.O idE=J (.row 10 gE (aW es++[hd.map D.p++[fd,.p nl,.p nl,.p nl]]))/\de s.O (nx1+1) 9 (aW fl) fd
 hE:nx1<idE
 hi9:nx1<i9
 qK:i9≠idE
 hl:es.length=i
 len:fl.length=j
 all:∀f∈fl,JE f
def rN{e:cR}:∀(a c:List aA) (s:St) (F:ah) (d:St->ah->Prop),fS e (a++c) s F d=fS e a s F λb f=>fS e c b f d
 |[],_,_,_,_=>rfl
 |g::a,c,s,F,d=>by
  simp only[kR,fS];cases g.fc<;>simp only;all_goals
   congr 1;funext b;exact rN a c _ _ d
def ar9{b}(a:List b)(d c:b):(a++[d]).set a.length c=a++[c]:=by simp
theorem Du.next{c d:Nat}{e:Int}{f:Nat}(g:Du c d e Q aB u g3 bO dH bu i bZ C bT fX fJ v be s)(k:∀a,a=0\/a=2\/a=3\/a=8\/a=9\/a=47\/a=48\/a=91\/a=92->b.T a=s.T a)(h:b.T 7=.p (I f))(j:b.O=s.O)(l:s.nx<=b.nx):Du c d e Q aB u g3 bO dH bu i bZ C bT f fJ v be b:=by obtain⟨⟨m,n,o,p,q,r⟩,h0,h3,h8,⟨cg,t,h9,w⟩,h91,h92,h7,o3,⟨x,oE,H⟩,hE,hi9,qK,hl,z,A⟩:=g;exact⟨⟨ak,U,U,y,by rw[j];exact bK,y⟩,h0,h3,h8,U,h91,U,h,U,U,hE,hi9,qK,hl,y,U⟩
theorem aja{p S:Nat}{V:Int}{r W:Nat}{e:List P}(hs:Du p S (V+5000) Q aB u g3 bO dH bu i bZ C bT fX fJ v be s)(w:bT.length=6)(hj:v<=100)(hi:i<=100)(hf:JE e)(ax:e.length=9)(ay:s.T 10=.ptr r W 9 0 0)(k:s.O r=J (.row 9 W [e.map .p]))(hQ:∀b,Du p S V Q aB u g3 bO dH bu i bZ C bT fX fJ (v+1) (be++[e]) {b with T:=λa=>if a=92 then .p (I ((v+1:Nat):Int)) else b.T a}->b.T 92=.p (I v)->ag .normal b):
 bx (X af) (.dg 15 aa ([aZ 107 (xF 3 1),aZ 108 (jP 1 107),aZ 109 (xM 8),oF 110 3 1,aZ 111 (jP 1 110),G 112 8,q 113 (xI 10 111 112),oF 114 113 6,q 115 (jP 1 114),cA 116 9 10]++([q 117 (.bQ 10 9 1 [aF,aH,aF,dZ,aH,aH,aF,aD,aD] [(0,.t 116)]),q 118 (jE 11 9 128 115 117)]++[q 119 (xI 10 108 109),oF 120 119 6,oN (xS 1 120 118)]))) s ag:=by
 letI:Gh:=jo;have aE:=hs;obtain⟨⟨fT,aI,aO,bB,x,ab⟩,h0,h3,h8,⟨cg,aP,h9,o9⟩,aR,aS,h7,z,⟨c,A,H⟩,hE,a0,ac,B,a1,a2⟩:=aE;have a3:s.T 3=.ptr u g3 2 0 0:=U;have a8:s.T 8=.p (I i):=U;have n3:=x.lt z;have nE:=x.lt A;have bC:=x.lt k;have m1:bO≠u:=y;have m2:r≠u:=by rintro rfl;rw[z]at k;cases k
 have m3:r≠bO:=by rintro rfl;rw[A]at k;cases k
 have ad:(aW C++[bT.map D.p++[c,.p nl,.p nl,.p nl]])[i]? =J (bT.map D.p++[c,.p nl,.p nl,.p nl]):=by rw[<-B];simp
 have a4:(bT.map D.p++[c,.p nl,.p nl,.p nl])[6]? =J c:=by rw[kV U];simp[w]
 have a5:(e.map D.p).take 9=e.map D.p:=cp U;have a6:D.cells (.p (.agg e))=e.map .p:=by simp[D.cells,dw]
 intro al;refine⟨[u],?_⟩;rw[rN];have a7:∀(E:St->ah->Prop),(∀l,(∀a,a<107->l a=s.T a)->l 108=.sl bO dH 0 (i+1) 10 Z->l 109=.p (I i)->l 115=c->l 116=.p (.agg e)->E {T:=l,O:=aX [u] s.O,nx:=s.nx+15,bs:=s.nx,gm:=al} (only [u] s.O))->
  fS (X af) [aZ 107 (xF 3 1),aZ 108 (jP 1 107),aZ 109 (xM 8),oF 110 3 1,aZ 111 (jP 1 110),G 112 8,q 113 (xI 10 111 112),oF 114 113 6,q 115 (jP 1 114),cA 116 9 10] {T:=s.T,O:=aX [u] s.O,nx:=s.nx+15,bs:=s.nx,gm:=al} (only [u] s.O) E:=by intro E hK;have j:(i:Int)<((i+1:Nat):Int):=y;have F:(i:Int)<(i:Int)+1:=y;simp(disch:=omega)[aX,only,a3,a8,ay,z,A,k,m1,m2,m3,j,F,ba,ad,a4,ax,a5];refine⟨n3,nE,hK _ (λa d=>?_) Y Y Y Y⟩;exact j5
 refine a7 _ λT2 t1 t2 t3 t4 t5=>?_;rw[rN,pY _ Y];have a9:Fr (aX [u] s.O) s.nx:=λa d=>by simp only[aX];split<;>first|rfl|exact x a d
 have bH:∀a f,a≠u->s.O a=J f->aX [u] s.O a=J f:=λa f d hb=>by simp[aX,d,hb]
 have L':de (aX [u] s.O) (u+1) 9 (aW be) c:=H.gM ak;have bL:∀id t,c=.sl id t 0 (aW be).length 9 Z->bO≠id:=λid t o=>by rintro rfl;have:=(H.low o).2;grind
 refine wj a9 aw aw t5 U t4 L' aw y y dK dK λg M K q1 q2 q3 q4 q5 q6 q7=>?_;have qE:M bO=J (.row 10 dH (aW C++[bT.map D.p++[c,.p nl,.p nl,.p nl]])):=q3 bO _ U U;have bb:K 108=.sl bO dH 0 (i+1) 10 Z:=U;have bd:K 109=.p (I i):=U;have j:(i:Int)<((i+1:Nat):Int):=y;have F:(i:Int)<(i:Int)+1:=y;have bk:=q1.cell;have bM:(bT.map D.p++[c,.p nl,.p nl,.p nl]).length=10:=by simp[w]
 have bl:bI (bT.map D.p++[c,.p nl,.p nl,.p nl]) [g] 6=bT.map D.p++[g,.p nl,.p nl,.p nl]:=by match bT,w with|[x1,x2,x3,x4,x5,x6],_=>rfl
 have bm:(aW C++[bT.map D.p++[c,.p nl,.p nl,.p nl]]).set i (bT.map D.p++[g,.p nl,.p nl,.p nl])=aW C++[bT.map D.p++[g,.p nl,.p nl,.p nl]]:=by
  have:i=(aW C).length:=by simp[B]
  rw[this,ar9]
 simp(disch:=omega)[bb,bd,j,F,qE,q2,bk,ad,w,bl,bm];generalize m:bp (am M bO (J (.row 10 dH (aW C++[bT.map D.p++[g,.p nl,.p nl,.p nl]])))) (only [u] s.O)=n;have bR:p≠bO:=y;have v3:n u=J (.row 2 g3 [[.p bZ,.sl bO dH 0 (i+1) 10 Z]]):=by rw[<-m];have:M u=ae:=(q4 u y).trans (by simp[aX]);simp[bp,ai (dB m1),this,only,z]
 have vE:n bO=J (.row 10 dH (aW C++[bT.map D.p++[g,.p nl,.p nl,.p nl]])):=by rw[<-m];simp[bp]
 have vk:∀a f,a≠u->a≠bO->s.O a=J f->(∀id t,c=.sl id t 0 (aW be).length 9 Z->a≠id)->n a=J f:=by intro a f L N hb d;rw[<-m];simp only[bp,ai N,q3 a f U d]
 have an:∀a,a<u->n a=s.O a:=by intro a d;have j:=q4 a y;rw[<-m];have:a≠u:=y;simp only[bp,ai (show a≠bO by omega),j,aX,only,bD,ap y];cases s.O a<;>rfl
 have ao:de n (u+1) 9 (aW be++[D.cells (.p (.agg e))]) g:=q1.gM λid t o h1 h2=>by
  have:id≠bO:=by
   rintro rfl;rcases q6 id t o with h|⟨g',h⟩
   grind;grind
  rw[<-m];simp only[bp,ai this,h2]
 have bn:Fr n (s.nx+15):=by intro a d;have j:=q5 a d;rw[<-m];have:a≠u:=y;simp only[bp,ai (show a≠bO by omega),j,only,bD,ap this]
 have R:∀a,a<107->eF (eF K 119 (D.ptr bO dH 10 i 0)) 120 (D.ptr bO dH 10 i 6) a=s.T a:=by
  intro a d;simp only[bP];repeat rw[ap y]
  exact(q7 a y y).trans (t1 a d)
 have bo:∀id t,c=.sl id t 0 (aW be).length 9 Z->bu≠id:=λid t o=>by rintro rfl;have:=(H.low o).2;rw[o9]at this;cases this
 refine hQ _ ⟨⟨λa d=>?_,?_,λa L N=>(an a L).trans (aO a L N),aw,bn,ab⟩,h0,h3,h8,⟨cg,aP,h9,vk bu _ y ac o9 bo⟩,aR,Y,?_,v3,⟨g,vE,by rw[a6,<-uZ]at ao;exact ao⟩,hE,a0,ac,B,by simp[a1],?_⟩ ((R 92 y).trans aS);simp only[ap (show a≠92 by omega)];exact(R a y).trans (fT a d);refine(aI.aL (an p ab)).mono ?_;omega;simp only[ap (show 7≠92 by omega)];exact(R 7 y).trans h7;intro f' bA;rcases bg.1 bA with h|h
 exact a2 f' h;rw[bD.1 h];exact hf
def adP(a:pN A=aa):wD (A.map D.p)=A.map D.p:=by induction A with|nil=>rfl|cons b A ih=>simp[pN,aq]at a;simp[bG,wD,C2,a.1,aT,ih a.2]
def Pk{a:List (List P)}(b:∀A∈a,pN A=aa):(a.map (·.map D.p)).map wD=a.map (·.map D.p):=by rw[mh];exact iL λA c=>adP U
theorem X.apl{e:Program}{f:FuncId}{g:List D}{h:List P}{a:ah}{c:Nat}{i:D->ah->Nat->Prop}(o:Fr a c)(p:mB a g h)(q:X e f (h.map .p) (λ_=>ae) c λd O' j=>∃rows:List (List P),(∀A∈rows,pN A=aa)/\((d=.p aD/\rows=[]/\O'=λ_=>ae)\/∃id t,c<=id/\d=.sl id t 0 rows.length n Z/\O'=am (λ_=>ae) id (J (.row n t (rows.map (·.map .p)))))/\∀bn,Sl n bn rows->i (.p bn) a j):X e f g a c i:=by
 refine X.rW (X.view p (br _ _ _ _ _ _ (λd O' j b=>?_) q));obtain⟨rows,r,s,l⟩:=b;rcases s with⟨rfl,rfl,rfl⟩|⟨id,t,u,rfl,rfl⟩
 have m:bp (qy λ_=>ae) a=a:=by funext k;simp[bp,qy]
 refine⟨.p aD,a,?_,l _ aj⟩;exact aj;have m:bp (qy (am (λ_=>ae) id (J (.row n t (rows.map (·.map .p)))))) a=am a id (J (.row n t (rows.map (·.map .p)))):=by funext k;by_cases b:k=id;subst b;simp only[bp,qy,bi,Pk r];simp[bp,qy,ai b]
 have v:am (am a id (J (.row n t (rows.map (·.map .p))))) id ae=a:=by rw[oS];funext k;by_cases b:k=id;subst b;rw[bi,o k u];exact U
 refine⟨.p (.im rows n Z),a,?_,l _ aj⟩;rw[m];refine .step id t n rows Y ?_;have w:gx id t n rows (.sl id t 0 rows.length n Z)=.p (.im rows n Z):=by simp[gx]
 show wR (gx id t n rows (.sl id t 0 rows.length n Z)) _ _ _;rw[w,v];exact aj
def jp.nm{em a:List (List P)}(c:jp em a){b:Nat}(d:b<a.length): @Gh.nm (KJ em a c) (gG b):=⟨a[b],Y,tv (c.row b _ Y)⟩
theorem ah0(c:jp em C)(r:1<=C.length){h:P}{e:ah}{g:Nat}{m:D->ah->Nat->Prop}(j:Fr e g)(s:qP e d (.agg [bZ,h]))(u:Sl 2 bZ em)(v:Sl 10 h C)(w:i<C.length)(o:∀a bn,g<=a->(∀cJ:Gh,@CT.ok cJ Ty.EY bn)->m (.p bn) e a):X af 42 [d,.p (S (gG i))] e g m:=by
 refine X.apl (n:=3) j (.cons _ _ _ _ s (.cons _ _ _ _ (.p _) .nil)) ?_;letI:=KJ em C c;refine(s44 (λ_=>ae) g _ [.agg [bZ,h],S (gG i)] ⟨c.mg r u v,⟨gG i,rfl,c.nm w⟩,aj⟩ (λf j=>by cases j)).1 rfl λa K x O' p y _ b=>?_;obtain⟨L,M,rfl,W,z⟩:=Vs.cons y;obtain rfl:=Vs.nil z;obtain⟨rows,k,B,E,q,_⟩:=W;have N:∀A∈rows,pN A=aa:=by intro A F;obtain⟨O,Q,rfl,⟨R,rfl,_⟩,G⟩:=Row.cons (q A F);obtain⟨T,V,rfl,⟨Y,rfl,_⟩,H⟩:=Row.cons G;obtain⟨p3,q3,rfl,⟨a3,rfl,_⟩,g3⟩:=Row.cons H;obtain rfl:=Row.nil g3;rfl
 have ab:∀bn,Sl 3 bn rows->∀cJ:Gh,@CT.ok cJ Ty.EY bn:=λbn l cJ=>JO (KJ em C c) cJ Ty.EY aj ⟨rows,l,B,E,q,ar⟩
 match x,b with
 |[d'],b=>
  simp only[lg,S44]at b;simp at b;rcases b with⟨rfl,rfl,rfl⟩|⟨ac,n',rfl,rfl,id,I,_,⟨t,rfl,rfl⟩⟩
  refine⟨rows,U,.inl ⟨rfl,?_,rfl⟩,λbn l=>o a bn p U⟩;cases k;rfl;refine⟨rows,U,.inr ⟨id,t,I,?_,?_⟩,λbn l=>o a bn p U⟩;cases k;rfl;cases k;rfl
def SV(a: @CT.ok cJ Ty.EY bn): @CT.ok cJ Ty.alf bn:=by obtain⟨rows,b,c,d,e,_⟩:=a;refine⟨rows,b,c,d,λA f=>?_,ar⟩;obtain⟨j,k,rfl,⟨g,rfl,l⟩,h⟩:=Row.cons (e A f);obtain⟨m,n,rfl,i,g3⟩:=Row.cons h;exact⟨⟨g,rfl,y⟩,i,g3⟩
theorem ahU{b c:Nat}{j:Int}{d:ah}{e:Nat}{k:D->ah->Nat->Prop}(l:Am em)(q:Sl 2 bZ em)(M:a.size<=100)(N:∀cJ:Gh,@CT.ok cJ Ty.EY bn)(m:fV b c j d)(O:j<=4611686018427000000)(r:b<e)(s:∀g f O',e<=g->JE f->(∀n,n≠b->O' n=d n)->fV b c (j+4000) O'->k (.p (.agg f)) O' g):
 X af 40 [.ptr b c 2 0 0,.p (S a),.p bZ,.p bn,.p (B Z)] d e k:=by
 obtain⟨H,o,t,P,u,Q⟩:=m;letI:=jo;have v:CT.ok (Ty.aY Ty.Mw 2) bZ:=by refine⟨em,q,y,by have:=l.1;omega,λA w=>?_,aj⟩;obtain⟨i,x,rfl⟩:=eD w;obtain⟨z,be,C,m,R,h⟩:=l.2 i _ (bh x);rw[C];have T:=l.1;have V:=Pt i y;exact⟨⟨zq i,rfl,y⟩,⟨be,m,y,y,aj,aj⟩,aj⟩
 refine(s18 d e k [S a,bZ,bn,B Z] ⟨⟨a,rfl,y⟩,v,SV U,aj,aj⟩ (λf h=>by cases h)).2 rfl b c H o r t U u (by show o<=4611686018427387000-4000;omega) λg W p E ds O' F G I g2 g3 _ K=>?_;obtain⟨rfl,rfl⟩:=mY K;obtain⟨z,qs,rfl,⟨f,rfl,h,_⟩,L⟩:=Vs.cons G;obtain rfl:=Vs.nil L;exact s g f _ F (ajo h) U ⟨E,p,Y,Cj I,y,by have:p<=o+4000:=g3;omega⟩
end Go.Dl
