import Derived.Test.YtaggkglfnbcjdaaGreatDoorQ15
set_option linter.all false
set_option maxRecDepth 1000000
set_option maxHeartbeats 40000000
namespace Go.Dl.Ai
end Go.Dl.Ai
namespace Go.Proofs
end Go.Proofs
namespace Ty
end Ty
open Bool renaming false->Z,true->aa
open Go renaming Exit->aV
open Go.Exit renaming ret->sP
open Go.IntKind renaming i64->cI
open Go.Proofs.Tryz renaming prog->af
open List renaming length_append->fj
open Option renaming none->ae,some->J
open Go Go.Dl Go.Dl.Ai
variable {g:D->ah->Nat->Prop}{Q sz:Int}{V:List Nat}{r:ah}{b:fg}{l:List CE}{f:KE}{k ag bM:P}{x:CE}{K H E:List (List P)}{a bB:Nat}{row C:List P}{d:D}{R:List AO}{aR:cR}
namespace Go.Dl
open Go.Proofs Go.Dl.Ai
theorem Ti[Gh]{n o:P}(x:VT.ok Ty.MG n)(z:VT.ok (.agg Ty.lU) o){num:Int}(N:0<=num)(O:num<=4000000000000000000){b f:Nat}{p:Int}{h:ah}{i:Nat}(Q:fV b f p h)(hN:p<=4611686018426000000)(R:b<i)(S:∀j m a K H,i<=j->rQ a num K H->(∀k,k≠b->m k=h k)->fV b f (p+20) m->g (.p (.agg a)) m j):
 X af 30 [.ptr b f 2 0 0,.p n,.p o,.p (I num)] h i g:=by obtain⟨T,q,c,hL,V,g2⟩:=Q;refine(s92 h i g [n,o,I num] ⟨x,z,⟨num,rfl,N,O⟩,aj⟩ (λax hf=>by cases hf)).2 rfl b f T q R c U V (by show q<=4611686018427387000-20;omega) λj ay A L2 ds m k1 hv ab k2 B ac ad=>?_;have B:A<=q+20:=B;obtain⟨rfl,rfl⟩:=mY ad;obtain⟨aB,qs,rfl,⟨a,rfl,d,_⟩,ag⟩:=Vs.cons hv;obtain rfl:=Vs.nil ag;obtain⟨p0,r1,rfl,⟨e,rfl,_⟩,y1⟩:=Row.cons d;obtain⟨D,C,rfl,⟨K,sr,_,lr,al,_⟩,y2⟩:=Row.cons y1;obtain⟨E,r3,rfl,⟨H,st,_,lt,an,_⟩,y3⟩:=Row.cons y2;obtain rfl:=Row.nil y3;obtain⟨ps,rfl,u0,_⟩:=x;obtain⟨pw,rfl,z0,_⟩:=z;obtain⟨F,q1,rfl,_,u1⟩:=Row.cons u0;obtain⟨G,q2,rfl,_,u2⟩:=Row.cons u1;obtain rfl:=Row.nil u2;obtain⟨L,q3,rfl,_,z1⟩:=Row.cons z0;obtain⟨M,q4,rfl,_,z2⟩:=Row.cons z1;obtain rfl:=Row.nil z2;have W:=ac _ aj ak;have r:=W ⟨5,6,0⟩ Y;have s:=W ⟨6,5,0⟩ Y;have ev:rE (S92).ps [.agg [F,G],.agg [L,M],I num]++rE (S92).rs [.agg [I e,D,E]]=[lO F,lO G,lO L,lO M,num,e,lO D,lO E]:=rfl;rw[ev]at r s;have r:num-e<=0:=r;have s:e-num<=0:=s;obtain rfl:e=num:=y;refine S j _ _ K H k1 ⟨ak,λa d=>?_,λa d=>?_,y,y⟩ U ⟨L2,A,Y,Cj ab,y,y⟩;obtain⟨_,_,rfl,⟨c,rfl,_⟩,t⟩:=Row.cons (al a d);obtain⟨_,_,rfl,⟨u,rfl,_⟩,v⟩:=Row.cons t;obtain⟨_,_,rfl,⟨ao,rfl,_⟩,w⟩:=Row.cons v;obtain rfl:=Row.nil w;exact⟨c,u,ao,rfl⟩;obtain⟨_,_,rfl,⟨c,rfl,_⟩,t⟩:=Row.cons (an a d);obtain⟨_,_,rfl,⟨l,rfl,_⟩,v⟩:=Row.cons t;obtain⟨_,_,rfl,⟨u,rfl,_⟩,w⟩:=Row.cons v;obtain rfl:=Row.nil w;exact⟨c,l,u,rfl⟩
def mm(d e:ah)(f:Nat):Prop:=∀k b a c,k≠f->d k=J (.row b a c)->b≠4->b≠6->b≠7->e k=J (.row b a c)
def mm.trans{d e f:ah}{c:Nat}(m:mm d e c)(n:mm e f c):mm d f c:=λk g a h i o j b l=>n k g a h i (m k g a h i o j b l) j b l
def mm.eq{c d:ah}{e:Nat}(f:∀k b,k≠e->c k=J b->d k=J b):mm c d e:=λk g a h i j _ _ _=>U
theorem kY.XB{b c:ah}{d g:Nat}{e:CI}{h i:CV}{f j:List CE}(l:kX b e h f)(m:kY b c d g e i f j)(n:Fr b d){o:Nat}:mm b c o:=λk r a s _ p t q _=>m.zR l n p q aj
def KF.XB{b c:ah}{d e:Nat}{f:CV}{g:List KE}{h:D}(i:KF b c d)(j:KI b d e f g h){l:Nat}:mm b c l:=λk p a q _ m n _ o=>i.zR j m n o
theorem JS.up{d h o p:Nat}{i:CI}{z:Int}{q:CV}{j:List CE}{r:List KE}{s:D}{t:Nat}{e f:ah}(m:JS d h o p i z q j r s t e)(u:∀k b,k≠d->e k=J b->f k=J b)(v:fV d h Q f):JS d h o p i Q q j r s t f:=by
 obtain⟨st,ci,ki,s1,s2,s3,s4,s5,s6,s7,s8⟩:=m;have O:∀k b,e k=J b->∃A,f k=J A:=λk b g=>by by_cases c:k=d;subst c;obtain⟨_,_,c,_⟩:=v;exact U;exact U
 have w:∀b,e d=J b->∃a x,b=.row 2 a x:=λb g=>by obtain⟨_,_,c,_⟩:=st;grind
 refine⟨v,?_,⟨u _ _ (λc=>by obtain⟨_,_,m⟩:=w _ (c▸ki.c);cases m) ki.c,ki.l.gM ak⟩,s1,s2,s3,s4,s5,s6,s7,s8⟩;have own:∀k b,Lz i j k->e k=J b->f k=J b:=λk b B g=>u k b (λc=>by subst c;obtain⟨a,x,rfl⟩:=w _ g;rcases zT ci B with⟨y,n,c⟩|⟨y,n,P,c⟩|⟨y,R,n,c,W⟩<;>rw[g]at c<;>cases c) g
 obtain⟨⟨C,E,F,G,⟨n,S,l,b,H,I,K,nd⟩,W⟩,L,M,us,N⟩:=ci;exact⟨⟨C,E,F,G,⟨aj,ak,ak,ak,H,I,K,nd⟩,W⟩,L,M,us,N⟩
def JS.drawn{a b d e:Nat}{f:CI}{n:Int}{g:CV}{h:List CE}{i:List KE}{j:D}{l:Nat}{m c:ah}(o:JS a b d e f n g h i j l m)(q:∀k,k≠a->c k=m k)(p:fV a b Q c):JS a b d e f Q g h i j l c:=o.up U p
theorem akf{a:ah}{b:Nat}(c:∀k,k≠b->r k=aX V a k)(e:b∉V):∀k,k≠b->bp r (only V a) k=a k:=by intro k d;simp[bp,c k d,aX,only];grind
def Ou{F:ah}{b c:Nat}{d:Int}(a:fV b c d r):fV b c d (bp r F):=by obtain⟨e,f,g,a⟩:=a;exact⟨e,f,by simp[bp,g],a⟩
def adq{c:ah}{d a:Nat}(e:∀k,k≠d->r k=aX V c k)(f:d∉V)(g:a≠d)(h:c a=ae):(∀k,k≠d->k≠a->bp r (am (only V c) a (J b)) k=c k)/\bp r (am (only V c) a (J b)) a=J b:=by
 refine⟨λk i j=>?_,?_⟩;rw[<-akf e f k i];simp[bp,ai j];have:r a=ae:=by rw[e a g,aX,h];split<;>rfl
 simp[bp,this]
def frM{A F:ah}{a:Nat}(c:Fr A a)(d:Fr F a):Fr (bp A F) a:=λk b=>by simp[bp,c k b,d k b]
def Ia{a:ah}{b:Nat}(c:Fr a b):Fr (only V a) b:=λk d=>by simp[only,c k d]
def Mc{a:ah}{b:Nat}(c:Fr a b):Fr (aX V a) b:=λk d=>by simp[aX,c k d]
def abu{a:List KE}(b:f∈wt sz a):f∈a:=by unfold wt at b;split at b;exact(List.eraseIdx_sublist a 0).subset b;exact ar
theorem US{a:List KE}(b:f∈qQ k a):f∈a:=by unfold qQ at b;grind
theorem ZZ:(tI sz l).length<=l.length:=by unfold tI;grind
theorem adz:(kr k l).length<=l.length:=by unfold kr;grind
theorem Xh{u:Int}(a:x∈l):(rP l x u).length<=l.length:=by
 unfold rP;rw[fj,Bv];have:(l.filter λf=> !(f.id==x.id)).length<l.length:=by rw[List.length_filter_lt_length_iff_exists];exact ak
 omega
section
variable {o t i p:Nat}{q:CI}{v:Int}{c v' I:CV}{e L:List CE}{n G:List KE}{B w:D}{s:Nat}{j z m:ah}{A F:Nat}
def JS.AH(a:JS o t i p q v c e n B s j)(d:Fr j A)(b:kY j z A F q v' e L)(k:KI m i p I G w)(g:KF z m i)(r:I.size=v'.size/\I.heard=v'.heard/\I.floor=v'.floor)(zr:sN L G)(uQ:∀f∈G,mT f)(KO:∀f∈G,∀l∈f.ob,uu l)(us:v'.cf<=s+1)(len:L.length<=s+1)(hd:0<=v'.heard/\v'.heard<=999999999999999+(s+1))(fl:v'.heard<=v'.floor/\v'.floor<=v'.heard+3)(sz:v'.size=c.size):
 JS o t i p q v v' L G w (s+1) m/\mm j m o:=by have h:=b.ki a.ci d a.ki;refine⟨⟨g.str h (b.str a.ci d a.st),g.ci h b.inv,⟨?_,k.l⟩,zr,uQ,KO,y,y,y,fl,by rw[sz];exact a.sz⟩,(b.XB a.ci d).trans (g.XB h)⟩;have:=k.c;exact U
def JS.ce(a:JS o t i p q v c e n B s j)(b:Fr j A)(d:kY j z A F q c e e)(f:KI m i p c n w)(g:KF z m i):JS o t i p q v c e n w (s+1) m/\mm j m o:=a.AH b d f g y a.zr a.uQ a.KO (by have:=a.us;omega) (by have:=a.len;omega) (by have:=a.hd;omega) a.fl rfl
theorem JS.ar2(a:JS o t i p q v c e n B s j)(d:Fr j A)(g:kY j z A F q (c.he (c.heard+1)) e (e.filter λx=> !mL (c.heard+1) K H x))(h:KI m i p (c.he (c.heard+1)) (n.filter λx=> !oV (c.heard+1) K H x) w)(k:KF z m i):
 JS o t i p q v (c.he (c.heard+1)) (e.filter λx=> !mL (c.heard+1) K H x) (n.filter λx=> !oV (c.heard+1) K H x) w (s+1) m/\mm j m o:=by have u:=a.hd;have C:=a.fl;refine a.AH d g h k y (a.zr.drop λx l=>?_) (λf b=>a.uQ f ak) (λf b=>a.KO f ak) (by have:=a.us;exact aw) (by have:=AI (λx=> !mL (c.heard+1) K H x) e;have:=a.len;omega) aw aw rfl;obtain⟨f,b,r⟩:=a.zr.mem.1 x l;rw[r.1];exact(a.uQ f b).key
theorem JS.own(a:JS o t i p q v c e n B s j)(d:Fr j A){num:Int}(u:c.heard<num/\num<=c.heard+3)(g:kY j z A F q (c.fl num) e (e.filter λx=> !mL num K H x))(h:KI m i p (c.fl num) (n.filter λx=> !oV num K H x) w)(k:KF z m i):
 JS o t i p q v (c.fl num) (e.filter λx=> !mL num K H x) (n.filter λx=> !oV num K H x) w (s+1) m/\mm j m o:=by have C:=a.hd;have D:=a.fl;refine a.AH d g h k y (a.zr.drop λx l=>?_) (λf b=>a.uQ f ak) (λf b=>a.KO f ak) (by have:=a.us;exact aw) (by have:=AI (λx=> !mL num K H x) e;have:=a.len;omega) aw aw rfl;obtain⟨f,b,r⟩:=a.zr.mem.1 x l;rw[r.1];exact(a.uQ f b).key
theorem JS.aL(h:JS o t i p q v c e n B s j)(r:Fr j A)(u:LP x f)(G:mT f)(H:∀y∈f.ob,uu y)(C:kY j z A F q {c with cf:=c.cf+1} e (tI c.size (kr f.key e++[x])))(D:KI m i p c (wt c.size (qQ f.key n++[f])) w)(E:KF z m i):
 JS o t i p q v {c with cf:=c.cf+1} (tI c.size (kr f.key e++[x])) (wt c.size (qQ f.key n++[f])) w (s+1) m/\mm j m o:=by
 have g:∀a∈wt c.size (qQ f.key n++[f]),a∈n\/a=f:=λa b=>by rcases bg.1 (abu b)with h|h;exact .inl (US h);grind
 refine h.AH r C D E aw ((h.zr.off.YI u).aca) (λa b=>?_) (λa b=>?_) (by have:=h.us;exact aw) ?_ (by have:=h.hd;exact aw) h.fl rfl;rcases g a b with d|rfl
 exact h.uQ a d;exact ar;rcases g a b with d|rfl
 exact h.KO a d;exact U;have d:=ZZ (sz:=c.size) (l:=kr f.key e++[x]);have I:=adz (k:=f.key) (l:=e);have K:=h.len;grind
theorem JS.pX(h:JS o t i p q v c e n B s j)(k:Fr j A){a:CE}{d:KE}(g:a∈e)(l:d∈n)(r:a.key=d.key)(x:kY j z A F q {c with cf:=c.cf+1} e (rP e a (c.cf+1)))(y:KI m i p c (qQ a.key n++[d]) w)(C:KF z m i):
 JS o t i p q v {c with cf:=c.cf+1} (rP e a (c.cf+1)) (qQ a.key n++[d]) w (s+1) m/\mm j m o:=by
 have D:∀b∈qQ a.key n++[d],b∈n:=λb f=>by rcases bg.1 f with h|h;exact US h;grind
 exact h.AH k x y C aw (h.zr.pX h.ci.Xv.1 h.ci.Xv.2.1 g l r h.nd) (λb f=>h.uQ b aj) (λb f=>h.KO b aj) (by have:=h.us;exact aw) (by have:=Xh (u:=c.cf+1) g;have:=h.len;omega) (by have:=h.hd;exact aw) h.fl rfl
end
def afO:List aA:=[q 31 (xB .add 28 30),q 32 (.pf .mx [.t 31,.c aH]),G 11 32]
def Q9:List aA:=[q 36 (xI 1 33 35),oL 37 1 36,G 12 37]
def agc:List aA:=[fR 40 0]
def Y1:List aA:=[q 54 (xI 9 48 53),cA 55 9 54,q 56 (.bQ 10 9 1 [aF,aH,aH,aH,aH,aH,aF,aD,aD] [(0,.t 55)]),q 57 (jE 11 9 120 46 56),G 13 57]
def Mf:av:=rF 2 [q 58 (di .add 40 1),G 40 58]
def QU:av:=
 z 1 [q 41 (xB .lss 40 39)] (.seq (cX 41 0) (.seq (.block 1 (z 4 [oF 42 7 0,oL 43 1 42,q 44 (fQ 43),q 45 (di .gtr 44 0)] (.cond (.t 45) (.dg 13 aa (aZ 46 (xM 13)::aZ 47 (xF 7 0)::aZ 48 (xL 1 47)::G 49 0::oF 50 7 0::aZ 51 (xL 1 50)::q 52 (fQ 51)::q 53 (dV 19 49 52)::Y1)) (.skip))))
  Mf))
def aoh:av:=.block 0 (.loop QU)
def Zt:List aA:=[vt (xS 3 14 74)]
def TE:List aA:=(q 73 (xB .add 69 72)::q 74 (.call 30 [.t 63,.t 64,.t 65,.t 73])::Zt)
def TF:List aA:=[q 81 (xB .eql 77 80),G 10 81]
def RV:List aA:=(q 80 (dV 31 78 79)::TF)
def SD:av:=.seq (.dg 8 aa (aZ 76 (uS 3 14)::aZ 78 (xM 4)::aZ 79 (uS 3 14)::G 75 3::q 77 (dV 27 75 76)::RV)) (.ret)
def TR:List aA:=[q 86 (AM 85)]
def aaX:List aA:=[vt (xS 3 15 97)]
def T7:List aA:=(q 96 (xB .add 93 95)::q 97 (.call 30 [.t 87,.t 88,.t 89,.t 96])::aaX)
def Sb:av:=rF 3 [G 101 4,cA 102 3 15,q 103 (dV 33 101 102)]
def Sy:av:=
 z 3 [G 98 3,cA 99 3 15,q 100 (dV 32 98 99)]
  Sb
def T5:av:=
 .cond (.t 86) (.seq (.dg 13 aa (aZ 87 (xM 0)::aZ 88 (CM 2 6)::aZ 89 (CM 2 7)::aZ 90 (xM 4)::aZ 91 (xN 90)::aZ 92 (xF 91 1)::aZ 93 (jP 1 92)::aZ 15 (.alloc 11 3 [aH,aD,aD])::G 94 0::q 95 (.call 8 [.t 94,.c aH,.c (I 3)])::T7))
  Sy) (.skip)
def H9:av:=z 1 [q 10 (gR aa)] (.ret)
def abN:List aA:=[q 110 (.yK (.t 109) 2 1 Z),G 16 110]
def TU:List aA:=[q 124 (.lS .eql 1 (.t 116) (.t 123)),G 10 124]
def Tc:List aA:=(G 117 4::G 118 12::G 119 13::G 120 16::G 121 11::q 122 (.build [aF,aH,aH,aF,aD,aD,aH] [(3,1,.t 118),(4,1,.t 119),(5,1,.t 120),(6,1,.t 121)])::q 123 (dV 35 117 122)::TU)
def RL:av:=z 15 (G 111 3::G 112 12::G 113 13::G 114 16::G 115 11::q 116 (.call 34 [.t 111,.t 112,.t 113,.t 114,.t 115])::Tc) (.ret)
def Ii:List aA:=[G 127 130,q 131 (xE 127 0),q 132 (xE 127 1),G 17 131,G 18 132]
def T9:List aA:=[G 133 137,q 138 (xE 133 0),q 139 (xE 133 1),q 19 (.alloc 7 7 [aF,aH,aH,aF,aD,aD,aH]),oN (xS 7 19 138),G 20 139]
def abD:List aA:=[q 148 (jw 143 147),G 10 148]
def JT:av:=z 10 (G 140 18::G 141 20::q 142 (.lS .eql 1 (.t 140) (.t 141))::G 143 142::oT 144 143 (xM 17)::oT 145 143 (xF 19 4)::oT 146 143 (xL 1 145)::oT 147 143 (dV 38 144 146)::abD) (.ret)
def IJ:av:=
 z 10 (G 134 4::G 135 12::q 136 (.build [aF,aH,aH,aF,aD,aD,aH] [(3,1,.t 135)])::q 137 (dV 37 134 136)::T9)
  JT
def zg:av:=
 .block 2 (z 2 [q 62 (di .eql 60 0),G 61 62] (.cond (.t 61) (.seq (.dg 14 aa (aZ 63 (xM 0)::aZ 64 (CM 2 6)::aZ 65 (CM 2 7)::aZ 66 (xM 4)::aZ 67 (xN 66)::aZ 68 (xF 67 1)::aZ 69 (jP 1 68)::aZ 14 (.alloc 12 3 [aH,aD,aD])::G 70 0::q 71 (.bQ 8 1 6 [aH] [(0,.c (I 1)),(1,.c (I 1)),(2,.c (I 1)),(3,.c (I 1)),(4,.c aH),(5,.c (I 2))])::q 72 (dV 6 70 71)::TE))
  SD) (z 2 [q 83 (di .eql 60 1),G 82 83] (.cond (.t 82) (.seq (z 3 (G 84 0::q 85 (.call 7 [.t 84,.c (I 2)])::TR)
   T5)
   H9) (z 2 [q 105 (di .eql 60 2),G 104 105] (.cond (.t 104) (z 6 (G 106 0::cA 107 2 6::cA 108 2 7::q 109 (.call 30 [.t 106,.t 107,.t 108,.c (I 1)])::abN)
    RL) (z 2 [q 126 (di .eql 60 3),G 125 126] (.cond (.t 125) (z 8 (G 128 3::G 129 12::q 130 (dV 36 128 129)::Ii)
     IJ) (.skip)))))))))
def Tq:List aA:=[q 170 (.lS .eql 1 (.t 159) (.t 169)),G 10 170]
def Rh:List aA:=(q 168 (.build [aF,aH,aH,aF,aD,aD,aH] [(0,3,.t 164),(4,1,.t 166),(6,1,.t 167)])::q 169 (dV 35 160 168)::Tq)
def Mv:List aA:=(q 164 (oW 39 163)::Rh)
def Ns:av:=.cond (.t 153) (.seq (.dg 18 aa (aZ 160 (xM 4)::aZ 161 (xM 13)::aZ 162 (.ti 9 (.t 161) (.c aH))::aZ 163 (uS 9 162)::aZ 165 (xM 13)::aZ 166 (.tZ 9 (.t 165) ae (J (.c (I 1))) ae)::aZ 167 (xM 11)::G 154 3::G 155 13::q 156 (.ti 9 (.t 155) (.c aH))::cA 157 9 156::G 158 11::q 159 (sV 26 154 157 158)::Mv)) (.ret)) (.skip)
def Tu:List aA:=[G 171 177,q 178 (xE 171 0),q 179 (xE 171 1),q 21 (.alloc 9 9 [aF,aH,aH,aH,aH,aH,aF,aD,aD]),oN (xS 9 21 178),G 22 179]
def UU:List aA:=(q 177 (dV 28 172 176)::Tu)
def Sq:List aA:=[G 180 187,q 188 (xE 180 0),q 189 (xE 180 1),q 23 (.alloc 10 7 [aF,aH,aH,aF,aD,aD,aH]),oN (xS 7 23 188),G 24 189]
def Me:List aA:=(q 186 (.build [aF,aH,aH,aF,aD,aD,aH] [(0,3,.t 185)])::q 187 (dV 37 181 186)::Sq)
def Mr:List aA:=[oT 203 193 (qa 196 202),q 204 (jw 193 203),G 10 204]
def JK:av:=z 16 (G 190 22::G 191 24::q 192 (.lS .eql 1 (.t 190) (.t 191))::G 193 192::oT 194 193 (xM 22)::oT 195 193 (AM 194)::oT 196 193 (xM 195)::dA 197 196 (uS 9 21)::dA 198 196 (xF 23 4)::dA 199 196 (xL 1 198)::dA 200 196 (.ti 9 (.t 199) (.c aH))::dA 201 196 (uS 9 200)::dA 202 196 (dV 29 197 201)::Mr) (.ret)
def amW:av:=
 z 13 (G 181 4::G 182 13::q 183 (.ti 9 (.t 182) (.c aH))::cA 184 9 183::q 185 (oW 39 184)::Me)
  JK
def NO:av:=
 z 12 (G 172 3::G 173 13::q 174 (.ti 9 (.t 173) (.c aH))::cA 175 9 174::q 176 (oW 39 175)::UU)
  amW
def Io:av:=
 .seq (z 3 [G 149 13,q 150 (fQ 149),q 151 (di .eql 150 0)] (.cond (.t 151) (z 1 [q 10 (gR aa)] (.ret)) (.skip))) (.seq (z 2 [G 152 0,q 153 (.call 7 [.t 152,.c (I 2)])]
  Ns)
  NO)
def Kg:av:=
 .seq (z 2 [G 59 0,q 60 (.call 19 [.t 59,.c (I 6)])]
  zg)
  Io
def QF:av:=
 z 1 [q 13 (.mv (.c aD))] (.seq (z 3 (G 38 0::q 39 (.call 19 [.t 38,.c (I 3)])::agc)
  aoh)
  Kg)
def QB:av:=
 z 6 (q 33 (.bQ 0 1 3 [aF] [(0,.c (S ⟨#[120]⟩)),(1,.c (S ⟨#[121]⟩)),(2,.c (S ⟨#[122]⟩))])::G 34 0::q 35 (.call 19 [.t 34,.c (I 3)])::Q9)
  QF
def D11:d6:=⟨205,[.t 10],z 3 [q 6 (iU 0 2 1),q 7 (iU 1 2 2),q 10 (gR Z)] (.seq (.dg 9 aa (aZ 25 (xM 4)::aZ 26 (xN 25)::aZ 27 (xF 26 2)::aZ 28 (xL 1 27)::G 29 0::q 30 (.call 8 [.t 29,.c (I (-1)),.c (I 2)])::afO))
 QB)⟩
def ao2:cW af Tryz.f11=J D11:=h
structure C9(sid sg kc gk:Nat)(i:CI)(N:Int)(v:CV)(all:List CE)(ke:List KE)(dl:D)(j b6 g6 b7 g7:Nat)(m w:List P)(at_:Int)(lb:ByteArray)(q:P)(O:ah)(nx:Nat)(s:St):Prop where
 t0:s.T 0=.ptr sid sg 2 0 0
 t3:s.T 3=.ptr i.c i.gc 6 0 0
 t4:s.T 4=.ptr kc gk 4 0 0
 t6:s.T 6=.ptr b6 g6 2 0 0
 t7:s.T 7=.ptr b7 g7 2 0 0
 t11:s.T 11=.p (I at_)
 t12:s.T 12=.p (S lb)
 t13:s.T 13=.p q
 o6:s.O b6=J (.row 2 g6 [m.map .p])
 o7:s.O b7=J (.row 2 g7 [w.map .p])
 js:JS sid sg kc gk i N v all ke dl j s.O
 kp:mm O s.O sid
 hn:nx<=s.nx
 fr:Fr s.O s.nx
 ne:b6≠sid/\b7≠sid
structure Fin(sid sg kc gk:Nat)(i:CI)(N:Int)(sz:Int)(j:Nat)(O:ah)(nx:Nat)(s:St):Prop where
 t10:s.T 10=.p (B aa)
 js:∃v all ke dl,JS sid sg kc gk i N v all ke dl j s.O/\v.size=sz
 kp:mm O s.O sid
 hn:nx<=s.nx
 fr:Fr s.O s.nx
section
variable {h p e z:Nat}{w:CI}{s:Int}{i:CV}{A:List CE}{N:List KE}{S:D}{v m aB n aP:Nat}{o u:List P}{aS:Int}{be:ByteArray}{bn:P}{F:ah}{L:Nat}{c j:St}{bu:aV->St->Prop}
def C9.next(a:C9 h p e z w s i A N S v m aB n aP o u aS be bn F L c)(d:∀k,k<=13->k≠10->j.T k=c.T k)(f:∀k b,k≠h->c.O k=J b->j.O k=J b)(g:fV h p Q j.O)(hn:c.nx<=j.nx)(fr:Fr j.O j.nx):C9 h p e z w Q i A N S v m aB n aP o u aS be bn F L j:=⟨(d 0 y y).trans a.t0,(d 3 y y).trans a.t3,(d 4 y y).trans a.t4,(d 6 y y).trans a.t6,(d 7 y y).trans a.t7,(d 11 y y).trans a.t11,(d 12 y y).trans a.t12,(d 13 y y).trans a.t13,f _ _ a.ne.1 a.o6,f _ _ a.ne.2 a.o7,a.js.up f g,a.kp.trans (.eq f),by have:=a.hn;omega,fr,a.ne⟩
theorem C9.H7(a:C9 h p e z w s i A N S v m aB n aP o u aS be bn F L c):h<c.nx/\e<c.nx/\m<c.nx/\n<c.nx/\e≠h/\m≠e/\n≠e:=by obtain⟨g,j,d,_⟩:=a.js.st;have f:=a.js.ki.c;refine⟨a.fr.lt d,a.fr.lt f,a.fr.lt a.o6,a.fr.lt a.o7,λb=>?_,λb=>?_,λb=>?_⟩;grind;have:=a.o6;grind;have:=a.o7;grind
theorem aoe[Gh](W:VT.ok Ty.MG (.agg o))(hw:VT.ok (.agg Ty.lU) (.agg u))(ab:o.length=2)(ac:u.length=2)(d:C9 h p e z w s i A N S v m aB n aP o u aS be bn F L c)(hN:0<=s/\s<=4611686018425000000)(hj:v<=1000)(hQ:∀j b a t num K H,C9 h p e z w (s+21) i A N S v m aB n aP o u aS be bn F L j->j.T 14=.ptr b a 3 0 0->j.O b=J (.row 3 a [t.map .p])->c.nx<=b->rQ t num K H->bu .normal j):
 bx (X af) (.dg 14 aa (aZ 63 (xM 0)::aZ 64 (CM 2 6)::aZ 65 (CM 2 7)::aZ 66 (xM 4)::aZ 67 (xN 66)::aZ 68 (xF 67 1)::aZ 69 (jP 1 68)::aZ 14 (.alloc 12 3 [aH,aD,aD])::G 70 0::q 71 (.bQ 8 1 6 [aH] [(0,.c (I 1)),(1,.c (I 1)),(2,.c (I 1)),(3,.c (I 1)),(4,.c aH),(5,.c (I 2))])::q 72 (dV 6 70 71)::TE)) c bu:=by
 obtain⟨nS,nK,n6,n7,x1,x2,x3⟩:=d.H7;obtain⟨x4,x5⟩:=d.ne;have ad:=d.js.ki.c;have hd:=d.js.hd;have p6:cF (o.map .p)=.p (.agg o):=Y;have p7:cF (u.map .p)=.p (.agg u):=Y;have k6:o.take 2=o:=ak;have k7:u.take 2=u:=ak;have B:=d.fr;intro l;refine⟨[m,n,e],?_⟩;simp(disch:=omega)[only,d.t0,d.t4,d.t6,d.t7,d.o6,d.o7,ad,ba,ab,ac,<-cD,k6,k7,p6,p7,n6,n7,nK,fP,D.cells,P.cells,Value.oneCell',dp,dv];refine .l ?_;have ag:fV h p s (aX [m,n,e] c.O):=d.js.st.aL (by simp[aX,dB x1,dB x4,dB x5]);refine IW Y Y Y ag y y λaE x O2 aI hx e2 al=>?_;have aO:0<=x/\x<=2:=by simp at hx;omega
 have an:cI.wrap (i.heard+x)=i.heard+x:=iK y y;simp(disch:=omega)[TE,binOp,aC,an];refine Ti W hw y y al y y λao r t K H aR Q e3 ax=>?_;have R:∀k,k≠h->r k=aX [m,n,e] c.O k:=U;have ay:=Q;obtain⟨⟨f,g,rfl,sr,st⟩,_⟩:=ay;have cr:D.cells (.p (.agg [I (i.heard+x),f,g]))=[.p (I (i.heard+x)),.p f,.p g]:=rfl;simp(disch:=omega)[Zt,cr,bI];have C:=adq (b:=.row 3 (l (c.nx+12)) [[.p (I (i.heard+x)),.p f,.p g]]) R dK (show c.nx+12≠h by omega) (B _ y);have E:fV h p (s+21) (bp r (am (only [m,n,e] c.O) (c.nx+12) (J (.row 3 (l (c.nx+12)) [[.p (I (i.heard+x)),.p f,.p g]])))):=(Ou ax).mono y;have O:Fr (bp r (am (only [m,n,e] c.O) (c.nx+12) (J (.row 3 (l (c.nx+12)) [[.p (I (i.heard+x)),.p f,.p g]])))) ao:=frM (λk hk=>(R k y).trans (Mc B k y)) ((Ia bK).am y);revert C E O;generalize bp r (am (only [m,n,e] c.O) (c.nx+12) (J (.row 3 (l (c.nx+12)) [[.p (I (i.heard+x)),.p f,.p g]])))=M;rintro⟨C,hB⟩ E O;refine hQ _ (c.nx+12) (l (c.nx+12)) [I (i.heard+x),f,g] _ _ _ (d.next (λk T k2=>?_) (λk b T V=>(C k T (by have:=B.lt V;omega)).trans V) E aw O) Y hB y Q;exact cj
def ah8(I:C9 h p e z w s i A N S v m aB n aP o u aS be bn F L c)(hj:v<=1000){b:Nat}{t:List P}{num:Int}(a0:c.T 14=.ptr b a 3 0 0)(M:c.O b=J (.row 3 a [t.map .p]))(a1:F b=ae)(hr:rQ t num K H)(hQ:∀j,Fin h p e z w s i.size (v+1) F L j->bu .ret j):bx (X af) SD c bu:=by
 have Q:=I.js;have lr:t.length=3:=by obtain⟨⟨qr,qt,rfl,_⟩,_⟩:=hr;rfl
 have k3:t.take 3=t:=cp y;have p3:cF (t.map .p)=.p (.agg t):=jL;have ad:=I.fr;have a2:b≠h:=λd=>by obtain⟨_,_,R,_⟩:=Q.st;rw[<-d,M]at R;cases R
 have nb:=ad.lt M;have hd:=Q.hd;have bb:=Q.us;have bd:=Q.len;have bk:=Q.kl;show bx _ (.seq _ .ret) _ _;rw[bF];intro bl;refine⟨[b],?_⟩;simp(disch:=omega)[only,I.t3,I.t4,a0,M,ba,lr,<-cD,k3,p3];have ab:∀k f,k≠b->c.O k=J f->aX [b] c.O k=J f:=λk f k1 C=>by simp[aX,k1,C]
 have U:Fr (aX [b] c.O) (c.nx+8):=(Mc ad).mono y;have g:JS h p e z w s i A N S v (aX [b] c.O):=by
  obtain⟨st,ci,ki,s1,s2,s3,s4,s5,s6,s7,s8⟩:=Q;have a3:e≠b:=λd=>by have:=ki.c;rw[d,M]at this;cases this
  have own:∀k f,Lz w A k->c.O k=J f->aX [b] c.O k=J f:=λk f V C=>ab k f (λd=>by subst d;rcases zT ci V with⟨g2,ac,d⟩|⟨g2,ac,o,d⟩|⟨g2,bm,ac,d,W⟩<;>rw[M]at d<;>cases d) C
  refine⟨st.aL (by simp[aX,dB a2]),?_,⟨ab _ _ a3 ki.c,ki.l.gM λid a _ _ V=>ab _ _ (λd=>by rw[d,M]at V;cases V) V⟩,s1,s2,s3,s4,s5,s6,s7,s8⟩;obtain⟨⟨co,cl,eo,el,⟨ac,a4,l,b1,Mo,Ml,ol,nd⟩,W⟩,ok,a5,us,u0⟩:=ci;exact⟨⟨co,cl,eo,el,⟨own _ _ (.inl rfl) ac,own _ _ (.inr (.inl rfl)) a4,own _ _ (.inr (.inr (.inl rfl))) l,λx hx=>own _ _ (.inr (.inr (.inr ⟨x,W.mem_iff.1 hx,rfl⟩))) (b1 x hx),Mo,Ml,ol,nd⟩,W⟩,ok,a5,us,u0⟩
 revert U g;generalize hL:aX [b] c.O=O1;intro U g;have aE:∀(T':Nat->D) q E v' ag al an,T' 10=.p (B aa)->JS h p e z w s v' ag al an (v+1) q/\mm O1 q h->v'.size=i.size->c.nx+8<=E->Fr q E->∀aI aO,bu .ret {T:=T',O:=bp q (only [b] c.O),nx:=E,bs:=aI,gm:=aO}:=by
  intro T' q E v' ag al an a6 ao a7 bo a8 aI aO;have hM:∀k f,q k=J f->bp q (only [b] c.O) k=J f:=λk f C=>by simp[bp,C]
  refine hQ _ ⟨a6,⟨v',ag,al,an,ao.1.up (λk f _ C=>hM k f C) (Ou ao.1.st),a7⟩,λk j g' aR k1 k2 h4 h6 h7=>?_,(by have h1:=I.hn;show L<=E;omega),frM a8 (Ia (ad.mono aw))⟩;have k3:=I.kp k j g' aR k1 k2 h4 h6 h7;by_cases d:k=b;rw[d,a1]at k2;cases k2;exact hM _ _ (ao.2 k j g' aR k1 (by rw[<-hL];exact ab k _ d k3) h4 h6 h7)
 refine RM g.ci y hr (λhn E q G=>?_) λhn E q G=>?_;simp(disch:=omega)[RV];refine Wp (G.ki g.ci U g.ki) y g.uQ hr y (λ_ ax r hk hF a9 ay=>?_) λR=>absurd R hn;simp(disch:=omega)[TF,binOp,aC];exact aE _ r ax _ _ _ _ Y (g.ce U G hk hF) rfl (by have:=G.hn;omega) ay _ _;subst hn;simp(disch:=omega)[RV];refine Wp (G.ki g.ci U g.ki) y g.uQ hr y (λR=>absurd rfl R) λ_ ax r bA hk hF a9 ay=>?_;simp(disch:=omega)[TF,binOp,aC];exact aE _ r ax _ _ _ _ Y (g.ar2 U G hk hF) rfl (by have:=G.hn;omega) ay _ _
end
section
variable {j n m s:Nat}{u:CI}{o:Int}{c:CV}{L:List CE}{N:List KE}{S:D}{p v aP w aS:Nat}{z A:List P}{be:Int}{bn:ByteArray}{bu:P}{F:ah}{W:Nat}{h i:St}{aB:aV->St->Prop}
theorem apo[Gh](T:VT.ok Ty.MG (.agg z))(V:VT.ok (.agg Ty.lU) (.agg A))(ab:z.length=2)(ac:A.length=2)(d:C9 j n m s u o c L N S p v aP w aS z A be bn bu F W h)(hN:0<=o/\o<=4611686018425000000)(hj:p<=1000)(hQ:∀i b a l num K H,C9 j n m s u (o+21) c L N S p v aP w aS z A be bn bu F W i->i.T 15=.ptr b a 3 0 0->i.O b=J (.row 3 a [l.map .p])->rQ l num K H->c.heard<=num->num<=c.heard+3->aB .normal i):
 bx (X af) (.dg 13 aa (aZ 87 (xM 0)::aZ 88 (CM 2 6)::aZ 89 (CM 2 7)::aZ 90 (xM 4)::aZ 91 (xN 90)::aZ 92 (xF 91 1)::aZ 93 (jP 1 92)::aZ 15 (.alloc 11 3 [aH,aD,aD])::G 94 0::q 95 (.call 8 [.t 94,.c aH,.c (I 3)])::T7)) h aB:=by obtain⟨nS,nK,n6,n7,x1,x2,x3⟩:=d.H7;obtain⟨x4,x5⟩:=d.ne;have ad:=d.js.ki.c;have hd:=d.js.hd;have p6:cF (z.map .p)=.p (.agg z):=Y;have p7:cF (A.map .p)=.p (.agg A):=Y;have k6:z.take 2=z:=ak;have k7:A.take 2=A:=ak;have t:=d.fr;intro g;refine⟨[v,w,m],?_⟩;simp(disch:=omega)[only,d.t0,d.t4,d.t6,d.t7,d.o6,d.o7,ad,ba,ab,ac,<-cD,k6,k7,p6,p7,n6,n7,nK];have ag:fV j n o (aX [v,w,m] h.O):=d.js.st.aL (by simp[aX,dB x1,dB x4,dB x5]);refine yu y y y ag y y λaE x O2 aI aO aR e2 al=>?_;have an:cI.wrap (c.heard+x)=c.heard+x:=iK y y;simp(disch:=omega)[T7,binOp,aC,an];refine Ti T V y y al y y λao r l K H a0 O e3 ax=>?_;have P:∀k,k≠j->r k=aX [v,w,m] h.O k:=U;have ay:=O;obtain⟨⟨e,f,rfl,sr,st⟩,_⟩:=ay;have cr:D.cells (.p (.agg [I (c.heard+x),e,f]))=[.p (I (c.heard+x)),.p e,.p f]:=rfl;simp(disch:=omega)[aaX,cr,bI];have B:=adq (b:=.row 3 (g (h.nx+11)) [[.p (I (c.heard+x)),.p e,.p f]]) P dK (show h.nx+11≠j by omega) (t _ y);have C:fV j n (o+21) (bp r (am (only [v,w,m] h.O) (h.nx+11) (J (.row 3 (g (h.nx+11)) [[.p (I (c.heard+x)),.p e,.p f]])))):=(Ou ax).mono y;have E:Fr (bp r (am (only [v,w,m] h.O) (h.nx+11) (J (.row 3 (g (h.nx+11)) [[.p (I (c.heard+x)),.p e,.p f]])))) ao:=frM (λk hk=>(P k y).trans (Mc t k y)) ((Ia bK).am y);revert B C E;generalize bp r (am (only [v,w,m] h.O) (h.nx+11) (J (.row 3 (g (h.nx+11)) [[.p (I (c.heard+x)),.p e,.p f]])))=M;rintro⟨B,hB⟩ C E;refine hQ _ (h.nx+11) (g (h.nx+11)) [I (c.heard+x),e,f] _ _ _ (d.next (λk Q k2=>?_) (λk b Q R=>(B k Q (by have:=t.lt R;omega)).trans R) C aw E) Y hB O y y;exact cj
theorem C9.AH{v':CV}{b:List CE}{d:List KE}{e:D}(a:C9 j n m s u o c L N S p v aP w aS z A be bn bu F W h)(f:i.T 10=.p (B aa))(k:JS j n m s u Q v' b d e (p+1) i.O/\mm h.O i.O j)(l:v'.size=c.size)(hn:h.nx<=i.nx)(g:Fr i.O i.nx):Fin j n m s u Q c.size (p+1) F W i:=⟨f,ak,a.kp.trans U,by have:=a.hn;omega,g⟩
def JS.ajE(a:JS j n m s u o c L N S p F):JS j n m s u o c L N S (p+1) F:=⟨a.st,a.ci,a.ki,a.zr,a.uQ,a.KO,by have:=a.us;omega,by have:=a.len;omega,by have:=a.hd;omega,a.fl,a.sz⟩
theorem ajr(k:C9 j n m s u o c L N S p v aP w aS z A be bn bu F W h)(hj:p<=1000){ab:Nat}{f:List P}{num:Int}(C:h.T 15=.ptr ab a 3 0 0)(t:h.O ab=J (.row 3 a [f.map .p]))(x:rQ f num K H)(h1:c.heard<=num)(h2:num<=c.heard+3)(hQ:∀i,Fin j n m s u o c.size (p+1) F W i->aB .ret i):bx (X af) Sy h λe i=>match e with|.normal=>bx (X af) H9 i aB|e=>aB e i:=by
 have b:=k.js;have E:f.length=3:=by obtain⟨⟨qr,qt,rfl,_⟩,_⟩:=x;rfl
 have G:f.take 3=f:=ak;have p3:cF (f.map .p)=.p (.agg f):=Y;have ax:=k.fr;have nb:=ax.lt t;have hd:=b.hd;have aR:=b.fl;have a0:=b.us;have a1:=b.len;have a2:=b.kl;have ac:∀(T':Nat->D) g l I ad ag al,JS j n m s u o I ad ag al (p+1) g/\mm h.O g j->I.size=c.size->h.nx<=l->Fr g l->∀an ao,bx (X af) H9 {T:=T',O:=g,nx:=l,bs:=an,gm:=ao} aB:=by intro T' g l I ad ag al ay aE a3 a4 an ao;simp[H9];intro a5;exact hQ _ (k.AH Y ay aE aw bK)
 simp(disch:=omega)[Sy,k.t3,C,t,ba,E,<-cD,G];intro a6;have q:Fr h.O (h.nx+3):=bK;refine apd b.ci x (λhn l g d=>?_) λhn l g d=>?_;have M:=d.zR b.ci q t y y;simp(disch:=omega)[Sb,k.t4,C,M,ba,E,<-cD,G,p3];intro aI;refine Zp (d.ki b.ci q b.ki) b.uQ x y (λ_ Q r B R aO U=>?_) λV=>absurd V y;have hv:c.fl num=c:=by show({c with floor:=if num>c.floor then num else c.floor}:CV)=c;rw[ap y]
 rw[hv]at B;exact ac _ r Q _ _ _ _ (b.ce q d B R) rfl (by have:=d.hn;omega) U _ _;have M:=d.zR b.ci q t y y;simp(disch:=omega)[Sb,k.t4,C,M,ba,E,<-cD,G,p3];intro aI;refine Zp (d.ki b.ci q b.ki) b.uQ x y (λV=>absurd V y) λ_ Q r a7 B R aO U=>?_;exact ac _ r Q _ _ _ _ (b.own q y d B R) rfl (by have:=d.hn;omega) U _ _
end
section
variable {m s t u:Nat}{w:CI}{A:Int}{h:CV}{F:List CE}{L:List KE}{N:D}{n W aB aP aS:Nat}{be O:List P}{o:Int}{c:ByteArray}{p:P}{i:ah}{T:Nat}{j e:St}{M:aV->St->Prop}{bn:List (List P)}{ob:List AO}
def JS.ae0(a:JS m s t u w A h F L N n i)(b:∀x∈F,x.key≠k):∀f∈L,f.key≠k:=λf c d=>by obtain⟨x,e,j⟩:=a.zr.mem.2 f c;exact b x e (j.1.trans d)
theorem acl(a:C9 m s t u w A h F L N n W aB aP aS be O o c p i T j)(hj:n<=1000)(aE:c≠⟨#[]⟩)(G:Sl 9 p bn)(ad:jv jh bn ob)(ag:∀al∈ob,uu al)(K:ob.length<=1000){d:P}(l:j.T 16=.p d)(q:Sl 3 d H)(Q:∀an∈H,qw an)(R:H.length<=1000)(V:∀e,Fin m s t u w A h.size (n+1) i T e->M .ret e):bx (X af) RL j M:=by
 have b:=a.js;have aI:=a.fr;have aO:=b.us;have aR:=b.len;have a0:=b.kl;have ab:=b.sz;have g:Fr j.O (j.nx+15):=bK;have z:mT {key:=S c,list:=p,tags:=d,ob:=ob,np:=H,at_:=o}:=⟨.inr U,aj,K,q,Q,R⟩;have cq:D.cells (.p p)=[.p p]:=by simp[D.cells,ie G]
 have ct:D.cells (.p d)=[.p d]:=by simp[D.cells,ie q]
 have cs:D.cells (.p (S c))=[.p (S c)]:=rfl;have ci:D.cells (.p (I o))=[.p (I o)]:=rfl;have pk:cF [.p aF,.p (I 0),.p (I 0),.p (S c),.p p,.p d,.p (I o)]=.p (.agg (KE.row {key:=S c,list:=p,tags:=d,ob:=ob,np:=H,at_:=o})):=rfl;simp(disch:=omega)[RL,a.t3,a.t11,a.t12,a.t13,l];intro a1;have a2:=b.zr.WV (v:=h) (k:=S c) (at_:=o);refine ahX b.ci y y G ad K q Q R (λhr ao O2 f=>?_) λhr ao O2 x e1 e2 e3 e4 f=>?_;simp(disch:=omega)[Tc,a.t4,a.t11,a.t12,a.t13,l,fh,cq,ct,cs,ci,bI,pk];refine Kf (f.ki b.ci g b.ki) b.uQ b.nd z y ab (λ_ ax r B C ay E=>?_) λac=>absurd ak ac;simp(disch:=omega)[TU,binOp];exact V _ (a.AH Y (b.ce g f B C) rfl (by have:=f.hn;exact aw) E);simp(disch:=omega)[Tc,a.t4,a.t11,a.t12,a.t13,l,fh,cq,ct,cs,ci,bI,pk];refine Kf (f.ki b.ci g b.ki) b.uQ b.nd z y ab (λac=>absurd U hr) λ_ ax r a3 B C ay E=>?_;simp(disch:=omega)[TU,binOp];exact V _ (a.AH Y (b.aL g ⟨e1,e2,e3,e4⟩ z ag f B C) rfl (by have:=f.hn;exact aw) E)
def ZE{s2:St}{q1 c:P}{d f:List (List P)}{b:Bool}{id:Nat}(g:s2.T 17=.p q1)(h:s2.T 18=.p (B b))(i:s2.T 19=.ptr id a 7 0 0)(j:s2.T 20=.p (B b))(k:s2.O id=J (.row 7 a [row.map .p]))(l:row[4]? =J c)(m:Sl 9 q1 d)(n:Sl 9 c f)(o:jv jh d ob)(p:jv jh f ob)(q:∀r∈ob,uu r)(s:ob.length<=1000)(t:∀e,e.T 10=.p (B aa)->e.O=s2.O->s2.nx<=e.nx->M .ret e):bx (X af) JT s2 M:=by simp(disch:=omega)[JT,g,h,i,j,k,l,binOp,ba];intro u;refine YR m n o p q s λv w=>?_;simp(disch:=omega)[abD];exact t _ Y rfl aw
def X.nw{f:Program}{g:FuncId}{i:List D}{b:ah}{c:Nat}{j:D->ah->Nat->Prop}(l:X f g i b c λd a e=>(∀k,k<c->b k=.none->a k=.none)->j d a e):X f g i b c j:=by refine⟨l.1,λO o p q r s t=>(l.2 O o p q r s t).mono λE F u=>?_⟩;obtain⟨h,v,d,a,e,w,m,x,z,n,A,B⟩:=u;exact⟨h,v,d,a,e,w,m λk m C=>n.nw k y C,x,z,n,A,B⟩
theorem JS.Ac(a:JS m s t u w A h F L N n i){b:Nat}(j:i b=.none)(d:fg):JS m s t u w A h F L N n (am i b (J d)):=by have l:∀k c,i k=J c->am i b (J d) k=J c:=λk c e=>(ai ak).trans e;refine a.up U ?_;obtain⟨f,g,o,a⟩:=a.st;exact⟨f,g,U,a⟩
theorem mm.Ac{a:ah}(c:mm i a m){b:Nat}(f:a b=.none)(d:fg):mm i (am a b (J d)) m:=c.trans (.eq λk g _ e=>(ai ak).trans e)
theorem ai8(g:C9 m s t u w A h F L N n W aB aP aS be O o c p i T j)(hj:n<=1000)(aR:c≠⟨#[]⟩)(hQ:∀e,Fin m s t u w A h.size (n+1) i T e->M .ret e):bx (X af) (z 8 (G 128 3::G 129 12::q 130 (dV 36 128 129)::Ii)
  IJ) j M:=by
 have a:=g.js;have a0:=g.fr;have a1:=a.us;have a2:=a.len;have a3:=a.kl;have H:Fr j.O (j.nx+8):=bK;have K:mT {key:=S c,list:=.v (.slice .none 0 0),tags:=.v (.slice .none 0 0),ob:=[],np:=[],at_:=0}:=⟨.inr U,aj,Y,aj,Y,Y⟩;have cs:D.cells (.p (S c))=[.p (S c)]:=rfl;have pk:cF [.p aF,.p (I 0),.p (I 0),.p (S c),.p (.v (.slice .none 0 0)),.p (.v (.slice .none 0 0)),.p (I 0)]=.p (.agg (KE.row {key:=S c,list:=.v (.slice .none 0 0),tags:=.v (.slice .none 0 0),ob:=[],np:=[],at_:=0})):=rfl;simp(disch:=omega)[g.t3,g.t12];intro a4;refine alC a.ci y (λag R O2 k=>?_) λx hx v R O2 q2 a5 k al a6=>?_;simp(disch:=omega)[Ii];rw[show IJ=.seq _ JT from rfl];simp(disch:=omega)[g.t4,g.t12,fh,cs,bI,pk];intro an;refine X.nw (Kn (k.ki a.ci H a.ki) a.uQ a.nd K y (λ_ ao r v V ax ab ac=>?_) λf K l=>absurd l (a.ae0 ag f K));have cz:D.cells (.p (.agg zE))=[.p aF,.p (I 0),.p (I 0),.p aF,.p (.v (.slice .none 0 0)),.p (.v (.slice .none 0 0)),.p (I 0)]:=rfl;have B:r (R+7)=.none:=ac _ y (k.fr _ y);have C:=a.ce H k v V;have ay:=k.hn;simp(disch:=omega)[T9,cz,bI];exact ZE (b:=Z) (q1:=nl) (row:=zE) Y Y Y Y bi rfl aj aj aj aj Y Y λe ad E en=>hQ _ (g.AH ad (by rw[E];exact⟨C.1.Ac B _,C.2.Ac B _⟩) rfl ak (by rw[E];exact(ab.mono en).am ak));simp(disch:=omega)[Ii];rw[show IJ=.seq _ JT from rfl];simp(disch:=omega)[g.t4,g.t12,fh,cs,bI,pk];intro an;obtain⟨f,aE,l⟩:=a.zr.mem.1 x hx;refine X.nw (Kn (x:={key:=S c,list:=.v (.slice .none 0 0),tags:=.v (.slice .none 0 0),ob:=[],np:=[],at_:=0}) (k.ki a.ci H a.ki) a.uQ a.nd K y (λa7=>absurd (l.1.symm.trans v) U) λd P e2 ao r a8 aI V ax ab ac=>?_);obtain rfl:d=f:=mA a.nd d P f aE (e2.trans (v.symm.trans l.1));have Q:=a.uQ d P;have l7:=KE.len Q.key;obtain⟨a9,aO,bb⟩:=Q.mi;have h4:d.row[4]? =J d.list:=by obtain⟨e',bd,bk,bl,k1,k2,_⟩:=qb Q.key;simp[KE.row,k1]
 have cz:D.cells (.p (.agg d.row))=d.row.map .p:=by simp[D.cells,dw]
 have hl:bI [D.p aF,.p (I 0),.p (I 0),.p aF,.p (.v (.slice .none 0 0)),.p (.v (.slice .none 0 0)),.p (I 0)] (d.row.map .p) 0=d.row.map .p:=by simp[Dl.bI,l7]
 have B:r (R+7)=.none:=ac _ y (k.fr _ y);have C:=a.pX H hx P l.1 k (by rw[v];exact aI) V;have ay:=k.hn;simp(disch:=omega)[T9,cz,hl,l7];exact ZE (b:=aa) (ob:=x.ob) (row:=d.row) Y Y Y Y bi h4 al aO ar (by rw[l.2.1];exact ar) (by rw[l.2.1];exact a.KO d P) (by rw[l.2.1];exact Q.ol) λe ad E en=>hQ _ (g.AH (v':={h with cf:=h.cf+1}) ad (by rw[E];exact⟨C.1.Ac B _,C.2.Ac B _⟩) rfl ak (by rw[E];exact(ab.mono en).am ak))
end
section
variable {w A F L:Nat}{t:CI}{M:Int}{n:CV}{N:List CE}{aS:List KE}{be:D}{u bn bu bA bC:Nat}{m bH:List P}{s:Int}{bO:ByteArray}{O:P}{W:ah}{aB:Nat}{h e:St}{o:aV->St->Prop}{aP:List (List P)}{j:List P}{p:AO}
theorem ahk(c:C9 w A F L t M n N aS be u bn bu bA bC m bH s bO O W aB h)(hj:u<=1000)(Q:Sl 9 O (j::aP))(B:jh j p)(ac:uu p)(R:∀e,Fin w A F L t M n.size (u+1) W aB e->o .ret e):bx (X af) (.seq (.dg 18 aa (aZ 160 (xM 4)::aZ 161 (xM 13)::aZ 162 (.ti 9 (.t 161) (.c aH))::aZ 163 (uS 9 162)::aZ 165 (xM 13)::aZ 166 (.tZ 9 (.t 165) ae (J (.c (I 1))) ae)::aZ 167 (xM 11)::G 154 3::G 155 13::q 156 (.ti 9 (.t 155) (.c aH))::cA 157 9 156::G 158 11::q 159 (sV 26 154 157 158)::Mv)) (.ret)) h o:=by
 have a:=c.js;have aE:=c.fr;have aI:=a.us;have aO:=a.len;have aR:=a.kl;have T:=a.sz;obtain⟨f,g,l,a0,b,m',a1,E⟩:=ac.c;have h9:j.length=9:=by obtain⟨⟨q7,q8,er,_⟩,hc,_⟩:=B;rw[er];simp[hc]
 have ad:j.take 9=j:=ak;have C:Fr h.O (h.nx+18):=bK;generalize V:j::aP=a2 at Q;cases Q with
 |nil=>cases V
 |im es a3=>subst V;have ag:=c.t13;rw[bF];intro a4;refine⟨[],?_⟩;have hy:∀d,mT {key:=.agg [S f,I g,I l],list:=.im [j] 9 d,tags:=.v (.slice ae 0 0),ob:=[p],np:=[],at_:=s}:=λd=>⟨.inl ⟨f,g,l,rfl⟩,⟨[j],aj,aj⟩,Y,aj,Y,Y⟩;have cr:D.cells (.p (.agg [S f,I g,I l]))=[.p (S f),.p (I g),.p (I l)]:=rfl;have ci:D.cells (.p (I s))=[.p (I s)]:=rfl;have cl:∀d,D.cells (.p (.im [j] 9 d))=[.p (.im [j] 9 d)]:=aj;have pk:∀d,cF [.p (S f),.p (I g),.p (I l),.p aF,.p (.im [j] 9 d),.p aD,.p (I s)]=.p (.agg (KE.row {key:=.agg [S f,I g,I l],list:=.im [j] 9 d,tags:=.v (.slice ae 0 0),ob:=[p],np:=[],at_:=s})):=aj;simp(disch:=omega)[SE,Lm,c.t3,c.t4,c.t11,ag,ft,h9,ad,jK];have a5:=a.zr.WV (v:=n) (k:=.agg [S f,I g,I l]) (at_:=s);refine⟨y,?_⟩;refine ZC (i:=t) (v:=n) (all:=N) a.ci y y B E (λhr al O2 z=>?_) λhr al O2 x e1 e2 e3 e4 z=>?_;simp(disch:=omega)[Mv];refine CN B E λan ao=>?_;simp(disch:=omega)[Rh,fh,cr,ci,cl,bI,pk];refine Kf (z.ki a.ci C a.ki) a.uQ a.nd U y T (λ_ ax r H K ay P=>?_) λab=>absurd ak ab;simp(disch:=omega)[Tq,binOp,Kz];exact R _ (c.AH Y (a.ce C z H K) rfl (by have:=z.hn;exact aw) P);simp(disch:=omega)[Mv];refine CN B E λan ao=>?_;simp(disch:=omega)[Rh,fh,cr,ci,cl,bI,pk];refine Kf (z.ki a.ci C a.ki) a.uQ a.nd U y T (λab=>absurd U hr) λ_ ax r a6 H K ay P=>?_;simp(disch:=omega)[Tq,binOp,Kz];exact R _ (c.AH (v':={n with cf:=n.cf+1}) Y (a.aL C ⟨e1,e2,e3,e4⟩ U ak z H K) rfl (by have:=z.hn;exact aw) P)
theorem kY.Ac{f c:ah}{d e:Nat}{g:CI}{h:CV}{i j:List CE}(a:kY f c d e g h i j){b:Nat}(q:c b=ae)(r:d<=b)(l:b<e)(m:fg):kY f (am c b (J m)) d e g h i j:=⟨a.inv.aL λk s n=>(ai ak).trans n,λk o p=>(ai y).trans (a.low k o p),a.ids,y,a.fr.am l⟩
def kY.down{b c:ah}{d e m:Nat}{f:CI}{g:CV}{h i:List CE}(a:kY b c d e f g h i)(n:m<=d):kY b c m e f g h i:=⟨a.inv,λk o j=>a.low k y j,λx l=>(a.ids x l).imp U qM,by have:=a.hn;omega,a.fr⟩
theorem KI.Ac{a:ah}{b d:Nat}{e:CV}{f:List KE}{g:D}(i:KI a b d e f g){h:Nat}(n:a h=ae)(j:fg):KI (am a h (J j)) b d e f g:=i.low λk o m=>(ai ak).trans m
theorem apD{s2:St}(c:s2.T 22=.p (B Z))(d:s2.T 24=.p (B Z))(f:∀e,e.T 10=.p (B aa)->e.O=s2.O->s2.nx<=e.nx->o .ret e):bx (X af) JK s2 o:=by
 have h:∀g:P->Prop,unOp .not (.p (B Z)) g=g (B aa):=aj;show bx _ (z 16 ([G 190 22,G 191 24,q 192 (.lS .eql 1 (.t 190) (.t 191)),G 193 192,oT 194 193 (xM 22),oT 195 193 (AM 194),oT 196 193 (xM 195)]++([dA 197 196 (uS 9 21),dA 198 196 (xF 23 4),dA 199 196 (xL 1 198),dA 200 196 (.ti 9 (.t 199) (.c aH)),dA 201 196 (uS 9 200),dA 202 196 (dV 29 197 201)]++Mr)) .ret) s2 o;rw[bF,dD];intro b;rw[iX];have i:∀g:St->Prop,(∀a,a 193=.p (B aa)->a 196=.p (B aa)->g {s2 with T:=a,nx:=s2.nx+16,bs:=s2.nx,gm:=b})->eN (X af) [G 190 22,G 191 24,q 192 (.lS .eql 1 (.t 190) (.t 191)),G 193 192,oT 194 193 (xM 22),oT 195 193 (AM 194),oT 196 193 (xM 195)] {s2 with nx:=s2.nx+16,bs:=s2.nx,gm:=b} g:=by intro g j;simp(disch:=omega)[-az,-cV,-bW,↓cQ,↓fi,c,d,binOp,h];exact j _ Y Y
 refine i _ λa k l=>?_;rw[iX];simp(disch:=omega)[-az,-cV,-bW,↓cQ,↓fi,Mr,k,l];exact f _ Y rfl aw
theorem alM{s2:St}{ia d ib f:Nat}{a:List P}{h:P}{i:List (List P)}(n:s2.T 22=.p (B aa))(q:s2.T 24=.p (B aa))(r:s2.T 21=.ptr ia d 9 0 0)(s:s2.T 23=.ptr ib f 7 0 0)(t:s2.O ia=J (.row 9 d [C.map .p]))(u:s2.O ib=J (.row 7 f [row.map .p]))(v:row[4]? =J h)(j:Sl 9 h (a::i))(k:jh C p)(l:jh a p)(w:uu p)(x:∀e,e.T 10=.p (B aa)->e.O=s2.O->s2.nx<=e.nx->o .ret e):bx (X af) JK s2 o:=by
 have y:∀g:P->Prop,unOp .not (.p (B aa)) g=g (B Z):=aj;have z:C.length=9:=by obtain⟨⟨A,D,b,_⟩,c,_⟩:=k;rw[b];simp[c]
 have E:a.length=9:=by obtain⟨⟨A,D,b,_⟩,c,_⟩:=l;rw[b];simp[c]
 have F:C.take 9=C:=ak;have G:a.take 9=a:=ak;have H:cF (C.map .p)=.p (.agg C):=Y;generalize m:a::i=I at j;cases j with
 |nil=>cases m
 |im K L=>subst m;simp(disch:=omega)[-az,-cV,-bW,↓cQ,↓fi,JK,r,n,s,q,t,u,v,binOp,y,ba,ft,z,E,<-cD,F,G,H];intro M;refine Jv k l w λN O=>?_;simp(disch:=omega)[-az,-cV,-bW,↓cQ,↓fi,Mr];exact x _ Y rfl aw
def akC(E:C9 w A F L t M n N aS be u bn bu bA bC m bH s bO O W aB h)(hj:u<=1000)(hq:Sl 9 O (j::aP))(ab:jh j p)(a7:uu p)(hQ:∀e,Fin w A F L t M n.size (u+1) W aB e->o .ret e):bx (X af) NO h o:=by
 have a:=E.js;have H:=E.fr;have bZ:=a.us;have b0:=a.len;have b1:=a.kl;obtain⟨g,k,B,Q,b,m',b2,ho⟩:=a7.c;have h9:j.length=9:=by obtain⟨⟨q7,q8,er,_⟩,hc,_⟩:=ab;rw[er];simp[hc]
 have an:j.take 9=j:=cp y;generalize hL:j::aP=b3 at hq;cases hq with
 |nil=>cases hL
 |im es b4=>
  subst hL;have ao:=E.t13;have hy:mT {key:=.agg [S g,I k,I B],list:=.v (.slice ae 0 0),tags:=.v (.slice ae 0 0),ob:=[],np:=[],at_:=0}:=⟨.inl ⟨g,k,B,rfl⟩,⟨[],.nil,.nil⟩,Y,.nil,Y,Y⟩;have cr:D.cells (.p (.agg [S g,I k,I B]))=[.p (S g),.p (I k),.p (I B)]:=rfl;have pk:cF [.p (S g),.p (I k),.p (I B),.p aF,.p aD,.p aD,.p (I 0)]=.p (.agg (KE.row {key:=.agg [S g,I k,I B],list:=.v (.slice ae 0 0),tags:=.v (.slice ae 0 0),ob:=[],np:=[],at_:=0})):=rfl;rw[show NO= z 12 (G 172 3::G 173 13::q 174 (.ti 9 (.t 173) (.c aH))::cA 175 9 174::q 176 (oW 39 175)::UU) (z 13 (G 181 4::G 182 13::q 183 (.ti 9 (.t 182) (.c aH))::cA 184 9 183::q 185 (oW 39 184)::Me) JK) from rfl];simp(disch:=omega)[E.t3,ao,ft,h9,an];intro ac;refine CN ab ho λa8 b5=>?_;simp(disch:=omega)[UU];have b6:Fr h.O a8:=H.mono y;refine X.nw (LH (i:=t) (v:=n) (all:=N) a.ci y (λa9 ad K T ax=>?_) λx hx U ad K C o2 T a2 ag ax=>?_);have cz:D.cells (.p (.agg Rq))=[.p aF,.p (I 0),.p (I 0),.p (I 0),.p (I 0),.p (I 0),.p aF,.p aD,.p aD]:=rfl;have g0:K (h.nx+9)=ae:=ax _ y (H _ y);have bb:=T.hn;simp(disch:=omega)[Tu,cz,bI,E.t4,ao,ft,h9,an];intro bd;refine CN ab ho λbk bl=>?_;simp(disch:=omega)[Me,fh,cr,bI,pk];have c:=(T.down (m:=h.nx) y).Ac g0 y y (.row 9 (ac (h.nx+9)) [[.p aF,.p (I 0),.p (I 0),.p (I 0),.p (I 0),.p (I 0),.p aF,.p aD,.p aD]]);revert c;generalize am K (h.nx+9) _=r;intro c;refine X.nw (Kn (x:={key:=.agg [S g,I k,I B],list:=.v (.slice ae 0 0),tags:=.v (.slice ae 0 0),ob:=[],np:=[],at_:=0}) (c.ki a.ci H a.ki) a.uQ a.nd hy y (λ_ V O4 U hF bm ay aE=>?_) λf hy g=>absurd g (a.ae0 a9 f hy));have aI:D.cells (.p (.agg zE))=[.p aF,.p (I 0),.p (I 0),.p aF,.p aD,.p aD,.p (I 0)]:=rfl;have h0:O4 (ad+10)=ae:=aE _ y (c.fr _ y);have hJ:=a.ce H c U hF;simp(disch:=omega)[Sq,aI,bI];exact apD Y Y λe aO eO en=>hQ _ (E.AH aO (by rw[eO];exact⟨hJ.1.Ac h0 _,hJ.2.Ac h0 _⟩) rfl (by have en:V<=e.nx:=en;omega) (by rw[eO];exact(ay.mono en).am (by have en:V<=e.nx:=en;omega)));have l2:C.length=9:=by obtain⟨⟨q7,q8,er,_⟩,hc,_⟩:=a2;rw[er];simp[hc]
  have cz:D.cells (.p (.agg C))=C.map .p:=by simp[D.cells,dw]
  have bo:bI [D.p aF,.p (I 0),.p (I 0),.p (I 0),.p (I 0),.p (I 0),.p aF,.p aD,.p aD] (C.map .p) 0=C.map .p:=by simp[Dl.bI,l2]
  have g0:K (h.nx+9)=ae:=ax _ y (H _ y);have bb:=T.hn;simp(disch:=omega)[Tu,cz,bo,l2,E.t4,ao,ft,h9,an];intro bd;refine CN ab ho λbk bl=>?_;simp(disch:=omega)[Me,fh,cr,bI,pk];have c:=(T.down (m:=h.nx) y).Ac g0 y y (.row 9 (ac (h.nx+9)) [C.map .p]);have o9:am K (h.nx+9) (J (.row 9 (ac (h.nx+9)) [C.map .p])) (h.nx+9)=J (.row 9 (ac (h.nx+9)) [C.map .p]):=bi;revert c o9;generalize am K (h.nx+9) _=r;intro c o9;obtain⟨f,a3,e0⟩:=a.zr.mem.1 x hx;have a4:=c.ki a.ci H a.ki;refine X.nw (Kn (x:={key:=.agg [S g,I k,I B],list:=.v (.slice ae 0 0),tags:=.v (.slice ae 0 0),ob:=[],np:=[],at_:=0}) a4 a.uQ a.nd hy y (λaR=>absurd (e0.1.symm.trans U) (aR f a3)) λd al e2 V O4 b7 bs hF bm ay aE=>?_);obtain rfl:d=f:=mA a.nd d al f a3 (e2.trans (U.symm.trans e0.1));have a0:=a.uQ d al;have l7:=KE.len a0.key;obtain⟨bB,bL,a5⟩:=a0.mi;have h4:d.row[4]? =J d.list:=by obtain⟨e',k,B,Q,k1,k2,_⟩:=qb a0.key;simp[KE.row,k1]
  have aI:D.cells (.p (.agg d.row))=d.row.map .p:=by simp[D.cells,dw]
  have bM:bI [D.p aF,.p (I 0),.p (I 0),.p aF,.p aD,.p aD,.p (I 0)] (d.row.map .p) 0=d.row.map .p:=by simp[Dl.bI,l7]
  have h0:O4 (ad+10)=ae:=aE _ y (c.fr _ y);have hJ:=a.pX H hx al e0.1 c (by rw[U];exact bs) hF;have bR:=hF.zR a4 o9 y y;obtain⟨P,R,a1⟩:∃P R,x.ob=P::R:=by
   cases bS:x.ob with
   |nil=>rw[bS]at ag;cases ag
   |cons Q l=>exact⟨Q,l,rfl⟩
  obtain rfl:P=o2:=by rw[a1]at ag;cases ag;rfl
  rw[<-e0.2.1,a1]at a5;have bT:uu P:=a.KO d al P (by rw[<-e0.2.1,a1];simp);obtain⟨r3,a6,rfl,bX⟩:∃r3 a6,bB=r3::a6/\jh r3 P:=by cases a5 with|cons Q b l l' aR _=>exact⟨Q,l,rfl,aR⟩
  simp(disch:=omega)[Sq,aI,bM,l7];exact alM (ia:=h.nx+9) (ib:=ad+10) (row:=d.row) Y Y Y Y ((ai y).trans bR) bi h4 bL a2 bX bT λe aO eO en=>hQ _ (E.AH (v':={n with cf:=n.cf+1}) aO (by rw[eO];exact⟨hJ.1.Ac h0 _,hJ.2.Ac h0 _⟩) rfl (by have en:V<=e.nx:=en;omega) (by rw[eO];exact(ay.mono en).am (by have en:V<=e.nx:=en;omega)))
end
section
variable {e j s u:Nat}{v:CI}{m:Int}{w:CV}{A:List CE}{F:List KE}{L:D}{n S T W aB:Nat}{h i:List P}{aP:Int}{M:ByteArray}{N:P}{o:ah}{p:Nat}{c s':St}{aS:aV->St->Prop}{bn:List (List P)}{be:List AO}
def LB:av:= z 8 (G 128 3::G 129 12::q 130 (dV 36 128 129)::Ii)
 IJ
def Fin.mono{a b:Int}(f:Fin e j s u v m b n o p c)(g:m<=a):Fin e j s u v a b n o p c:=by obtain⟨h,⟨w,A,F,L,d,i⟩,k,l,q⟩:=f;exact⟨h,⟨w,A,F,L,d.up U (d.st.mono g),i⟩,k,l,q⟩
def C9.t(a:C9 e j s u v m w A F L n S T W aB h i aP M N o p c)(d:∀k,k<=13->k≠10->s'.T k=c.T k)(b:s'.O=c.O)(hn:c.nx<=s'.nx):C9 e j s u v m w A F L n S T W aB h i aP M N o p s':=a.next d U (by rw[b];exact a.js.st) hn (by rw[b];exact a.fr.mono hn)
def C9.call(a:C9 e j s u v m w A F L n S T W aB h i aP M N o p c){b:ah}(d:∀k,k<=13->k≠10->s'.T k=c.T k)(f:∀k,k≠e->b k=c.O k)(g:fV e j Q b)(l:s'.O=b)(hn:c.nx<=s'.nx):C9 e j s u v Q w A F L n S T W aB h i aP M N o p s':=by subst l;have:=a.H7.1;exact a.next d U g hn λk q=>(f k y).trans (a.fr k y)
def aow[Gh](V:VT.ok Ty.MG (.agg h))(hw:VT.ok (.agg Ty.lU) (.agg i))(ab:h.length=2)(ac:i.length=2)(d:C9 e j s u v m w A F L n S T W aB h i aP M N o p c)(hN:0<=m/\m<=4611686018424000000)(l:n<=1000)(hO:Fr o p)(ag:M≠⟨#[]⟩)(hq:Sl 9 N bn)(ax:jv jh bn be)(ay:∀aE∈be,uu aE)(aI:be.length<=1000){x:Int}(q:c.T 60=.p (I x))(hQ:∀s',Fin e j s u v (m+30) w.size (n+1) o p s'->aS .ret s')(hC:∀s',C9 e j s u v m w A F L n S T W aB h i aP M N o p s'->aS .normal s'):bx (X af) zg c aS:=by
 have r:∀{Q s'},Q<=m+30->Fin e j s u v Q w.size (n+1) o p s'->aS .ret s':=λhn ad=>hQ _ (ad.mono hn);have p6:cF (h.map .p)=.p (.agg h):=jL;have p7:cF (i.map .p)=.p (.agg i):=jL;have k6:h.take 2=h:=cp y;have k7:i.take 2=i:=cp y;by_cases x0:x=0;subst x0;simp(disch:=omega)[zg,q,binOp,aC];intro D;refine aoe V hw ab ac (d.t (λk E G=>?_) rfl aw) y l λs2 b a al num K H t aO hb an z=>?_;exact j5;show bx _ SD s2 _;exact ah8 t l aO hb (hO _ (by have:=d.hn;have an:c.nx+2<=b:=an;omega)) z λs3 f=>r y f;by_cases x1:x=1;subst x1;simp(disch:=omega)[zg,q,binOp,aC,d.t0];intro D;have nS:=d.H7.1;refine oq y d.js.st y y λao aR O2 a0 R U=>?_;cases aR with
 |true=>have n1:∀g:P->Prop,unOp .not (.p (B aa)) g=g (B Z):=λ_=>rfl;simp(disch:=omega)[TR,T5,n1,H9];intro a3;have t:=d.call (s':={c with O:=O2,nx:=ao}) (λk _ _=>rfl) R U rfl aw;exact r y (t.AH Y ⟨t.js.ajE,λ_ _ _ _ _ ad _ _ _=>ad⟩ rfl aw (t.fr.mono aw))
 |false=>have n1:∀g:P->Prop,unOp .not (.p (B Z)) g=g (B aa):=λ_=>rfl;simp(disch:=omega)[TR,T5,n1];refine apo V hw ab ac (d.call (λk E G=>?_) R U rfl aw) y l λs3 b a al num K H f a1 hb z r1 C=>?_;exact j5;exact ajr f l a1 hb z r1 C λs4 h4=>r y h4
 by_cases x2:x=2;subst x2;simp(disch:=omega)[zg,q,binOp,aC,d.t0,d.t6,d.t7,d.o6,d.o7,ba,ab,ac,<-cD,k6,k7,p6,p7];intro D;have nS:=d.H7.1;refine Ti V hw y y d.js.st y y λao O2 al K H a0 z R U=>?_;obtain⟨⟨qr,qt,rfl,sr,st⟩,a4,a2,lr,lt⟩:=z;simp(disch:=omega)[abN,ft];refine acl (d.call (λk E G=>?_) R U rfl aw) l ag hq ax ay aI Y st a2 lt λs3 f=>r y f;exact j5;by_cases x3:x=3;subst x3;rw[show zg=.block 2 (.seq _ (.cond _ _ (.seq _ (.cond _ _ (.seq _ (.cond _ _ (.seq _ (.cond _ LB .skip)))))))) from rfl];simp(disch:=omega)[q,binOp,aC];intro D;refine ai8 (d.t (λk E G=>?_) rfl aw) l ag λs3 f=>r y f;exact j5;have y0:(x==0)=Z:=by simpa using x0
 have y1:(x==1)=Z:=by simpa using x1
 have y2:(x==2)=Z:=by simpa using x2
 have y3:(x==3)=Z:=by simpa using x3
 simp(disch:=omega)[zg,q,binOp,aC,y0,y1,y2,y3];intro D;refine hC _ (d.t (λk E G=>?_) rfl aw);exact j5
end
section
variable {o p q s:Nat}{t:CI}{c:Int}{u:CV}{G:List CE}{I:List KE}{L:D}{e M N S W:Nat}{v w:List P}{aB:Int}{F:ByteArray}{z:P}{j:ah}{m:Nat}{n h:St}{A:aV->St->Prop}{B:List (List P)}{i:List AO}
def aiT(a:C9 o p q s t c u G I L e M N S W v w aB F z j m n)(hN:0<=c/\c<=4611686018424000000)(g:e<=1000)(b:Sl 9 z B)(E:jv jh B i)(ad:∀l∈i,uu l)(ag:i.length<=1000)(d:∀h,Fin o p q s t (c+1) u.size (e+1) j m h->A .ret h):bx (X af) Io n A:=by
 have nS:=a.H7.1;rw[show Io=.seq (.seq _ _) (.seq (.seq _ Ns) NO) from rfl];cases E with
 |nil=>simp(disch:=omega)[a.t13,dO b,binOp,aC];intro f;exact d _ (Fin.mono (a.AH Y ⟨a.js.ajE,λ_ _ _ _ _ H _ _ _=>H⟩ rfl aw (a.fr.mono aw)) y)
 |cons K l P os r al=>
  have Q:((((K::P).length:Nat):Int)==0)=Z:=by rw[jY];simp;omega
  simp(disch:=omega)[a.t0,a.t13,dO b,binOp,aC,Q,-List.length_cons];intro f;refine oq y a.js.st y y λR V O2 an e2 ab=>?_;have x:=λ(C:Nat->D) (hT:∀k,k<=13->k≠10->C k=n.T k) (ac:Nat) (f:Nat->Nat)=>a.call (s':={T:=C,O:=O2,nx:=R,bs:=ac,gm:=f}) hT e2 ab rfl aw;cases V with|true=>rw[show Ns=.cond (.t 153) _ .skip from rfl];simp(disch:=omega);refine ahk (x _ (λk k1 k2=>?_) _ _) g b r U d;exact cj|false=>rw[show Ns=.cond (.t 153) _ .skip from rfl];simp(disch:=omega);refine akC (x _ (λk k1 k2=>?_) _ _) g b r U d;exact cj
theorem aiV[Gh](D:VT.ok Ty.MG (.agg v))(E:VT.ok (.agg Ty.lU) (.agg w))(H:v.length=2)(K:w.length=2)(a:C9 o p q s t c u G I L e M N S W v w aB F z j m n)(V:0<=c/\c<=4611686018423000000)(b:e<=1000)(O:Fr j m)(P:F≠⟨#[]⟩)(d:Sl 9 z B)(f:jv jh B i)(g:∀Q∈i,uu Q)(l:i.length<=1000)(r:∀h,Fin o p q s t (c+31) u.size (e+1) j m h->A .ret h):bx (X af) Kg n A:=by have nS:=a.H7.1;rw[show Kg=.seq (.seq _ zg) Io from rfl];simp(disch:=omega)[a.t0];intro gm;refine vR y y a.js.st y y λab x O2 ac _ _ R T=>?_;refine aow D E H K (a.call (λk k1 k2=>?_) R T rfl aw) y b O P d f g l (x:=x) Y (λs3 C=>r _ ak) λs3 C=>?_;exact cj;exact aiT C y b d f g l λs4 U=>r _ (U.mono y)
end
section
variable {i s w z:Nat}{u:CI}{v:Int}{B:CV}{F:List CE}{N:List KE}{aB:D}{aP A aS j be:Nat}{bn bu:List P}{bC:Int}{bH:ByteArray}{bS:P}{t:ah}{p:Nat}{e m:St}{bO:aV->St->Prop}{bT:List (List P)}{bA:List AO}
theorem JS.aY{g:ah}{n:Nat}{o:List (List D)}(p:JS i s w z u v B F N aB aP t)(q:de t n 9 o d)(r:∀k b,k≠i->(∀id a l,d=.sl id a 0 l 9 Z->k≠id)->t k=J b->g k=J b)(x:fV i s Q g):JS i s w z u Q B F N aB aP g:=by
 obtain⟨st,ci,ki,s1,s2,s3,s4,s5,s6,s7,s8⟩:=p;have P:∀b,t i=J b->∃a e,b=.row 2 a e:=λb f=>by obtain⟨_,_,c,_⟩:=st;grind
 have j:∀k b,(∀a e,b≠.row 9 a e)->(∀a e,b≠.row 2 a e)->t k=J b->g k=J b:=λk b R S f=>r k b ak (λid a l c T=>by have:=(q.low c).2;grind) f
 refine⟨x,?_,⟨j _ _ U U ki.c,ki.l.gM ak⟩,s1,s2,s3,s4,s5,s6,s7,s8⟩;have own:=λk b y f=>by
  refine j k b (λa e c=>?_) (λa e c=>?_) f<;>
  .subst c
   rcases zT ci y with⟨m,h,c⟩|⟨m,h,bn,c⟩|⟨m,V,h,c,W⟩<;>rw[f]at c<;>cases c
 obtain⟨⟨A,C,E,G,⟨h,X,l,b,H,I,K,nd⟩,W⟩,L,M,us,O⟩:=ci;exact⟨⟨A,C,E,G,⟨aj,ak,ak,ak,H,I,K,nd⟩,W⟩,L,M,us,O⟩
structure CL(i s w z:Nat)(u:CI)(v:Int)(B:CV)(F:List CE)(N:List KE)(aB:D)(aP A aS j be:Nat)(bn bu:List P)(bC:Int)(bH:ByteArray)(l:List (List P))(bA:List AO)(n c:Nat)(t:ah)(p:Nat)(e:St):Prop where
 t0:e.T 0=.ptr i s 2 0 0
 t3:e.T 3=.ptr u.c u.gc 6 0 0
 t4:e.T 4=.ptr w z 4 0 0
 t6:e.T 6=.ptr A aS 2 0 0
 t7:e.T 7=.ptr j be 2 0 0
 t11:e.T 11=.p (I bC)
 t12:e.T 12=.p (S bH)
 t39:e.T 39=.p (I (n:Int))
 t40:e.T 40=.p (I (c:Int))
 L:de e.O (p+2) 9 (aW l) (e.T 13)
 hl:jv jh l bA/\(∀o∈bA,uu o)/\bA.length<=c
 o6:e.O A=J (.row 2 aS [bn.map .p])
 o7:e.O j=J (.row 2 be [bu.map .p])
 js:JS i s w z u v B F N aB aP e.O
 kp:mm t e.O i
 hn:p+2<=e.nx
 fr:Fr e.O e.nx
 ne:A≠i/\j≠i/\A<p+2/\j<p+2/\i<p
def CL.next{f l:List (List P)}{g:List AO}{r n c':Nat}(C:Fr t p)(c:CL i s w z u v B F N aB aP A aS j be bn bu bC bH f bA r n t p e)(d:∀k,k<=12->k≠10->m.T k=e.T k)(t39:m.T 39=e.T 39)(t40:m.T 40=.p (I (c':Int)))(L:de m.O (p+2) 9 (aW l) (m.T 13))(hl:jv jh l g/\(∀D∈g,uu D)/\g.length<=c')(x:∀k b,k≠i->(∀id a f,e.T 13=.sl id a 0 f 9 Z->k≠id)->e.O k=J b->m.O k=J b)(E:fV i s Q m.O)(hn:e.nx<=m.nx)(fr:Fr m.O m.nx):CL i s w z u Q B F N aB aP A aS j be bn bu bC bH l g r c' t p m:=by have o:∀k b,k≠i->k<p+2->e.O k=J b->m.O k=J b:=λk b h q G=>x k b h (λid a f H=>by have:=(c.L.low H).1;omega) G;exact⟨(d 0 y y).trans c.t0,(d 3 y y).trans c.t3,(d 4 y y).trans c.t4,(d 6 y y).trans c.t6,(d 7 y y).trans c.t7,(d 11 y y).trans c.t11,(d 12 y y).trans c.t12,t39.trans c.t39,t40,L,hl,o _ _ c.ne.1 c.ne.2.2.1 c.o6,o _ _ c.ne.2.1 c.ne.2.2.2.1 c.o7,c.js.aY c.L x E,λk s1 a K h q M b n=>o k _ h (by have:=C.lt q;omega) (c.kp k s1 a K h q M b n),by have:=c.hn;omega,fr,c.ne⟩
def ajt{d:List (List P)}{ax l:Nat}(hO:Fr t p)(ay:Sl 9 ag E)(aR:jv jh E R)(a0:∀n∈R,uu n)(h1:0<E.length)(K:E.length<=1000)(hc:l<=100)(hw:bu=[ag,bM])(c:CL i s w z u v B F N aB aP A aS j be bn bu bC bH d bA ax l t p e)(hN:0<=v/\v<=4611686018423000000)(hQ:∀m,(∃l' a1,∀s2:St,(∀k,k≠40->k≠58->s2.T k=m.T k)->s2.T 40=.p (I ((l+1:Nat):Int))->s2.O=m.O->m.nx<=s2.nx->CL i s w z u (v+1) B F N aB aP A aS j be bn bu bC bH l' a1 ax (l+1) t p s2)->m.T 40=.p (I (l:Int))->bO .normal m):
 bx (X af) (.dg 13 aa (aZ 46 (xM 13)::aZ 47 (xF 7 0)::aZ 48 (xL 1 47)::G 49 0::oF 50 7 0::aZ 51 (xL 1 50)::q 52 (fQ 51)::q 53 (dV 19 49 52)::Y1)) e bO:=by
 have ac:=c.fr;have bm:=c.hn;have o7:=c.o7;obtain⟨e1,e2,e3,e4,e5⟩:=c.ne;have n7:=ac.lt o7;subst hw;intro aE;refine⟨[j],?_⟩;simp(disch:=omega)[only,c.t0,c.t7,o7,ba,dO ay];have a2:fV i s v (aX [j] e.O):=c.js.st.aL (by simp[aX,dB e2]);refine vR y y a2 y aw λL x o bo a3 bB e3 a4=>?_;obtain⟨k,rfl⟩:=kg a3;have hk:k<E.length:=y;have hr:E[k]? =J E[k]:=bh hk;obtain⟨n,ho,aI⟩:=aR.at k _ hr;have a5:uu n:=a0 n (iS ho);have h9:E[k].length=9:=by obtain⟨⟨Q,q8,er,_⟩,hc,_⟩:=aI;rw[er];simp[hc]
 have a6:E[k].take 9=E[k]:=cp y;have aO:D.cells (.p (.agg E[k]))=E[k].map .p:=by simp[D.cells,dw]
 have a7:∀(r:Nat->D) (g:St->Prop),r 48=.p ag->r 53=.p (I (k:Int))->(∀f,f 55=.p (.agg E[k])->(∀C,C≠54->C≠55->f C=r C)->g {T:=f,O:=o,nx:=L,bs:=e.nx,gm:=aE})->eN (X af) [q 54 (xI 9 48 53),cA 55 9 54] {T:=r,O:=o,nx:=L,bs:=e.nx,gm:=aE} g:=by intro r g a8 a9 hK;simp(disch:=omega)[a8,a9,dm ay,hr,ft,h9,a6];exact hK _ Y λC t1 t2=>by simp only[bP];rw[ap t2,ap t1]
 rw[show Y1=[q 54 (xI 9 48 53),cA 55 9 54]++([q 56 (.bQ 10 9 1 [aF,aH,aH,aH,aH,aH,aF,aD,aD] [(0,.t 55)]),q 57 (jE 11 9 120 46 56)]++[G 13 57]) from rfl,rN,pY _ Y];refine a7 _ _ Y Y λf bb S=>?_;rw[rN,pY _ Y];have ad:∀k,k≠i->k≠j->o k=e.O k:=λk U V=>(e3 k U).trans (by simp[aX,V]);have L2:de o (p+2) 9 (aW d) (e.T 13):=c.L.gM λid a al h1 K=>(ad id y y).trans K;have f2:Fr o e.nx:=λk hk=>(ad k y y).trans (ac k hk);have an:=c.hl;have bL:=an.1.length;refine wj f2 aw aw bb (by rw[aO];simp[h9]) ((S 46 y y).trans Y) L2 aw y y (by rw[yj];omega) (by rw[yj];omega) λH M W q1 q2 q3 q4 q5 q6 Q=>?_;simp(disch:=omega)[q2];have m7:M j=ae:=(q4 j y).trans ((e3 j y).trans (by simp[aX]));have hM:∀k b,k≠i->(∀id a d,e.T 13=.sl id a 0 d 9 Z->k≠id)->e.O k=J b->bp M (only [j] e.O) k=J b:=by intro k b U V hb;by_cases k3:k=j;subst k3;simp[bp,m7,only,hb];have:=q3 k b ((ad k U k3).trans hb) λid a al=>V id a _ al;simp[bp,this]
 have hF:Fr (bp M (only [j] e.O)) L:=frM q5 (Ia (ac.mono y));have hS:fV i s (v+1) (bp M (only [j] e.O)):=Ou (a4.aL (q4 i y));have bd:de (bp M (only [j] e.O)) (p+2) 9 (aW (d++[E[k]])) H:=by
  have:aW d++[D.cells (.p (.agg E[k]))]=aW (d++[E[k]]):=by rw[aO];simp[aW]
  rw[<-this];exact q1.gM λid a al h1 K=>by simp[bp,K]
 refine hQ _ ⟨d++[E[k]],bA++[n],λs2 hT bk ab ao=>?_⟩ ?_;refine c.next hO (λk U V=>?_) ?_ bk ?_ ⟨an.1.j4 (.cons _ _ _ _ aI .nil),λo' bl=>?_,by rw[fj,Bv];omega⟩ (by rw[ab];exact hM) (by rw[ab];exact hS) (by have ao:L<=s2.nx:=ao;omega) (by rw[ab];exact hF.mono ao);rw[hT k y y];show(eF W 13 H) k=_;rw[bP,ap y,Q k y y];show f k=_;rw[S k y y];exact j5;rw[hT 39 y y];show(eF W 13 H) 39=_;rw[bP,ap y,Q 39 y y];show f 39=_;rw[S 39 y y];exact j5;rw[ab,hT 13 y y];show de _ _ _ _ ((eF W 13 H) 13);rw[bP,aU rfl];exact bd;rcases bg.1 bl with h|h
 exact an.2.1 o' h;rw[bD.1 h];exact a5
 .show(eF W 13 H) 40=_
  rw[bP,ap y,Q 40 y y];show f 40=_;rw[S 40 y y];simp only[bP];repeat rw[ap y]
  exact c.t40
end
section
variable {j s t u:Nat}{v:CI}{e:Int}{w:CV}{A:List CE}{B:List KE}{F:D}{G I M N O:Nat}{S o:List P}{T:Int}{U:ByteArray}{W:P}{m:ah}{h:Nat}{c p:St}{aB:aV->St->Prop}{aP:List (List P)}{q:List AO}
def aiX{n:Nat}(g:Fr m h)(C:Sl 9 ag E)(W:jv jh E R)(ab:∀ac∈R,uu ac)(h2:E.length<=1000)(hn:n<=100)(P:o=[ag,bM])(a:CL j s t u v e w A B F G I M N O S o T U [] [] n 0 m h c)(hN:0<=e/\e<=4611686018422000000)(hQ:∀p D H,CL j s t u v (e+n) w A B F G I M N O S o T U D H n n m h p->aB (.exit 0) p):bx (X af) (.loop QU) c aB:=by
 refine⟨λk c=>∃d:Nat,k=n-d/\d<=n/\∃l q,CL j s t u v (e+d) w A B F G I M N O S o T U l q n d m h c,⟨_,0,rfl,y,[],[],by simpa using a⟩,?_⟩;rintro k c ⟨d,rfl,hc,l,q,a⟩;have Q:=lW (i:=d) y;rw[show QU= z 1 [⟨J 41,.lS .lss 0 (.t 40) (.t 39),ae,Z⟩] (.seq (.cond (.t 41) .skip (.exit 0)) (.seq (.block 1 (.seq _ (.cond (.t 45) _ .skip))) Mf)) from rfl];refine lX a.t40 a.t39 (λal g1=>?_) λan g1=>?_;have K:=a.o7;rw[P]at K;by_cases V:0<E.length;simp(disch:=omega)[a.t7,K,ba,dO C,binOp,aC,V];intro g2;refine ajt g C W ab V h2 y P (a.next g (λk r x=>?_) ?_ ?_ (by simpa using a.L) a.hl (λk b _ _ f=>f) a.js.st aw (a.fr.mono aw)) y λs2 L ad=>?_;exact j5;exact j5
 .simp only[bP];repeat rw[ap y]
  exact a.t40
 obtain⟨D,H,L⟩:=L;show bx _ Mf s2 _;simp(disch:=omega)[Mf,ad,binOp,aC,Q];intro g3;refine⟨n-(d+1),y,d+1,rfl,y,D,H,?_⟩;rw[show e+((d+1:Nat):Int)=e+(d:Int)+1 by omega];exact L _ (λk r x=>by simp only[bP];rw[ap r,ap x]) Y rfl aw;have h0:E.length=0:=y;simp(disch:=omega)[a.t7,K,ba,dO C,binOp,aC,h0];intro g2;simp(disch:=omega)[Mf,a.t40,binOp,aC,Q];intro g3;refine⟨n-(d+1),y,d+1,rfl,y,l,q,?_⟩;refine a.next g (λk r x=>?_) ?_ ?_ (by simpa using a.L) ⟨a.hl.1,a.hl.2.1,by have:=a.hl.2.2;omega⟩ (λk b _ _ f=>f) (a.js.st.mono y) aw (a.fr.mono aw);exact j5;exact j5;simp;obtain rfl:d=n:=y;refine hQ _ l q (a.next g (λk r x=>?_) ?_ ?_ (by simpa using a.L) a.hl (λk b _ _ f=>f) a.js.st aw (a.fr.mono aw));exact j5;exact j5
 .simp only[bP];repeat rw[ap y]
  exact a.t40
def adw(b:mu aR){g:Nat}{h:Bool}{i:List aA}{d e:av}{s1:St}(k:kh c s1)(j:bx aR (.seq (.seq (.dg g h i) d) e) s1 aB):cH aR (.seq (.seq (.dg g h i) d) e) c aB:=by
 rw[iY,iY];refine⟨s1,k,?_⟩;rw[bF,bF]at j;refine pC b _ (λf p a=>?_) j;cases f with
 |normal=>refine gw b _ (λf s2 a=>?_) (mJ b d a);cases f with|normal=>exact mJ b e a|_=>exact a
 |_=>exact a
def CL.c9{r:List (List P)}{V l:Nat}(X:Fr m h)(f:CL j s t u v e w A B F G I M N O S o T U r q V l m h c):∃W s1,kh c s1/\Sl 9 W r/\C9 j s t u v e w A B F G I M N O S o T U W m h s1:=by
 obtain⟨W,s1,x,Y,ab,K,hT,hn,hf⟩:=LW f.fr f.L;have H:∀id a n,c.T 13=.sl id a 0 n 9 Z->h+2<=id:=λid a n g=>(f.L.low g).1;have z:=f.ne;have i:∀k,(∃Q,c.T k=.p Q)\/(∃C b l g x,c.T k=.ptr C b l g x)->s1.T k=c.T k:=λk hh=>hT k λid a n g=>by rcases hh with⟨Q,g⟩|⟨C,b,l,d,x,g⟩<;>rw[g];exact .inl ⟨_,rfl⟩;exact .inr (.inl ⟨_,_,_,_,_,rfl⟩)
 have D:∀k,k<h+2->s1.O k=c.O k:=λk R=>K k λa n g=>by have:=H _ _ _ g;omega
 have kM:∀k b,k≠j->(∀id a r,c.T 13=.sl id a 0 r 9 Z->k≠id)->c.O k=J b->s1.O k=J b:=λk b _ E H=>(K k λa n g=>E k a n g rfl).trans H;refine⟨W,s1,x,Y,(i 0 (.inr ⟨_,_,_,_,_,f.t0⟩)).trans f.t0,(i 3 (.inr ⟨_,_,_,_,_,f.t3⟩)).trans f.t3,(i 4 (.inr ⟨_,_,_,_,_,f.t4⟩)).trans f.t4,(i 6 (.inr ⟨_,_,_,_,_,f.t6⟩)).trans f.t6,(i 7 (.inr ⟨_,_,_,_,_,f.t7⟩)).trans f.t7,(i 11 (.inl ⟨_,f.t11⟩)).trans f.t11,(i 12 (.inl ⟨_,f.t12⟩)).trans f.t12,ab,(D _ z.2.2.1).trans f.o6,(D _ z.2.2.2.1).trans f.o7,f.js.aY f.L kM (f.js.st.aL (D j y)),λk p a ac R E C b l=>(D k (by have:=X.lt E;omega)).trans (f.kp k p a ac R E C b l),by rw[hn];have:=f.hn;omega,by rw[hn];exact hf,z.1,z.2.1⟩
end
theorem VS[Gh]:∀{E:List (List P)},(∀a∈E,Row Ty.jy a)->∃R,jv jh E R/\∀b∈R,uu b|[],_=>⟨[],aj,Y⟩|a::E,c=>by obtain⟨b,e,f⟩:=amr (c a Y);obtain⟨R,g,h⟩:=VS λa d=>c a (jz _ d);refine⟨b::R,aj,λi j=>?_⟩;grind
def Ga[Gh]{a:List P}(b:VT.ok (.agg Ty.lU) (.agg a)):∃ag bM E R,a=[ag,bM]/\Sl 9 ag E/\jv jh E R/\(∀c∈R,uu c)/\E.length<=1000:=by obtain⟨n,d,e,_⟩:=b;cases d;obtain⟨f,o,rfl,⟨E,g,_,p,h,_⟩,i⟩:=Row.cons e;obtain⟨j,q,rfl,_,k⟩:=Row.cons i;obtain rfl:=Row.nil k;obtain⟨R,l,m⟩:=VS h;exact⟨f,j,E,R,rfl,g,l,m,y⟩
def Dq[Gh]{a:List P}(b:VT.ok Ty.MG (.agg a)):a.length=2:=by obtain⟨e,c,d,_⟩:=b;cases c;exact Row.length d
def aee{a f:Nat}{h:Int}{i:ah}{j:Nat}{c d:Int}(x: -1000000<=c)(z:c<=d)(A:d<=1000000000)(n:fV a f h i)(B:h<=4611686018427000000)(o:a<j)(p:∀e b l,j<=e->c<=b->b<=d->(∀k,k≠a->l k=i k)->fV a f (h+1) l->g (.p (I b)) l e):
 X af 8 [.ptr a f 2 0 0,.p (I c),.p (I d)] i j g:=by obtain⟨q,C,r,m,s,D⟩:=n;letI:=jo;obtain⟨E,t,_⟩:=B7 (m jo);exact Wv y y y t o r s y λe b u v w F _ G H=>p e b _ v w y U ⟨q,u,Y,m,y,y⟩
structure C0(sid sg kc gk:Nat)(i:CI)(N:Int)(v:CV)(all:List CE)(ke:List KE)(dl:D)(j b6 g6 b7 g7:Nat)(m w:List P)(O:ah)(nx:Nat)(s:St):Prop where
 t0:s.T 0=.ptr sid sg 2 0 0
 t3:s.T 3=.ptr i.c i.gc 6 0 0
 t4:s.T 4=.ptr kc gk 4 0 0
 t6:s.T 6=.ptr b6 g6 2 0 0
 t7:s.T 7=.ptr b7 g7 2 0 0
 o6:s.O b6=J (.row 2 g6 [m.map .p])
 o7:s.O b7=J (.row 2 g7 [w.map .p])
 js:JS sid sg kc gk i N v all ke dl j s.O
 kp:mm O s.O sid
 hn:nx+2<=s.nx
 fr:Fr s.O s.nx
 ne:b6≠sid/\b7≠sid/\b6<nx+2/\b7<nx+2/\sid<nx
section
variable {e h p s:Nat}{t:CI}{i:Int}{u:CV}{A:List CE}{B:List KE}{F:D}{j L M N T:Nat}{v w:List P}{aB:Int}{lb:ByteArray}{aP:P}{m:ah}{o:Nat}{c s':St}{W:aV->St->Prop}
def C0.call(a:C0 e h p s t i u A B F j L M N T v w m o c){f:ah}(b:∀k,k<=7->s'.T k=c.T k)(d:∀k,k≠e->f k=c.O k)(g:fV e h Q f)(l:s'.O=f)(hn:c.nx<=s'.nx):C0 e h p s t Q u A B F j L M N T v w m o s':=by subst l;have q:=a.hn;have n:=a.ne;exact⟨(b 0 y).trans a.t0,(b 3 y).trans a.t3,(b 4 y).trans a.t4,(b 6 y).trans a.t6,(b 7 y).trans a.t7,(d _ y).trans a.o6,(d _ y).trans a.o7,a.js.drawn d g,a.kp.trans (.eq U),y,λk r=>(d k y).trans (a.fr k y),n⟩
def Ll[Gh](g:VT.ok Ty.MG (.agg v))(k:VT.ok (.agg Ty.lU) (.agg w))(f:Fr m o)(a:C0 e h p s t i u A B F j L M N T v w m o c)(hN:0<=i/\i<=4611686018421000000)(r:j<=1000)(C:lb≠⟨#[]⟩)(D:c.T 11=.p (I aB))(H:c.T 12=.p (S lb))(K:∀s',Fin e h p s t (i+40) u.size (j+1) m o s'->W .ret s'):cH (X af) QF c W:=by
 obtain⟨ag,bM,E,R,l,P,Q,U,V⟩:=Ga k;have nS:e<c.nx:=by have:=a.hn;have:=a.ne;omega
 rw[show QF= z 1 [q 13 (.mv (.c aD))] (.seq (.seq _ (.block 0 (.loop QU))) Kg) from rfl];refine bU br ?_;simp(disch:=omega);intro g1;refine bU br ?_;rw[bF];simp(disch:=omega)[a.t0];intro g2;refine vR y y a.js.st y y λab x O2 al x1 x2 e2 ac=>?_;obtain⟨ad,rfl⟩:=kg x1;simp(disch:=omega)[agc];have b:=a.call (s':={c with O:=O2,nx:=ab}) (λ_ _=>rfl) e2 ac rfl aw;refine aiX (n:=ad) f P Q U V y l ⟨by simpa using a.t0,by simpa using a.t3,by simpa using a.t4,by simpa using a.t6,by simpa using a.t7,by simpa using D,by simpa using H,Y,Y,.inl ⟨rfl,Y⟩,⟨.nil,Y,Y⟩,b.o6,b.o7,b.js,b.kp,b.hn,b.fr,b.ne⟩ y λs3 l' an d=>?_;show cH _ Kg s3 _;obtain⟨aP,s4,f4,hq,h4⟩:=d.c9 f;rw[show Kg=.seq (z 2 [G 59 0,q 60 (.call 19 [.t 59,.c (I 6)])] zg) Io from rfl];refine adw br f4 ?_;exact aiV g k (Dq g) (by rw[l];rfl) h4 y r f C hq d.hl.1 d.hl.2.1 (by have:=d.hl.2.2;omega) λs5 h5=>K _ (h5.mono y)
end
section
variable {e p i s:Nat}{j:CI}{o:Int}{q:CV}{w:List CE}{z:List KE}{A:D}{u G L M N:Nat}{m h:List P}{at_:Int}{S:ByteArray}{W:P}{n:ah}{c:Nat}{v t:St}{F:aV->St->Prop}
theorem adp[Gh](b:VT.ok Ty.MG (.agg m))(d:VT.ok (.agg Ty.lU) (.agg h))(f:Fr n c)(a:C0 e p i s j o q w z A u G L M N m h n c v)(K:0<=o/\o<=4611686018420000000)(g:u<=1000)(l:v.T 11=.p (I at_))(r:∀t,Fin e p i s j (o+41) q.size (u+1) n c t->F .ret t):cH (X af) QB v F:=by
 have O:e<v.nx:=by have:=a.hn;have:=a.ne;omega
 rw[show QB=.seq _ QF from rfl];refine bU br ?_;simp(disch:=omega)[a.t0];intro P;refine .l ?_;refine vR y y a.js.st y y λQ x R S T U B C=>?_;have H:x=0\/x=1\/x=2:=y;rcases H with rfl|rfl|rfl
 simp(disch:=omega)[Q9,ft];refine Ll (lb:=⟨#[120]⟩) b d f (a.call (λk D=>?_) B C rfl aw) y g eB (by simpa using l) Y λs3 E=>r _ ak;exact cj;simp(disch:=omega)[Q9,ft];refine Ll (lb:=⟨#[121]⟩) b d f (a.call (λk D=>?_) B C rfl aw) y g eB (by simpa using l) Y λs3 E=>r _ ak;exact cj;simp(disch:=omega)[Q9,ft];refine Ll (lb:=⟨#[122]⟩) b d f (a.call (λk D=>?_) B C rfl aw) y g eB (by simpa using l) Y λs3 E=>r _ ak;exact cj
theorem amN[Gh](F:VT.ok Ty.MG (.agg m))(G:VT.ok (.agg Ty.lU) (.agg h))(f:JS e p i s j o q w z A u n)(hN:0<=o/\o<=4611686018419000000)(v:u<=1000)(P:∀C l E H I K,JS e p i s j (o+42) E H I K (u+1) l->E.size=q.size->mm n l e->c<=C->Fr l C->g (.p (B aa)) l C):X af 11 [.ptr e p 2 0 0,.p (.agg m),.p (.agg h),.ptr j.c j.gc 6 0 0,.ptr i s 4 0 0] n c g:=by
 refine X.Px Y ao2 (by simp[D11]) λr=>?_;have Q:=Dq F;have R:h.length=2:=by obtain⟨_,_,_,_,S,_⟩:=Ga G;rw[S];rfl
 obtain⟨L0,a0,V,_⟩:=f.st;have W:=r.lt V;have ab:=f.ki.c;have nK:=r.lt ab;have ac:i≠e:=ak;have an:=f.fl;have ao:=f.hd;have cm:D.cells (.p (.agg m))=m.map .p:=by simp[D.cells,dw]
 have cw:D.cells (.p (.agg h))=h.map .p:=by simp[D.cells,dw]
 show cH _ (.seq _ (.seq _ QB)) _ _;refine bU br ?_;simp(disch:=omega)[cN,cm,cw,Q,R];intro a;have d:C0 e p i s j o q w z A u c (a c) (c+1) (a (c+1)) m h n c {T:=eF (eF (eF (T0 [.ptr e p 2 0 0,.p (.agg m),.p (.agg h),.ptr j.c j.gc 6 0 0,.ptr i s 4 0 0]) 6 (.ptr c (a c) 2 0 0)) 7 (.ptr (c+1) (a (c+1)) 2 0 0)) 10 (.p (B Z)),O:=am (am n c (J (.row 2 (a c) [m.map .p]))) (c+1) (J (.row 2 (a (c+1)) [h.map .p])),nx:=c+3,bs:=c,gm:=a}:=by
  have hk:∀k b,n k=J b->am (am n c (J (.row 2 (a c) [m.map .p]))) (c+1) (J (.row 2 (a (c+1)) [h.map .p])) k=J b:=λk b hb=>by have:=r.lt hb;exact aj
  exact⟨Y,Y,Y,Y,Y,Y,Y,f.up U (f.st.aL U),.eq U,aw,bK,y,y,y,y,W⟩
 have ax:∀t,Fin e p i s j (o+42) q.size (u+1) n c t->(sP=.normal\/sP=.ret)/\jt t D11.rs λds=>ji c g t.O t.nx (aM ds):=by rintro t ⟨ad,⟨E,H,I,K,v,hs⟩,kp,L,M⟩;refine⟨Y,?_⟩;simp[D11,ad];exact .d8 M L (P _ _ _ _ _ _ v hs kp L M)
 revert d;generalize ({T:=eF (eF (eF (T0 [.ptr e p 2 0 0,.p (.agg m),.p (.agg h),.ptr j.c j.gc 6 0 0,.ptr i s 4 0 0]) 6 (.ptr c (a c) 2 0 0)) 7 (.ptr (c+1) (a (c+1)) 2 0 0)) 10 (.p (B Z)),O:=am (am n c (J (.row 2 (a c) [m.map .p]))) (c+1) (J (.row 2 (a (c+1)) [h.map .p])),nx:=c+3,bs:=c,gm:=a}:St)=s1;intro d;refine bU br ?_;intro ay;have N:=d.js.ki.c;have f1:=d.fr;have aB:=f1.lt N;refine⟨[i],?_⟩;simp(disch:=omega)[aX,only,d.t0,d.t4,N,ba];have n1:=d.hn;refine aee y y y (d.js.st.aL (by simp[aX,dB ac]):fV e p o (aX [i] s1.O)) y y λaE x O2 aI x1 x2 e2 ag=>?_;have al:cI.wrap (q.floor+x)=q.floor+x:=iK y y;simp(disch:=omega)[afO,binOp,aC,al];refine adp (at_:=if 0>q.floor+x then 0 else q.floor+x) F G r (d.call (λk hk=>?_) (akf e2 dK) (Ou ag) rfl aw) y v Y ak;exact cj
end
def ae6:List aA:=[G 9 10,q 11 (xE 9 0),q 12 (xE 9 1),G 1 11,G 2 12]
def afP:List aA:=[dA 28 24 (di .neq 27 7),q 29 (qa 24 28)]
def afj:List aA:=(q 23 (AM 22)::G 24 23::dA 25 24 (xM 1)::dA 26 24 (.build [aH,aD,aD] [(0,1,.c (I 4))])::dA 27 24 (dV 27 25 26)::afP)
def XF:av:=.cond (.t 29) (z 1 [q 0 (gR Z)] (.ret)) (.skip)
def afG:List aA:=[G 30 33,q 34 (xE 30 0),q 35 (xE 30 1),q 4 (.alloc 6 9 [aF,aH,aH,aH,aH,aH,aF,aD,aD]),oN (xS 9 4 34),G 5 35]
def ae7:List aA:=[q 41 (di .eql 40 0),G 6 41]
def aaC:List aA:=[G 42 45,q 46 (xE 42 0),q 47 (xE 42 1),q 7 (.alloc 6 9 [aF,aH,aH,aH,aH,aH,aF,aD,aD]),oN (xS 9 7 46),G 8 47]
def aaI:List aA:=[q 53 (jw 49 52),G 54 53,oT 55 54 (xM 6),q 56 (jw 54 55),G 57 56,oT 58 57 (xM 8),oT 59 57 (AM 58),q 60 (jw 57 59),G 0 60]
def MJ:av:=z 14 (G 48 5::G 49 48::oT 50 49 (uS 9 4)::oT 51 49 (uS 9 3)::oT 52 49 (dV 29 50 51)::aaI) (.ret)
def QE:av:=
 z 9 (G 43 1::q 44 (.build [aF,aH,aH] [(0,1,.c (S ⟨#[97]⟩)),(2,1,.c (I 1))])::q 45 (dV 28 43 44)::aaC)
  MJ
def QC:av:=
 z 7 (G 36 1::q 37 (.build [aF,aH,aH] [(0,1,.c (S ⟨#[97]⟩)),(2,1,.c (I 1))])::q 38 (.bQ 2 3 1 [aF,aH,aH] [(0,.t 37)])::q 39 (.build [aH,aD,aD] [(0,1,.c (I 3)),(1,1,.t 38)])::q 40 (dV 27 36 39)::ae7)
  QE
def QK:av:=
 z 9 (G 31 1::q 32 (.build [aF,aH,aH] [(0,1,.c (S ⟨#[97]⟩)),(2,1,.c (I 1))])::q 33 (dV 28 31 32)::afG)
  QC
def Nl:av:=
 .seq (z 6 [G 13 2,q 14 (di .neq 13 0),G 15 14,dA 16 15 (xM 1),dA 17 15 (.lP Z (.t 16) (.c (.v (.pointer ae)))),q 18 (qa 15 17)] (.cond (.t 18) (z 1 [q 0 (gR Z)] (.ret)) (.skip))) (z 3 [q 19 (.build [aF,aH,aH,aH,aH,aH,aF,aD,aD] [(0,1,.c (S ⟨#[97]⟩)),(2,1,.c (I 1))]),q 3 (.alloc 1 9 [aF,aH,aH,aH,aH,aH,aF,aD,aD]),oN (xS 9 3 19)] (.seq (z 10 (G 20 1::cA 21 9 3::q 22 (.call 26 [.t 20,.t 21,.c (I 2)])::afj)
  XF)
  QK))
def D10:d6:=⟨61,[.t 0],z 1 [q 0 (gR Z)] (z 6 (q 10 (.call 9 [.c (I 4),.c (I 2)])::ae6)
 Nl)⟩
def aph:cW af Tryz.f10=J D10:=h
def r0:List P:=[S ⟨#[97]⟩,I 0,I 1,I 0,I 0,I 0,S ⟨#[]⟩,.v (.slice ae 0 0),.v (.slice ae 0 0)]
def o0:AO:=⟨[S ⟨#[97]⟩,I 0,I 1,I 0,I 0,I 0,S ⟨#[]⟩],[],[]⟩
theorem amy:jh r0 o0:=⟨⟨_,_,rfl,aj,aj⟩,rfl,by simp[o0],by simp[o0]⟩
def ash:uu o0:=⟨⟨_,_,_,_,_,_,_,rfl⟩,by simp[o0],by simp[o0],by simp[o0],by simp[o0]⟩
def k0:P:=.agg [S ⟨#[97]⟩,I 0,I 1]
structure KA(i:CI)(v:CV)(all:List CE)(id3 g3:Nat)(O:ah)(nx:Nat)(s:St):Prop where
 t1:s.T 1=.ptr i.c i.gc 6 0 0
 t3:s.T 3=.ptr id3 g3 9 0 0
 o3:s.O id3=J (.row 9 g3 [r0.map .p])
 ci:kX s.O i v all
 hi:nx<=i.c/\nx<=i.o/\nx<=i.l/\∀x∈all,nx<=x.id
 low:∀k,k<nx->s.O k=O k
 hn:nx<=s.nx
 fr:Fr s.O s.nx
section
variable {j:CI}{n s:CV}{m t:List CE}{o p:Nat}{i u:ah}{h v w:Nat}{c s':St}{q:aV->St->Prop}
theorem KA.call(a:KA j n m o p i h c)(g:kY c.O u v w j s m t)(q:c.nx<=v)(t1:s'.T 1=c.T 1)(t3:s'.T 3=c.T 3)(r:s'.O=u)(hn:w<=s'.nx):KA j s t o p i h s':=by
 subst r;have C:=a.hn;have D:=g.hn;obtain⟨z,b,A,d⟩:=a.hi;refine⟨t1.trans a.t1,t3.trans a.t3,g.zR a.ci (a.fr.mono q) a.o3 y y,g.inv,⟨z,b,A,λx l=>?_⟩,λk B=>(g.low k y ?_).trans (a.low k B),y,g.fr.mono hn⟩;rcases g.ids x l with⟨f,E,e⟩|e
 grind;omega;rintro(e|e|e|⟨x,l,e⟩);omega;omega;omega;grind
theorem KA.put(a:KA j n m o p i h c){d:Nat}(r:c.O d=ae)(s:h<=d)(l:d<s'.nx)(t1:s'.T 1=c.T 1)(t3:s'.T 3=c.T 3)(f:s'.O=am c.O d (J b))(hn:c.nx<=s'.nx):KA j n m o p i h s':=by
 have e:∀k g,c.O k=J g->s'.O k=J g:=λk g q=>by rw[f];exact(ai ak).trans q
 have:=a.hn;exact⟨t1.trans a.t1,t3.trans a.t3,e _ _ a.o3,a.ci.aL e,a.hi,λk e=>by rw[f];exact(ai y).trans (a.low k e),y,by rw[f];exact(a.fr.mono hn).am l⟩
theorem ajK{b id7:Nat}(a:KA j n m o p i h c)(e:c.T 4=.ptr bB b 9 0 0)(f:c.O bB=J (.row 9 b [C.map .p]))(d:jh C o0)(l:c.T 5=.p (B aa))(r:c.T 6=.p (B aa))(s:c.T 8=.p (B Z))(t:∀s',s'.T 0=.p (B aa)->(∀k,k<h->s'.O k=i k)->h<=s'.nx->q .ret s'):bx (X af) MJ c q:=by
 have u:C.length=9:=by obtain⟨⟨F,G,v,_⟩,w,_⟩:=d;rw[v];simp[w]
 have x:C.take 9=C:=ak;have y:cF (C.map .p)=.p (.agg C):=Y;have z:r0.length=9:=rfl;have A:r0.take 9=r0:=rfl;have D:cF (r0.map .p)=.p (.agg r0):=Y;have E:∀g:P->Prop,unOp .not (.p (B Z)) g=g (B aa):=aj;have H:=a.hn;simp(disch:=omega)[MJ,e,l,a.t3,a.o3,f,ba,u,z,<-cD,x,A,y,D];intro I;refine Jv d amy ash λK L=>?_;simp(disch:=omega)[-az,-cV,-bW,↓cQ,↓fi,aaI,r,s,E];exact t _ Y a.low aw
theorem aej{d:Nat}(a:KA j n m o p i h c)(F:∀x∈m,x.key≠k0)(G:n.cf<=1000)(H:c.T 4=.ptr bB d 9 0 0)(f:c.O bB=J (.row 9 d [C.map .p]))(g:jh C o0)(K:c.T 5=.p (B aa))(L:c.T 6=.p (B aa))(l:∀s',s'.T 0=.p (B aa)->(∀k,k<h->s'.O k=i k)->h<=s'.nx->q .ret s'):bx (X af) QE c q:=by have r:D.cells (.p (S ⟨#[97]⟩))=[.p (S ⟨#[97]⟩)]:=rfl;have s:D.cells (.p (I 1))=[.p (I 1)]:=rfl;have M:=a.hn;have t:D.cells (.p (.agg Rq))=[.p aF,.p (I 0),.p (I 0),.p (I 0),.p (I 0),.p (I 0),.p aF,.p aD,.p aD]:=rfl;rw[show QE=.seq _ MJ from rfl];simp(disch:=omega)[a.t1,fh,r,s,bI];intro N;refine X.nw (LH a.ci y (λ_ u e b v=>?_) λx P w=>absurd w aj);have z:e (c.nx+6)=ae:=v _ y (a.fr _ y);have Q:=b.hn;simp(disch:=omega)[aaC,t,bI];have A:=a.call (s':={c with O:=e,nx:=u}) b y rfl rfl rfl aw;have E:=b.zR a.ci (a.fr.mono y) f y y;exact ajK (id7:=0) (A.put z y aw Y Y rfl aw) ar ((ai ak).trans E) g ar ar Y l
end
section
variable {j:CI}{n u:CV}{p v:List CE}{s t:Nat}{m w:ah}{i z q:Nat}{c e:St}{o:aV->St->Prop}
theorem agM{l:Nat}(b:KA j n p s t m i c)(r:∀x∈p,x.at_=2)(N:n.heard=2)(u:n.cf<=1000)(P:c.T 4=.ptr bB l 9 0 0)(v:c.O bB=J (.row 9 l [C.map .p]))(d:jh C o0)(Q:c.T 5=.p (B aa))(w:∀e,e.T 0=.p (B aa)->(∀k,k<i->e.O k=m k)->i<=e.nx->o .ret e):bx (X af) QC c o:=by
 have R:D.cells (.p (S ⟨#[97]⟩))=[.p (S ⟨#[97]⟩)]:=rfl;have z:∀q:Int,D.cells (.p (I q))=[.p (I q)]:=aj;have A:D.cells (.p (.agg [S ⟨#[97]⟩,I 0,I 1]))=[.p (S ⟨#[97]⟩),.p (I 0),.p (I 1)]:=rfl;have E:D.cells (.p (.im [[S ⟨#[97]⟩,I 0,I 1]] 3 aa))=[.p (.im [[S ⟨#[97]⟩,I 0,I 1]] 3 aa)]:=rfl;have F:dp [[D.p (S ⟨#[97]⟩),.p (I 0),.p (I 1)]]=J [[S ⟨#[97]⟩,I 0,I 1]]:=rfl;have G:rQ [I 3,.im [[S ⟨#[97]⟩,I 0,I 1]] 3 aa,.v (.slice ae 0 0)] 3 [[S ⟨#[97]⟩,I 0,I 1]] []:=⟨⟨_,_,rfl,aj,aj⟩,λT d=>by rw[bD.1 d];exact⟨_,_,_,rfl⟩,Y,Y,Y⟩;rw[show QC=.seq _ QE from rfl];simp(disch:=omega)[b.t1,fh,z,A,E,F,bI];intro U;refine .l ?_;refine RM b.ci y G (λf=>absurd y f) λ_ H K g=>?_;have V:=g.hn;have a:=b.call (s':={c with O:=K,nx:=H}) g y rfl rfl rfl aw;have L:=g.zR b.ci (b.fr.mono y) v y y;simp(disch:=omega)[ae7,binOp,aC];refine aej ⟨by simpa using a.t1,by simpa using a.t3,a.o3,a.ci,a.hi,a.low,a.hn,a.fr⟩ (λx h f=>?_) u ar L d ar Y w;obtain⟨h,W⟩:=jB.1 h;have:mL 3 [[S ⟨#[97]⟩,I 0,I 1]] [] x=aa:=by unfold mL;have M:[[S ⟨#[97]⟩,I 0,I 1]].any (wq (acW k0))=aa:=KZ;rw[f,r x h,show DN k0=Z from rfl,ap eB,M];rfl
 grind
theorem akj(h:KA j n p s t m i c)(r:∀x∈p,x.at_=2/\x.ob=[o0])(a:∃x∈p,x.key=k0)(u:n.heard=2)(P:n.cf<=100)(v:∀e,e.T 0=.p (B aa)->(∀k,k<i->e.O k=m k)->i<=e.nx->o .ret e):bx (X af) QK c o:=by
 have Q:D.cells (.p (S ⟨#[97]⟩))=[.p (S ⟨#[97]⟩)]:=rfl;have R:∀b:Int,D.cells (.p (I b))=[.p (I b)]:=aj;have T:=h.hn;rw[show QK=.seq _ QC from rfl];simp(disch:=omega)[h.t1];intro U;obtain⟨V,W,w⟩:=a;refine X.nw (LH h.ci y (λab=>absurd w aj) λx a hk z d C A g l ac E=>?_);obtain rfl:A=o0:=ak;have q:C.length=9:=by obtain⟨⟨q7,q8,F,_⟩,G,_⟩:=l;rw[F];simp[G]
 have H:D.cells (.p (.agg C))=C.map .p:=by simp[D.cells,dw]
 have K:bI [D.p aF,.p (I 0),.p (I 0),.p (I 0),.p (I 0),.p (I 0),.p aF,.p aD,.p aD] (C.map .p) 0=C.map .p:=by simp[Dl.bI,q]
 have L:d (c.nx+6)=ae:=E _ y (h.fr _ y);have ad:=g.hn;have M:=h.call (s':={c with O:=d,nx:=z}) g y rfl rfl rfl aw;simp(disch:=omega)[afG,H,K,q];refine agM (M.put L y aw Y Y rfl aw) (λf N=>?_) u aw Y bi l Y v;rcases bg.1 N with h|h
 grind;rw[bD.1 h];exact(r x a).1
theorem ajg(h:c.T 1=.ptr j.c j.gc 6 0 0)(u:kX c.O j {size:=4,heard:=2,floor:=2,cf:=0} [])(V:i<=j.c)(W:i<=j.o)(h3:i<=j.l)(ab:∀k,k<i->c.O k=m k)(hn:i<=c.nx)(fr:Fr c.O c.nx)(v:∀e,e.T 0=.p (B aa)->(∀k,k<i->e.O k=m k)->i<=e.nx->o .ret e):bx (X af) (By Nl) c o:=by
 have w:D.cells (.p (S ⟨#[97]⟩))=[.p (S ⟨#[97]⟩)]:=rfl;have n:∀p:Int,D.cells (.p (I p))=[.p (I p)]:=aj;have y:cF [.p (S ⟨#[97]⟩),.p (I 0),.p (I 1),.p (I 0),.p (I 0),.p (I 0),.p aF,.p aD,.p aD]=.p (.agg r0):=rfl;have z:D.cells (.p (.agg r0))=[.p (S ⟨#[97]⟩),.p (I 0),.p (I 1),.p (I 0),.p (I 0),.p (I 0),.p aF,.p aD,.p aD]:=rfl;have A:∀g:P->Prop,unOp .not (.p (B aa)) g=g (B Z):=aj;rw[show By Nl=.seq _ (.seq (.seq _ XF) QK) from rfl];simp(disch:=omega)[h,fh,w,n,z,bI,y,ba];intro a g1;have e0:c.O (c.nx+1)=ae:=aj;have C:∀k b,c.O k=J b->am c.O (c.nx+1) (J (.row 9 (a (c.nx+1)) [[.p (S ⟨#[97]⟩),.p (I 0),.p (I 1),.p (I 0),.p (I 0),.p (I 0),.p aF,.p aD,.p aD]])) k=J b:=λk b E=>(ai ak).trans E;have f:KA j {size:=4,heard:=2,floor:=2,cf:=0} [] (c.nx+1) (a (c.nx+1)) m i {T:=eF c.T 3 (.ptr (c.nx+1) (a (c.nx+1)) 9 0 0),O:=am c.O (c.nx+1) (J (.row 9 (a (c.nx+1)) [[.p (S ⟨#[97]⟩),.p (I 0),.p (I 1),.p (I 0),.p (I 0),.p (I 0),.p aF,.p aD,.p aD]])),nx:=c.nx+3,bs:=0,gm:=a}:=⟨by simp[h],Y,bi,u.aL C,U,aj,aw,bK⟩;revert f;generalize am c.O (c.nx+1) (J (.row 9 (a (c.nx+1)) [[.p (S ⟨#[97]⟩),.p (I 0),.p (I 1),.p (I 0),.p (I 0),.p (I 0),.p aF,.p aD,.p aD]]))=O1;intro f;have F:¬sa {size:=4,heard:=2,floor:=2,cf:=0} [] (.agg [S ⟨#[97]⟩,I 0,I 1]) 2:=by rintro(q|⟨x,G,_⟩);grind;cases G
 refine ZC f.ci eB Y amy rfl (λq=>absurd q F) λ_ H K x e1 e2 e3 e4 l=>?_;have L:tI 4 (kr (.agg [S ⟨#[97]⟩,I 0,I 1]) []++[x])=[x]:=by rw[Aa Y];simp[tI]
 rw[show({size:=4,heard:=2,floor:=2,cf:=0}:CV).size=4 from rfl,L]at l;have s:=f.call (s':={c with T:=eF c.T 3 (.ptr (c.nx+1) (a (c.nx+1)) 9 0 0),O:=K,nx:=H}) l aw rfl rfl rfl aw;have M:rQ [I 4,.v (.slice ae 0 0),.v (.slice ae 0 0)] 4 [] []:=⟨⟨_,_,rfl,aj,aj⟩,Y,Y,Y,Y⟩;have N:cF [.p (I 4),.p aD,.p aD]=.p (.agg [I 4,.v (.slice ae 0 0),.v (.slice ae 0 0)]):=rfl;simp(disch:=omega)[-az,-cV,-bW,↓cQ,↓fi,afj,h,A,fh,n,bI,N];refine RM s.ci eB M (λ_ Q r t=>?_) λR=>absurd R eB;have ac:=l.hn;have ad:=t.hn;simp(disch:=omega)[-az,-cV,-bW,↓cQ,↓fi,afP,XF,binOp,aC];have d:=s.call (s':={c with T:=eF c.T 3 (.ptr (c.nx+1) (a (c.nx+1)) 9 0 0),O:=r,nx:=Q}) t aw rfl rfl rfl aw;refine akj ⟨ar,Y,d.o3,d.ci,d.hi,d.low,aw,d.fr⟩ ak aj rfl eB v
theorem RA(c:∀q,i<=q->g (.p (B aa)) m q):X af 10 [] m i g:=by
 refine X.of Y aph Y λd=>?_;have f:∀e,e.T 0=.p (B aa)->(∀k,k<i->e.O k=m k)->i<=e.nx->(sP=.normal\/sP=.ret)/\jt e D10.rs λh=>ji i g e.O e.nx (aM h):=by intro e l a b;refine⟨Y,?_⟩;simp[D10,l];exact .low d b a (c _ b)
 simp[D10,cN];intro p;refine M5 (λn=>absurd y n) λ_ r s j t u v o a w x=>?_;simp(disch:=omega)[ae6];rw[show Nl=.seq (.seq _ (.cond (.t 18) _ .skip)) (By Nl) from rfl];simp(disch:=omega)[-az,-cV,-bW,↓cQ,↓fi,binOp,aC];intro z;exact ajg Y o y y y ak aw bK f
end
def amR:List aA:=[q 4 (.alloc 2 2 [aD,aD]),oN (xS 2 4 15)]
def anD:List aA:=[vt (xS 2 5 21)]
def alm:List aA:=(q 21 (sV 5 16 17 20)::anD)
def ake:List aA:=[G 6 24,G 7 27]
def ajy:List aA:=(G 25 3::q 26 (.bQ 4 1 6 [aH] [(0,.c aH),(1,.c (I 1)),(2,.c (I 5)),(3,.c (I 999999999999999)),(4,.c (I (-1))),(5,.c (I 1000000000000000))])::q 27 (dV 6 25 26)::ake)
def afm:List aA:=[G 6 31,G 7 33]
def akM:List aA:=(G 32 3::q 33 (.call 8 [.t 32,.c aH,.c (I 3)])::afm)
def ad7:av:=.cond (.t 29) (rF 6 (G 30 3::q 31 (.call 8 [.t 30,.c (I 1),.c (I 4)])::akM)) (.skip)
def Xy:List aA:=[G 34 37,q 38 (xE 34 0),q 39 (xE 34 1),G 8 38,G 9 39]
def QX:List aA:=[q 62 (jw 60 61),G 2 62]
def aeU:List aA:=[fR 72 0]
def agk:List aA:=[dA 107 99 (xB .neq 101 106),q 108 (qa 99 107)]
def aew:List aA:=(dA 97 90 (xB .neq 92 96)::q 98 (qa 90 97)::G 99 98::⟨(J 102),.mv (.t 10),(J (99,Z)),aa⟩::⟨(J 103),.lY (.t 102),(J (99,Z)),aa⟩::⟨(J 104),.fa (.t 103) 3,(J (99,Z)),aa⟩::⟨(J 105),.load 1 Z (.t 104) Z,(J (99,Z)),aa⟩::⟨(J 106),.len Z (.t 105),(J (99,Z)),aa⟩::dA 100 99 (xM 8)::dA 101 99 (oW 14 100)::agk)
def aeW:List aA:=(dA 88 81 (xB .neq 83 87)::q 89 (qa 81 88)::G 90 89::⟨(J 93),.mv (.t 10),(J (90,Z)),aa⟩::⟨(J 94),.lY (.t 93),(J (90,Z)),aa⟩::⟨(J 95),.fa (.t 94) 2,(J (90,Z)),aa⟩::⟨(J 96),.load 1 Z (.t 95) Z,(J (90,Z)),aa⟩::dA 91 90 (xM 8)::dA 92 90 (oW 13 91)::aew)
def N4:av:=.dg 35 aa (q 80 (AM 79)::G 81 80::⟨(J 84),.mv (.t 10),(J (81,Z)),aa⟩::⟨(J 85),.lY (.t 84),(J (81,Z)),aa⟩::⟨(J 86),.fa (.t 85) 1,(J (81,Z)),aa⟩::⟨(J 87),.load 1 Z (.t 86) Z,(J (81,Z)),aa⟩::dA 82 81 (xM 8)::dA 83 81 (oW 12 82)::aeW)
def N8:av:=.cond (.t 108) (z 1 [q 2 (gR Z)] (.ret)) (.skip)
def Q8:av:=rF 2 [q 109 (di .add 72 1),G 72 109]
def Qs:av:=
 z 1 [q 73 (xB .lss 72 71)] (.seq (cX 73 0) (.seq (.block 1 (.seq (z 35 [G 74 3,cA 75 2 4,cA 76 2 5,G 77 8,G 78 10,q 79 (.call 11 [.t 74,.t 75,.t 76,.t 77,.t 78])]
  N4)
  N8))
  Q8))
def YL:av:=.block 0 (.loop Qs)
def aeL:List aA:=[G 2 110]
def QZ:av:=z 2 (q 110 (.call 10 [])::aeL) (.ret)
def Ob:av:=
 .seq (z 2 [G 63 9,q 64 (di .neq 63 0)] (.cond (.t 64) (z 1 [q 2 (gR Z)] (.ret)) (.skip))) (z 6 [G 65 6,G 66 7,G 67 7,q 68 (.build [aH,aH,aH,aD] [(0,1,.t 65),(1,1,.t 66),(2,1,.t 67)]),q 69 (iU 4 4 68),G 10 69] (.seq (z 3 (G 70 3::q 71 (.call 8 [.t 70,.c (I 4),.c (I 24)])::aeU)
  YL)
  QZ))
def J2:av:=
 .seq (z 14 [G 40 6,q 41 (di .lss 40 1),G 42 41,dA 43 42 (xM 6),dA 44 42 (di .gtr 43 1000),q 45 (qa 42 44),G 46 45,dA 47 46 (xM 7),dA 48 46 (di .lss 47 0),q 49 (qa 46 48),G 50 49,dA 51 50 (xM 7),dA 52 50 (di .gtr 51 999999999999999),q 53 (qa 50 52)] (.cond (.t 53) (z 10 (G 54 9::q 55 (di .eql 54 1)::G 56 55::oT 57 56 (xM 8)::oT 58 56 (.lP Z (.t 57) (.c (.v (.pointer ae))))::q 59 (jw 56 58)::G 60 59::oT 61 60 (.call 10 [])::QX) (.ret)) (.skip)))
  Ob
def Qx:av:=
 z 8 (G 35 6::G 36 7::q 37 (dV 9 35 36)::Xy)
  J2
def YS:av:=
 .seq (z 2 [G 28 3,q 29 (.call 7 [.t 28,.c (I 2)])]
  ad7)
  Qx
def YK:av:=
 z 8 (G 22 3::q 23 (.bQ 1 1 8 [aH] [(0,.c (I 1)),(1,.c (I 2)),(2,.c (I 3)),(3,.c (I 5)),(4,.c (I 1000)),(5,.c aH),(6,.c (I 1001)),(7,.c (I (-1)))])::q 24 (dV 6 22 23)::ajy)
  YS
def Xo:av:=
 .seq (.dg 8 aa (aZ 16 (xM 3)::aZ 17 (CM 2 4)::aZ 5 (.alloc 6 2 [aD,aD])::G 18 3::q 19 (.bQ 3 1 3 [aH] [(0,.c (I 3)),(1,.c (I 6)),(2,.c (I 9))])::q 20 (dV 6 18 19)::alm))
  YK
def D3:d6:=⟨111,[.t 2],z 1 [q 2 (gR Z)] (z 4 [G 11 0,q 12 (.build [aD,aH] [(0,1,.t 11)]),q 13 (iU 2 2 12),G 3 13] (z 4 (G 14 3::q 15 (oW 4 14)::amR)
 Xo))⟩
def arK:cW af Tryz.f3=J D3:=h
theorem aiE[Gh]{j:P}(q:VT.ok Ty.MG j){b:Int}(r:1<=b)(s:b<=9){a c:Nat}{l:Int}{d:ah}{e:Nat}(t:fV a c l d)(K:l<=4610000000000000000)(u:a<e)(v:∀f h i,e<=f->VT.ok (.agg Ty.lU) (.agg i)->(∀k,k≠a->h k=d k)->fV a c (l+1000000000000) h->g (.p (.agg i)) h f):
 X af 5 [.ptr a c 2 0 0,.p j,.p (I b)] d e g:=by obtain⟨w,m,x,L,z,M⟩:=t;refine(s89 d e g [j,I b] ⟨q,⟨b,rfl,r,s⟩,aj⟩ (λN A=>by cases A)).2 rfl a c w m u x U z (by show m<=4611686018427387000-1000000000000;omega) λf O n B Q h C D E R o S F=>?_;have o:n<=m+1000000000000:=o;obtain⟨rfl,rfl⟩:=mY F;obtain⟨T,V,rfl,p,G⟩:=Vs.cons D;obtain rfl:=Vs.nil G;have H:=p;obtain⟨i,rfl,_⟩:=H;exact v f _ i C p U ⟨B,n,Y,Cj E,y,y⟩
def Oo{d:Option Nat}{i:fG}{e:Bool}{g:List aA}{c:St}{F:ah}{h:St->ah->Prop}:fS aR (⟨d,i,J (a,e),aa⟩::g) c F h=wK (c.T a) e (aN aR i {c with O:=F} λx j k=>fS aR g {c with T:=eE c.T d x,nx:=k} j h) (fS aR g {c with T:=eE c.T d (.p (.v undef))} F h):=by
 simp[fS,d9];cases c.T a with
 |p x=>cases x with
  |v f=>cases f with
   |bool b=>cases b<;>cases e<;>rfl
   |_=>rfl
  |_=>rfl
 |_=>rfl
structure EL(sid sg kc gk:Nat)(i:CI)(N:Int)(v:CV)(all:List CE)(ke:List KE)(dl:D)(c n b4 g4 b5 g5:Nat)(m w:List P)(s:St):Prop where
 t3:s.T 3=.ptr sid sg 2 0 0
 t4:s.T 4=.ptr b4 g4 2 0 0
 t5:s.T 5=.ptr b5 g5 2 0 0
 t8:s.T 8=.ptr i.c i.gc 6 0 0
 t10:s.T 10=.ptr kc gk 4 0 0
 t71:s.T 71=.p (I (n:Int))
 t72:s.T 72=.p (I (c:Int))
 o4:s.O b4=J (.row 2 g4 [m.map .p])
 o5:s.O b5=J (.row 2 g5 [w.map .p])
 js:JS sid sg kc gk i N v all ke dl c s.O
 fr:Fr s.O s.nx
 ne:b4≠sid/\b5≠sid
section
variable {q s h j:Nat}{e:CI}{t:Int}{m:CV}{u:List CE}{n:List KE}{v:D}{o w y z A F:Nat}{G L:List P}{M:ah}{N:Nat}{c i:St}{p:aV->St->Prop}
def ack{e:ah}{f g:Nat}{b:List (List D)}{c:D->Prop}(h:de e f g b d):zJ d c=c (.p (I b.length)):=by rcases h with⟨rfl,rfl⟩|⟨id,a,_,rfl,_⟩;simp;simp
theorem ajQ(a:JS q s h j e t m u n v o c.O)(S:o<=1000)(T:Fr c.O c.nx)(b:c.T 8=.ptr e.c e.gc 6 0 0)(d:c.T 10=.ptr h j 4 0 0)(A:c.T 79=.p (B aa))(C:∀i,i.T 108=.p (B Z)->(∀k,k<79->i.T k=c.T k)->i.O=c.O->c.nx<=i.nx->p .normal i):bx (X af) N4 c p:=by
 have f:=a.ki.c;have r:=a.ci;have D:∀g:P->Prop,unOp .not (.p (B aa)) g=g (B Z):=aj;have E:=r.oc;have F:e.c≠h:=ak;intro U;refine⟨[h],?_⟩;have l:aX [h] c.O e.c=J (.row 6 e.gc [e.row m]):=by simp[aX,F,E]
 simp(disch:=omega)[-cV,-bW,↓cQ,↓B9,↓Oo,N4,b,d,A,D,only,f,ba];refine aiZ l λV ab=>?_;simp(disch:=omega)[-az,-cV,-bW,↓cQ,↓B9,↓Oo,aeW,b,d,only,f,ba,binOp,aC];refine aiB l λac ad=>?_;have G:=a.ki.l;have ag:=a.kl;have al:=a.len;have H:=a.zr.length;have I:=r;obtain⟨⟨K,L,w,x,y,W⟩,_⟩:=I;have M:=y.o;have N:=y.l;have O:e.o≠h:=ak;have Q:e.l≠h:=ak;have z:=W.length_eq;rw[fj]at z;simp(disch:=omega)[-az,-cV,-bW,↓cQ,↓B9,↓Oo,aew,b,d,only,f,ba,binOp,aC,ack G,yj];refine afT (co:=K) (cl:=L) (ko:=w.map CE.kv) (kl:=x.map CE.kv) dK l (by simp[aX,O,M]) (by simp[aX,Q,N]) λan ao=>?_;have R:(w.map CE.kv).length+(x.map CE.kv).length=n.length:=by rw[d7,d7,z,H]
 rw[R];simp(disch:=omega)[-az,-cV,-bW,↓cQ,↓B9,↓Oo,agk,binOp,aC];refine C _ Y (λk hk=>?_) (nU [h] c.O) aw;exact cj
end
section
variable {v w A B:Nat}{F:CI}{j:Int}{p:CV}{s:List CE}{t:List KE}{u:D}{c n L M N O:Nat}{m h:List P}{T:ah}{W:Nat}{o e:St}{S:aV->St->Prop}
theorem aiA[Gh](C:VT.ok Ty.MG (.agg m))(D:VT.ok (.agg Ty.lU) (.agg h))(a:EL v w A B F j p s t u c n L M N O m h o)(hc:c<=100)(H:0<=j/\j<=4611686018419000000)(K:∀e d f g i,(∀s2:St,(∀k,k<72->s2.T k=e.T k)->s2.T 72=.p (I ((c+1:Nat):Int))->s2.O=e.O->e.nx<=s2.nx->EL v w A B F (j+42) d f g i (c+1) n L M N O m h s2)->e.T 72=.p (I (c:Int))->o.nx<=e.nx->S .normal e):
 bx (X af) (.block 1 (.seq (z 35 [G 74 3,cA 75 2 4,cA 76 2 5,G 77 8,G 78 10,q 79 (.call 11 [.t 74,.t 75,.t 76,.t 77,.t 78])]
  N4)
  N8)) o S:=by
 have P:=Dq C;have Q:h.length=2:=by obtain⟨_,_,_,_,l,_⟩:=Ga D;rw[l];rfl
 have R:cF (m.map .p)=.p (.agg m):=Y;have T:cF (h.map .p)=.p (.agg h):=Y;have V:m.take 2=m:=ak;have W:h.take 2=h:=ak;simp(disch:=omega)[a.t3,a.t4,a.t5,a.t8,a.t10,a.o4,a.o5,ba,P,Q,<-cD,V,W,R,T];intro g1;refine amN C D a.js H y λad O2 d f g i hj _ r hn E=>?_;refine ajQ hj y E (by simpa using a.t8) (by simpa using a.t10) Y λs3 ab hT ag al=>?_;show bx _ N8 s3 _;rw[show N8=.cond (.t 108) _ .skip from rfl,kA,iF,ab,iV,mD];have l:∀k,k<73->s3.T k=o.T k:=λk r=>(hT k y).trans cj;refine K s3 d f g i (λs4 h4 ac an ao=>?_) ((l 72 y).trans a.t72) ak;have b:∀k,k<72->s4.T k=o.T k:=ak;have x:s4.O=O2:=U;exact⟨(b 3 y).trans a.t3,(b 4 y).trans a.t4,(b 5 y).trans a.t5,(b 8 y).trans a.t8,(b 10 y).trans a.t10,(b 71 y).trans a.t71,ac,by rw[x];exact r _ _ _ _ a.ne.1 a.o4 y y y,by rw[x];exact r _ _ _ _ a.ne.2 a.o5 y y y,U,by rw[x];exact E.mono ak,a.ne⟩
theorem agS[Gh](b:VT.ok Ty.MG (.agg m))(d:VT.ok (.agg Ty.lU) (.agg h))(T:EL v w A B F j p s t u 0 n L M N O m h o)(V:n<=100)(W:0<=j/\j<=4611686018418000000)(f:∀e,Fr e.O e.nx->o.nx<=e.nx->S (.exit 0) e):bx (X af) (.loop Qs) o S:=by
 refine⟨λk s1=>∃c:Nat,k=n-c/\c<=n/\o.nx<=s1.nx/\∃p s t u,EL v w A B F (j+42*c) p s t u c n L M N O m h s1,⟨_,0,rfl,y,y,p,s,t,u,U⟩,?_⟩;rintro k s1 ⟨c,rfl,hc,ab,v1,ac,ad,ag,a⟩;have g:=lW (i:=c) y;rw[show Qs= z 1 [⟨J 73,.lS .lss 0 (.t 72) (.t 71),ae,Z⟩] (.seq (.cond (.t 73) .skip (.exit 0)) (.seq (.block 1 (.seq (z 35 [G 74 3,cA 75 2 4,cA 76 2 5,G 77 8,G 78 10,q 79 (.call 11 [.t 74,.t 75,.t 76,.t 77,.t 78])]
  N4)
  N8)) Q8)) from rfl]
 refine lX a.t72 a.t71 (λal l=>?_) λan l=>?_;rw[bF];obtain⟨q1,q2,q3,q4,q5,r,q7,x,C,D,ao,E⟩:=a;refine aiA b d ⟨ar,ar,ar,ar,ar,by simpa using r,ar,x,C,D,bK,E⟩ y y λs2 H I K P Q R ax=>?_;show bx _ Q8 s2 _;simp(disch:=omega)[Q8,R,binOp,aC,g];intro g3;refine⟨n-(c+1),y,c+1,rfl,y,ak,H,I,K,P,?_⟩;rw[show j+42*((c+1:Nat):Int)=j+42*(c:Int)+42 by omega];exact Q _ cj Y rfl aw;refine f _ (a.fr.mono aw) aw
end
structure ES(sid sg:Nat)(N:Int)(b4 g4 b5 g5:Nat)(m w:List P)(s:St):Prop where
 t3:s.T 3=.ptr sid sg 2 0 0
 t4:s.T 4=.ptr b4 g4 2 0 0
 t5:s.T 5=.ptr b5 g5 2 0 0
 o4:s.O b4=J (.row 2 g4 [m.map .p])
 o5:s.O b5=J (.row 2 g5 [w.map .p])
 st:fV sid sg N s.O
 fr:Fr s.O s.nx
 ne:b4≠sid/\b5≠sid
section
variable {e h:Nat}{u:CI}{i:Int}{o p q s:Nat}{j m:List P}{w:ah}{z:Nat}{c s':St}{v:aV->St->Prop}
def ES.t(a:ES e h i o p q s j m c)(d:∀k,k=3\/k=4\/k=5->s'.T k=c.T k)(b:s'.O=c.O)(f:c.nx<=s'.nx):ES e h i o p q s j m s':=⟨(d 3 y).trans a.t3,(d 4 y).trans a.t4,(d 5 y).trans a.t5,by rw[b];exact a.o4,by rw[b];exact a.o5,by rw[b];exact a.st,by rw[b];exact a.fr.mono f,a.ne⟩
def ES.call{b:ah}(a:ES e h i o p q s j m c)(d:∀k,k=3\/k=4\/k=5->s'.T k=c.T k)(f:∀k,k≠e->b k=c.O k)(g:fV e h Q b)(l:s'.O=b)(r:c.nx<=s'.nx):ES e h Q o p q s j m s':=by
 subst l;have u:e<c.nx:=by obtain⟨_,_,n,_⟩:=a.st;exact a.fr.lt n
 exact⟨(d 3 y).trans a.t3,(d 4 y).trans a.t4,(d 5 y).trans a.t5,(f _ a.ne.1).trans a.o4,(f _ a.ne.2).trans a.o5,g,λk v=>(f k y).trans (a.fr k y),a.ne⟩
def ES.up(a:ES e h i o p q s j m c)(d:∀k,k=3\/k=4\/k=5->s'.T k=c.T k)(f:∀k b,c.O k=J b->s'.O k=J b)(g:Fr s'.O s'.nx):ES e h i o p q s j m s':=by obtain⟨l,n,u,r⟩:=a.st;exact⟨(d 3 y).trans a.t3,(d 4 y).trans a.t4,(d 5 y).trans a.t5,f _ _ a.o4,f _ _ a.o5,⟨l,n,U,r⟩,g,a.ne⟩
def am9(d:Fr c.O c.nx)(b:∀s',s'.T 2=.p (B aa)->c.nx<=s'.nx->Fr s'.O s'.nx->v .ret s'):bx (X af) QZ c v:=by rw[show QZ=.seq _ .ret from rfl];simp(disch:=omega);intro a;refine RA λe f=>?_;simp(disch:=omega)[aeL];exact b _ Y aw bK
theorem aoM[Gh](E:VT.ok Ty.MG (.agg j))(F:VT.ok (.agg Ty.lU) (.agg m))(d:ES e h i o p q s j m c)(hN:0<=i/\i<=4611686018417000000){f a:Int}(G:c.T 6=.p (I f))(H:c.T 7=.p (I a))(h8:c.T 8=.ptr u.c u.gc 6 0 0)(K:c.T 9=.p (I 0))(L:kX c.O u {size:=f,heard:=a,floor:=a,cf:=0} [])(h1:1<=f)(h2:0<=a)(h3:a<=999999999999999)(M:∀s',s'.T 2=.p (B aa)->c.nx<=s'.nx->Fr s'.O s'.nx->v .ret s'):bx (X af) Ob c v:=by
 have N:∀l:Int,D.cells (.p (I l))=[.p (I l)]:=aj;have O:cF [.p (I f),.p (I a),.p (I a),.p aD]=.p (.agg [I f,I a,I a,.v (.slice ae 0 0)]):=rfl;have P:D.cells (.p (.agg [I f,I a,I a,.v (.slice ae 0 0)]))=[.p (I f),.p (I a),.p (I a),.p aD]:=rfl;have r:=d.fr;have nS:e<c.nx:=by obtain⟨_,_,Q,_⟩:=d.st;exact r.lt Q
 rw[show Ob=.seq (.seq _ (.cond (.t 64) _ .skip)) (.seq _ (.seq (.seq _ YL) QZ)) from rfl];simp(disch:=omega)[d.t3,G,H,K,binOp,aC,fh,N,bI,O,P];intro g g2;have e0:c.O (c.nx+2+4)=ae:=r _ y;have w:∀k b,c.O k=J b->am c.O (c.nx+2+4) (J (.row 4 (g (c.nx+2+4)) [[.p (I f),.p (I a),.p (I a),.p aD]])) k=J b:=λk b R=>(ai ak).trans R;have z:fV e h i (am c.O (c.nx+2+4) (J (.row 4 (g (c.nx+2+4)) [[.p (I f),.p (I a),.p (I a),.p aD]]))):=d.st.aL aj;refine yu y y y z y y λS x t ad x1 x2 A T=>?_;obtain⟨l,rfl⟩:=kg (show 0<=x by omega);have C:∀k b,k≠e->c.O k=J b->t k=J b:=U;have ag:c.nx+2+4≠e:=y;have oK:t (c.nx+2+4)=J (.row 4 (g (c.nx+2+4)) [[.p (I f),.p (I a),.p (I a),.p aD]]):=U;have V:Fr t S:=λk w=>(A k y).trans ((ai y).trans (r k y));have W:JS e h (c.nx+2+4) (g (c.nx+2+4)) u i {size:=f,heard:=a,floor:=a,cf:=0} [] [] (.p aD) 0 (am c.O (c.nx+2+4) (J (.row 4 (g (c.nx+2+4)) [[.p (I f),.p (I a),.p (I a),.p aD]]))):=⟨z,L.aL w,⟨Y,aj⟩,aj,Y,Y,aw,Y,aw,aw,aw⟩
 have ab:=W.drawn A T;rw[show YL=.block 0 (.loop Qs) from rfl];simp(disch:=omega)[aeU];refine agS (n:=l) E F ⟨by simpa using d.t3,by simpa using d.t4,by simpa using d.t5,ar,Y,Y,Y,C _ _ d.ne.1 d.o4,C _ _ d.ne.2 d.o5,ab,V,d.ne⟩ y y λs3 ac al=>?_;exact am9 ac λs4 k1 k2 k3=>M s4 k1 ak k3
end
section
variable {o p:Nat}{j:CI}{i:Int}{s t u v:Nat}{m n:List P}{w:ah}{A:Nat}{c e:St}{h:aV->St->Prop}{size heard:Int}
def alr(t:Fr c.O c.nx)(b:c.T 6=.p (I size))(d:c.T 7=.p (I heard))(u:c.T 8=.p (.v (.pointer ae)))(v:c.T 9=.p (I 1))(w:¬((1<=size/\size<=1000)/\0<=heard/\heard<=999999999999999))(o:∀e,e.T 2=.p (B aa)->c.nx<=e.nx->Fr e.O e.nx->h .ret e):bx (X af) J2 c h:=by
 rw[show J2=.seq (.seq _ (.cond (.t 53) (z 10 ([G 54 9,q 55 (di .eql 54 1),G 56 55,oT 57 56 (xM 8),oT 58 56 (.lP Z (.t 57) (.c (.v (.pointer ae)))),q 59 (jw 56 58),G 60 59,oT 61 60 (.call 10 [])]++QX) .ret) .skip)) Ob from rfl];have f:∀(g:Nat->D),g 8=.p (.v (.pointer ae))->g 9=.p (I 1)->∀l m,bx (X af) (z 10 ([G 54 9,q 55 (di .eql 54 1),G 56 55,oT 57 56 (xM 8),oT 58 56 (.lP Z (.t 57) (.c (.v (.pointer ae)))),q 59 (jw 56 58),G 60 59,oT 61 60 (.call 10 [])]++QX) .ret) {T:=g,O:=c.O,nx:=c.nx+14,bs:=l,gm:=m} h:=by intro g p r l m;simp(disch:=omega)[p,r,binOp,aC];intro a;refine RA λx A=>?_;simp(disch:=omega)[-az,-cV,-bW,↓cQ,↓fi,QX];exact o _ Y aw bK
 by_cases i:size<1;rw[bF,bF];simp(disch:=omega)[-az,-cV,-bW,↓cQ,↓fi,b,d,binOp,aC,i,-bF];intro j;refine f _ ?_ ?_ _ _;exact ar;exact ar;by_cases k:1000<size;rw[bF,bF];simp(disch:=omega)[-az,-cV,-bW,↓cQ,↓fi,b,d,binOp,aC,i,k,-bF];intro j;refine f _ ?_ ?_ _ _;exact ar;exact ar;by_cases n:heard<0;rw[bF,bF];simp(disch:=omega)[-az,-cV,-bW,↓cQ,↓fi,b,d,binOp,aC,i,k,n,-bF];intro j;refine f _ ?_ ?_ _ _;exact ar;exact ar;have s:999999999999999<heard:=y;rw[bF,bF];simp(disch:=omega)[-az,-cV,-bW,↓cQ,↓fi,b,d,binOp,aC,i,k,n,s,-bF];intro j;refine f _ ?_ ?_ _ _;exact ar;exact ar
theorem aht[Gh](a:VT.ok Ty.MG (.agg m))(b:VT.ok (.agg Ty.lU) (.agg n))(d:ES o p i s t u v m n c)(f:0<=i/\i<=4611686018417000000)(g:c.T 6=.p (I size))(l:c.T 7=.p (I heard))(E:c.T 8=.ptr j.c j.gc 6 0 0)(F:c.T 9=.p (I 0))(q:kX c.O j {size:=size,heard:=heard,floor:=heard,cf:=0} [])(G:(1<=size/\size<=1000)/\0<=heard/\heard<=999999999999999)(r:∀e,e.T 2=.p (B aa)->c.nx<=e.nx->Fr e.O e.nx->h .ret e):bx (X af) J2 c h:=by have w:¬size<1:=y;have x:¬1000<size:=y;have z:¬heard<0:=y;have A:¬999999999999999<heard:=y;rw[show J2=.seq (.seq _ (.cond (.t 53) _ .skip)) Ob from rfl];simp(disch:=omega)[g,l,binOp,aC,w,x,z,A];intro H;refine aoM a b (d.t (λk K=>?_) rfl aw) f ?_ ?_ ?_ ?_ q y y y λs2 C L D=>r s2 C ak D;exact cj;exact ar;exact ar;exact ar;exact ar
theorem afM[Gh](w:VT.ok Ty.MG (.agg m))(x:VT.ok (.agg Ty.lU) (.agg n))(l:ES o p i s t u v m n c)(y:0<=i/\i<=4611686018417000000)(z:c.T 6=.p (I size))(A:c.T 7=.p (I heard))(q:∀e,e.T 2=.p (B aa)->c.nx<=e.nx->Fr e.O e.nx->h .ret e):bx (X af) Qx c h:=by have C:=l.fr;rw[show Qx=.seq _ J2 from rfl];simp(disch:=omega)[z,A];intro L;refine M5 (λa D E r F d=>?_) λG D E j M N O H r F d=>?_;simp(disch:=omega)[Xy];refine alr d ?_ ?_ Y Y a λs2 f K g=>q s2 f ak g;exact ar;exact ar;simp(disch:=omega)[Xy];refine aht w x (l.up (λk P=>?_) (λk b a=>(r k (by have:=C.lt a;omega)).trans a) d) y ?_ ?_ Y Y H G λs2 f K g=>q s2 f ak g;exact cj;exact ar;exact ar
end
end Go.Dl
