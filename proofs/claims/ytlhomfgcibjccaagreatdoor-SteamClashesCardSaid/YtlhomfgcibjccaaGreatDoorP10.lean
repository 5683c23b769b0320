import Derived.Test.YtlhomfgcibjccaaGreatDoorP09
set_option linter.all false
namespace Go.LL
section
open Go.Conc (Knows Deaf touchAt QuitsD crowd woken Leavers Past)
open Go.ConcN (sumTo upd sumTo_upd upd_ne upd_same)
structure Zzp{p:Program}(T:Vx p)(R:Frame->List Frame->Hp->Prop)(fr:Frame)(cs:List Frame)(H:Hp)(gs:Array Goroutine)(w:World)(t:Trace)(s:T.S)(Hs Hm:Hp)(G:Frame->List Frame->Hp->Prop):Prop where
 sound:T.Sound
 inv:T.Inv s Hs t
 next:T.next s=gs.size
 tag0:T.tag s 0=Hm.gh
 tags:∀j,j≠0->j<gs.size->T.tag s j=T.left
 le:Hm.le w
 leS:Hs.le w
 dis:Hm.Dis Hs
 from0:iY H .nil w Hm
 fromS:iY H .nil w Hs
 act:T.act Hm.gh
 work:Reach T.prgM G fr cs Hm
 goal:∀fr cs H,G fr cs H->¬ T.can true H.gh
 done:∀bW bJ H' s' eG t' w',G bW bJ H'->T.Inv s' eG t'->T.tag s' 0=H'.gh->H'.Dis eG->H'.le w'->eG.le w'->eR t' 0 H'->(∀op∈t',op.act.low w'.heap.size)->iY H .nil w H'->iY H .nil w eG ->
  (∀j,j≠0->j<T.next s'->T.tag s' j=T.left) /\
  (∀i a,touchAt t' i=some a->a.loc.isMemory=true->Knows t' 0 i\/(a.kind=.atomic/\∀b,a.loc.gP=some b->H' b=none/\(yZ t b\/w.heap.size<=b\/∃o,H b=some (o,true)))) /\
  t'.HandedOver/\Deaf t' 0=0/\∃H2:Hp,H2.gh=H.gh/\(∀b x,H2 b=some x->∃y,H' b=some y/\y.1=x.1/\(x.2=true->y.2=true\/∃o,H b=some (o,true)))/\R bW bJ H2
theorem ZsL{p:Program}{R:Frame->List Frame->Hp->Prop}{fr:Frame}{cs:List Frame}{H:Hp}
  (h:∀gs w t q,jL p H gs w t q->gs[0]? = some (bT fr cs)->∃(T:Vx p) (s:T.S) (Hs Hm:Hp) (G:Frame->List Frame->Hp->Prop),Zzp T R fr cs H gs w t s Hs Hm G):UZ p R fr cs H:=by
 intro gs w sl t q ha h0;obtain⟨T,s,Hs,Hm,G,B⟩:=h gs w t q ha h0;have rG:0<gs.size:=(qAl.1 h0).1;obtain⟨k,hk⟩:=B.work.rank;have F3:eR t 0 Hm:=by
  intro b o pm hb i a hi hl _;refine oR λhn=>?_;have h1:=ha.yN ⟨i,a,hi,hl,hn⟩;rcases B.from0.nil hb with h2 | ⟨y,hy,_⟩
  ·obtain⟨x,hx,gC⟩:=Go.Conc.touch_of hi;exact absurd (MJ gC hl (ha.lS.seen x (Go.Conc.mem_of_getElem? hx))) O
  rw[h1]at hy;simp at hy
 have BH:∀j d,gH T gs j d->False:=by
  rintro j d ⟨x,c,sh,hx,_⟩;by_cases hj:j=0
  ·subst hj;rw[h0]at hx;have:=qAC Goroutine.status (dO hx);simp[Go.Conc.parked]at this
  have h1:=(ha.jB.old j _ O hx).status;simp[Go.Conc.parked]at h1
 have C:dP T G (gs.size+T.more s) H w gs w t s Hs (λj=>if j=0 then Hm else .aP T.left) (λj=>if j=0 then 3 else 0) (λj=>if j=0 then k else .ofNat (q j)):=by
  have hb:∀g,xQ (.aP g):=λg b=>rfl;refine⟨B.next.symm,rG,aC _,B.inv,B.leS,?_,?_,?_,?_,?_,ha.lS.clean,ha.lS.seen,ha.jB.above,?_,?_,.refl w,aC _,λ_ _ _=>rfl,?_,B.fromS,λj k h1 _=>BH j _ h1⟩
  ·intro j;split
   ·exact B.le
   intro b o pm hh;simp[Hp.aP]at hh
  ·intro j j' dG b x y h1 h2;by_cases hj:j=0
   ·rw[bY (show j'≠0 by omega)]at h2;simp[Hp.aP]at h2
   rw[bY hj]at h1;simp[Hp.aP]at h1
  ·intro j;split
   ·exact B.dis
   intro b x y h1;simp[Hp.aP]at h1
  ·intro j;split
   ·subst j;exact F3
   intro b o pm hh;simp[Hp.aP]at hh
  ·intro j hj;split
   ·subst j;exact B.tag0
   exact B.tags j ‹_› hj
  ·intro j hj;rw[bY O];exact hb _
  ·intro j hj;by_cases qE:j=0
   ·subst qE;exact⟨rfl,fr,cs,.inl h0,hk,B.act⟩
   rw[bY qE,bY qE,bY qE];exact⟨qE,rfl,hb _,gs[j],q j,qAE hj,ha.jB.old j _ O (qAE hj),rfl⟩
  intro j;split
  ·exact B.from0
  intro b x hx;simp[Hp.aP]at hx
 obtain⟨n,fF,w',iD,t',s',eG,yL,CV,CR,fJ,C',bW,bJ,C4,hG⟩:=Zok B.sound B.goal _ gs w sl t s Hs _ _ _ rfl C;have eU:=C'.pos;obtain⟨d1,d2,d3,d4,H2,g1,g2,d5⟩:=B.done bW bJ (yL 0) s' eG t' w' hG C'.inv (C'.tag 0 eU) (C'.disS 0) (C'.le 0) C'.leS (C'.perm 0) C'.low (C'.org 0) C'.orgS;have hq:∀j,∃q,∀g,0<j->fF[j]? = some g->QuitsD p q (Deaf t' j) g:=by
  intro j;by_cases hj:0<j/\j<fF.size
  ·have bB:=C'.st j hj.2;have hl:(yL j).gh=T.left:=by rw[<-C'.tag j hj.2];exact d1 j O (by rw[<-C'.size];exact hj.2)
   revert bB;generalize CV j=m;generalize CR j=r;intro bB;match m,bB with
   | 3,⟨h1,_⟩=>omega
   | 2,⟨_,_,_,_,_,h1⟩=>rw[hl]at h1;exact absurd h1 B.sound.actLeft
   | 1,⟨_,_,_,_,_,h1,_⟩=>rw[hl]at h1;exact absurd h1 B.sound.hshLeft
   | 0,⟨_,_,_,g,q,h1,h2,_⟩=>exact⟨q,λg' _ hg=>by rw[h1]at hg;obtain rfl:=dO hg;exact h2⟩
  exact⟨0,λg h1 hg=>absurd ⟨h1,(qAl.1 hg).1⟩ hj⟩
 have qD:∃q':Nat->Nat,∀j g,0<j->fF[j]? = some g->QuitsD p (q' j) (Deaf t' j) g:=by refine⟨λj=>(hq j).choose,λj g h1 hg=>(hq j).choose_spec g h1 hg⟩
 obtain⟨q',qD⟩:=qD;have jN:∀{l:Loc} {b:Nat},l.gP=some b->l.isMemory=true:=by intro l b hl;cases l<;>simp[Loc.gP]at hl<;>rfl
 have BI:∀b,yL 0 b=none->H2 b=none:=λb hb=>by
  cases h:H2 b with
  | none=>rfl
  | some x=>obtain⟨y,hy,_⟩:=g2 b x h;rw[hb]at hy;simp at hy
 refine⟨n,fF,w',iD,t',q',H2,bW,bJ,fJ,C4,⟨⟨qD,C'.above⟩,⟨C'.clean,λi a h1 h2=>?_,d3,d4,C'.low⟩,λb o pm hb=>?_⟩,⟨C'.out,C'.grown,C'.keep,λb x hx=>?_,λb hb=>?_,g1⟩,d5⟩
 ·rcases d2 i a h1 h2 with h3 | ⟨h3,h4⟩
  ·exact .inl h3
  obtain⟨b,hb⟩:=ZlH h2;refine .inr ⟨⟨b,hb,?_,BI b (h4 b hb).1⟩,h3⟩;obtain⟨x,hx,gC⟩:=Go.Conc.touch_of h1;exact MJ gC hb (C'.low x (Go.Conc.mem_of_getElem? hx))
 ·obtain⟨⟨yo,yp⟩,hy,e,_⟩:=g2 b _ hb;simp only at e;subst e;exact C'.le 0 b yo yp hy
 ·obtain⟨y,hy,e,h3⟩:=g2 b x hx;rcases(C'.org 0).nil hy with h | ⟨z,hz,NR⟩
  ·exact .inl h
  refine .inr ⟨z,.inl hz,λhf=>?_⟩;have e2:=NR hf;have tP:x.2=false:=by
   cases tP:x.2 with
   | false=>rfl
   | true=>
    rcases h3 tP with h4 | ⟨o,h4⟩
    ·rw[e2,hf]at h4;simp at h4
    rw[h4]at hz;obtain rfl:=dO hz;simp at hf
  rw[<-e2];rw[<-e2]at hf;exact Prod.ext e.symm (tP.trans hf.symm)
 obtain⟨i,a,h1,h2,h3⟩:=hb;rcases d2 i a h1 (jN h2)with h4 | ⟨_,h4⟩
 ·exact absurd h4 h3
 exact(h4 b h2).2
end
section
variable{n a:Nat}
open Go.ConcN (sumTo upd sumTo_upd upd_ne upd_same)
def cd(l:List Nat):Nat:=l.headD 0
def Ct(f:Nat->Nat)(tag:Nat->List Nat)(n:Nat):Nat:=sumTo n λi=>f (cd (tag i))
theorem Ct.upd(f:Nat->Nat)(tag:Nat->List Nat)(l:List Nat){i:Nat}(h:i<n):Ct f (upd tag i l) n+f (cd (tag i))=Ct f tag n+f (cd l):=
 sumTo_upd tag l (λx=>f (cd x)) h
theorem Ct.le(f:Nat->Nat)(tag:Nat->List Nat){i:Nat}(h:i<n):f (cd (tag i))<=Ct f tag n:=Go.ConcN.le_sumTo (f:=λi=>f (cd (tag i))) h
def one(b:Bool):Nat:=if b then 1 else 0
def Zk(c:Nat):Nat:=one (10<=c && c<=14)
def cT(c:Nat):Nat:=one (c == 5 || c == 6)
def cQ(c:Nat):Nat:=one (c == 7)
def cA(c:Nat):Nat:=one (c == 8 || c == 9)
def cU(c:Nat):Nat:=one (c == 15 || c == 16)
def cR(c:Nat):Nat:=one (c == 17)
def dQ(c:Nat):Nat:=
 if 1<=c && c<=4 then 6 else if c == 5 || c == 6 || c == 8 || c == 9 then 5 else if c == 7 then 4 else if 10<=c && c<=14 then 3 else if c == 15 || c == 16 then 2 else if c == 17 then 1 else 0
structure Mu where
 L:Nat
 W:Nat
 S:Nat
 n:Nat
 sm:Nat
def Mu.st(x:Mu):Nat:=x.L+2 * x.W+4 * x.S+8 * x.n
def Mu.mu(x:Mu)(more:Nat)(tag:Nat->List Nat)(k:Nat):Nat:=Ct dQ tag k+x.sm+6 * more
structure Mu.aJ(x:Mu)(tag:Nat->List Nat)(k:Nat):Prop where
 L1:x.L=Ct Zk tag k
 L2:x.L<=1
 W1:x.W<=1
 S1:x.S<=1
 norm:x.S=0->Ct cQ tag k=x.n+x.sm+Ct cR tag k/\x.W=Ct cT tag k+Ct cA tag k+x.sm+Ct cR tag k/\(x.L=0->0<x.n->x.W=1\/0<Ct cU tag k)
 starv:x.S=1->x.n=Ct cQ tag k+Ct cA tag k/\1<=x.n/\x.W=0/\Ct cT tag k=0/\x.L+Ct cR tag k+x.sm+Ct cA tag k=1
def Mu.dM(x:Mu)(mu:Nat):List Nat->Prop
 | [4,v,m]=>mu<=m/\(mu=m->x.st=v)
 | [6,v,m]=>mu<=m/\(mu=m->x.st=v)
 | [15,v,m]=>mu<=m/\(mu=m->x.st=v)/\v % 8=0/\8<=v
 | [9,v]=>x.S=1/\1<=v / 8/\v / 8<=x.n
 | [3,m]=>mu<m
 | [5,m]=>mu<m
 | [7,m]=>mu<m
 | [8,m]=>mu<m
 | [16,m]=>mu<m
 | [4]=>False
 | [6]=>False
 | [15]=>False
 | [9]=>False
 | _=>True
section
variable{x x':Mu}{tag:Nat->List Nat}{k i:Nat}{l:List Nat}
theorem counts(hi:i<k)(f:Nat->Nat):Ct f (upd tag i l) k+f (cd (tag i))=Ct f tag k+f (cd l):=Ct.upd f tag l hi
end
theorem ct{tag:Nat->List Nat}{i k b:Nat}{l:List Nat}(hi:i<k)(hc:cd (tag i)=a)(hl:cd l=b)(c:Nat->Nat):Ct c (upd tag i l) k+c a=Ct c tag k+c b:=by have e:=counts (tag:=tag) (l:=l) hi c;rw[hc,hl]at e;exact e
theorem cl{tag:Nat->List Nat}{i k:Nat}(hi:i<k)(hc:cd (tag i)=a)(c:Nat->Nat):c a<=Ct c tag k:=by have e:=Ct.le c tag hi;rw[hc]at e;exact e
end
section
variable{G:Prop}
theorem SF(h:G:=by have h0:upd tag i l 0=tag 0:=upd_ne tag l (qAi bD);refine⟨?_,?_,?_,?_,?_,?_⟩<;>rw[h0]<;>(try dsimp only)<;>omega):G:=h
theorem UJ(h:G:=by
  obtain⟨f1,f2,f3,f4,f5,f6⟩:=F;have e0:Ct cW (upd tag 0 l) k+0=Ct cW tag k+0:=ct hi hc hl cW;have e1:Ct cL (upd tag 0 l) k+0=Ct cL tag k+0:=ct hi hc hl cL;have e2:Ct cE (upd tag 0 l) k+0=Ct cE tag k+0:=ct hi hc hl cE;have h0:upd tag 0 l 0=l:=upd_same tag 0 l;rw[hc]at f1 f2 f3 f4 f5 f6;replace f1:x.v=Ct cW tag k+0:=f1;refine⟨?_,?_,?_,?_,?_,?_⟩<;>rw[h0,hl]<;>(try dsimp only)
  ·show _=_+0;omega
  all_goals omega):G:=h
theorem ZY(h:G:=by obtain⟨f1,f2,f3,f4,f5,f6⟩:=F;have e0:Ct cW (upd tag i l) k+1=Ct cW tag k+1:=ct hi hc hl cW;have e1:Ct cL (upd tag i l) k+0=Ct cL tag k+0:=ct hi hc hl cL;have e2:Ct cE (upd tag i l) k+0=Ct cE tag k+0:=ct hi hc hl cE;have g1:1<=Ct cW tag k:=cl hi hc cW;have h0:upd tag i l 0=tag 0:=upd_ne tag l (qAi bD);refine⟨?_,?_,?_,?_,?_,?_⟩<;>rw[h0]<;>(try dsimp only)<;>omega):G:=h
open Go.ConcN (sumTo upd sumTo_upd upd_ne upd_same)
def cW(c:Nat):Nat:=one (1<=c && c<=21)
def cL(c:Nat):Nat:=one (c == 22 || c == 23)
def cE(c:Nat):Nat:=one (c == 24)
def mP(c:Nat):Nat:=one (c == 32 || c == 33)
structure Wg where
 v:Nat
 wt:Nat
 wm:Nat
structure Wg.aJ(x:Wg)(tag:Nat->List Nat)(k more:Nat):Prop where
 v1:x.v=Ct cW tag k+mP (cd (tag 0))
 main:30<=cd (tag 0)
 FT:34<=cd (tag 0)->more=0
 MX:cd (tag 0)=36->(x.wt=1/\x.wm=0/\Ct cE tag k=0/\(x.v=0->Ct cL tag k=1)/\(x.v≠0->Ct cL tag k=0))\/(x.wt=0/\x.v=0/\Ct cL tag k=0/\Ct cE tag k+x.wm=1)
 EU:cd (tag 0)≠36->x.wt=0/\x.wm=0/\Ct cL tag k=0/\Ct cE tag k=0
 zero:37<=cd (tag 0)->x.v=0
section
variable{x:Wg}{tag:Nat->List Nat}{k i more:Nat}{l:List Nat}
theorem Wg.add(F:x.aJ tag k more)(hi:0<k)(hc:cd (tag 0)=31)(hl:cd l=32) :Wg.aJ { x with v:=x.v+1 } (upd tag 0 l) k more:=by
 obtain⟨f1,f2,f3,f4,f5,f6⟩:=F;have e0:Ct cW (upd tag 0 l) k+0=Ct cW tag k+0:=ct hi hc hl cW;have e1:Ct cL (upd tag 0 l) k+0=Ct cL tag k+0:=ct hi hc hl cL;have e2:Ct cE (upd tag 0 l) k+0=Ct cE tag k+0:=ct hi hc hl cE;have h0:upd tag 0 l 0=l:=upd_same tag 0 l;rw[hc]at f1 f2 f3 f4 f5 f6;replace f1:x.v=Ct cW tag k+0:=f1;refine⟨?_,?_,?_,?_,?_,?_⟩<;>rw[h0,hl]<;>(try dsimp only)
 ·show _=_+1;omega
 all_goals omega
theorem Wg.CA(F:x.aJ tag k more)(hi:i<k)(bD:i≠0)(hc:cd (tag i)=21)(hl:cd l=0)(h:¬ (x.v=1/\x.wt=1)):Wg.aJ { x with v:=x.v-1 } (upd tag i l) k more:=by obtain⟨f1,f2,f3,f4,f5,f6⟩:=F;have e0:Ct cW (upd tag i l) k+1=Ct cW tag k+0:=ct hi hc hl cW;have e1:Ct cL (upd tag i l) k+0=Ct cL tag k+0:=ct hi hc hl cL;have e2:Ct cE (upd tag i l) k+0=Ct cE tag k+0:=ct hi hc hl cE;have g1:1<=Ct cW tag k:=cl hi hc cW;exact SF
theorem Wg.CB(F:x.aJ tag k more)(hi:i<k)(bD:i≠0)(hc:cd (tag i)=21)(hl:cd l=22)(h:x.v=1/\x.wt=1):Wg.aJ { x with v:=x.v-1 } (upd tag i l) k more:=by obtain⟨f1,f2,f3,f4,f5,f6⟩:=F;have e0:Ct cW (upd tag i l) k+1=Ct cW tag k+0:=ct hi hc hl cW;have e1:Ct cL (upd tag i l) k+0=Ct cL tag k+1:=ct hi hc hl cL;have e2:Ct cE (upd tag i l) k+0=Ct cE tag k+0:=ct hi hc hl cE;have g1:1<=Ct cW tag k:=cl hi hc cW;exact SF
theorem Wg.tY(F:x.aJ tag k more)(hi:i<k)(bD:i≠0)(hc:cd (tag i)=23)(hl:cd l=24) :Wg.aJ { x with wt:=0 } (upd tag i l) k more:=by obtain⟨f1,f2,f3,f4,f5,f6⟩:=F;have e0:Ct cW (upd tag i l) k+0=Ct cW tag k+0:=ct hi hc hl cW;have e1:Ct cL (upd tag i l) k+1=Ct cL tag k+0:=ct hi hc hl cL;have e2:Ct cE (upd tag i l) k+0=Ct cE tag k+1:=ct hi hc hl cE;have g2:1<=Ct cL tag k:=cl hi hc cL;exact SF
theorem Wg.y6(F:x.aJ tag k more)(hi:i<k)(bD:i≠0)(hc:cd (tag i)=24)(hl:cd l=0) :Wg.aJ { x with wm:=x.wm+1 } (upd tag i l) k more:=by obtain⟨f1,f2,f3,f4,f5,f6⟩:=F;have e0:Ct cW (upd tag i l) k+0=Ct cW tag k+0:=ct hi hc hl cW;have e1:Ct cL (upd tag i l) k+0=Ct cL tag k+0:=ct hi hc hl cL;have e2:Ct cE (upd tag i l) k+1=Ct cE tag k+0:=ct hi hc hl cE;have g3:1<=Ct cE tag k:=cl hi hc cE;exact SF
theorem Wg.M8(F:x.aJ tag k more)(hi:0<k)(hc:cd (tag 0)=34)(hl:cd l=38)(h:x.v=0)(kB:more=0):Wg.aJ x (upd tag 0 l) k more:=by exact UJ
theorem Wg.M7(F:x.aJ tag k more)(hi:0<k)(hc:cd (tag 0)=34)(hl:cd l=35)(h:x.v≠0):Wg.aJ x (upd tag 0 l) k more:=by exact UJ
theorem Wg.Ew(F:x.aJ tag k more)(hi:0<k)(hc:cd (tag 0)=35)(hl:cd l=34) :Wg.aJ x (upd tag 0 l) k more:=by exact UJ
theorem Wg.MX(F:x.aJ tag k more)(hi:0<k)(hc:cd (tag 0)=35)(hl:cd l=36)(h:x.v≠0):Wg.aJ { x with wt:=1 } (upd tag 0 l) k more:=by exact UJ
theorem Wg.woken(F:x.aJ tag k more)(hi:0<k)(hc:cd (tag 0)=36)(hl:cd l=37)(h:x.wm≠0):Wg.aJ { x with wm:=x.wm-1 } (upd tag 0 l) k more:=by exact UJ
theorem Wg.xF(F:x.aJ tag k more)(hi:0<k)(hc:cd (tag 0)=30)(hl:cd l=31) :Wg.aJ x (upd tag 0 l) k more:=by exact UJ
theorem Wg.xD(F:x.aJ tag k more)(hi:0<k)(hc:cd (tag 0)=32)(hl:cd l=33) :Wg.aJ x (upd tag 0 l) k more:=by
 obtain⟨f1,f2,f3,f4,f5,f6⟩:=F;have e0:Ct cW (upd tag 0 l) k+0=Ct cW tag k+0:=ct hi hc hl cW;have e1:Ct cL (upd tag 0 l) k+0=Ct cL tag k+0:=ct hi hc hl cL;have e2:Ct cE (upd tag 0 l) k+0=Ct cE tag k+0:=ct hi hc hl cE;have h0:upd tag 0 l 0=l:=upd_same tag 0 l;rw[hc]at f1 f2 f3 f4 f5 f6;replace f1:x.v=Ct cW tag k+1:=f1;refine⟨?_,?_,?_,?_,?_,?_⟩<;>rw[h0,hl]<;>(try dsimp only)
 ·show _=_+1;omega
 all_goals omega
theorem Wg.xE(F:x.aJ tag k more)(hi:0<k)(hc:cd (tag 0)=30)(hl:cd l=34)(kB:more=0):Wg.aJ x (upd tag 0 l) k more:=by exact UJ
theorem Wg.xC(F:x.aJ tag k more)(hi:0<k)(hc:cd (tag 0)=37)(hl:cd l=38) :Wg.aJ x (upd tag 0 l) k more:=by exact UJ
theorem Wg.xB(F:x.aJ tag k more)(hi:0<k)(hc:cd (tag 0)=38)(hl:cd l=39) :Wg.aJ x (upd tag 0 l) k more:=by exact UJ
theorem Wg.xA(F:x.aJ tag k more)(hi:0<k)(hc:cd (tag 0)=39)(hl:cd l=40) :Wg.aJ x (upd tag 0 l) k more:=by exact UJ
theorem Wg.DW(F:x.aJ tag k more)(hi:i<k)(bD:i≠0)(hc:cd (tag i)=1)(hl:cd l=2) :Wg.aJ x (upd tag i l) k more:=by exact ZY
theorem Wg.zN(F:x.aJ tag k more)(hi:i<k)(bD:i≠0)(hc:cd (tag i)=2)(hl:cd l=10) :Wg.aJ x (upd tag i l) k more:=by exact ZY
theorem Wg.DV(F:x.aJ tag k more)(hi:i<k)(bD:i≠0)(hc:cd (tag i)=2)(hl:cd l=3) :Wg.aJ x (upd tag i l) k more:=by exact ZY
theorem Wg.DU(F:x.aJ tag k more)(hi:i<k)(bD:i≠0)(hc:cd (tag i)=3)(hl:cd l=4) :Wg.aJ x (upd tag i l) k more:=by exact ZY
theorem Wg.DT(F:x.aJ tag k more)(hi:i<k)(bD:i≠0)(hc:cd (tag i)=4)(hl:cd l=3) :Wg.aJ x (upd tag i l) k more:=by exact ZY
theorem Wg.DS(F:x.aJ tag k more)(hi:i<k)(bD:i≠0)(hc:cd (tag i)=4)(hl:cd l=5) :Wg.aJ x (upd tag i l) k more:=by exact ZY
theorem Wg.DQ(F:x.aJ tag k more)(hi:i<k)(bD:i≠0)(hc:cd (tag i)=5)(hl:cd l=6) :Wg.aJ x (upd tag i l) k more:=by exact ZY
theorem Wg.DP(F:x.aJ tag k more)(hi:i<k)(bD:i≠0)(hc:cd (tag i)=6)(hl:cd l=5) :Wg.aJ x (upd tag i l) k more:=by exact ZY
theorem Wg.zM(F:x.aJ tag k more)(hi:i<k)(bD:i≠0)(hc:cd (tag i)=4)(hl:cd l=10) :Wg.aJ x (upd tag i l) k more:=by exact ZY
theorem Wg.zK(F:x.aJ tag k more)(hi:i<k)(bD:i≠0)(hc:cd (tag i)=6)(hl:cd l=10) :Wg.aJ x (upd tag i l) k more:=by exact ZY
theorem Wg.DR(F:x.aJ tag k more)(hi:i<k)(bD:i≠0)(hc:cd (tag i)=4)(hl:cd l=7) :Wg.aJ x (upd tag i l) k more:=by exact ZY
theorem Wg.DN(F:x.aJ tag k more)(hi:i<k)(bD:i≠0)(hc:cd (tag i)=6)(hl:cd l=7) :Wg.aJ x (upd tag i l) k more:=by exact ZY
theorem Wg.DM(F:x.aJ tag k more)(hi:i<k)(bD:i≠0)(hc:cd (tag i)=7)(hl:cd l=8) :Wg.aJ x (upd tag i l) k more:=by exact ZY
theorem Wg.DL(F:x.aJ tag k more)(hi:i<k)(bD:i≠0)(hc:cd (tag i)=8)(hl:cd l=6) :Wg.aJ x (upd tag i l) k more:=by exact ZY
theorem Wg.DK(F:x.aJ tag k more)(hi:i<k)(bD:i≠0)(hc:cd (tag i)=8)(hl:cd l=9) :Wg.aJ x (upd tag i l) k more:=by exact ZY
theorem Wg.zJ(F:x.aJ tag k more)(hi:i<k)(bD:i≠0)(hc:cd (tag i)=9)(hl:cd l=10) :Wg.aJ x (upd tag i l) k more:=by exact ZY
theorem Wg.wZ(F:x.aJ tag k more)(hi:i<k)(bD:i≠0)(hc:cd (tag i)=10)(hl:cd l=11) :Wg.aJ x (upd tag i l) k more:=by exact ZY
theorem Wg.wY(F:x.aJ tag k more)(hi:i<k)(bD:i≠0)(hc:cd (tag i)=11)(hl:cd l=12) :Wg.aJ x (upd tag i l) k more:=by exact ZY
theorem Wg.wX(F:x.aJ tag k more)(hi:i<k)(bD:i≠0)(hc:cd (tag i)=12)(hl:cd l=13) :Wg.aJ x (upd tag i l) k more:=by exact ZY
theorem Wg.wV(F:x.aJ tag k more)(hi:i<k)(bD:i≠0)(hc:cd (tag i)=13)(hl:cd l=14) :Wg.aJ x (upd tag i l) k more:=by exact ZY
theorem Wg.wS(F:x.aJ tag k more)(hi:i<k)(bD:i≠0)(hc:cd (tag i)=14)(hl:cd l=18) :Wg.aJ x (upd tag i l) k more:=by exact ZY
theorem Wg.wU(F:x.aJ tag k more)(hi:i<k)(bD:i≠0)(hc:cd (tag i)=14)(hl:cd l=15) :Wg.aJ x (upd tag i l) k more:=by exact ZY
theorem Wg.wT(F:x.aJ tag k more)(hi:i<k)(bD:i≠0)(hc:cd (tag i)=14)(hl:cd l=17) :Wg.aJ x (upd tag i l) k more:=by exact ZY
theorem Wg.wR(F:x.aJ tag k more)(hi:i<k)(bD:i≠0)(hc:cd (tag i)=15)(hl:cd l=16) :Wg.aJ x (upd tag i l) k more:=by exact ZY
theorem Wg.wP(F:x.aJ tag k more)(hi:i<k)(bD:i≠0)(hc:cd (tag i)=16)(hl:cd l=15) :Wg.aJ x (upd tag i l) k more:=by exact ZY
theorem Wg.wO(F:x.aJ tag k more)(hi:i<k)(bD:i≠0)(hc:cd (tag i)=16)(hl:cd l=18) :Wg.aJ x (upd tag i l) k more:=by exact ZY
theorem Wg.wQ(F:x.aJ tag k more)(hi:i<k)(bD:i≠0)(hc:cd (tag i)=15)(hl:cd l=17) :Wg.aJ x (upd tag i l) k more:=by exact ZY
theorem Wg.wN(F:x.aJ tag k more)(hi:i<k)(bD:i≠0)(hc:cd (tag i)=17)(hl:cd l=18) :Wg.aJ x (upd tag i l) k more:=by exact ZY
theorem Wg.wK(F:x.aJ tag k more)(hi:i<k)(bD:i≠0)(hc:cd (tag i)=18)(hl:cd l=19) :Wg.aJ x (upd tag i l) k more:=by exact ZY
theorem Wg.wJ(F:x.aJ tag k more)(hi:i<k)(bD:i≠0)(hc:cd (tag i)=19)(hl:cd l=20) :Wg.aJ x (upd tag i l) k more:=by exact ZY
theorem Wg.wI(F:x.aJ tag k more)(hi:i<k)(bD:i≠0)(hc:cd (tag i)=20)(hl:cd l=21) :Wg.aJ x (upd tag i l) k more:=by exact ZY
theorem Wg.wH(F:x.aJ tag k more)(hi:i<k)(bD:i≠0)(hc:cd (tag i)=22)(hl:cd l=23) :Wg.aJ x (upd tag i l) k more:=by obtain⟨f1,f2,f3,f4,f5,f6⟩:=F;have e0:Ct cW (upd tag i l) k+0=Ct cW tag k+0:=ct hi hc hl cW;have e1:Ct cL (upd tag i l) k+1=Ct cL tag k+1:=ct hi hc hl cL;have e2:Ct cE (upd tag i l) k+0=Ct cE tag k+0:=ct hi hc hl cE;have g2:1<=Ct cL tag k:=cl hi hc cL;exact SF
end
end
variable{n0 b q k i:Nat}{l:Loc}{FN:Nat->Prop}{fn:FuncId}{pos:String}{es:Array Event}{x y:MemOp}
open Go.Conc
structure TC where
 M:Nat
 W:Nat
 ch:Nat
 base:Nat
 n0:Nat
 old:Loc->Prop
def dN(b:Nat):Addr:=⟨b,0,none⟩
def TC.Sh(C:TC)(l:Loc):Prop:=∃b,l.gP=some b/\(b=C.M\/b=C.W)
def TC.live(C:TC)(next j:Nat):Prop:=j<next/\(j=0\/C.base<=j)
def GL(n0 b:Nat)(t:Trace)(q:Nat):Prop:=∃r y,n0<=r/\t[r]? = some y/\y.act=.mark (.releaseMerge (dN b))/\t.heard r/\Before t q r
theorem GL.app{t:Trace}(u:Trace)(h:GL n0 b t q):GL n0 b (t++u) q:=by obtain⟨r,y,h1,h2,h3,h4,h5⟩:=h;have hr:=lt_size_of_getElem? h2;exact⟨r,y,h1,by rw[getElem?_append_old hr];exact h2,h3,(heard_old hr).2 h4,h5.app u⟩
structure Tr(C:TC)(next:Nat)(done pl:Nat->Prop)(t:Trace):Prop where
 pos:1<=C.base
 size:C.n0<=t.size
 lU:∀q x,t[q]? = some x->C.n0<=q->x.act≠.mark (.release (dN C.M))/\x.act≠.mark (.release (dN C.W))
 lQ:∀q x a,t[q]? = some x->x.act.touch? = some a->C.Sh a.loc->(a.kind≠.plain/\(a.kind=.said->x.g=0))\/∀j,C.live next j->Knows t j q
 eK:∀q x a b,t[q]? = some x->x.act.touch? = some a->a.loc.gP=some b->pl b->(∀j,C.live next j->Knows t j q)\/GL C.n0 C.M t q
 uF:∀q x a,t[q]? = some x->x.act.touch? = some a->a.loc.isMemory=true->C.base<=x.g->x.g<next->done x.g->(a.kind=.atomic/\C.Sh a.loc/\¬ t.heard q)\/GL C.n0 C.W t q
 early:∀q x a,t[q]? = some x->q<C.n0->x.act.touch? = some a->a.loc.isMemory=true->Knows t 0 q\/(a.kind=.atomic/\C.old a.loc)
 lJ:∀q x,t[q]? = some x->q<C.n0->x.g≠0->t.counts q->∃j y,t[j]? = some y/\y.g=0/\HappensBefore t q j
 uI:∀q x a,t[q]? = some x->C.n0<=q->x.act.touch? = some a->a.loc.isMemory=true->x.g=0\/(C.base<=x.g/\x.g<next)
 t8:∀q x,t[q]? = some x->C.n0<=q->x.act=.mark (.releaseMerge (dN C.M))->C.base<=x.g/\x.g<next/\(done x.g->GL C.n0 C.W t q)
 CF:∀q x a,t[q]? = some x->x.act.touch? = some a->a.loc.gP=some C.ch->Knows t 0 q
section
variable{C:TC}{next:Nat}{done pl:Nat->Prop}{t u:Trace}
def ZnD(C:TC)(next:Nat)(done pl:Nat->Prop)(t:Trace)(q:Nat)(x:MemOp):Prop:=
 (x.act≠.mark (.release (dN C.M))/\x.act≠.mark (.release (dN C.W))/\(x.act=.mark (.releaseMerge (dN C.M))->C.base<=x.g/\x.g<next/\¬ done x.g))/\∀a,x.act.touch? = some a->a.loc.isMemory=true ->
  (x.g=0\/(C.base<=x.g/\x.g<next))/\(C.Sh a.loc->a.kind≠.plain/\(a.kind=.said->x.g=0))/\(∀b,a.loc.gP=some b->¬ pl b)/\(x.g≠0->done x.g->a.kind=.atomic/\C.Sh a.loc/\¬ t.heard q)/\(a.loc.gP=some C.ch->x.g=0)
theorem Zo4(h:C.Sh l):l.isMemory=true:=by obtain⟨b,hb,_⟩:=h;cases l<;>simp[Loc.gP]at hb<;>rfl
theorem Lb(hb:l.gP=some b):l.isMemory=true:=by cases l<;>simp[Loc.gP]at hb<;>rfl
theorem Tr.app(h:Tr C next done pl t)(hu:∀q x,t.size<=q->(t++u)[q]? = some x->ZnD C next done pl (t++u) q x):Tr C next done pl (t++u):=by
 have split:∀{q x},(t++u)[q]? = some x->(q<t.size/\t[q]? = some x)\/ZnD C next done pl (t++u) q x:=by
  intro q x hx;rcases getElem?_append_cases hx with h1 | ⟨h1,_⟩
  ·exact .inl h1
  exact .inr (hu q x h1 hx)
 refine⟨h.pos,qAT h.size (by simp),?_,?_,?_,?_,?_,?_,?_,?_,?_⟩
 ·intro q x hx hq;rcases split hx with⟨_,h1⟩ | h1
  ·exact h.lU q x h1 hq
  exact⟨h1.1.1,h1.1.2.1⟩
 ·intro q x a hx ha hs;rcases split hx with⟨_,h1⟩ | h1
  ·exact(h.lQ q x a h1 ha hs).imp id λhk j hj=>(hk j hj).app u
  exact .inl ((h1.2 a ha (Zo4 hs)).2.1 hs)
 ·intro q x a b hx ha hb hp;rcases split hx with⟨_,h1⟩ | h1
  ·exact(h.eK q x a b h1 ha hb hp).imp (λhk j hj=>(hk j hj).app u) (·.app u)
  exact absurd hp ((h1.2 a ha (Lb hb)).2.2.1 b hb)
 ·intro q x a hx ha hm h1 h2 h3;rcases split hx with⟨hq,h4⟩ | h4
  ·exact(h.uF q x a h4 ha hm h1 h2 h3).imp (λ⟨e1,e2,e3⟩=>⟨e1,e2,λe=>e3 ((heard_old hq).1 e)⟩) (·.app u)
  by_cases hg:x.g=0
  ·have:=h.pos;omega
  exact .inl ((h4.2 a ha hm).2.2.2.1 hg h3)
 ·intro q x a hx hq ha hm;rcases split hx with⟨_,h1⟩ | h1
  ·exact(h.early q x a h1 hq ha hm).imp (·.app u) id
  rcases getElem?_append_cases hx with⟨_,h2⟩ | ⟨h2,_⟩
  ·exact(h.early q x a h2 hq ha hm).imp (·.app u) id
  have:=h.size;omega
 ·intro q x hx hq hg hc;rcases getElem?_append_cases hx with⟨h1,h2⟩ | ⟨h2,_⟩
  ·obtain⟨j,y,h3,h4,h5⟩:=h.lJ q x h2 hq hg ((counts_old h1).1 hc);exact⟨j,y,by rw[getElem?_append_old (lt_size_of_getElem? h3)];exact h3,h4,hb_app u h5⟩
  have:=h.size;omega
 ·intro q x a hx hq ha hm;rcases split hx with⟨_,h1⟩ | h1
  ·exact h.uI q x a h1 hq ha hm
  exact(h1.2 a ha hm).1
 ·intro q x hx hq ha;rcases split hx with⟨_,h1⟩ | h1
  ·obtain⟨h2,h3,h4⟩:=h.t8 q x h1 hq ha;exact⟨h2,h3,λhd=>(h4 hd).app u⟩
  obtain⟨h2,h3,h4⟩:=h1.1.2.2 ha;exact⟨h2,h3,λhd=>absurd hd h4⟩
 intro q x a hx ha hb;rcases split hx with⟨_,h1⟩ | h1
 ·exact(h.CF q x a h1 ha hb).app u
 have h2:=(h1.2 a ha (Lb hb)).2.2.2.2 hb;have:=knows_own hx;rwa [h2]at this
theorem Tr.sub(h:Tr C next done pl t){nJ:Nat->Prop}(hd:∀j,nJ j->done j)(hp:∀b,FN b->pl b):Tr C next nJ FN t:=
 ⟨h.pos,h.size,h.lU,h.lQ,λq x a b h1 h2 h3 h4=>h.eK q x a b h1 h2 h3 (hp b h4),λq x a h1 h2 h3 h4 h5 h6=>h.uF q x a h1 h2 h3 h4 h5 (hd _ h6),h.early,h.lJ,h.uI,λq x h1 h2 h3=>let⟨a,b,e⟩:=h.t8 q x h1 h2 h3;⟨a,b,λh=>e (hd _ h)⟩,h.CF⟩
def FE(C:TC)(i d:Nat)(es:Array Event):Prop:=∀k e,es[k]? = some e ->
 ((MemAct.ofEvent e)≠.mark (.release (dN C.M))/\(MemAct.ofEvent e)≠.mark (.release (dN C.W))/\(MemAct.ofEvent e)≠.mark (.releaseMerge (dN C.M))) /\
 ∀a,(MemAct.ofEvent e).touch? = some a->a.loc.isMemory=true->C.Sh a.loc/\a.kind≠.plain/\(a.kind=.said->i=0)/\(i≠0->a.kind=.atomic/\deafBehind d (es.extract 0 k)≠0)
theorem Ztt(i:Nat)(fn:FuncId)(pos:String)(es:Array Event):(MemOp.ofEvents i fn pos es).size=es.size:=by rw[ofEvents_eq];simp
theorem Ztu(i:Nat)(fn:FuncId)(pos:String)(es:Array Event)(k:Nat):(MemOp.ofEvents i fn pos es)[k]? = (es[k]?).map λe=>{ g:=i,fn,pos,act:=.ofEvent e }:=by rw[ofEvents_eq];simp
theorem Zvz(t:Trace)(i:Nat)(fn:FuncId)(pos:String)(es:Array Event)(hk:k<=es.size):(t++MemOp.ofEvents i fn pos es).deaf i (t.size+k)=deafBehind (Deaf t i) (es.extract 0 k):=by
 have e:es=es.extract 0 k++es.extract k es.size:=by simp[hk]
 have e2:MemOp.ofEvents i fn pos es=MemOp.ofEvents i fn pos (es.extract 0 k)++MemOp.ofEvents i fn pos (es.extract k es.size):=by
  conv=>lhs;rw[e]
  simp only[ofEvents_eq,Array.map_append]
 rw[e2,<-qCV];have hs:(t++MemOp.ofEvents i fn pos (es.extract 0 k)).size=t.size+k:=by rw[Array.size_append,Ztt];simp;omega
 rw[deaf_old (by rw[hs];exact aC _),<-Deaf_own t i fn pos (es.extract 0 k)];unfold Deaf;rw[hs]
theorem ZtE(hq:t.size<=q)(hx:(t++MemOp.ofEvents i fn pos es)[q]? = some x) :
  ∃k e,q=t.size+k/\es[k]? = some e/\x={ g:=i,fn,pos,act:=.ofEvent e }:=by
 rw[Array.getElem?_append_right hq,Ztu]at hx;obtain⟨e,h1,h2⟩:=qAm.1 hx;exact⟨q-t.size,e,O,h1,h2.symm⟩
theorem Zua{α:Type}{xs:Array α}{e:α}(h:xs[k]? = some e):k<xs.size:=(qAl.1 h).1
theorem Tr.tU(h:Tr C next done pl t)(hi:C.live next i)(l8:∀b,pl b->b≠C.M/\b≠C.W)(tD:C.ch≠C.M/\C.ch≠C.W)(he:FE C i (Deaf t i) es) :
  Tr C next done pl (t++MemOp.ofEvents i fn pos es):=by
 refine h.app λq x hq hx=>?_;obtain⟨k,e,rfl,hk,rfl⟩:=ZtE hq hx;obtain⟨h1,h2⟩:=he k e hk;refine⟨⟨h1.1,h1.2.1,λe=>absurd e h1.2.2⟩,λa ha hm=>?_⟩;obtain⟨h3,h4,h5,h6⟩:=h2 a ha hm;refine⟨?_,λ_=>⟨h4,h5⟩,λb hb hp=>?_,λbD _=>?_,λhb=>?_⟩
 ·rcases hi.2 with h0 | h0
  ·exact .inl h0
  exact .inr ⟨h0,hi.1⟩
 ·obtain⟨b',eY,h7⟩:=h3;rw[hb]at eY;obtain rfl:=dO eY;have:=l8 b hp;omega
 ·refine⟨(h6 bD).1,h3,?_⟩;rintro⟨g,hg,hd⟩;have:g=i:=by
   have:(t++MemOp.ofEvents i fn pos es).g? (t.size+k)=some i:=by unfold Trace.g?;rw[hx];rfl
   rw[this]at hg;exact(dO hg).symm
  subst this;rw[Zvz t g fn pos es (Nat.le_of_lt (Zua hk))]at hd;exact(h6 bD).2 hd
 exfalso;obtain⟨b',eY,h7⟩:=h3;rw[hb]at eY;obtain rfl:=dO eY;exact h7.elim tD.1 tD.2
theorem Tr.lone(h:Tr C next done pl t)(hi:C.live next i)(xX:i≠0->¬ done i){Hs:Hp}(hM:Hs C.M≠none)(hW:Hs C.W≠none)(hC:Hs C.ch≠none)(l8:∀b,pl b->Hs b≠none)(hu:∀op∈u,RL i Hs op):Tr C next done pl (t++u):=by
 refine h.app λq x hq hx=>?_;obtain⟨hg,eP⟩:=hu x ((getElem?_append_cases hx).elim (λh=>absurd h.1 (qCh.2 hq)) (·.2));rcases eP with⟨loc,wr,ha,hb⟩ | ⟨f,ha⟩ | ha
 ·refine⟨by rw[ha];simp,λa EO hm=>?_⟩;rw[ha]at EO;simp only[MemAct.touch?,iF]at EO;subst EO;refine⟨?_,λ⟨b,C6,hs⟩=>?_,λb C6 hp=>l8 b hp (hb b C6),λh0 hd=>absurd (by rw[<-hg];exact hd) (xX (by rw[<-hg];exact h0)),λeY=>absurd (hb _ eY) hC⟩
  ·rw[hg];rcases hi.2 with h0 | h0
   ·exact .inl h0
   exact .inr ⟨h0,hi.1⟩
  exfalso;have:=hb b C6;rcases hs with rfl | rfl
  ·exact hM this
  exact hW this
 ·exact⟨by rw[ha];simp,λa EO=>by rw[ha]at EO;simp[MemAct.touch?]at EO⟩
 exact⟨by rw[ha];simp,λa EO=>by rw[ha]at EO;simp[MemAct.touch?]at EO⟩
theorem Tr.gV(h:Tr C next done pl t)(hu:∀op∈u,op.act.touch? = none/\op.act≠.mark (.release (dN C.M))/\op.act≠.mark (.release (dN C.W))/\(op.act=.mark (.releaseMerge (dN C.M))->C.base<=op.g/\op.g<next/\¬ done op.g)):Tr C next done pl (t++u):=by refine h.app λq x hq hx=>?_;obtain⟨h1,h2⟩:=hu x ((getElem?_append_cases hx).elim (λh=>absurd h.1 (qCh.2 hq)) (·.2));exact⟨h2,λa ha=>by rw[h1]at ha;simp at ha⟩
theorem SX(t:Trace)(y:MemOp):(t++#[y])[t.size]? = some y:=by simp
theorem Zmb{t:Trace}(hd:Deaf t y.g=0):(t++#[y]).heard t.size:=
 ⟨y.g,by unfold Trace.g?;rw[SX];rfl,by rw[deaf_old (aC _)];exact hd⟩
theorem Qu{t:Trace}(hn:n0<=t.size)(hy:y.act=.mark (.releaseMerge (dN b)))(hd:Deaf t y.g=0)(hk:Knows t y.g q):GL n0 b (t++#[y]) q:=
 ⟨t.size,y,hn,SX t y,hy,Zmb hd,.inr (hk.hb_new (aC _) (SX t y) rfl)⟩
theorem Tr.release(dG:C.M≠C.W)(h:Tr C next done pl t)(hy:y.act=.mark (.releaseMerge (dN C.W)))(hd:Deaf t y.g=0):Tr C next (λj=>done j\/j=y.g) pl (t++#[y]):=by
 have h0:Tr C next done pl (t++#[y]):=h.gV λop bH=>by simp only[qAb,DO]at bH;rw[bH,hy];exact⟨rfl,by simp,by simp,λe=>absurd e (by simp[dN];exact λe=>dG e.symm)⟩
 refine⟨h0.pos,h0.size,h0.lU,h0.lQ,h0.eK,?_,h0.early,h0.lJ,h0.uI,λq x hx hq ha=>?_,h0.CF⟩;rotate_left
 ·obtain⟨e1,e2,e3⟩:=h0.t8 q x hx hq ha;refine⟨e1,e2,λGD=>GD.elim e3 λh3=>?_⟩;rcases getElem?_append_cases hx with⟨_,eP⟩ | ⟨_,eP⟩
  ·exact Qu h.size hy hd (h3 ▸ knows_own eP)
  simp only[qAb,DO]at eP;rw[eP,hy]at ha;simp[dN]at ha;exact absurd ha.symm dG
 intro q x a hx ha hm h1 h2 h3;rcases h3 with h3 | h3
 ·exact h0.uF q x a hx ha hm h1 h2 h3
 rcases getElem?_append_cases hx with⟨_,eP⟩ | ⟨_,eP⟩
 ·exact .inr (Qu h.size hy hd (h3 ▸ knows_own eP))
 simp only[qAb,DO]at eP;rw[eP,hy]at ha;simp[MemAct.touch?]at ha
theorem Tr.Jo(h:Tr C next done pl t)(hy:y.act=.mark (.releaseMerge (dN C.M)))(hd:Deaf t y.g=0)(Fm:C.base<=y.g/\y.g<next/\¬ done y.g)
  (hp:∀b,FN b->pl b\/∀q x a,t[q]? = some x->x.act.touch? = some a->a.loc.gP=some b->Knows t y.g q):Tr C next done FN (t++#[y]):=by
 have h0:Tr C next done pl (t++#[y]):=h.gV λop bH=>by simp only[qAb,DO]at bH;rw[bH,hy];exact⟨rfl,by simp,by simp,λ_=>Fm⟩
 refine⟨h0.pos,h0.size,h0.lU,h0.lQ,?_,h0.uF,h0.early,h0.lJ,h0.uI,h0.t8,h0.CF⟩;intro q x a b hx ha hb PK;rcases hp b PK with h1 | h1
 ·exact h0.eK q x a b hx ha hb h1
 rcases getElem?_append_cases hx with⟨_,eP⟩ | ⟨_,eP⟩
 ·exact .inr (Qu h.size hy hd (h1 q x a eP ha hb))
 simp only[qAb,DO]at eP;rw[eP,hy]at ha;simp[MemAct.touch?]at ha
theorem Qt{t:Trace}(xW:∀q x,(t++#[y])[q]? = some x->n0<=q->x.act≠.mark (.release (dN b)))(hy:y.act=.mark (.acquire (dN b)))(hd:Deaf t y.g=0)(h:GL n0 b t q):Knows (t++#[y]) y.g q:=by
 obtain⟨r,z,h1,h2,h3,h4,h5⟩:=h;have hr:=lt_size_of_getElem? h2;have uP:(t++#[y])[r]? = some z:=by rw[getElem?_append_old hr];exact h2
 have EW:HappensBefore (t++#[y]) r t.size:=.single (.inr ⟨.marked hr (.inr (by rw[act?_of uP,h3])) (by rw[act?_of (SX t y),hy])
  (λk sY yY e=>by obtain⟨x,hx,gC⟩:=qAm.1 e;exact xW k x hx O gC),(heard_old hr).2 h4,Zmb hd⟩)
 exact⟨t.size,y,SX t y,rfl,.inr ((h5.app #[y]).hb EW)⟩
theorem Tr.take(h:Tr C next done pl t)(hy:y.act=.mark (.acquire (dN C.M)))(hd:Deaf t y.g=0)(hl:C.live next y.g) :
  Tr C next done (λ_=>False) (t++#[y])/\∀b,pl b->∀q x a,(t++#[y])[q]? = some x->x.act.touch? = some a->a.loc.gP=some b->Knows (t++#[y]) y.g q:=by
 have h0:Tr C next done pl (t++#[y]):=h.gV λop bH=>by simp only[qAb,DO]at bH;rw[bH,hy];exact⟨rfl,by simp,by simp,by simp⟩
 refine⟨h0.sub (λ_ h=>h) (λ_ h=>h.elim),λb hp q x a hx ha hb=>?_⟩;rcases getElem?_append_cases hx with⟨hq,eP⟩ | ⟨_,eP⟩
 ·rcases h.eK q x a b eP ha hb hp with hk | hk
  ·exact(hk _ hl).app _
  exact Qt (λq x hx hq=>(h0.lU q x hx hq).1) hy hd hk
 simp only[qAb,DO]at eP;rw[eP,hy]at ha;simp[MemAct.touch?]at ha
theorem Tr.all(h:Tr C next done pl t)(hy:y.act=.mark (.acquire (dN C.W)))(hd:Deaf t y.g=0)(h0:y.g=0)(dY:∀j,C.base<=j->j<next->done j) :
  (∀q x a,(t++#[y])[q]? = some x->x.act.touch? = some a->a.loc.isMemory=true->Knows (t++#[y]) 0 q\/(a.kind=.atomic/\(C.old a.loc\/C.Sh a.loc)))/\(t++#[y]).HandedOver /\
  ∀q x a b,t[q]? = some x->x.act.touch? = some a->a.loc.gP=some b->pl b->0<next->Knows (t++#[y]) 0 q:=by
 have hq:Tr C next done pl (t++#[y]):=h.gV λop bH=>by simp only[qAb,DO]at bH;rw[bH,hy];exact⟨rfl,by simp,by simp,by simp⟩
 have hn:∀a,y.act.touch? = some a->False:=λa ha=>by rw[hy]at ha;simp[MemAct.touch?]at ha
 have key:∀q x a,t[q]? = some x->x.act.touch? = some a->a.loc.isMemory=true->C.n0<=q->Knows (t++#[y]) 0 q\/(a.kind=.atomic/\C.Sh a.loc/\¬ t.heard q):=by
  intro q x a hx ha hm PE;rcases h.uI q x a hx PE ha hm with h1 | ⟨h1,h2⟩
  ·have hk:=knows_own hx;rw[h1]at hk;exact .inl (hk.app _)
  rcases h.uF q x a hx ha hm h1 h2 (dY _ h1 h2)with h3 | h3
  ·exact .inr h3
  exact .inl (h0 ▸ Qt (λq x hx qD=>(hq.lU q x hx qD).2) hy hd h3)
 refine⟨λq x a hx ha hm=>?_,?_,λq x a b hx ha hb hp hn0=>?_⟩;rotate_left 2
 ·rcases h.eK q x a b hx ha hb hp with h1 | ⟨r,z,e1,e2,e3,e4,e5⟩
  ·exact(h1 0 ⟨hn0,.inl rfl⟩).app _
  obtain⟨g1,g2,g3⟩:=h.t8 r z e2 e1 e3;have hk:=Qt (λq x hx qD=>(hq.lU q x hx qD).2) hy hd (g3 (dY _ g1 g2));rw[h0]at hk;exact hk.of_before (e5.app _)
 ·rcases getElem?_append_cases hx with⟨_,eP⟩ | ⟨_,eP⟩
  ·rcases qAH q C.n0 with bV | WC
   ·exact(h.early q x a eP bV ha hm).imp (·.app _) λ⟨e1,e2⟩=>⟨e1,.inl e2⟩
   exact(key q x a eP ha hm WC).imp id λ⟨e1,e2,_⟩=>⟨e1,.inr e2⟩
  simp only[qAb,DO]at eP;rw[eP]at ha;exact(hn a ha).elim
 intro q g hg P8 hc;obtain⟨x,hx,Tq⟩:=qAm.1 hg;obtain⟨a,ha,hm,QF⟩:=hc;have rX:x.act.touch? = some a:=by rw[act?_of hx]at ha;exact ha
 rcases getElem?_append_cases hx with⟨rG,eP⟩ | ⟨_,eP⟩
 ·rcases qAH q C.n0 with bV | WC
  ·obtain⟨j,z,h1,h2,h3⟩:=h.lJ q x eP bV (by rw[Tq];exact P8) ⟨a,by rw[act?_of eP];exact rX,hm,QF.imp id λe=>(heard_old rG).1 e⟩;exact⟨j,by unfold Trace.g?;rw[getElem?_append_old (lt_size_of_getElem? h1),h1];simp[h2],hb_app _ h3⟩
  rcases key q x a eP rX hm WC with h1 | ⟨h1,_,h2⟩
  ·obtain⟨p,z,h3,h4,h5⟩:=h1;rcases h5 with rfl | h5
   ·rw[hx]at h3;obtain rfl:=dO h3;exact absurd (Tq.symm.trans h4) P8
   exact⟨p,by unfold Trace.g?;rw[h3];simp[h4],h5⟩
  exfalso;rcases QF with h3 | h3
  ·exact h3 h1
  exact h2 ((heard_old rG).1 h3)
 simp only[qAb,DO]at eP;rw[eP]at rX;exact(hn a rX).elim
theorem Tr.JD(h:Tr C next done pl t)(hb:C.base<=next)(hx:x.g=0/\x.act=.go next)(hy:y.g=next/\y.act=.start)(h0:Deaf t 0=0)(hk:Deaf t next=0)(hn:0<next):Tr C (next+1) (λj=>done j/\j<next) pl (t++#[x,y]):=by
 have hq:Tr C next done pl (t++#[x,y]):=h.gV λop bH=>by
  simp only[qAb,qAp,qBf,qCl]at bH;rcases bH with rfl | rfl
  ·rw[hx.2];exact⟨rfl,by simp,by simp,by simp⟩
  rw[hy.2];exact⟨rfl,by simp,by simp,by simp⟩
 have rA:∀q,(∀j,C.live next j->Knows t j q)->∀j,C.live (next+1) j->Knows (t++#[x,y]) j q:=by
  intro q gG j hj;rcases qAH j next with h1 | h1
  ·exact(gG j ⟨h1,hj.2⟩).app _
  obtain rfl:j=next:=by have:=hj.1;omega
  exact Go.ConcN.fork_knows hx hy h0 hk (gG 0 ⟨hn,.inl rfl⟩)
 have sS:∀{q:Nat} {z:MemOp} {a:Touch},(t++#[x,y])[q]? = some z->z.act.touch? = some a->t[q]? = some z:=by
  intro q z a hz ha;rcases getElem?_append_cases hz with⟨_,CW⟩ | ⟨_,CW⟩
  ·exact CW
  simp only[qAb,qAp,qBf,qCl]at CW;rcases CW with rfl | rfl
  ·rw[hx.2]at ha;simp[MemAct.touch?]at ha
  rw[hy.2]at ha;simp[MemAct.touch?]at ha
 refine⟨h.pos,hq.size,hq.lU,λq z a hz ha hs=>(h.lQ q z a (sS hz ha) ha hs).imp id (rA q),λq z a b hz ha C6 hp=>(h.eK q z a b (sS hz ha) ha C6 hp).imp (rA q) (·.app _),?_,hq.early,hq.lJ,λq z a hz PE ha hm=>(hq.uI q z a hz PE ha hm).imp id λ⟨h1,h2⟩=>⟨h1,O⟩,λq z hz PE ha=>let⟨a,b,e⟩:=hq.t8 q z hz PE ha;⟨a,O,λh=>e h.1⟩,hq.CF⟩;intro q z a hz ha hm h1 h2 h3;exact hq.uF q z a hz ha hm h1 h3.2 h3.1
theorem Tr.known(h:Tr C next done pl t)(hi:C.live next i){said:Bool}{b:Touch}(hs:C.Sh b.loc)(hk:b.kind≠.plain)(h0:b.kind=.said->i=0){a:Touch}(ha:touchAt t q=some a)(hc:a.conflicts said b):Knows t i q:=by
 obtain⟨x,hx,gC⟩:=touch_of ha;obtain⟨hl,_,_,kL⟩:=hc;rcases h.lQ q x a hx gC (by rw[hl];exact hs)with⟨h1,h2⟩ | h1
 ·rcases kL with h3 | h3 | ⟨_,h3,h4⟩
  ·exact absurd h3 h1
  ·exact absurd h3 hk
  have:=knows_own hx;rw[h2 h3]at this;rw[h0 h4];exact this
 exact h1 i hi
end
