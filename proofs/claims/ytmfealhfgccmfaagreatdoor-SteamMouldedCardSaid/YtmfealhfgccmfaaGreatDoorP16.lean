import Derived.Test.YtmfealhfgccmfaaGreatDoorP06
import Derived.Test.YtmfealhfgccmfaaGreatDoorP15
import Derived.Conc.Own2
import Derived.Conc.SmallLaws
set_option linter.all false
namespace Go.LL
section
variable{n:Nat}{sm:Sem Next}{d:Deferred}
open Go.Conc
open Go.ConcN (sumTo upd sumTo_upd upd_ne upd_same)
def Hp.Less(K H:Hp):Prop:=∀b o pm,K b=some (o,pm)->∃g,H b=some (o,g)/\(pm=true->g=true)
section
variable{p:Program}{c:Cx}{i:Nat}{H:Hp}{s:Ts}{f:FuncId}{wk nr:Bool}
def Zz4(g:Nat->Nat)(tag:Nat->List Nat)(k:Nat)(l:List Nat):Ct g (upd tag k l) (k+1)=Ct g tag k+g (cd l):=by
 have b:Ct g (upd tag k l) k=Ct g tag k:=by unfold Ct;exact Go.ConcN.sumTo_congr λj m=>by rw[upd_ne _ _ O]
 have h:Ct g (upd tag k l) (k+1)=Ct g (upd tag k l) k+g (cd (upd tag k l k)):=rfl;rw[h,b,upd_same]
def fY.LX(h:fY c s)(G:s.tag 0=[33,n])(hn:n<c.K) :
  fY c { s with tag:=upd (upd s.tag 0 [30,n+1]) s.next [1],next:=s.next+1,more:=s.more-1,hd:=upd s.hd s.next 0 }/\s.more-1+s.lK<s.pm:=by
 have hnx:=h.cntN 33 n O G;have Y:=h.num;have F:=h.pos;have W:=h.next0;have T:1<=s.more:=O;obtain⟨m1,m2⟩:=h.mu.main (more:=s.pm) (l:=[30,n+1]) W (by rw[G];simp[cd]) (by simp[cd]);have B:∀g:Nat->Nat,Ct g (upd (upd s.tag 0 [30,n+1]) s.next [1]) (s.next+1)=Ct g (upd s.tag 0 [30,n+1]) s.next+g 1:=λg=>Zz4 g _ _ _;have U:Mu.mu s.mu (s.more-1+s.lK) (upd (upd s.tag 0 [30,n+1]) s.next [1]) (s.next+1)=Mu.mu s.mu s.pm s.tag s.next:=by rw[<-m2];unfold Mu.mu;rw[B];have:lD 1=6:=rfl;show _+6 * (s.more-1+s.lK)=_+6 * (s.more+s.lK);omega
 have u:∀j,j≠0->j≠s.next->upd (upd s.tag 0 [30,n+1]) s.next [1] j=s.tag j:=λj y A=>by rw[upd_ne _ _ A,upd_ne _ _ y]
 have b:upd (upd s.tag 0 [30,n+1]) s.next [1] 0=[30,n+1]:=by rw[upd_ne _ _ O,upd_same]
 have o:upd (upd s.tag 0 [30,n+1]) s.next [1] s.next=[1]:=upd_same _ _ _;refine⟨⟨?_,?_,λj S=>?_,λv=>?_,λk n' hk X=>?_,λj S D=>?_,?_,F,?_,λj y A=>?_,λj y A=>?_,h.lnd,h.lmem,λj y A=>?_,⟨λe=>?_,λe=>?_⟩,h.mle,λj y A=>?_,λj k y A M N Q J=>?_,λq y A M=>?_,λR j y A=>?_,λy=>?_⟩,by show _<s.more+s.lK;omega⟩
 ·obtain⟨L,V,f3,f4,f5,f6⟩:=m1;refine⟨?_,V,f3,f4,?_,?_⟩
  ·rw[B];exact L
  ·rw[B,B,B,B,B];exact f5
  rw[B,B,B,B];exact f6
 ·obtain⟨L,V,f3,f4,f5,f6⟩:=h.wg;have e:∀g:Nat->Nat,g 30=0->g 33=0->Ct g (upd s.tag 0 [30,n+1]) s.next=Ct g s.tag s.next:=by intro g g1 g2;have:=counts (tag:=s.tag) (l:=[30,n+1]) W g;rw[G]at this;have m:g (cd [33,n])=0:=g2;have I:g (cd [30,n+1])=0:=g1;omega
  have eW:=e cW rfl rfl;have eL:=e cL rfl rfl;have Z:=e cE rfl rfl;have gf:=f5 (by rw[G];simp[cd]);rw[G]at L;have m:mP (cd [33,n])=1:=rfl;have I:cW 1=1:=rfl;have e3:cL 1=0:=rfl;have e4:cE 1=0:=rfl;have e5:mP (cd [30,n+1])=0:=rfl;refine⟨?_,?_,?_,?_,?_,?_⟩<;>simp only[b]
  ·rw[B,eW];omega
  ·simp[cd]
  ·simp[cd]
  ·simp[cd]
  ·intro _;rw[B,B,eL,Z];omega
  simp[cd]
 ·simp only[U];by_cases E:j=0
  ·subst E;rw[b];exact Mu.m5 (by simp[cd])
  by_cases m:j=s.next
  ·subst m;rw[o];trivial
  rw[u j E m];exact h.says j (by simp only at S;omega)
 ·simp only[b];simp
 ·simp only[b]at X;simp at X;simp only;omega
 ·by_cases E:j=0
  ·subst E;simp only[b]at D;simp[cd]at D
  by_cases m:j=s.next
  ·subst m;simp only[o]at D;simp[cd]at D
  simp only[u j E m]at D ⊢;exact h.tk j (by simp only at S;omega) D
 ·simp only;omega
 ·simp only;have:=h.nb;omega
 ·have:=h.nb;simp only[u j O O];exact h.olds j y A
 ·by_cases m:j=s.next
  ·subst m;simp only[o];exact⟨by simp[cd],λe=>by simp[cd]at e⟩
  simp only[u j O m];exact h.works j y (by simp only at A;omega)
 ·by_cases m:j=s.next
  ·subst m;simp only[o,upd_same];refine⟨λ_ hm=>?_,λe=>by simp[cd]at e,λe=>by simp[cd]at e⟩;have:=(h.lmem _ hm).1;omega
  simp only[u j O m,upd_ne _ _ m];exact h.lwk j y (by simp only at A;omega)
 ·simp only[upd_ne _ _ (show(0:Nat)≠s.next by omega)];exact h.hd0.1 e
 ·simp only[upd_ne _ _ (show(0:Nat)≠s.next by omega)];exact h.hd0.2 e
 ·by_cases m:j=s.next
  ·subst m;simp only[upd_same];have:=h.mle;omega
  simp only[upd_ne _ _ m];exact h.hdw j y (by simp only at A;omega)
 ·by_cases m:j=s.next
  ·subst m;simp only[upd_same]at Q;omega
  simp only[upd_ne _ _ m]at Q J;by_cases I:k=s.next
  ·subst I;simp only[upd_same]at J;omega
  simp only[upd_ne _ _ I]at J;exact h.hinj j k y (by simp only at A;omega) M (by simp only at N;omega) Q J
 ·rcases h.compl q y A M with N | ⟨j,j1,j2,j3⟩
  ·exact .inl N
  exact .inr ⟨j,j1,by simp only;omega,by simp only[upd_ne _ _ (show j≠s.next by omega)];exact j3⟩
 ·by_cases m:j=s.next
  ·subst m;simp only[o];simp[cd]
  simp only[u j O m];exact h.run R j y (by simp only at A;omega)
 simp only[b]at y;simp[cd]at y
def Tr.Ps{C:TC}{next:Nat}{done A g o:Nat->Prop}{t:Trace}(h:Tr C next done A t)(hd:∀j,j<next->g j->done j)(D:∀b,o b->A b):Tr C next g o t:=
 ⟨h.pos,h.size,h.norel,h.n7,λq x a b k l m u=>h.nN q x a b k l m (D b u),λq x a k l m u y B=>h.uW q x a k l m u y (hd _ y B),h.early,h.nP,h.uY,λq x k l m=>let⟨a,b,e⟩:=h.uS q x k l m;⟨a,b,λh=>e (hd _ b h)⟩,h.chk⟩
abbrev YV(p:Program)(d:Deferred):Frame:={ (default:Frame)with fn:=p.funcs.size,defers:=[d],mode:=.panicking [goexitEntry] }
def ZoF{P:Program}{main:Bool}{j:Frame}{o:Value->Frame}{l:List Frame}{wk nr:Bool}(q:P2 P j o sm wk nr){w k:World}{b:Array Event}(g:∃f c,d.target=.fn f c)(m:sm.runT P w #[]=(.ok (.spawn d) k,b)) :
  stepG P main (gG j l) w=.spawn (gG (o undef) l) (gG (YV P d) []) k (seen P j.fn b):=by
 obtain⟨f,c,g⟩:=g;rcases d with⟨u,args⟩;simp only at g;subst g;rcases q.spawn with h | h
 ·obtain⟨v,k,es,e⟩:=h w;rw[m]at e;simp at e
 exact h _ _ _ _ _ _ _ _ m
theorem Zur(ok:c.Ok)(hd:∃f c,d.target=.fn f c)(hr:∀w,sm.runT p w #[]=(.ok (.spawn d) w,#[]))(hg:H.cg=[33,n])(hn:n<c.K){H' Hc:Hp}(W:H'.Less H)(D:Hc.Less H)(xV:H'.Dis Hc)
  (N1:H'.gh=[H.hd+1,30,n+1]) (Jr:Hc.gh=[1,1]) (RP:Reach ((fX p c).prgW (c.base+n)) Vs (YV p d) [] Hc):Zm ((fX p c).prgM) sm wk nr H (λv K=>v=undef/\K=H'):=by
 intro G I nx cs qB ha hG;refine .iW ⟨VZ (.inl (.inr (by rw[hg];simp[cd]))),λs Hs t w hA=>.inr (.inr (.inl ?_))⟩;obtain⟨k,hI,hD⟩:=Oi hA (by rw[hg];simp[cd]);have xU:s.hd 0=H.hd:=(YO hA (by rw[hg];simp[cd])).2;rw[hg]at k hD;replace hD:Deaf t 0=0:=hD;have AH:=hI.cnt.pos;have SW:0<s.next:=hI.cnt.next0;have hnx:s.next=c.base+n:=hI.cnt.cntN 33 n O k;obtain⟨rA,pS⟩:=hI.cnt.LX k hn;have Wd:Deaf t s.next=0:=hA.above s.next (DO _);let Q:Ts:={ s with tag:=upd (upd s.tag 0 [30,n+1]) s.next [1],next:=s.next+1,more:=s.more-1,hd:=upd s.hd s.next 0 }
 have m:∀j,j≠0->j≠s.next->Q.tag j=s.tag j:=λj W D=>by show upd (upd s.tag 0 [30,n+1]) s.next [1] j=_;rw[upd_ne _ _ D,upd_ne _ _ W]
 have J:Q.tag 0=[30,n+1]:=by show upd (upd s.tag 0 [30,n+1]) s.next [1] 0=_;rw[upd_ne _ _ O,upd_same]
 have L:Q.tag s.next=[1]:=upd_same _ _ _;have hu:Y6 0 s.next I (YV p d) #[]=#[({ g:=0,fn:=I.fn,pos:=I.place,act:=.go s.next }:MemOp),{ g:=s.next,fn:=p.funcs.size,pos:=I.place,act:=.start }]:=by simp[Y6,ZS,ofEvents_eq]
 have X:∀op∈Y6 0 s.next I (YV p d) #[],op.act.touch? = none/\op.act.low w.heap.size:=by intro op u;rw[hu]at u;simp only[qAk,qAi,qBD,qCV]at u;rcases u with rfl | rfl<;>exact V
 have T:∀{K:Hp},K.Less H->K.le w:=λhK b o pm hb=>by obtain⟨U,e,_⟩:=hK b o pm hb;exact hA.le b o U e
 have F:∀{K:Hp},K.Less H->K.Dis Hs:=λhK b x y hx hy=>by
  obtain⟨U,e,e2⟩:=hK b x.1 x.2 hx;obtain⟨e3,e4⟩:=hA.dis b _ _ e hy;have:x.2=false:=by
   cases Y:x.2 with
   | false=>rfl
   | true=>rw[e2 Y]at e4;simp at e4
  simp only at e4;subst e4;exact⟨by rw[<-e3,<-this],this⟩
 have C:∀{K:Hp},K.Less H->lR H Hs w K:=λhK b x hx=>by
  obtain⟨U,e,e2⟩:=hK b x.1 x.2 hx;refine .inr ⟨_,.inl e,λe3=>?_⟩;simp only at e3;subst e3;cases Y:x.2 with
  | false=>rw[<-Y]
  | true=>exact absurd (e2 Y) (by simp)
 have E:∀{K:Hp},K.Less H->iQ t 0 K:=λhK b o pm hb q a hq hl hw=>by obtain⟨U,e,e2⟩:=hK b o pm hb;exact hA.perm b o U e q a hq hl (hw.imp e2 id)
 have l:∀{q:Nat} {a:Touch},touchAt (t++Y6 0 s.next I (YV p d) #[]) q=some a->touchAt t q=some a:=by
  intro q a hq;obtain⟨x,hx,uF⟩:=touch_of hq;rcases getElem?_append_cases hx with⟨_,N⟩ | ⟨_,N⟩
  ·rw[touchAt_of N];exact uF
  rw[(X x N).1]at uF;simp at uF
 refine⟨nx undef,cs,YV p d,w,H',Hc,Q,Hs,#[],?_,?_,⟨T W,F W,C W,?_⟩,⟨T D,F D,C D,?_⟩,xV,λj=>?_,rfl,pS,⟨rfl,λj S hb=>?_⟩,hG _ _ ⟨rfl,rfl⟩,?_,?_,?_⟩
 ·exact(ZoF (P:=p) ha hd (hr w)).trans (by simp[seen])
 ·refine⟨DO _,λ_ _ _ _=>rfl,hA.leS,λb x h=>.inr ⟨x,.inr h,λ_=>rfl⟩,.refl w,?_,?_,λop u=>(X op u).2,?_⟩
  ·intro op u x N b R;rw[(X op u).1]at N;simp at N
  ·intro said q a _ op u b R _;rw[(X op u).1]at R;simp at R
  refine⟨rA,?_,λj S tV=>?_,λSV=>?_,?_⟩
  ·have:=hI.tr.LX hI.cnt.nb (x:={ g:=0,fn:=I.fn,pos:=I.place,act:=.go s.next }) (y:={ g:=s.next,fn:=p.funcs.size,pos:=I.place,act:=.start }) ⟨rfl,rfl⟩ ⟨rfl,rfl⟩ hD Wd SW;rw[<-hu]at this;refine this.Ps (λj hjl S=>?_) (λb R=>R);unfold Vi at S ⊢;by_cases B:j=0
   ·subst B;exact⟨by rw[k];simp[cd],SW⟩
   by_cases M:j=s.next
   ·subst M;rw[L]at S;simp[cd]at S
   rw[m j B M]at S;exact⟨S,O⟩
  ·have hda:∀j,Deaf (t++Y6 0 s.next I (YV p d) #[]) j=Deaf t j:=by intro j;rw[hu,Deaf_append];simp[deafStep]
   show Deaf (t++Y6 0 s.next I (YV p d) #[]) j=_;rw[hda];by_cases B:j=0
   ·subst B;rw[J,hD];rfl
   by_cases M:j=s.next
   ·subst M;rw[L,Wd];rfl
   rw[m j B M]at tV ⊢;exact hI.deaf j ⟨by have:j<s.next+1:=S.1;omega,S.2⟩ tV
  ·rw[J]at SV;simp[cd]at SV
  have vK:Va Q↔Va s:=by
   constructor
   ·rintro⟨j,W,D⟩;by_cases B:j=0
    ·subst B;rw[J]at D;simp[cd]at D
    by_cases M:j=s.next
    ·subst M;rw[L]at D;simp[cd]at D
    rw[m j B M]at D;exact⟨j,by have:j<s.next+1:=W;omega,D⟩
   rintro⟨j,W,D⟩;by_cases B:j=0
   ·subst B;rw[k]at D;simp[cd]at D
   exact⟨j,by show j<s.next+1;omega,by rw[m j B O];exact D⟩
  exact GQ
 ·intro b o pm hb q a hq hl hw;exact(E W b o pm hb q a (l hq) hl hw).app _
 ·intro b o pm hb q a hq hl hw;have:=Go.ConcN.fork_knows (x:={ g:=0,fn:=I.fn,pos:=I.place,act:=.go s.next }) (y:={ g:=s.next,fn:=p.funcs.size,pos:=I.place,act:=.start }) ⟨rfl,rfl⟩ ⟨rfl,rfl⟩ hD Wd (E D b o pm hb q a (l hq) hl hw);rw[<-hu]at this;exact this
 ·show qU (Q.tag j) (Q.hd j) :: Q.tag j=_;by_cases B:j=0
  ·subst B;have:Q.hd 0=H.hd:=by show upd s.hd s.next 0 0=_;rw[upd_ne _ _ O];exact xU
   rw[J,N1,this];simp[qU,cd]
  rw[iF B];by_cases M:j=s.next
  ·subst M;have:Q.hd s.next=0:=upd_same _ _ _;rw[L,Jr,this];exact(qAa rfl).symm
  have:Q.hd j=s.hd j:=upd_ne _ _ M;rw[m j B M,this];exact(iF M).symm
 ·have hb:ZY s j:=hb;show ZY Q j;have S:j<s.next:=S;have B:j≠0:=by rintro rfl;unfold ZY at hb;rw[k]at hb;simp[cd]at hb
  unfold ZY at hb ⊢;rw[m j B O];exact hb
 ·show U2 _;rw[N1];exact .inr (by simp[cd,ZV])
 ·show U2 _;rw[Jr];exact .inl (by simp[cd,ZV])
 have:(fX p c).next s=c.base+n:=hnx;rw[this];exact RP
end
end
variable{t src dst vE:TypeId}{w:World}{sm:Sem Next}{v z:Value}{a:Addr}{ρ:Operand->Value}{r:Nat}
open Go.Conc
open Go.ConcN (sumTo upd sumTo_upd upd_ne upd_same)
section
variable{p:Program}{c:Cx}{i:Nat}{H:Hp}{f:FuncId}{wk nr:Bool}
def Zz3(t:Trace)(i:Nat)(b:Frame)(es:Array Event)(g:es=#[]):t++ZS i b es=t:=by subst g;simp[ZS,ofEvents_eq]
def ZlO{T:VG p}{i:Nat}{H:Hp}{s:T.S}{m:Hp}{t:Trace}(g:gX T i H s m t w){k:Array Event}{l:Frame}{q:Value->Frame}{o:List Frame}(y:P2 p l q sm wk nr)(B:sm.runT p w #[]=(.ok (.value v) w,k))(C:seen p l.fn k=#[])
  {K:Trace->Frame->List Frame->Hp->Prop} (u:K t (q v) o H):Ow T i K l o H s m t w:=by
 have e:t++ZS i l #[]=t:=Zz3 t i l #[] rfl;refine⟨q v,o,w,H,s,m,#[],?_,?_,?_,λj=>?_,rfl,DO _,.inr λj A=>A,.inl rfl,?_⟩
 ·exact(Oz (P:=p) y B).trans (by rw[C])
 ·refine⟨DO _,λ_ _ _ _=>rfl,g.leS,λb x h=>.inr ⟨x,.inr h,λ_=>rfl⟩,.refl w,?_,?_,?_,by rw[e];exact g.inv⟩<;>simp[ZS,ofEvents_eq]
 ·exact⟨g.le,g.dis,λb x h=>.inr ⟨x,.inl h,λ_=>rfl⟩,by rw[e];exact g.perm⟩
 ·split
  ·subst j;exact g.tag
  rfl
 rw[e];exact u
def ZhR{b:Value->Hp->Prop}(k:YI H.cg)(h:∀s j t w,gX (fX p c) i H s j t w->∃v g,sm.runT p w #[]=(.ok (.value v) w,g)/\(∀fn,(nr=true->norace p fn=true)->seen p fn g=#[])/\b v H):Zm ((fX p c).prgW i) sm wk nr H b:=by intro G C D B A m y;refine .iW ⟨VZ (.inl k),.inr (.inl ⟨k,λs j t w l=>.inl ?_⟩)⟩;obtain⟨v,g,o,q,u⟩:=h s j t w l;exact ZlO l m o (q _ m.nr) (.inl ⟨y _ _ u,k⟩)
def Zsw{b:Value->Hp->Prop}(m:30<=cd H.cg)(h:∀s j t w,gX (fX p c) 0 H s j t w->∃v g,sm.runT p w #[]=(.ok (.value v) w,g)/\(∀fn,(nr=true->norace p fn=true)->seen p fn g=#[])/\b v H):Zm ((fX p c).prgM) sm wk nr H b:=by intro G C D B A l y;refine .iW ⟨VZ (.inl (.inr m)),λs j t w k=>.inl ?_⟩;obtain⟨v,g,o,q,u⟩:=h s j t w k;exact ZlO k l o (q _ l.nr) ⟨y _ _ u,.inr m⟩
def Zhz(k:p.underlying src=some (.pointer t))(j:p.underlying dst=some .unsafePointer)(b:(p.info? t).map (λi=>decide (i.size=0))=some false)(h:w.cell? a=some v){x:Operand}(q:ρ x=.pointer (some a)) :
  (execOp ρ (fL (.convert src dst x) vE)).runT p w #[]=(.ok (.value (.pointer (some a))) w,#[]):=by
 have e:execOp ρ (fL (.convert src dst x) vE)=(do pure (.value (<-convert src dst (.pointer (some a)))):Sem Next):=by simp[execOp,fL,q]
 rw[e,Sem.runT_eq];have g:=run_convert_to_unsafe k j b h;have o:=events_convert_to_unsafe k j b h #[];have l:(do pure (.value (<-convert src dst (.pointer (some a)))):Sem Next).run p w=.ok (.value (.pointer (some a))) w:=by simp[g,Result.andThen]
 have m:(do pure (.value (<-convert src dst (.pointer (some a)))):Sem Next).events p w #[]=#[]:=by simp[g,o,Result.evThen,Result.andThen]
 rw[l,m]
structure P3(p:Program)(src dst:TypeId):Prop where
 ex:∃t,p.underlying src=some (.pointer t)/\p.underlying dst=some .unsafePointer/\(p.info? t).map (λi=>decide (i.size=0))=some false
def Yl(ok:c.Ok)(m:P3 p src dst){x:Operand}(u:ρ x=.pointer (some a))(o:a=gZ c.M\/a=gZ c.W)(q:YI H.cg) :
  Zm ((fX p c).prgW i) (execOp ρ (fL (.convert src dst x) vE)) wk nr H (λv h=>v=.pointer (some a)/\h=H):=by
 obtain⟨t,j,k,l⟩:=m.ex;refine ZhR q λs y t w g=>?_;have b:∃v,w.cell? a=some v:=by
  rcases o with rfl | rfl
  ·exact⟨_,(MF ok g).1⟩
  exact⟨_,(Un g).1⟩
 obtain⟨v,b⟩:=b;exact⟨_,_,Zhz j k l b u,λfn _=>by simp[seen],rfl,rfl⟩
def Ln(m:P3 p src dst){x:Operand}(u:ρ x=.pointer (some a))(o:a=gZ c.W\/a=⟨c.W,1,none⟩)(q:30<=cd H.cg) :
  Zm ((fX p c).prgM) (execOp ρ (fL (.convert src dst x) vE)) wk nr H (λv h=>v=.pointer (some a)/\h=H):=by
 obtain⟨t,j,k,l⟩:=m.ex;refine Zsw q λs y t w g=>?_;have b:∃v,w.cell? a=some v:=by
  rcases o with rfl | rfl
  ·exact⟨_,(Un g).1⟩
  exact⟨_,(Un g).2.2.1⟩
 obtain⟨v,b⟩:=b;exact⟨_,_,Zhz j k l b u,λfn _=>by simp[seen],rfl,rfl⟩
def ZuK(ok:c.Ok){ty:TypeId}(b:Ym p ty=some none){x:Operand}(l:ρ x=.pointer (some (gZ c.M)))(j:YI H.cg) :
  Zm ((fX p c).prgW i) (execOp ρ (fL (.load ty x) vE)) wk true H (λ_ g=>g=H):=
 ZhR j λs m t w h=>⟨_,_,Zhy b (MF ok h).1 l,λfn k=>Zhe (k rfl),rfl⟩
def Ziy{g:Array CommCase}{l:CommShape}(j:∀(w:World) (n:Nat),w.heap[r]? = some (.chan 0 #[] false n n false)->sm.runT p w #[]=(.ok (.comm g true l) w,#[])):¬ UI p sm:=by
 intro k;let b:World:={ (default:World)with heap:=Array.replicate (r+1) (.chan 0 #[] false 0 0 false) }
 obtain⟨v,m,es,h⟩:=k b;have:=j b 0 (by simp[b]);rw[h]at this;simp at this
def Zhf{P:Program}{f:FuncId}:seen P f #[]=#[]:=by simp[seen]
def ZoY{b:Value->Hp->Prop}{BE:Bool}(u:(H.cg=[1]/\c.need H.hd=false)\/H.cg=[19])
  (y:∀(w:World) (n:Nat) (j:Bool),w.heap[c.ch]? = some (.chan 0 #[] j n n false)->sm.runT p w #[]=(.ok (.comm #[rcase c.ch z] true (.recv BE)) w,#[]))
  (I:∀m v g,g.gh=[]->H.Dis g->1<=m->m<=c.N->H.hd<m->c.msg m v g->b (recvd BE v true) ((H.join g).tagged ((m+1) :: [1])))
  (J:b (recvd BE z false) (H.tagged [1,19,1])):Zm ((fX p c).prgW i) sm wk nr H b:=by
 have hb:YI H.cg:=.inl (by rcases u with⟨e,_⟩ | e<;>rw[e]<;>simp[cd]);intro G S U B L K q;obtain⟨h,k⟩:=K.comm.resolve_left (Ziy λw n=>y w n false);have l:(fX p c).shut H.gh=[1,19,1]:=rfl;refine .iW ⟨VZ (.inl hb),.inr (.inr (.inr ⟨hb,u,z,BE,λmain w n j M=>?_,λT v g C D E=>?_,?_,?_⟩))⟩
 ·refine(k main B w w _ _ _ _ (y w n j M)).trans ?_;rw[Zhf];rfl
 ·obtain⟨m,rfl,m1,O,R,Q⟩:=E;refine⟨.inl (by simp[cd,ZV]),?_⟩;rw[<-h];exact q _ _ (I m v g C D m1 O R Q)
 ·exact .inl (by simp[fX,cd,ZV])
 rw[<-h,l];exact q _ _ J
def ZoX{b:Value->Hp->Prop}{h j:Hp}(E:h.gh=(r+3) :: [30,c.K])(C:h.Comp j)(k:j.gh=[])(F:c.msg (c.N-r) v j)
  (u:∀(w:World) (n:Nat),w.heap[c.ch]? = some (.chan 0 #[] false n n false)->sm.runT p w #[]=(.ok (.comm #[scase c.ch v z] true .send) w,#[]))
  (I:b undef (h.tagged ((r+2) :: [30,c.K]))):Zm ((fX p c).prgM) sm wk nr (h.join j) b:=by
 have o:(h.join j).gh=(r+3) :: [30,c.K]:=by rw[Hp.gB,k,E];simp
 intro G M Q y D B A;obtain⟨q,m⟩:=B.comm.resolve_left (Ziy λw n=>u w n);refine .iW ⟨by rw[o];simp,λs L t w O=>.inr (.inr (.inr ⟨?_,v,z,(r+2) :: [30,c.K],h,j,λmain w n J=>?_,rfl,C,k,⟨r,o,rfl,F⟩,?_,?_⟩))⟩
 ·show U1 c true (h.join j).gh;rw[o];exact⟨by simp,rfl⟩
 ·refine(m main y w w _ _ _ _ (u w n J)).trans ?_;rw[Zhf];rfl
 ·exact .inr (by simp[cd,ZV])
 rw[<-q];exact A _ _ I
def Zuv(ok:c.Ok){V:Value->Hp->Prop}{n:Nat}(hg:H.gh=[2,30,n])(hs:∀(w:World) (n:Nat),w.heap[c.ch]? = some (.chan 0 #[] false n n false)->sm.runT p w #[]=(.ok (.value v) { w with heap:=w.heap.setIfInBounds c.ch (.chan 0 #[] true n n false) },#[⟨.obj c.ch,false,true⟩,⟨.obj c.ch,true,true⟩]))
  (hp:V v (H.tagged [1,30,n])):Zm ((fX p c).prgM) sm true nr H V:=by
 intro G R nx cs qB ha hG;refine .iW ⟨by rw[hg];simp,λs U t w Q=>.inl ?_⟩;have Wi:H.cg=[30,n]:=by unfold Hp.cg;rw[hg];rfl
 have xU:H.hd=1:=by unfold Hp.hd;rw[hg];rfl
 obtain⟨F,hh⟩:=YO Q (by rw[Wi];simp[cd]);rw[Wi]at F;rw[xU]at hh;have C:ZU c s U t:=Q.inv;have AH:=C.cnt.pos;have Z:0<s.next:=C.cnt.next0;have F2:c.live s.next 0:=⟨Z,.inl rfl⟩;have M:s.cls=false:=by
  cases qB:s.cls with
  | false=>rfl
  | true=>have:=(C.cnt.hd0.1 qB).1;omega
 have SD:s.lK=0:=by have:=C.cnt.hd0.2 M;omega
 have hD:Deaf t 0=0:=by rw[V2 Q (by rw[F];simp[cd]),F];rfl
 obtain⟨SU,SS,LB⟩:=Ly ok Q;have hC:=C.atC ok;have hCw:w.heap[c.ch]? = some (.chan 0 #[] false s.cn s.cn false):=by have:=Q.leS _ _ _ hC;rw[this];unfold UF;rw[M]
 have pS:c.ch<w.heap.size:=Q.leS.lt hC;let w':World:={ w with heap:=w.heap.setIfInBounds c.ch (.chan 0 #[] true s.cn s.cn false) }
 have N:∀b,b≠c.ch->w'.heap[b]? = w.heap[b]?:=λb hb=>qAg (qAo hb);have hat:w'.heap[c.ch]? = some (.chan 0 #[] true s.cn s.cn false):=qAG pS;have xT:w'.heap.size=w.heap.size:=by simp[w']
 let J:Ts:={ s with cls:=true,hd:=upd s.hd 0 0 }
 let K:=U.ins c.ch (UF J)
 have yR:seen p R.fn #[⟨.obj c.ch,false,true⟩,⟨.obj c.ch,true,true⟩]=#[⟨.obj c.ch,false,true⟩,⟨.obj c.ch,true,true⟩]:=by simp[seen]
 have hu:ZS 0 R #[⟨.obj c.ch,false,true⟩,⟨.obj c.ch,true,true⟩]=#[({ g:=0,fn:=R.fn,pos:=R.place,act:=.access ⟨.obj c.ch,false,true⟩ }:MemOp),{ g:=0,fn:=R.fn,pos:=R.place,act:=.close c.ch }]:=by simp[ZS,ofEvents_eq,MemAct.ofEvent]
 have D:∀op∈ZS 0 R #[⟨.obj c.ch,false,true⟩,⟨.obj c.ch,true,true⟩],op.g=0/\(∀a,op.act≠.mark a)/\(∀x,op.act.touch? = some x->x.loc=.obj c.ch/\x.write=false/\x.kind=.atomic)/\∀B,c.ch<B->op.act.low B:=by
  intro op A;rw[hu]at A;simp only[qAk,qAi,qBD,qCV]at A;rcases A with rfl | rfl
  ·refine⟨rfl,by simp,λx hx=>?_,λB hB=>hB⟩;simp[MemAct.touch?]at hx;subst hx;exact⟨rfl,rfl,rfl⟩
  exact⟨rfl,by simp,λx hx=>by simp[MemAct.touch?]at hx,λB hB=>hB⟩
 have SB:(kQ c s).ins c.ch (UF J)=kQ c J:=by
  refine Hp.ext' (λq=>?_) rfl;by_cases e:q=c.ch
  ·subst e;rw[Hp.aQ,P4 ok.BX ok.BW]
  exact T4
 have L:∀j,j≠0->J.hd j=s.hd j:=λj hj=>upd_ne _ _ hj;have rA:fY c J:=by
  refine⟨C.cnt.mu,C.cnt.wg,C.cnt.says,C.cnt.saysM,C.cnt.cntN,C.cnt.tk,C.cnt.num,C.cnt.pos,C.cnt.nb,C.cnt.olds,C.cnt.works,C.cnt.lnd,C.cnt.lmem,λj I E=>?_,⟨λ_=>⟨upd_same s.hd 0 0,SD⟩,λe=>by simp[J]at e⟩,C.cnt.mle,λj I E=>?_,λj k I E h3 h4 h5 h6=>?_,λq I E h3=>?_,λe=>by simp[J]at e,λ_=>rfl⟩
  ·rw[L j O];exact C.cnt.lwk j I E
  ·rw[L j O];exact C.cnt.hdw j I E
  ·rw[L j O]at h5 h6;rw[L k O]at h6;exact C.cnt.hinj j k I E h3 h4 h5 h6
  rcases C.cnt.compl q I E h3 with h4 | ⟨j,j1,j2,j3⟩
  ·exact .inl h4
  exact .inr ⟨j,j1,j2,by rw[L j O];exact j3⟩
 have T:∀j,Deaf (t++ZS 0 R #[⟨.obj c.ch,false,true⟩,⟨.obj c.ch,true,true⟩]) j=Deaf t j:=λj=>ZfT λop A d=>by
  obtain⟨_,E,_⟩:=D op A;obtain⟨g,f',ps,act⟩:=op;cases act with
  | mark m=>exact absurd rfl (E m)
  | _=>rfl
 refine⟨nx v,cs,w',H.tagged [1,30,n],J,K,#[⟨.obj c.ch,false,true⟩,⟨.obj c.ch,true,true⟩],(Oz (P:=p) ha (hs w s.cn hCw)).trans (by rw[yR]),?_,?_,λj=>?_,rfl,DO _,.inl (ha.wake rfl cs),.inr ⟨rfl,ha.wake rfl cs,rfl⟩,hG _ _ hp,?_⟩
 ·refine⟨by rw[xT];exact DO _,λb _ _ hn=>N b (by rintro rfl;exact hn _ hC),?_,?_,⟨.refl _,rfl,rfl⟩,?_,?_,?_,?_⟩
  ·intro b o pm hb;by_cases e:b=c.ch
   ·subst e;rw[hat];have:K c.ch=some (UF J,true):=Hp.aQ _ _ _;rw[this]at hb;simp only[IF,qAX]at hb;rw[<-hb.1];rfl
   rw[N b e];have:K b=U b:=Hp.aR _ _ e;rw[this]at hb;exact Q.leS b o pm hb
  ·intro b x hx;by_cases e:b=c.ch
   ·subst e;exact .inr ⟨_,.inr hC,λh=>by simp at h⟩
   have:K b=U b:=Hp.aR _ _ e;rw[this]at hx;exact .inr ⟨x,.inr hx,λ_=>rfl⟩
  ·intro op A x hx b hb;obtain⟨e1,_,_⟩:=(D op A).2.2.1 x hx;rw[e1]at hb;simp[Loc.j0]at hb;subst hb;exact .inl ⟨_,true,.inr hC,λ_=>rfl⟩
  ·intro said q a W op A b hb hc;obtain⟨e1,_,_⟩:=(D op A).2.2.1 b hb;obtain⟨x,hx,uF⟩:=touch_of W;exact C.tr.chk q x a hx uF (by rw[hc.1,e1];rfl)
  ·intro op A;exact(D op A).2.2.2 _ (by rw[xT];exact pS)
  refine⟨rA,(C.tr.app (u:=ZS 0 R #[⟨.obj c.ch,false,true⟩,⟨.obj c.ch,true,true⟩]) λq x hq hx=>?_).sub (λj hj=>hj) (λb hb=>?_),λj hj tV=>?_,λS=>?_,?_⟩
  ·have A:=(getElem?_append_cases hx).elim (λh=>absurd h.1 (qCX.2 hq)) (·.2);obtain⟨I,E,h3,_⟩:=D x A;refine⟨⟨E _,E _,λe=>absurd e (E _)⟩,λa W hm=>?_⟩;obtain⟨e1,e2,e3⟩:=h3 a W;refine⟨.inl I,λhsh=>?_,λb hb St=>?_,λh=>absurd I h,λ_=>I⟩
   ·exfalso;obtain⟨b,hb,h⟩:=hsh;rw[e1]at hb;simp[Loc.j0]at hb;subst hb;exact h.elim ok.BX ok.BW
   rw[e1]at hb;simp[Loc.j0]at hb;subst hb;exact St.2.2.2 rfl
  ·obtain⟨⟨x,hx⟩,b1,b2,b3⟩:=hb;have:K b=U b:=Hp.aR _ _ b3;rw[this]at hx;exact⟨⟨x,hx⟩,b1,b2,b3⟩
  ·rw[T];exact C.deaf j hj tV
  ·have:s.tag 0=[30,n]:=F;have S:cd (s.tag 0)=40:=S;rw[this]at S;simp[cd]at S
  rcases C.heap with⟨I,E⟩ | ⟨I,Hl,E,h3,h4⟩
  ·exact .inl ⟨I,by show U.ins _ _=_;rw[E];exact SB⟩
  refine .inr ⟨I,Hl,?_,?_,h4⟩
  ·show U.ins _ _=_;rw[E,<-SB];refine Hp.ext' (λq=>?_) rfl;simp only[Hp.iG,Hp.fW];by_cases e:q=c.ch
   ·rw[qAa e,qAa e]
   rw[iF e,iF e]
  exact T0
 ·refine⟨λb o pm hb=>?_,λb x y hx hy=>?_,λb x hb=>.inr ⟨x,.inl hb,λ_=>rfl⟩,Q.perm.own λop A=>.inl (D op A).1⟩
  ·have:b≠c.ch:=by rintro rfl;rw[Hp.mZ,LB]at hb;simp at hb
   rw[N b this];exact Q.le b o pm hb
  have e:b≠c.ch:=by rintro rfl;rw[Hp.mZ,LB]at hx;simp at hx
  have:K b=U b:=Hp.aR _ _ e;rw[this]at hy;exact Q.dis b x y hx hy
 ·show qU (J.tag j) (J.hd j) :: J.tag j=_;by_cases e0:j=0
  ·subst e0;have e1:J.tag 0=[30,n]:=F;have e2:J.hd 0=0:=upd_same s.hd 0 0;rw[qAa rfl,e1,e2];rfl
  rw[iF e0,L j e0];rfl
 exact .inr (by simp[Hp.tagged,cd,ZV])
end
section
variable{P:fP}{d:Option Nat}{next:fG->Hp->Prop}{σ:fG}{H:Hp}{x:Operand}{f:FuncId}{e:Array Value->Sem Value}{aA:Array Operand}{ts:Array TypeId}{ty:TypeId}{vs:List Value}
def iU.QV(h:iU P.toProgram f e):Vo P.toProgram (fL (.call { callee:=.value (.func f),args:=aA,argTypes:=ts }) ty)=true:=by
 obtain⟨fn,b,_,g,_⟩:=h.ex;have:fn.body.isSome=false:=by simpa using g
 simp[Vo,fL,b,this]
def Zf0(g:(aA.toList.all λx=>(σ.get x).isSome)=true):((Op.call { callee:=.value (.func f),args:=aA,argTypes:=ts }).operands.all λx=>(σ.get x).isSome)=true:=by
 rw[qAn];intro x b;simp only[Op.operands,Call.operands]at b;simp only[qAf]at g;simp only[qBa,qAt,qBe,qAk,iO,qAS]at b g;rcases b with rfl | b
 ·rfl
 exact g x b
def Zk(q:iU P.toProgram f e)(l:σ.gets aA.toList=some vs){b:Value->Hp->Prop}(h:Zm P (callFunc f vs.toArray) true false H b)(o:∀v g,b v g->next (σ.set d v) g) :
  (fR.raw (.call { callee:=.value (.func f),args:=aA,argTypes:=ts }) ty).m P d next σ H:=by
 obtain⟨j,k⟩:=Ol l;refine⟨?_,.inr ?_⟩
 ·exact Zf0 k
 rw[Zmk (ρ:=λx=>(σ.get x).getD undef) rfl,q.QV];have:aA.map (λx=>(σ.get x).getD undef)=vs.toArray:=by obtain⟨aA⟩:=aA;simp only[qBS];rw[j]
 rw[this];exact h.mono o
def Og(B:iU P.toProgram f e)(A:σ.gets aA.toList=some vs)(h:fZ P (e vs.toArray) (λv _ b=>next (σ.set d v) b) false H) :
  (fR.raw (.call { callee:=.value (.func f),args:=aA,argTypes:=ts }) ty).m P d next σ H:=by
 obtain⟨u,y⟩:=Ol A;refine⟨?_,.inl ?_⟩
 ·exact Zf0 y
 rw[Zmk (ρ:=λx=>(σ.get x).getD undef) rfl];have:aA.map (λx=>(σ.get x).getD undef)=vs.toArray:=by obtain⟨aA⟩:=aA;simp only[qBS];rw[u]
 rw[this];obtain⟨fn,j,k,l,o,q⟩:=B.ex;simp only[callFunc,Zf,Vw,j,k,l,o,q,oR,qAq,qBb];exact⟨.inl ⟨f,rfl⟩,Vx (λv g H h=>(.inr h:_\/_)) h⟩
def Zfa{o:Op}(g:(o.operands.all λx=>(σ.get x).isSome)=true){Post:Value->Hp->Prop}(h:Zm P (execOp (λx=>(σ.get x).getD undef) (fL o ty)) (Vo P (fL o ty)) false H Post)(j:∀v b,Post v b->next (σ.set d v) b):(fR.raw o ty).m P d next σ H:=
 ⟨g,.inr (h.mono j)⟩
def Z9{g:TypeId}(e:σ.get x=some v){b:Value->Hp->Prop}(h:Zm P (execOp (λx=>(σ.get x).getD undef) (fL (.convert t g x) ty)) (Vo P (fL (.convert t g x) ty)) false H b)(k:∀v j,b v j->next (σ.set d v) j):(fR.raw (.convert t g x) ty).m P d next σ H:=
 ⟨by simp[Op.operands,e],.inr (h.mono k)⟩
def Yj(e:σ.get x=some v){b:Value->Hp->Prop}(h:Zm P (execOp (λx=>(σ.get x).getD undef) (fL (.load t x) ty)) (Vo P (fL (.load t x) ty)) true H b)(j:∀v g,b v g->next (σ.set d v) g):(fR.lV (.load t x) ty).m P d next σ H:=
 ⟨by simp[Op.operands,e],h.mono j⟩
end
