import Derived.Test.YtlhomfgcibjccaaGreatDoorP06
import Derived.Test.YtlhomfgcibjccaaGreatDoorP15
import Derived.Conc.Own2
import Derived.Conc.SmallLaws
set_option linter.all false
namespace Go.LL
section
variable{n:Nat}{sm:Sem Next}{d:Deferred}
open Go.Conc
open Go.ConcN (sumTo upd sumTo_upd upd_ne upd_same)
def Hp.Less(K H:Hp):Prop:=∀b o pm,K b=some (o,pm)->∃g,H b=some (o,g)/\(pm=true->g=true)
section
variable{p:Program}{c:Cx}{i:Nat}{H:Hp}{s:Ts}{f:FuncId}{wk nr:Bool}
def Zy0(g:Nat->Nat)(tag:Nat->List Nat)(k:Nat)(l:List Nat):Ct g (upd tag k l) (k+1)=Ct g tag k+g (cd l):=by
 have b:Ct g (upd tag k l) k=Ct g tag k:=by unfold Ct;exact Go.ConcN.sumTo_congr λj m=>by rw[upd_ne _ _ O]
 have h:Ct g (upd tag k l) (k+1)=Ct g (upd tag k l) k+g (cd (upd tag k l k)):=rfl;rw[h,b,upd_same]
def bP.HN(h:bP c s)(G:s.tag 0=[33,n])(hn:n<c.K) :
  bP c { s with tag:=upd (upd s.tag 0 [30,n+1]) s.next [1],next:=s.next+1,more:=s.more-1,hd:=upd s.hd s.next 0 }/\s.more-1+s.iU<s.pm:=by
 have Ri:=h.cntN 33 n O G;have Y:=h.num;have F:=h.pos;have W:=h.next0;have T:1<=s.more:=O;obtain⟨m1,m2⟩:=h.mu.main (more:=s.pm) (l:=[30,n+1]) W (by rw[G];simp[cd]) (by simp[cd]);have B:∀g:Nat->Nat,Ct g (upd (upd s.tag 0 [30,n+1]) s.next [1]) (s.next+1)=Ct g (upd s.tag 0 [30,n+1]) s.next+g 1:=λg=>Zy0 g _ _ _;have U:Mu.mu s.mu (s.more-1+s.iU) (upd (upd s.tag 0 [30,n+1]) s.next [1]) (s.next+1)=Mu.mu s.mu s.pm s.tag s.next:=by rw[<-m2];unfold Mu.mu;rw[B];have:iP 1=6:=rfl;show _+6 * (s.more-1+s.iU)=_+6 * (s.more+s.iU);omega
 have u:∀j,j≠0->j≠s.next->upd (upd s.tag 0 [30,n+1]) s.next [1] j=s.tag j:=λj y A=>by rw[upd_ne _ _ A,upd_ne _ _ y]
 have b:upd (upd s.tag 0 [30,n+1]) s.next [1] 0=[30,n+1]:=by rw[upd_ne _ _ O,upd_same]
 have o:upd (upd s.tag 0 [30,n+1]) s.next [1] s.next=[1]:=upd_same _ _ _;refine⟨⟨?_,?_,λj S=>?_,λv=>?_,λk n' hk X=>?_,λj S D=>?_,?_,F,?_,λj y A=>?_,λj y A=>?_,h.lnd,h.lmem,λj y A=>?_,⟨λe=>?_,λe=>?_⟩,h.mle,λj y A=>?_,λj k y A M N Q J=>?_,λq y A M=>?_,λR j y A=>?_,λy=>?_⟩,by show _<s.more+s.iU;omega⟩
 ·obtain⟨L,V,f3,f4,f5,f6⟩:=m1;refine⟨?_,V,f3,f4,?_,?_⟩
  ·rw[B];exact L
  ·rw[B,B,B,B,B];exact f5
  rw[B,B,B,B];exact f6
 ·obtain⟨L,V,f3,f4,f5,f6⟩:=h.wg;have e:∀g:Nat->Nat,g 30=0->g 33=0->Ct g (upd s.tag 0 [30,n+1]) s.next=Ct g s.tag s.next:=by intro g g1 g2;have:=counts (tag:=s.tag) (l:=[30,n+1]) W g;rw[G]at this;have m:g (cd [33,n])=0:=g2;have I:g (cd [30,n+1])=0:=g1;omega
  have eW:=e cW rfl rfl;have eL:=e cL rfl rfl;have Z:=e cE rfl rfl;have gf:=f5 (by rw[G];simp[cd]);rw[G]at L;have m:mP (cd [33,n])=1:=rfl;have I:cW 1=1:=rfl;have e3:cL 1=0:=rfl;have e4:cE 1=0:=rfl;have e5:mP (cd [30,n+1])=0:=rfl;refine⟨?_,?_,?_,?_,?_,?_⟩<;>simp only[b]
  ·rw[B,eW];omega
  ·simp[cd]
  ·simp[cd]
  ·simp[cd]
  ·intro _;rw[B,B,eL,Z];omega
  simp[cd]
 ·simp only[U];by_cases E:j=0
  ·subst E;rw[b];exact Mu.kJ (by simp[cd])
  by_cases m:j=s.next
  ·subst m;rw[o];trivial
  rw[u j E m];exact h.says j (by simp only at S;omega)
 ·simp only[b];simp
 ·simp only[b]at X;simp at X;simp only;omega
 ·by_cases E:j=0
  ·subst E;simp only[b]at D;simp[cd]at D
  by_cases m:j=s.next
  ·subst m;simp only[o]at D;simp[cd]at D
  simp only[u j E m]at D ⊢;exact h.tk j (by simp only at S;omega) D
 ·simp only;omega
 ·simp only;have:=h.nb;omega
 ·have:=h.nb;simp only[u j O O];exact h.olds j y A
 ·by_cases m:j=s.next
  ·subst m;simp only[o];exact⟨by simp[cd],λe=>by simp[cd]at e⟩
  simp only[u j O m];exact h.works j y (by simp only at A;omega)
 ·by_cases m:j=s.next
  ·subst m;simp only[o,upd_same];refine⟨λ_ hm=>?_,λe=>by simp[cd]at e,λe=>by simp[cd]at e⟩;have:=(h.lmem _ hm).1;omega
  simp only[u j O m,upd_ne _ _ m];exact h.lwk j y (by simp only at A;omega)
 ·simp only[upd_ne _ _ (show(0:Nat)≠s.next by omega)];exact h.hd0.1 e
 ·simp only[upd_ne _ _ (show(0:Nat)≠s.next by omega)];exact h.hd0.2 e
 ·by_cases m:j=s.next
  ·subst m;simp only[upd_same];have:=h.mle;omega
  simp only[upd_ne _ _ m];exact h.hdw j y (by simp only at A;omega)
 ·by_cases m:j=s.next
  ·subst m;simp only[upd_same]at Q;omega
  simp only[upd_ne _ _ m]at Q J;by_cases I:k=s.next
  ·subst I;simp only[upd_same]at J;omega
  simp only[upd_ne _ _ I]at J;exact h.hinj j k y (by simp only at A;omega) M (by simp only at N;omega) Q J
 ·rcases h.compl q y A M with N | ⟨j,j1,j2,j3⟩
  ·exact .inl N
  exact .inr ⟨j,j1,by simp only;omega,by simp only[upd_ne _ _ (show j≠s.next by omega)];exact j3⟩
 ·by_cases m:j=s.next
  ·subst m;simp only[o];simp[cd]
  simp only[u j O m];exact h.run R j y (by simp only at A;omega)
 simp only[b]at y;simp[cd]at y
def Tr.Cb{C:TC}{next:Nat}{done A g o:Nat->Prop}{t:Trace}(h:Tr C next done A t)(hd:∀j,j<next->g j->done j)(D:∀b,o b->A b):Tr C next g o t:=
 ⟨h.pos,h.size,h.norel,h.l7,λq x a b k l m u=>h.lF q x a b k l m (D b u),λq x a k l m u y B=>h.vD q x a k l m u y (hd _ y B),h.early,h.lI,h.vF,λq x k l m=>let⟨a,b,e⟩:=h.u7 q x k l m;⟨a,b,λh=>e (hd _ b h)⟩,h.chk⟩
abbrev YJ(p:Program)(d:Deferred):Frame:={ (default:Frame)with fn:=p.funcs.size,defers:=[d],mode:=.panicking [goexitEntry] }
def Zor{P:Program}{main:Bool}{j:Frame}{o:Value->Frame}{l:List Frame}{wk nr:Bool}(q:KV P j o sm wk nr){w k:World}{b:Array Event}(g:∃f c,d.target=.fn f c)(m:sm.runT P w #[]=(.ok (.spawn d) k,b)) :
  stepG P main (cV j l) w=.spawn (cV (o undef) l) (cV (YJ P d) []) k (seen P j.fn b):=by
 obtain⟨f,c,g⟩:=g;rcases d with⟨u,args⟩;simp only at g;subst g;rcases q.spawn with h | h
 ·obtain⟨v,k,es,e⟩:=h w;rw[m]at e;simp at e
 exact h _ _ _ _ _ _ _ _ m
theorem ZtL(ok:c.Ok)(hd:∃f c,d.target=.fn f c)(hr:∀w,sm.runT p w #[]=(.ok (.spawn d) w,#[]))(hg:H.cg=[33,n])(hn:n<c.K){H' Hc:Hp}(W:H'.Less H)(D:Hc.Less H)(yN:H'.Dis Hc)
  (KD:H'.gh=[H.hd+1,30,n+1]) (S6:Hc.gh=[1,1]) (M0:Reach ((bO p c).prgW (c.base+n)) Vg (YJ p d) [] Hc):Zk ((bO p c).prgM) sm wk nr H (λv K=>v=undef/\K=H'):=by
 intro G I nx cs jQ ha hG;refine .eZ ⟨VR (.inl (.inr (by rw[hg];simp[cd]))),λs Hs t w hA=>.inr (.inr (.inl ?_))⟩;obtain⟨k,hI,hD⟩:=Oa hA (by rw[hg];simp[cd]);have uT:s.hd 0=H.hd:=(YD hA (by rw[hg];simp[cd])).2;rw[hg]at k hD;replace hD:Deaf t 0=0:=hD;have vJ:=hI.cnt.pos;have EB:0<s.next:=hI.cnt.next0;have Ri:s.next=c.base+n:=hI.cnt.cntN 33 n O k;obtain⟨uA,nF⟩:=hI.cnt.HN k hn;have Fz:Deaf t s.next=0:=hA.above s.next (dO _);let Q:Ts:={ s with tag:=upd (upd s.tag 0 [30,n+1]) s.next [1],next:=s.next+1,more:=s.more-1,hd:=upd s.hd s.next 0 }
 have m:∀j,j≠0->j≠s.next->Q.tag j=s.tag j:=λj W D=>by show upd (upd s.tag 0 [30,n+1]) s.next [1] j=_;rw[upd_ne _ _ D,upd_ne _ _ W]
 have J:Q.tag 0=[30,n+1]:=by show upd (upd s.tag 0 [30,n+1]) s.next [1] 0=_;rw[upd_ne _ _ O,upd_same]
 have L:Q.tag s.next=[1]:=upd_same _ _ _;have hu:YW 0 s.next I (YJ p d) #[]=#[({ g:=0,fn:=I.fn,pos:=I.place,act:=.go s.next }:MemOp),{ g:=s.next,fn:=p.funcs.size,pos:=I.place,act:=.start }]:=by simp[YW,ZI,ofEvents_eq]
 have X:∀op∈YW 0 s.next I (YJ p d) #[],op.act.touch? = none/\op.act.low w.heap.size:=by intro op u;rw[hu]at u;simp only[qAv,qAq,qCf,qDz]at u;rcases u with rfl | rfl<;>exact V
 have T:∀{K:Hp},K.Less H->K.le w:=λhK b o pm hb=>by obtain⟨U,e,_⟩:=hK b o pm hb;exact hA.le b o U e
 have F:∀{K:Hp},K.Less H->K.Dis Hs:=λhK b x y hx hy=>by
  obtain⟨U,e,e2⟩:=hK b x.1 x.2 hx;obtain⟨e3,e4⟩:=hA.dis b _ _ e hy;have:x.2=false:=by
   cases Y:x.2 with
   | false=>rfl
   | true=>rw[e2 Y]at e4;simp at e4
  simp only at e4;subst e4;exact⟨by rw[<-e3,<-this],this⟩
 have C:∀{K:Hp},K.Less H->jD H Hs w K:=λhK b x hx=>by
  obtain⟨U,e,e2⟩:=hK b x.1 x.2 hx;refine .inr ⟨_,.inl e,λe3=>?_⟩;simp only at e3;subst e3;cases Y:x.2 with
  | false=>rw[<-Y]
  | true=>exact absurd (e2 Y) (by simp)
 have E:∀{K:Hp},K.Less H->eU t 0 K:=λhK b o pm hb q a hq hl hw=>by obtain⟨U,e,e2⟩:=hK b o pm hb;exact hA.perm b o U e q a hq hl (hw.imp e2 id)
 have l:∀{q:Nat} {a:Touch},touchAt (t++YW 0 s.next I (YJ p d) #[]) q=some a->touchAt t q=some a:=by
  intro q a hq;obtain⟨x,hx,qV⟩:=touch_of hq;rcases getElem?_append_cases hx with⟨_,N⟩ | ⟨_,N⟩
  ·rw[touchAt_of N];exact qV
  rw[(X x N).1]at qV;simp at qV
 refine⟨nx undef,cs,YJ p d,w,H',Hc,Q,Hs,#[],?_,?_,⟨T W,F W,C W,?_⟩,⟨T D,F D,C D,?_⟩,yN,λj=>?_,rfl,nF,⟨rfl,λj S hb=>?_⟩,hG _ _ ⟨rfl,rfl⟩,?_,?_,?_⟩
 ·exact(Zor (P:=p) ha hd (hr w)).trans (by simp[seen])
 ·refine⟨dO _,λ_ _ _ _=>rfl,hA.leS,λb x h=>.inr ⟨x,.inr h,λ_=>rfl⟩,.refl w,?_,?_,λop u=>(X op u).2,?_⟩
  ·intro op u x N b R;rw[(X op u).1]at N;simp at N
  ·intro said q a _ op u b R _;rw[(X op u).1]at R;simp at R
  refine⟨uA,?_,λj S wT=>?_,λHL=>?_,?_⟩
  ·have:=hI.tr.HN hI.cnt.nb (x:={ g:=0,fn:=I.fn,pos:=I.place,act:=.go s.next }) (y:={ g:=s.next,fn:=p.funcs.size,pos:=I.place,act:=.start }) ⟨rfl,rfl⟩ ⟨rfl,rfl⟩ hD Fz EB;rw[<-hu]at this;refine this.Cb (λj hjl S=>?_) (λb R=>R);unfold Y6 at S ⊢;by_cases B:j=0
   ·subst B;exact⟨by rw[k];simp[cd],EB⟩
   by_cases M:j=s.next
   ·subst M;rw[L]at S;simp[cd]at S
   rw[m j B M]at S;exact⟨S,O⟩
  ·have hda:∀j,Deaf (t++YW 0 s.next I (YJ p d) #[]) j=Deaf t j:=by intro j;rw[hu,Deaf_append];simp[deafStep]
   show Deaf (t++YW 0 s.next I (YJ p d) #[]) j=_;rw[hda];by_cases B:j=0
   ·subst B;rw[J,hD];rfl
   by_cases M:j=s.next
   ·subst M;rw[L,Fz];rfl
   rw[m j B M]at wT ⊢;exact hI.deaf j ⟨by have:j<s.next+1:=S.1;omega,S.2⟩ wT
  ·rw[J]at HL;simp[cd]at HL
  have uP:YZ Q↔YZ s:=by
   constructor
   ·rintro⟨j,W,D⟩;by_cases B:j=0
    ·subst B;rw[J]at D;simp[cd]at D
    by_cases M:j=s.next
    ·subst M;rw[L]at D;simp[cd]at D
    rw[m j B M]at D;exact⟨j,by have:j<s.next+1:=W;omega,D⟩
   rintro⟨j,W,D⟩;by_cases B:j=0
   ·subst B;rw[k]at D;simp[cd]at D
   exact⟨j,by show j<s.next+1;omega,by rw[m j B O];exact D⟩
  exact hI.heap.imp (λ⟨a,b⟩=>⟨uP.2 a,b⟩) λ⟨a,Hl,b,cc,d⟩=>⟨λh=>a (uP.1 h),Hl,b,cc,d⟩
 ·intro b o pm hb q a hq hl hw;exact(E W b o pm hb q a (l hq) hl hw).app _
 ·intro b o pm hb q a hq hl hw;have:=Go.ConcN.fork_knows (x:={ g:=0,fn:=I.fn,pos:=I.place,act:=.go s.next }) (y:={ g:=s.next,fn:=p.funcs.size,pos:=I.place,act:=.start }) ⟨rfl,rfl⟩ ⟨rfl,rfl⟩ hD Fz (E D b o pm hb q a (l hq) hl hw);rw[<-hu]at this;exact this
 ·show pL (Q.tag j) (Q.hd j) :: Q.tag j=_;by_cases B:j=0
  ·subst B;have:Q.hd 0=H.hd:=by show upd s.hd s.next 0 0=_;rw[upd_ne _ _ O];exact uT
   rw[J,KD,this];simp[pL,cd]
  rw[aT B];by_cases M:j=s.next
  ·subst M;have:Q.hd s.next=0:=upd_same _ _ _;rw[L,S6,this];exact(iF rfl).symm
  have:Q.hd j=s.hd j:=upd_ne _ _ M;rw[m j B M,this];exact(aT M).symm
 ·have hb:ZQ s j:=hb;show ZQ Q j;have S:j<s.next:=S;have B:j≠0:=by rintro rfl;unfold ZQ at hb;rw[k]at hb;simp[cd]at hb
  unfold ZQ at hb ⊢;rw[m j B O];exact hb
 ·show UW _;rw[KD];exact .inr (by simp[cd,ZN])
 ·show UW _;rw[S6];exact .inl (by simp[cd,ZN])
 have:(bO p c).next s=c.base+n:=Ri;rw[this];exact M0
end
end
variable{t src dst wI:TypeId}{w:World}{sm:Sem Next}{v z:Value}{a:Addr}{ρ:Operand->Value}{r:Nat}
open Go.Conc
open Go.ConcN (sumTo upd sumTo_upd upd_ne upd_same)
section
variable{p:Program}{c:Cx}{i:Nat}{H:Hp}{f:FuncId}{wk nr:Bool}
def ZyZ(t:Trace)(i:Nat)(b:Frame)(es:Array Event)(g:es=#[]):t++ZI i b es=t:=by subst g;simp[ZI,ofEvents_eq]
def Zl2{T:Vy p}{i:Nat}{H:Hp}{s:T.S}{m:Hp}{t:Trace}(g:dY T i H s m t w){k:Array Event}{l:Frame}{q:Value->Frame}{o:List Frame}(y:KV p l q sm wk nr)(B:sm.runT p w #[]=(.ok (.value v) w,k))(C:seen p l.fn k=#[])
  {K:Trace->Frame->List Frame->Hp->Prop} (u:K t (q v) o H):On T i K l o H s m t w:=by
 have e:t++ZI i l #[]=t:=ZyZ t i l #[] rfl;refine⟨q v,o,w,H,s,m,#[],?_,?_,?_,λj=>?_,rfl,dO _,.inr λj A=>A,.inl rfl,?_⟩
 ·exact(Ot (P:=p) y B).trans (by rw[C])
 ·refine⟨dO _,λ_ _ _ _=>rfl,g.leS,λb x h=>.inr ⟨x,.inr h,λ_=>rfl⟩,.refl w,?_,?_,?_,by rw[e];exact g.inv⟩<;>simp[ZI,ofEvents_eq]
 ·exact⟨g.le,g.dis,λb x h=>.inr ⟨x,.inl h,λ_=>rfl⟩,by rw[e];exact g.perm⟩
 ·split
  ·subst j;exact g.tag
  rfl
 rw[e];exact u
def ZhR{b:Value->Hp->Prop}(k:Yw H.cg)(h:∀s j t w,dY (bO p c) i H s j t w->∃v g,sm.runT p w #[]=(.ok (.value v) w,g)/\(∀fn,(nr=true->norace p fn=true)->seen p fn g=#[])/\b v H):Zk ((bO p c).prgW i) sm wk nr H b:=by intro G C D B A m y;refine .eZ ⟨VR (.inl k),.inr (.inl ⟨k,λs j t w l=>.inl ?_⟩)⟩;obtain⟨v,g,o,q,u⟩:=h s j t w l;exact Zl2 l m o (q _ m.nr) (.inl ⟨y _ _ u,k⟩)
def Zsc{b:Value->Hp->Prop}(m:30<=cd H.cg)(h:∀s j t w,dY (bO p c) 0 H s j t w->∃v g,sm.runT p w #[]=(.ok (.value v) w,g)/\(∀fn,(nr=true->norace p fn=true)->seen p fn g=#[])/\b v H):Zk ((bO p c).prgM) sm wk nr H b:=by intro G C D B A l y;refine .eZ ⟨VR (.inl (.inr m)),λs j t w k=>.inl ?_⟩;obtain⟨v,g,o,q,u⟩:=h s j t w k;exact Zl2 k l o (q _ l.nr) ⟨y _ _ u,.inr m⟩
def ZhA(k:p.underlying src=some (.pointer t))(j:p.underlying dst=some .unsafePointer)(b:(p.info? t).map (λi=>decide (i.size=0))=some false)(h:w.cell? a=some v){x:Operand}(q:ρ x=.pointer (some a)) :
  (execOp ρ (aR (.convert src dst x) wI)).runT p w #[]=(.ok (.value (.pointer (some a))) w,#[]):=by
 have e:execOp ρ (aR (.convert src dst x) wI)=(do pure (.value (<-convert src dst (.pointer (some a)))):Sem Next):=by simp[execOp,aR,q]
 rw[e,Sem.runT_eq];have g:=run_convert_to_unsafe k j b h;have o:=events_convert_to_unsafe k j b h #[];have l:(do pure (.value (<-convert src dst (.pointer (some a)))):Sem Next).run p w=.ok (.value (.pointer (some a))) w:=by simp[g,Result.andThen]
 have m:(do pure (.value (<-convert src dst (.pointer (some a)))):Sem Next).events p w #[]=#[]:=by simp[g,o,Result.evThen,Result.andThen]
 rw[l,m]
structure KX(p:Program)(src dst:TypeId):Prop where
 ex:∃t,p.underlying src=some (.pointer t)/\p.underlying dst=some .unsafePointer/\(p.info? t).map (λi=>decide (i.size=0))=some false
def UU(ok:c.Ok)(m:KX p src dst){x:Operand}(u:ρ x=.pointer (some a))(o:a=dZ c.M\/a=dZ c.W)(q:Yw H.cg) :
  Zk ((bO p c).prgW i) (execOp ρ (aR (.convert src dst x) wI)) wk nr H (λv h=>v=.pointer (some a)/\h=H):=by
 obtain⟨t,j,k,l⟩:=m.ex;refine ZhR q λs y t w g=>?_;have b:∃v,w.cell? a=some v:=by
  rcases o with rfl | rfl
  ·exact⟨_,(IT ok g).1⟩
  exact⟨_,(Ug g).1⟩
 obtain⟨v,b⟩:=b;exact⟨_,_,ZhA j k l b u,λfn _=>by simp[seen],rfl,rfl⟩
def XZ(m:KX p src dst){x:Operand}(u:ρ x=.pointer (some a))(o:a=dZ c.W\/a=⟨c.W,1,none⟩)(q:30<=cd H.cg) :
  Zk ((bO p c).prgM) (execOp ρ (aR (.convert src dst x) wI)) wk nr H (λv h=>v=.pointer (some a)/\h=H):=by
 obtain⟨t,j,k,l⟩:=m.ex;refine Zsc q λs y t w g=>?_;have b:∃v,w.cell? a=some v:=by
  rcases o with rfl | rfl
  ·exact⟨_,(Ug g).1⟩
  exact⟨_,(Ug g).2.2.1⟩
 obtain⟨v,b⟩:=b;exact⟨_,_,ZhA j k l b u,λfn _=>by simp[seen],rfl,rfl⟩
def Zt0(ok:c.Ok){ty:TypeId}(b:Yd p ty=some none){x:Operand}(l:ρ x=.pointer (some (dZ c.M)))(j:Yw H.cg) :
  Zk ((bO p c).prgW i) (execOp ρ (aR (.load ty x) wI)) wk true H (λ_ g=>g=H):=
 ZhR j λs m t w h=>⟨_,_,Zhz b (IT ok h).1 l,λfn k=>Zhi (k rfl),rfl⟩
def ZiX{g:Array CommCase}{l:CommShape}(j:∀(w:World) (n:Nat),w.heap[r]? = some (.chan 0 #[] false n n false)->sm.runT p w #[]=(.ok (.comm g true l) w,#[])):¬ Uz p sm:=by
 intro k;let b:World:={ (default:World)with heap:=Array.replicate (r+1) (.chan 0 #[] false 0 0 false) }
 obtain⟨v,m,es,h⟩:=k b;have:=j b 0 (by simp[b]);rw[h]at this;simp at this
def Zhj{P:Program}{f:FuncId}:seen P f #[]=#[]:=by simp[seen]
def ZoM{b:Value->Hp->Prop}{BX:Bool}(u:(H.cg=[1]/\c.need H.hd=false)\/H.cg=[19])
  (y:∀(w:World) (n:Nat) (j:Bool),w.heap[c.ch]? = some (.chan 0 #[] j n n false)->sm.runT p w #[]=(.ok (.comm #[rcase c.ch z] true (.recv BX)) w,#[]))
  (I:∀m v g,g.gh=[]->H.Dis g->1<=m->m<=c.N->H.hd<m->c.msg m v g->b (recvd BX v true) ((H.join g).tagged ((m+1) :: [1])))
  (J:b (recvd BX z false) (H.tagged [1,19,1])):Zk ((bO p c).prgW i) sm wk nr H b:=by
 have hb:Yw H.cg:=.inl (by rcases u with⟨e,_⟩ | e<;>rw[e]<;>simp[cd]);intro G S U B L K q;obtain⟨h,k⟩:=K.comm.resolve_left (ZiX λw n=>y w n false);have l:(bO p c).shut H.gh=[1,19,1]:=rfl;refine .eZ ⟨VR (.inl hb),.inr (.inr (.inr ⟨hb,u,z,BX,λmain w n j M=>?_,λT v g C D E=>?_,?_,?_⟩))⟩
 ·refine(k main B w w _ _ _ _ (y w n j M)).trans ?_;rw[Zhj];rfl
 ·obtain⟨m,rfl,m1,O,R,Q⟩:=E;refine⟨.inl (by simp[cd,ZN]),?_⟩;rw[<-h];exact q _ _ (I m v g C D m1 O R Q)
 ·exact .inl (by simp[bO,cd,ZN])
 rw[<-h,l];exact q _ _ J
def ZoL{b:Value->Hp->Prop}{h j:Hp}(E:h.gh=(r+3) :: [30,c.K])(C:h.Comp j)(k:j.gh=[])(F:c.msg (c.N-r) v j)
  (u:∀(w:World) (n:Nat),w.heap[c.ch]? = some (.chan 0 #[] false n n false)->sm.runT p w #[]=(.ok (.comm #[scase c.ch v z] true .send) w,#[]))
  (I:b undef (h.tagged ((r+2) :: [30,c.K]))):Zk ((bO p c).prgM) sm wk nr (h.join j) b:=by
 have o:(h.join j).gh=(r+3) :: [30,c.K]:=by rw[Hp.bZ,k,E];simp
 intro G M Q y D B A;obtain⟨q,m⟩:=B.comm.resolve_left (ZiX λw n=>u w n);refine .eZ ⟨by rw[o];simp,λs L t w O=>.inr (.inr (.inr ⟨?_,v,z,(r+2) :: [30,c.K],h,j,λmain w n J=>?_,rfl,C,k,⟨r,o,rfl,F⟩,?_,?_⟩))⟩
 ·show UV c true (h.join j).gh;rw[o];exact⟨by simp,rfl⟩
 ·refine(m main y w w _ _ _ _ (u w n J)).trans ?_;rw[Zhj];rfl
 ·exact .inr (by simp[cd,ZN])
 rw[<-q];exact A _ _ I
def ZtP(ok:c.Ok){Post:Value->Hp->Prop}{n:Nat}(hg:H.gh=[2,30,n])(hs:∀(w:World) (n:Nat),w.heap[c.ch]? = some (.chan 0 #[] false n n false)->sm.runT p w #[]=(.ok (.value v) { w with heap:=w.heap.setIfInBounds c.ch (.chan 0 #[] true n n false) },#[⟨.obj c.ch,false,true⟩,⟨.obj c.ch,true,true⟩]))
  (hp:Post v (H.tagged [1,30,n])):Zk ((bO p c).prgM) sm true nr H Post:=by
 intro G U nx cs jQ ha hG;refine .eZ ⟨by rw[hg];simp,λs Hs t w T=>.inl ?_⟩;have Gd:H.cg=[30,n]:=by unfold Hp.cg;rw[hg];rfl
 have uT:H.hd=1:=by unfold Hp.hd;rw[hg];rfl
 obtain⟨I,hh⟩:=YD T (by rw[Gd];simp[cd]);rw[Gd]at I;rw[uT]at hh;have C:ZL c s Hs t:=T.inv;have vJ:=C.cnt.pos;have EB:0<s.next:=C.cnt.next0;have FF:c.live s.next 0:=⟨EB,.inl rfl⟩;have R:s.cls=false:=by
  cases jQ:s.cls with
  | false=>rfl
  | true=>have:=(C.cnt.hd0.1 jQ).1;omega
 have NC:s.iU=0:=by have:=C.cnt.hd0.2 R;omega
 have hD:Deaf t 0=0:=by rw[VT T (by rw[I];simp[cd]),I];rfl
 obtain⟨KG,KF,FO⟩:=XL ok T;have hC:=C.atC ok;have hCw:w.heap[c.ch]? = some (.chan 0 #[] false s.cn s.cn false):=by have:=T.leS _ _ _ hC;rw[this];unfold Uw;rw[R]
 have nF:c.ch<w.heap.size:=T.leS.lt hC;let w':World:={ w with heap:=w.heap.setIfInBounds c.ch (.chan 0 #[] true s.cn s.cn false) }
 have S:∀b,b≠c.ch->w'.heap[b]? = w.heap[b]?:=λb hb=>qAu (qAF hb);have hat:w'.heap[c.ch]? = some (.chan 0 #[] true s.cn s.cn false):=qAO nF;have yH:w'.heap.size=w.heap.size:=by simp[w']
 let K:Ts:={ s with cls:=true,hd:=upd s.hd 0 0 }
 let L:=Hs.ins c.ch (Uw K)
 have yM:seen p U.fn #[⟨.obj c.ch,false,true⟩,⟨.obj c.ch,true,true⟩]=#[⟨.obj c.ch,false,true⟩,⟨.obj c.ch,true,true⟩]:=by simp[seen]
 have hu:ZI 0 U #[⟨.obj c.ch,false,true⟩,⟨.obj c.ch,true,true⟩]=#[({ g:=0,fn:=U.fn,pos:=U.place,act:=.access ⟨.obj c.ch,false,true⟩ }:MemOp),{ g:=0,fn:=U.fn,pos:=U.place,act:=.close c.ch }]:=by simp[ZI,ofEvents_eq,MemAct.ofEvent]
 have E:∀op∈ZI 0 U #[⟨.obj c.ch,false,true⟩,⟨.obj c.ch,true,true⟩],op.g=0/\(∀a,op.act≠.mark a)/\(∀x,op.act.touch? = some x->x.loc=.obj c.ch/\x.write=false/\x.kind=.atomic)/\∀B,c.ch<B->op.act.low B:=by
  intro op A;rw[hu]at A;simp only[qAv,qAq,qCf,qDz]at A;rcases A with rfl | rfl
  ·refine⟨rfl,by simp,λx D=>?_,λB hB=>hB⟩;simp[MemAct.touch?]at D;subst D;exact⟨rfl,rfl,rfl⟩
  exact⟨rfl,by simp,λx D=>by simp[MemAct.touch?]at D,λB hB=>hB⟩
 have M9:(gZ c s).ins c.ch (Uw K)=gZ c K:=by
  refine Hp.ext' (λq=>?_) rfl;by_cases e:q=c.ch
  ·subst e;rw[Hp.aG,I0 ok.neM ok.neW]
  rw[Hp.aH _ _ e];unfold gZ;by_cases Q:q=c.W
  ·subst Q;rw[Hp.aG,Hp.aG]
  rw[Hp.aH _ _ Q,Hp.aH _ _ Q];by_cases e2:q=c.M
  ·subst e2;rw[Hp.aG,Hp.aG]
  rw[Hp.aH _ _ e2,Hp.aH _ _ e2,Hp.aH _ _ e,Hp.aH _ _ e]
 have N:∀j,j≠0->K.hd j=s.hd j:=λj hj=>upd_ne _ _ hj;have uA:bP c K:=by
  refine⟨C.cnt.mu,C.cnt.wg,C.cnt.says,C.cnt.saysM,C.cnt.cntN,C.cnt.tk,C.cnt.num,C.cnt.pos,C.cnt.nb,C.cnt.olds,C.cnt.works,C.cnt.lnd,C.cnt.lmem,λj J F=>?_,⟨λ_=>⟨upd_same s.hd 0 0,NC⟩,λe=>by simp[K]at e⟩,C.cnt.mle,λj J F=>?_,λj k J F V h4 h5 h6=>?_,λq J F V=>?_,λe=>by simp[K]at e,λ_=>rfl⟩
  ·rw[N j O];exact C.cnt.lwk j J F
  ·rw[N j O];exact C.cnt.hdw j J F
  ·rw[N j O]at h5 h6;rw[N k O]at h6;exact C.cnt.hinj j k J F V h4 h5 h6
  rcases C.cnt.compl q J F V with h4 | ⟨j,j1,j2,j3⟩
  ·exact .inl h4
  exact .inr ⟨j,j1,j2,by rw[N j O];exact j3⟩
 have Y:∀j,Deaf (t++ZI 0 U #[⟨.obj c.ch,false,true⟩,⟨.obj c.ch,true,true⟩]) j=Deaf t j:=λj=>Je λop A d=>by
  obtain⟨_,F,_⟩:=E op A;obtain⟨g,f',ps,act⟩:=op;cases act with
  | mark m=>exact absurd rfl (F m)
  | _=>rfl
 refine⟨nx v,cs,w',H.tagged [1,30,n],K,L,#[⟨.obj c.ch,false,true⟩,⟨.obj c.ch,true,true⟩],(Ot (P:=p) ha (hs w s.cn hCw)).trans (by rw[yM]),?_,?_,λj=>?_,rfl,dO _,.inl (ha.wake rfl cs),.inr ⟨rfl,ha.wake rfl cs,rfl⟩,hG _ _ hp,?_⟩
 ·refine⟨by rw[yH];exact dO _,λb _ _ hn=>S b (by rintro rfl;exact hn _ hC),?_,?_,⟨.refl _,rfl,rfl⟩,?_,?_,?_,?_⟩
  ·intro b o pm hb;by_cases e:b=c.ch
   ·subst e;rw[hat];have:L c.ch=some (Uw K,true):=Hp.aG _ _ _;rw[this]at hb;simp only[qAe,qBD]at hb;rw[<-hb.1];rfl
   rw[S b e];have:L b=Hs b:=Hp.aH _ _ e;rw[this]at hb;exact T.leS b o pm hb
  ·intro b x D;by_cases e:b=c.ch
   ·subst e;exact .inr ⟨_,.inr hC,λh=>by simp at h⟩
   have:L b=Hs b:=Hp.aH _ _ e;rw[this]at D;exact .inr ⟨x,.inr D,λ_=>rfl⟩
  ·intro op A x D b hb;obtain⟨Q,_,_⟩:=(E op A).2.2.1 x D;rw[Q]at hb;simp[Loc.gL]at hb;subst hb;exact .inl ⟨_,true,.inr hC,λ_=>rfl⟩
  ·intro said q a N1 op A b hb hc;obtain⟨Q,_,_⟩:=(E op A).2.2.1 b hb;obtain⟨x,D,qV⟩:=touch_of N1;exact C.tr.chk q x a D qV (by rw[hc.1,Q];rfl)
  ·intro op A;exact(E op A).2.2.2 _ (by rw[yH];exact nF)
  refine⟨uA,(C.tr.app (u:=ZI 0 U #[⟨.obj c.ch,false,true⟩,⟨.obj c.ch,true,true⟩]) λq x hq D=>?_).sub (λj hj=>hj) (λb hb=>?_),λj hj wT=>?_,λX=>?_,?_⟩
  ·have A:=(getElem?_append_cases D).elim (λh=>absurd h.1 (qDx.2 hq)) (·.2);obtain⟨J,F,V,_⟩:=E x A;refine⟨⟨F _,F _,λe=>absurd e (F _)⟩,λa N1 hm=>?_⟩;obtain⟨Q,e2,e3⟩:=V a N1;refine⟨.inl J,λhsh=>?_,λb hb SW=>?_,λh=>absurd J h,λ_=>J⟩
   ·exfalso;obtain⟨b,hb,h⟩:=hsh;rw[Q]at hb;simp[Loc.gL]at hb;subst hb;exact h.elim ok.neM ok.neW
   rw[Q]at hb;simp[Loc.gL]at hb;subst hb;exact SW.2.2.2 rfl
  ·obtain⟨⟨x,D⟩,b1,b2,b3⟩:=hb;have:L b=Hs b:=Hp.aH _ _ b3;rw[this]at D;exact⟨⟨x,D⟩,b1,b2,b3⟩
  ·rw[Y];exact C.deaf j hj wT
  ·have:s.tag 0=[30,n]:=I;have X:cd (s.tag 0)=40:=X;rw[this]at X;simp[cd]at X
  rcases C.heap with⟨J,F⟩ | ⟨J,Hl,F,V,h4⟩
  ·exact .inl ⟨J,by show Hs.ins _ _=_;rw[F];exact M9⟩
  refine .inr ⟨J,Hl,?_,?_,h4⟩
  ·show Hs.ins _ _=_;rw[F,<-M9];refine Hp.ext' (λq=>?_) rfl;simp only[Hp.eM,Hp.bH];by_cases e:q=c.ch
   ·rw[iF e,iF e]
   rw[aT e,aT e]
  refine⟨λq x y D Z=>?_,.inl rfl⟩;rcases(Ur D).1 with rfl | rfl | rfl
  ·have:=V.right_none (I1 ok.ne s);rw[this]at Z;simp at Z
  ·have:=V.right_none (I2 c s);rw[this]at Z;simp at Z
  have:=V.right_none (I0 ok.neM ok.neW s);rw[this]at Z;simp at Z
 ·refine⟨λb o pm hb=>?_,λb x y D Z=>?_,λb x hb=>.inr ⟨x,.inl hb,λ_=>rfl⟩,T.perm.own λop A=>.inl (E op A).1⟩
  ·have:b≠c.ch:=by rintro rfl;rw[Hp.kI,FO]at hb;simp at hb
   rw[S b this];exact T.le b o pm hb
  have e:b≠c.ch:=by rintro rfl;rw[Hp.kI,FO]at D;simp at D
  have:L b=Hs b:=Hp.aH _ _ e;rw[this]at Z;exact T.dis b x y D Z
 ·show pL (K.tag j) (K.hd j) :: K.tag j=_;by_cases e0:j=0
  ·subst e0;have Q:K.tag 0=[30,n]:=I;have e2:K.hd 0=0:=upd_same s.hd 0 0;rw[iF rfl,Q,e2];rfl
  rw[aT e0,N j e0];rfl
 exact .inr (by simp[Hp.tagged,cd,ZN])
end
section
variable{P:aX}{d:Option Nat}{next:aM->Hp->Prop}{σ:aM}{H:Hp}{x:Operand}{f:FuncId}{e:Array Value->Sem Value}{aA:Array Operand}{ts:Array TypeId}{ty:TypeId}{vs:List Value}
def eX.L9(h:eX P.toProgram f e):Va P.toProgram (aR (.call { callee:=.value (.func f),args:=aA,argTypes:=ts }) ty)=true:=by
 obtain⟨fn,b,_,g,_⟩:=h.ex;have:fn.body.isSome=false:=by simpa using g
 simp[Va,aR,b,this]
def Iz(g:(aA.toList.all λx=>(σ.get x).isSome)=true):((Op.call { callee:=.value (.func f),args:=aA,argTypes:=ts }).operands.all λx=>(σ.get x).isSome)=true:=by
 rw[qAm];intro x b;simp only[Op.operands,Call.operands]at b;simp only[IN]at g;simp only[qBG,qBt,qBx,qAv,oR,qBh]at b g;rcases b with rfl | b
 ·rfl
 exact g x b
def Zq(q:eX P.toProgram f e)(l:σ.gets aA.toList=some vs){b:Value->Hp->Prop}(h:Zk P (callFunc f vs.toArray) true false H b)(o:∀v g,b v g->next (σ.set d v) g) :
  (bE.raw (.call { callee:=.value (.func f),args:=aA,argTypes:=ts }) ty).m P d next σ H:=by
 obtain⟨j,k⟩:=Od l;refine⟨?_,.inr ?_⟩
 ·exact Iz k
 rw[Wt (ρ:=λx=>(σ.get x).getD undef) rfl,q.L9];have:aA.map (λx=>(σ.get x).getD undef)=vs.toArray:=by obtain⟨aA⟩:=aA;simp only[qCo];rw[j]
 rw[this];exact h.mono o
def OC(B:eX P.toProgram f e)(A:σ.gets aA.toList=some vs)(h:bL P (e vs.toArray) (λv _ b=>next (σ.set d v) b) false H) :
  (bE.raw (.call { callee:=.value (.func f),args:=aA,argTypes:=ts }) ty).m P d next σ H:=by
 obtain⟨u,y⟩:=Od A;refine⟨?_,.inl ?_⟩
 ·exact Iz y
 rw[Wt (ρ:=λx=>(σ.get x).getD undef) rfl];have:aA.map (λx=>(σ.get x).getD undef)=vs.toArray:=by obtain⟨aA⟩:=aA;simp only[qCo];rw[u]
 rw[this];obtain⟨fn,j,k,l,o,q⟩:=B.ex;simp only[callFunc,Zg,V0,j,k,l,o,q,DO,qAw,qBp];exact⟨.inl ⟨f,rfl⟩,Vi (λv g H h=>(.inr h:_\/_)) h⟩
def Jk{o:Op}(g:(o.operands.all λx=>(σ.get x).isSome)=true){Post:Value->Hp->Prop}(h:Zk P (execOp (λx=>(σ.get x).getD undef) (aR o ty)) (Va P (aR o ty)) false H Post)(j:∀v b,Post v b->next (σ.set d v) b):(bE.raw o ty).m P d next σ H:=
 ⟨g,.inr (h.mono j)⟩
def VF{g:TypeId}(e:σ.get x=some v){b:Value->Hp->Prop}(h:Zk P (execOp (λx=>(σ.get x).getD undef) (aR (.convert t g x) ty)) (Va P (aR (.convert t g x) ty)) false H b)(k:∀v j,b v j->next (σ.set d v) j):(bE.raw (.convert t g x) ty).m P d next σ H:=
 ⟨by simp[Op.operands,e],.inr (h.mono k)⟩
def Ve(e:σ.get x=some v){b:Value->Hp->Prop}(h:Zk P (execOp (λx=>(σ.get x).getD undef) (aR (.load t x) ty)) (Va P (aR (.load t x) ty)) true H b)(j:∀v g,b v g->next (σ.set d v) g):(bE.jJ (.load t x) ty).m P d next σ H:=
 ⟨by simp[Op.operands,e],h.mono j⟩
end
