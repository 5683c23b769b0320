import Derived.Test.YtlhomfgcibjccaaGreatDoorP06
import Derived.Test.YtlhomfgcibjccaaGreatDoorP15
import Derived.Conc.Own2
import Derived.Conc.SmallLaws
set_option linter.all false
namespace Go.LL
section
variable{n:Nat}{sm:Sem Next}{d:Deferred}
open Go.Conc
open Go.ConcN (sumTo upd sumTo_upd upd_ne upd_same)
def Hp.Less(K H:Hp):Prop:=∀b o pm,K b=some (o,pm)->∃FM,H b=some (o,FM)/\(pm=true->FM=true)
section
variable{p:Program}{c:Cx}{i:Nat}{H:Hp}{s:Ts}{f:FuncId}{wk nr:Bool}
theorem Zzh(g:Nat->Nat)(tag:Nat->List Nat)(k:Nat)(l:List Nat):Ct g (upd tag k l) (k+1)=Ct g tag k+g (cd l):=by
 have h1:Ct g (upd tag k l) k=Ct g tag k:=by unfold Ct;exact Go.ConcN.sumTo_congr λj hj=>by rw[upd_ne _ _ O]
 have h2:Ct g (upd tag k l) (k+1)=Ct g (upd tag k l) k+g (cd (upd tag k l k)):=rfl;rw[h2,h1,upd_same]
theorem bK.JD(h:bK c s)(ht:s.tag 0=[33,n])(hn:n<c.K) :
  bK c { s with tag:=upd (upd s.tag 0 [30,n+1]) s.next [1],next:=s.next+1,more:=s.more-1,hd:=upd s.hd s.next 0 }/\s.more-1+s.iR<s.pm:=by
 have HZ:=h.nV 33 n O ht;have Gx:=h.num;have eU:=h.pos;have h0:=h.cS;have kB:1<=s.more:=O;obtain⟨m1,m2⟩:=h.mu.main (more:=s.pm) (l:=[30,n+1]) h0 (by rw[ht];simp[cd]) (by simp[cd]);have ct:∀g:Nat->Nat,Ct g (upd (upd s.tag 0 [30,n+1]) s.next [1]) (s.next+1)=Ct g (upd s.tag 0 [30,n+1]) s.next+g 1:=λg=>Zzh g _ _ _;have rT:Mu.mu s.mu (s.more-1+s.iR) (upd (upd s.tag 0 [30,n+1]) s.next [1]) (s.next+1)=Mu.mu s.mu s.pm s.tag s.next:=by rw[<-m2];unfold Mu.mu;rw[ct];have:dQ 1=6:=rfl;show _+6 * (s.more-1+s.iR)=_+6 * (s.more+s.iR);omega
 have aG:∀j,j≠0->j≠s.next->upd (upd s.tag 0 [30,n+1]) s.next [1] j=s.tag j:=λj h1 h2=>by rw[upd_ne _ _ h2,upd_ne _ _ h1]
 have kY:upd (upd s.tag 0 [30,n+1]) s.next [1] 0=[30,n+1]:=by rw[upd_ne _ _ O,upd_same]
 have sQ:upd (upd s.tag 0 [30,n+1]) s.next [1] s.next=[1]:=upd_same _ _ _;refine⟨⟨?_,?_,λj hj=>?_,λv=>?_,λk n' hk hl=>?_,λj hj hc=>?_,?_,eU,?_,λj h1 h2=>?_,λj h1 h2=>?_,h.HC,h.qY,λj h1 h2=>?_,⟨λe=>?_,λe=>?_⟩,h.FU,λj h1 h2=>?_,λj k h1 h2 h3 h4 h5 h6=>?_,λq h1 h2 h3=>?_,λbU j h1 h2=>?_,λh1=>?_⟩,by show _<s.more+s.iR;omega⟩
 ·obtain⟨f1,f2,f3,f4,f5,f6⟩:=m1;refine⟨?_,f2,f3,f4,?_,?_⟩
  ·rw[ct];exact f1
  ·rw[ct,ct,ct,ct,ct];exact f5
  rw[ct,ct,ct,ct];exact f6
 ·obtain⟨f1,f2,f3,f4,f5,f6⟩:=h.wg;have e:∀g:Nat->Nat,g 30=0->g 33=0->Ct g (upd s.tag 0 [30,n+1]) s.next=Ct g s.tag s.next:=by intro g g1 g2;have:=counts (tag:=s.tag) (l:=[30,n+1]) h0 g;rw[ht]at this;have e1:g (cd [33,n])=0:=g2;have e2:g (cd [30,n+1])=0:=g1;omega
  have eW:=e cW rfl rfl;have eL:=e cL rfl rfl;have eE:=e cE rfl rfl;have gf:=f5 (by rw[ht];simp[cd]);rw[ht]at f1;have e1:mP (cd [33,n])=1:=rfl;have e2:cW 1=1:=rfl;have e3:cL 1=0:=rfl;have e4:cE 1=0:=rfl;have e5:mP (cd [30,n+1])=0:=rfl;refine⟨?_,?_,?_,?_,?_,?_⟩<;>simp only[kY]
  ·rw[ct,eW];omega
  ·simp[cd]
  ·simp[cd]
  ·simp[cd]
  ·intro _;rw[ct,ct,eL,eE];omega
  simp[cd]
 ·simp only[rT];by_cases e0:j=0
  ·subst e0;rw[kY];exact Mu.dI (by simp[cd])
  by_cases e1:j=s.next
  ·subst e1;rw[sQ];trivial
  rw[aG j e0 e1];exact h.oS j (by simp only at hj;omega)
 ·simp only[kY];simp
 ·simp only[kY]at hl;simp at hl;simp only;omega
 ·by_cases e0:j=0
  ·subst e0;simp only[kY]at hc;simp[cd]at hc
  by_cases e1:j=s.next
  ·subst e1;simp only[sQ]at hc;simp[cd]at hc
  simp only[aG j e0 e1]at hc ⊢;exact h.tk j (by simp only at hj;omega) hc
 ·simp only;omega
 ·simp only;have:=h.nb;omega
 ·have:=h.nb;simp only[aG j O O];exact h.kO j h1 h2
 ·by_cases e1:j=s.next
  ·subst e1;simp only[sQ];exact⟨by simp[cd],λe=>by simp[cd]at e⟩
  simp only[aG j O e1];exact h.kW j h1 (by simp only at h2;omega)
 ·by_cases e1:j=s.next
  ·subst e1;simp only[sQ,upd_same];refine⟨λ_ hm=>?_,λe=>by simp[cd]at e,λe=>by simp[cd]at e⟩;have:=(h.qY _ hm).1;omega
  simp only[aG j O e1,upd_ne _ _ e1];exact h.AH j h1 (by simp only at h2;omega)
 ·simp only[upd_ne _ _ (show(0:Nat)≠s.next by omega)];exact h.uX.1 e
 ·simp only[upd_ne _ _ (show(0:Nat)≠s.next by omega)];exact h.uX.2 e
 ·by_cases e1:j=s.next
  ·subst e1;simp only[upd_same];have:=h.FU;omega
  simp only[upd_ne _ _ e1];exact h.C5 j h1 (by simp only at h2;omega)
 ·by_cases e1:j=s.next
  ·subst e1;simp only[upd_same]at h5;omega
  simp only[upd_ne _ _ e1]at h5 h6;by_cases e2:k=s.next
  ·subst e2;simp only[upd_same]at h6;omega
  simp only[upd_ne _ _ e2]at h6;exact h.uS j k h1 (by simp only at h2;omega) h3 (by simp only at h4;omega) h5 h6
 ·rcases h.pC q h1 h2 h3 with h4 | ⟨j,j1,j2,j3⟩
  ·exact .inl h4
  exact .inr ⟨j,j1,by simp only;omega,by simp only[upd_ne _ _ (show j≠s.next by omega)];exact j3⟩
 ·by_cases e1:j=s.next
  ·subst e1;simp only[sQ];simp[cd]
  simp only[aG j O e1];exact h.run bU j h1 (by simp only at h2;omega)
 simp only[kY]at h1;simp[cd]at h1
theorem Tr.Dw{C:TC}{next:Nat}{done pl nJ FN:Nat->Prop}{t:Trace}(h:Tr C next done pl t)(hd:∀j,j<next->nJ j->done j)(hp:∀b,FN b->pl b):Tr C next nJ FN t:=
 ⟨h.pos,h.size,h.lU,h.lQ,λq x a b h1 h2 h3 h4=>h.eK q x a b h1 h2 h3 (hp b h4),λq x a h1 h2 h3 h4 h5 h6=>h.uF q x a h1 h2 h3 h4 h5 (hd _ h5 h6),h.early,h.lJ,h.uI,λq x h1 h2 h3=>let⟨a,b,e⟩:=h.t8 q x h1 h2 h3;⟨a,b,λh=>e (hd _ b h)⟩,h.CF⟩
abbrev YI(p:Program)(d:Deferred):Frame:={ (default:Frame)with fn:=p.funcs.size,defers:=[d],mode:=.panicking [goexitEntry] }
theorem ZoG{P:Program}{main:Bool}{fr:Frame}{nx:Value->Frame}{cs:List Frame}{wk nr:Bool}(ha:KZ P fr nx sm wk nr){w w':World}{lI:Array Event}(hd:∃f c,d.target=.fn f c)(hr:sm.runT P w #[]=(.ok (.spawn d) w',lI)) :
  stepG P main (bT fr cs) w=.spawn (bT (nx undef) cs) (bT (YI P d) []) w' (seen P fr.fn lI):=by
 obtain⟨f,c,hd⟩:=hd;rcases d with⟨tg,args⟩;simp only at hd;subst hd;rcases ha.spawn with h | h
 ·obtain⟨v,w',es,e⟩:=h w;rw[hr]at e;simp at e
 exact h _ _ _ _ _ _ _ _ hr
theorem Zt1(ok:c.Ok)(hd:∃f c,d.target=.fn f c)(hr:∀w,sm.runT p w #[]=(.ok (.spawn d) w,#[]))(hg:H.cg=[33,n])(hn:n<c.K){H' Hc:Hp}(h1:H'.Less H)(h2:Hc.Less H)(oZ:H'.Dis Hc)
  (C4:H'.gh=[H.hd+1,30,n+1]) (C3:Hc.gh=[1,1]) (NV:Reach ((bG p c).prgW (c.base+n)) Vf (YI p d) [] Hc):Zm ((bG p c).prgM) sm wk nr H (λv K=>v=undef/\K=H'):=by
 intro G fr nx cs bU ha hG;refine .eX ⟨VQ (.inl (.inr (by rw[hg];simp[cd]))),λs Hs t w hA=>.inr (.inr (.inl ?_))⟩;obtain⟨aG,hI,hD⟩:=Oc hA (by rw[hg];simp[cd]);have l9:s.hd 0=H.hd:=(YC hA (by rw[hg];simp[cd])).2;rw[hg]at aG hD;replace hD:Deaf t 0=0:=hD;have eU:=hI.bI.pos;have o0:0<s.next:=hI.bI.cS;have HZ:s.next=c.base+n:=hI.bI.nV 33 n O aG;obtain⟨fY,bV⟩:=hI.bI.JD aG hn;have It:Deaf t s.next=0:=hA.above s.next (aC _);let s':Ts:={ s with tag:=upd (upd s.tag 0 [30,n+1]) s.next [1],next:=s.next+1,more:=s.more-1,hd:=upd s.hd s.next 0 }
 have fI:∀j,j≠0->j≠s.next->s'.tag j=s.tag j:=λj h1 h2=>by show upd (upd s.tag 0 [30,n+1]) s.next [1] j=_;rw[upd_ne _ _ h2,upd_ne _ _ h1]
 have tag0:s'.tag 0=[30,n+1]:=by show upd (upd s.tag 0 [30,n+1]) s.next [1] 0=_;rw[upd_ne _ _ O,upd_same]
 have DJ:s'.tag s.next=[1]:=upd_same _ _ _;have hu:YW 0 s.next fr (YI p d) #[]=#[({ g:=0,fn:=fr.fn,pos:=fr.place,act:=.go s.next }:MemOp),{ g:=s.next,fn:=p.funcs.size,pos:=fr.place,act:=.start }]:=by simp[YW,ZJ,ofEvents_eq]
 have iV:∀op∈YW 0 s.next fr (YI p d) #[],op.act.touch? = none/\op.act.low w.heap.size:=by intro op bH;rw[hu]at bH;simp only[qAb,qAp,qBf,qCl]at bH;rcases bH with rfl | rfl<;>exact V
 have FV:∀{K:Hp},K.Less H->K.le w:=λhK b o pm hb=>by obtain⟨FM,e,_⟩:=hK b o pm hb;exact hA.le b o FM e
 have CC:∀{K:Hp},K.Less H->K.Dis Hs:=λhK b x y hx hy=>by
  obtain⟨FM,e,e2⟩:=hK b x.1 x.2 hx;obtain⟨e3,e4⟩:=hA.dis b _ _ e hy;have:x.2=false:=by
   cases tP:x.2 with
   | false=>rfl
   | true=>rw[e2 tP]at e4;simp at e4
  simp only at e4;subst e4;exact⟨by rw[<-e3,<-this],this⟩
 have vX:∀{K:Hp},K.Less H->iY H Hs w K:=λhK b x hx=>by
  obtain⟨FM,e,e2⟩:=hK b x.1 x.2 hx;refine .inr ⟨_,.inl e,λe3=>?_⟩;simp only at e3;subst e3;cases tP:x.2 with
  | false=>rw[<-tP]
  | true=>exact absurd (e2 tP) (by simp)
 have vI:∀{K:Hp},K.Less H->eR t 0 K:=λhK b o pm hb q a hq hl hw=>by obtain⟨FM,e,e2⟩:=hK b o pm hb;exact hA.perm b o FM e q a hq hl (hw.imp e2 id)
 have sC:∀{q:Nat} {a:Touch},touchAt (t++YW 0 s.next fr (YI p d) #[]) q=some a->touchAt t q=some a:=by
  intro q a hq;obtain⟨x,hx,gC⟩:=touch_of hq;rcases getElem?_append_cases hx with⟨_,eP⟩ | ⟨_,eP⟩
  ·rw[touchAt_of eP];exact gC
  rw[(iV x eP).1]at gC;simp at gC
 refine⟨nx undef,cs,YI p d,w,H',Hc,s',Hs,#[],?_,?_,⟨FV h1,CC h1,vX h1,?_⟩,⟨FV h2,CC h2,vX h2,?_⟩,oZ,λj=>?_,rfl,bV,⟨rfl,λj hj hb=>?_⟩,hG _ _ ⟨rfl,rfl⟩,?_,?_,?_⟩
 ·exact(ZoG (P:=p) ha hd (hr w)).trans (by simp[seen])
 ·refine⟨aC _,λ_ _ _ _=>rfl,hA.leS,λb x h=>.inr ⟨x,.inr h,λ_=>rfl⟩,.refl w,?_,?_,λop bH=>(iV op bH).2,?_⟩
  ·intro op bH x eP b eY;rw[(iV op bH).1]at eP;simp at eP
  ·intro said q a _ op bH b eY _;rw[(iV op bH).1]at eY;simp at eY
  refine⟨fY,?_,λj hj iH=>?_,λnI=>?_,?_⟩
  ·have:=hI.tr.JD hI.bI.nb (x:={ g:=0,fn:=fr.fn,pos:=fr.place,act:=.go s.next }) (y:={ g:=s.next,fn:=p.funcs.size,pos:=fr.place,act:=.start }) ⟨rfl,rfl⟩ ⟨rfl,rfl⟩ hD It o0;rw[<-hu]at this;refine this.Dw (λj hjl hj=>?_) (λb eY=>eY);unfold Y6 at hj ⊢;by_cases e0:j=0
   ·subst e0;exact⟨by rw[aG];simp[cd],o0⟩
   by_cases e1:j=s.next
   ·subst e1;rw[DJ]at hj;simp[cd]at hj
   rw[fI j e0 e1]at hj;exact⟨hj,O⟩
  ·have hda:∀j,Deaf (t++YW 0 s.next fr (YI p d) #[]) j=Deaf t j:=by intro j;rw[hu,Deaf_append];simp[deafStep]
   show Deaf (t++YW 0 s.next fr (YI p d) #[]) j=_;rw[hda];by_cases e0:j=0
   ·subst e0;rw[tag0,hD];rfl
   by_cases e1:j=s.next
   ·subst e1;rw[DJ,It];rfl
   rw[fI j e0 e1]at iH ⊢;exact hI.deaf j ⟨by have:j<s.next+1:=hj.1;omega,hj.2⟩ iH
  ·rw[tag0]at nI;simp[cd]at nI
  have rB:YZ s'↔YZ s:=by
   constructor
   ·rintro⟨j,h1,h2⟩;by_cases e0:j=0
    ·subst e0;rw[tag0]at h2;simp[cd]at h2
    by_cases e1:j=s.next
    ·subst e1;rw[DJ]at h2;simp[cd]at h2
    rw[fI j e0 e1]at h2;exact⟨j,by have:j<s.next+1:=h1;omega,h2⟩
   rintro⟨j,h1,h2⟩;by_cases e0:j=0
   ·subst e0;rw[aG]at h2;simp[cd]at h2
   exact⟨j,by show j<s.next+1;omega,by rw[fI j e0 O];exact h2⟩
  exact hI.heap.imp (λ⟨a,b⟩=>⟨rB.2 a,b⟩) λ⟨a,Hl,b,cc,d⟩=>⟨λh=>a (rB.1 h),Hl,b,cc,d⟩
 ·intro b o pm hb q a hq hl hw;exact(vI h1 b o pm hb q a (sC hq) hl hw).app _
 ·intro b o pm hb q a hq hl hw;have:=Go.ConcN.fork_knows (x:={ g:=0,fn:=fr.fn,pos:=fr.place,act:=.go s.next }) (y:={ g:=s.next,fn:=p.funcs.size,pos:=fr.place,act:=.start }) ⟨rfl,rfl⟩ ⟨rfl,rfl⟩ hD It (vI h2 b o pm hb q a (sC hq) hl hw);rw[<-hu]at this;exact this
 ·show pP (s'.tag j) (s'.hd j) :: s'.tag j=_;by_cases e0:j=0
  ·subst e0;have:s'.hd 0=H.hd:=by show upd s.hd s.next 0 0=_;rw[upd_ne _ _ O];exact l9
   rw[tag0,C4,this];simp[pP,cd]
  rw[bY e0];by_cases e1:j=s.next
  ·subst e1;have:s'.hd s.next=0:=upd_same _ _ _;rw[DJ,C3,this];exact(iO rfl).symm
  have:s'.hd j=s.hd j:=upd_ne _ _ e1;rw[fI j e0 e1,this];exact(bY e1).symm
 ·have hb:ZS s j:=hb;show ZS s' j;have hj:j<s.next:=hj;have e0:j≠0:=by rintro rfl;unfold ZS at hb;rw[aG]at hb;simp[cd]at hb
  unfold ZS at hb ⊢;rw[fI j e0 O];exact hb
 ·show UX _;rw[C4];exact .inr (by simp[cd,ZP])
 ·show UX _;rw[C3];exact .inl (by simp[cd,ZP])
 have:(bG p c).next s=c.base+n:=HZ;rw[this];exact NV
end
end
variable{t src dst vE:TypeId}{w:World}{sm:Sem Next}{v z:Value}{a:Addr}{ρ:Operand->Value}{r:Nat}
open Go.Conc
open Go.ConcN (sumTo upd sumTo_upd upd_ne upd_same)
section
variable{p:Program}{c:Cx}{i:Nat}{H:Hp}{f:FuncId}{wk nr:Bool}
theorem Zzg(t:Trace)(i:Nat)(fr:Frame)(es:Array Event)(he:es=#[]):t++ZJ i fr es=t:=by subst he;simp[ZJ,ofEvents_eq]
theorem Zmf{T:Vx p}{i:Nat}{H:Hp}{s:T.S}{Hs:Hp}{t:Trace}(hA:dH T i H s Hs t w){lI:Array Event}{fr:Frame}{nx:Value->Frame}{cs:List Frame}(ha:KZ p fr nx sm wk nr)(hr:sm.runT p w #[]=(.ok (.value v) w,lI))(hs:seen p fr.fn lI=#[])
  {K:Trace->Frame->List Frame->Hp->Prop} (hK:K t (nx v) cs H):Oq T i K fr cs H s Hs t w:=by
 have e:t++ZJ i fr #[]=t:=Zzg t i fr #[] rfl;refine⟨nx v,cs,w,H,s,Hs,#[],?_,?_,?_,λj=>?_,rfl,aC _,.inr λj hj=>hj,.inl rfl,?_⟩
 ·exact(Ov (P:=p) ha hr).trans (by rw[hs])
 ·refine⟨aC _,λ_ _ _ _=>rfl,hA.leS,λb x h=>.inr ⟨x,.inr h,λ_=>rfl⟩,.refl w,?_,?_,?_,by rw[e];exact hA.inv⟩<;>simp[ZJ,ofEvents_eq]
 ·exact⟨hA.le,hA.dis,λb x h=>.inr ⟨x,.inl h,λ_=>rfl⟩,by rw[e];exact hA.perm⟩
 ·split
  ·subst j;exact hA.tag
  rfl
 rw[e];exact hK
theorem ZhW{Post:Value->Hp->Prop}(hg:Yw H.cg)(h:∀s Hs t w,dH (bG p c) i H s Hs t w->∃v lI,sm.runT p w #[]=(.ok (.value v) w,lI)/\(∀fn,(nr=true->norace p fn=true)->seen p fn lI=#[])/\Post v H):Zm ((bG p c).prgW i) sm wk nr H Post:=by intro G fr nx cs bU ha hG;refine .eX ⟨VQ (.inl hg),.inr (.inl ⟨hg,λs Hs t w hA=>.inl ?_⟩)⟩;obtain⟨v,lI,h1,h2,h3⟩:=h s Hs t w hA;exact Zmf hA ha h1 (h2 _ ha.nr) (.inl ⟨hG _ _ h3,hg⟩)
theorem Zst{Post:Value->Hp->Prop}(hg:30<=cd H.cg)(h:∀s Hs t w,dH (bG p c) 0 H s Hs t w->∃v lI,sm.runT p w #[]=(.ok (.value v) w,lI)/\(∀fn,(nr=true->norace p fn=true)->seen p fn lI=#[])/\Post v H):Zm ((bG p c).prgM) sm wk nr H Post:=by intro G fr nx cs bU ha hG;refine .eX ⟨VQ (.inl (.inr hg)),λs Hs t w hA=>.inl ?_⟩;obtain⟨v,lI,h1,h2,h3⟩:=h s Hs t w hA;exact Zmf hA ha h1 (h2 _ ha.nr) ⟨hG _ _ h3,.inr hg⟩
theorem ZhF(hs:p.underlying src=some (.pointer t))(hd:p.underlying dst=some .unsafePointer)(fP:(p.info? t).map (λi=>decide (i.size=0))=some false)(hc:w.cell? a=some v){x:Operand}(hx:ρ x=.pointer (some a)) :
  (execOp ρ (aP (.convert src dst x) vE)).runT p w #[]=(.ok (.value (.pointer (some a))) w,#[]):=by
 have e:execOp ρ (aP (.convert src dst x) vE)=(do pure (.value (<-convert src dst (.pointer (some a)))):Sem Next):=by simp[execOp,aP,hx]
 rw[e,Sem.runT_eq];have h1:=run_convert_to_unsafe hs hd fP hc;have h2:=events_convert_to_unsafe hs hd fP hc #[];have e1:(do pure (.value (<-convert src dst (.pointer (some a)))):Sem Next).run p w=.ok (.value (.pointer (some a))) w:=by simp[h1,Result.andThen]
 have e2:(do pure (.value (<-convert src dst (.pointer (some a)))):Sem Next).events p w #[]=#[]:=by simp[h1,h2,Result.evThen,Result.andThen]
 rw[e1,e2]
structure K4(p:Program)(src dst:TypeId):Prop where
 ex:∃t,p.underlying src=some (.pointer t)/\p.underlying dst=some .unsafePointer/\(p.info? t).map (λi=>decide (i.size=0))=some false
theorem UV(ok:c.Ok)(hT:K4 p src dst){x:Operand}(hx:ρ x=.pointer (some a))(ha:a=dN c.M\/a=dN c.W)(hg:Yw H.cg) :
  Zm ((bG p c).prgW i) (execOp ρ (aP (.convert src dst x) vE)) wk nr H (λv H'=>v=.pointer (some a)/\H'=H):=by
 obtain⟨t,h1,h2,h3⟩:=hT.ex;refine ZhW hg λs Hs t w hA=>?_;have hc:∃v,w.cell? a=some v:=by
  rcases ha with rfl | rfl
  ·exact⟨_,(JU ok hA).1⟩
  exact⟨_,(Ug hA).1⟩
 obtain⟨v,hc⟩:=hc;exact⟨_,_,ZhF h1 h2 h3 hc hx,λfn _=>by simp[seen],rfl,rfl⟩
theorem XA(hT:K4 p src dst){x:Operand}(hx:ρ x=.pointer (some a))(ha:a=dN c.W\/a=⟨c.W,1,none⟩)(hg:30<=cd H.cg) :
  Zm ((bG p c).prgM) (execOp ρ (aP (.convert src dst x) vE)) wk nr H (λv H'=>v=.pointer (some a)/\H'=H):=by
 obtain⟨t,h1,h2,h3⟩:=hT.ex;refine Zst hg λs Hs t w hA=>?_;have hc:∃v,w.cell? a=some v:=by
  rcases ha with rfl | rfl
  ·exact⟨_,(Ug hA).1⟩
  exact⟨_,(Ug hA).2.2.1⟩
 obtain⟨v,hc⟩:=hc;exact⟨_,_,ZhF h1 h2 h3 hc hx,λfn _=>by simp[seen],rfl,rfl⟩
theorem Zug(ok:c.Ok){ty:TypeId}(AP:Ye p ty=some none){x:Operand}(hx:ρ x=.pointer (some (dN c.M)))(hg:Yw H.cg) :
  Zm ((bG p c).prgW i) (execOp ρ (aP (.load ty x) vE)) wk true H (λ_ H'=>H'=H):=
 ZhW hg λs Hs t w hA=>⟨_,_,ZhE AP (JU ok hA).1 hx,λfn hn=>Zhn (hn rfl),rfl⟩
theorem Zi9{cs:Array CommCase}{sh:CommShape}(hs:∀(w:World) (n:Nat),w.heap[r]? = some (.chan 0 #[] false n n false)->sm.runT p w #[]=(.ok (.comm cs true sh) w,#[])):¬ Uz p sm:=by
 intro hv;let w0:World:={ (default:World)with heap:=Array.replicate (r+1) (.chan 0 #[] false 0 0 false) }
 obtain⟨v,w',es,h⟩:=hv w0;have:=hs w0 0 (by simp[w0]);rw[h]at this;simp at this
theorem Zho{P:Program}{f:FuncId}:seen P f #[]=#[]:=by simp[seen]
theorem Zo1{Post:Value->Hp->Prop}{fM:Bool}(hg:(H.cg=[1]/\c.need H.hd=false)\/H.cg=[19])
  (hs:∀(w:World) (n:Nat) (cl:Bool),w.heap[c.ch]? = some (.chan 0 #[] cl n n false)->sm.runT p w #[]=(.ok (.comm #[rcase c.ch z] true (.recv fM)) w,#[]))
  (h1:∀m v Hm,Hm.gh=[]->H.Dis Hm->1<=m->m<=c.N->H.hd<m->c.msg m v Hm->Post (recvd fM v true) ((H.join Hm).tagged ((m+1) :: [1])))
  (h2:Post (recvd fM z false) (H.tagged [1,19,1])):Zm ((bG p c).prgW i) sm wk nr H Post:=by
 have hb:Yw H.cg:=.inl (by rcases hg with⟨e,_⟩ | e<;>rw[e]<;>simp[cd]);intro G fr nx cs bU ha hG;obtain⟨HZ,QB⟩:=ha.comm.resolve_left (Zi9 λw n=>hs w n false);have hsh:(bG p c).shut H.gh=[1,19,1]:=rfl;refine .eX ⟨VQ (.inl hb),.inr (.inr (.inr ⟨hb,hg,z,fM,λmain w n cl hw=>?_,λg' v Hm e1 e2 e3=>?_,?_,?_⟩))⟩
 ·refine(QB main cs w w _ _ _ _ (hs w n cl hw)).trans ?_;rw[Zho];rfl
 ·obtain⟨m,rfl,m1,m2,m4,m3⟩:=e3;refine⟨.inl (by simp[cd,ZP]),?_⟩;rw[<-HZ];exact hG _ _ (h1 m v Hm e1 e2 m1 m2 m4 m3)
 ·exact .inl (by simp[bG,cd,ZP])
 rw[<-HZ,hsh];exact hG _ _ h2
theorem Zo0{Post:Value->Hp->Prop}{H1 Hm:Hp}(hg:H1.gh=(r+3) :: [30,c.K])(hc:H1.Comp Hm)(F9:Hm.gh=[])(hm:c.msg (c.N-r) v Hm)
  (hs:∀(w:World) (n:Nat),w.heap[c.ch]? = some (.chan 0 #[] false n n false)->sm.runT p w #[]=(.ok (.comm #[scase c.ch v z] true .send) w,#[]))
  (hp:Post undef (H1.tagged ((r+2) :: [30,c.K]))):Zm ((bG p c).prgM) sm wk nr (H1.join Hm) Post:=by
 have hj:(H1.join Hm).gh=(r+3) :: [30,c.K]:=by rw[Hp.bP,F9,hg];simp
 intro G fr nx cs bU ha hG;obtain⟨HZ,QB⟩:=ha.comm.resolve_left (Zi9 λw n=>hs w n);refine .eX ⟨by rw[hj];simp,λs Hs t w hA=>.inr (.inr (.inr ⟨?_,v,z,(r+2) :: [30,c.K],H1,Hm,λmain w n hw=>?_,rfl,hc,F9,⟨r,hj,rfl,hm⟩,?_,?_⟩))⟩
 ·show UW c true (H1.join Hm).gh;rw[hj];exact⟨by simp,rfl⟩
 ·refine(QB main cs w w _ _ _ _ (hs w n hw)).trans ?_;rw[Zho];rfl
 ·exact .inr (by simp[cd,ZP])
 rw[<-HZ];exact hG _ _ hp
theorem Zt5(ok:c.Ok){Post:Value->Hp->Prop}{n:Nat}(hg:H.gh=[2,30,n])(hs:∀(w:World) (n:Nat),w.heap[c.ch]? = some (.chan 0 #[] false n n false)->sm.runT p w #[]=(.ok (.value v) { w with heap:=w.heap.setIfInBounds c.ch (.chan 0 #[] true n n false) },#[⟨.obj c.ch,false,true⟩,⟨.obj c.ch,true,true⟩]))
  (hp:Post v (H.tagged [1,30,n])):Zm ((bG p c).prgM) sm true nr H Post:=by
 intro G fr nx cs bU ha hG;refine .eX ⟨by rw[hg];simp,λs Hs t w hA=>.inl ?_⟩;have Iw:H.cg=[30,n]:=by unfold Hp.cg;rw[hg];rfl
 have l9:H.hd=1:=by unfold Hp.hd;rw[hg];rfl
 obtain⟨aG,hh⟩:=YC hA (by rw[Iw];simp[cd]);rw[Iw]at aG;rw[l9]at hh;have hI:ZM c s Hs t:=hA.inv;have eU:=hI.bI.pos;have o0:0<s.next:=hI.bI.cS;have gZ:c.live s.next 0:=⟨o0,.inl rfl⟩;have F4:s.cls=false:=by
  cases bU:s.cls with
  | false=>rfl
  | true=>have:=(hI.bI.uX.1 bU).1;omega
 have xZ:s.iR=0:=by have:=hI.bI.uX.2 F4;omega
 have hD:Deaf t 0=0:=by rw[VS hA (by rw[aG];simp[cd]),aG];rfl
 obtain⟨ES,ER,GJ⟩:=X9 ok hA;have hC:=hI.C8 ok;have hCw:w.heap[c.ch]? = some (.chan 0 #[] false s.cn s.cn false):=by have:=hA.leS _ _ _ hC;rw[this];unfold Uw;rw[F4]
 have bV:c.ch<w.heap.size:=hA.leS.lt hC;let w':World:={ w with heap:=w.heap.setIfInBounds c.ch (.chan 0 #[] true s.cn s.cn false) }
 have pT:∀b,b≠c.ch->w'.heap[b]? = w.heap[b]?:=λb hb=>qAa (qAi hb);have rN:w'.heap[c.ch]? = some (.chan 0 #[] true s.cn s.cn false):=qAn bV;have fP:w'.heap.size=w.heap.size:=by simp[w']
 let s':Ts:={ s with cls:=true,hd:=upd s.hd 0 0 }
 let eG:=Hs.ins c.ch (Uw s')
 have oI:seen p fr.fn #[⟨.obj c.ch,false,true⟩,⟨.obj c.ch,true,true⟩]=#[⟨.obj c.ch,false,true⟩,⟨.obj c.ch,true,true⟩]:=by simp[seen]
 have hu:ZJ 0 fr #[⟨.obj c.ch,false,true⟩,⟨.obj c.ch,true,true⟩]=#[({ g:=0,fn:=fr.fn,pos:=fr.place,act:=.access ⟨.obj c.ch,false,true⟩ }:MemOp),{ g:=0,fn:=fr.fn,pos:=fr.place,act:=.close c.ch }]:=by simp[ZJ,ofEvents_eq,MemAct.ofEvent]
 have jN:∀op∈ZJ 0 fr #[⟨.obj c.ch,false,true⟩,⟨.obj c.ch,true,true⟩],op.g=0/\(∀a,op.act≠.mark a)/\(∀x,op.act.touch? = some x->x.loc=.obj c.ch/\x.write=false/\x.kind=.atomic)/\∀B,c.ch<B->op.act.low B:=by
  intro op bH;rw[hu]at bH;simp only[qAb,qAp,qBf,qCl]at bH;rcases bH with rfl | rfl
  ·refine⟨rfl,by simp,λx hx=>?_,λB hB=>hB⟩;simp[MemAct.touch?]at hx;subst hx;exact⟨rfl,rfl,rfl⟩
  exact⟨rfl,by simp,λx hx=>by simp[MemAct.touch?]at hx,λB hB=>hB⟩
 have PS:(hO c s).ins c.ch (Uw s')=hO c s':=by
  refine Hp.ext' (λq=>?_) rfl;by_cases e:q=c.ch
  ·subst e;rw[Hp.aF,J5 ok.AG ok.AF]
  rw[Hp.aE _ _ e];unfold hO;by_cases e1:q=c.W
  ·subst e1;rw[Hp.aF,Hp.aF]
  rw[Hp.aE _ _ e1,Hp.aE _ _ e1];by_cases e2:q=c.M
  ·subst e2;rw[Hp.aF,Hp.aF]
  rw[Hp.aE _ _ e2,Hp.aE _ _ e2,Hp.aE _ _ e,Hp.aE _ _ e]
 have oJ:∀j,j≠0->s'.hd j=s.hd j:=λj hj=>upd_ne _ _ hj;have fY:bK c s':=by
  refine⟨hI.bI.mu,hI.bI.wg,hI.bI.oS,hI.bI.oQ,hI.bI.nV,hI.bI.tk,hI.bI.num,hI.bI.pos,hI.bI.nb,hI.bI.kO,hI.bI.kW,hI.bI.HC,hI.bI.qY,λj h1 h2=>?_,⟨λ_=>⟨upd_same s.hd 0 0,xZ⟩,λe=>by simp[s']at e⟩,hI.bI.FU,λj h1 h2=>?_,λj k h1 h2 h3 h4 h5 h6=>?_,λq h1 h2 h3=>?_,λe=>by simp[s']at e,λ_=>rfl⟩
  ·rw[oJ j O];exact hI.bI.AH j h1 h2
  ·rw[oJ j O];exact hI.bI.C5 j h1 h2
  ·rw[oJ j O]at h5 h6;rw[oJ k O]at h6;exact hI.bI.uS j k h1 h2 h3 h4 h5 h6
  rcases hI.bI.pC q h1 h2 h3 with h4 | ⟨j,j1,j2,j3⟩
  ·exact .inl h4
  exact .inr ⟨j,j1,j2,by rw[oJ j O];exact j3⟩
 have I2:∀j,Deaf (t++ZJ 0 fr #[⟨.obj c.ch,false,true⟩,⟨.obj c.ch,true,true⟩]) j=Deaf t j:=λj=>Li λop bH d=>by
  obtain⟨_,h2,_⟩:=jN op bH;obtain⟨g,f',ps,act⟩:=op;cases act with
  | mark m=>exact absurd rfl (h2 m)
  | _=>rfl
 refine⟨nx v,cs,w',H.tagged [1,30,n],s',eG,#[⟨.obj c.ch,false,true⟩,⟨.obj c.ch,true,true⟩],(Ov (P:=p) ha (hs w s.cn hCw)).trans (by rw[oI]),?_,?_,λj=>?_,rfl,aC _,.inl (ha.wD rfl cs),.inr ⟨rfl,ha.wD rfl cs,rfl⟩,hG _ _ hp,?_⟩
 ·refine⟨by rw[fP];exact aC _,λb _ _ hn=>pT b (by rintro rfl;exact hn _ hC),?_,?_,⟨.refl _,rfl,rfl⟩,?_,?_,?_,?_⟩
  ·intro b o pm hb;by_cases e:b=c.ch
   ·subst e;rw[rN];have:eG c.ch=some (Uw s',true):=Hp.aF _ _ _;rw[this]at hb;simp only[iF,qAG]at hb;rw[<-hb.1];rfl
   rw[pT b e];have:eG b=Hs b:=Hp.aE _ _ e;rw[this]at hb;exact hA.leS b o pm hb
  ·intro b x hx;by_cases e:b=c.ch
   ·subst e;exact .inr ⟨_,.inr hC,λh=>by simp at h⟩
   have:eG b=Hs b:=Hp.aE _ _ e;rw[this]at hx;exact .inr ⟨x,.inr hx,λ_=>rfl⟩
  ·intro op bH x hx b hb;obtain⟨e1,_,_⟩:=(jN op bH).2.2.1 x hx;rw[e1]at hb;simp[Loc.gP]at hb;subst hb;exact .inl ⟨_,true,.inr hC,λ_=>rfl⟩
  ·intro said q a rX op bH b hb hc;obtain⟨e1,_,_⟩:=(jN op bH).2.2.1 b hb;obtain⟨x,hx,gC⟩:=touch_of rX;exact hI.tr.CF q x a hx gC (by rw[hc.1,e1];rfl)
  ·intro op bH;exact(jN op bH).2.2.2 _ (by rw[fP];exact bV)
  refine⟨fY,(hI.tr.app (u:=ZJ 0 fr #[⟨.obj c.ch,false,true⟩,⟨.obj c.ch,true,true⟩]) λq x hq hx=>?_).sub (λj hj=>hj) (λb hb=>?_),λj hj iH=>?_,λnI=>?_,?_⟩
  ·have bH:=(getElem?_append_cases hx).elim (λh=>absurd h.1 (qCh.2 hq)) (·.2);obtain⟨h1,h2,h3,_⟩:=jN x bH;refine⟨⟨h2 _,h2 _,λe=>absurd e (h2 _)⟩,λa rX hm=>?_⟩;obtain⟨e1,e2,e3⟩:=h3 a rX;refine⟨.inl h1,λhsh=>?_,λb hb rS=>?_,λh=>absurd h1 h,λ_=>h1⟩
   ·exfalso;obtain⟨b,hb,h⟩:=hsh;rw[e1]at hb;simp[Loc.gP]at hb;subst hb;exact h.elim ok.AG ok.AF
   rw[e1]at hb;simp[Loc.gP]at hb;subst hb;exact rS.2.2.2 rfl
  ·obtain⟨⟨x,hx⟩,b1,b2,b3⟩:=hb;have:eG b=Hs b:=Hp.aE _ _ b3;rw[this]at hx;exact⟨⟨x,hx⟩,b1,b2,b3⟩
  ·rw[I2];exact hI.deaf j hj iH
  ·have:s.tag 0=[30,n]:=aG;have nI:cd (s.tag 0)=40:=nI;rw[this]at nI;simp[cd]at nI
  rcases hI.heap with⟨h1,h2⟩ | ⟨h1,Hl,h2,h3,h4⟩
  ·exact .inl ⟨h1,by show Hs.ins _ _=_;rw[h2];exact PS⟩
  refine .inr ⟨h1,Hl,?_,?_,h4⟩
  ·show Hs.ins _ _=_;rw[h2,<-PS];refine Hp.ext' (λq=>?_) rfl;simp only[Hp.eD,Hp.aX];by_cases e:q=c.ch
   ·rw[iO e,iO e]
   rw[bY e,bY e]
  refine⟨λq x y hx hy=>?_,.inl rfl⟩;rcases(Ur hx).1 with rfl | rfl | rfl
  ·have:=h3.eS (J6 ok.ne s);rw[this]at hy;simp at hy
  ·have:=h3.eS (J7 c s);rw[this]at hy;simp at hy
  have:=h3.eS (J5 ok.AG ok.AF s);rw[this]at hy;simp at hy
 ·refine⟨λb o pm hb=>?_,λb x y hx hy=>?_,λb x hb=>.inr ⟨x,.inl hb,λ_=>rfl⟩,hA.perm.own λop bH=>.inl (jN op bH).1⟩
  ·have:b≠c.ch:=by rintro rfl;rw[Hp.kJ,GJ]at hb;simp at hb
   rw[pT b this];exact hA.le b o pm hb
  have e:b≠c.ch:=by rintro rfl;rw[Hp.kJ,GJ]at hx;simp at hx
  have:eG b=Hs b:=Hp.aE _ _ e;rw[this]at hy;exact hA.dis b x y hx hy
 ·show pP (s'.tag j) (s'.hd j) :: s'.tag j=_;by_cases e0:j=0
  ·subst e0;have e1:s'.tag 0=[30,n]:=aG;have e2:s'.hd 0=0:=upd_same s.hd 0 0;rw[iO rfl,e1,e2];rfl
  rw[bY e0,oJ j e0];rfl
 exact .inr (by simp[Hp.tagged,cd,ZP])
end
section
variable{P:bF}{d:Option Nat}{next:aN->Hp->Prop}{σ:aN}{H:Hp}{x:Operand}{f:FuncId}{e:Array Value->Sem Value}{aB:Array Operand}{ts:Array TypeId}{ty:TypeId}{vs:List Value}
theorem eT.MW(hx:eT P.toProgram f e):Va P.toProgram (aP (.call { callee:=.value (.func f),args:=aB,argTypes:=ts }) ty)=true:=by
 obtain⟨fn,h1,_,h3,_⟩:=hx.ex;have:fn.body.isSome=false:=by simpa using h3
 simp[Va,aP,h1,this]
theorem Lc(h2:(aB.toList.all λx=>(σ.get x).isSome)=true):((Op.call { callee:=.value (.func f),args:=aB,argTypes:=ts }).operands.all λx=>(σ.get x).isSome)=true:=by
 rw[qAe];intro x hx;simp only[Op.operands,Call.operands]at hx;simp only[qAg]at h2;simp only[qBn,qAx,qAB,qAb,DO,qAt]at hx h2;rcases hx with rfl | hx
 ·rfl
 exact h2 x hx
theorem Zr(hx:eT P.toProgram f e)(ha:σ.gets aB.toList=some vs){Post:Value->Hp->Prop}(h:Zm P (callFunc f vs.toArray) true false H Post)(hn:∀v H',Post v H'->next (σ.set d v) H') :
  (bC.raw (.call { callee:=.value (.func f),args:=aB,argTypes:=ts }) ty).m P d next σ H:=by
 obtain⟨h1,h2⟩:=Of ha;refine⟨?_,.inr ?_⟩
 ·exact Lc h2
 rw[ZmI (ρ:=λx=>(σ.get x).getD undef) rfl,hx.MW];have:aB.map (λx=>(σ.get x).getD undef)=vs.toArray:=by obtain⟨aB⟩:=aB;simp only[qBl];rw[h1]
 rw[this];exact h.mono hn
theorem OE(hx:eT P.toProgram f e)(ha:σ.gets aB.toList=some vs)(h:cD P (e vs.toArray) (λv _ H'=>next (σ.set d v) H') false H) :
  (bC.raw (.call { callee:=.value (.func f),args:=aB,argTypes:=ts }) ty).m P d next σ H:=by
 obtain⟨h1,h2⟩:=Of ha;refine⟨?_,.inl ?_⟩
 ·exact Lc h2
 rw[ZmI (ρ:=λx=>(σ.get x).getD undef) rfl];have:aB.map (λx=>(σ.get x).getD undef)=vs.toArray:=by obtain⟨aB⟩:=aB;simp only[qBl];rw[h1]
 rw[this];obtain⟨fn,g1,g2,g3,g4,g5⟩:=hx.ex;simp only[callFunc,Zh,VZ,g1,g2,g3,g4,g5,iN,qAk,qAM];exact⟨.inl ⟨f,rfl⟩,Vh (λv g H h=>(.inr h:_\/_)) h⟩
theorem Nw{o:Op}(ha:(o.operands.all λx=>(σ.get x).isSome)=true){Post:Value->Hp->Prop}(h:Zm P (execOp (λx=>(σ.get x).getD undef) (aP o ty)) (Va P (aP o ty)) false H Post)(hn:∀v H',Post v H'->next (σ.set d v) H'):(bC.raw o ty).m P d next σ H:=
 ⟨ha,.inr (h.mono hn)⟩
theorem VE{t2:TypeId}(e:σ.get x=some v){Post:Value->Hp->Prop}(h:Zm P (execOp (λx=>(σ.get x).getD undef) (aP (.convert t t2 x) ty)) (Va P (aP (.convert t t2 x) ty)) false H Post)(hn:∀v H',Post v H'->next (σ.set d v) H'):(bC.raw (.convert t t2 x) ty).m P d next σ H:=
 ⟨by simp[Op.operands,e],.inr (h.mono hn)⟩
theorem Vd(e:σ.get x=some v){Post:Value->Hp->Prop}(h:Zm P (execOp (λx=>(σ.get x).getD undef) (aP (.load t x) ty)) (Va P (aP (.load t x) ty)) true H Post)(hn:∀v H',Post v H'->next (σ.set d v) H'):(bC.jA (.load t x) ty).m P d next σ H:=
 ⟨by simp[Op.operands,e],h.mono hn⟩
end
