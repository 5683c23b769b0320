import Derived.Test.YtmfealhfgccmfaaGreatDoorP14
set_option linter.all false
def WE{G:Prop}(h:G:=by
  intro b x y h1 h2;exfalso;rcases(Ux h2).1 with rfl | rfl | rfl
  ·simp only[Hp.fW,UO,SU]at h1;have sS:FF c.M=some x:=h1;rw[p1]at sS;simp at sS
  ·simp only[Hp.fW,UO,SS]at h1;have sS:FF c.W=some x:=h1;rw[p2]at sS;simp at sS
  simp only[Hp.fW,UO,LB]at h1;have sS:FF c.ch=some x:=h1;rw[p3]at sS;simp at sS):G:=h
def LQ{G:Prop}(h:G:=by intro said q a _ op qL b oB _;simp only[qAk,iO]at qL;rw[qL]at oB;simp[MemAct.touch?]at oB):G:=h
def LK{G:Prop}(h:G:=by intro op qL x oK b oB;simp only[qAk,iO]at qL;rw[qL]at oK;simp[MemAct.touch?]at oK):G:=h
def TP{G:Prop}(h:G:=by
  intro b x hb;have vM:FF b=some x:=hb;refine⟨⟨x,?_⟩,?_,?_,?_⟩
  ·rw[N5];exact Hp.fS yS vM
  ·rintro rfl;rw[p1]at vM;simp at vM
  ·rintro rfl;rw[p2]at vM;simp at vM
  rintro rfl;rw[p3]at vM;simp at vM):G:=h
def TN{G:Prop}(h:G:=by
  intro b o pm oB;simp only[Hp.fW,UO]at oB;cases hh:H b with
  | some z=>rw[hh]at oB;exact hA.le b o pm (by rw[hh];exact oB)
  | none=>rw[hh]at oB;exact hA.leS b o pm (by rw[N5];exact Hp.fS yS oB)):G:=h
def TG{G:Prop}(h:G:=by
  intro b x oB;refine .inr ⟨x,?_,λ_=>rfl⟩;simp only[Hp.fW,UO]at oB;cases hh:H b with
  | some z=>rw[hh]at oB;exact .inl oB
  | none=>rw[hh]at oB;exact .inr (by rw[N5];exact Hp.fS yS oB)):G:=h
def TA{G:Prop}(h:G:=by
  have sS:1<=s.hd j:=by
   rcases qBd (s.hd j)with e0 | e0
   ·rw[<-hm,e0,ok.Ja]at pJ;simp at pJ
   exact e0
  exact e (hI.cnt.hinj j i h1 h2 hb pS sS (hm.trans xU.symm))):G:=h
def SZ{G:Prop}(h:G:=by
  have hj:ZY s j:=hj;show ZY _ j;unfold ZY at hj ⊢;have:j≠i:=by rintro rfl;rw[jD]at hj;simp[cd]at hj
  simp only[upd_ne _ _ this];exact hj):G:=h
def GZ{G:Prop}(h:G:=by
  unfold Vi at hj ⊢;simp only at hj;by_cases e:j=i
  ·subst e;rw[upd_same]at hj;simp[cd]at hj
  rw[upd_ne _ _ e]at hj;exact hj):G:=h
def AX{G:Prop}(h:G:=by
  by_cases e:cd (s.tag 0)=36
  ·have:=g4 e;omega
  have:=g5 e;omega):G:=h
def GQ{G:Prop}(h:G:=by exact hI.heap.imp (λ⟨a,b⟩=>⟨vK.2 a,b⟩) λ⟨a,Hl,b,cc,d⟩=>⟨λh=>a (vK.1 h),Hl,b,cc,d⟩):G:=h
def vR{G:Prop}(h:G:=by exact(Oz (P:=p) ha hr).trans (by rw[yR])):G:=h
namespace Go.LL
section
open Go.Conc
open Go.ConcN (sumTo upd sumTo_upd upd_ne upd_same)
section
variable{p:Program}{c:Cx}{i:Nat}{H:Hp}{f:FuncId}{wk nr:Bool}
theorem Mt{H:Hp}(h:cd H.cg≠0):H.tagc H.cg=H:=by
 refine Hp.ext' (λ_=>rfl) ?_;show(H.hd+1) :: H.cg=H.gh;unfold Hp.hd Hp.cg at *;match hg:H.gh with
 | []=>rw[hg]at h;exact absurd rfl h
 | 0 :: l=>rw[hg]at h;exact absurd rfl h
 | (n+1) :: l=>rfl
def Zgu{α:Type}(g:Nat->α)(i:Nat):upd g i (g i)=g:=by
 funext j;by_cases e:j=i
 ·subst e;rw[upd_same]
 rw[upd_ne _ _ e]
theorem U3(ok:c.Ok)(A:iU p f Extern.OsHooks.nano)(u:norace p f=true){vs:Array Value}(l:1<=cd H.cg/\cd H.cg<=19/\cd H.cg≠12) :
  Zm ((fX p c).prgW i) (callFunc f vs) wk nr H (λv m=>(∃z,v=.int .i64 z)/\m=H):=by
 refine MU ok (.inl ⟨l.1,l.2.1⟩) λs Hs t w g=>.inr ?_;obtain⟨b,q⟩:=YO g O;have o:ZU c s Hs t:=g.inv;have h:fY c { s with tag:=upd s.tag i H.cg }:=by rw[<-b,Zgu];exact o.cnt
 obtain⟨B,D,E⟩:=ZiA (i:=i) (d:=Deaf t i) (C:=c.toTC);have x:(callFunc f vs).runT p w #[]=(.ok (.value (.int .i64 ((w.os.mono+w.tick:Nat):Int))) w.later,#[Yy f]++#[⟨.output,true,false⟩]):=A.val rfl rfl;have r:=wM ok g;have y:=wW g;refine⟨_,H.cg,⟨⟨w.later,_,#[],s.mu,s.wg,x,λfn _=>seen_entry_out fn f u,h,B,D,?_,r,y,λ_ _ _=>rfl,rfl,⟨⟨w.tick,rfl⟩,rfl,rfl⟩,.inr ⟨id,id⟩⟩,.inr b.symm,by rw[b];omega,O,λe=>O,by rw[b];omega⟩,.inl ⟨l.1,l.2.1⟩,⟨_,rfl⟩,Mt O⟩;rw[E,V2 g (by rw[b];omega),b,iF O]
def Ly(ok:c.Ok){s:Ts}{Hs:Hp}{t:Trace}{w:World}(d:gX (fX p c) i H s Hs t w):H c.M=none/\H c.W=none/\H c.ch=none:=by
 have e:ZU c s Hs t:=d.inv;refine⟨?_,?_,?_⟩
 ·cases b:H c.M with
  | none=>rfl
  | some y=>have:=d.dis c.M _ _ b (e.atM ok);rw[this.1]at this;simp at this
 ·cases b:H c.W with
  | none=>rfl
  | some y=>have:=d.dis c.W _ _ b e.atW;rw[this.1]at this;simp at this
 cases b:H c.ch with
 | none=>rfl
 | some y=>have:=d.dis c.ch _ _ b (e.atC ok);rw[this.1]at this;simp at this
def Yr(ok:c.Ok)(R:iU p f (Extern.Race.marked .acquire))(Q:H.cg=[11]) :
  Zm ((fX p c).prgW i) (callFunc f #[.pointer (some (gZ c.M))]) wk nr H (λv H'=>v=Zx/\∃(l:List Nat) (u:Hp),c.PI l u/\H.hd ∉ l/\c.need H.hd=true/\u.gh=[]/\(H.tagc (12 :: l)).Comp u/\H'=(H.tagc (12 :: l)).join u):=by
 intro G C nx cs qB ha hG;refine .iW ⟨VZ (.inl (.inl (by rw[Q];simp[cd]))),.inr (.inl ⟨by show YI H.cg;rw[Q];exact .inl (by simp[cd]),λs Hs t w hA=>.inl ?_⟩)⟩;obtain⟨jD,E⟩:=YO hA (by rw[Q];simp[cd]);rw[Q]at jD;have r:ZU c s Hs t:=hA.inv;have hb:=UM hA (by rw[jD];simp[cd]) (by rw[jD];simp[cd]);have A:i≠0:=by have:=r.cnt.pos;omega
 have F:=XU hA (by rw[jD];simp);have hD:Deaf t i=0:=by rw[V2 hA (by rw[jD];simp[cd]),jD];rfl
 obtain⟨SU,SS,LB⟩:=Ly ok hA;have V:Yz (cd (s.tag i))=1:=by rw[jD];rfl
 have Z:¬ Va s:=by
  rintro⟨j,hj,e | e⟩
  ·have W:j≠i:=by rintro rfl;rw[jD]at e;simp[cd]at e
   have X:i<s.next:=hA.lt;have e1:=counts (tag:=s.tag) (l:=[0]) X Yz;have e2:=Ct.le Yz (upd s.tag i [0]) hj;rw[upd_ne _ _ W,e]at e2;have e3:Yz (cd [0])=0:=rfl;have e4:Yz 12=1:=rfl;have:=r.cnt.mu.L1;have:=r.cnt.mu.L2;omega
  have:=X4 r.cnt hj O;subst this;have:=r.cnt.over O hb hA.lt;rw[jD]at this;simp at this
 obtain⟨FF,N5,yS,K⟩:=(r.heap.resolve_left λh=>Z h.1).2;let u:Hp:=⟨FF.mem,[]⟩
 obtain⟨p1,p2,p3⟩:=ZeU ok yS;obtain⟨I,Y⟩:=(r.cnt.lwk i hb hA.lt).2.1 (by rw[jD];simp[cd]) (by rw[jD];simp[cd]);have hr:=X9 R (gZ c.M) w;have yR:seen p C.fn (#[Yy f]++#[⟨.mark (.acquire (gZ c.M)),false,true⟩])=#[⟨.mark (.acquire (gZ c.M)),false,true⟩]:=MS λx R=>by simp at R;subst R;exact⟨rfl,by simp⟩
 have hu:ZS i C #[⟨.mark (.acquire (gZ c.M)),false,true⟩]=#[{ g:=i,fn:=C.fn,pos:=C.place,act:=.mark (.acquire (gZ c.M)) }]:=by simp[ZS,ofEvents_eq,MemAct.ofEvent]
 have Jg:∀b x,u b=some x->Lg c Hs b:=by exact TP
 obtain⟨Pj,tr2⟩:=r.tr.take (y:={ g:=i,fn:=C.fn,pos:=C.place,act:=.mark (.acquire (gZ c.M)) }) rfl hD F;have D:(H.tagc (12 :: s.m9)).Comp u:=⟨λb x y h1 h2=>by
  have S:Hs b=some y:=by rw[N5];exact Hp.fS yS h2
  exact hA.dis b x y h1 S,.inr rfl⟩
 have N:((H.tagc (12 :: s.m9)).join u).gh=(H.hd+1) :: 12 :: s.m9:=by simp[Hp.gB,Hp.tagc,Hp.tagged,u]
 have L:fY c { s with tag:=upd s.tag i (12 :: s.m9) }:=by
  obtain⟨m1,m2⟩:=Mu.xK (more:=s.pm) (l:=12 :: s.m9) r.cnt.mu hA.lt (by rw[jD];rfl) rfl;have nO:=Wg.wZ (l:=12 :: s.m9) r.cnt.wg hA.lt A (by rw[jD];rfl) rfl;refine r.cnt.step hA.lt (.inr hb) s.wg m1 (OM m2 (by decide)) (λ_=>rfl) (λj _ _ _ hS=>⟨hS,DO _⟩) nO ?_ ⟨λe=>absurd e A,λe=>absurd e A,λ_=>DO _⟩ (λ_=>rfl) (λ_ _=>⟨by simp[cd],λe=>by simp[cd]at e⟩) (λ_ P=>?_) (λ_ _=>⟨by simp[cd],by simp[cd],by simp⟩) (λe=>absurd e A)
  ·unfold Mu.lO;split<;>first | (rename_i h;simp at h;done) | trivial
  rw[jD]at P;exact Ov.low P (by simp[cd]) (by simp[cd]) (by simp[cd]) (by simp[cd])
 refine⟨nx Zx,cs,w,(H.tagc (12 :: s.m9)).join u,{ s with tag:=upd s.tag i (12 :: s.m9) },kQ c s,#[⟨.mark (.acquire (gZ c.M)),false,true⟩],?_,?_,?_,λj=>?_,rfl,DO _,.inr λj hj=>?_,.inl rfl,.inl ⟨hG _ _ ⟨rfl,s.m9,u,?_,E ▸ Y,E ▸ I,rfl,D,rfl⟩,?_⟩⟩
 ·exact vR
 ·rw[hu];refine⟨DO _,λ_ _ _ _=>rfl,λb o pm h=>hA.leS b o pm (r.mw h),λb x h=>.inr ⟨x,.inr (r.mw h),λ_=>rfl⟩,.refl w,?_,?_,?_,?_⟩
  ·exact LK
  ·exact LQ
  ·intro op qL;simp only[qAk,iO]at qL;rw[qL];exact hA.leS.lt (r.atM ok)
  refine⟨L,Pj.sub (λj hj=>?_) (λb oB=>?_),λj hj U=>?_,λT=>?_,.inl ⟨⟨i,hA.lt,.inl (by simp[upd_same,cd])⟩,rfl⟩⟩
  ·exact GZ
  ·obtain⟨⟨x,oK⟩,b1,b2,b3⟩:=oB;exact absurd (oK.symm.trans (Mh b1 b2 b3)) (by simp)
  ·have:=XE (i:=i) (l:=12 :: s.m9) (es:=#[⟨.mark (.acquire (gZ c.M)),false,true⟩]) (fn:=C.fn) (pos:=C.place) r.deaf (λ_=>by rw[hD];rfl) hj U;rw[<-hu];exact this
  simp only[upd_ne _ _ (qAo A)]at T;have:=r.cnt.over O hb hA.lt;rw[jD]at this;simp at this
 ·rw[hu];refine⟨?_,?_,?_,?_⟩
  ·exact TN
  ·exact WE
  ·exact TG
  have h1:iQ (t++#[{ g:=i,fn:=C.fn,pos:=C.place,act:=.mark (.acquire (gZ c.M)) }]) i (H.tagc (12 :: s.m9)):=
   hA.perm.own λop qL=>.inl (by simp only[qAk,iO]at qL;rw[qL])
  refine h1.join λb o pm oB q a hq hl _=>?_;obtain⟨x,oK,uF⟩:=touch_of hq;exact tr2 b (Jg b _ oB) q x a oK uF hl
 ·show ZO _ j=_;rw[N];refine(XL (i:=i) (l:=12 :: s.m9) (s:=s) (s':={ s with tag:=upd s.tag i (12 :: s.m9) }) rfl rfl j).trans ?_;rw[ML (by simp[cd]),E];rfl
 ·exact SZ
 ·have:u.mem=FF.mem:=rfl;exact ok.fL _ _ _ K
 show U2 _;rw[N];exact .inl (by simp[cd,ZV])
def Zzw(ok:c.Ok)(X:iU p f (Extern.Race.marked .releaseMerge)){m r:Hp}{l:List Nat}(hc:m.Comp r)(hg:m.cg=12 :: l)(R:c.PI (l++[m.hd]) r) :
  Zm ((fX p c).prgW i) (callFunc f #[.pointer (some (gZ c.M))]) wk nr (m.join r) (λv H'=>v=Zx/\H'=m.tagc [13]):=by
 have B7:r.gh=[]:=hc.gh.resolve_left (VZ (.inl (.inl (by rw[hg];simp[cd]))));have F:(m.join r).gh=m.gh:=by rw[Hp.gB,B7];simp
 have E:(m.join r).cg=12 :: l:=by unfold Hp.cg;rw[F];exact hg
 have hjh:(m.join r).hd=m.hd:=by unfold Hp.hd;rw[F]
 intro G D nx cs S ha hG;refine .iW ⟨VZ (.inl (.inl (by rw[E];simp[cd]))),.inr (.inl ⟨by show YI (m.join r).cg;rw[E];exact .inl (by simp[cd]),λs Hs t w A=>.inl ?_⟩)⟩;obtain⟨jD,xU⟩:=YO A (by rw[E];simp[cd]);rw[E]at jD;rw[hjh]at xU;have pS:i<s.next:=A.lt;have hI:ZU c s Hs t:=A.inv;have hb:=UM A (by rw[jD];simp[cd]) (by rw[jD];simp[cd]);have B:i≠0:=by have:=hI.cnt.pos;omega
 have F2:=XU A (by rw[jD];simp);have hD:Deaf t i=0:=by rw[V2 A (by rw[jD];simp[cd]),jD];rfl
 obtain⟨SU,SS,LB⟩:=Ly ok A;have C:s.m9=l:=by have:=hI.cnt.tk i pS (by rw[jD];rfl);rw[jD]at this;simpa using this.symm
 have vK:Va s:=⟨i,pS,.inl (by rw[jD];rfl)⟩;have J:Hs=kQ c s:=by
  rcases hI.heap with h | h
  ·exact h.2
  exact absurd vK h.1
 have aEd:Yz (cd (s.tag i))=1:=by rw[jD];rfl
 obtain⟨pJ,N⟩:=(hI.cnt.lwk i hb pS).2.1 (by rw[jD];simp[cd]) (by rw[jD];simp[cd]);have hr:=X9 X (gZ c.M) w;have yR:seen p D.fn (#[Yy f]++#[⟨.mark (.releaseMerge (gZ c.M)),false,true⟩])=#[⟨.mark (.releaseMerge (gZ c.M)),false,true⟩]:=MS λx X=>by simp at X;subst X;exact⟨rfl,by simp⟩
 have hu:ZS i D #[⟨.mark (.releaseMerge (gZ c.M)),false,true⟩]=#[{ g:=i,fn:=D.fn,pos:=D.place,act:=.mark (.releaseMerge (gZ c.M)) }]:=by simp[ZS,ofEvents_eq,MemAct.ofEvent]
 have I:∀b x,r b=some x->(m.join r) b=some x:=λb x h=>Hp.fS hc h;have hlM:r c.M=none:=(Hp.hQ.1 SU).2;have hlW:r c.W=none:=(Hp.hQ.1 SS).2;have hlC:r c.ch=none:=(Hp.hQ.1 LB).2;have V:¬ Va { s with tag:=upd s.tag i [13],m9:=l++[m.hd] }:=by
  rintro⟨j,hj,e⟩;by_cases L:j=i
  ·subst L;simp only[upd_same,cd]at e;simp at e
  simp only[upd_ne _ _ L]at e;rcases e with e | e
  ·have e1:=counts (tag:=s.tag) (l:=[0]) pS Yz;have e2:=Ct.le Yz (upd s.tag i [0]) hj;rw[upd_ne _ _ L,e]at e2;have e3:Yz (cd [0])=0:=rfl;have e4:Yz 12=1:=rfl;have:=hI.cnt.mu.L1;have:=hI.cnt.mu.L2;simp only at e2;omega
  have:=X4 hI.cnt hj O;subst this;have:=hI.cnt.over O hb pS;rw[jD]at this;simp at this
 have T:fY c { s with tag:=upd s.tag i [13],m9:=l++[m.hd] }:=by
  obtain⟨m1,m2⟩:=Mu.xJ (more:=s.pm) (l:=[13]) hI.cnt.mu pS (by rw[jD];rfl) rfl;have nO:=Wg.wY (l:=[13]) hI.cnt.wg pS B (by rw[jD];rfl) rfl;have u:∀j,j∈l++[m.hd]↔j∈s.m9\/j=m.hd:=by intro j;rw[C];simp
  rw[xU]at pJ N;refine⟨m1,nO,λj hj=>?_,λv=>?_,λk n P hl=>?_,λj hj K=>?_,hI.cnt.num,hI.cnt.pos,hI.cnt.nb,λj h1 h2=>?_,λj h1 h2=>?_,?_,λj hj=>?_,λj h1 h2=>?_,hI.cnt.hd0,hI.cnt.mle,hI.cnt.hdw,hI.cnt.hinj,λq h1 h2 h3=>?_,λS j h1 h2=>?_,λh1=>?_⟩
  ·by_cases e:j=i
   ·subst e;simp only[upd_same];trivial
   simp only[upd_ne _ _ e];exact(hI.cnt.says j hj).keep (OM m2 (by decide)) (λ_=>rfl) λ_ hS=>⟨hS,DO _⟩
  ·simp only[upd_ne _ _ (qAo B)];exact hI.cnt.saysM v
  ·simp only[upd_ne _ _ (qAo B)]at hl;exact hI.cnt.cntN k n P hl
  ·exfalso;exact V ⟨j,hj,.inl K⟩
  ·have:j≠i:=by rintro rfl;omega
   simp only[upd_ne _ _ this];exact hI.cnt.olds j h1 h2
  ·by_cases e:j=i
   ·subst e;simp only[upd_same];exact⟨by simp[cd],λe=>by simp[cd]at e⟩
   simp only[upd_ne _ _ e];exact hI.cnt.works j h1 h2
  ·have:=hI.cnt.lnd;rw[C]at this;refine List.nodup_append.2 ⟨this,by simp,λa ha b hb e=>?_⟩;simp only[iO]at hb;rw[e,hb]at ha;rw[C]at N;exact N ha
  ·rcases(u j).1 hj with h1 | rfl
   ·exact hI.cnt.lmem j h1
   refine⟨?_,?_,pJ⟩
   ·rcases qBd m.hd with e | e
    ·rw[e,ok.Ja]at pJ;simp at pJ
    exact e
   have:=hI.cnt.hdw i hb pS;rwa [xU]at this
  ·have P:=hI.cnt.lwk j h1 h2;by_cases e:j=i
   ·subst e;simp only[upd_same];exact⟨λe=>by simp[cd]at e,λ_ e=>by simp[cd]at e,λ_ _=>(u _).2 (.inr xU)⟩
   simp only[upd_ne _ _ e];refine⟨λh=>?_,λh h'=>⟨(P.2.1 h h').1,?_⟩,λh hn=>(u _).2 (.inl (P.2.2 h hn))⟩;all_goals
    rintro hm
    rcases(u _).1 hm with hm | hm
   ·exact P.1 h hm
   ·exact TA
   ·exact(P.2.1 h h').2 hm
   exact TA
  ·rcases hI.cnt.compl q h1 h2 h3 with h4 | h4
   ·exact .inl ((u q).2 (.inl h4))
   exact .inr h4
  ·by_cases e:j=i
   ·subst e;simp only[upd_same];simp[cd]
   simp only[upd_ne _ _ e];exact hI.cnt.run S j h1 h2
  simp only[upd_ne _ _ (qAo B)]at h1;exact hI.cnt.NS h1
 have U:(kQ c s).Comp r:=⟨λb x y h1 h2=>by
  rcases(Ux h1).1 with rfl | rfl | rfl
  ·rw[hlM]at h2;simp at h2
  ·rw[hlW]at h2;simp at h2
  rw[hlC]at h2;simp at h2,.inl rfl⟩
 refine⟨nx Zx,cs,w,m.tagc [13],{ s with tag:=upd s.tag i [13],m9:=l++[m.hd] },(kQ c s).join r,#[⟨.mark (.releaseMerge (gZ c.M)),false,true⟩],?_,?_,?_,λj=>?_,rfl,DO _,.inr λj hj=>?_,.inl rfl,.inl ⟨hG _ _ ⟨rfl,rfl⟩,.inl (by simp[Hp.tagc,Hp.tagged,ZV,cd])⟩⟩
 ·exact vR
 ·rw[hu];refine⟨DO _,λ_ _ _ _=>rfl,?_,?_,.refl w,?_,?_,?_,?_⟩
  ·intro b o pm h;simp only[Hp.fW]at h;cases hh:kQ c s b with
   | some z=>rw[hh]at h;exact A.leS b o pm (by rw[J];exact hh.trans h)
   | none=>rw[hh]at h;exact A.le b o pm (I b _ h)
  ·intro b x h;simp only[Hp.fW]at h;cases hh:kQ c s b with
   | some z=>rw[hh]at h;exact .inr ⟨x,.inr (by rw[J];exact hh.trans h),λ_=>rfl⟩
   | none=>rw[hh]at h;exact .inr ⟨x,.inl (I b _ h),λ_=>rfl⟩
  ·exact LK
  ·exact LQ
  ·intro op qL;simp only[qAk,iO]at qL;rw[qL];exact A.leS.lt (hI.atM ok)
  have Pj:=hI.tr.Xd (y:={ g:=i,fn:=D.fn,pos:=D.place,act:=.mark (.releaseMerge (gZ c.M)) }) rfl hD ⟨hb,pS,by unfold Vi;rw[jD];simp[cd]⟩ (RA:=Lg c ((kQ c s).join r)) (λb oB=>.inr λq x a hq ha' K8=>by obtain⟨⟨y,Y⟩,b1,b2,b3⟩:=oB;have hmn:kQ c s b=none:=Mh b1 b2 b3;simp only[Hp.fW]at Y;rw[hmn]at Y;have hw:=ok.own _ _ R b y Y;refine A.perm b y.1 y.2 (I b _ Y) q a ?_ K8 (.inl hw);rw[touchAt_of hq];exact ha');refine⟨T,Pj.sub (λj hj=>?_) (λ_ h=>h),λj hj K=>?_,λSV=>?_,.inr ⟨V,r,rfl,U,R⟩⟩
  ·exact GZ
  ·have:=XE (i:=i) (l:=[13]) (es:=#[⟨.mark (.releaseMerge (gZ c.M)),false,true⟩]) (fn:=D.fn) (pos:=D.place) hI.deaf (λ_=>by rw[hD];rfl) hj K;rw[<-hu];exact this
  simp only[upd_ne _ _ (qAo B)]at SV;have:=hI.cnt.over O hb pS;rw[jD]at this;simp at this
 ·rw[hu];refine⟨λb o pm h=>A.le b o pm (Hp.eN h),?_,λb x h=>.inr ⟨x,.inl (Hp.eN h),λ_=>rfl⟩,?_⟩
  ·intro b x y h1 h2;simp only[Hp.fW]at h2;cases hh:kQ c s b with
   | some z=>rw[hh]at h2;exact A.dis b x y (Hp.eN h1) (by rw[J];exact hh.trans h2)
   | none=>rw[hh]at h2;exact hc b x y h1 h2
  have h1:iQ (t++#[{ g:=i,fn:=D.fn,pos:=D.place,act:=.mark (.releaseMerge (gZ c.M)) }]) i (m.join r):=
   A.perm.own λop qL=>.inl (by simp only[qAk,iO]at qL;rw[qL])
  exact h1.left
 ·refine(XL (i:=i) (l:=[13]) (s:=s) (s':={ s with tag:=upd s.tag i [13],m9:=l++[m.hd] }) rfl rfl j).trans ?_;rw[ML (by simp[cd]),xU];rfl
 exact SZ
def Zzu(ok:c.Ok)(J:iU p f (Extern.Race.marked .releaseMerge))(I:H.cg=[19,1]) :
  Zm ((fX p c).prgW i) (callFunc f #[.pointer (some (gZ c.W))]) wk nr H (λv U=>v=Zx/\U=H.tagc [20]):=by
 have m:1<=cd H.cg/\cd H.cg<=19/\cd H.cg≠12/\cd H.cg≠7:=by rw[I];simp[cd]
 intro G u Y V r ha X;refine .iW ⟨VZ (.inl (.inl ⟨m.1,m.2.1⟩)),.inr (.inl ⟨.inl ⟨m.1,m.2.1⟩,λs Hs t w q=>.inl ?_⟩)⟩;obtain⟨d,P⟩:=YO q O;have C:i<s.next:=q.lt;have hI:ZU c s Hs t:=q.inv;have hb:=UM q (by rw[d];exact m.1) (by rw[d];omega);have Q:i≠0:=by have:=hI.cnt.pos;omega
 have T:Deaf t i=0:=by rw[V2 q (by rw[d];omega),d,I];rfl
 have r:s.cls=true:=by
  cases r:s.cls with
  | true=>rfl
  | false=>exact absurd (d.trans I) (hI.cnt.run r i hb C).2.2
 have hr:=X9 J (gZ c.W) w;have yR:seen p u.fn (#[Yy f]++#[⟨.mark (.releaseMerge (gZ c.W)),false,true⟩])=#[⟨.mark (.releaseMerge (gZ c.W)),false,true⟩]:=MS λx J=>by simp at J;subst J;exact⟨rfl,by simp⟩
 have R:ZS i u #[⟨.mark (.releaseMerge (gZ c.W)),false,true⟩]=#[{ g:=i,fn:=u.fn,pos:=u.place,act:=.mark (.releaseMerge (gZ c.W)) }]:=by simp[ZS,ofEvents_eq,MemAct.ofEvent]
 have E:fY c { s with tag:=upd s.tag i [20] }:=by exact(hI.cnt.oP (l:=[20]) C hb (by rw[d,I];rfl) rfl r trivial).1
 have vK:Va { s with tag:=upd s.tag i [20] }↔Va s:=by
  constructor
  ·rintro⟨j,L,B⟩;by_cases e:j=i
   ·subst e;simp only[upd_same,cd]at B;simp at B
   simp only[upd_ne _ _ e]at B;exact⟨j,L,B⟩
  rintro⟨j,L,B⟩;by_cases e:j=i
  ·subst e;rw[d]at B;omega
  exact⟨j,L,by simp only[upd_ne _ _ e];exact B⟩
 refine⟨Y Zx,V,w,H.tagc [20],{ s with tag:=upd s.tag i [20] },Hs,#[⟨.mark (.releaseMerge (gZ c.W)),false,true⟩],?_,?_,?_,λj=>?_,rfl,DO _,.inr λj o=>?_,.inl rfl,.inr ⟨by show M1 _;simp[Hp.tagc,Hp.tagged,M1,Yf,ZV,cd],X _ _ ⟨rfl,rfl⟩⟩⟩
 ·exact vR
 ·rw[R];refine⟨DO _,λ_ _ _ _=>rfl,q.leS,λb x h=>.inr ⟨x,.inr h,λ_=>rfl⟩,.refl w,?_,?_,?_,?_⟩
  ·exact LK
  ·exact LQ
  ·intro op qL;simp only[qAk,iO]at qL;rw[qL];exact q.leS.lt hI.atW
  have S:=Tr.release ok.ne hI.tr (y:={ g:=i,fn:=u.fn,pos:=u.place,act:=.mark (.releaseMerge (gZ c.W)) }) rfl T;refine⟨E,S.sub (λj o=>?_) (λ_ h=>h),λj o N=>?_,λM=>?_,?_⟩
  ·unfold Vi at o ⊢;simp only at o;by_cases e:j=i
   ·exact .inr e
   rw[upd_ne _ _ e]at o;exact .inl o
  ·have:=XE (i:=i) (l:=[20]) (es:=#[⟨.mark (.releaseMerge (gZ c.W)),false,true⟩]) (fn:=u.fn) (pos:=u.place) hI.deaf (λ_=>by rw[T];rfl) o N;rw[<-R];exact this
  ·simp only[upd_ne _ _ (qAo Q)]at M;have:=hI.cnt.over O hb C;rw[d]at this;rw[this]at m;simp[cd]at m
  exact GQ
 ·rw[R];exact⟨q.le,q.dis,λb x h=>.inr ⟨x,.inl h,λ_=>rfl⟩,q.perm.own λop qL=>.inl (by simp only[qAk,iO]at qL;rw[qL])⟩
 ·refine(XL (i:=i) (l:=[20]) (s:=s) (s':={ s with tag:=upd s.tag i [20] }) rfl rfl j).trans ?_;rw[ML (by simp[cd]),P];rfl
 have o:ZY s j:=o;show ZY _ j;unfold ZY at o ⊢;have:j≠i:=by rintro rfl;rw[d]at o;omega
 simp only[upd_ne _ _ this];exact o
end
end
section
variable{Hs:Hp}{t:Trace}{w:World}{z v:Int}{k:IntKind}{a:Addr}{vs:Array Value}{n:Nat}
open Go.Conc
open Go.ConcN (sumTo upd sumTo_upd upd_ne upd_same)
section
variable{p:Program}{c:Cx}{i:Nat}{H:Hp}{s:Ts}{f:FuncId}{wk nr:Bool}
def mI(v b:Nat):Nat:=v * 4294967296+b
def Un(b:gX (fX p c) i H s Hs t w):w.cell? ⟨c.W,0,none⟩=some (.int .u64 (mI s.wg.v s.wg.wt:Nat))/\w.frozen? ⟨c.W,0,none⟩=false/\w.cell? ⟨c.W,1,none⟩=some (.int .u32 (s.wg.wm:Nat))/\w.frozen? ⟨c.W,1,none⟩=false:=by obtain⟨d,e⟩:=V4 (off:=0) (v:=.int .u64 (mI s.wg.v s.wg.wt:Nat)) (wW b) rfl;obtain⟨g,h⟩:=V4 (off:=1) (v:=.int .u32 (s.wg.wm:Nat)) (wW b) rfl;exact⟨d,e,g,h⟩
def Zee(b:0<=z)(d:z<=18446744073709551615):IntKind.u64.wrap z=z:=by exact xX
def ZnL(b:18446744073709551616<=z)(d:z<=36893488147419103231):IntKind.u64.wrap z=z-18446744073709551616:=by exact xX
def fY.rZ(ok:c.Ok)(h:fY c s):s.wg.v<=100000001/\s.wg.wt<=1:=by have l:=h.BI (g:=cW) (λn=>Ax _) rfl (λn r=>by simp[cW,one];omega);have m:=h.num;have o:=ok.FQ;have q:mP (cd (s.tag 0))<=1:=Ax _;obtain⟨b,d,e,g4,g5,j⟩:=h.wg;refine⟨O,?_⟩;exact AX
def Nn(d:iU p f (Extern.Atomic.loadT (.int k)))(b:w.cell? a=some (.int k v)) :
  (callFunc f #[.pointer (some a)]).runT p w #[]=(.ok (.value (.int k v)) w,#[Yy f]++#[⟨.cell a,false,true⟩]):=by
 refine d.val ?_ ?_
 ·change Sem.run p (do Extern.Atomic.read (.int k) (<-asAddr (.pointer (some a)))) w=_;simp[Extern.Atomic.read,asAddr,b]
 change Sem.events p (do Extern.Atomic.read (.int k) (<-asAddr (.pointer (some a)))) w _=_;simp[Extern.Atomic.read,asAddr,b,events_load]
def ZpC(e:iU p f Extern.Atomic.storeT){u:Value}(b:w.cell? a=some u)(d:w.frozen? a=false) :
  (callFunc f #[.pointer (some a),.int k v]).runT p w #[]=(.ok (.value Zx) (w.setCell a (.int k v)),#[Yy f]++#[⟨.cell a,true,true⟩]):=by
 refine e.val ?_ ?_
 ·change Sem.run p (do
   store (<-asAddr (.pointer (some a))) (.int k v) .atomic
   pure Extern.Atomic.none_) w=_
  simp[asAddr,b,d,run_store p w a (.int k v) .atomic rfl,Extern.Atomic.none_,Result.andThen]
 change Sem.events p (do
  store (<-asAddr (.pointer (some a))) (.int k v) .atomic
  pure Extern.Atomic.none_) w _=_
 simp[asAddr,b,d,events_store p w _ a (.int k v) .atomic rfl]
def XM(d:gX (fX p c) i (.fL H.gh) s Hs t w)(h:Yf H.cg):s.tag i=H.cg/\ZU c s Hs t/\i<s.next/\c.base<=i/\i≠0/\Deaf t i=df (cd H.cg):=by have b:s.tag i=H.cg:=(YO d (MG (.inr h))).1;have g:ZU c s Hs t:=d.inv;unfold Yf at h;have hb:=UM d (by rw[b];omega) (by rw[b];omega);exact⟨b,g,d.lt,hb,by have:=g.cnt.pos;omega,by rw[V2 d (by rw[b];omega),b]⟩
theorem Zvl(ok:c.Ok)(y:iU p f (λ_=>do mark .disable;pure Zx))(e:H.cg=[20]):Zm ((fX p c).prgW i) (callFunc f vs) wk nr H (λv o=>v=Zx/\o=H.tagc [21]):=by refine Af ok (by rw[e];simp[Yf,cd]) λs Hs t w h=>.inr ⟨Zx,[21],?_,.inl ⟨by simp[Yf,cd],rfl,rfl⟩⟩;obtain⟨b,u,g,hb,x,j⟩:=XM h (by rw[e];simp[Yf,cd]);rw[e]at b j;obtain⟨q,r⟩:=Ls (C:=c.toTC) (i:=i) (d:=Deaf t i) (m:=.disable) (.inl rfl);refine iB.BV ok h (Aa (by simp) y vs w) (λfn _=>Ad (by simp) fn) (.inl ⟨rfl,rfl⟩) (u.cnt.oO (l:=[21]) g hb (by rw[b];rfl) rfl trivial).1 ⟨q,r,?_⟩ (.inr id) (Y8 (by rw[b];simp[cd]) (by rw[b];simp[cd])) (by rw[b];simp[cd]) (by simp[cd]) (λ_=>.inl (by rw[b];simp[cd]));rw[j];rfl
theorem Zvm(ok:c.Ok)(K:iU p f (Extern.Atomic.update (Op.intArith .add) .u64 true))(u:H.cg=[21]) :
  Zm ((fX p c).prgW i) (callFunc f #[.pointer (some (gZ c.W)),.int .u64 18446744069414584320]) wk nr H (λv A=>∃n g,n<=100000000/\g<=1/\v=.int .u64 (mI n g:Nat) /\
   (((n≠0\/g=0)/\A=H.tagged (lv 1))\/(n=0/\g=1/\A=H.tagc [22]))):=by
 refine Af ok (by rw[u];simp[Yf,cd]) λs Hs t w q=>.inr ?_
 obtain⟨b,r,h,hb,I,j⟩:=XM q (by rw[u];simp[Yf,cd])
 rw[u]at b j
 replace j:Deaf t i=1:=j
 obtain⟨G,L,_⟩:=Un q
 obtain⟨P,o⟩:=r.cnt.rZ ok
 have J:1<=s.wg.v:=by
  have M:=Ct.le cW s.tag h;have N:cW (cd (s.tag i))=1:=by rw[b];rfl
  have:=r.cnt.wg.v1;omega
 have y:=ZeM K (d:=18446744069414584320) G L
 have m:IntKind.u64.wrap (((mI s.wg.v s.wg.wt:Nat):Int)+18446744069414584320)=((mI (s.wg.v-1) s.wg.wt:Nat):Int):=by unfold mI;rw[ZnL]<;>omega
 rw[m]at y
 obtain⟨B,D,E⟩:=UB (i:=i) (d:=Deaf t i) (C:=c.toTC) (XG (off:=0) (.inr rfl)) O
 have F:∀{l:List Nat},¬ ZY s i\/l=s.tag i:=Y8 (by rw[b];simp[cd]) (by rw[b];simp[cd])
 by_cases x:s.wg.v=1/\s.wg.wt=1
 ·refine⟨_,[22],iB.yN (y':={ s.wg with v:=s.wg.v-1 }) ok q y (λfn _=>QA) (.inr ⟨0,_,rfl,rfl⟩) (r.cnt.BH (l:=[22]) h hb (by rw[b];rfl) rfl trivial x) ⟨B,D,by rw[E,j];rfl⟩ (.inr id) F (by rw[b];simp[cd]) (by simp[cd]) (λ_=>.inl (by rw[b];simp[cd])),
   .inl ⟨by simp[Yf,cd],s.wg.v-1,s.wg.wt,O,o,rfl,.inr ⟨O,x.2,rfl⟩⟩⟩
 ·refine⟨_,[0],iB.yN (y':={ s.wg with v:=s.wg.v-1 }) ok q y (λfn _=>QA) (.inr ⟨0,_,rfl,rfl⟩) (r.cnt.BG h hb (by rw[b];rfl) x) ⟨B,D,by rw[E,j];rfl⟩ (.inr id) F (by rw[b];simp[cd]) (by simp[cd]) (λ_=>.inl (by rw[b];simp[cd])),
   .inr ⟨rfl,s.wg.v-1,s.wg.wt,O,o,rfl,.inl ⟨O,rfl⟩⟩⟩
def ZlC(h:fY c s)(b:i<s.next)(d:cL (cd (s.tag i))=1):s.wg.v=0/\s.wg.wt=1/\s.wg.wm=0:=by have m:=Ct.le cL s.tag b;obtain⟨e,g,j,g4,g5,l⟩:=h.wg;exact AX
theorem Zvk(ok:c.Ok)(y:iU p f (Extern.Atomic.loadT (.int .u64)))(j:H.cg=[22]) :
  Zm ((fX p c).prgW i) (callFunc f #[.pointer (some (gZ c.W))]) wk nr H (λv q=>v=.int .u64 (1:Nat)/\q=H.tagc [23]):=by
 refine Af ok (by rw[j];simp[Yf,cd]) λs Hs t w h=>.inr ?_;obtain⟨b,m,e,hb,x,g⟩:=XM h (by rw[j];simp[Yf,cd]);rw[j]at b g;replace g:Deaf t i=1:=g;obtain⟨o,F,_⟩:=Un h;obtain⟨r,u,E⟩:=ZlC m.cnt e (by rw[b];rfl);rw[r,u]at o;obtain⟨A,B,D⟩:=UB (i:=i) (d:=Deaf t i) (C:=c.toTC) (PU (off:=0) (wr:=false) (.inr rfl)) O;refine⟨_,[23],iB.yN ok h (Nn y o) (λfn _=>MT) (.inl ⟨rfl,rfl⟩) (m.cnt.oN (l:=[23]) e hb (by rw[b];rfl) rfl trivial).1 ⟨A,B,by rw[D,g];rfl⟩ (.inr id) (Y8 (by rw[b];simp[cd]) (by rw[b];simp[cd])) (by rw[b];simp[cd]) (by simp[cd]) (λ_=>.inl (by rw[b];simp[cd])),
  .inl ⟨by simp[Yf,cd],rfl,rfl⟩⟩
theorem Zvi(ok:c.Ok)(x:iU p f Extern.Atomic.storeT)(j:H.cg=[23]) :
  Zm ((fX p c).prgW i) (callFunc f #[.pointer (some (gZ c.W)),.int .u64 (0:Nat)]) wk nr H (λv o=>v=Zx/\o=H.tagc [24]):=by
 refine Af ok (by rw[j];simp[Yf,cd]) λs Hs t w h=>.inr ?_;obtain⟨b,m,e,hb,u,g⟩:=XM h (by rw[j];simp[Yf,cd]);rw[j]at b g;replace g:Deaf t i=1:=g;obtain⟨r,y,_⟩:=Un h;obtain⟨q,E,F⟩:=ZlC m.cnt e (by rw[b];rfl);obtain⟨A,B,D⟩:=UB (i:=i) (d:=Deaf t i) (C:=c.toTC) (PU (off:=0) (wr:=true) (.inr rfl)) O;refine⟨_,[24],iB.yN (y':={ s.wg with wt:=0 }) ok h (ZpC x r y) (λfn _=>MT) (.inr ⟨0,_,rfl,by rw[q];rfl⟩) (m.cnt.uO (l:=[24]) e hb (by rw[b];rfl) rfl trivial) ⟨A,B,by rw[D,g];rfl⟩ (.inr id) (Y8 (by rw[b];simp[cd]) (by rw[b];simp[cd])) (by rw[b];simp[cd]) (by simp[cd]) (λ_=>.inl (by rw[b];simp[cd])),
  .inl ⟨by simp[Yf,cd],rfl,rfl⟩⟩
def Zvj(ok:c.Ok)(D:iU p f Extern.Sync.semrelease)(o:vs[0]? = some (.pointer (some ⟨c.W,1,none⟩)))(m:H.cg=[24]) :
  Zm ((fX p c).prgW i) (callFunc f vs) true nr H (λv x=>v=Zx/\x=H.tagged (lv 1)):=by
 refine Af ok (by rw[m];simp[Yf,cd]) λs Hs t w l=>.inr ?_;obtain⟨e,r,g,hb,A,j⟩:=XM l (by rw[m];simp[Yf,cd]);rw[m]at e j;replace j:Deaf t i=1:=j;obtain⟨_,_,y,E⟩:=Un l;have q:s.wg.wm=0:=by
  have N:=Ct.le cE s.tag g;have O:cE (cd (s.tag i))=1:=by rw[e];rfl
  obtain⟨J,K,L,g4,g5,M⟩:=r.cnt.wg;exact AX
 obtain⟨F,G,I⟩:=Lt (C:=c.toTC) (i:=i) (d:=Deaf t i) (b:=c.W) (off:=1) (.inr rfl);have u:=Zhv D o y E;have B:IntKind.u32.wrap (((s.wg.wm:Nat):Int)+1)=((s.wg.wm+1:Nat):Int):=by rw[q];rfl
 rw[B]at u;refine⟨_,[0],iB.yN (y':={ s.wg with wm:=s.wg.wm+1 }) ok l u (λfn _=>Nr) (.inr ⟨1,_,rfl,rfl⟩) (r.cnt.zJ g hb (by rw[e];rfl)) ⟨F,G,by rw[I,j];rfl⟩ (.inl rfl) (Y8 (by rw[e];simp[cd]) (by rw[e];simp[cd])) (by rw[e];simp[cd]) (by simp[cd]) (λ_=>.inl (by rw[e];simp[cd])),
  .inr ⟨rfl,rfl,rfl⟩⟩
def Zuz(e:iU p f (λ_=>do mark .enable;pure Zx))(d:H.gh=lv 1):Zm ((fX p c).prgW i) (callFunc f vs) wk nr H (λv b=>v=Zx/\b=H.tagged (lv 0)):=
 ZoZ d (λw=>Aa (by simp) e vs w) (λfn=>Ad (by simp) fn) (by simp[Event.mute]) ⟨rfl,rfl⟩
def Oi(e:gX (fX p c) 0 H s Hs t w)(g:30<=cd H.cg):s.tag 0=H.cg/\ZU c s Hs t/\Deaf t 0=df (cd H.cg):=by have b:s.tag 0=H.cg:=(YO e O).1;exact⟨b,e.inv,by rw[V2 e (by rw[b];omega),b]⟩
def fY.closed(h:fY c s)(d:s.hd 0=0):s.cls=true:=by
 cases b:s.cls with
 | true=>rfl
 | false=>have:=h.hd0.2 b;omega
theorem Mc(ok:c.Ok){m:Mark}(u:m=.disable\/m=.enable)(G:iU p f (λ_=>do mark m;pure Zx)){l:List Nat}(r:30<=cd H.cg/\cd H.cg<=39/\cd H.cg≠36)(F:30<=cd l/\cd l<=39)
  (q:deafBehind (df (cd H.cg)) #[⟨.mark m,false,true⟩]=df (cd l)) (h:∀s:Ts,fY c s->s.tag 0=H.cg->s.hd 0=H.hd->fY c { s with tag:=upd s.tag 0 l }):Zm ((fX p c).prgM) (callFunc f vs) wk nr H (λv y=>v=Zx/\y=H.tagc l):=by
 have j:∀g,m≠.extern g:=by rcases u with rfl | rfl<;>simp
 refine MV ok r.1 λs Hs t w o=>.inr ⟨Zx,l,?_,F.1,rfl,rfl⟩;obtain⟨b,E,D⟩:=Oi o r.1;obtain⟨A,B⟩:=Ls (C:=c.toTC) (i:=0) (d:=Deaf t 0) (m:=m) (by rcases u with rfl | rfl<;>simp);refine iB.BV ok o (Aa j G vs w) (λfn _=>Ad j fn) (.inl ⟨rfl,rfl⟩) (h s E.cnt b (YO o O).2) ⟨A,B,?_⟩ (.inr id) (Y8 (by rw[b];omega) (by rw[b];omega)) (by rw[b];omega) O (λe=>.inl (by rw[b];omega));rw[D,q,iF O]
def Zuu(ok:c.Ok)(j:iU p f (λ_=>do mark .disable;pure Zx))(b:H.cg=[30,n]):Zm ((fX p c).prgM) (callFunc f vs) wk nr H (λv g=>v=Zx/\g=H.tagc [31,n]):=
 Mc ok (.inl rfl) j (by rw[b];simp[cd]) (by simp[cd]) (by rw[b];rfl) λs h d _=>h.tQ (l:=[31,n]) (by rw[d,b];rfl) rfl λk m e=>by simp at e;rw[e.2.symm];exact h.cntN 30 n O (d.trans b)
def Zus(ok:c.Ok)(j:iU p f (λ_=>do mark .enable;pure Zx))(b:H.cg=[32,n]):Zm ((fX p c).prgM) (callFunc f vs) wk nr H (λv g=>v=Zx/\g=H.tagc [33,n]):=
 Mc ok (.inr rfl) j (by rw[b];simp[cd]) (by simp[cd]) (by rw[b];rfl) λs h d _=>h.tO (l:=[33,n]) (by rw[d,b];rfl) rfl λk m e=>by simp at e;rw[e.2.symm];exact h.cntN 32 n O (d.trans b)
def Zut(ok:c.Ok)(o:iU p f (λ_=>do mark .disable;pure Zx))(b:H.cg=[30,c.K])(j:H.hd=0):Zm ((fX p c).prgM) (callFunc f vs) wk nr H (λv g=>v=Zx/\g=H.tagc [34]):=
 Mc ok (.inl rfl) o (by rw[b];simp[cd]) (by simp[cd]) (by rw[b];rfl) λs h d m=>h.tP (l:=[34]) (by rw[d,b];rfl) rfl (by have:=h.cntN 30 c.K O (d.trans b);have:=h.num;omega) (h.closed (m.trans j)) λv e=>by simp at e
theorem Zls(ok:c.Ok)(g:iU p f (λ_=>do mark .enable;pure Zx))(b:H.cg=[38]):Zm ((fX p c).prgM) (callFunc f vs) wk nr H (λv d=>v=Zx/\d=H.tagc [39]):=
 Mc ok (.inr rfl) g (by rw[b];simp[cd]) (by simp[cd]) (by rw[b];rfl) λs h e _=>h.tL (l:=[39]) (by rw[e,b];rfl) rfl
theorem Zux(ok:c.Ok)(E:iU p f (Extern.Atomic.update (Op.intArith .add) .u64 true))(r:H.cg=[31,n]) :
  Zm ((fX p c).prgM) (callFunc f #[.pointer (some (gZ c.W)),.int .u64 (4294967296:Nat)]) wk nr H (λv A=>∃m,m<=100000001/\v=.int .u64 (mI (m+1) 0:Nat)/\A=H.tagc [32,n]):=by
 refine MV ok (by rw[r];simp[cd]) λs Hs t w q=>.inr ?_;obtain⟨b,o,j⟩:=Oi q (by rw[r];simp[cd]);rw[r]at b j;replace j:Deaf t 0=1:=j;obtain⟨B,F,_⟩:=Un q;obtain⟨D,_⟩:=o.cnt.rZ ok;have u:s.wg.wt=0:=(o.cnt.wg.D8 (by rw[b];simp[cd])).1;have x:=ZeM E (d:=((4294967296:Nat):Int)) B F;have h:IntKind.u64.wrap (((mI s.wg.v s.wg.wt:Nat):Int)+((4294967296:Nat):Int))=((mI (s.wg.v+1) s.wg.wt:Nat):Int):=by unfold mI;rw[Zee]<;>omega
 rw[h]at x;obtain⟨G,I,J⟩:=UB (i:=0) (d:=Deaf t 0) (C:=c.toTC) (XG (off:=0) (.inr rfl)) O;refine⟨_,[32,n],iB.yN (y':={ s.wg with v:=s.wg.v+1 }) ok q x (λfn _=>QA) (.inr ⟨0,_,rfl,rfl⟩) (o.cnt.RH (l:=[32,n]) (by rw[b];rfl) rfl λk m e=>?_) ⟨G,I,by rw[J,j];rfl⟩ (.inr id) (Y8 (by rw[b];simp[cd]) (by rw[b];simp[cd])) (by rw[b];simp[cd]) (by simp[cd]) (λe=>by simp[cd]at e;exact .inl (by rw[b];simp[cd])),
  by simp[cd],s.wg.v,D,by rw[u],rfl⟩
 simp at e;rw[e.2.symm];exact o.cnt.cntN 31 n O b
theorem Zlr(ok:c.Ok){mk:Addr->Mark}(h:mk=.read\/mk=.write)(E:iU p f (Extern.Race.marked mk))(B:(∃n,H.cg=[32,n])\/H.cg=[36]) :
  Zm ((fX p c).prgM) (callFunc f #[.pointer (some ⟨c.W,1,none⟩)]) wk nr H (λv q=>v=Zx/\q=H):=by
 have A:cd H.cg=32\/cd H.cg=36:=by rcases B with⟨n,e⟩ | e<;>rw[e]<;>simp[cd]
 refine MV ok O λs Hs t w o=>?_;obtain⟨b,y,x⟩:=Oi o O;have l:fY c { s with tag:=upd s.tag 0 H.cg }:=by rw[<-b,Zgu];exact y.cnt
 obtain⟨r,u⟩:=Ls (C:=c.toTC) (i:=0) (d:=Deaf t 0) (m:=mk ⟨c.W,1,none⟩) (.inr (.inr ⟨rfl,1,by rcases h with rfl | rfl<;>simp⟩));have D:∀g,mk ⟨c.W,1,none⟩≠.extern g:=by rcases h with rfl | rfl<;>simp
 refine .inr ⟨Zx,H.cg,?_,O,rfl,Mt O⟩;refine iB.BV ok o (X9 E _ w) (λfn _=>Ad D fn) (.inl ⟨rfl,rfl⟩) l ⟨r,u,?_⟩ (.inr id) (.inr b.symm) (by rw[b];omega) O (λe=>.inl (by rw[b];omega));rw[x,iF O];rcases h with rfl | rfl<;>rfl
end
end
open Go.Conc
open Go.ConcN (sumTo upd sumTo_upd upd_ne upd_same)
section
variable{p:Program}{c:Cx}{i:Nat}{H:Hp}{s:Ts}{f:FuncId}{wk nr:Bool}
theorem Zuq(ok:c.Ok)(D:iU p f (Extern.Atomic.loadT (.int .u64))){l0:List Nat}(y:H.cg=34 :: l0) :
  Zm ((fX p c).prgM) (callFunc f #[.pointer (some (gZ c.W))]) wk nr H (λv B=>∃n,n<=100000001/\v=.int .u64 (mI n 0:Nat)/\(∀j,l0=[j]->n<j)/\((n=0/\B=H.tagc [38])\/(n≠0/\B=H.tagc [35,n]))):=by
 refine MV ok (by rw[y];simp[cd]) λs Hs t w u=>.inr ?_;obtain⟨b,m,o⟩:=Oi u (by rw[y];simp[cd]);rw[y]at b o;replace o:Deaf t 0=1:=o;obtain⟨x,K,_⟩:=Un u;obtain⟨J,_⟩:=m.cnt.rZ ok;have A:s.wg.wt=0:=(m.cnt.wg.D8 (by rw[b];simp[cd])).1;rw[A]at x;have q:∀j,l0=[j]->s.wg.v<j:=λj e=>(m.cnt.saysM j).2 (by rw[b,e]);obtain⟨F,G,I⟩:=UB (i:=0) (d:=Deaf t 0) (C:=c.toTC) (PU (off:=0) (wr:=false) (.inr rfl)) O;have h:s.more=0:=m.cnt.wg.FX (by rw[b];simp[cd]);by_cases r:s.wg.v=0
 ·refine⟨_,[38],iB.yN ok u (Nn D x) (λfn _=>MT) (.inl ⟨rfl,rfl⟩) (m.cnt.DH (l:=[38]) (by rw[b];rfl) rfl r h) ⟨F,G,by rw[I,o];rfl⟩ (.inr id) (Y8 (by rw[b];simp[cd]) (by rw[b];simp[cd])) (by rw[b];simp[cd]) (by simp[cd]) (λe=>.inl (by rw[b];simp[cd])),
   by simp[cd],s.wg.v,O,rfl,q,.inl ⟨r,rfl⟩⟩
 refine⟨_,[35,s.wg.v],iB.yN ok u (Nn D x) (λfn _=>MT) (.inl ⟨rfl,rfl⟩) (m.cnt.DG (l:=[35,s.wg.v]) (by rw[b];rfl) rfl r λv e=>by simp at e;omega) ⟨F,G,by rw[I,o];rfl⟩ (.inr id) (Y8 (by rw[b];simp[cd]) (by rw[b];simp[cd])) (by rw[b];simp[cd]) (by simp[cd]) (λe=>.inl (by rw[b];simp[cd])),
  by simp[cd],s.wg.v,O,rfl,q,.inr ⟨r,rfl⟩⟩
theorem Zuw(ok:c.Ok)(D:iU p f (Extern.Atomic.casT (.int .u64))){n:Nat}(G:n≠0)(q:H.cg=[35,n]) :
  Zm ((fX p c).prgM) (callFunc f #[.pointer (some (gZ c.W)),.int .u64 (mI n 0:Nat),.int .u64 (mI n 1:Nat)]) wk nr H (λv A=>(v=.bool true/\A=H.tagc [36])\/(v=.bool false/\A=H.tagc [34,n])):=by
 refine MV ok (by rw[q];simp[cd]) λs Hs t w m=>.inr ?_;obtain⟨b,h,g⟩:=Oi m (by rw[q];simp[cd]);rw[q]at b g;replace g:Deaf t 0=1:=g;obtain⟨o,E,_⟩:=Un m;obtain⟨I,_⟩:=h.cnt.rZ ok;have r:s.wg.wt=0:=(h.cnt.wg.D8 (by rw[b];simp[cd])).1;rw[r]at o;have F:s.wg.v<=n:=(h.cnt.saysM n).1 b;by_cases B:s.wg.v=n
 ·obtain⟨u,x,y⟩:=UB (i:=0) (d:=Deaf t 0) (C:=c.toTC) (XG (off:=0) (.inr rfl)) O;subst B;refine⟨_,[36],iB.yN (y':={ s.wg with wt:=1 }) ok m (ZhB D o E) (λfn _=>QA) (.inr ⟨0,_,rfl,rfl⟩) (h.cnt.KH (l:=[36]) (by rw[b];rfl) rfl G) ⟨u,x,by rw[y,g];rfl⟩ (.inr id) (Y8 (by rw[b];simp[cd]) (by rw[b];simp[cd])) (by rw[b];simp[cd]) (by simp[cd]) (λe=>.inl (by rw[b];simp[cd])),
   by simp[cd],.inl ⟨rfl,rfl⟩⟩
 obtain⟨u,x,y⟩:=UB (i:=0) (d:=Deaf t 0) (C:=c.toTC) (PU (off:=0) (wr:=false) (.inr rfl)) O;refine⟨_,[34,n],iB.yN ok m (ZhA D o E λe=>B ?_) (λfn _=>MT) (.inl ⟨rfl,rfl⟩) (h.cnt.KI (l:=[34,n]) (by rw[b];rfl) rfl λv e=>by simp at e;omega) ⟨u,x,by rw[y,g];rfl⟩ (.inr id) (Y8 (by rw[b];simp[cd]) (by rw[b];simp[cd])) (by rw[b];simp[cd]) (by simp[cd]) (λe=>.inl (by rw[b];simp[cd])),
  by simp[cd],.inr ⟨rfl,rfl⟩⟩
 have e:mI s.wg.v 0=mI n 0:=by exact_mod_cast e
 unfold mI at e;omega
def Zuo(ok:c.Ok)(y:iU p f Extern.Sync.semacquire){vs:Array Value}(j:vs[0]? = some (.pointer (some ⟨c.W,1,none⟩)))(u:H.cg=[36]) :
  Zm ((fX p c).prgM) (callFunc f vs) wk nr H (λv A=>v=Zx/\A=H.tagc [37]):=by
 refine MV ok (by rw[u];simp[cd]) λs Hs t w q=>?_;obtain⟨g,B,m⟩:=Oi q (by rw[u];simp[cd]);rw[u]at g m;replace m:Deaf t 0=1:=m;obtain⟨_,_,r,E⟩:=Un q;by_cases h:s.wg.wm=0
 ·rw[h]at r;exact .inl ⟨Zhw y j r,.inr ⟨by rw[g];rfl,h⟩⟩
 refine .inr ⟨Zx,[37],?_,by simp[cd],rfl,rfl⟩;obtain⟨F,G,I⟩:=Lt (C:=c.toTC) (i:=0) (d:=Deaf t 0) (b:=c.W) (off:=1) (.inr rfl);have x:=Zhx (rest:=#[]) y j r E (by exact_mod_cast h);have D:((s.wg.wm:Nat):Int)-1=((s.wg.wm-1:Nat):Int):=O;rw[D]at x;refine iB.yN (y':={ s.wg with wm:=s.wg.wm-1 }) ok q x (λfn _=>Nr) (.inr ⟨1,_,rfl,rfl⟩) (B.cnt.DF (l:=[37]) (by rw[g];rfl) rfl h) ⟨F,G,by rw[I,m];rfl⟩ (.inr λe=>absurd e h) ?_ (by rw[g];simp[cd]) (by simp[cd]) (λe=>.inl (by rw[g];simp[cd]));left;rintro(⟨e,_⟩ | ⟨_,e⟩)
 ·rw[g]at e;simp[cd]at e
 exact h e
theorem Zup(ok:c.Ok)(y:iU p f (Extern.Atomic.loadT (.int .u64)))(m:H.cg=[37]) :
  Zm ((fX p c).prgM) (callFunc f #[.pointer (some (gZ c.W))]) wk nr H (λv u=>v=.int .u64 (0:Nat)/\u=H.tagc [38]):=by
 refine MV ok (by rw[m];simp[cd]) λs Hs t w h=>.inr ?_;obtain⟨b,j,g⟩:=Oi h (by rw[m];simp[cd]);rw[m]at b g;replace g:Deaf t 0=1:=g;obtain⟨r,E,_⟩:=Un h;have o:s.wg.wt=0:=(j.cnt.wg.D8 (by rw[b];simp[cd])).1;have x:s.wg.v=0:=j.cnt.wg.zero (by rw[b];simp[cd]);rw[o,x]at r;obtain⟨A,B,D⟩:=UB (i:=0) (d:=Deaf t 0) (C:=c.toTC) (PU (off:=0) (wr:=false) (.inr rfl)) O;exact⟨_,[38],iB.yN ok h (Nn y r) (λfn _=>MT) (.inl ⟨rfl,rfl⟩) (j.cnt.tN (l:=[38]) (by rw[b];rfl) rfl) ⟨A,B,by rw[D,g];rfl⟩ (.inr id) (Y8 (by rw[b];simp[cd]) (by rw[b];simp[cd])) (by rw[b];simp[cd]) (by simp[cd]) (λe=>.inl (by rw[b];simp[cd])),
   by simp[cd],rfl,rfl⟩
def Zlt(ok:c.Ok)(hx:iU p f (Extern.Race.marked .acquire))(hg:H.cg=[39]) :
  Zm ((fX p c).prgM) (callFunc f #[.pointer (some (gZ c.W))]) wk nr H (λv H'=>v=Zx/\∃(l:List Nat) (L:Hp),c.PI l L/\(∀m,1<=m->m<=c.N->c.need m=true->m∈l)/\(∀m∈l,1<=m/\m<=c.N/\c.need m=true)/\l.Nodup /\
   L.gh=[]/\(H.tagc [40]).Comp L/\H'=(H.tagc [40]).join L):=by
 intro G P nx cs qB ha hG
 refine .iW ⟨VZ (.inl (.inr (by rw[hg];simp[cd]))),λs Hs t w hA=>.inl ?_⟩
 obtain⟨r,B,X⟩:=Oi hA (by rw[hg];simp[cd])
 have xU:s.hd 0=H.hd:=(YO hA (by rw[hg];simp[cd])).2
 rw[hg]at r X
 replace X:Deaf t 0=0:=X
 have AH:=B.cnt.pos
 have C:0<s.next:=B.cnt.next0
 have F2:c.live s.next 0:=⟨C,.inl rfl⟩
 obtain⟨SU,SS,LB⟩:=Ly ok hA
 have I:∀j,c.base<=j->j<s.next->s.tag j=[0]:=λj h1 h2=>B.cnt.over (by rw[r];simp[cd]) h1 h2
 have F0:s.more=0:=B.cnt.wg.FX (by rw[r];simp[cd])
 have aOh:s.next=c.base+c.K:=by have:=B.cnt.num;omega
 have Su:¬ Va s:=by
  rintro⟨j,F,e | e⟩
  ·by_cases hb:c.base<=j
   ·rw[I j hb F]at e;simp[cd]at e
   rcases qBd j with h0 | h0
   ·subst h0;rw[r]at e;simp[cd]at e
   rw[B.cnt.olds j h0 O]at e;simp[cd]at e
  have:=X4 B.cnt F O;subst this;rw[r]at e;simp[cd]at e
 obtain⟨FF,N5,yS,Y⟩:=(B.heap.resolve_left λh=>Su h.1).2
 let L:Hp:=⟨FF.mem,[]⟩
 obtain⟨p1,p2,p3⟩:=ZeU ok yS
 have hr:=X9 hx (gZ c.W) w
 have yR:seen p P.fn (#[Yy f]++#[⟨.mark (.acquire (gZ c.W)),false,true⟩])=#[⟨.mark (.acquire (gZ c.W)),false,true⟩]:=MS λx hx=>by simp at hx;subst hx;exact⟨rfl,by simp⟩
 have hu:ZS 0 P #[⟨.mark (.acquire (gZ c.W)),false,true⟩]=#[{ g:=0,fn:=P.fn,pos:=P.place,act:=.mark (.acquire (gZ c.W)) }]:=by simp[ZS,ofEvents_eq,MemAct.ofEvent]
 have Jg:∀b x,L b=some x->Lg c Hs b:=by exact TP
 obtain⟨ta1,ta2,ta3⟩:=B.tr.all (y:={ g:=0,fn:=P.fn,pos:=P.place,act:=.mark (.acquire (gZ c.W)) }) rfl X rfl λj h1 h2=>by unfold Vi;rw[I j h1 h2];exact .inr rfl
 have S:(H.tagc [40]).Comp L:=⟨λb x y h1 h2=>by
  have Wv:Hs b=some y:=by rw[N5];exact Hp.fS yS h2
  exact hA.dis b x y h1 Wv,.inr rfl⟩
 have Jq:((H.tagc [40]).join L).gh=[H.hd+1,40]:=by simp[Hp.gB,Hp.tagc,Hp.tagged,L]
 have Z:fY c { s with tag:=upd s.tag 0 [40] }:=by obtain⟨m1,m2⟩:=B.cnt.mu.main (more:=s.pm) (l:=[40]) C (by rw[r];simp[cd]) (by simp[cd]);refine B.cnt.step C (.inl rfl) s.wg m1 (qDw m2) (λ_=>rfl) (λj _ _ _ hS=>⟨hS,DO _⟩) (Wg.xB (l:=[40]) B.cnt.wg C (by rw[r];rfl) rfl) (Mu.m5 (by simp[cd])) ⟨λ_ v=>⟨λe=>by simp at e,λe=>by simp at e⟩,λ_ k n hk e=>by simp at e,λe=>absurd rfl e⟩ (λe=>by simp[cd]at e) (λe=>absurd rfl e) (λe=>absurd rfl e) (λ_ e=>absurd rfl e) (λ_ _=>B.cnt.NS (by rw[r];simp[cd]))
 have E:∀op∈#[({ g:=0,fn:=P.fn,pos:=P.place,act:=.mark (.acquire (gZ c.W)) }:MemOp)],op.act.touch? = none/\op.act≠.mark (.release (gZ c.M))/\op.act≠.mark (.release (gZ c.W))/\(op.act=.mark (.releaseMerge (gZ c.M))->c.base<=op.g/\op.g<s.next/\¬ Vi s op.g):=by intro op A;simp only[qAk,iO]at A;rw[A];exact⟨rfl,by simp,by simp,by simp⟩
 refine⟨nx Zx,cs,w,(H.tagc [40]).join L,{ s with tag:=upd s.tag 0 [40] },kQ c s,#[⟨.mark (.acquire (gZ c.W)),false,true⟩],?_,?_,?_,λj=>?_,rfl,DO _,.inr λj F=>?_,.inl rfl,hG _ _ ⟨rfl,s.m9,L,?_,λm h1 h2 h3=>?_,λm hm=>?_,B.cnt.lnd,rfl,S,rfl⟩,?_⟩
 ·exact vR
 ·rw[hu];refine⟨DO _,λ_ _ _ _=>rfl,λb o pm h=>hA.leS b o pm (B.mw h),λb x h=>.inr ⟨x,.inr (B.mw h),λ_=>rfl⟩,.refl w,?_,?_,?_,?_⟩
  ·intro op A x J b oB;rw[(E op A).1]at J;simp at J
  ·intro said q a _ op A b oB _;rw[(E op A).1]at oB;simp at oB
  ·intro op A;simp only[qAk,iO]at A;rw[A];exact hA.leS.lt B.atW
  refine⟨Z,(B.tr.kF E).sub (λj F=>?_) (λb oB=>?_),λj F tV=>?_,λSV=>⟨ta1,ta2⟩,.inl ⟨⟨0,C,.inr (by simp[upd_same,cd])⟩,rfl⟩⟩
  ·unfold Vi at F ⊢;simp only at F;by_cases e:j=0
   ·subst e;left;rw[r];simp[cd]
   rw[upd_ne _ _ e]at F;exact F
  ·obtain⟨⟨x,J⟩,b1,b2,b3⟩:=oB;exact absurd (J.symm.trans (Mh b1 b2 b3)) (by simp)
  have:=XE (i:=0) (l:=[40]) (es:=#[⟨.mark (.acquire (gZ c.W)),false,true⟩]) (fn:=P.fn) (pos:=P.place) B.deaf (λ_=>by rw[X];rfl) F tV;rw[<-hu];exact this
 ·rw[hu];refine⟨?_,?_,?_,?_⟩
  ·exact TN
  ·exact WE
  ·exact TG
  have h1:iQ (t++#[{ g:=0,fn:=P.fn,pos:=P.place,act:=.mark (.acquire (gZ c.W)) }]) 0 (H.tagc [40]):=
   hA.perm.own λop A=>.inl (by simp only[qAk,iO]at A;rw[A])
  refine h1.join λb o pm oB q a hq hl _=>?_;obtain⟨x,J,U⟩:=touch_of hq;rcases getElem?_append_cases J with⟨_,T⟩ | ⟨_,T⟩
  ·exact ta3 q x a b T U hl (Jg b _ oB) C
  rw[(E x T).1]at U;simp at U
 ·show ZO _ j=_;rw[Jq];refine(XL (i:=0) (l:=[40]) (s:=s) (s':={ s with tag:=upd s.tag 0 [40] }) rfl rfl j).trans ?_;rw[ML (by simp[cd]),xU];rfl
 ·have F:ZY s j:=F;show ZY _ j;unfold ZY at F ⊢;have:j≠0:=by rintro rfl;rw[r]at F;simp[cd]at F
  simp only[upd_ne _ _ this];exact F
 ·have:L.mem=FF.mem:=rfl;exact ok.fL _ _ _ Y
 ·have SD:s.lK=0:=(B.cnt.hd0.1 (B.cnt.NS (by rw[r];simp[cd]))).2;rcases B.cnt.compl m h1 O h3 with h4 | ⟨j,j1,j2,j3⟩
  ·exact h4
  rw[<-j3]at h3 ⊢;exact(B.cnt.lwk j j1 j2).2.2 (.inl (by rw[I j j1 j2];rfl)) h3
 ·obtain⟨a,b,d⟩:=B.cnt.lmem m hm;exact⟨a,O,d⟩
 ·show U2 _;rw[Jq];exact .inr (by simp[cd,ZV])
end
