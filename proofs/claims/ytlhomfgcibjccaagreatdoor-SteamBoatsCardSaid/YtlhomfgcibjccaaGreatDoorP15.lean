import Derived.Test.YtlhomfgcibjccaaGreatDoorP14
set_option linter.all false
namespace Go.LL
section
variable{G:Prop}
def Zh2(h:G:=by
  have CQ:1<=s.hd j:=by
   rcases qBo (s.hd j)with e0 | e0
   ·rw[<-hm,e0,ok.SI]at nP;simp at nP
   exact e0
  exact e (hI.cnt.hinj j i h1 h2 hb nF CQ (hm.trans uT.symm))):G:=h
def Mx(h:G:=by intro op oX x wP b oA;simp only[qAv,oR]at oX;rw[oX]at wP;simp[MemAct.touch?]at wP):G:=h
def Mw(h:G:=by intro said q a _ op oX b oA _;simp only[qAv,oR]at oX;rw[oX]at oA;simp[MemAct.touch?]at oA):G:=h
open Go.Conc
open Go.ConcN (sumTo upd sumTo_upd upd_ne upd_same)
section
variable{p:Program}{c:Cx}{i:Nat}{H:Hp}{f:FuncId}{wk nr:Bool}
theorem Ay{H:Hp}(h:cd H.cg≠0):H.tagc H.cg=H:=by
 refine Hp.ext' (λ_=>rfl) ?_;show(H.hd+1) :: H.cg=H.gh;unfold Hp.hd Hp.cg at *;match hg:H.gh with
 | []=>rw[hg]at h;exact absurd rfl h
 | 0 :: l=>rw[hg]at h;exact absurd rfl h
 | (n+1) :: l=>rfl
def ZgE{α:Type}(g:Nat->α)(i:Nat):upd g i (g i)=g:=by
 funext j;by_cases e:j=i
 ·subst e;rw[upd_same]
 rw[upd_ne _ _ e]
theorem WC(ok:c.Ok)(A:eX p f Extern.OsHooks.nano)(u:norace p f=true){vs:Array Value}(l:1<=cd H.cg/\cd H.cg<=19/\cd H.cg≠12) :
  Zk ((bO p c).prgW i) (callFunc f vs) wk nr H (λv m=>(∃z,v=.int .i64 z)/\m=H):=by
 refine O6 ok (.inl ⟨l.1,l.2.1⟩) λs Hs t w g=>.inr ?_;obtain⟨b,q⟩:=YD g O;have o:ZL c s Hs t:=g.inv;have h:bP c { s with tag:=upd s.tag i H.cg }:=by rw[<-b,ZgE];exact o.cnt
 obtain⟨B,D,E⟩:=ZiZ (i:=i) (d:=Deaf t i) (C:=c.toTC);have x:(callFunc f vs).runT p w #[]=(.ok (.value (.int .i64 ((w.os.mono+w.tick:Nat):Int))) w.later,#[Yn f]++#[⟨.output,true,false⟩]):=A.val rfl rfl;have r:=wM ok g;have y:=wW g;refine⟨_,H.cg,⟨⟨w.later,_,#[],s.mu,s.wg,x,λfn _=>seen_entry_out fn f u,h,B,D,?_,r,y,λ_ _ _=>rfl,rfl,⟨⟨w.tick,rfl⟩,rfl,rfl⟩,.inr ⟨id,id⟩⟩,.inr b.symm,by rw[b];omega,O,λe=>O,by rw[b];omega⟩,.inl ⟨l.1,l.2.1⟩,⟨_,rfl⟩,Ay O⟩;rw[E,VT g (by rw[b];omega),b,aT O]
def XL(ok:c.Ok){s:Ts}{Hs:Hp}{t:Trace}{w:World}(d:dY (bO p c) i H s Hs t w):H c.M=none/\H c.W=none/\H c.ch=none:=by
 have e:ZL c s Hs t:=d.inv;refine⟨?_,?_,?_⟩
 ·cases b:H c.M with
  | none=>rfl
  | some y=>have:=d.dis c.M _ _ b (e.atM ok);rw[this.1]at this;simp at this
 ·cases b:H c.W with
  | none=>rfl
  | some y=>have:=d.dis c.W _ _ b e.atW;rw[this.1]at this;simp at this
 cases b:H c.ch with
 | none=>rfl
 | some y=>have:=d.dis c.ch _ _ b (e.atC ok);rw[this.1]at this;simp at this
def OT(ok:c.Ok)(hx:eX p f (Extern.Race.marked .acquire))(hg:H.cg=[11]) :
  Zk ((bO p c).prgW i) (callFunc f #[.pointer (some (dZ c.M))]) wk nr H (λv H'=>v=Zt/\∃(l:List Nat) (F:Hp),c.PI l F/\H.hd ∉ l/\c.need H.hd=true/\F.gh=[]/\(H.tagc (12 :: l)).Comp F/\H'=(H.tagc (12 :: l)).join F):=by
 intro G L nx cs jQ ha hG;refine .eZ ⟨VR (.inl (.inl (by rw[hg];simp[cd]))),.inr (.inl ⟨by show Yw H.cg;rw[hg];exact .inl (by simp[cd]),λs Hs t w r=>.inl ?_⟩)⟩;obtain⟨d,S⟩:=YD r (by rw[hg];simp[cd]);rw[hg]at d;have C:ZL c s Hs t:=r.inv;have hb:=UD r (by rw[d];simp[cd]) (by rw[d];simp[cd]);have J:i≠0:=by have:=C.cnt.pos;omega
 have T:=RE r (by rw[d];simp);have hD:Deaf t i=0:=by rw[VT r (by rw[d];simp[cd]),d];rfl
 obtain⟨KG,KF,FO⟩:=XL ok r;have NM:Yo (cd (s.tag i))=1:=by rw[d];rfl
 have SX:¬ YZ s:=by
  rintro⟨j,A,e | e⟩
  ·have S3:j≠i:=by rintro rfl;rw[d]at e;simp[cd]at e
   have nF:i<s.next:=r.lt;have e1:=counts (tag:=s.tag) (l:=[0]) nF Yo;have e2:=Ct.le Yo (upd s.tag i [0]) A;rw[upd_ne _ _ S3,e]at e2;have e3:Yo (cd [0])=0:=rfl;have e4:Yo 12=1:=rfl;have:=C.cnt.mu.L1;have:=C.cnt.mu.L2;omega
  have:=P9 C.cnt A O;subst this;have:=C.cnt.over O hb r.lt;rw[d]at this;simp at this
 obtain⟨E,Q,I,X⟩:=(C.heap.resolve_left λh=>SX h.1).2;let F:Hp:=⟨E.mem,[]⟩
 obtain⟨p1,p2,p3⟩:=Jy ok I;obtain⟨U,hnl⟩:=(C.cnt.lwk i hb r.lt).2.1 (by rw[d];simp[cd]) (by rw[d];simp[cd]);have hr:=QZ hx (dZ c.M) w;have yM:seen p L.fn (#[Yn f]++#[⟨.mark (.acquire (dZ c.M)),false,true⟩])=#[⟨.mark (.acquire (dZ c.M)),false,true⟩]:=O8 λx hx=>by simp at hx;subst hx;exact⟨rfl,by simp⟩
 have hu:ZI i L #[⟨.mark (.acquire (dZ c.M)),false,true⟩]=#[{ g:=i,fn:=L.fn,pos:=L.place,act:=.mark (.acquire (dZ c.M)) }]:=by simp[ZI,ofEvents_eq,MemAct.ofEvent]
 have vK:∀b x,F b=some x->Bn c Hs b:=by
  intro b x hb;have D:E b=some x:=hb;refine⟨⟨x,?_⟩,?_,?_,?_⟩
  ·rw[Q];exact Hp.bC I D
  ·rintro rfl;rw[p1]at D;simp at D
  ·rintro rfl;rw[p2]at D;simp at D
  rintro rfl;rw[p3]at D;simp at D
 obtain⟨Bw,tr2⟩:=C.tr.take (y:={ g:=i,fn:=L.fn,pos:=L.place,act:=.mark (.acquire (dZ c.M)) }) rfl hD T;have R:(H.tagc (12 :: s.kQ)).Comp F:=⟨λb x y N h2=>by
  have N2:Hs b=some y:=by rw[Q];exact Hp.bC I h2
  exact r.dis b x y N N2,.inr rfl⟩
 have Z:((H.tagc (12 :: s.kQ)).join F).gh=(H.hd+1) :: 12 :: s.kQ:=by simp[Hp.bZ,Hp.tagc,Hp.tagged,F]
 have Y:bP c { s with tag:=upd s.tag i (12 :: s.kQ) }:=by
  obtain⟨m1,m2⟩:=Mu.yB (more:=s.pm) (l:=12 :: s.kQ) C.cnt.mu r.lt (by rw[d];rfl) rfl;have tC:=Wg.xV (l:=12 :: s.kQ) C.cnt.wg r.lt J (by rw[d];rfl) rfl;refine C.cnt.step r.lt (.inr hb) s.wg m1 (OG m2 (by decide)) (λ_=>rfl) (λj _ _ _ hS=>⟨hS,dO _⟩) tC ?_ ⟨λe=>absurd e J,λe=>absurd e J,λ_=>dO _⟩ (λ_=>rfl) (λ_ _=>⟨by simp[cd],λe=>by simp[cd]at e⟩) (λ_ yK=>?_) (λ_ _=>⟨by simp[cd],by simp[cd],by simp⟩) (λe=>absurd e J)
  ·unfold Mu.jA;split<;>first | (rename_i h;simp at h;done) | trivial
  rw[d]at yK;exact Om.low yK (by simp[cd]) (by simp[cd]) (by simp[cd]) (by simp[cd])
 refine⟨nx Zt,cs,w,(H.tagc (12 :: s.kQ)).join F,{ s with tag:=upd s.tag i (12 :: s.kQ) },gZ c s,#[⟨.mark (.acquire (dZ c.M)),false,true⟩],?_,?_,?_,λj=>?_,rfl,dO _,.inr λj A=>?_,.inl rfl,.inl ⟨hG _ _ ⟨rfl,s.kQ,F,?_,S ▸ hnl,S ▸ U,rfl,R,rfl⟩,?_⟩⟩
 ·exact(Ot (P:=p) ha hr).trans (by rw[yM])
 ·rw[hu];refine⟨dO _,λ_ _ _ _=>rfl,λb o pm h=>r.leS b o pm (C.mw h),λb x h=>.inr ⟨x,.inr (C.mw h),λ_=>rfl⟩,.refl w,?_,?_,?_,?_⟩
  ·exact Mx
  ·exact Mw
  ·intro op oX;simp only[qAv,oR]at oX;rw[oX];exact r.leS.lt (C.atM ok)
  refine⟨Y,Bw.sub (λj A=>?_) (λb oA=>?_),λj A wT=>?_,λHL=>?_,.inl ⟨⟨i,r.lt,.inl (by simp[upd_same,cd])⟩,rfl⟩⟩
  ·unfold Y6 at A ⊢;simp only at A;by_cases e:j=i
   ·subst e;rw[upd_same]at A;simp[cd]at A
   rw[upd_ne _ _ e]at A;exact A
  ·obtain⟨⟨x,wP⟩,b1,b2,b3⟩:=oA;exact absurd (wP.symm.trans (WM b1 b2 b3)) (by simp)
  ·have:=QA (i:=i) (l:=12 :: s.kQ) (es:=#[⟨.mark (.acquire (dZ c.M)),false,true⟩]) (fn:=L.fn) (pos:=L.place) C.deaf (λ_=>by rw[hD];rfl) A wT;rw[<-hu];exact this
  simp only[upd_ne _ _ (qAF J)]at HL;have:=C.cnt.over O hb r.lt;rw[d]at this;simp at this
 ·rw[hu];refine⟨?_,?_,?_,?_⟩
  ·intro b o pm oA;simp only[Hp.bH,UF]at oA;cases hh:H b with
   | some z=>rw[hh]at oA;exact r.le b o pm (by rw[hh];exact oA)
   | none=>rw[hh]at oA;exact r.leS b o pm (by rw[Q];exact Hp.bC I oA)
  ·intro b x y N h2;exfalso;rcases(Ur h2).1 with rfl | rfl | rfl
   ·simp only[Hp.bH,UF,KG]at N;have B:E c.M=some x:=N;rw[p1]at B;simp at B
   ·simp only[Hp.bH,UF,KF]at N;have B:E c.W=some x:=N;rw[p2]at B;simp at B
   simp only[Hp.bH,UF,FO]at N;have B:E c.ch=some x:=N;rw[p3]at B;simp at B
  ·intro b x oA;refine .inr ⟨x,?_,λ_=>rfl⟩;simp only[Hp.bH,UF]at oA;cases hh:H b with
   | some z=>rw[hh]at oA;exact .inl oA
   | none=>rw[hh]at oA;exact .inr (by rw[Q];exact Hp.bC I oA)
  have N:eU (t++#[{ g:=i,fn:=L.fn,pos:=L.place,act:=.mark (.acquire (dZ c.M)) }]) i (H.tagc (12 :: s.kQ)):=
   r.perm.own λop oX=>.inl (by simp only[qAv,oR]at oX;rw[oX])
  refine N.join λb o pm oA q a hq hl _=>?_;obtain⟨x,wP,qV⟩:=touch_of hq;exact tr2 b (vK b _ oA) q x a wP qV hl
 ·show ZE _ j=_;rw[Z];refine(QF (i:=i) (l:=12 :: s.kQ) (s:=s) (s':={ s with tag:=upd s.tag i (12 :: s.kQ) }) rfl rfl j).trans ?_;rw[IY (by simp[cd]),S];rfl
 ·have A:ZQ s j:=A;show ZQ _ j;unfold ZQ at A ⊢;have:j≠i:=by rintro rfl;rw[d]at A;simp[cd]at A
  simp only[upd_ne _ _ this];exact A
 ·have:F.mem=E.mem:=rfl;exact ok.aR _ _ _ X
 show UW _;rw[Z];exact .inl (by simp[cd,ZN])
def Zys(ok:c.Ok)(hx:eX p f (Extern.Race.marked .releaseMerge)){u A:Hp}{l:List Nat}(hc:u.Comp A)(hg:u.cg=12 :: l)(U:c.PI (l++[u.hd]) A) :
  Zk ((bO p c).prgW i) (callFunc f #[.pointer (some (dZ c.M))]) wk nr (u.join A) (λv H'=>v=Zt/\H'=u.tagc [13]):=by
 have yK:A.gh=[]:=hc.gh.resolve_left (VR (.inl (.inl (by rw[hg];simp[cd]))));have J:(u.join A).gh=u.gh:=by rw[Hp.bZ,yK];simp
 have I:(u.join A).cg=12 :: l:=by unfold Hp.cg;rw[J];exact hg
 have hjh:(u.join A).hd=u.hd:=by unfold Hp.hd;rw[J]
 intro G F nx cs V ha hG;refine .eZ ⟨VR (.inl (.inl (by rw[I];simp[cd]))),.inr (.inl ⟨by show Yw (u.join A).cg;rw[I];exact .inl (by simp[cd]),λs Hs t w C=>.inl ?_⟩)⟩;obtain⟨d,uT⟩:=YD C (by rw[I];simp[cd]);rw[I]at d;rw[hjh]at uT;have nF:i<s.next:=C.lt;have hI:ZL c s Hs t:=C.inv;have hb:=UD C (by rw[d];simp[cd]) (by rw[d];simp[cd]);have D:i≠0:=by have:=hI.cnt.pos;omega
 have FF:=RE C (by rw[d];simp);have hD:Deaf t i=0:=by rw[VT C (by rw[d];simp[cd]),d];rfl
 obtain⟨KG,KF,FO⟩:=XL ok C;have E:s.kQ=l:=by have:=hI.cnt.tk i nF (by rw[d];rfl);rw[d]at this;simpa using this.symm
 have uP:YZ s:=⟨i,nF,.inl (by rw[d];rfl)⟩;have L:Hs=gZ c s:=by
  rcases hI.heap with h | h
  ·exact h.2
  exact absurd uP h.1
 have NM:Yo (cd (s.tag i))=1:=by rw[d];rfl
 obtain⟨nP,R⟩:=(hI.cnt.lwk i hb nF).2.1 (by rw[d];simp[cd]) (by rw[d];simp[cd]);have hr:=QZ hx (dZ c.M) w;have yM:seen p F.fn (#[Yn f]++#[⟨.mark (.releaseMerge (dZ c.M)),false,true⟩])=#[⟨.mark (.releaseMerge (dZ c.M)),false,true⟩]:=O8 λx hx=>by simp at hx;subst hx;exact⟨rfl,by simp⟩
 have hu:ZI i F #[⟨.mark (.releaseMerge (dZ c.M)),false,true⟩]=#[{ g:=i,fn:=F.fn,pos:=F.place,act:=.mark (.releaseMerge (dZ c.M)) }]:=by simp[ZI,ofEvents_eq,MemAct.ofEvent]
 have K:∀b x,A b=some x->(u.join A) b=some x:=λb x h=>Hp.bC hc h;have hlM:A c.M=none:=(Hp.eF.1 KG).2;have hlW:A c.W=none:=(Hp.eF.1 KF).2;have hlC:A c.ch=none:=(Hp.eF.1 FO).2;have Z:¬ YZ { s with tag:=upd s.tag i [13],kQ:=l++[u.hd] }:=by
  rintro⟨j,r,e⟩;by_cases Q:j=i
  ·subst Q;simp only[upd_same,cd]at e;simp at e
  simp only[upd_ne _ _ Q]at e;rcases e with e | e
  ·have e1:=counts (tag:=s.tag) (l:=[0]) nF Yo;have e2:=Ct.le Yo (upd s.tag i [0]) r;rw[upd_ne _ _ Q,e]at e2;have e3:Yo (cd [0])=0:=rfl;have e4:Yo 12=1:=rfl;have:=hI.cnt.mu.L1;have:=hI.cnt.mu.L2;simp only at e2;omega
  have:=P9 hI.cnt r O;subst this;have:=hI.cnt.over O hb nF;rw[d]at this;simp at this
 have X:bP c { s with tag:=upd s.tag i [13],kQ:=l++[u.hd] }:=by
  obtain⟨m1,m2⟩:=Mu.yA (more:=s.pm) (l:=[13]) hI.cnt.mu nF (by rw[d];rfl) rfl;have tC:=Wg.xU (l:=[13]) hI.cnt.wg nF D (by rw[d];rfl) rfl;have B:∀j,j∈l++[u.hd]↔j∈s.kQ\/j=u.hd:=by intro j;rw[E];simp
  rw[uT]at nP R;refine⟨m1,tC,λj r=>?_,λv=>?_,λk n S hl=>?_,λj r N=>?_,hI.cnt.num,hI.cnt.pos,hI.cnt.nb,λj h1 h2=>?_,λj h1 h2=>?_,?_,λj r=>?_,λj h1 h2=>?_,hI.cnt.hd0,hI.cnt.mle,hI.cnt.hdw,hI.cnt.hinj,λq h1 h2 h3=>?_,λV j h1 h2=>?_,λh1=>?_⟩
  ·by_cases e:j=i
   ·subst e;simp only[upd_same];trivial
   simp only[upd_ne _ _ e];exact(hI.cnt.says j r).keep (OG m2 (by decide)) (λ_=>rfl) λ_ hS=>⟨hS,dO _⟩
  ·simp only[upd_ne _ _ (qAF D)];exact hI.cnt.saysM v
  ·simp only[upd_ne _ _ (qAF D)]at hl;exact hI.cnt.cntN k n S hl
  ·exfalso;exact Z ⟨j,r,.inl N⟩
  ·have:j≠i:=by rintro rfl;omega
   simp only[upd_ne _ _ this];exact hI.cnt.olds j h1 h2
  ·by_cases e:j=i
   ·subst e;simp only[upd_same];exact⟨by simp[cd],λe=>by simp[cd]at e⟩
   simp only[upd_ne _ _ e];exact hI.cnt.works j h1 h2
  ·have:=hI.cnt.lnd;rw[E]at this;refine qBV.2 ⟨this,by simp,λa ha b hb e=>?_⟩;simp only[oR]at hb;rw[e,hb]at ha;rw[E]at R;exact R ha
  ·rcases(B j).1 r with h1 | rfl
   ·exact hI.cnt.lmem j h1
   refine⟨?_,?_,nP⟩
   ·rcases qBo u.hd with e | e
    ·rw[e,ok.SI]at nP;simp at nP
    exact e
   have:=hI.cnt.hdw i hb nF;rwa [uT]at this
  ·have S:=hI.cnt.lwk j h1 h2;by_cases e:j=i
   ·subst e;simp only[upd_same];exact⟨λe=>by simp[cd]at e,λ_ e=>by simp[cd]at e,λ_ _=>(B _).2 (.inr uT)⟩
   simp only[upd_ne _ _ e];refine⟨λh=>?_,λh h'=>⟨(S.2.1 h h').1,?_⟩,λh hn=>(B _).2 (.inl (S.2.2 h hn))⟩;all_goals
    rintro hm
    rcases(B _).1 hm with hm | hm
   ·exact S.1 h hm
   ·exact Zh2
   ·exact(S.2.1 h h').2 hm
   exact Zh2
  ·rcases hI.cnt.compl q h1 h2 h3 with h4 | h4
   ·exact .inl ((B q).2 (.inl h4))
   exact .inr h4
  ·by_cases e:j=i
   ·subst e;simp only[upd_same];simp[cd]
   simp only[upd_ne _ _ e];exact hI.cnt.run V j h1 h2
  simp only[upd_ne _ _ (qAF D)]at h1;exact hI.cnt.mcl h1
 have Y:(gZ c s).Comp A:=⟨λb x y h1 h2=>by
  rcases(Ur h1).1 with rfl | rfl | rfl
  ·rw[hlM]at h2;simp at h2
  ·rw[hlW]at h2;simp at h2
  rw[hlC]at h2;simp at h2,.inl rfl⟩
 refine⟨nx Zt,cs,w,u.tagc [13],{ s with tag:=upd s.tag i [13],kQ:=l++[u.hd] },(gZ c s).join A,#[⟨.mark (.releaseMerge (dZ c.M)),false,true⟩],?_,?_,?_,λj=>?_,rfl,dO _,.inr λj r=>?_,.inl rfl,.inl ⟨hG _ _ ⟨rfl,rfl⟩,.inl (by simp[Hp.tagc,Hp.tagged,ZN,cd])⟩⟩
 ·exact(Ot (P:=p) ha hr).trans (by rw[yM])
 ·rw[hu];refine⟨dO _,λ_ _ _ _=>rfl,?_,?_,.refl w,?_,?_,?_,?_⟩
  ·intro b o pm h;simp only[Hp.bH]at h;cases hh:gZ c s b with
   | some z=>rw[hh]at h;exact C.leS b o pm (by rw[L];exact hh.trans h)
   | none=>rw[hh]at h;exact C.le b o pm (K b _ h)
  ·intro b x h;simp only[Hp.bH]at h;cases hh:gZ c s b with
   | some z=>rw[hh]at h;exact .inr ⟨x,.inr (by rw[L];exact hh.trans h),λ_=>rfl⟩
   | none=>rw[hh]at h;exact .inr ⟨x,.inl (K b _ h),λ_=>rfl⟩
  ·exact Mx
  ·exact Mw
  ·intro op oX;simp only[qAv,oR]at oX;rw[oX];exact C.leS.lt (hI.atM ok)
  have Bw:=hI.tr.Gu (y:={ g:=i,fn:=F.fn,pos:=F.place,act:=.mark (.releaseMerge (dZ c.M)) }) rfl hD ⟨hb,nF,by unfold Y6;rw[d];simp[cd]⟩ (MQ:=Bn c ((gZ c s).join A)) (λb oA=>.inr λq x a hq N1 NY=>by obtain⟨⟨y,hy⟩,b1,b2,b3⟩:=oA;have hmn:gZ c s b=none:=WM b1 b2 b3;simp only[Hp.bH]at hy;rw[hmn]at hy;have hw:=ok.own _ _ U b y hy;refine C.perm b y.1 y.2 (K b _ hy) q a ?_ NY (.inl hw);rw[touchAt_of hq];exact N1);refine⟨X,Bw.sub (λj r=>?_) (λ_ h=>h),λj r N=>?_,λHL=>?_,.inr ⟨Z,A,rfl,Y,U⟩⟩
  ·unfold Y6 at r ⊢;simp only at r;by_cases e:j=i
   ·subst e;rw[upd_same]at r;simp[cd]at r
   rw[upd_ne _ _ e]at r;exact r
  ·have:=QA (i:=i) (l:=[13]) (es:=#[⟨.mark (.releaseMerge (dZ c.M)),false,true⟩]) (fn:=F.fn) (pos:=F.place) hI.deaf (λ_=>by rw[hD];rfl) r N;rw[<-hu];exact this
  simp only[upd_ne _ _ (qAF D)]at HL;have:=hI.cnt.over O hb nF;rw[d]at this;simp at this
 ·rw[hu];refine⟨λb o pm h=>C.le b o pm (Hp.aW h),?_,λb x h=>.inr ⟨x,.inl (Hp.aW h),λ_=>rfl⟩,?_⟩
  ·intro b x y h1 h2;simp only[Hp.bH]at h2;cases hh:gZ c s b with
   | some z=>rw[hh]at h2;exact C.dis b x y (Hp.aW h1) (by rw[L];exact hh.trans h2)
   | none=>rw[hh]at h2;exact hc b x y h1 h2
  have h1:eU (t++#[{ g:=i,fn:=F.fn,pos:=F.place,act:=.mark (.releaseMerge (dZ c.M)) }]) i (u.join A):=
   C.perm.own λop oX=>.inl (by simp only[qAv,oR]at oX;rw[oX])
  exact h1.left
 ·refine(QF (i:=i) (l:=[13]) (s:=s) (s':={ s with tag:=upd s.tag i [13],kQ:=l++[u.hd] }) rfl rfl j).trans ?_;rw[IY (by simp[cd]),uT];rfl
 have r:ZQ s j:=r;show ZQ _ j;unfold ZQ at r ⊢;have:j≠i:=by rintro rfl;rw[d]at r;simp[cd]at r
 simp only[upd_ne _ _ this];exact r
def Zyq(ok:c.Ok)(M:eX p f (Extern.Race.marked .releaseMerge))(L:H.cg=[19,1]) :
  Zk ((bO p c).prgW i) (callFunc f #[.pointer (some (dZ c.W))]) wk nr H (λv H'=>v=Zt/\H'=H.tagc [20]):=by
 have o:1<=cd H.cg/\cd H.cg<=19/\cd H.cg≠12/\cd H.cg≠7:=by rw[L];simp[cd]
 intro G A nx cs u ha hG;refine .eZ ⟨VR (.inl (.inl ⟨o.1,o.2.1⟩)),.inr (.inl ⟨.inl ⟨o.1,o.2.1⟩,λs Hs t w r=>.inl ?_⟩)⟩;obtain⟨m,U⟩:=YD r O;have E:i<s.next:=r.lt;have B:ZL c s Hs t:=r.inv;have hb:=UD r (by rw[m];exact o.1) (by rw[m];omega);have V:i≠0:=by have:=B.cnt.pos;omega
 have Z:Deaf t i=0:=by rw[VT r (by rw[m];omega),m,L];rfl
 have u:s.cls=true:=by
  cases u:s.cls with
  | true=>rfl
  | false=>exact absurd (m.trans L) (B.cnt.run u i hb E).2.2
 have hr:=QZ M (dZ c.W) w;have T:seen p A.fn (#[Yn f]++#[⟨.mark (.releaseMerge (dZ c.W)),false,true⟩])=#[⟨.mark (.releaseMerge (dZ c.W)),false,true⟩]:=O8 λx M=>by simp at M;subst M;exact⟨rfl,by simp⟩
 have X:ZI i A #[⟨.mark (.releaseMerge (dZ c.W)),false,true⟩]=#[{ g:=i,fn:=A.fn,pos:=A.place,act:=.mark (.releaseMerge (dZ c.W)) }]:=by simp[ZI,ofEvents_eq,MemAct.ofEvent]
 have I:bP c { s with tag:=upd s.tag i [20] }:=by exact(B.cnt.same19_20 (l:=[20]) E hb (by rw[m,L];rfl) rfl u trivial).1
 have J:YZ { s with tag:=upd s.tag i [20] }↔YZ s:=by
  constructor
  ·rintro⟨j,Q,D⟩;by_cases e:j=i
   ·subst e;simp only[upd_same,cd]at D;simp at D
   simp only[upd_ne _ _ e]at D;exact⟨j,Q,D⟩
  rintro⟨j,Q,D⟩;by_cases e:j=i
  ·subst e;rw[m]at D;omega
  exact⟨j,Q,by simp only[upd_ne _ _ e];exact D⟩
 refine⟨nx Zt,cs,w,H.tagc [20],{ s with tag:=upd s.tag i [20] },Hs,#[⟨.mark (.releaseMerge (dZ c.W)),false,true⟩],?_,?_,?_,λj=>?_,rfl,dO _,.inr λj q=>?_,.inl rfl,.inr ⟨by show IS _;simp[Hp.tagc,Hp.tagged,IS,Z3,ZN,cd],hG _ _ ⟨rfl,rfl⟩⟩⟩
 ·exact(Ot (P:=p) ha hr).trans (by rw[T])
 ·rw[X];refine⟨dO _,λ_ _ _ _=>rfl,r.leS,λb x h=>.inr ⟨x,.inr h,λ_=>rfl⟩,.refl w,?_,?_,?_,?_⟩
  ·exact Mx
  ·exact Mw
  ·intro op oX;simp only[qAv,oR]at oX;rw[oX];exact r.leS.lt B.atW
  have Y:=Tr.release ok.ne B.tr (y:={ g:=i,fn:=A.fn,pos:=A.place,act:=.mark (.releaseMerge (dZ c.W)) }) rfl Z;refine⟨I,Y.sub (λj q=>?_) (λ_ h=>h),λj q S=>?_,λR=>?_,?_⟩
  ·unfold Y6 at q ⊢;simp only at q;by_cases e:j=i
   ·exact .inr e
   rw[upd_ne _ _ e]at q;exact .inl q
  ·have:=QA (i:=i) (l:=[20]) (es:=#[⟨.mark (.releaseMerge (dZ c.W)),false,true⟩]) (fn:=A.fn) (pos:=A.place) B.deaf (λ_=>by rw[Z];rfl) q S;rw[<-X];exact this
  ·simp only[upd_ne _ _ (qAF V)]at R;have:=B.cnt.over O hb E;rw[m]at this;rw[this]at o;simp[cd]at o
  exact B.heap.imp (λ⟨a,b⟩=>⟨J.2 a,b⟩) λ⟨a,Hl,b,cc,d⟩=>⟨λh=>a (J.1 h),Hl,b,cc,d⟩
 ·rw[X];exact⟨r.le,r.dis,λb x h=>.inr ⟨x,.inl h,λ_=>rfl⟩,r.perm.own λop oX=>.inl (by simp only[qAv,oR]at oX;rw[oX])⟩
 ·refine(QF (i:=i) (l:=[20]) (s:=s) (s':={ s with tag:=upd s.tag i [20] }) rfl rfl j).trans ?_;rw[IY (by simp[cd]),U];rfl
 have q:ZQ s j:=q;show ZQ _ j;unfold ZQ at q ⊢;have:j≠i:=by rintro rfl;rw[m]at q;omega
 simp only[upd_ne _ _ this];exact q
end
end
section
variable{Hs:Hp}{t:Trace}{w:World}{z v:Int}{k:IntKind}{a:Addr}{vs:Array Value}{n:Nat}
open Go.Conc
open Go.ConcN (sumTo upd sumTo_upd upd_ne upd_same)
section
variable{p:Program}{c:Cx}{i:Nat}{H:Hp}{s:Ts}{f:FuncId}{wk nr:Bool}
def jV(v b:Nat):Nat:=v * 4294967296+b
def Ug(b:dY (bO p c) i H s Hs t w):w.cell? ⟨c.W,0,none⟩=some (.int .u64 (jV s.wg.v s.wg.wt:Nat))/\w.frozen? ⟨c.W,0,none⟩=false/\w.cell? ⟨c.W,1,none⟩=some (.int .u32 (s.wg.wm:Nat))/\w.frozen? ⟨c.W,1,none⟩=false:=by obtain⟨d,e⟩:=VV (off:=0) (v:=.int .u64 (jV s.wg.v s.wg.wt:Nat)) (wW b) rfl;obtain⟨g,h⟩:=VV (off:=1) (v:=.int .u32 (s.wg.wm:Nat)) (wW b) rfl;exact⟨d,e,g,h⟩
def Ls(b:0<=z)(d:z<=18446744073709551615):IntKind.u64.wrap z=z:=by simp only[IntKind.wrap,IntKind.bits,IntKind.signed];simp;omega
def ZnD(b:18446744073709551616<=z)(d:z<=36893488147419103231):IntKind.u64.wrap z=z-18446744073709551616:=by simp only[IntKind.wrap,IntKind.bits,IntKind.signed];simp;omega
def bP.rK(ok:c.Ok)(h:bP c s):s.wg.v<=100000001/\s.wg.wt<=1:=by
 have q:=h.B5 (g:=cW) (λn=>QT _) rfl (λn y=>by simp[cW,one];omega);have r:=h.num;have u:=ok.E4;have x:mP (cd (s.tag 0))<=1:=QT _;obtain⟨j,l,m,b,d,o⟩:=h.wg;refine⟨O,?_⟩;by_cases e:cd (s.tag 0)=36
 ·have:=b e;omega
 have:=d e;omega
def Am(d:eX p f (Extern.Atomic.loadT (.int k)))(b:w.cell? a=some (.int k v)) :
  (callFunc f #[.pointer (some a)]).runT p w #[]=(.ok (.value (.int k v)) w,#[Yn f]++#[⟨.cell a,false,true⟩]):=by
 refine d.val ?_ ?_
 ·change Sem.run p (do Extern.Atomic.read (.int k) (<-asAddr (.pointer (some a)))) w=_;simp[Extern.Atomic.read,asAddr,b]
 change Sem.events p (do Extern.Atomic.read (.int k) (<-asAddr (.pointer (some a)))) w _=_;simp[Extern.Atomic.read,asAddr,b,events_load]
def Zpq(e:eX p f Extern.Atomic.storeT){u:Value}(b:w.cell? a=some u)(d:w.frozen? a=false) :
  (callFunc f #[.pointer (some a),.int k v]).runT p w #[]=(.ok (.value Zt) (w.setCell a (.int k v)),#[Yn f]++#[⟨.cell a,true,true⟩]):=by
 refine e.val ?_ ?_
 ·change Sem.run p (do
   store (<-asAddr (.pointer (some a))) (.int k v) .atomic
   pure Extern.Atomic.none_) w=_
  simp[asAddr,b,d,run_store p w a (.int k v) .atomic rfl,Extern.Atomic.none_,Result.andThen]
 change Sem.events p (do
  store (<-asAddr (.pointer (some a))) (.int k v) .atomic
  pure Extern.Atomic.none_) w _=_
 simp[asAddr,b,d,events_store p w _ a (.int k v) .atomic rfl]
def QG(d:dY (bO p c) i (.aR H.gh) s Hs t w)(h:Z3 H.cg):s.tag i=H.cg/\ZL c s Hs t/\i<s.next/\c.base<=i/\i≠0/\Deaf t i=df (cd H.cg):=by have b:s.tag i=H.cg:=(YD d (IU (.inr h))).1;have g:ZL c s Hs t:=d.inv;unfold Z3 at h;have hb:=UD d (by rw[b];omega) (by rw[b];omega);exact⟨b,g,d.lt,hb,by have:=g.cnt.pos;omega,by rw[VT d (by rw[b];omega),b]⟩
theorem Zuw(ok:c.Ok)(y:eX p f (λ_=>do mark .disable;pure Zt))(e:H.cg=[20]):Zk ((bO p c).prgW i) (callFunc f vs) wk nr H (λv o=>v=Zt/\o=H.tagc [21]):=by refine Q3 ok (by rw[e];simp[Z3,cd]) λs Hs t w h=>.inr ⟨Zt,[21],?_,.inl ⟨by simp[Z3,cd],rfl,rfl⟩⟩;obtain⟨b,u,g,hb,x,j⟩:=QG h (by rw[e];simp[Z3,cd]);rw[e]at b j;obtain⟨q,r⟩:=X5 (C:=c.toTC) (i:=i) (d:=Deaf t i) (m:=.disable) (.inl rfl);refine eJ.CJ ok h (Q0 (by simp) y vs w) (λfn _=>Q1 (by simp) fn) (.inl ⟨rfl,rfl⟩) (u.cnt.m7 (l:=[21]) g hb (by rw[b];rfl) rfl trivial).1 ⟨q,r,?_⟩ (.inr id) (YY (by rw[b];simp[cd]) (by rw[b];simp[cd])) (by rw[b];simp[cd]) (by simp[cd]) (λ_=>.inl (by rw[b];simp[cd]));rw[j];rfl
theorem Zux(ok:c.Ok)(L:eX p f (Extern.Atomic.update (Op.intArith .add) .u64 true))(u:H.cg=[21]) :
  Zk ((bO p c).prgW i) (callFunc f #[.pointer (some (dZ c.W)),.int .u64 18446744069414584320]) wk nr H (λv A=>∃n g,n<=100000000/\g<=1/\v=.int .u64 (jV n g:Nat) /\
   (((n≠0\/g=0)/\A=H.tagged (lv 1))\/(n=0/\g=1/\A=H.tagc [22]))):=by
 refine Q3 ok (by rw[u];simp[Z3,cd]) λs Hs t w q=>.inr ?_
 obtain⟨b,r,h,hb,J,j⟩:=QG q (by rw[u];simp[Z3,cd])
 rw[u]at b j
 replace j:Deaf t i=1:=j
 obtain⟨I,M,_⟩:=Ug q
 obtain⟨Q,o⟩:=r.cnt.rK ok
 have K:1<=s.wg.v:=by
  have N:=Ct.le cW s.tag h;have P:cW (cd (s.tag i))=1:=by rw[b];rfl
  have:=r.cnt.wg.v1;omega
 have y:=Lz L (d:=18446744069414584320) I M
 have m:IntKind.u64.wrap (((jV s.wg.v s.wg.wt:Nat):Int)+18446744069414584320)=((jV (s.wg.v-1) s.wg.wt:Nat):Int):=by unfold jV;rw[ZnD]<;>omega
 rw[m]at y
 obtain⟨B,D,E⟩:=Ut (i:=i) (d:=Deaf t i) (C:=c.toTC) (QC (off:=0) (.inr rfl)) O
 have F:∀{l:List Nat},¬ ZQ s i\/l=s.tag i:=YY (by rw[b];simp[cd]) (by rw[b];simp[cd])
 by_cases x:s.wg.v=1/\s.wg.wt=1
 ·refine⟨_,[22],eJ.zN (y':={ s.wg with v:=s.wg.v-1 }) ok q y (λfn _=>LM) (.inr ⟨0,_,rfl,rfl⟩) (r.cnt.B3 (l:=[22]) h hb (by rw[b];rfl) rfl trivial x) ⟨B,D,by rw[E,j];rfl⟩ (.inr id) F (by rw[b];simp[cd]) (by simp[cd]) (λ_=>.inl (by rw[b];simp[cd])),
   .inl ⟨by simp[Z3,cd],s.wg.v-1,s.wg.wt,O,o,rfl,.inr ⟨O,x.2,rfl⟩⟩⟩
 ·refine⟨_,[0],eJ.zN (y':={ s.wg with v:=s.wg.v-1 }) ok q y (λfn _=>LM) (.inr ⟨0,_,rfl,rfl⟩) (r.cnt.B0 h hb (by rw[b];rfl) x) ⟨B,D,by rw[E,j];rfl⟩ (.inr id) F (by rw[b];simp[cd]) (by simp[cd]) (λ_=>.inl (by rw[b];simp[cd])),
   .inr ⟨rfl,s.wg.v-1,s.wg.wt,O,o,rfl,.inl ⟨O,rfl⟩⟩⟩
def ZlM(h:bP c s)(b:i<s.next)(j:cL (cd (s.tag i))=1):s.wg.v=0/\s.wg.wt=1/\s.wg.wm=0:=by
 have r:=Ct.le cL s.tag b;obtain⟨l,m,o,d,g,q⟩:=h.wg;by_cases e:cd (s.tag 0)=36
 ·have:=d e;omega
 have:=g e;omega
theorem Zuv(ok:c.Ok)(y:eX p f (Extern.Atomic.loadT (.int .u64)))(j:H.cg=[22]) :
  Zk ((bO p c).prgW i) (callFunc f #[.pointer (some (dZ c.W))]) wk nr H (λv q=>v=.int .u64 (1:Nat)/\q=H.tagc [23]):=by
 refine Q3 ok (by rw[j];simp[Z3,cd]) λs Hs t w h=>.inr ?_;obtain⟨b,m,e,hb,x,g⟩:=QG h (by rw[j];simp[Z3,cd]);rw[j]at b g;replace g:Deaf t i=1:=g;obtain⟨o,F,_⟩:=Ug h;obtain⟨r,u,E⟩:=ZlM m.cnt e (by rw[b];rfl);rw[r,u]at o;obtain⟨A,B,D⟩:=Ut (i:=i) (d:=Deaf t i) (C:=c.toTC) (LV (off:=0) (wr:=false) (.inr rfl)) O;refine⟨_,[23],eJ.zN ok h (Am y o) (λfn _=>O7) (.inl ⟨rfl,rfl⟩) (m.cnt.m6 (l:=[23]) e hb (by rw[b];rfl) rfl trivial).1 ⟨A,B,by rw[D,g];rfl⟩ (.inr id) (YY (by rw[b];simp[cd]) (by rw[b];simp[cd])) (by rw[b];simp[cd]) (by simp[cd]) (λ_=>.inl (by rw[b];simp[cd])),
  .inl ⟨by simp[Z3,cd],rfl,rfl⟩⟩
theorem Zut(ok:c.Ok)(x:eX p f Extern.Atomic.storeT)(j:H.cg=[23]) :
  Zk ((bO p c).prgW i) (callFunc f #[.pointer (some (dZ c.W)),.int .u64 (0:Nat)]) wk nr H (λv o=>v=Zt/\o=H.tagc [24]):=by
 refine Q3 ok (by rw[j];simp[Z3,cd]) λs Hs t w h=>.inr ?_;obtain⟨b,m,e,hb,u,g⟩:=QG h (by rw[j];simp[Z3,cd]);rw[j]at b g;replace g:Deaf t i=1:=g;obtain⟨r,y,_⟩:=Ug h;obtain⟨q,E,F⟩:=ZlM m.cnt e (by rw[b];rfl);obtain⟨A,B,D⟩:=Ut (i:=i) (d:=Deaf t i) (C:=c.toTC) (LV (off:=0) (wr:=true) (.inr rfl)) O;refine⟨_,[24],eJ.zN (y':={ s.wg with wt:=0 }) ok h (Zpq x r y) (λfn _=>O7) (.inr ⟨0,_,rfl,by rw[q];rfl⟩) (m.cnt.u4 (l:=[24]) e hb (by rw[b];rfl) rfl trivial) ⟨A,B,by rw[D,g];rfl⟩ (.inr id) (YY (by rw[b];simp[cd]) (by rw[b];simp[cd])) (by rw[b];simp[cd]) (by simp[cd]) (λ_=>.inl (by rw[b];simp[cd])),
  .inl ⟨by simp[Z3,cd],rfl,rfl⟩⟩
def Zuu(ok:c.Ok)(I:eX p f Extern.Sync.semrelease)(q:vs[0]? = some (.pointer (some ⟨c.W,1,none⟩)))(o:H.cg=[24]) :
  Zk ((bO p c).prgW i) (callFunc f vs) true nr H (λv y=>v=Zt/\y=H.tagged (lv 1)):=by
 refine Q3 ok (by rw[o];simp[Z3,cd]) λs Hs t w m=>.inr ?_;obtain⟨g,u,h,hb,E,l⟩:=QG m (by rw[o];simp[Z3,cd]);rw[o]at g l;replace l:Deaf t i=1:=l;obtain⟨_,_,D,J⟩:=Ug m;have r:s.wg.wm=0:=by
  have R:=Ct.le cE s.tag h;have S:cE (cd (s.tag i))=1:=by rw[g];rfl
  obtain⟨N,O,P,A,B,Q⟩:=u.cnt.wg;by_cases e:cd (s.tag 0)=36
  ·have:=A e;omega
  have:=B e;omega
 obtain⟨K,L,M⟩:=X6 (C:=c.toTC) (i:=i) (d:=Deaf t i) (b:=c.W) (off:=1) (.inr rfl);have x:=Zhw I q D J;have F:IntKind.u32.wrap (((s.wg.wm:Nat):Int)+1)=((s.wg.wm+1:Nat):Int):=by rw[r];rfl
 rw[F]at x;refine⟨_,[0],eJ.zN (y':={ s.wg with wm:=s.wg.wm+1 }) ok m x (λfn _=>Aq) (.inr ⟨1,_,rfl,rfl⟩) (u.cnt.AA h hb (by rw[g];rfl)) ⟨K,L,by rw[M,l];rfl⟩ (.inl rfl) (YY (by rw[g];simp[cd]) (by rw[g];simp[cd])) (by rw[g];simp[cd]) (by simp[cd]) (λ_=>.inl (by rw[g];simp[cd])),
  .inr ⟨rfl,rfl,rfl⟩⟩
def ZtT(e:eX p f (λ_=>do mark .enable;pure Zt))(d:H.gh=lv 1):Zk ((bO p c).prgW i) (callFunc f vs) wk nr H (λv b=>v=Zt/\b=H.tagged (lv 0)):=
 ZoN d (λw=>Q0 (by simp) e vs w) (λfn=>Q1 (by simp) fn) (by simp[Event.mute]) ⟨rfl,rfl⟩
def Oa(e:dY (bO p c) 0 H s Hs t w)(g:30<=cd H.cg):s.tag 0=H.cg/\ZL c s Hs t/\Deaf t 0=df (cd H.cg):=by have b:s.tag 0=H.cg:=(YD e O).1;exact⟨b,e.inv,by rw[VT e (by rw[b];omega),b]⟩
def bP.closed(h:bP c s)(d:s.hd 0=0):s.cls=true:=by
 cases b:s.cls with
 | true=>rfl
 | false=>have:=h.hd0.2 b;omega
theorem XR(ok:c.Ok){m:Mark}(u:m=.disable\/m=.enable)(I:eX p f (λ_=>do mark m;pure Zt)){l:List Nat}(r:30<=cd H.cg/\cd H.cg<=39/\cd H.cg≠36)(F:30<=cd l/\cd l<=39)
  (q:deafBehind (df (cd H.cg)) #[⟨.mark m,false,true⟩]=df (cd l)) (h:∀s:Ts,bP c s->s.tag 0=H.cg->s.hd 0=H.hd->bP c { s with tag:=upd s.tag 0 l }):Zk ((bO p c).prgM) (callFunc f vs) wk nr H (λv y=>v=Zt/\y=H.tagc l):=by
 have j:∀g,m≠.extern g:=by rcases u with rfl | rfl<;>simp
 refine O5 ok r.1 λs Hs t w o=>.inr ⟨Zt,l,?_,F.1,rfl,rfl⟩;obtain⟨b,E,D⟩:=Oa o r.1;obtain⟨A,B⟩:=X5 (C:=c.toTC) (i:=0) (d:=Deaf t 0) (m:=m) (by rcases u with rfl | rfl<;>simp);refine eJ.CJ ok o (Q0 j I vs w) (λfn _=>Q1 j fn) (.inl ⟨rfl,rfl⟩) (h s E.cnt b (YD o O).2) ⟨A,B,?_⟩ (.inr id) (YY (by rw[b];omega) (by rw[b];omega)) (by rw[b];omega) O (λe=>.inl (by rw[b];omega));rw[D,q,aT O]
def ZtO(ok:c.Ok)(j:eX p f (λ_=>do mark .disable;pure Zt))(b:H.cg=[30,n]):Zk ((bO p c).prgM) (callFunc f vs) wk nr H (λv g=>v=Zt/\g=H.tagc [31,n]):=
 XR ok (.inl rfl) j (by rw[b];simp[cd]) (by simp[cd]) (by rw[b];rfl) λs h d _=>h.tV (l:=[31,n]) (by rw[d,b];rfl) rfl λk m e=>by simp at e;rw[e.2.symm];exact h.cntN 30 n O (d.trans b)
def ZtM(ok:c.Ok)(j:eX p f (λ_=>do mark .enable;pure Zt))(b:H.cg=[32,n]):Zk ((bO p c).prgM) (callFunc f vs) wk nr H (λv g=>v=Zt/\g=H.tagc [33,n]):=
 XR ok (.inr rfl) j (by rw[b];simp[cd]) (by simp[cd]) (by rw[b];rfl) λs h d _=>h.tS (l:=[33,n]) (by rw[d,b];rfl) rfl λk m e=>by simp at e;rw[e.2.symm];exact h.cntN 32 n O (d.trans b)
def ZtN(ok:c.Ok)(o:eX p f (λ_=>do mark .disable;pure Zt))(b:H.cg=[30,c.K])(j:H.hd=0):Zk ((bO p c).prgM) (callFunc f vs) wk nr H (λv g=>v=Zt/\g=H.tagc [34]):=
 XR ok (.inl rfl) o (by rw[b];simp[cd]) (by simp[cd]) (by rw[b];rfl) λs h d m=>h.tU (l:=[34]) (by rw[d,b];rfl) rfl (by have:=h.cntN 30 c.K O (d.trans b);have:=h.num;omega) (h.closed (m.trans j)) λv e=>by simp at e
theorem ZlB(ok:c.Ok)(g:eX p f (λ_=>do mark .enable;pure Zt))(b:H.cg=[38]):Zk ((bO p c).prgM) (callFunc f vs) wk nr H (λv d=>v=Zt/\d=H.tagc [39]):=
 XR ok (.inr rfl) g (by rw[b];simp[cd]) (by simp[cd]) (by rw[b];rfl) λs h e _=>h.tQ (l:=[39]) (by rw[e,b];rfl) rfl
theorem ZtR(ok:c.Ok)(E:eX p f (Extern.Atomic.update (Op.intArith .add) .u64 true))(r:H.cg=[31,n]) :
  Zk ((bO p c).prgM) (callFunc f #[.pointer (some (dZ c.W)),.int .u64 (4294967296:Nat)]) wk nr H (λv A=>∃m,m<=100000001/\v=.int .u64 (jV (m+1) 0:Nat)/\A=H.tagc [32,n]):=by
 refine O5 ok (by rw[r];simp[cd]) λs Hs t w q=>.inr ?_;obtain⟨b,o,j⟩:=Oa q (by rw[r];simp[cd]);rw[r]at b j;replace j:Deaf t 0=1:=j;obtain⟨B,F,_⟩:=Ug q;obtain⟨D,_⟩:=o.cnt.rK ok;have u:s.wg.wt=0:=(o.cnt.wg.ED (by rw[b];simp[cd])).1;have x:=Lz E (d:=((4294967296:Nat):Int)) B F;have h:IntKind.u64.wrap (((jV s.wg.v s.wg.wt:Nat):Int)+((4294967296:Nat):Int))=((jV (s.wg.v+1) s.wg.wt:Nat):Int):=by unfold jV;rw[Ls]<;>omega
 rw[h]at x;obtain⟨I,J,K⟩:=Ut (i:=0) (d:=Deaf t 0) (C:=c.toTC) (QC (off:=0) (.inr rfl)) O;refine⟨_,[32,n],eJ.zN (y':={ s.wg with v:=s.wg.v+1 }) ok q x (λfn _=>LM) (.inr ⟨0,_,rfl,rfl⟩) (o.cnt.MW (l:=[32,n]) (by rw[b];rfl) rfl λk m e=>?_) ⟨I,J,by rw[K,j];rfl⟩ (.inr id) (YY (by rw[b];simp[cd]) (by rw[b];simp[cd])) (by rw[b];simp[cd]) (by simp[cd]) (λe=>by simp[cd]at e;exact .inl (by rw[b];simp[cd])),
  by simp[cd],s.wg.v,D,by rw[u],rfl⟩
 simp at e;rw[e.2.symm];exact o.cnt.cntN 31 n O b
theorem ZlA(ok:c.Ok){mk:Addr->Mark}(h:mk=.read\/mk=.write)(E:eX p f (Extern.Race.marked mk))(B:(∃n,H.cg=[32,n])\/H.cg=[36]) :
  Zk ((bO p c).prgM) (callFunc f #[.pointer (some ⟨c.W,1,none⟩)]) wk nr H (λv q=>v=Zt/\q=H):=by
 have A:cd H.cg=32\/cd H.cg=36:=by rcases B with⟨n,e⟩ | e<;>rw[e]<;>simp[cd]
 refine O5 ok O λs Hs t w o=>?_;obtain⟨b,y,x⟩:=Oa o O;have l:bP c { s with tag:=upd s.tag 0 H.cg }:=by rw[<-b,ZgE];exact y.cnt
 obtain⟨r,u⟩:=X5 (C:=c.toTC) (i:=0) (d:=Deaf t 0) (m:=mk ⟨c.W,1,none⟩) (.inr (.inr ⟨rfl,1,by rcases h with rfl | rfl<;>simp⟩));have D:∀g,mk ⟨c.W,1,none⟩≠.extern g:=by rcases h with rfl | rfl<;>simp
 refine .inr ⟨Zt,H.cg,?_,O,rfl,Ay O⟩;refine eJ.CJ ok o (QZ E _ w) (λfn _=>Q1 D fn) (.inl ⟨rfl,rfl⟩) l ⟨r,u,?_⟩ (.inr id) (.inr b.symm) (by rw[b];omega) O (λe=>.inl (by rw[b];omega));rw[x,aT O];rcases h with rfl | rfl<;>rfl
end
end
open Go.Conc
open Go.ConcN (sumTo upd sumTo_upd upd_ne upd_same)
section
variable{p:Program}{c:Cx}{i:Nat}{H:Hp}{s:Ts}{f:FuncId}{wk nr:Bool}
theorem ZtK(ok:c.Ok)(D:eX p f (Extern.Atomic.loadT (.int .u64))){l0:List Nat}(y:H.cg=34 :: l0) :
  Zk ((bO p c).prgM) (callFunc f #[.pointer (some (dZ c.W))]) wk nr H (λv B=>∃n,n<=100000001/\v=.int .u64 (jV n 0:Nat)/\(∀j,l0=[j]->n<j)/\((n=0/\B=H.tagc [38])\/(n≠0/\B=H.tagc [35,n]))):=by
 refine O5 ok (by rw[y];simp[cd]) λs Hs t w u=>.inr ?_;obtain⟨b,m,o⟩:=Oa u (by rw[y];simp[cd]);rw[y]at b o;replace o:Deaf t 0=1:=o;obtain⟨x,L,_⟩:=Ug u;obtain⟨K,_⟩:=m.cnt.rK ok;have A:s.wg.wt=0:=(m.cnt.wg.ED (by rw[b];simp[cd])).1;rw[A]at x;have q:∀j,l0=[j]->s.wg.v<j:=λj e=>(m.cnt.saysM j).2 (by rw[b,e]);obtain⟨F,I,J⟩:=Ut (i:=0) (d:=Deaf t 0) (C:=c.toTC) (LV (off:=0) (wr:=false) (.inr rfl)) O;have h:s.more=0:=m.cnt.wg.more0 (by rw[b];simp[cd]);by_cases r:s.wg.v=0
 ·refine⟨_,[38],eJ.zN ok u (Am D x) (λfn _=>O7) (.inl ⟨rfl,rfl⟩) (m.cnt.DZ (l:=[38]) (by rw[b];rfl) rfl r h) ⟨F,I,by rw[J,o];rfl⟩ (.inr id) (YY (by rw[b];simp[cd]) (by rw[b];simp[cd])) (by rw[b];simp[cd]) (by simp[cd]) (λe=>.inl (by rw[b];simp[cd])),
   by simp[cd],s.wg.v,O,rfl,q,.inl ⟨r,rfl⟩⟩
 refine⟨_,[35,s.wg.v],eJ.zN ok u (Am D x) (λfn _=>O7) (.inl ⟨rfl,rfl⟩) (m.cnt.DY (l:=[35,s.wg.v]) (by rw[b];rfl) rfl r λv e=>by simp at e;omega) ⟨F,I,by rw[J,o];rfl⟩ (.inr id) (YY (by rw[b];simp[cd]) (by rw[b];simp[cd])) (by rw[b];simp[cd]) (by simp[cd]) (λe=>.inl (by rw[b];simp[cd])),
  by simp[cd],s.wg.v,O,rfl,q,.inr ⟨r,rfl⟩⟩
theorem ZtQ(ok:c.Ok)(D:eX p f (Extern.Atomic.casT (.int .u64))){n:Nat}(I:n≠0)(q:H.cg=[35,n]) :
  Zk ((bO p c).prgM) (callFunc f #[.pointer (some (dZ c.W)),.int .u64 (jV n 0:Nat),.int .u64 (jV n 1:Nat)]) wk nr H (λv A=>(v=.bool true/\A=H.tagc [36])\/(v=.bool false/\A=H.tagc [34,n])):=by
 refine O5 ok (by rw[q];simp[cd]) λs Hs t w m=>.inr ?_;obtain⟨b,h,g⟩:=Oa m (by rw[q];simp[cd]);rw[q]at b g;replace g:Deaf t 0=1:=g;obtain⟨o,E,_⟩:=Ug m;obtain⟨J,_⟩:=h.cnt.rK ok;have r:s.wg.wt=0:=(h.cnt.wg.ED (by rw[b];simp[cd])).1;rw[r]at o;have F:s.wg.v<=n:=(h.cnt.saysM n).1 b;by_cases B:s.wg.v=n
 ·obtain⟨u,x,y⟩:=Ut (i:=0) (d:=Deaf t 0) (C:=c.toTC) (QC (off:=0) (.inr rfl)) O;subst B;refine⟨_,[36],eJ.zN (y':={ s.wg with wt:=1 }) ok m (ZhC D o E) (λfn _=>LM) (.inr ⟨0,_,rfl,rfl⟩) (h.cnt.GR (l:=[36]) (by rw[b];rfl) rfl I) ⟨u,x,by rw[y,g];rfl⟩ (.inr id) (YY (by rw[b];simp[cd]) (by rw[b];simp[cd])) (by rw[b];simp[cd]) (by simp[cd]) (λe=>.inl (by rw[b];simp[cd])),
   by simp[cd],.inl ⟨rfl,rfl⟩⟩
 obtain⟨u,x,y⟩:=Ut (i:=0) (d:=Deaf t 0) (C:=c.toTC) (LV (off:=0) (wr:=false) (.inr rfl)) O;refine⟨_,[34,n],eJ.zN ok m (ZhB D o E λe=>B ?_) (λfn _=>O7) (.inl ⟨rfl,rfl⟩) (h.cnt.GU (l:=[34,n]) (by rw[b];rfl) rfl λv e=>by simp at e;omega) ⟨u,x,by rw[y,g];rfl⟩ (.inr id) (YY (by rw[b];simp[cd]) (by rw[b];simp[cd])) (by rw[b];simp[cd]) (by simp[cd]) (λe=>.inl (by rw[b];simp[cd])),
  by simp[cd],.inr ⟨rfl,rfl⟩⟩
 have e:jV s.wg.v 0=jV n 0:=by exact_mod_cast e
 unfold jV at e;omega
def ZtI(ok:c.Ok)(y:eX p f Extern.Sync.semacquire){vs:Array Value}(j:vs[0]? = some (.pointer (some ⟨c.W,1,none⟩)))(u:H.cg=[36]) :
  Zk ((bO p c).prgM) (callFunc f vs) wk nr H (λv A=>v=Zt/\A=H.tagc [37]):=by
 refine O5 ok (by rw[u];simp[cd]) λs Hs t w q=>?_;obtain⟨g,B,m⟩:=Oa q (by rw[u];simp[cd]);rw[u]at g m;replace m:Deaf t 0=1:=m;obtain⟨_,_,r,E⟩:=Ug q;by_cases h:s.wg.wm=0
 ·rw[h]at r;exact .inl ⟨Zhx y j r,.inr ⟨by rw[g];rfl,h⟩⟩
 refine .inr ⟨Zt,[37],?_,by simp[cd],rfl,rfl⟩;obtain⟨F,I,J⟩:=X6 (C:=c.toTC) (i:=0) (d:=Deaf t 0) (b:=c.W) (off:=1) (.inr rfl);have x:=Zhy (rest:=#[]) y j r E (by exact_mod_cast h);have D:((s.wg.wm:Nat):Int)-1=((s.wg.wm-1:Nat):Int):=O;rw[D]at x;refine eJ.zN (y':={ s.wg with wm:=s.wg.wm-1 }) ok q x (λfn _=>Aq) (.inr ⟨1,_,rfl,rfl⟩) (B.cnt.m_woken (l:=[37]) (by rw[g];rfl) rfl h) ⟨F,I,by rw[J,m];rfl⟩ (.inr λe=>absurd e h) ?_ (by rw[g];simp[cd]) (by simp[cd]) (λe=>.inl (by rw[g];simp[cd]));left;rintro(⟨e,_⟩ | ⟨_,e⟩)
 ·rw[g]at e;simp[cd]at e
 exact h e
theorem ZtJ(ok:c.Ok)(y:eX p f (Extern.Atomic.loadT (.int .u64)))(m:H.cg=[37]) :
  Zk ((bO p c).prgM) (callFunc f #[.pointer (some (dZ c.W))]) wk nr H (λv u=>v=.int .u64 (0:Nat)/\u=H.tagc [38]):=by
 refine O5 ok (by rw[m];simp[cd]) λs Hs t w h=>.inr ?_;obtain⟨b,j,g⟩:=Oa h (by rw[m];simp[cd]);rw[m]at b g;replace g:Deaf t 0=1:=g;obtain⟨r,E,_⟩:=Ug h;have o:s.wg.wt=0:=(j.cnt.wg.ED (by rw[b];simp[cd])).1;have x:s.wg.v=0:=j.cnt.wg.zero (by rw[b];simp[cd]);rw[o,x]at r;obtain⟨A,B,D⟩:=Ut (i:=0) (d:=Deaf t 0) (C:=c.toTC) (LV (off:=0) (wr:=false) (.inr rfl)) O;exact⟨_,[38],eJ.zN ok h (Am y r) (λfn _=>O7) (.inl ⟨rfl,rfl⟩) (j.cnt.tR (l:=[38]) (by rw[b];rfl) rfl) ⟨A,B,by rw[D,g];rfl⟩ (.inr id) (YY (by rw[b];simp[cd]) (by rw[b];simp[cd])) (by rw[b];simp[cd]) (by simp[cd]) (λe=>.inl (by rw[b];simp[cd])),
   by simp[cd],rfl,rfl⟩
def ZlC(ok:c.Ok)(hx:eX p f (Extern.Race.marked .acquire))(hg:H.cg=[39]) :
  Zk ((bO p c).prgM) (callFunc f #[.pointer (some (dZ c.W))]) wk nr H (λv H'=>v=Zt/\∃(l:List Nat) (U:Hp),c.PI l U/\(∀m,1<=m->m<=c.N->c.need m=true->m∈l)/\(∀m∈l,1<=m/\m<=c.N/\c.need m=true)/\l.Nodup /\
   U.gh=[]/\(H.tagc [40]).Comp U/\H'=(H.tagc [40]).join U):=by
 intro G V nx cs jQ ha hG
 refine .eZ ⟨VR (.inl (.inr (by rw[hg];simp[cd]))),λs Hs t w hA=>.inl ?_⟩
 obtain⟨u,C,hD⟩:=Oa hA (by rw[hg];simp[cd])
 have uT:s.hd 0=H.hd:=(YD hA (by rw[hg];simp[cd])).2
 rw[hg]at u hD
 replace hD:Deaf t 0=0:=hD
 have vJ:=C.cnt.pos
 have D:0<s.next:=C.cnt.next0
 have FF:c.live s.next 0:=⟨D,.inl rfl⟩
 obtain⟨KG,KF,FO⟩:=XL ok hA
 have R:∀j,c.base<=j->j<s.next->s.tag j=[0]:=λj J h2=>C.cnt.over (by rw[u];simp[cd]) J h2
 have BM:s.more=0:=C.cnt.wg.more0 (by rw[u];simp[cd])
 have aHr:s.next=c.base+c.K:=by have:=C.cnt.num;omega
 have SX:¬ YZ s:=by
  rintro⟨j,L,e | e⟩
  ·by_cases hb:c.base<=j
   ·rw[R j hb L]at e;simp[cd]at e
   rcases qBo j with h0 | h0
   ·subst h0;rw[u]at e;simp[cd]at e
   rw[C.cnt.olds j h0 O]at e;simp[cd]at e
  have:=P9 C.cnt L O;subst this;rw[u]at e;simp[cd]at e
 obtain⟨S,TH,Y,Gp⟩:=(C.heap.resolve_left λh=>SX h.1).2
 let U:Hp:=⟨S.mem,[]⟩
 obtain⟨p1,p2,p3⟩:=Jy ok Y
 have hr:=QZ hx (dZ c.W) w
 have yM:seen p V.fn (#[Yn f]++#[⟨.mark (.acquire (dZ c.W)),false,true⟩])=#[⟨.mark (.acquire (dZ c.W)),false,true⟩]:=O8 λx hx=>by simp at hx;subst hx;exact⟨rfl,by simp⟩
 have hu:ZI 0 V #[⟨.mark (.acquire (dZ c.W)),false,true⟩]=#[{ g:=0,fn:=V.fn,pos:=V.place,act:=.mark (.acquire (dZ c.W)) }]:=by simp[ZI,ofEvents_eq,MemAct.ofEvent]
 have vK:∀b x,U b=some x->Bn c Hs b:=by
  intro b x hb;have Q:S b=some x:=hb;refine⟨⟨x,?_⟩,?_,?_,?_⟩
  ·rw[TH];exact Hp.bC Y Q
  ·rintro rfl;rw[p1]at Q;simp at Q
  ·rintro rfl;rw[p2]at Q;simp at Q
  rintro rfl;rw[p3]at Q;simp at Q
 obtain⟨ta1,ta2,ta3⟩:=C.tr.all (y:={ g:=0,fn:=V.fn,pos:=V.place,act:=.mark (.acquire (dZ c.W)) }) rfl hD rfl λj J h2=>by unfold Y6;rw[R j J h2];exact .inr rfl
 have wS:(H.tagc [40]).Comp U:=⟨λb x y J h2=>by
  have N2:Hs b=some y:=by rw[TH];exact Hp.bC Y h2
  exact hA.dis b x y J N2,.inr rfl⟩
 have S5:((H.tagc [40]).join U).gh=[H.hd+1,40]:=by simp[Hp.bZ,Hp.tagc,Hp.tagged,U]
 have uA:bP c { s with tag:=upd s.tag 0 [40] }:=by obtain⟨m1,m2⟩:=C.cnt.mu.main (more:=s.pm) (l:=[40]) D (by rw[u];simp[cd]) (by simp[cd]);refine C.cnt.step D (.inl rfl) s.wg m1 (qDO m2) (λ_=>rfl) (λj _ _ _ hS=>⟨hS,dO _⟩) (Wg.xX (l:=[40]) C.cnt.wg D (by rw[u];rfl) rfl) (Mu.kJ (by simp[cd])) ⟨λ_ v=>⟨λe=>by simp at e,λe=>by simp at e⟩,λ_ k n hk e=>by simp at e,λe=>absurd rfl e⟩ (λe=>by simp[cd]at e) (λe=>absurd rfl e) (λe=>absurd rfl e) (λ_ e=>absurd rfl e) (λ_ _=>C.cnt.mcl (by rw[u];simp[cd]))
 have F:∀op∈#[({ g:=0,fn:=V.fn,pos:=V.place,act:=.mark (.acquire (dZ c.W)) }:MemOp)],op.act.touch? = none/\op.act≠.mark (.release (dZ c.M))/\op.act≠.mark (.release (dZ c.W))/\(op.act=.mark (.releaseMerge (dZ c.M))->c.base<=op.g/\op.g<s.next/\¬ Y6 s op.g):=by intro op B;simp only[qAv,oR]at B;rw[B];exact⟨rfl,by simp,by simp,by simp⟩
 refine⟨nx Zt,cs,w,(H.tagc [40]).join U,{ s with tag:=upd s.tag 0 [40] },gZ c s,#[⟨.mark (.acquire (dZ c.W)),false,true⟩],?_,?_,?_,λj=>?_,rfl,dO _,.inr λj L=>?_,.inl rfl,hG _ _ ⟨rfl,s.kQ,U,?_,λm J h2 h3=>?_,λm hm=>?_,C.cnt.lnd,rfl,wS,rfl⟩,?_⟩
 ·exact(Ot (P:=p) ha hr).trans (by rw[yM])
 ·rw[hu];refine⟨dO _,λ_ _ _ _=>rfl,λb o pm h=>hA.leS b o pm (C.mw h),λb x h=>.inr ⟨x,.inr (C.mw h),λ_=>rfl⟩,.refl w,?_,?_,?_,?_⟩
  ·intro op B x T b r;rw[(F op B).1]at T;simp at T
  ·intro said q a _ op B b r _;rw[(F op B).1]at r;simp at r
  ·intro op B;simp only[qAv,oR]at B;rw[B];exact hA.leS.lt C.atW
  refine⟨uA,(C.tr.quietly F).sub (λj L=>?_) (λb r=>?_),λj L wT=>?_,λHL=>⟨ta1,ta2⟩,.inl ⟨⟨0,D,.inr (by simp[upd_same,cd])⟩,rfl⟩⟩
  ·unfold Y6 at L ⊢;simp only at L;by_cases e:j=0
   ·subst e;left;rw[u];simp[cd]
   rw[upd_ne _ _ e]at L;exact L
  ·obtain⟨⟨x,T⟩,b1,b2,b3⟩:=r;exact absurd (T.symm.trans (WM b1 b2 b3)) (by simp)
  have:=QA (i:=0) (l:=[40]) (es:=#[⟨.mark (.acquire (dZ c.W)),false,true⟩]) (fn:=V.fn) (pos:=V.place) C.deaf (λ_=>by rw[hD];rfl) L wT;rw[<-hu];exact this
 ·rw[hu];refine⟨?_,?_,?_,?_⟩
  ·intro b o pm r;simp only[Hp.bH,UF]at r;cases hh:H b with
   | some z=>rw[hh]at r;exact hA.le b o pm (by rw[hh];exact r)
   | none=>rw[hh]at r;exact hA.leS b o pm (by rw[TH];exact Hp.bC Y r)
  ·intro b x y J h2;exfalso;rcases(Ur h2).1 with rfl | rfl | rfl
   ·simp only[Hp.bH,UF,KG]at J;have I:S c.M=some x:=J;rw[p1]at I;simp at I
   ·simp only[Hp.bH,UF,KF]at J;have I:S c.W=some x:=J;rw[p2]at I;simp at I
   simp only[Hp.bH,UF,FO]at J;have I:S c.ch=some x:=J;rw[p3]at I;simp at I
  ·intro b x r;refine .inr ⟨x,?_,λ_=>rfl⟩;simp only[Hp.bH,UF]at r;cases hh:H b with
   | some z=>rw[hh]at r;exact .inl r
   | none=>rw[hh]at r;exact .inr (by rw[TH];exact Hp.bC Y r)
  have J:eU (t++#[{ g:=0,fn:=V.fn,pos:=V.place,act:=.mark (.acquire (dZ c.W)) }]) 0 (H.tagc [40]):=
   hA.perm.own λop B=>.inl (by simp only[qAv,oR]at B;rw[B])
  refine J.join λb o pm r q a hq hl _=>?_;obtain⟨x,T,qV⟩:=touch_of hq;rcases getElem?_append_cases T with⟨_,G0⟩ | ⟨_,G0⟩
  ·exact ta3 q x a b G0 qV hl (vK b _ r) D
  rw[(F x G0).1]at qV;simp at qV
 ·show ZE _ j=_;rw[S5];refine(QF (i:=0) (l:=[40]) (s:=s) (s':={ s with tag:=upd s.tag 0 [40] }) rfl rfl j).trans ?_;rw[IY (by simp[cd]),uT];rfl
 ·have L:ZQ s j:=L;show ZQ _ j;unfold ZQ at L ⊢;have:j≠0:=by rintro rfl;rw[u]at L;simp[cd]at L
  simp only[upd_ne _ _ this];exact L
 ·have:U.mem=S.mem:=rfl;exact ok.aR _ _ _ Gp
 ·have NC:s.iU=0:=(C.cnt.hd0.1 (C.cnt.mcl (by rw[u];simp[cd]))).2;rcases C.cnt.compl m J O h3 with h4 | ⟨j,j1,j2,j3⟩
  ·exact h4
  rw[<-j3]at h3 ⊢;exact(C.cnt.lwk j j1 j2).2.2 (.inl (by rw[R j j1 j2];rfl)) h3
 ·obtain⟨a,b,d⟩:=C.cnt.lmem m hm;exact⟨a,O,d⟩
 ·show UW _;rw[S5];exact .inr (by simp[cd,ZN])
end
