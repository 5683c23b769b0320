import Derived.Test.YtlhomfgcibjccaaGreatDoorP14
set_option linter.all false
namespace Go.LL
section
variable{G:Prop}
theorem Zh7(h:G:=by
  have kM:1<=s.hd j:=by
   rcases qAv (s.hd j)with e0 | e0
   ·rw[<-hm,e0,ok.TR]at iA;simp at iA
   exact e0
  exact e (hI.bI.uS j i h1 h2 hb bV kM (hm.trans l9.symm))):G:=h
theorem Mp(h:G:=by intro op bH x eP b eY;simp only[qAb,DO]at bH;rw[bH]at eP;simp[MemAct.touch?]at eP):G:=h
theorem Mo(h:G:=by intro said q a _ op bH b eY _;simp only[qAb,DO]at bH;rw[bH]at eY;simp[MemAct.touch?]at eY):G:=h
open Go.Conc
open Go.ConcN (sumTo upd sumTo_upd upd_ne upd_same)
section
variable{p:Program}{c:Cx}{i:Nat}{H:Hp}{f:FuncId}{wk nr:Bool}
theorem Bw{H:Hp}(h:cd H.cg≠0):H.tagc H.cg=H:=by
 refine Hp.ext' (λ_=>rfl) ?_;show(H.hd+1) :: H.cg=H.gh;unfold Hp.hd Hp.cg at *;match hg:H.gh with
 | []=>rw[hg]at h;exact absurd rfl h
 | 0 :: l=>rw[hg]at h;exact absurd rfl h
 | (n+1) :: l=>rfl
theorem ZgK{α:Type}(g:Nat->α)(i:Nat):upd g i (g i)=g:=by
 funext j;by_cases e:j=i
 ·subst e;rw[upd_same]
 rw[upd_ne _ _ e]
theorem WY(ok:c.Ok)(hx:eT p f Extern.OsHooks.nano)(hn:norace p f=true){vs:Array Value}(hg:1<=cd H.cg/\cd H.cg<=19/\cd H.cg≠12) :
  Zm ((bG p c).prgW i) (callFunc f vs) wk nr H (λv H'=>(∃z,v=.int .i64 z)/\H'=H):=by
 refine O7 ok (.inl ⟨hg.1,hg.2.1⟩) λs Hs t w hA=>.inr ?_;obtain⟨aG,l9⟩:=YC hA O;have hI:ZM c s Hs t:=hA.inv;have fY:bK c { s with tag:=upd s.tag i H.cg }:=by rw[<-aG,ZgK];exact hI.bI
 obtain⟨n1,n2,n3⟩:=Zjb (i:=i) (d:=Deaf t i) (C:=c.toTC);have hr:(callFunc f vs).runT p w #[]=(.ok (.value (.int .i64 ((w.os.mono+w.tick:Nat):Int))) w.later,#[Yo f]++#[⟨.output,true,false⟩]):=hx.val rfl rfl;have hm:=wM ok hA;have hw:=wW hA;refine⟨_,H.cg,⟨⟨w.later,_,#[],s.mu,s.wg,hr,λfn _=>seen_entry_out fn f hn,fY,n1,n2,?_,hm,hw,λ_ _ _=>rfl,rfl,⟨⟨w.tick,rfl⟩,rfl,rfl⟩,.inr ⟨id,id⟩⟩,.inr aG.symm,by rw[aG];omega,O,λe=>O,by rw[aG];omega⟩,.inl ⟨hg.1,hg.2.1⟩,⟨_,rfl⟩,Bw O⟩;rw[n3,VS hA (by rw[aG];omega),aG,bY O]
theorem X9(ok:c.Ok){s:Ts}{Hs:Hp}{t:Trace}{w:World}(hA:dH (bG p c) i H s Hs t w):H c.M=none/\H c.W=none/\H c.ch=none:=by
 have hI:ZM c s Hs t:=hA.inv;refine⟨?_,?_,?_⟩
 ·cases hh:H c.M with
  | none=>rfl
  | some y=>have:=hA.dis c.M _ _ hh (hI.yH ok);rw[this.1]at this;simp at this
 ·cases hh:H c.W with
  | none=>rfl
  | some y=>have:=hA.dis c.W _ _ hh hI.yG;rw[this.1]at this;simp at this
 cases hh:H c.ch with
 | none=>rfl
 | some y=>have:=hA.dis c.ch _ _ hh (hI.C8 ok);rw[this.1]at this;simp at this
theorem OU(ok:c.Ok)(hx:eT p f (Extern.Race.marked .acquire))(hg:H.cg=[11]) :
  Zm ((bG p c).prgW i) (callFunc f #[.pointer (some (dN c.M))]) wk nr H (λv H'=>v=Zu/\∃(l:List Nat) (Hl:Hp),c.PI l Hl/\H.hd ∉ l/\c.need H.hd=true/\Hl.gh=[]/\(H.tagc (12 :: l)).Comp Hl/\H'=(H.tagc (12 :: l)).join Hl):=by
 intro G fr nx cs bU ha hG;refine .eX ⟨VQ (.inl (.inl (by rw[hg];simp[cd]))),.inr (.inl ⟨by show Yw H.cg;rw[hg];exact .inl (by simp[cd]),λs Hs t w hA=>.inl ?_⟩)⟩;obtain⟨aG,l9⟩:=YC hA (by rw[hg];simp[cd]);rw[hg]at aG;have hI:ZM c s Hs t:=hA.inv;have hb:=UD hA (by rw[aG];simp[cd]) (by rw[aG];simp[cd]);have bD:i≠0:=by have:=hI.bI.pos;omega
 have gZ:=SZ hA (by rw[aG];simp);have hD:Deaf t i=0:=by rw[VS hA (by rw[aG];simp[cd]),aG];rfl
 obtain⟨ES,ER,GJ⟩:=X9 ok hA;have P4:Zk (cd (s.tag i))=1:=by rw[aG];rfl
 have uR:¬ YZ s:=by
  rintro⟨j,hj,e | e⟩
  ·have gO:j≠i:=by rintro rfl;rw[aG]at e;simp[cd]at e
   have bV:i<s.next:=hA.lt;have e1:=counts (tag:=s.tag) (l:=[0]) bV Zk;have e2:=Ct.le Zk (upd s.tag i [0]) hj;rw[upd_ne _ _ gO,e]at e2;have e3:Zk (cd [0])=0:=rfl;have e4:Zk 12=1:=rfl;have:=hI.bI.mu.L1;have:=hI.bI.mu.L2;omega
  have:=RM hI.bI hj O;subst this;have:=hI.bI.over O hb hA.lt;rw[aG]at this;simp at this
 obtain⟨yK,yF,rV,I9⟩:=(hI.heap.resolve_left λh=>uR h.1).2;let Hl:Hp:=⟨yK.mem,[]⟩
 obtain⟨p1,p2,p3⟩:=Mg ok rV;obtain⟨iA,PN⟩:=(hI.bI.AH i hb hA.lt).2.1 (by rw[aG];simp[cd]) (by rw[aG];simp[cd]);have hr:=SI hx (dN c.M) w;have oI:seen p fr.fn (#[Yo f]++#[⟨.mark (.acquire (dN c.M)),false,true⟩])=#[⟨.mark (.acquire (dN c.M)),false,true⟩]:=O9 λx hx=>by simp at hx;subst hx;exact⟨rfl,by simp⟩
 have hu:ZJ i fr #[⟨.mark (.acquire (dN c.M)),false,true⟩]=#[{ g:=i,fn:=fr.fn,pos:=fr.place,act:=.mark (.acquire (dN c.M)) }]:=by simp[ZJ,ofEvents_eq,MemAct.ofEvent]
 have l8:∀b x,Hl b=some x->Cm c Hs b:=by
  intro b x hb;have gF:yK b=some x:=hb;refine⟨⟨x,?_⟩,?_,?_,?_⟩
  ·rw[yF];exact Hp.aS rV gF
  ·rintro rfl;rw[p1]at gF;simp at gF
  ·rintro rfl;rw[p2]at gF;simp at gF
  rintro rfl;rw[p3]at gF;simp at gF
 obtain⟨MZ,tr2⟩:=hI.tr.take (y:={ g:=i,fn:=fr.fn,pos:=fr.place,act:=.mark (.acquire (dN c.M)) }) rfl hD gZ;have gD:(H.tagc (12 :: s.kP)).Comp Hl:=⟨λb x y h1 h2=>by
  have C7:Hs b=some y:=by rw[yF];exact Hp.aS rV h2
  exact hA.dis b x y h1 C7,.inr rfl⟩
 have yA:((H.tagc (12 :: s.kP)).join Hl).gh=(H.hd+1) :: 12 :: s.kP:=by simp[Hp.bP,Hp.tagc,Hp.tagged,Hl]
 have fY:bK c { s with tag:=upd s.tag i (12 :: s.kP) }:=by
  obtain⟨m1,m2⟩:=Mu.xJ (more:=s.pm) (l:=12 :: s.kP) hI.bI.mu hA.lt (by rw[aG];rfl) rfl;have bB:=Wg.wY (l:=12 :: s.kP) hI.bI.wg hA.lt bD (by rw[aG];rfl) rfl;refine hI.bI.step hA.lt (.inr hb) s.wg m1 (ZO m2 (by decide)) (λ_=>rfl) (λj _ _ _ hS=>⟨hS,aC _⟩) bB ?_ ⟨λe=>absurd e bD,λe=>absurd e bD,λ_=>aC _⟩ (λ_=>rfl) (λ_ _=>⟨by simp[cd],λe=>by simp[cd]at e⟩) (λ_ cZ=>?_) (λ_ _=>⟨by simp[cd],by simp[cd],by simp⟩) (λe=>absurd e bD)
  ·unfold Mu.dM;split<;>first | (rename_i h;simp at h;done) | trivial
  rw[aG]at cZ;exact Oo.low cZ (by simp[cd]) (by simp[cd]) (by simp[cd]) (by simp[cd])
 refine⟨nx Zu,cs,w,(H.tagc (12 :: s.kP)).join Hl,{ s with tag:=upd s.tag i (12 :: s.kP) },hO c s,#[⟨.mark (.acquire (dN c.M)),false,true⟩],?_,?_,?_,λj=>?_,rfl,aC _,.inr λj hj=>?_,.inl rfl,.inl ⟨hG _ _ ⟨rfl,s.kP,Hl,?_,l9 ▸ PN,l9 ▸ iA,rfl,gD,rfl⟩,?_⟩⟩
 ·exact(Ov (P:=p) ha hr).trans (by rw[oI])
 ·rw[hu];refine⟨aC _,λ_ _ _ _=>rfl,λb o pm h=>hA.leS b o pm (hI.mw h),λb x h=>.inr ⟨x,.inr (hI.mw h),λ_=>rfl⟩,.refl w,?_,?_,?_,?_⟩
  ·exact Mp
  ·exact Mo
  ·intro op bH;simp only[qAb,DO]at bH;rw[bH];exact hA.leS.lt (hI.yH ok)
  refine⟨fY,MZ.sub (λj hj=>?_) (λb eY=>?_),λj hj iH=>?_,λnI=>?_,.inl ⟨⟨i,hA.lt,.inl (by simp[upd_same,cd])⟩,rfl⟩⟩
  ·unfold Y6 at hj ⊢;simp only at hj;by_cases e:j=i
   ·subst e;rw[upd_same]at hj;simp[cd]at hj
   rw[upd_ne _ _ e]at hj;exact hj
  ·obtain⟨⟨x,eP⟩,b1,b2,b3⟩:=eY;exact absurd (eP.symm.trans (Aq b1 b2 b3)) (by simp)
  ·have:=RO (i:=i) (l:=12 :: s.kP) (es:=#[⟨.mark (.acquire (dN c.M)),false,true⟩]) (fn:=fr.fn) (pos:=fr.place) hI.deaf (λ_=>by rw[hD];rfl) hj iH;rw[<-hu];exact this
  simp only[upd_ne _ _ (qAi bD)]at nI;have:=hI.bI.over O hb hA.lt;rw[aG]at this;simp at this
 ·rw[hu];refine⟨?_,?_,?_,?_⟩
  ·intro b o pm eY;simp only[Hp.aX,UF]at eY;cases hh:H b with
   | some z=>rw[hh]at eY;exact hA.le b o pm (by rw[hh];exact eY)
   | none=>rw[hh]at eY;exact hA.leS b o pm (by rw[yF];exact Hp.aS rV eY)
  ·intro b x y h1 h2;exfalso;rcases(Ur h2).1 with rfl | rfl | rfl
   ·simp only[Hp.aX,UF,ES]at h1;have kM:yK c.M=some x:=h1;rw[p1]at kM;simp at kM
   ·simp only[Hp.aX,UF,ER]at h1;have kM:yK c.W=some x:=h1;rw[p2]at kM;simp at kM
   simp only[Hp.aX,UF,GJ]at h1;have kM:yK c.ch=some x:=h1;rw[p3]at kM;simp at kM
  ·intro b x eY;refine .inr ⟨x,?_,λ_=>rfl⟩;simp only[Hp.aX,UF]at eY;cases hh:H b with
   | some z=>rw[hh]at eY;exact .inl eY
   | none=>rw[hh]at eY;exact .inr (by rw[yF];exact Hp.aS rV eY)
  have h1:eR (t++#[{ g:=i,fn:=fr.fn,pos:=fr.place,act:=.mark (.acquire (dN c.M)) }]) i (H.tagc (12 :: s.kP)):=
   hA.perm.own λop bH=>.inl (by simp only[qAb,DO]at bH;rw[bH])
  refine h1.join λb o pm eY q a hq hl _=>?_;obtain⟨x,eP,gC⟩:=touch_of hq;exact tr2 b (l8 b _ eY) q x a eP gC hl
 ·show ZG _ j=_;rw[yA];refine(RW (i:=i) (l:=12 :: s.kP) (s:=s) (s':={ s with tag:=upd s.tag i (12 :: s.kP) }) rfl rfl j).trans ?_;rw[J2 (by simp[cd]),l9];rfl
 ·have hj:ZS s j:=hj;show ZS _ j;unfold ZS at hj ⊢;have:j≠i:=by rintro rfl;rw[aG]at hj;simp[cd]at hj
  simp only[upd_ne _ _ this];exact hj
 ·have:Hl.mem=yK.mem:=rfl;exact ok.aP _ _ _ I9
 show UX _;rw[yA];exact .inl (by simp[cd,ZP])
theorem ZyJ(ok:c.Ok)(hx:eT p f (Extern.Race.marked .releaseMerge)){H0 Hl:Hp}{l:List Nat}(hc:H0.Comp Hl)(hg:H0.cg=12 :: l)(yE:c.PI (l++[H0.hd]) Hl) :
  Zm ((bG p c).prgW i) (callFunc f #[.pointer (some (dN c.M))]) wk nr (H0.join Hl) (λv H'=>v=Zu/\H'=H0.tagc [13]):=by
 have cZ:Hl.gh=[]:=hc.gh.resolve_left (VQ (.inl (.inl (by rw[hg];simp[cd]))));have P2:(H0.join Hl).gh=H0.gh:=by rw[Hp.bP,cZ];simp
 have KR:(H0.join Hl).cg=12 :: l:=by unfold Hp.cg;rw[P2];exact hg
 have hjh:(H0.join Hl).hd=H0.hd:=by unfold Hp.hd;rw[P2]
 intro G fr nx cs bU ha hG;refine .eX ⟨VQ (.inl (.inl (by rw[KR];simp[cd]))),.inr (.inl ⟨by show Yw (H0.join Hl).cg;rw[KR];exact .inl (by simp[cd]),λs Hs t w hA=>.inl ?_⟩)⟩;obtain⟨aG,l9⟩:=YC hA (by rw[KR];simp[cd]);rw[KR]at aG;rw[hjh]at l9;have bV:i<s.next:=hA.lt;have hI:ZM c s Hs t:=hA.inv;have hb:=UD hA (by rw[aG];simp[cd]) (by rw[aG];simp[cd]);have bD:i≠0:=by have:=hI.bI.pos;omega
 have gZ:=SZ hA (by rw[aG];simp);have hD:Deaf t i=0:=by rw[VS hA (by rw[aG];simp[cd]),aG];rfl
 obtain⟨ES,ER,GJ⟩:=X9 ok hA;have BL:s.kP=l:=by have:=hI.bI.tk i bV (by rw[aG];rfl);rw[aG]at this;simpa using this.symm
 have rB:YZ s:=⟨i,bV,.inl (by rw[aG];rfl)⟩;have yF:Hs=hO c s:=by
  rcases hI.heap with h | h
  ·exact h.2
  exact absurd rB h.1
 have P4:Zk (cd (s.tag i))=1:=by rw[aG];rfl
 obtain⟨iA,PN⟩:=(hI.bI.AH i hb bV).2.1 (by rw[aG];simp[cd]) (by rw[aG];simp[cd]);have hr:=SI hx (dN c.M) w;have oI:seen p fr.fn (#[Yo f]++#[⟨.mark (.releaseMerge (dN c.M)),false,true⟩])=#[⟨.mark (.releaseMerge (dN c.M)),false,true⟩]:=O9 λx hx=>by simp at hx;subst hx;exact⟨rfl,by simp⟩
 have hu:ZJ i fr #[⟨.mark (.releaseMerge (dN c.M)),false,true⟩]=#[{ g:=i,fn:=fr.fn,pos:=fr.place,act:=.mark (.releaseMerge (dN c.M)) }]:=by simp[ZJ,ofEvents_eq,MemAct.ofEvent]
 have GI:∀b x,Hl b=some x->(H0.join Hl) b=some x:=λb x h=>Hp.aS hc h;have hlM:Hl c.M=none:=(Hp.dR.1 ES).2;have hlW:Hl c.W=none:=(Hp.dR.1 ER).2;have hlC:Hl c.ch=none:=(Hp.dR.1 GJ).2;have uR:¬ YZ { s with tag:=upd s.tag i [13],kP:=l++[H0.hd] }:=by
  rintro⟨j,hj,e⟩;by_cases gO:j=i
  ·subst gO;simp only[upd_same,cd]at e;simp at e
  simp only[upd_ne _ _ gO]at e;rcases e with e | e
  ·have e1:=counts (tag:=s.tag) (l:=[0]) bV Zk;have e2:=Ct.le Zk (upd s.tag i [0]) hj;rw[upd_ne _ _ gO,e]at e2;have e3:Zk (cd [0])=0:=rfl;have e4:Zk 12=1:=rfl;have:=hI.bI.mu.L1;have:=hI.bI.mu.L2;simp only at e2;omega
  have:=RM hI.bI hj O;subst this;have:=hI.bI.over O hb bV;rw[aG]at this;simp at this
 have fY:bK c { s with tag:=upd s.tag i [13],kP:=l++[H0.hd] }:=by
  obtain⟨m1,m2⟩:=Mu.xI (more:=s.pm) (l:=[13]) hI.bI.mu bV (by rw[aG];rfl) rfl;have bB:=Wg.wX (l:=[13]) hI.bI.wg bV bD (by rw[aG];rfl) rfl;have jN:∀j,j∈l++[H0.hd]↔j∈s.kP\/j=H0.hd:=by intro j;rw[BL];simp
  rw[l9]at iA PN;refine⟨m1,bB,λj hj=>?_,λv=>?_,λk n hk hl=>?_,λj hj iH=>?_,hI.bI.num,hI.bI.pos,hI.bI.nb,λj h1 h2=>?_,λj h1 h2=>?_,?_,λj hj=>?_,λj h1 h2=>?_,hI.bI.uX,hI.bI.FU,hI.bI.C5,hI.bI.uS,λq h1 h2 h3=>?_,λbU j h1 h2=>?_,λh1=>?_⟩
  ·by_cases e:j=i
   ·subst e;simp only[upd_same];trivial
   simp only[upd_ne _ _ e];exact(hI.bI.oS j hj).keep (ZO m2 (by decide)) (λ_=>rfl) λ_ hS=>⟨hS,aC _⟩
  ·simp only[upd_ne _ _ (qAi bD)];exact hI.bI.oQ v
  ·simp only[upd_ne _ _ (qAi bD)]at hl;exact hI.bI.nV k n hk hl
  ·exfalso;exact uR ⟨j,hj,.inl iH⟩
  ·have:j≠i:=by rintro rfl;omega
   simp only[upd_ne _ _ this];exact hI.bI.kO j h1 h2
  ·by_cases e:j=i
   ·subst e;simp only[upd_same];exact⟨by simp[cd],λe=>by simp[cd]at e⟩
   simp only[upd_ne _ _ e];exact hI.bI.kW j h1 h2
  ·have:=hI.bI.HC;rw[BL]at this;refine List.nodup_append.2 ⟨this,by simp,λa ha b hb e=>?_⟩;simp only[DO]at hb;rw[e,hb]at ha;rw[BL]at PN;exact PN ha
  ·rcases(jN j).1 hj with h1 | rfl
   ·exact hI.bI.qY j h1
   refine⟨?_,?_,iA⟩
   ·rcases qAv H0.hd with e | e
    ·rw[e,ok.TR]at iA;simp at iA
    exact e
   have:=hI.bI.C5 i hb bV;rwa [l9]at this
  ·have hk:=hI.bI.AH j h1 h2;by_cases e:j=i
   ·subst e;simp only[upd_same];exact⟨λe=>by simp[cd]at e,λ_ e=>by simp[cd]at e,λ_ _=>(jN _).2 (.inr l9)⟩
   simp only[upd_ne _ _ e];refine⟨λh=>?_,λh h'=>⟨(hk.2.1 h h').1,?_⟩,λh hn=>(jN _).2 (.inl (hk.2.2 h hn))⟩;all_goals
    rintro hm
    rcases(jN _).1 hm with hm | hm
   ·exact hk.1 h hm
   ·exact Zh7
   ·exact(hk.2.1 h h').2 hm
   exact Zh7
  ·rcases hI.bI.pC q h1 h2 h3 with h4 | h4
   ·exact .inl ((jN q).2 (.inl h4))
   exact .inr h4
  ·by_cases e:j=i
   ·subst e;simp only[upd_same];simp[cd]
   simp only[upd_ne _ _ e];exact hI.bI.run bU j h1 h2
  simp only[upd_ne _ _ (qAi bD)]at h1;exact hI.bI.yT h1
 have oZ:(hO c s).Comp Hl:=⟨λb x y h1 h2=>by
  rcases(Ur h1).1 with rfl | rfl | rfl
  ·rw[hlM]at h2;simp at h2
  ·rw[hlW]at h2;simp at h2
  rw[hlC]at h2;simp at h2,.inl rfl⟩
 refine⟨nx Zu,cs,w,H0.tagc [13],{ s with tag:=upd s.tag i [13],kP:=l++[H0.hd] },(hO c s).join Hl,#[⟨.mark (.releaseMerge (dN c.M)),false,true⟩],?_,?_,?_,λj=>?_,rfl,aC _,.inr λj hj=>?_,.inl rfl,.inl ⟨hG _ _ ⟨rfl,rfl⟩,.inl (by simp[Hp.tagc,Hp.tagged,ZP,cd])⟩⟩
 ·exact(Ov (P:=p) ha hr).trans (by rw[oI])
 ·rw[hu];refine⟨aC _,λ_ _ _ _=>rfl,?_,?_,.refl w,?_,?_,?_,?_⟩
  ·intro b o pm h;simp only[Hp.aX]at h;cases hh:hO c s b with
   | some z=>rw[hh]at h;exact hA.leS b o pm (by rw[yF];exact hh.trans h)
   | none=>rw[hh]at h;exact hA.le b o pm (GI b _ h)
  ·intro b x h;simp only[Hp.aX]at h;cases hh:hO c s b with
   | some z=>rw[hh]at h;exact .inr ⟨x,.inr (by rw[yF];exact hh.trans h),λ_=>rfl⟩
   | none=>rw[hh]at h;exact .inr ⟨x,.inl (GI b _ h),λ_=>rfl⟩
  ·exact Mp
  ·exact Mo
  ·intro op bH;simp only[qAb,DO]at bH;rw[bH];exact hA.leS.lt (hI.yH ok)
  have MZ:=hI.tr.Jo (y:={ g:=i,fn:=fr.fn,pos:=fr.place,act:=.mark (.releaseMerge (dN c.M)) }) rfl hD ⟨hb,bV,by unfold Y6;rw[aG];simp[cd]⟩ (FN:=Cm c ((hO c s).join Hl)) (λb eY=>.inr λq x a hq rX mD=>by obtain⟨⟨y,hy⟩,b1,b2,b3⟩:=eY;have hmn:hO c s b=none:=Aq b1 b2 b3;simp only[Hp.aX]at hy;rw[hmn]at hy;have hw:=ok.own _ _ yE b y hy;refine hA.perm b y.1 y.2 (GI b _ hy) q a ?_ mD (.inl hw);rw[touchAt_of hq];exact rX);refine⟨fY,MZ.sub (λj hj=>?_) (λ_ h=>h),λj hj iH=>?_,λnI=>?_,.inr ⟨uR,Hl,rfl,oZ,yE⟩⟩
  ·unfold Y6 at hj ⊢;simp only at hj;by_cases e:j=i
   ·subst e;rw[upd_same]at hj;simp[cd]at hj
   rw[upd_ne _ _ e]at hj;exact hj
  ·have:=RO (i:=i) (l:=[13]) (es:=#[⟨.mark (.releaseMerge (dN c.M)),false,true⟩]) (fn:=fr.fn) (pos:=fr.place) hI.deaf (λ_=>by rw[hD];rfl) hj iH;rw[<-hu];exact this
  simp only[upd_ne _ _ (qAi bD)]at nI;have:=hI.bI.over O hb bV;rw[aG]at this;simp at this
 ·rw[hu];refine⟨λb o pm h=>hA.le b o pm (Hp.aK h),?_,λb x h=>.inr ⟨x,.inl (Hp.aK h),λ_=>rfl⟩,?_⟩
  ·intro b x y h1 h2;simp only[Hp.aX]at h2;cases hh:hO c s b with
   | some z=>rw[hh]at h2;exact hA.dis b x y (Hp.aK h1) (by rw[yF];exact hh.trans h2)
   | none=>rw[hh]at h2;exact hc b x y h1 h2
  have h1:eR (t++#[{ g:=i,fn:=fr.fn,pos:=fr.place,act:=.mark (.releaseMerge (dN c.M)) }]) i (H0.join Hl):=
   hA.perm.own λop bH=>.inl (by simp only[qAb,DO]at bH;rw[bH])
  exact h1.left
 ·refine(RW (i:=i) (l:=[13]) (s:=s) (s':={ s with tag:=upd s.tag i [13],kP:=l++[H0.hd] }) rfl rfl j).trans ?_;rw[J2 (by simp[cd]),l9];rfl
 have hj:ZS s j:=hj;show ZS _ j;unfold ZS at hj ⊢;have:j≠i:=by rintro rfl;rw[aG]at hj;simp[cd]at hj
 simp only[upd_ne _ _ this];exact hj
theorem ZyH(ok:c.Ok)(hx:eT p f (Extern.Race.marked .releaseMerge))(hg:H.cg=[19,1]) :
  Zm ((bG p c).prgW i) (callFunc f #[.pointer (some (dN c.W))]) wk nr H (λv H'=>v=Zu/\H'=H.tagc [20]):=by
 have IV:1<=cd H.cg/\cd H.cg<=19/\cd H.cg≠12/\cd H.cg≠7:=by rw[hg];simp[cd]
 intro G fr nx cs bU ha hG;refine .eX ⟨VQ (.inl (.inl ⟨IV.1,IV.2.1⟩)),.inr (.inl ⟨.inl ⟨IV.1,IV.2.1⟩,λs Hs t w hA=>.inl ?_⟩)⟩;obtain⟨aG,l9⟩:=YC hA O;have bV:i<s.next:=hA.lt;have hI:ZM c s Hs t:=hA.inv;have hb:=UD hA (by rw[aG];exact IV.1) (by rw[aG];omega);have bD:i≠0:=by have:=hI.bI.pos;omega
 have hD:Deaf t i=0:=by rw[VS hA (by rw[aG];omega),aG,hg];rfl
 have bU:s.cls=true:=by
  cases bU:s.cls with
  | true=>rfl
  | false=>exact absurd (aG.trans hg) (hI.bI.run bU i hb bV).2.2
 have hr:=SI hx (dN c.W) w;have oI:seen p fr.fn (#[Yo f]++#[⟨.mark (.releaseMerge (dN c.W)),false,true⟩])=#[⟨.mark (.releaseMerge (dN c.W)),false,true⟩]:=O9 λx hx=>by simp at hx;subst hx;exact⟨rfl,by simp⟩
 have hu:ZJ i fr #[⟨.mark (.releaseMerge (dN c.W)),false,true⟩]=#[{ g:=i,fn:=fr.fn,pos:=fr.place,act:=.mark (.releaseMerge (dN c.W)) }]:=by simp[ZJ,ofEvents_eq,MemAct.ofEvent]
 have fY:bK c { s with tag:=upd s.tag i [20] }:=by exact(hI.bI.mO (l:=[20]) bV hb (by rw[aG,hg];rfl) rfl bU trivial).1
 have rB:YZ { s with tag:=upd s.tag i [20] }↔YZ s:=by
  constructor
  ·rintro⟨j,h1,h2⟩;by_cases e:j=i
   ·subst e;simp only[upd_same,cd]at h2;simp at h2
   simp only[upd_ne _ _ e]at h2;exact⟨j,h1,h2⟩
  rintro⟨j,h1,h2⟩;by_cases e:j=i
  ·subst e;rw[aG]at h2;omega
  exact⟨j,h1,by simp only[upd_ne _ _ e];exact h2⟩
 refine⟨nx Zu,cs,w,H.tagc [20],{ s with tag:=upd s.tag i [20] },Hs,#[⟨.mark (.releaseMerge (dN c.W)),false,true⟩],?_,?_,?_,λj=>?_,rfl,aC _,.inr λj hj=>?_,.inl rfl,.inr ⟨by show JT _;simp[Hp.tagc,Hp.tagged,JT,Z5,ZP,cd],hG _ _ ⟨rfl,rfl⟩⟩⟩
 ·exact(Ov (P:=p) ha hr).trans (by rw[oI])
 ·rw[hu];refine⟨aC _,λ_ _ _ _=>rfl,hA.leS,λb x h=>.inr ⟨x,.inr h,λ_=>rfl⟩,.refl w,?_,?_,?_,?_⟩
  ·exact Mp
  ·exact Mo
  ·intro op bH;simp only[qAb,DO]at bH;rw[bH];exact hA.leS.lt hI.yG
  have MZ:=Tr.release ok.ne hI.tr (y:={ g:=i,fn:=fr.fn,pos:=fr.place,act:=.mark (.releaseMerge (dN c.W)) }) rfl hD;refine⟨fY,MZ.sub (λj hj=>?_) (λ_ h=>h),λj hj iH=>?_,λnI=>?_,?_⟩
  ·unfold Y6 at hj ⊢;simp only at hj;by_cases e:j=i
   ·exact .inr e
   rw[upd_ne _ _ e]at hj;exact .inl hj
  ·have:=RO (i:=i) (l:=[20]) (es:=#[⟨.mark (.releaseMerge (dN c.W)),false,true⟩]) (fn:=fr.fn) (pos:=fr.place) hI.deaf (λ_=>by rw[hD];rfl) hj iH;rw[<-hu];exact this
  ·simp only[upd_ne _ _ (qAi bD)]at nI;have:=hI.bI.over O hb bV;rw[aG]at this;rw[this]at IV;simp[cd]at IV
  exact hI.heap.imp (λ⟨a,b⟩=>⟨rB.2 a,b⟩) λ⟨a,Hl,b,cc,d⟩=>⟨λh=>a (rB.1 h),Hl,b,cc,d⟩
 ·rw[hu];exact⟨hA.le,hA.dis,λb x h=>.inr ⟨x,.inl h,λ_=>rfl⟩,hA.perm.own λop bH=>.inl (by simp only[qAb,DO]at bH;rw[bH])⟩
 ·refine(RW (i:=i) (l:=[20]) (s:=s) (s':={ s with tag:=upd s.tag i [20] }) rfl rfl j).trans ?_;rw[J2 (by simp[cd]),l9];rfl
 have hj:ZS s j:=hj;show ZS _ j;unfold ZS at hj ⊢;have:j≠i:=by rintro rfl;rw[aG]at hj;omega
 simp only[upd_ne _ _ this];exact hj
end
end
section
variable{Hs:Hp}{t:Trace}{w:World}{z v:Int}{k:IntKind}{a:Addr}{vs:Array Value}{n:Nat}
open Go.Conc
open Go.ConcN (sumTo upd sumTo_upd upd_ne upd_same)
section
variable{p:Program}{c:Cx}{i:Nat}{H:Hp}{s:Ts}{f:FuncId}{wk nr:Bool}
def jQ(v wt:Nat):Nat:=v * 4294967296+wt
theorem Ug(hA:dH (bG p c) i H s Hs t w):w.cell? ⟨c.W,0,none⟩=some (.int .u64 (jQ s.wg.v s.wg.wt:Nat))/\w.frozen? ⟨c.W,0,none⟩=false/\w.cell? ⟨c.W,1,none⟩=some (.int .u32 (s.wg.wm:Nat))/\w.frozen? ⟨c.W,1,none⟩=false:=by obtain⟨h1,h2⟩:=VU (off:=0) (v:=.int .u64 (jQ s.wg.v s.wg.wt:Nat)) (wW hA) rfl;obtain⟨h3,h4⟩:=VU (off:=1) (v:=.int .u32 (s.wg.wm:Nat)) (wW hA) rfl;exact⟨h1,h2,h3,h4⟩
theorem Pj(h1:0<=z)(h2:z<=18446744073709551615):IntKind.u64.wrap z=z:=by simp only[IntKind.wrap,IntKind.bits,IntKind.signed];simp;omega
theorem ZnR(h1:18446744073709551616<=z)(h2:z<=36893488147419103231):IntKind.u64.wrap z=z-18446744073709551616:=by simp only[IntKind.wrap,IntKind.bits,IntKind.signed];simp;omega
theorem bK.qK(ok:c.Ok)(h:bK c s):s.wg.v<=100000001/\s.wg.wt<=1:=by
 have h1:=h.CD (g:=cW) (λn=>SB _) rfl (λn hn=>by simp[cW,one];omega);have h3:=h.num;have h4:=ok.FH;have h5:mP (cd (s.tag 0))<=1:=SB _;obtain⟨g1,g2,g3,g4,g5,g6⟩:=h.wg;refine⟨O,?_⟩;by_cases e:cd (s.tag 0)=36
 ·have:=g4 e;omega
 have:=g5 e;omega
theorem Bn(hx:eT p f (Extern.Atomic.loadT (.int k)))(hc:w.cell? a=some (.int k v)) :
  (callFunc f #[.pointer (some a)]).runT p w #[]=(.ok (.value (.int k v)) w,#[Yo f]++#[⟨.cell a,false,true⟩]):=by
 refine hx.val ?_ ?_
 ·change Sem.run p (do Extern.Atomic.read (.int k) (<-asAddr (.pointer (some a)))) w=_;simp[Extern.Atomic.read,asAddr,hc]
 change Sem.events p (do Extern.Atomic.read (.int k) (<-asAddr (.pointer (some a)))) w _=_;simp[Extern.Atomic.read,asAddr,hc,events_load]
theorem ZpG(hx:eT p f Extern.Atomic.storeT){u:Value}(hc:w.cell? a=some u)(hz:w.frozen? a=false) :
  (callFunc f #[.pointer (some a),.int k v]).runT p w #[]=(.ok (.value Zu) (w.setCell a (.int k v)),#[Yo f]++#[⟨.cell a,true,true⟩]):=by
 refine hx.val ?_ ?_
 ·change Sem.run p (do
   store (<-asAddr (.pointer (some a))) (.int k v) .atomic
   pure Extern.Atomic.none_) w=_
  simp[asAddr,hc,hz,run_store p w a (.int k v) .atomic rfl,Extern.Atomic.none_,Result.andThen]
 change Sem.events p (do
  store (<-asAddr (.pointer (some a))) (.int k v) .atomic
  pure Extern.Atomic.none_) w _=_
 simp[asAddr,hc,hz,events_store p w _ a (.int k v) .atomic rfl]
theorem RY(hA:dH (bG p c) i (.aP H.gh) s Hs t w)(hg:Z5 H.cg):s.tag i=H.cg/\ZM c s Hs t/\i<s.next/\c.base<=i/\i≠0/\Deaf t i=df (cd H.cg):=by have aG:s.tag i=H.cg:=(YC hA (JV (.inr hg))).1;have hI:ZM c s Hs t:=hA.inv;unfold Z5 at hg;have hb:=UD hA (by rw[aG];omega) (by rw[aG];omega);exact⟨aG,hI,hA.lt,hb,by have:=hI.bI.pos;omega,by rw[VS hA (by rw[aG];omega),aG]⟩
theorem ZuM(ok:c.Ok)(hx:eT p f (λ_=>do mark .disable;pure Zu))(hg:H.cg=[20]):Zm ((bG p c).prgW i) (callFunc f vs) wk nr H (λv H'=>v=Zu/\H'=H.tagc [21]):=by refine SN ok (by rw[hg];simp[Z5,cd]) λs Hs t w hA=>.inr ⟨Zu,[21],?_,.inl ⟨by simp[Z5,cd],rfl,rfl⟩⟩;obtain⟨aG,hI,bV,hb,bD,hD⟩:=RY hA (by rw[hg];simp[Z5,cd]);rw[hg]at aG hD;obtain⟨e1,e2⟩:=Ax (C:=c.toTC) (i:=i) (d:=Deaf t i) (m:=.disable) (.inl rfl);refine dW.CT ok hA (SJ (by simp) hx vs w) (λfn _=>SL (by simp) fn) (.inl ⟨rfl,rfl⟩) (hI.bI.mN (l:=[21]) bV hb (by rw[aG];rfl) rfl trivial).1 ⟨e1,e2,?_⟩ (.inr id) (YY (by rw[aG];simp[cd]) (by rw[aG];simp[cd])) (by rw[aG];simp[cd]) (by simp[cd]) (λ_=>.inl (by rw[aG];simp[cd]));rw[hD];rfl
theorem ZuN(ok:c.Ok)(hx:eT p f (Extern.Atomic.update (Op.intArith .add) .u64 true))(hg:H.cg=[21]) :
  Zm ((bG p c).prgW i) (callFunc f #[.pointer (some (dN c.W)),.int .u64 18446744069414584320]) wk nr H (λv H'=>∃n wt,n<=100000000/\wt<=1/\v=.int .u64 (jQ n wt:Nat) /\
   (((n≠0\/wt=0)/\H'=H.tagged (lv 1))\/(n=0/\wt=1/\H'=H.tagc [22]))):=by
 refine SN ok (by rw[hg];simp[Z5,cd]) λs Hs t w hA=>.inr ?_
 obtain⟨aG,hI,bV,hb,bD,hD⟩:=RY hA (by rw[hg];simp[Z5,cd])
 rw[hg]at aG hD
 replace hD:Deaf t i=1:=hD
 obtain⟨hc,hz,_⟩:=Ug hA
 obtain⟨hv,nF⟩:=hI.bI.qK ok
 have AN:1<=s.wg.v:=by
  have h1:=Ct.le cW s.tag bV;have h2:cW (cd (s.tag i))=1:=by rw[aG];rfl
  have:=hI.bI.wg.v1;omega
 have hr:=Qx hx (d:=18446744069414584320) hc hz
 have gY:IntKind.u64.wrap (((jQ s.wg.v s.wg.wt:Nat):Int)+18446744069414584320)=((jQ (s.wg.v-1) s.wg.wt:Nat):Int):=by unfold jQ;rw[ZnR]<;>omega
 rw[gY]at hr
 obtain⟨n1,n2,n3⟩:=Ut (i:=i) (d:=Deaf t i) (C:=c.toTC) (RR (off:=0) (.inr rfl)) O
 have nb:∀{l:List Nat},¬ ZS s i\/l=s.tag i:=YY (by rw[aG];simp[cd]) (by rw[aG];simp[cd])
 by_cases hk:s.wg.v=1/\s.wg.wt=1
 ·refine⟨_,[22],dW.yS (y':={ s.wg with v:=s.wg.v-1 }) ok hA hr (λfn _=>L4) (.inr ⟨0,_,rfl,rfl⟩) (hI.bI.CB (l:=[22]) bV hb (by rw[aG];rfl) rfl trivial hk) ⟨n1,n2,by rw[n3,hD];rfl⟩ (.inr id) nb (by rw[aG];simp[cd]) (by simp[cd]) (λ_=>.inl (by rw[aG];simp[cd])),
   .inl ⟨by simp[Z5,cd],s.wg.v-1,s.wg.wt,O,nF,rfl,.inr ⟨O,hk.2,rfl⟩⟩⟩
 ·refine⟨_,[0],dW.yS (y':={ s.wg with v:=s.wg.v-1 }) ok hA hr (λfn _=>L4) (.inr ⟨0,_,rfl,rfl⟩) (hI.bI.CA bV hb (by rw[aG];rfl) hk) ⟨n1,n2,by rw[n3,hD];rfl⟩ (.inr id) nb (by rw[aG];simp[cd]) (by simp[cd]) (λ_=>.inl (by rw[aG];simp[cd])),
   .inr ⟨rfl,s.wg.v-1,s.wg.wt,O,nF,rfl,.inl ⟨O,rfl⟩⟩⟩
theorem ZlZ(h:bK c s)(bV:i<s.next)(bU:cL (cd (s.tag i))=1):s.wg.v=0/\s.wg.wt=1/\s.wg.wm=0:=by
 have h1:=Ct.le cL s.tag bV;obtain⟨g1,g2,g3,g4,g5,g6⟩:=h.wg;by_cases e:cd (s.tag 0)=36
 ·have:=g4 e;omega
 have:=g5 e;omega
theorem ZuL(ok:c.Ok)(hx:eT p f (Extern.Atomic.loadT (.int .u64)))(hg:H.cg=[22]) :
  Zm ((bG p c).prgW i) (callFunc f #[.pointer (some (dN c.W))]) wk nr H (λv H'=>v=.int .u64 (1:Nat)/\H'=H.tagc [23]):=by
 refine SN ok (by rw[hg];simp[Z5,cd]) λs Hs t w hA=>.inr ?_;obtain⟨aG,hI,bV,hb,bD,hD⟩:=RY hA (by rw[hg];simp[Z5,cd]);rw[hg]at aG hD;replace hD:Deaf t i=1:=hD;obtain⟨hc,hz,_⟩:=Ug hA;obtain⟨h1,h2,h3⟩:=ZlZ hI.bI bV (by rw[aG];rfl);rw[h1,h2]at hc;obtain⟨n1,n2,n3⟩:=Ut (i:=i) (d:=Deaf t i) (C:=c.toTC) (LM (off:=0) (wr:=false) (.inr rfl)) O;refine⟨_,[23],dW.yS ok hA (Bn hx hc) (λfn _=>O8) (.inl ⟨rfl,rfl⟩) (hI.bI.mM (l:=[23]) bV hb (by rw[aG];rfl) rfl trivial).1 ⟨n1,n2,by rw[n3,hD];rfl⟩ (.inr id) (YY (by rw[aG];simp[cd]) (by rw[aG];simp[cd])) (by rw[aG];simp[cd]) (by simp[cd]) (λ_=>.inl (by rw[aG];simp[cd])),
  .inl ⟨by simp[Z5,cd],rfl,rfl⟩⟩
theorem ZuJ(ok:c.Ok)(hx:eT p f Extern.Atomic.storeT)(hg:H.cg=[23]) :
  Zm ((bG p c).prgW i) (callFunc f #[.pointer (some (dN c.W)),.int .u64 (0:Nat)]) wk nr H (λv H'=>v=Zu/\H'=H.tagc [24]):=by
 refine SN ok (by rw[hg];simp[Z5,cd]) λs Hs t w hA=>.inr ?_;obtain⟨aG,hI,bV,hb,bD,hD⟩:=RY hA (by rw[hg];simp[Z5,cd]);rw[hg]at aG hD;replace hD:Deaf t i=1:=hD;obtain⟨hc,hz,_⟩:=Ug hA;obtain⟨h1,h2,h3⟩:=ZlZ hI.bI bV (by rw[aG];rfl);obtain⟨n1,n2,n3⟩:=Ut (i:=i) (d:=Deaf t i) (C:=c.toTC) (LM (off:=0) (wr:=true) (.inr rfl)) O;refine⟨_,[24],dW.yS (y':={ s.wg with wt:=0 }) ok hA (ZpG hx hc hz) (λfn _=>O8) (.inr ⟨0,_,rfl,by rw[h1];rfl⟩) (hI.bI.tY (l:=[24]) bV hb (by rw[aG];rfl) rfl trivial) ⟨n1,n2,by rw[n3,hD];rfl⟩ (.inr id) (YY (by rw[aG];simp[cd]) (by rw[aG];simp[cd])) (by rw[aG];simp[cd]) (by simp[cd]) (λ_=>.inl (by rw[aG];simp[cd])),
  .inl ⟨by simp[Z5,cd],rfl,rfl⟩⟩
theorem ZuK(ok:c.Ok)(hx:eT p f Extern.Sync.semrelease)(sP:vs[0]? = some (.pointer (some ⟨c.W,1,none⟩)))(hg:H.cg=[24]) :
  Zm ((bG p c).prgW i) (callFunc f vs) true nr H (λv H'=>v=Zu/\H'=H.tagged (lv 1)):=by
 refine SN ok (by rw[hg];simp[Z5,cd]) λs Hs t w hA=>.inr ?_;obtain⟨aG,hI,bV,hb,bD,hD⟩:=RY hA (by rw[hg];simp[Z5,cd]);rw[hg]at aG hD;replace hD:Deaf t i=1:=hD;obtain⟨_,_,hc,hz⟩:=Ug hA;have hwm:s.wg.wm=0:=by
  have h1:=Ct.le cE s.tag bV;have h2:cE (cd (s.tag i))=1:=by rw[aG];rfl
  obtain⟨g1,g2,g3,g4,g5,g6⟩:=hI.bI.wg;by_cases e:cd (s.tag 0)=36
  ·have:=g4 e;omega
  have:=g5 e;omega
 obtain⟨n1,n2,n3⟩:=Ay (C:=c.toTC) (i:=i) (d:=Deaf t i) (b:=c.W) (off:=1) (.inr rfl);have hr:=ZhB hx sP hc hz;have hk:IntKind.u32.wrap (((s.wg.wm:Nat):Int)+1)=((s.wg.wm+1:Nat):Int):=by rw[hwm];rfl
 rw[hk]at hr;refine⟨_,[0],dW.yS (y':={ s.wg with wm:=s.wg.wm+1 }) ok hA hr (λfn _=>Bq) (.inr ⟨1,_,rfl,rfl⟩) (hI.bI.y6 bV hb (by rw[aG];rfl)) ⟨n1,n2,by rw[n3,hD];rfl⟩ (.inl rfl) (YY (by rw[aG];simp[cd]) (by rw[aG];simp[cd])) (by rw[aG];simp[cd]) (by simp[cd]) (λ_=>.inl (by rw[aG];simp[cd])),
  .inr ⟨rfl,rfl,rfl⟩⟩
theorem Zt9(hx:eT p f (λ_=>do mark .enable;pure Zu))(hg:H.gh=lv 1):Zm ((bG p c).prgW i) (callFunc f vs) wk nr H (λv H'=>v=Zu/\H'=H.tagged (lv 0)):=
 Zo2 hg (λw=>SJ (by simp) hx vs w) (λfn=>SL (by simp) fn) (by simp[Event.mute]) ⟨rfl,rfl⟩
theorem Oc(hA:dH (bG p c) 0 H s Hs t w)(hg:30<=cd H.cg):s.tag 0=H.cg/\ZM c s Hs t/\Deaf t 0=df (cd H.cg):=by have aG:s.tag 0=H.cg:=(YC hA O).1;exact⟨aG,hA.inv,by rw[VS hA (by rw[aG];omega),aG]⟩
theorem bK.closed(h:bK c s)(h0:s.hd 0=0):s.cls=true:=by
 cases bU:s.cls with
 | true=>rfl
 | false=>have:=h.uX.2 bU;omega
theorem Ag(ok:c.Ok){m:Mark}(hm:m=.disable\/m=.enable)(hx:eT p f (λ_=>do mark m;pure Zu)){l:List Nat}(hg:30<=cd H.cg/\cd H.cg<=39/\cd H.cg≠36)(hl:30<=cd l/\cd l<=39)
  (hd:deafBehind (df (cd H.cg)) #[⟨.mark m,false,true⟩]=df (cd l)) (fY:∀s:Ts,bK c s->s.tag 0=H.cg->s.hd 0=H.hd->bK c { s with tag:=upd s.tag 0 l }):Zm ((bG p c).prgM) (callFunc f vs) wk nr H (λv H'=>v=Zu/\H'=H.tagc l):=by
 have EI:∀g,m≠.extern g:=by rcases hm with rfl | rfl<;>simp
 refine O6 ok hg.1 λs Hs t w hA=>.inr ⟨Zu,l,?_,hl.1,rfl,rfl⟩;obtain⟨aG,hI,hD⟩:=Oc hA hg.1;obtain⟨e1,e2⟩:=Ax (C:=c.toTC) (i:=0) (d:=Deaf t 0) (m:=m) (by rcases hm with rfl | rfl<;>simp);refine dW.CT ok hA (SJ EI hx vs w) (λfn _=>SL EI fn) (.inl ⟨rfl,rfl⟩) (fY s hI.bI aG (YC hA O).2) ⟨e1,e2,?_⟩ (.inr id) (YY (by rw[aG];omega) (by rw[aG];omega)) (by rw[aG];omega) O (λe=>.inl (by rw[aG];omega));rw[hD,hd,bY O]
theorem Zt4(ok:c.Ok)(hx:eT p f (λ_=>do mark .disable;pure Zu))(hg:H.cg=[30,n]):Zm ((bG p c).prgM) (callFunc f vs) wk nr H (λv H'=>v=Zu/\H'=H.tagc [31,n]):=
 Ag ok (.inl rfl) hx (by rw[hg];simp[cd]) (by simp[cd]) (by rw[hg];rfl) λs h ht _=>h.sK (l:=[31,n]) (by rw[ht,hg];rfl) rfl λk m e=>by simp at e;rw[e.2.symm];exact h.nV 30 n O (ht.trans hg)
theorem Zt2(ok:c.Ok)(hx:eT p f (λ_=>do mark .enable;pure Zu))(hg:H.cg=[32,n]):Zm ((bG p c).prgM) (callFunc f vs) wk nr H (λv H'=>v=Zu/\H'=H.tagc [33,n]):=
 Ag ok (.inr rfl) hx (by rw[hg];simp[cd]) (by simp[cd]) (by rw[hg];rfl) λs h ht _=>h.sI (l:=[33,n]) (by rw[ht,hg];rfl) rfl λk m e=>by simp at e;rw[e.2.symm];exact h.nV 32 n O (ht.trans hg)
theorem Zt3(ok:c.Ok)(hx:eT p f (λ_=>do mark .disable;pure Zu))(hg:H.cg=[30,c.K])(h0:H.hd=0):Zm ((bG p c).prgM) (callFunc f vs) wk nr H (λv H'=>v=Zu/\H'=H.tagc [34]):=
 Ag ok (.inl rfl) hx (by rw[hg];simp[cd]) (by simp[cd]) (by rw[hg];rfl) λs h ht hh=>h.sJ (l:=[34]) (by rw[ht,hg];rfl) rfl (by have:=h.nV 30 c.K O (ht.trans hg);have:=h.num;omega) (h.closed (hh.trans h0)) λv e=>by simp at e
theorem ZlO(ok:c.Ok)(hx:eT p f (λ_=>do mark .enable;pure Zu))(hg:H.cg=[38]):Zm ((bG p c).prgM) (callFunc f vs) wk nr H (λv H'=>v=Zu/\H'=H.tagc [39]):=
 Ag ok (.inr rfl) hx (by rw[hg];simp[cd]) (by simp[cd]) (by rw[hg];rfl) λs h ht _=>h.sG (l:=[39]) (by rw[ht,hg];rfl) rfl
theorem Zt7(ok:c.Ok)(hx:eT p f (Extern.Atomic.update (Op.intArith .add) .u64 true))(hg:H.cg=[31,n]) :
  Zm ((bG p c).prgM) (callFunc f #[.pointer (some (dN c.W)),.int .u64 (4294967296:Nat)]) wk nr H (λv H'=>∃m,m<=100000001/\v=.int .u64 (jQ (m+1) 0:Nat)/\H'=H.tagc [32,n]):=by
 refine O6 ok (by rw[hg];simp[cd]) λs Hs t w hA=>.inr ?_;obtain⟨aG,hI,hD⟩:=Oc hA (by rw[hg];simp[cd]);rw[hg]at aG hD;replace hD:Deaf t 0=1:=hD;obtain⟨hc,hz,_⟩:=Ug hA;obtain⟨hv,_⟩:=hI.bI.qK ok;have nF:s.wg.wt=0:=(hI.bI.wg.EU (by rw[aG];simp[cd])).1;have hr:=Qx hx (d:=((4294967296:Nat):Int)) hc hz;have gY:IntKind.u64.wrap (((jQ s.wg.v s.wg.wt:Nat):Int)+((4294967296:Nat):Int))=((jQ (s.wg.v+1) s.wg.wt:Nat):Int):=by unfold jQ;rw[Pj]<;>omega
 rw[gY]at hr;obtain⟨n1,n2,n3⟩:=Ut (i:=0) (d:=Deaf t 0) (C:=c.toTC) (RR (off:=0) (.inr rfl)) O;refine⟨_,[32,n],dW.yS (y':={ s.wg with v:=s.wg.v+1 }) ok hA hr (λfn _=>L4) (.inr ⟨0,_,rfl,rfl⟩) (hI.bI.NM (l:=[32,n]) (by rw[aG];rfl) rfl λk m e=>?_) ⟨n1,n2,by rw[n3,hD];rfl⟩ (.inr id) (YY (by rw[aG];simp[cd]) (by rw[aG];simp[cd])) (by rw[aG];simp[cd]) (by simp[cd]) (λe=>by simp[cd]at e;exact .inl (by rw[aG];simp[cd])),
  by simp[cd],s.wg.v,hv,by rw[nF],rfl⟩
 simp at e;rw[e.2.symm];exact hI.bI.nV 31 n O aG
theorem ZlN(ok:c.Ok){mk:Addr->Mark}(PU:mk=.read\/mk=.write)(hx:eT p f (Extern.Race.marked mk))(hg:(∃n,H.cg=[32,n])\/H.cg=[36]) :
  Zm ((bG p c).prgM) (callFunc f #[.pointer (some ⟨c.W,1,none⟩)]) wk nr H (λv H'=>v=Zu/\H'=H):=by
 have iH:cd H.cg=32\/cd H.cg=36:=by rcases hg with⟨n,e⟩ | e<;>rw[e]<;>simp[cd]
 refine O6 ok O λs Hs t w hA=>?_;obtain⟨aG,hI,hD⟩:=Oc hA O;have fY:bK c { s with tag:=upd s.tag 0 H.cg }:=by rw[<-aG,ZgK];exact hI.bI
 obtain⟨e1,e2⟩:=Ax (C:=c.toTC) (i:=0) (d:=Deaf t 0) (m:=mk ⟨c.W,1,none⟩) (.inr (.inr ⟨rfl,1,by rcases PU with rfl | rfl<;>simp⟩));have hm:∀g,mk ⟨c.W,1,none⟩≠.extern g:=by rcases PU with rfl | rfl<;>simp
 refine .inr ⟨Zu,H.cg,?_,O,rfl,Bw O⟩;refine dW.CT ok hA (SI hx _ w) (λfn _=>SL hm fn) (.inl ⟨rfl,rfl⟩) fY ⟨e1,e2,?_⟩ (.inr id) (.inr aG.symm) (by rw[aG];omega) O (λe=>.inl (by rw[aG];omega));rw[hD,bY O];rcases PU with rfl | rfl<;>rfl
end
end
open Go.Conc
open Go.ConcN (sumTo upd sumTo_upd upd_ne upd_same)
section
variable{p:Program}{c:Cx}{i:Nat}{H:Hp}{s:Ts}{f:FuncId}{wk nr:Bool}
theorem Zt0(ok:c.Ok)(hx:eT p f (Extern.Atomic.loadT (.int .u64))){l0:List Nat}(hg:H.cg=34 :: l0) :
  Zm ((bG p c).prgM) (callFunc f #[.pointer (some (dN c.W))]) wk nr H (λv H'=>∃n,n<=100000001/\v=.int .u64 (jQ n 0:Nat)/\(∀v0,l0=[v0]->n<v0)/\((n=0/\H'=H.tagc [38])\/(n≠0/\H'=H.tagc [35,n]))):=by
 refine O6 ok (by rw[hg];simp[cd]) λs Hs t w hA=>.inr ?_;obtain⟨aG,hI,hD⟩:=Oc hA (by rw[hg];simp[cd]);rw[hg]at aG hD;replace hD:Deaf t 0=1:=hD;obtain⟨hc,hz,_⟩:=Ug hA;obtain⟨hv,_⟩:=hI.bI.qK ok;have nF:s.wg.wt=0:=(hI.bI.wg.EU (by rw[aG];simp[cd])).1;rw[nF]at hc;have bV:∀v0,l0=[v0]->s.wg.v<v0:=λv0 e=>(hI.bI.oQ v0).2 (by rw[aG,e]);obtain⟨n1,n2,n3⟩:=Ut (i:=0) (d:=Deaf t 0) (C:=c.toTC) (LM (off:=0) (wr:=false) (.inr rfl)) O;have kB:s.more=0:=hI.bI.wg.FT (by rw[aG];simp[cd]);by_cases h0:s.wg.v=0
 ·refine⟨_,[38],dW.yS ok hA (Bn hx hc) (λfn _=>O8) (.inl ⟨rfl,rfl⟩) (hI.bI.EA (l:=[38]) (by rw[aG];rfl) rfl h0 kB) ⟨n1,n2,by rw[n3,hD];rfl⟩ (.inr id) (YY (by rw[aG];simp[cd]) (by rw[aG];simp[cd])) (by rw[aG];simp[cd]) (by simp[cd]) (λe=>.inl (by rw[aG];simp[cd])),
   by simp[cd],s.wg.v,O,rfl,bV,.inl ⟨h0,rfl⟩⟩
 refine⟨_,[35,s.wg.v],dW.yS ok hA (Bn hx hc) (λfn _=>O8) (.inl ⟨rfl,rfl⟩) (hI.bI.D9 (l:=[35,s.wg.v]) (by rw[aG];rfl) rfl h0 λv e=>by simp at e;omega) ⟨n1,n2,by rw[n3,hD];rfl⟩ (.inr id) (YY (by rw[aG];simp[cd]) (by rw[aG];simp[cd])) (by rw[aG];simp[cd]) (by simp[cd]) (λe=>.inl (by rw[aG];simp[cd])),
  by simp[cd],s.wg.v,O,rfl,bV,.inr ⟨h0,rfl⟩⟩
theorem Zt6(ok:c.Ok)(hx:eT p f (Extern.Atomic.casT (.int .u64))){n:Nat}(hn:n≠0)(hg:H.cg=[35,n]) :
  Zm ((bG p c).prgM) (callFunc f #[.pointer (some (dN c.W)),.int .u64 (jQ n 0:Nat),.int .u64 (jQ n 1:Nat)]) wk nr H (λv H'=>(v=.bool true/\H'=H.tagc [36])\/(v=.bool false/\H'=H.tagc [34,n])):=by
 refine O6 ok (by rw[hg];simp[cd]) λs Hs t w hA=>.inr ?_;obtain⟨aG,hI,hD⟩:=Oc hA (by rw[hg];simp[cd]);rw[hg]at aG hD;replace hD:Deaf t 0=1:=hD;obtain⟨hc,hz,_⟩:=Ug hA;obtain⟨hv,_⟩:=hI.bI.qK ok;have nF:s.wg.wt=0:=(hI.bI.wg.EU (by rw[aG];simp[cd])).1;rw[nF]at hc;have kK:s.wg.v<=n:=(hI.bI.oQ n).1 aG;by_cases h0:s.wg.v=n
 ·obtain⟨n1,n2,n3⟩:=Ut (i:=0) (d:=Deaf t 0) (C:=c.toTC) (RR (off:=0) (.inr rfl)) O;subst h0;refine⟨_,[36],dW.yS (y':={ s.wg with wt:=1 }) ok hA (ZhH hx hc hz) (λfn _=>L4) (.inr ⟨0,_,rfl,rfl⟩) (hI.bI.G9 (l:=[36]) (by rw[aG];rfl) rfl hn) ⟨n1,n2,by rw[n3,hD];rfl⟩ (.inr id) (YY (by rw[aG];simp[cd]) (by rw[aG];simp[cd])) (by rw[aG];simp[cd]) (by simp[cd]) (λe=>.inl (by rw[aG];simp[cd])),
   by simp[cd],.inl ⟨rfl,rfl⟩⟩
 obtain⟨n1,n2,n3⟩:=Ut (i:=0) (d:=Deaf t 0) (C:=c.toTC) (LM (off:=0) (wr:=false) (.inr rfl)) O;refine⟨_,[34,n],dW.yS ok hA (ZhG hx hc hz λe=>h0 ?_) (λfn _=>O8) (.inl ⟨rfl,rfl⟩) (hI.bI.HA (l:=[34,n]) (by rw[aG];rfl) rfl λv e=>by simp at e;omega) ⟨n1,n2,by rw[n3,hD];rfl⟩ (.inr id) (YY (by rw[aG];simp[cd]) (by rw[aG];simp[cd])) (by rw[aG];simp[cd]) (by simp[cd]) (λe=>.inl (by rw[aG];simp[cd])),
  by simp[cd],.inr ⟨rfl,rfl⟩⟩
 have e:jQ s.wg.v 0=jQ n 0:=by exact_mod_cast e
 unfold jQ at e;omega
theorem ZtY(ok:c.Ok)(hx:eT p f Extern.Sync.semacquire){vs:Array Value}(sP:vs[0]? = some (.pointer (some ⟨c.W,1,none⟩)))(hg:H.cg=[36]) :
  Zm ((bG p c).prgM) (callFunc f vs) wk nr H (λv H'=>v=Zu/\H'=H.tagc [37]):=by
 refine O6 ok (by rw[hg];simp[cd]) λs Hs t w hA=>?_;obtain⟨aG,hI,hD⟩:=Oc hA (by rw[hg];simp[cd]);rw[hg]at aG hD;replace hD:Deaf t 0=1:=hD;obtain⟨_,_,hc,hz⟩:=Ug hA;by_cases h0:s.wg.wm=0
 ·rw[h0]at hc;exact .inl ⟨ZhC hx sP hc,.inr ⟨by rw[aG];rfl,h0⟩⟩
 refine .inr ⟨Zu,[37],?_,by simp[cd],rfl,rfl⟩;obtain⟨n1,n2,n3⟩:=Ay (C:=c.toTC) (i:=0) (d:=Deaf t 0) (b:=c.W) (off:=1) (.inr rfl);have hr:=ZhD (rest:=#[]) hx sP hc hz (by exact_mod_cast h0);have hk:((s.wg.wm:Nat):Int)-1=((s.wg.wm-1:Nat):Int):=O;rw[hk]at hr;refine dW.yS (y':={ s.wg with wm:=s.wg.wm-1 }) ok hA hr (λfn _=>Bq) (.inr ⟨1,_,rfl,rfl⟩) (hI.bI.D8 (l:=[37]) (by rw[aG];rfl) rfl h0) ⟨n1,n2,by rw[n3,hD];rfl⟩ (.inr λe=>absurd e h0) ?_ (by rw[aG];simp[cd]) (by simp[cd]) (λe=>.inl (by rw[aG];simp[cd]));left;rintro(⟨e,_⟩ | ⟨_,e⟩)
 ·rw[aG]at e;simp[cd]at e
 exact h0 e
theorem ZtZ(ok:c.Ok)(hx:eT p f (Extern.Atomic.loadT (.int .u64)))(hg:H.cg=[37]) :
  Zm ((bG p c).prgM) (callFunc f #[.pointer (some (dN c.W))]) wk nr H (λv H'=>v=.int .u64 (0:Nat)/\H'=H.tagc [38]):=by
 refine O6 ok (by rw[hg];simp[cd]) λs Hs t w hA=>.inr ?_;obtain⟨aG,hI,hD⟩:=Oc hA (by rw[hg];simp[cd]);rw[hg]at aG hD;replace hD:Deaf t 0=1:=hD;obtain⟨hc,hz,_⟩:=Ug hA;have nF:s.wg.wt=0:=(hI.bI.wg.EU (by rw[aG];simp[cd])).1;have hv:s.wg.v=0:=hI.bI.wg.zero (by rw[aG];simp[cd]);rw[nF,hv]at hc;obtain⟨n1,n2,n3⟩:=Ut (i:=0) (d:=Deaf t 0) (C:=c.toTC) (LM (off:=0) (wr:=false) (.inr rfl)) O;exact⟨_,[38],dW.yS ok hA (Bn hx hc) (λfn _=>O8) (.inl ⟨rfl,rfl⟩) (hI.bI.sH (l:=[38]) (by rw[aG];rfl) rfl) ⟨n1,n2,by rw[n3,hD];rfl⟩ (.inr id) (YY (by rw[aG];simp[cd]) (by rw[aG];simp[cd])) (by rw[aG];simp[cd]) (by simp[cd]) (λe=>.inl (by rw[aG];simp[cd])),
   by simp[cd],rfl,rfl⟩
theorem ZlP(ok:c.Ok)(hx:eT p f (Extern.Race.marked .acquire))(hg:H.cg=[39]) :
  Zm ((bG p c).prgM) (callFunc f #[.pointer (some (dN c.W))]) wk nr H (λv H'=>v=Zu/\∃(l:List Nat) (Hl:Hp),c.PI l Hl/\(∀m,1<=m->m<=c.N->c.need m=true->m∈l)/\(∀m∈l,1<=m/\m<=c.N/\c.need m=true)/\l.Nodup /\
   Hl.gh=[]/\(H.tagc [40]).Comp Hl/\H'=(H.tagc [40]).join Hl):=by
 intro G fr nx cs bU ha hG
 refine .eX ⟨VQ (.inl (.inr (by rw[hg];simp[cd]))),λs Hs t w hA=>.inl ?_⟩
 obtain⟨aG,hI,hD⟩:=Oc hA (by rw[hg];simp[cd])
 have l9:s.hd 0=H.hd:=(YC hA (by rw[hg];simp[cd])).2
 rw[hg]at aG hD
 replace hD:Deaf t 0=0:=hD
 have eU:=hI.bI.pos
 have o0:0<s.next:=hI.bI.cS
 have gZ:c.live s.next 0:=⟨o0,.inl rfl⟩
 obtain⟨ES,ER,GJ⟩:=X9 ok hA
 have BG:∀j,c.base<=j->j<s.next->s.tag j=[0]:=λj h1 h2=>hI.bI.over (by rw[aG];simp[cd]) h1 h2
 have kB:s.more=0:=hI.bI.wg.FT (by rw[aG];simp[cd])
 have Gx:s.next=c.base+c.K:=by have:=hI.bI.num;omega
 have uR:¬ YZ s:=by
  rintro⟨j,hj,e | e⟩
  ·by_cases hb:c.base<=j
   ·rw[BG j hb hj]at e;simp[cd]at e
   rcases qAv j with h0 | h0
   ·subst h0;rw[aG]at e;simp[cd]at e
   rw[hI.bI.kO j h0 O]at e;simp[cd]at e
  have:=RM hI.bI hj O;subst this;rw[aG]at e;simp[cd]at e
 obtain⟨yK,yF,rV,I9⟩:=(hI.heap.resolve_left λh=>uR h.1).2
 let Hl:Hp:=⟨yK.mem,[]⟩
 obtain⟨p1,p2,p3⟩:=Mg ok rV
 have hr:=SI hx (dN c.W) w
 have oI:seen p fr.fn (#[Yo f]++#[⟨.mark (.acquire (dN c.W)),false,true⟩])=#[⟨.mark (.acquire (dN c.W)),false,true⟩]:=O9 λx hx=>by simp at hx;subst hx;exact⟨rfl,by simp⟩
 have hu:ZJ 0 fr #[⟨.mark (.acquire (dN c.W)),false,true⟩]=#[{ g:=0,fn:=fr.fn,pos:=fr.place,act:=.mark (.acquire (dN c.W)) }]:=by simp[ZJ,ofEvents_eq,MemAct.ofEvent]
 have l8:∀b x,Hl b=some x->Cm c Hs b:=by
  intro b x hb;have gF:yK b=some x:=hb;refine⟨⟨x,?_⟩,?_,?_,?_⟩
  ·rw[yF];exact Hp.aS rV gF
  ·rintro rfl;rw[p1]at gF;simp at gF
  ·rintro rfl;rw[p2]at gF;simp at gF
  rintro rfl;rw[p3]at gF;simp at gF
 obtain⟨ta1,ta2,ta3⟩:=hI.tr.all (y:={ g:=0,fn:=fr.fn,pos:=fr.place,act:=.mark (.acquire (dN c.W)) }) rfl hD rfl λj h1 h2=>by unfold Y6;rw[BG j h1 h2];exact .inr rfl
 have gD:(H.tagc [40]).Comp Hl:=⟨λb x y h1 h2=>by
  have C7:Hs b=some y:=by rw[yF];exact Hp.aS rV h2
  exact hA.dis b x y h1 C7,.inr rfl⟩
 have yA:((H.tagc [40]).join Hl).gh=[H.hd+1,40]:=by simp[Hp.bP,Hp.tagc,Hp.tagged,Hl]
 have fY:bK c { s with tag:=upd s.tag 0 [40] }:=by obtain⟨m1,m2⟩:=hI.bI.mu.main (more:=s.pm) (l:=[40]) o0 (by rw[aG];simp[cd]) (by simp[cd]);refine hI.bI.step o0 (.inl rfl) s.wg m1 (qAW m2) (λ_=>rfl) (λj _ _ _ hS=>⟨hS,aC _⟩) (Wg.xA (l:=[40]) hI.bI.wg o0 (by rw[aG];rfl) rfl) (Mu.dI (by simp[cd])) ⟨λ_ v=>⟨λe=>by simp at e,λe=>by simp at e⟩,λ_ k n hk e=>by simp at e,λe=>absurd rfl e⟩ (λe=>by simp[cd]at e) (λe=>absurd rfl e) (λe=>absurd rfl e) (λ_ e=>absurd rfl e) (λ_ _=>hI.bI.yT (by rw[aG];simp[cd]))
 have vP:∀op∈#[({ g:=0,fn:=fr.fn,pos:=fr.place,act:=.mark (.acquire (dN c.W)) }:MemOp)],op.act.touch? = none/\op.act≠.mark (.release (dN c.M))/\op.act≠.mark (.release (dN c.W))/\(op.act=.mark (.releaseMerge (dN c.M))->c.base<=op.g/\op.g<s.next/\¬ Y6 s op.g):=by intro op bH;simp only[qAb,DO]at bH;rw[bH];exact⟨rfl,by simp,by simp,by simp⟩
 refine⟨nx Zu,cs,w,(H.tagc [40]).join Hl,{ s with tag:=upd s.tag 0 [40] },hO c s,#[⟨.mark (.acquire (dN c.W)),false,true⟩],?_,?_,?_,λj=>?_,rfl,aC _,.inr λj hj=>?_,.inl rfl,hG _ _ ⟨rfl,s.kP,Hl,?_,λm h1 h2 h3=>?_,λm hm=>?_,hI.bI.HC,rfl,gD,rfl⟩,?_⟩
 ·exact(Ov (P:=p) ha hr).trans (by rw[oI])
 ·rw[hu];refine⟨aC _,λ_ _ _ _=>rfl,λb o pm h=>hA.leS b o pm (hI.mw h),λb x h=>.inr ⟨x,.inr (hI.mw h),λ_=>rfl⟩,.refl w,?_,?_,?_,?_⟩
  ·intro op bH x eP b eY;rw[(vP op bH).1]at eP;simp at eP
  ·intro said q a _ op bH b eY _;rw[(vP op bH).1]at eY;simp at eY
  ·intro op bH;simp only[qAb,DO]at bH;rw[bH];exact hA.leS.lt hI.yG
  refine⟨fY,(hI.tr.gV vP).sub (λj hj=>?_) (λb eY=>?_),λj hj iH=>?_,λnI=>⟨ta1,ta2⟩,.inl ⟨⟨0,o0,.inr (by simp[upd_same,cd])⟩,rfl⟩⟩
  ·unfold Y6 at hj ⊢;simp only at hj;by_cases e:j=0
   ·subst e;left;rw[aG];simp[cd]
   rw[upd_ne _ _ e]at hj;exact hj
  ·obtain⟨⟨x,eP⟩,b1,b2,b3⟩:=eY;exact absurd (eP.symm.trans (Aq b1 b2 b3)) (by simp)
  have:=RO (i:=0) (l:=[40]) (es:=#[⟨.mark (.acquire (dN c.W)),false,true⟩]) (fn:=fr.fn) (pos:=fr.place) hI.deaf (λ_=>by rw[hD];rfl) hj iH;rw[<-hu];exact this
 ·rw[hu];refine⟨?_,?_,?_,?_⟩
  ·intro b o pm eY;simp only[Hp.aX,UF]at eY;cases hh:H b with
   | some z=>rw[hh]at eY;exact hA.le b o pm (by rw[hh];exact eY)
   | none=>rw[hh]at eY;exact hA.leS b o pm (by rw[yF];exact Hp.aS rV eY)
  ·intro b x y h1 h2;exfalso;rcases(Ur h2).1 with rfl | rfl | rfl
   ·simp only[Hp.aX,UF,ES]at h1;have kM:yK c.M=some x:=h1;rw[p1]at kM;simp at kM
   ·simp only[Hp.aX,UF,ER]at h1;have kM:yK c.W=some x:=h1;rw[p2]at kM;simp at kM
   simp only[Hp.aX,UF,GJ]at h1;have kM:yK c.ch=some x:=h1;rw[p3]at kM;simp at kM
  ·intro b x eY;refine .inr ⟨x,?_,λ_=>rfl⟩;simp only[Hp.aX,UF]at eY;cases hh:H b with
   | some z=>rw[hh]at eY;exact .inl eY
   | none=>rw[hh]at eY;exact .inr (by rw[yF];exact Hp.aS rV eY)
  have h1:eR (t++#[{ g:=0,fn:=fr.fn,pos:=fr.place,act:=.mark (.acquire (dN c.W)) }]) 0 (H.tagc [40]):=
   hA.perm.own λop bH=>.inl (by simp only[qAb,DO]at bH;rw[bH])
  refine h1.join λb o pm eY q a hq hl _=>?_;obtain⟨x,eP,gC⟩:=touch_of hq;rcases getElem?_append_cases eP with⟨_,tP⟩ | ⟨_,tP⟩
  ·exact ta3 q x a b tP gC hl (l8 b _ eY) o0
  rw[(vP x tP).1]at gC;simp at gC
 ·show ZG _ j=_;rw[yA];refine(RW (i:=0) (l:=[40]) (s:=s) (s':={ s with tag:=upd s.tag 0 [40] }) rfl rfl j).trans ?_;rw[J2 (by simp[cd]),l9];rfl
 ·have hj:ZS s j:=hj;show ZS _ j;unfold ZS at hj ⊢;have:j≠0:=by rintro rfl;rw[aG]at hj;simp[cd]at hj
  simp only[upd_ne _ _ this];exact hj
 ·have:Hl.mem=yK.mem:=rfl;exact ok.aP _ _ _ I9
 ·have xZ:s.iR=0:=(hI.bI.uX.1 (hI.bI.yT (by rw[aG];simp[cd]))).2;rcases hI.bI.pC m h1 O h3 with h4 | ⟨j,j1,j2,j3⟩
  ·exact h4
  rw[<-j3]at h3 ⊢;exact(hI.bI.AH j j1 j2).2.2 (.inl (by rw[BG j j1 j2];rfl)) h3
 ·obtain⟨a,b,d⟩:=hI.bI.qY m hm;exact⟨a,O,d⟩
 ·show UX _;rw[yA];exact .inr (by simp[cd,ZP])
end
