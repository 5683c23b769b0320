import Derived.Test.YtlhomfgcibjccaaGreatDoorP05
import Derived.Test.YtlhomfgcibjccaaGreatDoorP13
set_option linter.all false
namespace Go.LL
section
variable{C:TC}{d b off:Nat}{es lI:Array Event}{m:Mark}{cs:Array Value}{ty:TypeId}{v:Value}{sm:Sem Next}{wk nr:Bool}{l:List Nat}{w':World}{f:FuncId}
open Go.Conc
open Go.ConcN (sumTo upd sumTo_upd upd_ne upd_same)
abbrev Zu:Value:=.tuple #[]
def pW(b off:Nat)(wr:Bool):Event:=⟨.cell ⟨b,off,none⟩,wr,true⟩
section
variable{p:Program}{c:Cx}{i:Nat}{H:Hp}{s:Ts}{Hs:Hp}{t:Trace}{w:World}
theorem Ut(h:∀e∈es,∃b off wr,e=pW b off wr/\(b=C.M\/b=C.W))(hd:d≠0) :
  FE C i d es/\(∀e∈es,∀B,C.M<B->C.W<B->(MemAct.ofEvent e).low B)/\deafBehind d es=d:=by
 have AE:∀e∈es,e.loc≠.mark .disable/\e.loc≠.mark .enable:=by intro e he;obtain⟨b,off,wr,rfl,_⟩:=h e he;exact⟨by simp[pW],by simp[pW]⟩
 refine⟨λk e hk=>?_,λe he B h1 h2=>?_,deafBehind_still AE d⟩
 ·have hm:e∈es:=by obtain⟨bV,rfl⟩:=qAl.1 hk;exact Array.getElem_mem bV
  obtain⟨b,off,wr,rfl,hb⟩:=h e hm;refine⟨by cases wr<;>simp[pW,MemAct.ofEvent],λa ha _=>?_⟩;have:a=⟨.cell ⟨b,off,none⟩,wr,.atomic⟩:=by cases wr<;>simp[pW,MemAct.ofEvent,MemAct.touch?]at ha<;>rw[<-ha]
  subst this;refine⟨⟨b,rfl,hb⟩,by simp,by simp,λ_=>⟨rfl,?_⟩⟩;rw[deafBehind_still (λe he=>AE e ?_) d]
  ·exact hd
  obtain⟨j,hj,rfl⟩:=qCa.1 he;simp only[Array.getElem_extract];exact Array.getElem_mem _
 obtain⟨b,off,wr,rfl,hb⟩:=h e he;cases wr<;>(simp only[pW,MemAct.ofEvent,MemAct.low,Loc.low];rcases hb with rfl | rfl<;>assumption)
theorem Ay(hb:b=C.M\/b=C.W) :
  FE C i d (semEvents ⟨b,off,none⟩)/\(∀e∈semEvents ⟨b,off,none⟩,∀B,C.M<B->C.W<B->(MemAct.ofEvent e).low B)/\deafBehind d (semEvents ⟨b,off,none⟩)=d:=by
 refine⟨λk e hk=>?_,λe he B h1 h2=>?_,by simp[semEvents,deafBehind]⟩
 ·have key:∀wr,(∀a,(MemAct.ofEvent (pW b off wr)).touch? = some a->a.loc.isMemory=true->C.Sh a.loc/\a.kind≠.plain/\(a.kind=.said->i=0)/\(i≠0->a.kind=.atomic/\d+1≠0)):=by
   intro wr a ha _;have:a=⟨.cell ⟨b,off,none⟩,wr,.atomic⟩:=by cases wr<;>simp[pW,MemAct.ofEvent,MemAct.touch?]at ha<;>rw[<-ha]
   subst this;exact⟨⟨b,rfl,hb⟩,by simp,by simp,λ_=>⟨rfl,O⟩⟩
  match k,hk with
  | 0,hk=>
   simp[semEvents]at hk;subst hk;exact⟨by simp[MemAct.ofEvent],λa ha=>by simp[MemAct.ofEvent,MemAct.touch?]at ha⟩
  | 1,hk=>
   simp[semEvents]at hk;subst hk;refine⟨by simp[MemAct.ofEvent],?_⟩;have:deafBehind d ((semEvents ⟨b,off,none⟩).extract 0 1)=d+1:=by simp[semEvents,deafBehind]
   rw[this];exact key false
  | 2,hk=>
   simp[semEvents]at hk;subst hk;refine⟨by simp[MemAct.ofEvent],?_⟩;have:deafBehind d ((semEvents ⟨b,off,none⟩).extract 0 2)=d+1:=by simp[semEvents,deafBehind]
   rw[this];exact key true
  | 3,hk=>
   simp[semEvents]at hk;subst hk;exact⟨by simp[MemAct.ofEvent],λa ha=>by simp[MemAct.ofEvent,MemAct.touch?]at ha⟩
  | k+4,hk=>simp[semEvents]at hk
 simp[semEvents]at he;rcases he with rfl | rfl | rfl | rfl<;>simp only[MemAct.ofEvent,MemAct.low,Loc.low]<;>(rcases hb with rfl | rfl<;>assumption)
theorem Ax(hm:m=.disable\/m=.enable\/(i=0/\∃off,m=.read ⟨C.W,off,none⟩\/m=.write ⟨C.W,off,none⟩)) :
  FE C i d #[⟨.mark m,false,true⟩]/\∀e∈(#[⟨.mark m,false,true⟩]:Array Event),∀B,C.M<B->C.W<B->(MemAct.ofEvent e).low B:=by
 refine⟨λk e hk=>?_,λe he B h1 h2=>?_⟩
 ·match k,hk with
  | 0,hk=>
   simp at hk;subst hk;rcases hm with rfl | rfl | ⟨h0,off,rfl | rfl⟩
   ·exact⟨by simp[MemAct.ofEvent],λa ha=>by simp[MemAct.ofEvent,MemAct.touch?]at ha⟩
   ·exact⟨by simp[MemAct.ofEvent],λa ha=>by simp[MemAct.ofEvent,MemAct.touch?]at ha⟩
   ·refine⟨by simp[MemAct.ofEvent],λa ha _=>?_⟩;simp[MemAct.ofEvent,MemAct.touch?]at ha;subst ha;exact⟨⟨C.W,rfl,.inr rfl⟩,by simp,λ_=>h0,λh=>absurd h0 h⟩
   refine⟨by simp[MemAct.ofEvent],λa ha _=>?_⟩;simp[MemAct.ofEvent,MemAct.touch?]at ha;subst ha;exact⟨⟨C.W,rfl,.inr rfl⟩,by simp,λ_=>h0,λh=>absurd h0 h⟩
  | k+1,hk=>simp at hk
 simp at he;subst he;rcases hm with rfl | rfl | ⟨h0,off,rfl | rfl⟩
 ·trivial
 ·trivial
 ·exact h2
 exact h2
theorem wM(ok:c.Ok)(hA:dH (bG p c) i H s Hs t w):w.heap[c.M]? = some (J4 c s.mu):=hA.leS _ _ _ ((show ZM c s Hs t from hA.inv).yH ok)
theorem wW(hA:dH (bG p c) i H s Hs t w):w.heap[c.W]? = some (U1 c s.wg):=hA.leS _ _ _ ((show ZM c s Hs t from hA.inv).yG)
theorem VU{w:World}(h:w.heap[b]? = some (.cells cs ty))(hv:cs[off]? = some v):w.cell? ⟨b,off,none⟩=some v/\w.frozen? ⟨b,off,none⟩=false:=by
 constructor
 ·simp[World.cell?,h,hv]
 simp[World.frozen?,h]
theorem Zhl{w:World}(h:w.heap[b]? = some (.cells cs ty)):(w.setCell ⟨b,off,none⟩ v).heap[b]? = some (.cells (cs.setIfInBounds off v) ty) /\
  (∀b',b'≠b->(w.setCell ⟨b,off,none⟩ v).heap[b']? = w.heap[b']?)/\(w.setCell ⟨b,off,none⟩ v).heap.size=w.heap.size/\wB w (w.setCell ⟨b,off,none⟩ v):=by
 refine⟨?_,λb' hb=>?_,by simp[World.setCell],⟨.refl _,rfl,rfl⟩⟩
 ·simp[World.setCell,qBw,h]
 simp[World.setCell,qBw,qAi hb]
theorem dW.CT(ok:c.Ok)(hA:dH (bG p c) i H s Hs t w){x':Mu}(hr:sm.runT p w #[]=(.ok (.value v) w',lI))(hs:∀fn,(nr=true->norace p fn=true)->seen p fn lI=es)
  (hw:(w'=w/\x'=s.mu)\/∃off u,w'=w.setCell ⟨c.M,off,none⟩ u/\(#[.int .i32 (s.mu.st:Nat),.int .u32 (s.mu.sm:Nat)]:Array Value).setIfInBounds off u=#[.int .i32 (x'.st:Nat),.int .u32 (x'.sm:Nat)])
  (fY:bK c { s with mu:=x',tag:=upd s.tag i l }) (pN:FE c.toTC i (Deaf t i) es/\(∀e∈es,∀B,c.M<B->c.W<B->(MemAct.ofEvent e).low B)/\deafBehind (Deaf t i) es=(if cd l=0 then 1 else df (cd l)))
  (hb:wk=true\/(s.mu.sm=0->x'.sm=0)) (nb:¬ ZS s i\/l=s.tag i) (nt:cd (s.tag i)≠12/\cd (s.tag i)≠40/\cd (s.tag i)≠0) (NK:cd l≠12/\cd l≠40) (dn:20<=cd l\/cd l=0->Y6 s i):dW p c i s t w sm wk nr v l:=by
 have hM:=wM ok hA;have hW:=wW hA;refine⟨⟨w',lI,es,x',s.wg,hr,hs,fY,pN.1,pN.2.1,pN.2.2,?_⟩,nb,⟨nt.1,nt.2.1⟩,NK,dn,nt.2.2⟩;rcases hw with⟨rfl,rfl⟩ | ⟨off,u,rfl,hu⟩
 ·exact⟨hM,hW,λ_ _ _=>rfl,rfl,.refl _,hb.imp id λh=>⟨h,id⟩⟩
 obtain⟨e1,e2,e3,e4⟩:=Zhl (off:=off) (v:=u) hM;refine⟨?_,?_,λb h1 _=>e2 b h1,e3,e4,hb.imp id λh=>⟨h,id⟩⟩
 ·rw[e1,hu];rfl
 rw[e2 _ (qAi ok.ne)];exact hW
theorem dW.yS(ok:c.Ok)(hA:dH (bG p c) i H s Hs t w){y':Wg}(hr:sm.runT p w #[]=(.ok (.value v) w',lI))(hs:∀fn,(nr=true->norace p fn=true)->seen p fn lI=es)
  (hw:(w'=w/\y'=s.wg)\/∃off u,w'=w.setCell ⟨c.W,off,none⟩ u/\(#[.int .u64 ((s.wg.v * 4294967296+s.wg.wt:Nat):Int),.int .u32 (s.wg.wm:Nat)]:Array Value).setIfInBounds off u=#[.int .u64 ((y'.v * 4294967296+y'.wt:Nat):Int),.int .u32 (y'.wm:Nat)])
  (fY:bK c { s with wg:=y',tag:=upd s.tag i l }) (pN:FE c.toTC i (Deaf t i) es/\(∀e∈es,∀B,c.M<B->c.W<B->(MemAct.ofEvent e).low B)/\deafBehind (Deaf t i) es=(if cd l=0 then 1 else df (cd l)))
  (hb:wk=true\/(s.wg.wm=0->y'.wm=0)) (nb:¬ ZS s i\/l=s.tag i) (nt:cd (s.tag i)≠12/\cd (s.tag i)≠40/\cd (s.tag i)≠0) (NK:cd l≠12/\cd l≠40) (dn:20<=cd l\/cd l=0->Y6 s i):dW p c i s t w sm wk nr v l:=by
 have hM:=wM ok hA;have hW:=wW hA;refine⟨⟨w',lI,es,s.mu,y',hr,hs,fY,pN.1,pN.2.1,pN.2.2,?_⟩,nb,⟨nt.1,nt.2.1⟩,NK,dn,nt.2.2⟩;rcases hw with⟨rfl,rfl⟩ | ⟨off,u,rfl,hu⟩
 ·exact⟨hM,hW,λ_ _ _=>rfl,rfl,.refl _,hb.imp id λh=>⟨id,h⟩⟩
 obtain⟨e1,e2,e3,e4⟩:=Zhl (off:=off) (v:=u) hW;refine⟨?_,?_,λb _ h1=>e2 b h1,e3,e4,hb.imp id λh=>⟨id,h⟩⟩
 ·rw[e2 _ ok.ne];exact hM
 rw[e1,hu];rfl
theorem VS(hA:dH (bG p c) i H s Hs t w)(h0:cd (s.tag i)≠0):Deaf t i=df (cd (s.tag i)):=
 (show ZM c s Hs t from hA.inv).deaf i (SZ hA (by rintro e;rw[e]at h0;exact h0 rfl)) h0
theorem UD(hA:dH (bG p c) i H s Hs t w)(h1:1<=cd (s.tag i))(h2:cd (s.tag i)<=24):c.base<=i:=by
 have hl:=SZ hA (by rintro e;rw[e]at h1;simp[cd]at h1);rcases hl.2 with rfl | h
 ·have:=(show ZM c s Hs t from hA.inv).bI.wg.main;omega
 exact h
theorem SJ(hm:∀g,m≠.extern g)(hx:eT p f (λ_=>do mark m;pure Zu))(vs:Array Value)(w:World):(callFunc f vs).runT p w #[]=(.ok (.value Zu) w,#[Yo f]++#[⟨.mark m,false,true⟩]):=
 hx.val (by simp[run_mark]) (by simp[events_mark])
theorem SL(hm:∀g,m≠.extern g)(fn:FuncId):seen p fn (#[Yo f]++#[⟨.mark m,false,true⟩])=#[⟨.mark m,false,true⟩]:=
 O9 λx hx=>by simp at hx;subst hx;exact⟨rfl,λg h=>hm g (Loc.mark.inj h)⟩
theorem SI{mk:Addr->Mark}(hx:eT p f (Extern.Race.marked mk))(a:Addr)(w:World):(callFunc f #[.pointer (some a)]).runT p w #[]=(.ok (.value Zu) w,#[Yo f]++#[⟨.mark (mk a),false,true⟩]):=
 hx.val (by simp[Extern.Race.marked,Extern.Race.at_,run_mark,Extern.Race.none_]) (by simp[Extern.Race.marked,Extern.Race.at_,events_mark])
end
end
section
variable{l:List Nat}{vs:Array Value}{a:Addr}{ty vE:TypeId}{v d n:Int}{x:Operand}{ρ:Operand->Value}{fn:FuncId}{C:TC}{Post:Value->Hp->Prop}{b off:Nat}{wr:Bool}{k:IntKind}
open Go.Conc
open Go.ConcN (sumTo upd sumTo_upd upd_ne upd_same)
section
variable{p:Program}{c:Cx}{i:Nat}{H:Hp}{s:Ts}{Hs:Hp}{t:Trace}{w:World}{f:FuncId}{wk nr:Bool}
theorem YY(h7:cd (s.tag i)≠7)(Wx:cd (s.tag i)≠36):¬ ZS s i\/l=s.tag i:=by
 left;rintro(⟨h,_⟩ | ⟨h,_⟩)
 ·exact h7 h
 exact Wx h
theorem Cd{α:Type}(g:Nat->α)(i:Nat)(a b:α):upd (upd g i a) i b=upd g i b:=by
 funext j;by_cases e:j=i
 ·subst e;rw[upd_same,upd_same]
 rw[upd_ne _ _ e,upd_ne _ _ e,upd_ne _ _ e]
theorem WX(ok:c.Ok){m:Mark}(hm:m=.disable\/m=.enable)(hx:eT p f (λ_=>do mark m;pure Zu)){a:Nat}(hg:cd H.cg=a)(ha:1<=a/\a<=19)(hl:1<=cd l/\cd l<=19)(h7:a≠7/\a≠12/\cd l≠12)
  (hd:deafBehind (df a) #[⟨.mark m,false,true⟩]=df (cd l))
  (fY:∀s:Ts,bK c s->i<s.next->c.base<=i->cd (s.tag i)=a->s.hd i=H.hd->bK c { s with tag:=upd s.tag i l }):Zm ((bG p c).prgW i) (callFunc f vs) wk nr H (λv H'=>v=Zu/\H'=H.tagc l):=by
 have EI:∀g,m≠.extern g:=by rcases hm with rfl | rfl<;>simp
 refine O7 ok (.inl ⟨O,O⟩) λs Hs t w hA=>.inr ⟨Zu,l,?_,.inl hl,rfl,rfl⟩;have aG:cd (s.tag i)=a:=by rw[(YC hA O).1];exact hg
 have hI:ZM c s Hs t:=hA.inv;obtain⟨e1,e2⟩:=Ax (C:=c.toTC) (i:=i) (d:=Deaf t i) (m:=m) (by rcases hm with rfl | rfl<;>simp);refine dW.CT ok hA (SJ EI hx vs w) (λfn _=>SL EI fn) (.inl ⟨rfl,rfl⟩) (fY s hI.bI hA.lt (UD hA O O) aG (YC hA O).2) ⟨e1,e2,?_⟩ (.inr id) (YY O O) O ⟨h7.2.2,O⟩ (λe=>O);rw[VS hA O,aG,hd,bY O]
theorem ZyM(ok:c.Ok)(hx:eT p f (λ_=>do mark .disable;pure Zu))(hg:cd H.cg=1)(hn:c.need H.hd=true):Zm ((bG p c).prgW i) (callFunc f vs) wk nr H (λv H'=>v=Zu/\H'=H.tagc [2]):=
 WX ok (.inl rfl) hx hg O (by simp[cd]) (by simp[cd]) rfl λs h hi hb hc hh=>(h.qP (l:=[2]) hi hb hc rfl (hh ▸ hn) trivial).1
theorem OW(ok:c.Ok)(hx:eT p f (λ_=>do mark .enable;pure Zu))(hg:cd H.cg=10):Zm ((bG p c).prgW i) (callFunc f vs) wk nr H (λv H'=>v=Zu/\H'=H.tagc [11]):=
 WX ok (.inr rfl) hx hg O (by simp[cd]) (by simp[cd]) rfl λs h hi hb hc _=>(h.mU (l:=[11]) hi hb hc rfl trivial).1
theorem ZyL(ok:c.Ok)(hx:eT p f (λ_=>do mark .disable;pure Zu))(hg:cd H.cg=13):Zm ((bG p c).prgW i) (callFunc f vs) wk nr H (λv H'=>v=Zu/\H'=H.tagc [14]):=
 WX ok (.inl rfl) hx hg O (by simp[cd]) (by simp[cd]) rfl λs h hi hb hc _=>(h.mT (l:=[14]) hi hb hc rfl trivial).1
theorem ZyK(ok:c.Ok)(hx:eT p f (λ_=>do mark .enable;pure Zu))(hg:cd H.cg=18):Zm ((bG p c).prgW i) (callFunc f vs) wk nr H (λv H'=>v=Zu/\H'=H.tagc [19]):=
 WX ok (.inr rfl) hx hg O (by simp[cd]) (by simp[cd]) rfl λs h hi hb hc _=>(h.mQ (l:=[19]) hi hb hc rfl (by simp) trivial).1
theorem ZhE(h:Ye p ty=some none){v:Value}(hc:w.cell? a=some v)(hx:ρ x=.pointer (some a)) :
  (execOp ρ (aP (.load ty x) vE)).runT p w #[]=(.ok (.value v) w,#[⟨.cell a,false,false⟩]):=by
 have e:execOp ρ (aP (.load ty x) vE)=(do pure (.value (<-Instr.loadAt ty (.pointer (some a)))):Sem Next):=by simp[execOp,aP,hx]
 have pO:∃d,p.underlying ty=some d/\(∀fs,d≠.struct fs)/\∀n e,d≠.array n e:=by unfold Ye at h;split at h<;>simp only[iF,reduceCtorEq]at h;rename_i d i hs ha h1 h2;exact⟨d,h1,λfs e=>hs fs (by rw[<-e]),λn e e'=>ha n e (by rw[<-e'])⟩
 obtain⟨d,hd,n1,n2⟩:=pO;have hb:(match d with | .struct _ | .array _ _=>true | _=>false)=false:=by
  cases d with
  | struct fs=>exact absurd rfl (n1 fs)
  | array n e=>exact absurd rfl (n2 n e)
  | _=>rfl
 have pO:(isAgg ty).run p w=.ok false w:=by simp only[isAgg,underlying,bind,Sem.bind,program,Sem.run,hd,pure]
 rw[e,Sem.runT_eq];have h1:(do pure (.value (<-Instr.loadAt ty (.pointer (some a)))):Sem Next).run p w=.ok (.value v) w:=by simp[Instr.loadAt,Instr.sureAddr,loadVar,pO,hc,Result.andThen]
 have h2:(do pure (.value (<-Instr.loadAt ty (.pointer (some a)))):Sem Next).events p w #[]=#[⟨.cell a,false,false⟩]:=by simp[Instr.loadAt,Instr.sureAddr,loadVar,pO,hc,Result.andThen,Result.evThen,events_load]
 rw[h1,h2]
theorem Zhn(h:norace p fn=true):seen p fn #[⟨.cell a,false,false⟩]=#[]:=by unfold norace at h;simp[seen,h]
theorem JU(ok:c.Ok)(hA:dH (bG p c) i H s Hs t w):w.cell? ⟨c.M,0,none⟩=some (.int .i32 (s.mu.st:Nat))/\w.frozen? ⟨c.M,0,none⟩=false/\w.cell? ⟨c.M,1,none⟩=some (.int .u32 (s.mu.sm:Nat))/\w.frozen? ⟨c.M,1,none⟩=false:=by obtain⟨h1,h2⟩:=VU (off:=0) (v:=.int .i32 (s.mu.st:Nat)) (wM ok hA) rfl;obtain⟨h3,h4⟩:=VU (off:=1) (v:=.int .u32 (s.mu.sm:Nat)) (wM ok hA) rfl;exact⟨h1,h2,h3,h4⟩
theorem Zjb{d:Nat}:FE C i d #[]/\(∀e∈(#[]:Array Event),∀B,C.M<B->C.W<B->(MemAct.ofEvent e).low B)/\deafBehind d #[]=d:=⟨λk e h=>by simp at h,λe h=>by simp at h,rfl⟩
theorem WU(ok:c.Ok)(AP:Ye p ty=some none)(hx:ρ x=.pointer (some (dN c.M)))(hg:1<=cd H.cg/\cd H.cg<=19/\cd H.cg≠7/\cd H.cg≠12)
  (h:∀s:Ts,bK c s->i<s.next->c.base<=i->s.tag i=H.cg->∃l,bK c { s with tag:=upd s.tag i l }/\1<=cd l/\cd l<=19/\cd l≠12/\df (cd l)=df (cd H.cg)/\Post (.int .i32 (s.mu.st:Nat)) (H.tagc l)) :
  Zm ((bG p c).prgW i) (execOp ρ (aP (.load ty x) vE)) wk true H Post:=by
 refine O7 ok (.inl ⟨hg.1,hg.2.1⟩) λs Hs t w hA=>.inr ?_;obtain⟨aG,l9⟩:=YC hA O;have hI:ZM c s Hs t:=hA.inv;obtain⟨l,h1,h2,h3,h4,h5,h6⟩:=h s hI.bI hA.lt (UD hA (by rw[aG];exact hg.1) (by rw[aG];omega)) aG;obtain⟨n1,n2,n3⟩:=Zjb (i:=i) (d:=Deaf t i) (C:=c.toTC);refine⟨_,l,?_,.inl ⟨h2,h3⟩,h6⟩;refine dW.CT ok hA (ZhE AP (JU ok hA).1 hx) (λfn hn=>Zhn (hn rfl)) (.inl ⟨rfl,rfl⟩) h1 ⟨n1,n2,?_⟩ (.inr id) (YY (by rw[aG];omega) (by rw[aG];omega)) (by rw[aG];omega) ⟨h4,O⟩ (λe=>O);rw[n3,VS hA (by rw[aG];omega),aG,bY O,h5]
theorem LM(hb:b=C.M\/b=C.W):∀e∈#[pW b off wr],∃b off wr,e=pW b off wr/\(b=C.M\/b=C.W):=by intro e he;simp at he;exact⟨b,off,wr,he,hb⟩
theorem RR(hb:b=C.M\/b=C.W):∀e∈#[pW b off false,pW b off true],∃b off wr,e=pW b off wr/\(b=C.M\/b=C.W):=by
 intro e he;simp at he;rcases he with rfl | rfl
 ·exact⟨b,off,false,rfl,hb⟩
 exact⟨b,off,true,rfl,hb⟩
theorem Zhp{f:FuncId}{tU:Array Event}(h:∀e∈tU,∃b off wr,e=pW b off wr):seen p fn (#[Yo f]++tU)=tU:=
 O9 λx hx=>by obtain⟨b,off,wr,rfl⟩:=h x hx;exact⟨rfl,λg h=>by simp[pW]at h⟩
theorem O8{f:FuncId}:seen p fn (#[Yo f]++#[pW b off wr])=#[pW b off wr]:=Zhp λe he=>by simp at he;exact⟨b,off,wr,he⟩
theorem L4{f:FuncId}:seen p fn (#[Yo f]++#[pW b off false,pW b off true])=#[pW b off false,pW b off true]:=Zhp λe he=>by
 simp at he;rcases he with rfl | rfl
 ·exact⟨b,off,false,rfl⟩
 exact⟨b,off,true,rfl⟩
theorem ZhH(hx:eT p f (Extern.Atomic.casT (.int k)))(hc:w.cell? a=some (.int k v))(hz:w.frozen? a=false) :
  (callFunc f #[.pointer (some a),.int k v,.int k n]).runT p w #[]=(.ok (.value (.bool true)) (w.setCell a (.int k n)),#[Yo f]++#[⟨.cell a,false,true⟩,⟨.cell a,true,true⟩]):=
 hx.val (by rw[casT_eq];exact run_cas_hit_entry hc hz) (by rw[casT_eq,events_cas_hit_entry hc hz];rfl)
theorem ZhG(hx:eT p f (Extern.Atomic.casT (.int k))){o:Int}(hc:w.cell? a=some (.int k v))(hz:w.frozen? a=false)(dG:¬ v=o) :
  (callFunc f #[.pointer (some a),.int k o,.int k n]).runT p w #[]=(.ok (.value (.bool false)) w,#[Yo f]++#[⟨.cell a,false,true⟩]):=
 hx.val (by rw[casT_eq];exact run_cas_miss_entry hc hz dG) (by rw[casT_eq,events_cas_miss_entry hc hz dG];rfl)
theorem Qx(hx:eT p f (Extern.Atomic.update (Op.intArith .add) k true))(hc:w.cell? a=some (.int k v))(hz:w.frozen? a=false) :
  (callFunc f #[.pointer (some a),.int k d]).runT p w #[]=(.ok (.value (.int k (k.wrap (v+d)))) (w.setCell a (.int k (k.wrap (v+d)))),#[Yo f]++#[⟨.cell a,false,true⟩,⟨.cell a,true,true⟩]):=
 hx.val (run_add_entry hc hz) (by rw[events_add_entry hc hz];rfl)
theorem JS(ok:c.Ok)(hx:eT p f (Extern.Atomic.casT (.int .i32))){o n:Nat}(hg:1<=cd H.cg/\cd H.cg<=19/\cd H.cg≠7/\cd H.cg≠12/\df (cd H.cg)=1)
  (Ii:∀s:Ts,bK c s->i<s.next->c.base<=i->s.tag i=H.cg->s.mu.st=o->∃x' l,bK c { s with mu:=x',tag:=upd s.tag i l }/\x'.st=n/\x'.sm=s.mu.sm/\1<=cd l/\cd l<=19/\cd l≠12/\df (cd l)=1/\Post (.bool true) (H.tagc l))
  (PV:∀s:Ts,bK c s->i<s.next->c.base<=i->s.tag i=H.cg->s.mu.st≠o->∃l,bK c { s with tag:=upd s.tag i l }/\1<=cd l/\cd l<=19/\cd l≠12/\df (cd l)=1/\Post (.bool false) (H.tagc l)) :
  Zm ((bG p c).prgW i) (callFunc f #[.pointer (some (dN c.M)),.int .i32 (o:Nat),.int .i32 (n:Nat)]) wk nr H Post:=by
 refine O7 ok (.inl ⟨hg.1,hg.2.1⟩) λs Hs t w hA=>.inr ?_;obtain⟨aG,l9⟩:=YC hA O;have hI:ZM c s Hs t:=hA.inv;have uL:=UD hA (by rw[aG];exact hg.1) (by rw[aG];omega);have hD:Deaf t i=1:=by rw[VS hA (by rw[aG];omega),aG];exact hg.2.2.2.2
 obtain⟨hc,hz,_⟩:=JU ok hA;by_cases he:s.mu.st=o
 ·obtain⟨x',l,h1,h2,h3,h4,h5,h6,h7,h8⟩:=Ii s hI.bI hA.lt uL aG he;obtain⟨n1,n2,n3⟩:=Ut (i:=i) (d:=Deaf t i) (C:=c.toTC) (RR (off:=0) (.inl rfl)) O;refine⟨.bool true,l,?_,.inl ⟨h4,h5⟩,h8⟩;subst he;refine dW.CT (x':=x') ok hA (ZhH hx hc hz) (λfn _=>L4) (.inr ⟨0,_,rfl,by rw[h2,h3];rfl⟩) h1 ⟨n1,n2,?_⟩ (.inr λe=>by rw[h3];exact e) (YY (by rw[aG];omega) (by rw[aG];omega)) (by rw[aG];omega) ⟨h6,O⟩ (λe=>O);rw[n3,hD,bY O,h7]
 obtain⟨l,h1,h4,h5,h6,h7,h8⟩:=PV s hI.bI hA.lt uL aG he;obtain⟨n1,n2,n3⟩:=Ut (i:=i) (d:=Deaf t i) (C:=c.toTC) (LM (off:=0) (wr:=false) (.inl rfl)) O;refine⟨.bool false,l,?_,.inl ⟨h4,h5⟩,h8⟩;refine dW.CT ok hA (ZhG hx hc hz (λe=>he (by exact_mod_cast e))) (λfn _=>O8) (.inl ⟨rfl,rfl⟩) h1 ⟨n1,n2,?_⟩ (.inr id) (YY (by rw[aG];omega) (by rw[aG];omega)) (by rw[aG];omega) ⟨h6,O⟩ (λe=>O);rw[n3,hD,bY O,h7]
theorem Znu(ok:c.Ok)(hx:eT p f (Extern.Atomic.update (Op.intArith .add) .i32 true))(hg:1<=cd H.cg/\cd H.cg<=19/\cd H.cg≠7/\cd H.cg≠12/\df (cd H.cg)=1)
  (h:∀s:Ts,bK c s->i<s.next->c.base<=i->s.tag i=H.cg->∃x' l,bK c { s with mu:=x',tag:=upd s.tag i l }/\IntKind.i32.wrap ((s.mu.st:Nat)+d)=(x'.st:Nat)/\x'.sm=s.mu.sm/\1<=cd l/\cd l<=19/\cd l≠12/\df (cd l)=1/\Post (.int .i32 (x'.st:Nat)) (H.tagc l)) :
  Zm ((bG p c).prgW i) (callFunc f #[.pointer (some (dN c.M)),.int .i32 d]) wk nr H Post:=by
 refine O7 ok (.inl ⟨hg.1,hg.2.1⟩) λs Hs t w hA=>.inr ?_;obtain⟨aG,l9⟩:=YC hA O;have hI:ZM c s Hs t:=hA.inv;have uL:=UD hA (by rw[aG];exact hg.1) (by rw[aG];omega);have hD:Deaf t i=1:=by rw[VS hA (by rw[aG];omega),aG];exact hg.2.2.2.2
 obtain⟨hc,hz,_⟩:=JU ok hA;obtain⟨x',l,h1,h2,h3,h4,h5,h6,h7,h8⟩:=h s hI.bI hA.lt uL aG;obtain⟨n1,n2,n3⟩:=Ut (i:=i) (d:=Deaf t i) (C:=c.toTC) (RR (off:=0) (.inl rfl)) O;refine⟨.int .i32 (x'.st:Nat),l,?_,.inl ⟨h4,h5⟩,h8⟩;have hr:=Qx hx (d:=d) hc hz;rw[h2]at hr;refine dW.CT (x':=x') ok hA hr (λfn _=>L4) (.inr ⟨0,_,rfl,by rw[h3];rfl⟩) h1 ⟨n1,n2,?_⟩ (.inr λe=>by rw[h3];exact e) (YY (by rw[aG];omega) (by rw[aG];omega)) (by rw[aG];omega) ⟨h6,O⟩ (λe=>O);rw[n3,hD,bY O,h7]
theorem ZhD(hx:eT p f Extern.Sync.semacquire){rest:Array Value}(sP:vs[0]? = some (.pointer (some a)))(hc:w.cell? a=some (.int .u32 n))(hz:w.frozen? a=false)(hn:n≠0) :
  (callFunc f vs).runT p w #[]=(.ok (.value Zu) (w.setCell a (.int .u32 (n-1))),#[Yo f]++semEvents a):=
 hx.val (by simp[Extern.Sync.semacquire,Extern.Sync.count,sP,hc,hn,hz,Extern.Sync.none_,run_store p w a (.int .u32 (n-1)) .atomic rfl,Result.andThen])
  (by simp[Extern.Sync.semacquire,Extern.Sync.count,sP,hc,hn,hz,semEvents,events_load,events_store p w _ a (.int .u32 (n-1)) .atomic rfl,run_store p w a (.int .u32 (n-1)) .atomic rfl,Result.evThen])
theorem ZhC(hx:eT p f Extern.Sync.semacquire)(sP:vs[0]? = some (.pointer (some a)))(hc:w.cell? a=some (.int .u32 0)):∃es,(callFunc f vs).runT p w #[]=(.halt .blocked w,es):=
 hx.blocks (by simp[Extern.Sync.semacquire,Extern.Sync.count,sP,hc])
theorem ZhB(hx:eT p f Extern.Sync.semrelease)(sP:vs[0]? = some (.pointer (some a)))(hc:w.cell? a=some (.int .u32 n))(hz:w.frozen? a=false) :
  (callFunc f vs).runT p w #[]=(.ok (.value Zu) (w.setCell a (.int .u32 (IntKind.u32.wrap (n+1)))),#[Yo f]++semEvents a):=
 hx.val (by simp[Extern.Sync.semrelease,Extern.Sync.count,sP,hc,hz,Extern.Sync.none_,Op.intArith,run_store p w a (.int .u32 (IntKind.u32.wrap (n+1))) .atomic rfl,Result.andThen])
  (by simp[Extern.Sync.semrelease,Extern.Sync.count,sP,hc,hz,semEvents,Op.intArith,events_load,events_store p w _ a (.int .u32 (IntKind.u32.wrap (n+1))) .atomic rfl,run_store p w a (.int .u32 (IntKind.u32.wrap (n+1))) .atomic rfl,Result.evThen])
theorem Bq{f:FuncId}:seen p fn (#[Yo f]++semEvents a)=semEvents a:=O9 (semEvents_sync a)
end
end
variable{L W S n M k v:Nat}{g:Nat->Nat}{ty vE:TypeId}{x:Operand}{ρ:Operand->Value}{vs:Array Value}
open Go.Conc
open Go.ConcN (sumTo upd sumTo_upd upd_ne upd_same)
def bR(L W S n:Nat):Nat:=L+2 * W+4 * S+8 * n
structure dB(L W S n:Nat):Prop where
 L:L<=1
 W:W<=1
 S:S<=1
 n:n<=200000000
theorem dB.eq{L' W' S' n':Nat}(h:dB L W S n)(h':dB L' W' S' n')(e:bR L W S n=bR L' W' S' n'):L=L'/\W=W'/\S=S'/\n=n':=by obtain⟨a1,a2,a3,_⟩:=h;obtain⟨b1,b2,b3,_⟩:=h';unfold bR at e;omega
section
variable{p:Program}{c:Cx}{i:Nat}{H:Hp}{s:Ts}{f:FuncId}{wk nr:Bool}
theorem Zzi(hg:∀n,g n<=1)(tag:Nat->List Nat)(k:Nat):Ct g tag k<=k:=by have:=Pw (f:=λi=>g (cd (tag i))) (b:=0) (n:=k) (qAR _) (λi _=>hg _) (λi hi=>absurd hi (qBh _));simpa[Ct]using this
theorem SB(b:Bool):one b<=1:=by cases b<;>decide
theorem bK.CD(h:bK c s)(hg:∀n,g n<=1)(h0:g 0=0)(WM:∀n,30<=n->g n=0):Ct g s.tag s.next<=c.K:=by
 have:=Pw (f:=λi=>g (cd (s.tag i))) (b:=c.base) (n:=s.next) h.nb (λi _=>hg _) (λi hi=>by
  rcases qAv i with e | e
  ·subst e;exact WM _ h.wg.main
  simp only[h.kO i e hi];exact h0)
 have h3:=h.num;have e:Ct g s.tag s.next=sumTo s.next (λi=>g (cd (s.tag i))):=rfl;omega
theorem bK.bits(ok:c.Ok)(h:bK c s):dB s.mu.L s.mu.W s.mu.S s.mu.n:=by
 have h1:=h.CD (g:=cQ) (λn=>SB _) rfl (λn hn=>by simp[cQ,one];omega);have h2:=h.CD (g:=cA) (λn=>SB _) rfl (λn hn=>by simp[cA,one];omega);have h3:=h.num;have h4:=ok.FH;obtain⟨f1,f2,f3,f4,f5,f6⟩:=h.mu;refine⟨f2,f3,f4,?_⟩;rcases qAv s.mu.S with h0 | h0
 ·have:=f5 h0;omega
 have:=f6 O;omega
theorem Yn(x:Mu):x.st=bR x.L x.W x.S x.n:=rfl
theorem Zv1(h:bK c s)(hi:i<s.next)(hc:cd (s.tag i)=5\/cd (s.tag i)=6):s.mu.S=0/\s.mu.W=1:=by
 have:=Ct.le cT s.tag hi;have e:cT (cd (s.tag i))=1:=by rcases hc with hc | hc<;>rw[hc]<;>rfl
 obtain⟨f1,f2,f3,f4,f5,f6⟩:=h.mu;rcases qAv s.mu.S with h0 | h0
 ·have:=f5 h0;omega
 have:=f6 O;omega
theorem WV(ok:c.Ok)(AP:Ye p ty=some none)(hx:ρ x=.pointer (some (dN c.M)))(hg:H.cg=[3]\/H.cg=[3,M]\/∃v,H.cg=[4,v,M]) :
  Zm ((bG p c).prgW i) (execOp ρ (aP (.load ty x) vE)) wk true H (λv H'=>∃L W S n m,dB L W S n/\v=.int .i32 (bR L W S n:Nat)/\H'=H.tagc [4,bR L W S n,m]/\(H.cg=[3,M]->m<M)/\((∃v,H.cg=[4,v,M])->m<=M)):=by
 have iH:cd H.cg=3\/cd H.cg=4:=by rcases hg with e | e | ⟨v,e⟩<;>rw[e]<;>simp[cd]
 refine WU ok AP hx O λs h hi hb ht=>?_;have fG:=h.bits ok;have key:∀m,Mu.mu s.mu s.pm (upd s.tag i [4,s.mu.st,m]) s.next=Mu.mu s.mu s.pm s.tag s.next->m=Mu.mu s.mu s.pm s.tag s.next->s.mu.dM (Mu.mu s.mu s.pm (upd s.tag i [4,s.mu.st,m]) s.next) [4,s.mu.st,m]:=by intro m e hm;rw[e];exact⟨qAW hm.symm,λ_=>rfl⟩
 have rT:∀l:List Nat,cd l=4->Mu.mu s.mu s.pm (upd s.tag i l) s.next=Mu.mu s.mu s.pm s.tag s.next:=by
  intro l hl;have e:=counts (tag:=s.tag) (l:=l) hi dQ;rw[ht,hl]at e;have e2:dQ (cd H.cg)=6:=by rcases iH with e | e<;>rw[e]<;>rfl
  have e3:dQ 4=6:=rfl;unfold Mu.mu;omega
 refine⟨[4,s.mu.st,Mu.mu s.mu s.pm s.tag s.next],?_,by simp[cd],by simp[cd],by simp[cd],by rcases iH with e | e<;>rw[e]<;>rfl,s.mu.L,s.mu.W,s.mu.S,s.mu.n,_,fG,rfl,rfl,λe=>?_,λ⟨v,e⟩=>?_⟩
 ·rcases iH with e | e
  ·exact(h.oB hi hb (by rw[ht];exact e) rfl (key _ (rT _ rfl) rfl)).1
  have h3:=(h.oA (l:=[3]) hi hb (by rw[ht];exact e) rfl trivial).1;have aI6:Mu.mu s.mu s.pm (upd s.tag i [3]) s.next=Mu.mu s.mu s.pm s.tag s.next:=by have e0:=counts (tag:=s.tag) (l:=[3]) hi dQ;rw[ht,e]at e0;have e3:dQ 4=6:=rfl;have e4:dQ (cd [3])=6:=rfl;unfold Mu.mu;omega
  have h4:=(h3.oB (i:=i) (l:=[4,s.mu.st,Mu.mu s.mu s.pm s.tag s.next]) hi hb (by show cd (upd s.tag i [3] i)=3;rw[upd_same];rfl) rfl (by show s.mu.dM (Mu.mu s.mu s.pm (upd (upd s.tag i [3]) i _) s.next) _;rw[Cd];exact key _ (rT _ rfl) rfl)).1;show bK c { s with tag:=_ };rw[<-Cd s.tag i [3]];exact h4
 ·have:=h.oS i hi;rw[ht,e]at this;exact this
 have:=h.oS i hi;rw[ht,e]at this;exact this.1
theorem Af{a b d e:Nat}(h:a+d=b+e)(he:e<d)(hb:b<=M):a<M:=O
theorem Bp{s:Ts}{i:Nat}(h:bK c s)(hi:i<s.next)(ht:s.tag i=[k,M])(hk:k=3\/k=5\/k=7\/k=8\/k=16):Mu.mu s.mu s.pm s.tag s.next<M:=by have:=h.oS i hi;rw[ht]at this;rcases hk with rfl | rfl | rfl | rfl | rfl<;>exact this
theorem KE{s:Ts}{i:Nat}(h:bK c s)(hi:i<s.next)(ht:s.tag i=[k,v,M])(hk:k=4\/k=6\/k=15):Mu.mu s.mu s.pm s.tag s.next<=M/\(Mu.mu s.mu s.pm s.tag s.next=M->s.mu.st=v):=by
 have:=h.oS i hi;rw[ht]at this;rcases hk with rfl | rfl | rfl
 ·exact this
 ·exact this
 exact⟨this.1,this.2.1⟩
theorem ZyQ(ok:c.Ok)(hx:eT p f (Extern.Atomic.casT (.int .i32)))(hg:H.cg=[2]) :
  Zm ((bG p c).prgW i) (callFunc f #[.pointer (some (dN c.M)),.int .i32 (0:Nat),.int .i32 (1:Nat)]) wk nr H (λv H'=>(v=.bool true/\H'=H.tagc [10])\/(v=.bool false/\H'=H.tagc [3])):=by
 refine JS ok hx (by rw[hg];simp[cd,df,one]) (λs h hi hb ht he=>?_) (λs h hi hb ht he=>?_)
 ·have:=h.bits ok;rw[Yn]at he;unfold bR at he;refine⟨_,[10],(h.JH (l:=[10]) hi hb (by rw[ht,hg];rfl) rfl (by rw[Yn];unfold bR;omega) trivial).1,?_,rfl,by simp[cd],by simp[cd],by simp[cd],rfl,.inl ⟨rfl,rfl⟩⟩;rw[Yn];unfold bR;simp only;omega
 exact⟨[3],(h.qO (l:=[3]) hi hb (by rw[ht,hg];rfl) rfl trivial).1,by simp[cd],by simp[cd],by simp[cd],rfl,.inr ⟨rfl,rfl⟩⟩
theorem Nf(h:bK c s)(hi:i<s.next)(hb:c.base<=i)(ht:s.tag i=[4,v,M])(dG:s.mu.st≠v):bK c { s with tag:=upd s.tag i [3,M] }:=by
 have h1:=KE h hi ht (.inl rfl);have e:=counts (tag:=s.tag) (l:=[3,M]) hi dQ;rw[ht]at e;have e3:dQ (cd [4,v,M])=6:=rfl;have e4:dQ (cd [3,M])=6:=rfl;have:Mu.mu s.mu s.pm (upd s.tag i [3,M]) s.next=Mu.mu s.mu s.pm s.tag s.next:=by unfold Mu.mu;omega
 refine(h.oA hi hb (by rw[ht];rfl) rfl ?_).1;show _<M;rw[this];rcases qAH (Mu.mu s.mu s.pm s.tag s.next) M with h2 | h2
 ·exact h2
 exact absurd (h1.2 O) dG
theorem ZlD(h:bK c s)(hi:i<s.next)(hb:c.base<=i)(ht:s.tag i=[6,v,M])(dG:s.mu.st≠v):bK c { s with tag:=upd s.tag i [5,M] }:=by
 have h1:=KE h hi ht (.inr (.inl rfl));have e:=counts (tag:=s.tag) (l:=[5,M]) hi dQ;rw[ht]at e;have e3:dQ (cd [6,v,M])=5:=rfl;have e4:dQ (cd [5,M])=5:=rfl;have:Mu.mu s.mu s.pm (upd s.tag i [5,M]) s.next=Mu.mu s.mu s.pm s.tag s.next:=by unfold Mu.mu;omega
 refine(h.n8 hi hb (by rw[ht];rfl) rfl ?_).1;show _<M;rw[this];rcases qAH (Mu.mu s.mu s.pm s.tag s.next) M with h2 | h2
 ·exact h2
 exact absurd (h1.2 O) dG
theorem ZyO(ok:c.Ok)(hx:eT p f (Extern.Atomic.casT (.int .i32)))(hB:dB L 0 0 n)(hg:H.cg=[4,bR L 0 0 n,M]) :
  Zm ((bG p c).prgW i) (callFunc f #[.pointer (some (dN c.M)),.int .i32 (bR L 0 0 n:Nat),.int .i32 (bR L 1 0 n:Nat)]) wk nr H (λv H'=>(v=.bool true/\H'=H.tagc [5,M])\/(v=.bool false/\H'=H.tagc [3,M])):=by
 refine JS ok hx (by rw[hg];simp[cd,df,one]) (λs h hi hb ht he=>?_) (λs h hi hb ht he=>?_)
 ·obtain⟨b1,b2,b3,b4⟩:=(h.bits ok).eq hB he;have h1:=(KE h hi (ht.trans hg) (.inl rfl)).1;obtain⟨m1,m2⟩:=Mu.DY (more:=s.pm) (l:=[5,M]) h.mu hi (by rw[ht,hg];rfl) rfl b2 b3;refine⟨_,[5,M],(h.DY (l:=[5,M]) hi hb (by rw[ht,hg];rfl) rfl b2 b3 ?_).1,?_,rfl,by simp[cd],by simp[cd],by simp[cd],rfl,.inl ⟨rfl,rfl⟩⟩
  ·show _<M;exact Af m2 (by decide) h1
  rw[Yn];unfold bR;simp only;omega
 exact⟨[3,M],Nf h hi hb (ht.trans hg) he,by simp[cd],by simp[cd],by simp[cd],rfl,.inr ⟨rfl,rfl⟩⟩
theorem ZyN(ok:c.Ok)(hx:eT p f (Extern.Atomic.casT (.int .i32)))(hB:dB 0 W 0 n)(hg:H.cg=[4,bR 0 W 0 n,M]) :
  Zm ((bG p c).prgW i) (callFunc f #[.pointer (some (dN c.M)),.int .i32 (bR 0 W 0 n:Nat),.int .i32 (bR 1 W 0 n:Nat)]) wk nr H (λv H'=>(v=.bool true/\H'=H.tagc [10])\/(v=.bool false/\H'=H.tagc [3,M])):=by
 refine JS ok hx (by rw[hg];simp[cd,df,one]) (λs h hi hb ht he=>?_) (λs h hi hb ht he=>?_)
 ·obtain⟨b1,b2,b3,b4⟩:=(h.bits ok).eq hB he;refine⟨_,[10],(h.zF (l:=[10]) hi hb (by rw[ht,hg];rfl) rfl b1 b3 trivial).1,?_,rfl,by simp[cd],by simp[cd],by simp[cd],rfl,.inl ⟨rfl,rfl⟩⟩;rw[Yn];unfold bR;simp only;omega
 exact⟨[3,M],Nf h hi hb (ht.trans hg) he,by simp[cd],by simp[cd],by simp[cd],rfl,.inr ⟨rfl,rfl⟩⟩
theorem Znt(ok:c.Ok)(hx:eT p f (Extern.Atomic.casT (.int .i32)))(hB:dB L W S n)(Wo:L=1\/S=1)(hg:H.cg=[4,bR L W S n,M]) :
  Zm ((bG p c).prgW i) (callFunc f #[.pointer (some (dN c.M)),.int .i32 (bR L W S n:Nat),.int .i32 (bR L W S (n+1):Nat)]) wk nr H (λv H'=>(v=.bool true/\H'=H.tagc [7,M])\/(v=.bool false/\H'=H.tagc [3,M])):=by
 refine JS ok hx (by rw[hg];simp[cd,df,one]) (λs h hi hb ht he=>?_) (λs h hi hb ht he=>?_)
 ·obtain⟨b1,b2,b3,b4⟩:=(h.bits ok).eq hB he;have h1:=(KE h hi (ht.trans hg) (.inl rfl)).1;have hk:s.mu.L=1\/s.mu.S=1:=O;obtain⟨m1,m2⟩:=Mu.qS (more:=s.pm) (l:=[7,M]) h.mu hi (by rw[ht,hg];rfl) rfl hk;refine⟨_,[7,M],(h.qS (l:=[7,M]) hi hb (by rw[ht,hg];rfl) rfl hk ?_).1,?_,rfl,by simp[cd],by simp[cd],by simp[cd],rfl,.inl ⟨rfl,rfl⟩⟩
  ·show _<M;exact Af m2 (by decide) h1
  rw[Yn];unfold bR;simp only;omega
 exact⟨[3,M],Nf h hi hb (ht.trans hg) he,by simp[cd],by simp[cd],by simp[cd],rfl,.inr ⟨rfl,rfl⟩⟩
theorem Znr(ok:c.Ok)(hx:eT p f (Extern.Atomic.casT (.int .i32)))(hB:dB 0 1 0 n)(hg:H.cg=[6,bR 0 1 0 n,M]) :
  Zm ((bG p c).prgW i) (callFunc f #[.pointer (some (dN c.M)),.int .i32 (bR 0 1 0 n:Nat),.int .i32 (bR 1 0 0 n:Nat)]) wk nr H (λv H'=>(v=.bool true/\H'=H.tagc [10])\/(v=.bool false/\H'=H.tagc [5,M])):=by
 refine JS ok hx (by rw[hg];simp[cd,df,one]) (λs h hi hb ht he=>?_) (λs h hi hb ht he=>?_)
 ·obtain⟨b1,b2,b3,b4⟩:=(h.bits ok).eq hB he;refine⟨_,[10],(h.zD (l:=[10]) hi hb (by rw[ht,hg];rfl) rfl b1 b3 trivial).1,?_,rfl,by simp[cd],by simp[cd],by simp[cd],rfl,.inl ⟨rfl,rfl⟩⟩;rw[Yn];unfold bR;simp only;omega
 exact⟨[5,M],ZlD h hi hb (ht.trans hg) he,by simp[cd],by simp[cd],by simp[cd],rfl,.inr ⟨rfl,rfl⟩⟩
theorem Zns(ok:c.Ok)(hx:eT p f (Extern.Atomic.casT (.int .i32)))(sv:Bool)(hB:dB 1 1 0 n)(hg:H.cg=[6,bR 1 1 0 n,M]) :
  Zm ((bG p c).prgW i) (callFunc f #[.pointer (some (dN c.M)),.int .i32 (bR 1 1 0 n:Nat),.int .i32 (bR 1 0 (if sv then 1 else 0) (n+1):Nat)]) wk nr H (λv H'=>(v=.bool true/\H'=H.tagc [7,M])\/(v=.bool false/\H'=H.tagc [5,M])):=by
 refine JS ok hx (by rw[hg];simp[cd,df,one]) (λs h hi hb ht he=>?_) (λs h hi hb ht he=>?_)
 ·obtain⟨b1,b2,b3,b4⟩:=(h.bits ok).eq hB he;have h1:=(KE h hi (ht.trans hg) (.inr (.inl rfl))).1;cases sv with
  | false=>
   obtain⟨m1,m2⟩:=Mu.qR (more:=s.pm) (l:=[7,M]) h.mu hi (by rw[ht,hg];rfl) rfl b1;refine⟨_,[7,M],(h.qR (l:=[7,M]) hi hb (by rw[ht,hg];rfl) rfl b1 ?_).1,?_,rfl,by simp[cd],by simp[cd],by simp[cd],rfl,.inl ⟨rfl,rfl⟩⟩
   ·show _<M;exact Af m2 (by decide) h1
   rw[Yn];unfold bR;simp;omega
  | true=>
   obtain⟨m1,m2⟩:=Mu.oC (more:=s.pm) (l:=[7,M]) h.mu hi (by rw[ht,hg];rfl) rfl b1;refine⟨_,[7,M],(h.oC (l:=[7,M]) hi hb (by rw[ht,hg];rfl) rfl b1 ?_).1,?_,rfl,by simp[cd],by simp[cd],by simp[cd],rfl,.inl ⟨rfl,rfl⟩⟩
   ·show _<M;exact Af m2 (by decide) h1
   rw[Yn];unfold bR;simp;omega
 exact⟨[5,M],ZlD h hi hb (ht.trans hg) he,by simp[cd],by simp[cd],by simp[cd],rfl,.inr ⟨rfl,rfl⟩⟩
theorem WW(ok:c.Ok)(AP:Ye p ty=some none)(hx:ρ x=.pointer (some (dN c.M)))(hg:H.cg=[5,M]\/∃v,H.cg=[6,v,M]) :
  Zm ((bG p c).prgW i) (execOp ρ (aP (.load ty x) vE)) wk true H (λv H'=>∃L n m,dB L 1 0 n/\v=.int .i32 (bR L 1 0 n:Nat)/\H'=H.tagc [6,bR L 1 0 n,m]/\(H.cg=[5,M]->m<M)/\((∃v,H.cg=[6,v,M])->m<=M)):=by
 have iH:cd H.cg=5\/cd H.cg=6:=by rcases hg with e | ⟨v,e⟩<;>rw[e]<;>simp[cd]
 refine WU ok AP hx O λs h hi hb ht=>?_;have fG:=h.bits ok;obtain⟨hS,hW⟩:=Zv1 h hi (by rw[ht];exact iH);rw[hS,hW]at fG;have bB:s.mu.st=bR s.mu.L 1 0 s.mu.n:=by rw[Yn,hS,hW]
 have rT:∀l:List Nat,cd l=5\/cd l=6->Mu.mu s.mu s.pm (upd s.tag i l) s.next=Mu.mu s.mu s.pm s.tag s.next:=by
  intro l hl;have e:=counts (tag:=s.tag) (l:=l) hi dQ;rw[ht]at e;have e2:dQ (cd H.cg)=5:=by rcases iH with e | e<;>rw[e]<;>rfl
  have e3:dQ (cd l)=5:=by rcases hl with e | e<;>rw[e]<;>rfl
  unfold Mu.mu;omega
 have key:s.mu.dM (Mu.mu s.mu s.pm (upd s.tag i [6,s.mu.st,Mu.mu s.mu s.pm s.tag s.next]) s.next) [6,s.mu.st,Mu.mu s.mu s.pm s.tag s.next]:=by rw[rT _ (.inr rfl)];exact⟨aC _,λ_=>rfl⟩
 refine⟨[6,s.mu.st,Mu.mu s.mu s.pm s.tag s.next],?_,by simp[cd],by simp[cd],by simp[cd],by rcases iH with e | e<;>rw[e]<;>rfl,s.mu.L,s.mu.n,_,fG,by rw[bB],by rw[bB],λe=>?_,λ⟨v,e⟩=>?_⟩
 ·rcases iH with e | e
  ·exact(h.n9 hi hb (by rw[ht];exact e) rfl key).1
  have h3:=(h.n8 (l:=[5]) hi hb (by rw[ht];exact e) rfl trivial).1;have h4:=(h3.n9 (i:=i) (l:=[6,s.mu.st,Mu.mu s.mu s.pm s.tag s.next]) hi hb (by show cd (upd s.tag i [5] i)=5;rw[upd_same];rfl) rfl (by show s.mu.dM (Mu.mu s.mu s.pm (upd (upd s.tag i [5]) i _) s.next) _;rw[Cd];exact key)).1;show bK c { s with tag:=_ };rw[<-Cd s.tag i [5]];exact h4
 ·exact Bp h hi (ht.trans e) O
 exact(KE h hi (ht.trans e) O).1
theorem WZ(ok:c.Ok)(hx:eT p f Extern.Sync.semacquire)(sP:vs[0]? = some (.pointer (some ⟨c.M,1,none⟩)))(hg:H.cg=[7,M]) :
  Zm ((bG p c).prgW i) (callFunc f vs) wk nr H (λv H'=>v=Zu/\H'=H.tagc [8,M]):=by
 refine O7 ok (.inl (by rw[hg];simp[cd,df,one])) λs Hs t w hA=>?_;have aG:s.tag i=[7,M]:=(show s.tag i=H.cg from(YC hA (by rw[hg];simp[cd])).1).trans hg;have hI:ZM c s Hs t:=hA.inv;have uL:=UD hA (by rw[aG];simp[cd,df,one]) (by rw[aG];simp[cd,df,one]);have hD:Deaf t i=1:=by rw[VS hA (by rw[aG];simp[cd,df,one]),aG];rfl
 obtain⟨_,_,hc,hz⟩:=JU ok hA;by_cases h0:s.mu.sm=0
 ·rw[h0]at hc;exact .inl ⟨ZhC hx sP hc,.inl ⟨by rw[aG];rfl,h0⟩⟩
 refine .inr ⟨Zu,[8,M],?_,.inl (by simp[cd]),rfl,rfl⟩;obtain⟨n1,n2,n3⟩:=Ay (C:=c.toTC) (i:=i) (d:=Deaf t i) (b:=c.M) (off:=1) (.inl rfl);have hr:=ZhD (rest:=#[]) hx sP hc hz (by exact_mod_cast h0);have hk:((s.mu.sm:Nat):Int)-1=((s.mu.sm-1:Nat):Int):=O;rw[hk]at hr;have h1:=Bp hI.bI hA.lt aG O;obtain⟨m1,m2⟩:=Mu.qN (more:=s.pm) (l:=[8,M]) hI.bI.mu hA.lt (by rw[aG];rfl) rfl O;refine dW.CT (x':={ s.mu with sm:=s.mu.sm-1 }) ok hA hr (λfn _=>Bq) (.inr ⟨1,_,rfl,rfl⟩) (hI.bI.qN (l:=[8,M]) hA.lt uL (by rw[aG];rfl) rfl O ?_).1 ⟨n1,n2,?_⟩ (.inr λe=>absurd e h0) ?_ (by rw[aG];simp[cd,df,one]) (by simp[cd]) (λe=>by simp[cd]at e)
 ·show _<M;exact qBj (ZO m2 (by decide)) h1
 ·rw[n3,hD];rfl
 left;rintro(⟨_,e⟩ | ⟨e,_⟩)
 ·exact h0 e
 rw[aG]at e;simp[cd]at e
theorem LA(ok:c.Ok)(AP:Ye p ty=some none)(hx:ρ x=.pointer (some (dN c.M)))(hg:H.cg=[8,M]) :
  Zm ((bG p c).prgW i) (execOp ρ (aP (.load ty x) vE)) wk true H (λv H'=>(∃L n m,dB L 1 0 n/\v=.int .i32 (bR L 1 0 n:Nat)/\H'=H.tagc [6,bR L 1 0 n,m]/\m<M) \/
   (∃n,dB 0 0 1 n/\1<=n/\v=.int .i32 (bR 0 0 1 n:Nat)/\H'=H.tagc [9,bR 0 0 1 n])):=by
 refine WU ok AP hx (by rw[hg];simp[cd,df,one]) λs h hi hb ht=>?_
 have fG:=h.bits ok
 have hA:=Ct.le cA s.tag hi
 have e:cA (cd (s.tag i))=1:=by rw[ht,hg];rfl
 rcases qAv s.mu.S with h0 | h0
 ·have hW:s.mu.W=1:=by have:=h.mu.norm h0;have:=h.mu.W1;omega
  have bB:s.mu.st=bR s.mu.L 1 0 s.mu.n:=by rw[Yn,h0,hW]
  rw[h0,hW]at fG;obtain⟨m1,m2⟩:=Mu.vC (more:=s.pm) (l:=[6,s.mu.st,Mu.mu s.mu s.pm s.tag s.next]) h.mu hi (by rw[ht,hg];rfl) rfl h0;refine⟨[6,s.mu.st,Mu.mu s.mu s.pm s.tag s.next],(h.vC (l:=[6,s.mu.st,Mu.mu s.mu s.pm s.tag s.next]) hi hb (by rw[ht,hg];rfl) rfl h0 ⟨O,λ_=>rfl⟩).1,by simp[cd],by simp[cd],by simp[cd],by rw[hg];rfl,.inl ⟨s.mu.L,s.mu.n,_,fG,by rw[bB],by rw[bB],Bp h hi (ht.trans hg) O⟩⟩
 ·have h1:s.mu.S=1:=by have:=h.mu.S1;omega
  have h2:=h.mu.starv h1;have bB:s.mu.st=bR 0 0 1 s.mu.n:=by rw[Yn,h1];unfold bR;omega
  refine⟨[9,s.mu.st],(h.y7 (l:=[9,s.mu.st]) hi hb (by rw[ht,hg];rfl) rfl h1 ⟨h1,?_,?_⟩).1,by simp[cd],by simp[cd],by simp[cd],by rw[hg];rfl,.inr ⟨s.mu.n,⟨O,O,O,fG.n⟩,h2.2.1,by rw[bB],by rw[bB]⟩⟩
  ·rw[bB];unfold bR;omega
  rw[bB];unfold bR;omega
theorem Ph{z:Int}(h1:0<=z)(h2:z<=2147483647):IntKind.i32.wrap z=z:=by simp only[IntKind.wrap,IntKind.bits,IntKind.signed];simp;omega
theorem OV(ok:c.Ok)(hx:eT p f (Extern.Atomic.update (Op.intArith .add) .i32 true))(hn:dB 0 0 1 n)(h1:1<=n)(gL:Bool)(mA:gL=false->n≠1)(hg:H.cg=[9,bR 0 0 1 n]) :
  Zm ((bG p c).prgW i) (callFunc f #[.pointer (some (dN c.M)),.int .i32 (if gL then -11 else -7)]) wk nr H (λv H'=>(∃z,v=.int .i32 z)/\H'=H.tagc [10]):=by
 refine Znu ok hx (by rw[hg];simp[cd,df,one]) λs h hi hb ht=>?_;have fG:=h.bits ok;have nT:=h.oS i hi;rw[ht,hg]at nT;obtain⟨hS,AN,AM⟩:=nT;have hv:bR 0 0 1 n / 8=n:=by unfold bR;omega
 rw[hv]at AN AM;have h2:=h.mu.starv hS;have hA:=Ct.le cA s.tag hi;have e:cA (cd (s.tag i))=1:=by rw[ht,hg];rfl
 have hL:s.mu.L=0:=O;have hW:s.mu.W=0:=h2.2.2.1;have WJ:=fG.n;cases gL with
 | true=>
  refine⟨_,[10],(h.BU (l:=[10]) hi hb (by rw[ht,hg];rfl) rfl hS trivial).1,?_,rfl,by simp[cd],by simp[cd],by simp[cd],rfl,⟨_,rfl⟩,rfl⟩;rw[Yn,Yn];unfold bR;simp only[qAM];rw[Ph]<;>omega
 | false=>
  have:=mA rfl;refine⟨_,[10],(h.hand (l:=[10]) hi hb (by rw[ht,hg];rfl) rfl hS O trivial).1,?_,rfl,by simp[cd],by simp[cd],by simp[cd],rfl,⟨_,rfl⟩,rfl⟩;rw[Yn,Yn];unfold bR;simp only[iN,qAk];rw[Ph]<;>omega
theorem ZyG(ok:c.Ok)(hx:eT p f (Extern.Atomic.update (Op.intArith .add) .i32 true))(hg:H.cg=[14]) :
  Zm ((bG p c).prgW i) (callFunc f #[.pointer (some (dN c.M)),.int .i32 (-1)]) wk nr H (λv H'=>
   (∃W n,dB 0 W 0 n/\(n=0\/W=1)/\v=.int .i32 (bR 0 W 0 n:Nat)/\H'=H.tagc [18])\/(∃n m,dB 0 0 0 n/\1<=n/\v=.int .i32 (bR 0 0 0 n:Nat)/\H'=H.tagc [15,bR 0 0 0 n,m]) \/
   (∃n,dB 0 0 1 n/\v=.int .i32 (bR 0 0 1 n:Nat)/\H'=H.tagc [17])):=by
 refine Znu ok hx (by rw[hg];simp[cd,df,one]) λs h hi hb ht=>?_
 have fG:=h.bits ok
 have hH:=Ct.le Zk s.tag hi
 have e:Zk (cd (s.tag i))=1:=by rw[ht,hg];rfl
 have hL:s.mu.L=1:=by have:=h.mu.L1;have:=h.mu.L2;omega
 have WJ:=fG.n
 have hw:∀x':Mu,x'={ s.mu with L:=0 }->IntKind.i32.wrap ((s.mu.st:Nat)+(-1))=(x'.st:Nat):=by rintro x' rfl;rw[Yn,Yn];unfold bR;simp only;have:=fG.W;have:=fG.S;rw[Ph]<;>omega
 rcases qAv s.mu.S with h0 | h0
 ·by_cases hk:s.mu.n=0\/s.mu.W=1
  ·refine⟨_,[18],(h.qM (l:=[18]) hi hb (by rw[ht,hg];rfl) rfl h0 hk trivial).1,hw _ rfl,rfl,by simp[cd],by simp[cd],by simp[cd],rfl,.inl ⟨s.mu.W,s.mu.n,⟨O,fG.W,O,WJ⟩,hk,?_,rfl⟩⟩;rw[Yn];simp only[h0]
  have hW:s.mu.W=0:=by have:=fG.W;omega
  have bB:({ s.mu with L:=0 }:Mu).st=bR 0 0 0 s.mu.n:=by rw[Yn];simp only[h0,hW]
  obtain⟨m1,m2⟩:=Mu.n6 (more:=s.pm) (l:=[15,bR 0 0 0 s.mu.n,Mu.mu { s.mu with L:=0 } s.pm (upd s.tag i [15]) s.next]) h.mu hi (by rw[ht,hg];rfl) rfl h0;have qC:Mu.mu { s.mu with L:=0 } s.pm (upd s.tag i [15,bR 0 0 0 s.mu.n,Mu.mu { s.mu with L:=0 } s.pm (upd s.tag i [15]) s.next]) s.next=Mu.mu { s.mu with L:=0 } s.pm (upd s.tag i [15]) s.next:=by have e1:=counts (tag:=s.tag) (l:=[15]) hi dQ;have e2:=counts (tag:=s.tag) (l:=[15,bR 0 0 0 s.mu.n,Mu.mu { s.mu with L:=0 } s.pm (upd s.tag i [15]) s.next]) hi dQ;have e3:cd [15]=cd [15,bR 0 0 0 s.mu.n,Mu.mu { s.mu with L:=0 } s.pm (upd s.tag i [15]) s.next]:=rfl;rw[<-e3]at e2;simp only[Mu.mu]at e1 e2 ⊢;omega
  refine⟨_,[15,bR 0 0 0 s.mu.n,Mu.mu { s.mu with L:=0 } s.pm (upd s.tag i [15]) s.next],(h.n6 hi hb (by rw[ht,hg];rfl) rfl h0 ?_).1,hw _ rfl,rfl,by simp[cd],by simp[cd],by simp[cd],rfl,.inr (.inl ⟨s.mu.n,_,⟨O,O,O,WJ⟩,O,by rw[bB],rfl⟩)⟩;refine⟨qAW qC,λ_=>bB,?_,?_⟩<;>unfold bR<;>omega
 ·have h1:s.mu.S=1:=by have:=h.mu.S1;omega
  have h2:=h.mu.starv h1;refine⟨_,[17],(h.qL (l:=[17]) hi hb (by rw[ht,hg];rfl) rfl h1 trivial).1,hw _ rfl,rfl,by simp[cd],by simp[cd],by simp[cd],rfl,.inr (.inr ⟨s.mu.n,⟨O,O,O,WJ⟩,?_,rfl⟩)⟩;rw[Yn];simp only[h1,h2.2.2.1]
theorem ZyP(ok:c.Ok)(hx:eT p f (Extern.Atomic.casT (.int .i32)))(hB:dB 0 0 0 (n+1))(hg:H.cg=[15,bR 0 0 0 (n+1),M]) :
  Zm ((bG p c).prgW i) (callFunc f #[.pointer (some (dN c.M)),.int .i32 (bR 0 0 0 (n+1):Nat),.int .i32 (bR 0 1 0 n:Nat)]) wk nr H (λv H'=>(v=.bool true/\H'=H.tagc [17])\/(v=.bool false/\H'=H.tagc [16,M])):=by
 refine JS ok hx (by rw[hg];simp[cd,df,one]) (λs h hi hb ht he=>?_) (λs h hi hb ht he=>?_)
 ·obtain⟨b1,b2,b3,b4⟩:=(h.bits ok).eq hB he;refine⟨_,[17],(h.B0 (l:=[17]) hi hb (by rw[ht,hg];rfl) rfl b1 b2 b3 O trivial).1,?_,rfl,by simp[cd],by simp[cd],by simp[cd],rfl,.inl ⟨rfl,rfl⟩⟩;rw[Yn];unfold bR;simp only;omega
 refine⟨[16,M],(h.mS (l:=[16,M]) hi hb (by rw[ht,hg];rfl) rfl ?_).1,by simp[cd],by simp[cd],by simp[cd],rfl,.inr ⟨rfl,rfl⟩⟩;have h1:=KE h hi (ht.trans hg) (.inr (.inr rfl));have e:=counts (tag:=s.tag) (l:=[16,M]) hi dQ;rw[ht,hg]at e;have e3:dQ (cd [15,bR 0 0 0 (n+1),M])=2:=rfl;have e4:dQ (cd [16,M])=2:=rfl;have:Mu.mu s.mu s.pm (upd s.tag i [16,M]) s.next=Mu.mu s.mu s.pm s.tag s.next:=by unfold Mu.mu;omega
 show _<M;rw[this];rcases qAH (Mu.mu s.mu s.pm s.tag s.next) M with h2 | h2
 ·exact h2
 exact absurd (h1.2 O) he
theorem ZyI(ok:c.Ok)(AP:Ye p ty=some none)(hx:ρ x=.pointer (some (dN c.M)))(hg:H.cg=[16,M]) :
  Zm ((bG p c).prgW i) (execOp ρ (aP (.load ty x) vE)) wk true H (λv H'=>(∃L W S n,dB L W S n/\(L=1\/W=1\/S=1\/n=0)/\v=.int .i32 (bR L W S n:Nat)/\H'=H.tagc [18]) \/
   (∃n m,dB 0 0 0 n/\1<=n/\v=.int .i32 (bR 0 0 0 n:Nat)/\H'=H.tagc [15,bR 0 0 0 n,m]/\m<M)):=by
 refine WU ok AP hx (by rw[hg];simp[cd,df,one]) λs h hi hb ht=>?_
 have fG:=h.bits ok
 by_cases hk:s.mu.L=1\/s.mu.W=1\/s.mu.S=1\/s.mu.n=0
 ·exact⟨[18],(h.uH (l:=[18]) hi hb (by rw[ht,hg];rfl) rfl hk trivial).1,by simp[cd],by simp[cd],by simp[cd],by rw[hg];rfl,.inl ⟨_,_,_,_,fG,hk,by rw[Yn],rfl⟩⟩
 ·have b1:=fG.L;have b2:=fG.W;have b3:=fG.S;have e1:s.mu.L=0:=O;have e2:s.mu.W=0:=O;have e3:s.mu.S=0:=O;have bB:s.mu.st=bR 0 0 0 s.mu.n:=by rw[Yn,e1,e2,e3]
  have rT:Mu.mu s.mu s.pm (upd s.tag i [15,bR 0 0 0 s.mu.n,Mu.mu s.mu s.pm s.tag s.next]) s.next=Mu.mu s.mu s.pm s.tag s.next:=by have e:=counts (tag:=s.tag) (l:=[15,bR 0 0 0 s.mu.n,Mu.mu s.mu s.pm s.tag s.next]) hi dQ;rw[ht,hg]at e;have e5:dQ (cd [16,M])=2:=rfl;have e6:dQ (cd [15,bR 0 0 0 s.mu.n,Mu.mu s.mu s.pm s.tag s.next])=2:=rfl;simp only[Mu.mu]at e e6 ⊢;omega
  refine⟨[15,bR 0 0 0 s.mu.n,Mu.mu s.mu s.pm s.tag s.next],(h.mR (l:=[15,bR 0 0 0 s.mu.n,Mu.mu s.mu s.pm s.tag s.next]) hi hb (by rw[ht,hg];rfl) rfl ?_).1,by simp[cd],by simp[cd],by simp[cd],by rw[hg];rfl,.inr ⟨s.mu.n,_,⟨O,O,O,fG.n⟩,O,by rw[bB],rfl,Bp h hi (ht.trans hg) O⟩⟩;refine⟨qAW rT,λ_=>bB,?_,?_⟩<;>unfold bR<;>omega
theorem Znq(ok:c.Ok)(hx:eT p f Extern.Sync.semrelease)(sP:vs[0]? = some (.pointer (some ⟨c.M,1,none⟩)))(hg:H.cg=[17]) :
  Zm ((bG p c).prgW i) (callFunc f vs) true nr H (λv H'=>v=Zu/\H'=H.tagc [18]):=by
 refine O7 ok (.inl (by rw[hg];simp[cd,df,one])) λs Hs t w hA=>.inr ?_;have aG:s.tag i=[17]:=(show s.tag i=H.cg from(YC hA (by rw[hg];simp[cd])).1).trans hg;have hI:ZM c s Hs t:=hA.inv;have uL:=UD hA (by rw[aG];simp[cd,df,one]) (by rw[aG];simp[cd,df,one]);have hD:Deaf t i=1:=by rw[VS hA (by rw[aG];simp[cd,df,one]),aG];rfl
 obtain⟨_,_,hc,hz⟩:=JU ok hA;have sR:s.mu.sm<=1:=by
  have:=Zzi (g:=cQ) (λn=>SB _) s.tag s.next;obtain⟨f1,f2,f3,f4,f5,f6⟩:=hI.bI.mu;rcases qAv s.mu.S with h0 | h0
  ·have:=f5 h0;omega
  have:=f6 O;omega
 obtain⟨n1,n2,n3⟩:=Ay (C:=c.toTC) (i:=i) (d:=Deaf t i) (b:=c.M) (off:=1) (.inl rfl);have hr:=ZhB hx sP hc hz;have hk:IntKind.u32.wrap (((s.mu.sm:Nat):Int)+1)=((s.mu.sm+1:Nat):Int):=by simp only[IntKind.wrap,IntKind.bits,IntKind.signed];simp;omega
 rw[hk]at hr;refine⟨Zu,[18],?_,.inl (by simp[cd]),rfl,rfl⟩;refine dW.CT (x':={ s.mu with sm:=s.mu.sm+1 }) ok hA hr (λfn _=>Bq) (.inr ⟨1,_,rfl,rfl⟩) (hI.bI.t5 (l:=[18]) hA.lt uL (by rw[aG];rfl) rfl trivial).1 ⟨n1,n2,?_⟩ (.inl rfl) (YY (by rw[aG];simp[cd,df,one]) (by rw[aG];simp[cd,df,one])) (by rw[aG];simp[cd,df,one]) (by simp[cd]) (λe=>by simp[cd]at e);rw[n3,hD];rfl
end
