import Derived.Test.YthmnpenamnoniaaGreatDoorP09
set_option linter.all false
namespace Go.LL
section
variable{b j:Nat}{u:Trace}
open Go.Conc
open Go.ConcN (sumTo upd sumTo_upd upd_ne upd_same)
def FR{f:Nat->Nat}:∀{n:Nat},(∀i,i<n->f i=0)->sumTo n f=0
 | 0,_=>rfl
 | n+1,h=>by rw[sumTo,FR λi g=>h i O,h n O]
def NF{f:Nat->Nat}:∀{n:Nat},sumTo n f≠0->∃i,i<n/\f i≠0
 | 0,h=>absurd rfl h
 | n+1,h=>by
  by_cases e:f n=0
  ·rw[sumTo,e,qBB]at h;obtain⟨i,o,g⟩:=NF h;exact⟨i,O,g⟩
  exact⟨n,O,e⟩
def NE{f:Nat->Nat}{b:Nat}:∀{n:Nat},b<=n->(∀i,i<n->f i<=1)->(∀i,i<b->f i=0)->sumTo n f<=n-b
 | 0,_,_,_=>qBg _
 | n+1,hb,h,g=>by
  rw[sumTo];by_cases e:b=n+1
  ·rw[FR λi o=>g i O,g n O];omega
  have:=NE (f:=f) (b:=b) (n:=n) O (λi o=>h i O) g;have:=h n O;omega
structure Cx extends TC where
 tM:TypeId
 tW:TypeId
 K:Nat
 need:Nat->Bool
 PI:List Nat->Hp->Prop
structure Ts where
 tag:Nat->List Nat
 next:Nat
 more:Nat
 mu:Mu
 wg:Wg
 log:List Nat
def u1(c:Cx)(x:Mu):Obj:=.cells #[.int .i32 (x.st:Nat),.int .u32 (x.sm:Nat)] c.tM
def Ob(c:Cx)(y:Wg):Obj:=.cells #[.int .u64 ((y.v * 4294967296+y.wt:Nat):Int),.int .u32 (y.wm:Nat)] c.tW
def fI(c:Cx)(s:Ts):Hp:=(Hp.nil.ins c.M (u1 c s.mu)).ins c.W (Ob c s.wg)
def df(c:Nat):Nat:=dS ((2<=c && c<=10) || (14<=c && c<=18) || (21<=c && c<=24) || c == 31 || c == 32 || (34<=c && c<=38))
def VH(n m:Prop)(c:Nat):Prop:=(c=1->¬ m)/\(2<=c->c<=12->n/\¬ m)/\(13<=c->c<=19->m)/\(c=0\/20<=c->n->m)
structure aW(c:Cx)(s:Ts):Prop where
 mu:s.mu.aH s.tag s.next
 wg:s.wg.aH s.tag s.next s.more
 jY:∀j,j<s.next->s.mu.fJ (Mu.mu s.mu s.more s.tag s.next) (s.tag j)
 jX:∀v,(s.tag 0=[35,v]->s.wg.v<=v)/\(s.tag 0=[34,v]->s.wg.v<v)
 kK:∀k n,k<=33->s.tag 0=[k,n]->s.next=c.base+n
 tk:∀j,j<s.next->cd (s.tag j)=12->s.tag j=12 :: s.log
 num:s.next+s.more=c.base+c.K
 pos:1<=c.base
 nb:c.base<=s.next
 olds:∀j,1<=j->j<c.base->s.tag j=[0]
 iS:∀j,c.base<=j->j<s.next->cd (s.tag j)<=24/\(cd (s.tag j)=0->s.tag j=[0])
 lnd:s.log.Nodup
 lmem:∀j∈s.log,c.base<=j/\j<s.next/\c.need j=true
 lwk:∀j,c.base<=j->j<s.next->VH (c.need j=true) (j∈s.log) (cd (s.tag j))
def VX(s:Ts):Prop:=∃j,j<s.next/\(cd (s.tag j)=12\/cd (s.tag j)=40)
def VF(s:Ts)(j:Nat):Prop:=20<=cd (s.tag j)\/cd (s.tag j)=0
def FB(c:Cx)(Hs:Hp)(b:Nat):Prop:=(∃x,Hs b=some x)/\b≠c.M/\b≠c.W
structure Yb(c:Cx)(s:Ts)(Hs:Hp)(t:Trace):Prop where
 cnt:aW c s
 tr:Tr c.toTC s.next (VF s) (FB c Hs) t
 deaf:∀j,c.live s.next j->cd (s.tag j)≠0->Deaf t j=df (cd (s.tag j))
 fin:cd (s.tag 0)=40->(∀q x a,t[q]? = some x->x.act.touch? = some a->a.loc.isMemory=true->Knows t 0 q\/(a.kind=.atomic/\(c.old a.loc\/c.Sh a.loc)))/\t.HandedOver
 heap:(VX s/\Hs=fI c s)\/(¬ VX s/\∃Hl:Hp,Hs=(fI c s).join Hl/\(fI c s).Comp Hl/\c.PI s.log Hl)
structure Cx.Ok(c:Cx):Prop where
 ne:c.M≠c.W
 own:∀l H,c.PI l H->∀b x,H b=some x->x.2=true
 rL:c.K<=100000000
 aN:∀l H g,c.PI l H->c.PI l (H.tagged g)
def Ya(s:Ts)(j:Nat):Prop:=(cd (s.tag j)=7/\s.mu.sm=0)\/(cd (s.tag j)=36/\s.wg.wm=0)
def Ys(g:List Nat):Prop:=(1<=cd g/\cd g<=19)\/30<=cd g
def Yh(g:List Nat):Prop:=20<=cd g/\cd g<=24
def aZ(p:Program)(c:Cx):UG p where
 S:=Ts
 tag:=Ts.tag
 next:=Ts.next
 more:=Ts.more
 Inv:=Yb c
 Blk:=Ya
 act:=Ys
 hsh:=Yh
 left:=[0]
 stl:=λg=>cd g == 0 || (decide (20<=cd g) && decide (cd g<=24))
 stlNil:=rfl
def u2{c:Cx}(h:c.M≠c.W)(s:Ts):fI c s c.M=some (u1 c s.mu,true):=by unfold fI;rw[Hp.aE _ _ h,Hp.aD]
def O0(c:Cx)(s:Ts):fI c s c.W=some (Ob c s.wg,true):=Hp.aD _ _ _
theorem UX{c:Cx}{s:Ts}(f:b≠c.M)(g:b≠c.W):fI c s b=none:=by unfold fI;rw[Hp.aE _ _ g,Hp.aE _ _ f];rfl
section
variable{c:Cx}{s:Ts}{Hs:Hp}{t:Trace}
def Yb.mw(h:Yb c s Hs t){x:Obj×Bool}(hb:fI c s b=some x):Hs b=some x:=by
 rcases h.heap with⟨_,e⟩ | ⟨_,f,e,_⟩
 ·rw[e];exact hb
 rw[e];exact Hp.aJ hb
def Yb.atM(ok:c.Ok)(h:Yb c s Hs t):Hs c.M=some (u1 c s.mu,true):=h.mw (u2 ok.ne s)
def Yb.atW(h:Yb c s Hs t):Hs c.W=some (Ob c s.wg,true):=h.mw (O0 c s)
def MS(h:aW c s)(q:j<s.next)(o:30<=cd (s.tag j)):j=0:=by
 rcases qAN j with f | f
 ·exact f
 rcases qAM j c.base with g | g
 ·rw[h.olds j f g]at o;simp[cd]at o
 have:=(h.iS j g q).1;omega
def aW.next0(h:aW c s):0<s.next:=by have:=h.pos;have:=h.nb;omega
def aW.over(h:aW c s)(r:37<=cd (s.tag 0))(hb:c.base<=j)(f:j<s.next):s.tag j=[0]:=by
 obtain⟨A,B,C,D,o,q⟩:=h.wg;have F:=q r;obtain⟨_,_,J,I⟩:=o O;have K:Ct cW s.tag s.next=0:=O;obtain⟨E,v⟩:=h.iS j hb f;have y:=Ct.le cW s.tag f;have z:=Ct.le cL s.tag f;have a3:=Ct.le cE s.tag f;refine v (IF λg=>?_);have:∀n:Fin 25,n.val≠0->cW n.val+cL n.val+cE n.val=1:=by decide
 have:=this ⟨cd (s.tag j),O⟩ g;simp only at this;omega
theorem W7{old:Loc->Prop}{t:Trace}(v:∀op∈u,op.g=0\/op.act.touch? = none)
  (h:(∀q x a,t[q]? = some x->x.act.touch? = some a->a.loc.isMemory=true->Knows t 0 q\/(a.kind=.atomic/\old a.loc))/\t.HandedOver) :
  (∀q x a,(t++u)[q]? = some x->x.act.touch? = some a->a.loc.isMemory=true->Knows (t++u) 0 q\/(a.kind=.atomic/\old a.loc))/\(t++u).HandedOver:=by
 refine⟨λq x a y r z=>?_,handedOver_app h.2 v⟩;rcases getElem?_append_cases y with⟨_,f⟩ | ⟨_,f⟩
 ·exact(h.1 q x a f r z).imp (·.app u) id
 rcases v x f with o | o
 ·have:=knows_own y;rw[o]at this;exact .inl this
 rw[o]at r;simp at r
def aW.live(h:aW c s)(hb:∀j,j<s.next->s.tag j≠[0]->Ya s j):False:=by
 have C:=h.wg.main;have q:cd (s.tag 0)=36/\s.wg.wm=0:=by
  rcases hb 0 h.next0 (λe=>by rw[e]at C;simp[cd]at C)with⟨o,_⟩ | o
  ·omega
  exact o
 have gO:∀j,j<s.next->cd (s.tag j)=0\/(cd (s.tag j)=7/\s.mu.sm=0)\/cd (s.tag j)=36:=by
  intro j I;by_cases e:s.tag j=[0]
  ·left;rw[e];rfl
  rcases hb j I e with o | o
  ·exact .inr (.inl o)
  exact .inr (.inr o.1)
 have z:∀f:Nat->Nat,f 0=0->f 7=0->f 36=0->Ct f s.tag s.next=0:=by intro f y R F;refine FR λi hi=>?_;rcases gO i hi with e | ⟨e,_⟩ | e<;>rw[e]<;>assumption
 have X:=z YE rfl rfl rfl;have zT:=z cT rfl rfl rfl;have V:=z cA rfl rfl rfl;have zU:=z cU rfl rfl rfl;have Z:=z cR rfl rfl rfl;have Y:=z cL rfl rfl rfl;have W:=z cE rfl rfl rfl;obtain⟨J,K,f3,f4,f5,f6⟩:=h.mu;by_cases D:Ct cQ s.tag s.next=0
 ·have zW:Ct cW s.tag s.next=0:=by
   refine IF λA=>?_;obtain⟨i,hi,g⟩:=NF A;rcases gO i hi with e | ⟨e,_⟩ | e
   ·rw[e]at g;exact g rfl
   ·have:=Ct.le cQ s.tag hi;rw[e,D]at this;exact absurd this (by decide)
   rw[e]at g;exact g rfl
  obtain⟨r,L,M,E,N,Q⟩:=h.wg;rw[q.1]at r;replace r:s.wg.v=Ct cW s.tag s.next+0:=r;have:=E q.1;omega
 obtain⟨i,hi,g⟩:=NF D;have T:s.mu.sm=0:=by
  rcases gO i hi with e | ⟨_,e⟩ | e
  ·rw[e]at g;exact absurd rfl g
  ·exact e
  rw[e]at g;exact absurd rfl g
 rcases qAN s.mu.S with y | y
 ·have:=f5 y;omega
 have:=f6 O;omega
def ZwH{i:Nat}(q:∀op∈u,CH i Hs op)(j:Nat):Deaf (t++u) j=Deaf t j:=by
 by_cases h:j=i
 ·subst h;obtain⟨l⟩:=u;rw[Deaf_append];have r:∀op∈l,CH j Hs op:=λop h=>q op (by simpa using h);clear q;generalize Deaf t j=d;induction l generalizing d with
  | nil=>rfl
  | cons y l ih=>
   rw[qBZ];have:deafStep j d y=d:=by obtain⟨_,v⟩:=r y (by simp);rcases v with⟨loc,z,g,_⟩ | ⟨f,g⟩ | g<;>simp[deafStep,g]
   rw[this];exact ih (λop h=>r op (by simp[h])) d
 exact Deaf_other t (qAm h) u λop o=>(q op o).1
def Zpq{p:Program}(ok:c.Ok):(aZ p c).Sound where
 own:=by
  intro(s:Ts) Hs t h b x q;rcases(show Yb c s Hs t from h).heap with⟨_,e⟩ | ⟨_,K,e,B,J⟩
  ·rw[e]at q;by_cases f:b=c.W
   ·subst f;rw[O0]at q;rw[<-iN q]
   by_cases o:b=c.M
   ·subst o;rw[u2 ok.ne]at q;rw[<-iN q]
   rw[UX o f]at q;simp at q
  rw[e]at q;by_cases f:b=c.W
  ·subst f;rw[Hp.aJ (O0 c s)]at q;rw[<-iN q]
  by_cases o:b=c.M
  ·subst o;rw[Hp.aJ (u2 ok.ne s)]at q;rw[<-iN q]
  simp only[Hp.aQ,UX o f]at q;exact ok.own _ _ J b x q
 oK:=by
  intro(s:Ts) Hs t i u h D y A;have h:Yb c s Hs t:=h;have r:c.live s.next i:=by
   refine⟨D,?_⟩;rcases qAN i with C | C
   ·exact .inl C
   rcases qAM i c.base with f | f
   ·have y:Ys (s.tag i):=y;rw[h.cnt.olds i C f]at y;simp[Ys,cd]at y
   exact .inr f
  refine⟨h.cnt,h.tr.lone r (λC I=>?_) (Hs:=Hs) (by rw[h.atM ok];simp) (by rw[h.atW];simp) (λb hb=>by obtain⟨x,q⟩:=hb.1;rw[q];simp) A,λj E B=>by rw[ZwH A];exact h.deaf j E B,λz=>W7 (old:=λl=>c.old l\/c.Sh l) (λop v=>?_) (h.fin z),h.heap⟩;rotate_left
  ·rcases r.2 with f | f
   ·exact .inl ((A op v).1.trans f)
   exfalso;have y:Ys (s.tag i):=y;rw[h.cnt.over O f D]at y;simp[Ys,cd]at y
  have y:Ys (s.tag i):=y;rcases r.2 with f | f
  ·exact C f
  have:=(h.cnt.iS i f D).1;unfold VF at I;unfold Ys at y;omega
 mute:=by
  intro(s:Ts) Hs t i u h D F A
  have h:Yb c s Hs t:=h
  have F:s.tag i=[0]:=F
  refine⟨h.cnt,h.tr.quietly λop v=>?_,λj E B=>?_,λz=>W7 (old:=λl=>c.old l\/c.Sh l) (λop v=>?_) (h.fin z),h.heap⟩
  rotate_right
  ·obtain⟨_,o⟩:=A op v;rcases o with o | o<;>rw[o]<;>exact .inr rfl
  ·obtain⟨_,o⟩:=A op v;rcases o with o | o<;>rw[o]<;>exact⟨rfl,by simp,by simp⟩
  ·have:i≠j:=by rintro rfl;rw[F]at B;exact B rfl
   rw[Deaf_other t this u λop v=>(A op v).1];exact h.deaf j E B
 live:=by intro(s:Ts) Hs t h hb;exact(show Yb c s Hs t from h).cnt.live hb
 lY:=by simp[aZ,Ys,cd]
 lT:=by simp[aZ,Yh,cd]
 pH:=by intro d;simp[aZ,Ys,cd,lv]
 lF:=by intro g f o;simp only[aZ,Ys,Yh]at f o;omega
 oV:=by intro d;simp[aZ,Yh,cd,lv]
 rK:=by intro d;simp[aZ,cd,lv]
 oF:=by intro g h;simp only[aZ,Yh]at h ⊢;simp[h.1,h.2]
end
end
section
variable{l:List Nat}{es kJ:Array Event}{w':World}{P:Program}{main wk nr:Bool}{fr:Frame}{nx:Value->Frame}{cs:List Frame}{sm:Sem Next}
open Go.Conc
open Go.ConcN (sumTo upd sumTo_upd upd_ne upd_same)
section
variable{p:Program}{c:Cx}{i:Nat}{H:Hp}{s:Ts}{Hs:Hp}{t:Trace}{w:World}
def u4{b:Nat}{y:Obj×Bool}(h:fI c s b=some y):(b=c.M\/b=c.W)/\y.2=true:=by
 by_cases f:b=c.W
 ·subst f;rw[O0]at h;exact⟨.inr rfl,by rw[<-iN h]⟩
 by_cases g:b=c.M
 ·refine⟨.inl g,?_⟩;unfold fI at h;rw[Hp.aE _ _ f,g,Hp.aD]at h;rw[<-iN h]
 rw[UX g f]at h;simp at h
def NZ(ok:c.Ok){f:Hp}(g:(fI c s).Comp f):f c.M=none/\f c.W=none:=⟨g.hZ (u2 ok.ne s),g.hZ (O0 c s)⟩
def BO{j:Nat}{fn:FuncId}{pos:String}(h:∀j,c.live s.next j->cd (s.tag j)≠0->Deaf t j=df (cd (s.tag j)))(g:cd l≠0->deafBehind (Deaf t i) es=df (cd l))(q:c.live s.next j)(f:cd (upd s.tag i l j)≠0) :
  Deaf (t++MemOp.ofEvents i fn pos es) j=df (cd (upd s.tag i l j)):=by
 by_cases e:j=i
 ·subst e;rw[upd_same]at f ⊢;rw[Deaf_own];exact g f
 rw[upd_ne _ _ e]at f ⊢;rw[Deaf_other t (qAm e) _ λop o=>by obtain⟨e,_,rfl⟩:=Go.Conc.mem_ofEvents o;rfl];exact h j q f
def B0(h:bZ (aZ p c) i H s Hs t w)(o:s.tag i≠[0]):c.live s.next i:=by
 refine⟨h.lt,?_⟩;rcases qAN i with f | f
 ·exact .inl f
 rcases qAM i c.base with g | g
 ·exact absurd ((show Yb c s Hs t from h.inv).cnt.olds i f g) o
 exact .inr g
def ZwJ(ok:c.Ok)(K:bZ (aZ p c) i H s Hs t w)(hi:c.live s.next i){x':Mu}{y':Wg}
  (iD:aW c { s with mu:=x',wg:=y',tag:=upd s.tag i l }) (C4:rH c.toTC i (Deaf t i) es) (qV:∀e∈es,∀B,c.M<B->c.W<B->(MemAct.ofEvent e).low B)
  (Q:cd l≠0->deafBehind (Deaf t i) es=df (cd l)) (rU:cd (s.tag i)≠12/\cd (s.tag i)≠40) (aAu:cd l≠12/\cd l≠40) (U:cd (s.tag i)≠0) (R:20<=cd l\/cd l=0->VF s i)
  (hM:w'.heap[c.M]? = some (u1 c x')) (hW:w'.heap[c.W]? = some (Ob c y')) (J:∀b,b≠c.M->b≠c.W->w'.heap[b]? = w.heap[b]?) (tY:w'.heap.size=w.heap.size) (I4:nZ w w') :
  ∃f,∀fn pos,dT (aZ p c) i s Hs t w H (MemOp.ofEvents i fn pos es) { s with mu:=x',wg:=y',tag:=upd s.tag i l } f w'/\VI i Hs w H (t++MemOp.ofEvents i fn pos es) f w' (H.tagged l):=by
 have L:Yb c s Hs t:=K.inv;have X:=L.atM ok;have Y:=L.atW;let C:Ts:={ s with mu:=x',wg:=y',tag:=upd s.tag i l }
 have nE:VX C↔VX s:=by
  constructor
  ·rintro⟨j,I,F⟩;by_cases e:j=i
   ·subst e;simp only[C,upd_same]at F;omega
   simp only[C,upd_ne _ _ e]at F;exact⟨j,I,F⟩
  rintro⟨j,I,F⟩;by_cases e:j=i
  ·subst e;omega
  exact⟨j,I,by simp only[C,upd_ne _ _ e];exact F⟩
 have rY:H c.M=none:=by
  cases hh:H c.M with
  | none=>rfl
  | some y=>have:=K.dis c.M _ _ hh X;rw[this.1]at this;simp at this
 have rX:H c.W=none:=by
  cases hh:H c.W with
  | none=>rfl
  | some y=>have:=K.dis c.W _ _ hh Y;rw[this.1]at this;simp at this
 have T:∃f:Hp,((VX C/\f=fI c C)\/(¬ VX C/\∃V:Hp,f=(fI c C).join V/\(fI c C).Comp V/\c.PI C.log V))/\(∀b,b≠c.M->b≠c.W->f b=Hs b)/\f c.M=some (u1 c x',true)/\f c.W=some (Ob c y',true):=by
  rcases L.heap with⟨I,F⟩ | ⟨I,V,F,Z,h4⟩
  ·refine⟨fI c C,.inl ⟨nE.2 I,rfl⟩,λb v A=>?_,u2 ok.ne C,O0 c C⟩;rw[F,UX v A,UX v A]
  obtain⟨p1,p2⟩:=NZ ok Z;refine⟨(fI c C).join V,.inr ⟨λh=>I (nE.1 h),V,rfl,⟨λb y z hy U=>?_,by left;rfl⟩,h4⟩,λb v A=>?_,Hp.aJ (u2 ok.ne C),Hp.aJ (O0 c C)⟩
  ·rcases(u4 hy).1 with rfl | rfl
   ·rw[p1]at U;simp at U
   rw[p2]at U;simp at U
  rw[F];simp only[Hp.aQ,UX v A]
 obtain⟨f,S,r,sM,sW⟩:=T;have wC:c.M<w.heap.size/\c.W<w.heap.size:=⟨K.leS.lt X,K.leS.lt Y⟩;have z5:f.le w':=by
  intro b o pm hb;by_cases v:b=c.M
  ·subst v;rw[sM]at hb;rw[hM];simp only[aT,qAL]at hb;rw[hb.1]
  by_cases A:b=c.W
  ·subst A;rw[sW]at hb;rw[hW];simp only[aT,qAL]at hb;rw[hb.1]
  rw[r b v A]at hb;rw[J b v A];exact K.leS b o pm hb
 have nV:(H.tagged l).le w':=by
  intro b o pm hb;have v:b≠c.M:=by rintro rfl;rw[Hp.cD,rY]at hb;simp at hb
  have A:b≠c.W:=by rintro rfl;rw[Hp.cD,rX]at hb;simp at hb
  rw[J b v A];exact K.le b o pm hb
 have oY:(H.tagged l).Dis f:=by
  intro b x y D hy;have v:b≠c.M:=by rintro rfl;rw[Hp.cD,rY]at D;simp at D
  have A:b≠c.W:=by rintro rfl;rw[Hp.cD,rX]at D;simp at D
  rw[r b v A]at hy;exact K.dis b x y D hy
 have hsh:∀{op:MemOp} {fn pos},op∈MemOp.ofEvents i fn pos es->∀a,op.act.touch? = some a->a.loc.isMemory=true->c.toTC.Sh a.loc/\a.kind≠.plain/\(a.kind=.said->i=0):=by intro op fn pos g a ha hm;obtain⟨e,he,rfl⟩:=Go.Conc.mem_ofEvents g;obtain⟨k,hk,hke⟩:=qCf.1 he;obtain⟨I,F,Z,_⟩:=(C4 k e (by rw[qAO hk,hke])).2 a ha hm;exact⟨I,F,Z⟩
 refine⟨f,λfn pos=>⟨⟨by rw[tY];exact AT _,?_,z5,?_,I4,?_,?_,?_,?_⟩,nV,oY,?_,?_⟩⟩
 ·intro b _ _ hn;exact J b (by rintro rfl;exact hn _ X) (by rintro rfl;exact hn _ Y)
 ·intro b x D;refine .inr ?_;by_cases v:b=c.M
  ·subst v;exact⟨_,.inr X,λh=>by simp at h⟩
  by_cases A:b=c.W
  ·subst A;exact⟨_,.inr Y,λh=>by simp at h⟩
  rw[r b v A]at D;exact⟨x,.inr D,λ_=>rfl⟩
 ·intro op g x D b hb;obtain⟨⟨b',gN,h⟩,_⟩:=hsh g x D (T5 hb);rw[hb]at gN;obtain rfl:=iN gN;refine .inl ?_;rcases h with rfl | rfl
  ·exact⟨_,true,.inr X,λ_=>rfl⟩
  exact⟨_,true,.inr Y,λ_=>rfl⟩
 ·intro said q a ha op g b hb hc;have hmb:b.loc.isMemory=true:=by rw[<-hc.1];exact hc.2.1
  obtain⟨I,F,Z⟩:=hsh g b hb hmb;exact L.tr.known hi I F Z ha hc
 ·intro op g;obtain⟨e,he,rfl⟩:=Go.Conc.mem_ofEvents g;rw[tY];exact qV e he _ wC.1 wC.2
 ·refine⟨iD,?_,λj N rW=>BO L.deaf Q N rW,λpQ=>?_,S⟩;rotate_left
  ·exfalso;rcases hi.2 with h0 | h0
   ·subst h0;simp only[upd_same]at pQ;omega
   have:i≠0:=by have:=L.cnt.pos;omega
   simp only[upd_ne _ _ (qAm this)]at pQ;rw[L.cnt.over O h0 hi.1]at U;exact U rfl
  refine(L.tr.evs hi (λb hb=>hb.2) C4).sub (λj N=>?_) (λb hb=>?_)
  ·unfold VF at N;simp only at N;by_cases e:j=i
   ·subst e;rw[upd_same]at N;exact R N
   rw[upd_ne _ _ e]at N;exact N
  obtain⟨⟨x,D⟩,v,A⟩:=hb;rw[r b v A]at D;exact⟨⟨x,D⟩,v,A⟩
 ·exact λb x D=>.inr ⟨x,.inl D,λ_=>rfl⟩
 have:dG (t++MemOp.ofEvents i fn pos es) i H:=K.perm.own λop g=>.inl (by obtain⟨e,_,rfl⟩:=Go.Conc.mem_ofEvents g;rfl);exact this
def vL(f:wN P fr nx sm wk nr){v:Value}{w:World}(g:sm.runT P w #[]=(.ok (.value v) w',kJ)) :
  stepG P main (bO fr cs) w=.go (bO (nx v) cs) w' (seen P fr.fn kJ):=f.val _ _ _ _ _ _ g
def ND(g:wN P fr nx sm wk nr){w:World}(f:sm.runT P w #[]=(.halt .blocked w,kJ)) :
  stepG P main (bO fr cs) w=.go (dY fr cs) w #[]:=by
 rcases g.halt with h | h
 ·obtain⟨v,w',es,e⟩:=h w;rw[f]at e;simp at e
 exact h _ _ _ _ f
end
end
section
open Go.ConcN (sumTo upd sumTo_upd upd_ne upd_same)
def Mu.tT{G:Prop} (h:G:=by
  obtain⟨f1,f2,f3,f4,f5,f6⟩:=F;have e0:=counts (tag:=tag) (l:=l) hi YE;have e1:=counts (tag:=tag) (l:=l) hi cT;have e2:=counts (tag:=tag) (l:=l) hi cQ;have e3:=counts (tag:=tag) (l:=l) hi cA;have e4:=counts (tag:=tag) (l:=l) hi cU;have e5:=counts (tag:=tag) (l:=l) hi cR;have e6:=counts (tag:=tag) (l:=l) hi fU;have g1:=Ct.le YE tag hi;have g2:=Ct.le cT tag hi;have g3:=Ct.le cQ tag hi;have g4:=Ct.le cA tag hi;have g5:=Ct.le cU tag hi;have g6:=Ct.le cR tag hi;simp[hc,hl,YE,cT,cQ,cA,cU,cR,fU,dS]at e0 e1 e2 e3 e4 e5 e6 g1 g2 g3 g4 g5 g6;try unfold Mu.st at h
  refine⟨⟨?_,?_,?_,?_,?_,?_⟩,?_⟩<;>(try unfold Mu.mu)<;>(try dsimp only)<;>omega):G:=h
section
variable{x:Mu}{tag:Nat->List Nat}{k i more:Nat}{l:List Nat}
def Mu.uI(F:x.aH tag k)(hi:i<k)(hc:cd (tag i)=2)(hl:cd l=10)(h:x.st=0):Mu.aH { x with L:=1 } (upd tag i l) k/\Mu.mu { x with L:=1 } more (upd tag i l) k+6=x.mu more tag k+3:=Mu.tT
def Mu.qH(F:x.aH tag k)(hi:i<k)(hc:cd (tag i)=4)(hl:cd l=5)(h:x.W=0)(f:x.S=0):Mu.aH { x with W:=1 } (upd tag i l) k/\Mu.mu { x with W:=1 } more (upd tag i l) k+6=x.mu more tag k+5:=Mu.tT
def Mu.oE(F:x.aH tag k)(hi:i<k)(hc:cd (tag i)=4)(hl:cd l=10)(h:x.L=0)(f:x.S=0):Mu.aH { x with L:=1 } (upd tag i l) k/\Mu.mu { x with L:=1 } more (upd tag i l) k+6=x.mu more tag k+3:=Mu.tT
def Mu.oD(F:x.aH tag k)(hi:i<k)(hc:cd (tag i)=6)(hl:cd l=10)(h:x.L=0)(f:x.S=0):Mu.aH { x with L:=1,W:=0 } (upd tag i l) k/\Mu.mu { x with L:=1,W:=0 } more (upd tag i l) k+5=x.mu more tag k+3:=Mu.tT
def Mu.jK(F:x.aH tag k)(hi:i<k)(hc:cd (tag i)=4)(hl:cd l=7)(h:x.L=1\/x.S=1):Mu.aH { x with n:=x.n+1 } (upd tag i l) k/\Mu.mu { x with n:=x.n+1 } more (upd tag i l) k+6=x.mu more tag k+4:=Mu.tT
def Mu.jJ(F:x.aH tag k)(hi:i<k)(hc:cd (tag i)=6)(hl:cd l=7)(h:x.L=1):Mu.aH { x with n:=x.n+1,W:=0 } (upd tag i l) k/\Mu.mu { x with n:=x.n+1,W:=0 } more (upd tag i l) k+5=x.mu more tag k+4:=Mu.tT
def Mu.g9(F:x.aH tag k)(hi:i<k)(hc:cd (tag i)=6)(hl:cd l=7)(h:x.L=1):Mu.aH { x with n:=x.n+1,W:=0,S:=1 } (upd tag i l) k/\Mu.mu { x with n:=x.n+1,W:=0,S:=1 } more (upd tag i l) k+5=x.mu more tag k+4:=Mu.tT
def Mu.jF(F:x.aH tag k)(hi:i<k)(hc:cd (tag i)=7)(hl:cd l=8)(h:0<x.sm):Mu.aH { x with sm:=x.sm-1 } (upd tag i l) k/\Mu.mu { x with sm:=x.sm-1 } more (upd tag i l) k+5=x.mu more tag k+5:=Mu.tT
def Mu.lK(F:x.aH tag k)(hi:i<k)(hc:cd (tag i)=8)(hl:cd l=6)(h:x.S=0):Mu.aH x (upd tag i l) k/\Mu.mu x more (upd tag i l) k+5=x.mu more tag k+5:=Mu.tT
def Mu.n9(F:x.aH tag k)(hi:i<k)(hc:cd (tag i)=8)(hl:cd l=9)(h:x.S=1):Mu.aH x (upd tag i l) k/\Mu.mu x more (upd tag i l) k+5=x.mu more tag k+5:=Mu.tT
def Mu.hand(F:x.aH tag k)(hi:i<k)(hc:cd (tag i)=9)(hl:cd l=10)(h:x.S=1)(f:2<=x.n):Mu.aH { x with L:=1,n:=x.n-1 } (upd tag i l) k/\Mu.mu { x with L:=1,n:=x.n-1 } more (upd tag i l) k+5=x.mu more tag k+3:=Mu.tT
def Mu.oZ(F:x.aH tag k)(hi:i<k)(hc:cd (tag i)=9)(hl:cd l=10)(h:x.S=1):Mu.aH { x with L:=1,n:=x.n-1,S:=0 } (upd tag i l) k/\Mu.mu { x with L:=1,n:=x.n-1,S:=0 } more (upd tag i l) k+5=x.mu more tag k+3:=Mu.tT
def Mu.jD(F:x.aH tag k)(hi:i<k)(hc:cd (tag i)=14)(hl:cd l=18)(h:x.S=0)(f:x.n=0\/x.W=1):Mu.aH { x with L:=0 } (upd tag i l) k/\Mu.mu { x with L:=0 } more (upd tag i l) k+3=x.mu more tag k+0:=Mu.tT
def Mu.gY(F:x.aH tag k)(hi:i<k)(hc:cd (tag i)=14)(hl:cd l=15)(h:x.S=0):Mu.aH { x with L:=0 } (upd tag i l) k/\Mu.mu { x with L:=0 } more (upd tag i l) k+3=x.mu more tag k+2:=Mu.tT
def Mu.jC(F:x.aH tag k)(hi:i<k)(hc:cd (tag i)=14)(hl:cd l=17)(h:x.S=1):Mu.aH { x with L:=0 } (upd tag i l) k/\Mu.mu { x with L:=0 } more (upd tag i l) k+3=x.mu more tag k+1:=Mu.tT
def Mu.o0(F:x.aH tag k)(hi:i<k)(hc:cd (tag i)=15)(hl:cd l=17)(h:x.L=0)(f:x.W=0)(g:x.S=0)(o:0<x.n):Mu.aH { x with n:=x.n-1,W:=1 } (upd tag i l) k/\Mu.mu { x with n:=x.n-1,W:=1 } more (upd tag i l) k+2=x.mu more tag k+1:=Mu.tT
def Mu.kT(F:x.aH tag k)(hi:i<k)(hc:cd (tag i)=17)(hl:cd l=18) :Mu.aH { x with sm:=x.sm+1 } (upd tag i l) k/\Mu.mu { x with sm:=x.sm+1 } more (upd tag i l) k+1=x.mu more tag k+1:=Mu.tT
def Mu.kY(F:x.aH tag k)(hi:i<k)(hc:cd (tag i)=16)(hl:cd l=18)(h:x.L=1\/x.W=1\/x.S=1\/x.n=0):Mu.aH x (upd tag i l) k/\Mu.mu x more (upd tag i l) k+2=x.mu more tag k+0:=Mu.tT
def Mu.jH(F:x.aH tag k)(hi:i<k)(hc:cd (tag i)=1)(hl:cd l=2) :Mu.aH x (upd tag i l) k/\Mu.mu x more (upd tag i l) k+6=x.mu more tag k+6:=Mu.tT
def Mu.jG(F:x.aH tag k)(hi:i<k)(hc:cd (tag i)=2)(hl:cd l=3) :Mu.aH x (upd tag i l) k/\Mu.mu x more (upd tag i l) k+6=x.mu more tag k+6:=Mu.tT
def Mu.same3_4(F:x.aH tag k)(hi:i<k)(hc:cd (tag i)=3)(hl:cd l=4) :Mu.aH x (upd tag i l) k/\Mu.mu x more (upd tag i l) k+6=x.mu more tag k+6:=Mu.tT
def Mu.g0(F:x.aH tag k)(hi:i<k)(hc:cd (tag i)=4)(hl:cd l=3) :Mu.aH x (upd tag i l) k/\Mu.mu x more (upd tag i l) k+6=x.mu more tag k+6:=Mu.tT
def Mu.same5_6(F:x.aH tag k)(hi:i<k)(hc:cd (tag i)=5)(hl:cd l=6) :Mu.aH x (upd tag i l) k/\Mu.mu x more (upd tag i l) k+5=x.mu more tag k+5:=Mu.tT
def Mu.gZ(F:x.aH tag k)(hi:i<k)(hc:cd (tag i)=6)(hl:cd l=5) :Mu.aH x (upd tag i l) k/\Mu.mu x more (upd tag i l) k+5=x.mu more tag k+5:=Mu.tT
def Mu.gI(F:x.aH tag k)(hi:i<k)(hc:cd (tag i)=10)(hl:cd l=11) :Mu.aH x (upd tag i l) k/\Mu.mu x more (upd tag i l) k+3=x.mu more tag k+3:=Mu.tT
def Mu.mZ(F:x.aH tag k)(hi:i<k)(hc:cd (tag i)=11)(hl:cd l=12) :Mu.aH x (upd tag i l) k/\Mu.mu x more (upd tag i l) k+3=x.mu more tag k+3:=Mu.tT
def Mu.mY(F:x.aH tag k)(hi:i<k)(hc:cd (tag i)=12)(hl:cd l=13) :Mu.aH x (upd tag i l) k/\Mu.mu x more (upd tag i l) k+3=x.mu more tag k+3:=Mu.tT
def Mu.gH(F:x.aH tag k)(hi:i<k)(hc:cd (tag i)=13)(hl:cd l=14) :Mu.aH x (upd tag i l) k/\Mu.mu x more (upd tag i l) k+3=x.mu more tag k+3:=Mu.tT
def Mu.gG(F:x.aH tag k)(hi:i<k)(hc:cd (tag i)=15)(hl:cd l=16) :Mu.aH x (upd tag i l) k/\Mu.mu x more (upd tag i l) k+2=x.mu more tag k+2:=Mu.tT
def Mu.gF(F:x.aH tag k)(hi:i<k)(hc:cd (tag i)=16)(hl:cd l=15) :Mu.aH x (upd tag i l) k/\Mu.mu x more (upd tag i l) k+2=x.mu more tag k+2:=Mu.tT
def Mu.gE(F:x.aH tag k)(hi:i<k)(hc:cd (tag i)=18)(hl:cd l=19) :Mu.aH x (upd tag i l) k/\Mu.mu x more (upd tag i l) k+0=x.mu more tag k+0:=Mu.tT
def Mu.hV(F:x.aH tag k)(hi:i<k)(hc:cd (tag i)=1)(hl:cd l=20) :Mu.aH x (upd tag i l) k/\Mu.mu x more (upd tag i l) k+6=x.mu more tag k+0:=Mu.tT
def Mu.gD(F:x.aH tag k)(hi:i<k)(hc:cd (tag i)=19)(hl:cd l=20) :Mu.aH x (upd tag i l) k/\Mu.mu x more (upd tag i l) k+0=x.mu more tag k+0:=Mu.tT
def Mu.gC(F:x.aH tag k)(hi:i<k)(hc:cd (tag i)=20)(hl:cd l=21) :Mu.aH x (upd tag i l) k/\Mu.mu x more (upd tag i l) k+0=x.mu more tag k+0:=Mu.tT
def Mu.mX(F:x.aH tag k)(hi:i<k)(hc:cd (tag i)=21)(hl:cd l=22) :Mu.aH x (upd tag i l) k/\Mu.mu x more (upd tag i l) k+0=x.mu more tag k+0:=Mu.tT
def Mu.gB(F:x.aH tag k)(hi:i<k)(hc:cd (tag i)=22)(hl:cd l=23) :Mu.aH x (upd tag i l) k/\Mu.mu x more (upd tag i l) k+0=x.mu more tag k+0:=Mu.tT
def Mu.mW(F:x.aH tag k)(hi:i<k)(hc:cd (tag i)=23)(hl:cd l=24) :Mu.aH x (upd tag i l) k/\Mu.mu x more (upd tag i l) k+0=x.mu more tag k+0:=Mu.tT
def Mu.oO(F:x.aH tag k)(hi:i<k)(hc:cd (tag i)=21)(hl:cd l=0) :Mu.aH x (upd tag i l) k/\Mu.mu x more (upd tag i l) k+0=x.mu more tag k+0:=Mu.tT
def Mu.oN(F:x.aH tag k)(hi:i<k)(hc:cd (tag i)=24)(hl:cd l=0) :Mu.aH x (upd tag i l) k/\Mu.mu x more (upd tag i l) k+0=x.mu more tag k+0:=Mu.tT
end
end
section
variable{n m:Prop}{a b d e k:Nat}{tag:Nat->List Nat}
open Go.Conc
open Go.ConcN (sumTo upd sumTo_upd upd_ne upd_same)
def VH.low(h:VH n m a)(f:2<=a)(g:a<=12)(o:2<=b)(q:b<=12):VH n m b:=⟨λe=>O,λ_ _=>h.2.1 f g,λe _=>O,λe=>O⟩
def VH.Wy(h:VH n m a)(f:13<=a)(g:a<=19)(o:13<=b)(q:b<=19):VH n m b:=⟨λe=>O,λ_ e=>O,λ_ _=>h.2.2.1 f g,λe=>O⟩
def VH.up(h:VH n m 19):VH n m 20:=⟨λe=>O,λ_ e=>O,λ_ e=>O,λ_ _=>h.2.2.1 O O⟩
def VH.hi(h:VH n m a)(f:a=0\/20<=a)(o:b=0\/20<=b):VH n m b:=⟨λe=>O,λe g=>O,λe g=>O,λ_=>h.2.2.2 f⟩
def VH.start(h:VH n m 1)(f:n):VH n m 2:=⟨λe=>O,λ_ _=>⟨f,h.1 rfl⟩,λe _=>O,λe=>O⟩
def VH.skip(h:VH n m 1)(g:¬ n):VH n m 20:=⟨λe=>O,λe f=>O,λe f=>O,λ_ e=>absurd e g⟩
def O6(h:a+d=b+e)(f:e<=d):a<=b:=O
def ZtX(h:a+d=b+e)(f:e<d):a≠b:=O
section
variable{c:Cx}{s:Ts}{i:Nat}{l:List Nat}
def Mu.fJ.keep{x o:Mu}{m f:Nat}{l:List Nat}(h:x.fJ m l)(g:f<=m)(r:f=m->o.st=x.st)(A:cd l=9->x.S=1->o.S=1/\x.n<=o.n):o.fJ f l:=by
 have key:∀v k,(m<=k/\(m=k->x.st=v))->(f<=k/\(f=k->o.st=v)):=by rintro v k ⟨y,q⟩;refine⟨O,λe=>?_⟩;have:f=m:=O;rw[r this];exact q O
 unfold Mu.fJ at h ⊢;split
 ·exact key _ _ h
 ·exact key _ _ h
 ·exact⟨(key _ _ ⟨h.1,h.2.1⟩).1,(key _ _ ⟨h.1,h.2.1⟩).2,h.2.2⟩
 ·obtain⟨y,q,B⟩:=h;obtain⟨z,C⟩:=A rfl y;exact⟨z,q,O⟩
 ·exact qBn g h
 ·exact qBn g h
 ·exact qBn g h
 ·exact qBn g h
 ·exact qBn g h
 ·exact h
 ·exact h
 ·exact h
 ·exact h
 trivial
def Mu.fH{x:Mu}{m:Nat}{l:List Nat}(h:30<=cd l):x.fJ m l:=by unfold Mu.fJ;split<;>first | (simp[cd]at h;done) | trivial
def Mu.aH.main{x:Mu}{more:Nat}{l:List Nat}(F:x.aH tag k)(S:0<k)(R:30<=cd (tag 0))(T:30<=cd l):Mu.aH x (upd tag 0 l) k/\Mu.mu x more (upd tag 0 l) k=x.mu more tag k:=by
 have z:∀n,30<=n->YE n=0/\cT n=0/\cQ n=0/\cA n=0/\cU n=0/\cR n=0/\fU n=0:=by
  intro n W;refine⟨?_,?_,?_,?_,?_,?_,?_⟩
  ·simp[YE,dS];omega
  ·simp[cT,dS];omega
  ·simp[cQ,dS];omega
  ·simp[cA,dS];omega
  ·simp[cU,dS];omega
  ·simp[cR,dS];omega
  simp only[fU];have K:(1<=n && n<=4)=false:=by simp;omega
  have L:(n == 5 || n == 6 || n == 8 || n == 9)=false:=by simp;omega
  have M:(n == 7)=false:=by simp;omega
  have N:(10<=n && n<=14)=false:=by simp;omega
  have O:(n == 15 || n == 16)=false:=by simp;omega
  have Q:(n == 17)=false:=by simp;omega
  simp[K,L,M,N,O,Q]
 obtain⟨B,g,a3,h,C,o,D⟩:=z _ R;obtain⟨E,r,v,y,I,A,J⟩:=z _ T;have q:∀f:Nat->Nat,f (cd (tag 0))=0->f (cd l)=0->Ct f (upd tag 0 l) k=Ct f tag k:=by intro f U V;have:=counts (tag:=tag) (l:=l) S f;omega
 refine⟨⟨?_,F.L2,F.W1,F.S1,?_,?_⟩,?_⟩
 ·rw[q _ B E];exact F.L1
 ·rw[q _ a3 v,q _ o A,q _ g r,q _ h y,q _ C I];exact F.norm
 ·rw[q _ a3 v,q _ o A,q _ g r,q _ h y];exact F.starv
 unfold Mu.mu;rw[q _ D J]
def Mu.aH.zH{x:Mu}{i j:Nat}(F:x.aH tag k)(hi:i<k)(r:j<k)(f:j≠i)(o:cd (tag j)=9)(q:x.S=1) :
  x.L=0/\x.W=0/\x.sm=0/\YE (cd (tag i))=0/\cR (cd (tag i))=0/\cA (cd (tag i))=0:=by
 have h:=F.starv q;have y:cA (cd (tag j))+cA (cd (tag i))<=Ct cA tag k:=by have v:=counts (tag:=tag) (l:=[0]) hi cA;have g:=Ct.le cA (upd tag i [0]) r;rw[upd_ne _ _ f]at g;have:cA (cd [0])=0:=rfl;omega
 have A:=Ct.le cR tag hi;have z:=Ct.le YE tag hi;have:cA (cd (tag j))=1:=by rw[o];rfl
 have:=F.L1;omega
def aW.step(h:aW c s)(hi:i<s.next)(E:i=0\/c.base<=i){g:Mu}(A:Wg)(I:Mu.aH g (upd s.tag i l) s.next)(F:Mu.mu g s.more (upd s.tag i l) s.next<=Mu.mu s.mu s.more s.tag s.next)
  (J:Mu.mu g s.more (upd s.tag i l) s.next=Mu.mu s.mu s.more s.tag s.next->g.st=s.mu.st) (N:∀j,j<s.next->j≠i->cd (s.tag j)=9->s.mu.S=1->g.S=1/\s.mu.n<=g.n)
  (L:Wg.aH A (upd s.tag i l) s.next s.more) (q:g.fJ (Mu.mu g s.more (upd s.tag i l) s.next) l) (f:(i=0->∀v,(l=[35,v]->A.v<=v)/\(l=[34,v]->A.v<v))/\(i=0->∀k n,k<=33->l=[k,n]->s.next=c.base+n)/\(i≠0->A.v<=s.wg.v))
  (D:cd l=12->l=12 :: s.log) (Q:i≠0->c.base<=i->cd l<=24/\(cd l=0->l=[0])) (z:i≠0->VH (c.need i=true) (i∈s.log) (cd (s.tag i))->VH (c.need i=true) (i∈s.log) (cd l)) :
  aW c { s with mu:=g,wg:=A,tag:=upd s.tag i l }:=by
 refine⟨I,L,λj B=>?_,λv=>?_,λk n M C=>?_,λj B y=>?_,h.num,h.pos,h.nb,λj o r=>?_,λj o r=>?_,h.lnd,h.lmem,λj o r=>?_⟩
 ·by_cases e:j=i
  ·subst e;simp only[upd_same];exact q
  simp only[upd_ne _ _ e];exact(h.jY j B).keep F J λy O=>N j B e y O
 ·by_cases e:i=0
  ·subst e;simp only[upd_same];exact f.1 rfl v
  simp only[upd_ne _ _ (qAm e)];exact⟨λK=>qAE (f.2.2 e) ((h.jX v).1 K),λK=>qBn (f.2.2 e) ((h.jX v).2 K)⟩
 ·by_cases e:i=0
  ·subst e;simp only[upd_same]at C;exact f.2.1 rfl k n M C
  simp only[upd_ne _ _ (qAm e)]at C;exact h.kK k n M C
 ·by_cases e:j=i
  ·subst e;simp only[upd_same]at y ⊢;exact D y
  simp only[upd_ne _ _ e]at y ⊢;exact h.tk j B y
 ·have:j≠i:=by rintro rfl;omega
  simp only[upd_ne _ _ this];exact h.olds j o r
 ·by_cases e:j=i
  ·subst e;simp only[upd_same];exact Q (by have:=h.pos;omega) o
  simp only[upd_ne _ _ e];exact h.iS j o r
 by_cases e:j=i
 ·subst e;simp only[upd_same];exact z (by have:=h.pos;omega) (h.lwk j o r)
 simp only[upd_ne _ _ e];exact h.lwk j o r
end
end
variable{G:Prop}
open Go.ConcN (sumTo upd sumTo_upd upd_ne upd_same)
abbrev CS(c:Cx)(s:Ts)(i:Nat)(l:List Nat)(x:Mu)(a b:Nat):Prop:=Mu.fJ x (Mu.mu x s.more (upd s.tag i l) s.next) l->aW c { s with mu:=x,tag:=upd s.tag i l }/\Mu.mu x s.more (upd s.tag i l) s.next+a=Mu.mu s.mu s.more s.tag s.next+b
def aW.tW(h:G:=by
  intro hy;have eH:i≠0:=by have:=h.pos;omega
  obtain⟨h1,h2⟩:=q;refine⟨h.step hi (.inr hb) s.wg h1 (O6 h2 (by decide)) ?_ ?_ (w h.wg hi eH hc hl) hy ⟨λe=>absurd e eH,λe=>absurd e eH,λ_=>AT _⟩ (λe=>O) (λ_ _=>⟨O,λe=>O⟩) λ_ kO=>?_,h2⟩
  ·first | exact λ_=>rfl | exact λe=>absurd e (ZtX h2 (by decide))
  ·intro j hj CZ h9 hS;have:=h.mu.zH hi hj CZ h9 hS;rw[hc]at this;first
   | exact⟨by first | exact hS | rfl,by first | exact AT _ | exact Nat.le_succ _⟩
   | (exfalso;first | omega | (unfold Mu.st at kh;omega) | (simp[YE,cT,cQ,cA,cU,cR,dS]at this<;>omega))
  rw[hc]at kO;rw[hl];first | exact kO.start kG | exact kO.low O O O O | exact kO.skip kG | exact kO.up | exact kO.Wy O O O O | exact kO.hi O O):G:=h
def aW.tM(h:G:=by
  obtain⟨h1,h2⟩:=h.mu.main (more:=s.more) (l:=l) h.next0 O O;refine h.step h.next0 (.inl rfl) _ h1 (qCH h2) (λ_=>rfl) (λj hj CZ h9 hS=>⟨hS,AT _⟩) w (Mu.fH O) ⟨λ_ v=>⟨λe=>?_,λe=>?_⟩,λ_ k n hk e=>?_,λe=>absurd rfl e⟩ (λe=>O) (λe=>absurd rfl e) λe=>absurd rfl e
  ·first | exact hv v e | (rw[e]at hl;simp[cd]at hl)
  ·first | exact hv v e | (rw[e]at hl;simp[cd]at hl)
  first | exact hn k n e | (rw[e]at hl;simp[cd]at hl;omega)):G:=h
section
variable{c:Cx}{s:Ts}{i:Nat}{l:List Nat}
def aW.uI(h:aW c s)(hi:i<s.next)(hb:c.base<=i)(hc:cd (s.tag i)=2)(hl:cd l=10)(kh:s.mu.st=0) :CS c s i l { s.mu with L:=1 } 6 3:=by have q:=Mu.uI (more:=s.more) (l:=l) h.mu hi hc hl kh;have w:=@Wg.oI;exact aW.tW
def aW.qH(h:aW c s)(hi:i<s.next)(hb:c.base<=i)(hc:cd (s.tag i)=4)(hl:cd l=5)(kh:s.mu.W=0)(f:s.mu.S=0) :CS c s i l { s.mu with W:=1 } 6 5:=by have q:=Mu.qH (more:=s.more) (l:=l) h.mu hi hc hl kh f;have w:=@Wg.qB;exact aW.tW
def aW.oE(h:aW c s)(hi:i<s.next)(hb:c.base<=i)(hc:cd (s.tag i)=4)(hl:cd l=10)(kh:s.mu.L=0)(f:s.mu.S=0) :CS c s i l { s.mu with L:=1 } 6 3:=by have q:=Mu.oE (more:=s.more) (l:=l) h.mu hi hc hl kh f;have w:=@Wg.oH;exact aW.tW
def aW.oD(h:aW c s)(hi:i<s.next)(hb:c.base<=i)(hc:cd (s.tag i)=6)(hl:cd l=10)(kh:s.mu.L=0)(f:s.mu.S=0) :CS c s i l { s.mu with L:=1,W:=0 } 5 3:=by have q:=Mu.oD (more:=s.more) (l:=l) h.mu hi hc hl kh f;have w:=@Wg.oG;exact aW.tW
def aW.jK(h:aW c s)(hi:i<s.next)(hb:c.base<=i)(hc:cd (s.tag i)=4)(hl:cd l=7)(kh:s.mu.L=1\/s.mu.S=1) :CS c s i l { s.mu with n:=s.mu.n+1 } 6 4:=by have q:=Mu.jK (more:=s.more) (l:=l) h.mu hi hc hl kh;have w:=@Wg.qA;exact aW.tW
def aW.jJ(h:aW c s)(hi:i<s.next)(hb:c.base<=i)(hc:cd (s.tag i)=6)(hl:cd l=7)(kh:s.mu.L=1) :CS c s i l { s.mu with n:=s.mu.n+1,W:=0 } 5 4:=by have q:=Mu.jJ (more:=s.more) (l:=l) h.mu hi hc hl kh;have w:=@Wg.lM;exact aW.tW
def aW.g9(h:aW c s)(hi:i<s.next)(hb:c.base<=i)(hc:cd (s.tag i)=6)(hl:cd l=7)(kh:s.mu.L=1) :CS c s i l { s.mu with n:=s.mu.n+1,W:=0,S:=1 } 5 4:=by have q:=Mu.g9 (more:=s.more) (l:=l) h.mu hi hc hl kh;have w:=@Wg.lM;exact aW.tW
def aW.jF(h:aW c s)(hi:i<s.next)(hb:c.base<=i)(hc:cd (s.tag i)=7)(hl:cd l=8)(kh:0<s.mu.sm) :CS c s i l { s.mu with sm:=s.mu.sm-1 } 5 5:=by have q:=Mu.jF (more:=s.more) (l:=l) h.mu hi hc hl kh;have w:=@Wg.p7;exact aW.tW
def aW.lK(h:aW c s)(hi:i<s.next)(hb:c.base<=i)(hc:cd (s.tag i)=8)(hl:cd l=6)(kh:s.mu.S=0) :CS c s i l s.mu 5 5:=by have q:=Mu.lK (more:=s.more) (l:=l) h.mu hi hc hl kh;have w:=@Wg.pZ;exact aW.tW
def aW.n9(h:aW c s)(hi:i<s.next)(hb:c.base<=i)(hc:cd (s.tag i)=8)(hl:cd l=9)(kh:s.mu.S=1) :CS c s i l s.mu 5 5:=by have q:=Mu.n9 (more:=s.more) (l:=l) h.mu hi hc hl kh;have w:=@Wg.pY;exact aW.tW
def aW.hand(h:aW c s)(hi:i<s.next)(hb:c.base<=i)(hc:cd (s.tag i)=9)(hl:cd l=10)(kh:s.mu.S=1)(f:2<=s.mu.n) :CS c s i l { s.mu with L:=1,n:=s.mu.n-1 } 5 3:=by have q:=Mu.hand (more:=s.more) (l:=l) h.mu hi hc hl kh f;have w:=@Wg.jV;exact aW.tW
def aW.oZ(h:aW c s)(hi:i<s.next)(hb:c.base<=i)(hc:cd (s.tag i)=9)(hl:cd l=10)(kh:s.mu.S=1) :CS c s i l { s.mu with L:=1,n:=s.mu.n-1,S:=0 } 5 3:=by have q:=Mu.oZ (more:=s.more) (l:=l) h.mu hi hc hl kh;have w:=@Wg.jV;exact aW.tW
def aW.jD(h:aW c s)(hi:i<s.next)(hb:c.base<=i)(hc:cd (s.tag i)=14)(hl:cd l=18)(kh:s.mu.S=0)(f:s.mu.n=0\/s.mu.W=1) :CS c s i l { s.mu with L:=0 } 3 0:=by have q:=Mu.jD (more:=s.more) (l:=l) h.mu hi hc hl kh f;have w:=@Wg.mH;exact aW.tW
def aW.gY(h:aW c s)(hi:i<s.next)(hb:c.base<=i)(hc:cd (s.tag i)=14)(hl:cd l=15)(kh:s.mu.S=0) :CS c s i l { s.mu with L:=0 } 3 2:=by have q:=Mu.gY (more:=s.more) (l:=l) h.mu hi hc hl kh;have w:=@Wg.mJ;exact aW.tW
def aW.jC(h:aW c s)(hi:i<s.next)(hb:c.base<=i)(hc:cd (s.tag i)=14)(hl:cd l=17)(kh:s.mu.S=1) :CS c s i l { s.mu with L:=0 } 3 1:=by have q:=Mu.jC (more:=s.more) (l:=l) h.mu hi hc hl kh;have w:=@Wg.mI;exact aW.tW
def aW.o0(h:aW c s)(hi:i<s.next)(hb:c.base<=i)(hc:cd (s.tag i)=15)(hl:cd l=17)(kh:s.mu.L=0)(f:s.mu.W=0)(g:s.mu.S=0)(o:0<s.mu.n) :CS c s i l { s.mu with n:=s.mu.n-1,W:=1 } 2 1:=by have q:=Mu.o0 (more:=s.more) (l:=l) h.mu hi hc hl kh f g o;have w:=@Wg.mF;exact aW.tW
def aW.kT(h:aW c s)(hi:i<s.next)(hb:c.base<=i)(hc:cd (s.tag i)=17)(hl:cd l=18) :CS c s i l { s.mu with sm:=s.mu.sm+1 } 1 1:=by have q:=Mu.kT (more:=s.more) (l:=l) h.mu hi hc hl;have w:=@Wg.mC;exact aW.tW
def aW.kY(h:aW c s)(hi:i<s.next)(hb:c.base<=i)(hc:cd (s.tag i)=16)(hl:cd l=18)(kh:s.mu.L=1\/s.mu.W=1\/s.mu.S=1\/s.mu.n=0) :CS c s i l s.mu 2 0:=by have q:=Mu.kY (more:=s.more) (l:=l) h.mu hi hc hl kh;have w:=@Wg.mD;exact aW.tW
def aW.jH(h:aW c s)(hi:i<s.next)(hb:c.base<=i)(hc:cd (s.tag i)=1)(hl:cd l=2)(kG:c.need i=true):CS c s i l s.mu 6 6:=by have q:=Mu.jH (more:=s.more) (l:=l) h.mu hi hc hl;have w:=@Wg.qF;exact aW.tW
def aW.jG(h:aW c s)(hi:i<s.next)(hb:c.base<=i)(hc:cd (s.tag i)=2)(hl:cd l=3) :CS c s i l s.mu 6 6:=by have q:=Mu.jG (more:=s.more) (l:=l) h.mu hi hc hl;have w:=@Wg.qE;exact aW.tW
def aW.same3_4(h:aW c s)(hi:i<s.next)(hb:c.base<=i)(hc:cd (s.tag i)=3)(hl:cd l=4) :CS c s i l s.mu 6 6:=by have q:=Mu.same3_4 (more:=s.more) (l:=l) h.mu hi hc hl;have w:=@Wg.qD;exact aW.tW
def aW.g0(h:aW c s)(hi:i<s.next)(hb:c.base<=i)(hc:cd (s.tag i)=4)(hl:cd l=3) :CS c s i l s.mu 6 6:=by have q:=Mu.g0 (more:=s.more) (l:=l) h.mu hi hc hl;have w:=@Wg.qC;exact aW.tW
def aW.same5_6(h:aW c s)(hi:i<s.next)(hb:c.base<=i)(hc:cd (s.tag i)=5)(hl:cd l=6) :CS c s i l s.mu 5 5:=by have q:=Mu.same5_6 (more:=s.more) (l:=l) h.mu hi hc hl;have w:=@Wg.p9;exact aW.tW
def aW.gZ(h:aW c s)(hi:i<s.next)(hb:c.base<=i)(hc:cd (s.tag i)=6)(hl:cd l=5) :CS c s i l s.mu 5 5:=by have q:=Mu.gZ (more:=s.more) (l:=l) h.mu hi hc hl;have w:=@Wg.p8;exact aW.tW
def aW.gI(h:aW c s)(hi:i<s.next)(hb:c.base<=i)(hc:cd (s.tag i)=10)(hl:cd l=11) :CS c s i l s.mu 3 3:=by have q:=Mu.gI (more:=s.more) (l:=l) h.mu hi hc hl;have w:=@Wg.mO;exact aW.tW
def aW.gH(h:aW c s)(hi:i<s.next)(hb:c.base<=i)(hc:cd (s.tag i)=13)(hl:cd l=14) :CS c s i l s.mu 3 3:=by have q:=Mu.gH (more:=s.more) (l:=l) h.mu hi hc hl;have w:=@Wg.mL;exact aW.tW
def aW.gG(h:aW c s)(hi:i<s.next)(hb:c.base<=i)(hc:cd (s.tag i)=15)(hl:cd l=16) :CS c s i l s.mu 2 2:=by have q:=Mu.gG (more:=s.more) (l:=l) h.mu hi hc hl;have w:=@Wg.mG;exact aW.tW
def aW.gF(h:aW c s)(hi:i<s.next)(hb:c.base<=i)(hc:cd (s.tag i)=16)(hl:cd l=15) :CS c s i l s.mu 2 2:=by have q:=Mu.gF (more:=s.more) (l:=l) h.mu hi hc hl;have w:=@Wg.mE;exact aW.tW
def aW.gE(h:aW c s)(hi:i<s.next)(hb:c.base<=i)(hc:cd (s.tag i)=18)(hl:cd l=19) :CS c s i l s.mu 0 0:=by have q:=Mu.gE (more:=s.more) (l:=l) h.mu hi hc hl;have w:=@Wg.mB;exact aW.tW
def aW.hV(h:aW c s)(hi:i<s.next)(hb:c.base<=i)(hc:cd (s.tag i)=1)(hl:cd l=20)(kG:¬ c.need i=true):CS c s i l s.mu 6 0:=by have q:=Mu.hV (more:=s.more) (l:=l) h.mu hi hc hl;have w:=@Wg.oJ;exact aW.tW
def aW.gD(h:aW c s)(hi:i<s.next)(hb:c.base<=i)(hc:cd (s.tag i)=19)(hl:cd l=20) :CS c s i l s.mu 0 0:=by have q:=Mu.gD (more:=s.more) (l:=l) h.mu hi hc hl;have w:=@Wg.mA;exact aW.tW
def aW.gC(h:aW c s)(hi:i<s.next)(hb:c.base<=i)(hc:cd (s.tag i)=20)(hl:cd l=21) :CS c s i l s.mu 0 0:=by have q:=Mu.gC (more:=s.more) (l:=l) h.mu hi hc hl;have w:=@Wg.l9;exact aW.tW
def aW.gB(h:aW c s)(hi:i<s.next)(hb:c.base<=i)(hc:cd (s.tag i)=22)(hl:cd l=23) :CS c s i l s.mu 0 0:=by have q:=Mu.gB (more:=s.more) (l:=l) h.mu hi hc hl;have w:=@Wg.l8;exact aW.tW
def aW.pC(h:aW c s)(hi:i<s.next)(hb:c.base<=i)(o:cd (s.tag i)=21)(A:¬ (s.wg.v=1/\s.wg.wt=1))
   :aW c { s with wg:={ s.wg with v:=s.wg.v-1 },tag:=upd s.tag i [0] }:=by
 have f:i≠0:=by have:=h.pos;omega
 obtain⟨q,r⟩:=Mu.oO (more:=s.more) (l:=[0]) h.mu hi o rfl;refine h.step hi (.inr hb) _ q (O6 r (by decide)) (λ_=>rfl) ?_ (Wg.pC (l:=[0]) h.wg hi f o rfl A) trivial ⟨λe=>absurd e f,λe=>absurd e f,λ_=>Nat.sub_le _ _⟩ (λe=>by simp[cd]at e) (λ_ _=>⟨by decide,λe=>rfl⟩) λ_ g=>?_
 ·exact λj C z B y=>⟨y,AT _⟩
 rw[o]at g;exact g.hi O (by decide)
def aW.pD(h:aW c s)(hi:i<s.next)(hb:c.base<=i)(o:cd (s.tag i)=21)(q:cd l=22)(B:Mu.fJ s.mu (Mu.mu s.mu s.more (upd s.tag i l) s.next) l)(C:s.wg.v=1/\s.wg.wt=1)
   :aW c { s with wg:={ s.wg with v:=s.wg.v-1 },tag:=upd s.tag i l }:=by
 have f:i≠0:=by have:=h.pos;omega
 obtain⟨r,y⟩:=Mu.mX (more:=s.more) (l:=l) h.mu hi o q;refine h.step hi (.inr hb) _ r (O6 y (by decide)) (λ_=>rfl) ?_ (Wg.pD (l:=l) h.wg hi f o q C) B ⟨λe=>absurd e f,λe=>absurd e f,λ_=>Nat.sub_le _ _⟩ (λe=>O) (λ_ _=>⟨O,λe=>O⟩) λ_ g=>?_
 ·exact λj E A D z=>⟨z,AT _⟩
 rw[o]at g;rw[q];exact g.hi O O
def aW.kR(h:aW c s)(hi:i<s.next)(hb:c.base<=i)(o:cd (s.tag i)=23)(q:cd l=24)(A:Mu.fJ s.mu (Mu.mu s.mu s.more (upd s.tag i l) s.next) l)
   :aW c { s with wg:={ s.wg with wt:=0 },tag:=upd s.tag i l }:=by
 have f:i≠0:=by have:=h.pos;omega
 obtain⟨r,v⟩:=Mu.mW (more:=s.more) (l:=l) h.mu hi o q;refine h.step hi (.inr hb) _ r (O6 v (by decide)) (λ_=>rfl) ?_ (Wg.kR (l:=l) h.wg hi f o q) A ⟨λe=>absurd e f,λe=>absurd e f,λ_=>AT _⟩ (λe=>O) (λ_ _=>⟨O,λe=>O⟩) λ_ g=>?_
 ·exact λj C z B y=>⟨y,AT _⟩
 rw[o]at g;rw[q];exact g.hi O O
def aW.n8(h:aW c s)(hi:i<s.next)(hb:c.base<=i)(o:cd (s.tag i)=24)
   :aW c { s with wg:={ s.wg with wm:=s.wg.wm+1 },tag:=upd s.tag i [0] }:=by
 have f:i≠0:=by have:=h.pos;omega
 obtain⟨q,r⟩:=Mu.oN (more:=s.more) (l:=[0]) h.mu hi o rfl;refine h.step hi (.inr hb) _ q (O6 r (by decide)) (λ_=>rfl) ?_ (Wg.n8 (l:=[0]) h.wg hi f o rfl) trivial ⟨λe=>absurd e f,λe=>absurd e f,λ_=>AT _⟩ (λe=>by simp[cd]at e) (λ_ _=>⟨by decide,λe=>rfl⟩) λ_ g=>?_
 ·exact λj A y z v=>⟨v,AT _⟩
 rw[o]at g;exact g.hi O (by decide)
def aW.zF(h:aW c s)(f:cd (s.tag 0)=31)(hl:cd l=32)(hn:∀k n,l=[k,n]->s.next=c.base+n):aW c { s with wg:={ s.wg with v:=s.wg.v+1 },tag:=upd s.tag 0 l }:=by have w:=Wg.add h.wg h.next0 f hl;exact aW.tM
def aW.qN(h:aW c s)(g:cd (s.tag 0)=34)(hl:cd l=38)(o:s.wg.v=0)(f:s.more=0) :aW c { s with wg:=s.wg,tag:=upd s.tag 0 l }:=by have w:=Wg.zA h.wg h.next0 g hl o f;exact aW.tM
def aW.qM(h:aW c s)(f:cd (s.tag 0)=34)(hl:cd l=35)(g:s.wg.v≠0)(hv:∀v,l=[35,v]->s.wg.v<=v):aW c { s with wg:=s.wg,tag:=upd s.tag 0 l }:=by have w:=Wg.y9 h.wg h.next0 f hl g;exact aW.tM
def aW.tU(h:aW c s)(f:cd (s.tag 0)=35)(hl:cd l=34)(hv:∀v,l=[34,v]->s.wg.v<v):aW c { s with wg:=s.wg,tag:=upd s.tag 0 l }:=by have w:=Wg.IA h.wg h.next0 f hl;exact aW.tM
def aW.tS(h:aW c s)(f:cd (s.tag 0)=35)(hl:cd l=36)(g:s.wg.v≠0) :aW c { s with wg:={ s.wg with wt:=1 },tag:=upd s.tag 0 l }:=by have w:=Wg.y4 h.wg h.next0 f hl g;exact aW.tM
def aW.m_woken(h:aW c s)(f:cd (s.tag 0)=36)(hl:cd l=37)(g:s.wg.wm≠0) :aW c { s with wg:={ s.wg with wm:=s.wg.wm-1 },tag:=upd s.tag 0 l }:=by have w:=Wg.woken h.wg h.next0 f hl g;exact aW.tM
def aW.kD(h:aW c s)(f:cd (s.tag 0)=30)(hl:cd l=31)(hn:∀k n,l=[k,n]->s.next=c.base+n):aW c { s with wg:=s.wg,tag:=upd s.tag 0 l }:=by have w:=Wg.mV h.wg h.next0 f hl;exact aW.tM
def aW.kB(h:aW c s)(f:cd (s.tag 0)=32)(hl:cd l=33)(hn:∀k n,l=[k,n]->s.next=c.base+n):aW c { s with wg:=s.wg,tag:=upd s.tag 0 l }:=by have w:=Wg.mT h.wg h.next0 f hl;exact aW.tM
def aW.kC(h:aW c s)(g:cd (s.tag 0)=30)(hl:cd l=34)(f:s.more=0)(hv:∀v,l=[34,v]->s.wg.v<v):aW c { s with wg:=s.wg,tag:=upd s.tag 0 l }:=by have w:=Wg.mU h.wg h.next0 g hl f;exact aW.tM
def aW.kA(h:aW c s)(f:cd (s.tag 0)=37)(hl:cd l=38) :aW c { s with wg:=s.wg,tag:=upd s.tag 0 l }:=by have w:=Wg.mS h.wg h.next0 f hl;exact aW.tM
def aW.j0(h:aW c s)(f:cd (s.tag 0)=38)(hl:cd l=39) :aW c { s with wg:=s.wg,tag:=upd s.tag 0 l }:=by have w:=Wg.mR h.wg h.next0 f hl;exact aW.tM
end
