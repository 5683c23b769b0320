import Derived.Test.YtlhomfgcibjccaaGreatDoorP08
set_option linter.all false
namespace Go.LL
section
variable{d send:Bool}{c:CommCase}{sh:CommShape}{g:Goroutine}{k j i b:Nat}{cs:List Frame}{fr:Frame}
open Go.Conc (Knows Deaf touchAt QuitsD crowd woken rcase scase recvd parked ph offersAt)
open Go.ConcN (sumTo upd sumTo_upd upd_ne upd_same)
section
variable{p:Program}{T:Vx p}{G:Frame->List Frame->Hp->Prop}{N:Nat}{H0:Hp}{w0:World}{gs:Array Goroutine}{w:World}{t:Trace}{s:T.S}{Hs:Hp}{Hf:Nat->Hp}{md:Nat->Nat}{rk:Nat->Rk}
theorem Ztp(ho:iX T d c sh)(h:k∈offersAt (parked g #[c] sh) T.ch send):k=0/\send=d:=by
 rcases ho with⟨rfl,v,z,rfl,_⟩ | ⟨rfl,z,f,rfl,_⟩<;>cases send
 ·rw[Go.Conc.offersAt_parked_send']at h;simp at h
 ·rw[Go.Conc.offersAt_parked_send,iO rfl]at h;simpa using h
 ·rw[Go.Conc.offersAt_parked_recv,iO rfl]at h;simpa using h
 rw[Go.Conc.offersAt_parked_recv']at h;simp at h
theorem Ztq(ho:iX T d c sh):0∈offersAt (parked g #[c] sh) T.ch d:=by
 rcases ho with⟨rfl,v,z,rfl,_⟩ | ⟨rfl,z,f,rfl,_⟩
 ·rw[Go.Conc.offersAt_parked_send,iO rfl];simp
 rw[Go.Conc.offersAt_parked_recv,iO rfl];simp
structure v9(T:Vx p)(G:Frame->List Frame->Hp->Prop)(gs:Array Goroutine)(s:T.S)(Hf:Nat->Hp)(md:Nat->Nat)(rk:Nat->Rk)(j:Nat)(d:Bool)(fr:Frame)(cs:List Frame)(c:CommCase)(sh:CommShape):Prop where
 at_:gs[j]? = some (parked (bT fr cs) #[c] sh)
 sD:iX T d c sh
 step:∀main w n,w.heap[T.ch]? = some (.chan 0 #[] false n n false)->stepG p main (bT fr cs) w=.comm (bT fr cs) #[c] true sh w #[]
 cls:T.cls s=false
 can:T.can d (T.tag s j)
 Rp:(md j=3/\j=0/\fO (mF T.prgM G) (rk j) (fr,cs,Hf j))\/(md j=2/\j≠0/\fO (mF (T.prgW j) Vf) (rk j) (fr,cs,Hf j))
theorem Ch{g':Goroutine}{cs bJ:Array CommCase}{FJ:CommShape}(h:parked g cs sh=parked g' bJ FJ):g.frame=g'.frame/\g.callers=g'.callers/\cs=bJ/\sh=FJ:=by have h1:=qAC Goroutine.frame h;have h2:=qAC Goroutine.callers h;have h3:=qAC Goroutine.offers h;simp only[parked,iF,qAG]at h1 h2 h3;exact⟨h1,h2,h3.1,h3.2⟩
theorem dP.offers(hT:T.Sound)(C:dP T G N H0 w0 gs w t s Hs Hf md rk)(hg:gs[j]? = some g)(hb:g.status=.blocked)(ho:g.offers≠none):∃d fr cs c sh,v9 T G gs s Hf md rk j d fr cs c sh/\g=parked (bT fr cs) #[c] sh:=by
 have hj:j<gs.size:=(qAl.1 hg).1;have aw:∀fr cs,oM T s gs j fr cs->∃d c sh,g=parked (bT fr cs) #[c] sh/\iX T d c sh/\(∀main w n,w.heap[T.ch]? = some (.chan 0 #[] false n n false)->stepG p main (bT fr cs) w=.comm (bT fr cs) #[c] true sh w #[])/\T.cls s=false/\T.can d (T.tag s j):=by
  rintro fr cs (h | ⟨h,_⟩ | ⟨d,c,sh,h1,h2,⟨h,h3,h4⟩ | ⟨h,_⟩⟩)<;>(rw[hg]at h;obtain rfl:=dO h)
  ·simp at hb
  ·exact absurd rfl ho
  ·exact⟨d,c,sh,rfl,h1,h2,h3,h4⟩
  simp at hb
 have h:=C.st j hj;revert h;generalize hm:md j=m;generalize hk:rk j=k;intro h;match m,h with
 | 3,⟨h0,fr,cs,h1,h2,_⟩=>
  obtain⟨d,c,sh,rfl,a2,a3,a4,a5⟩:=aw _ _ h1;exact⟨d,fr,cs,c,sh,⟨hg,a2,a3,a4,a5,.inl ⟨hm,h0,by rw[hk];exact h2⟩⟩,rfl⟩
 | 2,⟨h0,fr,cs,h1,h2,_⟩=>
  obtain⟨d,c,sh,rfl,a2,a3,a4,a5⟩:=aw _ _ h1;exact⟨d,fr,cs,c,sh,⟨hg,a2,a3,a4,a5,.inr ⟨hm,h0,by rw[hk];exact h2⟩⟩,rfl⟩
 | 1,⟨_,fr,cs,h1,_,h3,_⟩=>
  obtain⟨d,c,sh,rfl,a2,a3,a4,a5⟩:=aw _ _ h1;rw[C.tag j hj]at a5;exact absurd h3 (hT.m9 _ (hT.pD a5))
 | 0,⟨_,_,_,x,q,h3,h4,_⟩=>
  rw[hg]at h3;obtain rfl:=dO h3;rcases h4.status with h | h<;>rw[h]at hb<;>simp at hb
theorem dP.qV(hT:T.Sound)(C:dP T G N H0 w0 gs w t s Hs Hf md rk)(h:(j,k)∈partners (gs.setIfInBounds i ph) T.ch send):k=0/\j≠i/\∃fr cs c sh,v9 T G gs s Hf md rk j send fr cs c sh:=by
 obtain⟨g,hg,hk⟩:=Go.Conc.mem_partners.1 h;rcases Go.Conc.getElem?_stand gs i j g hg with⟨_,rfl⟩ | ⟨dG,C4⟩
 ·rw[Go.Conc.offersAt_ph]at hk;simp at hk
 have hb:g.status=.blocked:=oR λhb=>by rw[Go.Conc.offersAt_of_not_blocked hb]at hk;simp at hk
 have ho:g.offers≠none:=by intro e;unfold offersAt at hk;rw[hb,e]at hk;simp at hk
 obtain⟨d,fr,cs,c,sh,hw,rfl⟩:=C.offers hT C4 hb ho;obtain⟨rfl,rfl⟩:=Ztp hw.sD hk;exact⟨rfl,dG,fr,cs,c,sh,hw⟩
theorem dP.uD(C:dP T G N H0 w0 gs w t s Hs Hf md rk)(dG:j≠i)(h:gH T gs j d):(j,0)∈partners (gs.setIfInBounds i ph) T.ch d:=by obtain⟨g,c,sh,hg,ho⟩:=h;exact Go.Conc.mem_partners.2 ⟨_,Go.Conc.stand_get dG hg,Ztq ho⟩
theorem y5.congr{fF:Array Goroutine}{m:Nat}{H:Hp}{k:Rk}(e:fF[j]? = gs[j]?)(h:y5 T G gs t s j H m k):y5 T G fF t s j H m k:=by
 have aw:∀fr cs,oM T s gs j fr cs->oM T s fF j fr cs:=λfr cs h=>by unfold oM Pk at h ⊢;rw[e];exact h
 match m,h with
 | 3,⟨h0,fr,cs,h1,h2⟩=>exact⟨h0,fr,cs,aw _ _ h1,h2⟩
 | 2,⟨h0,fr,cs,h1,h2⟩=>exact⟨h0,fr,cs,aw _ _ h1,h2⟩
 | 1,⟨h0,fr,cs,h1,h2⟩=>exact⟨h0,fr,cs,aw _ _ h1,h2⟩
 | 0,⟨h0,h1,h2,x,q,h3,h4⟩=>exact⟨h0,h1,h2,x,q,by rw[e];exact h3,h4⟩
theorem dP.Er(C:dP T G N H0 w0 gs w t s Hs Hf md rk)(hi:i<gs.size)(ho:iX T d c sh)(iV:∀k,k≠i->gH T gs k (!d)->False)
  (uN:∀fF:Array Goroutine,fF[i]? = some (parked (bT fr cs) #[c] sh)->y5 T G fF t s i (Hf i) (md i) (rk i)):dP T G N H0 w0 (gs.setIfInBounds i (parked (bT fr cs) #[c] sh)) w t s Hs Hf md rk:=by
 have fP:(gs.setIfInBounds i (parked (bT fr cs) #[c] sh)).size=gs.size:=by simp
 have rN:(gs.setIfInBounds i (parked (bT fr cs) #[c] sh))[i]? = some (parked (bT fr cs) #[c] sh):=qAn hi;have oV:∀j d',gH T (gs.setIfInBounds i (parked (bT fr cs) #[c] sh)) j d'->(j=i/\d'=d)\/(j≠i/\gH T gs j d'):=by
  rintro j d' ⟨x,c',FJ,hx,pM⟩;by_cases e:j=i
  ·subst e;rw[rN]at hx;obtain⟨_,_,e1,e2⟩:=Ch (dO hx);obtain rfl:c=c':=by simpa using e1
   subst e2;refine .inl ⟨rfl,?_⟩;rcases ho with⟨rfl,v,z,rfl,_⟩ | ⟨rfl,z,f,rfl,_⟩<;>rcases pM with⟨rfl,v',z',e3,_⟩ | ⟨rfl,z',f',e3,_⟩
   ·rfl
   ·have:=qAC CommCase.send e3;simp[scase,rcase]at this
   ·have:=qAC CommCase.send e3;simp[scase,rcase]at this
   rfl
  rw[qAa (qAi e)]at hx;exact .inr ⟨e,x,c',FJ,hx,pM⟩
 refine⟨by rw[fP];exact C.size,by rw[fP];exact C.pos,by rw[fP];exact C.bound,C.inv,C.leS,C.le,C.dis,C.disS,C.perm,by rw[fP];exact C.tag,C.clean,C.low,by rw[fP];exact C.above,by rw[fP];exact C.over,?_,C.out,C.grown,C.keep,C.org,C.orgS,?_⟩
 ·intro j hj;rw[fP]at hj;by_cases e:j=i
  ·subst e;exact uN _ rN
  exact(C.st j hj).congr (qAa (qAi e))
 intro j k h1 h2;rcases oV _ _ h1 with⟨rfl,rfl⟩ | ⟨n1,a1⟩<;>rcases oV _ _ h2 with⟨rfl,e⟩ | ⟨n2,a2⟩
 ·simp at e
 ·exact iV k n2 a2
 ·subst e;exact iV j n1 a1
 exact C.one j k a1 a2
theorem Zix{M:Ms}(ih:∀M',pZ N M' M->∀gs w sl t s Hs Hf md rk,iS (T:=T) s gs md rk=M'->dP T G N H0 w0 gs w t s Hs Hf md rk->Y9 T G N H0 w0 (crowd gs w sl) t)
  (hT:T.Sound) (hM:iS s gs md rk=M) (C:dP T G N H0 w0 gs w t s Hs Hf md rk) (hi:i<gs.size) {sl iD:Option (Nat×Nat)} {e:Nat} (hg:gs[i]? = some g) (hr:K7 p g fr cs)
  (bB:stepT p (crowd gs w sl)=runT p (crowd gs (w.at e) iD) i) (ho:iX T d c sh) (hU:T.cls s=false)
  (eM:∀main w n,w.heap[T.ch]? = some (.chan 0 #[] false n n false)->stepG p main (bT fr cs) w=.comm (bT fr cs) #[c] true sh w #[]) (iV:partners (gs.setIfInBounds i ph) T.ch (!d)=[])
  (uN:∀fF:Array Goroutine,fF[i]? = some (parked (bT fr cs) #[c] sh)->y5 T G fF t s i (Hf i) (md i) (rk i)):Y9 T G N H0 w0 (crowd gs w sl) t:=by
 obtain⟨n,hn⟩:=hT.chan C.inv;rw[hU]at hn;have hc:=(C.at e).leS _ _ _ hn;have fJ:runT p (crowd gs (w.at e) iD) i=(.next (crowd (gs.setIfInBounds i (parked (bT fr cs) #[c] sh)) (w.at e) iD),MemOp.ofEvents i g.frame.fn g.frame.place #[]):=by
  refine Go.Conc.crowd_waits hg ((hr.step _ _).trans (eM _ _ n hc)) λcc WI=>?_;obtain rfl:cc=c:=by simpa using WI
  rcases ho with⟨rfl,v,z,rfl,_⟩ | ⟨rfl,z,f,rfl,_⟩
  ·exact Go.Conc.ways_send_none hc (qAR _) iV
  exact Go.Conc.ways_recv_none hc iV
 have e0:MemOp.ofEvents i g.frame.fn g.frame.place #[]=#[]:=by simp[Go.Conc.ofEvents_eq]
 rw[e0]at fJ;refine Y9.step (bB.trans fJ) ?_;rw[qAh];have hC:=(C.at e).Er hi ho (λk hk h=>by have:=(C.at e).uD hk h;rw[iV]at this;simp at this) uN;refine ih _ ?_ _ _ _ _ _ _ _ _ _ rfl hC;rw[<-hM];unfold iS;have fP:(gs.setIfInBounds i (parked (bT fr cs) #[c] sh)).size=gs.size:=by simp
 rw[fP];refine S5 (aC _) (.inr ⟨rfl,.inr ⟨rfl,?_⟩⟩);have:lB (gs.setIfInBounds i (parked (bT fr cs) #[c] sh))=upd (lB gs) i 0:=by
  funext j;rw[V0];unfold lB;by_cases hj:j=i
  ·subst hj;simp[hi,parked]
  rw[bY hj,qAa (qAi hj)]
 rw[this];exact Px hi (by simp[lB,hg,hr.st])
theorem dP.pair(hT:T.Sound)(C:dP T G N H0 w0 gs w t s Hs Hf md rk)(hb:b<gs.size)(gF:b≠0)(hU:T.cls s=false){R0 Rb:Frame->List Frame->Hp->Prop}{B8 B7:Frame}{EX CE:List Frame}
  (h0:OY T R0 B8 EX (Hf 0)) (h1:OZ T Rb B7 CE (Hf b)) :
  ∃(v z zb:Value) (fM:Bool) (n:Nat),(∀main w n,w.heap[T.ch]? = some (.chan 0 #[] false n n false)->stepG p main (bT B8 EX) w=.comm (bT B8 EX) #[scase T.ch v z] true .send w #[]) /\
   (∀main w n cl,w.heap[T.ch]? = some (.chan 0 #[] cl n n false)->stepG p main (bT B7 CE) w=.comm (bT B7 CE) #[rcase T.ch zb] true (.recv fM) w #[])/\w.heap[T.ch]? = some (.chan 0 #[] false n n false) /\
   ∀(fF:Array Goroutine) (w':World) (f0 fb:FuncId) (p0 pb:String),w'.heap=w.heap.setIfInBounds T.ch (.chan 0 #[] false (n+1) (n+1) false)->wB w w'->fF[0]? = some (bT (B8.finish undef) EX)->fF[b]? = some (bT (B7.finish (recvd fM v true)) CE) ->
    (∀j,j≠0->j≠b->fF[j]? = gs[j]?)->fF.size=gs.size->(∀fr cs H,R0 fr cs H->∃k,fO (mF T.prgM G) k (fr,cs,H))->(∀fr cs H,Rb fr cs H->∃k,fO (mF (T.prgW b) Vf) k (fr,cs,H)) ->
    ∃s' eG yL CV CR,dP T G N H0 w0 fF w' (t++VF T.ch n b f0 fb p0 pb) s' eG yL CV CR/\T.more s'<T.more s:=by
 obtain⟨c0,v,z,g',H1,Hm,s0,e0,hc,F9,hp,a0,r0⟩:=h0
 obtain⟨cb,zb,fM,sb,hr,_,_⟩:=h1
 obtain⟨n,hn⟩:=hT.chan C.inv
 rw[hU]at hn
 have eU:=C.pos
 have t0:=C.tag 0 eU
 have tb:=C.tag b hb
 rw[<-t0]at c0 hp
 rw[<-tb]at cb hr
 obtain⟨s',gb,q1,q2,q3,q4,q5,q6,q7⟩:=hT.meet (b:=b) (n:=n) C.inv (by rw[<-C.size];exact eU) (by rw[<-C.size];exact hb) gF hU hn c0 cb hp
 have hd:(Hf b).Dis Hm:=λc x y hx hy=>C.dis b 0 gF c x y hx (by rw[e0];exact Hp.aS hc hy)
 obtain⟨ab,rb⟩:=hr gb v Hm F9 hd q1
 have I4:T.ch<w.heap.size:=C.leS.lt hn
 refine⟨v,z,zb,fM,n,s0,sb,C.leS _ _ _ hn,?_⟩
 intro fF w' f0 fb p0 pb hw uQ g1 g2 g3 g4 hR0 hRb
 obtain⟨k0,k0r⟩:=hR0 _ _ _ r0
 obtain⟨kb,kbr⟩:=hRb _ _ _ rb
 have rD:∀op∈VF T.ch n b f0 fb p0 pb,(op.g=0\/op.g=b)/\(op.act=.send T.ch n\/op.act=.recv T.ch n 0\/op.act=.sendDone T.ch n\/op.act=.recvDone T.ch n):=by intro op bH;simp only[VF,qAb,qAp,qBf,qCl]at bH;rcases bH with rfl | rfl | rfl | rfl<;>simp
 have hC:=C.meet hT (u:=VF T.ch n b f0 fb p0 pb) hb gF e0 hc hn (q7 _ (λop h=>(rD op h).1) λop h=>(rD op h).2) q2 q3 (Nat.le_of_lt q4) (q5.trans hU.symm) q6 hw uQ (λop h=>(rD op h).1)
  (λop h=>by rcases(rD op h).2 with e | e | e | e<;>rw[e]<;>rfl) (λop h=>by rcases(rD op h).2 with e | e | e | e<;>rw[e]<;>exact I4)
  (λq hq=>ZtU (hT.hears C.inv (by rw[<-C.size];exact eU) c0) (hT.hears C.inv (by rw[<-C.size];exact hb) cb) gF hq) g1 g2 g3 g4 k0r a0 kbr ab
 exact⟨_,_,_,_,_,hC,q4⟩
theorem SM{v:Value}:Go.Conc.served (bT fr cs) v=bT (fr.finish v) cs:=rfl
theorem MM{w w':World}{main:Bool}{es fV:Array Event}(h:stepG p main (bT fr cs) w=.comm (bT fr cs) #[c] true sh w es):stepG p main (bT fr cs) w≠.go g w' fV:=by rw[h];intro e;cases e
section
variable(hT:T.Sound)(C:dP T G N H0 w0 gs w t s Hs Hf md rk)
include hT C
theorem dP.rcv_of(hw:v9 T G gs s Hf md rk b false fr cs c sh) :
  b≠0/\b<gs.size/\OZ T (λa e f=>∃k',Rk.lt k' (rk b)/\fO (mF (T.prgW b) Vf) k' (a,e,f)) fr cs (Hf b):=by
 have hb:b<gs.size:=(qAl.1 hw.at_).1;have eY:b<T.next s:=by rw[<-C.size];exact hb
 have gF:=hT.FL C.inv eY hw.can;refine⟨gF,hb,?_⟩;obtain⟨n,hn⟩:=hT.chan C.inv;rw[hw.cls]at hn;have hc:=C.leS _ _ _ hn;have ha:=C.ahead hb;have aG:=C.tag b hb;rcases hw.Rp with⟨_,e,_⟩ | ⟨_,_,oE⟩
 ·exact absurd e gF
 rcases fO.step mF.mono oE with uZ | rH | ⟨_,hsh⟩
 ·exact uZ.elim
 ·obtain⟨bW,bJ,w',H',es,eM,_⟩:=rH.1 false w ha.le;exact absurd eM (MM (hw.step false w n hc))
 have jE:=hT.pD hw.can;rw[aG]at jE;rcases hsh with⟨d,hd,_⟩ | ⟨_,hsh⟩ | ⟨hh,_⟩ | ⟨_,h⟩
 ·rw[show(Hf b).gh=lv d from hd]at jE;exact absurd jE (hT.tG d)
 ·rcases hsh s Hs t w ha with⟨bW,bJ,w',H',s',eG,es,h1,_⟩ | ⟨h1,_⟩
  ·exact absurd h1 (MM (hw.step _ w n hc))
  exact absurd h1 (MM (hw.step _ w n hc))
 ·exact absurd hh (hT.m9 _ jE)
 exact h
theorem dP.snd_of(hw:v9 T G gs s Hf md rk j true fr cs c sh)(hG:∀fr cs H,G fr cs H->¬ T.can true H.gh) :
  j=0/\OY T (λa e f=>∃k',Rk.lt k' (rk 0)/\fO (mF T.prgM G) k' (a,e,f)) fr cs (Hf 0):=by
 have hj:j<gs.size:=(qAl.1 hw.at_).1;obtain rfl:=hT.FK C.inv (by rw[<-C.size];exact hj) hw.can;refine⟨rfl,?_⟩;obtain⟨n,hn⟩:=hT.chan C.inv;rw[hw.cls]at hn;have hc:=C.leS _ _ _ hn;have ha:=C.ahead hj;rcases hw.Rp with⟨_,_,oE⟩ | ⟨_,e,_⟩
 ·rcases fO.step mF.mono oE with hg | rH | ⟨_,hsh⟩
  ·have:=hw.can;rw[C.tag 0 hj]at this;exact absurd this (hG _ _ _ hg)
  ·obtain⟨bW,bJ,w',H',es,eM,_⟩:=rH.1 false w ha.le;exact absurd eM (MM (hw.step false w n hc))
  rcases hsh s Hs t w ha with⟨bW,bJ,w',H',s',eG,es,h1,_⟩ | ⟨h1,_⟩ | ⟨bW,bJ,kU,w',H',Hc,s',eG,es,h1,_⟩ | h
  ·exact absurd h1 (MM (hw.step _ w n hc))
  ·exact absurd h1 (MM (hw.step _ w n hc))
  ·rw[hw.step true w n hc]at h1;cases h1
  exact h
 exact absurd rfl e
end
end
end
section
variable{g:Goroutine}{cs:List Frame}{sh FJ:CommShape}{d:Bool}{z:Value}{M:Ms}{sl iD:Option (Nat×Nat)}{e:Nat}{fr:Frame}
open Go.Conc (Knows Deaf touchAt QuitsD crowd woken rcase scase recvd parked ph offersAt)
open Go.ConcN (sumTo upd sumTo_upd upd_ne upd_same)
section
variable{p:Program}{T:Vx p}{G:Frame->List Frame->Hp->Prop}{N:Nat}{H0:Hp}{w0:World}{gs:Array Goroutine}{w:World}{t:Trace}{s:T.S}{Hs:Hp}{Hf:Nat->Hp}{md:Nat->Nat}{rk:Nat->Rk}
theorem Zhm{g':Goroutine}{cs bJ:Array CommCase}(h:parked g cs sh=parked g' bJ FJ)(v:Value):Go.Conc.served g v=Go.Conc.served g' v:=by obtain⟨e1,e2,_,_⟩:=Ch h;have e3:=qAC Goroutine.dying h;simp only[parked]at e3;obtain⟨a1,a2,a3,a4,a5⟩:=g;obtain⟨b1,b2,b3,b4,b5⟩:=g';simp only at e1 e2 e3;subst e1 e2 e3;rfl
theorem W9{c c':CommCase}{w:World}(h:GStep.comm g #[c] true sh w #[]=GStep.comm g #[c'] true FJ w #[]):c=c'/\sh=FJ:=by simp only[GStep.comm.injEq,true_and,qCQ]at h;exact⟨by simpa using h.1,h.2⟩
theorem iX.rcv(h:iX T d (rcase T.ch z) sh):d=false:=by
 rcases h with⟨_,v,z',e,_⟩ | ⟨e,_⟩
 ·have:=qAC CommCase.send e;simp[scase,rcase]at this
 exact e
theorem iX.snd{v:Value}(h:iX T d (scase T.ch v z) sh):d=true:=by
 rcases h with⟨e,_⟩ | ⟨_,z',f,e,_⟩
 ·exact e
 have:=qAC CommCase.send e;simp[scase,rcase]at this
variable(hT:T.Sound)(hG:∀fr cs H,G fr cs H->¬ T.can true H.gh)
include hT hG
theorem Ziy(ih:∀M',pZ N M' M->∀gs w sl t s Hs Hf md rk,iS (T:=T) s gs md rk=M'->dP T G N H0 w0 gs w t s Hs Hf md rk->Y9 T G N H0 w0 (crowd gs w sl) t)
  (hM:iS s gs md rk=M) {fF:Array Goroutine} {w':World} {u:Trace} (bB:stepT p (crowd gs w sl)=(.next (crowd fF w' iD),u))
  (h:∃s' eG yL CV CR,dP T G N H0 w0 fF w' (t++u) s' eG yL CV CR/\T.more s'<T.more s):Y9 T G N H0 w0 (crowd gs w sl) t:=by
 obtain⟨s',eG,yL,CV,CR,hC,hm⟩:=h;refine Y9.step bB (ih _ ?_ _ _ _ _ _ _ _ _ _ rfl hC);rw[<-hM];exact ZlC hm _ _
theorem Zs3(ih:∀M',pZ N M' M->∀gs w sl t s Hs Hf md rk,iS (T:=T) s gs md rk=M'->dP T G N H0 w0 gs w t s Hs Hf md rk->Y9 T G N H0 w0 (crowd gs w sl) t)
  (hM:iS s gs md rk=M) (C:dP T G N H0 w0 gs w t s Hs Hf md rk) (hg:gs[0]? = some g) (hr:K7 p g fr cs)
  (bB:stepT p (crowd gs w sl)=runT p (crowd gs (w.at e) iD) 0) (rE:md 0=3) (oE:fO (mF T.prgM G) (rk 0) (fr,cs,Hf 0))
  (h:OY T (λa e f=>∃k',Rk.lt k' (rk 0)/\fO (mF T.prgM G) k' (a,e,f)) fr cs (Hf 0)):Y9 T G N H0 w0 (crowd gs w sl) t:=by
 have hp:=C.pos;have h':=h;obtain⟨rK,v,z,_,_,_,yV,_⟩:=h';have tE:T.can true (T.tag s 0):=by rw[C.tag 0 hp];exact rK
 have hU:=hT.FG C.inv (by rw[<-C.size];exact hp) tE;obtain⟨n,hn⟩:=hT.chan C.inv;rw[hU]at hn;have hc:=(C.at e).leS _ _ _ hn;by_cases BD:partners (gs.setIfInBounds 0 ph) T.ch false=[]
 ·refine Zix ih hT hM C hp hg hr bB (d:=true) (.inl ⟨rfl,v,z,rfl,rfl⟩) hU yV BD λfF gQ=>?_;rw[rE];exact⟨rfl,fr,cs,.inr (.inr ⟨true,_,_,.inl ⟨rfl,v,z,rfl,rfl⟩,yV,.inl ⟨gQ,hU,tE⟩⟩),oE,hT.pD rK⟩
 obtain⟨j,gj,zj,shj,d',nU,hj,fJ⟩:=Go.Conc.crowd_send_meets_some (P:=p) (w:=w.at e) (sl:=iD) hg ((hr.step true _).trans (yV true _ n hc)) hc BD (λj k rU=>by
  obtain⟨rfl,dG,B7,CE,c,sh,hw⟩:=(C.at e).qV hT rU;refine⟨rfl,dG,?_⟩;rcases hw.sD with⟨e,_⟩ | ⟨_,z',f,rfl,rfl⟩
  ·cases e
  exact⟨_,_,_,hw.at_⟩)
 obtain⟨d,B7,CE,c,sh,hw,QZ⟩:=C.offers hT hj rfl (by simp[parked]);obtain⟨_,_,e1,e2⟩:=Ch QZ;obtain rfl:rcase T.ch zj=c:=by simpa using e1
 subst e2;obtain rfl:=hw.sD.rcv;obtain⟨gF,hb,HU⟩:=C.rcv_of hT hw;obtain⟨v2,z2,zb,fM,n2,k1,k2,k3,k4⟩:=C.pair hT hb gF hU h HU;have tS:=C.leS _ _ _ hn;obtain⟨x1,_⟩:=W9 ((yV true w n tS).symm.trans (k1 true w n tS));have ev:v=v2:=by have:=qAC CommCase.send x1;simpa[scase]using this
 obtain⟨_,x2⟩:=W9 ((hw.step true w n tS).symm.trans (k2 true w n false tS));have en:n=n2:=by rw[k3]at tS;simp at tS;exact tS.symm
 subst ev x2 en;rw[Go.Conc.finishComm_recv,Go.Conc.finishComm_send,SM,Zhm QZ,SM]at fJ;have eo:MemOp.ofEvents 0 g.frame.fn g.frame.place #[]=#[]:=by simp[Go.Conc.ofEvents_eq]
 rw[eo,qBU]at fJ;refine Ziy hT hG ih hM (bB.trans fJ) ?_;have fP:gs.size≠0:=O;refine k4 _ _ (bT fr cs).frame.fn gj.frame.fn (bT fr cs).frame.place gj.frame.place rfl ⟨.refl _,rfl,rfl⟩ ?_ ?_ ?_ ?_ (λa b c ⟨k,_,h⟩=>⟨k,h⟩) (λa b c ⟨k,_,h⟩=>⟨k,h⟩)
 ·exact qAn (by simpa using hp)
 ·rw[qAa (qAi gF)];exact qAn hb
 ·intro j' h1 h2;rw[qAa (qAi h1),qAa (qAi h2)]
 simp
def uA:Goroutine:={ (default:Goroutine)with frame:={ (default:Frame)with mode:=.run,todo:=[] } }
omit hT hG in
theorem Zss:mayWake p uA=false:=rfl
theorem Zs4(ih:∀M',pZ N M' M->∀gs w sl t s Hs Hf md rk,iS (T:=T) s gs md rk=M'->dP T G N H0 w0 gs w t s Hs Hf md rk->Y9 T G N H0 w0 (crowd gs w sl) t)
  (hM:iS s gs md rk=M) (C:dP T G N H0 w0 gs w t s Hs Hf md rk) {i:Nat} (hi:i<gs.size) (bD:i≠0) (hg:gs[i]? = some g) (hr:K7 p g fr cs)
  (bB:stepT p (crowd gs w sl)=runT p (crowd gs (w.at e) iD) i) (rE:md i=2) (oE:fO (mF (T.prgW i) Vf) (rk i) (fr,cs,Hf i))
  (h:OZ T (λa e f=>∃k',Rk.lt k' (rk i)/\fO (mF (T.prgW i) Vf) k' (a,e,f)) fr cs (Hf i)):Y9 T G N H0 w0 (crowd gs w sl) t:=by
 have h':=h;obtain⟨rK,z,fM,yV,_,jE,bU⟩:=h';have gJ:i<T.next s:=by rw[<-C.size];exact hi
 have tE:T.can false (T.tag s i):=by rw[C.tag i hi];exact rK
 obtain⟨n,hn⟩:=hT.chan C.inv;have tS:=C.leS _ _ _ hn;have hc:=(C.at e).leS _ _ _ hn;have eo:MemOp.ofEvents i g.frame.fn g.frame.place #[]=#[]:=by simp[Go.Conc.ofEvents_eq]
 cases hU:T.cls s with
 | true=>
  rw[hU]at hc;have BD:partners (gs.setIfInBounds i ph) T.ch true=[]:=by refine Go.Conc.partners_nil λj x hx=>?_;refine oR λdG=>?_;obtain⟨k,hk⟩:=List.exists_mem_of_ne_nil _ dG;obtain⟨_,_,_,_,_,_,hw⟩:=(C.at e).qV hT (Go.Conc.mem_partners.2 ⟨x,hx,hk⟩);rw[hw.cls]at hU;simp at hU
  have fJ:=Go.Conc.crowd_recv_closed (P:=p) (w:=w.at e) (sl:=iD) hg ((hr.step _ _).trans (yV _ _ n true hc)) hc BD;rw[Go.Conc.finishComm_recv,SM,eo,qBU]at fJ;refine Y9.step (bB.trans fJ) ?_;obtain⟨s',q1,q2,q3,q4,q5,q6⟩:=hT.FI C.inv gJ hU tE;obtain⟨k',bV,gG⟩:=bU;have xV:∀op∈(#[{ g:=i,fn:=(bT fr cs).frame.fn,pos:=(bT fr cs).frame.place,act:=.recvClosed T.ch }]:Trace),op.g=i/\op.act=.recvClosed T.ch:=by intro op bH;simp only[qAb,DO]at bH;subst bH;exact⟨rfl,rfl⟩
  have ha:=(C.at e).ahead hi;have hm:gN T i s Hs t (w.at e) (Hf i) (#[{ g:=i,fn:=(bT fr cs).frame.fn,pos:=(bT fr cs).frame.place,act:=.recvClosed T.ch }]:Trace) s' Hs (w.at e):=
   ⟨aC _,λ_ _ _ _=>rfl,ha.leS,λb x hx=>.inr ⟨x,.inr hx,λ_=>rfl⟩,.refl _,λop bH x hx=>by rw[(xV op bH).2]at hx;simp[MemAct.touch?]at hx,
    λ_ _ _ _ op bH x hx=>by rw[(xV op bH).2]at hx;simp[MemAct.touch?]at hx,λop bH=>by rw[(xV op bH).2];exact ha.leS.lt hn,q6 _ xV⟩
  have x9:g9 i Hs (w.at e) (Hf i) (t++(#[{ g:=i,fn:=(bT fr cs).frame.fn,pos:=(bT fr cs).frame.place,act:=.recvClosed T.ch }]:Trace)) Hs (w.at e) ((Hf i).tagged (T.shut (T.tag s i))):=
   ⟨ha.le,ha.dis,λb x hx=>.inr ⟨x,.inl hx,λ_=>rfl⟩,ha.perm.own λop bH=>.inl (xV op bH).1⟩
  have ew:∀g' w',woken p uA g' w'=id:=λg' w'=>by funext x;simp[woken,Zss]
  have QX:T.shut (T.tag s i)=T.shut (Hf i).gh:=by rw[C.tag i hi]
  have hC:=(C.at e).go hT hi (g:=uA) (g':=bT (fr.finish (recvd fM z false)) cs) (λop bH=>(xV op bH).1) hm x9 (λj=>by rw[q1];rfl) q2 q3 (.inr q5) (.inl (q4.trans hU.symm)) (.inr rfl) (m:=2) (k:=k')
   ⟨bD,_,_,.inl (Ad hi _ _),by rw[QX];exact gG,by show T.act (T.shut (T.tag s i));rw[QX];exact jE⟩
  rw[ew,Array.map_id]at hC;refine ih _ ?_ _ _ _ _ _ _ _ _ _ rfl hC;rw[<-hM];unfold iS;have fP:(gs.setIfInBounds i (bT (fr.finish (recvd fM z false)) cs)).size=gs.size:=by simp
  rw[fP];refine S5 q3 (.inr ⟨by rw[<-rE,MC],.inl (Md (qAz hi (by have:=C.bound;omega)) bV)⟩)
 | false=>
  rw[hU]at hc hn tS;by_cases BD:partners (gs.setIfInBounds i ph) T.ch true=[]
  ·refine Zix ih hT hM C hi hg hr bB (d:=false) (.inr ⟨rfl,z,fM,rfl,rfl⟩) hU (λmain w n h=>yV main w n false h) BD λfF gQ=>?_;rw[rE];exact⟨bD,fr,cs,.inr (.inr ⟨false,_,_,.inr ⟨rfl,z,fM,rfl,rfl⟩,λmain w n h=>yV main w n false h,.inl ⟨gQ,hU,tE⟩⟩),oE,hT.pD rK⟩
  obtain⟨j,gj,vj,zj,shj,d',nU,hj,fJ⟩:=Go.Conc.crowd_recv_meets_some (P:=p) (w:=w.at e) (sl:=iD) hg ((hr.step _ _).trans (yV _ _ n false hc)) hc BD (λj k rU=>by
   obtain⟨rfl,dG,B7,CE,c,sh,hw⟩:=(C.at e).qV hT rU;refine⟨rfl,dG,?_⟩;rcases hw.sD with⟨_,v',z',rfl,rfl⟩ | ⟨e,_⟩
   ·exact⟨_,_,_,_,hw.at_⟩
   cases e)
  obtain⟨d,B8,EX,c,sh,hw,QZ⟩:=C.offers hT hj rfl (by simp[parked]);obtain⟨_,_,e1,e2⟩:=Ch QZ;obtain rfl:scase T.ch vj zj=c:=by simpa using e1
  subst e2;obtain rfl:=hw.sD.snd;obtain⟨rfl,HL⟩:=C.snd_of hT hw hG;obtain⟨v2,z2,zb,QV,n2,k1,k2,k3,k4⟩:=C.pair hT hi bD hU HL h;obtain⟨x1,x3⟩:=W9 ((hw.step true w n tS).symm.trans (k1 true w n tS));have ev:vj=v2:=by have:=qAC CommCase.send x1;simpa[scase]using this
  obtain⟨_,x2⟩:=W9 ((yV true w n false tS).symm.trans (k2 true w n false tS));have ef:fM=QV:=by simpa using x2
  have en:n=n2:=by rw[k3]at tS;simp at tS;exact tS.symm
  subst ev ef en x3;rw[Go.Conc.finishComm_recv,Go.Conc.finishComm_send,SM,Zhm QZ,SM,eo,qBU]at fJ;refine Ziy hT hG ih hM (bB.trans fJ) ?_;refine k4 _ _ gj.frame.fn (bT fr cs).frame.fn gj.frame.place (bT fr cs).frame.place rfl ⟨.refl _,rfl,rfl⟩ ?_ ?_ ?_ ?_ (λa b c ⟨k,_,h⟩=>⟨k,h⟩) (λa b c ⟨k,_,h⟩=>⟨k,h⟩)
  ·rw[qAa bD];exact qAn (by have:=C.pos;exact this)
  ·exact qAn (by simpa using hi)
  ·intro j' h1 h2;rw[qAa (qAi h2),qAa (qAi h1)]
  simp
end
end
section
open Go.Conc (Knows Deaf touchAt QuitsD crowd woken)
open Go.ConcN (sumTo upd sumTo_upd upd_ne upd_same)
section
variable{p:Program}{T:Vx p}{G:Frame->List Frame->Hp->Prop}{n:Nat}{H0:Hp}{w0:World}
theorem Zt8{d d':Nat}(h:lv d=lv d'):d=d':=by simpa[lv]using h
theorem Zsr(hT:T.Sound){i:Nat}:∀(k:Rk) (fr:Frame) (cs:List Frame) (H:Hp) (d:Nat),H.gh=lv d->fO (mF (T.prgW i) Vf) k (fr,cs,H)->∃q,QuitsD p q d (bT fr cs):=by
 intro k;induction Rk.vB k with
 | intro k _ ih=>
 intro fr cs H d hd h;rcases fO.step mF.mono h with uZ | rH | ⟨_,hsh⟩
 ·exact uZ.elim
 ·obtain⟨bW,bJ,eM,k',bV,gG⟩:=rH.2 (by show T.stl H.gh=true;rw[hd];exact hT.FF d);obtain⟨q,hq⟩:=ih k' bV bW bJ H d hd gG;exact⟨q+1,.ctl rfl (λw=>eM false w) hq⟩
 rcases hsh with⟨d',GD,h⟩ | ⟨ha,_⟩ | ⟨ha,_⟩ | ⟨ha,_⟩
 ·obtain rfl:=Zt8 (hd.symm.trans GD);rcases h with⟨bW,bJ,es,hm,bB,k',bV,gG⟩ | ⟨rfl,g,hg,bB⟩
  ·obtain⟨q,hq⟩:=ih k' bV bW bJ _ _ rfl gG;exact⟨q+1,.inr ⟨rfl,_,es,hm,λw=>bB false w,hq⟩⟩
  exact⟨1,.inr ⟨rfl,g,#[],by simp,bB,hg,rfl⟩⟩
 ·rw[show H.gh=lv d from hd]at ha;exact absurd ha (hT.tG d)
 ·rw[show H.gh=lv d from hd]at ha;exact absurd ha (hT.AX d)
 rw[show H.gh=lv d from hd]at ha;exact absurd ha (hT.tG d)
theorem Zok(hT:T.Sound)(hG:∀fr cs H,G fr cs H->¬ T.can true H.gh):∀(M:Ms) (gs:Array Goroutine) (w:World) (sl:Option (Nat×Nat)) (t:Trace) (s:T.S) (Hs:Hp) (Hf:Nat->Hp) (md:Nat->Nat) (rk:Nat->Rk),
  iS s gs md rk=M->dP T G n H0 w0 gs w t s Hs Hf md rk->Y9 T G n H0 w0 (crowd gs w sl) t:=by
 intro M;induction M using(ZtO n).induction with
 | _ M ih=>
 intro gs w sl t s Hs Hf md rk hM C;obtain⟨i,g,d,iD,hg,hr,bB⟩:=Go.Conc.crowd_pick (P:=p) (w:=w) (sl:=sl) C.awake (C.stuck hT);have hi:i<gs.size:=(qAl.1 hg).1;have ha:=(C.at d).ahead hi;have h:=C.st i hi;have kY:∀j,T.tag s j=if j=i then(Hf i).gh else T.tag s j:=λj=>by split;subst j;exact C.tag _ hi;rfl
 match rE:md i,h with
 | 0,h=>
  obtain⟨h0,hl,hn,x,q,hx,hq,hk⟩:=h;rw[hg]at hx;obtain rfl:=dO hx;exact Zs5 hT ih hM C hi h0 rE hl hn hg hr bB hq hk
 | 1,h=>
  obtain⟨h0,fr,cs,GH,⟨Hl,IX,oE⟩,hh,hn⟩:=h;have hR:=GH.lB hg hr;have BE:=fO.step mF.mono oE;rcases BE with uZ | rH | ⟨_,hsh⟩
  ·exact uZ.elim
  ·obtain⟨bW,bJ,eM,k',bV,gG⟩:=rH.2 (by show T.stl Hl.gh=true;rw[IX];exact hT.zI _ hh);have hm:=gN.still ha;have x9:=g9.still ha;refine OC ih hT hM C hi hg hR bB (eM _ _) (by rw[Lx];exact hm) (by rw[Lx];exact x9) kY rfl (aC _) (.inr λ_ h=>h) (.inl rfl) (m:=1) (k:=k') ?_ (.inr ⟨rE.symm,bV⟩);exact λfF gQ=>⟨h0,bW,bJ,.inl gQ,⟨Hl,IX,gG⟩,hh,hn⟩
  rcases hsh with⟨d',GD,_⟩ | ⟨rX,_⟩ | ⟨_,hsh⟩ | ⟨rX,_⟩
  ·rw[show(Hf i).gh=lv d' from IX.symm.trans GD]at hh;exact absurd hh (hT.AX d')
  ·rw[show Hl.gh=(Hf i).gh from IX]at rX;exact absurd hh (λ_=>hT.m9 _ rX hh)
  ·have QJ:Hp.aP Hl.gh=Hf i:=Hp.ext' (λb=>(hn b).symm) IX;rw[QJ]at hsh;rcases hsh s Hs t (w.at d) ha with⟨bW,bJ,w',H',s',eG,es,h1,h2,h3,h4,h5,h6,h7,BZ,h8,⟨IU,k',bV,gG⟩ | ⟨hl,k',_,gG⟩⟩ | mD
   ·refine OC ih hT hM C hi hg hR bB h1 h2 h3 h4 h5 h6 h7 BZ (m:=1) (k:=k') ?_ (.inr ⟨rE.symm,bV⟩);exact λfF gQ=>⟨h0,bW,bJ,.inl gQ,⟨Hl.tagged H'.gh,rfl,gG⟩,IU,h8⟩
   ·obtain⟨q,hq⟩:=Zsr hT k' bW bJ _ _ rfl gG;refine OC ih hT hM C hi hg hR bB h1 h2 h3 h4 h5 h6 h7 BZ (m:=0) (k:=.ofNat q) ?_ (.inl O);exact λfF gQ=>⟨h0,hl,h8,_,q,gQ,hq,rfl⟩
   exact Lu ih hT hM C hi hg hR bB mD λfF gQ=>by rw[rE];exact⟨h0,fr,cs,.inr (.inl ⟨gQ,mD.2⟩),⟨Hl,IX,oE⟩,hh,hn⟩
  rw[show Hl.gh=(Hf i).gh from IX]at rX;exact absurd hh (λ_=>hT.m9 _ rX hh)
 | 2,h=>
  obtain⟨h0,fr,cs,GH,oE,hh⟩:=h;have hR:=GH.lB hg hr;have BE:=fO.step mF.mono oE;rcases BE with uZ | rH | ⟨_,hsh⟩
  ·exact uZ.elim
  ·obtain⟨bW,bJ,w',H',es,eM,hf,⟨k',bV,gG⟩,oI⟩:=rH.1 (i == 0) (w.at d) ha.le;obtain⟨hm,x9⟩:=ZlS (fr:=fr) hT ha (.inl hh) hf oI;refine OC ih hT hM C hi hg hR bB eM hm x9 (λj=>by rw[hf.gh];exact kY j) rfl (aC _) (.inr λ_ h=>h) (.inl rfl) (m:=2) (k:=k') ?_ (.inr ⟨rE.symm,bV⟩);exact λfF gQ=>⟨h0,bW,bJ,.inl gQ,gG,by rw[hf.gh];exact hh⟩
  rcases hsh with⟨d',GD,_⟩ | ⟨_,hsh⟩ | ⟨rX,_⟩ | ⟨_,HU⟩
  ·rw[show(Hf i).gh=lv d' from GD]at hh;exact absurd hh (hT.tG d')
  ·rcases hsh s Hs t (w.at d) ha with⟨bW,bJ,w',H',s',eG,es,h1,h2,h3,h4,h5,h6,h7,BZ,⟨⟨k',bV,gG⟩,IU⟩ | ⟨IU,k',_,gG⟩⟩ | mD
   ·refine OC ih hT hM C hi hg hR bB h1 h2 h3 h4 h5 h6 h7 BZ (m:=2) (k:=k') ?_ (.inr ⟨rE.symm,bV⟩);exact λfF gQ=>⟨h0,bW,bJ,.inl gQ,gG,IU⟩
   ·refine OC ih hT hM C hi hg hR bB h1 h2 (g9.aP H'.gh) h4 h5 h6 h7 BZ (m:=1) (k:=k') ?_ (.inl O);exact λfF gQ=>⟨h0,bW,bJ,.inl gQ,⟨(Hf i).tagged H'.gh,rfl,gG⟩,IU,λ_=>rfl⟩
   exact Lu ih hT hM C hi hg hR bB mD λfF gQ=>by rw[rE];exact⟨h0,fr,cs,.inr (.inl ⟨gQ,mD.2⟩),oE,hh⟩
  ·exact absurd rX (hT.m9 _ hh)
  exact Zs4 hT hG ih hM C hi h0 hg hR bB rE oE HU
 | 3,h=>
  obtain⟨rfl,fr,cs,GH,oE,hh⟩:=h;have hR:=GH.lB hg hr;have BE:=fO.step mF.mono oE;rcases BE with P6 | rH | ⟨_,hsh⟩
  ·obtain rfl:=GH.NB hg hr;exact⟨0,gs,w,sl,t,s,Hs,Hf,md,rk,rfl,C,fr,cs,hg,P6⟩
  ·obtain⟨bW,bJ,w',H',es,eM,hf,⟨k',bV,gG⟩,oI⟩:=rH.1 (0 == 0) (w.at d) ha.le;obtain⟨hm,x9⟩:=ZlS (fr:=fr) hT ha (.inl hh) hf oI;refine OC ih hT hM C hi hg hR bB eM hm x9 (λj=>by rw[hf.gh];exact kY j) rfl (aC _) (.inr λ_ h=>h) (.inl rfl) (m:=3) (k:=k') ?_ (.inr ⟨rE.symm,bV⟩);exact λfF gQ=>⟨rfl,bW,bJ,.inl gQ,gG,by rw[hf.gh];exact hh⟩
  rcases hsh s Hs t (w.at d) ha with⟨bW,bJ,w',H',s',eG,es,h1,h2,h3,h4,h5,h6,h7,BZ,⟨k',bV,gG⟩,IU⟩ | mD | ⟨bW,bJ,kU,w',H',Hc,s',eG,es,h1,h2,h3,h4,h5,h6,h7,h8,h9,⟨k',bV,gG⟩,JB,JA,h13⟩ | HL
  ·refine OC ih hT hM C hi hg hR bB h1 h2 h3 h4 h5 h6 h7 BZ (m:=3) (k:=k') ?_ (.inr ⟨rE.symm,bV⟩);exact λfF gQ=>⟨rfl,bW,bJ,.inl gQ,gG,IU⟩
  ·exact Lu ih hT hM C hi hg hR bB mD λfF gQ=>by rw[rE];exact⟨rfl,fr,cs,.inr (.inl ⟨gQ,mD.2⟩),oE,hh⟩
  ·obtain⟨kc,hkc⟩:=h13.rank;have fJ:=Go.Conc.runT_crowd_spawn (P:=p) (sl:=iD) hg ((hR.step true _).trans h1);refine Y9.step (bB.trans fJ) ?_;have hC:=(C.at d).spawn h2 h3 h4 h5 h6 h7 h8 h9.1 h9.2 JB gG JA hkc;have e:YW 0 (T.next s) fr kU es=(((MemOp.ofEvents 0 g.frame.fn g.frame.place es).push { g:=0,fn:=g.frame.fn,pos:=g.frame.place,act:=.go gs.size }).push { g:=gs.size,fn:=(bT kU []).frame.fn,pos:=g.frame.place,act:=.start }:Trace):=by rw[C.size,hR.Js];rfl
   rw[e]at hC;refine ih _ ?_ _ _ _ _ _ _ _ _ _ rfl hC;rw[<-hM];exact ZlC h8 _ _
  exact Zs3 hT hG ih hM C hg hR bB rE oE HL
 | m+4,h=>exact h.elim
end
end
variable{p:Program}{H H' F:Hp}{gs:Array Goroutine}{w:World}{t:Trace}{q:Nat->Nat}{b:Nat}{R:Frame->List Frame->Hp->Prop}{fr:Frame}{cs:List Frame}
open Go.Conc (Knows Deaf touchAt QuitsD crowd woken Leavers Past)
open Go.ConcN (sumTo upd sumTo_upd upd_ne upd_same)
def K8(H:Hp)(n:Nat)(l:Loc):Prop:=∃b,l.gP=some b/\b<n/\H b=none
def yZ(t:Trace)(b:Nat):Prop:=∃i a,touchAt t i=some a/\a.loc.gP=some b/\¬ Knows t 0 i
structure jL(p:Program)(H:Hp)(gs:Array Goroutine)(w:World)(t:Trace)(q:Nat->Nat):Prop where
 jB:Leavers p t gs q
 lS:Past (K8 H w.heap.size) w.heap.size t
 le:H.le w
theorem jL.yN(h:jL p H gs w t q)(hb:yZ t b):H b=none:=by
 obtain⟨i,a,h1,h2,h3⟩:=hb;have hm:a.loc.isMemory=true:=by cases hl:a.loc<;>simp[hl,Loc.gP]at h2<;>rfl
 rcases h.lS.known i a h1 hm with h4 | ⟨⟨b',h4,_,h5⟩,_⟩
 ·exact absurd h4 h3
 rw[h2]at h4;obtain rfl:=dO h4;exact h5
theorem Mb{n n':Nat}(h:Past (K8 H n) n' t)(hn:n<=n')(hu:∀b,yZ t b->H' b=none):Past (K8 H' n') n' t:=by
 refine⟨h.clean,λi a h1 h2=>?_,h.over,h.hears,h.seen⟩;by_cases hk:Knows t 0 i
 ·exact .inl hk
 rcases h.known i a h1 h2 with h3 | ⟨⟨b,h3,h4,_⟩,h5⟩
 ·exact .inl h3
 exact .inr ⟨⟨b,h3,qAz h4 hn,hu b ⟨i,a,h1,h3,hk⟩⟩,h5⟩
structure OX(H:Hp)(w:World)(t:Trace)(H':Hp)(w':World)(t':Trace):Prop where
 out:wB w w'
 grown:w.heap.size<=w'.heap.size
 keep:∀b,b<w.heap.size->(∀o,H b≠some (o,true))->w'.heap[b]? = w.heap[b]?
 org:iY H .nil w H'
 yN:∀b,yZ t' b->yZ t b\/w.heap.size<=b\/∃o,H b=some (o,true)
 gh:H'.gh=H.gh
theorem iY.nil{K:Hp}(h:iY H .nil w K){x:Obj×Bool}(hx:K b=some x):w.heap.size<=b\/∃y,H b=some y/\(y.2=false->x=y):=
 (h b x hx).imp id λ⟨y,hy,he⟩=>⟨y,hy.resolve_right (by simp[Hp.nil]),he⟩
theorem Zjc(F:Hp):Hp.nil.Dis F:=λb x y h=>by simp[Hp.nil]at h
theorem OX.refl:OX H w t H w t:=
 ⟨.refl w,aC _,λ_ _ _=>rfl,λb x h=>.inr ⟨x,.inl h,λ_=>rfl⟩,λb h=>.inl h,rfl⟩
theorem OX.trans{H₁ H₂ H₃:Hp}{w₁ w₂ w₃:World}{t₁ t₂ t₃:Trace}(a:OX H₁ w₁ t₁ H₂ w₂ t₂)(b:OX H₂ w₂ t₂ H₃ w₃ t₃):OX H₁ w₁ t₁ H₃ w₃ t₃:=by
 have rA:∀x o,H₂ x=some (o,true)->w₁.heap.size<=x\/∃o',H₁ x=some (o',true):=by
  intro x o h;rcases a.org.nil h with h1 | ⟨⟨yo,yp⟩,h1,h2⟩
  ·exact .inl h1
  cases yp with
  | true=>exact .inr ⟨yo,h1⟩
  | false=>have:=h2 rfl;simp at this
 refine⟨a.out.trans b.out,qAT a.grown b.grown,λx hx hn=>?_,λx y hy=>?_,λx hx=>?_,b.gh.trans a.gh⟩
 ·rw[b.keep x (qAz hx a.grown) λo ho=>?_]
  ·exact a.keep x hx hn
  rcases rA x o ho with h | ⟨o',h⟩
  ·omega
  exact hn o' h
 ·rcases b.org.nil hy with h | ⟨z,hz,he⟩
  ·exact .inl (qAT a.grown h)
  rcases a.org.nil hz with h | ⟨v,hv,hf⟩
  ·exact .inl h
  refine .inr ⟨v,.inl hv,λh=>?_⟩;have e:=hf h;rw[<-e]at h ⊢;exact he h
 rcases b.yN x hx with h | h | ⟨o,h⟩
 ·exact a.yN x h
 ·exact .inr (.inl (qAT a.grown h))
 exact .inr (rA x o h)
theorem OX.frame{w':World}{t':Trace}(hc:H.Comp F)(h:OX H w t H' w' t'):OX (H.join F) w t (H'.join F) w' t':=by
 refine⟨h.out,h.grown,λb hb hn=>h.keep b hb λo ho=>hn o (Hp.aK ho),λb x hx=>?_,λb hb=>?_,by rw[Hp.bP,Hp.bP,h.gh]⟩
 ·simp only[Hp.aX]at hx;cases hh:H' b with
  | none=>rw[hh]at hx;exact .inr ⟨x,.inl (Hp.aS hc hx),λ_=>rfl⟩
  | some z=>
   rw[hh]at hx;obtain rfl:=dO hx;exact(h.org.nil hh).imp id λ⟨y,hy,he⟩=>⟨y,.inl (Hp.aK hy),he⟩
 exact(h.yN b hb).imp id (qCJ id λ⟨o,h⟩=>⟨o,Hp.aK h⟩)
def ZnG(p:Program)(R:Frame->List Frame->Hp->Prop)(H:Hp)(gs:Array Goroutine)(w:World)(sl:Option (Nat×Nat))(t:Trace):Prop:=
 ∃k fF w' iD t' q' H' bW bJ,runNT p k (crowd gs w sl) t=(.next (crowd fF w' iD),t')/\fF[0]? = some (bT bW bJ)/\jL p H' fF w' t' q'/\OX H w t H' w' t'/\R bW bJ H'
def UZ(p:Program)(R:Frame->List Frame->Hp->Prop)(fr:Frame)(cs:List Frame)(H:Hp):Prop:=
 ∀gs w sl t q,jL p H gs w t q->gs[0]? = some (bT fr cs)->ZnG p R H gs w sl t
theorem jL.left(h:jL p (H.join F) gs w t q):jL p H gs w t q:=
 ⟨h.jB,Mb h.lS (aC _) λb hb=>(Hp.dR.1 (h.yN hb)).1,h.le.left⟩
theorem UZ.frame(hc:H.Comp F)(h:UZ p R fr cs H):UZ p (λfr cs HF=>∃H',HF=H'.join F/\H'.Comp F/\R fr cs H') fr cs (H.join F):=by
 intro gs w sl t q ha h0;obtain⟨k,fF,w',iD,t',q',H',bW,bJ,h1,h2,h3,h4,h5⟩:=h gs w sl t q ha.left h0;have hF:F.le w:=ha.le.right hc;have hd:H'.Dis F:=h4.org.dis hF hc.mem (Zjc F);have Jf:F.le w':=Bu (Hs:=.nil) hc.mem (Zjc F) hF λb hb hn _=>h4.keep b hb hn;refine⟨k,fF,w',iD,t',q',H'.join F,bW,bJ,h1,h2,⟨h3.jB,Mb h3.lS (aC _) λb hb=>?_,?_⟩,h4.frame hc,H',rfl,⟨hd,by rw[h4.gh];exact hc.gh⟩,h5⟩
 ·refine Hp.dR.2 ⟨h3.yN hb,?_⟩;cases hfb:F b with
  | none=>rfl
  | some x=>
   rcases h4.yN b hb with h | h | ⟨o,h⟩
   ·rw[(Hp.dR.1 (ha.yN h)).2]at hfb;simp at hfb
   ·exact absurd (hF.lt hfb) O
   have:=(hc b _ _ h hfb).2;simp at this
 intro b o pm hb;simp only[Hp.aX]at hb;cases hh:H' b with
 | none=>rw[hh]at hb;exact Jf b o pm hb
 | some z=>rw[hh]at hb;exact h3.le b o pm (by rw[hh];exact hb)
theorem UZ.mono{R':Frame->List Frame->Hp->Prop}(hr:∀fr cs H,R fr cs H->R' fr cs H)(h:UZ p R fr cs H):UZ p R' fr cs H:=by intro gs w sl t q ha h0;obtain⟨k,fF,w',iD,t',q',H',bW,bJ,h1,h2,h3,h4,h5⟩:=h gs w sl t q ha h0;exact⟨k,fF,w',iD,t',q',H',bW,bJ,h1,h2,h3,h4,hr _ _ _ h5⟩
def Zvm(p:Program):Env where
 sh:=UZ p
 shMono:=λhr _ _ _ h=>h.mono hr
 shFrame:=λhc h=>h.frame hc
theorem Bm{p:Program}:∀{k k':Nat} {m m':Machine} {t t':Trace} {r:Stepped×Trace},runNT p k m t=(.next m',t')->runNT p k' m' t'=r->runNT p (k+k') m t=r
 | 0,k',m,m',t,t',r,h,h'=>by simp only[runNT,qAG,Stepped.next.injEq]at h;obtain⟨rfl,rfl⟩:=h;rw[qAu];exact h'
 | k+1,k',m,m',t,t',r,h,h'=>by
  rw[Nat.add_right_comm];cases hs:stepT p m with
  | mk e aI=>
   cases e with
   | next m1=>
    simp only[runNT,hs]at h ⊢;exact Bm h h'
   | ended o w=>simp[runNT,hs]at h
theorem Zyv 
  (hs:∀w,H.le w->∃bW bJ w' H' es,stepG p true (bT fr cs) w=.go (bT bW bJ) w' es/\Fr H w H' w'/\R bW bJ H'/\∀e∈es,EvL H w w'.heap.size e) :
  ∀(N:Nat) (gs:Array Goroutine) (w:World) (sl:Option (Nat×Nat)) (t:Trace) (q:Nat->Nat),sumTo gs.size q<=N->jL p H gs w t q->gs[0]? = some (bT fr cs)->ZnG p R H gs w sl t:=by
 intro N;induction N using Nat.strongRecOn with
 | _ N ih=>
 intro gs w sl t q hN ha h0;have hL:=ha.jB;have GH:∀g∈gs,Go.Conc.awake g:=by
  intro g hg;obtain⟨i,hi,rfl⟩:=qCa.1 hg;rcases qAv i with rfl | eU
  ·have:gs[0]=bT fr cs:=by simpa[qAE hi]using h0
   rw[this];exact Go.Conc.awake_of (.inl rfl)
  exact Go.Conc.awake_of ((hL.old i _ eU (qAE hi)).status.elim .inl λx=>.inr (.inr x))
 obtain⟨i,g,d,iD,hi,hg,bB⟩:=Go.Conc.crowd_pick (P:=p) (w:=w) (sl:=sl) GH ⟨0,_,h0,rfl⟩;have rG:0<gs.size:=(qAl.1 h0).1;rcases qAv i with rfl | eU
 ·obtain rfl:g=bT fr cs:=by rw[h0]at hi;exact(dO hi).symm
  have kK:H.le (w.at d):=ha.le;obtain⟨bW,bJ,w',H',es,h1,f,hR,he⟩:=hs (w.at d) kK;have fJ:=Go.Conc.runT_crowd_go (P:=p) (sl:=iD) (i:=0) hi (show stepG p (0 == 0) (bT fr cs) (w.at d)=_ from h1);have fP:((gs.map (woken p (bT fr cs) (bT bW bJ) w')).setIfInBounds 0 (bT bW bJ)).size=gs.size:=by simp
  have kR:∀op∈MemOp.ofEvents 0 (bT fr cs).frame.fn (bT fr cs).frame.place es,op.g=0:=λop bH=>by obtain⟨e,_,rfl⟩:=Go.Conc.mem_ofEvents bH;rfl
  have EF:∀b,yZ (t++MemOp.ofEvents 0 (bT fr cs).frame.fn (bT fr cs).frame.place es) b->yZ t b:=by
   rintro b ⟨j,a,hj,hb,hk⟩;obtain⟨x,hx,gC⟩:=Go.Conc.touch_of hj;rcases Go.Conc.getElem?_append_cases hx with⟨_,eP⟩ | ⟨_,xS⟩
   ·exact⟨j,a,by rw[Go.Conc.touchAt_of eP];exact gC,hb,λh=>hk (h.app _)⟩
   have:=Go.Conc.knows_own hx;rw[kR x xS]at this;exact absurd this hk
  have BI:∀b,yZ t b->H' b=none:=by
   intro b hb;have h2:=ha.yN hb;obtain⟨j,a,hj,mD,_⟩:=hb;obtain⟨x,hx,gC⟩:=Go.Conc.touch_of hj;have EJ:=MJ gC mD (ha.lS.seen x (Go.Conc.mem_of_getElem? hx));cases hh:H' b with
   | none=>rfl
   | some y=>exact absurd (f.new b h2 (by rw[hh];simp)) (Nat.not_le.2 EJ)
  have PM:Past (K8 H w.heap.size) w'.heap.size (t++MemOp.ofEvents 0 (bT fr cs).frame.fn (bT fr cs).frame.place es):=by
   refine(ha.lS.mono f.size).own λe hee=>?_;have pN:=he e hee;refine⟨λx hx hsh=>?_,?_,?_,?_⟩
   ·obtain⟨b,hb,bV,hn⟩:=hsh;rcases ZgU pN hx hb with⟨o,pm,h2,_⟩ | ⟨h2,_⟩
    ·rw[hn]at h2;simp at h2
    exact absurd bV (qCh.2 h2)
   ·rintro hm;rw[EvL,hm]at pN;exact pN
   ·rintro hm;rw[EvL,hm]at pN;exact pN
   have bV:∀b,((∃o p,H b=some (o,p)/\(e.write=true->p=true))\/(w.at d).heap.size<=b/\b<w'.heap.size)->b<w'.heap.size:=by
    rintro b (⟨o,pm,h2,_⟩ | h2)
    ·exact qAz (ha.le.lt h2) f.size
    exact h2.2
   obtain⟨loc,wr,sy⟩:=e;cases loc with
   | cell a=>
    obtain⟨rfl,h⟩:=pN;exact bV _ h
   | obj r=>
    obtain⟨rfl,h⟩:=pN;cases wr<;>exact bV _ h
   | mark m=>
    cases m<;>simp only[EvL]at pN<;>trivial
   | _=>simp only[EvL]at pN
  refine⟨1,(gs.map (woken p (bT fr cs) (bT bW bJ) w')).setIfInBounds 0 (bT bW bJ),w',iD,t++MemOp.ofEvents 0 (bT fr cs).frame.fn (bT fr cs).frame.place es,q,H',bW,bJ,by simp only[runNT,bB,fJ],by simp[rG],⟨⟨λj x hj hx=>?_,λj hj=>?_⟩,Mb PM f.size λb hb=>BI b (EF b hb),f.le⟩,
   ⟨⟨by rw[f.os];exact .refl _,f.tape,f.out⟩,f.size,f.keep,λb x hx=>?_,λb hb=>.inl (EF b hb),f.gh⟩,hR⟩
  ·have dG:0≠j:=O;rw[qAa dG,qBk]at hx;obtain⟨y,hy,rfl⟩:=qAm.1 hx;have hq:=hL.old j y hj hy;rw[Go.Conc.woken_quitsD hq,Go.Conc.Deaf_other t O _ kR];exact hq
  ·rw[Go.Conc.Deaf_other t (g':=0) (by simp at hj;omega) _ kR];exact hL.above j (by simpa using hj)
  cases hh:H b with
  | none=>exact .inl (f.new b hh (by rw[hx];simp))
  | some y=>
   refine .inr ⟨y,.inl rfl,λhy=>?_⟩;obtain⟨yo,yp⟩:=y;obtain rfl:yp=false:=hy;have:=f.ro b yo hh;rw[this]at hx;exact(dO hx).symm
 have hq:=hL.old i g eU hi;have bD:(i == 0)=false:=by simp;omega
 have bV:i<gs.size:=(qAl.1 hi).1;cases KQ:q i with
 | zero=>rw[KQ]at hq;rw[hq.1]at hg;cases hg
 | succ k=>
  rw[KQ]at hq;rcases hq with⟨hf,_⟩ | ⟨_,g',es,hm,HJ,qD⟩
  ·rw[hf]at hg;cases hg
  have fJ:=Go.Conc.runT_crowd_go (P:=p) (sl:=iD) (i:=i) hi (by rw[bD];exact HJ (w.at d));have fP:((gs.map (woken p g g' (w.at d))).setIfInBounds i g').size=gs.size:=by simp
  have aIM:sumTo gs.size (upd q i k)+(k+1)=sumTo gs.size q+k:=by have:=sumTo_upd q k id bV;simpa[KQ]using this
  have rT:=ZlB (i:=i) (fr:=g.frame) hm;have kR:∀op∈MemOp.ofEvents i g.frame.fn g.frame.place es,op.g=i:=λop bH=>by obtain⟨e,_,rfl⟩:=Go.Conc.mem_ofEvents bH;rfl
  have EF:∀b,yZ (t++MemOp.ofEvents i g.frame.fn g.frame.place es) b->yZ t b:=by
   rintro b ⟨j,a,hj,hb,hk⟩;obtain⟨x,hx,gC⟩:=Go.Conc.touch_of hj;rcases Go.Conc.getElem?_append_cases hx with⟨_,eP⟩ | ⟨_,xS⟩
   ·exact⟨j,a,by rw[Go.Conc.touchAt_of eP];exact gC,hb,λh=>hk (h.app _)⟩
   rw[(rT x xS).y9]at gC;simp at gC
  have BF:Past (K8 H w.heap.size) w.heap.size (t++MemOp.ofEvents i g.frame.fn g.frame.place es):=ha.lS.mute O hm;have hC:jL p H ((gs.map (woken p g g' (w.at d))).setIfInBounds i g') (w.at d) (t++MemOp.ofEvents i g.frame.fn g.frame.place es) (upd q i k):=by
   refine⟨⟨λj x hj hx=>?_,λj hj=>?_⟩,BF,ha.le⟩
   ·by_cases gO:i=j
    ·subst gO;rw[qAn (by simpa using bV)]at hx;obtain rfl:=dO hx;rw[upd_same,Go.Conc.Deaf_own];exact qD
    rw[qAa gO,qBk]at hx;obtain⟨y,hy,rfl⟩:=qAm.1 hx;have Ty:=hL.old j y hj hy;rw[Go.Conc.woken_quitsD Ty,upd_ne q k (qAi gO),Go.Conc.Deaf_other t gO _ kR];exact Ty
   rw[Go.Conc.Deaf_other t (g':=i) (by simp at hj;omega) _ kR];exact hL.above j (by simpa using hj)
  obtain⟨k2,QS,w2,M3,t2,q2,H2,QU,Q2,e1,e2,e3,e4,e5⟩:=ih (N-1) O _ (w.at d) iD _ _ (by rw[fP];omega) hC (by have dG:i≠0:=O;rw[qAa dG,qBk,h0];simp[Go.Conc.woken_run (show(bT fr cs).status=.running from rfl)]);refine⟨k2+1,QS,w2,M3,t2,q2,H2,QU,Q2,by simp only[runNT,bB,fJ];exact e1,e2,e3,?_,e5⟩;have:OX H w t H (w.at d) (t++MemOp.ofEvents i g.frame.fn g.frame.place es):=⟨⟨.refl _,rfl,rfl⟩,aC _,λ_ _ _=>rfl,λb x h=>.inr ⟨x,.inl h,λ_=>rfl⟩,λb hb=>.inl (EF b hb),rfl⟩;exact this.trans e4
theorem ZpH{P:bF}(hP:P.sh=UZ P.toProgram){G:Frame->List Frame->Hp->Prop}(h:Reach P G fr cs H):UZ P.toProgram G fr cs H:=by
 refine h (UZ P.toProgram G) (λfr cs H hg gs w sl t q ha h0=>⟨0,gs,w,sl,t,q,H,fr,cs,rfl,h0,ha,.refl,hg⟩) ?_ ?_
 ·intro fr cs H hs gs w sl t q ha h0;obtain⟨k,fF,w',iD,t',q',H',bW,bJ,h1,h2,h3,h4,h5⟩:=Zyv (hs.1 true) _ gs w sl t q (aC _) ha h0;obtain⟨k2,QS,w2,M3,t2,q2,H2,QU,Q2,e1,e2,e3,e4,e5⟩:=h5 fF w' iD t' q' h3 h2;exact⟨k+k2,QS,w2,M3,t2,q2,H2,QU,Q2,Bm h1 e1,e2,e3,h4.trans e4,e5⟩
 intro fr cs H hs gs w sl t q ha h0;rw[hP]at hs;obtain⟨k,fF,w',iD,t',q',H',bW,bJ,h1,h2,h3,h4,h5⟩:=hs gs w sl t q ha h0;obtain⟨k2,QS,w2,M3,t2,q2,H2,QU,Q2,e1,e2,e3,e4,e5⟩:=h5 fF w' iD t' q' h3 h2;exact⟨k+k2,QS,w2,M3,t2,q2,H2,QU,Q2,Bm h1 e1,e2,e3,h4.trans e4,e5⟩
