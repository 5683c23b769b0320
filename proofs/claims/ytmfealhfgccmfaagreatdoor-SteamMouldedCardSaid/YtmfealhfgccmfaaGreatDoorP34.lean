import Derived.Test.YtmfealhfgccmfaaGreatDoorP27
import Derived.Test.YtmfealhfgccmfaaGreatDoorP33
set_option linter.all false
set_option maxHeartbeats 8000000
set_option maxRecDepth 20000
def TS{G:Prop}(h:G:=by
  rintro w _ ⟨rfl,rfl⟩;refine Y ?_;rw[<-e1,<-e2];refine OI (λh2=>?_) (λh2=>?_)
  ·have e:iR K (j+1)=j:=by rw[iR,qAa h2]
   exact D6
  have e:iR K (j+1)=iR K j:=by rw[iR,iF h2]
  exact D6):G:=h
def GR{G:Prop}(h:G:=by have:j=l.length:=O;subst this;refine Y ?_;refine⟨rfl,?_⟩;show vi (iR K l.length)=vi (Zs K);rw[Zs,hKl]):G:=h
open Go Go.LL
namespace Go.Proofs
variable{H' H0:Hp}{b b':Sb}{ts:List N4}{Aw:Option Addr}{cw:Nat}{l:List Te}{v:Value}
def ZgP:Yw Tryz.prog 325=some (1,some (.chan none),8):=U
def Zq.lY{H:Hp}(h:Zq H b)(i:Vb H H'):Zq H' b:=⟨h.pk.lY i,h.nt.lY i,λx a=>(h.ps x a).lY i,h.q1,h.q2⟩
def MZ(b:Sb)(ts:List N4):Prop:=
 ∀(H:Hp) (v:Value) (f:Option Nat) (es:List Te) (d:List Nat),l9 H 258 8 v (Zd es) es.length f->es.length=d.length->d.Nodup->(∀m∈d,1<=m/\m<=(Zu b.pk.length).length) ->
  (∀k (g:k<d.length) (h:k<es.length),UK b ts (Z1 b.pk.length d[k]) es[k] H) ->
  LL.Zb PL 214 #[v,vf 215] H λ_ e=>(∀x y,f≠some x->H x=some y->e x=some y)/\∃(a:List Te) (c:List Nat),c.Perm d/\c.Pairwise (·<·)/\a.length=c.length/\l9 e 258 8 v (Zd a) a.length f /\
   ∀k (g:k<c.length) (h:k<a.length),UK b ts (Z1 b.pk.length c[k]) a[k] e
def UK.inc{p:List Int}{e:Te}{H:Hp}(h:UK b ts p e H)(f:∀x y,H x=some y->H' x=some y):UK b ts p e H':=by obtain⟨a,c,a3,r,rest,a4,d⟩:=h;exact⟨a,c,a3,r,rest,a4,f _ _ d⟩
section
theorem Zoz{P:fP}[Tz P][Loud P](DT:P=PP){H:Hp}(val:gY b)(pD:1<=ts.length/\ts.length<=1000)(Tv:∀t∈ts,YA t)(hb:Zq H b)(KZ:aM H ⟨3,0,none⟩ [vf 407])(hw:dF H (.slice Aw ts.length cw) ts)(RZ:MZ b ts) :
  LL.Zb P 140 #[YC b (.slice Aw ts.length cw)] H λv F=>fI H F/\∃(es:List Te) (A:Option Addr) (c:Nat) (ms:List Nat),v=.slice A es.length c/\dF F v es/\ms.Pairwise (·<·)/\(∀m,m∈ms↔1<=m/\m<=(Zu b.pk.length).length/\Ui b ts m=true)/\es.length=ms.length /\
   ∀k (h1:k<ms.length) (h2:k<es.length),UK b ts (Z1 b.pk.length ms[k]) es[k] F:=by
 obtain⟨WX,hu⟩:=Zgw
 have hN:=Az val.n
 refine aU.m (fO Zyp) rfl ?_
 unfold Zkx YC
 refine Y ?_
 refine Ug rfl (OL _) λr1 NZ=>?_
 have i1:=Zt (o:=.cells (YC b (.slice Aw ts.length cw)).cells 251) NZ
 have c1:aM (H.ins r1 (.cells (YC b (.slice Aw ts.length cw)).cells 251)) ⟨r1,0,none⟩ [vi b.pl,vi b.hd,vi b.td,.slice b.A1 b.pk.length b.c1,.slice b.A2 b.nt.length b.c2,.slice Aw ts.length cw]:=VR
 unfold YC at i1 c1
 generalize H.ins r1 (.cells (Value.agg #[vi b.pl,vi b.hd,vi b.td,.slice b.A1 b.pk.length b.c1,.slice b.A2 b.nt.length b.c2,.slice Aw ts.length cw]).cells 251)=Q at *
 refine Y ?_
 refine Zth (fU hu) (fT Q0) (OL _) λch hch=>?_
 have i2:=Zt (o:=.chan 0 #[] false 0 0 false) hch
 have a2:(Q.ins ch (.chan 0 #[] false 0 0 false)) ch=some (.chan 0 #[] false 0 0 false,true):=Hp.aQ _ _ _
 generalize Q.ins ch (.chan 0 #[] false 0 0 false)=H2 at *
 refine Y ?_
 refine VY (fT ZgP) (OL _) λrC Si=>?_
 refine Y ?_
 refine VV (fT ZgP) rfl rfl (Hp.aQ _ _ _) rfl rfl (OL _) ?_
 rw[Uy]
 have i3:=Zt (o:=.cells #[.chan (some ch)] 325) Si
 have a3:(H2.ins rC (.cells #[.chan (some ch)] 325)) rC=some (.cells #[.chan (some ch)] 325,true):=Hp.aQ _ _ _
 generalize H2.ins rC (.cells #[.chan (some ch)] 325)=H3 at *
 refine Y ?_
 refine VY (fT Zol) (OL _) λM hM=>?_
 have i4:=Zt (o:=.cells (Value.agg #[.int .i32 0,.int .u32 0]).cells 332) hM
 have a4:(H3.ins M (.cells (Value.agg #[.int .i32 0,.int .u32 0]).cells 332)) M=some (.cells #[.int .i32 (0:Nat),.int .u32 (0:Nat)] 332 (0,0),true):=Hp.aQ _ _ _
 generalize H3.ins M (.cells (Value.agg #[.int .i32 0,.int .u32 0]).cells 332)=H4 at *
 refine Y ?_
 refine VY (fT Zok) (OL _) λW hW=>?_
 have i5:=Zt (o:=.cells (Value.agg #[.int .u64 0,.int .u32 0]).cells 339) hW
 have a5:(H4.ins W (.cells (Value.agg #[.int .u64 0,.int .u32 0]).cells 339)) W=some (.cells #[.int .u64 (0:Nat),.int .u32 (0:Nat)] 339 (0,0),true):=Hp.aQ _ _ _
 generalize H4.ins W (.cells (Value.agg #[.int .u64 0,.int .u32 0]).cells 339)=H5 at *
 refine Y ?_
 refine VY (fT ZgR) (OL _) λrF E=>?_
 have i6:=Zt (o:=.cells (Value.slice none 0 0).cells 262) E
 have a6:(H5.ins rF (.cells (Value.slice none 0 0).cells 262)) rF=some (.cells #[.slice none 0 0] 262 (0,0),true):=Hp.aQ _ _ _
 generalize H5.ins rF (.cells (Value.slice none 0 0).cells 262)=H8 at *
 refine OB ?_
 refine Zua ?_
 subst DT
 have i16:fI Q H8:=(((i2.trans i3).trans i4).trans i5).trans i6
 have a2':=(((i3.trans i4).trans i5).trans i6) _ _ a2
 have a3':=((i4.trans i5).trans i6) _ _ a3
 have a4':=(i5.trans i6) _ _ a4
 have W5:=i6 _ _ a5
 have n1:Q ch=none:=hch
 have n2:Q M=none:=YP (i2.trans i3) hM
 have n3:Q W=none:=YP ((i2.trans i3).trans i4) hW
 have n4:Q rF=none:=YP (((i2.trans i3).trans i4).trans i5) E
 have d1:M≠W:=by rintro rfl;rw[a4]at hW;simp at hW
 have d2:ch≠M:=by rintro rfl;rw[i3 _ _ a2]at hM;simp at hM
 have d3:ch≠W:=by rintro rfl;rw[i4 _ _ (i3 _ _ a2)]at hW;simp at hW
 have d4:rF≠ch:=by rintro rfl;rw[i5 _ _ (i4 _ _ (i3 _ _ a2))]at E;simp at E
 have d5:rF≠M:=by rintro rfl;rw[i5 _ _ a4]at E;simp at E
 have d6:rF≠W:=by rintro rfl;rw[a5]at E;simp at E
 have d7:rC≠ch:=by rintro rfl;rw[a2]at Si;simp at Si
 have d8:rC≠M:=by rintro rfl;rw[a3]at hM;simp at hM
 have d9:rC≠W:=by rintro rfl;rw[i4 _ _ a3]at hW;simp at hW
 have d10:rC≠rF:=by rintro rfl;rw[i5 _ _ (i4 _ _ a3)]at E;simp at E
 let B:Hp:=⟨λx=>if x=ch\/x=M\/x=W\/x=rF then none else H8 x,[]⟩
 let Hl:Hp:=⟨λx=>if x=rF then H8 x else none,[]⟩
 have Wq:∀x,B x=if x=ch\/x=M\/x=W\/x=rF then none else H8 x:=λx=>rfl
 have Jy:∀x,Hl x=if x=rF then H8 x else none:=λx=>rfl
 have hS:PM H8 M W ch 332 339 B Hl:=by
  refine⟨d1,d2,d3,a2',a4',W5,λx y Z=>?_,λx y Z=>?_⟩
  ·rw[Wq]at Z;by_cases e:x=ch\/x=M\/x=W\/x=rF
   ·rw[qAa e]at Z;simp at Z
   rw[iF e]at Z;exact⟨Z,λh=>e (.inr (.inl h)),λh=>e (.inr (.inr (.inl h))),λh=>e (.inl h),by rw[Jy,iF λh=>e (.inr (.inr (.inr h)))]⟩
  rw[Jy]at Z;by_cases e:x=rF
  ·subst e;rw[qAa rfl]at Z;exact⟨Z,d5,d6,d4⟩
  rw[iF e]at Z;simp at Z
 have AF:fI Q B:=λx y h=>by
  have h8:=i16 _ _ h;rw[Wq,iF]
  ·exact h8
  rintro(rfl | rfl | rfl | rfl)
  ·rw[n1]at h;simp at h
  ·rw[n2]at h;simp at h
  ·rw[n3]at h;simp at h
  rw[n4]at h;simp at h
 have Wt:B rC=some (.cells #[.chan (some ch)] 325,true):=by
  rw[Wq,iF]
  ·exact a3'
  rintro(e | e | e | e)
  ·exact d7 e
  ·exact d8 e
  ·exact d9 e
  exact d10 e
 have Sx:∀x y,B x=some y->H8 x=some y:=λx y h=>(hS.own x y h).1
 have hFl:Hl rF=some (.cells #[.slice none 0 0] 262 (0,0),true):=by rw[Jy,qAa rfl];exact a6
 have hFo:∀x y,Hl x=some y->y.2=true:=λx y h=>by
  rw[Jy]at h;by_cases e:x=rF
  ·subst e;rw[qAa rfl,a6]at h;obtain rfl:=aT h;rfl
  rw[iF e]at h;simp at h
 have NR:∀base n0 old,Cx.Ok { M:=M,W:=W,ch:=ch,base:=base,n0:=n0,old:=old,tM:=332,tW:=339,K:=2,need:=Ui b ts,PI:=Ba b ts rF,N:=(Zu b.pk.length).length,msg:=λm v B=>UJ (Z1 b.pk.length m) v B }:=λbase n0 old=>
  ⟨d1,d2,d3,by show 1<=2;omega,rfl,λl H ⟨v,bb,es,h⟩=>h.all,by show 2<=100000000;decide,λl H g ⟨v,bb,es,h⟩=>⟨v,bb,es,h.at_,h.own,h.ne,h.all,h.len,λk h1 h2=>⟨(h.fit k h1 h2).td,(h.fit k h1 h2).n,(h.fit k h1 h2).c,(h.fit k h1 h2).bk⟩,h.nd,h.rg⟩⟩
 refine ZvY (K:=2) (N:=(Zu b.pk.length).length) (need:=Ui b ts) (PI:=Ba b ts rF) (msg:=λm v B=>UJ (Z1 b.pk.length m) v B) hS ⟨.slice none 0 0,none,[],hFl,.nil _ _ _,by simp,hFo,rfl,λk h1 h2=>absurd h1 (by simp),List.nodup_nil,λm hm=>by simp at hm⟩ NR λbase n0 old pL=>?_
 clear_value B Hl
 have ok:=NR base n0 old
 obtain⟨c,a⟩:∃c:Cx,c={ M:=M,W:=W,ch:=ch,base:=base,n0:=n0,old:=old,tM:=332,tW:=339,K:=2,need:=Ui b ts,PI:=Ba b ts rF,N:=(Zu b.pk.length).length,msg:=λm v B=>UJ (Z1 b.pk.length m) v B }:=⟨_,rfl⟩
 rw[<-a]at ok ⊢
 have cM:c.M=M:=by rw[a]
 have cW:c.W=W:=by rw[a]
 have cC:c.ch=ch:=by rw[a]
 have cK:c.K=2:=by rw[a]
 have cN:c.N=(Zu b.pk.length).length:=by rw[a]
 have R:c.need=Ui b ts:=by rw[a]
 have cP:c.PI=Ba b ts rF:=by rw[a]
 have EA:c.msg=λm v B=>UJ (Z1 b.pk.length m) v B:=by rw[a]
 clear a
 obtain⟨X,G⟩:∃X,X=pm c:=⟨_,rfl⟩
 have iT:Tz X:=G ▸ inferInstance
 have iL:Loud X:=G ▸ inferInstance
 have T:∀g,X.still g=false:=Loud.fD
 have LA:∀{n:Nat} {H:Hp},H.cg=[30,n]->LL.Zb X 207 #[pt W,vi 1] H λ_ F=>F=H.tagc [33,n]:=λ{n H} h=>by rw[G,<-cW];exact Zzs ok h
 have RQ:∀{H:Hp},H.cg=[30,2]->H.hd=0->LL.Zb X 213 #[pt W] H λ_ F=>Znu c H F:=λ{H} h h2=>by rw[G,<-cW];exact ZnT ok (by rw[cK];exact h) h2
 have R1:∀{d:Option Nat} {next:fG->Hp->Prop} {σ:fG} {x y:Operand} {ty:TypeId} {v:Value} {r:Nat} {Q B:Hp},Q.gh=(r+3) :: [30,2]->Q.Comp B->B.gh=[]->c.msg (c.N-r) v B->σ.get x=some (.chan (some ch))->σ.get y=some v->next (σ.set d undef) (Q.tagged ((r+2) :: [30,2]))->(fR.raw (.send x y) ty).m X d next σ (Q.join B):=by
  intro d next σ x y ty v r Q B g1 g2 g3 g4 g5 g6 g7
  rw[G];exact Ztc (by rw[cK];exact g1) g2 g3 g4 (by rw[cC];exact g5) g6 (by rw[cK];exact g7)
 have K7:∀{d:Option Nat} {next:fG->Hp->Prop} {σ:fG} {x:Operand} {ty:TypeId} {ts:Array TypeId} {n:Nat} {H:Hp},H.gh=[2,30,n]->σ.get x=some (.chan (some ch))->next (σ.set d (.tuple #[])) (H.tagged [1,30,n])->(fR.raw (.call { callee:=.builtin .close,args:=#[x],argTypes:=ts }) ty).m X d next σ H:=by
  intro d next σ x ty ts n H g1 g2 g3
  rw[G];exact ZtA ok g1 (by rw[cC];exact g2) g3
 have DS:∀{wk nr:Bool} {n:Nat} {K:Hp},K.cg=[30,n]->n<2->Vb B K->Zm X (pure (.spawn { target:=.fn (.func 208) #[pt W,pt rC,pt r1,pt M,pt rF],args:=#[]++([]:List Value).toArray })) wk nr (K.tagc [33,n]) λv K'=>v=undef/\K'=C8 (K.tagc [33,n]) [K.hd+1,30,n+1]:=by intro wk nr n K Wi hn hi;rw[G];have Tq:Vb B (C8 (K.tagc [33,n]) [1,1]):=(hi.trans (Al K _)).trans (ZhE _ _);have KX:Vb H (C8 (K.tagc [33,n]) [1,1]):=(i1.trans AF).lY.trans Tq;refine Zur ok ⟨_,_,rfl⟩ (λw=>rfl) rfl (by rw[cK];exact hn) (ZhD _ _) (ZhD _ _) (ZpL _ _ _) rfl rfl (Zp2 Tryz.func208 rfl rfl ?_);have:=Zox (i:=c.base+n) ok (ts:=ts) (Aw:=Aw) (cw:=cw) (rF:=rF) (rC:=rC) (r1:=r1) val pD Tv cP cN R EA (H:=C8 (K.tagc [33,n]) [1,1]) rfl (by rw[cC];exact(ZM (cs:=[.chan (some ch)]) Wt).lY Tq) ((c1.inc AF).lY Tq) (hb.lY KX) (hw.lY KX) (KZ.lY KX);rw[cM,cW]at this;exact this
 have Wc:∀{F L:Hp},Vb B F->Upg H8 F L->fI H L:=by
  intro F L hi hu x y Z;have Ro:Q x=some y:=i1 _ _ Z;have RO:=AF _ _ Ro;have hx8:=Sx _ _ RO;obtain⟨o,p⟩:=y;obtain⟨p',h1,h2⟩:=hi _ _ _ RO;cases Rm:L x with
  | none=>rw[(hu.dom x).1 Rm]at h1;simp at h1
  | some z=>
   obtain⟨k1,k2,k3,k4⟩:=hu.val x z _ Rm h1;obtain⟨o',p''⟩:=z;simp only at k1 k2 k3 k4;subst k1;congr 2;cases p with
   | true=>exact k3 ⟨_,hx8⟩
   | false=>
    cases p'' with
    | false=>rfl
    | true=>exact(h2 (k4 _ hx8 rfl)).symm
 have KR:∀k (hk:k<(Zu b.pk.length).length) v Hv,UJ (Zu b.pk.length)[k] v Hv->∀r,r+k+1=(Zu b.pk.length).length->c.msg (c.N-r) v Hv:=by intro k hk v Hv h r hr;rw[EA,cN,show(Zu b.pk.length).length-r=k+1 by omega];show UJ (Z1 b.pk.length (k+1)) v Hv;unfold Z1;rw[qBE,ZG hk];exact h
 rw[show(fX Tryz.prog c).prgM=X from G.symm]
 clear G
 obtain⟨N,hNN⟩:∃N,N=(Zu b.pk.length).length:=⟨_,rfl⟩
 have Xe:∀{K:Hp} {n:Nat} {l:List Nat},K.cg=l->l≠[]->K.hd=n->K.gh=(n+1) :: l:=by
  intro K n l h1 h2 h3;unfold Hp.cg at h1;unfold Hp.hd at h3;generalize K.gh=g at *;match g with
  | []=>simp[ZV]at h1;exact absurd h1 h2
  | 0 :: t=>simp[ZV]at h1;exact absurd h1 h2
  | (k+1) :: t=>simp[ZV]at h1;simp[OP]at h3;subst h1 h3;rfl
 refine Y ?_
 refine ZC 2 (λj F=>F.cg=[30,j]/\F.hd=N+1/\Vb B F) (λj=>[(1,pt r1),(2,.slice none 0 0),(3,pt rC),(4,pt M),(5,pt W),(6,pt rF),(9,vi j)]) (λ_=>[]) ⟨rfl,by rw[hNN];rfl,Al B _⟩ V trivial ?_
 rintro n K hn ⟨g1,g2,g3⟩
 refine Y ?_
 refine OI (λh1=>?_) (λh1=>?_)
 ·have Jj:n<2:=O;refine Y ?_;refine Zg (LA g1) ?_;rintro v _ rfl;refine Y ?_;refine VW rfl rfl (Y ?_);refine Ztu (f:=208) (first:=#[]) (vs:=[]) rfl rfl (DS g1 Jj g3) ?_;rintro v _ ⟨rfl,rfl⟩;refine Y ?_;exact⟨⟨n+1,O⟩,gI O,⟨rfl,g2,(g3.trans (Al K _)).trans (ZhE _ _)⟩,V,trivial,rfl⟩
 ·have:n=2:=O;subst this;refine Y ?_;refine Zn (cs:=[vi b.pl,vi b.hd,vi b.td,.slice b.A1 b.pk.length b.c1,.slice b.A2 b.nt.length b.c2]) (T _) rfl (by rw[add_zero];exact YN (ds:=[.slice Aw ts.length cw]) ((c1.inc AF).lY g3)) rfl (Y ?_);refine VW rfl rfl (Y ?_);refine Zt5 T rfl (ZsG (b:=b) (by have:=val.n;omega)) (λn vs Hv h=>by obtain⟨v,rfl,_⟩:=h;rfl) (λk F=>F.gh=(N-k+2) :: [30,2]/\Vb B F) (λe F=>False) ⟨by rw[qBl];exact Xe g1 (by simp) g2,g3⟩
   (λk K J hc ⟨q1,q2⟩=>⟨by rw[Hp.gB,q1,hc.gh.resolve_left (by rw[q1];simp)];rfl,q2.trans (Um _ _).lY⟩) (λe K J hc h=>h) (λ_ _ _=>trivial) ?_ ?_ ?_
  ·rintro k hk vs Hv K2 ⟨v,rfl,Jo,hE⟩ SM Jv ⟨q1,q2⟩;refine Y ?_;refine Zh (T _) rfl (((ZM (cs:=[.chan (some ch)]) Wt).lY q2).inc (Um _ _)) (Y ?_);refine R1 (r:=N-k-1) (by rw[q1];congr 1;omega) Jv SM (KR k Jo v Hv hE _ O) rfl rfl (Y ?_);exact⟨by show(N-k-1+2) :: [30,2]=(N-(k+1)+2) :: [30,2];rw[Nat.sub_sub],q2.trans (Al K2 _)⟩
  ·rintro K3 ⟨q1,q2⟩;rw[<-hNN,qCf]at q1;refine Y ?_;refine Zh (T _) rfl ((ZM (cs:=[.chan (some ch)]) Wt).lY q2) (Y ?_);refine K7 (n:=2) q1 rfl (Y ?_);refine Zg (RQ rfl rfl) ?_;rintro v _ ⟨l,Ie,KP,lZ,Tu,hnd,B7,F3,rfl⟩;rw[cP]at KP;obtain⟨fv,Xq,es,C⟩:=KP;have hJ:∀x y,Ie x=some y->(((K3.tagged [1,30,2]).tagc [40]).join Ie) x=some y:=λx y h=>Hp.fS F3 h;have Jq:(((K3.tagged [1,30,2]).tagc [40]).join Ie).gh=[1,40]:=by rw[Hp.gB,B7];rfl
   have i11:Vb B (((K3.tagged [1,30,2]).tagc [40]).join Ie):=(q2.trans (Al K3 _)).trans (Um _ _).lY;have Jx:∀x o p,B x=some (o,p)->Xq≠some x:=λx o p h e=>by
    obtain⟨p',h5,_⟩:=q2 _ _ _ h;obtain⟨_,⟨_,_,q⟩ | ⟨r,cap,Q7,q,_,h9,_⟩⟩:=C.own
    ·rw[e]at q;simp at q
    rw[e]at q;obtain rfl:=aT q;obtain⟨e4,e5⟩:=F3.mem x _ _ (show((K3.tagged [1,30,2]).tagc [40]) x=some (o,p')from h5) h9;rw[e4]at e5;simp at e5
   generalize((K3.tagged [1,30,2]).tagc [40]).join Ie=H11 at *;have o11:=C.own.sub λx y _ h=>hJ x y h;have f11:=hJ _ _ C.at_;refine Y ?_;refine Zh (T _) rfl (ZM (cs:=[fv]) f11) (Y ?_);have Jf:=RZ H11 fv Xq es l o11 C.len C.nd C.rg (λk h1 h2=>(C.fit k h1 h2).inc hJ);rw[show(PL:fP)=Zfw X.toProgram by rw[Tz.prog (P:=X)]]at Jf;refine Zg (ZfZ (T _) (λv K J hc ⟨a1,S,Qz,a2,a3,a4,a5,a6⟩=>⟨λx y h h'=>Hp.eN (a1 x y h h'),S,Qz,a2,a3,a4,a5.sub λx y _ h=>Hp.eN h,λk h1 h2=>(a6 k h1 h2).inc λx y h=>Hp.eN h⟩) Jf) ?_;rintro w Pa ⟨⟨k1,S,Qz,p1,p2,p3,p4,p5⟩,g12⟩;have p9:Vb B Pa:=λx o p h=>by obtain⟨p',h5,h6⟩:=i11 _ _ _ h;exact⟨p',k1 _ _ (Jx x o p h) h5,h6⟩
   obtain⟨A3,c3,rfl,q4⟩:=p4.cells;refine Y ?_;refine Zh (T _) rfl (ZM (cs:=[.slice A3 S.length c3]) (k1 _ _ C.ne f11)) (Y ?_);refine⟨by rw[g12,Jq],λL hu=>?_⟩;refine Y ?_;have NV:∀x o,Pa x=some (o,true)->L x=some (o,true):=λx o h=>by
    cases hz:L x with
    | none=>rw[(hu.dom x).1 hz]at h;simp at h
    | some z=>
     obtain⟨q5,q6,_,_⟩:=hu.val x z _ hz h;obtain⟨z1,z2⟩:=z;simp only at q5 q6;rw[q5,q6 trivial]
   have p4':l9 L 258 8 (.slice A3 S.length c3) (Zd S) S.length Xq:=p4.sub λx y e h=>by
    obtain⟨_,⟨_,_,q⟩ | ⟨r,cap,Q7,q,_,h9,_⟩⟩:=id p4
    ·rw[e]at q;simp at q
    rw[e]at q;obtain rfl:=aT q;rw[h9]at h;obtain rfl:=aT h;exact NV _ _ h9
   refine⟨Wc p9 hu,S,A3,c3,Qz,rfl,?_,p2,λm=>?_,p3,λk h1 h2=>?_⟩
   ·obtain⟨A,c',q5,q6⟩:=p4'.cells;exact⟨A,c',q5,λhn=>q6 (by simpa using hn)⟩
   ·rw[p1.mem_iff];constructor
    ·intro hm;obtain⟨q5,q6,q7⟩:=Tu m hm;rw[cN]at q6;rw[R]at q7;exact⟨q5,q6,q7⟩
    rintro⟨q5,q6,q7⟩;exact lZ m q5 (by rw[cN];exact q6) (by rw[R];exact q7)
   obtain⟨a1,a2,a3,r,rest,a4,a5⟩:=p5 k h1 h2;exact⟨a1,a2,a3,r,rest,a4,NV _ _ a5⟩
  rintro e K3 he h;exact h.elim
end
def lE(b:Sb)(ts:List N4):List Nat:=((List.range (Zu b.pk.length).length).map (·+1)).filter (Ui b ts)
def DD{m:Nat}:m∈lE b ts↔1<=m/\m<=(Zu b.pk.length).length/\Ui b ts m=true:=by
 rw[lE,qAu,qAy];constructor
 ·rintro⟨⟨k,c,rfl⟩,h⟩;have:=qAA.1 c;exact⟨O,O,h⟩
 rintro⟨d,e,a⟩;exact⟨⟨m-1,qAA.2 O,O⟩,a⟩
def Zue(b:Sb)(ts:List N4):(lE b ts).Pairwise (·<·):=by refine List.Pairwise.filter _ ?_;rw[qDQ];exact List.pairwise_lt_range.imp λh=>by omega
def Zy8{l c:List Nat}(d:l.Pairwise (·<·))(e:c.Pairwise (·<·))(h:∀m,m∈l↔m∈c):l=c:=by have p:l.Perm c:=(List.perm_ext_iff_of_nodup (d.imp λh=>O) (e.imp λh=>O)).2 h;exact p.eq_of_pairwise (le:=(·<=·)) (λa b _ _ x y=>O) (d.imp λh=>O) (e.imp λh=>O)
def Zuf(ok:gY b)(ts:List N4):(lE b ts).length<=24:=by refine qAP (qBN _ _) ?_;rw[qAd,qBo];exact Az ok.n
structure Ib(b:Sb)(ts:List N4)(v:Value)(es:List Te)(H:Hp):Prop where
 vv:∃A c,v=.slice A es.length c
 sl:dF H v es
 len:es.length=(lE b ts).length
 fit:∀k (h1:k<(lE b ts).length) (h2:k<es.length),UK b ts (Z1 b.pk.length (lE b ts)[k]) es[k] H
def O6(b:Sb)(ts:List N4):List Int:=(lE b ts).map λm=>(jA b ts (Z1 b.pk.length m)).hi
def YF(b:Sb)(ts:List N4):List Int:=Z1 b.pk.length ((lE b ts).getD (Zs (O6 b ts)) 0)
def q8(b:Sb)(n:Nat):Sb:={ b with hd:=((n+1:Nat):Int) }
def Ud(b:Sb)(ts:List N4):Nat:=if lE (q8 b 0) ts≠[]then 1 else if lE (q8 b 1) ts≠[]then 2 else if lE (q8 b 2) ts≠[]then 3 else 0
def ZlL(h:gY b){n:Nat}(a:n<3):gY (q8 b n):=⟨h.pl,by show 1<=((n+1:Nat):Int)/\((n+1:Nat):Int)<=3;omega,h.td,h.n,h.pk,h.nm,h.nn,h.nt⟩
def Zvq{H:Hp}(h:Zq H b)(n:Nat):Zq H (q8 b n):=⟨h.pk,h.nt,h.ps,h.q1,h.q2⟩
section
variable{P:fP}[Tz P][Loud P]{H:Hp}
def Zew(f:P=PP)(val:gY b)(d:1<=ts.length/\ts.length<=1000)(h:∀t∈ts,YA t)(hb:Zq H b)(g:aM H ⟨3,0,none⟩ [vf 407])(j:dF H (.slice Aw ts.length cw) ts)(a:MZ b ts) :
  LL.Zb P 140 #[YC b (.slice Aw ts.length cw)] H λv e=>fI H e/\∃es,Ib b ts v es e:=by
 refine LL.Zb.mono (Zoz f val d h hb g j a) ?_;rintro v e ⟨i,es,A,c,k,rfl,n,o,p,q,r⟩;have:k=lE b ts:=Zy8 o (Zue b ts) λm=>(p m).trans DD.symm;subst this;exact⟨i,es,⟨A,c,rfl⟩,n,q,r⟩
theorem ZzN(h:P=PP)(a:∀b ts,gY b->MZ b ts)(hb:Zq H b)(s:b.Sz)(n:Yb H)(i:aM H ⟨3,0,none⟩ [vf 407]) :
  LL.Zb P 57 #[b.v] H λv k=>fI H k/\v=.tuple #[vi (if Zp b 0=0 then(lE b (Za b)).length else 0),vi (Zp b 0)]:=by
 refine aU.m (fO ZyU) rfl ?_;unfold Zk2 Sb.v;refine Y ?_;refine Zg (OC hb s n Ng) ?_;rintro v t ⟨g,o⟩;rcases o with⟨d,rfl⟩ | ⟨d,ok,e,w,x,rfl,q⟩
 ·unfold Oc;rw[iF d];refine OJ (λj=>?_) (λj=>?_)
  ·refine Y ?_;exact⟨g,rfl⟩
  exact absurd j d
 rw[qAa d,d];have f:=q.sl;obtain⟨Aw,cw,rfl,_⟩:=id f;unfold YC;refine Y ?_;refine Zg (Zew h ok ⟨e,by have:=Uw ok;omega⟩ (P9 ok) (hb.inc g) (i.inc g) f (a _ _ ok)) ?_;rintro v u ⟨p,es,⟨A,c,rfl⟩,y,r,z⟩;refine Y ?_;exact⟨g.trans p,by rw[r];rfl⟩
def Zg7(e:Te):LL.Zb P 142 #[FM e.td (.slice e.A e.n e.c)] H λv a=>H=a/\v=vi e.td.hi:=by refine aU.m (fO Zyn) rfl ?_;unfold Zkv;refine Y ?_;exact⟨rfl,rfl⟩
def ZuQ(k:dF H v l)(u:l.length<=1000000):LL.Zb P 216 #[.agg #[vf 142],v] H λw h=>H=h/\w=vi (Zs (l.map λe=>e.td.hi)):=by
 refine aU.m (fO ZxS) rfl ?_;unfold Zj0;obtain⟨K,i⟩:∃K,K=l.map λe=>e.td.hi:=⟨_,rfl⟩;rw[<-i];have hKl:K.length=l.length:=by rw[i,qAd]
 have f:∀j (p:j<l.length),el K j=l[j].td.hi:=λj p=>by rw[V1 O];simp[i]
 refine Y ?_;refine YH k rfl (Y ?_);refine ZC l.length (λj h=>H=h) (λj=>[(1,v),(2,vi 0),(5,vi (iR K j)),(8,vi l.length),(9,vi j)]) (λj=>[(2,[vf 142])]) rfl V V ?_;rintro j _ p rfl;refine OJ (λs=>?_) (λs=>?_)
 ·have g:j<l.length:=O;have q:iR K j<l.length:=by
   by_cases r:j=0
   ·rw[r,iR];omega
   have:=XK (l:=K) j O;omega
  have e1:=f j g;have e2:=f _ q;refine Y ?_;refine ZB j k g λa t=>?_;generalize l[j]=x at *;refine Y ?_;refine YL (cs:=x.td.cs (.slice x.A x.n x.c)) t (Y ?_);refine ZB (iR K j) k q λa hb=>?_;generalize l[iR K j]=y at *;refine Y ?_;refine YL (cs:=y.td.cs (.slice y.A y.n y.c)) hb (Y ?_);refine ZP (vs:=[FM x.td (.slice x.A x.n x.c)]) rfl rfl (Yv U (Zg7 x)) ?_;rintro w _ ⟨rfl,rfl⟩;refine Y ?_;refine ZP (vs:=[FM y.td (.slice y.A y.n y.c)]) rfl rfl (Yv U (Zg7 y)) ?_;exact TS
 exact GR
def ZsN{A:Option Addr}{c:Nat}(j:dF H (.slice A l.length c) l)(g:l≠[])(p:l.length<=1000000):LL.Zb P 141 #[.agg #[vf 142],.slice A l.length c] H λw k=>H=k/\∃h:Zs (l.map λe=>e.td.hi)<l.length,w=FM l[Zs (l.map λe=>e.td.hi)].td (.slice l[Zs (l.map λe=>e.td.hi)].A l[Zs (l.map λe=>e.td.hi)].n l[Zs (l.map λe=>e.td.hi)].c):=by
 refine aU.m (fO Zyo) rfl ?_;unfold Zkw;have i:Zs (l.map λe=>e.td.hi)<l.length:=by have:=XJ (l:=l.map λe=>e.td.hi) (by simpa using g);rwa [qAd]at this
 refine Y ?_;refine Zg (ZuQ j p) ?_;rintro w _ ⟨rfl,rfl⟩;refine Y ?_;refine ZB (Zs (l.map λe=>e.td.hi)) j i λa o=>Y ?_;refine YL (cs:=l[Zs (l.map λe=>e.td.hi)].td.cs (.slice l[Zs (l.map λe=>e.td.hi)].A l[Zs (l.map λe=>e.td.hi)].n l[Zs (l.map λe=>e.td.hi)].c)) o (Y ?_);exact⟨rfl,i,rfl⟩
theorem ZzL(o:P=PP)(d:∀b ts,gY b->MZ b ts)(hb:Zq H b)(Q:b.Sz)(G:Yb H)(r:aM H ⟨3,0,none⟩ [vf 407]) :
  LL.Zb P 58 #[b.v] H λv x=>fI H x/\((¬ (Zp b 0=0/\lE b (Za b)≠[])/\v=.tuple #[.slice none 0 0,.agg #[vi 0,vi 0],vb false,vi (Zp b 0)]) \/
   (Zp b 0=0/\lE b (Za b)≠[]/\∃A c,dF x (.slice A (YF b (Za b)).length c) (YF b (Za b))/\(YF b (Za b)).length<=c/\v=.tuple #[.slice A (YF b (Za b)).length c,.agg #[vi (jA b (Za b) (YF b (Za b))).lo,vi (jA b (Za b) (YF b (Za b))).hi],vb true,vi 0])):=by
 refine aU.m (fO ZyT) rfl ?_
 unfold Zk1 Sb.v
 refine Y ?_
 refine Zg (OC hb Q G Ng) ?_
 rintro v S ⟨k,K⟩
 rcases K with⟨n,rfl⟩ | ⟨n,ok,g,w,U,rfl,M⟩
 ·unfold Oc;refine OJ (λf=>?_) (λf=>?_)
  ·refine Y ?_;exact⟨k,.inl ⟨λh=>n h.1,rfl⟩⟩
  exact absurd f n
 ·rw[n];have i:=M.sl;obtain⟨Aw,cw,rfl,_⟩:=id i;unfold YC;refine Y ?_;refine Zg (Zew o ok ⟨g,by have:=Uw ok;omega⟩ (P9 ok) (hb.inc k) (r.inc k) i (d _ _ ok)) ?_;rintro v T ⟨C,es,⟨A,c,rfl⟩,N,u,D⟩;have B:=Zuf ok (Za b);refine OJ (λf=>?_) (λf=>?_)
  ·have s:lE b (Za b)=[]:=qAr O;refine Y ?_;exact⟨k.trans C,.inl ⟨λh=>h.2 s,rfl⟩⟩
  have s:lE b (Za b)≠[]:=by intro e;rw[e]at u;exact f (by rw[u];rfl)
  have p:es≠[]:=by intro e;subst e;exact f rfl
  refine Y ?_;refine Zg (ZsN N p O) ?_;rintro v _ ⟨rfl,z,rfl⟩;have a:(es.map λe=>e.td.hi)=O6 b (Za b):=by
   refine qCz (by simp[O6,u]) λj L V=>?_;simp only[qBn,O6];have t:j<es.length:=by simpa using L
   rw[(D j O t).td]
  simp only[a]at z ⊢;have q:=D (Zs (O6 b (Za b))) O z;have J:Z1 b.pk.length ((lE b (Za b))[Zs (O6 b (Za b))]'O)=YF b (Za b):=by rw[YF,ZG O]
  rw[J]at q;generalize es[Zs (O6 b (Za b))]=e at *;obtain⟨E,y,f3,_⟩:=id q;have F:=q.sl;refine Y ?_;refine⟨k.trans C,.inr ⟨trivial,s,e.A,e.c,by rw[<-y];exact F,f3,?_⟩⟩;rw[<-E,<-y];rfl
theorem Zz0(t:P=PP)(g:∀b ts,gY b->MZ b ts)(hb:Zq H b)(L:b.Sz)(I:Yb H)(x:aM H ⟨3,0,none⟩ [vf 407]) :
  LL.Zb P 59 #[b.v] H λv s=>fI H s/\v=.tuple #[vi (if Zp b 0=0 then Ud b (Za b)else 0:Nat),vb (decide (Zp b 0=0/\Ud b (Za b)≠0)),vi (Zp b 0)]:=by
 refine aU.m (fO ZyS) rfl ?_;unfold Zk0 Sb.v;refine Y ?_;refine Zg (OC hb L I Ng) ?_;rintro v G ⟨q,J⟩;rcases J with⟨n,rfl⟩ | ⟨n,ok,o,w,Q,rfl,K⟩
 ·unfold Oc;refine OJ (λr=>?_) (λr=>?_)
  ·refine Y ?_;exact⟨q,by rw[iF n,qAU (λh=>n h.1)];rfl⟩
  exact absurd r n
 rw[n];have p:=K.sl;obtain⟨Aw,cw,rfl,_⟩:=id p;have C:=P9 ok;have B:1<=(Za b).length/\(Za b).length<=1000:=⟨o,by have:=Uw ok;omega⟩;generalize Za b=ts at *;unfold YC;refine Y ?_;refine Yp (α:=Int) 3 (λj z s=>fI G s/\∀k,k<j->lE (q8 b k) ts=[]) (λj z=>[(2,vi 0),(3,vb false),(5,vi 0),(15,vi j)]) (λj z=>[(5,[vi b.pl,vi z,vi b.td,.slice b.A1 b.pk.length b.c1,.slice b.A2 b.nt.length b.c2,.slice Aw ts.length cw])]) b.hd ⟨.refl _,λk y=>absurd y (qBW _)⟩ V V ?_;rintro j z M R ⟨i,a⟩;refine OJ (λr=>?_) (λr=>?_)
 ·have f:j<3:=O;refine Y ?_;refine Zg (Zew t (ZlL ok f) B C ((Zvq hb j).inc (q.trans i)) (x.inc (q.trans i)) (p.inc i) (g _ _ (ZlL ok f))) ?_;rintro v N ⟨E,es,⟨A,c,rfl⟩,S,F,T⟩;refine OJ (λD=>?_) (λD=>?_)
  ·have d:lE (q8 b j) ts=[]:=qAr O;refine Y ?_;refine⟨(⟨j+1,O⟩,((j+1:Nat):Int)),gI O,⟨i.trans E,λk y=>?_⟩,V,V,rfl⟩;rcases qAv.1 y with h | rfl
   ·exact a k h
   exact d
  have d:lE (q8 b j) ts≠[]:=by intro e;rw[e]at F;exact D (by rw[F];rfl)
  have u:Ud b ts=j+1:=by
   unfold Ud;match j,f,a,d with
   | 0,_,_,d=>rw[qAa d]
   | 1,_,a,d=>rw[iF (by simp[a 0 O]),qAa d]
   | 2,_,a,d=>rw[iF (by simp[a 0 O]),iF (by simp[a 1 O]),qAa d]
  refine Y ?_;refine⟨(q.trans i).trans E,?_⟩;rw[qAa rfl,u,decide_eq_true ⟨rfl,O⟩];rfl
 have:j=3:=O;subst this;have u:Ud b ts=0:=by unfold Ud;rw[iF (by simp[a 0 O]),iF (by simp[a 1 O]),iF (by simp[a 2 O])]
 refine Y ?_;refine⟨q.trans i,?_⟩;rw[u,qAU (by simp)];rfl
end
structure iP(b b':Sb):Prop where
 pl:b'.pl=b.pl
 hd:b'.hd=b.hd
 td:b'.td=b.td
 pk:b'.pk=b.pk
 nl:b'.nt.length=b.nt.length
 nt:∀i (h:i<b.nt.length) (h':i<b'.nt.length),b'.nt[i].ps=b.nt[i].ps/\b'.nt[i].lo=b.nt[i].lo/\b'.nt[i].hi=b.nt[i].hi
def Y9(b:Sb):Int:=if ZN b≠0 then ZN b else if Vp b=false then 9 else 0
def Zoj:Yw Tryz.prog 45=some (1,some (.slice none 0 0),24):=U
def Zg2(v:Value):∀(l:List Nt) (i:Nat) (a:i<l.length) (rest:List Value) (A:Option Addr) (c:Nat),v=.slice A l[i].ps.length c->ZR (Zd l++rest) (i * 3) [v]=Zd (l.set i { l[i]with A:=A,c:=c })++rest
 | [],i,a,_,_,_,_=>by simp at a
 | p :: l,0,a,rest,A,c,e=>by subst e;simp[Zd,Enc.enc,ZR]
 | p :: l,i+1,a,rest,A,c,e=>by
  have ih:=Zg2 v l i (by simpa using a) rest A c e;have e:Zd (p :: l)++rest=Enc.enc p++(Zd l++rest):=by simp[Zd]
  rw[e,show(i+1) * 3=3+i * 3 by omega,Ag (n:=3) (Enc.len p),ih];simp[Zd]
section
variable{P:fP}[Tz P][Loud P]{H:Hp}
def ZnE{l:List Pk}(w:dF H v l)(g:l.length<=1000000):LL.Zb P 144 #[v] H λo h=>H.Sub h/\∃b,gL H h 236 o l b:=by
 have d:P.still H.gh=false:=Loud.fD _;obtain⟨A,c,rfl,n⟩:=w;refine aU.m (fO Zyl) rfl ?_;unfold Zkt;refine Y ?_;refine yV (fU NJ) rfl ?_;refine OJ (λk=>?_) (λk=>?_)
 ·refine Y ?_;have:l=[]:=qAb λg=>by obtain⟨a,rfl,_⟩:=n g;simp at k
  subst this;exact⟨.refl H,none,.nil H _ 236⟩
 refine Y ?_;refine rT (fU NJ) (fT Ia) d λr i=>Y ?_;have f:P.still (H.ins r (.cells #[] 236)).gh=false:=d;refine uG (l:=([]:List Pk)) (l':=l) (fU NJ) (fU NJ) (fT Ia) rfl (by decide) (YB i) (H0:=H) (b:=some r) ⟨wA,λq e=>by obtain rfl:=aT e;exact i⟩ ⟨A,c,rfl,λg=>by obtain⟨a,p,s⟩:=n g;exact⟨a,p,s.sub (YB i)⟩⟩ (sU (λ_=>rfl) l) (by simp;omega) O rfl rfl f λo h b' t j y=>Y ?_;exact⟨t,b',by rw[qAt]at j;exact j⟩
def ZAa{l:List Nt}(w:dF H v l)(g:l.length<=1000000):LL.Zb P 159 #[v] H λo h=>H.Sub h/\∃b,gL H h 137 o l b:=by
 have d:P.still H.gh=false:=Loud.fD _;obtain⟨A,c,rfl,n⟩:=w;refine aU.m (fO Zya) rfl ?_;unfold Zki;refine Y ?_;refine yV (fU uB) rfl ?_;refine OJ (λk=>?_) (λk=>?_)
 ·refine Y ?_;have:l=[]:=qAb λg=>by obtain⟨a,rfl,_⟩:=n g;simp at k
  subst this;exact⟨.refl H,none,.nil H _ 137⟩
 refine Y ?_;refine rT (fU uB) (fT JY) d λr i=>Y ?_;have f:P.still (H.ins r (.cells #[] 137)).gh=false:=d;refine uG (l:=([]:List Nt)) (l':=l) (fU uB) (fU uB) (fT JY) rfl (by decide) (YB i) (H0:=H) (b:=some r) ⟨wA,λq e=>by obtain rfl:=aT e;exact i⟩ ⟨A,c,rfl,λg=>by obtain⟨a,p,s⟩:=n g;exact⟨a,p,s.sub (YB i)⟩⟩ (sU (λ_=>rfl) l) (by simp;omega) O rfl rfl f λo h b' t j y=>Y ?_;exact⟨t,b',by rw[qAt]at j;exact j⟩
def OA{α:Type}[Enc α]{H:Hp}{E:TypeId}{l:List α}{b:Option Nat}(h:gL H0 H E v l b):∃A c,v=.slice A l.length c/\l.length<=c:=by
 obtain⟨_,⟨rfl,a,_⟩ | ⟨r,cap,rest,_,rfl,_,_,d⟩⟩:=h.own
 ·exact⟨none,0,by rw[a],O⟩
 exact⟨_,cap,rfl,d⟩
def UV(H:Hp)(b:Option Nat):Hp:=⟨λx=>if b=some x then none else H x,H.gh⟩
theorem Me(H:Hp)(b:Option Nat)(x:Nat):UV H b x=if b=some x then none else H x:=rfl
def Mf(H:Hp)(b:Option Nat):fI (UV H b) H:=λx y h=>by
 rw[Me]at h;split at h
 ·simp at h
 exact h
def ZlI{H:Hp}{b:Option Nat}(c:fI H0 H)(a:∀r,b=some r->H0 r=none):fI H0 (UV H b):=λx y h=>by rw[Me,iF (λe=>by rw[a x e]at h;simp at h)];exact c x y h
theorem Xy(hb:Zq H b)(sz:b.Sz)(hg:Yb H):LL.Zb P 145 #[b.v] H λv q=>fI H q/\((Y9 b≠0/\v=.tuple #[OS,vi (Y9 b)])\/(Y9 b=0/\gY b/\∃b',iP b b'/\Zq q b'/\v=.tuple #[b'.v,vi 0])):=by
 refine aU.m (fO Zyk) rfl ?_;unfold Zks Sb.v;refine Y ?_;refine Zg (HN hb sz hg) ?_;rintro v H1 ⟨i1,rfl⟩;refine OJ (λh1=>?_) (λh1=>?_)
 ·have e:Y9 b=ZN b:=qAa h1;exact AY
 have ok:=Ob (b:=b) h1;refine Y ?_;refine Zg (ZeD (hb.inc i1) ok) ?_;rintro v H2 ⟨i2,rfl⟩;have d:=i1.trans i2;cases AF:Vp b with
 | false=>
  have e:Y9 b=9:=by rw[Y9,iF O,qAa AF]
  refine Y ?_;exact⟨d,.inl ⟨by rw[e];decide,by rw[e];rfl⟩⟩
 | true=>
 have e:Y9 b=0:=by rw[Y9,iF O,iF (by rw[AF];decide)]
 refine Y ?_;refine Zg (ZnE (hb.pk.inc d) (by have:=ok.n;omega)) ?_;rintro v1 H3 ⟨s3,b3,o3⟩;refine Zz OL (Y ?_);refine Zg (ZAa ((hb.nt.inc d).sub s3) (by have:=ok.nn;omega)) ?_;rintro v2 L ⟨s4,g,I⟩;refine Zz OL ?_;obtain⟨A1,c1,rfl,q1⟩:=OA o3;obtain⟨A2,c2,rfl,q2⟩:=OA I;have i14:=(d.trans s3.inc).trans s4.inc;have f4:∀r,g=some r->H r=none:=λr e=>YP (d.trans s3.inc) (I.fresh r e);have F:=ZlI i14 f4;have W:dF (UV L g) (.slice A1 b.pk.length c1) b.pk:=o3.sl.inc (ZlI s4.inc I.fresh);have U:∀i (h:i<b.nt.length),dF (UV L g) (.slice b.nt[i].A b.nt[i].ps.length b.nt[i].c) b.nt[i].ps:=λi h=>(hb.ps _ (iN h)).inc F;have Sv:=ok.nn;have Ji:=ok.n;refine Y ?_;refine Yp (α:=List Nt) b.nt.length (λj l q=>gL H3 q 137 (.slice A2 b.nt.length c2) l g/\fI (UV L g) (UV q g)/\l.length=b.nt.length/\(∀i (h:i<l.length) (B:i<b.nt.length),(l[i].ps=b.nt[i].ps/\l[i].lo=b.nt[i].lo/\l[i].hi=b.nt[i].hi)/\dF (UV q g) (.slice l[i].A l[i].ps.length l[i].c) l[i].ps))
  (λj l=>[(1,vi 0),(2,vi 0),(27,vi b.nt.length),(28,vi j)]) (λ_ _=>[(1,[vi b.pl,vi b.hd,vi b.td,.slice A1 b.pk.length c1,.slice A2 b.nt.length c2]),(2,[vi 0,vi 0,vi 0,.slice none 0 0,.slice none 0 0])]) b.nt ⟨I,.refl _,rfl,λi h B=>⟨⟨rfl,rfl,rfl⟩,U i h⟩⟩ V V ?_
 rintro j l H5 hj ⟨z,i5,w,G⟩;refine OJ (λh2=>?_) (λh2=>?_)
 ·have k:j<l.length:=O;obtain⟨⟨e1,e2,e3⟩,E⟩:=G j k O;have D:=z.sl;obtain⟨_,⟨_,e,_⟩ | ⟨r,cap,rest,rfl,ev,h5,R,Q⟩⟩:=id z.own
  ·exact absurd e O
  simp only[Value.slice.injEq]at ev;obtain⟨rfl,_,rfl⟩:=ev;have hr3:=z.fresh r rfl;have X:l[j].ps.length<=1000000:=by rw[e1];have h6:=Zf5 (ok.nt _ (iN (show j<b.nt.length by omega))).2.1;omega
  refine Y ?_;refine ZB j D k λa ha=>Y ?_;refine Zh (OL _) rfl (by rw[add_zero];exact YN (cs:=[.slice l[j].A l[j].ps.length l[j].c]) (ds:=[vi l[j].lo,vi l[j].hi]) ha) (Y ?_);refine Zg (PF (E.inc (Mf _ _)) X) ?_;rintro v6 H6 ⟨s6,b6,J⟩;refine Zz OL ?_;obtain⟨p,s,rfl,_⟩:=OA J;have h6:=s6.mem _ _ h5;have S:b6≠some r:=λe=>by have:=J.fresh r e;rw[h5]at this;simp at this
  refine Y ?_;refine CL rfl rfl (show j<b.nt.length by omega) (Y ?_);rw[show(⟨r,0,none⟩:Addr).add (j * 3)=⟨r,j * 3,none⟩by rw[VF,qAJ],add_zero];refine OH (fT Zoj) rfl rfl h6 rfl (by rw[IN,Y7];show j * 3+1<=l.length * 3+_;omega) rfl (OL _) ?_;have N:=Zg2 (.slice p l[j].ps.length s) l j k rest p s rfl;rw[show(Value.slice p l[j].ps.length s).cells.toList=[.slice p l[j].ps.length s]from rfl,N];have i6:fI (UV H5 (some r)) (UV (H6.ins r (.cells (Zd (l.set j { l[j]with A:=p,c:=s })++rest).toArray 137)) (some r)):=λx y h=>by
   rw[Me]at h ⊢;split at h
   ·simp at h
   rename_i o;have Z:x≠r:=λe=>o (by rw[e]);rw[iF o,Hp.aR _ _ Z];exact s6.mem _ _ h
  refine Y ?_;refine⟨(⟨j+1,O⟩,l.set j { l[j]with A:=p,c:=s }),gI O,⟨⟨⟨by rw[Y7],.inr ⟨r,c2,rest,rfl,by rw[qAe,w],Hp.aQ _ _ _,?_,by rw[qAe];exact Q⟩⟩,z.fresh⟩,i5.trans i6,by rw[qAe];exact w,λi h B=>?_⟩,V,V,rfl⟩
  ·rw[IN,Y7,qAe,<-Y7,<-IN];exact R
  have T:i<l.length:=by rwa [qAe]at h
  obtain⟨n1,n2⟩:=G i T B;by_cases C:i=j
  ·subst C;rw[List.getElem_set_self];refine⟨n1,gL.sl (H0:=H5) (b:=b6) ⟨J.own.sub λx y e h=>?_,J.fresh⟩⟩;have o:x≠r:=λM=>S (by rw[e,M]);rw[Me,iF (λM=>o (aT M).symm),Hp.aR _ _ o];exact h
  rw[List.getElem_set_ne (qAo C)];exact⟨n1,n2.inc i6⟩
 have:j=b.nt.length:=O;subst this;refine Y ?_;refine⟨?_,.inr ⟨e,ok,{ b with nt:=l,A1:=A1,c1:=c1,A2:=A2,c2:=c2 },⟨rfl,rfl,rfl,rfl,w,λi h B=>(G i B h).1⟩,⟨(W.inc i5).inc (Mf _ _),by rw[<-w]at z;exact z.sl,λx o=>?_,q1,by rw[show l.length=b.nt.length from w];exact q2⟩,?_⟩⟩
 ·exact(F.trans i5).trans (Mf _ _)
 ·obtain⟨i,t,rfl⟩:=qAz.1 o;have t:i<l.length:=t;exact(G i t O).2.inc (Mf _ _)
 show _=Value.tuple #[.agg #[vi b.pl,vi b.hd,vi b.td,.slice A1 b.pk.length c1,.slice A2 l.length c2],vi 0];rw[w];rfl
end
def VH(b:Sb)(i:Nat)(lo hi:Int):Sb:={ b with pk:=b.pk.set i { gA b i with lo:=lo,hi:=hi } }
def Vy(b:Sb)(n c a:Int):Int:=
 if ZN b≠0 then ZN b else if YG b n≠0 then YG b n else if ¬ (1<=c/\c<=a/\a<=20)then 1
 else if min (gA b n.toNat).hi a<max (gA b n.toNat).lo c then 9 else Y9 (VH b n.toNat (max (gA b n.toNat).lo c) (min (gA b n.toNat).hi a))
abbrev W8(x:Nt):Value:=.agg #[.slice x.A x.ps.length x.c,vi x.lo,vi x.hi]
def Zho{b b':Sb}(a:b.pk=b'.pk)(c:b.nt=b'.nt):∀r m,hU b r m=hU b' r m
 | 0,m=>by rw[hU,hU,hV,hV,c]
 | r+1,m=>by rw[hU,hU];simp only[gA,a,Zho a c r]
def Zhr(a:b.pk=b'.pk)(c:b.nt=b'.nt):Za b=Za b':=by rw[Za,Za,a];exact Zho a c _ _
def Zpt(a:b.pl=b'.pl/\b.hd=b'.hd/\b.td=b'.td)(c:b.pk=b'.pk)(g:b.nt=b'.nt):ZN b=ZN b':=by
 have d:Y1 b=Y1 b':=by rw[Y1,Y1,a.1,a.2.1,a.2.2]
 have e:YD b=YD b':=by rw[YD,YD,c]
 have f:Y4 b=Y4 b':=by rw[Y4,Y4,c,g]
 rw[ZN,ZN,d,e,f]
def Xx(d:b.pl=b'.pl/\b.hd=b'.hd/\b.td=b'.td)(a:b.pk=b'.pk)(c:b.nt=b'.nt):Y9 b=Y9 b':=by rw[Y9,Y9,Zpt d a c,Vp,Vp,Zhr a c]
def Zg1(lo hi:Int):∀(l:List Pk) (i:Nat) (h:i<l.length) (rest:List Value),ZR (Zd l++rest) (i * 5+1) [vi lo,vi hi]=Zd (l.set i { l[i]with lo:=lo,hi:=hi })++rest
 | [],i,h,_=>by simp at h
 | p :: l,0,h,rest=>by simp[Zd,Enc.enc,ZR]
 | p :: l,i+1,h,rest=>by
  have ih:=Zg1 lo hi l i (by simpa using h) rest;have e:Zd (p :: l)++rest=Enc.enc p++(Zd l++rest):=by simp[Zd]
  rw[e,show(i+1) * 5+1=5+(i * 5+1)by omega,Ag (n:=5) (Enc.len p),ih];simp[Zd]
section
variable{P:fP}[Tz P][Loud P]{H:Hp}
theorem ZzF{n lo hi:Int}(hb:Zq H b)(q:b.Sz)(V:Yb H) :
  LL.Zb P 61 #[b.v,vi n,.agg #[vi lo,vi hi]] H λv R=>fI H R/\((Vy b n lo hi≠0/\v=.tuple #[OS,vi (Vy b n lo hi)])\/(Vy b n lo hi=0/\gY b/\(0<=n/\n<b.pk.length) /\
   ∃G b',G=VH b n.toNat (max (gA b n.toNat).lo lo) (min (gA b n.toNat).hi hi)/\gY G/\iP G b'/\Zq R b'/\v=.tuple #[b'.v,vi 0])):=by
 refine aU.m (fO ZyQ) rfl ?_
 unfold ZkY Sb.v
 refine Y ?_
 refine Zg (HN hb q V) ?_
 rintro v H1 ⟨i1,rfl⟩
 refine Y ?_
 refine OI (λh1=>?_) (λh1=>?_)
 ·have e:Vy b n lo hi=ZN b:=qAa h1;exact AY
 have ok:=Ob (b:=b) h1
 have Ji:=ok.n
 refine Y ?_
 refine Zg (Zff (b:=b) n q.pk) ?_
 rintro fv H2 ⟨s2,e1,e2,w⟩
 refine Zz OL ?_
 refine Y ?_
 refine ZP (vs:=[b.v]) rfl rfl (w H2 (.refl _)) ?_
 rintro v H3 ⟨i3,rfl⟩
 have d:=(i1.trans s2.inc).trans i3
 refine Y ?_
 refine OI (λu=>?_) (λu=>?_)
 ·have e:Vy b n lo hi=YG b n:=by rw[Vy,iF O,qAa u]
  refine Y ?_;exact⟨d,.inl ⟨by rw[e];exact u,by rw[e];rfl⟩⟩
 have W:0<=n/\n<b.pk.length:=qAb λhh=>by rw[YG,iF hh]at u;exact absurd u (by decide)
 have ep:YG b n=0:=O
 refine Y ?_
 refine Zo (ZeC _ _ _ _) ?_
 refine Y ?_
 refine OI (λh3=>?_) (λh3=>?_)
 ·have e:Vy b n lo hi=1:=by rw[Vy,iF O,iF O,qAa O]
  refine Y ?_;exact⟨d,.inl ⟨by rw[e];decide,by rw[e];rfl⟩⟩
 obtain⟨i,rfl⟩:=Int.eq_ofNat_of_zero_le W.1
 have j:i<b.pk.length:=O
 have S:b.pk[i]=gA b i:=(ZG j _).symm
 rw[qAL]
 have L:Vy b (i:Int) lo hi=if min (gA b i).hi hi<max (gA b i).lo lo then 9 else Y9 (VH b i (max (gA b i).lo lo) (min (gA b i).hi hi)):=by rw[Vy,iF O,iF O,iF O,qAL]
 rw[L]
 refine Y ?_
 refine ZB i (hb.pk.inc d) j λa T=>?_
 rw[S]at T
 have k:VH b i (max (gA b i).lo lo) (min (gA b i).hi hi)={ b with pk:=b.pk.set i { b.pk[i]with lo:=max (gA b i).lo lo,hi:=min (gA b i).hi hi } }:=by rw[VH,S]
 refine Y ?_
 refine Zn (cs:=[vi (gA b i).lo,vi (gA b i).hi]) (OL _) rfl (YN (ds:=[vi (gA b i).jG,vi (gA b i).jN]) (mG (n:=1) T rfl)) rfl ?_
 refine Y ?_
 refine yG rfl rfl ?_
 refine Y ?_
 refine EH rfl rfl ?_
 refine Y ?_
 generalize max (gA b i).lo lo=f at *
 generalize min (gA b i).hi hi=g at *
 refine OI (λA=>?_) (λA=>?_)
 ·refine Y ?_;exact⟨d,.inl ⟨by rw[qAa A];decide,by rw[qAa A];rfl⟩⟩
 rw[iF A]
 refine Y ?_
 refine Zg (ZnE (hb.pk.inc d) q.pk) ?_
 rintro v4 D ⟨s4,b4,o4⟩
 obtain⟨_,⟨_,e,_⟩ | ⟨r,cap,rest,rfl,rfl,h5,h5l,I⟩⟩:=id o4.own
 ·exact absurd e O
 have N:=d.trans s4.inc
 have hr:H r=none:=YP d (o4.fresh r rfl)
 refine Y ?_
 refine CL rfl rfl j ?_
 refine Y ?_
 rw[show((⟨r,0,none⟩:Addr).add (i * 5)).add 1=⟨r,i * 5+1,none⟩by rw[VF,VF,qAJ]]
 refine OH (v:=.agg #[vi f,vi g]) (fT Po) rfl rfl h5 rfl (by rw[IN,Y7];show i * 5+1+2<=b.pk.length * 5+_;omega) rfl (OL _) ?_
 rw[show(Value.agg #[vi f,vi g]).cells.toList=[vi f,vi g]from rfl,Zg1 f g b.pk i j rest]
 have o:fI H (D.ins r (.cells (Zd (b.pk.set i { b.pk[i]with lo:=f,hi:=g })++rest).toArray 236)):=λx y h=>by rw[Hp.aR _ _ (by rintro rfl;rw[hr]at h;simp at h)];exact N _ _ h
 have E:aM (D.ins r (.cells (Zd (b.pk.set i { b.pk[i]with lo:=f,hi:=g })++rest).toArray 236)) ⟨r,0,none⟩ (Zd (b.pk.set i { b.pk[i]with lo:=f,hi:=g })):=YN (ZM (Hp.aQ _ _ _))
 generalize D.ins r (.cells (Zd (b.pk.set i { b.pk[i]with lo:=f,hi:=g })++rest).toArray 236)=H5 at *
 have K:Zq H5 { VH b i f g with A1:=some ⟨r,0,none⟩,c1:=cap }:=by
  refine⟨⟨_,cap,rfl,λ_=>⟨_,rfl,?_⟩⟩,hb.nt.inc o,λy hy=>(hb.ps y hy).inc o,?_,hb.q2⟩
  ·rw[k];exact E
  rw[k];show(b.pk.set i _).length<=cap;rw[qAe];exact I
 have Q:Sb.Sz { VH b i f g with A1:=some ⟨r,0,none⟩,c1:=cap }:=by
  refine⟨?_,q.nt,q.ps,λp B=>?_⟩
  ·rw[k];show(b.pk.set i _).length<=_;rw[qAe];exact q.pk
  rw[k]at B;rcases qCu B with B | rfl
  ·exact q.nm p B
  exact q.nm b.pk[i] (iN j)
 have M:Sb.v { VH b i f g with A1:=some ⟨r,0,none⟩,c1:=cap }=.agg #[vi b.pl,vi b.hd,vi b.td,.slice (some ⟨r,0,none⟩) b.pk.length cap,.slice b.A2 b.nt.length b.c2]:=by rw[k];show Value.agg _=_;simp[qAe]
 refine Y ?_
 refine Z7 (vs:=[Sb.v { VH b i f g with A1:=some ⟨r,0,none⟩,c1:=cap }]) (by rw[M];rfl) (Xy K Q (aM.inc V o)) ?_
 rintro v H6 ⟨Z,X⟩
 rw[show Y9 { VH b i f g with A1:=some ⟨r,0,none⟩,c1:=cap }=Y9 (VH b i f g)from Xx ⟨rfl,rfl,rfl⟩ rfl rfl]at X
 rcases X with⟨J,rfl⟩ | ⟨J,c,b',t,F,rfl⟩
 ·unfold OS;refine Y ?_;exact⟨o.trans Z,.inl ⟨J,rfl⟩⟩
 ·unfold Sb.v;rw[J];refine Y ?_;exact⟨o.trans Z,.inr ⟨rfl,ok,W,_,b',rfl,⟨c.pl,c.hd,c.td,c.n,c.pk,c.nm,c.nn,c.nt⟩,⟨t.pl,t.hd,t.td,t.pk,t.nl,t.nt⟩,F,rfl⟩⟩
end
