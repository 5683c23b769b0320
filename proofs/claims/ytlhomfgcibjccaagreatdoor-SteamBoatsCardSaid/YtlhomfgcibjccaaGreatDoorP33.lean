import Derived.Test.YtlhomfgcibjccaaGreatDoorP26
import Derived.Test.YtlhomfgcibjccaaGreatDoorP32
set_option linter.all false
set_option maxHeartbeats 8000000
set_option maxRecDepth 20000
open Go Go.LL
namespace Go.Proofs
variable{H' H0:Hp}{b b':Sb}{ts:List N4}{Aw:Option Addr}{cw:Nat}{l:List Te}{v:Value}
def ZgT:Yl Tryz.prog 179=some (1,some (.chan none),8):=U
def Zr.jK{H:Hp}(h:Zr H b)(i:Y0 H H'):Zr H' b:=⟨h.pk.jK i,h.nt.jK i,λx a=>(h.ps x a).jK i,h.q1,h.q2⟩
def IQ(b:Sb)(ts:List N4):Prop:=
 ∀(H:Hp) (v:Value) (f:Option Nat) (es:List Te) (d:List Nat),jN H 122 8 v (Zb es) es.length f->es.length=d.length->d.Nodup->(∀m∈d,1<=m/\m<=(ZB b.pk.length).length) ->
  (∀k (g:k<d.length) (h:k<es.length),UB b ts (ZX b.pk.length d[k]) es[k] H) ->
  LL.Zc PL 154 #[v,vf 155] H λ_ e=>(∀x y,f≠some x->H x=some y->e x=some y)/\∃(a:List Te) (c:List Nat),c.Perm d/\c.Pairwise (·<·)/\a.length=c.length/\jN e 122 8 v (Zb a) a.length f /\
   ∀k (g:k<c.length) (h:k<a.length),UB b ts (ZX b.pk.length c[k]) a[k] e
def UB.inc{p:List Int}{e:Te}{H:Hp}(h:UB b ts p e H)(f:∀x y,H x=some y->H' x=some y):UB b ts p e H':=by obtain⟨a,c,a3,r,rest,a4,d⟩:=h;exact⟨a,c,a3,r,rest,a4,f _ _ d⟩
section
theorem Zom{P:aX}[Tz P][Loud P](hO:P=PP){H:Hp}(val:bA b)(tZ:1<=ts.length/\ts.length<=1000)(vL:∀t∈ts,Yp t)(hb:Zr H b)(zS:aC H ⟨1,0,none⟩ [vf 284])(hw:aF H (.slice Aw ts.length cw) ts)(M4:IQ b ts) :
  LL.Zc P 102 #[ZU b (.slice Aw ts.length cw)] H λv F=>aL H F/\∃(es:List Te) (A:Option Addr) (c:Nat) (ms:List Nat),v=.slice A es.length c/\aF F v es/\ms.Pairwise (·<·)/\(∀m,m∈ms↔1<=m/\m<=(ZB b.pk.length).length/\UM b ts m=true)/\es.length=ms.length /\
   ∀k (h1:k<ms.length) (h2:k<es.length),UB b ts (ZX b.pk.length ms[k]) es[k] F:=by
 obtain⟨PB,hu⟩:=ZgH
 have hN:=CZ val.n
 refine aJ.m (bG Zxq) (args:=[ZU b (.slice Aw ts.length cw)]) rfl ?_
 unfold ZkN ZU
 refine Y ?_
 refine V9 rfl (OL _) λr1 KA=>?_
 have i1:=Zs (o:=.cells (ZU b (.slice Aw ts.length cw)).cells 110) KA
 have c1:aC (H.ins r1 (.cells (ZU b (.slice Aw ts.length cw)).cells 110)) ⟨r1,0,none⟩ [vi b.pl,vi b.hd,vi b.td,.slice b.A1 b.pk.length b.c1,.slice b.A2 b.nt.length b.c2,.slice Aw ts.length cw]:=VK
 unfold ZU at i1 c1
 generalize H.ins r1 (.cells (Value.agg #[vi b.pl,vi b.hd,vi b.td,.slice b.A1 b.pk.length b.c1,.slice b.A2 b.nt.length b.c2,.slice Aw ts.length cw]).cells 110)=Q at *
 refine Y ?_
 refine ZsV (bI hu) (cD rO) (OL _) λch KE=>?_
 have i2:=Zs (o:=.chan 0 #[] false 0 0 false) KE
 have a2:(Q.ins ch (.chan 0 #[] false 0 0 false)) ch=some (.chan 0 #[] false 0 0 false,true):=Hp.aG _ _ _
 generalize Q.ins ch (.chan 0 #[] false 0 0 false)=H2 at *
 refine Y ?_
 refine Vt (cD ZgT) (OL _) λrC Ei=>?_
 refine Y ?_
 refine Vq (cD ZgT) rfl rfl (Hp.aG _ _ _) rfl rfl (OL _) ?_
 rw[Us]
 have i3:=Zs (o:=.cells #[.chan (some ch)] 179) Ei
 have a3:(H2.ins rC (.cells #[.chan (some ch)] 179)) rC=some (.cells #[.chan (some ch)] 179,true):=Hp.aG _ _ _
 generalize H2.ins rC (.cells #[.chan (some ch)] 179)=H3 at *
 refine Y ?_
 refine Vt (cD Zn8) (OL _) λM hM=>?_
 have i4:=Zs (o:=.cells (Value.agg #[.int .i32 0,.int .u32 0]).cells 186) hM
 have a4:(H3.ins M (.cells (Value.agg #[.int .i32 0,.int .u32 0]).cells 186)) M=some (.cells #[.int .i32 (0:Nat),.int .u32 (0:Nat)] 186 (0,0),true):=Hp.aG _ _ _
 generalize H3.ins M (.cells (Value.agg #[.int .i32 0,.int .u32 0]).cells 186)=H4 at *
 refine Y ?_
 refine Vt (cD Zn7) (OL _) λW hW=>?_
 have i5:=Zs (o:=.cells (Value.agg #[.int .u64 0,.int .u32 0]).cells 193) hW
 have a5:(H4.ins W (.cells (Value.agg #[.int .u64 0,.int .u32 0]).cells 193)) W=some (.cells #[.int .u64 (0:Nat),.int .u32 (0:Nat)] 193 (0,0),true):=Hp.aG _ _ _
 generalize H4.ins W (.cells (Value.agg #[.int .u64 0,.int .u32 0]).cells 193)=H5 at *
 refine Y ?_
 refine Vt (cD ZgV) (OL _) λrF E=>?_
 have i6:=Zs (o:=.cells (Value.slice none 0 0).cells 130) E
 have a6:(H5.ins rF (.cells (Value.slice none 0 0).cells 130)) rF=some (.cells #[.slice none 0 0] 130 (0,0),true):=Hp.aG _ _ _
 generalize H5.ins rF (.cells (Value.slice none 0 0).cells 130)=H8 at *
 refine OB ?_
 refine Ztx ?_
 subst hO
 have i16:aL Q H8:=(((i2.trans i3).trans i4).trans i5).trans i6
 have a2':=(((i3.trans i4).trans i5).trans i6) _ _ a2
 have a3':=((i4.trans i5).trans i6) _ _ a3
 have a4':=(i5.trans i6) _ _ a4
 have a5':=i6 _ _ a5
 have n1:Q ch=none:=KE
 have n2:Q M=none:=YL (i2.trans i3) hM
 have n3:Q W=none:=YL ((i2.trans i3).trans i4) hW
 have n4:Q rF=none:=YL (((i2.trans i3).trans i4).trans i5) E
 have d1:M≠W:=by rintro rfl;rw[a4]at hW;simp at hW
 have d2:ch≠M:=by rintro rfl;rw[i3 _ _ a2]at hM;simp at hM
 have d3:ch≠W:=by rintro rfl;rw[i4 _ _ (i3 _ _ a2)]at hW;simp at hW
 have d4:rF≠ch:=by rintro rfl;rw[i5 _ _ (i4 _ _ (i3 _ _ a2))]at E;simp at E
 have d5:rF≠M:=by rintro rfl;rw[i5 _ _ a4]at E;simp at E
 have d6:rF≠W:=by rintro rfl;rw[a5]at E;simp at E
 have d7:rC≠ch:=by rintro rfl;rw[a2]at Ei;simp at Ei
 have d8:rC≠M:=by rintro rfl;rw[a3]at hM;simp at hM
 have d9:rC≠W:=by rintro rfl;rw[i4 _ _ a3]at hW;simp at hW
 have d10:rC≠rF:=by rintro rfl;rw[i5 _ _ (i4 _ _ a3)]at E;simp at E
 let B:Hp:=⟨λx=>if x=ch\/x=M\/x=W\/x=rF then none else H8 x,[]⟩
 let Hl:Hp:=⟨λx=>if x=rF then H8 x else none,[]⟩
 have Gq:∀x,B x=if x=ch\/x=M\/x=W\/x=rF then none else H8 x:=λx=>rfl
 have TJ:∀x,Hl x=if x=rF then H8 x else none:=λx=>rfl
 have hS:K5 H8 M W ch 186 193 B Hl:=by
  refine⟨d1,d2,d3,a2',a4',a5',λx y Z=>?_,λx y Z=>?_⟩
  ·rw[Gq]at Z;by_cases e:x=ch\/x=M\/x=W\/x=rF
   ·rw[iF e]at Z;simp at Z
   rw[aT e]at Z;exact⟨Z,λh=>e (.inr (.inl h)),λh=>e (.inr (.inr (.inl h))),λh=>e (.inl h),by rw[TJ,aT λh=>e (.inr (.inr (.inr h)))]⟩
  rw[TJ]at Z;by_cases e:x=rF
  ·subst e;rw[iF rfl]at Z;exact⟨Z,d5,d6,d4⟩
  rw[aT e]at Z;simp at Z
 have BC:aL Q B:=λx y h=>by
  have h8:=i16 _ _ h;rw[Gq,aT]
  ·exact h8
  rintro(rfl | rfl | rfl | rfl)
  ·rw[n1]at h;simp at h
  ·rw[n2]at h;simp at h
  ·rw[n3]at h;simp at h
  rw[n4]at h;simp at h
 have Gr:B rC=some (.cells #[.chan (some ch)] 179,true):=by
  rw[Gq,aT]
  ·exact a3'
  rintro(e | e | e | e)
  ·exact d7 e
  ·exact d8 e
  ·exact d9 e
  exact d10 e
 have Ez:∀x y,B x=some y->H8 x=some y:=λx y h=>(hS.own x y h).1
 have hFl:Hl rF=some (.cells #[.slice none 0 0] 130 (0,0),true):=by rw[TJ,iF rfl];exact a6
 have hFo:∀x y,Hl x=some y->y.2=true:=λx y h=>by
  rw[TJ]at h;by_cases e:x=rF
  ·subst e;rw[iF rfl,a6]at h;obtain rfl:=iO h;rfl
  rw[aT e]at h;simp at h
 have Pb:∀base n0 old,Cx.Ok { M:=M,W:=W,ch:=ch,base:=base,n0:=n0,old:=old,tM:=186,tW:=193,K:=2,need:=UM b ts,PI:=QV b ts rF,N:=(ZB b.pk.length).length,msg:=λm v B=>UA (ZX b.pk.length m) v B }:=λbase n0 old=>
  ⟨d1,d2,d3,by show 1<=2;omega,rfl,λl H ⟨v,bb,es,h⟩=>h.all,by show 2<=100000000;decide,λl H g ⟨v,bb,es,h⟩=>⟨v,bb,es,h.at_,h.own,h.ne,h.all,h.len,λk h1 h2=>⟨(h.fit k h1 h2).td,(h.fit k h1 h2).n,(h.fit k h1 h2).c,(h.fit k h1 h2).bk⟩,h.nd,h.rg⟩⟩
 refine Zu0 (K:=2) (N:=(ZB b.pk.length).length) (need:=UM b ts) (PI:=QV b ts rF) (msg:=λm v B=>UA (ZX b.pk.length m) v B) hS ⟨.slice none 0 0,none,[],hFl,.nil _ _ _,by simp,hFo,rfl,λk h1 h2=>absurd h1 (by simp),List.nodup_nil,λm hm=>by simp at hm⟩ Pb λbase n0 old nQ=>?_
 clear_value B Hl
 have ok:=Pb base n0 old
 obtain⟨c,a⟩:∃c:Cx,c={ M:=M,W:=W,ch:=ch,base:=base,n0:=n0,old:=old,tM:=186,tW:=193,K:=2,need:=UM b ts,PI:=QV b ts rF,N:=(ZB b.pk.length).length,msg:=λm v B=>UA (ZX b.pk.length m) v B }:=⟨_,rfl⟩
 rw[<-a]at ok ⊢
 have cM:c.M=M:=by rw[a]
 have cW:c.W=W:=by rw[a]
 have cC:c.ch=ch:=by rw[a]
 have cK:c.K=2:=by rw[a]
 have cN:c.N=(ZB b.pk.length).length:=by rw[a]
 have R:c.need=UM b ts:=by rw[a]
 have cP:c.PI=QV b ts rF:=by rw[a]
 have EE:c.msg=λm v B=>UA (ZX b.pk.length m) v B:=by rw[a]
 clear a
 obtain⟨X,G⟩:∃X,X=pm c:=⟨_,rfl⟩
 have iT:Tz X:=G ▸ inferInstance
 have iL:Loud X:=G ▸ inferInstance
 have T:∀g,X.still g=false:=Loud.aV
 have Gm:∀{n:Nat} {H:Hp},H.cg=[30,n]->LL.Zc X 147 #[pt W,vi 1] H λ_ F=>F=H.tagc [33,n]:=λ{n H} h=>by rw[G,<-cW];exact Zyo ok h
 have M1:∀{H:Hp},H.cg=[30,2]->H.hd=0->LL.Zc X 153 #[pt W] H λ_ F=>Ty c H F:=λ{H} h h2=>by rw[G,<-cW];exact ZnK ok (by rw[cK];exact h) h2
 have M5:∀{d:Option Nat} {next:aM->Hp->Prop} {σ:aM} {x y:Operand} {ty:TypeId} {v:Value} {r:Nat} {Q B:Hp},Q.gh=(r+3) :: [30,2]->Q.Comp B->B.gh=[]->c.msg (c.N-r) v B->σ.get x=some (.chan (some ch))->σ.get y=some v->next (σ.set d undef) (Q.tagged ((r+2) :: [30,2]))->(bE.raw (.send x y) ty).m X d next σ (Q.join B):=by
  intro d next σ x y ty v r Q B g1 g2 g3 g4 g5 g6 g7
  rw[G];exact ZsR (by rw[cK];exact g1) g2 g3 g4 (by rw[cC];exact g5) g6 (by rw[cK];exact g7)
 have HI:∀{d:Option Nat} {next:aM->Hp->Prop} {σ:aM} {x:Operand} {ty:TypeId} {ts:Array TypeId} {n:Nat} {H:Hp},H.gh=[2,30,n]->σ.get x=some (.chan (some ch))->next (σ.set d (.tuple #[])) (H.tagged [1,30,n])->(bE.raw (.call { callee:=.builtin .close,args:=#[x],argTypes:=ts }) ty).m X d next σ H:=by
  intro d next σ x ty ts n H g1 g2 g3
  rw[G];exact Zs2 ok g1 (by rw[cC];exact g2) g3
 have NP:∀{wk nr:Bool} {n:Nat} {K:Hp},K.cg=[30,n]->n<2->Y0 B K->Zk X (pure (.spawn { target:=.fn (.func 148) #[pt W,pt rC,pt r1,pt M,pt rF],args:=#[]++([]:List Value).toArray })) wk nr (K.tagc [33,n]) λv K'=>v=undef/\K'=DS (K.tagc [33,n]) [K.hd+1,30,n+1]:=by intro wk nr n K Gd hn hi;rw[G];have Fj:Y0 B (DS (K.tagc [33,n]) [1,1]):=(hi.trans (Q9 K _)).trans (ZhF _ _);have HG:Y0 H (DS (K.tagc [33,n]) [1,1]):=(i1.trans BC).jK.trans Fj;refine ZtL ok ⟨_,_,rfl⟩ (λw=>rfl) rfl (by rw[cK];exact hn) (ZhE _ _) (ZhE _ _) (Zpz _ _ _) rfl rfl (ZpQ Tryz.func148 rfl rfl ?_);have:=Zok (i:=c.base+n) ok (ts:=ts) (Aw:=Aw) (cw:=cw) (rF:=rF) (rC:=rC) (r1:=r1) val tZ vL cP cN R EE (H:=DS (K.tagc [33,n]) [1,1]) rfl (by rw[cC];exact(ZA (cs:=[.chan (some ch)]) Gr).jK Fj) ((c1.inc BC).jK Fj) (hb.jK HG) (hw.jK HG) (zS.jK HG);rw[cM,cW]at this;exact this
 have Fv:∀{F L:Hp},Y0 B F->Nj H8 F L->aL H L:=by
  intro F L hi hu x y Z;have G0:Q x=some y:=i1 _ _ Z;have GZ:=BC _ _ G0;have Qq:=Ez _ _ GZ;obtain⟨o,p⟩:=y;obtain⟨p',h1,h2⟩:=hi _ _ _ GZ;cases hz2:L x with
  | none=>rw[(hu.Sx x).1 hz2]at h1;simp at h1
  | some z=>
   obtain⟨k1,k2,k3,k4⟩:=hu.val x z _ hz2 h1;obtain⟨o',p''⟩:=z;simp only at k1 k2 k3 k4;subst k1;congr 2;cases p with
   | true=>exact k3 ⟨_,Qq⟩
   | false=>
    cases p'' with
    | false=>rfl
    | true=>exact(h2 (k4 _ Qq rfl)).symm
 have G9:∀k (hk:k<(ZB b.pk.length).length) v Hv,UA (ZB b.pk.length)[k] v Hv->∀r,r+k+1=(ZB b.pk.length).length->c.msg (c.N-r) v Hv:=by intro k hk v Hv h r hr;rw[EE,cN,show(ZB b.pk.length).length-r=k+1 by omega];show UA (ZX b.pk.length (k+1)) v Hv;unfold ZX;rw[qAU,ZD hk];exact h
 rw[show(bO Tryz.prog c).prgM=X from G.symm]
 clear G
 obtain⟨N,Sl⟩:∃N,N=(ZB b.pk.length).length:=⟨_,rfl⟩
 have Gw:∀{K:Hp} {n:Nat} {l:List Nat},K.cg=l->l≠[]->K.hd=n->K.gh=(n+1) :: l:=by
  intro K n l h1 h2 h3;unfold Hp.cg at h1;unfold Hp.hd at h3;generalize K.gh=g at *;match g with
  | []=>simp[ZN]at h1;exact absurd h1 h2
  | 0 :: t=>simp[ZN]at h1;exact absurd h1 h2
  | (k+1) :: t=>simp[ZN]at h1;simp[OK]at h3;subst h1 h3;rfl
 refine Y ?_
 refine Zv 2 (λj F=>F.cg=[30,j]/\F.hd=N+1/\Y0 B F) (λj=>[(1,pt r1),(2,.slice none 0 0),(3,pt rC),(4,pt M),(5,pt W),(6,pt rF),(9,vi j)]) (λ_=>[]) ⟨rfl,by rw[Sl];rfl,Q9 B _⟩ V trivial ?_
 rintro n K hn ⟨g1,g2,g3⟩
 refine Y ?_
 refine OI (λh1=>?_) (λh1=>?_)
 ·have hn':n<2:=O;refine Y ?_;refine Za [pt W,vi 1] (Gm g1) ?_;rintro v _ rfl;refine Y ?_;refine VQ rfl rfl (Y ?_);refine ZsZ (f:=148) (first:=#[]) (vs:=[]) rfl rfl (NP g1 hn' g3) ?_;rintro v _ ⟨rfl,rfl⟩;refine Y ?_;exact⟨⟨n+1,O⟩,bN O,⟨rfl,g2,(g3.trans (Q9 K _)).trans (ZhF _ _)⟩,V,trivial,rfl⟩
 ·have:n=2:=O;subst this;refine Y ?_;refine Zn (cs:=[vi b.pl,vi b.hd,vi b.td,.slice b.A1 b.pk.length b.c1,.slice b.A2 b.nt.length b.c2]) (T _) rfl (by rw[add_zero];exact YN (ds:=[.slice Aw ts.length cw]) ((c1.inc BC).jK g3)) rfl (Y ?_);refine VQ rfl rfl (Y ?_);refine Zts T rfl (Zsl (b:=b) (by have:=val.n;omega)) (λn vs Hv h=>by obtain⟨v,rfl,_⟩:=h;rfl) (λk F=>F.gh=(N-k+2) :: [30,2]/\Y0 B F) (λe F=>False) ⟨by rw[qBI];exact Gw g1 (by simp) g2,g3⟩
   (λk K J hc ⟨q1,q2⟩=>⟨by rw[Hp.bZ,q1,hc.gh.resolve_left (by rw[q1];simp)];rfl,q2.trans (Ue _ _).jK⟩) (λe K J hc h=>h) (λ_ _ _=>trivial) ?_ ?_ ?_
  ·rintro k hk vs Hv K2 ⟨v,rfl,zQ,hE⟩ NN TB ⟨q1,q2⟩;refine Y ?_;refine Zh (T _) rfl (((ZA (cs:=[.chan (some ch)]) Gr).jK q2).inc (Ue _ _)) (Y ?_);refine M5 (r:=N-k-1) (by rw[q1];congr 1;omega) TB NN (G9 k zQ v Hv hE _ O) rfl rfl (Y ?_);exact⟨by show(N-k-1+2) :: [30,2]=(N-(k+1)+2) :: [30,2];rw[Nat.sub_sub],q2.trans (Q9 K2 _)⟩
  ·rintro K3 ⟨q1,q2⟩;rw[<-Sl,qCv]at q1;refine Y ?_;refine Zh (T _) rfl ((ZA (cs:=[.chan (some ch)]) Gr).jK q2) (Y ?_);refine HI (n:=2) q1 rfl (Y ?_);refine Za [pt W] (M1 rfl rfl) ?_;rintro v _ ⟨l,R9,D5,HK,Fo,hnd,yK,wS,rfl⟩;rw[cP]at D5;obtain⟨fv,Hi,es,C⟩:=D5;have hJ:∀x y,R9 x=some y->(((K3.tagged [1,30,2]).tagc [40]).join R9) x=some y:=λx y h=>Hp.bC wS h;have S5:(((K3.tagged [1,30,2]).tagc [40]).join R9).gh=[1,40]:=by rw[Hp.bZ,yK];rfl
   have i11:Y0 B (((K3.tagged [1,30,2]).tagc [40]).join R9):=(q2.trans (Q9 K3 _)).trans (Ue _ _).jK;have TF:∀x o p,B x=some (o,p)->Hi≠some x:=λx o p h e=>by
    obtain⟨p',h5,_⟩:=q2 _ _ _ h;obtain⟨_,⟨_,_,q⟩ | ⟨r,cap,MP,q,_,h9,_⟩⟩:=C.own
    ·rw[e]at q;simp at q
    rw[e]at q;obtain rfl:=iO q;obtain⟨e4,e5⟩:=wS.mem x _ _ (show((K3.tagged [1,30,2]).tagc [40]) x=some (o,p')from h5) h9;rw[e4]at e5;simp at e5
   generalize((K3.tagged [1,30,2]).tagc [40]).join R9=L7 at *;have o11:=C.own.sub λx y _ h=>hJ x y h;have f11:=hJ _ _ C.at_;refine Y ?_;refine Zh (T _) rfl (ZA (cs:=[fv]) f11) (Y ?_);have Qx:=M4 L7 fv Hi es l o11 C.len C.nd C.rg (λk h1 h2=>(C.fit k h1 h2).inc hJ);rw[show(PL:aX)=Kn X.toProgram by rw[Tz.prog (P:=X)]]at Qx;refine Za [fv,vf 155] (Ja (T _) (λv K J hc ⟨a1,S,Dg,a2,a3,a4,a5,a6⟩=>⟨λx y h h'=>Hp.aW (a1 x y h h'),S,Dg,a2,a3,a4,a5.sub λx y _ h=>Hp.aW h,λk h1 h2=>(a6 k h1 h2).inc λx y h=>Hp.aW h⟩) Qx) ?_;rintro w L6 ⟨⟨k1,S,Dg,p1,p2,p3,p4,p5⟩,g12⟩;have oQ:Y0 B L6:=λx o p h=>by obtain⟨p',h5,h6⟩:=i11 _ _ _ h;exact⟨p',k1 _ _ (TF x o p h) h5,h6⟩
   obtain⟨A3,c3,rfl,q4⟩:=p4.cells;refine Y ?_;refine Zh (T _) rfl (ZA (cs:=[.slice A3 S.length c3]) (k1 _ _ C.ne f11)) (Y ?_);refine⟨by rw[g12,S5],λL hu=>?_⟩;refine Y ?_;have J7:∀x o,L6 x=some (o,true)->L x=some (o,true):=λx o h=>by
    cases hz:L x with
    | none=>rw[(hu.Sx x).1 hz]at h;simp at h
    | some z=>
     obtain⟨q5,q6,_,_⟩:=hu.val x z _ hz h;obtain⟨z1,z2⟩:=z;simp only at q5 q6;rw[q5,q6 trivial]
   have p4':jN L 122 8 (.slice A3 S.length c3) (Zb S) S.length Hi:=p4.sub λx y e h=>by
    obtain⟨_,⟨_,_,q⟩ | ⟨r,cap,MP,q,_,h9,_⟩⟩:=id p4
    ·rw[e]at q;simp at q
    rw[e]at q;obtain rfl:=iO q;rw[h9]at h;obtain rfl:=iO h;exact J7 _ _ h9
   refine⟨Fv oQ hu,S,A3,c3,Dg,rfl,?_,p2,λm=>?_,p3,λk h1 h2=>?_⟩
   ·obtain⟨A,c',q5,q6⟩:=p4'.cells;exact⟨A,c',q5,λhn=>q6 (by simpa using hn)⟩
   ·rw[p1.mem_iff];constructor
    ·intro hm;obtain⟨q5,q6,q7⟩:=Fo m hm;rw[cN]at q6;rw[R]at q7;exact⟨q5,q6,q7⟩
    rintro⟨q5,q6,q7⟩;exact HK m q5 (by rw[cN];exact q6) (by rw[R];exact q7)
   obtain⟨a1,a2,a3,r,rest,a4,a5⟩:=p5 k h1 h2;exact⟨a1,a2,a3,r,rest,a4,J7 _ _ a5⟩
  rintro e K3 he h;exact h.elim
end
def dE(b:Sb)(ts:List N4):List Nat:=((List.range (ZB b.pk.length).length).map (·+1)).filter (UM b ts)
def kK{m:Nat}:m∈dE b ts↔1<=m/\m<=(ZB b.pk.length).length/\UM b ts m=true:=by
 rw[dE,qAC,qAB];constructor
 ·rintro⟨⟨k,c,rfl⟩,h⟩;have:=qAl.1 c;exact⟨O,O,h⟩
 rintro⟨d,e,a⟩;exact⟨⟨m-1,qAl.2 O,O⟩,a⟩
def PV(b:Sb)(ts:List N4):(dE b ts).Pairwise (·<·):=by refine List.Pairwise.filter _ ?_;rw[qBK];exact List.pairwise_lt_range.imp λh=>by omega
def Zx7{l c:List Nat}(d:l.Pairwise (·<·))(e:c.Pairwise (·<·))(h:∀m,m∈l↔m∈c):l=c:=by have p:l.Perm c:=(qCh (d.imp λh=>O) (e.imp λh=>O)).2 h;exact p.eq_of_pairwise (le:=(·<=·)) (λa b _ _ x y=>O) (d.imp λh=>O) (e.imp λh=>O)
def ZtA(ok:bA b)(ts:List N4):(dE b ts).length<=24:=by refine qAz (qBd _ _) ?_;rw[qAh,qBF];exact CZ ok.n
structure R7(b:Sb)(ts:List N4)(v:Value)(es:List Te)(H:Hp):Prop where
 vv:∃A c,v=.slice A es.length c
 sl:aF H v es
 len:es.length=(dE b ts).length
 fit:∀k (h1:k<(dE b ts).length) (h2:k<es.length),UB b ts (ZX b.pk.length (dE b ts)[k]) es[k] H
def O4(b:Sb)(ts:List N4):List Int:=(dE b ts).map λm=>(cG b ts (ZX b.pk.length m)).hi
def Yu(b:Sb)(ts:List N4):List Int:=ZX b.pk.length ((dE b ts).getD (Zo (O4 b ts)) 0)
def gE(b:Sb)(n:Nat):Sb:={ b with hd:=((n+1:Nat):Int) }
def V7(b:Sb)(ts:List N4):Nat:=if dE (gE b 0) ts≠[]then 1 else if dE (gE b 1) ts≠[]then 2 else if dE (gE b 2) ts≠[]then 3 else 0
def Ij(h:bA b){n:Nat}(a:n<3):bA (gE b n):=⟨h.pl,by show 1<=((n+1:Nat):Int)/\((n+1:Nat):Int)<=3;omega,h.td,h.n,h.pk,h.nm,h.nn,h.nt⟩
def Tl{H:Hp}(h:Zr H b)(n:Nat):Zr H (gE b n):=⟨h.pk,h.nt,h.ps,h.q1,h.q2⟩
section
variable{P:aX}[Tz P][Loud P]{H:Hp}
def Mj(f:P=PP)(val:bA b)(d:1<=ts.length/\ts.length<=1000)(h:∀t∈ts,Yp t)(hb:Zr H b)(g:aC H ⟨1,0,none⟩ [vf 284])(j:aF H (.slice Aw ts.length cw) ts)(a:IQ b ts) :
  LL.Zc P 102 #[ZU b (.slice Aw ts.length cw)] H λv e=>aL H e/\∃es,R7 b ts v es e:=by
 refine LL.Zc.mono (Zom f val d h hb g j a) ?_;rintro v e ⟨i,es,A,c,k,rfl,n,o,p,q,r⟩;have:k=dE b ts:=Zx7 o (PV b ts) λm=>(p m).trans kK.symm;subst this;exact⟨i,es,⟨A,c,rfl⟩,n,q,r⟩
theorem ZyK(h:P=PP)(a:∀b ts,bA b->IQ b ts)(hb:Zr H b)(s:b.Sz)(n:Yk H)(i:aC H ⟨1,0,none⟩ [vf 284]) :
  LL.Zc P 30 #[b.v] H λv k=>aL H k/\v=.tuple #[vi (if Zl b 0=0 then(dE b (Zi b)).length else 0),vi (Zl b 0)]:=by
 refine aJ.m (bG ZxR) (args:=[b.v]) rfl ?_;unfold Zle Sb.v;refine Y ?_;refine Za [b.v,vf 101] (Ov hb s n X9) ?_;rintro v t ⟨g,o⟩;rcases o with⟨d,rfl⟩ | ⟨d,ok,e,w,x,rfl,q⟩
 ·unfold U1;rw[aT d];refine OJ (λj=>?_) (λj=>?_)
  ·refine Y ?_;exact⟨g,rfl⟩
  exact absurd j d
 rw[iF d,d];have f:=q.sl;obtain⟨Aw,cw,rfl,_⟩:=id f;unfold ZU;refine Y ?_;refine Za [ZU b (.slice Aw (Zi b).length cw)] (Mj h ok ⟨e,by have:=UI ok;omega⟩ (vV ok) (hb.inc g) (i.inc g) f (a _ _ ok)) ?_;rintro v u ⟨p,es,⟨A,c,rfl⟩,y,r,z⟩;refine Y ?_;exact⟨g.trans p,by rw[r];rfl⟩
def Zhb(e:Te):LL.Zc P 105 #[AF e.td (.slice e.A e.n e.c)] H λv a=>H=a/\v=vi e.td.hi:=by refine aJ.m (bG Zxo) (args:=[AF e.td (.slice e.A e.n e.c)]) rfl ?_;unfold ZkL;refine Y ?_;exact⟨rfl,rfl⟩
def Zt4(p:aF H v l)(D:l.length<=1000000):LL.Zc P 156 #[.agg #[vf 105],v] H λw h=>H=h/\w=vi (Zo (l.map λe=>e.td.hi)):=by
 refine aJ.m (bG ZwT) (args:=[.agg #[vf 105],v]) rfl ?_;unfold Zkg;obtain⟨K,k⟩:∃K,K=l.map λe=>e.td.hi:=⟨_,rfl⟩;rw[<-k];have o:K.length=l.length:=by rw[k,qAh]
 have f:∀j (r:j<l.length),el K j=l[j].td.hi:=λj r=>by rw[Uu O];simp[k]
 refine Y ?_;refine YE p rfl (Y ?_);refine Zv l.length (λj h=>H=h) (λj=>[(1,v),(2,vi 0),(5,vi (cO K j)),(8,vi l.length),(9,vi j)]) (λj=>[(2,[vf 105])]) rfl V V ?_;rintro j _ r rfl;refine OJ (λB=>?_) (λB=>?_)
 ·have g:j<l.length:=O;have s:cO K j<l.length:=by
   by_cases z:j=0
   ·rw[z,cO];omega
   have:=EM (l:=K) j O;omega
  have t:=f j g;have u:=f _ s;refine Y ?_;refine Zz j p g λa C=>?_;generalize l[j]=x at *;refine Y ?_;refine YA (cs:=x.td.cs (.slice x.A x.n x.c)) C (Y ?_);refine Zz (cO K j) p s λa hb=>?_;generalize l[cO K j]=y at *;refine Y ?_;refine YA (cs:=y.td.cs (.slice y.A y.n y.c)) hb (Y ?_);refine ZM (vs:=[AF x.td (.slice x.A x.n x.c)]) rfl rfl (Yj U (Zhb x)) ?_;rintro w _ ⟨rfl,rfl⟩;refine Y ?_;refine ZM (vs:=[AF y.td (.slice y.A y.n y.c)]) rfl rfl (Yj U (Zhb y)) ?_;rintro w _ ⟨rfl,rfl⟩;refine Y ?_;rw[<-t,<-u];refine OI (λi=>?_) (λi=>?_)
  ·have e:cO K (j+1)=j:=by rw[cO,iF i]
   refine Y ?_;exact⟨⟨j+1,O⟩,bN O,rfl,⟨rfl,rfl,by rw[e];rfl,rfl,rfl,trivial⟩,V,rfl⟩
  have e:cO K (j+1)=cO K j:=by rw[cO,aT i]
  refine Y ?_;exact⟨⟨j+1,O⟩,bN O,rfl,⟨rfl,rfl,by rw[e];rfl,rfl,rfl,trivial⟩,V,rfl⟩
 have:j=l.length:=O;subst this;refine Y ?_;refine⟨rfl,?_⟩;show vi (cO K l.length)=vi (Zo K);rw[Zo,o]
def Zsr{A:Option Addr}{c:Nat}(j:aF H (.slice A l.length c) l)(g:l≠[])(p:l.length<=1000000):LL.Zc P 104 #[.agg #[vf 105],.slice A l.length c] H λw k=>H=k/\∃h:Zo (l.map λe=>e.td.hi)<l.length,w=AF l[Zo (l.map λe=>e.td.hi)].td (.slice l[Zo (l.map λe=>e.td.hi)].A l[Zo (l.map λe=>e.td.hi)].n l[Zo (l.map λe=>e.td.hi)].c):=by
 refine aJ.m (bG Zxp) (args:=[.agg #[vf 105],.slice A l.length c]) rfl ?_;unfold ZkM;have i:Zo (l.map λe=>e.td.hi)<l.length:=by have:=uF (l:=l.map λe=>e.td.hi) (by simpa using g);rwa [qAh]at this
 refine Y ?_;refine Za [.agg #[vf 105],.slice A l.length c] (Zt4 j p) ?_;rintro w _ ⟨rfl,rfl⟩;refine Y ?_;refine Zz (Zo (l.map λe=>e.td.hi)) j i λa o=>Y ?_;refine YA (cs:=l[Zo (l.map λe=>e.td.hi)].td.cs (.slice l[Zo (l.map λe=>e.td.hi)].A l[Zo (l.map λe=>e.td.hi)].n l[Zo (l.map λe=>e.td.hi)].c)) o (Y ?_);exact⟨rfl,i,rfl⟩
theorem ZyG(o:P=PP)(d:∀b ts,bA b->IQ b ts)(hb:Zr H b)(Q:b.Sz)(G:Yk H)(r:aC H ⟨1,0,none⟩ [vf 284]) :
  LL.Zc P 32 #[b.v] H λv x=>aL H x/\((¬ (Zl b 0=0/\dE b (Zi b)≠[])/\v=.tuple #[.slice none 0 0,.agg #[vi 0,vi 0],vb false,vi (Zl b 0)]) \/
   (Zl b 0=0/\dE b (Zi b)≠[]/\∃A c,aF x (.slice A (Yu b (Zi b)).length c) (Yu b (Zi b))/\(Yu b (Zi b)).length<=c/\v=.tuple #[.slice A (Yu b (Zi b)).length c,.agg #[vi (cG b (Zi b) (Yu b (Zi b))).lo,vi (cG b (Zi b) (Yu b (Zi b))).hi],vb true,vi 0])):=by
 refine aJ.m (bG ZxQ) (args:=[b.v]) rfl ?_
 unfold Zld Sb.v
 refine Y ?_
 refine Za [b.v,vf 101] (Ov hb Q G X9) ?_
 rintro v S ⟨k,K⟩
 rcases K with⟨n,rfl⟩ | ⟨n,ok,g,w,U,rfl,M⟩
 ·unfold U1;refine OJ (λf=>?_) (λf=>?_)
  ·refine Y ?_;exact⟨k,.inl ⟨λh=>n h.1,rfl⟩⟩
  exact absurd f n
 ·rw[n];have i:=M.sl;obtain⟨Aw,cw,rfl,_⟩:=id i;unfold ZU;refine Y ?_;refine Za [ZU b (.slice Aw (Zi b).length cw)] (Mj o ok ⟨g,by have:=UI ok;omega⟩ (vV ok) (hb.inc k) (r.inc k) i (d _ _ ok)) ?_;rintro v T ⟨C,es,⟨A,c,rfl⟩,N,u,D⟩;have B:=ZtA ok (Zi b);refine OJ (λf=>?_) (λf=>?_)
  ·have s:dE b (Zi b)=[]:=qAb O;refine Y ?_;exact⟨k.trans C,.inl ⟨λh=>h.2 s,rfl⟩⟩
  have s:dE b (Zi b)≠[]:=by intro e;rw[e]at u;exact f (by rw[u];rfl)
  have p:es≠[]:=by intro e;subst e;exact f rfl
  refine Y ?_;refine Za [.agg #[vf 105],.slice A es.length c] (Zsr N p O) ?_;rintro v _ ⟨rfl,z,rfl⟩;have a:(es.map λe=>e.td.hi)=O4 b (Zi b):=by
   refine qBl (by simp[O4,u]) λj L V=>?_;simp only[qAZ,O4];have t:j<es.length:=by simpa using L
   rw[(D j O t).td]
  simp only[a]at z ⊢;have q:=D (Zo (O4 b (Zi b))) O z;have J:ZX b.pk.length ((dE b (Zi b))[Zo (O4 b (Zi b))]'O)=Yu b (Zi b):=by rw[Yu,ZD O]
  rw[J]at q;generalize es[Zo (O4 b (Zi b))]=e at *;obtain⟨E,y,f3,_⟩:=id q;have F:=q.sl;refine Y ?_;refine⟨k.trans C,.inr ⟨trivial,s,e.A,e.c,by rw[<-y];exact F,f3,?_⟩⟩;rw[<-E,<-y];rfl
theorem ZyV(t:P=PP)(g:∀b ts,bA b->IQ b ts)(hb:Zr H b)(L:b.Sz)(I:Yk H)(x:aC H ⟨1,0,none⟩ [vf 284]) :
  LL.Zc P 34 #[b.v] H λv s=>aL H s/\v=.tuple #[vi (if Zl b 0=0 then V7 b (Zi b)else 0:Nat),vb (decide (Zl b 0=0/\V7 b (Zi b)≠0)),vi (Zl b 0)]:=by
 refine aJ.m (bG ZxP) (args:=[b.v]) rfl ?_;unfold Zlc Sb.v;refine Y ?_;refine Za [b.v,vf 101] (Ov hb L I X9) ?_;rintro v G ⟨q,J⟩;rcases J with⟨n,rfl⟩ | ⟨n,ok,o,w,Q,rfl,K⟩
 ·unfold U1;refine OJ (λr=>?_) (λr=>?_)
  ·refine Y ?_;exact⟨q,by rw[aT n,qAo (λh=>n h.1)];rfl⟩
  exact absurd r n
 rw[n];have p:=K.sl;obtain⟨Aw,cw,rfl,_⟩:=id p;have C:=vV ok;have B:1<=(Zi b).length/\(Zi b).length<=1000:=⟨o,by have:=UI ok;omega⟩;generalize Zi b=ts at *;unfold ZU;refine Y ?_;refine ZO (α:=Int) 3 (λj z s=>aL G s/\∀k,k<j->dE (gE b k) ts=[]) (λj z=>[(2,vi 0),(3,vb false),(5,vi 0),(15,vi j)]) (λj z=>[(5,[vi b.pl,vi z,vi b.td,.slice b.A1 b.pk.length b.c1,.slice b.A2 b.nt.length b.c2,.slice Aw ts.length cw])]) b.hd ⟨.refl _,λk y=>absurd y (qBm _)⟩ V V ?_;rintro j z M R ⟨i,a⟩;refine OJ (λr=>?_) (λr=>?_)
 ·have f:j<3:=O;refine Y ?_;refine Za [ZU (gE b j) (.slice Aw ts.length cw)] (Mj t (Ij ok f) B C ((Tl hb j).inc (q.trans i)) (x.inc (q.trans i)) (p.inc i) (g _ _ (Ij ok f))) ?_;rintro v N ⟨E,es,⟨A,c,rfl⟩,S,F,T⟩;refine OJ (λD=>?_) (λD=>?_)
  ·have d:dE (gE b j) ts=[]:=qAb O;refine Y ?_;refine⟨(⟨j+1,O⟩,((j+1:Nat):Int)),bN O,⟨i.trans E,λk y=>?_⟩,V,V,rfl⟩;rcases qDI.1 y with h | rfl
   ·exact a k h
   exact d
  have d:dE (gE b j) ts≠[]:=by intro e;rw[e]at F;exact D (by rw[F];rfl)
  have u:V7 b ts=j+1:=by
   unfold V7;match j,f,a,d with
   | 0,_,_,d=>rw[iF d]
   | 1,_,a,d=>rw[aT (by simp[a 0 O]),iF d]
   | 2,_,a,d=>rw[aT (by simp[a 0 O]),aT (by simp[a 1 O]),iF d]
  refine Y ?_;refine⟨(q.trans i).trans E,?_⟩;rw[iF rfl,u,decide_eq_true ⟨rfl,O⟩];rfl
 have:j=3:=O;subst this;have u:V7 b ts=0:=by unfold V7;rw[aT (by simp[a 0 O]),aT (by simp[a 1 O]),aT (by simp[a 2 O])]
 refine Y ?_;refine⟨q.trans i,?_⟩;rw[u,qAo (by simp)];rfl
end
structure dG(b b':Sb):Prop where
 pl:b'.pl=b.pl
 hd:b'.hd=b.hd
 td:b'.td=b.td
 pk:b'.pk=b.pk
 nl:b'.nt.length=b.nt.length
 nt:∀i (h:i<b.nt.length) (h':i<b'.nt.length),b'.nt[i].ps=b.nt[i].ps/\b'.nt[i].lo=b.nt[i].lo/\b'.nt[i].hi=b.nt[i].hi
def Vh(b:Sb):Int:=if ZF b≠0 then ZF b else if Vl b=false then 9 else 0
def Zn6:Yl Tryz.prog 26=some (1,some (.slice none 0 0),24):=U
def Zg6(v:Value):∀(l:List Nt) (i:Nat) (a:i<l.length) (rest:List Value) (A:Option Addr) (c:Nat),v=.slice A l[i].ps.length c->ZG (Zb l++rest) (i * 3) [v]=Zb (l.set i { l[i]with A:=A,c:=c })++rest
 | [],i,a,_,_,_,_=>by simp at a
 | p :: l,0,a,rest,A,c,e=>by subst e;simp[Zb,Enc.enc,ZG]
 | p :: l,i+1,a,rest,A,c,e=>by
  have ih:=Zg6 v l i (by simpa using a) rest A c e;have e:Zb (p :: l)++rest=Enc.enc p++(Zb l++rest):=by simp[Zb]
  rw[e,show(i+1) * 3=3+i * 3 by omega,LB (n:=3) (Enc.len p),ih];simp[Zb]
section
variable{P:aX}[Tz P][Loud P]{H:Hp}
def Tt{l:List Pk}(w:aF H v l)(g:l.length<=1000000):LL.Zc P 107 #[v] H λo h=>H.Sub h/\∃b,dD H h 50 o l b:=by
 have d:P.still H.gh=false:=Loud.aV _;obtain⟨A,c,rfl,n⟩:=w;refine aJ.m (bG Zxm) (args:=[.slice A l.length c]) rfl ?_;unfold ZkJ;refine Y ?_;refine Jl (bI wE) rfl ?_;refine OJ (λk=>?_) (λk=>?_)
 ·refine Y ?_;have:l=[]:=qAd λg=>by obtain⟨a,rfl,_⟩:=n g;simp at k
  subst this;exact⟨.refl H,none,.nil H _ 50⟩
 refine Y ?_;refine qZ (bI wE) (cD zB) d λr i=>Y ?_;have f:P.still (H.ins r (.cells #[] 50)).gh=false:=d;refine WZ (l:=([]:List Pk)) (l':=l) (bI wE) (bI wE) (cD zB) rfl (by decide) (Yf i) (H0:=H) (b:=some r) ⟨Bi,λq e=>by obtain rfl:=iO e;exact i⟩ ⟨A,c,rfl,λg=>by obtain⟨a,p,s⟩:=n g;exact⟨a,p,s.sub (Yf i)⟩⟩ (sG (λ_=>rfl) l) (by simp;omega) O rfl rfl f λo h b' t j y=>Y ?_;exact⟨t,b',by rw[qBt]at j;exact j⟩
def Hw{l:List Nt}(w:aF H v l)(g:l.length<=1000000):LL.Zc P 123 #[v] H λo h=>H.Sub h/\∃b,dD H h 85 o l b:=by
 have d:P.still H.gh=false:=Loud.aV _;obtain⟨A,c,rfl,n⟩:=w;refine aJ.m (bG Zxb) (args:=[.slice A l.length c]) rfl ?_;unfold Zky;refine Y ?_;refine Jl (bI qO) rfl ?_;refine OJ (λk=>?_) (λk=>?_)
 ·refine Y ?_;have:l=[]:=qAd λg=>by obtain⟨a,rfl,_⟩:=n g;simp at k
  subst this;exact⟨.refl H,none,.nil H _ 85⟩
 refine Y ?_;refine qZ (bI qO) (cD C4) d λr i=>Y ?_;have f:P.still (H.ins r (.cells #[] 85)).gh=false:=d;refine WZ (l:=([]:List Nt)) (l':=l) (bI qO) (bI qO) (cD C4) rfl (by decide) (Yf i) (H0:=H) (b:=some r) ⟨Bi,λq e=>by obtain rfl:=iO e;exact i⟩ ⟨A,c,rfl,λg=>by obtain⟨a,p,s⟩:=n g;exact⟨a,p,s.sub (Yf i)⟩⟩ (sG (λ_=>rfl) l) (by simp;omega) O rfl rfl f λo h b' t j y=>Y ?_;exact⟨t,b',by rw[qBt]at j;exact j⟩
def jF{α:Type}[Enc α]{H:Hp}{E:TypeId}{l:List α}{b:Option Nat}(h:dD H0 H E v l b):∃A c,v=.slice A l.length c/\l.length<=c:=by
 obtain⟨_,⟨rfl,a,_⟩ | ⟨r,cap,rest,_,rfl,_,_,d⟩⟩:=h.own
 ·exact⟨none,0,by rw[a],O⟩
 exact⟨_,cap,rfl,d⟩
def UO(H:Hp)(b:Option Nat):Hp:=⟨λx=>if b=some x then none else H x,H.gh⟩
theorem XS(H:Hp)(b:Option Nat)(x:Nat):UO H b x=if b=some x then none else H x:=rfl
def XT(H:Hp)(b:Option Nat):aL (UO H b) H:=λx y h=>by
 rw[XS]at h;split at h
 ·simp at h
 exact h
def ZlW{H:Hp}{b:Option Nat}(c:aL H0 H)(a:∀r,b=some r->H0 r=none):aL H0 (UO H b):=λx y h=>by rw[XS,aT (λe=>by rw[a x e]at h;simp at h)];exact c x y h
theorem Ht(hb:Zr H b)(sz:b.Sz)(hg:Yk H):LL.Zc P 108 #[b.v] H λv q=>aL H q/\((Vh b≠0/\v=.tuple #[OO,vi (Vh b)])\/(Vh b=0/\bA b/\∃b',dG b b'/\Zr q b'/\v=.tuple #[b'.v,vi 0])):=by
 refine aJ.m (bG Zxl) (args:=[b.v]) rfl ?_;unfold ZkI Sb.v;refine Y ?_;refine Za [b.v] (CG hb sz hg) ?_;rintro v H1 ⟨i1,rfl⟩;refine OJ (λI=>?_) (λI=>?_)
 ·have e:Vh b=ZF b:=iF I;refine Y ?_;exact⟨i1,.inl ⟨by rw[e];exact I,by rw[e];rfl⟩⟩
 have ok:=Ow (b:=b) I;refine Y ?_;refine Za [b.v] (Md (hb.inc i1) ok) ?_;rintro v H2 ⟨i2,rfl⟩;have f:=i1.trans i2;cases BC:Vl b with
 | false=>
  have e:Vh b=9:=by rw[Vh,aT O,iF BC]
  refine Y ?_;exact⟨f,.inl ⟨by rw[e];decide,by rw[e];rfl⟩⟩
 | true=>
 have e:Vh b=0:=by rw[Vh,aT O,aT (by rw[BC];decide)]
 refine Y ?_;refine Za [.slice b.A1 b.pk.length b.c1] (Tt (hb.pk.inc f) (by have:=ok.n;omega)) ?_;rintro v1 H3 ⟨s3,b3,o3⟩;refine Zp OL (Y ?_);refine Za [.slice b.A2 b.nt.length b.c2] (Hw ((hb.nt.inc f).sub s3) (by have:=ok.nn;omega)) ?_;rintro v2 M ⟨s4,g,K⟩;refine Zp OL ?_;obtain⟨A1,c1,rfl,q1⟩:=jF o3;obtain⟨A2,c2,rfl,q2⟩:=jF K;have SQ:=(f.trans s3.inc).trans s4.inc;have f4:∀r,g=some r->H r=none:=λr e=>YL (f.trans s3.inc) (K.fresh r e);have F:=ZlW SQ f4;have X:aF (UO M g) (.slice A1 b.pk.length c1) b.pk:=o3.sl.inc (ZlW s4.inc K.fresh);have W:∀i (h:i<b.nt.length),aF (UO M g) (.slice b.nt[i].A b.nt[i].ps.length b.nt[i].c) b.nt[i].ps:=λi h=>(hb.ps _ (bY h)).inc F;have SY:=ok.nn;have SZ:=ok.n;refine Y ?_;refine ZO (α:=List Nt) b.nt.length (λj l q=>dD H3 q 85 (.slice A2 b.nt.length c2) l g/\aL (UO M g) (UO q g)/\l.length=b.nt.length/\(∀i (h:i<l.length) (B:i<b.nt.length),(l[i].ps=b.nt[i].ps/\l[i].lo=b.nt[i].lo/\l[i].hi=b.nt[i].hi)/\aF (UO q g) (.slice l[i].A l[i].ps.length l[i].c) l[i].ps))
  (λj l=>[(1,vi 0),(2,vi 0),(27,vi b.nt.length),(28,vi j)]) (λ_ _=>[(1,[vi b.pl,vi b.hd,vi b.td,.slice A1 b.pk.length c1,.slice A2 b.nt.length c2]),(2,[vi 0,vi 0,vi 0,.slice none 0 0,.slice none 0 0])]) b.nt ⟨K,.refl _,rfl,λi h B=>⟨⟨rfl,rfl,rfl⟩,W i h⟩⟩ V V ?_
 rintro j l H5 hj ⟨z,i5,w,J⟩;refine OJ (λh2=>?_) (λh2=>?_)
 ·have k:j<l.length:=O;obtain⟨⟨e1,e2,e3⟩,E⟩:=J j k O;have D:=z.sl;obtain⟨_,⟨_,e,_⟩ | ⟨r,cap,rest,rfl,ev,h5,S,R⟩⟩:=id z.own
  ·exact absurd e O
  simp only[Value.slice.injEq]at ev;obtain⟨rfl,_,rfl⟩:=ev;have hr3:=z.fresh r rfl;have Z:l[j].ps.length<=1000000:=by rw[e1];have h6:=uD (ok.nt _ (bY (show j<b.nt.length by omega))).2.1;omega
  refine Y ?_;refine Zz j D k λa ha=>Y ?_;refine Zh (OL _) rfl (by rw[add_zero];exact YN (cs:=[.slice l[j].A l[j].ps.length l[j].c]) (ds:=[vi l[j].lo,vi l[j].hi]) ha) (Y ?_);refine Za [.slice l[j].A l[j].ps.length l[j].c] (P5 (E.inc (XT _ _)) Z) ?_;rintro v6 H6 ⟨s6,b6,L⟩;refine Zp OL ?_;obtain⟨p,s,rfl,_⟩:=jF L;have h6:=s6.mem _ _ h5;have T:b6≠some r:=λe=>by have:=L.fresh r e;rw[h5]at this;simp at this
  refine Y ?_;refine OD rfl rfl (show j<b.nt.length by omega) (Y ?_);rw[show(⟨r,0,none⟩:Addr).add (j * 3)=⟨r,j * 3,none⟩by rw[Vx,qAE],add_zero];refine wF (cD Zn6) rfl rfl h6 rfl (by rw[BY,VH];show j * 3+1<=l.length * 3+_;omega) rfl (OL _) ?_;have Q:=Zg6 (.slice p l[j].ps.length s) l j k rest p s rfl;rw[show(Value.slice p l[j].ps.length s).cells.toList=[.slice p l[j].ps.length s]from rfl,Q];have i6:aL (UO H5 (some r)) (UO (H6.ins r (.cells (Zb (l.set j { l[j]with A:=p,c:=s })++rest).toArray 85)) (some r)):=λx y h=>by
   rw[XS]at h ⊢;split at h
   ·simp at h
   rename_i o;have wP:x≠r:=λe=>o (by rw[e]);rw[aT o,Hp.aH _ _ wP];exact s6.mem _ _ h
  refine Y ?_;refine⟨(⟨j+1,O⟩,l.set j { l[j]with A:=p,c:=s }),bN O,⟨⟨⟨by rw[VH],.inr ⟨r,c2,rest,rfl,by rw[qAg,w],Hp.aG _ _ _,?_,by rw[qAg];exact R⟩⟩,z.fresh⟩,i5.trans i6,by rw[qAg];exact w,λi h B=>?_⟩,V,V,rfl⟩
  ·rw[BY,VH,qAg,<-VH,<-BY];exact S
  have U:i<l.length:=by rwa [qAg]at h
  obtain⟨n1,n2⟩:=J i U B;by_cases C:i=j
  ·subst C;rw[List.getElem_set_self];refine⟨n1,dD.sl (H0:=H5) (b:=b6) ⟨L.own.sub λx y e h=>?_,L.fresh⟩⟩;have o:x≠r:=λN=>T (by rw[e,N]);rw[XS,aT (λN=>o (iO N).symm),Hp.aH _ _ o];exact h
  rw[List.getElem_set_ne (qAF C)];exact⟨n1,n2.inc i6⟩
 have:j=b.nt.length:=O;subst this;refine Y ?_;refine⟨?_,.inr ⟨e,ok,{ b with nt:=l,A1:=A1,c1:=c1,A2:=A2,c2:=c2 },⟨rfl,rfl,rfl,rfl,w,λi h B=>(J i B h).1⟩,⟨(X.inc i5).inc (XT _ _),by rw[<-w]at z;exact z.sl,λx o=>?_,q1,by rw[show l.length=b.nt.length from w];exact q2⟩,?_⟩⟩
 ·exact(F.trans i5).trans (XT _ _)
 ·obtain⟨i,t,rfl⟩:=qAk.1 o;have t:i<l.length:=t;exact(J i t O).2.inc (XT _ _)
 show _=Value.tuple #[.agg #[vi b.pl,vi b.hd,vi b.td,.slice A1 b.pk.length c1,.slice A2 l.length c2],vi 0];rw[w];rfl
end
def Vz(b:Sb)(i:Nat)(lo hi:Int):Sb:={ b with pk:=b.pk.set i { aD b i with lo:=lo,hi:=hi } }
def Vk(b:Sb)(n c a:Int):Int:=
 if ZF b≠0 then ZF b else if Yz b n≠0 then Yz b n else if ¬ (1<=c/\c<=a/\a<=20)then 1
 else if min (aD b n.toNat).hi a<max (aD b n.toNat).lo c then 9 else Vh (Vz b n.toNat (max (aD b n.toNat).lo c) (min (aD b n.toNat).hi a))
abbrev vR(x:Nt):Value:=.agg #[.slice x.A x.ps.length x.c,vi x.lo,vi x.hi]
def Zhr{b b':Sb}(a:b.pk=b'.pk)(c:b.nt=b'.nt):∀r m,bX b r m=bX b' r m
 | 0,m=>by rw[bX,bX,cB,cB,c]
 | r+1,m=>by rw[bX,bX];simp only[aD,a,Zhr a c r]
def T0(a:b.pk=b'.pk)(c:b.nt=b'.nt):Zi b=Zi b':=by rw[Zi,Zi,a];exact Zhr a c _ _
def Zpj(a:b.pl=b'.pl/\b.hd=b'.hd/\b.td=b'.td)(c:b.pk=b'.pk)(g:b.nt=b'.nt):ZF b=ZF b':=by
 have d:YQ b=YQ b':=by rw[YQ,YQ,a.1,a.2.1,a.2.2]
 have e:Yr b=Yr b':=by rw[Yr,Yr,c]
 have f:YU b=YU b':=by rw[YU,YU,c,g]
 rw[ZF,ZF,d,e,f]
def PO(d:b.pl=b'.pl/\b.hd=b'.hd/\b.td=b'.td)(a:b.pk=b'.pk)(c:b.nt=b'.nt):Vh b=Vh b':=by rw[Vh,Vh,Zpj d a c,Vl,Vl,T0 a c]
def P2(lo hi:Int):∀(l:List Pk) (i:Nat) (h:i<l.length) (rest:List Value),ZG (Zb l++rest) (i * 5+1) [vi lo,vi hi]=Zb (l.set i { l[i]with lo:=lo,hi:=hi })++rest
 | [],i,h,_=>by simp at h
 | p :: l,0,h,rest=>by simp[Zb,Enc.enc,ZG]
 | p :: l,i+1,h,rest=>by
  have ih:=P2 lo hi l i (by simpa using h) rest;have e:Zb (p :: l)++rest=Enc.enc p++(Zb l++rest):=by simp[Zb]
  rw[e,show(i+1) * 5+1=5+(i * 5+1)by omega,LB (n:=5) (Enc.len p),ih];simp[Zb]
section
variable{P:aX}[Tz P][Loud P]{H:Hp}
theorem TR{n lo hi:Int}(hb:Zr H b)(q:b.Sz)(W:Yk H) :
  LL.Zc P 38 #[b.v,vi n,.agg #[vi lo,vi hi]] H λv S=>aL H S/\((Vk b n lo hi≠0/\v=.tuple #[OO,vi (Vk b n lo hi)])\/(Vk b n lo hi=0/\bA b/\(0<=n/\n<b.pk.length) /\
   ∃I b',I=Vz b n.toNat (max (aD b n.toNat).lo lo) (min (aD b n.toNat).hi hi)/\bA I/\dG I b'/\Zr S b'/\v=.tuple #[b'.v,vi 0])):=by
 refine aJ.m (bG ZxO) (args:=[b.v,vi n,.agg #[vi lo,vi hi]]) rfl ?_
 unfold Zlb Sb.v
 refine Y ?_
 refine Za [b.v] (CG hb q W) ?_
 rintro v H1 ⟨i1,rfl⟩
 refine Y ?_
 refine OI (λA=>?_) (λA=>?_)
 ·have e:Vk b n lo hi=ZF b:=iF A;refine Y ?_;exact⟨i1,.inl ⟨by rw[e];exact A,by rw[e];rfl⟩⟩
 have ok:=Ow (b:=b) A
 have SZ:=ok.n
 refine Y ?_
 refine Za [vi n] (Lb (b:=b) n q.pk) ?_
 rintro fv H2 ⟨s2,e1,e2,w⟩
 refine Zp OL ?_
 refine Y ?_
 refine ZM (vs:=[b.v]) rfl rfl (w H2 (.refl _)) ?_
 rintro v H3 ⟨i3,rfl⟩
 have d:=(i1.trans s2.inc).trans i3
 refine Y ?_
 refine OI (λu=>?_) (λu=>?_)
 ·have e:Vk b n lo hi=Yz b n:=by rw[Vk,aT O,iF u]
  refine Y ?_;exact⟨d,.inl ⟨by rw[e];exact u,by rw[e];rfl⟩⟩
 have X:0<=n/\n<b.pk.length:=qAd λhh=>by rw[Yz,aT hh]at u;exact absurd u (by decide)
 have ep:Yz b n=0:=O
 refine Y ?_
 refine Za [.agg #[vi lo,vi hi],vi 1,vi 20] (Me _ _ _ _) ?_
 rintro v _ ⟨rfl,rfl⟩
 refine Y ?_
 refine OI (λh3=>?_) (λh3=>?_)
 ·have e:Vk b n lo hi=1:=by rw[Vk,aT O,aT O,iF O]
  refine Y ?_;exact⟨d,.inl ⟨by rw[e];decide,by rw[e];rfl⟩⟩
 obtain⟨i,rfl⟩:=qBr X.1
 have j:i<b.pk.length:=O
 have T:b.pk[i]=aD b i:=(ZD j _).symm
 rw[qAD]
 have M:Vk b (i:Int) lo hi=if min (aD b i).hi hi<max (aD b i).lo lo then 9 else Vh (Vz b i (max (aD b i).lo lo) (min (aD b i).hi hi)):=by rw[Vk,aT O,aT O,aT O,qAD]
 rw[M]
 refine Y ?_
 refine Zz i (hb.pk.inc d) j λa U=>?_
 rw[T]at U
 have k:Vz b i (max (aD b i).lo lo) (min (aD b i).hi hi)={ b with pk:=b.pk.set i { b.pk[i]with lo:=max (aD b i).lo lo,hi:=min (aD b i).hi hi } }:=by rw[Vz,T]
 refine Y ?_
 refine Zn (cs:=[vi (aD b i).lo,vi (aD b i).hi]) (OL _) rfl (YN (ds:=[vi (aD b i).bF,vi (aD b i).bJ]) (eY (n:=1) U rfl)) rfl ?_
 refine Y ?_
 refine q8 rfl rfl ?_
 refine Y ?_
 refine z5 rfl rfl ?_
 refine Y ?_
 generalize max (aD b i).lo lo=f at *
 generalize min (aD b i).hi hi=g at *
 refine OI (λB=>?_) (λB=>?_)
 ·refine Y ?_;exact⟨d,.inl ⟨by rw[iF B];decide,by rw[iF B];rfl⟩⟩
 rw[aT B]
 refine Y ?_
 refine Za [.slice b.A1 b.pk.length b.c1] (Tt (hb.pk.inc d) q.pk) ?_
 rintro v4 E ⟨s4,b4,o4⟩
 obtain⟨_,⟨_,e,_⟩ | ⟨r,cap,rest,rfl,rfl,h5,h5l,J⟩⟩:=id o4.own
 ·exact absurd e O
 have Q:=d.trans s4.inc
 have hr:H r=none:=YL d (o4.fresh r rfl)
 refine Y ?_
 refine OD rfl rfl j ?_
 refine Y ?_
 rw[show((⟨r,0,none⟩:Addr).add (i * 5)).add 1=⟨r,i * 5+1,none⟩by rw[Vx,Vx,qAE]]
 refine wF (v:=.agg #[vi f,vi g]) (cD SB) rfl rfl h5 rfl (by rw[BY,VH];show i * 5+1+2<=b.pk.length * 5+_;omega) rfl (OL _) ?_
 rw[show(Value.agg #[vi f,vi g]).cells.toList=[vi f,vi g]from rfl,P2 f g b.pk i j rest]
 have o:aL H (E.ins r (.cells (Zb (b.pk.set i { b.pk[i]with lo:=f,hi:=g })++rest).toArray 50)):=λx y h=>by rw[Hp.aH _ _ (by rintro rfl;rw[hr]at h;simp at h)];exact Q _ _ h
 have F:aC (E.ins r (.cells (Zb (b.pk.set i { b.pk[i]with lo:=f,hi:=g })++rest).toArray 50)) ⟨r,0,none⟩ (Zb (b.pk.set i { b.pk[i]with lo:=f,hi:=g })):=YN (ZA (Hp.aG _ _ _))
 generalize E.ins r (.cells (Zb (b.pk.set i { b.pk[i]with lo:=f,hi:=g })++rest).toArray 50)=H5 at *
 have L:Zr H5 { Vz b i f g with A1:=some ⟨r,0,none⟩,c1:=cap }:=by
  refine⟨⟨_,cap,rfl,λ_=>⟨_,rfl,?_⟩⟩,hb.nt.inc o,λy hy=>(hb.ps y hy).inc o,?_,hb.q2⟩
  ·rw[k];exact F
  rw[k];show(b.pk.set i _).length<=cap;rw[qAg];exact J
 have R:Sb.Sz { Vz b i f g with A1:=some ⟨r,0,none⟩,c1:=cap }:=by
  refine⟨?_,q.nt,q.ps,λp C=>?_⟩
  ·rw[k];show(b.pk.set i _).length<=_;rw[qAg];exact q.pk
  rw[k]at C;rcases List.mem_or_eq_of_mem_set C with C | rfl
  ·exact q.nm p C
  exact q.nm b.pk[i] (bY j)
 have N:Sb.v { Vz b i f g with A1:=some ⟨r,0,none⟩,c1:=cap }=.agg #[vi b.pl,vi b.hd,vi b.td,.slice (some ⟨r,0,none⟩) b.pk.length cap,.slice b.A2 b.nt.length b.c2]:=by rw[k];show Value.agg _=_;simp[qAg]
 refine Y ?_
 refine ZW (vs:=[Sb.v { Vz b i f g with A1:=some ⟨r,0,none⟩,c1:=cap }]) (by rw[N];rfl) (Ht L R (aC.inc W o)) ?_
 rintro v H6 ⟨i6,Z⟩
 rw[show Vh { Vz b i f g with A1:=some ⟨r,0,none⟩,c1:=cap }=Vh (Vz b i f g)from PO ⟨rfl,rfl,rfl⟩ rfl rfl]at Z
 rcases Z with⟨K,rfl⟩ | ⟨K,c,b',t,G,rfl⟩
 ·unfold OO;refine Y ?_;exact⟨o.trans i6,.inl ⟨K,rfl⟩⟩
 ·unfold Sb.v;rw[K];refine Y ?_;exact⟨o.trans i6,.inr ⟨rfl,ok,X,_,b',rfl,⟨c.pl,c.hd,c.td,c.n,c.pk,c.nm,c.nn,c.nt⟩,⟨t.pl,t.hd,t.td,t.pk,t.nl,t.nt⟩,G,rfl⟩⟩
end
