import Derived.Test.YtlhomfgcibjccaaGreatDoorP25
import Derived.Test.YtlhomfgcibjccaaGreatDoorP30
set_option linter.all false
set_option maxHeartbeats 8000000
set_option maxRecDepth 20000
open Go Go.LL
namespace Go.Proofs
variable{H' H0:Hp}{b b':Sb}{ts:List N4}{Aw:Option Addr}{cw:Nat}{l:List Te}{v:Value}
theorem ZgZ:Ym Tryz.prog 179=some (1,some (.chan none),8):=U
theorem Zs.jC{H:Hp}(h:Zs H b)(i:Y0 H H'):Zs H' b:=⟨h.pk.jC i,h.nt.jC i,λx hx=>(h.ps x hx).jC i,h.q1,h.q2⟩
def JR(b:Sb)(ts:List N4):Prop:=
 ∀(H:Hp) (v:Value) (bb:Option Nat) (es:List Te) (ms:List Nat),jH H 122 8 v (Zb es) es.length bb->es.length=ms.length->ms.Nodup->(∀m∈ms,1<=m/\m<=(ZD b.pk.length).length) ->
  (∀k (h1:k<ms.length) (h2:k<es.length),UB b ts (ZZ b.pk.length ms[k]) es[k] H) ->
  LL.Zc PL 154 #[v,vf 155] H λ_ H'=>(∀x y,bb≠some x->H x=some y->H' x=some y)/\∃(fV:List Te) (D7:List Nat),D7.Perm ms/\D7.Pairwise (·<·)/\fV.length=D7.length/\jH H' 122 8 v (Zb fV) fV.length bb /\
   ∀k (h1:k<D7.length) (h2:k<fV.length),UB b ts (ZZ b.pk.length D7[k]) fV[k] H'
theorem UB.bA{p:List Int}{e:Te}{H:Hp}(h:UB b ts p e H)(hi:∀x y,H x=some y->H' x=some y):UB b ts p e H':=by obtain⟨a1,a2,a3,r,rest,a4,a5⟩:=h;exact⟨a1,a2,a3,r,rest,a4,hi _ _ a5⟩
section
theorem ZoB{P:bF}[Tz P][Loud P](jS:P=PP){H:Hp}(val:fN b)(dJ:1<=ts.length/\ts.length<=1000)(BN:∀t∈ts,Yp t)(hb:Zs H b)(fU:aD H ⟨1,0,none⟩ [vf 284])(hw:aV H (.slice Aw ts.length cw) ts)(lZ:JR b ts) :
  LL.Zc P 102 #[ZW b (.slice Aw ts.length cw)] H λv H'=>bO H H'/\∃(es:List Te) (A:Option Addr) (c:Nat) (ms:List Nat),v=.slice A es.length c/\aV H' v es/\ms.Pairwise (·<·)/\(∀m,m∈ms↔1<=m/\m<=(ZD b.pk.length).length/\UN b ts m=true)/\es.length=ms.length /\
   ∀k (h1:k<ms.length) (h2:k<es.length),UB b ts (ZZ b.pk.length ms[k]) es[k] H':=by
 obtain⟨Q1,hu⟩:=ZgN
 have hN:=Cn val.n
 refine aO.m (cF ZxG) (args:=[ZW b (.slice Aw ts.length cw)]) rfl ?_
 unfold ZkZ ZW
 refine Y ?_
 refine V9 rfl (OL _) λr1 pL=>?_
 have i1:=Zt (o:=.cells (ZW b (.slice Aw ts.length cw)).cells 110) pL
 have c1:aD (H.ins r1 (.cells (ZW b (.slice Aw ts.length cw)).cells 110)) ⟨r1,0,none⟩ [vi b.pl,vi b.hd,vi b.td,.slice b.A1 b.pk.length b.c1,.slice b.A2 b.nt.length b.c2,.slice Aw ts.length cw]:=VJ
 unfold ZW at i1 c1
 generalize H.ins r1 (.cells (Value.agg #[vi b.pl,vi b.hd,vi b.td,.slice b.A1 b.pk.length b.c1,.slice b.A2 b.nt.length b.c2,.slice Aw ts.length cw]).cells 110)=H1 at *
 refine Y ?_
 refine Ztc (dC hu) (eI TK) (OL _) λch tD=>?_
 have i2:=Zt (o:=.chan 0 #[] false 0 0 false) tD
 have a2:(H1.ins ch (.chan 0 #[] false 0 0 false)) ch=some (.chan 0 #[] false 0 0 false,true):=Hp.aF _ _ _
 generalize H1.ins ch (.chan 0 #[] false 0 0 false)=H2 at *
 refine Y ?_
 refine Vs (eI ZgZ) (OL _) λrC Gj=>?_
 refine Y ?_
 refine Vp (eI ZgZ) rfl rfl (Hp.aF _ _ _) rfl rfl (OL _) ?_
 rw[Us]
 have i3:=Zt (o:=.cells #[.chan (some ch)] 179) Gj
 have a3:(H2.ins rC (.cells #[.chan (some ch)] 179)) rC=some (.cells #[.chan (some ch)] 179,true):=Hp.aF _ _ _
 generalize H2.ins rC (.cells #[.chan (some ch)] 179)=H3 at *
 refine Y ?_
 refine Vs (eI Zon) (OL _) λM hM=>?_
 have i4:=Zt (o:=.cells (Value.agg #[.int .i32 0,.int .u32 0]).cells 186) hM
 have a4:(H3.ins M (.cells (Value.agg #[.int .i32 0,.int .u32 0]).cells 186)) M=some (.cells #[.int .i32 (0:Nat),.int .u32 (0:Nat)] 186 (0,0),true):=Hp.aF _ _ _
 generalize H3.ins M (.cells (Value.agg #[.int .i32 0,.int .u32 0]).cells 186)=H4 at *
 refine Y ?_
 refine Vs (eI Zom) (OL _) λW hW=>?_
 have i5:=Zt (o:=.cells (Value.agg #[.int .u64 0,.int .u32 0]).cells 193) hW
 have a5:(H4.ins W (.cells (Value.agg #[.int .u64 0,.int .u32 0]).cells 193)) W=some (.cells #[.int .u64 (0:Nat),.int .u32 (0:Nat)] 193 (0,0),true):=Hp.aF _ _ _
 generalize H4.ins W (.cells (Value.agg #[.int .u64 0,.int .u32 0]).cells 193)=H5 at *
 refine Y ?_
 refine Vs (eI Zg1) (OL _) λrF CZ=>?_
 have i6:=Zt (o:=.cells (Value.slice none 0 0).cells 130) CZ
 have a6:(H5.ins rF (.cells (Value.slice none 0 0).cells 130)) rF=some (.cells #[.slice none 0 0] 130 (0,0),true):=Hp.aF _ _ _
 generalize H5.ins rF (.cells (Value.slice none 0 0).cells 130)=H8 at *
 refine OB ?_
 refine ZtN ?_
 subst jS
 have i16:bO H1 H8:=(((i2.trans i3).trans i4).trans i5).trans i6
 have a2':=(((i3.trans i4).trans i5).trans i6) _ _ a2
 have a3':=((i4.trans i5).trans i6) _ _ a3
 have a4':=(i5.trans i6) _ _ a4
 have a5':=i6 _ _ a5
 have n1:H1 ch=none:=tD
 have n2:H1 M=none:=YK (i2.trans i3) hM
 have n3:H1 W=none:=YK ((i2.trans i3).trans i4) hW
 have n4:H1 rF=none:=YK (((i2.trans i3).trans i4).trans i5) CZ
 have d1:M≠W:=by rintro rfl;rw[a4]at hW;simp at hW
 have d2:ch≠M:=by rintro rfl;rw[i3 _ _ a2]at hM;simp at hM
 have d3:ch≠W:=by rintro rfl;rw[i4 _ _ (i3 _ _ a2)]at hW;simp at hW
 have d4:rF≠ch:=by rintro rfl;rw[i5 _ _ (i4 _ _ (i3 _ _ a2))]at CZ;simp at CZ
 have d5:rF≠M:=by rintro rfl;rw[i5 _ _ a4]at CZ;simp at CZ
 have d6:rF≠W:=by rintro rfl;rw[a5]at CZ;simp at CZ
 have d7:rC≠ch:=by rintro rfl;rw[a2]at Gj;simp at Gj
 have d8:rC≠M:=by rintro rfl;rw[a3]at hM;simp at hM
 have d9:rC≠W:=by rintro rfl;rw[i4 _ _ a3]at hW;simp at hW
 have d10:rC≠rF:=by rintro rfl;rw[i5 _ _ (i4 _ _ a3)]at CZ;simp at CZ
 let Hm:Hp:=⟨λx=>if x=ch\/x=M\/x=W\/x=rF then none else H8 x,[]⟩
 let Hl:Hp:=⟨λx=>if x=rF then H8 x else none,[]⟩
 have Je:∀x,Hm x=if x=ch\/x=M\/x=W\/x=rF then none else H8 x:=λx=>rfl
 have GI:∀x,Hl x=if x=rF then H8 x else none:=λx=>rfl
 have hS:K9 H8 M W ch 186 193 Hm Hl:=by
  refine⟨d1,d2,d3,a2',a4',a5',λx y hx=>?_,λx y hx=>?_⟩
  ·rw[Je]at hx;by_cases e:x=ch\/x=M\/x=W\/x=rF
   ·rw[iO e]at hx;simp at hx
   rw[bY e]at hx;exact⟨hx,λh=>e (.inr (.inl h)),λh=>e (.inr (.inr (.inl h))),λh=>e (.inl h),by rw[GI,bY λh=>e (.inr (.inr (.inr h)))]⟩
  rw[GI]at hx;by_cases e:x=rF
  ·subst e;rw[iO rfl]at hx;exact⟨hx,d5,d6,d4⟩
  rw[bY e]at hx;simp at hx
 have sR:bO H1 Hm:=λx y h=>by
  have h8:=i16 _ _ h;rw[Je,bY]
  ·exact h8
  rintro(rfl | rfl | rfl | rfl)
  ·rw[n1]at h;simp at h
  ·rw[n2]at h;simp at h
  ·rw[n3]at h;simp at h
  rw[n4]at h;simp at h
 have Jg:Hm rC=some (.cells #[.chan (some ch)] 179,true):=by
  rw[Je,bY]
  ·exact a3'
  rintro(e | e | e | e)
  ·exact d7 e
  ·exact d8 e
  ·exact d9 e
  exact d10 e
 have Hh:∀x y,Hm x=some y->H8 x=some y:=λx y h=>(hS.own x y h).1
 have hFl:Hl rF=some (.cells #[.slice none 0 0] 130 (0,0),true):=by rw[GI,iO rfl];exact a6
 have hFo:∀x y,Hl x=some y->y.2=true:=λx y h=>by
  rw[GI]at h;by_cases e:x=rF
  ·subst e;rw[iO rfl,a6]at h;obtain rfl:=dO h;rfl
  rw[bY e]at h;simp at h
 have FR:∀base n0 old,Cx.Ok { M:=M,W:=W,ch:=ch,base:=base,n0:=n0,old:=old,tM:=186,tW:=193,K:=2,need:=UN b ts,PI:=SD b ts rF,N:=(ZD b.pk.length).length,msg:=λm v Hm=>UA (ZZ b.pk.length m) v Hm }:=λbase n0 old=>
  ⟨d1,d2,d3,by show 1<=2;omega,rfl,λl H ⟨v,bb,es,h⟩=>h.all,by show 2<=100000000;decide,λl H g ⟨v,bb,es,h⟩=>⟨v,bb,es,h.at_,h.own,h.ne,h.all,h.len,λk h1 h2=>⟨(h.JE k h1 h2).td,(h.JE k h1 h2).n,(h.JE k h1 h2).c,(h.JE k h1 h2).bk⟩,h.nd,h.rg⟩⟩
 refine Zvg (K:=2) (N:=(ZD b.pk.length).length) (need:=UN b ts) (PI:=SD b ts rF) (msg:=λm v Hm=>UA (ZZ b.pk.length m) v Hm) hS ⟨.slice none 0 0,none,[],hFl,.nil _ _ _,by simp,hFo,rfl,λk h1 h2=>absurd h1 (by simp),List.nodup_nil,λm hm=>by simp at hm⟩ FR λbase n0 old nH=>?_
 clear_value Hm Hl
 have ok:=FR base n0 old
 obtain⟨c,kZ⟩:∃c:Cx,c={ M:=M,W:=W,ch:=ch,base:=base,n0:=n0,old:=old,tM:=186,tW:=193,K:=2,need:=UN b ts,PI:=SD b ts rF,N:=(ZD b.pk.length).length,msg:=λm v Hm=>UA (ZZ b.pk.length m) v Hm }:=⟨_,rfl⟩
 rw[<-kZ]at ok ⊢
 have cM:c.M=M:=by rw[kZ]
 have cW:c.W=W:=by rw[kZ]
 have cC:c.ch=ch:=by rw[kZ]
 have cK:c.K=2:=by rw[kZ]
 have cN:c.N=(ZD b.pk.length).length:=by rw[kZ]
 have qI:c.need=UN b ts:=by rw[kZ]
 have cP:c.PI=SD b ts rF:=by rw[kZ]
 have EY:c.msg=λm v Hm=>UA (ZZ b.pk.length m) v Hm:=by rw[kZ]
 clear kZ
 obtain⟨P',EP⟩:∃P',P'=pm c:=⟨_,rfl⟩
 have iT:Tz P':=EP ▸ inferInstance
 have iL:Loud P':=EP ▸ inferInstance
 have EG:∀g,P'.still g=false:=Loud.aL
 have I8:∀{n:Nat} {H:Hp},H.cg=[30,n]->LL.Zc P' 147 #[pt W,vi 1] H λ_ H'=>H'=H.tagc [33,n]:=λ{n H} h=>by rw[EP,<-cW];exact ZyF ok h
 have NX:∀{H:Hp},H.cg=[30,2]->H.hd=0->LL.Zc P' 153 #[pt W] H λ_ H'=>ZnE c H H':=λ{H} h h2=>by rw[EP,<-cW];exact ZnY ok (by rw[cK];exact h) h2
 have N7:∀{d:Option Nat} {next:aN->Hp->Prop} {σ:aN} {x y:Operand} {ty:TypeId} {v:Value} {r:Nat} {H1 Hm:Hp},H1.gh=(r+3) :: [30,2]->H1.Comp Hm->Hm.gh=[]->c.msg (c.N-r) v Hm->σ.get x=some (.chan (some ch))->σ.get y=some v->next (σ.set d undef) (H1.tagged ((r+2) :: [30,2]))->(bC.raw (.send x y) ty).m P' d next σ (H1.join Hm):=by
  intro d next σ x y ty v r H1 Hm g1 g2 g3 g4 g5 g6 g7
  rw[EP];exact Zs8 (by rw[cK];exact g1) g2 g3 g4 (by rw[cC];exact g5) g6 (by rw[cK];exact g7)
 have I5:∀{d:Option Nat} {next:aN->Hp->Prop} {σ:aN} {x:Operand} {ty:TypeId} {ts:Array TypeId} {n:Nat} {H:Hp},H.gh=[2,30,n]->σ.get x=some (.chan (some ch))->next (σ.set d (.tuple #[])) (H.tagged [1,30,n])->(bC.raw (.call { callee:=.builtin .close,args:=#[x],argTypes:=ts }) ty).m P' d next σ H:=by
  intro d next σ x ty ts n H g1 g2 g3
  rw[EP];exact Ztj ok g1 (by rw[cC];exact g2) g3
 have uT:∀{wk nr:Bool} {n:Nat} {K:Hp},K.cg=[30,n]->n<2->Y0 Hm K->Zm P' (pure (.spawn { target:=.fn (.func 148) #[pt W,pt rC,pt r1,pt M,pt rF],args:=#[]++([]:List Value).toArray })) wk nr (K.tagc [33,n]) λv K'=>v=undef/\K'=D1 (K.tagc [33,n]) [K.hd+1,30,n+1]:=by intro wk nr n K Iw hn hi;rw[EP];have Ib:Y0 Hm (D1 (K.tagc [33,n]) [1,1]):=(hi.trans (SU K _)).trans (ZhK _ _);have IR:Y0 H (D1 (K.tagc [33,n]) [1,1]):=(i1.trans sR).jC.trans Ib;refine Zt1 ok ⟨_,_,rfl⟩ (λw=>rfl) rfl (by rw[cK];exact hn) (ZhJ _ _) (ZhJ _ _) (ZpP _ _ _) rfl rfl (Zp6 Tryz.func148 rfl rfl ?_);have:=Zoz (i:=c.base+n) ok (ts:=ts) (Aw:=Aw) (cw:=cw) (rF:=rF) (rC:=rC) (r1:=r1) val dJ BN cP cN qI EY (H:=D1 (K.tagc [33,n]) [1,1]) rfl (by rw[cC];exact(ZC (cs:=[.chan (some ch)]) Jg).jC Ib) ((c1.bA sR).jC Ib) (hb.jC IR) (hw.jC IR) (fU.jC IR);rw[cM,cW]at this;exact this
 have mA:∀{H' GR:Hp},Y0 Hm H'->Ra H8 H' GR->bO H GR:=by
  intro H' GR hi hu x y hx;have tP:H1 x=some y:=i1 _ _ hx;have NU:=sR _ _ tP;have Tt:=Hh _ _ NU;obtain⟨o,p⟩:=y;obtain⟨p',h1,h2⟩:=hi _ _ _ NU;cases EC:GR x with
  | none=>rw[(hu.Xh x).1 EC]at h1;simp at h1
  | some z=>
   obtain⟨k1,k2,k3,k4⟩:=hu.val x z _ EC h1;obtain⟨o',p''⟩:=z;simp only at k1 k2 k3 k4;subst k1;congr 2;cases p with
   | true=>exact k3 ⟨_,Tt⟩
   | false=>
    cases p'' with
    | false=>rfl
    | true=>exact(h2 (k4 _ Tt rfl)).symm
 have IB:∀k (hk:k<(ZD b.pk.length).length) v Hv,UA (ZD b.pk.length)[k] v Hv->∀r,r+k+1=(ZD b.pk.length).length->c.msg (c.N-r) v Hv:=by intro k hk v Hv h r hr;rw[EY,cN,show(ZD b.pk.length).length-r=k+1 by omega];show UA (ZZ b.pk.length (k+1)) v Hv;unfold ZZ;rw[qBb,ZA hk];exact h
 rw[show(bG Tryz.prog c).prgM=P' from EP.symm]
 clear EP
 obtain⟨N,Wn⟩:∃N,N=(ZD b.pk.length).length:=⟨_,rfl⟩
 have Jq:∀{K:Hp} {n:Nat} {l:List Nat},K.cg=l->l≠[]->K.hd=n->K.gh=(n+1) :: l:=by
  intro K n l h1 h2 h3;unfold Hp.cg at h1;unfold Hp.hd at h3;generalize K.gh=g at *;match g with
  | []=>simp[ZP]at h1;exact absurd h1 h2
  | 0 :: t=>simp[ZP]at h1;exact absurd h1 h2
  | (k+1) :: t=>simp[ZP]at h1;simp[GO]at h3;subst h1 h3;rfl
 refine Y ?_
 refine Zw 2 (λj H'=>H'.cg=[30,j]/\H'.hd=N+1/\Y0 Hm H') (λj=>[(1,pt r1),(2,.slice none 0 0),(3,pt rC),(4,pt M),(5,pt W),(6,pt rF),(9,vi j)]) (λ_=>[]) ⟨rfl,by rw[Wn];rfl,SU Hm _⟩ V trivial ?_
 rintro n K hn ⟨g1,g2,g3⟩
 refine Y ?_
 refine OI (λh1=>?_) (λh1=>?_)
 ·have PR:n<2:=O;refine Y ?_;refine Za (vs:=[pt W,vi 1]) rfl (I8 g1) ?_;rintro v _ rfl;refine Y ?_;refine VP rfl rfl (Y ?_);refine Ztg (f:=148) (first:=#[]) (vs:=[]) rfl rfl (uT g1 PR g3) ?_;rintro v _ ⟨rfl,rfl⟩;refine Y ?_;exact⟨⟨n+1,O⟩,dX O,⟨rfl,g2,(g3.trans (SU K _)).trans (ZhK _ _)⟩,V,trivial,rfl⟩
 ·have:n=2:=O;subst this;refine Y ?_;refine Zl (cs:=[vi b.pl,vi b.hd,vi b.td,.slice b.A1 b.pk.length b.c1,.slice b.A2 b.nt.length b.c2]) (EG _) rfl (by rw[add_zero];exact YM (ds:=[.slice Aw ts.length cw]) ((c1.bA sR).jC g3)) rfl (Y ?_);refine VP rfl rfl (Y ?_);refine ZtI EG rfl (ZsC (b:=b) (by have:=val.n;omega)) (λn vs Hv h=>by obtain⟨v,rfl,_⟩:=h;rfl) (λk H'=>H'.gh=(N-k+2) :: [30,2]/\Y0 Hm H') (λe H'=>False) ⟨by rw[qBg];exact Jq g1 (by simp) g2,g3⟩
   (λk K J hc ⟨q1,q2⟩=>⟨by rw[Hp.bP,q1,hc.gh.resolve_left (by rw[q1];simp)];rfl,q2.trans (Ue _ _).jC⟩) (λe K J hc h=>h) (λ_ _ _=>trivial) ?_ ?_ ?_
  ·rintro k hk vs Hv K2 ⟨v,rfl,gG,hE⟩ P5 I3 ⟨q1,q2⟩;refine Y ?_;refine Zg (EG _) rfl (((ZC (cs:=[.chan (some ch)]) Jg).jC q2).bA (Ue _ _)) (Y ?_);refine N7 (r:=N-k-1) (by rw[q1];congr 1;omega) I3 P5 (IB k gG v Hv hE _ O) rfl rfl (Y ?_);exact⟨by show(N-k-1+2) :: [30,2]=(N-(k+1)+2) :: [30,2];rw[Nat.sub_sub],q2.trans (SU K2 _)⟩
  ·rintro K3 ⟨q1,q2⟩;rw[<-Wn,qCG]at q1;refine Y ?_;refine Zg (EG _) rfl ((ZC (cs:=[.chan (some ch)]) Jg).jC q2) (Y ?_);refine I5 (n:=2) q1 rfl (Y ?_);refine Za (vs:=[pt W]) rfl (NX rfl rfl) ?_;rintro v _ ⟨l,TG,PJ,dY,Id,xX,cZ,gD,rfl⟩;rw[cP]at PJ;obtain⟨fv,Kc,es,eK⟩:=PJ;have hJ:∀x y,TG x=some y->(((K3.tagged [1,30,2]).tagc [40]).join TG) x=some y:=λx y h=>Hp.aS gD h;have yA:(((K3.tagged [1,30,2]).tagc [40]).join TG).gh=[1,40]:=by rw[Hp.bP,cZ];rfl
   have HE:Y0 Hm (((K3.tagged [1,30,2]).tagc [40]).join TG):=(q2.trans (SU K3 _)).trans (Ue _ _).jC;have C6:∀x o p,Hm x=some (o,p)->Kc≠some x:=λx o p h e=>by
    obtain⟨p',h5,_⟩:=q2 _ _ _ h;obtain⟨_,⟨_,_,q⟩ | ⟨r,cap,eZ,q,_,h9,_⟩⟩:=eK.own
    ·rw[e]at q;simp at q
    rw[e]at q;obtain rfl:=dO q;obtain⟨e4,e5⟩:=gD.mem x _ _ (show((K3.tagged [1,30,2]).tagc [40]) x=some (o,p')from h5) h9;rw[e4]at e5;simp at e5
   generalize((K3.tagged [1,30,2]).tagc [40]).join TG=H11 at *;have o11:=eK.own.sub λx y _ h=>hJ x y h;have f11:=hJ _ _ eK.at_;refine Y ?_;refine Zg (EG _) rfl (ZC (cs:=[fv]) f11) (Y ?_);have Tw:=lZ H11 fv Kc es l o11 eK.len eK.nd eK.rg (λk h1 h2=>(eK.JE k h1 h2).bA hJ);rw[show(PL:bF)=Mx P'.toProgram by rw[Tz.prog (P:=P')]]at Tw;refine Za (vs:=[fv,vf 155]) rfl (Ld (EG _) (λv K J hc ⟨a1,fV,D7,a2,a3,a4,a5,a6⟩=>⟨λx y h h'=>Hp.aK (a1 x y h h'),fV,D7,a2,a3,a4,a5.sub λx y _ h=>Hp.aK h,λk h1 h2=>(a6 k h1 h2).bA λx y h=>Hp.aK h⟩) Tw) ?_;rintro w Rh ⟨⟨k1,fV,D7,p1,p2,p3,p4,p5⟩,g12⟩;have jI:Y0 Hm Rh:=λx o p h=>by obtain⟨p',h5,h6⟩:=HE _ _ _ h;exact⟨p',k1 _ _ (C6 x o p h) h5,h6⟩
   obtain⟨A3,c3,rfl,q4⟩:=p4.cells;refine Y ?_;refine Zg (EG _) rfl (ZC (cs:=[.slice A3 fV.length c3]) (k1 _ _ eK.ne f11)) (Y ?_);refine⟨by rw[g12,yA],λGR hu=>?_⟩;refine Y ?_;have rA:∀x o,Rh x=some (o,true)->GR x=some (o,true):=λx o h=>by
    cases hz:GR x with
    | none=>rw[(hu.Xh x).1 hz]at h;simp at h
    | some z=>
     obtain⟨q5,q6,_,_⟩:=hu.val x z _ hz h;obtain⟨z1,z2⟩:=z;simp only at q5 q6;rw[q5,q6 trivial]
   have p4':jH GR 122 8 (.slice A3 fV.length c3) (Zb fV) fV.length Kc:=p4.sub λx y e h=>by
    obtain⟨_,⟨_,_,q⟩ | ⟨r,cap,eZ,q,_,h9,_⟩⟩:=id p4
    ·rw[e]at q;simp at q
    rw[e]at q;obtain rfl:=dO q;rw[h9]at h;obtain rfl:=dO h;exact rA _ _ h9
   refine⟨mA jI hu,fV,A3,c3,D7,rfl,?_,p2,λm=>?_,p3,λk h1 h2=>?_⟩
   ·obtain⟨A,c',q5,q6⟩:=p4'.cells;exact⟨A,c',q5,λhn=>q6 (by simpa using hn)⟩
   ·rw[p1.mem_iff];constructor
    ·intro hm;obtain⟨q5,q6,q7⟩:=Id m hm;rw[cN]at q6;rw[qI]at q7;exact⟨q5,q6,q7⟩
    rintro⟨q5,q6,q7⟩;exact dY m q5 (by rw[cN];exact q6) (by rw[qI];exact q7)
   obtain⟨a1,a2,a3,r,rest,a4,a5⟩:=p5 k h1 h2;exact⟨a1,a2,a3,r,rest,a4,rA _ _ a5⟩
  rintro e K3 he h;exact h.elim
end
def iJ(b:Sb)(ts:List N4):List Nat:=((List.range (ZD b.pk.length).length).map (·+1)).filter (UN b ts)
theorem D6{m:Nat}:m∈iJ b ts↔1<=m/\m<=(ZD b.pk.length).length/\UN b ts m=true:=by
 rw[iJ,qAF,qAX];constructor
 ·rintro⟨⟨k,hk,rfl⟩,h⟩;have:=qAq.1 hk;exact⟨O,O,h⟩
 rintro⟨h1,h2,h3⟩;exact⟨⟨m-1,qAq.2 O,O⟩,h3⟩
theorem ZtP(b:Sb)(ts:List N4):(iJ b ts).Pairwise (·<·):=by refine List.Pairwise.filter _ ?_;rw[qCX];exact List.pairwise_lt_range.imp λh=>by omega
theorem Zyo{l l':List Nat}(h1:l.Pairwise (·<·))(h2:l'.Pairwise (·<·))(h:∀m,m∈l↔m∈l'):l=l':=by have p:l.Perm l':=(List.perm_ext_iff_of_nodup (h1.imp λh=>O) (h2.imp λh=>O)).2 h;exact p.eq_of_pairwise (le:=(·<=·)) (λa b _ _ x y=>O) (h1.imp λh=>O) (h2.imp λh=>O)
theorem ZtQ(ok:fN b)(ts:List N4):(iJ b ts).length<=24:=by refine qAT (qBZ _ _) ?_;rw[qAs,qBx];exact Cn ok.n
structure TE(b:Sb)(ts:List N4)(v:Value)(es:List Te)(H:Hp):Prop where
 vv:∃A c,v=.slice A es.length c
 sl:aV H v es
 len:es.length=(iJ b ts).length
 JE:∀k (h1:k<(iJ b ts).length) (h2:k<es.length),UB b ts (ZZ b.pk.length (iJ b ts)[k]) es[k] H
def O5(b:Sb)(ts:List N4):List Int:=(iJ b ts).map λm=>(kX b ts (ZZ b.pk.length m)).hi
def Yu(b:Sb)(ts:List N4):List Int:=ZZ b.pk.length ((iJ b ts).getD (Zp (O5 b ts)) 0)
def jO(b:Sb)(n:Nat):Sb:={ b with hd:=((n+1:Nat):Int) }
def V7(b:Sb)(ts:List N4):Nat:=if iJ (jO b 0) ts≠[]then 1 else if iJ (jO b 1) ts≠[]then 2 else if iJ (jO b 2) ts≠[]then 3 else 0
theorem WP(h:fN b){n:Nat}(hn:n<3):fN (jO b n):=⟨h.pl,by show 1<=((n+1:Nat):Int)/\((n+1:Nat):Int)<=3;omega,h.td,h.n,h.pk,h.nm,h.nn,h.nt⟩
theorem Kk{H:Hp}(h:Zs H b)(n:Nat):Zs H (jO b n):=⟨h.pk,h.nt,h.ps,h.q1,h.q2⟩
section
variable{P:bF}[Tz P][Loud P]{H:Hp}
theorem Pz(jS:P=PP)(val:fN b)(dJ:1<=ts.length/\ts.length<=1000)(BN:∀t∈ts,Yp t)(hb:Zs H b)(fU:aD H ⟨1,0,none⟩ [vf 284])(hw:aV H (.slice Aw ts.length cw) ts)(lZ:JR b ts) :
  LL.Zc P 102 #[ZW b (.slice Aw ts.length cw)] H λv H'=>bO H H'/\∃es,TE b ts v es H':=by
 refine LL.Zc.mono (ZoB jS val dJ BN hb fU hw lZ) ?_;rintro v H' ⟨i,es,A,c,ms,rfl,q1,q2,q3,q4,q5⟩;have:ms=iJ b ts:=Zyo q2 (ZtP b ts) λm=>(q3 m).trans D6.symm;subst this;exact⟨i,es,⟨A,c,rfl⟩,q1,q4,q5⟩
theorem Zy1(jS:P=PP)(lZ:∀b ts,fN b->JR b ts)(hb:Zs H b)(sz:b.Sz)(hg:Yl H)(fU:aD H ⟨1,0,none⟩ [vf 284]) :
  LL.Zc P 30 #[b.v] H λv H'=>bO H H'/\v=.tuple #[vi (if Zn b 0=0 then(iJ b (Zi b)).length else 0),vi (Zn b 0)]:=by
 refine aO.m (cF Zx8) (args:=[b.v]) rfl ?_;unfold Zlr Sb.v;refine Y ?_;refine Za (vs:=[b.v,vf 101]) rfl (Ox hb sz hg Cg) ?_;rintro v H2 ⟨i2,hv⟩;rcases hv with⟨h0,rfl⟩ | ⟨h0,ok,eU,w,bb,rfl,ow⟩
 ·unfold U3;rw[bY h0];refine Y ?_;refine OI (λh1=>?_) (λh1=>?_)
  ·refine Y ?_;exact⟨i2,rfl⟩
  exact absurd h1 h0
 rw[iO h0,h0];have jR:=ow.sl;obtain⟨Aw,cw,rfl,_⟩:=id jR;unfold ZW;refine Y ?_;refine Za (vs:=[ZW b (.slice Aw (Zi b).length cw)]) rfl (Pz jS ok ⟨eU,by have:=UI ok;omega⟩ (LZ ok) (hb.bA i2) (fU.bA i2) jR (lZ _ _ ok)) ?_;rintro v H3 ⟨i3,es,⟨A,c,rfl⟩,q1,q2,q3⟩;refine Y ?_;exact⟨i2.trans i3,by rw[q2];rfl⟩
theorem Zhh(e:Te):LL.Zc P 105 #[zC e.td (.slice e.A e.n e.c)] H λv H'=>H=H'/\v=vi e.td.hi:=by refine aO.m (cF ZxE) (args:=[zC e.td (.slice e.A e.n e.c)]) rfl ?_;unfold ZkX;refine Y ?_;exact⟨rfl,rfl⟩
theorem Zuk(hl:aV H v l)(hn:l.length<=1000000):LL.Zc P 156 #[.agg #[vf 105],v] H λw H'=>H=H'/\w=vi (Zp (l.map λe=>e.td.hi)):=by
 refine aO.m (cF Zw9) (args:=[.agg #[vf 105],v]) rfl ?_;unfold Zks;obtain⟨K,hK⟩:∃K,K=l.map λe=>e.td.hi:=⟨_,rfl⟩;rw[<-hK];have Jd:K.length=l.length:=by rw[hK,qAs]
 have pV:∀j (hj:j<l.length),el K j=l[j].td.hi:=λj hj=>by rw[Uu O];simp[hK]
 refine Y ?_;refine YD hl rfl (Y ?_);refine Zw l.length (λj H'=>H=H') (λj=>[(1,v),(2,vi 0),(5,vi (eF K j)),(8,vi l.length),(9,vi j)]) (λj=>[(2,[vf 105])]) rfl V V ?_;rintro j _ hj rfl;refine Y ?_;refine OI (λh1=>?_) (λh1=>?_)
 ·have cH:j<l.length:=O;have hk:eF K j<l.length:=by
   by_cases h0:j=0
   ·rw[h0,eF];omega
   have:=RV (l:=K) j O;omega
  have e1:=pV j cH;have e2:=pV _ hk;refine Y ?_;refine Zx hl rfl rfl rfl (i:=j) cH λa ha=>?_;generalize l[j]=x at *;refine Y ?_;refine Zl (cs:=x.td.cs (.slice x.A x.n x.c)) (OL _) rfl ha rfl (Y ?_);refine Zx hl rfl rfl rfl (i:=eF K j) hk λa hb=>?_;generalize l[eF K j]=y at *;refine Y ?_;refine Zl (cs:=y.td.cs (.slice y.A y.n y.c)) (OL _) rfl hb rfl (Y ?_);refine ZN (vs:=[zC x.td (.slice x.A x.n x.c)]) rfl rfl (Yk U (Zhh x)) ?_;rintro w _ ⟨rfl,rfl⟩;refine Y ?_;refine ZN (vs:=[zC y.td (.slice y.A y.n y.c)]) rfl rfl (Yk U (Zhh y)) ?_;rintro w _ ⟨rfl,rfl⟩;refine Y ?_;rw[<-e1,<-e2];refine OI (λh2=>?_) (λh2=>?_)
  ·have e:eF K (j+1)=j:=by rw[eF,iO h2]
   refine Y ?_;exact⟨⟨j+1,O⟩,dX O,rfl,⟨rfl,rfl,by rw[e];rfl,rfl,rfl,trivial⟩,V,rfl⟩
  have e:eF K (j+1)=eF K j:=by rw[eF,bY h2]
  refine Y ?_;exact⟨⟨j+1,O⟩,dX O,rfl,⟨rfl,rfl,by rw[e];rfl,rfl,rfl,trivial⟩,V,rfl⟩
 have:j=l.length:=O;subst this;refine Y ?_;refine⟨rfl,?_⟩;show vi (eF K l.length)=vi (Zp K);rw[Zp,Jd]
theorem ZsI{A:Option Addr}{c:Nat}(hl:aV H (.slice A l.length c) l)(dG:l≠[])(hn:l.length<=1000000):LL.Zc P 104 #[.agg #[vf 105],.slice A l.length c] H λw H'=>H=H'/\∃h:Zp (l.map λe=>e.td.hi)<l.length,w=zC l[Zp (l.map λe=>e.td.hi)].td (.slice l[Zp (l.map λe=>e.td.hi)].A l[Zp (l.map λe=>e.td.hi)].n l[Zp (l.map λe=>e.td.hi)].c):=by
 refine aO.m (cF ZxF) (args:=[.agg #[vf 105],.slice A l.length c]) rfl ?_;unfold ZkY;have hk:Zp (l.map λe=>e.td.hi)<l.length:=by have:=RU (l:=l.map λe=>e.td.hi) (by simpa using dG);rwa [qAs]at this
 refine Y ?_;refine Za (vs:=[.agg #[vf 105],.slice A l.length c]) rfl (Zuk hl hn) ?_;rintro w _ ⟨rfl,rfl⟩;refine Y ?_;refine Zx hl rfl rfl rfl (i:=Zp (l.map λe=>e.td.hi)) hk λa ha=>Y ?_;refine Zl (cs:=l[Zp (l.map λe=>e.td.hi)].td.cs (.slice l[Zp (l.map λe=>e.td.hi)].A l[Zp (l.map λe=>e.td.hi)].n l[Zp (l.map λe=>e.td.hi)].c)) (OL _) rfl ha rfl (Y ?_);exact⟨rfl,hk,rfl⟩
theorem ZyX(jS:P=PP)(lZ:∀b ts,fN b->JR b ts)(hb:Zs H b)(sz:b.Sz)(hg:Yl H)(fU:aD H ⟨1,0,none⟩ [vf 284]) :
  LL.Zc P 32 #[b.v] H λv H'=>bO H H'/\((¬ (Zn b 0=0/\iJ b (Zi b)≠[])/\v=.tuple #[.slice none 0 0,.agg #[vi 0,vi 0],vb false,vi (Zn b 0)]) \/
   (Zn b 0=0/\iJ b (Zi b)≠[]/\∃A c,aV H' (.slice A (Yu b (Zi b)).length c) (Yu b (Zi b))/\(Yu b (Zi b)).length<=c/\v=.tuple #[.slice A (Yu b (Zi b)).length c,.agg #[vi (kX b (Zi b) (Yu b (Zi b))).lo,vi (kX b (Zi b) (Yu b (Zi b))).hi],vb true,vi 0])):=by
 refine aO.m (cF Zx7) (args:=[b.v]) rfl ?_
 unfold Zlq Sb.v
 refine Y ?_
 refine Za (vs:=[b.v,vf 101]) rfl (Ox hb sz hg Cg) ?_
 rintro v H2 ⟨i2,hv⟩
 rcases hv with⟨h0,rfl⟩ | ⟨h0,ok,eU,w,bb,rfl,ow⟩
 ·unfold U3;refine Y ?_;refine OI (λh1=>?_) (λh1=>?_)
  ·refine Y ?_;exact⟨i2,.inl ⟨λh=>h0 h.1,rfl⟩⟩
  exact absurd h1 h0
 ·rw[h0];have jR:=ow.sl;obtain⟨Aw,cw,rfl,_⟩:=id jR;unfold ZW;refine Y ?_;refine Za (vs:=[ZW b (.slice Aw (Zi b).length cw)]) rfl (Pz jS ok ⟨eU,by have:=UI ok;omega⟩ (LZ ok) (hb.bA i2) (fU.bA i2) jR (lZ _ _ ok)) ?_;rintro v H3 ⟨i3,es,⟨A,c,rfl⟩,q1,q2,q3⟩;have dJ:=ZtQ ok (Zi b);refine Y ?_;refine OI (λh1=>?_) (λh1=>?_)
  ·have hm:iJ b (Zi b)=[]:=qAf O;refine Y ?_;exact⟨i2.trans i3,.inl ⟨λh=>h.2 hm,rfl⟩⟩
  have hm:iJ b (Zi b)≠[]:=by intro e;rw[e]at q2;exact h1 (by rw[q2];rfl)
  have oI:es≠[]:=by intro e;subst e;exact h1 rfl
  refine Y ?_;refine Za (vs:=[.agg #[vf 105],.slice A es.length c]) rfl (ZsI q1 oI O) ?_;rintro v _ ⟨rfl,hk,rfl⟩;have PZ:(es.map λe=>e.td.hi)=O5 b (Zi b):=by
   refine qCc (by simp[O5,q2]) λj j1 j2=>?_;simp only[qBs,O5];have j1':j<es.length:=by simpa using j1
   rw[(q3 j O j1').td]
  simp only[PZ]at hk ⊢;have hf:=q3 (Zp (O5 b (Zi b))) O hk;have hp:ZZ b.pk.length ((iJ b (Zi b))[Zp (O5 b (Zi b))]'O)=Yu b (Zi b):=by rw[Yu,ZA O]
  rw[hp]at hf;generalize es[Zp (O5 b (Zi b))]=e at *;obtain⟨f1,f2,f3,_⟩:=id hf;have fs:=hf.sl;refine Y ?_;refine⟨i2.trans i3,.inr ⟨trivial,hm,e.A,e.c,by rw[<-f2];exact fs,f3,?_⟩⟩;rw[<-f1,<-f2];rfl
theorem Zzc(jS:P=PP)(lZ:∀b ts,fN b->JR b ts)(hb:Zs H b)(sz:b.Sz)(hg:Yl H)(fU:aD H ⟨1,0,none⟩ [vf 284]) :
  LL.Zc P 34 #[b.v] H λv H'=>bO H H'/\v=.tuple #[vi (if Zn b 0=0 then V7 b (Zi b)else 0:Nat),vb (decide (Zn b 0=0/\V7 b (Zi b)≠0)),vi (Zn b 0)]:=by
 refine aO.m (cF Zx6) (args:=[b.v]) rfl ?_;unfold Zlp Sb.v;refine Y ?_;refine Za (vs:=[b.v,vf 101]) rfl (Ox hb sz hg Cg) ?_;rintro v H2 ⟨i2,hv⟩;rcases hv with⟨h0,rfl⟩ | ⟨h0,ok,eU,w,bb,rfl,ow⟩
 ·unfold U3;refine Y ?_;refine OI (λh1=>?_) (λh1=>?_)
  ·refine Y ?_;exact⟨i2,by rw[bY h0,qAZ (λh=>h0 h.1)];rfl⟩
  exact absurd h1 h0
 rw[h0];have jR:=ow.sl;obtain⟨Aw,cw,rfl,_⟩:=id jR;have iM:=LZ ok;have C1:1<=(Zi b).length/\(Zi b).length<=1000:=⟨eU,by have:=UI ok;omega⟩;generalize Zi b=ts at *;unfold ZW;refine Y ?_;refine ZQ (α:=Int) 3 (λj z H'=>bO H2 H'/\∀k,k<j->iJ (jO b k) ts=[]) (λj z=>[(2,vi 0),(3,vb false),(5,vi 0),(15,vi j)]) (λj z=>[(5,[vi b.pl,vi z,vi b.td,.slice b.A1 b.pk.length b.c1,.slice b.A2 b.nt.length b.c2,.slice Aw ts.length cw])]) b.hd ⟨.refl _,λk hk=>absurd hk (qBh _)⟩ V V ?_;rintro j z H3 hj ⟨i3,iV⟩;refine Y ?_;refine OI (λh1=>?_) (λh1=>?_)
 ·have s8:j<3:=O;refine Y ?_;refine Za (vs:=[ZW (jO b j) (.slice Aw ts.length cw)]) rfl (Pz jS (WP ok s8) C1 iM ((Kk hb j).bA (i2.trans i3)) (fU.bA (i2.trans i3)) (jR.bA i3) (lZ _ _ (WP ok s8))) ?_;rintro v H4 ⟨i4,es,⟨A,c,rfl⟩,q1,q2,q3⟩;refine Y ?_;refine OI (λh2=>?_) (λh2=>?_)
  ·have hm:iJ (jO b j) ts=[]:=qAf O;refine Y ?_;refine⟨(⟨j+1,O⟩,((j+1:Nat):Int)),dX O,⟨i3.trans i4,λk hk=>?_⟩,V,V,rfl⟩;rcases qCv.1 hk with h | rfl
   ·exact iV k h
   exact hm
  have hm:iJ (jO b j) ts≠[]:=by intro e;rw[e]at q2;exact h2 (by rw[q2];rfl)
  have hf:V7 b ts=j+1:=by
   unfold V7;match j,s8,iV,hm with
   | 0,_,_,hm=>rw[iO hm]
   | 1,_,iV,hm=>rw[bY (by simp[iV 0 O]),iO hm]
   | 2,_,iV,hm=>rw[bY (by simp[iV 0 O]),bY (by simp[iV 1 O]),iO hm]
  refine Y ?_;refine⟨(i2.trans i3).trans i4,?_⟩;rw[iO rfl,hf,decide_eq_true ⟨rfl,O⟩];rfl
 have:j=3:=O;subst this;have hf:V7 b ts=0:=by unfold V7;rw[bY (by simp[iV 0 O]),bY (by simp[iV 1 O]),bY (by simp[iV 2 O])]
 refine Y ?_;refine⟨i2.trans i3,?_⟩;rw[hf,qAZ (by simp)];rfl
end
structure kH(b b':Sb):Prop where
 pl:b'.pl=b.pl
 hd:b'.hd=b.hd
 td:b'.td=b.td
 pk:b'.pk=b.pk
 nl:b'.nt.length=b.nt.length
 nt:∀i (h:i<b.nt.length) (h':i<b'.nt.length),b'.nt[i].ps=b.nt[i].ps/\b'.nt[i].lo=b.nt[i].lo/\b'.nt[i].hi=b.nt[i].hi
def Vg(b:Sb):Int:=if ZF b≠0 then ZF b else if Vk b=false then 9 else 0
theorem Zol:Ym Tryz.prog 26=some (1,some (.slice none 0 0),24):=U
theorem Zhc(v:Value):∀(l:List Nt) (i:Nat) (hi:i<l.length) (rest:List Value) (A:Option Addr) (c:Nat),v=.slice A l[i].ps.length c->ZH (Zb l++rest) (i * 3) [v]=Zb (l.set i { l[i]with A:=A,c:=c })++rest
 | [],i,hi,_,_,_,_=>by simp at hi
 | p :: l,0,hi,rest,A,c,e=>by subst e;simp[Zb,Enc.enc,ZH]
 | p :: l,i+1,hi,rest,A,c,e=>by
  have ih:=Zhc v l i (by simpa using hi) rest A c e;have e:Zb (p :: l)++rest=Enc.enc p++(Zb l++rest):=by simp[Zb]
  rw[e,show(i+1) * 3=3+i * 3 by omega,SO (n:=3) (Enc.len p),ih];simp[Zb]
section
variable{P:bF}[Tz P][Loud P]{H:Hp}
theorem ZnL{l:List Pk}(hl:aV H v l)(hn:l.length<=1000000):LL.Zc P 107 #[v] H λv' H'=>H.Sub H'/\∃b,fZ H H' 50 v' l b:=by
 have bB:P.still H.gh=false:=Loud.aL _;obtain⟨A,c,rfl,hh⟩:=hl;refine aO.m (cF ZxC) (args:=[.slice A l.length c]) rfl ?_;unfold ZkV;refine Y ?_;refine Lt (dC FC) rfl (Y ?_);refine OI (λh1=>?_) (λh1=>?_)
 ·refine Y ?_;have:l=[]:=oR λhn=>by obtain⟨a,rfl,_⟩:=hh hn;simp at h1
  subst this;exact⟨.refl H,none,.nil H _ 50⟩
 refine Y ?_;refine RF (dC FC) (eI KH) bB λr hr=>Y ?_;have AW:P.still (H.ins r (.cells #[] 50)).gh=false:=bB;refine XP (l:=([]:List Pk)) (l':=l) (dC FC) (dC FC) (eI KH) rfl (by decide) (Yg hr) (H0:=H) (b:=some r) ⟨X2,λq e=>by obtain rfl:=dO e;exact hr⟩ ⟨A,c,rfl,λhn=>by obtain⟨a,e1,e2⟩:=hh hn;exact⟨a,e1,e2.sub (Yg hr)⟩⟩ (RH (λ_=>rfl) l) (by simp;omega) O rfl rfl AW λv' H' b' g1 g2 g3=>Y ?_;exact⟨g1,b',by rw[qAx]at g2;exact g2⟩
theorem Zzn{l:List Nt}(hl:aV H v l)(hn:l.length<=1000000):LL.Zc P 123 #[v] H λv' H'=>H.Sub H'/\∃b,fZ H H' 85 v' l b:=by
 have bB:P.still H.gh=false:=Loud.aL _;obtain⟨A,c,rfl,hh⟩:=hl;refine aO.m (cF Zxr) (args:=[.slice A l.length c]) rfl ?_;unfold ZkK;refine Y ?_;refine Lt (dC yI) rfl (Y ?_);refine OI (λh1=>?_) (λh1=>?_)
 ·refine Y ?_;have:l=[]:=oR λhn=>by obtain⟨a,rfl,_⟩:=hh hn;simp at h1
  subst this;exact⟨.refl H,none,.nil H _ 85⟩
 refine Y ?_;refine RF (dC yI) (eI MU) bB λr hr=>Y ?_;have AW:P.still (H.ins r (.cells #[] 85)).gh=false:=bB;refine XP (l:=([]:List Nt)) (l':=l) (dC yI) (dC yI) (eI MU) rfl (by decide) (Yg hr) (H0:=H) (b:=some r) ⟨X2,λq e=>by obtain rfl:=dO e;exact hr⟩ ⟨A,c,rfl,λhn=>by obtain⟨a,e1,e2⟩:=hh hn;exact⟨a,e1,e2.sub (Yg hr)⟩⟩ (RH (λ_=>rfl) l) (by simp;omega) O rfl rfl AW λv' H' b' g1 g2 g3=>Y ?_;exact⟨g1,b',by rw[qAx]at g2;exact g2⟩
theorem L5{α:Type}[Enc α]{H:Hp}{E:TypeId}{l:List α}{b:Option Nat}(h:fZ H0 H E v l b):∃A c,v=.slice A l.length c/\l.length<=c:=by
 obtain⟨_,⟨rfl,h2,_⟩ | ⟨r,cap,rest,_,rfl,_,_,h5⟩⟩:=h.own
 ·exact⟨none,0,by rw[h2],O⟩
 exact⟨_,cap,rfl,h5⟩
def UP(H:Hp)(b:Option Nat):Hp:=⟨λx=>if b=some x then none else H x,H.gh⟩
theorem Ah(H:Hp)(b:Option Nat)(x:Nat):UP H b x=if b=some x then none else H x:=rfl
theorem Ai(H:Hp)(b:Option Nat):bO (UP H b) H:=λx y h=>by
 rw[Ah]at h;split at h
 ·simp at h
 exact h
theorem Zl9{H:Hp}{b:Option Nat}(hi:bO H0 H)(hf:∀r,b=some r->H0 r=none):bO H0 (UP H b):=λx y h=>by rw[Ah,bY (λe=>by rw[hf x e]at h;simp at h)];exact hi x y h
theorem ZyA(hb:Zs H b)(sz:b.Sz)(hg:Yl H):LL.Zc P 108 #[b.v] H λv H'=>bO H H'/\((Vg b≠0/\v=.tuple #[OP,vi (Vg b)])\/(Vg b=0/\fN b/\∃b',kH b b'/\Zs H' b'/\v=.tuple #[b'.v,vi 0])):=by
 refine aO.m (cF ZxB) (args:=[b.v]) rfl ?_;unfold ZkU Sb.v;refine Y ?_;refine Za (vs:=[b.v]) rfl (L3 hb sz hg) ?_;rintro v H1 ⟨i1,rfl⟩;refine Y ?_;refine OI (λh1=>?_) (λh1=>?_)
 ·have e:Vg b=ZF b:=iO h1;refine Y ?_;exact⟨i1,.inl ⟨by rw[e];exact h1,by rw[e];rfl⟩⟩
 have ok:=U2 (b:=b) h1;refine Y ?_;refine Za (vs:=[b.v]) rfl (Pt (hb.bA i1) ok) ?_;rintro v H2 ⟨i2,rfl⟩;have jI:=i1.trans i2;cases sR:Vk b with
 | false=>
  have e:Vg b=9:=by rw[Vg,bY O,iO sR]
  refine Y ?_;exact⟨jI,.inl ⟨by rw[e];decide,by rw[e];rfl⟩⟩
 | true=>
 have e:Vg b=0:=by rw[Vg,bY O,bY (by rw[sR];decide)]
 refine Y ?_;refine Za (vs:=[.slice b.A1 b.pk.length b.c1]) rfl (ZnL (hb.pk.bA jI) (by have:=ok.n;omega)) ?_;rintro v1 H3 ⟨s3,b3,o3⟩;refine Zq OL (Y ?_);refine Za (vs:=[.slice b.A2 b.nt.length b.c2]) rfl (Zzn ((hb.nt.bA jI).sub s3) (by have:=ok.nn;omega)) ?_;rintro v2 H4 ⟨s4,b4,o4⟩;refine Zq OL ?_;obtain⟨A1,c1,rfl,q1⟩:=L5 o3;obtain⟨A2,c2,rfl,q2⟩:=L5 o4;have EB:=(jI.trans s3.bA).trans s4.bA;have f4:∀r,b4=some r->H r=none:=λr e=>YK (jI.trans s3.bA) (o4.fresh r e);have Tj:=Zl9 EB f4;have oV:aV (UP H4 b4) (.slice A1 b.pk.length c1) b.pk:=o3.sl.bA (Zl9 s4.bA o4.fresh);have hor:∀i (h:i<b.nt.length),aV (UP H4 b4) (.slice b.nt[i].A b.nt[i].ps.length b.nt[i].c) b.nt[i].ps:=λi h=>(hb.ps _ (IN h)).bA Tj;have BJ:=ok.nn;have tQ:=ok.n;refine Y ?_;refine ZQ (α:=List Nt) b.nt.length (λj l H'=>fZ H3 H' 85 (.slice A2 b.nt.length c2) l b4/\bO (UP H4 b4) (UP H' b4)/\l.length=b.nt.length/\(∀i (h:i<l.length) (h':i<b.nt.length),(l[i].ps=b.nt[i].ps/\l[i].lo=b.nt[i].lo/\l[i].hi=b.nt[i].hi)/\aV (UP H' b4) (.slice l[i].A l[i].ps.length l[i].c) l[i].ps))
  (λj l=>[(1,vi 0),(2,vi 0),(27,vi b.nt.length),(28,vi j)]) (λ_ _=>[(1,[vi b.pl,vi b.hd,vi b.td,.slice A1 b.pk.length c1,.slice A2 b.nt.length c2]),(2,[vi 0,vi 0,vi 0,.slice none 0 0,.slice none 0 0])]) b.nt ⟨o4,.refl _,rfl,λi h h'=>⟨⟨rfl,rfl,rfl⟩,hor i h⟩⟩ V V ?_
 rintro j l H5 hj ⟨o5,i5,l5,n5⟩;refine Y ?_;refine OI (λh2=>?_) (λh2=>?_)
 ·have cH:j<l.length:=O;obtain⟨⟨e1,e2,e3⟩,Ga⟩:=n5 j cH O;have Gb:=o5.sl;obtain⟨_,⟨_,e,_⟩ | ⟨r,cap,rest,rfl,ev,h5,Jk,KV⟩⟩:=id o5.own
  ·exact absurd e O
  simp only[Value.slice.injEq]at ev;obtain⟨rfl,_,rfl⟩:=ev;have hr3:=o5.fresh r rfl;have yX:l[j].ps.length<=1000000:=by rw[e1];have h6:=Kz (ok.nt _ (IN (show j<b.nt.length by omega))).2.1;omega
  refine Y ?_;refine Zx Gb rfl rfl rfl (i:=j) cH λa ha=>Y ?_;refine Zg (OL _) rfl (by rw[add_zero];exact YM (cs:=[.slice l[j].A l[j].ps.length l[j].c]) (ds:=[vi l[j].lo,vi l[j].hi]) ha) (Y ?_);refine Za (vs:=[.slice l[j].A l[j].ps.length l[j].c]) rfl (RI (Ga.bA (Ai _ _)) yX) ?_;rintro v6 H6 ⟨s6,b6,o6⟩;refine Zq OL ?_;obtain⟨A6,c6,rfl,_⟩:=L5 o6;have h6:=s6.mem _ _ h5;have hb6:b6≠some r:=λe=>by have:=o6.fresh r e;rw[h5]at this;simp at this
  refine Y ?_;refine OF rfl rfl (show j<b.nt.length by omega) (Y ?_);rw[show(⟨r,0,none⟩:Addr).add (j * 3)=⟨r,j * 3,none⟩by rw[Vw,qAu],add_zero];refine OD (eI Zol) rfl rfl h6 rfl (by rw[qAc,VG];show j * 3+1<=l.length * 3+_;omega) rfl (OL _) ?_;have JK:=Zhc (.slice A6 l[j].ps.length c6) l j cH rest A6 c6 rfl;rw[show(Value.slice A6 l[j].ps.length c6).cells.toList=[.slice A6 l[j].ps.length c6]from rfl,JK];have i6:bO (UP H5 (some r)) (UP (H6.ins r (.cells (Zb (l.set j { l[j]with A:=A6,c:=c6 })++rest).toArray 85)) (some r)):=λx y h=>by
   rw[Ah]at h ⊢;split at h
   ·simp at h
   rename_i hx;have eP:x≠r:=λe=>hx (by rw[e]);rw[bY hx,Hp.aE _ _ eP];exact s6.mem _ _ h
  refine Y ?_;refine⟨(⟨j+1,O⟩,l.set j { l[j]with A:=A6,c:=c6 }),dX O,⟨⟨⟨by rw[VG],.inr ⟨r,c2,rest,rfl,by rw[IF,l5],Hp.aF _ _ _,?_,by rw[IF];exact KV⟩⟩,o5.fresh⟩,i5.trans i6,by rw[IF];exact l5,λi h h'=>?_⟩,V,V,rfl⟩
  ·rw[qAc,VG,IF,<-VG,<-qAc];exact Jk
  have C2:i<l.length:=by rwa [IF]at h
  obtain⟨n1,n2⟩:=n5 i C2 h';by_cases nU:i=j
  ·subst nU;rw[List.getElem_set_self];refine⟨n1,fZ.sl (H0:=H5) (b:=b6) ⟨o6.own.sub λx y e h=>?_,o6.fresh⟩⟩;have hx:x≠r:=λe'=>hb6 (by rw[e,e']);rw[Ah,bY (λe'=>hx (dO e').symm),Hp.aE _ _ hx];exact h
  rw[List.getElem_set_ne (qAi nU)];exact⟨n1,n2.bA i6⟩
 have:j=b.nt.length:=O;subst this;refine Y ?_;refine⟨?_,.inr ⟨e,ok,{ b with nt:=l,A1:=A1,c1:=c1,A2:=A2,c2:=c2 },⟨rfl,rfl,rfl,rfl,l5,λi h h'=>(n5 i h' h).1⟩,⟨(oV.bA i5).bA (Ai _ _),by rw[<-l5]at o5;exact o5.sl,λx hx=>?_,q1,by rw[show l.length=b.nt.length from l5];exact q2⟩,?_⟩⟩
 ·exact(Tj.trans i5).trans (Ai _ _)
 ·obtain⟨i,hi,rfl⟩:=qAJ.1 hx;have hi:i<l.length:=hi;exact(n5 i hi O).2.bA (Ai _ _)
 show _=Value.tuple #[.agg #[vi b.pl,vi b.hd,vi b.td,.slice A1 b.pk.length c1,.slice A2 l.length c2],vi 0];rw[l5];rfl
end
def Vy(b:Sb)(i:Nat)(lo hi:Int):Sb:={ b with pk:=b.pk.set i { aZ b i with lo:=lo,hi:=hi } }
def Vj(b:Sb)(n lo hi:Int):Int:=
 if ZF b≠0 then ZF b else if Yz b n≠0 then Yz b n else if ¬ (1<=lo/\lo<=hi/\hi<=20)then 1
 else if min (aZ b n.toNat).hi hi<max (aZ b n.toNat).lo lo then 9 else Vg (Vy b n.toNat (max (aZ b n.toNat).lo lo) (min (aZ b n.toNat).hi hi))
abbrev Zi5(x:Nt):Value:=.agg #[.slice x.A x.ps.length x.c,vi x.lo,vi x.hi]
theorem Zhw{b b':Sb}(h1:b.pk=b'.pk)(h2:b.nt=b'.nt):∀r m,dS b r m=dS b' r m
 | 0,m=>by rw[dS,dS,fE,fE,h2]
 | r+1,m=>by rw[dS,dS];simp only[aZ,h1,Zhw h1 h2 r]
theorem Ko(h1:b.pk=b'.pk)(h2:b.nt=b'.nt):Zi b=Zi b':=by rw[Zi,Zi,h1];exact Zhw h1 h2 _ _
theorem Zpy(h0:b.pl=b'.pl/\b.hd=b'.hd/\b.td=b'.td)(h1:b.pk=b'.pk)(h2:b.nt=b'.nt):ZF b=ZF b':=by
 have e1:YP b=YP b':=by rw[YP,YP,h0.1,h0.2.1,h0.2.2]
 have e2:Yr b=Yr b':=by rw[Yr,Yr,h1]
 have e3:YU b=YU b':=by rw[YU,YU,h1,h2]
 rw[ZF,ZF,e1,e2,e3]
theorem ZyB(h0:b.pl=b'.pl/\b.hd=b'.hd/\b.td=b'.td)(h1:b.pk=b'.pk)(h2:b.nt=b'.nt):Vg b=Vg b':=by rw[Vg,Vg,Zpy h0 h1 h2,Vk,Vk,Ko h1 h2]
theorem Kp(lo hi:Int):∀(l:List Pk) (i:Nat) (h:i<l.length) (rest:List Value),ZH (Zb l++rest) (i * 5+1) [vi lo,vi hi]=Zb (l.set i { l[i]with lo:=lo,hi:=hi })++rest
 | [],i,h,_=>by simp at h
 | p :: l,0,h,rest=>by simp[Zb,Enc.enc,ZH]
 | p :: l,i+1,h,rest=>by
  have ih:=Kp lo hi l i (by simpa using h) rest;have e:Zb (p :: l)++rest=Enc.enc p++(Zb l++rest):=by simp[Zb]
  rw[e,show(i+1) * 5+1=5+(i * 5+1)by omega,SO (n:=5) (Enc.len p),ih];simp[Zb]
section
variable{P:bF}[Tz P][Loud P]{H:Hp}
theorem ZyS{n lo hi:Int}(hb:Zs H b)(sz:b.Sz)(hg:Yl H) :
  LL.Zc P 38 #[b.v,vi n,.agg #[vi lo,vi hi]] H λv H'=>bO H H'/\((Vj b n lo hi≠0/\v=.tuple #[OP,vi (Vj b n lo hi)])\/(Vj b n lo hi=0/\fN b/\(0<=n/\n<b.pk.length) /\
   ∃b1 b',b1=Vy b n.toNat (max (aZ b n.toNat).lo lo) (min (aZ b n.toNat).hi hi)/\fN b1/\kH b1 b'/\Zs H' b'/\v=.tuple #[b'.v,vi 0])):=by
 refine aO.m (cF Zx4) (args:=[b.v,vi n,.agg #[vi lo,vi hi]]) rfl ?_
 unfold Zln Sb.v
 refine Y ?_
 refine Za (vs:=[b.v]) rfl (L3 hb sz hg) ?_
 rintro v H1 ⟨i1,rfl⟩
 refine Y ?_
 refine OI (λh1=>?_) (λh1=>?_)
 ·have e:Vj b n lo hi=ZF b:=iO h1;refine Y ?_;exact⟨i1,.inl ⟨by rw[e];exact h1,by rw[e];rfl⟩⟩
 have ok:=U2 (b:=b) h1
 have tQ:=ok.n
 refine Y ?_
 refine Za (vs:=[vi n]) rfl (Nn (b:=b) n sz.pk) ?_
 rintro fv H2 ⟨s2,e1,e2,nT⟩
 refine Zq OL ?_
 refine Y ?_
 refine ZN (vs:=[b.v]) rfl rfl (nT H2 (.refl _)) ?_
 rintro v H3 ⟨i3,rfl⟩
 have qB:=(i1.trans s2.bA).trans i3
 refine Y ?_
 refine OI (λh2=>?_) (λh2=>?_)
 ·have e:Vj b n lo hi=Yz b n:=by rw[Vj,bY O,iO h2]
  refine Y ?_;exact⟨qB,.inl ⟨by rw[e];exact h2,by rw[e];rfl⟩⟩
 have hn:0<=n/\n<b.pk.length:=oR λhh=>by rw[Yz,bY hh]at h2;exact absurd h2 (by decide)
 have ep:Yz b n=0:=O
 refine Y ?_
 refine Za (vs:=[.agg #[vi lo,vi hi],vi 1,vi 20]) rfl (Pu _ _ _ _) ?_
 rintro v _ ⟨rfl,rfl⟩
 refine Y ?_
 refine OI (λh3=>?_) (λh3=>?_)
 ·have e:Vj b n lo hi=1:=by rw[Vj,bY O,bY O,iO O]
  refine Y ?_;exact⟨qB,.inl ⟨by rw[e];decide,by rw[e];rfl⟩⟩
 obtain⟨i,rfl⟩:=Int.eq_ofNat_of_zero_le hn.1
 have gJ:i<b.pk.length:=O
 have eb:b.pk[i]=aZ b i:=(ZA gJ _).symm
 rw[qAA]
 have iM:Vj b (i:Int) lo hi=if min (aZ b i).hi hi<max (aZ b i).lo lo then 9 else Vg (Vy b i (max (aZ b i).lo lo) (min (aZ b i).hi hi)):=by rw[Vj,bY O,bY O,bY O,qAA]
 rw[iM]
 refine Y ?_
 refine Zx (hb.pk.bA qB) rfl rfl rfl (i:=i) gJ λa ha=>?_
 rw[eb]at ha
 have N0:Vy b i (max (aZ b i).lo lo) (min (aZ b i).hi hi)={ b with pk:=b.pk.set i { b.pk[i]with lo:=max (aZ b i).lo lo,hi:=min (aZ b i).hi hi } }:=by rw[Vy,eb]
 refine Y ?_
 refine Zl (cs:=[vi (aZ b i).lo,vi (aZ b i).hi]) (OL _) rfl (YM (ds:=[vi (aZ b i).fK,vi (aZ b i).fW]) (CL (n:=1) ha rfl)) rfl ?_
 refine Y ?_
 refine LN rfl rfl ?_
 refine Y ?_
 refine ZiH rfl rfl ?_
 refine Y ?_
 generalize max (aZ b i).lo lo=z1 at *
 generalize min (aZ b i).hi hi=z2 at *
 refine OI (λh4=>?_) (λh4=>?_)
 ·refine Y ?_;exact⟨qB,.inl ⟨by rw[iO h4];decide,by rw[iO h4];rfl⟩⟩
 rw[bY h4]
 refine Y ?_
 refine Za (vs:=[.slice b.A1 b.pk.length b.c1]) rfl (ZnL (hb.pk.bA qB) sz.pk) ?_
 rintro v4 H4 ⟨s4,b4,o4⟩
 obtain⟨_,⟨_,e,_⟩ | ⟨r,cap,rest,rfl,rfl,h5,Jk,KV⟩⟩:=id o4.own
 ·exact absurd e O
 have EB:=qB.trans s4.bA
 have hr:H r=none:=YK qB (o4.fresh r rfl)
 refine Y ?_
 refine OF rfl rfl gJ ?_
 refine Y ?_
 rw[show((⟨r,0,none⟩:Addr).add (i * 5)).add 1=⟨r,i * 5+1,none⟩by rw[Vw,Vw,qAu]]
 refine OD (v:=.agg #[vi z1,vi z2]) (eI Rn) rfl rfl h5 rfl (by rw[qAc,VG];show i * 5+1+2<=b.pk.length * 5+_;omega) rfl (OL _) ?_
 rw[show(Value.agg #[vi z1,vi z2]).cells.toList=[vi z1,vi z2]from rfl,Kp z1 z2 b.pk i gJ rest]
 have AL:bO H (H4.ins r (.cells (Zb (b.pk.set i { b.pk[i]with lo:=z1,hi:=z2 })++rest).toArray 50)):=λx y h=>by rw[Hp.aE _ _ (by rintro rfl;rw[hr]at h;simp at h)];exact EB _ _ h
 have at5:aD (H4.ins r (.cells (Zb (b.pk.set i { b.pk[i]with lo:=z1,hi:=z2 })++rest).toArray 50)) ⟨r,0,none⟩ (Zb (b.pk.set i { b.pk[i]with lo:=z1,hi:=z2 })):=YM (ZC (Hp.aF _ _ _))
 generalize H4.ins r (.cells (Zb (b.pk.set i { b.pk[i]with lo:=z1,hi:=z2 })++rest).toArray 50)=H5 at *
 have gI:Zs H5 { Vy b i z1 z2 with A1:=some ⟨r,0,none⟩,c1:=cap }:=by
  refine⟨⟨_,cap,rfl,λ_=>⟨_,rfl,?_⟩⟩,hb.nt.bA AL,λy hy=>(hb.ps y hy).bA AL,?_,hb.q2⟩
  ·rw[N0];exact at5
  rw[N0];show(b.pk.set i _).length<=cap;rw[IF];exact KV
 have sz1:Sb.Sz { Vy b i z1 z2 with A1:=some ⟨r,0,none⟩,c1:=cap }:=by
  refine⟨?_,sz.nt,sz.ps,λp hp=>?_⟩
  ·rw[N0];show(b.pk.set i _).length<=_;rw[IF];exact sz.pk
  rw[N0]at hp;rcases List.mem_or_eq_of_mem_set hp with hp | rfl
  ·exact sz.nm p hp
  exact sz.nm b.pk[i] (IN gJ)
 have AN:Sb.v { Vy b i z1 z2 with A1:=some ⟨r,0,none⟩,c1:=cap }=.agg #[vi b.pl,vi b.hd,vi b.td,.slice (some ⟨r,0,none⟩) b.pk.length cap,.slice b.A2 b.nt.length b.c2]:=by rw[N0];show Value.agg _=_;simp[IF]
 refine Y ?_
 refine Za (vs:=[Sb.v { Vy b i z1 z2 with A1:=some ⟨r,0,none⟩,c1:=cap }]) (by rw[AN];rfl) (ZyA gI sz1 (aD.bA hg AL)) ?_
 rintro v H6 ⟨i6,hv⟩
 rw[show Vg { Vy b i z1 z2 with A1:=some ⟨r,0,none⟩,c1:=cap }=Vg (Vy b i z1 z2)from ZyB ⟨rfl,rfl,rfl⟩ rfl rfl]at hv
 rcases hv with⟨h6,rfl⟩ | ⟨h6,FS,b',sb,at6,rfl⟩
 ·unfold OP;refine Y ?_;exact⟨AL.trans i6,.inl ⟨h6,rfl⟩⟩
 ·unfold Sb.v;rw[h6];refine Y ?_;exact⟨AL.trans i6,.inr ⟨rfl,ok,hn,_,b',rfl,⟨FS.pl,FS.hd,FS.td,FS.n,FS.pk,FS.nm,FS.nn,FS.nt⟩,⟨sb.pl,sb.hd,sb.td,sb.pk,sb.nl,sb.nt⟩,at6,rfl⟩⟩
end
