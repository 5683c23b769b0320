import Derived.Test.YthmnpenamnoniaaGreatDoorP05
set_option linter.all false
section
namespace Go.LL
theorem RawN.frame {P:Prg}{op:Op}{dst:Option Nat}{K:NSt->Hp->Prop}{σ:NSt}{F:Hp}(hd:Zf7 op=false):∀ {n:Next} {H:Hp},RawN P op dst K σ n H->H.Comp F->RawN P op dst (fun σ HF=>∃ H',HF=H'.join F∧H'.Comp F∧K σ H') σ n (H.join F):=by
 intro n H h hc
 cases n with
 | value v=>exact⟨_,rfl,hc,h⟩
 | skip=>exact⟨_,rfl,hc,h⟩
 | enter f args=>exact Zag.frame h hc
 | round l f tmps as bd=>exact ZdM.frame h hc
 | defer d=>exact absurd (hd.symm.trans h.1) (by simp)
 | _=>exact h.elim
theorem ZhR {H F:Hp}{r:Nat}{o:Obj}(h:F r=none):(H.join F).ins r o=(H.ins r o).join F:=by
 refine Hp.ext' (fun b=>?_) rfl
 simp only[Hp.join_at,Hp.ins_at]
 by_cases e:b=r
 ·subst e;simp
 ·simp[e]
theorem Hp.Comp.ins_left {H F:Hp}{r:Nat}{o:Obj}(hc:H.Comp F)(h:F r=none):(H.ins r o).Comp F:=by
 refine⟨fun b x y h1 h2=>?_,hc.gh⟩
 by_cases e:b=r
 ·subst e;rw[h]at h2;simp at h2
 ·rw[Hp.ins_other _ _ e]at h1
  exact hc b x y h1 h2
theorem NOp.w_frame {P:Prg}{op:NOp}{dst:Option Nat}{K:NSt->Hp->Prop}{σ:NSt}{H F:Hp}(hcl:op.cls=1)(hok:op.okE=true)(hF:F.gh=[])(hc:H.Comp F)(h:op.w P dst K σ H) :
  op.w P dst (fun σ' HF=>∃ H',HF=H'.join F∧H'.Comp F∧K σ' H') σ (H.join F):=by
 have hgh:(H.join F).gh=H.gh:=by rw[Hp.join_gh,hF,List.append_nil]
 cases ho:op<;>rw[ho]at hcl h hok<;>first | (exfalso;simp[NOp.cls]at hcl;done) | skip
 all_goals simp only[NOp.w]at h ⊢
 case call f args=>
  obtain⟨vs,h1,h2⟩:=h
  exact⟨vs,h1,Zag.frame h2 hc⟩
 case buildS e ln z ps=>
  obtain⟨hs,cs,h1,h2⟩:=h
  refine⟨by rw[hgh];exact hs,cs,h1,fun r hr=>?_⟩
  obtain⟨r1,r2⟩:=Hp.join_none.1 hr
  exact⟨_,ZhR r2,hc.ins_left r2,h2 r r1⟩
 case rawn op ty=>simp[NOp.okE]at hok
 case raw op ty=>
  have hdef:Zf7 op=false:=by
   simp only[NOp.okE,Bool.and_eq_true,Bool.not_eq_true']at hok
   exact hok.2
  refine⟨h.1,h.2.imp (fun h=>?_) fun h=>h.frame hc⟩
  refine Za2 ?_ (ZdV h hc)
  rintro n g HF ⟨H',rfl,hc',hn⟩
  exact hn.imp id fun hn=>hn.frame hdef hc'
theorem NI.w_frame {P:Prg}{i:NI}{K:NSt->Hp->Prop}{σ:NSt}{H F:Hp}(hcl:i.op.cls=1)(hok:i.op.okE=true)(hF:F.gh=[])(hc:H.Comp F)(h:i.w P K σ H) :
  i.w P (fun σ' HF=>∃ H',HF=H'.join F∧H'.Comp F∧K σ' H') σ (H.join F):=by
 unfold NI.w at h ⊢
 split at h
 ·exact NOp.w_frame hcl hok hF hc h
 ·obtain⟨b,hb,h1,h2⟩:=h
  exact⟨b,hb,fun e=>NOp.w_frame hcl hok hF hc (h1 e),fun e=>⟨H,rfl,hc,h2 e⟩⟩
def Ze4 (x:NI):Bool:=match x.g,x.op with | none,.buildS ..=>true | _,_=>false
def Zep (P:Prg)(x:NI)(σ:NSt)(H:Hp):Prop:=
 match x.op with
 | .buildS _ _ z ps=>P.still H.gh=false∧(buildV σ ps z).isSome=true
 | _=>True
theorem ZiG {x:NI}(h:Ze4 x=true):x.g=none∧∃ e ln z ps,x.op=.buildS e ln z ps:=by
 unfold Ze4 at h
 split at h
 ·rename_i e ln z ps h1 h2;exact⟨h1,e,ln,z,ps,h2⟩
 ·simp at h
def ZkZ (x c:NI):Bool:=Ze4 x && c.op.cls == 1 && c.op.okE && (x.wt.all fun t=>!(c.rt.contains t) && !(c.wt.contains t)) && (c.wt.all fun t=>!(x.rt.contains t))
theorem Zix {x c:NI}(h:ZkZ x c=true):Ze4 x=true∧c.op.cls=1∧c.op.okE=true∧(∀ t∈x.wt,t ∉ c.rt∧t ∉ c.wt)∧∀ t∈c.wt,t ∉ x.rt:=by
 unfold ZkZ at h
 simp only[Bool.and_eq_true,List.all_eq_true,Bool.not_eq_true',List.contains_eq_mem,decide_eq_false_iff_not,beq_iff_eq]at h
 obtain⟨⟨⟨⟨h1,h2⟩,h3⟩,h4⟩,h5⟩:=h
 exact⟨h1,h2,h3,h4,h5⟩
theorem Zkg {P:Prg}{x:NI}{e:TypeId}{ln:Nat}{z:List Value}{ps:List (Nat×Nat×Operand)}(hg:x.g=none)(ho:x.op=.buildS e ln z ps){K:NSt->Hp->Prop}{σ:NSt}{H:Hp} :
  x.w P K σ H↔P.still H.gh=false∧∃ cs,buildV σ ps z=some cs∧∀ r,H r=none->K (σ.set x.dst (.slice (some ⟨r,0,none⟩) ln ln)) (H.ins r (.cells cs.toArray e)):=by
 unfold NI.w
 rw[hg]
 simp only[ho,NOp.w]
theorem news_one {P:Prg}{x c:NI}{K:NSt->Hp->Prop}{σ:NSt}{H:Hp}(hb:ZkZ x c=true)(hok:Zep P x σ H){R:Hp->Hp->Prop}(hR:∀ H H' r o,H r=none->H' r=none->R H H'->R (H.ins r o) (H'.ins r o))
  (h:c.w P (fun σ1 H1=>R H H1∧x.w P K σ1 H1) σ H):x.w P (fun σ1 H1=>H.Sub H1∧(∀ y:NI,(∀ t∈y.rt,t ∉ x.wt)->Zep P y σ H->Zep P y σ1 H1)∧c.w P (fun σ2 H2=>R H1 H2∧K σ2 H2) σ1 H1) σ H:=by
 obtain⟨hn,hcl,hke,a1,a2⟩:=Zix hb
 obtain⟨hg,e,ln,z,ps,ho⟩:=ZiG hn
 have hrt:x.rt=ps.flatMap fun p=>Zcp p.2.2:=by simp[NI.rt,hg,ho,NOp.rt]
 have hwt:∀ d,x.dst=some d->d∈x.wt:=Zec x
 unfold Zep at hok
 rw[ho]at hok
 obtain⟨hs,hv⟩:=hok
 obtain⟨cs,hcs⟩:=Option.isSome_iff_exists.1 hv
 rw[Zkg hg ho]
 refine⟨hs,cs,hcs,fun r hr=>?_⟩
 have hsub:H.Sub (H.ins r (.cells cs.toArray e)):=⟨fun b y hy=>by rw[Hp.ins_other _ _ (by rintro rfl;rw[hr]at hy;simp at hy)];exact hy,rfl⟩
 refine⟨hsub,fun y hy hyk=>?_,?_⟩
 ·unfold Zep at hyk ⊢
  split at hyk
  ·rename_i e2 ln2 z2 ps2 ho2
   refine⟨hyk.1,?_⟩
   have hag:Zcg y.rt [] σ (σ.set x.dst (.slice (some ⟨r,0,none⟩) ln ln)):=by
    rw[<-Upd.set_app]
    exact Zcg.app (fun t ht=>Classical.byContradiction fun hn=>hy t ht (Zc8 hwt t hn)) (fun d hd=>by simp at hd)
   rw[<-hag.buildV (fun t ht=>by simp only[NI.rt,ho2,NOp.rt,List.mem_append];exact .inr ht)]
   exact hyk.2
  ·trivial
 ·
  let F:Hp:=Hp.nil.ins r (.cells cs.toArray e)
  have hF:H.Comp F:=⟨fun b x y h1 h2=>by
   by_cases e:b=r
   ·subst e;rw[hr]at h1;simp at h1
   ·rw[show F b=none from by show Hp.nil.ins r _ b=none;rw[Hp.ins_other _ _ e];rfl]at h2;simp at h2,.inr rfl⟩
  have hjoin:∀ H1:Hp,H1 r=none->H1.join F=H1.ins r (.cells cs.toArray e):=by
   intro H1 h1
   refine Hp.ext' (fun b=>?_) (by rw[Hp.join_gh];exact List.append_nil _)
   simp only[Hp.join_at]
   by_cases e2:b=r
   ·subst e2
    rw[h1]
    have e3:F b=some (.cells cs.toArray e,true):=Hp.ins_same _ _ _
    have e4:(H1.ins b (.cells cs.toArray e)) b=some (.cells cs.toArray e,true):=Hp.ins_same _ _ _
    simp only[e3,e4]
   ·have e3:F b=none:=(Hp.ins_other _ _ e2).trans rfl
    have e4:(H1.ins r (.cells cs.toArray e)) b=H1 b:=Hp.ins_other _ _ e2
    rw[e3,e4]
    cases H1 b<;>rfl
  have h1:=NI.w_frame hcl hke (F:=F) rfl hF h
  rw[hjoin H hr]at h1
  have hag:Zcg c.rt c.op.rb σ (σ.set x.dst (.slice (some ⟨r,0,none⟩) ln ln)):=by
   rw[<-Upd.set_app]
   exact Zcg.app (fun t ht=>Classical.byContradiction fun hn=>(a1 t (Zc8 hwt t hn)).1 ht) (fun d hd=>rfl)
  refine Zgf hcl hke _ _ _ h1 _ _ hag ?_
  rintro u hu1 hu2 HF ⟨H',rfl,hc',hR',hx⟩
  have hr':H' r=none:=by
   cases hh:H' r with
   | none=>rfl
   | some y=>have:=(hc' r y (.cells cs.toArray e,true) hh (Hp.ins_same _ _ _)).2;have e2:=(hc' r y (.cells cs.toArray e,true) hh (Hp.ins_same _ _ _)).1;rw[e2]at this;simp at this
  rw[hjoin H' hr']
  refine⟨hR _ _ _ _ hr hr' hR',?_⟩
  obtain⟨_,cs',hcs',hx⟩:=(Zkg hg ho).1 hx
  have hag2:Zcg x.rt [] σ (u.app σ):=Zcg.app (fun t ht=>Classical.byContradiction fun hn=>a2 t (hu1 t hn) ht) (fun d hd=>by simp at hd)
  have:buildV (u.app σ) ps z=some cs:=by rw[<-hag2.buildV (fun t ht=>by rw[hrt];exact ht)];exact hcs
  rw[this]at hcs'
  obtain rfl:=Option.some.inj hcs'
  have hfin:=hx r hr'
  rw[<-Upd.set_app]at hfin ⊢
  have hap:u.Apart (Upd.set x.dst (some (.slice (some ⟨r,0,none⟩) ln ln))):=by
   refine⟨fun t=>?_,fun d=>.inl (hu2 d)⟩
   by_cases hm:t∈x.wt
   ·exact .inl (Classical.byContradiction fun hn=>(a1 t hm).2 (hu1 t hn))
   ·exact .inr (Classical.byContradiction fun hn=>hm (Zc8 hwt t hn))
  rw[Upd.comm hap]
  exact hfin
theorem NI.w_mono {P:Prg}{i:NI}{K K':NSt->Hp->Prop}(hk:∀ σ H,K σ H->K' σ H){σ:NSt}{H:Hp}(h:i.w P K σ H):i.w P K' σ H:=by
 unfold NI.w at h ⊢
 split at h
 ·exact NOp.w_mono hk h
 ·obtain⟨b,hb,h1,h2⟩:=h
  exact⟨b,hb,fun e=>NOp.w_mono hk (h1 e),fun e=>hk _ _ (h2 e)⟩
theorem Ziy {P:Prg}{X:Nat->NI}{fl:Nat->Option Bool}{Q:NSt->Hp->Prop}{c:Nat}{l2:List Nat}:∀ (l1:List Nat) (σ:NSt) (H:Hp),(∀ x∈l1,ZkZ (X x) (X c)=true)->(∀ x∈l1,∀ y∈l1,∀ t∈(X x).wt,t ∉ (X y).rt)->(∀ x∈l1,Zep P (X x) σ H) ->
  (X c).w P (fun σ' H'=>Kpt P.toPQ (fl c) H H'∧Go P X fl Q (l1++l2) σ' H') σ H->Go P X fl Q (l1++c :: l2) σ H
 | [],σ,H,_,_,_,h=>h
 | x :: l1,σ,H,hb,hp,hok,h=>by
  have h':(X c).w P (fun σ1 H1=>Kpt P.toPQ (fl c) H H1∧(X x).w P (fun σ2 H2=>Go P X fl Q (l1++l2) σ2 H2) σ1 H1) σ H:=
   NI.w_mono (fun σ' H' hh=>⟨hh.1,by
    have h2:=hh.2
    simp only[List.cons_append,Go]at h2
    exact NI.w_mono (fun _ _ h3=>h3.2) h2⟩) h
  have h1:=news_one (R:=fun H H1=>Kpt P.toPQ (fl c) H H1) (hb x (by simp)) (hok x (by simp)) (fun H H' r o e1 e2 hR s hf=>by
   have hs:=hR s hf
   refine⟨hs.gh,fun es b y hy=>?_⟩
   by_cases e:b=r
   ·subst e;rw[Hp.ins_same]at hy ⊢;exact hy
   ·rw[Hp.ins_other _ _ e]at hy ⊢;exact hs.mem es b y hy) h'
  simp only[List.cons_append,Go]
  refine NI.w_mono ?_ h1
  rintro σ1 H1 ⟨g1,g2,g3⟩
  refine⟨g1.kpt _,Ziy l1 σ1 H1 (fun y hy=>hb y (by simp[hy])) (fun y hy z hz=>hp y (by simp[hy]) z (by simp[hz])) (fun y hy=>g2 (X y) (fun t ht hm=>hp x (by simp) y (by simp[hy]) t hm ht) (hok y (by simp[hy]))) g3⟩
def GoC (P:Prg)(X:Nat->NI)(fl:Nat->Option Bool)(W:Nat->Nat->Bool)(Q:NSt->Hp->Prop):List Nat->NSt->Hp->Prop
 | [],σ,H=>Q σ H
 | i :: l,σ,H=>((X i).op.cls≠0->∀ x∈l,Ze4 (X x)=true->W x i=false->Zep P (X x) σ H)∧(X i).w P (fun σ' H'=>Kpt P.toPQ (fl i) H H'∧GoC P X fl W Q l σ' H') σ H
def Zj5 (X:Nat->NI)(fl:Nat->Option Bool)(W:Nat->Nat->Bool):List Nat->Bool
 | []=>true
 | c :: C=>(if (X c).op.cls == 0 then Zf9 (X c) && (C.all fun x=>W x c || (Zky (X c) (X x) (fl x) && (Zf9 (X x) || ((X x).op.cls == 1 && (X x).op.okE))))
   else (C.all fun x=>W x c || ZkZ (X x) (X c)) && (C.all fun x=>W x c || C.all fun y=>W y c || (X x).wt.all fun t=>!((X y).rt.contains t))) && Zj5 X fl W C
theorem ZeC {P:Prg}{n:Nat}{pre:Nat->List Nat}{X:Nat->NI}{fl:Nat->Option Bool}{W:Nat->Nat->Bool}{Q:NSt->Hp->Prop}(hW:∀ (x e:Nat) (done:List Nat),(∀ i∈done,∀ p∈pre i,p∈done)->W x e=true->(∀ p∈pre x,p∈done)->e∈done) :
  ∀ (C:List Nat) {done l:List Nat} {σ:NSt} {H:Hp},Lin n pre done C->Lin n pre done l->(∀ i∈done,∀ p∈pre i,p∈done)->Zj5 X fl W C=true->GoC P X fl W Q C σ H->Go P X fl Q l σ H
 | [],done,l,σ,H,hC,hl,_,_,h=>by
  cases hC with
  | nil hall=>
   cases hl with
   | nil _=>exact h
   | cons hi hd _ _=>exact absurd (hall _ hi) hd
 | c :: C,done,l,σ,H,hC,hl,hcl,hB,h=>by
  cases hC with
  | cons hi hd hp hC'=>
   have hcl':∀ i∈c :: done,∀ p∈pre i,p∈c :: done:=by
    intro i hm p hpm
    simp only[List.mem_cons]at hm
    rcases hm with rfl | hm
    ·exact List.mem_cons_of_mem _ (hp p hpm)
    ·exact List.mem_cons_of_mem _ (hcl i hm p hpm)
   have hcl2:c∈l:=(hl.mem c hi).resolve_left hd
   obtain⟨l1,l2,rfl,hn1⟩:=List.eq_append_cons_of_mem hcl2
   have hl':=Lin.ahead hi hl hn1
   simp only[Zj5,Bool.and_eq_true]at hB
   obtain⟨hB1,hB2⟩:=hB
   have hno:∀ x∈l1,x∈C∧W x c=false:=by
    intro x hx
    have hxl:x∈l1++c :: l2:=by simp[hx]
    have hfr:=hl.fresh x hxl
    have hxc:x≠c:=fun e=>hn1 (e ▸ hx)
    have hxC:x∈C:=by
     rcases hC'.mem x hfr.1 with h | h
     ·simp only[List.mem_cons]at h
      rcases h with h | h
      ·exact absurd h hxc
      ·exact absurd h hfr.2
     ·exact h
    refine⟨hxC,?_⟩
    cases hw:W x c with
    | false=>rfl
    | true=>
     exfalso
     have key:∀ (l1:List Nat) (done:List Nat),Lin n pre done (l1++c :: l2)->(∀ i∈done,∀ p∈pre i,p∈done)->c ∉ l1->c ∉ done->x∈l1->False:=by
      intro l1
      induction l1 with
      | nil=>exact fun _ _ _ _ _ h=>by simp at h
      | cons y l1 ih=>
       intro done hl hcl hn hd hx
       cases hl with
       | cons hi' hd' hp' hl'=>
        simp only[List.mem_cons]at hx
        rcases hx with rfl | hx
        ·exact hd (hW x c done hcl hw hp')
        ·refine ih (y :: done) hl' ?_ (fun h=>hn (by simp[h])) ?_ hx
         ·intro i hm p hpm
          simp only[List.mem_cons]at hm
          rcases hm with rfl | hm
          ·exact List.mem_cons_of_mem _ (hp' p hpm)
          ·exact List.mem_cons_of_mem _ (hcl i hm p hpm)
         ·simp only[List.mem_cons,not_or]at hn ⊢
          exact⟨hn.1,hd⟩
     exact key l1 done hl hcl hn1 hd hx
   simp only[GoC]at h
   obtain⟨hpk,h⟩:=h
   by_cases h0:(X c).op.cls=0
   ·simp only[h0,beq_self_eq_true,if_true,Bool.and_eq_true,List.all_eq_true]at hB1
    obtain⟨u,hu,hu1,hu2,hu3⟩:=Zks (P:=P) hB1.1 _ _ _ h
    have hrest:=ZeC hW C hC' hl' hcl' hB2 hu.2
    refine Zga (P:=P) trivial hu1 hu2 l1 σ H (fun x hx=>?_) hu3 hrest
    obtain⟨hxC,hxw⟩:=hno x hx
    have:=hB1.2 x hxC
    rw[hxw]at this
    simpa using this
   ·have hne:((X c).op.cls == 0)=false:=by simpa using h0
    simp only[hne,Bool.false_eq_true,if_false,Bool.and_eq_true,List.all_eq_true,Bool.or_eq_true]at hB1
    have hnews:∀ x∈l1,ZkZ (X x) (X c)=true:=fun x hx=>by
     obtain⟨hxC,hxw⟩:=hno x hx
     exact(hB1.1 x hxC).resolve_left (by rw[hxw];simp)
    refine Ziy l1 σ H hnews (fun x hx y hy t ht hm=>?_) (fun x hx=>hpk h0 x (hno x hx).1 (Zix (hnews x hx)).1 (hno x hx).2) (NI.w_mono (fun σ' H' ⟨h1,h2⟩=>⟨h1,ZeC hW C hC' hl' hcl' hB2 h2⟩) h)
    obtain⟨hxC,hxw⟩:=hno x hx
    obtain⟨hyC,hyw⟩:=hno y hy
    have h1:=(hB1.2 x hxC).resolve_left (by rw[hxw];simp)
    have h2:=(h1 y hyC).resolve_left (by rw[hyw];simp)
    have h3:=h2 t ht
    simp at h3
    exact h3 hm
end Go.LL
end
section
namespace Go.LL
def Zda (ops:Array Oper)(i:Nat):List Nat:=
 match ops[i]? with
 | some o=>(o.after.toList.filter (Region.binds .any)).map (·.on)
 | none=>[]
def ascB (ops:Array Oper):Bool:=(List.range ops.size).all fun i=>(Zda ops i).all fun p=>decide (p<i)
theorem go_acc (md:Region.Mode)(ops:Array Oper):∀ (fuel t:Nat) (listed:Array Bool) (acc:List Nat),
  Region.linearise.go md ops fuel t listed acc=acc.reverse++Region.linearise.go md ops fuel t listed []:=by
 intro fuel
 induction fuel with
 | zero=>intro t listed acc;simp[Region.linearise.go]
 | succ fuel ih=>
  intro t listed acc
  simp only[Region.linearise.go]
  split
  ·rename_i i _
   rw[ih _ _ (i :: acc),ih _ _ [i]]
   simp
  ·simp
theorem Ze5 {p q:Nat->Bool}{i:Nat}:∀ {l:List Nat},l.Nodup->i∈l->p i=true->(∀ j,j≠i->q j=p j)->q i=false->(l.filter q).length+1=(l.filter p).length
 | [],_,hm,_,_,_=>by simp at hm
 | x :: l,hn,hm,hp,hq,hqi=>by
  simp only[List.nodup_cons]at hn
  by_cases e:x=i
  ·subst e
   have:l.filter q=l.filter p:=List.filter_congr fun j hj=>hq j fun e=>hn.1 (e ▸ hj)
   simp[hp,hqi,this]
  ·have hm':i∈l:=by
    simp only[List.mem_cons]at hm
    exact hm.resolve_left (Ne.symm e)
   have ih:=Ze5 hn.2 hm' hp hq hqi
   simp only[List.filter_cons,hq x e]
   cases p x<;>simp[ih]
theorem lin_go {ops:Array Oper}(hasc:ascB ops=true):∀ (fuel t:Nat) (listed:Array Bool) (done:List Nat),listed.size=ops.size->(∀ i,i<ops.size->(listed.getD i true=true↔i∈done))->((List.range ops.size).filter fun i=>!listed.getD i true).length=fuel ->
  Lin ops.size (Zda ops) done (Region.linearise.go .any ops fuel t listed [])
 | 0,t,listed,done,hs,hd,hf=>by
  simp only[Region.linearise.go,List.reverse_nil]
  refine .nil fun i hi=>(hd i hi).1 ?_
  have:=List.eq_nil_of_length_eq_zero hf
  cases hl:listed.getD i true with
  | true=>rfl
  | false=>
   have hm:i∈(List.range ops.size).filter fun i=>!listed.getD i true:=List.mem_filter.2 ⟨List.mem_range.2 hi,by simp[hl]⟩
   rw[this]at hm
   simp at hm
 | fuel+1,t,listed,done,hs,hd,hf=>by
  simp only[Region.linearise.go]
  have hready:∀ i,(i∈(List.range ops.size).filter fun i=>!listed.getD i true && ((ops[i]?).map (·.after.all fun e=>!Region.binds .any e || listed.getD e.on false)).getD false)↔i<ops.size∧listed.getD i true=false∧∀ p∈Zda ops i,listed.getD p false=true:=by
   intro i
   simp only[List.mem_filter,List.mem_range,Bool.and_eq_true,Bool.not_eq_true']
   constructor
   ·rintro⟨h1,h2,h3⟩
    refine⟨h1,h2,fun p hp=>?_⟩
    unfold Zda at hp
    have ho:ops[i]? = some ops[i]:=Array.getElem?_eq_getElem h1
    rw[ho]at hp h3
    simp only[List.mem_map,List.mem_filter]at hp
    obtain⟨e,⟨he1,he2⟩,rfl⟩:=hp
    simp only[Option.map_some,Option.getD_some]at h3
    have:=Array.all_eq_true_iff_forall_mem.1 h3 e (Array.mem_toList_iff.1 he1)
    simpa[he2]using this
   ·rintro⟨h1,h2,h3⟩
    refine⟨h1,h2,?_⟩
    have ho:ops[i]? = some ops[i]:=Array.getElem?_eq_getElem h1
    unfold Zda at h3
    rw[ho]at h3 ⊢
    simp only[Option.map_some,Option.getD_some]
    refine Array.all_eq_true_iff_forall_mem.2 fun e he=>?_
    cases hb:Region.binds .any e with
    | false=>simp
    | true=>
     simp only[Bool.not_true,Bool.false_or]
     exact h3 e.on (by simp only[List.mem_map,List.mem_filter];exact⟨e,⟨Array.mem_toList_iff.2 he,hb⟩,rfl⟩)
  have hex:∃ i,i<ops.size∧listed.getD i true=false:=by
   cases hl:(List.range ops.size).filter fun i=>!listed.getD i true with
   | nil=>rw[hl]at hf;simp at hf
   | cons x xs=>
    have:x∈(List.range ops.size).filter fun i=>!listed.getD i true:=by rw[hl];simp
    simp only[List.mem_filter,List.mem_range,Bool.not_eq_true']at this
    exact⟨x,this⟩
  have hleast:∃ i,i<ops.size∧listed.getD i true=false∧∀ j,j<i->listed.getD j true=true:=by
   obtain⟨k,hk⟩:=hex
   induction k using Nat.strongRecOn with
   | _ k ih=>
    by_cases h:∃ j,j<k∧listed.getD j true=false
    ·obtain⟨j,hj,hj2⟩:=h
     exact ih j hj ⟨by omega,hj2⟩
    ·refine⟨k,hk.1,hk.2,fun j hj=>?_⟩
     cases hl:listed.getD j true with
     | true=>rfl
     | false=>exact absurd ⟨j,hj,hl⟩ h
  have hgd:∀ j,j<ops.size->listed.getD j false=listed.getD j true:=by
   intro j hj
   simp[Array.getD_eq_getD_getElem?,Array.getElem?_eq_getElem (show j<listed.size by rw[hs];exact hj)]
  have hne:((List.range ops.size).filter fun i=>!listed.getD i true && ((ops[i]?).map (·.after.all fun e=>!Region.binds .any e || listed.getD e.on false)).getD false)≠[]:=by
   obtain⟨i,h1,h2,h3⟩:=hleast
   have:i∈(List.range ops.size).filter fun i=>!listed.getD i true && ((ops[i]?).map (·.after.all fun e=>!Region.binds .any e || listed.getD e.on false)).getD false:=by
    refine(hready i).2 ⟨h1,h2,fun p hp=>?_⟩
    have:=List.all_eq_true.1 (List.all_eq_true.1 hasc i (List.mem_range.2 h1)) p hp
    simp only[decide_eq_true_eq]at this
    rw[hgd p (by omega)]
    exact h3 p this
   intro hnil
   rw[hnil]at this
   simp at this
  generalize hrs:((List.range ops.size).filter fun i=>!listed.getD i true && ((ops[i]?).map (·.after.all fun e=>!Region.binds .any e || listed.getD e.on false)).getD false)=rs at *
  have hlt:t % rs.length<rs.length:=Nat.mod_lt _ (by cases rs with | nil=>exact absurd rfl hne | cons x xs=>simp)
  rw[List.getElem?_eq_getElem hlt]
  simp only
  rw[go_acc,List.reverse_singleton,List.singleton_append]
  obtain⟨h1,h2,h3⟩:=(hready _).1 (List.getElem_mem hlt)
  generalize rs[t % rs.length]=i at *
  have hset:∀ j,(listed.setIfInBounds i true).getD j true=if j=i then true else listed.getD j true:=by
   intro j
   simp only[Array.getD_eq_getD_getElem?,Array.getElem?_setIfInBounds]
   by_cases e:i=j
   ·subst e;simp[hs,h1]
   ·simp[e,Ne.symm e]
  refine .cons h1 (fun hm=>?_) (fun p hp=>?_) (lin_go hasc fuel _ _ (i :: done) (by simp[hs]) (fun j hj=>?_) ?_)
  ·rw[(hd i h1).2 hm]at h2;simp at h2
  ·have hpl:p<i:=by simpa using List.all_eq_true.1 (List.all_eq_true.1 hasc i (List.mem_range.2 h1)) p hp
   refine(hd p (by omega)).1 ?_
   rw[<-hgd p (by omega)]
   exact h3 p hp
  ·rw[hset]
   by_cases e:j=i
   ·simp[e]
   ·rw[if_neg e]
    simp only[List.mem_cons,e,false_or]
    exact hd j hj
  ·have:=Ze5 (p:=fun j=>!listed.getD j true) (q:=fun j=>!(listed.setIfInBounds i true).getD j true) (i:=i) List.nodup_range (List.mem_range.2 h1) (by simp[h2]) (fun j hj=>by simp only[hset,if_neg hj]) (by simp[hset])
   omega
theorem Ze3 {ops:Array Oper}(hasc:ascB ops=true)(t:Nat):Lin ops.size (Zda ops) [] (Region.schedule true ops t):=by
 simp only[Region.schedule,Bool.true_or,if_true,Region.linearise]
 refine lin_go hasc _ _ _ _ (by simp) (fun i hi=>?_) ?_
 ·simp[hi]
 ·have:((List.range ops.size).filter fun i=>!(Array.replicate ops.size false).getD i true)=List.range ops.size:=by
   refine List.filter_eq_self.2 fun i hi=>?_
   have:=List.mem_range.1 hi
   simp[this]
  rw[this,List.length_range]
def Zmk (ps:List Nat)(ms:List Nat):Nat:=ps.foldl (fun s p=>s ||| 2 ^ p ||| ms.getD p 0) 0
def masks (ops:Array Oper):Nat->List Nat
 | 0=>[]
 | n+1=>masks ops n++[Zmk (Zda ops n) (masks ops n)]
theorem ZbS (ops:Array Oper):∀ n,(masks ops n).length=n
 | 0=>rfl
 | n+1=>by simp[masks,ZbS ops n]
theorem Zf1 (ops:Array Oper):∀ n i,i<n->(masks ops n).getD i 0=Zmk (Zda ops i) (masks ops i)
 | 0,i,h=>by omega
 | n+1,i,h=>by
  simp only[masks,List.getD_eq_getElem?_getD]
  by_cases e:i=n
  ·subst e
   rw[List.getElem?_append_right (by rw[ZbS];exact Nat.le_refl _),ZbS]
   simp
  ·rw[List.getElem?_append_left (by rw[ZbS];omega)]
   have:=Zf1 ops n i (by omega)
   rw[List.getD_eq_getElem?_getD]at this
   exact this
theorem ZgZ:∀ (ps:List Nat) (ms:List Nat) (s e:Nat),(ps.foldl (fun s p=>s ||| 2 ^ p ||| ms.getD p 0) s).testBit e=true->s.testBit e=true∨e∈ps∨∃ p∈ps,(ms.getD p 0).testBit e=true
 | [],ms,s,e,h=>.inl h
 | p :: ps,ms,s,e,h=>by
  simp only[List.foldl_cons]at h
  rcases ZgZ ps ms _ e h with h | h | ⟨q,hq,h⟩
  ·rw[Nat.testBit_or,Nat.testBit_or,Bool.or_eq_true,Bool.or_eq_true]at h
   rcases h with (h | h) | h
   ·exact .inl h
   ·refine .inr (.inl ?_)
    rw[Nat.testBit_two_pow]at h
    simp at h
    simp[h]
   ·exact .inr (.inr ⟨p,by simp,h⟩)
  ·exact .inr (.inl (by simp[h]))
  ·exact .inr (.inr ⟨q,by simp[hq],h⟩)
theorem Zji {ops:Array Oper}(hasc:ascB ops=true){done:List Nat}(hcl:∀ i∈done,∀ p∈Zda ops i,p∈done):∀ (x e:Nat),(Zmk (Zda ops x) (masks ops x)).testBit e=true->(∀ p∈Zda ops x,p∈done)->e∈done:=by
 intro x
 induction x using Nat.strongRecOn with
 | _ x ih=>
  intro e h hp
  rcases ZgZ _ _ _ e h with h | h | ⟨p,hpm,h⟩
  ·simp at h
  ·exact hp e h
  ·have hlt:p<x:=by
    rcases Nat.lt_or_ge x ops.size with hx | hx
    ·simpa using List.all_eq_true.1 (List.all_eq_true.1 hasc x (List.mem_range.2 hx)) p hpm
    ·unfold Zda at hpm
     rw[Array.getElem?_eq_none hx]at hpm
     simp at hpm
   rw[Zf1 ops x p hlt]at h
   exact ih p hlt e h (hcl p (hp p hpm))
def preE (pre:Nat->List Nat)(a b:Nat)(x:Nat):List Nat:=if Nat.beq x b then a :: pre x else pre x
def waitE (W:Nat->Nat->Bool)(a b:Nat)(x e:Nat):Bool:=W x e || ((Nat.beq x b || W x b) && (Nat.beq e a || W a e))
theorem ZfR {pre:Nat->List Nat}{a b:Nat}:preE pre a b b=a :: pre b:=by
 have:Nat.beq b b=true:=Nat.beq_refl b
 simp[preE,this]
theorem Zcy {pre:Nat->List Nat}{a b x:Nat}(h:x≠b):preE pre a b x=pre x:=by
 have:Nat.beq x b=false:=by
  cases hb:Nat.beq x b with
  | false=>rfl
  | true=>exact absurd (Nat.eq_of_beq_eq_true hb) h
 simp[preE,this]
theorem ZjZ {pre:Nat->List Nat}{a b x p:Nat}(h:p∈pre x):p∈preE pre a b x:=by
 by_cases e:x=b
 ·subst e;rw[ZfR];exact List.mem_cons_of_mem _ h
 ·rw[Zcy e];exact h
theorem ZjI {pre:Nat->List Nat}{W:Nat->Nat->Bool}{a b:Nat}(hW:∀ (x e:Nat) (done:List Nat),(∀ i∈done,∀ p∈pre i,p∈done)->W x e=true->(∀ p∈pre x,p∈done)->e∈done) :
  ∀ (x e:Nat) (done:List Nat),(∀ i∈done,∀ p∈preE pre a b i,p∈done)->waitE W a b x e=true->(∀ p∈preE pre a b x,p∈done)->e∈done:=by
 intro x e done hcl hw hp
 have hcl':∀ i∈done,∀ p∈pre i,p∈done:=fun i hi p hpm=>hcl i hi p (ZjZ hpm)
 have hp':∀ p∈pre x,p∈done:=fun p hpm=>hp p (ZjZ hpm)
 simp only[waitE,Bool.or_eq_true,Bool.and_eq_true]at hw
 rcases hw with hw | ⟨hx,he⟩
 ·exact hW x e done hcl' hw hp'
 ·have ha:a∈done:=by
   rcases hx with hx | hx
   ·have:x=b:=Nat.eq_of_beq_eq_true hx
    subst this
    exact hp a (by rw[ZfR];simp)
   ·have hb:=hW x b done hcl' hx hp'
    exact hcl b hb a (by rw[ZfR];simp)
  rcases he with he | he
  ·rw[Nat.eq_of_beq_eq_true he];exact ha
  ·exact hW a e done hcl' he (hcl' a ha)
theorem Lin.edge_done {n:Nat}{pre:Nat->List Nat}{a b:Nat}{done l:List Nat}(h:Lin n pre done l)(ha:a∈done):Lin n (preE pre a b) done l:=by
 induction h with
 | nil h=>exact .nil h
 | cons hi hd hp _ ih=>
  refine .cons hi hd (fun p hpm=>?_) (ih (List.mem_cons_of_mem _ ha))
  unfold preE at hpm
  split at hpm
  ·rcases List.mem_cons.1 hpm with rfl | hpm
   ·exact ha
   ·exact hp p hpm
  ·exact hp p hpm
theorem Lin.edge {n:Nat}{pre:Nat->List Nat}{a b:Nat}(hne:a≠b)(han:a<n){done l:List Nat}(h:Lin n pre done l)(ha:a ∉ done)(hb:b ∉ done):Lin n (preE pre a b) done l∨Lin n (preE pre b a) done l:=by
 induction h with
 | nil h=>exact absurd (h a han) ha
 | @cons done l i hi hd hp hl ih=>
  by_cases e1:i=a
  ·subst e1
   exact .inl (.cons hi hd (fun p hpm=>hp p (by rw[Zcy hne]at hpm;exact hpm)) (hl.edge_done (by simp)))
  ·by_cases e2:i=b
   ·subst e2
    exact .inr (.cons hi hd (fun p hpm=>hp p (by rw[Zcy (Ne.symm hne)]at hpm;exact hpm)) (hl.edge_done (by simp)))
   ·refine(ih (by simp[Ne.symm e1,ha]) (by simp[Ne.symm e2,hb])).imp (fun h=>?_) (fun h=>?_)
    ·exact .cons hi hd (fun p hpm=>hp p (by rw[Zcy e2]at hpm;exact hpm)) h
    ·exact .cons hi hd (fun p hpm=>hp p (by rw[Zcy e1]at hpm;exact hpm)) h
def linB (n:Nat)(pre:Nat->List Nat):List Nat->List Nat->Bool
 | done,[]=>(List.range n).all fun i=>done.contains i
 | done,i :: l=>decide (i<n) && !(done.contains i) && ((pre i).all fun p=>done.contains p) && linB n pre (i :: done) l
theorem Zkk {n:Nat}{pre:Nat->List Nat}:∀ {l done:List Nat},linB n pre done l=true->Lin n pre done l
 | [],done,h=>.nil fun i hi=>by
  simp only[linB,List.all_eq_true,List.contains_eq_mem,decide_eq_true_eq]at h
  exact h i (List.mem_range.2 hi)
 | i :: l,done,h=>by
  simp only[linB,Bool.and_eq_true,decide_eq_true_eq,Bool.not_eq_true',List.contains_eq_mem,decide_eq_false_iff_not,List.all_eq_true]at h
  exact .cons h.1.1.1 h.1.1.2 (fun p hp=>h.1.2 p hp) (Zkk h.2)
def pickNext (pre:Nat->List Nat)(isF isN:Nat->Bool)(W:Nat->Nat->Bool)(done rest:List Nat):Option Nat:=
 let ready:=rest.filter fun i=>(pre i).all fun p=>done.contains p
 match ready.find? isF with
 | some i=>some i
 | none=>match ready.find? fun i=>!(isN i) with
  | some i=>some i
  | none=>match rest.find? fun i=>!(isF i) && !(isN i) with
   | some e=>match ready.find? fun i=>W e i with
    | some i=>some i
    | none=>ready.head?
   | none=>ready.head?
def canon (pre:Nat->List Nat)(isF isN:Nat->Bool)(W:Nat->Nat->Bool):Nat->List Nat->List Nat->List Nat
 | 0,_,_=>[]
 | k+1,done,rest=>match pickNext pre isF isN W done rest with
  | some i=>i :: canon pre isF isN W k (i :: done) (rest.erase i)
  | none=>[]
def flags (X:Nat->NI)(W:Nat->Nat->Bool):List Nat->List Nat->List (Nat×Bool)
 | _,[]=>[]
 | before,i :: l=>(if (X i).op.cls == 1 && (before.any fun c=>(X c).op.cls == 0 && !(W i c)) then [(i,before.any fun c=>(X c).op.cls == 0 && !(W i c) && (X c).op.rdH)] else [])++flags X W (i :: before) l
def Zj1 (x:NI):NI:=match x.op with
 | .buildS _ _ z ps=>⟨none,none,.build z ps⟩
 | _=>⟨none,none,.mov (.const undef)⟩
def ZiP (X:Nat->NI)(fl:Nat->Option Bool)(W:Nat->Nat->Bool):List Nat->List (NI×Option Bool)
 | []=>[]
 | i :: l=>(if (X i).op.cls == 0 then [] else (l.filter fun x=>Ze4 (X x) && !(W x i)).map fun x=>(Zj1 (X x),none))++(X i,fl i) :: ZiP X fl W l
end Go.LL
end
