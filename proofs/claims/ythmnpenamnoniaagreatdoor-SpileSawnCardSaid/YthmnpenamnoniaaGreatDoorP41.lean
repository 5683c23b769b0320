import Derived.Test.YthmnpenamnoniaaGreatDoorP22
import Derived.Test.YthmnpenamnoniaaGreatDoorP40
set_option linter.all false
section
open Go Go.LL
namespace Go.Proofs
theorem qLuJ0 {G:Prop} (h:G:=by
  refine wkT ?_
  refine ZhJ (α:=N4) (m:=putM m (Zas b x) (getM m (Zas b x))) (a:=Zas b x) (kv:=numV) (w:=getM m (Zas b x)+1) rfl (by rw[(Zjn m (Zas b x) _).1];rfl) rfl (Hp.ins_same _ _ _) (by rw[(Zjn m (Zas b x) _).1];exact(Zjn m (Zas b x) _).2) (hs _) ?_
  rw[Zbb,put_put]
  refine wkT ?_
  exact⟨⟨j+1,by omega⟩,slt (by omega),⟨Za6 i9 hrm,by rw[Hp.ins_other _ _ h9m];exact m99,by rw[hsn];exact Hp.ins_same _ _ _⟩,⟨rfl,rfl,rfl,rfl,rfl,rfl,rfl,rfl,rfl,rfl,rfl,rfl,trivial⟩,trivial,rfl⟩):G:=h
theorem t141:tiOf Tryz.prog 186=some (2,some (.agg #[.int .i32 0,.int .u32 0]),8):=by kernel_rfl
theorem t148:tiOf Tryz.prog 193=some (2,some (.agg #[.int .u64 0,.int .u32 0]),16):=by kernel_rfl
theorem t150:tiOf Tryz.prog 195=some (1,some (.map none),8):=by kernel_rfl
noncomputable abbrev PP:Prg:=prP Tryz.prog
noncomputable instance:Tz PP:=⟨rfl⟩
noncomputable instance:Loud PP:=⟨fun _=>rfl⟩
instance  (c:Cx):Tz (pm c):=⟨rfl⟩
instance  (c:Cx):Loud (pm c):=⟨fun _=>rfl⟩
theorem get_le {a:N4}:∀ {m:List (N4×Int)},(∀ p∈m,0<=p.2)->getM m a<=sumM (fun _=>true) m
 | [],_=>Int.le_refl _
 | (k,v) :: r,h=>by
  have h1:=h (k,v) (List.mem_cons_self ..)
  have h2:=get_le (a:=a) fun p hp=>h p (List.mem_cons_of_mem _ hp)
  have h3:=ZdA (a:=a) fun p hp=>h p (List.mem_cons_of_mem (k,v) hp)
  rw[getM,sumM,if_pos rfl]
  simp only at h1
  split<;>omega
theorem most_all (b:Bk):∀ L:List Boat,sumM (fun _=>true) (ZdD b L)<=L.length:=by
 refine Zfk (Int.le_refl _) fun L x ih=>?_
 rw[Zdy,Zdx,List.length_append,List.length_singleton]
 split
 ·rw[Zi5,if_pos rfl];omega
 ·omega
def IncR (H H':Hp):Prop:=∀ b o p,H b=some (o,p)->∃ p',H' b=some (o,p')∧(p'=true->p=true)
theorem IncR.trans {H H' H'':Hp}(h:IncR H H')(h':IncR H' H''):IncR H H'':=fun b o p hb=>by
 obtain⟨p1,h1,h2⟩:=h b o p hb
 obtain⟨p2,h3,h4⟩:=h' b o p1 h1
 exact⟨p2,h3,fun e=>h2 (h4 e)⟩
theorem Inc.incR {H H':Hp}(h:Inc H H'):IncR H H':=fun b o p hb=>⟨p,h _ _ hb,id⟩
theorem IncR.refl (H:Hp):IncR H H:=(Inc.refl H).incR
theorem _root_.Go.LL.CellsAt.incR {H H':Hp}{a:Addr}{cs:List Value}(h:CellsAt H a cs)(hi:IncR H H'):CellsAt H' a cs:=by
 obtain⟨h1,o,p,h2,h3⟩:=h
 obtain⟨p',h4,_⟩:=hi _ _ _ h2
 exact⟨h1,o,p',h4,h3⟩
theorem SlAt.incR {α:Type}[Enc α]{H H':Hp}{v:Value}{l:List α}(h:SlAt H v l)(hs:IncR H H'):SlAt H' v l:=by
 obtain⟨A,c,h1,h2⟩:=h
 refine⟨A,c,h1,fun hn=>?_⟩
 obtain⟨a,h3,h4⟩:=h2 hn
 exact⟨a,h3,h4.incR hs⟩
theorem BkAt.incR {H H':Hp}{v:Value}{b:Bk}(h:BkAt H v b)(hs:IncR H H'):BkAt H' v b:=by
 obtain⟨pv,cv,h1,h2,h3⟩:=h
 exact⟨pv,cv,h1,h2.incR hs,h3.incR hs⟩
def roH (H:Hp)(g:List Nat):Hp:=⟨fun b=>(H b).map fun x=>(x.1,false),g⟩
theorem ro_at (H:Hp)(g:List Nat)(b:Nat):roH H g b=(H b).map fun x=>(x.1,false):=rfl
theorem ZlR (H:Hp)(g:List Nat):IncR H (roH H g):=fun b o p hb=>⟨false,by rw[ro_at,hb];rfl,by simp⟩
theorem ZlQ (H:Hp)(g:List Nat):(roH H g).Less H:=fun b o pm hb=>by
 rw[ro_at]at hb
 obtain⟨x,hx,he⟩:=Option.map_eq_some_iff.1 hb
 obtain⟨o',p'⟩:=x
 simp only[Prod.mk.injEq]at he
 obtain⟨rfl,rfl⟩:=he
 exact⟨p',hx,by simp⟩
theorem ro_dis (H:Hp)(g g':List Nat):(roH H g).Dis (roH H g'):=fun b x y hx hy=>by
 rw[ro_at]at hx hy
 rw[hx]at hy
 obtain rfl:=Option.some.inj hy
 obtain⟨z,hz,rfl⟩:=Option.map_eq_some_iff.1 hx
 exact⟨rfl,rfl⟩
theorem ZdX (H:Hp)(g:List Nat):IncR H (H.tagged g):=IncR.refl H
theorem Zj0 {b:Bk}{rF base:Nat}{l:List Nat}{H:Hp}(h:ZkS b rF base l H):∀ x y,H x=some y->y.2=true:=by
 obtain⟨v,bb,p1,p2,p3,p4,_⟩:=h
 intro x y hy
 rcases p4 x (by rw[hy];simp) with rfl | e
 ·rw[p1]at hy;obtain rfl:=Option.some.inj hy;rfl
 ·obtain⟨_,⟨_,_,e3⟩ | ⟨r,cap,rest,e3,_,e4,_⟩⟩:=p2
  ·rw[e3]at e;simp at e
  ·rw[e3]at e
   obtain rfl:=Option.some.inj e
   rw[e4]at hy;obtain rfl:=Option.some.inj hy;rfl
section
set_option maxHeartbeats 4000000
set_option maxRecDepth 20000
theorem Most_okP {P:Prg}[Tz P][Loud P](hPP:P=PP){H:Hp}{bv:Value}{b:Bk}(hb:BkAt H bv b)(hg:Zbh H)(hl:b.pts.length<=1000000)(hl2:b.cks.length<=1000000) :
  LL.Zag P 39 #[bv] H fun v H'=>Inc H H'∧v=.tuple #[vi (if Zah b true=0 then (ZiA b).s else 0),vi (if Zah b true=0 then (ZiA b).k else 0),vi (Zah b true)]:=by
 have hs:=Loud.loud (P:=P)
 have hb0:=hb
 obtain⟨pv,cv,rfl,hp,hc⟩:=hb
 obtain⟨Ap,cp,rfl,hp'⟩:=id hp
 obtain⟨Ac,cc,rfl,hc'⟩:=id hc
 refine IsN.m (isn c35) (args:=[.agg #[vi b.op,vi b.sl,.slice Ap b.pts.length cp,.slice Ac b.cks.length cc]]) rfl ?_
 unfold n35
 refine wkT ?_
 refine Zab (vs:=[.agg #[vi b.op,vi b.sl,.slice Ap b.pts.length cp,.slice Ac b.cks.length cc],vf 65]) rfl (ZdO (there:=true) hb0 hg hl hl2 Zeu) ?_
 rintro v H1 ⟨hi1,hopen⟩
 have hz:(Zah b true≠0∧∃ o,v=.tuple #[o,vi (Zah b true)]∧o.cells.size=5∧(o.cells.toList.all Value.isOne)=true)∨(Zah b true=0∧∃ Aw cw bb,v=.tuple #[.agg #[vi b.op,vi b.sl,.slice Ap b.pts.length cp,.slice Ac b.cks.length cc,.slice Aw (Zae b).length cw],vi 0]∧Own H H1 117 (.slice Aw (Zae b).length cw) (Zae b) bb):=by
  rcases hopen with ⟨hz,rfl⟩ | ⟨hz,pv',cv',w,bb,e,rfl,ow⟩
  ·exact .inl ⟨hz,_,rfl,rfl,rfl⟩
  ·simp only[Value.agg.injEq,Array.mk.injEq,List.cons.injEq,and_true]at e
   obtain⟨_,_,rfl,rfl⟩:=e
   obtain⟨Aw,cw,rfl,_⟩:=id ow.sl
   exact .inr ⟨hz,Aw,cw,bb,rfl,ow⟩
 clear hopen
 rcases hz with ⟨hz,o,rfl,ho1,ho2⟩ | ⟨hz,Aw,cw,bb,rfl,ow⟩
 ·refine wkT ?_
  refine Zav (tif t112) (hs _) fun r5 hr5=>?_
  refine wkT ?_
  refine Zay (tif t112) rfl rfl (cs:=[vi 0,vi 0,.slice none 0 0,.slice none 0 0,.slice none 0 0]) (Hp.ins_same _ _ _) ho1 rfl ho2 (hs _) ?_
  rw[Zbb]
  have hi5:Inc H1 (H1.ins r5 (.cells o.cells 137)):=Zai hr5
  refine wkT ?_
  refine wiT (fun h1=>?_) (fun h1=>?_)
  ·refine wkT ?_
   exact⟨hi1.trans hi5,by rw[if_neg hz,if_neg hz];rfl⟩
  ·exact absurd h1 hz
 have val:=ZaR (Zip hz).1
 have hlen:=Zbp val
 refine wkT ?_
 refine Zav (tif t112) (hs _) fun r5 hr5=>?_
 refine wkT ?_
 refine Zay (v:=.agg #[vi b.op,vi b.sl,.slice Ap b.pts.length cp,.slice Ac b.cks.length cc,.slice Aw (Zae b).length cw]) (tif t112) rfl rfl (cs:=[vi 0,vi 0,.slice none 0 0,.slice none 0 0,.slice none 0 0]) (Hp.ins_same _ _ _) rfl rfl rfl (hs _) ?_
 rw[Zbb]
 have hi2:=Zai (o:=.cells (Value.agg #[vi b.op,vi b.sl,.slice Ap b.pts.length cp,.slice Ac b.cks.length cc,.slice Aw (Zae b).length cw]).cells 137) hr5
 have c5:CellsAt (H1.ins r5 (.cells (Value.agg #[vi b.op,vi b.sl,.slice Ap b.pts.length cp,.slice Ac b.cks.length cc,.slice Aw (Zae b).length cw]).cells 137)) ⟨r5,0,none⟩ [vi b.op,vi b.sl,.slice Ap b.pts.length cp,.slice Ac b.cks.length cc,.slice Aw (Zae b).length cw]:=Zar
 have hb2:BkAt (H1.ins r5 (.cells (Value.agg #[vi b.op,vi b.sl,.slice Ap b.pts.length cp,.slice Ac b.cks.length cc,.slice Aw (Zae b).length cw]).cells 137)) (.agg #[vi b.op,vi b.sl,.slice Ap b.pts.length cp,.slice Ac b.cks.length cc]) b:=(hb0.inc hi1).inc hi2
 have hw2:SlAt (H1.ins r5 (.cells (Value.agg #[vi b.op,vi b.sl,.slice Ap b.pts.length cp,.slice Ac b.cks.length cc,.slice Aw (Zae b).length cw]).cells 137)) (.slice Aw (Zae b).length cw) (Zae b):=ow.sl.inc hi2
 generalize H1.ins r5 (.cells (Value.agg #[vi b.op,vi b.sl,.slice Ap b.pts.length cp,.slice Ac b.cks.length cc,.slice Aw (Zae b).length cw]).cells 137)=H2 at *
 refine wkT ?_
 refine Zav (tif t141) (hs _) fun M hM=>?_
 have hi3:=Zai (o:=.cells (Value.agg #[.int .i32 0,.int .u32 0]).cells 186) hM
 have hM3:(H2.ins M (.cells (Value.agg #[.int .i32 0,.int .u32 0]).cells 186)) M=some (.cells #[.int .i32 (0:Nat),.int .u32 (0:Nat)] 186 (0,0),true):=Hp.ins_same _ _ _
 generalize H2.ins M (.cells (Value.agg #[.int .i32 0,.int .u32 0]).cells 186)=H3 at *
 refine wkT ?_
 refine Zav (tif t148) (hs _) fun W hW=>?_
 have hi4:=Zai (o:=.cells (Value.agg #[.int .u64 0,.int .u32 0]).cells 193) hW
 have hW4:(H3.ins W (.cells (Value.agg #[.int .u64 0,.int .u32 0]).cells 193)) W=some (.cells #[.int .u64 (0:Nat),.int .u32 (0:Nat)] 193 (0,0),true):=Hp.ins_same _ _ _
 have hMW:M≠W:=by rintro rfl;rw[hM3]at hW;simp at hW
 generalize H3.ins W (.cells (Value.agg #[.int .u64 0,.int .u32 0]).cells 193)=H4 at *
 refine wkT ?_
 refine Zav (tif t149) (hs _) fun rF hrF=>?_
 have hi5:=Zai (o:=.cells (Value.slice none 0 0).cells 194) hrF
 have hF5:(H4.ins rF (.cells (Value.slice none 0 0).cells 194)) rF=some (.cells #[.slice none 0 0] 194 (0,0),true):=Hp.ins_same _ _ _
 have hFM:rF≠M:=by rintro rfl;rw[hi4 _ _ hM3]at hrF;simp at hrF
 have hFW:rF≠W:=by rintro rfl;rw[hW4]at hrF;simp at hrF
 generalize H4.ins rF (.cells (Value.slice none 0 0).cells 194)=H5 at *
 have hi25:Inc H2 H5:=(hi3.trans hi4).trans hi5
 have hM2:H2 M=none:=hM
 have hW2:H2 W=none:=Za9 hi3 hW
 have hF2:H2 rF=none:=Za9 (hi3.trans hi4) hrF
 refine wkT ?_
 refine ZgU (α:=N4) (kv:=numV) (hs _) fun rm hrm=>?_
 have hi6:=Zai (o:=mapO numV ([]:List (N4×Int))) hrm
 refine wkT ?_
 refine Zav (tif t150) (hs _) fun r9 hr9=>?_
 have hi7:=Zai (o:=.cells (Value.map none).cells 195) hr9
 have h9m:r9≠rm:=by rintro rfl;rw[Hp.ins_same]at hr9;simp at hr9
 have h95:H5 r9=none:=Za9 hi6 hr9
 refine wkT ?_
 refine Zaw (tif t150) rfl rfl (Hp.ins_same _ _ _) rfl rfl (hs _) ?_
 rw[Zbb]
 have hst0:Inc H5 ((H5.ins rm (mapO numV ([]:List (N4×Int)))).ins r9 (.cells #[.map (some rm)] 195))∧((H5.ins rm (mapO numV ([]:List (N4×Int)))).ins r9 (.cells #[.map (some rm)] 195)) r9=some (.cells #[.map (some rm)] 195 (0,0),true)∧((H5.ins rm (mapO numV ([]:List (N4×Int)))).ins r9 (.cells #[.map (some rm)] 195)) rm=some (mapO numV (ZdD b ((Zae b).take 0)),true):=
  ⟨hi6.trans (Zai hr9),Hp.ins_same _ _ _,by rw[Hp.ins_other _ _ (Ne.symm h9m),Hp.ins_same];rfl⟩
 generalize (H5.ins rm (mapO numV ([]:List (N4×Int)))).ins r9 (.cells #[.map (some rm)] 195)=H7 at *
 obtain⟨g1,g2,g3⟩:=hst0
 refine wkT ?_
 refine Zaf (hs _) rfl (ZbA (j:=4) ((c5.inc hi25).inc g1) rfl) ?_
 refine wkT ?_
 refine ZaW (Zae b).length (fun j H'=>Inc H5 H'∧H' r9=some (.cells #[.map (some rm)] 195 (0,0),true)∧H' rm=some (mapO numV (ZdD b ((Zae b).take j)),true))
  (fun j=>[(1,vi 0),(2,vi 0),(3,vi 0),(4,vi 0),(5,pt r5),(6,pt M),(7,pt W),(8,pt rF),(9,pt r9),(24,.slice Aw (Zae b).length cw),(25,vi (Zae b).length),(26,vi j)])
  (fun j=>[]) ⟨g1,g2,g3⟩ ⟨rfl,rfl,rfl,rfl,rfl,rfl,rfl,rfl,rfl,rfl,rfl,rfl,trivial⟩ trivial ?_
 rintro j H8 hj ⟨i8,m9,mm⟩
 have c58:=(c5.inc hi25).inc i8
 refine wkT ?_
 refine wiT (fun h1=>?_) (fun h1=>?_)
 ·have hj':j<(Zae b).length:=by omega
  have hx:=ZcZ val _ (List.getElem_mem hj')
  have hsn:=Zdy b ((Zae b).take j) (Zae b)[j]
  rw[<-List.take_succ_eq_append_getElem hj',Zdx]at hsn
  have hmem:=Zki b ((Zae b).take j)
  refine wkT ?_
  refine ZaE ((hw2.inc hi25).inc i8) rfl rfl rfl (i:=j) hj' fun a ha=>?_
  refine wkT ?_
  refine Zao (hs _) rfl ha rfl ?_
  refine wkT ?_
  refine Zao (cs:=[vi b.op,vi b.sl,.slice Ap b.pts.length cp,.slice Ac b.cks.length cc]) (hs _) rfl (by rw[add_zero];exact ZbK (ds:=[_]) c58) rfl ?_
  refine wkT ?_
  refine Zab (vs:=[.agg #[vi b.op,vi b.sl,.slice Ap b.pts.length cp,.slice Ac b.cks.length cc],ZaH (Zae b)[j]]) rfl (ZmE ((hb2.inc hi25).inc i8) val.good.bk (Zdo hx) (by have:=val.n;omega) val.good.pts (Zko val hx) (hs _)) ?_
  rintro v H9 ⟨s9,rfl⟩
  have i9:=i8.trans s9.inc
  have m99:=s9.mem _ _ m9
  have mm9:=s9.mem _ _ mm
  have c59:=(c5.inc hi25).inc i9
  refine wkT ?_
  refine wiT (fun h2=>?_) (fun h2=>?_)
  ·rw[show ZgA b (Zae b)[j]=true from decide_eq_true h2,if_pos rfl]at hsn
   have hsum:=Zkh b
   have hgn:0<=getM (ZdD b ((Zae b).take j)) (Zas b (Zae b)[j]):=ZdA fun p hp=>(hmem p hp).2
   have hgle:getM (ZdD b ((Zae b).take j)) (Zas b (Zae b)[j])<=1000000:=by
    have h3:=get_le (a:=Zas b (Zae b)[j]) fun p hp=>(hmem p hp).2
    have h4:=most_all b ((Zae b).take j)
    rw[List.length_take]at h4
    omega
   generalize hq:(Zae b)[j]=x at *
   generalize hmq:ZdD b ((Zae b).take j)=m at *
   refine nc_two (hs _) ?_ ?_
   ·refine wkT ?_
    refine Zaf (hs _) rfl (Zan m99) ?_
    refine wkT ?_
    refine Zao (cs:=[vi b.op,vi b.sl,.slice Ap b.pts.length cp,.slice Ac b.cks.length cc]) (hs _) rfl (by rw[add_zero];exact ZbK (ds:=[_]) c59) rfl ?_
    refine wkT ?_
    refine Zab (vs:=[.agg #[vi b.op,vi b.sl,.slice Ap b.pts.length cp,.slice Ac b.cks.length cc],ZaH x]) rfl (Zdk ((hb2.inc hi25).inc i9) val.good.bk (Zdo hx) (hs _)) ?_
    rintro v _ ⟨rfl,rfl⟩
    refine wkT ?_
    refine Zd6 (α:=N4) (m:=m) (a:=Zas b x) (kv:=numV) (und u150) keyN4 (tif t3) rfl rfl mm9 (hs _) ?_
    refine wkT ?_
    refine ZfX (α:=N4) (m:=m) (a:=Zas b x) (kv:=numV) (und u150) keyN4 (tif t3) rfl rfl mm9 (hs _) ?_
    refine kp_l hs ?_
    exact qLuJ0
   ·refine wkT ?_
    refine Zaf (hs _) rfl (Zan m99) ?_
    refine wkT ?_
    refine Zao (cs:=[vi b.op,vi b.sl,.slice Ap b.pts.length cp,.slice Ac b.cks.length cc]) (hs _) rfl (by rw[add_zero];exact ZbK (ds:=[_]) c59) rfl ?_
    refine wkT ?_
    refine Zab (vs:=[.agg #[vi b.op,vi b.sl,.slice Ap b.pts.length cp,.slice Ac b.cks.length cc],ZaH x]) rfl (Zdk ((hb2.inc hi25).inc i9) val.good.bk (Zdo hx) (hs _)) ?_
    rintro v _ ⟨rfl,rfl⟩
    refine wkT ?_
    refine ZfX (α:=N4) (m:=m) (a:=Zas b x) (kv:=numV) (und u150) keyN4 (tif t3) rfl rfl mm9 (hs _) ?_
    refine wkT ?_
    refine Zd6 (α:=N4) (m:=putM m (Zas b x) (getM m (Zas b x))) (a:=Zas b x) (kv:=numV) (und u150) keyN4 (tif t3) rfl rfl (Hp.ins_same _ _ _) (hs _) ?_
    rw[Zjr,if_pos rfl]
    exact qLuJ0
  ·rw[show ZgA b (Zae b)[j]=false from decide_eq_false h2]at hsn
   simp only[Bool.false_eq_true,if_false]at hsn
   refine wkT ?_
   exact⟨⟨j+1,by omega⟩,slt (by omega),⟨i9,m99,by rw[hsn];exact mm9⟩,⟨rfl,rfl,rfl,rfl,rfl,rfl,rfl,rfl,rfl,rfl,rfl,rfl,trivial⟩,trivial,rfl⟩
 ·have:j=(Zae b).length:=by omega
  subst this
  rw[List.take_length]at mm
  refine wbT ?_
  refine nc_esc ?_
  subst hPP
  let Hm:Hp:=⟨fun x=>if x=M∨x=W∨x=rF then none else H8 x,[]⟩
  let Hl:Hp:=⟨fun x=>if x=rF then H8 x else none,[]⟩
  have hHm:∀ x,Hm x=if x=M∨x=W∨x=rF then none else H8 x:=fun x=>rfl
  have hHl:∀ x,Hl x=if x=rF then H8 x else none:=fun x=>rfl
  have hM8:H8 M=some (.cells #[.int .i32 (0:Nat),.int .u32 (0:Nat)] 186 (0,0),true):=(((hi4.trans hi5).trans i8) _ _ hM3)
  have hW8:H8 W=some (.cells #[.int .u64 (0:Nat),.int .u32 (0:Nat)] 193 (0,0),true):=(hi5.trans i8) _ _ hW4
  have hF8:H8 rF=some (.cells #[.slice none 0 0] 194 (0,0),true):=i8 _ _ hF5
  have hS:Zlq H8 M W 186 193 Hm Hl:=by
   refine⟨hMW,hM8,hW8,fun x y hx=>?_,fun x y hx=>?_⟩
   ·rw[hHm]at hx
    by_cases e:x=M∨x=W∨x=rF
    ·rw[if_pos e]at hx;simp at hx
    ·rw[if_neg e]at hx
     exact⟨hx,fun h=>e (.inl h),fun h=>e (.inr (.inl h)),by rw[hHl,if_neg fun h=>e (.inr (.inr h))]⟩
   ·rw[hHl]at hx
    by_cases e:x=rF
    ·subst e
     rw[if_pos rfl]at hx
     exact⟨hx,hFM,hFW⟩
    ·rw[if_neg e]at hx;simp at hx
  have hsm:∀ x y,H2 x=some y->Hm x=some y:=fun x y h=>by
   have h8:=(hi25.trans i8) _ _ h
   rw[hHm,if_neg]
   ·exact h8
   ·rintro(rfl | rfl | rfl)
    ·rw[hM2]at h;simp at h
    ·rw[hW2]at h;simp at h
    ·rw[hF2]at h;simp at h
  have hi2m:Inc H2 Hm:=hsm
  have h9m':Hm r9=some (.cells #[.map (some rm)] 195 (0,0),true):=by
   rw[hHm,if_neg]
   ·exact m9
   ·rintro(e | e | e)
    ·rw[e,hi5 _ _ (hi4 _ _ hM3)]at h95;simp at h95
    ·rw[e,hi5 _ _ hW4]at h95;simp at h95
    ·rw[e,hF5]at h95;simp at h95
  have hrm':Hm rm=some (mapO numV (ZdD b (Zae b)),true):=by
   rw[hHm,if_neg]
   ·exact mm
   ·rintro(e | e | e)
    ·rw[e,hi5 _ _ (hi4 _ _ hM3)]at hrm;simp at hrm
    ·rw[e,hi5 _ _ hW4]at hrm;simp at hrm
    ·rw[e,hF5]at hrm;simp at hrm
  have hmm':∀ x y,Hm x=some y->H8 x=some y:=fun x y h=>(hS.own x y h).1
  refine ZmH (K:=1195) (need:=fun base j=>decide (0<cntF b (((j-base:Nat):Int)-597))) (PI:=fun base=>ZkS b rF base) hS (fun base=>⟨.slice none 0 0,none,by rw[hHl,if_pos rfl];exact hF8,.nil _ _ _,by simp,fun x hx=>?_,List.nodup_nil,fun j hj=>by simp at hj⟩)
   (fun base n0 old=>⟨hMW,fun l H=>Zj0,by show 1195<=100000000;decide,fun l H g h=>h⟩) fun base n0 old hbase=>?_
  ·by_cases e:x=rF
   ·exact .inl e
   ·rw[hHl,if_neg e]at hx;exact absurd rfl hx
  clear_value Hm Hl
  have ok:Cx.Ok { M:=M,W:=W,base:=base,n0:=n0,old:=old,tM:=186,tW:=193,K:=1195,need:=fun j=>decide (0<cntF b (((j-base:Nat):Int)-597)),PI:=ZkS b rF base }:=⟨hMW,fun l H=>Zj0,by show 1195<=100000000;decide,fun l H g h=>h⟩
  obtain⟨c,hcdef⟩:∃ c:Cx,c={ M:=M,W:=W,base:=base,n0:=n0,old:=old,tM:=186,tW:=193,K:=1195,need:=fun j=>decide (0<cntF b (((j-base:Nat):Int)-597)),PI:=ZkS b rF base }:=⟨_,rfl⟩
  rw[<-hcdef]at ok ⊢
  have cM:c.M=M:=by rw[hcdef]
  have cW:c.W=W:=by rw[hcdef]
  have cB:c.base=base:=by rw[hcdef]
  have cK:c.K=1195:=by rw[hcdef]
  have cN:∀ j,c.need j=decide (0<cntF b (((j-base:Nat):Int)-597)):=fun j=>by rw[hcdef]
  have cP:c.PI=ZkS b rF c.base:=by rw[hcdef]
  clear hcdef
  obtain⟨P',hP'⟩:∃ P',P'=pm c:=⟨_,rfl⟩
  have iT:Tz P':=hP' ▸ inferInstance
  have iL:Loud P':=hP' ▸ inferInstance
  have hs':∀ g,P'.still g=false:=Loud.loud
  have hadd:∀ {n:Nat} {H:Hp},H.gh=[30,n]->LL.Zag P' 102 #[pt W,vi 1] H fun _ H'=>H'=H.tagged [33,n]:=fun {n H} h=>by rw[hP',<-cW];exact add_main ok h
  have hwait:∀ {H:Hp},H.gh=[30,1195]->LL.Zag P' 108 #[pt W] H fun _ H'=>GotAll c H H':=fun {H} h=>by rw[hP',<-cW];exact wait_ok ok (by rw[cK];exact h)
  have hgo:∀ {wk nr:Bool} {n r12:Nat} {H:Hp},H.gh=[30,n]->n<1195->IncR Hm H->H r12=some (.cells #[vi n] 3 (0,0),true)->ShOp P' (pure (.spawn { target:=.fn (.func 103) #[pt W,pt r12,pt r9,pt r5,pt M,pt rF],args:=#[]++([]:List Value).toArray })) wk nr (H.tagged [33,n]) fun v K=>v=undef∧K=roH (H.tagged [33,n]) [30,n+1]:=by
   intro wk nr n r12 H hgh hn hi h12
   rw[hP']
   have hir:IncR Hm (roH (H.tagged [33,n]) [1]):=(hi.trans (ZdX H _)).trans (ZlR _ _)
   refine main_go ok ⟨_,_,rfl⟩ (fun w=>rfl) rfl (by rw[cK];exact hn) (ZlQ _ _) (ZlQ _ _) (ro_dis _ _ _) rfl rfl (ZkQ Tryz.func103 rfl rfl ?_)
   obtain⟨pm',hpm,_⟩:=hir _ _ _ hrm'
   have hneed:c.need (c.base+n)=decide (0<cntF b ((n:Int)-597)):=by rw[cN,cB,show base+n-base=n by omega]
   have:=ZlB (pv:=.slice Ap b.pts.length cp) (cv:=.slice Ac b.cks.length cc) (w:=.slice Aw (Zae b).length cw) ok val hn rfl hneed cP (H:=roH (H.tagged [33,n]) [1]) rfl (r12:=r12) ((Zan h12).incR ((ZdX H _).trans (ZlR _ _))) ((Zan h9m').incR hir) hpm ((c5.inc hi2m).incR hir) ((hb2.inc hi2m).incR hir)
   rw[cM,cW]at this
   exact this
  have hfin:∀ {H' H2':Hp},IncR Hm H'->Upg H8 H' H2'->Inc H H2':=by
   intro H' H2' hi hu x y hx
   have hx2:H2 x=some y:=hi2 _ _ (hi1 _ _ hx)
   have hxm:=hsm _ _ hx2
   have hx8:=hmm' _ _ hxm
   obtain⟨o,p⟩:=y
   obtain⟨p',h1,h2⟩:=hi _ _ _ hxm
   cases hz2:H2' x with
   | none=>rw[(hu.dom x).1 hz2]at h1;simp at h1
   | some z=>
    obtain⟨k1,k2,k3,k4⟩:=hu.val x z _ hz2 h1
    obtain⟨o',p''⟩:=z
    simp only at k1 k2 k3 k4
    subst k1
    congr 2
    cases p with
    | true=>exact k3 ⟨_,hx8⟩
    | false=>
     cases p'' with
     | false=>rfl
     | true=>exact(h2 (k4 _ hx8 rfl)).symm
  rw[show (team Tryz.prog c).prgM=P' from hP'.symm]
  clear hP'
  refine wkT ?_
  refine ZaW 1195 (fun j H'=>H'.gh=[30,j]∧IncR Hm H') (fun j=>[(1,vi 0),(2,vi 0),(3,vi 0),(4,vi 0),(5,pt r5),(6,pt M),(7,pt W),(8,pt rF),(9,pt r9),(44,vi j)]) (fun _=>[]) ⟨rfl,ZdX Hm _⟩ ⟨rfl,rfl,rfl,rfl,rfl,rfl,rfl,rfl,rfl,rfl,trivial⟩ trivial ?_
  rintro n H9 hn ⟨hg9,i9⟩
  refine wkT ?_
  refine wiT (fun h1=>?_) (fun h1=>?_)
  ·have hn':n<1195:=by omega
   refine wkT ?_
   refine Zav (tif t3) (hs' _) fun r12 hr12=>?_
   refine wkT ?_
   refine Zaw (tif t3) rfl rfl (Hp.ins_same _ _ _) rfl rfl (hs' _) ?_
   rw[Zbb]
   have i10:IncR Hm (H9.ins r12 (.cells #[vi n] 3)):=i9.trans (Zai hr12).incR
   have c12:(H9.ins r12 (.cells #[vi n] 3)) r12=some (.cells #[vi n] 3 (0,0),true):=Hp.ins_same _ _ _
   have hg10:(H9.ins r12 (.cells #[vi n] 3)).gh=[30,n]:=hg9
   generalize H9.ins r12 (.cells #[vi n] 3)=H10 at *
   refine wkT ?_
   refine Zab (vs:=[pt W,vi 1]) rfl (hadd hg10) ?_
   rintro v _ rfl
   refine wkT ?_
   refine Zci rfl rfl ?_
   refine wkT ?_
   refine om_go (f:=103) (first:=#[]) (vs:=[]) rfl rfl (hgo hg10 hn' i10 c12) ?_
   rintro v _ ⟨rfl,rfl⟩
   refine wkT ?_
   exact⟨⟨n+1,by omega⟩,slt (by omega),⟨rfl,(i10.trans (ZdX H10 _)).trans (ZlR _ _)⟩,⟨rfl,rfl,rfl,rfl,rfl,rfl,rfl,rfl,rfl,rfl,trivial⟩,trivial,rfl⟩
  ·have:n=1195:=by omega
   subst this
   refine wkT ?_
   refine Zab (vs:=[pt W]) rfl (hwait hg9) ?_
   rintro v _ ⟨l,Hl2,hpi,hall,hin,hnd,hlg,hcomp,rfl⟩
   rw[cP]at hpi
   obtain⟨fv,bb2,p1,p2,p3,p4,p5,p6⟩:=hpi
   have hJ:∀ x y,Hl2 x=some y->((H9.tagged [40]).join Hl2) x=some y:=fun x y h=>Hp.join_right hcomp h
   have hgh:((H9.tagged [40]).join Hl2).gh=[40]:=by rw[Hp.join_gh,hlg];rfl
   have i11:IncR Hm ((H9.tagged [40]).join Hl2):=(i9.trans (ZdX H9 [40])).trans (ZaX _ _).incR
   have o11:OwnS ((H9.tagged [40]).join Hl2) 198 2 fv (encs (l.map (Zbr b c.base))) (l.map (Zbr b c.base)).length bb2:=by
    rw[List.length_map]
    exact p2.sub fun x y _ h=>hJ x y h
   have f11:=hJ _ _ p1
   generalize (H9.tagged [40]).join Hl2=H11 at *
   have hL:Zd3 (l.map (Zbr b c.base))=ZiA b:=by
    refine most_any (fun j h1 h2 h3=>?_) fun j hj=>?_
    ·refine hall j h1 (by rw[cK];exact h2) ?_
     rw[cN,<-cB];exact decide_eq_true h3
    ·obtain⟨h1,h2,h3⟩:=hin j hj
     rw[cK]at h2
     rw[cN,<-cB]at h3
     exact⟨h1,h2,of_decide_eq_true h3⟩
   have hll:l.length<=1195:=Zfq _ _ l p5 p6
   have hlm:(l.map (Zbr b c.base)).length=l.length:=List.length_map _
   generalize l.map (Zbr b c.base)=L at *
   obtain⟨A,c',hfv,_⟩:=o11.cells
   subst hfv
   refine wkT ?_
   refine Zaf (hs' _) rfl (Zan f11) ?_
   refine wkT ?_
   refine wiT (fun h2=>?_) (fun h2=>?_)
   ·have:L=[]:=List.eq_nil_of_length_eq_zero (by omega)
    subst this
    refine wkT ?_
    refine⟨hgh,fun H2' hu=>?_⟩
    refine wkT ?_
    refine⟨hfin i11 hu,?_⟩
    rw[if_pos hz,if_pos hz,hz,<-hL];rfl
   ·have hpos:1<=L.length:=by omega
    obtain⟨A2,c2,f1,f2⟩:=Zew o11 hpos
    have s11:SlAt H11 (.slice A L.length c') L:=⟨A,c',rfl,fun hn=>by
     obtain⟨A3,c3,q1,q2⟩:=o11.cells
     obtain⟨a,q3,q4⟩:=q2 (by omega)
     simp only[Value.slice.injEq]at q1
     obtain⟨rfl,_,rfl⟩:=q1
     exact⟨a,q3,q4⟩⟩
    simp only[Value.slice.injEq]at f1
    obtain⟨rfl,_,rfl⟩:=f1
    refine wkT ?_
    refine Zaf (hs' _) rfl (Zan f11) ?_
    refine wkT ?_
    refine ZaE s11 rfl rfl rfl (i:=0) hpos fun a ha=>?_
    refine wkT ?_
    refine Zao (hs' _) rfl ha rfl ?_
    refine wkT ?_
    refine Zaf (hs' _) rfl (Zan f11) ?_
    refine wkT ?_
    refine Zbu (lo:=1) (und u149) (tif t153) rfl rfl hpos ?_
    refine wkT ?_
    refine Zab (vs:=[vf 110,plV L[0],_]) rfl (bestP_ok L[0] f2 (by rw[List.length_drop];omega) (hs' _)) ?_
    rintro v _ ⟨rfl,rfl⟩
    have hbest:Zbq betP L[0] (L.drop 1)=ZiA b:=by rw[<-hL,Zd3,Zbc hpos]
    rw[hbest]
    refine wkT ?_
    refine⟨hgh,fun H2' hu=>?_⟩
    refine wkT ?_
    refine⟨hfin i11 hu,?_⟩
    rw[if_pos hz,if_pos hz,hz];rfl
end
end Go.Proofs
end
section
open Go Go.LL Go.Z
namespace Go.Proofs
end Go.Proofs
end
section
open Go Go.LL
namespace Go.Proofs
section
variable  {P:Prg}[Tz P][Loud P]{H:Hp}
set_option maxHeartbeats 1000000
theorem Great_ok {bv:Value}{b:Bk}(hb:BkAt H bv b):LL.Zag P 29 #[bv] H fun v H'=>H=H'∧v=vb (decide (20<b.pts.length) || decide (20<b.cks.length)):=by
 have hs:=Loud.loud (P:=P)
 obtain⟨pv,cv,rfl,hp,hc⟩:=hb
 refine IsN.m (isn c17) (args:=[.agg #[vi b.op,vi b.sl,pv,cv]]) rfl ?_
 unfold n17
 refine wkT ?_
 refine Zau hp rfl ?_
 refine wkT ?_
 refine wiT (fun h1=>?_) (fun h1=>?_)
 ·refine wkT ?_
  exact⟨rfl,by rw[decide_eq_true (show 20<b.pts.length by omega)];rfl⟩
 ·refine wkT ?_
  refine Zau hc rfl ?_
  refine wkT ?_
  refine⟨rfl,?_⟩
  rw[decide_eq_false (show ¬ 20<b.pts.length by omega),Bool.false_or]
  exact congrArg vb (decide_eq_decide.2 (by omega))
theorem Zgk (a b lo hi:Int):LL.Zag P 15 #[.agg #[vi a,vi b],vi lo,vi hi] H fun v H'=>H=H'∧v=vb (decide (lo<=a∧a<=b∧b<=hi)):=by
 have hs:=Loud.loud (P:=P)
 refine IsN.m (isn c130) (args:=[.agg #[vi a,vi b],vi lo,vi hi]) rfl ?_
 unfold n130
 refine wkT ?_
 refine wiT (fun h1=>?_) (fun h1=>?_)<;>refine wkT ?_
 refine wiT (fun h2=>?_) (fun h2=>?_)<;>refine wkT ?_<;>exact⟨rfl,by simp[Zbd,h1,h2]⟩
 exact⟨rfl,by simp[Zbd,h1]⟩
theorem Zjm {bv:Value}{b:Bk}(hb:BkAt H bv b)(n:Int)(hn:b.pts.length<=1000000):LL.Zag P 88 #[bv,vi n] H fun v H'=>H=H'∧v=vb (decide (0<=n∧n<b.pts.length)):=by
 have hs:=Loud.loud (P:=P)
 obtain⟨pv,cv,rfl,hp,hc⟩:=hb
 refine IsN.m (isn c102) (args:=[.agg #[vi b.op,vi b.sl,pv,cv],vi n]) rfl ?_
 unfold n102
 refine wkT ?_
 refine Zau hp rfl ?_
 refine wkT ?_
 refine Zab (vs:=[vi n,vi 0,vi (b.pts.length-1)]) rfl (Zm1 _ _ _) ?_
 rintro v _ ⟨rfl,rfl⟩
 refine wkT ?_
 exact⟨rfl,congrArg vb (decide_eq_decide.2 (by omega))⟩
theorem Zh5 {u w:Value}{a b:List Int}(ha:SlAt H u a)(hb:SlAt H w b)(hl:a.length<=1000000)(hl2:b.length<=1000000):LL.Zag P 119 #[u,w] H fun v H'=>H=H'∧v=vb (decide (a=b)):=by
 have hs:=Loud.loud (P:=P)
 refine IsN.m (isn c25) (args:=[u,w]) rfl ?_
 unfold n25
 refine wkT ?_
 refine Zau ha rfl ?_
 refine wkT ?_
 refine Zau hb rfl ?_
 refine wkT ?_
 refine wiT (fun h1=>?_) (fun h1=>?_)
 ·refine wkT ?_
  exact⟨rfl,by rw[decide_eq_false (show ¬ a=b by rintro rfl;exact h1 rfl)];rfl⟩
 ·have hlen:a.length=b.length:=by omega
  refine wkT ?_
  refine ZaW a.length (fun j H'=>H=H'∧a.take j=b.take j) (fun j=>[(0,u),(1,w),(5,vi j)]) (fun _=>[]) ⟨rfl,rfl⟩ ⟨rfl,rfl,rfl,trivial⟩ trivial ?_
  rintro j _ hj ⟨rfl,hall⟩
  refine wkT ?_
  refine Zau ha rfl ?_
  refine wkT ?_
  refine wiT (fun h2=>?_) (fun h2=>?_)
  ·have hj':j<a.length:=by omega
   refine wkT ?_
   refine ZaE ha rfl rfl rfl (i:=j) hj' fun p hp=>?_
   refine wkT ?_
   refine Zaf (hs _) rfl hp ?_
   refine wkT ?_
   refine ZaE hb rfl rfl rfl (i:=j) (by omega) fun q hq=>?_
   refine wkT ?_
   refine Zaf (hs _) rfl hq ?_
   refine wkT ?_
   refine wiT (fun h3=>?_) (fun h3=>?_)
   ·refine wkT ?_
    exact⟨rfl,by rw[decide_eq_false (show ¬ a=b by rintro rfl;exact h3 rfl)];rfl⟩
   ·refine wkT ?_
    exact⟨⟨j+1,by omega⟩,slt (by omega),⟨rfl,by rw[List.take_succ_eq_append_getElem hj',List.take_succ_eq_append_getElem (show j<b.length by omega),hall,h3]⟩,⟨rfl,rfl,rfl,trivial⟩,trivial,rfl⟩
  ·have:j=a.length:=by omega
   subst this
   rw[List.take_length,List.take_of_length_le (by omega)]at hall
   refine wkT ?_
   exact⟨rfl,by rw[decide_eq_true hall];rfl⟩
end
theorem Zlf {H:Hp}{a:Addr}{cs ds:List Value}{n:Nat}(h:CellsAt H a cs)(e:cs.drop n=ds):CellsAt H (a.add n) ds:=by
 subst e
 obtain⟨h1,o,p,h2,h3⟩:=h
 refine⟨Zdp h1 _,o,p,by rw[ZbM];exact h2,fun j hj=>?_⟩
 rw[List.length_drop]at hj
 rw[Zc0,Nat.add_assoc,h3 _ (by omega),List.getElem?_drop]
section
variable  {P:Prg}[Tz P][Loud P]{H:Hp}
set_option maxHeartbeats 2000000
set_option maxRecDepth 20000
theorem Zh7 {bv:Value}{b:Bk}(hb:BkAt H bv b)(hl:b.pts.length<=1000000)(hl2:b.cks.length<=1000000):LL.Zag P 30 #[bv] H fun v H'=>H=H'∧v=vi (snag b):=by
 have hs:=Loud.loud (P:=P)
 have hb0:=hb
 obtain⟨pv,cv,rfl,hp,hc⟩:=hb
 obtain⟨Ap,cp,rfl,hp'⟩:=id hp
 obtain⟨Ac,cc,rfl,hc'⟩:=id hc
 refine IsN.m (isn c64) (args:=[.agg #[vi b.op,vi b.sl,.slice Ap b.pts.length cp,.slice Ac b.cks.length cc]]) rfl ?_
 unfold n64
 refine wkT ?_
 refine Zab (vs:=[vi b.op,vi 0,vi 99]) rfl (Zm1 _ _ _) ?_
 rintro v _ ⟨rfl,rfl⟩
 refine wkT ?_
 have hcs:Zbj b=if (0<=b.op∧b.op<=99)∧(0<=b.sl∧b.sl<=3) then 0 else 1:=rfl
 refine wiT (fun h1=>?_) (fun h1=>?_)
 ·have:Zbj b=1:=by rw[hcs,if_neg (by omega)]
  refine wkT ?_
  exact⟨rfl,by rw[snag,if_pos (by omega),this];rfl⟩
 refine wkT ?_
 refine Zab (vs:=[vi b.sl,vi 0,vi 3]) rfl (Zm1 _ _ _) ?_
 rintro v _ ⟨rfl,rfl⟩
 refine wkT ?_
 refine wiT (fun h2=>?_) (fun h2=>?_)
 ·have:Zbj b=1:=by rw[hcs,if_neg (by omega)]
  refine wkT ?_
  exact⟨rfl,by rw[snag,if_pos (by omega),this];rfl⟩
 have h0:Zbj b=0:=by rw[hcs,if_pos (by omega)]
 refine wkT ?_
 refine Zab (vs:=[vi b.pts.length,vi 2,vi 4]) rfl (Zm1 _ _ _) ?_
 rintro v _ ⟨rfl,rfl⟩
 refine wkT ?_
 refine wiT (fun h3=>?_) (fun h3=>?_)
 ·have:Zbk b=2:=by rw[Zbk,if_pos (by omega)]
  refine wkT ?_
  exact⟨rfl,by rw[snag,if_neg (by omega),if_pos (by omega),this];rfl⟩
 refine wkT ?_
 refine ZaW b.pts.length (fun j H'=>H=H'∧(b.pts.take j).all okP=true) (fun j=>[(1,vi 0),(3,vi j)]) (fun _=>[(1,[vi b.op,vi b.sl,.slice Ap b.pts.length cp,.slice Ac b.cks.length cc])]) ⟨rfl,by simp⟩ ⟨rfl,rfl,trivial⟩ ⟨rfl,trivial⟩ ?_
 rintro j _ hj ⟨rfl,hall⟩
 refine wkT ?_
 refine wiT (fun h4=>?_) (fun h4=>?_)
 ·have hj':j<b.pts.length:=by omega
  refine wkT ?_
  refine ZaE hp rfl rfl rfl (i:=j) hj' fun a ha=>?_
  refine wkT ?_
  refine Zao (hs _) rfl ha rfl ?_
  refine wkT ?_
  refine Zab (vs:=[.agg #[vi b.pts[j].ml,vi b.pts[j].mh],vi 0,vi 99]) rfl (Zgk _ _ _ _) ?_
  rintro v _ ⟨rfl,rfl⟩
  refine wkT ?_
  have next:okP b.pts[j]=true->(b.pts.take (j+1)).all okP=true:=fun h=>by rw[Zkz hj',hall,h];rfl
  have stop:okP b.pts[j]=false->snag b=1:=fun h=>by
   have:Zbk b=1:=by rw[Zbk,if_neg (by omega),all_no hj' h];rfl
   rw[snag,if_neg (by omega),if_pos (by omega),this]
  unfold okP at next stop
  refine wiT (fun h5=>?_) (fun h5=>?_)
  ·refine wkT ?_
   exact⟨rfl,by rw[stop (by simp[h5])];rfl⟩
  ·refine wkT ?_
   refine wiT (fun h6=>?_) (fun h6=>?_)
   ·refine wkT ?_
    exact⟨rfl,by rw[stop (by simp;omega)];rfl⟩
   ·refine wkT ?_
    refine Zab (vs:=[.agg #[vi b.pts[j].bl,vi b.pts[j].bh],vi 0,vi 199]) rfl (Zgk _ _ _ _) ?_
    rintro v _ ⟨rfl,rfl⟩
    refine wkT ?_
    refine wiT (fun h7=>?_) (fun h7=>?_)
    ·refine wkT ?_
     exact⟨rfl,by rw[stop (by simp;omega)];rfl⟩
    ·refine wkT ?_
     refine Zab (vs:=[vi b.pts[j].w,vi 0,vi 199]) rfl (Zm1 _ _ _) ?_
     rintro v _ ⟨rfl,rfl⟩
     refine wkT ?_
     refine wiT (fun h8=>?_) (fun h8=>?_)
     ·refine wkT ?_
      exact⟨rfl,by rw[stop (by simp;omega)];rfl⟩
     ·refine wkT ?_
      exact⟨⟨j+1,by omega⟩,slt (by omega),⟨rfl,next (by simp;omega)⟩,⟨rfl,rfl,trivial⟩,⟨rfl,trivial⟩,rfl⟩
 ·have:j=b.pts.length:=by omega
  subst this
  rw[List.take_length]at hall
  have hp0:Zbk b=0:=by rw[Zbk,if_neg (by omega),if_pos hall]
  have hsn:snag b=ZbJ b:=by rw[snag,if_neg (by omega),if_neg (by omega)]
  rw[hsn]
  refine wkT ?_
  refine wiT (fun h5=>?_) (fun h5=>?_)
  ·refine wkT ?_
   exact⟨rfl,by rw[ZbJ,if_pos (by omega)];rfl⟩
  ·refine wkT ?_
   refine ZaW b.cks.length (fun j H'=>H=H'∧ckS b.pts.length b.cks=ckS b.pts.length (b.cks.drop j)) (fun j=>[(1,vi 0),(5,vi j)]) (fun _=>[(1,[vi b.op,vi b.sl,.slice Ap b.pts.length cp,.slice Ac b.cks.length cc])]) ⟨rfl,rfl⟩ ⟨rfl,rfl,trivial⟩ ⟨rfl,trivial⟩ ?_
   rintro j _ hj ⟨rfl,hall⟩
   refine wkT ?_
   refine wiT (fun h6=>?_) (fun h6=>?_)
   ·have hj':j<b.cks.length:=by omega
    rw[ZcG hj',ckS]at hall
    refine wkT ?_
    refine ZaE hc rfl rfl rfl (i:=j) hj' fun a ha=>?_
    refine wkT ?_
    refine Zaf (hs _) rfl (ZbA (j:=0) ha rfl) ?_
    refine wkT ?_
    refine Zab (vs:=[.agg #[vi b.op,vi b.sl,.slice Ap b.pts.length cp,.slice Ac b.cks.length cc],vi b.cks[j].p]) rfl (Zjm hb0 _ hl) ?_
    rintro v _ ⟨rfl,rfl⟩
    refine wkT ?_
    refine wiT (fun h7=>?_) (fun h7=>?_)
    ·refine wkT ?_
     exact⟨rfl,by rw[ZbJ,if_neg (by omega),hall,if_pos h7];rfl⟩
    ·refine wkT ?_
     refine ZaE hc rfl rfl rfl (i:=j) hj' fun a ha=>?_
     refine wkT ?_
     refine Zao (cs:=[vi b.cks[j].gl,vi b.cks[j].gh]) (hs _) rfl (Zlf (n:=1) ha rfl) rfl ?_
     refine wkT ?_
     refine Zab (vs:=[.agg #[vi b.cks[j].gl,vi b.cks[j].gh],vi (-199),vi 199]) rfl (Zgk _ _ _ _) ?_
     rintro v _ ⟨rfl,rfl⟩
     refine wkT ?_
     refine wiT (fun h8=>?_) (fun h8=>?_)
     ·refine wkT ?_
      exact⟨rfl,by rw[ZbJ,if_neg (by omega),hall,if_neg (by omega),if_pos h8];rfl⟩
     ·refine wkT ?_
      rw[if_neg (by omega),if_neg (by omega)]at hall
      exact⟨⟨j+1,by omega⟩,slt (by omega),⟨rfl,hall⟩,⟨rfl,rfl,trivial⟩,⟨rfl,trivial⟩,rfl⟩
   ·refine wkT ?_
    have:j=b.cks.length:=by omega
    subst this
    rw[List.drop_length]at hall
    exact⟨rfl,by rw[ZbJ,if_neg (by omega),hall];rfl⟩
end
theorem own_new {α:Type}[Enc α]{H:Hp}{r:Nat}{E:TypeId}{l:List α}(hr:H r=none):Own H (H.ins r (.cells (encs l).toArray E)) E (.slice (some ⟨r,0,none⟩) l.length l.length) l (some r):=
 ⟨⟨Zck l,.inr ⟨r,l.length,[],rfl,rfl,by rw[List.append_nil];exact Hp.ins_same _ _ _,by rw[List.append_nil];exact Zck l,Nat.le_refl _⟩⟩,fun r' e=>by obtain rfl:=Option.some.inj e;exact hr⟩
theorem own_nil0 {α:Type}[Enc α]{H:Hp}{r:Nat}{E:TypeId}(hr:H r=none):Own H (H.ins r (.cells #[] E)) E (.slice (some ⟨r,0,none⟩) 0 0) ([]:List α) (some r):=own_new (l:=([]:List α)) hr
section
variable  {P:Prg}[Tz P][Loud P]{H:Hp}
set_option maxHeartbeats 2000000
set_option maxRecDepth 20000
theorem ZiZ {u w:Value}{a b:List Slip}(ha:SlAt H u a)(hb:SlAt H w b)(hl:a.length<=1000000)(hl2:b.length<=1000000):LL.Zag P 48 #[u,w] H fun v H'=>H=H'∧(a=b->v=vb true)∧(v=vb true->a=b)∧∃ x,v=vb x:=by
 have hs:=Loud.loud (P:=P)
 refine IsN.m (isn c28) (args:=[u,w]) rfl ?_
 unfold n28
 refine wkT ?_
 refine Zau ha rfl ?_
 refine wkT ?_
 refine Zau hb rfl ?_
 refine wkT ?_
 refine wiT (fun h1=>?_) (fun h1=>?_)
 ·refine wkT ?_
  exact⟨rfl,by rintro rfl;exact absurd rfl h1,fun h=>by simp[Zbd]at h,false,rfl⟩
 ·have hlen:a.length=b.length:=by omega
  refine wkT ?_
  refine ZaW a.length (fun j H'=>H=H'∧a.take j=b.take j) (fun j=>[(0,u),(1,w),(5,vi j)]) (fun _=>[]) ⟨rfl,rfl⟩ ⟨rfl,rfl,rfl,trivial⟩ trivial ?_
  rintro j _ hj ⟨rfl,hall⟩
  refine wkT ?_
  refine Zau ha rfl ?_
  refine wkT ?_
  refine wiT (fun h2=>?_) (fun h2=>?_)
  ·have hj':j<a.length:=by omega
   refine wkT ?_
   refine ZaE ha rfl rfl rfl (i:=j) hj' fun p hp=>?_
   refine wkT ?_
   refine Zao (hs _) rfl hp rfl ?_
   refine wkT ?_
   refine ZaE hb rfl rfl rfl (i:=j) (by omega) fun q hq=>?_
   refine wkT ?_
   refine Zao (hs _) rfl hq rfl ?_
   refine wkT ?_
   refine Zl4 (b:=decide (a[j].bf=b[j].bf∧a[j].by_=b[j].by_)) (xs:=#[vi a[j].bf,vi a[j].by_]) (ys:=#[vi b[j].bf,vi b[j].by_]) g70 (fun Q g H hq=>eqP (.inl s70) Q hq) rfl rfl ?_
   refine wkT ?_
   refine wiT (fun h3=>?_) (fun h3=>?_)
   ·refine wkT ?_
    exact⟨rfl,by rintro rfl;exact absurd ⟨rfl,rfl⟩ h3,fun h=>by simp[Zbd]at h,false,rfl⟩
   ·have e:a[j]=b[j]:=by
     generalize a[j]=x at *
     generalize b[j]=y at *
     obtain⟨x1,x2⟩:=x
     obtain⟨y1,y2⟩:=y
     simp only at h3
     obtain⟨rfl,rfl⟩:=h3
     rfl
    refine wkT ?_
    exact⟨⟨j+1,by omega⟩,slt (by omega),⟨rfl,by rw[List.take_succ_eq_append_getElem hj',List.take_succ_eq_append_getElem (show j<b.length by omega),hall,e]⟩,⟨rfl,rfl,rfl,trivial⟩,trivial,rfl⟩
  ·have:j=a.length:=by omega
   subst this
   rw[List.take_length,List.take_of_length_le (by omega)]at hall
   refine wkT ?_
   exact⟨rfl,fun _=>rfl,fun _=>hall,true,rfl⟩
end
end Go.Proofs
end
