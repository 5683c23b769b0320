/- SpileSawn is true for every input: the given row, and its card. -/
import Derived.Test.YthmnpenamnoniaaGreatDoorSw04
set_option linter.all false
section
open Go Go.LL
namespace Go.Proofs
theorem Wa4 {kn:List Spn}(hk:∀ k∈kn,k.lo<=k.hi){a b:Nat}(h:∀ i:Nat,a<=i->i<=b->metF kn i i=0)(hab:a<=b)(h0:∀ k∈kn,0<=k.lo):metF kn a b=0:=by
 refine Wac.2 fun k hm ⟨h1,h2⟩=>?_
 have hl:=hk k hm
 have hz:=h0 k hm
 by_cases hc:k.lo<=a
 ·exact Wac.1 (h a (Nat.le_refl _) hab) k hm ⟨hc,h2⟩
 ·obtain⟨i,hi⟩:∃ i:Nat,(i:Int)=k.lo:=⟨k.lo.toNat,by omega⟩
  exact Wac.1 (h i (by omega) (by omega)) k hm ⟨by omega,by omega⟩
structure StrP (kn:List Spn)(o:List Spn)(j:Nat):Prop where
 in_:∀ z∈o,∃ a b:Nat,z=⟨a,b⟩∧a<=b∧b<j∧metF kn a b=0
 all:∀ a b:Nat,a<=b->b<j->metF kn a b=0->∃ z∈o,z.lo<=a∧b<=z.hi
 last:∀ a:Nat,a<j->metF kn a ((j:Int)-1)=0->∃ (o':List Spn) (s:Spn),o=o'++[s]∧s.hi=(j:Int)-1∧s.lo<=(a:Int)
theorem Wbb {kn:List Spn}(hk:∀ k∈kn,k.lo<=k.hi)(h0:∀ k∈kn,0<=k.lo):∀ j,StrP kn (joinL (freeL kn j)) j
 | 0=>⟨fun z hz=>by simp[freeL,joinL]at hz,fun a b _ h=>by omega,fun a h=>by omega⟩
 | j+1=>by
  have ih:=Wbb hk h0 j
  have e1:(((j+1:Nat):Int)-1)=(j:Int):=by omega
  by_cases hf:metF kn j j=0
  ·have e:joinL (freeL kn (j+1))=Wan (joinL (freeL kn j)) ⟨j,j⟩:=by
    rw[freeL,if_pos hf];unfold joinL;rw[List.foldl_append];rfl
   rw[e]
   generalize joinL (freeL kn j)=o at *
   have prev:∀ a:Nat,a<j->metF kn a j=0->∃ (o':List Spn) (s:Spn),o=o'++[s]∧s.hi=(j:Int)-1∧s.lo<=(a:Int):=fun a ha h=>ih.last a ha (Wad h (by omega) (by omega))
   rcases List.eq_nil_or_concat o with rfl | ⟨o',s,rfl⟩
   ·rw[Waf]
    have no:∀ a:Nat,a<j->¬ metF kn a j=0:=fun a ha h=>by
     obtain⟨o',s,h1,_⟩:=prev a ha h
     simp at h1
    refine⟨fun z hz=>⟨j,j,List.mem_singleton.1 hz,by omega,by omega,hf⟩,fun a b hab hb h=>?_,fun a ha h=>?_⟩
    ·by_cases hbj:b<j
     ·obtain⟨z,hz,_⟩:=ih.all a b hab hbj h
      simp at hz
     ·obtain rfl:b=j:=by omega
      by_cases haj:a<b
      ·exact absurd h (no a haj)
      ·exact⟨_,List.mem_singleton.2 rfl,by show (b:Int)<=a;omega,Int.le_refl _⟩
    ·rw[e1]at h ⊢
     by_cases haj:a<j
     ·exact absurd h (no a haj)
     ·exact⟨[],⟨j,j⟩,rfl,rfl,by show (j:Int)<=a;omega⟩
   ·rw[List.concat_eq_append]at *
    obtain⟨sa,sb,es,s1,s2,s3⟩:=ih.in_ s (by simp)
    by_cases hs:s.hi+1=(⟨j,j⟩:Spn).lo
    ·rw[Wav hs]
     have hs':s.hi+1=(j:Int):=hs
     have hm:metF kn sa j=0:=Wa4 hk (fun i h1 h2=>by
      by_cases hij:i=j
      ·rw[hij];exact hf
      ·exact Wad s3 (by omega) (by rw[es]at hs';have:((sb:Int))+1=j:=hs';omega)) (by omega) h0
     have slo:s.lo=sa:=by rw[es]
     refine⟨fun z hz=>?_,fun a b hab hb h=>?_,fun a ha h=>?_⟩
     ·rcases List.mem_append.1 hz with hz | hz
      ·obtain⟨a,b,h1,h2,h3,h4⟩:=ih.in_ z (List.mem_append_left _ hz)
       exact⟨a,b,h1,h2,by omega,h4⟩
      ·exact⟨sa,j,by rw[List.mem_singleton.1 hz,slo],by omega,by omega,hm⟩
     ·by_cases hbj:b<j
      ·obtain⟨z,hz,h1,h2⟩:=ih.all a b hab hbj h
       rcases List.mem_append.1 hz with hz | hz
       ·exact⟨z,List.mem_append_left _ hz,h1,h2⟩
       ·rw[List.mem_singleton.1 hz]at h1
        exact⟨_,List.mem_append_right _ (List.mem_singleton.2 rfl),h1,by show (b:Int)<=j;omega⟩
      ·obtain rfl:b=j:=by omega
       refine⟨_,List.mem_append_right _ (List.mem_singleton.2 rfl),?_,Int.le_refl _⟩
       by_cases haj:a<b
       ·obtain⟨o2,s2,h1,_,h3⟩:=prev a haj h
        obtain⟨_,h1⟩:=List.append_inj' h1 rfl
        obtain rfl:s=s2:=by simpa using h1
        exact h3
       ·show s.lo<=a;omega
     ·rw[e1]at h ⊢
      refine⟨o',_,rfl,rfl,?_⟩
      by_cases haj:a<j
      ·obtain⟨o2,s2,h1,_,h3⟩:=prev a haj h
       obtain⟨_,h1⟩:=List.append_inj' h1 rfl
       obtain rfl:s=s2:=by simpa using h1
       exact h3
      ·show s.lo<=a;omega
    ·rw[Waw hs]
     have hs':¬ s.hi+1=(j:Int):=hs
     have no:∀ a:Nat,a<j->¬ metF kn a j=0:=fun a ha h=>by
      obtain⟨o2,s2,h1,h2,_⟩:=prev a ha h
      obtain⟨_,h1⟩:=List.append_inj' h1 rfl
      obtain rfl:s=s2:=by simpa using h1
      omega
     refine⟨fun z hz=>?_,fun a b hab hb h=>?_,fun a ha h=>?_⟩
     ·rcases List.mem_append.1 hz with hz | hz
      ·obtain⟨a,b,h1,h2,h3,h4⟩:=ih.in_ z hz
       exact⟨a,b,h1,h2,by omega,h4⟩
      ·exact⟨j,j,List.mem_singleton.1 hz,by omega,by omega,hf⟩
     ·by_cases hbj:b<j
      ·obtain⟨z,hz,h1,h2⟩:=ih.all a b hab hbj h
       exact⟨z,List.mem_append_left _ hz,h1,h2⟩
      ·obtain rfl:b=j:=by omega
       by_cases haj:a<b
       ·exact absurd h (no a haj)
       ·exact⟨_,List.mem_append_right _ (List.mem_singleton.2 rfl),by show (b:Int)<=a;omega,Int.le_refl _⟩
     ·rw[e1]at h ⊢
      by_cases haj:a<j
      ·exact absurd h (no a haj)
      ·exact⟨_,⟨j,j⟩,rfl,rfl,by show (j:Int)<=a;omega⟩
  ·have e:joinL (freeL kn (j+1))=joinL (freeL kn j):=by rw[freeL,if_neg hf,List.append_nil]
   rw[e]
   refine⟨fun z hz=>?_,fun a b hab hb h=>?_,fun a ha h=>?_⟩
   ·obtain⟨a,b,h1,h2,h3,h4⟩:=ih.in_ z hz
    exact⟨a,b,h1,h2,by omega,h4⟩
   ·by_cases hbj:b<j
    ·exact ih.all a b hab hbj h
    ·obtain rfl:b=j:=by omega
     exact absurd (Wad h (by omega) (by omega)) hf
   ·rw[e1]at h
    exact absurd (Wad h (by omega) (by omega)) hf
theorem sawn_law {kn:List Spn}{n:Nat}{w wd:Int}(hk:∀ k∈kn,k.lo<=k.hi)(h0:∀ k∈kn,0<=k.lo)(h:LongP kn n w)(hw:0<=wd):((joinL (freeL kn n)).any fun z=>decide (wd<=z.hi-z.lo))=decide (wd+1<=w):=by
 have st:=Wbb hk h0 n
 rw[Bool.eq_iff_iff,List.any_eq_true,decide_eq_true_eq]
 constructor
 ·rintro⟨z,hz,hd⟩
  obtain⟨a,b,rfl,h2,h3,h4⟩:=st.in_ z hz
  have hd:=of_decide_eq_true hd
  have hd:wd<=(b:Int)-a:=hd
  have:=h.up a b h2 h3 h4
  omega
 ·intro hle
  rcases h.at_ with h1 | ⟨a,b,h1,h2,h3,h4⟩
  ·omega
  ·obtain⟨z,hz,g1,g2⟩:=st.all a b h1 h2 h3
   exact⟨z,hz,decide_eq_true (by omega)⟩
def lvB (lo hi w:Int):Bk:=⟨0,0,[⟨0,0,lo,hi,w⟩,⟨0,0,lo,hi,w⟩],[]⟩
theorem Wak (lo hi w:Int):Zae (lvB lo hi w)=[⟨⟨0,0,0,0⟩,0,0⟩]:=rfl
theorem lv_low (lo hi w:Int):lowF (lvB lo hi w) (Zas (lvB lo hi w) ⟨⟨0,0,0,0⟩,0,0⟩)=lo:=by
 simp[lowF,Zgz,Zbq,lvB,Zas,Zk4,N4.of,N4.get,List.range_succ]
theorem Wbo (lo hi w:Int):Zfb (lvB lo hi w) (Zas (lvB lo hi w) ⟨⟨0,0,0,0⟩,0,0⟩)=hi-w:=by
 simp[Zfb,ZdI,Zbq,lvB,Zas,Zk4,N4.of,N4.get,List.range_succ]
theorem lv_valid {lo hi w:Int}(h:0<=lo∧lo<=hi∧hi<=199)(hw:0<=w∧w<=199):Zen (lvB lo hi w):=by
 have hp:∀ i (hi':i<(lvB lo hi w).pts.length),(lvB lo hi w).pts[i]=⟨0,0,lo,hi,w⟩:=by
  intro i hi'
  match i,hi' with
  | 0,_=>rfl
  | 1,_=>rfl
 exact { op:=⟨by show (0:Int)<=0;omega,by show (0:Int)<=99;omega⟩,sl:=⟨by show (0:Int)<=0;omega,by show (0:Int)<=3;omega⟩,n:=⟨by show 2<=2;omega,by show 2<=4;omega⟩,pts:=fun i hi'=>by rw[hp i hi'];exact⟨⟨by show (0:Int)<=0;omega,by show (0:Int)<=0;omega,by show (0:Int)<=99;omega⟩,by show (0:Int)-0<3;omega,h,hw⟩,ckn:=by show 0<=3;omega,cks:=fun c hc=>by simp[lvB]at hc }
theorem lv_nB (lo hi w:Int):nB (lvB lo hi w)=1:=rfl
theorem lv_had (lo hi w:Int):hadF (lvB lo hi w)=if w<=hi-lo then 1 else 2:=by
 have hf:ZgA (lvB lo hi w) ⟨⟨0,0,0,0⟩,0,0⟩=decide (lo<=hi-w):=by rw[ZgA,lv_low,Wbo]
 rw[hadF,lv_nB,if_pos (by decide),Wak,List.filter_cons,hf]
 by_cases h:w<=hi-lo
 ·rw[decide_eq_true (show lo<=hi-w by omega),if_pos h];rfl
 ·rw[decide_eq_false (show ¬ lo<=hi-w by omega),if_neg h];rfl
theorem lv_s (lo hi w:Int):sLow (lvB lo hi w)=lo∧sHigh (lvB lo hi w)=hi-w:=by
 obtain⟨_,x,hx,h1⟩:=Wbc (b:=lvB lo hi w) (by rw[Wak];decide)
 obtain⟨_,y,hy,h2⟩:=Wa2 (b:=lvB lo hi w) (by rw[Wak];decide)
 rw[Wak,List.mem_singleton]at hx hy
 subst hx hy
 rw[lv_low]at h1
 rw[Wbo]at h2
 exact⟨h1.symm,h2.symm⟩
theorem Wbn (lo hi w:Int):sureB (lvB lo hi w)=decide (w<=hi-lo)∧sureS (lvB lo hi w)=if w<=hi-lo then lo else 0:=by
 obtain⟨h1,h2⟩:=lv_s lo hi w
 rw[sureB,sureS,h1,h2,lv_nB]
 by_cases h:w<=hi-lo
 ·rw[decide_eq_true (show 0<1∧lo<=hi-w from ⟨by omega,by omega⟩),decide_eq_true h,if_pos ⟨by omega,by omega⟩,if_pos h];exact⟨rfl,rfl⟩
 ·rw[decide_eq_false (fun e=>h (by omega)),decide_eq_false h,if_neg (fun e=>h (by omega)),if_neg h];exact⟨rfl,rfl⟩
section
variable  {P:Prg}[Tz P][Loud P]{H:Hp}
set_option maxHeartbeats 8000000
set_option maxRecDepth 20000
theorem WaW (lo hi w:Int):LL.Zag P 17 #[.agg #[vi lo,vi hi],vi w] H fun v H'=>Inc H H'∧∃ r,v=.agg #[vi 0,vi 0,.slice (some ⟨r,0,none⟩) 2 2,.slice none 0 0]∧BkAt H' v (lvB lo hi w):=by
 have hs:=Loud.loud (P:=P)
 refine IsN.m (isn c1017) (args:=[.agg #[vi lo,vi hi],vi w]) rfl ?_
 unfold n1017
 refine wkT ?_
 refine Zab (vs:=[vi 0]) rfl (ZeD 0) ?_
 rintro v _ ⟨rfl,rfl⟩
 refine kp_l hs ?_
 refine wkT ?_
 refine Zat (cs:=[vi 0,vi 0,vi lo,vi hi,vi w,vi 0,vi 0,vi lo,vi hi,vi w]) (hs _) rfl fun r hr=>?_
 refine wkT ?_
 exact⟨Zai hr,r,rfl,_,_,rfl,Za3 (l:=[(⟨0,0,lo,hi,w⟩:SPt),⟨0,0,lo,hi,w⟩]),.nil _⟩
set_option maxHeartbeats 16000000
set_option maxRecDepth 40000
theorem WaG (hPP:P=PP){m:MBk}{n1 n2:Int}(hm:MbAt H m)(h1:0<=n1∧n1<256)(h2:0<=n2∧n2<256)(hg:Zbh H) :
  n1004.m P (MFin P r1004 fun v _=>v=vb true) (env0 [m.v,.int .u8 n1,.int .u8 n2]) H:=by
 have hs:=Loud.loud (P:=P)
 have e0:m.v=.agg #[vi m.saw,.slice m.A1 m.pc.length m.c1,.slice m.A2 m.bd.length m.c2,.slice m.A3 m.tp.length m.c3]:=rfl
 rw[e0]
 unfold n1004
 refine wkT ?_
 refine Zab (vs:=[m.v]) rfl (mFit_ok hm) ?_
 rintro v _ ⟨rfl,b,rfl,hb⟩
 have done:∀ {H':Hp},Zbh H'->LL.Zag P 7 #[] H' fun v _=>v=vb true:=fun hg=>LL.Zag.mono (spiled_okP hPP hg) fun v _ h=>h.2
 cases b with
 | false=>
  refine wkT ?_
  refine Zab (vs:=[]) rfl (done hg) ?_
  rintro v H1 rfl
  refine wkT ?_
  rfl
 | true=>
 obtain⟨hM,h20⟩:=hb rfl
 have h3:∀ t∈m.tp,t.pl.length<=1000000:=fun t ht=>by have:=h20 t ht;omega
 have hn2:=hM.n2
 refine wkT ?_
 refine wiT (fun h4=>?_) (fun h4=>?_)
 ·refine wkT ?_
  refine Zab (vs:=[]) rfl (done hg) ?_
  rintro v H1 rfl
  refine wkT ?_
  rfl
 refine wkT ?_
 refine Zch (und Tryz.underlying5) (und Tryz.underlying3) rfl ?_
 rw[ZbZ (show InR n1 from ⟨by omega,by omega⟩)]
 refine wkT ?_
 refine om_rem rfl rfl (by omega) ?_
 obtain⟨i,hi,ei⟩:=tmod_nat (n:=m.bd.length) h1.1 (by omega)
 rw[ei]
 refine wkT ?_
 refine Zch (und Tryz.underlying5) (und Tryz.underlying3) rfl ?_
 rw[ZbZ (show InR n2 from ⟨by omega,by omega⟩)]
 refine wkT ?_
 refine om_rem rfl rfl (by omega) ?_
 have hwd:=Wba (m:=40) h2.1 (by omega)
 generalize n2.tmod 40=wd at *
 refine wkT ?_
 refine Zab (vs:=[m.v,vi i]) rfl (Wbm hm hM h3 hi) ?_
 rintro v H1 ⟨i1,A1,c1,rfl,s1⟩
 refine wkT ?_
 refine Zab (vs:=[m.v,vi i,vi 0]) rfl (WaQ (hm.inc i1) hM h3 hi) ?_
 rintro v H2 ⟨i2,w,rfl,hL⟩
 have i12:=i1.trans i2
 have s2:=s1.inc i2
 obtain⟨o1,o2,o3,o4,o5,o6⟩:=hM.bd i hi
 have hk:∀ k∈m.bd[i].kn,k.lo<=k.hi:=fun k hk=>by obtain⟨q,hq,rfl⟩:=List.mem_iff_getElem.1 hk;exact(o5 q hq).2.1
 have hk0:∀ k∈m.bd[i].kn,0<=k.lo:=fun k hk=>by obtain⟨q,hq,rfl⟩:=List.mem_iff_getElem.1 hk;exact(o5 q hq).1
 have law:=sawn_law hk hk0 hL hwd.1
 have st:=Wbb hk hk0 m.bd[i].lg.toNat
 have hlen:(joinL (freeL m.bd[i].kn m.bd[i].lg.toNat)).length<=40:=by
  have g1:=Wal (l:=freeL m.bd[i].kn m.bd[i].lg.toNat) (freeL m.bd[i].kn m.bd[i].lg.toNat).length (Nat.le_refl _)
  rw[List.take_length]at g1
  have g2:=Wam m.bd[i].kn m.bd[i].lg.toNat
  omega
 have hz:∀ z∈joinL (freeL m.bd[i].kn m.bd[i].lg.toNat),0<=z.lo∧z.lo<=z.hi∧z.hi<=40:=fun z hz=>by
  obtain⟨a,b,rfl,g1,g2,_⟩:=st.in_ z hz
  exact⟨by show (0:Int)<=(a:Int);omega,by show (a:Int)<=(b:Int);omega,by show (b:Int)<=40;omega⟩
 have hLw:=hL.rg
 generalize m.bd[i].lg.toNat=n at *
 generalize joinL (freeL m.bd[i].kn n)=l at *
 refine wkT ?_
 refine wiT (fun h5=>?_) (fun h5=>?_)
 ·exact absurd h5 (by omega)
 refine wkT ?_
 refine ZaW l.length (fun j H'=>Inc H2 H') (fun j=>[(6,vb false),(8,vi wd),(9,.slice A1 l.length c1),(11,vi w),(13,vb ((l.take j).any fun z=>decide (wd<=z.hi-z.lo))),(14,vi j)]) (fun _=>[]) (.refl _) ⟨rfl,rfl,rfl,rfl,rfl,rfl,trivial⟩ trivial ?_
 rintro j H3 hj i3
 have s3:=s2.inc i3
 have hg3:=CellsAt.inc hg (i12.trans i3)
 refine wkT ?_
 refine wiT (fun h6=>?_) (fun h6=>?_)
 ·have hj':j<l.length:=by omega
  have hzj:=hz _ (List.getElem_mem hj')
  have hany:((l.take (j+1)).any fun z=>decide (wd<=z.hi-z.lo))=(((l.take j).any fun z=>decide (wd<=z.hi-z.lo)) || decide (wd<=l[j].hi-l[j].lo)):=by
   rw[List.take_succ_eq_append_getElem hj',List.any_append];simp
  have row:∀ {H':Hp} {next:Addr->Prop},True:=trivial
  refine wkT ?_
  refine ZaE s3 rfl rfl rfl (i:=j) hj' fun a ha=>?_
  refine wkT ?_
  refine Zao (cs:=[vi l[j].lo,vi l[j].hi]) (hs _) rfl ha rfl ?_
  refine wkT ?_
  refine Zab (vs:=[.agg #[vi l[j].lo,vi l[j].hi],vi 0,vi 40]) rfl (Zgk _ _ _ _) ?_
  rintro v _ ⟨rfl,rfl⟩
  rw[decide_eq_true hzj]
  refine wkT ?_
  refine ZaE s3 rfl rfl rfl (i:=j) hj' fun a ha=>?_
  refine wkT ?_
  refine Zao (cs:=[vi l[j].lo,vi l[j].hi]) (hs _) rfl ha rfl ?_
  refine wkT ?_
  refine Zab (vs:=[.agg #[vi l[j].lo,vi l[j].hi],vi wd]) rfl (WaW _ _ _) ?_
  rintro v H4 ⟨i4,r4,rfl,b4⟩
  have hv:=lv_valid (w:=wd) (show 0<=l[j].lo∧l[j].lo<=l[j].hi∧l[j].hi<=199 from ⟨by omega,by omega,by omega⟩) ⟨by omega,by omega⟩
  have hg4:=CellsAt.inc hg3 i4
  refine wkT ?_
  refine Zab (vs:=[.agg #[vi 0,vi 0,.slice (some ⟨r4,0,none⟩) 2 2,.slice none 0 0]]) rfl (Had_v hv b4 hg4) ?_
  rintro v H5 ⟨i5,rfl⟩
  refine wkT ?_
  refine ZaE (s3.inc (i4.trans i5)) rfl rfl rfl (i:=j) hj' fun a ha=>?_
  refine wkT ?_
  refine Zao (cs:=[vi l[j].lo,vi l[j].hi]) (hs _) rfl ha rfl ?_
  refine wkT ?_
  refine Zab (vs:=[.agg #[vi l[j].lo,vi l[j].hi],vi wd]) rfl (WaW _ _ _) ?_
  rintro v H6 ⟨i6,r6,rfl,b6⟩
  refine wkT ?_
  refine Zab (vs:=[.agg #[vi 0,vi 0,.slice (some ⟨r6,0,none⟩) 2 2,.slice none 0 0]]) rfl (Surely_v hv b6 (CellsAt.inc (CellsAt.inc hg4 i5) i6)) ?_
  rintro v H7 ⟨i7,rfl⟩
  have i37:=((i4.trans i5).trans i6).trans i7
  have s7:=s3.inc i37
  rw[lv_had,(Wbn _ _ _).1,(Wbn _ _ _).2,WaI (by rw[lv_nB];decide)]
  by_cases hd:wd<=l[j].hi-l[j].lo
  ·rw[if_pos hd,if_pos hd,decide_eq_true hd]
   rw[decide_eq_true hd,Bool.or_true]at hany
   refine wkT ?_
   refine ZaE s7 rfl rfl rfl (i:=j) hj' fun a ha=>?_
   refine wkT ?_
   refine Zaf (hs _) rfl (Zlf (cs:=[vi l[j].lo,vi l[j].hi]) ha rfl) ?_
   refine wkT ?_
   refine ZaE s7 rfl rfl rfl (i:=j) hj' fun a ha=>?_
   refine wkT ?_
   refine Zaf (hs _) rfl (by rw[add_zero];exact ZbK (cs:=[vi l[j].lo]) (ds:=[vi l[j].hi]) ha) ?_
   refine wkT ?_
   rw[decide_eq_true hd]
   refine WaV rfl rfl ?_
   refine wkT ?_
   refine WaV rfl rfl ?_
   refine wkT ?_
   refine ZaE s7 rfl rfl rfl (i:=j) hj' fun a ha=>?_
   refine wkT ?_
   refine Zaf (hs _) rfl (by rw[add_zero];exact ZbK (cs:=[vi l[j].lo]) (ds:=[vi l[j].hi]) ha) ?_
   refine wkT ?_
   refine wiT (fun h8=>?_) (fun h8=>?_)
   ·exact absurd rfl h8
   refine wkT ?_
   cases hp:((l.take j).any fun z=>decide (wd<=z.hi-z.lo)) <;>
   ·refine wkT ?_
    exact⟨⟨j+1,by omega⟩,slt (by omega),i3.trans i37,⟨rfl,rfl,rfl,rfl,by rw[hany];rfl,rfl,trivial⟩,trivial,rfl⟩
  ·rw[if_neg hd,if_neg hd,decide_eq_false hd]
   rw[decide_eq_false hd,Bool.or_false]at hany
   refine wkT ?_
   refine ZaE s7 rfl rfl rfl (i:=j) hj' fun a ha=>?_
   refine wkT ?_
   refine Zaf (hs _) rfl (Zlf (cs:=[vi l[j].lo,vi l[j].hi]) ha rfl) ?_
   refine wkT ?_
   refine ZaE s7 rfl rfl rfl (i:=j) hj' fun a ha=>?_
   refine wkT ?_
   refine Zaf (hs _) rfl (by rw[add_zero];exact ZbK (cs:=[vi l[j].lo]) (ds:=[vi l[j].hi]) ha) ?_
   refine wkT ?_
   rw[decide_eq_false hd]
   refine WaV rfl rfl ?_
   refine wkT ?_
   refine WaV rfl rfl ?_
   refine wkT ?_
   cases hp:((l.take j).any fun z=>decide (wd<=z.hi-z.lo)) <;>
   ·rw[hp]at hany
    refine wkT ?_
    exact⟨⟨j+1,by omega⟩,slt (by omega),i3.trans i37,⟨rfl,rfl,rfl,rfl,by rw[hany];rfl,rfl,trivial⟩,trivial,rfl⟩
 ·have:j=l.length:=by omega
  subst this
  rw[List.take_length,law]
  refine wkT ?_
  refine om_eqb rfl rfl ?_
  rw[show (decide (wd+1<=w) == decide (wd+1<=w))=true by simp]
  refine wkT ?_
  refine Zab (vs:=[]) rfl (done hg3) ?_
  rintro v H8 rfl
  refine wkT ?_
  rfl
end
end Go.Proofs
end
section
open Go Go.LL Go.Conc Go.ConcM
namespace Go.Proofs
open YthmnpenamnoniaaGreatDoor Go.ChangeShapes Go.WideShapes
instance subEnc {α:Type}[Enc α]{Q:α->Prop}:Enc { x:α // Q x }:=⟨Enc.sz α,fun x=>Enc.enc x.1,fun x=>Enc.len x.1⟩
theorem encs_sub {α:Type}[Enc α]{Q:α->Prop}(l:List { x:α // Q x }):encs l=encs (l.map (·.1)):=by
 unfold encs
 rw[List.flatMap_map];rfl
theorem sl_sub {α:Type}[Enc α]{Q:α->Prop}{Hp0:Hp}{v:Value}{l:List { x:α // Q x }}(h:SlAt Hp0 v l):SlAt Hp0 v (l.map (·.1)):=by
 obtain⟨A,c,h1,h2⟩:=h
 refine⟨A,c,by rw[List.length_map];exact h1,fun hn=>?_⟩
 obtain⟨a,g1,g2⟩:=h2 (by rintro rfl;simp at hn)
 exact⟨a,g1,by rw[<-encs_sub];exact g2⟩
theorem Wbr:Tryz.prog.cellsOf 9=1:=by kernel_rfl
theorem cellsS37:Tryz.prog.cellsOf 37=1:=by kernel_rfl
theorem cellsS29:Tryz.prog.cellsOf 29=1:=by kernel_rfl
theorem cellsS44:Tryz.prog.cellsOf 44=1:=by kernel_rfl
theorem cellsS45:Tryz.prog.cellsOf 45=1:=by kernel_rfl
theorem cellsS46:Tryz.prog.cellsOf 46=1:=by kernel_rfl
theorem cellsS48:Tryz.prog.cellsOf 48=4:=by kernel_rfl
theorem WaL:Tryz.prog.cellsOf 132=3:=by kernel_rfl
theorem WaK:Tryz.prog.cellsOf 214=4:=by kernel_rfl
theorem WaJ:Tryz.prog.cellsOf 217=3:=by kernel_rfl
section
set_option maxRecDepth 100000
variable  {H:Type}{enc:TypeId×Value->H}{W:World}{base:Nat}{sp:Nat->Bool}{held:Bool}{fuel:Nat}{cs:List Value}{y:DataW H×List MemPlace}{r:Reach}{b0:Nat}{v:Value}{d:DataW H}{ps:List MemPlace}
theorem WaU (h:DataW.trod enc Tryz.prog W base sp held fuel 9 cs=some y):∃ s:ByteArray,cs=[.string s]:=by
 obtain⟨s,h,_⟩:=DataW.trod_string Tryz.underlying9 h
 exact⟨s,h⟩
theorem Wa1 {t e:TypeId}{A:Option Addr}{n c:Nat}(ht:Tryz.prog.underlying t=some (.slice e))(h:DataW.trod enc Tryz.prog W base sp held fuel t [.slice A n c]=some y):n<=c:=by
 rcases DataW.trod_slice ht h with ⟨e,_⟩ | ⟨a,len,cap,elems,rest,q,_,e,_,_,hl,_⟩
 ·simp only[List.cons.injEq,Value.slice.injEq,and_true]at e
  omega
 ·simp only[List.cons.injEq,Value.slice.injEq,and_true]at e
  omega
theorem spn_trod (h:DataW.trod enc Tryz.prog W base sp held fuel 56 cs=some y):∃ x:Spn,cs=Enc.enc x:=by
 obtain⟨a,b,h⟩:=Zi6 h
 exact⟨⟨a,b⟩,h⟩
theorem mpc_trod (h:DataW.trod enc Tryz.prog W base sp held fuel 214 cs=some y):∃ x:MPc,cs=Enc.enc x:=by
 obtain⟨xs,n,rfl,_,hl,hx,hf⟩:=DataW.trod_struct Tryz.underlying214 h
 rw[WaK]at hl
 obtain⟨y0,h0⟩:=ZaQ (xs:=xs) (i:=0) (by rw[hx];decide)
 obtain⟨y1,h1⟩:=ZaQ (xs:=xs) (i:=1) (by rw[hx];decide)
 obtain⟨y2,h2⟩:=ZaQ (xs:=xs) (i:=2) (by rw[hx];decide)
 have f0:DataW.trod enc Tryz.prog W base sp held n 9 ((cs.drop 0).take (Tryz.prog.cellsOf 9))=xs[0]?:=hf 0 _ rfl
 have f1:DataW.trod enc Tryz.prog W base sp held n 56 ((cs.drop 1).take (Tryz.prog.cellsOf 56))=xs[1]?:=hf 1 _ rfl
 have f2:DataW.trod enc Tryz.prog W base sp held n 3 ((cs.drop 3).take (Tryz.prog.cellsOf 3))=xs[2]?:=hf 2 _ rfl
 rw[h0]at f0
 rw[h1]at f1
 rw[h2]at f2
 obtain⟨s,ha⟩:=WaU f0
 obtain⟨c,e,hb⟩:=Zi6 f1
 obtain⟨g,hc⟩:=Zg2 f2
 rw[Wbr]at ha
 rw[ZjA]at hb
 rw[Zkx]at hc
 have ha:=cut2 ha
 have hc:=cut2 hc
 have hb0:=congrArg (·[0]?) hb
 have hb1:=congrArg (·[1]?) hb
 simp[List.getElem?_take,List.getElem?_drop]at hb0 hb1
 refine⟨⟨s,c,e,g⟩,ZhQ hl fun i hi=>?_⟩
 match i,hi with
 | 0,_=>exact ha
 | 1,_=>exact hb0
 | 2,_=>exact hb1
 | 3,_=>exact hc
theorem mbd_trod (h:DataW.trod enc Tryz.prog W base sp held fuel 132 cs=some y):∃ x:{ x:MBd // SlAt (roW W) (.slice x.A x.kn.length x.c) x.kn },cs=Enc.enc x:=by
 obtain⟨xs,n,rfl,_,hl,hx,hf⟩:=DataW.trod_struct Tryz.underlying132 h
 rw[WaL]at hl
 obtain⟨y0,h0⟩:=ZaQ (xs:=xs) (i:=0) (by rw[hx];decide)
 obtain⟨y1,h1⟩:=ZaQ (xs:=xs) (i:=1) (by rw[hx];decide)
 obtain⟨y2,h2⟩:=ZaQ (xs:=xs) (i:=2) (by rw[hx];decide)
 have f0:DataW.trod enc Tryz.prog W base sp held n 9 ((cs.drop 0).take (Tryz.prog.cellsOf 9))=xs[0]?:=hf 0 _ rfl
 have f1:DataW.trod enc Tryz.prog W base sp held n 3 ((cs.drop 1).take (Tryz.prog.cellsOf 3))=xs[1]?:=hf 1 _ rfl
 have f2:DataW.trod enc Tryz.prog W base sp held n 37 ((cs.drop 2).take (Tryz.prog.cellsOf 37))=xs[2]?:=hf 2 _ rfl
 rw[h0]at f0
 rw[h1]at f1
 rw[h2]at f2
 obtain⟨s,ha⟩:=WaU f0
 obtain⟨g,hb⟩:=Zg2 f1
 obtain⟨v,hc,l,hv⟩:=ZlM (α:=Spn) Tryz.underlying37 ZjA (by decide) (fun h=>spn_trod h) f2
 obtain⟨A,c,rfl,hv2⟩:=hv
 rw[Wbr]at ha
 rw[Zkx]at hb
 rw[cellsS37]at hc
 have ha:=cut2 ha
 have hb:=cut2 hb
 have hc:=cut2 hc
 refine⟨⟨⟨s,g,A,l,c⟩,⟨A,c,rfl,hv2⟩⟩,ZhQ hl fun i hi=>?_⟩
 match i,hi with
 | 0,_=>exact ha
 | 1,_=>exact hb
 | 2,_=>exact hc
theorem mtp_trod (h:DataW.trod enc Tryz.prog W base sp held fuel 217 cs=some y):∃ x:{ x:MTp // SlAt (roW W) (.slice x.A x.pl.length x.c) x.pl },cs=Enc.enc x:=by
 obtain⟨xs,n,rfl,_,hl,hx,hf⟩:=DataW.trod_struct Tryz.underlying217 h
 rw[WaJ]at hl
 obtain⟨y0,h0⟩:=ZaQ (xs:=xs) (i:=0) (by rw[hx];decide)
 obtain⟨y1,h1⟩:=ZaQ (xs:=xs) (i:=1) (by rw[hx];decide)
 have f0:DataW.trod enc Tryz.prog W base sp held n 29 ((cs.drop 0).take (Tryz.prog.cellsOf 29))=xs[0]?:=hf 0 _ rfl
 have f1:DataW.trod enc Tryz.prog W base sp held n 56 ((cs.drop 1).take (Tryz.prog.cellsOf 56))=xs[1]?:=hf 1 _ rfl
 rw[h0]at f0
 rw[h1]at f1
 obtain⟨v,hc,l,hv⟩:=ZlM (α:=Int) u34 Zkx (by decide) (fun h=>by obtain⟨n,rfl⟩:=Zg2 h;exact⟨n,rfl⟩) f0
 obtain⟨c,e,hb⟩:=Zi6 f1
 obtain⟨A,q,rfl,hv2⟩:=hv
 rw[cellsS29]at hc
 rw[ZjA]at hb
 have hc:=cut2 hc
 have hb0:=congrArg (·[0]?) hb
 have hb1:=congrArg (·[1]?) hb
 simp[List.getElem?_take,List.getElem?_drop]at hb0 hb1
 refine⟨⟨⟨A,l,q,c,e⟩,⟨A,q,rfl,hv2⟩⟩,ZhQ hl fun i hi=>?_⟩
 match i,hi with
 | 0,_=>exact hc
 | 1,_=>exact hb0
 | 2,_=>exact hb1
theorem mb_trod (h:DataW.trod enc Tryz.prog W base sp held fuel 48 cs=some y):∃ m:MBk,Value.agg cs.toArray=m.v∧MbAt (roW W) m:=by
 obtain⟨xs,n,rfl,_,hl,hx,hf⟩:=DataW.trod_struct Tryz.underlying48 h
 rw[cellsS48]at hl
 obtain⟨y0,h0⟩:=ZaQ (xs:=xs) (i:=0) (by rw[hx];decide)
 obtain⟨y1,h1⟩:=ZaQ (xs:=xs) (i:=1) (by rw[hx];decide)
 obtain⟨y2,h2⟩:=ZaQ (xs:=xs) (i:=2) (by rw[hx];decide)
 obtain⟨y3,h3⟩:=ZaQ (xs:=xs) (i:=3) (by rw[hx];decide)
 have f0:DataW.trod enc Tryz.prog W base sp held n 3 ((cs.drop 0).take (Tryz.prog.cellsOf 3))=xs[0]?:=hf 0 _ rfl
 have f1:DataW.trod enc Tryz.prog W base sp held n 44 ((cs.drop 1).take (Tryz.prog.cellsOf 44))=xs[1]?:=hf 1 _ rfl
 have f2:DataW.trod enc Tryz.prog W base sp held n 45 ((cs.drop 2).take (Tryz.prog.cellsOf 45))=xs[2]?:=hf 2 _ rfl
 have f3:DataW.trod enc Tryz.prog W base sp held n 46 ((cs.drop 3).take (Tryz.prog.cellsOf 46))=xs[3]?:=hf 3 _ rfl
 rw[h0]at f0
 rw[h1]at f1
 rw[h2]at f2
 rw[h3]at f3
 obtain⟨a,ha⟩:=Zg2 f0
 obtain⟨v1,e1,l1,s1⟩:=ZlM (α:=MPc) Tryz.underlying44 WaK (by decide) (fun h=>mpc_trod h) f1
 obtain⟨v2,e2,l2,s2⟩:=ZlM (α:={ x:MBd // SlAt (roW W) (.slice x.A x.kn.length x.c) x.kn }) Tryz.underlying45 WaL (show 0<3 by decide) (fun h=>mbd_trod h) f2
 obtain⟨v3,e3,l3,s3⟩:=ZlM (α:={ x:MTp // SlAt (roW W) (.slice x.A x.pl.length x.c) x.pl }) Tryz.underlying46 WaJ (show 0<3 by decide) (fun h=>mtp_trod h) f3
 have s2:=sl_sub s2
 have s3:=sl_sub s3
 obtain⟨A1,c1,rfl,_⟩:=id s1
 obtain⟨A2,c2,rfl,_⟩:=id s2
 obtain⟨A3,c3,rfl,_⟩:=id s3
 rw[e1]at f1
 rw[e2]at f2
 have q1:=Wa1 Tryz.underlying44 f1
 have q2:=Wa1 Tryz.underlying45 f2
 rw[Zkx]at ha
 rw[cellsS44]at e1
 rw[cellsS45]at e2
 rw[cellsS46]at e3
 have ha:=cut2 ha
 have e1:=cut2 e1
 have e2:=cut2 e2
 have e3:=cut2 e3
 refine⟨⟨a,l1,l2.map (·.1),l3.map (·.1),A1,c1,A2,c2,A3,c3⟩,?_,s1,s2,s3,fun x hx=>?_,fun x hx=>?_,q1,q2⟩
 ·have:cs=[vi a,.slice A1 l1.length c1,.slice A2 (l2.map (·.1)).length c2,.slice A3 (l3.map (·.1)).length c3]:=ZhQ hl fun i hi=>by
   match i,hi with
   | 0,_=>exact ha
   | 1,_=>exact e1
   | 2,_=>exact e2
   | 3,_=>exact e3
  rw[this];rfl
 ·obtain⟨z,_,rfl⟩:=List.mem_map.1 hx;exact z.2
 ·obtain⟨z,_,rfl⟩:=List.mem_map.1 hx;exact z.2
theorem mb_open (hval:Value.okWide Tryz.prog W r b0 48 v)(hd:DataW.Trod enc Tryz.prog W base sp held 48 v d ps):∃ m:MBk,v=m.v∧MbAt (roW W) m:=by
 obtain⟨fuel,hf⟩:=hd
 obtain⟨c,rfl⟩:=ZhL Tryz.underlying48 hval
 obtain⟨m,h1,h2⟩:=mb_trod hf
 exact⟨m,by rw[<-h1];simp[Value.cells],h2⟩
end
end Go.Proofs
end
section

end
section
open Go Go.LL Go.Conc Go.ConcM
namespace Go.Proofs.YthmnpenamnoniaaGreatDoor
open Go.ChangeShapes Go.WideShapes Go.ChangeAt Go.RowKit
set_option maxRecDepth 100000 in
theorem Wai (os:Os)(started:os.Started)(H:Type)(enc:TypeId×Value->H)(F:Stop.Interp) :
  ReturnsInLeavingWide { calm:=true } Tryz.checked os 4 .any (fun w args=>(Rows.spileSawnSpec.pre enc Tryz.prog Tryz.f4 [] false w args∧laidMetH Tryz.prog laidS w)∧sizedMet enc Tryz.prog Tryz.f4 (OpenSpec.ofChange Rows.spileSawnSpec) false w args)
   ((OpenSpec.ofChange Rows.spileSawnSpec).postWith enc Tryz.prog Tryz.f4 F (outsideKept [.timePasses]) false true false):=by
 refine law_lifted laidS (Gl:=Zbh) (fun W h=>Wbq (List.mem_singleton.2 rfl) h) doorMetS os started F rfl Tryz.func4 Tryz.results4 (by kernel_rfl) (by kernel_rfl) ?_ ?_ ?_ #[.agg #[.int .i64 0,.slice none 0 0,.slice none 0 0,.slice none 0 0],.int .u8 0,.int .u8 0] (by kernel_rfl) (by kernel_rfl) (by kernel_rfl)
 ·intro ds hl
  rw[Tryz.params4]at hl
  match ds,hl with
  | [d0,d1,d2],_=>rfl
 ·have h:(Tryz.f4.params.toList.all fun t=>Tryz.prog.readableRec t && decide (t<Tryz.prog.types.size))=true:=by kernel_rfl
  intro t ht
  simpa using List.all_eq_true.1 h t ht
 ·intro W base args ds p hval hA hg
  rw[Tryz.params4]at hA hval
  obtain⟨v0,w0,d0,e0,p0,q0,ha,rfl,rfl,h0,r0⟩:=trodAll_cons hA
  obtain⟨v1,w1,d1,e1,p1,q1,rfl,rfl,rfl,h1,r1⟩:=trodAll_cons r0
  obtain⟨v2,w2,d2,e2,p2,q2,rfl,rfl,rfl,h2,r2⟩:=trodAll_cons r1
  obtain⟨rfl,rfl,rfl⟩:=trodAll_nil r2
  obtain rfl:args=#[v0,v1,v2]:=by cases args;simp_all
  obtain⟨m0,rfl,k0⟩:=mb_open (hval 0 48 v0 rfl rfl) h0
  obtain⟨n1,rfl,k1a,k1b⟩:=Wa9 (hval 1 5 v1 rfl rfl) h1
  obtain⟨n2,rfl,k2a,k2b⟩:=Wa9 (hval 2 5 v2 rfl rfl) h2
  exact Wbd (args:=[m0.v,.int .u8 n1,.int .u8 n2]) (isn c1004) Tryz.func4 Tryz.results4 rfl (WaG rfl k0 ⟨k1a,k1b⟩ ⟨k2a,k2b⟩ hg)
theorem spileSawn_holds:Rows.SpileSawnSaid:=
 OpenClaim.holds_of_wide_leaving_time 4 Tryz.f4 rfl rfl rfl rfl rfl rfl rfl ⟨rfl,rfl,rfl,rfl,rfl⟩ rfl rfl rfl rfl rfl WaF Tryz.func4 WaE WaD WaC
  (fun os started H enc _ F=>Wai os started H enc F)
theorem spileSawn_card:Rows.SpileSawnCardSaid:=
 Zmy .later [.funcs] true (true,"9cf33abbe2d4d8327d205b7d249e169818294d6939a1d7b1339e3e1d23bfd0bb") false
  spileSawn_holds (by kernel_rfl) spileSawn_row_tie rfl ⟨rfl,rfl⟩ (by kernel_rfl) rfl
  (fun f fn hf hfn=>by
   obtain rfl:f=4:=Option.some.inj (WaF.symm.trans hf) |>.symm
   obtain rfl:fn=Tryz.f4:=(Option.some.inj (Tryz.func4.symm.trans hfn)).symm
   exact⟨by kernel_rfl,fun j t ht=>by
    have hall:(Tryz.f4.params.all fun u=>!Tryz.prog.wantsStandIn u)=true:=by kernel_rfl
    have hm:=Array.mem_of_getElem? ht
    exact(show Tryz.prog.wantsStandIn t=false by simpa using (Array.all_eq_true_iff_forall_mem.1 hall) t hm)⟩)
  (by kernel_rfl)
end Go.Proofs.YthmnpenamnoniaaGreatDoor
end
