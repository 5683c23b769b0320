import Derived.Test.YtamdhefhhdgjbaaGreatDoorN34
set_option linter.all false
section
open Go Go.LL
namespace Go.Proofs
structure Ctr (H H':Hp)(r2:Nat)(s:Nat):Prop where
 keep:∀ b x,b≠r2->H b=some x->H' b=some x
 at_:H' r2=some (.cells #[vi s] 3 (0,0),true)
theorem Ctr.trans {H H' H'':Hp}{r2 s s':Nat}(h:Ctr H H' r2 s)(h':Ctr H' H'' r2 s'):Ctr H H'' r2 s':=⟨fun b x hb hx=>h'.keep b x hb (h.keep b x hb hx),h'.at_⟩
theorem Ctr.arr {H H':Hp}{r r2 s:Nat}{l:List Int}{rest:List Value}(h:Ctr H H' r2 s)(hA:H r=some (.cells (encs l++rest).toArray 3 (0,0),true))(hr:r≠r2):H' r=some (.cells (encs l++rest).toArray 3 (0,0),true):=h.keep _ _ hr hA
section
variable  {P:Prg}[Tz P][Loud P]{H:Hp}
set_option maxHeartbeats 1000000
theorem Zgy {r cap x y n r2 s:Nat}{l:List Int}{rest:List Value}(hA:H r=some (.cells (encs l++rest).toArray 3 (0,0),true))(hn:l.length=n)(hx:x<n)(hy:y<n)(hr:r≠r2)(h2:H r2=some (.cells #[vi s] 3 (0,0),true))(hs2:s<=1000) :
  LL.Zai P 215 #[.slice (some ⟨r,0,none⟩) n cap,vi x,vi y,pt r2] H fun v H'=>∃ s' x' y':Nat,Ctr H H' r2 s'∧s'<=s+1∧v=.tuple #[vi x',vi y']∧((x'=x∧y'=y)∨(x'=y∧y'=x)):=by
 have hs:=Loud.loud (P:=P)
 refine IsN.m (isn c215) (args:=[.slice (some ⟨r,0,none⟩) n cap,vi x,vi y,pt r2]) rfl ?_
 unfold n215
 have ar0:=AR.of hA
 refine wkT ?_
 refine Zak y rfl rfl rfl (by omega) ?_
 refine wkT ?_
 refine Zaf (hs _) rfl (ar0.cA (by omega) rfl) ?_
 refine wkT ?_
 refine Zak x rfl rfl rfl (by omega) ?_
 refine wkT ?_
 refine Zaf (hs _) rfl (ar0.cA (by omega) rfl) ?_
 refine wkT ?_
 refine Zab (vs:=[vi (el l y),vi (el l x)]) rfl (ZbM _ _) ?_
 rintro v _ ⟨rfl,rfl⟩
 refine wkT ?_
 refine wiT (fun h1=>?_) (fun h1=>?_)
 ·refine wkT ?_
  refine Zb7 rfl ?_
  refine wkT ?_
  refine Zaf (hs _) rfl (Zap (cs:=[vi s]) h2) ?_
  refine wkT ?_
  refine Zb7 rfl ?_
  refine wkT ?_
  refine ZaA (tif t3) rfl rfl h2 rfl rfl (hs _) ?_
  refine wkT ?_
  exact⟨s+1,y,x,⟨fun b z hb hz=>by rw[Hp.ins_other _ _ hb];exact hz,Hp.ins_same _ _ _⟩,Nat.le_refl _,rfl,.inr ⟨rfl,rfl⟩⟩
 ·refine wkT ?_
  exact⟨s,x,y,⟨fun b z hb hz=>hz,h2⟩,by omega,rfl,.inl ⟨rfl,rfl⟩⟩
theorem ZjJ {r cap x y z n r2 s:Nat}{l:List Int}{rest:List Value}(hA:H r=some (.cells (encs l++rest).toArray 3 (0,0),true))(hn:l.length=n)(hx:x<n)(hy:y<n)(hz:z<n)(hr:r≠r2)(h2:H r2=some (.cells #[vi s] 3 (0,0),true))(hs2:s<=900) :
  LL.Zai P 206 #[.slice (some ⟨r,0,none⟩) n cap,vi x,vi y,vi z,pt r2] H fun v H'=>∃ s' q:Nat,Ctr H H' r2 s'∧s'<=s+3∧v=vi q∧(q=x∨q=y∨q=z):=by
 have hs:=Loud.loud (P:=P)
 refine IsN.m (isn c206) (args:=[.slice (some ⟨r,0,none⟩) n cap,vi x,vi y,vi z,pt r2]) rfl ?_
 unfold n206
 refine wkT ?_
 refine Zab (vs:=[.slice (some ⟨r,0,none⟩) n cap,vi x,vi y,pt r2]) rfl (Zgy hA hn hx hy hr h2 (by omega)) ?_
 rintro v H1 ⟨s1,x1,y1,k1,g1,rfl,p1⟩
 refine wkT ?_
 refine Zab (vs:=[.slice (some ⟨r,0,none⟩) n cap,vi y1,vi z,pt r2]) rfl (Zgy (k1.arr hA hr) hn (by omega) hz hr k1.at_ (by omega)) ?_
 rintro v H2 ⟨s2,y2,z2,k2,g2,rfl,p2⟩
 refine wkT ?_
 refine Zab (vs:=[.slice (some ⟨r,0,none⟩) n cap,vi x1,vi y2,pt r2]) rfl (Zgy (k2.arr (k1.arr hA hr) hr) hn (by omega) (by omega) hr k2.at_ (by omega)) ?_
 rintro v H3 ⟨s3,x3,y3,k3,g3,rfl,p3⟩
 refine wkT ?_
 exact⟨s3,y3,(k1.trans k2).trans k3,by omega,rfl,by omega⟩
theorem Zei {r cap x n r2 s:Nat}{l:List Int}{rest:List Value}(hA:H r=some (.cells (encs l++rest).toArray 3 (0,0),true))(hn:l.length=n)(h0:1<=x)(hx:x+1<n)(hl:n<=1000000)(hr:r≠r2)(h2:H r2=some (.cells #[vi s] 3 (0,0),true))(hs2:s<=900) :
  LL.Zai P 205 #[.slice (some ⟨r,0,none⟩) n cap,vi x,pt r2] H fun v H'=>∃ s' q:Nat,Ctr H H' r2 s'∧s'<=s+3∧v=vi q∧(q+1=x∨q=x∨q=x+1):=by
 have hs:=Loud.loud (P:=P)
 refine IsN.m (isn c205) (args:=[.slice (some ⟨r,0,none⟩) n cap,vi x,pt r2]) rfl ?_
 unfold n205
 have e1:((x:Int)-1)=((x-1:Nat):Int):=by omega
 have e2:((x:Int)+1)=((x+1:Nat):Int):=by omega
 refine wkT ?_
 rw[e1,e2]
 refine Zab (vs:=[.slice (some ⟨r,0,none⟩) n cap,vi (x-1:Nat),vi x,vi (x+1:Nat),pt r2]) rfl (ZjJ hA hn (by omega) (by omega) hx hr h2 hs2) ?_
 rintro v H1 ⟨s1,q,k1,g1,rfl,p1⟩
 refine wkT ?_
 exact⟨s1,q,k1,g1,rfl,by omega⟩
theorem ZoI {r cap a b n:Nat}{l:List Int}{rest:List Value}(hA:H r=some (.cells (encs l++rest).toArray 3 (0,0),true))(hn:l.length=n)(hab:a+12<b)(hb:b<=n)(hl:n<=1000000) :
  LL.Zai P 182 #[.slice (some ⟨r,0,none⟩) n cap,vi a,vi b] H fun v H'=>∃ q h:Nat,Inc H H'∧v=.tuple #[vi q,vi h]∧a<=q∧q<b:=by
 have hs:=Loud.loud (P:=P)
 refine IsN.m (isn c182) (args:=[.slice (some ⟨r,0,none⟩) n cap,vi a,vi b]) rfl ?_
 unfold n182
 obtain⟨d,rfl⟩:∃ d,b=a+d:=⟨b-a,by omega⟩
 have ed:(((a+d:Nat):Int)-(a:Int))=(d:Int):=by omega
 have e4:((d:Int)).tdiv 4=((d / 4:Nat):Int):=by rw[Int.tdiv_eq_ediv_of_nonneg (by omega)];omega
 refine wkT ?_
 rw[ed]
 refine Zaz (tif t3) (hs _) fun r2 hr2=>?_
 have hr:r≠r2:=by rintro rfl;rw[hA]at hr2;simp at hr2
 have hA1:(H.ins r2 (.cells (vi 0).cells 3)) r=some (.cells (encs l++rest).toArray 3 (0,0),true):=by rw[Hp.ins_other _ _ hr];exact hA
 have k0:Ctr H (H.ins r2 (.cells (vi 0).cells 3)) r2 0:=⟨fun b z hb hz=>by rw[Hp.ins_other _ _ hb];exact hz,Hp.ins_same _ _ _⟩
 generalize H.ins r2 (.cells (vi 0).cells 3)=H1 at *
 have hinc:∀ H' s,Ctr H1 H' r2 s->Inc H H':=fun H' s k b z hz=>by
  have hb:b≠r2:=by rintro rfl;rw[hz]at hr2;simp at hr2
  exact k.keep b z hb (k0.keep b z hb hz)
 refine wkT ?_
 refine ZgB rfl rfl (by decide) (by rw[e4];exact⟨by omega,by omega⟩) ?_
 rw[e4]
 generalize hm:d / 4=m at *
 refine wkT ?_
 refine ZhF rfl rfl ⟨by omega,by omega⟩ ?_
 refine wkT ?_
 refine ZgB rfl rfl (by decide) (by rw[e4];exact⟨by omega,by omega⟩) ?_
 rw[e4]
 refine wkT ?_
 refine ZhF rfl rfl ⟨by omega,by omega⟩ ?_
 refine wkT ?_
 refine ZgB rfl rfl (by decide) (by rw[e4];exact⟨by omega,by omega⟩) ?_
 rw[e4]
 refine wkT ?_
 refine ZhF rfl rfl ⟨by omega,by omega⟩ ?_
 refine wbT ?_
 refine Zcb (fun (x:Nat×Nat) H'=>Ctr H1 H' r2 x.1∧a<=x.2∧x.2<a+d) (fun x=>[(9,pt r2),(11,vi (x.2:Nat))]) (fun _=>[]) ?_ ?_
 ·refine wbT ?_
  refine wiT (fun g1=>?_) (fun g1=>?_)
  ·refine wbT ?_
   refine Zcb (fun (x:Nat×Nat×Nat×Nat) H'=>Ctr H1 H' r2 x.1∧x.1<=9∧x.2.1<a+d∧a<=x.2.1∧x.2.2.1<a+d∧a<=x.2.2.1∧x.2.2.2<a+d∧a<=x.2.2.2) (fun x=>[(0,.slice (some ⟨r,0,none⟩) n cap),(9,pt r2),(10,vi (x.2.1:Nat)),(11,vi (x.2.2.1:Nat)),(12,vi (x.2.2.2:Nat))]) (fun _=>[]) ?_ ?_
   ·have h1:((a:Int)+(m:Int) * 1)=((a+m:Nat):Int):=by omega
    have h2:((a:Int)+(m:Int) * 2)=((a+m * 2:Nat):Int):=by omega
    have h3:((a:Int)+(m:Int) * 3)=((a+m * 3:Nat):Int):=by omega
    rw[h1,h2,h3]
    refine wkT ?_
    refine wiT (fun g2=>?_) (fun g2=>?_)
    ·refine wkT ?_
     refine Zab (vs:=[.slice (some ⟨r,0,none⟩) n cap,vi (a+m:Nat),pt r2]) rfl (Zei (s:=0) hA1 hn (by omega) (by omega) hl hr k0.at_ (by omega)) ?_
     rintro v H2 ⟨s2,q2,k2,w2,rfl,p2⟩
     refine wkT ?_
     refine Zab (vs:=[.slice (some ⟨r,0,none⟩) n cap,vi (a+m * 2:Nat),pt r2]) rfl (Zei (k2.arr hA1 hr) hn (by omega) (by omega) hl hr k2.at_ (by omega)) ?_
     rintro v H3 ⟨s3,q3,k3,w3,rfl,p3⟩
     refine wkT ?_
     refine Zab (vs:=[.slice (some ⟨r,0,none⟩) n cap,vi (a+m * 3:Nat),pt r2]) rfl (Zei (k3.arr (k2.arr hA1 hr) hr) hn (by omega) (by omega) hl hr k3.at_ (by omega)) ?_
     rintro v H4 ⟨s4,q4,k4,w4,rfl,p4⟩
     refine wkT ?_
     exact⟨(s4,q2,q3,q4),⟨(k2.trans k3).trans k4,by show s4<=9;omega,by show q2<a+d;omega,by show a<=q2;omega,by show q3<a+d;omega,by show a<=q3;omega,by show q4<a+d;omega,by show a<=q4;omega⟩,⟨rfl,rfl,rfl,rfl,rfl,trivial⟩,trivial,rfl⟩
    ·refine wkT ?_
     exact⟨(0,a+m,a+m * 2,a+m * 3),⟨⟨fun _ _ _ h=>h,k0.at_⟩,by show 0<=9;omega,by show a+m<a+d;omega,by show a<=a+m;omega,by show a+m * 2<a+d;omega,by show a<=a+m * 2;omega,by show a+m * 3<a+d;omega,by show a<=a+m * 3;omega⟩,⟨rfl,rfl,rfl,rfl,rfl,trivial⟩,trivial,rfl⟩
   ·rintro⟨s5,i5,j5,k5⟩ H5 ⟨c5,b5,b6,b7,b8,b9,b10,b11⟩
    simp only at c5 b5 b6 b7 b8 b9 b10 b11
    refine wkT ?_
    refine Zab (vs:=[.slice (some ⟨r,0,none⟩) n cap,vi i5,vi j5,vi k5,pt r2]) rfl (ZjJ (c5.arr hA1 hr) hn (by omega) (by omega) (by omega) hr c5.at_ (by omega)) ?_
    rintro v H6 ⟨s6,q6,k6,w6,rfl,p6⟩
    refine wkT ?_
    exact⟨(s6,q6),⟨c5.trans k6,by show a<=q6;omega,by show q6<a+d;omega⟩,⟨rfl,rfl,trivial⟩,trivial,rfl⟩
  ·exact absurd g1 (by omega)
 ·rintro⟨s7,q7⟩ H7 ⟨c7,b7,b8⟩
  simp only at c7 b7 b8
  refine wkT ?_
  refine Zaf (hs _) rfl (Zap (cs:=[vi s7]) c7.at_) ?_
  refine wkT ?_
  refine wiT (fun g3=>?_) (fun g3=>?_)
  ·refine wkT ?_
   exact⟨q7,1,hinc _ _ c7,rfl,b7,b8⟩
  ·refine wkT ?_
   refine wiT (fun g4=>?_) (fun g4=>?_)
   ·refine wkT ?_
    exact⟨q7,2,hinc _ _ c7,rfl,b7,b8⟩
   ·refine wkT ?_
    exact⟨q7,0,hinc _ _ c7,rfl,b7,b8⟩
end
theorem qNLtI0 {G:Prop} (h:G:=by
  refine wkT ?_
  exact⟨(⟨t0+1,by omega⟩,(c3,i)),slt (by omega),⟨ar6,rg6,by show a+1<=i;omega,by show i<=b;omega,so6⟩,⟨rfl,rfl,rfl,rfl,rfl,trivial⟩,trivial,rfl⟩):G:=h
section
variable  {P:Prg}[Tz P][Loud P]{H:Hp}
set_option maxHeartbeats 1000000
theorem Zl7 {r cap a b n:Nat}{l:List Int}{rest:List Value}(hA:H r=some (.cells (encs l++rest).toArray 3 (0,0),true))(hn:l.length=n)(hab:a<b)(hb:b<=n)(hl:n<=1000000) :
  LL.Zai P 183 #[.slice (some ⟨r,0,none⟩) n cap,vi a,vi b] H fun v H'=>∃ l',AR H H' r l' rest∧Rg a b l l':=by
 have hs:=Loud.loud (P:=P)
 refine IsN.m (isn c183) (args:=[.slice (some ⟨r,0,none⟩) n cap,vi a,vi b]) rfl ?_
 unfold n183
 refine wkT ?_
 refine Zax (α:=List Int) b (fun t c H'=>AR H H' r c rest∧Rg a b l c) (fun t c=>[(0,.slice (some ⟨r,0,none⟩) n cap),(6,vi ((a+t:Nat):Int)),(7,vi ((b:Int)-1-(t:Nat)))]) (fun _ _=>[]) l ⟨AR.of hA,.refl l⟩ ⟨rfl,rfl,?_,trivial⟩ trivial ?_
 ·show some (vi _)=some (vi _)
  congr 2;omega
 rintro t c H1 ht ⟨ar,rg⟩
 have hcl:=rg.len
 refine wkT ?_
 refine wiT (fun g1=>?_) (fun g1=>?_)
 ·obtain⟨j,hj⟩:∃ j:Nat,(b:Int)-1-(t:Nat)=(j:Int):=⟨b-1-t,by omega⟩
  rw[hj]
  have hij:a+t<j:=by omega
  have hjb:j<b:=by omega
  refine wkT ?_
  refine Zak j rfl rfl (by omega) (by omega) ?_
  refine wkT ?_
  refine Zaf (Loud.loud _) rfl (AR.cA ar (by omega) rfl) ?_
  refine wkT ?_
  refine Zak (a+t) rfl rfl (by omega) (by omega) ?_
  refine wkT ?_
  refine Zaf (Loud.loud _) rfl (AR.cA ar (by omega) rfl) ?_
  refine wkT ?_
  refine Zak (a+t) rfl rfl (by omega) (by omega) ?_
  refine wkT ?_
  refine ZaW ar (by omega) (Zbo _ _) rfl rfl fun HW arW=>?_
  refine kp_l Loud.loud ?_
  refine wkT ?_
  refine Zak j rfl rfl (by omega) (by omega) ?_
  refine wkT ?_
  refine ZaW arW (by rw[List.length_set];omega) (Zbo _ _) rfl rfl fun H4 ar4=>?_
  refine wkT ?_
  refine⟨(⟨t+1,by omega⟩,swp c (a+t) j),slt (by omega),⟨ar4,.step _ _ rg (by omega) (by omega) (by omega) hjb⟩,⟨rfl,rfl,?_,trivial⟩,trivial,rfl⟩
  show some (vi ((j:Int)-1))=some (vi ((b:Int)-1-((t+1:Nat):Int)))
  congr 2;omega
 ·refine wkT ?_
  exact⟨c,ar,rg⟩
def Low (a b:Nat)(c:List Int):Prop:=a=0∨∀ k,a<=k->k<b->el c (a-1)<=el c k
theorem Low.rg {a b:Nat}{c c':List Int}(h:Low a b c)(rg:Rg a b c c')(hb:b<=c.length):Low a b c':=by
 rcases h with h | h
 ·exact .inl h
 ·by_cases h0:a=0
  ·exact .inl h0
  ·right
   rw[rg.out hb (.inl (by omega))]
   exact rg.all hb (p:=fun v=>el c (a-1)<=v) h
theorem Zmf {r cap a b n:Nat}{l:List Int}{rest:List Value}(hA:H r=some (.cells (encs l++rest).toArray 3 (0,0),true))(hn:l.length=n)(hab:a<b)(hb:b<=n)(hl:n<=1000000)(lw:Low a b l) :
  LL.Zai P 184 #[.slice (some ⟨r,0,none⟩) n cap,vi a,vi b] H fun v H'=>∃ (l':List Int) (t:Bool),AR H H' r l' rest∧Rg a b l l'∧v=vb t∧(t=true->So a b l'):=by
 have hs:=Loud.loud (P:=P)
 refine IsN.m (isn c184) (args:=[.slice (some ⟨r,0,none⟩) n cap,vi a,vi b]) rfl ?_
 unfold n184
 refine wkT ?_
 refine Zax (α:=List Int×Nat) 5 (fun t s H'=>AR H H' r s.1 rest∧Rg a b l s.1∧a+1<=s.2∧s.2<=b∧So a s.2 s.1) (fun t s=>[(0,.slice (some ⟨r,0,none⟩) n cap),(1,vi a),(2,vi b),(7,vi (s.2:Nat)),(8,vi (t:Nat))]) (fun _ _=>[]) (l,a+1) ⟨AR.of hA,.refl l,Nat.le_refl _,by show a+1<=b;omega,Ze3 l (Nat.le_refl _)⟩ ⟨rfl,rfl,rfl,rfl,rfl,trivial⟩ trivial ?_
 rintro t0 ⟨c,i0⟩ H1 ht0 ⟨ar,rg,hi1,hi2,so⟩
 simp only at ar rg hi1 hi2 so
 have hcl:=rg.len
 refine wkT ?_
 refine wiT (fun g1=>?_) (fun g1=>?_)
 ·refine wbT ?_
  refine Zbx ?_
  refine wbT ?_
  refine Zcb (fun (i:Nat) H'=>H1=H'∧i0<=i∧i<=b∧So a i c∧(i=b∨el c i<el c (i-1))) (fun i=>[(0,.slice (some ⟨r,0,none⟩) n cap),(1,vi a),(2,vi b),(7,vi (i:Nat)),(8,vi (t0:Nat))]) (fun _=>[]) ?_ ?_
  ·refine wkT ?_
   refine ZaP (b-i0) (fun t H'=>H1=H'∧So a (i0+t) c) (fun t=>[(0,.slice (some ⟨r,0,none⟩) n cap),(1,vi a),(2,vi b),(7,vi (i0+t:Nat)),(8,vi (t0:Nat))]) (fun _=>[]) ⟨rfl,so⟩ ⟨rfl,rfl,rfl,rfl,rfl,trivial⟩ trivial ?_
   rintro t _ ht ⟨rfl,sot⟩
   refine wkT ?_
   refine wiT (fun z1=>?_) (fun z1=>?_)
   ·refine wkT ?_
    refine Zak (i0+t) rfl rfl rfl (by omega) ?_
    refine wkT ?_
    refine Zaf (hs _) rfl (ar.cA (by omega) rfl) ?_
    refine wkT ?_
    refine Zak (i0+t-1) rfl rfl (by omega) (by omega) ?_
    refine wkT ?_
    refine Zaf (hs _) rfl (ar.cA (by omega) rfl) ?_
    refine wkT ?_
    refine Zab (vs:=[vi (el c (i0+t)),vi (el c (i0+t-1))]) rfl (ZbM _ _) ?_
    rintro w _ ⟨rfl,rfl⟩
    refine wkT ?_
    refine wiT (fun z2=>?_) (fun z2=>?_)
    ·refine wkT ?_
     refine⟨⟨t+1,by omega⟩,slt (by omega),⟨rfl,?_⟩,⟨rfl,rfl,rfl,rfl,rfl,trivial⟩,trivial,rfl⟩
     refine Zjj fun x x1 x2=>?_
     have x2:x+1<i0+(t+1):=x2
     by_cases e:x+1=i0+t
     ·rw[e,show x=i0+t-1 by omega];omega
     ·exact sot x (x+1) x1 (by omega) (by omega)
    ·refine wkT ?_
     exact⟨i0+t,⟨rfl,by omega,by omega,sot,.inr (by omega)⟩,⟨rfl,rfl,rfl,rfl,rfl,trivial⟩,trivial,rfl⟩
   ·refine wkT ?_
    exact⟨i0+t,⟨rfl,by omega,by omega,sot,.inl (by omega)⟩,⟨rfl,rfl,rfl,rfl,rfl,trivial⟩,trivial,rfl⟩
  rintro i _ ⟨rfl,hi3,hi4,soi,st⟩
  refine wbT ?_
  refine Zbx ?_
  refine wbT ?_
  refine wiT (fun g2=>?_) (fun g2=>?_)
  ·have:i=b:=by omega
   subst this
   refine wkT ?_
   exact⟨c,true,ar,rg,rfl,fun _=>soi⟩
  ·have hib:i<b:=by omega
   refine wbT ?_
   refine Zbx ?_
   refine wbT ?_
   refine wiT (fun g3=>?_) (fun g3=>?_)
   ·refine wkT ?_
    exact⟨c,false,ar,rg,rfl,fun h=>by simp at h⟩
   ·refine wbT ?_
    refine Zak (i-1) rfl rfl (by omega) (by omega) ?_
    refine wkT ?_
    refine Zaf (Loud.loud _) rfl (AR.cA ar (by omega) rfl) ?_
    refine wkT ?_
    refine Zak i rfl rfl (by omega) (by omega) ?_
    refine wkT ?_
    refine Zaf (Loud.loud _) rfl (AR.cA ar (by omega) rfl) ?_
    refine wkT ?_
    refine Zak i rfl rfl (by omega) (by omega) ?_
    refine wkT ?_
    refine ZaW ar (by omega) (Zbo _ _) rfl rfl fun HW arW=>?_
    refine kp_l Loud.loud ?_
    refine wkT ?_
    refine Zak (i-1) rfl rfl (by omega) (by omega) ?_
    refine wkT ?_
    refine ZaW arW (by rw[List.length_set];omega) (Zbo _ _) rfl rfl fun H4 ar4=>?_
    have esw:(c.set i (el c (i-1))).set (i-1) (el c i)=swp c i (i-1):=rfl
    rw[esw]at ar4
    have rg4:Rg a b l (swp c i (i-1)):=.step _ _ rg (by omega) (by omega) (by omega) (by omega)
    have es4:∀ x,x<i-1->el (swp c i (i-1)) x=el c x:=fun x hx=>by rw[Zcv _ (by omega) (by omega),if_neg (by omega),if_neg (by omega)]
    generalize swp c i (i-1)=c1 at *
    have hc1:=rg4.len
    refine wbT ?_
    refine Zcb (fun (c2:List Int) H'=>AR H H' r c2 rest∧Rg a b l c2∧So a i c2) (fun _=>[(0,.slice (some ⟨r,0,none⟩) n cap),(1,vi a),(2,vi b),(7,vi (i:Nat)),(8,vi (t0:Nat))]) (fun _=>[]) ?_ ?_
    ·refine wbT ?_
     refine wiT (fun g4=>?_) (fun g4=>?_)
     ·have g4:a+2<=i:=by omega
      refine wkT ?_
      refine Zax (α:=List Int) (i-1) (fun t c2 H'=>AR H H' r c2 rest∧Rg a b l c2∧a<=i-1-t∧(∀ x y,a<=x->x<=y->y<i->x≠i-1-t->y≠i-1-t->el c2 x<=el c2 y)∧(∀ y,i-1-t<y->y<i->el c2 (i-1-t)<=el c2 y)) (fun t _=>[(0,.slice (some ⟨r,0,none⟩) n cap),(1,vi a),(2,vi b),(7,vi (i:Nat)),(8,vi (t0:Nat)),(9,vi (i-1-t:Nat))]) (fun _ _=>[]) c1 ⟨ar4,rg4,by omega,?_,fun y y1 y2=>by omega⟩ ⟨rfl,rfl,rfl,rfl,rfl,?_,trivial⟩ trivial ?_
      ·intro x y x1 x2 x3 x4 x5
       rw[es4 x (by omega),es4 y (by omega)]
       exact soi x y x1 x2 (by omega)
      ·show some (vi ((i:Int)-1))=some (vi ((i-1-0:Nat):Int))
       congr 2;omega
      rintro t c2 H5 ht ⟨ar5,rg5,hja,so5,lo5⟩
      have hc5:=rg5.len
      have lw5:=lw.rg rg5 (by omega)
      obtain⟨j,hj⟩:∃ j,i-1-t=j:=⟨_,rfl⟩
      rw[hj]at hja so5 lo5 ⊢
      have fin:(a<j->el c2 (j-1)<=el c2 j)->So a i c2:=fun hh=>Zjj fun x x1 x2=>by
       by_cases e1:x=j
       ·subst e1;exact lo5 _ (by omega) (by omega)
       ·by_cases e2:x+1=j
        ·subst e2;exact hh (by omega)
        ·exact so5 _ _ x1 (by omega) (by omega) e1 e2
      refine wkT ?_
      refine wiT (fun z1=>?_) (fun z1=>?_)
      ·refine wkT ?_
       refine Zak j rfl rfl rfl (by omega) ?_
       refine wkT ?_
       refine Zaf (hs _) rfl (ar5.cA (by omega) rfl) ?_
       refine wkT ?_
       refine Zak (j-1) rfl rfl (by omega) (by omega) ?_
       refine wkT ?_
       refine Zaf (hs _) rfl (ar5.cA (by omega) rfl) ?_
       refine wkT ?_
       refine Zab (vs:=[vi (el c2 j),vi (el c2 (j-1))]) rfl (ZbM _ _) ?_
       rintro w _ ⟨rfl,rfl⟩
       refine wkT ?_
       refine wiT (fun z2=>?_) (fun z2=>?_)
       ·refine wkT ?_
        exact⟨c2,⟨ar5,rg5,fin fun _=>by omega⟩,⟨rfl,rfl,rfl,rfl,rfl,trivial⟩,trivial,rfl⟩
       ·have haj:a<j:=by
         refine Classical.byContradiction fun hh=>?_
         have hja':j=a:=by omega
         rcases lw5 with h | h
         ·omega
         ·have:=h j (by omega) (by omega)
          rw[<-hja']at this
          omega
        refine wkT ?_
        refine Zak (j-1) rfl rfl (by omega) (by omega) ?_
        refine wkT ?_
        refine Zaf (Loud.loud _) rfl (AR.cA ar5 (by omega) rfl) ?_
        refine wkT ?_
        refine Zak j rfl rfl (by omega) (by omega) ?_
        refine wkT ?_
        refine Zaf (Loud.loud _) rfl (AR.cA ar5 (by omega) rfl) ?_
        refine wkT ?_
        refine Zak j rfl rfl (by omega) (by omega) ?_
        refine wkT ?_
        refine ZaW ar5 (by omega) (Zbo _ _) rfl rfl fun HW arW=>?_
        refine kp_l Loud.loud ?_
        refine wkT ?_
        refine Zak (j-1) rfl rfl (by omega) (by omega) ?_
        refine wkT ?_
        refine ZaW arW (by rw[List.length_set];omega) (Zbo _ _) rfl rfl fun H6 ar6=>?_
        refine wkT ?_
        have hel1:∀ x,x≠j-1->el (swp c2 j (j-1)) x=if x=j then el c2 (j-1) else el c2 x:=fun x hx=>by rw[Zcv _ (by omega) (by omega),if_neg hx]
        have hel0:el (swp c2 j (j-1)) (j-1)=el c2 j:=by rw[Zcv _ (by omega) (by omega),if_pos rfl]
        have hjk:i-1-(t+1)=j-1:=by omega
        refine⟨(⟨t+1,by omega⟩,swp c2 j (j-1)),(by show i-1-(t+1)<j;omega),⟨ar6,.step _ _ rg5 (by omega) (by omega) (by omega) (by omega),?_,?_,?_⟩,⟨rfl,rfl,rfl,rfl,rfl,?_,trivial⟩,trivial,rfl⟩
        ·show a<=i-1-(t+1);omega
        ·show ∀ x y,a<=x->x<=y->y<i->x≠i-1-(t+1)->y≠i-1-(t+1)->_
         intro x y h1 h2 h3 h4 h5
         rw[hjk]at h4 h5
         rw[hel1 x h4,hel1 y h5]
         by_cases hx:x=j
         ·rw[if_pos hx]
          by_cases hy:y=j
          ·rw[if_pos hy];exact Int.le_refl _
          ·rw[if_neg hy];exact so5 _ _ (by omega) (by omega) h3 (by omega) hy
         ·rw[if_neg hx]
          by_cases hy:y=j
          ·rw[if_pos hy];exact so5 _ _ h1 (by omega) (by omega) hx (by omega)
          ·rw[if_neg hy];exact so5 _ _ h1 h2 h3 hx hy
        ·show ∀ y,i-1-(t+1)<y->y<i->el (swp c2 j (j-1)) (i-1-(t+1))<=_
         intro y h1 h2
         rw[hjk]at h1 ⊢
         rw[hel0,hel1 y (by omega)]
         by_cases hy:y=j
         ·rw[if_pos hy];omega
         ·rw[if_neg hy];exact lo5 _ (by omega) h2
        ·show some (vi ((j:Int)-1))=some (vi ((i-1-(t+1):Nat):Int))
         congr 2;omega
      ·refine wkT ?_
       exact⟨c2,⟨ar5,rg5,fin fun h=>by omega⟩,⟨rfl,rfl,rfl,rfl,rfl,trivial⟩,trivial,rfl⟩
     ·refine wkT ?_
      exact⟨c1,⟨ar4,rg4,Ze3 _ (by omega)⟩,⟨rfl,rfl,rfl,rfl,rfl,trivial⟩,trivial,rfl⟩
    rintro c2 H5 ⟨ar5,rg5,so5⟩
    have hc5:=rg5.len
    refine wbT ?_
    refine wiT (fun g5=>?_) (fun g5=>?_)
    ·refine wkT ?_
     refine Zax (α:=List Int) b (fun t c3 H'=>AR H H' r c3 rest∧Rg a b l c3∧So a i c3) (fun t _=>[(0,.slice (some ⟨r,0,none⟩) n cap),(1,vi a),(2,vi b),(7,vi (i:Nat)),(8,vi (t0:Nat)),(10,vi (i+1+t:Nat))]) (fun _ _=>[]) c2 ⟨ar5,rg5,so5⟩ ⟨rfl,rfl,rfl,rfl,rfl,rfl,trivial⟩ trivial ?_
     rintro t c3 H6 ht ⟨ar6,rg6,so6⟩
     have hc6:=rg6.len
     refine wkT ?_
     refine wiT (fun z1=>?_) (fun z1=>?_)
     ·refine wkT ?_
      refine Zak (i+1+t) rfl rfl rfl (by omega) ?_
      refine wkT ?_
      refine Zaf (hs _) rfl (ar6.cA (by omega) rfl) ?_
      refine wkT ?_
      refine Zak (i+t) rfl rfl (by omega) (by omega) ?_
      refine wkT ?_
      refine Zaf (hs _) rfl (ar6.cA (by omega) rfl) ?_
      refine wkT ?_
      refine Zab (vs:=[vi (el c3 (i+1+t)),vi (el c3 (i+t))]) rfl (ZbM _ _) ?_
      rintro w _ ⟨rfl,rfl⟩
      refine wkT ?_
      refine wiT (fun z2=>?_) (fun z2=>?_)
      ·exact qNLtI0
      ·refine wkT ?_
       refine Zak (i+t) rfl rfl (by omega) (by omega) ?_
       refine wkT ?_
       refine Zaf (Loud.loud _) rfl (AR.cA ar6 (by omega) rfl) ?_
       refine wkT ?_
       refine Zak (i+1+t) rfl rfl (by omega) (by omega) ?_
       refine wkT ?_
       refine Zaf (Loud.loud _) rfl (AR.cA ar6 (by omega) rfl) ?_
       refine wkT ?_
       refine Zak (i+1+t) rfl rfl (by omega) (by omega) ?_
       refine wkT ?_
       refine ZaW ar6 (by omega) (Zbo _ _) rfl rfl fun HW arW=>?_
       refine kp_l Loud.loud ?_
       refine wkT ?_
       refine Zak (i+t) rfl rfl (by omega) (by omega) ?_
       refine wkT ?_
       refine ZaW arW (by rw[List.length_set];omega) (Zbo _ _) rfl rfl fun H8 ar8=>?_
       refine wkT ?_
       refine⟨(⟨t+1,by omega⟩,swp c3 (i+1+t) (i+t)),slt (by omega),⟨ar8,.step _ _ rg6 (by omega) (by omega) (by omega) (by omega),?_⟩,⟨rfl,rfl,rfl,rfl,rfl,rfl,trivial⟩,trivial,rfl⟩
       intro x y x1 x2 x3
       rw[Zcv _ (by omega) (by omega),Zcv _ (by omega) (by omega),if_neg (by omega),if_neg (by omega),if_neg (by omega),if_neg (by omega)]
       exact so6 x y x1 x2 x3
     ·exact qNLtI0
    ·refine wkT ?_
     exact⟨(⟨t0+1,by omega⟩,(c2,i)),slt (by omega),⟨ar5,rg5,by show a+1<=i;omega,by show i<=b;omega,so5⟩,⟨rfl,rfl,rfl,rfl,rfl,trivial⟩,trivial,rfl⟩
 ·refine wkT ?_
  exact⟨c,false,ar,rg,rfl,fun h=>by simp at h⟩
end
set_option maxRecDepth 100000
def lenTab:ByteArray:=.mk #[0,1,2,2,3,3,3,3,4,4,4,4,4,4,4,4,5,5,5,5,5,5,5,5,5,5,5,5,5,5,5,5,6,6,6,6,6,6,6,6,6,6,6,6,6,6,6,6,6,6,6,6,6,6,6,6,6,6,6,6,6,6,6,6,7,7,7,7,7,7,7,7,7,7,7,7,7,7,7,7,7,7,7,7,7,7,7,7,7,7,7,7,7,7,7,7,7,7,7,7,7,7,7,7,7,7,7,7,7,7,7,7,7,7,7,7,7,7,7,7,7,7,7,7,7,7,7,7,8,8,8,8,8,8,8,8,8,8,8,8,8,8,8,8,8,8,8,8,8,8,8,8,8,8,8,8,8,8,8,8,8,8,8,8,8,8,8,8,8,8,8,8,8,8,8,8,8,8,8,8,8,8,8,8,8,8,8,8,8,8,8,8,8,8,8,8,8,8,8,8,8,8,8,8,8,8,8,8,8,8,8,8,8,8,8,8,8,8,8,8,8,8,8,8,8,8,8,8,8,8,8,8,8,8,8,8,8,8,8,8,8,8,8,8,8,8,8,8,8,8,8,8,8,8,8,8]
def ZeK (m:Nat):Nat:=if m=0 then 0 else Nat.log2 m+1
theorem Zod:(List.range 256).all (fun i=>match lenTab[i]? with | some b=>b.toNat == ZeK i | none=>false)=true:=by kernel_rfl
theorem ZjM {i:Nat}(h:i<256):∃ b,lenTab[i]? = some b∧b.toNat=ZeK i:=by
 have:=List.all_eq_true.1 Zod i (List.mem_range.2 h)
 split at this
 ·exact⟨_,‹_›,by simpa using this⟩
 ·simp at this
theorem u9:Tryz.prog.underlying 9=some .string:=by kernel_rfl
theorem u144:Tryz.prog.underlying 144=some (.int .u64):=by kernel_rfl
theorem u188:Tryz.prog.underlying 188=some (.int .u64):=by kernel_rfl
theorem u5:Tryz.prog.underlying 5=some (.int .u8):=by kernel_rfl
section
variable  {P:Prg}[Tz P]{H:Hp}{d:Option Nat}{next:NSt->Hp->Prop}{σ:NSt}{x y:Operand}
theorem ZjC {t:TypeId}{ty:TypeId}{k:IntKind}{i:Nat}{s:ByteArray}{b:UInt8}(hu:P.toProgram.underlying t=some .string)(e1:σ.get x=some (.string s))(e2:σ.get y=some (.int k (i:Int)))(hb:s[i]? = some b)
  (h:next (σ.set d (.int .u8 b.toNat)) H):(NOp.raw (.index t x y) ty).m P d next σ H:=by
 refine Zbh (by simp[Op.operands,e1,e2]) (s:=Instr.index t (.string s) (.int k (i:Int))) (by simp[execOp,bare,e1,e2]) ?_
 have hc:(0:Int)<=(i:Int):=by omega
 simp only[Instr.index,Zaa,asIntOf,Zac,Zad hu,if_pos hc,Int.toNat_natCast,hb]
 exact h
end
section
variable  {P:Prg}[Tz P]{H:Hp}
set_option maxHeartbeats 1000000
theorem wrap8 {m:Nat}(h:m<256):IntKind.u8.wrap (m:Int)=(m:Int):=by
 simp only[IntKind.wrap,IntKind.bits,IntKind.signed,Bool.false_and,Bool.false_eq_true,if_false]
 omega
theorem Zho {m:Nat}(h:m<18446744073709551616):IntKind.u64.wrap (m:Int)=(m:Int):=by
 simp only[IntKind.wrap,IntKind.bits,IntKind.signed,Bool.false_and,Bool.false_eq_true,if_false]
 omega
theorem Len64_ok {m:Nat}(hm:m<65536):LL.Zai P 189 #[.int .u64 m] H fun v H'=>H=H'∧v=vi (if m<256 then ZeK m else 8+ZeK (m / 256):Nat):=by
 refine IsN.m (isn c189) (args:=[.int .u64 m]) rfl ?_
 unfold n189
 refine wkT ?_
 refine wiT (fun g1=>?_) (fun g1=>?_)
 ·exact absurd g1 (by omega)
 ·refine wkT ?_
  refine wiT (fun g2=>?_) (fun g2=>?_)
  ·exact absurd g2 (by omega)
  ·refine wkT ?_
   refine wiT (fun g3=>?_) (fun g3=>?_)
   ·have hd:m / 256<256:=by omega
    obtain⟨b,hb,hbl⟩:=ZjM hd
    have hsh:bitV .shr .u64 (m:Int) 8=.int .u64 ((m / 256:Nat):Int):=by
     show Value.int .u64 ((m:Int).fdiv 256)=_
     rw[Int.fdiv_eq_ediv_of_nonneg _ (by omega)]
     rfl
    have hb9:b.toNat<=255:=by have:=b.toNat_lt;omega
    refine wkT ?_
    refine Zcq rfl rfl (.inl rfl) (by omega) hsh ?_
    refine wkT ?_
    refine ZcA (und u144) (und u5) rfl ?_
    rw[wrap8 hd]
    refine wkT ?_
    refine ZjC (s:=lenTab) (und u9) rfl rfl hb ?_
    refine wkT ?_
    refine ZcA (und u5) (und ui3) rfl ?_
    rw[Zcf ⟨by omega,by omega⟩]
    refine wkT ?_
    refine⟨rfl,?_⟩
    rw[if_neg (by omega),<-hbl]
    show vi _=vi _
    congr 1
   ·have hd:m<256:=by omega
    obtain⟨b,hb,hbl⟩:=ZjM hd
    have hb9:b.toNat<=255:=by have:=b.toNat_lt;omega
    refine wkT ?_
    refine ZcA (und u144) (und u5) rfl ?_
    rw[wrap8 hd]
    refine wkT ?_
    refine ZjC (s:=lenTab) (und u9) rfl rfl hb ?_
    refine wkT ?_
    refine ZcA (und u5) (und ui3) rfl ?_
    rw[Zcf ⟨by omega,by omega⟩]
    refine wkT ?_
    refine⟨rfl,?_⟩
    rw[if_pos hd,<-hbl]
    show vi _=vi _
    congr 1
    omega
def len64 (m:Nat):Nat:=if m<256 then ZeK m else 8+ZeK (m / 256)
theorem Len_ok {m:Nat}(hm:m<65536):LL.Zai P 149 #[.int .u64 m] H fun v H'=>H=H'∧v=vi (len64 m:Nat):=by
 refine IsN.m (isn c149) (args:=[.int .u64 m]) rfl ?_
 unfold n149
 refine wkT ?_
 refine Zab (vs:=[.int .u64 m]) rfl (Len64_ok hm) ?_
 rintro v _ ⟨rfl,rfl⟩
 refine wkT ?_
 exact⟨rfl,rfl⟩
theorem ZlA {m:Nat}(hm:m<65536):len64 m<=16:=by
 unfold len64 ZeK
 have hl:∀ x,x<256->Nat.log2 x<=7:=fun x hx=>by
  by_cases e:x=0
  ·subst e;decide
  ·have:=(Nat.log2_lt e (k:=8)).2 (by omega);omega
 split
 ·split
  ·omega
  ·have:=hl m ‹_›;omega
 ·split
  ·omega
  ·have:=hl (m / 256) (by omega);omega
end
theorem ZmY (n:Int):∃ y:Nat,y<18446744073709551616∧IntKind.u64.wrap n=(y:Int):=by
 simp only[IntKind.wrap,IntKind.bits,IntKind.signed,Bool.false_and,Bool.false_eq_true,if_false]
 exact⟨(n % 2 ^ 64).toNat,by omega,by omega⟩
theorem u235:Tryz.prog.underlying 235=some (.int .u64):=by kernel_rfl
theorem t235:tiOf Tryz.prog 235=some (1,some (.int .u64 0),8):=by kernel_rfl
theorem Zj6 {m:Nat}(h:1<=m):2 ^ ZeK m<=2 * m:=by
 unfold ZeK
 rw[if_neg (by omega),Nat.pow_succ]
 have:=Nat.log2_self_le (n:=m) (by omega)
 omega
theorem Zoe {m:Nat}(h:1<=m):2 ^ len64 m<=2 * m:=by
 unfold len64
 split
 ·exact Zj6 h
 ·have:=Zj6 (m:=m / 256) (by omega)
  rw[Nat.pow_add]
  omega
section
variable  {P:Prg}[Tz P][Loud P]{H:Hp}
set_option maxHeartbeats 1000000
theorem pow2_ok {m:Nat}(hm:m<65536):LL.Zai P 203 #[vi m] H fun v H'=>H=H'∧v=.int .u64 ((2 ^ len64 m:Nat):Int):=by
 have hl:=ZlA hm
 have hp:2 ^ len64 m<=2 ^ 16:=Nat.pow_le_pow_right (by decide) hl
 have hsh:bitV .shl .u64 1 (len64 m:Nat)=.int .u64 ((2 ^ len64 m:Nat):Int):=by
  show Value.int .u64 (IntKind.u64.wrap (1 * 2 ^ min ((len64 m:Nat):Int).toNat 64))=_
  rw[Int.toNat_natCast,Nat.min_eq_left (by omega),Int.one_mul,show (2:Int) ^ len64 m=((2 ^ len64 m:Nat):Int) by simp,Zho (by omega)]
 refine IsN.m (isn c203) (args:=[vi m]) rfl ?_
 unfold n203
 refine wkT ?_
 refine ZcA (und ui3) (und u188) rfl ?_
 rw[Zho (by omega)]
 refine wkT ?_
 refine Zab (vs:=[.int .u64 m]) rfl (Len_ok hm) ?_
 rintro v _ ⟨rfl,rfl⟩
 refine wkT ?_
 refine Zcq rfl rfl (.inr rfl) (by omega) hsh ?_
 refine wkT ?_
 exact⟨rfl,rfl⟩
theorem Zmk {r2 y:Nat}(hy:H r2=some (.cells #[.int .u64 y] 235 (0,0),true)):LL.Zai P 204 #[pt r2] H fun v H'=>∃ z:Nat,z<18446744073709551616∧v=.int .u64 z∧H' r2=some (.cells #[.int .u64 z] 235 (0,0),true)∧∀ b x,b≠r2->H b=some x->H' b=some x:=by
 have hs:=Loud.loud (P:=P)
 refine IsN.m (isn c204) (args:=[pt r2]) rfl ?_
 unfold n204
 have hy1:=hy
 obtain⟨w1,hw1,ew1⟩:=ZmY ((y:Int) * 2 ^ 13)
 have hsh1:bitV .shl .u64 (y:Int) 13=.int .u64 (w1:Int):=congrArg (Value.int .u64) ew1
 obtain⟨z1,hz1,ez1⟩:=ZmY (((BitVec.ofInt IntKind.u64.bits (y:Int) ^^^ BitVec.ofInt IntKind.u64.bits (w1:Int)).toNat:Nat):Int)
 refine wkT ?_
 refine Zb7 rfl ?_
 refine wkT ?_
 refine Zaf (hs _) rfl (Zap (cs:=[.int .u64 y]) hy1) ?_
 refine wkT ?_
 refine Zb7 rfl ?_
 refine wkT ?_
 refine Zaf (hs _) rfl (Zap (cs:=[.int .u64 y]) hy1) ?_
 refine wkT ?_
 refine Zcq rfl rfl (.inr rfl) (by omega) hsh1 ?_
 refine wkT ?_
 refine ZgC (v:=.int .u64 (z1:Int)) rfl rfl (.inr (.inr (.inl rfl))) (congrArg (Value.int .u64) ez1) ?_
 refine wkT ?_
 refine Zb7 rfl ?_
 refine wkT ?_
 refine ZaA (tif t235) rfl rfl hy1 rfl rfl (hs _) ?_
 have hy2:(H.ins r2 (.cells #[.int .u64 (z1:Int)] 235)) r2=some (.cells #[.int .u64 (z1:Int)] 235 (0,0),true):=Hp.ins_same _ _ _
 obtain⟨w2,ew2⟩:∃ w:Int,(z1:Int).fdiv (2 ^ 7)=w:=⟨_,rfl⟩
 have hsh2:bitV .shr .u64 (z1:Int) 7=.int .u64 w2:=congrArg (Value.int .u64) ew2
 obtain⟨z2,hz2,ez2⟩:=ZmY (((BitVec.ofInt IntKind.u64.bits (z1:Int) ^^^ BitVec.ofInt IntKind.u64.bits (w2:Int)).toNat:Nat):Int)
 refine wkT ?_
 refine Zb7 rfl ?_
 refine wkT ?_
 refine Zaf (hs _) rfl (Zap (cs:=[.int .u64 z1]) hy2) ?_
 refine wkT ?_
 refine Zb7 rfl ?_
 refine wkT ?_
 refine Zaf (hs _) rfl (Zap (cs:=[.int .u64 z1]) hy2) ?_
 refine wkT ?_
 refine Zcq rfl rfl (.inl rfl) (by omega) hsh2 ?_
 refine wkT ?_
 refine ZgC (v:=.int .u64 (z2:Int)) rfl rfl (.inr (.inr (.inl rfl))) (congrArg (Value.int .u64) ez2) ?_
 refine wkT ?_
 refine Zb7 rfl ?_
 refine wkT ?_
 refine ZaA (tif t235) rfl rfl hy2 rfl rfl (hs _) ?_
 rw[Zbk]
 have hy3:(H.ins r2 (.cells #[.int .u64 (z2:Int)] 235)) r2=some (.cells #[.int .u64 (z2:Int)] 235 (0,0),true):=Hp.ins_same _ _ _
 obtain⟨w3,hw3,ew3⟩:=ZmY ((z2:Int) * 2 ^ 17)
 have hsh3:bitV .shl .u64 (z2:Int) 17=.int .u64 (w3:Int):=congrArg (Value.int .u64) ew3
 obtain⟨z3,hz3,ez3⟩:=ZmY (((BitVec.ofInt IntKind.u64.bits (z2:Int) ^^^ BitVec.ofInt IntKind.u64.bits (w3:Int)).toNat:Nat):Int)
 refine wkT ?_
 refine Zb7 rfl ?_
 refine wkT ?_
 refine Zaf (hs _) rfl (Zap (cs:=[.int .u64 z2]) hy3) ?_
 refine wkT ?_
 refine Zb7 rfl ?_
 refine wkT ?_
 refine Zaf (hs _) rfl (Zap (cs:=[.int .u64 z2]) hy3) ?_
 refine wkT ?_
 refine Zcq rfl rfl (.inr rfl) (by omega) hsh3 ?_
 refine wkT ?_
 refine ZgC (v:=.int .u64 (z3:Int)) rfl rfl (.inr (.inr (.inl rfl))) (congrArg (Value.int .u64) ez3) ?_
 refine wkT ?_
 refine Zb7 rfl ?_
 refine wkT ?_
 refine ZaA (tif t235) rfl rfl hy3 rfl rfl (hs _) ?_
 rw[Zbk]
 have hy4:(H.ins r2 (.cells #[.int .u64 (z3:Int)] 235)) r2=some (.cells #[.int .u64 (z3:Int)] 235 (0,0),true):=Hp.ins_same _ _ _
 refine wkT ?_
 refine Zb7 rfl ?_
 refine wkT ?_
 refine Zaf (hs _) rfl (Zap (cs:=[.int .u64 (z3:Int)]) hy4) ?_
 refine wkT ?_
 exact⟨z3,hz3,rfl,hy4,fun b x hb hx=>by rw[Hp.ins_other _ _ hb];exact hx⟩
end
end Go.Proofs
end
