import Derived.Test.YthmnpenamnoniaaGreatDoorP32
set_option linter.all false
section
open Go Go.LL
namespace Go.Proofs
structure PeI (a b i j:Nat)(v:Int)(c:List Int):Prop where
 eq:el c a=v
 lo:∀ k,a+1<=k->k<i->el c k<=v
 hi:∀ k,j<k->k<b->v<el c k
 ai:a+1<=i
 ij:i<=j+1
 jb:j+1<=b
theorem PeI.swap {a b i j:Nat}{v:Int}{c:List Int}(h:PeI a b i j v c)(hij:i<=j)(h1:v<el c i)(h2:el c j<=v)(hl:b<=c.length):PeI a b (i+1) (j-1) v (swp c i j):=by
 have g1:=h.ai
 have g3:=h.jb
 have hne:i≠j:=fun e=>by subst e;omega
 have es:∀ x,el (swp c i j) x=if x=j then el c i else if x=i then el c j else el c x:=fun x=>Zce x (by omega) (by omega)
 refine⟨by rw[es,if_neg (by omega),if_neg (by omega)];exact h.eq,fun k k1 k2=>?_,fun k k1 k2=>?_,by omega,by omega,by omega⟩
 ·rw[es,if_neg (by omega)]
  by_cases e:k=i
  ·rw[if_pos e];exact h2
  ·rw[if_neg e];exact h.lo k k1 (by omega)
 ·rw[es]
  by_cases e:k=j
  ·rw[if_pos e];exact h1
  ·rw[if_neg e,if_neg (by omega)];exact h.hi k (by omega) k2
def PeQ (a b:Nat)(l':List Int)(i:Nat)(v:Int):Prop:=a<i∧i<=b∧(∀ k,a<=k->k<i->el l' k<=v)∧∀ k,i<=k->k<b->v<el l' k
theorem PeI.fin {a b i j:Nat}{v:Int}{c:List Int}(h:PeI a b i j v c)(hij:j<i):PeQ a b c i v:=by
 have g1:=h.ai
 have g2:=h.ij
 have g3:=h.jb
 refine⟨by omega,by omega,fun k k1 k2=>?_,fun k k1 k2=>h.hi k (by omega) k2⟩
 by_cases e:k=a
 ·rw[e,h.eq];exact Int.le_refl _
 ·exact h.lo k (by omega) k2
section
variable  {P:Prg}[Tz P][Loud P]{H:Hp}
set_option maxHeartbeats 1000000
theorem Zl0 {r cap a b p n:Nat}{l:List Int}{rest:List Value}(hA:H r=some (.cells (encs l++rest).toArray 3 (0,0),true))(hn:l.length=n)(hap:a<=p)(hpb:p<b)(hb:b<=n)(hl:n<=1000000) :
  LL.Zag P 201 #[.slice (some ⟨r,0,none⟩) n cap,vi a,vi b,vi p] H fun v H'=>∃ l' q,AR H H' r l' rest∧Rg a b l l'∧PeQ a b l' q (el l p)∧v=vi (q:Nat):=by
 have hs:=Loud.loud (P:=P)
 refine IsN.m (isn c186) (args:=[.slice (some ⟨r,0,none⟩) n cap,vi a,vi b,vi p]) rfl ?_
 unfold n186
 have ar0:=AR.of hA
 refine wkT ?_
 refine Zak p rfl rfl (by omega) (by omega) ?_
 refine wkT ?_
 refine Zaf (Loud.loud _) rfl (AR.cA ar0 (by omega) rfl) ?_
 refine wkT ?_
 refine Zak a rfl rfl (by omega) (by omega) ?_
 refine wkT ?_
 refine Zaf (Loud.loud _) rfl (AR.cA ar0 (by omega) rfl) ?_
 refine wkT ?_
 refine Zak a rfl rfl (by omega) (by omega) ?_
 refine wkT ?_
 refine ZaN ar0 (by omega) (Zbg _ _) rfl rfl fun HW arW=>?_
 refine kp_l Loud.loud ?_
 refine wkT ?_
 refine Zak p rfl rfl (by omega) (by omega) ?_
 refine wkT ?_
 refine ZaN arW (by rw[List.length_set];omega) (Zbg _ _) rfl rfl fun H1 ar1=>?_
 refine wbT ?_
 have esw:(l.set a (el l p)).set p (el l a)=swp l a p:=rfl
 rw[esw]at ar1
 have rg1:Rg a b l (swp l a p):=.step _ _ (.refl l) (by omega) (by omega) (by omega) (by omega)
 have ev:el (swp l a p) a=el l p:=by
  rw[Zce _ (by omega) (by omega)]
  by_cases e:a=p
  ·rw[if_pos e,e]
  ·rw[if_neg e,if_pos rfl]
 have pi1:PeI a b (a+1) (b-1) (el l p) (swp l a p):=⟨ev,fun k h1 h2=>by omega,fun k h1 h2=>by omega,by omega,by omega,by omega⟩
 generalize swp l a p=c1 at *
 have ej0:((b:Int)-1)=((b-1:Nat):Int):=by omega
 rw[ej0]
 generalize el l p=v at *
 have hc1:=rg1.len
 refine Zbn ?_
 refine wbT ?_
 refine ZaO (α:=List Int×Nat×Nat) (b-1+1-(a+1)) (fun t s H'=>AR H H' r s.1 rest∧Rg a b l s.1∧PeI a b s.2.1 s.2.2 v s.1∧s.2.2+1-s.2.1+t=b-1+1-(a+1)) (fun t s=>[(0,.slice (some ⟨r,0,none⟩) n cap),(1,vi a),(9,vi ((s.2.1:Nat):Int)),(10,vi ((s.2.2:Nat):Int))]) (fun _ _=>[]) (c1,a+1,b-1) ⟨ar1,rg1,pi1,by show b-1+1-(a+1)+0=_;omega⟩ ⟨rfl,rfl,rfl,rfl,trivial⟩ trivial ?_
 rintro t0 ⟨c4,i4,j4⟩ H7 ht0 ⟨ar4,rg4,pi4,hm⟩
 clear pi1
 simp only at ar4 rg4 pi4 hm
 have hc4:=rg4.len
 have y1:=pi4.ai
 have y2:=pi4.ij
 have y3:=pi4.jb
 refine wbT ?_
 refine ZbX (fun (i:Nat) H'=>H7=H'∧PeI a b i j4 v c4∧(j4<i∨v<el c4 i)∧i4<=i) (fun i=>[(0,.slice (some ⟨r,0,none⟩) n cap),(1,vi a),(9,vi ((i:Nat):Int)),(10,vi ((j4:Nat):Int))]) (fun _=>[]) ?_ ?_
 ·refine wkT ?_
  refine ZaW (j4+1-i4) (fun t H'=>H7=H'∧PeI a b (i4+t) j4 v c4) (fun t=>[(0,.slice (some ⟨r,0,none⟩) n cap),(1,vi a),(9,vi ((i4+t:Nat):Int)),(10,vi ((j4:Nat):Int))]) (fun _=>[]) ⟨rfl,pi4⟩ ⟨rfl,rfl,rfl,rfl,trivial⟩ trivial ?_
  rintro t _ ht ⟨rfl,pit⟩
  have q1:=pit.ai
  have q2:=pit.ij
  have q3:=pit.jb
  have q4:=pit.eq
  refine wkT ?_
  refine wiT (fun z1=>?_) (fun z1=>?_)
  ·refine wkT ?_
   refine Zak a rfl rfl rfl (by omega) ?_
   refine wkT ?_
   refine Zaf (hs _) rfl (ar4.cA (by omega) rfl) ?_
   rw[q4]
   refine wkT ?_
   refine Zak (i4+t) rfl rfl rfl (by omega) ?_
   refine wkT ?_
   refine Zaf (hs _) rfl (ar4.cA (by omega) rfl) ?_
   refine wkT ?_
   refine Zab (vs:=[vi v,vi (el c4 (i4+t))]) rfl (ZbB _ _) ?_
   rintro w _ ⟨rfl,rfl⟩
   refine wkT ?_
   refine wiT (fun z2=>?_) (fun z2=>?_)
   ·refine wkT ?_
    refine⟨⟨t+1,by omega⟩,slt (by omega),⟨rfl,q4,fun k k1 k2=>?_,pit.hi,?_,?_,pit.jb⟩,⟨rfl,rfl,rfl,rfl,trivial⟩,trivial,rfl⟩
    ·have k2:k<i4+(t+1):=k2
     by_cases e:k=i4+t
     ·subst e;omega
     ·exact pit.lo k k1 (by omega)
    ·show a+1<=i4+(t+1);omega
    ·show i4+(t+1)<=j4+1;omega
   ·refine wkT ?_
    exact⟨i4+t,⟨rfl,pit,.inr (by omega),by omega⟩,⟨rfl,rfl,rfl,rfl,trivial⟩,trivial,rfl⟩
  ·refine wkT ?_
   exact⟨i4+t,⟨rfl,pit,.inl (by omega),by omega⟩,⟨rfl,rfl,rfl,rfl,trivial⟩,trivial,rfl⟩
 rintro i5 _ ⟨rfl,pi5,st5,gi5⟩
 refine wbT ?_
 refine ZbX (fun (j:Nat) H'=>H7=H'∧PeI a b i5 j v c4∧(j<i5∨el c4 j<=v)∧(i5<=j->v<el c4 i5)∧j<=j4) (fun j=>[(0,.slice (some ⟨r,0,none⟩) n cap),(1,vi a),(9,vi ((i5:Nat):Int)),(10,vi ((j:Nat):Int))]) (fun _=>[]) ?_ ?_
 ·refine wkT ?_
  refine ZaW (j4+1-i5) (fun t H'=>H7=H'∧PeI a b i5 (j4-t) v c4) (fun t=>[(0,.slice (some ⟨r,0,none⟩) n cap),(1,vi a),(9,vi ((i5:Nat):Int)),(10,vi ((j4-t:Nat):Int))]) (fun _=>[]) ⟨rfl,pi5⟩ ⟨rfl,rfl,rfl,rfl,trivial⟩ trivial ?_
  rintro t _ ht ⟨rfl,pit⟩
  have q1:=pit.ai
  have q2:=pit.ij
  have q3:=pit.jb
  have q4:=pit.eq
  have q5:=pi5.ij
  have q6:=pi5.jb
  obtain⟨jj,hjj⟩:∃ jj,j4-t=jj:=⟨_,rfl⟩
  rw[hjj]at pit q2 q3 ⊢
  refine wkT ?_
  refine wiT (fun z1=>?_) (fun z1=>?_)
  ·refine wkT ?_
   refine Zak a rfl rfl rfl (by omega) ?_
   refine wkT ?_
   refine Zaf (hs _) rfl (ar4.cA (by omega) rfl) ?_
   rw[q4]
   refine wkT ?_
   refine Zak jj rfl rfl rfl (by omega) ?_
   refine wkT ?_
   refine Zaf (hs _) rfl (ar4.cA (by omega) rfl) ?_
   refine wkT ?_
   refine Zab (vs:=[vi v,vi (el c4 jj)]) rfl (ZbB _ _) ?_
   rintro w _ ⟨rfl,rfl⟩
   refine wkT ?_
   refine wiT (fun z2=>?_) (fun z2=>?_)
   ·refine wkT ?_
    refine⟨⟨t+1,by omega⟩,slt (by omega),⟨rfl,q4,pit.lo,fun k k1 k2=>?_,pit.ai,?_,?_⟩,⟨rfl,rfl,rfl,?_,trivial⟩,trivial,rfl⟩
    ·have k1:j4-(t+1)<k:=k1
     by_cases e:k=jj
     ·subst e;exact z2
     ·exact pit.hi k (by omega) k2
    ·show i5<=j4-(t+1)+1;omega
    ·show j4-(t+1)+1<=b;omega
    ·show some (vi ((jj:Int)-1))=some (vi ((j4-(t+1):Nat):Int))
     congr 2;omega
   ·refine wkT ?_
    exact⟨jj,⟨rfl,pit,.inr (by omega),fun h=>by have:=st5;omega,by omega⟩,⟨rfl,rfl,rfl,rfl,trivial⟩,trivial,rfl⟩
  ·refine wkT ?_
   exact⟨jj,⟨rfl,pit,.inl (by omega),fun h=>by omega,by omega⟩,⟨rfl,rfl,rfl,rfl,trivial⟩,trivial,rfl⟩
 rintro j6 _ ⟨rfl,pj6,sj6,sk6,gj6⟩
 have x1:=pj6.ai
 have x2:=pj6.ij
 have x3:=pj6.jb
 refine wbT ?_
 refine Zbn ?_
 refine wkT ?_
 refine wiT (fun g2=>?_) (fun g2=>?_)
 ·refine wkT ?_
  exact⟨c4,i5,ar4,rg4,pj6.fin (by omega),rfl⟩
 ·have hij':i5<=j6:=by omega
  have hne':i5≠j6:=fun e=>by
   have h1:=sk6 hij'
   rw[e]at h1
   rcases sj6 with h | h<;>omega
  have pi9:=pj6.swap hij' (sk6 hij') (by rcases sj6 with h | h<;>omega) (by omega)
  have rg9:Rg a b l (swp c4 i5 j6):=.step _ _ rg4 (by omega) (by omega) (by omega) (by omega)
  refine wkT ?_
  refine Zak j6 rfl rfl (by omega) (by omega) ?_
  refine wkT ?_
  refine Zaf (Loud.loud _) rfl (AR.cA ar4 (by omega) rfl) ?_
  refine wkT ?_
  refine Zak i5 rfl rfl (by omega) (by omega) ?_
  refine wkT ?_
  refine Zaf (Loud.loud _) rfl (AR.cA ar4 (by omega) rfl) ?_
  refine wkT ?_
  refine Zak i5 rfl rfl (by omega) (by omega) ?_
  refine wkT ?_
  refine ZaN ar4 (by omega) (Zbg _ _) rfl rfl fun HW arW=>?_
  refine kp_l Loud.loud ?_
  refine wkT ?_
  refine Zak j6 rfl rfl (by omega) (by omega) ?_
  refine wkT ?_
  refine ZaN arW (by rw[List.length_set];omega) (Zbg _ _) rfl rfl fun H9 ar9=>?_
  refine wkT ?_
  refine⟨(⟨b-1+1-(a+1)-(j6-1+1-(i5+1)),by omega⟩,(swp c4 i5 j6,i5+1,j6-1)),?_,⟨ar9,rg9,pi9,?_⟩,⟨rfl,rfl,rfl,?_,trivial⟩,trivial,rfl⟩
  ·show b-1+1-(a+1)-(b-1+1-(a+1)-(j6-1+1-(i5+1)))<b-1+1-(a+1)-t0
   omega
  ·show j6-1+1-(i5+1)+(b-1+1-(a+1)-(j6-1+1-(i5+1)))=b-1+1-(a+1)
   omega
  ·show some (vi ((j6:Int)-1))=some (vi ((j6-1:Nat):Int))
   congr 2;omega
end
structure Ctr (H H':Hp)(r2:Nat)(s:Nat):Prop where
 keep:∀ b x,b≠r2->H b=some x->H' b=some x
 at_:H' r2=some (.cells #[vi s] 3 (0,0),true)
theorem Ctr.trans {H H' H'':Hp}{r2 s s':Nat}(h:Ctr H H' r2 s)(h':Ctr H' H'' r2 s'):Ctr H H'' r2 s':=⟨fun b x hb hx=>h'.keep b x hb (h.keep b x hb hx),h'.at_⟩
theorem Ctr.arr {H H':Hp}{r r2 s:Nat}{l:List Int}{rest:List Value}(h:Ctr H H' r2 s)(hA:H r=some (.cells (encs l++rest).toArray 3 (0,0),true))(hr:r≠r2):H' r=some (.cells (encs l++rest).toArray 3 (0,0),true):=h.keep _ _ hr hA
section
variable  {P:Prg}[Tz P][Loud P]{H:Hp}
set_option maxHeartbeats 1000000
theorem ZfS {r cap x y n r2 s:Nat}{l:List Int}{rest:List Value}(hA:H r=some (.cells (encs l++rest).toArray 3 (0,0),true))(hn:l.length=n)(hx:x<n)(hy:y<n)(hr:r≠r2)(h2:H r2=some (.cells #[vi s] 3 (0,0),true))(hs2:s<=1000) :
  LL.Zag P 240 #[.slice (some ⟨r,0,none⟩) n cap,vi x,vi y,pt r2] H fun v H'=>∃ s' x' y':Nat,Ctr H H' r2 s'∧s'<=s+1∧v=.tuple #[vi x',vi y']∧((x'=x∧y'=y)∨(x'=y∧y'=x)):=by
 have hs:=Loud.loud (P:=P)
 refine IsN.m (isn c215) (args:=[.slice (some ⟨r,0,none⟩) n cap,vi x,vi y,pt r2]) rfl ?_
 unfold n215
 have ar0:=AR.of hA
 refine wkT ?_
 refine Zak y rfl rfl rfl (by omega) ?_
 refine wkT ?_
 refine Zaf (hs _) rfl (ar0.cA (by omega) rfl) ?_
 refine wkT ?_
 refine Zak x rfl rfl rfl (by omega) ?_
 refine wkT ?_
 refine Zaf (hs _) rfl (ar0.cA (by omega) rfl) ?_
 refine wkT ?_
 refine Zab (vs:=[vi (el l y),vi (el l x)]) rfl (ZbB _ _) ?_
 rintro v _ ⟨rfl,rfl⟩
 refine wkT ?_
 refine wiT (fun h1=>?_) (fun h1=>?_)
 ·refine wkT ?_
  refine ZbT rfl ?_
  refine wkT ?_
  refine Zaf (hs _) rfl (Zan (cs:=[vi s]) h2) ?_
  refine wkT ?_
  refine ZbT rfl ?_
  refine wkT ?_
  refine Zaw (tif t3) rfl rfl h2 rfl rfl (hs _) ?_
  refine wkT ?_
  exact⟨s+1,y,x,⟨fun b z hb hz=>by rw[Hp.ins_other _ _ hb];exact hz,Hp.ins_same _ _ _⟩,Nat.le_refl _,rfl,.inr ⟨rfl,rfl⟩⟩
 ·refine wkT ?_
  exact⟨s,x,y,⟨fun b z hb hz=>hz,h2⟩,by omega,rfl,.inl ⟨rfl,rfl⟩⟩
theorem ZiB {r cap x y z n r2 s:Nat}{l:List Int}{rest:List Value}(hA:H r=some (.cells (encs l++rest).toArray 3 (0,0),true))(hn:l.length=n)(hx:x<n)(hy:y<n)(hz:z<n)(hr:r≠r2)(h2:H r2=some (.cells #[vi s] 3 (0,0),true))(hs2:s<=900) :
  LL.Zag P 229 #[.slice (some ⟨r,0,none⟩) n cap,vi x,vi y,vi z,pt r2] H fun v H'=>∃ s' q:Nat,Ctr H H' r2 s'∧s'<=s+3∧v=vi q∧(q=x∨q=y∨q=z):=by
 have hs:=Loud.loud (P:=P)
 refine IsN.m (isn c206) (args:=[.slice (some ⟨r,0,none⟩) n cap,vi x,vi y,vi z,pt r2]) rfl ?_
 unfold n206
 refine wkT ?_
 refine Zab (vs:=[.slice (some ⟨r,0,none⟩) n cap,vi x,vi y,pt r2]) rfl (ZfS hA hn hx hy hr h2 (by omega)) ?_
 rintro v H1 ⟨s1,x1,y1,k1,g1,rfl,p1⟩
 refine wkT ?_
 refine Zab (vs:=[.slice (some ⟨r,0,none⟩) n cap,vi y1,vi z,pt r2]) rfl (ZfS (k1.arr hA hr) hn (by omega) hz hr k1.at_ (by omega)) ?_
 rintro v H2 ⟨s2,y2,z2,k2,g2,rfl,p2⟩
 refine wkT ?_
 refine Zab (vs:=[.slice (some ⟨r,0,none⟩) n cap,vi x1,vi y2,pt r2]) rfl (ZfS (k2.arr (k1.arr hA hr) hr) hn (by omega) (by omega) hr k2.at_ (by omega)) ?_
 rintro v H3 ⟨s3,x3,y3,k3,g3,rfl,p3⟩
 refine wkT ?_
 exact⟨s3,y3,(k1.trans k2).trans k3,by omega,rfl,by omega⟩
theorem ZdS {r cap x n r2 s:Nat}{l:List Int}{rest:List Value}(hA:H r=some (.cells (encs l++rest).toArray 3 (0,0),true))(hn:l.length=n)(h0:1<=x)(hx:x+1<n)(hl:n<=1000000)(hr:r≠r2)(h2:H r2=some (.cells #[vi s] 3 (0,0),true))(hs2:s<=900) :
  LL.Zag P 228 #[.slice (some ⟨r,0,none⟩) n cap,vi x,pt r2] H fun v H'=>∃ s' q:Nat,Ctr H H' r2 s'∧s'<=s+3∧v=vi q∧(q+1=x∨q=x∨q=x+1):=by
 have hs:=Loud.loud (P:=P)
 refine IsN.m (isn c205) (args:=[.slice (some ⟨r,0,none⟩) n cap,vi x,pt r2]) rfl ?_
 unfold n205
 have e1:((x:Int)-1)=((x-1:Nat):Int):=by omega
 have e2:((x:Int)+1)=((x+1:Nat):Int):=by omega
 refine wkT ?_
 rw[e1,e2]
 refine Zab (vs:=[.slice (some ⟨r,0,none⟩) n cap,vi (x-1:Nat),vi x,vi (x+1:Nat),pt r2]) rfl (ZiB hA hn (by omega) (by omega) hx hr h2 hs2) ?_
 rintro v H1 ⟨s1,q,k1,g1,rfl,p1⟩
 refine wkT ?_
 exact⟨s1,q,k1,g1,rfl,by omega⟩
theorem ZmN {r cap a b n:Nat}{l:List Int}{rest:List Value}(hA:H r=some (.cells (encs l++rest).toArray 3 (0,0),true))(hn:l.length=n)(hab:a+12<b)(hb:b<=n)(hl:n<=1000000) :
  LL.Zag P 197 #[.slice (some ⟨r,0,none⟩) n cap,vi a,vi b] H fun v H'=>∃ q h:Nat,Inc H H'∧v=.tuple #[vi q,vi h]∧a<=q∧q<b:=by
 have hs:=Loud.loud (P:=P)
 refine IsN.m (isn c182) (args:=[.slice (some ⟨r,0,none⟩) n cap,vi a,vi b]) rfl ?_
 unfold n182
 obtain⟨d,rfl⟩:∃ d,b=a+d:=⟨b-a,by omega⟩
 have ed:(((a+d:Nat):Int)-(a:Int))=(d:Int):=by omega
 have e4:((d:Int)).tdiv 4=((d / 4:Nat):Int):=by rw[Int.tdiv_eq_ediv_of_nonneg (by omega)];omega
 refine wkT ?_
 rw[ed]
 refine Zav (tif t3) (hs _) fun r2 hr2=>?_
 have hr:r≠r2:=by rintro rfl;rw[hA]at hr2;simp at hr2
 have hA1:(H.ins r2 (.cells (vi 0).cells 3)) r=some (.cells (encs l++rest).toArray 3 (0,0),true):=by rw[Hp.ins_other _ _ hr];exact hA
 have k0:Ctr H (H.ins r2 (.cells (vi 0).cells 3)) r2 0:=⟨fun b z hb hz=>by rw[Hp.ins_other _ _ hb];exact hz,Hp.ins_same _ _ _⟩
 generalize H.ins r2 (.cells (vi 0).cells 3)=H1 at *
 have hinc:∀ H' s,Ctr H1 H' r2 s->Inc H H':=fun H' s k b z hz=>by
  have hb:b≠r2:=by rintro rfl;rw[hz]at hr2;simp at hr2
  exact k.keep b z hb (k0.keep b z hb hz)
 refine wkT ?_
 refine ZfV rfl rfl (by decide) (by rw[e4];exact⟨by omega,by omega⟩) ?_
 rw[e4]
 generalize hm:d / 4=m at *
 refine wkT ?_
 refine ZgS rfl rfl ⟨by omega,by omega⟩ ?_
 refine wkT ?_
 refine ZfV rfl rfl (by decide) (by rw[e4];exact⟨by omega,by omega⟩) ?_
 rw[e4]
 refine wkT ?_
 refine ZgS rfl rfl ⟨by omega,by omega⟩ ?_
 refine wkT ?_
 refine ZfV rfl rfl (by decide) (by rw[e4];exact⟨by omega,by omega⟩) ?_
 rw[e4]
 refine wkT ?_
 refine ZgS rfl rfl ⟨by omega,by omega⟩ ?_
 refine wbT ?_
 refine ZbX (fun (x:Nat×Nat) H'=>Ctr H1 H' r2 x.1∧a<=x.2∧x.2<a+d) (fun x=>[(9,pt r2),(11,vi (x.2:Nat))]) (fun _=>[]) ?_ ?_
 ·refine wbT ?_
  refine wiT (fun g1=>?_) (fun g1=>?_)
  ·refine wbT ?_
   refine ZbX (fun (x:Nat×Nat×Nat×Nat) H'=>Ctr H1 H' r2 x.1∧x.1<=9∧x.2.1<a+d∧a<=x.2.1∧x.2.2.1<a+d∧a<=x.2.2.1∧x.2.2.2<a+d∧a<=x.2.2.2) (fun x=>[(0,.slice (some ⟨r,0,none⟩) n cap),(9,pt r2),(10,vi (x.2.1:Nat)),(11,vi (x.2.2.1:Nat)),(12,vi (x.2.2.2:Nat))]) (fun _=>[]) ?_ ?_
   ·have h1:((a:Int)+(m:Int) * 1)=((a+m:Nat):Int):=by omega
    have h2:((a:Int)+(m:Int) * 2)=((a+m * 2:Nat):Int):=by omega
    have h3:((a:Int)+(m:Int) * 3)=((a+m * 3:Nat):Int):=by omega
    rw[h1,h2,h3]
    refine wkT ?_
    refine wiT (fun g2=>?_) (fun g2=>?_)
    ·refine wkT ?_
     refine Zab (vs:=[.slice (some ⟨r,0,none⟩) n cap,vi (a+m:Nat),pt r2]) rfl (ZdS (s:=0) hA1 hn (by omega) (by omega) hl hr k0.at_ (by omega)) ?_
     rintro v H2 ⟨s2,q2,k2,w2,rfl,p2⟩
     refine wkT ?_
     refine Zab (vs:=[.slice (some ⟨r,0,none⟩) n cap,vi (a+m * 2:Nat),pt r2]) rfl (ZdS (k2.arr hA1 hr) hn (by omega) (by omega) hl hr k2.at_ (by omega)) ?_
     rintro v H3 ⟨s3,q3,k3,w3,rfl,p3⟩
     refine wkT ?_
     refine Zab (vs:=[.slice (some ⟨r,0,none⟩) n cap,vi (a+m * 3:Nat),pt r2]) rfl (ZdS (k3.arr (k2.arr hA1 hr) hr) hn (by omega) (by omega) hl hr k3.at_ (by omega)) ?_
     rintro v H4 ⟨s4,q4,k4,w4,rfl,p4⟩
     refine wkT ?_
     exact⟨(s4,q2,q3,q4),⟨(k2.trans k3).trans k4,by show s4<=9;omega,by show q2<a+d;omega,by show a<=q2;omega,by show q3<a+d;omega,by show a<=q3;omega,by show q4<a+d;omega,by show a<=q4;omega⟩,⟨rfl,rfl,rfl,rfl,rfl,trivial⟩,trivial,rfl⟩
    ·refine wkT ?_
     exact⟨(0,a+m,a+m * 2,a+m * 3),⟨⟨fun _ _ _ h=>h,k0.at_⟩,by show 0<=9;omega,by show a+m<a+d;omega,by show a<=a+m;omega,by show a+m * 2<a+d;omega,by show a<=a+m * 2;omega,by show a+m * 3<a+d;omega,by show a<=a+m * 3;omega⟩,⟨rfl,rfl,rfl,rfl,rfl,trivial⟩,trivial,rfl⟩
   ·rintro⟨s5,i5,j5,k5⟩ H5 ⟨c5,b5,b6,b7,b8,b9,b10,b11⟩
    simp only at c5 b5 b6 b7 b8 b9 b10 b11
    refine wkT ?_
    refine Zab (vs:=[.slice (some ⟨r,0,none⟩) n cap,vi i5,vi j5,vi k5,pt r2]) rfl (ZiB (c5.arr hA1 hr) hn (by omega) (by omega) (by omega) hr c5.at_ (by omega)) ?_
    rintro v H6 ⟨s6,q6,k6,w6,rfl,p6⟩
    refine wkT ?_
    exact⟨(s6,q6),⟨c5.trans k6,by show a<=q6;omega,by show q6<a+d;omega⟩,⟨rfl,rfl,trivial⟩,trivial,rfl⟩
  ·exact absurd g1 (by omega)
 ·rintro⟨s7,q7⟩ H7 ⟨c7,b7,b8⟩
  simp only at c7 b7 b8
  refine wkT ?_
  refine Zaf (hs _) rfl (Zan (cs:=[vi s7]) c7.at_) ?_
  refine wkT ?_
  refine wiT (fun g3=>?_) (fun g3=>?_)
  ·refine wkT ?_
   exact⟨q7,1,hinc _ _ c7,rfl,b7,b8⟩
  ·refine wkT ?_
   refine wiT (fun g4=>?_) (fun g4=>?_)
   ·refine wkT ?_
    exact⟨q7,2,hinc _ _ c7,rfl,b7,b8⟩
   ·refine wkT ?_
    exact⟨q7,0,hinc _ _ c7,rfl,b7,b8⟩
end
theorem qLtI0 {G:Prop} (h:G:=by
  refine wkT ?_
  exact⟨(⟨t0+1,by omega⟩,(c3,i)),slt (by omega),⟨ar6,rg6,by show a+1<=i;omega,by show i<=b;omega,so6⟩,⟨rfl,rfl,rfl,rfl,rfl,trivial⟩,trivial,rfl⟩):G:=h
section
variable  {P:Prg}[Tz P][Loud P]{H:Hp}
set_option maxHeartbeats 1000000
theorem ZkM {r cap a b n:Nat}{l:List Int}{rest:List Value}(hA:H r=some (.cells (encs l++rest).toArray 3 (0,0),true))(hn:l.length=n)(hab:a<b)(hb:b<=n)(hl:n<=1000000) :
  LL.Zag P 198 #[.slice (some ⟨r,0,none⟩) n cap,vi a,vi b] H fun v H'=>∃ l',AR H H' r l' rest∧Rg a b l l':=by
 have hs:=Loud.loud (P:=P)
 refine IsN.m (isn c183) (args:=[.slice (some ⟨r,0,none⟩) n cap,vi a,vi b]) rfl ?_
 unfold n183
 refine wkT ?_
 refine ZaO (α:=List Int) b (fun t c H'=>AR H H' r c rest∧Rg a b l c) (fun t c=>[(0,.slice (some ⟨r,0,none⟩) n cap),(6,vi ((a+t:Nat):Int)),(7,vi ((b:Int)-1-(t:Nat)))]) (fun _ _=>[]) l ⟨AR.of hA,.refl l⟩ ⟨rfl,rfl,?_,trivial⟩ trivial ?_
 ·show some (vi _)=some (vi _)
  congr 2;omega
 rintro t c H1 ht ⟨ar,rg⟩
 have hcl:=rg.len
 refine wkT ?_
 refine wiT (fun g1=>?_) (fun g1=>?_)
 ·obtain⟨j,hj⟩:∃ j:Nat,(b:Int)-1-(t:Nat)=(j:Int):=⟨b-1-t,by omega⟩
  rw[hj]
  have hij:a+t<j:=by omega
  have hjb:j<b:=by omega
  refine wkT ?_
  refine Zak j rfl rfl (by omega) (by omega) ?_
  refine wkT ?_
  refine Zaf (Loud.loud _) rfl (AR.cA ar (by omega) rfl) ?_
  refine wkT ?_
  refine Zak (a+t) rfl rfl (by omega) (by omega) ?_
  refine wkT ?_
  refine Zaf (Loud.loud _) rfl (AR.cA ar (by omega) rfl) ?_
  refine wkT ?_
  refine Zak (a+t) rfl rfl (by omega) (by omega) ?_
  refine wkT ?_
  refine ZaN ar (by omega) (Zbg _ _) rfl rfl fun HW arW=>?_
  refine kp_l Loud.loud ?_
  refine wkT ?_
  refine Zak j rfl rfl (by omega) (by omega) ?_
  refine wkT ?_
  refine ZaN arW (by rw[List.length_set];omega) (Zbg _ _) rfl rfl fun H4 ar4=>?_
  refine wkT ?_
  refine⟨(⟨t+1,by omega⟩,swp c (a+t) j),slt (by omega),⟨ar4,.step _ _ rg (by omega) (by omega) (by omega) hjb⟩,⟨rfl,rfl,?_,trivial⟩,trivial,rfl⟩
  show some (vi ((j:Int)-1))=some (vi ((b:Int)-1-((t+1:Nat):Int)))
  congr 2;omega
 ·refine wkT ?_
  exact⟨c,ar,rg⟩
def Low (a b:Nat)(c:List Int):Prop:=a=0∨∀ k,a<=k->k<b->el c (a-1)<=el c k
theorem Low.rg {a b:Nat}{c c':List Int}(h:Low a b c)(rg:Rg a b c c')(hb:b<=c.length):Low a b c':=by
 rcases h with h | h
 ·exact .inl h
 ·by_cases h0:a=0
  ·exact .inl h0
  ·right
   rw[rg.out hb (.inl (by omega))]
   exact rg.all hb (p:=fun v=>el c (a-1)<=v) h
theorem ZkU {r cap a b n:Nat}{l:List Int}{rest:List Value}(hA:H r=some (.cells (encs l++rest).toArray 3 (0,0),true))(hn:l.length=n)(hab:a<b)(hb:b<=n)(hl:n<=1000000)(lw:Low a b l) :
  LL.Zag P 199 #[.slice (some ⟨r,0,none⟩) n cap,vi a,vi b] H fun v H'=>∃ (l':List Int) (t:Bool),AR H H' r l' rest∧Rg a b l l'∧v=vb t∧(t=true->So a b l'):=by
 have hs:=Loud.loud (P:=P)
 refine IsN.m (isn c184) (args:=[.slice (some ⟨r,0,none⟩) n cap,vi a,vi b]) rfl ?_
 unfold n184
 refine wkT ?_
 refine ZaO (α:=List Int×Nat) 5 (fun t s H'=>AR H H' r s.1 rest∧Rg a b l s.1∧a+1<=s.2∧s.2<=b∧So a s.2 s.1) (fun t s=>[(0,.slice (some ⟨r,0,none⟩) n cap),(1,vi a),(2,vi b),(7,vi (s.2:Nat)),(8,vi (t:Nat))]) (fun _ _=>[]) (l,a+1) ⟨AR.of hA,.refl l,Nat.le_refl _,by show a+1<=b;omega,Zey l (Nat.le_refl _)⟩ ⟨rfl,rfl,rfl,rfl,rfl,trivial⟩ trivial ?_
 rintro t0 ⟨c,i0⟩ H1 ht0 ⟨ar,rg,hi1,hi2,so⟩
 simp only at ar rg hi1 hi2 so
 have hcl:=rg.len
 refine wkT ?_
 refine wiT (fun g1=>?_) (fun g1=>?_)
 ·refine wbT ?_
  refine Zbn ?_
  refine wbT ?_
  refine ZbX (fun (i:Nat) H'=>H1=H'∧i0<=i∧i<=b∧So a i c∧(i=b∨el c i<el c (i-1))) (fun i=>[(0,.slice (some ⟨r,0,none⟩) n cap),(1,vi a),(2,vi b),(7,vi (i:Nat)),(8,vi (t0:Nat))]) (fun _=>[]) ?_ ?_
  ·refine wkT ?_
   refine ZaW (b-i0) (fun t H'=>H1=H'∧So a (i0+t) c) (fun t=>[(0,.slice (some ⟨r,0,none⟩) n cap),(1,vi a),(2,vi b),(7,vi (i0+t:Nat)),(8,vi (t0:Nat))]) (fun _=>[]) ⟨rfl,so⟩ ⟨rfl,rfl,rfl,rfl,rfl,trivial⟩ trivial ?_
   rintro t _ ht ⟨rfl,sot⟩
   refine wkT ?_
   refine wiT (fun z1=>?_) (fun z1=>?_)
   ·refine wkT ?_
    refine Zak (i0+t) rfl rfl rfl (by omega) ?_
    refine wkT ?_
    refine Zaf (hs _) rfl (ar.cA (by omega) rfl) ?_
    refine wkT ?_
    refine Zak (i0+t-1) rfl rfl (by omega) (by omega) ?_
    refine wkT ?_
    refine Zaf (hs _) rfl (ar.cA (by omega) rfl) ?_
    refine wkT ?_
    refine Zab (vs:=[vi (el c (i0+t)),vi (el c (i0+t-1))]) rfl (ZbB _ _) ?_
    rintro w _ ⟨rfl,rfl⟩
    refine wkT ?_
    refine wiT (fun z2=>?_) (fun z2=>?_)
    ·refine wkT ?_
     refine⟨⟨t+1,by omega⟩,slt (by omega),⟨rfl,?_⟩,⟨rfl,rfl,rfl,rfl,rfl,trivial⟩,trivial,rfl⟩
     refine Zib fun x x1 x2=>?_
     have x2:x+1<i0+(t+1):=x2
     by_cases e:x+1=i0+t
     ·rw[e,show x=i0+t-1 by omega];omega
     ·exact sot x (x+1) x1 (by omega) (by omega)
    ·refine wkT ?_
     exact⟨i0+t,⟨rfl,by omega,by omega,sot,.inr (by omega)⟩,⟨rfl,rfl,rfl,rfl,rfl,trivial⟩,trivial,rfl⟩
   ·refine wkT ?_
    exact⟨i0+t,⟨rfl,by omega,by omega,sot,.inl (by omega)⟩,⟨rfl,rfl,rfl,rfl,rfl,trivial⟩,trivial,rfl⟩
  rintro i _ ⟨rfl,hi3,hi4,soi,st⟩
  refine wbT ?_
  refine Zbn ?_
  refine wbT ?_
  refine wiT (fun g2=>?_) (fun g2=>?_)
  ·have:i=b:=by omega
   subst this
   refine wkT ?_
   exact⟨c,true,ar,rg,rfl,fun _=>soi⟩
  ·have hib:i<b:=by omega
   refine wbT ?_
   refine Zbn ?_
   refine wbT ?_
   refine wiT (fun g3=>?_) (fun g3=>?_)
   ·refine wkT ?_
    exact⟨c,false,ar,rg,rfl,fun h=>by simp at h⟩
   ·refine wbT ?_
    refine Zak (i-1) rfl rfl (by omega) (by omega) ?_
    refine wkT ?_
    refine Zaf (Loud.loud _) rfl (AR.cA ar (by omega) rfl) ?_
    refine wkT ?_
    refine Zak i rfl rfl (by omega) (by omega) ?_
    refine wkT ?_
    refine Zaf (Loud.loud _) rfl (AR.cA ar (by omega) rfl) ?_
    refine wkT ?_
    refine Zak i rfl rfl (by omega) (by omega) ?_
    refine wkT ?_
    refine ZaN ar (by omega) (Zbg _ _) rfl rfl fun HW arW=>?_
    refine kp_l Loud.loud ?_
    refine wkT ?_
    refine Zak (i-1) rfl rfl (by omega) (by omega) ?_
    refine wkT ?_
    refine ZaN arW (by rw[List.length_set];omega) (Zbg _ _) rfl rfl fun H4 ar4=>?_
    have esw:(c.set i (el c (i-1))).set (i-1) (el c i)=swp c i (i-1):=rfl
    rw[esw]at ar4
    have rg4:Rg a b l (swp c i (i-1)):=.step _ _ rg (by omega) (by omega) (by omega) (by omega)
    have es4:∀ x,x<i-1->el (swp c i (i-1)) x=el c x:=fun x hx=>by rw[Zce _ (by omega) (by omega),if_neg (by omega),if_neg (by omega)]
    generalize swp c i (i-1)=c1 at *
    have hc1:=rg4.len
    refine wbT ?_
    refine ZbX (fun (c2:List Int) H'=>AR H H' r c2 rest∧Rg a b l c2∧So a i c2) (fun _=>[(0,.slice (some ⟨r,0,none⟩) n cap),(1,vi a),(2,vi b),(7,vi (i:Nat)),(8,vi (t0:Nat))]) (fun _=>[]) ?_ ?_
    ·refine wbT ?_
     refine wiT (fun g4=>?_) (fun g4=>?_)
     ·have g4:a+2<=i:=by omega
      refine wkT ?_
      refine ZaO (α:=List Int) (i-1) (fun t c2 H'=>AR H H' r c2 rest∧Rg a b l c2∧a<=i-1-t∧(∀ x y,a<=x->x<=y->y<i->x≠i-1-t->y≠i-1-t->el c2 x<=el c2 y)∧(∀ y,i-1-t<y->y<i->el c2 (i-1-t)<=el c2 y)) (fun t _=>[(0,.slice (some ⟨r,0,none⟩) n cap),(1,vi a),(2,vi b),(7,vi (i:Nat)),(8,vi (t0:Nat)),(9,vi (i-1-t:Nat))]) (fun _ _=>[]) c1 ⟨ar4,rg4,by omega,?_,fun y y1 y2=>by omega⟩ ⟨rfl,rfl,rfl,rfl,rfl,?_,trivial⟩ trivial ?_
      ·intro x y x1 x2 x3 x4 x5
       rw[es4 x (by omega),es4 y (by omega)]
       exact soi x y x1 x2 (by omega)
      ·show some (vi ((i:Int)-1))=some (vi ((i-1-0:Nat):Int))
       congr 2;omega
      rintro t c2 H5 ht ⟨ar5,rg5,hja,so5,lo5⟩
      have hc5:=rg5.len
      have lw5:=lw.rg rg5 (by omega)
      obtain⟨j,hj⟩:∃ j,i-1-t=j:=⟨_,rfl⟩
      rw[hj]at hja so5 lo5 ⊢
      have fin:(a<j->el c2 (j-1)<=el c2 j)->So a i c2:=fun hh=>Zib fun x x1 x2=>by
       by_cases e1:x=j
       ·subst e1;exact lo5 _ (by omega) (by omega)
       ·by_cases e2:x+1=j
        ·subst e2;exact hh (by omega)
        ·exact so5 _ _ x1 (by omega) (by omega) e1 e2
      refine wkT ?_
      refine wiT (fun z1=>?_) (fun z1=>?_)
      ·refine wkT ?_
       refine Zak j rfl rfl rfl (by omega) ?_
       refine wkT ?_
       refine Zaf (hs _) rfl (ar5.cA (by omega) rfl) ?_
       refine wkT ?_
       refine Zak (j-1) rfl rfl (by omega) (by omega) ?_
       refine wkT ?_
       refine Zaf (hs _) rfl (ar5.cA (by omega) rfl) ?_
       refine wkT ?_
       refine Zab (vs:=[vi (el c2 j),vi (el c2 (j-1))]) rfl (ZbB _ _) ?_
       rintro w _ ⟨rfl,rfl⟩
       refine wkT ?_
       refine wiT (fun z2=>?_) (fun z2=>?_)
       ·refine wkT ?_
        exact⟨c2,⟨ar5,rg5,fin fun _=>by omega⟩,⟨rfl,rfl,rfl,rfl,rfl,trivial⟩,trivial,rfl⟩
       ·have haj:a<j:=by
         refine Classical.byContradiction fun hh=>?_
         have hja':j=a:=by omega
         rcases lw5 with h | h
         ·omega
         ·have:=h j (by omega) (by omega)
          rw[<-hja']at this
          omega
        refine wkT ?_
        refine Zak (j-1) rfl rfl (by omega) (by omega) ?_
        refine wkT ?_
        refine Zaf (Loud.loud _) rfl (AR.cA ar5 (by omega) rfl) ?_
        refine wkT ?_
        refine Zak j rfl rfl (by omega) (by omega) ?_
        refine wkT ?_
        refine Zaf (Loud.loud _) rfl (AR.cA ar5 (by omega) rfl) ?_
        refine wkT ?_
        refine Zak j rfl rfl (by omega) (by omega) ?_
        refine wkT ?_
        refine ZaN ar5 (by omega) (Zbg _ _) rfl rfl fun HW arW=>?_
        refine kp_l Loud.loud ?_
        refine wkT ?_
        refine Zak (j-1) rfl rfl (by omega) (by omega) ?_
        refine wkT ?_
        refine ZaN arW (by rw[List.length_set];omega) (Zbg _ _) rfl rfl fun H6 ar6=>?_
        refine wkT ?_
        have hel1:∀ x,x≠j-1->el (swp c2 j (j-1)) x=if x=j then el c2 (j-1) else el c2 x:=fun x hx=>by rw[Zce _ (by omega) (by omega),if_neg hx]
        have hel0:el (swp c2 j (j-1)) (j-1)=el c2 j:=by rw[Zce _ (by omega) (by omega),if_pos rfl]
        have hjk:i-1-(t+1)=j-1:=by omega
        refine⟨(⟨t+1,by omega⟩,swp c2 j (j-1)),(by show i-1-(t+1)<j;omega),⟨ar6,.step _ _ rg5 (by omega) (by omega) (by omega) (by omega),?_,?_,?_⟩,⟨rfl,rfl,rfl,rfl,rfl,?_,trivial⟩,trivial,rfl⟩
        ·show a<=i-1-(t+1);omega
        ·show ∀ x y,a<=x->x<=y->y<i->x≠i-1-(t+1)->y≠i-1-(t+1)->_
         intro x y h1 h2 h3 h4 h5
         rw[hjk]at h4 h5
         rw[hel1 x h4,hel1 y h5]
         by_cases hx:x=j
         ·rw[if_pos hx]
          by_cases hy:y=j
          ·rw[if_pos hy];exact Int.le_refl _
          ·rw[if_neg hy];exact so5 _ _ (by omega) (by omega) h3 (by omega) hy
         ·rw[if_neg hx]
          by_cases hy:y=j
          ·rw[if_pos hy];exact so5 _ _ h1 (by omega) (by omega) hx (by omega)
          ·rw[if_neg hy];exact so5 _ _ h1 h2 h3 hx hy
        ·show ∀ y,i-1-(t+1)<y->y<i->el (swp c2 j (j-1)) (i-1-(t+1))<=_
         intro y h1 h2
         rw[hjk]at h1 ⊢
         rw[hel0,hel1 y (by omega)]
         by_cases hy:y=j
         ·rw[if_pos hy];omega
         ·rw[if_neg hy];exact lo5 _ (by omega) h2
        ·show some (vi ((j:Int)-1))=some (vi ((i-1-(t+1):Nat):Int))
         congr 2;omega
      ·refine wkT ?_
       exact⟨c2,⟨ar5,rg5,fin fun h=>by omega⟩,⟨rfl,rfl,rfl,rfl,rfl,trivial⟩,trivial,rfl⟩
     ·refine wkT ?_
      exact⟨c1,⟨ar4,rg4,Zey _ (by omega)⟩,⟨rfl,rfl,rfl,rfl,rfl,trivial⟩,trivial,rfl⟩
    rintro c2 H5 ⟨ar5,rg5,so5⟩
    have hc5:=rg5.len
    refine wbT ?_
    refine wiT (fun g5=>?_) (fun g5=>?_)
    ·refine wkT ?_
     refine ZaO (α:=List Int) b (fun t c3 H'=>AR H H' r c3 rest∧Rg a b l c3∧So a i c3) (fun t _=>[(0,.slice (some ⟨r,0,none⟩) n cap),(1,vi a),(2,vi b),(7,vi (i:Nat)),(8,vi (t0:Nat)),(10,vi (i+1+t:Nat))]) (fun _ _=>[]) c2 ⟨ar5,rg5,so5⟩ ⟨rfl,rfl,rfl,rfl,rfl,rfl,trivial⟩ trivial ?_
     rintro t c3 H6 ht ⟨ar6,rg6,so6⟩
     have hc6:=rg6.len
     refine wkT ?_
     refine wiT (fun z1=>?_) (fun z1=>?_)
     ·refine wkT ?_
      refine Zak (i+1+t) rfl rfl rfl (by omega) ?_
      refine wkT ?_
      refine Zaf (hs _) rfl (ar6.cA (by omega) rfl) ?_
      refine wkT ?_
      refine Zak (i+t) rfl rfl (by omega) (by omega) ?_
      refine wkT ?_
      refine Zaf (hs _) rfl (ar6.cA (by omega) rfl) ?_
      refine wkT ?_
      refine Zab (vs:=[vi (el c3 (i+1+t)),vi (el c3 (i+t))]) rfl (ZbB _ _) ?_
      rintro w _ ⟨rfl,rfl⟩
      refine wkT ?_
      refine wiT (fun z2=>?_) (fun z2=>?_)
      ·exact qLtI0
      ·refine wkT ?_
       refine Zak (i+t) rfl rfl (by omega) (by omega) ?_
       refine wkT ?_
       refine Zaf (Loud.loud _) rfl (AR.cA ar6 (by omega) rfl) ?_
       refine wkT ?_
       refine Zak (i+1+t) rfl rfl (by omega) (by omega) ?_
       refine wkT ?_
       refine Zaf (Loud.loud _) rfl (AR.cA ar6 (by omega) rfl) ?_
       refine wkT ?_
       refine Zak (i+1+t) rfl rfl (by omega) (by omega) ?_
       refine wkT ?_
       refine ZaN ar6 (by omega) (Zbg _ _) rfl rfl fun HW arW=>?_
       refine kp_l Loud.loud ?_
       refine wkT ?_
       refine Zak (i+t) rfl rfl (by omega) (by omega) ?_
       refine wkT ?_
       refine ZaN arW (by rw[List.length_set];omega) (Zbg _ _) rfl rfl fun H8 ar8=>?_
       refine wkT ?_
       refine⟨(⟨t+1,by omega⟩,swp c3 (i+1+t) (i+t)),slt (by omega),⟨ar8,.step _ _ rg6 (by omega) (by omega) (by omega) (by omega),?_⟩,⟨rfl,rfl,rfl,rfl,rfl,rfl,trivial⟩,trivial,rfl⟩
       intro x y x1 x2 x3
       rw[Zce _ (by omega) (by omega),Zce _ (by omega) (by omega),if_neg (by omega),if_neg (by omega),if_neg (by omega),if_neg (by omega)]
       exact so6 x y x1 x2 x3
     ·exact qLtI0
    ·refine wkT ?_
     exact⟨(⟨t0+1,by omega⟩,(c2,i)),slt (by omega),⟨ar5,rg5,by show a+1<=i;omega,by show i<=b;omega,so5⟩,⟨rfl,rfl,rfl,rfl,rfl,trivial⟩,trivial,rfl⟩
 ·refine wkT ?_
  exact⟨c,false,ar,rg,rfl,fun h=>by simp at h⟩
end
end Go.Proofs
end
