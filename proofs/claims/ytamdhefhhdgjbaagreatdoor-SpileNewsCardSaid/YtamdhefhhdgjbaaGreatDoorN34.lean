import Derived.Test.YtamdhefhhdgjbaaGreatDoorN33
set_option linter.all false
section
open Go Go.LL
namespace Go.Proofs
structure PtI (a b i j:Nat)(v:Int)(c:List Int):Prop where
 eq:el c a=v
 lo:∀ k,a+1<=k->k<i->el c k<v
 hi:∀ k,j<k->k<b->v<=el c k
 ai:a+1<=i
 ij:i<=j+1
 jb:j+1<=b
theorem PtI.swap {a b i j:Nat}{v:Int}{c:List Int}(h:PtI a b i j v c)(hij:i<=j)(h1:v<=el c i)(h2:el c j<v)(hl:b<=c.length):PtI a b (i+1) (j-1) v (swp c i j):=by
 have g1:=h.ai
 have g3:=h.jb
 have hne:i≠j:=fun e=>by subst e;omega
 have es:∀ x,el (swp c i j) x=if x=j then el c i else if x=i then el c j else el c x:=fun x=>Zcv x (by omega) (by omega)
 refine⟨by rw[es,if_neg (by omega),if_neg (by omega)];exact h.eq,fun k k1 k2=>?_,fun k k1 k2=>?_,by omega,by omega,by omega⟩
 ·rw[es,if_neg (by omega)]
  by_cases e:k=i
  ·rw[if_pos e];exact h2
  ·rw[if_neg e];exact h.lo k k1 (by omega)
 ·rw[es]
  by_cases e:k=j
  ·rw[if_pos e];exact h1
  ·rw[if_neg e,if_neg (by omega)];exact h.hi k (by omega) k2
def PtQ (a b:Nat)(l':List Int)(p:Nat):Prop:=a<=p∧p<b∧(∀ k,a<=k->k<p->el l' k<=el l' p)∧∀ k,p<k->k<b->el l' p<=el l' k
theorem PtI.fin {a b i j:Nat}{v:Int}{c:List Int}(h:PtI a b i j v c)(hij:j<i)(hl:b<=c.length):PtQ a b (swp c j a) j:=by
 have g1:=h.ai
 have g2:=h.ij
 have g3:=h.jb
 have es:∀ x,el (swp c j a) x=if x=a then el c j else if x=j then el c a else el c x:=fun x=>Zcv x (by omega) (by omega)
 have ej:el (swp c j a) j=v:=by
  rw[es]
  by_cases e:j=a
  ·rw[if_pos e,e];exact h.eq
  ·rw[if_neg e,if_pos rfl];exact h.eq
 refine⟨by omega,by omega,fun k k1 k2=>?_,fun k k1 k2=>?_⟩
 ·rw[ej,es]
  by_cases e:k=a
  ·rw[if_pos e];exact Int.le_of_lt (h.lo j (by omega) (by omega))
  ·rw[if_neg e,if_neg (by omega)];exact Int.le_of_lt (h.lo k (by omega) (by omega))
 ·rw[ej,es,if_neg (by omega),if_neg (by omega)]
  exact h.hi k k1 k2
theorem nc_so {P:Prg}{l:List NI}{b:Zaj}{Qe:Ex->NSt->Hp->Prop}{σ:NSt}{H:Hp}(h:(Zaj.ops l).m P (NEx.then (b.m P Qe) Qe) σ H):(Zaj.seq (.ops l) b).m P Qe σ H:=Zbx h
theorem nc_sd {P:Prg}{l:List (NI×Option Bool)}{b:Zaj}{Qe:Ex->NSt->Hp->Prop}{σ:NSt}{H:Hp}(h:(Zaj.drawn l).m P (NEx.then (b.m P Qe) Qe) σ H):(Zaj.seq (.drawn l) b).m P Qe σ H:=Zbx h
theorem wbT {G G':Prop}(x:G') (h:Wr G'->G:=by
  intro xWr
  repeat (first | (with_reducible refine nc_so ?_) | (with_reducible refine nc_sd ?_) | ((fail_if_success (with_reducible refine Zbx ?_));first
   | (with_reducible refine mo_n ?_)
   | ((with_reducible apply ZhG);exact rfl)
   | ((with_reducible apply Zf0);exact rfl)
   | ((with_reducible apply Zdz);(first | exact rfl | assumption | exact Loud.loud _);exact rfl;exact rfl;exact rfl)
   | ((with_reducible apply ZiB);(first | exact rfl | assumption | exact Loud.loud _);exact rfl;exact rfl;exact rfl)
   | ((with_reducible apply Zlm);exact rfl;exact rfl;exact rfl)
   | ((with_reducible apply Zln);exact rfl;exact rfl;exact rfl)
   | ((with_reducible apply Zlo);exact rfl;exact rfl;exact rfl)
   | ((with_reducible apply Zlp);exact rfl;exact rfl;exact rfl)
   | ((with_reducible apply Zlq);exact rfl;exact rfl;exact rfl)
   | ((with_reducible apply Zlk);exact rfl;exact rfl;exact rfl)
   | ((with_reducible apply Zlr);exact rfl;exact rfl;(refine⟨?_,?_⟩<;>omega))
   | ((with_reducible apply Zlj);exact rfl;exact rfl;(refine⟨?_,?_⟩<;>omega))
   | ((with_reducible apply ZjB);exact rfl)
   | ((with_reducible apply ZhE);exact rfl)
   | ((with_reducible apply Zfb);exact rfl)
   | ((with_reducible apply Zfa);exact rfl;exact rfl)
   | ((with_reducible apply ZhD);exact rfl)
   | ((with_reducible apply ZhI);exact rfl;exact rfl)
   | ((with_reducible apply om_fld1);exact rfl;exact rfl)
   | ((with_reducible apply om_fldn);exact rfl)
   | ((with_reducible apply ZfZ);(first | exact rfl | assumption | exact Loud.loud _))
   | ((with_reducible apply ZiC);(first | exact rfl | assumption | exact Loud.loud _);exact rfl)
   | ((with_reducible apply ZiA);(first | exact rfl | assumption | exact Loud.loud _);exact rfl;exact rfl;exact rfl;exact rfl;exact rfl;exact rfl)
   | ((with_reducible apply Ziz);(first | exact rfl | assumption | exact Loud.loud _);exact rfl;exact rfl;exact rfl;exact rfl;exact rfl;exact rfl)
   | ((with_reducible apply Zf2);exact rfl)
   | ((with_reducible apply mo_g);exact rfl)
   | ((with_reducible apply mo_s);exact rfl;exact rfl)
   | ((with_reducible apply mo_k);exact rfl)
   | (with_reducible refine ZhN ?_)
   | (with_reducible refine Zfk ?_)
   | (with_reducible refine Zbx ?_)
   | (with_reducible refine ZhM ?_)
   | (with_reducible refine ZdU ?_)
   | (with_reducible refine Zfd ?_)
   | (with_reducible refine ZhL ?_)
   | (with_reducible refine Zff ?_)
   | (with_reducible refine ZcX ?_)
   | (with_reducible refine ZcY ?_)
   | (with_reducible refine Zmw ?_)
   | (with_reducible refine Zfn ?_)
   | (with_reducible refine Zfm ?_)
   | ((with_reducible apply Zfl);exact rfl)
   | ((with_reducible apply ZcU);exact rfl)
   | ((with_reducible apply ZcV);exact rfl)
   | ((with_reducible apply Zf4);(first | exact rfl | assumption | exact Loud.loud _))
   | ((with_reducible apply fm_n);(first | exact rfl | assumption | exact Loud.loud _))
   | ((with_reducible apply fm_g);(first | exact rfl | assumption | exact Loud.loud _);exact rfl)
   | ((with_reducible apply fm_s);(first | exact rfl | assumption | exact Loud.loud _);exact rfl;exact rfl)
   | ((with_reducible apply fm_k);(first | exact rfl | assumption | exact Loud.loud _);exact rfl)
   | (with_reducible refine ZlG ?_)
   | (with_reducible refine kp_n ?_)
   | (with_reducible refine kp_r ?_)
   | (with_reducible refine Zog ?_)
   | (with_reducible refine ZdD ?_)
   | (with_reducible refine ZfA ?_)
   | ((with_reducible apply Zde);exact rfl;exact rfl;exact rfl)
   | ((with_reducible apply ZiK);exact rfl;exact rfl;(first | exact rfl | assumption | exact Loud.loud _);exact rfl)))
  exact xWr.out):G:=h ⟨x⟩
section
variable  {P:Prg}[Tz P][Loud P]{H:Hp}
set_option maxHeartbeats 1000000
theorem Zjv {r cap a b p n:Nat}{l:List Int}{rest:List Value}(hA:H r=some (.cells (encs l++rest).toArray 3 (0,0),true))(hn:l.length=n)(hap:a<=p)(hpb:p<b)(hb:b<=n)(hl:n<=1000000) :
  LL.Zai P 187 #[.slice (some ⟨r,0,none⟩) n cap,vi a,vi b,vi p] H fun v H'=>∃ l' q t,AR H H' r l' rest∧Rg a b l l'∧PtQ a b l' q∧v=.tuple #[vi (q:Nat),vb t]:=by
 have hs:=Loud.loud (P:=P)
 refine IsN.m (isn c187) (args:=[.slice (some ⟨r,0,none⟩) n cap,vi a,vi b,vi p]) rfl ?_
 unfold n187
 have ar0:=AR.of hA
 refine wkT ?_
 refine Zak p rfl rfl (by omega) (by omega) ?_
 refine wkT ?_
 refine Zaf (Loud.loud _) rfl (AR.cA ar0 (by omega) rfl) ?_
 refine wkT ?_
 refine Zak a rfl rfl (by omega) (by omega) ?_
 refine wkT ?_
 refine Zaf (Loud.loud _) rfl (AR.cA ar0 (by omega) rfl) ?_
 refine wkT ?_
 refine Zak a rfl rfl (by omega) (by omega) ?_
 refine wkT ?_
 refine ZaW ar0 (by omega) (Zbo _ _) rfl rfl fun HW arW=>?_
 refine kp_l Loud.loud ?_
 refine wkT ?_
 refine Zak p rfl rfl (by omega) (by omega) ?_
 refine wkT ?_
 refine ZaW arW (by rw[List.length_set];omega) (Zbo _ _) rfl rfl fun H1 ar1=>?_
 refine wbT ?_
 have esw:(l.set a (el l p)).set p (el l a)=swp l a p:=rfl
 rw[esw]at ar1
 have rg1:Rg a b l (swp l a p):=.step _ _ (.refl l) (by omega) (by omega) (by omega) (by omega)
 have ev:el (swp l a p) a=el l p:=by
  rw[Zcv _ (by omega) (by omega)]
  by_cases e:a=p
  ·rw[if_pos e,e]
  ·rw[if_neg e,if_pos rfl]
 have pi1:PtI a b (a+1) (b-1) (el l p) (swp l a p):=⟨ev,fun k h1 h2=>by omega,fun k h1 h2=>by omega,by omega,by omega,by omega⟩
 generalize swp l a p=c1 at *
 have ej0:((b:Int)-1)=((b-1:Nat):Int):=by omega
 rw[ej0]
 generalize el l p=v at *
 have hc1:=rg1.len
 refine wbT ?_
 refine Zcb (fun (i:Nat) H'=>H1=H'∧PtI a b i (b-1) v c1∧((b-1)<i∨v<=el c1 i)∧(a+1)<=i) (fun i=>[(0,.slice (some ⟨r,0,none⟩) n cap),(1,vi a),(10,vi ((i:Nat):Int)),(11,vi (((b-1):Nat):Int))]) (fun _=>[]) ?_ ?_
 ·refine wkT ?_
  refine ZaP ((b-1)+1-(a+1)) (fun t H'=>H1=H'∧PtI a b ((a+1)+t) (b-1) v c1) (fun t=>[(0,.slice (some ⟨r,0,none⟩) n cap),(1,vi a),(10,vi (((a+1)+t:Nat):Int)),(11,vi (((b-1):Nat):Int))]) (fun _=>[]) ⟨rfl,pi1⟩ ⟨rfl,rfl,rfl,rfl,trivial⟩ trivial ?_
  rintro t _ ht ⟨rfl,pit⟩
  have q1:=pit.ai
  have q2:=pit.ij
  have q3:=pit.jb
  have q4:=pit.eq
  refine wkT ?_
  refine wiT (fun z1=>?_) (fun z1=>?_)
  ·refine wkT ?_
   refine Zak ((a+1)+t) rfl rfl rfl (by omega) ?_
   refine wkT ?_
   refine Zaf (hs _) rfl (ar1.cA (by omega) rfl) ?_
   refine wkT ?_
   refine Zak a rfl rfl rfl (by omega) ?_
   refine wkT ?_
   refine Zaf (hs _) rfl (ar1.cA (by omega) rfl) ?_
   rw[q4]
   refine wkT ?_
   refine Zab (vs:=[vi (el c1 ((a+1)+t)),vi v]) rfl (ZbM _ _) ?_
   rintro w _ ⟨rfl,rfl⟩
   refine wkT ?_
   refine wiT (fun z2=>?_) (fun z2=>?_)
   ·refine wkT ?_
    refine⟨⟨t+1,by omega⟩,slt (by omega),⟨rfl,q4,fun k k1 k2=>?_,pit.hi,?_,?_,pit.jb⟩,⟨rfl,rfl,rfl,rfl,trivial⟩,trivial,rfl⟩
    ·have k2:k<(a+1)+(t+1):=k2
     by_cases e:k=(a+1)+t
     ·subst e;exact z2
     ·exact pit.lo k k1 (by omega)
    ·show a+1<=(a+1)+(t+1);omega
    ·show (a+1)+(t+1)<=(b-1)+1;omega
   ·refine wkT ?_
    exact⟨(a+1)+t,⟨rfl,pit,.inr (by omega),by omega⟩,⟨rfl,rfl,rfl,rfl,trivial⟩,trivial,rfl⟩
  ·refine wkT ?_
   exact⟨(a+1)+t,⟨rfl,pit,.inl (by omega),by omega⟩,⟨rfl,rfl,rfl,rfl,trivial⟩,trivial,rfl⟩
 rintro i2 _ ⟨rfl,pi2,st2,gi2⟩
 refine wbT ?_
 refine Zcb (fun (j:Nat) H'=>H1=H'∧PtI a b i2 j v c1∧(j<i2∨el c1 j<v)∧(i2<=j->v<=el c1 i2)∧j<=(b-1)) (fun j=>[(0,.slice (some ⟨r,0,none⟩) n cap),(1,vi a),(10,vi ((i2:Nat):Int)),(11,vi ((j:Nat):Int))]) (fun _=>[]) ?_ ?_
 ·refine wkT ?_
  refine ZaP ((b-1)+1-i2) (fun t H'=>H1=H'∧PtI a b i2 ((b-1)-t) v c1) (fun t=>[(0,.slice (some ⟨r,0,none⟩) n cap),(1,vi a),(10,vi ((i2:Nat):Int)),(11,vi (((b-1)-t:Nat):Int))]) (fun _=>[]) ⟨rfl,pi2⟩ ⟨rfl,rfl,rfl,rfl,trivial⟩ trivial ?_
  rintro t _ ht ⟨rfl,pit⟩
  have q1:=pit.ai
  have q2:=pit.ij
  have q3:=pit.jb
  have q4:=pit.eq
  have q5:=pi2.ij
  have q6:=pi2.jb
  obtain⟨jj,hjj⟩:∃ jj,(b-1)-t=jj:=⟨_,rfl⟩
  rw[hjj]at pit q2 q3 ⊢
  refine wkT ?_
  refine wiT (fun z1=>?_) (fun z1=>?_)
  ·refine wkT ?_
   refine Zak jj rfl rfl rfl (by omega) ?_
   refine wkT ?_
   refine Zaf (hs _) rfl (ar1.cA (by omega) rfl) ?_
   refine wkT ?_
   refine Zak a rfl rfl rfl (by omega) ?_
   refine wkT ?_
   refine Zaf (hs _) rfl (ar1.cA (by omega) rfl) ?_
   rw[q4]
   refine wkT ?_
   refine Zab (vs:=[vi (el c1 jj),vi v]) rfl (ZbM _ _) ?_
   rintro w _ ⟨rfl,rfl⟩
   refine wkT ?_
   refine wiT (fun z2=>?_) (fun z2=>?_)
   ·refine wkT ?_
    refine⟨⟨t+1,by omega⟩,slt (by omega),⟨rfl,q4,pit.lo,fun k k1 k2=>?_,pit.ai,?_,?_⟩,⟨rfl,rfl,rfl,?_,trivial⟩,trivial,rfl⟩
    ·have k1:(b-1)-(t+1)<k:=k1
     by_cases e:k=jj
     ·subst e;omega
     ·exact pit.hi k (by omega) k2
    ·show i2<=(b-1)-(t+1)+1;omega
    ·show (b-1)-(t+1)+1<=b;omega
    ·show some (vi ((jj:Int)-1))=some (vi (((b-1)-(t+1):Nat):Int))
     congr 2;omega
   ·refine wkT ?_
    exact⟨jj,⟨rfl,pit,.inr (by omega),fun h=>by have:=st2;omega,by omega⟩,⟨rfl,rfl,rfl,rfl,trivial⟩,trivial,rfl⟩
  ·refine wkT ?_
   exact⟨jj,⟨rfl,pit,.inl (by omega),fun h=>by omega,by omega⟩,⟨rfl,rfl,rfl,rfl,trivial⟩,trivial,rfl⟩
 rintro j3 _ ⟨rfl,pj3,sj3,sk3,gj3⟩
 have w1:=pj3.ai
 have w2:=pj3.ij
 have w3:=pj3.jb
 refine wbT ?_
 refine Zbx ?_
 refine wkT ?_
 refine wiT (fun g1=>?_) (fun g1=>?_)
 ·refine wkT ?_
  refine Zak a rfl rfl (by omega) (by omega) ?_
  refine wkT ?_
  refine Zaf (Loud.loud _) rfl (AR.cA ar1 (by omega) rfl) ?_
  refine wkT ?_
  refine Zak j3 rfl rfl (by omega) (by omega) ?_
  refine wkT ?_
  refine Zaf (Loud.loud _) rfl (AR.cA ar1 (by omega) rfl) ?_
  refine wkT ?_
  refine Zak j3 rfl rfl (by omega) (by omega) ?_
  refine wkT ?_
  refine ZaW ar1 (by omega) (Zbo _ _) rfl rfl fun HW arW=>?_
  refine kp_l Loud.loud ?_
  refine wkT ?_
  refine Zak a rfl rfl (by omega) (by omega) ?_
  refine wkT ?_
  refine ZaW arW (by rw[List.length_set];omega) (Zbo _ _) rfl rfl fun H5 ar5=>?_
  refine wkT ?_
  exact⟨swp c1 j3 a,j3,true,ar5,.step _ _ rg1 (by omega) (by omega) (by omega) (by omega),pj3.fin (by omega) (by omega),rfl⟩
 ·have hij:i2<=j3:=by omega
  have hne:i2≠j3:=fun e=>by
   have h1:=sk3 hij
   rw[e]at h1
   rcases sj3 with h | h<;>omega
  have pi4:=pj3.swap hij (sk3 hij) (by rcases sj3 with h | h<;>omega) (by omega)
  have rg4:Rg a b l (swp c1 i2 j3):=.step _ _ rg1 (by omega) (by omega) (by omega) (by omega)
  refine wbT ?_
  refine Zak j3 rfl rfl (by omega) (by omega) ?_
  refine wkT ?_
  refine Zaf (Loud.loud _) rfl (AR.cA ar1 (by omega) rfl) ?_
  refine wkT ?_
  refine Zak i2 rfl rfl (by omega) (by omega) ?_
  refine wkT ?_
  refine Zaf (Loud.loud _) rfl (AR.cA ar1 (by omega) rfl) ?_
  refine wkT ?_
  refine Zak i2 rfl rfl (by omega) (by omega) ?_
  refine wkT ?_
  refine ZaW ar1 (by omega) (Zbo _ _) rfl rfl fun HW arW=>?_
  refine kp_l Loud.loud ?_
  refine wkT ?_
  refine Zak j3 rfl rfl (by omega) (by omega) ?_
  refine wkT ?_
  refine ZaW arW (by rw[List.length_set];omega) (Zbo _ _) rfl rfl fun H5 ar5=>?_
  have esw:(c1.set i2 (el c1 j3)).set j3 (el c1 i2)=swp c1 i2 j3:=rfl
  rw[esw]at ar5
  generalize swp c1 i2 j3=c3 at *
  have ej3:((j3:Int)-1)=((j3-1:Nat):Int):=by omega
  refine wbT ?_
  rw[ej3]
  refine Zbx ?_
  refine wbT ?_
  refine Zax (α:=List Int×Nat×Nat) (j3-1+1-(i2+1)) (fun t s H'=>AR H H' r s.1 rest∧Rg a b l s.1∧PtI a b s.2.1 s.2.2 v s.1∧s.2.2+1-s.2.1+t=j3-1+1-(i2+1)) (fun t s=>[(0,.slice (some ⟨r,0,none⟩) n cap),(1,vi a),(10,vi ((s.2.1:Nat):Int)),(11,vi ((s.2.2:Nat):Int))]) (fun _ _=>[]) (c3,i2+1,j3-1) ⟨ar5,rg4,pi4,by show j3-1+1-(i2+1)+0=_;omega⟩ ⟨rfl,rfl,rfl,rfl,trivial⟩ trivial ?_
  rintro t0 ⟨c4,i4,j4⟩ H7 ht0 ⟨ar4,rg4',pi4',hm⟩
  clear pi4
  have pi4:=pi4'
  clear pi4'
  simp only at ar4 rg4' pi4 hm
  have hc4:=rg4'.len
  have y1:=pi4.ai
  have y2:=pi4.ij
  have y3:=pi4.jb
  refine wbT ?_
  refine Zcb (fun (i:Nat) H'=>H7=H'∧PtI a b i j4 v c4∧(j4<i∨v<=el c4 i)∧i4<=i) (fun i=>[(0,.slice (some ⟨r,0,none⟩) n cap),(1,vi a),(10,vi ((i:Nat):Int)),(11,vi ((j4:Nat):Int))]) (fun _=>[]) ?_ ?_
  ·refine wkT ?_
   refine ZaP (j4+1-i4) (fun t H'=>H7=H'∧PtI a b (i4+t) j4 v c4) (fun t=>[(0,.slice (some ⟨r,0,none⟩) n cap),(1,vi a),(10,vi ((i4+t:Nat):Int)),(11,vi ((j4:Nat):Int))]) (fun _=>[]) ⟨rfl,pi4⟩ ⟨rfl,rfl,rfl,rfl,trivial⟩ trivial ?_
   rintro t _ ht ⟨rfl,pit⟩
   have q1:=pit.ai
   have q2:=pit.ij
   have q3:=pit.jb
   have q4:=pit.eq
   refine wkT ?_
   refine wiT (fun z1=>?_) (fun z1=>?_)
   ·refine wkT ?_
    refine Zak (i4+t) rfl rfl rfl (by omega) ?_
    refine wkT ?_
    refine Zaf (hs _) rfl (ar4.cA (by omega) rfl) ?_
    refine wkT ?_
    refine Zak a rfl rfl rfl (by omega) ?_
    refine wkT ?_
    refine Zaf (hs _) rfl (ar4.cA (by omega) rfl) ?_
    rw[q4]
    refine wkT ?_
    refine Zab (vs:=[vi (el c4 (i4+t)),vi v]) rfl (ZbM _ _) ?_
    rintro w _ ⟨rfl,rfl⟩
    refine wkT ?_
    refine wiT (fun z2=>?_) (fun z2=>?_)
    ·refine wkT ?_
     refine⟨⟨t+1,by omega⟩,slt (by omega),⟨rfl,q4,fun k k1 k2=>?_,pit.hi,?_,?_,pit.jb⟩,⟨rfl,rfl,rfl,rfl,trivial⟩,trivial,rfl⟩
     ·have k2:k<i4+(t+1):=k2
      by_cases e:k=i4+t
      ·subst e;exact z2
      ·exact pit.lo k k1 (by omega)
     ·show a+1<=i4+(t+1);omega
     ·show i4+(t+1)<=j4+1;omega
    ·refine wkT ?_
     exact⟨i4+t,⟨rfl,pit,.inr (by omega),by omega⟩,⟨rfl,rfl,rfl,rfl,trivial⟩,trivial,rfl⟩
   ·refine wkT ?_
    exact⟨i4+t,⟨rfl,pit,.inl (by omega),by omega⟩,⟨rfl,rfl,rfl,rfl,trivial⟩,trivial,rfl⟩
  rintro i5 _ ⟨rfl,pi5,st5,gi5⟩
  refine wbT ?_
  refine Zcb (fun (j:Nat) H'=>H7=H'∧PtI a b i5 j v c4∧(j<i5∨el c4 j<v)∧(i5<=j->v<=el c4 i5)∧j<=j4) (fun j=>[(0,.slice (some ⟨r,0,none⟩) n cap),(1,vi a),(10,vi ((i5:Nat):Int)),(11,vi ((j:Nat):Int))]) (fun _=>[]) ?_ ?_
  ·refine wkT ?_
   refine ZaP (j4+1-i5) (fun t H'=>H7=H'∧PtI a b i5 (j4-t) v c4) (fun t=>[(0,.slice (some ⟨r,0,none⟩) n cap),(1,vi a),(10,vi ((i5:Nat):Int)),(11,vi ((j4-t:Nat):Int))]) (fun _=>[]) ⟨rfl,pi5⟩ ⟨rfl,rfl,rfl,rfl,trivial⟩ trivial ?_
   rintro t _ ht ⟨rfl,pit⟩
   have q1:=pit.ai
   have q2:=pit.ij
   have q3:=pit.jb
   have q4:=pit.eq
   have q5:=pi5.ij
   have q6:=pi5.jb
   obtain⟨jj,hjj⟩:∃ jj,j4-t=jj:=⟨_,rfl⟩
   rw[hjj]at pit q2 q3 ⊢
   refine wkT ?_
   refine wiT (fun z1=>?_) (fun z1=>?_)
   ·refine wkT ?_
    refine Zak jj rfl rfl rfl (by omega) ?_
    refine wkT ?_
    refine Zaf (hs _) rfl (ar4.cA (by omega) rfl) ?_
    refine wkT ?_
    refine Zak a rfl rfl rfl (by omega) ?_
    refine wkT ?_
    refine Zaf (hs _) rfl (ar4.cA (by omega) rfl) ?_
    rw[q4]
    refine wkT ?_
    refine Zab (vs:=[vi (el c4 jj),vi v]) rfl (ZbM _ _) ?_
    rintro w _ ⟨rfl,rfl⟩
    refine wkT ?_
    refine wiT (fun z2=>?_) (fun z2=>?_)
    ·refine wkT ?_
     refine⟨⟨t+1,by omega⟩,slt (by omega),⟨rfl,q4,pit.lo,fun k k1 k2=>?_,pit.ai,?_,?_⟩,⟨rfl,rfl,rfl,?_,trivial⟩,trivial,rfl⟩
     ·have k1:j4-(t+1)<k:=k1
      by_cases e:k=jj
      ·subst e;omega
      ·exact pit.hi k (by omega) k2
     ·show i5<=j4-(t+1)+1;omega
     ·show j4-(t+1)+1<=b;omega
     ·show some (vi ((jj:Int)-1))=some (vi ((j4-(t+1):Nat):Int))
      congr 2;omega
    ·refine wkT ?_
     exact⟨jj,⟨rfl,pit,.inr (by omega),fun h=>by have:=st5;omega,by omega⟩,⟨rfl,rfl,rfl,rfl,trivial⟩,trivial,rfl⟩
   ·refine wkT ?_
    exact⟨jj,⟨rfl,pit,.inl (by omega),fun h=>by omega,by omega⟩,⟨rfl,rfl,rfl,rfl,trivial⟩,trivial,rfl⟩
  rintro j6 _ ⟨rfl,pj6,sj6,sk6,gj6⟩
  have x1:=pj6.ai
  have x2:=pj6.ij
  have x3:=pj6.jb
  refine wbT ?_
  refine Zbx ?_
  refine wkT ?_
  refine wiT (fun g2=>?_) (fun g2=>?_)
  ·refine wkT ?_
   refine Zak a rfl rfl (by omega) (by omega) ?_
   refine wkT ?_
   refine Zaf (Loud.loud _) rfl (AR.cA ar4 (by omega) rfl) ?_
   refine wkT ?_
   refine Zak j6 rfl rfl (by omega) (by omega) ?_
   refine wkT ?_
   refine Zaf (Loud.loud _) rfl (AR.cA ar4 (by omega) rfl) ?_
   refine wkT ?_
   refine Zak j6 rfl rfl (by omega) (by omega) ?_
   refine wkT ?_
   refine ZaW ar4 (by omega) (Zbo _ _) rfl rfl fun HW arW=>?_
   refine kp_l Loud.loud ?_
   refine wkT ?_
   refine Zak a rfl rfl (by omega) (by omega) ?_
   refine wkT ?_
   refine ZaW arW (by rw[List.length_set];omega) (Zbo _ _) rfl rfl fun H9 ar9=>?_
   refine wkT ?_
   exact⟨swp c4 j6 a,j6,false,ar9,.step _ _ rg4' (by omega) (by omega) (by omega) (by omega),pj6.fin (by omega) (by omega),rfl⟩
  ·have hij':i5<=j6:=by omega
   have hne':i5≠j6:=fun e=>by
    have h1:=sk6 hij'
    rw[e]at h1
    rcases sj6 with h | h<;>omega
   have pi9:=pj6.swap hij' (sk6 hij') (by rcases sj6 with h | h<;>omega) (by omega)
   have rg9:Rg a b l (swp c4 i5 j6):=.step _ _ rg4' (by omega) (by omega) (by omega) (by omega)
   refine wkT ?_
   refine Zak j6 rfl rfl (by omega) (by omega) ?_
   refine wkT ?_
   refine Zaf (Loud.loud _) rfl (AR.cA ar4 (by omega) rfl) ?_
   refine wkT ?_
   refine Zak i5 rfl rfl (by omega) (by omega) ?_
   refine wkT ?_
   refine Zaf (Loud.loud _) rfl (AR.cA ar4 (by omega) rfl) ?_
   refine wkT ?_
   refine Zak i5 rfl rfl (by omega) (by omega) ?_
   refine wkT ?_
   refine ZaW ar4 (by omega) (Zbo _ _) rfl rfl fun HW arW=>?_
   refine kp_l Loud.loud ?_
   refine wkT ?_
   refine Zak j6 rfl rfl (by omega) (by omega) ?_
   refine wkT ?_
   refine ZaW arW (by rw[List.length_set];omega) (Zbo _ _) rfl rfl fun H9 ar9=>?_
   refine wkT ?_
   refine⟨(⟨j3-1+1-(i2+1)-(j6-1+1-(i5+1)),by omega⟩,(swp c4 i5 j6,i5+1,j6-1)),?_,⟨ar9,rg9,pi9,?_⟩,⟨rfl,rfl,rfl,?_,trivial⟩,trivial,rfl⟩
   ·show j3-1+1-(i2+1)-(j3-1+1-(i2+1)-(j6-1+1-(i5+1)))<j3-1+1-(i2+1)-t0
    omega
   ·show j6-1+1-(i5+1)+(j3-1+1-(i2+1)-(j6-1+1-(i5+1)))=j3-1+1-(i2+1)
    omega
   ·show some (vi ((j6:Int)-1))=some (vi ((j6-1:Nat):Int))
    congr 2;omega
end
structure PeI (a b i j:Nat)(v:Int)(c:List Int):Prop where
 eq:el c a=v
 lo:∀ k,a+1<=k->k<i->el c k<=v
 hi:∀ k,j<k->k<b->v<el c k
 ai:a+1<=i
 ij:i<=j+1
 jb:j+1<=b
theorem PeI.swap {a b i j:Nat}{v:Int}{c:List Int}(h:PeI a b i j v c)(hij:i<=j)(h1:v<el c i)(h2:el c j<=v)(hl:b<=c.length):PeI a b (i+1) (j-1) v (swp c i j):=by
 have g1:=h.ai
 have g3:=h.jb
 have hne:i≠j:=fun e=>by subst e;omega
 have es:∀ x,el (swp c i j) x=if x=j then el c i else if x=i then el c j else el c x:=fun x=>Zcv x (by omega) (by omega)
 refine⟨by rw[es,if_neg (by omega),if_neg (by omega)];exact h.eq,fun k k1 k2=>?_,fun k k1 k2=>?_,by omega,by omega,by omega⟩
 ·rw[es,if_neg (by omega)]
  by_cases e:k=i
  ·rw[if_pos e];exact h2
  ·rw[if_neg e];exact h.lo k k1 (by omega)
 ·rw[es]
  by_cases e:k=j
  ·rw[if_pos e];exact h1
  ·rw[if_neg e,if_neg (by omega)];exact h.hi k (by omega) k2
def PeQ (a b:Nat)(l':List Int)(i:Nat)(v:Int):Prop:=a<i∧i<=b∧(∀ k,a<=k->k<i->el l' k<=v)∧∀ k,i<=k->k<b->v<el l' k
theorem PeI.fin {a b i j:Nat}{v:Int}{c:List Int}(h:PeI a b i j v c)(hij:j<i):PeQ a b c i v:=by
 have g1:=h.ai
 have g2:=h.ij
 have g3:=h.jb
 refine⟨by omega,by omega,fun k k1 k2=>?_,fun k k1 k2=>h.hi k (by omega) k2⟩
 by_cases e:k=a
 ·rw[e,h.eq];exact Int.le_refl _
 ·exact h.lo k (by omega) k2
section
variable  {P:Prg}[Tz P][Loud P]{H:Hp}
set_option maxHeartbeats 1000000
theorem ZnK {r cap a b p n:Nat}{l:List Int}{rest:List Value}(hA:H r=some (.cells (encs l++rest).toArray 3 (0,0),true))(hn:l.length=n)(hap:a<=p)(hpb:p<b)(hb:b<=n)(hl:n<=1000000) :
  LL.Zai P 186 #[.slice (some ⟨r,0,none⟩) n cap,vi a,vi b,vi p] H fun v H'=>∃ l' q,AR H H' r l' rest∧Rg a b l l'∧PeQ a b l' q (el l p)∧v=vi (q:Nat):=by
 have hs:=Loud.loud (P:=P)
 refine IsN.m (isn c186) (args:=[.slice (some ⟨r,0,none⟩) n cap,vi a,vi b,vi p]) rfl ?_
 unfold n186
 have ar0:=AR.of hA
 refine wkT ?_
 refine Zak p rfl rfl (by omega) (by omega) ?_
 refine wkT ?_
 refine Zaf (Loud.loud _) rfl (AR.cA ar0 (by omega) rfl) ?_
 refine wkT ?_
 refine Zak a rfl rfl (by omega) (by omega) ?_
 refine wkT ?_
 refine Zaf (Loud.loud _) rfl (AR.cA ar0 (by omega) rfl) ?_
 refine wkT ?_
 refine Zak a rfl rfl (by omega) (by omega) ?_
 refine wkT ?_
 refine ZaW ar0 (by omega) (Zbo _ _) rfl rfl fun HW arW=>?_
 refine kp_l Loud.loud ?_
 refine wkT ?_
 refine Zak p rfl rfl (by omega) (by omega) ?_
 refine wkT ?_
 refine ZaW arW (by rw[List.length_set];omega) (Zbo _ _) rfl rfl fun H1 ar1=>?_
 refine wbT ?_
 have esw:(l.set a (el l p)).set p (el l a)=swp l a p:=rfl
 rw[esw]at ar1
 have rg1:Rg a b l (swp l a p):=.step _ _ (.refl l) (by omega) (by omega) (by omega) (by omega)
 have ev:el (swp l a p) a=el l p:=by
  rw[Zcv _ (by omega) (by omega)]
  by_cases e:a=p
  ·rw[if_pos e,e]
  ·rw[if_neg e,if_pos rfl]
 have pi1:PeI a b (a+1) (b-1) (el l p) (swp l a p):=⟨ev,fun k h1 h2=>by omega,fun k h1 h2=>by omega,by omega,by omega,by omega⟩
 generalize swp l a p=c1 at *
 have ej0:((b:Int)-1)=((b-1:Nat):Int):=by omega
 rw[ej0]
 generalize el l p=v at *
 have hc1:=rg1.len
 refine Zbx ?_
 refine wbT ?_
 refine Zax (α:=List Int×Nat×Nat) (b-1+1-(a+1)) (fun t s H'=>AR H H' r s.1 rest∧Rg a b l s.1∧PeI a b s.2.1 s.2.2 v s.1∧s.2.2+1-s.2.1+t=b-1+1-(a+1)) (fun t s=>[(0,.slice (some ⟨r,0,none⟩) n cap),(1,vi a),(9,vi ((s.2.1:Nat):Int)),(10,vi ((s.2.2:Nat):Int))]) (fun _ _=>[]) (c1,a+1,b-1) ⟨ar1,rg1,pi1,by show b-1+1-(a+1)+0=_;omega⟩ ⟨rfl,rfl,rfl,rfl,trivial⟩ trivial ?_
 rintro t0 ⟨c4,i4,j4⟩ H7 ht0 ⟨ar4,rg4,pi4,hm⟩
 clear pi1
 simp only at ar4 rg4 pi4 hm
 have hc4:=rg4.len
 have y1:=pi4.ai
 have y2:=pi4.ij
 have y3:=pi4.jb
 refine wbT ?_
 refine Zcb (fun (i:Nat) H'=>H7=H'∧PeI a b i j4 v c4∧(j4<i∨v<el c4 i)∧i4<=i) (fun i=>[(0,.slice (some ⟨r,0,none⟩) n cap),(1,vi a),(9,vi ((i:Nat):Int)),(10,vi ((j4:Nat):Int))]) (fun _=>[]) ?_ ?_
 ·refine wkT ?_
  refine ZaP (j4+1-i4) (fun t H'=>H7=H'∧PeI a b (i4+t) j4 v c4) (fun t=>[(0,.slice (some ⟨r,0,none⟩) n cap),(1,vi a),(9,vi ((i4+t:Nat):Int)),(10,vi ((j4:Nat):Int))]) (fun _=>[]) ⟨rfl,pi4⟩ ⟨rfl,rfl,rfl,rfl,trivial⟩ trivial ?_
  rintro t _ ht ⟨rfl,pit⟩
  have q1:=pit.ai
  have q2:=pit.ij
  have q3:=pit.jb
  have q4:=pit.eq
  refine wkT ?_
  refine wiT (fun z1=>?_) (fun z1=>?_)
  ·refine wkT ?_
   refine Zak a rfl rfl rfl (by omega) ?_
   refine wkT ?_
   refine Zaf (hs _) rfl (ar4.cA (by omega) rfl) ?_
   rw[q4]
   refine wkT ?_
   refine Zak (i4+t) rfl rfl rfl (by omega) ?_
   refine wkT ?_
   refine Zaf (hs _) rfl (ar4.cA (by omega) rfl) ?_
   refine wkT ?_
   refine Zab (vs:=[vi v,vi (el c4 (i4+t))]) rfl (ZbM _ _) ?_
   rintro w _ ⟨rfl,rfl⟩
   refine wkT ?_
   refine wiT (fun z2=>?_) (fun z2=>?_)
   ·refine wkT ?_
    refine⟨⟨t+1,by omega⟩,slt (by omega),⟨rfl,q4,fun k k1 k2=>?_,pit.hi,?_,?_,pit.jb⟩,⟨rfl,rfl,rfl,rfl,trivial⟩,trivial,rfl⟩
    ·have k2:k<i4+(t+1):=k2
     by_cases e:k=i4+t
     ·subst e;omega
     ·exact pit.lo k k1 (by omega)
    ·show a+1<=i4+(t+1);omega
    ·show i4+(t+1)<=j4+1;omega
   ·refine wkT ?_
    exact⟨i4+t,⟨rfl,pit,.inr (by omega),by omega⟩,⟨rfl,rfl,rfl,rfl,trivial⟩,trivial,rfl⟩
  ·refine wkT ?_
   exact⟨i4+t,⟨rfl,pit,.inl (by omega),by omega⟩,⟨rfl,rfl,rfl,rfl,trivial⟩,trivial,rfl⟩
 rintro i5 _ ⟨rfl,pi5,st5,gi5⟩
 refine wbT ?_
 refine Zcb (fun (j:Nat) H'=>H7=H'∧PeI a b i5 j v c4∧(j<i5∨el c4 j<=v)∧(i5<=j->v<el c4 i5)∧j<=j4) (fun j=>[(0,.slice (some ⟨r,0,none⟩) n cap),(1,vi a),(9,vi ((i5:Nat):Int)),(10,vi ((j:Nat):Int))]) (fun _=>[]) ?_ ?_
 ·refine wkT ?_
  refine ZaP (j4+1-i5) (fun t H'=>H7=H'∧PeI a b i5 (j4-t) v c4) (fun t=>[(0,.slice (some ⟨r,0,none⟩) n cap),(1,vi a),(9,vi ((i5:Nat):Int)),(10,vi ((j4-t:Nat):Int))]) (fun _=>[]) ⟨rfl,pi5⟩ ⟨rfl,rfl,rfl,rfl,trivial⟩ trivial ?_
  rintro t _ ht ⟨rfl,pit⟩
  have q1:=pit.ai
  have q2:=pit.ij
  have q3:=pit.jb
  have q4:=pit.eq
  have q5:=pi5.ij
  have q6:=pi5.jb
  obtain⟨jj,hjj⟩:∃ jj,j4-t=jj:=⟨_,rfl⟩
  rw[hjj]at pit q2 q3 ⊢
  refine wkT ?_
  refine wiT (fun z1=>?_) (fun z1=>?_)
  ·refine wkT ?_
   refine Zak a rfl rfl rfl (by omega) ?_
   refine wkT ?_
   refine Zaf (hs _) rfl (ar4.cA (by omega) rfl) ?_
   rw[q4]
   refine wkT ?_
   refine Zak jj rfl rfl rfl (by omega) ?_
   refine wkT ?_
   refine Zaf (hs _) rfl (ar4.cA (by omega) rfl) ?_
   refine wkT ?_
   refine Zab (vs:=[vi v,vi (el c4 jj)]) rfl (ZbM _ _) ?_
   rintro w _ ⟨rfl,rfl⟩
   refine wkT ?_
   refine wiT (fun z2=>?_) (fun z2=>?_)
   ·refine wkT ?_
    refine⟨⟨t+1,by omega⟩,slt (by omega),⟨rfl,q4,pit.lo,fun k k1 k2=>?_,pit.ai,?_,?_⟩,⟨rfl,rfl,rfl,?_,trivial⟩,trivial,rfl⟩
    ·have k1:j4-(t+1)<k:=k1
     by_cases e:k=jj
     ·subst e;exact z2
     ·exact pit.hi k (by omega) k2
    ·show i5<=j4-(t+1)+1;omega
    ·show j4-(t+1)+1<=b;omega
    ·show some (vi ((jj:Int)-1))=some (vi ((j4-(t+1):Nat):Int))
     congr 2;omega
   ·refine wkT ?_
    exact⟨jj,⟨rfl,pit,.inr (by omega),fun h=>by have:=st5;omega,by omega⟩,⟨rfl,rfl,rfl,rfl,trivial⟩,trivial,rfl⟩
  ·refine wkT ?_
   exact⟨jj,⟨rfl,pit,.inl (by omega),fun h=>by omega,by omega⟩,⟨rfl,rfl,rfl,rfl,trivial⟩,trivial,rfl⟩
 rintro j6 _ ⟨rfl,pj6,sj6,sk6,gj6⟩
 have x1:=pj6.ai
 have x2:=pj6.ij
 have x3:=pj6.jb
 refine wbT ?_
 refine Zbx ?_
 refine wkT ?_
 refine wiT (fun g2=>?_) (fun g2=>?_)
 ·refine wkT ?_
  exact⟨c4,i5,ar4,rg4,pj6.fin (by omega),rfl⟩
 ·have hij':i5<=j6:=by omega
  have hne':i5≠j6:=fun e=>by
   have h1:=sk6 hij'
   rw[e]at h1
   rcases sj6 with h | h<;>omega
  have pi9:=pj6.swap hij' (sk6 hij') (by rcases sj6 with h | h<;>omega) (by omega)
  have rg9:Rg a b l (swp c4 i5 j6):=.step _ _ rg4 (by omega) (by omega) (by omega) (by omega)
  refine wkT ?_
  refine Zak j6 rfl rfl (by omega) (by omega) ?_
  refine wkT ?_
  refine Zaf (Loud.loud _) rfl (AR.cA ar4 (by omega) rfl) ?_
  refine wkT ?_
  refine Zak i5 rfl rfl (by omega) (by omega) ?_
  refine wkT ?_
  refine Zaf (Loud.loud _) rfl (AR.cA ar4 (by omega) rfl) ?_
  refine wkT ?_
  refine Zak i5 rfl rfl (by omega) (by omega) ?_
  refine wkT ?_
  refine ZaW ar4 (by omega) (Zbo _ _) rfl rfl fun HW arW=>?_
  refine kp_l Loud.loud ?_
  refine wkT ?_
  refine Zak j6 rfl rfl (by omega) (by omega) ?_
  refine wkT ?_
  refine ZaW arW (by rw[List.length_set];omega) (Zbo _ _) rfl rfl fun H9 ar9=>?_
  refine wkT ?_
  refine⟨(⟨b-1+1-(a+1)-(j6-1+1-(i5+1)),by omega⟩,(swp c4 i5 j6,i5+1,j6-1)),?_,⟨ar9,rg9,pi9,?_⟩,⟨rfl,rfl,rfl,?_,trivial⟩,trivial,rfl⟩
  ·show b-1+1-(a+1)-(b-1+1-(a+1)-(j6-1+1-(i5+1)))<b-1+1-(a+1)-t0
   omega
  ·show j6-1+1-(i5+1)+(b-1+1-(a+1)-(j6-1+1-(i5+1)))=b-1+1-(a+1)
   omega
  ·show some (vi ((j6:Int)-1))=some (vi ((j6-1:Nat):Int))
   congr 2;omega
end
end Go.Proofs
end
