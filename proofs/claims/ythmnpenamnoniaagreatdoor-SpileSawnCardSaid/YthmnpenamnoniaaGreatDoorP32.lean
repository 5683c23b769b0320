import Derived.Test.YthmnpenamnoniaaGreatDoorP31
set_option linter.all false
section
open Go Go.LL
namespace Go.Proofs
theorem qLtD0 {G:Prop} (h:G:=by
  have hmh:m<hi:=by omega
  refine wkT ?_
  refine Zak (f+p) rfl rfl (by omega) (by omega) ?_
  refine wkT ?_
  refine Zaf (hs _) rfl (ar.cA (by omega) rfl) ?_
  refine wkT ?_
  refine Zak (f+m) rfl rfl (by omega) (by omega) ?_
  refine wkT ?_
  refine Zaf (hs _) rfl (ar.cA (by omega) rfl) ?_
  refine wkT ?_
  refine Zab (vs:=[vi (el c (f+p)),vi (el c (f+m))]) rfl (ZbB _ _) ?_
  rintro v _ ⟨rfl,rfl⟩
  refine wkT ?_
  refine wiT (fun g4=>?_) (fun g4=>?_)
  ·refine wkT ?_
   refine⟨c,ar,rg,hp.fin fun m' h1 h2=>?_⟩
   have:=hmax m' h1 h2
   omega
  ·refine wkT ?_
   refine Zak (f+m) rfl rfl (by omega) (by omega) ?_
   refine wkT ?_
   refine Zaf (Loud.loud _) rfl (AR.cA ar (by omega) rfl) ?_
   refine wkT ?_
   refine Zak (f+p) rfl rfl (by omega) (by omega) ?_
   refine wkT ?_
   refine Zaf (Loud.loud _) rfl (AR.cA ar (by omega) rfl) ?_
   refine wkT ?_
   refine Zak (f+p) rfl rfl (by omega) (by omega) ?_
   refine wkT ?_
   refine ZaN ar (by omega) (Zbg _ _) rfl rfl fun HW arW=>?_
   refine kp_l Loud.loud ?_
   refine wkT ?_
   refine Zak (f+m) rfl rfl (by omega) (by omega) ?_
   refine wkT ?_
   refine ZaN arW (by rw[List.length_set];omega) (Zbg _ _) rfl rfl fun H4 ar4=>?_
   refine wkT ?_
   have esw:(c.set (f+p) (el c (f+m))).set (f+m) (el c (f+p))=swp c (f+p) (f+m):=rfl
   rw[esw]at ar4
   have hpm:p<m:=by omega
   refine⟨(⟨m-lo,by omega⟩,swp c (f+p) (f+m)),?_,⟨ar4,.step _ _ rg (by omega) (by omega) (by omega) (by omega),?_⟩,⟨rfl,rfl,rfl,rfl,?_,trivial⟩,trivial,rfl⟩
   ·show hi-lo-(m-lo)<hi-lo-j
    omega
   ·show HpI f lo hi _ (lo+(m-lo))
    rw[show lo+(m-lo)=m by omega]
    exact hp.step hmp hmh hmax g4 (by omega) (by omega)
   ·show some (vi _)=some (vi ((lo+(m-lo):Nat):Int))
    congr 2
    omega):G:=h
def Par (k m:Nat):Prop:=m=2 * k+1∨m=2 * k+2
def HpX (f lo hi:Nat)(l:List Int):Prop:=∀ k m,lo<=k->Par k m->m<hi->el l (f+m)<=el l (f+k)
structure HpI (f lo hi:Nat)(l:List Int)(p:Nat):Prop where
 h1:∀ k m,lo<=k->k≠p->Par k m->m<hi->el l (f+m)<=el l (f+k)
 h2:∀ k m,lo<=k->Par k p->Par p m->m<hi->el l (f+m)<=el l (f+k)
theorem HpI.of {f lo hi:Nat}{l:List Int}(h:HpX f (lo+1) hi l):HpI f lo hi l lo:=
 ⟨fun k m h1 h2 h3 h4=>h k m (by omega) h3 h4,fun k m h1 h2=>by rcases h2 with h2 | h2<;>omega⟩
theorem HpI.fin {f lo hi:Nat}{l:List Int}{p:Nat}(h:HpI f lo hi l p)(hp:∀ m,Par p m->m<hi->el l (f+m)<=el l (f+p)):HpX f lo hi l:=by
 intro k m h1 h2 h3
 by_cases e:k=p
 ·subst e;exact hp m h2 h3
 ·exact h.h1 k m h1 e h2 h3
theorem HpI.step {f lo hi:Nat}{c:List Int}{p m:Nat}(h:HpI f lo hi c p)(hm:Par p m)(hmh:m<hi)(hmax:∀ m',Par p m'->m'<hi->el c (f+m')<=el c (f+m))(hlt:el c (f+p)<el c (f+m))(hlen:f+hi<=c.length)(hp:lo<=p) :
  HpI f lo hi (swp c (f+p) (f+m)) m:=by
 have hpm:p<m:=by rcases hm with h | h<;>omega
 have es:∀ x,el (swp c (f+p) (f+m)) x=if x=f+m then el c (f+p) else if x=f+p then el c (f+m) else el c x:=fun x=>Zce x (by omega) (by omega)
 have e1:el (swp c (f+p) (f+m)) (f+m)=el c (f+p):=by rw[es,if_pos rfl]
 have e2:el (swp c (f+p) (f+m)) (f+p)=el c (f+m):=by rw[es,if_neg (by omega),if_pos rfl]
 have e3:∀ x,x≠m->x≠p->el (swp c (f+p) (f+m)) (f+x)=el c (f+x):=fun x h1 h2=>by rw[es,if_neg (by omega),if_neg (by omega)]
 refine⟨fun k m' g1 g2 g3 g4=>?_,fun k m' g1 g2 g3 g4=>?_⟩
 ·by_cases ek:k=p
  ·subst ek
   rw[e2]
   by_cases em:m'=m
   ·subst em;rw[e1];omega
   ·rw[e3 m' em (by rcases g3 with h | h<;>omega)]
    exact hmax m' g3 g4
  ·rw[e3 k g2 ek]
   by_cases em:m'=m
   ·exfalso;subst em;unfold Par at hm g3;omega
   ·by_cases em2:m'=p
    ·subst em2;rw[e2];exact h.h2 k m g1 g3 hm hmh
    ·rw[e3 m' em em2];exact h.h1 k m' g1 ek g3 g4
 ·have ek:k=p:=by unfold Par at hm g2;omega
  subst ek
  have:m'≠m∧m'≠k:=by unfold Par at hm g3;omega
  rw[e2,e3 m' this.1 this.2]
  exact h.h1 m m' (by omega) (by omega) g3 g4
section
variable  {P:Prg}[Tz P][Loud P]{H:Hp}
set_option maxHeartbeats 1000000
theorem sift_ok {r cap f lo hi:Nat}{l:List Int}{rest:List Value}(hA:H r=some (.cells (encs l++rest).toArray 3 (0,0),true))(hb:f+hi<=l.length)(hlo:lo<=l.length)(hl:l.length<=1000000)(hx:HpX f (lo+1) hi l) :
  LL.Zag P 225 #[.slice (some ⟨r,0,none⟩) l.length cap,vi lo,vi hi,vi f] H fun v H'=>∃ l',AR H H' r l' rest∧Rg f (f+hi) l l'∧HpX f lo hi l':=by
 have hs:=Loud.loud (P:=P)
 refine IsN.m (isn c202) (args:=[.slice (some ⟨r,0,none⟩) l.length cap,vi lo,vi hi,vi f]) rfl ?_
 unfold n202
 refine wkT ?_
 refine ZaO (α:=List Int) (hi-lo) (fun j c H'=>AR H H' r c rest∧Rg f (f+hi) l c∧HpI f lo hi c (lo+j)) (fun j c=>[(0,.slice (some ⟨r,0,none⟩) l.length cap),(1,vi lo),(2,vi hi),(3,vi f),(8,vi ((lo+j:Nat):Int))]) (fun j c=>[]) l ⟨AR.of hA,.refl l,.of hx⟩ ⟨rfl,rfl,rfl,rfl,rfl,trivial⟩ trivial ?_
 rintro j c H1 hj ⟨ar,rg,hp⟩
 have hcl:=rg.len
 have hplo:lo<=lo+j:=by omega
 have hpl:lo+j<=l.length:=by omega
 generalize hpe:lo+j=p at *
 refine wkT ?_
 refine ZgS rfl rfl ⟨by omega,by omega⟩ ?_
 refine wkT ?_
 refine wiT (fun g1=>?_) (fun g1=>?_)
 ·refine wkT ?_
  refine⟨c,ar,rg,hp.fin fun m hm hmh=>?_⟩
  rcases hm with h | h<;>omega
 ·have g1:2 * p+1<hi:=by omega
  refine wkT ?_
  refine wiT (fun g2=>?_) (fun g2=>?_)
  ·have g2:2 * p+1+1<hi:=by omega
   refine wkT ?_
   refine Zak (f+(2 * p+1)) rfl rfl (by omega) (by omega) ?_
   refine wkT ?_
   refine Zaf (hs _) rfl (ar.cA (by omega) rfl) ?_
   refine wkT ?_
   refine Zak (f+(2 * p+2)) rfl rfl (by omega) (by omega) ?_
   refine wkT ?_
   refine Zaf (hs _) rfl (ar.cA (by omega) rfl) ?_
   refine wkT ?_
   refine Zab (vs:=[vi (el c (f+(2 * p+1))),vi (el c (f+(2 * p+2)))]) rfl (ZbB _ _) ?_
   rintro v _ ⟨rfl,rfl⟩
   refine wkT ?_
   refine wiT (fun g3=>?_) (fun g3=>?_)
   ·obtain⟨m,hm⟩:∃ m,m=2 * p+2:=⟨_,rfl⟩
    have hmax:∀ m',Par p m'->m'<hi->el c (f+m')<=el c (f+m):=fun m' h1 h2=>by
     rcases h1 with h | h
     ·subst h hm;omega
     ·subst h hm;exact Int.le_refl _
    have hmp:Par p m:=.inr hm
    exact qLtD0
   ·obtain⟨m,hm⟩:∃ m,m=2 * p+1:=⟨_,rfl⟩
    have hmax:∀ m',Par p m'->m'<hi->el c (f+m')<=el c (f+m):=fun m' h1 h2=>by
     rcases h1 with h | h
     ·subst h hm;exact Int.le_refl _
     ·subst h hm;omega
    have hmp:Par p m:=.inl hm
    exact qLtD0
  ·obtain⟨m,hm⟩:∃ m,m=2 * p+1:=⟨_,rfl⟩
   have hmax:∀ m',Par p m'->m'<hi->el c (f+m')<=el c (f+m):=fun m' h1 h2=>by
    rcases h1 with h | h
    ·subst h hm;exact Int.le_refl _
    ·omega
   have hmp:Par p m:=.inl hm
   exact qLtD0
end
theorem heap_max {f q:Nat}{c:List Int}(h:HpX f 0 q c):∀ k,k<q->el c (f+k)<=el c f:=by
 intro k
 induction k using Nat.strongRecOn with
 | _ k ih=>
  intro hk
  by_cases e:k=0
  ·subst e;exact Int.le_refl _
  ·have hp:Par ((k-1) / 2) k:=by unfold Par;omega
   exact Int.le_trans (h _ k (Nat.zero_le _) hp hk) (ih _ (by omega) (by omega))
theorem ZmA (hi:Nat):((hi:Int)-1).tdiv 2=(((hi-1) / 2:Nat):Int):=by
 by_cases h:hi=0
 ·subst h;rfl
 ·rw[Int.tdiv_eq_ediv_of_nonneg (by omega)];omega
section
variable  {P:Prg}[Tz P][Loud P]{H:Hp}
set_option maxHeartbeats 1000000
theorem ZjT {r cap f lo hi n:Nat}{l:List Int}{rest:List Value}(hA:H r=some (.cells (encs l++rest).toArray 3 (0,0),true))(hn:l.length=n)(hb:f+hi<=n)(hlo:lo<=n)(hl:n<=1000000)(hx:HpX f (lo+1) hi l) :
  LL.Zag P 225 #[.slice (some ⟨r,0,none⟩) n cap,vi lo,vi hi,vi f] H fun v H'=>∃ l',AR H H' r l' rest∧Rg f (f+hi) l l'∧HpX f lo hi l':=by
 subst hn;exact sift_ok hA hb hlo hl hx
theorem Zjp {r cap a hi:Nat}{l:List Int}{rest:List Value}(hA:H r=some (.cells (encs l++rest).toArray 3 (0,0),true))(hb:a+hi<=l.length)(hl:l.length<=1000000) :
  SortC P 195 H r cap l rest a (a+hi) [] fun _ l'=>So a (a+hi) l':=by
 have hs:=Loud.loud (P:=P)
 have ehi:(((a+hi:Nat):Int)-(a:Int))=(hi:Int):=by omega
 refine IsN.m (isn c180) (args:=[.slice (some ⟨r,0,none⟩) l.length cap,vi a,vi (a+hi:Nat)]) rfl ?_
 unfold n180
 refine wkT ?_
 rw[ehi]
 refine wkT ?_
 refine ZfV rfl rfl (by decide) (by rw[ZmA];exact⟨by omega,by omega⟩) ?_
 rw[ZmA]
 refine wkT ?_
 refine ZaO (α:=List Int) ((hi-1) / 2+1) (fun j c H'=>AR H H' r c rest∧Rg a (a+hi) l c∧HpX a ((hi-1) / 2+1-j) hi c)
  (fun j c=>[(0,.slice (some ⟨r,0,none⟩) l.length cap),(6,vi a),(7,vi 0),(8,vi hi),(9,vi (((hi-1) / 2+1-j:Nat)-1:Int))]) (fun j c=>[]) l ⟨AR.of hA,.refl l,fun k m h1 h2 h3=>by unfold Par at h2;omega⟩ ⟨rfl,rfl,rfl,rfl,?_,trivial⟩ trivial ?_
 ·show some (vi _)=some (vi _)
  congr 2;omega
 rintro j c H1 hj ⟨ar,rg,hp⟩
 have hcl:=rg.len
 refine wkT ?_
 refine wiT (fun g1=>?_) (fun g1=>?_)
 ·obtain⟨i,hi'⟩:∃ i,(hi-1) / 2+1-j=i+1:=⟨(hi-1) / 2+1-j-1,by omega⟩
  have ei:((((hi-1) / 2+1-j:Nat)-1:Int))=(i:Int):=by omega
  rw[hi']at hp
  rw[ei]
  refine wkT ?_
  refine Zab (vs:=[.slice (some ⟨r,0,none⟩) l.length cap,vi i,vi hi,vi a]) rfl (ZjT ar.at_ hcl hb (by omega) hl hp) ?_
  rintro v H2 ⟨c2,ar2,rg2,hp2⟩
  refine wkT ?_
  refine⟨(⟨j+1,by omega⟩,c2),slt (by omega),⟨ar.trans ar2,rg.trans rg2,?_⟩,⟨rfl,rfl,rfl,rfl,?_,trivial⟩,trivial,rfl⟩
  ·show HpX a ((hi-1) / 2+1-(j+1)) hi c2
   rw[show (hi-1) / 2+1-(j+1)=i by omega]
   exact hp2
  ·show some (vi _)=some (vi _)
   congr 2
   show (i:Int)-1=(((hi-1) / 2+1-(j+1):Nat):Int)-1
   omega
 ·have hj0:(hi-1) / 2+1-j=0:=by omega
  rw[hj0]at hp
  refine wkT ?_
  refine ZaO (α:=List Int) hi (fun j c H'=>AR H H' r c rest∧Rg a (a+hi) l c∧HpX a 0 (hi-j) c∧So (a+(hi-j)) (a+hi) c∧∀ x y,a<=x->x<a+(hi-j)->a+(hi-j)<=y->y<a+hi->el c x<=el c y)
   (fun j c=>[(0,.slice (some ⟨r,0,none⟩) l.length cap),(6,vi a),(7,vi 0),(10,vi ((hi-j:Nat)-1:Int))]) (fun j c=>[]) c ⟨ar,rg,hp,Zey c (by omega),fun x y h1 h2 h3 h4=>by omega⟩ ⟨rfl,rfl,rfl,rfl,trivial⟩ trivial ?_
  rintro j' c' H2 hj' ⟨ar',rg',hp',so',lo'⟩
  have hcl':=rg'.len
  refine wkT ?_
  refine wiT (fun g2=>?_) (fun g2=>?_)
  ·obtain⟨i,hi'⟩:∃ i,hi-j'=i+1:=⟨hi-j'-1,by omega⟩
   have ei:(((hi-j':Nat)-1:Int))=(i:Int):=by omega
   rw[hi']at hp' so' lo'
   rw[ei]
   have hmx:=heap_max hp'
   refine wkT ?_
   refine Zak (a+i) rfl rfl (by omega) (by omega) ?_
   refine wkT ?_
   refine Zaf (Loud.loud _) rfl (AR.cA ar' (by omega) rfl) ?_
   refine wkT ?_
   refine Zak a rfl rfl (by omega) (by omega) ?_
   refine wkT ?_
   refine Zaf (Loud.loud _) rfl (AR.cA ar' (by omega) rfl) ?_
   refine wkT ?_
   refine Zak a rfl rfl (by omega) (by omega) ?_
   refine wkT ?_
   refine ZaN ar' (by omega) (Zbg _ _) rfl rfl fun HW arW=>?_
   refine kp_l Loud.loud ?_
   refine wkT ?_
   refine Zak (a+i) rfl rfl (by omega) (by omega) ?_
   refine wkT ?_
   refine ZaN arW (by rw[List.length_set];omega) (Zbg _ _) rfl rfl fun H4 ar4=>?_
   refine wkT ?_
   have esw:(c'.set a (el c' (a+i))).set (a+i) (el c' a)=swp c' a (a+i):=rfl
   rw[esw]at ar4
   have es:∀ x,el (swp c' a (a+i)) x=if x=a+i then el c' a else if x=a then el c' (a+i) else el c' x:=fun x=>Zce x (by omega) (by omega)
   have hle:∀ x,a<=x->x<a+i->∃ x',a<=x'∧x'<a+(i+1)∧el (swp c' a (a+i)) x=el c' x':=fun x h1 h2=>by
    rw[es,if_neg (by omega)]
    by_cases e:x=a
    ·rw[if_pos e];exact⟨a+i,by omega,by omega,rfl⟩
    ·rw[if_neg e];exact⟨x,by omega,by omega,rfl⟩
   have hpx:HpX a 1 i (swp c' a (a+i)):=fun k m h1 h2 h3=>by
    have:m≠0∧k<i:=by unfold Par at h2;omega
    rw[es,es,if_neg (by omega),if_neg (by omega),if_neg (by omega),if_neg (by omega)]
    exact hp' k m (Nat.zero_le _) h2 (by omega)
   refine Zab (vs:=[.slice (some ⟨r,0,none⟩) l.length cap,vi (0:Nat),vi i,vi a]) rfl (ZjT ar4.at_ (by rw[Zi4,hcl']) (by omega) (by omega) hl hpx) ?_
   rintro v H5 ⟨c2,ar2,rg2,hp2⟩
   have hcb:a+i<=(swp c' a (a+i)).length:=by rw[Zi4];omega
   have out2:∀ k,a+i<=k->el c2 k=el (swp c' a (a+i)) k:=fun k hk=>rg2.out hcb (.inr hk)
   have outT:∀ k,a+i<k->el c2 k=el c' k:=fun k hk=>by rw[out2 k (by omega),es,if_neg (by omega),if_neg (by omega)]
   have outI:el c2 (a+i)=el c' a:=by rw[out2 _ (Nat.le_refl _),es,if_pos rfl]
   have hall:∀ (p:Int->Prop),(∀ x',a<=x'->x'<a+(i+1)->p (el c' x'))->∀ k,a<=k->k<a+i->p (el c2 k):=fun p hp k h1 h2=>
    rg2.all hcb (p:=p) (fun k h1 h2=>by obtain⟨x',g1,g2,g3⟩:=hle k h1 h2;rw[g3];exact hp x' g1 g2) k h1 h2
   have ejj:hi-(j'+1)=i:=by omega
   refine wkT ?_
   refine⟨(⟨j'+1,by omega⟩,c2),Nat.sub_lt_sub_left (by omega) (Nat.lt_succ_self j'),⟨ar4.trans ar2,(Rg.step _ _ rg' (by omega) (by omega) (by omega) (by omega)).trans (rg2.mono (Nat.le_refl _) (by omega)),?_,?_,?_⟩,⟨rfl,rfl,rfl,?_,trivial⟩,trivial,rfl⟩
   ·show HpX a 0 (hi-(j'+1)) c2
    rw[ejj];exact hp2
   ·show So (a+(hi-(j'+1))) (a+hi) c2
    rw[ejj]
    refine Zib fun x h1 h2=>?_
    by_cases e:x=a+i
    ·subst e
     rw[outI,outT _ (by omega)]
     exact lo' a _ (Nat.le_refl _) (by omega) (by omega) h2
    ·rw[outT _ (by omega),outT _ (by omega)]
     exact so' x (x+1) (by omega) (by omega) h2
   ·show ∀ x y,a<=x->x<a+(hi-(j'+1))->a+(hi-(j'+1))<=y->y<a+hi->el c2 x<=el c2 y
    rw[ejj]
    intro x y h1 h2 h3 h4
    by_cases e:y=a+i
    ·subst e
     rw[outI]
     refine hall (·<=el c' a) (fun x' g1 g2=>?_) x h1 h2
     have:=hmx (x'-a) (by omega)
     rwa [show a+(x'-a)=x' by omega]at this
    ·rw[outT y (by omega)]
     exact hall (·<=el c' y) (fun x' g1 g2=>lo' x' y g1 g2 (by omega) h4) x h1 h2
   ·show some (vi _)=some (vi _)
    congr 2
    show (i:Int)-1=((hi-(j'+1):Nat):Int)-1
    omega
  ·have:hi-j'=0:=by omega
   rw[this]at so'
   refine wkT ?_
   exact⟨c',ar',rg',so'⟩
end
structure PtI (a b i j:Nat)(v:Int)(c:List Int):Prop where
 eq:el c a=v
 lo:∀ k,a+1<=k->k<i->el c k<v
 hi:∀ k,j<k->k<b->v<=el c k
 ai:a+1<=i
 ij:i<=j+1
 jb:j+1<=b
theorem PtI.swap {a b i j:Nat}{v:Int}{c:List Int}(h:PtI a b i j v c)(hij:i<=j)(h1:v<=el c i)(h2:el c j<v)(hl:b<=c.length):PtI a b (i+1) (j-1) v (swp c i j):=by
 have g1:=h.ai
 have g3:=h.jb
 have hne:i≠j:=fun e=>by subst e;omega
 have es:∀ x,el (swp c i j) x=if x=j then el c i else if x=i then el c j else el c x:=fun x=>Zce x (by omega) (by omega)
 refine⟨by rw[es,if_neg (by omega),if_neg (by omega)];exact h.eq,fun k k1 k2=>?_,fun k k1 k2=>?_,by omega,by omega,by omega⟩
 ·rw[es,if_neg (by omega)]
  by_cases e:k=i
  ·rw[if_pos e];exact h2
  ·rw[if_neg e];exact h.lo k k1 (by omega)
 ·rw[es]
  by_cases e:k=j
  ·rw[if_pos e];exact h1
  ·rw[if_neg e,if_neg (by omega)];exact h.hi k (by omega) k2
def PtQ (a b:Nat)(l':List Int)(p:Nat):Prop:=a<=p∧p<b∧(∀ k,a<=k->k<p->el l' k<=el l' p)∧∀ k,p<k->k<b->el l' p<=el l' k
theorem PtI.fin {a b i j:Nat}{v:Int}{c:List Int}(h:PtI a b i j v c)(hij:j<i)(hl:b<=c.length):PtQ a b (swp c j a) j:=by
 have g1:=h.ai
 have g2:=h.ij
 have g3:=h.jb
 have es:∀ x,el (swp c j a) x=if x=a then el c j else if x=j then el c a else el c x:=fun x=>Zce x (by omega) (by omega)
 have ej:el (swp c j a) j=v:=by
  rw[es]
  by_cases e:j=a
  ·rw[if_pos e,e];exact h.eq
  ·rw[if_neg e,if_pos rfl];exact h.eq
 refine⟨by omega,by omega,fun k k1 k2=>?_,fun k k1 k2=>?_⟩
 ·rw[ej,es]
  by_cases e:k=a
  ·rw[if_pos e];exact Int.le_of_lt (h.lo j (by omega) (by omega))
  ·rw[if_neg e,if_neg (by omega)];exact Int.le_of_lt (h.lo k (by omega) (by omega))
 ·rw[ej,es,if_neg (by omega),if_neg (by omega)]
  exact h.hi k k1 k2
theorem nc_so {P:Prg}{l:List NI}{b:Zaj}{Qe:Ex->NSt->Hp->Prop}{σ:NSt}{H:Hp}(h:(Zaj.ops l).m P (NEx.then (b.m P Qe) Qe) σ H):(Zaj.seq (.ops l) b).m P Qe σ H:=Zbn h
theorem nc_sd {P:Prg}{l:List (NI×Option Bool)}{b:Zaj}{Qe:Ex->NSt->Hp->Prop}{σ:NSt}{H:Hp}(h:(Zaj.drawn l).m P (NEx.then (b.m P Qe) Qe) σ H):(Zaj.seq (.drawn l) b).m P Qe σ H:=Zbn h
theorem wbT {G G':Prop}(x:G') (h:Wr G'->G:=by
  intro xWr
  repeat (first | (with_reducible refine nc_so ?_) | (with_reducible refine nc_sd ?_) | ((fail_if_success (with_reducible refine Zbn ?_));first
   | (with_reducible refine mo_n ?_)
   | ((with_reducible apply ZgT);exact rfl)
   | ((with_reducible apply Zfn);exact rfl)
   | ((with_reducible apply Zdd);(first | exact rfl | assumption | exact Loud.loud _);exact rfl;exact rfl;exact rfl)
   | ((with_reducible apply ZhG);(first | exact rfl | assumption | exact Loud.loud _);exact rfl;exact rfl;exact rfl)
   | ((with_reducible apply Zj9);exact rfl;exact rfl;exact rfl)
   | ((with_reducible apply Zka);exact rfl;exact rfl;exact rfl)
   | ((with_reducible apply Zkb);exact rfl;exact rfl;exact rfl)
   | ((with_reducible apply Zkc);exact rfl;exact rfl;exact rfl)
   | ((with_reducible apply Zkd);exact rfl;exact rfl;exact rfl)
   | ((with_reducible apply Zj7);exact rfl;exact rfl;exact rfl)
   | ((with_reducible apply Zke);exact rfl;exact rfl;(refine⟨?_,?_⟩<;>omega))
   | ((with_reducible apply Zj6);exact rfl;exact rfl;(refine⟨?_,?_⟩<;>omega))
   | ((with_reducible apply Zit);exact rfl)
   | ((with_reducible apply ZgR);exact rfl)
   | ((with_reducible apply ZeF);exact rfl)
   | ((with_reducible apply ZeE);exact rfl;exact rfl)
   | ((with_reducible apply ZgQ);exact rfl)
   | ((with_reducible apply ZgV);exact rfl;exact rfl)
   | ((with_reducible apply om_fld1);exact rfl;exact rfl)
   | ((with_reducible apply om_fldn);exact rfl)
   | ((with_reducible apply Zfm);(first | exact rfl | assumption | exact Loud.loud _))
   | ((with_reducible apply ZhH);(first | exact rfl | assumption | exact Loud.loud _);exact rfl)
   | ((with_reducible apply ZhF);(first | exact rfl | assumption | exact Loud.loud _);exact rfl;exact rfl;exact rfl;exact rfl;exact rfl;exact rfl)
   | ((with_reducible apply ZhE);(first | exact rfl | assumption | exact Loud.loud _);exact rfl;exact rfl;exact rfl;exact rfl;exact rfl;exact rfl)
   | ((with_reducible apply Zfp);exact rfl)
   | ((with_reducible apply mo_g);exact rfl)
   | ((with_reducible apply mo_s);exact rfl;exact rfl)
   | ((with_reducible apply mo_k);exact rfl)
   | (with_reducible refine ZgY ?_)
   | (with_reducible refine ZeN ?_)
   | (with_reducible refine Zbn ?_)
   | (with_reducible refine ZgX ?_)
   | (with_reducible refine Zdw ?_)
   | (with_reducible refine ZeH ?_)
   | (with_reducible refine ZgW ?_)
   | (with_reducible refine ZeJ ?_)
   | (with_reducible refine ZcE ?_)
   | (with_reducible refine ZcF ?_)
   | (with_reducible refine Zla ?_)
   | (with_reducible refine ZeQ ?_)
   | (with_reducible refine ZeP ?_)
   | ((with_reducible apply ZeO);exact rfl)
   | ((with_reducible apply ZcB);exact rfl)
   | ((with_reducible apply ZcC);exact rfl)
   | ((with_reducible apply Zfr);(first | exact rfl | assumption | exact Loud.loud _))
   | ((with_reducible apply fm_n);(first | exact rfl | assumption | exact Loud.loud _))
   | ((with_reducible apply fm_g);(first | exact rfl | assumption | exact Loud.loud _);exact rfl)
   | ((with_reducible apply fm_s);(first | exact rfl | assumption | exact Loud.loud _);exact rfl;exact rfl)
   | ((with_reducible apply fm_k);(first | exact rfl | assumption | exact Loud.loud _);exact rfl)
   | (with_reducible refine Zkr ?_)
   | (with_reducible refine kp_n ?_)
   | (with_reducible refine kp_r ?_)
   | (with_reducible refine Zmt ?_)
   | (with_reducible refine Zdh ?_)
   | (with_reducible refine Ze1 ?_)
   | ((with_reducible apply ZcW);exact rfl;exact rfl;exact rfl)
   | ((with_reducible apply ZhP);exact rfl;exact rfl;(first | exact rfl | assumption | exact Loud.loud _);exact rfl)))
  exact xWr.out):G:=h ⟨x⟩
section
variable  {P:Prg}[Tz P][Loud P]{H:Hp}
set_option maxHeartbeats 1000000
theorem Zin {r cap a b p n:Nat}{l:List Int}{rest:List Value}(hA:H r=some (.cells (encs l++rest).toArray 3 (0,0),true))(hn:l.length=n)(hap:a<=p)(hpb:p<b)(hb:b<=n)(hl:n<=1000000) :
  LL.Zag P 202 #[.slice (some ⟨r,0,none⟩) n cap,vi a,vi b,vi p] H fun v H'=>∃ l' q t,AR H H' r l' rest∧Rg a b l l'∧PtQ a b l' q∧v=.tuple #[vi (q:Nat),vb t]:=by
 have hs:=Loud.loud (P:=P)
 refine IsN.m (isn c187) (args:=[.slice (some ⟨r,0,none⟩) n cap,vi a,vi b,vi p]) rfl ?_
 unfold n187
 have ar0:=AR.of hA
 refine wkT ?_
 refine Zak p rfl rfl (by omega) (by omega) ?_
 refine wkT ?_
 refine Zaf (Loud.loud _) rfl (AR.cA ar0 (by omega) rfl) ?_
 refine wkT ?_
 refine Zak a rfl rfl (by omega) (by omega) ?_
 refine wkT ?_
 refine Zaf (Loud.loud _) rfl (AR.cA ar0 (by omega) rfl) ?_
 refine wkT ?_
 refine Zak a rfl rfl (by omega) (by omega) ?_
 refine wkT ?_
 refine ZaN ar0 (by omega) (Zbg _ _) rfl rfl fun HW arW=>?_
 refine kp_l Loud.loud ?_
 refine wkT ?_
 refine Zak p rfl rfl (by omega) (by omega) ?_
 refine wkT ?_
 refine ZaN arW (by rw[List.length_set];omega) (Zbg _ _) rfl rfl fun H1 ar1=>?_
 refine wbT ?_
 have esw:(l.set a (el l p)).set p (el l a)=swp l a p:=rfl
 rw[esw]at ar1
 have rg1:Rg a b l (swp l a p):=.step _ _ (.refl l) (by omega) (by omega) (by omega) (by omega)
 have ev:el (swp l a p) a=el l p:=by
  rw[Zce _ (by omega) (by omega)]
  by_cases e:a=p
  ·rw[if_pos e,e]
  ·rw[if_neg e,if_pos rfl]
 have pi1:PtI a b (a+1) (b-1) (el l p) (swp l a p):=⟨ev,fun k h1 h2=>by omega,fun k h1 h2=>by omega,by omega,by omega,by omega⟩
 generalize swp l a p=c1 at *
 have ej0:((b:Int)-1)=((b-1:Nat):Int):=by omega
 rw[ej0]
 generalize el l p=v at *
 have hc1:=rg1.len
 refine wbT ?_
 refine ZbX (fun (i:Nat) H'=>H1=H'∧PtI a b i (b-1) v c1∧((b-1)<i∨v<=el c1 i)∧(a+1)<=i) (fun i=>[(0,.slice (some ⟨r,0,none⟩) n cap),(1,vi a),(10,vi ((i:Nat):Int)),(11,vi (((b-1):Nat):Int))]) (fun _=>[]) ?_ ?_
 ·refine wkT ?_
  refine ZaW ((b-1)+1-(a+1)) (fun t H'=>H1=H'∧PtI a b ((a+1)+t) (b-1) v c1) (fun t=>[(0,.slice (some ⟨r,0,none⟩) n cap),(1,vi a),(10,vi (((a+1)+t:Nat):Int)),(11,vi (((b-1):Nat):Int))]) (fun _=>[]) ⟨rfl,pi1⟩ ⟨rfl,rfl,rfl,rfl,trivial⟩ trivial ?_
  rintro t _ ht ⟨rfl,pit⟩
  have q1:=pit.ai
  have q2:=pit.ij
  have q3:=pit.jb
  have q4:=pit.eq
  refine wkT ?_
  refine wiT (fun z1=>?_) (fun z1=>?_)
  ·refine wkT ?_
   refine Zak ((a+1)+t) rfl rfl rfl (by omega) ?_
   refine wkT ?_
   refine Zaf (hs _) rfl (ar1.cA (by omega) rfl) ?_
   refine wkT ?_
   refine Zak a rfl rfl rfl (by omega) ?_
   refine wkT ?_
   refine Zaf (hs _) rfl (ar1.cA (by omega) rfl) ?_
   rw[q4]
   refine wkT ?_
   refine Zab (vs:=[vi (el c1 ((a+1)+t)),vi v]) rfl (ZbB _ _) ?_
   rintro w _ ⟨rfl,rfl⟩
   refine wkT ?_
   refine wiT (fun z2=>?_) (fun z2=>?_)
   ·refine wkT ?_
    refine⟨⟨t+1,by omega⟩,slt (by omega),⟨rfl,q4,fun k k1 k2=>?_,pit.hi,?_,?_,pit.jb⟩,⟨rfl,rfl,rfl,rfl,trivial⟩,trivial,rfl⟩
    ·have k2:k<(a+1)+(t+1):=k2
     by_cases e:k=(a+1)+t
     ·subst e;exact z2
     ·exact pit.lo k k1 (by omega)
    ·show a+1<=(a+1)+(t+1);omega
    ·show (a+1)+(t+1)<=(b-1)+1;omega
   ·refine wkT ?_
    exact⟨(a+1)+t,⟨rfl,pit,.inr (by omega),by omega⟩,⟨rfl,rfl,rfl,rfl,trivial⟩,trivial,rfl⟩
  ·refine wkT ?_
   exact⟨(a+1)+t,⟨rfl,pit,.inl (by omega),by omega⟩,⟨rfl,rfl,rfl,rfl,trivial⟩,trivial,rfl⟩
 rintro i2 _ ⟨rfl,pi2,st2,gi2⟩
 refine wbT ?_
 refine ZbX (fun (j:Nat) H'=>H1=H'∧PtI a b i2 j v c1∧(j<i2∨el c1 j<v)∧(i2<=j->v<=el c1 i2)∧j<=(b-1)) (fun j=>[(0,.slice (some ⟨r,0,none⟩) n cap),(1,vi a),(10,vi ((i2:Nat):Int)),(11,vi ((j:Nat):Int))]) (fun _=>[]) ?_ ?_
 ·refine wkT ?_
  refine ZaW ((b-1)+1-i2) (fun t H'=>H1=H'∧PtI a b i2 ((b-1)-t) v c1) (fun t=>[(0,.slice (some ⟨r,0,none⟩) n cap),(1,vi a),(10,vi ((i2:Nat):Int)),(11,vi (((b-1)-t:Nat):Int))]) (fun _=>[]) ⟨rfl,pi2⟩ ⟨rfl,rfl,rfl,rfl,trivial⟩ trivial ?_
  rintro t _ ht ⟨rfl,pit⟩
  have q1:=pit.ai
  have q2:=pit.ij
  have q3:=pit.jb
  have q4:=pit.eq
  have q5:=pi2.ij
  have q6:=pi2.jb
  obtain⟨jj,hjj⟩:∃ jj,(b-1)-t=jj:=⟨_,rfl⟩
  rw[hjj]at pit q2 q3 ⊢
  refine wkT ?_
  refine wiT (fun z1=>?_) (fun z1=>?_)
  ·refine wkT ?_
   refine Zak jj rfl rfl rfl (by omega) ?_
   refine wkT ?_
   refine Zaf (hs _) rfl (ar1.cA (by omega) rfl) ?_
   refine wkT ?_
   refine Zak a rfl rfl rfl (by omega) ?_
   refine wkT ?_
   refine Zaf (hs _) rfl (ar1.cA (by omega) rfl) ?_
   rw[q4]
   refine wkT ?_
   refine Zab (vs:=[vi (el c1 jj),vi v]) rfl (ZbB _ _) ?_
   rintro w _ ⟨rfl,rfl⟩
   refine wkT ?_
   refine wiT (fun z2=>?_) (fun z2=>?_)
   ·refine wkT ?_
    refine⟨⟨t+1,by omega⟩,slt (by omega),⟨rfl,q4,pit.lo,fun k k1 k2=>?_,pit.ai,?_,?_⟩,⟨rfl,rfl,rfl,?_,trivial⟩,trivial,rfl⟩
    ·have k1:(b-1)-(t+1)<k:=k1
     by_cases e:k=jj
     ·subst e;omega
     ·exact pit.hi k (by omega) k2
    ·show i2<=(b-1)-(t+1)+1;omega
    ·show (b-1)-(t+1)+1<=b;omega
    ·show some (vi ((jj:Int)-1))=some (vi (((b-1)-(t+1):Nat):Int))
     congr 2;omega
   ·refine wkT ?_
    exact⟨jj,⟨rfl,pit,.inr (by omega),fun h=>by have:=st2;omega,by omega⟩,⟨rfl,rfl,rfl,rfl,trivial⟩,trivial,rfl⟩
  ·refine wkT ?_
   exact⟨jj,⟨rfl,pit,.inl (by omega),fun h=>by omega,by omega⟩,⟨rfl,rfl,rfl,rfl,trivial⟩,trivial,rfl⟩
 rintro j3 _ ⟨rfl,pj3,sj3,sk3,gj3⟩
 have w1:=pj3.ai
 have w2:=pj3.ij
 have w3:=pj3.jb
 refine wbT ?_
 refine Zbn ?_
 refine wkT ?_
 refine wiT (fun g1=>?_) (fun g1=>?_)
 ·refine wkT ?_
  refine Zak a rfl rfl (by omega) (by omega) ?_
  refine wkT ?_
  refine Zaf (Loud.loud _) rfl (AR.cA ar1 (by omega) rfl) ?_
  refine wkT ?_
  refine Zak j3 rfl rfl (by omega) (by omega) ?_
  refine wkT ?_
  refine Zaf (Loud.loud _) rfl (AR.cA ar1 (by omega) rfl) ?_
  refine wkT ?_
  refine Zak j3 rfl rfl (by omega) (by omega) ?_
  refine wkT ?_
  refine ZaN ar1 (by omega) (Zbg _ _) rfl rfl fun HW arW=>?_
  refine kp_l Loud.loud ?_
  refine wkT ?_
  refine Zak a rfl rfl (by omega) (by omega) ?_
  refine wkT ?_
  refine ZaN arW (by rw[List.length_set];omega) (Zbg _ _) rfl rfl fun H5 ar5=>?_
  refine wkT ?_
  exact⟨swp c1 j3 a,j3,true,ar5,.step _ _ rg1 (by omega) (by omega) (by omega) (by omega),pj3.fin (by omega) (by omega),rfl⟩
 ·have hij:i2<=j3:=by omega
  have hne:i2≠j3:=fun e=>by
   have h1:=sk3 hij
   rw[e]at h1
   rcases sj3 with h | h<;>omega
  have pi4:=pj3.swap hij (sk3 hij) (by rcases sj3 with h | h<;>omega) (by omega)
  have rg4:Rg a b l (swp c1 i2 j3):=.step _ _ rg1 (by omega) (by omega) (by omega) (by omega)
  refine wbT ?_
  refine Zak j3 rfl rfl (by omega) (by omega) ?_
  refine wkT ?_
  refine Zaf (Loud.loud _) rfl (AR.cA ar1 (by omega) rfl) ?_
  refine wkT ?_
  refine Zak i2 rfl rfl (by omega) (by omega) ?_
  refine wkT ?_
  refine Zaf (Loud.loud _) rfl (AR.cA ar1 (by omega) rfl) ?_
  refine wkT ?_
  refine Zak i2 rfl rfl (by omega) (by omega) ?_
  refine wkT ?_
  refine ZaN ar1 (by omega) (Zbg _ _) rfl rfl fun HW arW=>?_
  refine kp_l Loud.loud ?_
  refine wkT ?_
  refine Zak j3 rfl rfl (by omega) (by omega) ?_
  refine wkT ?_
  refine ZaN arW (by rw[List.length_set];omega) (Zbg _ _) rfl rfl fun H5 ar5=>?_
  have esw:(c1.set i2 (el c1 j3)).set j3 (el c1 i2)=swp c1 i2 j3:=rfl
  rw[esw]at ar5
  generalize swp c1 i2 j3=c3 at *
  have ej3:((j3:Int)-1)=((j3-1:Nat):Int):=by omega
  refine wbT ?_
  rw[ej3]
  refine Zbn ?_
  refine wbT ?_
  refine ZaO (α:=List Int×Nat×Nat) (j3-1+1-(i2+1)) (fun t s H'=>AR H H' r s.1 rest∧Rg a b l s.1∧PtI a b s.2.1 s.2.2 v s.1∧s.2.2+1-s.2.1+t=j3-1+1-(i2+1)) (fun t s=>[(0,.slice (some ⟨r,0,none⟩) n cap),(1,vi a),(10,vi ((s.2.1:Nat):Int)),(11,vi ((s.2.2:Nat):Int))]) (fun _ _=>[]) (c3,i2+1,j3-1) ⟨ar5,rg4,pi4,by show j3-1+1-(i2+1)+0=_;omega⟩ ⟨rfl,rfl,rfl,rfl,trivial⟩ trivial ?_
  rintro t0 ⟨c4,i4,j4⟩ H7 ht0 ⟨ar4,rg4',pi4',hm⟩
  clear pi4
  have pi4:=pi4'
  clear pi4'
  simp only at ar4 rg4' pi4 hm
  have hc4:=rg4'.len
  have y1:=pi4.ai
  have y2:=pi4.ij
  have y3:=pi4.jb
  refine wbT ?_
  refine ZbX (fun (i:Nat) H'=>H7=H'∧PtI a b i j4 v c4∧(j4<i∨v<=el c4 i)∧i4<=i) (fun i=>[(0,.slice (some ⟨r,0,none⟩) n cap),(1,vi a),(10,vi ((i:Nat):Int)),(11,vi ((j4:Nat):Int))]) (fun _=>[]) ?_ ?_
  ·refine wkT ?_
   refine ZaW (j4+1-i4) (fun t H'=>H7=H'∧PtI a b (i4+t) j4 v c4) (fun t=>[(0,.slice (some ⟨r,0,none⟩) n cap),(1,vi a),(10,vi ((i4+t:Nat):Int)),(11,vi ((j4:Nat):Int))]) (fun _=>[]) ⟨rfl,pi4⟩ ⟨rfl,rfl,rfl,rfl,trivial⟩ trivial ?_
   rintro t _ ht ⟨rfl,pit⟩
   have q1:=pit.ai
   have q2:=pit.ij
   have q3:=pit.jb
   have q4:=pit.eq
   refine wkT ?_
   refine wiT (fun z1=>?_) (fun z1=>?_)
   ·refine wkT ?_
    refine Zak (i4+t) rfl rfl rfl (by omega) ?_
    refine wkT ?_
    refine Zaf (hs _) rfl (ar4.cA (by omega) rfl) ?_
    refine wkT ?_
    refine Zak a rfl rfl rfl (by omega) ?_
    refine wkT ?_
    refine Zaf (hs _) rfl (ar4.cA (by omega) rfl) ?_
    rw[q4]
    refine wkT ?_
    refine Zab (vs:=[vi (el c4 (i4+t)),vi v]) rfl (ZbB _ _) ?_
    rintro w _ ⟨rfl,rfl⟩
    refine wkT ?_
    refine wiT (fun z2=>?_) (fun z2=>?_)
    ·refine wkT ?_
     refine⟨⟨t+1,by omega⟩,slt (by omega),⟨rfl,q4,fun k k1 k2=>?_,pit.hi,?_,?_,pit.jb⟩,⟨rfl,rfl,rfl,rfl,trivial⟩,trivial,rfl⟩
     ·have k2:k<i4+(t+1):=k2
      by_cases e:k=i4+t
      ·subst e;exact z2
      ·exact pit.lo k k1 (by omega)
     ·show a+1<=i4+(t+1);omega
     ·show i4+(t+1)<=j4+1;omega
    ·refine wkT ?_
     exact⟨i4+t,⟨rfl,pit,.inr (by omega),by omega⟩,⟨rfl,rfl,rfl,rfl,trivial⟩,trivial,rfl⟩
   ·refine wkT ?_
    exact⟨i4+t,⟨rfl,pit,.inl (by omega),by omega⟩,⟨rfl,rfl,rfl,rfl,trivial⟩,trivial,rfl⟩
  rintro i5 _ ⟨rfl,pi5,st5,gi5⟩
  refine wbT ?_
  refine ZbX (fun (j:Nat) H'=>H7=H'∧PtI a b i5 j v c4∧(j<i5∨el c4 j<v)∧(i5<=j->v<=el c4 i5)∧j<=j4) (fun j=>[(0,.slice (some ⟨r,0,none⟩) n cap),(1,vi a),(10,vi ((i5:Nat):Int)),(11,vi ((j:Nat):Int))]) (fun _=>[]) ?_ ?_
  ·refine wkT ?_
   refine ZaW (j4+1-i5) (fun t H'=>H7=H'∧PtI a b i5 (j4-t) v c4) (fun t=>[(0,.slice (some ⟨r,0,none⟩) n cap),(1,vi a),(10,vi ((i5:Nat):Int)),(11,vi ((j4-t:Nat):Int))]) (fun _=>[]) ⟨rfl,pi5⟩ ⟨rfl,rfl,rfl,rfl,trivial⟩ trivial ?_
   rintro t _ ht ⟨rfl,pit⟩
   have q1:=pit.ai
   have q2:=pit.ij
   have q3:=pit.jb
   have q4:=pit.eq
   have q5:=pi5.ij
   have q6:=pi5.jb
   obtain⟨jj,hjj⟩:∃ jj,j4-t=jj:=⟨_,rfl⟩
   rw[hjj]at pit q2 q3 ⊢
   refine wkT ?_
   refine wiT (fun z1=>?_) (fun z1=>?_)
   ·refine wkT ?_
    refine Zak jj rfl rfl rfl (by omega) ?_
    refine wkT ?_
    refine Zaf (hs _) rfl (ar4.cA (by omega) rfl) ?_
    refine wkT ?_
    refine Zak a rfl rfl rfl (by omega) ?_
    refine wkT ?_
    refine Zaf (hs _) rfl (ar4.cA (by omega) rfl) ?_
    rw[q4]
    refine wkT ?_
    refine Zab (vs:=[vi (el c4 jj),vi v]) rfl (ZbB _ _) ?_
    rintro w _ ⟨rfl,rfl⟩
    refine wkT ?_
    refine wiT (fun z2=>?_) (fun z2=>?_)
    ·refine wkT ?_
     refine⟨⟨t+1,by omega⟩,slt (by omega),⟨rfl,q4,pit.lo,fun k k1 k2=>?_,pit.ai,?_,?_⟩,⟨rfl,rfl,rfl,?_,trivial⟩,trivial,rfl⟩
     ·have k1:j4-(t+1)<k:=k1
      by_cases e:k=jj
      ·subst e;omega
      ·exact pit.hi k (by omega) k2
     ·show i5<=j4-(t+1)+1;omega
     ·show j4-(t+1)+1<=b;omega
     ·show some (vi ((jj:Int)-1))=some (vi ((j4-(t+1):Nat):Int))
      congr 2;omega
    ·refine wkT ?_
     exact⟨jj,⟨rfl,pit,.inr (by omega),fun h=>by have:=st5;omega,by omega⟩,⟨rfl,rfl,rfl,rfl,trivial⟩,trivial,rfl⟩
   ·refine wkT ?_
    exact⟨jj,⟨rfl,pit,.inl (by omega),fun h=>by omega,by omega⟩,⟨rfl,rfl,rfl,rfl,trivial⟩,trivial,rfl⟩
  rintro j6 _ ⟨rfl,pj6,sj6,sk6,gj6⟩
  have x1:=pj6.ai
  have x2:=pj6.ij
  have x3:=pj6.jb
  refine wbT ?_
  refine Zbn ?_
  refine wkT ?_
  refine wiT (fun g2=>?_) (fun g2=>?_)
  ·refine wkT ?_
   refine Zak a rfl rfl (by omega) (by omega) ?_
   refine wkT ?_
   refine Zaf (Loud.loud _) rfl (AR.cA ar4 (by omega) rfl) ?_
   refine wkT ?_
   refine Zak j6 rfl rfl (by omega) (by omega) ?_
   refine wkT ?_
   refine Zaf (Loud.loud _) rfl (AR.cA ar4 (by omega) rfl) ?_
   refine wkT ?_
   refine Zak j6 rfl rfl (by omega) (by omega) ?_
   refine wkT ?_
   refine ZaN ar4 (by omega) (Zbg _ _) rfl rfl fun HW arW=>?_
   refine kp_l Loud.loud ?_
   refine wkT ?_
   refine Zak a rfl rfl (by omega) (by omega) ?_
   refine wkT ?_
   refine ZaN arW (by rw[List.length_set];omega) (Zbg _ _) rfl rfl fun H9 ar9=>?_
   refine wkT ?_
   exact⟨swp c4 j6 a,j6,false,ar9,.step _ _ rg4' (by omega) (by omega) (by omega) (by omega),pj6.fin (by omega) (by omega),rfl⟩
  ·have hij':i5<=j6:=by omega
   have hne':i5≠j6:=fun e=>by
    have h1:=sk6 hij'
    rw[e]at h1
    rcases sj6 with h | h<;>omega
   have pi9:=pj6.swap hij' (sk6 hij') (by rcases sj6 with h | h<;>omega) (by omega)
   have rg9:Rg a b l (swp c4 i5 j6):=.step _ _ rg4' (by omega) (by omega) (by omega) (by omega)
   refine wkT ?_
   refine Zak j6 rfl rfl (by omega) (by omega) ?_
   refine wkT ?_
   refine Zaf (Loud.loud _) rfl (AR.cA ar4 (by omega) rfl) ?_
   refine wkT ?_
   refine Zak i5 rfl rfl (by omega) (by omega) ?_
   refine wkT ?_
   refine Zaf (Loud.loud _) rfl (AR.cA ar4 (by omega) rfl) ?_
   refine wkT ?_
   refine Zak i5 rfl rfl (by omega) (by omega) ?_
   refine wkT ?_
   refine ZaN ar4 (by omega) (Zbg _ _) rfl rfl fun HW arW=>?_
   refine kp_l Loud.loud ?_
   refine wkT ?_
   refine Zak j6 rfl rfl (by omega) (by omega) ?_
   refine wkT ?_
   refine ZaN arW (by rw[List.length_set];omega) (Zbg _ _) rfl rfl fun H9 ar9=>?_
   refine wkT ?_
   refine⟨(⟨j3-1+1-(i2+1)-(j6-1+1-(i5+1)),by omega⟩,(swp c4 i5 j6,i5+1,j6-1)),?_,⟨ar9,rg9,pi9,?_⟩,⟨rfl,rfl,rfl,?_,trivial⟩,trivial,rfl⟩
   ·show j3-1+1-(i2+1)-(j3-1+1-(i2+1)-(j6-1+1-(i5+1)))<j3-1+1-(i2+1)-t0
    omega
   ·show j6-1+1-(i5+1)+(j3-1+1-(i2+1)-(j6-1+1-(i5+1)))=j3-1+1-(i2+1)
    omega
   ·show some (vi ((j6:Int)-1))=some (vi ((j6-1:Nat):Int))
    congr 2;omega
end
end Go.Proofs
end
