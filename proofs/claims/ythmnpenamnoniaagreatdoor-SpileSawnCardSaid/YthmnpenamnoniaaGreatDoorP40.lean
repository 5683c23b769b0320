import Derived.Test.YthmnpenamnoniaaGreatDoorP37
import Derived.Test.YthmnpenamnoniaaGreatDoorP39
set_option linter.all false
section
open Go Go.LL
namespace Go.Proofs
def Zcv (b:Bk)(g:N4)(s:Int):Bool:=decide (lowF b g<=s∧s<=Zfb b g)
def cntF (b:Bk)(s:Int):Nat:=((Zae b).filter fun x=>Zcv b (Zas b x) s).length
def Zdx (b:Bk)(m:List (N4×Int))(x:Boat):List (N4×Int):=if ZgA b x then putM m (Zas b x) (getM m (Zas b x)+1) else m
def ZdD (b:Bk)(L:List Boat):List (N4×Int):=L.foldl (Zdx b) []
theorem Zdy (b:Bk)(L:List Boat)(x:Boat):ZdD b (L++[x])=Zdx b (ZdD b L) x:=by rw[ZdD,List.foldl_append];rfl
def sumM (w:N4->Bool):List (N4×Int)->Int
 | []=>0
 | (k,v) :: r=>(if w k then v else 0)+sumM w r
theorem Zi5 (w:N4->Bool)(a:N4):∀ m:List (N4×Int),sumM w (putM m a (getM m a+1))=sumM w m+if w a then 1 else 0
 | []=>by simp[putM,sumM,getM]
 | (k,v) :: r=>by
  rw[putM,getM]
  by_cases h:a=k
  ·subst h
   rw[if_pos rfl,if_pos rfl,sumM,sumM]
   split<;>omega
  ·rw[if_neg h,if_neg h,sumM,sumM,Zi5 w a r];omega
theorem Zfk {α:Type}{p:List α->Prop}(h0:p [])(h1:∀ l x,p l->p (l++[x])):∀ l,p l:=by
 have:∀ (n:Nat) (l:List α),l.length=n->p l:=by
  intro n
  induction n with
  | zero=>intro l hl;rw[List.eq_nil_of_length_eq_zero hl];exact h0
  | succ n ih=>
   intro l hl
   have hne:l≠[]:=by rintro rfl;simp at hl
   rw[<-List.dropLast_concat_getLast hne]
   exact h1 _ _ (ih _ (by simp;omega))
 exact fun l=>this _ l rfl
theorem Zkh (b:Bk)(s:Int):∀ L:List Boat,sumM (fun g=>Zcv b g s) (ZdD b L)=((L.filter fun x=>Zcv b (Zas b x) s).length:Int):=by
 refine Zfk rfl fun L x ih=>?_
 rw[Zdy,Zdx,List.filter_append,List.length_append]
 cases hf:ZgA b x with
 | true=>
  rw[if_pos rfl,Zi5,ih]
  cases hs:Zcv b (Zas b x) s<;>simp[hs]
 | false=>
  have hs:Zcv b (Zas b x) s=false:=by
   rw[ZgA,decide_eq_false_iff_not]at hf
   rw[Zcv,decide_eq_false_iff_not]
   omega
  simp[hs,ih]
theorem Zmg {α:Type}[DecidableEq α]{a:α}{w:Int}{p:α×Int}:∀ {m:List (α×Int)},p∈putM m a w->(p.1=a∧p.2=w)∨p∈m∨(p.1=a∧p.2=w)
 | [],h=>by
  rw[putM]at h
  rw[List.mem_singleton.1 h];exact .inl ⟨rfl,rfl⟩
 | (k,v) :: r,h=>by
  rw[putM]at h
  split at h
  ·rename_i hk
   rcases List.mem_cons.1 h with rfl | h
   ·exact .inl ⟨hk.symm,rfl⟩
   ·exact .inr (.inl (List.mem_cons_of_mem _ h))
  ·rcases List.mem_cons.1 h with rfl | h
   ·exact .inr (.inl (List.mem_cons_self ..))
   ·rcases Zmg h with h | h | h
    ·exact .inl h
    ·exact .inr (.inl (List.mem_cons_of_mem _ h))
    ·exact .inr (.inr h)
theorem ZdA {α:Type}[DecidableEq α]{a:α}:∀ {m:List (α×Int)},(∀ p∈m,0<=p.2)->0<=getM m a
 | [],_=>Int.le_refl _
 | (k,v) :: r,h=>by
  rw[getM]
  split
  ·exact h (k,v) (List.mem_cons_self ..)
  ·exact ZdA fun p hp=>h p (List.mem_cons_of_mem _ hp)
theorem Zki (b:Bk):∀ L:List Boat,∀ p∈ZdD b L,(∃ x∈L,p.1=Zas b x)∧0<=p.2:=by
 refine Zfk (fun p hp=>by simp[ZdD]at hp) fun L x ih=>?_
 intro p hp
 rw[Zdy,Zdx]at hp
 have hold:p∈ZdD b L->(∃ y∈L++[x],p.1=Zas b y)∧0<=p.2:=fun hp=>by
  obtain⟨⟨y,h1,h2⟩,h3⟩:=ih p hp
  exact⟨⟨y,by simp[h1],h2⟩,h3⟩
 split at hp
 ·have hn:=ZdA (a:=Zas b x) fun p hp=>(ih p hp).2
  rcases Zmg hp with ⟨h1,h2⟩ | h | ⟨h1,h2⟩
  ·exact⟨⟨x,by simp,h1⟩,by omega⟩
  ·exact hold h
  ·exact⟨⟨x,by simp,h1⟩,by omega⟩
 ·exact hold hp
def sumL (w:N4->Bool)(seen:Array Nat):Nat->List (N4×Int)->Int
 | _,[]=>0
 | i,(k,v) :: r=>(if !seen.contains i && w k then v else 0)+sumL w seen (i+1) r
theorem ZgF (w:N4->Bool):∀ (i:Nat) (m:List (N4×Int)),sumL w #[] i m=sumM w m
 | _,[]=>rfl
 | i,(k,v) :: r=>by rw[sumL,sumM,ZgF w (i+1) r];simp
theorem ZfI {w:N4->Bool}{seen:Array Nat}:∀ {i:Nat} {m:List (N4×Int)},(∀ p∈m,0<=p.2)->0<=sumL w seen i m
 | _,[],_=>Int.le_refl _
 | i,(k,v) :: r,h=>by
  have h1:=h (k,v) (List.mem_cons_self ..)
  have h2:=ZfI (w:=w) (seen:=seen) (i:=i+1) fun p hp=>h p (List.mem_cons_of_mem _ hp)
  rw[sumL]
  split<;>omega
theorem Zb4 (seen:Array Nat)(j i:Nat):(seen.push j).contains i=(seen.contains i || i == j):=by
 rw[Bool.eq_iff_iff];simp[Array.contains_iff_mem]
theorem ZjO {w:N4->Bool}{seen:Array Nat}{j:Nat}:∀ {i:Nat} {m:List (N4×Int)},j<i->sumL w (seen.push j) i m=sumL w seen i m
 | _,[],_=>rfl
 | i,(k,v) :: r,h=>by
  rw[sumL,sumL,ZjO (by omega),Zb4,show (i == j)=false by simp;omega,Bool.or_false]
theorem left_mem {seen:Array Nat}{e:MapEntry}{i:Nat}{m:List (N4×Int)}(h:e∈Zbx (esFrom numV i m) seen):∃ j k v,(k,v)∈m∧e=⟨numV k,vi v,j⟩∧seen.contains j=false∧i<=j ∧
  ∀ w:N4->Bool,sumL w seen i m=(if w k then v else 0)+sumL w (seen.push j) i m:=by
 obtain⟨h1,h2⟩:=List.mem_filter.1 h
 have h2:seen.contains e.born=false:=by simpa using h2
 clear h
 induction m generalizing i with
 | nil=>simp[esFrom]at h1
 | cons p r ih=>
  obtain⟨k,v⟩:=p
  rw[esFrom]at h1
  rcases List.mem_cons.1 h1 with rfl | h1
  ·refine⟨i,k,v,List.mem_cons_self ..,rfl,h2,Nat.le_refl _,fun w=>?_⟩
   rw[sumL,sumL,ZjO (Nat.lt_succ_self i),Zb4]
   simp only at h2
   rw[h2]
   simp
  ·obtain⟨j,k',v',g1,g2,g3,g4,g5⟩:=ih h1
   refine⟨j,k',v',List.mem_cons_of_mem _ g1,g2,g3,by omega,fun w=>?_⟩
   rw[sumL,sumL,g5 w,Zb4,show (i == j)=false by simp;omega,Bool.or_false]
   omega
theorem Zkn {w:N4->Bool}{seen:Array Nat}:∀ {i:Nat} {m:List (N4×Int)},Zbx (esFrom numV i m) seen=[]->sumL w seen i m=0
 | _,[],_=>rfl
 | i,(k,v) :: r,h=>by
  rw[esFrom,Zbx,List.filter_cons]at h
  split at h
  ·simp at h
  ·rename_i hc
   have hc:seen.contains i=true:=by simpa using hc
   rw[sumL,Zkn (i:=i+1) h,hc]
   simp
theorem Zms {seen:Array Nat}{e:MapEntry}{es:List MapEntry}(h:e∈Zbx es seen):(Zbx es (seen.push e.born)).length<(Zbx es seen).length:=by
 have e1:Zbx es (seen.push e.born)=(Zbx es seen).filter fun f=>!(f.born == e.born):=by
  rw[Zbx,Zbx,List.filter_filter]
  congr 1
  funext f
  rw[Zb4]
  cases seen.contains f.born<;>cases (f.born == e.born)<;>rfl
 rw[e1]
 exact List.length_filter_lt_length_iff_exists.2 ⟨e,h,by simp⟩
theorem Zfq (base:Nat):∀ (N:Nat) (l:List Nat),l.Nodup->(∀ j∈l,base<=j∧j<base+N)->l.length<=N
 | 0,l,_,h=>by
  cases l with
  | nil=>simp
  | cons a l=>have:=h a (List.mem_cons_self ..);omega
 | N+1,l,hn,h=>by
  by_cases hm:base+N∈l
  ·have h1:=Zfq base N (l.erase (base+N)) (hn.erase _) fun j hj=>by
    obtain⟨h2,h3⟩:=(hn.mem_erase_iff).1 hj
    have:=h j h3
    omega
   rw[List.length_erase_of_mem hm]at h1
   omega
  ·have:=Zfq base N l hn fun j hj=>by
    have h3:=h j hj
    have:j≠base+N:=by rintro rfl;exact hm hj
    omega
   omega
structure Pl where
 (s k:Int)
instance:Enc Pl:=⟨2,fun p=>[vi p.s,vi p.k],fun _=>rfl⟩
def Zbr (b:Bk)(base j:Nat):Pl:=⟨((j-base:Nat):Int)-597,cntF b (((j-base:Nat):Int)-597)⟩
def ZkS (b:Bk)(rF base:Nat)(l:List Nat)(Hl:Hp):Prop:=
 ∃ v bb,Hl rF=some (.cells #[v] 194 (0,0),true)∧OwnS Hl 198 2 v (encs (l.map (Zbr b base))) l.length bb∧bb≠some rF∧(∀ x,Hl x≠none->x=rF∨bb=some x)∧l.Nodup∧∀ j∈l,base<=j∧j<base+1195
theorem u149:Tryz.prog.underlying 194=some (.slice 198):=by kernel_rfl
theorem t153:tiOf Tryz.prog 198=some (2,some (.agg #[vi 0,vi 0]),16):=by kernel_rfl
theorem t149:tiOf Tryz.prog 194=some (1,some (.slice none 0 0),24):=by kernel_rfl
theorem u150:Tryz.prog.underlying 195=some (.map 115 3):=by kernel_rfl
instance  (c:Cx)(i:Nat):Tz (pw c i):=⟨rfl⟩
section
set_option maxHeartbeats 2000000
theorem ZlB {c:Cx}(ok:c.Ok){b:Bk}{i n rF r12 r9 r5 rm:Nat}{pv cv w:Value}{pm:Bool}(val:Zen b)(hn:n<1195)(hi:i=c.base+n)(hneed:c.need i=decide (0<cntF b ((n:Int)-597)))(hPI:c.PI=ZkS b rF c.base)
  {H:Hp} (hg:H.gh=[1]) (h12:CellsAt H ⟨r12,0,none⟩ [vi n]) (h9:CellsAt H ⟨r9,0,none⟩ [.map (some rm)]) (hm:H rm=some (mapO numV (ZdD b (Zae b)),pm)) (h5:CellsAt H ⟨r5,0,none⟩ [vi b.op,vi b.sl,pv,cv,w]) (hb:BkAt H (.agg #[vi b.op,vi b.sl,pv,cv]) b) :
  ZbE (pw c i) .deferred 103 #[ptr c.W,pt r12,pt r9,pt r5,ptr c.M,pt rF] H fun _ H'=>H'.gh=lv 0:=by
 have hst:(pw c i).still H.gh=false:=by rw[hg];rfl
 have hlen:=Zbp val
 have hcnt:cntF b ((n:Int)-597)<=1782:=Nat.le_trans (List.length_filter_le _ _) hlen
 have hmem:=Zki b (Zae b)
 have hsum:=Zkh b ((n:Int)-597) (Zae b)
 obtain⟨m,hmm⟩:∃ m,m=ZdD b (Zae b):=⟨_,rfl⟩
 rw[<-hmm]at hm hmem hsum
 refine IsN.mK (P:=pw c i) (.inr rfl) c110 (args:=[ptr c.W,pt r12,pt r9,pt r5,ptr c.M,pt rF]) rfl ?_
 unfold n110
 refine wkT ?_
 refine Zfo (vs:=[ptr c.W]) rfl ?_
 refine wkT ?_
 refine Zaf hst rfl h12 ?_
 refine wkT ?_
 refine Zaf hst rfl h9 ?_
 refine wkT ?_
 refine om_range (α:=N4) (kv:=numV) (und u150) rfl hm hst fun it hit=>?_
 have hit0:it≠rm:=by rintro rfl;rw[hm]at hit;simp at hit
 refine wkT ?_
 refine Zf0 (ι:=Array Nat×Int) (fun s H'=>H'.gh=[1]∧Inc H H'∧H' it=some (itO rm m.length s.1,true)∧0<=s.2∧s.2+sumL (fun g=>Zcv b g ((n:Int)-597)) s.1 0 m=cntF b ((n:Int)-597)) (fun s=>(Zbx (esFrom numV 0 m) s.1).length)
  (fun s=>[(0,ptr c.W),(1,pt r12),(2,pt r9),(3,pt r5),(4,ptr c.M),(5,pt rF),(6,vi 0),(14,pt it)]) (fun s=>[(6,[vi ((n:Int)-597),vi s.2])]) (#[],0) ⟨hg,Zai hit,Hp.ins_same _ _ _,Int.le_refl _,by rw[ZgF,hsum];simp[cntF]⟩ ⟨rfl,rfl,rfl,rfl,rfl,rfl,rfl,rfl,trivial⟩ ⟨rfl,trivial⟩ ?_
 rintro⟨seen,acc⟩ H1 ⟨hg1,hi1,hit1,hacc,hs1⟩
 simp only at hit1 hacc hs1
 have hst1:(pw c i).still H1.gh=false:=by rw[hg1];rfl
 refine wkT ?_
 refine om_next (α:=N4) (kv:=numV) rfl hit1 (hi1 _ _ hm) hst1 (fun hl=>?_) fun e he=>?_
 ·
  rw[Zkn hl,Int.add_zero]at hs1
  subst hs1
  refine wkT ?_
  refine wiT (fun h2=>?_) (fun h2=>?_)
  ·have hn0:¬ c.need i=true:=by rw[hneed];simp;omega
   refine wkT ?_
   refine ZhO rfl rfl ?_
   refine Zjf (P:=pw c i) Tryz.func104 rfl rfl ?_
   have:=ZmJ ok (kd:=.deferred) (.inr rfl) (H:=H1) (.inl ⟨by rw[hg1];rfl,hn0⟩)
   exact ZbE.mono this fun v H' e=>by rw[e];rfl
  ·have hn1:c.need i=true:=by rw[hneed];simp;omega
   refine wkT ?_
   refine Zab (vs:=[ptr c.M]) rfl (lock_ok ok hn1 hg1) ?_
   rintro v H2 ⟨l,Hl,hpi,hil,_,hlg,hcomp,rfl⟩
   rw[hPI]at hpi
   obtain⟨fv,bb,p1,p2,p3,p4,p5,p6⟩:=hpi
   have hJ:∀ x y,Hl x=some y->((H1.tagged (12 :: l)).join Hl) x=some y:=fun x y h=>Hp.join_right hcomp h
   have hgh2:((H1.tagged (12 :: l)).join Hl).gh=12 :: l:=by rw[Hp.join_gh,hlg];simp[Hp.tagged]
   generalize (H1.tagged (12 :: l)).join Hl=H2 at *
   have hst2:(pw c i).still H2.gh=false:=by rw[hgh2];rfl
   refine wkT ?_
   refine Zfo (vs:=[ptr c.M]) rfl ?_
   refine wkT ?_
   refine Zaf hst2 rfl (Zan (hJ _ _ p1)) ?_
   refine wkT ?_
   refine Zat (cs:=[vi ((n:Int)-597),vi (cntF b ((n:Int)-597))]) hst2 rfl fun r7 hr7=>?_
   have hst3:(pw c i).still (H2.ins r7 (.cells [vi ((n:Int)-597),vi (cntF b ((n:Int)-597))].toArray 198)).gh=false:=hst2
   have o3:OwnS (H2.ins r7 (.cells [vi ((n:Int)-597),vi (cntF b ((n:Int)-597))].toArray 198)) 198 2 fv (encs (l.map (Zbr b c.base))) l.length bb:=
    p2.sub fun x y _ h=>(ZaL hr7).mem x y (hJ _ _ h)
   have f3:(H2.ins r7 (.cells [vi ((n:Int)-597),vi (cntF b ((n:Int)-597))].toArray 198)) rF=some (.cells #[fv] 194 (0,0),true):=(ZaL hr7).mem _ _ (hJ _ _ p1)
   have hgh3:(H2.ins r7 (.cells [vi ((n:Int)-597),vi (cntF b ((n:Int)-597))].toArray 198)).gh=12 :: l:=hgh2
   have c7:CellsAt (H2.ins r7 (.cells [vi ((n:Int)-597),vi (cntF b ((n:Int)-597))].toArray 198)) ⟨r7,0,none⟩ [vi ((n:Int)-597),vi (cntF b ((n:Int)-597))]:=Zar
   generalize H2.ins r7 (.cells [vi ((n:Int)-597),vi (cntF b ((n:Int)-597))].toArray 198)=H3 at *
   have hll:l.length<=1195:=Zfq c.base 1195 l p5 p6
   refine wkT ?_
   refine Zdf (m:=1) (xs:=[vi ((n:Int)-597),vi (cntF b ((n:Int)-597))]) (und u149) (und u149) (tif t153) rfl (by decide) rfl rfl o3 (.inr ⟨_,1,rfl,c7⟩) rfl rfl (by omega) (by decide) hst3 fun v' H4 b' o4 ch=>?_
   have f4:H4 rF=some (.cells #[fv] 194 (0,0),true):=ch.keep _ _ f3 p3
   have hgh4:H4.gh=12 :: l:=ch.gh.trans hgh3
   have hst4:(pw c i).still H4.gh=false:=by rw[hgh4];rfl
   have hne4:b'≠some rF:=by
    rcases ch.new with rfl | ⟨r,rfl,hr⟩
    ·exact p3
    ·intro e
     obtain rfl:=Option.some.inj e
     rw[f3]at hr;simp at hr
   obtain⟨A',c',ev,_⟩:=o4.cells
   subst ev
   refine wkT ?_
   refine Zaw (tif t149) rfl rfl f4 rfl rfl hst4 ?_
   have o5:OwnS (H4.ins rF (.cells #[.slice A' (l.length+1) c'] 194 (0,0))) 198 2 (.slice A' (l.length+1) c') (encs ((l++[i]).map (Zbr b c.base))) (l++[i]).length b':=by
    have e1:encs ((l++[i]).map (Zbr b c.base))=encs (l.map (Zbr b c.base))++[vi ((n:Int)-597),vi (cntF b ((n:Int)-597))]:=by
     rw[List.map_append,Zcd]
     congr 1
     have:i-c.base=n:=by omega
     simp[encs,Enc.enc,Zbr,this]
    rw[e1,List.length_append,List.length_singleton]
    refine o4.sub fun x y e h=>?_
    rw[Hp.ins_other _ _ (by rintro rfl;exact hne4 e)]
    exact h
   have f5:(H4.ins rF (.cells #[.slice A' (l.length+1) c'] 194 (0,0))) rF=some (.cells #[.slice A' (l.length+1) c'] 194 (0,0),true):=Hp.ins_same _ _ _
   have hgh5:(H4.ins rF (.cells #[.slice A' (l.length+1) c'] 194 (0,0))).gh=12 :: l:=hgh4
   generalize H4.ins rF (.cells #[.slice A' (l.length+1) c'] 194 (0,0))=H5 at *
   refine wkT ?_
   refine ZhO rfl rfl ?_
   let Hp0:Hp:=⟨fun x=>if x=rF∨b'=some x then none else H5 x,12 :: l⟩
   let Hp1:Hp:=⟨fun x=>if x=rF∨b'=some x then H5 x else none,[]⟩
   have h0:∀ x,Hp0 x=if x=rF∨b'=some x then none else H5 x:=fun x=>rfl
   have h1:∀ x,Hp1 x=if x=rF∨b'=some x then H5 x else none:=fun x=>rfl
   have hj:H5=Hp0.join Hp1:=by
    refine Hp.ext' (fun x=>?_) (by rw[hgh5,Hp.join_gh];simp[Hp0,Hp1])
    rw[Hp.join_at,h0,h1]
    by_cases e:x=rF∨b'=some x
    ·simp[e]
    ·simp only[e,if_false]
     cases H5 x<;>rfl
   have hc5:Hp0.Comp Hp1:=⟨fun x y z hy hz=>by
    rw[h0]at hy
    rw[h1]at hz
    by_cases e:x=rF∨b'=some x
    ·rw[if_pos e]at hy;simp at hy
    ·rw[if_neg e]at hz;simp at hz,.inr rfl⟩
   have hpi5:c.PI (l++[i]) Hp1:=by
    rw[hPI]
    refine⟨_,b',by rw[h1,if_pos (.inl rfl)];exact f5,o5.sub fun x y e h=>by rw[h1,if_pos (.inr e)];exact h,hne4,fun x hx=>?_,?_,fun j hj=>?_⟩
    rotate_left
    ·rw[List.nodup_append]
     exact⟨p5,by simp,fun x hx y hy=>by rw[List.mem_singleton.1 hy];rintro rfl;exact hil hx⟩
    ·rcases List.mem_append.1 hj with hj | hj
     ·exact p6 j hj
     ·rw[List.mem_singleton.1 hj];omega
    rw[h1]at hx
    by_cases e:x=rF∨b'=some x
    ·exact e
    ·rw[if_neg e]at hx;exact absurd rfl hx
   rw[hj]
   refine Zjf (P:=pw c i) Tryz.func107 rfl rfl ?_
   refine ZbE.mono (ZlE ok (kd:=.deferred) (.inr rfl) hc5 rfl hpi5) ?_
   rintro _ _ rfl
   refine Zjf (P:=pw c i) Tryz.func104 rfl rfl ?_
   refine ZbE.mono (ZmJ ok (kd:=.deferred) (.inr rfl) (H:=Hp0.tagged [19]) (.inr rfl)) fun v H' e=>by rw[e];rfl
 ·obtain⟨j,k,v,g1,rfl,g3,g4,g5⟩:=left_mem he
  have hls:=Zms he
  obtain⟨⟨x,hx,hxk⟩,hv0⟩:=hmem _ g1
  simp only at hxk hv0
  subst hxk
  have g5':=g5 fun g=>Zcv b g ((n:Int)-597)
  have hx':=ZcZ val x hx
  have hnn:=ZfI (w:=fun g=>Zcv b g ((n:Int)-597)) (seen:=seen.push j) (i:=0) fun p hp=>(hmem p hp).2
  have hi2:Inc H (H1.ins it (itO rm m.length (seen.push j))):=Za6 hi1 hit
  have hst2:(pw c i).still (H1.ins it (itO rm m.length (seen.push j))).gh=false:=hst1
  have hgh2:(H1.ins it (itO rm m.length (seen.push j))).gh=[1]:=hg1
  have hit2:(H1.ins it (itO rm m.length (seen.push j))) it=some (itO rm m.length (seen.push j),true):=Hp.ins_same _ _ _
  generalize H1.ins it (itO rm m.length (seen.push j))=H2 at *
  have he':=(List.mem_filter.1 he).1
  refine wkT ?_
  refine om_entry (α:=N4) (kv:=numV) rfl hit2 (hi2 _ _ hm) he' hst2 ?_
  refine wkT ?_
  refine Zao (cs:=[vi b.op,vi b.sl,pv,cv]) hst2 rfl (by rw[add_zero];exact ZbK (ds:=[w]) (h5.inc hi2)) rfl ?_
  refine wkT ?_
  refine Zab (vs:=[.agg #[vi b.op,vi b.sl,pv,cv],numV (Zas b x)]) rfl (ZdZ (hb.inc hi2) val.n.2 (by have:=val.n;omega) val.good.pts (Zko val hx') hst2) ?_
  rintro v4 H4 ⟨hs4,rfl⟩
  have hst4:(pw c i).still H4.gh=false:=by rw[hs4.gh];exact hst2
  refine wkT ?_
  refine Zab (vs:=[vi ((n:Int)-597),vi (lowF b (Zas b x)),vi (Zfb b (Zas b x))]) rfl (Zby _ _ _) ?_
  rintro v5 _ ⟨rfl,rfl⟩
  refine wkT ?_
  refine wiT (fun h3=>?_) (fun h3=>?_)
  ·have hsp:Zcv b (Zas b x) ((n:Int)-597)=true:=decide_eq_true h3
   rw[hsp,if_pos rfl]at g5'
   refine wkT ?_
   exact⟨(seen.push j,acc+v),hls,⟨hs4.gh.trans hgh2,hi2.trans hs4.inc,hs4.mem _ _ hit2,by show 0<=acc+v;omega,by show acc+v+sumL (fun g=>Zcv b g ((n:Int)-597)) (seen.push j) 0 m=_;omega⟩,⟨rfl,rfl,rfl,rfl,rfl,rfl,rfl,rfl,trivial⟩,⟨rfl,trivial⟩,rfl⟩
  ·have hsp:Zcv b (Zas b x) ((n:Int)-597)=false:=decide_eq_false h3
   rw[hsp]at g5'
   simp only[Bool.false_eq_true,if_false]at g5'
   refine wkT ?_
   exact⟨(seen.push j,acc),hls,⟨hs4.gh.trans hgh2,hi2.trans hs4.inc,hs4.mem _ _ hit2,hacc,by show acc+sumL (fun g=>Zcv b g ((n:Int)-597)) (seen.push j) 0 m=_;omega⟩,⟨rfl,rfl,rfl,rfl,rfl,rfl,rfl,rfl,trivial⟩,⟨rfl,trivial⟩,rfl⟩
end
def betP (a b:Pl):Bool:=decide (b.k<a.k) || (decide (a.k=b.k) && decide (a.s<b.s))
def mostL (b:Bk):List Pl:=((List.range 1195).map (Zbr b 0)).filter fun p=>decide (0<p.k)
def pl0:Pl:=⟨0,0⟩
def Zd3 (L:List Pl):Pl:=Zbq betP (L.getD 0 pl0) (L.drop 1)
def ZiA (b:Bk):Pl:=Zd3 (mostL b)
theorem Zfw (a b:Pl):betP a b=true↔b.k<a.k∨(a.k=b.k∧a.s<b.s):=by simp[betP]
theorem Zlh:∀ (l:List Pl) (f:Pl),(Zbq betP f l=f∨Zbq betP f l∈l)∧(∀ q,q=f∨q∈l->¬ betP q (Zbq betP f l)=true):=by
 refine Zfk (fun f=>⟨.inl rfl,fun q hq=>?_⟩) fun l x ih f=>?_
 ·rcases hq with rfl | hq
  ·rw[Zfw,show Zbq betP q []=q from rfl];omega
  ·simp at hq
 ·obtain⟨h1,h2⟩:=ih f
  have e:Zbq betP f (l++[x])=if betP x (Zbq betP f l) then x else Zbq betP f l:=by rw[Zbq,List.foldl_append];rfl
  rw[e]
  split
  ·rename_i hx
   refine⟨.inr (by simp),fun q hq hb=>?_⟩
   have:q=x∨(q=f∨q∈l):=by
    rcases hq with h | h
    ·exact .inr (.inl h)
    ·rcases List.mem_append.1 h with h | h
     ·exact .inr (.inr h)
     ·exact .inl (List.mem_singleton.1 h)
   rcases this with rfl | hq
   ·rw[Zfw]at hb;omega
   ·refine h2 q hq ?_
    rw[Zfw]at hb hx ⊢
    omega
  ·rename_i hx
   refine⟨h1.imp id fun h=>by simp[h],fun q hq=>?_⟩
   rcases hq with h | h
   ·exact h2 q (.inl h)
   ·rcases List.mem_append.1 h with h | h
    ·exact h2 q (.inr h)
    ·rw[List.mem_singleton.1 h];exact hx
theorem Zim {L:List Pl}(h:L≠[]):Zd3 L∈L∧∀ q∈L,¬ betP q (Zd3 L)=true:=by
 cases L with
 | nil=>exact absurd rfl h
 | cons f l=>
  obtain⟨h1,h2⟩:=Zlh l f
  show Zbq betP f l∈_∧∀ q∈f :: l,¬ betP q (Zbq betP f l)=true
  refine⟨?_,fun q hq=>h2 q (List.mem_cons.1 hq)⟩
  rcases h1 with h1 | h1
  ·rw[h1];exact List.mem_cons_self ..
  ·exact List.mem_cons_of_mem _ h1
theorem pick_eq {L L':List Pl}(h:∀ q,q∈L↔q∈L'):Zd3 L=Zd3 L':=by
 by_cases e:L=[]
 ·subst e
  have:L'=[]:=List.eq_nil_iff_forall_not_mem.2 fun q hq=>by have:=(h q).2 hq;simp at this
  rw[this]
 ·have e':L'≠[]:=by
   rintro rfl
   exact e (List.eq_nil_iff_forall_not_mem.2 fun q hq=>by have:=(h q).1 hq;simp at this)
  obtain⟨h1,h2⟩:=Zim e
  obtain⟨h3,h4⟩:=Zim e'
  have g1:=h2 _ ((h _).2 h3)
  have g2:=h4 _ ((h _).1 h1)
  rw[Zfw]at g1 g2
  have a1:(Zd3 L).k=(Zd3 L').k:=by omega
  have a2:(Zd3 L).s=(Zd3 L').s:=by omega
  generalize Zd3 L=x at *
  generalize Zd3 L'=y at *
  cases x;cases y
  simp only at a1 a2
  subst a1 a2
  rfl
theorem Zmf {b:Bk}{q:Pl}:q∈mostL b↔∃ n,n<1195∧q=Zbr b 0 n∧0<cntF b ((n:Int)-597):=by
 rw[mostL,List.mem_filter,List.mem_map]
 constructor
 ·rintro⟨⟨n,hn,rfl⟩,hk⟩
  have hk:(0:Int)<((cntF b ((n:Int)-597):Nat):Int):=of_decide_eq_true hk
  exact⟨n,by simpa using hn,rfl,by omega⟩
 ·rintro⟨n,hn,rfl,hk⟩
  refine⟨⟨n,by simpa using hn,rfl⟩,?_⟩
  have hk:(0:Int)<((cntF b ((n:Int)-597):Nat):Int):=by omega
  exact decide_eq_true hk
theorem most_any {b:Bk}{base:Nat}{l:List Nat}(h1:∀ j,base<=j->j<base+1195->0<cntF b (((j-base:Nat):Int)-597)->j∈l)(h2:∀ j∈l,base<=j∧j<base+1195∧0<cntF b (((j-base:Nat):Int)-597)):Zd3 (l.map (Zbr b base))=ZiA b:=by
 refine pick_eq fun q=>?_
 rw[Zmf,List.mem_map]
 constructor
 ·rintro⟨j,hj,rfl⟩
  obtain⟨g1,g2,g3⟩:=h2 j hj
  exact⟨j-base,by omega,rfl,g3⟩
 ·rintro⟨n,hn,rfl,hk⟩
  have e:base+n-base=n:=by omega
  exact⟨base+n,h1 _ (by omega) (by omega) (by rw[e];exact hk),by simp[Zbr]⟩
def plV (p:Pl):Value:=.agg #[vi p.s,vi p.k]
section
variable  {P:Prg}[Tz P]{H:Hp}
set_option maxHeartbeats 1000000
theorem Most2_ok (a b:Pl)(hst:P.still H.gh=false):LL.Zag P 110 #[plV a,plV b] H fun v H'=>H=H'∧v=vb (betP a b):=by
 refine IsN.m (isn c117) (args:=[plV a,plV b]) rfl ?_
 unfold n117
 unfold plV
 refine wkT ?_
 refine wiT (fun h1=>?_) (fun h1=>?_)
 ·refine wkT ?_
  exact⟨rfl,by rw[betP,decide_eq_true h1];rfl⟩
 ·refine wkT ?_
  refine wiT (fun h2=>?_) (fun h2=>?_)
  ·refine wkT ?_
   exact⟨rfl,by rw[betP,decide_eq_false h1,decide_eq_true h2];rfl⟩
  ·refine wkT ?_
   exact⟨rfl,by rw[betP,decide_eq_false h1,decide_eq_false h2];rfl⟩
theorem bestP_ok (f:Pl){v:Value}{l:List Pl}(hs:SlAt H v l)(hl:l.length<=1000000)(hst:P.still H.gh=false):LL.Zag P 109 #[vf 110,plV f,v] H fun v H'=>H=H'∧v=plV (Zbq betP f l):=by
 refine IsN.m (isn c116) (args:=[vf 110,plV f,v]) rfl ?_
 unfold n116
 refine wkT ?_
 refine Zau hs rfl ?_
 refine wkT ?_
 refine ZaW l.length (fun j H'=>H=H') (fun j=>[(0,vf 110),(4,vi 0),(6,vi 0),(9,v),(10,vi l.length),(11,vi j)]) (fun j=>[(4,[vi (Zbq betP f (l.take j)).s,vi (Zbq betP f (l.take j)).k]),(6,[vi 0,vi 0])]) rfl ⟨rfl,rfl,rfl,rfl,rfl,rfl,trivial⟩ ⟨rfl,rfl,trivial⟩ ?_
 rintro j _ hj rfl
 refine wkT ?_
 refine wiT (fun h1=>?_) (fun h1=>?_)
 ·have hj':j<l.length:=by omega
  have hb:=ZdB betP f hj'
  refine wkT ?_
  refine ZaE hs rfl rfl rfl (i:=j) hj' fun a ha=>?_
  refine wkT ?_
  refine Zao hst rfl ha rfl ?_
  refine wkT ?_
  refine ZaP (vs:=[plV l[j],plV (Zbq betP f (l.take j))]) rfl rfl (ZcY (by kernel_rfl) (Most2_ok l[j] (Zbq betP f (l.take j)) hst)) ?_
  rintro v _ ⟨rfl,rfl⟩
  refine wkT ?_
  refine wiT (fun h2=>?_) (fun h2=>?_)
  ·refine wkT ?_
   rw[if_pos h2]at hb
   exact⟨⟨j+1,by omega⟩,slt (by omega),rfl,⟨rfl,rfl,rfl,rfl,rfl,rfl,trivial⟩,⟨by rw[hb];rfl,rfl,trivial⟩,rfl⟩
  ·refine wkT ?_
   rw[if_neg (by simp[h2])]at hb
   exact⟨⟨j+1,by omega⟩,slt (by omega),rfl,⟨rfl,rfl,rfl,rfl,rfl,rfl,trivial⟩,⟨by rw[hb];rfl,rfl,trivial⟩,rfl⟩
 ·have:j=l.length:=by omega
  subst this
  refine wkT ?_
  exact⟨rfl,by rw[List.take_length];rfl⟩
end
end Go.Proofs
end
