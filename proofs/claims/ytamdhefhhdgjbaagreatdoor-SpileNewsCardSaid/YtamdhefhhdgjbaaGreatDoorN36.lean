import Derived.Test.YtamdhefhhdgjbaaGreatDoorN35
set_option linter.all false
section
open Go Go.LL
namespace Go.Proofs
theorem and_le (z M:Nat)(hM:M<18446744073709551616):((BitVec.ofInt IntKind.u64.bits (z:Int) &&& BitVec.ofInt IntKind.u64.bits (M:Int)).toNat)<=M:=by
 rw[BitVec.toNat_and]
 refine Nat.le_trans Nat.and_le_right ?_
 rw[BitVec.toNat_ofInt]
 simp only[IntKind.bits]
 omega
section
variable  {P:Prg}[Tz P][Loud P]{H:Hp}
theorem om_subU {d:Option Nat}{next:NSt->Hp->Prop}{σ:NSt}{x y:Operand}{m n q:Int}(e1:σ.get x=some (.int .u64 m))(e2:σ.get y=some (.int .u64 n))(hr:IntKind.u64.wrap (m-n)=q)(h:next (σ.set d (.int .u64 q)) H):(NOp.bin .sub x y).m P d next σ H:=by
 subst hr;exact Za3 e1 e2 rfl h
set_option maxHeartbeats 1000000
theorem break_ok {r cap a k n:Nat}{l:List Int}{rest:List Value}(hA:H r=some (.cells (encs l++rest).toArray 3 (0,0),true))(hn:l.length=n)(hk:12<k)(hb:a+k<=n)(hl:n<=60000) :
  LL.Zai P 181 #[.slice (some ⟨r,0,none⟩) n cap,vi a,vi (a+k:Nat)] H fun v H'=>∃ l',AR H H' r l' rest∧Rg a (a+k) l l':=by
 have hs:=Loud.loud (P:=P)
 refine IsN.m (isn c181) (args:=[.slice (some ⟨r,0,none⟩) n cap,vi a,vi (a+k:Nat)]) rfl ?_
 unfold n181
 have ek:(((a+k:Nat):Int)-(a:Int))=(k:Int):=by omega
 have e4:((k:Int)).tdiv 4=((k / 4:Nat):Int):=by rw[Int.tdiv_eq_ediv_of_nonneg (by omega)];omega
 have hpw:=Zoe (m:=k) (by omega)
 refine wkT ?_
 rw[ek]
 refine wiT (fun g1=>?_) (fun g1=>?_)
 ·refine wkT ?_
  refine ZcA (und ui3) (und u235) rfl ?_
  rw[Zho (by omega)]
  refine wkT ?_
  refine Zaz (tif t235) (hs _) fun r2 hr2=>?_
  have hr:r2≠r:=by rintro rfl;rw[hA]at hr2;simp at hr2
  refine wkT ?_
  refine ZaA (tif t235) rfl rfl (Hp.ins_same _ _ _) rfl rfl (hs _) ?_
  rw[Zbk]
  have ar1:=(AR.of hA).new (o:=.cells #[.int .u64 (k:Int)] 235) hr2
  have h21:(H.ins r2 (.cells #[.int .u64 (k:Int)] 235)) r2=some (.cells #[.int .u64 (k:Int)] 235 (0,0),true):=Hp.ins_same _ _ _
  generalize H.ins r2 (.cells #[.int .u64 (k:Int)] 235)=H1 at *
  refine wkT ?_
  refine Zab (vs:=[vi k]) rfl (pow2_ok (by omega)) ?_
  rintro v _ ⟨rfl,rfl⟩
  generalize hM:2 ^ len64 k=M at *
  have hM0:1<=M:=by rw[<-hM];exact Nat.one_le_two_pow
  refine wkT ?_
  refine ZgB rfl rfl (by decide) (by rw[e4];exact⟨by omega,by omega⟩) ?_
  rw[e4]
  refine wkT ?_
  refine ZhF rfl rfl ⟨by omega,by omega⟩ ?_
  refine wkT ?_
  have e9:((a:Int)+((k / 4:Nat):Int) * 2-1)=((a+k / 4 * 2-1:Nat):Int):=by omega
  rw[e9]
  refine Zax (α:=List Int×Nat) 3 (fun t s H'=>AR H H' r s.1 rest∧Rg a (a+k) l s.1∧H' r2=some (.cells #[.int .u64 (s.2:Int)] 235 (0,0),true)) (fun t _=>[(0,.slice (some ⟨r,0,none⟩) n cap),(1,vi a),(6,vi k),(7,pt r2),(8,.int .u64 (M:Int)),(9,vi (a+k / 4 * 2-1+t:Nat))]) (fun _ _=>[]) (l,k) ⟨ar1,.refl l,h21⟩ ⟨rfl,rfl,rfl,rfl,rfl,rfl,trivial⟩ trivial ?_
  rintro t ⟨c,y⟩ H2 ht ⟨ar,rg,hy⟩
  simp only at ar rg hy
  have hcl:=rg.len
  refine wkT ?_
  refine ZgB rfl rfl (by decide) (by rw[e4];exact⟨by omega,by omega⟩) ?_
  rw[e4]
  refine wkT ?_
  refine ZhF rfl rfl ⟨by omega,by omega⟩ ?_
  refine wkT ?_
  refine wiT (fun g2=>?_) (fun g2=>?_)
  ·refine wkT ?_
   refine Zab (vs:=[pt r2]) rfl (Zmk hy) ?_
   rintro v H3 ⟨z,hz,rfl,hz2,hkp⟩
   have ar3:AR H H3 r c rest:=⟨fun b x hb hx=>by
    by_cases e:b=r2
    ·subst e;rw[hr2]at hx;simp at hx
    ·exact hkp b x e (ar.keep b x hb hx),hkp r _ (Ne.symm hr) ar.at_⟩
   have hle:=and_le z (M-1) (by omega)
   generalize ho:(BitVec.ofInt IntKind.u64.bits (z:Int) &&& BitVec.ofInt IntKind.u64.bits ((M-1:Nat):Int)).toNat=o at *
   refine wkT ?_
   refine om_subU (q:=((M-1:Nat):Int)) rfl rfl (by rw[show (M:Int)-1=((M-1:Nat):Int) by omega,Zho (by omega)]) ?_
   refine wkT ?_
   refine ZgC (v:=.int .u64 (o:Int)) rfl rfl (.inl rfl) (by show Value.int .u64 (IntKind.u64.wrap _)=_;rw[ho,Zho (by omega)]) ?_
   refine wkT ?_
   refine ZcA (und u188) (und ui3) rfl ?_
   rw[Zcf ⟨by omega,by omega⟩]
   refine wbT ?_
   refine Zcb (fun (q:Nat) H'=>H3=H'∧q<k) (fun q=>[(0,.slice (some ⟨r,0,none⟩) n cap),(1,vi a),(6,vi k),(7,pt r2),(8,.int .u64 (M:Int)),(9,vi (a+k / 4 * 2-1+t:Nat)),(10,vi q)]) (fun _=>[]) ?_ ?_
   ·refine wbT ?_
    refine wiT (fun g3=>?_) (fun g3=>?_)
    ·refine wkT ?_
     exact⟨o-k,⟨rfl,by omega⟩,⟨rfl,rfl,rfl,rfl,rfl,rfl,by show some (vi ((o:Int)-(k:Int)))=some (vi ((o-k:Nat):Int));congr 2;omega,trivial⟩,trivial,rfl⟩
    ·refine wkT ?_
     exact⟨o,⟨rfl,by omega⟩,⟨rfl,rfl,rfl,rfl,rfl,rfl,rfl,trivial⟩,trivial,rfl⟩
   rintro q _ ⟨rfl,hq⟩
   refine wkT ?_
   have ar3':=AR.of ar3.at_
   refine Zak (a+q) rfl rfl (by omega) (by omega) ?_
   refine wkT ?_
   refine Zaf (Loud.loud _) rfl (AR.cA ar3' (by omega) rfl) ?_
   refine wkT ?_
   refine Zak (a+k / 4 * 2-1+t) rfl rfl (by omega) (by omega) ?_
   refine wkT ?_
   refine Zaf (Loud.loud _) rfl (AR.cA ar3' (by omega) rfl) ?_
   refine wkT ?_
   refine Zak (a+k / 4 * 2-1+t) rfl rfl (by omega) (by omega) ?_
   refine wkT ?_
   refine ZaW ar3' (by omega) (Zbo _ _) rfl rfl fun HW arW=>?_
   refine kp_l Loud.loud ?_
   refine wkT ?_
   refine Zak (a+q) rfl rfl (by omega) (by omega) ?_
   refine wkT ?_
   refine ZaW arW (by rw[List.length_set];omega) (Zbo _ _) rfl rfl fun H6 ar6'=>?_
   refine wkT ?_
   have ar6:=ar3.trans ar6'
   have hy6:H6 r2=some (.cells #[.int .u64 (z:Int)] 235 (0,0),true):=ar6'.keep r2 _ hr hz2
   refine⟨(⟨t+1,by omega⟩,(swp c (a+k / 4 * 2-1+t) (a+q),z)),slt (by omega),⟨ar6,.step _ _ rg (by omega) (by omega) (by omega) (by omega),hy6⟩,⟨rfl,rfl,rfl,rfl,rfl,rfl,trivial⟩,trivial,rfl⟩
  ·refine wkT ?_
   exact⟨c,ar,rg⟩
 ·exact absurd g1 (by omega)
end
structure PdI (a0 b0 a b:Nat)(l c:List Int):Prop where
 rg:Rg a0 b0 l c
 h1:a0<=a
 h2:a<=b
 h3:b<=b0
 s1:So a0 a c
 s2:So b b0 c
 s3:∀ x y,a0<=x->x<a->a<=y->y<b0->el c x<=el c y
 s4:∀ x y,a0<=x->x<b->b<=y->y<b0->el c x<=el c y
 lw:Low a0 b0 c
theorem PdI.start {a0 b0:Nat}{l:List Int}(hab:a0<=b0)(lw:Low a0 b0 l):PdI a0 b0 a0 b0 l l:=
 ⟨.refl l,Nat.le_refl _,hab,Nat.le_refl _,Ze3 l (by omega),Ze3 l (by omega),fun x y h1 h2=>by omega,fun x y h1 h2 h3 h4=>by omega,lw⟩
theorem PdI.step {a0 b0 a b:Nat}{l c c':List Int}(h:PdI a0 b0 a b l c)(r:Rg a b c c')(hb:b0<=c.length):PdI a0 b0 a b l c':=by
 have g1:=h.h1
 have g2:=h.h2
 have g3:=h.h3
 have out:∀ k,(k<a∨b<=k)->el c' k=el c k:=fun k hk=>r.out (by omega) hk
 have r':Rg a0 b0 c c':=r.mono g1 g3
 refine⟨h.rg.trans r',g1,g2,g3,fun x y x1 x2 x3=>?_,fun x y x1 x2 x3=>?_,fun x y x1 x2 x3 x4=>?_,fun x y x1 x2 x3 x4=>?_,h.lw.rg r' hb⟩
 ·rw[out x (.inl (by omega)),out y (.inl x3)];exact h.s1 x y x1 x2 x3
 ·rw[out x (.inr x1),out y (.inr (by omega))];exact h.s2 x y x1 x2 x3
 ·rw[out x (.inl x2)]
  by_cases e:y<b
  ·exact r.all (by omega) (p:=fun v=>el c x<=v) (fun k k1 k2=>h.s3 x k x1 x2 k1 (by omega)) y x3 e
  ·rw[out y (.inr (by omega))];exact h.s3 x y x1 x2 x3 x4
 ·rw[out y (.inr x3)]
  by_cases e:a<=x
  ·exact r.all (by omega) (p:=fun v=>v<=el c y) (fun k k1 k2=>h.s4 k y (by omega) k2 x3 x4) x e x2
  ·rw[out x (.inl (by omega))];exact h.s4 x y x1 x2 x3 x4
theorem PdI.fin {a0 b0 a b:Nat}{l c:List Int}(h:PdI a0 b0 a b l c)(s:So a b c):So a0 b0 c:=by
 have g1:=h.h1
 have g2:=h.h2
 have g3:=h.h3
 intro x y x1 x2 x3
 by_cases e1:x<a
 ·by_cases e2:y<a
  ·exact h.s1 x y x1 x2 e2
  ·exact h.s3 x y x1 e1 (by omega) x3
 ·by_cases e2:y<b
  ·exact s x y (by omega) x2 e2
  ·by_cases e3:x<b
   ·exact h.s4 x y x1 e3 (by omega) x3
   ·exact h.s2 x y (by omega) x2 x3
theorem PdI.low {a0 b0 a b:Nat}{l c:List Int}(h:PdI a0 b0 a b l c):Low a b c:=by
 have g1:=h.h1
 have g3:=h.h3
 by_cases e:a=a0
 ·subst e
  exact h.lw.imp id fun hh k k1 k2=>hh k k1 (by omega)
 ·exact .inr fun k k1 k2=>h.s3 _ k (by omega) (by omega) k1 (by omega)
theorem PdI.left {a0 b0 a b q:Nat}{l c:List Int}(h:PdI a0 b0 a b l c)(h1:a<=q)(h2:q<=b)(s:So a q c)(hx:∀ x y,a<=x->x<q->q<=y->y<b->el c x<=el c y):PdI a0 b0 q b l c:=by
 have g1:=h.h1
 have g3:=h.h3
 refine⟨h.rg,by omega,h2,g3,fun x y x1 x2 x3=>?_,h.s2,fun x y x1 x2 x3 x4=>?_,h.s4,h.lw⟩
 ·by_cases e1:x<a
  ·by_cases e2:y<a
   ·exact h.s1 x y x1 x2 e2
   ·exact h.s3 x y x1 e1 (by omega) (by omega)
  ·exact s x y (by omega) x2 x3
 ·by_cases e1:x<a
  ·exact h.s3 x y x1 e1 (by omega) x4
  ·by_cases e2:y<b
   ·exact hx x y (by omega) x2 x3 e2
   ·exact h.s4 x y x1 (by omega) (by omega) x4
theorem PdI.right {a0 b0 a b q:Nat}{l c:List Int}(h:PdI a0 b0 a b l c)(h1:a<=q)(h2:q<=b)(s:So q b c)(hx:∀ x y,a<=x->x<q->q<=y->y<b->el c x<=el c y):PdI a0 b0 a q l c:=by
 have g1:=h.h1
 have g3:=h.h3
 refine⟨h.rg,g1,h1,by omega,h.s1,fun x y x1 x2 x3=>?_,h.s3,fun x y x1 x2 x3 x4=>?_,h.lw⟩
 ·by_cases e1:y<b
  ·exact s x y x1 x2 e1
  ·by_cases e2:x<b
   ·exact h.s4 x y (by omega) e2 (by omega) x3
   ·exact h.s2 x y (by omega) x2 x3
 ·by_cases e1:x<a
  ·exact h.s3 x y x1 e1 (by omega) x4
  ·by_cases e2:y<b
   ·exact hx x y (by omega) x2 x3 e2
   ·exact h.s4 x y x1 (by omega) (by omega) x4
theorem Zns {G:Prop} (h:G:=by
  refine wkT ?_
  exact⟨c6,⟨ar6,pd6⟩,⟨rfl,rfl,rfl,rfl,rfl,rfl,rfl,rfl,trivial⟩,trivial,rfl⟩):G:=h
section
variable  {P:Prg}[Tz P][Loud P]
set_option maxHeartbeats 2000000
theorem ZiP {r cap a b n:Nat}{l:List Int}{rest:List Value}{H:Hp}(hA:H r=some (.cells (encs l++rest).toArray 3 (0,0),true))(hn:l.length=n)(hab:a<=b)(hb:b<=n)(hl:n<=1000000) :
  LL.Zai P 179 #[.slice (some ⟨r,0,none⟩) n cap,vi a,vi b] H fun v H'=>∃ l',AR H H' r l' rest∧Rg a b l l'∧So a b l':=by
 subst hn;exact ZjQ hA hab hb hl
theorem ZjS {r cap a hi n:Nat}{l:List Int}{rest:List Value}{H:Hp}(hA:H r=some (.cells (encs l++rest).toArray 3 (0,0),true))(hn:l.length=n)(hb:a+hi<=n)(hl:n<=1000000) :
  LL.Zai P 180 #[.slice (some ⟨r,0,none⟩) n cap,vi a,vi (a+hi:Nat)] H fun v H'=>∃ l',AR H H' r l' rest∧Rg a (a+hi) l l'∧So a (a+hi) l':=by
 subst hn;exact ZkF hA hb hl
abbrev pdE (r n cap a b lim:Nat)(f g:Bool):List (Nat×Value):=[(0,.slice (some ⟨r,0,none⟩) n cap),(1,vi a),(2,vi b),(3,vi lim),(8,vb f),(9,vb g)]
theorem pdq_ok {r cap n:Nat}{rest:List Value}(hl:n<=60000):∀ (N a0 b0 lim:Nat) (l:List Int) (H:Hp),b0-a0<=N->H r=some (.cells (encs l++rest).toArray 3 (0,0),true)->l.length=n->a0<=b0->b0<=n->lim<=100->Low a0 b0 l ->
  LL.Zai P 148 #[.slice (some ⟨r,0,none⟩) n cap,vi a0,vi b0,vi lim] H fun v H'=>∃ l',AR H H' r l' rest∧Rg a0 b0 l l'∧So a0 b0 l':=by
 intro N
 induction N using Nat.strongRecOn with
 | _ N ih=>
 intro a0 b0 lim0 l H hN hA hn hab hb hlim lw
 have hs:=Loud.loud (P:=P)
 refine IsN.m (isn c148) (args:=[.slice (some ⟨r,0,none⟩) n cap,vi a0,vi b0,vi lim0]) rfl ?_
 unfold n148
 refine wbT ?_
 refine Zax (α:=List Int×(Nat×Nat)×Nat×Bool×Bool) (b0-a0) (fun t s H'=>AR H H' r s.1 rest∧PdI a0 b0 s.2.1.1 s.2.1.2 l s.1∧s.2.2.1<=100∧s.2.1.2-s.2.1.1+t=b0-a0)
  (fun t s=>pdE r n cap s.2.1.1 s.2.1.2 s.2.2.1 s.2.2.2.1 s.2.2.2.2) (fun _ _=>[]) (l,(a0,b0),lim0,true,true) ⟨AR.of hA,.start hab lw,hlim,rfl⟩ ⟨rfl,rfl,rfl,rfl,rfl,rfl,trivial⟩ trivial ?_
 rintro t ⟨c,⟨a,b⟩,lim,f,g⟩ H1 ht ⟨ar,pd,hlm,hm⟩
 simp only at ar pd hlm hm
 have hcl:=pd.rg.len
 have g1:=pd.h1
 have g2:=pd.h2
 have g3:=pd.h3
 obtain⟨d,rfl⟩:∃ d,b=a+d:=⟨b-a,by omega⟩
 have ed:(((a+d:Nat):Int)-(a:Int))=(d:Int):=by omega
 have hbn:a+d<=n:=by omega
 have es:stOf ((env0 [.slice (some ⟨r,0,none⟩) n cap,vi a0,vi b0,vi lim0]).defs) (pdE r n cap a (a+d) lim f g) []=stOf [] (pdE r n cap a (a+d) lim f g) []:=rfl
 dsimp only[pdE]
 have hb0:b0<=c.length:=by omega
 refine wbT ?_
 rw[ed]
 refine wbT ?_
 refine Zbx ?_
 refine wbT ?_
 refine wiT (fun c1=>?_) (fun c1=>?_)
 ·refine wkT ?_
  refine Zab (vs:=[.slice (some ⟨r,0,none⟩) n cap,vi a,vi (a+d:Nat)]) rfl (ZiP ar.at_ (by omega) (by omega) hbn (by omega)) ?_
  rintro v H2 ⟨c2,ar2,rg2,so2⟩
  refine wkT ?_
  have pd2:=pd.step rg2 hb0
  exact⟨c2,ar.trans ar2,pd2.rg,pd2.fin so2⟩
 ·have c1:12<d:=by omega
  refine wbT ?_
  refine Zbx ?_
  refine wbT ?_
  refine wiT (fun c2=>?_) (fun c2=>?_)
  ·refine wkT ?_
   refine Zab (vs:=[.slice (some ⟨r,0,none⟩) n cap,vi a,vi (a+d:Nat)]) rfl (ZjS ar.at_ (by omega) hbn (by omega)) ?_
   rintro v H2 ⟨c2,ar2,rg2,so2⟩
   refine wkT ?_
   have pd2:=pd.step rg2 hb0
   exact⟨c2,ar.trans ar2,pd2.rg,pd2.fin so2⟩
  ·refine wbT ?_
   refine Zcb (fun (s:List Int×Nat) H'=>AR H H' r s.1 rest∧PdI a0 b0 a (a+d) l s.1∧s.2<=100) (fun s=>(10,vi d) :: pdE r n cap a (a+d) s.2 f g) (fun _=>[]) ?_ ?_
   ·refine wbT ?_
    refine wiT (fun c3=>?_) (fun c3=>?_)
    ·refine wkT ?_
     refine Zab (vs:=[.slice (some ⟨r,0,none⟩) n cap,vi a,vi (a+d:Nat)]) rfl (break_ok ar.at_ (by omega) c1 hbn hl) ?_
     rintro v H2 ⟨c2',ar2,rg2⟩
     refine wkT ?_
     exact⟨(c2',lim-1),⟨ar.trans ar2,pd.step rg2 hb0,by show lim-1<=100;omega⟩,⟨rfl,rfl,rfl,rfl,by show some (vi ((lim:Int)-1))=some (vi ((lim-1:Nat):Int));congr 2;omega,rfl,rfl,trivial⟩,trivial,rfl⟩
    ·refine wkT ?_
     exact⟨(c,lim),⟨ar,pd,hlm⟩,⟨rfl,rfl,rfl,rfl,rfl,rfl,rfl,trivial⟩,trivial,rfl⟩
   rintro⟨c3,lim3⟩ H3 ⟨ar3,pd3,hl3⟩
   simp only at ar3 pd3 hl3
   have hc3:=pd3.rg.len
   refine wbT ?_
   refine Zab (vs:=[.slice (some ⟨r,0,none⟩) n cap,vi a,vi (a+d:Nat)]) rfl (ZoI ar3.at_ (by omega) (by omega) hbn (by omega)) ?_
   rintro v H4 ⟨p4,h4,i4,rfl,p41,p42⟩
   have ar4:AR H H4 r c3 rest:=⟨fun b x hb hx=>i4 _ _ (ar3.keep b x hb hx),i4 _ _ ar3.at_⟩
   refine wbT ?_
   refine Zcb (fun (s:List Int×Nat×Int) H'=>AR H H' r s.1 rest∧PdI a0 b0 a (a+d) l s.1∧a<=s.2.1∧s.2.1<a+d) (fun s=>(10,vi d) :: (11,vi s.2.1) :: (12,vi s.2.2) :: pdE r n cap a (a+d) lim3 f g) (fun _=>[]) ?_ ?_
   ·refine wbT ?_
    refine wiT (fun c5=>?_) (fun c5=>?_)
    ·refine wkT ?_
     refine Zab (vs:=[.slice (some ⟨r,0,none⟩) n cap,vi a,vi (a+d:Nat)]) rfl (Zl7 ar4.at_ (by omega) (by omega) hbn (by omega)) ?_
     rintro v H5 ⟨c5',ar5,rg5⟩
     refine wkT ?_
     exact⟨(c5',a+d-1-(p4-a),1),⟨ar4.trans ar5,pd3.step rg5 (by omega),by show a<=a+d-1-(p4-a);omega,by show a+d-1-(p4-a)<a+d;omega⟩,⟨rfl,by show some (vi _)=some (vi _);congr 2;show ((a+d:Nat):Int)-1-((p4:Int)-(a:Int))=((a+d-1-(p4-a):Nat):Int);omega,rfl,rfl,rfl,rfl,rfl,rfl,rfl,trivial⟩,trivial,rfl⟩
    ·refine wkT ?_
     exact⟨(c3,p4,h4),⟨ar4,pd3,p41,p42⟩,⟨rfl,rfl,rfl,rfl,rfl,rfl,rfl,rfl,rfl,trivial⟩,trivial,rfl⟩
   rintro⟨c6,p6,h6⟩ H6 ⟨ar6,pd6,q61,q62⟩
   simp only at ar6 pd6 q61 q62
   have hc6:=pd6.rg.len
   refine wbT ?_
   refine Zcb (fun (s:List Int) H'=>AR H H' r s rest∧PdI a0 b0 a (a+d) l s) (fun _=>(10,vi d) :: (11,vi p6) :: pdE r n cap a (a+d) lim3 f g) (fun _=>[]) ?_ ?_
   ·cases f
    ·exact Zns
    ·cases g
     ·exact Zns
     ·refine wkT ?_
      refine wiT (fun c7=>?_) (fun c7=>?_)
      ·refine wkT ?_
       refine Zab (vs:=[.slice (some ⟨r,0,none⟩) n cap,vi a,vi (a+d:Nat)]) rfl (Zmf ar6.at_ (by omega) (by omega) hbn (by omega) pd6.low) ?_
       rintro v H7 ⟨c7',t7,ar7,rg7,rfl,so7⟩
       have pd7:=pd6.step rg7 (by omega)
       refine wkT ?_
       refine wiT (fun c8=>?_) (fun c8=>?_)
       ·refine wkT ?_
        exact⟨c7',ar6.trans ar7,pd7.rg,pd7.fin (so7 c8)⟩
       ·refine wkT ?_
        exact⟨c7',⟨ar6.trans ar7,pd7⟩,⟨rfl,rfl,rfl,rfl,rfl,rfl,rfl,rfl,trivial⟩,trivial,rfl⟩
      ·exact Zns
   rintro c8 H8 ⟨ar8,pd8⟩
   have hc8:=pd8.rg.len
   refine wbT ?_
   refine Zcb (fun (_:Unit) H'=>H8=H') (fun _=>(10,vi d) :: (11,vi p6) :: pdE r n cap a (a+d) lim3 f g) (fun _=>[]) ?_ ?_
   ·refine wbT ?_
    refine wiT (fun k1=>?_) (fun k1=>?_)
    ·have k1:0<a:=by omega
     refine wkT ?_
     refine Zak (a-1) rfl rfl (by omega) (by omega) ?_
     refine wkT ?_
     refine Zaf (hs _) rfl (ar8.cA (by omega) rfl) ?_
     refine wkT ?_
     refine Zak p6 rfl rfl rfl (by omega) ?_
     refine wkT ?_
     refine Zaf (hs _) rfl (ar8.cA (by omega) rfl) ?_
     refine wkT ?_
     refine Zab (vs:=[vi (el c8 (a-1)),vi (el c8 p6)]) rfl (ZbM _ _) ?_
     rintro w _ ⟨rfl,rfl⟩
     refine wkT ?_
     refine wiT (fun k2=>?_) (fun k2=>?_)
     ·refine wkT ?_
      refine Zab (vs:=[.slice (some ⟨r,0,none⟩) n cap,vi a,vi (a+d:Nat),vi p6]) rfl (ZnK ar8.at_ (by omega) q61 q62 hbn (by omega)) ?_
      rintro v H9 ⟨c9,q9,ar9,rg9,pe9,rfl⟩
      have hc9:=rg9.len
      have lo9:∀ k,a<=k->k<a+d->el c8 p6<=el c9 k:=rg9.all (by omega) (p:=fun v=>el c8 p6<=v) (fun k k1' k2'=>by
       rcases pd8.low with h | h
       ·omega
       ·have:=h k k1' k2';omega)
      obtain⟨e1,e2,e3,e4⟩:=pe9
      have pd9:=(pd8.step rg9 (by omega)).left (q:=q9) (by omega) e2 (fun x y x1 x2 x3=>by have:=e3 x x1 (by omega);have:=lo9 y (by omega) (by omega);omega) (fun x y x1 x2 x3 x4=>by have:=e3 x x1 x2;have:=e4 y x3 x4;omega)
      refine wkT ?_
      refine⟨(⟨b0-a0-(a+d-q9),by omega⟩,(c9,(q9,a+d),lim3,f,g)),?_,⟨ar8.trans ar9,pd9,hl3,?_⟩,⟨rfl,rfl,rfl,rfl,rfl,rfl,trivial⟩,trivial,rfl⟩
      ·show b0-a0-(b0-a0-(a+d-q9))<b0-a0-t
       omega
      ·show a+d-q9+(b0-a0-(a+d-q9))=b0-a0
       omega
     ·refine wkT ?_
      exact⟨(),rfl,⟨rfl,rfl,rfl,rfl,rfl,rfl,rfl,rfl,trivial⟩,trivial,rfl⟩
    ·refine wkT ?_
     exact⟨(),rfl,⟨rfl,rfl,rfl,rfl,rfl,rfl,rfl,rfl,trivial⟩,trivial,rfl⟩
   rintro _ _ rfl
   refine wbT ?_
   refine Zab (vs:=[.slice (some ⟨r,0,none⟩) n cap,vi a,vi (a+d:Nat),vi p6]) rfl (Zjv ar8.at_ (by omega) q61 q62 hbn (by omega)) ?_
   rintro v H9 ⟨c9,q9,t9,ar9,rg9,⟨e1,e2,e3,e4⟩,rfl⟩
   have hc9:=rg9.len
   have pd9:=pd8.step rg9 (by omega)
   have e8:((d:Int)).tdiv 8=((d / 8:Nat):Int):=by rw[Int.tdiv_eq_ediv_of_nonneg (by omega)];omega
   refine wkT ?_
   refine ZgB rfl rfl (by decide) (by rw[e8];exact⟨by omega,by omega⟩) ?_
   refine wkT ?_
   refine wiT (fun k3=>?_) (fun k3=>?_)
   ·refine wkT ?_
    refine Zab (vs:=[.slice (some ⟨r,0,none⟩) n cap,vi a,vi q9,vi lim3]) rfl (ih (q9-a) (by omega) a q9 lim3 c9 H9 (Nat.le_refl _) ar9.at_ (by omega) e1 (by omega) hl3 (pd9.low.imp id fun h k k1 k2=>h k k1 (by omega))) ?_
    rintro v H10 ⟨c10,ar10,rg10,so10⟩
    have out:∀ k,q9<=k->el c10 k=el c9 k:=fun k hk=>rg10.out (by omega) (.inr hk)
    have lo:∀ k,a<=k->k<q9->el c10 k<=el c9 q9:=rg10.all (by omega) (p:=fun v=>v<=el c9 q9) e3
    have pd10:=(pd9.step (rg10.mono (Nat.le_refl _) (by omega)) (by omega)).left (q:=q9+1) (by omega) (by omega) (fun x y x1 x2 x3=>by
     by_cases e:y<q9
     ·exact so10 x y x1 x2 e
     ·have ey:y=q9:=by omega
      subst ey
      by_cases ex:x=y
      ·subst ex;exact Int.le_refl _
      ·rw[out y (Nat.le_refl _)];exact lo x x1 (by omega)) (fun x y x1 x2 x3 x4=>by
     rw[out y (by omega)]
     have h4:=e4 y (by omega) x4
     by_cases ex:x=q9
     ·subst ex;rw[out x (Nat.le_refl _)];exact h4
     ·exact Int.le_trans (lo x x1 (by omega)) h4)
    refine wkT ?_
    refine⟨(⟨b0-a0-(a+d-(q9+1)),by omega⟩,(c10,(q9+1,a+d),lim3,_,t9)),?_,⟨(ar8.trans ar9).trans ar10,pd10,hl3,?_⟩,⟨rfl,rfl,rfl,rfl,rfl,rfl,trivial⟩,trivial,rfl⟩
    ·show b0-a0-(b0-a0-(a+d-(q9+1)))<b0-a0-t
     omega
    ·show a+d-(q9+1)+(b0-a0-(a+d-(q9+1)))=b0-a0
     omega
   ·refine wkT ?_
    refine Zab (vs:=[.slice (some ⟨r,0,none⟩) n cap,vi (q9+1:Nat),vi (a+d:Nat),vi lim3]) rfl (ih (a+d-(q9+1)) (by omega) (q9+1) (a+d) lim3 c9 H9 (Nat.le_refl _) ar9.at_ (by omega) (by omega) hbn hl3 (.inr fun k k1 k2=>e4 k (by omega) k2)) ?_
    rintro v H10 ⟨c10,ar10,rg10,so10⟩
    have out:∀ k,k<=q9->el c10 k=el c9 k:=fun k hk=>rg10.out (by omega) (.inl (by omega))
    have lo:∀ k,q9+1<=k->k<a+d->el c9 q9<=el c10 k:=rg10.all (by omega) (p:=fun v=>el c9 q9<=v) (fun k k1 k2=>e4 k (by omega) k2)
    have pd10:=(pd9.step (rg10.mono (by omega) (Nat.le_refl _)) (by omega)).right (q:=q9) e1 (by omega) (fun x y x1 x2 x3=>by
     by_cases e:q9<x
     ·exact so10 x y (by omega) x2 x3
     ·have ex:x=q9:=by omega
      subst ex
      by_cases ey:y=x
      ·subst ey;exact Int.le_refl _
      ·rw[out x (Nat.le_refl _)];exact lo y (by omega) x3) (fun x y x1 x2 x3 x4=>by
     rw[out x (by omega)]
     have h3:=e3 x x1 x2
     by_cases ey:y=q9
     ·subst ey;rw[out y (Nat.le_refl _)];exact h3
     ·exact Int.le_trans h3 (lo y (by omega) x4))
    refine wkT ?_
    refine⟨(⟨b0-a0-(q9-a),by omega⟩,(c10,(a,q9),lim3,_,t9)),?_,⟨(ar8.trans ar9).trans ar10,pd10,hl3,?_⟩,⟨rfl,rfl,rfl,rfl,rfl,rfl,trivial⟩,trivial,rfl⟩
    ·show b0-a0-(b0-a0-(q9-a))<b0-a0-t
     omega
    ·show q9-a+(b0-a0-(q9-a))=b0-a0
     omega
end
def insI (x:Int):List Int->List Int
 | []=>[x]
 | y :: r=>if x<=y then x :: y :: r else y :: insI x r
def srt:List Int->List Int
 | []=>[]
 | x :: r=>insI x (srt r)
theorem ZgQ (x:Int):∀ l,(insI x l).Perm (x :: l)
 | []=>.refl _
 | y :: r=>by
  rw[insI]
  split
  ·exact .refl _
  ·exact((ZgQ x r).cons y).trans (.swap x y r)
theorem ZfV:∀ l,(srt l).Perm l
 | []=>.refl _
 | x :: r=>(ZgQ x (srt r)).trans ((ZfV r).cons x)
theorem Zok (x:Int):∀ {l:List Int},l.Pairwise (·<=·)->(insI x l).Pairwise (·<=·)
 | [],_=>by simp[insI]
 | y :: r,h=>by
  rw[insI]
  split
  ·rename_i hxy
   refine List.pairwise_cons.2 ⟨fun z hz=>?_,h⟩
   rcases List.mem_cons.1 hz with rfl | hz
   ·exact hxy
   ·exact Int.le_trans hxy ((List.pairwise_cons.1 h).1 z hz)
  ·rename_i hxy
   obtain⟨h1,h2⟩:=List.pairwise_cons.1 h
   refine List.pairwise_cons.2 ⟨fun z hz=>?_,Zok x h2⟩
   rcases List.mem_cons.1 ((ZgQ x r).mem_iff.1 hz) with rfl | hz
   ·omega
   ·exact h1 z hz
theorem srt_le:∀ l,(srt l).Pairwise (·<=·)
 | []=>.nil
 | x :: r=>Zok x (srt_le r)
theorem Znf {l l':List Int}(h:l.Perm l')(h1:l.Pairwise (·<=·))(h2:l'.Pairwise (·<=·)):l=l':=
 h.eq_of_pairwise (le:=(·<=·)) (fun a b _ _ x y=>Int.le_antisymm x y) h1 h2
theorem so_pw {l:List Int}(h:So 0 l.length l):l.Pairwise (·<=·):=by
 rw[List.pairwise_iff_getElem]
 intro i j hi hj hij
 have:=h i j (Nat.zero_le _) (by omega) hj
 rwa [ZhY hi,ZhY hj]at this
section
variable  {P:Prg}[Tz P][Loud P]{H:Hp}
set_option maxHeartbeats 1000000
theorem Sort_ok {H0:Hp}{v:Value}{l:List Int}{bb:Option Nat}(hi:Inc H0 H)(ho:Own H0 H 3 v l bb)(hne:l≠[])(hl:l.length<=60000) :
  LL.Zai P 101 #[v] H fun _ H'=>Inc H0 H'∧Own H0 H' 3 v (srt l) bb:=by
 have hs:=Loud.loud (P:=P)
 have hfr:=ho.fresh
 obtain⟨h0,⟨h1,h2,h3⟩ | ⟨r,cap,rest,rfl,rfl,h3,h4,h5⟩⟩:=ho.own
 ·exact absurd (List.eq_nil_of_length_eq_zero h2) hne
 have hr0:=hfr r rfl
 have hll:=ZlA (m:=l.length) (by omega)
 refine IsN.m (isn c101) (args:=[.slice (some ⟨r,0,none⟩) l.length cap]) rfl ?_
 unfold n101
 refine wkT ?_
 refine ZcA (und ui3) (und u188) rfl ?_
 rw[Zho (m:=l.length) (by omega)]
 refine wkT ?_
 refine Zab (vs:=[.int .u64 l.length]) rfl (Len_ok (by omega)) ?_
 rintro w _ ⟨rfl,rfl⟩
 refine wkT ?_
 refine Zab (vs:=[.slice (some ⟨r,0,none⟩) l.length cap,vi (0:Nat),vi l.length,vi (len64 l.length:Nat)]) rfl (pdq_ok (rest:=rest) hl l.length 0 l.length (len64 l.length) l H (by omega) h3 rfl (Nat.zero_le _) (Nat.le_refl _) (by omega) (.inl rfl)) ?_
 rintro w H1 ⟨l',ar,rg,so⟩
 have hln:=rg.len
 have hsr:l'=srt l:=Znf ((rg.perm (Nat.le_refl _)).trans (ZfV l).symm) (so_pw (by rw[hln];exact so)) (srt_le l)
 have e:(srt l).length=l.length:=(ZfV l).length_eq
 subst hsr
 refine wkT ?_
 refine⟨ar.inc hi hr0,⟨by rw[ZbV];show _=(srt l).length * 1;omega,.inr ⟨r,cap,rest,rfl,by rw[e],ar.at_,?_,by rw[e];exact h5⟩⟩,hfr⟩
 rw[List.length_append,ZbV,e]
 rw[List.length_append,ZbV]at h4
 exact h4
def gapL (b:Bk)(p:Nat):List Int:=cmpF (srt ((Zae b).map fun x=>(Zav b x).get p))
theorem Gap1_ok {bv:Value}{b:Bk}{r:Nat}{n:Int}(hb:BkAt H bv b)(hn:b.pts.length<=1000000)(hr:CellsAt H ⟨r,0,none⟩ [vi n]):LL.Zai P 98 #[bv,pt r] H fun v H'=>H=H'∧v=vb (decide (0<=n∧n<b.pts.length)):=by
 have hs:=Loud.loud (P:=P)
 have hb0:=hb
 obtain⟨pv,cv,rfl,hp,hc⟩:=hb
 refine IsN.m (isn c98) (args:=[.agg #[vi b.op,vi b.sl,pv,cv],pt r]) rfl ?_
 unfold n98
 refine wkT ?_
 refine Zaf (hs _) rfl hr ?_
 refine wkT ?_
 refine Zab (vs:=[.agg #[vi b.op,vi b.sl,pv,cv],vi n]) rfl (Zfi hb0 n hn (hs _)) ?_
 rintro v _ ⟨rfl,rfl⟩
 refine wkT ?_
 exact⟨rfl,rfl⟩
theorem Gap_ok {bv:Value}{b:Bk}{n:Int}(hb:BkAt H bv b)(hg:Zba H)(hl:b.pts.length<=1000000)(hl2:b.cks.length<=1000000) :
  LL.Zai P 29 #[bv,vi n] H fun v H'=>Inc H H'∧∃ w bb,v=.tuple #[w,vi (Zag b (decide (0<=n∧n<b.pts.length)))]∧Own H H' 3 w (if Zag b (decide (0<=n∧n<b.pts.length))=0 then gapL b n.toNat else []) bb:=by
 have hs:=Loud.loud (P:=P)
 have hb0:=hb
 obtain⟨pv,cv,rfl,hp,hc⟩:=hb
 refine IsN.m (isn c29) (args:=[.agg #[vi b.op,vi b.sl,pv,cv],vi n]) rfl ?_
 unfold n29
 refine wkT ?_
 refine Zca rfl (hs _) fun r1 hr1=>?_
 have hi1:=Zah (o:=.cells (vi n).cells 3) hr1
 have c1:CellsAt (H.ins r1 (.cells (vi n).cells 3)) ⟨r1,0,none⟩ [vi n]:=Zaw
 generalize H.ins r1 (.cells (vi n).cells 3)=H1 at *
 refine wkT ?_
 refine ZcB rfl rfl ?_
 refine wkT ?_
 refine Zab (vs:=[.agg #[vi b.op,vi b.sl,pv,cv],.func (.func 98) #[] #[pt r1]]) rfl (Zeg (hb0.inc hi1) (CellsAt.inc hg hi1) hl hl2 (Zdh (by kernel_rfl) (Gap1_ok (n:=n) (hb0.inc hi1) hl c1))) ?_
 generalize hth:decide (0<=n∧n<b.pts.length)=th
 rintro v H2 ⟨hi2,⟨hz,rfl⟩ | ⟨hz,pv',cv',w,bb,e,rfl,ow⟩⟩
 ·refine wkT ?_
  refine wiT (fun h1=>?_) (fun h1=>?_)
  ·refine wkT ?_
   exact⟨hi1.trans hi2,_,none,rfl,by rw[if_neg hz];exact .nil _ _ _⟩
  ·exact absurd h1 hz
 ·have hth':th=true:=by
   cases th
   ·rw[Zag]at hz
    split at hz
    ·contradiction
    ·simp at hz
   ·rfl
  have hnn:=of_decide_eq_true (hth.trans hth')
  subst hth'
  obtain⟨p,rfl⟩:∃ p:Nat,n=p:=⟨n.toNat,by omega⟩
  simp only[Value.agg.injEq,Array.mk.injEq,List.cons.injEq,and_true]at e
  obtain⟨_,_,rfl,rfl⟩:=e
  obtain⟨hz0,hne⟩:=Ziw hz
  have val:=ZaH hz0
  have hlen:=Za8 val
  obtain⟨Ap,cp,rfl,hp'⟩:=hp
  obtain⟨Ac,cc,rfl,hc'⟩:=hc
  have hw:=ow.sl
  obtain⟨Aw,cw,rfl,_⟩:=ow.sl
  refine wkT ?_
  refine Zax (α:=Value×Option Nat) (Zae b).length (fun j s H'=>Inc H H'∧Inc H2 H'∧Own H2 H' 3 s.1 (((Zae b).take j).map fun x=>(Zav b x).get p) s.2)
   (fun j s=>[(3,pt r1),(4,.slice none 0 0),(5,vi 0),(6,vi 0),(8,s.1),(21,.slice Aw (Zae b).length cw),(22,vi (Zae b).length),(23,vi j)]) (fun j s=>[(6,[vi b.op,vi b.sl,.slice Ap b.pts.length cp,.slice Ac b.cks.length cc,.slice Aw (Zae b).length cw])]) (.slice none 0 0,none) ⟨hi1.trans hi2,.refl H2,.nil H2 H2 3⟩ ⟨rfl,rfl,rfl,rfl,rfl,rfl,rfl,rfl,trivial⟩ ⟨rfl,trivial⟩ ?_
  rintro j ⟨v8,b8⟩ H3 hj ⟨hs1,hs2,o8⟩
  simp only at o8
  refine wkT ?_
  refine wiT (fun h1=>?_) (fun h1=>?_)
  ·have hj':j<(Zae b).length:=by omega
   have hx:=Zdi val _ (List.getElem_mem hj')
   refine wkT ?_
   refine Zar (hw.inc hs2) rfl rfl rfl (i:=j) hj' fun a ha=>?_
   refine wkT ?_
   refine Zam (hs _) rfl ha rfl ?_
   refine wkT ?_
   refine Zaf (hs _) rfl (c1.inc (hi2.trans hs2)) ?_
   refine wkT ?_
   refine Zab (vs:=[.agg #[vi b.op,vi b.sl,.slice Ap b.pts.length cp,.slice Ac b.cks.length cc],ZaS (Zae b)[j]]) rfl (ZdG (hb0.inc hs1) val.good.bk (ZdM hx) (hs _)) ?_
   rintro v _ ⟨rfl,rfl⟩
   refine Zog ?_
   have hp4:p<4:=by have:=val.n;omega
   have htk:(((Zae b).take (j+1)).map fun x=>(Zav b x).get p)=(((Zae b).take j).map fun x=>(Zav b x).get p)++[(Zav b (Zae b)[j]).get p]:=by
    rw[List.take_succ_eq_append_getElem hj',List.map_append];rfl
   generalize (Zae b)[j]=x at *
   refine wkT ?_
   refine ZdA (und u119) (tif t3) (agf a3) rfl rfl (i:=p) hp4 (v:=vi ((Zav b x).get p)) (by have:=Zc0 (Zav b x) hp4;rw[Nat.zero_add]at this;simpa[N4.cells]using this) ?_
   refine wkT ?_
   refine Zao (cs:=[vi ((Zav b x).get p)]) (hs _) rfl fun r5 hr5=>?_
   refine kp_l hs ?_
   refine wkT ?_
   refine ZaR (l':=[(Zav b x).get p]) (und u34) (und u34) (tif t3) rfl (by decide) (hs2.trans (Zah hr5)) (o8.ins hr5) Zc6 rfl (by simp;omega) (by omega) rfl rfl (hs _) fun v8' H4 b8' k1 k2 k3=>?_
   refine wkT ?_
   refine⟨(⟨j+1,by omega⟩,(v8',b8')),slt (by omega),⟨(hi1.trans hi2).trans k1,k1,?_⟩,⟨rfl,rfl,rfl,rfl,rfl,rfl,rfl,rfl,trivial⟩,⟨rfl,trivial⟩,rfl⟩
   show Own H2 H4 3 v8' (((Zae b).take (j+1)).map fun x=>(Zav b x).get p) b8'
   rw[htk]
   exact k2
  ·have:j=(Zae b).length:=by omega
   subst this
   rw[List.take_length]at o8
   have o8':Own H H3 3 v8 ((Zae b).map fun x=>(Zav b x).get p) b8:=⟨o8.own,fun r hr=>Zbd (hi1.trans hi2) (o8.fresh r hr)⟩
   refine wkT ?_
   refine Zab (vs:=[v8]) rfl (Sort_ok hs1 o8' (fun e=>by rw[List.map_eq_nil_iff]at e;rw[e]at hne;simp at hne) (by simp;omega)) ?_
   rintro w H4 ⟨hi4,o9⟩
   refine wkT ?_
   refine Zab (vs:=[v8]) rfl (Zh4 hi4 o9 (by rw[(ZfV _).length_eq];simp;omega)) ?_
   rintro v H5 ⟨hi5,bb,ow5⟩
   refine wkT ?_
   refine⟨hi5,v,bb,by rw[hz];rfl,?_⟩
   rw[if_pos hz]
   exact ow5
end
end Go.Proofs
end
