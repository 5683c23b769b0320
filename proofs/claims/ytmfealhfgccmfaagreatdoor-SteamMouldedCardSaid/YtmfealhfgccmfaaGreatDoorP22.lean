import Derived.Test.YtmfealhfgccmfaaGreatDoorP21
set_option linter.all false
set_option maxHeartbeats 16000000
set_option maxRecDepth 20000
def Xa{G:Prop}(h:G:=by
  refine Y ?_;refine Zi (f+m) rfl rfl O O (Y ?_);first | refine Zh (Loud.fD _) rfl (AT.cI hE ar O rfl) ?_ | refine Zn (Loud.fD _) rfl (AT.cA hE ar O rfl) (g9.len hE _) ?_
  refine Y ?_;refine Zi (f+p) rfl rfl O O (Y ?_);first | refine Zh (Loud.fD _) rfl (AT.cI hE ar O rfl) ?_ | refine Zn (Loud.fD _) rfl (AT.cA hE ar O rfl) (g9.len hE _) ?_
  refine Y ?_;refine Zi (f+p) rfl rfl O O (Y ?_);first | refine Zr (m8.row hE) (fT t3) ar O rfl rfl rfl (hE _).symm rfl λHW Xs=>?_ | refine Zr hE (fT Z0) ar O rfl rfl rfl rfl (g9.len hE _) λHW Xs=>?_
  refine Zz Loud.fD (Y ?_);refine Zi (f+m) rfl rfl O O (Y ?_);first | refine Zr (m8.row hE) (fT t3) Xs (by rw[qAe];omega) rfl rfl rfl (hE _).symm rfl λH4 x8=>?_ | refine Zr hE (fT Z0) Xs (by rw[qAe];omega) rfl rfl rfl rfl (g9.len hE _) λH4 x8=>?_
  refine Y ?_;have xZ:(c.set (f+p) (el c (f+m))).set (f+m) (el c (f+p))=jK c (f+p) (f+m):=rfl;rw[xZ]at x8;have hpm:p<m:=O;refine⟨(⟨m-lo,O⟩,jK c (f+p) (f+m)),?_,⟨x8,.step _ _ rg O O O O,?_⟩,⟨rfl,rfl,rfl,rfl,rfl,?_,trivial⟩,trivial,rfl⟩
  ·show hi-lo-(m-lo)<hi-lo-j;omega
  ·show FE f lo hi _ (lo+(m-lo));rw[show lo+(m-lo)=m by omega];exact hp.step Sw Jl DL g4 O O
  show some (vi _)=some (vi ((lo+(m-lo):Nat):Int));congr 2;omega):G:=h
def gq5{G:Prop}(h:G:=by
  refine Y ?_;have xZ:(c'.set j (el c' (j-1))).set (j-1) (el c' j)=jK c' j (j-1):=rfl;rw[xZ]at x8;have K6:∀x,el (jK c' j (j-1)) x=if x=j-1 then el c' j else if x=j then el c' (j-1)else el c' x:=λx=>Vt x O O
  have K4:∀x,x≠j-1->el (jK c' j (j-1)) x=if x=j then el c' (j-1)else el c' x:=λx hx=>by rw[K6,iF hx]
  have K5:el (jK c' j (j-1)) (j-1)=el c' j:=by rw[K6,qAa rfl]
  have KU:a+1+i-(k+1)=j-1:=O;refine⟨(⟨k+1,O⟩,jK c' j (j-1)),gI O,⟨x8,.step _ _ BT O O O O,?_,?_⟩,⟨rfl,rfl,rfl,rfl,rfl,?_,trivial⟩,trivial,rfl⟩
  ·show ∀x y,a<=x->x<=y->y<=a+1+i->x≠a+1+i-(k+1)->y≠a+1+i-(k+1)->_;intro x y h1 h2 h3 h4 h5;rw[KU]at h4 h5;rw[K4 x h4,K4 y h5];by_cases hx:x=j
   ·rw[qAa hx];by_cases hy:y=j
    ·rw[qAa hy];exact qAO _
    rw[iF hy];exact FP _ _ O O h3 O hy
   rw[iF hx];by_cases hy:y=j
   ·rw[qAa hy];exact FP _ _ h1 O O hx O
   rw[iF hy];exact FP _ _ h1 h2 h3 hx hy
  ·show ∀y,a+1+i-(k+1)<y->y<=a+1+i->el (jK c' j (j-1)) (a+1+i-(k+1))<=_;intro y h1 h2;rw[KU]at h1 ⊢;rw[K5,K4 y O];by_cases hy:y=j
   ·rw[qAa hy];omega
   rw[iF hy];exact NT _ O h2
  show some (vi ((j:Int)-1))=some (vi ((a+1+i-(k+1):Nat):Int));rw[show(a+1+i-(k+1):Nat)=j-1 by omega,show((j-1:Nat):Int)=(j:Int)-1 by omega]):G:=h
def WG{G:Prop}(h:G:=by
  refine Y ?_;refine⟨(⟨i+1,O⟩,c'),gI O,⟨rS,BT,?_⟩,V,trivial,rfl⟩;show So a (a+1+(i+1)) c';refine O8 λx h1 h2=>?_;by_cases e1:x=j
  ·subst e1;exact NT _ O O
  by_cases e2:x+1=j
  ·subst e2;rw[qBE]at DQ;omega
  exact FP _ _ h1 O O e1 e2):G:=h
def T9{G:Prop}(h:G:=by
  have ha:j=a:=O;subst ha;refine Y ?_;refine⟨(⟨i+1,O⟩,c'),gI O,⟨rS,BT,?_⟩,V,trivial,rfl⟩;refine O8 λx h1 h2=>?_;have h2:x+1<j+1+(i+1):=h2;by_cases e1:x=j
  ·subst e1;exact NT _ O O
  exact FP _ _ h1 O O e1 O):G:=h
def LF{G:Prop}(h:G:=by refine Y ?_;refine⟨c,ar,rg,hp.fin λm' h1 h2=>?_⟩;have:=DL m' h1 h2;omega):G:=h
open Go Go.LL
namespace Go.Proofs
variable{a b n r w i j cap f lo hi:Nat}{E:Int->List Value}{l l':List Int}{rest mm:List Value}{G:Hp}{S:Int->Prop}
def YY(a b:Int):Int:=if a<b then -1 else if b<a then 1 else 0
def Ag{a b:List Value}{off:Nat}{c:List Value}(h:a.length=n):ZR (a++b) (n+off) c=a++ZR b off c:=by
 subst h;unfold ZR;rw[List.take_append,qDv,qAH O,qBZ O];simp only[qAE,qAt];congr 3
 ·congr 1;omega
 congr 1;omega
def Z0:Yw Tryz.prog 258=some (8,some (.agg #[.slice none 0 0,vi 0,vi 0,vi 0,vi 0,vi 0,vi 0,vi 0]),80):=U
structure g9(w:Nat)(E:Int->List Value):Prop where
 len:∀z,(E z).length=w
 one:∀z,((E z).all Value.gM)=true
abbrev Zgd(E:Int->List Value):Prop:=g9 8 E
def kH(E:Int->List Value)(l:List Int):List Value:=l.flatMap E
abbrev rv(E:Int->List Value)(z:Int):Value:=.agg (E z).toArray
def P8{w:Nat}{E:Int->List Value}(h:g9 w E):∀l:List Int,(kH E l).length=l.length * w
 | []=>by simp[kH]
 | x :: l=>by rw[kH,qAI,IN,h.len];have:=P8 h l;unfold kH at this;rw[this,qAF,qBx,qDU]
def Zhs{w:Nat}{E:Int->List Value}(h:g9 w E)(z:Int):∀(l:List Int) (rest:List Value) (j:Nat) (_:j<l.length),ZR (kH E l++rest) (j * w) (E z)=kH E (l.set j z)++rest
 | [],_,j,c=>by simp at c
 | x :: l,rest,0,_=>by simp only[kH,qAI,List.set_cons_zero,ZR,qDg,List.take_zero,qAt,qAJ,h.len,qAE];rw[qDv,qCG (by rw[h.len];exact DO _),h.len];simp
 | x :: l,rest,j+1,c=>by
  have ih:=Zhs h z l rest j (by simpa using c);have e:kH E (x :: l)++rest=E x++(kH E l++rest):=by simp[kH]
  rw[e,qBx,qDU,Ag (n:=w) (h.len x),ih];simp[kH]
def Zhu{w:Nat}{E:Int->List Value}(h:g9 w E):∀(l:List Int) (j k:Nat),j<l.length->k<w->(kH E l)[j * w+k]? = (E (el l j))[k]?
 | [],j,_,c,_=>by simp at c
 | x :: l,0,k,_,e=>by rw[kH,qAI,qAQ (by rw[h.len];omega)];show(E x)[0 * w+k]? = (E x)[k]?;rw[qDg,qAJ]
 | x :: l,j+1,k,c,e=>by have ih:=Zhu h l j k (by simpa using c) e;rw[kH,qAI,qBz (by rw[h.len,qBx];omega),h.len,show(j+1) * w+k-w=j * w+k by rw[qBx];omega];exact ih
def pX(E:Int->List Value):TypeId:=if(E 0).length=1 then 3 else 258
theorem ZgB(h:Zgd E):pX E=258:=by unfold pX;rw[h.len];rfl
abbrev m8(E:Int->List Value):Prop:=∀z,E z=[vi z]
def m8.row(h:m8 E):g9 1 E:=⟨λz=>by rw[h];rfl,λz=>by rw[h];rfl⟩
structure AT(E:Int->List Value)(G H:Hp)(r:Nat)(l:List Int)(rest:List Value):Prop where
 keep:∀b x,b≠r->G b=some x->H b=some x
 at_:H r=some (.cells (kH E l++rest).toArray (pX E) (0,0),true)
def AT.of{H:Hp}(h:H r=some (.cells (kH E l++rest).toArray (pX E) (0,0),true)):AT E H H r l rest:=⟨λ_ _ _ h=>h,h⟩
def AT.trans{H e:Hp}{c:List Value}(h:AT E G H r l rest)(g:AT E H e r l' c):AT E G e r l' c:=⟨λb x hb k=>g.keep b x hb (h.keep b x hb k),g.at_⟩
def AT.set{H:Hp}(h:AT E G H r l rest)(l':List Int)(c:List Value):AT E G (H.ins r (.cells (kH E l'++c).toArray (pX E))) r l' c:=
 ⟨λb x hb e=>by rw[Hp.aR _ _ hb];exact h.keep b x hb e,Hp.aQ _ _ _⟩
def AT.new{H:Hp}{e:Nat}{o:Obj}(h:AT E G H r l rest)(c:H e=none):AT E G (H.ins e o) r l rest:=
 ⟨λb x hb g=>(YB c).mem _ _ (h.keep b x hb g),(YB c).mem _ _ h.at_⟩
def AT.cA{H:Hp}(c:g9 w E)(h:AT E G H r l rest)(o:i<l.length)(e:i=j:=by omega):aM H ((⟨r,0,none⟩:Addr).add (i * w)) (E (el l j)):=by
 subst e;rw[VF,qAJ];refine⟨rfl,_,_,h.at_,λk p=>?_⟩;have g:k<w:=by rw[c.len]at p;exact p
 have e:=Zhu c l i k o g;have m:i * w+k<(kH E l).length:=by rw[P8 c];have:=qAV w (show i+1<=l.length from o);rw[qBx]at this;omega
 have:(kH E l++rest)[i * w+k]? = (E (el l i))[k]?:=by rw[qAQ m,e]
 simpa[Obj.nC]using this
def AT.cI{H:Hp}(c:m8 E)(h:AT E G H r l rest)(g:i<l.length)(e:i=j:=by omega):aM H ((⟨r,0,none⟩:Addr).add (i * 1)) [vi (el l j)]:=c (el l j) ▸ AT.cA c.row h g e
def ZnD(P:fP)(E:Int->List Value)(H:Hp)(r:Nat)(g:Value)(S:Int->Prop):Prop:=
 ∀c,(∀b x,b≠r->H b=some x->c b=some x)->∀p q,S p->S q->Z5 P g #[rv E p,rv E q] c λv e=>c=e/\v=vi (YY p q)
inductive SK (P:fP)(H:Hp)(r:Nat)(S:Int->Prop)(E:Int->List Value):List Value->Prop
 | i (hE:m8 E):SK P H r S E []
 | t (cv:Value) (hE:Zgd E) (hC:ZnD P E H r cv S):SK P H r S E [cv]
def SK.of{P:fP}{H e:Hp}(h:SK P H r S E mm)(o:∀b x,b≠r->H b=some x->e b=some x):SK P e r S E mm:=by
 rcases h with h | ⟨k,h,m⟩
 ·exact .i h
 exact .t k h λg c=>m g λb x hb p=>c b x hb (o b x hb p)
def fz(mm:List Value)(a b:Nat):Nat:=match mm with
 | []=>a
 | _=>b
def Vj{a b:Int}:(YY a b<0)↔a<b:=by
 unfold YY;split
 ·simp;assumption
 split<;>simp<;>omega
def ZL(h:Rg a b l l')(hb:b<=l.length)(e:∀k,k<l.length->S (el l k)){k:Nat}(m:k<l'.length):S (el l' k):=by
 have o:=h.len;by_cases c:a<=k/\k<b
 ·exact h.all (p:=S) hb (λk c g=>e k O) k c.1 c.2
 rw[h.out hb O];exact e k O
section
variable{P:fP}[Tz P][Loud P]{H:Hp}{d:Option Nat}{next:fG->Hp->Prop}{σ:fG}{x y:Operand}
def Zr{g c:Nat}{D v:Value}{a:Addr}{C:Nat}{n:Int}(k:g9 w E)(B:TI P.toProgram c w D g)(h:AT E G H r l rest)(s:j<l.length)(e:a=(⟨r,0,none⟩:Addr).add (j * w))(q:σ.get x=some (.pointer (some a)))(u:σ.get y=some v)(t:v.cells.toList=E n)(A:v.cells.size=w)
  (z:∀p,AT E G p r (l.set j n) rest->next (σ.set d undef) p):(fR.raw (.store c x y) C).m P d next σ H:=by
 subst e;rw[VF,qAJ]at q;have o:=qAV w (show j+1<=l.length from s);rw[qBx]at o;refine OH B q u h.at_ A (by rw[IN,P8 k];omega) (by rw[t];exact k.one n) (Loud.fD _) ?_;rw[t,Zhs k n l rest j s];exact z _ (h.set _ _)
end
def Znj(P:fP)(f:Nat)(E:Int->List Value)(H:Hp)(r cap:Nat)(l:List Int)(rest:List Value)(a b:Nat)(c:List Value)(Q:Value->List Int->Prop):Prop:=
 LL.Zb P f (.slice (some ⟨r,0,none⟩) l.length cap :: vi a :: vi b :: c).toArray H λv e=>∃l',AT E H e r l' rest/\Rg a b l l'/\Q v l'
section
variable{P:fP}[Tz P][Loud P]{H:Hp}
def Zvc(K:H r=some (.cells (kH E l++rest).toArray (pX E) (0,0),true))(N:a<=b)(hb:b<=l.length)(hl:l.length<=1000000)(z:SK P H r S E mm)(A:∀k,k<l.length->S (el l k)) :
  Znj P (fz mm 224 337) E H r cap l rest a b mm λ_ l'=>So a b l':=by
 have L:=z;rcases z with⟨e⟩ | ⟨t,e,v⟩
 rotate_left;refine aU.m (fO ZmV) rfl ?_;unfold Zfh;let mm:=[t]
 let h:Nat->Nat:=λn=>n+2
 let p:Nat×Value:=(3,t)
 rotate_left;refine aU.m (fO Zw5) rfl ?_;unfold Zjd;let mm:List Value:=[]
 let h:Nat->Nat:=λn=>n
 let p:Nat×Value:=(0,.slice (some ⟨r,0,none⟩) l.length cap)
 have v:=True.intro;all_goals
  refine Y ?_
  refine Yp (α:=List Int) (b-(a+1)) (λj c o=>AT E H o r c rest/\Rg a b l c/\So a (a+1+j) c) (λj c=>[(0,.slice (some ⟨r,0,none⟩) l.length cap),(1,vi a),(2,vi b),p,(h 6,vi ((a+1+j:Nat):Int))]) (λj c=>[]) l ⟨AT.of K,.refl l,O7 l O⟩ V trivial ?_
  rintro i c U hi ⟨s,q,C⟩
  have Q:=q.len
  refine Y ?_
  refine OI (λu=>?_) (λu=>?_)
  ·have u:a+1+i<b:=O;refine Y ?_;refine Yp (α:=List Int) (i+1) (λk c' o=>AT E H o r c' rest/\Rg a b l c'/\(∀x y,a<=x->x<=y->y<=a+1+i->x≠a+1+i-k->y≠a+1+i-k->el c' x<=el c' y)/\(∀y,a+1+i-k<y->y<=a+1+i->el c' (a+1+i-k)<=el c' y))
    (λk c'=>[(0,.slice (some ⟨r,0,none⟩) l.length cap),(1,vi a),(2,vi b),p,(h 6,vi ((a+1+i:Nat):Int)),(h 7,vi ((a+1+i-k:Nat):Int))]) (λk c'=>[]) c ⟨s,q,λx y h1 h2 h3 h4 h5=>C x y h1 h2 O,λy h1 h2=>O⟩ V trivial ?_
   rintro k c' W Z ⟨rS,BT,FP,NT⟩;have B:=BT.len;have T:a+1+i-k<l.length:=O;obtain⟨j,R⟩:∃j,a+1+i-k=j:=⟨_,rfl⟩;rw[R]at FP NT ⊢;refine OJ (λha=>?_) (λha=>?_)
   ·have ha:a<j:=O;refine Y ?_;refine Zi j rfl rfl O O (Y ?_);first | refine Zh (Loud.fD _) rfl (AT.cI e rS O rfl) ?_ | refine Zn (Loud.fD _) rfl (AT.cA e rS O rfl) (g9.len e _) ?_
    refine Y ?_;refine Zi (j-1) rfl rfl O O (Y ?_);first | refine Zh (Loud.fD _) rfl (AT.cI e rS O rfl) ?_ | refine Zn (Loud.fD _) rfl (AT.cA e rS O rfl) (g9.len e _) ?_
    refine Y ?_;first | refine Zg (Vv _ _) ?_ | refine ZP rfl rfl (v _ (AT.keep rS) _ _ (ZL BT hb A O) (ZL BT hb A O)) ?_
    intro vW X M;obtain⟨I,J⟩:=M;subst I J;refine OJ (λDQ=>?_) (λDQ=>?_);all_goals try rw[Vj]at DQ
    ·refine Y ?_;refine Zi (j-1) rfl rfl O O (Y ?_);first | refine Zh (Loud.fD _) rfl (AT.cI e rS O rfl) ?_ | refine Zn (Loud.fD _) rfl (AT.cA e rS O rfl) (g9.len e _) ?_
     refine Y ?_;refine Zi j rfl rfl O O (Y ?_);first | refine Zh (Loud.fD _) rfl (AT.cI e rS O rfl) ?_ | refine Zn (Loud.fD _) rfl (AT.cA e rS O rfl) (g9.len e _) ?_
     refine Y ?_;refine Zi j rfl rfl O O (Y ?_);first | refine Zr (m8.row e) (fT t3) rS O rfl rfl rfl (e _).symm rfl λF g=>?_ | refine Zr e (fT Z0) rS O rfl rfl rfl rfl (g9.len e _) λF g=>?_
     refine Zz Loud.fD (Y ?_);refine Zi (j-1) rfl rfl O O (Y ?_);first | refine Zr (m8.row e) (fT t3) g (by rw[qAe];omega) rfl rfl rfl (e _).symm rfl λD x8=>?_ | refine Zr e (fT Z0) g (by rw[qAe];omega) rfl rfl rfl rfl (g9.len e _) λD x8=>?_
     exact gq5
    exact WG
   exact T9
  ·refine Y ?_;refine⟨c,s,q,?_⟩;intro x y h1 h2 h3;exact C x y h1 h2 O
def ZoV(I:SK P H r S E mm)(g:∀k,k<l.length->S (el l k))(M:H r=some (.cells (kH E l++rest).toArray (pX E) (0,0),true))(hb:f+hi<=l.length)(R:lo<=l.length)(hl:l.length<=1000000)(W:zG f (lo+1) hi l) :
  LL.Zb P (fz mm 300 364) (.slice (some ⟨r,0,none⟩) l.length cap :: vi lo :: vi hi :: vi f :: mm).toArray H λv u=>∃l',AT E H u r l' rest/\Rg f (f+hi) l l'/\zG f lo hi l':=by
 have N:=I;rcases I with⟨hE⟩ | ⟨B,hE,t⟩
 rotate_left;refine aU.m (fO Zxt) rfl ?_;unfold ZjB;let mm:=[B]
 let K:Nat->Nat:=λn=>n+2
 let L:Nat×Value:=(4,B)
 rotate_left;refine aU.m (fO ZwR) rfl ?_;unfold ZiZ;let mm:List Value:=[]
 let K:Nat->Nat:=λn=>n
 let L:Nat×Value:=(0,.slice (some ⟨r,0,none⟩) l.length cap)
 have t:=True.intro;all_goals
  refine Y ?_
  refine Yp (α:=List Int) (hi-lo) (λj c u=>AT E H u r c rest/\Rg f (f+hi) l c/\FE f lo hi c (lo+j)) (λj c=>[(0,.slice (some ⟨r,0,none⟩) l.length cap),(1,vi lo),(2,vi hi),(3,vi f),L,(K 8,vi ((lo+j:Nat):Int))]) (λj c=>[]) l ⟨AT.of M,.refl l,.of W⟩ V trivial ?_
  rintro j c X Z ⟨ar,rg,hp⟩
  have Q:=rg.len
  have J:lo<=lo+j:=O
  have U:lo+j<=l.length:=O
  generalize T:lo+j=p at *
  refine Y ?_
  refine u7 rfl rfl ⟨O,O⟩ ?_
  refine Y ?_
  refine OI (λC=>?_) (λC=>?_)
  ·refine Y ?_;refine⟨c,ar,rg,hp.fin λm e Jl=>?_⟩;rcases e with h | h<;>omega
  ·have C:2 * p+1<hi:=O;refine OJ (λD=>?_) (λD=>?_)
   ·have D:2 * p+1+1<hi:=O;refine Y ?_;refine Zi (f+(2 * p+1)) rfl rfl O O (Y ?_);first | refine Zh (Loud.fD _) rfl (AT.cI hE ar O rfl) ?_ | refine Zn (Loud.fD _) rfl (AT.cA hE ar O rfl) (g9.len hE _) ?_
    refine Y ?_;refine Zi (f+(2 * p+2)) rfl rfl O O (Y ?_);first | refine Zh (Loud.fD _) rfl (AT.cI hE ar O rfl) ?_ | refine Zn (Loud.fD _) rfl (AT.cA hE ar O rfl) (g9.len hE _) ?_
    refine Y ?_;first | refine Zg (Vv _ _) ?_ | refine ZP rfl rfl (t _ (AT.keep ar) _ _ (ZL rg hb g O) (ZL rg hb g O)) ?_
    intro A z s;obtain⟨o,q⟩:=s;subst o q;refine OJ (λF=>?_) (λF=>?_);all_goals try rw[Vj]at F
    ·obtain⟨m,e⟩:∃m,m=2 * p+2:=⟨_,rfl⟩;have DL:∀m',rW p m'->m'<hi->el c (f+m')<=el c (f+m):=λm' h1 h2=>by
      rcases h1 with h | h
      ·subst h e;omega
      subst h e;exact qAO _
     have Sw:rW p m:=.inr e;have Jl:m<hi:=O;refine Y ?_;refine Zi (f+p) rfl rfl O O (Y ?_);first | refine Zh (Loud.fD _) rfl (AT.cI hE ar O rfl) ?_ | refine Zn (Loud.fD _) rfl (AT.cA hE ar O rfl) (g9.len hE _) ?_
     refine Y ?_;refine Zi (f+m) rfl rfl O O (Y ?_);first | refine Zh (Loud.fD _) rfl (AT.cI hE ar O rfl) ?_ | refine Zn (Loud.fD _) rfl (AT.cA hE ar O rfl) (g9.len hE _) ?_
     refine Y ?_;first | refine Zg (Vv _ _) ?_ | refine ZP rfl rfl (t _ (AT.keep ar) _ _ (ZL rg hb g O) (ZL rg hb g O)) ?_
     intro A z s;obtain⟨o,q⟩:=s;subst o q;refine OJ (λg4=>?_) (λg4=>?_);all_goals try rw[Vj]at g4
     ·exact LF
     exact Xa
    obtain⟨m,e⟩:∃m,m=2 * p+1:=⟨_,rfl⟩;have DL:∀m',rW p m'->m'<hi->el c (f+m')<=el c (f+m):=λm' h1 h2=>by
     rcases h1 with h | h
     ·subst h e;exact qAO _
     subst h e;omega
    have Sw:rW p m:=.inl e;have Jl:m<hi:=O;refine Y ?_;refine Zi (f+p) rfl rfl O O (Y ?_);first | refine Zh (Loud.fD _) rfl (AT.cI hE ar O rfl) ?_ | refine Zn (Loud.fD _) rfl (AT.cA hE ar O rfl) (g9.len hE _) ?_
    refine Y ?_;refine Zi (f+m) rfl rfl O O (Y ?_);first | refine Zh (Loud.fD _) rfl (AT.cI hE ar O rfl) ?_ | refine Zn (Loud.fD _) rfl (AT.cA hE ar O rfl) (g9.len hE _) ?_
    refine Y ?_;first | refine Zg (Vv _ _) ?_ | refine ZP rfl rfl (t _ (AT.keep ar) _ _ (ZL rg hb g O) (ZL rg hb g O)) ?_
    intro A z s;obtain⟨o,q⟩:=s;subst o q;refine OJ (λg4=>?_) (λg4=>?_);all_goals try rw[Vj]at g4
    ·exact LF
    exact Xa
   obtain⟨m,e⟩:∃m,m=2 * p+1:=⟨_,rfl⟩;have DL:∀m',rW p m'->m'<hi->el c (f+m')<=el c (f+m):=λm' h1 h2=>by
    rcases h1 with h | h
    ·subst h e;exact qAO _
    omega
   have Sw:rW p m:=.inl e;have Jl:m<hi:=O;refine Y ?_;refine Zi (f+p) rfl rfl O O (Y ?_);first | refine Zh (Loud.fD _) rfl (AT.cI hE ar O rfl) ?_ | refine Zn (Loud.fD _) rfl (AT.cA hE ar O rfl) (g9.len hE _) ?_
   refine Y ?_;refine Zi (f+m) rfl rfl O O (Y ?_);first | refine Zh (Loud.fD _) rfl (AT.cI hE ar O rfl) ?_ | refine Zn (Loud.fD _) rfl (AT.cA hE ar O rfl) (g9.len hE _) ?_
   refine Y ?_;first | refine Zg (Vv _ _) ?_ | refine ZP rfl rfl (t _ (AT.keep ar) _ _ (ZL rg hb g O) (ZL rg hb g O)) ?_
   intro A z s;obtain⟨o,q⟩:=s;subst o q;refine OJ (λg4=>?_) (λg4=>?_);all_goals try rw[Vj]at g4
   ·exact LF
   exact Xa
def Zhb(h:SK P H r S E mm)(m:∀k,k<l.length->S (el l k))(g:H r=some (.cells (kH E l++rest).toArray (pX E) (0,0),true))(p:l.length=n)(hb:f+hi<=n)(c:lo<=n)(o:n<=1000000)(q:zG f (lo+1) hi l) :
  LL.Zb P (fz mm 300 364) (.slice (some ⟨r,0,none⟩) n cap :: vi lo :: vi hi :: vi f :: mm).toArray H λv e=>∃l',AT E H e r l' rest/\Rg f (f+hi) l l'/\zG f lo hi l':=by
 subst p;exact ZoV h m g hb c o q
def Zvp(hK:SK P H r S E mm)(hS:∀k,k<l.length->S (el l k))(hA:H r=some (.cells (kH E l++rest).toArray (pX E) (0,0),true))(hb:a+hi<=l.length)(hl:l.length<=1000000) :
  Znj P (fz mm 225 338) E H r cap l rest a (a+hi) mm λ_ l'=>So a (a+hi) l':=by
 have ehi:(((a+hi:Nat):Int)-(a:Int))=(hi:Int):=O;have N3:=hK;rcases hK with⟨q⟩ | ⟨cv,q,hC⟩
 rotate_left;refine aU.m (fO ZxB) rfl ?_;unfold ZjJ;let mm:=[cv]
 let I:Nat->Nat:=λn=>n+2
 let qq:Nat×Value:=(3,cv)
 rotate_left;refine aU.m (fO Zw4) rfl ?_;unfold Zjc;let mm:List Value:=[]
 let I:Nat->Nat:=λn=>n
 let qq:Nat×Value:=(0,.slice (some ⟨r,0,none⟩) l.length cap)
 have hC:=True.intro;all_goals
  refine Y ?_
  rw[ehi]
  refine Y ?_
  refine yC rfl rfl (by decide) (by rw[ZlM];exact⟨O,O⟩) ?_
  rw[ZlM]
  refine Y ?_
  refine Yp (α:=List Int) ((hi-1) / 2+1) (λj c H'=>AT E H H' r c rest/\Rg a (a+hi) l c/\zG a ((hi-1) / 2+1-j) hi c)
   (λj c=>[(0,.slice (some ⟨r,0,none⟩) l.length cap),qq,(I 6,vi a),(I 7,vi 0),(I 8,vi hi),(I 9,vi (((hi-1) / 2+1-j:Nat)-1:Int))]) (λj c=>[]) l ⟨AT.of hA,.refl l,λk m A h h3=>by unfold rW at h;omega⟩ ⟨rfl,rfl,rfl,rfl,rfl,?_,trivial⟩ trivial ?_
  ·show some (vi _)=some (vi _);congr 2;omega
  rintro j c H1 hj ⟨ar,rg,hp⟩
  have qB:=rg.len
  refine Y ?_
  refine OI (λW=>?_) (λW=>?_)
  ·obtain⟨i,Q⟩:∃i,(hi-1) / 2+1-j=i+1:=⟨(hi-1) / 2+1-j-1,O⟩;have ei:((((hi-1) / 2+1-j:Nat)-1:Int))=(i:Int):=O;rw[Q]at hp;rw[ei];refine Y ?_;refine Zg (vs:=.slice (some ⟨r,0,none⟩) l.length cap :: vi i :: vi hi :: vi a :: mm) (Zhb (N3.of ar.keep) (λk Z=>ZL rg hb hS Z) ar.at_ qB hb O hl hp) ?_;rintro v H2 ⟨c2,L,B,T⟩;refine Y ?_;refine⟨(⟨j+1,O⟩,c2),gI O,⟨ar.trans L,rg.trans B,?_⟩,⟨rfl,rfl,rfl,rfl,rfl,?_,trivial⟩,trivial,rfl⟩
   ·show zG a ((hi-1) / 2+1-(j+1)) hi c2;rw[show(hi-1) / 2+1-(j+1)=i by omega];exact T
   show some (vi _)=some (vi _);congr 2;show(i:Int)-1=(((hi-1) / 2+1-(j+1):Nat):Int)-1;omega
  ·have KV:(hi-1) / 2+1-j=0:=O;rw[KV]at hp;refine Y ?_;refine Yp (α:=List Int) hi (λj c H'=>AT E H H' r c rest/\Rg a (a+hi) l c/\zG a 0 (hi-j) c/\So (a+(hi-j)) (a+hi) c/\∀x y,a<=x->x<a+(hi-j)->a+(hi-j)<=y->y<a+hi->el c x<=el c y)
    (λj c=>[(0,.slice (some ⟨r,0,none⟩) l.length cap),qq,(I 6,vi a),(I 7,vi 0),(I 10,vi ((hi-j:Nat)-1:Int))]) (λj c=>[]) c ⟨ar,rg,hp,O7 c O,λx y A h h3 h4=>O⟩ V trivial ?_
   rintro u g H2 mF ⟨o,C,R,D,U⟩;have Wh:=C.len;refine OJ (λX=>?_) (λX=>?_)
   ·obtain⟨i,Q⟩:∃i,hi-u=i+1:=⟨hi-u-1,O⟩;have ei:(((hi-u:Nat)-1:Int))=(i:Int):=O;rw[Q]at R D U;rw[ei];have hmx:=Zvn R;refine Y ?_;refine Zi (a+i) rfl rfl O O (Y ?_);first | refine Zh (Loud.fD _) rfl (AT.cI q o O rfl) ?_ | refine Zn (Loud.fD _) rfl (AT.cA q o O rfl) (g9.len q _) ?_
    refine Y ?_;refine Zi a rfl rfl O O (Y ?_);first | refine Zh (Loud.fD _) rfl (AT.cI q o O rfl) ?_ | refine Zn (Loud.fD _) rfl (AT.cA q o O rfl) (g9.len q _) ?_
    refine Y ?_;refine Zi a rfl rfl O O (Y ?_);first | refine Zr (m8.row q) (fT t3) o O rfl rfl rfl (q _).symm rfl λHW M=>?_ | refine Zr q (fT Z0) o O rfl rfl rfl rfl (g9.len q _) λHW M=>?_
    refine Zz Loud.fD (Y ?_);refine Zi (a+i) rfl rfl O O (Y ?_);first | refine Zr (m8.row q) (fT t3) M (by rw[qAe];omega) rfl rfl rfl (q _).symm rfl λH4 z=>?_ | refine Zr q (fT Z0) M (by rw[qAe];omega) rfl rfl rfl rfl (g9.len q _) λH4 z=>?_
    refine Y ?_;have xZ:(g.set a (el g (a+i))).set (a+i) (el g a)=jK g a (a+i):=rfl;rw[xZ]at z;have es:∀x,el (jK g a (a+i)) x=if x=a+i then el g a else if x=a then el g (a+i)else el g x:=λx=>Vt x O O
    have B8:∀x,a<=x->x<a+i->∃s,a<=s/\s<a+(i+1)/\el (jK g a (a+i)) x=el g s:=λx A h=>by
     rw[es,iF O];by_cases e:x=a
     ·rw[qAa e];exact⟨a+i,O,O,rfl⟩
     rw[iF e];exact⟨x,O,O,rfl⟩
    have hpx:zG a 1 i (jK g a (a+i)):=λk m A h h3=>by
     have:m≠0/\k<i:=by unfold rW at h;omega
     rw[es,es,iF O,iF O,iF O,iF O];exact R k m (qBf _) h O
    refine Zg (vs:=.slice (some ⟨r,0,none⟩) l.length cap :: vi (0:Nat) :: vi i :: vi a :: mm) (Zhb (N3.of z.keep) (λk Z=>ZL (Rg.step a (a+i) C O O O O) hb hS Z) z.at_ (by rw[Zev,Wh]) O O hl hpx) ?_;rintro v H5 ⟨c2,L,B,T⟩;have B9:a+i<=(jK g a (a+i)).length:=by rw[Zev];omega
    have J:∀k,a+i<=k->el c2 k=el (jK g a (a+i)) k:=λk Z=>B.out B9 (.inr Z);have t:∀k,a+i<k->el c2 k=el g k:=λk Z=>by rw[J k O,es,iF O,iF O]
    have K:el c2 (a+i)=el g a:=by rw[J _ (DO _),es,qAa rfl]
    have F:∀(p:Int->Prop),(∀s,a<=s->s<a+(i+1)->p (el g s))->∀k,a<=k->k<a+i->p (el c2 k):=λp hp k A h=>
     B.all B9 (p:=p) (λk A h=>by obtain⟨s,W,X,g3⟩:=B8 k A h;rw[g3];exact hp s W X) k A h
    have N:hi-(u+1)=i:=O;refine Y ?_;refine⟨(⟨u+1,O⟩,c2),qCh O (qCx u),⟨z.trans L,(Rg.step _ _ C O O O O).trans (B.mono (DO _) O),?_,?_,?_⟩,⟨rfl,rfl,rfl,rfl,?_,trivial⟩,trivial,rfl⟩
    ·show zG a 0 (hi-(u+1)) c2;rw[N];exact T
    ·show So (a+(hi-(u+1))) (a+hi) c2;rw[N];refine O8 λx A h=>?_;by_cases e:x=a+i
     ·subst e;rw[K,t _ O];exact U a _ (DO _) O O h
     rw[t _ O,t _ O];exact D x (x+1) O O h
    ·show ∀x y,a<=x->x<a+(hi-(u+1))->a+(hi-(u+1))<=y->y<a+hi->el c2 x<=el c2 y;rw[N];intro x y A h h3 h4;by_cases e:y=a+i
     ·subst e;rw[K];refine F (·<=el g a) (λs W X=>?_) x A h;have:=hmx (s-a) O;rwa [show a+(s-a)=s by omega]at this
     rw[t y O];exact F (·<=el g y) (λs W X=>U s y W X O h4) x A h
    show some (vi _)=some (vi _);congr 2;show(i:Int)-1=((hi-(u+1):Nat):Int)-1;omega
   have:hi-u=0:=O;rw[this]at D;refine Y ?_;exact⟨g,o,C,D⟩
end
