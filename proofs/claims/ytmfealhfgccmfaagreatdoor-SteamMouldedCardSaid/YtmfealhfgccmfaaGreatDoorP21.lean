import Derived.Test.YtmfealhfgccmfaaGreatDoorP20
set_option linter.all false
set_option maxHeartbeats 1000000
set_option maxRecDepth 100000
def WN{G:Prop}(h:G:=by
  have g1:=h.ai;have g3:=h.jb;have pK:i≠j:=λe=>by subst e;omega
  have es:∀x,el (jK c i j) x=if x=j then el c i else if x=i then el c j else el c x:=λx=>Vt x O O
  refine⟨by rw[es,iF O,iF O];exact h.eq,λk k1 k2=>?_,λk k1 k2=>?_,O,O,O⟩
  ·rw[es,iF O];by_cases e:k=i
   ·rw[qAa e];exact h2
   rw[iF e];exact h.lo k k1 O
  rw[es];by_cases e:k=j
  ·rw[qAa e];exact h1
  rw[iF e,iF O];exact h.hi k O k2):G:=h
def S9{G:Prop}(h:G:=by
  by_cases e1:x<a
  ·exact h.s3 x y x1 e1 O x4
  by_cases e2:y<b
  ·exact hx x y O x2 x3 e2
  exact h.s4 x y x1 O O x4):G:=h
def DU{G:Prop}(h:G:=by rintro v _ ⟨rfl,rfl⟩;refine Y ?_;exact⟨rfl,rfl⟩):G:=h
def GP{G:Prop}(h:G:=by
  by_cases e:b=r
  ·subst e;rw[Hp.aQ]at hb ⊢;exact hb
  rw[Hp.aR _ _ e]at hb ⊢;exact h2 b x hb):G:=h
open Go Go.LL
namespace Go.Proofs
variable{G G' H' H0:Hp}{A:Hp->Prop}{r a j p b i off k n f lo hi m q r2 a0 b0:Nat}{o:Obj}{rest cs:List Value}{v:Value}{E:TypeId}{b':Option Nat}{α:Type}{l c l' c':List Int}{Qe:Ex->fG->Hp->Prop}
def JG(G:Hp)(A:Hp->Prop)(H:Hp):Prop:=∃e F:Hp,H=e.join F/\e.Comp F/\fI G F/\A e
def JG.up{H:Hp}(s:Up A)(h:JG G A H):A H:=by obtain⟨t,F,rfl,e,_,g⟩:=h;exact s _ _ e g
def JG.inc{H:Hp}(h:JG G A H):fI G H:=by obtain⟨s,F,rfl,e,g,_⟩:=h;exact λb x hb=>Hp.fS e (g b x hb)
def JG.of{B:Hp->Prop}{H:Hp}(h:JG G A H)(u:∀e,A e->B e)(w:fI G' G):JG G' B H:=by obtain⟨e,F,rfl,g,s,t⟩:=h;exact⟨e,F,rfl,g,w.trans s,u _ t⟩
def JG.new{H:Hp}(h:JG G A H)(o:Obj)(z:H r=none):JG (G.ins r o) A (H.ins r o):=by
 obtain⟨u,F,rfl,s,h2,w⟩:=h;obtain⟨c1,c2⟩:=Hp.hQ.1 z;refine⟨u,F.ins r o,(Hp.lM c1).symm,⟨λb x y g t=>?_,s.gh⟩,λb x hb=>?_,w⟩
 ·by_cases e:b=r
  ·subst e;rw[c1]at g;simp at g
  rw[Hp.aR _ _ e]at t;exact s.mem b x y g t
 exact GP
def JG.put{H:Hp}(h:JG G A H)(u:Obj)(C:G r=some (o,true)):JG (G.ins r u) A (H.ins r u):=by
 obtain⟨g,F,rfl,s,h2,z⟩:=h;have c2:=h2 r _ C;have c1:g r=none:=by
  cases B:g r with
  | none=>rfl
  | some x=>have:=s.mem r x _ B c2;rw[this.1]at this;simp at this
 refine⟨g,F.ins r u,(Hp.lM c1).symm,⟨λb x y t w=>?_,s.gh⟩,λb x hb=>?_,z⟩
 ·by_cases e:b=r
  ·subst e;rw[c1]at t;simp at t
  rw[Hp.aR _ _ e]at w;exact s.mem b x y t w
 exact GP
def JG.sub{H:Hp}(h:JG G A H)(t:H.Sub H'):JG G A H':=by
 classical
 obtain⟨g,F,rfl,u,B,C⟩:=h
 refine⟨g,⟨λb=>if F b=none then(if g b=none then H' b else none)else F b,F.gh⟩,Hp.ext' (λb=>?_) ?_,⟨λb x y w e=>?_,u.gh⟩,λb x hb=>?_,C⟩
 ·show H' b=_;simp only[Hp.fW];cases hc:g b with
  | some x=>exact t.mem b x (Hp.eN hc)
  | none=>
   cases s:F b with
   | none=>simp
   | some y=>simp;exact t.mem b y (by simp[Hp.fW,hc,s])
 ·rw[t.gh];rfl
 ·have e:(if F b=none then(if g b=none then H' b else none)else F b)=some y:=e;rw[w]at e;cases s:F b with
  | none=>simp[s]at e
  | some z=>simp[s]at e;subst e;exact u.mem b x z w s
 ·show(if F b=none then(if g b=none then H' b else none)else F b)=some x;rw[B b x hb];simp
def JG.call{P:fP}{y:Value}{args:Array Value}{B:Value->Hp->Prop}{H:Hp}(D:∀H,A H->Z5 P y args H B)(h:JG G A H):Z5 P y args H (λv g=>JG G (B v) g):=by obtain⟨s,F,rfl,t,u,w⟩:=h;refine((D s w).frame t).mono ?_;rintro v g ⟨e,rfl,z,C⟩;exact⟨e,F,rfl,z,u,C⟩
def BL{u rest:List (List Value)}{I:Nat->Hp->Prop}(s:∀n,Up (I n)):Up (kB u I rest):=by rintro H J t ⟨p,e,g,h⟩;exact⟨p,e,g,s p H J t h⟩
theorem UG{H:Hp}{a:Addr}(h:aM H a cs)(e:cs[j]? = some v):aM H (a.add j) [v]:=by
 obtain⟨g,o,p,s,t⟩:=h;have w:j<cs.length:=(List.getElem?_eq_some_iff.1 e).1;refine⟨XD g _,o,p,by rw[MB];exact s,λk u=>?_⟩;have:k=0:=by simpa using u
 subst this;rw[MC,qCg,t j w,e];rfl
def t4:Yw Tryz.prog 4=some (1,some (vb false),1):=U
abbrev pt(r:Nat):Value:=.pointer (some ⟨r,0,none⟩)
def YP{H:Hp}(hi:fI G H)(e:H r=none):G r=none:=by
 cases g:G r with
 | none=>rfl
 | some x=>rw[hi r x g]at e;simp at e
def qC(hi:fI G G')(e:G r=none):fI G (G'.ins r o):=λb x hb=>by rw[Hp.aR _ _ (by rintro rfl;rw[e]at hb;simp at hb)];exact hi b x hb
def ZM{H:Hp}{p:Bool}(h:H r=some (.cells cs.toArray E,p)):aM H ⟨r,0,none⟩ cs:=⟨rfl,_,_,h,λj e=>by simp[Obj.nC]⟩
def ZmQ{H:Hp}{b:Option Nat}(s:fI H0 H)(h:∀r,b=some r->H0 r=none)(c:CM H H' b b'):fI H0 H':=
 λd y g=>c.keep d y (s d y g) (λe=>by rw[h d e]at g;simp at g)
def gL.BC[Enc α]{H:Hp}{l:List α}{b:Option Nat}(s:fI H0 H)(h:gL H0 H E v l b)(c:CM H H' b b'):∀r,b'=some r->H0 r=none:=by
 rcases c.new with rfl | ⟨r,rfl,g⟩
 ·exact h.fresh
 intro t e;obtain rfl:=aT e;exact YP s g
def gL.inc[Enc α]{H:Hp}{l:List α}{b:Option Nat}(h:gL H0 H E v l b)(hi:fI H H'):gL H0 H' E v l b:=⟨h.own.sub λc y _ e=>hi c y e,h.fresh⟩
section
variable{P:fP}{H:Hp}{d:Option Nat}{next:fG->Hp->Prop}{σ:fG}{x y:Operand}
def VX[Enc α]{R F T:TypeId}{u:Nat}{U s w:Value}{l l':List α}{b:Option Nat}(O:P.toProgram.underlying R=some (.slice E))(D:P.toProgram.underlying F=some (.slice E))(S:TI P.toProgram E (Enc.sz α) U u)(Q:U.cells.size=Enc.sz α)(M:0<Enc.sz α)
  (I:fI H0 H) (g:gL H0 H E s l b) (Y:dF H w l') (V:((Zd l').all Value.gM)=true) (z:l.length+l'.length<=1000000000) (B:u<=1000) (K:σ.get x=some s) (L:σ.get y=some w) (C:P.still H.gh=false)
  (h:∀t H' b',fI H0 H'->gL H0 H' E t (l++l') b'->CM H H' b b'->next (σ.set d t) H'):(fR.raw (.call { callee:=.builtin .append,args:=#[x,y],argTypes:=#[R,F] }) T).m P d next σ H:=by
 obtain⟨A,c,rfl,W⟩:=Y;by_cases N:l'=[]
 ·subst N;refine XZ O D S Q M K L g.own (m:=0) (xs:=[]) (.inl ⟨rfl,A,c,rfl⟩) (by simp) rfl z B C λt H' b' J e=>?_;exact h t H' b' (ZmQ I g.fresh e) ⟨by simpa using J,g.BC I e⟩ e
 obtain⟨a,rfl,X⟩:=W N;refine XZ O D S Q M K L g.own (m:=l'.length) (xs:=Zd l') (.inr ⟨a,c,rfl,X⟩) (Y7 l') V z B C λt H' b' J e=>?_;refine h t H' b' (ZmQ I g.fresh e) ⟨?_,g.BC I e⟩ e;rw[yX,IN];exact J
end
def el(l:List Int)(i:Nat):Int:=l.getD i 0
def V1(h:i<l.length):el l i=l[i]:=ZG h 0
def MK(x:Int)(j:Nat)(h:i<l.length):el (l.set i x) j=if j=i then x else el l j:=by
 unfold el;rw[qAp,qAp,qDR];by_cases e:j=i
 ·subst e;simp[h]
 rw[iF (qAo e),iF e]
structure AR(G H:Hp)(r:Nat)(l:List Int)(rest:List Value):Prop where
 keep:∀b x,b≠r->G b=some x->H b=some x
 at_:H r=some (.cells (Zd l++rest).toArray 3 (0,0),true)
def AR.of{H:Hp}(h:H r=some (.cells (Zd l++rest).toArray 3 (0,0),true)):AR H H r l rest:=⟨λ_ _ _ h=>h,h⟩
def AR.set{H:Hp}(h:AR G H r l rest)(l':List Int)(e:List Value):AR G (H.ins r (.cells (Zd l'++e).toArray 3)) r l' e:=
 ⟨λb x hb g=>by rw[Hp.aR _ _ hb];exact h.keep b x hb g,Hp.aQ _ _ _⟩
def AR.inc{g H:Hp}(h:AR G H r l rest)(hi:fI g G)(s:g r=none):fI g H:=
 λb x hb=>h.keep b x (λe=>by rw[e,s]at hb;simp at hb) (hi b x hb)
theorem Zv6(l:List Int)(i:Nat)(h:i<l.length):(Zd l)[i]? = some (vi (el l i)):=by rw[UC,qCe,qAZ h,V1 h];rfl
def V0(l:List Int):(Zd l).length=l.length:=by rw[UC,qAd]
def AR.cell{H:Hp}(h:AR G H r l rest)(s:j<l.length)(e:off=j):aM H ⟨r,off,none⟩ [vi (el l j)]:=by
 subst e;refine⟨rfl,_,_,h.at_,λk t=>?_⟩;have g:k=0:=by simpa using t
 subst g;have:(Zd l++rest)[off]? = some (vi (el l off)):=by rw[qAQ (by rw[V0];exact s),Zv6 l off s]
 simpa[Obj.nC]using this
theorem VF(r o n:Nat):(⟨r,o,none⟩:Addr).add n=⟨r,o+n,none⟩:=by
 unfold Addr.add;split
 ·rename_i h;subst h;rfl
 rfl
def Ot(r k:Nat):(⟨r,0,none⟩:Addr).add (k * 1)=⟨r,k,none⟩:=by rw[VF,qAJ,qCo]
def Zzq(r i k:Nat):((⟨r,0,none⟩:Addr).add (i * 1)).add (k * 1)=⟨r,i+k,none⟩:=by rw[Ot,VF,qCo]
def AR.cA{H:Hp}(h:AR G H r l rest)(g:i<l.length)(e:i=j:=by omega):aM H ((⟨r,0,none⟩:Addr).add (i * 1)) [vi (el l j)]:=
 Ot r i ▸ h.cell (off:=i) (j:=j) O e
def AR.cAA{H:Hp}(h:AR G H r l rest)(g:i+k<l.length)(e:i+k=j:=by omega):aM H (((⟨r,0,none⟩:Addr).add (i * 1)).add (k * 1)) [vi (el l j)]:=
 Zzq r i k ▸ h.cell (off:=i+k) (j:=j) O e
def ZoL(l:List Int)(rest:List Value)(n:Int)(h:j<l.length):ZR (Zd l++rest) j [vi n]=Zd (l.set j n)++rest:=by
 unfold ZR;have e:j<=(Zd l).length:=by rw[V0];omega
 have g:j+1<=(Zd l).length:=by rw[V0];omega
 rw[qCi e,show([vi n]:List Value).length=1 from rfl,List.drop_append_of_le_length g,UC,UC,List.map_set,qDJ,qAa (by simpa using h)];simp
def Zwq(l:List Int)(rest:List Value)(e:k<=l.length):(Zd l++rest).take k++List.replicate (l.length-k) (vi 0)++(Zd l++rest).drop (k+(l.length-k))=Zd (l.take k++List.replicate (l.length-k) 0)++rest:=by rw[qCi (by rw[V0];exact e),show k+(l.length-k)=(Zd l).length by rw[V0];omega,List.drop_left,yX,UC,UC,UC,List.map_take,List.map_replicate]
section
variable{P:fP}[Tz P][Loud P]{H:Hp}{d:Option Nat}{next:fG->Hp->Prop}{σ:fG}{x y:Operand}
def Zi{a:Addr}{g ln c:Nat}{k:IntKind}{n:Int}(j:Nat)(s:σ.get x=some (.slice (some a) ln c))(t:σ.get y=some (.int k n))(e:n=(j:Int))(u:j<ln)(h:next (σ.set d (.pointer (some (a.add (j * g))))) H):(fR.gC g x y).m P d next σ H:=by subst e;exact CL s t u h
def Av{a:Addr}{w:Nat}{n:Int}(h:AR G H r l rest)(t:j<l.length)(e:a=⟨r,j,none⟩)(g:σ.get x=some (.pointer (some a)))(s:σ.get y=some (vi n))
  (u:∀H',AR G H' r (l.set j n) rest->next (σ.set d undef) H'):(fR.raw (.store 3 x y) w).m P d next σ H:=by
 subst e;refine OH (fT t3) g s h.at_ rfl (by rw[IN,V0];omega) rfl (Loud.fD _) ?_;rw[show(vi n).cells.toList=[vi n]from rfl,ZoL l rest n t];exact u _ (h.set _ _)
def Zea(n:Nat):(Builtin.zeroCells #[vi 0] n).toList=List.replicate n (vi 0):=by simp only[Builtin.zeroCells];refine qCz (by simp) λi e g=>?_;simp[Nat.mod_one]
def ZtB{a:Addr}{T cap:Nat}(h:AR G H r l rest)(F:off<l.length)(e:a=⟨r,off,none⟩)(w:n=l.length-off)(t:σ.get x=some (.slice (some a) n cap))
  (z:∀H',AR G H' r (l.take off++List.replicate (l.length-off) 0) rest->next (σ.set d undef) H'):(fR.raw (.call { callee:=.builtin .clear,args:=#[x],argTypes:=#[45] }) T).m P d next σ H:=by
 subst e w;obtain⟨D,B,I,C,J⟩:=(fT (P:=P) t3).ex;refine YX (s:=Builtin.clear_ #[45] T #[.slice (some ⟨r,off,none⟩) (l.length-off) cap]) (by simp[Op.operands,Call.operands,t]) (by simp[execOp,fL,resolve,invoke,builtin,t]) ?_;have g:∃m,l.length-off=m+1:=⟨l.length-off-1,O⟩;obtain⟨m,u⟩:=g;rw[u];simp only[Builtin.clear_,qAM,qBy,Zf,ZA (fU (P:=P) jR),Us B C,Zj];refine MX _ _ _ off 0 (Zd l++rest) H (Loud.fD _) h.at_ ?_ ?_ ?_
 ·rw[show(vi 0).cells=#[vi 0]from rfl,Zea];simp[Value.gM]
 ·rw[show(vi 0).cells=#[vi 0]from rfl,Zea];simp[V0];omega
 rw[show(vi 0).cells=#[vi 0]from rfl,Zea,<-u];simp only[qCg,qCb];rw[Zwq l rest O];exact z _ (h.set _ _)
end
def iY(l:List Int):Nat->List Int
 | 0=>[]
 | n+1=>if n≠0/\el l n=el l (n-1)then iY l n else iY l n++[el l n]
def UE(l:List Int):List Int:=iY l l.length
def ZfX(e:n≠0)(h:el l n=el l (n-1)):iY l (n+1)=iY l n:=by rw[iY,qAa ⟨e,h⟩]
def ZfW(h:¬ el l n=el l (n-1)):iY l (n+1)=iY l n++[el l n]:=by rw[iY,iF (λe=>h e.2)]
theorem ZmM(l:List Int):iY l 1=[el l 0]:=by rw[iY,iF (by simp)];rfl
def ZmN(l:List Int):∀n,(iY l n).length<=n
 | 0=>DO 0
 | n+1=>by
  have:=ZmN l n;unfold iY;split
  ·omega
  simp;omega
def Am(h:n<l.length):l.take (n+1)=l.take n++[el l n]:=by rw[BY h,V1 h]
def Zo2(x:Int)(h:n<l.length):(l.set n x).take (n+1)=l.take n++[x]:=by rw[Am (by simpa using h),MK _ _ h,qAa rfl,qCY (DO n)]
section
variable{P:fP}[Tz P][Loud P]{H:Hp}
theorem Zz9{S:Option Nat}(hi:fI H0 H)(N:gL H0 H 3 v l S)(hl:l.length<=1000000) :
  LL.Zb P 79 #[v] H λw J=>fI H0 J/\∃W,gL H0 J 3 w (UE l) W:=by
 refine aU.m (fO c94) rfl ?_;unfold n94;obtain⟨pD,⟨rfl,h2,h3⟩ | ⟨r,cap,rest,h1,rfl,h3,h4,h5⟩⟩:=id N.own
 ·have:l=[]:=qAr h2;subst this;refine Y ?_;exact⟨hi,S,N⟩
 have Q:H0 r=none:=N.fresh r h1;rw[IN,V0]at h4;have h4':l.length+rest.length=cap * 1:=h4;refine OJ (λX=>?_) (λX=>?_)
 ·refine Y ?_;refine⟨hi,S,?_⟩;have:UE l=l:=by
   match l,X with
   | [],_=>rfl
   | [x],_=>rfl
   | x :: y :: t,h=>simp at h;omega
  rw[this];exact N
 have X:2<=l.length:=O;refine Y ?_;refine ZC (l.length-1) (λj J=>H=J/\iY l (j+1)=l.take (j+1)) (λj=>[(0,.slice (some ⟨r,0,none⟩) l.length cap),(3,vi ((j+1:Nat):Int))]) (λj=>[]) ⟨rfl,by rw[ZmM,Am O];rfl⟩ V trivial ?_;rintro j _ hj ⟨rfl,I⟩;have C:=AR.of h3;refine OJ (λL=>?_) (λL=>?_)
 ·have L:j+1<l.length:=O;refine Y ?_;refine CL rfl rfl L (Y ?_);refine Zh (OL _) rfl (C.cA L rfl) (Y ?_);refine Zi j rfl rfl O O (Y ?_);refine Zh (OL _) rfl (C.cA O rfl) ?_;refine OJ (λZ=>?_) (λZ=>?_)
  ·have M:¬ cap=j+1:=O;refine Y ?_;refine Zia (lo:=j+1) (fU jR) (fT t3) rfl rfl O ?_;rw[iF M];have F:iY l (j+2)=l.take (j+1):=by rw[ZfX O (by simpa using Z),I]
   refine Y ?_;refine Yp (α:=List Int) (l.length-(j+1)-1) (λi c J=>AR H J r c rest/\c.length=l.length/\c.take (iY l (j+1+i+1)).length=iY l (j+1+i+1)/\(∀x,j+1+i<=x->el c x=el l x)/\(iY l (j+1+i+1)).length<=j+1+i/\1<=(iY l (j+1+i+1)).length)
    (λi c=>[(0,.slice (some ⟨r,0,none⟩) l.length cap),(3,vi ((iY l (j+1+i+1)).length:Nat)),(4,.slice (some ((⟨r,0,none⟩:Addr).add ((j+1) * 1))) (l.length-(j+1)) (cap-(j+1))),(5,vi ((i+1:Nat):Int))]) (λi c=>[]) l ?_ ⟨rfl,?_,rfl,rfl,trivial⟩ trivial ?_
   ·have e2:(iY l (j+1+0+1)).length=j+1:=by rw[show j+1+0+1=j+2 from rfl,F,qAs];omega
    exact⟨C,rfl,by rw[e2];exact F.symm,λ_ _=>rfl,O,O⟩
   ·show some (vi _)=some (vi _);rw[show j+1+0+1=j+2 from rfl,F,qAs,qBX O]
   rintro i c H2 SJ ⟨K,z,B,s,hk1,Tk⟩;generalize g:(iY l (j+1+i+1)).length=k at *;have aD7:l.length-(j+1)<=1000000:=O;refine OJ (λU=>?_) (λU=>?_)
   ·have U:i+1<l.length-(j+1):=O;refine Y ?_;refine CL rfl rfl U (Y ?_);refine Zh (OL _) rfl (K.cAA (j:=j+1+(i+1)) O rfl) (Y ?_);refine Zi i rfl rfl O O (Y ?_);refine Zh (OL _) rfl (K.cAA (j:=j+1+i) O rfl) ?_;rw[s _ O,s _ O];refine OJ (λg5=>?_) (λg5=>?_)
    ·refine Y ?_;refine CL rfl rfl U (Y ?_);refine Zh (OL _) rfl (K.cAA (j:=j+1+(i+1)) O rfl) ?_;rw[s _ O];refine Y ?_;refine CL rfl rfl (show k<l.length by omega) (Y ?_);refine Av (j:=k) K O (Ot _ _) rfl rfl λH3 u=>?_;have D:iY l (j+1+(i+1)+1)=iY l (j+1+i+1)++[el l (j+1+(i+1))]:=ZfW (n:=j+1+(i+1)) g5;have T:(iY l (j+1+(i+1)+1)).length=k+1:=by rw[D,IN,g];rfl
     refine Y ?_;refine⟨(⟨i+1,O⟩,c.set k (el l (j+1+(i+1)))),gI O,⟨u,by simpa using z,?_,λx R=>?_,by rw[T];show k+1<=j+1+(i+1);omega,by rw[T];omega⟩,⟨rfl,?_,rfl,rfl,trivial⟩,trivial,rfl⟩
     ·rw[T,Zo2 _ O,B,D]
     ·have R:j+1+(i+1)<=x:=R;rw[MK _ _ O,iF O];exact s x O
     show _=some (vi ((iY l (j+1+(i+1)+1)).length:Nat));rw[T];rfl
    have D:iY l (j+1+(i+1)+1)=iY l (j+1+i+1):=ZfX (n:=j+1+(i+1)) O g5;refine Y ?_;refine⟨(⟨i+1,O⟩,c),gI O,⟨K,z,?_,λx R=>s x (by have R:j+1+(i+1)<=x:=R;omega),by rw[D,g];show k<=j+1+(i+1);omega,by rw[D,g];omega⟩,⟨rfl,?_,rfl,rfl,trivial⟩,trivial,rfl⟩
    ·rw[D,g,B]
    show _=some (vi ((iY l (j+1+(i+1)+1)).length:Nat));rw[D,g];rfl
   have hm:j+1+i+1=l.length:=O;rw[hm]at B g;refine Y ?_;refine Zia (lo:=k) (fU jR) (fT t3) rfl rfl O ?_;rw[iF O];refine Y ?_;refine ZtB K O (Ot _ _) (by rw[z]) rfl λH3 u=>Y ?_;refine PC (k:=.i64) (lo:=0) (hi:=k) (fU jR) (fT t3) rfl (.inl ⟨rfl,rfl⟩) ⟨_,rfl,rfl⟩ (qBf _) O (Y ?_);have hz:¬ cap=0:=O;refine⟨(u.inc hi Q),some r,⟨⟨?_,.inr ⟨r,cap,List.replicate (c.length-k) (vi 0)++rest,rfl,?_,?_,?_,?_⟩⟩,λr' e=>by obtain rfl:=aT e;exact Q⟩⟩
   ·rw[V0];show _=(UE l).length * 1;omega
   ·rw[iF hz];show Value.slice (some ((⟨r,0,none⟩:Addr).add (0 * 1))) (k-0) (cap-0)=_;rw[Ot,qBl,qBl,<-g];rfl
   ·have h:=u.at_;rw[B,yX,show Zd (List.replicate (c.length-k) (0:Int))=List.replicate (c.length-k) (vi 0)by rw[UC,List.map_replicate],qAE]at h;exact h
   ·rw[IN,IN,V0,qCb,z];show(iY l l.length).length+_=cap * 1;rw[g];omega
   show(iY l l.length).length<=cap;omega
  refine Y ?_;refine⟨⟨j+1,O⟩,gI O,⟨rfl,?_⟩,V,trivial,rfl⟩;rw[ZfW (by simpa using Z),I,Am L]
 have:j+1=l.length:=O;refine Y ?_;refine⟨hi,S,?_⟩;have:UE l=l:=by rw[UE,<-this,I,this,qAh]
 rw[this];exact N
end
def jK(l:List Int)(i j:Nat):List Int:=(l.set i (el l j)).set j (el l i)
def Zev(l:List Int)(i j:Nat):(jK l i j).length=l.length:=by simp[jK]
def Vt(k:Nat)(hi:i<l.length)(e:j<l.length):el (jK l i j) k=if k=j then el l i else if k=i then el l j else el l k:=by unfold jK;rw[MK _ _ (by simpa using e),MK _ _ hi]
inductive Rg (a b:Nat):List Int->List Int->Prop
 | refl (l:List Int):Rg a b l l
 | step {l l':List Int} (i j:Nat):Rg a b l l'->a<=i->i<b->a<=j->j<b->Rg a b l (jK l' i j)
def Rg.len(h:Rg a b l l'):l'.length=l.length:=by
 induction h with
 | refl=>rfl
 | step i j _ _ _ _ _ ih=>rw[Zev,ih]
def Rg.trans{e:List Int}(h:Rg a b l l')(g:Rg a b l' e):Rg a b l e:=by
 induction g with
 | refl=>exact h
 | step i j _ s t u w ih=>exact .step i j ih s t u w
def Rg.mono{e b':Nat}(h:Rg a b l l')(w:e<=a)(hb:b<=b'):Rg e b' l l':=by
 induction h with
 | refl=>exact .refl _
 | step i j _ g s t u ih=>exact .step i j ih O O O O
def Rg.out(h:Rg a b l l')(hb:b<=l.length)(w:k<a\/b<=k):el l' k=el l k:=by
 induction h with
 | refl=>rfl
 | step i j e g s t u ih=>
  have:=e.len;rw[Vt _ O O,iF O,iF O,ih]
def Rg.all(h:Rg a b l l')(hb:b<=l.length){p:Int->Prop}(B:∀k,a<=k->k<b->p (el l k)):∀k,a<=k->k<b->p (el l' k):=by
 induction h with
 | refl=>exact B
 | step i j s t u w z ih=>
  intro k e g;have:=s.len;rw[Vt _ O O];split
  ·exact ih i t u
  split
  ·exact ih j w z
  exact ih k e g
def Zow(hi:i<l.length)(e:j<l.length):(jK l i j).Perm l:=by unfold jK;rw[V1 hi,V1 e];exact List.set_set_perm hi e
def Rg.perm(h:Rg a b l l')(hb:b<=l.length):l'.Perm l:=by
 induction h with
 | refl=>exact .refl _
 | step i j e g s t u ih=>
  have:=e.len;exact(Zow O O).trans ih
def So(a b:Nat)(l:List Int):Prop:=∀i j,a<=i->i<=j->j<b->el l i<=el l j
def O7(l:List Int)(h:b<=a+1):So a b l:=λi j e g s=>by have:i=j:=O;subst this;exact qAO _
def O8(h:∀i,a<=i->i+1<b->el l i<=el l (i+1)):So a b l:=by
 intro i j hi e g;obtain⟨d,rfl⟩:=Nat.exists_eq_add_of_le e;clear e;induction d with
 | zero=>exact qAO _
 | succ d ih=>exact qCM (ih O) (h (i+d) O O)
section
variable{P:fP}[Tz P][Loud P]{H:Hp}
def ZfB(n:Int):LL.Zb P 297 #[vi n] H λv e=>H=e/\v=vb false:=by refine aU.m (fO ZwM) rfl ?_;unfold ZiU;refine Y ?_;exact⟨rfl,by simp[Y3]⟩
def Vv(m n:Int):LL.Zb P 230 #[vi m,vi n] H λv e=>H=e/\v=vb (decide (m<n)):=by refine aU.m (fO ZwZ) rfl ?_;unfold Zi7;refine Y ?_;refine Z7 (vs:=[vi m]) rfl (ZfB _) ?_;exact DU
end
def rW(k m:Nat):Prop:=m=2 * k+1\/m=2 * k+2
def zG(f lo hi:Nat)(l:List Int):Prop:=∀k m,lo<=k->rW k m->m<hi->el l (f+m)<=el l (f+k)
structure FE(f lo hi:Nat)(l:List Int)(p:Nat):Prop where
 h1:∀k m,lo<=k->k≠p->rW k m->m<hi->el l (f+m)<=el l (f+k)
 h2:∀k m,lo<=k->rW k p->rW p m->m<hi->el l (f+m)<=el l (f+k)
def FE.of(h:zG f (lo+1) hi l):FE f lo hi l lo:=
 ⟨λk m g e s t=>h k m O s t,λk m g e=>by rcases e with e | e<;>omega⟩
def FE.fin(h:FE f lo hi l p)(u:∀m,rW p m->m<hi->el l (f+m)<=el l (f+p)):zG f lo hi l:=by
 intro k m g s t;by_cases e:k=p
 ·subst e;exact u m s t
 exact h.h1 k m g e s t
def FE.step(h:FE f lo hi c p)(w:rW p m)(J:m<hi)(z:∀e,rW p e->e<hi->el c (f+e)<=el c (f+m))(Q:el c (f+p)<el c (f+m))(L:f+hi<=c.length)(S:lo<=p) :
  FE f lo hi (jK c (f+p) (f+m)) m:=by
 have R:p<m:=by rcases w with h | h<;>omega
 have es:∀x,el (jK c (f+p) (f+m)) x=if x=f+m then el c (f+p)else if x=f+p then el c (f+m)else el c x:=λx=>Vt x O O
 have M:el (jK c (f+p) (f+m)) (f+m)=el c (f+p):=by rw[es,qAa rfl]
 have D:el (jK c (f+p) (f+m)) (f+p)=el c (f+m):=by rw[es,iF O,qAa rfl]
 have B:∀x,x≠m->x≠p->el (jK c (f+p) (f+m)) (f+x)=el c (f+x):=λx K N=>by rw[es,iF O,iF O]
 refine⟨λk e F I g C=>?_,λk e F I g C=>?_⟩
 ·by_cases s:k=p
  ·subst s;rw[D];by_cases t:e=m
   ·subst t;rw[M];omega
   rw[B e t (by rcases g with h | h<;>omega)];exact z e g C
  rw[B k I s];by_cases t:e=m
  ·exfalso;subst t;unfold rW at w g;omega
  by_cases u:e=p
  ·subst u;rw[D];exact h.h2 k m F g w J
  rw[B e t u];exact h.h1 k e F s g C
 have s:k=p:=by unfold rW at w I;omega
 subst s;have:e≠m/\e≠k:=by unfold rW at w g;omega
 rw[D,B e this.1 this.2];exact h.h1 m e O O g C
def Zvn(h:zG f 0 q c):∀k,k<q->el c (f+k)<=el c f:=by
 intro k;induction k using Nat.strongRecOn with
 | _ k ih=>
  intro g;by_cases e:k=0
  ·subst e;exact qAO _
  have s:rW ((k-1) / 2) k:=by unfold rW;omega
  exact qCM (h _ k (qBf _) s g) (ih _ O O)
def ZlM(hi:Nat):((hi:Int)-1).tdiv 2=(((hi-1) / 2:Nat):Int):=by
 by_cases h:hi=0
 ·subst h;rfl
 rw[qBA O];omega
structure vB(a b i j:Nat)(v:Int)(c:List Int):Prop where
 eq:el c a=v
 lo:∀k,a+1<=k->k<i->el c k<v
 hi:∀k,j<k->k<b->v<=el c k
 ai:a+1<=i
 ij:i<=j+1
 jb:j+1<=b
def vB.swap{v:Int}(h:vB a b i j v c)(e:i<=j)(h1:v<=el c i)(h2:el c j<v)(g:b<=c.length):vB a b (i+1) (j-1) v (jK c i j):=by exact WN
def PtQ(a b:Nat)(l':List Int)(p:Nat):Prop:=a<=p/\p<b/\(∀k,a<=k->k<p->el l' k<=el l' p)/\∀k,p<k->k<b->el l' p<=el l' k
def vB.fin{v:Int}(h:vB a b i j v c)(t:j<i)(B:b<=c.length):PtQ a b (jK c j a) j:=by
 have u:=h.ai;have w:=h.ij;have z:=h.jb;have es:∀x,el (jK c j a) x=if x=a then el c j else if x=j then el c a else el c x:=λx=>Vt x O O
 have g:el (jK c j a) j=v:=by
  rw[es];by_cases e:j=a
  ·rw[qAa e,e];exact h.eq
  rw[iF e,qAa rfl];exact h.eq
 refine⟨O,O,λk k1 s=>?_,λk k1 s=>?_⟩
 ·rw[g,es];by_cases e:k=a
  ·rw[qAa e];exact qDA (h.lo j O O)
  rw[iF e,iF O];exact qDA (h.lo k O O)
 rw[g,es,iF O,iF O];exact h.hi k k1 s
def Zt3{P:fP}{l:List NI}{b:Zc}{σ:fG}{H:Hp}(h:(Zc.fK l).m P (kZ.then (b.m P Qe) Qe) σ H):(Zc.seq (.fK l) b).m P Qe σ H:=VL h
def Zt4{P:fP}{l:List (NI×Option Bool)}{b:Zc}{σ:fG}{H:Hp}(h:(Zc.drawn l).m P (kZ.then (b.m P Qe) Qe) σ H):(Zc.seq (.drawn l) b).m P Qe σ H:=VL h
def OB{G G':Prop}(x:G') (h:Wr G'->G:=by
  intro rO;refine OQ ?_;repeat ((with_reducible first | refine Zt3 ?_ | refine Zt4 ?_);refine OQ ?_)
  exact rO.out):G:=h ⟨x⟩
structure BP(a b i j:Nat)(v:Int)(c:List Int):Prop where
 eq:el c a=v
 lo:∀k,a+1<=k->k<i->el c k<=v
 hi:∀k,j<k->k<b->v<el c k
 ai:a+1<=i
 ij:i<=j+1
 jb:j+1<=b
def BP.swap{v:Int}(h:BP a b i j v c)(e:i<=j)(h1:v<el c i)(h2:el c j<=v)(g:b<=c.length):BP a b (i+1) (j-1) v (jK c i j):=by exact WN
def PeQ(a b:Nat)(l':List Int)(i:Nat)(v:Int):Prop:=a<i/\i<=b/\(∀k,a<=k->k<i->el l' k<=v)/\∀k,i<=k->k<b->v<el l' k
def BP.fin{v:Int}(h:BP a b i j v c)(s:j<i):PeQ a b c i v:=by
 have t:=h.ai;have u:=h.ij;have w:=h.jb;refine⟨O,O,λk k1 g=>?_,λk k1 g=>h.hi k O g⟩;by_cases e:k=a
 ·rw[e,h.eq];exact qAO _
 exact h.lo k O g
structure uN(H H':Hp)(r2:Nat)(s:Nat):Prop where
 keep:∀b x,b≠r2->H b=some x->H' b=some x
 at_:H' r2=some (.cells #[vi s] 3 (0,0),true)
def uN.trans{H e:Hp}{s t:Nat}(h:uN H H' r2 s)(g:uN H' e r2 t):uN H e r2 t:=⟨λb x hb u=>g.keep b x hb (h.keep b x hb u),g.at_⟩
section
variable{P:fP}[Tz P][Loud P]{H:Hp}
def FD(a b:Nat)(c:List Int):Prop:=a=0\/∀k,a<=k->k<b->el c (a-1)<=el c k
def FD.rg(h:FD a b c)(rg:Rg a b c c')(hb:b<=c.length):FD a b c':=by
 rcases h with h | h
 ·exact .inl h
 by_cases e:a=0
 ·exact .inl e
 right;rw[rg.out hb (.inl O)];exact rg.all hb (p:=λv=>el c (a-1)<=v) h
end
def sO:ByteArray:=.mk #[0,1,2,2,3,3,3,3,4,4,4,4,4,4,4,4,5,5,5,5,5,5,5,5,5,5,5,5,5,5,5,5,6,6,6,6,6,6,6,6,6,6,6,6,6,6,6,6,6,6,6,6,6,6,6,6,6,6,6,6,6,6,6,6,7,7,7,7,7,7,7,7,7,7,7,7,7,7,7,7,7,7,7,7,7,7,7,7,7,7,7,7,7,7,7,7,7,7,7,7,7,7,7,7,7,7,7,7,7,7,7,7,7,7,7,7,7,7,7,7,7,7,7,7,7,7,7,7,8,8,8,8,8,8,8,8,8,8,8,8,8,8,8,8,8,8,8,8,8,8,8,8,8,8,8,8,8,8,8,8,8,8,8,8,8,8,8,8,8,8,8,8,8,8,8,8,8,8,8,8,8,8,8,8,8,8,8,8,8,8,8,8,8,8,8,8,8,8,8,8,8,8,8,8,8,8,8,8,8,8,8,8,8,8,8,8,8,8,8,8,8,8,8,8,8,8,8,8,8,8,8,8,8,8,8,8,8,8,8,8,8,8,8,8,8,8,8,8,8,8,8,8,8,8,8,8]
def Oq(m:Nat):Nat:=if m=0 then 0 else Nat.log2 m+1
def ZuM:(List.range 256).all (λi=>match sO[i]? with | some b=>b.toNat == Oq i | none=>false)=true:=U
def ZlA(h:i<256):∃b,sO[i]? = some b/\b.toNat=Oq i:=by
 have:=qAf.1 ZuM i (qAA.2 h);split at this
 ·exact⟨_,‹_›,by simpa using this⟩
 simp at this
def u9:Tryz.prog.underlying 9=some .string:=U
def Zgy:Tryz.prog.underlying 335=some (.int .u64):=U
def QE:Tryz.prog.underlying 286=some (.int .u64):=U
def u5:Tryz.prog.underlying 5=some (.int .u8):=U
section
variable{P:fP}[Tz P]{H:Hp}{d:Option Nat}{next:fG->Hp->Prop}{σ:fG}{x y:Operand}
def Zil{t:TypeId}{z:TypeId}{k:IntKind}{s:ByteArray}{b:UInt8}(w:P.toProgram.underlying t=some .string)(e:σ.get x=some (.string s))(g:σ.get y=some (.int k (i:Int)))(hb:s[i]? = some b)
  (h:next (σ.set d (.int .u8 b.toNat)) H):(fR.raw (.index t x y) z).m P d next σ H:=by
 refine YX (by simp[Op.operands,e,g]) (s:=Instr.index t (.string s) (.int k (i:Int))) (by simp[execOp,fL,e,g]) ?_;have u:(0:Int)<=(i:Int):=O;simp only[Instr.index,Zf,asIntOf,Zj,ZA w,qAa u,qAL,hb];exact h
end
section
variable{P:fP}[Tz P]{H:Hp}
def Zgm(h:m<256):IntKind.u8.wrap (m:Int)=(m:Int):=by simp only[IntKind.wrap,IntKind.bits,IntKind.signed,qCL,oR,qAq];omega
def U7(h:m<18446744073709551616):IntKind.u64.wrap (m:Int)=(m:Int):=by simp only[IntKind.wrap,IntKind.bits,IntKind.signed,qCL,oR,qAq];omega
def ZzR(C:m<65536):LL.Zb P 234 #[.int .u64 m] H λv z=>H=z/\v=vi (if m<256 then Oq m else 8+Oq (m / 256):Nat):=by
 refine aU.m (fO ZwW) rfl ?_;unfold Zi4;refine OJ (λu=>?_) (λu=>?_)
 ·exact absurd u O
 refine OJ (λw=>?_) (λw=>?_)
 ·exact absurd w O
 refine OJ (λB=>?_) (λB=>?_)
 ·have g:m / 256<256:=O;obtain⟨b,hb,e⟩:=ZlA g;have t:ZH .shr .u64 (m:Int) 8=.int .u64 ((m / 256:Nat):Int):=by show Value.int .u64 ((m:Int).fdiv 256)=_;rw[qBJ _ O];rfl
  have h:b.toNat<=255:=by have:=b.toNat_lt;omega
  refine Y ?_;refine EJ rfl rfl (.inl rfl) O t (Y ?_);refine VC (fU Zgy) (fU u5) rfl ?_;rw[Zgm g];refine Y ?_;refine Zil (s:=sO) (fU u9) rfl rfl hb (Y ?_);refine VC (fU u5) (fU vD) rfl ?_;rw[V8 ⟨O,O⟩];refine Y ?_;refine⟨rfl,?_⟩;rw[iF O,<-e];show vi _=vi _;congr 1
 have g:m<256:=O;obtain⟨b,hb,e⟩:=ZlA g;have h:b.toNat<=255:=by have:=b.toNat_lt;omega
 refine Y ?_;refine VC (fU Zgy) (fU u5) rfl ?_;rw[Zgm g];refine Y ?_;refine Zil (s:=sO) (fU u9) rfl rfl hb (Y ?_);refine VC (fU u5) (fU vD) rfl ?_;rw[V8 ⟨O,O⟩];refine Y ?_;refine⟨rfl,?_⟩;rw[qAa g,<-e];show vi _=vi _;congr 1;omega
def jQ(m:Nat):Nat:=if m<256 then Oq m else 8+Oq (m / 256)
def X1(g:m<65536):LL.Zb P 158 #[.int .u64 m] H λv e=>H=e/\v=vi (jQ m:Nat):=by refine aU.m (fO Zxf) rfl ?_;unfold Zjn;refine Y ?_;refine Z7 (vs:=[.int .u64 m]) rfl (ZzR g) ?_;exact DU
def Zfy(h:m<65536):jQ m<=16:=by
 unfold jQ Oq;have g:∀x,x<256->Nat.log2 x<=7:=λx s=>by
  by_cases e:x=0
  ·subst e;decide
  have:=(Nat.log2_lt e (k:=8)).2 O;omega
 split
 ·split
  ·omega
  have:=g m ‹_›;omega
 split
 ·omega
 have:=g (m / 256) O;omega
end
def Aq(n:Int):∃y:Nat,y<18446744073709551616/\IntKind.u64.wrap n=(y:Int):=by simp only[IntKind.wrap,IntKind.bits,IntKind.signed,qCL,oR,qAq];exact⟨(n % 2 ^ 64).toNat,O,O⟩
def Zn3:Tryz.prog.underlying 408=some (.int .u64):=U
def Ak:Yw Tryz.prog 408=some (1,some (.int .u64 0),8):=U
def Zm5(h:1<=m):2 ^ Oq m<=2 * m:=by unfold Oq;rw[iF O,qCC];have:=Nat.log2_self_le (n:=m) O;omega
def ZuN(h:1<=m):2 ^ jQ m<=2 * m:=by
 unfold jQ;split
 ·exact Zm5 h
 have:=Zm5 (m:=m / 256) O;rw[Nat.pow_add];omega
section
variable{P:fP}[Tz P][Loud P]{H:Hp}
def ZsC(g:m<65536):LL.Zb P 301 #[vi m] H λv h=>H=h/\v=.int .u64 ((2 ^ jQ m:Nat):Int):=by
 have s:=Zfy g;have t:2 ^ jQ m<=2 ^ 16:=qAR (by decide) s;have e:ZH .shl .u64 1 (jQ m:Nat)=.int .u64 ((2 ^ jQ m:Nat):Int):=by show Value.int .u64 (IntKind.u64.wrap (1 * 2 ^ min ((jQ m:Nat):Int).toNat 64))=_;rw[qAL,qBX O,Int.one_mul,show(2:Int) ^ jQ m=((2 ^ jQ m:Nat):Int)by simp,U7 O]
 refine aU.m (fO ZwQ) rfl ?_;unfold ZiY;refine Y ?_;refine VC (fU vD) (fU QE) rfl ?_;rw[U7 O];refine Y ?_;refine Z7 (vs:=[.int .u64 m]) rfl (X1 g) ?_;rintro v _ ⟨rfl,rfl⟩;refine Y ?_;refine EJ rfl rfl (.inr rfl) O e (Y ?_);exact⟨rfl,rfl⟩
def ZtX{y:Nat}(hy:H r2=some (.cells #[.int .u64 y] 408 (0,0),true)):LL.Zb P 302 #[pt r2] H λv S=>∃z:Nat,z<18446744073709551616/\v=.int .u64 z/\S r2=some (.cells #[.int .u64 z] 408 (0,0),true)/\∀b x,b≠r2->H b=some x->S b=some x:=by refine aU.m (fO ZwP) rfl ?_;unfold ZiX;have h:=hy;obtain⟨T,W,J⟩:=Aq ((y:Int) * 2 ^ 13);have u:ZH .shl .u64 (y:Int) 13=.int .u64 (T:Int):=qAx (Value.int .u64) J;obtain⟨e,hz1,M⟩:=Aq (((BitVec.ofInt IntKind.u64.bits (y:Int) ^^^ BitVec.ofInt IntKind.u64.bits (T:Int)).toNat:Nat):Int);refine Y ?_;refine Uf rfl (Y ?_);refine Zh (OL _) rfl (ZM (cs:=[.int .u64 y]) h) (Y ?_);refine Uf rfl (Y ?_);refine Zh (OL _) rfl (ZM (cs:=[.int .u64 y]) h) (Y ?_);refine EJ rfl rfl (.inr rfl) O u (Y ?_);refine ME (v:=.int .u64 (e:Int)) rfl rfl (.inr (.inr (.inl rfl))) (qAx (Value.int .u64) M) (Y ?_);refine Uf rfl (Y ?_);refine VV (fT Ak) rfl rfl h rfl rfl (OL _) ?_;have s:(H.ins r2 (.cells #[.int .u64 (e:Int)] 408)) r2=some (.cells #[.int .u64 (e:Int)] 408 (0,0),true):=Hp.aQ _ _ _;obtain⟨U,K⟩:∃w:Int,(e:Int).fdiv (2 ^ 7)=w:=⟨_,rfl⟩;have B:ZH .shr .u64 (e:Int) 7=.int .u64 U:=qAx (Value.int .u64) K;obtain⟨g,Rm,N⟩:=Aq (((BitVec.ofInt IntKind.u64.bits (e:Int) ^^^ BitVec.ofInt IntKind.u64.bits (U:Int)).toNat:Nat):Int);refine Y ?_;refine Uf rfl (Y ?_);refine Zh (OL _) rfl (ZM (cs:=[.int .u64 e]) s) (Y ?_);refine Uf rfl (Y ?_);refine Zh (OL _) rfl (ZM (cs:=[.int .u64 e]) s) (Y ?_);refine EJ rfl rfl (.inl rfl) O B (Y ?_);refine ME (v:=.int .u64 (g:Int)) rfl rfl (.inr (.inr (.inl rfl))) (qAx (Value.int .u64) N) (Y ?_);refine Uf rfl (Y ?_);refine VV (fT Ak) rfl rfl s rfl rfl (OL _) ?_;rw[Uy];have t:(H.ins r2 (.cells #[.int .u64 (g:Int)] 408)) r2=some (.cells #[.int .u64 (g:Int)] 408 (0,0),true):=Hp.aQ _ _ _;obtain⟨V,X,L⟩:=Aq ((g:Int) * 2 ^ 17);have C:ZH .shl .u64 (g:Int) 17=.int .u64 (V:Int):=qAx (Value.int .u64) L;obtain⟨I,R,Q⟩:=Aq (((BitVec.ofInt IntKind.u64.bits (g:Int) ^^^ BitVec.ofInt IntKind.u64.bits (V:Int)).toNat:Nat):Int);refine Y ?_;refine Uf rfl (Y ?_);refine Zh (OL _) rfl (ZM (cs:=[.int .u64 g]) t) (Y ?_);refine Uf rfl (Y ?_);refine Zh (OL _) rfl (ZM (cs:=[.int .u64 g]) t) (Y ?_);refine EJ rfl rfl (.inr rfl) O C (Y ?_);refine ME (v:=.int .u64 (I:Int)) rfl rfl (.inr (.inr (.inl rfl))) (qAx (Value.int .u64) Q) (Y ?_);refine Uf rfl (Y ?_);refine VV (fT Ak) rfl rfl t rfl rfl (OL _) ?_;rw[Uy];have D:(H.ins r2 (.cells #[.int .u64 (I:Int)] 408)) r2=some (.cells #[.int .u64 (I:Int)] 408 (0,0),true):=Hp.aQ _ _ _;refine Y ?_;refine Uf rfl (Y ?_);refine Zh (OL _) rfl (ZM (cs:=[.int .u64 (I:Int)]) D) (Y ?_);exact⟨I,R,rfl,D,λb x hb Z=>by rw[Hp.aR _ _ hb];exact Z⟩
end
def Zzd(z M:Nat)(e:M<18446744073709551616):((BitVec.ofInt IntKind.u64.bits (z:Int) &&& BitVec.ofInt IntKind.u64.bits (M:Int)).toNat)<=M:=by rw[qCk];refine qAP Nat.and_le_right ?_;rw[qCl];simp only[IntKind.bits];omega
section
variable{P:fP}[Tz P][Loud P]{H:Hp}
def Zs9{d:Option Nat}{next:fG->Hp->Prop}{σ:fG}{x y:Operand}{m n q:Int}(e:σ.get x=some (.int .u64 m))(g:σ.get y=some (.int .u64 n))(s:IntKind.u64.wrap (m-n)=q)(h:next (σ.set d (.int .u64 q)) H):(fR.fV .sub x y).m P d next σ H:=by subst s;exact Ya e g rfl h
end
structure sZ(a0 b0 a b:Nat)(l c:List Int):Prop where
 rg:Rg a0 b0 l c
 h1:a0<=a
 h2:a<=b
 h3:b<=b0
 s1:So a0 a c
 s2:So b b0 c
 s3:∀x y,a0<=x->x<a->a<=y->y<b0->el c x<=el c y
 s4:∀x y,a0<=x->x<b->b<=y->y<b0->el c x<=el c y
 lw:FD a0 b0 c
def sZ.start(e:a0<=b0)(s:FD a0 b0 l):sZ a0 b0 a0 b0 l l:=
 ⟨.refl l,DO _,e,DO _,O7 l O,O7 l O,λx y g h=>O,λx y g h t u=>O,s⟩
def sZ.step(h:sZ a0 b0 a b l c)(r:Rg a b c c')(hb:b0<=c.length):sZ a0 b0 a b l c':=by
 have w:=h.h1;have D:=h.h2;have z:=h.h3;have out:∀k,(k<a\/b<=k)->el c' k=el c k:=λk F=>r.out O F;have C:Rg a0 b0 c c':=r.mono w z;refine⟨h.rg.trans C,w,D,z,λx y t s g=>?_,λx y t s g=>?_,λx y t s g u=>?_,λx y t s g u=>?_,h.lw.rg C hb⟩
 ·rw[out x (.inl O),out y (.inl g)];exact h.s1 x y t s g
 ·rw[out x (.inr t),out y (.inr O)];exact h.s2 x y t s g
 ·rw[out x (.inl s)];by_cases e:y<b
  ·exact r.all O (p:=λv=>el c x<=v) (λk k1 B=>h.s3 x k t s k1 O) y g e
  rw[out y (.inr O)];exact h.s3 x y t s g u
 rw[out y (.inr g)];by_cases e:a<=x
 ·exact r.all O (p:=λv=>v<=el c y) (λk k1 B=>h.s4 k y O B g u) x e s
 rw[out x (.inl O)];exact h.s4 x y t s g u
def sZ.fin(h:sZ a0 b0 a b l c)(s:So a b c):So a0 b0 c:=by
 have B:=h.h1;have C:=h.h2;have D:=h.h3;intro x y g t u;by_cases w:x<a
 ·by_cases e:y<a
  ·exact h.s1 x y g t e
  exact h.s3 x y g w O u
 by_cases e:y<b
 ·exact s x y O t e
 by_cases z:x<b
 ·exact h.s4 x y g z O u
 exact h.s2 x y O t u
theorem sZ.low(h:sZ a0 b0 a b l c):FD a b c:=by
 have t:=h.h1;have u:=h.h3;by_cases e:a=a0
 ·subst e;exact h.lw.imp id λg k k1 s=>g k k1 O
 exact .inr λk k1 s=>h.s3 _ k O O k1 O
def sZ.left(h:sZ a0 b0 a b l c)(g:a<=q)(t:q<=b)(s:So a q c)(hx:∀x y,a<=x->x<q->q<=y->y<b->el c x<=el c y):sZ a0 b0 q b l c:=by
 have u:=h.h1;have e:=h.h3;refine⟨h.rg,O,t,e,λx y x1 x2 x3=>?_,h.s2,λx y x1 x2 x3 x4=>?_,h.s4,h.lw⟩
 ·by_cases e1:x<a
  ·by_cases e2:y<a
   ·exact h.s1 x y x1 x2 e2
   exact h.s3 x y x1 e1 O O
  exact s x y O x2 x3
 exact S9
def sZ.right(h:sZ a0 b0 a b l c)(e:a<=q)(u:q<=b)(s:So q b c)(hx:∀x y,a<=x->x<q->q<=y->y<b->el c x<=el c y):sZ a0 b0 a q l c:=by
 have g:=h.h1;have t:=h.h3;refine⟨h.rg,g,e,O,h.s1,λx y x1 x2 x3=>?_,h.s3,λx y x1 x2 x3 x4=>?_,h.lw⟩
 ·by_cases e1:y<b
  ·exact s x y x1 x2 e1
  by_cases e2:x<b
  ·exact h.s4 x y O e2 O x3
  exact h.s2 x y O x2 x3
 exact S9
