import Derived.Test.YtlhomfgcibjccaaGreatDoorTH00
set_option linter.all false
set_option maxHeartbeats 8000000
set_option maxRecDepth 20000
section
open Go Go.LL Go.Conc Go.ConcM
namespace Go.Proofs.YtlhomfgcibjccaaGreatDoor
theorem TA:Tryz.pinned.checked.prog.funcNamed Rows.steamHandsRow.func=some 9:=U
theorem Db:(Rows.steamHandsRow.inPlace == Tryz.pinned.checked.prog.inPlace 9)=true:=U
theorem Dc:(Rows.steamHandsRow.unfollowed == Tryz.pinned.checked.prog.unfollowed 9)=true:=U
theorem Dd:(Rows.steamHandsRow.recurses == Tryz.pinned.checked.prog.recurses 9)=true:=U
theorem De:(Rows.steamHandsRow.named == Tryz.pinned.checked.prog.varsNamed 9)=true:=U
theorem Da:joinedFacts Tryz.pinned.checked.prog 9 Tryz.f9 Rows.steamHandsSpec Rows.steamHandsRow=true:=by unfold joinedFacts;exact bN (bN (bN (bN (bN (bN (bN (bN (bN (bN (bN (bN (bN (bN (bN (bN (bN (bN (bN (bN (bN (bN (bN (bN (bN (bN (bN (bN (bN (bN (bN U Kl) AJ) U) U) U) U) U) U) Db) Dc) Dd) De) U) U) U) U) U) U) U) U) U) U) U) vK) vL) U) U) U) U) U) U
theorem TB:Tryz.f9.isInstance Tryz.pinned.checked.prog Rows.steamHandsRow.origin Rows.steamHandsRow.targs:=of_decide_eq_true U
theorem TD:Tryz.f9.isWrapper Tryz.pinned.checked.prog Rows.steamHandsRow.wrapper Rows.steamHandsRow.mainSum:=by unfold Func.isWrapper;first | (rw[iO (by decide +kernel)];kernel_rfl) | (rw[bY (by decide +kernel)];exact⟨rfl,rfl⟩)
end Go.Proofs.YtlhomfgcibjccaaGreatDoor
end
open Go Go.LL
namespace Go.Proofs
theorem Cv{b:Sb}{ts:List N4}:(V7 b ts=0/\∀n,n<3->iJ (jO b n) ts=[])\/(1<=V7 b ts/\V7 b ts<=3/\iJ (jO b (V7 b ts-1)) ts≠[]/\∀n,n+1<V7 b ts->iJ (jO b n) ts=[]):=by
 have em:∀{l:List Nat},¬ l≠[]->l=[]:=λh=>oR h;by_cases h0:iJ (jO b 0) ts≠[]
 ·have e:V7 b ts=1:=iO h0;rw[e];exact .inr ⟨by decide,by decide,h0,λn hn=>O⟩
 by_cases h1:iJ (jO b 1) ts≠[]
 ·have e:V7 b ts=2:=by rw[V7,bY h0,iO h1]
  rw[e];refine .inr ⟨by decide,by decide,h1,λn hn=>?_⟩;obtain rfl:n=0:=O;exact em h0
 by_cases h2:iJ (jO b 2) ts≠[]
 ·have e:V7 b ts=3:=by rw[V7,bY h0,bY h1,iO h2]
  rw[e];refine .inr ⟨by decide,by decide,h2,λn hn=>?_⟩;have:n=0\/n=1:=O;rcases this with rfl | rfl
  ·exact em h0
  exact em h1
 have e:V7 b ts=0:=by rw[V7,bY h0,bY h1,bY h2]
 rw[e];refine .inl ⟨rfl,λn hn=>?_⟩;have:n=0\/n=1\/n=2:=O;rcases this with rfl | rfl | rfl
 ·exact em h0
 ·exact em h1
 exact em h2
theorem MT(b:Sb)(n:Nat):Zi (jO b n)=Zi b:=Xu rfl (λ_=>⟨rfl,rfl⟩) λ_=>rfl
def NJ(b:Sb):Nat:=if Zi b=[]then 0 else(iJ b (Zi b)).length
def JF(b:Sb):Nat:=if Zi b=[]then 0 else V7 b (Zi b)
section
variable{P:bF}[Tz P][Loud P]{H:Hp}{b:Sb}
theorem MR(jS:P=PP)(ok:fN b)(hb:Zs H b)(hg:Yl H)(fU:aD H ⟨1,0,none⟩ [vf 284]) :
  LL.Zc P 30 #[b.v] H λv H'=>bO H H'/\v=.tuple #[vi (NJ b:Nat),vi (bS b)]:=
 LL.Zc.mono (Xs jS hb ok.pJ hg fU) λv H' h=>by
  rw[lT ok,v7]at h;have e:((NJ b:Nat):Int)=if Zi b=[]then 0 else((iJ b (Zi b)).length:Int):=by unfold NJ;split<;>rfl
  rw[e];exact h
theorem Cr(jS:P=PP)(ok:fN b)(hb:Zs H b)(hg:Yl H)(fU:aD H ⟨1,0,none⟩ [vf 284]) :
  LL.Zc P 34 #[b.v] H λv H'=>bO H H'/\v=.tuple #[vi (JF b:Nat),vb (decide (JF b≠0)),vi (bS b)]:=
 LL.Zc.mono (Xr jS hb ok.pJ hg fU) λv H' h=>by
  have e:(if Zn b 0=0 then V7 b (Zi b)else 0)=JF b:=by rw[lT ok,v7];rfl
  have e2:decide (Zn b 0=0/\V7 b (Zi b)≠0)=decide (JF b≠0):=by
   refine qCC.2 ?_;rw[lT ok,Km,JF];split
   ·rename_i h;exact⟨λe=>absurd h e.1,λe=>absurd rfl e⟩
   rename_i h;exact⟨λe=>e.2,λe=>⟨h,e⟩⟩
  rw[e,e2,lT ok]at h;exact h
end
theorem CM{G:Prop} (h:G:=by
  refine Y ?_;refine Za (vs:=[b.v,vi ((f+1:Nat):Int)]) rfl (MQ f) ?_;rintro v _ ⟨rfl,rfl⟩;refine Y ?_;refine Za (vs:=[(jO b f).v]) rfl (MR jS okf (Kk (hb.bA i2) f) GB uU) ?_;rintro v H3 ⟨j3,rfl⟩;rw[MS,KG,e2,bY hz];refine Y ?_;refine OI (λh7=>?_) (λh7=>?_)
  ·refine Y ?_;refine Za (vs:=[]) rfl (eQ jS (aD.bA GB j3) (aD.bA uU j3)) ?_;rintro v H4 ⟨_,rfl⟩;refine Y ?_;rfl
  exact absurd h7 O):G:=h
theorem MS{b:Sb}{n:Nat}:bS (jO b n)=bS b:=by rw[bS,bS,MT]
theorem KG{b:Sb}{n:Nat}:NJ (jO b n)=if Zi b=[]then 0 else(iJ (jO b n) (Zi b)).length:=by rw[NJ,MT]
section
variable{P:bF}[Tz P][Loud P]{H:Hp}
theorem MQ{b:Sb}(n:Nat):LL.Zc P 49 #[b.v,vi ((n+1:Nat):Int)] H λv H'=>H=H'/\v=(jO b n).v:=by refine aO.m (cF Cu) (args:=[b.v,vi ((n+1:Nat):Int)]) rfl ?_;unfold GM Sb.v;refine Y ?_;exact⟨rfl,rfl⟩
theorem Cz(jS:P=PP){b:Sb}{m:Int}(hb:Zs H b)(hm:0<=m/\m<256)(hg:Yl H)(fU:aD H ⟨1,0,none⟩ [vf 284]) :
  FB.m P (FA P kN λv _=>v=vb true) (Vu [b.v,.int .u8 m]) H:=by
 unfold FB Sb.v;refine Y ?_;refine Za (vs:=[b.v]) rfl (vG hb) ?_;rintro v _ ⟨rfl,g,rfl,m7⟩;cases g with
 | false=>
  refine Y ?_;refine Za (vs:=[]) rfl (eQ jS hg fU) ?_;rintro v H1 ⟨_,rfl⟩;refine Y ?_;rfl
 | true=>
 have ok:=m7 rfl;refine Y ?_;refine Za (vs:=[b.v]) rfl (Cr jS ok hb hg fU) ?_;rintro v H1 ⟨i1,rfl⟩;refine Y ?_;refine Vr (dC Tryz.underlying5) (dC Tryz.underlying3) rfl ?_;rw[Uk (show wC m from⟨O,O⟩)];refine Y ?_;refine AB rfl rfl O ?_;obtain⟨k,hk,ek⟩:=rY (n:=3) hm.1 O;have ek:m.tmod 3=k:=ek;rw[ek];have okk:=WP ok hk;have e1:(1:Int)+(k:Int)=((k+1:Nat):Int):=O;refine Y ?_;rw[e1];refine Za (vs:=[b.v,vi ((k+1:Nat):Int)]) rfl (MQ k) ?_;rintro v _ ⟨rfl,rfl⟩;refine Y ?_;refine Za (vs:=[(jO b k).v]) rfl (MR jS okk (Kk (hb.bA i1) k) (aD.bA hg i1) (aD.bA fU i1)) ?_;rintro v H2 ⟨j2,rfl⟩;have i2:=i1.trans j2;have GB:=aD.bA hg i2;have uU:=aD.bA fU i2;rw[MS,KG];refine Y ?_;refine OI (λh1=>?_) (λh1=>?_)
 ·exact absurd rfl h1
 refine Y ?_;by_cases hz:Zi b=[]
 ·have e2:bS b=9:=iO hz;have e3:JF b=0:=iO hz;rw[e2,e3];refine Y ?_;refine Za (vs:=[]) rfl (eQ jS GB uU) ?_;rintro v H3 ⟨_,rfl⟩;refine Y ?_;rfl
 have e2:bS b=0:=CG hz;have e3:JF b=V7 b (Zi b):=bY hz;rw[e2,e3,bY hz];rcases Cv (b:=b) (ts:=Zi b)with⟨h2,h3⟩ | ⟨h2,h3,h4,h5⟩
 ·have e4:(iJ (jO b k) (Zi b)).length=0:=by rw[h3 k hk];rfl
  rw[h2,e4];refine Y ?_;refine Za (vs:=[]) rfl (eQ jS GB uU) ?_;rintro v H3 ⟨_,rfl⟩;refine Y ?_;rfl
 obtain⟨f,hf⟩:∃f,V7 b (Zi b)=f+1:=⟨V7 b (Zi b)-1,O⟩;rw[hf]at h2 h3 h4 h5 ⊢;rw[qBb]at h4;rw[decide_eq_true (show f+1≠0 by omega)];refine Y ?_;refine Za (vs:=[vi ((f+1:Nat):Int),vi 1,vi 3]) rfl (E9 _ _ _) ?_;rintro v _ ⟨rfl,rfl⟩;rw[decide_eq_true (show(1:Int)<=((f+1:Nat):Int)/\((f+1:Nat):Int)<=3 by omega)];have okf:=WP ok (n:=f) O;have pos:=qBM.2 h4;have gL:∀{σ:aN},True:=λ{_}=>trivial;refine Y ?_;refine OI (λh6=>?_) (λh6=>?_)
 ·have e4:(iJ (jO b k) (Zi b)).length=0:=by rw[h5 k O];rfl
  rw[e4];exact CM
 exact CM
end
