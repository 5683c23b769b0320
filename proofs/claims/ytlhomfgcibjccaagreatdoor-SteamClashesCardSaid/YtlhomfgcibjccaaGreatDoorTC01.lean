import Derived.Test.YtlhomfgcibjccaaGreatDoorTC00
set_option linter.all false
set_option maxHeartbeats 8000000
set_option maxRecDepth 20000
section
open Go Go.LL Go.Conc Go.ConcM
namespace Go.Proofs.YtlhomfgcibjccaaGreatDoor
theorem WaE:Tryz.pinned.checked.prog.funcNamed Rows.steamClashesRow.func=some 11:=U
theorem WaC:(Rows.steamClashesRow.inPlace == Tryz.pinned.checked.prog.inPlace 11)=true:=U
theorem Qz:(Rows.steamClashesRow.unfollowed == Tryz.pinned.checked.prog.unfollowed 11)=true:=U
theorem WaA:(Rows.steamClashesRow.recurses == Tryz.pinned.checked.prog.recurses 11)=true:=U
theorem Waz:(Rows.steamClashesRow.named == Tryz.pinned.checked.prog.varsNamed 11)=true:=U
theorem WaD:joinedFacts Tryz.pinned.checked.prog 11 Tryz.f11 Rows.steamClashesSpec Rows.steamClashesRow=true:=by unfold joinedFacts;exact bN (bN (bN (bN (bN (bN (bN (bN (bN (bN (bN (bN (bN (bN (bN (bN (bN (bN (bN (bN (bN (bN (bN (bN (bN (bN (bN (bN (bN (bN (bN U Kl) AJ) U) U) U) U) U) U) WaC) Qz) WaA) Waz) U) U) U) U) U) U) U) U) U) U) U) vK) vL) U) U) U) U) U) U
theorem Cr:Tryz.f11.isInstance Tryz.pinned.checked.prog Rows.steamClashesRow.origin Rows.steamClashesRow.targs:=of_decide_eq_true U
theorem Cs:Tryz.f11.isWrapper Tryz.pinned.checked.prog Rows.steamClashesRow.wrapper Rows.steamClashesRow.mainSum:=by unfold Func.isWrapper;first | (rw[iO (by decide +kernel)];kernel_rfl) | (rw[bY (by decide +kernel)];exact⟨rfl,rfl⟩)
end Go.Proofs.YtlhomfgcibjccaaGreatDoor
end
open Go Go.LL
namespace Go.Proofs
section
variable{a:List Int}{c m:Nat}{α:Type}{A:Option Addr}{u w lv:Value}
theorem WaW{x y:Int}{c:List Int}:VI (x :: a) (y :: c)<0↔x<y\/(x=y/\VI a c<0):=by
 rw[VI,YL];by_cases d:x<y
 ·simp[d]
 by_cases e:y<x
 ·simp[d,e];omega
 have:x=y:=O;simp[this]
theorem Wa8(m n:Nat):TH n (YJ m n):=by
 refine⟨?_,λz e=>?_⟩
 ·rw[YJ,qCX];refine List.Pairwise.imp (λh=>?_) ((List.pairwise_lt_range (n:=n)).sublist (List.filter_sublist (p:=λi=>m.testBit i)));omega
 obtain⟨i,d,rfl⟩:=qAX.1 e;have:=(qAF.1 d).1;rw[qAq]at this;omega
def Wbh(v:Value):Prop:=∃A n c,v=.slice A n c/\n<=c
theorem WaI[Enc α]{H:Hp}{n i:Nat}{l:List α}(h:aV H (.slice A n c) l)(k:i<=l.length):aV H (.slice (if c=0 then A else A.map (·.add (0 * Enc.sz α))) (i-0) (c-0)) (l.take i):=by
 obtain⟨o,p,e,j⟩:=h;simp only[Value.slice.injEq]at e;obtain⟨rfl,rfl,rfl⟩:=e;refine⟨_,_,by rw[qBm,qCi k,qBg],λd=>?_⟩;obtain⟨a,rfl,f⟩:=j (by rintro rfl;simp at d);have g:Zb l=Zb (l.take i)++Zb (l.drop i):=by rw[<-LJ,List.take_append_drop]
 rw[g]at f;refine⟨a,?_,YM f⟩;split
 ·rfl
 rw[qCm,qBa,add_zero]
theorem WaJ[Enc α]{H:Hp}{n i:Nat}{l:List α}(h:aV H (.slice A n c) l)(s:n<=c)(hi:i<=l.length):aV H (.slice (if c=i then A else A.map (·.add (i * Enc.sz α))) (n-i) (c-i)) (l.drop i):=by
 obtain⟨q,r,e,p⟩:=h;simp only[Value.slice.injEq]at e;obtain⟨rfl,rfl,rfl⟩:=e;refine⟨_,_,by rw[List.length_drop],λg=>?_⟩;have f:i<l.length:=by
  rcases qAH i l.length with h | h
  ·exact h
  exact absurd (qBr h) g
 obtain⟨a,rfl,d⟩:=p (by rintro rfl;simp at f);have k:Zb l=Zb (l.take i)++Zb (l.drop i):=by rw[<-LJ,List.take_append_drop]
 have o:(Zb (l.take i)).length=i * Enc.sz α:=by rw[VG,qBm,qCi hi]
 rw[bY O];refine⟨_,rfl,CL (n:=i * Enc.sz α) d ?_⟩;rw[k,qDf,qBr O,o];simp
theorem Wa4{n:Nat}{l:List Int}(h:TH n l){j:Nat}(d:j<l.length):0<=l[j]/\l[j]<n:=h.2 _ (IN d)
section
variable{P:bF}[Tz P][Loud P]{H:Hp}
theorem Wbi{b:List Int}(k:aV H u a)(hb:aV H w b)(z:a.length<=1000000)(x:b.length<=1000000):LL.Zc P 48 #[u,w] H λv g=>H=g/\v=vb (decide (VI a b<0)):=by
 refine aO.m (cF Wa0) (args:=[u,w]) rfl ?_;unfold Cy;refine Y ?_;refine Zw a.length (λj g=>H=g/\j<=b.length/\VI a b=VI (a.drop j) (b.drop j)) (λj=>[(0,u),(1,w),(5,vi j)]) (λ_=>[]) ⟨rfl,qAR _,rfl⟩ V trivial ?_;rintro j _ y ⟨rfl,t,d⟩;refine Y ?_;refine YD k rfl (Y ?_);refine OI (λo=>?_) (λo=>?_)
 ·have e:j<a.length:=O;rw[JZ e]at d;refine Y ?_;refine YD hb rfl (Y ?_);refine OI (λr=>?_) (λr=>?_)
  ·have f:j<b.length:=O;rw[JZ f]at d;refine Y ?_;refine Zx k rfl rfl rfl (i:=j) e λp l=>Y ?_;refine Zg (OL _) rfl l (Y ?_);refine Zx hb rfl rfl rfl (i:=j) f λq n=>Y ?_;refine Zg (OL _) rfl n (Y ?_);refine OI (λs=>?_) (λs=>?_)
   ·refine Y ?_;refine Zx k rfl rfl rfl (i:=j) e λp l=>Y ?_;refine Zg (OL _) rfl l (Y ?_);refine Zx hb rfl rfl rfl (i:=j) f λq n=>Y ?_;refine Zg (OL _) rfl n (Y ?_);refine⟨rfl,?_⟩;rw[d];refine qAC vb (qCC.2 ?_);rw[WaW];omega
   refine Y ?_;refine FB (I:=λj g=>H=g/\j<=b.length/\VI a b=VI (a.drop j) (b.drop j)) (env:=λj=>[(0,u),(1,w),(5,vi j)]) (box:=λ_=>[]) e ⟨rfl,f,?_⟩ V trivial rfl;rw[d,VI,YL,bY (by rw[bY O,bY O];decide)]
  refine Y ?_;refine YD k rfl (Y ?_);refine YD hb rfl (Y ?_);refine⟨rfl,?_⟩;rw[qBr (show b.length<=j by omega)]at d;rw[d];refine qAC vb (qCC.2 ?_);rw[VI];omega
 have:j=a.length:=O;subst this;rw[qDe]at d;refine Y ?_;refine YD k rfl (Y ?_);refine YD hb rfl (Y ?_);refine⟨rfl,?_⟩;rw[d];refine qAC vb (qCC.2 ?_);rcases qAH a.length b.length with h | h
 ·rw[JZ h,VI];omega
 rw[qBr h,VI];omega
theorem Wbf{b:List Int}(d:aV H u a)(hb:aV H w b)(i:a.length<=1000000)(e:b.length<=1000000):LL.Zc P 58 #[u,w] H λv f=>H=f/\v=vb (GM a b):=by
 refine aO.m (cF c71) (args:=[u,w]) rfl ?_;unfold n71;refine Y ?_;refine YD d rfl (Y ?_);refine YD hb rfl (Y ?_);refine OI (λg=>?_) (λg=>?_)
 ·refine Y ?_;exact⟨rfl,by rw[GM,decide_eq_true (show a.length<b.length by omega)];rfl⟩
 refine Y ?_;refine YD d rfl (Y ?_);refine YD hb rfl (Y ?_);refine OI (λh=>?_) (λh=>?_)
 ·refine Y ?_;refine Za (vs:=[u,w]) rfl (Wbi d hb i e) ?_;rintro v _ ⟨rfl,rfl⟩;refine Y ?_;exact⟨rfl,by rw[GM,qAZ (show ¬ a.length<b.length by omega),decide_eq_true (show a.length=b.length by omega)];rfl⟩
 refine Y ?_;exact⟨rfl,by rw[GM,qAZ (show ¬ a.length<b.length by omega),qAZ (show ¬ a.length=b.length by omega)];rfl⟩
theorem Wbd{l:List Int}{n:Nat}(g:aV H lv l)(k:TH n l)(y:n<=1000000)(r:l.length<=1000000):LL.Zc P 55 #[lv,vi n] H λv e=>H=e/\v=vi 0:=by
 refine aO.m (cF c68) (args:=[lv,vi n]) rfl ?_;unfold Rx;refine Y ?_;refine Zw l.length (λj e=>H=e) (λj=>[(0,lv),(1,vi n),(5,vi j)]) (λ_=>[]) rfl V trivial ?_;rintro j _ x rfl;refine Y ?_;refine YD g rfl (Y ?_);refine OI (λp=>?_) (λp=>?_)
 ·have d:j<l.length:=O;have z:=Wa4 k d;refine Y ?_;refine Zx g rfl rfl rfl (i:=j) d λa f=>Y ?_;refine Zg (OL _) rfl f (Y ?_);refine Za (vs:=[vi l[j],vi 0,vi (n-1)]) rfl (E9 _ _ _) ?_;rintro v _ ⟨rfl,rfl⟩;rw[decide_eq_true (show(0:Int)<=l[j]/\l[j]<=(n:Int)-1 from⟨O,O⟩)];refine Y ?_;refine OI (λq=>?_) (λq=>?_)
  ·obtain⟨t,rfl⟩:∃t,j=t+1:=⟨j-1,O⟩;have o:((t+1:Nat):Int)-1=(t:Int):=O;have s:=qBK.1 k.1 t (t+1) O d O;refine Y ?_;refine Zx g rfl rfl rfl (i:=t+1) d λa f=>Y ?_;refine Zg (OL _) rfl f (Y ?_);rw[o];refine Zx g rfl rfl rfl (i:=t) O λa f=>Y ?_;refine Zg (OL _) rfl f (Y ?_);refine OI (λh=>?_) (λh=>?_)
   ·exact absurd h O
   refine Y ?_;exact FB (I:=λj e=>H=e) (env:=λj=>[(0,lv),(1,vi n),(5,vi j)]) (box:=λ_=>[]) d rfl V trivial rfl
  refine Y ?_;exact FB (I:=λj e=>H=e) (env:=λj=>[(0,lv),(1,vi n),(5,vi j)]) (box:=λ_=>[]) d rfl V trivial rfl
 refine Y ?_;exact⟨rfl,rfl⟩
theorem Wbc{l:List Int}{i:Nat}(j:aV H lv l)(d:Wbh lv)(hi:i<l.length)(x:l.length<=1000000):LL.Zc P 57 #[lv,vi i] H λv o=>bO H o/\∃s,fZ H o 3 v (l.take i++l.drop (i+1)) s:=by
 obtain⟨A,n,c,rfl,d⟩:=d;have y:n=l.length:=by obtain⟨_,_,e,_⟩:=id j;simp only[Value.slice.injEq]at e;exact e.2.1
 refine aO.m (cF c70) (args:=[.slice A n c,vi i]) rfl ?_;unfold n70;have s1:=WaI j (i:=i) O;have s2:=WaJ j d (i:=i+1) O;have t:(i:Int)+1=((i+1:Nat):Int):=O;refine Y ?_;refine Ls (k:=.i64) (lo:=0) (hi:=i) (dC oO) (eI t3) rfl (.inl ⟨rfl,rfl⟩) ⟨_,rfl,rfl⟩ (qAR _) O (Y ?_);rw[t];refine ZiD (lo:=i+1) (dC oO) (eI t3) rfl rfl O (Y ?_);refine RF (dC oO) (eI t3) (OL _) λh f=>?_;have B:fZ H (H.ins h (.cells #[] 3)) 3 (.slice (some ⟨h,0,none⟩) 0 0) ([]:List Int) (some h):=WaP f;have p:bO H (H.ins h (.cells #[] 3)):=Zt f;generalize H.ins h (.cells #[] 3)=D at *;refine Zq OL (Y ?_);refine Oa (l':=l.take i) (dC oO) (dC oO) (eI t3) rfl (by decide) p B (s1.bA p) (ZuA _) (by simp;omega) O rfl rfl (OL _) λJ E G q r _=>?_;rw[qAx]at r;refine Zq OL (Y ?_);refine Oa (l':=l.drop (i+1)) (dC oO) (dC oO) (eI t3) rfl (by decide) q r (s2.bA q) (ZuA _) (by simp;omega) O rfl rfl (OL _) λK F I z C _=>Y ?_;exact⟨z,_,C⟩
end
theorem WaK{j:Nat}(d:j<=8):ZB .shr .u8 (m:Int) (j:Int)=.int .u8 ((m / 2 ^ j:Nat):Int):=by show Value.int .u8 (Int.fdiv (m:Int) (2 ^ min (j:Int).toNat 8))=_;have e:min (j:Int).toNat 8=j:=O;rw[e];congr 1;rw[qBI _ (by exact Int.le_of_lt (Int.pow_pos (by decide)))];simp
theorem Wa7{x:Nat}(g:x<256):ZB .and .u8 (x:Int) 1=.int .u8 ((x % 2:Nat):Int):=by
 have d:(BitVec.ofInt 8 (x:Nat)).toNat=x:=by simp[qCp];omega
 have e:(BitVec.ofInt 8 (1:Int)).toNat=1:=rfl;have f:(BitVec.ofInt 8 (x:Nat) &&& BitVec.ofInt 8 1).toNat=x % 2:=by rw[qCd,d,e,Nat.and_one_is_mod]
 show Value.int .u8 (IntKind.u8.wrap ((BitVec.ofInt 8 (x:Nat) &&& BitVec.ofInt 8 1).toNat:Nat))=_;rw[f];have:x % 2=0\/x % 2=1:=O;rcases this with h | h<;>rw[h]<;>rfl
def kN:Nat->List (List Int)
 | 0=>[[]]
 | i+1=>kN i++(kN i).map (·++[(i:Int)])
theorem MS:∀{n:Nat} {l:List Int},l∈kN n↔TH n l
 | 0,l=>by
  rw[kN,DO];constructor
  ·rintro rfl;exact⟨.nil,by simp⟩
  intro⟨_,h⟩;exact List.eq_nil_iff_forall_not_mem.2 λz f=>by have:=h z f;omega
 | n+1,l=>by
  have ih:=λl=>MS (n:=n) (l:=l);rw[kN,qAS,ih,qAX];constructor
  ·rintro(h | ⟨a,g,rfl⟩)
   ·exact⟨h.1,λz f=>by have:=h.2 z f;omega⟩
   have g:=(ih a).1 g;refine⟨List.pairwise_append.2 ⟨g.1,List.pairwise_singleton _ _,λy d z f=>?_⟩,λz f=>?_⟩
   ·rw[DO.1 f];exact(g.2 y d).2
   rcases qAS.1 f with f | f
   ·have:=g.2 z f;omega
   rw[DO.1 f];omega
  intro⟨o,i⟩;rcases List.eq_nil_or_concat l with rfl | ⟨j,z,rfl⟩
  ·exact .inl ⟨.nil,by simp⟩
  rw[List.concat_eq_append]at *;rw[List.pairwise_append]at o;obtain⟨k,_,a3⟩:=o;have f:=i z (by simp);have p:∀y∈j,y<z:=λy d=>a3 y d z (by simp);by_cases e:z=n
  ·refine .inr ⟨j,(ih j).2 ⟨k,λy d=>⟨(i y (by simp[d])).1,by have:=p y d;omega⟩⟩,by rw[e]⟩
  refine .inl ⟨List.pairwise_append.2 ⟨k,List.pairwise_singleton _ _,a3⟩,λy d=>?_⟩;have:=i y d;rcases qAS.1 d with d | d
  ·have:=p y d;omega
  rw[DO.1 d];omega
theorem Da{α:Type}{f:Int->List α}{d:Int}{x:α}:∀{c:Nat},x∈rZ f d c↔∃v,d-c<v/\v<=d/\x∈f v
 | 0=>by
  rw[rZ];constructor
  ·intro h;simp at h
  rintro⟨v,j,g,_⟩;omega
 | c+1=>by
  rw[rZ,qAS,Da];constructor
  ·rintro(h | ⟨v,j,g,i⟩)
   ·exact⟨d-c,O,O,h⟩
   exact⟨v,O,g,i⟩
  rintro⟨v,j,g,i⟩;by_cases e:v=d-c
  ·subst e;exact .inl i
  exact .inr ⟨v,O,g,i⟩
theorem MQ{b:Sb}:∀{r:Nat} {m x:N4},r<=b.pk.length->b.pk.length<=4->(x∈dS b r m↔(∀j,j<4->(j<b.pk.length-r\/b.pk.length<=j)->x.get j=m.get j)/\(∀j,b.pk.length-r<=j->j<b.pk.length->(aZ b j).lo<=x.get j/\x.get j<=(aZ b j).hi)/\fE b x=true)
 | 0,m,x,_,_=>by
  rw[dS];constructor
  ·intro h;split at h
   ·obtain rfl:=DO.1 h;exact⟨λ_ _ _=>rfl,λj l o=>O,by assumption⟩
   simp at h
  rintro⟨l,_,p⟩;have:x=m:=N4.ext' λj d=>l j d O;subst this;rw[iO p];simp
 | r+1,m,x,B,t=>by
  rw[dS,Da];obtain⟨i,s⟩:∃i,b.pk.length-(r+1)=i:=⟨_,rfl⟩;rw[s];constructor
  ·rintro⟨v,l,o,p⟩;obtain⟨g,k,n⟩:=(MQ O t).1 p;refine⟨λj d y=>?_,λj z q=>?_,n⟩
   ·rw[g j d O,N4.fA _ _ d,bY O]
   by_cases e:j=i
   ·subst e;have:=g j O O;rw[N4.fA _ _ O,iO rfl]at this;omega
   exact k j O q
  rintro⟨g,k,n⟩;have:=k i O O;refine⟨x.get i,O,O,(MQ O t).2 ⟨λj d y=>?_,λj l o=>k j O o,n⟩⟩;rw[N4.fA _ _ d];split
  ·rename_i e;rw[e]
  exact g j d O
theorem Dc(j:Nat)(d:j<4):(⟨0,0,0,0⟩:N4).get j=0:=by
 match j,d with
 | 0,_=>rfl
 | 1,_=>rfl
 | 2,_=>rfl
 | 3,_=>rfl
def Wbe(b:Sb)(x:N4):Prop:=(∀j,j<b.pk.length->(aZ b j).lo<=x.get j/\x.get j<=(aZ b j).hi)/\∀j,j<4->b.pk.length<=j->x.get j=0
theorem WaL{b:Sb}(i:b.pk.length<=4){x:N4}:x∈Zi b↔Wbe b x/\fE b x=true:=by
 rw[Zi,MQ (aC _) i,qCG];constructor
 ·rintro⟨e,f,g⟩;exact⟨⟨λj d=>f j (qAR _) d,λj d h=>by rw[e j d (.inr h),Dc j d]⟩,g⟩
 rintro⟨⟨e,f⟩,g⟩;exact⟨λj d h=>by rw[f j d O,Dc j d],λj _ d=>e j d,g⟩
theorem WaO{b:Sb}(ok:fN b){i:Nat}(h:i<b.pk.length):(1<=(aZ b i).lo/\(aZ b i).lo<=(aZ b i).hi/\(aZ b i).hi<=20)/\(aZ b i).hi-(aZ b i).lo<3/\(1<=(aZ b i).fK/\(aZ b i).fK<=20)/\(1<=(aZ b i).fW/\(aZ b i).fW<=20):=by rw[aZ,ZA h];exact ok.pk i h
theorem WaR(m n:Nat):UQ (m % 2 ^ n) n=UQ m n:=by rw[UQ,UQ];refine List.filter_congr λi d=>?_;rw[qCy,decide_eq_true (qAq.1 d),Bool.true_and]
theorem Wa9(m n:Nat):YJ (m % 2 ^ n) n=YJ m n:=by rw[YJ,WaR];rfl
def bnL(b:Sb)(l:List Int):List N4:=Zi { b with nt:=l.map λz=>MN b z.toNat }
theorem Wa3(b:Sb)(m:Nat):bnL b (YJ m b.nt.length)=Zi { b with nt:=Y8 b m b.nt.length }:=by
 have:(YJ m b.nt.length).map (λz=>MN b z.toNat)=Y8 b m b.nt.length:=by rw[YJ,Y8,List.map_map];rfl
 rw[bnL,this]
theorem De(b:Sb)(m:Nat):UM b m=true↔bnL b (YJ m b.nt.length)=[]:=by rw[UM,Wa3,List.isEmpty_iff]
theorem KG{b:Sb}(v:b.nt.length<=3)(h:Zi b=[]):∃m,m<2 ^ b.nt.length/\Zm5 b=YJ m b.nt.length/\UM b m=true/\∀k,k<2 ^ b.nt.length->UM b k=true->yP (xK m)<=yP (xK k):=by
 have p:=Zun h;have d:=RU (l:=(Z1 b).map yP) (by simpa using p);rw[qAs]at d;have t:RN b∈Z1 b:=by rw[RN,el,ZA d];exact IN d
 obtain⟨m,o,f⟩:=qAX.1 t;obtain⟨g,r⟩:=qAF.1 o;have g:=qAq.1 g;refine⟨m,g,by rw[Zm5,<-f,ZpS v g],r,λk s x=>?_⟩;have n:xK k∈Z1 b:=qAX.2 ⟨k,qAF.2 ⟨qAq.2 s,x⟩,rfl⟩;obtain⟨j,i,e⟩:=qAJ.1 n;have:=Zmk (l:=(Z1 b).map yP) (j:=j) (by simpa using i);have q:el (Z1 b) j=xK k:=by rw[el,ZA i];exact e
 rw[LI d,LI i,q]at this;rw[f];exact this
theorem Wa5:(∀l∈kN 0,∃m∈List.range 1,YJ m 0=l)/\(∀l∈kN 1,∃m∈List.range 2,YJ m 1=l)/\(∀l∈kN 2,∃m∈List.range 4,YJ m 2=l)/\(∀l∈kN 3,∃m∈List.range 8,YJ m 3=l):=by decide +kernel
theorem Wa6{n:Nat}{l:List Int}(o:n<=3)(h:TH n l):∃m,m<2 ^ n/\YJ m n=l:=by
 obtain⟨g,i,j,k⟩:=Wa5;have f:=MS.2 h;have:n=0\/n=1\/n=2\/n=3:=O;rcases this with rfl | rfl | rfl | rfl
 ·obtain⟨m,d,e⟩:=g l f;exact⟨m,qAq.1 d,e⟩
 ·obtain⟨m,d,e⟩:=i l f;exact⟨m,qAq.1 d,e⟩
 ·obtain⟨m,d,e⟩:=j l f;exact⟨m,qAq.1 d,e⟩
 obtain⟨m,d,e⟩:=k l f;exact⟨m,qAq.1 d,e⟩
theorem Wba:((List.range 4).all λn=>(List.range (2 ^ n)).all λm=>(kN n).contains (YJ m n))=true:=by decide +kernel
theorem Wbb{n:Nat}(d:n<=3):TH n (YJ m n):=by rw[<-Wa9];have h:=qAg.1 (qAg.1 Wba n (qAq.2 O)) (m % 2 ^ n) (qAq.2 (qCW _ (Nat.two_pow_pos n)));exact MS.1 (by simpa using h)
theorem WaT{b:Sb}(ok:fN b):Zi { b with nt:=[] }≠[]:=by
 have k:=ok.n;have:Ys (b.pk.map (·.lo))∈Zi { b with nt:=[] }:=by
  refine(WaL (b:={ b with nt:=[] }) k.2).2 ⟨⟨λj d=>?_,λj d g=>?_⟩,rfl⟩
  ·have d:j<b.pk.length:=d;have i:=(WaO ok d).1;rw[n4g O,ZA (by simpa using d),qBs];have e:aZ { b with nt:=[] } j=b.pk[j]:=ZA d _;have h:aZ b j=b.pk[j]:=ZA d _;rw[e];rw[h]at i;omega
  have g:b.pk.length<=j:=g;rw[n4g d,qAo,qAY (by simpa using g)];rfl
 intro e;rw[e]at this;simp at this
theorem WaZ{b:Sb}(ok:fN b)(h:Zi b=[]):Zm5 b≠[]:=by obtain⟨m,_,f,d,_⟩:=KG ok.nn h;intro e;rw[De,<-f,e]at d;exact WaT ok d
theorem Dd{b:Sb}(ok:fN b)(h:Zi b=[]):TH b.nt.length (Zm5 b):=by obtain⟨m,_,d,_⟩:=KG ok.nn h;rw[d];exact Wbb ok.nn
theorem WaX{b:Sb}(ok:fN b)(h:Zi b=[]):bnL b (Zm5 b)=[]:=by obtain⟨m,_,d,e,_⟩:=KG ok.nn h;rw[d];exact(De b m).1 e
theorem Cu{b:Sb}(ok:fN b)(h:Zi b=[]){l:List Int}(p:TH b.nt.length l)(q:bnL b l=[]):GM l (Zm5 b)=false:=by
 have d:=ok.nn;obtain⟨m,j,n,x,o⟩:=KG ok.nn h;obtain⟨k,i,e⟩:=Wa6 ok.nn p;have y:=o k i ((De b k).2 (by rw[e];exact q));have r:=ZpR m;have s:=ZpR k;have f:=ZpW s r;rw[ZpS d i,ZpS d j]at f;have t:yP (xK m)=(Zm5 b).length * 8+xK m:=by rw[yP,ZpS d j,n]
 have v:yP (xK k)=l.length * 8+xK k:=by rw[yP,ZpS d i,e]
 rw[n]at *;rw[e]at f;unfold GM;rw[f];have g:YL (xK k) (xK m)<0↔xK k<xK m:=by
  unfold YL;split
  ·omega
  split<;>omega
 rw[Bool.or_eq_false_iff,Bool.and_eq_false_iff,qBQ,qBQ,qBQ,g];omega
theorem Db{n:Nat}{l:List Int}(h:TH n l)(i:Nat):TH n (l.take i++l.drop (i+1)):=by
 have d:(l.take i++l.drop (i+1)).Sublist l:=by
  conv=>rhs;rw[<-List.take_append_drop i l]
  exact(List.Sublist.refl _).append (by rw[show i+1=i+1 from rfl,<-List.drop_drop];exact List.drop_sublist _ _)
 exact⟨h.1.sublist d,λz e=>h.2 z (d.subset e)⟩
theorem WaY{b:Sb}(ok:fN b)(h:Zi b=[]){i:Nat}(d:i<(Zm5 b).length):bnL b ((Zm5 b).take i++(Zm5 b).drop (i+1))≠[]:=by intro e;have:=Cu ok h (Db (Dd ok h) i) e;rw[GM,Bool.or_eq_false_iff,qBQ]at this;exact this.1 (by rw[qAc,qBm,List.length_drop];omega)
def clL(b:Sb):List Int:=if Zi b=[]then Zm5 b else[]
section
variable{P:bF}[Tz P][Loud P]{H:Hp}{b:Sb}
theorem MT(ok:fN b)(hb:Zs H b)(e:Yl H):LL.Zc P 19 #[b.v] H λv d=>bO H d/\v=.tuple #[vi (Zi b).length,vi 0]:=
 LL.Zc.mono (Kn hb ok.pJ e) λv d h=>by rw[iO (RE ok),RE ok]at h;exact h
theorem Wbg(ok:fN b)(hb:Zs H b)(f:Yl H):LL.Zc P 54 #[b.v] H λv d=>bO H d/\∃A c,v=.tuple #[.slice A (clL b).length c,vi 0]/\(clL b).length<=c/\aV d (.slice A (clL b).length c) (clL b):=
 LL.Zc.mono (ZpC hb ok.pJ f) λv d h=>by
  have e:VT b=clL b:=by
   unfold VT clL;by_cases h:Zi b=[]
   ·rw[iO ⟨RE ok,h⟩,iO h]
   rw[bY (λe=>h e.2),bY h]
  rw[e,RE ok]at h;exact h
end
end
def CM(b:Sb)(l:List Int)(A:Option Addr)(c:Nat):Sb:={ b with nt:=l.map λz=>MN b z.toNat,A2:=A,c2:=c }
theorem TB{b:Sb}{l:List Int}{A:Option Addr}{c:Nat}:Zi (CM b l A c)=bnL b l:=Ko rfl rfl
theorem TD{b:Sb}(ok:fN b){l:List Int}(h:TH b.nt.length l)(A:Option Addr)(c:Nat):fN (CM b l A c):=by
 have d:=Zyn (lo:=0) (k:=b.nt.length) h.1 λz hz=>by have:=h.2 z hz;omega
 refine⟨ok.pl,ok.hd,ok.td,ok.n,ok.pk,ok.nm,?_,λx e=>?_⟩
 ·show(l.map _).length<=3;rw[qAs];exact qAT d ok.nn
 obtain⟨z,hz,rfl⟩:=qAX.1 e;have:=h.2 z hz;rw[MN,ZA (show z.toNat<b.nt.length by omega)];exact ok.nt _ (IN _)
theorem WaH{b:Sb}{l:List Int}{j:Nat}(d:j<l.length):(l.take (j+1)).map (λz=>MN b z.toNat)=(l.take j).map (λz=>MN b z.toNat)++[MN b l[j].toNat]:=by rw[qAd d,List.map_append];rfl
section
variable{P:bF}[Tz P][Loud P]{H:Hp}
theorem MR{b:Sb}{l:List Int}{lv:Value}(hb:Zs H b)(I:aV H lv l)(h:TH b.nt.length l)(Z:b.nt.length<=60) :
  LL.Zc P 56 #[b.v,lv] H λv g=>bO H g/\∃A c,v=(CM b l A c).v/\Zs g (CM b l A c):=by
 have J:=Zyn (lo:=0) (k:=b.nt.length) h.1 λz hz=>by have:=h.2 z hz;omega
 obtain⟨F,c0,rfl,_⟩:=id I;refine aO.m (cF Wa1) (args:=[b.v,.slice F l.length c0]) rfl ?_;unfold Cw Sb.v;refine Y ?_;refine ZQ (α:=(Option Addr×Nat)×Option Nat) l.length (λj s g=>bO H g/\fZ H g 85 (.slice s.1.1 ((l.take j).map λz=>MN b z.toNat).length s.1.2) ((l.take j).map λz=>MN b z.toNat) s.2)
  (λj s=>[(1,.slice F l.length c0),(2,vi 0),(4,vi 0),(5,vi 0),(6,vi j)])
  (λj s=>[(2,b.cs),(4,[vi 0,vi 0,vi 0,.slice none 0 0,.slice none 0 0]),(5,[vi b.pl,vi b.hd,vi b.td,.slice b.A1 b.pk.length b.c1,.slice s.1.1 ((l.take j).map λz=>MN b z.toNat).length s.1.2])])
  ((none,0),none) ⟨.refl H,.nil H H 85⟩ V V ?_
 rintro j ⟨⟨K,L⟩,W⟩ U X ⟨f,r⟩;simp only at r;refine Y ?_;refine OI (λM=>?_) (λM=>?_)
 ·have e:j<l.length:=O;have hz:=h.2 _ (IN e);have p:=WaH (b:=b) e;obtain⟨i,D⟩:∃i:Nat,l[j]=i:=⟨l[j].toNat,O⟩;have n:i<b.nt.length:=O;have N:((l.take j).map λz=>MN b z.toNat).length<=j:=by rw[qAs,qBm];omega
  rw[D,qAA,MN,ZA n]at p;refine Y ?_;refine Zx (I.bA f) rfl rfl rfl (i:=j) e λa t=>?_;rw[D]at t;refine Y ?_;refine Zg (v:=vi (i:Int)) (OL _) rfl t (Y ?_);refine Zx (hb.nt.bA f) rfl rfl rfl (i:=i) n λa t=>Y ?_;refine Zl (OL _) rfl t rfl (Y ?_);refine Z0 (cs:=[.slice b.nt[i].A b.nt[i].ps.length b.nt[i].c,vi b.nt[i].lo,vi b.nt[i].hi]) (OL _) rfl λr2 o=>?_;refine Zq OL (Y ?_);refine Oa (l':=[b.nt[i]]) (dC yI) (dC yI) (eI MU) rfl (by decide) (f.trans (Zt o)) (r.ins o) ZoW rfl (by simp only[List.length_singleton];omega) O rfl rfl (OL _) λT H3 B R E k6=>?_;rw[<-p]at E;obtain⟨y,C,rfl,_⟩:=id E.sl;refine Y ?_;exact⟨(⟨j+1,O⟩,((y,C),B)),dX O,⟨R,E⟩,V,V,rfl⟩
 have:j=l.length:=O;subst this;rw[qAw]at r ⊢;obtain⟨_,_,G,S⟩:=L5 r;simp only[Value.slice.injEq]at G;obtain⟨_,_,rfl⟩:=G;refine Y ?_;refine⟨f,K,L,rfl,hb.pk.bA f,r.sl,λx Q=>?_,hb.q1,S⟩;obtain⟨z,hz,rfl⟩:=qAX.1 Q;have:=h.2 z hz;have q:z.toNat<b.nt.length:=O;rw[MN,ZA q];exact(hb.ps _ (IN q)).bA f
theorem WaF(jS:P=PP){b:Sb}{mi:Int}(hb:Zs H b)(hm:0<=mi/\mi<256)(W:Yl H)(K:aD H ⟨1,0,none⟩ [vf 284]) :
  Cv.m P (FA P TA λv _=>v=vb true) (Vu [b.v,.int .u8 mi]) H:=by
 obtain⟨m,rfl⟩:∃m:Nat,mi=m:=⟨mi.toNat,O⟩;unfold Cv Sb.v;refine Y ?_;refine Za (vs:=[b.v]) rfl (vG hb) ?_;rintro v _ ⟨rfl,g,rfl,m7⟩;cases g with
 | false=>
  refine Y ?_;refine Za (vs:=[]) rfl (eQ jS W K) ?_;rintro v H1 ⟨_,rfl⟩;refine Y ?_;rfl
 | true=>
 have ok:=m7 rfl;have hn:=ok.n;have N:=ok.nn;refine Y ?_;refine Za (vs:=[b.v]) rfl (Wbg ok hb W) ?_;rintro v H1 ⟨i1,A,c,rfl,hc,s1⟩;refine Y ?_;refine Za (vs:=[b.v]) rfl (MT ok (hb.bA i1) (aD.bA W i1)) ?_;rintro v F ⟨j2,rfl⟩;have i2:=i1.trans j2;have GB:Yl F:=aD.bA W i2;have uU:=aD.bA K i2;have r:=hb.bA i2;have s2:=s1.bA j2;have hL:TH b.nt.length (clL b):=by
  unfold clL;split
  ·rename_i h;exact Dd ok h
  exact⟨.nil,by simp⟩
 have T6:=Zyn (lo:=0) (k:=b.nt.length) hL.1 λz hz=>by have:=hL.2 z hz;omega
 refine Y ?_;refine Za (vs:=[.slice A (clL b).length c,vi b.nt.length]) rfl (Wbd s2 hL O O) ?_;rintro v _ ⟨rfl,rfl⟩;refine Y ?_;by_cases hz:Zi b=[];case neg=>
  have Q:=qBM.2 hz
  rw[show clL b=[]from bY hz]
  obtain⟨n,N⟩:∃n,n=(Zi b).length:=⟨_,rfl⟩
  rw[<-N]at Q ⊢
  refine Y ?_
  refine Cz rfl rfl ?_
  rw[qAZ (show ¬ ((n:Nat):Int)=0 by omega)]
  refine Y ?_
  refine OI (λh1=>?_) (λh1=>?_)
  ·refine Y ?_;refine Za (vs:=[]) rfl (eQ jS GB uU) ?_;rintro v H3 ⟨_,rfl⟩;refine Y ?_;rfl
  ·exact absurd h1 O
 case pos=>
 have c1:=Dd ok hz;have c2:=WaX ok hz;have c3:=qBM.2 (WaZ ok hz);have M:=λ{l:List Int}=>Cu ok hz (l:=l);have NW:=λ{i:Nat}=>WaY ok hz (i:=i);rw[show clL b=Zm5 b from iO hz]at *;rw[hz];generalize Zm5 b=L at *;refine Y ?_;refine Cz rfl rfl ?_;rw[decide_eq_true (show(0:Int)<((L.length:Nat):Int)by omega)];refine Y ?_;refine Za (vs:=[b.v,.slice A L.length c]) rfl (MR r s2 c1 O) ?_;rintro _ H3 ⟨i3,A3,G,rfl,Wl⟩;refine Y ?_;refine Za (vs:=[(CM b L A3 G).v]) rfl (MT (TD ok c1 A3 G) Wl (aD.bA GB i3)) ?_;rintro v H4 ⟨j4,rfl⟩;have i4:=i3.trans j4;rw[TB,c2];refine Y ?_;refine Zw L.length (λj C=>bO F C) (λj=>[(1,.int .u8 m),(2,vi 0),(5,.slice A L.length c),(11,vi j)]) (λ_=>[(2,b.cs)]) i4 V V ?_;rintro j H5 hj S;refine Y ?_;refine OI (λh2=>?_) (λh2=>?_)
 ·have y:j<L.length:=O;have a1:=Db c1 j;have a3:=qBM.2 (NW y);refine Y ?_;refine Za (vs:=[.slice A L.length c,vi j]) rfl (Wbc (s2.bA S) ⟨A,_,c,rfl,hc⟩ y O) ?_;rintro u6 H6 ⟨o,b6,o6⟩;refine Zq OL (Y ?_);refine Za (vs:=[b.v,u6]) rfl (MR (r.bA (S.trans o)) o6.sl a1 O) ?_;rintro _ H7 ⟨D,E,J,rfl,x⟩;refine Y ?_;refine Za (vs:=[(CM b _ E J).v]) rfl (MT (TD ok a1 E J) x (aD.bA GB ((S.trans o).trans D))) ?_;rintro v H8 ⟨i8,rfl⟩;rw[TB];generalize(bnL b (L.take j++L.drop (j+1))).length=n at *;refine Y ?_;refine OI (λU=>?_) (λU=>?_)
  ·exact absurd U O
  refine Y ?_;exact FB (I:=λj C=>bO F C) (env:=λj=>[(1,.int .u8 m),(2,vi 0),(5,.slice A L.length c),(11,vi j)]) (box:=λ_=>[(2,b.cs)]) y (((S.trans o).trans D).trans i8) V V rfl
 refine Y ?_;refine ZQ (α:=Value×Option Nat) b.nt.length (λj s C=>bO F C/\fZ F C 3 s.1 (YJ m j) s.2) (λj s=>[(1,.int .u8 m),(2,vi 0),(5,.slice A L.length c),(14,s.1),(15,vi j)]) (λ_ _=>[(2,b.cs)]) (.slice none 0 0,none) ⟨S,.nil _ _ _⟩ V V ?_;rintro t ⟨B,X⟩ H6 ht ⟨o,f⟩;simp only at f;refine Y ?_;refine OI (λU=>?_) (λU=>?_)
 ·have ht':t<b.nt.length:=O;have d:=ZtW m t;have lN:(YJ m t).length<=t:=by rw[YJ,qAs];exact Na m t
  refine Y ?_;refine KC rfl rfl (.inl rfl) O (WaK O) (Y ?_);refine LR (v:=.int .u8 ((m / 2 ^ t % 2:Nat):Int)) rfl rfl (.inl rfl) (Wa7 (qBj (Nat.div_le_self _ _) O)) (Y ?_);refine OI (λh4=>?_) (λh4=>?_)
  ·have q:m.testBit t=true:=(Znj m t).1 O;rw[q,iO rfl]at d;have Z:YJ m (t+1)=YJ m t++[(t:Int)]:=by rw[YJ,d,List.map_append];rfl
   refine Y ?_;refine Z0 (cs:=[vi t]) (OL _) rfl λr5 R=>Y ?_;refine Oa (l':=[(t:Int)]) (dC oO) (dC oO) (eI t3) rfl (by decide) (o.trans (Zt R)) (f.ins R) WaS rfl (by simp only[List.length_singleton];omega) O rfl rfl (OL _) λv7 H7 b7 k1 k2 k3=>?_;rw[<-Z]at k2;refine Y ?_;exact⟨(⟨t+1,O⟩,(v7,b7)),dX O,⟨k1,k2⟩,V,V,rfl⟩
  have q:m.testBit t=false:=by rw[Bool.eq_false_iff];exact λe=>h4 (by rw[(Znj m t).2 e];rfl)
  rw[q]at d;simp only[iN,qAk,qAj]at d;have Z:YJ m (t+1)=YJ m t:=by rw[YJ,d];rfl
  refine Y ?_;exact⟨(⟨t+1,O⟩,(B,X)),dX O,⟨o,by rw[Z];exact f⟩,V,V,rfl⟩
 have:t=b.nt.length:=O;subst this;have hA:=Wa8 m b.nt.length;have lN:(YJ m b.nt.length).length<=b.nt.length:=by rw[YJ,qAs];exact Na m _
 have hmn:=λe=>M hA e;refine Y ?_;refine Za (vs:=[b.v,B]) rfl (MR (r.bA o) f.sl hA O) ?_;rintro _ H7 ⟨D,E,J,rfl,x⟩;refine Y ?_;refine Za (vs:=[(CM b _ E J).v]) rfl (MT (TD ok hA E J) x (aD.bA GB (o.trans D))) ?_;rintro v H8 ⟨i8,rfl⟩;have T:=(o.trans D).trans i8;rw[TB];refine Y ?_;refine OI (λh5=>?_) (λh5=>?_)
 ·refine Y ?_;refine Za (vs:=[]) rfl (eQ jS (aD.bA GB T) (aD.bA uU T)) ?_;rintro v H9 ⟨_,rfl⟩;refine Y ?_;rfl
 have iV:bnL b (YJ m b.nt.length)=[]:=List.length_eq_zero_iff.1 O;refine Y ?_;refine Za (vs:=[B,.slice A L.length c]) rfl (Wbf (f.sl.bA (D.trans i8)) (s2.bA T) O O) ?_;rintro v _ ⟨rfl,rfl⟩;rw[hmn iV];refine Y ?_;refine Za (vs:=[]) rfl (eQ jS (aD.bA GB T) (aD.bA uU T)) ?_;rintro v H9 ⟨_,rfl⟩;refine Y ?_;rfl
end
