import Derived.Test.YtlhomfgcibjccaaGreatDoorP28
import Derived.Test.YtlhomfgcibjccaaGreatDoorP29
set_option linter.all false
set_option maxHeartbeats 8000000
set_option maxRecDepth 20000
open Go Go.LL
namespace Go.Proofs
variable{v zv cv:Value}{l fr:List Int}{n c r j cap p f ro rf m:Nat}{b:Sb}{A:Option Addr}{α:Type}{rest:List Value}{key:Int->Int}{G:Hp}
def VB(n:Nat)(l:List Int):Nat->Int
 | 0=>0
 | j+1=>if VB n l j≠0 then VB n l j else if ¬ (0<=l.getD j 0/\l.getD j 0<n)then 6 else if(l.take j).any (λz=>l.getD j 0 == z)then 5 else 0
def Yq(b:Sb)(l:List Int):Int:=if l.length≠b.pk.length then 2 else VB b.pk.length l l.length
def uV(z:Int):Bool:=!decide (1<=z/\z<=20)
def Um(b:Sb)(l:List Int):Int:=if l.length≠b.pk.length then 2 else if l.any uV then 1 else 0
def Yz(b:Sb)(n:Int):Int:=if 0<=n/\n<b.pk.length then 0 else 6
def PZ{n:Nat}{l:List Int}{j:Nat}(h:VB n l j≠0):∀k,j<=k->VB n l k=VB n l j
 | 0,a=>by have:j=0:=O;rw[this]
 | k+1,a=>by
  by_cases e:j=k+1
  ·rw[e]
  have:=PZ h k O;rw[VB,iF (by rw[this];exact h),this]
section
variable{P:aX}[Tz P][Loud P]{H:Hp}
def ZyQ{n:Int}(k:aF H v l)(t:l.length<=1000000) :
  LL.Zc P 183 #[v,vi n] H λv h=>H=h/\∃r:Int,v=vi r/\(0<=r↔l.any (λz=>n == z)=true):=by
 refine aJ.m (bG ZwH) (args:=[v,vi n]) rfl ?_;unfold Zj4;refine Y ?_;refine YE k rfl (Y ?_);refine Zv l.length (λj h=>H=h/\(l.take j).any (λz=>n == z)=false) (λj=>[(0,v),(1,vi n),(7,vi l.length),(8,vi j)]) (λj=>[]) ⟨rfl,rfl⟩ V trivial ?_;rintro j _ s ⟨rfl,e⟩;refine OJ (λo=>?_) (λo=>?_)
 ·have g:j<l.length:=O;refine Y ?_;refine Zz j k g λa q=>Y ?_;refine Ya q ?_;refine OJ (λi=>?_) (λi=>?_)
  ·refine Y ?_;exact⟨rfl,j,rfl,by simp only[qDC,true_iff];rw[qBg];exact⟨l[j],bY g,by simpa using i⟩⟩
  refine Y ?_;refine⟨⟨j+1,O⟩,bN O,⟨rfl,?_⟩,V,trivial,rfl⟩;show(l.take (j+1)).any (λz=>n == z)=false;rw[iN g,qDb,e];simp[i]
 have:j=l.length:=O;subst this;rw[IF]at e;refine Y ?_;exact⟨rfl,-1,rfl,by simp[e]⟩
def Im{n:Int}(e:aF H v l)(g:l.length<=1000000) :
  LL.Zc P 145 #[v,vi n] H λv a=>H=a/\v=vb (l.any (λz=>n == z)):=by
 refine aJ.m (bG ZwY) (args:=[v,vi n]) rfl ?_;unfold Zkl;refine Y ?_;refine ZW (vs:=[v,vi n]) rfl (ZyQ e g) ?_;rintro w _ ⟨rfl,r,rfl,h⟩;refine Y ?_;refine⟨rfl,?_⟩;show vb (decide (0<=r))=vb _;congr 1;rw[qBT,qAR];exact h
def Jx(u:aF H (.slice A l.length c) l)(I:l.length<=c)(K:l.length<=1000000)(F:b.pk.length<=1000000) :
  LL.Zc P 96 #[b.v,.slice A l.length c] H λv q=>H=q/\v=vi (Yq b l):=by
 refine aJ.m (bG Zxt) (args:=[b.v,.slice A l.length c]) rfl ?_;unfold ZkQ Sb.v;refine OJ (λw=>?_) (λw=>?_)
 ·refine Y ?_;exact⟨rfl,by rw[Yq,iF O];rfl⟩
 refine Y ?_;refine Zv l.length (λj q=>H=q/\VB b.pk.length l j=0) (λj=>[(1,.slice A l.length c),(2,vi 0),(14,.slice A l.length c),(15,vi l.length),(16,vi j)]) (λj=>[(2,b.cs)]) ⟨rfl,rfl⟩ V V ?_;rintro j _ J ⟨rfl,t⟩;refine OJ (λB=>?_) (λB=>?_)
 ·have i:j<l.length:=O;have E:l.getD j 0=l[j]:=ZD i _;have e:VB b.pk.length l (j+1)=(if ¬ (0<=l[j]/\l[j]<b.pk.length)then 6 else if(l.take j).any (λz=>l[j] == z)then 5 else 0):=by rw[VB,aT (by rw[t];simp),E]
  have stop:VB b.pk.length l (j+1)≠0->Yq b l=VB b.pk.length l (j+1):=λh=>by rw[Yq,aT O,PZ h _ O]
  refine Y ?_;refine Zz j u i λa D=>Y ?_;refine Ya D (Y ?_);refine Za [b.v,vi l[j]] (Kk _ F) ?_;rintro v _ ⟨rfl,rfl⟩;refine OJ (λC=>?_) (λC=>?_)
  ·have s:=e.trans (iF O);refine Y ?_;exact⟨rfl,by rw[stop (by rw[s];decide),s];rfl⟩
  have g:=e.trans (aT O);refine Y ?_;refine IE (lo:=0) (hi:=j) (k:=.i64) (bI dW) (cD t3) rfl (.inl ⟨rfl,rfl⟩) ⟨_,rfl,rfl⟩ O O ?_;rw[PY,qBI,qBI];refine Y ?_;refine Za [.slice A j c,vi l[j]] (Im (P0 u O) (by rw[qAj];omega)) ?_;rintro v _ ⟨rfl,rfl⟩;cases hag:(l.take j).any (λz=>l[j] == z)with
  | true=>
   rw[hag]at g;refine Y ?_;exact⟨rfl,by rw[stop (by rw[g];decide),g];rfl⟩
  | false=>
   rw[hag]at g;refine Y ?_;exact⟨⟨j+1,O⟩,bN O,⟨rfl,g⟩,V,V,rfl⟩
 have:j=l.length:=O;subst this;refine Y ?_;exact⟨rfl,by rw[Yq,aT O,t];rfl⟩
def Zn3(z:Int):LL.Zc P 167 #[vi z] H λv a=>H=a/\v=vb (uV z):=by refine aJ.m (bG ZwM) (args:=[vi z]) rfl ?_;unfold Zj9;refine Y ?_;refine ZW (vs:=[vi z,vi 1,vi 20]) rfl (V6 _ _ _) ?_;rintro v _ ⟨rfl,rfl⟩;refine Y ?_;exact⟨rfl,rfl⟩
def Ih(g:aF H (.slice A l.length c) l)(h:l.length<=1000000)(i:b.pk.length<=1000000) :
  LL.Zc P 130 #[b.v,.slice A l.length c] H λv a=>H=a/\v=vi (Um b l):=by
 refine aJ.m (bG Zw8) (args:=[b.v,.slice A l.length c]) rfl ?_;unfold Zkv Sb.v;refine OJ (λe=>?_) (λe=>?_)
 ·refine Y ?_;exact⟨rfl,by rw[Um,iF O];rfl⟩
 refine Y ?_;refine Za [.slice A l.length c,vf 167] (Zy4 (f:=uV) (λz _=>Yj U (Zn3 z)) g h (OL _)) ?_;rintro v _ ⟨rfl,rfl⟩;cases h2:l.any uV with
 | true=>
  refine Y ?_;exact⟨rfl,by rw[Um,aT O,h2];rfl⟩
 | false=>
  refine Y ?_;exact⟨rfl,by rw[Um,aT O,h2];rfl⟩
def ZnJ:LL.Zc P 101 #[b.v] H λv a=>aL H a/\v=vi 0:=by refine aJ.m (bG Zxr) (args:=[b.v]) rfl ?_;unfold ZkO Sb.v;refine Y ?_;exact⟨.refl _,rfl⟩
def jA(P:aX)(H:Hp)(g:Value)(b:Sb)(own:Int):Prop:=∀a,aL H a->ZV P g #[b.v] a λv e=>aL a e/\v=vi own
def X9:jA P H (vf 101) b 0:=λa _=>Yj U ZnJ
def Zta{n:Int}(h:aC H ⟨r,0,none⟩ [vi n])(g:b.pk.length<=1000000):LL.Zc P 138 #[b.v,pt r] H λv a=>H=a/\v=vi (Yz b n):=by
 refine aJ.m (bG Zw4) (args:=[b.v,pt r]) rfl ?_;unfold Zkr Sb.v;refine Y ?_;refine Ya h (Y ?_);refine Za [b.v,vi n] (Kk _ g) ?_;rintro v _ ⟨rfl,rfl⟩;refine OJ (λe=>?_) (λe=>?_)
 ·refine Y ?_;exact⟨rfl,by rw[Yz,aT O];rfl⟩
 refine Y ?_;exact⟨rfl,by rw[Yz,iF O];rfl⟩
def Lb(n:Int)(i:b.pk.length<=1000000):LL.Zc P 86 #[vi n] H λv a=>H.Sub a/\v.cells=#[v]/\Value.cJ v=true/\jA P a v b (Yz b n):=by refine aJ.m (bG Zxx) (args:=[vi n]) rfl ?_;unfold ZkU;refine Y ?_;refine V9 rfl (OL _) λr k=>Y ?_;refine VQ rfl rfl (Y ?_);refine⟨Yf k,rfl,rfl,λo h=>Yj U (LL.Zc.mono (Zta (aC.inc (VK (cs:=[vi n])) h) i) λv q ⟨e,g⟩=>e ▸ ⟨.refl _,g⟩)⟩
def Ztb(k:aC H ⟨r,0,none⟩ [.slice A l.length c])(g:aF H (.slice A l.length c) l)(e:l.length<=c)(i:l.length<=1000000)(h:b.pk.length<=1000000) :
  LL.Zc P 142 #[b.v,pt r] H λv a=>H=a/\v=vi (Yq b l):=by
 refine aJ.m (bG Zw1) (args:=[b.v,pt r]) rfl ?_;unfold Zko Sb.v;refine Y ?_;refine Ya k (Y ?_);refine Za [b.v,.slice A l.length c] (Jx g e i h) ?_;rintro v _ ⟨rfl,rfl⟩;refine Y ?_;exact⟨rfl,rfl⟩
def ZiQ(o:aF H (.slice A l.length c) l)(k:l.length<=c)(s:l.length<=1000000)(q:b.pk.length<=1000000) :
  LL.Zc P 92 #[.slice A l.length c] H λv a=>H.Sub a/\v.cells=#[v]/\Value.cJ v=true/\jA P a v b (Yq b l):=by
 refine aJ.m (bG Zxw) (args:=[.slice A l.length c]) rfl ?_;unfold ZkT;refine Y ?_;refine V9 rfl (OL _) λr h=>Y ?_;refine VQ rfl rfl (Y ?_);refine⟨Yf h,rfl,rfl,λt g=>Yj U (LL.Zc.mono (Ztb (aC.inc (VK (cs:=[.slice A l.length c])) g) ((o.inc (Zs h)).inc g) k s q) λv u ⟨e,i⟩=>e ▸ ⟨.refl _,i⟩)⟩
def Vj(b:Sb)(i:Nat):List Int:=(Zi b).map λt=>t.get i
theorem PR{n:Int}(hb:Zr H b)(U:b.Sz)(hg:Yk H):LL.Zc P 21 #[b.v,vi n] H λv h=>aL H h/\∃w,v=.tuple #[w,vi (Zl b (Yz b n))] /\
  ((Zl b (Yz b n)≠0/\w=.slice none 0 0)\/(Zl b (Yz b n)=0/\∃M,dD H h 3 w (Oh (lD (Vj b n.toNat))) M)):=by
 refine aJ.m (bG ZxV) (args:=[b.v,vi n]) rfl ?_;unfold Zli Sb.v;refine Y ?_;refine Za [vi n] (Lb n U.pk) ?_;rintro fv H1 ⟨s1,e1,e2,C⟩;refine Zp OL (Y ?_);refine Za [b.v,fv] (Ov (hb.sub s1) U (aC.sub hg s1) C) ?_;rintro v F ⟨i2,hv⟩;have g:=s1.inc.trans i2;generalize z:Zl b (Yz b n)=o at *;refine Zp OL ?_;rcases hv with⟨E,rfl⟩ | ⟨E,ok,S,w,M,rfl,ow⟩
 ·unfold U1;refine OJ (λN=>?_) (λN=>?_)
  ·refine Y ?_;exact⟨g,_,rfl,.inl ⟨E,rfl⟩⟩
  exact absurd N E
 subst E;have hn:0<=n/\n<b.pk.length:=qAd λhh=>by
  rw[Zl,Yz,aT hh]at z;split at z
  ·rename_i q;exact q z
  rw[iF (by decide)]at z;exact absurd z (by decide)
 have R:=UI ok;have D:=ow.sl;obtain⟨W,Z,rfl,_⟩:=id D;have J:vi n=vi (n.toNat:Int):=by congr 1;omega
 have u:n.toNat<4:=by have:=ok.n;omega
 rw[J];generalize n.toNat=i at *;unfold ZU;refine Y ?_;refine ZO (α:=Value×Option Nat) (Zi b).length (λj s h=>aL F h/\dD F h 3 s.1 ((Vj b i).take j) s.2)
  (λj s=>[(1,vi i),(8,s.1),(22,.slice W (Zi b).length Z),(23,vi (Zi b).length),(24,vi j)]) (λ_ _=>[]) (.slice none 0 0,none) ⟨.refl _,.nil F _ 3⟩ V trivial ?_
 rintro j ⟨s,bs⟩ H3 hj ⟨L,os⟩;simp only at os;refine OJ (λh2=>?_) (λh2=>?_)
 ·have k:j<(Zi b).length:=O;have K:(Vj b i).take (j+1)=(Vj b i).take j++[(Zi b)[j].get i]:=by rw[iN (by simpa[Vj]using k)];simp[Vj]
  have hE:Zb [(Zi b)[j]]=(Zi b)[j].cells:=rfl;refine Y ?_;refine Zz j (D.inc L) k λa ha=>?_;generalize(Zi b)[j]=t at *;refine Y ?_;refine YA (cs:=t.cells) ha (Y ?_);refine CF (j:=i) rfl rfl u (Y ?_);refine FW (v:=vi (t.get i)) (OL _) rfl rfl (by
   match i,u with
   | 0,_=>rfl
   | 1,_=>rfl
   | 2,_=>rfl
   | 3,_=>rfl) ?_
  refine Y ?_;refine ZY (cs:=[vi (t.get i)]) (OL _) rfl λr6 B=>Y ?_;have nF:((Vj b i).take j).length<=81:=by rw[qAj];omega
  refine U7 (l':=[t.get i]) (bI dW) (bI dW) (cD t3) rfl (by decide) (L.trans (Zs B)) (os.ins B) (Z0 (l:=[t.get i])) rfl (by simp only[qAs,List.length_nil];omega) O rfl rfl (OL _) λv' H6 X k1 k2 k3=>Y ?_;refine⟨(⟨j+1,O⟩,(v',X)),bN O,⟨k1,by rw[K];exact k2⟩,V,trivial,rfl⟩
 have:j=(Zi b).length:=O;subst this;have K:(Vj b i).take (Zi b).length=Vj b i:=qCt (by simp[Vj]);rw[K]at os;have Q:(Vj b i).length=(Zi b).length:=by simp[Vj]
 refine Y ?_;refine Za [s] (ZyC L os (by intro e;rw[e]at Q;simp at Q;omega) O) ?_;rintro v H4 ⟨i4,o4⟩;refine Y ?_;refine Za [s] (Zy5 i4 o4 (by rw[(CC _).length_eq];omega)) ?_;rintro w H5 ⟨i5,I,T⟩;refine Y ?_;exact⟨g.trans i5,_,rfl,.inr ⟨rfl,I,T.own,λr e=>YL g (T.fresh r e)⟩⟩
end
section
variable{P:aX}{H:Hp}{d:Option Nat}{next:aM->Hp->Prop}{σ:aM}{x:Operand}{ty:TypeId}
def vS{T E:TypeId}{k a:Nat}(J:P.toProgram.underlying T=some (.slice E))(U:TI P.toProgram E k zv a)(u:1<=n/\n<=1000)(hb:a<=1000)(L:1<=k)(e:σ.get x=some (vi n))(i:P.still H.gh=false)
  (h:∀r,H r=none->next (σ.set d (.slice (some ⟨r,0,none⟩) n n)) (H.ins r (.cells ((Array.range (n * k)).map (zv.cells[· % zv.cells.size]!)) E))):(bE.raw (.makeSlice T x x) ty).m P d next σ H:=by
 obtain⟨S,t,M,N,R⟩:=U.ex;refine YS (by simp[Op.operands,e]) (s:=Instr.makeSlice T (vi n) (vi n)) (by simp[execOp,aR,e]) ?_;have K:IntKind.i64.wrap (n:Int)=n:=Uk ⟨O,O⟩;have o:a * n<=1000 * 1000:=qBq hb u.2;have I:decide ((a:Int) * (n:Int) > 2 ^ 48)=false:=by have B:((a * n:Nat):Int)<=((1000 * 1000:Nat):Int):=Int.ofNat_le.2 o;rw[Int.natCast_mul]at B;exact qAo O
 have D:decide ((n:Int)<0)=false:=qAo O;have C:decide ((n:Int) > n)=false:=qAo O;have q:¬ n * k=0:=by have:=qBq u.1 L;omega
 simp only[Instr.makeSlice,Zg,Zw J,asInt,asIntOf,Zj,O1 t,R,K,Z4 t,M,I,D,C,Bool.or_self,DO,qAw];have g:∀(Q:Unit->Bool->Hp->Prop),Q () false H->bL P.toPQ (askRoom ((n:Int).toNat * a)) Q false H:=by
  intro Q w;unfold askRoom;split
  ·exact⟨.inr ⟨rfl,i⟩,w⟩
  exact w
 refine g _ ?_;simp only[qAD,aT q,UC t N,newRow,Zg,newObj,Zj];exact⟨i,λr F=>h r F⟩
end
theorem vT[Enc α](x:α)(h:zv.cells=(Enc.enc x).toArray)(t:0<Enc.sz α)(n:Nat):(Array.range (n * Enc.sz α)).map (zv.cells[· % zv.cells.size]!)=(Zb (List.replicate n x)).toArray:=by
 have a:(Enc.enc x).length=Enc.sz α:=Enc.len x;refine Array.ext' ?_;rw[h];refine qEe λi=>?_;simp only[Array.toList_map,Array.toList_range,qEd];by_cases q:i<n * Enc.sz α
 ·have s:i / Enc.sz α<n:=Nat.div_lt_of_lt_mul (by rw[Nat.mul_comm];exact q);have o:i % Enc.sz α<Enc.sz α:=qDS _ t;have e:=LA (List.replicate n x) (i / Enc.sz α) (i % Enc.sz α) (by simpa using s) o;rw[Nat.div_add_mod']at e;rw[e,List.getElem?_range q];simp only[qBZ,List.size_toArray,a,List.getElem_replicate];rw[getElem!_pos (Enc.enc x).toArray (i % Enc.sz α) (by simpa[a]using o),qBE (by rw[a];exact o)];simp
 rw[qAn (l:=List.range _) (by simpa using q),qAn (by rw[VH,qBj];omega)];rfl
def cO(l:List Int):Nat->Nat
 | 0=>0
 | j+1=>if el l j<el l (cO l j)then j else cO l j
def Zo(l:List Int):Nat:=cO l l.length
def EM{l:List Int}:∀j,0<j->cO l j<j
 | 0,h=>absurd h (Nat.lt_irrefl _)
 | 1,_=>by rw[cO,cO,aT (qCR _)];exact Nat.one_pos
 | j+2,_=>by
  rw[cO];split
  ·omega
  have:=EM (l:=l) (j+1) (Nat.succ_pos _);omega
def uF(h:l≠[]):Zo l<l.length:=EM _ (qAX.2 h)
def XI{l:List Int}:∀{n:Nat} (j:Nat),j<n->el l (cO l n)<=el l j
 | 0,j,h=>absurd h (qBm _)
 | n+1,j,h=>by
  rw[cO];split
  ·rename_i a;by_cases e:j=n
   ·rw[e];exact qAx _
   have:=XI (l:=l) (n:=n) j O;omega
  rename_i a;by_cases e:j=n
  ·rw[e];omega
  exact XI j O
def CV(h:j<l.length):el l (Zo l)<=el l j:=XI j h
section
variable{P:aX}[Tz P][Loud P]{H:Hp}
def Xe(n:Int):LL.Zc P 284 #[vi n] H λv a=>H=a/\v=vi n:=by refine aJ.m (bG Zwj) (args:=[vi n]) rfl ?_;unfold ZjG;refine Y ?_;exact⟨rfl,rfl⟩
def ZlL(k:aF H v l)(z:l.length<=1000000):LL.Zc P 158 #[.agg #[vf 284],v] H λw h=>H=h/\w=vi (Zo l):=by
 refine aJ.m (bG ZwS) (args:=[.agg #[vf 284],v]) rfl ?_;unfold Zkf;refine Y ?_;refine YE k rfl (Y ?_);refine Zv l.length (λj h=>H=h) (λj=>[(1,v),(2,vi 0),(5,vi (cO l j)),(8,vi l.length),(9,vi j)]) (λj=>[(2,[vf 284])]) rfl V V ?_;rintro j _ u rfl;refine OJ (λs=>?_) (λs=>?_)
 ·have g:j<l.length:=O;have o:cO l j<l.length:=by
   by_cases q:j=0
   ·rw[q,cO];omega
   have:=EM (l:=l) j O;omega
  refine Y ?_;refine Zz j k g λa t=>Y ?_;refine Ya t (Y ?_);refine Zz (cO l j) k o λa hb=>Y ?_;refine Ya hb (Y ?_);refine ZM rfl rfl (Yj U (Xe _)) ?_;rintro w _ ⟨rfl,rfl⟩;refine Y ?_;refine ZM rfl rfl (Yj U (Xe _)) ?_;rintro w _ ⟨rfl,rfl⟩;refine Y ?_;rw[<-Uu g,<-Uu o];refine OI (λi=>?_) (λi=>?_)
  ·have e:cO l (j+1)=j:=by rw[cO,iF i]
   refine Y ?_;exact⟨⟨j+1,O⟩,bN O,rfl,⟨rfl,rfl,by rw[e];rfl,rfl,rfl,trivial⟩,V,rfl⟩
  have e:cO l (j+1)=cO l j:=by rw[cO,aT i]
  refine Y ?_;exact⟨⟨j+1,O⟩,bN O,rfl,⟨rfl,rfl,by rw[e];rfl,rfl,rfl,trivial⟩,V,rfl⟩
 have:j=l.length:=O;subst this;refine Y ?_;exact⟨rfl,rfl⟩
end
def Ud(key:Int->Int)(x:Int):List Int->List Int
 | []=>[x]
 | y :: r=>if key x<key y then y :: Ud key x r else x :: y :: r
def VO(key:Int->Int)(l:List Int):List Int:=l.foldl (λa x=>Ud key x a) []
def gN(key:Int->Int)(l:List Int):List Int:=(VO key l).reverse
def KP(key:Int->Int)(x:Int):∀A:List Int,(Ud key x A).Perm (x :: A)
 | []=>.refl _
 | y :: r=>by
  rw[Ud];split
  ·exact((KP key x r).cons y).trans (.swap x y r)
  exact .refl _
def PX(key:Int->Int)(l:List Int)(x:Int):VO key (l++[x])=Ud key x (VO key l):=by simp[VO,qCE]
def Xo(key:Int->Int):∀(l A:List Int),(l.foldl (λa x=>Ud key x a) A).Perm (l++A)
 | [],A=>.refl _
 | x :: l,A=>by refine(Xo key l _).trans ?_;refine((KP key x A).append_left l).trans ?_;exact List.perm_middle
def IG(key:Int->Int)(l:List Int):(VO key l).Perm l:=by have:=Xo key l [];rwa [qAf]at this
def tI(key:Int->Int)(l:List Int):(gN key l).Perm l:=(List.reverse_perm _).trans (IG key l)
theorem ZlT{key:Int->Int}{x:Int}:∀{A:List Int} {k:Nat},(∀y∈A.take k,key x<key y)->(A.length<=k\/∃y r,A.drop k=y :: r/\¬ key x<key y)->Ud key x A=A.take k++x :: A.drop k
 | [],k,_,_=>by simp[Ud]
 | y :: r,0,_,h=>by
  rcases h with h | ⟨z,t,e,h⟩
  ·simp at h
  simp only[List.drop_zero,qBM]at e;obtain⟨rfl,rfl⟩:=e;rw[Ud,aT h];rfl
 | y :: r,k+1,a,h=>by rw[Ud,iF (a y (by simp))];rw[ZlT (k:=k) (λz g=>a z (by simp[g])) (by simpa using h)];rfl
def Zol(p s:List Int)(x y:Int):((p++y :: x :: s).set (p.length+1) y).set p.length x=p++x :: y :: s:=by rw[List.set_append_right _ _ O,List.set_append_right _ _ O];simp
def Zva(p s:List Int)(y:Int):el (p++y :: s) p.length=y:=by simp[el]
def Zu9(p s:List Int)(x y:Int):el (p++y :: x :: s) (p.length+1)=x:=by simp[el,qBP]
section
variable{P:aX}[Tz P][Loud P]{H:Hp}
def Il(P:aX)(H:Hp)(r:Nat)(cv:Value)(key:Int->Int)(l:List Int):Prop:=
 ∀a,(∀b x,b≠r->H b=some x->a b=some x)->∀p∈l,∀q∈l,ZV P cv #[vi p,vi q] a λv e=>a=e/\v=vi (key p-key q)
def Zur(hA:H r=some (.cells (Zb l++rest).toArray 3 (0,0),true))(hl:l.length<=1000000)(hc:Il P H r cv key l) :
  LL.Zc P 241 #[.slice (some ⟨r,0,none⟩) l.length cap,vi 0,vi l.length,cv] H λ_ u=>AR H u r (gN key l) rest:=by
 refine aJ.m (bG Zwv) (args:=[.slice (some ⟨r,0,none⟩) l.length cap,vi 0,vi l.length,cv]) rfl ?_;unfold ZjS;have h0:(VO key (l.take (0+1))).reverse++l.drop (0+1)=l:=by
  cases l with
  | nil=>rfl
  | cons x t=>simp[VO,Ud]
 refine Y ?_;refine Zv (l.length-1) (λm u=>AR H u r ((VO key (l.take (m+1))).reverse++l.drop (m+1)) rest) (λm=>[(0,.slice (some ⟨r,0,none⟩) l.length cap),(1,vi 0),(2,vi l.length),(3,cv),(8,vi ((m+1:Nat):Int))]) (λ_=>[]) (by rw[h0];exact AR.of hA) V trivial ?_;rintro m H1 hm L;refine OJ (λg1=>?_) (λg1=>?_)
 ·have o:m+1<l.length:=O;generalize i:VO key (l.take (m+1))=A at *;have hAl:A.length=m+1:=by rw[<-i,(IG key _).length_eq,qAj];omega
  have R:∀z∈A,z∈l:=λz g=>qDT ((IG key (l.take (m+1))).mem_iff.1 (i ▸ g));obtain⟨x,T⟩:∃x,x=l[m+1]:=⟨_,rfl⟩;have U:x∈l:=T ▸ bY o;have hd:l.drop (m+1)=x :: l.drop (m+2):=by rw[T];exact yT o
  have q:VO key (l.take (m+1+1))=Ud key x A:=by rw[iN o,PX,i,T]
  refine Y ?_;refine Zv (m+1) (λk u=>AR H u r ((A.drop k).reverse++x :: ((A.take k).reverse++l.drop (m+2))) rest/\∀y∈A.take k,key x<key y)
   (λk=>[(0,.slice (some ⟨r,0,none⟩) l.length cap),(1,vi 0),(2,vi l.length),(3,cv),(8,vi ((m+1:Nat):Int)),(9,vi ((m+1-k:Nat):Int))]) (λ_=>[]) ⟨by rw[hd]at L;simpa using L,by simp⟩ V trivial ?_
  rintro k H2 hk ⟨a,J⟩;have C:(A.length<=k\/∃y r,A.drop k=y :: r/\¬ key x<key y)->(A.drop k).reverse++x :: ((A.take k).reverse++l.drop (m+2))=(VO key (l.take (m+1+1))).reverse++l.drop (m+1+1):=λh=>by rw[q,ZlT J h];simp
  have I:((A.drop k).reverse++x :: ((A.take k).reverse++l.drop (m+2))).length=l.length:=by simp;omega
  refine OJ (λha=>?_) (λha=>?_)
  ·have e:k<A.length:=O;obtain⟨y,W⟩:∃y,y=A[k]:=⟨_,rfl⟩;have X:y∈l:=R y (W ▸ bY e);have E:A.drop k=y :: A.drop (k+1):=by rw[W];exact yT e
   have K:A.take (k+1)=A.take k++[y]:=by rw[iN e,W]
   have D:(A.drop k).reverse++x :: ((A.take k).reverse++l.drop (m+2))=(A.drop (k+1)).reverse++y :: x :: ((A.take k).reverse++l.drop (m+2)):=by rw[E];simp
   have s:(A.drop (k+1)).reverse.length=m-k:=by simp;omega
   have F:m+1-k=m-k+1:=O;rw[D]at a I;have N:el ((A.drop (k+1)).reverse++y :: x :: ((A.take k).reverse++l.drop (m+2))) (m-k)=y:=by rw[<-s];exact Zva _ _ _
   have Q:el ((A.drop (k+1)).reverse++y :: x :: ((A.take k).reverse++l.drop (m+2))) (m-k+1)=x:=by rw[<-s];exact Zu9 _ _ _ _
   have B:(((A.drop (k+1)).reverse++y :: x :: ((A.take k).reverse++l.drop (m+2))).set (m-k+1) y).set (m-k) x=(A.drop (k+1)).reverse++x :: ((A.take (k+1)).reverse++l.drop (m+2)):=by rw[<-s,Zol,K];simp
   generalize Si:(A.drop (k+1)).reverse++y :: x :: ((A.take k).reverse++l.drop (m+2))=c at *;obtain⟨j,hj⟩:∃j,m-k=j:=⟨_,rfl⟩;rw[hj]at N Q B F;rw[F];refine Y ?_;refine Zd (j+1) rfl rfl rfl O (Y ?_);refine Zh (OL _) rfl (a.cA O rfl) (Y ?_);refine Zd j rfl rfl O O (Y ?_);refine Zh (OL _) rfl (a.cA O rfl) (Y ?_);rw[N,Q];refine ZM (vs:=[vi x,vi y]) rfl rfl (hc H2 a.keep x U y X) ?_;rintro v _ ⟨rfl,rfl⟩;refine OJ (λS=>?_) (λS=>?_)
   ·refine Y ?_;refine Zd j rfl rfl O O (Y ?_);refine Zh (Loud.aV _) rfl (AR.cA a O rfl) (Y ?_);refine Zd (j+1) rfl rfl O O (Y ?_);refine Zh (Loud.aV _) rfl (AR.cA a O rfl) (Y ?_);refine Zd (j+1) rfl rfl O O (Y ?_);refine ZS a O (ZK _ _) rfl rfl λHW M=>?_;refine Zp Loud.aV (Y ?_);refine Zd j rfl rfl O O (Y ?_);refine ZS M (by rw[qAg];omega) (ZK _ _) rfl rfl λH4 w=>?_;rw[N,Q,B]at w;refine Y ?_;refine⟨⟨k+1,O⟩,(by show m+1-(k+1)<j+1;omega),⟨w,λz g=>?_⟩,⟨rfl,rfl,rfl,rfl,rfl,?_,trivial⟩,trivial,rfl⟩
    ·rw[K]at g;rcases qAi.1 g with g | g
     ·exact J z g
     obtain rfl:=oR.1 g;omega
    show some (vi ((j+1:Nat)-1:Int))=some (vi ((m+1-(k+1):Nat):Int));congr 2;omega
   refine Y ?_;have Z:=C (.inr ⟨y,_,E,O⟩);rw[D]at Z;rw[Z]at a;exact⟨⟨m+1,O⟩,bN O,a,V,trivial,rfl⟩
  have e:A.length<=k:=O;rw[C (.inl e)]at a;refine Y ?_;exact⟨⟨m+1,O⟩,bN O,a,V,trivial,rfl⟩
 have h2:VO key (l.take (m+1))=VO key l:=by rw[qCt O]
 rw[h2,qDN O,qAf]at L;refine Y ?_;exact L
def Zov(k:H r=some (.cells (Zb l++rest).toArray 3 (0,0),true))(q:l.length<20)(o:Il P H r cv key l) :
  LL.Zc P 206 #[.slice (some ⟨r,0,none⟩) l.length cap,vi l.length,cv] H λ_ a=>AR H a r (gN key l) rest:=by
 refine aJ.m (bG ZwG) (args:=[.slice (some ⟨r,0,none⟩) l.length cap,vi l.length,cv]) rfl ?_;unfold Zj3;refine Y ?_;refine Zv 0 (λ_ a=>H=a) (λ_=>[(0,.slice (some ⟨r,0,none⟩) l.length cap),(1,vi l.length),(2,cv),(6,vi 20),(7,vi 0),(8,vi 20)]) (λ_=>[]) rfl V trivial ?_;rintro _ _ _ rfl;refine OJ (λe=>?_) (λe=>?_)
 ·exact absurd e O
 refine Y ?_;refine Za [.slice (some ⟨r,0,none⟩) l.length cap,vi 0,vi l.length,cv] (Zur k O o) ?_;rintro v h i;refine Y ?_;refine Zv 0 (λ_ a=>h=a) (λ_=>[(1,vi l.length),(6,vi 20)]) (λ_=>[]) rfl V trivial ?_;rintro _ _ _ rfl;refine OJ (λg=>?_) (λg=>?_)
 ·exact absurd g O
 refine Y ?_;exact i
def ZyE(g:H r=some (.cells (Zb l++rest).toArray 3 (0,0),true))(i:l.length<20)(h:Il P H r cv key l) :
  LL.Zc P 159 #[.slice (some ⟨r,0,none⟩) l.length cap,cv] H λ_ a=>AR H a r (gN key l) rest:=by
 refine aJ.m (bG ZwR) (args:=[.slice (some ⟨r,0,none⟩) l.length cap,cv]) rfl ?_;unfold Zke;refine Y ?_;refine Za [.slice (some ⟨r,0,none⟩) l.length cap,vi l.length,cv] (Zov g i h) ?_;rintro v k e;refine Y ?_;exact e
end
structure Wk where
 (i o g d:Int)
def Wk.cells(w:Wk):List Value:=[vi w.i,vi w.o,vi w.g,vi w.d]
instance:Enc Wk:=⟨4,Wk.cells,λ_=>rfl⟩
def Wk.put(w:Wk):Nat->Int->Wk
 | 0,z=>{ w with i:=z }
 | 1,z=>{ w with o:=z }
 | 2,z=>{ w with g:=z }
 | _,z=>{ w with d:=z }
def Wk.get(w:Wk):Nat->Int
 | 0=>w.i
 | 1=>w.o
 | 2=>w.g
 | _=>w.d
def bM(l:List Wk)(p:Nat):Wk:=l.getD p ⟨0,0,0,0⟩
def mC{l:List Wk}(w:Wk)(q:Nat)(h:p<l.length):bM (l.set p w) q=if q=p then w else bM l q:=by
 unfold bM;rw[qAa,qAa,qCD];by_cases e:q=p
 ·subst e;simp[h]
 rw[aT (qAF e),aT e]
def EJ{l:List Wk}(h:p<l.length):bM l p=l[p]:=ZD h _
def Zg4(z:Int){f:Nat}(g:f<4):∀(l:List Wk) (p:Nat) (_:p<l.length),ZG (Zb l) (p * 4+f) [vi z]=Zb (l.set p ((bM l p).put f z))
 | [],p,h=>by simp at h
 | w :: l,0,h=>by
  match f,g with
  | 0,_=>simp[Zb,Enc.enc,ZG,Wk.put,Wk.cells,bM]
  | 1,_=>simp[Zb,Enc.enc,ZG,Wk.put,Wk.cells,bM]
  | 2,_=>simp[Zb,Enc.enc,ZG,Wk.put,Wk.cells,bM]
  | 3,_=>simp[Zb,Enc.enc,ZG,Wk.put,Wk.cells,bM]
 | w :: l,p+1,h=>by
  have ih:=Zg4 z g l p (by simpa using h);have e:Zb (w :: l)=Enc.enc w++Zb l:=by simp[Zb]
  rw[e,show(p+1) * 4+f=4+(p * 4+f)by omega,LB (n:=4) (Enc.len w),ih];simp[Zb,bM]
theorem ZmA(w:Wk)(a:f<4):(Enc.enc w)[f]? = some (vi (w.get f)):=by
 match f,a with
 | 0,_=>rfl
 | 1,_=>rfl
 | 2,_=>rfl
 | 3,_=>rfl
structure WK(G H:Hp)(ro rf:Nat)(out:List Wk)(fr:List Int):Prop where
 keep:∀b x,b≠ro->b≠rf->G b=some x->H b=some x
 out:H ro=some (.cells (Zb out).toArray 65,true)
 fr:H rf=some (.cells (Zb fr++[]).toArray 3,true)
 ne:ro≠rf
def WK.inc{a H:Hp}{out:List Wk}(h:WK G H ro rf out fr)(i:aL a G)(e:a ro=none)(g:a rf=none):aL a H:=
 λb x hb=>h.keep b x (by rintro rfl;rw[e]at hb;simp at hb) (by rintro rfl;rw[g]at hb;simp at hb) (i b x hb)
def WK.ar{H:Hp}{out:List Wk}(h:WK G H ro rf out fr):AR H H rf fr []:=AR.of h.fr
def WK.eC{H e:Hp}{out:List Wk}{eC:List Int}(h:WK G H ro rf out fr)(a:AR H e rf eC []):WK G e ro rf out eC:=
 ⟨λb x i g hb=>a.keep b x g (h.keep b x i g hb),a.keep _ _ h.ne h.out,a.at_,h.ne⟩
def WK.sl{H:Hp}{out:List Wk}(h:WK G H ro rf out fr):aF H (.slice (some ⟨rf,0,none⟩) fr.length c) fr:=by have:=h.fr;rw[qAf]at this;exact⟨_,c,rfl,λ_=>⟨_,rfl,ZA this⟩⟩
def WK.cW{H:Hp}{out:List Wk}(h:WK G H ro rf out fr)(f:Nat)(g:f<4)(i:p<out.length):aC H (((⟨ro,0,none⟩:Addr).add (p * 4)).add f) [vi ((bM out p).get f)]:=by
 rw[Vx,Vx,qAE];refine⟨rfl,_,_,h.out,λk q=>?_⟩;have a:k=0:=by simpa using q
 subst a;have e:=LA out p f i g;rw[ZmA _ g,<-EJ i]at e;have o:(Zb out)[p * 4+f]? = some (vi ((bM out p).get f)):=e;simpa[Obj.mB]using o
section
variable{P:aX}[Tz P][Loud P]{H:Hp}{d:Option Nat}{next:aM->Hp->Prop}{σ:aM}{x y:Operand}
def uU{a:Addr}{ty:Nat}{out:List Wk}{z:Int}(h:WK G H ro rf out fr)(u:p<out.length)(s:f<4)(e:a=((⟨ro,0,none⟩:Addr).add (p * 4)).add f)(i:σ.get x=some (.pointer (some a)))(o:σ.get y=some (vi z))
  (t:∀g,WK G g ro rf (out.set p ((bM out p).put f z)) fr->next (σ.set d undef) g):(bE.raw (.store 3 x y) ty).m P d next σ H:=by
 subst e;rw[Vx,Vx,qAE]at i;refine wF (cD t3) i o h.out rfl (by rw[VH];show p * 4+f+1<=out.length * 4;omega) rfl (Loud.aV _) ?_;rw[show(vi z).cells.toList=[vi z]from rfl,Zg4 z s out p u];refine t _ ⟨λb x k q hb=>?_,Hp.aG _ _ _,?_,h.ne⟩
 ·rw[Hp.aH _ _ k];exact h.keep b x k q hb
 rw[Hp.aH _ _ (qAF h.ne)];exact h.fr
end
def iG(t:N4)(s:List Wk×List Int)(p:Int):List Wk×List Int:=
 (s.1.set p.toNat { bM s.1 p.toNat with i:=el s.2 (Zo s.2),o:=el s.2 (Zo s.2)+t.get p.toNat },s.2.set (Zo s.2) (el s.2 (Zo s.2)+t.get p.toNat))
def fK(b:Sb)(s:List Wk×List Int)(p:Int):List Wk×List Int:=
 (s.1.set p.toNat { bM s.1 p.toNat with g:=max (bM s.1 p.toNat).o (el s.2 (Zo s.2)),d:=max (bM s.1 p.toNat).o (el s.2 (Zo s.2))+(aD b p.toNat).bF },s.2.set (Zo s.2) (max (bM s.1 p.toNat).o (el s.2 (Zo s.2))+(aD b p.toNat).bF))
def tA(b:Sb):List Wk×List Int:=(List.replicate b.pk.length ⟨0,0,0,0⟩,List.replicate b.pl.toNat 0)
def fA(b:Sb)(t:N4)(l:List Int):List Wk×List Int:=l.foldl (iG t) (tA b)
def kD(out:List Wk)(p:Int):Int:=(bM out p.toNat).o
def Ul(b:Sb)(t:N4)(l:List Int):List Int:=gN (kD (fA b t l).1) l
def GL(b:Sb)(out:List Wk)(l:List Int):List Wk×List Int:=l.foldl (fK b) (out,List.replicate b.hd.toNat 0)
def VN(b:Sb)(t:N4)(l:List Int):List Wk:=(GL b (fA b t l).1 (Ul b t l)).1
structure WB(n m:Nat)(c:Int)(s:List Wk×List Int):Prop where
 l1:s.1.length=n
 l2:s.2.length=m
 fr:∀k,0<=el s.2 k/\el s.2 k<=c
 o:∀p,0<=(bM s.1 p).o/\(bM s.1 p).o<=c
def WB.zero:WB n m 0 (List.replicate n ⟨0,0,0,0⟩,List.replicate m 0):=by
 refine⟨qBj,qBj,λk=>?_,λp=>?_⟩
 ·have:el (List.replicate m (0:Int)) k=0:=by unfold el;rw[qAa,List.getElem?_replicate];split<;>rfl
  show 0<=el (List.replicate m (0:Int)) k/\el (List.replicate m (0:Int)) k<=0;omega
 have:bM (List.replicate n ⟨0,0,0,0⟩) p=⟨0,0,0,0⟩:=by unfold bM;rw[qAa,List.getElem?_replicate];split<;>rfl
 show 0<=(bM (List.replicate n ⟨0,0,0,0⟩) p).o/\_;rw[this];exact⟨by decide,by decide⟩
def WB.fl{c:Int}{s:List Wk×List Int}(h:WB n m c s)(a:1<=m):Zo s.2<s.2.length:=uF (by intro e;have:=h.l2;rw[e]at this;simp at this;omega)
def WB.iG{c:Int}{s:List Wk×List Int}{t:N4}(h:WB n m c s)(g:1<=m)(u:Yp t){p:Int}(i:p.toNat<n)(a:p.toNat<4):WB n m (c+20) (iG t s p):=by
 have w:=h.fr (Zo s.2);have z:=u p.toNat a;have e:=h.fl g;refine⟨(qAg).trans h.l1,(qAg).trans h.l2,λk=>?_,λq=>?_⟩
 ·have:=h.fr k;show 0<=el (s.2.set _ _) k/\el (s.2.set _ _) k<=_;rw[CE _ _ e];split<;>omega
 have:=h.o q;show 0<=(bM (s.1.set _ _) q).o/\(bM (s.1.set _ _) q).o<=_;rw[mC _ _ (by rw[h.l1];exact i)];split
 ·show 0<=el s.2 (Zo s.2)+t.get p.toNat/\el s.2 (Zo s.2)+t.get p.toNat<=_;omega
 omega
def WB.fK{c:Int}{s:List Wk×List Int}(h:WB n m c s)(e:1<=m){p:Int}(g:p.toNat<n)(u:1<=(aD b p.toNat).bF/\(aD b p.toNat).bF<=20):WB n m (c+20) (fK b s p):=by
 have i:=h.fr (Zo s.2);have t:=h.o p.toNat;have a:=h.fl e;refine⟨(qAg).trans h.l1,(qAg).trans h.l2,λk=>?_,λq=>?_⟩
 ·have:=h.fr k;show 0<=el (s.2.set _ _) k/\el (s.2.set _ _) k<=_;rw[CE _ _ a];split<;>omega
 have:=h.o q;show 0<=(bM (s.1.set _ _) q).o/\(bM (s.1.set _ _) q).o<=_;rw[mC _ _ (by rw[h.l1];exact g)];split
 ·show 0<=(bM s.1 p.toNat).o/\(bM s.1 p.toNat).o<=_;omega
 omega
theorem Oe{β:Type}(f:β->α->β)(s:β){l:List α}(h:j<l.length):(l.take (j+1)).foldl f s=f ((l.take j).foldl f s) l[j]:=by rw[iN h,qCE];rfl
def z7{b:Sb}{t:N4}(ok:bA b)(g:Yp t){l:List Int}(e:∀z∈l,0<=z/\z<b.pk.length):∀j,j<=l.length->WB b.pk.length b.pl.toNat (20 * j) ((l.take j).foldl (iG t) (tA b))
 | 0,_=>WB.zero
 | j+1,i=>by have a:j<l.length:=i;have h:=e _ (bY a);have:=ok.n;have:=ok.pl;rw[Oe _ _ a,show(20 * ((j+1:Nat):Int))=20 * j+20 by omega];exact(z7 ok g e j O).iG O g O O
def EN{b:Sb}(ok:bA b){out:List Wk}{c:Int}(s:out.length=b.pk.length)(i:∀p,0<=(bM out p).o/\(bM out p).o<=c)(t:0<=c){l:List Int}(q:∀z∈l,0<=z/\z<b.pk.length) :
  ∀j,j<=l.length->WB b.pk.length b.hd.toNat (c+20 * j) ((l.take j).foldl (fK b) (out,List.replicate b.hd.toNat 0))
 | 0,_=>⟨s,qBj,λk=>by have:=(WB.zero (n:=0) (m:=b.hd.toNat)).fr k;have h:0<=el (List.replicate b.hd.toNat (0:Int)) k/\el (List.replicate b.hd.toNat (0:Int)) k<=0:=this;show 0<=el (List.replicate b.hd.toNat 0) k/\el (List.replicate b.hd.toNat 0) k<=_;omega,λp=>by have:=i p;show 0<=(bM out p).o/\(bM out p).o<=_;omega⟩
 | j+1,w=>by have e:j<l.length:=w;have h:=q _ (bY e);have:=ok.n;have:=ok.hd;have u:aD b l[j].toNat=b.pk[l[j].toNat]'O:=ZD _ _;have B:=ok.pk l[j].toNat O;rw[Oe _ _ e,show(c+20 * ((j+1:Nat):Int))=c+20 * j+20 by omega];exact(EN ok s i t q j O).fK O O (by rw[u];exact B.2.2.1)
