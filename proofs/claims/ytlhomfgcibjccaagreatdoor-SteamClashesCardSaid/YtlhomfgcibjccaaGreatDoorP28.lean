import Derived.Test.YtlhomfgcibjccaaGreatDoorP26
import Derived.Test.YtlhomfgcibjccaaGreatDoorP27
set_option linter.all false
set_option maxHeartbeats 8000000
set_option maxRecDepth 20000
open Go Go.LL
namespace Go.Proofs
variable{v zv cv:Value}{l fr:List Int}{n c r j cap p f ro rf m:Nat}{b:Sb}{A:Option Addr}{α:Type}{rest:List Value}{key:Int->Int}{G:Hp}{t:N4}
def VA(n:Nat)(l:List Int):Nat->Int
 | 0=>0
 | j+1=>if VA n l j≠0 then VA n l j else if ¬ (0<=l.getD j 0/\l.getD j 0<n)then 6 else if(l.take j).any (λz=>l.getD j 0 == z)then 5 else 0
def Yq(b:Sb)(l:List Int):Int:=if l.length≠b.pk.length then 2 else VA b.pk.length l l.length
def SV(z:Int):Bool:=!decide (1<=z/\z<=20)
def Ul(b:Sb)(l:List Int):Int:=if l.length≠b.pk.length then 2 else if l.any SV then 1 else 0
def Yz(b:Sb)(n:Int):Int:=if 0<=n/\n<b.pk.length then 0 else 6
theorem Ziu{n:Nat}{l:List Int}{j:Nat}(h:VA n l j≠0):∀k,j<=k->VA n l k=VA n l j
 | 0,hk=>by have:j=0:=O;rw[this]
 | k+1,hk=>by
  by_cases e:j=k+1
  ·rw[e]
  have:=Ziu h k O;rw[VA,iO (by rw[this];exact h),this]
section
variable{P:bF}[Tz P][Loud P]{H:Hp}
theorem Zy7{n:Int}(hl:aV H v l)(hn:l.length<=1000000) :
  LL.Zc P 183 #[v,vi n] H λv H'=>H=H'/\∃r:Int,v=vi r/\(0<=r↔l.any (λz=>n == z)=true):=by
 refine aO.m (cF ZwX) (args:=[v,vi n]) rfl ?_;unfold Zkg;refine Y ?_;refine YD hl rfl (Y ?_);refine Zw l.length (λj H'=>H=H'/\(l.take j).any (λz=>n == z)=false) (λj=>[(0,v),(1,vi n),(7,vi l.length),(8,vi j)]) (λj=>[]) ⟨rfl,rfl⟩ V trivial ?_;rintro j _ hj ⟨rfl,lH⟩;refine Y ?_;refine OI (λh1=>?_) (λh1=>?_)
 ·have cH:j<l.length:=O;refine Y ?_;refine Zx hl rfl rfl rfl (i:=j) cH λa ha=>Y ?_;refine Zg (OL _) rfl ha (Y ?_);refine OI (λh2=>?_) (λh2=>?_)
  ·refine Y ?_;exact⟨rfl,j,rfl,by simp only[qCo,true_iff];rw[qBL];exact⟨l[j],IN cH,by simpa using h2⟩⟩
  refine Y ?_;refine⟨⟨j+1,O⟩,dX O,⟨rfl,?_⟩,V,trivial,rfl⟩;show(l.take (j+1)).any (λz=>n == z)=false;rw[qAd cH,qCj,lH];simp[h2]
 have:j=l.length:=O;subst this;rw[qAw]at lH;refine Y ?_;exact⟨rfl,-1,rfl,by simp[lH]⟩
theorem Kq{n:Int}(hl:aV H v l)(hn:l.length<=1000000) :
  LL.Zc P 145 #[v,vi n] H λv H'=>H=H'/\v=vb (l.any (λz=>n == z)):=by
 refine aO.m (cF Zxe) (args:=[v,vi n]) rfl ?_;unfold Zkx;refine Y ?_;refine Za (vs:=[v,vi n]) rfl (Zy7 hl hn) ?_;rintro w _ ⟨rfl,r,rfl,hr⟩;refine Y ?_;refine⟨rfl,?_⟩;show vb (decide (0<=r))=vb _;congr 1;rw[qCk,qAK];exact hr
theorem Mf(hl:aV H (.slice A l.length c) l)(hc:l.length<=c)(hn:l.length<=1000000)(hm:b.pk.length<=1000000) :
  LL.Zc P 96 #[b.v,.slice A l.length c] H λv H'=>H=H'/\v=vi (Yq b l):=by
 refine aO.m (cF ZxJ) (args:=[b.v,.slice A l.length c]) rfl ?_;unfold Zk2 Sb.v;refine Y ?_;refine OI (λh1=>?_) (λh1=>?_)
 ·refine Y ?_;exact⟨rfl,by rw[Yq,iO O];rfl⟩
 refine Y ?_;refine Zw l.length (λj H'=>H=H'/\VA b.pk.length l j=0) (λj=>[(1,.slice A l.length c),(2,vi 0),(14,.slice A l.length c),(15,vi l.length),(16,vi j)]) (λj=>[(2,b.cs)]) ⟨rfl,rfl⟩ V V ?_;rintro j _ hj ⟨rfl,hk⟩;refine Y ?_;refine OI (λh2=>?_) (λh2=>?_)
 ·have cH:j<l.length:=O;have hg:l.getD j 0=l[j]:=ZA cH _;have e:VA b.pk.length l (j+1)=(if ¬ (0<=l[j]/\l[j]<b.pk.length)then 6 else if(l.take j).any (λz=>l[j] == z)then 5 else 0):=by rw[VA,bY (by rw[hk];simp),hg]
  have stop:VA b.pk.length l (j+1)≠0->Yq b l=VA b.pk.length l (j+1):=λh=>by rw[Yq,bY O,Ziu h _ O]
  refine Y ?_;refine Zx hl rfl rfl rfl (i:=j) cH λa ha=>Y ?_;refine Zg (OL _) rfl ha (Y ?_);refine Za (vs:=[b.v,vi l[j]]) rfl (Mt _ hm) ?_;rintro v _ ⟨rfl,rfl⟩;refine Y ?_;refine OI (λh3=>?_) (λh3=>?_)
  ·have e1:=e.trans (iO O);refine Y ?_;exact⟨rfl,by rw[stop (by rw[e1];decide),e1];rfl⟩
  have e2:=e.trans (bY O);refine Y ?_;refine Ls (lo:=0) (hi:=j) (k:=.i64) (dC oO) (eI t3) rfl (.inl ⟨rfl,rfl⟩) ⟨_,rfl,rfl⟩ O O ?_;rw[ZmZ,qBg,qBg];refine Y ?_;refine Za (vs:=[.slice A j c,vi l[j]]) rfl (Kq (ZgW hl O) (by rw[qBm];omega)) ?_;rintro v _ ⟨rfl,rfl⟩;cases pO:(l.take j).any (λz=>l[j] == z)with
  | true=>
   rw[pO]at e2;refine Y ?_;exact⟨rfl,by rw[stop (by rw[e2];decide),e2];rfl⟩
  | false=>
   rw[pO]at e2;refine Y ?_;exact⟨⟨j+1,O⟩,dX O,⟨rfl,e2⟩,V,V,rfl⟩
 have:j=l.length:=O;subst this;refine Y ?_;exact⟨rfl,by rw[Yq,bY O,hk];rfl⟩
theorem Zoi(z:Int):LL.Zc P 167 #[vi z] H λv H'=>H=H'/\v=vb (SV z):=by refine aO.m (cF Zw2) (args:=[vi z]) rfl ?_;unfold Zkl;refine Y ?_;refine Za (vs:=[vi z,vi 1,vi 20]) rfl (V6 _ _ _) ?_;rintro v _ ⟨rfl,rfl⟩;refine Y ?_;exact⟨rfl,rfl⟩
theorem Zoh(hl:aV H (.slice A l.length c) l)(hn:l.length<=1000000)(hm:b.pk.length<=1000000) :
  LL.Zc P 130 #[b.v,.slice A l.length c] H λv H'=>H=H'/\v=vi (Ul b l):=by
 refine aO.m (cF Zxo) (args:=[b.v,.slice A l.length c]) rfl ?_;unfold ZkH Sb.v;refine Y ?_;refine OI (λh1=>?_) (λh1=>?_)
 ·refine Y ?_;exact⟨rfl,by rw[Ul,iO O];rfl⟩
 refine Y ?_;refine Za (vs:=[.slice A l.length c,vf 167]) rfl (Zzl (f:=SV) (λz _=>Yk U (Zoi z)) hl hn (OL _)) ?_;rintro v _ ⟨rfl,rfl⟩;cases h2:l.any SV with
 | true=>
  refine Y ?_;exact⟨rfl,by rw[Ul,bY O,h2];rfl⟩
 | false=>
  refine Y ?_;exact⟨rfl,by rw[Ul,bY O,h2];rfl⟩
theorem ZnX:LL.Zc P 101 #[b.v] H λv H'=>bO H H'/\v=vi 0:=by refine aO.m (cF ZxH) (args:=[b.v]) rfl ?_;unfold Zk0 Sb.v;refine Y ?_;exact⟨.refl _,rfl⟩
def dM(P:bF)(H:Hp)(fv:Value)(b:Sb)(own:Int):Prop:=∀H1,bO H H1->ZX P fv #[b.v] H1 λv H'=>bO H1 H'/\v=vi own
theorem Cg:dM P H (vf 101) b 0:=λH1 _=>Yk U ZnX
theorem Ztr{n:Int}(hr:aD H ⟨r,0,none⟩ [vi n])(hm:b.pk.length<=1000000):LL.Zc P 138 #[b.v,pt r] H λv H'=>H=H'/\v=vi (Yz b n):=by
 refine aO.m (cF Zxk) (args:=[b.v,pt r]) rfl ?_;unfold ZkD Sb.v;refine Y ?_;refine Zg (OL _) rfl hr (Y ?_);refine Za (vs:=[b.v,vi n]) rfl (Mt _ hm) ?_;rintro v _ ⟨rfl,rfl⟩;refine Y ?_;refine OI (λh1=>?_) (λh1=>?_)
 ·refine Y ?_;exact⟨rfl,by rw[Yz,bY O];rfl⟩
 refine Y ?_;exact⟨rfl,by rw[Yz,iO O];rfl⟩
theorem Nn(n:Int)(hm:b.pk.length<=1000000):LL.Zc P 86 #[vi n] H λv H'=>H.Sub H'/\v.cells=#[v]/\Value.dZ v=true/\dM P H' v b (Yz b n):=by refine aO.m (cF ZxN) (args:=[vi n]) rfl ?_;unfold Zk6;refine Y ?_;refine V9 rfl (OL _) λr hr=>Y ?_;refine VP rfl rfl (Y ?_);refine⟨Yg hr,rfl,rfl,λH1 hi=>Yk U (LL.Zc.mono (Ztr (aD.bA (VJ (cs:=[vi n])) hi) hm) λv H2 ⟨e,e2⟩=>e ▸ ⟨.refl _,e2⟩)⟩
theorem Zts(hr:aD H ⟨r,0,none⟩ [.slice A l.length c])(hl:aV H (.slice A l.length c) l)(hc:l.length<=c)(hn:l.length<=1000000)(hm:b.pk.length<=1000000) :
  LL.Zc P 142 #[b.v,pt r] H λv H'=>H=H'/\v=vi (Yq b l):=by
 refine aO.m (cF Zxh) (args:=[b.v,pt r]) rfl ?_;unfold ZkA Sb.v;refine Y ?_;refine Zg (OL _) rfl hr (Y ?_);refine Za (vs:=[b.v,.slice A l.length c]) rfl (Mf hl hc hn hm) ?_;rintro v _ ⟨rfl,rfl⟩;refine Y ?_;exact⟨rfl,rfl⟩
theorem Zi2(hl:aV H (.slice A l.length c) l)(hc:l.length<=c)(hn:l.length<=1000000)(hm:b.pk.length<=1000000) :
  LL.Zc P 92 #[.slice A l.length c] H λv H'=>H.Sub H'/\v.cells=#[v]/\Value.dZ v=true/\dM P H' v b (Yq b l):=by
 refine aO.m (cF ZxM) (args:=[.slice A l.length c]) rfl ?_;unfold Zk5;refine Y ?_;refine V9 rfl (OL _) λr hr=>Y ?_;refine VP rfl rfl (Y ?_);refine⟨Yg hr,rfl,rfl,λH1 hi=>Yk U (LL.Zc.mono (Zts (aD.bA (VJ (cs:=[.slice A l.length c])) hi) ((hl.bA (Zt hr)).bA hi) hc hn hm) λv H2 ⟨e,e2⟩=>e ▸ ⟨.refl _,e2⟩)⟩
def Vi(b:Sb)(i:Nat):List Int:=(Zi b).map λt=>t.get i
theorem ZyY{n:Int}(hb:Zs H b)(sz:b.Sz)(hg:Yl H):LL.Zc P 21 #[b.v,vi n] H λv H'=>bO H H'/\∃w,v=.tuple #[w,vi (Zn b (Yz b n))] /\
  ((Zn b (Yz b n)≠0/\w=.slice none 0 0)\/(Zn b (Yz b n)=0/\∃bb,fZ H H' 3 w (Oj (yO (Vi b n.toNat))) bb)):=by
 refine aO.m (cF Zyc) (args:=[b.v,vi n]) rfl ?_;unfold Zlv Sb.v;refine Y ?_;refine Za (vs:=[vi n]) rfl (Nn n sz.pk) ?_;rintro fv H1 ⟨s1,e1,e2,nT⟩;refine Zq OL (Y ?_);refine Za (vs:=[b.v,fv]) rfl (Ox (hb.sub s1) sz (aD.sub hg s1) nT) ?_;rintro v H2 ⟨i2,hv⟩;have jI:=s1.bA.trans i2;generalize ho:Zn b (Yz b n)=o at *;refine Zq OL ?_;rcases hv with⟨h0,rfl⟩ | ⟨h0,ok,eU,w,bb,rfl,ow⟩
 ·unfold U3;refine Y ?_;refine OI (λh1=>?_) (λh1=>?_)
  ·refine Y ?_;exact⟨jI,_,rfl,.inl ⟨h0,rfl⟩⟩
  exact absurd h1 h0
 subst h0;have hn:0<=n/\n<b.pk.length:=oR λhh=>by
  rw[Zn,Yz,bY hh]at ho;split at ho
  ·rename_i q;exact q ho
  rw[iO (by decide)]at ho;exact absurd ho (by decide)
 have dJ:=UI ok;have jR:=ow.sl;obtain⟨Aw,cw,rfl,_⟩:=id jR;have BJ:vi n=vi (n.toNat:Int):=by congr 1;omega
 have tQ:n.toNat<4:=by have:=ok.n;omega
 rw[BJ];generalize n.toNat=i at *;unfold ZW;refine Y ?_;refine ZQ (α:=Value×Option Nat) (Zi b).length (λj s H'=>bO H2 H'/\fZ H2 H' 3 s.1 ((Vi b i).take j) s.2)
  (λj s=>[(1,vi i),(8,s.1),(22,.slice Aw (Zi b).length cw),(23,vi (Zi b).length),(24,vi j)]) (λ_ _=>[]) (.slice none 0 0,none) ⟨.refl _,.nil H2 _ 3⟩ V trivial ?_
 rintro j ⟨s,bs⟩ H3 hj ⟨i3,os⟩;simp only at os;refine Y ?_;refine OI (λh2=>?_) (λh2=>?_)
 ·have cH:j<(Zi b).length:=O;have ht:(Vi b i).take (j+1)=(Vi b i).take j++[(Zi b)[j].get i]:=by rw[qAd (by simpa[Vi]using cH)];simp[Vi]
  have hE:Zb [(Zi b)[j]]=(Zi b)[j].cells:=rfl;refine Y ?_;refine Zx (jR.bA i3) rfl rfl rfl (i:=j) cH λa ha=>?_;generalize(Zi b)[j]=t at *;refine Y ?_;refine Zl (cs:=t.cells) (OL _) rfl ha rfl (Y ?_);refine KB (j:=i) rfl rfl tQ (Y ?_);refine LP (v:=vi (t.get i)) (OL _) rfl rfl (by
   match i,tQ with
   | 0,_=>rfl
   | 1,_=>rfl
   | 2,_=>rfl
   | 3,_=>rfl) ?_
  refine Y ?_;refine Z0 (cs:=[vi (t.get i)]) (OL _) rfl λr6 oF=>Y ?_;have bV:((Vi b i).take j).length<=81:=by rw[qBm];omega
  refine Oa (l':=[t.get i]) (dC oO) (dC oO) (eI t3) rfl (by decide) (i3.trans (Zt oF)) (os.ins oF) (Z2 (l:=[t.get i])) rfl (by simp only[qAO,List.length_nil];omega) O rfl rfl (OL _) λv' H6 b' k1 k2 k3=>Y ?_;refine⟨(⟨j+1,O⟩,(v',b')),dX O,⟨k1,by rw[ht];exact k2⟩,V,trivial,rfl⟩
 have:j=(Zi b).length:=O;subst this;have ht:(Vi b i).take (Zi b).length=Vi b i:=qBA (by simp[Vi]);rw[ht]at os;have hl:(Vi b i).length=(Zi b).length:=by simp[Vi]
 refine Y ?_;refine Za (vs:=[s]) rfl (ZyT i3 os (by intro e;rw[e]at hl;simp at hl;omega) O) ?_;rintro v H4 ⟨i4,o4⟩;refine Y ?_;refine Za (vs:=[s]) rfl (Zzm i4 o4 (by rw[(Bt _).length_eq];omega)) ?_;rintro w H5 ⟨i5,bb5,o5⟩;refine Y ?_;exact⟨jI.trans i5,_,rfl,.inr ⟨rfl,bb5,o5.own,λr e=>YK jI (o5.fresh r e)⟩⟩
end
section
variable{P:bF}{H:Hp}{d:Option Nat}{next:aN->Hp->Prop}{σ:aN}{x:Operand}{ty:TypeId}
theorem Nu{T E:TypeId}{sz gR:Nat}(hu:P.toProgram.underlying T=some (.slice E))(ti:TI P.toProgram E sz zv gR)(hn:1<=n/\n<=1000)(hb:gR<=1000)(hz:1<=sz)(e:σ.get x=some (vi n))(bB:P.still H.gh=false)
  (h:∀r,H r=none->next (σ.set d (.slice (some ⟨r,0,none⟩) n n)) (H.ins r (.cells ((Array.range (n * sz)).map (zv.cells[· % zv.cells.size]!)) E))):(bC.raw (.makeSlice T x x) ty).m P d next σ H:=by
 obtain⟨p9,i1,i2,i3,i4⟩:=ti.ex;refine YS (by simp[Op.operands,e]) (s:=Instr.makeSlice T (vi n) (vi n)) (by simp[execOp,aP,e]) ?_;have hw:IntKind.i64.wrap (n:Int)=n:=Uk ⟨O,O⟩;have kK:gR * n<=1000 * 1000:=qCL hb hn.2;have ht:decide ((gR:Int) * (n:Int) > 2 ^ 48)=false:=by have h1:((gR * n:Nat):Int)<=((1000 * 1000:Nat):Int):=Int.ofNat_le.2 kK;rw[Int.natCast_mul]at h1;exact qAZ O
 have hl:decide ((n:Int)<0)=false:=qAZ O;have hg:decide ((n:Int) > n)=false:=qAZ O;have dG:¬ n * sz=0:=by have:=qCL hn.1 hz;omega
 simp only[Instr.makeSlice,Zh,Zy hu,asInt,asIntOf,Zj,O2 i1,i4,hw,Z6 i1,i2,ht,hl,hg,Bool.or_self,iN,qAk];have BS:∀(Q:Unit->Bool->Hp->Prop),Q () false H->cD P.toPQ (askRoom ((n:Int).toNat * gR)) Q false H:=by
  intro Q hq;unfold askRoom;split
  ·exact⟨.inr ⟨rfl,bB⟩,hq⟩
  exact hq
 refine BS _ ?_;simp only[qAA,bY dG,UC i1 i3,newRow,Zh,newObj,Zj];exact⟨bB,λr hr=>h r hr⟩
end
theorem Pn[Enc α](x:α)(h:zv.cells=(Enc.enc x).toArray)(hz:0<Enc.sz α)(n:Nat):(Array.range (n * Enc.sz α)).map (zv.cells[· % zv.cells.size]!)=(Zb (List.replicate n x)).toArray:=by
 have dJ:(Enc.enc x).length=Enc.sz α:=Enc.len x;refine Array.ext' ?_;rw[h];refine qDa λi=>?_;simp only[Array.toList_map,Array.toList_range,qCZ];by_cases hi:i<n * Enc.sz α
 ·have h1:i / Enc.sz α<n:=Nat.div_lt_of_lt_mul (by rw[Nat.mul_comm];exact hi);have h2:i % Enc.sz α<Enc.sz α:=qCW _ hz;have e:=LK (List.replicate n x) (i / Enc.sz α) (i % Enc.sz α) (by simpa using h1) h2;rw[Nat.div_add_mod']at e;rw[e,List.getElem?_range hi];simp only[qBa,List.size_toArray,dJ,List.getElem_replicate];rw[getElem!_pos (Enc.enc x).toArray (i % Enc.sz α) (by simpa[dJ]using h2),qAI (by rw[dJ];exact h2)];simp
 rw[qAY (l:=List.range _) (by simpa using hi),qAY (by rw[VG,qBv];omega)];rfl
def eF(l:List Int):Nat->Nat
 | 0=>0
 | j+1=>if el l j<el l (eF l j)then j else eF l j
def Zp(l:List Int):Nat:=eF l l.length
theorem RV{l:List Int}:∀j,0<j->eF l j<j
 | 0,h=>absurd h (Nat.lt_irrefl _)
 | 1,_=>by rw[eF,eF,bY (Int.lt_irrefl _)];exact Nat.one_pos
 | j+2,_=>by
  rw[eF];split
  ·omega
  have:=RV (l:=l) (j+1) (Nat.succ_pos _);omega
theorem RU(h:l≠[]):Zp l<l.length:=RV _ (qBM.2 h)
theorem X6{l:List Int}:∀{n:Nat} (j:Nat),j<n->el l (eF l n)<=el l j
 | 0,j,h=>absurd h (qBh _)
 | n+1,j,h=>by
  rw[eF];split
  ·rename_i h1;by_cases e:j=n
   ·rw[e];exact qAy _
   have:=X6 (l:=l) (n:=n) j O;omega
  rename_i h1;by_cases e:j=n
  ·rw[e];omega
  exact X6 j O
theorem Zmk(h:j<l.length):el l (Zp l)<=el l j:=X6 j h
section
variable{P:bF}[Tz P][Loud P]{H:Hp}
theorem Zmx(n:Int):LL.Zc P 284 #[vi n] H λv H'=>H=H'/\v=vi n:=by refine aO.m (cF Zwz) (args:=[vi n]) rfl ?_;unfold ZjS;refine Y ?_;exact⟨rfl,rfl⟩
theorem ZlY(hl:aV H v l)(hn:l.length<=1000000):LL.Zc P 158 #[.agg #[vf 284],v] H λw H'=>H=H'/\w=vi (Zp l):=by
 refine aO.m (cF Zw8) (args:=[.agg #[vf 284],v]) rfl ?_;unfold Zkr;refine Y ?_;refine YD hl rfl (Y ?_);refine Zw l.length (λj H'=>H=H') (λj=>[(1,v),(2,vi 0),(5,vi (eF l j)),(8,vi l.length),(9,vi j)]) (λj=>[(2,[vf 284])]) rfl V V ?_;rintro j _ hj rfl;refine Y ?_;refine OI (λh1=>?_) (λh1=>?_)
 ·have cH:j<l.length:=O;have hk:eF l j<l.length:=by
   by_cases h0:j=0
   ·rw[h0,eF];omega
   have:=RV (l:=l) j O;omega
  refine Y ?_;refine Zx hl rfl rfl rfl (i:=j) cH λa ha=>Y ?_;refine Zg (OL _) rfl ha (Y ?_);refine Zx hl rfl rfl rfl (i:=eF l j) hk λa hb=>Y ?_;refine Zg (OL _) rfl hb (Y ?_);refine ZN rfl rfl (Yk U (Zmx _)) ?_;rintro w _ ⟨rfl,rfl⟩;refine Y ?_;refine ZN rfl rfl (Yk U (Zmx _)) ?_;rintro w _ ⟨rfl,rfl⟩;refine Y ?_;rw[<-Uu cH,<-Uu hk];refine OI (λh2=>?_) (λh2=>?_)
  ·have e:eF l (j+1)=j:=by rw[eF,iO h2]
   refine Y ?_;exact⟨⟨j+1,O⟩,dX O,rfl,⟨rfl,rfl,by rw[e];rfl,rfl,rfl,trivial⟩,V,rfl⟩
  have e:eF l (j+1)=eF l j:=by rw[eF,bY h2]
  refine Y ?_;exact⟨⟨j+1,O⟩,dX O,rfl,⟨rfl,rfl,by rw[e];rfl,rfl,rfl,trivial⟩,V,rfl⟩
 have:j=l.length:=O;subst this;refine Y ?_;exact⟨rfl,rfl⟩
end
def Ud(key:Int->Int)(x:Int):List Int->List Int
 | []=>[x]
 | y :: r=>if key x<key y then y :: Ud key x r else x :: y :: r
def VN(key:Int->Int)(l:List Int):List Int:=l.foldl (λa x=>Ud key x a) []
def L6(key:Int->Int)(l:List Int):List Int:=(VN key l).reverse
theorem Zl7(key:Int->Int)(x:Int):∀A:List Int,(Ud key x A).Perm (x :: A)
 | []=>.refl _
 | y :: r=>by
  rw[Ud];split
  ·exact((Zl7 key x r).cons y).trans (.swap x y r)
  exact .refl _
theorem ZoL(key:Int->Int)(l:List Int)(x:Int):VN key (l++[x])=Ud key x (VN key l):=by simp[VN,qCw]
theorem Zmn(key:Int->Int):∀(l A:List Int),(l.foldl (λa x=>Ud key x a) A).Perm (l++A)
 | [],A=>.refl _
 | x :: l,A=>by refine(Zmn key l _).trans ?_;refine((Zl7 key x A).append_left l).trans ?_;exact List.perm_middle
theorem Ps(key:Int->Int)(l:List Int):(VN key l).Perm l:=by have:=Zmn key l [];rwa [qAj]at this
theorem Bs(key:Int->Int)(l:List Int):(L6 key l).Perm l:=(List.reverse_perm _).trans (Ps key l)
theorem Zl6{key:Int->Int}{x:Int}:∀{A:List Int} {k:Nat},(∀y∈A.take k,key x<key y)->(A.length<=k\/∃y r,A.drop k=y :: r/\¬ key x<key y)->Ud key x A=A.take k++x :: A.drop k
 | [],k,_,_=>by simp[Ud]
 | y :: r,0,_,h=>by
  rcases h with h | ⟨z,t,e,h⟩
  ·simp at h
  simp only[List.drop_zero,qBp]at e;obtain⟨rfl,rfl⟩:=e;rw[Ud,bY h];rfl
 | y :: r,k+1,h1,h=>by rw[Ud,iO (h1 y (by simp))];rw[Zl6 (k:=k) (λz hz=>h1 z (by simp[hz])) (by simpa using h)];rfl
theorem ZoA(p s:List Int)(x y:Int):((p++y :: x :: s).set (p.length+1) y).set p.length x=p++x :: y :: s:=by rw[List.set_append_right _ _ O,List.set_append_right _ _ O];simp
theorem Zvq(p s:List Int)(y:Int):el (p++y :: s) p.length=y:=by simp[el]
theorem Zvp(p s:List Int)(x y:Int):el (p++y :: x :: s) (p.length+1)=x:=by simp[el,qBH]
section
variable{P:bF}[Tz P][Loud P]{H:Hp}
def Lr(P:bF)(H:Hp)(r:Nat)(cv:Value)(key:Int->Int)(l:List Int):Prop:=
 ∀H',(∀b x,b≠r->H b=some x->H' b=some x)->∀p∈l,∀q∈l,ZX P cv #[vi p,vi q] H' λv H2=>H'=H2/\v=vi (key p-key q)
theorem ZuH(hA:H r=some (.cells (Zb l++rest).toArray 3 (0,0),true))(hl:l.length<=1000000)(hc:Lr P H r cv key l) :
  LL.Zc P 241 #[.slice (some ⟨r,0,none⟩) l.length cap,vi 0,vi l.length,cv] H λ_ H'=>AR H H' r (L6 key l) rest:=by
 refine aO.m (cF ZwL) (args:=[.slice (some ⟨r,0,none⟩) l.length cap,vi 0,vi l.length,cv]) rfl ?_;unfold Zj4;have h0:(VN key (l.take (0+1))).reverse++l.drop (0+1)=l:=by
  cases l with
  | nil=>rfl
  | cons x t=>simp[VN,Ud]
 refine Y ?_;refine Zw (l.length-1) (λm H'=>AR H H' r ((VN key (l.take (m+1))).reverse++l.drop (m+1)) rest) (λm=>[(0,.slice (some ⟨r,0,none⟩) l.length cap),(1,vi 0),(2,vi l.length),(3,cv),(8,vi ((m+1:Nat):Int))]) (λ_=>[]) (by rw[h0];exact AR.of hA) V trivial ?_;rintro m H1 hm ar;refine Y ?_;refine OI (λg1=>?_) (λg1=>?_)
 ·have Hq:m+1<l.length:=O;generalize Jj:VN key (l.take (m+1))=A at *;have hAl:A.length=m+1:=by rw[<-Jj,(Ps key _).length_eq,qBm];omega
  have hAm:∀z∈A,z∈l:=λz hz=>List.mem_of_mem_take ((Ps key (l.take (m+1))).mem_iff.1 (Jj ▸ hz));obtain⟨x,hx⟩:∃x,x=l[m+1]:=⟨_,rfl⟩;have Fu:x∈l:=hx ▸ IN Hq;have hd:l.drop (m+1)=x :: l.drop (m+2):=by rw[hx];exact JZ Hq
  have kA:VN key (l.take (m+1+1))=Ud key x A:=by rw[qAd Hq,ZoL,Jj,hx]
  refine Y ?_;refine Zw (m+1) (λk H'=>AR H H' r ((A.drop k).reverse++x :: ((A.take k).reverse++l.drop (m+2))) rest/\∀y∈A.take k,key x<key y)
   (λk=>[(0,.slice (some ⟨r,0,none⟩) l.length cap),(1,vi 0),(2,vi l.length),(3,cv),(8,vi ((m+1:Nat):Int)),(9,vi ((m+1-k:Nat):Int))]) (λ_=>[]) ⟨by rw[hd]at ar;simpa using ar,by simp⟩ V trivial ?_
  rintro k H2 hk ⟨kV,bV⟩;have gL:(A.length<=k\/∃y r,A.drop k=y :: r/\¬ key x<key y)->(A.drop k).reverse++x :: ((A.take k).reverse++l.drop (m+2))=(VN key (l.take (m+1+1))).reverse++l.drop (m+1+1):=λh=>by rw[kA,Zl6 bV h];simp
  have dJ:((A.drop k).reverse++x :: ((A.take k).reverse++l.drop (m+2))).length=l.length:=by simp;omega
  refine Y ?_;refine OI (λha=>?_) (λha=>?_)
  ·have P0:k<A.length:=O;obtain⟨y,hy⟩:∃y,y=A[k]:=⟨_,rfl⟩;have Fm:y∈l:=hAm y (hy ▸ IN P0);have Wf:A.drop k=y :: A.drop (k+1):=by rw[hy];exact JZ P0
   have rB:A.take (k+1)=A.take k++[y]:=by rw[qAd P0,hy]
   have tC:(A.drop k).reverse++x :: ((A.take k).reverse++l.drop (m+2))=(A.drop (k+1)).reverse++y :: x :: ((A.take k).reverse++l.drop (m+2)):=by rw[Wf];simp
   have l8:(A.drop (k+1)).reverse.length=m-k:=by simp;omega
   have sZ:m+1-k=m-k+1:=O;rw[tC]at kV dJ;have e0:el ((A.drop (k+1)).reverse++y :: x :: ((A.take k).reverse++l.drop (m+2))) (m-k)=y:=by rw[<-l8];exact Zvq _ _ _
   have e1:el ((A.drop (k+1)).reverse++y :: x :: ((A.take k).reverse++l.drop (m+2))) (m-k+1)=x:=by rw[<-l8];exact Zvp _ _ _ _
   have lA:(((A.drop (k+1)).reverse++y :: x :: ((A.take k).reverse++l.drop (m+2))).set (m-k+1) y).set (m-k) x=(A.drop (k+1)).reverse++x :: ((A.take (k+1)).reverse++l.drop (m+2)):=by rw[<-l8,ZoA,rB];simp
   generalize WI:(A.drop (k+1)).reverse++y :: x :: ((A.take k).reverse++l.drop (m+2))=c at *;obtain⟨j,hj⟩:∃j,m-k=j:=⟨_,rfl⟩;rw[hj]at e0 e1 lA sZ;rw[sZ];refine Y ?_;refine Zd (j+1) rfl rfl rfl O (Y ?_);refine Zg (OL _) rfl (kV.cA O rfl) (Y ?_);refine Zd j rfl rfl O O (Y ?_);refine Zg (OL _) rfl (kV.cA O rfl) (Y ?_);rw[e0,e1];refine ZN (vs:=[vi x,vi y]) rfl rfl (hc H2 kV.keep x Fu y Fm) ?_;rintro v _ ⟨rfl,rfl⟩;refine Y ?_;refine OI (λsV=>?_) (λsV=>?_)
   ·refine Y ?_;refine Zd j rfl rfl O O (Y ?_);refine Zg (Loud.aL _) rfl (AR.cA kV O rfl) (Y ?_);refine Zd (j+1) rfl rfl O O (Y ?_);refine Zg (Loud.aL _) rfl (AR.cA kV O rfl) (Y ?_);refine Zd (j+1) rfl rfl O O (Y ?_);refine ZU kV O (ZL _ _) rfl rfl λHW fQ=>?_;refine Zq Loud.aL (Y ?_);refine Zd j rfl rfl O O (Y ?_);refine ZU fQ (by rw[IF];omega) (ZL _ _) rfl rfl λH4 dV=>?_;rw[e0,e1,lA]at dV;refine Y ?_;refine⟨⟨k+1,O⟩,(by show m+1-(k+1)<j+1;omega),⟨dV,λz hz=>?_⟩,⟨rfl,rfl,rfl,rfl,rfl,?_,trivial⟩,trivial,rfl⟩
    ·rw[rB]at hz;rcases qAS.1 hz with hz | hz
     ·exact bV z hz
     obtain rfl:=DO.1 hz;omega
    show some (vi ((j+1:Nat)-1:Int))=some (vi ((m+1-(k+1):Nat):Int));congr 2;omega
   refine Y ?_;have hf:=gL (.inr ⟨y,_,Wf,O⟩);rw[tC]at hf;rw[hf]at kV;exact⟨⟨m+1,O⟩,dX O,kV,V,trivial,rfl⟩
  have P0:A.length<=k:=O;rw[gL (.inl P0)]at kV;refine Y ?_;exact⟨⟨m+1,O⟩,dX O,kV,V,trivial,rfl⟩
 have h2:VN key (l.take (m+1))=VN key l:=by rw[qBA O]
 rw[h2,qCE O,qAj]at ar;refine Y ?_;exact ar
theorem ZoK(hA:H r=some (.cells (Zb l++rest).toArray 3 (0,0),true))(hl:l.length<20)(hc:Lr P H r cv key l) :
  LL.Zc P 206 #[.slice (some ⟨r,0,none⟩) l.length cap,vi l.length,cv] H λ_ H'=>AR H H' r (L6 key l) rest:=by
 refine aO.m (cF ZwW) (args:=[.slice (some ⟨r,0,none⟩) l.length cap,vi l.length,cv]) rfl ?_;unfold Zkf;refine Y ?_;refine Zw 0 (λ_ H'=>H=H') (λ_=>[(0,.slice (some ⟨r,0,none⟩) l.length cap),(1,vi l.length),(2,cv),(6,vi 20),(7,vi 0),(8,vi 20)]) (λ_=>[]) rfl V trivial ?_;rintro _ _ _ rfl;refine Y ?_;refine OI (λg1=>?_) (λg1=>?_)
 ·exact absurd g1 O
 refine Y ?_;refine Za (vs:=[.slice (some ⟨r,0,none⟩) l.length cap,vi 0,vi l.length,cv]) rfl (ZuH hA O hc) ?_;rintro v H1 ar;refine Y ?_;refine Zw 0 (λ_ H'=>H1=H') (λ_=>[(1,vi l.length),(6,vi 20)]) (λ_=>[]) rfl V trivial ?_;rintro _ _ _ rfl;refine Y ?_;refine OI (λg2=>?_) (λg2=>?_)
 ·exact absurd g2 O
 refine Y ?_;exact ar
theorem ZyV(hA:H r=some (.cells (Zb l++rest).toArray 3 (0,0),true))(hl:l.length<20)(hc:Lr P H r cv key l) :
  LL.Zc P 159 #[.slice (some ⟨r,0,none⟩) l.length cap,cv] H λ_ H'=>AR H H' r (L6 key l) rest:=by
 refine aO.m (cF Zw7) (args:=[.slice (some ⟨r,0,none⟩) l.length cap,cv]) rfl ?_;unfold Zkq;refine Y ?_;refine Za (vs:=[.slice (some ⟨r,0,none⟩) l.length cap,vi l.length,cv]) rfl (ZoK hA hl hc) ?_;rintro v H1 ar;refine Y ?_;exact ar
end
structure Wk where
 (i o g d:Int)
def Wk.cells(w:Wk):List Value:=[vi w.i,vi w.o,vi w.g,vi w.d]
instance:Enc Wk:=⟨4,Wk.cells,λ_=>rfl⟩
def Wk.dD(w:Wk):Nat->Int->Wk
 | 0,z=>{ w with i:=z }
 | 1,z=>{ w with o:=z }
 | 2,z=>{ w with g:=z }
 | _,z=>{ w with d:=z }
def Wk.get(w:Wk):Nat->Int
 | 0=>w.i
 | 1=>w.o
 | 2=>w.g
 | _=>w.d
def fL(l:List Wk)(p:Nat):Wk:=l.getD p ⟨0,0,0,0⟩
theorem MD{l:List Wk}(w:Wk)(q:Nat)(h:p<l.length):fL (l.set p w) q=if q=p then w else fL l q:=by
 unfold fL;rw[qAo,qAo,qCY];by_cases e:q=p
 ·subst e;simp[h]
 rw[bY (qAi e),bY e]
theorem Qm{l:List Wk}(h:p<l.length):fL l p=l[p]:=ZA h _
theorem Zha(z:Int){f:Nat}(hf:f<4):∀(l:List Wk) (p:Nat) (_:p<l.length),ZH (Zb l) (p * 4+f) [vi z]=Zb (l.set p ((fL l p).dD f z))
 | [],p,h=>by simp at h
 | w :: l,0,h=>by
  match f,hf with
  | 0,_=>simp[Zb,Enc.enc,ZH,Wk.dD,Wk.cells,fL]
  | 1,_=>simp[Zb,Enc.enc,ZH,Wk.dD,Wk.cells,fL]
  | 2,_=>simp[Zb,Enc.enc,ZH,Wk.dD,Wk.cells,fL]
  | 3,_=>simp[Zb,Enc.enc,ZH,Wk.dD,Wk.cells,fL]
 | w :: l,p+1,h=>by
  have ih:=Zha z hf l p (by simpa using h);have e:Zb (w :: l)=Enc.enc w++Zb l:=by simp[Zb]
  rw[e,show(p+1) * 4+f=4+(p * 4+f)by omega,SO (n:=4) (Enc.len w),ih];simp[Zb,fL]
theorem ZmN(w:Wk)(hf:f<4):(Enc.enc w)[f]? = some (vi (w.get f)):=by
 match f,hf with
 | 0,_=>rfl
 | 1,_=>rfl
 | 2,_=>rfl
 | 3,_=>rfl
structure WK(G H:Hp)(ro rf:Nat)(out:List Wk)(fr:List Int):Prop where
 keep:∀b x,b≠ro->b≠rf->G b=some x->H b=some x
 out:H ro=some (.cells (Zb out).toArray 65,true)
 fr:H rf=some (.cells (Zb fr++[]).toArray 3,true)
 ne:ro≠rf
theorem WK.bA{H0 H:Hp}{out:List Wk}(h:WK G H ro rf out fr)(hi:bO H0 G)(h1:H0 ro=none)(h2:H0 rf=none):bO H0 H:=
 λb x hb=>h.keep b x (by rintro rfl;rw[h1]at hb;simp at hb) (by rintro rfl;rw[h2]at hb;simp at hb) (hi b x hb)
theorem WK.ar{H:Hp}{out:List Wk}(h:WK G H ro rf out fr):AR H H rf fr []:=AR.of h.fr
theorem WK.bW{H H':Hp}{out:List Wk}{bW:List Int}(h:WK G H ro rf out fr)(a:AR H H' rf bW []):WK G H' ro rf out bW:=
 ⟨λb x h1 h2 hb=>a.keep b x h2 (h.keep b x h1 h2 hb),a.keep _ _ h.ne h.out,a.at_,h.ne⟩
theorem WK.sl{H:Hp}{out:List Wk}(h:WK G H ro rf out fr):aV H (.slice (some ⟨rf,0,none⟩) fr.length c) fr:=by have:=h.fr;rw[qAj]at this;exact⟨_,c,rfl,λ_=>⟨_,rfl,ZC this⟩⟩
theorem WK.cW{H:Hp}{out:List Wk}(h:WK G H ro rf out fr)(f:Nat)(hf:f<4)(hp:p<out.length):aD H (((⟨ro,0,none⟩:Addr).add (p * 4)).add f) [vi ((fL out p).get f)]:=by
 rw[Vw,Vw,qAu];refine⟨rfl,_,_,h.out,λk hk=>?_⟩;have IM:k=0:=by simpa using hk
 subst IM;have e:=LK out p f hp hf;rw[ZmN _ hf,<-Qm hp]at e;have e':(Zb out)[p * 4+f]? = some (vi ((fL out p).get f)):=e;simpa[Obj.mH]using e'
section
variable{P:bF}[Tz P][Loud P]{H:Hp}{d:Option Nat}{next:aN->Hp->Prop}{σ:aN}{x y:Operand}
theorem XZ{a:Addr}{ty:Nat}{out:List Wk}{z:Int}(h:WK G H ro rf out fr)(hp:p<out.length)(hf:f<4)(e:a=((⟨ro,0,none⟩:Addr).add (p * 4)).add f)(e1:σ.get x=some (.pointer (some a)))(e2:σ.get y=some (vi z))
  (hn:∀H',WK G H' ro rf (out.set p ((fL out p).dD f z)) fr->next (σ.set d undef) H'):(bC.raw (.store 3 x y) ty).m P d next σ H:=by
 subst e;rw[Vw,Vw,qAu]at e1;refine OD (eI t3) e1 e2 h.out rfl (by rw[VG];show p * 4+f+1<=out.length * 4;omega) rfl (Loud.aL _) ?_;rw[show(vi z).cells.toList=[vi z]from rfl,Zha z hf out p hp];refine hn _ ⟨λb x h1 h2 hb=>?_,Hp.aF _ _ _,?_,h.ne⟩
 ·rw[Hp.aE _ _ h1];exact h.keep b x h1 h2 hb
 rw[Hp.aE _ _ (qAi h.ne)];exact h.fr
end
def oP(t:N4)(s:List Wk×List Int)(p:Int):List Wk×List Int:=
 (s.1.set p.toNat { fL s.1 p.toNat with i:=el s.2 (Zp s.2),o:=el s.2 (Zp s.2)+t.get p.toNat },s.2.set (Zp s.2) (el s.2 (Zp s.2)+t.get p.toNat))
def nM(b:Sb)(s:List Wk×List Int)(p:Int):List Wk×List Int:=
 (s.1.set p.toNat { fL s.1 p.toNat with g:=max (fL s.1 p.toNat).o (el s.2 (Zp s.2)),d:=max (fL s.1 p.toNat).o (el s.2 (Zp s.2))+(aZ b p.toNat).fK },s.2.set (Zp s.2) (max (fL s.1 p.toNat).o (el s.2 (Zp s.2))+(aZ b p.toNat).fK))
def CS(b:Sb):List Wk×List Int:=(List.replicate b.pk.length ⟨0,0,0,0⟩,List.replicate b.pl.toNat 0)
def tL(b:Sb)(t:N4)(l:List Int):List Wk×List Int:=l.foldl (oP t) (CS b)
def R3(out:List Wk)(p:Int):Int:=(fL out p.toNat).o
def V1(b:Sb)(t:N4)(l:List Int):List Int:=L6 (R3 (tL b t l).1) l
def TO(b:Sb)(out:List Wk)(l:List Int):List Wk×List Int:=l.foldl (nM b) (out,List.replicate b.hd.toNat 0)
def VM(b:Sb)(t:N4)(l:List Int):List Wk:=(TO b (tL b t l).1 (V1 b t l)).1
structure WB(n m:Nat)(c:Int)(s:List Wk×List Int):Prop where
 l1:s.1.length=n
 l2:s.2.length=m
 fr:∀k,0<=el s.2 k/\el s.2 k<=c
 o:∀p,0<=(fL s.1 p).o/\(fL s.1 p).o<=c
theorem WB.zero:WB n m 0 (List.replicate n ⟨0,0,0,0⟩,List.replicate m 0):=by
 refine⟨qBv,qBv,λk=>?_,λp=>?_⟩
 ·have:el (List.replicate m (0:Int)) k=0:=by unfold el;rw[qAo,List.getElem?_replicate];split<;>rfl
  show 0<=el (List.replicate m (0:Int)) k/\el (List.replicate m (0:Int)) k<=0;omega
 have:fL (List.replicate n ⟨0,0,0,0⟩) p=⟨0,0,0,0⟩:=by unfold fL;rw[qAo,List.getElem?_replicate];split<;>rfl
 show 0<=(fL (List.replicate n ⟨0,0,0,0⟩) p).o/\_;rw[this];exact⟨by decide,by decide⟩
theorem WB.fl{c:Int}{s:List Wk×List Int}(h:WB n m c s)(hm:1<=m):Zp s.2<s.2.length:=RU (by intro e;have:=h.l2;rw[e]at this;simp at this;omega)
theorem WB.oP{c:Int}{s:List Wk×List Int}(h:WB n m c s)(hm:1<=m)(ht:Yp t){p:Int}(hp:p.toNat<n)(hp4:p.toNat<4):WB n m (c+20) (oP t s p):=by
 have h1:=h.fr (Zp s.2);have h2:=ht p.toNat hp4;have h3:=h.fl hm;refine⟨(IF).trans h.l1,(IF).trans h.l2,λk=>?_,λq=>?_⟩
 ·have:=h.fr k;show 0<=el (s.2.set _ _) k/\el (s.2.set _ _) k<=_;rw[J0 _ _ h3];split<;>omega
 have:=h.o q;show 0<=(fL (s.1.set _ _) q).o/\(fL (s.1.set _ _) q).o<=_;rw[MD _ _ (by rw[h.l1];exact hp)];split
 ·show 0<=el s.2 (Zp s.2)+t.get p.toNat/\el s.2 (Zp s.2)+t.get p.toNat<=_;omega
 omega
theorem WB.nM{c:Int}{s:List Wk×List Int}(h:WB n m c s)(hm:1<=m){p:Int}(hp:p.toNat<n)(hg:1<=(aZ b p.toNat).fK/\(aZ b p.toNat).fK<=20):WB n m (c+20) (nM b s p):=by
 have h1:=h.fr (Zp s.2);have h2:=h.o p.toNat;have h3:=h.fl hm;refine⟨(IF).trans h.l1,(IF).trans h.l2,λk=>?_,λq=>?_⟩
 ·have:=h.fr k;show 0<=el (s.2.set _ _) k/\el (s.2.set _ _) k<=_;rw[J0 _ _ h3];split<;>omega
 have:=h.o q;show 0<=(fL (s.1.set _ _) q).o/\(fL (s.1.set _ _) q).o<=_;rw[MD _ _ (by rw[h.l1];exact hp)];split
 ·show 0<=(fL s.1 p.toNat).o/\(fL s.1 p.toNat).o<=_;omega
 omega
theorem Og{β:Type}(f:β->α->β)(s:β){l:List α}(h:j<l.length):(l.take (j+1)).foldl f s=f ((l.take j).foldl f s) l[j]:=by rw[qAd h,qCw];rfl
theorem Ck{b:Sb}{t:N4}(ok:fN b)(ht:Yp t){l:List Int}(hl:∀z∈l,0<=z/\z<b.pk.length):∀j,j<=l.length->WB b.pk.length b.pl.toNat (20 * j) ((l.take j).foldl (oP t) (CS b))
 | 0,_=>WB.zero
 | j+1,hj=>by have cH:j<l.length:=hj;have h:=hl _ (IN cH);have:=ok.n;have:=ok.pl;rw[Og _ _ cH,show(20 * ((j+1:Nat):Int))=20 * j+20 by omega];exact(Ck ok ht hl j O).oP O ht O O
theorem Cl{b:Sb}(ok:fN b){out:List Wk}{c:Int}(ho:out.length=b.pk.length)(hc:∀p,0<=(fL out p).o/\(fL out p).o<=c)(h0:0<=c){l:List Int}(hl:∀z∈l,0<=z/\z<b.pk.length) :
  ∀j,j<=l.length->WB b.pk.length b.hd.toNat (c+20 * j) ((l.take j).foldl (nM b) (out,List.replicate b.hd.toNat 0))
 | 0,_=>⟨ho,qBv,λk=>by have:=(WB.zero (n:=0) (m:=b.hd.toNat)).fr k;have h:0<=el (List.replicate b.hd.toNat (0:Int)) k/\el (List.replicate b.hd.toNat (0:Int)) k<=0:=this;show 0<=el (List.replicate b.hd.toNat 0) k/\el (List.replicate b.hd.toNat 0) k<=_;omega,λp=>by have:=hc p;show 0<=(fL out p).o/\(fL out p).o<=_;omega⟩
 | j+1,hj=>by have cH:j<l.length:=hj;have h:=hl _ (IN cH);have:=ok.n;have:=ok.hd;have hh:aZ b l[j].toNat=b.pk[l[j].toNat]'O:=ZA _ _;have hp:=ok.pk l[j].toNat O;rw[Og _ _ cH,show(c+20 * ((j+1:Nat):Int))=c+20 * j+20 by omega];exact(Cl ok ho hc h0 hl j O).nM O O (by rw[hh];exact hp.2.2.1)
theorem T65:Ym Tryz.prog 65=some (4,some (.agg #[vi 0,vi 0,vi 0,vi 0]),32):=U
theorem U61:Tryz.prog.underlying 61=some (.slice 65):=U
theorem T61:Ym Tryz.prog 61=some (1,some (.slice none 0 0),24):=U
theorem Zsv(w:Wk)(x y:Int):(w.dD 0 x).dD 1 y={ w with i:=x,o:=y }:=rfl
theorem Zsw(w:Wk)(x y:Int):(w.dD 2 x).dD 3 y={ w with g:=x,d:=y }:=rfl
section
variable{P:bF}[Tz P][Loud P]{H:Hp}
theorem ZnU{r7:Nat}{out:List Wk}{p q:Int}(h7:H r7=some (.cells #[.slice (some ⟨ro,0,none⟩) n n] 61,true))(ho:H ro=some (.cells (Zb out).toArray 65,true))(hn:out.length=n)(hp:0<=p/\p<n)(hq:0<=q/\q<n)(hb:∀p,0<=(fL out p).o/\(fL out p).o<=80) :
  LL.Zc P 160 #[vi p,vi q,pt r7] H λv H'=>H=H'/\v=vi (R3 out p-R3 out q):=by
 have cW:∀z:Nat,z<out.length->aD H (((⟨ro,0,none⟩:Addr).add (z * 4)).add 1) [vi (fL out z).o]:=λz hz=>by
  rw[Vw,Vw,qAu];refine⟨rfl,_,_,ho,λk hk=>?_⟩;have IM:k=0:=by simpa using hk
  subst IM;have e:=LK out z 1 hz (by decide);rw[ZmN _ (by decide),<-Qm hz]at e;have e':(Zb out)[z * 4+1]? = some (vi (fL out z).o):=e;simpa[Obj.mH]using e'
 refine aO.m (cF Zw6) (args:=[vi p,vi q,pt r7]) rfl ?_;unfold Zkp;have b1:=hb p.toNat;have b2:=hb q.toNat;refine Y ?_;refine Zg (OL _) rfl (ZC (cs:=[.slice (some ⟨ro,0,none⟩) n n]) h7) (Y ?_);refine Zd p.toNat rfl rfl O O (Y ?_);refine Zg (OL _) rfl (cW p.toNat O) (Y ?_);refine Zg (OL _) rfl (ZC (cs:=[.slice (some ⟨ro,0,none⟩) n n]) h7) (Y ?_);refine Zd q.toNat rfl rfl O O (Y ?_);refine Zg (OL _) rfl (cW q.toNat O) (Y ?_);exact⟨rfl,rfl⟩
theorem ZgE(hb:Zs H b)(ok:fN b)(hg:aD H ⟨1,0,none⟩ [vf 284])(ht:Yp t)(hl:aV H (.slice A l.length c) l)(oG:l.length=b.pk.length)(sU:∀z∈l,0<=z/\z<b.pk.length) :
  LL.Zc P 112 #[b.v,Zv t,.slice A l.length c] H λv H'=>bO H H'/\∃bb,fZ H H' 65 v (VM b t l) bb:=by
 refine aO.m (cF Zxy) (args:=[b.v,Zv t,.slice A l.length c]) rfl ?_;unfold ZkR Sb.v;have hn:=ok.n;have l8:=ok.pl;have l9:=ok.hd;refine Y ?_;refine Nu (n:=l.length) (dC U61) (eI T65) O O O rfl (OL _) λro HR=>?_;rw[show(4:Nat)=Enc.sz Wk from rfl,Pn (⟨0,0,0,0⟩:Wk) rfl (by decide) l.length];have i1:=Zt (o:=.cells (Zb (List.replicate l.length (⟨0,0,0,0⟩:Wk))).toArray 65) HR;have a1:(H.ins ro (.cells (Zb (List.replicate l.length (⟨0,0,0,0⟩:Wk))).toArray 65)) ro=some (.cells (Zb (List.replicate l.length (⟨0,0,0,0⟩:Wk))).toArray 65,true):=Hp.aF _ _ _;generalize H.ins ro (.cells (Zb (List.replicate l.length (⟨0,0,0,0⟩:Wk))).toArray 65)=H1 at *;refine Y ?_;refine Vs (eI T61) (OL _) λr7 KP=>Y ?_;refine Vp (eI T61) rfl rfl (Hp.aF _ _ _) rfl rfl (OL _) ?_;rw[Us];have i2:=i1.trans (Zt (o:=.cells #[.slice (some ⟨ro,0,none⟩) l.length l.length] 61) KP);have a2:=Zt (o:=.cells #[.slice (some ⟨ro,0,none⟩) l.length l.length] 61) KP _ _ a1;have b2:(H1.ins r7 (.cells #[.slice (some ⟨ro,0,none⟩) l.length l.length] 61)) r7=some (.cells #[.slice (some ⟨ro,0,none⟩) l.length l.length] 61,true):=Hp.aF _ _ _;have aIT:H r7=none:=YK i1 KP;have CU:r7≠ro:=by rintro rfl;rw[KP]at a1;simp at a1
 generalize H1.ins r7 (.cells #[.slice (some ⟨ro,0,none⟩) l.length l.length] 61)=H2 at *;have epl:vi b.pl=vi (b.pl.toNat:Int):=by congr 1;omega
 rw[epl];refine Y ?_;refine Nu (n:=b.pl.toNat) (dC oO) (eI t3) O O O rfl (OL _) λrp PA=>?_;rw[show b.pl.toNat * 1=b.pl.toNat * Enc.sz Int from rfl,Pn (0:Int) rfl (by decide) b.pl.toNat];have nro:ro≠rp:=by rintro rfl;rw[PA]at a2;simp at a2
 have TS:r7≠rp:=by rintro rfl;rw[PA]at b2;simp at b2
 have N9:H rp=none:=YK i2 PA;have w0:WK H2 (H2.ins rp (.cells (Zb (List.replicate b.pl.toNat (0:Int))).toArray 3)) ro rp (CS b).1 (CS b).2:=
  ⟨λb x h1 h2 h=>Zt PA _ _ h,by rw[Zt PA _ _ a2,oG];rfl,by rw[qAj];exact Hp.aF _ _ _,nro⟩
 generalize H2.ins rp (.cells (Zb (List.replicate b.pl.toNat (0:Int))).toArray 3)=H3 at *;refine Y ?_;refine Zw l.length (λj H'=>WK H2 H' ro rp ((l.take j).foldl (oP t) (CS b)).1 ((l.take j).foldl (oP t) (CS b)).2)
  (λj=>[(2,.slice A l.length c),(3,vi 0),(4,vi 0),(7,pt r7),(8,.slice (some ⟨rp,0,none⟩) b.pl.toNat b.pl.toNat),(24,.slice A l.length c),(25,vi l.length),(26,vi j)]) (λ_=>[(3,[vi (b.pl.toNat:Int),vi b.hd,vi b.td,.slice b.A1 b.pk.length b.c1,.slice b.A2 b.nt.length b.c2]),(4,t.cells)]) w0 V V ?_
 rintro j H4 hj w4;refine Y ?_;refine OI (λh1=>?_) (λh1=>?_)
 ·have cH:j<l.length:=O;have wb:=Ck ok ht sU j O;have GC:=Og (oP t) (CS b) cH;generalize(l.take j).foldl (oP t) (CS b)=s at *;have tR:=w4.bA i2 HR N9;have hz:=sU _ (IN cH);refine Y ?_;refine Zx (hl.bA tR) rfl rfl rfl (i:=j) cH λa ha=>?_;generalize l[j]=z at *;have To:z.toNat<4:=O;have Fj:z.toNat<s.1.length:=by rw[wb.l1];omega
  have hf:=wb.fl O;have I0:Zp s.2<b.pl.toNat:=by rw[<-wb.l2];exact hf
  have b1:=wb.fr (Zp s.2);have b2':=ht z.toNat To;refine Y ?_;refine Zg (OL _) rfl ha (Y ?_);refine Zl (cs:=[vf 284]) (OL _) rfl (aD.bA hg tR) rfl (Y ?_);refine Za (vs:=[.agg #[vf 284],.slice (some ⟨rp,0,none⟩) b.pl.toNat b.pl.toNat]) rfl (ZlY (by rw[<-wb.l2];exact w4.sl) (by rw[wb.l2];omega)) ?_;rintro v _ ⟨rfl,rfl⟩;refine Y ?_;refine Zg (OL _) rfl (ZC (w4.keep r7 _ CU TS b2)) (Y ?_);refine Zd (Zp s.2) rfl rfl rfl I0 (Y ?_);refine Zg (OL _) rfl (w4.ar.cA hf rfl) (Y ?_);refine Zd z.toNat rfl rfl O O (Y ?_);refine XZ w4 Fj (f:=0) (by decide) rfl rfl rfl λH5 w5=>Y ?_;refine Zd (Zp s.2) rfl rfl rfl I0 (Y ?_);refine Zg (OL _) rfl (w5.ar.cA hf rfl) (Y ?_);refine ZiO (j:=z) rfl rfl ⟨O,by show z<((4:Nat):Int);omega⟩ (Y ?_);refine LP (v:=vi (t.get z.toNat)) (OL _) rfl rfl (by
   generalize z.toNat=i at *;match i,To with
   | 0,_=>rfl
   | 1,_=>rfl
   | 2,_=>rfl
   | 3,_=>rfl) ?_
  refine Y ?_;refine Zd (Zp s.2) rfl rfl rfl I0 (Y ?_);refine ZU w5.ar hf (ZL _ _) rfl rfl λH6 iI=>?_;have w6:=w5.bW iI;refine Y ?_;refine Zg (OL _) rfl (ZC (w6.keep r7 _ CU TS b2)) (Y ?_);refine Zd (Zp s.2) rfl rfl rfl I0 (Y ?_);refine Zg (OL _) rfl (w6.ar.cA (by rw[IF];exact hf) rfl) (Y ?_);refine Zd z.toNat rfl rfl O O (Y ?_);refine XZ w6 (by rw[IF];exact Fj) (f:=1) (by decide) rfl rfl rfl λH7 w7=>?_;rw[List.set_set,MD _ _ Fj,iO rfl,J0 _ _ hf,iO rfl,Zsv]at w7;refine Y ?_;exact⟨⟨j+1,O⟩,dX O,by rw[GC];exact w7,V,V,rfl⟩
 have:j=l.length:=O;subst this;have wb:=Ck ok ht sU l.length (aC _);rw[qAw]at w4 wb;have e1:l.foldl (oP t) (CS b)=tL b t l:=rfl;rw[e1]at w4 wb;have tR:=w4.bA i2 HR N9;refine Y ?_;refine Za (vs:=[.slice A l.length c]) rfl (ZnM (hl.bA tR) O (OL _)) ?_;rintro v H5 ⟨s5,(⟨e,_⟩ | ⟨bb,ow⟩)⟩
 ·exact absurd (qAC List.length e) (by simp only[List.length_nil];omega)
 obtain⟨_,⟨_,e,_⟩ | ⟨rt,cap,rest,rfl,rfl,h5,Jk,KV⟩⟩:=id ow.own
 ·exact absurd e O
 have HQ:H4 rt=none:=ow.fresh rt rfl;have FZ:H rt=none:=YK tR HQ;have uQ:(tL b t l).1.length=l.length:=by rw[wb.l1,oG]
 have o7:=s5.mem _ _ (w4.keep r7 _ CU TS b2);have oo:=s5.mem _ _ w4.out;have Eu:rt≠ro:=by rintro rfl;have:=w4.out;rw[HQ]at this;simp at this
 have Rv:rt≠r7:=by rintro rfl;have:=w4.keep _ _ CU TS b2;rw[HQ]at this;simp at this
 have Dq:∀p,0<=(fL (tL b t l).1 p).o/\(fL (tL b t l).1 p).o<=80:=λp=>by have:=wb.o p;omega
 refine Y ?_;refine VP rfl rfl (Y ?_);refine Za (vs:=[.slice (some ⟨rt,0,none⟩) l.length cap,.func (.func 160) #[] #[pt r7]]) rfl (ZyV (key:=R3 (tL b t l).1) h5 O (λH' hk p hp q hq=>Yk U (ZnU (hk _ _ (qAi Rv) o7) (hk _ _ (qAi Eu) oo) uQ (by have:=sU p hp;omega) (by have:=sU q hq;omega) Dq))) ?_;rintro v H6 iI;have et:L6 (R3 (tL b t l).1) l=V1 b t l:=rfl;rw[et]at iI;have tl:(V1 b t l).length=l.length:=(Bs _ _).length_eq;have tr:∀z∈V1 b t l,0<=z/\z<b.pk.length:=λz hz=>sU z ((Bs _ _).mem_iff.1 hz);generalize hT:V1 b t l=T at *;have T8:bO H H6:=iI.bA (tR.trans s5.bA) FZ;have o7:=iI.keep _ _ (qAi Rv) o7;have oo:=iI.keep _ _ (qAi Eu) oo;have ot:=iI.at_;have ehd:vi b.hd=vi (b.hd.toNat:Int):=by congr 1;omega
 rw[ehd];refine Y ?_;refine Nu (n:=b.hd.toNat) (dC oO) (eI t3) O O O rfl (OL _) λrh F0=>?_;rw[show b.hd.toNat * 1=b.hd.toNat * Enc.sz Int from rfl,Pn (0:Int) rfl (by decide) b.hd.toNat];have nho:ro≠rh:=by rintro rfl;rw[F0]at oo;simp at oo
 have KN:r7≠rh:=by rintro rfl;rw[F0]at o7;simp at o7
 have nth:rt≠rh:=by rintro rfl;rw[F0]at ot;simp at ot
 have HS:H rh=none:=YK T8 F0;have w7:WK H6 (H6.ins rh (.cells (Zb (List.replicate b.hd.toNat (0:Int))).toArray 3)) ro rh (tL b t l).1 (List.replicate b.hd.toNat 0):=
  ⟨λb x h1 h2 h=>Zt F0 _ _ h,Zt F0 _ _ oo,by rw[qAj];exact Hp.aF _ _ _,nho⟩
 generalize H6.ins rh (.cells (Zb (List.replicate b.hd.toNat (0:Int))).toArray 3)=H7 at *;have Ru:=wb.l1;have QW:VM b t l=((T.foldl (nM b) ((tL b t l).1,List.replicate b.hd.toNat 0)).1):=by rw[<-hT];rfl
 rw[QW];generalize(tL b t l).1=AA at *;refine Y ?_;refine Zw l.length (λj H'=>WK H6 H' ro rh ((T.take j).foldl (nM b) (AA,List.replicate b.hd.toNat 0)).1 ((T.take j).foldl (nM b) (AA,List.replicate b.hd.toNat 0)).2)
  (λj=>[(3,vi 0),(7,pt r7),(13,.slice (some ⟨rh,0,none⟩) b.hd.toNat b.hd.toNat),(68,.slice (some ⟨rt,0,none⟩) l.length cap),(69,vi l.length),(70,vi j)]) (λ_=>[(3,[vi (b.pl.toNat:Int),vi (b.hd.toNat:Int),vi b.td,.slice b.A1 b.pk.length b.c1,.slice b.A2 b.nt.length b.c2])]) w7 V V ?_
 rintro j H8 hj w8;refine Y ?_;refine OI (λh2=>?_) (λh2=>?_)
 ·have cH:j<T.length:=O;have CP:=Cl ok Ru Dq (by decide) tr j O;have GC:=Og (nM b) (AA,List.replicate b.hd.toNat 0) cH;generalize(T.take j).foldl (nM b) (AA,List.replicate b.hd.toNat 0)=s at *;have hi8:=w8.bA T8 HR HS;have hz:=tr _ (IN cH);have hT8:aV H8 (.slice (some ⟨rt,0,none⟩) l.length cap) T:=⟨_,cap,by rw[tl],λ_=>⟨_,rfl,YM (ZC (w8.keep rt _ Eu nth ot))⟩⟩;refine Y ?_;refine Zx hT8 rfl rfl rfl (i:=j) cH λa ha=>?_;generalize T[j]=z at *;obtain⟨i,rfl⟩:=Int.eq_ofNat_of_zero_le hz.1;have hi:i<b.pk.length:=O;have IS:i<s.1.length:=by rw[CP.l1];exact hi
  have hf:=CP.fl O;have I0:Zp s.2<b.hd.toNat:=by rw[<-CP.l2];exact hf
  have q1:=CP.fr (Zp s.2);have q2:=CP.o i;have hh:aZ b i=b.pk[i]:=ZA hi _;have q3:=(ok.pk i hi).2.2.1;rw[<-hh]at q3;refine Y ?_;refine Zg (OL _) rfl ha (Y ?_);refine Zl (cs:=[vf 284]) (OL _) rfl (aD.bA hg hi8) rfl (Y ?_);refine Za (vs:=[.agg #[vf 284],.slice (some ⟨rh,0,none⟩) b.hd.toNat b.hd.toNat]) rfl (ZlY (by rw[<-CP.l2];exact w8.sl) (by rw[CP.l2];omega)) ?_;rintro v _ ⟨rfl,rfl⟩;refine Y ?_;refine Zg (OL _) rfl (ZC (w8.keep r7 _ CU KN o7)) (Y ?_);refine Zg (OL _) rfl (ZC (w8.keep r7 _ CU KN o7)) (Y ?_);refine Zd i rfl rfl rfl O (Y ?_);refine Zg (OL _) rfl (w8.cW 1 (by decide) IS) (Y ?_);refine Zd (Zp s.2) rfl rfl rfl I0 (Y ?_);refine Zg (OL _) rfl (w8.ar.cA hf rfl) (Y ?_);refine LN rfl rfl (Y ?_);refine Zd i rfl rfl rfl O (Y ?_);refine XZ w8 IS (f:=2) (by decide) rfl rfl rfl λH9 w9=>?_;have P3:i<(s.1.set i ((fL s.1 i).dD 2 (max (fL s.1 i).o (el s.2 (Zp s.2))))).length:=by rw[IF];exact IS
  have eg:(fL (s.1.set i ((fL s.1 i).dD 2 (max (fL s.1 i).o (el s.2 (Zp s.2))))) i).get 2=max (fL s.1 i).o (el s.2 (Zp s.2)):=by rw[MD _ _ IS,iO rfl];rfl
  have w9:WK H6 H9 ro rh (s.1.set i ((fL s.1 i).dD 2 (max (fL s.1 i).o (el s.2 (Zp s.2))))) s.2:=w9;refine Y ?_;refine Zg (OL _) rfl (ZC (w9.keep r7 _ CU KN o7)) (Y ?_);refine Zg (OL _) rfl (ZC (w9.keep r7 _ CU KN o7)) (Y ?_);refine Zd i rfl rfl rfl O (Y ?_);refine Zg (OL _) rfl (w9.cW 2 (by decide) P3) ?_;rw[eg];refine Y ?_;refine Zx (hb.pk.bA (w9.bA T8 HR HS)) rfl rfl rfl (i:=i) hi λa ha=>?_;rw[<-hh]at ha;refine Y ?_;refine Zg (OL _) rfl (Ux (j:=3) ha rfl) (Y ?_);refine Zd i rfl rfl rfl O (Y ?_);refine XZ w9 P3 (f:=3) (by decide) rfl rfl rfl λHa wa=>?_;rw[List.set_set,MD _ _ IS,iO rfl,Zsw]at wa;have eg2:(fL (s.1.set i { fL s.1 i with g:=max (fL s.1 i).o (el s.2 (Zp s.2)),d:=max (fL s.1 i).o (el s.2 (Zp s.2))+(aZ b i).fK }) i).get 3=max (fL s.1 i).o (el s.2 (Zp s.2))+(aZ b i).fK:=by rw[MD _ _ IS,iO rfl];rfl
  refine Y ?_;refine Zg (OL _) rfl (ZC (wa.keep r7 _ CU KN o7)) (Y ?_);refine Zd i rfl rfl rfl O (Y ?_);refine Zg (OL _) rfl (wa.cW 3 (by decide) (by rw[IF];exact IS)) ?_;rw[eg2];refine Y ?_;refine Zd (Zp s.2) rfl rfl rfl I0 (Y ?_);refine ZU wa.ar hf (ZL _ _) rfl rfl λHb arb=>?_;have wb':=wa.bW arb;refine Y ?_;exact⟨⟨j+1,O⟩,dX O,by rw[GC];exact wb',V,V,rfl⟩
 have:j=T.length:=O;subst this;rw[qAw]at w8;have CP:=Cl ok Ru Dq (by decide) tr T.length (aC _);rw[qAw]at CP;refine Y ?_;refine Zg (OL _) rfl (ZC (w8.keep r7 _ CU KN o7)) (Y ?_);generalize T.foldl (nM b) (AA,List.replicate b.hd.toNat 0)=s at *;have e:s.1.length=l.length:=by rw[CP.l1,oG]
 refine⟨w8.bA T8 HR HS,some ro,⟨?_,.inr ⟨ro,l.length,[],rfl,by rw[e];rfl,by rw[qAj];exact w8.out,?_,by rw[e];exact aC _⟩⟩,λr h=>by obtain rfl:=dO h;exact HR⟩
 ·rw[VG]
 rw[qAj,VG,e]
end
