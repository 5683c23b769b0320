import Derived.Test.YtlhomfgcibjccaaGreatDoorP24
import Derived.Test.YtlhomfgcibjccaaGreatDoorP25
import Derived.Test.YtlhomfgcibjccaaGreatDoorP28
set_option linter.all false
set_option maxHeartbeats 8000000
set_option maxRecDepth 20000
section
open Go Go.LL
namespace Go.Proofs
section
variable{j c ct cp i:Nat}{b:Sb}{t:N4}{l lt lp:List Int}{v:Value}{A At Ap:Option Addr}{n:Int}
structure B4 where
 (a b c d:Bool)
def B4.dD(n:B4):Nat->Bool->B4
 | 0,z=>{ n with a:=z }
 | 1,z=>{ n with b:=z }
 | 2,z=>{ n with c:=z }
 | _,z=>{ n with d:=z }
def B4.get(n:B4):Nat->Bool
 | 0=>n.a
 | 1=>n.b
 | 2=>n.c
 | _=>n.d
abbrev B4.cs(n:B4)(e:Int):List Value:=[vb n.a,vb n.b,vb n.c,vb n.d,vi e]
abbrev GV(n:B4)(e:Int):Value:=.agg #[vb n.a,vb n.b,vb n.c,vb n.d,vi e]
theorem ZoN(n:B4)(e:Int)(z:Bool)(hj:j<4):ZH (n.cs e) (0+j * 1) [vb z]=(n.dD j z).cs e:=by
 match j,hj with
 | 0,_=>rfl
 | 1,_=>rfl
 | 2,_=>rfl
 | 3,_=>rfl
def U4(b:Sb)(w:List Wk):Nat->B4×Int
 | 0=>(⟨false,false,false,false⟩,0)
 | j+1=>((U4 b w j).1.dD j (decide ((fL w j).o+(aZ b j).fW<(fL w j).d)),max (U4 b w j).2 (fL w j).d)
def Yh(b:Sb)(t:N4)(l:List Int):B4×Int:=U4 b (VM b t l) (VM b t l).length
def JP(n:B4):Bool:=!n.a && !n.b && !n.c && !n.d
def J3(b:Sb)(w:B4×Int):Bool:=JP w.1 && decide (w.2<=b.td)
theorem Qi:Tryz.prog.underlying 145=some (.array 4 4):=U
theorem ZpE:DZ Tryz.prog 147=some ([("cold",145,0),("end",3,4)],false):=U
theorem ZyR:Ye Tryz.prog 145=some (some 4):=U
theorem a4:Ye Tryz.prog 4=some none:=U
theorem ZuX:RQ Tryz.prog 147=false:=U
theorem ZnT(ok:fN b)(ht:Yp t)(oG:l.length=b.pk.length)(sU:∀z∈l,0<=z/\z<b.pk.length):(VM b t l).length=b.pk.length/\∀p,0<=(fL (VM b t l) p).o/\(fL (VM b t l) p).o<=200:=by have hn:=ok.n;have h1:=Ck ok ht sU l.length (aC _);rw[qAw]at h1;have h1:WB b.pk.length b.pl.toNat (20 * l.length) (tL b t l):=h1;have tl:(V1 b t l).length=l.length:=(Bs _ _).length_eq;have h2:=Cl ok h1.l1 h1.o O (l:=V1 b t l) (λz hz=>sU z ((Bs _ _).mem_iff.1 hz)) _ (aC _);rw[qAw]at h2;have h2:WB b.pk.length b.hd.toNat (20 * l.length+20 * (V1 b t l).length) (TO b (tL b t l).1 (V1 b t l)):=h2;exact⟨h2.l1,λp=>by have:=h2.o p;show 0<=(fL (TO b (tL b t l).1 (V1 b t l)).1 p).o/\(fL (TO b (tL b t l).1 (V1 b t l)).1 p).o<=200;omega⟩
section
variable{P:bF}[Tz P][Loud P]{H:Hp}{g:Bool}{d:Nat}
theorem Ci{cs:Array Value}{off:Nat}(h:cs[off]? = some v)(Q:Value->Bool->Hp->Prop):cD P.toPQ (part 4 cs off) Q g H↔Q v g H:=by simp only[part,Zh,OT (E6 (P:=P) a4),iN,qAk,h,Zj]
theorem Zvh{a b:Bool}(Q:Bool->Bool->Hp->Prop):cD P.toPQ (Op.equalIn (d+1) 4 (vb a) (vb b)) Q g H↔Q (a == b) g H:=by simp only[Op.equalIn,Zh,Zy (dC (P:=P) Rl),Zj]
theorem Zvk{n:B4}(Q:Bool->Bool->Hp->Prop)(hq:Q (JP n) g H):cD P.toPQ (Op.equalIn (d+1+1) 145 (.agg #[vb n.a,vb n.b,vb n.c,vb n.d]) (.agg #[vb false,vb false,vb false,vb false])) Q g H:=by have p1:∀(x y z u:Bool) (Q:Value->Bool->Hp->Prop) g H,cD P.toPQ (part 4 #[vb x,vb y,vb z,vb u] 0) Q g H↔Q (vb x) g H:=λx y z u Q g H=>Ci rfl Q;have p2:∀(x y z u:Bool) (Q:Value->Bool->Hp->Prop) g H,cD P.toPQ (part 4 #[vb x,vb y,vb z,vb u] 1) Q g H↔Q (vb y) g H:=λx y z u Q g H=>Ci rfl Q;have p3:∀(x y z u:Bool) (Q:Value->Bool->Hp->Prop) g H,cD P.toPQ (part 4 #[vb x,vb y,vb z,vb u] 2) Q g H↔Q (vb z) g H:=λx y z u Q g H=>Ci rfl Q;have p4:∀(x y z u:Bool) (Q:Value->Bool->Hp->Prop) g H,cD P.toPQ (part 4 #[vb x,vb y,vb z,vb u] 3) Q g H↔Q (vb u) g H:=λx y z u Q g H=>Ci rfl Q;obtain⟨p9,i1,i2,i3,i4⟩:=(eI (P:=P) t4).ex;rw[Op.equalIn];simp only[Zh,Zy (dC (P:=P) Qi),Z6 i1,i2,Zj];unfold JP at hq;have hr:List.range' 0 4=[0,1,2,3]:=rfl;simp only[qBG,Std.Legacy.Range.size,qBg,qBb,Nat.div_one,hr,qBT,List.forIn_nil,Zh];obtain⟨a,b,c,e⟩:=n;cases a<;>cases b<;>cases c<;>cases e<;>simp[p1,p2,p3,p4,Zvh,Zh,Zj]at hq ⊢<;>exact hq
theorem Zvj{n:B4}{e:Int}(Q:Bool->Bool->Hp->Prop)(hq:Q (JP n) g H):cD P.toPQ (Op.equalIn (d+1+1+1) 147 (GV n e) (GV ⟨false,false,false,false⟩ e)) Q g H:=by
 have pA:∀(x y z u:Bool) (Q:Value->Bool->Hp->Prop) g H,cD P.toPQ (part 145 #[vb x,vb y,vb z,vb u,vi e] 0) Q g H↔Q (.agg #[vb x,vb y,vb z,vb u]) g H:=λx y z u Q g H=>ZsW ZyR Q;have pB:∀(x y z u:Bool) (Q:Value->Bool->Hp->Prop) g H,cD P.toPQ (part 3 #[vb x,vb y,vb z,vb u,vi e] 4) Q g H↔Q (vi e) g H:=λx y z u Q g H=>Vn rfl Q;obtain⟨f1,f2,hu,⟨n1,t1,o1⟩,⟨n2,t2,o2⟩,hs⟩:=Zhe (p:=P.toProgram) (by rw[Tz.prog (P:=P)];exact ZpE);rw[Op.equalIn];simp only[Zh,Zy hu,VZ,hs,iN,qAk,Zj];simp only[n1,n2,t1,t2,o1,o2,Zh,qCS,qBT,List.forIn_nil];rw[iO (show "cold"≠ "_" by decide)];simp only[Zh,pA];refine Zvk (P:=P) _ ?_;cases h:JP n
 ·rw[h]at hq;simp[Zh,Zj];exact hq
 rw[h]at hq;simp[Zh,Zj,pB,WO];exact hq
theorem Bj(hb:Zs H b)(ok:fN b)(hg:aD H ⟨1,0,none⟩ [vf 284])(ht:Yp t)(hl:aV H (.slice A l.length c) l)(oG:l.length=b.pk.length)(sU:∀z∈l,0<=z/\z<b.pk.length) :
  LL.Zc P 113 #[b.v,Zv t,.slice A l.length c] H λv H'=>bO H H'/\v=GV (Yh b t l).1 (Yh b t l).2:=by
 refine aO.m (cF Zxx) (args:=[b.v,Zv t,.slice A l.length c]) rfl ?_;unfold ZkQ Sb.v;obtain⟨wl,wo⟩:=ZnT ok ht oG sU;have hn:=ok.n;refine Y ?_;refine Za (vs:=[b.v,Zv t,.slice A l.length c]) rfl (ZgE hb ok hg ht hl oG sU) ?_;rintro v H1 ⟨i1,bb,ow⟩;have jR:=ow.sl;unfold Yh;generalize VM b t l=w at *;obtain⟨Aw,cw,rfl,_⟩:=id jR;refine Y ?_;refine Zw w.length (λj H'=>H1=H') (λj=>[(3,vi 0),(6,vi 0),(7,vi 0),(13,.slice Aw w.length cw),(14,vi w.length),(15,vi j)]) (λj=>[(3,b.cs),(6,[vb false,vb false,vb false,vb false,vi 0]),(7,(U4 b w j).1.cs (U4 b w j).2)]) rfl V V ?_;rintro j _ hj rfl;refine Y ?_;refine OI (λh1=>?_) (λh1=>?_)
 ·have cH:j<w.length:=O;have BM:j<4:=O;have hi:j<b.pk.length:=O;have ew:w[j]=fL w j:=(Qm cH).symm;have eb:b.pk[j]=aZ b j:=(ZA hi _).symm;have q1:=wo j;have q2:=(ok.pk j hi).2.2.2;rw[eb]at q2;refine Y ?_;refine Zx jR rfl rfl rfl (i:=j) cH λa ha=>?_;rw[ew]at ha;refine Y ?_;refine Zl (cs:=(fL w j).cells) (OL _) rfl ha rfl (Y ?_);refine Zx (hb.pk.bA i1) rfl rfl rfl (i:=j) hi λa ha=>?_;rw[eb]at ha;refine Y ?_;refine Zg (OL _) rfl (Ux (j:=4) ha rfl) (Y ?_);refine KB (j:=j) rfl rfl BM (Y ?_);refine LQ (OL _) rfl rfl rfl rfl (by show 0+j * 1+1<=5;omega) rfl ?_;have JK:ZH ((U4 b w j).1.cs (U4 b w j).2) (0+j * 1) (Value.cells (vb (decide ((fL w j).o+(aZ b j).fW<(fL w j).d)))).toList=((U4 b w j).1.dD j (decide ((fL w j).o+(aZ b j).fW<(fL w j).d))).cs (U4 b w j).2:=ZoN _ _ _ BM;rw[JK];refine Y ?_;refine LN rfl rfl (Y ?_);exact⟨⟨j+1,O⟩,dX O,rfl,V,V,rfl⟩
 have:j=w.length:=O;subst this;refine Y ?_;exact⟨i1,rfl⟩
theorem ZsE(e:Int):LL.Zc P 182 #[vi e] H λv H'=>H=H'/\v=GV ⟨false,false,false,false⟩ e:=by refine aO.m (cF ZwY) (args:=[vi e]) rfl ?_;unfold Zkh;refine Y ?_;exact⟨rfl,rfl⟩
theorem ZuU(w:B4×Int):LL.Zc P 144 #[b.v,GV w.1 w.2] H λv H'=>H=H'/\v=vb (J3 b w):=by refine aO.m (cF Zxf) (args:=[b.v,GV w.1 w.2]) rfl ?_;unfold Zky Sb.v;refine Y ?_;refine Za (vs:=[vi w.2]) rfl (ZsE _) ?_;rintro v _ ⟨rfl,rfl⟩;refine Y ?_;refine ZiZ (xs:=#[vb w.1.a,vb w.1.b,vb w.1.c,vb w.1.d,vi w.2]) (ys:=#[vb false,vb false,vb false,vb false,vi w.2]) (b:=JP w.1) ZuX (λQ g H hq=>Zvj Q hq) rfl rfl ?_;unfold J3;cases hz:JP w.1<;>refine Y ?_<;>exact⟨rfl,rfl⟩
end
theorem Zit{n:Nat}{l:List Int}:∀{k:Nat},VA n l k=0->∀i (h:i<l.length),i<k->(0<=l[i]/\l[i]<n)/\(l.take i).any (λz=>l[i] == z)=false
 | 0,_,_,_,hi=>absurd hi (qBh _)
 | k+1,h,i,hl,hi=>by
  rw[VA]at h;split at h
  ·rename_i h1;exact absurd h h1
  rename_i h1;rcases qCv.1 hi with h' | rfl
  ·exact Zit (by simpa using h1) i hl h'
  rw[ZA hl]at h;split at h
  ·simp at h
  split at h
  ·simp at h
  rename_i h2 h3;exact⟨O,Bool.eq_false_iff.2 h3⟩
theorem U7(h:Yq b l=0):l.length=b.pk.length/\(∀z∈l,0<=z/\z<b.pk.length)/\l.Nodup:=by
 unfold Yq at h;split at h
 ·simp at h
 rename_i h1;have hz:=Zit h;refine⟨O,λz CW=>?_,?_⟩
 ·obtain⟨i,hi,rfl⟩:=qAJ.1 CW;exact(hz i hi hi).1
 rw[List.nodup_iff_pairwise_ne,qBK];intro i j hi hj nU e;have:=(hz j hj hj).2;rw[List.any_eq_false]at this;exact this l[i] (List.mem_take_iff_getElem.2 ⟨i,O,rfl⟩) (by simpa using e.symm)
theorem Bx(h:Ul b l=0):l.length=b.pk.length/\∀z∈l,1<=z/\z<=20:=by
 unfold Ul at h;split at h
 ·simp at h
 split at h
 ·simp at h
 rename_i h1 h2;refine⟨O,λz hz=>oR λe=>h2 (qBL.2 ⟨z,hz,?_⟩)⟩;simp only[SV,qAP,qBQ];exact e
theorem n4g(hj:j<4):(Ys l).get j=l.getD j 0:=N4.AC _ hj
theorem Pd(h:∀z∈l,1<=z/\z<=20):Yp (Ys l):=λj hj=>by
 rw[n4g hj,qAo];cases e:l[j]? with
 | none=>exact⟨by decide,by decide⟩
 | some z=>
  have:=h z (List.mem_of_getElem? e);exact⟨by show(0:Int)<=z;omega,this.2⟩
def Z9(b:Sb)(lt lp:List Int):Int:=if ZF b≠0 then ZF b else if Ul b lt≠0 then Ul b lt else Yq b lp
def OP:Value:=.agg #[vi 0,vi 0,vi 0,.slice none 0 0,.slice none 0 0]
def Od(a c:Int)(l:List Int):Int×Int:=l.foldl (λs n=>(min s.1 n,max s.2 n)) (a,c)
def jK(c:B4):Nat->List Int
 | 0=>[]
 | j+1=>if c.get j=true then jK c j++[(j:Int)]else jK c j
def LH(b:Sb)(t:N4)(l:List Int):List Int:=jK (Yh b t l).1 4
theorem Zm2(c:B4):∀j,(jK c j).length<=j
 | 0=>aC 0
 | j+1=>by
  have:=Zm2 c j;unfold jK;split
  ·simp;omega
  omega
section
variable{P:bF}[Tz P][Loud P]{H:Hp}
theorem Zup{a c:Int}(hl:aV H v l)(hn:l.length<=1000000):LL.Zc P 143 #[.agg #[vi a,vi c],v] H λw H'=>H=H'/\w=.agg #[vi (Od a c l).1,vi (Od a c l).2]:=by
 refine aO.m (cF Zxg) (args:=[.agg #[vi a,vi c],v]) rfl ?_;unfold Zkz;refine Y ?_;refine YD hl rfl (Y ?_);refine Zw l.length (λj H'=>H=H') (λj=>[(2,vi 0),(4,vi 0),(7,v),(8,vi l.length),(9,vi j)]) (λj=>[(2,[vi (Od a c (l.take j)).1,vi (Od a c (l.take j)).2]),(4,[vi 0,vi 0])]) rfl V V ?_;rintro j _ hj rfl;refine Y ?_;refine OI (λh1=>?_) (λh1=>?_)
 ·have cH:j<l.length:=O;have e:Od a c (l.take (j+1))=(min (Od a c (l.take j)).1 l[j],max (Od a c (l.take j)).2 l[j]):=by unfold Od;rw[Og _ _ cH]
  refine Y ?_;refine Zx hl rfl rfl rfl (i:=j) cH λa ha=>Y ?_;refine Zg (OL _) rfl ha (Y ?_);refine ZiH rfl rfl (Y ?_);refine LN rfl rfl (Y ?_);exact⟨⟨j+1,O⟩,dX O,rfl,V,⟨by rw[e];rfl,rfl,trivial⟩,rfl⟩
 have:j=l.length:=O;subst this;rw[qAw];refine Y ?_;exact⟨rfl,rfl⟩
theorem Pb(hb:Zs H b)(sz:b.Sz)(hg:Yl H)(ht:aV H (.slice At lt.length ct) lt)(hp:aV H (.slice Ap lp.length cp) lp)(EL:lp.length<=cp)(uR:lt.length<=1000000)(BH:lp.length<=1000000) :
  LL.Zc P 111 #[b.v,.slice At lt.length ct,.slice Ap lp.length cp] H λv H'=>bO H H'/\((Z9 b lt lp≠0/\v=.tuple #[OP,Zv ⟨0,0,0,0⟩,vi (Z9 b lt lp)])\/(Z9 b lt lp=0/\fN b/\Ul b lt=0/\Yq b lp=0/\v=.tuple #[b.v,Zv (Ys lt),vi 0])):=by
 refine aO.m (cF Zxz) (args:=[b.v,.slice At lt.length ct,.slice Ap lp.length cp]) rfl ?_;unfold ZkS Sb.v;refine Y ?_;refine Za (vs:=[b.v]) rfl (L3 hb sz hg) ?_;rintro v H1 ⟨i1,rfl⟩;refine Y ?_;refine OI (λh1=>?_) (λh1=>?_)
 ·have e:Z9 b lt lp=ZF b:=iO h1;refine Y ?_;exact⟨i1,.inl ⟨by rw[e];exact h1,by rw[e];rfl⟩⟩
 have ok:=U2 (b:=b) h1;refine Y ?_;refine Za (vs:=[b.v,.slice At lt.length ct]) rfl (Zoh (ht.bA i1) uR sz.pk) ?_;rintro v _ ⟨rfl,rfl⟩;refine Y ?_;refine OI (λh2=>?_) (λh2=>?_)
 ·have e:Z9 b lt lp=Ul b lt:=by rw[Z9,bY O,iO h2]
  refine Y ?_;exact⟨i1,.inl ⟨by rw[e];exact h2,by rw[e];rfl⟩⟩
 have C7:Ul b lt=0:=O;refine Y ?_;refine Za (vs:=[b.v,.slice Ap lp.length cp]) rfl (Mf (hp.bA i1) EL BH sz.pk) ?_;rintro v _ ⟨rfl,rfl⟩;refine Y ?_;refine OI (λh3=>?_) (λh3=>?_)
 ·have e:Z9 b lt lp=Yq b lp:=by rw[Z9,bY O,bY O]
  refine Y ?_;exact⟨i1,.inl ⟨by rw[e];exact h3,by rw[e];rfl⟩⟩
 have e:Z9 b lt lp=0:=by rw[Z9,bY O,bY O];omega
 refine Y ?_;refine Za (vs:=[.slice At lt.length ct]) rfl (Zog (ht.bA i1) (by have:=(Bx C7).1;have:=ok.n;omega)) ?_;rintro v H2 ⟨s2,rfl⟩;refine Zq OL (Y ?_);exact⟨i1.trans s2.bA,.inr ⟨e,ok,C7,O,rfl⟩⟩
theorem Xz(hb:Zs H b)(sz:b.Sz)(hg:Yl H)(fU:aD H ⟨1,0,none⟩ [vf 284])(ht:aV H (.slice At lt.length ct) lt)(hp:aV H (.slice Ap lp.length cp) lp)(EL:lp.length<=cp)(uR:lt.length<=1000000)(BH:lp.length<=1000000) :
  LL.Zc P 45 #[b.v,.slice At lt.length ct,.slice Ap lp.length cp] H λv H'=>bO H H'/\∃w,v=.tuple #[w,vi (Z9 b lt lp)]/\((Z9 b lt lp≠0/\w=.slice none 0 0)\/(Z9 b lt lp=0/\∃bb,fZ H H' 65 w (VM b (Ys lt) lp) bb)):=by
 refine aO.m (cF Zx1) (args:=[b.v,.slice At lt.length ct,.slice Ap lp.length cp]) rfl ?_;unfold Zlk Sb.v;refine Y ?_;refine Za (vs:=[b.v,.slice At lt.length ct,.slice Ap lp.length cp]) rfl (Pb hb sz hg ht hp EL uR BH) ?_;rintro v H1 ⟨i1,(⟨h0,rfl⟩ | ⟨h0,ok,h2,h3,rfl⟩)⟩
 ·unfold OP;refine Y ?_;refine OI (λh1=>?_) (λh1=>?_)
  ·refine Y ?_;exact⟨i1,_,rfl,.inl ⟨h0,rfl⟩⟩
  exact absurd h1 h0
 refine Y ?_;refine Za (vs:=[b.v,Zv (Ys lt),.slice Ap lp.length cp]) rfl (ZgE (hb.bA i1) ok (fU.bA i1) (Pd (Bx h2).2) (hp.bA i1) (U7 h3).1 (U7 h3).2.1) ?_;rintro v H2 ⟨i2,bb,ow⟩;refine Y ?_;exact⟨i1.trans i2,_,by rw[h0];rfl,.inr ⟨h0,bb,ow.own,λr e=>YK i1 (ow.fresh r e)⟩⟩
theorem Zzf(hb:Zs H b)(sz:b.Sz)(hg:Yl H)(fU:aD H ⟨1,0,none⟩ [vf 284])(ht:aV H (.slice At lt.length ct) lt)(hp:aV H (.slice Ap lp.length cp) lp)(EL:lp.length<=cp)(uR:lt.length<=1000000)(BH:lp.length<=1000000) :
  LL.Zc P 73 #[b.v,.slice At lt.length ct,.slice Ap lp.length cp] H λv H'=>bO H H'/\v=.tuple #[vi (if Z9 b lt lp=0 then(Yh b (Ys lt) lp).2 else 0),vi (Z9 b lt lp)]:=by
 refine aO.m (cF ZxT) (args:=[b.v,.slice At lt.length ct,.slice Ap lp.length cp]) rfl ?_;unfold Zlc Sb.v;refine Y ?_;refine Za (vs:=[b.v,.slice At lt.length ct,.slice Ap lp.length cp]) rfl (Pb hb sz hg ht hp EL uR BH) ?_;rintro v H1 ⟨i1,(⟨h0,rfl⟩ | ⟨h0,ok,h2,h3,rfl⟩)⟩
 ·unfold OP;refine Y ?_;refine OI (λh1=>?_) (λh1=>?_)
  ·refine Y ?_;exact⟨i1,by rw[bY h0];rfl⟩
  exact absurd h1 h0
 refine Y ?_;refine Za (vs:=[b.v,Zv (Ys lt),.slice Ap lp.length cp]) rfl (Bj (hb.bA i1) ok (fU.bA i1) (Pd (Bx h2).2) (hp.bA i1) (U7 h3).1 (U7 h3).2.1) ?_;rintro v H2 ⟨i2,rfl⟩;refine Y ?_;exact⟨i1.trans i2,by rw[iO h0,h0];rfl⟩
theorem ZnK(hb:Zs H b)(sz:b.Sz)(hg:Yl H)(fU:aD H ⟨1,0,none⟩ [vf 284])(ht:aV H (.slice At lt.length ct) lt)(hp:aV H (.slice Ap lp.length cp) lp)(EL:lp.length<=cp)(uR:lt.length<=1000000)(BH:lp.length<=1000000) :
  LL.Zc P 46 #[b.v,.slice At lt.length ct,.slice Ap lp.length cp] H λv H'=>bO H H'/\∃w bb,v=.tuple #[w,vi (Z9 b lt lp)]/\fZ H H' 3 w (if Z9 b lt lp=0 then LH b (Ys lt) lp else[]) bb:=by
 refine aO.m (cF Zx0) (args:=[b.v,.slice At lt.length ct,.slice Ap lp.length cp]) rfl ?_;unfold Zlj Sb.v;refine Y ?_;refine Za (vs:=[b.v,.slice At lt.length ct,.slice Ap lp.length cp]) rfl (Pb hb sz hg ht hp EL uR BH) ?_;rintro v H1 ⟨i1,(⟨h0,rfl⟩ | ⟨h0,ok,h2,h3,rfl⟩)⟩
 ·unfold OP;refine Y ?_;refine OI (λh1=>?_) (λh1=>?_)
  ·refine Y ?_;exact⟨i1,_,none,rfl,by rw[bY h0];exact .nil H _ 3⟩
  exact absurd h1 h0
 refine Y ?_;refine Za (vs:=[b.v,Zv (Ys lt),.slice Ap lp.length cp]) rfl (Bj (hb.bA i1) ok (fU.bA i1) (Pd (Bx h2).2) (hp.bA i1) (U7 h3).1 (U7 h3).2.1) ?_;rintro v H2 ⟨i2,rfl⟩;rw[iO h0,h0];unfold LH;have jI:=i1.trans i2;generalize Yh b (Ys lt) lp=w at *;refine Y ?_;refine ZQ (α:=Value×Option Nat) 4 (λj s H'=>bO H H'/\fZ H H' 3 s.1 (jK w.1 j) s.2) (λj s=>[(11,s.1),(29,.agg #[vb w.1.a,vb w.1.b,vb w.1.c,vb w.1.d]),(30,vi j)]) (λ_ _=>[]) (.slice none 0 0,none) ⟨jI,.nil H _ 3⟩ V trivial ?_;rintro j ⟨s,bs⟩ H3 hj ⟨i3,os⟩;simp only at os;refine Y ?_;refine OI (λh4=>?_) (λh4=>?_)
 ·have BM:j<4:=O;refine Y ?_;refine MP (v:=vb (w.1.get j)) (dC Qi) (eI t4) (E6 a4) rfl rfl BM (by
   match j,BM with
   | 0,_=>rfl
   | 1,_=>rfl
   | 2,_=>rfl
   | 3,_=>rfl) ?_
  refine Y ?_;cases hc:w.1.get j with
  | false=>
   have e:jK w.1 (j+1)=jK w.1 j:=by rw[jK,bY (by rw[hc];decide)]
   refine Y ?_;exact⟨(⟨j+1,O⟩,(s,bs)),dX O,⟨i3,by rw[e];exact os⟩,V,trivial,rfl⟩
  | true=>
   have e:jK w.1 (j+1)=jK w.1 j++[(j:Int)]:=by rw[jK,iO hc]
   have bV:=Zm2 w.1 j;refine Y ?_;refine Z0 (cs:=[vi (j:Int)]) (OL _) rfl λr6 oF=>Y ?_;refine Oa (l':=[(j:Int)]) (dC oO) (dC oO) (eI t3) rfl (by decide) (i3.trans (Zt oF)) (os.ins oF) (Z2 (l:=[(j:Int)])) rfl (by simp only[qAO,List.length_nil];omega) O rfl rfl (OL _) λv' H6 b' k1 k2 k3=>Y ?_;exact⟨(⟨j+1,O⟩,(v',b')),dX O,⟨k1,by rw[e];exact k2⟩,V,trivial,rfl⟩
 have:j=4:=O;subst this;refine Y ?_;exact⟨i3,_,bs,rfl,os⟩
end
theorem Zhv{b:Sb}(ok:fN b):∀(r:Nat) (m:N4),r<=b.pk.length->Yp m->∀t∈dS b r m,Yp t
 | 0,m,_,hm,t,ht=>by
  rw[dS]at ht;split at ht
  ·obtain rfl:=DO.1 ht;exact hm
  simp at ht
 | r+1,m,hr,hm,t,ht=>by
  rw[dS]at ht;have hi:b.pk.length-(r+1)<b.pk.length:=O;have PF:aZ b (b.pk.length-(r+1))=b.pk[b.pk.length-(r+1)]:=ZA hi _;have hp:=ok.pk _ hi;rw[<-PF]at hp;generalize b.pk.length-(r+1)=i at *;have key:∀c:Nat,(c:Int)<=(aZ b i).hi-(aZ b i).lo+1->t∈rZ (λv=>dS b r (m.dD i v)) (aZ b i).hi c->Yp t:=by
   intro c;induction c with
   | zero=>intro _ h;simp[rZ]at h
   | succ c ih=>
    intro hc h;rw[rZ]at h;rcases qAS.1 h with h | h
    ·exact Zhv ok r _ O (hm.dD i ⟨O,O⟩) t h
    exact ih O h
  exact key _ O ht
theorem LZ(ok:fN b):∀t∈Zi b,Yp t:=Zhv ok _ _ (aC _) Zma
structure Td where
 (lo hi kT:Int) (eV:N4)
abbrev Td.cs(x:Td)(pl:Value):List Value:=[pl,vi x.lo,vi x.hi,vi x.kT,vi x.eV.a,vi x.eV.b,vi x.eV.c,vi x.eV.d]
abbrev zC(x:Td)(pl:Value):Value:=.agg #[pl,vi x.lo,vi x.hi,vi x.kT,vi x.eV.a,vi x.eV.b,vi x.eV.c,vi x.eV.d]
def Yv(c:N4)(w:B4):Nat->N4
 | 0=>c
 | i+1=>if w.get i=true then(Yv c w i).dD i ((Yv c w i).get i+1)else Yv c w i
def V2(b:Sb)(l:List Int)(s:Td)(t:N4):Td:=
 ⟨min s.lo (Yh b t l).2,max s.hi (Yh b t l).2,if J3 b (Yh b t l)=true then s.kT+1 else s.kT,Yv s.eV (Yh b t l).1 4⟩
def DI(b:Sb)(ts:List N4)(l:List Int):Td:=⟨(Yh b (ts.getD 0 ⟨0,0,0,0⟩) l).2,(Yh b (ts.getD 0 ⟨0,0,0,0⟩) l).2,0,⟨0,0,0,0⟩⟩
def kX(b:Sb)(ts:List N4)(l:List Int):Td:=ts.foldl (V2 b l) (DI b ts l)
theorem ZoO(x:Td)(pl:Value)(z:Int)(hi:i<4):ZH (x.cs pl) (4+i * 1) [vi z]=({ x with eV:=x.eV.dD i z }:Td).cs pl:=by
 match i,hi with
 | 0,_=>rfl
 | 1,_=>rfl
 | 2,_=>rfl
 | 3,_=>rfl
theorem ZvB(x:Td)(pl:Value)(hi:i<4):(x.cs pl)[4+i * 1]? = some (vi (x.eV.get i)):=by
 match i,hi with
 | 0,_=>rfl
 | 1,_=>rfl
 | 2,_=>rfl
 | 3,_=>rfl
structure Df(x:Td)(c:Int):Prop where
 g:0<=x.kT/\x.kT<=c
 d:∀i,i<4->0<=x.eV.get i/\x.eV.get i<=c
theorem W7{c:N4}{w:B4}{k:Int}(h:∀i,i<4->0<=c.get i/\c.get i<=k):∀j,j<=4->∀i,i<4->0<=(Yv c w j).get i/\(Yv c w j).get i<=k+(if i<j then 1 else 0)
 | 0,_,i,hi=>by have:=h i hi;rw[bY O];show 0<=c.get i/\c.get i<=_;omega
 | j+1,hj,i,hi=>by
  have h1:=W7 (w:=w) h j O i hi;have h2:=W7 (w:=w) h j O j O;rw[bY O]at h2;rw[Yv];split
  ·rw[N4.fA _ _ hi];split
   ·rename_i e;subst e;rw[iO O];omega
   split at h1<;>split<;>omega
  split at h1<;>split<;>omega
theorem Df.step{s:Td}{c:Int}(h:Df s c):Df (V2 b l s t) (c+1):=by
 refine⟨?_,λi hi=>?_⟩
 ·have:=h.g;show 0<=(if J3 b (Yh b t l)=true then s.kT+1 else s.kT)/\(if J3 b (Yh b t l)=true then s.kT+1 else s.kT)<=_;split<;>omega
 have:=W7 (w:=(Yh b t l).1) h.d 4 (aC _) i hi;rw[iO hi]at this;exact this
theorem Qf{b:Sb}{ts:List N4}{l:List Int}:∀j,j<=ts.length->Df ((ts.take j).foldl (V2 b l) (DI b ts l)) j
 | 0,_=>⟨⟨by show(0:Int)<=0;omega,by show(0:Int)<=_;omega⟩,λi hi=>by
   have:(DI b ts l).eV.get i=0:=by
    match i,hi with
    | 0,_=>rfl
    | 1,_=>rfl
    | 2,_=>rfl
    | 3,_=>rfl
   show 0<=(DI b ts l).eV.get i/\(DI b ts l).eV.get i<=_;omega⟩
 | j+1,hj=>by have cH:j<ts.length:=hj;rw[Og _ _ cH,show(((j+1:Nat):Int))=j+1 by omega];exact(Qf j O).step
def L9(jX n:Int):Int:=if jX=0 then 2 else if jX=n then 1 else 0
section
variable{P:bF}[Tz P][Loud P]{H:Hp}
theorem Py{n:Nat}(jX:Int):LL.Zc P 97 #[ZW b (.slice A n c),vi jX] H λv H'=>H=H'/\v=vi (L9 jX n):=by
 refine aO.m (cF ZxI) (args:=[ZW b (.slice A n c),vi jX]) rfl ?_;unfold Zk1 ZW L9;refine Y ?_;refine OI (λh1=>?_) (λh1=>?_)
 ·refine Y ?_;exact⟨rfl,by rw[iO h1];rfl⟩
 refine Y ?_;refine OI (λh2=>?_) (λh2=>?_)
 ·refine Y ?_;exact⟨rfl,by rw[bY h1,iO h2];rfl⟩
 refine Y ?_;exact⟨rfl,by rw[bY h1,bY h2];rfl⟩
theorem Ca{Aw:Option Addr}{cw:Nat}{ts:List N4}(hb:Zs H b)(ok:fN b)(hg:aD H ⟨1,0,none⟩ [vf 284])(iM:aV H (.slice Aw ts.length cw) ts)(dJ:1<=ts.length/\ts.length<=1000)(ht:∀t∈ts,Yp t)
  (hl:aV H (.slice A l.length c) l) (oG:l.length=b.pk.length) (sU:∀z∈l,0<=z/\z<b.pk.length) :
  LL.Zc P 93 #[ZW b (.slice Aw ts.length cw),.slice A l.length c] H λv H'=>bO H H'/\v=zC (kX b ts l) (.slice A l.length c):=by
 refine aO.m (cF ZxL) (args:=[ZW b (.slice Aw ts.length cw),.slice A l.length c]) rfl ?_;unfold Zk4 ZW;have e0:ts[0]'O=ts.getD 0 ⟨0,0,0,0⟩:=(ZA O _).symm;refine Y ?_;refine Zx iM rfl rfl rfl (i:=0) O λa ha=>?_;rw[e0]at ha;have AS:Yp (ts.getD 0 ⟨0,0,0,0⟩):=by rw[<-e0];exact ht _ (IN _)
 have Fz:DI b ts l=⟨(Yh b (ts.getD 0 ⟨0,0,0,0⟩) l).2,(Yh b (ts.getD 0 ⟨0,0,0,0⟩) l).2,0,⟨0,0,0,0⟩⟩:=rfl;generalize ts.getD 0 ⟨0,0,0,0⟩=t0 at *;refine Y ?_;refine Zl (cs:=t0.cells) (OL _) rfl ha rfl (Y ?_);refine Za (vs:=[b.v,Zv t0,.slice A l.length c]) rfl (Bj hb ok hg AS hl oG sU) ?_;rintro v H1 ⟨i1,rfl⟩;refine Y ?_;refine Zw ts.length (λj H'=>bO H H') (λj=>[(1,.slice A l.length c),(2,vi 0),(4,vi 0),(6,vi 0),(27,.slice Aw ts.length cw),(28,vi ts.length),(29,vi j)])
  (λj=>[(2,[vi b.pl,vi b.hd,vi b.td,.slice b.A1 b.pk.length b.c1,.slice b.A2 b.nt.length b.c2,.slice Aw ts.length cw]),(4,[.slice none 0 0,vi 0,vi 0,vi 0,vi 0,vi 0,vi 0,vi 0]),(6,((ts.take j).foldl (V2 b l) (DI b ts l)).cs (.slice A l.length c))]) i1 V ⟨rfl,rfl,by rw[qCM,List.foldl_nil,Fz];rfl,trivial⟩ ?_
 rintro j H2 hj i2;refine Y ?_;refine OI (λh1=>?_) (λh1=>?_)
 ·have cH:j<ts.length:=O;have GC:=Og (V2 b l) (DI b ts l) cH;have Wj:=Qf (b:=b) (ts:=ts) (l:=l) j O;generalize(ts.take j).foldl (V2 b l) (DI b ts l)=s at *;have htj:=ht _ (IN cH);refine Y ?_;refine Zx (iM.bA i2) rfl rfl rfl (i:=j) cH λa ha=>?_;generalize ts[j]=t at *;refine Y ?_;refine Zl (cs:=t.cells) (OL _) rfl ha rfl (Y ?_);refine Za (vs:=[b.v,Zv t,.slice A l.length c]) rfl (Bj (hb.bA i2) ok (hg.bA i2) htj (hl.bA i2) oG sU) ?_;rintro v H3 ⟨i3,rfl⟩;have eM:V2 b l s t=⟨min s.lo (Yh b t l).2,max s.hi (Yh b t l).2,if J3 b (Yh b t l)=true then s.kT+1 else s.kT,Yv s.eV (Yh b t l).1 4⟩:=rfl;generalize Yh b t l=w at *;refine Y ?_;refine Z0 (cs:=[vi w.2]) (OL _) rfl λr6 oF=>?_;have i4:=(i2.trans i3).trans (Zt (o:=.cells (List.toArray [vi w.2]) 3) oF);have hsn:aV (H3.ins r6 (.cells (List.toArray [vi w.2]) 3)) (.slice (some ⟨r6,0,none⟩) 1 1) [w.2]:=Z2 (l:=[w.2]);generalize H3.ins r6 (.cells (List.toArray [vi w.2]) 3)=H4 at *;refine Y ?_;refine Za (vs:=[.agg #[vi s.lo,vi s.hi],.slice (some ⟨r6,0,none⟩) 1 1]) rfl (Zup hsn (by show 1<=1000000;omega)) ?_;rintro v _ ⟨rfl,rfl⟩;rw[show Od s.lo s.hi [w.2]=(min s.lo w.2,max s.hi w.2)from rfl];refine Y ?_;refine Za (vs:=[b.v,GV w.1 w.2]) rfl (ZuU w) ?_;rintro v _ ⟨rfl,rfl⟩;have Ij:=Wj.g;cases WD:J3 b w
  all_goals rw[WD]at eM
  all_goals refine Y ?_
  all_goals refine Zw 4 (λ_ H'=>H4=H') (λk=>[(1,.slice A l.length c),(2,vi 0),(4,vi 0),(6,vi 0),(27,.slice Aw ts.length cw),(28,vi ts.length),(29,vi j),(54,.agg #[vb w.1.a,vb w.1.b,vb w.1.c,vb w.1.d]),(55,vi k)]) (λk=>[(2,[vi b.pl,vi b.hd,vi b.td,.slice b.A1 b.pk.length b.c1,.slice b.A2 b.nt.length b.c2,.slice Aw ts.length cw]),(4,[.slice none 0 0,vi 0,vi 0,vi 0,vi 0,vi 0,vi 0,vi 0]),(6,({ V2 b l s t with eV:=Yv s.eV w.1 k }:Td).cs (.slice A l.length c))]) rfl V ⟨rfl,rfl,by rw[eM];rfl,trivial⟩ ?_
  all_goals
   rintro k _ hk rfl
   refine Y ?_
   refine OI (λh4=>?_) (λh4=>?_)
   ·have IL:k<4:=O;have tT:=(W7 (w:=w.1) Wj.d k O k IL);rw[bY O]at tT;refine Y ?_;refine MP (v:=vb (w.1.get k)) (dC Qi) (eI t4) (E6 a4) rfl rfl IL (by
     match k,IL with
     | 0,_=>rfl
     | 1,_=>rfl
     | 2,_=>rfl
     | 3,_=>rfl) ?_
    refine Y ?_;cases hc:w.1.get k with
    | false=>
     have e:Yv s.eV w.1 (k+1)=Yv s.eV w.1 k:=by rw[Yv,bY (by rw[hc];decide)]
     refine Y ?_;exact⟨⟨k+1,O⟩,dX O,rfl,V,⟨rfl,rfl,by rw[e];rfl,trivial⟩,rfl⟩
    | true=>
     have e:Yv s.eV w.1 (k+1)=(Yv s.eV w.1 k).dD k ((Yv s.eV w.1 k).get k+1):=by rw[Yv,iO hc]
     refine Y ?_;refine KB (j:=k) rfl rfl IL (Y ?_);refine LP (v:=vi ((Yv s.eV w.1 k).get k)) (OL _) rfl rfl (ZvB { V2 b l s t with eV:=Yv s.eV w.1 k } _ IL) (Y ?_);refine KB (j:=k) rfl rfl IL (Y ?_);refine LQ (OL _) rfl rfl rfl rfl (by show 4+k * 1+1<=8;omega) rfl ?_;have JK:ZH (({ V2 b l s t with eV:=Yv s.eV w.1 k }:Td).cs (.slice A l.length c)) (4+k * 1) (Value.cells (vi ((Yv s.eV w.1 k).get k+1))).toList=({ V2 b l s t with eV:=Yv s.eV w.1 (k+1) }:Td).cs (.slice A l.length c):=by rw[e];exact ZoO { V2 b l s t with eV:=Yv s.eV w.1 k } _ _ IL
     rw[JK];refine Y ?_;exact⟨⟨k+1,O⟩,dX O,rfl,V,V,rfl⟩
   ·have:k=4:=O;subst this;refine Y ?_;exact⟨⟨j+1,O⟩,dX O,i4,V,⟨rfl,rfl,by rw[GC,eM];rfl,trivial⟩,rfl⟩
 have:j=ts.length:=O;subst this;rw[qAw];refine Y ?_;exact⟨i2,rfl⟩
end
theorem Qp{G:Prop} (h:G:=by
  rw[bY h0];refine Y ?_;refine OI (λh1=>?_) (λh1=>?_)
  ·refine Y ?_;exact⟨jI,rfl⟩
  exact absurd h1 h0):G:=h
theorem Pr{own:Int}(h:Zn b own=0):own=0:=by
 unfold Zn at h;split at h
 ·rename_i q;exact absurd h q
 split at h
 ·rename_i q;exact absurd h q
 rename_i q;simpa using q
def OO(b:Sb)(l:List Int):Int×Int:=if Zn b (Yq b l)=0 then((kX b (Zi b) l).lo,(kX b (Zi b) l).hi)else(0,0)
def RX(b:Sb)(l:List Int):Int:=if Zn b (Yq b l)=0 then L9 (kX b (Zi b) l).kT (Zi b).length else 0
def Oe(b:Sb)(l:List Int)(n:Int):Int:=if Yq b l≠0 then Yq b l else Yz b n
def Ab(b:Sb)(l:List Int)(n:Int):Int:=if Zn b (Oe b l n)=0 then L9 ((kX b (Zi b) l).eV.get n.toNat) (Zi b).length else 0
theorem Zn8:Tryz.prog.underlying 104=some (.array 4 3):=U
section
variable{P:bF}[Tz P][Loud P]{H:Hp}
theorem Zze(hb:Zs H b)(sz:b.Sz)(hg:Yl H)(fU:aD H ⟨1,0,none⟩ [vf 284])(hl:aV H (.slice A l.length c) l)(hc:l.length<=c)(hn:l.length<=1000000) :
  LL.Zc P 24 #[b.v,.slice A l.length c] H λv H'=>bO H H'/\v=.tuple #[.agg #[vi (OO b l).1,vi (OO b l).2],vi (Zn b (Yq b l))]:=by
 refine aO.m (cF Zyb) (args:=[b.v,.slice A l.length c]) rfl ?_;unfold Zlu Sb.v;refine Y ?_;refine Za (vs:=[.slice A l.length c]) rfl (Zi2 (b:=b) hl hc hn sz.pk) ?_;rintro fv H1 ⟨s1,e1,e2,nT⟩;refine Zq OL (Y ?_);refine Za (vs:=[b.v,fv]) rfl (Ox (hb.sub s1) sz (aD.sub hg s1) nT) ?_;rintro v H2 ⟨i2,hv⟩;have jI:=s1.bA.trans i2;refine Zq OL ?_;rcases hv with⟨h0,rfl⟩ | ⟨h0,ok,eU,w,bb,rfl,ow⟩
 ·unfold U3 OO;exact Qp
 unfold OO;rw[iO h0,h0];have l8:=U7 (Pr h0);have jR:=ow.sl;obtain⟨Aw,cw,rfl,_⟩:=id jR;unfold ZW;refine Y ?_;refine Za (vs:=[ZW b (.slice Aw (Zi b).length cw),.slice A l.length c]) rfl (Ca (hb.bA jI) ok (fU.bA jI) jR ⟨eU,by have:=UI ok;omega⟩ (LZ ok) (hl.bA jI) l8.1 l8.2.1) ?_;rintro v H3 ⟨i3,rfl⟩;refine Y ?_;exact⟨jI.trans i3,rfl⟩
theorem ZnF(hb:Zs H b)(sz:b.Sz)(hg:Yl H)(fU:aD H ⟨1,0,none⟩ [vf 284])(hl:aV H (.slice A l.length c) l)(hc:l.length<=c)(hn:l.length<=1000000) :
  LL.Zc P 28 #[b.v,.slice A l.length c] H λv H'=>bO H H'/\v=.tuple #[vi (RX b l),vi (Zn b (Yq b l))]:=by
 refine aO.m (cF Zx9) (args:=[b.v,.slice A l.length c]) rfl ?_;unfold Zls Sb.v;refine Y ?_;refine Za (vs:=[.slice A l.length c]) rfl (Zi2 (b:=b) hl hc hn sz.pk) ?_;rintro fv H1 ⟨s1,e1,e2,nT⟩;refine Zq OL (Y ?_);refine Za (vs:=[b.v,fv]) rfl (Ox (hb.sub s1) sz (aD.sub hg s1) nT) ?_;rintro v H2 ⟨i2,hv⟩;have jI:=s1.bA.trans i2;refine Zq OL ?_;rcases hv with⟨h0,rfl⟩ | ⟨h0,ok,eU,w,bb,rfl,ow⟩
 ·unfold U3 RX;exact Qp
 unfold RX;rw[iO h0,h0];have l8:=U7 (Pr h0);have jR:=ow.sl;obtain⟨Aw,cw,rfl,_⟩:=id jR;unfold ZW;refine Y ?_;refine Za (vs:=[ZW b (.slice Aw (Zi b).length cw),.slice A l.length c]) rfl (Ca (hb.bA jI) ok (fU.bA jI) jR ⟨eU,by have:=UI ok;omega⟩ (LZ ok) (hl.bA jI) l8.1 l8.2.1) ?_;rintro v H3 ⟨i3,rfl⟩;refine Zq OL (Y ?_);refine Za (vs:=[ZW b (.slice Aw (Zi b).length cw),vi (kX b (Zi b) l).kT]) rfl (Py _) ?_;rintro v _ ⟨rfl,rfl⟩;refine Y ?_;exact⟨jI.trans i3,rfl⟩
theorem Zza{r4 r5:Nat}(h4:aD H ⟨r4,0,none⟩ [.slice A l.length c])(h5:aD H ⟨r5,0,none⟩ [vi n])(hl:aV H (.slice A l.length c) l)(hc:l.length<=c)(hn:l.length<=1000000)(hm:b.pk.length<=1000000) :
  LL.Zc P 95 #[b.v,pt r4,pt r5] H λv H'=>bO H H'/\v=vi (Oe b l n):=by
 refine aO.m (cF ZxK) (args:=[b.v,pt r4,pt r5]) rfl ?_;unfold Zk3 Sb.v;refine Y ?_;refine Zg (OL _) rfl h4 (Y ?_);refine Za (vs:=[b.v,.slice A l.length c]) rfl (Mf hl hc hn hm) ?_;rintro v _ ⟨rfl,rfl⟩;refine Y ?_;refine OI (λh1=>?_) (λh1=>?_)
 ·refine Y ?_;exact⟨.refl _,by rw[Oe,iO h1];rfl⟩
 refine Y ?_;refine Zg (OL _) rfl h5 (Y ?_);refine Za (vs:=[vi n]) rfl (Nn (b:=b) n hm) ?_;rintro fv H1 ⟨s1,e1,e2,nT⟩;refine Zq OL (Y ?_);refine ZN (vs:=[b.v]) rfl rfl (nT H1 (.refl _)) ?_;rintro v H2 ⟨i2,rfl⟩;refine Y ?_;exact⟨s1.bA.trans i2,by rw[Oe,bY O];rfl⟩
theorem Zy9(hb:Zs H b)(sz:b.Sz)(hg:Yl H)(fU:aD H ⟨1,0,none⟩ [vf 284])(hl:aV H (.slice A l.length c) l)(hc:l.length<=c)(hn:l.length<=1000000) :
  LL.Zc P 26 #[b.v,.slice A l.length c,vi n] H λv H'=>bO H H'/\v=.tuple #[vi (Ab b l n),vi (Zn b (Oe b l n))]:=by
 refine aO.m (cF Zya) (args:=[b.v,.slice A l.length c,vi n]) rfl ?_;unfold Zlt Sb.v;refine Y ?_;refine V9 rfl (OL _) λr4 hr4=>Y ?_;refine V9 rfl (OL _) λr5 yW=>?_;have i1:=(Zt (o:=.cells (Value.slice A l.length c).cells 26) hr4).trans (Zt (o:=.cells (vi n).cells 3) yW);have c4:aD ((H.ins r4 (.cells (Value.slice A l.length c).cells 26)).ins r5 (.cells (vi n).cells 3)) ⟨r4,0,none⟩ [.slice A l.length c]:=aD.bA (VJ (cs:=[.slice A l.length c])) (Zt yW);have c5:aD ((H.ins r4 (.cells (Value.slice A l.length c).cells 26)).ins r5 (.cells (vi n).cells 3)) ⟨r5,0,none⟩ [vi n]:=VJ (cs:=[vi n]);generalize(H.ins r4 (.cells (Value.slice A l.length c).cells 26)).ins r5 (.cells (vi n).cells 3)=H1 at *;refine Y ?_;refine VP rfl rfl (Y ?_);refine Za (vs:=[b.v,.func (.func 95) #[] #[pt r4,pt r5]]) rfl (Ox (own:=Oe b l n) (hb.bA i1) sz (aD.bA hg i1) (λH' hi=>Yk U (Zza (c4.bA hi) (c5.bA hi) ((hl.bA i1).bA hi) hc hn sz.pk))) ?_;rintro v H2 ⟨i2,hv⟩;have jI:=i1.trans i2;rcases hv with⟨h0,rfl⟩ | ⟨h0,ok,eU,w,bb,rfl,ow⟩
 ·unfold U3 Ab;exact Qp
 unfold Ab;rw[iO h0,h0];have ho:=Pr h0;have hp0:Yq b l=0:=oR λe=>by rw[Oe,iO e]at ho;exact e ho
 have hq0:0<=n/\n<b.pk.length:=oR λe=>by rw[Oe,bY O,Yz,bY e]at ho;exact absurd ho (by decide)
 have l8:=U7 hp0;have tQ:n.toNat<4:=by have:=ok.n;omega
 have jR:=ow.sl;obtain⟨Aw,cw,rfl,_⟩:=id jR;unfold ZW;refine Y ?_;refine Zg (OL _) rfl (c4.bA i2) (Y ?_);refine Zg (OL _) rfl (c5.bA i2) (Y ?_);refine Za (vs:=[ZW b (.slice Aw (Zi b).length cw),.slice A l.length c]) rfl (Ca (hb.bA jI) ok (fU.bA jI) jR ⟨eU,by have:=UI ok;omega⟩ (LZ ok) (hl.bA jI) l8.1 l8.2.1) ?_;rintro v H3 ⟨i3,rfl⟩;refine Zul OL i3 (Y ?_);have BJ:vi n=vi (n.toNat:Int):=by congr 1;omega
 rw[BJ];generalize n.toNat=i at *;refine MP (v:=vi ((kX b (Zi b) l).eV.get i)) (dC Zn8) (eI t3) (E6 a3) rfl rfl tQ (by
  match i,tQ with
  | 0,_=>rfl
  | 1,_=>rfl
  | 2,_=>rfl
  | 3,_=>rfl) ?_
 refine Zq OL (Y ?_);refine Za (vs:=[ZW b (.slice Aw (Zi b).length cw),vi ((kX b (Zi b) l).eV.get i)]) rfl (Py _) ?_;rintro v _ ⟨rfl,rfl⟩;refine Y ?_;exact⟨jI.trans i3,rfl⟩
end
end
end Go.Proofs
end
open Go Go.LL
namespace Go.LL
open Go.Conc (rcase scase recvd)
variable{T E:TypeId}{Q1:ChanDir}{sz gR ch n:Nat}{zv v:Value}{ρ:Operand->Value}{ts:Array TypeId}
section
variable{P:bF}{d:Option Nat}{next:aN->Hp->Prop}{σ:aN}{H:Hp}{x y:Operand}{ty:TypeId}
theorem Ztc(hu:P.toProgram.underlying T=some (.chan Q1 E))(ti:TI P.toProgram E sz zv gR)(bB:P.still H.gh=false)(h:∀r,H r=none->next (σ.set d (.chan (some r))) (H.ins r (.chan 0 #[] false 0 0 false))) :
  (bC.raw (.makeChan T (.const (.int .i64 0))) ty).m P d next σ H:=by
 obtain⟨p9,i1,i2,i3,i4⟩:=ti.ex;refine YS (by simp[Op.operands,aN.get]) (s:=Instr.makeChan T (.int .i64 0)) (by simp[execOp,aP,aN.get]) ?_;have hw:IntKind.i64.wrap (0:Int)=0:=by decide
 have hm:¬ ((0:Int)<0\/(0:Int) > IntKind.i64.max\/((gR:Nat):Int) * 0 > 2 ^ 48-112):=by rw[Int.mul_zero];decide
 simp only[Instr.makeChan,Zh,Zy hu,asInt,asIntOf,Zj,O2 i1,i4,hw];simp only[hm,qAk,Int.toNat_zero,newObj,Zh,Zj];exact⟨bB,λr hr=>h r hr⟩
theorem ZpJ{p:Program}(hu:p.underlying T=some (.chan Q1 E))(ti:TI p E sz zv gR)(hx:ρ x=.chan (some ch)){fM:Bool}(w:World) :
  (execOp ρ (aP (.recv T x fM) ty)).runT p w #[]=(.ok (.comm #[rcase ch zv] true (.recv fM)) w,#[]):=by
 obtain⟨p9,i1,i2,i3,i4⟩:=ti.ex;have e:execOp ρ (aP (.recv T x fM) ty)=(do
  let .chan _ elem <-underlying T | stuck "receive: channel type expected"
  pure (.comm #[{ chan:=ρ x,send:=none,zero:=<-zeroValue elem }] true (.recv fM)):Sem Next):=rfl
 rw[e,Sem.runT_eq];simp[underlying,zeroValue,typeInfo,hu,i1,i3,hx,rcase,Result.andThen,Result.evThen,Sem.run_bind,Sem.events_bind,run_program,events_program]
theorem ZpI{p:Program}(hx:ρ x=.chan (some ch))(hy:ρ y=v)(w:World) :
  (execOp ρ (aP (.send x y) ty)).runT p w #[]=(.ok (.comm #[scase ch v (.tuple #[])] true .send) w,#[]):=by
 have e:execOp ρ (aP (.send x y) ty)=(pure (.comm #[{ chan:=ρ x,send:=some (ρ y),zero:=.tuple #[] }] true .send):Sem Next):=by simp[execOp,aP]
 rw[e,hx,hy];rfl
theorem ZpK{p:Program}(hx:ρ x=.chan (some ch))(w:World)(hw:w.heap[ch]? = some (.chan 0 #[] false n n false)) :
  (execOp ρ (aP (.call { callee:=.builtin .close,args:=#[x],argTypes:=ts }) ty)).runT p w #[]=(.ok (.value (.tuple #[])) { w with heap:=w.heap.setIfInBounds ch (.chan 0 #[] true n n false) },#[⟨.obj ch,false,true⟩,⟨.obj ch,true,true⟩]):=by
 have e:execOp ρ (aP (.call { callee:=.builtin .close,args:=#[x],argTypes:=ts }) ty)=(do let v <-Builtin.close_ ts ty #[.chan (some ch)];pure (.value v):Sem Next):=by simp[execOp,aP,resolve,invoke,builtin,hx]
 rw[e];have bV:ch<w.heap.size:=by
  rcases qAH ch w.heap.size with h | h
  ·exact h
  rw[qBW h]at hw;simp at hw
 have hg:w.heap[ch]=.chan 0 #[] false n n false:=by rw[qAE bV]at hw;exact dO hw
 have e2:Builtin.close_ ts ty #[.chan (some ch)]=(do
  let .chan room buf closed Ek zZ timer <-getObj ch | stuck "close: no channel in this block"
  if closed then runtimePanic (.plain "close of closed channel")
  setObj ch (.chan room buf true Ek zZ timer)
  pure (.tuple #[])):=rfl
 rw[e2];simp[- Sem.runT_eq,getObj,setObj,Sem.runT,bind,Sem.bind,pure,hw,bV,hg];exact⟨rfl,rfl⟩
end
section
variable{p:Program}{c:Cx}{i:Nat}{d:Option Nat}{next:aN->Hp->Prop}{σ:aN}{H:Hp}{x y:Operand}{ty:TypeId}
theorem Zta(hu:p.underlying T=some (.chan Q1 E))(ti:TI p E sz zv gR)(hg:(H.cg=[1]/\c.need H.hd=false)\/H.cg=[19])(e:σ.get x=some (.chan (some c.ch)))
  (h1:∀m v Hm,Hm.gh=[]->H.Dis Hm->1<=m->m<=c.N->H.hd<m->c.msg m v Hm->next (σ.set d (.tuple #[v,.bool true])) ((H.join Hm).tagged ((m+1) :: [1])))
  (h2:next (σ.set d (.tuple #[zv,.bool false])) (H.tagged [1,19,1])):(bC.raw (.recv T x true) ty).m ((bG p c).prgW i) d next σ H:=
 Nw (Post:=λv H'=>next (σ.set d v) H') (by simp[Op.operands,e]) (Zo1 (z:=zv) (fM:=true) hg (λw n cl _=>ZpJ hu ti (by simp[e]) w) h1 h2) λv H' h=>h
theorem Zs8{r:Nat}{H1 Hm:Hp}(hg:H1.gh=(r+3) :: [30,c.K])(hc:H1.Comp Hm)(F9:Hm.gh=[])(hm:c.msg (c.N-r) v Hm)(e1:σ.get x=some (.chan (some c.ch)))(e2:σ.get y=some v)
  (hp:next (σ.set d undef) (H1.tagged ((r+2) :: [30,c.K]))):(bC.raw (.send x y) ty).m (bG p c).prgM d next σ (H1.join Hm):=
 Nw (Post:=λv H'=>next (σ.set d v) H') (by simp[Op.operands,e1,e2]) (Zo0 hg hc F9 hm (λw n _=>ZpI (by simp[e1]) (by simp[e2]) w) hp) λv H' h=>h
theorem Ztj(ok:c.Ok)(hg:H.gh=[2,30,n])(e:σ.get x=some (.chan (some c.ch)))(hp:next (σ.set d (.tuple #[])) (H.tagged [1,30,n])) :
  (bC.raw (.call { callee:=.builtin .close,args:=#[x],argTypes:=ts }) ty).m (bG p c).prgM d next σ H:=
 Nw (Post:=λv H'=>next (σ.set d v) H') (by simp[Op.operands,Call.operands,e]) (Zt5 ok hg (λw n hw=>ZpK (by simp[e]) w hw) hp) λv H' h=>h
end
