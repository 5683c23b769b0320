import Derived.Test.YtmfealhfgccmfaaGreatDoorP31
set_option linter.all false
set_option maxHeartbeats 8000000
set_option maxRecDepth 20000
def LP{G:Prop}(h:G:=by
  rw[iF h0];refine OJ (λh1=>?_) (λh1=>?_)
  ·refine Y ?_;exact⟨p9,rfl⟩
  exact absurd h1 h0):G:=h
def AY{G:Prop}(h:G:=by refine Y ?_;exact⟨i1,.inl ⟨by rw[e];exact h1,by rw[e];rfl⟩⟩):G:=h
open Go Go.LL
namespace Go.Proofs
variable{n c j ct cp i:Nat}{b:Sb}{t:N4}{A At Ap:Option Addr}{l lt lp:List Int}{v:Value}
def T65:Yw Tryz.prog 140=some (4,some (.agg #[vi 0,vi 0,vi 0,vi 0]),32):=U
def U61:Tryz.prog.underlying 112=some (.slice 140):=U
def T61:Yw Tryz.prog 112=some (1,some (.slice none 0 0),24):=U
theorem Zsy(w:Wk)(x y:Int):(w.put 0 x).put 1 y={ w with i:=x,o:=y }:=rfl
theorem Zsz(w:Wk)(x y:Int):(w.put 2 x).put 3 y={ w with g:=x,d:=y }:=rfl
section
variable{P:fP}[Tz P][Loud P]{H:Hp}
def ZnP{r a:Nat}{out:List Wk}{p q:Int}(h7:H r=some (.cells #[.slice (some ⟨a,0,none⟩) n n] 112,true))(x:H a=some (.cells (Zd out).toArray 140,true))(C:out.length=n)(D:0<=p/\p<n)(E:0<=q/\q<n)(hb:∀p,0<=(jH out p).o/\(jH out p).o<=80) :
  LL.Zb P 197 #[vi p,vi q,pt r] H λv s=>H=s/\v=vi (XQ out p-XQ out q):=by
 have cW:∀z:Nat,z<out.length->aM H (((⟨a,0,none⟩:Addr).add (z * 4)).add 1) [vi (jH out z).o]:=λz h=>by
  rw[VF,VF,qAJ];refine⟨rfl,_,_,x,λk w=>?_⟩;have f:k=0:=by simpa using w
  subst f;have e:=PT out z 1 h (by decide);rw[Zmv _ (by decide),<-Zei h]at e;have u:(Zd out)[z * 4+1]? = some (vi (jH out z).o):=e;simpa[Obj.nC]using u
 refine aU.m (fO ZxP) rfl ?_;unfold ZjX;have y:=hb p.toNat;have B:=hb q.toNat;refine Y ?_;refine Zh (OL _) rfl (ZM (cs:=[.slice (some ⟨a,0,none⟩) n n]) h7) (Y ?_);refine Zi p.toNat rfl rfl O O (Y ?_);refine Zh (OL _) rfl (cW p.toNat O) (Y ?_);refine Zh (OL _) rfl (ZM (cs:=[.slice (some ⟨a,0,none⟩) n n]) h7) (Y ?_);refine Zi q.toNat rfl rfl O O (Y ?_);refine Zh (OL _) rfl (cW q.toNat O) (Y ?_);exact⟨rfl,rfl⟩
theorem Zgp(hb:Zq H b)(ok:gY b)(hg:aM H ⟨3,0,none⟩ [vf 407])(ht:YA t)(hl:dF H (.slice A l.length c) l)(SE:l.length=b.pk.length)(M:∀z∈l,0<=z/\z<b.pk.length) :
  LL.Zb P 127 #[b.v,ZI t,.slice A l.length c] H λv H'=>fI H H'/\∃bb,gL H H' 140 v (Vn b t l) bb:=by
 refine aU.m (fO Zyh) rfl ?_;unfold Zkp Sb.v;have hn:=ok.n;have Jg:=ok.pl;have xU:=ok.hd;refine Y ?_;refine Zfc (n:=l.length) (fU U61) (fT T65) O O O rfl (OL _) λB I=>?_;rw[show(4:Nat)=Enc.sz Wk from rfl,Zeb (⟨0,0,0,0⟩:Wk) rfl (by decide) l.length];have i1:=Zt (o:=.cells (Zd (List.replicate l.length (⟨0,0,0,0⟩:Wk))).toArray 140) I;have a1:(H.ins B (.cells (Zd (List.replicate l.length (⟨0,0,0,0⟩:Wk))).toArray 140)) B=some (.cells (Zd (List.replicate l.length (⟨0,0,0,0⟩:Wk))).toArray 140,true):=Hp.aQ _ _ _;generalize H.ins B (.cells (Zd (List.replicate l.length (⟨0,0,0,0⟩:Wk))).toArray 140)=H1 at *;refine Y ?_;refine VY (fT T61) (OL _) λy NY=>Y ?_;refine VV (fT T61) rfl rfl (Hp.aQ _ _ _) rfl rfl (OL _) ?_;rw[Uy];have i2:=i1.trans (Zt (o:=.cells #[.slice (some ⟨B,0,none⟩) l.length l.length] 112) NY);have a2:=Zt (o:=.cells #[.slice (some ⟨B,0,none⟩) l.length l.length] 112) NY _ _ a1;have b2:(H1.ins y (.cells #[.slice (some ⟨B,0,none⟩) l.length l.length] 112)) y=some (.cells #[.slice (some ⟨B,0,none⟩) l.length l.length] 112,true):=Hp.aQ _ _ _;have aN4:H y=none:=YP i1 NY;have u:y≠B:=by rintro rfl;rw[NY]at a1;simp at a1
 generalize H1.ins y (.cells #[.slice (some ⟨B,0,none⟩) l.length l.length] 112)=H2 at *;have epl:vi b.pl=vi (b.pl.toNat:Int):=by congr 1;omega
 rw[epl];refine Y ?_;refine Zfc (n:=b.pl.toNat) (fU jR) (fT t3) O O O rfl (OL _) λrp Z=>?_;rw[show b.pl.toNat * 1=b.pl.toNat * Enc.sz Int from rfl,Zeb (0:Int) rfl (by decide) b.pl.toNat];have nro:B≠rp:=by rintro rfl;rw[Z]at a2;simp at a2
 have Jb:y≠rp:=by rintro rfl;rw[Z]at b2;simp at b2
 have R2:H rp=none:=YP i2 Z;have w0:WK H2 (H2.ins rp (.cells (Zd (List.replicate b.pl.toNat (0:Int))).toArray 3)) B rp (BU b).1 (BU b).2:=
  ⟨λb x h1 h2 h=>Zt Z _ _ h,by rw[Zt Z _ _ a2,SE];rfl,by rw[qAl];exact Hp.aQ _ _ _,nro⟩
 generalize H2.ins rp (.cells (Zd (List.replicate b.pl.toNat (0:Int))).toArray 3)=H3 at *;refine Y ?_;refine ZC l.length (λj H'=>WK H2 H' B rp ((l.take j).foldl (qZ t) (BU b)).1 ((l.take j).foldl (qZ t) (BU b)).2)
  (λj=>[(2,.slice A l.length c),(3,vi 0),(4,vi 0),(7,pt y),(8,.slice (some ⟨rp,0,none⟩) b.pl.toNat b.pl.toNat),(24,.slice A l.length c),(25,vi l.length),(26,vi j)]) (λ_=>[(3,[vi (b.pl.toNat:Int),vi b.hd,vi b.td,.slice b.A1 b.pk.length b.c1,.slice b.A2 b.nt.length b.c2]),(4,t.cells)]) w0 V V ?_
 rintro j H4 hj R;refine OJ (λh1=>?_) (λh1=>?_)
 ·have G:j<l.length:=O;have W:=Ld ok ht M j O;have N2:=Om (qZ t) (BU b) G;generalize(l.take j).foldl (qZ t) (BU b)=s at *;have L:=R.inc i2 I R2;have hz:=M _ (iN G);refine Y ?_;refine ZB j (hl.inc L) G λa ha=>?_;generalize l[j]=z at *;have hzt:z.toNat<4:=O;have Rl:z.toNat<s.1.length:=by rw[W.l1];omega
  have hf:=W.fl O;have E:Zs s.2<b.pl.toNat:=by rw[<-W.l2];exact hf
  have b1:=W.fr (Zs s.2);have b2':=ht z.toNat hzt;refine Y ?_;refine Z8 ha (Y ?_);refine Zn (cs:=[vf 407]) (OL _) rfl (aM.inc hg L) rfl (Y ?_);refine Zo (vs:=[.agg #[vf 407],.slice (some ⟨rp,0,none⟩) b.pl.toNat b.pl.toNat]) (ZlB (by rw[<-W.l2];exact R.sl) (by rw[W.l2];omega)) (Y ?_);refine Zh (OL _) rfl (ZM (R.keep y _ u Jb b2)) (Y ?_);refine Zi (Zs s.2) rfl rfl rfl E (Y ?_);refine Zh (OL _) rfl (R.ar.cA hf rfl) (Y ?_);refine Zi z.toNat rfl rfl O O (Y ?_);refine Kw R Rl (f:=0) (by decide) rfl rfl rfl λH5 w5=>Y ?_;refine Zi (Zs s.2) rfl rfl rfl E (Y ?_);refine Zh (OL _) rfl (w5.ar.cA hf rfl) (Y ?_);refine Zij (j:=z) rfl rfl ⟨O,by show z<((4:Nat):Int);omega⟩ (Y ?_);refine wB (v:=vi (t.get z.toNat)) (OL _) rfl rfl (by
   generalize z.toNat=i at *;match i,hzt with
   | 0,_=>rfl
   | 1,_=>rfl
   | 2,_=>rfl
   | 3,_=>rfl) ?_
  refine Y ?_;refine Zi (Zs s.2) rfl rfl rfl E (Y ?_);refine Av w5.ar hf (Ot _ _) rfl rfl λH6 D=>?_;have w6:=w5.iD D;refine Y ?_;refine Zh (OL _) rfl (ZM (w6.keep y _ u Jb b2)) (Y ?_);refine Zi (Zs s.2) rfl rfl rfl E (Y ?_);refine Zh (OL _) rfl (w6.ar.cA (by rw[qAe];exact hf) rfl) (Y ?_);refine Zi z.toNat rfl rfl O O (Y ?_);refine Kw w6 (by rw[qAe];exact Rl) (f:=1) (by decide) rfl rfl rfl λH7 w7=>?_;rw[List.set_set,QH _ _ Rl,qAa rfl,MK _ _ hf,qAa rfl,Zsy]at w7;refine Y ?_;exact⟨⟨j+1,O⟩,gI O,by rw[N2];exact w7,V,V,rfl⟩
 have:j=l.length:=O;subst this;have W:=Ld ok ht M l.length (DO _);rw[qAh]at R W;have e1:l.foldl (qZ t) (BU b)=uE b t l:=rfl;rw[e1]at R W;have L:=R.inc i2 I R2;refine Y ?_;refine Zg (vs:=[.slice A l.length c]) (ZnF (hl.inc L) O (OL _)) ?_;rintro v H5 ⟨s5,(⟨e,_⟩ | ⟨bb,ow⟩)⟩
 ·exact absurd (qAx List.length e) (by simp only[List.length_nil];omega)
 obtain⟨_,⟨_,e,_⟩ | ⟨rt,cap,rest,rfl,rfl,h5,h5l,h5c⟩⟩:=id ow.own
 ·exact absurd e O
 have KN:H4 rt=none:=ow.fresh rt rfl;have Sa:H rt=none:=YP L KN;have AJ:(uE b t l).1.length=l.length:=by rw[W.l1,SE]
 have o7:=s5.mem _ _ (R.keep y _ u Jb b2);have oo:=s5.mem _ _ R.out;have Qw:rt≠B:=by rintro rfl;have:=R.out;rw[KN]at this;simp at this
 have nt7:rt≠y:=by rintro rfl;have:=R.keep _ _ u Jb b2;rw[KN]at this;simp at this
 have Pf:∀p,0<=(jH (uE b t l).1 p).o/\(jH (uE b t l).1 p).o<=80:=λp=>by have:=W.o p;omega
 refine Y ?_;refine VW rfl rfl (Y ?_);refine Zg (vs:=[.slice (some ⟨rt,0,none⟩) l.length cap,.func (.func 197) #[] #[pt y]]) (ZzJ (key:=XQ (uE b t l).1) h5 O (λH' hk p hp q hq=>Yv U (ZnP (hk _ _ (qAo nt7) o7) (hk _ _ (qAo Qw) oo) AJ (by have:=M p hp;omega) (by have:=M q hq;omega) Pf))) ?_;rintro v H6 D;have et:QB (XQ (uE b t l).1) l=Ua b t l:=rfl;rw[et]at D;have tl:(Ua b t l).length=l.length:=(Mp _ _).length_eq;have tr:∀z∈Ua b t l,0<=z/\z<b.pk.length:=λz hz=>M z ((Mp _ _).mem_iff.1 hz);generalize hT:Ua b t l=T at *;have Jp:fI H H6:=D.inc (L.trans s5.inc) Sa;have o7:=D.keep _ _ (qAo nt7) o7;have oo:=D.keep _ _ (qAo Qw) oo;have ot:=D.at_;have ehd:vi b.hd=vi (b.hd.toNat:Int):=by congr 1;omega
 rw[ehd];refine Y ?_;refine Zfc (n:=b.hd.toNat) (fU jR) (fT t3) O O O rfl (OL _) λrh N=>?_;rw[show b.hd.toNat * 1=b.hd.toNat * Enc.sz Int from rfl,Zeb (0:Int) rfl (by decide) b.hd.toNat];have nho:B≠rh:=by rintro rfl;rw[N]at oo;simp at oo
 have Q:y≠rh:=by rintro rfl;rw[N]at o7;simp at o7
 have nth:rt≠rh:=by rintro rfl;rw[N]at ot;simp at ot
 have X:H rh=none:=YP Jp N;have w7:WK H6 (H6.ins rh (.cells (Zd (List.replicate b.hd.toNat (0:Int))).toArray 3)) B rh (uE b t l).1 (List.replicate b.hd.toNat 0):=
  ⟨λb x h1 h2 h=>Zt N _ _ h,Zt N _ _ oo,by rw[qAl];exact Hp.aQ _ _ _,nho⟩
 generalize H6.ins rh (.cells (Zd (List.replicate b.hd.toNat (0:Int))).toArray 3)=H7 at *;have o1l:=W.l1;have WS:Vn b t l=((T.foldl (nV b) ((uE b t l).1,List.replicate b.hd.toNat 0)).1):=by rw[<-hT];rfl
 rw[WS];generalize(uE b t l).1=C at *;refine Y ?_;refine ZC l.length (λj H'=>WK H6 H' B rh ((T.take j).foldl (nV b) (C,List.replicate b.hd.toNat 0)).1 ((T.take j).foldl (nV b) (C,List.replicate b.hd.toNat 0)).2)
  (λj=>[(3,vi 0),(7,pt y),(13,.slice (some ⟨rh,0,none⟩) b.hd.toNat b.hd.toNat),(68,.slice (some ⟨rt,0,none⟩) l.length cap),(69,vi l.length),(70,vi j)]) (λ_=>[(3,[vi (b.pl.toNat:Int),vi (b.hd.toNat:Int),vi b.td,.slice b.A1 b.pk.length b.c1,.slice b.A2 b.nt.length b.c2])]) w7 V V ?_
 rintro j H8 hj S;refine OJ (λh2=>?_) (λh2=>?_)
 ·have G:j<T.length:=O;have w:=Lf ok o1l Pf (by decide) tr j O;have N2:=Om (nV b) (C,List.replicate b.hd.toNat 0) G;generalize(T.take j).foldl (nV b) (C,List.replicate b.hd.toNat 0)=s at *;have hi8:=S.inc Jp I X;have hz:=tr _ (iN G);have hT8:dF H8 (.slice (some ⟨rt,0,none⟩) l.length cap) T:=⟨_,cap,by rw[tl],λ_=>⟨_,rfl,YN (ZM (S.keep rt _ Qw nth ot))⟩⟩;refine Y ?_;refine ZB j hT8 G λa ha=>?_;generalize T[j]=z at *;obtain⟨i,rfl⟩:=Int.eq_ofNat_of_zero_le hz.1;have hi:i<b.pk.length:=O;have F:i<s.1.length:=by rw[w.l1];exact hi
  have hf:=w.fl O;have E:Zs s.2<b.hd.toNat:=by rw[<-w.l2];exact hf
  have q1:=w.fr (Zs s.2);have q2:=w.o i;have hh:gA b i=b.pk[i]:=ZG hi _;have q3:=(ok.pk i hi).2.2.1;rw[<-hh]at q3;refine Y ?_;refine Z8 ha (Y ?_);refine Zn (cs:=[vf 407]) (OL _) rfl (aM.inc hg hi8) rfl (Y ?_);refine Zo (vs:=[.agg #[vf 407],.slice (some ⟨rh,0,none⟩) b.hd.toNat b.hd.toNat]) (ZlB (by rw[<-w.l2];exact S.sl) (by rw[w.l2];omega)) (Y ?_);refine Zh (OL _) rfl (ZM (S.keep y _ u Q o7)) (Y ?_);refine Zh (OL _) rfl (ZM (S.keep y _ u Q o7)) (Y ?_);refine Zi i rfl rfl rfl O (Y ?_);refine Zh (OL _) rfl (S.cW 1 (by decide) F) (Y ?_);refine Zi (Zs s.2) rfl rfl rfl E (Y ?_);refine Zh (OL _) rfl (S.ar.cA hf rfl) (Y ?_);refine yG rfl rfl (Y ?_);refine Zi i rfl rfl rfl O (Y ?_);refine Kw S F (f:=2) (by decide) rfl rfl rfl λH9 w9=>?_;have SH:i<(s.1.set i ((jH s.1 i).put 2 (max (jH s.1 i).o (el s.2 (Zs s.2))))).length:=by rw[qAe];exact F
  have eg:(jH (s.1.set i ((jH s.1 i).put 2 (max (jH s.1 i).o (el s.2 (Zs s.2))))) i).get 2=max (jH s.1 i).o (el s.2 (Zs s.2)):=by rw[QH _ _ F,qAa rfl];rfl
  have w9:WK H6 H9 B rh (s.1.set i ((jH s.1 i).put 2 (max (jH s.1 i).o (el s.2 (Zs s.2))))) s.2:=w9;refine Y ?_;refine Zh (OL _) rfl (ZM (w9.keep y _ u Q o7)) (Y ?_);refine Zh (OL _) rfl (ZM (w9.keep y _ u Q o7)) (Y ?_);refine Zi i rfl rfl rfl O (Y ?_);refine Zh (OL _) rfl (w9.cW 2 (by decide) SH) ?_;rw[eg];refine Y ?_;refine ZB i (hb.pk.inc (w9.inc Jp I X)) hi λa ha=>?_;rw[<-hh]at ha;refine Y ?_;refine Zh (OL _) rfl (UG (j:=3) ha rfl) (Y ?_);refine Zi i rfl rfl rfl O (Y ?_);refine Kw w9 SH (f:=3) (by decide) rfl rfl rfl λHa wa=>?_;rw[List.set_set,QH _ _ F,qAa rfl,Zsz]at wa;have eg2:(jH (s.1.set i { jH s.1 i with g:=max (jH s.1 i).o (el s.2 (Zs s.2)),d:=max (jH s.1 i).o (el s.2 (Zs s.2))+(gA b i).jG }) i).get 3=max (jH s.1 i).o (el s.2 (Zs s.2))+(gA b i).jG:=by rw[QH _ _ F,qAa rfl];rfl
  refine Y ?_;refine Zh (OL _) rfl (ZM (wa.keep y _ u Q o7)) (Y ?_);refine Zi i rfl rfl rfl O (Y ?_);refine Zh (OL _) rfl (wa.cW 3 (by decide) (by rw[qAe];exact F)) ?_;rw[eg2];refine Y ?_;refine Zi (Zs s.2) rfl rfl rfl E (Y ?_);refine Av wa.ar hf (Ot _ _) rfl rfl λHb arb=>?_;have wb':=wa.iD arb;refine Y ?_;exact⟨⟨j+1,O⟩,gI O,by rw[N2];exact wb',V,V,rfl⟩
 have:j=T.length:=O;subst this;rw[qAh]at S;have w:=Lf ok o1l Pf (by decide) tr T.length (DO _);rw[qAh]at w;refine Y ?_;refine Zh (OL _) rfl (ZM (S.keep y _ u Q o7)) (Y ?_);generalize T.foldl (nV b) (C,List.replicate b.hd.toNat 0)=s at *;have e:s.1.length=l.length:=by rw[w.l1,SE]
 refine⟨S.inc Jp I X,some B,⟨?_,.inr ⟨B,l.length,[],rfl,by rw[e];rfl,by rw[qAl];exact S.out,?_,by rw[e];exact DO _⟩⟩,λr h=>by obtain rfl:=aT h;exact I⟩
 ·rw[Y7]
 rw[qAl,Y7,e]
end
structure B4 where
 (a b c d:Bool)
def B4.put(n:B4):Nat->Bool->B4
 | 0,z=>{ n with a:=z }
 | 1,z=>{ n with b:=z }
 | 2,z=>{ n with c:=z }
 | _,z=>{ n with d:=z }
def B4.get(n:B4):Nat->Bool
 | 0=>n.a
 | 1=>n.b
 | 2=>n.c
 | _=>n.d
abbrev B4.cs(n:B4)(e:Int):List Value:=[vb n.a,vb n.b,vb n.c,vb n.d,vi e]
abbrev QU(n:B4)(e:Int):Value:=.agg #[vb n.a,vb n.b,vb n.c,vb n.d,vi e]
theorem ZoM(n:B4)(e:Int)(z:Bool)(a:j<4):ZR (n.cs e) (0+j * 1) [vb z]=(n.put j z).cs e:=by
 match j,a with
 | 0,_=>rfl
 | 1,_=>rfl
 | 2,_=>rfl
 | 3,_=>rfl
def oY(b:Sb)(w:List Wk):Nat->B4×Int
 | 0=>(⟨false,false,false,false⟩,0)
 | j+1=>((oY b w j).1.put j (decide ((jH w j).o+(gA b j).jN<(jH w j).d)),max (oY b w j).2 (jH w j).d)
def Zw(b:Sb)(t:N4)(l:List Int):B4×Int:=oY b (Vn b t l) (Vn b t l).length
def L5(n:B4):Bool:=!n.a && !n.b && !n.c && !n.d
def UA(b:Sb)(w:B4×Int):Bool:=L5 w.1 && decide (w.2<=b.td)
def Zem:Tryz.prog.underlying 243=some (.array 4 4):=U
def ZpA:rP Tryz.prog 245=some ([("cold",243,0),("end",3,4)],false):=U
def ZzE:Ym Tryz.prog 243=some (some 4):=U
def a4:Ym Tryz.prog 4=some none:=U
def Zvw:BM Tryz.prog 245=false:=U
def ZnN(ok:gY b)(m:YA t)(k:l.length=b.pk.length)(f:∀z∈l,0<=z/\z<b.pk.length):(Vn b t l).length=b.pk.length/\∀p,0<=(jH (Vn b t l) p).o/\(jH (Vn b t l) p).o<=200:=by have s:=ok.n;have a:=Ld ok m f l.length (DO _);rw[qAh]at a;have a:WB b.pk.length b.pl.toNat (20 * l.length) (uE b t l):=a;have w:(Ua b t l).length=l.length:=(Mp _ _).length_eq;have e:=Lf ok a.l1 a.o O (l:=Ua b t l) (λz q=>f z ((Mp _ _).mem_iff.1 q)) _ (DO _);rw[qAh]at e;have e:WB b.pk.length b.hd.toNat (20 * l.length+20 * (Ua b t l).length) (RD b (uE b t l).1 (Ua b t l)):=e;exact⟨e.l1,λp=>by have:=e.o p;show 0<=(jH (RD b (uE b t l).1 (Ua b t l)).1 p).o/\(jH (RD b (uE b t l).1 (Ua b t l)).1 p).o<=200;omega⟩
section
variable{P:fP}[Tz P][Loud P]{H:Hp}{g:Bool}{d:Nat}
def Lb{a:Array Value}{off:Nat}(h:a[off]? = some v)(Q:Value->Bool->Hp->Prop):fZ P.toPQ (part 4 a off) Q g H↔Q v g H:=by simp only[part,Zf,OW (rD (P:=P) a4),oR,qAq,h,Zj]
def ZvZ{a b:Bool}(Q:Bool->Bool->Hp->Prop):fZ P.toPQ (Op.equalIn (d+1) 4 (vb a) (vb b)) Q g H↔Q (a == b) g H:=by simp only[Op.equalIn,Zf,ZA (fU (P:=P) Ph),Zj]
def Zv2{n:B4}(Q:Bool->Bool->Hp->Prop)(h:Q (L5 n) g H):fZ P.toPQ (Op.equalIn (d+1+1) 243 (.agg #[vb n.a,vb n.b,vb n.c,vb n.d]) (.agg #[vb false,vb false,vb false,vb false])) Q g H:=by have q:∀(x y z u:Bool) (Q:Value->Bool->Hp->Prop) g H,fZ P.toPQ (part 4 #[vb x,vb y,vb z,vb u] 0) Q g H↔Q (vb x) g H:=λx y z u Q g H=>Lb rfl Q;have r:∀(x y z u:Bool) (Q:Value->Bool->Hp->Prop) g H,fZ P.toPQ (part 4 #[vb x,vb y,vb z,vb u] 1) Q g H↔Q (vb y) g H:=λx y z u Q g H=>Lb rfl Q;have s:∀(x y z u:Bool) (Q:Value->Bool->Hp->Prop) g H,fZ P.toPQ (part 4 #[vb x,vb y,vb z,vb u] 2) Q g H↔Q (vb z) g H:=λx y z u Q g H=>Lb rfl Q;have w:∀(x y z u:Bool) (Q:Value->Bool->Hp->Prop) g H,fZ P.toPQ (part 4 #[vb x,vb y,vb z,vb u] 3) Q g H↔Q (vb u) g H:=λx y z u Q g H=>Lb rfl Q;obtain⟨p,m,o,B,C⟩:=(fT (P:=P) t4).ex;rw[Op.equalIn];simp only[Zf,ZA (fU (P:=P) Zem),Yc m,o,Zj];unfold L5 at h;have k:List.range' 0 4=[0,1,2,3]:=rfl;simp only[qCr,Std.Legacy.Range.size,qBl,qBE,Nat.div_one,k,qBp,List.forIn_nil,Zf];obtain⟨a,b,c,e⟩:=n;cases a<;>cases b<;>cases c<;>cases e<;>simp[q,r,s,w,ZvZ,Zf,Zj]at h ⊢<;>exact h
def Zv1{n:B4}{e:Int}(Q:Bool->Bool->Hp->Prop)(f:Q (L5 n) g H):fZ P.toPQ (Op.equalIn (d+1+1+1) 245 (QU n e) (QU ⟨false,false,false,false⟩ e)) Q g H:=by
 have w:∀(x y z u:Bool) (Q:Value->Bool->Hp->Prop) g H,fZ P.toPQ (part 243 #[vb x,vb y,vb z,vb u,vi e] 0) Q g H↔Q (.agg #[vb x,vb y,vb z,vb u]) g H:=λx y z u Q g H=>L7 ZzE Q;have B:∀(x y z u:Bool) (Q:Value->Bool->Hp->Prop) g H,fZ P.toPQ (part 3 #[vb x,vb y,vb z,vb u,vi e] 4) Q g H↔Q (vi e) g H:=λx y z u Q g H=>Vg rfl Q;obtain⟨E,F,m,⟨o,C,r⟩,⟨q,D,s⟩,k⟩:=HJ (p:=P.toProgram) (by rw[Tz.prog (P:=P)];exact ZpA);rw[Op.equalIn];simp only[Zf,ZA m,Vw,k,oR,qAq,Zj];simp only[o,q,C,D,r,s,Zf,qBr,qBp,List.forIn_nil];rw[qAa (show "cold"≠ "_" by decide)];simp only[Zf,w];refine Zv2 (P:=P) _ ?_;cases h:L5 n
 ·rw[h]at f;simp[Zf,Zj];exact f
 rw[h]at f;simp[Zf,Zj,B,yT];exact f
theorem Nk(hb:Zq H b)(ok:gY b)(K:aM H ⟨3,0,none⟩ [vf 407])(C:YA t)(L:dF H (.slice A l.length c) l)(k:l.length=b.pk.length)(p:∀z∈l,0<=z/\z<b.pk.length) :
  LL.Zb P 128 #[b.v,ZI t,.slice A l.length c] H λv u=>fI H u/\v=QU (Zw b t l).1 (Zw b t l).2:=by
 refine aU.m (fO Zyg) rfl ?_;unfold Zko Sb.v;obtain⟨W,Q⟩:=ZnN ok C k p;have T:=ok.n;refine Y ?_;refine Zg (Zgp hb ok K C L k p) ?_;rintro v F ⟨D,R,M⟩;have q:=M.sl;unfold Zw;generalize Vn b t l=w at *;obtain⟨E,G,rfl,_⟩:=id q;refine Y ?_;refine ZC w.length (λj u=>F=u) (λj=>[(3,vi 0),(6,vi 0),(7,vi 0),(13,.slice E w.length G),(14,vi w.length),(15,vi j)]) (λj=>[(3,b.cs),(6,[vb false,vb false,vb false,vb false,vi 0]),(7,(oY b w j).1.cs (oY b w j).2)]) rfl V V ?_;rintro j _ S rfl;refine OJ (λJ=>?_) (λJ=>?_)
 ·have f:j<w.length:=O;have h:j<4:=O;have y:j<b.pk.length:=O;have I:w[j]=jH w j:=(Zei f).symm;have B:b.pk[j]=gA b j:=(ZG y _).symm;have U:=Q j;have N:=(ok.pk j y).2.2.2;rw[B]at N;refine Y ?_;refine ZB j q f λa e=>?_;rw[I]at e;refine Y ?_;refine YL (cs:=(jH w j).cells) e (Y ?_);refine ZB j (hb.pk.inc D) y λa e=>?_;rw[B]at e;refine Y ?_;refine Zh (OL _) rfl (UG (j:=4) e rfl) (Y ?_);refine sV (j:=j) rfl rfl h (Y ?_);refine EL (OL _) rfl rfl rfl rfl (by show 0+j * 1+1<=5;omega) rfl ?_;have x:ZR ((oY b w j).1.cs (oY b w j).2) (0+j * 1) (Value.cells (vb (decide ((jH w j).o+(gA b j).jN<(jH w j).d)))).toList=((oY b w j).1.put j (decide ((jH w j).o+(gA b j).jN<(jH w j).d))).cs (oY b w j).2:=ZoM _ _ _ h;rw[x];refine Y ?_;refine yG rfl rfl (Y ?_);exact⟨⟨j+1,O⟩,gI O,rfl,V,V,rfl⟩
 have:j=w.length:=O;subst this;refine Y ?_;exact⟨D,rfl⟩
def ZsJ(e:Int):LL.Zb P 265 #[vi e] H λv a=>H=a/\v=QU ⟨false,false,false,false⟩ e:=by refine aU.m (fO ZxH) rfl ?_;unfold ZjP;refine Y ?_;exact⟨rfl,rfl⟩
def Zvs(w:B4×Int):LL.Zb P 205 #[b.v,QU w.1 w.2] H λv e=>H=e/\v=vb (UA b w):=by refine aU.m (fO ZxY) rfl ?_;unfold Zj6 Sb.v;refine Y ?_;refine Zo (ZsJ _) (Y ?_);refine Zip (xs:=#[vb w.1.a,vb w.1.b,vb w.1.c,vb w.1.d,vi w.2]) (ys:=#[vb false,vb false,vb false,vb false,vi w.2]) (b:=L5 w.1) Zvw (λQ g H f=>Zv1 Q f) rfl rfl ?_;unfold UA;cases hz:L5 w.1<;>refine Y ?_<;>exact⟨rfl,rfl⟩
end
def ZhY{n:Nat}{l:List Int}:∀{k:Nat},Vq n l k=0->∀i (h:i<l.length),i<k->(0<=l[i]/\l[i]<n)/\(l.take i).any (λz=>l[i] == z)=false
 | 0,_,_,_,e=>absurd e (qBW _)
 | k+1,h,i,f,e=>by
  rw[Vq]at h;split at h
  ·rename_i a;exact absurd h a
  rename_i a;rcases qAv.1 e with m | rfl
  ·exact ZhY (by simpa using a) i f m
  rw[ZG f]at h;split at h
  ·simp at h
  split at h
  ·simp at h
  rename_i p o;exact⟨O,Bool.eq_false_iff.2 o⟩
def Of(h:Yo b l=0):l.length=b.pk.length/\(∀z∈l,0<=z/\z<b.pk.length)/\l.Nodup:=by
 unfold Yo at h;split at h
 ·simp at h
 rename_i p;have m:=ZhY h;refine⟨O,λz f=>?_,?_⟩
 ·obtain⟨i,a,rfl⟩:=qAz.1 f;exact(m i a a).1
 rw[List.nodup_iff_pairwise_ne,qCd];intro i j a k o e;have:=(m j k k).2;rw[List.any_eq_false]at this;exact this l[i] (qDm.2 ⟨i,O,rfl⟩) (by simpa using e.symm)
def Mw(h:Ut b l=0):l.length=b.pk.length/\∀z∈l,1<=z/\z<=20:=by
 unfold Ut at h;split at h
 ·simp at h
 split at h
 ·simp at h
 rename_i k a;refine⟨O,λz f=>qAb λe=>a (qCj.2 ⟨z,f,?_⟩)⟩;simp only[An,qBi,qBU];exact e
def n4g(a:j<4):(YQ l).get j=l.getD j 0:=N4.o0 _ a
def ZfE(h:∀z∈l,1<=z/\z<=20):YA (YQ l):=λj a=>by
 rw[n4g a,qAp];cases e:l[j]? with
 | none=>exact⟨by decide,by decide⟩
 | some z=>
  have:=h z (List.mem_of_getElem? e);exact⟨by show(0:Int)<=z;omega,this.2⟩
def Yk(b:Sb)(lt lp:List Int):Int:=if ZN b≠0 then ZN b else if Ut b lt≠0 then Ut b lt else Yo b lp
def OS:Value:=.agg #[vi 0,vi 0,vi 0,.slice none 0 0,.slice none 0 0]
def Oj(a c:Int)(l:List Int):Int×Int:=l.foldl (λs n=>(min s.1 n,max s.2 n)) (a,c)
def mB(c:B4):Nat->List Int
 | 0=>[]
 | j+1=>if c.get j=true then mB c j++[(j:Int)]else mB c j
def PR(b:Sb)(t:N4)(l:List Int):List Int:=mB (Zw b t l).1 4
def ZmK(c:B4):∀j,(mB c j).length<=j
 | 0=>DO 0
 | j+1=>by
  have:=ZmK c j;unfold mB;split
  ·simp;omega
  omega
section
variable{P:fP}[Tz P][Loud P]{H:Hp}
def ZuY{a c:Int}(k:dF H v l)(r:l.length<=1000000):LL.Zb P 204 #[.agg #[vi a,vi c],v] H λw h=>H=h/\w=.agg #[vi (Oj a c l).1,vi (Oj a c l).2]:=by
 refine aU.m (fO ZxZ) rfl ?_;unfold Zj7;refine Y ?_;refine YH k rfl (Y ?_);refine ZC l.length (λj h=>H=h) (λj=>[(2,vi 0),(4,vi 0),(7,v),(8,vi l.length),(9,vi j)]) (λj=>[(2,[vi (Oj a c (l.take j)).1,vi (Oj a c (l.take j)).2]),(4,[vi 0,vi 0])]) rfl V V ?_;rintro j _ q rfl;refine OJ (λo=>?_) (λo=>?_)
 ·have f:j<l.length:=O;have e:Oj a c (l.take (j+1))=(min (Oj a c (l.take j)).1 l[j],max (Oj a c (l.take j)).2 l[j]):=by unfold Oj;rw[Om _ _ f]
  refine Y ?_;refine ZB j k f λa p=>Y ?_;refine Z8 p (Y ?_);refine EH rfl rfl (Y ?_);refine yG rfl rfl (Y ?_);exact⟨⟨j+1,O⟩,gI O,rfl,V,⟨by rw[e];rfl,rfl,trivial⟩,rfl⟩
 have:j=l.length:=O;subst this;rw[qAh];refine Y ?_;exact⟨rfl,rfl⟩
def ZfF(hb:Zq H b)(p:b.Sz)(u:Yb H)(r:dF H (.slice At lt.length ct) lt)(w:dF H (.slice Ap lp.length cp) lp)(h:lp.length<=cp)(o:lt.length<=1000000)(k:lp.length<=1000000) :
  LL.Zb P 126 #[b.v,.slice At lt.length ct,.slice Ap lp.length cp] H λv s=>fI H s/\((Yk b lt lp≠0/\v=.tuple #[OS,ZI ⟨0,0,0,0⟩,vi (Yk b lt lp)])\/(Yk b lt lp=0/\gY b/\Ut b lt=0/\Yo b lp=0/\v=.tuple #[b.v,ZI (YQ lt),vi 0])):=by
 refine aU.m (fO Zyi) rfl ?_;unfold Zkq Sb.v;refine Y ?_;refine Zg (HN hb p u) ?_;rintro v y ⟨i1,rfl⟩;refine OJ (λh1=>?_) (λh1=>?_)
 ·have e:Yk b lt lp=ZN b:=qAa h1;exact AY
 have ok:=Ob (b:=b) h1;refine Y ?_;refine Zo (Zoe (r.inc i1) o p.pk) ?_;refine OJ (λf=>?_) (λf=>?_)
 ·have e:Yk b lt lp=Ut b lt:=by rw[Yk,iF O,qAa f]
  refine Y ?_;exact⟨i1,.inl ⟨by rw[e];exact f,by rw[e];rfl⟩⟩
 have a:Ut b lt=0:=O;refine Y ?_;refine Zo (ZeW (w.inc i1) h k p.pk) ?_;refine OJ (λq=>?_) (λq=>?_)
 ·have e:Yk b lt lp=Yo b lp:=by rw[Yk,iF O,iF O]
  refine Y ?_;exact⟨i1,.inl ⟨by rw[e];exact q,by rw[e];rfl⟩⟩
 have e:Yk b lt lp=0:=by rw[Yk,iF O,iF O];omega
 refine Y ?_;refine Zg (Zoc (r.inc i1) (by have:=(Mw a).1;have:=ok.n;omega)) ?_;rintro v z ⟨x,rfl⟩;refine Zz OL (Y ?_);exact⟨i1.trans x.inc,.inr ⟨e,ok,a,O,rfl⟩⟩
def Zng(hb:Zq H b)(F:b.Sz)(C:Yb H)(o:aM H ⟨3,0,none⟩ [vf 407])(D:dF H (.slice At lt.length ct) lt)(y:dF H (.slice Ap lp.length cp) lp)(k:lp.length<=cp)(q:lt.length<=1000000)(p:lp.length<=1000000) :
  LL.Zb P 49 #[b.v,.slice At lt.length ct,.slice Ap lp.length cp] H λv s=>fI H s/\∃w,v=.tuple #[w,vi (Yk b lt lp)]/\((Yk b lt lp≠0/\w=.slice none 0 0)\/(Yk b lt lp=0/\∃h,gL H s 140 w (Vn b (YQ lt) lp) h)):=by
 refine aU.m (fO ZyN) rfl ?_;unfold ZkV Sb.v;refine Y ?_;refine Zg (ZfF hb F C D y k q p) ?_;rintro v G ⟨a,(⟨f,rfl⟩ | ⟨f,ok,B,x,rfl⟩)⟩
 ·unfold OS;refine OJ (λu=>?_) (λu=>?_)
  ·refine Y ?_;exact⟨a,_,rfl,.inl ⟨f,rfl⟩⟩
  exact absurd u f
 refine Y ?_;refine Zg (Zgp (hb.inc a) ok (o.inc a) (ZfE (Mw B).2) (y.inc a) (Of x).1 (Of x).2.1) ?_;rintro v I ⟨E,h,z⟩;refine Y ?_;exact⟨a.trans E,_,by rw[f];rfl,.inr ⟨f,h,z.own,λr e=>YP a (z.fresh r e)⟩⟩
def Zz2(hb:Zq H b)(z:b.Sz)(w:Yb H)(h:aM H ⟨3,0,none⟩ [vf 407])(x:dF H (.slice At lt.length ct) lt)(r:dF H (.slice Ap lp.length cp) lp)(f:lp.length<=cp)(o:lt.length<=1000000)(k:lp.length<=1000000) :
  LL.Zb P 51 #[b.v,.slice At lt.length ct,.slice Ap lp.length cp] H λv s=>fI H s/\v=.tuple #[vi (if Yk b lt lp=0 then(Zw b (YQ lt) lp).2 else 0),vi (Yk b lt lp)]:=by
 refine aU.m (fO ZyC) rfl ?_;unfold ZkK Sb.v;refine Y ?_;refine Zg (ZfF hb z w x r f o k) ?_;rintro v B ⟨e,(⟨a,rfl⟩ | ⟨a,ok,u,q,rfl⟩)⟩
 ·unfold OS;refine OJ (λp=>?_) (λp=>?_)
  ·refine Y ?_;exact⟨e,by rw[iF a];rfl⟩
  exact absurd p a
 refine Y ?_;refine Zg (Nk (hb.inc e) ok (h.inc e) (ZfE (Mw u).2) (r.inc e) (Of q).1 (Of q).2.1) ?_;rintro v C ⟨y,rfl⟩;refine Y ?_;exact⟨e.trans y,by rw[qAa a,a];rfl⟩
def ZnC(hb:Zq H b)(R:b.Sz)(K:Yb H)(r:aM H ⟨3,0,none⟩ [vf 407])(M:dF H (.slice At lt.length ct) lt)(E:dF H (.slice Ap lp.length cp) lp)(q:lp.length<=cp)(x:lt.length<=1000000)(u:lp.length<=1000000) :
  LL.Zb P 50 #[b.v,.slice At lt.length ct,.slice Ap lp.length cp] H λv f=>fI H f/\∃w G,v=.tuple #[w,vi (Yk b lt lp)]/\gL H f 3 w (if Yk b lt lp=0 then PR b (YQ lt) lp else[]) G:=by
 refine aU.m (fO ZyM) rfl ?_;unfold ZkU Sb.v;refine Y ?_;refine Zg (ZfF hb R K M E q x u) ?_;rintro v T ⟨p,(⟨h,rfl⟩ | ⟨h,ok,I,D,rfl⟩)⟩
 ·unfold OS;refine OJ (λC=>?_) (λC=>?_)
  ·refine Y ?_;exact⟨p,_,none,rfl,by rw[iF h];exact .nil H _ 3⟩
  exact absurd C h
 refine Y ?_;refine Zg (Nk (hb.inc p) ok (r.inc p) (ZfE (Mw I).2) (E.inc p) (Of D).1 (Of D).2.1) ?_;rintro v U ⟨N,rfl⟩;rw[qAa h,h];unfold PR;have y:=p.trans N;generalize Zw b (YQ lt) lp=w at *;refine Y ?_;refine Yp (α:=Value×Option Nat) 4 (λj s f=>fI H f/\gL H f 3 s.1 (mB w.1 j) s.2) (λj s=>[(11,s.1),(29,.agg #[vb w.1.a,vb w.1.b,vb w.1.c,vb w.1.d]),(30,vi j)]) (λ_ _=>[]) (.slice none 0 0,none) ⟨y,.nil H _ 3⟩ V trivial ?_;rintro j ⟨s,B⟩ W Z ⟨z,os⟩;simp only at os;refine OJ (λJ=>?_) (λJ=>?_)
 ·have k:j<4:=O;refine Y ?_;refine uH (v:=vb (w.1.get j)) (fU Zem) (fT t4) (rD a4) rfl rfl k (by
   match j,k with
   | 0,_=>rfl
   | 1,_=>rfl
   | 2,_=>rfl
   | 3,_=>rfl) ?_
  refine Y ?_;cases hc:w.1.get j with
  | false=>
   have e:mB w.1 (j+1)=mB w.1 j:=by rw[mB,iF (by rw[hc];decide)]
   refine Y ?_;exact⟨(⟨j+1,O⟩,(s,B)),gI O,⟨z,by rw[e];exact os⟩,V,trivial,rfl⟩
  | true=>
   have e:mB w.1 (j+1)=mB w.1 j++[(j:Int)]:=by rw[mB,qAa hc]
   have L:=ZmK w.1 j;refine Y ?_;refine Z4 (cs:=[vi (j:Int)]) (OL _) rfl λr6 o=>Y ?_;refine VX (l':=[(j:Int)]) (fU jR) (fU jR) (fT t3) rfl (by decide) (z.trans (Zt o)) (os.ins o) (Z3 (l:=[(j:Int)])) rfl (by simp only[qAF,List.length_nil];omega) O rfl rfl (OL _) λS X F k1 Q k3=>Y ?_;exact⟨(⟨j+1,O⟩,(S,F)),gI O,⟨k1,by rw[e];exact Q⟩,V,trivial,rfl⟩
 have:j=4:=O;subst this;refine Y ?_;exact⟨z,_,B,rfl,os⟩
end
def Zhn{b:Sb}(ok:gY b):∀(r:Nat) (m:N4),r<=b.pk.length->YA m->∀t∈hU b r m,YA t
 | 0,m,_,k,t,a=>by
  rw[hU]at a;split at a
  ·obtain rfl:=iO.1 a;exact k
  simp at a
 | r+1,m,s,k,t,a=>by
  rw[hU]at a;have f:b.pk.length-(r+1)<b.pk.length:=O;have o:gA b (b.pk.length-(r+1))=b.pk[b.pk.length-(r+1)]:=ZG f _;have p:=ok.pk _ f;rw[<-o]at p;generalize b.pk.length-(r+1)=i at *;have key:∀c:Nat,(c:Int)<=(gA b i).hi-(gA b i).lo+1->t∈oJ (λv=>hU b r (m.put i v)) (gA b i).hi c->YA t:=by
   intro c;induction c with
   | zero=>intro _ h;simp[oJ]at h
   | succ c ih=>
    intro q h;rw[oJ]at h;rcases qAj.1 h with h | h
    ·exact Zhn ok r _ O (k.put i ⟨O,O⟩) t h
    exact ih O h
  exact key _ O a
def P9(ok:gY b):∀t∈Za b,YA t:=Zhn ok _ _ (DO _) ZlJ
structure Td where
 (lo hi good:Int) (cold:N4)
abbrev Td.cs(x:Td)(e:Value):List Value:=[e,vi x.lo,vi x.hi,vi x.good,vi x.cold.a,vi x.cold.b,vi x.cold.c,vi x.cold.d]
abbrev FM(x:Td)(e:Value):Value:=.agg #[e,vi x.lo,vi x.hi,vi x.good,vi x.cold.a,vi x.cold.b,vi x.cold.c,vi x.cold.d]
def Yq(c:N4)(w:B4):Nat->N4
 | 0=>c
 | i+1=>if w.get i=true then(Yq c w i).put i ((Yq c w i).get i+1)else Yq c w i
def Z2(b:Sb)(l:List Int)(s:Td)(t:N4):Td:=
 ⟨min s.lo (Zw b t l).2,max s.hi (Zw b t l).2,if UA b (Zw b t l)=true then s.good+1 else s.good,Yq s.cold (Zw b t l).1 4⟩
def vF(b:Sb)(a:List N4)(l:List Int):Td:=⟨(Zw b (a.getD 0 ⟨0,0,0,0⟩) l).2,(Zw b (a.getD 0 ⟨0,0,0,0⟩) l).2,0,⟨0,0,0,0⟩⟩
def jA(b:Sb)(a:List N4)(l:List Int):Td:=a.foldl (Z2 b l) (vF b a l)
theorem ZoN(x:Td)(a:Value)(z:Int)(f:i<4):ZR (x.cs a) (4+i * 1) [vi z]=({ x with cold:=x.cold.put i z }:Td).cs a:=by
 match i,f with
 | 0,_=>rfl
 | 1,_=>rfl
 | 2,_=>rfl
 | 3,_=>rfl
theorem Zwj(x:Td)(e:Value)(a:i<4):(x.cs e)[4+i * 1]? = some (vi (x.cold.get i)):=by
 match i,a with
 | 0,_=>rfl
 | 1,_=>rfl
 | 2,_=>rfl
 | 3,_=>rfl
structure Ny(x:Td)(c:Int):Prop where
 g:0<=x.good/\x.good<=c
 d:∀i,i<4->0<=x.cold.get i/\x.cold.get i<=c
def Ll{c:N4}{w:B4}{k:Int}(h:∀i,i<4->0<=c.get i/\c.get i<=k):∀j,j<=4->∀i,i<4->0<=(Yq c w j).get i/\(Yq c w j).get i<=k+(if i<j then 1 else 0)
 | 0,_,i,a=>by have:=h i a;rw[iF O];show 0<=c.get i/\c.get i<=_;omega
 | j+1,o,i,a=>by
  have f:=Ll (w:=w) h j O i a;have m:=Ll (w:=w) h j O j O;rw[iF O]at m;rw[Yq];split
  ·rw[N4.iC _ _ a];split
   ·rename_i e;subst e;rw[qAa O];omega
   split at f<;>split<;>omega
  split at f<;>split<;>omega
def Ny.step{s:Td}{c:Int}(h:Ny s c):Ny (Z2 b l s t) (c+1):=by
 refine⟨?_,λi a=>?_⟩
 ·have:=h.g;show 0<=(if UA b (Zw b t l)=true then s.good+1 else s.good)/\(if UA b (Zw b t l)=true then s.good+1 else s.good)<=_;split<;>omega
 have:=Ll (w:=(Zw b t l).1) h.d 4 (DO _) i a;rw[qAa a]at this;exact this
def Zep{b:Sb}{ts:List N4}{l:List Int}:∀j,j<=ts.length->Ny ((ts.take j).foldl (Z2 b l) (vF b ts l)) j
 | 0,_=>⟨⟨by show(0:Int)<=0;omega,by show(0:Int)<=_;omega⟩,λi f=>by
   have:(vF b ts l).cold.get i=0:=by
    match i,f with
    | 0,_=>rfl
    | 1,_=>rfl
    | 2,_=>rfl
    | 3,_=>rfl
   show 0<=(vF b ts l).cold.get i/\(vF b ts l).cold.get i<=_;omega⟩
 | j+1,h=>by have e:j<ts.length:=h;rw[Om _ _ e,show(((j+1:Nat):Int))=j+1 by omega];exact(Zep j O).step
def Z6(jC n:Int):Int:=if jC=0 then 2 else if jC=n then 1 else 0
section
variable{P:fP}[Tz P][Loud P]{H:Hp}
def Zex(jC:Int):LL.Zb P 136 #[YC b (.slice A n c),vi jC] H λv f=>H=f/\v=vi (Z6 jC n):=by
 refine aU.m (fO Zyr) rfl ?_;unfold Zkz YC Z6;refine OJ (λa=>?_) (λa=>?_)
 ·refine Y ?_;exact⟨rfl,by rw[qAa a];rfl⟩
 refine OJ (λe=>?_) (λe=>?_)
 ·refine Y ?_;exact⟨rfl,by rw[iF a,qAa e];rfl⟩
 refine Y ?_;exact⟨rfl,by rw[iF a,iF e];rfl⟩
def My{q:Option Addr}{r:Nat}{ts:List N4}(hb:Zq H b)(ok:gY b)(U:aM H ⟨3,0,none⟩ [vf 407])(F:dF H (.slice q ts.length r) ts)(W:1<=ts.length/\ts.length<=1000)(X:∀t∈ts,YA t)
  (hl:dF H (.slice A l.length c) l) (C:l.length=b.pk.length) (D:∀z∈l,0<=z/\z<b.pk.length) :
  LL.Zb P 135 #[YC b (.slice q ts.length r),.slice A l.length c] H λv x=>fI H x/\v=FM (jA b ts l) (.slice A l.length c):=by
 refine aU.m (fO Zyu) rfl ?_;unfold ZkC YC;have e0:ts[0]'O=ts.getD 0 ⟨0,0,0,0⟩:=(ZG O _).symm;refine Y ?_;refine ZB 0 F O λa G=>?_;rw[e0]at G;have N:YA (ts.getD 0 ⟨0,0,0,0⟩):=by rw[<-e0];exact X _ (iN _)
 have E:vF b ts l=⟨(Zw b (ts.getD 0 ⟨0,0,0,0⟩) l).2,(Zw b (ts.getD 0 ⟨0,0,0,0⟩) l).2,0,⟨0,0,0,0⟩⟩:=rfl;generalize ts.getD 0 ⟨0,0,0,0⟩=t0 at *;refine Y ?_;refine YL (cs:=t0.cells) G (Y ?_);refine Zg (Nk hb ok U N hl C D) ?_;rintro v H1 ⟨i1,rfl⟩;refine Y ?_;refine ZC ts.length (λj x=>fI H x) (λj=>[(1,.slice A l.length c),(2,vi 0),(4,vi 0),(6,vi 0),(27,.slice q ts.length r),(28,vi ts.length),(29,vi j)])
  (λj=>[(2,[vi b.pl,vi b.hd,vi b.td,.slice b.A1 b.pk.length b.c1,.slice b.A2 b.nt.length b.c2,.slice q ts.length r]),(4,[.slice none 0 0,vi 0,vi 0,vi 0,vi 0,vi 0,vi 0,vi 0]),(6,((ts.take j).foldl (Z2 b l) (vF b ts l)).cs (.slice A l.length c))]) i1 V ⟨rfl,rfl,by rw[List.take_zero,List.foldl_nil,E];rfl,trivial⟩ ?_
 rintro j H2 hj u;refine OJ (λh1=>?_) (λh1=>?_)
 ·have p:j<ts.length:=O;have K:=Om (Z2 b l) (vF b ts l) p;have B:=Zep (b:=b) (ts:=ts) (l:=l) j O;generalize(ts.take j).foldl (Z2 b l) (vF b ts l)=s at *;have Q:=X _ (iN p);refine Y ?_;refine ZB j (F.inc u) p λa G=>?_;generalize ts[j]=t at *;refine Y ?_;refine YL (cs:=t.cells) G (Y ?_);refine Zg (Nk (hb.inc u) ok (U.inc u) Q (hl.inc u) C D) ?_;rintro v T ⟨i3,rfl⟩;have h:Z2 b l s t=⟨min s.lo (Zw b t l).2,max s.hi (Zw b t l).2,if UA b (Zw b t l)=true then s.good+1 else s.good,Yq s.cold (Zw b t l).1 4⟩:=rfl;generalize Zw b t l=w at *;refine Y ?_;refine Z4 (cs:=[vi w.2]) (OL _) rfl λS L=>?_;have i4:=(u.trans i3).trans (Zt (o:=.cells (List.toArray [vi w.2]) 3) L);have M:dF (T.ins S (.cells (List.toArray [vi w.2]) 3)) (.slice (some ⟨S,0,none⟩) 1 1) [w.2]:=Z3 (l:=[w.2]);generalize T.ins S (.cells (List.toArray [vi w.2]) 3)=H4 at *;refine Y ?_;refine Zo (ZuY M (by show 1<=1000000;omega)) ?_;rw[show Oj s.lo s.hi [w.2]=(min s.lo w.2,max s.hi w.2)from rfl];refine Y ?_;refine Zo (Zvs w) ?_;have Wa:=B.g;cases hgd:UA b w
  all_goals rw[hgd]at h
  all_goals refine Y ?_
  all_goals refine ZC 4 (λ_ x=>H4=x) (λk=>[(1,.slice A l.length c),(2,vi 0),(4,vi 0),(6,vi 0),(27,.slice q ts.length r),(28,vi ts.length),(29,vi j),(54,.agg #[vb w.1.a,vb w.1.b,vb w.1.c,vb w.1.d]),(55,vi k)]) (λk=>[(2,[vi b.pl,vi b.hd,vi b.td,.slice b.A1 b.pk.length b.c1,.slice b.A2 b.nt.length b.c2,.slice q ts.length r]),(4,[.slice none 0 0,vi 0,vi 0,vi 0,vi 0,vi 0,vi 0,vi 0]),(6,({ Z2 b l s t with cold:=Yq s.cold w.1 k }:Td).cs (.slice A l.length c))]) rfl V ⟨rfl,rfl,by rw[h];rfl,trivial⟩ ?_
  all_goals
   rintro k _ hk rfl
   refine Y ?_
   refine OI (λh4=>?_) (λh4=>?_)
   ·have f:k<4:=O;have J:=(Ll (w:=w.1) B.d k O k f);rw[iF O]at J;refine Y ?_;refine uH (v:=vb (w.1.get k)) (fU Zem) (fT t4) (rD a4) rfl rfl f (by
     match k,f with
     | 0,_=>rfl
     | 1,_=>rfl
     | 2,_=>rfl
     | 3,_=>rfl) ?_
    refine Y ?_;cases hc:w.1.get k with
    | false=>
     have e:Yq s.cold w.1 (k+1)=Yq s.cold w.1 k:=by rw[Yq,iF (by rw[hc];decide)]
     refine Y ?_;exact⟨⟨k+1,O⟩,gI O,rfl,V,⟨rfl,rfl,by rw[e];rfl,trivial⟩,rfl⟩
    | true=>
     have e:Yq s.cold w.1 (k+1)=(Yq s.cold w.1 k).put k ((Yq s.cold w.1 k).get k+1):=by rw[Yq,qAa hc]
     refine Y ?_;refine sV (j:=k) rfl rfl f (Y ?_);refine wB (v:=vi ((Yq s.cold w.1 k).get k)) (OL _) rfl rfl (Zwj { Z2 b l s t with cold:=Yq s.cold w.1 k } _ f) (Y ?_);refine sV (j:=k) rfl rfl f (Y ?_);refine EL (OL _) rfl rfl rfl rfl (by show 4+k * 1+1<=8;omega) rfl ?_;have I:ZR (({ Z2 b l s t with cold:=Yq s.cold w.1 k }:Td).cs (.slice A l.length c)) (4+k * 1) (Value.cells (vi ((Yq s.cold w.1 k).get k+1))).toList=({ Z2 b l s t with cold:=Yq s.cold w.1 (k+1) }:Td).cs (.slice A l.length c):=by rw[e];exact ZoN { Z2 b l s t with cold:=Yq s.cold w.1 k } _ _ f
     rw[I];refine Y ?_;exact⟨⟨k+1,O⟩,gI O,rfl,V,V,rfl⟩
   ·have:k=4:=O;subst this;refine Y ?_;exact⟨⟨j+1,O⟩,gI O,i4,V,⟨rfl,rfl,by rw[K,h];rfl,trivial⟩,rfl⟩
 have:j=ts.length:=O;subst this;rw[qAh];refine Y ?_;exact⟨u,rfl⟩
end
def ZeI{own:Int}(h:Zp b own=0):own=0:=by
 unfold Zp at h;split at h
 ·rename_i q;exact absurd h q
 split at h
 ·rename_i q;exact absurd h q
 rename_i q;simpa using q
def UZ(b:Sb)(l:List Int):Int×Int:=if Zp b (Yo b l)=0 then((jA b (Za b) l).lo,(jA b (Za b) l).hi)else(0,0)
def PW(b:Sb)(l:List Int):Int:=if Zp b (Yo b l)=0 then Z6 (jA b (Za b) l).good (Za b).length else 0
def Uz(b:Sb)(l:List Int)(n:Int):Int:=if Yo b l≠0 then Yo b l else YG b n
def XN(b:Sb)(l:List Int)(n:Int):Int:=if Zp b (Uz b l n)=0 then Z6 ((jA b (Za b) l).cold.get n.toNat) (Za b).length else 0
def Zn4:Tryz.prog.underlying 159=some (.array 4 3):=U
section
variable{P:fP}[Tz P][Loud P]{H:Hp}
theorem Zny(hb:Zq H b)(q:b.Sz)(u:Yb H)(k:aM H ⟨3,0,none⟩ [vf 407])(p:dF H (.slice A l.length c) l)(s:l.length<=c)(x:l.length<=1000000) :
  LL.Zb P 54 #[b.v,.slice A l.length c] H λv r=>fI H r/\v=.tuple #[.agg #[vi (UZ b l).1,vi (UZ b l).2],vi (Zp b (Yo b l))]:=by
 refine aU.m (fO ZyX) rfl ?_;unfold Zk5 Sb.v;refine Y ?_;refine Zg (Zis (b:=b) p s x q.pk) ?_;rintro M E ⟨o,K,L,f⟩;refine Zz OL (Y ?_);refine Zg (OC (hb.sub o) q (aM.sub u o) f) ?_;rintro v F ⟨z,y⟩;have p9:=o.inc.trans z;refine Zz OL ?_;rcases y with⟨h0,rfl⟩ | ⟨h0,ok,e,w,I,rfl,C⟩
 ·unfold Oc UZ;exact LP
 unfold UZ;rw[qAa h0,h0];have a:=Of (ZeI h0);have h:=C.sl;obtain⟨D,J,rfl,_⟩:=id h;unfold YC;refine Y ?_;refine Zg (My (hb.inc p9) ok (k.inc p9) h ⟨e,by have:=Uw ok;omega⟩ (P9 ok) (p.inc p9) a.1 a.2.1) ?_;rintro v G ⟨B,rfl⟩;refine Y ?_;exact⟨p9.trans B,rfl⟩
theorem Zgh(hb:Zq H b)(q:b.Sz)(u:Yb H)(k:aM H ⟨3,0,none⟩ [vf 407])(p:dF H (.slice A l.length c) l)(s:l.length<=c)(x:l.length<=1000000) :
  LL.Zb P 55 #[b.v,.slice A l.length c] H λv r=>fI H r/\v=.tuple #[vi (PW b l),vi (Zp b (Yo b l))]:=by
 refine aU.m (fO ZyV) rfl ?_;unfold Zk3 Sb.v;refine Y ?_;refine Zg (Zis (b:=b) p s x q.pk) ?_;rintro M E ⟨o,K,L,f⟩;refine Zz OL (Y ?_);refine Zg (OC (hb.sub o) q (aM.sub u o) f) ?_;rintro v F ⟨z,y⟩;have p9:=o.inc.trans z;refine Zz OL ?_;rcases y with⟨h0,rfl⟩ | ⟨h0,ok,e,w,I,rfl,C⟩
 ·unfold Oc PW;exact LP
 unfold PW;rw[qAa h0,h0];have a:=Of (ZeI h0);have h:=C.sl;obtain⟨D,J,rfl,_⟩:=id h;unfold YC;refine Y ?_;refine Zg (My (hb.inc p9) ok (k.inc p9) h ⟨e,by have:=Uw ok;omega⟩ (P9 ok) (p.inc p9) a.1 a.2.1) ?_;rintro v G ⟨B,rfl⟩;refine Zz OL (Y ?_);refine Zo (Zex _) (Y ?_);exact⟨p9.trans B,rfl⟩
def ZzY{h k:Nat}{n:Int}(q:aM H ⟨h,0,none⟩ [.slice A l.length c])(r:aM H ⟨k,0,none⟩ [vi n])(u:dF H (.slice A l.length c) l)(s:l.length<=c)(w:l.length<=1000000)(f:b.pk.length<=1000000) :
  LL.Zb P 137 #[b.v,pt h,pt k] H λv o=>fI H o/\v=vi (Uz b l n):=by
 refine aU.m (fO Zyt) rfl ?_;unfold ZkB Sb.v;refine Y ?_;refine Z8 q (Y ?_);refine Zo (ZeW u s w f) ?_;refine OJ (λe=>?_) (λe=>?_)
 ·refine Y ?_;exact⟨.refl _,by rw[Uz,qAa e];rfl⟩
 refine Y ?_;refine Z8 r (Y ?_);refine Zg (Zff (b:=b) n f) ?_;rintro D p ⟨y,B,C,a⟩;refine Zz OL (Y ?_);refine ZP (vs:=[b.v]) rfl rfl (a p (.refl _)) ?_;rintro v z ⟨x,rfl⟩;refine Y ?_;exact⟨y.inc.trans x,by rw[Uz,iF O];rfl⟩
theorem Zns{n:Int}(hb:Zq H b)(L:b.Sz)(N:Yb H)(y:aM H ⟨3,0,none⟩ [vf 407])(J:dF H (.slice A l.length c) l)(M:l.length<=c)(Q:l.length<=1000000) :
  LL.Zb P 56 #[b.v,.slice A l.length c,vi n] H λv F=>fI H F/\v=.tuple #[vi (XN b l n),vi (Zp b (Uz b l n))]:=by
 refine aU.m (fO ZyW) rfl ?_;unfold Zk4 Sb.v;refine Y ?_;refine Ug rfl (OL _) λu D=>Y ?_;refine Ug rfl (OL _) λx p=>?_;have s:=(Zt (o:=.cells (Value.slice A l.length c).cells 45) D).trans (Zt (o:=.cells (vi n).cells 3) p);have G:aM ((H.ins u (.cells (Value.slice A l.length c).cells 45)).ins x (.cells (vi n).cells 3)) ⟨u,0,none⟩ [.slice A l.length c]:=aM.inc (VR (cs:=[.slice A l.length c])) (Zt p);have I:aM ((H.ins u (.cells (Value.slice A l.length c).cells 45)).ins x (.cells (vi n).cells 3)) ⟨x,0,none⟩ [vi n]:=VR (cs:=[vi n]);generalize(H.ins u (.cells (Value.slice A l.length c).cells 45)).ins x (.cells (vi n).cells 3)=X at *;refine Y ?_;refine VW rfl rfl (Y ?_);refine Zg (OC (own:=Uz b l n) (hb.inc s) L (aM.inc N s) (λF z=>Yv U (ZzY (G.inc z) (I.inc z) ((J.inc s).inc z) M Q L.pk))) ?_;rintro v Z ⟨E,S⟩;have p9:=s.trans E;rcases S with⟨h0,rfl⟩ | ⟨h0,ok,k,w,bb,rfl,T⟩
 ·unfold Oc XN;exact LP
 unfold XN;rw[qAa h0,h0];have r:=ZeI h0;have C:Yo b l=0:=qAb λe=>by rw[Uz,qAa e]at r;exact e r
 have R:0<=n/\n<b.pk.length:=qAb λe=>by rw[Uz,iF O,YG,iF e]at r;exact absurd r (by decide)
 have h:=Of C;have f:n.toNat<4:=by have:=ok.n;omega
 have q:=T.sl;obtain⟨W,cw,rfl,_⟩:=id q;unfold YC;refine Y ?_;refine Zh (OL _) rfl (G.inc E) (Y ?_);refine Zh (OL _) rfl (I.inc E) (Y ?_);refine Zg (My (hb.inc p9) ok (y.inc p9) q ⟨k,by have:=Uw ok;omega⟩ (P9 ok) (J.inc p9) h.1 h.2.1) ?_;rintro v H3 ⟨K,rfl⟩;refine ZuU OL K (Y ?_);have B:vi n=vi (n.toNat:Int):=by congr 1;omega
 rw[B];generalize n.toNat=i at *;refine uH (v:=vi ((jA b (Za b) l).cold.get i)) (fU Zn4) (fT t3) (rD a3) rfl rfl f (by
  match i,f with
  | 0,_=>rfl
  | 1,_=>rfl
  | 2,_=>rfl
  | 3,_=>rfl) ?_
 refine Zz OL (Y ?_);refine Zo (Zex _) (Y ?_);exact⟨p9.trans K,rfl⟩
end
