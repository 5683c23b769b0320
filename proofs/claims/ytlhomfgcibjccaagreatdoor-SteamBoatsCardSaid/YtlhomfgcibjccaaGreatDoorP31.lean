import Derived.Test.YtlhomfgcibjccaaGreatDoorP30
set_option linter.all false
set_option maxHeartbeats 8000000
set_option maxRecDepth 20000
open Go Go.LL
namespace Go.Proofs
variable{n c j ct cp i:Nat}{b:Sb}{t:N4}{A At Ap:Option Addr}{l lt lp:List Int}{v:Value}
def Bq:Yl Tryz.prog 65=some (4,some (.agg #[vi 0,vi 0,vi 0,vi 0]),32):=U
def Bo:Tryz.prog.underlying 61=some (.slice 65):=U
def T61:Yl Tryz.prog 61=some (1,some (.slice none 0 0),24):=U
theorem TV(w:Wk)(x y:Int):(w.put 0 x).put 1 y={ w with i:=x,o:=y }:=rfl
theorem TU(w:Wk)(x y:Int):(w.put 2 x).put 3 y={ w with g:=x,d:=y }:=rfl
section
variable{P:aX}[Tz P][Loud P]{H:Hp}
def ZnG{h a:Nat}{out:List Wk}{p q:Int}(r:H h=some (.cells #[.slice (some ⟨a,0,none⟩) n n] 61,true))(y:H a=some (.cells (Zb out).toArray 65,true))(D:out.length=n)(E:0<=p/\p<n)(F:0<=q/\q<n)(hb:∀p,0<=(bM out p).o/\(bM out p).o<=80) :
  LL.Zc P 160 #[vi p,vi q,pt h] H λv u=>H=u/\v=vi (kD out p-kD out q):=by
 have cW:∀z:Nat,z<out.length->aC H (((⟨a,0,none⟩:Addr).add (z * 4)).add 1) [vi (bM out z).o]:=λz s=>by
  rw[Vx,Vx,qAE];refine⟨rfl,_,_,y,λk x=>?_⟩;have f:k=0:=by simpa using x
  subst f;have e:=LA out z 1 s (by decide);rw[ZmA _ (by decide),<-EJ s]at e;have w:(Zb out)[z * 4+1]? = some (vi (bM out z).o):=e;simpa[Obj.mB]using w
 refine aJ.m (bG ZwQ) (args:=[vi p,vi q,pt h]) rfl ?_;unfold Zkd;have B:=hb p.toNat;have C:=hb q.toNat;refine Y ?_;refine Zh (OL _) rfl (ZA (cs:=[.slice (some ⟨a,0,none⟩) n n]) r) (Y ?_);refine Zd p.toNat rfl rfl O O (Y ?_);refine Zh (OL _) rfl (cW p.toNat O) (Y ?_);refine Zh (OL _) rfl (ZA (cs:=[.slice (some ⟨a,0,none⟩) n n]) r) (Y ?_);refine Zd q.toNat rfl rfl O O (Y ?_);refine Zh (OL _) rfl (cW q.toNat O) (Y ?_);exact⟨rfl,rfl⟩
theorem Zgy(hb:Zr H b)(ok:bA b)(hg:aC H ⟨1,0,none⟩ [vf 284])(ht:Yp t)(hl:aF H (.slice A l.length c) l)(NF:l.length=b.pk.length)(M:∀z∈l,0<=z/\z<b.pk.length) :
  LL.Zc P 112 #[b.v,Zu t,.slice A l.length c] H λv H'=>aL H H'/\∃bb,dD H H' 65 v (VN b t l) bb:=by
 refine aJ.m (bG Zxi) (args:=[b.v,Zu t,.slice A l.length c]) rfl ?_;unfold ZkF Sb.v;have hn:=ok.n;have vK:=ok.pl;have uT:=ok.hd;refine Y ?_;refine vS (n:=l.length) (bI Bo) (cD Bq) O O O rfl (OL _) λB I=>?_;rw[show(4:Nat)=Enc.sz Wk from rfl,vT (⟨0,0,0,0⟩:Wk) rfl (by decide) l.length];have i1:=Zs (o:=.cells (Zb (List.replicate l.length (⟨0,0,0,0⟩:Wk))).toArray 65) I;have a1:(H.ins B (.cells (Zb (List.replicate l.length (⟨0,0,0,0⟩:Wk))).toArray 65)) B=some (.cells (Zb (List.replicate l.length (⟨0,0,0,0⟩:Wk))).toArray 65,true):=Hp.aG _ _ _;generalize H.ins B (.cells (Zb (List.replicate l.length (⟨0,0,0,0⟩:Wk))).toArray 65)=H1 at *;refine Y ?_;refine Vt (cD T61) (OL _) λy J9=>Y ?_;refine Vq (cD T61) rfl rfl (Hp.aG _ _ _) rfl rfl (OL _) ?_;rw[Us];have i2:=i1.trans (Zs (o:=.cells #[.slice (some ⟨B,0,none⟩) l.length l.length] 61) J9);have a2:=Zs (o:=.cells #[.slice (some ⟨B,0,none⟩) l.length l.length] 61) J9 _ _ a1;have b2:(H1.ins y (.cells #[.slice (some ⟨B,0,none⟩) l.length l.length] 61)) y=some (.cells #[.slice (some ⟨B,0,none⟩) l.length l.length] 61,true):=Hp.aG _ _ _;have aHh:H y=none:=YL i1 J9;have u:y≠B:=by rintro rfl;rw[J9]at a1;simp at a1
 generalize H1.ins y (.cells #[.slice (some ⟨B,0,none⟩) l.length l.length] 61)=H2 at *;have HR:vi b.pl=vi (b.pl.toNat:Int):=by congr 1;omega
 rw[HR];refine Y ?_;refine vS (n:=b.pl.toNat) (bI dW) (cD t3) O O O rfl (OL _) λrp Z=>?_;rw[show b.pl.toNat * 1=b.pl.toNat * Enc.sz Int from rfl,vT (0:Int) rfl (by decide) b.pl.toNat];have GP:B≠rp:=by rintro rfl;rw[Z]at a2;simp at a2
 have SJ:y≠rp:=by rintro rfl;rw[Z]at b2;simp at b2
 have M6:H rp=none:=YL i2 Z;have w0:WK H2 (H2.ins rp (.cells (Zb (List.replicate b.pl.toNat (0:Int))).toArray 3)) B rp (tA b).1 (tA b).2:=
  ⟨λb x h1 h2 h=>Zs Z _ _ h,by rw[Zs Z _ _ a2,NF];rfl,by rw[qAf];exact Hp.aG _ _ _,GP⟩
 generalize H2.ins rp (.cells (Zb (List.replicate b.pl.toNat (0:Int))).toArray 3)=H3 at *;refine Y ?_;refine Zv l.length (λj H'=>WK H2 H' B rp ((l.take j).foldl (iG t) (tA b)).1 ((l.take j).foldl (iG t) (tA b)).2)
  (λj=>[(2,.slice A l.length c),(3,vi 0),(4,vi 0),(7,pt y),(8,.slice (some ⟨rp,0,none⟩) b.pl.toNat b.pl.toNat),(24,.slice A l.length c),(25,vi l.length),(26,vi j)]) (λ_=>[(3,[vi (b.pl.toNat:Int),vi b.hd,vi b.td,.slice b.A1 b.pk.length b.c1,.slice b.A2 b.nt.length b.c2]),(4,t.cells)]) w0 V V ?_
 rintro j H4 hj R;refine OJ (λh1=>?_) (λh1=>?_)
 ·have G:j<l.length:=O;have W:=z7 ok ht M j O;have tF:=Oe (iG t) (tA b) G;generalize(l.take j).foldl (iG t) (tA b)=s at *;have L:=R.inc i2 I M6;have hz:=M _ (bY G);refine Y ?_;refine Zz j (hl.inc L) G λa ha=>?_;generalize l[j]=z at *;have Qp:z.toNat<4:=O;have vH:z.toNat<s.1.length:=by rw[W.l1];omega
  have hf:=W.fl O;have E:Zo s.2<b.pl.toNat:=by rw[<-W.l2];exact hf
  have b1:=W.fr (Zo s.2);have Hj:=ht z.toNat Qp;refine Y ?_;refine Ya ha (Y ?_);refine Zn (cs:=[vf 284]) (OL _) rfl (aC.inc hg L) rfl (Y ?_);refine Za [.agg #[vf 284],.slice (some ⟨rp,0,none⟩) b.pl.toNat b.pl.toNat] (ZlL (by rw[<-W.l2];exact R.sl) (by rw[W.l2];omega)) ?_;rintro v _ ⟨rfl,rfl⟩;refine Y ?_;refine Zh (OL _) rfl (ZA (R.keep y _ u SJ b2)) (Y ?_);refine Zd (Zo s.2) rfl rfl rfl E (Y ?_);refine Zh (OL _) rfl (R.ar.cA hf rfl) (Y ?_);refine Zd z.toNat rfl rfl O O (Y ?_);refine uU R vH (f:=0) (by decide) rfl rfl rfl λH5 w5=>Y ?_;refine Zd (Zo s.2) rfl rfl rfl E (Y ?_);refine Zh (OL _) rfl (w5.ar.cA hf rfl) (Y ?_);refine ZiC (j:=z) rfl rfl ⟨O,by show z<((4:Nat):Int);omega⟩ (Y ?_);refine FW (v:=vi (t.get z.toNat)) (OL _) rfl rfl (by
   generalize z.toNat=i at *;match i,Qp with
   | 0,_=>rfl
   | 1,_=>rfl
   | 2,_=>rfl
   | 3,_=>rfl) ?_
  refine Y ?_;refine Zd (Zo s.2) rfl rfl rfl E (Y ?_);refine ZS w5.ar hf (ZK _ _) rfl rfl λH6 D=>?_;have w6:=w5.eC D;refine Y ?_;refine Zh (OL _) rfl (ZA (w6.keep y _ u SJ b2)) (Y ?_);refine Zd (Zo s.2) rfl rfl rfl E (Y ?_);refine Zh (OL _) rfl (w6.ar.cA (by rw[qAg];exact hf) rfl) (Y ?_);refine Zd z.toNat rfl rfl O O (Y ?_);refine uU w6 (by rw[qAg];exact vH) (f:=1) (by decide) rfl rfl rfl λH7 w7=>?_;rw[qCX,mC _ _ vH,iF rfl,CE _ _ hf,iF rfl,TV]at w7;refine Y ?_;exact⟨⟨j+1,O⟩,bN O,by rw[tF];exact w7,V,V,rfl⟩
 have:j=l.length:=O;subst this;have W:=z7 ok ht M l.length (dO _);rw[IF]at R W;have e1:l.foldl (iG t) (tA b)=fA b t l:=rfl;rw[e1]at R W;have L:=R.inc i2 I M6;refine Y ?_;refine Za [.slice A l.length c] (Tq (hl.inc L) O (OL _)) ?_;rintro v H5 ⟨s5,(⟨e,_⟩ | ⟨bb,ow⟩)⟩
 ·exact absurd (qBc List.length e) (by simp only[List.length_nil];omega)
 obtain⟨_,⟨_,e,_⟩ | ⟨rt,cap,rest,rfl,rfl,h5,h5l,Sp⟩⟩:=id ow.own
 ·exact absurd e O
 have G5:H4 rt=none:=ow.fresh rt rfl;have Ed:H rt=none:=YL L G5;have BJ:(fA b t l).1.length=l.length:=by rw[W.l1,NF]
 have o7:=s5.mem _ _ (R.keep y _ u SJ b2);have oo:=s5.mem _ _ R.out;have Df:rt≠B:=by rintro rfl;have:=R.out;rw[G5]at this;simp at this
 have Pe:rt≠y:=by rintro rfl;have:=R.keep _ _ u SJ b2;rw[G5]at this;simp at this
 have Bt:∀p,0<=(bM (fA b t l).1 p).o/\(bM (fA b t l).1 p).o<=80:=λp=>by have:=W.o p;omega
 refine Y ?_;refine VQ rfl rfl (Y ?_);refine Za [.slice (some ⟨rt,0,none⟩) l.length cap,.func (.func 160) #[] #[pt y]] (ZyE (key:=kD (fA b t l).1) h5 O (λH' hk p hp q hq=>Yj U (ZnG (hk _ _ (qAF Pe) o7) (hk _ _ (qAF Df) oo) BJ (by have:=M p hp;omega) (by have:=M q hq;omega) Bt))) ?_;rintro v H6 D;have et:gN (kD (fA b t l).1) l=Ul b t l:=rfl;rw[et]at D;have tl:(Ul b t l).length=l.length:=(tI _ _).length_eq;have tr:∀z∈Ul b t l,0<=z/\z<b.pk.length:=λz hz=>M z ((tI _ _).mem_iff.1 hz);generalize hT:Ul b t l=T at *;have CN:aL H H6:=D.inc (L.trans s5.inc) Ed;have o7:=D.keep _ _ (qAF Pe) o7;have oo:=D.keep _ _ (qAF Df) oo;have ot:=D.at_;have HT:vi b.hd=vi (b.hd.toNat:Int):=by congr 1;omega
 rw[HT];refine Y ?_;refine vS (n:=b.hd.toNat) (bI dW) (cD t3) O O O rfl (OL _) λrh N=>?_;rw[show b.hd.toNat * 1=b.hd.toNat * Enc.sz Int from rfl,vT (0:Int) rfl (by decide) b.hd.toNat];have GQ:B≠rh:=by rintro rfl;rw[N]at oo;simp at oo
 have Q:y≠rh:=by rintro rfl;rw[N]at o7;simp at o7
 have nth:rt≠rh:=by rintro rfl;rw[N]at ot;simp at ot
 have X:H rh=none:=YL CN N;have w7:WK H6 (H6.ins rh (.cells (Zb (List.replicate b.hd.toNat (0:Int))).toArray 3)) B rh (fA b t l).1 (List.replicate b.hd.toNat 0):=
  ⟨λb x h1 h2 h=>Zs N _ _ h,Zs N _ _ oo,by rw[qAf];exact Hp.aG _ _ _,GQ⟩
 generalize H6.ins rh (.cells (Zb (List.replicate b.hd.toNat (0:Int))).toArray 3)=H7 at *;have Pd:=W.l1;have N6:VN b t l=((T.foldl (fK b) ((fA b t l).1,List.replicate b.hd.toNat 0)).1):=by rw[<-hT];rfl
 rw[N6];generalize(fA b t l).1=C at *;refine Y ?_;refine Zv l.length (λj H'=>WK H6 H' B rh ((T.take j).foldl (fK b) (C,List.replicate b.hd.toNat 0)).1 ((T.take j).foldl (fK b) (C,List.replicate b.hd.toNat 0)).2)
  (λj=>[(3,vi 0),(7,pt y),(13,.slice (some ⟨rh,0,none⟩) b.hd.toNat b.hd.toNat),(68,.slice (some ⟨rt,0,none⟩) l.length cap),(69,vi l.length),(70,vi j)]) (λ_=>[(3,[vi (b.pl.toNat:Int),vi (b.hd.toNat:Int),vi b.td,.slice b.A1 b.pk.length b.c1,.slice b.A2 b.nt.length b.c2])]) w7 V V ?_
 rintro j H8 hj S;refine OJ (λh2=>?_) (λh2=>?_)
 ·have G:j<T.length:=O;have w:=EN ok Pd Bt (by decide) tr j O;have tF:=Oe (fK b) (C,List.replicate b.hd.toNat 0) G;generalize(T.take j).foldl (fK b) (C,List.replicate b.hd.toNat 0)=s at *;have hi8:=S.inc CN I X;have hz:=tr _ (bY G);have hT8:aF H8 (.slice (some ⟨rt,0,none⟩) l.length cap) T:=⟨_,cap,by rw[tl],λ_=>⟨_,rfl,YN (ZA (S.keep rt _ Df nth ot))⟩⟩;refine Y ?_;refine Zz j hT8 G λa ha=>?_;generalize T[j]=z at *;obtain⟨i,rfl⟩:=qBr hz.1;have hi:i<b.pk.length:=O;have F:i<s.1.length:=by rw[w.l1];exact hi
  have hf:=w.fl O;have E:Zo s.2<b.hd.toNat:=by rw[<-w.l2];exact hf
  have q1:=w.fr (Zo s.2);have q2:=w.o i;have hh:aD b i=b.pk[i]:=ZD hi _;have q3:=(ok.pk i hi).2.2.1;rw[<-hh]at q3;refine Y ?_;refine Ya ha (Y ?_);refine Zn (cs:=[vf 284]) (OL _) rfl (aC.inc hg hi8) rfl (Y ?_);refine Za [.agg #[vf 284],.slice (some ⟨rh,0,none⟩) b.hd.toNat b.hd.toNat] (ZlL (by rw[<-w.l2];exact S.sl) (by rw[w.l2];omega)) ?_;rintro v _ ⟨rfl,rfl⟩;refine Y ?_;refine Zh (OL _) rfl (ZA (S.keep y _ u Q o7)) (Y ?_);refine Zh (OL _) rfl (ZA (S.keep y _ u Q o7)) (Y ?_);refine Zd i rfl rfl rfl O (Y ?_);refine Zh (OL _) rfl (S.cW 1 (by decide) F) (Y ?_);refine Zd (Zo s.2) rfl rfl rfl E (Y ?_);refine Zh (OL _) rfl (S.ar.cA hf rfl) (Y ?_);refine q8 rfl rfl (Y ?_);refine Zd i rfl rfl rfl O (Y ?_);refine uU S F (f:=2) (by decide) rfl rfl rfl λH9 w9=>?_;have oY:i<(s.1.set i ((bM s.1 i).put 2 (max (bM s.1 i).o (el s.2 (Zo s.2))))).length:=by rw[qAg];exact F
  have eg:(bM (s.1.set i ((bM s.1 i).put 2 (max (bM s.1 i).o (el s.2 (Zo s.2))))) i).get 2=max (bM s.1 i).o (el s.2 (Zo s.2)):=by rw[mC _ _ F,iF rfl];rfl
  have w9:WK H6 H9 B rh (s.1.set i ((bM s.1 i).put 2 (max (bM s.1 i).o (el s.2 (Zo s.2))))) s.2:=w9;refine Y ?_;refine Zh (OL _) rfl (ZA (w9.keep y _ u Q o7)) (Y ?_);refine Zh (OL _) rfl (ZA (w9.keep y _ u Q o7)) (Y ?_);refine Zd i rfl rfl rfl O (Y ?_);refine Zh (OL _) rfl (w9.cW 2 (by decide) oY) ?_;rw[eg];refine Y ?_;refine Zz i (hb.pk.inc (w9.inc CN I X)) hi λa ha=>?_;rw[<-hh]at ha;refine Y ?_;refine Zh (OL _) rfl (Ux (j:=3) ha rfl) (Y ?_);refine Zd i rfl rfl rfl O (Y ?_);refine uU w9 oY (f:=3) (by decide) rfl rfl rfl λHa wa=>?_;rw[qCX,mC _ _ F,iF rfl,TU]at wa;have HU:(bM (s.1.set i { bM s.1 i with g:=max (bM s.1 i).o (el s.2 (Zo s.2)),d:=max (bM s.1 i).o (el s.2 (Zo s.2))+(aD b i).bF }) i).get 3=max (bM s.1 i).o (el s.2 (Zo s.2))+(aD b i).bF:=by rw[mC _ _ F,iF rfl];rfl
  refine Y ?_;refine Zh (OL _) rfl (ZA (wa.keep y _ u Q o7)) (Y ?_);refine Zd i rfl rfl rfl O (Y ?_);refine Zh (OL _) rfl (wa.cW 3 (by decide) (by rw[qAg];exact F)) ?_;rw[HU];refine Y ?_;refine Zd (Zo s.2) rfl rfl rfl E (Y ?_);refine ZS wa.ar hf (ZK _ _) rfl rfl λHb HZ=>?_;have F5:=wa.eC HZ;refine Y ?_;exact⟨⟨j+1,O⟩,bN O,by rw[tF];exact F5,V,V,rfl⟩
 have:j=T.length:=O;subst this;rw[IF]at S;have w:=EN ok Pd Bt (by decide) tr T.length (dO _);rw[IF]at w;refine Y ?_;refine Zh (OL _) rfl (ZA (S.keep y _ u Q o7)) (Y ?_);generalize T.foldl (fK b) (C,List.replicate b.hd.toNat 0)=s at *;have e:s.1.length=l.length:=by rw[w.l1,NF]
 refine⟨S.inc CN I X,some B,⟨?_,.inr ⟨B,l.length,[],rfl,by rw[e];rfl,by rw[qAf];exact S.out,?_,by rw[e];exact dO _⟩⟩,λr h=>by obtain rfl:=iO h;exact I⟩
 ·rw[VH]
 rw[qAf,VH,e]
end
structure B4 where
 (a b c d:Bool)
def B4.put(n:B4):Nat->Bool->B4
 | 0,z=>{ n with a:=z }
 | 1,z=>{ n with b:=z }
 | 2,z=>{ n with c:=z }
 | _,z=>{ n with d:=z }
def B4.get(n:B4):Nat->Bool
 | 0=>n.a
 | 1=>n.b
 | 2=>n.c
 | _=>n.d
abbrev B4.cs(n:B4)(e:Int):List Value:=[vb n.a,vb n.b,vb n.c,vb n.d,vi e]
abbrev F4(n:B4)(e:Int):Value:=.agg #[vb n.a,vb n.b,vb n.c,vb n.d,vi e]
theorem Zoy(n:B4)(e:Int)(z:Bool)(a:j<4):ZG (n.cs e) (0+j * 1) [vb z]=(n.put j z).cs e:=by
 match j,a with
 | 0,_=>rfl
 | 1,_=>rfl
 | 2,_=>rfl
 | 3,_=>rfl
def U2(b:Sb)(w:List Wk):Nat->B4×Int
 | 0=>(⟨false,false,false,false⟩,0)
 | j+1=>((U2 b w j).1.put j (decide ((bM w j).o+(aD b j).bJ<(bM w j).d)),max (U2 b w j).2 (bM w j).d)
def Yg(b:Sb)(t:N4)(l:List Int):B4×Int:=U2 b (VN b t l) (VN b t l).length
def pM(n:B4):Bool:=!n.a && !n.b && !n.c && !n.d
def nT(b:Sb)(w:B4×Int):Bool:=pM w.1 && decide (w.2<=b.td)
def Mq:Tryz.prog.underlying 145=some (.array 4 4):=U
def Zpo:sZ Tryz.prog 147=some ([("cold",145,0),("end",3,4)],false):=U
def ZyA:Yd Tryz.prog 145=some (some 4):=U
def a4:Yd Tryz.prog 4=some none:=U
def ZuH:CY Tryz.prog 147=false:=U
def tH(ok:bA b)(m:Yp t)(k:l.length=b.pk.length)(f:∀z∈l,0<=z/\z<b.pk.length):(VN b t l).length=b.pk.length/\∀p,0<=(bM (VN b t l) p).o/\(bM (VN b t l) p).o<=200:=by have s:=ok.n;have a:=z7 ok m f l.length (dO _);rw[IF]at a;have a:WB b.pk.length b.pl.toNat (20 * l.length) (fA b t l):=a;have w:(Ul b t l).length=l.length:=(tI _ _).length_eq;have e:=EN ok a.l1 a.o O (l:=Ul b t l) (λz q=>f z ((tI _ _).mem_iff.1 q)) _ (dO _);rw[IF]at e;have e:WB b.pk.length b.hd.toNat (20 * l.length+20 * (Ul b t l).length) (GL b (fA b t l).1 (Ul b t l)):=e;exact⟨e.l1,λp=>by have:=e.o p;show 0<=(bM (GL b (fA b t l).1 (Ul b t l)).1 p).o/\(bM (GL b (fA b t l).1 (Ul b t l)).1 p).o<=200;omega⟩
section
variable{P:aX}[Tz P][Loud P]{H:Hp}{g:Bool}{d:Nat}
def Bl{a:Array Value}{off:Nat}(h:a[off]? = some v)(Q:Value->Bool->Hp->Prop):bL P.toPQ (part 4 a off) Q g H↔Q v g H:=by simp only[part,Zg,OS (zZ (P:=P) a4),DO,qAw,h,Zj]
def Zu1{a b:Bool}(Q:Bool->Bool->Hp->Prop):bL P.toPQ (Op.equalIn (d+1) 4 (vb a) (vb b)) Q g H↔Q (a == b) g H:=by simp only[Op.equalIn,Zg,Zw (bI (P:=P) F6),Zj]
def Zu4{n:B4}(Q:Bool->Bool->Hp->Prop)(h:Q (pM n) g H):bL P.toPQ (Op.equalIn (d+1+1) 145 (.agg #[vb n.a,vb n.b,vb n.c,vb n.d]) (.agg #[vb false,vb false,vb false,vb false])) Q g H:=by have q:∀(x y z u:Bool) (Q:Value->Bool->Hp->Prop) g H,bL P.toPQ (part 4 #[vb x,vb y,vb z,vb u] 0) Q g H↔Q (vb x) g H:=λx y z u Q g H=>Bl rfl Q;have r:∀(x y z u:Bool) (Q:Value->Bool->Hp->Prop) g H,bL P.toPQ (part 4 #[vb x,vb y,vb z,vb u] 1) Q g H↔Q (vb y) g H:=λx y z u Q g H=>Bl rfl Q;have s:∀(x y z u:Bool) (Q:Value->Bool->Hp->Prop) g H,bL P.toPQ (part 4 #[vb x,vb y,vb z,vb u] 2) Q g H↔Q (vb z) g H:=λx y z u Q g H=>Bl rfl Q;have w:∀(x y z u:Bool) (Q:Value->Bool->Hp->Prop) g H,bL P.toPQ (part 4 #[vb x,vb y,vb z,vb u] 3) Q g H↔Q (vb u) g H:=λx y z u Q g H=>Bl rfl Q;obtain⟨p,m,o,B,C⟩:=(cD (P:=P) t4).ex;rw[Op.equalIn];simp only[Zg,Zw (bI (P:=P) Mq),Z4 m,o,Zj];unfold pM at h;have k:List.range' 0 4=[0,1,2,3]:=rfl;simp only[qCQ,Std.Legacy.Range.size,qBI,qAU,Nat.div_one,k,qCb,List.forIn_nil,Zg];obtain⟨a,b,c,e⟩:=n;cases a<;>cases b<;>cases c<;>cases e<;>simp[q,r,s,w,Zu1,Zg,Zj]at h ⊢<;>exact h
def Zu3{n:B4}{e:Int}(Q:Bool->Bool->Hp->Prop)(f:Q (pM n) g H):bL P.toPQ (Op.equalIn (d+1+1+1) 147 (F4 n e) (F4 ⟨false,false,false,false⟩ e)) Q g H:=by
 have w:∀(x y z u:Bool) (Q:Value->Bool->Hp->Prop) g H,bL P.toPQ (part 145 #[vb x,vb y,vb z,vb u,vi e] 0) Q g H↔Q (.agg #[vb x,vb y,vb z,vb u]) g H:=λx y z u Q g H=>TW ZyA Q;have B:∀(x y z u:Bool) (Q:Value->Bool->Hp->Prop) g H,bL P.toPQ (part 3 #[vb x,vb y,vb z,vb u,vi e] 4) Q g H↔Q (vi e) g H:=λx y z u Q g H=>Vo rfl Q;obtain⟨E,F,m,⟨o,C,r⟩,⟨q,D,s⟩,k⟩:=P1 (p:=P.toProgram) (by rw[Tz.prog (P:=P)];exact Zpo);rw[Op.equalIn];simp only[Zg,Zw m,V0,k,DO,qAw,Zj];simp only[o,q,C,D,r,s,Zg,qCd,qCb,List.forIn_nil];rw[iF (show "cold"≠ "_" by decide)];simp only[Zg,w];refine Zu4 (P:=P) _ ?_;cases h:pM n
 ·rw[h]at f;simp[Zg,Zj];exact f
 rw[h]at f;simp[Zg,Zj,B,CR];exact f
theorem Ai(hb:Zr H b)(ok:bA b)(K:aC H ⟨1,0,none⟩ [vf 284])(C:Yp t)(L:aF H (.slice A l.length c) l)(k:l.length=b.pk.length)(p:∀z∈l,0<=z/\z<b.pk.length) :
  LL.Zc P 113 #[b.v,Zu t,.slice A l.length c] H λv u=>aL H u/\v=F4 (Yg b t l).1 (Yg b t l).2:=by
 refine aJ.m (bG Zxh) (args:=[b.v,Zu t,.slice A l.length c]) rfl ?_;unfold ZkE Sb.v;obtain⟨W,Q⟩:=tH ok C k p;have T:=ok.n;refine Y ?_;refine Za [b.v,Zu t,.slice A l.length c] (Zgy hb ok K C L k p) ?_;rintro v F ⟨D,R,M⟩;have q:=M.sl;unfold Yg;generalize VN b t l=w at *;obtain⟨E,G,rfl,_⟩:=id q;refine Y ?_;refine Zv w.length (λj u=>F=u) (λj=>[(3,vi 0),(6,vi 0),(7,vi 0),(13,.slice E w.length G),(14,vi w.length),(15,vi j)]) (λj=>[(3,b.cs),(6,[vb false,vb false,vb false,vb false,vi 0]),(7,(U2 b w j).1.cs (U2 b w j).2)]) rfl V V ?_;rintro j _ S rfl;refine OJ (λJ=>?_) (λJ=>?_)
 ·have f:j<w.length:=O;have h:j<4:=O;have y:j<b.pk.length:=O;have I:w[j]=bM w j:=(EJ f).symm;have B:b.pk[j]=aD b j:=(ZD y _).symm;have U:=Q j;have N:=(ok.pk j y).2.2.2;rw[B]at N;refine Y ?_;refine Zz j q f λa e=>?_;rw[I]at e;refine Y ?_;refine YA (cs:=(bM w j).cells) e (Y ?_);refine Zz j (hb.pk.inc D) y λa e=>?_;rw[B]at e;refine Y ?_;refine Zh (OL _) rfl (Ux (j:=4) e rfl) (Y ?_);refine CF (j:=j) rfl rfl h (Y ?_);refine FX (OL _) rfl rfl rfl rfl (by show 0+j * 1+1<=5;omega) rfl ?_;have x:ZG ((U2 b w j).1.cs (U2 b w j).2) (0+j * 1) (Value.cells (vb (decide ((bM w j).o+(aD b j).bJ<(bM w j).d)))).toList=((U2 b w j).1.put j (decide ((bM w j).o+(aD b j).bJ<(bM w j).d))).cs (U2 b w j).2:=Zoy _ _ _ h;rw[x];refine Y ?_;refine q8 rfl rfl (Y ?_);exact⟨⟨j+1,O⟩,bN O,rfl,V,V,rfl⟩
 have:j=w.length:=O;subst this;refine Y ?_;exact⟨D,rfl⟩
def Zsn(e:Int):LL.Zc P 182 #[vi e] H λv a=>H=a/\v=F4 ⟨false,false,false,false⟩ e:=by refine aJ.m (bG ZwI) (args:=[vi e]) rfl ?_;unfold Zj5;refine Y ?_;exact⟨rfl,rfl⟩
def ZuE(w:B4×Int):LL.Zc P 144 #[b.v,F4 w.1 w.2] H λv e=>H=e/\v=vb (nT b w):=by refine aJ.m (bG ZwZ) (args:=[b.v,F4 w.1 w.2]) rfl ?_;unfold Zkm Sb.v;refine Y ?_;refine Za [vi w.2] (Zsn _) ?_;rintro v _ ⟨rfl,rfl⟩;refine Y ?_;refine KQ (xs:=#[vb w.1.a,vb w.1.b,vb w.1.c,vb w.1.d,vi w.2]) (ys:=#[vb false,vb false,vb false,vb false,vi w.2]) (b:=pM w.1) ZuH (λQ g H f=>Zu3 Q f) rfl rfl ?_;unfold nT;cases hz:pM w.1<;>refine Y ?_<;>exact⟨rfl,rfl⟩
end
def Zih{n:Nat}{l:List Int}:∀{k:Nat},VB n l k=0->∀i (h:i<l.length),i<k->(0<=l[i]/\l[i]<n)/\(l.take i).any (λz=>l[i] == z)=false
 | 0,_,_,_,e=>absurd e (qBm _)
 | k+1,h,i,f,e=>by
  rw[VB]at h;split at h
  ·rename_i a;exact absurd h a
  rename_i a;rcases qDI.1 e with m | rfl
  ·exact Zih (by simpa using a) i f m
  rw[ZD f]at h;split at h
  ·simp at h
  split at h
  ·simp at h
  rename_i p o;exact⟨O,qBR.2 o⟩
def U5(h:Yq b l=0):l.length=b.pk.length/\(∀z∈l,0<=z/\z<b.pk.length)/\l.Nodup:=by
 unfold Yq at h;split at h
 ·simp at h
 rename_i p;have m:=Zih h;refine⟨O,λz f=>?_,?_⟩
 ·obtain⟨i,a,rfl⟩:=qAk.1 f;exact(m i a a).1
 rw[List.nodup_iff_pairwise_ne,qAY];intro i j a k o e;have:=(m j k k).2;rw[qDj]at this;exact this l[i] (List.mem_take_iff_getElem.2 ⟨i,O,rfl⟩) (by simpa using e.symm)
def CD(h:Um b l=0):l.length=b.pk.length/\∀z∈l,1<=z/\z<=20:=by
 unfold Um at h;split at h
 ·simp at h
 split at h
 ·simp at h
 rename_i k a;refine⟨O,λz f=>qAd λe=>a (qBg.2 ⟨z,f,?_⟩)⟩;simp only[uV,qBe,qBH];exact e
def fJ(a:j<4):(Ys l).get j=l.getD j 0:=N4.AV _ a
def uE(h:∀z∈l,1<=z/\z<=20):Yp (Ys l):=λj a=>by
 rw[fJ a,qAa];cases e:l[j]? with
 | none=>exact⟨by decide,by decide⟩
 | some z=>
  have:=h z (List.mem_of_getElem? e);exact⟨by show(0:Int)<=z;omega,this.2⟩
def Z7(b:Sb)(lt lp:List Int):Int:=if ZF b≠0 then ZF b else if Um b lt≠0 then Um b lt else Yq b lp
def OO:Value:=.agg #[vi 0,vi 0,vi 0,.slice none 0 0,.slice none 0 0]
def Ob(a c:Int)(l:List Int):Int×Int:=l.foldl (λs n=>(min s.1 n,max s.2 n)) (a,c)
def cS(c:B4):Nat->List Int
 | 0=>[]
 | j+1=>if c.get j=true then cS c j++[(j:Int)]else cS c j
def gM(b:Sb)(t:N4)(l:List Int):List Int:=cS (Yg b t l).1 4
def B9(c:B4):∀j,(cS c j).length<=j
 | 0=>dO 0
 | j+1=>by
  have:=B9 c j;unfold cS;split
  ·simp;omega
  omega
section
variable{P:aX}[Tz P][Loud P]{H:Hp}
def Zt9{a c:Int}(k:aF H v l)(r:l.length<=1000000):LL.Zc P 143 #[.agg #[vi a,vi c],v] H λw h=>H=h/\w=.agg #[vi (Ob a c l).1,vi (Ob a c l).2]:=by
 refine aJ.m (bG Zw0) (args:=[.agg #[vi a,vi c],v]) rfl ?_;unfold Zkn;refine Y ?_;refine YE k rfl (Y ?_);refine Zv l.length (λj h=>H=h) (λj=>[(2,vi 0),(4,vi 0),(7,v),(8,vi l.length),(9,vi j)]) (λj=>[(2,[vi (Ob a c (l.take j)).1,vi (Ob a c (l.take j)).2]),(4,[vi 0,vi 0])]) rfl V V ?_;rintro j _ q rfl;refine OJ (λo=>?_) (λo=>?_)
 ·have f:j<l.length:=O;have e:Ob a c (l.take (j+1))=(min (Ob a c (l.take j)).1 l[j],max (Ob a c (l.take j)).2 l[j]):=by unfold Ob;rw[Oe _ _ f]
  refine Y ?_;refine Zz j k f λa p=>Y ?_;refine Ya p (Y ?_);refine z5 rfl rfl (Y ?_);refine q8 rfl rfl (Y ?_);exact⟨⟨j+1,O⟩,bN O,rfl,V,⟨by rw[e];rfl,rfl,trivial⟩,rfl⟩
 have:j=l.length:=O;subst this;rw[IF];refine Y ?_;exact⟨rfl,rfl⟩
def Kf(hb:Zr H b)(r:b.Sz)(x:Yk H)(u:aF H (.slice At lt.length ct) lt)(y:aF H (.slice Ap lp.length cp) lp)(o:lp.length<=cp)(q:lt.length<=1000000)(p:lp.length<=1000000) :
  LL.Zc P 111 #[b.v,.slice At lt.length ct,.slice Ap lp.length cp] H λv w=>aL H w/\((Z7 b lt lp≠0/\v=.tuple #[OO,Zu ⟨0,0,0,0⟩,vi (Z7 b lt lp)])\/(Z7 b lt lp=0/\bA b/\Um b lt=0/\Yq b lp=0/\v=.tuple #[b.v,Zu (Ys lt),vi 0])):=by
 refine aJ.m (bG Zxj) (args:=[b.v,.slice At lt.length ct,.slice Ap lp.length cp]) rfl ?_;unfold ZkG Sb.v;refine Y ?_;refine Za [b.v] (CG hb r x) ?_;rintro v z ⟨a,rfl⟩;refine OJ (λh=>?_) (λh=>?_)
 ·have e:Z7 b lt lp=ZF b:=iF h;refine Y ?_;exact⟨a,.inl ⟨by rw[e];exact h,by rw[e];rfl⟩⟩
 have ok:=Ow (b:=b) h;refine Y ?_;refine Za [b.v,.slice At lt.length ct] (Ih (u.inc a) q r.pk) ?_;rintro v _ ⟨rfl,rfl⟩;refine OJ (λk=>?_) (λk=>?_)
 ·have e:Z7 b lt lp=Um b lt:=by rw[Z7,aT O,iF k]
  refine Y ?_;exact⟨a,.inl ⟨by rw[e];exact k,by rw[e];rfl⟩⟩
 have f:Um b lt=0:=O;refine Y ?_;refine Za [b.v,.slice Ap lp.length cp] (Jx (y.inc a) o p r.pk) ?_;rintro v _ ⟨rfl,rfl⟩;refine OJ (λs=>?_) (λs=>?_)
 ·have e:Z7 b lt lp=Yq b lp:=by rw[Z7,aT O,aT O]
  refine Y ?_;exact⟨a,.inl ⟨by rw[e];exact s,by rw[e];rfl⟩⟩
 have e:Z7 b lt lp=0:=by rw[Z7,aT O,aT O];omega
 refine Y ?_;refine Za [.slice At lt.length ct] (Ii (u.inc a) (by have:=(CD f).1;have:=ok.n;omega)) ?_;rintro v B ⟨s2,rfl⟩;refine Zp OL (Y ?_);exact⟨a.trans s2.inc,.inr ⟨e,ok,f,O,rfl⟩⟩
def KM(hb:Zr H b)(F:b.Sz)(C:Yk H)(o:aC H ⟨1,0,none⟩ [vf 284])(D:aF H (.slice At lt.length ct) lt)(y:aF H (.slice Ap lp.length cp) lp)(k:lp.length<=cp)(q:lt.length<=1000000)(p:lp.length<=1000000) :
  LL.Zc P 45 #[b.v,.slice At lt.length ct,.slice Ap lp.length cp] H λv s=>aL H s/\∃w,v=.tuple #[w,vi (Z7 b lt lp)]/\((Z7 b lt lp≠0/\w=.slice none 0 0)\/(Z7 b lt lp=0/\∃h,dD H s 65 w (VN b (Ys lt) lp) h)):=by
 refine aJ.m (bG ZxL) (args:=[b.v,.slice At lt.length ct,.slice Ap lp.length cp]) rfl ?_;unfold Zk8 Sb.v;refine Y ?_;refine Za [b.v,.slice At lt.length ct,.slice Ap lp.length cp] (Kf hb F C D y k q p) ?_;rintro v G ⟨a,(⟨f,rfl⟩ | ⟨f,ok,B,x,rfl⟩)⟩
 ·unfold OO;refine OJ (λu=>?_) (λu=>?_)
  ·refine Y ?_;exact⟨a,_,rfl,.inl ⟨f,rfl⟩⟩
  exact absurd u f
 refine Y ?_;refine Za [b.v,Zu (Ys lt),.slice Ap lp.length cp] (Zgy (hb.inc a) ok (o.inc a) (uE (CD B).2) (y.inc a) (U5 x).1 (U5 x).2.1) ?_;rintro v I ⟨E,h,z⟩;refine Y ?_;exact⟨a.trans E,_,by rw[f];rfl,.inr ⟨f,h,z.own,λr e=>YL a (z.fresh r e)⟩⟩
def Hu(hb:Zr H b)(z:b.Sz)(w:Yk H)(h:aC H ⟨1,0,none⟩ [vf 284])(x:aF H (.slice At lt.length ct) lt)(r:aF H (.slice Ap lp.length cp) lp)(f:lp.length<=cp)(o:lt.length<=1000000)(k:lp.length<=1000000) :
  LL.Zc P 73 #[b.v,.slice At lt.length ct,.slice Ap lp.length cp] H λv s=>aL H s/\v=.tuple #[vi (if Z7 b lt lp=0 then(Yg b (Ys lt) lp).2 else 0),vi (Z7 b lt lp)]:=by
 refine aJ.m (bG ZxD) (args:=[b.v,.slice At lt.length ct,.slice Ap lp.length cp]) rfl ?_;unfold Zk0 Sb.v;refine Y ?_;refine Za [b.v,.slice At lt.length ct,.slice Ap lp.length cp] (Kf hb z w x r f o k) ?_;rintro v B ⟨e,(⟨a,rfl⟩ | ⟨a,ok,u,q,rfl⟩)⟩
 ·unfold OO;refine OJ (λp=>?_) (λp=>?_)
  ·refine Y ?_;exact⟨e,by rw[aT a];rfl⟩
  exact absurd p a
 refine Y ?_;refine Za [b.v,Zu (Ys lt),.slice Ap lp.length cp] (Ai (hb.inc e) ok (h.inc e) (uE (CD u).2) (r.inc e) (U5 q).1 (U5 q).2.1) ?_;rintro v C ⟨y,rfl⟩;refine Y ?_;exact⟨e.trans y,by rw[iF a,a];rfl⟩
def KL(hb:Zr H b)(R:b.Sz)(K:Yk H)(r:aC H ⟨1,0,none⟩ [vf 284])(M:aF H (.slice At lt.length ct) lt)(E:aF H (.slice Ap lp.length cp) lp)(q:lp.length<=cp)(x:lt.length<=1000000)(u:lp.length<=1000000) :
  LL.Zc P 46 #[b.v,.slice At lt.length ct,.slice Ap lp.length cp] H λv f=>aL H f/\∃w G,v=.tuple #[w,vi (Z7 b lt lp)]/\dD H f 3 w (if Z7 b lt lp=0 then gM b (Ys lt) lp else[]) G:=by
 refine aJ.m (bG ZxK) (args:=[b.v,.slice At lt.length ct,.slice Ap lp.length cp]) rfl ?_;unfold Zk7 Sb.v;refine Y ?_;refine Za [b.v,.slice At lt.length ct,.slice Ap lp.length cp] (Kf hb R K M E q x u) ?_;rintro v T ⟨p,(⟨h,rfl⟩ | ⟨h,ok,I,D,rfl⟩)⟩
 ·unfold OO;refine OJ (λC=>?_) (λC=>?_)
  ·refine Y ?_;exact⟨p,_,none,rfl,by rw[aT h];exact .nil H _ 3⟩
  exact absurd C h
 refine Y ?_;refine Za [b.v,Zu (Ys lt),.slice Ap lp.length cp] (Ai (hb.inc p) ok (r.inc p) (uE (CD I).2) (E.inc p) (U5 D).1 (U5 D).2.1) ?_;rintro v U ⟨N,rfl⟩;rw[iF h,h];unfold gM;have y:=p.trans N;generalize Yg b (Ys lt) lp=w at *;refine Y ?_;refine ZO (α:=Value×Option Nat) 4 (λj s f=>aL H f/\dD H f 3 s.1 (cS w.1 j) s.2) (λj s=>[(11,s.1),(29,.agg #[vb w.1.a,vb w.1.b,vb w.1.c,vb w.1.d]),(30,vi j)]) (λ_ _=>[]) (.slice none 0 0,none) ⟨y,.nil H _ 3⟩ V trivial ?_;rintro j ⟨s,B⟩ W Z ⟨z,os⟩;simp only at os;refine OJ (λJ=>?_) (λJ=>?_)
 ·have k:j<4:=O;refine Y ?_;refine LC (v:=vb (w.1.get j)) (bI Mq) (cD t4) (zZ a4) rfl rfl k (by
   match j,k with
   | 0,_=>rfl
   | 1,_=>rfl
   | 2,_=>rfl
   | 3,_=>rfl) ?_
  refine Y ?_;cases hc:w.1.get j with
  | false=>
   have e:cS w.1 (j+1)=cS w.1 j:=by rw[cS,aT (by rw[hc];decide)]
   refine Y ?_;exact⟨(⟨j+1,O⟩,(s,B)),bN O,⟨z,by rw[e];exact os⟩,V,trivial,rfl⟩
  | true=>
   have e:cS w.1 (j+1)=cS w.1 j++[(j:Int)]:=by rw[cS,iF hc]
   have L:=B9 w.1 j;refine Y ?_;refine ZY (cs:=[vi (j:Int)]) (OL _) rfl λr6 o=>Y ?_;refine U7 (l':=[(j:Int)]) (bI dW) (bI dW) (cD t3) rfl (by decide) (z.trans (Zs o)) (os.ins o) (Z0 (l:=[(j:Int)])) rfl (by simp only[qAs,List.length_nil];omega) O rfl rfl (OL _) λS X F k1 Q k3=>Y ?_;exact⟨(⟨j+1,O⟩,(S,F)),bN O,⟨k1,by rw[e];exact Q⟩,V,trivial,rfl⟩
 have:j=4:=O;subst this;refine Y ?_;exact⟨z,_,B,rfl,os⟩
end
def Zhq{b:Sb}(ok:bA b):∀(r:Nat) (m:N4),r<=b.pk.length->Yp m->∀t∈bX b r m,Yp t
 | 0,m,_,k,t,a=>by
  rw[bX]at a;split at a
  ·obtain rfl:=oR.1 a;exact k
  simp at a
 | r+1,m,s,k,t,a=>by
  rw[bX]at a;have f:b.pk.length-(r+1)<b.pk.length:=O;have o:aD b (b.pk.length-(r+1))=b.pk[b.pk.length-(r+1)]:=ZD f _;have p:=ok.pk _ f;rw[<-o]at p;generalize b.pk.length-(r+1)=i at *;have key:∀c:Nat,(c:Int)<=(aD b i).hi-(aD b i).lo+1->t∈gT (λv=>bX b r (m.put i v)) (aD b i).hi c->Yp t:=by
   intro c;induction c with
   | zero=>intro _ h;simp[gT]at h
   | succ c ih=>
    intro q h;rw[gT]at h;rcases qAi.1 h with h | h
    ·exact Zhq ok r _ O (k.put i ⟨O,O⟩) t h
    exact ih O h
  exact key _ O a
def vV(ok:bA b):∀t∈Zi b,Yp t:=Zhq ok _ _ (dO _) ZlX
structure Td where
 (lo hi good:Int) (cold:N4)
abbrev Td.cs(x:Td)(e:Value):List Value:=[e,vi x.lo,vi x.hi,vi x.good,vi x.cold.a,vi x.cold.b,vi x.cold.c,vi x.cold.d]
abbrev AF(x:Td)(e:Value):Value:=.agg #[e,vi x.lo,vi x.hi,vi x.good,vi x.cold.a,vi x.cold.b,vi x.cold.c,vi x.cold.d]
def Yv(c:N4)(w:B4):Nat->N4
 | 0=>c
 | i+1=>if w.get i=true then(Yv c w i).put i ((Yv c w i).get i+1)else Yv c w i
def V2(b:Sb)(l:List Int)(s:Td)(t:N4):Td:=
 ⟨min s.lo (Yg b t l).2,max s.hi (Yg b t l).2,if nT b (Yg b t l)=true then s.good+1 else s.good,Yv s.cold (Yg b t l).1 4⟩
def iR(b:Sb)(a:List N4)(l:List Int):Td:=⟨(Yg b (a.getD 0 ⟨0,0,0,0⟩) l).2,(Yg b (a.getD 0 ⟨0,0,0,0⟩) l).2,0,⟨0,0,0,0⟩⟩
def cG(b:Sb)(a:List N4)(l:List Int):Td:=a.foldl (V2 b l) (iR b a l)
theorem Zoz(x:Td)(a:Value)(z:Int)(f:i<4):ZG (x.cs a) (4+i * 1) [vi z]=({ x with cold:=x.cold.put i z }:Td).cs a:=by
 match i,f with
 | 0,_=>rfl
 | 1,_=>rfl
 | 2,_=>rfl
 | 3,_=>rfl
theorem Zvl(x:Td)(e:Value)(a:i<4):(x.cs e)[4+i * 1]? = some (vi (x.cold.get i)):=by
 match i,a with
 | 0,_=>rfl
 | 1,_=>rfl
 | 2,_=>rfl
 | 3,_=>rfl
structure Bp(x:Td)(c:Int):Prop where
 g:0<=x.good/\x.good<=c
 d:∀i,i<4->0<=x.cold.get i/\x.cold.get i<=c
def WI{c:N4}{w:B4}{k:Int}(h:∀i,i<4->0<=c.get i/\c.get i<=k):∀j,j<=4->∀i,i<4->0<=(Yv c w j).get i/\(Yv c w j).get i<=k+(if i<j then 1 else 0)
 | 0,_,i,a=>by have:=h i a;rw[aT O];show 0<=c.get i/\c.get i<=_;omega
 | j+1,o,i,a=>by
  have f:=WI (w:=w) h j O i a;have m:=WI (w:=w) h j O j O;rw[aT O]at m;rw[Yv];split
  ·rw[N4.aZ _ _ a];split
   ·rename_i e;subst e;rw[iF O];omega
   split at f<;>split<;>omega
  split at f<;>split<;>omega
def Bp.step{s:Td}{c:Int}(h:Bp s c):Bp (V2 b l s t) (c+1):=by
 refine⟨?_,λi a=>?_⟩
 ·have:=h.g;show 0<=(if nT b (Yg b t l)=true then s.good+1 else s.good)/\(if nT b (Yg b t l)=true then s.good+1 else s.good)<=_;split<;>omega
 have:=WI (w:=(Yg b t l).1) h.d 4 (dO _) i a;rw[iF a]at this;exact this
def Mn{b:Sb}{ts:List N4}{l:List Int}:∀j,j<=ts.length->Bp ((ts.take j).foldl (V2 b l) (iR b ts l)) j
 | 0,_=>⟨⟨by show(0:Int)<=0;omega,by show(0:Int)<=_;omega⟩,λi f=>by
   have:(iR b ts l).cold.get i=0:=by
    match i,f with
    | 0,_=>rfl
    | 1,_=>rfl
    | 2,_=>rfl
    | 3,_=>rfl
   show 0<=(iR b ts l).cold.get i/\(iR b ts l).cold.get i<=_;omega⟩
 | j+1,h=>by have e:j<ts.length:=h;rw[Oe _ _ e,show(((j+1:Nat):Int))=j+1 by omega];exact(Mn j O).step
def fN(j0 n:Int):Int:=if j0=0 then 2 else if j0=n then 1 else 0
section
variable{P:aX}[Tz P][Loud P]{H:Hp}
def Mi(j0:Int):LL.Zc P 97 #[ZU b (.slice A n c),vi j0] H λv f=>H=f/\v=vi (fN j0 n):=by
 refine aJ.m (bG Zxs) (args:=[ZU b (.slice A n c),vi j0]) rfl ?_;unfold ZkP ZU fN;refine OJ (λa=>?_) (λa=>?_)
 ·refine Y ?_;exact⟨rfl,by rw[iF a];rfl⟩
 refine OJ (λe=>?_) (λe=>?_)
 ·refine Y ?_;exact⟨rfl,by rw[aT a,iF e];rfl⟩
 refine Y ?_;exact⟨rfl,by rw[aT a,aT e];rfl⟩
def Bb{p:Option Addr}{q:Nat}{ts:List N4}(hb:Zr H b)(ok:bA b)(W:aC H ⟨1,0,none⟩ [vf 284])(F:aF H (.slice p ts.length q) ts)(X:1<=ts.length/\ts.length<=1000)(Z:∀t∈ts,Yp t)
  (hl:aF H (.slice A l.length c) l) (C:l.length=b.pk.length) (D:∀z∈l,0<=z/\z<b.pk.length) :
  LL.Zc P 93 #[ZU b (.slice p ts.length q),.slice A l.length c] H λv x=>aL H x/\v=AF (cG b ts l) (.slice A l.length c):=by
 refine aJ.m (bG Zxv) (args:=[ZU b (.slice p ts.length q),.slice A l.length c]) rfl ?_;unfold ZkS ZU;have e0:ts[0]'O=ts.getD 0 ⟨0,0,0,0⟩:=(ZD O _).symm;refine Y ?_;refine Zz 0 F O λa G=>?_;rw[e0]at G;have Q:Yp (ts.getD 0 ⟨0,0,0,0⟩):=by rw[<-e0];exact Z _ (bY _)
 have E:iR b ts l=⟨(Yg b (ts.getD 0 ⟨0,0,0,0⟩) l).2,(Yg b (ts.getD 0 ⟨0,0,0,0⟩) l).2,0,⟨0,0,0,0⟩⟩:=rfl;generalize ts.getD 0 ⟨0,0,0,0⟩=t0 at *;refine Y ?_;refine YA (cs:=t0.cells) G (Y ?_);refine Za [b.v,Zu t0,.slice A l.length c] (Ai hb ok W Q hl C D) ?_;rintro v H1 ⟨i1,rfl⟩;refine Y ?_;refine Zv ts.length (λj x=>aL H x) (λj=>[(1,.slice A l.length c),(2,vi 0),(4,vi 0),(6,vi 0),(27,.slice p ts.length q),(28,vi ts.length),(29,vi j)])
  (λj=>[(2,[vi b.pl,vi b.hd,vi b.td,.slice b.A1 b.pk.length b.c1,.slice b.A2 b.nt.length b.c2,.slice p ts.length q]),(4,[.slice none 0 0,vi 0,vi 0,vi 0,vi 0,vi 0,vi 0,vi 0]),(6,((ts.take j).foldl (V2 b l) (iR b ts l)).cs (.slice A l.length c))]) i1 V ⟨rfl,rfl,by rw[qCa,List.foldl_nil,E];rfl,trivial⟩ ?_
 rintro j H2 hj u;refine OJ (λh1=>?_) (λh1=>?_)
 ·have r:j<ts.length:=O;have L:=Oe (V2 b l) (iR b ts l) r;have B:=Mn (b:=b) (ts:=ts) (l:=l) j O;generalize(ts.take j).foldl (V2 b l) (iR b ts l)=s at *;have R:=Z _ (bY r);refine Y ?_;refine Zz j (F.inc u) r λa G=>?_;generalize ts[j]=t at *;refine Y ?_;refine YA (cs:=t.cells) G (Y ?_);refine Za [b.v,Zu t,.slice A l.length c] (Ai (hb.inc u) ok (W.inc u) R (hl.inc u) C D) ?_;rintro v U ⟨i3,rfl⟩;have h:V2 b l s t=⟨min s.lo (Yg b t l).2,max s.hi (Yg b t l).2,if nT b (Yg b t l)=true then s.good+1 else s.good,Yv s.cold (Yg b t l).1 4⟩:=rfl;generalize Yg b t l=w at *;refine Y ?_;refine ZY (cs:=[vi w.2]) (OL _) rfl λI M=>?_;have i4:=(u.trans i3).trans (Zs (o:=.cells (List.toArray [vi w.2]) 3) M);have N:aF (U.ins I (.cells (List.toArray [vi w.2]) 3)) (.slice (some ⟨I,0,none⟩) 1 1) [w.2]:=Z0 (l:=[w.2]);generalize U.ins I (.cells (List.toArray [vi w.2]) 3)=H4 at *;refine Y ?_;refine Za [.agg #[vi s.lo,vi s.hi],.slice (some ⟨I,0,none⟩) 1 1] (Zt9 N (by show 1<=1000000;omega)) ?_;rintro v _ ⟨rfl,rfl⟩;rw[show Ob s.lo s.hi [w.2]=(min s.lo w.2,max s.hi w.2)from rfl];refine Y ?_;refine Za [b.v,F4 w.1 w.2] (ZuE w) ?_;rintro v _ ⟨rfl,rfl⟩;have Ft:=B.g;cases hgd:nT b w
  all_goals rw[hgd]at h
  all_goals refine Y ?_
  all_goals refine Zv 4 (λ_ x=>H4=x) (λk=>[(1,.slice A l.length c),(2,vi 0),(4,vi 0),(6,vi 0),(27,.slice p ts.length q),(28,vi ts.length),(29,vi j),(54,.agg #[vb w.1.a,vb w.1.b,vb w.1.c,vb w.1.d]),(55,vi k)]) (λk=>[(2,[vi b.pl,vi b.hd,vi b.td,.slice b.A1 b.pk.length b.c1,.slice b.A2 b.nt.length b.c2,.slice p ts.length q]),(4,[.slice none 0 0,vi 0,vi 0,vi 0,vi 0,vi 0,vi 0,vi 0]),(6,({ V2 b l s t with cold:=Yv s.cold w.1 k }:Td).cs (.slice A l.length c))]) rfl V ⟨rfl,rfl,by rw[h];rfl,trivial⟩ ?_
  all_goals
   rintro k _ hk rfl
   refine Y ?_
   refine OI (λh4=>?_) (λh4=>?_)
   ·have f:k<4:=O;have K:=(WI (w:=w.1) B.d k O k f);rw[aT O]at K;refine Y ?_;refine LC (v:=vb (w.1.get k)) (bI Mq) (cD t4) (zZ a4) rfl rfl f (by
     match k,f with
     | 0,_=>rfl
     | 1,_=>rfl
     | 2,_=>rfl
     | 3,_=>rfl) ?_
    refine Y ?_;cases hc:w.1.get k with
    | false=>
     have e:Yv s.cold w.1 (k+1)=Yv s.cold w.1 k:=by rw[Yv,aT (by rw[hc];decide)]
     refine Y ?_;exact⟨⟨k+1,O⟩,bN O,rfl,V,⟨rfl,rfl,by rw[e];rfl,trivial⟩,rfl⟩
    | true=>
     have e:Yv s.cold w.1 (k+1)=(Yv s.cold w.1 k).put k ((Yv s.cold w.1 k).get k+1):=by rw[Yv,iF hc]
     refine Y ?_;refine CF (j:=k) rfl rfl f (Y ?_);refine FW (v:=vi ((Yv s.cold w.1 k).get k)) (OL _) rfl rfl (Zvl { V2 b l s t with cold:=Yv s.cold w.1 k } _ f) (Y ?_);refine CF (j:=k) rfl rfl f (Y ?_);refine FX (OL _) rfl rfl rfl rfl (by show 4+k * 1+1<=8;omega) rfl ?_;have J:ZG (({ V2 b l s t with cold:=Yv s.cold w.1 k }:Td).cs (.slice A l.length c)) (4+k * 1) (Value.cells (vi ((Yv s.cold w.1 k).get k+1))).toList=({ V2 b l s t with cold:=Yv s.cold w.1 (k+1) }:Td).cs (.slice A l.length c):=by rw[e];exact Zoz { V2 b l s t with cold:=Yv s.cold w.1 k } _ _ f
     rw[J];refine Y ?_;exact⟨⟨k+1,O⟩,bN O,rfl,V,V,rfl⟩
   ·have:k=4:=O;subst this;refine Y ?_;exact⟨⟨j+1,O⟩,bN O,i4,V,⟨rfl,rfl,by rw[L,h];rfl,trivial⟩,rfl⟩
 have:j=ts.length:=O;subst this;rw[IF];refine Y ?_;exact⟨u,rfl⟩
end
