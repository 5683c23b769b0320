import Derived.Test.YtmfealhfgccmfaaGreatDoorTM01
set_option linter.all false
set_option maxHeartbeats 8000000
set_option maxRecDepth 100000
def F8{G:Prop}(h:G:=by
  simp only[qAi,forall_eq_or_imp];constructor
  ·rintro⟨h1,h2⟩;exact⟨O,O,h2⟩
  rintro⟨h1,h2,h3⟩;exact⟨O,h3⟩):G:=h
open Go Go.LL
namespace Go.Proofs
section
variable{m:iV}
section
variable{P:fP}[Tz P][Loud P]{H:Hp}
def Fi{x:qY}{s:Value}{l:List qY}(N:dF H s l)(Q:l.length<=1000000)(u:dF H (.slice x.A x.kn.length x.c) x.kn)(h:qW l x):LL.Zb P 249 #[ED x,s] H λv p=>fI H p/\v=vi 0:=by
 obtain⟨Z,o2,o3,o4,o5,o6⟩:=h;refine aU.m (fO Cs) rfl ?_;unfold JB;refine Y ?_;refine Ug rfl (OL _) λr S=>?_;have T:=Zt (o:=.cells (ED x).cells 197) S;have C:aM (H.ins r (.cells (ED x).cells 197)) ⟨r,0,none⟩ [.string x.nm,vi x.lg,.slice x.A x.kn.length x.c]:=VR;generalize H.ins r (.cells (ED x).cells 197)=H2 at *;refine Y ?_;refine Zh (OL _) rfl (by rw[add_zero];exact YN (cs:=[.string x.nm]) (ds:=[vi x.lg,.slice x.A x.kn.length x.c]) C) (Y ?_);refine Zg (vs:=[.string x.nm]) (JQ Z) ?_;rintro v K ⟨J,rfl⟩;have f:=C.sub J;have z:=T.trans J.inc;refine Y ?_;refine VW rfl rfl (Y ?_);refine Zg (vs:=[s,.func (.func 317) #[] #[.pointer (some ⟨r,0,none⟩)]]) (Wfr (l:=l) (λq R=>Yv U (LL.Zb.mono (Bh f) λv p t=>⟨t.1,by obtain⟨k,u,rfl⟩:=qAz.1 R;rw[t.2,o2 k u]⟩)) (N.inc z) Q) ?_;rintro v _ ⟨rfl,rfl⟩;refine Y ?_;refine Zh (OL _) rfl (YN (cs:=[vi x.lg]) (ds:=[.slice x.A x.kn.length x.c]) (mG f rfl)) (Y ?_);refine Zg (vs:=[vi x.lg,vi 1,vi 40]) (oE _ _ _) ?_;rintro w _ ⟨rfl,rfl⟩;rw[decide_eq_true o3];refine Y ?_;refine Zh (OL _) rfl (mG f rfl) ?_;refine OJ (λD=>?_) (λD=>?_)
 ·exact absurd D O
 refine Y ?_;refine Zh (OL _) rfl (mG f rfl) (Y ?_);refine ZC x.kn.length (λj p=>K=p) (λj=>[(2,.pointer (some ⟨r,0,none⟩)),(5,vi (if h:0<j/\j<=x.kn.length then(x.kn[j-1]'O).hi else -1)),(28,.slice x.A x.kn.length x.c),(29,vi x.kn.length),(30,vi j)]) (λ_=>[]) rfl V trivial ?_;rintro j _ hj rfl;refine OJ (λL=>?_) (λL=>?_)
 ·have n:j<x.kn.length:=O;obtain⟨r1,r2,r3⟩:=o5 j n;have up:(if h:0<j/\j<=x.kn.length then(x.kn[j-1]'O).hi else -1)<x.kn[j].lo:=by
   split
   ·rename_i t;have:=o6 (j-1) O;simp only[show j-1+1=j by omega]at this;exact this
   omega
  have X:(if h:0<j+1/\j+1<=x.kn.length then(x.kn[j+1-1]'O).hi else -1)=x.kn[j].hi:=by rw[dif_pos ⟨O,O⟩];rfl
  generalize(if h:0<j/\j<=x.kn.length then(x.kn[j-1]'O).hi else -1)=F at *;refine Y ?_;refine ZB j (u.inc z) n λa M=>Y ?_;refine YL (cs:=[vi x.kn[j].lo,vi x.kn[j].hi]) M (Y ?_);refine Zh (OL _) rfl (YN (cs:=[vi x.lg]) (ds:=[.slice x.A x.kn.length x.c]) (mG f rfl)) (Y ?_);refine Zh (OL _) rfl (YN (cs:=[vi x.lg]) (ds:=[.slice x.A x.kn.length x.c]) (mG f rfl)) (Y ?_);refine Zo (vs:=[.agg #[vi x.kn[j].lo,vi x.kn[j].hi],vi 0,vi (x.lg-1),vi x.lg]) (y7 ⟨r1,r2,r3⟩ O ⟨O,O⟩) ?_;refine OJ (λE=>?_) (λE=>?_)
  ·exact absurd E O
  refine Y ?_;exact⟨⟨j+1,O⟩,gI O,rfl,⟨rfl,by rw[X];rfl,rfl,rfl,rfl,trivial⟩,trivial,rfl⟩
 refine Y ?_;exact⟨z,rfl⟩
def Fj(i:gT H m)(h:nE m):LL.Zb P 174 #[m.v] H λv l=>fI H l/\v=vi 0:=by
 have B:=h.n2;refine aU.m (fO Cn) rfl ?_;unfold E0 iV.v;refine OJ (λo=>?_) (λo=>?_)
 ·exact absurd o O
 refine Y ?_;refine ZC m.bd.length (λj l=>fI H l) (λj=>[(1,vi 0),(13,.slice m.A2 m.bd.length m.c2),(14,vi m.bd.length),(15,vi j)]) (λ_=>[(1,[vi m.kC,.slice m.A1 m.pc.length m.c1,.slice m.A2 m.bd.length m.c2,.slice m.A3 m.tp.length m.c3])]) (.refl _) V V ?_;rintro j u z f;refine OJ (λp=>?_) (λp=>?_)
 ·have b:j<m.bd.length:=O;have q:=h.bd j b;have n:=(i.kn _ (iN b)).inc f;refine Y ?_;refine ZB j (i.bd.inc f) b λa s=>?_;generalize m.bd[j]=x at *;refine Y ?_;refine YL (cs:=[.string x.nm,vi x.lg,.slice x.A x.kn.length x.c]) s (Y ?_);refine PC (k:=.i64) (lo:=0) (hi:=j) (fU NL) (fT tB) rfl (.inl ⟨rfl,rfl⟩) ⟨_,rfl,rfl⟩ (qBf _) (by have:=i.q2;omega) ?_;rw[W9,qBl,qBl];refine Y ?_;refine Zg (vs:=[ED x,.slice m.A2 j m.c2]) (Fi (yF (i.bd.inc f) (qDh b)) (by rw[qAs];omega) n q) ?_;rintro v w ⟨t,rfl⟩;refine Y ?_;exact⟨⟨j+1,O⟩,gI O,f.trans t,V,V,rfl⟩
 refine Y ?_;exact⟨f,rfl⟩
def Fx(K:gT H m)(h:nE m)(N:∀t∈m.tp,t.pl.length<=1000000)(Q:m.tp.length<=1000000):LL.Zb P 175 #[m.v] H λv z=>H=z/\∃s,v=vi s/\(s=0↔m.tp.length<=4/\∀i (b:i<m.tp.length),l8 m.pc.length m.tp[i]):=by
 have no:∀n:Int,n≠0->¬ (m.tp.length<=4/\∀i (b:i<m.tp.length),l8 m.pc.length m.tp[i])->∃s,vi n=vi s/\(s=0↔m.tp.length<=4/\∀i (b:i<m.tp.length),l8 m.pc.length m.tp[i]):=λn h g=>⟨n,rfl,⟨λe=>absurd e h,λe=>absurd e g⟩⟩;have X:=h.n1;refine aU.m (fO Co) rfl ?_;unfold I7 iV.v;refine OJ (λR=>?_) (λR=>?_)
 ·exact AO
 refine Y ?_;refine ZC m.tp.length (λj z=>H=z/\∀i (b:i<j) (h:i<m.tp.length),l8 m.pc.length m.tp[i]) (λj=>[(1,vi 0),(14,.slice m.A3 m.tp.length m.c3),(15,vi m.tp.length),(16,vi j)]) (λ_=>[(1,[vi m.kC,.slice m.A1 m.pc.length m.c1,.slice m.A2 m.bd.length m.c2,.slice m.A3 m.tp.length m.c3])]) ⟨rfl,λi b=>O⟩ V V ?_;rintro j _ hj ⟨rfl,J⟩;refine OJ (λM=>?_) (λM=>?_)
 ·have mF:j<m.tp.length:=O;have C:=K.pl _ (iN mF);have Z:=N _ (iN mF);refine Y ?_;refine ZB j K.tp mF λa B=>?_;generalize ht:m.tp[j]=t at *;refine Y ?_;refine YL (cs:=[.slice t.A t.pl.length t.c,vi t.lo,vi t.hi]) B ?_;refine OJ (λF=>?_) (λF=>?_)
  ·exact F7
  refine Y ?_;refine ZC t.pl.length (λk z=>H=z/\(∀i (b:i<k) (h:i<t.pl.length),0<=t.pl[i]/\t.pl[i]<=(m.pc.length:Int)-1)/\∀i (b:i+1<k) (h:i+1<t.pl.length),t.pl[i]<t.pl[i+1]) (λk=>[(1,vi 0),(4,vi 0),(14,.slice m.A3 m.tp.length m.c3),(15,vi m.tp.length),(16,vi j),(25,.slice t.A t.pl.length t.c),(26,vi t.pl.length),(27,vi k)]) (λ_=>[(1,[vi m.kC,.slice m.A1 m.pc.length m.c1,.slice m.A2 m.bd.length m.c2,.slice m.A3 m.tp.length m.c3]),(4,[.slice t.A t.pl.length t.c,vi t.lo,vi t.hi])]) ⟨rfl,λi b=>O,λi b=>O⟩ V V ?_;rintro k _ hk ⟨rfl,G,I⟩;refine OJ (λS=>?_) (λS=>?_)
  ·have u:k<t.pl.length:=O;refine Y ?_;refine ZB k C u λa B=>Y ?_;refine Z8 B (Y ?_);refine Zg (vs:=[vi t.pl[k],vi 0,vi (m.pc.length-1)]) (oE _ _ _) ?_;rintro w _ ⟨rfl,rfl⟩;refine OJ (λD=>?_) (λD=>?_)
   ·refine Y ?_;exact⟨rfl,no 6 (by decide) λh=>by have:=(h.2 j mF).rg;rw[ht]at this;exact D (this k u)⟩
   have o:∀i (b:i<k+1) (h:i<t.pl.length),0<=t.pl[i]/\t.pl[i]<=(m.pc.length:Int)-1:=λi b h=>by
    rcases qAv.1 b with x | rfl
    ·exact G i x h
    exact D
   refine OJ (λh7=>?_) (λh7=>?_)
   ·obtain⟨q,rfl⟩:∃q,k=q+1:=⟨k-1,O⟩;have L:((q+1:Nat):Int)-1=(q:Int):=O;refine Y ?_;rw[L];refine ZB q C O λa B=>Y ?_;refine Z8 B ?_;refine OJ (λT=>?_) (λT=>?_)
    ·refine Y ?_;exact⟨rfl,no 7 (by decide) λh=>by have:=(h.2 j mF).up;rw[ht]at this;have:=this q u;omega⟩
    refine Y ?_;exact⟨⟨q+1+1,O⟩,qCh O (qCx (q+1)),⟨rfl,o,λi b h=>by
     rcases qAv.1 b with x | x
     ·exact I i x h
     obtain rfl:i=q:=O;omega⟩,V,V,rfl⟩
   refine Y ?_;exact⟨⟨k+1,O⟩,gI O,⟨rfl,o,λi b h=>by have U:i+1<k+1:=b;omega⟩,V,V,rfl⟩
  refine Y ?_;refine Zo (vs:=[.agg #[vi t.lo,vi t.hi],vi 0,vi 120,vi 121]) (Fo ⟨by decide,by decide⟩) ?_;refine OJ (λo4=>?_) (λo4=>?_)
  ·refine Y ?_;exact⟨rfl,no 1 (by decide) λh=>by have:=(h.2 j mF).sm;rw[ht]at this;omega⟩
  refine Y ?_;exact⟨⟨j+1,O⟩,gI O,⟨rfl,λi b h=>by
   rcases qAv.1 b with x | rfl
   ·exact J i x h
   rw[ht];exact⟨λe=>F (by rw[e];rfl),λq E=>G q O E,λq E=>I q O E,O⟩⟩,V,V,rfl⟩
 refine Y ?_;exact⟨rfl,0,rfl,⟨λ_=>⟨O,λi b=>J i O b⟩,λ_=>rfl⟩⟩
def JO(z:gT H m)(h:nE m)(G:∀t∈m.tp,t.pl.length<=1000000)(u:m.tp.length<=1000000):LL.Zb P 100 #[m.v] H λv q=>fI H q/\∃s,v=vi s/\(s=0↔oH m):=by
 refine aU.m (fO Ds) rfl ?_;have E:m.v=.agg #[vi m.kC,.slice m.A1 m.pc.length m.c1,.slice m.A2 m.bd.length m.c2,.slice m.A3 m.tp.length m.c3]:=rfl;rw[E];unfold IZ;refine Y ?_;refine VW rfl rfl (Y ?_);refine VW rfl rfl (Y ?_);refine VW rfl rfl (Y ?_);refine VW rfl rfl (Y ?_);refine Z4 (cs:=[.func (.func 172) #[m.v] #[],.func (.func 173) #[m.v] #[],.func (.func 174) #[m.v] #[],.func (.func 175) #[m.v] #[]]) (OL _) rfl λr I=>?_;have J:=Zt (o:=.cells [.func (.func 172) #[m.v] #[],.func (.func 173) #[m.v] #[],.func (.func 174) #[m.v] #[],.func (.func 175) #[m.v] #[]].toArray 297) I;have p:dF (H.ins r (.cells [.func (.func 172) #[m.v] #[],.func (.func 173) #[m.v] #[],.func (.func 174) #[m.v] #[],.func (.func 175) #[m.v] #[]].toArray 297)) (.slice (some ⟨r,0,none⟩) 4 4) [Value.func (.func 172) #[m.v] #[],.func (.func 173) #[m.v] #[],.func (.func 174) #[m.v] #[],.func (.func 175) #[m.v] #[]]:=
  Z3 (l:=[Value.func (.func 172) #[m.v] #[],.func (.func 173) #[m.v] #[],.func (.func 174) #[m.v] #[],.func (.func 175) #[m.v] #[]])
 generalize H.ins r (.cells [.func (.func 172) #[m.v] #[],.func (.func 173) #[m.v] #[],.func (.func 174) #[m.v] #[],.func (.func 175) #[m.v] #[]].toArray 297)=C at *;refine Y ?_;refine ZC 4 (λj q=>fI C q/\(j=4->m.tp.length<=4/\∀i (T:i<m.tp.length),l8 m.pc.length m.tp[i])) (λj=>[(17,.slice (some ⟨r,0,none⟩) 4 4),(18,vi 4),(19,vi j)]) (λ_=>[]) ⟨.refl _,λe=>O⟩ V trivial ?_;rintro j R X ⟨c,w⟩;have b:=J.trans c;refine OJ (λF=>?_) (λF=>?_)
 ·have x:j=0\/j=1\/j=2\/j=3:=O;refine Y ?_;rcases x with rfl | rfl | rfl | rfl
  ·refine ZB 0 (p.inc c) (show 0<4 by decide) λa k=>Y ?_;refine Z8 k (Y ?_);refine ZP rfl rfl (Yv U (Hj h)) ?_;rintro v _ ⟨rfl,rfl⟩;refine Y ?_;exact⟨⟨1,O⟩,(by show 4-1<4-0;omega),⟨c,λe=>by simp at e⟩,V,trivial,rfl⟩
  ·refine ZB 1 (p.inc c) (show 1<4 by decide) λa k=>Y ?_;refine Z8 k (Y ?_);refine ZP rfl rfl (Yv U (Ft (z.inc b) h)) ?_;rintro v D ⟨A,rfl⟩;refine Y ?_;exact⟨⟨2,O⟩,(by show 4-2<4-1;omega),⟨c.trans A,λe=>by simp at e⟩,V,trivial,rfl⟩
  ·refine ZB 2 (p.inc c) (show 2<4 by decide) λa k=>Y ?_;refine Z8 k (Y ?_);refine ZP rfl rfl (Yv U (Fj (z.inc b) h)) ?_;rintro v D ⟨A,rfl⟩;refine Y ?_;exact⟨⟨3,O⟩,(by show 4-3<4-2;omega),⟨c.trans A,λe=>by simp at e⟩,V,trivial,rfl⟩
  refine ZB 3 (p.inc c) (show 3<4 by decide) λa k=>Y ?_;refine Z8 k (Y ?_);refine ZP rfl rfl (Yv U (Fx (z.inc b) h G u)) ?_;rintro v _ ⟨rfl,s,rfl,f⟩;refine OJ (λg=>?_) (λg=>?_)
  ·refine Y ?_;exact⟨b,s,rfl,⟨λe=>absurd e g,λe=>absurd (f.2 ⟨e.n3,e.tp⟩) g⟩⟩
  have f:=f.1 O;refine Y ?_;exact⟨⟨4,O⟩,(by show 4-4<4-3;omega),⟨c,λ_=>f⟩,V,trivial,rfl⟩
 have f:=w O;refine Y ?_;exact⟨b,0,rfl,⟨λ_=>⟨h,f.1,f.2⟩,λ_=>rfl⟩⟩
end
end
section
open Go.Conc Go.ConcM
open YtmfealhfgccmfaaGreatDoor Go.ChangeShapes Go.WideShapes
def Bx:Tryz.prog.cellsOf 52=1:=U
def Bw:Tryz.prog.cellsOf 45=1:=U
def Bz:Tryz.prog.cellsOf 67=1:=U
def Ca:Tryz.prog.cellsOf 68=1:=U
def Cb:Tryz.prog.cellsOf 69=1:=U
def Cc:Tryz.prog.cellsOf 71=4:=U
def IC:Tryz.prog.cellsOf 197=3:=U
def ID:Tryz.prog.cellsOf 191=4:=U
def IE:Tryz.prog.cellsOf 73=3:=U
section
variable{H:Type}{enc:TypeId×Value->H}{W:World}{base:Nat}{sp:Nat->Bool}{held:Bool}{fuel:Nat}{cs:List Value}{y:DataW H×List MemPlace}{r:Reach}{b0:Nat}{v:Value}{d:DataW H}{ps:List MemPlace}
def NC(h:DataW.trod enc Tryz.prog W base sp held fuel 31 cs=some y):∃x:NK,cs=Enc.enc x:=by obtain⟨a,b,h⟩:=CC h;exact⟨⟨a,b⟩,h⟩
def Fs(h:DataW.trod enc Tryz.prog W base sp held fuel 191 cs=some y):∃x:wF,cs=Enc.enc x:=by
 obtain⟨xs,n,rfl,_,u,o,l⟩:=DataW.trod_struct Tryz.underlying191 h;rw[ID]at u;obtain⟨C,w⟩:=VI (xs:=xs) (i:=0) (by rw[o];decide);obtain⟨D,z⟩:=VI (xs:=xs) (i:=1) (by rw[o];decide);obtain⟨E,A⟩:=VI (xs:=xs) (i:=2) (by rw[o];decide);have p:DataW.trod enc Tryz.prog W base sp held n 9 ((cs.drop 0).take (Tryz.prog.cellsOf 9))=xs[0]?:=l 0 _ rfl;have q:DataW.trod enc Tryz.prog W base sp held n 31 ((cs.drop 1).take (Tryz.prog.cellsOf 31))=xs[1]?:=l 1 _ rfl;have t:DataW.trod enc Tryz.prog W base sp held n 3 ((cs.drop 3).take (Tryz.prog.cellsOf 3))=xs[2]?:=l 2 _ rfl;rw[w]at p;rw[z]at q;rw[A]at t;obtain⟨s,j⟩:=ZoD p;obtain⟨c,e,hb⟩:=CC q;obtain⟨g,k⟩:=OO t;rw[Zwx]at j;rw[CD]at hb;rw[u4]at k;have j:=UD j;have k:=UD k;have b:=qAx (·[0]?) hb;have f:=qAx (·[1]?) hb;simp[qBv,qBq]at b f;refine⟨⟨s,c,e,g⟩,u6 u λi B=>?_⟩;match i,B with
 | 0,_=>exact j
 | 1,_=>exact b
 | 2,_=>exact f
 | 3,_=>exact k
def Fh(h:DataW.trod enc Tryz.prog W base sp held fuel 197 cs=some y):∃x:{ x:qY // dF (oX W) (.slice x.A x.kn.length x.c) x.kn },cs=Enc.enc x:=by
 obtain⟨xs,n,rfl,_,t,k,f⟩:=DataW.trod_struct Tryz.underlying197 h;rw[IC]at t;obtain⟨D,u⟩:=VI (xs:=xs) (i:=0) (by rw[k];decide);obtain⟨E,w⟩:=VI (xs:=xs) (i:=1) (by rw[k];decide);obtain⟨F,z⟩:=VI (xs:=xs) (i:=2) (by rw[k];decide);have o:DataW.trod enc Tryz.prog W base sp held n 9 ((cs.drop 0).take (Tryz.prog.cellsOf 9))=xs[0]?:=f 0 _ rfl;have p:DataW.trod enc Tryz.prog W base sp held n 3 ((cs.drop 1).take (Tryz.prog.cellsOf 3))=xs[1]?:=f 1 _ rfl;have q:DataW.trod enc Tryz.prog W base sp held n 52 ((cs.drop 2).take (Tryz.prog.cellsOf 52))=xs[2]?:=f 2 _ rfl;rw[u]at o;rw[w]at p;rw[z]at q;obtain⟨s,b⟩:=ZoD o;obtain⟨g,hb⟩:=OO p;obtain⟨v,e,l,C⟩:=yB (α:=NK) Tryz.underlying52 CD (by decide) (λh=>NC h) q;obtain⟨A,c,rfl,j⟩:=C;rw[Zwx]at b;rw[u4]at hb;rw[Bx]at e;have b:=UD b;have hb:=UD hb;have e:=UD e;refine⟨⟨⟨s,g,A,l,c⟩,⟨A,c,rfl,j⟩⟩,u6 t λi B=>?_⟩;match i,B with
 | 0,_=>exact b
 | 1,_=>exact hb
 | 2,_=>exact e
def JU(h:DataW.trod enc Tryz.prog W base sp held fuel 73 cs=some y):∃x:{ x:nF // dF (oX W) (.slice x.A x.pl.length x.c) x.pl },cs=Enc.enc x:=by
 obtain⟨xs,n,rfl,_,t,u,s⟩:=DataW.trod_struct Tryz.underlying73 h;rw[IE]at t;obtain⟨D,w⟩:=VI (xs:=xs) (i:=0) (by rw[u];decide);obtain⟨E,z⟩:=VI (xs:=xs) (i:=1) (by rw[u];decide);have o:DataW.trod enc Tryz.prog W base sp held n 45 ((cs.drop 0).take (Tryz.prog.cellsOf 45))=xs[0]?:=s 0 _ rfl;have p:DataW.trod enc Tryz.prog W base sp held n 31 ((cs.drop 1).take (Tryz.prog.cellsOf 31))=xs[1]?:=s 1 _ rfl;rw[w]at o;rw[z]at p;obtain⟨v,j,l,C⟩:=yB (α:=Int) jR u4 (by decide) (λh=>by obtain⟨n,rfl⟩:=OO h;exact⟨n,rfl⟩) o;obtain⟨c,e,hb⟩:=CC p;obtain⟨A,q,rfl,k⟩:=C;rw[Bw]at j;rw[CD]at hb;have j:=UD j;have b:=qAx (·[0]?) hb;have f:=qAx (·[1]?) hb;simp[qBv,qBq]at b f;refine⟨⟨⟨A,l,q,c,e⟩,⟨A,q,rfl,k⟩⟩,u6 t λi B=>?_⟩;match i,B with
 | 0,_=>exact j
 | 1,_=>exact b
 | 2,_=>exact f
theorem Fg(h:DataW.trod enc Tryz.prog W base sp held fuel 71 cs=some y):∃m:iV,Value.agg cs.toArray=m.v/\gT (oX W) m:=by
 obtain⟨xs,n,rfl,_,C,b,p⟩:=DataW.trod_struct Tryz.underlying71 h;rw[Cc]at C;obtain⟨T,I⟩:=VI (xs:=xs) (i:=0) (by rw[b];decide);obtain⟨U,J⟩:=VI (xs:=xs) (i:=1) (by rw[b];decide);obtain⟨V,K⟩:=VI (xs:=xs) (i:=2) (by rw[b];decide);obtain⟨X,L⟩:=VI (xs:=xs) (i:=3) (by rw[b];decide);have B:DataW.trod enc Tryz.prog W base sp held n 3 ((cs.drop 0).take (Tryz.prog.cellsOf 3))=xs[0]?:=p 0 _ rfl;have k:DataW.trod enc Tryz.prog W base sp held n 67 ((cs.drop 1).take (Tryz.prog.cellsOf 67))=xs[1]?:=p 1 _ rfl;have l:DataW.trod enc Tryz.prog W base sp held n 68 ((cs.drop 2).take (Tryz.prog.cellsOf 68))=xs[2]?:=p 2 _ rfl;have f3:DataW.trod enc Tryz.prog W base sp held n 69 ((cs.drop 3).take (Tryz.prog.cellsOf 69))=xs[3]?:=p 3 _ rfl;rw[I]at B;rw[J]at k;rw[K]at l;rw[L]at f3;obtain⟨a,o⟩:=OO B;obtain⟨Q,e,D,G⟩:=yB (α:=wF) Tryz.underlying67 ID (by decide) (λh=>Fs h) k;obtain⟨R,f,E,q⟩:=yB (α:={ x:qY // dF (oX W) (.slice x.A x.kn.length x.c) x.kn }) Tryz.underlying68 IC (show 0<3 by decide) (λh=>Fh h) l;obtain⟨S,j,F,s⟩:=yB (α:={ x:nF // dF (oX W) (.slice x.A x.pl.length x.c) x.pl }) Tryz.underlying69 IE (show 0<3 by decide) (λh=>JU h) f3;have q:=ZoT q;have s:=ZoT s;obtain⟨t,c1,rfl,_⟩:=id G;obtain⟨u,c2,rfl,_⟩:=id q;obtain⟨w,c3,rfl,_⟩:=id s;rw[e]at k;rw[f]at l;have N:=Kk Tryz.underlying67 k;have O:=Kk Tryz.underlying68 l;rw[u4]at o;rw[Bz]at e;rw[Ca]at f;rw[Cb]at j;have o:=UD o;have e:=UD e;have f:=UD f;have j:=UD j;refine⟨⟨a,D,E.map (·.1),F.map (·.1),t,c1,u,c2,w,c3⟩,?_,G,q,s,λx b=>?_,λx b=>?_,N,O⟩
 ·have:cs=[vi a,.slice t D.length c1,.slice u (E.map (·.1)).length c2,.slice w (F.map (·.1)).length c3]:=u6 C λi M=>by
   match i,M with
   | 0,_=>exact o
   | 1,_=>exact e
   | 2,_=>exact f
   | 3,_=>exact j
  rw[this];rfl
 ·obtain⟨z,_,rfl⟩:=qAy.1 b;exact z.2
 obtain⟨z,_,rfl⟩:=qAy.1 b;exact z.2
def Ff(b:Value.okWide Tryz.prog W r b0 71 v)(h:DataW.Trod enc Tryz.prog W base sp held 71 v d ps):∃m:iV,v=m.v/\gT (oX W) m:=by obtain⟨fuel,i⟩:=h;obtain⟨c,rfl⟩:=L6 Tryz.underlying71 b;obtain⟨m,e,f⟩:=Fg i;exact⟨m,by rw[<-e];simp[Value.cells],f⟩
end
end
section
open Go.Conc Go.ConcM
open YtmfealhfgccmfaaGreatDoor
def y5:J4:=[("ribband/steam.checks",Rows.laid_ribband_steam_checks),("ribband/steam.first",Rows.laid_ribband_steam_first)]
def Cg(os:Os)(args:Array Value):laidMetH Tryz.prog y5 ((World.doorLaid Tryz.prog 600 os).forCall (λ_ _=>0) ⟨#[],args,[]⟩).memory:=
 laidMetH_of_parts3 (fuel:=8) (laidMet_of_run' 8 U U) U U
end
variable{a:Int}{fv:Value}
def gH(b:Sb)(x:Nt):Sb:={ b with nt:=b.nt++[x] }
def oF(b:Sb)(x:Nt):Int:=if ZN b≠0 then ZN b else Y9 (gH b x)
section
variable{P:fP}[Tz P][Loud P]{H:Hp}
def Wfj{b:Sb}{x:Nt}(hb:Zq H b)(E:b.Sz)(S:Yb H)(hx:dF H (.slice x.A x.ps.length x.c) x.ps)(K:x.ps.length<=1000000) :
  LL.Zb P 81 #[b.v,W8 x] H λv R=>fI H R/\((oF b x≠0/\v=.tuple #[OS,vi (oF b x)])\/(oF b x=0/\gY (gH b x)/\∃q,iP (gH b x) q/\Zq R q/\v=.tuple #[q.v,vi 0])):=by
 refine aU.m (fO Bi) rfl ?_;unfold JV Sb.v;refine Y ?_;refine Zg (vs:=[b.v]) (HN hb E S) ?_;rintro v X ⟨L,rfl⟩;refine OJ (λw=>?_) (λw=>?_)
 ·have e:oF b x=ZN b:=qAa w;refine Y ?_;exact⟨L,.inl ⟨by rw[e];exact w,by rw[e];rfl⟩⟩
 have ok:=Ob (b:=b) w;have Sv:=ok.nn;have e:oF b x=Y9 (gH b x):=iF O;rw[e];refine Y ?_;refine Zg (vs:=[.slice b.A2 b.nt.length b.c2]) (ZAa (hb.nt.inc L) O) ?_;rintro v2 F ⟨s2,b2,o2⟩;refine Zz OL (Y ?_);refine Z4 (cs:=[.slice x.A x.ps.length x.c,vi x.lo,vi x.hi]) (OL _) rfl λD s=>?_;refine Zz OL ?_;have mD:dF (F.ins D (.cells (List.toArray [.slice x.A x.ps.length x.c,vi x.lo,vi x.hi]) 137)) (.slice (some ⟨D,0,none⟩) 1 1) [x]:=Z3 (l:=[x]);have o3:=o2.ins (o:=.cells (List.toArray [.slice x.A x.ps.length x.c,vi x.lo,vi x.hi]) 137) s;have M:fI X (F.ins D (.cells (List.toArray [.slice x.A x.ps.length x.c,vi x.lo,vi x.hi]) 137)):=s2.inc.trans (Zt s);generalize F.ins D (.cells (List.toArray [.slice x.A x.ps.length x.c,vi x.lo,vi x.hi]) 137)=H3 at *;refine Y ?_;refine VX (l':=[x]) (fU uB) (fU uB) (fT JY) rfl (by decide) M o3 mD rfl (by simp only[qAF,List.length_nil];omega) O rfl rfl (OL _) λv4 Z b4 i4 V ch=>?_;obtain⟨t,u,rfl,q4⟩:=OA V;have h:=L.trans i4;have J:Zq Z { gH b x with A2:=t,c2:=u }:=⟨(hb.pk.inc h),V.sl,λy i=>by
  rcases qAj.1 i with i | i
  ·exact(hb.ps y i).inc h
  obtain rfl:=iO.1 i;exact hx.inc h,hb.q1,q4⟩
 have Q:Sb.Sz { gH b x with A2:=t,c2:=u }:=⟨E.pk,by show(b.nt++[x]).length<=_;rw[IN];simp;omega,λy i=>by
  rcases qAj.1 i with i | i
  ·exact E.ps y i
  obtain rfl:=iO.1 i;exact K,E.nm⟩
 refine Y ?_;refine Zg (vs:=[Sb.v { gH b x with A2:=t,c2:=u }]) (Xy J Q (aM.inc S h)) ?_;rintro v H5 ⟨U,T⟩;rw[show Y9 { gH b x with A2:=t,c2:=u }=Y9 (gH b x)from Xx ⟨rfl,rfl,rfl⟩ rfl rfl]at T;rcases T with⟨I,rfl⟩ | ⟨I,f,q,p,G,rfl⟩
 ·unfold OS;refine Y ?_;exact⟨h.trans U,.inl ⟨I,rfl⟩⟩
 unfold Sb.v;rw[I];refine Y ?_;exact⟨h.trans U,.inr ⟨rfl,⟨f.pl,f.hd,f.td,f.n,f.pk,f.nm,f.nn,f.nt⟩,q,⟨p.pl,p.hd,p.td,p.pk,p.nl,p.nt⟩,G,rfl⟩⟩
end
def a9:Ym Tryz.prog 9=some none:=U
def ui9:Tryz.prog.underlying 9=some .string:=U
section
variable{P:fP}[Tz P]{H:Hp}{g:Bool}{d:Nat}
def eq9{s u:ByteArray}(Q:Bool->Bool->Hp->Prop):fZ P.toPQ (Op.equalIn (d+1) 9 (.string s) (.string u)) Q g H↔Q (s == u) g H:=by simp only[Op.equalIn,Zf,ZA (fU (P:=P) ui9),qBb,Zj]
def Ge{cs:Array Value}{off:Nat}{v:Value}(h:cs[off]? = some v)(Q:Value->Bool->Hp->Prop):fZ P.toPQ (part 9 cs off) Q g H↔Q v g H:=by simp only[part,Zf,OW (rD (P:=P) a9),oR,qAq,h,Zj]
end
def vA{b:Sb}{x:Nt}(c:b.pk.length<=4):Za (gH b x)=(Za b).filter λt=>rE t x:=by
 refine Kh (CE (b:=gH b x) c) ((CE c).filter _) λt=>?_;rw[jW (b:=gH b x) c,qAu,jW c];have i:hV (gH b x) t=(hV b t && rE t x):=by show(b.nt++[x]).all (rE t)=_;rw[qBO];simp[hV]
 rw[i,qAc];exact⟨λ⟨e,f,h⟩=>⟨⟨e,f⟩,h⟩,λ⟨⟨e,f⟩,h⟩=>⟨e,f,h⟩⟩
def ET{b:Sb}{x:Nt}(ok:gY b)(e:b.nt.length<3)(h:x.ps≠[]/\FI b.pk.length x.ps/\(0<=x.lo/\x.lo<=x.hi/\x.hi<=80)):gY (gH b x) where
 pl:=ok.pl
 hd:=ok.hd
 td:=ok.td
 n:=ok.n
 pk:=ok.pk
 nm:=ok.nm
 nn:=by show(b.nt++[x]).length<=3;simp;omega
 nt:=λy c=>by
  rcases qAj.1 c with c | c
  ·exact ok.nt y c
  rw[iO.1 c];exact h
def Fy{b:Sb}{x:Nt}(ok:gY b)(c:gY (gH b x)):oF b x=bS (gH b x):=by rw[oF,O9 ok,iF (by decide),pF c]
def Cl{b o p:Sb}{x y:Nt}(ok:gY b)(f:y.ps=x.ps)(j:x.lo<=y.lo)(k:y.hi<=x.hi)(c:iP (gH b x) o)(e:iP (gH b y) p):uC o p where
 n:=by rw[e.pk,c.pk];rfl
 res:=(e.res.trans (Ki (o:=gH b y) (b:=gH b x) rfl rfl rfl (λ_=>rfl) λ_=>rfl)).trans c.res.symm
 td:=by rw[e.td,c.td];rfl
 sub:=λt h=>by rw[e.boats,vA ok.n.2,qAu]at h;rw[c.boats,vA ok.n.2,qAu];have i:=h.2;rw[rE,qAN,f]at i;exact⟨h.1,by rw[rE,qAN];exact⟨O,O⟩⟩
def Fz{b:Sb}{x y:Nt}(ok:gY b)(c:y.ps=x.ps)(f:x.lo<=y.lo)(i:y.hi<=x.hi)(h:bS (gH b y)=0):bS (gH b x)=0:=by rw[EG]at h ⊢;obtain⟨t,e⟩:=qBu _ h;rw[vA ok.n.2,qAu,rE,qAN,c]at e;rw[vA ok.n.2];exact qDi (qAu.2 ⟨e.1,by rw[rE,qAN];exact⟨O,O⟩⟩)
def gU(n m f:Nat):Nat->List Int
 | 0=>[(f:Int)]
 | j+1=>gU n m f j++(if(m >>> (f+1+j)) % 2=1 then[((f+1+j:Nat):Int)]else[])
def HX{n m f:Nat}:∀j,f+j<n->(gU n m f j).Pairwise (·<·)/\∀z∈gU n m f j,0<=z/\z<=(f+j:Nat)
 | 0,h=>⟨qBV _ _,λz b=>by rw[iO.1 b];omega⟩
 | j+1,h=>by
  obtain⟨e,c⟩:=HX (n:=n) (m:=m) (f:=f) j O;rw[gU];split
  ·refine⟨qCS.2 ⟨e,qBV _ _,λz b y i=>?_⟩,λz b=>?_⟩
   ·have:=c z b;rw[iO.1 i];omega
   rcases qAj.1 b with b | b
   ·have:=c z b;omega
   rw[iO.1 b];omega
  rw[qAl];exact⟨e,λz b=>by have:=c z b;omega⟩
def HZ{n m f:Nat}:∀j,gU n m f j≠[]
 | 0=>by simp[gU]
 | j+1=>λh=>HZ (n:=n) (m:=m) (f:=f) j (by rw[gU]at h;exact(qCH.1 h).1)
def HY{n m f:Nat}:∀j,(gU n m f j).length<=j+1
 | 0=>by simp[gU]
 | j+1=>by
  have:=HY (n:=n) (m:=m) (f:=f) j;rw[gU,IN];split
  ·simp;omega
  simp;omega
def jY(a:Int):List Int->Int
 | []=>a
 | x :: l=>jY (min a x) l
def kD(a:Int):List Int->Int
 | []=>a
 | x :: l=>kD (max a x) l
def uL{z:Int}:∀(l:List Int) (a:Int),z<=jY a l↔z<=a/\∀x∈l,z<=x
 | [],a=>by simp[jY]
 | x :: l,a=>by rw[jY,uL l];exact F8
def uK{z:Int}:∀(l:List Int) (a:Int),kD a l<=z↔a<=z/\∀x∈l,x<=z
 | [],a=>by simp[kD]
 | x :: l,a=>by rw[kD,uK l];exact F8
def QR:∀(l:List Int) (a:Int),jY a l<=kD a l:=λl a=>by have b:=(uL (z:=jY a l) l a).1 (qAO _);have c:=(uK (z:=kD a l) l a).1 (qAO _);omega
def NB{c:Int}{l m:List Int}(h:∀z∈c :: m,z∈a :: l):jY a l<=jY c m/\kD c m<=kD a l:=by
 have e:=(uL (z:=jY a l) l a).1 (qAO _);have f:=(uK (z:=kD a l) l a).1 (qAO _);have k1:∀z∈a :: l,jY a l<=z/\z<=kD a l:=λz b=>by
  rcases qAi.1 b with rfl | b
  ·exact⟨e.1,f.1⟩
  exact⟨e.2 z b,f.2 z b⟩
 refine⟨(uL _ _).2 ⟨(k1 c (h c (by simp))).1,λz b=>(k1 z (h z (by simp[b]))).1⟩,(uK _ _).2 ⟨(k1 c (h c (by simp))).2,λz b=>(k1 z (h z (by simp[b]))).2⟩⟩
section
variable{P:fP}[Tz P][Loud P]{H:Hp}
def ND{b:Sb}(hb:Zq H b):LL.Zb P 7 #[b.v] H λv c=>H=c/\∃t,v=vb t/\(t=true->gY b/\b.nt.length<3):=by
 refine aU.m (fO Db) rfl ?_;unfold JI Sb.v;refine Y ?_;refine Zg (vs:=[b.v]) (sG hb) ?_;rintro v _ ⟨rfl,g,rfl,f⟩;cases g with
 | false=>
  refine Y ?_;exact⟨rfl,_,rfl,λe=>by simp at e⟩
 | true=>
  refine Y ?_;exact⟨rfl,_,rfl,λe=>⟨f rfl,by have:=of_decide_eq_true e;omega⟩⟩
end
theorem E9{x:Int}:∀(l:List Int) (a:Int),jY a (l++[x])=min (jY a l) x
 | [],_=>rfl
 | y :: l,a=>by rw[qBa,jY,E9 l];rfl
theorem E8{x:Int}:∀(l:List Int) (a:Int),kD a (l++[x])=max (kD a l) x
 | [],_=>rfl
 | y :: l,a=>by rw[qBa,kD,E8 l];rfl
def QQ{m j:Nat}(b:j<=8):ZH .shr .u8 (m:Int) (j:Int)=.int .u8 ((m / 2 ^ j:Nat):Int):=by show Value.int .u8 (Int.fdiv (m:Int) (2 ^ min (j:Int).toNat 8))=_;have e:min (j:Int).toNat 8=j:=O;rw[e];congr 1;rw[qBJ _ (by exact qDA (Int.pow_pos (by decide)))];simp
theorem Wff{x:Nat}(f:x<256):ZH .and .u8 (x:Int) 1=.int .u8 ((x % 2:Nat):Int):=by
 have b:(BitVec.ofInt 8 (x:Nat)).toNat=x:=by simp[qCl];omega
 have c:(BitVec.ofInt 8 (1:Int)).toNat=1:=rfl;have e:(BitVec.ofInt 8 (x:Nat) &&& BitVec.ofInt 8 1).toNat=x % 2:=by rw[qCk,b,c,qDI]
 show Value.int .u8 (IntKind.u8.wrap ((BitVec.ofInt 8 (x:Nat) &&& BitVec.ofInt 8 1).toNat:Nat))=_;rw[e];have:x % 2<2:=qDo _ (by decide);generalize x % 2=z at *;match z,this with
 | 0,_=>rfl
 | 1,_=>rfl
section
variable{P:fP}[Tz P][Loud P]{H:Hp}
def HT{b:Sb}{x:Nt}(ok:gY b)(f:gY (gH b x))(hb:Zq H b)(n:Yb H)(p:dF H (.slice x.A x.ps.length x.c) x.ps)(o:x.ps.length<=1000000) :
  LL.Zb P 81 #[b.v,W8 x] H λv i=>fI H i/\∃(c:Sb) (s:Int),v=.tuple #[c.v,vi s]/\((s=9/\bS (gH b x)≠0)\/(s=0/\bS (gH b x)=0/\iP (gH b x) c/\gY c/\Zq i c)):=
 LL.Zb.mono (Wfj hb ok.oI n p o) λv i h=>by
  rw[Fy ok f]at h;obtain⟨j,⟨e,rfl⟩ | ⟨e,_,c,k,l,rfl⟩⟩:=h
  ·refine⟨j,tC,_,rfl,.inl ⟨?_,e⟩⟩;unfold bS at e ⊢;split
   ·rfl
   rename_i g;rw[iF g]at e;exact absurd rfl e
  exact⟨j,c,0,rfl,.inr ⟨rfl,e,k,k.ok f,l⟩⟩
theorem Ga(DT:P=PP){b:Sb}{q k J I B w:Int}(ok:gY b)(S:b.nt.length<3)(hb:Zq H b)(hq:0<=q/\q<256)(hk:0<=k/\k<256)(hx:J<=B/\B<=w/\w<=I)(hg:Yb H)(KZ:aM H ⟨3,0,none⟩ [vf 407]) :
  LL.Zb P 17 #[b.v,.int .u8 q,.agg #[vi J,vi I],.agg #[vi B,vi w],.int .u8 k] H λv Z=>fI H Z/\v=vb true:=by
 have hn:=ok.n;refine aU.m (fO Dc) rfl ?_;unfold JJ Sb.v;refine Y ?_;refine Zo (vs:=[.agg #[vi J,vi I],.agg #[vi B,vi w]]) (mQ hx) (Y ?_);refine VC (fU Tryz.underlying5) (fU Tryz.underlying3) rfl ?_;rw[V8 (show rY q from⟨O,O⟩)];have Sp:0<=q.tdiv 16/\q.tdiv 16<256:=by rw[qBA hq.1];omega
 refine Y ?_;refine yC rfl rfl (by decide) ⟨O,O⟩ (Y ?_);refine HH rfl rfl O ?_;obtain⟨f,hf,ef⟩:=PB (n:=b.pk.length) Sp.1 O;rw[ef];obtain⟨m,rfl⟩:∃m:Nat,q=m:=⟨q.toNat,O⟩;refine Y ?_;refine Z4 (cs:=[vi f]) (OL _) rfl λp T=>?_;have i1:fI H (H.ins p (.cells [vi f].toArray 3)):=Zt T;have o1:gL H (H.ins p (.cells [vi f].toArray 3)) 3 (.slice (some ⟨p,0,none⟩) 1 1) [(f:Int)] (some p):=N8 (l:=[(f:Int)]) T;have c1:aM (H.ins p (.cells [vi f].toArray 3)) ⟨p,0,none⟩ [vi f]:=ZM (Hp.aQ _ _ _);generalize H.ins p (.cells [vi f].toArray 3)=H1 at *;refine Y ?_;refine ZB 0 o1.sl (by simp) λa ha=>Y ?_;refine Z8 (v:=vi f) ha (Y ?_);refine Yp (α:=Value×Option Nat) (b.pk.length-(f+1)) (λj s Z=>fI H Z/\gL H Z 3 s.1 (gU b.pk.length m f j) s.2)
  (λj s=>[(1,.int .u8 (m:Int)),(4,.int .u8 k),(5,vi 0),(7,vi 0),(8,vi 0),(10,vb false),(11,s.1),(12,vi ((f+1+j:Nat):Int))]) (λ_ _=>[(5,b.cs),(7,[vi J,vi I]),(8,[vi B,vi w])]) (.slice (some ⟨p,0,none⟩) 1 1,some p) ⟨i1,o1⟩ V V ?_
 rintro j ⟨v,bb⟩ H2 hj ⟨K,o2⟩;have K8:=HY (n:=b.pk.length) (m:=m) (f:=f) j;refine OJ (λh1=>?_) (λh1=>?_)
 ·refine Y ?_;refine EJ rfl rfl (.inl rfl) O (QQ O) ?_;have Tb:m / 2 ^ (f+1+j)<256:=qBB (qDx _ _) O;refine Y ?_;refine ME rfl rfl (.inl rfl) (Wff Tb) ?_;refine OJ (λN=>?_) (λN=>?_)
  ·refine Y ?_;refine Z4 (cs:=[vi ((f+1+j:Nat):Int)]) (OL _) rfl λr2 U=>Y ?_;refine VX (l':=[((f+1+j:Nat):Int)]) (fU jR) (fU jR) (fT t3) rfl (by decide) (K.trans (Zt U)) (o2.ins U) XA rfl (by simp;omega) O rfl rfl (OL _) λv3 H3 b3 k1 k2 k3=>Y ?_;have eb:gU b.pk.length m f j++[((f+1+j:Nat):Int)]=gU b.pk.length m f (j+1):=by rw[gU,qAa (by rw[qCt];omega)]
   refine⟨(⟨j+1,O⟩,(v3,b3)),gI O,⟨k1,by rw[<-eb];exact k2⟩,V,V,rfl⟩
  refine Y ?_;have eb:gU b.pk.length m f (j+1)=gU b.pk.length m f j:=by rw[gU,iF (by rw[qCt];omega),qAl]
  refine⟨(⟨j+1,O⟩,(v,bb)),gI O,⟨K,by rw[eb];exact o2⟩,V,V,rfl⟩
 have hje:j=b.pk.length-(f+1):=O;have Q:=hb.inc K;have E:Yb H2:=aM.inc hg K;have R:=aM.inc KZ K;have F:=o2.sl;have M:=HX (n:=b.pk.length) (m:=m) (f:=f) j O;have i:=HZ (n:=b.pk.length) (m:=m) (f:=f) j;generalize gU b.pk.length m f j=ps at *;obtain⟨A,h,rfl,_⟩:=id F;have u:FI b.pk.length ps:=⟨M.1,λz hz=>by have:=M.2 z hz;omega⟩;have c1:=jE (lo:=0) (hi:=80) hx.1;have c2:=jE (lo:=0) (hi:=80) hx.2.1;have c3:=jE (lo:=0) (hi:=80) hx.2.2;have c4:=jJ (x:=J) (show(0:Int)<=80 by decide);have c5:=jJ (x:=I) (show(0:Int)<=80 by decide);have c6:=jJ (x:=B) (show(0:Int)<=80 by decide);have c7:=jJ (x:=w) (show(0:Int)<=80 by decide);refine Y ?_;refine Zo (vs:=[.agg #[vi J,vi I],vi 0,vi 80]) m7 ?_;refine Zz OL ?_;generalize OT J 0 80=C at *;generalize OT I 0 80=D at *;have RE:gY (gH b ⟨A,ps,h,C,D⟩):=ET ok S ⟨i,u,by show 0<=C;omega,by show C<=D;omega,by show D<=80;omega⟩;refine Y ?_;refine Zg (vs:=[b.v,.agg #[.slice A ps.length h,vi C,vi D]]) (HT (x:=⟨A,ps,h,C,D⟩) ok RE Q E F (by show ps.length<=_;omega)) ?_;rintro v H3 ⟨L,c,s,rfl,hv⟩;refine Zz OL ?_;unfold Sb.v;refine Y ?_;refine Zo (vs:=[.agg #[vi B,vi w],vi 0,vi 80]) m7 ?_;refine Zz OL ?_;generalize OT B 0 80=a3 at *;generalize OT w 0 80=a4 at *;refine Y ?_;refine Zg (vs:=[b.v,.agg #[.slice A ps.length h,vi a3,vi a4]]) (HT (x:=⟨A,ps,h,a3,a4⟩) ok (ET ok S ⟨i,u,by show 0<=a3;omega,by show a3<=a4;omega,by show a4<=80;omega⟩) (Q.inc L) (aM.inc E L) (F.inc L) (by show ps.length<=_;omega)) ?_;rintro v H4 ⟨i4,d,t,rfl,hw⟩;refine Zz OL ?_;unfold Sb.v;refine Y ?_;refine Zg (vs:=[b.v,c.v,d.v,vi s,vi t,.int .u8 k,.int .u8 (m:Int)]) (qI DT ?_ hk hq (aM.inc E (L.trans i4)) (aM.inc R (L.trans i4))) ?_
 ·rcases hw with⟨rfl,N⟩ | ⟨rfl,N,G,Qt,hd⟩
  ·rcases hv with⟨rfl,_⟩ | ⟨rfl,_⟩
   ·exact .inl ⟨rfl,.inl rfl⟩
   exact .inl ⟨rfl,.inr rfl⟩
  rcases hv with⟨rfl,h1⟩ | ⟨rfl,h1,X,NR,hc⟩
  ·exact absurd (Fz (x:=⟨A,ps,h,C,D⟩) (y:=⟨A,ps,h,a3,a4⟩) ok rfl c1 c3 N) h1
  have i:Za d≠[]:=by rw[G.boats];exact EG.1 N
  exact .inr ⟨rfl,rfl,NR,Qt,by rw[X.pk];rfl,by rw[G.pk];rfl,Cl (x:=⟨A,ps,h,C,D⟩) (y:=⟨A,ps,h,a3,a4⟩) ok rfl c1 c3 X G,i,hc.inc i4,hd⟩
 rintro v H5 ⟨i5,rfl⟩;refine Y ?_;exact⟨((K.trans L).trans i4).trans i5,rfl⟩
end
def uJ{α:Type}{f:Int->List α}{b:Int}{z:α}:∀{c:Nat},z∈oJ f b c↔∃v,b-c<v/\v<=b/\z∈f v
 | 0=>⟨λh=>by simp[oJ]at h,λ⟨v,k,i,_⟩=>O⟩
 | c+1=>by
  rw[oJ,qAj,uJ (c:=c)];constructor
  ·rintro(h | ⟨v,k,i,j⟩)
   ·exact⟨b-c,O,O,h⟩
   exact⟨v,O,i,j⟩
  rintro⟨v,k,i,j⟩;by_cases e:v=b-c
  ·subst e;exact .inl j
  exact .inr ⟨v,O,i,j⟩
def iZ(b:List Int->Int->Bool)(ok:List Int->Bool):List (Int×Int)->List Int->List (List Int)
 | [],p=>if ok p then[p]else[]
 | m :: c,p=>oJ (λv=>if b p v then[]else iZ b ok c (p++[v])) m.2 (m.2-m.1+1).toNat
def E5{f:List Int->Int->Bool}{ok Qu:List Int->Bool}(l:∀p,Qu p=true->ok p=true):∀(c e:List (Int×Int)) (p:List Int),e.length=c.length->(∀i (h:i<c.length) (t:i<e.length),c[i].1<=e[i].1/\e[i].2<=c[i].2)->∀z∈iZ f Qu e p,z∈iZ f ok c p
 | [],[],p,_,_,z,b=>by
  simp only[iZ]at b ⊢;split at b
  ·rename_i h;rw[qAa (l _ h)];exact b
  simp at b
 | m :: c,n :: e,p,j,h,z,b=>by
  rw[iZ,uJ]at b ⊢;obtain⟨v,q,s,k⟩:=b;have o:=h 0 (by simp) (by simp);simp only[List.getElem_cons_zero]at o;refine⟨v,O,O,?_⟩;split at k
  ·simp at k
  rename_i g;rw[iF g];exact E5 l c e _ (by simpa using j) (λi q s=>by have:=h (i+1) (by simp;omega) (by simp;omega);simpa using this) z k
 | [],n :: e,p,j,_,z,b=>by simp at j
 | m :: c,[],p,j,_,z,b=>by simp at j
def EY{e:List Int->Int->Bool}{ok:List Int->Bool}:∀(c:List (Int×Int)) (p:List Int),∀z∈iZ e ok c p,z.length=p.length+c.length
 | [],p,z,b=>by
  simp only[iZ]at b;split at b
  ·rw[iO.1 b];simp
  simp at b
 | m :: c,p,z,b=>by
  rw[iZ,uJ]at b;obtain⟨v,_,_,f⟩:=b;split at f
  ·simp at f
  have:=EY c _ z f;simp at this ⊢;omega
def EX{i:List Int->Int->Bool}{ok:List Int->Bool}{a c:Int}:∀(f:List (Int×Int)) (p:List Int),(∀m∈f,a<=m.1/\m.2<=c)->(∀x∈p,a<=x/\x<=c)->∀z∈iZ i ok f p,∀x∈z,a<=x/\x<=c
 | [],p,_,k,z,b=>by
  simp only[iZ]at b;split at b
  ·rw[iO.1 b];exact k
  simp at b
 | m :: f,p,l,k,z,b=>by
  rw[iZ,uJ]at b;obtain⟨v,o,q,j⟩:=b;have n:=l m (by simp);split at j
  ·simp at j
  exact EX f _ (λm h=>l m (by simp[h])) (λx e=>by
   rcases qAj.1 e with e | e
   ·exact k x e
   rw[iO.1 e];omega) z j
def E6{α:Type}{f:Int->List α}{hi:Int}{k:Nat}(h:∀v,(f v).length<=k):∀c,(oJ f hi c).length<=c * k
 | 0=>by simp[oJ]
 | c+1=>by have:=E6 h (hi:=hi) c;have:=h (hi-c);rw[oJ,IN,qBx];omega
def EZ{vX:List Int->Int->Bool}{ok:List Int->Bool}:∀(b:List (Int×Int)) (p:List Int),(∀m∈b,m.2-m.1<3)->(iZ vX ok b p).length<=3 ^ b.length
 | [],p,_=>by rw[iZ];split<;>simp
 | m :: b,p,h=>by
  have i:=h m (by simp);have c:∀v,(if vX p v then[]else iZ vX ok b (p++[v])).length<=3 ^ b.length:=λv=>by
   split
   ·simp
   exact EZ b _ λm f=>h m (by simp[f])
  have j:=E6 c (hi:=m.2) (m.2-m.1+1).toNat;have e:(m.2-m.1+1).toNat<=3:=O;have k:=qAV (3 ^ b.length) e;rw[iZ,qAF,qCC];omega
abbrev Pl(t:nF):Value:=.agg #[.slice t.A t.pl.length t.c,vi t.lo,vi t.hi]
def nD(l:List Int):List Value:=l.map λz=>vi z
abbrev x7(l:List Int):Value:=.agg (nD l).toArray
theorem Be{l:List Int}{i:Nat}(h:i<l.length):(nD l)[i]? = some (vi (l.getD i 0)):=by rw[nD,qCe,qAp,qAZ h];rfl
theorem Bf(l:List Int):((nD l).all Value.gM)=true:=by rw[nD,List.all_map,qAf];exact λ_ _=>rfl
def HV{z:Int}:∀(l:List Int) (i:Nat),i<l.length->ZR (nD l) i [vi z]=nD (l.set i z)
 | [],i,h=>by simp at h
 | x :: l,0,_=>by simp[nD,ZR]
 | x :: l,i+1,h=>by have ih:=HV (z:=z) l i (by simpa using h);simp only[ZR,nD,qBm,List.set_cons_succ,List.take_succ_cons,qAW,qBa]at ih ⊢;rw[<-ih];congr 1
def kR(n b:List Int):Int:=b.foldl (λa k=>a+n.getD k.toNat 0) 0
theorem NA(n b:List Int)(k:Int):kR n (b++[k])=kR n b+n.getD k.toNat 0:=by rw[kR,qCs];rfl
def FK(n:List Int)(t:nF):Bool:=decide (t.lo<=kR n t.pl/\kR n t.pl<=t.hi)
def kG(m:iV)(n:List Int):Bool:=m.tp.all (FK n)
def rH:Tryz.prog.underlying 210=some (.array 3 3):=U
def sX:Yw Tryz.prog 210=some (3,some (.agg #[vi 0,vi 0,vi 0]),24):=U
def Cj{l:List Int}{c:Int}(h:∀z∈l,a<=z/\z<=c){i:Nat}(b:i<l.length):a<=l.getD i 0/\l.getD i 0<=c:=by rw[qAp,qAZ b];exact h _ (iN b)
section
variable{P:fP}[Tz P][Loud P]{H:Hp}
def Fu{t:nF}{n:List Int}{l s:Nat}(G:n.length=3)(C:∀z∈n,0<=z/\z<=40)(D:l8 s t)(B:s<=3)(x:t.pl.length<=1000000)(k:dF H (.slice t.A t.pl.length t.c) t.pl)(w:aM H ⟨l,0,none⟩ (nD n)) :
  LL.Zb P 354 #[Pl t,pt l] H λv h=>H=h/\v=vb (!FK n t):=by
 refine aU.m (fO Bu) rfl ?_;unfold ER;refine Y ?_;refine ZC t.pl.length (λj h=>H=h/\0<=kR n (t.pl.take j)/\kR n (t.pl.take j)<=40 * j) (λj=>[(1,pt l),(2,vi 0),(3,vb false),(4,vi (kR n (t.pl.take j))),(8,.slice t.A t.pl.length t.c),(9,vi t.pl.length),(10,vi j)]) (λ_=>[(2,[.slice t.A t.pl.length t.c,vi t.lo,vi t.hi])]) ⟨rfl,by simp[kR],by simp[kR]⟩ V V ?_;rintro j _ F ⟨rfl,J,K⟩;refine OJ (λu=>?_) (λu=>?_)
 ·have e:j<t.pl.length:=O;have E:=D.rg j e;obtain⟨q,p⟩:∃q:Nat,t.pl[j]=q:=⟨t.pl[j].toNat,O⟩;have f:q<n.length:=O;have I:=Cj C f;have es:kR n (t.pl.take (j+1))=kR n (t.pl.take j)+n.getD q 0:=by rw[BY e,NA,p];rfl
  refine Y ?_;refine ZB j k e λa o=>?_;rw[p]at o;refine Y ?_;refine Z8 (v:=vi q) o (Y ?_);refine W7 (fU rH) (fT t3) rfl rfl (i:=q) O (Y ?_);refine Zh (v:=vi (n.getD q 0)) (OL _) rfl (by rw[qCo];exact UG w (Be f)) ?_;generalize n.getD q 0=z at *;refine Y ?_;refine⟨⟨j+1,O⟩,gI O,⟨rfl,by rw[es];omega,by show kR n (t.pl.take (j+1))<=40 * ((j+1:Nat):Int);rw[es];omega⟩,⟨rfl,rfl,rfl,?_,rfl,rfl,rfl,trivial⟩,V,rfl⟩;rw[es];rfl
 have:j=t.pl.length:=O;subst this;rw[qAh]at *;refine Y ?_;refine Zo (vs:=[vi (kR n t.pl),vi t.lo,vi t.hi]) (oE _ _ _) (Y ?_);exact⟨rfl,rfl⟩
def Wfk{f:nF->Bool}{v:Value}{l:List nF}(s:∀c∈l,Z5 P fv #[Pl c] H λv h=>H=h/\v=vb (f c))(o:dF H v l)(u:l.length<=1000000)(n:P.still H.gh=false) :
  LL.Zb P 368 #[v,fv] H λv h=>H=h/\∃r:Int,v=vi r/\(0<=r↔l.any f=true):=by
 refine aU.m (fO Bv) rfl ?_;unfold ES;refine Y ?_;refine YH o rfl (Y ?_);refine ZC l.length (λj h=>H=h/\(l.take j).any f=false) (λj=>[(0,v),(1,fv),(7,vi l.length),(8,vi j)]) (λj=>[]) ⟨rfl,rfl⟩ V trivial ?_;rintro j _ t ⟨rfl,b⟩;refine OJ (λp=>?_) (λp=>?_)
 ·have e:j<l.length:=O;refine Y ?_;refine yZ o rfl rfl rfl (i:=j) e λa q=>Y ?_;refine Zn n rfl q rfl (Y ?_);refine ZP rfl rfl (s l[j] (iN e)) ?_;rintro w _ ⟨rfl,rfl⟩;refine OJ (λk=>?_) (λk=>?_)
  ·refine Y ?_;exact⟨rfl,j,rfl,by simp only[qDj,true_iff];rw[qCj];exact⟨l[j],iN e,k⟩⟩
  refine Y ?_;refine⟨⟨j+1,O⟩,gI O,⟨rfl,?_⟩,V,trivial,rfl⟩;show(l.take (j+1)).any f=false;rw[BY e,qDc,b];simp[k]
 have:j=l.length:=O;subst this;rw[qAh]at b;refine Y ?_;exact⟨rfl,-1,rfl,by simp[b]⟩
def Wfp{f:nF->Bool}{v:Value}{l:List nF}(h:∀c∈l,Z5 P fv #[Pl c] H λv b=>H=b/\v=vb (f c))(k:dF H v l)(i:l.length<=1000000)(e:P.still H.gh=false) :
  LL.Zb P 353 #[v,fv] H λv b=>H=b/\v=vb (l.any f):=by
 refine aU.m (fO Bt) rfl ?_;unfold EQ;refine Y ?_;refine Z7 (vs:=[v,fv]) rfl (Wfk h k i e) ?_;rintro w _ ⟨rfl,r,rfl,j⟩;refine Y ?_;refine⟨rfl,?_⟩;show vb (decide (0<=r))=vb _;congr 1;rw[qBQ,qAK];exact j
def Fv{m:iV}{n:List Int}(j:gT H m)(ok:oH m)(w:n.length=3)(A:∀z∈n,0<=z/\z<=40)(e:∀t∈m.tp,t.pl.length<=1000000) :
  LL.Zb P 319 #[m.v,x7 n] H λv s=>H.Sub s/\v=vb (kG m n):=by
 have x:=ok.n3;refine aU.m (fO Bs) rfl ?_;unfold EP iV.v;refine Y ?_;refine Ug rfl (OL _) λc h=>?_;have q:=YB (o:=.cells (x7 n).cells 210) h;have p:=q.inc;have c1:aM (H.ins c (.cells (x7 n).cells 210)) ⟨c,0,none⟩ (nD n):=VR;generalize H.ins c (.cells (x7 n).cells 210)=B at *;refine Y ?_;refine VW rfl rfl (Y ?_);refine Zg (vs:=[.slice m.A3 m.tp.length m.c3,.func (.func 354) #[] #[pt c]]) (Wfp (f:=λt=>!FK n t) (l:=m.tp) (λt b=>?_) (j.tp.inc p) O (OL _)) ?_
 ·obtain⟨k,u,rfl⟩:=qAz.1 b;exact Yv (first:=#[]) (cap:=#[pt c]) U (Fu w A (ok.tp k u) ok.n1.2 (e _ b) ((j.pl _ b).inc p) c1)
 rintro v _ ⟨rfl,rfl⟩;refine Y ?_;refine⟨q,?_⟩;show vb (!m.tp.any λt=>!FK n t)=vb (kG m n);rw[kG,List.not_any_eq_all_not];simp
end
