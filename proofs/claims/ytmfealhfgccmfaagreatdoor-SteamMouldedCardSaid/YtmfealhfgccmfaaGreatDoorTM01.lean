import Derived.Test.YtmfealhfgccmfaaGreatDoorTM00
set_option linter.all false
set_option maxHeartbeats 8000000
set_option maxRecDepth 20000
def vO{G:Prop}(h:G:=by refine Y ?_;exact⟨⟨j+1,O⟩,gI O,rfl,V,trivial,rfl⟩):G:=h
def F9{G:Prop}(h:G:=by
  refine Y ?_;refine YH hl rfl (Y ?_);refine ZC l.length (λj H'=>H=H') (λj=>[(0,v),(1,fv),(7,vi l.length),(8,vi j)]) (λj=>[]) rfl V trivial ?_;rintro j _ hj rfl;refine OJ (λh1=>?_) (λh1=>?_)
  ·have mF:j<l.length:=O;refine Y ?_;refine ZB j hl mF λa ha=>Y ?_;refine YL ha (Y ?_);refine ZP rfl rfl (hf _ (iN mF)) ?_;rintro w _ ⟨rfl,rfl⟩;exact vO
  refine Y ?_;exact⟨rfl,rfl⟩):G:=h
def F7{G:Prop}(h:G:=by refine Y ?_;exact⟨rfl,no 2 (by decide) λh=>by have:=(h.2 j mF).ne;rw[ht]at this;exact this (qBj.1 O)⟩):G:=h
def AO{G:Prop}(h:G:=by refine Y ?_;exact⟨rfl,no 2 (by decide) λh=>by have:=h.1;omega⟩):G:=h
def F5{G:Prop}(h:G:=by
  refine Y ?_;exact⟨rfl,no λh=>by
   rcases h.2.2.2 j mF with h | h
   ·rw[hd]at h;simp at h
   omega⟩):G:=h
section
open Go Go.LL Go.Conc Go.ConcM
namespace Go.Proofs.YtmfealhfgccmfaaGreatDoor
def IJ:Tryz.pinned.checked.prog.funcNamed Rows.steamMouldedRow.func=some 5:=U
def NH:(Rows.steamMouldedRow.inPlace == Tryz.pinned.checked.prog.inPlace 5)=true:=U
def M2:(Rows.steamMouldedRow.unfollowed == Tryz.pinned.checked.prog.unfollowed 5)=true:=U
def M3:(Rows.steamMouldedRow.recurses == Tryz.pinned.checked.prog.recurses 5)=true:=U
def M4:(Rows.steamMouldedRow.named == Tryz.pinned.checked.prog.varsNamed 5)=true:=U
def NG:joinedFacts Tryz.pinned.checked.prog 5 Tryz.f5 Rows.steamMouldedSpec Rows.steamMouldedRow=true:=by unfold joinedFacts;exact fQ (fQ (fQ (fQ (fQ (fQ (fQ (fQ (fQ (fQ (fQ (fQ (fQ (fQ (fQ (fQ (fQ (fQ (fQ (fQ (fQ (fQ (fQ (fQ (fQ (fQ (fQ (fQ (fQ (fQ (fQ U Kj) uZ) U) U) U) U) U) U) NH) M2) M3) M4) U) U) U) U) U) U) U) U) U) U) U) sP) sQ) U) U) U) U) U) U
def M5:Tryz.f5.isInstance Tryz.pinned.checked.prog Rows.steamMouldedRow.origin Rows.steamMouldedRow.targs:=of_decide_eq_true U
def M6:Tryz.f5.isWrapper Tryz.pinned.checked.prog Rows.steamMouldedRow.wrapper Rows.steamMouldedRow.mainSum:=by unfold Func.isWrapper;first | (rw[qAa (by decide +kernel)];kernel_rfl) | (rw[iF (by decide +kernel)];exact⟨rfl,rfl⟩)
end Go.Proofs.YtmfealhfgccmfaaGreatDoor
end
open Go Go.LL
namespace Go.Proofs
variable{n r:Nat}{a b:Int}{fv:Value}
structure NK where
 (lo hi:Int)
instance:Enc NK:=⟨2,λp=>[vi p.lo,vi p.hi],λ_=>rfl⟩
section
variable{P:fP}[Tz P]{H:Hp}{d:Option Nat}{next:fG->Hp->Prop}{σ:fG}{x y:Operand}{ty t2:TypeId}{s u:ByteArray}
def Gb(e:σ.get x=some (.string s))(c:P.still H.gh=false)(h:∀v p (l:List U8),H.Sub p->dF p v l->l.length=s.size->(∀i (C:i<l.length),l[i].v=l7 s i)->next (σ.set d v) p):(fR.raw (.convert 9 419 x) ty).m P d next σ H:=by
 refine YX (s:=convert 9 419 (.string s)) (by simp[Op.operands,e]) (by simp[execOp,fL,e]) ?_;simp only[convert,Zf,ZA (fU (P:=P) Ih),ZA (fU (P:=P) Zn2),ZA (fU (P:=P) Ik),Conv.stringToBytes,choose];rw[fZ];simp only[Question.forced,oR,qAq];refine⟨c,λt=>?_⟩;have k:s.size<=(Question.appendCap s.size 0 5).cut t:=by simp only[Question.cut];omega
 generalize(Question.appendCap s.size 0 5).cut t=cap at k;simp only[newRow,newObj,Zf,Zj];refine⟨c,λr D=>?_⟩;let l:List U8:=s.data.toList.map λb=>⟨(b.toNat:Int),O,by have:=b.toNat_lt;omega⟩
 have f:l.length=s.size:=by simp[l]
 have o:Zd l=s.data.toList.map λb=>Value.int .u8 (b.toNat:Int):=by
  simp only[Zd,l,qDX];show s.data.toList.flatMap (λb=>[Value.int .u8 (b.toNat:Int)])=_;induction s.data.toList with
  | nil=>rfl
  | cons b m ih=>rw[qAI,ih];rfl
 have w:∀g,aM (H.ins r (.cells ((s.data.map λb=>Value.int .u8 (b.toNat:Int))++Array.replicate (cap-s.size) (.int .u8 0)) 5 g)) ⟨r,0,none⟩ (Zd l):=by intro g;refine⟨rfl,_,_,Hp.aQ _ _ _,λj A=>?_⟩;rw[o]at A ⊢;rw[qAd]at A;show((s.data.map λb=>Value.int .u8 (b.toNat:Int))++Array.replicate (cap-s.size) (.int .u8 0))[0+j]? = _;rw[qAJ,qDf (by simpa using A),qBH,qCe];simp
 have q:∀g,next (σ.set d (.slice (some ⟨r,0,none⟩) s.size cap)) (H.ins r (.cells ((s.data.map λb=>Value.int .u8 (b.toNat:Int))++Array.replicate (cap-s.size) (.int .u8 0)) 5 g)):=by
  intro g;refine h _ _ l (YB D) ⟨_,cap,by rw[f],λ_=>⟨_,rfl,w g⟩⟩ f λi C=>?_;have z:i<s.data.toList.length:=by simpa[l]using C
  unfold l7;rw[ZG z];simp[l]
 unfold markStringish shape freeze;simp only[Zf];refine⟨_,_,⟨c,Hp.aQ _ _ _⟩,?_⟩;simp only[Obj.nY,Zj];refine .inr ⟨_,⟨c,Hp.aQ _ _ _⟩,by decide,?_⟩;rw[Uy];exact q _
end
structure wF where
 (nm:ByteArray) (lo hi br:Int)
structure qY where
 (nm:ByteArray) (lg:Int) (A:Option Addr) (kn:List NK) (c:Nat)
structure nF where
 (A:Option Addr) (pl:List Int) (c:Nat) (lo hi:Int)
instance:Enc wF:=⟨4,λp=>[.string p.nm,vi p.lo,vi p.hi,vi p.br],λ_=>rfl⟩
instance:Enc qY:=⟨3,λp=>[.string p.nm,vi p.lg,.slice p.A p.kn.length p.c],λ_=>rfl⟩
instance:Enc nF:=⟨3,λp=>[.slice p.A p.pl.length p.c,vi p.lo,vi p.hi],λ_=>rfl⟩
structure iV where
 (kC:Int) (pc:List wF) (bd:List qY) (tp:List nF) (A1:Option Addr) (c1:Nat) (A2:Option Addr) (c2:Nat) (A3:Option Addr) (c3:Nat)
def iV.v(m:iV):Value:=.agg #[vi m.kC,.slice m.A1 m.pc.length m.c1,.slice m.A2 m.bd.length m.c2,.slice m.A3 m.tp.length m.c3]
structure gT(H:Hp)(m:iV):Prop where
 pc:dF H (.slice m.A1 m.pc.length m.c1) m.pc
 bd:dF H (.slice m.A2 m.bd.length m.c2) m.bd
 tp:dF H (.slice m.A3 m.tp.length m.c3) m.tp
 kn:∀x∈m.bd,dF H (.slice x.A x.kn.length x.c) x.kn
 pl:∀x∈m.tp,dF H (.slice x.A x.pl.length x.c) x.pl
 q1:m.pc.length<=m.c1
 q2:m.bd.length<=m.c2
def D9(n:Int):Bool:=decide (48<=n/\n<=57)
def qX(s:ByteArray):Prop:=1<=s.size/\s.size<=10/\D9 (l7 s 0)=false/\∀i,i<s.size->D9 (l7 s i)=true\/(97<=l7 s i/\l7 s i<=122)
structure rU(l:List wF)(i:Nat)(hi:i<l.length):Prop where
 nm:qX l[i].nm
 un:∀k (hk:k<i),(l[k].nm.toList == l[i].nm.toList)=false
 rg:1<=l[i].lo/\l[i].lo<=l[i].hi/\l[i].hi<=40
 wd:l[i].hi-l[i].lo<3
 br:0<=l[i].br/\l[i].br<=2
structure qW(l:List qY)(x:qY):Prop where
 nm:qX x.nm
 un:∀k (hk:k<l.length),(l[k].nm.toList == x.nm.toList)=false
 lg:1<=x.lg/\x.lg<=40
 kl:x.kn.length<=3
 kn:∀j (hj:j<x.kn.length),0<=x.kn[j].lo/\x.kn[j].lo<=x.kn[j].hi/\x.kn[j].hi<=x.lg-1
 up:∀j (hj:j+1<x.kn.length),x.kn[j].hi<x.kn[j+1].lo
structure l8(n:Nat)(t:nF):Prop where
 ne:t.pl≠[]
 rg:∀j (hj:j<t.pl.length),0<=t.pl[j]/\t.pl[j]<=(n:Int)-1
 up:∀j (hj:j+1<t.pl.length),t.pl[j]<t.pl[j+1]
 sm:0<=t.lo/\t.lo<=t.hi/\t.hi<=120
structure nE(m:iV):Prop where
 kC:0<=m.kC/\m.kC<=3
 n1:1<=m.pc.length/\m.pc.length<=3
 pc:∀i (hi:i<m.pc.length),rU m.pc i hi
 n2:m.bd.length<=3
 bd:∀i (hi:i<m.bd.length),qW (m.bd.take i) m.bd[i]
structure oH(m:iV):Prop extends nE m where
 n3:m.tp.length<=4
 tp:∀i (hi:i<m.tp.length),l8 m.pc.length m.tp[i]
section
variable{P:fP}[Tz P][Loud P]{H:Hp}
def IG(n:Int):LL.Zb P 252 #[.int .u8 n] H λv e=>H=e/\v=vb (D9 n):=by refine aU.m (fO ZxD) rfl ?_;unfold ZjL;refine OJ (λc=>?_) (λc=>?_)<;>refine Y ?_<;>exact⟨rfl,by simp[Y3,c,D9]⟩
def HR(s:ByteArray):LL.Zb P 178 #[.string s] H λv c=>H=c/\∃b,v=vb b/\(b=true↔qX s):=by
 have no:¬ qX s->∃b,vb false=vb b/\(b=true↔qX s):=λg=>⟨false,rfl,⟨λe=>by simp at e,λe=>absurd e g⟩⟩;refine aU.m (fO ZxM) rfl ?_;unfold ZjU;refine Y ?_;refine yY rfl ?_;refine OJ (λp=>?_) (λp=>?_)
 ·refine Y ?_;exact⟨rfl,no λh=>by have:=h.1;have:=h.2.1;omega⟩
 refine Y ?_;refine yY rfl ?_;refine OJ (λq=>?_) (λq=>?_)
 ·refine Y ?_;exact⟨rfl,no λh=>by have:=h.1;have:=h.2.1;omega⟩
 refine Y ?_;refine HK (i:=0) rfl rfl O (Y ?_);refine Zo (vs:=[.int .u8 (l7 s 0)]) (IG _) ?_;refine OJ (λf=>?_) (λf=>?_)
 ·refine Y ?_;exact⟨rfl,no λh=>by have:=h.2.2.1;rw[D9,qBU]at this;exact this f⟩
 refine Y ?_;refine ZC s.size (λj c=>H=c/\∀i,i<j->D9 (l7 s i)=true\/(97<=l7 s i/\l7 s i<=122)) (λj=>[(0,.string s),(3,vi j)]) (λ_=>[]) ⟨rfl,O⟩ V trivial ?_;rintro j _ A ⟨rfl,k⟩;refine Y ?_;refine yY rfl ?_;refine OJ (λt=>?_) (λt=>?_)
 ·have mF:j<s.size:=O;have next:(D9 (l7 s j)=true\/(97<=l7 s j/\l7 s j<=122))->∀i,i<j+1->D9 (l7 s i)=true\/(97<=l7 s i/\l7 s i<=122):=λh i l=>by
   rcases qAv.1 l with o | rfl
   ·exact k i o
   exact h
  refine Y ?_;refine HK (i:=j) rfl rfl mF (Y ?_);refine Zo (vs:=[.int .u8 (l7 s j)]) (IG _) (Y ?_);cases hd:D9 (l7 s j)with
  | true=>
   refine Y ?_;exact⟨⟨j+1,O⟩,gI O,⟨rfl,next (.inl hd)⟩,V,trivial,rfl⟩
  | false=>
   refine Y ?_;refine HK (i:=j) rfl rfl mF ?_;refine OJ (λw=>?_) (λw=>?_)
   ·exact F5
   refine Y ?_;refine HK (i:=j) rfl rfl mF ?_;refine OJ (λz=>?_) (λz=>?_)
   ·exact F5
   refine Y ?_;exact⟨⟨j+1,O⟩,gI O,⟨rfl,next (.inr ⟨O,O⟩)⟩,V,trivial,rfl⟩
 refine Y ?_;exact⟨rfl,true,rfl,⟨λ_=>⟨O,O,qAU f,λi l=>k i O⟩,λ_=>rfl⟩⟩
def Ce{F:Value}{l:List wF}(w:dF H F l)(hn:l.length<=20):LL.Zb P 105 #[F] H λv A=>H=A/\∃s,v=vi s/\(s=0↔(1<=l.length/\l.length<=3)/\∀i (c:i<l.length),rU l i c):=by
 have no:∀n:Int,n≠0->¬ ((1<=l.length/\l.length<=3)/\∀i (c:i<l.length),rU l i c)->∃s,vi n=vi s/\(s=0↔(1<=l.length/\l.length<=3)/\∀i (c:i<l.length),rU l i c):=λn h g=>⟨n,rfl,⟨λe=>absurd e h,λe=>absurd e g⟩⟩;refine aU.m (fO Dv) rfl ?_;unfold I2;refine Y ?_;refine YH w rfl (Y ?_);refine Zo (vs:=[vi l.length,vi 1,vi 3]) (O2 _ _ _) ?_;refine OJ (λU=>?_) (λU=>?_)
 ·exact AO
 refine Y ?_;refine ZC l.length (λj A=>H=A/\∀i (c:i<l.length),i<j->rU l i c) (λj=>[(0,F),(3,vi j)]) (λ_=>[]) ⟨rfl,λi c h=>O⟩ V trivial ?_;rintro j _ hj ⟨rfl,R⟩;refine Y ?_;refine YH w rfl ?_;refine OJ (λW=>?_) (λW=>?_)
 ·have f:j<l.length:=O;have o:Enc.enc l[j]=[.string l[j].nm,vi l[j].lo,vi l[j].hi,vi l[j].br]:=rfl;refine Y ?_;refine ZB j w f λa T=>?_;rw[o]at T;refine Y ?_;refine Zh (OL _) rfl (by rw[add_zero];exact YN (ds:=[vi l[j].lo,vi l[j].hi,vi l[j].br]) T) (Y ?_);refine Zg (vs:=[.string l[j].nm]) (HR _) ?_;rintro v _ ⟨rfl,b,rfl,hb⟩;refine OJ (λL=>?_) (λL=>?_)
  ·refine Y ?_;exact⟨rfl,no 4 (by decide) λh=>by have:=hb.2 (h.2 j f).nm;simp_all⟩
  have K:=hb.1 L;refine Y ?_;refine ZC j (λk A=>H=A/\∀i (c:i<k) (h:i<l.length),(l[i].nm.toList == l[j].nm.toList)=false) (λk=>[(0,F),(3,vi j),(4,vi k)]) (λ_=>[]) ⟨rfl,O⟩ V trivial ?_;rintro k _ hk ⟨rfl,S⟩;refine OJ (λX=>?_) (λX=>?_)
  ·have J:k<j:=O;have E:Enc.enc (l[k]'O)=[.string l[k].nm,vi l[k].lo,vi l[k].hi,vi l[k].br]:=rfl;refine Y ?_;refine ZB k w O λa2 B=>?_;rw[E]at B;refine Y ?_;refine Zh (OL _) rfl (by rw[add_zero];exact YN (ds:=[vi l[k].lo,vi l[k].hi,vi l[k].br]) B) (Y ?_);refine ZB j w f λa3 p=>?_;rw[o]at p;refine Y ?_;refine Zh (OL _) rfl (by rw[add_zero];exact YN (ds:=[vi l[j].lo,vi l[j].hi,vi l[j].br]) p) (Y ?_);refine L8 rfl rfl ?_;refine OJ (λM=>?_) (λM=>?_)
   ·refine Y ?_;exact⟨rfl,no 5 (by decide) λh=>by have:=(h.2 j f).un k J;simp_all⟩
   refine Y ?_;exact⟨⟨k+1,O⟩,gI O,⟨rfl,λi c h=>by
    rcases qAv.1 c with I | rfl
    ·exact S i I h
    exact M⟩,V,trivial,rfl⟩
  have:k=j:=O;subst this;refine Y ?_;refine ZB k w f λa3 p=>?_;rw[o]at p;refine Y ?_;refine Zn (cs:=[vi l[k].lo,vi l[k].hi]) (OL _) rfl (by exact YN (ds:=[vi l[k].br]) (mG p rfl)) rfl (Y ?_);refine Zo (vs:=[.agg #[vi l[k].lo,vi l[k].hi],vi 1,vi 40]) (CA _ _ _ _) ?_;refine OJ (λN=>?_) (λN=>?_)
  ·refine Y ?_;exact⟨rfl,no 1 (by decide) λh=>by have:=(h.2 k f).rg;omega⟩
  refine OJ (λh7=>?_) (λh7=>?_)
  ·refine Y ?_;exact⟨rfl,no 1 (by decide) λh=>by have:=(h.2 k f).wd;omega⟩
  refine Y ?_;refine ZB k w f λa4 C=>?_;rw[o]at C;refine Y ?_;refine Zh (OL _) rfl (mG C rfl) (Y ?_);refine Zo (vs:=[vi l[k].br,vi 0,vi 2]) (O2 _ _ _) ?_;refine OJ (λQ=>?_) (λQ=>?_)
  ·refine Y ?_;exact⟨rfl,no 1 (by decide) λh=>by have:=(h.2 k f).br;omega⟩
  refine Y ?_;exact⟨⟨k+1,O⟩,gI O,⟨rfl,λi c h=>by
   rcases qAv.1 h with I | rfl
   ·exact R i c I
   exact⟨K,λq Z=>S q Z O,N,O,Q⟩⟩,V,trivial,rfl⟩
 refine Y ?_;exact⟨rfl,0,rfl,⟨λ_=>⟨⟨O,O⟩,λi c=>R i c O⟩,λ_=>rfl⟩⟩
end
abbrev ED(x:qY):Value:=.agg #[.string x.nm,vi x.lg,.slice x.A x.kn.length x.c]
section
variable{P:fP}[Tz P][Loud P]{H:Hp}
def Cd{L:Value}{l:List qY}{x:qY}(Z:dF H L l)(hn:l.length<=20)(N:dF H (.slice x.A x.kn.length x.c) x.kn):LL.Zb P 106 #[L,ED x] H λv F=>H=F/\∃s,v=vi s/\(s=0↔qW l x):=by
 have E:∀n:Int,n≠0->¬ (qW l x)->∃s,vi n=vi s/\(s=0↔qW l x):=λn h g=>⟨n,rfl,⟨λe=>absurd e h,λe=>absurd e g⟩⟩;refine aU.m (fO Dw) rfl ?_;unfold I3;refine Y ?_;refine Zg (vs:=[.string x.nm]) (HR _) ?_;rintro v _ ⟨rfl,b,rfl,hb⟩;refine OJ (λR=>?_) (λR=>?_)
 ·refine Y ?_;exact⟨rfl,E 4 (by decide) λh=>by have:=hb.2 h.nm;simp_all⟩
 have Q:=hb.1 R;refine Y ?_;refine ZC l.length (λk F=>H=F/\∀i (o:i<k) (h:i<l.length),(l[i].nm.toList == x.nm.toList)=false) (λk=>[(0,L),(3,vi 0),(5,vi k)]) (λ_=>[(3,[.string x.nm,vi x.lg,.slice x.A x.kn.length x.c])]) ⟨rfl,O⟩ V V ?_;rintro k _ Tk ⟨rfl,X⟩;refine Y ?_;refine YH Z rfl ?_;refine OJ (λh2=>?_) (λh2=>?_)
 ·have J:k<l.length:=O;have K:Enc.enc l[k]=[.string l[k].nm,vi l[k].lg,.slice l[k].A l[k].kn.length l[k].c]:=rfl;refine Y ?_;refine ZB k Z J λa2 I=>?_;rw[K]at I;refine Y ?_;refine Zh (OL _) rfl (by rw[add_zero];exact YN (ds:=[vi l[k].lg,.slice l[k].A l[k].kn.length l[k].c]) I) (Y ?_);refine L8 rfl rfl ?_;refine OJ (λT=>?_) (λT=>?_)
  ·refine Y ?_;exact⟨rfl,E 5 (by decide) λh=>by have:=h.un k J;simp_all⟩
  refine Y ?_;exact⟨⟨k+1,O⟩,gI O,⟨rfl,λi o h=>by
   rcases qAv.1 o with C | rfl
   ·exact X i C h
   exact T⟩,V,V,rfl⟩
 refine Y ?_;refine Zo (vs:=[vi x.lg,vi 1,vi 40]) (O2 _ _ _) ?_;refine OJ (λS=>?_) (λS=>?_)
 ·refine Y ?_;exact⟨rfl,E 1 (by decide) λh=>by have:=h.lg;omega⟩
 refine OJ (λh4=>?_) (λh4=>?_)
 ·refine Y ?_;exact⟨rfl,E 2 (by decide) λh=>by have:=h.kl;omega⟩
 refine Y ?_;refine ZC x.kn.length (λj F=>H=F/\(∀i (o:i<j) (h:i<x.kn.length),0<=x.kn[i].lo/\x.kn[i].lo<=x.kn[i].hi/\x.kn[i].hi<=x.lg-1)/\∀i (o:i+1<j) (h:i+1<x.kn.length),x.kn[i].hi<x.kn[i+1].lo) (λj=>[(3,vi 0),(6,vi j)]) (λ_=>[(3,[.string x.nm,vi x.lg,.slice x.A x.kn.length x.c])]) ⟨rfl,O,O⟩ V V ?_;rintro j _ hj ⟨rfl,U,W⟩;refine OJ (λh6=>?_) (λh6=>?_)
 ·have w:j<x.kn.length:=O;have aMz:Enc.enc x.kn[j]=[vi x.kn[j].lo,vi x.kn[j].hi]:=rfl;refine Y ?_;refine ZB j N w λa G=>Y ?_;refine YL (cs:=[vi x.kn[j].lo,vi x.kn[j].hi]) G (Y ?_);refine Zo (vs:=[.agg #[vi x.kn[j].lo,vi x.kn[j].hi],vi 0,vi (x.lg-1)]) (CA _ _ _ _) ?_;refine OJ (λh7=>?_) (λh7=>?_)
  ·refine Y ?_;exact⟨rfl,E 1 (by decide) λh=>by have:=h.kn j w;omega⟩
  have p:∀i (o:i<j+1) (h:i<x.kn.length),0<=x.kn[i].lo/\x.kn[i].lo<=x.kn[i].hi/\x.kn[i].hi<=x.lg-1:=λi o h=>by
   rcases qAv.1 o with C | rfl
   ·exact U i C h
   exact h7
  refine OJ (λh8=>?_) (λh8=>?_)
  ·obtain⟨t,rfl⟩:∃t,j=t+1:=⟨j-1,O⟩;have et:((t+1:Nat):Int)-1=(t:Int):=O;refine Y ?_;refine ZB (t+1) N w λa G=>Y ?_;refine Zh (OL _) rfl (by rw[add_zero];exact YN (ds:=[vi x.kn[t+1].hi]) G) (Y ?_);rw[et];refine ZB t N O λa G=>Y ?_;refine Zh (OL _) rfl (mG (cs:=[vi (x.kn[t]'O).lo,vi (x.kn[t]'O).hi]) G rfl) ?_;refine OJ (λh9=>?_) (λh9=>?_)
   ·refine Y ?_;exact⟨rfl,E 7 (by decide) λh=>by have:=h.up t w;omega⟩
   refine Y ?_;exact⟨⟨t+1+1,O⟩,qCh O (qCx (t+1)),⟨rfl,p,λi o h=>by
    rcases qAv.1 o with C | C
    ·exact W i C h
    obtain rfl:i=t:=O;omega⟩,V,V,rfl⟩
  refine Y ?_;exact⟨⟨j+1,O⟩,gI O,⟨rfl,p,λi o h=>by have SJ:i+1<j+1:=o;omega⟩,V,V,rfl⟩
 refine Y ?_;exact⟨rfl,0,rfl,⟨λ_=>⟨Q,λq hq=>X q O hq,S,O,λi o=>U i O o,λi o=>W i O o⟩,λ_=>rfl⟩⟩
def Wfi{lv:Value}{l:List Int}(w:dF H lv l)(L:n<=1000000)(K:l.length<=1000000):LL.Zb P 162 #[lv,vi n] H λv z=>H=z/\∃s,v=vi s/\(s=0↔(∀j (o:j<l.length),0<=l[j]/\l[j]<=(n:Int)-1)/\∀j (o:j+1<l.length),l[j]<l[j+1]):=by
 have D:∀m:Int,m≠0->¬ ((∀j (o:j<l.length),0<=l[j]/\l[j]<=(n:Int)-1)/\∀j (o:j+1<l.length),l[j]<l[j+1])->∃s,vi m=vi s/\(s=0↔(∀j (o:j<l.length),0<=l[j]/\l[j]<=(n:Int)-1)/\∀j (o:j+1<l.length),l[j]<l[j+1]):=λn h g=>⟨n,rfl,⟨λe=>absurd e h,λe=>absurd e g⟩⟩;refine aU.m (fO c68) rfl ?_;unfold Qy;refine Y ?_;refine ZC l.length (λj z=>H=z/\(∀i (c:i<j) (h:i<l.length),0<=l[i]/\l[i]<=(n:Int)-1)/\∀i (c:i+1<j) (h:i+1<l.length),l[i]<l[i+1]) (λj=>[(0,lv),(1,vi n),(5,vi j)]) (λ_=>[]) ⟨rfl,O,O⟩ V trivial ?_;rintro j _ o ⟨rfl,B,C⟩;refine Y ?_;refine YH w rfl ?_;refine OJ (λF=>?_) (λF=>?_)
 ·have k:j<l.length:=O;refine Y ?_;refine ZB j w k λa p=>Y ?_;refine Z8 p (Y ?_);refine Zo (vs:=[vi l[j],vi 0,vi (n-1)]) (O2 _ _ _) ?_;refine OJ (λA=>?_) (λA=>?_)
  ·refine Y ?_;exact⟨rfl,D 6 (by decide) λh=>by have:=h.1 j k;omega⟩
  have f:∀i (c:i<j+1) (h:i<l.length),0<=l[i]/\l[i]<=(n:Int)-1:=λi c h=>by
   rcases qAv.1 c with q | rfl
   ·exact B i q h
   exact A
  refine OJ (λG=>?_) (λG=>?_)
  ·obtain⟨t,rfl⟩:∃t,j=t+1:=⟨j-1,O⟩;have E:((t+1:Nat):Int)-1=(t:Int):=O;refine Y ?_;refine ZB (t+1) w k λa p=>Y ?_;refine Z8 p (Y ?_);rw[E];refine ZB t w O λa p=>Y ?_;refine Z8 p ?_;refine OJ (λI=>?_) (λI=>?_)
   ·refine Y ?_;exact⟨rfl,D 7 (by decide) λh=>by have:=h.2 t k;omega⟩
   refine Y ?_;exact⟨⟨t+1+1,O⟩,qCh O (qCx (t+1)),⟨rfl,f,λi c h=>by
    rcases qAv.1 c with q | q
    ·exact C i q h
    obtain rfl:i=t:=O;omega⟩,V,trivial,rfl⟩
  refine Y ?_;exact⟨⟨j+1,O⟩,gI O,⟨rfl,f,λi c h=>by have J:i+1<j+1:=c;omega⟩,V,trivial,rfl⟩
 refine Y ?_;exact⟨rfl,0,rfl,⟨λ_=>⟨λi c=>B i O c,λi c=>C i O c⟩,λ_=>rfl⟩⟩
def Cf{m:iV}(D:gT H m)(N:m.pc.length<=20)(G:∀t∈m.tp,t.pl.length<=20):LL.Zb P 107 #[m.v] H λv p=>H=p/\∃s,v=vi s/\(s=0↔m.tp.length<=4/\∀i (k:i<m.tp.length),l8 m.pc.length m.tp[i]):=by
 have no:∀n:Int,n≠0->¬ (m.tp.length<=4/\∀i (k:i<m.tp.length),l8 m.pc.length m.tp[i])->∃s,vi n=vi s/\(s=0↔m.tp.length<=4/\∀i (k:i<m.tp.length),l8 m.pc.length m.tp[i]):=λn h g=>⟨n,rfl,⟨λe=>absurd e h,λe=>absurd e g⟩⟩;refine aU.m (fO Dx) rfl ?_;unfold I4 iV.v;refine OJ (λI=>?_) (λI=>?_)
 ·exact AO
 refine Y ?_;refine ZC m.tp.length (λj p=>H=p/\∀i (k:i<j) (h:i<m.tp.length),l8 m.pc.length m.tp[i]) (λj=>[(1,vi 0),(3,vi j)]) (λ_=>[(1,[vi m.kC,.slice m.A1 m.pc.length m.c1,.slice m.A2 m.bd.length m.c2,.slice m.A3 m.tp.length m.c3])]) ⟨rfl,O⟩ V V ?_;rintro j _ Q ⟨rfl,B⟩;refine OJ (λJ=>?_) (λJ=>?_)
 ·have mF:j<m.tp.length:=O;have l:=iN mF;have q:=D.pl _ l;have E:=G _ l;refine Y ?_;refine ZB j D.tp mF λa K=>?_;generalize ht:m.tp[j]=t at *;refine Y ?_;refine YL (cs:=[.slice t.A t.pl.length t.c,vi t.lo,vi t.hi]) K ?_;refine OJ (λw=>?_) (λw=>?_)
  ·exact F7
  refine Y ?_;refine Zg (vs:=[.slice t.A t.pl.length t.c,vi m.pc.length]) (Wfi q O O) ?_;rintro v _ ⟨rfl,s,rfl,C⟩;refine OJ (λh7=>?_) (λh7=>?_)
  ·refine Y ?_;exact⟨rfl,no s h7 λh=>h7 (C.2 ⟨by have:=(h.2 j mF).rg;rw[ht]at this;exact this,by have:=(h.2 j mF).up;rw[ht]at this;exact this⟩)⟩
  obtain⟨L,M⟩:=C.1 h7;refine Y ?_;refine Zo (vs:=[.agg #[vi t.lo,vi t.hi],vi 0,vi 120]) (CA _ _ _ _) ?_;refine OJ (λz=>?_) (λz=>?_)
  ·refine Y ?_;exact⟨rfl,no 1 (by decide) λh=>by have:=(h.2 j mF).sm;rw[ht]at this;omega⟩
  refine Y ?_;exact⟨⟨j+1,O⟩,gI O,⟨rfl,λi k h=>by
   rcases qAv.1 k with F | rfl
   ·exact B i F h
   rw[ht];exact⟨λe=>w (by rw[e];rfl),L,M,z⟩⟩,V,V,rfl⟩
 refine Y ?_;exact⟨rfl,0,rfl,⟨λ_=>⟨O,λi k=>B i O k⟩,λ_=>rfl⟩⟩
def yF{α:Type}[Enc α]{A:Option Addr}{l:List α}{c i:Nat}(h:dF H (.slice A n c) l)(k:i<=l.length):dF H (.slice A i c) (l.take i):=by obtain⟨o,p,e,f⟩:=h;simp only[Value.slice.injEq]at e;obtain⟨rfl,rfl,rfl⟩:=e;refine⟨A,c,by rw[qAs,qBX k],λm=>?_⟩;obtain⟨a,g,j⟩:=f (by rintro rfl;simp at m);refine⟨a,g,YN (ds:=Zd (l.drop i)) ?_⟩;rw[<-yX,qCq];exact j
def NL:Tryz.prog.underlying 68=some (.slice 197):=U
def QX:Tryz.prog.underlying 67=some (.slice 191):=U
def tB:Yw Tryz.prog 197=some (3,some (.agg #[.string ⟨#[]⟩,vi 0,.slice none 0 0]),48):=U
def rG:Yw Tryz.prog 191=some (4,some (.agg #[.string ⟨#[]⟩,vi 0,vi 0,vi 0]),40):=U
def EV{m:iV}(o:gT H m)(E:m.pc.length<=20)(S:m.bd.length<=20)(L:∀t∈m.tp,t.pl.length<=20):LL.Zb P 33 #[m.v] H λv z=>H=z/\∃s,v=vi s/\(s=0↔oH m):=by
 have w:∀n:Int,n≠0->¬ (oH m)->∃s,vi n=vi s/\(s=0↔oH m):=λn h g=>⟨n,rfl,⟨λe=>absurd e h,λe=>absurd e g⟩⟩;refine aU.m (fO Dr) rfl ?_;unfold IY iV.v;refine Y ?_;refine Zo (vs:=[vi m.kC,vi 0,vi 3]) (O2 _ _ _) ?_;refine OJ (λF=>?_) (λF=>?_)
 ·refine Y ?_;exact⟨rfl,w 1 (by decide) λh=>by have:=h.kC;omega⟩
 refine Y ?_;refine Zg (vs:=[.slice m.A1 m.pc.length m.c1]) (Ce o.pc E) ?_;rintro v _ ⟨rfl,s,rfl,J⟩;refine OJ (λp=>?_) (λp=>?_)
 ·refine Y ?_;exact⟨rfl,w s p λh=>p (J.2 ⟨h.n1,h.pc⟩)⟩
 obtain⟨Q,R⟩:=J.1 p;refine OJ (λM=>?_) (λM=>?_)
 ·refine Y ?_;exact⟨rfl,w 2 (by decide) λh=>by have:=h.n2;omega⟩
 refine Y ?_;refine ZC m.bd.length (λj z=>H=z/\∀i (hi:i<j) (h:i<m.bd.length),qW (m.bd.take i) m.bd[i]) (λj=>[(1,vi 0),(4,vi j)]) (λ_=>[(1,[vi m.kC,.slice m.A1 m.pc.length m.c1,.slice m.A2 m.bd.length m.c2,.slice m.A3 m.tp.length m.c3])]) ⟨rfl,O⟩ V V ?_;rintro j _ T ⟨rfl,I⟩;refine OJ (λh7=>?_) (λh7=>?_)
 ·have l:j<m.bd.length:=O;have C:=o.kn _ (iN l);refine Y ?_;refine PC (k:=.i64) (lo:=0) (hi:=j) (fU NL) (fT tB) rfl (.inl ⟨rfl,rfl⟩) ⟨_,rfl,rfl⟩ (qBf _) (by have:=o.q2;omega) ?_;rw[W9,qBl,qBl];refine Y ?_;refine ZB j o.bd l λa N=>Y ?_;refine YL (cs:=[.string m.bd[j].nm,vi m.bd[j].lg,.slice m.bd[j].A m.bd[j].kn.length m.bd[j].c]) N (Y ?_);refine Zg (vs:=[.slice m.A2 j m.c2,ED m.bd[j]]) (Cd (yF o.bd (qDh l)) (by rw[qAs];omega) C) ?_;rintro v _ ⟨rfl,D,rfl,G⟩;refine OJ (λq=>?_) (λq=>?_)
  ·refine Y ?_;exact⟨rfl,w D q λh=>q (G.2 (h.bd j l))⟩
  refine Y ?_;exact⟨⟨j+1,O⟩,gI O,⟨rfl,λi hi h=>by
   rcases qAv.1 hi with K | rfl
   ·exact I i K h
   exact G.1 q⟩,V,V,rfl⟩
 refine Y ?_;refine Zg (vs:=[m.v]) (Cf o E L) ?_;rintro v _ ⟨rfl,D,rfl,B⟩;refine Y ?_;exact⟨rfl,D,rfl,⟨λe=>⟨⟨F,Q,R,O,λi hi=>I i O hi⟩,(B.1 e).1,(B.1 e).2⟩,λh=>B.2 ⟨h.n3,h.tp⟩⟩⟩
def Ck(x:qY):LL.Zb P 170 #[ED x] H λv c=>H=c/\∃b,v=vb b:=by refine aU.m (fO Du) rfl ?_;unfold I1;refine Y ?_;refine yY rfl ?_;refine OJ (λe=>?_) (λe=>?_)<;>refine Y ?_<;>exact⟨rfl,_,rfl⟩
def Gn{m:iV}(C:gT H m):LL.Zb P 98 #[m.v] H λv q=>H=q/\∃b,v=vb b/\(b=false->m.pc.length<=20/\m.bd.length<=20/\∀t∈m.tp,t.pl.length<=20):=by
 have z:∃b,vb true=vb b/\(b=false->m.pc.length<=20/\m.bd.length<=20/\∀t∈m.tp,t.pl.length<=20):=⟨true,rfl,λe=>by simp at e⟩;refine aU.m (fO Dq) rfl ?_;unfold JX iV.v;refine OJ (λG=>?_) (λG=>?_)
 ·refine Y ?_;exact⟨rfl,z⟩
 refine OJ (λI=>?_) (λI=>?_)
 ·refine Y ?_;exact⟨rfl,z⟩
 refine OJ (λJ=>?_) (λJ=>?_)
 ·refine Y ?_;exact⟨rfl,z⟩
 refine Y ?_;refine ZC m.pc.length (λj q=>H=q) (λj=>[(1,vi 0),(3,vi j)]) (λ_=>[(1,[vi m.kC,.slice m.A1 m.pc.length m.c1,.slice m.A2 m.bd.length m.c2,.slice m.A3 m.tp.length m.c3])]) rfl V V ?_;rintro j _ U rfl;refine OJ (λK=>?_) (λK=>?_)
 ·have k:j<m.pc.length:=O;refine Y ?_;refine ZB j C.pc k λa B=>Y ?_;refine Zh (OL _) rfl (by rw[add_zero];exact YN (cs:=[.string m.pc[j].nm]) (ds:=[vi m.pc[j].lo,vi m.pc[j].hi,vi m.pc[j].br]) B) (Y ?_);refine yY rfl ?_;refine OJ (λL=>?_) (λL=>?_)
  ·refine Y ?_;exact⟨rfl,z⟩
  refine Y ?_;exact⟨⟨j+1,O⟩,gI O,rfl,V,V,rfl⟩
 refine Y ?_;refine ZC m.bd.length (λj q=>H=q) (λj=>[(1,vi 0),(4,vi j)]) (λ_=>[(1,[vi m.kC,.slice m.A1 m.pc.length m.c1,.slice m.A2 m.bd.length m.c2,.slice m.A3 m.tp.length m.c3])]) rfl V V ?_;rintro o _ R rfl;refine OJ (λM=>?_) (λM=>?_)
 ·have k:o<m.bd.length:=O;refine Y ?_;refine ZB o C.bd k λa B=>Y ?_;refine YL (cs:=[.string m.bd[o].nm,vi m.bd[o].lg,.slice m.bd[o].A m.bd[o].kn.length m.bd[o].c]) B (Y ?_);refine Zg (vs:=[ED m.bd[o]]) (Ck _) ?_;rintro v _ ⟨rfl,b,rfl⟩;refine OJ (λh7=>?_) (λh7=>?_)
  ·refine Y ?_;exact⟨rfl,z⟩
  refine Y ?_;exact⟨⟨o+1,O⟩,gI O,rfl,V,V,rfl⟩
 refine Y ?_;refine ZC m.tp.length (λj q=>H=q/\∀i (w:i<j) (h:i<m.tp.length),m.tp[i].pl.length<=20) (λj=>[(1,vi 0),(5,vi j)]) (λ_=>[(1,[vi m.kC,.slice m.A1 m.pc.length m.c1,.slice m.A2 m.bd.length m.c2,.slice m.A3 m.tp.length m.c3])]) ⟨rfl,O⟩ V V ?_;rintro p _ S ⟨rfl,E⟩;refine OJ (λN=>?_) (λN=>?_)
 ·have k:p<m.tp.length:=O;refine Y ?_;refine ZB p C.tp k λa B=>Y ?_;refine Zh (OL _) rfl (by rw[add_zero];exact YN (cs:=[.slice m.tp[p].A m.tp[p].pl.length m.tp[p].c]) (ds:=[vi m.tp[p].lo,vi m.tp[p].hi]) B) ?_;refine OJ (λQ=>?_) (λQ=>?_)
  ·refine Y ?_;exact⟨rfl,z⟩
  refine Y ?_;exact⟨⟨p+1,O⟩,gI O,⟨rfl,λi w h=>by
   rcases qAv.1 w with F | rfl
   ·exact E i F h
   omega⟩,V,V,rfl⟩
 refine Y ?_;refine⟨rfl,false,rfl,λ_=>⟨O,O,λt T=>?_⟩⟩;obtain⟨i,w,rfl⟩:=qAz.1 T;exact E i O w
def Gj{m:iV}(f:gT H m):LL.Zb P 28 #[m.v] H λv g=>H=g/\∃b,v=vb b/\(b=true->oH m/\∀t∈m.tp,t.pl.length<=20):=by
 refine aU.m (fO Dp) rfl ?_;unfold JW iV.v;refine Y ?_;refine Zg (vs:=[m.v]) (Gn f) ?_;rintro v _ ⟨rfl,b,rfl,hb⟩;cases b with
 | true=>
  refine Y ?_;exact⟨rfl,false,rfl,λe=>by simp at e⟩
 | false=>
  obtain⟨h,i,c⟩:=hb rfl;refine Y ?_;refine Zg (vs:=[m.v]) (EV f h i c) ?_;rintro v _ ⟨rfl,s,rfl,j⟩;refine Y ?_;exact⟨rfl,_,rfl,λe=>⟨j.1 (by simpa using e),c⟩⟩
end
abbrev KF(x:wF):Value:=.agg #[.string x.nm,vi x.lo,vi x.hi,vi x.br]
def gT.inc{H H':Hp}{m:iV}(h:gT H m)(i:fI H H'):gT H' m:=⟨h.pc.inc i,h.bd.inc i,h.tp.inc i,λx c=>(h.kn x c).inc i,λx c=>(h.pl x c).inc i,h.q1,h.q2⟩
section
variable{P:fP}[Tz P][Loud P]{H:Hp}
def oE(n f e:Int):LL.Zb P 244 #[vi n,vi f,vi e] H λv g=>H=g/\v=vb (decide (f<=n/\n<=e)):=by refine aU.m (fO Dt) rfl ?_;unfold I0;refine OJ (λc=>?_) (λc=>?_)<;>refine Y ?_<;>exact⟨rfl,by simp[Y3,c]⟩
def y7{e c n:Int}(h:e<=a/\a<=b/\b<=c)(g:b-a<n)(i:-10000<=e/\c<=10000):LL.Zb P 248 #[.agg #[vi a,vi b],vi e,vi c,vi n] H λv f=>H=f/\v=vb true:=by refine aU.m (fO IA) rfl ?_;unfold y8;refine Y ?_;rw[decide_eq_true h.1];refine Y ?_;rw[decide_eq_true h.2.1];refine Y ?_;rw[decide_eq_true h.2.2];refine Y ?_;rw[decide_eq_true g];refine Y ?_;exact⟨rfl,rfl⟩
def Fo{e c n:Int}(j:-10000<=e/\c<=10000)(k:c-e<n:=by decide):LL.Zb P 248 #[.agg #[vi a,vi b],vi e,vi c,vi n] H λv f=>H=f/\v=vb (decide (e<=a/\a<=b/\b<=c)):=by
 by_cases h:e<=a/\a<=b/\b<=c
 ·rw[decide_eq_true h];exact y7 h O j
 rw[qAU h];refine aU.m (fO IA) rfl ?_;unfold y8;refine OJ (λg=>?_) (λg=>?_)
 ·refine OJ (λi=>?_) (λi=>?_)
  ·refine Y ?_;rw[qAU (show ¬ b<=c by omega)];refine Y ?_;exact⟨rfl,rfl⟩
  refine Y ?_;exact⟨rfl,rfl⟩
 refine Y ?_;exact⟨rfl,rfl⟩
def JQ{s:ByteArray}(h:qX s):LL.Zb P 245 #[.string s] H λv c=>H.Sub c/\v=vb true:=by
 obtain⟨G,I,t,z⟩:=h;refine aU.m (fO Cp) rfl ?_;unfold I8;refine Y ?_;refine Gb rfl (OL _) λv o l k1 k D E=>Y ?_;refine YH k rfl (Y ?_);refine ZC s.size (λj c=>o=c) (λj=>[(0,.string s),(6,v),(7,vi s.size),(8,vi j)]) (λ_=>[]) rfl ⟨rfl,rfl,by rw[D];rfl,rfl,trivial⟩ trivial ?_;rintro j _ J rfl;refine OJ (λA=>?_) (λA=>?_)
 ·have g:j<s.size:=O;have hb:=z j g;have C:=E j O;have B:Enc.enc (l[j]'O)=[.int .u8 (l7 s j)]:=by show[Value.int .u8 (l[j]'O).v]=_;rw[C]
  have key:(97<=l7 s j/\l7 s j<=122)\/(0<j/\48<=l7 s j/\l7 s j<=57):=by
   rcases hb with hb | hb
   ·right;have:=of_decide_eq_true hb;refine⟨?_,this⟩;rcases qBd j with rfl | q
    ·rw[t]at hb;simp at hb
    exact q
   exact .inl hb
  refine Y ?_;refine ZB j k O λa i=>?_;rw[B]at i;refine Y ?_;refine Z8 i ?_;generalize l7 s j=b at *;rcases key with⟨e,f⟩ | ⟨F,e,f⟩
  ·refine Y ?_;rw[decide_eq_true e];refine Y ?_;rw[decide_eq_true f];exact vO
  refine Y ?_;rw[qAU (show ¬ 97<=b by omega)];refine Y ?_;rw[decide_eq_true (show(0:Int)<j by omega)];refine Y ?_;rw[decide_eq_true e];refine Y ?_;rw[decide_eq_true f];exact vO
 refine Y ?_;refine yY rfl (Y ?_);refine Zg (vs:=[vi s.size,vi 1,vi 10]) (oE _ _ _) ?_;rintro w _ ⟨rfl,rfl⟩;refine Y ?_;exact⟨k1,by rw[decide_eq_true ⟨O,O⟩];rfl⟩
def Wfl{v:Value}{l:List wF}(hf:∀x∈l,Z5 P fv #[KF x] H λv H'=>H=H'/\v=vb false)(hl:dF H v l)(c:l.length<=1000000) :
  LL.Zb P 315 #[v,fv] H λv H'=>H=H'/\v=vi (-1):=by
 refine aU.m (fO Cu) rfl ?_;unfold JC;exact F9
def Wfq{v:Value}{l:List wF}(e:∀x∈l,Z5 P fv #[KF x] H λv c=>H=c/\v=vb false)(f:dF H v l)(g:l.length<=1000000) :
  LL.Zb P 246 #[v,fv] H λv c=>H=c/\v=vb false:=by
 refine aU.m (fO Cq) rfl ?_;unfold I9;refine Y ?_;refine Z7 (vs:=[v,fv]) rfl (Wfl e f g) ?_;rintro w _ ⟨rfl,rfl⟩;refine Y ?_;exact⟨rfl,rfl⟩
def Wfm{v:Value}{l:List qY}(hf:∀x∈l,Z5 P fv #[ED x] H λv H'=>H=H'/\v=vb false)(hl:dF H v l)(c:l.length<=1000000) :
  LL.Zb P 352 #[v,fv] H λv H'=>H=H'/\v=vi (-1):=by
 refine aU.m (fO Cy) rfl ?_;unfold JF;exact F9
def Wfr{fv v:Value}{l:List qY}(e:∀x∈l,Z5 P fv #[ED x] H λv c=>H=c/\v=vb false)(f:dF H v l)(g:l.length<=1000000) :
  LL.Zb P 316 #[v,fv] H λv c=>H=c/\v=vb false:=by
 refine aU.m (fO Cv) rfl ?_;unfold JD;refine Y ?_;refine Z7 (vs:=[v,fv]) rfl (Wfm e f g) ?_;rintro w _ ⟨rfl,rfl⟩;refine Y ?_;exact⟨rfl,rfl⟩
def Hj{m:iV}(h:nE m):LL.Zb P 172 #[m.v] H λv c=>H=c/\v=vi 0:=by refine aU.m (fO Dy) rfl ?_;unfold I5 iV.v;refine Y ?_;refine Zg (vs:=[vi m.kC,vi 0,vi 3]) (oE _ _ _) ?_;rintro w _ ⟨rfl,rfl⟩;rw[decide_eq_true h.kC];refine Y ?_;exact⟨rfl,rfl⟩
def Gf{q x:wF}(h:aM H ⟨r,0,none⟩ [.string x.nm,vi x.lo,vi x.hi,vi x.br]):LL.Zb P 247 #[KF q,.pointer (some ⟨r,0,none⟩)] H λv c=>H=c/\v=vb (q.nm.toList == x.nm.toList):=by refine aU.m (fO Cr) rfl ?_;unfold JA;refine Y ?_;refine Zh (OL _) rfl (by rw[add_zero];exact YN (cs:=[.string x.nm]) (ds:=[vi x.lo,vi x.hi,vi x.br]) h) (Y ?_);refine L8 rfl rfl (Y ?_);exact⟨rfl,rfl⟩
def Bh{q x:qY}(h:aM H ⟨r,0,none⟩ [.string x.nm,vi x.lg,.slice x.A x.kn.length x.c]):LL.Zb P 317 #[ED q,.pointer (some ⟨r,0,none⟩)] H λv e=>H=e/\v=vb (q.nm.toList == x.nm.toList):=by refine aU.m (fO Cw) rfl ?_;unfold JE;refine Y ?_;refine Zh (OL _) rfl (by rw[add_zero];exact YN (cs:=[.string x.nm]) (ds:=[vi x.lg,.slice x.A x.kn.length x.c]) h) (Y ?_);refine L8 rfl rfl (Y ?_);exact⟨rfl,rfl⟩
def Ft{m:iV}(z:gT H m)(h:nE m):LL.Zb P 173 #[m.v] H λv i=>fI H i/\v=vi 0:=by
 have hn:=h.n1;refine aU.m (fO Cm) rfl ?_;unfold I6 iV.v;refine Y ?_;refine Zg (vs:=[vi m.pc.length,vi 1,vi 3]) (oE _ _ _) ?_;rintro w _ ⟨rfl,rfl⟩;rw[decide_eq_true ⟨O,O⟩];refine Y ?_;refine ZC m.pc.length (λj i=>fI H i) (λj=>[(1,vi 0),(13,.slice m.A1 m.pc.length m.c1),(14,vi m.pc.length),(15,vi j)]) (λ_=>[(1,[vi m.kC,.slice m.A1 m.pc.length m.c1,.slice m.A2 m.bd.length m.c2,.slice m.A3 m.tp.length m.c3])]) (.refl _) V V ?_;rintro j D hj B;refine OJ (λL=>?_) (λL=>?_)
 ·have e:j<m.pc.length:=O;obtain⟨R,S,T,W,X⟩:=h.pc j e;refine Y ?_;refine ZB j (z.pc.inc B) e λa M=>?_;have I:∀k (G:k<j),m.pc[k]'O∈m.pc.take j:=λk G=>by rw[qDm];exact⟨k,O,rfl⟩
  have f:∀q∈m.pc.take j,(q.nm.toList == m.pc[j].nm.toList)=false:=λq A=>by obtain⟨k,G,rfl⟩:=qDm.1 A;exact S k O
  generalize m.pc[j]=x at *;refine Y ?_;refine YL (cs:=[.string x.nm,vi x.lo,vi x.hi,vi x.br]) M (Y ?_);refine VY (fT rG) (OL _) λr N=>Y ?_;refine yU (v:=KF x) (fT rG) (cs:=[.string ⟨#[]⟩,vi 0,vi 0,vi 0]) rfl rfl (Hp.aQ _ _ _) rfl rfl rfl (OL _) ?_;rw[Uy];have Q:=Zt (o:=.cells (KF x).cells 191) N;have E:aM (D.ins r (.cells (KF x).cells 191)) ⟨r,0,none⟩ [.string x.nm,vi x.lo,vi x.hi,vi x.br]:=VR;generalize D.ins r (.cells (KF x).cells 191)=Z at *;refine Y ?_;refine Zh (OL _) rfl (by rw[add_zero];exact YN (cs:=[.string x.nm]) (ds:=[vi x.lo,vi x.hi,vi x.br]) E) (Y ?_);refine Zg (vs:=[.string x.nm]) (JQ R) ?_;rintro v H3 ⟨K,rfl⟩;have t:=E.sub K;have J:=(B.trans Q).trans K.inc;refine Y ?_;refine PC (k:=.i64) (lo:=0) (hi:=j) (fU QX) (fT rG) rfl (.inl ⟨rfl,rfl⟩) ⟨_,rfl,rfl⟩ (qBf _) (by have:=z.q1;omega) ?_;rw[W9,qBl,qBl];refine Y ?_;refine VW rfl rfl (Y ?_);refine Zo (vs:=[.slice m.A1 j m.c1,.func (.func 247) #[] #[.pointer (some ⟨r,0,none⟩)]]) (Wfq (l:=m.pc.take j) (λq A=>Yv U (LL.Zb.mono (Gf t) λv i F=>⟨F.1,by rw[F.2,f q A]⟩)) (yF (z.pc.inc J) (qDh e)) (by rw[qAs];omega)) (Y ?_);refine Zn (cs:=[vi x.lo,vi x.hi]) (OL _) rfl (by exact YN (ds:=[vi x.br]) (mG t rfl)) rfl (Y ?_);refine Zo (vs:=[.agg #[vi x.lo,vi x.hi],vi 1,vi 40,vi 3]) (y7 T W ⟨O,O⟩) (Y ?_);refine Zh (OL _) rfl (mG t rfl) (Y ?_);refine Zg (vs:=[vi x.br,vi 0,vi 2]) (oE _ _ _) ?_;rintro w _ ⟨rfl,rfl⟩;rw[decide_eq_true X];refine Y ?_;exact⟨⟨j+1,O⟩,gI O,J,V,V,rfl⟩
 refine Y ?_;exact⟨B,rfl⟩
end
