import Derived.Test.YtmfealhfgccmfaaGreatDoorP17
import Derived.Test.YtmfealhfgccmfaaGreatDoorP18
import Derived.Test.YtmfealhfgccmfaaGreatDoorP19
import Derived.Test.YtmfealhfgccmfaaGreatDoorP20
import Derived.Test.YtmfealhfgccmfaaGreatDoorP21
import Derived.Test.YtmfealhfgccmfaaGreatDoorP24
import Derived.Test.YtmfealhfgccmfaaGreatDoorP25
import Derived.Test.YtmfealhfgccmfaaGreatDoorP27
import Derived.Test.YtmfealhfgccmfaaGreatDoorP28
set_option linter.all false
set_option maxHeartbeats 8000000
set_option maxRecDepth 100000
def gq6{G:Prop}(h:G:=by
  refine Y ?_;refine YH hl rfl (Y ?_);refine ZC l.length (λj H'=>H=H'/\(l.take j).any f=false) (λj=>[(0,v),(1,fv),(7,vi l.length),(8,vi j)]) (λj=>[]) ⟨rfl,rfl⟩ V trivial ?_;rintro j _ hj ⟨rfl,xW⟩;refine OJ (λh1=>?_) (λh1=>?_)
  ·have mF:j<l.length:=O;refine Y ?_;refine ZB j hl mF λa ha=>Y ?_;refine YL ha (Y ?_);refine ZP rfl rfl (hf _ (iN mF)) ?_;exact WL
  exact LO):G:=h
def TT{G:Prop}(h:G:=by
  rintro w _ ⟨rfl,r,rfl,hr⟩;refine Y ?_;refine⟨rfl,?_⟩;show vb (decide (0<=r))=vb _;congr 1;cases h:l.any f with
  | true=>exact decide_eq_true (hr.2 h)
  | false=>exact qAU λe=>by rw[hr.1 e]at h;simp at h):G:=h
def D2{G:Prop}(h:G:=by refine Y ?_;exact⟨yQ,by rw[vX (by unfold xM;simp;omega)];rfl⟩):G:=h
def TB{G:Prop}(h:G:=by
  have e:sK b.pk (j+1)=VJ (b.pk.take j) b.pk[j]:=by rw[sK,iF (by rw[hk];simp),hg]
  rw[YD,iF O,ZeX (j:=j+1) (by rw[e];exact h) _ O,e]):G:=h
def HB{G:Prop}(h:G:=by refine Y ?_;exact⟨⟨j+1,O⟩,gI O,⟨rfl,next (by simp;omega)⟩,V,trivial,rfl⟩):G:=h
def AW{G:Prop}(h:G:=by refine Y ?_;exact⟨rfl,by rw[Y1,iF O];rfl⟩):G:=h
section
open Go Go.LL
namespace Go.Proofs
section
open Go.Conc Go.ConcM
open YtmfealhfgccmfaaGreatDoor Go.ChangeShapes Go.WideShapes
section
variable{H:Type}{enc:TypeId×Value->H}{W:World}{base:Nat}{sp:Nat->Bool}{held:Bool}{fuel:Nat}{cs:List Value}{y:DataW H×List MemPlace}{r:Reach}{b0:Nat}{v:Value}{d:DataW H}{ps:List MemPlace}
def lU(b:Value.okWide Tryz.prog W r b0 5 v)(e:DataW.Trod enc Tryz.prog W base sp held 5 v d ps):∃n,v=.int .u8 n/\0<=n/\n<256:=by obtain⟨n,rfl,_,_,f⟩:=open_int Tryz.underlying5 b e;simp only[Lit.wf,qAc,qAK]at f;have g:IntKind.u8.min=0:=rfl;have h:IntKind.u8.max=255:=rfl;exact⟨n,rfl,O,O⟩
end
end
def Ziz{α:Type}[DecidableEq α]:∀{l m:List α},l.Nodup->(∀x∈l,x∈m)->l.length<=m.length
 | [],_,_,_=>qBf _
 | a :: l,m,j,e=>by obtain⟨g,h⟩:=qDz.1 j;have b:=e a (qAB ..);have:=Ziz (l:=l) (m:=m.erase a) h λx f=>(List.mem_erase_of_ne (by rintro rfl;exact g f)).2 (e x (qAm _ f));rw[List.length_erase_of_mem b]at this;have:=List.length_pos_of_mem b;rw[qAF];omega
section
variable{m:Int}
def HE{α:Type}{p:α->Prop}{l:List α}{j:Nat}(f:j<l.length)(h:∀x∈l.take j,p x)(e:p l[j]):∀x∈l.take (j+1),p x:=by
 intro x b;rw[BY f]at b;rcases qAj.1 b with b | b
 ·exact h x b
 rw[iO.1 b];exact e
section
variable{P:fP}[Tz P][Loud P]{H:Hp}
def Znt{lv:Value}{l:List Int}{n:Int}(k:dF H lv l)(q:l.length<=1000000):LL.Zb P 306 #[lv,vi n] H λv e=>H=e/\v=vb (decide (n∈l)):=by
 refine aU.m (fO c50) rfl ?_;unfold n50;refine Y ?_;refine ZC l.length (λj e=>H=e/\∀x∈l.take j,x≠n) (λj=>[(0,lv),(1,vi n),(5,vi j)]) (λ_=>[]) ⟨rfl,by simp⟩ V trivial ?_;rintro j _ t ⟨rfl,g⟩;refine Y ?_;refine YH k rfl ?_;refine OJ (λo=>?_) (λo=>?_)
 ·have b:j<l.length:=O;refine Y ?_;refine ZB j k b λa p=>Y ?_;refine Z8 p ?_;refine OJ (λf=>?_) (λf=>?_)
  ·refine Y ?_;exact⟨rfl,by rw[decide_eq_true (show n∈l by rw[<-f];exact iN b)];rfl⟩
  refine Y ?_;exact ZlU (I:=λj e=>H=e/\∀x∈l.take j,x≠n) (env:=λj=>[(0,lv),(1,vi n),(5,vi j)]) (box:=λ_=>[]) b ⟨rfl,HE b g f⟩ V trivial rfl
 have:j=l.length:=O;subst this;rw[qAh]at g;refine Y ?_;exact⟨rfl,by rw[qAU (show ¬ n∈l from λh=>g n h rfl)];rfl⟩
end
def Zob{a:Int}(h:0<=a)(b:0<m):0<=a.tmod m/\a.tmod m<m:=⟨Int.tmod_nonneg _ h,Int.tmod_lt_of_pos _ b⟩
def PB{n:Nat}(h:0<=m)(b:0<n):∃i:Nat,i<n/\m.tmod n=i:=by have:=Zob (m:=(n:Int)) h O;exact⟨(m.tmod n).toNat,O,O⟩
end
end Go.Proofs
end
section
open Go Go.LL
namespace Go.LL
section
variable{sT E T:TypeId}{iS gQ m:Nat}{zv w:Value}{xs:List Value}{a:Addr}
section
variable{P:fP}{H:Hp}{d:Option Nat}{next:fG->Hp->Prop}{σ:fG}{x y:Operand}
def Zza(S:P.toProgram.underlying sT=some (.slice E))(Z:TI P.toProgram E iS zv gQ)(U:zv.cells.size=iS)(he:0<iS)
  (hw:(m=0/\∃A c,w=.slice A 0 c)\/∃a c,w=.slice (some a) m c/\aM H a xs) (hl:xs.length=m * iS) (I:(xs.all Value.gM)=true) (M:m<=1000000000) (D:gQ<=1000) (nO:P.still H.gh=false)
  {K:Value->Hp->Prop} (k0:m=0->K (.slice (some a) 0 0) H) (k1:∀r j rest,H r=none->m<=j->(xs++rest).length=j * iS->K (.slice (some ⟨r,0,none⟩) m j) (H.ins r (.cells (xs++rest).toArray E))):fZ P.toPQ (Builtin.append_ #[sT,sT] T #[.slice (some a) 0 0,w]) (λv _ L=>K v L) false H:=by
 obtain⟨Y,C,V,X,G⟩:=Z.ex;have z:∀Q g,Q m g H->fZ P.toPQ (Builtin.lenOf w) Q g H:=by intro Q g hq;rcases hw with⟨rfl,A,c,rfl⟩ | ⟨a,c,rfl,_⟩<;>simpa[Builtin.lenOf,Zj]using hq
 have b:∀(Q:Array Value->Bool->Hp->Prop) g,Q xs.toArray g H->fZ P.toPQ (Builtin.firstCells iS m w) Q g H:=by exact T1
 have B:∀(Q:Array Value->Bool->Hp->Prop) g,Q #[] g H->fZ P.toPQ (Builtin.firstCells iS 0 (.slice (some a) 0 0)) Q g H:=by intro Q g hq;simpa[Builtin.firstCells,Zj,loadCells,loadCellsFrom]using hq
 simp only[Builtin.append_,qAM,qBy,qBk,Zf,ZA S,Yc C,V,Zj,oR,qAq];refine z _ _ ?_;simp only[qCK,qBb];by_cases q:0+m<=0
 ·rw[qAa q];have N:m=0:=O;subst N;have F:xs=[]:=qAr (by simpa using hl);subst F;simp only[Zf,Zj];refine b _ _ ?_;simpa[storeCells,Zj]using k0 rfl
 rw[iF q];simp only[Zf,UL C,G];rw[iF (by rintro⟨h,_⟩;simp[IntKind.max,IntKind.bits,IntKind.signed]at h;omega)];simp only[Zf,Zj,UL C,G];have o:¬ Builtin.nextslicecap (0+m) 0 * gQ > 2 ^ 48:=by have I:=ZiC (need:=0+m) (old:=0) O;have h2:Builtin.nextslicecap (0+m) 0 * gQ<=(2 * (0+m)+200) * 1000:=qBK I D;omega
 rw[iF o];simp only[Zf,Zj,choose];rw[fZ];simp only[Question.forced,oR,qAq];refine⟨nO,λt=>?_⟩;have p:0+m<=(Question.appendCap (0+m) 0 E).cut t:=by simp only[Question.cut];omega
 generalize(Question.appendCap (0+m) 0 E).cut t=j at p;rw[fZ];have k:∀(Q:Unit->Bool->Hp->Prop),Q () false H->fZ P.toPQ (askRoom (j * gQ)) Q false H:=by exact AZ
 rw[UL C,G];refine k _ ?_;refine B _ _ ?_;refine b _ _ ?_;simp only[Us C X,newRow,Zf,newObj,Zj];refine⟨nO,λr R=>?_⟩;have J:=k1 r j (Builtin.zeroCells zv.cells (j-(0+m))).toList R O (by simp only[IN,hl,qCA,Zgl,U];rw[<-qDt];congr 1;omega);have e:(#[]++xs.toArray++Builtin.zeroCells zv.cells (j-(0+m)))=(xs++(Builtin.zeroCells zv.cells (j-(0+m))).toList).toArray:=by simp
 rw[qAJ]at e J;rw[qAJ,e];exact J
def Zir(q:P.toProgram.underlying sT=some (.slice E))(B:TI P.toProgram E iS zv gQ)(z:zv.cells.size=iS)(o:0<iS)(h:σ.get x=some (.slice (some a) 0 0))(j:σ.get y=some w)
  (t:(m=0/\∃A c,w=.slice A 0 c)\/∃a c,w=.slice (some a) m c/\aM H a xs) (p:xs.length=m * iS) (k:(xs.all Value.gM)=true) (b:m<=1000000000) (e:gQ<=1000) (f:P.still H.gh=false)
  (k0:m=0->next (σ.set d (.slice (some a) 0 0)) H) (k1:∀r g rest,H r=none->m<=g->(xs++rest).length=g * iS->next (σ.set d (.slice (some ⟨r,0,none⟩) m g)) (H.ins r (.cells (xs++rest).toArray E))):(fR.raw (.call { callee:=.builtin .append,args:=#[x,y],argTypes:=#[sT,sT] }) T).m P d next σ H:=by
 refine YX (s:=Builtin.append_ #[sT,sT] T #[.slice (some a) 0 0,w]) (by simp[Op.operands,Call.operands,h,j]) (by simp[execOp,fL,resolve,invoke,builtin,h,j]) ?_;exact Zza (T:=T) q B z o t p k b e f k0 k1
end
end
end Go.LL
end
open Go Go.LL
namespace Go.Proofs
section
variable{α:Type}{H0:Hp}{r:Nat}{E:TypeId}
def Zh4[Enc α]{H:Hp}{b:Nat}{l:List α}{rest:List Value}(h:fI H0 H)(j:H r=none)(f:l.length<=b)(g:(Zd l++rest).length=b * Enc.sz α):gL H0 (H.ins r (.cells (Zd l++rest).toArray E)) E (.slice (some ⟨r,0,none⟩) l.length b) l (some r):=
 ⟨⟨Y7 l,.inr ⟨r,b,rest,rfl,rfl,Hp.aQ _ _ _,g,f⟩⟩,λk e=>by obtain rfl:=aT e;exact YP h j⟩
section
variable{P:fP}[Tz P]{H:Hp}{d:Option Nat}{next:fG->Hp->Prop}{σ:fG}{x y:Operand}
def ZtE[Enc α]{sT T:TypeId}{gQ:Nat}{zv w:Value}{l:List α}(F:P.toProgram.underlying sT=some (.slice E))(I:TI P.toProgram E (Enc.sz α) zv gQ)(G:zv.cells.size=Enc.sz α)(B:0<Enc.sz α)
  (D:H0 r=none) (z:H=H0.ins r (.cells #[] E)) (R:dF H w l) (M:((Zd l).all Value.gM)=true) (k:l.length<=1000000000) (g:gQ<=1000) (q:σ.get x=some (.slice (some ⟨r,0,none⟩) 0 0)) (t:σ.get y=some w) (j:P.still H.gh=false)
  (h:∀J H' K,fI H H'->gL H0 H' E J l K->next (σ.set d J) H'):(fR.raw (.call { callee:=.builtin .append,args:=#[x,y],argTypes:=#[sT,sT] }) T).m P d next σ H:=by
 have C:fI H0 H:=by rw[z];exact Zt D
 obtain⟨A,c,rfl,N⟩:=R;by_cases o:l=[]
 ·subst o;refine Zir F I G B q t (m:=0) (xs:=[]) (.inl ⟨rfl,A,c,rfl⟩) (by simp) rfl O g j (λ_=>?_) λp S rest b f e=>?_
  ·exact h _ _ (some r) (.refl _) (by rw[z];exact N9 D)
  exact h _ _ (some p) (Zt b) (Zh4 (l:=([]:List α)) C b f e)
 obtain⟨a,rfl,Q⟩:=N o;refine Zir F I G B q t (m:=l.length) (xs:=Zd l) (.inr ⟨a,c,rfl,Q⟩) (Y7 l) M k g j (λL=>absurd (qAr L) o) λp S rest b f e=>?_;exact h _ _ (some p) (Zt b) (Zh4 C b f e)
end
end
section
variable{l:List Int}{n i c:Nat}{H':Hp}{A:Option Addr}
def Zm9{lo:Int}{k:Nat}(h:l.Pairwise (·<·))(b:∀z∈l,lo<=z/\z<lo+k):l.length<=k:=by
 have f:∀z∈l,z∈(List.range k).map λ(i:Nat)=>lo+(i:Int):=λz g=>by have:=b z g;exact qAy.2 ⟨(z-lo).toNat,qAA.2 O,O⟩
 have:=Ziz (l:=l) (h.imp λh e=>by subst e;omega) f;rwa [qAd,qBo]at this
def FI(n:Nat)(l:List Int):Prop:=l.Pairwise (·<·)/\∀z∈l,0<=z/\z<n
def Zf5(h:FI n l):l.length<=n:=Zm9 (lo:=0) h.1 λz b=>by have:=h.2 z b;omega
def l7(s:ByteArray)(i:Nat):Int:=((s.data.toList.getD i 0).toNat:Int)
structure U8 where
 v:Int
 lo:0<=v
 hi:v<256
instance:Enc U8:=⟨1,λu=>[.int .u8 u.v],λ_=>rfl⟩
def Ih:Tryz.prog.underlying 9=some .string:=U
def Zn2:Tryz.prog.underlying 419=some (.slice 5):=U
def Ik:Tryz.prog.underlying 5=some (.int .u8):=U
section
variable{P:fP}[Tz P]{H:Hp}{d:Option Nat}{next:fG->Hp->Prop}{σ:fG}{x y:Operand}{ty t2:TypeId}{s u:ByteArray}
def yY(e:σ.get x=some (.string s))(h:next (σ.set d (vi s.size)) H):(fR.raw (.call { callee:=.builtin .len,args:=#[x],argTypes:=#[9] }) ty).m P d next σ H:=by refine YX (s:=Builtin.len_ #[9] ty #[.string s]) (by simp[Op.operands,Call.operands,e]) (by simp[execOp,fL,resolve,invoke,builtin,e]) ?_;simp only[Builtin.len_,qAM,qBy,Zf,ZA (fU (P:=P) Ih),Zj,goInt];exact h
def L8(b:σ.get x=some (.string s))(e:σ.get y=some (.string u))(h:next (σ.set d (vb (s.toList == u.toList))) H):(fR.gE (.binOp .eql 9 x y t2) ty).m P d next σ H:=by
 refine Vh (by simp[Op.operands,b,e]) ?_ h;have:execOp (λx=>(σ.get x).getD undef) (fL (.binOp .eql 9 x y t2) ty)=(do let v <-(do eqGuard .eql 9 x y (.string s) (.string u);binOp .eql 9 (.string s) (.string u));pure (.value v)):=by simp[execOp,fL,b,e]
 rw[this];refine Ue λQ g H f=>?_;simp only[eqGuard,Zf,Zj];exact f
def HK{k:IntKind}(b:σ.get x=some (.string s))(f:σ.get y=some (.int k (i:Int)))(g:i<s.size)(h:next (σ.set d (.int .u8 (l7 s i))) H):(fR.raw (.index 9 x y) ty).m P d next σ H:=by
 refine YX (s:=Instr.index 9 (.string s) (.int k (i:Int))) (by simp[Op.operands,b,f]) (by simp[execOp,fL,b,f]) ?_;have e:s[(i:Int).toNat]? = some (s[i]):=by rw[qAL];exact getElem?_pos s i g
 have j:l7 s i=(s[i].toNat:Int):=by unfold l7;rw[ZG (by simpa using g)];rfl
 simp only[Instr.index,asIntOf,Zf,ZA (fU (P:=P) Ih),Zj,qAa (show(0:Int)<=(i:Int)by omega),e];rw[<-j];exact h
def Ztd(e:σ.get x=some (.string s))(f:P.still H.gh=false)(h:∀v H' (l:List U8),H.Sub H'->dF H' v l->l.length=s.size->(∀i (F:i<l.length),l[i].v=l7 s i)->next (σ.set d v) H'):(fR.raw (.convert 9 419 x) ty).m P d next σ H:=by
 refine YX (s:=convert 9 419 (.string s)) (by simp[Op.operands,e]) (by simp[execOp,fL,e]) ?_;simp only[convert,Zf,ZA (fU (P:=P) Ih),ZA (fU (P:=P) Zn2),ZA (fU (P:=P) Ik),Conv.stringToBytes,choose];rw[fZ];simp only[Question.forced,oR,qAq];refine⟨f,λt=>?_⟩;have o:s.size<=(Question.appendCap s.size 0 5).cut t:=by simp only[Question.cut];omega
 generalize(Question.appendCap s.size 0 5).cut t=cap at o;simp only[newRow,newObj,Zf,Zj];refine⟨f,λr G=>?_⟩;let l:List U8:=s.data.toList.map λb=>⟨(b.toNat:Int),O,by have:=b.toNat_lt;omega⟩
 have g:l.length=s.size:=by simp[l]
 have p:Zd l=s.data.toList.map λb=>Value.int .u8 (b.toNat:Int):=by
  simp only[Zd,l,qDX];show s.data.toList.flatMap (λb=>[Value.int .u8 (b.toNat:Int)])=_;induction s.data.toList with
  | nil=>rfl
  | cons b m ih=>rw[qAI,ih];rfl
 have z:∀k,aM (H.ins r (.cells ((s.data.map λb=>Value.int .u8 (b.toNat:Int))++Array.replicate (cap-s.size) (.int .u8 0)) 5 k)) ⟨r,0,none⟩ (Zd l):=by intro k;refine⟨rfl,_,_,Hp.aQ _ _ _,λj C=>?_⟩;rw[p]at C ⊢;rw[qAd]at C;show((s.data.map λb=>Value.int .u8 (b.toNat:Int))++Array.replicate (cap-s.size) (.int .u8 0))[0+j]? = _;rw[qAJ,qDf (by simpa using C),qBH,qCe];simp
 have q:∀k,next (σ.set d (.slice (some ⟨r,0,none⟩) s.size cap)) (H.ins r (.cells ((s.data.map λb=>Value.int .u8 (b.toNat:Int))++Array.replicate (cap-s.size) (.int .u8 0)) 5 k)):=by
  intro k;refine h _ _ l (YB G) ⟨_,cap,by rw[g],λ_=>⟨_,rfl,z k⟩⟩ g λi F=>?_;have B:i<s.data.toList.length:=by simpa[l]using F
  unfold l7;rw[ZG B];simp[l]
 unfold markStringish shape freeze;simp only[Zf];refine⟨_,_,⟨f,Hp.aQ _ _ _⟩,?_⟩;simp only[Obj.nY,Zj];refine .inr ⟨_,⟨f,Hp.aQ _ _ _⟩,by decide,?_⟩;rw[Uy];exact q _
end
structure Pk where
 (nm:ByteArray) (lo hi jG jN:Int)
structure Nt where
 (A:Option Addr) (ps:List Int) (c:Nat) (lo hi:Int)
instance:Enc Pk:=⟨5,λp=>[.string p.nm,vi p.lo,vi p.hi,vi p.jG,vi p.jN],λ_=>rfl⟩
instance:Enc Nt:=⟨3,λn=>[.slice n.A n.ps.length n.c,vi n.lo,vi n.hi],λ_=>rfl⟩
structure Sb where
 (pl hd td:Int) (pk:List Pk) (nt:List Nt) (A1:Option Addr) (c1:Nat) (A2:Option Addr) (c2:Nat)
abbrev Sb.cs(b:Sb):List Value:=[vi b.pl,vi b.hd,vi b.td,.slice b.A1 b.pk.length b.c1,.slice b.A2 b.nt.length b.c2]
abbrev Sb.v(b:Sb):Value:=.agg #[vi b.pl,vi b.hd,vi b.td,.slice b.A1 b.pk.length b.c1,.slice b.A2 b.nt.length b.c2]
structure Zq(H:Hp)(b:Sb):Prop where
 pk:dF H (.slice b.A1 b.pk.length b.c1) b.pk
 nt:dF H (.slice b.A2 b.nt.length b.c2) b.nt
 ps:∀x∈b.nt,dF H (.slice x.A x.ps.length x.c) x.ps
 q1:b.pk.length<=b.c1
 q2:b.nt.length<=b.c2
structure Sb.Sz(b:Sb):Prop where
 pk:b.pk.length<=1000000
 nt:b.nt.length<=1000000
 ps:∀x∈b.nt,x.ps.length<=1000000
 nm:∀p∈b.pk,p.nm.size<=1000000
def Zq.inc{H:Hp}{b:Sb}(h:Zq H b)(i:fI H H'):Zq H' b:=⟨h.pk.inc i,h.nt.inc i,λx e=>(h.ps x e).inc i,h.q1,h.q2⟩
def Zq.sub{H:Hp}{b:Sb}(h:Zq H b)(i:H.Sub H'):Zq H' b:=h.inc i.inc
abbrev KE(p:Pk):Value:=.agg #[.string p.nm,vi p.lo,vi p.hi,vi p.jG,vi p.jN]
def Y1(b:Sb):Int:=if(1<=b.pl/\b.pl<=3)/\(1<=b.hd/\b.hd<=3)/\(0<=b.td/\b.td<=200)then 0 else 1
def vV(s:ByteArray)(i:Nat):Bool:=decide (97<=l7 s i/\l7 s i<=122) || (!decide (i=0) && decide (48<=l7 s i/\l7 s i<=57))
def tJ(s:ByteArray):Bool:=decide (1<=s.size/\s.size<=10) && (List.range s.size).all (vV s)
def xM(p:Pk):Bool:=decide (1<=p.lo/\p.lo<=p.hi/\p.hi<=20) && decide (p.hi-p.lo<3) && decide (1<=p.jG/\p.jG<=20) && decide (1<=p.jN/\p.jN<=20)
def VJ(pre:List Pk)(p:Pk):Int:=if tJ p.nm=false then 4 else if pre.any (λo=>o.nm.toList == p.nm.toList)then 5 else if xM p=false then 1 else 0
def sK(l:List Pk):Nat->Int
 | 0=>0
 | j+1=>if sK l j≠0 then sK l j else VJ (l.take j) (l.getD j ⟨⟨#[]⟩,0,0,0,0⟩)
def YD(b:Sb):Int:=if ¬ (1<=b.pk.length/\b.pk.length<=4)then 2 else sK b.pk b.pk.length
def pR(n:Nat)(l:List Int):Nat->Int
 | 0=>0
 | j+1=>if pR n l j≠0 then pR n l j else if ¬ (0<=l.getD j 0/\l.getD j 0<n)then 6 else if 0<j/\l.getD j 0<=l.getD (j-1) 0 then 7 else 0
def Vr(n:Nat)(x:Nt):Int:=if x.ps.length=0 then 2 else if pR n x.ps x.ps.length≠0 then pR n x.ps x.ps.length else if ¬ (0<=x.lo/\x.lo<=x.hi/\x.hi<=80)then 1 else 0
def uV(n:Nat):List Nt->Int
 | []=>0
 | x :: l=>if Vr n x≠0 then Vr n x else uV n l
def Y4(b:Sb):Int:=if 3<b.nt.length then 2 else uV b.pk.length b.nt
def ZN(b:Sb):Int:=if Y1 b≠0 then Y1 b else if YD b≠0 then YD b else Y4 b
def ZeX{l:List Pk}{j:Nat}(h:sK l j≠0):∀k,j<=k->sK l k=sK l j
 | 0,b=>by have:j=0:=O;rw[this]
 | k+1,b=>by
  by_cases e:j=k+1
  ·rw[e]
  have:=ZeX h k O;rw[sK,qAa (by rw[this];exact h),this]
def Lh{n:Nat}{l:List Int}{j:Nat}(h:pR n l j≠0):∀k,j<=k->pR n l k=pR n l j
 | 0,b=>by have:j=0:=O;rw[this]
 | k+1,b=>by
  by_cases e:j=k+1
  ·rw[e]
  have:=Lh h k O;rw[pR,qAa (by rw[this];exact h),this]
def Ia:Yw Tryz.prog 236=some (5,some (.agg #[.string ⟨#[]⟩,vi 0,vi 0,vi 0,vi 0]),48):=U
def JY:Yw Tryz.prog 137=some (3,some (.agg #[.slice none 0 0,vi 0,vi 0]),40):=U
def NJ:Tryz.prog.underlying 22=some (.slice 236):=U
def uB:Tryz.prog.underlying 23=some (.slice 137):=U
def ZgN{α:Type}[Enc α]{H:Hp}{l:List α}(h:dF H (.slice A n c) l)(j:i<=l.length):dF H (.slice A i c) (l.take i):=by obtain⟨o,p,e,b⟩:=h;simp only[Value.slice.injEq]at e;obtain⟨rfl,rfl,rfl⟩:=e;refine⟨A,c,by rw[qAs,qBX j],λk=>?_⟩;obtain⟨a,f,g⟩:=b (by rintro rfl;simp at k);refine⟨a,f,YN (ds:=Zd (l.drop i)) ?_⟩;rw[<-yX,qCq];exact g
def W9{s:Nat}:(if c=0 then A else A.map (·.add (0 * s)))=A:=by
 split
 ·rfl
 rw[qDg];cases A with
 | none=>rfl
 | some a=>exact qAx some (add_zero a)
def Yb(H:Hp):Prop:=aM H ⟨4,0,none⟩ [vf 408,vf 409,vf 410]
section
variable{P:fP}[Tz P][Loud P]{H:Hp}
def Uc(n e b:Int):LL.Zb P 261 #[vi n,vi e,vi b] H λv f=>H=f/\v=vb (decide (e<=n/\n<=b)):=by refine aU.m (fO ZxK) rfl ?_;unfold ZjS;exact LH
def ZeC(a b f e:Int):LL.Zb P 143 #[.agg #[vi a,vi b],vi f,vi e] H λv g=>H=g/\v=vb (decide (f<=a/\a<=b/\b<=e)):=by refine aU.m (fO Zym) rfl ?_;unfold Zku;exact TM
def ZfA{b:Sb}(n:Int)(f:b.pk.length<=1000000):LL.Zb P 202 #[b.v,vi n] H λv e=>H=e/\v=vb (decide (0<=n/\n<b.pk.length)):=by refine aU.m (fO Zx2) rfl ?_;unfold Zka Sb.v;refine Y ?_;refine Zo (Uc _ _ _) (Y ?_);exact⟨rfl,qAx vb (qCO.2 O)⟩
def ZnJ{b:Sb}:LL.Zb P 408 #[b.v] H λv e=>H=e/\v=vi (Y1 b):=by
 refine aU.m (fO Zxp) rfl ?_;unfold Zjx Sb.v;refine Y ?_;refine Zo (Uc _ _ _) ?_;refine OJ (λf=>?_) (λf=>?_)
 ·exact AW
 refine Y ?_;refine Zo (Uc _ _ _) ?_;refine OJ (λg=>?_) (λg=>?_)
 ·exact AW
 refine Y ?_;refine Zo (Uc _ _ _) ?_;refine OJ (λh=>?_) (λh=>?_)
 ·exact AW
 refine Y ?_;exact⟨rfl,by rw[Y1,qAa O];rfl⟩
def Zu4{s:ByteArray}(K:s.size<=1000000):LL.Zb P 411 #[.string s] H λv e=>H.Sub e/\v=vb (tJ s):=by
 refine aU.m (fO Zxm) rfl ?_;unfold Zju;refine Y ?_;refine Ztd rfl (OL _) λv p l k1 o G I=>Y ?_;refine YH o rfl (Y ?_);refine ZC s.size (λj e=>p=e/\(List.range j).all (vV s)=true) (λj=>[(0,.string s),(6,v),(7,vi s.size),(8,vi j)]) (λ_=>[]) ⟨rfl,rfl⟩ ⟨rfl,rfl,by rw[G];rfl,rfl,trivial⟩ trivial ?_;rintro j _ J ⟨rfl,b⟩;refine OJ (λq=>?_) (λq=>?_)
 ·have f:j<s.size:=O;have F:=I j O;have B:Enc.enc (l[j]'O)=[.int .u8 (l7 s j)]:=by show[Value.int .u8 (l[j]'O).v]=_;rw[F]
  have next:vV s j=true->(List.range (j+1)).all (vV s)=true:=λh=>by rw[qCZ,qBO,b];simp[h]
  have stop:vV s j=false->tJ s=false:=λh=>by
   have:(List.range s.size).all (vV s)=false:=by rw[qDq];exact⟨j,by simpa using f,by simp[h]⟩
   rw[tJ,this,Bool.and_false]
  refine Y ?_;refine ZB j o O λa g=>?_;rw[B]at g;refine Y ?_;refine Z8 g ?_;have C:0<=l7 s j:=by unfold l7;omega
  have D:l7 s j<256:=by unfold l7;have:=(s.data.toList.getD j 0).toNat_lt;omega
  unfold vV at next stop
  generalize l7 s j=x at *;have k:IntKind.i64.wrap x=x:=V8 ⟨O,O⟩;refine Y ?_;refine VC (fU Ik) (fU vD) rfl ?_;rw[k];refine Y ?_;refine Zg (Uc _ _ _) ?_;rintro w _ ⟨rfl,rfl⟩;refine OJ (λt=>?_) (λt=>?_)
  ·refine OJ (λh7=>?_) (λh7=>?_)
   ·refine Y ?_;exact⟨k1,by rw[stop (by simp;omega)];rfl⟩
   refine Y ?_;refine VC (fU Ik) (fU vD) rfl ?_;rw[k];refine Y ?_;refine Zg (Uc _ _ _) ?_;rintro w _ ⟨rfl,rfl⟩;refine OJ (λz=>?_) (λz=>?_)
   ·refine Y ?_;exact⟨k1,by rw[stop (by simp;omega)];rfl⟩
   exact HB
  exact HB
 refine Y ?_;refine yY rfl (Y ?_);refine Zg (Uc _ _ _) ?_;rintro w _ ⟨rfl,rfl⟩;refine Y ?_;have:j=s.size:=O;subst this;refine⟨k1,?_⟩;rw[tJ,b,Bool.and_true];exact qAx vb (qCO.2 O)
end
end
section
open Go.Conc Go.ConcM
variable{α:Type}
open YtmfealhfgccmfaaGreatDoor Go.ChangeShapes Go.WideShapes
instance Pr {α:Type}[Enc α]{Q:α->Prop}:Enc { x:α // Q x }:=⟨Enc.sz α,λx=>Enc.enc x.1,λx=>Enc.len x.1⟩
theorem Zv5[Enc α]{Q:α->Prop}(l:List { x:α // Q x }):Zd l=Zd (l.map (·.1)):=by unfold Zd;rw[qDX];rfl
def ZoT[Enc α]{Q:α->Prop}{b:Hp}{v:Value}{l:List { x:α // Q x }}(h:dF b v l):dF b v (l.map (·.1)):=by obtain⟨A,c,g,j⟩:=h;refine⟨A,c,by rw[qAd];exact g,λk=>?_⟩;obtain⟨a,e,f⟩:=j (by rintro rfl;simp at k);exact⟨a,e,by rw[<-Zv5];exact f⟩
def Zwx:Tryz.prog.cellsOf 9=1:=U
def Zwy:Tryz.prog.cellsOf 45=1:=U
def Zwz:Tryz.prog.cellsOf 25=5:=U
def ZmS:Tryz.prog.cellsOf 236=5:=U
def ZmR:Tryz.prog.cellsOf 137=3:=U
section
variable{H:Type}{enc:TypeId×Value->H}{W:World}{base:Nat}{sp:Nat->Bool}{held:Bool}{fuel:Nat}{cs:List Value}{y:DataW H×List MemPlace}{r:Reach}{b0:Nat}{v:Value}{d:DataW H}{ps:List MemPlace}
def ZoD(h:DataW.trod enc Tryz.prog W base sp held fuel 9 cs=some y):∃s:ByteArray,cs=[.string s]:=by obtain⟨s,h,_⟩:=DataW.trod_string Tryz.underlying9 h;exact⟨s,h⟩
def Kk{t e:TypeId}{A:Option Addr}{n c:Nat}(f:Tryz.prog.underlying t=some (.slice e))(h:DataW.trod enc Tryz.prog W base sp held fuel t [.slice A n c]=some y):n<=c:=by
 rcases DataW.trod_slice f h with⟨e,_⟩ | ⟨a,len,cap,b,rest,q,_,e,_,_,g,_⟩
 ·simp only[qBg,Value.slice.injEq,qCw]at e;omega
 simp only[qBg,Value.slice.injEq,qCw]at e;omega
def ZsK(h:DataW.trod enc Tryz.prog W base sp held fuel 236 cs=some y):∃x:Pk,cs=Enc.enc x:=by
 obtain⟨xs,n,rfl,_,D,t,q⟩:=DataW.trod_struct Tryz.underlying236 h;rw[ZmS]at D;obtain⟨L,F⟩:=VI (xs:=xs) (i:=0) (by rw[t];decide);obtain⟨M,G⟩:=VI (xs:=xs) (i:=1) (by rw[t];decide);obtain⟨N,I⟩:=VI (xs:=xs) (i:=2) (by rw[t];decide);obtain⟨O,J⟩:=VI (xs:=xs) (i:=3) (by rw[t];decide);have z:DataW.trod enc Tryz.prog W base sp held n 9 ((cs.drop 0).take (Tryz.prog.cellsOf 9))=xs[0]?:=q 0 _ rfl;have B:DataW.trod enc Tryz.prog W base sp held n 31 ((cs.drop 1).take (Tryz.prog.cellsOf 31))=xs[1]?:=q 1 _ rfl;have C:DataW.trod enc Tryz.prog W base sp held n 3 ((cs.drop 3).take (Tryz.prog.cellsOf 3))=xs[2]?:=q 2 _ rfl;have f3:DataW.trod enc Tryz.prog W base sp held n 3 ((cs.drop 4).take (Tryz.prog.cellsOf 3))=xs[3]?:=q 3 _ rfl;rw[F]at z;rw[G]at B;rw[I]at C;rw[J]at f3;obtain⟨s,j⟩:=ZoD z;obtain⟨c,e,hb⟩:=CC B;obtain⟨g,o⟩:=OO C;obtain⟨k,p⟩:=OO f3;rw[Zwx]at j;rw[CD]at hb;rw[u4]at o p;have j:=UD j;have o:=UD o;have p:=UD p;have b:=qAx (·[0]?) hb;have f:=qAx (·[1]?) hb;simp[qBv,qBq]at b f;refine⟨⟨s,c,e,g,k⟩,u6 D λi K=>?_⟩;match i,K with
 | 0,_=>exact j
 | 1,_=>exact b
 | 2,_=>exact f
 | 3,_=>exact o
 | 4,_=>exact p
def ZtU(h:DataW.trod enc Tryz.prog W base sp held fuel 137 cs=some y):∃x:{ x:Nt // dF (oX W) (.slice x.A x.ps.length x.c) x.ps },cs=Enc.enc x:=by
 obtain⟨xs,n,rfl,_,t,z,p⟩:=DataW.trod_struct Tryz.underlying137 h;rw[ZmR]at t;obtain⟨G,B⟩:=VI (xs:=xs) (i:=0) (by rw[z];decide);obtain⟨I,C⟩:=VI (xs:=xs) (i:=1) (by rw[z];decide);have k:DataW.trod enc Tryz.prog W base sp held n 45 ((cs.drop 0).take (Tryz.prog.cellsOf 45))=xs[0]?:=p 0 _ rfl;have o:DataW.trod enc Tryz.prog W base sp held n 31 ((cs.drop 1).take (Tryz.prog.cellsOf 31))=xs[1]?:=p 1 _ rfl;rw[B]at k;rw[C]at o;obtain⟨v,g,l,F⟩:=yB (α:=Int) jR u4 (by decide) (λh=>by obtain⟨n,rfl⟩:=OO h;exact⟨n,rfl⟩) k;obtain⟨c,e,hb⟩:=CC o;obtain⟨A,q,rfl,j⟩:=F;rw[Zwy]at g;rw[CD]at hb;have g:=UD g;have b:=qAx (·[0]?) hb;have f:=qAx (·[1]?) hb;simp[qBv,qBq]at b f;refine⟨⟨⟨A,l,q,c,e⟩,⟨A,q,rfl,j⟩⟩,u6 t λi D=>?_⟩;match i,D with
 | 0,_=>exact g
 | 1,_=>exact b
 | 2,_=>exact f
theorem Zo8(h:DataW.trod enc Tryz.prog W base sp held fuel 25 cs=some y):∃b:Sb,Value.agg cs.toArray=b.v/\Zq (oX W) b:=by
 obtain⟨xs,n,rfl,_,F,e,j⟩:=DataW.trod_struct Tryz.underlying25 h;rw[Zwz]at F;obtain⟨X,K⟩:=VI (xs:=xs) (i:=0) (by rw[e];decide);obtain⟨Y,L⟩:=VI (xs:=xs) (i:=1) (by rw[e];decide);obtain⟨Z,M⟩:=VI (xs:=xs) (i:=2) (by rw[e];decide);obtain⟨y3,N⟩:=VI (xs:=xs) (i:=3) (by rw[e];decide);obtain⟨y4,O⟩:=VI (xs:=xs) (i:=4) (by rw[e];decide);have B:DataW.trod enc Tryz.prog W base sp held n 3 ((cs.drop 0).take (Tryz.prog.cellsOf 3))=xs[0]?:=j 0 _ rfl;have C:DataW.trod enc Tryz.prog W base sp held n 3 ((cs.drop 1).take (Tryz.prog.cellsOf 3))=xs[1]?:=j 1 _ rfl;have D:DataW.trod enc Tryz.prog W base sp held n 3 ((cs.drop 2).take (Tryz.prog.cellsOf 3))=xs[2]?:=j 2 _ rfl;have f3:DataW.trod enc Tryz.prog W base sp held n 22 ((cs.drop 3).take (Tryz.prog.cellsOf 22))=xs[3]?:=j 3 _ rfl;have f4:DataW.trod enc Tryz.prog W base sp held n 23 ((cs.drop 4).take (Tryz.prog.cellsOf 23))=xs[4]?:=j 4 _ rfl;rw[K]at B;rw[L]at C;rw[M]at D;rw[N]at f3;rw[O]at f4;obtain⟨a,k⟩:=OO B;obtain⟨b,hb⟩:=OO C;obtain⟨c,o⟩:=OO D;obtain⟨U,f,G,J⟩:=yB (α:=Pk) NJ ZmS (by decide) (λh=>ZsK h) f3;obtain⟨V,g,I,p⟩:=yB (α:={ x:Nt // dF (oX W) (.slice x.A x.ps.length x.c) x.ps }) uB ZmR (show 0<3 by decide) (λh=>ZtU h) f4;have p:=ZoT p;obtain⟨q,c1,rfl,_⟩:=id J;obtain⟨t,c2,rfl,_⟩:=id p;rw[f]at f3;rw[g]at f4;have R:=Kk NJ f3;have S:=Kk uB f4;rw[u4]at k hb o;rw[ZwD]at f;rw[ZwC]at g;have k:=UD k;have hb:=UD hb;have o:=UD o;have f:=UD f;have g:=UD g;refine⟨⟨a,b,c,G,I.map (·.1),q,c1,t,c2⟩,?_,J,p,λx e=>?_,R,S⟩
 ·have:cs=[vi a,vi b,vi c,.slice q G.length c1,.slice t (I.map (·.1)).length c2]:=u6 F λi Q=>by
   match i,Q with
   | 0,_=>exact k
   | 1,_=>exact hb
   | 2,_=>exact o
   | 3,_=>exact f
   | 4,_=>exact g
  rw[this]
 obtain⟨z,_,rfl⟩:=qAy.1 e;exact z.2
def sD(e:Value.okWide Tryz.prog W r b0 25 v)(h:DataW.Trod enc Tryz.prog W base sp held 25 v d ps):∃b:Sb,v=b.v/\Zq (oX W) b:=by obtain⟨fuel,j⟩:=h;obtain⟨c,rfl⟩:=L6 Tryz.underlying25 e;obtain⟨b,f,g⟩:=Zo8 j;exact⟨b,by rw[<-f];simp[Value.cells],g⟩
end
end
def x9(v:Value)(F:Prop):Prop:=∃s:Int,v=vi s/\(s=0↔F)
def x9.no{n:Int}{F:Prop}(b:n≠0)(h:¬ F):x9 (vi n) F:=⟨n,rfl,λe=>absurd e b,λe=>absurd e h⟩
variable{fv v:Value}
section
variable{P:fP}[Tz P][Loud P]{H:Hp}
def ZzT{l:List Pk}{f:Pk->Bool}(hf:∀x∈l,Z5 P fv #[KE x] H λv H'=>H=H'/\v=vb (f x))(hl:dF H v l)(b:l.length<=1000000) :
  LL.Zb P 414 #[v,fv] H λv H'=>H=H'/\∃r:Int,v=vi r/\(0<=r↔l.any f=true):=by
 refine aU.m (fO Zxj) rfl ?_;unfold Zjr;exact gq6
def Zz6{l:List Pk}{f:Pk->Bool}(e:∀x∈l,Z5 P fv #[KE x] H λv b=>H=b/\v=vb (f x))(g:dF H v l)(h:l.length<=1000000) :
  LL.Zb P 412 #[v,fv] H λv b=>H=b/\v=vb (l.any f):=by
 refine aU.m (fO Zxl) rfl ?_;unfold Zjt;refine Y ?_;refine Z7 (vs:=[v,fv]) rfl (ZzT e g h) ?_;exact TT
def ZsL{q x:Pk}{r:Nat}(h:aM H ⟨r,0,none⟩ [.string x.nm,vi x.lo,vi x.hi,vi x.jG,vi x.jN]):LL.Zb P 413 #[KE q,.pointer (some ⟨r,0,none⟩)] H λv b=>H=b/\v=vb (q.nm.toList == x.nm.toList):=by refine aU.m (fO Zxk) rfl ?_;unfold Zjs;refine Y ?_;refine Zh (OL _) rfl (by rw[add_zero];exact YN (cs:=[.string x.nm]) (ds:=[vi x.lo,vi x.hi,vi x.jG,vi x.jN]) h) (Y ?_);refine L8 rfl rfl (Y ?_);exact⟨rfl,rfl⟩
def ZsH{b:Sb}(hb:Zq H b)(N:b.Sz):LL.Zb P 409 #[b.v] H λv D=>fI H D/\v=vi (YD b):=by
 have hn:=N.pk;refine aU.m (fO Zxo) rfl ?_;unfold Zjw Sb.v;refine Y ?_;refine Zo (Uc _ _ _) ?_;refine OJ (λQ=>?_) (λQ=>?_)
 ·refine Y ?_;exact⟨.refl _,by rw[YD,qAa O];rfl⟩
 refine Y ?_;refine ZC b.pk.length (λj D=>fI H D/\sK b.pk j=0) (λj=>[(1,vi 0),(13,.slice b.A1 b.pk.length b.c1),(14,vi b.pk.length),(15,vi j)]) (λ_=>[(1,b.cs)]) ⟨.refl _,rfl⟩ V V ?_;rintro j L hj ⟨I,hk⟩;refine OJ (λR=>?_) (λR=>?_)
 ·have t:j<b.pk.length:=O;have hg:b.pk.getD j ⟨⟨#[]⟩,0,0,0,0⟩=b.pk[j]:=ZG t _;have stop:VJ (b.pk.take j) b.pk[j]≠0->YD b=VJ (b.pk.take j) b.pk[j]:=λh=>by exact TB
  have next:VJ (b.pk.take j) b.pk[j]=0->sK b.pk (j+1)=0:=λh=>by rw[sK,iF (by rw[hk];simp),hg];exact h
  have G:=N.nm b.pk[j] (iN t);refine Y ?_;refine ZB j (hb.pk.inc I) t λa ha=>?_;generalize b.pk[j]=x at *;refine Y ?_;refine YL (cs:=[.string x.nm,vi x.lo,vi x.hi,vi x.jG,vi x.jN]) ha (Y ?_);refine VY (fT Ia) (OL _) λr hr=>Y ?_;refine yU (v:=KE x) (fT Ia) (cs:=[.string ⟨#[]⟩,vi 0,vi 0,vi 0,vi 0]) rfl rfl (Hp.aQ _ _ _) rfl rfl rfl (OL _) ?_;rw[Uy];have i2:=Zt (o:=.cells (KE x).cells 236) hr;have M:aM (L.ins r (.cells (KE x).cells 236)) ⟨r,0,none⟩ [.string x.nm,vi x.lo,vi x.hi,vi x.jG,vi x.jN]:=VR;have J:=I.trans i2;generalize L.ins r (.cells (KE x).cells 236)=H2 at *;refine Y ?_;refine Zh (OL _) rfl (by rw[add_zero];exact YN (cs:=[.string x.nm]) (ds:=[vi x.lo,vi x.hi,vi x.jG,vi x.jN]) M) (Y ?_);refine Zg (Zu4 G) ?_;rintro v H3 ⟨C,rfl⟩;have C:=C.inc;have z:=M.inc C;have yQ:=J.trans C;unfold VJ at stop next
  cases B:tJ x.nm with
  | false=>
   rw[B]at stop;refine Y ?_;exact⟨yQ,by rw[stop (by simp)];rfl⟩
  | true=>
  rw[B]at stop next
  simp only[Bool.true_eq_false,qAq]at stop next
  refine Y ?_;refine PC (lo:=0) (hi:=j) (k:=.i64) (fU NJ) (fT Ia) rfl (.inl ⟨rfl,rfl⟩) ⟨_,rfl,rfl⟩ O (by have:=hb.q1;omega) ?_;rw[W9,qBl,qBl];refine Y ?_;refine VW rfl rfl (Y ?_);refine Zo (Zz6 (f:=λo=>o.nm.toList == x.nm.toList) (λq _=>Yv U (ZsL z)) (ZgN (hb.pk.inc yQ) O) (by rw[qAs];omega)) ?_;cases hag:(b.pk.take j).any (λo=>o.nm.toList == x.nm.toList)with
  | true=>
   rw[hag]at stop;refine Y ?_;exact⟨yQ,by rw[stop (by simp)];rfl⟩
  | false=>
  rw[hag]at stop next
  simp only[oR,qAq]at stop next
  unfold xM at stop next
  refine Y ?_;refine Zn (cs:=[vi x.lo,vi x.hi]) (OL _) rfl (YN (ds:=[vi x.jG,vi x.jN]) (mG (n:=1) z rfl)) rfl (Y ?_);refine Zo (ZeC _ _ _ _) ?_;have vX:¬ (xM x=true)->YD b=1:=λh=>by
   have F:xM x=false:=by simpa using h
   unfold xM at F;rw[stop (by rw[qAa F];simp),qAa F]
  refine OJ (λS=>?_) (λS=>?_)
  ·exact D2
  refine Y ?_;refine Zh (OL _) rfl (YN (cs:=[vi x.hi]) (ds:=[vi x.jG,vi x.jN]) (mG (n:=1) (mG (n:=1) z rfl) rfl)) (Y ?_);refine Zh (OL _) rfl (by rw[add_zero];exact YN (cs:=[vi x.lo]) (ds:=[vi x.hi,vi x.jG,vi x.jN]) (mG (n:=1) z rfl)) ?_;refine OJ (λX=>?_) (λX=>?_)
  ·exact D2
  refine Y ?_;refine Zh (OL _) rfl (YN (cs:=[vi x.jG]) (ds:=[vi x.jN]) (mG (n:=3) z rfl)) (Y ?_);refine Zo (Uc _ _ _) ?_;refine OJ (λZ=>?_) (λZ=>?_)
  ·exact D2
  refine Y ?_;refine Zh (OL _) rfl (mG (n:=4) z rfl) (Y ?_);refine Zo (Uc _ _ _) ?_;refine OJ (λh5=>?_) (λh5=>?_)
  ·exact D2
  refine Y ?_;exact⟨⟨j+1,O⟩,gI O,⟨yQ,next (by rw[iF (by simp;omega)])⟩,V,V,rfl⟩
 have:j=b.pk.length:=O;subst this;refine Y ?_;exact⟨I,by rw[YD,iF O,hk];rfl⟩
end
