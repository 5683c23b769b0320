import Derived.Test.YtlhomfgcibjccaaGreatDoorP26
import Derived.Test.YtlhomfgcibjccaaGreatDoorP27
set_option linter.all false
set_option maxHeartbeats 8000000
set_option maxRecDepth 100000
open Go Go.LL
namespace Go.Proofs
def ZiY{α:Type}[DecidableEq α]:∀{l m:List α},l.Nodup->(∀x∈l,x∈m)->l.length<=m.length
 | [],_,_,_=>qAI _
 | a :: l,m,j,e=>by obtain⟨g,h⟩:=qCO.1 j;have b:=e a (qBv ..);have:=ZiY (l:=l) (m:=m.erase a) h λx f=>(List.mem_erase_of_ne (by rintro rfl;exact g f)).2 (e x (qAP _ f));rw[List.length_erase_of_mem b]at this;have:=List.length_pos_of_mem b;rw[qAs];omega
section
variable{l:List Int}{n i c:Nat}{H':Hp}{A:Option Addr}
def Hx{lo:Int}{k:Nat}(h:l.Pairwise (·<·))(a:∀z∈l,lo<=z/\z<lo+k):l.length<=k:=by
 have b:∀z∈l,z∈(List.range k).map λ(i:Nat)=>lo+(i:Int):=λz f=>by have:=a z f;exact qAB.2 ⟨(z-lo).toNat,qAl.2 O,O⟩
 have:=ZiY (l:=l) (h.imp λh e=>by subst e;omega) b;rwa [qAh,qBF]at this
def oV(n:Nat)(l:List Int):Prop:=l.Pairwise (·<·)/\∀z∈l,0<=z/\z<n
def uD(h:oV n l):l.length<=n:=Hx (lo:=0) h.1 λz a=>by have:=h.2 z a;omega
def sF(s:ByteArray)(i:Nat):Int:=((s.data.toList.getD i 0).toNat:Int)
structure U8 where
 v:Int
 lo:0<=v
 hi:v<256
instance:Enc U8:=⟨1,λu=>[.int .u8 u.v],λ_=>rfl⟩
def Bu:Tryz.prog.underlying 9=some .string:=U
def ZnT:Tryz.prog.underlying 302=some (.slice 5):=U
def Bv:Tryz.prog.underlying 5=some (.int .u8):=U
section
variable{P:aX}[Tz P]{H:Hp}{d:Option Nat}{next:aM->Hp->Prop}{σ:aM}{x y:Operand}{ty t2:TypeId}{s u:ByteArray}
def QS(e:σ.get x=some (.string s))(h:next (σ.set d (vi s.size)) H):(bE.raw (.call { callee:=.builtin .len,args:=#[x],argTypes:=#[9] }) ty).m P d next σ H:=by refine YS (s:=Builtin.len_ #[9] ty #[.string s]) (by simp[Op.operands,Call.operands,e]) (by simp[execOp,aR,resolve,invoke,builtin,e]) ?_;simp only[Builtin.len_,qAH,qAV,Zg,Zw (bI (P:=P) Bu),Zj,goInt];exact h
def ZiM(a:σ.get x=some (.string s))(b:σ.get y=some (.string u))(h:next (σ.set d (vb (s.toList == u.toList))) H):(bE.bU (.binOp .eql 9 x y t2) ty).m P d next σ H:=by
 refine Vd (by simp[Op.operands,a,b]) ?_ h;have:execOp (λx=>(σ.get x).getD undef) (aR (.binOp .eql 9 x y t2) ty)=(do let v <-(do eqGuard .eql 9 x y (.string s) (.string u);binOp .eql 9 (.string s) (.string u));pure (.value v)):=by simp[execOp,aR,a,b]
 rw[this];refine Uq λQ g H e=>?_;simp only[eqGuard,Zg,Zj];exact e
def W5{k:IntKind}(a:σ.get x=some (.string s))(b:σ.get y=some (.int k (i:Int)))(f:i<s.size)(h:next (σ.set d (.int .u8 (sF s i))) H):(bE.raw (.index 9 x y) ty).m P d next σ H:=by
 refine YS (s:=Instr.index 9 (.string s) (.int k (i:Int))) (by simp[Op.operands,a,b]) (by simp[execOp,aR,a,b]) ?_;have e:s[(i:Int).toNat]? = some (s[i]):=by rw[qAD];exact getElem?_pos s i f
 have g:sF s i=(s[i].toNat:Int):=by unfold sF;rw[ZD (by simpa using f)];rfl
 simp only[Instr.index,asIntOf,Zg,Zw (bI (P:=P) Bu),Zj,iF (show(0:Int)<=(i:Int)by omega),e];rw[<-g];exact h
def ZsS(e:σ.get x=some (.string s))(a:P.still H.gh=false)(h:∀v H' (l:List U8),H.Sub H'->aF H' v l->l.length=s.size->(∀i (C:i<l.length),l[i].v=sF s i)->next (σ.set d v) H'):(bE.raw (.convert 9 302 x) ty).m P d next σ H:=by
 refine YS (s:=convert 9 302 (.string s)) (by simp[Op.operands,e]) (by simp[execOp,aR,e]) ?_;simp only[convert,Zg,Zw (bI (P:=P) Bu),Zw (bI (P:=P) ZnT),Zw (bI (P:=P) Bv),Conv.stringToBytes,choose];rw[bL];simp only[Question.forced,DO,qAw];refine⟨a,λt=>?_⟩;have k:s.size<=(Question.appendCap s.size 0 5).cut t:=by simp only[Question.cut];omega
 generalize(Question.appendCap s.size 0 5).cut t=cap at k;simp only[newRow,newObj,Zg,Zj];refine⟨a,λr D=>?_⟩;let l:List U8:=s.data.toList.map λb=>⟨(b.toNat:Int),O,by have:=b.toNat_lt;omega⟩
 have f:l.length=s.size:=by simp[l]
 have o:Zb l=s.data.toList.map λb=>Value.int .u8 (b.toNat:Int):=by
  simp only[Zb,l,List.flatMap_map];show s.data.toList.flatMap (λb=>[Value.int .u8 (b.toNat:Int)])=_;induction s.data.toList with
  | nil=>rfl
  | cons b m ih=>rw[qAM,ih];rfl
 have q:∀g,aC (H.ins r (.cells ((s.data.map λb=>Value.int .u8 (b.toNat:Int))++Array.replicate (cap-s.size) (.int .u8 0)) 5 g)) ⟨r,0,none⟩ (Zb l):=by intro g;refine⟨rfl,_,_,Hp.aG _ _ _,λj z=>?_⟩;rw[o]at z ⊢;rw[qAh]at z;show((s.data.map λb=>Value.int .u8 (b.toNat:Int))++Array.replicate (cap-s.size) (.int .u8 0))[0+j]? = _;rw[qAE,Array.getElem?_append_left (by simpa using z),qCm,qEd];simp
 have p:∀g,next (σ.set d (.slice (some ⟨r,0,none⟩) s.size cap)) (H.ins r (.cells ((s.data.map λb=>Value.int .u8 (b.toNat:Int))++Array.replicate (cap-s.size) (.int .u8 0)) 5 g)):=by
  intro g;refine h _ _ l (Yf D) ⟨_,cap,by rw[f],λ_=>⟨_,rfl,q g⟩⟩ f λi C=>?_;have w:i<s.data.toList.length:=by simpa[l]using C
  unfold sF;rw[ZD w];simp[l]
 unfold markStringish shape freeze;simp only[Zg];refine⟨_,_,⟨a,Hp.aG _ _ _⟩,?_⟩;simp only[Obj.oK,Zj];refine .inr ⟨_,⟨a,Hp.aG _ _ _⟩,by decide,?_⟩;rw[Us];exact p _
end
structure Pk where
 (nm:ByteArray) (lo hi bF bJ:Int)
structure Nt where
 (A:Option Addr) (ps:List Int) (c:Nat) (lo hi:Int)
instance:Enc Pk:=⟨5,λp=>[.string p.nm,vi p.lo,vi p.hi,vi p.bF,vi p.bJ],λ_=>rfl⟩
instance:Enc Nt:=⟨3,λn=>[.slice n.A n.ps.length n.c,vi n.lo,vi n.hi],λ_=>rfl⟩
structure Sb where
 (pl hd td:Int) (pk:List Pk) (nt:List Nt) (A1:Option Addr) (c1:Nat) (A2:Option Addr) (c2:Nat)
abbrev Sb.cs(b:Sb):List Value:=[vi b.pl,vi b.hd,vi b.td,.slice b.A1 b.pk.length b.c1,.slice b.A2 b.nt.length b.c2]
abbrev Sb.v(b:Sb):Value:=.agg #[vi b.pl,vi b.hd,vi b.td,.slice b.A1 b.pk.length b.c1,.slice b.A2 b.nt.length b.c2]
structure Zr(H:Hp)(b:Sb):Prop where
 pk:aF H (.slice b.A1 b.pk.length b.c1) b.pk
 nt:aF H (.slice b.A2 b.nt.length b.c2) b.nt
 ps:∀x∈b.nt,aF H (.slice x.A x.ps.length x.c) x.ps
 q1:b.pk.length<=b.c1
 q2:b.nt.length<=b.c2
structure Sb.Sz(b:Sb):Prop where
 pk:b.pk.length<=1000000
 nt:b.nt.length<=1000000
 ps:∀x∈b.nt,x.ps.length<=1000000
 nm:∀p∈b.pk,p.nm.size<=1000000
def Zr.inc{H:Hp}{b:Sb}(h:Zr H b)(i:aL H H'):Zr H' b:=⟨h.pk.inc i,h.nt.inc i,λx a=>(h.ps x a).inc i,h.q1,h.q2⟩
def Zr.sub{H:Hp}{b:Sb}(h:Zr H b)(i:H.Sub H'):Zr H' b:=h.inc i.inc
abbrev E9(p:Pk):Value:=.agg #[.string p.nm,vi p.lo,vi p.hi,vi p.bF,vi p.bJ]
def YQ(b:Sb):Int:=if(1<=b.pl/\b.pl<=3)/\(1<=b.hd/\b.hd<=3)/\(0<=b.td/\b.td<=200)then 0 else 1
def wV(s:ByteArray)(i:Nat):Bool:=decide (97<=sF s i/\sF s i<=122) || (!decide (i=0) && decide (48<=sF s i/\sF s i<=57))
def uO(s:ByteArray):Bool:=decide (1<=s.size/\s.size<=10) && (List.range s.size).all (wV s)
def rY(p:Pk):Bool:=decide (1<=p.lo/\p.lo<=p.hi/\p.hi<=20) && decide (p.hi-p.lo<3) && decide (1<=p.bF/\p.bF<=20) && decide (1<=p.bJ/\p.bJ<=20)
def VC(pre:List Pk)(p:Pk):Int:=if uO p.nm=false then 4 else if pre.any (λo=>o.nm.toList == p.nm.toList)then 5 else if rY p=false then 1 else 0
def qB(l:List Pk):Nat->Int
 | 0=>0
 | j+1=>if qB l j≠0 then qB l j else VC (l.take j) (l.getD j ⟨⟨#[]⟩,0,0,0,0⟩)
def Yr(b:Sb):Int:=if ¬ (1<=b.pk.length/\b.pk.length<=4)then 2 else qB b.pk b.pk.length
def n9(n:Nat)(l:List Int):Nat->Int
 | 0=>0
 | j+1=>if n9 n l j≠0 then n9 n l j else if ¬ (0<=l.getD j 0/\l.getD j 0<n)then 6 else if 0<j/\l.getD j 0<=l.getD (j-1) 0 then 7 else 0
def Vf(n:Nat)(x:Nt):Int:=if x.ps.length=0 then 2 else if n9 n x.ps x.ps.length≠0 then n9 n x.ps x.ps.length else if ¬ (0<=x.lo/\x.lo<=x.hi/\x.hi<=80)then 1 else 0
def vC(n:Nat):List Nt->Int
 | []=>0
 | x :: l=>if Vf n x≠0 then Vf n x else vC n l
def YU(b:Sb):Int:=if 3<b.nt.length then 2 else vC b.pk.length b.nt
def ZF(b:Sb):Int:=if YQ b≠0 then YQ b else if Yr b≠0 then Yr b else YU b
def Jw{l:List Pk}{j:Nat}(h:qB l j≠0):∀k,j<=k->qB l k=qB l j
 | 0,a=>by have:j=0:=O;rw[this]
 | k+1,a=>by
  by_cases e:j=k+1
  ·rw[e]
  have:=Jw h k O;rw[qB,iF (by rw[this];exact h),this]
def Ae{n:Nat}{l:List Int}{j:Nat}(h:n9 n l j≠0):∀k,j<=k->n9 n l k=n9 n l j
 | 0,a=>by have:j=0:=O;rw[this]
 | k+1,a=>by
  by_cases e:j=k+1
  ·rw[e]
  have:=Ae h k O;rw[n9,iF (by rw[this];exact h),this]
def zB:Yl Tryz.prog 50=some (5,some (.agg #[.string ⟨#[]⟩,vi 0,vi 0,vi 0,vi 0]),48):=U
def C4:Yl Tryz.prog 85=some (3,some (.agg #[.slice none 0 0,vi 0,vi 0]),40):=U
def wE:Tryz.prog.underlying 22=some (.slice 50):=U
def qO:Tryz.prog.underlying 23=some (.slice 85):=U
def P0{α:Type}[Enc α]{H:Hp}{l:List α}(h:aF H (.slice A n c) l)(j:i<=l.length):aF H (.slice A i c) (l.take i):=by obtain⟨m,o,e,b⟩:=h;simp only[Value.slice.injEq]at e;obtain⟨rfl,rfl,rfl⟩:=e;refine⟨A,c,by rw[qAj,qCr j],λk=>?_⟩;obtain⟨a,f,g⟩:=b (by rintro rfl;simp at k);refine⟨a,f,YN (ds:=Zb (l.drop i)) ?_⟩;rw[<-IK,qCw];exact g
def PY{s:Nat}:(if c=0 then A else A.map (·.add (0 * s)))=A:=by
 split
 ·rfl
 rw[qDm];cases A with
 | none=>rfl
 | some a=>exact qBc some (add_zero a)
def Yk(H:Hp):Prop:=aC H ⟨0,0,none⟩ [vf 277,vf 278,vf 279]
section
variable{P:aX}[Tz P][Loud P]{H:Hp}
def V6(n b a:Int):LL.Zc P 168 #[vi n,vi b,vi a] H λv f=>H=f/\v=vb (decide (b<=n/\n<=a)):=by refine aJ.m (bG ZwL) (args:=[vi n,vi b,vi a]) rfl ?_;unfold Zj8;refine OJ (λe=>?_) (λe=>?_)<;>refine Y ?_<;>exact⟨rfl,by simp[Y5,e]⟩
def Me(a b g f:Int):LL.Zc P 106 #[.agg #[vi a,vi b],vi g,vi f] H λv j=>H=j/\v=vb (decide (g<=a/\a<=b/\b<=f)):=by refine aJ.m (bG Zxn) (args:=[.agg #[vi a,vi b],vi g,vi f]) rfl ?_;unfold ZkK;refine OJ (λe=>?_) (λe=>?_)<;>refine Y ?_;refine OI (λh=>?_) (λh=>?_)<;>refine Y ?_<;>exact⟨rfl,by simp[Y5,e,h]⟩;exact⟨rfl,by simp[Y5,e]⟩
def Kk{b:Sb}(n:Int)(e:b.pk.length<=1000000):LL.Zc P 139 #[b.v,vi n] H λv a=>H=a/\v=vb (decide (0<=n/\n<b.pk.length)):=by refine aJ.m (bG Zw3) (args:=[b.v,vi n]) rfl ?_;unfold Zkq Sb.v;refine Y ?_;refine Za [vi n,vi 0,vi (b.pk.length-1)] (V6 _ _ _) ?_;rintro v _ ⟨rfl,rfl⟩;refine Y ?_;exact⟨rfl,qBc vb (qBk.2 O)⟩
def ZnB{b:Sb}:LL.Zc P 277 #[b.v] H λv a=>H=a/\v=vi (YQ b):=by
 refine aJ.m (bG Zwq) (args:=[b.v]) rfl ?_;unfold ZjN Sb.v;refine Y ?_;refine Za [vi b.pl,vi 1,vi 3] (V6 _ _ _) ?_;rintro v _ ⟨rfl,rfl⟩;refine OJ (λe=>?_) (λe=>?_)
 ·refine Y ?_;exact⟨rfl,by rw[YQ,aT O];rfl⟩
 refine Y ?_;refine Za [vi b.hd,vi 1,vi 3] (V6 _ _ _) ?_;rintro v _ ⟨rfl,rfl⟩;refine OJ (λf=>?_) (λf=>?_)
 ·refine Y ?_;exact⟨rfl,by rw[YQ,aT O];rfl⟩
 refine Y ?_;refine Za [vi b.td,vi 0,vi 200] (V6 _ _ _) ?_;rintro v _ ⟨rfl,rfl⟩;refine OJ (λg=>?_) (λg=>?_)
 ·refine Y ?_;exact⟨rfl,by rw[YQ,aT O];rfl⟩
 refine Y ?_;exact⟨rfl,by rw[YQ,iF O];rfl⟩
def Zuf{s:ByteArray}(K:s.size<=1000000):LL.Zc P 280 #[.string s] H λv e=>H.Sub e/\v=vb (uO s):=by
 refine aJ.m (bG Zwn) (args:=[.string s]) rfl ?_;unfold ZjK;refine Y ?_;refine ZsS rfl (OL _) λv p l k1 o G I=>Y ?_;refine YE o rfl (Y ?_);refine Zv s.size (λj e=>p=e/\(List.range j).all (wV s)=true) (λj=>[(0,.string s),(6,v),(7,vi s.size),(8,vi j)]) (λ_=>[]) ⟨rfl,rfl⟩ ⟨rfl,rfl,by rw[G];rfl,rfl,trivial⟩ trivial ?_;rintro j _ J ⟨rfl,b⟩;refine OJ (λq=>?_) (λq=>?_)
 ·have f:j<s.size:=O;have F:=I j O;have C:Enc.enc (l[j]'O)=[.int .u8 (sF s j)]:=by show[Value.int .u8 (l[j]'O).v]=_;rw[F]
  have next:wV s j=true->(List.range (j+1)).all (wV s)=true:=λh=>by rw[qBs,qDQ,b];simp[h]
  have stop:wV s j=false->uO s=false:=λh=>by
   have:(List.range s.size).all (wV s)=false:=by rw[List.all_eq_false];exact⟨j,by simpa using f,by simp[h]⟩
   rw[uO,this,Bool.and_false]
  refine Y ?_;refine Zz j o O λa g=>?_;rw[C]at g;refine Y ?_;refine Ya g ?_;have D:0<=sF s j:=by unfold sF;omega
  have E:sF s j<256:=by unfold sF;have:=(s.data.toList.getD j 0).toNat_lt;omega
  unfold wV at next stop
  generalize sF s j=x at *;have k:IntKind.i64.wrap x=x:=Uk ⟨O,O⟩;refine Y ?_;refine Vs (bI Bv) (bI uZ) rfl ?_;rw[k];refine Y ?_;refine Za [vi x,vi 97,vi 122] (V6 _ _ _) ?_;rintro w _ ⟨rfl,rfl⟩;refine OJ (λt=>?_) (λt=>?_)
  ·refine OJ (λz=>?_) (λz=>?_)
   ·refine Y ?_;exact⟨k1,by rw[stop (by simp;omega)];rfl⟩
   refine Y ?_;refine Vs (bI Bv) (bI uZ) rfl ?_;rw[k];refine Y ?_;refine Za [vi x,vi 48,vi 57] (V6 _ _ _) ?_;rintro w _ ⟨rfl,rfl⟩;refine OJ (λB=>?_) (λB=>?_)
   ·refine Y ?_;exact⟨k1,by rw[stop (by simp;omega)];rfl⟩
   refine Y ?_;exact⟨⟨j+1,O⟩,bN O,⟨rfl,next (by simp;omega)⟩,V,trivial,rfl⟩
  refine Y ?_;exact⟨⟨j+1,O⟩,bN O,⟨rfl,next (by simp;omega)⟩,V,trivial,rfl⟩
 refine Y ?_;refine QS rfl (Y ?_);refine Za [vi s.size,vi 1,vi 10] (V6 _ _ _) ?_;rintro w _ ⟨rfl,rfl⟩;refine Y ?_;have:j=s.size:=O;subst this;refine⟨k1,?_⟩;rw[uO,b,Bool.and_true];exact qBc vb (qBk.2 O)
end
end
section
open Go.Conc Go.ConcM
variable{α:Type}
open YtlhomfgcibjccaaGreatDoor Go.ChangeShapes Go.WideShapes
instance Ca {α:Type}[Enc α]{Q:α->Prop}:Enc { x:α // Q x }:=⟨Enc.sz α,λx=>Enc.enc x.1,λx=>Enc.len x.1⟩
theorem Zu7[Enc α]{Q:α->Prop}(l:List { x:α // Q x }):Zb l=Zb (l.map (·.1)):=by unfold Zb;rw[List.flatMap_map];rfl
def ZoF[Enc α]{Q:α->Prop}{b:Hp}{v:Value}{l:List { x:α // Q x }}(h:aF b v l):aF b v (l.map (·.1)):=by obtain⟨A,c,g,j⟩:=h;refine⟨A,c,by rw[qAh];exact g,λk=>?_⟩;obtain⟨a,e,f⟩:=j (by rintro rfl;simp at k);exact⟨a,e,by rw[<-Zu7];exact f⟩
def ZvB:Tryz.prog.cellsOf 9=1:=U
def ZvC:Tryz.prog.cellsOf 26=1:=U
def ZvD:Tryz.prog.cellsOf 25=5:=U
def Xr:Tryz.prog.cellsOf 50=5:=U
def Xs:Tryz.prog.cellsOf 85=3:=U
section
variable{H:Type}{enc:TypeId×Value->H}{W:World}{base:Nat}{sp:Nat->Bool}{held:Bool}{fuel:Nat}{cs:List Value}{y:DataW H×List MemPlace}{r:Reach}{b0:Nat}{v:Value}{d:DataW H}{ps:List MemPlace}
def Zop(h:DataW.trod enc Tryz.prog W base sp held fuel 9 cs=some y):∃s:ByteArray,cs=[.string s]:=by obtain⟨s,h,_⟩:=DataW.trod_string Tryz.underlying9 h;exact⟨s,h⟩
def TZ{t e:TypeId}{A:Option Addr}{n c:Nat}(f:Tryz.prog.underlying t=some (.slice e))(h:DataW.trod enc Tryz.prog W base sp held fuel t [.slice A n c]=some y):n<=c:=by
 rcases DataW.trod_slice f h with⟨e,_⟩ | ⟨a,len,cap,b,rest,q,_,e,_,_,g,_⟩
 ·simp only[qBM,Value.slice.injEq,qDY]at e;omega
 simp only[qBM,Value.slice.injEq,qDY]at e;omega
def Zso(h:DataW.trod enc Tryz.prog W base sp held fuel 50 cs=some y):∃x:Pk,cs=Enc.enc x:=by
 obtain⟨xs,n,rfl,_,z,p,o⟩:=DataW.trod_struct Tryz.underlying50 h;rw[Xr]at z;obtain⟨G,B⟩:=VA (xs:=xs) (i:=0) (by rw[p];decide);obtain⟨I,C⟩:=VA (xs:=xs) (i:=1) (by rw[p];decide);obtain⟨J,D⟩:=VA (xs:=xs) (i:=2) (by rw[p];decide);obtain⟨K,E⟩:=VA (xs:=xs) (i:=3) (by rw[p];decide);have q:DataW.trod enc Tryz.prog W base sp held n 9 ((cs.drop 0).take (Tryz.prog.cellsOf 9))=xs[0]?:=o 0 _ rfl;have t:DataW.trod enc Tryz.prog W base sp held n 36 ((cs.drop 1).take (Tryz.prog.cellsOf 36))=xs[1]?:=o 1 _ rfl;have w:DataW.trod enc Tryz.prog W base sp held n 3 ((cs.drop 3).take (Tryz.prog.cellsOf 3))=xs[2]?:=o 2 _ rfl;have f3:DataW.trod enc Tryz.prog W base sp held n 3 ((cs.drop 4).take (Tryz.prog.cellsOf 3))=xs[3]?:=o 3 _ rfl;rw[B]at q;rw[C]at t;rw[D]at w;rw[E]at f3;obtain⟨s,f⟩:=Zop q;obtain⟨c,e,hb⟩:=T3 t;obtain⟨g,j⟩:=C5 w;obtain⟨k,m⟩:=C5 f3;rw[ZvB]at f;rw[Jb]at hb;rw[KT]at j m;have f:=Uv f;have j:=Uv j;have m:=Uv m;have a:=qBc (·[0]?) hb;have b:=qBc (·[1]?) hb;simp[qDa,qCJ]at a b;refine⟨⟨s,c,e,g,k⟩,XP z λi F=>?_⟩;match i,F with
 | 0,_=>exact f
 | 1,_=>exact a
 | 2,_=>exact b
 | 3,_=>exact j
 | 4,_=>exact m
def Hz(h:DataW.trod enc Tryz.prog W base sp held fuel 85 cs=some y):∃x:{ x:Nt // aF (lQ W) (.slice x.A x.ps.length x.c) x.ps },cs=Enc.enc x:=by
 obtain⟨xs,n,rfl,_,o,p,m⟩:=DataW.trod_struct Tryz.underlying85 h;rw[Xs]at o;obtain⟨C,t⟩:=VA (xs:=xs) (i:=0) (by rw[p];decide);obtain⟨D,w⟩:=VA (xs:=xs) (i:=1) (by rw[p];decide);have j:DataW.trod enc Tryz.prog W base sp held n 26 ((cs.drop 0).take (Tryz.prog.cellsOf 26))=xs[0]?:=m 0 _ rfl;have k:DataW.trod enc Tryz.prog W base sp held n 36 ((cs.drop 1).take (Tryz.prog.cellsOf 36))=xs[1]?:=m 1 _ rfl;rw[t]at j;rw[w]at k;obtain⟨v,f,l,B⟩:=EK (α:=Int) dW KT (by decide) (λh=>by obtain⟨n,rfl⟩:=C5 h;exact⟨n,rfl⟩) j;obtain⟨c,e,hb⟩:=T3 k;obtain⟨A,q,rfl,g⟩:=B;rw[ZvC]at f;rw[Jb]at hb;have f:=Uv f;have a:=qBc (·[0]?) hb;have b:=qBc (·[1]?) hb;simp[qDa,qCJ]at a b;refine⟨⟨⟨A,l,q,c,e⟩,⟨A,q,rfl,g⟩⟩,XP o λi z=>?_⟩;match i,z with
 | 0,_=>exact f
 | 1,_=>exact a
 | 2,_=>exact b
theorem ZoZ(h:DataW.trod enc Tryz.prog W base sp held fuel 25 cs=some y):∃b:Sb,Value.agg cs.toArray=b.v/\Zr (lQ W) b:=by
 obtain⟨xs,n,rfl,_,B,e,j⟩:=DataW.trod_struct Tryz.underlying25 h;rw[ZvD]at B;obtain⟨Q,E⟩:=VA (xs:=xs) (i:=0) (by rw[e];decide);obtain⟨R,F⟩:=VA (xs:=xs) (i:=1) (by rw[e];decide);obtain⟨S,G⟩:=VA (xs:=xs) (i:=2) (by rw[e];decide);obtain⟨T,I⟩:=VA (xs:=xs) (i:=3) (by rw[e];decide);obtain⟨U,J⟩:=VA (xs:=xs) (i:=4) (by rw[e];decide);have q:DataW.trod enc Tryz.prog W base sp held n 3 ((cs.drop 0).take (Tryz.prog.cellsOf 3))=xs[0]?:=j 0 _ rfl;have t:DataW.trod enc Tryz.prog W base sp held n 3 ((cs.drop 1).take (Tryz.prog.cellsOf 3))=xs[1]?:=j 1 _ rfl;have w:DataW.trod enc Tryz.prog W base sp held n 3 ((cs.drop 2).take (Tryz.prog.cellsOf 3))=xs[2]?:=j 2 _ rfl;have f3:DataW.trod enc Tryz.prog W base sp held n 22 ((cs.drop 3).take (Tryz.prog.cellsOf 22))=xs[3]?:=j 3 _ rfl;have f4:DataW.trod enc Tryz.prog W base sp held n 23 ((cs.drop 4).take (Tryz.prog.cellsOf 23))=xs[4]?:=j 4 _ rfl;rw[E]at q;rw[F]at t;rw[G]at w;rw[I]at f3;rw[J]at f4;obtain⟨a,k⟩:=C5 q;obtain⟨b,hb⟩:=C5 t;obtain⟨c,m⟩:=C5 w;obtain⟨N,f,C,s1⟩:=EK (α:=Pk) wE Xr (by decide) (λh=>Zso h) f3;obtain⟨O,g,D,s2⟩:=EK (α:={ x:Nt // aF (lQ W) (.slice x.A x.ps.length x.c) x.ps }) qO Xs (show 0<3 by decide) (λh=>Hz h) f4;have s2:=ZoF s2;obtain⟨o,c1,rfl,_⟩:=id s1;obtain⟨p,c2,rfl,_⟩:=id s2;rw[f]at f3;rw[g]at f4;have L:=TZ wE f3;have M:=TZ qO f4;rw[KT]at k hb m;rw[ZvJ]at f;rw[ZvI]at g;have k:=Uv k;have hb:=Uv hb;have m:=Uv m;have f:=Uv f;have g:=Uv g;refine⟨⟨a,b,c,C,D.map (·.1),o,c1,p,c2⟩,?_,s1,s2,λx e=>?_,L,M⟩
 ·have:cs=[vi a,vi b,vi c,.slice o C.length c1,.slice p (D.map (·.1)).length c2]:=XP B λi K=>by
   match i,K with
   | 0,_=>exact k
   | 1,_=>exact hb
   | 2,_=>exact m
   | 3,_=>exact f
   | 4,_=>exact g
  rw[this]
 obtain⟨z,_,rfl⟩:=qAB.1 e;exact z.2
def fW(a:Value.okWide Tryz.prog W r b0 25 v)(g:DataW.Trod enc Tryz.prog W base sp held 25 v d ps):∃b:Sb,v=b.v/\Zr (lQ W) b:=by obtain⟨fuel,h⟩:=g;obtain⟨c,rfl⟩:=PW Tryz.underlying25 a;obtain⟨b,e,f⟩:=ZoZ h;exact⟨b,by rw[<-e];simp[Value.cells],f⟩
end
end
section
open Go.Conc Go.ConcM
variable{W:World}
open YtlhomfgcibjccaaGreatDoor
def OH:List (String×DataW Unit):=[("ribband/steam.checks",Rows.laid_ribband_steam_checks),("ribband/steam.first",Rows.laid_ribband_steam_first)]
def BU:Tryz.prog.globalNamed "ribband/steam.checks" = some 0:=U
def HM:Tryz.prog.globalNamed "ribband/steam.first" = some 1:=U
def AI:(Tryz.prog.globals[0]?).map (·.type)=some 165:=U
def F7:(Tryz.prog.globals[1]?).map (·.type)=some 202:=U
def ZvG:Tryz.prog.cellsOf 165=3:=U
def ZvH:Tryz.prog.cellsOf 113=1:=U
def ZvE:Tryz.prog.cellsOf 202=1:=U
def ZvF:Tryz.prog.cellsOf 200=1:=U
def ZoW(os:Os)(args:Array Value):laidMetH Tryz.prog OH ((World.doorLaid Tryz.prog 600 os).forCall (λ_ _=>0) ⟨#[],args,[]⟩).memory:=
 laidMetH_of_parts3 (fuel:=8) (laidMet_of_run' 8 U U) U U
set_option maxRecDepth 100000 in
def ZoQ(h:laidMetH Tryz.prog OH W):Yk (lQ W):=by
 obtain⟨g,t,cs,fuel,p,F,R,S,N⟩:=h.funcs (qBv:("ribband/steam.checks",Rows.laid_ribband_steam_checks)∈OH);obtain rfl:=iO (BU.symm.trans F);obtain rfl:=iO (AI.symm.trans R);obtain⟨xs,n,rfl,T,G,Q,E⟩:=DataW.trod_array Tryz.underlying165 N;rw[ZvG]at G;have B:=E 0 (by decide);have C:=E 1 (by decide);have D:=E 2 (by decide);rw[ZvH]at B C D;obtain⟨K,L,M,rfl⟩:∃a b c,xs=[a,b,c]:=by
  match xs,Q with
  | [a,b,c],_=>exact⟨a,b,c,rfl⟩
 obtain⟨c0,c1,c2,k⟩:∃a b c,cs.toList=[a,b,c]:=by
  match h:cs.toList,G with
  | [a,b,c],_=>exact⟨a,b,c,rfl⟩
 rw[k]at B C D;have q:DataW.agg [.held [40,114,105,98,98,97,110,100,47,115,116,101,97,109,46,98,111,111,107,41,46,121,97,114,100],.held [40,114,105,98,98,97,110,100,47,115,116,101,97,109,46,98,111,111,107,41,46,112,108,97,110,107,115],.held [40,114,105,98,98,97,110,100,47,115,116,101,97,109,46,98,111,111,107,41,46,110,111,116,101,115]]=DataW.agg [K.1,L.1,M.1]:=(Prod.mk.inj T).1;simp only[DataW.agg.injEq,qBM,qDY]at q;obtain⟨k0,k1,I⟩:=q;obtain⟨V,z0⟩:=K;obtain⟨X,Z⟩:=L;obtain⟨Y,z2⟩:=M;dsimp only at k0 k1 I;subst k0 k1 I;obtain rfl:=Go.func_of_trod (f0:=277) Tryz.underlying113 U B;obtain rfl:=Go.func_of_trod (f0:=278) Tryz.underlying113 U C;obtain rfl:=Go.func_of_trod (f0:=279) Tryz.underlying113 U D;have m:cs=#[vf 277,vf 278,vf 279]:=by rw[<-qCU (xs:=cs),k]
 subst m;have w:=World.var?_cell F S;obtain⟨_,o,z,_⟩:=VV (w 0);refine⟨rfl,o,false,by rw[QX];rw[z];rfl,λj O=>?_⟩;match j,O with
 | 0,_=>obtain⟨_,J,e,f⟩:=VV (w 0);rw[z]at e;obtain rfl:=iO e;exact f
 | 1,_=>obtain⟨_,J,e,f⟩:=VV (w 1);rw[z]at e;obtain rfl:=iO e;exact f
 | 2,_=>obtain⟨_,J,e,f⟩:=VV (w 2);rw[z]at e;obtain rfl:=iO e;exact f
set_option maxRecDepth 100000 in
def ZoR(h:laidMetH Tryz.prog OH W):aC (lQ W) ⟨1,0,none⟩ [vf 284]:=by
 obtain⟨g,t,cs,fuel,p,z,J,K,F⟩:=h.funcs (qAP _ (oR.2 rfl):("ribband/steam.first",Rows.laid_ribband_steam_first)∈OH);obtain rfl:=iO (HM.symm.trans z);obtain rfl:=iO (F7.symm.trans J);obtain⟨xs,n,rfl,L,B,I,D⟩:=DataW.trod_struct Tryz.underlying202 F;rw[ZvE]at B;obtain⟨q,rfl⟩:∃a,xs=[a]:=by
  match xs,I with
  | [a],_=>exact⟨a,rfl⟩
 obtain⟨c0,f⟩:∃a,cs.toList=[a]:=by
  match h:cs.toList,B with
  | [a],_=>exact⟨a,rfl⟩
 have e:=D 0 _ rfl;rw[f]at e;have e:DataW.trod (funcToken Tryz.prog) Tryz.prog W _ _ true n 200 ((([c0]:List Value).drop 0).take (Tryz.prog.cellsOf 200))=some q:=e;rw[ZvF]at e;have b:DataW.agg [.held [114,105,98,98,97,110,100,47,115,116,101,97,109,46,102,105,114,115,116,36,49]]=DataW.agg [q.1]:=(Prod.mk.inj L).1;simp only[DataW.agg.injEq,qBM,qDY]at b;obtain⟨N,z0⟩:=q;dsimp only at b;subst b;obtain rfl:=Go.func_of_trod (f0:=284) Tryz.underlying200 U e;have k:cs=#[vf 284]:=by rw[<-qCU (xs:=cs),f]
 subst k;have w:=World.var?_cell z K;obtain⟨_,o,C,_⟩:=VV (w 0);refine⟨rfl,o,false,by rw[QX];rw[C];rfl,λj G=>?_⟩;match j,G with
 | 0,_=>obtain⟨_,M,m,E⟩:=VV (w 0);rw[C]at m;obtain rfl:=iO m;exact E
open Go.ChangeShapes Go.WideShapes Go.ChangeAt Go.RowKit
section
variable{H:Type}{enc:TypeId×Value->H}
set_option maxRecDepth 100000 in
theorem dX{f:FuncId}{fn:Func}{t:Nat}{s:ChangeSpec}(os:Os)(g:os.Started)(F:Stop.Interp)(b:s.vars=[])
  (T:Tryz.prog.funcs[f]? = some fn) (aHd:fn.results=#[.tmp t]) (Y:fn.resultTypes=#[4]) (U:Tryz.prog.inits.idxOf? f=none)
  (hs:∀k:List (DataW H),k.length=fn.params.toList.length->s.fn H k={ results:=[.lit (.bool true)],args:=k })
  (K:∀t∈fn.params.toList,Tryz.prog.readableRec t=true/\t<Tryz.prog.types.size)
  (E:∀(W:World) (base:Nat) (args:Array Value) (k:List (DataW H)) (p:List MemPlace),(∀(j:Nat) t v,fn.params[j]? = some t->args[j]? = some v->Value.okWide Tryz.prog W .any base t v) ->
   DataW.TrodAll enc Tryz.prog W 0 (λ_=>true) true fn.params.toList args.toList k p->(Yk (lQ W)/\aC (lQ W) ⟨1,0,none⟩ [vf 284])->LL.Reach PP (C2 Tryz.prog f fn t (vb true)) (Frame.enter Tryz.prog f args .normal) [] (lQ W))
  (a:Array Value)
  (V:Input.okWideB Tryz.prog ((World.doorLaid Tryz.prog 600 os).forCall (λ_ _=>0) ⟨#[],a,[]⟩) f ⟨#[],a,[]⟩=true)
  (L:s.preB enc Tryz.prog fn [] false ((World.doorLaid Tryz.prog 600 os).forCall (λ_ _=>0) ⟨#[],a,[]⟩).memory a 8=true)
  (Z:s.sizedB enc Tryz.prog fn false ((World.doorLaid Tryz.prog 600 os).forCall (λ_ _=>0) ⟨#[],a,[]⟩).memory a 8=true) :
  ReturnsInLeavingWide { calm:=true } Tryz.checked os f .any (λw args=>(s.pre enc Tryz.prog fn [] false w args/\laidMetH Tryz.prog OH w)/\sizedMet enc Tryz.prog fn (OpenSpec.ofChange s) false w args)
   ((OpenSpec.ofChange s).postWith enc Tryz.prog fn F (outsideKept [.timePasses]) false true false):=by
 refine Zt2 (C:=Tryz.checked) (X:=λw _=>laidMetH Tryz.prog OH w) (λ_ _ _ hh h=>h.of_heap hh) ZnV g T
  (ZnI (enc:=enc) (C:=Tryz.checked) (os:=os) (X:=λw _=>laidMetH Tryz.prog OH w) (World.doorLaid Tryz.prog 600 os) a 8 rfl (ZnL os a) V L Z (ZoW os a)) ?_
 intro W base args k gs m D S hL
 have hW:DataW.Whole enc Tryz.prog fn.params.toList s.vars false W args.toList k gs m:=S
 have N:∀(j:Nat) t v,fn.params[j]? = some t->args[j]? = some v->Value.okWide Tryz.prog W .any base t v:=D
 have G:=hW
 obtain⟨p,q,R,hV,rfl,_,_⟩:=hW
 rw[b]at hV
 obtain⟨rfl,rfl⟩:=trodVars_none hV
 obtain⟨M,O,o,w',t',r1,r2,r3,v,e,hp,g1,g2,g3,g4⟩:=Zpp U (E W base args k p N R ⟨ZoQ hL,ZoR hL⟩)
 refine⟨M,O,o,w',t',r1,r2,r3,v,e,⟨?_,hp.2.os⟩,g1,g2,g3,g4⟩
 obtain⟨rfl,Q⟩:=hp
 have z:Below W.heap.size W { w' with os:=W.os }:=⟨rfl,Q.tape,Q.out,Q.size,Q.heap⟩
 have J:∀x∈p++[],x.block<W.heap.size:=λx hx=>G.lt x hx
 rw[qAf]at J
 have B:=hs k (ZgM R)
 have I:=Zm8 z4 z K R J
 refine⟨k,[],p++[],[],p,[],G,?_,?_,?_,z.frame _,λh=>by cases h⟩
 ·rw[qAf,B,Y];exact trodAll_mk1 (shut_bool Tryz.underlying4 _)
 ·rw[qAf,B];exact I
 ·rw[b,qAf,B];rfl
end
end
variable{fv v:Value}
section
variable{P:aX}[Tz P][Loud P]{H:Hp}
def ZyO{l:List Pk}{f:Pk->Bool}(q:∀x∈l,ZV P fv #[E9 x] H λv g=>H=g/\v=vb (f x))(k:aF H v l)(z:l.length<=1000000) :
  LL.Zc P 283 #[v,fv] H λv g=>H=g/\∃r:Int,v=vi r/\(0<=r↔l.any f=true):=by
 refine aJ.m (bG Zwk) (args:=[v,fv]) rfl ?_;unfold ZjH;refine Y ?_;refine YE k rfl (Y ?_);refine Zv l.length (λj g=>H=g/\(l.take j).any f=false) (λj=>[(0,v),(1,fv),(7,vi l.length),(8,vi j)]) (λj=>[]) ⟨rfl,rfl⟩ V trivial ?_;rintro j _ t ⟨rfl,b⟩;refine OJ (λo=>?_) (λo=>?_)
 ·have e:j<l.length:=O;refine Y ?_;refine Zz j k e λa p=>Y ?_;refine YA p (Y ?_);refine ZM rfl rfl (q _ (bY e)) ?_;rintro w _ ⟨rfl,rfl⟩;refine OJ (λh=>?_) (λh=>?_)
  ·refine Y ?_;exact⟨rfl,j,rfl,by simp only[qDC,true_iff];rw[qBg];exact⟨l[j],bY e,h⟩⟩
  refine Y ?_;refine⟨⟨j+1,O⟩,bN O,⟨rfl,?_⟩,V,trivial,rfl⟩;show(l.take (j+1)).any f=false;rw[iN e,qDb,b];simp[h]
 have:j=l.length:=O;subst this;rw[IF]at b;refine Y ?_;exact⟨rfl,-1,rfl,by simp[b]⟩
def Zy2{l:List Pk}{f:Pk->Bool}(g:∀x∈l,ZV P fv #[E9 x] H λv a=>H=a/\v=vb (f x))(j:aF H v l)(k:l.length<=1000000) :
  LL.Zc P 281 #[v,fv] H λv a=>H=a/\v=vb (l.any f):=by
 refine aJ.m (bG Zwm) (args:=[v,fv]) rfl ?_;unfold ZjJ;refine Y ?_;refine ZW (vs:=[v,fv]) rfl (ZyO g j k) ?_;rintro w _ ⟨rfl,r,rfl,b⟩;refine Y ?_;refine⟨rfl,?_⟩;show vb (decide (0<=r))=vb _;congr 1;cases h:l.any f with
 | true=>exact decide_eq_true (b.2 h)
 | false=>exact qAo λe=>by rw[b.1 e]at h;simp at h
def Zsp{q x:Pk}{r:Nat}(h:aC H ⟨r,0,none⟩ [.string x.nm,vi x.lo,vi x.hi,vi x.bF,vi x.bJ]):LL.Zc P 282 #[E9 q,.pointer (some ⟨r,0,none⟩)] H λv a=>H=a/\v=vb (q.nm.toList == x.nm.toList):=by refine aJ.m (bG Zwl) (args:=[E9 q,.pointer (some ⟨r,0,none⟩)]) rfl ?_;unfold ZjI;refine Y ?_;refine Zh (OL _) rfl (by rw[add_zero];exact YN (cs:=[.string x.nm]) (ds:=[vi x.lo,vi x.hi,vi x.bF,vi x.bJ]) h) (Y ?_);refine ZiM rfl rfl (Y ?_);exact⟨rfl,rfl⟩
def Zsm{b:Sb}(hb:Zr H b)(T:b.Sz):LL.Zc P 278 #[b.v] H λv G=>aL H G/\v=vi (Yr b):=by
 have hn:=T.pk;refine aJ.m (bG Zwp) (args:=[b.v]) rfl ?_;unfold ZjM Sb.v;refine Y ?_;refine Za [vi b.pk.length,vi 1,vi 4] (V6 _ _ _) ?_;rintro v _ ⟨rfl,rfl⟩;refine OJ (λX=>?_) (λX=>?_)
 ·refine Y ?_;exact⟨.refl _,by rw[Yr,iF O];rfl⟩
 refine Y ?_;refine Zv b.pk.length (λj G=>aL H G/\qB b.pk j=0) (λj=>[(1,vi 0),(13,.slice b.A1 b.pk.length b.c1),(14,vi b.pk.length),(15,vi j)]) (λ_=>[(1,b.cs)]) ⟨.refl _,rfl⟩ V V ?_;rintro j Q hj ⟨L,J⟩;refine OJ (λZ=>?_) (λZ=>?_)
 ·have C:j<b.pk.length:=O;have S:b.pk.getD j ⟨⟨#[]⟩,0,0,0,0⟩=b.pk[j]:=ZD C _;have stop:VC (b.pk.take j) b.pk[j]≠0->Yr b=VC (b.pk.take j) b.pk[j]:=λh=>by
   have e:qB b.pk (j+1)=VC (b.pk.take j) b.pk[j]:=by rw[qB,aT (by rw[J];simp),S]
   rw[Yr,aT O,Jw (j:=j+1) (by rw[e];exact h) _ O,e]
  have next:VC (b.pk.take j) b.pk[j]=0->qB b.pk (j+1)=0:=λh=>by rw[qB,aT (by rw[J];simp),S];exact h
  have K:=T.nm b.pk[j] (bY C);refine Y ?_;refine Zz j (hb.pk.inc L) C λa ha=>?_;generalize b.pk[j]=x at *;refine Y ?_;refine YA (cs:=[.string x.nm,vi x.lo,vi x.hi,vi x.bF,vi x.bJ]) ha (Y ?_);refine Vt (cD zB) (OL _) λr hr=>Y ?_;refine Zip (v:=E9 x) (cD zB) (cs:=[.string ⟨#[]⟩,vi 0,vi 0,vi 0,vi 0]) rfl rfl (Hp.aG _ _ _) rfl rfl rfl (OL _) ?_;rw[Us];have i2:=Zs (o:=.cells (E9 x).cells 50) hr;have R:aC (Q.ins r (.cells (E9 x).cells 50)) ⟨r,0,none⟩ [.string x.nm,vi x.lo,vi x.hi,vi x.bF,vi x.bJ]:=VK;have M:=L.trans i2;generalize Q.ins r (.cells (E9 x).cells 50)=H2 at *;refine Y ?_;refine Zh (OL _) rfl (by rw[add_zero];exact YN (cs:=[.string x.nm]) (ds:=[vi x.lo,vi x.hi,vi x.bF,vi x.bJ]) R) (Y ?_);refine Za [.string x.nm] (Zuf K) ?_;rintro v H3 ⟨F,rfl⟩;have F:=F.inc;have D:=R.inc F;have w:=M.trans F;unfold VC at stop next
  cases E:uO x.nm with
  | false=>
   rw[E]at stop;refine Y ?_;exact⟨w,by rw[stop (by simp)];rfl⟩
  | true=>
  rw[E]at stop next
  simp only[Bool.true_eq_false,qAw]at stop next
  refine Y ?_;refine IE (lo:=0) (hi:=j) (k:=.i64) (bI wE) (cD zB) rfl (.inl ⟨rfl,rfl⟩) ⟨_,rfl,rfl⟩ O (by have:=hb.q1;omega) ?_;rw[PY,qBI,qBI];refine Y ?_;refine VQ rfl rfl (Y ?_);refine Za [.slice b.A1 j b.c1,.func (.func 282) #[] #[.pointer (some ⟨r,0,none⟩)]] (Zy2 (f:=λo=>o.nm.toList == x.nm.toList) (λq _=>Yj U (Zsp D)) (P0 (hb.pk.inc w) O) (by rw[qAj];omega)) ?_;rintro v _ ⟨rfl,rfl⟩;cases hag:(b.pk.take j).any (λo=>o.nm.toList == x.nm.toList)with
  | true=>
   rw[hag]at stop;refine Y ?_;exact⟨w,by rw[stop (by simp)];rfl⟩
  | false=>
  rw[hag]at stop next
  simp only[DO,qAw]at stop next
  unfold rY at stop next
  refine Y ?_;refine Zn (cs:=[vi x.lo,vi x.hi]) (OL _) rfl (YN (ds:=[vi x.bF,vi x.bJ]) (eY (n:=1) D rfl)) rfl (Y ?_);refine Za [.agg #[vi x.lo,vi x.hi],vi 1,vi 20] (Me _ _ _ _) ?_;rintro v _ ⟨rfl,rfl⟩;have z:¬ (rY x=true)->Yr b=1:=λh=>by
   have I:rY x=false:=by simpa using h
   unfold rY at I;rw[stop (by rw[iF I];simp),iF I]
  refine OJ (λh2=>?_) (λh2=>?_)
  ·refine Y ?_;exact⟨w,by rw[z (by unfold rY;simp;omega)];rfl⟩
  refine Y ?_;refine Zh (OL _) rfl (YN (cs:=[vi x.hi]) (ds:=[vi x.bF,vi x.bJ]) (eY (n:=1) (eY (n:=1) D rfl) rfl)) (Y ?_);refine Zh (OL _) rfl (by rw[add_zero];exact YN (cs:=[vi x.lo]) (ds:=[vi x.hi,vi x.bF,vi x.bJ]) (eY (n:=1) D rfl)) ?_;refine OJ (λh3=>?_) (λh3=>?_)
  ·refine Y ?_;exact⟨w,by rw[z (by unfold rY;simp;omega)];rfl⟩
  refine Y ?_;refine Zh (OL _) rfl (YN (cs:=[vi x.bF]) (ds:=[vi x.bJ]) (eY (n:=3) D rfl)) (Y ?_);refine Za [vi x.bF,vi 1,vi 20] (V6 _ _ _) ?_;rintro v _ ⟨rfl,rfl⟩;refine OJ (λh4=>?_) (λh4=>?_)
  ·refine Y ?_;exact⟨w,by rw[z (by unfold rY;simp;omega)];rfl⟩
  refine Y ?_;refine Zh (OL _) rfl (eY (n:=4) D rfl) (Y ?_);refine Za [vi x.bJ,vi 1,vi 20] (V6 _ _ _) ?_;rintro v _ ⟨rfl,rfl⟩;refine OJ (λh5=>?_) (λh5=>?_)
  ·refine Y ?_;exact⟨w,by rw[z (by unfold rY;simp;omega)];rfl⟩
  refine Y ?_;exact⟨⟨j+1,O⟩,bN O,⟨w,next (by rw[aT (by simp;omega)])⟩,V,V,rfl⟩
 have:j=b.pk.length:=O;subst this;refine Y ?_;exact⟨L,by rw[Yr,aT O,J];rfl⟩
end
