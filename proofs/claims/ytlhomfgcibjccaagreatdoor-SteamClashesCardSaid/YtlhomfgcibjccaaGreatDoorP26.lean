import Derived.Test.YtlhomfgcibjccaaGreatDoorP25
set_option linter.all false
set_option maxHeartbeats 8000000
set_option maxRecDepth 100000
open Go Go.LL
namespace Go.Proofs
section
open Go.Conc Go.ConcM
open YtlhomfgcibjccaaGreatDoor Go.ChangeShapes Go.WideShapes
section
variable{H:Type}{enc:TypeId×Value->H}{W:World}{base:Nat}{sp:Nat->Bool}{held:Bool}{fuel:Nat}{cs:List Value}{y:DataW H×List MemPlace}{r:Reach}{b0:Nat}{v:Value}{d:DataW H}{ps:List MemPlace}
theorem vD(gY:Value.okWide Tryz.prog W r b0 5 v)(hd:DataW.Trod enc Tryz.prog W base sp held 5 v d ps):∃n,v=.int .u8 n/\0<=n/\n<256:=by obtain⟨n,rfl,_,_,hw⟩:=open_int Tryz.underlying5 gY hd;simp only[Lit.wf,BY,qAK]at hw;have h1:IntKind.u8.min=0:=rfl;have h2:IntKind.u8.max=255:=rfl;exact⟨n,rfl,O,O⟩
end
end
theorem Zja{α:Type}[DecidableEq α]:∀{l m:List α},l.Nodup->(∀x∈l,x∈m)->l.length<=m.length
 | [],_,_,_=>qAR _
 | a :: l,m,hn,hs=>by obtain⟨h1,h2⟩:=qCI.1 hn;have ha:=hs a (qBu ..);have:=Zja (l:=l) (m:=m.erase a) h2 λx hx=>(List.mem_erase_of_ne (by rintro rfl;exact h1 hx)).2 (hs x (qAr _ hx));rw[List.length_erase_of_mem ha]at this;have:=List.length_pos_of_mem ha;rw[qAO];omega
section
variable{m:Int}
theorem Zof{a:Int}(h:0<=a)(hm:0<m):0<=a.tmod m/\a.tmod m<m:=⟨Int.tmod_nonneg _ h,Int.tmod_lt_of_pos _ hm⟩
theorem rY{n:Nat}(h:0<=m)(hn:0<n):∃i:Nat,i<n/\m.tmod n=i:=by have:=Zof (m:=(n:Int)) h O;exact⟨(m.tmod n).toNat,O,O⟩
end
section
variable{l:List Int}{n i c:Nat}{H':Hp}{A:Option Addr}
theorem Zyn{lo:Int}{k:Nat}(h:l.Pairwise (·<·))(h2:∀z∈l,lo<=z/\z<lo+k):l.length<=k:=by
 have hm:∀z∈l,z∈(List.range k).map λ(i:Nat)=>lo+(i:Int):=λz hz=>by have:=h2 z hz;exact qAX.2 ⟨(z-lo).toNat,qAq.2 O,O⟩
 have:=Zja (l:=l) (h.imp λh e=>by subst e;omega) hm;rwa [qAs,qBx]at this
def TH(n:Nat)(l:List Int):Prop:=l.Pairwise (·<·)/\∀z∈l,0<=z/\z<n
theorem Kz(h:TH n l):l.length<=n:=Zyn (lo:=0) h.1 λz hz=>by have:=h.2 z hz;omega
def rO(s:ByteArray)(i:Nat):Int:=((s.data.toList.getD i 0).toNat:Int)
structure U8 where
 v:Int
 lo:0<=v
 hi:v<256
instance:Enc U8:=⟨1,λu=>[.int .u8 u.v],λ_=>rfl⟩
theorem Dr:Tryz.prog.underlying 9=some .string:=U
theorem Zn7:Tryz.prog.underlying 302=some (.slice 5):=U
theorem Ds:Tryz.prog.underlying 5=some (.int .u8):=U
section
variable{P:bF}[Tz P]{H:Hp}{d:Option Nat}{next:aN->Hp->Prop}{σ:aN}{x y:Operand}{ty t2:TypeId}{s u:ByteArray}
theorem SA(e:σ.get x=some (.string s))(h:next (σ.set d (vi s.size)) H):(bC.raw (.call { callee:=.builtin .len,args:=#[x],argTypes:=#[9] }) ty).m P d next σ H:=by refine YS (s:=Builtin.len_ #[9] ty #[.string s]) (by simp[Op.operands,Call.operands,e]) (by simp[execOp,aP,resolve,invoke,builtin,e]) ?_;simp only[Builtin.len_,qAD,qBc,Zh,Zy (dC (P:=P) Dr),Zj,goInt];exact h
theorem ZiY(e1:σ.get x=some (.string s))(e2:σ.get y=some (.string u))(h:next (σ.set d (vb (s.toList == u.toList))) H):(bC.dA (.binOp .eql 9 x y t2) ty).m P d next σ H:=by
 refine Y5 (by simp[Op.operands,e1,e2]) ?_ h;have:execOp (λx=>(σ.get x).getD undef) (aP (.binOp .eql 9 x y t2) ty)=(do let v <-(do eqGuard .eql 9 x y (.string s) (.string u);binOp .eql 9 (.string s) (.string u));pure (.value v)):=by simp[execOp,aP,e1,e2]
 rw[this];refine Uo λQ g H hq=>?_;simp only[eqGuard,Zh,Zj];exact hq
theorem XT{k:IntKind}(e1:σ.get x=some (.string s))(e2:σ.get y=some (.int k (i:Int)))(hi:i<s.size)(h:next (σ.set d (.int .u8 (rO s i))) H):(bC.raw (.index 9 x y) ty).m P d next σ H:=by
 refine YS (s:=Instr.index 9 (.string s) (.int k (i:Int))) (by simp[Op.operands,e1,e2]) (by simp[execOp,aP,e1,e2]) ?_;have e:s[(i:Int).toNat]? = some (s[i]):=by rw[qAA];exact getElem?_pos s i hi
 have eb:rO s i=(s[i].toNat:Int):=by unfold rO;rw[ZA (by simpa using hi)];rfl
 simp only[Instr.index,asIntOf,Zh,Zy (dC (P:=P) Dr),Zj,iO (show(0:Int)<=(i:Int)by omega),e];rw[<-eb];exact h
theorem Zs9(e:σ.get x=some (.string s))(bB:P.still H.gh=false)(h:∀v H' (l:List U8),H.Sub H'->aV H' v l->l.length=s.size->(∀i (hi:i<l.length),l[i].v=rO s i)->next (σ.set d v) H'):(bC.raw (.convert 9 302 x) ty).m P d next σ H:=by
 refine YS (s:=convert 9 302 (.string s)) (by simp[Op.operands,e]) (by simp[execOp,aP,e]) ?_;simp only[convert,Zh,Zy (dC (P:=P) Dr),Zy (dC (P:=P) Zn7),Zy (dC (P:=P) Ds),Conv.stringToBytes,choose];rw[cD];simp only[Question.forced,iN,qAk];refine⟨bB,λt=>?_⟩;have yC:s.size<=(Question.appendCap s.size 0 5).cut t:=by simp only[Question.cut];omega
 generalize(Question.appendCap s.size 0 5).cut t=cap at yC;simp only[newRow,newObj,Zh,Zj];refine⟨bB,λr hr=>?_⟩;let l:List U8:=s.data.toList.map λb=>⟨(b.toNat:Int),O,by have:=b.toNat_lt;omega⟩
 have dJ:l.length=s.size:=by simp[l]
 have Is:Zb l=s.data.toList.map λb=>Value.int .u8 (b.toNat:Int):=by
  simp only[Zb,l,List.flatMap_map];show s.data.toList.flatMap (λb=>[Value.int .u8 (b.toNat:Int)])=_;induction s.data.toList with
  | nil=>rfl
  | cons b m ih=>rw[qAL,ih];rfl
 have tC:∀o',aD (H.ins r (.cells ((s.data.map λb=>Value.int .u8 (b.toNat:Int))++Array.replicate (cap-s.size) (.int .u8 0)) 5 o')) ⟨r,0,none⟩ (Zb l):=by intro o';refine⟨rfl,_,_,Hp.aF _ _ _,λj hj=>?_⟩;rw[Is]at hj ⊢;rw[qAs]at hj;show((s.data.map λb=>Value.int .u8 (b.toNat:Int))++Array.replicate (cap-s.size) (.int .u8 0))[0+j]? = _;rw[qAu,Array.getElem?_append_left (by simpa using hj),qBk,qCZ];simp
 have gL:∀o',next (σ.set d (.slice (some ⟨r,0,none⟩) s.size cap)) (H.ins r (.cells ((s.data.map λb=>Value.int .u8 (b.toNat:Int))++Array.replicate (cap-s.size) (.int .u8 0)) 5 o')):=by
  intro o';refine h _ _ l (Yg hr) ⟨_,cap,by rw[dJ],λ_=>⟨_,rfl,tC o'⟩⟩ dJ λi hi=>?_;have gJ:i<s.data.toList.length:=by simpa[l]using hi
  unfold rO;rw[ZA gJ];simp[l]
 unfold markStringish shape freeze;simp only[Zh];refine⟨_,_,⟨bB,Hp.aF _ _ _⟩,?_⟩;simp only[Obj.n7,Zj];refine .inr ⟨_,⟨bB,Hp.aF _ _ _⟩,by decide,?_⟩;rw[Us];exact gL _
end
structure Pk where
 (nm:ByteArray) (lo hi fK fW:Int)
structure Nt where
 (A:Option Addr) (ps:List Int) (c:Nat) (lo hi:Int)
instance:Enc Pk:=⟨5,λp=>[.string p.nm,vi p.lo,vi p.hi,vi p.fK,vi p.fW],λ_=>rfl⟩
instance:Enc Nt:=⟨3,λn=>[.slice n.A n.ps.length n.c,vi n.lo,vi n.hi],λ_=>rfl⟩
structure Sb where
 (pl hd td:Int) (pk:List Pk) (nt:List Nt) (A1:Option Addr) (c1:Nat) (A2:Option Addr) (c2:Nat)
abbrev Sb.cs(b:Sb):List Value:=[vi b.pl,vi b.hd,vi b.td,.slice b.A1 b.pk.length b.c1,.slice b.A2 b.nt.length b.c2]
abbrev Sb.v(b:Sb):Value:=.agg #[vi b.pl,vi b.hd,vi b.td,.slice b.A1 b.pk.length b.c1,.slice b.A2 b.nt.length b.c2]
structure Zs(H:Hp)(b:Sb):Prop where
 pk:aV H (.slice b.A1 b.pk.length b.c1) b.pk
 nt:aV H (.slice b.A2 b.nt.length b.c2) b.nt
 ps:∀x∈b.nt,aV H (.slice x.A x.ps.length x.c) x.ps
 q1:b.pk.length<=b.c1
 q2:b.nt.length<=b.c2
structure Sb.Sz(b:Sb):Prop where
 pk:b.pk.length<=1000000
 nt:b.nt.length<=1000000
 ps:∀x∈b.nt,x.ps.length<=1000000
 nm:∀p∈b.pk,p.nm.size<=1000000
theorem Zs.bA{H:Hp}{b:Sb}(h:Zs H b)(i:bO H H'):Zs H' b:=⟨h.pk.bA i,h.nt.bA i,λx hx=>(h.ps x hx).bA i,h.q1,h.q2⟩
theorem Zs.sub{H:Hp}{b:Sb}(h:Zs H b)(i:H.Sub H'):Zs H' b:=h.bA i.bA
abbrev FO(p:Pk):Value:=.agg #[.string p.nm,vi p.lo,vi p.hi,vi p.fK,vi p.fW]
def YP(b:Sb):Int:=if(1<=b.pl/\b.pl<=3)/\(1<=b.hd/\b.hd<=3)/\(0<=b.td/\b.td<=200)then 0 else 1
def v3(s:ByteArray)(i:Nat):Bool:=decide (97<=rO s i/\rO s i<=122) || (!decide (i=0) && decide (48<=rO s i/\rO s i<=57))
def tN(s:ByteArray):Bool:=decide (1<=s.size/\s.size<=10) && (List.range s.size).all (v3 s)
def qU(p:Pk):Bool:=decide (1<=p.lo/\p.lo<=p.hi/\p.hi<=20) && decide (p.hi-p.lo<3) && decide (1<=p.fK/\p.fK<=20) && decide (1<=p.fW/\p.fW<=20)
def VB(pre:List Pk)(p:Pk):Int:=if tN p.nm=false then 4 else if pre.any (λo=>o.nm.toList == p.nm.toList)then 5 else if qU p=false then 1 else 0
def pR(l:List Pk):Nat->Int
 | 0=>0
 | j+1=>if pR l j≠0 then pR l j else VB (l.take j) (l.getD j ⟨⟨#[]⟩,0,0,0,0⟩)
def Yr(b:Sb):Int:=if ¬ (1<=b.pk.length/\b.pk.length<=4)then 2 else pR b.pk b.pk.length
def nS(n:Nat)(l:List Int):Nat->Int
 | 0=>0
 | j+1=>if nS n l j≠0 then nS n l j else if ¬ (0<=l.getD j 0/\l.getD j 0<n)then 6 else if 0<j/\l.getD j 0<=l.getD (j-1) 0 then 7 else 0
def Ve(n:Nat)(x:Nt):Int:=if x.ps.length=0 then 2 else if nS n x.ps x.ps.length≠0 then nS n x.ps x.ps.length else if ¬ (0<=x.lo/\x.lo<=x.hi/\x.hi<=80)then 1 else 0
def uE(n:Nat):List Nt->Int
 | []=>0
 | x :: l=>if Ve n x≠0 then Ve n x else uE n l
def YU(b:Sb):Int:=if 3<b.nt.length then 2 else uE b.pk.length b.nt
def ZF(b:Sb):Int:=if YP b≠0 then YP b else if Yr b≠0 then Yr b else YU b
theorem Me{l:List Pk}{j:Nat}(h:pR l j≠0):∀k,j<=k->pR l k=pR l j
 | 0,hk=>by have:j=0:=O;rw[this]
 | k+1,hk=>by
  by_cases e:j=k+1
  ·rw[e]
  have:=Me h k O;rw[pR,iO (by rw[this];exact h),this]
theorem Co{n:Nat}{l:List Int}{j:Nat}(h:nS n l j≠0):∀k,j<=k->nS n l k=nS n l j
 | 0,hk=>by have:j=0:=O;rw[this]
 | k+1,hk=>by
  by_cases e:j=k+1
  ·rw[e]
  have:=Co h k O;rw[nS,iO (by rw[this];exact h),this]
theorem KH:Ym Tryz.prog 50=some (5,some (.agg #[.string ⟨#[]⟩,vi 0,vi 0,vi 0,vi 0]),48):=U
theorem MU:Ym Tryz.prog 85=some (3,some (.agg #[.slice none 0 0,vi 0,vi 0]),40):=U
theorem FC:Tryz.prog.underlying 22=some (.slice 50):=U
theorem yI:Tryz.prog.underlying 23=some (.slice 85):=U
theorem ZgW{α:Type}[Enc α]{H:Hp}{l:List α}(h:aV H (.slice A n c) l)(hi:i<=l.length):aV H (.slice A i c) (l.take i):=by obtain⟨A',c',e,h2⟩:=h;simp only[Value.slice.injEq]at e;obtain⟨rfl,rfl,rfl⟩:=e;refine⟨A,c,by rw[qBm,qCi hi],λhn=>?_⟩;obtain⟨a,ha,hc⟩:=h2 (by rintro rfl;simp at hn);refine⟨a,ha,YM (ds:=Zb (l.drop i)) ?_⟩;rw[<-LJ,List.take_append_drop];exact hc
theorem ZmZ{s:Nat}:(if c=0 then A else A.map (·.add (0 * s)))=A:=by
 split
 ·rfl
 rw[qCm];cases A with
 | none=>rfl
 | some a=>exact qAC some (add_zero a)
def Yl(H:Hp):Prop:=aD H ⟨0,0,none⟩ [vf 277,vf 278,vf 279]
section
variable{P:bF}[Tz P][Loud P]{H:Hp}
theorem V6(n lo hi:Int):LL.Zc P 168 #[vi n,vi lo,vi hi] H λv H'=>H=H'/\v=vb (decide (lo<=n/\n<=hi)):=by refine aO.m (cF Zw1) (args:=[vi n,vi lo,vi hi]) rfl ?_;unfold Zkk;refine Y ?_;refine OI (λh1=>?_) (λh1=>?_)<;>refine Y ?_<;>exact⟨rfl,by simp[YR,h1]⟩
theorem Pu(a b lo hi:Int):LL.Zc P 106 #[.agg #[vi a,vi b],vi lo,vi hi] H λv H'=>H=H'/\v=vb (decide (lo<=a/\a<=b/\b<=hi)):=by refine aO.m (cF ZxD) (args:=[.agg #[vi a,vi b],vi lo,vi hi]) rfl ?_;unfold ZkW;refine Y ?_;refine OI (λh1=>?_) (λh1=>?_)<;>refine Y ?_;refine OI (λh2=>?_) (λh2=>?_)<;>refine Y ?_<;>exact⟨rfl,by simp[YR,h1,h2]⟩;exact⟨rfl,by simp[YR,h1]⟩
theorem Mt{b:Sb}(n:Int)(hn:b.pk.length<=1000000):LL.Zc P 139 #[b.v,vi n] H λv H'=>H=H'/\v=vb (decide (0<=n/\n<b.pk.length)):=by refine aO.m (cF Zxj) (args:=[b.v,vi n]) rfl ?_;unfold ZkC Sb.v;refine Y ?_;refine Za (vs:=[vi n,vi 0,vi (b.pk.length-1)]) rfl (V6 _ _ _) ?_;rintro v _ ⟨rfl,rfl⟩;refine Y ?_;exact⟨rfl,qAC vb (qCC.2 O)⟩
theorem ZnP{b:Sb}:LL.Zc P 277 #[b.v] H λv H'=>H=H'/\v=vi (YP b):=by
 refine aO.m (cF ZwG) (args:=[b.v]) rfl ?_;unfold ZjZ Sb.v;refine Y ?_;refine Za (vs:=[vi b.pl,vi 1,vi 3]) rfl (V6 _ _ _) ?_;rintro v _ ⟨rfl,rfl⟩;refine Y ?_;refine OI (λh1=>?_) (λh1=>?_)
 ·refine Y ?_;exact⟨rfl,by rw[YP,bY O];rfl⟩
 refine Y ?_;refine Za (vs:=[vi b.hd,vi 1,vi 3]) rfl (V6 _ _ _) ?_;rintro v _ ⟨rfl,rfl⟩;refine Y ?_;refine OI (λh2=>?_) (λh2=>?_)
 ·refine Y ?_;exact⟨rfl,by rw[YP,bY O];rfl⟩
 refine Y ?_;refine Za (vs:=[vi b.td,vi 0,vi 200]) rfl (V6 _ _ _) ?_;rintro v _ ⟨rfl,rfl⟩;refine Y ?_;refine OI (λh3=>?_) (λh3=>?_)
 ·refine Y ?_;exact⟨rfl,by rw[YP,bY O];rfl⟩
 refine Y ?_;exact⟨rfl,by rw[YP,iO O];rfl⟩
theorem Zuv{s:ByteArray}(hz:s.size<=1000000):LL.Zc P 280 #[.string s] H λv H'=>H.Sub H'/\v=vb (tN s):=by
 refine aO.m (cF ZwD) (args:=[.string s]) rfl ?_;unfold ZjW;refine Y ?_;refine Zs9 rfl (OL _) λv H1 l k1 k2 k3 k4=>Y ?_;refine YD k2 rfl (Y ?_);refine Zw s.size (λj H'=>H1=H'/\(List.range j).all (v3 s)=true) (λj=>[(0,.string s),(6,v),(7,vi s.size),(8,vi j)]) (λ_=>[]) ⟨rfl,rfl⟩ ⟨rfl,rfl,by rw[k3];rfl,rfl,trivial⟩ trivial ?_;rintro j _ hj ⟨rfl,dY⟩;refine Y ?_;refine OI (λh5=>?_) (λh5=>?_)
 ·have cH:j<s.size:=O;have hv:=k4 j O;have hE:Enc.enc (l[j]'O)=[.int .u8 (rO s j)]:=by show[Value.int .u8 (l[j]'O).v]=_;rw[hv]
  have next:v3 s j=true->(List.range (j+1)).all (v3 s)=true:=λh=>by rw[qCH,List.all_append,dY];simp[h]
  have stop:v3 s j=false->tN s=false:=λh=>by
   have:(List.range s.size).all (v3 s)=false:=by rw[List.all_eq_false];exact⟨j,by simpa using cH,by simp[h]⟩
   rw[tN,this,Bool.and_false]
  refine Y ?_;refine Zx k2 rfl rfl rfl (i:=j) O λa ha=>?_;rw[hE]at ha;refine Y ?_;refine Zg (OL _) rfl ha ?_;have gI:0<=rO s j:=by unfold rO;omega
  have kS:rO s j<256:=by unfold rO;have:=(s.data.toList.getD j 0).toNat_lt;omega
  unfold v3 at next stop
  generalize rO s j=x at *;have hx:IntKind.i64.wrap x=x:=Uk ⟨O,O⟩;refine Y ?_;refine Vr (dC Ds) (dC tX) rfl ?_;rw[hx];refine Y ?_;refine Za (vs:=[vi x,vi 97,vi 122]) rfl (V6 _ _ _) ?_;rintro w _ ⟨rfl,rfl⟩;refine Y ?_;refine OI (λh6=>?_) (λh6=>?_)
  ·refine Y ?_;refine OI (λh7=>?_) (λh7=>?_)
   ·refine Y ?_;exact⟨k1,by rw[stop (by simp;omega)];rfl⟩
   refine Y ?_;refine Vr (dC Ds) (dC tX) rfl ?_;rw[hx];refine Y ?_;refine Za (vs:=[vi x,vi 48,vi 57]) rfl (V6 _ _ _) ?_;rintro w _ ⟨rfl,rfl⟩;refine Y ?_;refine OI (λh8=>?_) (λh8=>?_)
   ·refine Y ?_;exact⟨k1,by rw[stop (by simp;omega)];rfl⟩
   refine Y ?_;exact⟨⟨j+1,O⟩,dX O,⟨rfl,next (by simp;omega)⟩,V,trivial,rfl⟩
  refine Y ?_;exact⟨⟨j+1,O⟩,dX O,⟨rfl,next (by simp;omega)⟩,V,trivial,rfl⟩
 refine Y ?_;refine SA rfl (Y ?_);refine Za (vs:=[vi s.size,vi 1,vi 10]) rfl (V6 _ _ _) ?_;rintro w _ ⟨rfl,rfl⟩;refine Y ?_;have:j=s.size:=O;subst this;refine⟨k1,?_⟩;rw[tN,dY,Bool.and_true];exact qAC vb (qCC.2 O)
end
end
section
open Go.Conc Go.ConcM
variable{α:Type}
open YtlhomfgcibjccaaGreatDoor Go.ChangeShapes Go.WideShapes
instance Dv {α:Type}[Enc α]{Q:α->Prop}:Enc { x:α // Q x }:=⟨Enc.sz α,λx=>Enc.enc x.1,λx=>Enc.len x.1⟩
theorem Zvn[Enc α]{Q:α->Prop}(l:List { x:α // Q x }):Zb l=Zb (l.map (·.1)):=by unfold Zb;rw[List.flatMap_map];rfl
theorem ZoU[Enc α]{Q:α->Prop}{DE:Hp}{v:Value}{l:List { x:α // Q x }}(h:aV DE v l):aV DE v (l.map (·.1)):=by obtain⟨A,c,h1,h2⟩:=h;refine⟨A,c,by rw[qAs];exact h1,λhn=>?_⟩;obtain⟨a,g1,g2⟩:=h2 (by rintro rfl;simp at hn);exact⟨a,g1,by rw[<-Zvn];exact g2⟩
theorem ZvR:Tryz.prog.cellsOf 9=1:=U
theorem ZvS:Tryz.prog.cellsOf 26=1:=U
theorem ZvT:Tryz.prog.cellsOf 25=5:=U
theorem Zm9:Tryz.prog.cellsOf 50=5:=U
theorem Zm8:Tryz.prog.cellsOf 85=3:=U
section
variable{H:Type}{enc:TypeId×Value->H}{W:World}{base:Nat}{sp:Nat->Bool}{held:Bool}{fuel:Nat}{cs:List Value}{y:DataW H×List MemPlace}{r:Reach}{b0:Nat}{v:Value}{d:DataW H}{ps:List MemPlace}
theorem ZoE(h:DataW.trod enc Tryz.prog W base sp held fuel 9 cs=some y):∃s:ByteArray,cs=[.string s]:=by obtain⟨s,h,_⟩:=DataW.trod_string Tryz.underlying9 h;exact⟨s,h⟩
theorem Zna{t e:TypeId}{A:Option Addr}{n c:Nat}(ht:Tryz.prog.underlying t=some (.slice e))(h:DataW.trod enc Tryz.prog W base sp held fuel t [.slice A n c]=some y):n<=c:=by
 rcases DataW.trod_slice ht h with⟨e,_⟩ | ⟨a,len,cap,GK,rest,q,_,e,_,_,hl,_⟩
 ·simp only[qBp,Value.slice.injEq,qCQ]at e;omega
 simp only[qBp,Value.slice.injEq,qCQ]at e;omega
theorem ZsF(h:DataW.trod enc Tryz.prog W base sp held fuel 50 cs=some y):∃x:Pk,cs=Enc.enc x:=by
 obtain⟨xs,n,rfl,_,hl,hx,hf⟩:=DataW.trod_struct Tryz.underlying50 h;rw[Zm9]at hl;obtain⟨y0,h0⟩:=Vz (xs:=xs) (i:=0) (by rw[hx];decide);obtain⟨y1,h1⟩:=Vz (xs:=xs) (i:=1) (by rw[hx];decide);obtain⟨y2,h2⟩:=Vz (xs:=xs) (i:=2) (by rw[hx];decide);obtain⟨y3,h3⟩:=Vz (xs:=xs) (i:=3) (by rw[hx];decide);have f0:DataW.trod enc Tryz.prog W base sp held n 9 ((cs.drop 0).take (Tryz.prog.cellsOf 9))=xs[0]?:=hf 0 _ rfl;have f1:DataW.trod enc Tryz.prog W base sp held n 36 ((cs.drop 1).take (Tryz.prog.cellsOf 36))=xs[1]?:=hf 1 _ rfl;have f2:DataW.trod enc Tryz.prog W base sp held n 3 ((cs.drop 3).take (Tryz.prog.cellsOf 3))=xs[2]?:=hf 2 _ rfl;have f3:DataW.trod enc Tryz.prog W base sp held n 3 ((cs.drop 4).take (Tryz.prog.cellsOf 3))=xs[3]?:=hf 3 _ rfl;rw[h0]at f0;rw[h1]at f1;rw[h2]at f2;rw[h3]at f3;obtain⟨s,ha⟩:=ZoE f0;obtain⟨c,e,hb⟩:=Zhf f1;obtain⟨g,hc⟩:=OK f2;obtain⟨k,hd⟩:=OK f3;rw[ZvR]at ha;rw[Lf]at hb;rw[W8]at hc hd;have ha:=Uv ha;have hc:=Uv hc;have hd:=Uv hd;have gF:=qAC (·[0]?) hb;have gI:=qAC (·[1]?) hb;simp[qBS,qBB]at gF gI;refine⟨⟨s,c,e,g,k⟩,Ae hl λi hi=>?_⟩;match i,hi with
 | 0,_=>exact ha
 | 1,_=>exact gF
 | 2,_=>exact gI
 | 3,_=>exact hc
 | 4,_=>exact hd
theorem ZtA(h:DataW.trod enc Tryz.prog W base sp held fuel 85 cs=some y):∃x:{ x:Nt // aV (vH W) (.slice x.A x.ps.length x.c) x.ps },cs=Enc.enc x:=by
 obtain⟨xs,n,rfl,_,hl,hx,hf⟩:=DataW.trod_struct Tryz.underlying85 h;rw[Zm8]at hl;obtain⟨y0,h0⟩:=Vz (xs:=xs) (i:=0) (by rw[hx];decide);obtain⟨y1,h1⟩:=Vz (xs:=xs) (i:=1) (by rw[hx];decide);have f0:DataW.trod enc Tryz.prog W base sp held n 26 ((cs.drop 0).take (Tryz.prog.cellsOf 26))=xs[0]?:=hf 0 _ rfl;have f1:DataW.trod enc Tryz.prog W base sp held n 36 ((cs.drop 1).take (Tryz.prog.cellsOf 36))=xs[1]?:=hf 1 _ rfl;rw[h0]at f0;rw[h1]at f1;obtain⟨v,hc,l,hv⟩:=Pp (α:=Int) oO W8 (by decide) (λh=>by obtain⟨n,rfl⟩:=OK h;exact⟨n,rfl⟩) f0;obtain⟨c,e,hb⟩:=Zhf f1;obtain⟨A,q,rfl,AM⟩:=hv;rw[ZvS]at hc;rw[Lf]at hb;have hc:=Uv hc;have gF:=qAC (·[0]?) hb;have gI:=qAC (·[1]?) hb;simp[qBS,qBB]at gF gI;refine⟨⟨⟨A,l,q,c,e⟩,⟨A,q,rfl,AM⟩⟩,Ae hl λi hi=>?_⟩;match i,hi with
 | 0,_=>exact hc
 | 1,_=>exact gF
 | 2,_=>exact gI
theorem Zpe(h:DataW.trod enc Tryz.prog W base sp held fuel 25 cs=some y):∃b:Sb,Value.agg cs.toArray=b.v/\Zs (vH W) b:=by
 obtain⟨xs,n,rfl,_,hl,hx,hf⟩:=DataW.trod_struct Tryz.underlying25 h;rw[ZvT]at hl;obtain⟨y0,h0⟩:=Vz (xs:=xs) (i:=0) (by rw[hx];decide);obtain⟨y1,h1⟩:=Vz (xs:=xs) (i:=1) (by rw[hx];decide);obtain⟨y2,h2⟩:=Vz (xs:=xs) (i:=2) (by rw[hx];decide);obtain⟨y3,h3⟩:=Vz (xs:=xs) (i:=3) (by rw[hx];decide);obtain⟨y4,h4⟩:=Vz (xs:=xs) (i:=4) (by rw[hx];decide);have f0:DataW.trod enc Tryz.prog W base sp held n 3 ((cs.drop 0).take (Tryz.prog.cellsOf 3))=xs[0]?:=hf 0 _ rfl;have f1:DataW.trod enc Tryz.prog W base sp held n 3 ((cs.drop 1).take (Tryz.prog.cellsOf 3))=xs[1]?:=hf 1 _ rfl;have f2:DataW.trod enc Tryz.prog W base sp held n 3 ((cs.drop 2).take (Tryz.prog.cellsOf 3))=xs[2]?:=hf 2 _ rfl;have f3:DataW.trod enc Tryz.prog W base sp held n 22 ((cs.drop 3).take (Tryz.prog.cellsOf 22))=xs[3]?:=hf 3 _ rfl;have f4:DataW.trod enc Tryz.prog W base sp held n 23 ((cs.drop 4).take (Tryz.prog.cellsOf 23))=xs[4]?:=hf 4 _ rfl;rw[h0]at f0;rw[h1]at f1;rw[h2]at f2;rw[h3]at f3;rw[h4]at f4;obtain⟨a,ha⟩:=OK f0;obtain⟨b,hb⟩:=OK f1;obtain⟨c,hc⟩:=OK f2;obtain⟨v1,e1,l1,s1⟩:=Pp (α:=Pk) FC Zm9 (by decide) (λh=>ZsF h) f3;obtain⟨v2,e2,l2,s2⟩:=Pp (α:={ x:Nt // aV (vH W) (.slice x.A x.ps.length x.c) x.ps }) yI Zm8 (show 0<3 by decide) (λh=>ZtA h) f4;have s2:=ZoU s2;obtain⟨A1,c1,rfl,_⟩:=id s1;obtain⟨A2,c2,rfl,_⟩:=id s2;rw[e1]at f3;rw[e2]at f4;have q1:=Zna FC f3;have q2:=Zna yI f4;rw[W8]at ha hb hc;rw[ZvZ]at e1;rw[ZvY]at e2;have ha:=Uv ha;have hb:=Uv hb;have hc:=Uv hc;have e1:=Uv e1;have e2:=Uv e2;refine⟨⟨a,b,c,l1,l2.map (·.1),A1,c1,A2,c2⟩,?_,s1,s2,λx hx=>?_,q1,q2⟩
 ·have:cs=[vi a,vi b,vi c,.slice A1 l1.length c1,.slice A2 (l2.map (·.1)).length c2]:=Ae hl λi hi=>by
   match i,hi with
   | 0,_=>exact ha
   | 1,_=>exact hb
   | 2,_=>exact hc
   | 3,_=>exact e1
   | 4,_=>exact e2
  rw[this]
 obtain⟨z,_,rfl⟩:=qAX.1 hx;exact z.2
theorem vF(gY:Value.okWide Tryz.prog W r b0 25 v)(hd:DataW.Trod enc Tryz.prog W base sp held 25 v d ps):∃b:Sb,v=b.v/\Zs (vH W) b:=by obtain⟨fuel,hf⟩:=hd;obtain⟨c,rfl⟩:=Ztn Tryz.underlying25 gY;obtain⟨b,h1,h2⟩:=Zpe hf;exact⟨b,by rw[<-h1];simp[Value.cells],h2⟩
end
end
section
open Go.Conc Go.ConcM
variable{W:World}
open YtlhomfgcibjccaaGreatDoor
def DC:List (String×DataW Unit):=[("ribband/steam.checks",Rows.laid_ribband_steam_checks),("ribband/steam.first",Rows.laid_ribband_steam_first)]
theorem B3:Tryz.prog.globalNamed "ribband/steam.checks" = some 0:=U
theorem JC:Tryz.prog.globalNamed "ribband/steam.first" = some 1:=U
theorem zG:(Tryz.prog.globals[0]?).map (·.type)=some 165:=U
theorem GW:(Tryz.prog.globals[1]?).map (·.type)=some 202:=U
theorem ZvW:Tryz.prog.cellsOf 165=3:=U
theorem ZvX:Tryz.prog.cellsOf 113=1:=U
theorem ZvU:Tryz.prog.cellsOf 202=1:=U
theorem ZvV:Tryz.prog.cellsOf 200=1:=U
theorem Zpb(os:Os)(args:Array Value):laidMetH Tryz.prog DC ((World.doorLaid Tryz.prog 600 os).forCall (λ_ _=>0) ⟨#[],args,[]⟩).memory:=
 laidMetH_of_parts3 (fuel:=8) (laidMet_of_run' 8 U U) U U
set_option maxRecDepth 100000 in
theorem Zo5(h:laidMetH Tryz.prog DC W):Yl (vH W):=by
 obtain⟨g,t,cs,fuel,p,hg,ht,hv,hd⟩:=h.funcs (qBu:("ribband/steam.checks",Rows.laid_ribband_steam_checks)∈DC);obtain rfl:=dO (B3.symm.trans hg);obtain rfl:=dO (zG.symm.trans ht);obtain⟨xs,n,rfl,hx,hl,hn,hE⟩:=DataW.trod_array Tryz.underlying165 hd;rw[ZvW]at hl;have e0:=hE 0 (by decide);have e1:=hE 1 (by decide);have e2:=hE 2 (by decide);rw[ZvX]at e0 e1 e2;obtain⟨x0,x1,x2,rfl⟩:∃a b c,xs=[a,b,c]:=by
  match xs,hn with
  | [a,b,c],_=>exact⟨a,b,c,rfl⟩
 obtain⟨c0,c1,c2,tC⟩:∃a b c,cs.toList=[a,b,c]:=by
  match h:cs.toList,hl with
  | [a,b,c],_=>exact⟨a,b,c,rfl⟩
 rw[tC]at e0 e1 e2;have ED:DataW.agg [.held [40,114,105,98,98,97,110,100,47,115,116,101,97,109,46,98,111,111,107,41,46,121,97,114,100],.held [40,114,105,98,98,97,110,100,47,115,116,101,97,109,46,98,111,111,107,41,46,112,108,97,110,107,115],.held [40,114,105,98,98,97,110,100,47,115,116,101,97,109,46,98,111,111,107,41,46,110,111,116,101,115]]=DataW.agg [x0.1,x1.1,x2.1]:=(Prod.mk.inj hx).1;simp only[DataW.agg.injEq,qBp,qCQ]at ED;obtain⟨k0,k1,k2⟩:=ED;obtain⟨y0,z0⟩:=x0;obtain⟨y1,z1⟩:=x1;obtain⟨y2,z2⟩:=x2;dsimp only at k0 k1 k2;subst k0 k1 k2;obtain rfl:=Go.func_of_trod (f0:=277) Tryz.underlying113 U e0;obtain rfl:=Go.func_of_trod (f0:=278) Tryz.underlying113 U e1;obtain rfl:=Go.func_of_trod (f0:=279) Tryz.underlying113 U e2;have yD:cs=#[vf 277,vf 278,vf 279]:=by rw[<-qBJ (xs:=cs),tC]
 subst yD;have h0:=World.var?_cell hg hv;obtain⟨_,o,ho,_⟩:=VU (h0 0);refine⟨rfl,o,false,by rw[SG];rw[ho];rfl,λj hj=>?_⟩;match j,hj with
 | 0,_=>obtain⟨_,o',pM,hc⟩:=VU (h0 0);rw[ho]at pM;obtain rfl:=dO pM;exact hc
 | 1,_=>obtain⟨_,o',pM,hc⟩:=VU (h0 1);rw[ho]at pM;obtain rfl:=dO pM;exact hc
 | 2,_=>obtain⟨_,o',pM,hc⟩:=VU (h0 2);rw[ho]at pM;obtain rfl:=dO pM;exact hc
set_option maxRecDepth 100000 in
theorem Zo6(h:laidMetH Tryz.prog DC W):aD (vH W) ⟨1,0,none⟩ [vf 284]:=by
 obtain⟨g,t,cs,fuel,p,hg,ht,hv,hd⟩:=h.funcs (qAr _ (DO.2 rfl):("ribband/steam.first",Rows.laid_ribband_steam_first)∈DC);obtain rfl:=dO (JC.symm.trans hg);obtain rfl:=dO (GW.symm.trans ht);obtain⟨xs,n,rfl,hx,hl,hn,hE⟩:=DataW.trod_struct Tryz.underlying202 hd;rw[ZvU]at hl;obtain⟨x0,rfl⟩:∃a,xs=[a]:=by
  match xs,hn with
  | [a],_=>exact⟨a,rfl⟩
 obtain⟨c0,tC⟩:∃a,cs.toList=[a]:=by
  match h:cs.toList,hl with
  | [a],_=>exact⟨a,rfl⟩
 have e0:=hE 0 _ rfl;rw[tC]at e0;have e0:DataW.trod (funcToken Tryz.prog) Tryz.prog W _ _ true n 200 ((([c0]:List Value).drop 0).take (Tryz.prog.cellsOf 200))=some x0:=e0;rw[ZvV]at e0;have ED:DataW.agg [.held [114,105,98,98,97,110,100,47,115,116,101,97,109,46,102,105,114,115,116,36,49]]=DataW.agg [x0.1]:=(Prod.mk.inj hx).1;simp only[DataW.agg.injEq,qBp,qCQ]at ED;obtain⟨y0,z0⟩:=x0;dsimp only at ED;subst ED;obtain rfl:=Go.func_of_trod (f0:=284) Tryz.underlying200 U e0;have yD:cs=#[vf 284]:=by rw[<-qBJ (xs:=cs),tC]
 subst yD;have h0:=World.var?_cell hg hv;obtain⟨_,o,ho,_⟩:=VU (h0 0);refine⟨rfl,o,false,by rw[SG];rw[ho];rfl,λj hj=>?_⟩;match j,hj with
 | 0,_=>obtain⟨_,o',pM,hc⟩:=VU (h0 0);rw[ho]at pM;obtain rfl:=dO pM;exact hc
open Go.ChangeShapes Go.WideShapes Go.ChangeAt Go.RowKit
section
variable{H:Type}{enc:TypeId×Value->H}
set_option maxRecDepth 100000 in
theorem nB{f:FuncId}{fn:Func}{t:Nat}{s:ChangeSpec}(os:Os)(gB:os.Started)(F:Stop.Interp)(FX:s.vars=[])
  (yB:Tryz.prog.funcs[f]? = some fn) (HT:fn.results=#[.tmp t]) (FZ:fn.resultTypes=#[4]) (BN:Tryz.prog.inits.idxOf? f=none)
  (hs:∀ds:List (DataW H),ds.length=fn.params.toList.length->s.fn H ds={ results:=[.lit (.bool true)],args:=ds })
  (HX:∀t∈fn.params.toList,Tryz.prog.readableRec t=true/\t<Tryz.prog.types.size)
  (sO:∀(W:World) (base:Nat) (args:Array Value) (ds:List (DataW H)) (p:List MemPlace),(∀(j:Nat) t v,fn.params[j]? = some t->args[j]? = some v->Value.okWide Tryz.prog W .any base t v) ->
   DataW.TrodAll enc Tryz.prog W 0 (λ_=>true) true fn.params.toList args.toList ds p->(Yl (vH W)/\aD (vH W) ⟨1,0,none⟩ [vf 284])->LL.Reach PP (DB Tryz.prog f fn t (vb true)) (Frame.enter Tryz.prog f args .normal) [] (vH W))
  (mE:Array Value)
  (m7:Input.okWideB Tryz.prog ((World.doorLaid Tryz.prog 600 os).forCall (λ_ _=>0) ⟨#[],mE,[]⟩) f ⟨#[],mE,[]⟩=true)
  (BC:s.preB enc Tryz.prog fn [] false ((World.doorLaid Tryz.prog 600 os).forCall (λ_ _=>0) ⟨#[],mE,[]⟩).memory mE 8=true)
  (fP:s.sizedB enc Tryz.prog fn false ((World.doorLaid Tryz.prog 600 os).forCall (λ_ _=>0) ⟨#[],mE,[]⟩).memory mE 8=true) :
  ReturnsInLeavingWide { calm:=true } Tryz.checked os f .any (λw args=>(s.pre enc Tryz.prog fn [] false w args/\laidMetH Tryz.prog DC w)/\sizedMet enc Tryz.prog fn (OpenSpec.ofChange s) false w args)
   ((OpenSpec.ofChange s).postWith enc Tryz.prog fn F (outsideKept [.timePasses]) false true false):=by
 refine Zui (C:=Tryz.checked) (X:=λw _=>laidMetH Tryz.prog DC w) (λ_ _ _ hh h=>h.of_heap hh) Zn9 gB yB
  (ZnW (enc:=enc) (C:=Tryz.checked) (os:=os) (X:=λw _=>laidMetH Tryz.prog DC w) (World.doorLaid Tryz.prog 600 os) mE 8 rfl (ZnZ os mE) m7 BC fP (Zpb os mE)) ?_
 intro W base args ds gs jF NY hW0 hL
 have hW:DataW.Whole enc Tryz.prog fn.params.toList s.vars false W args.toList ds gs jF:=hW0
 have gY:∀(j:Nat) t v,fn.params[j]? = some t->args[j]? = some v->Value.okWide Tryz.prog W .any base t v:=NY
 have Wm:=hW
 obtain⟨p,q,hA,hV,rfl,_,_⟩:=hW
 rw[FX]at hV
 obtain⟨rfl,rfl⟩:=trodVars_none hV
 obtain⟨M,kQ,o,w',t',r1,r2,r3,v,e,hp,g1,g2,g3,g4⟩:=ZpF BN (sO W base args ds p gY hA ⟨Zo5 hL,Zo6 hL⟩)
 refine⟨M,kQ,o,w',t',r1,r2,r3,v,e,⟨?_,hp.2.os⟩,g1,g2,g3,g4⟩
 obtain⟨rfl,hk⟩:=hp
 have QI:Below W.heap.size W { w' with os:=W.os }:=⟨rfl,hk.tape,hk.out,hk.size,hk.heap⟩
 have bV:∀x∈p++[],x.block<W.heap.size:=λx hx=>Wm.lt x hx
 rw[qAj]at bV
 have Gg:=hs ds (ZgS hA)
 have dY:=Znl Kl QI HX hA bV
 refine⟨ds,[],p++[],[],p,[],Wm,?_,?_,?_,QI.frame _,λh=>by cases h⟩
 ·rw[qAj,Gg,FZ];exact trodAll_mk1 (shut_bool Tryz.underlying4 _)
 ·rw[qAj,Gg];exact dY
 ·rw[FX,qAj,Gg];rfl
end
end
variable{fv v:Value}
section
variable{P:bF}[Tz P][Loud P]{H:Hp}
theorem Zy5{l:List Pk}{f:Pk->Bool}(hf:∀x∈l,ZX P fv #[FO x] H λv H'=>H=H'/\v=vb (f x))(hl:aV H v l)(hn:l.length<=1000000) :
  LL.Zc P 283 #[v,fv] H λv H'=>H=H'/\∃r:Int,v=vi r/\(0<=r↔l.any f=true):=by
 refine aO.m (cF ZwA) (args:=[v,fv]) rfl ?_;unfold ZjT;refine Y ?_;refine YD hl rfl (Y ?_);refine Zw l.length (λj H'=>H=H'/\(l.take j).any f=false) (λj=>[(0,v),(1,fv),(7,vi l.length),(8,vi j)]) (λj=>[]) ⟨rfl,rfl⟩ V trivial ?_;rintro j _ hj ⟨rfl,lH⟩;refine Y ?_;refine OI (λh1=>?_) (λh1=>?_)
 ·have cH:j<l.length:=O;refine Y ?_;refine Zx hl rfl rfl rfl (i:=j) cH λa ha=>Y ?_;refine Zl (OL _) rfl ha rfl (Y ?_);refine ZN rfl rfl (hf _ (IN cH)) ?_;rintro w _ ⟨rfl,rfl⟩;refine Y ?_;refine OI (λh2=>?_) (λh2=>?_)
  ·refine Y ?_;exact⟨rfl,j,rfl,by simp only[qCo,true_iff];rw[qBL];exact⟨l[j],IN cH,h2⟩⟩
  refine Y ?_;refine⟨⟨j+1,O⟩,dX O,⟨rfl,?_⟩,V,trivial,rfl⟩;show(l.take (j+1)).any f=false;rw[qAd cH,qCj,lH];simp[h2]
 have:j=l.length:=O;subst this;rw[qAw]at lH;refine Y ?_;exact⟨rfl,-1,rfl,by simp[lH]⟩
theorem Zzj{l:List Pk}{f:Pk->Bool}(hf:∀x∈l,ZX P fv #[FO x] H λv H'=>H=H'/\v=vb (f x))(hl:aV H v l)(hn:l.length<=1000000) :
  LL.Zc P 281 #[v,fv] H λv H'=>H=H'/\v=vb (l.any f):=by
 refine aO.m (cF ZwC) (args:=[v,fv]) rfl ?_;unfold ZjV;refine Y ?_;refine Za (vs:=[v,fv]) rfl (Zy5 hf hl hn) ?_;rintro w _ ⟨rfl,r,rfl,hr⟩;refine Y ?_;refine⟨rfl,?_⟩;show vb (decide (0<=r))=vb _;congr 1;cases h:l.any f with
 | true=>exact decide_eq_true (hr.2 h)
 | false=>exact qAZ λe=>by rw[hr.1 e]at h;simp at h
theorem ZsG{q x:Pk}{r:Nat}(h:aD H ⟨r,0,none⟩ [.string x.nm,vi x.lo,vi x.hi,vi x.fK,vi x.fW]):LL.Zc P 282 #[FO q,.pointer (some ⟨r,0,none⟩)] H λv H'=>H=H'/\v=vb (q.nm.toList == x.nm.toList):=by refine aO.m (cF ZwB) (args:=[FO q,.pointer (some ⟨r,0,none⟩)]) rfl ?_;unfold ZjU;refine Y ?_;refine Zg (OL _) rfl (by rw[add_zero];exact YM (cs:=[.string x.nm]) (ds:=[vi x.lo,vi x.hi,vi x.fK,vi x.fW]) h) (Y ?_);refine ZiY rfl rfl (Y ?_);exact⟨rfl,rfl⟩
theorem ZsD{b:Sb}(hb:Zs H b)(sz:b.Sz):LL.Zc P 278 #[b.v] H λv H'=>bO H H'/\v=vi (Yr b):=by
 have hn:=sz.pk;refine aO.m (cF ZwF) (args:=[b.v]) rfl ?_;unfold ZjY Sb.v;refine Y ?_;refine Za (vs:=[vi b.pk.length,vi 1,vi 4]) rfl (V6 _ _ _) ?_;rintro v _ ⟨rfl,rfl⟩;refine Y ?_;refine OI (λh0=>?_) (λh0=>?_)
 ·refine Y ?_;exact⟨.refl _,by rw[Yr,iO O];rfl⟩
 refine Y ?_;refine Zw b.pk.length (λj H'=>bO H H'/\pR b.pk j=0) (λj=>[(1,vi 0),(13,.slice b.A1 b.pk.length b.c1),(14,vi b.pk.length),(15,vi j)]) (λ_=>[(1,b.cs)]) ⟨.refl _,rfl⟩ V V ?_;rintro j H1 hj ⟨i1,hk⟩;refine Y ?_;refine OI (λh1=>?_) (λh1=>?_)
 ·have cH:j<b.pk.length:=O;have hg:b.pk.getD j ⟨⟨#[]⟩,0,0,0,0⟩=b.pk[j]:=ZA cH _;have stop:VB (b.pk.take j) b.pk[j]≠0->Yr b=VB (b.pk.take j) b.pk[j]:=λh=>by
   have e:pR b.pk (j+1)=VB (b.pk.take j) b.pk[j]:=by rw[pR,bY (by rw[hk];simp),hg]
   rw[Yr,bY O,Me (j:=j+1) (by rw[e];exact h) _ O,e]
  have next:VB (b.pk.take j) b.pk[j]=0->pR b.pk (j+1)=0:=λh=>by rw[pR,bY (by rw[hk];simp),hg];exact h
  have fP:=sz.nm b.pk[j] (IN cH);refine Y ?_;refine Zx (hb.pk.bA i1) rfl rfl rfl (i:=j) cH λa ha=>?_;generalize b.pk[j]=x at *;refine Y ?_;refine Zl (cs:=[.string x.nm,vi x.lo,vi x.hi,vi x.fK,vi x.fW]) (OL _) rfl ha rfl (Y ?_);refine Vs (eI KH) (OL _) λr hr=>Y ?_;refine ZiB (v:=FO x) (eI KH) (cs:=[.string ⟨#[]⟩,vi 0,vi 0,vi 0,vi 0]) rfl rfl (Hp.aF _ _ _) rfl rfl rfl (OL _) ?_;rw[Us];have i2:=Zt (o:=.cells (FO x).cells 50) hr;have b2:aD (H1.ins r (.cells (FO x).cells 50)) ⟨r,0,none⟩ [.string x.nm,vi x.lo,vi x.hi,vi x.fK,vi x.fW]:=VJ;have jI:=i1.trans i2;generalize H1.ins r (.cells (FO x).cells 50)=H2 at *;refine Y ?_;refine Zg (OL _) rfl (by rw[add_zero];exact YM (cs:=[.string x.nm]) (ds:=[vi x.lo,vi x.hi,vi x.fK,vi x.fW]) b2) (Y ?_);refine Za (vs:=[.string x.nm]) rfl (Zuv fP) ?_;rintro v H3 ⟨i3,rfl⟩;have i3:=i3.bA;have b3:=b2.bA i3;have qB:=jI.trans i3;unfold VB at stop next
  cases IA:tN x.nm with
  | false=>
   rw[IA]at stop;refine Y ?_;exact⟨qB,by rw[stop (by simp)];rfl⟩
  | true=>
  rw[IA]at stop next
  simp only[Bool.true_eq_false,qAk]at stop next
  refine Y ?_;refine Ls (lo:=0) (hi:=j) (k:=.i64) (dC FC) (eI KH) rfl (.inl ⟨rfl,rfl⟩) ⟨_,rfl,rfl⟩ O (by have:=hb.q1;omega) ?_;rw[ZmZ,qBg,qBg];refine Y ?_;refine VP rfl rfl (Y ?_);refine Za (vs:=[.slice b.A1 j b.c1,.func (.func 282) #[] #[.pointer (some ⟨r,0,none⟩)]]) rfl (Zzj (f:=λo=>o.nm.toList == x.nm.toList) (λq _=>Yk U (ZsG b3)) (ZgW (hb.pk.bA qB) O) (by rw[qBm];omega)) ?_;rintro v _ ⟨rfl,rfl⟩;cases pO:(b.pk.take j).any (λo=>o.nm.toList == x.nm.toList)with
  | true=>
   rw[pO]at stop;refine Y ?_;exact⟨qB,by rw[stop (by simp)];rfl⟩
  | false=>
  rw[pO]at stop next
  simp only[iN,qAk]at stop next
  unfold qU at stop next
  refine Y ?_;refine Zl (cs:=[vi x.lo,vi x.hi]) (OL _) rfl (YM (ds:=[vi x.fK,vi x.fW]) (CL (n:=1) b3 rfl)) rfl (Y ?_);refine Za (vs:=[.agg #[vi x.lo,vi x.hi],vi 1,vi 20]) rfl (Pu _ _ _ _) ?_;rintro v _ ⟨rfl,rfl⟩;have E4:¬ (qU x=true)->Yr b=1:=λh=>by
   have h':qU x=false:=by simpa using h
   unfold qU at h';rw[stop (by rw[iO h'];simp),iO h']
  refine Y ?_;refine OI (λh2=>?_) (λh2=>?_)
  ·refine Y ?_;exact⟨qB,by rw[E4 (by unfold qU;simp;omega)];rfl⟩
  refine Y ?_;refine Zg (OL _) rfl (YM (cs:=[vi x.hi]) (ds:=[vi x.fK,vi x.fW]) (CL (n:=1) (CL (n:=1) b3 rfl) rfl)) (Y ?_);refine Zg (OL _) rfl (by rw[add_zero];exact YM (cs:=[vi x.lo]) (ds:=[vi x.hi,vi x.fK,vi x.fW]) (CL (n:=1) b3 rfl)) (Y ?_);refine OI (λh3=>?_) (λh3=>?_)
  ·refine Y ?_;exact⟨qB,by rw[E4 (by unfold qU;simp;omega)];rfl⟩
  refine Y ?_;refine Zg (OL _) rfl (YM (cs:=[vi x.fK]) (ds:=[vi x.fW]) (CL (n:=3) b3 rfl)) (Y ?_);refine Za (vs:=[vi x.fK,vi 1,vi 20]) rfl (V6 _ _ _) ?_;rintro v _ ⟨rfl,rfl⟩;refine Y ?_;refine OI (λh4=>?_) (λh4=>?_)
  ·refine Y ?_;exact⟨qB,by rw[E4 (by unfold qU;simp;omega)];rfl⟩
  refine Y ?_;refine Zg (OL _) rfl (CL (n:=4) b3 rfl) (Y ?_);refine Za (vs:=[vi x.fW,vi 1,vi 20]) rfl (V6 _ _ _) ?_;rintro v _ ⟨rfl,rfl⟩;refine Y ?_;refine OI (λh5=>?_) (λh5=>?_)
  ·refine Y ?_;exact⟨qB,by rw[E4 (by unfold qU;simp;omega)];rfl⟩
  refine Y ?_;exact⟨⟨j+1,O⟩,dX O,⟨qB,next (by rw[bY (by simp;omega)])⟩,V,V,rfl⟩
 have:j=b.pk.length:=O;subst this;refine Y ?_;exact⟨i1,by rw[Yr,bY O,hk];rfl⟩
end
