import Derived.Test.YtmfealhfgccmfaaGreatDoorTT02
set_option linter.all false
set_option maxHeartbeats 8000000
set_option maxRecDepth 20000
def AV{G:Prop}(h:G:=by refine Y ?_;refine⟨.refl H,.inl ⟨?_,rfl⟩⟩;refine qAb λhn=>?_;obtain⟨a,rfl,_⟩:=hh hn;simp at h1):G:=h
def GA{G:Prop}(h:G:=by simp only[Value.agg.injEq,qDn,qBg,Value.slice.injEq]at e;exact⟨e.2.1.1,e.2.1.2.2,e.2.2.1.1,e.2.2.1.2.2,e.2.2.2.1.1,e.2.2.2.1.2.2⟩):G:=h
def AS{G:Prop}(h:G:=by refine Y ?_;exact⟨g1,.inr ⟨b',by rw[qAt]at g2;exact g2⟩⟩):G:=h
section
open Go Go.LL
namespace Go.Proofs
section
variable{v:Value}{A1 A2 A3:Option Addr}{c1 c2 c3:Nat}
def Ij:Tryz.prog.underlying 85=some (.slice 217):=U
def zN:Tryz.prog.underlying 86=some (.slice 91):=U
def EY:Yw Tryz.prog 212=some (3,some (.agg #[vi 0,vi 0,vi 0]),24):=U
def EZ:Yw Tryz.prog 217=some (4,some (.agg #[vi 0,vi 0,vi 0,vi 0]),32):=U
def NM:Yw Tryz.prog 91=some (3,some (.agg #[vi 0,vi 0,vb false]),24):=U
def Dn(l:List mH):((Zd l).all Value.gM)=true:=sU (λ_=>rfl) l
def Br(l:List zI):((Zd l).all Value.gM)=true:=sU (λ_=>rfl) l
def HT(l:List rN):((Zd l).all Value.gM)=true:=sU (λ_=>rfl) l
abbrev HQ:Value:=.agg #[vi 0,.slice none 0 0,.slice none 0 0,.slice none 0 0]
abbrev Cg:Value:=.agg #[vi 0,.slice none 0 0,.slice none 0 0,.slice none 0 0,.slice none 0 0]
def lB(f:jV)(k:rN):jV:={ f with sk:=f.sk++[k] }
def tB(f:jV):Prop:=yI f/\gT f≠[]
section
variable{P:fP}[Tz P][Loud P]{H:Hp}
def Wgb{l:List mH}(s:dF H v l)(w:l.length<=1000000)(g:P.still H.gh=false) :
  LL.Zb P 183 #[v] H λk i=>H.Sub i/\((l=[]/\k=.slice none 0 0)\/∃b,gL H i 212 k l b):=by
 obtain⟨A,c,rfl,hh⟩:=s;refine aU.m (fO Wfx) rfl ?_;unfold I5;refine Y ?_;refine yV (fU u64) rfl ?_;refine OJ (λh1=>?_) (λh1=>?_)
 ·exact AV
 refine Y ?_;refine rT (fU u64) (fT EY) g λr j=>Y ?_;have h:P.still (H.ins r (.cells #[] 212)).gh=false:=g;refine uG (l:=([]:List mH)) (l':=l) (fU u64) (fU u64) (fT EY) rfl (by decide) (YB j) (H0:=H) (b:=some r) ⟨wA,λq e=>by obtain rfl:=aT e;exact j⟩ ⟨A,c,rfl,λhn=>by obtain⟨a,n,o⟩:=hh hn;exact⟨a,n,o.sub (YB j)⟩⟩ (Dn l) (by simp;omega) O rfl rfl h λk i b' g1 g2 u=>?_;exact AS
def Wga{l:List zI}(s:dF H v l)(w:l.length<=1000000)(g:P.still H.gh=false) :
  LL.Zb P 184 #[v] H λk i=>H.Sub i/\((l=[]/\k=.slice none 0 0)\/∃b,gL H i 217 k l b):=by
 obtain⟨A,c,rfl,hh⟩:=s;refine aU.m (fO Wfw) rfl ?_;unfold I6;refine Y ?_;refine yV (fU Ij) rfl ?_;refine OJ (λh1=>?_) (λh1=>?_)
 ·exact AV
 refine Y ?_;refine rT (fU Ij) (fT EZ) g λr j=>Y ?_;have h:P.still (H.ins r (.cells #[] 217)).gh=false:=g;refine uG (l:=([]:List zI)) (l':=l) (fU Ij) (fU Ij) (fT EZ) rfl (by decide) (YB j) (H0:=H) (b:=some r) ⟨wA,λq e=>by obtain rfl:=aT e;exact j⟩ ⟨A,c,rfl,λhn=>by obtain⟨a,n,o⟩:=hh hn;exact⟨a,n,o.sub (YB j)⟩⟩ (Br l) (by simp;omega) O rfl rfl h λk i b' g1 g2 u=>?_;exact AS
def QQ{l:List rN}(s:dF H v l)(w:l.length<=1000000)(g:P.still H.gh=false) :
  LL.Zb P 113 #[v] H λk i=>H.Sub i/\((l=[]/\k=.slice none 0 0)\/∃b,gL H i 91 k l b):=by
 obtain⟨A,c,rfl,hh⟩:=s;refine aU.m (fO WfM) rfl ?_;unfold JP;refine Y ?_;refine yV (fU zN) rfl ?_;refine OJ (λh1=>?_) (λh1=>?_)
 ·exact AV
 refine Y ?_;refine rT (fU zN) (fT NM) g λr j=>Y ?_;have h:P.still (H.ins r (.cells #[] 91)).gh=false:=g;refine uG (l:=([]:List rN)) (l':=l) (fU zN) (fU zN) (fT NM) rfl (by decide) (YB j) (H0:=H) (b:=some r) ⟨wA,λq e=>by obtain rfl:=aT e;exact j⟩ ⟨A,c,rfl,λhn=>by obtain⟨a,n,o⟩:=hh hn;exact⟨a,n,o.sub (YB j)⟩⟩ (HT l) (by simp;omega) O rfl rfl h λk i b' g1 g2 u=>?_;exact AS
def Dl{f:jV}:LL.Zb P 182 #[.agg #[vi f.pk,.slice A1 f.pt.length c1,.slice A2 f.tp.length c2,.slice A3 f.sk.length c3]] H λv a=>H=a/\v=vi 0:=by refine aU.m (fO Wfy) rfl ?_;unfold I4;refine Y ?_;exact⟨rfl,rfl⟩
theorem NA{l:Value}{f:jV}{q:Int}(t:aM H ⟨2,0,none⟩ [vf 401,vf 402,vf 403])(n:gJ H (.agg #[vi f.pk,.slice A1 f.pt.length c1,.slice A2 f.tp.length c2,.slice A3 f.sk.length c3]) f)(u:f.pt.length<=1000)
  (w:yI f->Z5 P l #[.agg #[vi f.pk,.slice A1 f.pt.length c1,.slice A2 f.tp.length c2,.slice A3 f.sk.length c3]] H λv g=>H=g/\v=vi q) :
  LL.Zb P 120 #[.agg #[vi f.pk,.slice A1 f.pt.length c1,.slice A2 f.tp.length c2,.slice A3 f.sk.length c3],l] H λv g=>fI H g/\((∃s:Int,s≠0/\v=.tuple #[Cg,vi s]/\¬ (tB f/\q=0)) \/
   ((tB f/\q=0)/\∃A c,v=.tuple #[.agg #[vi f.pk,.slice A1 f.pt.length c1,.slice A2 f.tp.length c2,.slice A3 f.sk.length c3,.slice A (gT f).length c],vi 0]/\∃j,gL H g 232 (.slice A (gT f).length c) (gT f) j)):=by
 refine aU.m (fO WfG) rfl ?_
 unfold JW
 refine Y ?_
 refine Zg (M6 t n u) ?_
 rintro v _ ⟨rfl,s,rfl,b⟩
 refine Y ?_
 refine OI (λi=>?_) (λi=>?_)
 ·refine Y ?_;exact⟨.refl _,.inl ⟨s,i,rfl,λh=>i (b.2 h.1.1)⟩⟩
 have b:=b.1 i
 refine Y ?_
 refine ZP (vs:=[.agg #[vi f.pk,.slice A1 f.pt.length c1,.slice A2 f.tp.length c2,.slice A3 f.sk.length c3]]) rfl rfl (w b) ?_
 rintro v _ ⟨rfl,rfl⟩
 refine Y ?_
 refine OI (λa=>?_) (λa=>?_)
 ·refine Y ?_;exact⟨.refl _,.inl ⟨q,a,rfl,λh=>a h.2⟩⟩
 have a:q=0:=a
 subst a
 refine Y ?_
 refine Zg (Db n b) ?_
 rintro v B ⟨o,j,p⟩
 have z:=p.sl
 obtain⟨A,c,rfl,_⟩:=id z
 refine Y ?_
 refine OI (λk=>?_) (λk=>?_)
 ·refine Y ?_;exact⟨o,.inl ⟨9,by decide,rfl,λh=>h.1.2 (qBj.1 O)⟩⟩
 ·refine Y ?_;exact⟨o,.inr ⟨⟨⟨b,λe=>by rw[e]at k;simp at k⟩,rfl⟩,A,c,rfl,j,p⟩⟩
theorem Da{f:jV}(F:aM H ⟨2,0,none⟩ [vf 401,vf 402,vf 403])(o:gJ H (.agg #[vi f.pk,.slice A1 f.pt.length c1,.slice A2 f.tp.length c2,.slice A3 f.sk.length c3]) f)(G:f.pt.length<=1000) :
  LL.Zb P 114 #[.agg #[vi f.pk,.slice A1 f.pt.length c1,.slice A2 f.tp.length c2,.slice A3 f.sk.length c3]] H λv k=>fI H k/\((∃s:Int,s≠0/\v=.tuple #[HQ,vi s]) \/
   (tB f/\∃w,v=.tuple #[w,vi 0]/\gJ k w f)):=by
 refine aU.m (fO WfL) rfl ?_
 unfold JQ
 refine Y ?_
 refine Zg (vs:=[.agg #[vi f.pk,.slice A1 f.pt.length c1,.slice A2 f.tp.length c2,.slice A3 f.sk.length c3],.func (.func 182) #[] #[]]) (NA F o G λ_=>Yv U Dl) ?_
 rintro v L ⟨b,⟨s,l,rfl,_⟩ | ⟨⟨a,_⟩,A,c,rfl,_,_⟩⟩
 ·refine OJ (λh=>?_) (λh=>?_)
  ·refine Y ?_;exact⟨b,.inl ⟨s,l,rfl⟩⟩
  exact absurd h l
 ·refine Y ?_;obtain⟨_,_,_,_,_,_,e,I,J,K⟩:=id (o.inc b);obtain⟨rfl,rfl,rfl,rfl,rfl,rfl⟩:_/\_/\_/\_/\_/\_:=by exact GA
  have k1:=a.1.pt.n;have V:=a.1.tp.n;have W:=a.1.sk.n;refine Y ?_;refine Zg (vs:=[.slice A1 f.pt.length c1]) (Wgb I O (OL _)) ?_;rintro v M ⟨g,h⟩;obtain⟨R,p⟩:=uK h;obtain⟨u,B,rfl,_⟩:=id p.sl;refine Zz OL (Y ?_);refine Zg (vs:=[.slice A2 f.tp.length c2]) (Wga (J.inc g.inc) O (OL _)) ?_;rintro v N ⟨i,h⟩;obtain⟨S,q⟩:=uK h;obtain⟨z,C,rfl,_⟩:=id q.sl;refine Zz OL (Y ?_);refine Zg (vs:=[.slice A3 f.sk.length c3]) (QQ ((K.inc g.inc).inc i.inc) O (OL _)) ?_;rintro v Q ⟨j,h⟩;obtain⟨T,t⟩:=uK h;obtain⟨B4,D,rfl,_⟩:=id t.sl;refine Zz OL (Y ?_);exact⟨((b.trans g.inc).trans i.inc).trans j.inc,.inr ⟨a,_,rfl,u,B,z,C,B4,D,rfl,(p.sl.inc i.inc).inc j.inc,q.sl.inc j.inc,t.sl⟩⟩
theorem Wf5{f:jV}{k:rN}(o:aM H ⟨2,0,none⟩ [vf 401,vf 402,vf 403])(j:gJ H (.agg #[vi f.pk,.slice A1 f.pt.length c1,.slice A2 f.tp.length c2,.slice A3 f.sk.length c3]) f)(p:f.pt.length<=1000) :
  LL.Zb P 37 #[.agg #[vi f.pk,.slice A1 f.pt.length c1,.slice A2 f.tp.length c2,.slice A3 f.sk.length c3],.agg #[vi k.h,vi k.lg,vb k.fit]] H λv i=>fI H i/\((∃s:Int,s≠0/\v=.tuple #[HQ,vi s]) \/
   (tB (lB f k)/\∃w,v=.tuple #[w,vi 0]/\gJ i w (lB f k))):=by
 refine aU.m (fO WfV) rfl ?_
 unfold IB
 refine Y ?_
 refine Zg (M6 o j p) ?_
 rintro v _ ⟨rfl,s,rfl,b⟩
 refine Y ?_
 refine OI (λc=>?_) (λc=>?_)
 ·refine Y ?_;exact⟨.refl _,.inl ⟨s,c,rfl⟩⟩
 have b:=b.1 c
 obtain⟨_,_,_,_,_,_,e,F,G,I⟩:=id j
 obtain⟨rfl,rfl,rfl,rfl,rfl,rfl⟩:_/\_/\_/\_/\_/\_:=by exact GA
 have k1:=b.pt.n
 have C:=b.sk.n
 refine Y ?_
 refine Zg (QQ I O (OL _)) ?_
 rintro v K ⟨g,h⟩
 obtain⟨N,D⟩:=uK h
 refine Zz OL ?_
 refine Y ?_
 refine Z4 (cs:=[vi k.h,vi k.lg,vb k.fit]) (OL _) rfl λS a=>?_
 refine Zz OL ?_
 refine Y ?_
 refine VX (l':=[k]) (fU zN) (fU zN) (fT NM) rfl (by decide) (g.inc.trans (Zt a)) (D.ins a) (Z3 (l:=[k])) rfl (by simp;omega) O rfl rfl (OL _) λT L Q k1 B C=>?_
 have u:=B.sl
 obtain⟨J,R,rfl,_⟩:=id u
 refine Y ?_
 refine Zg (Da (f:=lB f k) (aM.inc o k1) ⟨_,_,_,_,_,_,rfl,F.inc k1,G.inc k1,u⟩ p) ?_
 rintro v M ⟨t,⟨s,z,rfl⟩ | ⟨A,w,rfl,q⟩⟩
 ·refine Y ?_;exact⟨k1.trans t,.inl ⟨s,z,rfl⟩⟩
 ·obtain⟨_,_,_,_,_,_,rfl,_⟩:=id q;refine Y ?_;exact⟨k1.trans t,.inr ⟨A,_,rfl,q⟩⟩
end
end
end Go.Proofs
end
section
open Go Go.LL
namespace Go.LL
section
variable{sT E:TypeId}{gQ r0 c0:Nat}{zv x0:Value}{a0:Addr}
def pH(H:Hp)(E:TypeId)(v:Value)(a:List Value)(r:Nat):Prop:=
 ∃cap pre rest,v=.slice (some ⟨r,pre.length,none⟩) a.length cap/\H r=some (.cells (pre++(a++rest)).toArray E (0,0),true)/\a.length<=cap/\cap<=a.length+rest.length
section
variable{P:fP}{H:Hp}{d:Option Nat}{next:fG->Hp->Prop}{σ:fG}{x y:Operand}
def Wf4{T:TypeId}{s:Value}{cs:List Value}(hu:P.toProgram.underlying sT=some (.slice E))(ti:TI P.toProgram E 1 zv gQ)(hz:zv.cells.size=1)
  (S:pH H E s cs r0) (hw:aM H a0 [x0]) (G:Value.gM x0=true) (hb1:cs.length+1<=1000000000) (J:gQ<=1000) (i:P.still H.gh=false)
  {K:Value->Hp->Prop} (h:∀V p ,(∃N W,V=.slice (some N) (cs.length+1) W/\aM p N (cs++[x0]))->pH p E s cs r0->(∀c y,H c=some y->r0≠c->p c=some y)->K V p):fZ P.toPQ (Builtin.append_ #[sT,sT] T #[s,.slice (some a0) 1 c0]) (λv _ p=>K v p) false H:=by
 obtain⟨inf,F,i2,i3,M⟩:=ti.ex;have ho0:=S;obtain⟨cap,pre,rest,rfl,I,h4,Z⟩:=S;generalize R:cs.length=n at *;have b:∀(Q:Array Value->Bool->Hp->Prop) g,Q [x0].toArray g H->fZ P.toPQ (Builtin.firstCells 1 1 (.slice (some a0) 1 c0)) Q g H:=by intro Q g l;simp only[Builtin.firstCells];exact XB i hw l rfl
 have D:∀(Q:Array Value->Bool->Hp->Prop) g,Q cs.toArray g H->fZ P.toPQ (Builtin.firstCells 1 n (.slice (some ⟨r0,pre.length,none⟩) n cap)) Q g H:=by intro Q g l;simp only[Builtin.firstCells];refine XB (cs:=cs) i ⟨rfl,_,_,I,λj A=>?_⟩ l O;simp only[Obj.nC,qAM];rw[qBz O,Nat.add_sub_cancel_left,qAQ A]
 have C:∀(Q:Nat->Bool->Hp->Prop) g,Q 1 g H->fZ P.toPQ (Builtin.lenOf (.slice (some a0) 1 c0)) Q g H:=by intro Q g l;simpa[Builtin.lenOf,Zj]using l
 simp only[Builtin.append_,qAM,qBy,qBk,Zf,ZA hu,Yc F,i2,Zj,oR,qAq];refine C _ _ ?_;simp only[qCK,qBb];by_cases B:n+1<=cap
 ·rw[qAa B];simp only[Zf,Zj];refine b _ _ ?_;have ha:(⟨r0,pre.length,none⟩:Addr).add (n * 1)=⟨r0,pre.length+n,none⟩:=by rw[PE rfl,qCo]
  rw[ha];have o:1<=rest.length:=O;obtain⟨z,a,rfl⟩:∃z a,rest=z :: a:=by
   cases rest with
   | nil=>simp at o
   | cons z t=>exact⟨z,t,rfl⟩
  refine MX _ _ [x0] (pre.length+n) 0 (pre++(cs++z :: a)) H i I (by simp[G]) (by simp;omega) ?_;have X:(pre++(cs++z :: a)).take (pre.length+n+0)=pre++cs:=by rw[qCg,<-qAE,qCi (by simp;omega),qAH (by simp;omega)]
  have Y:(pre++(cs++z :: a)).drop (pre.length+n+0+[x0].length)=a:=by rw[qCg,<-qAE,qDv,qBZ (by simp;omega),qAt];rw[show pre.length+n+[x0].length-(pre++cs).length=1 by simp;omega];rfl
  rw[X,Y];refine h _ _ ⟨_,_,rfl,rfl,_,_,Hp.aQ _ _ _,λj A=>?_⟩ ⟨cap,pre,x0 :: a,by rw[R],?_,O,by simp at Z ⊢;omega⟩ λc y m L=>?_
  ·simp only[Obj.nC,qAM];rw[qAE,qAE,qBz O,Nat.add_sub_cancel_left,<-qAE,qAQ A]
  ·rw[Hp.aQ];simp
  rw[Hp.aR _ _ (by rintro rfl;exact L rfl)];exact m
 rw[iF B];simp only[Zf,UL F,M];rw[iF (by rintro⟨h,_⟩;simp[IntKind.max,IntKind.bits,IntKind.signed]at h;omega)];simp only[Zf,Zj,UL F,M];have u:¬ Builtin.nextslicecap (n+1) cap * gQ > 2 ^ 48:=by have G:=ZiC (need:=n+1) (old:=cap) O;have h2:Builtin.nextslicecap (n+1) cap * gQ<=(2 * (n+1)+200) * 1000:=qBK G J;omega
 rw[iF u];simp only[Zf,Zj,choose];rw[fZ];simp only[Question.forced,oR,qAq];refine⟨i,λt=>?_⟩;have w:n+1<=(Question.appendCap (n+1) cap E).cut t:=by simp only[Question.cut];omega
 generalize(Question.appendCap (n+1) cap E).cut t=U at w;rw[fZ];have q:∀(Q:Unit->Bool->Hp->Prop),Q () false H->fZ P.toPQ (askRoom (U * gQ)) Q false H:=by
  intro Q l;unfold askRoom;split
  ·exact⟨.inr ⟨rfl,i⟩,l⟩
  exact l
 rw[UL F,M];refine q _ ?_;refine D _ _ ?_;refine b _ _ ?_;simp only[Us F i3,newRow,Zf,newObj,Zj];refine⟨i,λr hr=>?_⟩;have k:∀c y,H c=some y->(H.ins r (.cells (cs.toArray++[x0].toArray++Builtin.zeroCells zv.cells (U-(n+1))) E)) c=some y:=λc y m=>by rw[Hp.aR _ _ (by rintro rfl;rw[hr]at m;simp at m)];exact m
 refine h _ _ ⟨_,_,rfl,rfl,_,_,Hp.aQ _ _ _,λj A=>?_⟩ ⟨cap,pre,rest,by rw[R],k _ _ I,O,O⟩ λc y m _=>k c y m;simp only[Obj.nC,qAJ];rw[qDf (by simpa using A)];simp
def IU{T:TypeId}{s:Value}{a:List Value}(t:P.toProgram.underlying sT=some (.slice E))(z:TI P.toProgram E 1 zv gQ)(w:zv.cells.size=1)(k:σ.get x=some s)(l:σ.get y=some (.slice (some a0) 1 c0))
  (q:pH H E s a r0) (u:aM H a0 [x0]) (p:Value.gM x0=true) (e:a.length+1<=1000000000) (g:gQ<=1000) (i:P.still H.gh=false)
  (h:∀n b ,(∃j o,n=.slice (some j) (a.length+1) o/\aM b j (a++[x0]))->pH b E s a r0->(∀c y,H c=some y->r0≠c->b c=some y)->next (σ.set d n) b):(fR.raw (.call { callee:=.builtin .append,args:=#[x,y],argTypes:=#[sT,sT] }) T).m P d next σ H:=by
 refine YX (s:=Builtin.append_ #[sT,sT] T #[s,.slice (some a0) 1 c0]) (by simp[Op.operands,Call.operands,k,l]) (by simp[execOp,fL,resolve,invoke,builtin,k,l]) ?_;exact Wf4 (T:=T) t z w q u p e g i h
end
end
end Go.LL
end
open Go Go.LL
namespace Go.Proofs
section
variable{v:Value}{H0:Hp}
def sX(n:Int)(l:List Int):Prop:=n∈l/\∀z∈l,n<=z
def sY(n:Int)(l:List Int):Prop:=n∈l/\∀z∈l,z<=n
section
variable{P:fP}[Tz P][Loud P]{H:Hp}
theorem E8{l:List Int}(h:1<=l.length):l.take 1=[l[0]]:=by
 match l,h with
 | a :: t,_=>rfl
def Wf8{l:List Int}(g:dF H v l)(s:1<=l.length/\l.length<=1000000):LL.Zb P 258 #[v] H λv b=>H=b/\∃n,v=vi n/\sY n l:=by
 refine aU.m (fO Wfk) rfl ?_;unfold E4;refine Y ?_;refine YH g rfl ?_;refine OJ (λo=>?_) (λo=>?_)
 ·exact absurd o O
 refine Y ?_;refine ZB 0 g O λa i=>Y ?_;refine Z8 i (Y ?_);refine Yp (l.length-1) (λj (m:Int) b=>H=b/\sY m (l.take (j+1))) (λj m=>[(0,v),(3,vi m),(4,vi ((j:Int)+1))]) (λ_ _=>[]) (l[0]'O) ⟨rfl,by rw[E8 s.1];exact⟨iO.2 rfl,λz k=>by rw[iO.1 k];exact qAO _⟩⟩ V trivial ?_;rintro j m _ t ⟨rfl,e⟩;refine Y ?_;refine YH g rfl ?_;refine OJ (λq=>?_) (λq=>?_)
 ·have c:j+1<l.length:=O;have p:(j:Int)+1=((j+1:Nat):Int):=rfl;refine Y ?_;rw[p];refine ZB (j+1) g c λa i=>Y ?_;refine Z8 i (Y ?_);refine yG rfl rfl (Y ?_);refine uI (I:=λj (m:Int) b=>H=b/\sY m (l.take (j+1))) (env:=λj m=>[(0,v),(3,vi m),(4,vi ((j:Int)+1))]) (box:=λ_ _=>[]) (max m l[j+1]) O ⟨rfl,?_⟩ V trivial rfl;rw[BY c];refine⟨?_,λz k=>?_⟩
  ·rcases Int.le_total m l[j+1]with h | h
   ·rw[Int.max_eq_right h];exact List.mem_append_right _ (iO.2 rfl)
   rw[Int.max_eq_left h];exact qCT _ e.1
  rcases qAj.1 k with h | h
  ·have:=e.2 z h;omega
  rw[iO.1 h];omega
 refine Y ?_;rw[qAH O]at e;exact⟨rfl,m,rfl,e⟩
def Wf7{l:List Int}(g:dF H v l)(s:1<=l.length/\l.length<=1000000):LL.Zb P 257 #[v] H λv b=>H=b/\∃n,v=vi n/\sX n l:=by
 refine aU.m (fO Wfl) rfl ?_;unfold JH;refine Y ?_;refine YH g rfl ?_;refine OJ (λo=>?_) (λo=>?_)
 ·exact absurd o O
 refine Y ?_;refine ZB 0 g O λa i=>Y ?_;refine Z8 i (Y ?_);refine Yp (l.length-1) (λj (m:Int) b=>H=b/\sX m (l.take (j+1))) (λj m=>[(0,v),(3,vi m),(4,vi ((j:Int)+1))]) (λ_ _=>[]) (l[0]'O) ⟨rfl,by rw[E8 s.1];exact⟨iO.2 rfl,λz k=>by rw[iO.1 k];exact qAO _⟩⟩ V trivial ?_;rintro j m _ t ⟨rfl,e⟩;refine Y ?_;refine YH g rfl ?_;refine OJ (λq=>?_) (λq=>?_)
 ·have c:j+1<l.length:=O;have p:(j:Int)+1=((j+1:Nat):Int):=rfl;refine Y ?_;rw[p];refine ZB (j+1) g c λa i=>Y ?_;refine Z8 i (Y ?_);refine EH rfl rfl (Y ?_);refine uI (I:=λj (m:Int) b=>H=b/\sX m (l.take (j+1))) (env:=λj m=>[(0,v),(3,vi m),(4,vi ((j:Int)+1))]) (box:=λ_ _=>[]) (min m l[j+1]) O ⟨rfl,?_⟩ V trivial rfl;rw[BY c];refine⟨?_,λz k=>?_⟩
  ·rcases Int.le_total m l[j+1]with h | h
   ·rw[Int.min_eq_left h];exact qCT _ e.1
   rw[Int.min_eq_right h];exact List.mem_append_right _ (iO.2 rfl)
  rcases qAj.1 k with h | h
  ·have:=e.2 z h;omega
  rw[iO.1 h];omega
 refine Y ?_;rw[qAH O]at e;exact⟨rfl,m,rfl,e⟩
def Dj{l:List Int}{x:Int}{r:Nat}(U:pH H 3 v (Zd l) r)(w:fI H0 H)(R:H0 r=none)(hn:l.length<=100000) :
  LL.Zb P 191 #[vi x,v] H λv g=>fI H0 g/\∃A w,v=.agg #[vi A,vi w]/\sX A (x :: l)/\sY w (x :: l):=by
 have p:(Zd l).length=l.length:=by rw[Y7];exact qCo _
 have i:∀{Q:Value} {g:Hp},(∃n G,Q=.slice (some n) ((Zd l).length+1) G/\aM g n (Zd l++[vi x]))->dF g Q (l++[x]):=by rintro _ g ⟨n,G,rfl,q⟩;refine⟨some n,G,by rw[p,IN];rfl,λ_=>⟨n,rfl,?_⟩⟩;rw[yX,Co];exact q
 have u:∀{D g:Hp},fI H0 D->(∀c y,D c=some y->r≠c->g c=some y)->fI H0 g:=λS T c y q=>T c y (S c y q) (by rintro rfl;rw[R]at q;simp at q);refine aU.m (fO Wfp) rfl ?_;unfold JC;refine Y ?_;refine Z4 (cs:=[vi x]) (OL _) rfl λB s=>?_;have L:pH (H.ins B (.cells [vi x].toArray 3)) 3 v (Zd l) r:=by obtain⟨cap,pre,rest,e,I,J⟩:=U;exact⟨cap,pre,rest,e,Zt s _ _ I,J⟩
 have c1:aM (H.ins B (.cells [vi x].toArray 3)) ⟨B,0,none⟩ [vi x]:=VR;have V:=w.trans (Zt (o:=.cells [vi x].toArray 3) s);generalize H.ins B (.cells [vi x].toArray 3)=D at *;refine Y ?_;refine IU (fU jR) (fT t3) rfl rfl rfl L c1 rfl O O (OL _) λv2 F k1 k2 k3=>?_;have W:=u V k3;refine Y ?_;refine Zg (Wf7 (l:=l++[x]) (i k1) ⟨by simp,by rw[IN];show l.length+1<=_;omega⟩) ?_;rintro v _ ⟨rfl,A,rfl,k⟩;refine Y ?_;refine EH rfl rfl (Y ?_);refine Z4 (cs:=[vi x]) (OL _) rfl λC t=>?_;have M:pH (F.ins C (.cells [vi x].toArray 3)) 3 v (Zd l) r:=by obtain⟨cap,pre,rest,e,I,J⟩:=k2;exact⟨cap,pre,rest,e,Zt t _ _ I,J⟩
 have c3:aM (F.ins C (.cells [vi x].toArray 3)) ⟨C,0,none⟩ [vi x]:=VR;have X:=W.trans (Zt (o:=.cells [vi x].toArray 3) t);generalize F.ins C (.cells [vi x].toArray 3)=H3 at *;refine Y ?_;refine IU (fU jR) (fT t3) rfl rfl rfl M c3 rfl O O (OL _) λv4 H4 m1 m2 m3=>?_;have Z:=u X m3;refine Y ?_;refine Zg (Wf8 (l:=l++[x]) (i m1) ⟨by simp,by rw[IN];show l.length+1<=_;omega⟩) ?_;rintro v _ ⟨rfl,K,rfl,j⟩;refine Y ?_;refine yG rfl rfl (Y ?_);refine⟨Z,min x A,max x K,rfl,?_,?_⟩
 ·have a:=k.2 x (by simp);rw[Int.min_eq_right a];exact⟨(qAj.1 k.1).elim (λh=>qAm _ h) (λh=>by rw[iO.1 h];exact qAB),λz N=>k.2 z ((qAi.1 N).elim (λh=>by rw[h];simp) λh=>qCT _ h)⟩
 have a:=j.2 x (by simp);rw[Int.max_eq_right a];exact⟨(qAj.1 j.1).elim (λh=>qAm _ h) (λh=>by rw[iO.1 h];exact qAB),λz N=>j.2 z ((qAi.1 N).elim (λh=>by rw[h];simp) λh=>qCT _ h)⟩
def Bo{l:List Int}{b:Option Nat}(n:gL H0 H 3 v l b)(e:fI H0 H)(u:1<=l.length/\l.length<=100000) :
  LL.Zb P 122 #[v] H λv z=>fI H0 z/\∃lo e,v=.agg #[vi lo,vi e]/\sX lo l/\sY e l:=by
 have p:=n.sl;obtain⟨G,⟨_,I,_⟩ | ⟨r,cap,rest,rfl,rfl,h,i,B⟩⟩:=n.own
 ·omega
 have o:=n.fresh r rfl;obtain⟨x,t,rfl⟩:∃x t,l=x :: t:=by
  match l,u with
  | a :: t,_=>exact⟨a,t,rfl⟩
 refine aU.m (fO WfE) rfl ?_;unfold IY;refine Y ?_;refine ZB 0 p (by simp) λa C=>Y ?_;refine Z8 C (Y ?_);refine Zia (fU jR) (fT t3) (lo:=1) rfl rfl (by simp) ?_;have g:Zd (x :: t)=[vi x]++Zd t:=rfl;have q:(Zd t).length=t.length:=by rw[Y7];exact qCo _
 have c:pH H 3 (.slice (if cap=1 then some ⟨r,0,none⟩else(some (⟨r,0,none⟩:Addr)).map (·.add (1 * 1))) ((x :: t).length-1) (cap-1)) (Zd t) r:=by
  have A:cap * Enc.sz Int=cap:=qCo _;rw[g]at h i;rw[A]at i;simp only[IN,qAF,List.length_nil,q]at i B;by_cases s:cap=1
  ·subst s;have:t=[]:=qBj.1 O;subst this;exact⟨0,[],[vi x]++rest,by simp[Zd],by simpa[Zd]using h,by simp[Zd],by simp⟩
  refine⟨cap-1,[vi x],rest,?_,by rw[<-qAE];exact h,O,O⟩;rw[iF s,q];rfl
 generalize(Value.slice (if cap=1 then some ⟨r,0,none⟩else(some (⟨r,0,none⟩:Addr)).map (·.add (1 * 1))) ((x :: t).length-1) (cap-1))=w at *;refine Y ?_;refine Zg (Dj c e o (by simp at u;omega)) ?_;rintro v F ⟨D,lo,j,rfl,k⟩;refine Y ?_;exact⟨D,lo,j,rfl,k⟩
end
end
variable{f:jV}{r:R5}{x:Int}{r3:Nat}
def Ca{P:fP}{σ:fG}{H:Hp}{a:Ex->fG->Hp->Prop}{e g h:List (NI×Option Bool)}(b:P.still H.gh=false)(i:ZZ P e (a .normal) σ H)(j:ZZ P g (a .normal) σ H)(k:ZZ P h (a .normal) σ H):(Zc.jC [e,g,h]).m P a σ H:=
 ⟨b,λl c=>by simp only[qAi,qBD,qCV]at c;rcases c with rfl | rfl | rfl<;>assumption⟩
def qS:Yw Tryz.prog 224=some (5,some (.agg #[vi 0,.slice none 0 0,.slice none 0 0,.slice none 0 0,.slice none 0 0]),104):=U
def y8{α:Type}{f:Int->List α}{b:Int}{x:α}:∀c:Nat,x∈kK f b c↔∃j:Nat,j<c/\x∈f (b-j)
 | 0=>by simp[kK]
 | c+1=>by
  rw[kK,qAj,y8 c];constructor
  ·rintro(h | ⟨j,g,a⟩)
   ·exact⟨c,O,h⟩
   exact⟨j,O,a⟩
  rintro⟨j,g,a⟩;by_cases e:j=c
  ·exact .inl (e ▸ a)
  exact .inr ⟨j,O,a⟩
def ES{f:jV}(b:iH f.pt){r:R5}:∀k m,k<=f.pt.length->m.Ok->r∈jB f k m->r.Ok
 | 0,m,_,a,h=>by
  rw[jB]at h;split at h
  ·rw[iO.1 h];exact a
  simp at h
 | k+1,m,i,a,h=>by obtain⟨e,l,n,o⟩:=iA b (show f.pt.length-(k+1)<f.pt.length by omega);rw[jB,e,y8]at h;obtain⟨j,g,c⟩:=h;exact ES b k _ O (IW a ⟨O,O⟩) c
def Ht(a:iH f.pt)(h:r∈gT f):r.Ok:=ES a _ _ (DO _) CK h
def Bl{k:rN}(h:lF (lB f k) r=true):lF f r=true:=by have e:lF (lB f k) r=(f.tp.all (FL f.pt r) && (f.sk++[k]).all (KC f.pt r)):=rfl;rw[e,qBO]at h;rw[lF];simp only[qAc]at h ⊢;exact⟨h.1,h.2.1⟩
def ET{f:jV}{s:rN}{r:R5}:∀k m,r∈jB (lB f s) k m->r∈jB f k m
 | 0,m,h=>by
  rw[jB]at h ⊢;split at h
  ·rename_i g;rw[qAa (Bl g)];exact h
  simp at h
 | k+1,m,h=>by rw[jB,y8]at h ⊢;obtain⟨j,a,b⟩:=h;exact⟨j,a,ET k _ b⟩
def EQ{s:rN}(h:r∈gT (lB f s)):r∈gT f:=ET _ _ h
section
variable{P:fP}[Tz P][Loud P]{H:Hp}
def Bw{v:Value}{g:Nat}(e:gJ H v f)(i:1<=f.pt.length/\f.pt.length<=1000)(j:kD f.pt<=x/\x<=jY f.pt)(c2:aM H ⟨g,0,none⟩ [vi x])(c3:aM H ⟨r3,0,none⟩ [vi 0]) :
  LL.Zb P 188 #[v,pt g,pt r3] H λv h=>H=h/\v=vi 0:=by
 have c:=e;obtain⟨A1,c1,A2,a,A3,b,rfl,k,l,n⟩:=e;refine aU.m (fO Wfs) rfl ?_;unfold I9;refine Y ?_;refine Z8 c2 (Y ?_);refine Zo (vs:=[.agg #[vi f.pk,.slice A1 f.pt.length c1,.slice A2 f.tp.length a,.slice A3 f.sk.length b],vi x]) (NF c i) ?_;rw[decide_eq_true j];refine Y ?_;refine Z8 c3 (Y ?_);refine Zo (vs:=[vi 0,vi 0,vi 959]) (nQ _ _ _) (Y ?_);exact⟨rfl,rfl⟩
def y7{z:Int}:LL.Zb P 121 #[vi x,vi z] H λv c=>fI H c/\∃b r3,v=.func (.func 188) #[] #[pt b,pt r3]/\aM c ⟨b,0,none⟩ [vi x]/\aM c ⟨r3,0,none⟩ [vi z]:=by refine aU.m (fO WfF) rfl ?_;unfold JX;refine Y ?_;refine Ug rfl (OL _) λb e=>?_;have l:=Zt (o:=.cells (vi x).cells 3) e;have j:aM (H.ins b (.cells (vi x).cells 3)) ⟨b,0,none⟩ [vi x]:=VR;generalize H.ins b (.cells (vi x).cells 3)=h at *;refine Y ?_;refine Ug rfl (OL _) λr3 g=>?_;have i:=Zt (o:=.cells (vi z).cells 3) g;have k:aM (h.ins r3 (.cells (vi z).cells 3)) ⟨r3,0,none⟩ [vi z]:=VR;generalize h.ins r3 (.cells (vi z).cells 3)=n at *;refine Y ?_;refine VW rfl rfl (Y ?_);exact⟨l.trans i,b,r3,rfl,j.inc i,k⟩
def Wf2{a:Nat}{A1 A2 A3:Option Addr}{c1 c2 c3:Nat}{w:Value}(c:gJ H (.agg #[vi f.pk,.slice A1 f.pt.length c1,.slice A2 f.tp.length c2,.slice A3 f.sk.length c3]) f)(e:iH f.pt)(g:r.Ok)(h:kD f.pt<=x/\x<=jY f.pt)
  (j:aM H ⟨a,0,none⟩ ([vi f.pk,.slice A1 f.pt.length c1,.slice A2 f.tp.length c2,.slice A3 f.sk.length c3]++[w])) (i:aM H ⟨r3,0,none⟩ [vi x]) :
  LL.Zb P 124 #[iZ r,pt a,pt r3] H λv b=>H=b/\v=vi (vZ f.pt r x):=by
 refine aU.m (fO WfC) rfl ?_;unfold I0;refine Y ?_;refine Zn (OL _) rfl (by rw[add_zero];exact YN j) rfl (Y ?_);refine Z8 i (Y ?_);refine Zo (NE c e g h) (Y ?_);exact⟨rfl,rfl⟩
theorem Hi{k v:Value}{l:List R5}{g:R5->Int}(q:dF H v l)(N:l.length<=1000)(D:∀r∈l,∀e,fI H e->Z5 P k #[iZ r] e λw p=>e=p/\w=vi (g r)) :
  LL.Zb P 123 #[v,k] H λJ e=>fI H e/\∃z,gL H e 3 J (l.map g) z:=by
 obtain⟨A,c,rfl,F⟩:=id q;refine aU.m (fO WfD) rfl ?_;unfold IZ;refine Y ?_;refine Yp (α:=Value×Option Nat) l.length (λj s e=>fI H e/\gL H e 3 s.1 ((l.take j).map g) s.2) (λj s=>[(1,k),(5,s.1),(8,.slice A l.length c),(9,vi l.length),(10,vi j)]) (λ_ _=>[]) (.slice none 0 0,none) ⟨.refl _,.nil _ _ _⟩ V trivial ?_;rintro j ⟨w,b⟩ t M ⟨n,o⟩;simp only at o;refine OJ (λB=>?_) (λB=>?_)
 ·have h:j<l.length:=O;refine Y ?_;refine ZB j (q.inc n) h λa C=>Y ?_;refine YL C (Y ?_);refine ZP (vs:=[iZ l[j]]) rfl rfl (D _ (iN h) t n) ?_;rintro v _ ⟨rfl,rfl⟩;refine Y ?_;refine Z4 (cs:=[vi (g l[j])]) (OL _) rfl λR i=>Y ?_;refine VX (l':=[g l[j]]) (fU jR) (fU jR) (fT t3) rfl (by decide) (n.trans (Zt i)) (o.ins i) (Z3 (l:=[g l[j]])) (W6 _) (by simp;omega) O rfl rfl (OL _) λK L u k1 G Q=>Y ?_;refine uI (I:=λj (s:Value×Option Nat) e=>fI H e/\gL H e 3 s.1 ((l.take j).map g) s.2) (env:=λj s=>[(1,k),(5,s.1),(8,.slice A l.length c),(9,vi l.length),(10,vi j)]) (box:=λ_ _=>[]) (K,u) h ⟨k1,?_⟩ V trivial rfl;rw[BY h,qBt];exact G
 have:j=l.length:=O;subst this;rw[qAh]at o;refine Y ?_;exact⟨n,b,o⟩
def IJ{bv:Value}(hg:aM H ⟨2,0,none⟩ [vf 401,vf 402,vf 403])(hf:gJ H bv f)(Z:tB f)(hx:kD f.pt<=x/\x<=jY f.pt) :
  LL.Zb P 42 #[bv,vi x] H λv B=>fI H B/\∃lo M,v=.tuple #[.agg #[vi lo,vi M],vi 0]/\sX lo ((gT f).map λr=>vZ f.pt r x)/\sY M ((gT f).map λr=>vZ f.pt r x):=by
 have Q:=hf;have hn:=Z.1.pt.n;obtain⟨A1,c1,A2,c2,A3,c3,rfl,_⟩:=hf;refine aU.m (fO WfQ) rfl ?_;unfold IH;refine OB ?_;refine Ug rfl (OL _) λr3 hr3=>?_;have w:=Zt (o:=.cells (vi x).cells 3) hr3;have X:aM (H.ins r3 (.cells (vi x).cells 3)) ⟨r3,0,none⟩ [vi x]:=VR;generalize H.ins r3 (.cells (vi x).cells 3)=H1 at *;refine OB ?_;refine VD (ι:=Nat×Value) (λs B=>fI H B/\aM B ⟨r3,0,none⟩ [vi x]/\∃A c,s.2=.slice A (gT f).length c/\dF B s.2 (gT f)/\aM B ⟨s.1,0,none⟩ ([vi f.pk,.slice A1 f.pt.length c1,.slice A2 f.tp.length c2,.slice A3 f.sk.length c3]++[s.2])) (λs=>[(3,pt r3),(4,vi 0),(5,vi 0),(6,pt s.1),(7,vi 0)]) (λ_=>[(4,[vi 0,vi 0])]) ?_ ?_
 ·have R:∀{u:Hp} {D F:Nat},fI H u->aM u ⟨D,0,none⟩ [vi x]->aM u ⟨F,0,none⟩ [vi 0]->LL.Zb P 120 #[.agg #[vi f.pk,.slice A1 f.pt.length c1,.slice A2 f.tp.length c2,.slice A3 f.sk.length c3],.func (.func 188) #[] #[pt D,pt F]] u λv B=>fI u B/\∃A c,v=.tuple #[.agg #[vi f.pk,.slice A1 f.pt.length c1,.slice A2 f.tp.length c2,.slice A3 f.sk.length c3,.slice A (gT f).length c],vi 0]/\∃G,gL u B 232 (.slice A (gT f).length c) (gT f) G:=by
   intro u D F i2 S T;refine LL.Zb.mono (NA (q:=0) (aM.inc hg i2) (Q.inc i2) O λ_=>Yv (first:=#[]) (cap:=#[pt D,pt F]) (args:=#[.agg #[vi f.pk,.slice A1 f.pt.length c1,.slice A2 f.tp.length c2,.slice A3 f.sk.length c3]]) U (Bw (Q.inc i2) O hx S T)) ?_;rintro v B ⟨j,⟨s,_,_,h⟩ | ⟨_,h⟩⟩
   ·exact absurd ⟨Z,rfl⟩ h
   exact⟨j,h⟩
  refine Ca (OL _) ?_ ?_ ?_
  ·refine Y ?_;refine Z8 X (Y ?_);refine VY (fT qS) (OL _) λk i=>?_;refine ZuU OL (λb y hb=>Zt i _ _ hb) ?_;have p:=Zt (o:=.cells (Value.agg #[vi 0,.slice none 0 0,.slice none 0 0,.slice none 0 0,.slice none 0 0]).cells 224) i;have N:(H1.ins k (.cells (Value.agg #[vi 0,.slice none 0 0,.slice none 0 0,.slice none 0 0,.slice none 0 0]).cells 224)) k=some (.cells [vi 0,.slice none 0 0,.slice none 0 0,.slice none 0 0,.slice none 0 0].toArray 224 (0,0),true):=Hp.aQ _ _ _;generalize H1.ins k (.cells (Value.agg #[vi 0,.slice none 0 0,.slice none 0 0,.slice none 0 0,.slice none 0 0]).cells 224)=u at *;refine Y ?_;refine Zg (vs:=[vi x,vi 0]) y7 ?_;rintro v W ⟨j,D,F,rfl,S,T⟩;refine Zz OL (Y ?_);refine Zg (vs:=[.agg #[vi f.pk,.slice A1 f.pt.length c1,.slice A2 f.tp.length c2,.slice A3 f.sk.length c3],.func (.func 188) #[] #[pt D,pt F]]) (R ((w.trans p).trans j) S T) ?_;rintro v H4 ⟨t,A,c,rfl,G,C⟩;refine Y ?_;refine yU (v:=.agg #[vi f.pk,.slice A1 f.pt.length c1,.slice A2 f.tp.length c2,.slice A3 f.sk.length c3,.slice A (gT f).length c]) (fT qS) rfl rfl (t _ _ (j _ _ N)) rfl rfl rfl (OL _) ?_;refine Zz OL (Y ?_);refine⟨(k,.slice A (gT f).length c),⟨qC (((w.trans p).trans j).trans t) (YP w i),X.inc (qC ((p.trans j).trans t) (i)),A,c,rfl,gL.sl (H0:=H) (E:=232) (b:=G) ⟨C.own.sub λa z e I=>?_,λq e=>?_⟩,VR⟩,V,V,rfl⟩
   ·rw[Hp.aR _ _ (by rintro rfl;have:=C.fresh _ e;rw[j _ _ N]at this;simp at this)];exact I
   exact YP ((w.trans p).trans j) (C.fresh q e)
  ·refine Y ?_;refine Z8 X (Y ?_);refine Zg (vs:=[vi x,vi 0]) y7 ?_;rintro v u ⟨j,D,F,rfl,S,T⟩;refine Zz OL (Y ?_);refine VY (fT qS) (OL _) λk i=>?_;refine Zz OL ?_;have p:=Zt (o:=.cells (Value.agg #[vi 0,.slice none 0 0,.slice none 0 0,.slice none 0 0,.slice none 0 0]).cells 224) i;have N:(u.ins k (.cells (Value.agg #[vi 0,.slice none 0 0,.slice none 0 0,.slice none 0 0,.slice none 0 0]).cells 224)) k=some (.cells [vi 0,.slice none 0 0,.slice none 0 0,.slice none 0 0,.slice none 0 0].toArray 224 (0,0),true):=Hp.aQ _ _ _;generalize u.ins k (.cells (Value.agg #[vi 0,.slice none 0 0,.slice none 0 0,.slice none 0 0,.slice none 0 0]).cells 224)=W at *;refine Y ?_;refine Zg (vs:=[.agg #[vi f.pk,.slice A1 f.pt.length c1,.slice A2 f.tp.length c2,.slice A3 f.sk.length c3],.func (.func 188) #[] #[pt D,pt F]]) (R ((w.trans j).trans p) (S.inc p) (T.inc p)) ?_;rintro v H4 ⟨t,A,c,rfl,G,C⟩;refine Y ?_;refine yU (v:=.agg #[vi f.pk,.slice A1 f.pt.length c1,.slice A2 f.tp.length c2,.slice A3 f.sk.length c3,.slice A (gT f).length c]) (fT qS) rfl rfl (t _ _ N) rfl rfl rfl (OL _) ?_;refine Zz OL (Y ?_);refine⟨(k,.slice A (gT f).length c),⟨qC (((w.trans j).trans p).trans t) (YP (w.trans j) i),X.inc (qC ((j.trans p).trans t) (YP j i)),A,c,rfl,gL.sl (H0:=H) (E:=232) (b:=G) ⟨C.own.sub λa z e I=>?_,λq e=>?_⟩,VR⟩,V,V,rfl⟩
   ·rw[Hp.aR _ _ (by rintro rfl;have:=C.fresh _ e;rw[N]at this;simp at this)];exact I
   exact YP ((w.trans j).trans p) (C.fresh q e)
  refine Y ?_;refine Z8 X (Y ?_);refine Zg (vs:=[vi x,vi 0]) y7 ?_;rintro v u ⟨j,D,F,rfl,S,T⟩;refine Zz OL (Y ?_);refine Zg (vs:=[.agg #[vi f.pk,.slice A1 f.pt.length c1,.slice A2 f.tp.length c2,.slice A3 f.sk.length c3],.func (.func 188) #[] #[pt D,pt F]]) (R (w.trans j) S T) ?_;rintro v W ⟨t,A,c,rfl,G,C⟩;refine Y ?_;refine VY (fT qS) (OL _) λk i=>?_;refine Zz OL ?_;have k4:∀a z,G=some a->W a=some z->k≠a:=λa z e I e2=>by subst e2;rw[i]at I;simp at I
  have p:=Zt (o:=.cells (Value.agg #[vi 0,.slice none 0 0,.slice none 0 0,.slice none 0 0,.slice none 0 0]).cells 224) i;have N:(W.ins k (.cells (Value.agg #[vi 0,.slice none 0 0,.slice none 0 0,.slice none 0 0,.slice none 0 0]).cells 224)) k=some (.cells [vi 0,.slice none 0 0,.slice none 0 0,.slice none 0 0,.slice none 0 0].toArray 224 (0,0),true):=Hp.aQ _ _ _;generalize W.ins k (.cells (Value.agg #[vi 0,.slice none 0 0,.slice none 0 0,.slice none 0 0,.slice none 0 0]).cells 224)=H4 at *;refine Y ?_;refine yU (v:=.agg #[vi f.pk,.slice A1 f.pt.length c1,.slice A2 f.tp.length c2,.slice A3 f.sk.length c3,.slice A (gT f).length c]) (fT qS) rfl rfl (N) rfl rfl rfl (OL _) ?_;refine Zz OL (Y ?_);refine⟨(k,.slice A (gT f).length c),⟨qC (((w.trans j).trans t).trans p) (YP ((w.trans j).trans t) i),X.inc (qC ((j.trans t).trans p) (YP (j.trans t) i)),A,c,rfl,gL.sl (H0:=H) (E:=232) (b:=G) ⟨C.own.sub λa z e I=>?_,λq e=>?_⟩,VR⟩,V,V,rfl⟩
  ·rw[Hp.aR _ _ (qAo (k4 _ _ e I))];exact p _ _ I
  exact YP (w.trans j) (C.fresh q e)
 rintro⟨k,_⟩ u ⟨i2,b2,A,c,rfl,s2,b6⟩;simp only at s2 b6;refine Y ?_;refine Zh (OL _) rfl (mG b6 rfl) (Y ?_);refine VW rfl rfl (Y ?_);have pD:=EP Z.1.pt;refine Zg (vs:=[.slice A (gT f).length c,.func (.func 124) #[] #[pt k,pt r3]]) (Hi (g:=λr=>vZ f.pt r x) s2 O λr hr B M=>Yv (first:=#[]) (cap:=#[pt k,pt r3]) (args:=#[iZ r]) U (Wf2 (Q.inc (i2.trans M)) Z.1.pt (Ht Z.1.pt hr) hx (b6.inc M) (b2.inc M))) ?_;rintro v W ⟨j,G,o3⟩;refine Y ?_;refine Zg (vs:=[v]) (Bo o3 j ⟨?_,by simp;omega⟩) ?_
 ·rw[qAd];exact qBY.2 Z.2
 rintro v H4 ⟨t,lo,M,rfl,k1,k2⟩;refine Y ?_;exact⟨i2.trans t,lo,M,rfl,k1,k2⟩
end
