import Derived.Test.YtmfealhfgccmfaaGreatDoorTM03
set_option linter.all false
set_option maxHeartbeats 8000000
set_option maxRecDepth 100000
def AN{G:Prop}(h:G:=by refine Y ?_;refine Zg (vs:=[]) (done (.refl _)) ?_;rintro v H1 rfl;refine Y ?_;rfl):G:=h
open Go Go.LL
namespace Go.Proofs
section
variable{m m':iV}{u w:Value}
section
variable{P:fP}[Tz P][Loud P]{H:Hp}
def Re:Value:=.agg #[vi 0,.slice none 0 0,.slice none 0 0,.slice none 0 0]
def Fc(h:gT H m)(pre:nE m)(b:∀t∈m.tp,t.pl.length<=1000000)(a:m.tp.length<=1000000) :
  LL.Zb P 102 #[m.v] H λv f=>fI H f/\((mJ m/\∃m',v=.tuple #[m'.v,vi 0]/\gT f m'/\lT m m')\/(¬ mJ m/\∃s,s≠0/\v=.tuple #[Re,vi s])):=by
 refine aU.m (fO Dl) rfl ?_;unfold IR iV.v;refine Y ?_;refine Zg (vs:=[m.v,vf 109]) (JR h pre b a) ?_;rintro v q ⟨i1,⟨hg,A,c,rfl,C⟩ | ⟨hg,s,h1,rfl⟩⟩;rotate_left
 ·exact F6
 unfold y6;have l:∀x∈m.bd,x.kn.length<=1000000:=λx n=>by obtain⟨i,k,rfl⟩:=qAz.1 n;have:=(pre.bd i k).kl;omega
 have:=pre.n1;have:=pre.n2;refine Y ?_;refine Zg (vs:=[m.v]) (Fl (h.inc i1) O O a l b) ?_;rintro v z ⟨o,m',rfl,e,p,_⟩;unfold iV.v;refine Y ?_;exact⟨i1.trans o,.inl ⟨hg,m',rfl,e,p⟩⟩
def nF.v(t:nF):Value:=.agg #[.slice t.A t.pl.length t.c,vi t.lo,vi t.hi]
def oH.of(h:oH m)(c:m'.kC=m.kC)(e:m'.pc=m.pc)(f:m'.bd=m.bd)(i:m'.tp=m.tp):oH m':=by obtain⟨s,p,b,t,_,_,_,_,_,_⟩:=m;obtain⟨k,j,a,l,_,_,_,_,_,_⟩:=m';obtain rfl:k=s:=c;obtain rfl:j=p:=e;obtain rfl:a=b:=f;obtain rfl:l=t:=i;exact⟨⟨h.kC,h.n1,h.pc,h.n2,h.bd⟩,h.n3,h.tp⟩
theorem Gr{t:nF}(C:gT H m)(pre:nE m)(k:∀t∈m.tp,t.pl.length<=1000000)(z:m.tp.length<=1000000)(T:dF H (.slice t.A t.pl.length t.c) t.pl)(I:t.pl.length<=1000000) :
  LL.Zb P 30 #[m.v,t.v] H λv K=>fI H K/\((oH m/\mJ (lF m t)/\∃m',v=.tuple #[m'.v,vi 0]/\gT K m'/\lT (lF m t) m')\/(¬ (oH m/\mJ (lF m t))/\∃s,s≠0/\v=.tuple #[Re,vi s])):=by
 refine aU.m (fO De) rfl ?_;unfold JL iV.v nF.v;refine Y ?_;refine Zg (vs:=[m.v]) (JO C pre k z) ?_;rintro v R ⟨e,s,rfl,o⟩;refine OJ (λi=>?_) (λi=>?_)
 ·refine Y ?_;exact⟨e,.inr ⟨λg=>i (o.2 g.1),s,i,rfl⟩⟩
 have ok:=o.1 O;have U:=ok.n3;refine Y ?_;refine Zg (vs:=[.slice m.A3 m.tp.length m.c3]) (HQ (C.inc e).tp O) ?_;rintro v Z ⟨X,b2,V⟩;refine⟨(OL _).trans (OL _).symm,?_⟩;refine Y ?_;refine Z4 (OL _) rfl λr G=>?_;refine⟨(OL _).trans (OL _).symm,?_⟩;refine Y ?_;have on:=N8 (α:=nF) (l:=[t]) (E:=73) G;refine uG (H0:=R) (l':=[t]) (fU mV) (fU mV) (fT pH) rfl (by decide) (X.trans (YB G)) (V.inc (Zt G)) on.sl (sU (λ_=>rfl) [t]) (by show m.tp.length+1<=_;omega) O rfl rfl (OL _) λv' S b3 q M g3=>?_;obtain⟨A3,c3,rfl,_⟩:=id M.sl;refine Y ?_;have F:gT S { lF m t with A3:=A3,c3:=c3 }:=by
  have h:=C.inc (e.trans q.inc);refine⟨h.pc,h.bd,M.sl,h.kn,λx a=>?_,h.q1,h.q2⟩;rcases qAj.1 a with a | a
  ·exact h.pl x a
  rw[iO.1 a];exact T.inc (e.trans q.inc)
 have n:∀x∈(lF m t).tp,x.pl.length<=1000000:=λx a=>by
  rcases qAj.1 a with a | a
  ·exact k x a
  rw[iO.1 a];exact I
 have j:mJ { lF m t with A3:=A3,c3:=c3 }↔mJ (lF m t):=⟨λh=>⟨h.1.of rfl rfl rfl rfl,h.2⟩,λh=>⟨h.1.of rfl rfl rfl rfl,h.2⟩⟩;refine Zg (vs:=[({ lF m t with A3:=A3,c3:=c3 }:iV).v]) (Fc F ⟨pre.kC,pre.n1,pre.pc,pre.n2,pre.bd⟩ n (by show(m.tp++[t]).length<=_;rw[IN,qAW];omega)) ?_;rintro v H4 ⟨N,⟨B,m',rfl,D,f⟩ | ⟨B,s,i,rfl⟩⟩
 ·unfold iV.v;refine Y ?_;exact⟨e.trans (q.inc.trans N),.inl ⟨ok,j.1 B,m',rfl,D,⟨f.kC,f.pc,f.bl,f.bd,f.tl,f.tp⟩⟩⟩
 unfold Re;refine Y ?_;exact⟨e.trans (q.inc.trans N),.inr ⟨λg=>B (j.2 g.2),s,i,rfl⟩⟩
theorem Fb{t:nF}(o:gT H m)(z:m.tp.length<=1000000)(B:dF H (.slice t.A t.pl.length t.c) t.pl) :
  LL.Zb P 32 #[m.v,t.v] H λv k=>fI H k/\∃m',v=m'.v/\gT k m'/\lT (lF m t) m':=by
 refine aU.m (fO Dg) rfl ?_;unfold IK iV.v nF.v;refine Y ?_;refine rT (fU mV) (fT pH) (OL _) λr j=>?_;refine⟨(OL _).trans (OL _).symm,?_⟩;refine Y ?_;refine uG (l:=([]:List nF)) (l':=m.tp) (H0:=H) (b:=some r) (fU mV) (fU mV) (fT pH) rfl (by decide) (YB j) ⟨wA,λq e=>by obtain rfl:=aT e;exact j⟩ (o.tp.inc (Zt j)) (sU (λ_=>rfl) _) (by simp;omega) O rfl rfl (OL _) λD F I C p _=>?_;rw[qAt]at p;refine⟨(OL _).trans (OL _).symm,?_⟩;refine Y ?_;refine Z4 (OL _) rfl λQ a=>?_;refine⟨(OL _).trans (OL _).symm,?_⟩;refine Y ?_;have on:=N8 (α:=nF) (l:=[t]) (E:=73) a;refine uG (H0:=H) (l':=[t]) (fU mV) (fU mV) (fT pH) rfl (by decide) (C.trans (YB a)) (p.inc (Zt a)) on.sl (sU (λ_=>rfl) [t]) (by show m.tp.length+1<=_;omega) O rfl rfl (OL _) λD G J i n L=>?_;obtain⟨A3,c3,rfl,_⟩:=id n.sl;refine Y ?_;have h:=o.inc i.inc;refine⟨i.inc,{ lF m t with A3:=A3,c3:=c3 },rfl,⟨h.pc,h.bd,n.sl,h.kn,λx f=>?_,h.q1,h.q2⟩,⟨rfl,rfl,rfl,λ_ _ _=>⟨rfl,rfl,rfl⟩,rfl,λ_ _ _=>⟨rfl,rfl,rfl⟩⟩⟩;rcases qAj.1 f with f | f
 ·exact h.pl x f
 rw[iO.1 f];exact B.inc i.inc
end
def CN:Tryz.prog.underlying 57=some (.slice 45):=U
def QZ:Yw Tryz.prog 45=some (1,some (.slice none 0 0),24):=U
def Wfh(n:Nat)(l:List Int):Prop:=l.length=n/\∀x∈l,0<=x/\x<=959
def Hi:rP Tryz.prog 191=some ([("Name",9,0),("Length",31,1),("Bears",3,3)],false):=U
def Ci:BM Tryz.prog 191=false:=U
section
variable{P:fP}[Tz P]{H:Hp}{g:Bool}{d:Nat}
def Ch{a:wF}(Q:Bool->Bool->Hp->Prop)(f:Q true g H):fZ P.toPQ (Op.equalIn (d+1+1+1) 191 (.agg #[.string a.nm,vi a.lo,vi a.hi,vi a.br]) (.agg #[.string a.nm,vi a.lo,vi a.hi,vi a.br])) Q g H:=by
 have s:∀(x:ByteArray) (y z u:Int) (Q:Value->Bool->Hp->Prop) g H,fZ P.toPQ (part 9 #[.string x,vi y,vi z,vi u] 0) Q g H↔Q (.string x) g H:=λx y z u Q g H=>Ge rfl Q;have t:∀(x:ByteArray) (y z u:Int) (Q:Value->Bool->Hp->Prop) g H,fZ P.toPQ (part 31 #[.string x,vi y,vi z,vi u] 1) Q g H↔Q (.agg #[vi y,vi z]) g H:=λx y z u Q g H=>L7 N7 Q;have A:∀(x:ByteArray) (y z u:Int) (Q:Value->Bool->Hp->Prop) g H,fZ P.toPQ (part 3 #[.string x,vi y,vi z,vi u] 3) Q g H↔Q (vi u) g H:=λx y z u Q g H=>Vg rfl Q;obtain⟨D,E,f3,i,⟨j,B,n⟩,⟨k,C,o⟩,⟨l,t3,q⟩,h⟩:=C5 (p:=P.toProgram) (by rw[Tz.prog (P:=P)];exact Hi);rw[Op.equalIn];simp only[Zf,ZA i,Vw,h,oR,qAq,Zj];simp only[j,k,l,B,C,t3,n,o,q,Zf,qBr,qBp,List.forIn_nil];have e:(a.nm == a.nm)=true:=by show(a.nm.data == a.nm.data)=true;simp
 simp[s,t,A,yT,eq9,oC (.inr C7),Zf,Zj,e];exact f
end
section
variable{P:fP}[Tz P][Loud P]{H:Hp}
def Wfn{a:List NK}(f:dF H u a)(hb:dF H w a)(o:a.length<=1000000):LL.Zb P 177 #[u,w] H λv e=>H=e/\v=vb true:=by
 refine aU.m (fO Bn) rfl ?_;unfold IW;refine Y ?_;refine YH f rfl (Y ?_);refine YH hb rfl ?_;refine OJ (λi=>?_) (λi=>?_)
 ·exact absurd rfl i
 refine Y ?_;refine ZC a.length (λj e=>H=e) (λj=>[(0,u),(1,w),(4,vb false),(5,vi j)]) (λ_=>[]) rfl V trivial ?_;rintro j _ n rfl;refine Y ?_;refine YH f rfl ?_;refine OJ (λk=>?_) (λk=>?_)
 ·have c:j<a.length:=O;refine Y ?_;refine ZB j f c λp l=>Y ?_;refine YL (cs:=[vi a[j].lo,vi a[j].hi]) l (Y ?_);refine ZB j hb c λq h=>Y ?_;refine YL (cs:=[vi a[j].lo,vi a[j].hi]) h (Y ?_);refine CB (b:=decide (a[j].lo=a[j].lo/\a[j].hi=a[j].hi)) (xs:=#[vi a[j].lo,vi a[j].hi]) (ys:=#[vi a[j].lo,vi a[j].hi]) Kc (λQ g H h=>WT (.inr C7) Q h) rfl rfl ?_;rw[decide_eq_true (⟨rfl,rfl⟩:a[j].lo=a[j].lo/\a[j].hi=a[j].hi)];exact vO
 refine Y ?_;exact⟨rfl,rfl⟩
def Wfg{a b:qY}(p:b.nm=a.nm)(q:b.lg=a.lg)(s:b.kn=a.kn)(t:dF H (.slice a.A a.kn.length a.c) a.kn)(hb:dF H (.slice b.A b.kn.length b.c) b.kn)(x:a.kn.length<=1000000) :
  LL.Zb P 103 #[.agg #[.string a.nm,vi a.lg,.slice a.A a.kn.length a.c],.agg #[.string b.nm,vi b.lg,.slice b.A b.kn.length b.c]] H λv j=>H=j/\v=vb true:=by
 obtain⟨n,l,A,k,c⟩:=a;obtain⟨h,f,i,e,o⟩:=b;obtain rfl:h=n:=p;obtain rfl:f=l:=q;obtain rfl:e=k:=s;refine aU.m (fO Dm) rfl ?_;unfold IS;refine Y ?_;refine L8 rfl rfl ?_;rw[show(h.toList == h.toList)=true by simp];refine Y ?_;rw[decide_eq_true (rfl:f=f)];refine Y ?_;refine Z7 (vs:=[.slice A e.length c,.slice i e.length o]) rfl (Wfn t hb x) ?_;rintro v _ ⟨rfl,rfl⟩;refine Y ?_;exact⟨rfl,rfl⟩
end
def lT.of2{a b:iV}(c:lT m a)(e:lT m b):lT a b where
 kC:=by rw[c.kC,e.kC]
 pc:=by rw[c.pc,e.pc]
 bl:=by rw[c.bl,e.bl]
 bd:=λi h p=>by
  have f:i<m.bd.length:=by rw[<-c.bl];exact h
  obtain⟨j,k,a3⟩:=c.bd i f h;obtain⟨l,n,o⟩:=e.bd i f p;exact⟨l.trans j.symm,n.trans k.symm,o.trans a3.symm⟩
 tl:=by rw[c.tl,e.tl]
 tp:=λi h p=>by
  have f:i<m.tp.length:=by rw[<-c.tl];exact h
  obtain⟨j,k,a3⟩:=c.tp i f h;obtain⟨l,n,o⟩:=e.tp i f p;exact⟨l.trans j.symm,n.trans k.symm,o.trans a3.symm⟩
section
variable{P:fP}[Tz P][Loud P]{H:Hp}
def Gp(N:gT H m)(q:gT H m')(s:lT m m')(l1:m.pc.length<=1000000)(l2:m.bd.length<=1000000)(l3:m.tp.length<=1000000)(l4:∀x∈m.bd,x.kn.length<=1000000)(l5:∀x∈m.tp,x.pl.length<=1000000) :
  LL.Zb P 31 #[m.v,m'.v] H λv K=>H=K/\v=vb true:=by
 have Z:∀{z:Int},(!decide (z=z))=false:=λ{z}=>by rw[decide_eq_true rfl];rfl
 have ev:m'.v=.agg #[vi m.kC,.slice m'.A1 m.pc.length m'.c1,.slice m'.A2 m.bd.length m'.c2,.slice m'.A3 m.tp.length m'.c3]:=by unfold iV.v;rw[s.kC,s.pc,s.bl,s.tl]
 have b1:dF H (.slice m'.A1 m.pc.length m'.c1) m.pc:=by have:=q.pc;rw[s.pc]at this;exact this
 have b2:dF H (.slice m'.A2 m.bd.length m'.c2) m'.bd:=by have:=q.bd;rw[s.bl]at this;exact this
 have b3:dF H (.slice m'.A3 m.tp.length m'.c3) m'.tp:=by have:=q.tp;rw[s.tl]at this;exact this
 rw[ev];refine aU.m (fO Df) rfl ?_;unfold JM iV.v;refine Y ?_;rw[Z];refine Y ?_;rw[Z];refine Y ?_;rw[Z];refine Y ?_;rw[Z];refine Y ?_;refine ZC m.pc.length (λj K=>H=K) (λj=>[(2,vi 0),(3,vi 0),(5,vi j)]) (λ_=>[(2,[vi m.kC,.slice m.A1 m.pc.length m.c1,.slice m.A2 m.bd.length m.c2,.slice m.A3 m.tp.length m.c3]),(3,[vi m.kC,.slice m'.A1 m.pc.length m'.c1,.slice m'.A2 m.bd.length m'.c2,.slice m'.A3 m.tp.length m'.c3])]) rfl V V ?_;rintro j _ hj rfl;refine OJ (λg1=>?_) (λg1=>?_)
 ·have R:j<m.pc.length:=O;refine Y ?_;refine ZB j N.pc R λa n=>Y ?_;refine YL (cs:=[.string m.pc[j].nm,vi m.pc[j].lo,vi m.pc[j].hi,vi m.pc[j].br]) n (Y ?_);refine ZB j b1 R λa n=>Y ?_;refine YL (cs:=[.string m.pc[j].nm,vi m.pc[j].lo,vi m.pc[j].hi,vi m.pc[j].br]) n (Y ?_);refine CB (b:=true) (xs:=#[.string m.pc[j].nm,vi m.pc[j].lo,vi m.pc[j].hi,vi m.pc[j].br]) (ys:=#[.string m.pc[j].nm,vi m.pc[j].lo,vi m.pc[j].hi,vi m.pc[j].br]) Ci (λQ g H hq=>Ch Q hq) rfl rfl (Y ?_);exact⟨⟨j+1,O⟩,gI O,rfl,V,V,rfl⟩
 refine Y ?_;refine ZC m.bd.length (λj K=>H=K) (λj=>[(2,vi 0),(3,vi 0),(6,vi j)]) (λ_=>[(2,[vi m.kC,.slice m.A1 m.pc.length m.c1,.slice m.A2 m.bd.length m.c2,.slice m.A3 m.tp.length m.c3]),(3,[vi m.kC,.slice m'.A1 m.pc.length m'.c1,.slice m'.A2 m.bd.length m'.c2,.slice m'.A3 m.tp.length m'.c3])]) rfl V V ?_;rintro i _ F rfl;refine OJ (λg2=>?_) (λg2=>?_)
 ·have p:i<m.bd.length:=O;have L:i<m'.bd.length:=by rw[s.bl];exact p
  obtain⟨S,T,U⟩:=s.bd i p L;refine Y ?_;refine ZB i N.bd p λa n=>Y ?_;refine YL (cs:=[.string m.bd[i].nm,vi m.bd[i].lg,.slice m.bd[i].A m.bd[i].kn.length m.bd[i].c]) n (Y ?_);refine ZB i b2 L λa n=>Y ?_;refine YL (cs:=[.string m'.bd[i].nm,vi m'.bd[i].lg,.slice m'.bd[i].A m'.bd[i].kn.length m'.bd[i].c]) n (Y ?_);refine Zo (vs:=[.agg #[.string m.bd[i].nm,vi m.bd[i].lg,.slice m.bd[i].A m.bd[i].kn.length m.bd[i].c],.agg #[.string m'.bd[i].nm,vi m'.bd[i].lg,.slice m'.bd[i].A m'.bd[i].kn.length m'.bd[i].c]]) (Wfg S T U (N.kn _ (iN p)) (q.kn _ (iN L)) (l4 _ (iN p))) (Y ?_);exact⟨⟨i+1,O⟩,gI O,rfl,V,V,rfl⟩
 refine Y ?_;refine ZC m.tp.length (λj K=>H=K) (λj=>[(2,vi 0),(3,vi 0),(7,vi j)]) (λ_=>[(2,[vi m.kC,.slice m.A1 m.pc.length m.c1,.slice m.A2 m.bd.length m.c2,.slice m.A3 m.tp.length m.c3]),(3,[vi m.kC,.slice m'.A1 m.pc.length m'.c1,.slice m'.A2 m.bd.length m'.c2,.slice m'.A3 m.tp.length m'.c3])]) rfl V V ?_;rintro k _ hk rfl;refine OJ (λg3=>?_) (λg3=>?_)
 ·have o:k<m.tp.length:=O;have C:k<m'.tp.length:=by rw[s.tl];exact o
  obtain⟨S,T,U⟩:=s.tp k o C;have p1:=N.pl _ (iN o);have p2:=q.pl _ (iN C);have p3:=l5 _ (iN o);refine Y ?_;refine ZB k N.tp o λa n=>?_;have n:aM H a [.slice m.tp[k].A m.tp[k].pl.length m.tp[k].c,vi m.tp[k].lo,vi m.tp[k].hi]:=n;refine Y ?_;refine Zn (cs:=[vi m.tp[k].lo,vi m.tp[k].hi]) (OL _) rfl (mG n rfl) rfl (Y ?_);refine ZB k b3 C λb hb=>?_;have hb:aM H b [.slice m'.tp[k].A m'.tp[k].pl.length m'.tp[k].c,vi m'.tp[k].lo,vi m'.tp[k].hi]:=hb;refine Y ?_;refine Zn (cs:=[vi m'.tp[k].lo,vi m'.tp[k].hi]) (OL _) rfl (mG hb rfl) rfl ?_;generalize hx:m.tp[k]=x at n hb p1 p2 p3 S T U ⊢;generalize hy:m'.tp[k]=y at n hb p1 p2 p3 S T U ⊢;obtain⟨xA,xp,xc,xl,xh⟩:=x;obtain⟨yA,X,yc,E,D⟩:=y;obtain rfl:X=xp:=S;obtain rfl:E=xl:=T;obtain rfl:D=xh:=U;refine Y ?_;refine CB (b:=decide (E=E/\D=D)) (xs:=#[vi E,vi D]) (ys:=#[vi E,vi D]) Kc (λQ g H hq=>WT (.inr C7) Q hq) rfl rfl ?_;rw[decide_eq_true (⟨rfl,rfl⟩:E=E/\D=D)];refine Y ?_;refine ZB k N.tp o λa2 t=>?_;rw[hx]at t;have t:aM H a2 ([.slice xA X.length xc]++[vi E,vi D]):=t;refine Y ?_;refine Zh (OL _) rfl (by rw[add_zero];exact YN t) (Y ?_);refine ZB k b3 C λb4 B=>?_;rw[hy]at B;have B:aM H b4 ([.slice yA X.length yc]++[vi E,vi D]):=B;refine Y ?_;refine Zh (OL _) rfl (by rw[add_zero];exact YN B) (Y ?_);refine Zo (vs:=[.slice xA X.length xc,.slice yA X.length yc]) (Wfo p1 p2 p3) (Y ?_);exact⟨⟨k+1,O⟩,gI O,rfl,V,V,rfl⟩
 refine Y ?_;exact⟨rfl,rfl⟩
end
def lB(a b:List Int):Int:=(b.map λx=>a.getD x.toNat 0).sum
def FA{a:List Int}(f:∀x∈a,0<=x/\x<=1000):∀b:List Int,0<=lB a b/\lB a b<=1000 * b.length
 | []=>by simp[lB]
 | x :: b=>by
  have h:=FA f b;have i:0<=a.getD x.toNat 0/\a.getD x.toNat 0<=1000:=by
   by_cases c:x.toNat<a.length
   ·rw[ZG c];exact f _ (iN c)
   rw[qAp,qAT O];simp
  have e:lB a (x :: b)=a.getD x.toNat 0+lB a b:=by simp[lB]
  rw[e,qAF];omega
def l8.len{n:Nat}{t:nF}(h:l8 n t):t.pl.length<=n:=by
 have key:∀j (b:j<t.pl.length),(j:Int)<=t.pl[j]:=by
  intro j;induction j with
  | zero=>intro b;exact(h.rg 0 b).1
  | succ j ih=>intro b;have:=ih O;have:=h.up j b;omega
 have c:=h.ne;have f:0<t.pl.length:=Nat.pos_of_ne_zero λe=>c (qBj.1 e);have:=key (t.pl.length-1) O;have:=(h.rg (t.pl.length-1) O).2;omega
section
variable{P:fP}[Tz P][Loud P]{H:Hp}
def Gq{a b:List Int}(o:dF H u a)(hb:dF H w b)(A:∀j (s:j<b.length),0<=b[j]/\b[j]<a.length)(l:∀x∈a,0<=x/\x<=1000)(E:b.length<=1000):LL.Zb P 171 #[u,w] H λv f=>H=f/\v=vi (lB a b):=by
 refine aU.m (fO Bl) rfl ?_;unfold IU;refine Y ?_;refine ZC b.length (λj f=>H=f) (λj=>[(0,u),(1,w),(5,vi (lB a (b.take j))),(6,vi j)]) (λ_=>[]) rfl V trivial ?_;rintro j _ s rfl;refine Y ?_;refine YH hb rfl ?_;refine OJ (λn=>?_) (λn=>?_)
 ·have c:j<b.length:=O;obtain⟨F,G⟩:=A j c;have e:lB a (b.take (j+1))=lB a (b.take j)+a.getD b[j].toNat 0:=by rw[BY c,lB,qBt,List.sum_append];simp only[qBm,qBM,List.sum_cons,List.sum_nil,Int.add_zero];rfl
  have k:b[j].toNat<a.length:=O;have B:=FA l (b.take j);have C:=l _ (iN k);have D:(b.take j).length<=j:=by rw[qAs];omega
  rw[ZG k]at e;have h:b[j]=((b[j].toNat:Nat):Int):=O;refine Y ?_;refine ZB j hb c λp t=>Y ?_;refine Z8 (v:=vi b[j]) t (Y ?_);refine yZ o rfl (by rw[<-h];rfl) rfl (i:=b[j].toNat) k λq z=>Y ?_;refine Z8 (v:=vi a[b[j].toNat]) z ?_;generalize a[b[j].toNat]=y at *;refine Y ?_;exact⟨⟨j+1,O⟩,gI O,rfl,⟨rfl,rfl,by rw[e];rfl,rfl,trivial⟩,trivial,rfl⟩
 have:j=b.length:=O;subst this;rw[qAh];refine Y ?_;exact⟨rfl,rfl⟩
def Gg{l:List Int}(B:gT H m)(ok:oH m)(E:dF H w l)(el:l.length=m.pc.length)(N:∀x∈l,0<=x/\x<=1000):LL.Zb P 99 #[m.v,w] H λv t=>H=t/\∃b,v=vb b:=by
 refine aU.m (fO Dj) rfl ?_;unfold IP iV.v;have Q:=ok.n1;have R:=ok.n3;refine Y ?_;refine ZC l.length (λj t=>H=t) (λj=>[(1,w),(2,vi 0),(4,vb false),(5,vi j)]) (λ_=>[(2,[vi m.kC,.slice m.A1 m.pc.length m.c1,.slice m.A2 m.bd.length m.c2,.slice m.A3 m.tp.length m.c3])]) rfl V V ?_;rintro j _ F rfl;refine Y ?_;refine YH E rfl ?_;refine OJ (λK=>?_) (λK=>?_)
 ·have D:j<l.length:=O;have z:j<m.pc.length:=O;refine Y ?_;refine ZB j E D λp M=>Y ?_;refine Z8 (v:=vi l[j]) M (Y ?_);refine ZB j B.pc z λa o=>?_;have o:aM H a [.string m.pc[j].nm,vi m.pc[j].lo,vi m.pc[j].hi,vi m.pc[j].br]:=o;refine Y ?_;refine Zh (v:=vi m.pc[j].lo) (OL _) rfl (by rw[add_zero];exact YN (cs:=[vi m.pc[j].lo]) (ds:=[vi m.pc[j].hi,vi m.pc[j].br]) (mG o rfl)) (Y ?_);refine ZB j B.pc z λJ q=>?_;have q:aM H J [.string m.pc[j].nm,vi m.pc[j].lo,vi m.pc[j].hi,vi m.pc[j].br]:=q;refine Y ?_;refine Zh (v:=vi m.pc[j].hi) (OL _) rfl (by exact YN (cs:=[vi m.pc[j].hi]) (ds:=[vi m.pc[j].br]) (mG (mG q (n:=1) rfl) (n:=1) rfl)) (Y ?_);refine Zo (vs:=[vi l[j],vi m.pc[j].lo,vi m.pc[j].hi]) (O2 _ _ _) ?_;generalize decide (m.pc[j].lo<=l[j]/\l[j]<=m.pc[j].hi)=b;cases b
  ·refine Y ?_;exact⟨rfl,_,rfl⟩
  refine Y ?_;exact⟨⟨j+1,O⟩,gI O,rfl,V,V,rfl⟩
 refine Y ?_;refine ZC m.tp.length (λj t=>H=t) (λj=>[(1,w),(2,vi 0),(4,vb false),(6,vi j)]) (λ_=>[(2,[vi m.kC,.slice m.A1 m.pc.length m.c1,.slice m.A2 m.bd.length m.c2,.slice m.A3 m.tp.length m.c3])]) rfl V V ?_;rintro k _ U rfl;refine OJ (λL=>?_) (λL=>?_)
 ·have h:k<m.tp.length:=O;have T:=(ok.tp k h).len;obtain⟨-,I,t3,-⟩:=ok.tp k h;have G:=B.pl _ (iN h);refine Y ?_;refine ZB k B.tp h λa o=>?_;have o:aM H a [.slice m.tp[k].A m.tp[k].pl.length m.tp[k].c,vi m.tp[k].lo,vi m.tp[k].hi]:=o;generalize m.tp[k]=x at o T I t3 G;refine Y ?_;refine YL (cs:=[.slice x.A x.pl.length x.c,vi x.lo,vi x.hi]) o (Y ?_);refine Zo (vs:=[w,.slice x.A x.pl.length x.c]) (Gq E G (λj F=>by have:=I j F;omega) N O) ?_;refine⟨(OL _).trans (OL _).symm,?_⟩;refine Y ?_;refine Zo (vs:=[vi (lB l x.pl),vi x.lo,vi x.hi]) (O2 _ _ _) ?_;generalize decide (x.lo<=lB l x.pl/\lB l x.pl<=x.hi)=b;cases b
  ·refine Y ?_;exact⟨rfl,_,rfl⟩
  refine Y ?_;exact⟨⟨k+1,O⟩,gI O,rfl,V,V,rfl⟩
 refine Y ?_;exact⟨rfl,_,rfl⟩
end
def Iz(m:iV)(i:Nat):wF:=m.pc.getD i ⟨.empty,0,0,0⟩
def jM(m:iV)(i:Nat):List Int:=(List.range ((Iz m i).hi-(Iz m i).lo+1).toNat).map λ(t:Nat)=>(Iz m i).lo+t
def tF(m:iV):Nat->List (List Int)
 | 0=>[[]]
 | i+1=>(tF m i).flatMap λl=>(jM m i).map λn=>l++[n]
def yD(ok:oH m){i:Nat}(a:i<m.pc.length):Iz m i=m.pc[i]/\(1<=m.pc[i].lo/\m.pc[i].lo<=m.pc[i].hi/\m.pc[i].hi<=40)/\m.pc[i].hi-m.pc[i].lo<3:=⟨ZG a _,(ok.pc i a).rg,(ok.pc i a).wd⟩
def JS(ok:oH m){i:Nat}(a:i<m.pc.length):(jM m i).length<=3:=by obtain⟨e,b,c⟩:=yD ok a;rw[jM,qAd,qBo,e];omega
def EW{m:iV}(ok:oH m):∀i,i<=m.pc.length->(tF m i).length<=3 ^ i
 | 0,_=>by simp[tF]
 | i+1,a=>by rw[tF,qCC];exact qAP (HD (k:=3) λl b=>by rw[qAd];exact JS ok O) (qAV _ (EW ok i O))
def yE{m:iV}(ok:oH m):∀i,i<=m.pc.length->∀l∈tF m i,Wfh i l
 | 0,_,l,a=>by rw[tF,iO]at a;subst a;exact⟨rfl,by simp⟩
 | i+1,o,l,a=>by
  rw[tF,qCP]at a;obtain⟨u,k,a⟩:=a;obtain⟨n,c,rfl⟩:=qAy.1 a;obtain⟨h,j⟩:=yE ok i O u k;refine⟨by simp[h],λx b=>?_⟩;rcases qAj.1 b with b | b
  ·exact j x b
  rw[iO.1 b];rw[jM,qAy]at c;obtain⟨t,f,rfl⟩:=c;obtain⟨e,p,q⟩:=yD ok (show i<m.pc.length by omega);rw[qAA]at f;rw[e]at f ⊢;omega
section
variable{P:fP}[Tz P][Loud P]{H:Hp}
theorem Hh(hm:gT H m)(ok:oH m) :
  LL.Zb P 29 #[m.v] H λv o=>fI H o/\∃A c n,v=.slice A n c:=by
 have hn:=ok.n1;have hp:=hm.pc;refine aU.m (fO Dd) rfl ?_;unfold JK iV.v;refine Y ?_;refine Z4 (cs:=[.slice none 0 0]) (OL _) rfl λZ B5=>?_;have s0:dF (H.ins Z (.cells [Value.slice none 0 0].toArray 45)) (.slice (some ⟨Z,0,none⟩) 1 1) [Value.slice none 0 0]:=kV;have l0:qD (H.ins Z (.cells [Value.slice none 0 0].toArray 45)) [Value.slice none 0 0] (tF m 0):=(qD.nil _).pP (.nil _);have i0:fI H (H.ins Z (.cells [Value.slice none 0 0].toArray 45)):=Zt B5;generalize H.ins Z (.cells [Value.slice none 0 0].toArray 45)=H0 at *;refine Y ?_;refine Yp (α:=Value×List Value) m.pc.length (λi s o=>fI H o/\dF o s.1 s.2/\qD o s.2 (tF m i)) (λi s=>[(1,vi 0),(3,s.1),(4,vi i)]) (λ_ _=>[(1,[vi m.kC,.slice m.A1 m.pc.length m.c1,.slice m.A2 m.bd.length m.c2,.slice m.A3 m.tp.length m.c3])]) (.slice (some ⟨Z,0,none⟩) 1 1,[.slice none 0 0]) ⟨i0,s0,l0⟩ V V ?_;rintro i ⟨v3,vs⟩ I K ⟨i1,s3,l3⟩;simp only at s3 l3;have Jn:=l3.len;have Sy:=EW ok i K;have Wu:3 ^ i<=3 ^ 3:=qAR (by decide) O;refine OJ (λh1=>?_) (λh1=>?_)
 ·have D:i<m.pc.length:=O;have RY:=JS ok D;obtain⟨FZ,p1,p2⟩:=yD ok D;refine Y ?_;refine Yp (α:=Hp×Value×List Value×Option Nat) vs.length (λk s o=>fI I s.1/\fI s.1 o/\gL s.1 o 45 s.2.1 s.2.2.1 s.2.2.2/\qD s.1 s.2.2.1 (((tF m i).take k).flatMap λl=>(jM m i).map λn=>l++[n]))
   (λk s=>[(1,vi 0),(3,v3),(4,vi i),(5,s.2.1),(6,vi k)]) (λ_ _=>[(1,[vi m.kC,.slice m.A1 m.pc.length m.c1,.slice m.A2 m.bd.length m.c2,.slice m.A3 m.tp.length m.c3])]) (I,.slice none 0 0,[],none) ⟨.refl I,.refl I,.nil _ _ _,.nil _⟩ V V ?_
  rintro k ⟨G,v5,ws,b5⟩ H2 hk ⟨g1,S,o5,l5⟩;simp only at g1 S o5 l5;have Ti:=l5.len;have hwl:ws.length<=k * 3:=by rw[Ti];refine qAP (HD (k:=3) λl hl=>by rw[qAd];exact RY) (qAV _ (by rw[qAs];omega))
  refine Y ?_;refine YH (s3.inc (g1.trans S)) rfl ?_;refine OJ (λh2=>?_) (λh2=>?_)
  ·have q:k<vs.length:=O;have z:k<(tF m i).length:=O;have K0:=m6 (f:=λl=>(jM m i).map λn=>l++[n]) z;obtain⟨DK,DJ⟩:=yE ok i O (tF m i)[k] (iN z);have C:=l3.at_ k q z;generalize(tF m i)[k]=l at *;generalize(List.flatMap (λl=>(jM m i).map λn=>l++[n]) ((tF m i).take k))=L at *;refine Y ?_;refine ZB i ((hp.inc i1).inc (g1.trans S)) D λa j=>?_;have j:aM H2 a [.string m.pc[i].nm,vi m.pc[i].lo,vi m.pc[i].hi,vi m.pc[i].br]:=j;refine Y ?_;refine Zh (v:=vi m.pc[i].lo) (OL _) rfl (by rw[add_zero];exact YN (cs:=[vi m.pc[i].lo]) (ds:=[vi m.pc[i].hi,vi m.pc[i].br]) (mG j rfl)) (Y ?_);have rA:(jM m i).length=(m.pc[i].hi-m.pc[i].lo+1).toNat:=by rw[jM,qAd,qBo,FZ]
   refine Yp (α:=Hp×Value×List Value×Option Nat) (jM m i).length (λt s o=>fI I s.1/\fI s.1 o/\gL s.1 o 45 s.2.1 s.2.2.1 s.2.2.2/\qD s.1 s.2.2.1 (L++((jM m i).take t).map λn=>l++[n]))
    (λt s=>[(1,vi 0),(3,v3),(4,vi i),(5,s.2.1),(6,vi k),(7,vi (m.pc[i].lo+t))]) (λ_ _=>[(1,[vi m.kC,.slice m.A1 m.pc.length m.c1,.slice m.A2 m.bd.length m.c2,.slice m.A3 m.tp.length m.c3])]) (G,v5,ws,b5) ⟨g1,S,o5,by simpa using l5⟩ ⟨rfl,rfl,rfl,rfl,rfl,by simp[fG.set],trivial⟩ V ?_
   rintro t ⟨G1,v6,N,b6⟩ R ht ⟨U,X,o6,l6⟩;simp only at U X o6 l6;have KT:=l6.len;refine Y ?_;refine ZB i ((hp.inc i1).inc (U.trans X)) D λa j=>?_;have j:aM R a [.string m.pc[i].nm,vi m.pc[i].lo,vi m.pc[i].hi,vi m.pc[i].br]:=j;refine Y ?_;refine Zh (v:=vi m.pc[i].hi) (OL _) rfl (by exact YN (cs:=[vi m.pc[i].hi]) (ds:=[vi m.pc[i].br]) (mG (mG j (n:=1) rfl) (n:=1) rfl)) ?_;refine OJ (λh3=>?_) (λh3=>?_)
   ·have RU:t<(jM m i).length:=O;have RV:(jM m i)[t]=m.pc[i].lo+t:=by simp[jM,FZ]
    have RS:(L++((jM m i).take (t+1)).map λn=>l++[n])=(L++((jM m i).take t).map λn=>l++[n])++[l++[m.pc[i].lo+t]]:=by rw[BY RU,qBt,RV,qAE];rfl
    have Rs:N.length<=800:=by rw[KT,IN,qAd,qAs];omega
    refine Y ?_;refine rT (fU jR) (fT t3) (OL _) λr1 NZ=>?_;have o7:gL R (R.ins r1 (.cells #[] 3)) 3 (.slice (some ⟨r1,0,none⟩) 0 0) ([]:List Int) (some r1):=N9 NZ;have q3:fI R (R.ins r1 (.cells #[] 3)):=Zt NZ;generalize R.ins r1 (.cells #[] 3)=H4 at *;refine Y ?_;refine ZB k ((s3.inc (U.trans X)).inc q3) q λa j=>Y ?_;refine Z8 j (Y ?_);refine VX (l':=l) (fU jR) (fU jR) (fT t3) rfl (by decide) q3 o7 (C.inc ((U.trans X).trans q3)) (W6 l) (by simp;omega) O rfl rfl (OL _) λv8 H5 b8 q4 T _=>Y ?_;refine Z4 (cs:=[vi (m.pc[i].lo+t)]) (OL _) rfl λr2 R6=>Y ?_;refine VX (l':=[m.pc[i].lo+t]) (fU jR) (fU jR) (fT t3) rfl (by decide) (q4.trans (Zt R6)) (T.ins R6) qK rfl (by simp;omega) O rfl rfl (OL _) λv9 H6 b9 q5 o9 _=>?_;rw[qAt]at o9;obtain⟨G2,w1,w2,w3,w4⟩:=PA X o6 q5 o9;obtain⟨A9,c9,rfl,_⟩:=id w4;refine Y ?_;refine Z4 (cs:=[.slice A9 (l++[m.pc[i].lo+↑t]).length c9]) (OL _) rfl λr3 B=>Y ?_;refine VX (l':=[Value.slice A9 (l++[m.pc[i].lo+↑t]).length c9]) (fU CN) (fU CN) (fT QZ) rfl (by decide) (w2.trans (Zt B)) (w3.ins B) kV rfl (by simp;omega) O rfl rfl (OL _) λQ H7 J q6 M _=>Y ?_;refine⟨(⟨t+1,O⟩,(G2,Q,N++[.slice A9 (l++[m.pc[i].lo+↑t]).length c9],J)),gI O,⟨U.trans w1,q6,M,by rw[RS];exact(l6.inc w1).pP w4⟩,⟨rfl,rfl,rfl,rfl,rfl,?_,trivial⟩,V,rfl⟩;show some (vi (m.pc[i].lo+t+1))=some (vi (m.pc[i].lo+(t+1:Nat)));congr 2;omega
   have:t=(jM m i).length:=O;subst this;rw[qAh]at l6;refine Y ?_;exact⟨(⟨k+1,O⟩,(G1,v6,N,b6)),gI O,⟨U,X,o6,by rw[K0];exact l6⟩,V,V,rfl⟩
  have:k=vs.length:=O;subst this;rw[qAH O]at l5;refine Y ?_;exact⟨(⟨i+1,O⟩,(v5,ws)),gI O,⟨(i1.trans g1).trans S,o5.sl,l5.inc S⟩,V,V,rfl⟩
 have:i=m.pc.length:=O;subst this;refine Y ?_;refine Yp (α:=Value×List Value×Option Nat) vs.length (λk s o=>fI I o/\gL I o 45 s.1 s.2.1 s.2.2/\s.2.1.length<=k) (λk s=>[(1,vi 0),(3,v3),(8,s.1),(9,vi k)]) (λ_ _=>[(1,[vi m.kC,.slice m.A1 m.pc.length m.c1,.slice m.A2 m.bd.length m.c2,.slice m.A3 m.tp.length m.c3])]) (.slice none 0 0,[],none) ⟨.refl _,.nil _ _ _,DO _⟩ V V ?_;rintro k ⟨v8,N,b8⟩ H2 hk ⟨F,T,Rs⟩;simp only at T Rs;refine Y ?_;refine YH (s3.inc F) rfl ?_;refine OJ (λh2=>?_) (λh2=>?_)
 ·have q:k<vs.length:=O;have z:k<(tF m m.pc.length).length:=O;have E:=yE ok m.pc.length (DO _) (tF m m.pc.length)[k] (iN z);have C:=l3.at_ k q z;generalize(tF m m.pc.length)[k]=l at *;have Rq:∃w,w=vs[k]:=⟨_,rfl⟩;obtain⟨w,hw⟩:=Rq;refine Y ?_;refine ZB k (s3.inc F) q λa j=>?_;rw[<-hw]at j C;refine Y ?_;refine Z8 j (Y ?_);refine Zg (vs:=[.agg #[vi m.kC,.slice m.A1 m.pc.length m.c1,.slice m.A2 m.bd.length m.c2,.slice m.A3 m.tp.length m.c3],w]) (Gg (hm.inc (i1.trans F)) ok (C.inc F) E.1 (λx hx=>by have:=E.2 x hx;omega)) ?_;rintro v _ ⟨rfl,b,rfl⟩;cases b with
  | false=>
   refine Y ?_;exact⟨(⟨k+1,O⟩,(v8,N,b8)),gI O,⟨F,T,by show N.length<=k+1;omega⟩,V,V,rfl⟩
  | true=>
   refine Y ?_;refine ZB k (s3.inc F) q λa j=>?_;rw[<-hw]at j;refine Y ?_;refine Z8 j ?_;obtain⟨Aw,cw,rfl,_⟩:=id C;refine Y ?_;refine Z4 (cs:=[.slice Aw l.length cw]) (OL _) rfl λr3 B=>Y ?_;refine VX (l':=[Value.slice Aw l.length cw]) (fU CN) (fU CN) (fT QZ) rfl (by decide) (F.trans (Zt B)) (T.ins B) kV rfl (by simp;omega) O rfl rfl (OL _) λQ H7 J q6 M _=>Y ?_;exact⟨(⟨k+1,O⟩,(Q,N++[.slice Aw l.length cw],J)),gI O,⟨q6,M,by simp;omega⟩,V,V,rfl⟩
 refine Y ?_;obtain⟨A,c,rfl,_⟩:=T.sl;exact⟨i1.trans F,_,_,_,rfl⟩
end
def M9{l k:List Int}(h:∀z∈k,z∈l)(f:k≠[]):(iA l).1<=(iA k).1/\(iA k).1<=(iA k).2/\(iA k).2<=(iA l).2:=by
 cases k with
 | nil=>exact absurd rfl f
 | cons c m=>
  cases l with
  | nil=>exact absurd (h c (by simp)) (by simp)
  | cons a r=>
   obtain⟨b,e⟩:=NB h;exact⟨b,QR m c,e⟩
def lT.ok{k:iV}(h:lT m k)(o:oH m):oH k where
 kC:=by rw[h.kC];exact o.kC
 n1:=by rw[h.pc];exact o.n1
 pc:=by rw[h.pc];exact o.pc
 n2:=by rw[h.bl];exact o.n2
 bd:=λi e=>by
  have b:i<m.bd.length:=by rw[<-h.bl];exact e
  obtain⟨c,f,a3⟩:=h.bd i b e;obtain⟨l,n,p,q,t,x⟩:=o.bd i b;refine⟨by rw[c];exact l,λj a=>?_,by rw[f];exact p,by rw[a3];exact q,λj a=>by simp only[f,a3]at a ⊢;exact t j a,λj a=>by simp only[a3]at a ⊢;exact x j a⟩;have s:=a;rw[qAs]at s;have z:j<m.bd.length:=by have:=h.bl;omega
  have A:j<k.bd.length:=O;have:=n j (by rw[qAs];omega);rw[qDp]at this ⊢;rw[c,(h.bd j z A).1];exact this
 n3:=by rw[h.tl];exact o.n3
 tp:=λi e=>by
  have b:i<m.tp.length:=by rw[<-h.tl];exact e
  obtain⟨c,f,a3⟩:=h.tp i b e;obtain⟨l,n,p,q⟩:=o.tp i b;rw[h.pc];exact⟨by rw[c];exact l,λj a=>by simp only[c]at a ⊢;exact n j a,λj a=>by simp only[c]at a ⊢;exact p j a,by rw[f,a3];exact q⟩
def oH.kl(o:oH m):(∀x∈m.bd,x.kn.length<=3)/\∀x∈m.tp,x.pl.length<=3:=
 ⟨λx b=>by obtain⟨i,a,rfl⟩:=List.getElem_of_mem b;exact(o.bd i a).kl,λx b=>by obtain⟨i,a,rfl⟩:=List.getElem_of_mem b;have:=(o.tp i a).len;have:=o.n1;omega⟩
section
variable{P:fP}[Tz P][Loud P]{H:Hp}
theorem NF(E:P=PP){b:Sb}{t:nF}{q k:Int}(hb:Zq H b)(hq:0<=q/\q<256)(G:gT H m)(C:dF H (.slice t.A t.pl.length t.c) t.pl)(hk:0<=k/\k<256)(hg:Yb H)(F:aM H ⟨3,0,none⟩ [vf 407]) :
  E4.m P (CJ P EU λv _=>v=vb true) (VO [b.v,.int .u8 q,m.v,.agg #[.slice t.A t.pl.length t.c,vi t.lo,vi t.hi],.int .u8 k]) H:=by
 have done:∀{Z:Hp},fI H Z->LL.Zb P 10 #[] Z λv _=>v=vb true:=λQ=>LL.Zb.mono (mL E (aM.inc hg Q) (aM.inc F Q)) λv _ h=>h.2;unfold E4;refine Y ?_;refine Zg (vs:=[b.v]) (ND hb) ?_;rintro v _ ⟨rfl,x,rfl,i⟩;cases x with
 | false=>
  exact AN
 | true=>
 obtain⟨ok,T⟩:=i rfl;refine Y ?_;refine Zg (vs:=[m.v]) (Gj G) ?_;rintro v _ ⟨rfl,x,rfl,i⟩;cases x with
 | false=>
  exact AN
 | true=>
 obtain⟨a,L⟩:=i rfl;have n1:=a.n1;have n2:=a.n2;have n3:=a.n3;refine OJ (λg0=>?_) (λg0=>?_)
 ·exact AN
 have g0:t.pl.length<=20:=O;refine Y ?_;refine Zg (vs:=[m.v]) (Hh G a) ?_;rintro v H1 ⟨J,A,c1,n,rfl⟩;refine OJ (λg1=>?_) (λg1=>?_)
 ·refine Y ?_;refine Zg (vs:=[]) (done J) ?_;rintro v H2 rfl;refine Y ?_;rfl
 refine Y ?_;refine Zg (vs:=[m.v,t.v]) (Gr (G.inc J) a.tonE (λt C=>by have:=L t C;omega) O (C.inc J) O) ?_;rintro v H2 ⟨i2,⟨-,gd,m1,rfl,o,l⟩ | ⟨-,s,hs0,rfl⟩⟩;rotate_left
 ·refine OJ (λh1=>?_) (λh1=>?_)
  ·refine Y ?_;refine Zg (vs:=[]) (done (J.trans i2)) ?_;rintro v H3 rfl;refine Y ?_;rfl
  exact absurd h1 O
 have B:=J.trans i2;have f:oH m1:=l.ok gd.1;have k1:=f.n1;have k2:=f.n2;have k3:=f.n3;obtain⟨k4,U⟩:=f.kl;refine Y ?_;refine Zg (vs:=[m.v,t.v]) (Fb (G.inc B) O (C.inc B)) ?_;rintro v H3 ⟨N,m2,rfl,R,X⟩;refine Zz OL (Y ?_);refine Zo (vs:=[m1.v,m2.v]) (Gp (o.inc N) R (lT.of2 l X) O O O (λx i=>by have:=k4 x i;omega) (λx i=>by have:=U x i;omega)) (Y ?_);refine Zg (vs:=[m1.v]) (EV (o.inc N) O O (λx i=>by have:=U x i;omega)) ?_;rintro v _ ⟨rfl,s,rfl,e⟩;obtain rfl:s=0:=e.2 f;have K:=B.trans N;refine Y ?_;have gm:mJ m:=⟨a,λe=>by obtain⟨p,M⟩:=qBu _ gd.2;have:=BO M;rw[e]at this;simp at this⟩;have D:mJ m1:=⟨f,by rw[l.boats];exact gd.2⟩;refine Zg (vs:=[m.v]) (JP (G.inc K) a.tonE (λt C=>by have:=L t C;omega) O) ?_;rintro v H4 ⟨i4,⟨-,rfl⟩ | ⟨g,-⟩⟩;rotate_left
 ·exact absurd gm g
 refine Y ?_;refine Zg (vs:=[m1.v]) (JP (o.inc (N.trans i4)) f.tonE (λx i=>by have:=U x i;omega) O) ?_;rintro v H5 ⟨i5,⟨-,rfl⟩ | ⟨g,-⟩⟩;rotate_left
 ·exact absurd D g
 have j:=(K.trans i4).trans i5;have I:∀z∈(gJ m1).map iH,z∈(gJ m).map iH:=λz hz=>by obtain⟨y,hy,rfl⟩:=qAy.1 hz;obtain⟨p,M,rfl⟩:=qAy.1 hy;rw[l.boats]at M;exact qAy.2 ⟨_,qAy.2 ⟨p,BO M,rfl⟩,rfl⟩
 have S:(gJ m1).map iH≠[]:=by intro e;have e:=qDF.1 (qDF.1 e);exact D.2 e
 have i:=M9 I S;generalize iA ((gJ m1).map iH)=y at *;generalize iA ((gJ m).map iH)=x at *;refine Y ?_;refine Zg (vs:=[b.v,.int .u8 q,.agg #[vi x.1,vi x.2],.agg #[vi y.1,vi y.2],.int .u8 k]) (Ga E ok T (hb.inc j) hq hk i (aM.inc hg j) (aM.inc F j)) ?_;rintro v H6 ⟨i6,rfl⟩;refine Y ?_;refine Zg (vs:=[]) (done (j.trans i6)) ?_;rintro v H7 rfl;refine Y ?_;rfl
end
end
open Go.Conc Go.ConcM
open YtmfealhfgccmfaaGreatDoor Go.ChangeShapes Go.WideShapes
section
variable{H:Type}{enc:TypeId×Value->H}{W:World}{base:Nat}{sp:Nat->Bool}{held:Bool}{fuel:Nat}{cs:List Value}{y:DataW H×List MemPlace}{r:Reach}{b0:Nat}{v:Value}{d:DataW H}{ps:List MemPlace}
def Fw(a:Value.okWide Tryz.prog W r b0 73 v)(b:DataW.Trod enc Tryz.prog W base sp held 73 v d ps):∃x:nF,v=.agg #[.slice x.A x.pl.length x.c,vi x.lo,vi x.hi]/\dF (oX W) (.slice x.A x.pl.length x.c) x.pl:=by obtain⟨fuel,e⟩:=b;obtain⟨c,rfl⟩:=L6 Tryz.underlying73 a;obtain⟨x,f⟩:=JU e;obtain⟨c⟩:=c;exact⟨x.1,by simpa[Value.cells,Enc.enc]using f,x.2⟩
end
