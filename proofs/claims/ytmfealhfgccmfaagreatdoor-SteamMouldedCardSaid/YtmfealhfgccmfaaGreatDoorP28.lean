import Derived.Test.YtmfealhfgccmfaaGreatDoorP27
import Derived.Conc.HoldsTime
import Derived.Test.YtmfealhfgccmfaaGreatDoorTie
import Derived.Test.YtmfealhfgccmfaaGreatDoorCards
import Derived.ProofKit
import Derived.LaidMore
import Derived.Carry
import Derived.Stop.Joined
import Derived.OpenShut
import Derived.SevenTiedAt
set_option linter.all false
section
open Go Go.LL
namespace Go.LL
section
variable{P:fP}{fn:Func}{t:Nat}{f:FuncId}{v0:Value}
def ZhJ{A:FuncId}{G:Frame->List Frame->Hp->Prop}{cs:List Frame}{c:Value->Hp->Prop}(o:V7 G)
  (I:∀(a:Frame) (H:Hp),a.mode=.returning->a.defers=[]->a.fn=A/\a.kind=.normal->P.funcs[a.fn]? = some fn->fZ P (results fn a.tmps) (λv _ b=>c v b) false H->Reach P G a cs H) :
  ∀(g:List Deferred) (a:Frame) (H:Hp),a.mode=.returning->a.defers=g->a.fn=A/\a.kind=.normal->P.funcs[a.fn]? = some fn->rI P fn a.tmps c g H->Reach P G a cs H:=by
 intro g;induction g with
 | nil=>
  intro a H hm hd x u h;exact I a H hm hd x u h
 | cons d g ih=>
  intro a H hm hd x u h;have e:∀b,rI P fn a.tmps c g b->Reach P G { a with defers:=g } cs b:=λb z=>ih { a with defers:=g } b hm rfl x u z;have k:(∃r,d.target=.collected r)\/(UQ d.target=true/\(fZ P (invoke d.target d.args) (λn _ b=>EK P (rI P fn a.tmps c g) n b) false H \/
    (UI P.toProgram (invoke d.target d.args)/\Zm P (invoke d.target d.args) false false H λ_ b=>rI P fn a.tmps c g b))):=by
   simp only[rI]at h
   split at h
   ·exact .inl ⟨_,‹_›⟩
   ·exact .inr h
  rcases k with⟨r,hr⟩ | k
  ·simp only[rI,hr]at h;obtain⟨nO,h1,F⟩:=h;refine .z7 (s:=Instr.takeDeferred r) (Q:=λv _ b=>v=[]/\b=H.ins r (.deferred none)) ?_ ?_
   ·exact GX
   rintro v D ⟨rfl,_⟩;refine⟨{ a with defers:=g },cs,λmain w q es e1=>⟨seen P a.fn es,?_,.inr rfl⟩,λb l=>?_⟩
   ·exact SX
   rw[l.2];exact e _ F
  obtain⟨m,h⟩:=k;have j:∀main w,stepG P main (gG a cs) w=callDeferred P { a with defers:=g } cs none d w:=by intro main w;rw[Nv hm];exact Mz hd m
  rcases h with h | ⟨p,h⟩;case inr=>
   refine h G a (λ_=>{ a with defers:=g }) cs o ⟨λmain cs w q v es e1=>?_,.inl p,.inl p,λh=>by simp at h,λh=>by simp at h,.inl p⟩ λv b z=>e _ z
   rw[Nv hm,Mz hd m]
   exact(Oo m e1).2 (.inl ⟨v,rfl⟩)
  refine .z7 h ?_;intro n D E;cases n with
  | enter f args=>
   refine⟨_,_,λmain w q es e1=>⟨seen P a.fn es,?_,.inr rfl⟩,λb l=>l G _ cs o (show KG { a with defers:=g }by unfold KG;rw[hm];trivial) λv B p=>e _ p⟩;rw[j];exact(Oo m e1).1 f args rfl
  | value v=>
   refine⟨{ a with defers:=g },cs,λmain w q es e1=>⟨seen P a.fn es,?_,.inr rfl⟩,λb l=>e _ l⟩;rw[j];exact(Oo m e1).2 (.inl ⟨v,rfl⟩)
  | skip=>
   refine⟨{ a with defers:=g },cs,λmain w q es e1=>⟨seen P a.fn es,?_,.inr rfl⟩,λb l=>e _ l⟩;rw[j];exact(Oo m e1).2 (.inr rfl)
  | _=>exact E.elim
def CG(P:Program)(f:FuncId)(fn:Func)(t:Nat)(v:Value)(a:Frame)(cs:List Frame)(_:Hp):Prop:=
 cs=[]/\a.mode=.returning/\a.defers=[]/\(a.fn=f/\a.kind=.normal)/\P.funcs[a.fn]? = some fn/\fn.results=#[.tmp t]/\a.tmps.getD t undef=v
def ZhF(h:fn.results=#[.tmp t])(tmps:Array Value):results fn tmps=pure (tmps.getD t undef):=by simp[results,h]
def CG.closed(P:Program)(f:FuncId)(fn:Func)(t:Nat)(v:Value):V7 (CG P f fn t v):=λ_ _ _ _ _ h=>h
theorem oZ{k:Nat}{n:Zc}{E:List Ze}(h:aU P f k n E)(c:P.funcs[f]? = some fn)(g:fn.results=#[.tmp t]){args:List Value}{H:Hp}(R:args.length=k)
  (U:n.m P (CJ P E λv _=>v=v0) (VO args) H):Reach P (CG P f fn t v0) (Frame.enter P f args.toArray .normal) [] H:=by
 obtain⟨b,L,N,O,F,G⟩:=h;obtain rfl:b=fn:=aT (N.symm.trans c);rw[qAc,qAc,qAK]at G;obtain⟨body,hb,S⟩:=qDr.1 O;subst R;have D:Nz n E P args (λv _=>v=v0) H:=by unfold Nz;refine Zc.s9 ?_ U;intro e σ H h;cases e<;>exact h
 obtain⟨⟨hl,hm⟩,u⟩:=G;have x:iI P L b.ntmps (VO args) H ⟨args.toArray++Array.replicate (b.ntmps-args.toArray.size) undef,[]⟩ H:=by exact WQ
 have z:kM P ⟨true,b.norace⟩ body (λe a H=>match e with | .exit _=>False | _=>rI P b a.tmps (λv l=>∃q J:Hp,l=q.join J/\q.Comp J/\v=v0) a.defers H) ⟨args.toArray++Array.replicate (b.ntmps-args.toArray.size) undef,[]⟩ H:=by
  refine(VP (rd:=⟨true,b.norace⟩) (λh=>by rw[h]at u;simpa using u) S D x).mono ?_;rintro e ⟨at_,Z⟩ Y ⟨σ,l,r,o⟩;cases e with
  | normal=>exact QF F _ _ _ _ r o
  | ret=>exact QF F _ _ _ _ r o
  | exit id=>exact o.elim
 have Q:Frame.enter P f args.toArray .normal=on (Frame.enter P f args.toArray .normal) ⟨args.toArray++Array.replicate (b.ntmps-args.toArray.size) undef,[]⟩ [.code body]:=by simp[Frame.enter,on,c,hb]
 rw[Q];have B:(Frame.enter P f args.toArray .normal).roundOf=none:=rfl;have j:∀(d:Frame) (H:Hp),d.mode=.returning->d.defers=[]->d.fn=f/\d.kind=.normal->P.funcs[d.fn]? = some b->fZ P (results b d.tmps) (λv _ l=>(λv l=>∃q J:Hp,l=q.join J/\q.Comp J/\v=v0) v l) false H->Reach P (CG P f b t v0) d [] H:=by intro d H I K M a3 a4;rw[ZhF g,Zj]at a4;obtain⟨_,_,_,_,T⟩:=a4;exact .stop ⟨rfl,I,K,M,a3,g,T⟩
 refine z (CG P f b t v0) _ [] [] (CG.closed _ _ _ _ _) ⟨by simp[Frame.enter],λ_=>B,λh=>by simp only[norace,Frame.enter,c,Option.any_some];exact h⟩ ?_;intro e a l o;cases e with
 | normal=>
  refine .pure (iD:={ on (Frame.enter P f args.toArray .normal) a []with mode:=.returning }) (kY:=[]) (λmain w=>Zmj B) ?_;exact ZhJ (CG.closed _ _ _ _ _) j _ _ _ rfl rfl ⟨rfl,rfl⟩ c o
 | ret=>
  intro V;refine .pure (iD:={ on (Frame.enter P f args.toArray .normal) a (.code .ret :: V)with mode:=.returning }) (kY:=[]) (λmain w=>Zmi B) ?_;exact ZhJ (CG.closed _ _ _ _ _) j _ _ _ rfl rfl ⟨rfl,rfl⟩ c o
 | exit id=>exact o.elim
open Go.Conc (Knows Deaf touchAt QuitsD crowd woken Leavers Past)
def oX(w:World):Hp:=⟨λb=>(w.heap[b]?).map λo=>(o,false),[]⟩
theorem MD(w:World)(b:Nat):oX w b=(w.heap[b]?).map λo=>(o,false):=rfl
def ZpM(w:World):(oX w).le w:=λb o p h=>by rw[MD]at h;obtain⟨x,c,a⟩:=qAD.1 h;simp only[qAX]at a;rw[c,a.1]
structure Zgf(W W':World):Prop where
 os:Go.ConcM.OsLater W.os W'.os
 tape:W'.tape=W.tape
 out:W'.output=W.output
 size:W.heap.size<=W'.heap.size
 heap:∀b,b<W.heap.size->W'.heap[b]? = W.heap[b]?
def ZpB{p:Program}{args:Array Value}{W:World}(E:p.inits.idxOf? f=none)(h:Reach (NO p) (CG p f fn t v0) (Frame.enter p f args .normal) [] (oX W)) :
  ∃M c o e L,runNT p (M+1) (Go.Conc.solo (Go.Conc.G (Frame.enter p f args .normal) []) W) #[]=(.ended o e,L)/\runN p M (Go.Conc.solo (Go.Conc.G (Frame.enter p f args .normal) []) W)=.next c /\
   step p c=.ended o e/\Go.Conc.Good p (λv z=>v=v0/\Zgf W z) c o e L:=by
 have I:=ZpD (P:=NO p) rfl h
 have r:mC p (oX W) #[gG (Frame.enter p f args .normal) []] W #[] (λ_=>0):=by refine⟨Go.Conc.leavers_one p _,?_,ZpM W⟩;exact⟨λsaid=>by rintro⟨i,j,_,⟨a,b,r,_⟩,_⟩;simp[Trace.act?]at r,λi a r=>by simp[touchAt,Trace.act?]at r,λi g hg=>by simp[Trace.g?]at hg,rfl,by simp⟩
 obtain⟨k,B,e,K,L,q',S,l,T,O,h2,Q,q,h5⟩:=I _ W none #[] _ r rfl
 obtain⟨rfl,g1,g2,⟨g3,A⟩,g4,g5,g6⟩:=h5
 have m:∀n,Go.Conc.AtRel e n->Zgf W n:=by rintro n ⟨d,rfl⟩;exact⟨q.out.os,q.out.tape,q.out.out,q.grown,λb hb=>q.keep b hb λo R=>by rw[MD]at R;obtain⟨x,_,he⟩:=qAD.1 R;simp at he⟩
 have u:Go.Conc.Goes p true Go.Conc.AtRel (λ_ _ _=>False) (Go.Conc.AtEnd p (PK S e.heap.size) e.heap.size (λv z=>v=v0/\Zgf W z)) 0 (gG l []) e:=by
  intro n J;refine⟨rfl,v0,#[],?_,by simp,rfl,m n J⟩;have hr:(results fn l.tmps).runT p n #[]=(.ok v0 n,#[]):=by rw[ZhF g5,g6];rfl
  have w:p.inits.idxOf? l.fn=none:=by rw[g3];exact E
  simp only[gG,stepG,g1,unwind,g2,g4,hr,GStep.after,doReturn,A,qAw,w];simp[seen]
 obtain⟨N,c,o,w2,t2,U,V,Y,Z⟩:=Go.Conc.beside_ends (D:=λ_ _ _=>False) (λ_ _ _ h=>h.elim) h2 Q.leavers Q.past u
 refine⟨k+N,c,o,w2,t2,?_,?_,Y,Z⟩
 ·have:=Zc6 O U;rw[qCW];exact this
 ·have F:runN p k (Go.Conc.solo (Go.Conc.G (Frame.enter p f args .normal) []) W)=.next (crowd B e K):=by rw[<-runNT_fst _ _ _ #[]];exact qAx Prod.fst O
  rw[runN_add,F];exact V
end
end Go.LL
end
section
open Go Go.LL Go.Conc Go.ConcM
namespace Go.Proofs
section
variable{C:Checked}{os:Os}{f:FuncId}{fn:Func}{s:ChangeSpec}{vU:List PathCond}{apart:Bool}{X:World->Array Value->Prop}
section
variable{H:Type}{enc:TypeId×Value->H}
def ZuO{a:Assume}{F:Stop.Interp}{fresh handsOn:Bool}
  (J:∀(w w':World) (args:Array Value),w.heap=w'.heap->X w args->X w' args)
  (own:ownKnob C.prog.godebug=none) (d:os.Started) (r:C.prog.funcs[f]? = some fn)
  (g:∃(w:World) (tape:Tape) (i:Input),w.os=os/\(w.forCall tape i).Shaped C.prog/\i.vars=[]/\Input.okWide C.prog (w.forCall tape i) .any w.heap.size f i /\
   ((s.pre enc C.prog fn vU apart (w.forCall tape i).memory i.args/\X (w.forCall tape i).memory i.args)/\sizedMet enc C.prog fn (OpenSpec.ofChange s) apart (w.forCall tape i).memory i.args)/\a.holds C.prog (lone (Frame.enter C.prog f i.args .normal) [] (w.forCall tape i)))
  (nM:∀(W:World) (base:Nat) (args:Array Value) (p gs:List (DataW H)) (b:List MemPlace),
   (∀(j:Nat) t v,fn.params[j]? = some t->args[j]? = some v->Value.okWide C.prog W .any base t v) ->
   DataW.Whole enc C.prog fn.params.toList s.vars apart W args.toList p gs b ->
   X W args ->
   ∃M c o w' n,runNT C.prog (M+1) (solo (G (Frame.enter C.prog f args .normal) []) W) #[]=(.ended o w',n)/\runN C.prog M (solo (G (Frame.enter C.prog f args .normal) []) W)=.next c /\
    step C.prog c=.ended o w'/\Conc.Good C.prog (λv z=>s.post enc C.prog fn apart fresh handsOn false W args v { z with os:=W.os }/\OsLater W.os z.os) c o w' n) :
  ReturnsInLeavingWide a C os f .any (λw args=>(s.pre enc C.prog fn vU apart w args/\X w args)/\sizedMet enc C.prog fn (OpenSpec.ofChange s) apart w args) ((OpenSpec.ofChange s).postWith enc C.prog fn F (outsideKept [.timePasses]) apart fresh handsOn):=by
 refine returnsInLeavingWide_of_good own d g ?_;intro w tape i _ _ _ u k m;obtain⟨_,_,_,q,h,_,_,_,_,l⟩:=u;have e:q=fn:=aT (h.symm.trans r);subst e;obtain⟨⟨⟨p,gs,b,K,S⟩,L⟩,T⟩:=k;have x:=DataW.Whole.of_heap (w':=w.forCall tape i) (by rfl) K;obtain⟨M,c,o,w',n,B,D,E,I⟩:=nM (w.forCall tape i) w.heap.size i.args p gs b l x (J _ _ _ (by rfl) L);obtain⟨v,e,A,N,O,Q,R⟩:=I;exact⟨M,c,o,w',n,B,D,E,v,e,postWith_blind (postWith_of_post A.1 A.2),N,O,Q,R⟩
def ZnR(a:World)(args:Array Value)(fuel:Nat)(d:a.os=os)
  (e:(a.forCall (λ_ _=>0) ⟨#[],args,[]⟩).Shaped C.prog)
  (b:Input.okWideB C.prog (a.forCall (λ_ _=>0) ⟨#[],args,[]⟩) f ⟨#[],args,[]⟩=true)
  (c:s.preB enc C.prog fn vU apart (a.forCall (λ_ _=>0) ⟨#[],args,[]⟩).memory args fuel=true)
  (g:s.sizedB enc C.prog fn apart (a.forCall (λ_ _=>0) ⟨#[],args,[]⟩).memory args fuel=true)
  (h:X (a.forCall (λ_ _=>0) ⟨#[],args,[]⟩).memory args) :
  ∃(w:World) (tape:Tape) (i:Input),w.os=os/\(w.forCall tape i).Shaped C.prog/\i.vars=[]/\Input.okWide C.prog (w.forCall tape i) .any w.heap.size f i /\
   ((s.pre enc C.prog fn vU apart (w.forCall tape i).memory i.args/\X (w.forCall tape i).memory i.args)/\sizedMet enc C.prog fn (OpenSpec.ofChange s) apart (w.forCall tape i).memory i.args)/\({ calm:=true }:Assume).holds C.prog (lone (Frame.enter C.prog f i.args .normal) [] (w.forCall tape i)):=
 ⟨a,λ_ _=>0,⟨#[],args,[]⟩,d,e,(Input.okWide_of_okWideB (base:=0) b).1,(Input.okWide_of_okWideB b).2,⟨⟨ChangeSpec.pre_of_preB c,h⟩,sizedMet_of_sizedB g⟩,by simp only[Assume.holds];exact⟨by simp,λ_ _ _ _=>rfl,by simp,by simp,by simp⟩⟩
end
def Zn5:ownKnob Tryz.prog.godebug=none:=U
def Kj:laidOutB Tryz.prog=true:=U
end
section
open YtmfealhfgccmfaaGreatDoor
def ZnU(os:Os)(args:Array Value):((World.doorLaid Tryz.prog 600 os).forCall (λ_ _=>0) ⟨#[],args,[]⟩).Shaped Tryz.prog:=World.shaped_of_RefB U U
end
section
variable{t:TypeId}{v:Value}{i:Nat}{α:Type}
open YtmfealhfgccmfaaGreatDoor
section
variable{H:Type}{enc:TypeId×Value->H}{W:World}{base:Nat}{sp:Nat->Bool}{held:Bool}{fuel:Nat}{cs:List Value}{y:DataW H×List MemPlace}
def L6{P:Program}{r:Reach}{a:Nat}{b:Array Field}(d:P.underlying t=some (.struct b))(h:Value.okWide P W r a t v):∃c,v=.agg c:=by unfold Value.okWide at h;rw[d]at h;obtain⟨c,rfl,_⟩:=h;exact⟨c,rfl⟩
def V4{W:World}{a:Addr}(h:W.cell? a=some v):a.spot=none/\∃o,W.heap[a.block]? = some o/\Obj.nC o a.off=some v:=by
 unfold World.cell? at h;split at h
 ·rename_i c t f b;split at h
  ·simp at h
  rename_i d;exact⟨by simpa using d,_,b,h⟩
 simp at h
def OO(h:DataW.trod enc Tryz.prog W base sp held fuel 3 cs=some y):∃n,cs=[vi n]:=by obtain⟨n,h,_⟩:=DataW.trod_int Tryz.underlying3 h;exact⟨n,h⟩
def UD{cs:List Value}(h:(cs.drop i).take 1=[v]):cs[i]? = some v:=by have:=qAx (·[0]?) h;simpa[qBv,qBq]using this
def u6{l m:List Value}(b:l.length=m.length)(h:∀i,i<m.length->l[i]? = m[i]?):l=m:=by
 apply qCJ;intro i;rcases qBh i m.length with a | a
 ·exact h i a
 rw[qAT a,qAT O]
def u4:Tryz.prog.cellsOf 3=1:=U
def CD:Tryz.prog.cellsOf 31=2:=U
def ZwD:Tryz.prog.cellsOf 22=1:=U
def ZwC:Tryz.prog.cellsOf 23=1:=U
def VI{β:Type}{xs:List (α×β)}(h:i<xs.length):∃y,xs[i]? = some y:=⟨_,qAZ h⟩
def CC(h:DataW.trod enc Tryz.prog W base sp held fuel 31 cs=some y):∃a b,cs=[vi a,vi b]:=by
 obtain⟨xs,n,rfl,_,j,k,g⟩:=DataW.trod_struct Tryz.underlying31 h;rw[CD]at j;obtain⟨p,l⟩:=VI (xs:=xs) (i:=0) (by rw[k];decide);obtain⟨q,m⟩:=VI (xs:=xs) (i:=1) (by rw[k];decide);have d:DataW.trod enc Tryz.prog W base sp held n 3 ((cs.drop 0).take (Tryz.prog.cellsOf 3))=xs[0]?:=g 0 _ rfl;have e:DataW.trod enc Tryz.prog W base sp held n 3 ((cs.drop 1).take (Tryz.prog.cellsOf 3))=xs[1]?:=g 1 _ rfl;rw[l]at d;rw[m]at e;obtain⟨a,c⟩:=OO d;obtain⟨b,hb⟩:=OO e;rw[u4]at c hb;have c:=UD c;have hb:=UD hb;refine⟨a,b,u6 j λi o=>?_⟩;match i,o with
 | 0,_=>exact c
 | 1,_=>exact hb
def yB[Enc α]{e:TypeId}(Z:Tryz.prog.underlying t=some (.slice e))(U:Tryz.prog.cellsOf e=Enc.sz α)(d:0<Enc.sz α)
  (w:∀{n:Nat} {cs:List Value} {y:DataW H×List MemPlace},DataW.trod enc Tryz.prog W base sp held n e cs=some y->∃x:α,cs=Enc.enc x)
  (h:DataW.trod enc Tryz.prog W base sp held fuel t cs=some y):∃v,cs=[v]/\∃l:List α,dF (oX W) v l:=by
 rcases DataW.trod_slice Z h with⟨rfl,_⟩ | ⟨a,len,cap,m,rest,n,_,rfl,_,_,hl,_,I,T,_⟩
 ·exact⟨_,rfl,[],.nil _⟩
 have L:∀i,i<len->∃x:α,W.cells? base (a.add (i * Enc.sz α)) (Enc.sz α)=some (Enc.enc x):=by intro i k;obtain⟨y,hy⟩:=VI (xs:=m) (i:=i) O;have:=T i k;rw[hy,U,qDr]at this;obtain⟨c,R,S⟩:=this;obtain⟨x,rfl⟩:=w S;exact⟨x,R⟩
 let l:List α:=List.ofFn λi:Fin len=>(L i.1 i.2).choose
 have z:l.length=len:=by simp[l]
 have V:∀i (k:i<l.length),W.cells? base (a.add (i * Enc.sz α)) (Enc.sz α)=some (Enc.enc l[i]):=by intro i k;have:=(L i O).choose_spec;simpa[l]using this
 refine⟨_,rfl,l,some a,cap,by rw[z],λB=>⟨a,rfl,?_⟩⟩;have g:∀i (k:i<l.length),∀j,j<Enc.sz α->W.cell? ((a.add (i * Enc.sz α)).add j)=(Enc.enc l[i])[j]?:=λi k=>(World.cells?_some (V i k)).2.2;have p:0<l.length:=qBY.2 B;have D:a.spot=none/\∃o,W.heap[a.block]? = some o:=by
  have F:=g 0 p 0 d;have:((Enc.enc l[0])[0]? : Option Value)=some ((Enc.enc l[0])[0]'(by rw[Enc.len];exact d)):=qAZ _;rw[this]at F;obtain⟨M,o,u,_⟩:=V4 F;have Q:(a.add (0 * Enc.sz α)).add 0=a:=by simp[Addr.add]
  rw[Q]at M u;exact⟨M,o,u⟩
 obtain⟨Y,o,J⟩:=D;refine⟨Y,o,false,by rw[MD,J];rfl,λj G=>?_⟩;rw[Y7]at G;have k:j / Enc.sz α<l.length:=(Nat.div_lt_iff_lt_mul d).2 G;have A:j % Enc.sz α<Enc.sz α:=qDo _ d;have r:j=j / Enc.sz α * Enc.sz α+j % Enc.sz α:=(Nat.div_add_mod' j _).symm;have K:(Enc.enc l[j / Enc.sz α])[j % Enc.sz α]? = some ((Enc.enc l[j / Enc.sz α])[j % Enc.sz α]'(by rw[Enc.len];exact A)):=qAZ _;have q:=g _ k _ A;rw[K]at q;obtain⟨_,o',u,N⟩:=V4 q;rw[MB,MB,J]at u;obtain rfl:=aT u;rw[MC,MC,qCW,<-r]at N;have E:=PT l _ _ k A;rw[<-r]at E;rw[N,E,K]
end
end
section
open YtmfealhfgccmfaaGreatDoor
open Go.ChangeShapes Go.WideShapes Go.ChangeAt Go.RowKit
def kA(g:Looks){p:Pinned}{s:OpenSpec}{c:OpenClaim}(kinds:List LaidKind)(b:Bool)(a:Bool×String)(e:Bool)
  (o:c.holds p s) (z:c.wfByText s=true) (d:c.laidByTextAt g p kinds b)
  (l:c.start=.entering) (k:c.noBlocks=false/\c.again=false) (w:p.checked.prog.mainIs=some (a.1,a.2.toList)) (x:(!a.1 && a.2.isEmpty && !e)=false)
  (u:∀f fn,p.checked.prog.funcNamed c.func=some f->p.checked.prog.funcs[f]? = some fn->e=p.checked.prog.looks []/\∀(j:Nat) t,fn.params[j]? = some t->p.checked.prog.wantsStandIn t=false)
  (q:true=c.goesBy p.checked.prog) :
  Claim7.holds p (.plain s) { stood:={ row:=c,standIns:=[],harness:=a,looks:=e },kinds:=[],alts:=[],goes:=true,laidByText:=true,laidKinds:=kinds,laidTests:=b,laidLooks:=g }:=by
 have m:∀r:OpenClaim,Claim7.isSixth { stood:={ row:=r,standIns:=[],harness:=a,looks:=e },kinds:=[] }=false:=λr=>by simpa[Claim7.isSixth]using x
 refine⟨Claim7.tied_new_at g kinds b (Claim7.new_of_sixth o a e l k w (m c) u) z,λD n=>?_,d,(λh=>by cases h),q⟩;simp at n
section
variable{H:Type}{enc:TypeId×Value->H}
def Zm6{P:Program}(n:laidOutB P=true){W m:World}(hb:Below W.heap.size W m):∀{g:List TypeId} {l:List Value} {j:List (DataW H)} {e:List MemPlace},(∀t∈g,P.readableRec t=true/\t<P.types.size) ->
  DataW.TrodAll enc P W 0 (λ_=>true) true g l j e->(∀x∈e,x.block<W.heap.size)->DataW.TrodAll enc P m 0 (λb=>decide (b<W.heap.size)) true g l j e
 | [],[],[],_,_,h,_=>h
 | t :: g,v :: l,d :: j,e,o,h,a=>by obtain⟨p,q,r,u,rfl⟩:=h;have c:=o t (by simp);exact⟨p,q,hb.trod n c.1 c.2 r (λx k=>a x (by simp[k])),Zm6 n hb (λt c=>o t (by simp[c])) u (λx k=>a x (by simp[k])),rfl⟩
 | [],_ :: _,_,_,_,h,_=>by simp[DataW.TrodAll]at h
 | [],[],_ :: _,_,_,h,_=>by simp[DataW.TrodAll]at h
 | _ :: _,[],_,_,_,h,_=>by simp[DataW.TrodAll]at h
 | _ :: _,_ :: _,[],_,_,h,_=>by simp[DataW.TrodAll]at h
def ZgC{P:Program}{W:World}{base:Nat}{sp:Nat->Bool}{held:Bool}:∀{b:List TypeId} {e:List Value} {a:List (DataW H)} {c:List MemPlace},DataW.TrodAll enc P W base sp held b e a c->a.length=b.length
 | [],[],[],_,_=>rfl
 | t :: b,v :: e,d :: a,c,h=>by obtain⟨p,q,j,g,rfl⟩:=h;simp[ZgC g]
 | [],_ :: _,_,_,h=>by simp[DataW.TrodAll]at h
 | [],[],_ :: _,_,h=>by simp[DataW.TrodAll]at h
 | _ :: _,[],_,_,h=>by simp[DataW.TrodAll]at h
 | _ :: _,_ :: _,[],_,h=>by simp[DataW.TrodAll]at h
end
end
end Go.Proofs
end
open Go Go.LL Go.Conc Go.ConcM
namespace Go.Proofs.YtmfealhfgccmfaaGreatDoor
theorem fQ{a b:Bool}(h:a=true)(g:b=true):(a && b)=true:=by rw[h,g];rfl
def uZ:mapsRowed Tryz.pinned.checked.prog=true:=U
def sP:Tryz.pinned.checked.prog.stopsHeard=true:=U
def sQ:Tryz.pinned.checked.prog.mayEnter=true:=U
