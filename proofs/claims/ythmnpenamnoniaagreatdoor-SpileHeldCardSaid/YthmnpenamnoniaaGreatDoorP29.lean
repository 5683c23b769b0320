import Derived.Test.YthmnpenamnoniaaGreatDoorP28
import Derived.OpenShut
import Derived.SevenTiedAt
set_option linter.all false
set_option maxHeartbeats 4000000
set_option maxRecDepth 100000
open Go Go.LL
namespace Go.Proofs
section
open Go.Conc Go.ConcM
variable{r:Reach}{b0 i:Nat}{t:TypeId}{v:Value}{α:Type}{L:List (String×DataW Unit)}
def Mp{G:Prop} (h:G:=by
  subst AI;have h0:=World.var?_cell hg hv;obtain⟨_,o,ho,_⟩:=UE (h0 0);refine⟨rfl,o,false,by rw[FF];rw[ho];rfl,λj hj=>?_⟩;match j,hj with
  | 0,_=>obtain⟨_,o',pM,hc⟩:=UE (h0 0);rw[ho]at pM;obtain rfl:=iN pM;exact hc
  | 1,_=>obtain⟨_,o',pM,hc⟩:=UE (h0 1);rw[ho]at pM;obtain rfl:=iN pM;exact hc
  | 2,_=>obtain⟨_,o',pM,hc⟩:=UE (h0 2);rw[ho]at pM;obtain rfl:=iN pM;exact hc):G:=h
open YthmnpenamnoniaaGreatDoor
section
variable{H:Type}{enc:TypeId×Value->H}{W:World}{base:Nat}{sp:Nat->Bool}{held:Bool}{fuel:Nat}{cs:List Value}{y:DataW H×List MemPlace}
def PH{P:Program}{a:Array Field}(b:P.underlying t=some (.struct a))(h:Value.okWide P W r b0 t v):∃c,v=.agg c:=by unfold Value.okWide at h;rw[b]at h;obtain⟨c,rfl,_⟩:=h;exact⟨c,rfl⟩
def UE{W:World}{a:Addr}(h:W.cell? a=some v):a.spot=none/\∃o,W.heap[a.block]? = some o/\Obj.fT o a.off=some v:=by
 unfold World.cell? at h;split at h
 ·rename_i c t f b;split at h
  ·simp at h
  rename_i e;exact⟨by simpa using e,_,b,h⟩
 simp at h
def Ul(h:DataW.trod enc Tryz.prog W base sp held fuel 3 cs=some y):∃n,cs=[vi n]:=by obtain⟨n,h,_⟩:=DataW.trod_int Tryz.underlying3 h;exact⟨n,h⟩
def Vf{cs:List Value}(h:(cs.drop i).take 1=[v]):cs[i]? = some v:=by have:=qAQ (·[0]?) h;simpa[qBo,qBp]using this
def O5{l m:List Value}(b:l.length=m.length)(h:∀i,i<m.length->l[i]? = m[i]?):l=m:=by
 apply qCZ;intro i;rcases qAM i m.length with a | a
 ·exact h i a
 rw[qAF a,qAF O]
def sP:Tryz.prog.cellsOf 3=1:=U
def BM:Tryz.prog.cellsOf 56=2:=U
def Al:Tryz.prog.cellsOf 101=3:=U
def Am:Tryz.prog.cellsOf 110=5:=U
def Zw3:Tryz.prog.cellsOf 22=1:=U
def Zw2:Tryz.prog.cellsOf 23=1:=U
def Zw1:Tryz.prog.cellsOf 25=4:=U
def Yx{β:Type}{xs:List (α×β)}(h:i<xs.length):∃y,xs[i]? = some y:=⟨_,qAx h⟩
def BB(h:DataW.trod enc Tryz.prog W base sp held fuel 56 cs=some y):∃a b,cs=[vi a,vi b]:=by
 obtain⟨xs,n,rfl,_,j,k,g⟩:=DataW.trod_struct Tryz.underlying56 h;rw[BM]at j;obtain⟨p,l⟩:=Yx (xs:=xs) (i:=0) (by rw[k];decide);obtain⟨q,m⟩:=Yx (xs:=xs) (i:=1) (by rw[k];decide);have e:DataW.trod enc Tryz.prog W base sp held n 3 ((cs.drop 0).take (Tryz.prog.cellsOf 3))=xs[0]?:=g 0 _ rfl;have f:DataW.trod enc Tryz.prog W base sp held n 3 ((cs.drop 1).take (Tryz.prog.cellsOf 3))=xs[1]?:=g 1 _ rfl;rw[l]at e;rw[m]at f;obtain⟨a,c⟩:=Ul e;obtain⟨b,hb⟩:=Ul f;rw[sP]at c hb;have c:=Vf c;have hb:=Vf hb;refine⟨a,b,O5 j λi o=>?_⟩;match i,o with
 | 0,_=>exact c
 | 1,_=>exact hb
def ZwO(h:DataW.trod enc Tryz.prog W base sp held fuel 101 cs=some y):∃x:gA,cs=Enc.enc x:=by
 obtain⟨xs,n,rfl,_,m,o,l⟩:=DataW.trod_struct Tryz.underlying101 h;rw[Al]at m;obtain⟨u,p⟩:=Yx (xs:=xs) (i:=0) (by rw[o];decide);obtain⟨w,q⟩:=Yx (xs:=xs) (i:=1) (by rw[o];decide);have j:DataW.trod enc Tryz.prog W base sp held n 3 ((cs.drop 0).take (Tryz.prog.cellsOf 3))=xs[0]?:=l 0 _ rfl;have k:DataW.trod enc Tryz.prog W base sp held n 56 ((cs.drop 1).take (Tryz.prog.cellsOf 56))=xs[1]?:=l 1 _ rfl;rw[p]at j;rw[q]at k;obtain⟨a,g⟩:=Ul j;obtain⟨b,c,hb⟩:=BB k;rw[sP]at g;rw[BM]at hb;have g:=Vf g;have e:=qAQ (·[0]?) hb;have f:=qAQ (·[1]?) hb;simp[qBo,qBp]at e f;refine⟨⟨a,b,c⟩,O5 m λi s=>?_⟩;match i,s with
 | 0,_=>exact g
 | 1,_=>exact e
 | 2,_=>exact f
def Zs7(h:DataW.trod enc Tryz.prog W base sp held fuel 110 cs=some y):∃x:pU,cs=Enc.enc x:=by
 obtain⟨xs,n,rfl,_,w,p,o⟩:=DataW.trod_struct Tryz.underlying110 h;rw[Am]at w;obtain⟨D,z⟩:=Yx (xs:=xs) (i:=0) (by rw[p];decide);obtain⟨E,A⟩:=Yx (xs:=xs) (i:=1) (by rw[p];decide);obtain⟨F,B⟩:=Yx (xs:=xs) (i:=2) (by rw[p];decide);have q:DataW.trod enc Tryz.prog W base sp held n 56 ((cs.drop 0).take (Tryz.prog.cellsOf 56))=xs[0]?:=o 0 _ rfl;have s:DataW.trod enc Tryz.prog W base sp held n 56 ((cs.drop 2).take (Tryz.prog.cellsOf 56))=xs[1]?:=o 1 _ rfl;have u:DataW.trod enc Tryz.prog W base sp held n 3 ((cs.drop 4).take (Tryz.prog.cellsOf 3))=xs[2]?:=o 2 _ rfl;rw[z]at q;rw[A]at s;rw[B]at u;obtain⟨a,b,m⟩:=BB q;obtain⟨c,d,hb⟩:=BB s;obtain⟨e,l⟩:=Ul u;rw[BM]at m hb;rw[sP]at l;have l:=Vf l;have f:=qAQ (·[0]?) m;have g:=qAQ (·[1]?) m;have j:=qAQ (·[0]?) hb;have k:=qAQ (·[1]?) hb;simp[qBo,qBp]at f g j k;refine⟨⟨a,b,c,d,e⟩,O5 w λi C=>?_⟩;match i,C with
 | 0,_=>exact f
 | 1,_=>exact g
 | 2,_=>exact j
 | 3,_=>exact k
 | 4,_=>exact l
def A0[Enc α]{e:TypeId}(Y:Tryz.prog.underlying t=some (.slice e))(U:Tryz.prog.cellsOf e=Enc.sz α)(f:0<Enc.sz α)
  (w:∀{n:Nat} {cs:List Value} {y:DataW H×List MemPlace},DataW.trod enc Tryz.prog W base sp held n e cs=some y->∃x:α,cs=Enc.enc x)
  (h:DataW.trod enc Tryz.prog W base sp held fuel t cs=some y):∃v,cs=[v]/\∃l:List α,Zj (lP W) v l:=by
 rcases DataW.trod_slice Y h with⟨rfl,_⟩ | ⟨a,len,cap,m,rest,n,_,rfl,_,_,hl,_,G,T,_⟩
 ·exact⟨_,rfl,[],.nil _⟩
 have K:∀i,i<len->∃x:α,W.cells? base (a.add (i * Enc.sz α)) (Enc.sz α)=some (Enc.enc x):=by intro i k;obtain⟨y,Z⟩:=Yx (xs:=m) (i:=i) O;have:=T i k;rw[Z,U,qCx]at this;obtain⟨c,R,S⟩:=this;obtain⟨x,rfl⟩:=w S;exact⟨x,R⟩
 let l:List α:=List.ofFn λi:Fin len=>(K i.1 i.2).choose
 have z:l.length=len:=by simp[l]
 have V:∀i (k:i<l.length),W.cells? base (a.add (i * Enc.sz α)) (Enc.sz α)=some (Enc.enc l[i]):=by intro i k;have:=(K i O).choose_spec;simpa[l]using this
 refine⟨_,rfl,l,some a,cap,by rw[z],λB=>⟨a,rfl,?_⟩⟩;have g:∀i (k:i<l.length),∀j,j<Enc.sz α->W.cell? ((a.add (i * Enc.sz α)).add j)=(Enc.enc l[i])[j]?:=λi k=>(World.cells?_some (V i k)).2.2;have p:0<l.length:=qCR.2 B;have C:a.spot=none/\∃o,W.heap[a.block]? = some o:=by
  have E:=g 0 p 0 f;have:((Enc.enc l[0])[0]? : Option Value)=some ((Enc.enc l[0])[0]'(by rw[Enc.len];exact f)):=qAx _;rw[this]at E;obtain⟨M,o,u,_⟩:=UE E;have Q:(a.add (0 * Enc.sz α)).add 0=a:=by simp[Addr.add]
  rw[Q]at M u;exact⟨M,o,u⟩
 obtain⟨X,o,I⟩:=C;refine⟨X,o,false,by rw[FF,I];rfl,λj F=>?_⟩;rw[UC]at F;have k:j / Enc.sz α<l.length:=(Nat.div_lt_iff_lt_mul f).2 F;have A:j % Enc.sz α<Enc.sz α:=qCW _ f;have s:j=j / Enc.sz α * Enc.sz α+j % Enc.sz α:=(Nat.div_add_mod' j _).symm;have J:(Enc.enc l[j / Enc.sz α])[j % Enc.sz α]? = some ((Enc.enc l[j / Enc.sz α])[j % Enc.sz α]'(by rw[Enc.len];exact A)):=qAx _;have q:=g _ k _ A;rw[J]at q;obtain⟨_,o',u,N⟩:=UE q;rw[vQ,vQ,I]at u;obtain rfl:=iN u;rw[vR,vR,qCl,<-s]at N;have D:=L0 l _ _ k A;rw[<-s]at D;rw[N,D,J]
def Zzn(h:DataW.trod enc Tryz.prog W base sp held fuel 25 cs=some y):∃b,bK (lP W) (.agg cs.toArray) b:=by
 obtain⟨xs,n,rfl,_,s,j,f⟩:=DataW.trod_struct Tryz.underlying25 h;rw[Zw1]at s;obtain⟨E,x⟩:=Yx (xs:=xs) (i:=0) (by rw[j];decide);obtain⟨F,z⟩:=Yx (xs:=xs) (i:=1) (by rw[j];decide);obtain⟨G,A⟩:=Yx (xs:=xs) (i:=2) (by rw[j];decide);obtain⟨I,B⟩:=Yx (xs:=xs) (i:=3) (by rw[j];decide);have o:DataW.trod enc Tryz.prog W base sp held n 3 ((cs.drop 0).take (Tryz.prog.cellsOf 3))=xs[0]?:=f 0 _ rfl;have p:DataW.trod enc Tryz.prog W base sp held n 3 ((cs.drop 1).take (Tryz.prog.cellsOf 3))=xs[1]?:=f 1 _ rfl;have q:DataW.trod enc Tryz.prog W base sp held n 22 ((cs.drop 2).take (Tryz.prog.cellsOf 22))=xs[2]?:=f 2 _ rfl;have f3:DataW.trod enc Tryz.prog W base sp held n 23 ((cs.drop 3).take (Tryz.prog.cellsOf 23))=xs[3]?:=f 3 _ rfl;rw[x]at o;rw[z]at p;rw[A]at q;rw[B]at f3;obtain⟨a,c⟩:=Ul o;obtain⟨b,hb⟩:=Ul p;obtain⟨u,g,D,l⟩:=A0 (α:=pU) Tryz.underlying22 Am (by decide) (λh=>Zs7 h) q;obtain⟨m,e,w,k⟩:=A0 (α:=gA) Tryz.underlying23 Al (by decide) (λh=>ZwO h) f3;rw[sP]at c hb;rw[Zw3]at g;rw[Zw2]at e;have c:=Vf c;have hb:=Vf hb;have g:=Vf g;have e:=Vf e;refine⟨⟨a,b,D,w⟩,u,m,?_,l,k⟩;have:cs=[vi a,vi b,u,m]:=O5 s λi C=>by
  match i,C with
  | 0,_=>exact c
  | 1,_=>exact hb
  | 2,_=>exact g
  | 3,_=>exact e
 rw[this]
set_option maxRecDepth 100000 in
def Zzo{d:DataW H}{ps:List MemPlace}(a:Value.okWide Tryz.prog W r b0 25 v)(e:DataW.Trod enc Tryz.prog W base sp held 25 v d ps):∃b,bK (lP W) v b:=by obtain⟨fuel,f⟩:=e;obtain⟨c,rfl⟩:=PH Tryz.underlying25 a;have:=Zzn f;simpa[Value.cells]using this
end
def ZwX:Tryz.prog.cellsOf 234=3:=U
def ZwY:Tryz.prog.cellsOf 233=1:=U
def ZwZ:Tryz.prog.cellsOf 227=3:=U
def Zw0:Tryz.prog.cellsOf 161=1:=U
def WQ(H:Hp):Prop:=aC H ⟨0,0,none⟩ [vf 261,vf 262,vf 263]
set_option maxRecDepth 100000 in
def Zvj{W:World}(z:("ribband/spile.checks",Rows.laid_ribband_spile_checks)∈L)(h:laidMetH Tryz.prog L W):ZY (lP W):=by
 obtain⟨g,t,cs,fuel,p,hg,B,hv,x⟩:=h.funcs z;obtain rfl:=iN (qZ.symm.trans hg);obtain rfl:=iN (pX.symm.trans B);obtain⟨xs,n,rfl,C,o,A,m⟩:=DataW.trod_array Tryz.underlying234 x;rw[ZwX]at o;have j:=m 0 (by decide);have k:=m 1 (by decide);have l:=m 2 (by decide);rw[ZwY]at j k l;obtain⟨s,u,w,rfl⟩:∃a b c,xs=[a,b,c]:=by
  match xs,A with
  | [a,b,c],_=>exact⟨a,b,c,rfl⟩
 obtain⟨c0,c1,c2,e⟩:∃a b c,cs.toList=[a,b,c]:=by
  match h:cs.toList,o with
  | [a,b,c],_=>exact⟨a,b,c,rfl⟩
 rw[e]at j k l;have f:DataW.agg [.held [40,114,105,98,98,97,110,100,47,115,112,105,108,101,46,98,111,111,107,41,46,99,111,109,112,97,115,115],.held [40,114,105,98,98,97,110,100,47,115,112,105,108,101,46,98,111,111,107,41,46,112,111,105,110,116,115],.held [40,114,105,98,98,97,110,100,47,115,112,105,108,101,46,98,111,111,107,41,46,99,104,101,99,107,101,100]]=DataW.agg [s.1,u.1,w.1]:=(Prod.mk.inj C).1;simp only[DataW.agg.injEq,qAD,qBP]at f;obtain⟨k0,k1,q⟩:=f;obtain⟨D,z0⟩:=s;obtain⟨E,G⟩:=u;obtain⟨F,I⟩:=w;dsimp only at k0 k1 q;subst k0 k1 q;obtain rfl:=Go.func_of_trod (f0:=267) Tryz.underlying233 U j;obtain rfl:=Go.func_of_trod (f0:=268) Tryz.underlying233 U k;obtain rfl:=Go.func_of_trod (f0:=269) Tryz.underlying233 U l;have AI:cs=#[vf 267,vf 268,vf 269]:=by rw[<-qBM (xs:=cs),e]
 exact Mp
set_option maxRecDepth 100000 in
def Zvk{W:World}(z:("ribband/frame.checks",Rows.laid_ribband_frame_checks)∈L)(h:laidMetH Tryz.prog L W):WQ (lP W):=by
 obtain⟨g,t,cs,fuel,p,hg,B,hv,x⟩:=h.funcs z;obtain rfl:=iN (uF.symm.trans hg);obtain rfl:=iN (tG.symm.trans B);obtain⟨xs,n,rfl,C,o,A,m⟩:=DataW.trod_array Tryz.underlying227 x;rw[ZwZ]at o;have j:=m 0 (by decide);have k:=m 1 (by decide);have l:=m 2 (by decide);rw[Zw0]at j k l;obtain⟨s,u,w,rfl⟩:∃a b c,xs=[a,b,c]:=by
  match xs,A with
  | [a,b,c],_=>exact⟨a,b,c,rfl⟩
 obtain⟨c0,c1,c2,e⟩:∃a b c,cs.toList=[a,b,c]:=by
  match h:cs.toList,o with
  | [a,b,c],_=>exact⟨a,b,c,rfl⟩
 rw[e]at j k l;have f:DataW.agg [.held [40,114,105,98,98,97,110,100,47,102,114,97,109,101,46,98,111,111,107,41,46,112,111,105,110,116,115],.held [40,114,105,98,98,97,110,100,47,102,114,97,109,101,46,98,111,111,107,41,46,116,97,112,101,115],.held [40,114,105,98,98,97,110,100,47,102,114,97,109,101,46,98,111,111,107,41,46,115,116,105,99,107,115]]=DataW.agg [s.1,u.1,w.1]:=(Prod.mk.inj C).1;simp only[DataW.agg.injEq,qAD,qBP]at f;obtain⟨k0,k1,q⟩:=f;obtain⟨D,z0⟩:=s;obtain⟨E,G⟩:=u;obtain⟨F,I⟩:=w;dsimp only at k0 k1 q;subst k0 k1 q;obtain rfl:=Go.func_of_trod (f0:=261) Tryz.underlying161 U j;obtain rfl:=Go.func_of_trod (f0:=262) Tryz.underlying161 U k;obtain rfl:=Go.func_of_trod (f0:=263) Tryz.underlying161 U l;have AI:cs=#[vf 261,vf 262,vf 263]:=by rw[<-qBM (xs:=cs),e]
 exact Mp
end
section
open Go.Conc Go.ConcM
open YthmnpenamnoniaaGreatDoor
open Go.ChangeShapes Go.WideShapes Go.ChangeAt Go.RowKit
def Zva(k:Looks){p:Pinned}{s:OpenSpec}{c:OpenClaim}(kinds:List LaidKind)(b:Bool)(a:Bool×String)(g:Bool)
  (q:c.holds p s) (A:c.wfByText s=true) (e:c.laidByTextAt k p kinds b)
  (m:c.start=.entering) (l:c.noBlocks=false/\c.again=false) (x:p.checked.prog.mainIs=some (a.1,a.2.toList)) (z:(!a.1 && a.2.isEmpty && !g)=false)
  (w:∀f fn,p.checked.prog.funcNamed c.func=some f->p.checked.prog.funcs[f]? = some fn->g=p.checked.prog.looks []/\∀(j:Nat) t,fn.params[j]? = some t->p.checked.prog.wantsStandIn t=false)
  (u:true=c.goesBy p.checked.prog) :
  Claim7.holds p (.plain s) { stood:={ row:=c,standIns:=[],harness:=a,looks:=g },kinds:=[],alts:=[],goes:=true,laidByText:=true,laidKinds:=kinds,laidTests:=b,laidLooks:=k }:=by
 have n:∀r:OpenClaim,Claim7.isSixth { stood:={ row:=r,standIns:=[],harness:=a,looks:=g },kinds:=[] }=false:=λr=>by simpa[Claim7.isSixth]using z
 refine⟨Claim7.tied_new_at k kinds b (Claim7.new_of_sixth q a g m l x (n c) w) A,λD o=>?_,e,(λh=>by cases h),u⟩;simp at o
section
variable{H:Type}{enc:TypeId×Value->H}
def T0{P:Program}(l:laidOutB P=true){W k:World}(hb:Below W.heap.size W k):∀{e:List TypeId} {j:List Value} {f:List (DataW H)} {ps:List MemPlace},(∀t∈e,P.readableRec t=true/\t<P.types.size) ->
  DataW.TrodAll enc P W 0 (λ_=>true) true e j f ps->(∀x∈ps,x.block<W.heap.size)->DataW.TrodAll enc P k 0 (λb=>decide (b<W.heap.size)) true e j f ps
 | [],[],[],_,_,h,_=>h
 | t :: e,v :: j,d :: f,ps,m,h,a=>by obtain⟨p,q,n,o,rfl⟩:=h;have c:=m t (by simp);exact⟨p,q,hb.trod l c.1 c.2 n (λx g=>a x (by simp[g])),T0 l hb (λt c=>m t (by simp[c])) o (λx g=>a x (by simp[g])),rfl⟩
 | [],_ :: _,_,_,_,h,_=>by simp[DataW.TrodAll]at h
 | [],[],_ :: _,_,_,h,_=>by simp[DataW.TrodAll]at h
 | _ :: _,[],_,_,_,h,_=>by simp[DataW.TrodAll]at h
 | _ :: _,_ :: _,[],_,_,h,_=>by simp[DataW.TrodAll]at h
def Qj{P:Program}{W:World}{base:Nat}{sp:Nat->Bool}{held:Bool}:∀{b:List TypeId} {c:List Value} {a:List (DataW H)} {ps:List MemPlace},DataW.TrodAll enc P W base sp held b c a ps->a.length=b.length
 | [],[],[],_,_=>rfl
 | t :: b,v :: c,d :: a,ps,h=>by obtain⟨p,q,f,e,rfl⟩:=h;simp[Qj e]
 | [],_ :: _,_,_,h=>by simp[DataW.TrodAll]at h
 | [],[],_ :: _,_,h=>by simp[DataW.TrodAll]at h
 | _ :: _,[],_,_,h=>by simp[DataW.TrodAll]at h
 | _ :: _,_ :: _,[],_,h=>by simp[DataW.TrodAll]at h
set_option maxRecDepth 100000 in
theorem ZuS(L:List (String×DataW Unit)){Gl:Hp->Prop}(O:∀W,laidMetH Tryz.prog L W->Gl (lP W))(m:∀(os:Os) (args:Array Value),laidMetH Tryz.prog L ((World.doorLaid Tryz.prog 600 os).forCall (λ_ _=>0) ⟨#[],args,[]⟩).memory){f:FuncId}{fn:Func}{t:Nat}{s:ChangeSpec}(os:Os)(c:os.Started)(F:Stop.Interp)(b:s.vars=[])
  (R:Tryz.prog.funcs[f]? = some fn) (Xz:fn.results=#[.tmp t]) (U:fn.resultTypes=#[4]) (S:Tryz.prog.inits.idxOf? f=none)
  (hs:∀g:List (DataW H),g.length=fn.params.toList.length->s.fn H g={ results:=[.lit (.bool true)],args:=g })
  (E:∀t∈fn.params.toList,Tryz.prog.readableRec t=true/\t<Tryz.prog.types.size)
  (z:∀(W:World) (base:Nat) (args:Array Value) (g:List (DataW H)) (p:List MemPlace),(∀(j:Nat) t v,fn.params[j]? = some t->args[j]? = some v->Value.okWide Tryz.prog W .any base t v) ->
   DataW.TrodAll enc Tryz.prog W 0 (λ_=>true) true fn.params.toList args.toList g p->Gl (lP W)->LL.Reach PP (pT Tryz.prog f fn t (vb true)) (Frame.enter Tryz.prog f args .normal) [] (lP W))
  (a:Array Value)
  (T:Input.okWideB Tryz.prog ((World.doorLaid Tryz.prog 600 os).forCall (λ_ _=>0) ⟨#[],a,[]⟩) f ⟨#[],a,[]⟩=true)
  (G:s.preB enc Tryz.prog fn [] false ((World.doorLaid Tryz.prog 600 os).forCall (λ_ _=>0) ⟨#[],a,[]⟩).memory a 8=true)
  (V:s.sizedB enc Tryz.prog fn false ((World.doorLaid Tryz.prog 600 os).forCall (λ_ _=>0) ⟨#[],a,[]⟩).memory a 8=true) :
  ReturnsInLeavingWide { calm:=true } Tryz.checked os f .any (λw args=>(s.pre enc Tryz.prog fn [] false w args/\laidMetH Tryz.prog L w)/\sizedMet enc Tryz.prog fn (OpenSpec.ofChange s) false w args)
   ((OpenSpec.ofChange s).postWith enc Tryz.prog fn F (outsideKept [.timePasses]) false true false):=by
 refine ZuP (C:=Tryz.checked) (X:=λw _=>laidMetH Tryz.prog L w) (λ_ _ _ hh h=>h.of_heap hh) Zph c R
  (Zo5 (enc:=enc) (C:=Tryz.checked) (os:=os) (X:=λw _=>laidMetH Tryz.prog L w) (World.doorLaid Tryz.prog 600 os) a 8 rfl (Zpa os a) T G V (m os a)) ?_
 intro W base args g gs k u Q hL
 have Z:DataW.Whole enc Tryz.prog fn.params.toList s.vars false W args.toList g gs k:=Q
 have I:∀(j:Nat) t v,fn.params[j]? = some t->args[j]? = some v->Value.okWide Tryz.prog W .any base t v:=u
 have A:=Z
 obtain⟨p,q,N,Y,rfl,_,_⟩:=Z
 rw[b]at Y
 obtain⟨rfl,rfl⟩:=trodVars_none Y
 obtain⟨M,J,o,w',t',r1,r2,r3,v,e,hp,g1,g2,g3,g4⟩:=Zqn S (z W base args g p I N (O W hL))
 refine⟨M,J,o,w',t',r1,r2,r3,v,e,⟨?_,hp.2.os⟩,g1,g2,g3,g4⟩
 obtain⟨rfl,K⟩:=hp
 have l:Below W.heap.size W { w' with os:=W.os }:=⟨rfl,K.tape,K.out,K.size,K.heap⟩
 have D:∀x∈p++[],x.block<W.heap.size:=λx hx=>A.lt x hx
 rw[qAw]at D
 have n:=hs g (Qj N)
 have B:=T0 Zpi l E N D
 refine⟨g,[],p++[],[],p,[],A,?_,?_,?_,l.frame _,λh=>by cases h⟩
 ·rw[qAw,n,U];exact trodAll_mk1 (shut_bool Tryz.underlying4 _)
 ·rw[qAw,n];exact B
 ·rw[b,qAw,n];rfl
end
end
def U1(b:Bk):Bool:=decide (b.aF.length<=20) && decide (b.bJ.length<=20) && decide (ZC b=0)
section
variable{P:aY}[Tz P][Loud P]{H:Hp}
theorem KH{f:Value}{b:Bk}(hb:bK H f b):LL.Za P 6 #[f] H λv g=>H=g/\v=vb (U1 b):=by
 have a:=hb;obtain⟨s,o,rfl,q,p⟩:=hb;refine aI.m (bG c48) rfl ?_;unfold RD;refine Y ?_;refine Zl (vs:=[.agg #[vi b.op,vi b.sl,s,o]]) (ZAk a) ?_;refine OJ (λc=>?_) (λc=>?_)
 ·refine Y ?_;simp only[qAK,Bool.or_eq_false_iff,qBf]at c;refine Zl (vs:=[.agg #[vi b.op,vi b.sl,s,o]]) (ZAC a O O) (Y ?_);refine⟨rfl,?_⟩;have e:∀z:Int,(z == 0)=decide (z=0):=λz=>by rw[qCb];simp
  have j:b.aF.length<=20:=O;have k:b.bJ.length<=20:=O;simp[Yn,U1,c,j,k,e]
 refine Y ?_;refine⟨rfl,?_⟩;simp only[Bool.not_eq_false',qDg,Bool.not_eq_false,qBm,qAv]at c;have:U1 b=false:=by rw[Bool.eq_false_iff];intro h;simp only[U1,oR,qAv]at h;omega
 rw[this];rfl
end
open Go.Conc Go.ConcM
open YthmnpenamnoniaaGreatDoor Go.ChangeShapes Go.WideShapes
section
variable{H:Type}{enc:TypeId×Value->H}{W:World}{base:Nat}{sp:Nat->Bool}{held:Bool}{fuel:Nat}{cs:List Value}{y:DataW H×List MemPlace}{r:Reach}{b0:Nat}{v:Value}{d:DataW H}{ps:List MemPlace}
def Qp(a:Value.okWide Tryz.prog W r b0 5 v)(b:DataW.Trod enc Tryz.prog W base sp held 5 v d ps):∃n,v=.int .u8 n/\0<=n/\n<256:=by obtain⟨n,rfl,_,_,c⟩:=open_int Tryz.underlying5 a b;simp only[Lit.wf,oR,qAv]at c;have e:IntKind.u8.min=0:=rfl;have f:IntKind.u8.max=255:=rfl;exact⟨n,rfl,O,O⟩
end
