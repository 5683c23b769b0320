import Derived.Test.YtmfealhfgccmfaaGreatDoorP00
set_option linter.all false
def Wy{G:Prop}(h:G:=by refine(h0.frame hc).bind ?_;rintro fr kY HF ⟨H',rfl,SQ,rfl,v,H1,J,rfl,rfl,hj,hp⟩;have c1:H1.Comp F:=SQ.gP;have c2:J.Comp F:=Hp.Comp.gS hj SQ;rw[Hp.kI c2.symm];exact(hG v _ ⟨H1,rfl,c1,hp⟩).up qB (Hp.Comp.lX hj c2.symm)):G:=h
def LU{G:Prop}(h:G:=by rintro fr kY H' J hJ ⟨rfl,v,H1,J1,rfl,rfl,hj,hp⟩;exact⟨rfl,v,H1,J1.join J,rfl,Hp.gV _ _ _,hj.join_r hJ.gP,hp⟩):G:=h
def T3{G:Prop}(h:G:=by
  induction x with
  | pure a=>rfl
  | halt h=>rfl
  | store m a v k ih=>simp only[Sem.bind,ih]
  | freeze a n k ih=>simp only[Sem.bind,ih]
  | setObj r o k ih=>simp only[Sem.bind,ih]
  | mark m k ih=>simp only[Sem.bind,ih]
  | _=>simp only[Sem.bind];congr 1;funext x;rename_i ih;exact ih x):G:=h
def LS{G:Prop}(h:G:=by intro v H' hp;exact .stop ⟨rfl,v,H',.nil,rfl,(Hp.hZ H').symm,Hp.iJ H',hp⟩):G:=h
def TF{G:Prop}(h:G:=by
  intro G c cs qB hG;have h0:=h (λfr kY H'=>kY=cs/\∃v H1 J,fr=c.finish v/\H'=H1.join J/\H1.Comp J/\Post v H1) c cs ?_ ?_
  ·exact Wy
  ·exact LU
  exact LS):G:=h
def S7{G:Prop}(h:G:=by
  simp only[Hp.fW]at hx;cases hh:H b with
  | none=>rw[hh]at hx;exact h2 b x y hx hy
  | some z=>rw[hh]at hx;exact h1 b x y (by rw[hh];exact hx) hy):G:=h
namespace Go.LL
section
variable{r:Nat}{o:Obj}{P:fP}{f:FuncId}{ds:List Deferred}{d:Deferred}
def Hp.mS(H F:Hp)(r:Nat)(o:Obj):(H.ins r o).join F=(H.join F).ins r o:=by refine Hp.ext' (λb=>?_) rfl;simp only[Hp.fW,Hp.iG];by_cases h:b=r<;>simp[h]
def Hp.Comp.mT{H F:Hp}(g:H.Comp F){k:Obj}(h:H r=some (k,true)):(H.ins r o).Comp F:=by
 refine⟨?_,g.gh⟩;intro b x y c j;simp only[Hp.iG]at c;split at c
 ·subst b;have:=g r _ y h j;simp at this
 exact g b x y c j
def Hp.Comp.kW{H F:Hp}(j:H.Comp F)(o:Obj)(h:F r=none):(H.ins r o).Comp F:=by
 refine⟨?_,j.gh⟩;intro b x y c g;simp only[Hp.iG]at c;split at c
 ·subst b;rw[h]at g;simp at g
 exact j b x y c g
def Hp.Comp.jX{H F:Hp}(c:H.Comp F)(h:H r=some (o,true)):F r=none:=by
 cases g:F r with
 | none=>rfl
 | some y=>have:=c r _ y h g;simp at this
def Hp.Comp.left_none{H F:Hp}(j:H.Comp F)(h:F r=some (o,true)):H r=none:=by
 cases k:H r with
 | none=>rfl
 | some y=>
  obtain⟨g,c⟩:=j r _ _ k h;rw[g]at c;simp at c
theorem Ni{P:PQ}{α:Type}{s:Sem α}{Q:α->Bool->Hp->Prop}{F:Hp}:∀{g:Bool} {H:Hp},fZ P s Q g H->H.Comp F ->
  fZ P s (λa g G=>∃E,G=E.join F/\E.Comp F/\Q a g E) g (H.join F):=by
 induction s with
 | pure a=>exact λh l=>⟨_,rfl,l,h⟩
 | load m a k ih=>exact λ⟨o,p,v,u,z,A,B,C⟩ l=>⟨o,p,v,⟨Uj l u.1,Hp.eN u.2⟩,z,A,B,ih v C l⟩
 | store m a v k ih=>exact λ⟨o,u,z,A,B,C,I,h7⟩ l=>⟨o,⟨Uj l u.1,Hp.eN u.2⟩,z,A,B,C,I,by rw[<-Hp.mS];exact ih h7 (l.mT u.2)⟩
 | new o k ih=>
  intro g H h l;refine⟨Uj l h.1,λr J=>?_⟩;obtain⟨u,z⟩:=Hp.hQ.1 J;rw[<-Hp.mS];exact ih r (h.2 r u) (l.kW o z)
 | shape r k ih=>exact λ⟨o,p,u,z⟩ l=>⟨o,p,⟨Uj l u.1,Hp.eN u.2⟩,ih _ z l⟩
 | freeze a n k ih=>exact λh l=>h.imp (λ⟨u,z⟩=>⟨u,ih z l⟩) (λ⟨o,u,z,A⟩=>⟨o,⟨Uj l u.1,Hp.eN u.2⟩,z,by rw[<-Hp.mS];exact ih A (l.mT u.2)⟩)
 | frozen a k ih=>exact λ⟨o,p,u,z⟩ l=>⟨o,p,⟨Uj l u.1,Hp.eN u.2⟩,ih _ z l⟩
 | getObj r k ih=>exact λ⟨o,p,u,z,A,B⟩ l=>⟨o,p,⟨Uj l u.1,Hp.eN u.2⟩,z,A,ih _ B l⟩
 | setObj r o k ih=>exact λ⟨K,u,z,A,B,C⟩ l=>⟨K,⟨Uj l u.1,Hp.eN u.2⟩,z,A,B,by rw[<-Hp.mS];exact ih C (l.mT u.2)⟩
 | choose q k ih=>
  intro g H h l;by_cases D:q.forced=true
  ·simp only[fZ,D,qBb]at h ⊢;exact ih _ h l
  simp only[fZ,D]at h ⊢;exact⟨Uj l h.1,λt=>ih _ (h.2 t) l⟩
 | sys c k ih=>exact λh _=>h
 | program k ih=>exact λh l=>ih _ h l
 | mark m k ih=>exact λ⟨u,z⟩ l=>⟨u.imp id λh=>⟨h.1,Uj l h.2⟩,ih z l⟩
 | halt h=>exact λh _=>h
theorem Hp.gV(H F J:Hp):(H.join F).join J=H.join (F.join J):=by refine Hp.ext' (λb=>?_) (by simp only[Hp.gB,qAE]);simp only[Hp.fW];cases H b<;>rfl
def Hp.Comp.symm{H F:Hp}(h:H.Comp F):F.Comp H:=⟨λb x y c g=>by obtain⟨e,p⟩:=h b y x g c;exact⟨e.symm,by rw[<-e];exact p⟩,h.gh.symm⟩
def Hp.pA{H F:Hp}(h:H.Comp F):H.join F=F.join H:=by
 refine Hp.ext' (λb=>?_) (by simp only[Hp.gB];rcases h.gh with e | e<;>simp[e]);simp only[Hp.fW];cases h1:H b with
 | none=>cases c:F b<;>simp
 | some x=>
  cases c:F b with
  | none=>rfl
  | some y=>simp[(h b x y h1 c).1]
theorem Hp.Comp.gP{H F J:Hp}(h:(H.join F).Comp J):H.Comp J:=⟨λb x y c g=>h b x y (Hp.eN c) g,h.gh.imp (λe=>(qCH.1 e).1) id⟩
theorem Hp.Comp.gS{H F J:Hp}(j:H.Comp F)(h:(H.join F).Comp J):F.Comp J:=⟨λb x y c g=>h b x y (Hp.fS j c) g,h.gh.imp (λe=>(qCH.1 e).2) id⟩
def Hp.Comp.lX{H F J:Hp}(h1:H.Comp J)(h2:F.Comp J):(H.join F).Comp J:=by
 refine⟨λb x y hx hy=>?_,?_⟩
 ·exact S7
 rcases h1.gh with c | c
 ·rcases h2.gh with g | g
  ·exact .inl (by simp[Hp.gB,c,g])
  exact .inr g
 exact .inr c
def Hp.hZ(H:Hp):H.join .nil=H:=Hp.ext' (λb=>by simp only[Hp.fW];cases H b<;>rfl) (by simp[Hp.gB,Hp.nil])
def Hp.iJ(H:Hp):H.Comp .nil:=⟨λ_ _ _ _ h=>by simp[Hp.nil]at h,.inr rfl⟩
def Hp.Comp.join_r{H F J:Hp}(c:H.Comp F)(g:H.Comp J):H.Comp (F.join J):=(Hp.Comp.lX c.symm g.symm).symm
def Hp.kI{H F J:Hp}(h:F.Comp J):(H.join J).join F=(H.join F).join J:=by rw[Hp.gV,Hp.gV,Hp.pA h]
def Zb.frame{args:Array Value}{H F:Hp}{Post:Value->Hp->Prop}(h:Zb P f args H Post)(hc:H.Comp F) :
  Zb P f args (H.join F) (λv HF=>∃H',HF=H'.join F/\H'.Comp F/\Post v H'):=by
 exact TF
def U4.frame{l:Nat}{tmps:Array Value}{assign body:Code}{H F:Hp}{Post:Value->Hp->Prop}(h:U4 P l f tmps assign body H Post)(hc:H.Comp F) :
  U4 P l f tmps assign body (H.join F) (λv HF=>∃H',HF=H'.join F/\H'.Comp F/\Post v H'):=by
 exact TF
def Zm.frame{s:Sem Next}{k nr:Bool}{H F:Hp}{c:Value->Hp->Prop}(h:Zm P s k nr H c)(hc:H.Comp F) :
  Zm P s k nr (H.join F) (λv HF=>∃H',HF=H'.join F/\H'.Comp F/\c v H'):=by
 intro G g j cs qB l hG;have h0:=h (λfr kY H'=>kY=cs/\∃v H1 J,fr=j v/\H'=H1.join J/\H1.Comp J/\c v H1) g j cs ?_ l ?_
 ·exact Wy
 ·exact LU
 exact LS
def PX(d:Deferred):Bool:=
 match d.target with
 | .collected _=>true
 | _=>false
def VE:List Deferred->List Nat
 | []=>[]
 | d :: ds=>match d.target with
  | .collected r=>r :: VE ds
  | _=>VE ds
def OE:List Deferred->List Deferred
 | []=>[]
 | d :: ds=>if PX d then OE ds else d :: OE ds
def U6(P:PQ)(K:Hp)(ds:List Deferred):Prop:=(VE ds).Nodup/\(∀r∈VE ds,K r=some (.deferred (some []),true))/\(VE ds=[]\/∀g,P.still g=false)
def U6.nil(P:PQ)(K:Hp):U6 P K []:=⟨List.nodup_nil,λr h=>by simp[VE]at h,.inl rfl⟩
def U6.ins{P:PQ}{K:Hp}(h:U6 P K ds)(k:∀j,K r=some (j,true)->∀c,j≠.deferred c):U6 P (K.ins r o) ds:=
 ⟨h.1,λx l=>by
  have g:=h.2.1 x l;by_cases e:x=r
  ·subst e;exact absurd rfl (k _ g _)
  rw[Hp.aR _ _ e];exact g,h.2.2⟩
theorem Zlp(c:PX d=false):VE (d :: ds)=VE ds:=by
 unfold PX at c;simp only[VE];split at c
 ·simp at c
 rfl
def U6.plain{P:PQ}{K:Hp}(h:U6 P K ds)(hd:PX d=false):U6 P K (d :: ds):=by unfold U6;rw[Zlp hd];exact h
def XO:Op->Bool
 | .defer _=>true
 | _=>false
structure fG where
 env:Nat->Option Value
 box:Nat->Option (List Value)
 gR:List Deferred
def fG.set(σ:fG)(d:Option Nat)(v:Value):fG:=
 match d with
 | none=>σ
 | some d=>{ σ with env:=λt=>bif Nat.beq t d then some v else σ.env t }
def fG.jP(σ:fG)(d:Option Nat):fG:=
 match d with
 | none=>σ
 | some d=>{ σ with env:=λt=>bif Nat.beq t d then some undef else σ.env t }
def fG.drop(σ:fG)(c:List Nat):fG:={ σ with env:=λt=>bif c.elem t then none else σ.env t }
def fG.put(σ:fG)(d:Nat)(cs:List Value):fG:={ σ with box:=λt=>bif Nat.beq t d then some cs else σ.box t }
def fG.get(σ:fG):Operand->Option Value
 | .tmp t=>σ.env t
 | .const v=>some v
 | .global g=>some (.pointer (some ⟨g,0,none⟩))
 | .func f=>some (.func (.func f) #[] #[])
def fG.gets(σ:fG):List Operand->Option (List Value)
 | []=>some []
 | x :: r=>match σ.get x,σ.gets r with
  | some v,some c=>some (v :: c)
  | _,_=>none
inductive fR where
 | lS (x:Operand)
 | pick (c a b:Operand)
 | fV (op:BinOp) (x y:Operand)
 | not (x:Operand)
 | ext (x:Operand) (i:Nat)
 | oL (off:Nat) (n:Option Nat) (x:Operand)
 | fE (off:Nat) (x:Operand)
 | gC (iS:Nat) (x i:Operand)
 | ld (n:Option Nat) (x:Operand)
 | len (x:Operand)
 | eC (d:Nat) (ts:List Nat) (z:List Value)
 | eE (d:Nat) (ts:List Nat) (x:Operand)
 | fH (off t:Nat)
 | hO (iS len t:Nat) (i:Operand)
 | nH (iS len:Nat) (x i:Operand)
 | gO (d:Nat) (n:Option Nat) (t:Nat)
 | tS (d n t:Nat) (x:Operand)
 | call (f:FuncId) (args:List Operand)
 | build (z:List Value) (ps:List (Nat×Nat×Operand))
 | fJ (e:TypeId) (len:Nat) (z:List Value) (ps:List (Nat×Nat×Operand))
 | raw (op:Op) (ty:TypeId)
 | lV (op:Op) (ty:TypeId)
 | gE (op:Op) (ty:TypeId)
def ZR(z:List Value)(off:Nat)(c:List Value):List Value:=z.take off++c++z.drop (off+c.length)
def buildV(σ:fG):List (Nat×Nat×Operand)->List Value->Option (List Value)
 | [],z=>some z
 | (off,sz,x) :: r,z=>
  match σ.get x with
  | some v=>bif Nat.beq v.cells.size sz && Nat.ble (off+sz) z.length then buildV σ r (ZR z off v.cells.toList)else none
  | none=>none
def EC(op:BinOp)(k:IntKind)(m n:Int):Option Value:=
 match op with
 | .add=>some (.int k (k.wrap (m+n)))
 | .sub=>some (.int k (k.wrap (m-n)))
 | .mul=>some (.int k (k.wrap (m * n)))
 | .eql=>some (.bool (m == n))
 | .neq=>some (.bool (m != n))
 | .lss=>some (.bool (m<n))
 | .leq=>some (.bool (m<=n))
 | .gtr=>some (.bool (m > n))
 | .geq=>some (.bool (m ≥ n))
 | _=>none
def Zu7(op:BinOp):Bool:=
 match op with
 | .add | .sub | .mul | .eql | .neq | .lss | .leq | .gtr | .geq=>true
 | _=>false
def fL(op:Op)(c:TypeId):Oper:={ dst:=none,op:=op,type:=c,pos:= "",after:=#[],guard:=none }
def qG(P:PQ)(s:Sem Next)(v:Value):Prop:=∀(Q:Next->Bool->Hp->Prop) (g:Bool) (H:Hp),Q (.value v) g H->fZ P s Q g H
def CF(P:fP)(op:Op)(dst:Option Nat)(next:fG->Hp->Prop)(σ:fG):Next->Hp->Prop
 | .value v,H=>next (σ.set dst v) H
 | .skip,H=>next (σ.set dst undef) H
 | .enter f args,H=>Zb P f args H λv c=>next (σ.set dst v) c
 | .round l f tmps aA g,H=>U4 P l f tmps aA g H λv c=>next (σ.set dst v) c
 | .defer d,H=>XO op=true/\PX d=false/\next ({ σ with gR:=d :: σ.gR }.set dst undef) H
 | _,_=>False
def CF.mono{op:Op}{dst:Option Nat}{K j:fG->Hp->Prop}{σ:fG}(c:∀σ H,K σ H->j σ H):∀{n:Next} {H:Hp},CF P op dst K σ n H->CF P op dst j σ n H:=by
 intro n H h;cases n with
 | value v=>exact c _ _ h
 | skip=>exact c _ _ h
 | enter f args=>exact Zb.mono h λv H g=>c _ _ g
 | round l f tmps aA k=>exact U4.mono h λv H g=>c _ _ g
 | defer d=>exact⟨h.1,h.2.1,c _ _ h.2.2⟩
 | _=>exact h.elim
def fR.w(P:fP)(op:fR)(dst:Option Nat)(next:fG->Hp->Prop)(σ:fG)(H:Hp):Prop:=
 match op with
 | .lS x=>∃v,σ.get x=some v/\next (σ.set dst v) H
 | .pick c a b=>∃t v,σ.get c=some (.bool t)/\σ.get (bif t then a else b)=some v/\next (σ.set dst v) H
 | .fV op x y=>∃k m n v,σ.get x=some (.int k m)/\σ.get y=some (.int k n)/\EC op k m n=some v/\next (σ.set dst v) H
 | .not x=>∃b,σ.get x=some (.bool b)/\next (σ.set dst (.bool !b)) H
 | .ext x i=>∃u v,σ.get x=some (.tuple u)/\u[i]? = some v/\next (σ.set dst v) H
 | .oL off n x=>∃cs,σ.get x=some (.agg cs)/\match n with
  | none=>∃v,cs[off]? = some v/\next (σ.set dst v) H
  | some n=>next (σ.set dst (.agg (cs.extract off (off+n)))) H
 | .fE off x=>∃a,σ.get x=some (.pointer (some a))/\next (σ.set dst (.pointer (some (a.add off)))) H
 | .gC h x i=>∃(a:Addr) (ln cap:Nat) (k:IntKind) (n:Int),σ.get x=some (.slice (some a) ln cap)/\σ.get i=some (.int k n)/\0<=n/\n<ln/\next (σ.set dst (.pointer (some (a.add (n.toNat * h))))) H
 | .nH h ln x i=>∃(a:Addr) (k:IntKind) (n:Int),σ.get x=some (.pointer (some a))/\σ.get i=some (.int k n)/\0<=n/\n<ln/\next (σ.set dst (.pointer (some (a.add (n.toNat * h))))) H
 | .ld n x=>P.still H.gh=false/\∃a o p,σ.get x=some (.pointer (some a))/\a.spot=none/\H a.block=some (o,p)/\match n with
  | none=>∃v,Obj.nC o a.off=some v/\next (σ.set dst v) H
  | some n=>∃cs:List Value,cs.length=n/\(∀j,j<n->Obj.nC o (a.off+j)=cs[j]?)/\next (σ.set dst (.agg cs.toArray)) H
 | .len x=>∃b n c,σ.get x=some (.slice b n c)/\next (σ.set dst (.int .i64 (n:Nat))) H
 | .eC d B z=>P.still H.gh=false/\next (((σ.drop B).set (some d) (.int .i64 0)).put d z) H
 | .eE d B x=>P.still H.gh=false/\∃v,σ.get x=some v/\next (((σ.drop B).set (some d) (.int .i64 0)).put d v.cells.toList) H
 | .fH off t=>∃n:Nat,σ.env t=some (.int .i64 (n:Int))/\next (σ.set dst (.int .i64 ((n+off:Nat):Int))) H
 | .hO h ln t i=>∃(n:Nat) (k:IntKind) (j:Int),σ.env t=some (.int .i64 (n:Int))/\σ.get i=some (.int k j)/\0<=j/\j<ln/\next (σ.set dst (.int .i64 ((n+j.toNat * h:Nat):Int))) H
 | .gO d n t=>P.still H.gh=false/\∃(off:Nat) (cs:List Value),σ.env t=some (.int .i64 (off:Int))/\σ.box d=some cs/\match n with
  | none=>∃v,cs[off]? = some v/\next (σ.set dst v) H
  | some n=>off+n<=cs.length/\next (σ.set dst (.agg ((cs.drop off).take n).toArray)) H
 | .tS d n t x=>P.still H.gh=false/\∃(off:Nat) (cs:List Value) (v:Value),σ.env t=some (.int .i64 (off:Int))/\σ.box d=some cs/\σ.get x=some v/\v.cells.size=n/\off+n<=cs.length/\(v.cells.toList.all Value.gM)=true /\
   next (σ.put d (cs.take off++v.cells.toList++cs.drop (off+n))) H
 | .call f args=>∃u,σ.gets args=some u/\Zb P f u.toArray H λv q=>next (σ.set dst v) q
 | .build z A=>∃cs,buildV σ A z=some cs/\next (σ.set dst (.agg cs.toArray)) H
 | .fJ e ln z A=>P.still H.gh=false/\∃cs,buildV σ A z=some cs/\∀r,H r=none->next (σ.set dst (.slice (some ⟨r,0,none⟩) ln ln)) (H.ins r (.cells cs.toArray e))
 | .raw op l=>(op.operands.all λx=>(σ.get x).isSome)=true/\(fZ P (execOp (λx=>(σ.get x).getD undef) (fL op l)) (λn g q=>g=true\/CF P op dst next σ n q) false H \/
   Zm P (execOp (λx=>(σ.get x).getD undef) (fL op l)) (Vo P (fL op l)) false H λv q=>next (σ.set dst v) q)
 | .lV op l=>(op.operands.all λx=>(σ.get x).isSome)=true/\Zm P (execOp (λx=>(σ.get x).getD undef) (fL op l)) (Vo P (fL op l)) true H λv q=>next (σ.set dst v) q
 | .gE op l=>(op.operands.all λx=>(σ.get x).isSome)=true/\∃v,qG P (execOp (λx=>(σ.get x).getD undef) (fL op l)) v/\next (σ.set dst v) H
end
section
variable{t:TypeId}{d n b:Nat}{v:Value}{dst:Option Nat}{α β:Type}{i:TypeInfo}
def nl(L:List (Nat×Nat))(x:Operand):Bool:=
 match x with
 | .tmp t=>(L.lookup t).isNone
 | _=>true
def kX(L:List (Nat×Nat))(m:Nat)(d:Option Nat):Bool:=
 match d with
 | none=>true
 | some d=>(L.lookup d).isNone && d<m
def MH(L:List (Nat×Nat))(m:Nat)(d:Option Nat)(r:Nat):Bool:=
 match d with
 | none=>false
 | some d=>L.lookup d == some r && d<m
def J3(L:List (Nat×Nat))(d:Nat):List Nat:=(L.filter λp=>p.2 == d).map (·.1)
def Ym(P:Program)(t:TypeId):Option (Option Nat):=
 match P.underlying t,P.info? t with
 | some (.struct _),some i=>some (some i.size)
 | some (.array _ _),some i=>some (some i.size)
 | some _,some _=>some none
 | _,_=>none
def OR(P:Program)(t:TypeId)(f:Nat):Option (Nat×TypeId×Nat):=
 match P.underlying t with
 | some (.struct c)=>match c[f]? with
  | some f=>match P.info? f.type with
   | some i=>some (f.offset,f.type,i.size)
   | none=>none
  | none=>none
 | _=>none
def Mr(P:Program)(c:Array Field)(i:Nat):Option (Nat×Nat):=
 match c[i]? with
 | some f=>match P.info? f.type with
  | some i=>some (f.offset,i.size)
  | none=>none
 | none=>none
def UN(place:Nat->Option (Nat×Nat)):List (Nat×Operand)->Option (List (Nat×Nat×Operand))
 | []=>some []
 | (i,x) :: r=>match place i,UN place r with
  | some (off,sz),some c=>some ((off,sz,x) :: c)
  | _,_=>none
def ZlD(P:Program)(c:Array Field):Bool:=c.all λf=>(P.info? f.type).isSome
def Zu0:BinOp->Bool
 | .sub=>true
 | _=>false
def tI(L:List (Nat×Nat)):Bool:=(L.lookup 999999).isSome
def Zu3(P:Program):Op->Bool
 | .binOp .. | .slice .. | .nilCheck _=>true
 | .convert s d _=>match P.underlying s,P.underlying d with
  | some (.int _),some (.int _)=>true
  | _,_=>false
 | .call { callee:=.builtin .max,.. } | .call { callee:=.builtin .min,.. }=>true
 | _=>false
def OD(P:Program)(L:List (Nat×Nat))(op:Op)(c:TypeId):fR:=if Zu3 P op && !(tI L)then .gE op c else .raw op c
def Yt(P:Program)(L:List (Nat×Nat))(m:Nat)(o:Oper):Option fR:=
 match o.op with
 | .move x=>if nl L x && kX L m o.dst then some (.lS x)else none
 | .assign x=>if nl L x && kX L m o.dst then some (.lS x)else none
 | .pick c a b=>if nl L c && nl L a && nl L b && kX L m o.dst then some (.pick c a b)else none
 | .unOp .not _ x=>if nl L x && kX L m o.dst then some (.not x)else none
 | .binOp op t x y _=>
  if nl L x && nl L y && kX L m o.dst then
   match P.underlying t with
   | some (.int _)=>if Zu7 op && !(tI L && Zu0 op)then some (.fV op x y)else some (OD P L o.op o.type)
   | _=>some (OD P L o.op o.type)
  else none
 | .extract x i=>if nl L x && kX L m o.dst then some (.ext x i)else none
 | .field t x f=>
  if nl L x && kX L m o.dst then
   match OR P t f with
   | some (off,ft,_)=>match Ym P ft with
    | some n=>some (.oL off n x)
    | none=>none
   | none=>none
  else none
 | .alloc t=>
  match o.dst with
  | some d=>if L.lookup d == some d then
    match P.info? t with
    | some i=>match i.zero with
     | some z=>if d<m then some (.eC d (J3 L d) z.cells.toList)else none
     | none=>none
    | none=>none
   else if kX L m o.dst then some (.raw o.op o.type)else none
  | none=>none
 | .box _ x=>
  match o.dst with
  | some d=>if L.lookup d == some d then(if nl L x && (d<m)then some (.eE d (J3 L d) x)else none)else if nl L x && kX L m o.dst then some (.raw o.op o.type)else none
  | none=>none
 | .fieldAddr t x f=>
  match OR P t f with
  | some (off,_,sz)=>
   if sz == 0 then none else
   match x with
   | .tmp s=>match L.lookup s with
    | some d=>if MH L m o.dst d && !(o.dst == some d)then some (.fH off s)else none
    | none=>if kX L m o.dst then some (.fE off x)else none
   | _=>if kX L m o.dst then some (.fE off x)else none
  | none=>none
 | .indexAddr t x i=>
  if nl L i then
   match P.underlying t,x with
   | some (.array len e),.tmp s=>match L.lookup s,P.info? e with
    | some d,some g=>if MH L m o.dst d && !(o.dst == some d)then some (.hO g.size len s i)else none
    | none,some g=>if kX L m o.dst && nl L (.tmp s)then(if L.lookup 999998 == some 0 then some (.nH g.size len (.tmp s) i)else some (.raw o.op o.type))else none
    | _,_=>if kX L m o.dst && nl L (.tmp s)then some (.raw o.op o.type)else none
   | some (.slice e),x=>match P.info? e with
    | some g=>if nl L x && kX L m o.dst then some (.gC g.size x i)else none
    | none=>none
   | _,_=>none
  else none
 | .load t x=>
  if tI L then(if nl L x && kX L m o.dst then some (.lV o.op o.type)else none)else
  if kX L m o.dst then
   match Ym P t with
   | some n=>match x with
    | .tmp s=>match L.lookup s with
     | some d=>some (.gO d n s)
     | none=>some (.ld n x)
    | _=>some (.ld n x)
   | none=>none
  else none
 | .store t x v=>
  if nl L v && o.dst.isNone then
   match P.info? t with
   | some i=>match x with
    | .tmp s=>match L.lookup s with
     | some d=>some (.tS d i.size s v)
     | none=>some (.raw o.op o.type)
    | _=>some (.raw o.op o.type)
   | none=>none
  else none
 | .call { callee:=.builtin .len,args:=args,argTypes:=ts }=>
  match args.toList,ts.toList with
  | [x],[t]=>if nl L x && kX L m o.dst then
    match P.underlying t with
    | some (.slice _)=>some (.len x)
    | _=>some (.raw o.op o.type)
   else none
  | _,_=>none
 | .call { callee:=.value (.func f),args:=args,argTypes:=_ }=>
  if(args.all (nl L)) && kX L m o.dst then
   match P.funcs[f]? with
   | some fn=>if fn.body.isSome && !(fn.name == "runtime.NumGoroutine")then some (.call f args.toList)else some (.raw o.op o.type)
   | none=>none
  else none
 | .build t h=>
  if(h.all λp=>nl L p.2) && kX L m o.dst then
   match P.underlying t,P.info? t with
   | some (.struct l),some i=>match i.zero,UN (Mr P l) h.toList with
    | some z,some j=>if ZlD P l then some (.build z.cells.toList j)else none
    | _,_=>none
   | some (.array _ e),some i=>match i.zero,P.info? e with
    | some z,some g=>match UN (λk=>some (k * g.size,g.size)) h.toList with
     | some j=>some (.build z.cells.toList j)
     | none=>none
    | _,_=>none
   | _,_=>none
  else none
 | .buildSlice t len h=>
  if(h.all λp=>nl L p.2) && kX L m o.dst then
   match P.underlying t with
   | some (.slice e)=>match P.info? e with
    | some g=>match g.zero,UN (λk=>some (k * g.size,g.size)) h.toList with
     | some z,some j=>if len * g.size<=2 ^ 24 && !(len * g.size == 0)then some (.fJ e len ((Array.range (len * g.size)).map (z.cells[· % z.cells.size]!)).toList j)else some (.raw o.op o.type)
     | _,_=>none
    | none=>none
   | _=>none
  else none
 | .select _ _=>none
 | _=>if(o.op.operands.all (nl L)) && kX L m o.dst then some (OD P L o.op o.type)else none
def Uo{t:Nat}(h:¬t=d):Nat.beq t d=false:=by
 cases hb:Nat.beq t d with
 | false=>rfl
 | true=>exact absurd (qBs hb) h
def V5(L:List (Nat×Nat))(ρ:Nat->Nat)(t:Nat)(v c:Value):Prop:=
 match L.lookup t with
 | none=>c=v
 | some d=>v=undef\/∃off:Nat,v=.int .i64 off/\c=.pointer (some ⟨ρ d,off,none⟩)
structure iI(P:PQ)(L:List (Nat×Nat))(m:Nat)(σ:fG)(H:Hp)(a:Act)(Ha:Hp):Prop where
 size:a.tmps.size=m
 defers:OE a.defers=σ.gR
 mem:∃(ρ:Nat->Nat) (K:Hp),Ha=H.join K/\H.Comp K/\(∀d cs,σ.box d=some cs->∃t,K (ρ d)=some (.cells cs.toArray t (0,0),true)) /\
  (∀d d' cs kY,σ.box d=some cs->σ.box d'=some kY->ρ d=ρ d'->d=d')/\(∀t v,σ.env t=some v->V5 L ρ t v (a.tmps.getD t undef))/\U6 P K a.defers
def iI.get{P:PQ}{L:List (Nat×Nat)}{m:Nat}{σ:fG}{H:Hp}{a:Act}{Ha:Hp}(r:iI P L m σ H a Ha){x:Operand}(g:nl L x=true)(h:σ.get x=some v):a.eval x=v:=by
 obtain⟨ρ,K,_,_,_,_,j,_⟩:=r.mem;cases x with
 | tmp t=>
  have:=j t v h;unfold V5 at this;simp only[nl,qDl]at g;rw[g]at this;exact this
 | const c=>simp only[fG.get,IF]at h;exact h
 | func f=>simp only[fG.get,IF]at h;exact h
 | _=>simp only[fG.get,IF]at h;exact h
def ZeS(a:Act)(d t:Nat)(v:Value)(c:d<a.tmps.size):(put a (some d) v).tmps.getD t undef=if t=d then v else a.tmps.getD t undef:=by
 simp only[put,qBI,qCm];by_cases h:d=t
 ·subst h;simp[c]
 simp[h,qAo h]
def iI.set{P:PQ}{L:List (Nat×Nat)}{m:Nat}{σ:fG}{H:Hp}{a:Act}{Ha:Hp}(r:iI P L m σ H a Ha)(hd:kX L m dst=true)(v:Value):iI P L m (σ.set dst v) H (put a dst v) Ha:=by
 cases dst with
 | none=>exact r
 | some d=>
  obtain⟨ρ,K,g,j,k,l,p,q⟩:=r.mem;simp only[kX,qAc,qDl,qAK]at hd;refine⟨by simp[put,r.size],r.defers,ρ,K,g,j,k,l,?_,q⟩;intro t u c;rw[ZeS _ _ _ _ (by rw[r.size];exact hd.2)];simp only[fG.set]at c;by_cases h:t=d
  ·subst h;simp at c;unfold V5;rw[hd.1,qAa rfl,c]
  have:Nat.beq t d=false:=Uo h;rw[this]at c;rw[iF h];exact p t u c
def iI.jP{P:PQ}{L:List (Nat×Nat)}{m:Nat}{σ:fG}{H:Hp}{a:Act}{Ha:Hp}(r:iI P L m σ H a Ha)(dst:Option Nat):iI P L m (σ.jP dst) H (put a dst undef) Ha:=by
 cases dst with
 | none=>exact r
 | some d=>
  obtain⟨ρ,K,j,k,l,p,q,w⟩:=r.mem;refine⟨by simp[put,r.size],r.defers,ρ,K,j,k,l,p,?_,w⟩;intro t u c;simp only[fG.jP]at c;by_cases h:t=d
  ·subst h;simp at c;subst c;unfold V5;split
   ·simp only[put,qBI,qCm];by_cases g:t<a.tmps.size<;>simp[g]
   exact .inl rfl
  have hb:Nat.beq t d=false:=Uo h;rw[hb]at c;have z:=q t u c;have:(put a (some d) undef).tmps.getD t undef=a.tmps.getD t undef:=by simp only[put,qBI,qCm,iF (qAo h)]
  rw[this];exact z
def iI.Q1{P:PQ}{L:List (Nat×Nat)}{m:Nat}{σ:fG}{H:Hp}{a:Act}{Ha:Hp}(r:iI P L m σ H a Ha)(hd:MH L m dst d=true){s:Nat}(E:L.lookup s=some d)(D:σ.env s=some (.int .i64 (n:Nat)))(j:Nat) :
  ∃b,a.tmps.getD s undef=.pointer (some ⟨b,n,none⟩)/\iI P L m (σ.set dst (.int .i64 (j:Nat))) H (put a dst (.pointer (some ⟨b,j,none⟩))) Ha:=by
 obtain⟨ρ,K,p,q,z,A,k,B⟩:=r.mem;have g:=k s _ D;unfold V5 at g;rw[E]at g;obtain⟨off,l,C⟩:=g.resolve_left (by simp[undef]);simp only[Value.int.injEq,qEa,Int.ofNat_inj]at l;subst l;refine⟨ρ d,C,?_⟩;cases dst with
 | none=>simp[MH]at hd
 | some t=>
  simp only[MH,qAc,beq_iff_eq,qAK]at hd;refine⟨by simp[put,r.size],r.defers,ρ,K,p,q,z,A,?_,B⟩;intro u w c;rw[ZeS _ _ _ _ (by rw[r.size];exact hd.2)];simp only[fG.set]at c;by_cases h:u=t
  ·subst h;simp at c;unfold V5;rw[hd.1,qAa rfl];exact .inr ⟨j,c.symm,rfl⟩
  have:Nat.beq u t=false:=Uo h;rw[this]at c;rw[iF h];exact k u w c
def Zo3(x:Sem α):x.bind Sem.pure=x:=by exact T3
def Zo4{γ:Type}(x:Sem α)(f:α->Sem β)(k:β->Sem γ):(x.bind f).bind k=x.bind λa=>(f a).bind k:=by exact T3
instance:LawfulMonad Sem:=LawfulMonad.mk' Sem (id_map:=λx=>Zo3 x) (pure_bind:=λ_ _=>rfl) (bind_assoc:=λx f k=>Zo4 x f k)
def Zf{P:PQ}{s:Sem α}{f:α->Sem β}{Q:β->Bool->Hp->Prop}:∀{g:Bool} {H:Hp},fZ P (s >>= f) Q g H↔fZ P s (λa g H=>fZ P (f a) Q g H) g H:=by
 show ∀{g:Bool} {H:Hp},fZ P (s.bind f) Q g H↔_;induction s with
 | pure a=>exact qDe
 | load m a k ih=>simp only[fZ,Sem.bind,ih];exact trivial
 | store m a v k ih=>simp only[fZ,Sem.bind,ih,qCa]
 | new o k ih=>simp only[fZ,Sem.bind,ih,qCa]
 | shape r k ih=>simp only[fZ,Sem.bind,ih,qCa]
 | freeze a n k ih=>simp only[fZ,Sem.bind,ih,qCa]
 | frozen a k ih=>simp only[fZ,Sem.bind,ih,qCa]
 | getObj r k ih=>simp only[fZ,Sem.bind,ih,qCa]
 | setObj r o k ih=>simp only[fZ,Sem.bind,ih,qCa]
 | choose q k ih=>simp only[fZ,Sem.bind,ih,qCa]
 | sys c k ih=>exact qDe
 | program k ih=>simp only[fZ,Sem.bind,ih,qCa]
 | mark m k ih=>simp only[fZ,Sem.bind,ih,qCa]
 | halt h=>exact qDe
def Zj{P:PQ}(a:α)(Q:α->Bool->Hp->Prop)(g:Bool)(H:Hp):fZ P (pure a:Sem α) Q g H↔Q a g H:=qDe
def Vw{P:PQ}(Q:Program->Bool->Hp->Prop)(g:Bool)(H:Hp):fZ P program Q g H↔Q P g H:=qDe
def ZA{P:PQ}{d:TypeDesc}(h:P.underlying t=some d)(Q:TypeDesc->Bool->Hp->Prop)(g:Bool)(H:Hp):fZ P (underlying t) Q g H↔Q d g H:=by simp only[underlying,Zf,Vw,h,Zj]
def UL{P:PQ}(h:P.info? t=some i)(Q:TypeInfo->Bool->Hp->Prop)(g:Bool)(H:Hp):fZ P (typeInfo t) Q g H↔Q i g H:=by simp only[typeInfo,Zf,Vw,h,Zj]
def Yc{P:PQ}(h:P.info? t=some i)(Q:Nat->Bool->Hp->Prop)(g:Bool)(H:Hp):fZ P (sizeOf t) Q g H↔Q i.size g H:=by simp only[sizeOf,Zf,UL h,Zj]
def Us{P:PQ}{z:Value}(h:P.info? t=some i)(c:i.zero=some z)(Q:Value->Bool->Hp->Prop)(g:Bool)(H:Hp):fZ P (zeroValue t) Q g H↔Q z g H:=by simp only[zeroValue,Zf,UL h,c,Zj]
def PN{P:PQ}(h:Ym P t=some (some n)):∃i,P.info? t=some i/\i.size=n/\∀(Q:Bool->Bool->Hp->Prop) g H,fZ P (isAgg t) Q g H↔Q true g H:=by
 unfold Ym at h;split at h<;>simp only[IF,reduceCtorEq]at h
 ·rename_i k i c j;exact⟨i,j,h,λQ g H=>by simp only[isAgg,Zf,ZA c,Zj]⟩
 rename_i k e i c j;exact⟨i,j,h,λQ g H=>by simp only[isAgg,Zf,ZA c,Zj]⟩
def OW{P:PQ}(h:Ym P t=some none):∀(Q:Bool->Bool->Hp->Prop) g H,fZ P (isAgg t) Q g H↔Q false g H:=by
 unfold Ym at h;split at h<;>simp only[IF,reduceCtorEq]at h;rename_i d i k j c p;intro Q g H;simp only[isAgg,Zf,ZA c];cases d with
 | struct l=>exact(k _ rfl).elim
 | array n e=>exact(j _ _ rfl).elim
 | _=>simp only[Zj]
def PY{P:PQ}{o:Obj}{p:Bool}{a:Addr}{H:Hp}(q:P.still H.gh=false)(A:H a.block=some (o,p))(C:a.spot=none)(Q:Array Value->Bool->Hp->Prop)(g:Bool) :
  ∀(l:List Value) (i:Nat) (k:Array Value),(∀j,j<l.length->Obj.nC o (a.off+(i+j))=l[j]?)->Q (k++l.toArray) g H->fZ P (loadCellsFrom a i l.length k) Q g H
 | [],i,k,_,h=>by simpa[loadCellsFrom,Zj]using h
 | c :: l,i,k,z,h=>by
  have B:=z 0 (by simp);simp only[qAF,loadCellsFrom,Zf];have hb:(a.add i).block=a.block:=by unfold Addr.add;split<;>rfl
  have u:(a.add i).off=a.off+i:=by unfold Addr.add;split<;>simp_all
  have w:(a.add i).spot=none:=by unfold Addr.add;split<;>simp_all
  refine⟨o,p,c,⟨q,by rw[hb];exact A⟩,rfl,w,by rw[u];simpa using B,?_⟩;refine PY q A C Q g l (i+1) (k.push c) (λj D=>?_) (by simpa using h);have:=z (j+1) (by simp;omega);simp only[qBk]at this;rw[<-this];congr 1;omega
section lJ
variable{P:fP}{nr:Bool}{L:List (Nat×Nat)}{m:Nat}{o:Oper}{next:fG->Hp->Prop}{σ:fG}{H Ha:Hp}{a:Act}
abbrev Nx(P:PQ)(L:List (Nat×Nat))(m:Nat)(next:fG->Hp->Prop)(h:Act)(c:Hp):Prop:=∃σ' g,iI P L m σ' g h c/\next σ' g
def Ay{N:Act->Hp->Prop}(h:execOp a.eval o=pure (.value v))(c:N (put a o.dst v) Ha):nI P nr o a N Ha:=by refine .inl ?_;rw[h];exact .inr c
def VK{N:Act->Hp->Prop}{s:Sem Value}(h:execOp a.eval o=(do pure (.value (<-s))))(j:fZ P s (λv g c=>g=true\/N (put a o.dst v) c) false Ha):nI P nr o a N Ha:=by refine .inl ?_;rw[h,Zf];exact Vx (λv g c k=>k) j
def iI.heap{P:PQ}{L:List (Nat×Nat)}{m:Nat}{σ:fG}{H:Hp}{a:Act}{Ha:Hp}(r:iI P L m σ H a Ha){x:Obj×Bool}(h:H b=some x):Ha b=some x:=by obtain⟨ρ,K,c,_⟩:=r.mem;rw[c];exact Hp.eN h
def iI.fD{P:PQ}{L:List (Nat×Nat)}{m:Nat}{σ:fG}{H:Hp}{a:Act}{Ha:Hp}(r:iI P L m σ H a Ha)(h:P.still H.gh=false):P.still Ha.gh=false:=by obtain⟨ρ,K,c,g,_⟩:=r.mem;rw[c];exact Uj g h
theorem PE{a:Addr}(c:a.spot=none)(n:Nat):a.add n=⟨a.block,a.off+n,none⟩:=by
 unfold Addr.add;split
 ·obtain⟨b,o,s⟩:=a;simp_all
 rfl
def iI.RF{P:PQ}{L:List (Nat×Nat)}{m:Nat}{σ:fG}{H:Hp}{a:Act}{Ha:Hp}(r:iI P L m σ H a Ha)(V:L.lookup d=some d)(hd:d<m)(hb:Ha b=none)(cs:List Value)(t:TypeId) :
  iI P L m (((σ.drop (J3 L d)).set (some d) (.int .i64 0)).put d cs) H (put a (some d) (.pointer (some ⟨b,0,none⟩))) (Ha.ins b (.cells cs.toArray t)):=by
 obtain⟨ρ,K,N,R,O,S,T,U⟩:=r.mem;rw[N]at hb;obtain⟨D,E⟩:=Hp.hQ.1 hb;have M:∀t,L.lookup t=some d->(J3 L d).elem t=true:=by
  intro t X;have:(t,d)∈L:=by have:=List.lookup_eq_some_iff.1 X;obtain⟨Y,Z,rfl,_⟩:=this;simp
  simp only[J3,List.elem_eq_mem,qAK,qAy,qAu,beq_iff_eq];exact⟨(t,d),⟨this,rfl⟩,rfl⟩
 have q:∀j g,j≠d->σ.box j=some g->ρ j≠b:=by intro j g _ p W;obtain⟨Q,c⟩:=O j g p;rw[W,E]at c;simp at c
 refine⟨by simp[put,r.size],r.defers,λx=>if x=d then b else ρ x,K.ins b (.cells cs.toArray t),?_,?_,?_,?_,?_,?_⟩
 ·rw[N];refine Hp.ext' (λx=>?_) rfl;simp only[Hp.fW,Hp.iG];by_cases z:x=b
  ·subst z;simp[D]
  simp[z]
 ·exact((R.symm).kW _ D).symm
 ·intro j g p;simp only[fG.put]at p;by_cases z:j=d
  ·subst z;simp at p;subst p;exact⟨t,by simp[Hp.iG]⟩
  rw[Uo z]at p;have c:σ.box j=some g:=by simpa[fG.set,fG.drop]using p
  obtain⟨Q,l⟩:=O j g c;exact⟨Q,by simp only[iF z];rw[Hp.aR _ _ (q j g z c)];exact l⟩
 ·intro F G c1 c2 C c l;simp only[fG.put]at C c;by_cases A:F=d<;>by_cases B:G=d
  ·rw[A,B]
  ·rw[Uo B]at c;have J:σ.box G=some c2:=by simpa[fG.set,fG.drop]using c
   simp only[qAa A,iF B]at l;exact absurd l.symm (q G c2 B J)
  ·rw[Uo A]at C;have I:σ.box F=some c1:=by simpa[fG.set,fG.drop]using C
   simp only[iF A,qAa B]at l;exact absurd l (q F c1 A I)
  rw[Uo A]at C;rw[Uo B]at c;simp only[iF A,iF B]at l;exact S F G c1 c2 (by simpa[fG.set,fG.drop]using C) (by simpa[fG.set,fG.drop]using c) l
 ·intro u w k;rw[ZeS _ _ _ _ (by rw[r.size];exact hd)];simp only[fG.put,fG.set,fG.drop]at k;by_cases h:u=d
  ·subst h;simp at k;unfold V5;rw[V];exact .inr ⟨0,by simpa using k.symm,by simp⟩
  rw[Uo h]at k;simp only[cond_false]at k;rw[iF h];cases he:(J3 L d).elem u with
  | true=>rw[he]at k;simp at k
  | false=>
   rw[he]at k;have c:=T u w k;unfold V5 at c ⊢;cases hl:L.lookup u with
   | none=>rw[hl]at c;exact c
   | some j=>
    rw[hl]at c;have:j≠d:=by rintro rfl;rw[M u hl]at he;simp at he
    simpa[this]using c
 exact U.ins λo' h=>by rw[E]at h;simp at h
end lJ
end
variable{x y:Operand}{t e ft:TypeId}{i:TypeInfo}{f off sz s d len:Nat}{n:Option Nat}
section lJ
variable{P:fP}{nr:Bool}{L:List (Nat×Nat)}{m:Nat}{o:Oper}{next:fG->Hp->Prop}{σ:fG}{H Ha:Hp}{a:Act}{op:fR}
def Zhh(c:o.op=.move x\/o.op=.assign x)(l:nl L x=true)(k:kX L m o.dst=true)(h:(fR.lS x).w P o.dst next σ H)(r:iI P L m σ H a Ha):nI P nr o a (Nx P L m next) Ha:=by obtain⟨v,g,j⟩:=h;refine Ay (v:=v) ?_ ⟨_,_,r.set k v,j⟩;rcases c with c | c<;>simp[execOp,c,r.get l g]
def Zpb{c:Operand}(j:o.op=.pick c x y)(p:nl L c=true)(u:nl L x=true)(z:nl L y=true)(q:kX L m o.dst=true)(h:(fR.pick c x y).w P o.dst next σ H)(r:iI P L m σ H a Ha):nI P nr o a (Nx P L m next) Ha:=by
 obtain⟨t,v,k,g,l⟩:=h;refine Ay (v:=v) ?_ ⟨_,_,r.set q v,l⟩;have e:=r.get p k;cases t with
 | true=>simp[execOp,j,e,asBool,r.get u g]
 | false=>simp[execOp,j,e,asBool,r.get z g]
def Zpc(k:o.op=.unOp .not t x)(l:nl L x=true)(j:kX L m o.dst=true)(h:(fR.not x).w P o.dst next σ H)(r:iI P L m σ H a Ha):nI P nr o a (Nx P L m next) Ha:=by obtain⟨b,c,g⟩:=h;refine Ay (v:=.bool !b) ?_ ⟨_,_,r.set j _,g⟩;simp[execOp,k,r.get l c,Op.unary]
def Zpr{b:BinOp}{E:TypeId}(B:o.op=.binOp b t x y E)(C:nl L x=true)(D:nl L y=true)(A:kX L m o.dst=true)(h:(fR.fV b x y).w P o.dst next σ H)(r:iI P L m σ H a Ha):nI P nr o a (Nx P L m next) Ha:=by obtain⟨k,p,q,v,l,u,c,z⟩:=h;refine Ay (v:=v) ?_ ⟨_,_,r.set A v,z⟩;have g:=r.get C l;have j:=r.get D u;cases b<;>simp[EC]at c<;>subst c<;>simp[execOp,B,g,j,eqGuard,binOp,Op.intArith,Op.intCmp]
def Zpm{i:Nat}(l:o.op=.extract x i)(p:nl L x=true)(k:kX L m o.dst=true)(h:(fR.ext x i).w P o.dst next σ H)(r:iI P L m σ H a Ha):nI P nr o a (Nx P L m next) Ha:=by obtain⟨q,v,c,g,j⟩:=h;refine Ay (v:=v) ?_ ⟨_,_,r.set k v,j⟩;simp[execOp,l,r.get p c,Instr.extract,g]
def Zpi{k:Array TypeId}{aA:Array Operand}(z:o.op=.call { callee:=.builtin .len,args:=aA,argTypes:=k })(g:aA.toList=[x])(j:k.toList=[t])(A:P.underlying t=some (.slice e))(B:nl L x=true)(u:kX L m o.dst=true)
  (h:(fR.len x).w P o.dst next σ H) (r:iI P L m σ H a Ha):nI P nr o a (Nx P L m next) Ha:=by
 obtain⟨b,n,c,p,q⟩:=h;have l:=r.get B p;obtain⟨aA⟩:=aA;obtain⟨k⟩:=k;simp only at g j;subst g j;refine VK (s:=Builtin.len_ #[t] o.type #[.slice b n c]) (by simp[execOp,z,resolve,invoke,builtin,l]) ?_;show fZ P (underlying t >>= _) _ _ _;rw[Zf,ZA A];exact .inr ⟨_,_,r.set u _,q⟩
def Zme(c:OR P t f=some (off,ft,sz)):∃g oL i,P.underlying t=some (.struct g)/\g[f]? = some oL/\P.info? oL.type=some i/\oL.offset=off/\oL.type=ft/\i.size=sz:=by
 unfold OR at c;cases hu:P.underlying t with
 | none=>rw[hu]at c;simp at c
 | some d=>
  rw[hu]at c;cases d with
  | struct g=>
   simp only at c;cases hfld:g[f]? with
   | none=>rw[hfld]at c;simp at c
   | some oL=>
    rw[hfld]at c;simp only at c;cases hi:P.info? oL.type with
    | none=>rw[hi]at c;simp at c
    | some i=>
     rw[hi]at c;simp only[IF,qAX]at c;exact⟨g,oL,i,rfl,hfld,hi,c.1,c.2.1,c.2.2⟩
  | _=>simp at c
def Zpl(B:o.op=.field t x f)(A:OR P t f=some (off,ft,sz))(l:Ym P ft=some n)(F:nl L x=true)(k:kX L m o.dst=true)(h:(fR.oL off n x).w P o.dst next σ H)(r:iI P L m σ H a Ha):nI P nr o a (Nx P L m next) Ha:=by
 obtain⟨p,q,j⟩:=h;refine VK (s:=Instr.field t (.agg p) f) (by simp[execOp,B,r.get F q]) ?_;obtain⟨G,oL,i,E,c,I,rfl,rfl,rfl⟩:=Zme A;unfold Instr.field;rw[Zf,ZA E];simp only[c,asAgg,Zf,Zj,part];cases n with
 | none=>
  obtain⟨v,u,z⟩:=j;rw[OW l];simp only[oR,qAq,u,Zj];exact .inr ⟨_,_,r.set k _,z⟩
 | some n=>
  obtain⟨J,g,D,C⟩:=PN l;rw[C];simp only[qBb,Zf,Yc g,Zj,D];exact .inr ⟨_,_,r.set k _,j⟩
def Zmf{b:Addr}(h:OR P t f=some (off,ft,sz))(l:sz≠0)(Q:Value->Bool->Hp->Prop)(g:Bool)(H:Hp):fZ P (Instr.fieldAt t (.pointer (some b)) f) Q g H↔Q (.pointer (some (b.add off))) g H:=by obtain⟨p,oL,i,k,c,j,rfl,rfl,rfl⟩:=Zme h;unfold Instr.fieldAt;rw[Zf,ZA k];simp only[c,Instr.sureAddr,Zf,Zj,fieldPlace,Yc j,l,qAq]
def Zhj(l:o.op=.fieldAddr t x f)(k:OR P t f=some (off,ft,sz))(q:sz≠0)(p:nl L x=true)(j:kX L m o.dst=true)(h:(fR.fE off x).w P o.dst next σ H)(r:iI P L m σ H a Ha):nI P nr o a (Nx P L m next) Ha:=by obtain⟨b,c,g⟩:=h;refine VK (s:=Instr.fieldAt t (.pointer (some b)) f) (by simp[execOp,l,r.get p c]) ?_;rw[Zmf k q];exact .inr ⟨_,_,r.set j _,g⟩
def Zph(q:o.op=.fieldAddr t (.tmp s) f)(p:OR P t f=some (off,ft,sz))(z:sz≠0)(u:L.lookup s=some d)(l:MH L m o.dst d=true)(h:(fR.fH off s).w P o.dst next σ H)(r:iI P L m σ H a Ha):nI P nr o a (Nx P L m next) Ha:=by obtain⟨n,c,g⟩:=h;obtain⟨b,j,k⟩:=r.Q1 l u c (n+off);refine VK (s:=Instr.fieldAt t (.pointer (some ⟨b,n,none⟩)) f) (by simp only[execOp,q,Act.eval,j]) ?_;rw[Zmf p z,PE rfl];exact .inr ⟨_,_,k,g⟩
def Zpk(z:o.op=.indexAddr t x y)(A:P.underlying t=some (.slice e))(u:P.info? e=some i)(B:nl L x=true)(C:nl L y=true)(q:kX L m o.dst=true)(h:(fR.gC i.size x y).w P o.dst next σ H)(r:iI P L m σ H a Ha):nI P nr o a (Nx P L m next) Ha:=by obtain⟨b,ln,cap,k,n,c,g,j,l,p⟩:=h;refine VK (s:=Instr.indexAt t (.slice (some b) ln cap) (.int k n)) (by simp[execOp,z,r.get B c,r.get C g]) ?_;unfold Instr.indexAt;simp only[asIntOf,Zf,Zj,ZA A];simp only[j,l,and_self,qBb,Zf,Yc u,Zj];exact .inr ⟨_,_,r.set q _,p⟩
def Zpg(B:o.op=.indexAddr t (.tmp s) y)(D:P.underlying t=some (.array len e))(A:P.info? e=some i)(C:L.lookup s=some d)(E:nl L y=true)(z:MH L m o.dst d=true)(h:(fR.hO i.size len s y).w P o.dst next σ H)(r:iI P L m σ H a Ha):nI P nr o a (Nx P L m next) Ha:=by obtain⟨n,k,j,c,g,l,p,q⟩:=h;obtain⟨b,u,h7⟩:=r.Q1 z C c (n+j.toNat * i.size);refine VK (s:=Instr.indexAt t (.pointer (some ⟨b,n,none⟩)) (.int k j)) (by have:=r.get E g;simp only[execOp,B,this];simp only[Act.eval,u]) ?_;unfold Instr.indexAt;simp only[asIntOf,Zf,Zj,ZA D,Instr.sureAddr];simp only[l,p,and_self,qBb,Zf,Yc A,Zj,PE];exact .inr ⟨_,_,h7,q⟩
def Zps(z:o.op=.indexAddr t x y)(A:P.underlying t=some (.array len e))(u:P.info? e=some i)(B:nl L x=true)(C:nl L y=true)(q:kX L m o.dst=true)(h:(fR.nH i.size len x y).w P o.dst next σ H)(r:iI P L m σ H a Ha):nI P nr o a (Nx P L m next) Ha:=by obtain⟨b,k,n,c,g,j,l,p⟩:=h;refine VK (s:=Instr.indexAt t (.pointer (some b)) (.int k n)) (by simp[execOp,z,r.get B c,r.get C g]) ?_;unfold Instr.indexAt;simp only[asIntOf,Zf,Zj,ZA A,Instr.sureAddr];simp only[j,l,and_self,qBb,Zf,Yc u,Zj];exact .inr ⟨_,_,r.set q _,p⟩
def Zhi(F:o.op=.load t x)(B:Ym P t=some n)(J:nl L x=true)(A:kX L m o.dst=true)(h:(fR.ld n x).w P o.dst next σ H)(r:iI P L m σ H a Ha):nI P nr o a (Nx P L m next) Ha:=by
 obtain⟨c,b,K,p,D,q,u,z⟩:=h;refine VK (s:=Instr.loadAt t (.pointer (some b))) (by simp[execOp,F,r.get J D]) ?_;simp only[Instr.loadAt,Instr.sureAddr,Zf,Zj,loadVar];cases n with
 | none=>
  obtain⟨v,g,k⟩:=z;rw[OW B];simp only[oR,qAq];exact⟨K,p,v,⟨r.fD c,r.heap u⟩,rfl,q,g,.inr ⟨_,_,r.set A _,k⟩⟩
 | some n=>
  obtain⟨C,rfl,g,k⟩:=z;obtain⟨M,l,I,G⟩:=PN B;rw[G];simp only[qBb,Zf,Yc l,Zj,I,loadCells];refine PY (r.fD c) (r.heap u) q _ _ C 0 #[] (λj E=>by rw[qAJ];exact g j E) ?_;exact .inr ⟨_,_,by simpa using r.set A _,k⟩
end lJ
