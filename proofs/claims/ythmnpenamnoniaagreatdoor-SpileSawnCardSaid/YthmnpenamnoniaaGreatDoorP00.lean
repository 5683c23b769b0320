import Derived.Control
set_option linter.all false
theorem Go.LL.slt {n j:Nat}(h:j<n):n-(j+1)<n-j:=Nat.sub_lt_sub_left h (Nat.lt_succ_self j)
section
namespace Go.LL
structure Hp where
 mem:Nat->Option (Obj×Bool)
 gh:List Nat
instance:CoeFun Hp (fun _=>Nat->Option (Obj×Bool)):=⟨Hp.mem⟩
theorem Hp.ext' {H F:Hp}(h:∀ b,H b=F b)(g:H.gh=F.gh):H=F:=by
 cases H;cases F
 obtain rfl:=g
 congr
 exact funext h
def Hp.nil:Hp:=⟨fun _=>none,[]⟩
def Hp.ins (H:Hp)(r:Nat)(o:Obj):Hp:=⟨fun b=>if b=r then some (o,true) else H b,H.gh⟩
theorem Hp.ins_at (H:Hp)(r:Nat)(o:Obj)(b:Nat):H.ins r o b=if b=r then some (o,true) else H b:=rfl
def Hp.le (H:Hp)(w:World):Prop:=∀ b o p,H b=some (o,p)->w.heap[b]? = some o
theorem Hp.ins_same (H:Hp)(r:Nat)(o:Obj):H.ins r o r=some (o,true):=by simp[Hp.ins_at]
theorem Hp.ins_other (H:Hp){r b:Nat}(o:Obj)(h:b≠r):H.ins r o b=H b:=by simp[Hp.ins_at,h]
def Obj.frozenAt (o:Obj)(i:Nat):Bool:=
 match o with
 | .cells _ _ (lo,hi)=>lo<=i && i<hi
 | _=>false
def Obj.shapeOf (o:Obj):Option (TypeId×Nat):=
 match o with
 | .cells c e _=>some (e,c.size)
 | _=>none
def Obj.isCells:Obj->Bool
 | .cells ..=>true
 | _=>false
def Obj.put (o:Obj)(i:Nat)(v:Value):Obj:=
 match o with
 | .cells c e f=>.cells (c.setIfInBounds i v) e f
 | o=>o
def Obj.freezeAt (o:Obj)(i n:Nat):Obj:=
 match o with
 | .cells c e (lo,hi)=>.cells c e (if lo == hi then (i,i+n) else (min lo i,max hi (i+n)))
 | o=>o
def Obj.at? (o:Obj)(i:Nat):Option Value:=
 match o with
 | .cells c _ _=>c[i]?
 | _=>none
def Value.isOne:Value->Bool
 | .agg _ | .tuple _=>false
 | _=>true
structure PQ extends Program where
 still:List Nat->Bool
 stillNil:still []=false->∀ g,still g=false
instance:Coe PQ Program:=⟨PQ.toProgram⟩
def wpL (P:PQ){α:Type}:Sem α->(α->Bool->Hp->Prop)->Bool->Hp->Prop
 | .pure a,Q,g,H=>Q a g H
 | .load m a k,Q,g,H=>∃ o p v,(P.still H.gh=false∧H a.block=some (o,p))∧m=.plain∧a.spot=none∧Obj.at? o a.off=some v∧wpL P (k v) Q g H
 | .store m a v k,Q,g,H=>∃ o,(P.still H.gh=false∧H a.block=some (o,true))∧m=.plain∧a.spot=none∧Value.isOne v=true∧(Obj.at? o a.off).isSome=true∧Obj.frozenAt o a.off=false ∧
   wpL P k Q g (H.ins a.block (Obj.put o a.off v))
 | .new o k,Q,g,H=>P.still H.gh=false∧∀ r,H r=none->wpL P (k r) Q g (H.ins r o)
 | .shape r k,Q,g,H=>∃ o p,(P.still H.gh=false∧H r=some (o,p))∧wpL P (k (Obj.shapeOf o)) Q g H
 | .freeze a n k,Q,g,H=>(n=0∧wpL P k Q g H)∨∃ o,(P.still H.gh=false∧H a.block=some (o,true))∧n≠0∧wpL P k Q g (H.ins a.block (Obj.freezeAt o a.off n))
 | .frozen a k,Q,g,H=>∃ o p,(P.still H.gh=false∧H a.block=some (o,p))∧wpL P (k (Obj.frozenAt o a.off)) Q g H
 | .getObj r k,Q,g,H=>∃ o p,(P.still H.gh=false∧H r=some (o,p))∧Obj.isCells o=false∧o.isChan=false∧wpL P (k o) Q g H
 | .setObj r o k,Q,g,H=>∃ o',(P.still H.gh=false∧H r=some (o',true))∧Obj.isCells o'=false∧o'.isChan=false∧o.isChan=false∧wpL P k Q g (H.ins r o)
 | .choose q k,Q,g,H=>if q.forced then wpL P (k 0) Q g H else P.still H.gh=false∧∀ t,wpL P (k (q.cut t)) Q g H
 | .sys _ _,_,_,_=>False
 | .program k,Q,g,H=>wpL P (k P.toProgram) Q g H
 | .mark m k,Q,g,H=>((∃ f,m=.extern f)∨(m=.noRoom∧P.still H.gh=false))∧wpL P k Q g H
 | .halt _,_,_,_=>False
theorem Za2 {P:PQ}{α:Type}{s:Sem α}{Q Q':α->Bool->Hp->Prop}(hq:∀ a g H,Q a g H->Q' a g H):∀ {g:Bool} {H:Hp},wpL P s Q g H->wpL P s Q' g H:=by
 induction s with
 | pure a=>exact fun h=>hq _ _ _ h
 | load m a k ih=>exact fun ⟨o,p,v,h1,h2,h3,h4,h5⟩=>⟨o,p,v,h1,h2,h3,h4,ih v h5⟩
 | store m a v k ih=>exact fun ⟨o,h1,h2,h3,h4,h5,h6,h7⟩=>⟨o,h1,h2,h3,h4,h5,h6,ih h7⟩
 | new o k ih=>exact fun h=>⟨h.1,fun r hr=>ih r (h.2 r hr)⟩
 | shape r k ih=>exact fun ⟨o,p,h1,h2⟩=>⟨o,p,h1,ih _ h2⟩
 | freeze a n k ih=>exact fun h=>h.imp (fun ⟨h1,h2⟩=>⟨h1,ih h2⟩) (fun ⟨o,h1,h2,h3⟩=>⟨o,h1,h2,ih h3⟩)
 | frozen a k ih=>exact fun ⟨o,p,h1,h2⟩=>⟨o,p,h1,ih _ h2⟩
 | getObj r k ih=>exact fun ⟨o,p,h1,h2,h3,h4⟩=>⟨o,p,h1,h2,h3,ih _ h4⟩
 | setObj r o k ih=>exact fun ⟨o',h1,h2,h3,h4,h5⟩=>⟨o',h1,h2,h3,h4,ih h5⟩
 | choose q k ih=>
  intro g H h
  by_cases hq':q.forced=true
  ·simp only[wpL,hq',if_true]at h ⊢
   exact ih _ h
  ·simp only[wpL,hq']at h ⊢
   exact⟨h.1,fun t=>ih _ (h.2 t)⟩
 | sys c k ih=>exact fun h=>h
 | program k ih=>exact fun h=>ih _ h
 | mark m k ih=>exact fun ⟨h1,h2⟩=>⟨h1,ih h2⟩
 | halt h=>exact fun h=>h
structure Fr (H:Hp)(w:World)(H':Hp)(w':World):Prop where
 os:w'.os=w.os
 tape:w'.tape=w.tape
 out:w'.output=w.output
 drawn:w.drawn<=w'.drawn
 size:w.heap.size<=w'.heap.size
 keep:∀ b,b<w.heap.size->(∀ o,H b≠some (o,true))->w'.heap[b]? = w.heap[b]?
 le:H'.le w'
 new:∀ b,H b=none->H' b≠none->w.heap.size<=b
 ro:∀ b o,H b=some (o,false)->H' b=some (o,false)
 rw:∀ b o,H b=some (o,true)->∃ o',H' b=some (o',true)
 gh:H'.gh=H.gh
theorem Hp.le.lt {H:Hp}{w:World}(h:H.le w){b:Nat}{x:Obj×Bool}(hb:H b=some x):b<w.heap.size:=by
 have:=h b x.1 x.2 hb
 exact(Array.getElem?_eq_some_iff.1 this).1
theorem Fr.refl {H:Hp}{w:World}(h:H.le w):Fr H w H w where
 os:=rfl
 tape:=rfl
 out:=rfl
 drawn:=Nat.le_refl _
 size:=Nat.le_refl _
 keep:=fun _ _ _=>rfl
 le:=h
 new:=fun _ h1 h2=>absurd h1 h2
 ro:=fun _ _ h=>h
 rw:=fun _ o h=>⟨o,h⟩
 gh:=rfl
theorem Fr.trans {H₁ H₂ H₃:Hp}{w₁ w₂ w₃:World}(a:Fr H₁ w₁ H₂ w₂)(b:Fr H₂ w₂ H₃ w₃):Fr H₁ w₁ H₃ w₃ where
 os:=b.os.trans a.os
 tape:=b.tape.trans a.tape
 out:=b.out.trans a.out
 drawn:=Nat.le_trans a.drawn b.drawn
 size:=Nat.le_trans a.size b.size
 keep:=fun x hx hn=>by
  rw[b.keep x (Nat.lt_of_lt_of_le hx a.size) ?_,a.keep x hx hn]
  intro o h2
  cases h1:H₁ x with
  | none=>exact absurd hx (Nat.not_lt.2 (a.new x h1 (by rw[h2];simp)))
  | some y=>
   obtain⟨o1,p⟩:=y
   cases p with
   | true=>exact hn _ h1
   | false=>
    have:=a.ro x o1 h1
    rw[this]at h2
    simp at h2
 le:=b.le
 new:=fun x h1 h3=>by
  cases h2:H₂ x with
  | none=>exact Nat.le_trans a.size (b.new x h2 h3)
  | some y=>exact a.new x h1 (by rw[h2];simp)
 ro:=fun x o h=>b.ro x o (a.ro x o h)
 rw:=fun x o h=>by
  obtain⟨o',h'⟩:=a.rw x o h
  exact b.rw x o' h'
 gh:=b.gh.trans a.gh
def EvL (H:Hp)(w:World)(n:Nat)(e:Event):Prop:=
 match e.loc with
 | .cell a=>e.sync=false∧((∃ o p,H a.block=some (o,p)∧(e.write=true->p=true))∨w.heap.size<=a.block∧a.block<n)
 | .obj r=>e.sync=false∧((∃ o p,H r=some (o,p)∧(e.write=true->p=true))∨w.heap.size<=r∧r<n)
 | .mark (.extern _)=>True
 | .mark .noRoom=>True
 | _=>False
theorem EvL.back {H H':Hp}{w w':World}{n:Nat}(f:Fr H w H' w')(hn:w'.heap.size<=n){e:Event}(h:EvL H' w' n e):EvL H w n e:=by
 have key:∀ r,((∃ o p,H' r=some (o,p)∧(e.write=true->p=true))∨w'.heap.size<=r∧r<n)->((∃ o p,H r=some (o,p)∧(e.write=true->p=true))∨w.heap.size<=r∧r<n):=by
  rintro r (⟨o,p,h1,h2⟩ | h)
  ·cases hr:H r with
   | none=>exact .inr ⟨f.new r hr (by rw[h1];simp),Nat.lt_of_lt_of_le (f.le.lt h1) hn⟩
   | some y=>
    obtain⟨o1,p1⟩:=y
    refine .inl ⟨o1,p1,rfl,fun hw=>?_⟩
    cases p1 with
    | true=>rfl
    | false=>
     have:=f.ro r o1 hr
     rw[this]at h1
     simp at h1
     have:=h2 hw
     rw[h1.2]at this
     exact this
  ·exact .inr ⟨Nat.le_trans f.size h.1,h.2⟩
 unfold EvL at h ⊢
 split at h
 ·exact⟨h.1,key _ h.2⟩
 ·exact⟨h.1,key _ h.2⟩
 ·trivial
 ·trivial
 ·trivial
theorem cell?_of_at {w:World}{a:Addr}{o:Obj}{v:Value}(h:w.heap[a.block]? = some o)(hs:a.spot=none)(hv:Obj.at? o a.off=some v):w.cell? a=some v:=by
 unfold World.cell?
 cases o<;>simp[Obj.at?]at hv
 simp[h,hs,hv]
theorem frozen?_of {w:World}{a:Addr}{o:Obj}(h:w.heap[a.block]? = some o):w.frozen? a=Obj.frozenAt o a.off:=by
 unfold World.frozen? Obj.frozenAt
 rw[h]
 cases o<;>simp
theorem Hp.le.ins_new {H:Hp}{w:World}(h:H.le w)(o:Obj):(H.ins w.heap.size o).le { w with heap:=w.heap.push o }:=by
 intro b o' p hb
 simp only[Hp.ins_at]at hb
 split at hb
 ·subst b
  simp at hb
  simp[hb.1]
 ·have:=h b o' p hb
  have hlt:=(Array.getElem?_eq_some_iff.1 this).1
  simp[Array.getElem?_push,this]
  omega
theorem Fr.alloc {H:Hp}{w:World}(h:H.le w)(o:Obj):Fr H w (H.ins w.heap.size o) { w with heap:=w.heap.push o } where
 os:=rfl
 tape:=rfl
 out:=rfl
 drawn:=Nat.le_refl _
 size:=by simp
 keep:=fun b hb _=>by simp[Array.getElem?_push];omega
 le:=h.ins_new o
 new:=fun b h1 h2=>by
  simp only[Hp.ins_at]at h2
  split at h2
  ·omega
  ·exact absurd h1 h2
 ro:=fun b o' hb=>by
  have:=h.lt hb
  rw[Hp.ins_other _ _ (by omega)];exact hb
 rw:=fun b o' hb=>by
  have:=h.lt hb
  exact⟨o',by rw[Hp.ins_other _ _ (by omega)];exact hb⟩
 gh:=rfl
theorem Fr.drew {H:Hp}{w:World}(h:H.le w)(d:Nat)(hd:w.drawn<=d):Fr H w H { w with drawn:=d } where
 os:=rfl
 tape:=rfl
 out:=rfl
 drawn:=hd
 size:=Nat.le_refl _
 keep:=fun _ _ _=>rfl
 le:=h
 new:=fun _ h1 h2=>absurd h1 h2
 ro:=fun _ _ h=>h
 rw:=fun _ o h=>⟨o,h⟩
 gh:=rfl
theorem Fr.write {H:Hp}{w:World}(h:H.le w){b:Nat}{o o':Obj}(hb:H b=some (o,true)){hp:Array Obj}(hsz:hp.size=w.heap.size)(hat:hp[b]? = some o')
  (hoth:∀ c,c≠b->hp[c]? = w.heap[c]?):Fr H w (H.ins b o') { w with heap:=hp } where
 os:=rfl
 tape:=rfl
 out:=rfl
 drawn:=Nat.le_refl _
 size:=by simp[hsz]
 keep:=fun c _ hn=>hoth c (by rintro rfl;exact hn o hb)
 le:=by
  intro c oc p hc
  simp only[Hp.ins_at]at hc
  split at hc
  ·subst c;simp at hc;rw[<-hc.1];exact hat
  ·rename_i hne
   exact(hoth c hne).trans (h c oc p hc)
 new:=fun c h1 h2=>by
  simp only[Hp.ins_at]at h2
  split at h2
  ·subst c;rw[hb]at h1;simp at h1
  ·exact absurd h1 h2
 ro:=fun c oc hc=>by
  rw[Hp.ins_other _ _ (by rintro rfl;rw[hb]at hc;simp at hc)];exact hc
 rw:=fun c oc hc=>by
  by_cases e:c=b
  ·subst e;exact⟨o',by simp[Hp.ins_at]⟩
  ·exact⟨oc,by rw[Hp.ins_other _ _ e];exact hc⟩
 gh:=rfl
theorem Fr.setCell {H:Hp}{w:World}(h:H.le w){a:Addr}{o:Obj}(hs:a.spot=none)(hb:H a.block=some (o,true))(v:Value):Fr H w (H.ins a.block (Obj.put o a.off v)) (w.setCell a v):=by
 have hw:=h _ _ _ hb
 refine Fr.write h hb (by simp) ?_ (fun c hc=>?_)
 ·simp[Array.getElem?_modify,hw,Obj.put,hs]
  cases o<;>rfl
 ·simp[Array.getElem?_modify,Ne.symm hc]
theorem Fr.freeze {H:Hp}{w:World}(h:H.le w){a:Addr}{o:Obj}{n:Nat}(hn:n≠0)(hb:H a.block=some (o,true)):Fr H w (H.ins a.block (Obj.freezeAt o a.off n)) (w.freeze a n):=by
 have hw:=h _ _ _ hb
 unfold World.freeze
 rw[if_neg hn]
 refine Fr.write h hb (by simp) ?_ (fun c hc=>?_)
 ·simp[Array.getElem?_modify,hw,Obj.freezeAt]
  cases o<;>rfl
 ·simp[Array.getElem?_modify,Ne.symm hc]
theorem Fr.setObj {H:Hp}{w:World}(h:H.le w){r:Nat}{o:Obj}(hb:H r=some (o,true))(o':Obj):Fr H w (H.ins r o') { w with heap:=w.heap.setIfInBounds r o' }:=by
 have hw:=h _ _ _ hb
 have hlt:=(Array.getElem?_eq_some_iff.1 hw).1
 refine Fr.write h hb (by simp) ?_ (fun c hc=>?_)
 ·simp[hlt]
 ·simp[Ne.symm hc]
theorem ZlA {P:PQ}{α:Type}{s:Sem α}{Q:α->Bool->Hp->Prop}:∀ {g:Bool} {H:Hp} {w:World} (es:Array Event),wpL P s Q g H->H.le w ->
  ∃ a w' H' es' g',s.runT P w es=(.ok a w',es++es')∧Fr H w H' w'∧(Q a g' H'∧(g'=true->g=true))∧∀ e∈es',EvL H w w'.heap.size e:=by
 induction s with
 | pure a=>exact fun {g H w} es h hw=>⟨a,w,H,#[],g,by simp[Sem.runT],.refl hw,⟨h,id⟩,by simp⟩
 | load m a k ih=>
  rintro g H w es ⟨o,p,v,⟨hst,h1⟩,rfl,h3,h4,h5⟩ hw
  obtain⟨x,w',H',es',g',e1,e2,⟨e3,e5⟩,e4⟩:=ih v (es.push ⟨.cell a,false,Mode.plain == .atomic⟩) h5 hw
  refine⟨x,w',H',#[⟨.cell a,false,Mode.plain == .atomic⟩]++es',g',?_,e2,⟨e3,e5⟩,?_⟩
  ·simp only[Sem.runT,cell?_of_at (hw _ _ _ h1) h3 h4]
   rw[e1];simp
  ·intro e he
   simp only[Array.mem_append,List.mem_toArray,List.mem_singleton]at he
   rcases he with rfl | he
   ·exact⟨rfl,.inl ⟨o,p,h1,by simp⟩⟩
   ·exact e4 e he
 | store m a v k ih=>
  rintro g H w es ⟨o,⟨hst,h1⟩,rfl,h3,h4,h5,h6,h7⟩ hw
  obtain⟨u,hu⟩:=Option.isSome_iff_exists.1 h5
  have f:=Fr.setCell hw h3 h1 v
  obtain⟨x,w',H',es',g',e1,e2,⟨e3,e5⟩,e4⟩:=ih (es.push ⟨.cell a,true,Mode.plain == .atomic⟩) h7 f.le
  refine⟨x,w',H',#[⟨.cell a,true,Mode.plain == .atomic⟩]++es',g',?_,f.trans e2,⟨e3,e5⟩,?_⟩
  ·have hc:=cell?_of_at (hw _ _ _ h1) h3 hu
   have hf:=(frozen?_of (a:=a) (hw _ _ _ h1)).trans h6
   cases v<;>simp[Value.isOne]at h4<;>(simp only[Sem.runT,hc,hf,Bool.false_eq_true,if_false];rw[e1];simp)
  ·intro e he
   simp only[Array.mem_append,List.mem_toArray,List.mem_singleton]at he
   rcases he with rfl | he
   ·exact⟨rfl,.inl ⟨o,true,h1,by simp⟩⟩
   ·exact(e4 e he).back f e2.size
 | new o k ih=>
  rintro g H w es h hw
  have hn:H w.heap.size=none:=by
   cases hh:H w.heap.size with
   | none=>rfl
   | some y=>exact absurd (hw.lt hh) (by omega)
  have f:=Fr.alloc hw o
  obtain⟨x,w',H',es',g',e1,e2,⟨e3,e5⟩,e4⟩:=ih _ es (h.2 _ hn) f.le
  exact⟨x,w',H',es',g',by simp only[Sem.runT];exact e1,f.trans e2,⟨e3,e5⟩,fun e he=>(e4 e he).back f e2.size⟩
 | shape r k ih=>
  rintro g H w es ⟨o,p,⟨hst,h1⟩,h2⟩ hw
  have:w.shape? r=Obj.shapeOf o:=by
   unfold World.shape? Obj.shapeOf
   rw[hw _ _ _ h1]
   cases o<;>rfl
  obtain⟨x,w',H',es',g',e1,e2,⟨e3,e5⟩,e4⟩:=ih _ es h2 hw
  exact⟨x,w',H',es',g',by simp only[Sem.runT,this];exact e1,e2,⟨e3,e5⟩,e4⟩
 | freeze a n k ih=>
  rintro g H w es h hw
  rcases h with ⟨rfl,h2⟩ | ⟨o,⟨hst,h1⟩,h2,h3⟩
  ·obtain⟨x,w',H',es',g',e1,e2,⟨e3,e5⟩,e4⟩:=ih es h2 hw
   exact⟨x,w',H',es',g',by simp only[Sem.runT,World.freeze,if_true];exact e1,e2,⟨e3,e5⟩,e4⟩
  ·have f:=Fr.freeze hw h2 h1
   obtain⟨x,w',H',es',g',e1,e2,⟨e3,e5⟩,e4⟩:=ih es h3 f.le
   exact⟨x,w',H',es',g',by simp only[Sem.runT];exact e1,f.trans e2,⟨e3,e5⟩,fun e he=>(e4 e he).back f e2.size⟩
 | frozen a k ih=>
  rintro g H w es ⟨o,p,⟨hst,h1⟩,h2⟩ hw
  obtain⟨x,w',H',es',g',e1,e2,⟨e3,e5⟩,e4⟩:=ih _ es h2 hw
  exact⟨x,w',H',es',g',by simp only[Sem.runT,frozen?_of (a:=a) (hw _ _ _ h1)];exact e1,e2,⟨e3,e5⟩,e4⟩
 | getObj r k ih=>
  rintro g H w es ⟨o,p,⟨hst,h1⟩,h2,h3,h4⟩ hw
  obtain⟨x,w',H',es',g',e1,e2,⟨e3,e5⟩,e4⟩:=ih o (es.push ⟨.obj r,false,o.isChan⟩) h4 hw
  refine⟨x,w',H',#[⟨.obj r,false,o.isChan⟩]++es',g',?_,e2,⟨e3,e5⟩,?_⟩
  ·have hr:=hw _ _ _ h1
   simp only[Sem.runT,hr]
   cases o<;>simp[Obj.isCells]at h2<;>(dsimp only;rw[e1];simp)
  ·intro e he
   simp only[Array.mem_append,List.mem_toArray,List.mem_singleton]at he
   rcases he with rfl | he
   ·exact⟨h3,.inl ⟨o,p,h1,by simp⟩⟩
   ·exact e4 e he
 | setObj r o k ih=>
  rintro g H w es ⟨o',⟨hst,h1⟩,h2,h3,h4,h5⟩ hw
  have f:=Fr.setObj hw h1 o
  obtain⟨x,w',H',es',g',e1,e2,⟨e3,e5⟩,e4⟩:=ih (es.push ⟨.obj r,true,o.isChan⟩) h5 f.le
  refine⟨x,w',H',#[⟨.obj r,true,o.isChan⟩]++es',g',?_,f.trans e2,⟨e3,e5⟩,?_⟩
  ·have hr:=hw _ _ _ h1
   simp only[Sem.runT,hr]
   cases o'<;>simp[Obj.isCells]at h2<;>(dsimp only;rw[e1];simp)
  ·intro e he
   simp only[Array.mem_append,List.mem_toArray,List.mem_singleton]at he
   rcases he with rfl | he
   ·exact⟨h4,.inl ⟨o',true,h1,by simp⟩⟩
   ·exact(e4 e he).back f e2.size
 | choose q k ih=>
  rintro g H w es h hw
  simp only[wpL]at h
  split at h
  ·rename_i hq
   obtain⟨x,w',H',es',g',e1,e2,⟨e3,e5⟩,e4⟩:=ih _ es h hw
   exact⟨x,w',H',es',g',by simp only[Sem.runT,hq,if_true];exact e1,e2,⟨e3,e5⟩,e4⟩
  ·rename_i hq
   have f:=Fr.drew hw (w.drawn+1) (by omega)
   obtain⟨x,w',H',es',g',e1,e2,⟨e3,e5⟩,e4⟩:=ih _ es (h.2 (w.tape w.drawn q)) f.le
   exact⟨x,w',H',es',g',by simp only[Sem.runT,hq];exact e1,f.trans e2,⟨e3,e5⟩,fun e he=>(e4 e he).back f e2.size⟩
 | sys c k ih=>exact fun _ h=>h.elim
 | program k ih=>
  rintro g H w es h hw
  obtain⟨x,w',H',es',g',e1,e2,⟨e3,e5⟩,e4⟩:=ih _ es h hw
  exact⟨x,w',H',es',g',by simp only[Sem.runT];exact e1,e2,⟨e3,e5⟩,e4⟩
 | mark m k ih=>
  rintro g H w es h hw
  obtain⟨h1,h2⟩:=h
  obtain⟨x,w',H',es',g',e1,e2,⟨e3,e5⟩,e4⟩:=ih (es.push ⟨.mark m,false,true⟩) h2 hw
  refine⟨x,w',H',#[⟨.mark m,false,true⟩]++es',g',?_,e2,⟨e3,e5⟩,?_⟩
  ·simp only[Sem.runT];rw[e1];simp
  ·intro e he
   simp only[Array.mem_append,List.mem_toArray,List.mem_singleton]at he
   rcases he with rfl | he
   ·rcases h1 with ⟨f,rfl⟩ | ⟨rfl,_⟩<;>trivial
   ·exact e4 e he
 | halt h=>exact fun _ h=>h.elim
theorem Zlz {P:PQ}{α:Type}{s:Sem α}{Q:α->Bool->Hp->Prop}:∀ {g:Bool} {H:Hp},P.still H.gh=true->wpL P s Q g H ->
  ∃ a es',Q a g H∧(∀ (w:World) (es:Array Event),s.runT P w es=(.ok a w,es++es'))∧∀ e∈es',∃ f,e=⟨.mark (.extern f),false,true⟩:=by
 have no:∀ {b:Bool} {p:Prop},b=true->b=false->p:=by intro b p h1 h2;rw[h1]at h2;simp at h2
 induction s with
 | pure a=>exact fun hn h=>⟨a,#[],h,fun w es=>by simp[Sem.runT],by simp⟩
 | load m a k ih=>exact fun hn ⟨o,p,v,h1,_⟩=>no hn h1.1
 | store m a v k ih=>exact fun hn ⟨o,h1,_⟩=>no hn h1.1
 | new o k ih=>exact fun hn h=>no hn h.1
 | shape r k ih=>exact fun hn ⟨o,p,h1,_⟩=>no hn h1.1
 | freeze a n k ih=>
  rintro g H hn (⟨rfl,h⟩ | ⟨o,h1,_⟩)
  ·obtain⟨x,es',e1,e2,e3⟩:=ih hn h
   exact⟨x,es',e1,fun w es=>by simp only[Sem.runT,World.freeze,if_true];exact e2 w es,e3⟩
  ·exact no hn h1.1
 | frozen a k ih=>exact fun hn ⟨o,p,h1,_⟩=>no hn h1.1
 | getObj r k ih=>exact fun hn ⟨o,p,h1,_⟩=>no hn h1.1
 | setObj r o k ih=>exact fun hn ⟨o',h1,_⟩=>no hn h1.1
 | choose q k ih=>
  intro g H hn h
  simp only[wpL]at h
  split at h
  ·rename_i hq
   obtain⟨x,es',e1,e2,e3⟩:=ih _ hn h
   exact⟨x,es',e1,fun w es=>by simp only[Sem.runT,hq,if_true];exact e2 w es,e3⟩
  ·exact no hn h.1
 | sys c k ih=>exact fun _ h=>h.elim
 | program k ih=>
  intro g H hn h
  obtain⟨x,es',e1,e2,e3⟩:=ih _ hn h
  exact⟨x,es',e1,fun w es=>by simp only[Sem.runT];exact e2 w es,e3⟩
 | mark m k ih=>
  rintro g H hn ⟨h1,h⟩
  obtain⟨f,rfl⟩:=h1.resolve_right (fun h=>no hn h.2)
  obtain⟨x,es',e1,e2,e3⟩:=ih hn h
  refine⟨x,#[⟨.mark (.extern f),false,true⟩]++es',e1,fun w es=>by simp only[Sem.runT];rw[e2];simp,?_⟩
  intro e he
  simp only[Array.mem_append,List.mem_toArray,List.mem_singleton]at he
  rcases he with rfl | he
  ·exact⟨f,rfl⟩
  ·exact e3 e he
 | halt h=>exact fun _ h=>h.elim
end Go.LL
end
