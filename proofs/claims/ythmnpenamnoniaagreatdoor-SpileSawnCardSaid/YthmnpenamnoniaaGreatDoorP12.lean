import Derived.Test.YthmnpenamnoniaaGreatDoorP11
import Derived.Conc.Beside
import Derived.Conc.MuSpec
set_option linter.all false
section
namespace Go.LL
open Go.Conc (Knows Deaf touchAt QuitsD)
abbrev blk (fr:Frame)(cs:List Frame):Goroutine:={ frame:=fr,callers:=cs,status:=.blocked,dying:=none }
def _root_.Go.Loc.blk:Loc->Option Nat
 | .cell a=>some a.block
 | .obj r=>some r
 | _=>none
def Hp.Dis (H F:Hp):Prop:=∀ b x y,H b=some x->F b=some y->x=y∧x.2=false
theorem Hp.Dis.symm {H F:Hp}(h:H.Dis F):F.Dis H:=fun b x y h1 h2=>by
 obtain⟨e,p⟩:=h b y x h2 h1
 exact⟨e.symm,by rw[<-e];exact p⟩
theorem Hp.Dis.left {H F J:Hp}(h:(H.join F).Dis J):H.Dis J:=fun b x y h1 h2=>h b x y (Hp.join_left h1) h2
theorem Hp.Dis.right {H F J:Hp}(hc:H.Comp F)(h:(H.join F).Dis J):F.Dis J:=fun b x y h1 h2=>h b x y (Hp.join_right hc h1) h2
theorem Hp.Dis.join {H F J:Hp}(h1:H.Dis J)(h2:F.Dis J):(H.join F).Dis J:=fun b x y hx hy=>by
 simp only[Hp.join_at]at hx
 cases hh:H b with
 | none=>rw[hh]at hx;exact h2 b x y hx hy
 | some z=>rw[hh]at hx;exact h1 b x y (by rw[hh];exact hx) hy
structure Out (w w':World):Prop where
 os:Go.ConcM.OsLater w.os w'.os
 tape:w'.tape=w.tape
 out:w'.output=w.output
theorem Out.refl (w:World):Out w w:=⟨.refl _,rfl,rfl⟩
theorem Out.trans {a b c:World}(h:Out a b)(k:Out b c):Out a c:=⟨h.os.trans k.os,k.tape.trans h.tape,k.out.trans h.out⟩
def From (H Hs:Hp)(w:World)(K:Hp):Prop:=∀ b x,K b=some x->w.heap.size<=b∨∃ y,(H b=some y∨Hs b=some y)∧(y.2=false->x=y)
theorem From.dis {H Hs K F:Hp}{w:World}(h:From H Hs w K)(hF:F.le w)(h1:H.Dis F)(h2:Hs.Dis F):K.Dis F:=by
 intro b x y hx hy
 rcases h b x hx with h | ⟨z,hz,he⟩
 ·exact absurd (hF.lt hy) (by omega)
 ·have:z=y∧z.2=false:=hz.elim (fun hz=>h1 b z y hz hy) (fun hz=>h2 b z y hz hy)
  rw[he this.2]
  exact this
def PermH (t:Trace)(i:Nat)(H:Hp):Prop:=∀ b o p,H b=some (o,p)->∀ q a,touchAt t q=some a->a.loc.blk=some b->(p=true∨a.write=true)->Knows t i q
structure Team (p:Program) where
 S:Type
 tag:S->Nat->List Nat
 next:S->Nat
 more:S->Nat
 Inv:S->Hp->Trace->Prop
 Blk:S->Nat->Prop
 act:List Nat->Prop
 hsh:List Nat->Prop
 left:List Nat
 stl:List Nat->Bool
 stlNil:stl []=true
def lv (d:Nat):List Nat:=[0,d]
def Hp.tagged (H:Hp)(g:List Nat):Hp:=⟨H.mem,g⟩
theorem Hp.tagged_at (H:Hp)(g:List Nat)(b:Nat):H.tagged g b=H b:=rfl
theorem Hp.tagged_join {H F:Hp}(hF:F.gh=[])(g:List Nat):(H.join F).tagged g=(H.tagged g).join F:=Hp.ext' (fun b=>rfl) (by simp[Hp.join_gh,Hp.tagged,hF])
theorem Hp.Comp.tagged {H F:Hp}(h:H.Comp F)(hF:F.gh=[])(g:List Nat):(H.tagged g).Comp F:=⟨fun b x y h1 h2=>h b x y h1 h2,.inr hF⟩
section
variable  {p:Program}(T:Team p)
structure Meets (i:Nat)(s:T.S)(Hs:Hp)(t:Trace)(w:World)(H:Hp)(ops:Trace)(s':T.S)(Hs':Hp)(w':World):Prop where
 size:w.heap.size<=w'.heap.size
 keep:∀ b,b<w.heap.size->(∀ o,H b≠some (o,true))->(∀ o,Hs b≠some (o,true))->w'.heap[b]? = w.heap[b]?
 leS:Hs'.le w'
 from2:From H Hs w Hs'
 out:Out w w'
 evs:∀ op∈ops,∀ x,op.act.touch? = some x->∀ b,x.loc.blk=some b->(∃ o p,(H b=some (o,p)∨Hs b=some (o,p))∧(x.write=true->p=true))∨w.heap.size<=b
 norace:∀ said q a,touchAt t q=some a->∀ op∈ops,∀ b,op.act.touch? = some b->a.conflicts said b->Knows t i q
 low:∀ op∈ops,op.act.low w'.heap.size
 inv:T.Inv s' Hs' (t++ops)
structure Gets (i:Nat)(Hs:Hp)(w:World)(H:Hp)(t':Trace)(Hs':Hp)(w':World)(H':Hp):Prop where
 le:H'.le w'
 dis:H'.Dis Hs'
 from1:From H Hs w H'
 perm:PermH t' i H'
abbrev Zbl (i:Nat)(fr:Frame)(es:Array Event):Trace:=MemOp.ofEvents i fr.fn fr.place es
structure Ahead (i:Nat)(H:Hp)(s:T.S)(Hs:Hp)(t:Trace)(w:World):Prop where
 inv:T.Inv s Hs t
 tag:T.tag s i=H.gh
 lt:i<T.next s
 le:H.le w
 leS:Hs.le w
 dis:H.Dis Hs
 perm:PermH t i H
 low:∀ op∈t,op.act.low w.heap.size
 above:∀ j,T.next s<=j->Deaf t j=0
def Zh4 (i:Nat)(K:Trace->Frame->List Frame->Hp->Prop)(fr:Frame)(cs:List Frame)(H:Hp)(s:T.S)(Hs:Hp)(t:Trace)(w:World):Prop:=
 ∃ fr' cs' w' H' s' Hs' es,stepG p (i == 0) (gor fr cs) w=.go (gor fr' cs') w' es∧Meets T i s Hs t w H (Zbl i fr es) s' Hs' w'∧Gets i Hs w H (t++Zbl i fr es) Hs' w' H' ∧
  (∀ j,T.tag s' j=if j=i then H'.gh else T.tag s j)∧T.next s'=T.next s∧T.more s'<=T.more s∧(mayWake p (gor fr cs)=true∨∀ j,T.Blk s j->T.Blk s' j)∧K (t++Zbl i fr es) fr' cs' H'
def ZkC (i:Nat)(fr:Frame)(cs:List Frame)(s:T.S)(w:World):Prop:=
 stepG p (i == 0) (gor fr cs) w=.go (blk fr cs) w #[]∧T.Blk s i
def noHp (H:Hp):Prop:=∀ b,H b=none
def Hp.bare (g:List Nat):Hp:=⟨fun _=>none,g⟩
def Zcr:Frame->List Frame->Hp->Prop:=fun _ _ _=>False
theorem ZbR {i:Nat}{fr:Frame}{es:Array Event}:∀ op∈Zbl i fr es,op.g=i:=fun op hop=>by
 obtain⟨e,_,rfl⟩:=Go.Conc.mem_ofEvents hop
 rfl
theorem PermH.own {t u:Trace}{i:Nat}{H:Hp}(h:PermH t i H)(hu:∀ op∈u,op.g=i∨op.act.touch? = none):PermH (t++u) i H:=by
 intro b o p hb q a hq hl hw
 obtain⟨x,hx,hxa⟩:=Go.Conc.touch_of hq
 rcases Go.Conc.getElem?_append_cases hx with ⟨hi,hx'⟩ | ⟨_,hxu⟩
 ·exact(h b o p hb q a (by rw[Go.Conc.touchAt_of hx'];exact hxa) hl hw).app u
 ·have:=Go.Conc.knows_own hx
  rcases hu x hxu with hg | hg
  ·rwa [hg]at this
  ·rw[hg]at hxa;simp at hxa
theorem PermH.join {t:Trace}{i:Nat}{H F:Hp}(h:PermH t i H)(h':PermH t i F):PermH t i (H.join F):=by
 intro b o p hb
 simp only[Hp.join_at]at hb
 cases hh:H b with
 | none=>rw[hh]at hb;exact h' b o p hb
 | some z=>rw[hh]at hb;exact h b o p (by rw[hh];exact hb)
theorem PermH.left {t:Trace}{i:Nat}{H F:Hp}(h:PermH t i (H.join F)):PermH t i H:=fun b o p hb=>h b o p (Hp.join_left hb)
theorem PermH.right {t:Trace}{i:Nat}{H F:Hp}(hc:H.Comp F)(h:PermH t i (H.join F)):PermH t i F:=fun b o p hb=>h b o p (Hp.join_right hc hb)
theorem Zdz {H F:Hp}(hc:H.Comp F)(h0:H.gh≠[]):F.gh=[]:=hc.gh.resolve_left h0
variable  {T}
theorem Ahead.left {i:Nat}{H F:Hp}{s:T.S}{Hs:Hp}{t:Trace}{w:World}(hc:H.Comp F)(h0:H.gh≠[])(h:Ahead T i (H.join F) s Hs t w):Ahead T i H s Hs t w:=
 ⟨h.inv,by rw[h.tag,Hp.join_gh,Zdz hc h0,List.append_nil],h.lt,h.le.left,h.leS,h.dis.left,h.perm.left,h.low,h.above⟩
theorem Meets.frame {i:Nat}{H F:Hp}{s s':T.S}{Hs Hs':Hp}{t ops:Trace}{w w':World}(h:Meets T i s Hs t w H ops s' Hs' w'):Meets T i s Hs t w (H.join F) ops s' Hs' w':=
 ⟨h.size,fun b hb h1 h2=>h.keep b hb (fun o ho=>h1 o (Hp.join_left ho)) h2,h.leS,fun b x hx=>(h.from2 b x hx).imp id fun ⟨y,hy,he⟩=>⟨y,hy.imp Hp.join_left id,he⟩,h.out,
  fun op hop x hx b hb=>(h.evs op hop x hx b hb).imp (fun ⟨o,p,h1,h2⟩=>⟨o,p,h1.imp Hp.join_left id,h2⟩) id,h.norace,h.low,h.inv⟩
theorem stays {H F Hs:Hp}{w w':World}(h1:H.Dis F)(h2:Hs.Dis F)(hF:F.le w)(keep:∀ b,b<w.heap.size->(∀ o,H b≠some (o,true))->(∀ o,Hs b≠some (o,true))->w'.heap[b]? = w.heap[b]?):F.le w':=by
 intro b o p hb
 rw[keep b (hF.lt hb) (fun o' ho'=>by simpa using (h1 b _ _ ho' hb).2) (fun o' ho'=>by simpa using (h2 b _ _ ho' hb).2)]
 exact hF b o p hb
theorem Gets.frame {i:Nat}{H F:Hp}{s s':T.S}{Hs Hs':Hp}{t ops:Trace}{w w':World}{H':Hp}(hc:H.Comp F)(hops:∀ op∈ops,op.g=i∨op.act.touch? = none)(ha:Ahead T i (H.join F) s Hs t w)
  (hm:Meets T i s Hs t w H ops s' Hs' w') (h:Gets i Hs w H (t++ops) Hs' w' H'):Gets i Hs w (H.join F) (t++ops) Hs' w' (H'.join F):=by
 have hF:F.le w:=ha.le.right hc
 have d1:H.Dis F:=hc.mem
 have d2:Hs.Dis F:=(ha.dis.right hc).symm
 have hF':F.le w':=stays d1 d2 hF hm.keep
 refine⟨?_,?_,?_,?_⟩
 ·intro b o p hb
  simp only[Hp.join_at]at hb
  cases hh:H' b with
  | none=>rw[hh]at hb;exact hF' b o p hb
  | some z=>rw[hh]at hb;exact h.le b o p (by rw[hh];exact hb)
 ·exact h.dis.join ((hm.from2.dis hF d1 d2).symm)
 ·intro b x hx
  simp only[Hp.join_at]at hx
  cases hh:H' b with
  | none=>rw[hh]at hx;exact .inr ⟨x,.inl (Hp.join_right hc hx),fun _=>rfl⟩
  | some z=>
   rw[hh]at hx
   exact(h.from1 b x (by rw[hh];exact hx)).imp id fun ⟨y,hy,he⟩=>⟨y,hy.imp Hp.join_left id,he⟩
 ·exact h.perm.join ((ha.perm.right hc).own hops)
theorem Gets.comp {i:Nat}{H F:Hp}{s:T.S}{Hs Hs':Hp}{t t':Trace}{w w':World}{H':Hp}(hc:H.Comp F)(h0:H.gh≠[])(ha:Ahead T i (H.join F) s Hs t w)(h:Gets i Hs w H t' Hs' w' H'):H'.Comp F:=
 ⟨h.from1.dis (ha.le.right hc) hc.mem (ha.dis.right hc).symm,.inr (Zdz hc h0)⟩
theorem Zh4.frame {i:Nat}{K:Trace->Frame->List Frame->Hp->Prop}{fr:Frame}{cs:List Frame}{H F:Hp}{s:T.S}{Hs:Hp}{t:Trace}{w:World}(hc:H.Comp F)(h0:H.gh≠[])(ha:Ahead T i (H.join F) s Hs t w)
  (h:Zh4 T i K fr cs H s Hs t w):Zh4 T i (fun t' fr cs HF=>∃ H',HF=H'.join F∧H'.Comp F∧K t' fr cs H') fr cs (H.join F) s Hs t w:=by
 obtain⟨fr',cs',w',H',s',Hs',es,h1,h2,h3,h4,h5,h6,h7,h8⟩:=h
 exact⟨fr',cs',w',H'.join F,s',Hs',es,h1,h2.frame,h3.frame hc (fun op hop=>.inl (ZbR op hop)) ha h2,fun j=>by rw[h4,Hp.join_gh,Zdz hc h0,List.append_nil],h5,h6,h7,H',rfl,h3.comp hc h0 ha,h8⟩
theorem Zh4.mono {i:Nat}{K K':Trace->Frame->List Frame->Hp->Prop}{fr:Frame}{cs:List Frame}{H:Hp}{s:T.S}{Hs:Hp}{t:Trace}{w:World}(hk:∀ t fr cs H,K t fr cs H->K' t fr cs H)
  (h:Zh4 T i K fr cs H s Hs t w):Zh4 T i K' fr cs H s Hs t w:=
 let ⟨fr',cs',w',H',s',Hs',es,h1,h2,h3,h4,h5,h6,h7,h8⟩:=h
 ⟨fr',cs',w',H',s',Hs',es,h1,h2,h3,h4,h5,h6,h7,hk _ _ _ _ h8⟩
variable  (T)
noncomputable def Team.envW (i:Nat):Env where
 sh:=fun R fr cs H=>H.gh≠[] ∧
  ((∃ d,H.gh=lv d∧((∃ fr' cs' es,(∀ e∈es,Event.mute e=true)∧(∀ main w,stepG p main (gor fr cs) w=.go (gor fr' cs') w es)∧R fr' cs' (H.tagged (lv (deafBehind d es))))∨(d=0∧∃ g:Goroutine,g.status=.finished∧∀ w,stepG p false (gor fr cs) w=.go g w))) ∨
     (T.act H.gh∧∀ s Hs t w,Ahead T i H s Hs t w ->
    Zh4 T i (fun _ fr' cs' H'=>(R fr' cs' H'∧T.act H'.gh)∨(T.hsh H'.gh∧R fr' cs' (H.tagged H'.gh))) fr cs H s Hs t w∨ZkC T i fr cs s w) ∨
     (T.hsh H.gh∧∀ s Hs t w,Ahead T i (.bare H.gh) s Hs t w ->
    Zh4 T i (fun t' fr' cs' H'=>noHp H'∧((T.hsh H'.gh∧R fr' cs' (H.tagged H'.gh))∨(H'.gh=T.left∧R fr' cs' (H.tagged (lv (Deaf t' i)))))) fr cs (.bare H.gh) s Hs t w∨ZkC T i fr cs s w))
 shMono:=by
  rintro R R' hr fr cs H ⟨h0,h⟩
  refine⟨h0,h.imp ?_ (Or.imp ?_ ?_)⟩
  ·rintro⟨d,e,h⟩
   exact⟨d,e,h.imp (fun ⟨fr',cs',es,h1,h2,h3⟩=>⟨fr',cs',es,h1,h2,hr _ _ _ h3⟩) id⟩
  ·rintro⟨ha,h⟩
   exact⟨ha,fun s Hs t w ha=>(h s Hs t w ha).imp (Zh4.mono fun t fr cs H h=>h.imp (fun h=>⟨hr _ _ _ h.1,h.2⟩) fun h=>⟨h.1,hr _ _ _ h.2⟩) id⟩
  ·rintro⟨ha,h⟩
   exact⟨ha,fun s Hs t w ha=>(h s Hs t w ha).imp (Zh4.mono fun t fr cs H h=>⟨h.1,h.2.imp (fun h=>⟨h.1,hr _ _ _ h.2⟩) fun h=>⟨h.1,hr _ _ _ h.2⟩⟩) id⟩
 shFrame:=by
  rintro R fr cs H F hc ⟨h0,h⟩
  have hF:=Zdz hc h0
  have hg:(H.join F).gh=H.gh:=by rw[Hp.join_gh,hF,List.append_nil]
  have fr1:∀ g fr' cs',R fr' cs' (H.tagged g)->∃ H',(H.join F).tagged g=H'.join F∧H'.Comp F∧R fr' cs' H':=fun g fr' cs' hr=>⟨_,Hp.tagged_join hF g,hc.tagged hF g,hr⟩
  refine⟨by rw[hg];exact h0,h.imp ?_ (Or.imp ?_ ?_)⟩
  ·rintro⟨d,e,h⟩
   exact⟨d,hg.trans e,h.imp (fun ⟨fr',cs',es,h1,h2,h3⟩=>⟨fr',cs',es,h1,h2,fr1 _ _ _ h3⟩) id⟩
  ·rintro⟨hact,h⟩
   refine⟨by rw[hg];exact hact,fun s Hs t w ha=>?_⟩
   refine(h s Hs t w (ha.left hc h0)).imp (fun hgo=>(hgo.frame hc h0 ha).mono ?_) id
   rintro t' fr' cs' HF ⟨H',rfl,hc',hk⟩
   have hg':(H'.join F).gh=H'.gh:=by rw[Hp.join_gh,hF,List.append_nil]
   rw[hg']
   exact hk.imp (fun h=>⟨⟨H',rfl,hc',h.1⟩,h.2⟩) fun h=>⟨h.1,fr1 _ _ _ h.2⟩
  ·rintro⟨hhsh,h⟩
   refine⟨by rw[hg];exact hhsh,fun s Hs t w ha=>?_⟩
   rw[hg]at ha ⊢
   exact(h s Hs t w ha).imp (Zh4.mono fun t' fr' cs' H' hk=>⟨hk.1,hk.2.imp (fun h=>⟨h.1,fr1 _ _ _ h.2⟩) fun h=>⟨h.1,fr1 _ _ _ h.2⟩⟩) id
noncomputable def Team.prgW (i:Nat):Prg:={ toProgram:=p,still:=T.stl,stillNil:=fun h=>absurd h (by simp[T.stlNil]),toEnv:=T.envW i }
def Zc4 (i k:Nat)(fr frc:Frame)(es:Array Event):Trace:=
 (Zbl i fr es).push { g:=i,fn:=fr.fn,pos:=fr.place,act:=.go k } |>.push { g:=k,fn:=frc.fn,pos:=fr.place,act:=.start }
theorem ZmC {k:Nat}{fr frc:Frame}{es:Array Event}:∀ op∈Zc4 0 k fr frc es,op.g=0∨op.act.touch? = none:=by
 intro op hop
 rcases Array.mem_push.1 hop with hop | rfl
 ·rcases Array.mem_push.1 hop with hop | rfl
  ·exact .inl (ZbR op hop)
  ·exact .inl rfl
 ·exact .inr rfl
def ZmY (K:Frame->List Frame->Hp->Prop)(fr:Frame)(cs:List Frame)(H:Hp)(s:T.S)(Hs:Hp)(t:Trace)(w:World):Prop:=
 ∃ fr' cs' frc w' H' Hc s' Hs' es,stepG p true (gor fr cs) w=.spawn (gor fr' cs') (gor frc []) w' es∧Meets T 0 s Hs t w H (Zc4 0 (T.next s) fr frc es) s' Hs' w' ∧
  Gets 0 Hs w H (t++Zc4 0 (T.next s) fr frc es) Hs' w' H'∧Gets (T.next s) Hs w H (t++Zc4 0 (T.next s) fr frc es) Hs' w' Hc∧H'.Dis Hc ∧
  (∀ j,T.tag s' j=if j=0 then H'.gh else if j=T.next s then Hc.gh else T.tag s j)∧T.next s'=T.next s+1∧T.more s'<T.more s∧(∀ j,j<T.next s->T.Blk s j->T.Blk s' j) ∧
  K fr' cs' H'∧T.act H'.gh∧T.act Hc.gh∧Reach (T.prgW (T.next s)) Zcr frc [] Hc
theorem ZmY.frame {K:Frame->List Frame->Hp->Prop}{fr:Frame}{cs:List Frame}{H F:Hp}{s:T.S}{Hs:Hp}{t:Trace}{w:World}(hc:H.Comp F)(h0:H.gh≠[])(ha:Ahead T 0 (H.join F) s Hs t w)
  (h:ZmY T K fr cs H s Hs t w):ZmY T (fun fr cs HF=>∃ H',HF=H'.join F∧H'.Comp F∧K fr cs H') fr cs (H.join F) s Hs t w:=by
 obtain⟨fr',cs',frc,w',H',Hc,s',Hs',es,h1,h2,h3,h4,h5,h6,h7,h8,h9,h10,h11⟩:=h
 have hF:F.le w:=ha.le.right hc
 have d1:H.Dis F:=hc.mem
 have d2:Hs.Dis F:=(ha.dis.right hc).symm
 have e:(H'.join F).gh=H'.gh:=by rw[Hp.join_gh,Zdz hc h0,List.append_nil]
 refine⟨fr',cs',frc,w',H'.join F,Hc,s',Hs',es,h1,h2.frame,h3.frame hc ZmC ha h2,⟨h4.le,h4.dis,?_,h4.perm⟩,h5.join (h4.from1.dis hF d1 d2).symm,?_,h7,h8,h9,⟨H',rfl,h3.comp hc h0 ha,h10⟩,?_⟩
 ·exact fun b x hx=>(h4.from1 b x hx).imp id fun ⟨y,hy,he⟩=>⟨y,hy.imp Hp.join_left id,he⟩
 ·rw[e];exact h6
 ·rw[e];exact h11
noncomputable def Team.envM:Env where
 sh:=fun R fr cs H=>H.gh≠[]∧∀ s Hs t w,Ahead T 0 H s Hs t w ->
  Zh4 T 0 (fun t' fr' cs' H'=>R fr' cs' H'∧T.act H'.gh) fr cs H s Hs t w∨ZkC T 0 fr cs s w∨ZmY T R fr cs H s Hs t w
 shMono:=by
  rintro R R' hr fr cs H ⟨h0,h⟩
  refine⟨h0,fun s Hs t w ha=>(h s Hs t w ha).imp (Zh4.mono fun t fr cs H h=>⟨hr _ _ _ h.1,h.2⟩) (Or.imp id ?_)⟩
  rintro⟨fr',cs',frc,w',H',Hc,s',Hs',es,h1,h2,h3,h4,h5,h6,h7,h8,h9,h10,h11⟩
  exact⟨fr',cs',frc,w',H',Hc,s',Hs',es,h1,h2,h3,h4,h5,h6,h7,h8,h9,hr _ _ _ h10,h11⟩
 shFrame:=by
  rintro R fr cs H F hc ⟨h0,h⟩
  refine⟨by rw[Hp.join_gh];simp[h0],fun s Hs t w ha=>?_⟩
  refine(h s Hs t w (ha.left hc h0)).imp (fun hg=>(hg.frame hc h0 ha).mono ?_) (Or.imp id fun hs=>hs.frame T hc h0 ha)
  rintro t' fr' cs' HF ⟨H',rfl,hc',h1,h2⟩
  exact⟨⟨H',rfl,hc',h1⟩,by rw[Hp.join_gh,Zdz hc h0,List.append_nil];exact h2⟩
noncomputable def Team.prgM:Prg:={ toProgram:=p,still:=fun _=>false,stillNil:=fun _ _=>rfl,toEnv:=T.envM }
def Zgl (i:Nat)(Hs:Hp)(op:MemOp):Prop:=op.g=i∧((∃ loc wr,op.act=.access ⟨loc,wr,false⟩∧∀ b,loc.blk=some b->Hs b=none)∨(∃ f,op.act=.mark (.extern f))∨op.act=.mark .noRoom)
def ZkB (i:Nat)(op:MemOp):Prop:=op.g=i∧(op.act=.mark .disable∨op.act=.mark .enable)
structure Team.Sound:Prop where
 own:∀ {s Hs t},T.Inv s Hs t->∀ b x,Hs b=some x->x.2=true
 stable:∀ {s Hs t i u},T.Inv s Hs t->i<T.next s->T.act (T.tag s i)->(∀ op∈u,Zgl i Hs op)->T.Inv s Hs (t++u)
 mute:∀ {s Hs t i u},T.Inv s Hs t->i<T.next s->T.tag s i=T.left->(∀ op∈u,ZkB i op)->T.Inv s Hs (t++u)
 live:∀ {s Hs t},T.Inv s Hs t->(∀ j,j<T.next s->T.tag s j≠T.left->T.Blk s j)->False
 actLeft:¬ T.act T.left
 hshLeft:¬ T.hsh T.left
 actLv:∀ d,¬ T.act (lv d)
 actHsh:∀ g,T.act g->¬ T.hsh g
 hshLv:∀ d,¬ T.hsh (lv d)
 stlLv:∀ d,T.stl (lv d)=true
 stlHsh:∀ g,T.hsh g->T.stl g=true
end
end Go.LL
end
section
namespace Go.LL
open Go.Conc (Knows Deaf touchAt QuitsD crowd woken)
open Go.ConcN (sumTo upd sumTo_upd upd_ne upd_same)
def Phi (P:Prg)(G:Frame->List Frame->Hp->Prop)(R:Nd->Prop)(x:Nd):Prop:=
 G x.1 x.2.1 x.2.2∨LStep P x.1 x.2.1 x.2.2 (fun a b c=>R (a,b,c))∨P.sh (fun a b c=>R (a,b,c)) x.1 x.2.1 x.2.2
theorem Phi.mono {P:Prg}{G:Frame->List Frame->Hp->Prop}:∀ {R R':Nd->Prop},(∀ x,R x->R' x)->∀ x,Phi P G R x->Phi P G R' x:=
 fun hr _ h=>h.imp id (Or.imp (fun h=>h.mono fun _ _ _ h=>hr _ h) (fun h=>P.shMono (fun _ _ _ h=>hr _ h) h))
theorem Reach.rank {P:Prg}{G:Frame->List Frame->Hp->Prop}{fr:Frame}{cs:List Frame}{H:Hp}(h:Reach P G fr cs H):∃ k,Rank (Phi P G) k (fr,cs,H):=
 rank_of Phi.mono fun R hR=>h (fun a b c=>R (a,b,c)) (fun _ _ _ hg=>hR _ (.inl hg)) (fun _ _ _ hl=>hR _ (.inr (.inl hl))) (fun _ _ _ hs=>hR _ (.inr (.inr hs)))
section
variable  {p:Program}(T:Team p)
def Awk (s:T.S)(gs:Array Goroutine)(j:Nat)(fr:Frame)(cs:List Frame):Prop:=gs[j]? = some (gor fr cs)∨(gs[j]? = some (blk fr cs)∧T.Blk s j)
def Sta (G:Frame->List Frame->Hp->Prop)(gs:Array Goroutine)(t:Trace)(s:T.S)(j:Nat)(H:Hp):Nat->Rk->Prop
 | 3,k=>j=0∧∃ fr cs,Awk T s gs j fr cs∧Rank (Phi T.prgM G) k (fr,cs,H)∧T.act H.gh
 | 2,k=>j≠0∧∃ fr cs,Awk T s gs j fr cs∧Rank (Phi (T.prgW j) Zcr) k (fr,cs,H)∧T.act H.gh
 | 1,k=>j≠0∧∃ fr cs,Awk T s gs j fr cs∧(∃ Hl:Hp,Hl.gh=H.gh∧Rank (Phi (T.prgW j) Zcr) k (fr,cs,Hl))∧T.hsh H.gh∧noHp H
 | 0,k=>j≠0∧H.gh=T.left∧noHp H∧∃ g q,gs[j]? = some g∧QuitsD p q (Deaf t j) g∧k=.ofNat q
 | _,_=>False
structure Conf (G:Frame->List Frame->Hp->Prop)(n:Nat)(H0:Hp)(w0:World)(gs:Array Goroutine)(w:World)(t:Trace)(s:T.S)(Hs:Hp)(Hf:Nat->Hp)(md:Nat->Nat)(rk:Nat->Rk):Prop where
 size:gs.size=T.next s
 pos:0<gs.size
 bound:gs.size+T.more s<=n
 inv:T.Inv s Hs t
 leS:Hs.le w
 le:∀ j,(Hf j).le w
 dis:∀ j k,j≠k->(Hf j).Dis (Hf k)
 disS:∀ j,(Hf j).Dis Hs
 perm:∀ j,PermH t j (Hf j)
 tag:∀ j,j<gs.size->T.tag s j=(Hf j).gh
 clean:∀ said,¬ Race said t
 low:∀ op∈t,op.act.low w.heap.size
 above:∀ j,gs.size<=j->Deaf t j=0
 over:∀ j,gs.size<=j->noHp (Hf j)
 st:∀ j,j<gs.size->Sta T G gs t s j (Hf j) (md j) (rk j)
 out:Out w0 w
 grown:w0.heap.size<=w.heap.size
 keep:∀ b,b<w0.heap.size->(∀ o,H0 b≠some (o,true))->w.heap[b]? = w0.heap[b]?
 org:∀ j,From H0 .nil w0 (Hf j)
 orgS:From H0 .nil w0 Hs
variable  {T}
theorem Awk.other {s s':T.S}{gs:Array Goroutine}{j i:Nat}{fr:Frame}{cs:List Frame}{g g':Goroutine}{w':World}(hne:j≠i)(hb:(mayWake p g && g'.status != .blocked && g'.status != .waiting)=true∨∀ j,T.Blk s j->T.Blk s' j)
  (h:Awk T s gs j fr cs):Awk T s' ((gs.map (woken p g g' w')).setIfInBounds i g') j fr cs:=by
 unfold Awk at h ⊢
 rw[Array.getElem?_setIfInBounds_ne (Ne.symm hne),Array.getElem?_map]
 rcases h with h | ⟨h,hk⟩
 ·rw[h]
  exact .inl (by simp[Go.Conc.woken_run (show (gor fr cs).status=.running from rfl)])
 ·rw[h]
  by_cases hw:(mayWake p g && g'.status != .blocked && g'.status != .waiting)=true
  ·refine .inl ?_
   simp only[Option.map_some,woken,hw,if_true]
   rfl
  ·refine .inr ⟨?_,hb.resolve_left hw j hk⟩
   simp only[Option.map_some,woken,hw]
   rfl
theorem Sta.other {G:Frame->List Frame->Hp->Prop}{s s':T.S}{gs:Array Goroutine}{j i:Nat}{g g':Goroutine}{w':World}{t u:Trace}{H:Hp}{m:Nat}{k:Rk}(hne:j≠i)
  (hb:(mayWake p g && g'.status != .blocked && g'.status != .waiting)=true∨∀ j,T.Blk s j->T.Blk s' j) (hu:∀ op∈u,op.g=i)
  (h:Sta T G gs t s j H m k):Sta T G ((gs.map (woken p g g' w')).setIfInBounds i g') (t++u) s' j H m k:=by
 match m,h with
 | 3,⟨h0,fr,cs,h1,h2⟩=>exact⟨h0,fr,cs,h1.other hne hb,h2⟩
 | 2,⟨h0,fr,cs,h1,h2⟩=>exact⟨h0,fr,cs,h1.other hne hb,h2⟩
 | 1,⟨h0,fr,cs,h1,h2⟩=>exact⟨h0,fr,cs,h1.other hne hb,h2⟩
 | 0,⟨h0,h1,h2,x,q,h3,h4,h5⟩=>
  refine⟨h0,h1,h2,x,q,?_,?_,h5⟩
  ·rw[Array.getElem?_setIfInBounds_ne (Ne.symm hne),Array.getElem?_map,h3]
   simp[Go.Conc.woken_quitsD h4]
  ·rw[Go.Conc.Deaf_other t (Ne.symm hne) u hu]
   exact h4
theorem ZdE {α:Type}(f:Nat->α)(i:Nat)(x:α)(j:Nat):upd f i x j=if j=i then x else f j:=rfl
theorem Conf.go {G:Frame->List Frame->Hp->Prop}{n:Nat}{H0:Hp}{w0:World}{gs:Array Goroutine}{w:World}{t:Trace}{s:T.S}{Hs:Hp}{Hf:Nat->Hp}{md:Nat->Nat}{rk:Nat->Rk}
  (C:Conf T G n H0 w0 gs w t s Hs Hf md rk) {i:Nat} (hi:i<gs.size) {g g':Goroutine} {w':World} {s':T.S} {Hs' H':Hp} {u:Trace} {m:Nat} {k:Rk} (hu:∀ op∈u,op.g=i)
  (hm:Meets T i s Hs t w (Hf i) u s' Hs' w') (hg:Gets i Hs w (Hf i) (t++u) Hs' w' H') (htag:∀ j,T.tag s' j=if j=i then H'.gh else T.tag s j) (hnext:T.next s'=T.next s) (hmore:T.more s'<=T.more s)
  (hb:(mayWake p g && g'.status != .blocked && g'.status != .waiting)=true∨∀ j,T.Blk s j->T.Blk s' j)
  (hst:Sta T G ((gs.map (woken p g g' w')).setIfInBounds i g') (t++u) s' i H' m k) :
  Conf T G n H0 w0 ((gs.map (woken p g g' w')).setIfInBounds i g') w' (t++u) s' Hs' (upd Hf i H') (upd md i m) (upd rk i k):=by
 have hsz:((gs.map (woken p g g' w')).setIfInBounds i g').size=gs.size:=by simp
 have dj:∀ j,j≠i->H'.Dis (Hf j):=fun j hj=>hg.from1.dis (C.le j) (C.dis i j (Ne.symm hj)) (C.disS j).symm
 have lej:∀ j,j≠i->(Hf j).le w':=fun j hj=>stays (C.dis i j (Ne.symm hj)) (C.disS j).symm (C.le j) hm.keep
 have hfrom:∀ K,From (Hf i) Hs w K->From H0 .nil w0 K:=by
  intro K hK b x hx
  rcases hK b x hx with h | ⟨y,hy,he⟩
  ·exact .inl (Nat.le_trans C.grown h)
  ·have:w0.heap.size<=b∨∃ z,(H0 b=some z∨Hp.nil b=some z)∧(z.2=false->y=z):=hy.elim (fun h=>C.org i b y h) (fun h=>C.orgS b y h)
   refine this.imp id fun ⟨z,hz,hzy⟩=>⟨z,hz,fun hf=>?_⟩
   have:=hzy hf
   rw[<-this]at hf ⊢
   exact he hf
 refine⟨by rw[hsz,hnext];exact C.size,by rw[hsz];exact C.pos,?_,hm.inv,hm.leS,?_,?_,?_,?_,?_,?_,?_,?_,?_,?_,C.out.trans hm.out,Nat.le_trans C.grown hm.size,?_,?_,hfrom _ hm.from2⟩
 ·rw[hsz];have:=C.bound;omega
 ·intro j
  rw[ZdE]
  split
  ·exact hg.le
  ·exact lej j ‹_›
 ·intro j j' hne
  rw[ZdE,ZdE]
  split<;>split
  ·omega
  ·exact dj j' ‹_›
  ·exact(dj j ‹_›).symm
  ·exact C.dis j j' hne
 ·intro j
  rw[ZdE]
  split
  ·exact hg.dis
  ·rename_i hj
   exact(hm.from2.dis (C.le j) (C.dis i j (Ne.symm hj)) (C.disS j).symm).symm
 ·intro j
  rw[ZdE]
  split
  ·subst j;exact hg.perm
  ·rename_i hj
   intro b o pm hb q a hq hl hw
   obtain⟨x,hx,hxa⟩:=Go.Conc.touch_of hq
   rcases Go.Conc.getElem?_append_cases hx with ⟨_,hx'⟩ | ⟨_,hxu⟩
   ·exact(C.perm j b o pm hb q a (by rw[Go.Conc.touchAt_of hx'];exact hxa) hl hw).app u
   ·exfalso
    rcases hm.evs x hxu a hxa b hl with ⟨o',p',h1,h2⟩ | h1
    ·have:(o',p')=(o,pm)∧(o',p').2=false:=h1.elim (fun h=>C.dis i j (Ne.symm hj) b _ _ h hb) (fun h=>(C.disS j).symm b _ _ h hb)
     obtain⟨e1,e2⟩:=this
     simp only[Prod.mk.injEq]at e1
     obtain⟨rfl,rfl⟩:=e1
     rcases hw with h | h
     ·rw[h]at e2;simp at e2
     ·rw[h2 h]at e2;simp at e2
    ·exact absurd ((C.le j).lt hb) (by omega)
 ·intro j hj
  rw[htag,ZdE]
  split
  ·rfl
  ·exact C.tag j (by rw[hsz]at hj;exact hj)
 ·exact fun said=>Go.Conc.noRace_append (C.clean said) hu fun q a ha op hop b hb hc=>hm.norace said q a ha op hop b hb hc
 ·exact Go.Conc.seen_app (fun op hop=>MemAct.low_mono hm.size (C.low op hop)) hm.low
 ·intro j hj
  rw[hsz]at hj
  rw[Go.Conc.Deaf_other t (show i≠j by omega) u hu]
  exact C.above j hj
 ·intro j hj
  rw[hsz]at hj
  rw[ZdE,if_neg (by omega)]
  exact C.over j hj
 ·intro j hj
  rw[hsz]at hj
  by_cases hji:j=i
  ·subst hji
   rw[upd_same,upd_same,upd_same]
   exact hst
  ·rw[upd_ne _ _ hji,upd_ne _ _ hji,upd_ne _ _ hji]
   exact(C.st j hj).other hji hb hu
 ·intro b hb hn
  rw[hm.keep b (Nat.lt_of_lt_of_le hb C.grown) ?_ ?_]
  ·exact C.keep b hb hn
  ·intro o ho
   rcases C.org i b _ ho with h | ⟨z,hz,he⟩
   ·omega
   ·rcases hz with hz | hz
    ·obtain⟨zo,zp⟩:=z
     cases zp with
     | true=>exact hn zo hz
     | false=>have:=he rfl;simp at this
    ·simp[Hp.nil]at hz
  ·intro o ho
   rcases C.orgS b _ ho with h | ⟨z,hz,he⟩
   ·omega
   ·rcases hz with hz | hz
    ·obtain⟨zo,zp⟩:=z
     cases zp with
     | true=>exact hn zo hz
     | false=>have:=he rfl;simp at this
    ·simp[Hp.nil]at hz
 ·intro j
  rw[ZdE]
  split
  ·exact hfrom _ hg.from1
  ·exact C.org j
end
end Go.LL
end
section
namespace Go.LL
open Go.Conc (Knows Deaf touchAt QuitsD crowd woken)
open Go.ConcN (sumTo upd sumTo_upd upd_ne upd_same)
section
variable  {p:Program}{T:Team p}
theorem local_op {H Hs:Hp}{w:World}{n i:Nat}{fr:Frame}{es:Array Event}(hown:∀ b x,Hs b=some x->x.2=true)(hd:H.Dis Hs)(hs:Hs.le w)(he:∀ e∈es,EvL H w n e):∀ op∈Zbl i fr es,Zgl i Hs op:=by
 intro op hop
 obtain⟨e,h1,rfl⟩:=Go.Conc.mem_ofEvents hop
 refine⟨rfl,?_⟩
 have h:=he e h1
 have key:∀ b,((∃ o p,H b=some (o,p)∧(e.write=true->p=true))∨w.heap.size<=b∧b<n)->Hs b=none:=by
  rintro b (⟨o,pm,h2,_⟩ | h2)
  ·cases hh:Hs b with
   | none=>rfl
   | some x=>
    obtain⟨e1,e2⟩:=hd b _ _ h2 hh
    rw[e1,hown b x hh]at e2
    simp at e2
  ·cases hh:Hs b with
   | none=>rfl
   | some x=>exact absurd (hs.lt hh) (by omega)
 obtain⟨loc,wr,sy⟩:=e
 cases loc with
 | cell a=>
  obtain⟨rfl,h⟩:=h
  exact .inl ⟨.cell a,wr,rfl,fun b hb=>by simp[Loc.blk]at hb;subst hb;exact key _ h⟩
 | obj r=>
  obtain⟨rfl,h⟩:=h
  exact .inl ⟨.obj r,wr,by cases wr<;>rfl,fun b hb=>by simp[Loc.blk]at hb;subst hb;exact key _ h⟩
 | mark m=>
  cases m<;>simp only[EvL]at h<;>first | exact .inr (.inl ⟨_,rfl⟩) | exact .inr (.inr rfl)
 | _=>simp only[EvL]at h
theorem ZjN {e:Event}{H:Hp}{w:World}{n:Nat}(he:EvL H w n e){x:Touch}(hx:(MemAct.ofEvent e).touch? = some x){b:Nat}(hb:x.loc.blk=some b) :
  ((∃ o p,H b=some (o,p)∧(x.write=true->p=true))∨w.heap.size<=b∧b<n):=by
 obtain⟨loc,wr,sy⟩:=e
 cases loc with
 | cell a=>
  obtain⟨rfl,h⟩:=he
  simp[MemAct.ofEvent,MemAct.touch?]at hx
  subst hx
  simp[Loc.blk]at hb
  subst hb
  exact h
 | obj r=>
  obtain⟨rfl,h⟩:=he
  cases wr<;>(simp[MemAct.ofEvent,MemAct.touch?]at hx;subst hx;simp[Loc.blk]at hb;subst hb;exact h)
 | mark m=>
  cases m<;>simp only[EvL]at he<;>simp[MemAct.ofEvent,MemAct.touch?]at hx
 | _=>simp only[EvL]at he
theorem Zmh {l:Loc}(h:l.isMemory):∃ b,l.blk=some b:=by
 cases l<;>simp[Loc.isMemory,Loc.blk]at *
theorem ZeL {op:MemOp}{x:Touch}(hx:op.act.touch? = some x){b n:Nat}(hb:x.loc.blk=some b)(h:op.act.low n):b<n:=by
 obtain⟨g,fn,pos,act⟩:=op
 cases act with
 | access e=>
  simp[MemAct.touch?]at hx
  subst hx
  obtain⟨loc,wr,sy⟩:=e
  cases loc<;>simp[Loc.blk]at hb<;>subst hb<;>exact h
 | mark m=>cases m<;>simp[MemAct.touch?]at hx<;>subst hx<;>simp[Loc.blk]at hb<;>subst hb<;>exact h
 | _=>simp[MemAct.touch?]at hx
theorem Zf4 {i:Nat}{s:T.S}{H H' Hs:Hp}{t:Trace}{w w':World}{fr:Frame}{es:Array Event}(hT:T.Sound)(ha:Ahead T i H s Hs t w)(hact:T.act H.gh∨es=#[])(f:Fr H w H' w')(he:∀ e∈es,EvL H w w'.heap.size e) :
  Meets T i s Hs t w H (Zbl i fr es) s Hs w'∧Gets i Hs w H (t++Zbl i fr es) Hs w' H':=by
 have hown:=hT.own ha.inv
 have htouch:∀ op∈Zbl i fr es,∀ x,op.act.touch? = some x->∀ b,x.loc.blk=some b->((∃ o p,H b=some (o,p)∧(x.write=true->p=true))∨w.heap.size<=b∧b<w'.heap.size):=by
  intro op hop x hx b hb
  obtain⟨e,h1,rfl⟩:=Go.Conc.mem_ofEvents hop
  exact ZjN (he e h1) hx hb
 have hkeep:∀ b,b<w.heap.size->(∀ o,H b≠some (o,true))->w'.heap[b]? = w.heap[b]?:=f.keep
 have hfrom0:From H .nil w H':=by
  intro b x hx
  cases hh:H b with
  | none=>exact .inl (f.new b hh (by rw[hx];simp))
  | some y=>
   refine .inr ⟨y,.inl rfl,fun hy=>?_⟩
   obtain⟨yo,yp⟩:=y
   obtain rfl:yp=false:=hy
   have:=f.ro b yo hh
   rw[this]at hx
   exact(Option.some.inj hx).symm
 have hfrom:From H Hs w H':=fun b x hx=>(hfrom0 b x hx).imp id fun ⟨y,hy,he⟩=>⟨y,.inl (hy.resolve_right (by simp[Hp.nil])),he⟩
 have hle:Hs.le w':=by
  intro b o pm hb
  rw[hkeep b (ha.leS.lt hb) fun o' ho'=>?_]
  ·exact ha.leS b o pm hb
  ·simpa using (ha.dis b _ _ ho' hb).2
 have hloc:=local_op (i:=i) (fr:=fr) hown ha.dis ha.leS he
 refine⟨⟨f.size,fun b hb h1 _=>hkeep b hb h1,hle,fun b x hx=>.inr ⟨x,.inr hx,fun _=>rfl⟩,⟨by rw[f.os];exact .refl _,f.tape,f.out⟩,?_,?_,?_,?_⟩,⟨f.le,?_,hfrom,?_⟩⟩
 ·exact fun op hop x hx b hb=>(htouch op hop x hx b hb).imp (fun ⟨o,p,h1,h2⟩=>⟨o,p,.inl h1,h2⟩) And.left
 ·intro said q a hq op hop x hx hc
  obtain⟨b,hb⟩:=Zmh hc.2.1
  have hb':x.loc.blk=some b:=by rw[<-hc.1];exact hb
  rcases htouch op hop x hx b hb' with ⟨o,pm,h1,h2⟩ | ⟨h1,_⟩
  ·refine ha.perm b o pm h1 q a hq hb ?_
   rcases hc.2.2.1 with h | h
   ·exact .inr h
   ·exact .inl (h2 h)
  ·exfalso
   obtain⟨y,hy,hya⟩:=Go.Conc.touch_of hq
   exact absurd (ZeL hya hb (ha.low y (Go.Conc.mem_of_getElem? hy))) (by omega)
 ·intro op hop
  obtain⟨e,h1,rfl⟩:=Go.Conc.mem_ofEvents hop
  have h:=he e h1
  obtain⟨loc,wr,sy⟩:=e
  have hlt:∀ b,((∃ o p,H b=some (o,p)∧(wr=true->p=true))∨w.heap.size<=b∧b<w'.heap.size)->b<w'.heap.size:=by
   rintro b (⟨o,pm,h2,_⟩ | h2)
   ·exact Nat.lt_of_lt_of_le (ha.le.lt h2) f.size
   ·exact h2.2
  cases loc with
  | cell a=>
   obtain⟨rfl,h⟩:=h
   exact hlt _ h
  | obj r=>
   obtain⟨rfl,h⟩:=h
   cases wr<;>exact hlt _ h
  | mark m=>
   cases m<;>simp only[EvL]at h<;>trivial
  | _=>simp only[EvL]at h
 ·rcases hact with hact | rfl
  ·exact hT.stable ha.inv ha.lt (by rw[ha.tag];exact hact) hloc
  ·have:Zbl i fr #[]=#[]:=by simp[Zbl,Go.Conc.ofEvents_eq]
   rw[this,Array.append_empty]
   exact ha.inv
 ·exact hfrom0.dis ha.leS ha.dis (fun b x y h1 _=>by simp[Hp.nil]at h1)
 ·intro b o pm hb q a hq hl hw
  obtain⟨x,hx,hxa⟩:=Go.Conc.touch_of hq
  rcases Go.Conc.getElem?_append_cases hx with ⟨_,hx'⟩ | ⟨_,hxu⟩
  ·refine Knows.app _ ?_
   have hq':touchAt t q=some a:=by rw[Go.Conc.touchAt_of hx'];exact hxa
   rcases hfrom0 b _ hb with h | ⟨⟨yo,yp⟩,hy,he⟩
   ·exact absurd (ZeL hxa hl (ha.low x (Go.Conc.mem_of_getElem? hx'))) (by omega)
   ·refine ha.perm b yo yp (hy.resolve_right (by simp[Hp.nil])) q a hq' hl (hw.imp (fun hp=>?_) id)
    cases yp with
    | true=>rfl
    | false=>have:=he rfl;simp at this;rw[hp]at this;simp at this
  ·have:=Go.Conc.knows_own hx
   rwa [ZbR x hxu]at this
theorem Conf.at {G:Frame->List Frame->Hp->Prop}{n:Nat}{H0:Hp}{w0:World}{gs:Array Goroutine}{w:World}{t:Trace}{s:T.S}{Hs:Hp}{Hf:Nat->Hp}{md:Nat->Nat}{rk:Nat->Rk}
  (C:Conf T G n H0 w0 gs w t s Hs Hf md rk) (d:Nat):Conf T G n H0 w0 gs (w.at d) t s Hs Hf md rk:=
 ⟨C.size,C.pos,C.bound,C.inv,C.leS,C.le,C.dis,C.disS,C.perm,C.tag,C.clean,C.low,C.above,C.over,C.st,⟨C.out.os,C.out.tape,C.out.out⟩,C.grown,C.keep,C.org,C.orgS⟩
theorem Conf.ahead {G:Frame->List Frame->Hp->Prop}{n:Nat}{H0:Hp}{w0:World}{gs:Array Goroutine}{w:World}{t:Trace}{s:T.S}{Hs:Hp}{Hf:Nat->Hp}{md:Nat->Nat}{rk:Nat->Rk}
  (C:Conf T G n H0 w0 gs w t s Hs Hf md rk) {i:Nat} (hi:i<gs.size):Ahead T i (Hf i) s Hs t w:=
 ⟨C.inv,C.tag i hi,by rw[<-C.size];exact hi,C.le i,C.leS,C.disS i,C.perm i,C.low,fun j hj=>C.above j (by rw[C.size];exact hj)⟩
def runs (gs:Array Goroutine)(j:Nat):Nat:=if (gs[j]?).any (·.status == .running) then 1 else 0
theorem ZdW {α:Type}(f:Nat->α)(i:Nat):upd f i (f i)=f:=by
 funext j
 rw[ZdE]
 split
 ·subst j;rfl
 ·rfl
theorem pi_lt {n i:Nat}(hi:i<n){rk:Nat->Rk}{k:Rk}(h:Rk.lt k (rk i)):PiLt n (upd rk i k) rk:=⟨i,hi,by rw[upd_same];exact h,fun j hj=>upd_ne _ _ hj⟩
theorem sum_lt {n i:Nat}(hi:i<n){md:Nat->Nat}{m:Nat}(h:m<md i):sumTo n (upd md i m)<sumTo n md:=by
 have:sumTo n (upd md i m)+md i=sumTo n md+m:=sumTo_upd md m id hi
 omega
theorem Awk.status {s:T.S}{gs:Array Goroutine}{j:Nat}{fr:Frame}{cs:List Frame}(h:Awk T s gs j fr cs){g:Goroutine}(hg:gs[j]? = some g):g.status=.running∨g.status=.blocked:=by
 rcases h with h | ⟨h,_⟩<;>(rw[hg]at h;obtain rfl:=Option.some.inj h)
 ·exact .inl rfl
 ·exact .inr rfl
theorem Awk.runs {s:T.S}{gs:Array Goroutine}{j:Nat}{fr:Frame}{cs:List Frame}(h:Awk T s gs j fr cs){g:Goroutine}(hg:gs[j]? = some g)(hr:g.status=.running):g=gor fr cs:=by
 rcases h with h | ⟨h,_⟩<;>(rw[hg]at h;obtain rfl:=Option.some.inj h)
 ·rfl
 ·simp at hr
theorem Conf.stuck {G:Frame->List Frame->Hp->Prop}{n:Nat}{H0:Hp}{w0:World}{gs:Array Goroutine}{w:World}{t:Trace}{s:T.S}{Hs:Hp}{Hf:Nat->Hp}{md:Nat->Nat}{rk:Nat->Rk}
  (hT:T.Sound) (C:Conf T G n H0 w0 gs w t s Hs Hf md rk):∃ (i:Nat) (g:Goroutine),gs[i]? = some g∧g.status=.running:=by
 refine Classical.byContradiction fun hno=>?_
 refine hT.live C.inv fun j hj hl=>?_
 have hj':j<gs.size:=by rw[C.size];exact hj
 have aw:∀ fr cs,Awk T s gs j fr cs->T.Blk s j:=by
  rintro fr cs (h | ⟨_,h⟩)
  ·exact absurd ⟨j,_,h,rfl⟩ hno
  ·exact h
 have h:=C.st j hj'
 revert h
 generalize md j=m
 generalize rk j=k
 intro h
 match m,h with
 | 3,⟨_,fr,cs,h,_⟩=>exact aw fr cs h
 | 2,⟨_,fr,cs,h,_⟩=>exact aw fr cs h
 | 1,⟨_,fr,cs,h,_⟩=>exact aw fr cs h
 | 0,⟨_,h,_⟩=>exact absurd ((C.tag j hj').trans h) hl
theorem Conf.awake {G:Frame->List Frame->Hp->Prop}{n:Nat}{H0:Hp}{w0:World}{gs:Array Goroutine}{w:World}{t:Trace}{s:T.S}{Hs:Hp}{Hf:Nat->Hp}{md:Nat->Nat}{rk:Nat->Rk}
  (C:Conf T G n H0 w0 gs w t s Hs Hf md rk):∀ g∈gs,Go.Conc.awake g:=by
 intro g hg
 obtain⟨j,hj,rfl⟩:=Array.mem_iff_getElem.1 hg
 have hgj:gs[j]? = some gs[j]:=Array.getElem?_eq_getElem hj
 have h:=C.st j hj
 revert h
 generalize md j=m
 generalize rk j=k
 intro h
 refine Go.Conc.awake_of ?_
 match m,h with
 | 3,⟨_,fr,cs,h,_⟩=>exact(h.status hgj).imp id .inl
 | 2,⟨_,fr,cs,h,_⟩=>exact(h.status hgj).imp id .inl
 | 1,⟨_,fr,cs,h,_⟩=>exact(h.status hgj).imp id .inl
 | 0,⟨_,_,_,g,q,h,hq,_⟩=>
  rw[hgj]at h
  obtain rfl:=Option.some.inj h
  exact hq.status.imp id .inr
end
end Go.LL
end
