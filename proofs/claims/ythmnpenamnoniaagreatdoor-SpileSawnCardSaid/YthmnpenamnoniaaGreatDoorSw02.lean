import Derived.Test.YthmnpenamnoniaaGreatDoorSw01
set_option linter.all false
section
open Go Go.LL Go.Conc Go.ConcM
namespace Go.Proofs.YthmnpenamnoniaaGreatDoor
theorem WaF:Tryz.pinned.checked.prog.funcNamed Rows.spileSawnRow.func=some 4:=by kernel_rfl
theorem WaE:joinedFacts Tryz.pinned.checked.prog 4 Tryz.f4 Rows.spileSawnSpec Rows.spileSawnRow=true:=by kernel_rfl
theorem WaD:Tryz.f4.isInstance Tryz.pinned.checked.prog Rows.spileSawnRow.origin Rows.spileSawnRow.targs:=of_decide_eq_true (by kernel_rfl)
theorem WaC:Tryz.f4.isWrapper Tryz.pinned.checked.prog Rows.spileSawnRow.wrapper Rows.spileSawnRow.mainSum:=by unfold Func.isWrapper;first | (rw[if_pos (by decide +kernel)];kernel_rfl) | (rw[if_neg (by decide +kernel)];exact⟨rfl,rfl⟩)
end Go.Proofs.YthmnpenamnoniaaGreatDoor
end
section
open Go Go.LL
namespace Go.Proofs
end Go.Proofs
end
section
open Go Go.LL
namespace Go.Proofs
theorem WaS:∀ (l:List Int) (f:Int),(Zbq gtB f l=f∨Zbq gtB f l∈l)∧f<=Zbq gtB f l∧∀ x∈l,x<=Zbq gtB f l
 | [],f=>⟨.inl rfl,Int.le_refl _,by simp⟩
 | x :: l,f=>by
  have e:Zbq gtB f (x :: l)=Zbq gtB (if gtB x f then x else f) l:=rfl
  rw[e]
  by_cases hx:gtB x f=true
  ·rw[if_pos hx]
   obtain⟨h1,h2,h3⟩:=WaS l x
   have hx':f<x:=of_decide_eq_true hx
   refine⟨.inr (List.mem_cons.2 h1),by omega,fun y hy=>?_⟩
   rcases List.mem_cons.1 hy with rfl | hy
   ·exact h2
   ·exact h3 y hy
  ·rw[if_neg hx]
   obtain⟨h1,h2,h3⟩:=WaS l f
   have hx':¬ f<x:=fun h=>hx (decide_eq_true h)
   refine⟨h1.imp id (List.mem_cons_of_mem _),h2,fun y hy=>?_⟩
   rcases List.mem_cons.1 hy with rfl | hy
   ·omega
   ·exact h3 y hy
theorem WaR:∀ (l:List Int) (f:Int),(Zbq ltB f l=f∨Zbq ltB f l∈l)∧Zbq ltB f l<=f∧∀ x∈l,Zbq ltB f l<=x
 | [],f=>⟨.inl rfl,Int.le_refl _,by simp⟩
 | x :: l,f=>by
  have e:Zbq ltB f (x :: l)=Zbq ltB (if ltB x f then x else f) l:=rfl
  rw[e]
  by_cases hx:ltB x f=true
  ·rw[if_pos hx]
   obtain⟨h1,h2,h3⟩:=WaR l x
   have hx':x<f:=of_decide_eq_true hx
   refine⟨.inr (List.mem_cons.2 h1),by omega,fun y hy=>?_⟩
   rcases List.mem_cons.1 hy with rfl | hy
   ·exact h2
   ·exact h3 y hy
  ·rw[if_neg hx]
   obtain⟨h1,h2,h3⟩:=WaR l f
   have hx':¬ x<f:=fun h=>hx (decide_eq_true h)
   refine⟨h1.imp id (List.mem_cons_of_mem _),h2,fun y hy=>?_⟩
   rcases List.mem_cons.1 hy with rfl | hy
   ·omega
   ·exact h3 y hy
theorem max_of {L:List Int}(h:L≠[]):Zbq gtB (L.getD 0 0) (L.drop 1)∈L∧∀ x∈L,x<=Zbq gtB (L.getD 0 0) (L.drop 1):=by
 cases L with
 | nil=>exact absurd rfl h
 | cons a l=>
  obtain⟨h1,h2,h3⟩:=WaS l a
  refine⟨List.mem_cons.2 h1,fun y hy=>?_⟩
  rcases List.mem_cons.1 hy with rfl | hy
  ·exact h2
  ·exact h3 y hy
theorem min_of {L:List Int}(h:L≠[]):Zbq ltB (L.getD 0 0) (L.drop 1)∈L∧∀ x∈L,Zbq ltB (L.getD 0 0) (L.drop 1)<=x:=by
 cases L with
 | nil=>exact absurd rfl h
 | cons a l=>
  obtain⟨h1,h2,h3⟩:=WaR l a
  refine⟨List.mem_cons.2 h1,fun y hy=>?_⟩
  rcases List.mem_cons.1 hy with rfl | hy
  ·exact h2
  ·exact h3 y hy
theorem ckS_of {n:Nat}:∀ {l:List SCk},(∀ c∈l,(0<=c.p∧c.p<n)∧(-199<=c.gl∧c.gl<=c.gh∧c.gh<=199))->ckS n l=0
 | [],_=>rfl
 | c :: l,h=>by
  have h1:=h c (List.mem_cons_self ..)
  rw[ckS,if_neg (by omega),if_neg (by omega)]
  exact ckS_of fun d hd=>h d (List.mem_cons_of_mem _ hd)
theorem snag_of {b:Bk}(v:Zen b):snag b=0:=by
 have h1:Zbj b=0:=by rw[Zbj,if_pos ⟨v.op,v.sl⟩]
 have h2:Zbk b=0:=by
  rw[Zbk,if_neg (by have:=v.n;omega),if_pos]
  rw[List.all_eq_true]
  intro p hp
  obtain⟨i,hi,rfl⟩:=List.mem_iff_getElem.1 hp
  obtain⟨a1,a2,a3,a4⟩:=v.pts i hi
  simp only[okP,Bool.and_eq_true,decide_eq_true_eq]
  exact⟨⟨⟨a1,a2⟩,a3⟩,a4⟩
 have h3:ckS b.pts.length b.cks=0:=ckS_of v.cks
 rw[snag,if_neg (by simp[h1]),if_neg (by simp[h2]),ZbJ,if_neg (by have:=v.ckn;omega),h3]
theorem open_eq {b:Bk}(v:Zen b):Zah b true=if 0<(Zae b).length then 0 else 9:=by
 rw[Zah,if_neg (by simp[snag_of v]),if_neg (by simp)]
 by_cases h:0<(Zae b).length
 ·rw[if_neg (by omega),if_pos h]
 ·rw[if_pos (by omega),if_neg h]
end Go.Proofs
end
section
open Go Go.LL
namespace Go.Proofs
end Go.Proofs
end
section
open Go Go.LL
namespace Go.Proofs
theorem WaH {b:Bk}{z:Int}:z∈Zgs b↔∃ x∈Zae b,lowF b (Zas b x)=z:=List.mem_map
theorem Waq {b:Bk}{z:Int}:z∈ZdF b↔∃ x∈Zae b,Zfb b (Zas b x)=z:=List.mem_map
theorem Wbc {b:Bk}(h:0<(Zae b).length):(∀ x∈Zae b,lowF b (Zas b x)<=sLow b)∧∃ x∈Zae b,lowF b (Zas b x)=sLow b:=by
 have hne:Zgs b≠[]:=by
  intro e
  have:(Zgs b).length=(Zae b).length:=List.length_map _
  rw[e]at this;simp at this;omega
 obtain⟨h1,h2⟩:=max_of hne
 exact⟨fun x hx=>h2 _ (WaH.2 ⟨x,hx,rfl⟩),WaH.1 h1⟩
theorem Wa2 {b:Bk}(h:0<(Zae b).length):(∀ x∈Zae b,sHigh b<=Zfb b (Zas b x))∧∃ x∈Zae b,Zfb b (Zas b x)=sHigh b:=by
 have hne:ZdF b≠[]:=by
  intro e
  have:(ZdF b).length=(Zae b).length:=List.length_map _
  rw[e]at this;simp at this;omega
 obtain⟨h1,h2⟩:=min_of hne
 exact⟨fun x hx=>h2 _ (Waq.2 ⟨x,hx,rfl⟩),Waq.1 h1⟩
structure Wider (b o:Bk):Prop where
 op:o.op=b.op
 sl:o.sl=b.sl
 cks:o.cks=b.cks
 n:o.pts.length=b.pts.length
 ml:∀ i,i<b.pts.length->(ptAt o i).ml=(ptAt b i).ml∧(ptAt o i).mh=(ptAt b i).mh
 w:∀ i,i<b.pts.length->(ptAt o i).w=(ptAt b i).w
 b:∀ i,i<b.pts.length->(ptAt o i).bl<=(ptAt b i).bl∧(ptAt b i).bh<=(ptAt o i).bh
structure Learn (b o:Bk):Prop where
 op:o.op=b.op
 n:o.pts.length=b.pts.length
 bd:∀ i,i<b.pts.length->(ptAt o i).bl=(ptAt b i).bl∧(ptAt o i).bh=(ptAt b i).bh∧(ptAt o i).w=(ptAt b i).w
 sub:∀ x∈Zae o,x∈Zae b
theorem Learn.pos {b o:Bk}(h:Learn b o)(h0:0<(Zae o).length):0<(Zae b).length:=by
 obtain⟨x,hx⟩:=List.exists_mem_of_length_pos h0
 exact List.length_pos_of_mem (h.sub x hx)
end Go.Proofs
end
section
open Go Go.LL
namespace Go.Proofs
end Go.Proofs
end
section
open Go Go.LL
namespace Go.Proofs
end Go.Proofs
end
section
open Go Go.LL
namespace Go.Proofs
def nB (b:Bk):Nat:=(Zae b).length
def oS (b:Bk):Int:=if 0<nB b then 0 else 9
theorem Wbi {b:Bk}(v:Zen b):Zah b true=oS b:=open_eq v
theorem WaI {b:Bk}(h:0<nB b):oS b=0:=if_pos h
theorem Wbh {b:Bk}(h:¬ 0<nB b):oS b=9:=if_neg h
def hadF (b:Bk):Int:=if 0<nB b then Zhp ((Zae b).filter (ZgA b)).length (nB b) else 0
def sureB (b:Bk):Bool:=decide (0<nB b∧sLow b<=sHigh b)
def sureS (b:Bk):Int:=if 0<nB b∧sLow b<=sHigh b then sLow b else 0
section
variable  {P:Prg}[Tz P][Loud P]{H:Hp}{bv:Value}{b:Bk}
theorem Had_v (v:Zen b)(hb:BkAt H bv b)(hg:Zbh H):LL.Zag P 16 #[bv] H fun u H'=>Inc H H'∧u=.tuple #[vi (hadF b),vi (oS b)]:=
 LL.Zag.mono (Had_ok hb hg (by have:=v.n;omega) (by have:=v.ckn;omega)) fun u H' h=>⟨h.1,by
  rw[h.2,Wbi v]
  have:(if oS b=0 then Zhp ((Zae b).filter (ZgA b)).length (Zae b).length else 0)=hadF b:=by
   unfold hadF
   by_cases h0:0<nB b
   ·rw[if_pos (WaI h0),if_pos h0];rfl
   ·rw[if_neg (by rw[Wbh h0];decide),if_neg h0]
  rw[this]⟩
theorem Surely_v (v:Zen b)(hb:BkAt H bv b)(hg:Zbh H):LL.Zag P 18 #[bv] H fun u H'=>Inc H H'∧u=.tuple #[vi (sureS b),vb (sureB b),vi (oS b)]:=
 LL.Zag.mono (ZmX hb hg (by have:=v.n;omega) (by have:=v.ckn;omega)) fun u H' h=>⟨h.1,by
  rw[h.2,ZfG,Wbi v,sureS,sureB]
  by_cases h0:0<nB b
  ·rw[if_pos (WaI h0)]
   by_cases h1:sLow b<=sHigh b
   ·rw[if_neg (by omega),if_pos ⟨h0,h1⟩,decide_eq_true (show 0<nB b∧sLow b<=sHigh b from ⟨h0,h1⟩),WaI h0]
   ·rw[if_pos (by omega),if_neg (fun e=>h1 e.2),decide_eq_false (fun e=>h1 e.2),WaI h0]
  ·rw[if_neg (by rw[Wbh h0];decide),if_neg (fun e=>h0 e.1),decide_eq_false (fun e=>h0 e.1)]⟩
end
theorem Wba {a m:Int}(h:0<=a)(hm:0<m):0<=a.tmod m∧a.tmod m<m:=⟨Int.tmod_nonneg _ h,Int.tmod_lt_of_pos _ hm⟩
structure BrN (p q n m i few many all:Int)(su st:Bool):Prop where
 p3:p=0∨p=1∨p=2
 a1:p=1->q=1
 a2:p≠2->q≠2
 a3:su=true->st=true∧m<=n
 a4:few<=many
 a5:many<=all
 a6:su=true->few=all∧i=n∧p=1
 a7:su=false->few<all
 a8:few=0↔p=2
theorem tmod_nat {m:Int}{n:Nat}(h:0<=m)(hn:0<n):∃ i:Nat,i<n∧m.tmod n=i:=by
 have:=Wba (m:=(n:Int)) h (by omega)
 exact⟨(m.tmod n).toNat,by omega,by omega⟩
structure Spn where
 (lo hi:Int)
instance:Enc Spn:=⟨2,fun p=>[vi p.lo,vi p.hi],fun _=>rfl⟩
def h7 (f:Nat->Int):List Value:=[vi (f 0),vi (f 1),vi (f 2),vi (f 3),vi (f 4),vi (f 5),vi (f 6)]
def byt (s:ByteArray)(i:Nat):Int:=((s.data.toList.getD i 0).toNat:Int)
structure U8 where
 v:Int
 lo:0<=v
 hi:v<256
instance:Enc U8:=⟨1,fun u=>[.int .u8 u.v],fun _=>rfl⟩
theorem u9s:Tryz.prog.underlying 9=some .string:=by kernel_rfl
theorem u300:Tryz.prog.underlying 300=some (.slice 5):=by kernel_rfl
theorem u5u:Tryz.prog.underlying 5=some (.int .u8):=by kernel_rfl
section
variable  {P:Prg}[Tz P]{H:Hp}{d:Option Nat}{next:NSt->Hp->Prop}{σ:NSt}{x y:Operand}{ty t2:TypeId}{s u:ByteArray}
theorem Wab (e:σ.get x=some (.string s))(h:next (σ.set d (vi s.size)) H):(NOp.raw (.call { callee:=.builtin .len,args:=#[x],argTypes:=#[9] }) ty).m P d next σ H:=by
 refine Zbe (s:=Builtin.len_ #[9] ty #[.string s]) (by simp[Op.operands,Call.operands,e]) (by simp[execOp,bare,resolve,invoke,builtin,e]) ?_
 simp only[Builtin.len_,List.getElem?_toArray,List.getElem?_cons_zero,Zaa,Zad (und (P:=P) u9s),Zac,goInt]
 exact h
theorem Waj (e1:σ.get x=some (.string s))(e2:σ.get y=some (.string u))(h:next (σ.set d (vb (s.toList == u.toList))) H):(NOp.pur (.binOp .eql 9 x y t2) ty).m P d next σ H:=by
 refine Zb9 (by simp[Op.operands,e1,e2]) ?_ h
 have:execOp (fun x=>(σ.get x).getD undef) (bare (.binOp .eql 9 x y t2) ty)=(do let v <-(do eqGuard .eql 9 x y (.string s) (.string u);binOp .eql 9 (.string s) (.string u));pure (.value v)):=by simp[execOp,bare,e1,e2]
 rw[this]
 refine Zgw fun Q g H hq=>?_
 simp only[eqGuard,Zaa,Zac]
 exact hq
theorem Wau {k:IntKind}{i:Nat}(e1:σ.get x=some (.string s))(e2:σ.get y=some (.int k (i:Int)))(hi:i<s.size)(h:next (σ.set d (.int .u8 (byt s i))) H):(NOp.raw (.index 9 x y) ty).m P d next σ H:=by
 refine Zbe (s:=Instr.index 9 (.string s) (.int k (i:Int))) (by simp[Op.operands,e1,e2]) (by simp[execOp,bare,e1,e2]) ?_
 have e:s[(i:Int).toNat]? = some (s[i]):=by rw[Int.toNat_natCast];exact getElem?_pos s i hi
 have eb:byt s i=(s[i].toNat:Int):=by
  unfold byt
  rw[Zbc (by simpa using hi)]
  rfl
 simp only[Instr.index,asIntOf,Zaa,Zad (und (P:=P) u9s),Zac,if_pos (show (0:Int)<=(i:Int) by omega),e]
 rw[<-eb]
 exact h
theorem om_s2b (e:σ.get x=some (.string s))(hst:P.still H.gh=false)(h:∀ v H' (l:List U8),H.Sub H'->SlAt H' v l->l.length=s.size->(∀ i (hi:i<l.length),l[i].v=byt s i)->next (σ.set d v) H'):(NOp.raw (.convert 9 300 x) ty).m P d next σ H:=by
 refine Zbe (s:=convert 9 300 (.string s)) (by simp[Op.operands,e]) (by simp[execOp,bare,e]) ?_
 simp only[convert,Zaa,Zad (und (P:=P) u9s),Zad (und (P:=P) u300),Zad (und (P:=P) u5u),Conv.stringToBytes,choose]
 rw[wpL]
 simp only[Question.forced,Bool.false_eq_true,if_false]
 refine⟨hst,fun t=>?_⟩
 have hcut:s.size<=(Question.appendCap s.size 0 5).cut t:=by simp only[Question.cut];omega
 generalize (Question.appendCap s.size 0 5).cut t=cap at hcut
 simp only[newRow,newObj,Zaa,Zac]
 refine⟨hst,fun r hr=>?_⟩
 let l:List U8:=s.data.toList.map fun b=>⟨(b.toNat:Int),by omega,by have:=b.toNat_lt;omega⟩
 have hlen:l.length=s.size:=by simp[l]
 have henc:encs l=s.data.toList.map fun b=>Value.int .u8 (b.toNat:Int):=by
  simp only[encs,l,List.flatMap_map]
  show s.data.toList.flatMap (fun b=>[Value.int .u8 (b.toNat:Int)])=_
  induction s.data.toList with
  | nil=>rfl
  | cons b m ih=>rw[List.flatMap_cons,ih];rfl
 have hcs:∀ o',CellsAt (H.ins r (.cells ((s.data.map fun b=>Value.int .u8 (b.toNat:Int))++Array.replicate (cap-s.size) (.int .u8 0)) 5 o')) ⟨r,0,none⟩ (encs l):=by
  intro o'
  refine⟨rfl,_,_,Hp.ins_same _ _ _,fun j hj=>?_⟩
  rw[henc]at hj ⊢
  rw[List.length_map]at hj
  show ((s.data.map fun b=>Value.int .u8 (b.toNat:Int))++Array.replicate (cap-s.size) (.int .u8 0))[0+j]? = _
  rw[Nat.zero_add,Array.getElem?_append_left (by simpa using hj),Array.getElem?_map,List.getElem?_map]
  simp
 have fin:∀ o',next (σ.set d (.slice (some ⟨r,0,none⟩) s.size cap)) (H.ins r (.cells ((s.data.map fun b=>Value.int .u8 (b.toNat:Int))++Array.replicate (cap-s.size) (.int .u8 0)) 5 o')):=by
  intro o'
  refine h _ _ l (ZaL hr) ⟨_,cap,by rw[hlen],fun _=>⟨_,rfl,hcs o'⟩⟩ hlen fun i hi=>?_
  have hi':i<s.data.toList.length:=by simpa[l]using hi
  unfold byt
  rw[Zbc hi']
  simp[l]
 unfold markStringish shape freeze
 simp only[Zaa]
 refine⟨_,_,⟨hst,Hp.ins_same _ _ _⟩,?_⟩
 simp only[Obj.shapeOf,Zac]
 refine .inr ⟨_,⟨hst,Hp.ins_same _ _ _⟩,by decide,?_⟩
 rw[Zbb]
 exact fin _
end
structure LeN (p q c d a e:Int)(su st:Bool):Prop where
 a1:p=0∨p=q
 a2:c=0∨c=d
 a3:su=true->st=true∧e<=a
structure MPc where
 (nm:ByteArray) (lo hi br:Int)
structure MBd where
 (nm:ByteArray) (lg:Int) (A:Option Addr) (kn:List Spn) (c:Nat)
structure MTp where
 (A:Option Addr) (pl:List Int) (c:Nat) (lo hi:Int)
instance:Enc MPc:=⟨4,fun p=>[.string p.nm,vi p.lo,vi p.hi,vi p.br],fun _=>rfl⟩
instance:Enc MBd:=⟨3,fun p=>[.string p.nm,vi p.lg,.slice p.A p.kn.length p.c],fun _=>rfl⟩
instance:Enc MTp:=⟨3,fun p=>[.slice p.A p.pl.length p.c,vi p.lo,vi p.hi],fun _=>rfl⟩
structure MBk where
 (saw:Int) (pc:List MPc) (bd:List MBd) (tp:List MTp) (A1:Option Addr) (c1:Nat) (A2:Option Addr) (c2:Nat) (A3:Option Addr) (c3:Nat)
def MBk.v (m:MBk):Value:=.agg #[vi m.saw,.slice m.A1 m.pc.length m.c1,.slice m.A2 m.bd.length m.c2,.slice m.A3 m.tp.length m.c3]
structure MbAt (H:Hp)(m:MBk):Prop where
 pc:SlAt H (.slice m.A1 m.pc.length m.c1) m.pc
 bd:SlAt H (.slice m.A2 m.bd.length m.c2) m.bd
 tp:SlAt H (.slice m.A3 m.tp.length m.c3) m.tp
 kn:∀ x∈m.bd,SlAt H (.slice x.A x.kn.length x.c) x.kn
 pl:∀ x∈m.tp,SlAt H (.slice x.A x.pl.length x.c) x.pl
 q1:m.pc.length<=m.c1
 q2:m.bd.length<=m.c2
def dig (n:Int):Bool:=decide (48<=n∧n<=57)
def WaM (s:ByteArray):Prop:=1<=s.size∧s.size<=10∧dig (byt s 0)=false∧∀ i,i<s.size->dig (byt s i)=true∨(97<=byt s i∧byt s i<=122)
structure PcOk (l:List MPc)(i:Nat)(hi:i<l.length):Prop where
 nm:WaM l[i].nm
 un:∀ k (hk:k<i),(l[k].nm.toList == l[i].nm.toList)=false
 rg:1<=l[i].lo∧l[i].lo<=l[i].hi∧l[i].hi<=40
 wd:l[i].hi-l[i].lo<3
 br:0<=l[i].br∧l[i].br<=2
structure BdOk (l:List MBd)(x:MBd):Prop where
 nm:WaM x.nm
 un:∀ k (hk:k<l.length),(l[k].nm.toList == x.nm.toList)=false
 lg:1<=x.lg∧x.lg<=40
 kl:x.kn.length<=3
 kn:∀ j (hj:j<x.kn.length),0<=x.kn[j].lo∧x.kn[j].lo<=x.kn[j].hi∧x.kn[j].hi<=x.lg-1
 up:∀ j (hj:j+1<x.kn.length),x.kn[j].hi<x.kn[j+1].lo
structure TpOk (n:Nat)(t:MTp):Prop where
 ne:t.pl≠[]
 rg:∀ j (hj:j<t.pl.length),0<=t.pl[j]∧t.pl[j]<=(n:Int)-1
 up:∀ j (hj:j+1<t.pl.length),t.pl[j]<t.pl[j+1]
 sm:0<=t.lo∧t.lo<=t.hi∧t.hi<=120
structure MOk (m:MBk):Prop where
 saw:0<=m.saw∧m.saw<=3
 n1:1<=m.pc.length∧m.pc.length<=3
 pc:∀ i (hi:i<m.pc.length),PcOk m.pc i hi
 n2:m.bd.length<=3
 bd:∀ i (hi:i<m.bd.length),BdOk (m.bd.take i) m.bd[i]
 n3:m.tp.length<=4
 tp:∀ i (hi:i<m.tp.length),TpOk m.pc.length m.tp[i]
section
variable  {P:Prg}[Tz P][Loud P]{H:Hp}
set_option maxHeartbeats 8000000
set_option maxRecDepth 20000
theorem Wa0 (n:Int):LL.Zag P 216 #[.int .u8 n] H fun v H'=>H=H'∧v=vb (dig n):=by
 refine IsN.m (isn c1216) (args:=[.int .u8 n]) rfl ?_
 unfold n1216
 refine wkT ?_
 refine wiT (fun h1=>?_) (fun h1=>?_)<;>refine wkT ?_<;>exact⟨rfl,by simp[Zbd,h1,dig]⟩
theorem WaN (s:ByteArray):LL.Zag P 178 #[.string s] H fun v H'=>H=H'∧∃ b,v=vb b∧(b=true->WaM s):=by
 have hs:=Loud.loud (P:=P)
 have no:∃ b,vb false=vb b∧(b=true->WaM s):=⟨false,rfl,fun e=>by simp at e⟩
 refine IsN.m (isn c1178) (args:=[.string s]) rfl ?_
 unfold n1178
 refine wkT ?_
 refine Wab rfl ?_
 refine wkT ?_
 refine wiT (fun h1=>?_) (fun h1=>?_)
 ·refine wkT ?_
  exact⟨rfl,no⟩
 refine wkT ?_
 refine Wab rfl ?_
 refine wkT ?_
 refine wiT (fun h2=>?_) (fun h2=>?_)
 ·refine wkT ?_
  exact⟨rfl,no⟩
 refine wkT ?_
 refine Wau (i:=0) rfl rfl (by omega) ?_
 refine wkT ?_
 refine Zab (vs:=[.int .u8 (byt s 0)]) rfl (Wa0 _) ?_
 rintro v _ ⟨rfl,rfl⟩
 refine wkT ?_
 refine wiT (fun h3=>?_) (fun h3=>?_)
 ·refine wkT ?_
  exact⟨rfl,no⟩
 refine wkT ?_
 refine ZaW s.size (fun j H'=>H=H'∧∀ i,i<j->dig (byt s i)=true∨(97<=byt s i∧byt s i<=122)) (fun j=>[(0,.string s),(3,vi j)]) (fun _=>[]) ⟨rfl,by omega⟩ ⟨rfl,rfl,trivial⟩ trivial ?_
 rintro j _ hj ⟨rfl,hI⟩
 refine wkT ?_
 refine Wab rfl ?_
 refine wkT ?_
 refine wiT (fun h4=>?_) (fun h4=>?_)
 ·have hj':j<s.size:=by omega
  have next:(dig (byt s j)=true∨(97<=byt s j∧byt s j<=122))->∀ i,i<j+1->dig (byt s i)=true∨(97<=byt s i∧byt s i<=122):=fun h i hi=>by
   rcases Nat.lt_succ_iff_lt_or_eq.1 hi with h' | rfl
   ·exact hI i h'
   ·exact h
  refine wkT ?_
  refine Wau (i:=j) rfl rfl hj' ?_
  refine wkT ?_
  refine Zab (vs:=[.int .u8 (byt s j)]) rfl (Wa0 _) ?_
  rintro v _ ⟨rfl,rfl⟩
  refine wkT ?_
  cases hd:dig (byt s j) with
  | true=>
   refine wkT ?_
   exact⟨⟨j+1,by omega⟩,slt (by omega),⟨rfl,next (.inl hd)⟩,⟨rfl,rfl,trivial⟩,trivial,rfl⟩
  | false=>
   refine wkT ?_
   refine Wau (i:=j) rfl rfl hj' ?_
   refine wkT ?_
   refine wiT (fun h5=>?_) (fun h5=>?_)
   ·refine wkT ?_
    exact⟨rfl,no⟩
   refine wkT ?_
   refine Wau (i:=j) rfl rfl hj' ?_
   refine wkT ?_
   refine wiT (fun h6=>?_) (fun h6=>?_)
   ·refine wkT ?_
    exact⟨rfl,no⟩
   refine wkT ?_
   exact⟨⟨j+1,by omega⟩,slt (by omega),⟨rfl,next (.inr ⟨by omega,by omega⟩)⟩,⟨rfl,rfl,trivial⟩,trivial,rfl⟩
 ·refine wkT ?_
  exact⟨rfl,true,rfl,fun _=>⟨by omega,by omega,decide_eq_false h3,fun i hi=>hI i (by omega)⟩⟩
theorem Wao {pv:Value}{l:List MPc}(hl:SlAt H pv l)(hn:l.length<=20):LL.Zag P 127 #[pv] H fun v H'=>H=H'∧∃ s,v=vi s∧(s=0->(1<=l.length∧l.length<=3)∧∀ i (hi:i<l.length),PcOk l i hi):=by
 have hs:=Loud.loud (P:=P)
 have no:∀ n:Int,n≠0->∃ s,vi n=vi s∧(s=0->(1<=l.length∧l.length<=3)∧∀ i (hi:i<l.length),PcOk l i hi):=fun n h=>⟨n,rfl,fun e=>absurd e h⟩
 refine IsN.m (isn c1127) (args:=[pv]) rfl ?_
 unfold n1127
 refine wkT ?_
 refine Zau hl rfl ?_
 refine wkT ?_
 refine Zab (vs:=[vi l.length,vi 1,vi 3]) rfl (Zm1 _ _ _) ?_
 rintro v _ ⟨rfl,rfl⟩
 refine wkT ?_
 refine wiT (fun h1=>?_) (fun h1=>?_)
 ·refine wkT ?_
  exact⟨rfl,no 2 (by decide)⟩
 refine wkT ?_
 refine ZaW l.length (fun j H'=>H=H'∧∀ i (hi:i<l.length),i<j->PcOk l i hi) (fun j=>[(0,pv),(3,vi j)]) (fun _=>[]) ⟨rfl,fun i hi h=>by omega⟩ ⟨rfl,rfl,trivial⟩ trivial ?_
 rintro j _ hj ⟨rfl,hI⟩
 refine wkT ?_
 refine Zau hl rfl ?_
 refine wkT ?_
 refine wiT (fun h2=>?_) (fun h2=>?_)
 ·have hj':j<l.length:=by omega
  have rowE:Enc.enc l[j]=[.string l[j].nm,vi l[j].lo,vi l[j].hi,vi l[j].br]:=rfl
  refine wkT ?_
  refine ZaE hl rfl rfl rfl (i:=j) hj' fun a ha=>?_
  rw[rowE]at ha
  refine wkT ?_
  refine Zaf (hs _) rfl (by rw[add_zero];exact ZbK (ds:=[vi l[j].lo,vi l[j].hi,vi l[j].br]) ha) ?_
  refine wkT ?_
  refine Zab (vs:=[.string l[j].nm]) rfl (WaN _) ?_
  rintro v _ ⟨rfl,b,rfl,hb⟩
  refine wkT ?_
  refine wiT (fun h3=>?_) (fun h3=>?_)
  ·refine wkT ?_
   exact⟨rfl,no 4 (by decide)⟩
  have hnm:=hb h3
  refine wkT ?_
  refine ZaW j (fun k H'=>H=H'∧∀ i (hi:i<k) (h:i<l.length),(l[i].nm.toList == l[j].nm.toList)=false) (fun k=>[(0,pv),(3,vi j),(4,vi k)]) (fun _=>[]) ⟨rfl,by omega⟩ ⟨rfl,rfl,rfl,trivial⟩ trivial ?_
  rintro k _ hk ⟨rfl,hU⟩
  refine wkT ?_
  refine wiT (fun h4=>?_) (fun h4=>?_)
  ·have hk':k<j:=by omega
   have rowK:Enc.enc (l[k]'(by omega))=[.string l[k].nm,vi l[k].lo,vi l[k].hi,vi l[k].br]:=rfl
   refine wkT ?_
   refine ZaE hl rfl rfl rfl (i:=k) (by omega) fun a2 ha2=>?_
   rw[rowK]at ha2
   refine wkT ?_
   refine Zaf (hs _) rfl (by rw[add_zero];exact ZbK (ds:=[vi l[k].lo,vi l[k].hi,vi l[k].br]) ha2) ?_
   refine wkT ?_
   refine ZaE hl rfl rfl rfl (i:=j) hj' fun a3 ha3=>?_
   rw[rowE]at ha3
   refine wkT ?_
   refine Zaf (hs _) rfl (by rw[add_zero];exact ZbK (ds:=[vi l[j].lo,vi l[j].hi,vi l[j].br]) ha3) ?_
   refine wkT ?_
   refine Waj rfl rfl ?_
   refine wkT ?_
   refine wiT (fun h5=>?_) (fun h5=>?_)
   ·refine wkT ?_
    exact⟨rfl,no 5 (by decide)⟩
   refine wkT ?_
   exact⟨⟨k+1,by omega⟩,slt (by omega),⟨rfl,fun i hi h=>by
    rcases Nat.lt_succ_iff_lt_or_eq.1 hi with h' | rfl
    ·exact hU i h' h
    ·exact h5⟩,⟨rfl,rfl,rfl,trivial⟩,trivial,rfl⟩
  have:k=j:=by omega
  subst this
  refine wkT ?_
  refine ZaE hl rfl rfl rfl (i:=k) hj' fun a3 ha3=>?_
  rw[rowE]at ha3
  refine wkT ?_
  refine Zao (cs:=[vi l[k].lo,vi l[k].hi]) (hs _) rfl (by exact ZbK (ds:=[vi l[k].br]) (Zlf ha3 rfl)) rfl ?_
  refine wkT ?_
  refine Zab (vs:=[.agg #[vi l[k].lo,vi l[k].hi],vi 1,vi 40]) rfl (Zgk _ _ _ _) ?_
  rintro v _ ⟨rfl,rfl⟩
  refine wkT ?_
  refine wiT (fun h6=>?_) (fun h6=>?_)
  ·refine wkT ?_
   exact⟨rfl,no 1 (by decide)⟩
  refine wkT ?_
  refine wiT (fun h7=>?_) (fun h7=>?_)
  ·refine wkT ?_
   exact⟨rfl,no 1 (by decide)⟩
  refine wkT ?_
  refine ZaE hl rfl rfl rfl (i:=k) hj' fun a4 ha4=>?_
  rw[rowE]at ha4
  refine wkT ?_
  refine Zaf (hs _) rfl (Zlf ha4 rfl) ?_
  refine wkT ?_
  refine Zab (vs:=[vi l[k].br,vi 0,vi 2]) rfl (Zm1 _ _ _) ?_
  rintro v _ ⟨rfl,rfl⟩
  refine wkT ?_
  refine wiT (fun h8=>?_) (fun h8=>?_)
  ·refine wkT ?_
   exact⟨rfl,no 1 (by decide)⟩
  refine wkT ?_
  exact⟨⟨k+1,by omega⟩,slt (by omega),⟨rfl,fun i hi h=>by
   rcases Nat.lt_succ_iff_lt_or_eq.1 h with h' | rfl
   ·exact hI i hi h'
   ·exact⟨hnm,fun q hq=>hU q hq (by omega),h6,by omega,h8⟩⟩,⟨rfl,rfl,trivial⟩,trivial,rfl⟩
 ·refine wkT ?_
  exact⟨rfl,0,rfl,fun _=>⟨⟨by omega,by omega⟩,fun i hi=>hI i hi (by omega)⟩⟩
end
end Go.Proofs
end
