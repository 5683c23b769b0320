import Derived.Test.YthmnpenamnoniaaGreatDoorP02
set_option linter.all false
section
namespace Go.LL
section sound
variable  {P:Prg}{nr:Bool}{L:List (Nat×Nat)}{m:Nat}{o:Oper}{next:NSt->Hp->Prop}{σ:NSt}{H Ha:Hp}{a:Act}{op:NOp}
theorem s_mov {x:Operand}(ho:o.op=.move x∨o.op=.assign x)(hx:nl L x=true)(hd:dnl L m o.dst=true)(h:(NOp.mov x).w P o.dst next σ H)(r:Rel P L m σ H a Ha):OpW P nr o a (Nx P L m next) Ha:=by
 obtain⟨v,h1,h2⟩:=h
 refine Zdc (v:=v) ?_ ⟨_,_,r.set hd v,h2⟩
 rcases ho with ho | ho<;>simp[execOp,ho,r.get hx h1]
theorem s_pick {c x y:Operand}(ho:o.op=.pick c x y)(hc:nl L c=true)(hx:nl L x=true)(hy:nl L y=true)(hd:dnl L m o.dst=true)(h:(NOp.pick c x y).w P o.dst next σ H)(r:Rel P L m σ H a Ha):OpW P nr o a (Nx P L m next) Ha:=by
 obtain⟨t,v,h1,h2,h3⟩:=h
 refine Zdc (v:=v) ?_ ⟨_,_,r.set hd v,h3⟩
 have e:=r.get hc h1
 cases t with
 | true=>simp[execOp,ho,e,asBool,r.get hx h2]
 | false=>simp[execOp,ho,e,asBool,r.get hy h2]
theorem s_not {t:TypeId}{x:Operand}(ho:o.op=.unOp .not t x)(hx:nl L x=true)(hd:dnl L m o.dst=true)(h:(NOp.not x).w P o.dst next σ H)(r:Rel P L m σ H a Ha):OpW P nr o a (Nx P L m next) Ha:=by
 obtain⟨b,h1,h2⟩:=h
 refine Zdc (v:=.bool !b) ?_ ⟨_,_,r.set hd _,h2⟩
 simp[execOp,ho,r.get hx h1,Op.unary]
theorem s_bin {b:BinOp}{t ty:TypeId}{x y:Operand}(ho:o.op=.binOp b t x y ty)(hx:nl L x=true)(hy:nl L y=true)(hd:dnl L m o.dst=true)(h:(NOp.bin b x y).w P o.dst next σ H)(r:Rel P L m σ H a Ha):OpW P nr o a (Nx P L m next) Ha:=by
 obtain⟨k,p,q,v,h1,h2,h3,h4⟩:=h
 refine Zdc (v:=v) ?_ ⟨_,_,r.set hd v,h4⟩
 have e1:=r.get hx h1
 have e2:=r.get hy h2
 cases b<;>simp[binV]at h3<;>subst h3<;>simp[execOp,ho,e1,e2,eqGuard,binOp,Op.intArith,Op.intCmp]
theorem s_ext {x:Operand}{i:Nat}(ho:o.op=.extract x i)(hx:nl L x=true)(hd:dnl L m o.dst=true)(h:(NOp.ext x i).w P o.dst next σ H)(r:Rel P L m σ H a Ha):OpW P nr o a (Nx P L m next) Ha:=by
 obtain⟨vs,v,h1,h2,h3⟩:=h
 refine Zdc (v:=v) ?_ ⟨_,_,r.set hd v,h3⟩
 simp[execOp,ho,r.get hx h1,Instr.extract,h2]
theorem s_len {x:Operand}{t e:TypeId}{ts:Array TypeId}{as:Array Operand}(ho:o.op=.call { callee:=.builtin .len,args:=as,argTypes:=ts })(has:as.toList=[x])(hts:ts.toList=[t])(ht:P.underlying t=some (.slice e))(hx:nl L x=true)(hd:dnl L m o.dst=true)
  (h:(NOp.len x).w P o.dst next σ H) (r:Rel P L m σ H a Ha):OpW P nr o a (Nx P L m next) Ha:=by
 obtain⟨b,n,c,h1,h3⟩:=h
 have e1:=r.get hx h1
 obtain⟨as⟩:=as
 obtain⟨ts⟩:=ts
 simp only at has hts
 subst has hts
 refine ZbH (s:=Builtin.len_ #[t] o.type #[.slice b n c]) (by simp[execOp,ho,resolve,invoke,builtin,e1]) ?_
 show wpL P (underlying t >>= _) _ _ _
 rw[Zaa,Zad ht]
 exact .inr ⟨_,_,r.set hd _,h3⟩
theorem Ze6 {t:TypeId}{f off:Nat}{ft:TypeId}{sz:Nat}(hf:Zdl P t f=some (off,ft,sz)):∃ fs fld i,P.underlying t=some (.struct fs)∧fs[f]? = some fld∧P.info? fld.type=some i∧fld.offset=off∧fld.type=ft∧i.size=sz:=by
 unfold Zdl at hf
 cases hu:P.underlying t with
 | none=>rw[hu]at hf;simp at hf
 | some d=>
  rw[hu]at hf
  cases d with
  | struct fs=>
   simp only at hf
   cases hfld:fs[f]? with
   | none=>rw[hfld]at hf;simp at hf
   | some fld=>
    rw[hfld]at hf
    simp only at hf
    cases hi:P.info? fld.type with
    | none=>rw[hi]at hf;simp at hf
    | some i=>
     rw[hi]at hf
     simp only[Option.some.injEq,Prod.mk.injEq]at hf
     exact⟨fs,fld,i,rfl,hfld,hi,hf.1,hf.2.1,hf.2.2⟩
  | _=>simp at hf
theorem s_fld {t:TypeId}{x:Operand}{f off:Nat}{ft:TypeId}{sz:Nat}{n:Option Nat}(ho:o.op=.field t x f)(hf:Zdl P t f=some (off,ft,sz))(hn:Zb5 P ft=some n)(hx:nl L x=true)(hd:dnl L m o.dst=true)(h:(NOp.fld off n x).w P o.dst next σ H)(r:Rel P L m σ H a Ha):OpW P nr o a (Nx P L m next) Ha:=by
 obtain⟨cs,h1,h2⟩:=h
 refine ZbH (s:=Instr.field t (.agg cs) f) (by simp[execOp,ho,r.get hx h1]) ?_
 obtain⟨fs,fld,i,hu,hfld,hi,rfl,rfl,rfl⟩:=Ze6 hf
 unfold Instr.field
 rw[Zaa,Zad hu]
 simp only[hfld,asAgg,Zaa,Zac,part]
 cases n with
 | none=>
  obtain⟨v,h3,h4⟩:=h2
  rw[ZbL hn]
  simp only[Bool.false_eq_true,if_false,h3,Zac]
  exact .inr ⟨_,_,r.set hd _,h4⟩
 | some n=>
  obtain⟨i',hi',hs,hq⟩:=ZcK hn
  rw[hq]
  simp only[if_true,Zaa,Zap hi',Zac,hs]
  exact .inr ⟨_,_,r.set hd _,h2⟩
theorem ZiO {t:TypeId}{f off:Nat}{ft:TypeId}{sz:Nat}{b:Addr}(hf:Zdl P t f=some (off,ft,sz))(hz:sz≠0)(Q:Value->Bool->Hp->Prop)(g:Bool)(H:Hp):wpL P (Instr.fieldAt t (.pointer (some b)) f) Q g H↔Q (.pointer (some (b.add off))) g H:=by
 obtain⟨fs,fld,i,hu,hfld,hi,rfl,rfl,rfl⟩:=Ze6 hf
 unfold Instr.fieldAt
 rw[Zaa,Zad hu]
 simp only[hfld,Instr.sureAddr,Zaa,Zac,fieldPlace,Zap hi,hz,if_false]
theorem s_fadr {t:TypeId}{x:Operand}{f off:Nat}{ft:TypeId}{sz:Nat}(ho:o.op=.fieldAddr t x f)(hf:Zdl P t f=some (off,ft,sz))(hz:sz≠0)(hx:nl L x=true)(hd:dnl L m o.dst=true)(h:(NOp.fadr off x).w P o.dst next σ H)(r:Rel P L m σ H a Ha):OpW P nr o a (Nx P L m next) Ha:=by
 obtain⟨b,h1,h2⟩:=h
 refine ZbH (s:=Instr.fieldAt t (.pointer (some b)) f) (by simp[execOp,ho,r.get hx h1]) ?_
 rw[ZiO hf hz]
 exact .inr ⟨_,_,r.set hd _,h2⟩
theorem s_lfadr {t:TypeId}{s:Nat}{f off:Nat}{ft:TypeId}{sz d:Nat}(ho:o.op=.fieldAddr t (.tmp s) f)(hf:Zdl P t f=some (off,ft,sz))(hz:sz≠0)(hs:L.lookup s=some d)(hd:dloc L m o.dst d=true)(h:(NOp.lfadr off s).w P o.dst next σ H)(r:Rel P L m σ H a Ha):OpW P nr o a (Nx P L m next) Ha:=by
 obtain⟨n,h1,h2⟩:=h
 obtain⟨b,h3,h4⟩:=r.setL hd hs h1 (n+off)
 refine ZbH (s:=Instr.fieldAt t (.pointer (some ⟨b,n,none⟩)) f) (by simp only[execOp,ho,Act.eval,h3]) ?_
 rw[ZiO hf hz,ZdC rfl]
 exact .inr ⟨_,_,h4,h2⟩
theorem s_iadr {t e:TypeId}{i:TypeInfo}{x y:Operand}(ho:o.op=.indexAddr t x y)(hu:P.underlying t=some (.slice e))(hi:P.info? e=some i)(hx:nl L x=true)(hy:nl L y=true)(hd:dnl L m o.dst=true)(h:(NOp.iadr i.size x y).w P o.dst next σ H)(r:Rel P L m σ H a Ha):OpW P nr o a (Nx P L m next) Ha:=by
 obtain⟨b,ln,cap,k,n,h1,h2,h3,h4,h5⟩:=h
 refine ZbH (s:=Instr.indexAt t (.slice (some b) ln cap) (.int k n)) (by simp[execOp,ho,r.get hx h1,r.get hy h2]) ?_
 unfold Instr.indexAt
 simp only[asIntOf,Zaa,Zac,Zad hu]
 simp only[h3,h4,and_self,if_true,Zaa,Zap hi,Zac]
 exact .inr ⟨_,_,r.set hd _,h5⟩
theorem s_liadr {t e:TypeId}{i:TypeInfo}{s d len:Nat}{y:Operand}(ho:o.op=.indexAddr t (.tmp s) y)(hu:P.underlying t=some (.array len e))(hi:P.info? e=some i)(hs:L.lookup s=some d)(hy:nl L y=true)(hd:dloc L m o.dst d=true)(h:(NOp.liadr i.size len s y).w P o.dst next σ H)(r:Rel P L m σ H a Ha):OpW P nr o a (Nx P L m next) Ha:=by
 obtain⟨n,k,j,h1,h2,h3,h4,h5⟩:=h
 obtain⟨b,h6,h7⟩:=r.setL hd hs h1 (n+j.toNat * i.size)
 refine ZbH (s:=Instr.indexAt t (.pointer (some ⟨b,n,none⟩)) (.int k j)) (by
  have:=r.get hy h2
  simp only[execOp,ho,this]
  simp only[Act.eval,h6]) ?_
 unfold Instr.indexAt
 simp only[asIntOf,Zaa,Zac,Zad hu,Instr.sureAddr]
 simp only[h3,h4,and_self,if_true,Zaa,Zap hi,Zac,ZdC]
 exact .inr ⟨_,_,h7,h5⟩
theorem s_ld {t:TypeId}{x:Operand}{n:Option Nat}(ho:o.op=.load t x)(hn:Zb5 P t=some n)(hx:nl L x=true)(hd:dnl L m o.dst=true)(h:(NOp.ld n x).w P o.dst next σ H)(r:Rel P L m σ H a Ha):OpW P nr o a (Nx P L m next) Ha:=by
 obtain⟨hst,b,ob,p,h1,h2,h3,h4⟩:=h
 refine ZbH (s:=Instr.loadAt t (.pointer (some b))) (by simp[execOp,ho,r.get hx h1]) ?_
 simp only[Instr.loadAt,Instr.sureAddr,Zaa,Zac,loadVar]
 cases n with
 | none=>
  obtain⟨v,h5,h6⟩:=h4
  rw[ZbL hn]
  simp only[Bool.false_eq_true,if_false]
  exact⟨ob,p,v,⟨r.loud hst,r.heap h3⟩,rfl,h2,h5,.inr ⟨_,_,r.set hd _,h6⟩⟩
 | some n=>
  obtain⟨cs,rfl,h5,h6⟩:=h4
  obtain⟨i',hi',hs,hq⟩:=ZcK hn
  rw[hq]
  simp only[if_true,Zaa,Zap hi',Zac,hs,loadCells]
  refine ZaZ (r.loud hst) (r.heap h3) h2 _ _ cs 0 #[] (fun j hj=>by rw[Nat.zero_add];exact h5 j hj) ?_
  exact .inr ⟨_,_,by simpa using r.set hd _,h6⟩
end sound
end Go.LL
end
section
namespace Go.LL
section sound
variable  {P:Prg}{nr:Bool}{L:List (Nat×Nat)}{m:Nat}{o:Oper}{next:NSt->Hp->Prop}{σ:NSt}{H Ha:Hp}{a:Act}{op:NOp}
theorem s_lzero {t:TypeId}{d:Nat}{i:TypeInfo}{z:Value}(ho:o.op=.alloc t)(hd:o.dst=some d)(hL:L.lookup d=some d)(hm:d<m)(hi:P.info? t=some i)(hz:i.zero=some z)
  (h:(NOp.lzero d (Zc7 L d) z.cells.toList).w P o.dst next σ H) (r:Rel P L m σ H a Ha):OpW P nr o a (Nx P L m next) Ha:=by
 obtain⟨hs,h⟩:=h
 refine ZbH (s:=Instr.alloc t true (.tuple #[])) (by simp[execOp,ho]) ?_
 simp only[Instr.alloc,Zaa,Zb0 hi hz]
 simp only[newVar,newRow,Zaa,newObj]
 refine⟨r.loud hs,fun b hb=>?_⟩
 rw[hd]
 refine .inr ⟨_,_,?_,h⟩
 have:=r.newL hL hm hb z.cells.toList t
 simpa using this
theorem s_lbox {t:TypeId}{x:Operand}{d:Nat}(ho:o.op=.box t x)(hd:o.dst=some d)(hL:L.lookup d=some d)(hm:d<m)(hx:nl L x=true)
  (h:(NOp.lbox d (Zc7 L d) x).w P o.dst next σ H) (r:Rel P L m σ H a Ha):OpW P nr o a (Nx P L m next) Ha:=by
 obtain⟨hs,v,h1,h2⟩:=h
 refine ZbH (s:=Instr.box t v) (by simp[execOp,ho,r.get hx h1]) ?_
 simp only[Instr.box,Zaa,newVar,newRow,newObj]
 refine⟨r.loud hs,fun b hb=>?_⟩
 rw[hd]
 refine .inr ⟨_,_,?_,h2⟩
 have:=r.newL hL hm hb v.cells.toList t
 simpa using this
theorem Rel.place {P:PQ}{L:List (Nat×Nat)}{m:Nat}{σ:NSt}{H:Hp}{a:Act}{Ha:Hp}(r:Rel P L m σ H a Ha){s d n:Nat}{cs:List Value}(hs:L.lookup s=some d)(hn:σ.env s=some (.int .i64 (n:Nat)))(hb:σ.box d=some cs) :
  ∃ b t,a.tmps.getD s undef=.pointer (some ⟨b,n,none⟩)∧Ha b=some (.cells cs.toArray t (0,0),true):=by
 obtain⟨ρ,K,e1,e2,e3,e4,e5,e6⟩:=r.mem
 have h0:=e5 s _ hn
 unfold RelV at h0
 rw[hs]at h0
 obtain⟨off,h1,h2⟩:=h0.resolve_left (by simp[undef])
 simp only[Value.int.injEq,true_and,Int.ofNat_inj]at h1
 subst h1
 obtain⟨t,ht⟩:=e3 d cs hb
 exact⟨ρ d,t,h2,by rw[e1];exact Hp.join_right e2 ht⟩
theorem s_lld {t:TypeId}{s d:Nat}{n:Option Nat}(ho:o.op=.load t (.tmp s))(hn:Zb5 P t=some n)(hs:L.lookup s=some d)(hd:dnl L m o.dst=true)(h:(NOp.lld d n s).w P o.dst next σ H)(r:Rel P L m σ H a Ha):OpW P nr o a (Nx P L m next) Ha:=by
 obtain⟨hst,off,cs,h1,h2,h3⟩:=h
 obtain⟨b,tb,hb1,hb2⟩:=r.place hs h1 h2
 refine ZbH (s:=Instr.loadAt t (.pointer (some ⟨b,off,none⟩))) (by simp only[execOp,ho,Act.eval,hb1]) ?_
 simp only[Instr.loadAt,Instr.sureAddr,Zaa,Zac,loadVar]
 cases n with
 | none=>
  obtain⟨v,h5,h6⟩:=h3
  rw[ZbL hn]
  simp only[Bool.false_eq_true,if_false]
  exact⟨_,_,v,⟨r.loud hst,hb2⟩,rfl,rfl,by simpa[Obj.at?]using h5,.inr ⟨_,_,r.set hd _,h6⟩⟩
 | some n=>
  obtain⟨h5,h6⟩:=h3
  obtain⟨i',hi',hsz,hq⟩:=ZcK hn
  rw[hq]
  simp only[if_true,Zaa,Zap hi',Zac,hsz,loadCells]
  have hlen:((cs.drop off).take n).length=n:=by simp;omega
  have:=ZaZ (P:=P) (a:=⟨b,off,none⟩) (r.loud hst) hb2 rfl (fun v g H'=>g=true∨Nx P L m next (put a o.dst (.agg v)) H') false ((cs.drop off).take n) 0 #[] (fun j hj=>by
   simp only[Obj.at?,Nat.zero_add,List.getElem?_toArray]
   rw[List.getElem?_take,List.getElem?_drop,if_pos (by rw[hlen]at hj;exact hj)]) (.inr ⟨_,_,by simpa using r.set hd _,h6⟩)
  rw[hlen]at this
  exact this
theorem Zbt {P:PQ}{b:Nat}{t:TypeId}(Q:Unit->Bool->Hp->Prop)(g:Bool):∀ (vs:List Value) (off i:Nat) (cs:List Value) (H:Hp),P.still H.gh=false->H b=some (.cells cs.toArray t (0,0),true)->(vs.all Value.isOne)=true->off+i+vs.length<=cs.length ->
  Q () g (H.ins b (.cells (cs.take (off+i)++vs++cs.drop (off+i+vs.length)).toArray t (0,0)))->wpL P (storeCells ⟨b,off,none⟩ vs i) Q g H
 | [],off,i,cs,H,_,hb,_,_,h=>by
  have:H.ins b (.cells (cs.take (off+i)++[]++cs.drop (off+i+([]:List Value).length)).toArray t (0,0))=H:=by
   refine Hp.ext' (fun x=>?_) rfl
   by_cases hx:x=b
   ·subst hx;simp[Hp.ins_at,hb]
   ·rw[Hp.ins_other _ _ hx]
  rw[this]at h
  exact h
 | v :: vs,off,i,cs,H,hst,hb,h1,hl,h=>by
  simp only[List.all_cons,Bool.and_eq_true]at h1
  simp only[List.length_cons]at hl
  simp only[storeCells,Zaa,store]
  have ha:(⟨b,off,none⟩:Addr).add i=⟨b,off+i,none⟩:=by rw[ZdC rfl]
  rw[ha]
  have hlt:off+i<cs.length:=by omega
  refine⟨_,⟨hst,hb⟩,rfl,rfl,h1.1,?_,by simp[Obj.frozenAt],?_⟩
  ·simp[Obj.at?,hlt]
  ·have e:Obj.put (.cells cs.toArray t (0,0)) (off+i) v=.cells (cs.set (off+i) v).toArray t (0,0):=by simp[Obj.put]
   rw[e]
   refine Zbt Q g vs off (i+1) (cs.set (off+i) v) _ hst (Hp.ins_same _ _ _) h1.2 (by simp;omega) ?_
   have e2:(H.ins b (.cells (cs.set (off+i) v).toArray t (0,0))).ins b (.cells ((cs.set (off+i) v).take (off+(i+1))++vs++(cs.set (off+i) v).drop (off+(i+1)+vs.length)).toArray t (0,0))=H.ins b (.cells (cs.take (off+i)++(v :: vs)++cs.drop (off+i+(v :: vs).length)).toArray t (0,0)):=by
    refine Hp.ext' (fun x=>?_) rfl
    by_cases hx:x=b
    ·subst hx
     simp only[Hp.ins_same,Option.some.injEq,Prod.mk.injEq,and_true,Obj.cells.injEq]
     refine congrArg List.toArray ?_
     rw[List.drop_set_of_lt (by omega)]
     have:(cs.set (off+i) v).take (off+(i+1))=cs.take (off+i)++[v]:=by
      rw[<-Nat.add_assoc,List.take_succ_eq_append_getElem (by simp;omega)]
      rw[List.take_set_of_le (by omega)]
      simp
     rw[this]
     simp only[List.append_assoc,List.singleton_append,List.length_cons]
     congr 3
     omega
    ·simp only[Hp.ins_other _ _ hx]
   rw[e2]
   exact h
theorem s_lst {t:TypeId}{s d:Nat}{x:Operand}{i:TypeInfo}(ho:o.op=.store t (.tmp s) x)(hi:P.info? t=some i)(hs:L.lookup s=some d)(hx:nl L x=true)(hd:o.dst=none)(h:(NOp.lst d i.size s x).w P o.dst next σ H)(r:Rel P L m σ H a Ha):OpW P nr o a (Nx P L m next) Ha:=by
 obtain⟨hst,off,cs,v,h1,h2,h3,h4,h5,h6,h7⟩:=h
 obtain⟨ρ,K,e1,e2,e3,e4,e5,e6⟩:=r.mem
 have h0:=e5 s _ h1
 unfold RelV at h0
 rw[hs]at h0
 obtain⟨off',hof,hp⟩:=h0.resolve_left (by simp[undef])
 simp only[Value.int.injEq,true_and,Int.ofNat_inj]at hof
 subst hof
 obtain⟨tb,hK⟩:=e3 d cs h2
 have hHa:Ha (ρ d)=some (.cells cs.toArray tb (0,0),true):=by rw[e1];exact Hp.join_right e2 hK
 refine .inl ?_
 have:execOp a.eval o=(do (Instr.storeAt t (.pointer (some ⟨ρ d,off,none⟩)) v);pure .skip:Sem Next):=by
  simp only[execOp,ho,r.get hx h3]
  simp only[Act.eval,hp]
 rw[this,Zaa]
 simp only[Instr.storeAt,Instr.sureAddr,Zaa,Zac,storeVar,Zap hi,h4,ne_eq,not_true_eq_false,if_false]
 refine Zbt _ _ v.cells.toList off 0 cs Ha (r.loud hst) hHa h6 (by simp only[Array.length_toList];omega) ?_
 refine .inr ⟨σ.put d (cs.take off++v.cells.toList++cs.drop (off+i.size)),H,?_,h7⟩
 rw[hd]
 have hH:H (ρ d)=none:=e2.left_none hK
 refine⟨r.size,r.defers,ρ,K.ins (ρ d) (.cells (cs.take off++v.cells.toList++cs.drop (off+i.size)).toArray tb (0,0)),?_,?_,?_,?_,e5,e6.ins fun o' h=>by rw[hK]at h;simp at h;rintro c rfl;simp at h⟩
 ·rw[e1]
  refine Hp.ext' (fun y=>?_) rfl
  simp only[Hp.join_at,Hp.ins_at]
  by_cases hy:y=ρ d
  ·subst hy;simp[hH,<-h4]
  ·simp[hy]
 ·exact((e2.symm).ins_held hK).symm
 ·intro d' cs' h'
  simp only[NSt.put]at h'
  by_cases hy:d'=d
  ·subst hy
   simp at h'
   subst h'
   exact⟨tb,by simp[Hp.ins_at]⟩
  ·rw[Zc3 hy]at h'
   obtain⟨t',h9⟩:=e3 d' cs' h'
   exact⟨t',by rw[Hp.ins_other _ _ (fun e=>hy (e4 d' d cs' cs h' h2 e))];exact h9⟩
 ·intro d1 d2 c1 c2 k1 k2 k3
  have b1:∃ c,σ.box d1=some c:=by
   simp only[NSt.put]at k1
   by_cases hy:d1=d
   ·rw[hy];exact⟨_,h2⟩
   ·rw[Zc3 hy]at k1;exact⟨_,k1⟩
  have b2:∃ c,σ.box d2=some c:=by
   simp only[NSt.put]at k2
   by_cases hy:d2=d
   ·rw[hy];exact⟨_,h2⟩
   ·rw[Zc3 hy]at k2;exact⟨_,k2⟩
  obtain⟨c1',b1⟩:=b1
  obtain⟨c2',b2⟩:=b2
  exact e4 d1 d2 c1' c2' b1 b2 k3
end sound
end Go.LL
end
section
namespace Go.LL
theorem qLlH0 {G:Prop} (h:G:=by
  show execOp a.eval (bare o.op o.type)=_
  refine Ze7 (o:=bare o.op o.type) (fun x hxm=>?_) hs
  have:=Array.all_eq_true_iff_forall_mem.1 h1 x hxm
  obtain⟨v,hv⟩:=Option.isSome_iff_exists.1 this
  rw[hv]
  exact r.get (hx x hxm) hv):G:=h
theorem ZeU {ρ ρ':Operand->Value}{xs:Array Operand}(h:∀ x∈xs,ρ x=ρ' x):xs.map ρ=xs.map ρ':=Array.map_congr_left h
theorem Zgi {ρ ρ':Operand->Value}{xs:Array (Nat×Operand)}(h:∀ x∈(xs.toList.map (·.2)).toArray,ρ x=ρ' x):(xs.map fun (i,x)=>(i,ρ x))=xs.map fun (i,x)=>(i,ρ' x):=by
 refine Array.map_congr_left fun p hp=>?_
 have:=h p.2 (by simp only[List.mem_toArray,List.mem_map];exact⟨p,Array.mem_toList_iff.2 hp,rfl⟩)
 simp[this]
theorem Zd4 {ρ ρ':Operand->Value}{x:Option Operand}(h:∀ y∈x.toArray,ρ y=ρ' y):x.map ρ=x.map ρ':=by
 cases x with
 | none=>rfl
 | some y=>simp[h y (by simp)]
theorem ZcT {ρ ρ':Operand->Value}{c:Call}(t:TypeId)(h:∀ x∈c.operands,ρ x=ρ' x):resolve ρ c t=resolve ρ' c t:=by
 obtain⟨cal,args,ts⟩:=c
 have ha:args.map ρ=args.map ρ':=ZeU fun x hx=>h x (by simp[Call.operands,hx])
 unfold resolve
 cases cal with
 | builtin b=>simp only[ha]
 | invoke r n=>simp only[ha,h r (by simp[Call.operands])]
 | value f=>simp only[ha,h f (by simp[Call.operands])]
theorem Ze7 {ρ ρ':Operand->Value}{o:Oper}(h:∀ x∈o.op.operands,ρ x=ρ' x)(hs:∀ cs b,o.op≠.select cs b):execOp ρ o=execOp ρ' o:=by
 obtain⟨dst,op,ty,pos,after,guard⟩:=o
 unfold execOp
 simp only at h ⊢
 cases op with
 | build t ps=>simp only[Zgi (xs:=ps) (by simpa[Op.operands]using h)]
 | buildSlice t n ps=>simp only[Zgi (xs:=ps) (by simpa[Op.operands]using h)]
 | makeFunc fn f c=>simp only[ZeU (xs:=f) (fun x hx=>h x (by simp[Op.operands,hx])),ZeU (xs:=c) (fun x hx=>h x (by simp[Op.operands,hx]))]
 | makeMap t r=>simp only[Zd4 (x:=r) (fun y hy=>h y (by simpa[Op.operands]using hy))]
 | slice t x l hi mx=>
  simp only[h x (by simp[Op.operands]),Zd4 (x:=l) (fun y hy=>h y (by simp only[Op.operands,Array.mem_append];exact .inl (.inl (.inr hy)))),
   Zd4 (x:=hi) (fun y hy=>h y (by simp only[Op.operands,Array.mem_append];exact .inl (.inr hy))),Zd4 (x:=mx) (fun y hy=>h y (by simp only[Op.operands,Array.mem_append];exact .inr hy))]
 | call c=>simp only[ZcT _ h]
 | go c=>simp only[ZcT _ h]
 | defer c=>simp only[ZcT _ h]
 | select cs b=>exact absurd rfl (hs cs b)
 | _=>simp_all[Op.operands]
section sound
variable  {P:Prg}{nr:Bool}{L:List (Nat×Nat)}{m:Nat}{o:Oper}{next:NSt->Hp->Prop}{σ:NSt}{H Ha:Hp}{a:Act}{op:NOp}
theorem Rel.gets {P:PQ}{L:List (Nat×Nat)}{m:Nat}{σ:NSt}{H:Hp}{a:Act}{Ha:Hp}(r:Rel P L m σ H a Ha):∀ {xs:List Operand} {vs:List Value},(∀ x∈xs,nl L x=true)->σ.gets xs=some vs->xs.map a.eval=vs
 | [],vs,_,h=>by simpa[NSt.gets]using h
 | x :: xs,vs,hn,h=>by
  simp only[NSt.gets]at h
  cases h1:σ.get x with
  | none=>simp[h1]at h
  | some v=>
   cases h2:σ.gets xs with
   | none=>simp[h1,h2]at h
   | some ws=>
    simp[h1,h2]at h
    subst h
    simp[r.get (hn x (by simp)) h1,r.gets (fun y hy=>hn y (by simp[hy])) h2]
theorem Zag.rel {f:FuncId}{vs:Array Value}{Post:Value->Hp->Prop}(h:Zag P f vs H Post)(r:Rel P L m σ H a Ha):Zag P f vs Ha (fun v Ha'=>∃ H',Rel P L m σ H' a Ha'∧Post v H'):=by
 obtain⟨ρ,K,e1,e2,e3,e4,e5,e6⟩:=r.mem
 rw[e1]
 refine(h.frame e2).mono ?_
 rintro v HF ⟨H',rfl,hc,hp⟩
 exact⟨H',⟨r.size,r.defers,ρ,K,rfl,hc,e3,e4,e5,e6⟩,hp⟩
theorem s_call {f:FuncId}{args:Array Operand}{ts:Array TypeId}{fn:Func}(ho:o.op=.call { callee:=.value (.func f),args:=args,argTypes:=ts })(hf:P.funcs[f]? = some fn)(hb:fn.body.isSome=true)(hnm:(fn.name == "runtime.NumGoroutine")=false)
  (hx:∀ x∈args.toList,nl L x=true) (hd:dnl L m o.dst=true) (h:(NOp.call f args.toList).w P o.dst next σ H) (r:Rel P L m σ H a Ha):OpW P nr o a (Nx P L m next) Ha:=by
 obtain⟨vs,h1,h2⟩:=h
 have e1:=r.gets hx h1
 have e2:args.map a.eval=vs.toArray:=by
  obtain⟨args⟩:=args;simp only[List.map_toArray];simp only at e1;rw[e1]
 refine .inl ?_
 have:execOp a.eval o=callFunc f (vs.toArray++#[]):=by
  simp[execOp,ho,resolve,invoke,e2,Act.eval,Deferred.ofValue]
 rw[this]
 simp only[callFunc,Zaa,ZaU,hf,hnm,Bool.false_eq_true,if_false]
 have hbn:fn.body.isNone=false:=by simpa using hb
 simp only[hbn,Bool.false_eq_true,if_false,Zac]
 refine .inr ?_
 show Zag P f (vs.toArray++#[]) Ha _
 rw[Array.append_empty]
 refine(h2.rel r).mono ?_
 rintro v Ha' ⟨H',r',hn⟩
 exact⟨_,_,r'.set hd v,hn⟩
theorem Zgv {op':Op}(hop:o.op=op')(hs:∀ cs b,op'≠.select cs b)(hx:∀ x∈op'.operands,nl L x=true)(hd:dnl L m o.dst=true)(h:(NOp.raw op' o.type).w P o.dst next σ H)(r:Rel P L m σ H a Ha):OpW P nr o a (Nx P L m next) Ha:=by
 subst hop
 obtain⟨h1,h2⟩:=h
 have e:execOp a.eval o=execOp (fun x=>(σ.get x).getD undef) (bare o.op o.type):=by
  exact qLlH0
 obtain⟨ρ,K,e1,e2,e3,e4,e5,e6⟩:=r.mem
 rcases h2 with h2 | h2
 case inr=>
  refine .inr ?_
  rw[e,show Zb7 P o=Zb7 P (bare o.op o.type) from rfl,e1]
  refine(h2.any.frame e2).mono ?_
  rintro v HF ⟨H',rfl,hc,hn⟩
  have r':Rel P L m σ H' a (H'.join K):=⟨r.size,r.defers,ρ,K,rfl,hc,e3,e4,e5,e6⟩
  exact⟨_,_,r'.set hd v,hn⟩
 refine .inl ?_
 rw[e,e1]
 refine Za2 ?_ (ZdV h2 e2)
 rintro n g HF ⟨H',rfl,hc,hg | hn⟩
 ·exact .inl hg
 ·have r':Rel P L m σ H' a (H'.join K):=⟨r.size,r.defers,ρ,K,rfl,hc,e3,e4,e5,e6⟩
  refine .inr ?_
  cases n with
  | value v=>exact⟨_,_,r'.set hd v,hn⟩
  | skip=>exact⟨_,_,r'.set hd undef,hn⟩
  | enter f args=>
   refine(Zag.rel hn r').mono ?_
   rintro v Ha' ⟨H'',r'',hn⟩
   exact⟨_,_,r''.set hd v,hn⟩
  | round l f tmps as bd=>
   refine(ZdM.frame hn hc).mono ?_
   rintro v HF ⟨H'',rfl,hc',hn⟩
   have r'':Rel P L m σ H'' a (H''.join K):=⟨r.size,r.defers,ρ,K,rfl,hc',e3,e4,e5,e6⟩
   exact⟨_,_,r''.set hd v,hn⟩
  | defer d=>
   obtain⟨_,hm,hn⟩:=hn
   refine⟨_,_,Rel.set (a:={ a with defers:=d :: a.defers }) (σ:={ σ with defs:=d :: σ.defs }) ⟨r.size,?_,ρ,K,rfl,hc,e3,e4,e5,e6.plain hm⟩ hd undef,hn⟩
   simp only[Zdb,hm,Bool.false_eq_true,if_false]
   rw[r.defers]
  | _=>exact hn.elim
theorem s_rawn (hnr:nr=true){op':Op}(hop:o.op=op')(hs:∀ cs b,op'≠.select cs b)(hx:∀ x∈op'.operands,nl L x=true)(hd:dnl L m o.dst=true)(h:(NOp.rawn op' o.type).w P o.dst next σ H)(r:Rel P L m σ H a Ha):OpW P nr o a (Nx P L m next) Ha:=by
 subst hop
 subst hnr
 obtain⟨h1,h2⟩:=h
 have e:execOp a.eval o=execOp (fun x=>(σ.get x).getD undef) (bare o.op o.type):=by
  exact qLlH0
 obtain⟨ρ,K,e1,e2,e3,e4,e5,e6⟩:=r.mem
 refine .inr ?_
 rw[e,show Zb7 P o=Zb7 P (bare o.op o.type) from rfl,e1]
 refine(h2.frame e2).mono ?_
 rintro v HF ⟨H',rfl,hc,hn⟩
 have r':Rel P L m σ H' a (H'.join K):=⟨r.size,r.defers,ρ,K,rfl,hc,e3,e4,e5,e6⟩
 exact⟨_,_,r'.set hd v,hn⟩
theorem Zg6:∀ (vs:List Value) (off k:Nat) (z:List Value),off+k+vs.length<=z.length ->
  ((vs.zipIdx k).foldl (fun cs (c,j)=>cs.setIfInBounds (off+j) c) z.toArray)=(ZaM z (off+k) vs).toArray
 | [],off,k,z,_=>by simp[ZaM]
 | v :: vs,off,k,z,h=>by
  simp only[List.length_cons]at h
  simp only[List.zipIdx_cons,List.foldl_cons,List.setIfInBounds_toArray]
  have:=Zg6 vs off (k+1) (z.set (off+k) v) (by simp;omega)
  rw[this]
  congr 1
  unfold ZaM
  have e1:(z.set (off+k) v).take (off+(k+1))=z.take (off+k)++[v]:=by
   rw[<-Nat.add_assoc,List.take_succ_eq_append_getElem (by simp;omega),List.take_set_of_le (by omega)]
   simp
  have e2:(z.set (off+k) v).drop (off+(k+1)+vs.length)=z.drop (off+k+(vs.length+1)):=by
   rw[List.drop_set_of_lt (by omega)]
   congr 1
   omega
  rw[e1,e2]
  simp
theorem ZhX {place:Nat->Option (Nat×Nat)}(r:Rel P L m σ H a Ha):∀ {ps:List (Nat×Operand)} {qs:List (Nat×Nat×Operand)} {z cs:List Value},Zco place ps=some qs->(∀ p∈ps,nl L p.2=true)->buildV σ qs z=some cs ->
  Instr.fill place z.toArray (ps.map fun p=>(p.1,a.eval p.2))=some cs.toArray
 | [],qs,z,cs,ht,_,hb=>by
  simp only[Zco,Option.some.injEq]at ht
  subst ht
  simp only[buildV,Option.some.injEq]at hb
  subst hb
  rfl
 | (i,x) :: ps,qs,z,cs,ht,hn,hb=>by
  simp only[Zco]at ht
  split at ht
  ·rename_i off sz qs' h1 h2
   simp only[Option.some.injEq]at ht
   subst ht
   simp only[buildV]at hb
   split at hb
   ·rename_i v hv
    have e:=r.get (hn (i,x) (by simp)) hv
    simp only[List.map_cons,Instr.fill,h1,e]
    cases hc:(Nat.beq v.cells.size sz && Nat.ble (off+sz) z.length) with
    | false=>rw[hc]at hb;simp at hb
    | true=>
     rw[hc]at hb
     simp only[Bool.and_eq_true]at hc
     have c1:v.cells.size=sz:=Nat.eq_of_beq_eq_true hc.1
     have c2:off+sz<=z.length:=Nat.le_of_ble_eq_true hc.2
     have:(decide (v.cells.size≠sz) || decide (off+v.cells.size > z.toArray.size))=false:=by
      simp[c1];omega
     rw[this]
     simp only[Bool.false_eq_true,if_false]
     have hf:v.cells.zipIdx.foldl (fun cs (c,j)=>cs.setIfInBounds (off+j) c) z.toArray=(ZaM z off v.cells.toList).toArray:=by
      have:=Zg6 v.cells.toList off 0 z (by simp only[Array.length_toList];omega)
      rw[Nat.add_zero]at this
      rw[<-this,<-Array.foldl_toList,Array.toList_zipIdx]
     rw[hf]
     exact ZhX r h2 (fun p hp=>hn p (by simp[hp])) hb
   ·simp at hb
  ·simp at ht
theorem ZeB {ps:Array (Nat×Operand)}:(ps.map fun (i,x)=>(i,a.eval x)).toList=ps.toList.map fun p=>(p.1,a.eval p.2):=by
 simp
theorem Zjj {fs:List Field}(h:∀ f∈fs,(P.info? f.type).isSome=true)(Q:List (Nat×Nat)->Bool->Hp->Prop)(g:Bool)(H:Hp)
  (hq:∀ ps:List (Nat×Nat),(∀ i:Nat,ps[i]? = match fs[i]? with | some (f:Field)=>(match P.info? f.type with | some i=>some (f.offset,i.size) | none=>none) | none=>none)->Q ps g H) :
  wpL P (fs.mapM fun (f:Field)=>do pure (f.offset,<-sizeOf f.type)) Q g H:=by
 induction fs generalizing Q with
 | nil=>exact hq [] (by simp)
 | cons f fs ih=>
  obtain⟨i,hi⟩:=Option.isSome_iff_exists.1 (h f (by simp))
  rw[List.mapM_cons,Zaa,Zaa,Zap hi]
  simp only[Zac]
  rw[Zaa]
  refine ih (fun f hf=>h f (by simp[hf])) _ fun ps hps=>?_
  simp only[Zac]
  refine hq _ fun j=>?_
  cases j with
  | zero=>simp[hi]
  | succ j=>simp[hps j]
theorem s_build {t:TypeId}{ps:Array (Nat×Operand)}{fs:Array Field}{i:TypeInfo}{z:Value}{qs:List (Nat×Nat×Operand)}(ho:o.op=.build t ps)(hu:P.underlying t=some (.struct fs))(hi:P.info? t=some i)(hz:i.zero=some z)(hk:Zf6 P fs=true)
  (hq:Zco (Zds P fs) ps.toList=some qs) (hx:(ps.all fun p=>nl L p.2)=true) (hd:dnl L m o.dst=true) (h:(NOp.build z.cells.toList qs).w P o.dst next σ H) (r:Rel P L m σ H a Ha):OpW P nr o a (Nx P L m next) Ha:=by
 obtain⟨cs,h1,h2⟩:=h
 refine ZbH (s:=Instr.build t (ps.map fun (i,x)=>(i,a.eval x))) (by simp[execOp,ho]) ?_
 simp only[Instr.build,Zaa,Zb0 hi hz,Zad hu]
 obtain⟨fs⟩:=fs
 rw[List.mapM_toArray,map_eq_pure_bind,Zaa]
 refine Zjj (fun f hf=>Array.all_eq_true_iff_forall_mem.1 hk f (by simpa using hf)) _ _ _ fun ls hls=>?_
 simp only[Zac]
 have hpl:(fun x=>ls.toArray[x]?)=Zds P ⟨fs⟩:=by
  funext x
  simp only[List.getElem?_toArray,hls x,Zds]
  cases fs[x]? with
  | none=>rfl
  | some f=>cases P.info? f.type<;>rfl
 have hfill:=ZhX r hq (fun p hp=>Array.all_eq_true_iff_forall_mem.1 hx p (Array.mem_toList_iff.1 hp)) h1
 rw[<-ZeB,<-hpl]at hfill
 simp only[Array.toArray_toList]at hfill
 rw[hfill]
 exact .inr ⟨_,_,r.set hd _,h2⟩
theorem s_buildA {t e:TypeId}{n:Nat}{ps:Array (Nat×Operand)}{i ie:TypeInfo}{z:Value}{qs:List (Nat×Nat×Operand)}(ho:o.op=.build t ps)(hu:P.underlying t=some (.array n e))(hi:P.info? t=some i)(hz:i.zero=some z)(he:P.info? e=some ie)
  (hq:Zco (fun k=>some (k * ie.size,ie.size)) ps.toList=some qs) (hx:(ps.all fun p=>nl L p.2)=true) (hd:dnl L m o.dst=true) (h:(NOp.build z.cells.toList qs).w P o.dst next σ H) (r:Rel P L m σ H a Ha):OpW P nr o a (Nx P L m next) Ha:=by
 obtain⟨cs,h1,h2⟩:=h
 refine ZbH (s:=Instr.build t (ps.map fun (i,x)=>(i,a.eval x))) (by simp[execOp,ho]) ?_
 simp only[Instr.build,Zaa,Zb0 hi hz,Zad hu,Zap he]
 have hfill:=ZhX r hq (fun p hp=>Array.all_eq_true_iff_forall_mem.1 hx p (Array.mem_toList_iff.1 hp)) h1
 rw[<-ZeB]at hfill
 simp only[Array.toArray_toList]at hfill
 rw[hfill]
 exact .inr ⟨_,_,r.set hd _,h2⟩
theorem s_buildS {t e:TypeId}{len:Nat}{ps:Array (Nat×Operand)}{ie:TypeInfo}{z:Value}{qs:List (Nat×Nat×Operand)}(ho:o.op=.buildSlice t len ps)(hu:P.underlying t=some (.slice e))(he:P.info? e=some ie)(hz:ie.zero=some z)(hle:len * ie.size<=2 ^ 24)(hne:¬ len * ie.size=0)
  (hq:Zco (fun k=>some (k * ie.size,ie.size)) ps.toList=some qs) (hx:(ps.all fun p=>nl L p.2)=true) (hd:dnl L m o.dst=true)
  (h:(NOp.buildS e len ((Array.range (len * ie.size)).map (z.cells[· % z.cells.size]!)).toList qs).w P o.dst next σ H) (r:Rel P L m σ H a Ha):OpW P nr o a (Nx P L m next) Ha:=by
 obtain⟨hs,cs,h1,h2⟩:=h
 refine ZbH (s:=Instr.buildSlice t len (ps.map fun (i,x)=>(i,a.eval x))) (by simp[execOp,ho]) ?_
 simp only[Instr.buildSlice,Zaa,Zad hu,Zap he]
 have:¬ (len * ie.size > 2 ^ 24):=by omega
 simp only[this,if_false,hne,Zaa,Zb0 he hz,Zac]
 have hfill:=ZhX r hq (fun p hp=>Array.all_eq_true_iff_forall_mem.1 hx p (Array.mem_toList_iff.1 hp)) h1
 rw[<-ZeB]at hfill
 simp only[Array.toArray_toList]at hfill
 rw[hfill]
 simp only[newRow,Zaa,newObj,Zac]
 refine⟨r.loud hs,fun b hb=>?_⟩
 obtain⟨ρ,K,e1,e2,e3,e4,e5,e6⟩:=r.mem
 rw[e1]at hb
 obtain⟨hb1,hb2⟩:=Hp.join_none.1 hb
 refine .inr ⟨_,_,Rel.set ?_ hd _,h2 b hb1⟩
 exact⟨r.size,r.defers,ρ,K,by rw[e1,<-Hp.ins_join],e2.ins_new _ hb2,e3,e4,e5,e6⟩
end sound
end Go.LL
end
