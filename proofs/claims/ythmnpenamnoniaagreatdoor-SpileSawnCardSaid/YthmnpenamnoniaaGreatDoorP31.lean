import Derived.Test.YthmnpenamnoniaaGreatDoorP30
set_option linter.all false
section
open Go Go.LL
namespace Go.Proofs
def Zb6 (b:Bk)(l:List Int):Int:=if snag b≠0 then snag b else Zbw b l (-199) 199
def Zhr (b:Bk)(l:List Int):Value:=
 if Zb6 b l≠0 then .tuple #[.agg #[vi 0,vi 0],vb false,vi (Zb6 b l)]
 else if lowF b (n4of l) > Zfb b (n4of l) then .tuple #[.agg #[vi 0,vi 0],vb false,vi 0]
 else .tuple #[.agg #[vi (lowF b (n4of l)),vi (Zfb b (n4of l))],vb true,vi 0]
theorem n4_in {l:List Int}{lo hi:Int}(h0:lo<=0∧0<=hi)(h:∀ n∈l,lo<=n∧n<=hi){j:Nat}(hj:j<4):lo<=(n4of l).get j∧(n4of l).get j<=hi:=by
 rw[n4of,N4.of_get _ hj]
 by_cases hjl:j<l.length
 ·rw[Zbc hjl];exact h _ (List.getElem_mem hjl)
 ·rw[List.getD_eq_getElem?_getD,List.getElem?_eq_none (by omega)];simpa using h0
def ZfD (b:Bk)(i:Nat):Int:=(ptAt b i).bh-(ptAt b i).bl-(ptAt b i).w
def roomB (b:Bk):Nat->Nat
 | 0=>0
 | j+1=>if ZfD b j<ZfD b (roomB b j) then j else roomB b j
theorem Zja (b:Bk):∀ j,roomB b j<=j-1
 | 0=>Nat.le_refl 0
 | j+1=>by
  have:=Zja b j
  unfold roomB
  split<;>omega
def roomV (b:Bk):Value:=if snag b≠0 then .tuple #[vi 0,vi 0,vi (snag b)] else .tuple #[vi (roomB b b.pts.length:Nat),vi (ZfD b (roomB b b.pts.length)),vi 0]
section
variable  {P:Prg}[Tz P][Loud P]{H:Hp}
set_option maxHeartbeats 1000000
theorem Zm0 {bv lv:Value}{b:Bk}{l:List Int}(hb:BkAt H bv b)(hlv:SlAt H lv l)(hg:Zbh H)(hl:b.pts.length<=1000000)(hl2:b.cks.length<=1000000)(hl3:l.length<=1000000) :
  LL.Zag P 37 #[bv,lv] H fun v H'=>Inc H H'∧v=Zhr b l:=by
 have hs:=Loud.loud (P:=P)
 have hb0:=hb
 obtain⟨pv,cv,rfl,hp,hc⟩:=hb
 refine IsN.m (isn c59) (args:=[.agg #[vi b.op,vi b.sl,pv,cv],lv]) rfl ?_
 unfold n59
 refine wkT ?_
 refine Zab (vs:=[.agg #[vi b.op,vi b.sl,pv,cv]]) rfl (ZaJ hb0 hg hl hl2 (hs _)) ?_
 rintro v _ ⟨rfl,rfl⟩
 refine wkT ?_
 refine wiT (fun h1=>?_) (fun h1=>?_)
 ·refine wkT ?_
  have e:Zb6 b l=snag b:=by rw[Zb6,if_pos h1]
  exact⟨.refl _,by rw[Zhr,e,if_pos h1];rfl⟩
 ·have val:=ZaR h1
  have hn:=val.n
  have e:Zb6 b l=Zbw b l (-199) 199:=by rw[Zb6,if_neg (by omega)]
  rw[Zhr,e]
  obtain⟨Ap,cp,rfl,_⟩:=hp
  obtain⟨Ac,cc,rfl,_⟩:=hc
  refine wkT ?_
  refine Zab (vs:=[.agg #[vi b.op,vi b.sl,.slice Ap b.pts.length cp,.slice Ac b.cks.length cc],lv,vi (-199),vi 199]) rfl (one_ok (-199) 199 hb0 hlv hl3 (hs _)) ?_
  rintro v H1 ⟨hi1,rfl⟩
  refine wkT ?_
  refine wiT (fun h2=>?_) (fun h2=>?_)
  ·refine wkT ?_
   exact⟨hi1.inc,by rw[if_pos h2];rfl⟩
  ·obtain⟨e1,hin⟩:=Zl1 h2
   rw[if_neg (by omega)]
   refine wkT ?_
   refine Zab (vs:=[lv]) rfl (Zdg (hlv.sub hi1) (by omega) (hs _)) ?_
   rintro v H2 ⟨hi2,rfl⟩
   refine kp_l hs ?_
   refine wkT ?_
   refine Zab (vs:=[.agg #[vi b.op,vi b.sl,.slice Ap b.pts.length cp,.slice Ac b.cks.length cc],numV (n4of l)]) rfl (ZdZ (hb0.sub (hi1.trans hi2)) hn.2 (by omega) val.good.pts (fun j hj=>by have:=n4_in (l:=l) (lo:=-199) (hi:=199) (by omega) hin hj;exact⟨by omega,by omega⟩) (hs _)) ?_
   rintro v H3 ⟨hi3,rfl⟩
   refine wkT ?_
   refine wiT (fun h3=>?_) (fun h3=>?_)
   ·refine wkT ?_
    exact⟨((hi1.trans hi2).trans hi3).inc,by rw[if_pos (by omega)];rfl⟩
   ·refine wkT ?_
    exact⟨((hi1.trans hi2).trans hi3).inc,by rw[if_neg (by omega)];rfl⟩
theorem Room1_ok {b:Bk}{pv cv:Value}{r j:Nat}(hr:CellsAt H ⟨r,0,none⟩ [vi b.op,vi b.sl,pv,cv])(hp:SlAt H pv b.pts)(hj:j<b.pts.length)(hpo:PtsOk b):LL.Zag P 101 #[vi j,pt r] H fun v H'=>H=H'∧v=vi (ZfD b j):=by
 have hs:=Loud.loud (P:=P)
 refine IsN.m (isn c133) (args:=[vi j,pt r]) rfl ?_
 unfold n133
 have ept:ptAt b j=b.pts[j]:=Zbc hj _
 have s1:=hpo.bl j hj
 have s2:=hpo.bh j hj
 have s3:=hpo.w j hj
 rw[<-ept]at s1 s2 s3
 obtain⟨a1,a2⟩:=s1
 obtain⟨a3,a4⟩:=s2
 obtain⟨a5,a6⟩:=s3
 refine wkT ?_
 refine Zaf (hs _) rfl (ZbA hr (j:=2) rfl) ?_
 refine wkT ?_
 refine ZaE hp rfl rfl rfl (i:=j) hj fun a ha=>?_
 rw[<-ept]at ha
 refine wkT ?_
 refine Zaf (hs _) rfl (show CellsAt H (a.add 3) _ from ZbA ha (j:=3) rfl) ?_
 refine wkT ?_
 refine Zaf (hs _) rfl (ZbA hr (j:=2) rfl) ?_
 refine wkT ?_
 refine ZaE hp rfl rfl rfl (i:=j) hj fun a ha=>?_
 rw[<-ept]at ha
 refine wkT ?_
 refine Zaf (hs _) rfl (ZbA ha (j:=2) rfl) ?_
 refine wkT ?_
 refine Zaf (hs _) rfl (ZbA hr (j:=2) rfl) ?_
 refine wkT ?_
 refine ZaE hp rfl rfl rfl (i:=j) hj fun a ha=>?_
 rw[<-ept]at ha
 refine wkT ?_
 refine Zaf (hs _) rfl (ZbA ha (j:=4) rfl) ?_
 refine wkT ?_
 exact⟨rfl,rfl⟩
theorem Room_ok {bv:Value}{b:Bk}(hb:BkAt H bv b)(hg:Zbh H)(hl:b.pts.length<=1000000)(hl2:b.cks.length<=1000000) :
  LL.Zag P 38 #[bv] H fun v H'=>Inc H H'∧v=roomV b:=by
 have hs:=Loud.loud (P:=P)
 have hb0:=hb
 obtain⟨pv,cv,rfl,hp,hc⟩:=hb
 obtain⟨Ap,cp,rfl,hp'⟩:=id hp
 obtain⟨Ac,cc,rfl,_⟩:=hc
 refine IsN.m (isn c60) (args:=[.agg #[vi b.op,vi b.sl,.slice Ap b.pts.length cp,.slice Ac b.cks.length cc]]) rfl ?_
 unfold n60
 refine wkT ?_
 refine ZbW rfl (hs _) fun r hr=>?_
 have i1:=Zai (o:=.cells (Value.agg #[vi b.op,vi b.sl,.slice Ap b.pts.length cp,.slice Ac b.cks.length cc]).cells 25) hr
 have c1:CellsAt (H.ins r (.cells (Value.agg #[vi b.op,vi b.sl,.slice Ap b.pts.length cp,.slice Ac b.cks.length cc]).cells 25)) ⟨r,0,none⟩ [vi b.op,vi b.sl,.slice Ap b.pts.length cp,.slice Ac b.cks.length cc]:=Zar
 have hb1:=hb0.inc i1
 have hg1:Zbh _:=CellsAt.inc hg i1
 have hp1:=hp.inc i1
 show Zaj.m _ _ _ _ _
 generalize hH:H.ins r (.cells (Value.agg #[vi b.op,vi b.sl,.slice Ap b.pts.length cp,.slice Ac b.cks.length cc]).cells 25)=H1 at *
 refine wkT ?_
 refine Zao (hs _) rfl c1 rfl ?_
 refine wkT ?_
 refine Zab (vs:=[.agg #[vi b.op,vi b.sl,.slice Ap b.pts.length cp,.slice Ac b.cks.length cc]]) rfl (ZaJ hb1 hg1 hl hl2 (hs _)) ?_
 rintro v _ ⟨rfl,rfl⟩
 refine wkT ?_
 refine wiT (fun h1=>?_) (fun h1=>?_)
 ·refine wkT ?_
  exact⟨i1,by rw[roomV,if_pos h1];rfl⟩
 ·have val:=ZaR h1
  have hn:=val.n
  refine wkT ?_
  refine Zci rfl rfl ?_
  refine wkT ?_
  refine Zaf (hs _) rfl (ZbA c1 (j:=2) rfl) ?_
  refine wkT ?_
  have hF:∀ j:Nat,j<b.pts.length->CallV P (.func (.func 101) #[] #[pt r]) #[vi j] H1 fun v H'=>H1=H'∧v=vi (ZfD b j):=fun j hj=>ZcY (by kernel_rfl) (Room1_ok c1 hp1 hj val.good.pts)
  have hW:∀ j:Nat,roomB b j<b.pts.length∨b.pts.length<j:=fun j=>by have:=Zja b j;omega
  refine ZaW b.pts.length (fun j H'=>H1=H') (fun j=>[(1,pt r),(2,vi (roomB b j:Nat)),(6,.func (.func 101) #[] #[pt r]),(15,.slice Ap b.pts.length cp),(16,vi b.pts.length),(17,vi j)]) (fun j=>[]) rfl ⟨rfl,rfl,rfl,rfl,rfl,rfl,trivial⟩ trivial ?_
  rintro j _ hj rfl
  have hW':roomB b j<b.pts.length:=by have:=Zja b j;omega
  refine wkT ?_
  refine wiT (fun h2=>?_) (fun h2=>?_)
  ·refine wkT ?_
   refine ZaP (vs:=[vi j]) rfl rfl (hF j (by omega)) ?_
   rintro v _ ⟨rfl,rfl⟩
   refine wkT ?_
   refine ZaP (vs:=[vi (roomB b j:Nat)]) rfl rfl (hF _ hW') ?_
   rintro v _ ⟨rfl,rfl⟩
   refine wkT ?_
   refine wiT (fun h3=>?_) (fun h3=>?_)
   ·refine wkT ?_
    refine⟨⟨j+1,by omega⟩,slt (by omega),rfl,⟨rfl,?_,rfl,rfl,rfl,rfl,trivial⟩,trivial,rfl⟩
    show _=some (vi (roomB b (j+1):Nat))
    rw[roomB,if_pos h3]
    rfl
   ·refine wkT ?_
    refine⟨⟨j+1,by omega⟩,slt (by omega),rfl,⟨rfl,?_,rfl,rfl,rfl,rfl,trivial⟩,trivial,rfl⟩
    show _=some (vi (roomB b (j+1):Nat))
    rw[roomB,if_neg h3]
    rfl
  ·have:j=b.pts.length:=by omega
   subst this
   refine wkT ?_
   refine ZaP (vs:=[vi (roomB b b.pts.length:Nat)]) rfl rfl (hF _ hW') ?_
   rintro v _ ⟨rfl,rfl⟩
   refine wkT ?_
   exact⟨i1,by rw[roomV,if_neg (by omega)];rfl⟩
end
def el (l:List Int)(i:Nat):Int:=l.getD i 0
theorem Zha {l:List Int}{i:Nat}(h:i<l.length):el l i=l[i]:=Zbc h 0
theorem Zku {l:List Int}{i:Nat}(x:Int)(j:Nat)(h:i<l.length):el (l.set i x) j=if j=i then x else el l j:=by
 unfold el
 rw[List.getD_eq_getElem?_getD,List.getD_eq_getElem?_getD,List.getElem?_set]
 by_cases e:j=i
 ·subst e;simp[h]
 ·rw[if_neg (Ne.symm e),if_neg e]
structure AR (G H:Hp)(r:Nat)(l:List Int)(rest:List Value):Prop where
 keep:∀ b x,b≠r->G b=some x->H b=some x
 at_:H r=some (.cells (encs l++rest).toArray 3 (0,0),true)
theorem AR.of {H:Hp}{r:Nat}{l:List Int}{rest:List Value}(h:H r=some (.cells (encs l++rest).toArray 3 (0,0),true)):AR H H r l rest:=⟨fun _ _ _ h=>h,h⟩
theorem AR.trans {G H H':Hp}{r:Nat}{l l':List Int}{rest rest':List Value}(h:AR G H r l rest)(h':AR H H' r l' rest'):AR G H' r l' rest':=⟨fun b x hb hx=>h'.keep b x hb (h.keep b x hb hx),h'.at_⟩
theorem AR.set {G H:Hp}{r:Nat}{l:List Int}{rest:List Value}(h:AR G H r l rest)(l':List Int)(rest':List Value):AR G (H.ins r (.cells (encs l'++rest').toArray 3)) r l' rest':=
 ⟨fun b x hb hx=>by rw[Hp.ins_other _ _ hb];exact h.keep b x hb hx,Hp.ins_same _ _ _⟩
theorem AR.new {G H:Hp}{r r':Nat}{l:List Int}{rest:List Value}{o:Obj}(h:AR G H r l rest)(hr:H r'=none):AR G (H.ins r' o) r l rest:=
 ⟨fun b x hb hx=>(ZaL hr).mem _ _ (h.keep b x hb hx),(ZaL hr).mem _ _ h.at_⟩
theorem AR.inc {G0 G H:Hp}{r:Nat}{l:List Int}{rest:List Value}(h:AR G H r l rest)(hi:Inc G0 G)(hr:G0 r=none):Inc G0 H:=
 fun b x hb=>h.keep b x (fun e=>by rw[e,hr]at hb;simp at hb) (hi b x hb)
theorem encs_at' (l:List Int)(i:Nat)(h:i<l.length):(encs l)[i]? = some (vi (el l i)):=by
 rw[Zbz,List.getElem?_map,List.getElem?_eq_getElem h,Zha h];rfl
theorem ZbI (l:List Int):(encs l).length=l.length:=by rw[Zbz,List.length_map]
theorem AR.cell {G H:Hp}{r off:Nat}{l:List Int}{rest:List Value}(h:AR G H r l rest){j:Nat}(hj:j<l.length)(e:off=j):CellsAt H ⟨r,off,none⟩ [vi (el l j)]:=by
 subst e
 refine⟨rfl,_,_,h.at_,fun k hk=>?_⟩
 have hk0:k=0:=by simpa using hk
 subst hk0
 have:(encs l++rest)[off]? = some (vi (el l off)):=by rw[List.getElem?_append_left (by rw[ZbI];exact hj),encs_at' l off hj]
 simpa[Obj.at?]using this
theorem ZmV (r o n:Nat):(⟨r,o,none⟩:Addr).add n=⟨r,o+n,none⟩:=by
 unfold Addr.add
 split
 ·rename_i h;subst h;rfl
 ·rfl
theorem Zbg (r k:Nat):(⟨r,0,none⟩:Addr).add (k * 1)=⟨r,k,none⟩:=by rw[ZmV,Nat.zero_add,Nat.mul_one]
theorem addr2 (r i k:Nat):((⟨r,0,none⟩:Addr).add (i * 1)).add (k * 1)=⟨r,i+k,none⟩:=by rw[Zbg,ZmV,Nat.mul_one]
theorem AR.cA {G H:Hp}{r i j:Nat}{l:List Int}{rest:List Value}(h:AR G H r l rest)(hj:i<l.length)(e:i=j:=by omega):CellsAt H ((⟨r,0,none⟩:Addr).add (i * 1)) [vi (el l j)]:=
 Zbg r i ▸ h.cell (off:=i) (j:=j) (by omega) e
theorem AR.cAA {G H:Hp}{r i k j:Nat}{l:List Int}{rest:List Value}(h:AR G H r l rest)(hj:i+k<l.length)(e:i+k=j:=by omega):CellsAt H (((⟨r,0,none⟩:Addr).add (i * 1)).add (k * 1)) [vi (el l j)]:=
 addr2 r i k ▸ h.cell (off:=i+k) (j:=j) (by omega) e
theorem ZkI (l:List Int)(rest:List Value){j:Nat}(n:Int)(hj:j<l.length):ZaM (encs l++rest) j [vi n]=encs (l.set j n)++rest:=by
 unfold ZaM
 have h1:j<=(encs l).length:=by rw[ZbI];omega
 have h2:j+1<=(encs l).length:=by rw[ZbI];omega
 rw[List.take_append_of_le_length h1,show ([vi n]:List Value).length=1 from rfl,List.drop_append_of_le_length h2,Zbz,Zbz,List.map_set,List.set_eq_take_append_cons_drop,if_pos (by simpa using hj)]
 simp
theorem clr_list (l:List Int)(rest:List Value){k:Nat}(hk:k<=l.length):(encs l++rest).take k++List.replicate (l.length-k) (vi 0)++(encs l++rest).drop (k+(l.length-k))=encs (l.take k++List.replicate (l.length-k) 0)++rest:=by
 rw[List.take_append_of_le_length (by rw[ZbI];exact hk),show k+(l.length-k)=(encs l).length by rw[ZbI];omega,List.drop_left,Zcd,Zbz,Zbz,Zbz,List.map_take,List.map_replicate]
section
variable  {P:Prg}[Tz P][Loud P]{H:Hp}{d:Option Nat}{next:NSt->Hp->Prop}{σ:NSt}{x y:Operand}
theorem Zak {a:Addr}{esz ln c:Nat}{k:IntKind}{n:Int}(j:Nat)(e1:σ.get x=some (.slice (some a) ln c))(e2:σ.get y=some (.int k n))(e:n=(j:Int))(hj:j<ln)(h:next (σ.set d (.pointer (some (a.add (j * esz))))) H):(NOp.iadr esz x y).m P d next σ H:=by
 subst e;exact ZcV e1 e2 hj h
theorem ZaN {G:Hp}{a:Addr}{ty r j:Nat}{l:List Int}{rest:List Value}{n:Int}(h:AR G H r l rest)(hj:j<l.length)(e:a=⟨r,j,none⟩)(e1:σ.get x=some (.pointer (some a)))(e2:σ.get y=some (vi n))
  (hn:∀ H',AR G H' r (l.set j n) rest->next (σ.set d undef) H'):(NOp.raw (.store 3 x y) ty).m P d next σ H:=by
 subst e
 refine Zd5 (tif t3) e1 e2 h.at_ rfl (by rw[List.length_append,ZbI];omega) rfl (Loud.loud _) ?_
 rw[show (vi n).cells.toList=[vi n] from rfl,ZkI l rest n hj]
 exact hn _ (h.set _ _)
theorem Zet (n:Nat):(Builtin.zeroCells #[vi 0] n).toList=List.replicate n (vi 0):=by
 simp only[Builtin.zeroCells]
 refine List.ext_getElem (by simp) fun i h1 h2=>?_
 simp[Nat.mod_one]
theorem om_clear {G:Hp}{a:Addr}{T r off cap n:Nat}{l:List Int}{rest:List Value}(h:AR G H r l rest)(hk:off<l.length)(e:a=⟨r,off,none⟩)(en:n=l.length-off)(e1:σ.get x=some (.slice (some a) n cap))
  (hn:∀ H',AR G H' r (l.take off++List.replicate (l.length-off) 0) rest->next (σ.set d undef) H'):(NOp.raw (.call { callee:=.builtin .clear,args:=#[x],argTypes:=#[29] }) T).m P d next σ H:=by
 subst e en
 obtain⟨inf,i1,i2,i3,i4⟩:=(tif (P:=P) t3).ex
 refine Zbe (s:=Builtin.clear_ #[29] T #[.slice (some ⟨r,off,none⟩) (l.length-off) cap]) (by simp[Op.operands,Call.operands,e1]) (by simp[execOp,bare,resolve,invoke,builtin,e1]) ?_
 have hne:∃ m,l.length-off=m+1:=⟨l.length-off-1,by omega⟩
 obtain⟨m,hm⟩:=hne
 rw[hm]
 simp only[Builtin.clear_,List.getElem?_toArray,List.getElem?_cons_zero,Zaa,Zad (und (P:=P) u34),Zb0 i1 i3,Zac]
 refine Zbt _ _ _ off 0 (encs l++rest) H (Loud.loud _) h.at_ ?_ ?_ ?_
 ·rw[show (vi 0).cells=#[vi 0] from rfl,Zet];simp[Value.isOne]
 ·rw[show (vi 0).cells=#[vi 0] from rfl,Zet];simp[ZbI];omega
 ·rw[show (vi 0).cells=#[vi 0] from rfl,Zet,<-hm]
  simp only[Nat.add_zero,List.length_replicate]
  rw[clr_list l rest (by omega)]
  exact hn _ (h.set _ _)
end
def cmpP (l:List Int):Nat->List Int
 | 0=>[]
 | n+1=>if n≠0∧el l n=el l (n-1) then cmpP l n else cmpP l n++[el l n]
def cmpF (l:List Int):List Int:=cmpP l l.length
theorem cmp_eq {l:List Int}{n:Nat}(h0:n≠0)(h:el l n=el l (n-1)):cmpP l (n+1)=cmpP l n:=by rw[cmpP,if_pos ⟨h0,h⟩]
theorem cmp_ne {l:List Int}{n:Nat}(h:¬ el l n=el l (n-1)):cmpP l (n+1)=cmpP l n++[el l n]:=by rw[cmpP,if_neg (fun h'=>h h'.2)]
theorem cmp_one (l:List Int):cmpP l 1=[el l 0]:=by rw[cmpP,if_neg (by simp)];rfl
theorem Zi3 {l:List Int}{n:Nat}(h:n<l.length):l.take (n+1)=l.take n++[el l n]:=by rw[List.take_succ_eq_append_getElem h,Zha h]
theorem set_take {l:List Int}{n:Nat}(x:Int)(h:n<l.length):(l.set n x).take (n+1)=l.take n++[x]:=by
 rw[Zi3 (by simpa using h),Zku _ _ h,if_pos rfl,List.take_set_of_le (Nat.le_refl n)]
section
variable  {P:Prg}[Tz P][Loud P]{H:Hp}
set_option maxHeartbeats 1000000
theorem Zhf {H0:Hp}{v:Value}{l:List Int}{bb:Option Nat}(hi:Inc H0 H)(ho:Own H0 H 3 v l bb)(hl:l.length<=1000000) :
  LL.Zag P 92 #[v] H fun w H'=>Inc H0 H'∧∃ bb',Own H0 H' 3 w (cmpF l) bb':=by
 have hs:=Loud.loud (P:=P)
 refine IsN.m (isn c94) (args:=[v]) rfl ?_
 unfold n94
 obtain⟨hlen,⟨rfl,h2,h3⟩ | ⟨r,cap,rest,h1,rfl,h3,h4,h5⟩⟩:=id ho.own
 ·have:l=[]:=List.eq_nil_of_length_eq_zero h2
  subst this
  refine wkT ?_
  exact⟨hi,bb,ho⟩
 ·have hr0:H0 r=none:=ho.fresh r h1
  rw[List.length_append,ZbI]at h4
  have h4':l.length+rest.length=cap * 1:=h4
  refine wkT ?_
  refine wiT (fun g1=>?_) (fun g1=>?_)
  ·refine wkT ?_
   refine⟨hi,bb,?_⟩
   have:cmpF l=l:=by
    match l,g1 with
    | [],_=>rfl
    | [x],_=>rfl
    | x :: y :: t,h=>simp at h;omega
   rw[this]
   exact ho
  ·have g1:2<=l.length:=by omega
   refine wkT ?_
   refine ZaW (l.length-1) (fun j H'=>H=H'∧cmpP l (j+1)=l.take (j+1)) (fun j=>[(0,.slice (some ⟨r,0,none⟩) l.length cap),(3,vi ((j+1:Nat):Int))]) (fun j=>[]) ⟨rfl,by rw[cmp_one,Zi3 (by omega)];rfl⟩ ⟨rfl,rfl,trivial⟩ trivial ?_
   rintro j _ hj ⟨rfl,hcj⟩
   have ar0:=AR.of h3
   refine wkT ?_
   refine wiT (fun g2=>?_) (fun g2=>?_)
   ·have g2:j+1<l.length:=by omega
    refine wkT ?_
    refine ZcV rfl rfl g2 ?_
    refine wkT ?_
    refine Zaf (hs _) rfl (ar0.cA g2 rfl) ?_
    refine wkT ?_
    refine Zak j rfl rfl (by omega) (by omega) ?_
    refine wkT ?_
    refine Zaf (hs _) rfl (ar0.cA (by omega) rfl) ?_
    refine wkT ?_
    refine wiT (fun g3=>?_) (fun g3=>?_)
    ·have hcap:¬ cap=j+1:=by omega
     refine wkT ?_
     refine Zbu (lo:=j+1) (und u34) (tif t3) rfl rfl (by omega) ?_
     rw[if_neg hcap]
     have hc2:cmpP l (j+2)=l.take (j+1):=by rw[cmp_eq (by omega) (by simpa using g3),hcj]
     refine wkT ?_
     refine ZaO (α:=List Int) (l.length-(j+1)-1) (fun i c H'=>AR H H' r c rest∧c.length=l.length∧c.take (cmpP l (j+1+i+1)).length=cmpP l (j+1+i+1)∧(∀ x,j+1+i<=x->el c x=el l x)∧(cmpP l (j+1+i+1)).length<=j+1+i∧1<=(cmpP l (j+1+i+1)).length)
      (fun i c=>[(0,.slice (some ⟨r,0,none⟩) l.length cap),(3,vi ((cmpP l (j+1+i+1)).length:Nat)),(4,.slice (some ((⟨r,0,none⟩:Addr).add ((j+1) * 1))) (l.length-(j+1)) (cap-(j+1))),(5,vi ((i+1:Nat):Int))]) (fun i c=>[]) l ?_ ⟨rfl,?_,rfl,rfl,trivial⟩ trivial ?_
     ·have e2:(cmpP l (j+1+0+1)).length=j+1:=by rw[show j+1+0+1=j+2 from rfl,hc2,List.length_take];omega
      exact⟨ar0,rfl,by rw[e2];exact hc2.symm,fun _ _=>rfl,by omega,by omega⟩
     ·show some (vi _)=some (vi _)
      rw[show j+1+0+1=j+2 from rfl,hc2,List.length_take,Nat.min_eq_left (by omega)]
     rintro i c H2 hi2 ⟨ar,hcl,hct,hce,hk1,hk2⟩
     generalize hkk:(cmpP l (j+1+i+1)).length=k at *
     have hlen2:l.length-(j+1)<=1000000:=by omega
     refine wkT ?_
     refine wiT (fun g4=>?_) (fun g4=>?_)
     ·have g4:i+1<l.length-(j+1):=by omega
      refine wkT ?_
      refine ZcV rfl rfl g4 ?_
      refine wkT ?_
      refine Zaf (hs _) rfl (ar.cAA (j:=j+1+(i+1)) (by omega) rfl) ?_
      refine wkT ?_
      refine Zak i rfl rfl (by omega) (by omega) ?_
      refine wkT ?_
      refine Zaf (hs _) rfl (ar.cAA (j:=j+1+i) (by omega) rfl) ?_
      rw[hce _ (by omega),hce _ (by omega)]
      refine wkT ?_
      refine wiT (fun g5=>?_) (fun g5=>?_)
      ·refine wkT ?_
       refine ZcV rfl rfl g4 ?_
       refine wkT ?_
       refine Zaf (hs _) rfl (ar.cAA (j:=j+1+(i+1)) (by omega) rfl) ?_
       rw[hce _ (by omega)]
       refine wkT ?_
       refine ZcV rfl rfl (show k<l.length by omega) ?_
       refine wkT ?_
       refine ZaN (j:=k) ar (by omega) (Zbg _ _) rfl rfl fun H3 ar3=>?_
       have em:cmpP l (j+1+(i+1)+1)=cmpP l (j+1+i+1)++[el l (j+1+(i+1))]:=cmp_ne (n:=j+1+(i+1)) g5
       have ek:(cmpP l (j+1+(i+1)+1)).length=k+1:=by rw[em,List.length_append,hkk];rfl
       refine wkT ?_
       refine⟨(⟨i+1,by omega⟩,c.set k (el l (j+1+(i+1)))),slt (by omega),⟨ar3,by simpa using hcl,?_,fun x hx=>?_,by rw[ek];show k+1<=j+1+(i+1);omega,by rw[ek];omega⟩,⟨rfl,?_,rfl,rfl,trivial⟩,trivial,rfl⟩
       ·rw[ek,set_take _ (by omega),hct,em]
       ·have hx:j+1+(i+1)<=x:=hx
        rw[Zku _ _ (by omega),if_neg (by omega)];exact hce x (by omega)
       ·show _=some (vi ((cmpP l (j+1+(i+1)+1)).length:Nat))
        rw[ek];rfl
      ·have em:cmpP l (j+1+(i+1)+1)=cmpP l (j+1+i+1):=cmp_eq (n:=j+1+(i+1)) (by omega) g5
       refine wkT ?_
       refine⟨(⟨i+1,by omega⟩,c),slt (by omega),⟨ar,hcl,?_,fun x hx=>hce x (by have hx:j+1+(i+1)<=x:=hx;omega),by rw[em,hkk];show k<=j+1+(i+1);omega,by rw[em,hkk];omega⟩,⟨rfl,?_,rfl,rfl,trivial⟩,trivial,rfl⟩
       ·rw[em,hkk,hct]
       ·show _=some (vi ((cmpP l (j+1+(i+1)+1)).length:Nat))
        rw[em,hkk];rfl
     ·have hm:j+1+i+1=l.length:=by omega
      rw[hm]at hct hkk
      refine wkT ?_
      refine Zbu (lo:=k) (und u34) (tif t3) rfl rfl (by omega) ?_
      rw[if_neg (by omega)]
      refine wkT ?_
      refine om_clear ar (by omega) (Zbg _ _) (by rw[hcl]) rfl fun H3 ar3=>?_
      refine wkT ?_
      refine ZkW (k:=.i64) (lo:=0) (hi:=k) (und u34) (tif t3) rfl (.inl ⟨rfl,rfl⟩) ⟨_,rfl,rfl⟩ (Nat.zero_le _) (by omega) ?_
      refine wkT ?_
      have hz:¬ cap=0:=by omega
      refine⟨(ar3.inc hi hr0),some r,⟨⟨?_,.inr ⟨r,cap,List.replicate (c.length-k) (vi 0)++rest,rfl,?_,?_,?_,?_⟩⟩,fun r' e=>by obtain rfl:=Option.some.inj e;exact hr0⟩⟩
      ·rw[ZbI];show _=(cmpF l).length * 1;omega
      ·rw[if_neg hz]
       show Value.slice (some ((⟨r,0,none⟩:Addr).add (0 * 1))) (k-0) (cap-0)=_
       rw[Zbg,Nat.sub_zero,Nat.sub_zero,<-hkk];rfl
      ·have h:=ar3.at_
       rw[hct,Zcd,show encs (List.replicate (c.length-k) (0:Int))=List.replicate (c.length-k) (vi 0) by rw[Zbz,List.map_replicate],List.append_assoc]at h
       exact h
      ·rw[List.length_append,List.length_append,ZbI,List.length_replicate,hcl]
       show (cmpP l l.length).length+_=cap * 1
       rw[hkk];omega
      ·show (cmpP l l.length).length<=cap
       omega
    ·refine wkT ?_
     refine⟨⟨j+1,by omega⟩,slt (by omega),⟨rfl,?_⟩,⟨rfl,rfl,trivial⟩,trivial,rfl⟩
     rw[cmp_ne (by simpa using g3),hcj,Zi3 g2]
   ·have:j+1=l.length:=by omega
    refine wkT ?_
    refine⟨hi,bb,?_⟩
    have:cmpF l=l:=by rw[cmpF,<-this,hcj,this,List.take_length]
    rw[this]
    exact ho
end
def whenL (b:Bk):List Int:=cmpF ((ZjS b).map (·.bf))
section
variable  {P:Prg}[Tz P][Loud P]{H:Hp}
set_option maxHeartbeats 1000000
theorem When_ok {bv:Value}{b:Bk}(hb:BkAt H bv b)(hg:Zbh H)(hl:b.pts.length<=1000000)(hl2:b.cks.length<=1000000) :
  LL.Zag P 34 #[bv] H fun v H'=>Inc H H'∧∃ w bb,v=.tuple #[w,vi (Zah b true)]∧Own H H' 3 w (if Zah b true=0 then whenL b else []) bb:=by
 have hs:=Loud.loud (P:=P)
 have hb0:=hb
 obtain⟨pv,cv,rfl,hp,hc⟩:=hb
 refine IsN.m (isn c23) (args:=[.agg #[vi b.op,vi b.sl,pv,cv]]) rfl ?_
 unfold n23
 refine wkT ?_
 refine Zab (vs:=[.agg #[vi b.op,vi b.sl,pv,cv]]) rfl (ZkA hb0 hg hl hl2) ?_
 rintro v H1 ⟨hi1,hv⟩
 obtain⟨w,L,rfl,hw,hLl,hL⟩:∃ (w:Value) (L:List Slip),v=.tuple #[w,vi (Zah b true)]∧SlAt H1 w L∧L.length<=1000∧cmpF (L.map (·.bf))=(if Zah b true=0 then whenL b else []):=by
  rcases hv with ⟨hz,rfl⟩ | ⟨hz,w,bb,rfl,ow⟩
  ·exact⟨_,([]:List Slip),rfl,.nil _,by simp,by rw[if_neg hz];rfl⟩
  ·refine⟨w,ZjS b,by rw[hz],ow.sl,?_,by rw[if_pos hz];rfl⟩
   have:=ZfK (ZaR (Zip hz).1)
   exact Nat.le_trans (List.length_filter_le _ _) (by omega)
 rw[<-hL]
 clear hL hv
 have hw0:=hw
 obtain⟨Aw,cw,rfl,_⟩:=hw
 refine wkT ?_
 refine ZaO (α:=Value×Option Nat) L.length (fun j s H'=>Inc H H'∧Inc H1 H'∧Own H1 H' 3 s.1 ((L.take j).map (·.bf)) s.2) (fun j s=>[(5,vi (Zah b true)),(6,s.1),(14,.slice Aw L.length cw),(15,vi L.length),(16,vi j)]) (fun j s=>[]) (.slice none 0 0,none) ⟨hi1,.refl H1,.nil H1 H1 3⟩ ⟨rfl,rfl,rfl,rfl,rfl,trivial⟩ trivial ?_
 rintro j ⟨v6,b6⟩ H2 hj ⟨hs1,hs2,o6⟩
 simp only at o6
 refine wkT ?_
 refine wiT (fun h1=>?_) (fun h1=>?_)
 ·have hj':j<L.length:=by omega
  refine wkT ?_
  refine ZaE (hw0.inc hs2) rfl rfl rfl (i:=j) hj' fun a ha=>?_
  refine wkT ?_
  refine Zao (cs:=[vi L[j].bf,vi L[j].by_]) (hs _) rfl ha rfl ?_
  refine wkT ?_
  refine Zat (cs:=[vi L[j].bf]) (hs _) rfl fun r1 hr1=>?_
  refine wkT ?_
  refine ZbU (l':=[L[j].bf]) (und u34) (und u34) (tif t3) rfl (by decide) (hs2.trans (Zai hr1)) (o6.ins hr1) ZcO rfl (by simp;omega) (by omega) rfl rfl (hs _) fun v6' H4 b6' hs4 o6' c2=>?_
  refine wkT ?_
  refine⟨(⟨j+1,by omega⟩,(v6',b6')),slt (by omega),⟨hi1.trans hs4,hs4,?_⟩,⟨rfl,rfl,rfl,rfl,rfl,trivial⟩,trivial,rfl⟩
  show Own H1 H4 3 v6' ((L.take (j+1)).map (·.bf)) b6'
  rw[List.take_succ_eq_append_getElem hj',List.map_append]
  exact o6'
 ·have:j=L.length:=by omega
  subst this
  rw[List.take_length]at o6
  have o6':Own H H2 3 v6 (L.map (·.bf)) b6:=⟨o6.own,fun r hr=>Za9 hi1 (o6.fresh r hr)⟩
  refine wkT ?_
  refine Zab (vs:=[v6]) rfl (Zhf hs1 o6' (by simp;omega)) ?_
  rintro v H3 ⟨hi3,bb,ow⟩
  refine wkT ?_
  exact⟨hi3,v,bb,rfl,ow⟩
end
def swp (l:List Int)(i j:Nat):List Int:=(l.set i (el l j)).set j (el l i)
theorem Zi4 (l:List Int)(i j:Nat):(swp l i j).length=l.length:=by simp[swp]
theorem Zce {l:List Int}{i j:Nat}(k:Nat)(hi:i<l.length)(hj:j<l.length):el (swp l i j) k=if k=j then el l i else if k=i then el l j else el l k:=by
 unfold swp
 rw[Zku _ _ (by simpa using hj),Zku _ _ hi]
inductive Rg (a b:Nat):List Int->List Int->Prop
 | refl (l:List Int):Rg a b l l
 | step {l l':List Int} (i j:Nat):Rg a b l l'->a<=i->i<b->a<=j->j<b->Rg a b l (swp l' i j)
theorem Rg.len {a b:Nat}{l l':List Int}(h:Rg a b l l'):l'.length=l.length:=by
 induction h with
 | refl=>rfl
 | step i j _ _ _ _ _ ih=>rw[Zi4,ih]
theorem Rg.trans {a b:Nat}{l l' l'':List Int}(h:Rg a b l l')(h':Rg a b l' l''):Rg a b l l'':=by
 induction h' with
 | refl=>exact h
 | step i j _ h1 h2 h3 h4 ih=>exact .step i j ih h1 h2 h3 h4
theorem Rg.mono {a b a' b':Nat}{l l':List Int}(h:Rg a b l l')(ha:a'<=a)(hb:b<=b'):Rg a' b' l l':=by
 induction h with
 | refl=>exact .refl _
 | step i j _ h1 h2 h3 h4 ih=>exact .step i j ih (by omega) (by omega) (by omega) (by omega)
theorem Rg.out {a b:Nat}{l l':List Int}(h:Rg a b l l')(hb:b<=l.length){k:Nat}(hk:k<a∨b<=k):el l' k=el l k:=by
 induction h with
 | refl=>rfl
 | step i j h' h1 h2 h3 h4 ih=>
  have:=h'.len
  rw[Zce _ (by omega) (by omega),if_neg (by omega),if_neg (by omega),ih]
theorem Rg.all {a b:Nat}{l l':List Int}(h:Rg a b l l')(hb:b<=l.length){p:Int->Prop}(hp:∀ k,a<=k->k<b->p (el l k)):∀ k,a<=k->k<b->p (el l' k):=by
 induction h with
 | refl=>exact hp
 | step i j h' h1 h2 h3 h4 ih=>
  intro k hk1 hk2
  have:=h'.len
  rw[Zce _ (by omega) (by omega)]
  split
  ·exact ih i h1 h2
  ·split
   ·exact ih j h3 h4
   ·exact ih k hk1 hk2
theorem swp_perm {l:List Int}{i j:Nat}(hi:i<l.length)(hj:j<l.length):(swp l i j).Perm l:=by
 unfold swp
 rw[Zha hi,Zha hj]
 exact List.set_set_perm hi hj
theorem Rg.perm {a b:Nat}{l l':List Int}(h:Rg a b l l')(hb:b<=l.length):l'.Perm l:=by
 induction h with
 | refl=>exact .refl _
 | step i j h' h1 h2 h3 h4 ih=>
  have:=h'.len
  exact(swp_perm (by omega) (by omega)).trans ih
def So (a b:Nat)(l:List Int):Prop:=∀ i j,a<=i->i<=j->j<b->el l i<=el l j
theorem Zey {a b:Nat}(l:List Int)(h:b<=a+1):So a b l:=fun i j h1 h2 h3=>by
 have:i=j:=by omega
 subst this;exact Int.le_refl _
theorem Zib {a b:Nat}{l:List Int}(h:∀ i,a<=i->i+1<b->el l i<=el l (i+1)):So a b l:=by
 intro i j hi hij hj
 obtain⟨d,rfl⟩:=Nat.exists_eq_add_of_le hij
 clear hij
 induction d with
 | zero=>exact Int.le_refl _
 | succ d ih=>exact Int.le_trans (ih (by omega)) (h (i+d) (by omega) (by omega))
section
variable  {P:Prg}[Tz P][Loud P]{H:Hp}
set_option maxHeartbeats 1000000
theorem ZhS (n:Int):LL.Zag P 230 #[vi n] H fun v H'=>H=H'∧v=vb false:=by
 refine IsN.m (isn c207) (args:=[vi n]) rfl ?_
 unfold n207
 refine wkT ?_
 exact⟨rfl,by simp[Zbd]⟩
theorem ZbB (m n:Int):LL.Zag P 200 #[vi m,vi n] H fun v H'=>H=H'∧v=vb (decide (m<n)):=by
 refine IsN.m (isn c185) (args:=[vi m,vi n]) rfl ?_
 unfold n185
 refine wkT ?_
 refine Zab (vs:=[vi m]) rfl (ZhS _) ?_
 rintro v _ ⟨rfl,rfl⟩
 refine wkT ?_
 exact⟨rfl,rfl⟩
def SortC (P:Prg)(f:Nat)(H:Hp)(r cap:Nat)(l:List Int)(rest:List Value)(a b:Nat)(more:List Value)(Q:Value->List Int->Prop):Prop:=
 LL.Zag P f (.slice (some ⟨r,0,none⟩) l.length cap :: vi a :: vi b :: more).toArray H fun v H'=>∃ l',AR H H' r l' rest∧Rg a b l l'∧Q v l'
theorem ZiH {r cap a b:Nat}{l:List Int}{rest:List Value}(hA:H r=some (.cells (encs l++rest).toArray 3 (0,0),true))(hab:a<=b)(hb:b<=l.length)(hl:l.length<=1000000) :
  SortC P 194 H r cap l rest a b [] fun _ l'=>So a b l':=by
 have hs:=Loud.loud (P:=P)
 refine IsN.m (isn c179) (args:=[.slice (some ⟨r,0,none⟩) l.length cap,vi a,vi b]) rfl ?_
 unfold n179
 refine wkT ?_
 refine ZaO (α:=List Int) (b-(a+1)) (fun j c H'=>AR H H' r c rest∧Rg a b l c∧So a (a+1+j) c) (fun j c=>[(0,.slice (some ⟨r,0,none⟩) l.length cap),(1,vi a),(2,vi b),(6,vi ((a+1+j:Nat):Int))]) (fun j c=>[]) l ⟨AR.of hA,.refl l,Zey l (by omega)⟩ ⟨rfl,rfl,rfl,rfl,trivial⟩ trivial ?_
 rintro i c H1 hi ⟨ar,rg,so⟩
 have hcl:=rg.len
 refine wkT ?_
 refine wiT (fun g1=>?_) (fun g1=>?_)
 ·have g1:a+1+i<b:=by omega
  refine wkT ?_
  refine ZaO (α:=List Int) (i+1) (fun k c' H'=>AR H H' r c' rest∧Rg a b l c'∧(∀ x y,a<=x->x<=y->y<=a+1+i->x≠a+1+i-k->y≠a+1+i-k->el c' x<=el c' y)∧(∀ y,a+1+i-k<y->y<=a+1+i->el c' (a+1+i-k)<=el c' y))
   (fun k c'=>[(0,.slice (some ⟨r,0,none⟩) l.length cap),(1,vi a),(2,vi b),(6,vi ((a+1+i:Nat):Int)),(7,vi ((a+1+i-k:Nat):Int))]) (fun k c'=>[]) c ⟨ar,rg,fun x y h1 h2 h3 h4 h5=>so x y h1 h2 (by omega),fun y h1 h2=>by omega⟩ ⟨rfl,rfl,rfl,rfl,rfl,trivial⟩ trivial ?_
  rintro k c' H2 hk ⟨ar',rg',so',lo'⟩
  have hcl':=rg'.len
  have hjb:a+1+i-k<l.length:=by omega
  obtain⟨j,hj⟩:∃ j,a+1+i-k=j:=⟨_,rfl⟩
  rw[hj]at so' lo' ⊢
  refine wkT ?_
  refine wiT (fun ha=>?_) (fun ha=>?_)
  ·have ha:a<j:=by omega
   refine wkT ?_
   refine Zak j rfl rfl rfl (by omega) ?_
   refine wkT ?_
   refine Zaf (hs _) rfl (ar'.cA (by omega) rfl) ?_
   refine wkT ?_
   refine Zak (j-1) rfl rfl (by omega) (by omega) ?_
   refine wkT ?_
   refine Zaf (hs _) rfl (ar'.cA (by omega) rfl) ?_
   refine wkT ?_
   refine Zab (vs:=[vi (el c' j),vi (el c' (j-1))]) rfl (ZbB _ _) ?_
   rintro v _ ⟨rfl,rfl⟩
   refine wkT ?_
   refine wiT (fun hl1=>?_) (fun hl1=>?_)
   ·refine wkT ?_
    refine Zak (j-1) rfl rfl (by omega) (by omega) ?_
    refine wkT ?_
    refine Zaf (Loud.loud _) rfl (AR.cA ar' (by omega) rfl) ?_
    refine wkT ?_
    refine Zak j rfl rfl (by omega) (by omega) ?_
    refine wkT ?_
    refine Zaf (Loud.loud _) rfl (AR.cA ar' (by omega) rfl) ?_
    refine wkT ?_
    refine Zak j rfl rfl (by omega) (by omega) ?_
    refine wkT ?_
    refine ZaN ar' (by omega) (Zbg _ _) rfl rfl fun HW arW=>?_
    refine kp_l Loud.loud ?_
    refine wkT ?_
    refine Zak (j-1) rfl rfl (by omega) (by omega) ?_
    refine wkT ?_
    refine ZaN arW (by rw[List.length_set];omega) (Zbg _ _) rfl rfl fun H4 ar4=>?_
    refine wkT ?_
    have esw:(c'.set j (el c' (j-1))).set (j-1) (el c' j)=swp c' j (j-1):=rfl
    rw[esw]at ar4
    have hel:∀ x,el (swp c' j (j-1)) x=if x=j-1 then el c' j else if x=j then el c' (j-1) else el c' x:=fun x=>Zce x (by omega) (by omega)
    have hel1:∀ x,x≠j-1->el (swp c' j (j-1)) x=if x=j then el c' (j-1) else el c' x:=fun x hx=>by rw[hel,if_neg hx]
    have hel0:el (swp c' j (j-1)) (j-1)=el c' j:=by rw[hel,if_pos rfl]
    have hjk:a+1+i-(k+1)=j-1:=by omega
    refine⟨(⟨k+1,by omega⟩,swp c' j (j-1)),slt (by omega),⟨ar4,.step _ _ rg' (by omega) (by omega) (by omega) (by omega),?_,?_⟩,⟨rfl,rfl,rfl,rfl,?_,trivial⟩,trivial,rfl⟩
    ·show ∀ x y,a<=x->x<=y->y<=a+1+i->x≠a+1+i-(k+1)->y≠a+1+i-(k+1)->_
     intro x y h1 h2 h3 h4 h5
     rw[hjk]at h4 h5
     rw[hel1 x h4,hel1 y h5]
     by_cases hx:x=j
     ·rw[if_pos hx]
      by_cases hy:y=j
      ·rw[if_pos hy];exact Int.le_refl _
      ·rw[if_neg hy];exact so' _ _ (by omega) (by omega) h3 (by omega) hy
     ·rw[if_neg hx]
      by_cases hy:y=j
      ·rw[if_pos hy];exact so' _ _ h1 (by omega) (by omega) hx (by omega)
      ·rw[if_neg hy];exact so' _ _ h1 h2 h3 hx hy
    ·show ∀ y,a+1+i-(k+1)<y->y<=a+1+i->el (swp c' j (j-1)) (a+1+i-(k+1))<=_
     intro y h1 h2
     rw[hjk]at h1 ⊢
     rw[hel0,hel1 y (by omega)]
     by_cases hy:y=j
     ·rw[if_pos hy];omega
     ·rw[if_neg hy];exact lo' _ (by omega) h2
    ·show some (vi ((j:Int)-1))=some (vi ((a+1+i-(k+1):Nat):Int))
     rw[show (a+1+i-(k+1):Nat)=j-1 by omega,show ((j-1:Nat):Int)=(j:Int)-1 by omega]
   ·refine wkT ?_
    refine⟨(⟨i+1,by omega⟩,c'),slt (by omega),⟨ar',rg',?_⟩,⟨rfl,rfl,rfl,rfl,trivial⟩,trivial,rfl⟩
    show So a (a+1+(i+1)) c'
    refine Zib fun x h1 h2=>?_
    by_cases e1:x=j
    ·subst e1;exact lo' _ (by omega) (by omega)
    ·by_cases e2:x+1=j
     ·subst e2
      rw[Nat.add_sub_cancel]at hl1
      omega
     ·exact so' _ _ h1 (by omega) (by omega) e1 e2
  ·have ha:j=a:=by omega
   subst ha
   refine wkT ?_
   refine⟨(⟨i+1,by omega⟩,c'),slt (by omega),⟨ar',rg',?_⟩,⟨rfl,rfl,rfl,rfl,trivial⟩,trivial,rfl⟩
   refine Zib fun x h1 h2=>?_
   have h2:x+1<j+1+(i+1):=h2
   by_cases e1:x=j
   ·subst e1;exact lo' _ (by omega) (by omega)
   ·exact so' _ _ h1 (by omega) (by omega) e1 (by omega)
 ·refine wkT ?_
  refine⟨c,ar,rg,?_⟩
  intro x y h1 h2 h3
  exact so x y h1 h2 (by omega)
end
end Go.Proofs
end
