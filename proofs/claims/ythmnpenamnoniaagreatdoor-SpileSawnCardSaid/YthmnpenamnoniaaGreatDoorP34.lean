import Derived.Test.YthmnpenamnoniaaGreatDoorP33
set_option linter.all false
section
open Go Go.LL
namespace Go.Proofs
set_option maxRecDepth 100000
def lenTab:ByteArray:=.mk #[0,1,2,2,3,3,3,3,4,4,4,4,4,4,4,4,5,5,5,5,5,5,5,5,5,5,5,5,5,5,5,5,6,6,6,6,6,6,6,6,6,6,6,6,6,6,6,6,6,6,6,6,6,6,6,6,6,6,6,6,6,6,6,6,7,7,7,7,7,7,7,7,7,7,7,7,7,7,7,7,7,7,7,7,7,7,7,7,7,7,7,7,7,7,7,7,7,7,7,7,7,7,7,7,7,7,7,7,7,7,7,7,7,7,7,7,7,7,7,7,7,7,7,7,7,7,7,7,8,8,8,8,8,8,8,8,8,8,8,8,8,8,8,8,8,8,8,8,8,8,8,8,8,8,8,8,8,8,8,8,8,8,8,8,8,8,8,8,8,8,8,8,8,8,8,8,8,8,8,8,8,8,8,8,8,8,8,8,8,8,8,8,8,8,8,8,8,8,8,8,8,8,8,8,8,8,8,8,8,8,8,8,8,8,8,8,8,8,8,8,8,8,8,8,8,8,8,8,8,8,8,8,8,8,8,8,8,8,8,8,8,8,8,8,8,8,8,8,8,8,8,8,8,8,8,8]
def Zeg (m:Nat):Nat:=if m=0 then 0 else Nat.log2 m+1
theorem Zmq:(List.range 256).all (fun i=>match lenTab[i]? with | some b=>b.toNat == Zeg i | none=>false)=true:=by kernel_rfl
theorem ZiE {i:Nat}(h:i<256):∃ b,lenTab[i]? = some b∧b.toNat=Zeg i:=by
 have:=List.all_eq_true.1 Zmq i (List.mem_range.2 h)
 split at this
 ·exact⟨_,‹_›,by simpa using this⟩
 ·simp at this
theorem u9:Tryz.prog.underlying 9=some .string:=by kernel_rfl
theorem u144:Tryz.prog.underlying 189=some (.int .u64):=by kernel_rfl
theorem u188:Tryz.prog.underlying 240=some (.int .u64):=by kernel_rfl
theorem u5:Tryz.prog.underlying 5=some (.int .u8):=by kernel_rfl
section
variable  {P:Prg}[Tz P]{H:Hp}{d:Option Nat}{next:NSt->Hp->Prop}{σ:NSt}{x y:Operand}
theorem Ziu {t:TypeId}{ty:TypeId}{k:IntKind}{i:Nat}{s:ByteArray}{b:UInt8}(hu:P.toProgram.underlying t=some .string)(e1:σ.get x=some (.string s))(e2:σ.get y=some (.int k (i:Int)))(hb:s[i]? = some b)
  (h:next (σ.set d (.int .u8 b.toNat)) H):(NOp.raw (.index t x y) ty).m P d next σ H:=by
 refine Zbe (by simp[Op.operands,e1,e2]) (s:=Instr.index t (.string s) (.int k (i:Int))) (by simp[execOp,bare,e1,e2]) ?_
 have hc:(0:Int)<=(i:Int):=by omega
 simp only[Instr.index,Zaa,asIntOf,Zac,Zad hu,if_pos hc,Int.toNat_natCast,hb]
 exact h
end
section
variable  {P:Prg}[Tz P]{H:Hp}
set_option maxHeartbeats 1000000
theorem wrap8 {m:Nat}(h:m<256):IntKind.u8.wrap (m:Int)=(m:Int):=by
 simp only[IntKind.wrap,IntKind.bits,IntKind.signed,Bool.false_and,Bool.false_eq_true,if_false]
 omega
theorem ZgE {m:Nat}(h:m<18446744073709551616):IntKind.u64.wrap (m:Int)=(m:Int):=by
 simp only[IntKind.wrap,IntKind.bits,IntKind.signed,Bool.false_and,Bool.false_eq_true,if_false]
 omega
theorem Len64_ok {m:Nat}(hm:m<65536):LL.Zag P 204 #[.int .u64 m] H fun v H'=>H=H'∧v=vi (if m<256 then Zeg m else 8+Zeg (m / 256):Nat):=by
 refine IsN.m (isn c189) (args:=[.int .u64 m]) rfl ?_
 unfold n189
 refine wkT ?_
 refine wiT (fun g1=>?_) (fun g1=>?_)
 ·exact absurd g1 (by omega)
 ·refine wkT ?_
  refine wiT (fun g2=>?_) (fun g2=>?_)
  ·exact absurd g2 (by omega)
  ·refine wkT ?_
   refine wiT (fun g3=>?_) (fun g3=>?_)
   ·have hd:m / 256<256:=by omega
    obtain⟨b,hb,hbl⟩:=ZiE hd
    have hsh:bitV .shr .u64 (m:Int) 8=.int .u64 ((m / 256:Nat):Int):=by
     show Value.int .u64 ((m:Int).fdiv 256)=_
     rw[Int.fdiv_eq_ediv_of_nonneg _ (by omega)]
     rfl
    have hb9:b.toNat<=255:=by have:=b.toNat_lt;omega
    refine wkT ?_
    refine Zca rfl rfl (.inl rfl) (by omega) hsh ?_
    refine wkT ?_
    refine Zch (und u144) (und u5) rfl ?_
    rw[wrap8 hd]
    refine wkT ?_
    refine Ziu (s:=lenTab) (und u9) rfl rfl hb ?_
    refine wkT ?_
    refine Zch (und u5) (und ui3) rfl ?_
    rw[ZbZ ⟨by omega,by omega⟩]
    refine wkT ?_
    refine⟨rfl,?_⟩
    rw[if_neg (by omega),<-hbl]
    show vi _=vi _
    congr 1
   ·have hd:m<256:=by omega
    obtain⟨b,hb,hbl⟩:=ZiE hd
    have hb9:b.toNat<=255:=by have:=b.toNat_lt;omega
    refine wkT ?_
    refine Zch (und u144) (und u5) rfl ?_
    rw[wrap8 hd]
    refine wkT ?_
    refine Ziu (s:=lenTab) (und u9) rfl rfl hb ?_
    refine wkT ?_
    refine Zch (und u5) (und ui3) rfl ?_
    rw[ZbZ ⟨by omega,by omega⟩]
    refine wkT ?_
    refine⟨rfl,?_⟩
    rw[if_pos hd,<-hbl]
    show vi _=vi _
    congr 1
    omega
def len64 (m:Nat):Nat:=if m<256 then Zeg m else 8+Zeg (m / 256)
theorem Len_ok {m:Nat}(hm:m<65536):LL.Zag P 152 #[.int .u64 m] H fun v H'=>H=H'∧v=vi (len64 m:Nat):=by
 refine IsN.m (isn c149) (args:=[.int .u64 m]) rfl ?_
 unfold n149
 refine wkT ?_
 refine Zab (vs:=[.int .u64 m]) rfl (Len64_ok hm) ?_
 rintro v _ ⟨rfl,rfl⟩
 refine wkT ?_
 exact⟨rfl,rfl⟩
theorem Zkm {m:Nat}(hm:m<65536):len64 m<=16:=by
 unfold len64 Zeg
 have hl:∀ x,x<256->Nat.log2 x<=7:=fun x hx=>by
  by_cases e:x=0
  ·subst e;decide
  ·have:=(Nat.log2_lt e (k:=8)).2 (by omega);omega
 split
 ·split
  ·omega
  ·have:=hl m ‹_›;omega
 ·split
  ·omega
  ·have:=hl (m / 256) (by omega);omega
end
theorem Zlx (n:Int):∃ y:Nat,y<18446744073709551616∧IntKind.u64.wrap n=(y:Int):=by
 simp only[IntKind.wrap,IntKind.bits,IntKind.signed,Bool.false_and,Bool.false_eq_true,if_false]
 exact⟨(n % 2 ^ 64).toNat,by omega,by omega⟩
theorem u235:Tryz.prog.underlying 309=some (.int .u64):=by kernel_rfl
theorem t235:tiOf Tryz.prog 309=some (1,some (.int .u64 0),8):=by kernel_rfl
theorem ZiU {m:Nat}(h:1<=m):2 ^ Zeg m<=2 * m:=by
 unfold Zeg
 rw[if_neg (by omega),Nat.pow_succ]
 have:=Nat.log2_self_le (n:=m) (by omega)
 omega
theorem Zmr {m:Nat}(h:1<=m):2 ^ len64 m<=2 * m:=by
 unfold len64
 split
 ·exact ZiU h
 ·have:=ZiU (m:=m / 256) (by omega)
  rw[Nat.pow_add]
  omega
section
variable  {P:Prg}[Tz P][Loud P]{H:Hp}
set_option maxHeartbeats 1000000
theorem pow2_ok {m:Nat}(hm:m<65536):LL.Zag P 226 #[vi m] H fun v H'=>H=H'∧v=.int .u64 ((2 ^ len64 m:Nat):Int):=by
 have hl:=Zkm hm
 have hp:2 ^ len64 m<=2 ^ 16:=Nat.pow_le_pow_right (by decide) hl
 have hsh:bitV .shl .u64 1 (len64 m:Nat)=.int .u64 ((2 ^ len64 m:Nat):Int):=by
  show Value.int .u64 (IntKind.u64.wrap (1 * 2 ^ min ((len64 m:Nat):Int).toNat 64))=_
  rw[Int.toNat_natCast,Nat.min_eq_left (by omega),Int.one_mul,show (2:Int) ^ len64 m=((2 ^ len64 m:Nat):Int) by simp,ZgE (by omega)]
 refine IsN.m (isn c203) (args:=[vi m]) rfl ?_
 unfold n203
 refine wkT ?_
 refine Zch (und ui3) (und u188) rfl ?_
 rw[ZgE (by omega)]
 refine wkT ?_
 refine Zab (vs:=[.int .u64 m]) rfl (Len_ok hm) ?_
 rintro v _ ⟨rfl,rfl⟩
 refine wkT ?_
 refine Zca rfl rfl (.inr rfl) (by omega) hsh ?_
 refine wkT ?_
 exact⟨rfl,rfl⟩
theorem ZkY {r2 y:Nat}(hy:H r2=some (.cells #[.int .u64 y] 309 (0,0),true)):LL.Zag P 227 #[pt r2] H fun v H'=>∃ z:Nat,z<18446744073709551616∧v=.int .u64 z∧H' r2=some (.cells #[.int .u64 z] 309 (0,0),true)∧∀ b x,b≠r2->H b=some x->H' b=some x:=by
 have hs:=Loud.loud (P:=P)
 refine IsN.m (isn c204) (args:=[pt r2]) rfl ?_
 unfold n204
 have hy1:=hy
 obtain⟨w1,hw1,ew1⟩:=Zlx ((y:Int) * 2 ^ 13)
 have hsh1:bitV .shl .u64 (y:Int) 13=.int .u64 (w1:Int):=congrArg (Value.int .u64) ew1
 obtain⟨z1,hz1,ez1⟩:=Zlx (((BitVec.ofInt IntKind.u64.bits (y:Int) ^^^ BitVec.ofInt IntKind.u64.bits (w1:Int)).toNat:Nat):Int)
 refine wkT ?_
 refine ZbT rfl ?_
 refine wkT ?_
 refine Zaf (hs _) rfl (Zan (cs:=[.int .u64 y]) hy1) ?_
 refine wkT ?_
 refine ZbT rfl ?_
 refine wkT ?_
 refine Zaf (hs _) rfl (Zan (cs:=[.int .u64 y]) hy1) ?_
 refine wkT ?_
 refine Zca rfl rfl (.inr rfl) (by omega) hsh1 ?_
 refine wkT ?_
 refine ZfW (v:=.int .u64 (z1:Int)) rfl rfl (.inr (.inr (.inl rfl))) (congrArg (Value.int .u64) ez1) ?_
 refine wkT ?_
 refine ZbT rfl ?_
 refine wkT ?_
 refine Zaw (tif t235) rfl rfl hy1 rfl rfl (hs _) ?_
 have hy2:(H.ins r2 (.cells #[.int .u64 (z1:Int)] 309)) r2=some (.cells #[.int .u64 (z1:Int)] 309 (0,0),true):=Hp.ins_same _ _ _
 obtain⟨w2,ew2⟩:∃ w:Int,(z1:Int).fdiv (2 ^ 7)=w:=⟨_,rfl⟩
 have hsh2:bitV .shr .u64 (z1:Int) 7=.int .u64 w2:=congrArg (Value.int .u64) ew2
 obtain⟨z2,hz2,ez2⟩:=Zlx (((BitVec.ofInt IntKind.u64.bits (z1:Int) ^^^ BitVec.ofInt IntKind.u64.bits (w2:Int)).toNat:Nat):Int)
 refine wkT ?_
 refine ZbT rfl ?_
 refine wkT ?_
 refine Zaf (hs _) rfl (Zan (cs:=[.int .u64 z1]) hy2) ?_
 refine wkT ?_
 refine ZbT rfl ?_
 refine wkT ?_
 refine Zaf (hs _) rfl (Zan (cs:=[.int .u64 z1]) hy2) ?_
 refine wkT ?_
 refine Zca rfl rfl (.inl rfl) (by omega) hsh2 ?_
 refine wkT ?_
 refine ZfW (v:=.int .u64 (z2:Int)) rfl rfl (.inr (.inr (.inl rfl))) (congrArg (Value.int .u64) ez2) ?_
 refine wkT ?_
 refine ZbT rfl ?_
 refine wkT ?_
 refine Zaw (tif t235) rfl rfl hy2 rfl rfl (hs _) ?_
 rw[Zbb]
 have hy3:(H.ins r2 (.cells #[.int .u64 (z2:Int)] 309)) r2=some (.cells #[.int .u64 (z2:Int)] 309 (0,0),true):=Hp.ins_same _ _ _
 obtain⟨w3,hw3,ew3⟩:=Zlx ((z2:Int) * 2 ^ 17)
 have hsh3:bitV .shl .u64 (z2:Int) 17=.int .u64 (w3:Int):=congrArg (Value.int .u64) ew3
 obtain⟨z3,hz3,ez3⟩:=Zlx (((BitVec.ofInt IntKind.u64.bits (z2:Int) ^^^ BitVec.ofInt IntKind.u64.bits (w3:Int)).toNat:Nat):Int)
 refine wkT ?_
 refine ZbT rfl ?_
 refine wkT ?_
 refine Zaf (hs _) rfl (Zan (cs:=[.int .u64 z2]) hy3) ?_
 refine wkT ?_
 refine ZbT rfl ?_
 refine wkT ?_
 refine Zaf (hs _) rfl (Zan (cs:=[.int .u64 z2]) hy3) ?_
 refine wkT ?_
 refine Zca rfl rfl (.inr rfl) (by omega) hsh3 ?_
 refine wkT ?_
 refine ZfW (v:=.int .u64 (z3:Int)) rfl rfl (.inr (.inr (.inl rfl))) (congrArg (Value.int .u64) ez3) ?_
 refine wkT ?_
 refine ZbT rfl ?_
 refine wkT ?_
 refine Zaw (tif t235) rfl rfl hy3 rfl rfl (hs _) ?_
 rw[Zbb]
 have hy4:(H.ins r2 (.cells #[.int .u64 (z3:Int)] 309)) r2=some (.cells #[.int .u64 (z3:Int)] 309 (0,0),true):=Hp.ins_same _ _ _
 refine wkT ?_
 refine ZbT rfl ?_
 refine wkT ?_
 refine Zaf (hs _) rfl (Zan (cs:=[.int .u64 (z3:Int)]) hy4) ?_
 refine wkT ?_
 exact⟨z3,hz3,rfl,hy4,fun b x hb hx=>by rw[Hp.ins_other _ _ hb];exact hx⟩
end
theorem and_le (z M:Nat)(hM:M<18446744073709551616):((BitVec.ofInt IntKind.u64.bits (z:Int) &&& BitVec.ofInt IntKind.u64.bits (M:Int)).toNat)<=M:=by
 rw[BitVec.toNat_and]
 refine Nat.le_trans Nat.and_le_right ?_
 rw[BitVec.toNat_ofInt]
 simp only[IntKind.bits]
 omega
section
variable  {P:Prg}[Tz P][Loud P]{H:Hp}
theorem om_subU {d:Option Nat}{next:NSt->Hp->Prop}{σ:NSt}{x y:Operand}{m n q:Int}(e1:σ.get x=some (.int .u64 m))(e2:σ.get y=some (.int .u64 n))(hr:IntKind.u64.wrap (m-n)=q)(h:next (σ.set d (.int .u64 q)) H):(NOp.bin .sub x y).m P d next σ H:=by
 subst hr;exact ZaY e1 e2 rfl h
set_option maxHeartbeats 1000000
theorem break_ok {r cap a k n:Nat}{l:List Int}{rest:List Value}(hA:H r=some (.cells (encs l++rest).toArray 3 (0,0),true))(hn:l.length=n)(hk:12<k)(hb:a+k<=n)(hl:n<=60000) :
  LL.Zag P 196 #[.slice (some ⟨r,0,none⟩) n cap,vi a,vi (a+k:Nat)] H fun v H'=>∃ l',AR H H' r l' rest∧Rg a (a+k) l l':=by
 have hs:=Loud.loud (P:=P)
 refine IsN.m (isn c181) (args:=[.slice (some ⟨r,0,none⟩) n cap,vi a,vi (a+k:Nat)]) rfl ?_
 unfold n181
 have ek:(((a+k:Nat):Int)-(a:Int))=(k:Int):=by omega
 have e4:((k:Int)).tdiv 4=((k / 4:Nat):Int):=by rw[Int.tdiv_eq_ediv_of_nonneg (by omega)];omega
 have hpw:=Zmr (m:=k) (by omega)
 refine wkT ?_
 rw[ek]
 refine wiT (fun g1=>?_) (fun g1=>?_)
 ·refine wkT ?_
  refine Zch (und ui3) (und u235) rfl ?_
  rw[ZgE (by omega)]
  refine wkT ?_
  refine Zav (tif t235) (hs _) fun r2 hr2=>?_
  have hr:r2≠r:=by rintro rfl;rw[hA]at hr2;simp at hr2
  refine wkT ?_
  refine Zaw (tif t235) rfl rfl (Hp.ins_same _ _ _) rfl rfl (hs _) ?_
  rw[Zbb]
  have ar1:=(AR.of hA).new (o:=.cells #[.int .u64 (k:Int)] 309) hr2
  have h21:(H.ins r2 (.cells #[.int .u64 (k:Int)] 309)) r2=some (.cells #[.int .u64 (k:Int)] 309 (0,0),true):=Hp.ins_same _ _ _
  generalize H.ins r2 (.cells #[.int .u64 (k:Int)] 309)=H1 at *
  refine wkT ?_
  refine Zab (vs:=[vi k]) rfl (pow2_ok (by omega)) ?_
  rintro v _ ⟨rfl,rfl⟩
  generalize hM:2 ^ len64 k=M at *
  have hM0:1<=M:=by rw[<-hM];exact Nat.one_le_two_pow
  refine wkT ?_
  refine ZfV rfl rfl (by decide) (by rw[e4];exact⟨by omega,by omega⟩) ?_
  rw[e4]
  refine wkT ?_
  refine ZgS rfl rfl ⟨by omega,by omega⟩ ?_
  refine wkT ?_
  have e9:((a:Int)+((k / 4:Nat):Int) * 2-1)=((a+k / 4 * 2-1:Nat):Int):=by omega
  rw[e9]
  refine ZaO (α:=List Int×Nat) 3 (fun t s H'=>AR H H' r s.1 rest∧Rg a (a+k) l s.1∧H' r2=some (.cells #[.int .u64 (s.2:Int)] 309 (0,0),true)) (fun t _=>[(0,.slice (some ⟨r,0,none⟩) n cap),(1,vi a),(6,vi k),(7,pt r2),(8,.int .u64 (M:Int)),(9,vi (a+k / 4 * 2-1+t:Nat))]) (fun _ _=>[]) (l,k) ⟨ar1,.refl l,h21⟩ ⟨rfl,rfl,rfl,rfl,rfl,rfl,trivial⟩ trivial ?_
  rintro t ⟨c,y⟩ H2 ht ⟨ar,rg,hy⟩
  simp only at ar rg hy
  have hcl:=rg.len
  refine wkT ?_
  refine ZfV rfl rfl (by decide) (by rw[e4];exact⟨by omega,by omega⟩) ?_
  rw[e4]
  refine wkT ?_
  refine ZgS rfl rfl ⟨by omega,by omega⟩ ?_
  refine wkT ?_
  refine wiT (fun g2=>?_) (fun g2=>?_)
  ·refine wkT ?_
   refine Zab (vs:=[pt r2]) rfl (ZkY hy) ?_
   rintro v H3 ⟨z,hz,rfl,hz2,hkp⟩
   have ar3:AR H H3 r c rest:=⟨fun b x hb hx=>by
    by_cases e:b=r2
    ·subst e;rw[hr2]at hx;simp at hx
    ·exact hkp b x e (ar.keep b x hb hx),hkp r _ (Ne.symm hr) ar.at_⟩
   have hle:=and_le z (M-1) (by omega)
   generalize ho:(BitVec.ofInt IntKind.u64.bits (z:Int) &&& BitVec.ofInt IntKind.u64.bits ((M-1:Nat):Int)).toNat=o at *
   refine wkT ?_
   refine om_subU (q:=((M-1:Nat):Int)) rfl rfl (by rw[show (M:Int)-1=((M-1:Nat):Int) by omega,ZgE (by omega)]) ?_
   refine wkT ?_
   refine ZfW (v:=.int .u64 (o:Int)) rfl rfl (.inl rfl) (by show Value.int .u64 (IntKind.u64.wrap _)=_;rw[ho,ZgE (by omega)]) ?_
   refine wkT ?_
   refine Zch (und u188) (und ui3) rfl ?_
   rw[ZbZ ⟨by omega,by omega⟩]
   refine wbT ?_
   refine ZbX (fun (q:Nat) H'=>H3=H'∧q<k) (fun q=>[(0,.slice (some ⟨r,0,none⟩) n cap),(1,vi a),(6,vi k),(7,pt r2),(8,.int .u64 (M:Int)),(9,vi (a+k / 4 * 2-1+t:Nat)),(10,vi q)]) (fun _=>[]) ?_ ?_
   ·refine wbT ?_
    refine wiT (fun g3=>?_) (fun g3=>?_)
    ·refine wkT ?_
     exact⟨o-k,⟨rfl,by omega⟩,⟨rfl,rfl,rfl,rfl,rfl,rfl,by show some (vi ((o:Int)-(k:Int)))=some (vi ((o-k:Nat):Int));congr 2;omega,trivial⟩,trivial,rfl⟩
    ·refine wkT ?_
     exact⟨o,⟨rfl,by omega⟩,⟨rfl,rfl,rfl,rfl,rfl,rfl,rfl,trivial⟩,trivial,rfl⟩
   rintro q _ ⟨rfl,hq⟩
   refine wkT ?_
   have ar3':=AR.of ar3.at_
   refine Zak (a+q) rfl rfl (by omega) (by omega) ?_
   refine wkT ?_
   refine Zaf (Loud.loud _) rfl (AR.cA ar3' (by omega) rfl) ?_
   refine wkT ?_
   refine Zak (a+k / 4 * 2-1+t) rfl rfl (by omega) (by omega) ?_
   refine wkT ?_
   refine Zaf (Loud.loud _) rfl (AR.cA ar3' (by omega) rfl) ?_
   refine wkT ?_
   refine Zak (a+k / 4 * 2-1+t) rfl rfl (by omega) (by omega) ?_
   refine wkT ?_
   refine ZaN ar3' (by omega) (Zbg _ _) rfl rfl fun HW arW=>?_
   refine kp_l Loud.loud ?_
   refine wkT ?_
   refine Zak (a+q) rfl rfl (by omega) (by omega) ?_
   refine wkT ?_
   refine ZaN arW (by rw[List.length_set];omega) (Zbg _ _) rfl rfl fun H6 ar6'=>?_
   refine wkT ?_
   have ar6:=ar3.trans ar6'
   have hy6:H6 r2=some (.cells #[.int .u64 (z:Int)] 309 (0,0),true):=ar6'.keep r2 _ hr hz2
   refine⟨(⟨t+1,by omega⟩,(swp c (a+k / 4 * 2-1+t) (a+q),z)),slt (by omega),⟨ar6,.step _ _ rg (by omega) (by omega) (by omega) (by omega),hy6⟩,⟨rfl,rfl,rfl,rfl,rfl,rfl,trivial⟩,trivial,rfl⟩
  ·refine wkT ?_
   exact⟨c,ar,rg⟩
 ·exact absurd g1 (by omega)
end
structure PdI (a0 b0 a b:Nat)(l c:List Int):Prop where
 rg:Rg a0 b0 l c
 h1:a0<=a
 h2:a<=b
 h3:b<=b0
 s1:So a0 a c
 s2:So b b0 c
 s3:∀ x y,a0<=x->x<a->a<=y->y<b0->el c x<=el c y
 s4:∀ x y,a0<=x->x<b->b<=y->y<b0->el c x<=el c y
 lw:Low a0 b0 c
theorem PdI.start {a0 b0:Nat}{l:List Int}(hab:a0<=b0)(lw:Low a0 b0 l):PdI a0 b0 a0 b0 l l:=
 ⟨.refl l,Nat.le_refl _,hab,Nat.le_refl _,Zey l (by omega),Zey l (by omega),fun x y h1 h2=>by omega,fun x y h1 h2 h3 h4=>by omega,lw⟩
theorem PdI.step {a0 b0 a b:Nat}{l c c':List Int}(h:PdI a0 b0 a b l c)(r:Rg a b c c')(hb:b0<=c.length):PdI a0 b0 a b l c':=by
 have g1:=h.h1
 have g2:=h.h2
 have g3:=h.h3
 have out:∀ k,(k<a∨b<=k)->el c' k=el c k:=fun k hk=>r.out (by omega) hk
 have r':Rg a0 b0 c c':=r.mono g1 g3
 refine⟨h.rg.trans r',g1,g2,g3,fun x y x1 x2 x3=>?_,fun x y x1 x2 x3=>?_,fun x y x1 x2 x3 x4=>?_,fun x y x1 x2 x3 x4=>?_,h.lw.rg r' hb⟩
 ·rw[out x (.inl (by omega)),out y (.inl x3)];exact h.s1 x y x1 x2 x3
 ·rw[out x (.inr x1),out y (.inr (by omega))];exact h.s2 x y x1 x2 x3
 ·rw[out x (.inl x2)]
  by_cases e:y<b
  ·exact r.all (by omega) (p:=fun v=>el c x<=v) (fun k k1 k2=>h.s3 x k x1 x2 k1 (by omega)) y x3 e
  ·rw[out y (.inr (by omega))];exact h.s3 x y x1 x2 x3 x4
 ·rw[out y (.inr x3)]
  by_cases e:a<=x
  ·exact r.all (by omega) (p:=fun v=>v<=el c y) (fun k k1 k2=>h.s4 k y (by omega) k2 x3 x4) x e x2
  ·rw[out x (.inl (by omega))];exact h.s4 x y x1 x2 x3 x4
theorem PdI.fin {a0 b0 a b:Nat}{l c:List Int}(h:PdI a0 b0 a b l c)(s:So a b c):So a0 b0 c:=by
 have g1:=h.h1
 have g2:=h.h2
 have g3:=h.h3
 intro x y x1 x2 x3
 by_cases e1:x<a
 ·by_cases e2:y<a
  ·exact h.s1 x y x1 x2 e2
  ·exact h.s3 x y x1 e1 (by omega) x3
 ·by_cases e2:y<b
  ·exact s x y (by omega) x2 e2
  ·by_cases e3:x<b
   ·exact h.s4 x y x1 e3 (by omega) x3
   ·exact h.s2 x y (by omega) x2 x3
theorem PdI.low {a0 b0 a b:Nat}{l c:List Int}(h:PdI a0 b0 a b l c):Low a b c:=by
 have g1:=h.h1
 have g3:=h.h3
 by_cases e:a=a0
 ·subst e
  exact h.lw.imp id fun hh k k1 k2=>hh k k1 (by omega)
 ·exact .inr fun k k1 k2=>h.s3 _ k (by omega) (by omega) k1 (by omega)
theorem PdI.left {a0 b0 a b q:Nat}{l c:List Int}(h:PdI a0 b0 a b l c)(h1:a<=q)(h2:q<=b)(s:So a q c)(hx:∀ x y,a<=x->x<q->q<=y->y<b->el c x<=el c y):PdI a0 b0 q b l c:=by
 have g1:=h.h1
 have g3:=h.h3
 refine⟨h.rg,by omega,h2,g3,fun x y x1 x2 x3=>?_,h.s2,fun x y x1 x2 x3 x4=>?_,h.s4,h.lw⟩
 ·by_cases e1:x<a
  ·by_cases e2:y<a
   ·exact h.s1 x y x1 x2 e2
   ·exact h.s3 x y x1 e1 (by omega) (by omega)
  ·exact s x y (by omega) x2 x3
 ·by_cases e1:x<a
  ·exact h.s3 x y x1 e1 (by omega) x4
  ·by_cases e2:y<b
   ·exact hx x y (by omega) x2 x3 e2
   ·exact h.s4 x y x1 (by omega) (by omega) x4
theorem PdI.right {a0 b0 a b q:Nat}{l c:List Int}(h:PdI a0 b0 a b l c)(h1:a<=q)(h2:q<=b)(s:So q b c)(hx:∀ x y,a<=x->x<q->q<=y->y<b->el c x<=el c y):PdI a0 b0 a q l c:=by
 have g1:=h.h1
 have g3:=h.h3
 refine⟨h.rg,g1,h1,by omega,h.s1,fun x y x1 x2 x3=>?_,h.s3,fun x y x1 x2 x3 x4=>?_,h.lw⟩
 ·by_cases e1:y<b
  ·exact s x y x1 x2 e1
  ·by_cases e2:x<b
   ·exact h.s4 x y (by omega) e2 (by omega) x3
   ·exact h.s2 x y (by omega) x2 x3
 ·by_cases e1:x<a
  ·exact h.s3 x y x1 e1 (by omega) x4
  ·by_cases e2:y<b
   ·exact hx x y (by omega) x2 x3 e2
   ·exact h.s4 x y x1 (by omega) (by omega) x4
theorem qLtN0 {G:Prop} (h:G:=by
  refine wkT ?_
  exact⟨c6,⟨ar6,pd6⟩,⟨rfl,rfl,rfl,rfl,rfl,rfl,rfl,rfl,trivial⟩,trivial,rfl⟩):G:=h
section
variable  {P:Prg}[Tz P][Loud P]
set_option maxHeartbeats 2000000
theorem ZhT {r cap a b n:Nat}{l:List Int}{rest:List Value}{H:Hp}(hA:H r=some (.cells (encs l++rest).toArray 3 (0,0),true))(hn:l.length=n)(hab:a<=b)(hb:b<=n)(hl:n<=1000000) :
  LL.Zag P 194 #[.slice (some ⟨r,0,none⟩) n cap,vi a,vi b] H fun v H'=>∃ l',AR H H' r l' rest∧Rg a b l l'∧So a b l':=by
 subst hn;exact ZiH hA hab hb hl
theorem ZiJ {r cap a hi n:Nat}{l:List Int}{rest:List Value}{H:Hp}(hA:H r=some (.cells (encs l++rest).toArray 3 (0,0),true))(hn:l.length=n)(hb:a+hi<=n)(hl:n<=1000000) :
  LL.Zag P 195 #[.slice (some ⟨r,0,none⟩) n cap,vi a,vi (a+hi:Nat)] H fun v H'=>∃ l',AR H H' r l' rest∧Rg a (a+hi) l l'∧So a (a+hi) l':=by
 subst hn;exact Zjp hA hb hl
abbrev pdE (r n cap a b lim:Nat)(f g:Bool):List (Nat×Value):=[(0,.slice (some ⟨r,0,none⟩) n cap),(1,vi a),(2,vi b),(3,vi lim),(8,vb f),(9,vb g)]
theorem pdq_ok {r cap n:Nat}{rest:List Value}(hl:n<=60000):∀ (N a0 b0 lim:Nat) (l:List Int) (H:Hp),b0-a0<=N->H r=some (.cells (encs l++rest).toArray 3 (0,0),true)->l.length=n->a0<=b0->b0<=n->lim<=100->Low a0 b0 l ->
  LL.Zag P 151 #[.slice (some ⟨r,0,none⟩) n cap,vi a0,vi b0,vi lim] H fun v H'=>∃ l',AR H H' r l' rest∧Rg a0 b0 l l'∧So a0 b0 l':=by
 intro N
 induction N using Nat.strongRecOn with
 | _ N ih=>
 intro a0 b0 lim0 l H hN hA hn hab hb hlim lw
 have hs:=Loud.loud (P:=P)
 refine IsN.m (isn c148) (args:=[.slice (some ⟨r,0,none⟩) n cap,vi a0,vi b0,vi lim0]) rfl ?_
 unfold n148
 refine wbT ?_
 refine ZaO (α:=List Int×(Nat×Nat)×Nat×Bool×Bool) (b0-a0) (fun t s H'=>AR H H' r s.1 rest∧PdI a0 b0 s.2.1.1 s.2.1.2 l s.1∧s.2.2.1<=100∧s.2.1.2-s.2.1.1+t=b0-a0)
  (fun t s=>pdE r n cap s.2.1.1 s.2.1.2 s.2.2.1 s.2.2.2.1 s.2.2.2.2) (fun _ _=>[]) (l,(a0,b0),lim0,true,true) ⟨AR.of hA,.start hab lw,hlim,rfl⟩ ⟨rfl,rfl,rfl,rfl,rfl,rfl,trivial⟩ trivial ?_
 rintro t ⟨c,⟨a,b⟩,lim,f,g⟩ H1 ht ⟨ar,pd,hlm,hm⟩
 simp only at ar pd hlm hm
 have hcl:=pd.rg.len
 have g1:=pd.h1
 have g2:=pd.h2
 have g3:=pd.h3
 obtain⟨d,rfl⟩:∃ d,b=a+d:=⟨b-a,by omega⟩
 have ed:(((a+d:Nat):Int)-(a:Int))=(d:Int):=by omega
 have hbn:a+d<=n:=by omega
 have es:stOf ((env0 [.slice (some ⟨r,0,none⟩) n cap,vi a0,vi b0,vi lim0]).defs) (pdE r n cap a (a+d) lim f g) []=stOf [] (pdE r n cap a (a+d) lim f g) []:=rfl
 dsimp only[pdE]
 have hb0:b0<=c.length:=by omega
 refine wbT ?_
 rw[ed]
 refine wbT ?_
 refine Zbn ?_
 refine wbT ?_
 refine wiT (fun c1=>?_) (fun c1=>?_)
 ·refine wkT ?_
  refine Zab (vs:=[.slice (some ⟨r,0,none⟩) n cap,vi a,vi (a+d:Nat)]) rfl (ZhT ar.at_ (by omega) (by omega) hbn (by omega)) ?_
  rintro v H2 ⟨c2,ar2,rg2,so2⟩
  refine wkT ?_
  have pd2:=pd.step rg2 hb0
  exact⟨c2,ar.trans ar2,pd2.rg,pd2.fin so2⟩
 ·have c1:12<d:=by omega
  refine wbT ?_
  refine Zbn ?_
  refine wbT ?_
  refine wiT (fun c2=>?_) (fun c2=>?_)
  ·refine wkT ?_
   refine Zab (vs:=[.slice (some ⟨r,0,none⟩) n cap,vi a,vi (a+d:Nat)]) rfl (ZiJ ar.at_ (by omega) hbn (by omega)) ?_
   rintro v H2 ⟨c2,ar2,rg2,so2⟩
   refine wkT ?_
   have pd2:=pd.step rg2 hb0
   exact⟨c2,ar.trans ar2,pd2.rg,pd2.fin so2⟩
  ·refine wbT ?_
   refine ZbX (fun (s:List Int×Nat) H'=>AR H H' r s.1 rest∧PdI a0 b0 a (a+d) l s.1∧s.2<=100) (fun s=>(10,vi d) :: pdE r n cap a (a+d) s.2 f g) (fun _=>[]) ?_ ?_
   ·refine wbT ?_
    refine wiT (fun c3=>?_) (fun c3=>?_)
    ·refine wkT ?_
     refine Zab (vs:=[.slice (some ⟨r,0,none⟩) n cap,vi a,vi (a+d:Nat)]) rfl (break_ok ar.at_ (by omega) c1 hbn hl) ?_
     rintro v H2 ⟨c2',ar2,rg2⟩
     refine wkT ?_
     exact⟨(c2',lim-1),⟨ar.trans ar2,pd.step rg2 hb0,by show lim-1<=100;omega⟩,⟨rfl,rfl,rfl,rfl,by show some (vi ((lim:Int)-1))=some (vi ((lim-1:Nat):Int));congr 2;omega,rfl,rfl,trivial⟩,trivial,rfl⟩
    ·refine wkT ?_
     exact⟨(c,lim),⟨ar,pd,hlm⟩,⟨rfl,rfl,rfl,rfl,rfl,rfl,rfl,trivial⟩,trivial,rfl⟩
   rintro⟨c3,lim3⟩ H3 ⟨ar3,pd3,hl3⟩
   simp only at ar3 pd3 hl3
   have hc3:=pd3.rg.len
   refine wbT ?_
   refine Zab (vs:=[.slice (some ⟨r,0,none⟩) n cap,vi a,vi (a+d:Nat)]) rfl (ZmN ar3.at_ (by omega) (by omega) hbn (by omega)) ?_
   rintro v H4 ⟨p4,h4,i4,rfl,p41,p42⟩
   have ar4:AR H H4 r c3 rest:=⟨fun b x hb hx=>i4 _ _ (ar3.keep b x hb hx),i4 _ _ ar3.at_⟩
   refine wbT ?_
   refine ZbX (fun (s:List Int×Nat×Int) H'=>AR H H' r s.1 rest∧PdI a0 b0 a (a+d) l s.1∧a<=s.2.1∧s.2.1<a+d) (fun s=>(10,vi d) :: (11,vi s.2.1) :: (12,vi s.2.2) :: pdE r n cap a (a+d) lim3 f g) (fun _=>[]) ?_ ?_
   ·refine wbT ?_
    refine wiT (fun c5=>?_) (fun c5=>?_)
    ·refine wkT ?_
     refine Zab (vs:=[.slice (some ⟨r,0,none⟩) n cap,vi a,vi (a+d:Nat)]) rfl (ZkM ar4.at_ (by omega) (by omega) hbn (by omega)) ?_
     rintro v H5 ⟨c5',ar5,rg5⟩
     refine wkT ?_
     exact⟨(c5',a+d-1-(p4-a),1),⟨ar4.trans ar5,pd3.step rg5 (by omega),by show a<=a+d-1-(p4-a);omega,by show a+d-1-(p4-a)<a+d;omega⟩,⟨rfl,by show some (vi _)=some (vi _);congr 2;show ((a+d:Nat):Int)-1-((p4:Int)-(a:Int))=((a+d-1-(p4-a):Nat):Int);omega,rfl,rfl,rfl,rfl,rfl,rfl,rfl,trivial⟩,trivial,rfl⟩
    ·refine wkT ?_
     exact⟨(c3,p4,h4),⟨ar4,pd3,p41,p42⟩,⟨rfl,rfl,rfl,rfl,rfl,rfl,rfl,rfl,rfl,trivial⟩,trivial,rfl⟩
   rintro⟨c6,p6,h6⟩ H6 ⟨ar6,pd6,q61,q62⟩
   simp only at ar6 pd6 q61 q62
   have hc6:=pd6.rg.len
   refine wbT ?_
   refine ZbX (fun (s:List Int) H'=>AR H H' r s rest∧PdI a0 b0 a (a+d) l s) (fun _=>(10,vi d) :: (11,vi p6) :: pdE r n cap a (a+d) lim3 f g) (fun _=>[]) ?_ ?_
   ·cases f
    ·exact qLtN0
    ·cases g
     ·exact qLtN0
     ·refine wkT ?_
      refine wiT (fun c7=>?_) (fun c7=>?_)
      ·refine wkT ?_
       refine Zab (vs:=[.slice (some ⟨r,0,none⟩) n cap,vi a,vi (a+d:Nat)]) rfl (ZkU ar6.at_ (by omega) (by omega) hbn (by omega) pd6.low) ?_
       rintro v H7 ⟨c7',t7,ar7,rg7,rfl,so7⟩
       have pd7:=pd6.step rg7 (by omega)
       refine wkT ?_
       refine wiT (fun c8=>?_) (fun c8=>?_)
       ·refine wkT ?_
        exact⟨c7',ar6.trans ar7,pd7.rg,pd7.fin (so7 c8)⟩
       ·refine wkT ?_
        exact⟨c7',⟨ar6.trans ar7,pd7⟩,⟨rfl,rfl,rfl,rfl,rfl,rfl,rfl,rfl,trivial⟩,trivial,rfl⟩
      ·exact qLtN0
   rintro c8 H8 ⟨ar8,pd8⟩
   have hc8:=pd8.rg.len
   refine wbT ?_
   refine ZbX (fun (_:Unit) H'=>H8=H') (fun _=>(10,vi d) :: (11,vi p6) :: pdE r n cap a (a+d) lim3 f g) (fun _=>[]) ?_ ?_
   ·refine wbT ?_
    refine wiT (fun k1=>?_) (fun k1=>?_)
    ·have k1:0<a:=by omega
     refine wkT ?_
     refine Zak (a-1) rfl rfl (by omega) (by omega) ?_
     refine wkT ?_
     refine Zaf (hs _) rfl (ar8.cA (by omega) rfl) ?_
     refine wkT ?_
     refine Zak p6 rfl rfl rfl (by omega) ?_
     refine wkT ?_
     refine Zaf (hs _) rfl (ar8.cA (by omega) rfl) ?_
     refine wkT ?_
     refine Zab (vs:=[vi (el c8 (a-1)),vi (el c8 p6)]) rfl (ZbB _ _) ?_
     rintro w _ ⟨rfl,rfl⟩
     refine wkT ?_
     refine wiT (fun k2=>?_) (fun k2=>?_)
     ·refine wkT ?_
      refine Zab (vs:=[.slice (some ⟨r,0,none⟩) n cap,vi a,vi (a+d:Nat),vi p6]) rfl (Zl0 ar8.at_ (by omega) q61 q62 hbn (by omega)) ?_
      rintro v H9 ⟨c9,q9,ar9,rg9,pe9,rfl⟩
      have hc9:=rg9.len
      have lo9:∀ k,a<=k->k<a+d->el c8 p6<=el c9 k:=rg9.all (by omega) (p:=fun v=>el c8 p6<=v) (fun k k1' k2'=>by
       rcases pd8.low with h | h
       ·omega
       ·have:=h k k1' k2';omega)
      obtain⟨e1,e2,e3,e4⟩:=pe9
      have pd9:=(pd8.step rg9 (by omega)).left (q:=q9) (by omega) e2 (fun x y x1 x2 x3=>by have:=e3 x x1 (by omega);have:=lo9 y (by omega) (by omega);omega) (fun x y x1 x2 x3 x4=>by have:=e3 x x1 x2;have:=e4 y x3 x4;omega)
      refine wkT ?_
      refine⟨(⟨b0-a0-(a+d-q9),by omega⟩,(c9,(q9,a+d),lim3,f,g)),?_,⟨ar8.trans ar9,pd9,hl3,?_⟩,⟨rfl,rfl,rfl,rfl,rfl,rfl,trivial⟩,trivial,rfl⟩
      ·show b0-a0-(b0-a0-(a+d-q9))<b0-a0-t
       omega
      ·show a+d-q9+(b0-a0-(a+d-q9))=b0-a0
       omega
     ·refine wkT ?_
      exact⟨(),rfl,⟨rfl,rfl,rfl,rfl,rfl,rfl,rfl,rfl,trivial⟩,trivial,rfl⟩
    ·refine wkT ?_
     exact⟨(),rfl,⟨rfl,rfl,rfl,rfl,rfl,rfl,rfl,rfl,trivial⟩,trivial,rfl⟩
   rintro _ _ rfl
   refine wbT ?_
   refine Zab (vs:=[.slice (some ⟨r,0,none⟩) n cap,vi a,vi (a+d:Nat),vi p6]) rfl (Zin ar8.at_ (by omega) q61 q62 hbn (by omega)) ?_
   rintro v H9 ⟨c9,q9,t9,ar9,rg9,⟨e1,e2,e3,e4⟩,rfl⟩
   have hc9:=rg9.len
   have pd9:=pd8.step rg9 (by omega)
   have e8:((d:Int)).tdiv 8=((d / 8:Nat):Int):=by rw[Int.tdiv_eq_ediv_of_nonneg (by omega)];omega
   refine wkT ?_
   refine ZfV rfl rfl (by decide) (by rw[e8];exact⟨by omega,by omega⟩) ?_
   refine wkT ?_
   refine wiT (fun k3=>?_) (fun k3=>?_)
   ·refine wkT ?_
    refine Zab (vs:=[.slice (some ⟨r,0,none⟩) n cap,vi a,vi q9,vi lim3]) rfl (ih (q9-a) (by omega) a q9 lim3 c9 H9 (Nat.le_refl _) ar9.at_ (by omega) e1 (by omega) hl3 (pd9.low.imp id fun h k k1 k2=>h k k1 (by omega))) ?_
    rintro v H10 ⟨c10,ar10,rg10,so10⟩
    have out:∀ k,q9<=k->el c10 k=el c9 k:=fun k hk=>rg10.out (by omega) (.inr hk)
    have lo:∀ k,a<=k->k<q9->el c10 k<=el c9 q9:=rg10.all (by omega) (p:=fun v=>v<=el c9 q9) e3
    have pd10:=(pd9.step (rg10.mono (Nat.le_refl _) (by omega)) (by omega)).left (q:=q9+1) (by omega) (by omega) (fun x y x1 x2 x3=>by
     by_cases e:y<q9
     ·exact so10 x y x1 x2 e
     ·have ey:y=q9:=by omega
      subst ey
      by_cases ex:x=y
      ·subst ex;exact Int.le_refl _
      ·rw[out y (Nat.le_refl _)];exact lo x x1 (by omega)) (fun x y x1 x2 x3 x4=>by
     rw[out y (by omega)]
     have h4:=e4 y (by omega) x4
     by_cases ex:x=q9
     ·subst ex;rw[out x (Nat.le_refl _)];exact h4
     ·exact Int.le_trans (lo x x1 (by omega)) h4)
    refine wkT ?_
    refine⟨(⟨b0-a0-(a+d-(q9+1)),by omega⟩,(c10,(q9+1,a+d),lim3,_,t9)),?_,⟨(ar8.trans ar9).trans ar10,pd10,hl3,?_⟩,⟨rfl,rfl,rfl,rfl,rfl,rfl,trivial⟩,trivial,rfl⟩
    ·show b0-a0-(b0-a0-(a+d-(q9+1)))<b0-a0-t
     omega
    ·show a+d-(q9+1)+(b0-a0-(a+d-(q9+1)))=b0-a0
     omega
   ·refine wkT ?_
    refine Zab (vs:=[.slice (some ⟨r,0,none⟩) n cap,vi (q9+1:Nat),vi (a+d:Nat),vi lim3]) rfl (ih (a+d-(q9+1)) (by omega) (q9+1) (a+d) lim3 c9 H9 (Nat.le_refl _) ar9.at_ (by omega) (by omega) hbn hl3 (.inr fun k k1 k2=>e4 k (by omega) k2)) ?_
    rintro v H10 ⟨c10,ar10,rg10,so10⟩
    have out:∀ k,k<=q9->el c10 k=el c9 k:=fun k hk=>rg10.out (by omega) (.inl (by omega))
    have lo:∀ k,q9+1<=k->k<a+d->el c9 q9<=el c10 k:=rg10.all (by omega) (p:=fun v=>el c9 q9<=v) (fun k k1 k2=>e4 k (by omega) k2)
    have pd10:=(pd9.step (rg10.mono (by omega) (Nat.le_refl _)) (by omega)).right (q:=q9) e1 (by omega) (fun x y x1 x2 x3=>by
     by_cases e:q9<x
     ·exact so10 x y (by omega) x2 x3
     ·have ex:x=q9:=by omega
      subst ex
      by_cases ey:y=x
      ·subst ey;exact Int.le_refl _
      ·rw[out x (Nat.le_refl _)];exact lo y (by omega) x3) (fun x y x1 x2 x3 x4=>by
     rw[out x (by omega)]
     have h3:=e3 x x1 x2
     by_cases ey:y=q9
     ·subst ey;rw[out y (Nat.le_refl _)];exact h3
     ·exact Int.le_trans h3 (lo y (by omega) x4))
    refine wkT ?_
    refine⟨(⟨b0-a0-(q9-a),by omega⟩,(c10,(a,q9),lim3,_,t9)),?_,⟨(ar8.trans ar9).trans ar10,pd10,hl3,?_⟩,⟨rfl,rfl,rfl,rfl,rfl,rfl,trivial⟩,trivial,rfl⟩
    ·show b0-a0-(b0-a0-(q9-a))<b0-a0-t
     omega
    ·show q9-a+(b0-a0-(q9-a))=b0-a0
     omega
end
end Go.Proofs
end
