import Derived.Test.YtamdhefhhdgjbaaGreatDoorN21
import Derived.Test.YtamdhefhhdgjbaaGreatDoorN22
set_option linter.all false
section
namespace Go.LL
theorem Zip {G:Prop} (h:G:=by
  rw[h.mod,h.div]at this
  refine this.trans ?_
  congr 2
  rcases le1 h.L with e | e<;>rcases le1 h.W with e2 | e2<;>rcases le1 h.S with e3 | e3<;>rw[e,e2,e3]<;>(unfold stv;simp<;>omega)):G:=h
theorem Ze5 {G:Prop} (h:G:=by
  rw[h.mod]at this
  refine this.trans ?_
  rcases le1 h.L with e | e<;>rcases le1 h.W with e2 | e2<;>rcases le1 h.S with e3 | e3<;>rw[e,e2,e3]<;>rfl):G:=h
theorem and_low (x k:Nat)(hk:k<8):x &&& k=(x % 8) &&& k:=by
 refine Nat.eq_of_testBit_eq fun i=>?_
 rw[Nat.testBit_and,Nat.testBit_and,show (8:Nat)=2 ^ 3 from rfl,Nat.testBit_mod_two_pow]
 by_cases h:i<3
 ·simp[h]
 ·have:k.testBit i=false:=Nat.testBit_lt_two_pow (Nat.lt_of_lt_of_le hk (by rw[show (8:Nat)=2 ^ 3 from rfl];exact Nat.pow_le_pow_right (by decide) (by omega)))
  simp[this]
theorem or_low (x k:Nat)(hk:k<8):x ||| k=8 * (x / 8)+((x % 8) ||| k):=by
 have hlt:(x % 8) ||| k<2 ^ 3:=Nat.or_lt_two_pow (Nat.mod_lt _ (by decide)) hk
 refine Nat.eq_of_testBit_eq fun i=>?_
 rw[show 8 * (x / 8)=2 ^ 3 * (x / 8) from rfl,Nat.testBit_two_pow_mul_add _ hlt,Nat.testBit_or,Nat.testBit_or,show (8:Nat)=2 ^ 3 from rfl,Nat.testBit_mod_two_pow,Nat.testBit_div_two_pow]
 by_cases h:i<3
 ·simp[h]
 ·have:k.testBit i=false:=Nat.testBit_lt_two_pow (Nat.lt_of_lt_of_le hk (by rw[show (8:Nat)=2 ^ 3 from rfl];exact Nat.pow_le_pow_right (by decide) (by omega)))
  have e:i-3+3=i:=by omega
  simp[h,this,e]
theorem ZmH (x k:Nat)(hk:k<8)(hx:x<4294967296):x &&& (4294967295-k)=8 * (x / 8)+((x % 8) &&& (7-k)):=by
 have hlt:(x % 8) &&& (7-k)<2 ^ 3:=Nat.and_lt_two_pow _ (by omega)
 have e0:4294967295-k=2 ^ 3 * 536870911+(7-k):=by omega
 have hk2:7-k<2 ^ 3:=by omega
 refine Nat.eq_of_testBit_eq fun i=>?_
 rw[show 8 * (x / 8)=2 ^ 3 * (x / 8) from rfl,Nat.testBit_two_pow_mul_add _ hlt,Nat.testBit_and,e0,Nat.testBit_two_pow_mul_add _ hk2,Nat.testBit_and,show (8:Nat)=2 ^ 3 from rfl,Nat.testBit_mod_two_pow,Nat.testBit_div_two_pow]
 by_cases h:i<3
 ·simp[h]
 ·have e:i-3+3=i:=by omega
  simp only[h,if_false,e]
  rw[show (536870911:Nat)=2 ^ 29-1 from rfl,Nat.testBit_two_pow_sub_one]
  by_cases h2:i-3<29
  ·simp[h2]
  ·have:x.testBit i=false:=Nat.testBit_lt_two_pow (Nat.lt_of_lt_of_le hx (by rw[show (4294967296:Nat)=2 ^ 32 from rfl];exact Nat.pow_le_pow_right (by decide) (by omega)))
   simp[this]
theorem Zee {z:Int}(h1:0<=z)(h2:z<2147483648):IntKind.i32.wrap z=z:=by
 simp only[IntKind.wrap,IntKind.bits,IntKind.signed]
 simp
 omega
theorem ZcT (x:Nat)(hx:x<4294967296):(BitVec.ofInt 32 (x:Nat)).toNat=x:=by
 simp[BitVec.toNat_ofInt];omega
theorem Zfq {x k:Nat}(hx:x<2147483648)(hk:k<8):bitV .and .i32 (x:Nat) (k:Nat)=.int .i32 (((x % 8) &&& k:Nat):Int):=by
 have hx':x<4294967296:=by omega
 have hk':k<4294967296:=by omega
 have hle:x &&& k<=x:=Nat.and_le_left
 show Value.int .i32 (IntKind.i32.wrap ((BitVec.ofInt 32 (x:Nat) &&& BitVec.ofInt 32 (k:Nat)).toNat:Nat))=_
 rw[BitVec.toNat_and,ZcT x hx',ZcT k hk',Zee (by omega) (by omega),and_low x k hk]
theorem ZoP {x k:Nat}(hx:x<2147483640)(hk:k<8):bitV .or .i32 (x:Nat) (k:Nat)=.int .i32 ((8 * (x / 8)+((x % 8) ||| k):Nat):Int):=by
 have hx':x<4294967296:=by omega
 have hk':k<4294967296:=by omega
 have hlt:(x % 8) ||| k<2 ^ 3:=Nat.or_lt_two_pow (Nat.mod_lt _ (by decide)) hk
 have e:=or_low x k hk
 show Value.int .i32 (IntKind.i32.wrap ((BitVec.ofInt 32 (x:Nat) ||| BitVec.ofInt 32 (k:Nat)).toNat:Nat))=_
 rw[BitVec.toNat_or,ZcT x hx',ZcT k hk',e,Zee (by omega) (by omega)]
theorem ZmE {x k:Nat}(hx:x<2147483640)(hk:k<8):bitV .andNot .i32 (x:Nat) (k:Nat)=.int .i32 ((8 * (x / 8)+((x % 8) &&& (7-k)):Nat):Int):=by
 have hx':x<4294967296:=by omega
 have hk':k<4294967296:=by omega
 have hlt:(x % 8) &&& (7-k)<2 ^ 3:=Nat.and_lt_two_pow _ (by omega)
 have e:=ZmH x k hk hx'
 show Value.int .i32 (IntKind.i32.wrap ((BitVec.ofInt 32 (x:Nat) &&& ~~~ BitVec.ofInt 32 (k:Nat)).toNat:Nat))=_
 rw[BitVec.toNat_and,BitVec.toNat_not,ZcT x hx',ZcT k hk',show 2 ^ 32-1-k=4294967295-k from rfl,e,Zee (by omega) (by omega)]
theorem bit_shr {x:Nat}:bitV .shr .i32 (x:Nat) (3:Nat)=.int .i32 ((x / 8:Nat):Int):=by
 show Value.int .i32 (Int.fdiv (x:Nat) (2 ^ min (Int.toNat ((3:Nat):Int)) 32))=_
 have:(2:Int) ^ min (Int.toNat ((3:Nat):Int)) 32=8:=rfl
 rw[this,Int.fdiv_eq_ediv_of_nonneg _ (by omega)]
 simp
section
variable  {L W S n:Nat}
structure Zdk (L W S n:Nat):Prop where
 L:L<=1
 W:W<=1
 S:S<=1
 n:n<=260000000
theorem Bits.w (h:Bits L W S n):Zdk L W S n:=⟨h.L,h.W,h.S,by have:=h.n;omega⟩
theorem Zdk.mod (h:Zdk L W S n):stv L W S n % 8=L+2 * W+4 * S:=by
 obtain⟨a,b,c,d⟩:=h
 unfold stv;omega
theorem Zdk.div (h:Zdk L W S n):stv L W S n / 8=n:=by
 obtain⟨a,b,c,d⟩:=h
 unfold stv;omega
theorem Zdk.lt (h:Zdk L W S n):stv L W S n<2147483640:=by
 obtain⟨a,b,c,d⟩:=h
 unfold stv;omega
theorem le1 {x:Nat}(h:x<=1):x=0∨x=1:=by omega
theorem Zdk.and5 (h:Zdk L W S n):bitV .and .i32 (stv L W S n:Nat) 5=.int .i32 ((L+4 * S:Nat):Int):=by
 have:=Zfq (x:=stv L W S n) (k:=5) (by have:=h.lt;omega) (by decide)
 exact Ze5
theorem Zdk.and1 (h:Zdk L W S n):bitV .and .i32 (stv L W S n:Nat) 1=.int .i32 ((L:Nat):Int):=by
 have:=Zfq (x:=stv L W S n) (k:=1) (by have:=h.lt;omega) (by decide)
 exact Ze5
theorem Zdk.and2 (h:Zdk L W S n):bitV .and .i32 (stv L W S n:Nat) 2=.int .i32 ((2 * W:Nat):Int):=by
 have:=Zfq (x:=stv L W S n) (k:=2) (by have:=h.lt;omega) (by decide)
 exact Ze5
theorem Zdk.and3 (h:Zdk L W S n):bitV .and .i32 (stv L W S n:Nat) 3=.int .i32 ((L+2 * W:Nat):Int):=by
 have:=Zfq (x:=stv L W S n) (k:=3) (by have:=h.lt;omega) (by decide)
 exact Ze5
theorem Zdk.and4 (h:Zdk L W S n):bitV .and .i32 (stv L W S n:Nat) 4=.int .i32 ((4 * S:Nat):Int):=by
 have:=Zfq (x:=stv L W S n) (k:=4) (by have:=h.lt;omega) (by decide)
 exact Ze5
theorem Zdk.and7 (h:Zdk L W S n):bitV .and .i32 (stv L W S n:Nat) 7=.int .i32 ((L+2 * W+4 * S:Nat):Int):=by
 have:=Zfq (x:=stv L W S n) (k:=7) (by have:=h.lt;omega) (by decide)
 exact Ze5
theorem Zdk.or1 (h:Zdk L W S n):bitV .or .i32 (stv L W S n:Nat) 1=.int .i32 ((stv 1 W S n:Nat):Int):=by
 have:=ZoP (x:=stv L W S n) (k:=1) h.lt (by decide)
 exact Zip
theorem Zdk.or2 (h:Zdk L W S n):bitV .or .i32 (stv L W S n:Nat) 2=.int .i32 ((stv L 1 S n:Nat):Int):=by
 have:=ZoP (x:=stv L W S n) (k:=2) h.lt (by decide)
 exact Zip
theorem Zdk.or4 (h:Zdk L W S n):bitV .or .i32 (stv L W S n:Nat) 4=.int .i32 ((stv L W 1 n:Nat):Int):=by
 have:=ZoP (x:=stv L W S n) (k:=4) h.lt (by decide)
 exact Zip
theorem Zdk.not2 (h:Zdk L W S n):bitV .andNot .i32 (stv L W S n:Nat) 2=.int .i32 ((stv L 0 S n:Nat):Int):=by
 have:=ZmE (x:=stv L W S n) (k:=2) h.lt (by decide)
 exact Zip
theorem Zdk.shr3 (h:Zdk L W S n):bitV .shr .i32 (stv L W S n:Nat) 3=.int .i32 ((n:Nat):Int):=by
 refine bit_shr.trans ?_
 rw[h.div]
theorem Zdk.add8 (h:Zdk L W S n):IntKind.i32.wrap ((stv L W S n:Nat)+8)=((stv L W S (n+1):Nat):Int):=by
 have:=h.lt
 have e:((stv L W S n:Nat):Int)+8=((stv L W S (n+1):Nat):Int):=by unfold stv;omega
 rw[<-e,Zee (by omega) (by omega)]
theorem Zdk.sub8 (h:Zdk L W S (n+1)):bitV .sub .i32 (stv L W S (n+1):Nat) 8=.int .i32 ((stv L W S n:Nat):Int):=by
 have:=h.lt
 show Value.int .i32 (IntKind.i32.wrap (((stv L W S (n+1):Nat):Int)-8))=_
 have e:((stv L W S (n+1):Nat):Int)-8=((stv L W S n:Nat):Int):=by unfold stv;omega
 rw[e,Zee (by omega) (by unfold stv at this ⊢;omega)]
theorem Bits.lt (h:Bits L W S n):stv L W S n<2147483640:=h.w.lt
theorem Bits.and5 (h:Bits L W S n):bitV .and .i32 (stv L W S n:Nat) 5=.int .i32 ((L+4 * S:Nat):Int):=h.w.and5
theorem Bits.and1 (h:Bits L W S n):bitV .and .i32 (stv L W S n:Nat) 1=.int .i32 ((L:Nat):Int):=h.w.and1
theorem Bits.and2 (h:Bits L W S n):bitV .and .i32 (stv L W S n:Nat) 2=.int .i32 ((2 * W:Nat):Int):=h.w.and2
theorem Bits.and3 (h:Bits L W S n):bitV .and .i32 (stv L W S n:Nat) 3=.int .i32 ((L+2 * W:Nat):Int):=h.w.and3
theorem Bits.and4 (h:Bits L W S n):bitV .and .i32 (stv L W S n:Nat) 4=.int .i32 ((4 * S:Nat):Int):=h.w.and4
theorem Bits.and7 (h:Bits L W S n):bitV .and .i32 (stv L W S n:Nat) 7=.int .i32 ((L+2 * W+4 * S:Nat):Int):=h.w.and7
theorem Bits.or1 (h:Bits L W S n):bitV .or .i32 (stv L W S n:Nat) 1=.int .i32 ((stv 1 W S n:Nat):Int):=h.w.or1
theorem Bits.or2 (h:Bits L W S n):bitV .or .i32 (stv L W S n:Nat) 2=.int .i32 ((stv L 1 S n:Nat):Int):=h.w.or2
theorem Bits.not2 (h:Bits L W S n):bitV .andNot .i32 (stv L W S n:Nat) 2=.int .i32 ((stv L 0 S n:Nat):Int):=h.w.not2
theorem Bits.shr3 (h:Bits L W S n):bitV .shr .i32 (stv L W S n:Nat) 3=.int .i32 ((n:Nat):Int):=h.w.shr3
theorem Bits.add8 (h:Bits L W S n):IntKind.i32.wrap ((stv L W S n:Nat)+8)=((stv L W S (n+1):Nat):Int):=h.w.add8
theorem Bits.sub8 (h:Bits L W S (n+1)):bitV .sub .i32 (stv L W S (n+1):Nat) 8=.int .i32 ((stv L W S n:Nat):Int):=h.w.sub8
end
section
variable  {P:Prg}{Qe:Ex->NSt->Hp->Prop}{σ:NSt}{H:Hp}{b:Zaj}
theorem ZgG {ι:Type}(I:ι->Hp->Prop)(μ:ι->Nat)(env:ι->List (Nat×Value))(box:ι->List (Nat×List Value))(i:ι)(h0:I i H)(he:LeE (env i) σ)(hb:LeB (box i) σ)
  (h:∀ i H,I i H->b.m P (NEx.then (fun σ' H'=>∃ j,μ j<μ i∧I j H'∧LeE (env j) σ'∧LeB (box j) σ'∧σ'.defs=σ.defs) Qe) (stOf σ.defs (env i) (box i)) H):(Zaj.loop b).m P Qe σ H:=⟨ι,I,μ,env,box,i,h0,⟨he,hb⟩,h⟩
end
end Go.LL
end
section
open Go Go.LL
namespace Go.Proofs
theorem t21:Zb5 Tryz.prog 21=some none:=by kernel_rfl
def convOk (p:Program)(src dst:TypeId):Bool:=
 match p.underlying src,p.underlying dst with
 | some (.pointer t),some .unsafePointer=>match p.info? t with
  | some i=>!(decide (i.size=0))
  | none=>false
 | _,_=>false
theorem ZiW {p:Program}{src dst:TypeId}(h:convOk p src dst=true):ZmT p src dst:=by
 unfold convOk at h
 split at h
 ·split at h
  ·rename_i t h1 h2 _ i hi
   exact⟨⟨t,h1,h2,by rw[hi];simpa using h⟩⟩
  ·simp at h
 ·simp at h
theorem Zdg:ZmT Tryz.prog 226 191:=ZiW (by kernel_rfl)
theorem ZkP:ZmT Tryz.prog 189 191:=ZiW (by kernel_rfl)
theorem ZoC:ZmT Tryz.prog 196 191:=ZiW (by kernel_rfl)
theorem nr211:norace Tryz.prog 211=true:=by kernel_rfl
section
variable  {c:Cx}{i:Nat}{H0:Hp}
def Got (c:Cx)(i:Nat)(H0:Hp)(H':Hp):Prop:=∃ (l:List Nat) (Hl:Hp),c.PI l Hl∧i ∉ l∧c.need i=true∧Hl.gh=[]∧(H0.tagged (12 :: l)).Comp Hl∧H'=(H0.tagged (12 :: l)).join Hl
noncomputable abbrev pw (c:Cx)(i:Nat):Prg:=(team Tryz.prog c).prgW i
abbrev ptr (b:Nat):Value:=.pointer (some (mkA b))
theorem lock163 (ok:c.Ok)(hneed:c.need i=true)(hslow:∀ H:Hp,H.gh=[3]->LL.Zai (pw c i) 195 #[ptr c.M] H fun _ H'=>Got c i H H'){H:Hp}(hg:H.gh=[1]):LL.Zai (pw c i) 163 #[ptr c.M] H fun _ H'=>Got c i H H':=by
 refine IsN.m (P:=pw c i) c163 (args:=[ptr c.M]) rfl ?_
 unfold n163
 refine wsT ?_
 refine ZaC e151 (vs:=[]) rfl (ZfR ok e151 (by rw[hg];rfl) hneed) ?_
 rintro v _ ⟨rfl,rfl⟩
 refine wsT ?_
 refine ZaC e194 (vs:=[ptr c.M,.int .i32 0,.int .i32 1]) rfl (Zka ok e194 (by rfl)) ?_
 rintro v _ (⟨rfl,rfl⟩ | ⟨rfl,rfl⟩)
 ·refine wsT ?_
  refine ZaC e152 (vs:=[]) rfl (ZaN ok e152 (by rfl)) ?_
  rintro v _ ⟨rfl,rfl⟩
  refine wsT ?_
  refine ZcD rfl (Zb1 ok Zdg rfl (.inl rfl) (.inl (by simp[Hp.tagged,cd]))) ?_
  rintro v _ ⟨rfl,rfl⟩
  refine wsT ?_
  refine ZaC e165 (vs:=[ptr c.M]) rfl (ZcE ok e165 (by rfl)) ?_
  rintro v _ ⟨rfl,l,Hl,h1,h2,h3,h4,h5,rfl⟩
  refine wsT ?_
  exact⟨l,Hl,h1,h2,h3,h4,h5,rfl⟩
 ·refine wsT ?_
  refine Zab (vs:=[ptr c.M]) rfl (hslow _ rfl) ?_
  rintro v H' ⟨l,Hl,h1,h2,h3,h4,h5,rfl⟩
  refine wsT ?_
  exact⟨l,Hl,h1,h2,h3,h4,h5,rfl⟩
end
def Zob:Zaj:=(.block 0 (.loop (.block 1 (.seq (.seq (.ops [⟨none,(some 14),(.mov (.tmp 4))⟩,⟨none,(some 15),(.raw (.binOp .shr 21 (.tmp 14) (.const (.int .u64 3)) 188) 21)⟩,⟨none,(some 16),(.bin .eql (.tmp 15) (.const (.int .i32 0)))⟩,⟨none,(some 17),(.mov (.tmp 16))⟩,⟨(some (17,false)),(some 18),(.mov (.tmp 4))⟩,⟨(some (17,false)),(some 19),(.raw (.binOp .and 21 (.tmp 18) (.const (.int .i32 7)) 21) 21)⟩,⟨(some (17,false)),(some 20),(.bin .neq (.tmp 19) (.const (.int .i32 0)))⟩,⟨none,(some 21),(.pick (.tmp 17) (.const (.bool true)) (.tmp 20))⟩]) (.cond (.tmp 21) .ret .skip)) (.seq (.ops [⟨none,(some 22),(.mov (.tmp 4))⟩,⟨none,(some 23),(.raw (.binOp .sub 21 (.tmp 22) (.const (.int .i32 8)) 21) 21)⟩,⟨none,(some 24),(.raw (.binOp .or 21 (.tmp 23) (.const (.int .i32 2)) 21) 21)⟩,⟨none,(some 1),(.mov (.tmp 24))⟩]) (.seq (.seq (.ops [⟨none,(some 25),(.mov (.tmp 0))⟩,⟨none,(some 26),(.raw (.nilCheck (.tmp 25)) 0)⟩,⟨none,(some 27),(.fadr 0 (.tmp 26))⟩,⟨none,(some 28),(.mov (.tmp 4))⟩,⟨none,(some 29),(.mov (.tmp 1))⟩,⟨none,(some 30),(.raw (.call (.mk (.value (.func 194)) #[(.tmp 27),(.tmp 28),(.tmp 29)] #[228,21,21])) 4)⟩]) (.cond (.tmp 30) (.seq (.ops [⟨none,(some 31),(.mov (.tmp 0))⟩,⟨none,(some 32),(.raw (.nilCheck (.tmp 31)) 0)⟩,⟨none,(some 33),(.fadr 1 (.tmp 32))⟩,⟨none,(some 34),(.raw (.call (.mk (.value (.func 214)) #[(.tmp 33),(.const (.bool false)),(.const (.int .i64 2))] #[196,4,3])) 0)⟩]) .ret) .skip)) (.ops [⟨none,(some 35),(.mov (.tmp 0))⟩,⟨none,(some 36),(.raw (.nilCheck (.tmp 35)) 0)⟩,⟨none,(some 37),(.fadr 0 (.tmp 36))⟩,⟨none,(some 38),(.rawn (.load 21 (.tmp 37)) 21)⟩,⟨none,(some 4),(.mov (.tmp 38))⟩])))))))
section
variable  {c:Cx}{i:Nat}{H0:Hp}
theorem Zgj (ok:c.Ok){kd:CallKind}(hkd:kd=.normal∨kd=.deferred){L W S n m:Nat}(hB:Bits L W S n){H:Hp}{v:Value}(hv:v=.int .i32 (stv L W S n:Nat))(hL:L=0)
  (hg:(S=0∧(n=0∨W=1)∧H.gh=[18])∨(W=0∧S=0∧1<=n∧H.gh=[15,stv 0 0 0 n,m])∨(S=1∧H.gh=[17])) :
  ZbQ (pw c i) kd 197 #[ptr c.M,v] H fun _ H'=>H'=H.tagged [18]:=by
 subst hv hL
 refine IsN.mK (P:=pw c i) hkd c197 (args:=[ptr c.M,.int .i32 (stv 0 W S n:Nat)]) rfl ?_
 unfold n197
 refine wsT ?_
 refine Za3 rfl rfl rfl ?_
 have e1:IntKind.i32.wrap ((stv 0 W S n:Nat)+1)=((stv 1 W S n:Nat):Int):=by
  have:=hB.lt
  have e:((stv 0 W S n:Nat):Int)+1=((stv 1 W S n:Nat):Int):=by unfold stv;omega
  rw[<-e,Zee (by omega) (by omega)]
 show MOps _ _ _ (NSt.set _ _ (.int .i32 (IntKind.i32.wrap _))) _
 rw[e1]
 have hB1:Bits 1 W S n:=⟨by omega,hB.W,hB.S,hB.n⟩
 refine wsT ?_
 refine Zaq rfl rfl (.inl rfl) hB1.and1 ?_
 refine wsT ?_
 refine ZaK rfl rfl rfl (by simp) ?_
 refine wsT ?_
 refine Zaq rfl rfl (.inl rfl) hB.and4 ?_
 refine wsT ?_
 have hloop:∀ σ:NSt,S=0->∀ live:Bool,(live=false->(W=1∨n=0)∧H.gh=[18])->(live=true->W=0∧1<=n∧H.gh=[15,stv 0 0 0 n,m])->σ.env 0=some (ptr c.M)->σ.env 4=some (.int .i32 (stv 0 W S n:Nat))->σ.defs=[] ->
   (Zob).m (pw c i) (MFin (pw c i) r197 fun _ H'=>H'=H.tagged [18]) σ H:=by
  intro σ hS live hl1 hl2 hs0 hs4 hdefs
  unfold Zob
  refine wsT ?_
  refine ZgG (fun (j:Nat×Nat×Nat×Nat×Nat×Bool) H'=>Bits j.1 j.2.1 j.2.2.1 j.2.2.2.1∧(j.2.2.2.2.2=false->(j.1=1∨j.2.1=1∨j.2.2.1=1∨j.2.2.2.1=0)∧H'=H.tagged [18]) ∧
    (j.2.2.2.2.2=true->j.1=0∧j.2.1=0∧j.2.2.1=0∧1<=j.2.2.2.1∧H'=H.tagged [15,stv 0 0 0 j.2.2.2.1,j.2.2.2.2.1]))
   (fun j=>bif j.2.2.2.2.2 then j.2.2.2.2.1+1 else 0) (fun j=>[(0,ptr c.M),(4,.int .i32 (stv j.1 j.2.1 j.2.2.1 j.2.2.2.1:Nat))]) (fun _=>[]) (0,W,0,n,m,live) ?_ ⟨hs0,by rw[hs4,hS],trivial⟩ trivial ?_
  ·subst hS
   refine⟨hB,fun e=>⟨(hl1 e).1.elim (fun h=>.inr (.inl h)) fun h=>.inr (.inr (.inr h)),by rw[<-(hl1 e).2];exact(Zc5 H).symm⟩,fun e=>⟨rfl,(hl2 e).1,rfl,(hl2 e).2.1,by rw[<-(hl2 e).2.2];exact(Zc5 H).symm⟩⟩
  rintro⟨L',W',S',n',m',live'⟩ H' ⟨hB',hI1,hI2⟩
  simp only at hB' hI1 hI2
  rw[hdefs]
  refine wsT ?_
  refine Zbc rfl rfl (.inl rfl) (by decide) hB'.shr3 ?_
  refine wsT ?_
  cases live' with
  | false=>
   obtain⟨hc,rfl⟩:=hI1 rfl
   by_cases hn:n'=0
   ·refine Za1 rfl rfl rfl (by simp[hn]) ?_
    refine wsT ?_
    rfl
   ·refine ZaK rfl rfl rfl (by simpa using hn) ?_
    refine wsT ?_
    refine Zaq rfl rfl (.inl rfl) hB'.and7 ?_
    refine wsT ?_
    refine Zbi rfl rfl rfl (by omega) ?_
    refine wsT ?_
    rfl
  | true=>
   obtain⟨rfl,rfl,rfl,h1,rfl⟩:=hI2 rfl
   refine ZaK rfl rfl rfl (by omega) ?_
   refine wsT ?_
   refine Zaq rfl rfl (.inl rfl) hB'.and7 ?_
   refine wsT ?_
   refine ZaF rfl rfl rfl (by simp) ?_
   refine wsT ?_
   obtain⟨k,rfl⟩:∃ k,n'=k+1:=⟨n'-1,by omega⟩
   have hB2:Bits 0 0 0 k:=⟨by omega,by omega,by omega,by have:=hB'.n;omega⟩
   refine Zaq rfl rfl (.inr (.inr (.inr rfl))) hB'.sub8 ?_
   refine wsT ?_
   refine Zaq rfl rfl (.inr (.inl rfl)) hB2.or2 ?_
   refine wsT ?_
   refine ZaC e194 (vs:=[ptr c.M,.int .i32 (stv 0 0 0 (k+1):Nat),.int .i32 (stv 0 1 0 k:Nat)]) rfl (Zj9 ok e194 hB' (by rfl)) ?_
   rintro v _ (⟨rfl,rfl⟩ | ⟨rfl,rfl⟩)
   ·refine wsT ?_
    refine ZaC e214 (vs:=[.pointer (some ((mkA c.M).add 1)),.bool false,.int .i64 2]) rfl (Zh1 ok e214 rfl (by rfl)) ?_
    rintro v _ ⟨rfl,rfl⟩
    refine wsT ?_
    rfl
   ·refine wsT ?_
    refine Zb9 rfl (ZmN ok t21 rfl (by rfl)) ?_
    rintro v _ (⟨L2,W2,S2,n2,hB3,hc3,rfl,rfl⟩ | ⟨n2,m2,hB3,h3,rfl,rfl,hm⟩)
    ·refine wsT ?_
     exact⟨(L2,W2,S2,n2,0,false),by simp,⟨hB3,fun _=>⟨hc3,rfl⟩,fun e=>by simp at e⟩,⟨rfl,rfl,trivial⟩,trivial,rfl⟩
    ·refine wsT ?_
     exact⟨(0,0,0,n2,m2,true),by simpa using hm,⟨hB3,fun e=>by simp at e,fun _=>⟨rfl,rfl,rfl,h3,rfl⟩⟩,⟨rfl,rfl,trivial⟩,trivial,rfl⟩
 rcases hg with ⟨rfl,h1,h2⟩ | ⟨rfl,rfl,h1,h2⟩ | ⟨rfl,h2⟩
 ·refine Za1 rfl rfl rfl (by simp) ?_
  refine wsT ?_
  exact hloop _ rfl false (fun _=>⟨h1.symm,h2⟩) (fun e=>by simp at e) rfl rfl rfl
 ·refine Za1 rfl rfl rfl (by simp) ?_
  refine wsT ?_
  exact hloop _ rfl true (fun e=>by simp at e) (fun _=>⟨rfl,h1,h2⟩) rfl rfl rfl
 ·refine ZaK rfl rfl rfl (by simp) ?_
  refine wsT ?_
  refine ZaC e214 (vs:=[.pointer (some ((mkA c.M).add 1)),.bool true,.int .i64 2]) rfl (Zh1 ok e214 rfl h2) ?_
  rintro v _ ⟨rfl,rfl⟩
  refine wsT ?_
  rfl
theorem Zm6 (ok:c.Ok){kd:CallKind}(hkd:kd=.normal∨kd=.deferred){Hl:Hp}{l:List Nat}(hc:H0.Comp Hl)(hg:H0.gh=12 :: l)(hPI:c.PI (l++[i]) Hl) :
  ZbQ (pw c i) kd 164 #[ptr c.M] (H0.join Hl) fun _ H'=>H'=H0.tagged [19]:=by
 have hlg:Hl.gh=[]:=hc.gh.resolve_left (by rw[hg];simp)
 have hjg:(H0.join Hl).gh=12 :: l:=by rw[Hp.join_gh,hlg,hg];simp
 have hact:cAct (H0.join Hl).gh:=by rw[hjg];exact .inl (by simp[cd])
 refine IsN.mK (P:=pw c i) hkd c164 (args:=[ptr c.M]) rfl ?_
 unfold n164
 refine wsT ?_
 refine Zb9 rfl (Zmn ok t21 rfl hact) ?_
 rintro v _ rfl
 refine wsT ?_
 refine ZcD rfl (Zb1 ok Zdg rfl (.inl rfl) hact) ?_
 rintro v _ ⟨rfl,rfl⟩
 refine wsT ?_
 refine ZaC e150 (vs:=[ptr c.M]) rfl (act_give ok e150 hc hg hPI) ?_
 rintro v _ ⟨rfl,rfl⟩
 refine wsT ?_
 refine ZaC e151 (vs:=[]) rfl (ZeP ok e151 (by rfl)) ?_
 rintro v _ ⟨rfl,rfl⟩
 refine wsT ?_
 refine ZaC e196 (vs:=[ptr c.M,.int .i32 (-1)]) rfl (ZmM ok e196 (by rfl)) ?_
 have fin:∀ {σ:NSt} {H:Hp},H.gh=[18]->H.tagged [19]=H0.tagged [19]->σ.defs=[]->(Zaj.ops [⟨none,some 20,.raw (.call (.mk (.value (.func 152)) #[] #[])) 0⟩]).m (pw c i) (MFin (pw c i) r164 fun _ H'=>H'=H0.tagged [19]) σ H:=by
  intro σ H hg he hd
  refine wsT ?_
  refine ZaC e152 (vs:=[]) rfl (Zfu ok e152 (by rw[hg];rfl)) ?_
  rintro v _ ⟨rfl,rfl⟩
  refine wsT ?_
  exact ZfA (Zde (vs:=[]) hd rfl rfl he)
 rintro v _ (⟨W,n,hB,h1,rfl,rfl⟩ | ⟨n,m,hB,h1,rfl,rfl⟩ | ⟨n,hB,rfl,rfl⟩)
 ·by_cases h0:stv 0 W 0 n=0
  ·refine wsT ?_
   refine ZaF rfl rfl rfl (by simpa using h0) ?_
   refine wsT ?_
   exact fin rfl rfl rfl
  ·refine wsT ?_
   refine Zbi rfl rfl rfl (by simpa using h0) ?_
   refine wsT ?_
   refine Zab (vs:=[ptr c.M,.int .i32 (stv 0 W 0 n:Nat)]) rfl (Zgj (m:=0) ok (.inl rfl) hB rfl rfl (.inl ⟨rfl,h1,rfl⟩)).calls ?_
   rintro v _ rfl
   refine wsT ?_
   exact fin rfl rfl rfl
 ·refine wsT ?_
  refine Zbi rfl rfl rfl (by unfold stv;omega) ?_
  refine wsT ?_
  refine Zab (vs:=[ptr c.M,.int .i32 (stv 0 0 0 n:Nat)]) rfl (Zgj (m:=m) ok (.inl rfl) hB rfl rfl (.inr (.inl ⟨rfl,rfl,h1,rfl⟩))).calls ?_
  rintro v _ rfl
  refine wsT ?_
  exact fin rfl rfl rfl
 ·refine wsT ?_
  refine Zbi rfl rfl rfl (by unfold stv;omega) ?_
  refine wsT ?_
  refine Zab (vs:=[ptr c.M,.int .i32 (stv 0 0 1 n:Nat)]) rfl (Zgj (m:=0) ok (.inl rfl) hB rfl rfl (.inr (.inr ⟨rfl,rfl⟩))).calls ?_
  rintro v _ rfl
  refine wsT ?_
  exact fin rfl rfl rfl
theorem Zm5 (ok:c.Ok){kd:CallKind}(hkd:kd=.normal∨kd=.deferred){Hl:Hp}{l:List Nat}(hc:H0.Comp Hl)(hg:H0.gh=12 :: l)(hPI:c.PI (l++[i]) Hl) :
  ZbQ (pw c i) kd 114 #[ptr c.M] (H0.join Hl) fun _ H'=>H'=H0.tagged [19]:=by
 refine IsN.mK (P:=pw c i) hkd c114 (args:=[ptr c.M]) rfl ?_
 unfold n114
 refine wsT ?_
 refine Zab (vs:=[ptr c.M]) rfl (Zm6 ok (.inl rfl) hc hg hPI).calls ?_
 rintro v _ rfl
 refine wsT ?_
 rfl
end
end Go.Proofs
end
