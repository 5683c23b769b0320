import Derived.Test.YthmnpenamnoniaaGreatDoorP30
import Derived.Test.YthmnpenamnoniaaGreatDoorP33
set_option linter.all false
open Go Go.LL Go.Conc Go.ConcM
namespace Go.Proofs.YthmnpenamnoniaaGreatDoor
open Go.ChangeShapes Go.WideShapes Go.ChangeAt Go.RowKit
set_option maxRecDepth 100000 in
def ZpJ(os:Os)(b:os.Started)(H:Type)(c:TypeId×Value->H)(F:Stop.Interp) :
  ReturnsInLeavingWide { calm:=true } Tryz.checked os 5 .any (λw args=>(Rows.spileHeldSpec.pre c Tryz.prog Tryz.f5 [] false w args/\laidMetH Tryz.prog LA w)/\sizedMet c Tryz.prog Tryz.f5 (OpenSpec.ofChange Rows.spileHeldSpec) false w args)
   ((OpenSpec.ofChange Rows.spileHeldSpec).postWith c Tryz.prog Tryz.f5 F (outsideKept [.timePasses]) false true false):=by
 refine ZuS LA (Gl:=λH=>ZY H/\WQ H) (λW h=>⟨Zvj (qAc _ (iF.2 rfl)) h,Zvk qAs h⟩) ZwF os b F rfl Tryz.func5 Tryz.results5 U U ?_ ?_ ?_ #[.agg #[.int .i64 0,.int .i64 0,.slice none 0 0,.slice none 0 0],.int .u8 0,.agg #[.int .i64 0,.slice none 0 0,.slice none 0 0,.slice none 0 0],.int .u16 0,.agg #[.int .i64 0,.int .i64 0,.bool false],.int .u8 0] U U U
 ·intro o s;rw[Tryz.params5]at s;match o,s with
  | [z,A,B,C,D,E],_=>rfl
 ·have h:(Tryz.f5.params.toList.all λt=>Tryz.prog.readableRec t && decide (t<Tryz.prog.types.size))=true:=U;intro t N;simpa using qAp.1 h t N
 ·intro W n args o p a q r;rw[Tryz.params5]at q a;obtain⟨k,w0,z,e0,p0,q0,ha,rfl,rfl,G,S⟩:=trodAll_cons q;obtain⟨u,w1,A,e1,p1,q1,rfl,rfl,rfl,I,T⟩:=trodAll_cons S;obtain⟨l,w2,B,e2,p2,q2,rfl,rfl,rfl,J,V⟩:=trodAll_cons T;obtain⟨v,w3,C,e3,p3,q3,rfl,rfl,rfl,K,X⟩:=trodAll_cons V;obtain⟨x,w4,D,e4,p4,q4,rfl,rfl,rfl,L,Y⟩:=trodAll_cons X;obtain⟨y,w5,E,e5,p5,q5,rfl,rfl,rfl,M,Z⟩:=trodAll_cons Y;obtain⟨rfl,rfl,rfl⟩:=trodAll_nil Z;obtain rfl:args=#[k,u,l,v,x,y]:=by cases args;simp_all
  obtain⟨b0,k0⟩:=Zzo (a 0 25 k rfl rfl) G;obtain⟨P,rfl,d,e⟩:=Qp (a 1 5 u rfl rfl) I;obtain⟨f2,O⟩:=Zv3 (a 2 68 l rfl rfl) J;obtain⟨Q,rfl,f,g⟩:=Zpg (a 3 69 v rfl rfl) K;obtain⟨m,rfl⟩:=Zvv (a 4 71 x rfl rfl) L;obtain⟨R,rfl,i,j⟩:=Qp (a 5 5 y rfl rfl) M;exact ZqG (args:=[k,.int .u8 P,l,.int .u16 Q,.agg #[vi m.h,vi m.lg,vb m.iH],.int .u8 R]) (bG Zzc) Tryz.func5 Tryz.results5 rfl (ZpI rfl k0 ⟨d,e⟩ O ⟨f,g⟩ ⟨i,j⟩ r.1 r.2)
def gS:Rows.SpileHeldSaid:=
 OpenClaim.holds_of_wide_leaving_time 5 Tryz.f5 rfl rfl rfl rfl rfl rfl rfl ⟨rfl,rfl,rfl,rfl,rfl⟩ rfl rfl rfl rfl rfl TN Tryz.func5 ZpG ZpF ZpE
  (λos a H b _ F=>ZpJ os a H b F)
theorem spileHeld_card:Rows.SpileHeldCardSaid:=
 Zva .later [.funcs,.funcs] true (true,"9cf33abbe2d4d8327d205b7d249e169818294d6939a1d7b1339e3e1d23bfd0bb") false
  gS U spileHeld_row_tie rfl ⟨rfl,rfl⟩ U rfl
  (λf fn c b=>by obtain rfl:f=5:=iN (TN.symm.trans c) |>.symm;obtain rfl:fn=Tryz.f5:=(iN (Tryz.func5.symm.trans b)).symm;exact⟨U,λj t e=>by have a:(Tryz.f5.params.all λu=>!Tryz.prog.wantsStandIn u)=true:=U;have d:=Array.mem_of_getElem? e;exact(show Tryz.prog.wantsStandIn t=false by simpa using(qAd.1 a) t d)⟩)
  U
