import Derived.Test.YtmfealhfgccmfaaGreatDoorTS04
set_option linter.all false
open Go Go.LL Go.Conc Go.ConcM
namespace Go.Proofs.YtmfealhfgccmfaaGreatDoor
open Go.ChangeShapes Go.WideShapes Go.ChangeAt Go.RowKit
set_option maxRecDepth 100000 in
def Gu(os:Os)(b:os.Started)(H:Type)(c:TypeId×Value->H)(F:Stop.Interp) :
  ReturnsInLeavingWide { calm:=true } Tryz.checked os 3 .any (λw args=>(Rows.steamSpiledSpec.pre c Tryz.prog Tryz.f3 [] false w args/\laidMetH Tryz.prog EX w)/\sizedMet c Tryz.prog Tryz.f3 (OpenSpec.ofChange Rows.steamSpiledSpec) false w args)
   ((OpenSpec.ofChange Rows.steamSpiledSpec).postWith c Tryz.prog Tryz.f3 F (outsideKept [.timePasses]) false true false):=by
 refine mM EX (Gl:=λH=>Yb H/\aM H ⟨3,0,none⟩ [vf 407]/\qS H) (λW h=>⟨nL (qAm _ qAB) h,mN (qAm _ (qAm _ qAB)) h,Fg qAB h⟩) Gi os b F rfl Tryz.func3 Tryz.results3 U U ?_ ?_ ?_ #[.agg #[.int .i64 0,.int .i64 0,.int .i64 0,.slice none 0 0,.slice none 0 0],.int .u8 0,.agg #[.int .i64 0,.int .i64 0,.slice none 0 0,.slice none 0 0],.int .u8 0,.agg #[.int .i64 0,.int .i64 0,.int .i64 0],.int .u8 0] U U U
 ·intro o r;rw[Tryz.params3]at r;match o,r with
  | [B,C,D,E,G,I],_=>rfl
 ·have h:(Tryz.f3.params.toList.all λt=>Tryz.prog.readableRec t && decide (t<Tryz.prog.types.size))=true:=U;intro t P;simpa using qAf.1 h t P
 ·intro W n args o p a q e;rw[Tryz.params3]at q a;obtain⟨s,w0,B,e0,p0,q0,ha,rfl,rfl,J,V⟩:=trodAll_cons q;obtain⟨u,w1,C,e1,p1,q1,rfl,rfl,rfl,K,X⟩:=trodAll_cons V;obtain⟨m,w2,D,e2,p2,q2,rfl,rfl,rfl,L,Y⟩:=trodAll_cons X;obtain⟨x,w3,E,e3,p3,q3,rfl,rfl,rfl,M,Z⟩:=trodAll_cons Y;obtain⟨y,w4,G,e4,p4,q4,rfl,rfl,rfl,N,r4⟩:=trodAll_cons Z;obtain⟨z,w5,I,e5,p5,q5,rfl,rfl,rfl,O,r5⟩:=trodAll_cons r4;obtain⟨rfl,rfl,rfl⟩:=trodAll_nil r5;obtain rfl:args=#[s,u,m,x,y,z]:=by cases args;simp_all
  obtain⟨A,rfl,k0⟩:=sD (a 0 25 s rfl rfl) J;obtain⟨R,rfl,f,g⟩:=lU (a 1 5 u rfl rfl) K;obtain⟨b2,Q⟩:=Cy (a 2 29 m rfl rfl) L;obtain⟨S,rfl,i,j⟩:=lU (a 3 5 x rfl rfl) M;obtain⟨d,rfl⟩:=Ci (a 4 33 y rfl rfl) N;obtain⟨T,rfl,k,l⟩:=lU (a 5 5 z rfl rfl) O;exact oZ (args:=[A.v,.int .u8 R,m,.int .u8 S,.agg #[vi d.p,vi d.gl,vi d.gh],.int .u8 T]) (fO Bx) Tryz.func3 Tryz.results3 rfl (Gv rfl k0 ⟨f,g⟩ Q ⟨i,j⟩ ⟨k,l⟩ e.1 e.2.1 e.2.2)
def nW:Rows.SteamSpiledSaid:=
 OpenClaim.holds_of_wide_leaving_time 3 Tryz.f3 rfl rfl rfl rfl rfl rfl rfl ⟨rfl,rfl,rfl,rfl,rfl⟩ rfl rfl rfl rfl rfl QP Tryz.func3 Gw He Hg
  (λos a H b _ F=>Gu os a H b F)
theorem steamSpiled_card:Rows.SteamSpiledCardSaid:=
 kA .later [.funcs,.funcs,.funcs] true (true,"dc68d070994010dff4ff967306ae2fa2ed82db0e2b226bb9468f5a575d68886c") false
  nW U steamSpiled_row_tie rfl ⟨rfl,rfl⟩ U rfl
  (λf fn c b=>by obtain rfl:f=3:=aT (QP.symm.trans c) |>.symm;obtain rfl:fn=Tryz.f3:=(aT (Tryz.func3.symm.trans b)).symm;exact⟨U,λj t e=>by have a:(Tryz.f3.params.all λu=>!Tryz.prog.wantsStandIn u)=true:=U;have d:=qDB e;exact(show Tryz.prog.wantsStandIn t=false by simpa using(qAn.1 a) t d)⟩)
  U
