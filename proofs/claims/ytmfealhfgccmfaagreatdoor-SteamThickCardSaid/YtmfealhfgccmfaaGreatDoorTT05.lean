import Derived.Test.YtmfealhfgccmfaaGreatDoorTT04
set_option linter.all false
open Go Go.LL Go.Conc Go.ConcM
namespace Go.Proofs.YtmfealhfgccmfaaGreatDoor
open Go.ChangeShapes Go.WideShapes Go.ChangeAt Go.RowKit
set_option maxRecDepth 100000 in
def Hz(os:Os)(b:os.Started)(H:Type)(c:TypeId×Value->H)(F:Stop.Interp) :
  ReturnsInLeavingWide { calm:=true } Tryz.checked os 6 .any (λw args=>(Rows.steamThickSpec.pre c Tryz.prog Tryz.f6 [] false w args/\laidMetH Tryz.prog y6 w)/\sizedMet c Tryz.prog Tryz.f6 (OpenSpec.ofChange Rows.steamThickSpec) false w args)
   ((OpenSpec.ofChange Rows.steamThickSpec).postWith c Tryz.prog Tryz.f6 F (outsideKept [.timePasses]) false true false):=by
 refine mM y6 (Gl:=λH=>Yb H/\aM H ⟨3,0,none⟩ [vf 407]/\QR H) (λW h=>⟨nL (qAm _ qAB) h,mN (qAm _ (qAm _ qAB)) h,Bv qAB h⟩) Cn os b F rfl Tryz.func6 Tryz.results6 U U ?_ ?_ ?_ #[.agg #[.int .i64 0,.int .i64 0,.int .i64 0,.slice none 0 0,.slice none 0 0],.int .u8 0,.agg #[.int .i64 0,.slice none 0 0,.slice none 0 0,.slice none 0 0],.int .u16 0,.agg #[.int .i64 0,.int .i64 0,.bool false],.int .u8 0] U U U
 ·intro o r;rw[Tryz.params6]at r;match o,r with
  | [B,C,D,E,G,I],_=>rfl
 ·have h:(Tryz.f6.params.toList.all λt=>Tryz.prog.readableRec t && decide (t<Tryz.prog.types.size))=true:=U;intro t P;simpa using qAf.1 h t P
 ·intro W n args o p a q d;rw[Tryz.params6]at q a;obtain⟨s,w0,B,e0,p0,q0,ha,rfl,rfl,J,V⟩:=trodAll_cons q;obtain⟨u,w1,C,e1,p1,q1,rfl,rfl,rfl,K,X⟩:=trodAll_cons V;obtain⟨l,w2,D,e2,p2,q2,rfl,rfl,rfl,L,Y⟩:=trodAll_cons X;obtain⟨x,w3,E,e3,p3,q3,rfl,rfl,rfl,M,Z⟩:=trodAll_cons Y;obtain⟨y,w4,G,e4,p4,q4,rfl,rfl,rfl,N,r4⟩:=trodAll_cons Z;obtain⟨z,w5,I,e5,p5,q5,rfl,rfl,rfl,O,r5⟩:=trodAll_cons r4;obtain⟨rfl,rfl,rfl⟩:=trodAll_nil r5;obtain rfl:args=#[s,u,l,x,y,z]:=by cases args;simp_all
  obtain⟨A,rfl,k0⟩:=sD (a 0 25 s rfl rfl) J;obtain⟨R,rfl,e,f⟩:=lU (a 1 5 u rfl rfl) K;obtain⟨f2,Q⟩:=Dc (a 2 88 l rfl rfl) L;obtain⟨S,rfl,g,i⟩:=Hj (a 3 89 x rfl rfl) M;obtain⟨m,rfl⟩:=Bn (a 4 91 y rfl rfl) N;obtain⟨T,rfl,j,k⟩:=lU (a 5 5 z rfl rfl) O;exact oZ (args:=[A.v,.int .u8 R,l,.int .u16 S,.agg #[vi m.h,vi m.lg,vb m.fit],.int .u8 T]) (fO Dr) Tryz.func6 Tryz.results6 rfl (Gs rfl k0 ⟨e,f⟩ Q ⟨g,i⟩ ⟨j,k⟩ d.1 d.2.1 d.2.2)
def oM:Rows.SteamThickSaid:=
 OpenClaim.holds_of_wide_leaving_time 6 Tryz.f6 rfl rfl rfl rfl rfl rfl rfl ⟨rfl,rfl,rfl,rfl,rfl⟩ rfl rfl rfl rfl rfl QO Tryz.func6 Gt Gx Gy
  (λos a H b _ F=>Hz os a H b F)
theorem steamThick_card:Rows.SteamThickCardSaid:=
 kA .later [.funcs,.funcs,.funcs] true (true,"dc68d070994010dff4ff967306ae2fa2ed82db0e2b226bb9468f5a575d68886c") false
  oM U steamThick_row_tie rfl ⟨rfl,rfl⟩ U rfl
  (λf fn c b=>by obtain rfl:f=6:=aT (QO.symm.trans c) |>.symm;obtain rfl:fn=Tryz.f6:=(aT (Tryz.func6.symm.trans b)).symm;exact⟨U,λj t e=>by have a:(Tryz.f6.params.all λu=>!Tryz.prog.wantsStandIn u)=true:=U;have d:=qDB e;exact(show Tryz.prog.wantsStandIn t=false by simpa using(qAn.1 a) t d)⟩)
  U
