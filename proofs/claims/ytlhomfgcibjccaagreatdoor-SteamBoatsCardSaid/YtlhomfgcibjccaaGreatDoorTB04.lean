import Derived.Test.YtlhomfgcibjccaaGreatDoorTB03
set_option linter.all false
open Go Go.LL Go.Conc Go.ConcM
namespace Go.Proofs.YtlhomfgcibjccaaGreatDoor
open Go.ChangeShapes Go.WideShapes Go.ChangeAt Go.RowKit
set_option maxRecDepth 100000 in
def sP(os:Os)(b:os.Started)(H:Type)(c:TypeId×Value->H)(F:Stop.Interp) :
  ReturnsInLeavingWide { calm:=true } Tryz.checked os 3 .any (λw args=>(Rows.steamBoatsSpec.pre c Tryz.prog Tryz.f3 [] false w args/\laidMetH Tryz.prog OH w)/\sizedMet c Tryz.prog Tryz.f3 (OpenSpec.ofChange Rows.steamBoatsSpec) false w args)
   ((OpenSpec.ofChange Rows.steamBoatsSpec).postWith c Tryz.prog Tryz.f3 F (outsideKept [.timePasses]) false true false):=by
 refine dX os b F rfl Tryz.func3 Tryz.results3 U U ?_ ?_ ?_ #[.agg #[.int .i64 0,.int .i64 0,.int .i64 0,.slice none 0 0,.slice none 0 0],.slice none 0 0,.int .i64 0] U U U
 ·intro f j;rw[Tryz.params3]at j;match f,j with
  | [q,r,s],_=>rfl
 ·have h:(Tryz.f3.params.toList.all λt=>Tryz.prog.readableRec t && decide (t<Tryz.prog.types.size))=true:=U;intro t z;simpa using IN.1 h t z
 ·intro W e args f p a g i;rw[Tryz.params3]at g a;obtain⟨k,R,q,G,L,O,K,rfl,rfl,u,C⟩:=trodAll_cons g;obtain⟨l,S,r,I,M,P,rfl,rfl,rfl,x,D⟩:=trodAll_cons C;obtain⟨m,T,s,J,N,Q,rfl,rfl,rfl,y,E⟩:=trodAll_cons D;obtain⟨rfl,rfl,rfl⟩:=trodAll_nil E;obtain rfl:args=#[k,l,m]:=by cases args;simp_all
  obtain⟨o,rfl,k0⟩:=fW (a 0 25 k rfl rfl) u;obtain⟨A,n,c1,rfl,d,k1⟩:=JM (a 1 26 l rfl rfl) x;obtain⟨B,rfl⟩:=JL (a 2 3 m rfl rfl) y;exact eP (args:=[o.v,.slice n A.length c1,vi B]) (bG R6) Tryz.func3 Tryz.results3 rfl (sQ rfl k0 k1 d i.1 i.2)
def m5:Rows.SteamBoatsSaid:=
 OpenClaim.holds_of_wide_leaving_time 3 Tryz.f3 rfl rfl rfl rfl rfl rfl rfl ⟨rfl,rfl,rfl,rfl,rfl⟩ rfl rfl rfl rfl rfl rH Tryz.func3 sR sH rD
  (λos a H b _ F=>sP os a H b F)
theorem steamBoats_card:Rows.SteamBoatsCardSaid:=
 dC .later [.funcs,.funcs] true (true,"201e5e2db2399e5c7105dcd83265e4138c5aa47392aa98dda04156c430957fc8") false
  m5 U steamBoats_row_tie rfl ⟨rfl,rfl⟩ U rfl
  (λf fn c b=>by obtain rfl:f=3:=iO (rH.symm.trans c) |>.symm;obtain rfl:fn=Tryz.f3:=(iO (Tryz.func3.symm.trans b)).symm;exact⟨U,λj t e=>by have a:(Tryz.f3.params.all λu=>!Tryz.prog.wantsStandIn u)=true:=U;have d:=qBJ e;exact(show Tryz.prog.wantsStandIn t=false by simpa using(qAm.1 a) t d)⟩)
  U
