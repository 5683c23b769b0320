import Derived.Test.YtlhomfgcibjccaaGreatDoorTU01
set_option linter.all false
open Go Go.LL Go.Conc Go.ConcM
namespace Go.Proofs.YtlhomfgcibjccaaGreatDoor
open Go.ChangeShapes Go.WideShapes Go.ChangeAt Go.RowKit
set_option maxRecDepth 100000 in
def kR(os:Os)(a:os.Started)(H:Type)(c:TypeId×Value->H)(F:Stop.Interp) :
  ReturnsInLeavingWide { calm:=true } Tryz.checked os 8 .any (λw args=>(Rows.steamCountedSpec.pre c Tryz.prog Tryz.f8 [] false w args/\laidMetH Tryz.prog OH w)/\sizedMet c Tryz.prog Tryz.f8 (OpenSpec.ofChange Rows.steamCountedSpec) false w args)
   ((OpenSpec.ofChange Rows.steamCountedSpec).postWith c Tryz.prog Tryz.f8 F (outsideKept [.timePasses]) false true false):=by
 refine dX os a F rfl Tryz.func8 Tryz.results8 U U ?_ ?_ ?_ #[.agg #[.int .i64 0,.int .i64 0,.int .i64 0,.slice none 0 0,.slice none 0 0]] U U U
 ·intro e i;rw[Tryz.params8]at i;match e,i with
  | [l],_=>rfl
 ·have h:(Tryz.f8.params.toList.all λt=>Tryz.prog.readableRec t && decide (t<Tryz.prog.types.size))=true:=U;intro t n;simpa using IN.1 h t n
 ·intro W d args e p b f g;rw[Tryz.params8]at f b;obtain⟨j,x,l,q,s,u,r,rfl,rfl,m,o⟩:=trodAll_cons f;obtain⟨rfl,rfl,rfl⟩:=trodAll_nil o;obtain rfl:args=#[j]:=by cases args;simp_all
  obtain⟨k,rfl,k0⟩:=fW (b 0 25 j rfl rfl) m;exact eP (args:=[k.v]) (bG nN) Tryz.func8 Tryz.results8 rfl (kZ rfl k0 g.1 g.2)
def lB:Rows.SteamCountedSaid:=
 OpenClaim.holds_of_wide_leaving_time 8 Tryz.f8 rfl rfl rfl rfl rfl rfl rfl ⟨rfl,rfl,rfl,rfl,rfl⟩ rfl rfl rfl rfl rfl kS Tryz.func8 k8 kM kN
  (λos a H b _ F=>kR os a H b F)
theorem steamCounted_card:Rows.SteamCountedCardSaid:=
 dC .later [.funcs,.funcs] true (true,"201e5e2db2399e5c7105dcd83265e4138c5aa47392aa98dda04156c430957fc8") false
  lB U steamCounted_row_tie rfl ⟨rfl,rfl⟩ U rfl
  (λf fn c b=>by obtain rfl:f=8:=iO (kS.symm.trans c) |>.symm;obtain rfl:fn=Tryz.f8:=(iO (Tryz.func8.symm.trans b)).symm;exact⟨U,λj t e=>by have a:(Tryz.f8.params.all λu=>!Tryz.prog.wantsStandIn u)=true:=U;have d:=qBJ e;exact(show Tryz.prog.wantsStandIn t=false by simpa using(qAm.1 a) t d)⟩)
  U
