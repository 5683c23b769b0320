import Derived.Test.YtlhomfgcibjccaaGreatDoorTA01
set_option linter.all false
open Go Go.LL Go.Conc Go.ConcM
namespace Go.Proofs.YtlhomfgcibjccaaGreatDoor
open Go.ChangeShapes Go.WideShapes Go.ChangeAt Go.RowKit
set_option maxRecDepth 100000 in
theorem WaU(os:Os)(gB:os.Started)(H:Type)(enc:TypeId×Value->H)(F:Stop.Interp) :
  ReturnsInLeavingWide { calm:=true } Tryz.checked os 12 .any (λw args=>(Rows.steamAskedSpec.pre enc Tryz.prog Tryz.f12 [] false w args/\laidMetH Tryz.prog DC w)/\sizedMet enc Tryz.prog Tryz.f12 (OpenSpec.ofChange Rows.steamAskedSpec) false w args)
   ((OpenSpec.ofChange Rows.steamAskedSpec).postWith enc Tryz.prog Tryz.f12 F (outsideKept [.timePasses]) false true false):=by
 refine nB os gB F rfl Tryz.func12 Tryz.results12 U U ?_ ?_ ?_ #[.agg #[.int .i64 0,.int .i64 0,.int .i64 0,.slice none 0 0,.slice none 0 0],.int .u8 0] U U U
 ·intro ds hl;rw[Tryz.params12]at hl;match ds,hl with
  | [d0,d1],_=>rfl
 ·have h:(Tryz.f12.params.toList.all λt=>Tryz.prog.readableRec t && decide (t<Tryz.prog.types.size))=true:=U;intro t ht;simpa using qAg.1 h t ht
 ·intro W base args ds p gY hA hg;rw[Tryz.params12]at hA gY;obtain⟨v0,w0,d0,e0,p0,q0,ha,rfl,rfl,h0,r0⟩:=trodAll_cons hA;obtain⟨v1,w1,d1,e1,p1,q1,rfl,rfl,rfl,h1,r1⟩:=trodAll_cons r0;obtain⟨rfl,rfl,rfl⟩:=trodAll_nil r1;obtain rfl:args=#[v0,v1]:=by cases args;simp_all
  obtain⟨b0,rfl,k0⟩:=vF (gY 0 25 v0 rfl rfl) h0;obtain⟨n1,rfl,Fd,Fc⟩:=vD (gY 1 5 v1 rfl rfl) h1;exact p8 (args:=[b0.v,.int .u8 n1]) (cF Wbc) Tryz.func12 Tryz.results12 rfl (WaT rfl k0 ⟨Fd,Fc⟩ hg.1 hg.2)
theorem mL:Rows.SteamAskedSaid:=
 OpenClaim.holds_of_wide_leaving_time 12 Tryz.f12 rfl rfl rfl rfl rfl rfl rfl ⟨rfl,rfl,rfl,rfl,rfl⟩ rfl rfl rfl rfl rfl WaS Tryz.func12 WaR WaM WaL
  (λos gB H enc _ F=>WaU os gB H enc F)
theorem steamAsked_card:Rows.SteamAskedCardSaid:=
 jJ .later [.funcs,.funcs] true (true,"201e5e2db2399e5c7105dcd83265e4138c5aa47392aa98dda04156c430957fc8") false
  mL U steamAsked_row_tie rfl ⟨rfl,rfl⟩ U rfl
  (λf fn hf yB=>by obtain rfl:f=12:=dO (WaS.symm.trans hf) |>.symm;obtain rfl:fn=Tryz.f12:=(dO (Tryz.func12.symm.trans yB)).symm;exact⟨U,λj t ht=>by have dY:(Tryz.f12.params.all λu=>!Tryz.prog.wantsStandIn u)=true:=U;have hm:=Array.mem_of_getElem? ht;exact(show Tryz.prog.wantsStandIn t=false by simpa using(qAe.1 dY) t hm)⟩)
  U
