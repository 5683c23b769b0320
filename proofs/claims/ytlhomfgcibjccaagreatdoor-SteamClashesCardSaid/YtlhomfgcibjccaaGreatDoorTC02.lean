import Derived.Test.YtlhomfgcibjccaaGreatDoorTC01
set_option linter.all false
open Go Go.LL Go.Conc Go.ConcM
namespace Go.Proofs.YtlhomfgcibjccaaGreatDoor
open Go.ChangeShapes Go.WideShapes Go.ChangeAt Go.RowKit
set_option maxRecDepth 100000 in
theorem WaG(os:Os)(b:os.Started)(H:Type)(c:TypeId×Value->H)(F:Stop.Interp) :
  ReturnsInLeavingWide { calm:=true } Tryz.checked os 11 .any (λw args=>(Rows.steamClashesSpec.pre c Tryz.prog Tryz.f11 [] false w args/\laidMetH Tryz.prog DC w)/\sizedMet c Tryz.prog Tryz.f11 (OpenSpec.ofChange Rows.steamClashesSpec) false w args)
   ((OpenSpec.ofChange Rows.steamClashesSpec).postWith c Tryz.prog Tryz.f11 F (outsideKept [.timePasses]) false true false):=by
 refine nB os b F rfl Tryz.func11 Tryz.results11 U U ?_ ?_ ?_ #[.agg #[.int .i64 0,.int .i64 0,.int .i64 0,.slice none 0 0,.slice none 0 0],.int .u8 0] U U U
 ·intro g k;rw[Tryz.params11]at k;match g,k with
  | [o,q],_=>rfl
 ·have h:(Tryz.f11.params.toList.all λt=>Tryz.prog.readableRec t && decide (t<Tryz.prog.types.size))=true:=U;intro t u;simpa using qAg.1 h t u
 ·intro W f args g p a i j;rw[Tryz.params11]at i a;obtain⟨l,J,o,A,D,G,C,rfl,rfl,r,y⟩:=trodAll_cons i;obtain⟨m,K,q,B,E,I,rfl,rfl,rfl,s,z⟩:=trodAll_cons y;obtain⟨rfl,rfl,rfl⟩:=trodAll_nil z;obtain rfl:args=#[l,m]:=by cases args;simp_all
  obtain⟨n,rfl,k0⟩:=vF (a 0 25 l rfl rfl) r;obtain⟨x,rfl,d,e⟩:=vD (a 1 5 m rfl rfl) s;exact p8 (args:=[n.v,.int .u8 x]) (cF Wa2) Tryz.func11 Tryz.results11 rfl (WaF rfl k0 ⟨d,e⟩ j.1 j.2)
theorem aAg:Rows.SteamClashesSaid:=
 OpenClaim.holds_of_wide_leaving_time 11 Tryz.f11 rfl rfl rfl rfl rfl rfl rfl ⟨rfl,rfl,rfl,rfl,rfl⟩ rfl rfl rfl rfl rfl WaE Tryz.func11 WaD Cr Cs
  (λos a H b _ F=>WaG os a H b F)
theorem steamClashes_card:Rows.SteamClashesCardSaid:=
 jJ .later [.funcs,.funcs] true (true,"201e5e2db2399e5c7105dcd83265e4138c5aa47392aa98dda04156c430957fc8") false
  aAg U steamClashes_row_tie rfl ⟨rfl,rfl⟩ U rfl
  (λf fn c b=>by obtain rfl:f=11:=dO (WaE.symm.trans c) |>.symm;obtain rfl:fn=Tryz.f11:=(dO (Tryz.func11.symm.trans b)).symm;exact⟨U,λj t e=>by have a:(Tryz.f11.params.all λu=>!Tryz.prog.wantsStandIn u)=true:=U;have d:=Array.mem_of_getElem? e;exact(show Tryz.prog.wantsStandIn t=false by simpa using(qAe.1 a) t d)⟩)
  U
