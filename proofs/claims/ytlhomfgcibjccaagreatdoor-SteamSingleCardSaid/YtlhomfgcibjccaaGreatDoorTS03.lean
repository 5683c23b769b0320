import Derived.Test.YtlhomfgcibjccaaGreatDoorTS02
set_option linter.all false
open Go Go.LL Go.Conc Go.ConcM
namespace Go.Proofs.YtlhomfgcibjccaaGreatDoor
open Go.ChangeShapes Go.WideShapes Go.ChangeAt Go.RowKit
set_option maxRecDepth 100000 in
def mT(os:Os)(b:os.Started)(H:Type)(c:TypeId×Value->H)(F:Stop.Interp) :
  ReturnsInLeavingWide { calm:=true } Tryz.checked os 7 .any (λw args=>(Rows.steamSingleSpec.pre c Tryz.prog Tryz.f7 [] false w args/\laidMetH Tryz.prog OH w)/\sizedMet c Tryz.prog Tryz.f7 (OpenSpec.ofChange Rows.steamSingleSpec) false w args)
   ((OpenSpec.ofChange Rows.steamSingleSpec).postWith c Tryz.prog Tryz.f7 F (outsideKept [.timePasses]) false true false):=by
 refine dX os b F rfl Tryz.func7 Tryz.results7 U U ?_ ?_ ?_ #[.agg #[.int .i64 0,.int .i64 0,.int .i64 0,.slice none 0 0,.slice none 0 0],.slice none 0 0,.int .u8 0] U U U
 ·intro i l;rw[Tryz.params7]at l;match i,l with
  | [q,r,s],_=>rfl
 ·have h:(Tryz.f7.params.toList.all λt=>Tryz.prog.readableRec t && decide (t<Tryz.prog.types.size))=true:=U;intro t ht;simpa using IN.1 h t ht
 ·intro W g args i p a j k;rw[Tryz.params7]at j a;obtain⟨m,O,q,C,I,L,ha,rfl,rfl,u,A⟩:=trodAll_cons j;obtain⟨f,P,r,D,J,M,rfl,rfl,rfl,x,r1⟩:=trodAll_cons A;obtain⟨n,Q,s,E,K,N,rfl,rfl,rfl,y,B⟩:=trodAll_cons r1;obtain⟨rfl,rfl,rfl⟩:=trodAll_nil B;obtain rfl:args=#[m,f,n]:=by cases args;simp_all
  obtain⟨o,rfl,k0⟩:=fW (a 0 25 m rfl rfl) u;obtain⟨G,k1⟩:=mJ (a 1 59 f rfl rfl) x;obtain⟨z,rfl,d,e⟩:=mL (a 2 5 n rfl rfl) y;exact eP (args:=[o.v,f,.int .u8 z]) (bG sU) Tryz.func7 Tryz.results7 rfl (mU rfl k0 k1 ⟨d,e⟩ k.1 k.2)
def lZ:Rows.SteamSingleSaid:=
 OpenClaim.holds_of_wide_leaving_time 7 Tryz.f7 rfl rfl rfl rfl rfl rfl rfl ⟨rfl,rfl,rfl,rfl,rfl⟩ rfl rfl rfl rfl rfl mD Tryz.func7 lS lU mF
  (λos a H b _ F=>mT os a H b F)
theorem steamSingle_card:Rows.SteamSingleCardSaid:=
 dC .later [.funcs,.funcs] true (true,"201e5e2db2399e5c7105dcd83265e4138c5aa47392aa98dda04156c430957fc8") false
  lZ U steamSingle_row_tie rfl ⟨rfl,rfl⟩ U rfl
  (λf fn c b=>by obtain rfl:f=7:=iO (mD.symm.trans c) |>.symm;obtain rfl:fn=Tryz.f7:=(iO (Tryz.func7.symm.trans b)).symm;exact⟨U,λj t e=>by have a:(Tryz.f7.params.all λu=>!Tryz.prog.wantsStandIn u)=true:=U;have d:=qBJ e;exact(show Tryz.prog.wantsStandIn t=false by simpa using(qAm.1 a) t d)⟩)
  U
