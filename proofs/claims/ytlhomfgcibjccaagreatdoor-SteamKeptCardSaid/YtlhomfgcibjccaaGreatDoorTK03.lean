import Derived.Test.YtlhomfgcibjccaaGreatDoorTK02
set_option linter.all false
open Go Go.LL Go.Conc Go.ConcM
namespace Go.Proofs.YtlhomfgcibjccaaGreatDoor
open Go.ChangeShapes Go.WideShapes Go.ChangeAt Go.RowKit
set_option maxRecDepth 100000 in
def nV(os:Os)(b:os.Started)(H:Type)(c:TypeId×Value->H)(F:Stop.Interp) :
  ReturnsInLeavingWide { calm:=true } Tryz.checked os 6 .any (λw args=>(Rows.steamKeptSpec.pre c Tryz.prog Tryz.f6 [] false w args/\laidMetH Tryz.prog OH w)/\sizedMet c Tryz.prog Tryz.f6 (OpenSpec.ofChange Rows.steamKeptSpec) false w args)
   ((OpenSpec.ofChange Rows.steamKeptSpec).postWith c Tryz.prog Tryz.f6 F (outsideKept [.timePasses]) false true false):=by
 refine dX os b F rfl Tryz.func6 Tryz.results6 U U ?_ ?_ ?_ #[.agg #[.int .i64 0,.int .i64 0,.int .i64 0,.slice none 0 0,.slice none 0 0],.slice none 0 0,.int .u8 0] U U U
 ·intro i l;rw[Tryz.params6]at l;match i,l with
  | [q,r,s],_=>rfl
 ·have h:(Tryz.f6.params.toList.all λt=>Tryz.prog.readableRec t && decide (t<Tryz.prog.types.size))=true:=U;intro t z;simpa using IN.1 h t z
 ·intro W g args i p a j k;rw[Tryz.params6]at j a;obtain⟨m,R,q,E,L,O,J,rfl,rfl,u,B⟩:=trodAll_cons j;obtain⟨f,S,r,G,M,P,rfl,rfl,rfl,x,C⟩:=trodAll_cons B;obtain⟨n,T,s,I,N,Q,rfl,rfl,rfl,y,D⟩:=trodAll_cons C;obtain⟨rfl,rfl,rfl⟩:=trodAll_nil D;obtain rfl:args=#[m,f,n]:=by cases args;simp_all
  obtain⟨o,rfl,k0⟩:=fW (a 0 25 m rfl rfl) u;obtain⟨K,k1⟩:=lS (a 1 59 f rfl rfl) x;obtain⟨A,rfl,d,e⟩:=mV (a 2 5 n rfl rfl) y;exact eP (args:=[o.v,f,.int .u8 A]) (bG uI) Tryz.func6 Tryz.results6 rfl (nI rfl k0 k1 ⟨d,e⟩ k.1 k.2)
def n5:Rows.SteamKeptSaid:=
 OpenClaim.holds_of_wide_leaving_time 6 Tryz.f6 rfl rfl rfl rfl rfl rfl rfl ⟨rfl,rfl,rfl,rfl,rfl⟩ rfl rfl rfl rfl rfl nJ Tryz.func6 nW mQ mR
  (λos a H b _ F=>nV os a H b F)
theorem steamKept_card:Rows.SteamKeptCardSaid:=
 dC .later [.funcs,.funcs] true (true,"201e5e2db2399e5c7105dcd83265e4138c5aa47392aa98dda04156c430957fc8") false
  n5 U steamKept_row_tie rfl ⟨rfl,rfl⟩ U rfl
  (λf fn c b=>by obtain rfl:f=6:=iO (nJ.symm.trans c) |>.symm;obtain rfl:fn=Tryz.f6:=(iO (Tryz.func6.symm.trans b)).symm;exact⟨U,λj t e=>by have a:(Tryz.f6.params.all λu=>!Tryz.prog.wantsStandIn u)=true:=U;have d:=qBJ e;exact(show Tryz.prog.wantsStandIn t=false by simpa using(qAm.1 a) t d)⟩)
  U
