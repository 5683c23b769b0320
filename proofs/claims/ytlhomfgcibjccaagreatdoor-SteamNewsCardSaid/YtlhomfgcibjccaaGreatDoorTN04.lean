import Derived.Test.YtlhomfgcibjccaaGreatDoorTN03
set_option linter.all false
open Go Go.LL Go.Conc Go.ConcM
namespace Go.Proofs.YtlhomfgcibjccaaGreatDoor
open Go.ChangeShapes Go.WideShapes Go.ChangeAt Go.RowKit
set_option maxRecDepth 100000 in
def sV(os:Os)(b:os.Started)(H:Type)(d:TypeId×Value->H)(F:Stop.Interp) :
  ReturnsInLeavingWide { calm:=true } Tryz.checked os 13 .any (λw args=>(Rows.steamNewsSpec.pre d Tryz.prog Tryz.f13 [] false w args/\laidMetH Tryz.prog OH w)/\sizedMet d Tryz.prog Tryz.f13 (OpenSpec.ofChange Rows.steamNewsSpec) false w args)
   ((OpenSpec.ofChange Rows.steamNewsSpec).postWith d Tryz.prog Tryz.f13 F (outsideKept [.timePasses]) false true false):=by
 refine dX os b F rfl Tryz.func13 Tryz.results13 U U ?_ ?_ ?_ #[.agg #[.int .i64 0,.int .i64 0,.int .i64 0,.slice none 0 0,.slice none 0 0],.agg #[.slice none 0 0,.int .i64 0,.int .i64 0],.int .i64 0,.agg #[.int .i64 0,.int .i64 0]] U U U
 ·intro j m;rw[Tryz.params13]at m;match j,m with
  | [u,x,y,z],_=>rfl
 ·have h:(Tryz.f13.params.toList.all λt=>Tryz.prog.readableRec t && decide (t<Tryz.prog.types.size))=true:=U;intro t G;simpa using IN.1 h t G
 ·intro W i args j p a k l;rw[Tryz.params13]at k a;obtain⟨n,w0,u,N,S,Y,R,rfl,rfl,B,J⟩:=trodAll_cons k;obtain⟨o,w1,x,O,T,Z,rfl,rfl,rfl,C,K⟩:=trodAll_cons J;obtain⟨q,w2,y,P,V,q2,rfl,rfl,rfl,D,L⟩:=trodAll_cons K;obtain⟨r,w3,z,Q,X,q3,rfl,rfl,rfl,E,M⟩:=trodAll_cons L;obtain⟨rfl,rfl,rfl⟩:=trodAll_nil M;obtain rfl:args=#[n,o,q,r]:=by cases args;simp_all
  obtain⟨s,rfl,k0⟩:=fW (a 0 25 n rfl rfl) B;obtain⟨e,rfl,k1⟩:=yV (a 1 85 o rfl rfl) C;obtain⟨I,rfl⟩:=ER (a 2 3 q rfl rfl) D;obtain⟨f,g,rfl⟩:=rI (a 3 36 r rfl rfl) E;exact eP (args:=[s.v,.agg #[.slice e.A e.ps.length e.c,vi e.lo,vi e.hi],vi I,.agg #[vi f,vi g]]) (bG R3) Tryz.func13 Tryz.results13 rfl (sH rfl k0 k1 l.1 l.2)
def nZ:Rows.SteamNewsSaid:=
 OpenClaim.holds_of_wide_leaving_time 13 Tryz.f13 rfl rfl rfl rfl rfl rfl rfl ⟨rfl,rfl,rfl,rfl,rfl⟩ rfl rfl rfl rfl rfl rD Tryz.func13 sI rE rG
  (λos a H b _ F=>sV os a H b F)
theorem steamNews_card:Rows.SteamNewsCardSaid:=
 dC .later [.funcs,.funcs] true (true,"201e5e2db2399e5c7105dcd83265e4138c5aa47392aa98dda04156c430957fc8") false
  nZ U steamNews_row_tie rfl ⟨rfl,rfl⟩ U rfl
  (λf fn c b=>by obtain rfl:f=13:=iO (rD.symm.trans c) |>.symm;obtain rfl:fn=Tryz.f13:=(iO (Tryz.func13.symm.trans b)).symm;exact⟨U,λj t e=>by have a:(Tryz.f13.params.all λu=>!Tryz.prog.wantsStandIn u)=true:=U;have d:=qBJ e;exact(show Tryz.prog.wantsStandIn t=false by simpa using(qAm.1 a) t d)⟩)
  U
