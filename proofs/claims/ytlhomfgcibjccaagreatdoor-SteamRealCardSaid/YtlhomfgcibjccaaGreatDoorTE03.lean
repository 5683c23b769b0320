import Derived.Test.YtlhomfgcibjccaaGreatDoorTE02
set_option linter.all false
open Go Go.LL Go.Conc Go.ConcM
namespace Go.Proofs.YtlhomfgcibjccaaGreatDoor
open Go.ChangeShapes Go.WideShapes Go.ChangeAt Go.RowKit
set_option maxRecDepth 100000 in
def qI(os:Os)(b:os.Started)(H:Type)(c:TypeId×Value->H)(F:Stop.Interp) :
  ReturnsInLeavingWide { calm:=true } Tryz.checked os 16 .any (λw args=>(Rows.steamRealSpec.pre c Tryz.prog Tryz.f16 [] false w args/\laidMetH Tryz.prog OH w)/\sizedMet c Tryz.prog Tryz.f16 (OpenSpec.ofChange Rows.steamRealSpec) false w args)
   ((OpenSpec.ofChange Rows.steamRealSpec).postWith c Tryz.prog Tryz.f16 F (outsideKept [.timePasses]) false true false):=by
 refine dX os b F rfl Tryz.func16 Tryz.results16 U U ?_ ?_ ?_ #[.agg #[.int .i64 0,.int .i64 0,.int .i64 0,.slice none 0 0,.slice none 0 0],.slice none 0 0,.int .u8 0,.int .u8 0] U U U
 ·intro k n;rw[Tryz.params16]at n;match k,n with
  | [u,x,y,z],_=>rfl
 ·have h:(Tryz.f16.params.toList.all λt=>Tryz.prog.readableRec t && decide (t<Tryz.prog.types.size))=true:=U;intro t E;simpa using IN.1 h t E
 ·intro W j args k p a l m;rw[Tryz.params16]at l a;obtain⟨o,w0,u,N,T,Z,R,rfl,rfl,A,J⟩:=trodAll_cons l;obtain⟨i,w1,x,O,V,q1,rfl,rfl,rfl,B,K⟩:=trodAll_cons J;obtain⟨q,w2,y,P,X,q2,rfl,rfl,rfl,C,L⟩:=trodAll_cons K;obtain⟨r,w3,z,Q,Y,q3,rfl,rfl,rfl,D,M⟩:=trodAll_cons L;obtain⟨rfl,rfl,rfl⟩:=trodAll_nil M;obtain rfl:args=#[o,i,q,r]:=by cases args;simp_all
  obtain⟨s,rfl,k0⟩:=fW (a 0 25 o rfl rfl) A;obtain⟨S,k1⟩:=oB (a 1 59 i rfl rfl) B;obtain⟨G,rfl,d,e⟩:=kP (a 2 5 q rfl rfl) C;obtain⟨I,rfl,f,g⟩:=kP (a 3 5 r rfl rfl) D;exact eP (args:=[s.v,i,.int .u8 G,.int .u8 I]) (bG JH) Tryz.func16 Tryz.results16 rfl (qJ rfl k0 k1 ⟨d,e⟩ ⟨f,g⟩ m.1 m.2)
def nY:Rows.SteamRealSaid:=
 OpenClaim.holds_of_wide_leaving_time 16 Tryz.f16 rfl rfl rfl rfl rfl rfl rfl ⟨rfl,rfl,rfl,rfl,rfl⟩ rfl rfl rfl rfl rfl pP Tryz.func16 pQ pS pT
  (λos a H b _ F=>qI os a H b F)
theorem steamReal_card:Rows.SteamRealCardSaid:=
 dC .later [.funcs,.funcs] true (true,"201e5e2db2399e5c7105dcd83265e4138c5aa47392aa98dda04156c430957fc8") false
  nY U steamReal_row_tie rfl ⟨rfl,rfl⟩ U rfl
  (λf fn c b=>by obtain rfl:f=16:=iO (pP.symm.trans c) |>.symm;obtain rfl:fn=Tryz.f16:=(iO (Tryz.func16.symm.trans b)).symm;exact⟨U,λj t e=>by have a:(Tryz.f16.params.all λu=>!Tryz.prog.wantsStandIn u)=true:=U;have d:=qBJ e;exact(show Tryz.prog.wantsStandIn t=false by simpa using(qAm.1 a) t d)⟩)
  U
