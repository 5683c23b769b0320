import Derived.Test.YtlhomfgcibjccaaGreatDoorTL02
set_option linter.all false
open Go Go.LL Go.Conc Go.ConcM
namespace Go.Proofs.YtlhomfgcibjccaaGreatDoor
open Go.ChangeShapes Go.WideShapes Go.ChangeAt Go.RowKit
set_option maxRecDepth 100000 in
def qJ(os:Os)(b:os.Started)(H:Type)(d:TypeId×Value->H)(F:Stop.Interp) :
  ReturnsInLeavingWide { calm:=true } Tryz.checked os 14 .any (λw args=>(Rows.steamLearntSpec.pre d Tryz.prog Tryz.f14 [] false w args/\laidMetH Tryz.prog OH w)/\sizedMet d Tryz.prog Tryz.f14 (OpenSpec.ofChange Rows.steamLearntSpec) false w args)
   ((OpenSpec.ofChange Rows.steamLearntSpec).postWith d Tryz.prog Tryz.f14 F (outsideKept [.timePasses]) false true false):=by
 refine dX os b F rfl Tryz.func14 Tryz.results14 U U ?_ ?_ ?_ #[.agg #[.int .i64 0,.int .i64 0,.int .i64 0,.slice none 0 0,.slice none 0 0],.agg #[.slice none 0 0,.int .i64 0,.int .i64 0],.int .u8 0,.agg #[.int .i64 0,.int .i64 0],.int .u8 0,.int .u8 0] U U U
 ·intro q u;rw[Tryz.params14]at u;match q,u with
  | [G,I,J,K,L,M],_=>rfl
 ·have h:(Tryz.f14.params.toList.all λt=>Tryz.prog.readableRec t && decide (t<Tryz.prog.types.size))=true:=U;intro t T;simpa using IN.1 h t T
 ·intro W o args q p a r s;rw[Tryz.params14]at r a;obtain⟨x,w0,G,e0,p0,q0,ha,rfl,rfl,N,Z⟩:=trodAll_cons r;obtain⟨y,w1,I,e1,p1,q1,rfl,rfl,rfl,O,r1⟩:=trodAll_cons Z;obtain⟨z,w2,J,e2,p2,q2,rfl,rfl,rfl,P,r2⟩:=trodAll_cons r1;obtain⟨B,w3,K,e3,p3,q3,rfl,rfl,rfl,Q,r3⟩:=trodAll_cons r2;obtain⟨C,w4,L,e4,p4,q4,rfl,rfl,rfl,R,r4⟩:=trodAll_cons r3;obtain⟨D,w5,M,e5,p5,q5,rfl,rfl,rfl,S,r5⟩:=trodAll_cons r4;obtain⟨rfl,rfl,rfl⟩:=trodAll_nil r5;obtain rfl:args=#[x,y,z,B,C,D]:=by cases args;simp_all
  obtain⟨E,rfl,k0⟩:=fW (a 0 25 x rfl rfl) N;obtain⟨e,rfl,k1⟩:=sO (a 1 85 y rfl rfl) O;obtain⟨V,rfl,f,g⟩:=gR (a 2 5 z rfl rfl) P;obtain⟨m,n,rfl⟩:=qI (a 3 36 B rfl rfl) Q;obtain⟨X,rfl,i,j⟩:=gR (a 4 5 C rfl rfl) R;obtain⟨Y,rfl,k,l⟩:=gR (a 5 5 D rfl rfl) S;exact eP (args:=[E.v,.agg #[.slice e.A e.ps.length e.c,vi e.lo,vi e.hi],.int .u8 V,.agg #[vi m,vi n],.int .u8 X,.int .u8 Y]) (bG yV) Tryz.func14 Tryz.results14 rfl (pP rfl k0 k1 ⟨f,g⟩ ⟨i,j⟩ ⟨k,l⟩ s.1 s.2)
def l4:Rows.SteamLearntSaid:=
 OpenClaim.holds_of_wide_leaving_time 14 Tryz.f14 rfl rfl rfl rfl rfl rfl rfl ⟨rfl,rfl,rfl,rfl,rfl⟩ rfl rfl rfl rfl rfl pQ Tryz.func14 qK pT pG
  (λos a H b _ F=>qJ os a H b F)
theorem steamLearnt_card:Rows.SteamLearntCardSaid:=
 dC .later [.funcs,.funcs] true (true,"201e5e2db2399e5c7105dcd83265e4138c5aa47392aa98dda04156c430957fc8") false
  l4 U steamLearnt_row_tie rfl ⟨rfl,rfl⟩ U rfl
  (λf fn c b=>by obtain rfl:f=14:=iO (pQ.symm.trans c) |>.symm;obtain rfl:fn=Tryz.f14:=(iO (Tryz.func14.symm.trans b)).symm;exact⟨U,λj t e=>by have a:(Tryz.f14.params.all λu=>!Tryz.prog.wantsStandIn u)=true:=U;have d:=qBJ e;exact(show Tryz.prog.wantsStandIn t=false by simpa using(qAm.1 a) t d)⟩)
  U
