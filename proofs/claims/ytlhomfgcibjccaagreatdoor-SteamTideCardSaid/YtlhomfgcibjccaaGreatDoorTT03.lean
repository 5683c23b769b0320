import Derived.Test.YtlhomfgcibjccaaGreatDoorTT02
set_option linter.all false
open Go Go.LL Go.Conc Go.ConcM
namespace Go.Proofs.YtlhomfgcibjccaaGreatDoor
open Go.ChangeShapes Go.WideShapes Go.ChangeAt Go.RowKit
set_option maxRecDepth 100000 in
def pV(os:Os)(b:os.Started)(H:Type)(c:TypeId×Value->H)(F:Stop.Interp) :
  ReturnsInLeavingWide { calm:=true } Tryz.checked os 10 .any (λw args=>(Rows.steamTideSpec.pre c Tryz.prog Tryz.f10 [] false w args/\laidMetH Tryz.prog OH w)/\sizedMet c Tryz.prog Tryz.f10 (OpenSpec.ofChange Rows.steamTideSpec) false w args)
   ((OpenSpec.ofChange Rows.steamTideSpec).postWith c Tryz.prog Tryz.f10 F (outsideKept [.timePasses]) false true false):=by
 refine dX os b F rfl Tryz.func10 Tryz.results10 U U ?_ ?_ ?_ #[.agg #[.int .i64 0,.int .i64 0,.int .i64 0,.slice none 0 0,.slice none 0 0],.slice none 0 0,.slice none 0 0,.int .u8 0] U U U
 ·intro j m;rw[Tryz.params10]at m;match j,m with
  | [r,s,u,x],_=>rfl
 ·have h:(Tryz.f10.params.toList.all λt=>Tryz.prog.readableRec t && decide (t<Tryz.prog.types.size))=true:=U;intro t C;simpa using IN.1 h t C
 ·intro W i args j p a k l;rw[Tryz.params10]at k a;obtain⟨n,w0,r,L,S,Y,P,rfl,rfl,y,G⟩:=trodAll_cons k;obtain⟨f,w1,s,M,T,Z,rfl,rfl,rfl,z,I⟩:=trodAll_cons G;obtain⟨g,w2,u,N,V,q2,rfl,rfl,rfl,A,J⟩:=trodAll_cons I;obtain⟨o,w3,x,O,X,q3,rfl,rfl,rfl,B,K⟩:=trodAll_cons J;obtain⟨rfl,rfl,rfl⟩:=trodAll_nil K;obtain rfl:args=#[n,f,g,o]:=by cases args;simp_all
  obtain⟨q,rfl,k0⟩:=fW (a 0 25 n rfl rfl) y;obtain⟨Q,k1⟩:=jG (a 1 59 f rfl rfl) z;obtain⟨R,D⟩:=jG (a 2 59 g rfl rfl) A;obtain⟨E,rfl,d,e⟩:=nL (a 3 5 o rfl rfl) B;exact eP (args:=[q.v,f,g,.int .u8 E]) (bG yZ) Tryz.func10 Tryz.results10 rfl (pW rfl k0 k1 D ⟨d,e⟩ l.1 l.2)
def nX:Rows.SteamTideSaid:=
 OpenClaim.holds_of_wide_leaving_time 10 Tryz.f10 rfl rfl rfl rfl rfl rfl rfl ⟨rfl,rfl,rfl,rfl,rfl⟩ rfl rfl rfl rfl rfl pH Tryz.func10 pX oC nU
  (λos a H b _ F=>pV os a H b F)
theorem steamTide_card:Rows.SteamTideCardSaid:=
 dC .later [.funcs,.funcs] true (true,"201e5e2db2399e5c7105dcd83265e4138c5aa47392aa98dda04156c430957fc8") false
  nX U steamTide_row_tie rfl ⟨rfl,rfl⟩ U rfl
  (λf fn c b=>by obtain rfl:f=10:=iO (pH.symm.trans c) |>.symm;obtain rfl:fn=Tryz.f10:=(iO (Tryz.func10.symm.trans b)).symm;exact⟨U,λj t e=>by have a:(Tryz.f10.params.all λu=>!Tryz.prog.wantsStandIn u)=true:=U;have d:=qBJ e;exact(show Tryz.prog.wantsStandIn t=false by simpa using(qAm.1 a) t d)⟩)
  U
