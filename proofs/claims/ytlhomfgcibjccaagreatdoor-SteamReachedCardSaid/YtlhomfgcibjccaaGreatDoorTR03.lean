import Derived.Test.YtlhomfgcibjccaaGreatDoorTR02
set_option linter.all false
open Go Go.LL Go.Conc Go.ConcM
namespace Go.Proofs.YtlhomfgcibjccaaGreatDoor
open Go.ChangeShapes Go.WideShapes Go.ChangeAt Go.RowKit
set_option maxRecDepth 100000 in
def pS(os:Os)(b:os.Started)(H:Type)(c:TypeId×Value->H)(F:Stop.Interp) :
  ReturnsInLeavingWide { calm:=true } Tryz.checked os 5 .any (λw args=>(Rows.steamReachedSpec.pre c Tryz.prog Tryz.f5 [] false w args/\laidMetH Tryz.prog OH w)/\sizedMet c Tryz.prog Tryz.f5 (OpenSpec.ofChange Rows.steamReachedSpec) false w args)
   ((OpenSpec.ofChange Rows.steamReachedSpec).postWith c Tryz.prog Tryz.f5 F (outsideKept [.timePasses]) false true false):=by
 refine dX os b F rfl Tryz.func5 Tryz.results5 U U ?_ ?_ ?_ #[.agg #[.int .i64 0,.int .i64 0,.int .i64 0,.slice none 0 0,.slice none 0 0],.int .u8 0,.int .u8 0] U U U
 ·intro j m;rw[Tryz.params5]at m;match j,m with
  | [s,u,x],_=>rfl
 ·have h:(Tryz.f5.params.toList.all λt=>Tryz.prog.readableRec t && decide (t<Tryz.prog.types.size))=true:=U;intro t B;simpa using IN.1 h t B
 ·intro W i args j p a k l;rw[Tryz.params5]at k a;obtain⟨n,T,s,J,N,Q,M,rfl,rfl,y,E⟩:=trodAll_cons k;obtain⟨o,V,u,K,O,R,rfl,rfl,rfl,z,G⟩:=trodAll_cons E;obtain⟨q,X,x,L,P,S,rfl,rfl,rfl,A,I⟩:=trodAll_cons G;obtain⟨rfl,rfl,rfl⟩:=trodAll_nil I;obtain rfl:args=#[n,o,q]:=by cases args;simp_all
  obtain⟨r,rfl,k0⟩:=fW (a 0 25 n rfl rfl) y;obtain⟨C,rfl,d,e⟩:=iC (a 1 5 o rfl rfl) z;obtain⟨D,rfl,f,g⟩:=iC (a 2 5 q rfl rfl) A;exact eP (args:=[r.v,.int .u8 C,.int .u8 D]) (bG y4) Tryz.func5 Tryz.results5 rfl (pT rfl k0 ⟨d,e⟩ ⟨f,g⟩ l.1 l.2)
def lA:Rows.SteamReachedSaid:=
 OpenClaim.holds_of_wide_leaving_time 5 Tryz.f5 rfl rfl rfl rfl rfl rfl rfl ⟨rfl,rfl,rfl,rfl,rfl⟩ rfl rfl rfl rfl rfl pG Tryz.func5 pU pY pO
  (λos a H b _ F=>pS os a H b F)
theorem steamReached_card:Rows.SteamReachedCardSaid:=
 dC .later [.funcs,.funcs] true (true,"201e5e2db2399e5c7105dcd83265e4138c5aa47392aa98dda04156c430957fc8") false
  lA U steamReached_row_tie rfl ⟨rfl,rfl⟩ U rfl
  (λf fn c b=>by obtain rfl:f=5:=iO (pG.symm.trans c) |>.symm;obtain rfl:fn=Tryz.f5:=(iO (Tryz.func5.symm.trans b)).symm;exact⟨U,λj t e=>by have a:(Tryz.f5.params.all λu=>!Tryz.prog.wantsStandIn u)=true:=U;have d:=qBJ e;exact(show Tryz.prog.wantsStandIn t=false by simpa using(qAm.1 a) t d)⟩)
  U
