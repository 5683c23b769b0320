import Derived.Test.YtlhomfgcibjccaaGreatDoorTW02
set_option linter.all false
open Go Go.LL Go.Conc Go.ConcM
namespace Go.Proofs.YtlhomfgcibjccaaGreatDoor
open Go.ChangeShapes Go.WideShapes Go.ChangeAt Go.RowKit
set_option maxRecDepth 100000 in
def lT(os:Os)(b:os.Started)(H:Type)(c:TypeId×Value->H)(F:Stop.Interp) :
  ReturnsInLeavingWide { calm:=true } Tryz.checked os 15 .any (λw args=>(Rows.steamWorksSpec.pre c Tryz.prog Tryz.f15 [] false w args/\laidMetH Tryz.prog OH w)/\sizedMet c Tryz.prog Tryz.f15 (OpenSpec.ofChange Rows.steamWorksSpec) false w args)
   ((OpenSpec.ofChange Rows.steamWorksSpec).postWith c Tryz.prog Tryz.f15 F (outsideKept [.timePasses]) false true false):=by
 refine dX os b F rfl Tryz.func15 Tryz.results15 U U ?_ ?_ ?_ #[.agg #[.int .i64 0,.int .i64 0,.int .i64 0,.slice none 0 0,.slice none 0 0],.slice none 0 0,.slice none 0 0] U U U
 ·intro g k;rw[Tryz.params15]at k;match g,k with
  | [s,u,x],_=>rfl
 ·have h:(Tryz.f15.params.toList.all λt=>Tryz.prog.readableRec t && decide (t<Tryz.prog.types.size))=true:=U;intro t B;simpa using IN.1 h t B
 ·intro W f args g p a i j;rw[Tryz.params15]at i a;obtain⟨l,V,s,K,O,R,N,rfl,rfl,y,G⟩:=trodAll_cons i;obtain⟨m,X,u,L,P,S,rfl,rfl,rfl,z,I⟩:=trodAll_cons G;obtain⟨n,Y,x,M,Q,T,rfl,rfl,rfl,A,J⟩:=trodAll_cons I;obtain⟨rfl,rfl,rfl⟩:=trodAll_nil J;obtain rfl:args=#[l,m,n]:=by cases args;simp_all
  obtain⟨r,rfl,k0⟩:=fW (a 0 25 l rfl rfl) y;obtain⟨D,o,c1,rfl,d,k1⟩:=kY (a 1 26 m rfl rfl) z;obtain⟨E,q,c2,rfl,e,C⟩:=kY (a 2 26 n rfl rfl) A;exact eP (args:=[r.v,.slice o D.length c1,.slice q E.length c2]) (bG sI) Tryz.func15 Tryz.results15 rfl (mE rfl k0 k1 d C e j.1 j.2)
def mY:Rows.SteamWorksSaid:=
 OpenClaim.holds_of_wide_leaving_time 15 Tryz.f15 rfl rfl rfl rfl rfl rfl rfl ⟨rfl,rfl,rfl,rfl,rfl⟩ rfl rfl rfl rfl rfl lU Tryz.func15 mF lW mJ
  (λos a H b _ F=>lT os a H b F)
theorem steamWorks_card:Rows.SteamWorksCardSaid:=
 dC .later [.funcs,.funcs] true (true,"201e5e2db2399e5c7105dcd83265e4138c5aa47392aa98dda04156c430957fc8") false
  mY U steamWorks_row_tie rfl ⟨rfl,rfl⟩ U rfl
  (λf fn c b=>by obtain rfl:f=15:=iO (lU.symm.trans c) |>.symm;obtain rfl:fn=Tryz.f15:=(iO (Tryz.func15.symm.trans b)).symm;exact⟨U,λj t e=>by have a:(Tryz.f15.params.all λu=>!Tryz.prog.wantsStandIn u)=true:=U;have d:=qBJ e;exact(show Tryz.prog.wantsStandIn t=false by simpa using(qAm.1 a) t d)⟩)
  U
