import Derived.Test.YtmfealhfgccmfaaGreatDoorTM04
set_option linter.all false
open Go Go.LL Go.Conc Go.ConcM
namespace Go.Proofs.YtmfealhfgccmfaaGreatDoor
open Go.ChangeShapes Go.WideShapes Go.ChangeAt Go.RowKit
set_option maxRecDepth 100000 in
def NE(os:Os)(b:os.Started)(H:Type)(d:TypeId×Value->H)(F:Stop.Interp) :
  ReturnsInLeavingWide { calm:=true } Tryz.checked os 5 .any (λw args=>(Rows.steamMouldedSpec.pre d Tryz.prog Tryz.f5 [] false w args/\laidMetH Tryz.prog y5 w)/\sizedMet d Tryz.prog Tryz.f5 (OpenSpec.ofChange Rows.steamMouldedSpec) false w args)
   ((OpenSpec.ofChange Rows.steamMouldedSpec).postWith d Tryz.prog Tryz.f5 F (outsideKept [.timePasses]) false true false):=by
 refine mM y5 (Gl:=λH=>Yb H/\aM H ⟨3,0,none⟩ [vf 407]) (λW h=>⟨nL qAB h,mN (qAm _ qAB) h⟩) Cg os b F rfl Tryz.func5 Tryz.results5 U U ?_ ?_ ?_ #[.agg #[.int .i64 0,.int .i64 0,.int .i64 0,.slice none 0 0,.slice none 0 0],.int .u8 0,.agg #[.int .i64 0,.slice none 0 0,.slice none 0 0,.slice none 0 0],.agg #[.slice none 0 0,.int .i64 0,.int .i64 0],.int .u8 0] U U U
 ·intro l o;rw[Tryz.params5]at o;match l,o with
  | [z,B,C,D,E],_=>rfl
 ·have h:(Tryz.f5.params.toList.all λt=>Tryz.prog.readableRec t && decide (t<Tryz.prog.types.size))=true:=U;intro t M;simpa using qAf.1 h t M
 ·intro W k args l p a m n;rw[Tryz.params5]at m a;obtain⟨q,w0,z,Z,p0,q0,ha,rfl,rfl,G,S⟩:=trodAll_cons m;obtain⟨r,w1,B,e1,p1,q1,rfl,rfl,rfl,I,T⟩:=trodAll_cons S;obtain⟨s,w2,C,e2,p2,q2,rfl,rfl,rfl,J,V⟩:=trodAll_cons T;obtain⟨u,w3,D,e3,p3,q3,rfl,rfl,rfl,K,X⟩:=trodAll_cons V;obtain⟨x,w4,E,e4,p4,q4,rfl,rfl,rfl,L,Y⟩:=trodAll_cons X;obtain⟨rfl,rfl,rfl⟩:=trodAll_nil Y;obtain rfl:args=#[q,r,s,u,x]:=by cases args;simp_all
  obtain⟨y,rfl,k0⟩:=sD (a 0 25 q rfl rfl) G;obtain⟨Q,rfl,f,g⟩:=lU (a 1 5 r rfl rfl) I;obtain⟨P,rfl,N⟩:=Ff (a 2 71 s rfl rfl) J;obtain⟨e,rfl,O⟩:=Fw (a 3 73 u rfl rfl) K;obtain⟨R,rfl,i,j⟩:=lU (a 4 5 x rfl rfl) L;exact oZ (args:=[y.v,.int .u8 Q,P.v,.agg #[.slice e.A e.pl.length e.c,vi e.lo,vi e.hi],.int .u8 R]) (fO Da) Tryz.func5 Tryz.results5 rfl (NF rfl k0 ⟨f,g⟩ N O ⟨i,j⟩ n.1 n.2)
def nK:Rows.SteamMouldedSaid:=
 OpenClaim.holds_of_wide_leaving_time 5 Tryz.f5 rfl rfl rfl rfl rfl rfl rfl ⟨rfl,rfl,rfl,rfl,rfl⟩ rfl rfl rfl rfl rfl IJ Tryz.func5 NG M5 M6
  (λos a H b _ F=>NE os a H b F)
theorem steamMoulded_card:Rows.SteamMouldedCardSaid:=
 kA .later [.funcs,.funcs] true (true,"dc68d070994010dff4ff967306ae2fa2ed82db0e2b226bb9468f5a575d68886c") false
  nK U steamMoulded_row_tie rfl ⟨rfl,rfl⟩ U rfl
  (λf fn c b=>by obtain rfl:f=5:=aT (IJ.symm.trans c) |>.symm;obtain rfl:fn=Tryz.f5:=(aT (Tryz.func5.symm.trans b)).symm;exact⟨U,λj t e=>by have a:(Tryz.f5.params.all λu=>!Tryz.prog.wantsStandIn u)=true:=U;have d:=qDB e;exact(show Tryz.prog.wantsStandIn t=false by simpa using(qAn.1 a) t d)⟩)
  U
