import Derived.Test.YtmfealhfgccmfaaGreatDoorTB04
set_option linter.all false
open Go Go.LL Go.Conc Go.ConcM
namespace Go.Proofs.YtmfealhfgccmfaaGreatDoor
open Go.ChangeShapes Go.WideShapes Go.ChangeAt Go.RowKit
set_option maxRecDepth 100000 in
def Hu(os:Os)(b:os.Started)(H:Type)(c:TypeId×Value->H)(F:Stop.Interp) :
  ReturnsInLeavingWide { calm:=true } Tryz.checked os 4 .any (λw args=>(Rows.steamBentSpec.pre c Tryz.prog Tryz.f4 [] false w args/\laidMetH Tryz.prog FB w)/\sizedMet c Tryz.prog Tryz.f4 (OpenSpec.ofChange Rows.steamBentSpec) false w args)
   ((OpenSpec.ofChange Rows.steamBentSpec).postWith c Tryz.prog Tryz.f4 F (outsideKept [.timePasses]) false true false):=by
 refine mM FB (Gl:=λH=>Yb H/\aM H ⟨3,0,none⟩ [vf 407]/\oE H) (λW h=>⟨nL (qAm _ qAB) h,mN (qAm _ (qAm _ qAB)) h,Ch qAB h⟩) Ce os b F rfl Tryz.func4 Tryz.results4 U U ?_ ?_ ?_ #[.agg #[.int .i64 0,.int .i64 0,.int .i64 0,.slice none 0 0,.slice none 0 0],.int .u8 0,.agg #[.int .i64 0,.int .i64 0,.int .i64 0,.slice none 0 0,.slice none 0 0],.int .u8 0,.int .u8 0,.agg #[.int .i64 0,.int .i64 0],.int .u8 0] U U U
 ·intro r u;rw[Tryz.params4]at u;match r,u with
  | [I,J,K,L,M,N,O],_=>rfl
 ·have h:(Tryz.f4.params.toList.all λt=>Tryz.prog.readableRec t && decide (t<Tryz.prog.types.size))=true:=U;intro t Y;simpa using qAf.1 h t Y
 ·intro W q args r p a s d;rw[Tryz.params4]at s a;obtain⟨x,w0,I,e0,p0,q0,ha,rfl,rfl,P,r0⟩:=trodAll_cons s;obtain⟨y,w1,J,e1,p1,q1,rfl,rfl,rfl,Q,r1⟩:=trodAll_cons r0;obtain⟨z,w2,K,e2,p2,q2,rfl,rfl,rfl,R,r2⟩:=trodAll_cons r1;obtain⟨A,w3,L,e3,p3,q3,rfl,rfl,rfl,S,r3⟩:=trodAll_cons r2;obtain⟨B,w4,M,e4,p4,q4,rfl,rfl,rfl,T,r4⟩:=trodAll_cons r3;obtain⟨C,w5,N,e5,p5,q5,rfl,rfl,rfl,V,r5⟩:=trodAll_cons r4;obtain⟨D,w6,O,e6,p6,q6,rfl,rfl,rfl,X,r6⟩:=trodAll_cons r5;obtain⟨rfl,rfl,rfl⟩:=trodAll_nil r6;obtain rfl:args=#[x,y,z,A,B,C,D]:=by cases args;simp_all
  obtain⟨E,rfl,k0⟩:=sD (a 0 25 x rfl rfl) P;obtain⟨n1,rfl,e,f⟩:=lU (a 1 5 y rfl rfl) Q;obtain⟨G,rfl,Z⟩:=Be (a 2 55 z rfl rfl) R;obtain⟨n3,rfl,g,i⟩:=lU (a 3 5 A rfl rfl) S;obtain⟨n4,rfl,j,k⟩:=lU (a 4 5 B rfl rfl) T;obtain⟨n,o,rfl⟩:=Ho (a 5 31 C rfl rfl) V;obtain⟨n6,rfl,l,m⟩:=lU (a 6 5 D rfl rfl) X;exact oZ (args:=[E.v,.int .u8 n1,G.v,.int .u8 n3,.int .u8 n4,.agg #[vi n,vi o],.int .u8 n6]) (fO Cm) Tryz.func4 Tryz.results4 rfl (Hw rfl k0 ⟨e,f⟩ Z ⟨g,i⟩ ⟨j,k⟩ ⟨l,m⟩ d.1 d.2.1 d.2.2)
def aAc:Rows.SteamBentSaid:=
 OpenClaim.holds_of_wide_leaving_time 4 Tryz.f4 rfl rfl rfl rfl rfl rfl rfl ⟨rfl,rfl,rfl,rfl,rfl⟩ rfl rfl rfl rfl rfl Hx Tryz.func4 Hy Gu Gv
  (λos a H b _ F=>Hu os a H b F)
theorem steamBent_card:Rows.SteamBentCardSaid:=
 kA .later [.funcs,.funcs,.funcs] true (true,"dc68d070994010dff4ff967306ae2fa2ed82db0e2b226bb9468f5a575d68886c") false
  aAc U steamBent_row_tie rfl ⟨rfl,rfl⟩ U rfl
  (λf fn c b=>by obtain rfl:f=4:=aT (Hx.symm.trans c) |>.symm;obtain rfl:fn=Tryz.f4:=(aT (Tryz.func4.symm.trans b)).symm;exact⟨U,λj t e=>by have a:(Tryz.f4.params.all λu=>!Tryz.prog.wantsStandIn u)=true:=U;have d:=qDB e;exact(show Tryz.prog.wantsStandIn t=false by simpa using(qAn.1 a) t d)⟩)
  U
