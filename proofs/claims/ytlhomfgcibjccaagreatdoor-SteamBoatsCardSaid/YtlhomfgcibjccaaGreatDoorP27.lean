import Derived.Test.YtlhomfgcibjccaaGreatDoorP26
import Derived.SevenTiedAt
set_option linter.all false
section
open Go Go.LL Go.Conc Go.ConcM
namespace Go.Proofs
section
open YtlhomfgcibjccaaGreatDoor
open Go.ChangeShapes Go.WideShapes Go.ChangeAt Go.RowKit
def dC(g:Looks){p:Pinned}{s:OpenSpec}{c:OpenClaim}(kinds:List LaidKind)(b:Bool)(a:Bool×String)(e:Bool)
  (n:c.holds p s) (w:c.wfByText s=true) (d:c.laidByTextAt g p kinds b)
  (k:c.start=.entering) (i:c.noBlocks=false/\c.again=false) (u:p.checked.prog.mainIs=some (a.1,a.2.toList)) (v:(!a.1 && a.2.isEmpty && !e)=false)
  (q:∀f fn,p.checked.prog.funcNamed c.func=some f->p.checked.prog.funcs[f]? = some fn->e=p.checked.prog.looks []/\∀(j:Nat) t,fn.params[j]? = some t->p.checked.prog.wantsStandIn t=false)
  (o:true=c.goesBy p.checked.prog) :
  Claim7.holds p (.plain s) { stood:={ row:=c,standIns:=[],harness:=a,looks:=e },kinds:=[],alts:=[],goes:=true,laidByText:=true,laidKinds:=kinds,laidTests:=b,laidLooks:=g }:=by
 have l:∀r:OpenClaim,Claim7.isSixth { stood:={ row:=r,standIns:=[],harness:=a,looks:=e },kinds:=[] }=false:=λr=>by simpa[Claim7.isSixth]using v
 refine⟨Claim7.tied_new_at g kinds b (Claim7.new_of_sixth n a e k i u (l c) q) w,λD m=>?_,d,(λh=>by cases h),o⟩;simp at m
section
variable{H:Type}{enc:TypeId×Value->H}
def Zm8{P:Program}(l:laidOutB P=true){W k:World}(hb:Below W.heap.size W k):∀{f:List TypeId} {j:List Value} {g:List (DataW H)} {e:List MemPlace},(∀t∈f,P.readableRec t=true/\t<P.types.size) ->
  DataW.TrodAll enc P W 0 (λ_=>true) true f j g e->(∀x∈e,x.block<W.heap.size)->DataW.TrodAll enc P k 0 (λb=>decide (b<W.heap.size)) true f j g e
 | [],[],[],_,_,h,_=>h
 | t :: f,v :: j,d :: g,e,m,h,a=>by obtain⟨p,q,n,o,rfl⟩:=h;have c:=m t (by simp);exact⟨p,q,hb.trod l c.1 c.2 n (λx i=>a x (by simp[i])),Zm8 l hb (λt c=>m t (by simp[c])) o (λx i=>a x (by simp[i])),rfl⟩
 | [],_ :: _,_,_,_,h,_=>by simp[DataW.TrodAll]at h
 | [],[],_ :: _,_,_,h,_=>by simp[DataW.TrodAll]at h
 | _ :: _,[],_,_,_,h,_=>by simp[DataW.TrodAll]at h
 | _ :: _,_ :: _,[],_,_,h,_=>by simp[DataW.TrodAll]at h
def ZgM{P:Program}{W:World}{a:Nat}{i:Nat->Bool}{held:Bool}:∀{c:List TypeId} {f:List Value} {b:List (DataW H)} {e:List MemPlace},DataW.TrodAll enc P W a i held c f b e->b.length=c.length
 | [],[],[],_,_=>rfl
 | t :: c,v :: f,d :: b,e,h=>by obtain⟨p,q,j,g,rfl⟩:=h;simp[ZgM g]
 | [],_ :: _,_,_,h=>by simp[DataW.TrodAll]at h
 | [],[],_ :: _,_,h=>by simp[DataW.TrodAll]at h
 | _ :: _,[],_,_,h=>by simp[DataW.TrodAll]at h
 | _ :: _,_ :: _,[],_,h=>by simp[DataW.TrodAll]at h
end
end
end Go.Proofs
end
open Go Go.LL Go.Conc Go.ConcM
namespace Go.Proofs.YtlhomfgcibjccaaGreatDoor
theorem aE{a b:Bool}(h:a=true)(g:b=true):(a && b)=true:=by rw[h,g];rfl
def gV:mapsRowed Tryz.pinned.checked.prog=true:=U
def fX:Tryz.pinned.checked.prog.stopsHeard=true:=U
def fY:Tryz.pinned.checked.prog.mayEnter=true:=U
