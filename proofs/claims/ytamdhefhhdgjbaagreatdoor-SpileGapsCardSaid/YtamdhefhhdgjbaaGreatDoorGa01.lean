/- proofs about Leango given: part Ga1; made by a program out of the longer texts in wip -/
import Derived.Test.YtamdhefhhdgjbaaGreatDoorGa00
set_option linter.all false
section
open Go Go.LL
namespace Go.Proofs
section
variable  {P:Prg}[Tz P][Loud P]{H:Hp}
set_option maxHeartbeats 8000000
set_option maxRecDepth 40000
theorem Wah {u w:Value}{a:List Int}(ha:SlAt H u a)(hb:SlAt H w a)(hl:a.length<=1000000):LL.Zag P 25 #[u,w] H fun v H'=>H=H'∧v=vb true:=
 LL.Zag.mono (Zia ha hb hl hl) fun v H' h=>⟨h.1,h.2.trans (by rw[decide_eq_true rfl])⟩
end
end Go.Proofs
end
section
open Go Go.LL Go.Conc Go.ConcM
namespace Go.Proofs
open YtamdhefhhdgjbaaGreatDoor Go.ChangeShapes Go.WideShapes
section
set_option maxRecDepth 100000
variable  {H:Type}{enc:TypeId×Value->H}{W:World}{base:Nat}{sp:Nat->Bool}{held:Bool}{fuel:Nat}{cs:List Value}{y:DataW H×List MemPlace}{r:Reach}{b0:Nat}{v:Value}{d:DataW H}{ps:List MemPlace}
theorem open_sl {α:Type}[Enc α]{t e:TypeId}(ht:Tryz.prog.underlying t=some (.slice e))(hc:Tryz.prog.cellsOf e=Enc.sz α)(hpos:0<Enc.sz α)
  (hel:∀ {n:Nat} {cs:List Value} {y:DataW H×List MemPlace},DataW.trod enc Tryz.prog W base sp held n e cs=some y->∃ x:α,cs=Enc.enc x)
  (hval:Value.okWide Tryz.prog W r b0 t v) (hd:DataW.Trod enc Tryz.prog W base sp held t v d ps):∃ l:List α,SlAt (roW W) v l:=by
 obtain⟨fuel,hf⟩:=hd
 obtain⟨a,len,cap,rfl⟩:=okWide_slice ht hval
 obtain⟨v,hv,l,hl⟩:=ZlR ht hc hpos hel hf
 have:Value.slice a len cap=v:=by simpa[Value.cells]using hv
 exact⟨l,this ▸ hl⟩
theorem War (hval:Value.okWide Tryz.prog W r b0 34 v)(hd:DataW.Trod enc Tryz.prog W base sp held 34 v d ps):∃ l:List Int,SlAt (roW W) v l:=
 open_sl u34 ZkC (by decide) (fun h=>Zg7 h) hval hd
end
end Go.Proofs
end
section
open Go Go.LL Go.Conc Go.ConcM
namespace Go.Proofs
open YtamdhefhhdgjbaaGreatDoor Go.ChangeShapes Go.WideShapes
section
set_option maxRecDepth 100000
variable  {H:Type}{enc:TypeId×Value->H}{W:World}{base:Nat}{sp:Nat->Bool}{held:Bool}{fuel:Nat}{cs:List Value}{y:DataW H×List MemPlace}{r:Reach}{b0:Nat}{v:Value}{d:DataW H}{ps:List MemPlace}
theorem cells70:Tryz.prog.cellsOf 70=2:=by kernel_rfl
theorem WaJ (h:DataW.trod enc Tryz.prog W base sp held fuel 70 cs=some y):∃ a b,cs=[vi a,vi b]:=by
 obtain⟨xs,n,rfl,_,hl,hx,hf⟩:=DataW.trod_struct Tryz.underlying70 h
 rw[cells70]at hl
 obtain⟨y0,h0⟩:=ZaR (xs:=xs) (i:=0) (by rw[hx];decide)
 obtain⟨y1,h1⟩:=ZaR (xs:=xs) (i:=1) (by rw[hx];decide)
 have f0:DataW.trod enc Tryz.prog W base sp held n 3 ((cs.drop 0).take (Tryz.prog.cellsOf 3))=xs[0]?:=hf 0 _ rfl
 have f1:DataW.trod enc Tryz.prog W base sp held n 3 ((cs.drop 1).take (Tryz.prog.cellsOf 3))=xs[1]?:=hf 1 _ rfl
 rw[h0]at f0
 rw[h1]at f1
 obtain⟨a,ha⟩:=Zg7 f0
 obtain⟨b,hb⟩:=Zg7 f1
 rw[ZkC]at ha hb
 have ha:=cut2 ha
 have hb:=cut2 hb
 refine⟨a,b,ZhV hl fun i hi=>?_⟩
 match i,hi with
 | 0,_=>exact ha
 | 1,_=>exact hb
theorem WaI (hval:Value.okWide Tryz.prog W r b0 70 v)(hd:DataW.Trod enc Tryz.prog W base sp held 70 v d ps):∃ k:Slip,v=ZbG k:=by
 obtain⟨fuel,hf⟩:=hd
 obtain⟨c,rfl⟩:=ZhQ Tryz.underlying70 hval
 obtain⟨a,b,hx⟩:=WaJ hf
 obtain⟨c⟩:=c
 exact⟨⟨a,b⟩,by simpa[Value.cells,ZbG]using hx⟩
end
end Go.Proofs
end
