/- A part of the proof: contracts of the functions that the statement reaches. -/
import Derived.Test.YtmaiccmhkmndcaaGreatDoorEngC
import Derived.Test.YtmaiccmhkmndcaaGreatDoorChpAA
import Derived.Test.YtmaiccmhkmndcaaGreatDoorRows
import Derived.ProofKit
import Derived.LaidMore
set_option linter.unusedSimpArgs false
set_option linter.unusedVariables false
set_option linter.unnecessarySimpa false
set_option maxRecDepth 100000
set_option maxHeartbeats 40000000
open Go.Proofs.Tryz renaming prog->af
open List renaming mem_singleton->gE
open Option.some renaming inj->gH
open Prod renaming fst->bp
namespace Go.Proofs.YtmaiccmhkmndcaaGreatDoor
open Go Go.Sg
section
open Go.ChangeAt Go.ChangeShapes Go.RowKit Go.WideShapes
abbrev L8:List (String×DataW Unit):=Rows.topBudgetsRow.named.map λn=>(n,Rows.laid_signatory_policies_kinds)
theorem gK:af.globalNamed (Rows.topBudgetsRow.named.headD default)=some 0:=by kernel_rfl
theorem tK:(af.globals[0]?).map (·.type)=some 282:=by kernel_rfl
theorem QZ(os:Os)(args:Array Value):laidMetH af L8 ((World.doorLaid af 600 os).forCall (λ_ _=>0) ⟨#[],args,[]⟩).memory:=
 laidMetH_of_parts3 (fuel:=8) (laidMet_of_run' 8 (by kernel_rfl) (by kernel_rfl)) (by kernel_rfl) (by kernel_rfl)
def N4(i:UInt8):List UInt8:=[105,103,110,97,116,111,114,121,47,112,111,108,105,99,105,101,115,46,107,105,110,100,115,36,i]
theorem TF{W:World}(h:laidMetH af L8 W):IB (jJ W) W:=by
 obtain⟨g,t,cs,fuel,p,hg,ht,hv,hd⟩:=h.funcs (gE.2 rfl);obtain rfl:=gH (gK.symm.trans hg);obtain rfl:=gH (tK.symm.trans ht);have R6:DataW.trod (funcToken af) af W 0 (λ_=>true) true fuel 282 cs.toList=some (.agg [.held (115::N4 49),.held (115::N4 50),.held (115::N4 51),.held (115::N4 52),.held (115::N4 53)],p):=hd;obtain⟨xs,m1,rfl,hx1,hlen,TQ,Ua⟩:=DataW.trod_array Tryz.underlying282 R6;(have c1:af.cellsOf 234=1:=by kernel_rfl);(have c2:af.cellsOf 282=5:=by kernel_rfl);rw[c2] at hlen;rw[c1] at Ua
 have jd:xs.map bp=[.held (115::N4 49),.held (115::N4 50),.held (115::N4 51),.held (115::N4 52),.held (115::N4 53)]:=by
  have:=congrArg bp hx1;injection this with this;exact this.symm
 have key:∀(i:Nat) (c:UInt8) (f0:FuncId),i<5->(xs.map bp)[i]? =some (.held (115::N4 c))->((List.range af.funcs.size).filter λf=>(af.funcs[f]?).any (·.name.toUTF8.data.toList==115::N4 c))=[f0]->W.cell? ⟨0,0+i,none⟩=some (.func (.func f0) #[] #[]):=λi c f0 hi hx hf=>by
  rw[World.var?_cell hg hv];rw[List.getElem?_map,Option.map_eq_some_iff] at hx;obtain⟨⟨x,q⟩,Uq,hx3⟩:=hx;have hx3:x= .held (115::N4 c):=hx3;subst hx3;have h1:=Ua i hi;obtain⟨v,hv2⟩:∃v,cs.toList[i]? =some v:=⟨_,List.getElem?_eq_getElem (by omega)⟩
  have h2:List.take 1 (List.drop (i*1) cs.toList)=[v]:=by
   obtain⟨h3,h4⟩:=List.getElem?_eq_some_iff.1 hv2;rw[Nat.mul_one,List.drop_eq_getElem_cons h3,h4];rfl
  rw[h2,Uq] at h1;obtain rfl:=func_of_trod (f0:=f0) Tryz.underlying234 hf h1;rw[Nat.zero_add,<-Array.getElem?_toList];exact hv2
 have k0:=key 0 49 324 (by decide) (by rw[jd];rfl) (by kernel_rfl);intro x hx;obtain rfl:=gE.1 hx;refine⟨zT k0,λj f hj=>?_⟩
 match j,hj with
 |0,hj=>cases hj;exact k0
 |1,hj=>cases hj;exact key 1 50 325 (by decide) (by rw[jd];rfl) (by kernel_rfl)
 |2,hj=>cases hj;exact key 2 51 326 (by decide) (by rw[jd];rfl) (by kernel_rfl)
 |3,hj=>cases hj;exact key 3 52 327 (by decide) (by rw[jd];rfl) (by kernel_rfl)
 |4,hj=>cases hj;exact key 4 53 328 (by decide) (by rw[jd];rfl) (by kernel_rfl)
end
end Go.Proofs.YtmaiccmhkmndcaaGreatDoor
