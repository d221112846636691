/- A part of the proof: contracts of the functions that the statement reaches. -/
import Derived.Test.YtmaiccmhkmndcaaGreatDoorChpAV
import Derived.Test.YtmaiccmhkmndcaaGreatDoorChpAQ
import Derived.Test.YtmaiccmhkmndcaaGreatDoorChpAE
import Derived.Test.YtmaiccmhkmndcaaGreatDoorChpAF
import Derived.Test.YtmaiccmhkmndcaaGreatDoorChpAH
import Derived.Test.YtmaiccmhkmndcaaGreatDoorChpAD
import Derived.Test.YtmaiccmhkmndcaaGreatDoorChpAG
import Derived.Test.YtmaiccmhkmndcaaGreatDoorChpAA
set_option linter.unusedSimpArgs false
set_option linter.unusedVariables false
set_option linter.unnecessarySimpa false
set_option maxRecDepth 100000
set_option maxHeartbeats 40000000
open And renaming intro->ae
open Bool renaming and_eq_true->aQ
open Go.Proofs.Tryz renaming prog->af
open List renaming length_map->ak,getElem?_eq_none_iff->bw,take_of_length_le->bN,getElem?_eq_some_iff->aq
namespace Go.Proofs.YtmaiccmhkmndcaaGreatDoor
open Go Go.Sg
structure Rg where
 ap:List Of.Ap
 dp:List rP.Dp
 it:List ng.It
 bg:List bx.Bg
 vs:List Vr
 dc:List bA.Dc
 av:List od.Ap
def Rr(r:Rg):PV:= .agg [Of.eL r.ap,rP.eL r.dp,ng.eL r.it,bx.eL r.bg,BJ r.vs,bA.eL r.dc,od.eL r.av]
def EN(d:bA.Dc):Bool:=decide (d.par.length<=20)&&(decide (d.rev.length<=20)&&decide (d.need.length<=20))
def Dn(r:Rg):Bool:=decide (r.ap.length<=30)&&(decide (r.dp.length<=12)&&(decide (r.it.length<=12)&&(decide (r.bg.length<=12)&&(decide (r.dc.length<=8)&&decide (r.av.length<=24)))))
def u6(r:Rg):Bool:=(Dn r&&p7 r.vs)&&r.dc.all EN
theorem NF(r:Rg):aa af 5 [Rr r] (.bool (u6 r)):=by
 have q1:=JT r.vs;obtain⟨R,hR⟩:∃R,R=u6 r:=⟨_,rfl⟩;rw[<-hR];refine aa.e Tryz.func5 79 [.tmp 2] [0,1,2,3,43,48,78] ?_;refine bM q1 (ae (λhc=>?_) λhc=>ae (λhc=>?_) λhc=>ae (λhc=>?_) λhc=>ae (λhc=>?_) λhc=>ae (λhc=>?_) λhc=>ae (λhc=>?_) λhc=>ae (λhc=>?_) λhc=>?_)
 all_goals simp only[ak] at *
 all_goals first
 |(have hf:Dn r=false:=by
    simp only[Dn,Bool.and_eq_false_iff,decide_eq_false_iff_not];omega
   exact aP.bool (by rw[hR];unfold u6;rw[hf];rfl))
 |(have hf:p7 r.vs=false:=by assumption
   exact aP.bool (by rw[hR];unfold u6;rw[hf,Bool.and_false];rfl))
 |skip
 have hl:Dn r=true:=by
  simp only[Dn,aQ,decide_eq_true_eq];omega
 have hR:R=r.dc.all EN:=by rw[hR];unfold u6;rw[hl,show p7 r.vs=true by assumption];rfl
 (have Rm:r.dc.length<=8:=by omega);obtain⟨l,U0⟩:∃l,l=r.dc:=⟨_,rfl⟩;rw[<-U0] at hR Rm;refine bY.bK (α:={i:Nat // i<=l.length/\(l.take i).all EN=true}) mixed [0,1,2,3,43,48,78] (λi=>[(3,.p (eI i.1))]) (λi=>l.length-i.1) ⟨0,by omega,rfl⟩ ?_ ?_
 · exact aG trivial
 rintro⟨i,hi,hq⟩;have hi:i<=l.length:=hi;have hq:(l.take i).all EN=true:=hq
 cases hx:l[i]? with
 |none=>
  have dD:l.length<=i:=bw.1 hx;(have bV:¬((i:Int)<((r.dc.map bA.eA).length:Int)):=by rw[<-U0,ak];omega);rw[bN dD] at hq;refine bM (kN bV) (λhc=>?_)
  all_goals exact aP.bool (by rw[hR,hq])
 |some x=>
  have aC:i<l.length:=(aq.1 hx).1;(have ay:((i:Int)<((r.dc.map bA.eA).length:Int)):=by rw[<-U0,ak];omega);(have Uq:r.dc[i]? =some x:=by rw[<-U0];exact hx);refine gG (kY ay) (kX Uq) (λhc=>ae (λhc=>?_) λhc=>ae (λhc=>?_) λhc=>ae (λhc=>?_) λhc=>?_)
  all_goals first
  |(have hf:EN x=false:=by
     simp only[ak] at *;simp only[EN,Bool.and_eq_false_iff,decide_eq_false_iff_not];omega
    exact aP.bool (by rw[hR,iU hx hf]))
  |(have hf:EN x=true:=by
     simp only[ak] at *;simp only[EN,aQ,decide_eq_true_eq];omega
    refine⟨⟨i+1,aC,cE hx hq hf⟩,by show l.length-(i+1)<l.length-i;omega,?_⟩
    exact aG trivial)
  |trace_state
theorem EO(t:Int):aa af 7 [eI t] (.bool (bh 0 1099511627775 t)):=by
 refine aa.e Tryz.func7 9 [.tmp 2] [0,2] ?_;refine cb (ae (λhc=>?_) λhc=>?_)
 all_goals(refine aP.bool ?_;rw[Bool.eq_iff_iff];simp[bh];try omega)
structure Ta(r:Rg):Prop where
 ap:r.ap.length<1000000
 dp:r.dp.length<1000000
 it:r.it.length<1000000
 bg:r.bg.length<1000000
 vs:Qa r.vs
 dc:r.dc.length<1000000
 av:r.av.length<1000000
 dd:∀x∈r.dc,bA.xY x
def EP(r:Rg):Int:=if Of.aJ r.ap=0/\rP.aJ r.dp=0/\ng.aJ r.it=0/\bx.aJ r.bg=0/\xO r.vs=0/\bA.aJ r.dc=0/\od.aJ r.av=0 then 0 else 300
theorem sY(r:Rg)(h:Ta r):aa af 6 [Rr r] (eI (EP r)):=by
 have q1:=Of.dH r.ap h.ap;have q2:=rP.dH r.dp h.dp;have q3:=ng.dH r.it h.it;have q4:=bx.dH r.bg h.bg;have q5:=BN r.vs h.vs;have q6:=bA.dH r.dc h.dc (λx hx=>⟨(h.dd x hx).1,by have:=(h.dd x hx).2.1;omega,by have:=(h.dd x hx).2.2;omega⟩);have q7:=od.dH r.av h.av;unfold EP;generalize Of.aJ r.ap=a1 at *;generalize rP.aJ r.dp=a2 at *;generalize ng.aJ r.it=a3 at *;generalize bx.aJ r.bg=a4 at *;generalize xO r.vs=a5 at *;generalize bA.aJ r.dc=a6 at *;generalize od.aJ r.av=a7 at *;refine aa.e Tryz.func6 41 [.tmp 2] [0,1,2,24,40] ?_;refine Ri q1 q2 q3 q4 q5 q6 q7 (ae (λhc=>?_) λhc=>ae (λhc=>?_) λhc=>ae (λhc=>?_) λhc=>ae (λhc=>?_) λhc=>ae (λhc=>?_) λhc=>ae (λhc=>?_) λhc=>ae (λhc=>?_) λhc=>?_)
 all_goals(refine aP.of ?_;simp_all<;>rfl)
theorem u7(r:Rg)(h:Ta r)(hv:xO r.vs=0):aa af 4 [Rr r] (eI (EP r)):=by
 have q1:=Of.bm r.ap h.ap;have q2:=rP.bm r.dp h.dp;have q3:=ng.bm r.it h.it;have q4:=bx.bm r.bg h.bg;have q5:=u4 r.vs h.vs hv;have q6:=bA.bm r.dc h.dc h.dd;have q7:=od.bm r.av h.av
 have e:EP r=if[Of.aJ r.ap,rP.aJ r.dp,ng.aJ r.it,bx.aJ r.bg,xO r.vs,bA.aJ r.dc,od.aJ r.av].all (λn=>decide (n=0)) then 0 else 300:=by
  unfold EP;simp only[List.all_cons,List.all_nil,Bool.and_true,aQ,decide_eq_true_eq]
 rw[e,hv];generalize Of.aJ r.ap=a1 at *;generalize rP.aJ r.dp=a2 at *;generalize ng.aJ r.it=a3 at *;generalize bx.aJ r.bg=a4 at *;generalize bA.aJ r.dc=a6 at *;generalize od.aJ r.av=a7 at *;clear e hv;refine aa.e Tryz.func4 35 [.tmp 2] [0,1,2,4,26,27,28,29,33] ?_;refine Ri q1 q2 q3 q4 q5 q6 q7 ?_;generalize hL: [a1,a2,a3,a4,0,a6,a7]=L;(have Qf:L.length=7:=by rw[<-hL];rfl);(have Y0:L.map eI=[eI a1,eI a2,eI a3,eI a4,eI 0,eI a6,eI a7]:=by rw[<-hL];rfl);(obtain⟨R,hR⟩:∃R,R=if L.all (λn=>decide (n=0)) then(0:Int) else 300:=⟨_,rfl⟩);rw[<-hR];refine bY.bK (α:={i:Nat // i<=7/\(L.take i).all (λn=>decide (n=0))=true}) mixed [0,1,2,4,26,27,28,29,33] (λi=>[(28,.p (eI i.1))]) (λi=>7-i.1) ⟨0,by omega,rfl⟩ ?_ ?_
 · exact aG trivial
 rintro⟨i,hi,hq⟩;have hi:i<=7:=hi;have hq:(L.take i).all (λn=>decide (n=0))=true:=hq
 cases hx:L[i]? with
 |none=>
  have dD:L.length<=i:=bw.1 hx;(have bV:¬((i:Int)<((7:Nat):Int)):=by omega);rw[bN dD] at hq;refine bM (kN bV) (λhc=>?_)
  all_goals(refine aP.of ?_;rw[hR,hq];rfl)
 |some x=>
  have aC:i<L.length:=(aq.1 hx).1;have ay:((i:Int)<((7:Nat):Int)):=by omega
  have Uq:([eI a1,eI a2,eI a3,eI a4,eI 0,eI a6,eI a7]:List PV)[0+(i:Int).toNat]? =some (eI x):=by
   rw[<-Y0,List.getElem?_map,Nat.zero_add,Int.toNat_natCast,hx];rfl
  refine gG (kY ay) (kX Uq) (λhc=>ae (λhc=>?_) λhc=>?_)
  all_goals first
  |(have hf:decide (x=0)=false:=decide_eq_false (by assumption)
    refine aP.of ?_
    rw[hR,iU hx hf];rfl)
  |(have hf:decide (x=0)=true:=decide_eq_true (by omega)
    refine⟨⟨i+1,by omega,cE hx hq hf⟩,by show 7-(i+1)<7-i;omega,?_⟩
    exact aG trivial)
  |trace_state
end Go.Proofs.YtmaiccmhkmndcaaGreatDoor
