/- A part of the proof: contracts of the functions that the statement reaches. -/
import Derived.Test.YtmaiccmhkmndcaaGreatDoorChpAL
import Derived.Test.YtmaiccmhkmndcaaGreatDoorChpAA
set_option linter.unusedSimpArgs false
set_option linter.unusedVariables false
set_option linter.unnecessarySimpa false
set_option maxRecDepth 100000
set_option maxHeartbeats 40000000
open And renaming intro->ae
open Go.Proofs.Tryz renaming prog->af
open List renaming length_map->ak,getElem?_eq_some_iff->aq
namespace Go.Proofs.YtmaiccmhkmndcaaGreatDoor
open Go Go.Sg
namespace Of
abbrev TM:Int:=1099511627775
structure Ap where
 no:Int
 tm:Int
 known:Int
 off:Int
 ia:Int
 wt:Int
 gone:Bool
 deriving DecidableEq
def eA(x:Ap):PV:= .agg [eI x.no,eI x.tm,eI x.known,eI x.off,eI x.ia,eI x.wt,.bool x.gone]
def eL(l:List Ap):PV:= .sl 7 false (l.map eA)
theorem aB(n lo hi:Int):aa af 105 [eI n,eI lo,eI hi] (.bool (bh lo hi n)):=by
 refine aa.e Tryz.func105 15 [.tmp 6] [0,1,2,6] ?_;refine cb (ae (λhc=>?_) λhc=>?_)
 all_goals((try simp only[bh, *]);exact fin)
theorem dU(n:Int):aa af 106 [eI n] (.bool (bh 0 TM n)):=by
 refine aa.e Tryz.func106 5 [.tmp 2] [0,2] ?_;exact bM aB trivial
theorem pG(n:Int):aa af 107 [eI n] (.bool (bh 0 31 n)):=by
 refine aa.e Tryz.func107 5 [.tmp 2] [0,2] ?_;exact bM aB trivial
theorem ke(n:Int):aa af 108 [eI n] (.bool (bh 0 63 n)):=by
 refine aa.e Tryz.func108 5 [.tmp 2] [0,2] ?_;exact bM aB trivial
theorem eb(n:Int):aa af 118 [eI n] (.bool (bh 0 TM n)):=by
 refine aa.e Tryz.func118 9 [.tmp 2] [0,2] ?_;refine cb (ae (λhc=>?_) λhc=>?_)
 all_goals(refine aP.bool ?_;simp_all [bh,TM]<;>omega)
theorem BP(n:Int):aa af 119 [eI n] (.bool (bh 0 31 n)):=by
 refine aa.e Tryz.func119 9 [.tmp 2] [0,2] ?_;refine cb (ae (λhc=>?_) λhc=>?_)
 all_goals(refine aP.bool ?_;simp_all [bh,TM]<;>omega)
theorem jk(n:Int):aa af 120 [eI n] (.bool (bh 0 63 n)):=by
 refine aa.e Tryz.func120 9 [.tmp 2] [0,2] ?_;refine cb (ae (λhc=>?_) λhc=>?_)
 all_goals(refine aP.bool ?_;simp_all [bh,TM]<;>omega)
def ag(x:Ap):Bool:=bh 0 1048576 x.no&&bh 0 TM x.tm&&bh 0 TM x.known&&bh 0 31 x.off&&bh 0 63 x.ia&&(if x.gone then bh 0 0 x.wt else bh 1 64 x.wt)
theorem cV(x:Ap):aa af 53 [eA x] (.bool (ag x)):=by
 refine aa.e Tryz.func53 37 [.tmp 2] [0,1,2,3,4,6] ?_;refine oa aB dU pG ke (ae (λhc=>ae (λhc=>ae (λhc=>ae (λhc=>ae (λhc=>ae (λhc=>?_) λhc=>?_) λhc=>?_) λhc=>?_) λhc=>?_) λhc=>?_) λhc=>ae (λhc=>ae (λhc=>ae (λhc=>ae (λhc=>ae (λhc=>?_) λhc=>?_) λhc=>?_) λhc=>?_) λhc=>?_) λhc=>?_)
 all_goals(refine aP.bool ?_;simp_all [ag])
theorem dG(x:Ap):aa af 64 [eA x] (.bool (ag x)):=by
 refine aa.e Tryz.func64 48 [.tmp 2] [0,1,2,34,36] ?_;refine gg eb BP jk (ae (λhc=>?_) λhc=>ae (λhc=>?_) λhc=>ae (λhc=>ae (λhc=>ae (λhc=>ae (λhc=>ae (λhc=>?_) λhc=>ae (λhc=>?_) λhc=>?_) λhc=>?_) λhc=>?_) λhc=>?_) λhc=>?_)
 all_goals(refine aP.bool ?_;rcases MW:x.gone<;>simp_all [ag,bh,TM]<;>first|(intros;omega)|(rw[Bool.eq_iff_iff];simp;omega))
def aJ(l:List Ap):Int:=tJ ag Ap.no 4096 150 l
theorem eJ{x:Ap}(h:ag x=true):0<=x.no:=by
 simp[ag,bh] at h;omega
theorem bm(l:List Ap)(hl:l.length<1000000):aa af 13 [eL l] (eI (aJ l)):=by
 refine aa.e Tryz.func13 27 [.tmp 2] [0,2,3,5,8,9,10,11,12,23] ?_;refine cb (ae (λhc=>?_) λhc=>?_)
 · rw[show aJ l=2 from iw ag Ap.no (by simpa using hc)];exact aP.refl _
 have iP:¬(4096:Int)<(l.length:Int):=by
  have h:¬(4096:Int)<((l.map eA).length:Int):=by assumption
  rwa[ak] at h
 refine bY.bK (α:={i:Nat // i<=l.length/\aA ag Ap.no (ax Ap.no l i) (l.drop i)=aA ag Ap.no (-1) l}) mixed [0,2,3,5,8,9,10,11,12,23] (λi=>[(3,.p (eI (ax Ap.no l i.1))),(11,.p (eI i.1))]) (λi=>l.length-i.1) ⟨0,by omega,rfl⟩ ?_ ?_
 · exact aG trivial
 rintro⟨i,hi,hq⟩;have hi:i<=l.length:=hi;have hq:aA ag Ap.no (ax Ap.no l i) (l.drop i)=aA ag Ap.no (-1) l:=hq;refine bM cV (ae (λhc x hx=>ae (λhc=>ae (λhc=>?_) λhc=>?_) λhc=>?_) λhc=>?_)
 · rename_i h1
   have hx:l[i]? =some x:=hx;have hc:Ap.no x<=ax Ap.no l i:=hc;rw[show aJ l=150 from cT ag Ap.no iP (bC ag Ap.no hx hq (by rw[h1,decide_eq_false (by omega)];rfl))];exact aP.refl _
 · rename_i h1
   have hx:l[i]? =some x:=hx;have hc:¬ Ap.no x<=ax Ap.no l i:=hc;have aC:=(aq.1 hx).1;refine⟨⟨i+1,aC,bU ag Ap.no hx hq (by rw[h1,decide_eq_true (by omega)];rfl)⟩,by show l.length-(i+1)<l.length-i;omega,?_⟩;refine aG ?_
   all_goals(rw[bk Ap.no hx])
 · have hx:l[i]? =some x:=hx
   rw[show aJ l=150 from cT ag Ap.no iP (bC ag Ap.no hx hq (by rw[hc];rfl))];exact aP.refl _
 · have hc:¬(i:Int)<((l.map eA).length:Int):=hc
   rw[ak] at hc;rw[show aJ l=0 from iK ag Ap.no iP (cR ag Ap.no hq (by omega))];exact aP.refl _
theorem dH(l:List Ap)(hl:l.length<1000000):aa af 21 [eL l] (eI (aJ l)):=by
 refine aa.e Tryz.func21 37 [.tmp 2] [0,2,3,6,10,36] ?_;refine cb (ae (λhc=>?_) λhc=>?_)
 · rw[show aJ l=2 from iw ag Ap.no (by simpa using hc)];exact aP.refl _
 have iP:¬(4096:Int)<(l.length:Int):=by
  have h:¬(4096:Int)<((l.map eA).length:Int):=by assumption
  rwa[ak] at h
 refine bY.bK (α:={i:Nat // i<=l.length/\aA ag Ap.no (ax Ap.no l i) (l.drop i)=aA ag Ap.no (-1) l}) mixed [0,2,3,6,10,36] (λi=>[(3,.p (eI i.1))]) (λi=>l.length-i.1) ⟨0,by omega,rfl⟩ ?_ ?_
 · exact aG trivial
 rintro⟨i,hi,hq⟩;have hi:i<=l.length:=hi;have hq:aA ag Ap.no (ax Ap.no l i) (l.drop i)=aA ag Ap.no (-1) l:=hq;refine bM dG (ae (λhc x hx=>ae (λhc=>ae (λhc x hx x hx=>ae (λhc=>?_) λhc=>?_) λhc=>?_) λhc=>?_) λhc=>?_)
 · rename_i y h1 h2 z hz
   have h2:(0:Int)<(i:Int):=h2;have hx:l[i]? =some x:=hx;have hz:l[((i:Int)-1).toNat]? =some z:=hz;rw[show((i:Int)-1).toNat=i-1 by omega] at hz;(have gy:ax Ap.no l i=Ap.no z:=by obtain⟨j,rfl⟩:∃j,i=j+1:=⟨i-1,by omega⟩;exact bk Ap.no hz);rw[show aJ l=150 from cT ag Ap.no iP (bC ag Ap.no hx hq (by rw[gy,decide_eq_false (by omega)];simp))];exact aP.refl _
 · rename_i y hy h1 h2 z hz
   have h2:(0:Int)<(i:Int):=h2;have hx:l[i]? =some x:=hx;have hy:l[i]? =some y:=hy
   rw[hx] at hy;injection hy with hy;subst hy
   have hz:l[((i:Int)-1).toNat]? =some z:=hz;rw[show((i:Int)-1).toNat=i-1 by omega] at hz;(have gy:ax Ap.no l i=Ap.no z:=by obtain⟨j,rfl⟩:∃j,i=j+1:=⟨i-1,by omega⟩;exact bk Ap.no hz);have aC:=(aq.1 hx).1;refine⟨⟨i+1,aC,bU ag Ap.no hx hq (by rw[gy,h1,decide_eq_true (by omega)];rfl)⟩,by show l.length-(i+1)<l.length-i;omega,?_⟩;exact aG trivial
 · rename_i h1
   have hx:l[i]? =some x:=hx;have hc:¬(0:Int)<(i:Int):=hc;have aC:=(aq.1 hx).1;(have h0:i=0:=by omega);subst h0;have hn:=eJ h1;refine⟨⟨0+1,aC,bU ag Ap.no hx hq (by rw[h1];show(true&&decide ((-1:Int)<Ap.no x))=true;rw[decide_eq_true (by omega)];rfl)⟩,by show l.length-(0+1)<l.length-0;omega,?_⟩;exact aG trivial
 · have hx:l[i]? =some x:=hx
   rw[show aJ l=150 from cT ag Ap.no iP (bC ag Ap.no hx hq (by rw[hc];rfl))];exact aP.refl _
 · have hc:¬(i:Int)<((l.map eA).length:Int):=hc
   rw[ak] at hc;rw[show aJ l=0 from iK ag Ap.no iP (cR ag Ap.no hq (by omega))];exact aP.refl _
end Of
end Go.Proofs.YtmaiccmhkmndcaaGreatDoor
