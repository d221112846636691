/- A part of the proof: contracts of the functions that the statement reaches. -/
import Derived.Test.YtmaiccmhkmndcaaGreatDoorChpAW
import Derived.Test.YtmaiccmhkmndcaaGreatDoorChpAA
set_option linter.unusedSimpArgs false
set_option linter.unusedVariables false
set_option linter.unnecessarySimpa false
set_option maxRecDepth 100000
set_option maxHeartbeats 40000000
open And renaming intro->ae
open Go.Proofs.Tryz renaming prog->af
open List renaming mem_of_getElem?->aO,getElem?_eq_some_iff->aq,length_map->ak
namespace Go.Proofs.YtmaiccmhkmndcaaGreatDoor
open Go Go.Sg
namespace Ju
abbrev QB(r:Rg)(d:bA.Dc)(a k:Int):List PV:=[Of.eL r.ap,rP.eL r.dp,ng.eL r.it,bx.eL r.bg,BJ r.vs,bA.eL r.dc,od.eL r.av,eI d.no,eI d.tm,eI d.kind,eI d.val,eI d.oc,eI d.Rk,bA.dm d.par,bA.dm d.rev,bA.dm d.need,bA.u8 (d.tx 0),bA.u8 (d.tx 1),bA.u8 (d.tx 2),bA.u8 (d.tx 3),bA.u8 (d.tx 4),bA.u8 (d.tx 5),bA.u8 (d.tx 6),bA.u8 (d.tx 7),bA.u8 (d.tx 8),bA.u8 (d.tx 9),bA.u8 (d.tx 10),bA.u8 (d.tx 11),bA.u8 (d.tx 12),bA.u8 (d.tx 13),bA.u8 (d.tx 14),bA.u8 (d.tx 15),bA.u8 (d.tx 16),bA.u8 (d.tx 17),bA.u8 (d.tx 18),bA.u8 (d.tx 19),bA.u8 (d.tx 20),bA.u8 (d.tx 21),bA.u8 (d.tx 22),bA.u8 (d.tx 23),bA.u8 (d.tx 24),bA.u8 (d.tx 25),bA.u8 (d.tx 26),bA.u8 (d.tx 27),bA.u8 (d.tx 28),bA.u8 (d.tx 29),bA.u8 (d.tx 30),bA.u8 (d.tx 31),eI a,eI k]
def NO(r:Rg)(d:bA.Dc)(a k:Int):PV:= .agg (QB r d a k)
theorem iD:aa af 32 [eI 0] (.bR []):=by
 refine aa.e Tryz.func32 6 [] [0,3] ?_;exact cb trivial
theorem tW(f:FuncId)(cs:List PV)(q:bA.Dc->Bool)(l:List (bA.Dc))(h:∀w∈l,aa af f (bA.eA w::cs) (.bool (q w)))(hf:enters af f=true)(hl:l.length<1000000):
 aa af 87 [bA.eL l,.fn (.func f) [] cs] (eI (zN q l)):=by
 refine aa.e Tryz.func87 19 [.tmp 4] [0,1,4,5,7,8,9,16] ?_;refine cb ?_;refine bY.bK (α:={i:Nat // i<=l.length/\ ∀j w,j<i->l[j]? =some w->q w=false}) mixed [0,1,4,5,7,8,9,16] (λi=>[(8,.p (eI i.1))]) (λi=>l.length-i.1) ⟨0,by omega,by intro j w h;omega⟩ ?_ ?_
 · exact aG trivial
 rintro⟨i,hi,hq⟩;have hi:i<=l.length:=hi;have hq:∀j w,j<i->l[j]? =some w->q w=false:=hq
 repeat' (first|exact fg|(refine stx ?_;first|exact bW _|refine aE ?_)|(refine kq ?_;first|refine dF (h x (aO hx)) hf rfl ?_)|((fail_if_success refine ft ?_);(conv=>whnf)<;>(first|exact fh|refine str ?_|refine Br.dec (λhc=>?_) λhc=>?_|refine Br.mk (λhc=>?_) λhc=>?_|exact PV.ao|refine PV.ai ?_ ?_|refine ae ?_ ?_|refine aD λx hx=>?_|refine aE ?_|refine bX (λhn=>?_) ?_|refine dF (h x (aO hx)) hf rfl ?_|exact fv|refine bS λaZ=>?_|refine al ?_ ?_|refine fu ?_|fail)))<;>(try exact fi)
 · have hx:l[i]? =some x:=hx
   rw[gF hx hc hq];exact aP.refl _
 · have hx:l[i]? =some x:=hx
   have:=(aq.1 hx).1;refine⟨⟨i+1,by omega,nU hq hx hc⟩,by show l.length-(i+1)<l.length-i;omega,?_⟩;exact aG trivial
 · have hc:¬(i:Int)<((l.map bA.eA).length:Int):=hc
   rw[ak] at hc;rw[j9 (q:=q) (l:=l) λj w hj hw=>hq j w (by omega) hw];exact aP.refl _
theorem H4(d:bA.Dc)(n:Int):aa af 88 [bA.eA d,.ro [eI n]] (.bool (decide (d.no=n))):=by
 refine aa.e Tryz.func88 8 [.tmp 3] [0,1,2,3] ?_;exact cb trivial
theorem Ki(r:Rg)(i:Nat)(d:bA.Dc)(hd:r.dc[i]? =some d)(hf:∀j w,j<i->r.dc[j]? =some w->decide (w.no=d.no)=false)(hl:r.dc.length<1000000)(a k:Int)(ha:0<=a/\a<1099511627776)(hk:0<=k/\k<1099511627776):aa af 35 [Rr r,eI d.no,eI a,eI k] (NO r d a k):=by
 have q:=tW 88 [.ro [eI d.no]] (λw=>decide (w.no=d.no)) r.dc (λw _=>H4 w d.no) (by kernel_rfl) hl;rw[gF hd (decide_eq_true rfl) hf] at q;(have h1:¬(i:Int)<0:=by omega);refine aa.e Tryz.func35 38 [.cell 8 88] [0,1,2,3,4,5,8,9,27] ?_;refine oa (kF 1 [(5,false)]) q (kN h1) (kX hd) (λhc hc hc hc hc hc hc hc hc=>?_)
 all_goals(have yR:=(aq.1 hd).1;rw[ak];omega)
theorem KI(f:FuncId)(cs:List PV)(q:Vr->Bool)(l:List (Vr))(h:∀w∈l,aa af f (lv w::cs) (.bool (q w)))(hf:enters af f=true)(hl:l.length<1000000):
 aa af 154 [BJ l,.fn (.func f) [] cs] (eI (zN q l)):=by
 refine aa.e Tryz.func154 19 [.tmp 4] [0,1,4,5,7,8,9,16] ?_;refine cb ?_;refine bY.bK (α:={i:Nat // i<=l.length/\ ∀j w,j<i->l[j]? =some w->q w=false}) mixed [0,1,4,5,7,8,9,16] (λi=>[(8,.p (eI i.1))]) (λi=>l.length-i.1) ⟨0,by omega,by intro j w h;omega⟩ ?_ ?_
 · exact aG trivial
 rintro⟨i,hi,hq⟩;have hi:i<=l.length:=hi;have hq:∀j w,j<i->l[j]? =some w->q w=false:=hq
 repeat' (first|exact fg|(refine stx ?_;first|exact bW _|refine aE ?_)|(refine kq ?_;first|refine dF (h x (aO hx)) hf rfl ?_)|((fail_if_success refine ft ?_);(conv=>whnf)<;>(first|exact fh|refine str ?_|refine Br.dec (λhc=>?_) λhc=>?_|refine Br.mk (λhc=>?_) λhc=>?_|exact PV.ao|refine PV.ai ?_ ?_|refine ae ?_ ?_|refine aD λx hx=>?_|refine aE ?_|refine bX (λhn=>?_) ?_|refine dF (h x (aO hx)) hf rfl ?_|exact fv|refine bS λaZ=>?_|refine al ?_ ?_|refine fu ?_|fail)))<;>(try exact fi)
 · have hx:l[i]? =some x:=hx
   rw[gF hx hc hq];exact aP.refl _
 · have hx:l[i]? =some x:=hx
   have:=(aq.1 hx).1;refine⟨⟨i+1,by omega,nU hq hx hc⟩,by show l.length-(i+1)<l.length-i;omega,?_⟩;exact aG trivial
 · have hc:¬(i:Int)<((l.map lv).length:Int):=hc
   rw[ak] at hc;rw[j9 (q:=q) (l:=l) λj w hj hw=>hq j w (by omega) hw];exact aP.refl _
theorem Cb(v:Vr)(n:Int):aa af 155 [lv v,.ro [eI n]] (.bool (decide (v.no=n))):=by
 refine aa.e Tryz.func155 8 [.tmp 3] [0,1,2,3] ?_;exact cb trivial
theorem Fa(r:Rg)(d:bA.Dc)(a k:Int)(i:Nat)(v:Vr)(hv:r.vs[i]? =some v)(hf:∀j w,j<i->r.vs[j]? =some w->decide (w.no=v.no)=false)(hl:r.vs.length<1000000):aa af 95 [NO r d a k,eI v.no] (tM v.lU):=by
 have q:=KI 155 [.ro [eI v.no]] (λw=>decide (w.no=v.no)) r.vs (λw _=>Cb w v.no) (by kernel_rfl) hl;rw[gF hv (decide_eq_true rfl) hf] at q;(have h1:¬(i:Int)<0:=by omega);refine aa.e Tryz.func95 21 [.cell 4 133] [0,1,2,3,4,5,12] ?_;refine oa (kF 1 [(3,false)]) q (kN h1) (kX hv) (λhc=>?_)
 all_goals(have yR:=(aq.1 hv).1;rw[ak];omega)
end Ju
end Go.Proofs.YtmaiccmhkmndcaaGreatDoor
