/- A part of the proof: contracts of the functions that the statement reaches. -/
import Derived.Test.YtmaiccmhkmndcaaGreatDoorChpBC
import Derived.Test.YtmaiccmhkmndcaaGreatDoorChpAD
import Derived.Test.YtmaiccmhkmndcaaGreatDoorChpAH
import Derived.Test.YtmaiccmhkmndcaaGreatDoorChpAA
set_option linter.unusedSimpArgs false
set_option linter.unusedVariables false
set_option linter.unnecessarySimpa false
set_option maxRecDepth 100000
set_option maxHeartbeats 40000000
open And renaming intro->ae
open Go.Proofs.Tryz renaming prog->af
open List renaming mem_of_getElem?->aO,getElem?_eq_some_iff->aq,length_map->ak
namespace Go.Proofs.YtmaiccmhkmndcaaGreatDoor
open Go Go.Sg
namespace Ju
theorem Kj(f:FuncId)(cs:List PV)(q:Int->Bool)(l:List (Int))(h:∀w∈l,aa af f (eI w::cs) (.bool (q w)))(hf:enters af f=true)(hl:l.length<1000000):
 aa af 149 [dm l,.fn (.func f) [] cs] (eI (zN q l)):=by
 refine aa.e Tryz.func149 19 [.tmp 4] nO ?_;refine cb ?_;refine bY.bK (α:={i:Nat // i<=l.length/\ ∀j w,j<i->l[j]? =some w->q w=false}) mixed nO (λi=>[(8,.p (eI i.1))]) (λi=>l.length-i.1) ⟨0,by omega,by intro j w h;omega⟩ ?_ ?_
 · exact aG trivial
 rintro⟨i,hi,hq⟩;have hi:i<=l.length:=hi;have hq:∀j w,j<i->l[j]? =some w->q w=false:=hq
 repeat' (first|exact fg|(refine stx ?_;first|exact bW _|refine aE ?_)|(refine kq ?_;first|refine dF (h x (aO hx)) hf rfl ?_)|((fail_if_success refine ft ?_);(conv=>whnf)<;>(first|exact fh|refine str ?_|refine Br.dec (λhc=>?_) λhc=>?_|refine Br.mk (λhc=>?_) λhc=>?_|exact PV.ao|refine PV.ai ?_ ?_|refine ae ?_ ?_|refine aD λx hx=>?_|refine aE ?_|refine bX (λhn=>?_) ?_|refine dF (h x (aO hx)) hf rfl ?_|exact fv|refine bS λaZ=>?_|refine al ?_ ?_|refine fu ?_|fail)))<;>(try exact fi)
 · have hx:l[i]? =some x:=hx
   rw[gF hx hc hq];exact aP.refl _
 · have hx:l[i]? =some x:=hx
   have:=(aq.1 hx).1;refine⟨⟨i+1,by omega,nU hq hx hc⟩,by show l.length-(i+1)<l.length-i;omega,?_⟩;exact aG trivial
 · have hc:¬(i:Int)<((l.map eI).length:Int):=hc
   rw[ak] at hc;rw[j9 (q:=q) (l:=l) λj w hj hw=>hq j w (by omega) hw];exact aP.refl _
theorem Kk(l:List Int)(f:FuncId)(cs:List PV)(q:Int->Bool)(h:∀w∈l,aa af f (eI w::cs) (.bool (q w)))(hf:enters af f=true)(hl:l.length<1000000):
 aa af 91 [dm l,.fn (.func f) [] cs] (.bool (l.any q)):=by
 rw[<-uM];refine aa.e Tryz.func91 9 [.tmp 4] [0,1,4] ?_;exact bM (Kj f cs q l h hf hl) trivial
theorem Kl(l:List bA.Dc)(f:FuncId)(cs:List PV)(q:bA.Dc->Bool)(h:∀w∈l,aa af f (bA.eA w::cs) (.bool (q w)))(hf:enters af f=true)(hl:l.length<1000000):
 aa af 146 [bA.eL l,.fn (.func f) [] cs] (.bool (l.any q)):=by
 rw[<-uM];refine aa.e Tryz.func146 9 [.tmp 4] [0,1,4] ?_;exact bM (tW f cs q l h hf hl) trivial
theorem B0(r:Rg)(d:bA.Dc)(a k:Int)(e:bA.Dc):aa af 89 [bA.eA e,.ro (QB r d a k)] (.bool (decide (e.no=d.no))):=by
 refine aa.e Tryz.func89 10 [.tmp 3] [0,1,2,3] ?_;exact cb trivial
structure To(r:Rg)(sg:List Int)(a:Int):Prop where
 z:bA.aJ r.dc=0
 l:r.dc.length<=20
 d:∀x∈r.dc,bA.okF x
 s:bA.JF r.dc sg=true
 a:bA.fS bA.TM a=true
theorem To.sl{r:Rg}{sg:List Int}{a:Int}(h:To r sg a):sg.length<1000000:=by
 have:=bA.uS h.s;have:=h.l;omega
theorem To.why{r:Rg}{sg:List Int}{a:Int}(h:To r sg a){e:bA.Dc}(he:e∈r.dc):(bA.JG r.dc sg e.no a).2.2=0:=by
 obtain⟨d,h1,_⟩:=bA.P5 (l:=r.dc) (no:=e.no) (List.any_eq_true.2 ⟨e,he,decide_eq_true rfl⟩);unfold bA.JG;rw[if_pos h.z,h.s,h.a,h1];rfl
def Wb(r:Rg)(d:bA.Dc)(a:Int)(sg:List Int)(e:bA.Dc):Bool:=ng.hasB e.rev d.no&&(!decide ((bA.JG r.dc sg e.no a).1=1)&& !decide ((bA.JG r.dc sg e.no a).1=4))
theorem AK(r:Rg)(d:bA.Dc)(a k:Int)(sg:List Int)(h:To r sg a)(e:bA.Dc)(he:e∈r.dc):aa af 147 [bA.eA e,.ro (QB r d a k),.ro [bA.dm sg]] (.bool (Wb r d a sg e)):=by
 have q1:=ng.kc e.rev d.no (by have:=(h.d e he).2.1;omega);have q2:=bA.Nq r.dc sg e.no a h.l h.d h.sl;have q3:=h.why he;have q4:=iD;unfold Wb;generalize ng.hasB e.rev d.no=b at *;generalize bA.JG r.dc sg e.no a=W at *;obtain⟨s,n,z⟩:=W;subst q3;refine aa.e Tryz.func147 36 [.tmp 4] [0,1,2,3,4,5,7,14] ?_;refine gg q1 q2 q4 (ae (λhc=>ae (λhc=>?_) λhc=>?_) λhc=>?_)
 all_goals(refine aP.bool ?_;simp_all)
theorem B1(r:Rg)(d:bA.Dc)(a k:Int)(sg:List Int)(h:To r sg a):aa af 90 [NO r d a k,bA.dm sg] (.bool (r.dc.any (Wb r d a sg))):=by
 have q:=Kl r.dc 147 [.ro (QB r d a k),.ro [bA.dm sg]] (Wb r d a sg) (λe he=>AK r d a k sg h e he) (by kernel_rfl) (by have:=h.l;omega);generalize r.dc.any (Wb r d a sg)=b at *;refine aa.e Tryz.func90 10 [.tmp 4] [0,1,2,3,4] ?_;exact gG (kF 1 [(2,false),(3,false)]) q trivial
theorem EX(r:Rg)(d:bA.Dc)(a k:Int)(sg:List Int)(h:To r sg a)(i:Nat)(hd:r.dc[i]? =some d)(hf:∀j w,j<i->r.dc[j]? =some w->decide (w.no=d.no)=false):∃b,(b=false->d.tm<=a)/\aa af 37 [NO r d a k,bA.dm sg] (.bool b):=by
 have q:=tW 89 [.ro (QB r d a k)] (λw=>decide (w.no=d.no)) r.dc (λw _=>B0 r d a k w) (by kernel_rfl) (by have:=h.l;omega);rw[gF hd (decide_eq_true rfl) hf] at q;have q2:=B1 r d a k sg h;have te:=bA.uS h.s;(have yR:i<sg.length:=by have:=(aq.1 hd).1;omega);obtain⟨s,hs⟩:∃s,sg[i]? =some s:=⟨_,List.getElem?_eq_getElem yR⟩;refine⟨decide (a<d.tm)||decide (d.Rk<=a)||(decide (0<=s)&&decide (s<=a))||r.dc.any (Wb r d a sg),λh=>?_,?_⟩
 · simp only[Bool.or_eq_false_iff,decide_eq_false_iff_not] at h;omega
 generalize r.dc.any (Wb r d a sg)=b at *;refine aa.e Tryz.func37 46 [.tmp 4] [0,1,2,4,5] ?_;refine oa (kF 1 [(2,false)]) q q2 (kX hs) (ae (λhc=>?_) λhc=>ae (λhc=>?_) λhc=>ae (λhc=>ae (λhc=>?_) λhc=>?_) λhc=>?_)
 all_goals first|((with_reducible show(_:Int)<_);rw[ak];omega)|(refine aP.bool ?_;simp_all<;>omega)
theorem EY(l:List Int)(n:Int)(hl:l.length<1000000):aa af 92 [eI n,.ro [dm l]] (.bool (!ng.hasB l n)):=by
 have q:=ng.kc l n hl;generalize ng.hasB l n=b at *;refine aa.e Tryz.func92 8 [.tmp 3] [0,1,3] ?_;exact bM q trivial
theorem H6(r:Rg)(d:bA.Dc)(a k:Int)(sg:List Int)(h:To r sg a)(hd:d∈r.dc):∃b,aa af 39 [NO r d a k,bA.dm sg] (.bool b):=by
 have q:=bA.lx r.dc sg a h.l h.d h.sl
 have e:bA.WU r.dc sg a=(bA.lG r.dc (bA.Hn r.dc sg a) a r.dc.length,0):=by
  unfold bA.WU;rw[if_pos h.z,h.s,h.a];rfl
 rw[e] at q;have N8:=bA.H5 r.dc (bA.Hn r.dc sg a) a r.dc.length;generalize bA.lG r.dc (bA.Hn r.dc sg a) a r.dc.length=L at *;have q2:=Kk d.need 92 [.ro [dm L]] (λn=> !ng.hasB L n) (λn _=>EY L n (by have:=h.l;omega)) (by kernel_rfl) (by have:=(h.d d hd).2.2;omega);have q4:=iD;refine⟨d.need.any λn=> !ng.hasB L n,?_⟩;generalize (d.need.any λn=> !ng.hasB L n)=b at *;refine aa.e Tryz.func39 24 [.tmp 4] [0,1,2,4,5,6] ?_;exact oa q q4 (kF 3 [(5,false)]) q2 trivial
end Ju
end Go.Proofs.YtmaiccmhkmndcaaGreatDoor
