/- A part of the proof: contracts of the functions that the statement reaches. -/
import Derived.Test.YtmaiccmhkmndcaaGreatDoorEngC
import Derived.Test.YtmaiccmhkmndcaaGreatDoorChpAA
import Derived.Test.YtmaiccmhkmndcaaGreatDoorProg
set_option linter.unusedSimpArgs false
set_option linter.unusedVariables false
set_option linter.unnecessarySimpa false
set_option maxRecDepth 100000
set_option maxHeartbeats 40000000
open And renaming intro->ae
open Bool renaming false_and->ji,and_false->jE
open Go.Proofs.Tryz renaming prog->af
open Int renaming toNat_natCast->dv
open List renaming length_map->ak,getElem?_eq_some_iff->aq,take_add_one->bz,foldl_append->fG,take_of_length_le->bN,getD->cF,length_filter_le->iB,getElem?_eq_getElem->aV,length_take->dy,drop_zero->da,length_append->fk,length_cons->ea,length_nil->nV,length_replicate->xw,length_drop->nz,length_set->nX,append_assoc->ky
open Option renaming getD_some->js
open Option.some renaming inj->gH
namespace Go.Proofs.YtmaiccmhkmndcaaGreatDoor
open Go Go.Sg
namespace rP
structure Dp where
 no:Int
 tm:Int
 known:Int
 J3:Int
 oc:Int
 to:Int
 off:Int
 kind:Int
 ND:Int
 gone:Bool
 deriving DecidableEq
def eI(i:Int):PV:= .int .i64 i
def dm(l:List Int):PV:= .sl 1 false (l.map eI)
def eA(x:Dp):PV:= .agg [eI x.no,eI x.tm,eI x.known,eI x.J3,eI x.oc,eI x.to,eI x.off,eI x.kind,eI x.ND,.bool x.gone]
def eL(l:List Dp):PV:= .sl 10 false (l.map eA)
theorem mixed:af.follows .mixedOrders=true:=by kernel_rfl
theorem iA(a:Int):aa af 179 [eI a] (.bool false):=by
 refine aa.e Tryz.func179 6 [.tmp 2] [0,2] ?_;refine cb ?_;exact aP.bool (by simp)
theorem v7(a b:Int):aa af 140 [eI a,eI b] (eI (qh a b)):=by
 refine aa.e Tryz.func140 20 [.tmp 4] Ue ?_;refine bM iA (ae (λhc=>?_) λhc=>ae (λhc=>?_) λhc=>?_)
 all_goals((try simp only[qh, *]);exact fin)
def bh(lo hi n:Int):Bool:=decide (lo<=n)&&decide (n<=hi)
abbrev TM:Int:=1099511627775
theorem aB(n lo hi:Int):aa af 109 [eI n,eI lo,eI hi] (.bool (bh lo hi n)):=by
 refine aa.e Tryz.func109 15 [.tmp 6] [0,1,2,6] ?_;refine cb (ae (λhc=>?_) λhc=>?_)
 all_goals((try simp only[bh, *]);exact fin)
theorem dU(n:Int):aa af 110 [eI n] (.bool (bh 0 TM n)):=by
 refine aa.e Tryz.func110 5 [.tmp 2] [0,2] ?_;exact bM aB trivial
theorem ke(n:Int):aa af 111 [eI n] (.bool (bh 0 63 n)):=by
 refine aa.e Tryz.func111 5 [.tmp 2] [0,2] ?_;exact bM aB trivial
theorem dY(n lo hi:Int):aa af 121 [eI n,eI lo,eI hi] (.bool (bh lo hi n)):=by
 refine aa.e Tryz.func121 15 [.tmp 6] [0,1,2,6] ?_;refine cb (ae (λhc=>?_) λhc=>?_)
 all_goals((try simp only[bh, *]);exact fin)
theorem eb(n:Int):aa af 122 [eI n] (.bool (bh 0 TM n)):=by
 refine aa.e Tryz.func122 5 [.tmp 2] [0,2] ?_;exact bM dY trivial
theorem jk(n:Int):aa af 123 [eI n] (.bool (bh 0 63 n)):=by
 refine aa.e Tryz.func123 5 [.tmp 2] [0,2] ?_;exact bM dY trivial
def ag(x:Dp):Bool:=bh 0 1048576 x.no&&bh 0 TM x.tm&&bh 0 TM x.known&&bh 0 63 x.oc&&bh 0 63 x.to&& !decide (x.oc=x.to)&&bh 0 31 x.off&&bh (-1) 15 x.kind&&(if x.gone then decide (x.J3=0)&&decide (x.ND=0) else decide (x.tm<x.J3)&&decide (x.J3<=1099511627776)&&bh 0 1099511627776 x.ND)
theorem cV(x:Dp):aa af 54 [eA x] (.bool (ag x)):=by
 refine aa.e Tryz.func54 75 [.tmp 2] [0,1,2,49,51] ?_;refine gg aB dU ke (ae (λhc=>ae (λhc=>ae (λhc=>ae (λhc=>ae (λhc=>ae (λhc=>?_) λhc=>ae (λhc=>ae (λhc=>ae (λhc=>ae (λhc=>?_) λhc=>?_) λhc=>ae (λhc=>ae (λhc=>?_) λhc=>?_) λhc=>?_) λhc=>?_) λhc=>?_) λhc=>?_) λhc=>?_) λhc=>?_) λhc=>?_) λhc=>?_)
 all_goals(refine aP.bool ?_;simp_all [ag]<;>(intros;omega))
theorem dG(x:Dp):aa af 65 [eA x] (.bool (ag x)):=by
 refine aa.e Tryz.func65 73 [.tmp 2] [0,1,2,37,47,49] ?_;refine gg dY eb jk (ae (λhc=>ae (λhc=>ae (λhc=>ae (λhc=>ae (λhc=>ae (λhc=>?_) λhc=>ae (λhc=>ae (λhc=>ae (λhc=>ae (λhc=>?_) λhc=>?_) λhc=>ae (λhc=>ae (λhc=>?_) λhc=>?_) λhc=>?_) λhc=>?_) λhc=>?_) λhc=>?_) λhc=>?_) λhc=>?_) λhc=>?_) λhc=>?_)
 all_goals(refine aP.bool ?_;simp_all [ag]<;>(intros;omega))
def aJ(l:List Dp):Int:=tJ ag Dp.no 4096 160 l
theorem eJ{x:Dp}(h:ag x=true):0<=x.no:=by
 simp[ag,bh] at h;omega
theorem bm(l:List Dp)(hl:l.length<1000000):aa af 14 [eL l] (eI (aJ l)):=by
 refine aa.e Tryz.func14 27 [.tmp 2] [0,2,3,5,8,9,10,11,12,23] ?_;refine cb (ae (λhc=>?_) λhc=>?_)
 · rw[show aJ l=2 from iw ag Dp.no (by simpa using hc)];exact aP.refl _
 have iP:¬(4096:Int)<(l.length:Int):=by
  have h:¬(4096:Int)<((l.map eA).length:Int):=by assumption
  rwa[ak] at h
 refine bY.bK (α:={i:Nat // i<=l.length/\aA ag Dp.no (ax Dp.no l i) (l.drop i)=aA ag Dp.no (-1) l}) mixed [0,2,3,5,8,9,10,11,12,23] (λi=>[(3,.p (eI (ax Dp.no l i.1))),(11,.p (eI i.1))]) (λi=>l.length-i.1) ⟨0,by omega,rfl⟩ ?_ ?_
 · exact aG trivial
 rintro⟨i,hi,hq⟩;have hi:i<=l.length:=hi;have hq:aA ag Dp.no (ax Dp.no l i) (l.drop i)=aA ag Dp.no (-1) l:=hq;refine bM cV (ae (λhc x hx=>ae (λhc=>ae (λhc=>?_) λhc=>?_) λhc=>?_) λhc=>?_)
 · rename_i h1
   have hx:l[i]? =some x:=hx;have hc:Dp.no x<=ax Dp.no l i:=hc;rw[show aJ l=160 from cT ag Dp.no iP (bC ag Dp.no hx hq (by rw[h1,decide_eq_false (by omega)];rfl))];exact aP.refl _
 · rename_i h1
   have hx:l[i]? =some x:=hx;have hc:¬ Dp.no x<=ax Dp.no l i:=hc;have aC:=(aq.1 hx).1;refine⟨⟨i+1,aC,bU ag Dp.no hx hq (by rw[h1,decide_eq_true (by omega)];rfl)⟩,by show l.length-(i+1)<l.length-i;omega,?_⟩;refine aG ?_
   all_goals(rw[bk Dp.no hx])
 · have hx:l[i]? =some x:=hx
   rw[show aJ l=160 from cT ag Dp.no iP (bC ag Dp.no hx hq (by rw[hc];rfl))];exact aP.refl _
 · have hc:¬(i:Int)<((l.map eA).length:Int):=hc
   rw[ak] at hc;rw[show aJ l=0 from iK ag Dp.no iP (cR ag Dp.no hq (by omega))];exact aP.refl _
theorem dH(l:List Dp)(hl:l.length<1000000):aa af 22 [eL l] (eI (aJ l)):=by
 refine aa.e Tryz.func22 37 [.tmp 2] [0,2,3,6,10,36] ?_;refine cb (ae (λhc=>?_) λhc=>?_)
 · rw[show aJ l=2 from iw ag Dp.no (by simpa using hc)];exact aP.refl _
 have iP:¬(4096:Int)<(l.length:Int):=by
  have h:¬(4096:Int)<((l.map eA).length:Int):=by assumption
  rwa[ak] at h
 refine bY.bK (α:={i:Nat // i<=l.length/\aA ag Dp.no (ax Dp.no l i) (l.drop i)=aA ag Dp.no (-1) l}) mixed [0,2,3,6,10,36] (λi=>[(3,.p (eI i.1))]) (λi=>l.length-i.1) ⟨0,by omega,rfl⟩ ?_ ?_
 · exact aG trivial
 rintro⟨i,hi,hq⟩;have hi:i<=l.length:=hi;have hq:aA ag Dp.no (ax Dp.no l i) (l.drop i)=aA ag Dp.no (-1) l:=hq;refine bM dG (ae (λhc x hx=>ae (λhc=>ae (λhc x hx x hx=>ae (λhc=>?_) λhc=>?_) λhc=>?_) λhc=>?_) λhc=>?_)
 · rename_i y h1 h2 z hz
   have h2:(0:Int)<(i:Int):=h2;have hx:l[i]? =some x:=hx;have hz:l[((i:Int)-1).toNat]? =some z:=hz;rw[show((i:Int)-1).toNat=i-1 by omega] at hz;(have gy:ax Dp.no l i=Dp.no z:=by obtain⟨j,rfl⟩:∃j,i=j+1:=⟨i-1,by omega⟩;exact bk Dp.no hz);rw[show aJ l=160 from cT ag Dp.no iP (bC ag Dp.no hx hq (by rw[gy,decide_eq_false (by omega)];simp))];exact aP.refl _
 · rename_i y hy h1 h2 z hz
   have h2:(0:Int)<(i:Int):=h2;have hx:l[i]? =some x:=hx;have hy:l[i]? =some y:=hy
   rw[hx] at hy;injection hy with hy;subst hy
   have hz:l[((i:Int)-1).toNat]? =some z:=hz;rw[show((i:Int)-1).toNat=i-1 by omega] at hz;(have gy:ax Dp.no l i=Dp.no z:=by obtain⟨j,rfl⟩:∃j,i=j+1:=⟨i-1,by omega⟩;exact bk Dp.no hz);have aC:=(aq.1 hx).1;refine⟨⟨i+1,aC,bU ag Dp.no hx hq (by rw[gy,h1,decide_eq_true (by omega)];rfl)⟩,by show l.length-(i+1)<l.length-i;omega,?_⟩;exact aG trivial
 · rename_i h1
   have hx:l[i]? =some x:=hx;have hc:¬(0:Int)<(i:Int):=hc;have aC:=(aq.1 hx).1;(have h0:i=0:=by omega);subst h0;have hn:=eJ h1;refine⟨⟨0+1,aC,bU ag Dp.no hx hq (by rw[h1];show(true&&decide ((-1:Int)<Dp.no x))=true;rw[decide_eq_true (by omega)];rfl)⟩,by show l.length-(0+1)<l.length-0;omega,?_⟩;exact aG trivial
 · have hx:l[i]? =some x:=hx
   rw[show aJ l=160 from cT ag Dp.no iP (bC ag Dp.no hx hq (by rw[hc];rfl))];exact aP.refl _
 · have hc:¬(i:Int)<((l.map eA).length:Int):=hc
   rw[ak] at hc;rw[show aJ l=0 from iK ag Dp.no iP (cR ag Dp.no hq (by omega))];exact aP.refl _
structure Qn where
 off:Int
 kind:Int
 val:Int
 tm:Int
 known:Int
def eQ(q:Qn):PV:= .agg [eI q.off,eI q.kind,eI q.val,eI q.tm,eI q.known]
def ee(q:Qn)(x:Dp):Bool:=decide (x.tm<=q.tm)&&decide (x.known<=q.known)
def QD(q:Qn)(x:Dp):Bool:= !x.gone&&decide (q.tm<x.J3)&&decide (x.off=q.off)&&(decide (x.kind= -1)||decide (x.kind=q.kind))&&decide (q.val<=x.ND)
theorem kg(q:Qn)(x:Dp):aa af 267 [eQ q,eA x] (.bool (ee q x)):=by
 refine aa.e Tryz.func267 17 [.tmp 4] [0,1,2,3,4] ?_;refine cb (ae (λhc=>?_) λhc=>?_)
 all_goals((try simp only[ee, *]);exact fin)
theorem EZ(q:Qn)(x:Dp):aa af 269 [eQ q,eA x] (.bool (QD q x)):=by
 refine aa.e Tryz.func269 41 [.tmp 4] [0,1,2,3,4] ?_;refine cb (ae (λhc=>?_) λhc=>ae (λhc=>ae (λhc=>ae (λhc=>?_) λhc=>ae (λhc=>?_) λhc=>?_) λhc=>?_) λhc=>?_)
 all_goals(refine aP.bool ?_;simp_all [QD]<;>(intros;omega))
def Ko(f t:Int)(q:Qn):Bool:=bh 0 63 f&&bh 0 63 t&&bh 0 31 q.off&&bh 0 15 q.kind&&bh 0 1099511627776 q.val&&bh 0 TM q.tm&&bh 0 TM q.known
def Kr(l:List Dp)(f t:Int)(q:Qn):Int:=if aJ l=0 then(if Ko f t q then 0 else 1) else aJ l
theorem wv(l:List Dp)(f t:Int)(q:Qn)(hl:l.length<1000000):aa af 234 [eL l,eI f,eI t,eQ q] (eI (Kr l f t q)):=by
 have q1:=bm l hl;unfold Kr;by_cases hz:aJ l=0
 · rw[hz] at q1
   rw[if_pos hz];refine aa.e Tryz.func234 53 [.tmp 8] [0,1,2,3,7,8,9,13,52] ?_;refine oa q1 aB dU ke (ae (λhc=>ae (λhc=>ae (λhc=>ae (λhc=>ae (λhc=>ae (λhc=>ae (λhc=>?_) λhc=>?_) λhc=>?_) λhc=>?_) λhc=>?_) λhc=>?_) λhc=>?_) λhc=>?_)
   all_goals first
   |(rw[if_pos (show Ko f t q=true by simp only[Ko, *,Bool.and_self])];exact aP.refl _)
   |(rw[if_neg (show ¬ Ko f t q=true by simp only[Ko, *,ji,jE,Bool.true_and];simp)];exact aP.refl _)
 · rw[if_neg hz]
   refine aa.e Tryz.func234 53 [.tmp 8] [0,1,2,3,7,8,9,13,52] ?_;exact bM q1 trivial
abbrev Ky:=Int×Int×Int×Int
def ba(x:Dp):Ky:=(x.oc,x.to,x.off,x.kind)
def eK(k:Ky):PV:= .agg [eI k.1,eI k.2.1,eI k.2.2.1,eI k.2.2.2]
theorem lV:nM eK where
 eq:=λa b=>by
  obtain⟨a1,a2,a3,a4⟩:=a;obtain⟨b1,b2,b3,b4⟩:=b;show(decide (a1=b1)&&(decide (a2=b2)&&(decide (a3=b3)&&(decide (a4=b4)&&true))))=_;simp[Bool.decide_and]
abbrev Mp:=List (Ky×Dp)
def iV(q:Qn)(m:Mp)(y:Dp):Mp:=if ee q y then(match bn (ba y) m with|none=>dQ (ba y) y m|some z=>if z.tm<=y.tm then dQ (ba y) y m else m) else m
def foldM(q:Qn)(l:List Dp):Mp:=l.foldl (iV q) []
theorem dV{q:Qn}{l:List Dp}{i:Nat}{x:Dp}(h:l[i]? =some x):foldM q (l.take (i+1))=iV q (foldM q (l.take i)) x:=by
 unfold foldM;rw[bz,h];simp[fG]
theorem Wc:ko af 331=some (([.int .i64,.int .i64,.int .i64,.int .i64],true),121):=by kernel_rfl
abbrev xP:KT:=([.int .i64,.int .i64,.int .i64,.int .i64],true)
abbrev B2(q:Qn)(l:List Dp)(M:Mp):List PV:=[.ro [eL l],.ro [.mp xP (eM eK eA M)],.ro [.fn (.func 267) [eQ q] []],.ro [eI q.off,eI q.kind,eI q.val,eI q.tm,eI q.known]]
theorem AL(q:Qn)(l:List Dp)(hl:l.length<1000000):aa af 236 [eQ q,eL l] (.fn (.func 268) [] (B2 q l (foldM q l))):=by
 refine aa.e Tryz.func236 55 [.tmp 4] Ui ?_;refine gG (kR Wc) kg ?_;refine bY.bq (α:={i:Nat // i<=l.length}) mixed Ui (λi=>[(17,.p (eI i.1))]) (λi=>[(448,.map xP (eM eK eA (foldM q (l.take i.1))))]) (λ_=>0) (λi=>l.length-i.1) ⟨0,by omega⟩ ?_ ?_
 · exact aG trivial
 rintro⟨i,hi⟩;have hi:i<=l.length:=hi
 repeat' (first|exact fg|(refine stx ?_;first|exact bW _|refine aE ?_)|(refine kq ?_;first|refine fR kg ?_)|((fail_if_success refine ft ?_);(conv=>whnf)<;>(first|exact fh|refine jr.of (bj eA lV (ba x) (foldM q (l.take i))) (λz hz=>?_) (λhz=>?_)|refine str ?_|refine Br.dec (λhc=>?_) λhc=>?_|refine Br.mk (λhc=>?_) λhc=>?_|exact PV.ao|refine PV.ai ?_ ?_|refine ae ?_ ?_|refine aD λx hx=>?_|refine aE ?_|refine bX (λhn=>?_) ?_|exact fv|refine bS λaZ=>?_|refine al ?_ ?_|rw[Wc]|refine fu ?_|fail)))<;>(try exact fi)
 all_goals try(
  have hx:l[i]? =some x:=hx;have aC:=(aq.1 hx).1;refine⟨⟨i+1,aC⟩,by show l.length-(i+1)<l.length-i;omega,?_⟩;refine aG ?_;show _=eM eK eA (foldM q (l.take (i+1)));rw[dV hx];simp only[iV, *,if_true,if_false,Bool.false_eq_true]
  try rw[<-cU eA lV]
  try rfl
  done)
 · have hc:¬(i:Int)<((l.map eA).length:Int):=hc
   rw[ak] at hc;have eF:l.take i=l:=bN (by omega);show aP (PV.fn (Fn.func 268) [] (B2 q l (foldM q (l.take i)))) _;rw[eF];exact aP.refl _
theorem Tp(x y:Dp):(decide (x.no=y.no)&&(decide (x.tm=y.tm)&&(decide (x.known=y.known)&&(decide (x.J3=y.J3)&&(decide (x.oc=y.oc)&&(decide (x.to=y.to)&&(decide (x.off=y.off)&&(decide (x.kind=y.kind)&&(decide (x.ND=y.ND)&&(x.gone==y.gone))))))))))=decide (x=y):=by
 cases x;cases y;simp only[Dp.mk.injEq,Bool.decide_and]
 first|rfl|(congr;(rename_i a b;cases a<;>cases b<;>rfl))|(simp;done)
def Zi:Dp:=⟨0,0,0,0,0,0,0,0,0,false⟩
def gZ(q:Qn)(M:Mp)(x:Dp):Bool:=decide ((bn (ba x) M).getD Zi=x)&&ee q x&&QD q x
theorem Ks(q:Qn)(l:List Dp)(M:Mp)(hl:l.length<1000000):Iter af 268 (B2 q l M) ((l.filter (gZ q M)).map λy=>[eA y]):=by
 refine Iter.e Tryz.func268 44 Ul ?_;intro G hG si jM;refine cb ?_;refine bY.bq (α:={i:Nat // i<=l.length/\bF (gZ q M) l i<=G.stop}) mixed Ul (λi=>[(10,.p (eI i.1))]) (λ_=>[]) (λi=>bF (gZ q M) l i.1) (λi=>l.length-i.1) ⟨0,by omega,by simp[bF]⟩ ?_ ?_
 · exact aG trivial
 rintro⟨i,hi,hs⟩;have hi:i<=l.length:=hi;have hs:bF (gZ q M) l i<=G.stop:=hs;have BC:G.xs.length=(l.filter (gZ q M)).length:=by rw[jM];simp
 repeat' (first|exact fg|(refine stx ?_;first|exact bW _|refine aE ?_)|(refine kq ?_;first|refine fR kg ?_|refine fR EZ ?_)|((fail_if_success refine ft ?_);(conv=>whnf)<;>(first|exact fh|refine jr.of (bj eA lV (ba x) M) (λz hz=>?_) (λhz=>?_)|refine str ?_|refine Br.dec (λhc=>?_) λhc=>?_|refine Br.mk (λhc=>?_) λhc=>?_|exact PV.ao|refine PV.ai ?_ ?_|refine ae ?_ ?_|refine aD λx hx=>?_|refine aE ?_|refine bX (λhn=>?_) ?_|exact fv|refine bS λaZ=>?_|refine al ?_ ?_|rw[Wc]|refine fu ?_|fail)))<;>(try exact fi)
 all_goals first
 |(have hc:¬(i:Int)<((l.map eA).length:Int):=hc
   rw[ak] at hc;have e:=mZ (gZ q M) (show l.length<=i by omega);show bF (gZ q M) l i=min (G.stop+1) ((l.filter (gZ q M)).map λy=>[eA y]).length
   rw[ak];omega)
 |(have hx:l[i]? =some x:=hx
   have aC:=(aq.1 hx).1
   first
   |(have hq:gZ q M x=false:=by
      first
      |(simp only[gZ, *,jE,ji];done)
      |(have h1:decide (z=x)=false:=(Tp z x).symm.trans (by assumption)
        simp only[gZ,hz,js,h1,ji])
      |(have h1:decide (Zi=x)=false:=(Tp Zi x).symm.trans (by assumption)
        simp only[gZ,hz,Option.getD_none,h1,ji])
     have e:=mn (gZ q M) hx hq;refine⟨⟨i+1,aC,by show bF (gZ q M) l (i+1)<=G.stop;omega⟩,by show l.length-(i+1)<l.length-i;omega,?_⟩;refine aG ?_
     exact e)
   |(have hq:gZ q M x=true:=by
      first
      |(have h1:decide (z=x)=true:=(Tp z x).symm.trans (by assumption)
        (have h2:ee q x=true:=by assumption);have h3:QD q x=true:=by assumption
        simp only[gZ,hz,js,h1,h2,h3,Bool.and_self])
      |(have h1:decide (Zi=x)=true:=(Tp Zi x).symm.trans (by assumption)
        (have h2:ee q x=true:=by assumption);have h3:QD q x=true:=by assumption
        simp only[gZ,hz,Option.getD_none,h1,h2,h3,Bool.and_self])
     have h1:=(aq.1 (ew (gZ q M) hx hq)).1
     first
     |(show bF (gZ q M) l i<G.xs.length
       omega)
     |(show _=List.map AV.p (G.xs.getD (bF (gZ q M) l i) [])
       have e:G.xs.getD (bF (gZ q M) l i) []=[eA x]:=by
        rw[jM];simp[cF,ew (gZ q M) hx hq]
       rw[e];rfl)
     |(have hc:bF (gZ q M) l i≠G.stop:=hc
       have e:=mY (gZ q M) hx hq;refine⟨⟨i+1,aC,by show bF (gZ q M) l (i+1)<=G.stop;omega⟩,by show l.length-(i+1)<l.length-i;omega,?_⟩;refine aG ?_
       exact e)
     |(have hc:¬ bF (gZ q M) l i≠G.stop:=hc
       show bF (gZ q M) l i+1=min (G.stop+1) ((l.filter (gZ q M)).map λy=>[eA y]).length
       rw[ak];omega)))
def lh(n:Nat):List Dp->AV
 |[]=>.p (.sl 0 true [])
 |a::r=>.bo n 10 0 (r.length+1)
def ln(n:Nat):List Dp->ab
 |[]=>[]
 |a::r=>[(n,.row 10 ((a::r).map eA))]
def Tq(q:Qn)(l:List Dp):List Dp:=l.filter (gZ q (foldM q l))
theorem xT(q:Qn)(l:List Dp)(M:Mp)(hl:l.length<1000000):aa af 266 [.sl 0 true [],.fn (.func 268) [] (B2 q l M)] (eL (l.filter (gZ q M))):=by
 have gh:=Ks q l M hl;have WW:=iB (gZ q M) l
 have jd:∀x∈((l.filter (gZ q M)).map λy=>[eA y]),x.length=1:=λx hx=>by
  obtain⟨y,_,rfl⟩:=List.mem_map.1 hx;rfl
 (have du:∀i y,(l.filter (gZ q M))[i]? =some y->((l.filter (gZ q M)).map λy=>[eA y]).getD i []=[eA y]:=λi y h=>by simp[cF,h]);refine aa.e Tryz.func266 13 [.tmp 4] [0,1,2,4,5,6,7] ?_;refine cb ?_;generalize l.filter (gZ q M)=F at *;(have hFm:F.length<1000000:=by omega);refine bY.range mixed gh (by kernel_rfl) rfl [0,1,2,4,5,6,7] F.length [0] (λi=>([(0,.cells [lh 1 (F.take i)])]++ln 1 (F.take i),192)) rfl (gN rfl) (by simp) (by simp) jd (λi hi hm=>?_) (λ_=>?_)
 · rw[ak] at hi
   obtain⟨y,hy⟩:∃y,F[i]? =some y:=⟨_,aV hi⟩;rw[du i y hy];(have ht:F.take (i+1)=F.take i++[y]:=by rw[bz,hy];rfl);(have PD:(F.take i).length<=F.length:=by rw[dy];omega);show aw _ _ _ ⟨_,[(0,.cells [lh 1 (F.take i)])]++ln 1 (F.take i),_,_⟩ _
   cases hG:F.take i with
   |nil=>
    rw[hG] at ht;refine cb (λaZ=>?_);show di _ _ ⟨[],[(0,.cells [lh 1 (F.take (i+1))])]++ln 1 (F.take (i+1)),192,_⟩;rw[ht];exact nq trivial
   |cons a r=>
    rw[hG] at ht;(have oI:r.length+1<=1000000:=by have:=PD;rw[hG] at this;simp at this;omega);refine cb ?_;show di _ _ ⟨[],[(0,.cells [lh 1 (F.take (i+1))])]++ln 1 (F.take (i+1)),192,_⟩;rw[ht];refine nq ?_;show(a::r).map eA++[eA y]=(a::(r++[y])).map eA;simp
 · have eF:F.take (F.map λy=>[eA y]).length=F:=by rw[ak,List.take_length]
   show Kt.n _ ⟨_,[(0,.cells [lh 1 (F.take (F.map λy=>[eA y]).length)])]++ln 1 (F.take (F.map λy=>[eA y]).length),_,_⟩;rw[eF]
   cases hG:F with
   |nil=>
    refine cb ?_;exact aP.mk (PV.le_nil _ _ _)
   |cons a r=>
    refine cb ?_;refine aP.of ?_;show PV.sl 10 false _=PV.sl 10 false _;congr 1;rw[da,bN (by simp)]
theorem B3(q:Qn)(l:List Dp)(M:Mp)(hl:l.length<1000000):aa af 235 [.fn (.func 268) [] (B2 q l M)] (eL (l.filter (gZ q M))):=by
 refine aa.e Tryz.func235 5 [.tmp 2] [0,2] ?_;exact bM (xT q l M hl) trivial
abbrev fT:KT:=([.int .i64],false)
theorem iM:nM eI where
 eq:=λa b=>by
  show(decide (a=b)&&true)=_;simp
abbrev Ol:=List (Int×Int)
def ni(r:Nat)(m:Ol)(x:Dp):Ol:=if bn x.to m=some (r:Int)/\bn x.oc m=none then dQ x.oc (r+1:Int) m else m
def E0(S:List Dp)(t:Int):Nat->Ol
 |0=>[(t,0)]
 |r+1=>S.foldl (ni r) (E0 S t r)
def kE(m:Ol)(p:Int)(k:Nat)(x:Dp):Bool:=decide (x.oc=p)&&decide (bn x.to m=some (k:Int))
def wx(S:List Dp)(m:Ol):Nat->Int->List Int
 |0,_=>[]
 |k+1,p=>match S.find? (kE m p k) with
  |some x=>x.no::wx S m k x.to
  |none=>wx S m k p
def Ku(S:List Dp)(f t:Int):List Int×Bool×Int:=match bn f (E0 S t 8) with
 |none=>([],false,0)
 |some n=>(wx S (E0 S t 8) n.toNat f,true,0)
def AM(l:List Dp)(f t:Int)(q:Qn):List Int×Bool×Int:=if Kr l f t q=0 then Ku (Tq q l) f t else([],false,Kr l f t q)
abbrev eC(x:List Int×Bool×Int):PV:= .bR [dm x.1,.bool x.2.1,eI x.2.2]
theorem QE(r:Nat)(m:Ol)(x:Dp):ni r m x=if bn x.to m=some (r:Int)/\bn x.oc m=none then dQ x.oc (r+1:Int) m else m:=rfl
def H7(m:Ol):Prop:=∀k v,bn k m=some v->0<=v/\v<=8
theorem QF{r:Nat}{m:Ol}{x:Dp}(hr:r<8)(h:H7 m):H7 (ni r m x):=by
 unfold ni;split
 · intro k v hk
   rw[dj] at hk;split at hk
   · injection hk with hk;omega
   · exact h k v hk
 · exact h
theorem H8{r:Nat}(hr:r<8):∀(S:List Dp) (m:Ol),H7 m->H7 (S.foldl (ni r) m)
 |[],_,h=>h
 |x::S,m,h=>H8 hr S _ (QF hr h)
theorem L3(S:List Dp)(t:Int):∀r,r<=8->H7 (E0 S t r)
 |0,_=>by
  intro k v hk;simp only[E0,bn] at hk;split at hk
  · injection hk with hk;omega
  · cases hk
 |r+1,h=>H8 (by omega) S _ (L3 S t r (by omega))
theorem NQ{r:Nat}{S:List Dp}{m:Ol}{j:Nat}{x:Dp}(h:S[j]? =some x):(S.take (j+1)).foldl (ni r) m=ni r ((S.take j).foldl (ni r) m) x:=by
 rw[bz,h];simp[fG]
def xU(n:Nat):List Int->AV
 |[]=>.p (.sl 0 true [])
 |a::r=>.bo n 1 0 (r.length+1)
def H9(n:Nat):List Int->ab
 |[]=>[]
 |a::r=>[(n,.row 1 ((a::r).map eI))]
theorem L4{S:List Dp}{M:Ol}{p:Int}{k j:Nat}{x:Dp}(hq:∀i y,i<j->S[i]? =some y->kE M p k y=false)(hx:S[j]? =some x)(h:kE M p k x=true):wx S M (k+1) p=x.no::wx S M k x.to:=by
 have:S.find? (kE M p k)=some x:=by
  rw[List.find?_eq_some_iff_getElem];obtain⟨aC,he⟩:=aq.1 hx;refine⟨h,j,aC,he,λi gx=>?_⟩;rw[hq i _ gx (aV (by omega))];rfl
 rw[wx,this]
theorem H'{S:List Dp}{M:Ol}{p:Int}{k j:Nat}(hq:∀i y,i<j->S[i]? =some y->kE M p k y=false)(hj:S.length<=j):wx S M (k+1) p=wx S M k p:=by
 have:S.find? (kE M p k)=none:=by
  rw[List.find?_eq_none];intro b hb;obtain⟨i,hi⟩:=List.getElem?_of_mem hb;have:=(aq.1 hi).1;rw[hq i b (by omega) hi];simp
 rw[wx,this]
theorem Ia(l:List Dp)(f t:Int)(q:Qn)(hl:l.length<1000000):aa af 192 [eL l,eI f,eI t,eI q.off,eI q.kind,eI q.val,eI q.tm,eI q.known] (eC (AM l f t q)):=by
 have q1:=wv l f t q hl;unfold AM;by_cases hz:Kr l f t q=0
 · rw[hz] at q1
   rw[if_pos hz];have q2:=AL q l hl;have q3:=B3 q l (foldM q l) hl;have hSl:(Tq q l).length<1000000:=Nat.lt_of_le_of_lt (iB _ _) hl;have q3:aa af 235 [.fn (.func 268) [] (B2 q l (foldM q l))] (eL (Tq q l)):=q3;generalize Tq q l=S at *;unfold Ku;have Js:E0 S t 0=[(t,0)]:=rfl;have hXs:∀r,E0 S t (r+1)=S.foldl (ni r) (E0 S t r):=λ_=>rfl;have bQ:=L3 S t 8 (by omega);generalize E0 S t=X at *;refine aa.e Tryz.func192 145 [.tmp 16,.tmp 17,.tmp 18] rE ?_;refine gg q1 q2 q3 ?_;refine bY.bq (α:={r:Nat // r<=8}) mixed rE (λr=>[(57,.p (eI r.1))]) (λr=>[(1536,.map fT (eM eI eI (X r.1)))]) (λ_=>0) (λr=>8-r.1) ⟨0,by omega⟩ ?_ ?_
   · refine aG ?_
     show _=eM eI eI (X 0);rw[Js];rfl
   rintro⟨r,hr⟩;have hr:r<=8:=hr;refine cb (ae (λhc=>?_) λhc=>?_)
   · have hr8:(r:Int)<8:=hc
     refine bY.bq (α:={j:Nat // j<=S.length}) mixed rE (λj=>[(62,.p (eI j.1))]) (λj=>[(1536,.map fT (eM eI eI ((S.take j.1).foldl (ni r) (X r))))]) (λ_=>0) (λj=>S.length-j.1) ⟨0,by omega⟩ ?_ ?_
     · exact aG trivial
     rintro⟨j,hj⟩;have hj:j<=S.length:=hj;clear hc
     repeat' (first|exact fg|(refine stx ?_;first|exact bW _|refine aE ?_)|((fail_if_success refine ft ?_);(conv=>whnf)<;>(first|exact fh|refine jr.of (bj eI iM x.oc ((S.take j).foldl (ni r) (X r))) (λz hz=>?_) (λhz=>?_)|refine jr.of (bj eI iM x.to ((S.take j).foldl (ni r) (X r))) (λy hy=>?_) (λhy=>?_)|refine str ?_|refine Br.dec (λhc=>?_) λhc=>?_|refine Br.mk (λhc=>?_) λhc=>?_|exact PV.ao|refine PV.ai ?_ ?_|refine ae ?_ ?_|refine aD λx hx=>?_|refine aE ?_|refine bX (λhn=>?_) ?_|exact fv|refine bS λaZ=>?_|refine al ?_ ?_|refine fu ?_|fail)))<;>(try exact fi)
     all_goals first
     |(have hc:¬(j:Int)<((S.map eA).length:Int):=hc
       rw[ak] at hc;(have hr8:(r:Int)<8:=by assumption);refine⟨⟨r+1,by omega⟩,by show 8-(r+1)<8-r;omega,?_⟩;refine aG ?_;show eM eI eI ((S.take j).foldl (ni r) (X r))=eM eI eI (X (r+1))
       rw[bN (by omega),hXs])
     |(have oM:S[j]? =some x:=hx
       have aC:=(aq.1 oM).1;have hf:=NQ (r:=r) (m:=X r) oM;refine⟨⟨j+1,aC⟩,by show S.length-(j+1)<S.length-j;omega,?_⟩;refine aG ?_;show _=eM eI eI ((S.take (j+1)).foldl (ni r) (X r));rw[hf,QE];clear hf;generalize (S.take j).foldl (ni r) (X r)=m at *
       first
       |(have hn:¬(bn x.to m=some (r:Int)/\bn x.oc m=none):=λh=>Option.some_ne_none z (hz.symm.trans h.2)
         rw[if_neg hn])
       |(have hn:¬(bn x.to m=some (r:Int)/\bn x.oc m=none):=λh=>Option.some_ne_none (r:Int) (h.1.symm.trans hy)
         rw[if_neg hn])
       |(have WZ:¬ y=(r:Int):=by assumption
         have hn:¬(bn x.to m=some (r:Int)/\bn x.oc m=none):=λh=>WZ (gH (hy.symm.trans h.1))
         rw[if_neg hn])
       |(have WZ:y=(r:Int):=by assumption
         have hn:bn x.to m=some (r:Int)/\bn x.oc m=none:=⟨WZ▸hy,hz⟩
         rw[if_pos hn,<-cU eI iM];try rfl))
   · have hr8:¬(r:Int)<8:=hc
     (have hr9:r=8:=by omega);subst hr9;clear hc
     skip
     repeat' (first|exact fg|(refine stx ?_;first|exact bW _|refine aE ?_)|((fail_if_success refine ft ?_);(conv=>whnf)<;>(first|exact fh|refine jr.of (bj eI iM f (X 8)) (λn hn=>?_) (λhn=>?_)|refine str ?_|refine Br.dec (λhc=>?_) λhc=>?_|refine Br.mk (λhc=>?_) λhc=>?_|exact PV.ao|refine PV.ai ?_ ?_|refine ae ?_ ?_|refine aD λx hx=>?_|refine aE ?_|refine bX (λhn=>?_) ?_|exact fv|refine bS λaZ=>?_|refine al ?_ ?_|refine fu ?_|fail)))<;>(try exact fi)
     rotate_left 1
     · rw[hn]
       exact aP.mk (PV.fU (PV.ai (PV.le_nil _ _ _) (PV.dE _)))
     rw[hn];have T7:=bQ f n hn;obtain⟨k0,rfl⟩:∃k0:Nat,n=(k0:Int):=⟨n.toNat,by omega⟩;(have WB:k0<=8:=by omega);clear hn T7 bQ;simp only[dv];refine bY.bq (α:={x:Nat×Int×List Int // x.1<=8/\x.2.2.length+x.1<=8/\x.2.2++wx S (X 8) x.1 x.2.1=wx S (X 8) k0 f}) mixed rE (λx=>[(16,xU 1 x.1.2.2),(29,.p (eI x.1.1)),(31,.p (eI x.1.2.1))]) (λx=>H9 1 x.1.2.2) (λ_=>0) (λx=>x.1.1) ⟨(k0,f,[]),WB,by simpa using WB,rfl⟩ ?_ ?_
     · exact aG trivial
     rintro⟨⟨k,p,_|⟨a,w⟩⟩,hk8,Il,hp⟩
     · have hk8:k<=8:=hk8
       have Il:([]:List Int).length+k<=8:=Il;have hp:([]:List Int)++wx S (X 8) k p=wx S (X 8) k0 f:=hp;refine cb (ae (λhc=>?_) λhc=>?_)
       · have TT:(0:Int)<(k:Int):=hc
         obtain⟨k,rfl⟩:∃k',k=k'+1:=⟨k-1,by omega⟩;refine bY.bK (α:={j:Nat // j<=S.length/\ ∀i y,i<j->S[i]? =some y->kE (X 8) p k y=false}) mixed rE (λj=>[(112,.p (eI j.1))]) (λj=>S.length-j.1) ⟨0,by omega,λi y h=>absurd h (by omega)⟩ ?_ ?_
         · exact aG trivial
         rintro⟨j,hj,hq⟩;have hj:j<=S.length:=hj;have hq:∀i y,i<j->S[i]? =some y->kE (X 8) p k y=false:=hq;clear hc;clear Js hXs WB
         repeat' (first|exact fg|(refine stx ?_;first|exact bW _|refine aE ?_)|((fail_if_success refine ft ?_);(conv=>whnf)<;>(first|exact fh|refine jr.of (bj eI iM x.to (X 8)) (λz hz=>?_) (λhz=>?_)|refine str ?_|refine Br.dec (λhc=>?_) λhc=>?_|refine Br.mk (λhc=>?_) λhc=>?_|exact PV.ao|refine PV.ai ?_ ?_|refine ae ?_ ?_|refine aD λx hx=>?_|refine aE ?_|refine bX (λhn=>?_) ?_|exact fv|refine bS λaZ=>?_|refine al ?_ ?_|refine fu ?_|fail)))<;>(try exact fi)
         (all_goals(try((first|(with_reducible show(_:Int)<=_)|(with_reducible show(_:Int)<_)|(with_reducible show(_:Nat)<=_)|(with_reducible show(_:Nat)<_)|(with_reducible show ¬ _)|(with_reducible show(_:Int)=_)|(with_reducible show(_:Nat)=_)|(with_reducible show False));(try dsimp only at *);(try simp only[ak,fk,ea,nV,xw,dy,nz,nX,dv,Int.reduceToNat] at *);omega)))
         all_goals first
         |(have hc:¬(j:Int)<((S.map eA).length:Int):=hc
           rw[ak] at hc;have MW:=H' hq (by omega);refine⟨⟨(k,p,([]:List Int)),by show k<=8;omega,by show([]:List Int).length+k<=8;omega,by show([]:List Int)++wx S (X 8) k p=wx S (X 8) k0 f;rw[<-MW];exact hp⟩,by show k<k+1;omega,?_⟩;show di _ _ (kj rE _ _ _ [(16,xU 1 ([]:List Int)),(29,.p (eI (k:Int))),(31,.p (eI p))] (H9 1 ([]:List Int)) _)
           exact aG trivial)
         |(have oM:S[j]? =some x:=hx
           have aC:=(aq.1 oM).1
           first
           |(have hn:kE (X 8) p k x=true:=by
              (have h1:x.oc=p:=by assumption);(have h2:z=(((k+1:Nat):Int)-1):=by assumption);(have h3:z=(k:Int):=by omega);unfold kE;rw[decide_eq_true h1,decide_eq_true (show bn x.to (X 8)=some (k:Int) from hz.trans (congrArg some h3))];rfl
             have MW:=L4 hq oM hn;refine⟨⟨(k,x.to,([]:List Int)++[x.no]),by show k<=8;omega,by show(([]:List Int)++[x.no]).length+k<=8;simp;omega,by show([]:List Int)++[x.no]++wx S (X 8) k x.to=wx S (X 8) k0 f;rw[ky];show([]:List Int)++(x.no::wx S (X 8) k x.to)=_;rw[<-MW];exact hp⟩,by show k<k+1;omega,?_⟩;show di _ _ (kj rE _ _ _ [(16,xU 1 (([]:List Int)++[x.no])),(29,.p (eI (k:Int))),(31,.p (eI x.to))] (H9 1 (([]:List Int)++[x.no])) _);exact aG trivial
             all_goals(try(simp;done)))
           |(have hn:kE (X 8) p k x=false:=by
              unfold kE
              first
              |(have h1:¬ x.oc=p:=by assumption
                rw[decide_eq_false h1];rfl)
              |(have RD:¬ bn x.to (X 8)=some (k:Int):=λe=>Option.some_ne_none (k:Int) (e.symm.trans hz)
                rw[decide_eq_false RD];simp)
              |(have h2:¬ z=(((k+1:Nat):Int)-1):=by assumption
                (have h3:¬ z=(k:Int):=by omega);have RD:¬ bn x.to (X 8)=some (k:Int):=λe=>h3 (gH (hz.symm.trans e))
                rw[decide_eq_false RD];simp)
             refine⟨⟨j+1,aC,nU hq oM hn⟩,by show S.length-(j+1)<S.length-j;omega,?_⟩
             (first|refine di.Vz [] ?_|refine di.T8 [] ?_)<;>(repeat' (first|exact trivial|refine fe.dd ?_|refine fe.mk rfl (by simp) rfl (λh=>bJ.noConfusion h) ?_ ?_|refine ae ?_ ?_|exact Pu|refine cW.pe ?_|refine cW.agg ?_|refine cW.bR ?_|refine cW.fn ?_ ?_|refine iv.cons ?_ ?_|exact iv.nil|exact dL.row _ _|rfl|refine cW.zB rfl ?_ ?_ ?_|refine dL.rb ?_ ?_|refine dL.xI ?_ ?_|refine dL.rC ?_|refine dL.rf ?_ ?_|refine dL.pV ?_ ?_|refine dL.pW ?_ ?_ ?_|exact dL.na rfl))<;>try(first|(simp;done)|(congr 1;omega)|(congr 1;(first|(simp;done)|(simp;omega))))))
       · have TT:¬(0:Int)<(k:Int):=hc
         (have Io:k=0:=by omega);subst Io;have Rf:([]:List Int)++[]=wx S (X 8) k0 f:=hp;rw[<-Rf];exact aP.mk (PV.fU (PV.ai (PV.le_nil _ _ _) (PV.dE _)))
     · have hk8:k<=8:=hk8
       have Il:(a::w).length+k<=8:=Il;have hp:(a::w)++wx S (X 8) k p=wx S (X 8) k0 f:=hp;have hpl2:w.length+1+k<=8:=Il;(have hwl:w.length<=8:=by omega);refine cb (ae (λhc=>?_) λhc=>?_)
       · have TT:(0:Int)<(k:Int):=hc
         obtain⟨k,rfl⟩:∃k',k=k'+1:=⟨k-1,by omega⟩;refine bY.bK (α:={j:Nat // j<=S.length/\ ∀i y,i<j->S[i]? =some y->kE (X 8) p k y=false}) mixed rE (λj=>[(112,.p (eI j.1))]) (λj=>S.length-j.1) ⟨0,by omega,λi y h=>absurd h (by omega)⟩ ?_ ?_
         · exact aG trivial
         rintro⟨j,hj,hq⟩;have hj:j<=S.length:=hj;have hq:∀i y,i<j->S[i]? =some y->kE (X 8) p k y=false:=hq;clear hc;clear Js hXs WB
         repeat' (first|exact fg|(refine stx ?_;first|exact bW _|refine aE ?_)|((fail_if_success refine ft ?_);(conv=>whnf)<;>(first|exact fh|refine jr.of (bj eI iM x.to (X 8)) (λz hz=>?_) (λhz=>?_)|refine str ?_|refine Br.dec (λhc=>?_) λhc=>?_|refine Br.mk (λhc=>?_) λhc=>?_|exact PV.ao|refine PV.ai ?_ ?_|refine ae ?_ ?_|refine aD λx hx=>?_|refine aE ?_|refine bX (λhn=>?_) ?_|exact fv|refine bS λaZ=>?_|refine al ?_ ?_|refine fu ?_|fail)))<;>(try exact fi)
         (all_goals(try((first|(with_reducible show(_:Int)<=_)|(with_reducible show(_:Int)<_)|(with_reducible show(_:Nat)<=_)|(with_reducible show(_:Nat)<_)|(with_reducible show ¬ _)|(with_reducible show(_:Int)=_)|(with_reducible show(_:Nat)=_)|(with_reducible show False));(try dsimp only at *);(try simp only[ak,fk,ea,nV,xw,dy,nz,nX,dv,Int.reduceToNat] at *);omega)))
         all_goals first
         |(have hc:¬(j:Int)<((S.map eA).length:Int):=hc
           rw[ak] at hc;have MW:=H' hq (by omega);refine⟨⟨(k,p,(a::w)),by show k<=8;omega,by show(a::w).length+k<=8;omega,by show(a::w)++wx S (X 8) k p=wx S (X 8) k0 f;rw[<-MW];exact hp⟩,by show k<k+1;omega,?_⟩;show di _ _ (kj rE _ _ _ [(16,xU 1 (a::w)),(29,.p (eI (k:Int))),(31,.p (eI p))] (H9 1 (a::w)) _)
           exact aG trivial)
         |(have oM:S[j]? =some x:=hx
           have aC:=(aq.1 oM).1
           first
           |(have hn:kE (X 8) p k x=true:=by
              (have h1:x.oc=p:=by assumption);(have h2:z=(((k+1:Nat):Int)-1):=by assumption);(have h3:z=(k:Int):=by omega);unfold kE;rw[decide_eq_true h1,decide_eq_true (show bn x.to (X 8)=some (k:Int) from hz.trans (congrArg some h3))];rfl
             have MW:=L4 hq oM hn;refine⟨⟨(k,x.to,(a::w)++[x.no]),by show k<=8;omega,by show((a::w)++[x.no]).length+k<=8;simp;omega,by show(a::w)++[x.no]++wx S (X 8) k x.to=wx S (X 8) k0 f;rw[ky];show(a::w)++(x.no::wx S (X 8) k x.to)=_;rw[<-MW];exact hp⟩,by show k<k+1;omega,?_⟩;show di _ _ (kj rE _ _ _ [(16,xU 1 ((a::w)++[x.no])),(29,.p (eI (k:Int))),(31,.p (eI x.to))] (H9 1 ((a::w)++[x.no])) _);exact aG trivial
             all_goals(try(simp;done)))
           |(have hn:kE (X 8) p k x=false:=by
              unfold kE
              first
              |(have h1:¬ x.oc=p:=by assumption
                rw[decide_eq_false h1];rfl)
              |(have RD:¬ bn x.to (X 8)=some (k:Int):=λe=>Option.some_ne_none (k:Int) (e.symm.trans hz)
                rw[decide_eq_false RD];simp)
              |(have h2:¬ z=(((k+1:Nat):Int)-1):=by assumption
                (have h3:¬ z=(k:Int):=by omega);have RD:¬ bn x.to (X 8)=some (k:Int):=λe=>h3 (gH (hz.symm.trans e))
                rw[decide_eq_false RD];simp)
             refine⟨⟨j+1,aC,nU hq oM hn⟩,by show S.length-(j+1)<S.length-j;omega,?_⟩
             (first|refine di.Vz [] ?_|refine di.T8 [] ?_)<;>(repeat' (first|exact trivial|refine fe.dd ?_|refine fe.mk rfl (by simp) rfl (λh=>bJ.noConfusion h) ?_ ?_|refine ae ?_ ?_|exact Pu|refine cW.pe ?_|refine cW.agg ?_|refine cW.bR ?_|refine cW.fn ?_ ?_|refine iv.cons ?_ ?_|exact iv.nil|exact dL.row _ _|rfl|refine cW.zB rfl ?_ ?_ ?_|refine dL.rb ?_ ?_|refine dL.xI ?_ ?_|refine dL.rC ?_|refine dL.rf ?_ ?_|refine dL.pV ?_ ?_|refine dL.pW ?_ ?_ ?_|exact dL.na rfl))<;>try(first|(simp;done)|(congr 1;omega)|(congr 1;(first|(simp;done)|(simp;omega))))))
       · have TT:¬(0:Int)<(k:Int):=hc
         (have Io:k=0:=by omega);subst Io;have Rf:(a::w)++[]=wx S (X 8) k0 f:=hp;rw[<-Rf];refine aP.of (congrArg (λz=>PV.bR [PV.sl 1 false z,.bool true,eI 0]) ?_);show List.take (w.length+1) (List.drop 0 ((a::w).map eI))=((a::w)++[]).map eI;rw[da,bN (by simp),List.append_nil]
 · rw[if_neg hz]
   refine aa.e Tryz.func192 145 [.tmp 16,.tmp 17,.tmp 18] rE ?_;refine bM q1 (λhc=>?_);exact aP.mk (PV.fU (PV.ai (PV.le_nil _ _ _) (PV.dE _)))
end rP
end Go.Proofs.YtmaiccmhkmndcaaGreatDoor
