/- A part of the proof: contracts of the functions that the statement reaches. -/
import Derived.Test.YtmaiccmhkmndcaaGreatDoorEngC
import Derived.Test.YtmaiccmhkmndcaaGreatDoorChpAA
import Derived.Test.YtmaiccmhkmndcaaGreatDoorProg
set_option linter.unusedSimpArgs false
set_option linter.unusedVariables false
set_option linter.unnecessarySimpa false
set_option maxRecDepth 100000
set_option maxHeartbeats 40000000
open And renaming intro->ae
open Bool renaming and_eq_true->aQ,false_and->ji,and_false->jE
open Go.IntKind renaming i64->br,u64->eH
open Go.Proofs.Tryz renaming prog->af
open Int renaming toNat->gd,toNat_natCast->dv
open List renaming length_map->ak,getElem?_eq_some_iff->aq,any_eq_true->kS,mem_of_getElem?->aO,take_add_one->bz,foldl_append->fG,take_of_length_le->bN,map->bZ,drop->eo,take->et,drop_zero->da,map_append->iq,mem_map->aY
open Option renaming getD_some->js
namespace Go.Proofs.YtmaiccmhkmndcaaGreatDoor
open Go Go.Sg
namespace ng
structure It where
 no:Int
 tm:Int
 known:Int
 fy:Int
 gW:Int
 Iy:Bool
 gone:Bool
 deriving DecidableEq
def eI(i:Int):PV:= .int .i64 i
def dm(l:List Int):PV:= .sl 1 false (l.map eI)
def eA(x:It):PV:= .agg [eI x.no,eI x.tm,eI x.known,eI x.fy,eI x.gW,.bool x.Iy,.bool x.gone]
def eL(l:List It):PV:= .sl 7 false (l.map eA)
theorem mixed:af.follows .mixedOrders=true:=by kernel_rfl
theorem iA(a:Int):aa af 179 [eI a] (.bool false):=by
 refine aa.e Tryz.func179 6 [.tmp 2] [0,2] ?_;refine cb ?_;exact aP.bool (by simp)
theorem pJ(a:Int):aa af 287 [eI a] (.bool false):=by
 refine aa.e Tryz.func287 6 [.tmp 2] [0,2] ?_;refine cb ?_;exact aP.bool (by simp)
theorem tQ(a b:Int):aa af 206 [eI a,eI b] (.bool (decide (a<b))):=by
 refine aa.e Tryz.func206 17 [.tmp 4] [0,1,4] ?_;exact bM iA trivial
 all_goals(refine aP.bool ?_;simp_all)
def fS(m n:Int):Bool:=decide (0<=n)&&decide (n<m)
abbrev TM:Int:=1099511627776
theorem aB(n m:Int):aa af 112 [eI n,eI m] (.bool (fS m n)):=by
 refine aa.e Tryz.func112 12 [.tmp 4] [0,1,4] ?_;refine cb (ae (λhc=>?_) λhc=>?_)
 all_goals((try simp only[fS, *]);exact fin)
theorem eb(n:Int):aa af 124 [eI n] (.bool (fS TM n)):=by
 refine aa.e Tryz.func124 9 [.tmp 2] [0,2] ?_;refine cb (ae (λhc=>?_) λhc=>?_)
 all_goals((try simp only[fS, *]);exact fin)
theorem EM(n:Int):aa af 125 [eI n] (.bool (fS 1048577 n)):=by
 refine aa.e Tryz.func125 9 [.tmp 2] [0,2] ?_;refine cb (ae (λhc=>?_) λhc=>?_)
 all_goals(refine aP.bool ?_;simp_all [fS]<;>omega)
theorem jk(n:Int):aa af 126 [eI n] (.bool (fS 64 n)):=by
 refine aa.e Tryz.func126 9 [.tmp 2] [0,2] ?_;refine cb (ae (λhc=>?_) λhc=>?_)
 all_goals((try simp only[fS, *]);exact fin)
def ag(x:It):Bool:=(fS 1048577 x.no&&fS TM x.tm&&fS TM x.known&&fS 1048577 x.gW)&&(if x.Iy then fS 1048577 x.fy&& !decide (x.fy=x.gW) else fS 64 x.fy)
theorem cV(x:It):aa af 55 [eA x] (.bool (ag x)):=by
 refine aa.e Tryz.func55 43 [.tmp 2] [0,1,2,3,23] ?_;refine bM aB (ae (λhc=>ae (λhc=>ae (λhc=>ae (λhc=>ae (λhc=>ae (λhc=>?_) λhc=>?_) λhc=>?_) λhc=>ae (λhc=>?_) λhc=>?_) λhc=>ae (λhc=>?_) λhc=>?_) λhc=>ae (λhc=>?_) λhc=>?_) λhc=>ae (λhc=>?_) λhc=>?_)
 all_goals(refine aP.bool ?_;simp_all [ag]<;>(intros;omega))
theorem dG(x:It):aa af 66 [eA x] (.bool (ag x)):=by
 refine aa.e Tryz.func66 44 [.tmp 2] [0,1,2,28,30] ?_;refine gg eb EM jk (ae (λhc=>?_) λhc=>ae (λhc=>?_) λhc=>ae (λhc=>ae (λhc=>ae (λhc=>ae (λhc=>ae (λhc=>?_) λhc=>?_) λhc=>?_) λhc=>?_) λhc=>?_) λhc=>?_)
 all_goals(refine aP.bool ?_;simp_all [ag,fS]<;>(intros;omega))
def aJ(l:List It):Int:=tJ ag It.no 4096 290 l
theorem eJ{x:It}(h:ag x=true):0<=x.no:=by
 simp[ag,fS] at h;omega
theorem bm(l:List It)(hl:l.length<1000000):aa af 15 [eL l] (eI (aJ l)):=by
 refine aa.e Tryz.func15 27 [.tmp 2] [0,2,3,5,8,9,10,11,12,23] ?_;refine cb (ae (λhc=>?_) λhc=>?_)
 · rw[show aJ l=2 from iw ag It.no (by simpa using hc)];exact aP.refl _
 have iP:¬(4096:Int)<(l.length:Int):=by
  have h:¬(4096:Int)<((l.map eA).length:Int):=by assumption
  rwa[ak] at h
 refine bY.bK (α:={i:Nat // i<=l.length/\aA ag It.no (ax It.no l i) (l.drop i)=aA ag It.no (-1) l}) mixed [0,2,3,5,8,9,10,11,12,23] (λi=>[(3,.p (eI (ax It.no l i.1))),(11,.p (eI i.1))]) (λi=>l.length-i.1) ⟨0,by omega,rfl⟩ ?_ ?_
 · exact aG trivial
 rintro⟨i,hi,hq⟩;have hi:i<=l.length:=hi;have hq:aA ag It.no (ax It.no l i) (l.drop i)=aA ag It.no (-1) l:=hq;refine bM cV (ae (λhc x hx=>ae (λhc=>ae (λhc=>?_) λhc=>?_) λhc=>?_) λhc=>?_)
 · rename_i h1
   have hx:l[i]? =some x:=hx;have hc:It.no x<=ax It.no l i:=hc;rw[show aJ l=290 from cT ag It.no iP (bC ag It.no hx hq (by rw[h1,decide_eq_false (by omega)];rfl))];exact aP.refl _
 · rename_i h1
   have hx:l[i]? =some x:=hx;have hc:¬ It.no x<=ax It.no l i:=hc;have aC:=(aq.1 hx).1;refine⟨⟨i+1,aC,bU ag It.no hx hq (by rw[h1,decide_eq_true (by omega)];rfl)⟩,by show l.length-(i+1)<l.length-i;omega,?_⟩;refine aG ?_
   all_goals(rw[bk It.no hx])
 · have hx:l[i]? =some x:=hx
   rw[show aJ l=290 from cT ag It.no iP (bC ag It.no hx hq (by rw[hc];rfl))];exact aP.refl _
 · have hc:¬(i:Int)<((l.map eA).length:Int):=hc
   rw[ak] at hc;rw[show aJ l=0 from iK ag It.no iP (cR ag It.no hq (by omega))];exact aP.refl _
theorem dH(l:List It)(hl:l.length<1000000):aa af 23 [eL l] (eI (aJ l)):=by
 refine aa.e Tryz.func23 37 [.tmp 2] [0,2,3,6,10,36] ?_;refine cb (ae (λhc=>?_) λhc=>?_)
 · rw[show aJ l=2 from iw ag It.no (by simpa using hc)];exact aP.refl _
 have iP:¬(4096:Int)<(l.length:Int):=by
  have h:¬(4096:Int)<((l.map eA).length:Int):=by assumption
  rwa[ak] at h
 refine bY.bK (α:={i:Nat // i<=l.length/\aA ag It.no (ax It.no l i) (l.drop i)=aA ag It.no (-1) l}) mixed [0,2,3,6,10,36] (λi=>[(3,.p (eI i.1))]) (λi=>l.length-i.1) ⟨0,by omega,rfl⟩ ?_ ?_
 · exact aG trivial
 rintro⟨i,hi,hq⟩;have hi:i<=l.length:=hi;have hq:aA ag It.no (ax It.no l i) (l.drop i)=aA ag It.no (-1) l:=hq;refine bM dG (ae (λhc x hx=>ae (λhc=>ae (λhc x hx x hx=>ae (λhc=>?_) λhc=>?_) λhc=>?_) λhc=>?_) λhc=>?_)
 · rename_i y h1 h2 z hz
   have h2:(0:Int)<(i:Int):=h2;have hz:l[i]? =some z:=hz;have hx:l[((i:Int)-1).toNat]? =some x:=hx;rw[show((i:Int)-1).toNat=i-1 by omega] at hx;(have gy:ax It.no l i=It.no x:=by obtain⟨j,rfl⟩:∃j,i=j+1:=⟨i-1,by omega⟩;exact bk It.no hx);rw[show aJ l=290 from cT ag It.no iP (bC ag It.no hz hq (by rw[gy,decide_eq_false (by omega)];simp))];exact aP.refl _
 · rename_i y hy h1 h2 z hz
   have h2:(0:Int)<(i:Int):=h2;have hz:l[i]? =some z:=hz;have hy:l[i]? =some y:=hy
   rw[hz] at hy;injection hy with hy;subst hy
   have hx:l[((i:Int)-1).toNat]? =some x:=hx;rw[show((i:Int)-1).toNat=i-1 by omega] at hx;(have gy:ax It.no l i=It.no x:=by obtain⟨j,rfl⟩:∃j,i=j+1:=⟨i-1,by omega⟩;exact bk It.no hx);have aC:=(aq.1 hz).1;refine⟨⟨i+1,aC,bU ag It.no hz hq (by rw[gy,h1,decide_eq_true (by omega)];rfl)⟩,by show l.length-(i+1)<l.length-i;omega,?_⟩;exact aG trivial
 · rename_i h1
   have hx:l[i]? =some x:=hx;have hc:¬(0:Int)<(i:Int):=hc;have aC:=(aq.1 hx).1;(have h0:i=0:=by omega);subst h0;have hn:=eJ h1;refine⟨⟨0+1,aC,bU ag It.no hx hq (by rw[h1];show(true&&decide ((-1:Int)<It.no x))=true;rw[decide_eq_true (by omega)];rfl)⟩,by show l.length-(0+1)<l.length-0;omega,?_⟩;exact aG trivial
 · have hx:l[i]? =some x:=hx
   rw[show aJ l=290 from cT ag It.no iP (bC ag It.no hx hq (by rw[hc];rfl))];exact aP.refl _
 · have hc:¬(i:Int)<((l.map eA).length:Int):=hc
   rw[ak] at hc;rw[show aJ l=0 from iK ag It.no iP (cR ag It.no hq (by omega))];exact aP.refl _
def hasB(l:List Int)(n:Int):Bool:=l.any λx=>decide (x=n)
theorem QC{l:List Int}{n x:Int}{i:Nat}(h:l[i]? =some x)(e:x=n):hasB l n=true:=kS.2 ⟨x,aO h,decide_eq_true e⟩
theorem jF(l:List Int)(n:Int)(hl:l.length<1000000):aa af 150 [dm l,eI n] (eI (zN (λx=>decide (x=n)) l)):=by
 refine aa.e Tryz.func150 19 [.tmp 4] [0,1,4,5,7,8,9,16] ?_;refine cb ?_;refine bY.bK (α:={i:Nat // i<=l.length/\ ∀j w,j<i->l[j]? =some w->w≠n}) mixed [0,1,4,5,7,8,9,16] (λi=>[(8,.p (eI i.1))]) (λi=>l.length-i.1) ⟨0,by omega,by intro j w h;omega⟩ ?_ ?_
 · exact aG trivial
 rintro⟨i,hi,hq⟩;have hi:i<=l.length:=hi;have hq:∀j w,j<i->l[j]? =some w->w≠n:=hq;refine cb (ae (λhc x hx=>ae (λhc=>?_) λhc=>?_) λhc=>?_)
 · have hx:l[i]? =some x:=hx
   have hc:n=x:=hc;rw[gF (q:=λx=>decide (x=n)) hx (decide_eq_true hc.symm) (λj w hj hw=>decide_eq_false (hq j w hj hw))];exact aP.refl _
 · have hx:l[i]? =some x:=hx
   have pR:¬ n=x:=hc;have:=(aq.1 hx).1;refine⟨⟨i+1,by omega,λj w hj hw=>?_⟩,by show l.length-(i+1)<l.length-i;omega,?_⟩
   · rcases Nat.lt_succ_iff_lt_or_eq.1 hj with h1|h1
     · exact hq j w h1 hw
     · subst h1;rw[hx] at hw;injection hw with hw;subst hw;exact λe=>pR e.symm
   · exact aG trivial
 · have hc:¬(i:Int)<((l.map eI).length:Int):=hc
   rw[ak] at hc;rw[j9 (q:=λx=>decide (x=n)) (l:=l) λj w hj hw=>decide_eq_false (hq j w (by omega) hw)];exact aP.refl _
theorem kc(l:List Int)(n:Int)(hl:l.length<1000000):aa af 93 [dm l,eI n] (.bool (hasB l n)):=by
 show aa _ _ _ (.bool (l.any _));rw[<-uM];refine aa.e Tryz.func93 9 [.tmp 4] [0,1,4] ?_;exact bM (jF _ _ hl) trivial
theorem Tt(x y:It):(decide (x.no=y.no)&&(decide (x.tm=y.tm)&&(decide (x.known=y.known)&&(decide (x.fy=y.fy)&&(decide (x.gW=y.gW)&&(x.Iy==y.Iy&&(x.gone==y.gone)))))))=decide (x=y):=by
 cases x;cases y;simp only[It.mk.injEq,Bool.decide_and]
 first|rfl|(congr;(rename_i a b;cases a<;>cases b<;>rfl))|(simp;done)
def ee(t k:Int)(x:It):Bool:=decide (x.tm<=t)&&decide (x.known<=k)
abbrev Ky:=Int×Int×Bool
def ba(x:It):Ky:=(x.fy,x.gW,x.Iy)
def eK(k:Ky):PV:= .agg [eI k.1,eI k.2.1,.bool k.2.2]
theorem lV:nM eK where
 eq:=λa b=>by
  obtain⟨a1,a2,a3⟩:=a;obtain⟨b1,b2,b3⟩:=b;show(decide (a1=b1)&&(decide (a2=b2)&&((a3==b3)&&true)))=_;cases a3<;>cases b3<;>simp[Bool.decide_and]
abbrev Mp:=List (Ky×It)
def iV(t k:Int)(m:Mp)(y:It):Mp:=if ee t k y then(match bn (ba y) m with|none=>dQ (ba y) y m|some z=>if z.tm<=y.tm then dQ (ba y) y m else m) else m
def foldM(t k:Int)(l:List It):Mp:=l.foldl (iV t k) []
theorem dV{t k:Int}{l:List It}{i:Nat}{x:It}(h:l[i]? =some x):foldM t k (l.take (i+1))=iV t k (foldM t k (l.take i)) x:=by
 unfold foldM;rw[bz,h];simp[fG]
abbrev xP:KT:=([.int .i64,.int .i64,.bool],true)
theorem Wf:ko af 355=some (xP,124):=by kernel_rfl
abbrev B2(l:List It)(M:Mp):List PV:=[.ro [eL l],.ro [.mp xP (eM eK eA M)]]
theorem ga(l:List It)(t k:Int)(hl:l.length<1000000):aa af 272 [eL l,eI t,eI k] (.fn (.func 286) [] (B2 l (foldM t k l))):=by
 refine aa.e Tryz.func272 57 [.tmp 6] Um ?_;refine bM (kR Wf) ?_;refine bY.bq (α:={i:Nat // i<=l.length}) mixed Um (λi=>[(16,.p (eI i.1))]) (λi=>[(128,.map xP (eM eK eA (foldM t k (l.take i.1))))]) (λ_=>0) (λi=>l.length-i.1) ⟨0,by omega⟩ ?_ ?_
 · exact aG trivial
 rintro⟨i,hi⟩;have hi:i<=l.length:=hi
 repeat' (first|exact fg|(refine stx ?_;first|exact bW _|refine aE ?_)|((fail_if_success refine ft ?_);(conv=>whnf)<;>(first|exact fh|refine jr.of (bj eA lV (ba x) (foldM t k (l.take i))) (λz hz=>?_) (λhz=>?_)|refine str ?_|refine Br.dec (λhc=>?_) λhc=>?_|refine Br.mk (λhc=>?_) λhc=>?_|exact PV.ao|refine PV.ai ?_ ?_|refine ae ?_ ?_|refine aD λx hx=>?_|refine aE ?_|refine bX (λhn=>?_) ?_|exact fv|refine bS λaZ=>?_|refine al ?_ ?_|rw[Wf]|refine fu ?_|fail)))<;>(try exact fi)
 all_goals try(
  have hx:l[i]? =some x:=hx;have aC:=(aq.1 hx).1;refine⟨⟨i+1,aC⟩,by show l.length-(i+1)<l.length-i;omega,?_⟩;refine aG ?_;show _=eM eK eA (foldM t k (l.take (i+1)));rw[dV hx];unfold iV
  first
  |(rw[if_neg (show ¬ ee t k x=true by simp only[ee,aQ,decide_eq_true_eq];omega)];done)
  |(rw[if_pos (show ee t k x=true by simp only[ee,aQ,decide_eq_true_eq];omega),hz]
    first
    |(show _=eM eK eA (if z.tm<=x.tm then dQ (ba x) x (foldM t k (l.take i)) else foldM t k (l.take i))
      first
      |(rw[if_pos hc];exact cU eA lV (ba x) x _)
      |(rw[if_neg hc];done))
    |exact cU eA lV (ba x) x _)
  done)
 · have hc:¬(i:Int)<((l.map eA).length:Int):=hc
   rw[ak] at hc;have eF:l.take i=l:=bN (by omega);show aP (PV.fn (Fn.func 286) [] (B2 l (foldM t k (l.take i)))) _;rw[eF];exact aP.refl _
def Zl:It:=⟨0,0,0,0,0,false,false⟩
def jN(M:Mp)(x:It):Bool:= !x.gone&&decide ((bn (ba x) M).getD Zl=x)
theorem Kx(l:List It)(M:Mp)(hl:l.length<1000000):Iter af 286 (B2 l M) ((l.filter (jN M)).map λy=>[eA y]):=by
 refine Iter.e Tryz.func286 35 [0,1,2,5,6,7,8,9,33] ?_;intro G hG si jM;refine cb ?_;refine bY.bq (α:={i:Nat // i<=l.length/\bF (jN M) l i<=G.stop}) mixed [0,1,2,5,6,7,8,9,33] (λi=>[(8,.p (eI i.1))]) (λ_=>[]) (λi=>bF (jN M) l i.1) (λi=>l.length-i.1) ⟨0,by omega,by simp[bF]⟩ ?_ ?_
 · exact aG trivial
 rintro⟨i,hi,hs⟩;have hi:i<=l.length:=hi;have hs:bF (jN M) l i<=G.stop:=hs;have BC:G.xs.length=(l.filter (jN M)).length:=by rw[jM];simp
 repeat' (first|exact fg|(refine stx ?_;first|exact bW _|refine aE ?_)|((fail_if_success refine ft ?_);(conv=>whnf)<;>(first|exact fh|refine jr.of (bj eA lV (ba x) M) (λz hz=>?_) (λhz=>?_)|refine str ?_|refine Br.dec (λhc=>?_) λhc=>?_|refine Br.mk (λhc=>?_) λhc=>?_|exact PV.ao|refine PV.ai ?_ ?_|refine ae ?_ ?_|refine aD λx hx=>?_|refine aE ?_|refine bX (λhn=>?_) ?_|exact fv|refine bS λaZ=>?_|refine al ?_ ?_|rw[Wf]|refine fu ?_|fail)))<;>(try exact fi)
 all_goals first
 |(have hc:¬(i:Int)<((l.map eA).length:Int):=hc
   rw[ak] at hc;have e:=mZ (jN M) (show l.length<=i by omega);show bF (jN M) l i=min (G.stop+1) ((l.filter (jN M)).map λy=>[eA y]).length
   rw[ak];omega)
 |(have hx:l[i]? =some x:=hx
   have aC:=(aq.1 hx).1
   first
   |(have hq:jN M x=false:=by
      first
      |(have h1:x.gone=true:=by assumption
        simp only[jN,h1,Bool.not_true,ji];done)
      |(have h1:decide (z=x)=false:=(Tt z x).symm.trans (by assumption)
        simp only[jN,hz,js,h1,jE])
      |(have h1:decide (Zl=x)=false:=(Tt Zl x).symm.trans (by assumption)
        simp only[jN,hz,Option.getD_none,h1,jE])
     have e:=mn (jN M) hx hq;refine⟨⟨i+1,aC,by show bF (jN M) l (i+1)<=G.stop;omega⟩,by show l.length-(i+1)<l.length-i;omega,?_⟩;refine aG ?_
     exact e)
   |(have hq:jN M x=true:=by
      first
      |(have h1:decide (z=x)=true:=(Tt z x).symm.trans (by assumption)
        have h2:x.gone=false:=by assumption
        simp only[jN,hz,js,h1,h2,Bool.not_false,Bool.and_self])
      |(have h1:decide (Zl=x)=true:=(Tt Zl x).symm.trans (by assumption)
        have h2:x.gone=false:=by assumption
        simp only[jN,hz,Option.getD_none,h1,h2,Bool.not_false,Bool.and_self])
     have h1:=(aq.1 (ew (jN M) hx hq)).1
     first
     |(show bF (jN M) l i<G.xs.length
       omega)
     |(show _=bZ AV.p (G.xs.getD (bF (jN M) l i) [])
       have e:G.xs.getD (bF (jN M) l i) []=[eA x]:=by
        rw[jM];simp[List.getD,ew (jN M) hx hq]
       rw[e];rfl)
     |(have hc:bF (jN M) l i≠G.stop:=hc
       have e:=mY (jN M) hx hq;refine⟨⟨i+1,aC,by show bF (jN M) l (i+1)<=G.stop;omega⟩,by show l.length-(i+1)<l.length-i;omega,?_⟩;refine aG ?_
       exact e)
     |(have hc:¬ bF (jN M) l i≠G.stop:=hc
       show bF (jN M) l i+1=min (G.stop+1) ((l.filter (jN M)).map λy=>[eA y]).length
       rw[ak];omega)))
def stL(t k:Int)(l:List It):List It:=l.filter (jN (foldM t k l))
theorem NS(n:Int)(l:List Int)(hl:l.length<1000000)(hs:l.Pairwise (λa b=>id a<id b)):
 aa af 273 [dm l,eI n] (.bR [eI (uL id n l),.bool (SD id n l)]):=by
 refine aa.e Tryz.func273 54 [.tmp 4,.tmp 5] Ls ?_;refine cb ?_;refine bY.bK (α:={x:Nat×Nat // (x.1<=x.2/\x.2<=l.length)/\(∀j w,j<x.1->l[j]? =some w->id w<n)/\(∀j w,x.2<=j->l[j]? =some w->n<=id w)}) mixed Ls (λx=>[(7,.p (eI x.1.1)),(8,.p (eI x.1.2))]) (λx=>x.1.2-x.1.1) ⟨(0,l.length),by simp,by intro j w h;exact absurd h (by simp),by intro j w h hw;exact absurd (aq.1 hw).1 (by simp at h;omega)⟩ ?_ ?_
 · exact aG trivial
 rintro⟨⟨a,b⟩,h1,h2,h3⟩;have h1:a<=b/\b<=l.length:=h1;have h2:∀j w,j<a->l[j]? =some w->id w<n:=h2;have h3:∀j w,b<=j->l[j]? =some w->n<=id w:=h3;refine gG tQ pJ (ae (λhc=>ae (ae ?_ ?_) λx hx=>ae (λhc=>ae (ae ?_ ?_) ?_) λhc=>?_) λhc=>ae (λhc x hx=>ae (λhc=>?_) λhc x hx=>?_) λhc=>?_)
 · show 0<=br.wrap ((eH.wrap ((a:Int)+b)).fdiv (2 ^ min (gd 1) eH.bits))
   rw[pq a b (by omega)];omega
 · show br.wrap ((eH.wrap ((a:Int)+b)).fdiv (2 ^ min (gd 1) eH.bits))<((l.map eI).length:Int)
   have hc:(a:Int)<(b:Int):=hc;rw[pq a b (by omega),ak];omega
 · show -9223372036854775808<=br.wrap ((eH.wrap ((a:Int)+b)).fdiv (2 ^ min (gd 1) eH.bits))+1
   rw[pq a b (by omega)];omega
 · show br.wrap ((eH.wrap ((a:Int)+b)).fdiv (2 ^ min (gd 1) eH.bits))+1<=9223372036854775807
   rw[pq a b (by omega)];omega
 · rename_i c1
   have c1:(a:Int)<(b:Int):=c1;have hx:l[(br.wrap ((eH.wrap ((a:Int)+b)).fdiv (2 ^ min (gd 1) eH.bits))).toNat]? =some x:=hx;rw[pq a b (by omega),dv] at hx;refine⟨⟨((a+b) / 2+1,b),by show(a+b) / 2+1<=b/\b<=l.length;omega,λj w hj hw=>?_,h3⟩,by show b-((a+b) / 2+1)<b-a;omega,?_⟩
   · have hj:j<(a+b) / 2+1:=hj
     have:w<=x:=Ek id hs (show j<=(a+b) / 2 by omega) hw hx;show w<n;omega
   · refine aG ?_
     exact congrArg (PV.int .i64) (show br.wrap ((eH.wrap ((a:Int)+b)).fdiv (2 ^ min (gd 1) eH.bits))+1=(((a+b) / 2+1:Nat):Int) by rw[pq a b (by omega)];omega)
 · rename_i c1
   have c1:(a:Int)<(b:Int):=c1;have hx:l[(br.wrap ((eH.wrap ((a:Int)+b)).fdiv (2 ^ min (gd 1) eH.bits))).toNat]? =some x:=hx;rw[pq a b (by omega),dv] at hx;refine⟨⟨(a,(a+b) / 2),by show a<=(a+b) / 2/\(a+b) / 2<=l.length;omega,h2,λj w hj hw=>?_⟩,by show(a+b) / 2-a<b-a;omega,?_⟩
   · have hj:(a+b) / 2<=j:=hj
     have:x<=w:=Ek id hs hj hx hw;show n<=w;omega
   · refine aG ?_
     exact congrArg (PV.int .i64) (show br.wrap ((eH.wrap ((a:Int)+b)).fdiv (2 ^ min (gd 1) eH.bits))=(((a+b) / 2:Nat):Int) by rw[pq a b (by omega)])
 all_goals
  (have T7:¬(a:Int)<(b:Int):=by assumption);have hp:uL id n l=a:=yb id l n a (by omega) h2 (λy hy=>h3 a y (by omega) hy);unfold SD;rw[hp]
  first
  |(have hx:l[a]? =some x:=hx
    have e:x=n:=hc;rw[hx];show aP _ (PV.bR [eI (a:Int),.bool (decide (x=n))])
    rw[decide_eq_true e];exact aP.refl _)
  |(have hx:l[a]? =some x:=hx
    rename_i z hz _;have hz:l[a]? =some z:=hz;have e:¬ z=n:=hc;rw[hz];show aP _ (PV.bR [eI (a:Int),.bool (decide (z=n))])
    rw[decide_eq_false e];exact aP.refl _)
  |(have hc:¬(a:Int)<((l.map eI).length:Int):=hc
    rw[ak] at hc
    rw[List.getElem?_eq_none (by omega)];exact aP.refl _)
  |trace_state
theorem Kz(l:List Int)(hl:l.length<1000000):aa af 274 [dm l] (.sl 1 true (l.map eI)):=by
 refine aa.e Tryz.func274 9 [.tmp 2] [0,2] ?_;refine cb ?_;rw[show eo (gd 0) (et (((l.map eI).length:Int)).toNat (l.map eI))=l.map eI by rw[show gd 0=0 from rfl,da,dv,List.take_length]];exact aP.refl _
def Dx(P:List Int):Bool:=aA (fS 1048577) id (-1) P
def kh(jw:Int)(P:List Int)(t k:Int):Bool:=Dx P&&decide (P.length<=16)&&fS 64 jw&&fS TM t&&fS TM k
def vf(l:List It)(jw:Int)(P:List Int)(t k:Int):Int:=if aJ l=0 then(if kh jw P t k then 0 else 1) else aJ l
theorem KA(l:List It)(jw:Int)(P:List Int)(t k:Int)(hl:l.length<1000000)(hP:P.length<1000000):aa af 270 [eL l,eI jw,dm P,eI t,eI k] (eI (vf l jw P t k)):=by
 have q1:=bm l hl;unfold vf;by_cases hz:aJ l=0
 · rw[hz] at q1
   rw[if_pos hz];refine aa.e Tryz.func270 53 [.tmp 10] PW ?_;refine bM q1 ?_;refine bY.bK (α:={i:Nat // i<=P.length/\aA (fS 1048577) id (ax id P i) (P.drop i)=Dx P/\ -1<=ax id P i}) mixed PW (λi=>[(12,.p (eI (ax id P i.1))),(22,.p (eI i.1))]) (λi=>P.length-i.1) ⟨0,by omega,rfl,by show(-1:Int)<= -1;decide⟩ ?_ ?_
   · exact aG trivial
   rintro⟨i,hi,hq,iS⟩;have hi:i<=P.length:=hi;have hq:aA (fS 1048577) id (ax id P i) (P.drop i)=Dx P:=hq;have iS: -1<=ax id P i:=iS;refine bM aB (ae (λhc x hx=>ae (λhc=>?_) λhc=>ae (λhc=>?_) λhc=>?_) λhc=>ae (λhc=>ae (λhc=>?_) λhc=>ae (λhc=>ae (λhc=>?_) λhc=>?_) λhc=>?_) λhc=>?_)
   · have hx:P[i]? =some x:=hx
     have hc:x<=ax id P i:=hc;have e:Dx P=false:=bC (fS 1048577) id hx hq (by rw[decide_eq_false (show ¬ ax id P i<id x by show ¬ ax id P i<x;omega),jE]);rw[if_neg (by unfold kh;rw[e];simp)];exact aP.refl _
   · have hx:P[i]? =some x:=hx
     have e:Dx P=false:=bC (fS 1048577) id hx hq (by rw[show fS 1048577 x=false by unfold fS;rw[decide_eq_false (show ¬ x<1048577 by omega),jE],ji]);rw[if_neg (by unfold kh;rw[e];simp)];exact aP.refl _
   · rename_i wG
     have wG:¬ x<=ax id P i:=wG;have hx:P[i]? =some x:=hx;have aC:=(aq.1 hx).1;have hs:ax id P (i+1)=x:=bk id hx;refine⟨⟨i+1,aC,bU (fS 1048577) id hx hq (by rw[show fS 1048577 x=true by unfold fS;rw[decide_eq_true (show 0<=x by omega),decide_eq_true (show x<1048577 by omega)];rfl,decide_eq_true (show ax id P i<id x by show ax id P i<x;omega)];rfl),by rw[hs];omega⟩,by show P.length-(i+1)<P.length-i;omega,?_⟩;exact aG trivial
     all_goals(rw[hs])
   all_goals
    (have UL:¬(i:Int)<((P.map eI).length:Int):=by assumption);rw[ak] at UL;have e:Dx P=true:=cR (fS 1048577) id hq (by omega);by_cases h16:P.length<=16
    · first
      |(exfalso;simp only[ak] at *;omega)
      |(rw[if_pos (show kh jw P t k=true by simp[kh,e,h16, *])];exact aP.refl _)
      |(rw[if_neg (show ¬ kh jw P t k=true by simp[kh,e,h16, *])];exact aP.refl _)
      |trace_state
    · first
      |(exfalso;simp only[ak] at *;omega)
      |(rw[if_neg (show ¬ kh jw P t k=true by simp[kh,e,h16])];exact aP.refl _)
      |trace_state
 · rw[if_neg hz]
   refine aa.e Tryz.func270 53 [.tmp 10] PW ?_;exact bM q1 trivial
theorem QH{l:List It}{jw:Int}{P:List Int}{t k:Int}(h:vf l jw P t k=0):aJ l=0/\kh jw P t k=true:=by
 unfold vf at h;by_cases hz:aJ l=0
 · rw[if_pos hz] at h
   cases hb:kh jw P t k with
   |true=>exact⟨hz,rfl⟩
   |false=>rw[hb] at h;exact absurd h (by decide)
 · rw[if_neg hz] at h;exact absurd h hz
theorem Tu{jw:Int}{P:List Int}{t k:Int}(h:kh jw P t k=true):Dx P=true/\P.length<=16:=by
 unfold kh at h;simp only[aQ,decide_eq_true_eq] at h;exact⟨h.1.1.1.1,h.1.1.1.2⟩
theorem yh{P:List Int}(h:Dx P=true):P.Pairwise (λa b=>id a<id b):=((gv _ _ _ _).1 h).2
structure Wy where
 path:List Int
 to:Int
def eW(w:Wy):PV:= .agg [dm w.path,eI w.to]
abbrev fT:KT:=([.int .i64],false)
theorem iM:nM eI where
 eq:=λa b=>by
  show(decide (a=b)&&true)=_;simp
abbrev Met:=List (Int×Bool)
def iC(ways:List Wy):Met:=ways.map λw=>(w.to,true)
def vg(ways:List Wy)(n:Int):Bool:=ways.any λv=>decide (v.to=n)
def ql(ways:List Wy)(w:Wy):List Wy:=if vg ways w.to then ways else ways++[w]
theorem NT(v:Wy)(r:List Wy)(n:Int):vg (v::r) n=(decide (v.to=n)||vg r n):=rfl
theorem rT(n:Int):∀ways:List Wy,bn n (iC ways)=if vg ways n=true then some true else none
 |[]=>rfl
 |v::r=>by
  have ih:=rT n r;(have e:bn n (iC (v::r))=if n=v.to then some true else bn n (iC r):=rfl);rw[e,NT];by_cases h:n=v.to
  · subst h;simp
  · rw[if_neg h,ih,decide_eq_false (λe=>h e.symm),Bool.false_or]
theorem Ic(w:Wy):∀ways:List Wy,vg ways w.to=false->dQ w.to true (iC ways)=iC (ways++[w])
 |[],_=>rfl
 |v::r,h=>by
  simp only[vg,List.any_cons,Bool.or_eq_false_iff,decide_eq_false_iff_not] at h;have ih:=Ic w r h.2;simp only[iC,List.map_cons,List.cons_append,dQ] at ih ⊢;rw[if_neg (λe=>h.1 e.symm),ih]
theorem KB(ways:List Wy)(k cap:Nat)(w:Wy)(hk:k<=ways.length)(hl:ways.length<1000000)(hw:w.path.length<1000000)(gX:vg ways w.to=false->ways.length<cap+k):
 aM af 271 5 [(0,.cells [.mp 1]),(1,.map fT (eM eI PV.bool (iC ways))),(2,.cells [.ch 3]),(3,.chan cap ((ways.drop k).map eW)),(4,.row 1 (w.path.map eI))]
  [.agg [.bo 4 1 0 w.path.length,.p (eI w.to)],.ptr 0 0,.ptr 2 0] (.bR [])
  [(0,.cells [.mp 1]),(1,.map fT (eM eI PV.bool (iC (ql ways w)))),(2,.cells [.ch 3]),(3,.chan cap (((ql ways w).drop k).map eW)),(4,.dead)]:=by
 have hg:=rT w.to ways
 cases hm:vg ways w.to with
 |true=>
  (have hp:ql ways w=ways:=by unfold ql;rw[hm];rfl);rw[hp];rw[hm,if_pos rfl] at hg;refine aM.e Tryz.func271 14 [] [0,1,2,3,8] ?_;refine bM (kO (bj PV.bool iM w.to (iC ways))) (ae (λz hz=>ae (λhc=>?_) λhc=>ae ?_ ?_) λhz=>ae ?_ ?_)
  all_goals(rw[hg] at hz)
  · exact nr [] [(0,0),(1,1),(2,2),(3,3),(4,4)] trivial
  all_goals first
  |(injection hz with hz;subst hz;cases hc;done)
  |(cases hz;done)
  |trace_state
 |false=>
  (have hp:ql ways w=ways++[w]:=by unfold ql;rw[hm];rfl);rw[hm,if_neg Bool.false_ne_true] at hg;have gX:=gX hm;refine aM.e Tryz.func271 14 [] [0,1,2,3,8] ?_;refine bM (kO (bj PV.bool iM w.to (iC ways))) (ae (λz hz=>ae (λhc=>?_) λhc=>?_) λhz=>?_)
  all_goals(rw[hg] at hz)
  all_goals first
  |(cases hz;done)
  |(rw[ak,List.length_drop];omega)
  |skip
  refine nr [] [(0,0),(1,1),(2,2),(3,3),(4,4)] (ae ?_ ?_)
  · exact(cU PV.bool iM w.to true (iC ways)).trans (by rw[Ic w ways hm,hp])
  · rw[hp,List.drop_append_of_le_length hk,iq]
    refine congrArg (λx=>bZ eW (eo k ways)++[x]) ?_;show PV.agg [PV.sl 1 false (et w.path.length (eo 0 (w.path.map eI))),eI w.to]=PV.agg [PV.sl 1 false (w.path.map eI),eI w.to];rw[da,bN (by simp)]
theorem xx(ways:List Wy)(k cap:Nat)(w:Wy)(r:List PV)(n:Nat)(hr:r=w.path.map eI)(hn:n=w.path.length)(hk:k<=ways.length)(hl:ways.length<1000000)(hw:w.path.length<1000000)(gX:vg ways w.to=false->ways.length<cap+k):
 aM af 271 5 [(0,.cells [.mp 1]),(1,.map fT (eM eI PV.bool (iC ways))),(2,.cells [.ch 3]),(3,.chan cap ((ways.drop k).map eW)),(4,.row 1 r)]
  [.agg [.bo 4 1 0 n,.p (eI w.to)],.ptr 0 0,.ptr 2 0] (.bR [])
  [(0,.cells [.mp 1]),(1,.map fT (eM eI PV.bool (iC (ql ways w)))),(2,.cells [.ch 3]),(3,.chan cap (((ql ways w).drop k).map eW)),(4,.dead)]:=by
 subst hr;subst hn;exact KB ways k cap w hk hl hw gX
theorem L5:∀{a b:List Int},a.Nodup->(∀x∈a,x∈b)->a.length<=b.length
 |[],_,_,_=>Nat.zero_le _
 |x::r,b,hn,hs=>by
  simp only[List.nodup_cons] at hn;have hx:=hs x (by simp);have h1:=L5 (a:=r) (b:=b.erase x) hn.2 (λy hy=>(List.mem_erase_of_ne (λe=>hn.1 (by subst e;exact hy))).2 (hs y (by simp[hy])));have h2:=List.length_erase_of_mem hx;have h3:=List.length_pos_of_mem hx;simp only[List.length_cons];omega
structure Dy(S:List It)(ways:List Wy):Prop where
 nd:(ways.map Wy.to).Nodup
 mem:∀w∈ways,w.to∈S.map It.gW/\w.path.length<=8
theorem Dy.nil(S:List It):Dy S []:=⟨List.nodup_nil,λ_ h=>by cases h⟩
theorem Dy.len{S:List It}{ways:List Wy}(h:Dy S ways):ways.length<=S.length:=by
 have:=L5 h.nd (b:=S.map It.gW) (λx hx=>by
  obtain⟨w,hw,rfl⟩:=aY.1 hx
  exact(h.mem w hw).1)
 simpa using this
theorem QI{ways:List Wy}{n:Int}:vg ways n=false↔n∉ways.map Wy.to:=by
 unfold vg;rw[List.any_eq_false];constructor
 · intro h hn
   obtain⟨w,hw,e⟩:=aY.1 hn;exact h w hw (decide_eq_true e)
 · intro h w hw e
   exact h (aY.2 ⟨w,hw,of_decide_eq_true e⟩)
theorem Dy.app{S:List It}{ways:List Wy}(h:Dy S ways){w:Wy}(hn:vg ways w.to=false)(hp:w.to∈S.map It.gW)(hl:w.path.length<=8):Dy S (ways++[w]):=by
 refine⟨?_,λv hv=>?_⟩
 · rw[iq,List.nodup_append]
   refine⟨h.nd,by simp,λa ha b hb=>?_⟩;simp at hb;subst hb;exact λe=>QI.1 hn (e▸ha)
 · rcases List.mem_append.1 hv with hv|hv
   · exact h.mem v hv
   · simp at hv;subst hv;exact⟨hp,hl⟩
theorem Dy.put{S:List It}{ways:List Wy}(h:Dy S ways){w:Wy}(hp:w.to∈S.map It.gW)(hl:w.path.length<=8):Dy S (ql ways w):=by
 unfold ql
 cases hn:vg ways w.to with
 |true=>exact h
 |false=>exact h.app hn hp hl
theorem Dy.room{S:List It}{ways:List Wy}(h:Dy S ways){w:Wy}(hn:vg ways w.to=false)(hp:w.to∈S.map It.gW):ways.length<S.length:=by
 have:=(h.app (w:=⟨[],w.to⟩) hn hp (by simp)).len;simp at this;omega
theorem QJ(ways:List Wy)(w:Wy):∃z,ql ways w=ways++z:=by
 unfold ql;split
 · exact⟨[],by simp⟩
 · exact⟨[w],rfl⟩
def sB(jw:Int)(ws:List Wy)(x:It):List Wy:=if !x.Iy&&decide (x.fy=jw) then ql ws ⟨[x.no],x.gW⟩ else ws
def pM(jw:Int)(S:List It):List Wy:=S.foldl (sB jw) []
theorem sC{jw:Int}{S:List It}{i:Nat}{x:It}(h:S[i]? =some x):pM jw (S.take (i+1))=sB jw (pM jw (S.take i)) x:=by
 unfold pM;rw[bz,h];simp[fG]
theorem QK{S:List It}(jw:Int):∀i,Dy S (pM jw (S.take i)):=by
 intro i
 induction i with
 |zero=>exact Dy.nil S
 |succ i ih=>
  cases hx:S[i]? with
  |none=>rw[bz,hx];simpa using ih
  |some x=>
   rw[sC hx];unfold sB;split
   · exact ih.put (aY.2 ⟨x,aO hx,rfl⟩) (by simp)
   · exact ih
abbrev Wg:=List (Int×List It)
def QL(m:Wg)(x:It):Wg:=if x.Iy then dQ x.fy ((bn x.fy m).getD []++[x]) m else m
def KC(S:List It):Wg:=S.foldl QL []
theorem AQ{S:List It}{i:Nat}{x:It}(h:S[i]? =some x):KC (S.take (i+1))=QL (KC (S.take i)) x:=by
 unfold KC;rw[bz,h];simp[fG]
def oc(S:List It)(p:Int):List It:=S.filter λx=>x.Iy&&decide (x.fy=p)
theorem E1(S:List It)(p:Int):∀i,(bn p (KC (S.take i))).getD []=oc (S.take i) p:=by
 intro i
 induction i with
 |zero=>rfl
 |succ i ih=>
  cases hx:S[i]? with
  |none=>rw[bz,hx];simpa using ih
  |some x=>
   rw[AQ hx];unfold oc at ih ⊢;rw[iy _ hx];unfold QL
   cases ho:x.Iy with
   |false=>simpa using ih
   |true=>
    simp only[if_true,Bool.true_and];rw[dj];by_cases hp:p=x.fy
    · subst hp
      rw[if_pos rfl,decide_eq_true rfl,if_pos rfl];rw[js,ih]
    · rw[if_neg hp,ih,decide_eq_false (λe=>hp e.symm)];simp
theorem Tv{S:List It}{p:Int}{x:It}(h:x∈oc S p):x∈S:=(List.mem_filter.1 h).1
def lK(w:Wy)(L:List It)(ways:List Wy):List Wy:=L.foldl (λws x=>ql ws ⟨w.path++[x.no],x.gW⟩) ways
theorem sD{w:Wy}{L:List It}{ways:List Wy}{i:Nat}{x:It}(h:L[i]? =some x):lK w (L.take (i+1)) ways=ql (lK w (L.take i) ways) ⟨w.path++[x.no],x.gW⟩:=by
 unfold lK;rw[bz,h];simp[fG]
theorem Wh{S L:List It}{w:Wy}{ways:List Wy}(h:Dy S ways)(hL:∀x∈L,x∈S)(hw:w.path.length<=7):∀i,Dy S (lK w (L.take i) ways):=by
 intro i
 induction i with
 |zero=>exact h
 |succ i ih=>
  cases hx:L[i]? with
  |none=>rw[bz,hx];simpa using ih
  |some x=>
   rw[sD hx];exact ih.put (aY.2 ⟨x,hL x (aO hx),rfl⟩) (by simp;omega)
theorem Tw{L:List It}{w:Wy}{ways:List Wy}:∀i,∃z,lK w (L.take i) ways=ways++z:=by
 intro i
 induction i with
 |zero=>exact⟨[],by simp[lK]⟩
 |succ i ih=>
  cases hx:L[i]? with
  |none=>rw[bz,hx];simpa using ih
  |some x=>
   rw[sD hx];obtain⟨z,hz⟩:=ih;rw[hz];obtain⟨y,hy⟩:=QJ (ways++z) ⟨w.path++[x.no],x.gW⟩;rw[hy];exact⟨z++y,by simp⟩
def AR(P:List Int)(S:List It):Nat->List Wy->Nat->List Int×Bool
 |0,_,_=>([],false)
 |n+1,ways,k=>match ways[k]? with
  |none=>([],false)
  |some w=>if hasB P w.to then(w.path,true) else if w.path.length=8 then AR P S n ways (k+1) else AR P S n (lK w (oc S w.to) ways) (k+1)
def Ie(S:List It)(P:List Int)(jw:Int):List Int×Bool:=AR P S (S.length+1) (pM jw S) 0
def NU(l:List It)(jw:Int)(P:List Int)(t k:Int):List Int×Bool×Int:=if vf l jw P t k=0 then((Ie (stL t k l) P jw).1,(Ie (stL t k l) P jw).2,0) else([],false,vf l jw P t k)
abbrev eC(x:List Int×Bool×Int):PV:= .bR [dm x.1,.bool x.2.1,eI x.2.2]
theorem NV{P:List Int}{S:List It}{n:Nat}{ways:List Wy}{k:Nat}(h:ways[k]? =none):AR P S (n+1) ways k=([],false):=by simp only[AR,h]
theorem NW{P:List Int}{S:List It}{n:Nat}{ways:List Wy}{k:Nat}{w:Wy}(h:ways[k]? =some w):AR P S (n+1) ways k=if hasB P w.to then(w.path,true) else if w.path.length=8 then AR P S n ways (k+1) else AR P S n (lK w (oc S w.to) ways) (k+1):=by simp only[AR,h]
theorem NY{P:List Int}{n:Int}(h:P.Pairwise (λa b=>id a<id b)):SD id n P=hasB P n:=by
 unfold SD;rw[Bool.eq_iff_iff];have hle:=SE id n P;constructor
 · intro hh
   cases hx:P[uL id n P]? with
   |none=>rw[hx] at hh;cases hh
   |some y=>rw[hx] at hh;exact QC hx (of_decide_eq_true hh)
 · intro hh
   obtain⟨x,hx,e⟩:=kS.1 hh;have e:x=n:=of_decide_eq_true e;obtain⟨j,hj⟩:=List.getElem?_of_mem hx
   have hp:uL id n P=j:=yb id P n j (by have:=(aq.1 hj).1;omega) (λi w hi hw=>by
    rw[List.pairwise_iff_getElem] at h;have gx:=h i j (by have:=(aq.1 hw).1;exact this) (by have:=(aq.1 hj).1;exact this) hi;rw[(aq.1 hw).2,(aq.1 hj).2] at gx
    exact e▸gx) (λy hy=>by rw[hj] at hy;injection hy with hy;subst hy;show n<=x;omega)
   rw[hp,hj];exact decide_eq_true e
end ng
end Go.Proofs.YtmaiccmhkmndcaaGreatDoor
