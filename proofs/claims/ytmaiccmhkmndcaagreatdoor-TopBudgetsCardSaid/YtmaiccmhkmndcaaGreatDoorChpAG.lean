/- A part of the proof: contracts of the functions that the statement reaches. -/
import Derived.Test.YtmaiccmhkmndcaaGreatDoorEngC
import Derived.Test.YtmaiccmhkmndcaaGreatDoorChpAA
import Derived.Test.YtmaiccmhkmndcaaGreatDoorProg
set_option linter.unusedSimpArgs false
set_option linter.unusedVariables false
set_option linter.unnecessarySimpa false
set_option maxRecDepth 100000
set_option maxHeartbeats 40000000
open And renaming intro->ae
open Bool renaming true_and->dZ,and_eq_true->aQ
open Go renaming FuncId->bf
open Go.Proofs.Tryz renaming prog->af
open Int renaming toNat_natCast->dv
open List renaming getElem?_eq_some_iff->aq,length_map->ak,getD->cF,take_add_one->bz,take_length->eG,length_filter_le->iB,getElem?_eq_getElem->aV,length_take->dy,mem_of_getElem?->aO,drop_zero->da,take_of_length_le->bN,length_append->fk,length_set->nX,mem_filter->dN
open Nat renaming zero_add->gQ
namespace Go.Proofs.YtmaiccmhkmndcaaGreatDoor
open Go Go.Sg
namespace od
structure Ap where
 no:Int
 tm:Int
 known:Int
 doc:Int
 J4:Int
 for_:Int
 off:Int
 gone:Bool
 deriving DecidableEq
def eI(i:Int):PV:= .int .i64 i
def dm(l:List Int):PV:= .sl 1 false (l.map eI)
def eA(x:Ap):PV:= .agg [eI x.no,eI x.tm,eI x.known,eI x.doc,eI x.J4,eI x.for_,eI x.off,.bool x.gone]
def eL(l:List Ap):PV:= .sl 8 false (l.map eA)
theorem mixed:af.follows .mixedOrders=true:=by kernel_rfl
def tP(m n:Int):Bool:=decide (n<0)||decide (m<n)
theorem Aw(m n:Int):aa af 172 [eI n,.ro [eI m]] (.bool (tP m n)):=by
 refine aa.e Tryz.func172 11 [.tmp 3] [0,1,3] ?_;refine cb (ae (λhc=>?_) λhc=>?_)
 all_goals((try simp only[tP, *]);exact fin)
theorem rQ(f:bf)(cs:List PV)(q:Int->Bool)(h:∀w,aa af f (eI w::cs) (.bool (q w)))(hf:enters af f=true)(l:List (Int))(hl:l.length<1000000):
 aa af 149 [dm l,.fn (.func f) [] cs] (eI (zN q l)):=by
 refine aa.e Tryz.func149 19 [.tmp 4] nO ?_;refine cb ?_;refine bY.bK (α:={i:Nat // i<=l.length/\ ∀j w,j<i->l[j]? =some w->q w=false}) mixed nO (λi=>[(8,.p (eI i.1))]) (λi=>l.length-i.1) ⟨0,by omega,by intro j w h;omega⟩ ?_ ?_
 · exact aG trivial
 rintro⟨i,hi,hq⟩;have hi:i<=l.length:=hi;have hq:∀j w,j<i->l[j]? =some w->q w=false:=hq;refine bM (kH h hf) (ae (λhc x hx=>ae (λhc=>?_) λhc=>?_) λhc=>?_)
 · have hx:l[i]? =some x:=hx
   rw[gF hx hc hq];exact aP.refl _
 · have hx:l[i]? =some x:=hx
   have:=(aq.1 hx).1;refine⟨⟨i+1,by omega,nU hq hx hc⟩,by show l.length-(i+1)<l.length-i;omega,?_⟩;exact aG trivial
 · have hc:¬(i:Int)<((l.map eI).length:Int):=hc
   rw[ak] at hc;rw[j9 (q:=q) (l:=l) λj w hj hw=>hq j w (by omega) hw];exact aP.refl _
theorem pI(f:bf)(cs:List PV)(q:Int->Bool)(h:∀w,aa af f (eI w::cs) (.bool (q w)))(hf:enters af f=true)(l:List (Int))(hl:l.length<1000000):
 aa af 91 [dm l,.fn (.func f) [] cs] (.bool (l.any q)):=by
 rw[<-uM];refine aa.e Tryz.func91 9 [.tmp 4] [0,1,4] ?_;exact bM (rQ f cs q h hf _ hl) trivial
def bh(lo hi n:Int):Bool:=decide (lo<=n)&&decide (n<=hi)
theorem EL(m n:Int):tP m n= !bh 0 m n:=by
 unfold tP bh;rw[Bool.not_and,<-decide_not,<-decide_not];congr 1<;>(apply decide_eq_decide.2;omega)
def jJ(m:Int)(l:List Int):Bool:=l.all (bh 0 m)
theorem aB(m:Int)(l:List Int)(hl:l.length<1000000):aa af 117 [eI m,dm l] (.bool (jJ m l)):=by
 have e:jJ m l= !l.any (tP m):=by
  unfold jJ;rw[List.not_any_eq_all_not];congr 1;funext n;rw[EL];simp
 rw[e];refine aa.e Tryz.func117 9 [.tmp 4] [0,1,2,4] ?_;exact bM (kZ (pI 172 [.ro [eI m]] (tP m) (Aw _) (by kernel_rfl) l hl)) trivial
 all_goals exact Ha trivial
theorem w1(m a:Int):aa af 117 [eI m,dm [a]] (.bool (bh 0 m a)):=by
 have:=aB m [a] (by simp);simpa[jJ] using this
theorem w2(m a b:Int):aa af 117 [eI m,dm [a,b]] (.bool (bh 0 m a&&bh 0 m b)):=by
 have:=aB m [a,b] (by simp);simpa[jJ] using this
theorem w4(m a b c d:Int):aa af 117 [eI m,dm [a,b,c,d]] (.bool (bh 0 m a&&(bh 0 m b&&(bh 0 m c&&bh 0 m d)))):=by
 have:=aB m [a,b,c,d] (by simp);simpa[jJ] using this
def ag(x:Ap):Bool:=bh 0 1048576 x.no&&(bh 0 1099511627775 x.tm&&bh 0 1099511627775 x.known)&&bh 0 4095 x.doc&&(bh 0 63 x.J4&&bh 0 63 x.for_)&&bh 0 31 x.off
theorem cV(x:Ap):aa af 62 [eA x] (.bool (ag x)):=by
 refine aa.e Tryz.func62 35 [.tmp 2] [0,1,2] ?_;refine Rh (kZ (w1 1048576 x.no)) (kZ (w2 1099511627775 x.tm x.known)) (kZ (w1 4095 x.doc)) (kZ (w2 63 x.J4 x.for_)) (kZ (w1 31 x.off)) (ae (λhc=>ae (λhc=>ae (λhc=>ae (λhc=>?_) λhc=>?_) λhc=>?_) λhc=>?_) λhc=>?_)
 all_goals((try simp only[ag, *]);exact fin)
theorem dY(n m:Int):aa af 134 [eI n,eI m] (.bool (bh 0 m n)):=by
 refine aa.e Tryz.func134 12 [.tmp 4] [0,1,4] ?_;refine cb (ae (λhc=>?_) λhc=>?_)
 all_goals((try simp only[bh, *]);exact fin)
theorem J5(n:Int):aa af 136 [eI n] (.bool (bh 0 4095 n)):=by
 refine aa.e Tryz.func136 5 [.tmp 2] [0,2] ?_;exact bM dY trivial
theorem eb(n:Int):aa af 135 [eI n] (.bool (bh 0 1099511627775 n)):=by
 refine aa.e Tryz.func135 5 [.tmp 2] [0,2] ?_;exact bM dY trivial
theorem dG(x:Ap):aa af 72 [eA x] (.bool (ag x)):=by
 refine aa.e Tryz.func72 38 [.tmp 2] [0,1,2,24] ?_;refine gg dY J5 eb (ae (λhc=>ae (λhc=>ae (λhc=>ae (λhc=>ae (λhc=>ae (λhc=>?_) λhc=>?_) λhc=>?_) λhc=>?_) λhc=>?_) λhc=>?_) λhc=>?_)
 all_goals((try simp only[ag, *]);exact fin)
def ee(t k:Int)(x:Ap):Bool:=decide (x.tm<=t)&&decide (x.known<=k)
abbrev Ky:=Int×Int×Int×Int
def ba(x:Ap):Ky:=(x.doc,x.J4,x.for_,x.off)
def J6(x y:Ap):Bool:=decide (y.tm<x.tm)||decide (x.tm=y.tm)&&decide (y.no<x.no)
theorem rR(x y:Ap):J6 x y=true↔after Ap.no Ap.tm x y:=by
 unfold J6 after;simp
def eK(k:Ky):PV:= .agg [eI k.1,eI k.2.1,eI k.2.2.1,eI k.2.2.2]
theorem tU(x:Ap):aa af 265 [eA x] (eK (ba x)):=by
 refine aa.e Tryz.func265 12 [.cell 2 328] [0,1,2] ?_;exact cb trivial
 all_goals(exact fin)
def aJ(l:List Ap):Int:=tJ ag Ap.no 4096 280 l
theorem eJ{x:Ap}(h:ag x=true):0<=x.no:=by
 simp[ag,bh] at h;omega
theorem bm(l:List Ap)(hl:l.length<1000000):aa af 19 [eL l] (eI (aJ l)):=by
 refine aa.e Tryz.func19 27 [.tmp 2] [0,2,3,5,8,9,10,11,12,23] ?_;refine cb (ae (λhc=>?_) λhc=>?_)
 · rw[show aJ l=2 from iw ag Ap.no (by simpa using hc)];exact aP.refl _
 have iP:¬(4096:Int)<(l.length:Int):=by
  have h:¬(4096:Int)<((l.map eA).length:Int):=by assumption
  rwa[ak] at h
 refine bY.bK (α:={i:Nat // i<=l.length/\aA ag Ap.no (ax Ap.no l i) (l.drop i)=aA ag Ap.no (-1) l}) mixed [0,2,3,5,8,9,10,11,12,23] (λi=>[(3,.p (eI (ax Ap.no l i.1))),(11,.p (eI i.1))]) (λi=>l.length-i.1) ⟨0,by omega,rfl⟩ ?_ ?_
 · exact aG trivial
 rintro⟨i,hi,hq⟩;have hi:i<=l.length:=hi;have hq:aA ag Ap.no (ax Ap.no l i) (l.drop i)=aA ag Ap.no (-1) l:=hq;refine bM cV (ae (λhc x hx=>ae (λhc=>ae (λhc=>?_) λhc=>?_) λhc=>?_) λhc=>?_)
 · rename_i h1
   have hx:l[i]? =some x:=hx;have hc:Ap.no x<=ax Ap.no l i:=hc;rw[show aJ l=280 from cT ag Ap.no iP (bC ag Ap.no hx hq (by rw[h1,decide_eq_false (by omega)];rfl))];exact aP.refl _
 · rename_i h1
   have hx:l[i]? =some x:=hx;have hc:¬ Ap.no x<=ax Ap.no l i:=hc;have aC:=(aq.1 hx).1;refine⟨⟨i+1,aC,bU ag Ap.no hx hq (by rw[h1,decide_eq_true (by omega)];rfl)⟩,by show l.length-(i+1)<l.length-i;omega,?_⟩;refine aG ?_
   all_goals(rw[bk Ap.no hx])
 · have hx:l[i]? =some x:=hx
   rw[show aJ l=280 from cT ag Ap.no iP (bC ag Ap.no hx hq (by rw[hc];rfl))];exact aP.refl _
 · have hc:¬(i:Int)<((l.map eA).length:Int):=hc
   rw[ak] at hc;rw[show aJ l=0 from iK ag Ap.no iP (cR ag Ap.no hq (by omega))];exact aP.refl _
theorem dH(l:List Ap)(hl:l.length<1000000):aa af 27 [eL l] (eI (aJ l)):=by
 refine aa.e Tryz.func27 37 [.tmp 2] [0,2,3,6,10,36] ?_;refine cb (ae (λhc=>?_) λhc=>?_)
 · rw[show aJ l=2 from iw ag Ap.no (by simpa using hc)];exact aP.refl _
 have iP:¬(4096:Int)<(l.length:Int):=by
  have h:¬(4096:Int)<((l.map eA).length:Int):=by assumption
  rwa[ak] at h
 refine bY.bK (α:={i:Nat // i<=l.length/\aA ag Ap.no (ax Ap.no l i) (l.drop i)=aA ag Ap.no (-1) l}) mixed [0,2,3,6,10,36] (λi=>[(3,.p (eI i.1))]) (λi=>l.length-i.1) ⟨0,by omega,rfl⟩ ?_ ?_
 · exact aG trivial
 rintro⟨i,hi,hq⟩;have hi:i<=l.length:=hi;have hq:aA ag Ap.no (ax Ap.no l i) (l.drop i)=aA ag Ap.no (-1) l:=hq;refine bM dG (ae (λhc x hx=>ae (λhc=>ae (λhc x hx x hx=>ae (λhc=>?_) λhc=>?_) λhc=>?_) λhc=>?_) λhc=>?_)
 · rename_i y h1 h2 z hz
   have h2:(0:Int)<(i:Int):=h2;have hx:l[i]? =some x:=hx;have hz:l[((i:Int)-1).toNat]? =some z:=hz;rw[show((i:Int)-1).toNat=i-1 by omega] at hz;(have gy:ax Ap.no l i=Ap.no z:=by obtain⟨j,rfl⟩:∃j,i=j+1:=⟨i-1,by omega⟩;exact bk Ap.no hz);rw[show aJ l=280 from cT ag Ap.no iP (bC ag Ap.no hx hq (by rw[gy,decide_eq_false (by omega)];simp))];exact aP.refl _
 · rename_i y hy h1 h2 z hz
   have h2:(0:Int)<(i:Int):=h2;have hx:l[i]? =some x:=hx;have hy:l[i]? =some y:=hy
   rw[hx] at hy;injection hy with hy;subst hy
   have hz:l[((i:Int)-1).toNat]? =some z:=hz;rw[show((i:Int)-1).toNat=i-1 by omega] at hz;(have gy:ax Ap.no l i=Ap.no z:=by obtain⟨j,rfl⟩:∃j,i=j+1:=⟨i-1,by omega⟩;exact bk Ap.no hz);have aC:=(aq.1 hx).1;refine⟨⟨i+1,aC,bU ag Ap.no hx hq (by rw[gy,h1,decide_eq_true (by omega)];rfl)⟩,by show l.length-(i+1)<l.length-i;omega,?_⟩;exact aG trivial
 · rename_i h1
   have hx:l[i]? =some x:=hx;have hc:¬(0:Int)<(i:Int):=hc;have aC:=(aq.1 hx).1;(have h0:i=0:=by omega);subst h0;have hn:=eJ h1;refine⟨⟨0+1,aC,bU ag Ap.no hx hq (by rw[h1];show(true&&decide ((-1:Int)<Ap.no x))=true;rw[decide_eq_true (by omega)];rfl)⟩,by show l.length-(0+1)<l.length-0;omega,?_⟩;exact aG trivial
 · have hx:l[i]? =some x:=hx
   rw[show aJ l=280 from cT ag Ap.no iP (bC ag Ap.no hx hq (by rw[hc];rfl))];exact aP.refl _
 · have hc:¬(i:Int)<((l.map eA).length:Int):=hc
   rw[ak] at hc;rw[show aJ l=0 from iK ag Ap.no iP (cR ag Ap.no hq (by omega))];exact aP.refl _
theorem Tr(x y:Ap):(decide (x.no=y.no)&&(decide (x.tm=y.tm)&&(decide (x.known=y.known)&&(decide (x.doc=y.doc)&&(decide (x.J4=y.J4)&&(decide (x.for_=y.for_)&&(decide (x.off=y.off)&&(x.gone==y.gone))))))))=decide (x=y):=by
 cases x;cases y;simp only[Ap.mk.injEq,Bool.decide_and]
 first|rfl|(congr;(rename_i a b;cases a<;>cases b<;>rfl))|(simp;done)
def eR(x:List Ap×Int):PV:= .bR [eL x.1,eI x.2]
theorem dI{l:List Ap}(h:aJ l=0):l.length<=4096/\(∀x∈l,ag x=true)/\l.Pairwise (λa b=>Ap.no a<Ap.no b):=by
 obtain⟨h1,h2⟩:=vY ag Ap.no (by decide) h;rw[gv] at h2;exact⟨by omega,λx hx=>(h2.1 x hx).1,h2.2⟩
def cZ(d t k:Int)(y:Ap):Bool:=decide (y.doc=d)&&ee t k y
abbrev Zj(l:List Ap)(d t k:Int):List PV:=[.ro [eL l],.ro [eI d],.ro [eI t],.ro [eI k]]
theorem rY(l:List Ap)(d t k:Int):aa af 264 [eL l,eI d,eI t,eI k] (.fn (.func 285) [] (Zj l d t k)):=by
 refine aa.e Tryz.func264 10 [.tmp 8] [0,1,2,3,4,5,6,7,8] ?_;exact cb trivial
 all_goals(exact fin)
theorem B4(l:List Ap)(d t k:Int)(hl:l.length<1000000):Iter af 285 (Zj l d t k) ((l.filter (cZ d t k)).map λy=>[eA y]):=by
 refine Iter.e Tryz.func285 37 Un ?_;intro G hG si jM;refine cb ?_;refine bY.bq (α:={i:Nat // i<=l.length/\bF (cZ d t k) l i<=G.stop}) mixed Un (λi=>[(10,.p (eI i.1))]) (λ_=>[]) (λi=>bF (cZ d t k) l i.1) (λi=>l.length-i.1) ⟨0,by omega,by simp[bF]⟩ ?_ ?_
 · exact aG trivial
 rintro⟨i,hi,hs⟩;have hi:i<=l.length:=hi;have hs:bF (cZ d t k) l i<=G.stop:=hs;(have BC:G.xs.length=(l.filter (cZ d t k)).length:=by rw[jM];simp);refine cb (ae (λhc x hx=>ae (λhc=>ae (λhc=>ae (λhc=>ae (ae ?_ ?_) (ae (λhc=>?_) λhc=>?_)) λhc=>?_) λhc=>?_) λhc=>?_) λhc=>?_)
 · have hx:l[i]? =some x:=hx
   (have hq:cZ d t k x=true:=by simp_all [cZ,ee]<;>(intros;omega));have:=(aq.1 (ew (cZ d t k) hx hq)).1;show bF (cZ d t k) l i<G.xs.length;omega
 · have hx:l[i]? =some x:=hx
   (have hq:cZ d t k x=true:=by simp_all [cZ,ee]<;>(intros;omega));show _=List.map AV.p (G.xs.getD (bF (cZ d t k) l i) [])
   have e:G.xs.getD (bF (cZ d t k) l i) []=[eA x]:=by
    rw[jM];simp[cF,ew (cZ d t k) hx hq]
   rw[e];rfl
 · have hx:l[i]? =some x:=hx
   (have hq:cZ d t k x=true:=by simp_all [cZ,ee]<;>(intros;omega));have hc:bF (cZ d t k) l i≠G.stop:=hc;have aC:=(aq.1 hx).1;have e:=mY (cZ d t k) hx hq;refine⟨⟨i+1,aC,by show bF (cZ d t k) l (i+1)<=G.stop;omega⟩,by show l.length-(i+1)<l.length-i;omega,?_⟩;refine aG ?_;exact e
 · have hx:l[i]? =some x:=hx
   (have hq:cZ d t k x=true:=by simp_all [cZ,ee]<;>(intros;omega));have hc:¬ bF (cZ d t k) l i≠G.stop:=hc;have:=(aq.1 (ew (cZ d t k) hx hq)).1;show bF (cZ d t k) l i+1=min (G.stop+1) ((l.filter (cZ d t k)).map λy=>[eA y]).length;rw[ak];omega
 · have hx:l[i]? =some x:=hx
   (have hq:cZ d t k x=false:=by simp_all [cZ,ee]<;>(intros;omega));have aC:=(aq.1 hx).1;have e:=mn (cZ d t k) hx hq;refine⟨⟨i+1,aC,by show bF (cZ d t k) l (i+1)<=G.stop;omega⟩,by show l.length-(i+1)<l.length-i;omega,?_⟩;refine aG ?_;exact e
 · have hx:l[i]? =some x:=hx
   (have hq:cZ d t k x=false:=by simp_all [cZ,ee]<;>(intros;omega));have aC:=(aq.1 hx).1;have e:=mn (cZ d t k) hx hq;refine⟨⟨i+1,aC,by show bF (cZ d t k) l (i+1)<=G.stop;omega⟩,by show l.length-(i+1)<l.length-i;omega,?_⟩;refine aG ?_;exact e
 · have hx:l[i]? =some x:=hx
   (have hq:cZ d t k x=false:=by simp_all [cZ,ee]<;>(intros;omega));have aC:=(aq.1 hx).1;have e:=mn (cZ d t k) hx hq;refine⟨⟨i+1,aC,by show bF (cZ d t k) l (i+1)<=G.stop;omega⟩,by show l.length-(i+1)<l.length-i;omega,?_⟩;refine aG ?_;exact e
 · have hc:¬(i:Int)<((l.map eA).length:Int):=hc
   rw[ak] at hc;have e:=mZ (cZ d t k) (show l.length<=i by omega);show bF (cZ d t k) l i=min (G.stop+1) ((l.filter (cZ d t k)).map λy=>[eA y]).length;rw[ak];omega
theorem lV:nM eK where
 eq:=λa b=>by
  obtain⟨a1,a2,a3,a4⟩:=a;obtain⟨b1,b2,b3,b4⟩:=b;show(decide (a1=b1)&&(decide (a2=b2)&&(decide (a3=b3)&&(decide (a4=b4)&&true))))=_;simp[Bool.decide_and]
abbrev Mp:=List (Ky×Ap)
def iV(m:Mp)(y:Ap):Mp:=match bn (ba y) m with|none=>dQ (ba y) y m|some z=>if z.tm<=y.tm then dQ (ba y) y m else m
def foldM(l:List Ap):Mp:=l.foldl iV []
theorem dV{l:List Ap}{i:Nat}{x:Ap}(h:l[i]? =some x):foldM (l.take (i+1))=iV (foldM (l.take i)) x:=by
 unfold foldM;rw[bz,h];simp[List.foldl_append]
theorem oO(l:List Ap)(k:Ky):∀i,bn k (foldM (l.take i))=jC (λ_=>true) ba Ap.tm (l.take i) k:=by
 intro i
 induction i with
 |zero=>rfl
 |succ i ih=>
  cases hx:l[i]? with
  |none=>rw[bz,hx];simpa using ih
  |some x=>
   rw[dV hx,lf _ _ _ hx,<-ih];unfold iV zL;by_cases hk:ba x=k
   · subst hk
     simp only[and_self,if_true]
     cases hg:bn (ba x) (foldM (l.take i)) with
     |none=>simp[dj]
     |some z=>
      simp only;split
      · simp[dj]
      · exact hg
   · simp only[true_and,hk,if_false]
     cases hg:bn (ba x) (foldM (l.take i)) with
     |none=>simp only[dj];rw[if_neg (λe=>hk e.symm)]
     |some z=>
      simp only;split
      · rw[dj,if_neg (λe=>hk e.symm)]
      · rfl
def stM(M:Mp)(y:Ap):Bool:= !y.gone&&decide (bn (ba y) M=some y)
def Oj(l:List Ap)(d t k:Int):List Ap:=(l.filter (cZ d t k)).filter (stM (foldM (l.filter (cZ d t k))))
theorem Ts:ko af 324=some (([.int .i64,.int .i64,.int .i64,.int .i64],true),144):=by kernel_rfl
abbrev xP:KT:=([.int .i64,.int .i64,.int .i64,.int .i64],true)
def lh(n:Nat):List Ap->AV
 |[]=>.p (.sl 0 true [])
 |a::r=>.bo n 8 0 (r.length+1)
def ln(n:Nat):List Ap->ab
 |[]=>[]
 |a::r=>[(n,.row 8 ((a::r).map eA))]
theorem AN{F:List Ap}(hs:F.Pairwise (λa b=>a.no<b.no)){y:Ap}(hy:y∈F):bn (ba y) (foldM F)≠none:=by
 have:=oO F (ba y) F.length;rw[eG] at this;rw[this];intro e;rcases mW Ap.no (λ_=>true) ba Ap.tm hs (ba y) with⟨_,h2⟩|⟨z,h1,_⟩
 · exact h2 y hy ⟨rfl,rfl⟩
 · rw[h1] at e;cases e
theorem xV(l:List Ap)(d t k:Int)(hl:l.length<1000000)(te:l.Pairwise (λa b=>a.no<b.no)):aM af 232 0 [] [.p (eL l),.p (eI d),.p (eI t),.p (eI k)] (lh 0 (Oj l d t k)) (ln 0 (Oj l d t k)):=by
 refine aM.e Tryz.func232 63 [.cell 8 28] PS ?_;refine gG rY (kR Ts) ?_
 have jd:∀x∈((l.filter (cZ d t k)).map λy=>[eA y]),x.length=1:=λx hx=>by
  obtain⟨y,_,rfl⟩:=List.mem_map.1 hx;rfl
 (have du:∀i y,(l.filter (cZ d t k))[i]? =some y->((l.filter (cZ d t k)).map λy=>[eA y]).getD i []=[eA y]:=λi y h=>by simp[cF,h]);have gh:=B4 l d t k hl;unfold Oj;have WW:=iB (cZ d t k) l;have rW:(l.filter (cZ d t k)).Pairwise (λa b=>a.no<b.no):=te.filter _;generalize l.filter (cZ d t k)=F at *;refine bY.range mixed gh (by kernel_rfl) rfl PS F.length [0,64,128] (λi=>([(128,.cells [.mp 64]),(64,.map xP (eM eK eA (foldM (F.take i)))),(0,.cells [.p (.sl 0 true [])])],576)) rfl (gN rfl) (by simp) (by simp) jd (λi hi hm=>?_) (λ_=>?_)
 · rw[ak] at hi
   obtain⟨y,hy⟩:∃y,F[i]? =some y:=⟨_,aV hi⟩;rw[du i y hy];refine gg tU (kR Ts) (kO (bj eA lV (ba y) (foldM (F.take i)))) (ae (λz hz=>ae (λhc=>?_) λhc=>?_) λhz=>?_)
   · refine nq ?_
     show dr (eK (ba y)) (eA y) (eM eK eA (foldM (F.take i)))=eM eK eA (foldM (F.take (i+1)));rw[dV hy,cU eA lV];simp only[iV,hz];rw[if_pos hc]
   · refine nq ?_
     show eM eK eA (foldM (F.take i))=eM eK eA (foldM (F.take (i+1)));rw[dV hy];simp only[iV,hz];rw[if_neg hc]
   · refine nq ?_
     show dr (eK (ba y)) (eA y) (eM eK eA (foldM (F.take i)))=eM eK eA (foldM (F.take (i+1)));rw[dV hy,cU eA lV];simp only[iV,hz]
 · have eF:F.take (F.map λy=>[eA y]).length=F:=by rw[ak,eG]
   refine bM rY ?_;refine bY.range mixed gh (by kernel_rfl) rfl PS F.length [0,64,128] (λi=>([(128,.cells [.mp 64]),(64,.map xP (eM eK eA (foldM (F.take (F.map λy=>[eA y]).length)))),(0,.cells [lh 1 ((F.take i).filter (stM (foldM F)))])]++ln 1 ((F.take i).filter (stM (foldM F))),896)) rfl (gN rfl) (by simp) (by simp) jd (λi hi hm=>?_) (λ_=>?_)
   · rw[ak] at hi
     obtain⟨y,hy⟩:∃y,F[i]? =some y:=⟨_,aV hi⟩;rw[du i y hy];have ub:=iy (stM (foldM F)) hy;(have bV:stM (foldM F) y=false->(F.take (i+1)).filter (stM (foldM F))=(F.take i).filter (stM (foldM F)):=λh=>by rw[ub,h];simp);(have ay:stM (foldM F) y=true->(F.take (i+1)).filter (stM (foldM F))=(F.take i).filter (stM (foldM F))++[y]:=λh=>by rw[ub,h];simp);have hlen:=congrArg List.length ub;show aw _ _ _ ⟨_,[(128,.cells [.mp 64]),(64,.map xP (eM eK eA (foldM (F.take (F.map λy=>[eA y]).length)))),(0,.cells [lh 1 ((F.take i).filter (stM (foldM F)))])]++ln 1 ((F.take i).filter (stM (foldM F))),_,_⟩ _;have PD:((F.take i).filter (stM (foldM F))).length<=F.length:=Nat.le_trans (iB _ _) (by rw[dy];omega)
     cases hG:(F.take i).filter (stM (foldM F)) with
     |nil=>
      rw[hG] at bV ay;refine gg tU (kR Ts) (kO (bj eA lV (ba y) (foldM (F.take (F.map λy=>[eA y]).length)))) (ae (λhc=>?_) λhc=>ae (λz hz=>ae (λhc aZ=>?_) λhc=>?_) λhz=>ae (λhc aZ=>?_) λhc=>?_)
      all_goals(try rw[eF] at hz)
      · show di _ _ ⟨[],[(128,.cells [.mp 64]),(64,_),(0,.cells [lh 1 ((F.take (i+1)).filter (stM (foldM F)))])]++ln 1 ((F.take (i+1)).filter (stM (foldM F))),896,_⟩
        rw[bV (by simp[stM,hc])];exact nq trivial
      · rw[Tr] at hc
        have hc:=of_decide_eq_true hc;subst hc;show di _ _ ⟨[],[(128,.cells [.mp 64]),(64,_),(0,.cells [lh 1 ((F.take (i+1)).filter (stM (foldM F)))])]++ln 1 ((F.take (i+1)).filter (stM (foldM F))),896,_⟩;rw[ay (by simp[stM,hz, *])];exact nq trivial
      · rw[Tr] at hc
        have hc:=of_decide_eq_false hc;show di _ _ ⟨[],[(128,.cells [.mp 64]),(64,_),(0,.cells [lh 1 ((F.take (i+1)).filter (stM (foldM F)))])]++ln 1 ((F.take (i+1)).filter (stM (foldM F))),896,_⟩;rw[bV (by simp[stM,hz];intro _ h;exact hc h)];exact nq trivial
      all_goals exact absurd hz (AN rW (aO hy))
     |cons a r=>
      rw[hG] at bV ay;(have oI:r.length+1<=1000000:=by have:=PD;rw[hG] at this;simp at this;omega);refine gg tU (kR Ts) (kO (bj eA lV (ba y) (foldM (F.take (F.map λy=>[eA y]).length)))) (ae (λhc=>?_) λhc=>ae (λz hz=>ae (λhc=>?_) λhc=>?_) λhz=>ae (λhc=>?_) λhc=>?_)
      all_goals(try rw[eF] at hz)
      · show di _ _ ⟨[],[(128,.cells [.mp 64]),(64,_),(0,.cells [lh 1 ((F.take (i+1)).filter (stM (foldM F)))])]++ln 1 ((F.take (i+1)).filter (stM (foldM F))),896,_⟩
        rw[bV (by simp[stM,hc])];exact nq trivial
      · rw[Tr] at hc
        have hc:=of_decide_eq_true hc;subst hc;show di _ _ ⟨[],[(128,.cells [.mp 64]),(64,_),(0,.cells [lh 1 ((F.take (i+1)).filter (stM (foldM F)))])]++ln 1 ((F.take (i+1)).filter (stM (foldM F))),896,_⟩;rw[ay (by simp[stM,hz, *])];refine nq ?_;show(a::r).map eA++[eA z]=(a::(r++[z])).map eA;simp
      · rw[Tr] at hc
        have hc:=of_decide_eq_false hc;show di _ _ ⟨[],[(128,.cells [.mp 64]),(64,_),(0,.cells [lh 1 ((F.take (i+1)).filter (stM (foldM F)))])]++ln 1 ((F.take (i+1)).filter (stM (foldM F))),896,_⟩;rw[bV (by simp[stM,hz];intro _ h;exact hc h)];exact nq trivial
      all_goals exact absurd hz (AN rW (aO hy))
   · show Kt.n _ ⟨_,[(128,.cells [.mp 64]),(64,_),(0,.cells [lh 1 ((F.take (F.map λy=>[eA y]).length).filter (stM (foldM F)))])]++ln 1 ((F.take (F.map λy=>[eA y]).length).filter (stM (foldM F))),_,_⟩
     rw[eF]
     cases hG:F.filter (stM (foldM F)) with
     |nil=>
      refine cb ?_;exact⟨[],[],cW.refl _,trivial,by decide,by simp,λi hi=>by omega⟩
     |cons a r=>
      refine cb ?_;refine⟨[],[(0,1)],cW.bo rfl,fe.mk rfl (by simp) rfl Ps (dL.row _ _) trivial,by decide,by simp,λi hi=>by omega⟩
theorem AO(f:bf)(cs:List PV)(q:Ap->Bool)(l:List (Ap))(h:∀w∈l,aa af f (eA w::cs) (.bool (q w)))(hf:enters af f=true)(hl:l.length<1000000):
 aa af 263 [eL l,.fn (.func f) [] cs] (eI (zN q l)):=by
 refine aa.e Tryz.func263 19 [.tmp 4] Uk ?_;refine cb ?_;refine bY.bK (α:={i:Nat // i<=l.length/\ ∀j w,j<i->l[j]? =some w->q w=false}) mixed Uk (λi=>[(8,.p (eI i.1))]) (λi=>l.length-i.1) ⟨0,by omega,by intro j w h;omega⟩ ?_ ?_
 · exact aG trivial
 rintro⟨i,hi,hq⟩;have hi:i<=l.length:=hi;have hq:∀j w,j<i->l[j]? =some w->q w=false:=hq
 repeat' (first|exact fg|(refine stx ?_;first|exact bW _|refine aE ?_)|(refine kq ?_;first|refine dF (h x (aO hx)) hf rfl ?_)|((fail_if_success refine ft ?_);(conv=>whnf)<;>(first|exact fh|refine str ?_|refine Br.dec (λhc=>?_) λhc=>?_|refine Br.mk (λhc=>?_) λhc=>?_|exact PV.ao|refine PV.ai ?_ ?_|refine ae ?_ ?_|refine aD λx hx=>?_|refine aE ?_|refine bX (λhn=>?_) ?_|refine dF (h x (aO hx)) hf rfl ?_|exact fv|refine bS λaZ=>?_|refine al ?_ ?_|refine fu ?_|fail)))<;>(try exact fi)
 · have hx:l[i]? =some x:=hx
   rw[gF hx hc hq];exact aP.refl _
 · have hx:l[i]? =some x:=hx
   have:=(aq.1 hx).1;refine⟨⟨i+1,by omega,nU hq hx hc⟩,by show l.length-(i+1)<l.length-i;omega,?_⟩;exact aG trivial
 · have hc:¬(i:Int)<((l.map eA).length:Int):=hc
   rw[ak] at hc;rw[j9 (q:=q) (l:=l) λj w hj hw=>hq j w (by omega) hw];exact aP.refl _
theorem Kv(f:bf)(cs:List PV)(q:Ap->Bool)(l:List Ap)(h:∀w∈l,aa af f (eA w::cs) (.bool (q w)))(hf:enters af f=true)(hl:l.length<1000000):
 aM af 231 1 [(0,.row 8 (l.map eA))] [.bo 0 8 0 l.length,.p (.fn (.func f) [] cs)] (.p (eL (l.filter λy=> !q y))) [(0,.dead)]:=by
 have Hi:=AO f cs q l h hf hl;rcases M8 q l with⟨e0,qQ⟩|⟨i0,x0,e0,Ww,hq0,hb⟩
 · rw[e0] at Hi
   refine aM.e Tryz.func231 42 [.tmp 4] Lr ?_
   repeat' (first|exact fg|(refine stx ?_;first|exact bW _|refine aE ?_)|(refine kq ?_;first|refine k9 Hi (by kernel_rfl) rfl ?_)|((fail_if_success refine ft ?_);(conv=>whnf)<;>(first|exact fh|refine str ?_|refine Br.dec (λhc=>?_) λhc=>?_|refine Br.mk (λhc=>?_) λhc=>?_|exact PV.ao|refine PV.ai ?_ ?_|refine ae ?_ ?_|refine aD λx hx=>?_|refine aE ?_|refine bX (λhn=>?_) ?_|refine k9 Hi (by kernel_rfl) rfl ?_|exact fv|refine bS λaZ=>?_|refine al ?_ ?_|refine fu ?_|fail)))<;>(try exact fi)
   · refine PV.zw ?_
     show PV.sl 8 false _=PV.sl 8 false _;rw[da,bN (by simp)]
   · refine⟨[0],[(0,0)],cW.GZ (by simp) rfl (by decide) (by simp) ?_,fe.dd trivial,by decide,by simp,λi hi=>by match i,hi with|0,_=>rfl⟩
     show PV.sl 8 false _=PV.sl 8 false _;rw[filter_all q l qQ,da,bN (by simp)]
 · rw[e0] at Hi
   have Lu:=(aq.1 Ww).1
   have TT:(l.take i0).filter (λy=> !q y)=l.take i0:=filter_all q _ λx hx=>by
    obtain⟨j,hj⟩:=List.getElem?_of_mem hx;have pg:=(aq.1 hj).1;rw[dy] at pg;rw[List.getElem?_take_of_lt (by omega)] at hj;exact hb j x (by omega) hj
   (have Io:(l.take (i0+1)).filter (λy=> !q y)=l.take i0:=by rw[iy _ Ww,TT,hq0];simp);refine aM.e Tryz.func231 42 [.tmp 4] Lr ?_
   repeat' (first|exact fg|(refine stx ?_;first|exact bW _|refine aE ?_)|(refine kq ?_;first|refine k9 Hi (by kernel_rfl) rfl ?_)|((fail_if_success refine ft ?_);(conv=>whnf)<;>(first|exact fh|refine str ?_|refine Br.dec (λhc=>?_) λhc=>?_|refine Br.mk (λhc=>?_) λhc=>?_|exact PV.ao|refine PV.ai ?_ ?_|refine ae ?_ ?_|refine aD λx hx=>?_|refine aE ?_|refine bX (λhn=>?_) ?_|refine k9 Hi (by kernel_rfl) rfl ?_|exact fv|refine bS λaZ=>?_|refine al ?_ ?_|refine fu ?_|fail)))<;>(try exact fi)
   · refine PV.zw ?_
     show PV.sl 8 false _=PV.sl 8 false _;rw[da,bN (by simp)]
   refine bY.bq (α:={x:Nat×List Ap // x.1<=l.length/\x.2.length=l.length/\((l.take x.1).filter (λy=> !q y)).length<x.1/\x.2.take ((l.take x.1).filter (λy=> !q y)).length=(l.take x.1).filter (λy=> !q y)/\x.2.drop x.1=l.drop x.1}) mixed Lr
    (λx=>[(5,.p (eI ((l.take x.1.1).filter (λy=> !q y)).length)),(6,.p (eI x.1.1))]) (λx=>[(0,.row 8 (x.1.2.map eA))]) (λ_=>0) (λx=>l.length-x.1.1) ⟨(i0+1,l),Lu,rfl,by rw[Io];simp;omega,by rw[Io];simp,rfl⟩ ?_ ?_
   · refine aG ?_
     show PV.int .i64 (i0:Int)=eI ((l.take (i0+1)).filter (λy=> !q y)).length;rw[Io,dy,Nat.min_eq_left (by omega)];rfl
   rintro⟨⟨j,R⟩,h1,h2,h3,h4,h5⟩;have h1:j<=l.length:=h1;have h2:R.length=l.length:=h2;have h3:((l.take j).filter (λy=> !q y)).length<j:=h3;have h4:R.take ((l.take j).filter (λy=> !q y)).length=(l.take j).filter (λy=> !q y):=h4;have h5:R.drop j=l.drop j:=h5
   have V4:∀x,R[j]? =some x->l[j]? =some x:=λx hx=>by
    have:=congrArg (λz=>z[0]?) h5;simp only[List.getElem?_drop,Nat.add_zero] at this;rw[<-this];exact hx
   repeat' (first|exact fg|(refine stx ?_;first|exact bW _|refine aE ?_)|(refine kq ?_;first|refine dF (h x (aO (V4 x (by simpa using hx)))) hf rfl ?_)|((fail_if_success refine ft ?_);(conv=>whnf)<;>(first|exact fh|refine str ?_|refine Br.dec (λhc=>?_) λhc=>?_|refine Br.mk (λhc=>?_) λhc=>?_|exact PV.ao|refine PV.ai ?_ ?_|refine ae ?_ ?_|refine aD λx hx=>?_|refine aE ?_|refine bX (λhn=>?_) ?_|refine dF (h x (aO (V4 x (by simpa using hx)))) hf rfl ?_|exact fv|refine bS λaZ=>?_|refine al ?_ ?_|refine fu ?_|fail)))<;>(try exact fi)
   (all_goals(try((first|(with_reducible show(_:Int)<=_)|(with_reducible show(_:Int)<_)|(with_reducible show(_:Nat)<=_)|(with_reducible show(_:Nat)<_)|(with_reducible show ¬ _)|(with_reducible show(_:Int)=_)|(with_reducible show(_:Nat)=_)|(with_reducible show False));(try dsimp only at *);(try simp only[ak,fk,List.length_cons,List.length_nil,List.length_replicate,dy,List.length_drop,nX,dv,Int.reduceToNat] at *);omega)))
   · have hx:R[j]? =some x:=by simpa using hx
     have hx:=V4 x hx;have hj:=(aq.1 hx).1;(have hk:(l.take (j+1)).filter (λy=> !q y)=(l.take j).filter (λy=> !q y):=by rw[iy _ hx,hc];simp);refine⟨⟨(j+1,R),hj,h2,by show((l.take (j+1)).filter (λy=> !q y)).length<j+1;rw[hk];omega,by show R.take ((l.take (j+1)).filter (λy=> !q y)).length=(l.take (j+1)).filter (λy=> !q y);rw[hk];exact h4,by show R.drop (j+1)=l.drop (j+1);rw[<-List.drop_drop,h5,List.drop_drop]⟩,by show l.length-(j+1)<l.length-j;omega,?_⟩;refine aG ?_;show eI _=eI _;rw[hk]
   · have hx:R[j]? =some x:=by simpa using hx
     have hx:=V4 x hx;have hj:=(aq.1 hx).1;(have hk:(l.take (j+1)).filter (λy=> !q y)=(l.take j).filter (λy=> !q y)++[x]:=by rw[iy _ hx,hc];simp);(have sJ:((l.take j).filter (λy=> !q y)).length<R.length:=by omega);refine⟨⟨(j+1,R.set ((l.take j).filter (λy=> !q y)).length x),hj,by show(R.set _ _).length=l.length;rw[nX,h2],by show((l.take (j+1)).filter (λy=> !q y)).length<j+1;rw[hk];simp;omega,?_,?_⟩,by show l.length-(j+1)<l.length-j;omega,?_⟩
     · show(R.set _ x).take ((l.take (j+1)).filter (λy=> !q y)).length=(l.take (j+1)).filter (λy=> !q y)
       rw[hk,fk,List.length_singleton,bz,List.getElem?_set_self sJ,List.take_set_of_le (Nat.le_refl _),h4];rfl
     · show(R.set _ x).drop (j+1)=l.drop (j+1)
       rw[List.drop_set_of_lt (by omega),<-List.drop_drop,h5,List.drop_drop]
     refine aG (ae ?_ ?_)
     all_goals first
     |(show PV.int .i64 _=eI _;rw[hk,fk,List.length_singleton];rfl)
     |(show(R.map eA).set _ _=(R.set _ x).map eA;rw[List.map_set,gQ];rfl)
   · have pg:j=l.length:=by
      have hc:¬(j:Int)<(l.length:Int):=hc;omega
     subst pg;rw[eG] at h3 h4;refine⟨[0],[(0,0)],cW.GZ (by simp) rfl (by decide) ?_ ?_,fe.dd trivial,by decide,by simp,λi hi=>by match i,hi with|0,_=>rfl⟩
     · simp only[eG]
       simp;omega
     · show PV.sl 8 false _=PV.sl 8 false _
       congr 1;simp only[eG,dv,gQ,Int.reduceToNat,Nat.sub_zero,da,List.append_assoc];rw[List.take_append_of_le_length (by simp;omega),List.take_take,Nat.min_self,<-List.map_take,h4]
def jN(l:List Ap)(t k:Int)(y:Ap):Bool:= !y.gone&&ee t k y&& !l.any (λz=>ee t k z&&(decide (ba z=ba y)&&J6 z y))
def lg(l:List Ap)(d t k:Int):List Ap:=l.filter λy=>decide (y.doc=d)&&jN l t k y
theorem ER(l:List Ap)(d t k:Int)(hs:l.Pairwise (λa b=>a.no<b.no)):Oj l d t k=lg l d t k:=by
 unfold Oj lg;rw[List.filter_filter];refine List.filter_congr λy hy=>?_;have hF:(l.filter (cZ d t k)).Pairwise (λa b=>a.no<b.no):=hs.filter _
 cases hq:cZ d t k y with
 |false=>
  simp only[cZ] at hq;simp only[Bool.and_false]
  cases h1:decide (y.doc=d) with
  |false=>rfl
  |true=>rw[h1] at hq;simp only[dZ] at hq;simp[jN,hq]
 |true=>
  have hyF:y∈l.filter (cZ d t k):=dN.2 ⟨hy,hq⟩;have du:=oO (l.filter (cZ d t k)) (ba y) (l.filter (cZ d t k)).length;rw[eG] at du;have iO:=zM Ap.no (λ_=>true) ba Ap.tm hF hyF;simp only[cZ,aQ,decide_eq_true_eq] at hq;simp only[Bool.and_true,stM,jN,hq.1,hq.2,decide_true,dZ,du];congr 1;rw[Bool.eq_iff_iff];simp only[decide_eq_true_eq,iO,true_and,Bool.not_eq_true',List.any_eq_false,aQ,not_and];constructor
  · intro h z hz h1 h2
    (have Ny:z.doc=d:=by have:=congrArg Prod.fst h2;rw[<-hq.1];exact this);have:=h z (dN.2 ⟨hz,by simp[cZ,Ny,h1]⟩) trivial h2;rw[rR];exact this
  · intro h z hz _ h2
    obtain⟨Ce,hzq⟩:=dN.1 hz;simp only[cZ,aQ] at hzq;have:=h z Ce hzq.2 h2;rwa[rR] at this
def QG(b t h:Int)(y:Ap):Bool:=decide (y.tm<b)||decide (t-y.tm<h)
theorem NR(b t h:Int)(y:Ap)(ht:0<=t/\t<1099511627776)(hy:0<=y.tm/\y.tm<1099511627776):aa af 233 [eA y,.ro [eI b],.ro [eI t],.ro [eI h]] (.bool (QG b t h y)):=by
 refine aa.e Tryz.func233 18 [.tmp 5] [0,1,2,3,4,5] ?_;refine cb (ae (λhc=>?_) λhc=>?_)
 all_goals(refine aP.bool ?_;simp_all [QG]<;>(try(intros;omega)))
theorem Kw(f:bf)(cs:List PV)(h:∀w:Ap,w∈([]:List Ap)->aa af f (eA w::cs) (.bool true))(hf:enters af f=true):aa af 231 [eL [],.fn (.func f) [] cs] (eL []):=by
 have Hi:=AO f cs (λ_=>true) [] h hf (by simp);rw[show zN (λ_:Ap=>true) []= -1 from rfl] at Hi;refine aa.e Tryz.func231 42 [.tmp 4] Lr ?_;exact bM Hi trivial
def Dw(d b h t k:Int):Bool:=bh 0 4095 d&&(bh 0 1099511627775 b&&(bh 0 1099511627775 h&&(bh 0 1099511627775 t&&bh 0 1099511627775 k)))
def Ib(l:List Ap)(d b h t k:Int):List Ap×Int:=if aJ l=0 then(if Dw d b h t k then((lg l d t k).filter (λy=> !QG b t h y),0) else([],1)) else([],aJ l)
theorem Wd{l:List Ap}{d t k:Int}(hr:∀x∈l,ag x=true):∀y∈lg l d t k,0<=y.tm/\y.tm<1099511627776:=λy hy=>by
 have:=hr y (dN.1 hy).1;simp[ag,bh] at this;omega
theorem Zk{n:Int}(h:bh 0 1099511627775 n=true):0<=n/\n<1099511627776:=by simp[bh] at h;omega
theorem AP(l:List Ap)(d b h t k:Int)(hl:l.length<1000000):aa af 190 [eL l,eI d,eI b,eI h,eI t,eI k] (eR (Ib l d b h t k)):=by
 have q1:=bm l hl;by_cases hz:aJ l=0
 · rw[hz] at q1
   obtain⟨_,hr,hs⟩:=dI hz;unfold Ib;rw[if_pos hz];by_cases ha:Dw d b h t k=true
   · rw[if_pos ha]
     unfold Dw at ha;simp only[aQ] at ha;obtain⟨a1,a2,a3,a4,a5⟩:=ha;have Uz:=w1 4095 d;have We:=w4 1099511627775 b h t k;rw[a1] at Uz;rw[a2,a3,a4,a5] at We;have te:(lg l d t k).length<1000000:=Nat.lt_of_le_of_lt (iB _ _) hl;have q2:=xV l d t k hl hs;rw[ER l d t k hs] at q2;have S0:=Wd (d:=d) (t:=t) (k:=k) hr;have q3:=Kv 233 [.ro [eI b],.ro [eI t],.ro [eI h]] (QG b t h) (lg l d t k) (λy hy=>NR b t h y (Zk a4) (S0 y hy)) (by kernel_rfl) te
     cases hG:lg l d t k with
     |nil=>
      rw[hG] at q2 q3;simp only[lh,ln] at q2;refine aa.e Tryz.func190 39 [.tmp 12,.tmp 13] Hd ?_;exact Jt q1 (kZ Uz) (kZ We) (kI [] q2) (kF 6 [(8,false),(9,false),(10,false)]) (kZ (Kw 233 [.ro [eI b],.ro [eI t],.ro [eI h]] (λw hw=>nomatch hw) (by kernel_rfl))) trivial
     |cons y r=>
      rw[hG] at q2 q3;simp only[lh,ln] at q2;refine aa.e Tryz.func190 39 [.tmp 12,.tmp 13] Hd ?_;exact Jt q1 (kZ Uz) (kZ We) (kI [] q2) (kF 6 [(8,false),(9,false),(10,false)]) (kI [1728] q3) trivial
   · rw[if_neg ha]
     have Uz:=w1 4095 d;have We:=w4 1099511627775 b h t k;unfold Dw at ha
     cases a1:bh 0 4095 d with
     |false=>
      rw[a1] at Uz;refine aa.e Tryz.func190 39 [.tmp 12,.tmp 13] Hd ?_;refine gg q1 (kZ Uz) (kZ We) ?_
      all_goals(exact fin)
     |true=>
      rw[a1] at Uz ha;(have a2:(bh 0 1099511627775 b&&(bh 0 1099511627775 h&&(bh 0 1099511627775 t&&bh 0 1099511627775 k)))=false:=by simpa using ha);rw[a2] at We;refine aa.e Tryz.func190 39 [.tmp 12,.tmp 13] Hd ?_;refine gg q1 (kZ Uz) (kZ We) ?_
      all_goals(exact fin)
 · unfold Ib
   rw[if_neg hz];refine aa.e Tryz.func190 39 [.tmp 12,.tmp 13] Hd ?_;refine bM q1 (λhc=>?_)
   · all_goals(exact fin)
end od
end Go.Proofs.YtmaiccmhkmndcaaGreatDoor
