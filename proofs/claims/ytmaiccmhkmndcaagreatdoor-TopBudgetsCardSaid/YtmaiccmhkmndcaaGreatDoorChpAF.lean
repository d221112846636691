/- A part of the proof: contracts of the functions that the statement reaches. -/
import Derived.Test.YtmaiccmhkmndcaaGreatDoorEngC
import Derived.Test.YtmaiccmhkmndcaaGreatDoorChpAA
import Derived.Test.YtmaiccmhkmndcaaGreatDoorProg
set_option linter.unusedSimpArgs false
set_option linter.unusedVariables false
set_option linter.unnecessarySimpa false
set_option maxRecDepth 100000
set_option maxHeartbeats 40000000
open And renaming intro->ae
open Bool renaming and_eq_true->aQ,false_and->ji,and_false->jE,true_and->dZ
open Classical renaming em->mQ
open Go.Proofs.Tryz renaming prog->af
open List renaming getElem?_eq_some_iff->aq,length_map->ak,take_add_one->bz,foldl_append->fG,take_of_length_le->bN,length_filter_le->iB,length_take->dy,mem_of_getElem?->aO,take_length->eG,map_append->iq,map_cons->bE,map_nil->dw,mem_singleton->gE,getD->cF,getElem?_eq_getElem->aV,mem_filter->dN
namespace Go.Proofs.YtmaiccmhkmndcaaGreatDoor
open Go Go.Sg
namespace bx
structure Bg where
 no:Int
 tm:Int
 known:Int
 kind:Int
 ia:Int
 cnt:Int
 val:Int
 gone:Bool
 deriving DecidableEq
structure Us where
 doc:Int
 kind:Int
 val:Int
 tm:Int
 known:Int
 deriving DecidableEq
def eI(i:Int):PV:= .int .i64 i
def dm(l:List Int):PV:= .sl 1 false (l.map eI)
def eA(x:Bg):PV:= .agg [eI x.no,eI x.tm,eI x.known,eI x.kind,eI x.ia,eI x.cnt,eI x.val,.bool x.gone]
def eL(l:List Bg):PV:= .sl 8 false (l.map eA)
def eU(x:Us):PV:= .agg [eI x.doc,eI x.kind,eI x.val,eI x.tm,eI x.known]
def EK(l:List Us):PV:= .sl 5 false (l.map eU)
theorem mixed:af.follows .mixedOrders=true:=by kernel_rfl
theorem iA(a:Int):aa af 179 [eI a] (.bool false):=by
 refine aa.e Tryz.func179 6 [.tmp 2] [0,2] ?_;refine cb ?_;exact aP.bool (by simp)
def tP(lo hi n:Int):Bool:=decide (n<lo)||decide (hi<n)
theorem Av(lo hi n:Int):aa af 137 [eI n,.ro [eI lo],.ro [eI hi]] (.bool (tP lo hi n)):=by
 refine aa.e Tryz.func137 13 [.tmp 4] [0,1,2,4] ?_;refine cb (ae (λhc=>?_) λhc=>?_)
 all_goals((try simp only[tP, *]);exact fin)
theorem rQ(f:FuncId)(cs:List PV)(q:Int->Bool)(h:∀w,aa af f (eI w::cs) (.bool (q w)))(hf:enters af f=true)(l:List (Int))(hl:l.length<1000000):
 aa af 149 [dm l,.fn (.func f) [] cs] (eI (zN q l)):=by
 refine aa.e Tryz.func149 19 [.tmp 4] nO ?_;refine cb ?_;refine bY.bK (α:={i:Nat // i<=l.length/\ ∀j w,j<i->l[j]? =some w->q w=false}) mixed nO (λi=>[(8,.p (eI i.1))]) (λi=>l.length-i.1) ⟨0,by omega,by intro j w h;omega⟩ ?_ ?_
 · exact aG trivial
 rintro⟨i,hi,hq⟩;have hi:i<=l.length:=hi;have hq:∀j w,j<i->l[j]? =some w->q w=false:=hq;refine bM (kH h hf) (ae (λhc x hx=>ae (λhc=>?_) λhc=>?_) λhc=>?_)
 · have hx:l[i]? =some x:=hx
   rw[gF hx hc hq];exact aP.refl _
 · have hx:l[i]? =some x:=hx
   have:=(aq.1 hx).1;refine⟨⟨i+1,by omega,nU hq hx hc⟩,by show l.length-(i+1)<l.length-i;omega,?_⟩;exact aG trivial
 · have hc:¬(i:Int)<((l.map eI).length:Int):=hc
   rw[ak] at hc;rw[j9 (q:=q) (l:=l) λj w hj hw=>hq j w (by omega) hw];exact aP.refl _
theorem pI(f:FuncId)(cs:List PV)(q:Int->Bool)(h:∀w,aa af f (eI w::cs) (.bool (q w)))(hf:enters af f=true)(l:List (Int))(hl:l.length<1000000):
 aa af 91 [dm l,.fn (.func f) [] cs] (.bool (l.any q)):=by
 rw[<-uM];refine aa.e Tryz.func91 9 [.tmp 4] [0,1,4] ?_;exact bM (rQ f cs q h hf _ hl) trivial
def bh(lo hi n:Int):Bool:=decide (lo<=n)&&decide (n<=hi)
theorem EL(lo hi n:Int):tP lo hi n= !bh lo hi n:=by
 unfold tP bh;rw[Bool.not_and,<-decide_not,<-decide_not];congr 1<;>(apply decide_eq_decide.2;omega)
def jJ(lo hi:Int)(l:List Int):Bool:=l.all (bh lo hi)
theorem sX(lo hi:Int)(l:List Int)(hl:l.length<1000000):aa af 74 [eI lo,eI hi,dm l] (.bool (jJ lo hi l)):=by
 have e:jJ lo hi l= !l.any (tP lo hi):=by
  unfold jJ;rw[List.not_any_eq_all_not];congr 1;funext n;rw[EL];simp
 rw[e];refine aa.e Tryz.func74 11 [.tmp 6] [0,1,2,3,4,6] ?_;exact bM (kZ (pI 137 [.ro [eI lo],.ro [eI hi]] (tP lo hi) (Av _ _) (by kernel_rfl) l hl)) trivial
 all_goals exact Ha trivial
theorem w1(lo hi a:Int):aa af 74 [eI lo,eI hi,dm [a]] (.bool (bh lo hi a)):=by
 have:=sX lo hi [a] (by simp);simpa[jJ] using this
theorem w2(lo hi a b:Int):aa af 74 [eI lo,eI hi,dm [a,b]] (.bool (bh lo hi a&&bh lo hi b)):=by
 have:=sX lo hi [a,b] (by simp);simpa[jJ] using this
abbrev TM:Int:=1099511627775
def ag(x:Bg):Bool:=bh 0 1048576 x.no&&(bh 0 TM x.tm&&bh 0 TM x.known)&&bh (-1) 15 x.kind&&bh 1 1099511627776 x.ia&&bh 0 (if x.gone then 0 else 1048576) x.cnt&&bh 0 (if x.gone then 0 else 1099511627776) x.val
theorem YZ(n:Int):bh 0 0 n=decide (n=0):=by
 unfold bh;rw[Bool.eq_iff_iff];simp;omega
theorem cV(x:Bg):aa af 56 [eA x] (.bool (ag x)):=by
 refine aa.e Tryz.func56 45 [.tmp 2] [0,1,2,3,4,6] ?_;refine Yu (kZ (w1 0 1048576 x.no)) (kZ (w2 0 TM x.tm x.known)) (kZ (w1 (-1) 15 x.kind)) (kZ (w1 1 1099511627776 x.ia)) (kZ (w1 0 1048576 x.cnt)) (kZ (w1 0 1099511627776 x.val)) (kZ (w1 0 0 x.cnt)) (kZ (w1 0 0 x.val)) (ae (λhc=>ae (λhc=>ae (λhc=>ae (λhc=>ae (λhc=>ae (λhc=>?_) λhc=>?_) λhc=>?_) λhc=>?_) λhc=>?_) λhc=>?_) λhc=>ae (λhc=>ae (λhc=>ae (λhc=>ae (λhc=>ae (λhc=>?_) λhc=>?_) λhc=>?_) λhc=>?_) λhc=>?_) λhc=>?_)
 all_goals(refine aP.bool ?_;simp_all [ag])
theorem dY(n lo hi:Int):aa af 127 [eI n,eI lo,eI hi] (.bool (bh lo hi n)):=by
 refine aa.e Tryz.func127 15 [.tmp 6] [0,1,2,6] ?_;refine cb (ae (λhc=>?_) λhc=>?_)
 all_goals((try simp only[bh, *]);exact fin)
theorem eb(n:Int):aa af 128 [eI n] (.bool (bh 0 TM n)):=by
 refine aa.e Tryz.func128 9 [.tmp 2] [0,2] ?_;refine cb (ae (λhc=>?_) λhc=>?_)
 all_goals(refine aP.bool ?_;rw[Bool.eq_iff_iff];simp[bh,TM];try omega)
theorem dG(x:Bg):aa af 67 [eA x] (.bool (ag x)):=by
 refine aa.e Tryz.func67 49 [.tmp 2] [0,1,2,30,32] ?_;refine gG dY eb (ae (λhc=>ae (λhc=>ae (λhc=>ae (λhc=>ae (λhc=>ae (λhc=>ae (λhc=>?_) λhc=>?_) λhc=>ae (λhc=>?_) λhc=>?_) λhc=>?_) λhc=>?_) λhc=>?_) λhc=>?_) λhc=>?_)
 all_goals(refine aP.bool ?_;simp_all [ag,YZ])
def aJ(l:List Bg):Int:=tJ ag Bg.no 4096 180 l
theorem eJ{x:Bg}(h:ag x=true):0<=x.no:=by
 simp[ag,bh] at h;omega
theorem bm(l:List Bg)(hl:l.length<1000000):aa af 16 [eL l] (eI (aJ l)):=by
 refine aa.e Tryz.func16 27 [.tmp 2] [0,2,3,5,8,9,10,11,12,23] ?_;refine cb (ae (λhc=>?_) λhc=>?_)
 · rw[show aJ l=2 from iw ag Bg.no (by simpa using hc)];exact aP.refl _
 have iP:¬(4096:Int)<(l.length:Int):=by
  have h:¬(4096:Int)<((l.map eA).length:Int):=by assumption
  rwa[ak] at h
 refine bY.bK (α:={i:Nat // i<=l.length/\aA ag Bg.no (ax Bg.no l i) (l.drop i)=aA ag Bg.no (-1) l}) mixed [0,2,3,5,8,9,10,11,12,23] (λi=>[(3,.p (eI (ax Bg.no l i.1))),(11,.p (eI i.1))]) (λi=>l.length-i.1) ⟨0,by omega,rfl⟩ ?_ ?_
 · exact aG trivial
 rintro⟨i,hi,hq⟩;have hi:i<=l.length:=hi;have hq:aA ag Bg.no (ax Bg.no l i) (l.drop i)=aA ag Bg.no (-1) l:=hq;refine bM cV (ae (λhc x hx=>ae (λhc=>ae (λhc=>?_) λhc=>?_) λhc=>?_) λhc=>?_)
 · rename_i h1
   have hx:l[i]? =some x:=hx;have hc:Bg.no x<=ax Bg.no l i:=hc;rw[show aJ l=180 from cT ag Bg.no iP (bC ag Bg.no hx hq (by rw[h1,decide_eq_false (by omega)];rfl))];exact aP.refl _
 · rename_i h1
   have hx:l[i]? =some x:=hx;have hc:¬ Bg.no x<=ax Bg.no l i:=hc;have aC:=(aq.1 hx).1;refine⟨⟨i+1,aC,bU ag Bg.no hx hq (by rw[h1,decide_eq_true (by omega)];rfl)⟩,by show l.length-(i+1)<l.length-i;omega,?_⟩;refine aG ?_
   all_goals(rw[bk Bg.no hx])
 · have hx:l[i]? =some x:=hx
   rw[show aJ l=180 from cT ag Bg.no iP (bC ag Bg.no hx hq (by rw[hc];rfl))];exact aP.refl _
 · have hc:¬(i:Int)<((l.map eA).length:Int):=hc
   rw[ak] at hc;rw[show aJ l=0 from iK ag Bg.no iP (cR ag Bg.no hq (by omega))];exact aP.refl _
theorem dH(l:List Bg)(hl:l.length<1000000):aa af 24 [eL l] (eI (aJ l)):=by
 refine aa.e Tryz.func24 37 [.tmp 2] [0,2,3,6,10,36] ?_;refine cb (ae (λhc=>?_) λhc=>?_)
 · rw[show aJ l=2 from iw ag Bg.no (by simpa using hc)];exact aP.refl _
 have iP:¬(4096:Int)<(l.length:Int):=by
  have h:¬(4096:Int)<((l.map eA).length:Int):=by assumption
  rwa[ak] at h
 refine bY.bK (α:={i:Nat // i<=l.length/\aA ag Bg.no (ax Bg.no l i) (l.drop i)=aA ag Bg.no (-1) l}) mixed [0,2,3,6,10,36] (λi=>[(3,.p (eI i.1))]) (λi=>l.length-i.1) ⟨0,by omega,rfl⟩ ?_ ?_
 · exact aG trivial
 rintro⟨i,hi,hq⟩;have hi:i<=l.length:=hi;have hq:aA ag Bg.no (ax Bg.no l i) (l.drop i)=aA ag Bg.no (-1) l:=hq;refine bM dG (ae (λhc x hx=>ae (λhc=>ae (λhc x hx x hx=>ae (λhc=>?_) λhc=>?_) λhc=>?_) λhc=>?_) λhc=>?_)
 · rename_i y h1 h2 z hz
   have h2:(0:Int)<(i:Int):=h2;have hx:l[i]? =some x:=hx;have hz:l[((i:Int)-1).toNat]? =some z:=hz;rw[show((i:Int)-1).toNat=i-1 by omega] at hz;(have gy:ax Bg.no l i=Bg.no z:=by obtain⟨j,rfl⟩:∃j,i=j+1:=⟨i-1,by omega⟩;exact bk Bg.no hz);rw[show aJ l=180 from cT ag Bg.no iP (bC ag Bg.no hx hq (by rw[gy,decide_eq_false (by omega)];simp))];exact aP.refl _
 · rename_i y hy h1 h2 z hz
   have h2:(0:Int)<(i:Int):=h2;have hx:l[i]? =some x:=hx;have hy:l[i]? =some y:=hy
   rw[hx] at hy;injection hy with hy;subst hy
   have hz:l[((i:Int)-1).toNat]? =some z:=hz;rw[show((i:Int)-1).toNat=i-1 by omega] at hz;(have gy:ax Bg.no l i=Bg.no z:=by obtain⟨j,rfl⟩:∃j,i=j+1:=⟨i-1,by omega⟩;exact bk Bg.no hz);have aC:=(aq.1 hx).1;refine⟨⟨i+1,aC,bU ag Bg.no hx hq (by rw[gy,h1,decide_eq_true (by omega)];rfl)⟩,by show l.length-(i+1)<l.length-i;omega,?_⟩;exact aG trivial
 · rename_i h1
   have hx:l[i]? =some x:=hx;have hc:¬(0:Int)<(i:Int):=hc;have aC:=(aq.1 hx).1;(have h0:i=0:=by omega);subst h0;have hn:=eJ h1;refine⟨⟨0+1,aC,bU ag Bg.no hx hq (by rw[h1];show(true&&decide ((-1:Int)<Bg.no x))=true;rw[decide_eq_true (by omega)];rfl)⟩,by show l.length-(0+1)<l.length-0;omega,?_⟩;exact aG trivial
 · have hx:l[i]? =some x:=hx
   rw[show aJ l=180 from cT ag Bg.no iP (bC ag Bg.no hx hq (by rw[hc];rfl))];exact aP.refl _
 · have hc:¬(i:Int)<((l.map eA).length:Int):=hc
   rw[ak] at hc;rw[show aJ l=0 from iK ag Bg.no iP (cR ag Bg.no hq (by omega))];exact aP.refl _
theorem Tb(x y:Bg):(decide (x.no=y.no)&&(decide (x.tm=y.tm)&&(decide (x.known=y.known)&&(decide (x.kind=y.kind)&&(decide (x.ia=y.ia)&&(decide (x.cnt=y.cnt)&&(decide (x.val=y.val)&&(x.gone==y.gone))))))))=decide (x=y):=by
 cases x;cases y;simp only[Bg.mk.injEq,Bool.decide_and]
 first|rfl|(congr;(rename_i a b;cases a<;>cases b<;>rfl))|(simp;done)
def eR(x:List Bg×Int):PV:= .bR [eL x.1,eI x.2]
theorem dI{l:List Bg}(h:aJ l=0):l.length<=4096/\(∀x∈l,ag x=true)/\l.Pairwise (λa b=>Bg.no a<Bg.no b):=by
 obtain⟨h1,h2⟩:=vY ag Bg.no (by decide) h;rw[gv] at h2;exact⟨by omega,λx hx=>(h2.1 x hx).1,h2.2⟩
abbrev Ky:=Int×Int
def ba(x:Bg):Ky:=(x.kind,x.ia)
def eK(k:Ky):PV:= .agg [eI k.1,eI k.2]
theorem lV:nM eK where
 eq:=λa b=>by
  obtain⟨a1,a2⟩:=a;obtain⟨b1,b2⟩:=b;show(decide (a1=b1)&&(decide (a2=b2)&&true))=_;simp[Bool.decide_and]
abbrev Mp:=List (Ky×Bg)
def ee(t k:Int)(x:Bg):Bool:=decide (x.tm<=t)&&decide (x.known<=k)
def BV(n:Int)(x:Bg):Bool:=decide (x.kind= -1)||decide (x.kind=n)
def cZ(n t k:Int)(x:Bg):Bool:=ee t k x&&BV n x
def J6(x y:Bg):Bool:=decide (y.tm<x.tm)||decide (x.tm=y.tm)&&decide (y.no<x.no)
theorem rR(x y:Bg):J6 x y=true↔after Bg.no Bg.tm x y:=by
 unfold J6 after;simp
def iV(n t k:Int)(m:Mp)(y:Bg):Mp:=if cZ n t k y then(match bn (ba y) m with|none=>dQ (ba y) y m|some z=>if z.tm<=y.tm then dQ (ba y) y m else m) else m
def foldM(n t k:Int)(l:List Bg):Mp:=l.foldl (iV n t k) []
theorem dV{n t k:Int}{l:List Bg}{i:Nat}{x:Bg}(h:l[i]? =some x):foldM n t k (l.take (i+1))=iV n t k (foldM n t k (l.take i)) x:=by
 unfold foldM;rw[bz,h];simp[fG]
theorem oO(n t k:Int)(l:List Bg)(q:Ky):∀i,bn q (foldM n t k (l.take i))=jC (cZ n t k) ba Bg.tm (l.take i) q:=by
 intro i
 induction i with
 |zero=>rfl
 |succ i ih=>
  cases hx:l[i]? with
  |none=>rw[bz,hx];simpa using ih
  |some x=>
   rw[dV hx,lf _ _ _ hx,<-ih];unfold iV zL
   cases hd:cZ n t k x with
   |false=>simp
   |true=>
   simp only[if_true,true_and];by_cases hk:ba x=q
   · subst hk
     simp only[if_true]
     cases hg:bn (ba x) (foldM n t k (l.take i)) with
     |none=>simp[dj]
     |some z=>
      simp only;split
      · simp[dj]
      · exact hg
   · simp only[hk,if_false]
     cases hg:bn (ba x) (foldM n t k (l.take i)) with
     |none=>simp only[dj];rw[if_neg (λe=>hk e.symm)]
     |some z=>
      simp only;split
      · rw[dj,if_neg (λe=>hk e.symm)]
      · rfl
def stM(M:Mp)(y:Bg):Bool:= !y.gone&&decide (bn (ba y) M=some y)
def Oj(l:List Bg)(n t k:Int):List Bg:=l.filter (stM (foldM n t k l))
theorem Tc:ko af 185=some (([.int .i64,.int .i64],true),35):=by kernel_rfl
abbrev xP:KT:=([.int .i64,.int .i64],true)
def lh(n:Nat):List Bg->AV
 |[]=>.p (.sl 0 true [])
 |a::r=>.bo n 8 0 (r.length+1)
def ln(n:Nat):List Bg->ab
 |[]=>[]
 |a::r=>[(n,.row 8 ((a::r).map eA))]
theorem ga(l:List Bg)(n t k:Int)(hl:l.length<1000000)(hr:∀x∈l,ag x=true):aa af 75 [eL l,eI n,eI t,eI k] (eL (Oj l n t k)):=by
 refine aa.e Tryz.func75 95 [.tmp 8] PF ?_;refine bM (kR Tc) ?_;refine bY.bq (α:={i:Nat // i<=l.length}) mixed PF (λi=>[(20,.p (eI i.1))]) (λi=>[(64,.map xP (eM eK eA (foldM n t k (l.take i.1))))]) (λ_=>0) (λi=>l.length-i.1) ⟨0,by omega⟩ ?_ ?_
 · exact aG trivial
 rintro⟨i,hi⟩;have hi:i<=l.length:=hi
 repeat' (first|exact fg|(refine stx ?_;first|exact bW _|refine aE ?_)|((fail_if_success refine ft ?_);(conv=>whnf)<;>(first|exact fh|refine jr.of (bj eA lV (ba x) (foldM n t k (l.take i))) (λz hz=>?_) (λhz=>?_)|refine str ?_|refine Br.dec (λhc=>?_) λhc=>?_|refine Br.mk (λhc=>?_) λhc=>?_|exact PV.ao|refine PV.ai ?_ ?_|refine ae ?_ ?_|refine aD λx hx=>?_|refine aE ?_|refine bX (λhn=>?_) ?_|exact fv|refine bS λaZ=>?_|refine al ?_ ?_|rw[Tc]|refine fu ?_|fail)))<;>(try exact fi)
 rotate_right
 · have hc:¬(i:Int)<((l.map eA).length:Int):=hc
   rw[ak] at hc;have eF:l.take i=l:=bN (by omega)
   have hpg:∀y∈l,1<=y.ia:=λy hy=>by
    have:=hr y hy;simp[ag,bh] at this;omega
   refine bY.bq (α:={j:Nat // j<=l.length}) mixed PF (λj=>[(8,lh 1 ((l.take j.1).filter (stM (foldM n t k l)))),(71,.p (eI j.1))]) (λj=>ln 1 ((l.take j.1).filter (stM (foldM n t k l)))) (λ_=>0) (λj=>l.length-j.1) ⟨0,by omega⟩ ?_ ?_
   · exact aG trivial
   rintro⟨j,hj⟩;have hj:j<=l.length:=hj;have PD:((l.take j).filter (stM (foldM n t k l))).length<=l.length:=Nat.le_trans (iB _ _) (by rw[dy];omega)
   cases hG:(l.take j).filter (stM (foldM n t k l)) with
   |nil=>
    repeat' (first|exact fg|(refine stx ?_;first|exact bW _|refine aE ?_)|((fail_if_success refine ft ?_);(conv=>whnf)<;>(first|exact fh|refine jr.of (bj eA lV (ba x) (foldM n t k (l.take i))) (λz hz=>?_) (λhz=>?_)|refine str ?_|refine Br.dec (λhc=>?_) λhc=>?_|refine Br.mk (λhc=>?_) λhc=>?_|exact PV.ao|refine PV.ai ?_ ?_|refine ae ?_ ?_|refine aD λx hx=>?_|refine aE ?_|refine bX (λhn=>?_) ?_|exact fv|refine bS λaZ=>?_|refine al ?_ ?_|rw[Tc]|refine fu ?_|fail)))<;>(try exact fi)
    all_goals try(
     have sF:l[j]? =some x:=hx;have hpx:=hpg x (aO sF);have ub:=iy (stM (foldM n t k l)) sF;have aC:=(aq.1 sF).1;rw[hG] at ub;refine⟨⟨j+1,aC⟩,by show l.length-(j+1)<l.length-j;omega,?_⟩;show di _ _ (kj PF _ _ _ [(8,lh 1 ((l.take (j+1)).filter (stM (foldM n t k l)))),(71,.p (eI ((j+1:Nat):Int)))] (ln 1 ((l.take (j+1)).filter (stM (foldM n t k l)))) _)
     try rw[eF] at hz)
    · rw[show stM (foldM n t k l) x=false by simp[stM,hc]] at ub
      rw[ub];show di _ _ (kj _ _ _ _ [(8,lh 1 []),_] (ln 1 []) _);exact aG trivial
    · rw[Tb] at hc
      have hc:=of_decide_eq_true hc;subst hc;(have hg:z.gone=false:=by assumption);rw[show stM (foldM n t k l) z=true by simp[stM,hg,hz]] at ub;rw[ub];show di _ _ (kj _ _ _ _ [(8,lh 1 [z]),_] (ln 1 [z]) _);exact aG trivial
      skip
    · rw[Tb] at hc
      have hc:=of_decide_eq_false hc;rw[show stM (foldM n t k l) x=false by simp[stM,hz];intro _ h;exact hc h] at ub;rw[ub];show di _ _ (kj _ _ _ _ [(8,lh 1 []),_] (ln 1 []) _);exact aG trivial
    · exfalso
      simp at hc;omega
    · rw[show stM (foldM n t k l) x=false by simp[stM,hz]] at ub
      rw[ub];show di _ _ (kj _ _ _ _ [(8,lh 1 []),_] (ln 1 []) _);exact aG trivial
    · have hc:¬(j:Int)<((l.map eA).length:Int):=hc
      rw[ak] at hc;rw[bN (by omega)] at hG;unfold Oj;rw[hG];exact aP.mk (PV.le_nil _ _ _)
   |cons a r=>
    have oI:r.length+1<=1000000:=by rw[hG] at PD;simp at PD;omega
    repeat' (first|exact fg|(refine stx ?_;first|exact bW _|refine aE ?_)|((fail_if_success refine ft ?_);(conv=>whnf)<;>(first|exact fh|refine jr.of (bj eA lV (ba x) (foldM n t k (l.take i))) (λz hz=>?_) (λhz=>?_)|refine str ?_|refine Br.dec (λhc=>?_) λhc=>?_|refine Br.mk (λhc=>?_) λhc=>?_|exact PV.ao|refine PV.ai ?_ ?_|refine ae ?_ ?_|refine aD λx hx=>?_|refine aE ?_|refine bX (λhn=>?_) ?_|exact fv|refine bS λaZ=>?_|refine al ?_ ?_|rw[Tc]|refine fu ?_|fail)))<;>(try exact fi)
    (all_goals(try((first|(with_reducible show(_:Int)<=_)|(with_reducible show(_:Int)<_)|(with_reducible show(_:Nat)<=_)|(with_reducible show(_:Nat)<_)|(with_reducible show ¬ _)|(with_reducible show(_:Int)=_)|(with_reducible show(_:Nat)=_)|(with_reducible show False));(try dsimp only at *);(try simp only[ak,List.length_append,List.length_cons,List.length_nil,List.length_replicate,dy,List.length_drop,List.length_set,Int.toNat_natCast,Int.reduceToNat] at *);omega)))
    all_goals try(
     have sF:l[j]? =some x:=hx;have hpx:=hpg x (aO sF);have ub:=iy (stM (foldM n t k l)) sF;have aC:=(aq.1 sF).1;rw[hG] at ub;refine⟨⟨j+1,aC⟩,by show l.length-(j+1)<l.length-j;omega,?_⟩;show di _ _ (kj PF _ _ _ [(8,lh 1 ((l.take (j+1)).filter (stM (foldM n t k l)))),(71,.p (eI ((j+1:Nat):Int)))] (ln 1 ((l.take (j+1)).filter (stM (foldM n t k l)))) _)
     try rw[eF] at hz)
    · rw[show stM (foldM n t k l) x=false by simp[stM,hc]] at ub
      rw[ub];rw[show(a::r++if false=true then[_] else[])=a::r by simp];exact aG trivial
    · rw[Tb] at hc
      have hc:=of_decide_eq_true hc;subst hc;(have hg:z.gone=false:=by assumption);rw[show stM (foldM n t k l) z=true by simp[stM,hg,hz]] at ub;rw[ub];show di _ _ (kj _ _ _ _ [(8,lh 1 (a::(r++[z]))),_] (ln 1 (a::(r++[z]))) _);refine aG ?_
      all_goals first|(simp;done)|(show(a::r).map eA++[eA z]=(a::(r++[z])).map eA;simp;done)
    · rw[Tb] at hc
      have hc:=of_decide_eq_false hc;rw[show stM (foldM n t k l) x=false by simp[stM,hz];intro _ h;exact hc h] at ub;rw[ub];rw[show(a::r++if false=true then[_] else[])=a::r by simp];exact aG trivial
    · exfalso
      simp at hc;omega
    · rw[show stM (foldM n t k l) x=false by simp[stM,hz]] at ub
      rw[ub];rw[show(a::r++if false=true then[_] else[])=a::r by simp];exact aG trivial
    · have hc:¬(j:Int)<((l.map eA).length:Int):=hc
      rw[ak] at hc;rw[bN (by omega)] at hG;unfold Oj;rw[hG];refine aP.of ?_;show PV.sl 8 false _=PV.sl 8 false _;congr 1;rw[List.drop_zero,bN (by simp)]
 all_goals(
  have sF:l[i]? =some x:=hx;have ub:=dV (n:=n) (t:=t) (k:=k) sF;have aC:=(aq.1 sF).1;refine⟨⟨i+1,aC⟩,by show l.length-(i+1)<l.length-i;omega,?_⟩
  (first|refine di.Vz [] ?_|refine di.T8 [] ?_)<;>(repeat' (first|exact trivial|refine fe.dd ?_|refine fe.mk rfl (by simp) rfl (λh=>bJ.noConfusion h) ?_ ?_|refine ae ?_ ?_|exact Pu|refine cW.pe ?_|refine cW.agg ?_|refine cW.bR ?_|refine cW.fn ?_ ?_|refine iv.cons ?_ ?_|exact iv.nil|exact dL.row _ _|rfl|refine cW.zB rfl ?_ ?_ ?_|refine dL.rb ?_ ?_|refine dL.xI ?_ ?_|refine dL.rC ?_|refine dL.rf ?_ ?_|refine dL.pV ?_ ?_|refine dL.pW ?_ ?_ ?_))<;>try(first|(simp;done)|(congr 1;omega)|(congr 1;(first|(simp;done)|(simp;omega)))))
 all_goals(
  rw[ub]
  first
  |(have hd:cZ n t k x=false:=by(rw[Bool.eq_false_iff];simp[cZ,ee,BV];omega)
    unfold iV;rw[hd];rfl)
  |(have hd:cZ n t k x=true:=by(simp[cZ,ee,BV];omega)
    unfold iV;rw[hd,if_pos rfl,hz]
    first
    |exact cU eA lV (ba x) x _
    |(simp only;rw[if_pos hc];exact cU eA lV (ba x) x _)
    |(simp only;rw[if_neg hc])))
def Td(t k:Int)(y z:Bg):Bool:=decide (ba z=ba y)&&(ee t k z&&J6 z y)
def jN(l:List Bg)(t k:Int)(y:Bg):Bool:= !y.gone&&ee t k y&& !l.any (Td t k y)
def lg(l:List Bg)(n t k:Int):List Bg:=l.filter λy=>BV n y&&jN l t k y
theorem ER(l:List Bg)(n t k:Int)(hs:l.Pairwise (λa b=>a.no<b.no)):Oj l n t k=lg l n t k:=by
 unfold Oj lg;refine List.filter_congr λy hy=>?_;have du:=oO n t k l (ba y) l.length;rw[eG] at du;have iO:=zM Bg.no (cZ n t k) ba Bg.tm hs hy;unfold stM;rw[du,Bool.eq_iff_iff];simp only[aQ,Bool.not_eq_true',decide_eq_true_eq,iO,jN,List.any_eq_false,Td,cZ,not_and];constructor
 · rintro⟨h1,⟨h2,h3⟩,h4⟩
   refine⟨h3,⟨h1,h2⟩,λz hz hk hc=>?_⟩
   have hf:BV n z=true:=by
    have e:z.kind=y.kind:=congrArg Prod.fst hk;simpa[BV,e] using h3
   rw[rR];exact h4 z hz ⟨hc,hf⟩ hk
 · rintro⟨h3,⟨h1,h2⟩,h4⟩
   refine⟨h1,⟨h2,h3⟩,λz hz hc hk=>?_⟩;have:=h4 z hz hk hc.1;rwa[rR] at this
theorem p8(l:List Bg)(n t k:Int)(hl:l.length<1000000)(hr:∀x∈l,ag x=true)(hs:l.Pairwise (λa b=>a.no<b.no)):aa af 75 [eL l,eI n,eI t,eI k] (eL (lg l n t k)):=by
 have:=ga l n t k hl hr;rwa[ER l n t k hs] at this
def kh(n t k:Int):Bool:=bh 0 15 n&&(bh 0 TM t&&bh 0 TM k)
def wq(l:List Bg)(n t k:Int):List Bg×Int:=if aJ l=0 then(if kh n t k then(lg l n t k,0) else([],1)) else([],aJ l)
theorem nh(l:List Bg)(n t k:Int)(hl:l.length<1000000):aa af 29 [eL l,eI n,eI t,eI k] (eR (wq l n t k)):=by
 have q1:=bm l hl;by_cases hz:aJ l=0
 · rw[hz] at q1
   unfold wq;rw[if_pos hz];obtain⟨_,hr,hs⟩:=dI hz;have q2:=p8 l n t k hl hr hs;refine aa.e Tryz.func29 32 [.tmp 8,.tmp 9] [0,1,2,3,8,9,10,14,26] ?_;refine oa q1 (kZ (w1 0 15 n)) (kZ (w2 0 TM t k)) q2 (ae (λhc=>ae (λhc=>?_) λhc=>?_) λhc=>?_)
   · rename_i h1
     rw[if_pos (show kh n t k=true by unfold kh;rw[h1,hc];rfl)];exact aP.refl _
   · rename_i h1
     rw[if_neg (show ¬ kh n t k=true by unfold kh;rw[h1,hc];simp)];exact aP.mk (PV.fU (PV.ai (PV.le_nil _ _ _) (PV.dE _)))
   · rw[if_neg (show ¬ kh n t k=true by unfold kh;rw[hc];simp)];exact aP.mk (PV.fU (PV.ai (PV.le_nil _ _ _) (PV.dE _)))
 · unfold wq
   rw[if_neg hz];refine aa.e Tryz.func29 32 [.tmp 8,.tmp 9] [0,1,2,3,8,9,10,14,26] ?_;refine bM q1 (λhc=>?_)
   · all_goals(exact fin)
def rU(x:Us):Bool:=bh 0 4095 x.doc&&bh 0 15 x.kind&&bh 0 1099511627776 x.val&&(bh 0 TM x.tm&&bh 0 TM x.known)
def yf(u:List Us):Bool:=u.all rU&&decide ((u.map Us.doc).Nodup)
def iC(l:List Us):List (Int×Bool):=l.foldl (λm x=>dQ x.doc true m) []
theorem rT(l:List Us)(d:Int):∀i,bn d (iC (l.take i))=if d∈(l.take i).map Us.doc then some true else none:=by
 intro i
 induction i with
 |zero=>rfl
 |succ i ih=>
  cases hx:l[i]? with
  |none=>rw[bz,hx];simpa using ih
  |some x=>
   have e:iC (l.take (i+1))=dQ x.doc true (iC (l.take i)):=by
    unfold iC;rw[bz,hx];simp[fG]
   rw[e,dj,ih,bz,hx];simp only[Option.toList,iq,bE,dw,List.mem_append,gE];by_cases h:x.doc=d
   · simp[h]
   · have h':¬ d=x.doc:=λe=>h e.symm
     simp[h,h']
theorem Dq{l:List Us}{i:Nat}{x:Us}(h:l[i]? =some x):iC (l.take (i+1))=dQ x.doc true (iC (l.take i)):=by
 unfold iC;rw[bz,h];simp[fG]
abbrev tV:KT:=([.int .i64],false)
theorem iM:nM eI where
 eq:=λa b=>by
  show(decide (a=b)&&true)=_;simp
theorem ES{u:List Us}{i:Nat}{x:Us}(hx:u[i]? =some x)(h:rU x=false\/x.doc∈(u.take i).map Us.doc):yf u=false:=by
 unfold yf;rcases h with h|h
 · have:u.all rU=false:=by rw[List.all_eq_false];exact⟨x,aO hx,by rw[h];simp⟩
   rw[this];rfl
 · have:¬(u.map Us.doc).Nodup:=by
    intro hn;(have e:u.map Us.doc=(u.take i).map Us.doc++(u.drop i).map Us.doc:=by rw[<-iq,List.take_append_drop]);rw[e,List.nodup_append] at hn;have aC:=(aq.1 hx);obtain⟨aC,sM⟩:=aC;exact hn.2.2 _ h _ (List.mem_map_of_mem (by rw[List.drop_eq_getElem_cons aC,sM];exact List.mem_cons_self)) rfl
   rw[decide_eq_false this];simp
def Qg(u:List Us)(i:Nat):Prop:=((u.take i).all rU=true/\((u.take i).map Us.doc).Nodup)
theorem HP{u:List Us}{i:Nat}{x:Us}(hx:u[i]? =some x)(h:Qg u i)(hr:rU x=true)(hd:¬ x.doc∈(u.take i).map Us.doc):Qg u (i+1):=by
 unfold Qg at *;rw[bz,hx];refine⟨?_,?_⟩
 · simp only[Option.toList,List.all_append,h.1,List.all_cons,List.all_nil,hr];rfl
 · simp only[Option.toList,iq,bE,dw]
   rw[List.nodup_append];refine⟨h.2,by simp,?_⟩;intro a ha b hb;rw[gE] at hb;subst hb;intro e;subst e;exact hd ha
theorem LM{u:List Us}{i:Nat}(h:Qg u i)(hi:u.length<=i):yf u=true:=by
 unfold Qg at h;rw[bN hi] at h;unfold yf;rw[h.1,decide_eq_true h.2];rfl
theorem J7(u:List Us)(hl:u.length<1000000):aa af 85 [EK u] (.bool (yf u)):=by
 refine aa.e Tryz.func85 51 [.tmp 2] [0,2,3,5,7,8,9,10,46] ?_;refine cb ?_;refine bY.bq (α:={i:Nat // i<=u.length/\Qg u i}) mixed [0,2,3,5,7,8,9,10,46] (λi=>[(9,.p (eI i.1))]) (λi=>[(64,.map tV (eM eI PV.bool (iC (u.take i.1))))]) (λ_=>0) (λi=>u.length-i.1) ⟨0,by omega,by simp[Qg]⟩ ?_ ?_
 · exact aG trivial
 rintro⟨i,hi,hq⟩;have hi:i<=u.length:=hi;have hq:Qg u i:=hq
 repeat' (first|exact fg|(refine stx ?_;first|exact bW _|refine aE ?_)|(refine kq ?_;first|refine fR (kZ (w1 0 4095 x.doc)) ?_|refine fR (kZ (w1 0 15 x.kind)) ?_|refine fR (kZ (w1 0 1099511627776 x.val)) ?_|refine fR (kZ (w2 0 TM x.tm x.known)) ?_)|((fail_if_success refine ft ?_);(conv=>whnf)<;>(first|exact fh|refine jr.of (bj PV.bool iM x.doc (iC (u.take i))) (λz hz=>?_) (λhz=>?_)|refine str ?_|refine Br.dec (λhc=>?_) λhc=>?_|refine Br.mk (λhc=>?_) λhc=>?_|exact PV.ao|refine PV.ai ?_ ?_|refine ae ?_ ?_|refine aD λx hx=>?_|refine aE ?_|refine bX (λhn=>?_) ?_|exact fv|refine bS λaZ=>?_|refine al ?_ ?_|refine fu ?_|fail)))<;>(try exact fi)
 all_goals first
 |(have hc:¬(i:Int)<((u.map eU).length:Int):=hc
   rw[ak] at hc
   rw[LM hq (by omega)];exact aP.refl _)
 |(have sF:u[i]? =some x:=hx
   have hg:=rT u x.doc i;rw[hz] at hg
   first
   |(have hr:rU x=false:=by simp only[rU, *,ji,jE,dZ]
     rw[ES sF (Or.inl hr)];exact aP.refl _)
   |(have hd:x.doc∈(u.take i).map Us.doc:=by
      rcases mQ (x.doc∈(u.take i).map Us.doc) with h|h
      · exact h
      · rw[if_neg h] at hg;simp_all
     rw[ES sF (Or.inr hd)];exact aP.refl _)
   |(have hr:rU x=true:=by simp only[rU, *,Bool.and_self]
     have hd:¬ x.doc∈(u.take i).map Us.doc:=by
      intro h;rw[if_pos h] at hg;simp_all
     refine⟨⟨i+1,(aq.1 sF).1,HP sF hq hr hd⟩,by show u.length-(i+1)<u.length-i;have:=(aq.1 sF).1;omega,?_⟩;refine aG ?_
     all_goals(show _=eM eI PV.bool (iC (u.take (i+1)));rw[Dq sF,<-cU PV.bool iM])))
def gb(b:Bg)(t k:Int)(x:Us):Bool:=decide (x.known<=k)&&(decide (b.kind= -1)||decide (b.kind=x.kind))&&decide (x.tm.tdiv b.ia=t.tdiv b.ia)
abbrev Y1(b:Bg)(u:List Us)(t k:Int):List PV:=[.ro [EK u],.ro [eI k],.ro [eI b.no,eI b.tm,eI b.known,eI b.kind,eI b.ia,eI b.cnt,eI b.val,.bool b.gone],.ro [eI t]]
theorem J8(b:Bg)(u:List Us)(t k:Int):aa af 86 [eA b,EK u,eI t,eI k] (.fn (.func 145) [] (Y1 b u t k)):=by
 refine aa.e Tryz.func86 10 [.tmp 8] [0,1,2,3,4,5,6,7,8] ?_;exact cb trivial
 all_goals(exact fin)
theorem u9{a b:Int}(ha:0<=a)(hb:1<=b):0<=a.tdiv b/\a.tdiv b<=a:=by
 refine⟨Int.tdiv_nonneg ha (by omega),?_⟩;rw[Int.tdiv_eq_ediv_of_nonneg ha];exact Int.ediv_le_self b ha
theorem Dr{x:Us}(h:rU x=true):0<=x.tm/\x.tm<=TM:=by
 simp only[rU,bh,aQ,decide_eq_true_eq] at h;exact h.2.1
theorem ET{x:Us}(h:rU x=true):0<=x.val/\x.val<=1099511627776:=by
 simp only[rU,bh,aQ,decide_eq_true_eq] at h;exact h.1.2
theorem NG(b:Bg)(u:List Us)(t k:Int)(hl:u.length<1000000)(hb:1<=b.ia)(ht:0<=t/\t<=TM)(hu:∀x∈u,rU x=true):Iter af 145 (Y1 b u t k) ((u.filter (gb b t k)).map λy=>[eI y.val]):=by
 refine Iter.e Tryz.func145 50 Uf ?_;intro G hG si jM;refine cb ?_;refine bY.bq (α:={i:Nat // i<=u.length/\bF (gb b t k) u i<=G.stop}) mixed Uf (λi=>[(10,.p (eI i.1))]) (λ_=>[]) (λi=>bF (gb b t k) u i.1) (λi=>u.length-i.1) ⟨0,by omega,by simp[bF]⟩ ?_ ?_
 · exact aG trivial
 rintro⟨i,hi,hs⟩;have hi:i<=u.length:=hi;have hs:bF (gb b t k) u i<=G.stop:=hs;(have BC:G.xs.length=(u.filter (gb b t k)).length:=by rw[jM];simp);have htd:=u9 ht.1 hb;refine cb (ae (λhc x hx=>ae (λhc=>ae (λhc=>ae (ae ?_ ?_) (ae ?_ (ae (λhc=>ae (ae ?_ ?_) (ae (λhc=>?_) λhc=>?_)) λhc=>?_))) λhc=>ae (λhc=>ae (ae ?_ ?_) (ae ?_ (ae (λhc=>ae (ae ?_ ?_) (ae (λhc=>?_) λhc=>?_)) λhc=>?_))) λhc=>?_) λhc=>?_) λhc=>?_)
 all_goals first
 |(have hc:¬(i:Int)<((u.map eU).length:Int):=hc
   rw[ak] at hc;have e:=mZ (gb b t k) (show u.length<=i by omega);show bF (gb b t k) u i=min (G.stop+1) ((u.filter (gb b t k)).map λy=>[eI y.val]).length
   rw[ak];omega)
 |(have hx:u[i]? =some x:=hx
   have Y2:=hu x (aO hx);have htx:=u9 (Dr Y2).1 hb;have hbx:=(Dr Y2).2;have FL:=ht.2;simp only[TM] at hbx FL
   first
   |omega
   |(have hq:gb b t k x=false:=by first|(simp_all [gb];done)|(simp_all [gb];intros;omega)
     have aC:=(aq.1 hx).1;have e:=mn (gb b t k) hx hq;refine⟨⟨i+1,aC,by show bF (gb b t k) u (i+1)<=G.stop;omega⟩,by show u.length-(i+1)<u.length-i;omega,?_⟩;refine aG ?_
     exact e)
   |(have hq:gb b t k x=true:=by simp_all [gb];done
     have aC:=(aq.1 hx).1;have h1:=(aq.1 (ew (gb b t k) hx hq)).1
     first
     |(show bF (gb b t k) u i<G.xs.length
       omega)
     |(show _=List.map AV.p (G.xs.getD (bF (gb b t k) u i) [])
       have e:G.xs.getD (bF (gb b t k) u i) []=[eI x.val]:=by
        rw[jM];simp[cF,ew (gb b t k) hx hq]
       rw[e];rfl)
     |(have hc:bF (gb b t k) u i≠G.stop:=hc
       have e:=mY (gb b t k) hx hq;refine⟨⟨i+1,aC,by show bF (gb b t k) u (i+1)<=G.stop;omega⟩,by show u.length-(i+1)<u.length-i;omega,?_⟩;refine aG ?_
       exact e)
     |(have hc:¬ bF (gb b t k) u i≠G.stop:=hc
       show bF (gb b t k) u i+1=min (G.stop+1) ((u.filter (gb b t k)).map λy=>[eI y.val]).length
       rw[ak];omega)))
def kv(l:List Us):Int:=(l.map Us.val).sum
def nP(u:List Us)(v t k:Int)(b:Bg):Bool:=decide (b.cnt<1+((u.filter (gb b t k)).length:Int))||decide (b.val<v+kv (u.filter (gb b t k)))
def J9(n v t k:Int):Bool:=bh 0 15 n&&bh 0 1099511627776 v&&(bh 0 TM t&&bh 0 TM k)
def sZ(S:List Bg)(u:List Us)(v t k:Int):Int×Bool×Int:=match S.find? (nP u v t k) with|some b=>(b.no,false,0)|none=>(-1,true,0)
def kC(l:List Bg)(u:List Us)(n v t k:Int):Int×Bool×Int:=if aJ l=0 then(if u.length<=4096 then(if yf u then(if J9 n v t k then sZ (lg l n t k) u v t k else(0,false,1)) else(0,false,180)) else(0,false,2)) else(0,false,aJ l)
theorem Ds{F:List Us}{i:Nat}{y:Us}(h:F[i]? =some y):kv (F.take (i+1))=kv (F.take i)+y.val:=by
 unfold kv;rw[bz,h];simp[iq]
theorem EU(F:List Us)(hF:∀y∈F,0<=y.val/\y.val<=1099511627776):∀i,0<=kv (F.take i)/\kv (F.take i)<=1099511627776*(i:Int):=by
 intro i
 induction i with
 |zero=>simp[kv]
 |succ i ih=>
  cases hx:F[i]? with
  |none=>
   (have:F.take (i+1)=F.take i:=by rw[bz,hx];simp);rw[this];omega
  |some y=>
   have:=hF y (aO hx);rw[Ds hx];omega
theorem HQ{S:List Bg}{u:List Us}{v t k:Int}{j:Nat}{x:Bg}(hq:∀i b,i<j->S[i]? =some b->nP u v t k b=false)(hx:S[j]? =some x)(h:nP u v t k x=true):sZ S u v t k=(x.no,false,0):=by
 have:S.find? (nP u v t k)=some x:=by
  rw[List.find?_eq_some_iff_getElem];have aC:=aq.1 hx;obtain⟨aC,he⟩:=aC;refine⟨h,j,aC,he,λi gx=>?_⟩;rw[hq i _ gx (aV (by omega))];rfl
 unfold sZ;rw[this]
theorem J'{S:List Bg}{u:List Us}{v t k:Int}{j:Nat}(hq:∀i b,i<j->S[i]? =some b->nP u v t k b=false)(hj:S.length<=j):sZ S u v t k=(-1,true,0):=by
 have:S.find? (nP u v t k)=none:=by
  rw[List.find?_eq_none];intro b hb;obtain⟨i,hi⟩:=List.getElem?_of_mem hb;have:=(aq.1 hi).1;rw[hq i b (by omega) hi];simp
 unfold sZ;rw[this]
theorem Ax(l:List Bg)(u:List Us)(n v t k:Int)(hl:l.length<1000000)(Lz:u.length<1000000):aa af 34 [eL l,EK u,eI n,eI v,eI t,eI k] (.bR [eI (kC l u n v t k).1,.bool (kC l u n v t k).2.1,eI (kC l u n v t k).2.2]):=by
 have q1:=bm l hl;have q2:=J7 u Lz;by_cases hz:aJ l=0
 · rw[hz] at q1
   unfold kC;rw[if_pos hz];obtain⟨_,hr,hs⟩:=dI hz;have q3:=p8 l n t k hl hr hs;have q4:=λb=>J8 b u t k;refine aa.e Tryz.func34 84 [.tmp 12,.tmp 13,.tmp 14] SO ?_;refine Ri q1 q2 (kZ (w1 0 15 n)) (kZ (w1 0 1099511627776 v)) (kZ (w2 0 TM t k)) q3 q4 (ae (λhc=>?_) λhc=>ae (λhc=>ae (λhc=>ae (λhc=>ae (λhc=>?_) λhc=>?_) λhc=>?_) λhc=>?_) λhc=>?_)
   all_goals first
   |(have hc:(4096:Int)<((u.map eU).length:Int):=hc
     rw[ak] at hc
     rw[if_neg (by omega)];exact aP.refl _)
   |(have hu4:¬(4096:Int)<((u.map eU).length:Int):=by assumption
     rw[ak] at hu4;rw[if_pos (show u.length<=4096 by omega)]
     first
     |(rw[if_neg (show ¬ yf u=true by simp[*])];exact aP.refl _)
     |(rw[if_pos (show yf u=true by assumption),if_neg (show ¬ J9 n v t k=true by simp only[J9, *,ji,jE,dZ];simp)];exact aP.refl _)
     |(rw[if_pos (show yf u=true by assumption),if_pos (show J9 n v t k=true by simp only[J9, *,Bool.and_self])];skip))
   have hU:∀x∈u,rU x=true:=λx hx=>by
    (have h:yf u=true:=by assumption);unfold yf at h;rw[aQ] at h;exact List.all_eq_true.1 h.1 x hx
   have hV:0<=v/\v<=1099511627776:=by
    (have h:bh 0 1099511627776 v=true:=by assumption);simpa[bh] using h
   have hT:0<=t/\t<=TM:=by
    (have h:(bh 0 TM t&&bh 0 TM k)=true:=by assumption);rw[aQ] at h;simpa[bh] using h.1
   have hS:∀b∈lg l n t k,ag b=true:=λb hb=>hr b (dN.1 hb).1;have hSl:(lg l n t k).length<1000000:=Nat.lt_of_le_of_lt (iB _ _) hl;clear q1 q2 q3;generalize lg l n t k=S at *;refine bY.bq (α:={j:Nat // j<=S.length/\ ∀i b,i<j->S[i]? =some b->nP u v t k b=false}) mixed SO (λj=>[(55,.p (eI j.1))]) (λ_=>[(1728,.dead),(1280,.dead),(960,.dead)]) (λ_=>0) (λj=>S.length-j.1) ⟨0,by omega,λi b h=>absurd h (by omega)⟩ ?_ ?_
   · exact aG trivial
   rintro⟨j,hj,hq⟩;have hj:j<=S.length:=hj;have hq:∀i b,i<j->S[i]? =some b->nP u v t k b=false:=hq;clear hc;refine bM q4 (ae (λhc x hx=>?_) λhc=>?_)
   · have hx:S[j]? =some x:=hx
     have Uv:=hS x (aO hx);(have Y3:1<=x.ia:=by simp[ag,bh] at Uv;omega);have gh:=NG x u t k Lz Y3 hT hU;have hF:∀y∈u.filter (gb x t k),0<=y.val/\y.val<=1099511627776:=λy hy=>ET (hU y (dN.1 hy).1);have WW:=iB (gb x t k) u;have Rt:nP u v t k x=(decide (x.cnt<1+((u.filter (gb x t k)).length:Int))||decide (x.val<v+kv (u.filter (gb x t k)))):=rfl
     have jd:∀y∈((u.filter (gb x t k)).map λy=>[eI y.val]),y.length=1:=λy hy=>by
      obtain⟨z,_,rfl⟩:=List.mem_map.1 hy;rfl
     (have du:∀i y,(u.filter (gb x t k))[i]? =some y->((u.filter (gb x t k)).map λy=>[eI y.val]).getD i []=[eI y.val]:=λi y h=>by simp[cF,h]);generalize u.filter (gb x t k)=F at *;refine bY.range mixed gh (by kernel_rfl) rfl SO F.length [2624,2816,2880] (λi=>([(2880,.cells [.p (eI (v+kv (F.take i)))]),(2816,.cells [.p (eI (1+i))]),(2624,.cells [.p (eI x.no),.p (eI x.tm),.p (eI x.known),.p (eI x.kind),.p (eI x.ia),.p (eI x.cnt),.p (eI x.val),.p (.bool x.gone)])],3392)) (by simp[kv];rfl) (gN rfl) (by simp) (by simp) jd (λi hi hm=>?_) (λ_=>?_)
     · rw[ak] at hi
       obtain⟨y,hy⟩:∃y,F[i]? =some y:=⟨_,aV hi⟩;rw[du i y hy];have cu:=Ds hy;have hsb:=EU F hF i;have hsb2:=EU F hF (i+1);refine cb ?_;exact nq trivial
     · have eF:F.take (F.map λy=>[eI y.val]).length=F:=by rw[ak,eG]
       have hsb:=EU F hF F.length;rw[eG] at hsb;refine cb (ae (λhc=>?_) λhc=>ae (λhc=>?_) λhc=>?_)
       · rw[ak] at hc
         rw[HQ hq hx (by rw[Rt,decide_eq_true hc];rfl)];exact aP.refl _
       · rw[eF] at hc
         rw[HQ hq hx (by rw[Rt,decide_eq_true hc];simp)];exact aP.refl _
       · rw[eF] at hc
         (have wG:¬ x.cnt<1+((F.map λy=>[eI y.val]).length:Int):=by assumption);rw[ak] at wG;have aC:=(aq.1 hx).1;refine⟨⟨j+1,aC,nU hq hx (by rw[Rt,decide_eq_false hc,decide_eq_false wG];rfl)⟩,by show S.length-(j+1)<S.length-j;omega,?_⟩;exact aG trivial
   · have hc:¬(j:Int)<((S.map eA).length:Int):=hc
     rw[ak] at hc;rw[J' hq (by omega)];exact aP.refl _
 · unfold kC
   rw[if_neg hz];refine aa.e Tryz.func34 84 [.tmp 12,.tmp 13,.tmp 14] SO ?_;exact bM q1 trivial
end bx
end Go.Proofs.YtmaiccmhkmndcaaGreatDoor
