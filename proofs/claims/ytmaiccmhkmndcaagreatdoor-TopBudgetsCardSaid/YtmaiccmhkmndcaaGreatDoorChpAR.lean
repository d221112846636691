/- A part of the proof: contracts of the functions that the statement reaches. -/
import Derived.Test.YtmaiccmhkmndcaaGreatDoorChpAN
import Derived.Test.YtmaiccmhkmndcaaGreatDoorChpAE
import Derived.Test.YtmaiccmhkmndcaaGreatDoorChpAA
set_option linter.unusedSimpArgs false
set_option linter.unusedVariables false
set_option linter.unnecessarySimpa false
set_option maxRecDepth 100000
set_option maxHeartbeats 40000000
open And renaming intro->ae
open Go.Proofs.Tryz renaming prog->af
open List renaming length_map->ak,getElem?_eq_some_iff->aq,getD->cF
open Nat renaming zero_lt_succ->iz,le_of_ble_eq_true->qq
namespace Go.Proofs.YtmaiccmhkmndcaaGreatDoor
open Go Go.Sg
namespace Ve
abbrev TM:Int:=1099511627775
structure Am where
 no:Int
 tm:Int
 known:Int
 key:Int
 val:Int
 gone:Bool
 deriving DecidableEq
def eA(x:Am):PV:= .agg [eI x.no,eI x.tm,eI x.known,eI x.key,eI x.val,.bool x.gone]
def eL(l:List Am):PV:= .sl 6 false (l.map eA)
theorem aB(n hi:Int):aa af 76 [eI n,eI hi] (.bool (bh 0 hi n)):=by
 refine aa.e Tryz.func76 12 [.tmp 4] [0,1,4] ?_;refine cb (ae (λhc=>?_) λhc=>?_)
 all_goals((try simp only[bh, *]);exact fin)
def ag(x:Am):Bool:=bh 0 1048576 x.no&&bh 0 1048576 x.key&&bh 0 TM x.tm&&bh 0 TM x.known&&bh 0 1099511627776 x.val&&(!x.gone||decide (x.val=0))
theorem cV(x:Am):aa af 73 [eA x] (.bool (ag x)):=by
 refine aa.e Tryz.func73 36 [.tmp 2] [0,1,2] ?_;refine bM aB (ae (λhc=>ae (λhc=>ae (λhc=>ae (λhc=>ae (λhc=>ae (λhc=>?_) λhc=>?_) λhc=>?_) λhc=>?_) λhc=>?_) λhc=>?_) λhc=>?_)
 all_goals(refine aP.bool ?_;simp_all [ag])
def aJ(l:List Am):Int:=tJ ag Am.no 4096 140 l
theorem bm(l:List Am)(hl:l.length<1000000):aa af 28 [eL l] (eI (aJ l)):=by
 refine aa.e Tryz.func28 27 [.tmp 2] [0,2,3,5,8,9,10,11,12,23] ?_;refine cb (ae (λhc=>?_) λhc=>?_)
 · rw[show aJ l=2 from iw ag Am.no (by simpa using hc)];exact aP.refl _
 have iP:¬(4096:Int)<(l.length:Int):=by
  have h:¬(4096:Int)<((l.map eA).length:Int):=by assumption
  rwa[ak] at h
 refine bY.bK (α:={i:Nat // i<=l.length/\aA ag Am.no (ax Am.no l i) (l.drop i)=aA ag Am.no (-1) l}) mixed [0,2,3,5,8,9,10,11,12,23] (λi=>[(3,.p (eI (ax Am.no l i.1))),(11,.p (eI i.1))]) (λi=>l.length-i.1) ⟨0,by omega,rfl⟩ ?_ ?_
 · exact aG trivial
 rintro⟨i,hi,hq⟩;have hi:i<=l.length:=hi;have hq:aA ag Am.no (ax Am.no l i) (l.drop i)=aA ag Am.no (-1) l:=hq;refine bM cV (ae (λhc x hx=>ae (λhc=>ae (λhc=>?_) λhc=>?_) λhc=>?_) λhc=>?_)
 · rename_i h1
   have hx:l[i]? =some x:=hx;have hc:Am.no x<=ax Am.no l i:=hc;rw[show aJ l=140 from cT ag Am.no iP (bC ag Am.no hx hq (by rw[h1,decide_eq_false (by omega)];rfl))];exact aP.refl _
 · rename_i h1
   have hx:l[i]? =some x:=hx;have hc:¬ Am.no x<=ax Am.no l i:=hc;have aC:=(aq.1 hx).1;refine⟨⟨i+1,aC,bU ag Am.no hx hq (by rw[h1,decide_eq_true (by omega)];rfl)⟩,by show l.length-(i+1)<l.length-i;omega,?_⟩;refine aG ?_
   all_goals(rw[bk Am.no hx])
 · have hx:l[i]? =some x:=hx
   rw[show aJ l=140 from cT ag Am.no iP (bC ag Am.no hx hq (by rw[hc];rfl))];exact aP.refl _
 · have hc:¬(i:Int)<((l.map eA).length:Int):=hc
   rw[ak] at hc;rw[show aJ l=0 from iK ag Am.no iP (cR ag Am.no hq (by omega))];exact aP.refl _
def V1(l:List Int):Int:=(l.find? λn=>decide (n≠0)).getD 0
theorem NK(l:List Int)(hl:l.length<1000000):aa af 139 [dm l] (eI (V1 l)):=by
 refine aa.e Tryz.func139 18 [.tmp 2] [0,2,3,5,6,7,8,9,14] ?_;refine cb ?_;refine bY.bK (α:={i:Nat // i<=l.length/\(l.drop i).find? (λn=>decide (n≠0))=l.find? λn=>decide (n≠0)}) mixed [0,2,3,5,6,7,8,9,14] (λi=>[(8,.p (eI i.1))]) (λi=>l.length-i.1) ⟨0,by omega,rfl⟩ ?_ ?_
 · exact aG trivial
 rintro⟨i,hi,hq⟩;have hi:i<=l.length:=hi;have hq:(l.drop i).find? (λn=>decide (n≠0))=l.find? λn=>decide (n≠0):=hq
 cases hx:l[i]? with
 |none=>
  have dD:l.length<=i:=List.getElem?_eq_none_iff.1 hx;(have bV:¬((i:Int)<((l.map eI).length:Int)):=by rw[ak];omega);rw[List.drop_eq_nil_of_le dD] at hq;refine bM (kN bV) (λhc=>?_);rw[show V1 l=0 by unfold V1;rw[<-hq];rfl];exact aP.refl _
 |some x=>
  have aC:i<l.length:=(aq.1 hx).1;(have ay:((i:Int)<((l.map eI).length:Int)):=by rw[ak];omega);(have hd:l.drop i=x::l.drop (i+1):=by rw[List.drop_eq_getElem_cons aC,(aq.1 hx).2]);rw[hd,List.find?_cons] at hq;refine gG (kY ay) (kX hx) (λhc=>ae (λhc=>?_) λhc=>?_)
  · rw[decide_eq_true hc] at hq
    (have e:V1 l=x:=by unfold V1;rw[<-hq];rfl);rw[e];exact aP.refl _
  · rw[decide_eq_false hc] at hq
    refine⟨⟨i+1,aC,hq⟩,by show l.length-(i+1)<l.length-i;omega,?_⟩;exact aG trivial
theorem HT(a b:Int):aa af 139 [dm [a,b]] (eI (if a=0 then b else a)):=by
 have h:=NK [a,b] (by simp)
 have e:V1 [a,b]=if a=0 then b else a:=by
  unfold V1;by_cases ha:a=0
  · by_cases hb:b=0<;>simp[ha,hb]
  · simp[ha]
 rwa[e] at h
def Tg(x y:Am):Int:=if qh x.tm y.tm=0 then qh x.no y.no else qh x.tm y.tm
theorem Kd(x y:Am):aa af 80 [eA x,eA y] (eI (Tg x y)):=by
 refine aa.e Tryz.func80 17 [.tmp 4] [0,1,2,3,4] ?_;have e1:af.types[3].size=1:=by kernel_rfl
 repeat' (first|exact fg|(refine stx ?_;first|exact bW _|refine aE ?_)|(refine kq ?_;first|refine fR rP.v7 ?_|(refine k9 (HT (qh x.tm y.tm) (qh x.no y.no)) (by kernel_rfl) rfl ?_;rw[e1];refine ae ⟨rfl,iz _,qq rfl⟩ (ae (PV.ai (PV.le_refl _) PV.ao) ?_)))|((fail_if_success refine ft ?_);(conv=>whnf)<;>(first|exact fh|refine str ?_|refine Br.dec (λhc=>?_) λhc=>?_|refine Br.mk (λhc=>?_) λhc=>?_|exact PV.ao|refine PV.ai ?_ ?_|refine ae ?_ ?_|refine aD λx hx=>?_|refine aE ?_|refine bX (λhn=>?_) ?_|(refine k9 (HT (qh x.tm y.tm) (qh x.no y.no)) (by kernel_rfl) rfl ?_;rw[e1];refine ae ⟨rfl,iz _,qq rfl⟩ (ae (PV.ai (PV.le_refl _) PV.ao) ?_))|exact fv|refine bS λaZ=>?_|refine al ?_ ?_|refine fu ?_|fail)))<;>(try exact fi)
theorem BW(x:Am)(t:Int):aa af 79 [eA x,.ro [eI t]] (.bool (decide (x.tm<=t))):=by
 refine aa.e Tryz.func79 8 [.tmp 3] [0,1,2,3] ?_;exact cb trivial
abbrev Bh(l:List Am)(k t:Int):List PV:=[.ro [eL l],.ro [eI k],.ro [eI t]]
theorem HU(l:List Am)(k t:Int):aa af 78 [eL l,eI k,eI t] (.fn (.func 138) [] (Bh l k t)):=by
 refine aa.e Tryz.func78 8 [.tmp 6] [0,1,2,3,4,5,6] ?_;exact cb trivial
def oQ(k t:Int)(x:Am):Bool:=decide (x.key=k)&&decide (x.known<=t)
theorem Ke(l:List Am)(k t:Int)(hl:l.length<1000000):Iter af 138 (Bh l k t) ((l.filter (oQ k t)).map λy=>[eA y]):=by
 refine Iter.e Tryz.func138 30 [0,1,2,3,6,7,8,9,10,28] ?_;intro G hG si jM;refine cb ?_;refine bY.bq (α:={i:Nat // i<=l.length/\bF (oQ k t) l i<=G.stop}) mixed [0,1,2,3,6,7,8,9,10,28] (λi=>[(9,.p (eI i.1))]) (λ_=>[]) (λi=>bF (oQ k t) l i.1) (λi=>l.length-i.1) ⟨0,by omega,by simp[bF]⟩ ?_ ?_
 · exact aG trivial
 rintro⟨i,hi,hs⟩;have hi:i<=l.length:=hi;have hs:bF (oQ k t) l i<=G.stop:=hs;(have BC:G.xs.length=(l.filter (oQ k t)).length:=by rw[jM];simp);refine cb (ae (λhc x hx=>ae (λhc=>ae (λhc=>ae (ae ?_ ?_) (ae (λhc=>?_) λhc=>?_)) λhc=>?_) λhc=>?_) λhc=>?_)
 all_goals first
 |(have hc:¬(i:Int)<((l.map eA).length:Int):=hc
   rw[ak] at hc;have e:=mZ (oQ k t) (show l.length<=i by omega);show bF (oQ k t) l i=min (G.stop+1) ((l.filter (oQ k t)).map λy=>[eA y]).length
   rw[ak];omega)
 |(have hx:l[i]? =some x:=hx
   have aC:=(aq.1 hx).1
   first
   |(have hq:oQ k t x=false:=by simp_all [oQ];done
     have e:=mn (oQ k t) hx hq;refine⟨⟨i+1,aC,by show bF (oQ k t) l (i+1)<=G.stop;omega⟩,by show l.length-(i+1)<l.length-i;omega,?_⟩;refine aG ?_
     exact e)
   |(have hq:oQ k t x=true:=by simp_all [oQ];done
     have h1:=(aq.1 (ew (oQ k t) hx hq)).1
     first
     |(show bF (oQ k t) l i<G.xs.length
       omega)
     |(show _=List.map AV.p (G.xs.getD (bF (oQ k t) l i) [])
       have e:G.xs.getD (bF (oQ k t) l i) []=[eA x]:=by
        rw[jM];simp[cF,ew (oQ k t) hx hq]
       rw[e];rfl)
     |(have hc:bF (oQ k t) l i≠G.stop:=hc
       have e:=mY (oQ k t) hx hq;refine⟨⟨i+1,aC,by show bF (oQ k t) l (i+1)<=G.stop;omega⟩,by show l.length-(i+1)<l.length-i;omega,?_⟩;refine aG ?_
       exact e)
     |(have hc:¬ bF (oQ k t) l i≠G.stop:=hc
       show bF (oQ k t) l i+1=min (G.stop+1) ((l.filter (oQ k t)).map λy=>[eA y]).length
       rw[ak];omega)))
def zAm:Am:=⟨0,0,0,0,0,false⟩
def NL(t:Int)(s:Am×Bool)(y:Am):Am×Bool:=if decide (y.tm<=t)&&(!s.2||decide (Tg s.1 y<0)) then(y,true) else s
def A'(t:Int)(l:List Am):Am×Bool:=l.foldl (NL t) (zAm,false)
theorem Qi{t:Int}{l:List Am}{i:Nat}{y:Am}(h:l[i]? =some y):A' t (l.take (i+1))=NL t (A' t (l.take i)) y:=by
 unfold A';rw[List.take_add_one,h];simp[List.foldl_append]
theorem AB(l:List Am)(k t a:Int)(hl:l.length<1000000):aa af 77 [.fn (.func 138) [] (Bh l k t),.fn (.func 79) [] [.ro [eI a]],.fn (.func 80) [] []] (.bR [eA (A' a (l.filter (oQ k t))).1,.bool (A' a (l.filter (oQ k t))).2]):=by
 have gh:=Ke l k t hl
 have jd:∀x∈((l.filter (oQ k t)).map λy=>[eA y]),x.length=1:=λx hx=>by
  obtain⟨y,_,rfl⟩:=List.mem_map.1 hx;rfl
 (have du:∀i y,(l.filter (oQ k t))[i]? =some y->((l.filter (oQ k t)).map λy=>[eA y]).getD i []=[eA y]:=λi y h=>by simp[cF,h]);generalize l.filter (oQ k t)=F at *;refine aa.e Tryz.func77 28 [.cell 6 76,.cell 7 4] YE ?_;refine cb ?_;refine bY.range mixed gh (by kernel_rfl) rfl YE F.length [0,64,128,192] (λi=>([(192,.cells [.p (.bool (A' a (F.take i)).2)]),(128,.cells [.p (eI (A' a (F.take i)).1.no),.p (eI (A' a (F.take i)).1.tm),.p (eI (A' a (F.take i)).1.known),.p (eI (A' a (F.take i)).1.key),.p (eI (A' a (F.take i)).1.val),.p (.bool (A' a (F.take i)).1.gone)]),(64,.cells [.p (.fn (.func 80) [] [])]),(0,.cells [.p (.fn (.func 79) [] [.ro [eI a]])])],320)) rfl (gN rfl) (by simp) (by simp) jd (λi hi hm=>?_) (λ_=>?_)
 · rw[ak] at hi
   obtain⟨y,hy⟩:∃y,F[i]? =some y:=⟨_,List.getElem?_eq_getElem hi⟩;rw[du i y hy];have cu:A' a (F.take (i+1))=NL a (A' a (F.take i)) y:=Qi hy;obtain⟨⟨g,f⟩,hg⟩:∃g,A' a (F.take i)=g:=⟨_,rfl⟩;rw[hg] at cu;have q1:=BW y a;have q2:=Kd g y
   try dsimp only
   rw[hg];clear gh jd du;refine gG q1 q2 (ae (λhc=>ae (λhc=>ae (λhc=>?_) λhc=>?_) λhc=>?_) λhc=>?_)
   all_goals first
   |(have e:NL a (g,f) y=(y,true):=by simp_all [NL];done
     rw[e] at cu
     try dsimp only
     rw[cu]
     exact nq trivial)
   |(have e:NL a (g,f) y=(g,f):=by first|(simp_all [NL];done)|(simp_all [NL];intros;omega)
     rw[e] at cu
     try dsimp only
     rw[cu]
     exact nq trivial)
 · have eF:F.take (F.map λy=>[eA y]).length=F:=by rw[ak,List.take_length]
   rw[eF];exact cb trivial
   all_goals trace_state
def Qj(l:List Am)(k a t:Int):Int×Bool:=((A' a (l.filter (oQ k t))).1.val,(A' a (l.filter (oQ k t))).2&& !(A' a (l.filter (oQ k t))).1.gone)
theorem xu(l:List Am)(k a t:Int)(hl:l.length<1000000)(hz:aJ l=0)(hk:bh 0 1048576 k=true)(ha:bh 0 TM a=true)(ht:bh 0 TM t=true):aa af 30 [eL l,eI k,eI a,eI t] (.bR [eI (Qj l k a t).1,.bool (Qj l k a t).2,eI 0]):=by
 have q1:=bm l hl;rw[hz] at q1;have w1:=aB k 1048576;rw[hk] at w1;have w2:=aB a TM;rw[ha] at w2;have w3:=aB t TM;rw[ht] at w3;have q2:=HU l k t;have q3:=AB l k t a hl;unfold Qj;generalize A' a (l.filter (oQ k t))=g at *;refine aa.e Tryz.func30 48 [.tmp 8,.tmp 9,.tmp 10] [0,1,2,3,6,8,9,10,11,12,16,30] ?_;refine Jt q1 w1 w2 w3 q2 (kZ q3) (ae (λhc=>?_) λhc=>?_)
 all_goals(refine aP.of ?_;simp_all<;>rfl)
end Ve
end Go.Proofs.YtmaiccmhkmndcaaGreatDoor
