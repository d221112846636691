/- A part of the proof: contracts of the functions that the statement reaches. -/
import Derived.Test.YtmaiccmhkmndcaaGreatDoorEngC
import Derived.Test.YtmaiccmhkmndcaaGreatDoorChpAA
import Derived.Test.YtmaiccmhkmndcaaGreatDoorProg
set_option linter.unusedSimpArgs false
set_option linter.unusedVariables false
set_option linter.unnecessarySimpa false
set_option maxRecDepth 100000
set_option maxHeartbeats 40000000
open And renaming intro->ae
open Bool renaming and_false->jE,true_and->dZ,false_ne_true->nJ
open Go.Proofs.Tryz renaming prog->af
open Int renaming toNat_natCast->dv
open List renaming getElem?_of_mem->eE,range->cJ,length_map->ak,getElem?_eq_some_iff->aq,map->bZ,getD->cF,getElem?_eq_getElem->aV,getElem?_eq_none_iff->bw,any_eq_false->lS,mem_of_getElem?->aO,all_eq_true->cG
open Nat renaming zero_add->gQ
namespace Go.Proofs.YtmaiccmhkmndcaaGreatDoor
open Go Go.Sg
namespace bA
def eI(i:Int):PV:= .int .i64 i
def dm(l:List Int):PV:= .sl 1 false (l.map eI)
theorem mixed:af.follows .mixedOrders=true:=by kernel_rfl
theorem iA(a:Int):aa af 179 [eI a] (.bool false):=by
 refine aa.e Tryz.func179 6 [.tmp 2] [0,2] ?_;refine cb ?_;exact aP.bool (by simp)
theorem v7(a b:Int):aa af 140 [eI a,eI b] (eI (qh a b)):=by
 refine aa.e Tryz.func140 20 [.tmp 4] Ue ?_;refine bM iA (ae (λhc=>?_) λhc=>ae (λhc=>?_) λhc=>?_)
 all_goals((try simp only[qh, *]);exact fin)
def fS(m n:Int):Bool:=decide (0<=n)&&decide (n<m)
abbrev TM:Int:=1099511627776
theorem dU(n:Int):aa af 82 [eI n] (.bool (fS TM n)):=by
 refine aa.e Tryz.func82 9 [.tmp 2] [0,2] ?_;refine cb (ae (λhc=>?_) λhc=>?_)
 all_goals((try simp only[fS, *]);exact fin)
theorem eb(n:Int):aa af 131 [eI n] (.bool (fS TM n)):=by
 refine aa.e Tryz.func131 9 [.tmp 2] [0,2] ?_;refine cb (ae (λhc=>?_) λhc=>?_)
 all_goals((try simp only[fS, *]);exact fin)
def Nj(f:Nat->Int)(x:Nat)(out:List Nat):Nat:=(out.reverse.dropWhile λy=>decide (f x<f y)).length
def jK(f:Nat->Int)(out:List Nat)(x:Nat):List Nat:=out.take (Nj f x out)++x::out.drop (Nj f x out)
theorem SR(f:Nat->Int)(x:Nat):∀(out:List Nat) (k:Nat),k<=out.length->(∀m y,k<=m->out[m]? =some y->f x<f y)->(∀y,0<k->out[k-1]? =some y-> ¬ f x<f y)->Nj f x out=k:=by
 intro out k hk h1 h2;unfold Nj;have VH:out.reverse=(out.drop k).reverse++(out.take k).reverse:=by rw[<-List.reverse_append,List.take_append_drop]
 have qQ:∀y∈(out.drop k).reverse,decide (f x<f y)=true:=λy hy=>by
  obtain⟨m,hm⟩:=eE (List.mem_reverse.1 hy);rw[List.getElem?_drop] at hm;exact decide_eq_true (h1 _ y (by omega) hm)
 rw[VH,List.dropWhile_append_of_pos qQ]
 cases k with
 |zero=>simp
 |succ k=>
  have aC:k<out.length:=by omega
  have e:(out.take (k+1)).reverse=out[k]::(out.take k).reverse:=by
   rw[List.take_succ_eq_append_getElem aC,List.reverse_append];rfl
  rw[e,List.dropWhile_cons_of_neg (by
   have:=h2 out[k] (by omega) (by simp[aC])
   simpa using this)]
  simp;omega
def lu(sg:List Int)(i:Nat):Int:=sg.getD i 0
def Oe(sg:List Int)(at_:Int)(i:Nat):Bool:=decide (0<=lu sg i)&&decide (lu sg i<=at_)
def vr(sg:List Int)(at_:Int)(n:Nat):List Nat:=(cJ n).filter (Oe sg at_)
def ordF(sg:List Int)(at_:Int)(n:Nat):List Nat:=(vr sg at_ n).foldl (jK (lu sg)) []
def gw(sg:List Int)(at_:Int):List Nat:=ordF sg at_ sg.length
def eN(i:Nat):PV:=eI i
def Z5(l:List Nat):PV:= .sl 1 false (l.map eN)
theorem zW(l:List Int):aa af 143 [dm l] (.fn (.func 183) [] [.ro [dm l]]):=by
 refine aa.e Tryz.func143 4 [.tmp 2] [0,1,2] ?_;exact cb trivial
theorem uO(l:List Nat):aa af 182 [Z5 l] (.fn (.func 229) [] [.ro [Z5 l]]):=by
 refine aa.e Tryz.func182 4 [.tmp 2] [0,1,2] ?_;exact cb trivial
theorem He(l:List Nat)(hl:l.length<1000000):Iter af 229 [.ro [Z5 l]] (l.map λi=>[eN i]):=by
 refine Iter.e Tryz.func229 16 [0,1,4,5,6,7,8,14] ?_;intro G hG si jM;(have BC:G.xs.length=l.length:=by rw[jM];simp);refine cb ?_;refine bY.bq (α:={i:Nat // i<=l.length/\i<=G.stop}) mixed [0,1,4,5,6,7,8,14] (λi=>[(7,.p (eI i.1))]) (λ_=>[]) (λi=>i.1) (λi=>l.length-i.1) ⟨0,by omega,by omega⟩ ?_ ?_
 · exact aG trivial
 rintro⟨i,hi,hs⟩;have hi:i<=l.length:=hi;have hs:i<=G.stop:=hs;refine cb (ae (λhc x hx=>ae (ae ?_ ?_) (ae (λhc=>?_) λhc=>?_)) λhc=>?_)
 all_goals first
 |(have hc:¬(i:Int)<((l.map eN).length:Int):=hc
   rw[ak] at hc;show i=min (G.stop+1) (l.map λi=>[eN i]).length
   rw[ak];omega)
 |(have hx:l[i]? =some x:=hx
   have aC:=(aq.1 hx).1
   first
   |(show i<G.xs.length
     omega)
   |(show _=bZ AV.p (G.xs.getD i [])
     have e:G.xs.getD i []=[eN x]:=by
      rw[jM];simp[cF,hx]
     rw[e];rfl)
   |(have hc:i≠G.stop:=hc
     refine⟨⟨i+1,aC,by show i+1<=G.stop;omega⟩,by show l.length-(i+1)<l.length-i;omega,?_⟩
     exact aG trivial)
   |(have hc:¬ i≠G.stop:=hc
     show i+1=min (G.stop+1) (l.map λi=>[eN i]).length
     rw[ak];omega))
def Lt(l:List Int):List (List PV):=(cJ l.length).map λk=>[eI ((l.length-1-k:Nat):Int),eI (l.getD (l.length-1-k) 0)]
theorem BD(l:List Int)(hl:l.length<1000000):Iter af 183 [.ro [dm l]] (Lt l):=by
 refine Iter.e Tryz.func183 19 [0,1,3,8,18] ?_;intro G hG si jM;(have BC:G.xs.length=l.length:=by rw[jM];simp[Lt]);refine cb ?_;refine bY.bq (α:={k:Nat // k<=l.length/\k<=G.stop}) mixed [0,1,3,8,18] (λk=>[(3,.p (eI ((l.length:Int)-1-(k.1:Int))))]) (λ_=>[]) (λk=>k.1) (λk=>l.length-k.1) ⟨0,by omega,by omega⟩ ?_ ?_
 · exact aG trivial
 rintro⟨k,hk,hs⟩;have hk:k<=l.length:=hk;have hs:k<=G.stop:=hs;by_cases oF:k=l.length
 · have bV:¬(0:Int)<=(l.length:Int)-1-(k:Int):=by omega
   refine bM (kN bV) (λhc=>?_);show k=min (G.stop+1) (Lt l).length;simp[Lt];omega
 · have ay:(0:Int)<=(l.length:Int)-1-(k:Int):=by omega
   (have zm:k<l.length:=by omega);obtain⟨y,hy⟩:∃y,l[l.length-1-k]? =some y:=⟨_,aV (by omega)⟩;(have Bq:l[((l.length:Int)-1-(k:Int)).toNat]? =some y:=by rw[show((l.length:Int)-1-(k:Int)).toNat=l.length-1-k by omega];exact hy);refine gG (kY ay) (kX Bq) (λhc=>ae ?_ (ae (λhc=>?_) λhc=>?_))
   all_goals first
   |(show k<G.xs.length
     omega)
   |(show _=bZ AV.p (G.xs.getD k [])
     have e:G.xs.getD k []=[eI ((l.length:Int)-1-(k:Int)),eI y]:=by
      rw[jM];(have e1:((l.length-1-k:Nat):Int)=(l.length:Int)-1-(k:Int):=by omega);simp[Lt,cF,zm,hy,e1]
     rw[e];rfl)
   |(have hc:k≠G.stop:=hc
     refine⟨⟨k+1,by omega,by show k+1<=G.stop;omega⟩,by show l.length-(k+1)<l.length-k;omega,?_⟩;exact aG trivial
     try(congr 1;omega))
   |(have hc:¬ k≠G.stop:=hc
     show k+1=min (G.stop+1) (Lt l).length
     simp[Lt];omega)
   |trace_state
def PX(lim:Int)(P:List Int):Bool:=aA (fS lim) id (-1) P
def pZ(lim:Int)(P:List Int):Bool:=PX lim P&&decide (P.length<=16)
theorem tL(P:List Int)(lim:Int)(hP:P.length<140737488355328):aa af 115 [dm P,eI lim] (.bool (pZ lim P)):=by
 refine aa.e Tryz.func115 27 [.tmp 4] [0,1,4,5,7,8,9,10,11,21] ?_;refine cb ?_;refine bY.bK (α:={i:Nat // i<=P.length/\aA (fS lim) id (ax id P i) (P.drop i)=PX lim P/\ -1<=ax id P i}) mixed [0,1,4,5,7,8,9,10,11,21] (λi=>[(5,.p (eI (ax id P i.1))),(10,.p (eI i.1))]) (λi=>P.length-i.1) ⟨0,by omega,rfl,by show(-1:Int)<= -1;decide⟩ ?_ ?_
 · exact aG trivial
 rintro⟨i,hi,hq,iS⟩;have hi:i<=P.length:=hi;have hq:aA (fS lim) id (ax id P i) (P.drop i)=PX lim P:=hq;have iS: -1<=ax id P i:=iS;refine cb (ae (λhc x hx=>ae (λhc=>?_) λhc=>ae (λhc=>?_) λhc=>?_) λhc=>?_)
 · have hx:P[i]? =some x:=hx
   have hc:x<=ax id P i:=hc;have e:PX lim P=false:=bC (fS lim) id hx hq (by rw[decide_eq_false (show ¬ ax id P i<id x by show ¬ ax id P i<x;omega),jE]);unfold pZ;rw[e];exact aP.refl _
 · have hx:P[i]? =some x:=hx
   have e:PX lim P=false:=bC (fS lim) id hx hq (by rw[show fS lim x=false by unfold fS;rw[decide_eq_false (show ¬ x<lim by omega),jE],Bool.false_and]);unfold pZ;rw[e];exact aP.refl _
 · rename_i wG
   have wG:¬ x<=ax id P i:=wG;have hx:P[i]? =some x:=hx;have aC:=(aq.1 hx).1;have hs:ax id P (i+1)=x:=bk id hx;refine⟨⟨i+1,aC,bU (fS lim) id hx hq (by rw[show fS lim x=true by unfold fS;rw[decide_eq_true (show 0<=x by omega),decide_eq_true (show x<lim by omega)];rfl,decide_eq_true (show ax id P i<id x by show ax id P i<x;omega)];rfl),by rw[hs];omega⟩,by show P.length-(i+1)<P.length-i;omega,?_⟩;exact aG trivial
   all_goals(rw[hs])
 · have UL:¬(i:Int)<((P.map eI).length:Int):=by assumption
   rw[ak] at UL;have e:PX lim P=true:=cR (fS lim) id hq (by omega);unfold pZ;rw[e];refine aP.bool ?_;rw[ak,dZ];exact decide_eq_decide.2 (by omega)
theorem rF(P:List Int)(lim:Int)(hP:P.length<140737488355328):aa af 132 [dm P,eI lim] (.bool (pZ lim P)):=by
 refine aa.e Tryz.func132 44 [.tmp 4] [0,1,4,5,9,40] ?_;refine cb ?_;refine bY.bK (α:={i:Nat // i<=P.length/\aA (fS lim) id (ax id P i) (P.drop i)=PX lim P}) mixed [0,1,4,5,9,40] (λi=>[(5,.p (eI i.1))]) (λi=>P.length-i.1) ⟨0,by omega,rfl⟩ ?_ ?_
 · exact aG trivial
 rintro⟨i,hi,hq⟩;have hi:i<=P.length:=hi;have hq:aA (fS lim) id (ax id P i) (P.drop i)=PX lim P:=hq
 cases aS:P[i]? with
 |none=>
  have dD:P.length<=i:=bw.1 aS;(have bV:¬((i:Int)<((P.map eI).length:Int)):=by rw[ak];omega);refine bM (kN bV) (λhc=>?_);have e:PX lim P=true:=cR (fS lim) id hq dD;unfold pZ;rw[e];refine aP.bool ?_;rw[ak,dZ];exact decide_eq_decide.2 (by omega)
 |some z=>
  have aC:i<P.length:=(aq.1 aS).1;have ay:((i:Int)<((P.map eI).length:Int)):=by rw[ak];omega
  have Eo:(fS lim z&&decide (ax id P i<id z))=false->pZ lim P=false:=λh=>by
   unfold pZ;rw[show PX lim P=false from bC (fS lim) id aS hq h];rfl
  have wZ:(fS lim z&&decide (ax id P i<id z))=true->aA (fS lim) id (ax id P (i+1)) (P.drop (i+1))=PX lim P:=λh=>bU (fS lim) id aS hq h;by_cases h0:z<0
  · have e:=Eo (by unfold fS;rw[decide_eq_false (show ¬ 0<=z by omega)];rfl)
    rw[e];exact gg (kY ay) (kX aS) (kY h0) trivial
  · by_cases hl:lim<=z
    · have e:=Eo (by unfold fS;rw[decide_eq_false (show ¬ z<lim by omega),jE];rfl)
      rw[e];exact oa (kY ay) (kX aS) (kN h0) (kY hl) trivial
    · have hw:fS lim z=true:=by unfold fS;rw[decide_eq_true (show 0<=z by omega),decide_eq_true (show z<lim by omega)];rfl
      cases i with
      |zero=>
       have hg:=wZ (by rw[hw];show(true&&decide ((-1:Int)<z))=true;rw[decide_eq_true (by omega)];rfl);(have Lu:¬(0:Int)<((0:Nat):Int):=by decide);refine Rh (kY ay) (kX aS) (kN h0) (kN hl) (kN Lu) (λhc hc hc hc hc hc hc hc hc hc hc hc hc hc hc hc hc hc hc hc hc hc=>?_);refine⟨⟨0+1,aC,hg⟩,by show P.length-(0+1)<P.length-0;omega,?_⟩;exact aG trivial
      |succ k=>
       (have hk:k<P.length:=by omega);obtain⟨y,hy⟩:∃y,P[k]? =some y:=⟨_,aV hk⟩;(have Bq:P[(((k+1:Nat):Int)-1).toNat]? =some y:=by rw[show(((k+1:Nat):Int)-1).toNat=k by omega];exact hy);have gy:ax id P (k+1)=y:=bk id hy;(have Lv:(0:Int)<((k+1:Nat):Int):=by omega);by_cases PY:z<=y
       · have e:=Eo (by rw[gy,decide_eq_false (show ¬ y<id z by show ¬ y<z;omega),jE])
         rw[e];exact Ri (kY ay) (kX aS) (kX Bq) (kN h0) (kN hl) (kY Lv) (kY PY) trivial
       · have hg:=wZ (by rw[hw,gy,decide_eq_true (show y<id z by show y<z;omega)];rfl)
         refine Ri (kY ay) (kX aS) (kX Bq) (kN h0) (kN hl) (kY Lv) (kN PY) (λhc hc hc hc hc=>?_);refine⟨⟨k+1+1,aC,hg⟩,by show P.length-(k+1+1)<P.length-(k+1);omega,?_⟩;exact aG trivial
structure Dc where
 no:Int
 tm:Int
 kind:Int
 val:Int
 oc:Int
 Rk:Int
 par:List Int
 rev:List Int
 need:List Int
 tx:Nat->Int
def u8(n:Int):PV:= .int .u8 n
def eA(x:Dc):PV:= .agg [eI x.no,eI x.tm,eI x.kind,eI x.val,eI x.oc,eI x.Rk,dm x.par,dm x.rev,dm x.need,u8 (x.tx 0),u8 (x.tx 1),u8 (x.tx 2),u8 (x.tx 3),u8 (x.tx 4),u8 (x.tx 5),u8 (x.tx 6),u8 (x.tx 7),u8 (x.tx 8),u8 (x.tx 9),u8 (x.tx 10),u8 (x.tx 11),u8 (x.tx 12),u8 (x.tx 13),u8 (x.tx 14),u8 (x.tx 15),u8 (x.tx 16),u8 (x.tx 17),u8 (x.tx 18),u8 (x.tx 19),u8 (x.tx 20),u8 (x.tx 21),u8 (x.tx 22),u8 (x.tx 23),u8 (x.tx 24),u8 (x.tx 25),u8 (x.tx 26),u8 (x.tx 27),u8 (x.tx 28),u8 (x.tx 29),u8 (x.tx 30),u8 (x.tx 31)]
def eL(l:List Dc):PV:= .sl 41 false (l.map eA)
def ag(x:Dc):Bool:=(fS 4096 x.no&&fS TM x.tm&&fS 16 x.kind&&fS 1099511627777 x.val)&&(decide (0<=x.oc)&&decide (x.oc<x.Rk)&&decide (x.Rk<=TM))&&(pZ 1048577 x.par&&pZ x.no x.rev&&pZ x.no x.need)
theorem cV(x:Dc)(h1:x.par.length<140737488355328)(h2:x.rev.length<140737488355328)(h3:x.need.length<140737488355328):aa af 60 [eA x] (.bool (ag x)):=by
 refine aa.e Tryz.func60 74 [.tmp 2] [0,1,2,3] ?_;refine oa dU (tL x.par · h1) (tL x.rev · h2) (tL x.need · h3) (ae (λhc=>ae (λhc=>ae (λhc=>ae (λhc=>ae (λhc=>ae (λhc=>ae (λhc=>ae (λhc=>ae (λhc=>ae (λhc=>ae (λhc=>ae (λhc=>?_) λhc=>?_) λhc=>?_) λhc=>?_) λhc=>?_) λhc=>?_) λhc=>?_) λhc=>?_) λhc=>?_) λhc=>?_) λhc=>?_) λhc=>?_) λhc=>?_)
 all_goals(refine aP.bool ?_;first|(simp_all [ag,fS,TM];done)|(simp_all [ag,fS,TM];omega)|trace_state)
theorem dG(x:Dc)(h1:x.par.length<140737488355328)(h2:x.rev.length<140737488355328)(h3:x.need.length<140737488355328):aa af 70 [eA x] (.bool (ag x)):=by
 refine aa.e Tryz.func70 71 [.tmp 2] [0,1,2,36] ?_;refine oa eb (rF x.par · h1) (rF x.rev · h2) (rF x.need · h3) (ae (λhc=>?_) λhc=>ae (λhc=>?_) λhc=>ae (λhc=>ae (λhc=>?_) λhc=>ae (λhc=>?_) λhc=>ae (λhc=>?_) λhc=>ae (λhc=>?_) λhc=>ae (λhc=>ae (λhc=>ae (λhc=>ae (λhc=>ae (λhc=>?_) λhc=>?_) λhc=>?_) λhc=>?_) λhc=>?_) λhc=>?_) λhc=>?_)
 all_goals(refine aP.bool ?_;first|(simp_all [ag,fS,TM];done)|(simp_all [ag,fS,TM];omega)|trace_state)
abbrev wY(l:List Dc)(n:Int):Int:=zN (λx:Dc=>decide (x.no=n)) l
theorem jv(l:List Dc)(n:Int)(hl:l.length<1000000):aa af 133 [eL l,eI n] (eI (wY l n)):=by
 refine aa.e Tryz.func133 20 [.tmp 4] [0,1,4,5,9,18] ?_;refine cb ?_;refine bY.bK (α:={i:Nat // i<=l.length/\ ∀j w,j<i->l[j]? =some w->w.no≠n}) mixed [0,1,4,5,9,18] (λi=>[(5,.p (eI i.1))]) (λi=>l.length-i.1) ⟨0,by omega,by intro j w h;omega⟩ ?_ ?_
 · exact aG trivial
 rintro⟨i,hi,hq⟩;have hi:i<=l.length:=hi;have hq:∀j w,j<i->l[j]? =some w->w.no≠n:=hq
 cases aS:l[i]? with
 |some y=>
  have aC:=(aq.1 aS).1;(have ay:((i:Int)<((l.map eA).length:Int)):=by rw[ak];omega);refine gG (kY ay) (kX aS) (λhc=>ae (λhc=>?_) λhc=>?_)
  · have hc:y.no=n:=hc
    show aP (eI i) (eI (wY l n));rw[show wY l n=(i:Int) from gF (q:=λx:Dc=>decide (x.no=n)) aS (decide_eq_true hc) (λj w hj hw=>decide_eq_false (hq j w hj hw))];exact aP.refl _
  · have pR:¬ y.no=n:=hc
    refine⟨⟨i+1,by omega,λj w hj hw=>?_⟩,by show l.length-(i+1)<l.length-i;omega,?_⟩
    · rcases Nat.lt_succ_iff_lt_or_eq.1 hj with h1|h1
      · exact hq j w h1 hw
      · subst h1;rw[aS] at hw;injection hw with hw;subst hw;exact pR
    · exact aG trivial
 |none=>
  have dD:l.length<=i:=bw.1 aS;(have bV:¬((i:Int)<((l.map eA).length:Int)):=by rw[ak];omega);refine bM (kN bV) (λhc=>?_);show aP (eI (-1)) (eI (wY l n));rw[show wY l n= -1 from j9 (q:=λx:Dc=>decide (x.no=n)) (l:=l) λj w hj hw=>decide_eq_false (hq j w (by omega) hw)];exact aP.refl _
def Nk(l:List Dc)(P:List Int):Bool:=P.all λn=>l.any λx=>decide (x.no=n)
theorem Lw(l:List Dc)(n:Int):wY l n<0↔(l.any λx=>decide (x.no=n))=false:=by
 unfold wY zN
 cases h:l.findIdx? (λx:Dc=>decide (x.no=n)) with
 |none=>
  have h:=List.findIdx?_eq_none_iff.1 h;refine⟨λ_=>lS.2 λx hx e=>?_,λ_=>by decide⟩;rw[h x hx] at e;cases e
 |some i=>
  constructor
  · intro e;exact absurd e (by show ¬((i:Nat):Int)<0;omega)
  · intro e
    obtain⟨hi,h1,_⟩:=List.findIdx?_eq_some_iff_getElem.1 h;exact absurd h1 (lS.1 e _ (List.getElem_mem hi))
theorem w6(l:List Dc)(P:List Int)(hl:l.length<1000000)(hP:P.length<140737488355328):aa af 71 [eL l,dm P] (.bool (Nk l P)):=by
 refine aa.e Tryz.func71 19 [.tmp 4] [0,1,4,5,9,18] ?_;refine cb ?_;refine bY.bK (α:={i:Nat // i<=P.length/\ ∀j w,j<i->P[j]? =some w->(l.any λx=>decide (x.no=w))=true}) mixed [0,1,4,5,9,18] (λi=>[(5,.p (eI i.1))]) (λi=>P.length-i.1) ⟨0,by omega,by intro j w h;omega⟩ ?_ ?_
 · exact aG trivial
 rintro⟨i,hi,hq⟩;have hi:i<=P.length:=hi;have hq:∀j w,j<i->P[j]? =some w->(l.any λx=>decide (x.no=w))=true:=hq
 cases aS:P[i]? with
 |some n=>
  have aC:=(aq.1 aS).1;(have ay:((i:Int)<((P.map eI).length:Int)):=by rw[ak];omega);have q:=jv l n hl;refine gg q (kY ay) (kX aS) (λhc=>ae (λhc=>?_) λhc=>?_)
  · have hc:wY l n<0:=hc
    have e:Nk l P=false:=List.all_eq_false.2 ⟨n,aO aS,by rw[(Lw l n).1 hc];exact nJ⟩;rw[e];exact aP.refl _
  · have hcc:¬ wY l n<0:=hc
    refine⟨⟨i+1,by omega,λj w hj hw=>?_⟩,by show P.length-(i+1)<P.length-i;omega,?_⟩
    · rcases Nat.lt_succ_iff_lt_or_eq.1 hj with h1|h1
      · exact hq j w h1 hw
      · subst h1;rw[aS] at hw;injection hw with hw;subst hw
        cases h:l.any λx=>decide (x.no=n) with
        |true=>rfl
        |false=>exact absurd ((Lw l n).2 h) hcc
    · exact aG trivial
 |none=>
  have dD:P.length<=i:=bw.1 aS;(have bV:¬((i:Int)<((P.map eI).length:Int)):=by rw[ak];omega);refine bM (kN bV) (λhc=>?_)
  have e:Nk l P=true:=cG.2 λw hw=>by
   obtain⟨j,hj⟩:=eE hw;exact hq j w (by have:=(aq.1 hj).1;omega) hj
  rw[e];exact aP.refl _
def WS(x:Dc):Prop:=x.par.length<140737488355328/\x.rev.length<140737488355328/\x.need.length<140737488355328
def kr(l:List Dc)(x:Dc):Bool:=Nk l x.rev&&Nk l x.need
def aJ(l:List Dc):Int:=if(4096:Int)<l.length then 2 else if aA ag Dc.no (-1) l&&l.all (kr l) then 0 else 170
theorem Hf{l:List Dc}(h:(4096:Int)<l.length):aJ l=2:=by unfold aJ;rw[if_pos h]
theorem Hg{l:List Dc}(h:¬(4096:Int)<l.length)(k:aA ag Dc.no (-1) l=false):aJ l=170:=by unfold aJ;rw[if_neg h,k];rfl
theorem oJ{l:List Dc}(h:¬(4096:Int)<l.length){x:Dc}(hx:x∈l)(k:kr l x=false):aJ l=170:=by
 unfold aJ;rw[if_neg h,show l.all (kr l)=false from List.all_eq_false.2 ⟨x,hx,by rw[k];exact nJ⟩,jE];rfl
theorem Lx{l:List Dc}(h:¬(4096:Int)<l.length)(k:aA ag Dc.no (-1) l=true)(g:∀x∈l,kr l x=true):aJ l=0:=by
 unfold aJ;rw[if_neg h,k,show l.all (kr l)=true from cG.2 g];rfl
theorem eJ{x:Dc}(h:ag x=true):0<=x.no:=by
 unfold ag fS at h;simp only[Bool.and_eq_true,decide_eq_true_eq] at h;exact h.1.1.1.1.1.1
theorem dH(l:List Dc)(hl:l.length<1000000)(hd:∀x∈l,WS x):aa af 26 [eL l] (eI (aJ l)):=by
 by_cases iP:(4096:Int)<l.length
 · have Jx:(4096:Int)<((l.map eA).length:Int):=by rw[ak];exact iP
   rw[Hf iP];refine aa.e Tryz.func26 57 [.tmp 2] VD ?_;exact bM (kY Jx) trivial
 (have Jx:¬(4096:Int)<((l.map eA).length:Int):=by rw[ak];exact iP);refine aa.e Tryz.func26 57 [.tmp 2] VD ?_;refine bM (kN Jx) (λhc=>?_);refine bY.bK (α:={i:Nat // i<=l.length/\aA ag Dc.no (ax Dc.no l i) (l.drop i)=aA ag Dc.no (-1) l/\ ∀j w,j<i->l[j]? =some w->kr l w=true}) mixed VD (λi=>[(3,.p (eI i.1))]) (λi=>l.length-i.1) ⟨0,by omega,rfl,by intro j w h;omega⟩ ?_ ?_
 · exact aG trivial
 rintro⟨i,hi,hq,hn⟩;have hi:i<=l.length:=hi;have hq:aA ag Dc.no (ax Dc.no l i) (l.drop i)=aA ag Dc.no (-1) l:=hq;have hn:∀j w,j<i->l[j]? =some w->kr l w=true:=hn
 cases aS:l[i]? with
 |none=>
  have dD:l.length<=i:=bw.1 aS;(have bV:¬((i:Int)<((l.map eA).length:Int)):=by rw[ak];omega);refine bM (kN bV) (λhc=>?_)
  rw[Lx iP (cR ag Dc.no hq dD) λx hx=>by
   obtain⟨j,hj⟩:=eE hx
   exact hn j x (by have:=(aq.1 hj).1;omega) hj]
  exact aP.refl _
 |some z=>
  have aC:i<l.length:=(aq.1 aS).1;(have ay:((i:Int)<((l.map eA).length:Int)):=by rw[ak];omega);have hm:=aO aS;obtain⟨d1,d2,d3⟩:=hd z hm;have q1:=dG z d1 d2 d3;have q2:=w6 l z.rev hl d2;have q3:=w6 l z.need hl d3;have Eo:(ag z&&decide (ax Dc.no l i<z.no))=false->aJ l=170:=λh=>Hg iP (bC ag Dc.no aS hq h);have wZ:(ag z&&decide (ax Dc.no l i<z.no))=true->aA ag Dc.no (ax Dc.no l (i+1)) (l.drop (i+1))=aA ag Dc.no (-1) l:=λh=>bU ag Dc.no aS hq h
  have SS:kr l z=true-> ∀j w,j<i+1->l[j]? =some w->kr l w=true:=λh j w hj hw=>by
   rcases Nat.lt_succ_iff_lt_or_eq.1 hj with h1|h1
   · exact hn j w h1 hw
   · rw[h1,aS] at hw;injection hw with hw;rw[<-hw];exact h
  cases hr:ag z with
  |false=>
   rw[hr] at q1;rw[Eo (by rw[hr];rfl)];exact gg q1 (kY ay) (kX aS) trivial
  |true=>
   rw[hr] at q1;have h0:=eJ hr
   cases i with
   |zero=>
    have hg:=wZ (by rw[hr];show(true&&decide ((-1:Int)<z.no))=true;rw[decide_eq_true (by omega)];rfl);have Lu:¬(0:Int)<((0:Nat):Int):=by decide
    cases h2:Nk l z.rev with
    |false=>
     rw[h2] at q2;rw[oJ iP hm (by unfold kr;rw[h2];rfl)];exact Rh q1 q2 (kY ay) (kX aS) (kN Lu) trivial
    |true=>
     rw[h2] at q2
     cases h3:Nk l z.need with
     |false=>
      rw[h3] at q3;rw[oJ iP hm (by unfold kr;rw[h2,h3];rfl)];exact Jt q1 q2 q3 (kY ay) (kX aS) (kN Lu) trivial
     |true=>
      rw[h3] at q3;refine Jt q1 q2 q3 (kY ay) (kX aS) (kN Lu) (λhc hc hc hc hc hc hc hc hc hc hc hc hc hc hc hc hc hc hc hc hc hc hc hc hc hc hc hc hc hc hc hc hc hc=>?_);refine⟨⟨0+1,aC,hg,SS (by unfold kr;rw[h2,h3];rfl)⟩,by show l.length-(0+1)<l.length-0;omega,?_⟩;exact aG trivial
   |succ k=>
    (have hk:k<l.length:=by omega);obtain⟨y,hy⟩:∃y,l[k]? =some y:=⟨_,aV hk⟩;(have Bq:l[(((k+1:Nat):Int)-1).toNat]? =some y:=by rw[show(((k+1:Nat):Int)-1).toNat=k by omega];exact hy);have gy:ax Dc.no l (k+1)=y.no:=bk Dc.no hy;(have Lv:(0:Int)<((k+1:Nat):Int):=by omega);by_cases PY:z.no<=y.no
    · rw[Eo (by rw[gy,decide_eq_false (show ¬ y.no<z.no by omega),jE])]
      exact Jt q1 (kY ay) (kX aS) (kX Bq) (kY Lv) (kY PY) trivial
    · have hg:=wZ (by rw[hr,gy,decide_eq_true (show y.no<z.no by omega)];rfl)
      cases h2:Nk l z.rev with
      |false=>
       rw[h2] at q2;rw[oJ iP hm (by unfold kr;rw[h2];rfl)];exact Ri q1 q2 (kY ay) (kX aS) (kX Bq) (kY Lv) (kN PY) trivial
      |true=>
       rw[h2] at q2
       cases h3:Nk l z.need with
       |false=>
        rw[h3] at q3;rw[oJ iP hm (by unfold kr;rw[h2,h3];rfl)];exact Yu q1 q2 q3 (kY ay) (kX aS) (kX Bq) (kY Lv) (kN PY) trivial
       |true=>
        rw[h3] at q3;refine Yu q1 q2 q3 (kY ay) (kX aS) (kX Bq) (kY Lv) (kN PY) (λhc hc hc=>?_);refine⟨⟨k+1+1,aC,hg,SS (by unfold kr;rw[h2,h3];rfl)⟩,by show l.length-(k+1+1)<l.length-(k+1);omega,?_⟩;exact aG trivial
abbrev fT:KT:=([.int .i64],false)
theorem iM:nM eI where
 eq:=λa b=>by
  show(decide (a=b)&&true)=_;simp
abbrev Am:=List (Int×Int)
def Is(l:List Dc):Nat->Am
 |0=>[]
 |n+1=>match l[n]? with|some d=>dQ d.no (n:Int) (Is l n)|none=>Is l n
def su(l:List Dc):Am:=Is l l.length
def A7(m:Am):PV:= .mp fT (eM eI eI m)
def eSh(l:List Dc):PV:= .agg [eL l,A7 (su l)]
theorem zX{l:List Dc}{i:Nat}{x:Dc}(h:l[i]? =some x):Is l (i+1)=dQ x.no (i:Int) (Is l i):=by
 rw[Is,h]
theorem YG:ko af 138=some (fT,3):=by kernel_rfl
theorem rG(l:List Dc)(hl:l.length<1000000):aa af 59 [eL l] (eSh l):=by
 unfold eSh;generalize hA:su l=A;refine aa.e Tryz.func59 23 [.cell 2 140] [0,2,3,4,5,9,10,11,12] ?_;refine bM (kR YG) ?_;refine bY.bq (α:={i:Nat // i<=l.length}) mixed [0,2,3,4,5,9,10,11,12] (λi=>[(11,.p (eI i.1))]) (λi=>[(128,.map fT (eM eI eI (Is l i.1)))]) (λ_=>0) (λi=>l.length-i.1) ⟨0,by omega⟩ ?_ ?_
 · exact aG trivial
 rintro⟨i,hi⟩;have hi:i<=l.length:=hi;refine bM (kR YG) (ae (λhc x hx=>?_) λhc=>?_)
 · have hx:l[i]? =some x:=hx
   have aC:=(aq.1 hx).1;refine⟨⟨i+1,aC⟩,by show l.length-(i+1)<l.length-i;omega,?_⟩;refine aG ?_;show _=eM eI eI (Is l (i+1));rw[zX hx];exact cU eI iM x.no (i:Int) (Is l i)
 · have hc:¬(i:Int)<((l.map eA).length:Int):=hc
   rw[ak] at hc;(have e:i=l.length:=by omega);(have e2:Is l i=A:=by rw[e];exact hA);show aP (PV.agg [eL l,.mp fT (eM eI eI (Is l i))]) (PV.agg [eL l,A7 A]);rw[e2];exact aP.refl _
abbrev pC(l:List Dc)(sg:List Int)(n1 n2:Nat):bJ:= .cells [.p (eL l),.p (A7 (su l)),.p (dm sg),.bo 1 1 0 n1,.bo 2 1 0 n2,.mp 3]
theorem Hh(l:List Dc)(sg:List Int)(D K:List PV)(n1 n2:Nat)(a b:Nat)(u v:Int)(ha:sg[a]? =some u)(hb:sg[b]? =some v)(te:sg.length<1000000):
 aM af 181 5 [(0,pC l sg n1 n2),(1,.row 1 D),(2,.row 1 K),(3,.map fT []),(4,.cells [.ptr 0 0])] [.p (eN a),.p (eN b),.ptr 4 0] (.p (eI (qh u v)))
  [(0,pC l sg n1 n2),(1,.row 1 D),(2,.row 1 K),(3,.map fT []),(4,.cells [.ptr 0 0])]:=by
 (have RH:sg[(a:Int).toNat]? =some u:=by rw[dv];exact ha);(have wF:sg[(b:Int).toNat]? =some v:=by rw[dv];exact hb);have h1:=(aq.1 ha).1;have h2:=(aq.1 hb).1;refine aM.e Tryz.func181 21 [.tmp 5] [0,1,2,5] ?_;refine gg v7 (kX RH) (kX wF) ?_;exact nr [] [(0,0),(1,1),(2,2),(3,3),(4,4)] trivial
theorem swp{α:Type}(out rest:List α)(x y:α)(j:Nat)(h:out[j]? =some y):((out.take (j+1)++x::(out.drop (j+1)++rest)).set (j+1) y).set j x=out.take j++x::(out.drop j++rest):=by
 have aC:=(aq.1 h).1
 have e:=(aq.1 h).2
 have hl:(out.take j).length=j:=by simp;omega
 have BA:(out.take (j+1)).length=j+1:=by simp;omega
 have e1:out.take (j+1)=out.take j++[y]:=by rw[List.take_succ_eq_append_getElem aC,e]
 have e2:out.drop j=y::out.drop (j+1):=by rw[List.drop_eq_getElem_cons aC,e]
 have s1:(out.take (j+1)++x::(out.drop (j+1)++rest)).set (j+1) y=out.take (j+1)++y::(out.drop (j+1)++rest):=by
  rw[List.set_append_right _ _ (by omega),BA,Nat.sub_self];rfl
 rw[s1,e1,List.append_assoc,List.set_append_right _ _ (by omega),hl,Nat.sub_self,e2];rfl
def Ep(x:Int)(r:List Int):Int:=r.foldl (λa b=>if b<a then b else a) x
theorem Jy(x:Int)(r:List Int)(hl:r.length<1000000):aM af 144 1 [(0,.row 1 (((x::r).map eI)))] [.bo 0 1 0 (x::r).length] (.p (eI (Ep x r))) [(0,.row 1 (((x::r).map eI)))]:=by
 (have hmin:¬(((x::r).length:Nat):Int)<1:=by simp;omega);have Ww:(x::r)[0+Int.toNat 0]? =some x:=rfl;refine aM.e Tryz.func144 25 [.tmp 2] [0,2,3,4,7,15] ?_;refine gG (kN hmin) (kX Ww) (λhc=>?_);refine bY.bq (α:={i:Nat // i<=r.length}) mixed [0,2,3,4,7,15] (λi=>[(3,.p (eI (Ep x (r.take i.1)))),(4,.p (eI ((i.1:Int)+1)))]) (λ_=>[]) (λ_=>0) (λi=>r.length-i.1) ⟨0,by omega⟩ ?_ ?_
 · exact BB trivial
 rintro⟨i,hi⟩;have hi:i<=r.length:=hi
 cases hy:r[i]? with
 |none=>
  have dD:r.length<=i:=bw.1 hy;(have bV:¬((i:Int)+1)<(((x::r).length:Nat):Int):=by simp;omega);refine bM (kN bV) (λhc=>?_);rw[show r.take i=r from List.take_of_length_le dD];exact nr [] [(0,0)] trivial
 |some y=>
  have aC:=(aq.1 hy).1;(have ay:((i:Int)+1)<(((x::r).length:Nat):Int):=by simp;omega);have Bq:(x::r)[0+((i:Int)+1).toNat]? =some y:=by rw[show 0+((i:Int)+1).toNat=i+1 by omega];exact hy
  have ht:Ep x (r.take (i+1))=if y<Ep x (r.take i) then y else Ep x (r.take i):=by
   unfold Ep;rw[List.take_add_one,hy];simp[List.foldl_append]
  refine gG (kY ay) (kX Bq) (λhc=>?_);refine⟨⟨i+1,aC⟩,by show r.length-(i+1)<r.length-i;omega,?_⟩;show di _ _ (kj [0,2,3,4,7,15] _ _ _ [(3,.p (eI (Ep x (r.take (i+1))))),(4,.p (eI (((i+1:Nat):Int)+1)))] [] _);rw[ht];exact BB trivial
  try(split<;>rfl)
structure Pl where
 dn:List Bool
 lk:List Int
 rv:List (Int×List Int)
def lg(l:List Dc)(p:Pl)(i:Nat)(t:Int):Int×Int:=
 match l[i]? with
 |none=>(0,0)
 |some d=>if p.dn.getD i false=false then(1,-1) else if 0<=p.lk.getD i 0 then(4,p.lk.getD i 0) else
  match bn d.no p.rv with
  |some (x::r)=>(5,Ep x r)
  |_=>if t<d.oc then(2,-1) else if d.Rk<=t then(3,-1) else(0,-1)
def oU(m:List (Int×List Int)):List (PV×List PV):=m.map λx=>(eI x.1,x.2.map eI)
theorem uP(n:Int)(m:List (Int×List Int)):cK (eI n) (hM (oU m))=(bn n m).map λl=>MV.h (l.map eI):=by
 rw[zO];have h:=rz (β:=List Int) (λl:List Int=>PV.sl 1 false (l.map eI)) iM n m 0
 have e:cK (eI n) (oU m)=(bn n m).map λl=>l.map eI:=by
  induction m with
  |nil=>rfl
  |cons y r ih=>
   obtain⟨k,v⟩:=y
   have key:∀(m:List (Int×List Int)) (i:Nat),(aT (eI n) i (oU m)).map Prod.snd=(bn n m).map λl=>l.map eI:=by
    intro m
    induction m with
    |nil=>intro i;rfl
    |cons y r ih=>
     intro i;obtain⟨k,v⟩:=y;have ih:=ih (i+1);simp only[oU,List.map_cons,aT,iM.eq,bn] at ih ⊢;by_cases hk:n=k
     · subst hk;simp
     · rw[decide_eq_false hk,if_neg hk];exact ih
   exact key _ 0
 rw[e];cases bn n m<;>rfl
theorem jr.at{β:Type}{o:Option β}{v:β}{A:β->Prop}{B:Prop}(e:o=some v)(h:A v):jr o A B:=by rw[e];exact jr.ss h
theorem jr.no{β:Type}{o:Option β}{A:β->Prop}{B:Prop}(e:o=none)(h:B):jr o A B:=by rw[e];exact jr.nn h
theorem VI{m:List (Int×List Int)}:∀x∈oU m,qd fT x.1=true:=λx hx=>by
 obtain⟨y,_,rfl⟩:=List.mem_map.1 hx;rfl
theorem YH(n:Int):iF (eI n).cells (eI n).cells=true:=by
 show(decide (n=n)&&true)=true;simp
theorem jr.put{β:Type}{k:PV}{v:β}{m:List (PV×β)}{A:β->Prop}{B:Prop}(hk:iF k.cells k.cells=true)(h:A v):jr (cK k (dr k v m)) A B:=by
 rw[Jq hk];exact jr.ss h
abbrev hP(l:List Dc)(sg:List Int)(p:Pl):ab:=[(0,pC l sg p.dn.length p.lk.length),(1,.row 1 (p.dn.map PV.bool)),(2,.row 1 (p.lk.map eI)),(3,.cN fT 1 (hM (oU p.rv)))]
structure YI(l:List Dc)(p:Pl):Prop where
 dl:p.dn.length=l.length
 ll:p.lk.length=l.length
 rn:∀n ls,bn n p.rv=some ls->ls≠[]/\ls.length<1000000
theorem PZ:ko af 191=some (fT,39):=by kernel_rfl
theorem pA(l:List Dc)(sg:List Int)(p:Pl)(i:Nat)(t:Int)(d:Dc)(hd:l[i]? =some d)(hp:YI l p)(hl:l.length<1000000):
 aM af 84 4 (hP l sg p) [.ptr 0 0,.p (eN i),.p (eI t)] (.bR [.p (eI (lg l p i t).1),.p (eI (lg l p i t).2)]) (hP l sg p):=by
 have aC:=(aq.1 hd).1;(have IM:l[(i:Int).toNat]? =some d:=by rw[dv];exact hd);obtain⟨b,hb⟩:∃b,p.dn[i]? =some b:=⟨_,aV (by have:=hp.dl;omega)⟩;obtain⟨k,hk⟩:∃k,p.lk[i]? =some k:=⟨_,aV (by have:=hp.ll;omega)⟩;(have wF:p.dn[0+(i:Int).toNat]? =some b:=by rw[dv,gQ];exact hb);(have N9:p.lk[0+(i:Int).toNat]? =some k:=by rw[dv,gQ];exact hk);(have r7:p.dn.getD i false=b:=by simp[cF,hb]);(have MF:p.lk.getD i 0=k:=by simp[cF,hk]);have Rm:i<p.dn.length:=(aq.1 hb).1;have zm:i<p.lk.length:=(aq.1 hk).1;unfold lg;rw[hd];simp only[r7,MF]
 cases b with
 |false=>
  refine aM.e Tryz.func84 70 [.tmp 6,.tmp 7] VF ?_;refine gG (kX IM) (kX wF) ?_;exact nr [] [(0,0),(1,1),(2,2),(3,3)] trivial
 |true=>
  by_cases h0:0<=k
  · rw[if_pos h0]
    refine aM.e Tryz.func84 70 [.tmp 6,.tmp 7] VF ?_;refine oa (kX IM) (kX wF) (kX N9) (kY h0) (λhc=>?_);exact nr [] [(0,0),(1,1),(2,2),(3,3)] trivial
  · rw[if_neg h0]
    cases hg:bn d.no p.rv with
    |none=>
     (have hm:cK (eI d.no) (hM (oU p.rv))=none:=by rw[uP,hg];rfl);(have Mo:¬(0:Int)<(([]:List PV).length:Int):=by decide);refine aM.e Tryz.func84 70 [.tmp 6,.tmp 7] VF ?_;refine Ri (kR PZ) (kX IM) (kX wF) (kX N9) (kN h0) (kX hm) (kN Mo) (λhc hc hc=>ae (λhc=>?_) λhc=>ae (λhc=>?_) λhc=>?_)
     all_goals first
     |(have hc:t<d.oc:=hc
       rw[if_pos hc];exact nr [] [(0,0),(1,1),(2,2),(3,3)] trivial
       done)
     |(have hc:d.Rk<=t:=hc
       (have Fp:¬ t<d.oc:=by assumption);rw[if_neg Fp,if_pos hc];exact nr [] [(0,0),(1,1),(2,2),(3,3)] trivial
       done)
     |(have hc:¬ d.Rk<=t:=hc
       (have Fp:¬ t<d.oc:=by assumption);rw[if_neg Fp,if_neg hc];exact nr [] [(0,0),(1,1),(2,2),(3,3)] trivial
       done)
    |some ls=>
     cases ls with
     |nil=>exact absurd rfl (hp.rn _ _ hg).1
     |cons x r=>
      (have hr:r.length<1000000:=by have:=(hp.rn _ _ hg).2;simp at this;omega);(have q:aM af 144 1 [(0,.row 1 ((x::r).map eI))] [.bo 0 1 0 ((x::r).map eI).length] (.p (eI (Ep x r))) [(0,.row 1 ((x::r).map eI))]:=by rw[ak];exact Jy x r hr);(have XQ:(0:Int)<(((x::r).map eI).length:Int):=by simp);have hm:cK (eI d.no) (hM (oU p.rv))=some (MV.h ((x::r).map eI)):=by rw[uP,hg];rfl
      have Z6:cK (eI d.no) (oU p.rv)=some ((x::r).map eI):=by
       have h:=hm;rw[zO] at h
       cases hh:cK (eI d.no) (oU p.rv) with
       |none=>rw[hh] at h;cases h
       |some z=>rw[hh] at h;injection h with h;injection h with h;rw[h]
      refine aM.ofH (N:=70) (res:=[.tmp 6,.tmp 7]) mixed Tryz.func84 rfl rfl rfl (by kernel_rfl) (by simp) [0,1,2,6,7,8,17,26,42,60,65] (Nat.le_refl _) ?_
      repeat' (first|exact fg|(refine stx ?_;first|exact bW _|refine aE ?_)|(refine kq ?_;first|refine fR (kI [2308] q) ?_)|((fail_if_success refine ft ?_);(conv=>whnf)<;>(first|exact fh|refine dR IM ?_|refine dR wF ?_|refine dR N9 ?_|refine vZ h0 λhc=>?_|refine jr.put (YH _) ?_|refine jr.at hm ?_|refine np XQ λhc=>?_|refine str ?_|refine Br.dec (λhc=>?_) λhc=>?_|refine Br.mk (λhc=>?_) λhc=>?_|exact PV.ao|refine PV.ai ?_ ?_|refine ae ?_ ?_|refine aD λx hx=>?_|refine aE ?_|refine bX (λhn=>?_) ?_|exact fv|refine bS λaZ=>?_|refine al ?_ ?_|rw[PZ]|refine fu ?_|fail)))<;>(try exact fi)
      (conv=>whnf);refine Or.inr ⟨_,3,2308,1,fT,oU p.rv,eI d.no,(x::r).map eI,⟨rfl,rfl,rfl,by decide,VI,rfl,Z6⟩,?_⟩;(conv=>whnf);exact nr [] [(0,0),(1,1),(2,2),(3,3)] trivial
end bA
end Go.Proofs.YtmaiccmhkmndcaaGreatDoor
