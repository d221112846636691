/- A part of the proof: contracts of the functions that the statement reaches. -/
import Derived.Test.YtmaiccmhkmndcaaGreatDoorChpAH
import Derived.Test.YtmaiccmhkmndcaaGreatDoorChpAA
set_option linter.unusedSimpArgs false
set_option linter.unusedVariables false
set_option linter.unnecessarySimpa false
set_option maxRecDepth 100000
set_option maxHeartbeats 40000000
open And renaming intro->ae
open List renaming length_filter_le->iB,length_map->ak,mem_map->aY,getElem?_eq_getElem->aV,mem_of_getElem?->aO,take_length->eG,map->bZ,take_of_length_le->bN,drop->eo
open Nat renaming zero_le->de
namespace Go.Proofs.YtmaiccmhkmndcaaGreatDoor
open Go Go.Sg
namespace ng
abbrev eF(m:Wg):List (PV×List PV):=eM eI (λl:List It=>l.map eA) m
theorem frf(p:Int)(m:Wg):cK (eI p) (hM (eF m))=(bn p m).map λl=>MV.h (l.map eA):=by
 rw[zO,bj (λl:List It=>l.map eA) iM];cases bn p m<;>rfl
theorem frs(p:Int)(m:Wg):cK (eI p) (M9 7 (eF m))=(bn p m).map λl=>PV.sl 7 false (l.map eA):=by
 rw[Na,bj (λl:List It=>l.map eA) iM];cases bn p m<;>rfl
theorem Tx{S:List It}{p:Int}{i:Nat}{z:List It}(h:bn p (KC (S.take i))=some z):z.length<=S.length:=by
 have:=E1 S p i;rw[h] at this;have this:z=oc (S.take i) p:=this;rw[this];have h1:=iB (λx:It=>x.Iy&&decide (x.fy=p)) (S.take i);rw[List.length_take] at h1;unfold oc;omega
theorem QM(p:Int)(L:List It)(m:Wg):dr (eI p) (.h (L.map eA)) (hM (eF m))=hM (eF (dQ p L m)):=by
 rw[Ld];exact congrArg hM (cU (λl:List It=>l.map eA) iM p L m)
theorem eqI(p:Int):iF (eI p).cells (eI p).cells=true:=(iM.eq p p).trans (decide_eq_true rfl)
section
variable{S:List It}{jw:Int}{i:Nat}{y:It}
theorem QN(h:S[i]? =some y)(ho:y.Iy=true):KC (S.take (i+1))=dQ y.fy ((bn y.fy (KC (S.take i))).getD []++[y]) (KC (S.take i)):=by
 rw[AQ h];unfold QL;rw[if_pos ho]
theorem QO(h:S[i]? =some y)(ho:y.Iy=false):KC (S.take (i+1))=KC (S.take i):=by
 rw[AQ h];unfold QL;rw[ho];rfl
theorem yi(h:S[i]? =some y)(ho:y.Iy=true):pM jw (S.take (i+1))=pM jw (S.take i):=by
 rw[sC h];unfold sB;rw[ho];rfl
theorem Ig(h:S[i]? =some y)(ho:y.Iy=false)(hp:y.fy=jw):pM jw (S.take (i+1))=ql (pM jw (S.take i)) ⟨[y.no],y.gW⟩:=by
 rw[sC h];unfold sB;rw[ho,decide_eq_true hp];rfl
theorem L6(h:S[i]? =some y)(ho:y.Iy=false)(hp:¬ y.fy=jw):pM jw (S.take (i+1))=pM jw (S.take i):=by
 rw[sC h];unfold sB;rw[ho,decide_eq_false hp];rfl
end
theorem AS(l:List It)(jw:Int)(P:List Int)(t k:Int)(hl:l.length<1000000)(hP:P.length<1000000):aa Tryz.prog 237 [eL l,eI jw,dm P,eI t,eI k] (eC (NU l jw P t k)):=by
 have q1:=KA l jw P t k hl hP;unfold NU;by_cases hz:vf l jw P t k=0
 · rw[hz] at q1
   rw[if_pos hz];obtain⟨hchk,er⟩:=QH hz;have Zm:=yh (Tu er).1;have q2:=ga l t k hl;refine aa.e Tryz.func237 111 [.tmp 10,.tmp 11,.tmp 12] De ?_;refine gG q1 q2 ?_;have gh:=Kx l (foldM t k l) hl;(have WW:(l.filter (jN (foldM t k l))).length<=(l.map eA).length:=by rw[ak];exact iB _ _);have hFl2:(l.filter (jN (foldM t k l))).length<1000000:=by have:=iB (jN (foldM t k l)) l;omega
   have jd:∀x∈((l.filter (jN (foldM t k l))).map λy=>[eA y]),x.length=1:=λx hx=>by
    obtain⟨y,_,rfl⟩:=aY.1 hx;rfl
   (have du:∀i y,(l.filter (jN (foldM t k l)))[i]? =some y->((l.filter (jN (foldM t k l))).map λy=>[eA y]).getD i []=[eA y]:=λi y h=>by simp[List.getD,h]);show Lp _ _ _ _;change Lp _ _ _ _;unfold stL;generalize l.filter (jN (foldM t k l))=S at *;refine Lp.na 832 7 rfl ?_;refine bY.range mixed gh (by kernel_rfl) rfl De S.length [0,832,896,1024,1088,1344,1408,1600] (λi=>([(832,.cN fT 7 (hM (eF (KC (S.take i))))),(1600,.cells [.fn (.func 271) [] [.ptr 1088 0,.ptr 1408 0]]),(1408,.cells [.ch 1344]),(1344,.chan (l.map eA).length ((pM jw (S.take i)).map eW)),(1088,.cells [.mp 1024]),(1024,.map fT (eM eI PV.bool (iC (pM jw (S.take i))))),(896,.cells [.mp 832]),(0,.cells [.p (eI jw)])],1984)) rfl (gN rfl) (by simp) (by simp) jd (λi hi hm=>?_) (λ_=>?_)
   · rw[ak] at hi
     obtain⟨y,hy⟩:∃y,S[i]? =some y:=⟨_,aV hi⟩;rw[du i y hy];(have hlen:∀z,bn y.fy (KC (S.take i))=some z->(z.map eA).length<1000000:=λz hz=>by have:=Tx hz;rw[ak];omega);have bQ:=QK (S:=S) jw i;have hwl:=bQ.len;have hpm:y.gW∈S.map It.gW:=aY.2 ⟨y,aO hy,rfl⟩;have pc:=xx (pM jw (S.take i)) 0 (l.map eA).length ⟨[y.no],y.gW⟩ [eI y.no] 1 rfl rfl (de _) (by omega) (by show 1<1000000;decide) (λhn=>by have:=bQ.room (w:=⟨[y.no],y.gW⟩) hn hpm;omega)
     try dsimp only
     repeat' (first|exact fg|(refine stx ?_;first|exact bW _|refine aE ?_)|(refine kq ?_;first|refine fR (kI [1088,1024,1408,1344,2816] pc) ?_)|((fail_if_success refine ft ?_);(conv=>whnf)<;>(first|exact fh|refine jr.of (frf y.fy (KC (S.take i))) (λz hz=>(λCe=>?_) (hlen z hz)) (λhz=>?_)|refine str ?_|refine Br.dec (λhc=>?_) λhc=>?_|refine Br.mk (λhc=>?_) λhc=>?_|exact PV.ao|refine PV.ai ?_ ?_|refine ae ?_ ?_|refine aD λx hx=>?_|refine aE ?_|refine bX (λhn=>?_) ?_|exact fv|refine bS λaZ=>?_|refine al ?_ ?_|refine fu ?_|fail)))<;>(try exact fi)
     all_goals refine nq (ae ?_ (ae ?_ ?_))
     · rw[QN hy hc,hz]
       refine(C0 (eqI _) _ _ _).trans ?_;refine Eq.trans ?_ (QM y.fy (z++[y]) _);rw[List.map_append];rfl
     · rw[yi hy hc]
     · rw[yi hy hc]
     · rw[QN hy hc,hz]
       exact QM y.fy [y] _
     · rw[yi hy hc]
     · rw[yi hy hc]
     · rename_i ho
       rw[QO hy ho]
     · rename_i ho
       rw[Ig hy ho hc,List.drop_zero]
     · rename_i ho
       rw[Ig hy ho hc]
     · rename_i ho
       rw[QO hy ho]
     · rename_i ho
       rw[L6 hy ho hc]
     · rename_i ho
       rw[L6 hy ho hc]
   · have eT:S.take (S.map λy=>[eA y]).length=S:=by rw[ak,eG]
     show Kt.n _ ⟨_,[(832,.cN fT 7 (hM (eF (KC (S.take (S.map λy=>[eA y]).length))))),(1600,.cells [.fn (.func 271) [] [.ptr 1088 0,.ptr 1408 0]]),(1408,.cells [.ch 1344]),(1344,.chan (l.map eA).length ((pM jw (S.take (S.map λy=>[eA y]).length)).map eW)),(1088,.cells [.mp 1024]),(1024,.map fT (eM eI PV.bool (iC (pM jw (S.take (S.map λy=>[eA y]).length))))),(896,.cells [.mp 832]),(0,_)],1984,0⟩;rw[eT]
     (conv=>whnf)
     refine Sq.shut 832 rfl (by decide) ?_;refine cb ?_;(have hok0:Dy S (pM jw S):=by have:=QK (S:=S) jw S.length;rwa[eG] at this);refine bY.bq (α:={x:List Wy×Nat×List Wy // x.2.2=x.1.drop x.2.1/\Dy S x.1/\x.2.1<=x.1.length/\AR P S (S.length+1-x.2.1) x.1 x.2.1=Ie S P jw}) mixed De (λ_=>[]) (λx=>[(1344,.chan (l.map eA).length (x.1.2.2.map eW)),(1024,.map fT (eM eI PV.bool (iC x.1.1)))]) (λ_=>0) (λx=>S.length+1-x.1.2.1) ⟨(pM jw S,0,pM jw S),rfl,hok0,de _,rfl⟩ ?_ ?_
     · exact aG trivial
     rintro⟨⟨ways,kk,rest⟩,hr,bQ,A3,hq⟩;have hr:rest=ways.drop kk:=hr;have bQ:Dy S ways:=bQ;have A3:kk<=ways.length:=A3;have hq:AR P S (S.length+1-kk) ways kk=Ie S P jw:=hq;have hwl:=bQ.len;have hwl2:ways.length<1000000:=by omega
     cases rest with
     |nil=>
      have dD:ways.length<=kk:=List.drop_eq_nil_iff.1 hr.symm;have hn:ways[kk]? =none:=List.getElem?_eq_none dD;(have bV:¬(0:Int)<(([]:List PV).length:Int):=by decide);refine bM (kN bV) (λhc=>?_);show aP (PV.bR [PV.sl 0 true [],PV.bool false,eI 0]) (eC ((Ie S P jw).1,(Ie S P jw).2,0));rw[<-hq,show S.length+1-kk=(S.length-kk)+1 by omega,NV hn];exact aP.mk (PV.fU (PV.ai (PV.le_nil _ _ _) (PV.ai (PV.le_refl _) (PV.ai (PV.le_refl _) PV.ao))))
     |cons w r=>
      have aC:kk<ways.length:=by
       rcases Nat.lt_or_ge kk ways.length with h|h
       · exact h
       · rw[List.drop_eq_nil_of_le h] at hr;cases hr
      have Od:=List.drop_eq_getElem_cons aC;rw[<-hr] at Od;injection Od with hw3 Ip;(have hw:ways[kk]? =some w:=by rw[hw3];exact aV aC);(have ay:(0:Int)<(((w::r).map eW).length:Int):=by rw[ak,List.length_cons];omega);have hwm:=bQ.mem w (aO hw);rw[show S.length+1-kk=(S.length-kk)+1 by omega,NW hw] at hq;have qb:=NS w.to P hP Zm;rw[NY Zm] at qb
      cases hb:hasB P w.to with
      |true=>
       rw[hb] at qb;rw[hb,if_pos rfl] at hq;refine gG qb (kY ay) (λhc=>?_);show aP (PV.bR [dm w.path,PV.bool true,eI 0]) (eC ((Ie S P jw).1,(Ie S P jw).2,0));rw[<-hq];exact aP.refl _
      |false=>
       rw[hb] at qb;rw[hb,if_neg Bool.false_ne_true] at hq;by_cases h8:w.path.length=8
       · rw[if_pos h8] at hq
         (have h8':((w.path.map eI).length:Int)=8:=by rw[ak];omega);refine gg qb (kY ay) (kY h8') (λhc hc=>?_);refine⟨⟨(ways,kk+1,r),Ip,bQ,aC,by rw[show S.length+1-(kk+1)=S.length-kk by omega];exact hq⟩,by show S.length+1-(kk+1)<S.length+1-kk;omega,?_⟩;exact aG trivial
       · rw[if_neg h8] at hq
         (have h8':¬((w.path.map eI).length:Int)=8:=by rw[ak];omega);refine oa qb (kY ay) (kN h8') (kO (frs w.to (KC S))) (λhc hc=>ae (λz hz=>?_) λhz=>?_)
         · have Q6:oc S w.to=z:=by
            have:=E1 S w.to S.length;rw[eG,hz] at this;exact this.symm
           have hzS:∀x∈z,x∈S:=λx hx=>by rw[<-Q6] at hx;exact Tv hx
           have Ce:z.length<1000000:=by
            have:=iB (λx:It=>x.Iy&&decide (x.fy=w.to)) S;unfold oc at Q6;rw[Q6] at this;omega
           (have hp7:w.path.length<=7:=by have:=hwm.2;omega);rw[Q6] at hq;refine bY.bq (α:={j:Nat // j<=z.length}) mixed De (λj=>[(94,.p (eI j.1))]) (λj=>[(1344,.chan (l.map eA).length (((lK w (z.take j.1) ways).drop (kk+1)).map eW)),(1024,.map fT (eM eI PV.bool (iC (lK w (z.take j.1) ways))))]) (λ_=>0) (λj=>z.length-j.1) ⟨0,by omega⟩ ?_ ?_
           · refine aG ?_
             show bZ eW r=bZ eW (ways.drop (kk+1));rw[Ip]
           rintro⟨j,hj⟩;have hj:j<=z.length:=hj;have Ty:Dy S (lK w (z.take j) ways):=Wh (L:=z) (w:=w) bQ hzS hp7 j;obtain⟨zz,Q5⟩:=Tw (L:=z) (w:=w) (ways:=ways) j;(have W9:kk+1<=(lK w (z.take j) ways).length:=by rw[Q5,List.length_append];omega);have hlj:(lK w (z.take j) ways).length<=S.length:=Ty.len;have hlj2:(lK w (z.take j) ways).length<1000000:=by omega
           cases oM:z[j]? with
           |none=>
            have dD:z.length<=j:=List.getElem?_eq_none_iff.1 oM;(have bV:¬((j:Int)<((z.map eA).length:Int)):=by rw[ak];omega);rw[bN dD] at Ty W9;refine bM (kN bV) (λhc=>?_);refine⟨⟨(lK w z ways,kk+1,(lK w z ways).drop (kk+1)),rfl,Ty,W9,by rw[show S.length+1-(kk+1)=S.length-kk by omega];exact hq⟩,by show S.length+1-(kk+1)<S.length+1-kk;omega,?_⟩;refine aG (ae ?_ ?_)
            · show bZ eW (eo (kk+1) (lK w (z.take j) ways))=bZ eW (eo (kk+1) (lK w z ways))
              rw[bN dD]
            · show eM eI PV.bool (iC (lK w (z.take j) ways))=eM eI PV.bool (iC (lK w z ways))
              rw[bN dD]
           |some x=>
            have HJ:j<z.length:=(List.getElem?_eq_some_iff.1 oM).1;(have Wi:((j:Int)<((z.map eA).length:Int)):=by rw[ak];omega);have hpm:x.gW∈S.map It.gW:=aY.2 ⟨x,hzS x (aO oM),rfl⟩;have qc:=Kz w.path (by omega)
            have pc:=xx (lK w (z.take j) ways) (kk+1) (l.map eA).length ⟨w.path++[x.no],x.gW⟩ (w.path.map eI++[eI x.no]) ((w.path.map eI).length+1) (by simp) (by simp) W9 hlj2 (by simp;omega) (λhn=>by
             have h1:(lK w (z.take j) ways).length<S.length:=Ty.room (w:=⟨w.path++[x.no],x.gW⟩) hn hpm
             omega)
            refine oa qc (kI [1088,1024,1408,1344,4480] pc) (kY Wi) (kX oM) (λhc aZ=>?_);refine⟨⟨j+1,HJ⟩,by show z.length-(j+1)<z.length-j;omega,?_⟩;refine aG (ae ?_ ?_)
            · show bZ eW (eo (kk+1) (ql (lK w (z.take j) ways) _))=bZ eW (eo (kk+1) (lK w (z.take (j+1)) ways))
              rw[sD oM]
            · show eM eI PV.bool (iC (ql (lK w (z.take j) ways) _))=eM eI PV.bool (iC (lK w (z.take (j+1)) ways))
              rw[sD oM]
         · have Q6:oc S w.to=[]:=by
            have:=E1 S w.to S.length;rw[eG,hz] at this;exact this.symm
           rw[Q6] at hq;refine bY.bq (α:=Unit) mixed De (λ_=>[]) (λ_=>[]) (λ_=>0) (λ_=>0) () ?_ ?_
           · exact aG trivial
           intro _;(have bV:¬(0:Int)<(([]:List PV).length:Int):=by decide);refine bM (kN bV) (λhc=>?_);refine⟨⟨(ways,kk+1,r),Ip,bQ,aC,by rw[show S.length+1-(kk+1)=S.length-kk by omega];exact hq⟩,by show S.length+1-(kk+1)<S.length+1-kk;omega,?_⟩;exact aG trivial
 · rw[if_neg hz]
   refine aa.e Tryz.func237 111 [.tmp 10,.tmp 11,.tmp 12] De ?_;refine bM q1 (λhc=>?_)
   all_goals exact aP.mk (PV.fU (PV.ai (PV.le_nil _ _ _) (PV.ai (PV.le_refl _) (PV.ai (PV.le_refl _) PV.ao))))
end ng
end Go.Proofs.YtmaiccmhkmndcaaGreatDoor
