/- A part of the proof: contracts of the functions that the statement reaches. -/
import Derived.Test.YtmaiccmhkmndcaaGreatDoorChpBD
import Derived.Test.YtmaiccmhkmndcaaGreatDoorChpAE
import Derived.Test.YtmaiccmhkmndcaaGreatDoorChpAG
import Derived.Test.YtmaiccmhkmndcaaGreatDoorChpAI
import Derived.Test.YtmaiccmhkmndcaaGreatDoorChpAU
import Derived.Test.YtmaiccmhkmndcaaGreatDoorChpAA
set_option linter.unusedSimpArgs false
set_option linter.unusedVariables false
set_option linter.unnecessarySimpa false
set_option maxRecDepth 100000
set_option maxHeartbeats 40000000
open Bool renaming and_eq_true->aQ
open Go.Proofs.Tryz renaming prog->af
open List renaming mem_of_getElem?->aO,length_filter_le->iB,mem_filter->dN,length_map->ak
namespace Go.Proofs.YtmaiccmhkmndcaaGreatDoor
open Go Go.Sg
namespace Ju
structure Ir(r:Rg)(d:bA.Dc)(a k:Int):Prop where
 g:Ta r
 z:Of.aJ r.ap=0/\rP.aJ r.dp=0/\ng.aJ r.it=0/\bx.aJ r.bg=0/\xO r.vs=0/\bA.aJ r.dc=0/\od.aJ r.av=0
 d:d∈r.dc
 a:0<=a/\a<1099511627776
 k:0<=k/\k<1099511627776
theorem WS{r:Rg}{d:bA.Dc}{a k:Int}(h:Ir r d a k):bA.ag d=true:=(bA.dI h.z.2.2.2.2.2.1).2.1 d h.d
def bsB(r:Rg)(d:bA.Dc)(a k p:Int):Bool:=(ng.NU r.it p d.par a k).2.1
theorem vh(r:Rg)(d:bA.Dc)(a k p:Int)(h:Ir r d a k)(hp:0<=p/\p<=63):aa af 193 [NO r d a k,eI p] (.bool (bsB r d a k p)):=by
 have hd:=WS h;have ha:=h.a;have hk:=h.k;have t1:ng.TM=1099511627776:=rfl;have t2:bA.TM=1099511627776:=rfl;simp only[bA.ag,bA.pZ,aQ,decide_eq_true_eq] at hd;have q:=ng.AS r.it p d.par a k h.g.it (by omega)
 have e:(ng.NU r.it p d.par a k).2.2=0:=by
  have h1:ng.kh p d.par a k=true:=by
   have h2:ng.Dx d.par=true:=hd.2.1.1.1;simp only[ng.kh,h2,Bool.true_and,aQ,decide_eq_true_eq,ng.fS];(have:d.par.length<=16:=by omega);omega
  have h3:ng.vf r.it p d.par a k=0:=by unfold ng.vf;rw[if_pos h.z.2.2.1,if_pos h1]
  unfold ng.NU;rw[if_pos h3]
 have q4:=iD;unfold bsB;generalize ng.NU r.it p d.par a k=W at *;obtain⟨w,b,z⟩:=W;have e:z=0:=e;subst e;refine aa.e Tryz.func193 27 [.tmp 4] [0,1,2,4,6,7] ?_;exact gG q q4 trivial
def ApR(x:od.Ap):Prop:=(0<=x.J4/\x.J4<=63)/\(0<=x.for_/\x.for_<=63)/\0<=x.off/\x.off<=31
def wdG(n k:Nat)(x:List PV):Prop:=k<n/\ ∃y:od.Ap,x=[od.eA y]
theorem N0(r:Rg)(d:bA.Dc)(a k:Int)(h:Ir r d a k)(p:Po)(hp:oL p)(hz:wg p=0):mT af 189 [.ro (QB r d a k),.ro (cP p)] [] (wdG r.av.length) (· <=r.av.length):=by
 have hd:=WS h;have ha:=h.a;have hk:=h.k;have t1:ng.TM=1099511627776:=rfl;have t2:bA.TM=1099511627776:=rfl;have hal:=h.g.av;simp only[bA.ag,bA.fS,aQ,decide_eq_true_eq] at hd;obtain⟨ua,-⟩:=oN hz
 have VA:LI p=true:=by
  unfold Ht at ua;split at ua
  · split at ua
    · split at ua
      · assumption
      · cases ua
    · cases ua
  · cases ua
 simp only[LI,aQ,decide_eq_true_eq] at VA;have oI:=VA.2.1
 have hth:∀(i:Nat) (x:Ru),p.rules[i]? =some x->0<=x.l6/\x.l6<1099511627776:=λi x hx=>by
  have:=List.all_eq_true.1 VA.2.2.2.2.1 _ (aO (nf hx));simp only[we,aQ,decide_eq_true_eq] at this;exact⟨this.2.1,this.2.2.1⟩
 obtain⟨nm,ks,os,rs,ch,md⟩:=p;have oI:rs.length=ks.length:=oI;have hth:∀(i:Nat) (x:Ru),rs[i]? =some x->0<=x.l6/\x.l6<1099511627776:=hth;have zm:ks.length<=20:=hp.k;have hcP:cP (Po.mk nm ks os rs ch md)=[.str nm,gV ks,gV os,.sl 8 false (rs.map ns),eI ch.k,eI ch.n,eI ch.no,.str ch.nm,.sl 5 false (ch.l.map eX),eI md]:=rfl;rw[hcP];by_cases hik:d.kind.toNat<ks.length
 · obtain⟨x,hx⟩:∃x,rs[d.kind.toNat]? =some x:=⟨_,List.getElem?_eq_getElem (by omega)⟩
   obtain⟨ht1,ht2⟩:=hth _ x hx;have q1:=od.AP r.av d.no d.tm x.l6 a k h.g.av
   have e1:∃L,od.Ib r.av d.no d.tm x.l6 a k=(L,0)/\(∀y∈L,ApR y)/\L.length<=r.av.length:=by
    have h1:od.Dw d.no d.tm x.l6 a k=true:=by
     simp only[od.Dw,od.bh,aQ,decide_eq_true_eq];omega
    refine⟨(od.lg r.av d.no a k).filter λy=> !od.QG d.tm a x.l6 y,by unfold od.Ib;rw[if_pos h.z.2.2.2.2.2.2,if_pos h1],λy hy=>?_,Nat.le_trans (iB _ _) (iB _ _)⟩;have:=(od.dI h.z.2.2.2.2.2.2).2.1 y (dN.1 (dN.1 hy).1).1;simp only[od.ag,od.bh,aQ,decide_eq_true_eq] at this;unfold ApR;omega
   obtain⟨L,e1,hL,Qf⟩:=e1;rw[e1] at q1;have q4:=iD;(have bV:¬((ks.map eS).length:Int)<=d.kind:=by rw[ak];omega);(have TT:0<=d.kind:=by omega);(have Io:d.kind<((rs.map ns).length:Int):=by rw[ak];omega);refine mT.e Tryz.func189 124 PM ?_;intro G hG Sv;refine oa q1 q4 (kN bV) (kX hx) (λhc=>?_);refine bY.bq (α:={x:Nat×Nat // x.1<=L.length/\x.2<=x.1/\x.2<=G.stop}) mixed PM (λx=>[(50,.p (eI x.1.1))]) (λ_=>[]) (λx=>x.1.2) (λx=>L.length-x.1.1) ⟨(0,0),by omega,by omega,by omega⟩ ?_ ?_
   · exact aG trivial
   rintro⟨⟨j,y⟩,hj,hy,hs⟩;have hj:j<=L.length:=hj;have hy:y<=j:=hy;have hs:y<=G.stop:=hs
   cases oM:L[j]? with
   |none=>
    have dD:L.length<=j:=List.getElem?_eq_none_iff.1 oM;(have bV:¬((j:Int)<((L.map od.eA).length:Int)):=by rw[ak];omega);refine bM (kN bV) (λhc=>?_)
    all_goals(refine Or.inr ?_;show y<=r.av.length;omega)
   |some z=>
    have aC:j<L.length:=(List.getElem?_eq_some_iff.1 oM).1;(have ay:((j:Int)<((L.map od.eA).length:Int)):=by rw[ak];omega);obtain⟨Bm,hz3,hz4⟩:=hL z (aO oM);(have bI:∀{lo hi n:Int},lo<=n->n<=hi->bh lo hi n=true:=λh1 h2=>by simp[bh,h1,h2]);have qH:=Of.HO r.ap z.off z.for_ a k h.g.ap h.z.1 (bI hz4.1 hz4.2) (bI hz3.1 hz3.2) (bI ha.1 (show a<=1099511627775 by omega)) (bI hk.1 (show k<=1099511627775 by omega));have qC:=rP.Ia r.dp z.for_ z.J4 ⟨z.off,d.kind,d.val,a,k⟩ h.g.dp
    have e2:(rP.AM r.dp z.for_ z.J4 ⟨z.off,d.kind,d.val,a,k⟩).2.2=0:=by
     have h1:rP.Ko z.for_ z.J4 ⟨z.off,d.kind,d.val,a,k⟩=true:=by
      have t3:rP.TM=1099511627775:=rfl;simp only[rP.Ko,rP.bh,aQ,decide_eq_true_eq];omega
     (have h3:rP.Kr r.dp z.for_ z.J4 ⟨z.off,d.kind,d.val,a,k⟩=0:=by unfold rP.Kr;rw[if_pos h.z.2.1,if_pos h1]);unfold rP.AM;rw[if_pos h3];unfold rP.Ku;split<;>rfl
    have qB1:=vh r d a k z.for_ h hz3;have qB2:=vh r d a k z.J4 h Bm;generalize Of.Qe r.ap z.off z.for_ a k=W1 at *;generalize rP.AM r.dp z.for_ z.J4 ⟨z.off,d.kind,d.val,a,k⟩=W2 at *;generalize bsB r d a k z.for_=b1 at *;generalize bsB r d a k z.J4=b2 at *;obtain⟨w1,w2,w3⟩:=W1;obtain⟨v1,v2,v3⟩:=W2;have e2:v3=0:=e2;subst e2
    repeat' (first|exact fg|(refine stx ?_;first|exact bW _|refine aE ?_)|(refine kq ?_;first|refine fR qH ?_|refine fR qC ?_|refine fR qB1 ?_|refine fR qB2 ?_|refine fR q4 ?_)|((fail_if_success refine ft ?_);(conv=>whnf)<;>(first|exact fh|refine np ay λhc=>?_|refine dR oM ?_|(refine fJ.r (gL.n (gq.y ?_));(conv=>whnf);refine⟨hG,rfl,hs,[od.eA z],rfl,by(rw[Sv];exact⟨by(show y<r.av.length);omega,z,rfl⟩),?_⟩)|refine str ?_|refine Br.dec (λhc=>?_) λhc=>?_|refine Br.mk (λhc=>?_) λhc=>?_|exact PV.ao|refine PV.ai ?_ ?_|refine And.intro ?_ ?_|refine aD λx hx=>?_|refine aE ?_|refine bX (λhn=>?_) ?_|exact fv|refine bS λaZ=>?_|refine al ?_ ?_|refine fu ?_|fail)))<;>(try exact fi)
    all_goals first
    |(have hc:¬ y≠G.stop:=by assumption
      refine Or.inl ?_;show y+1=G.stop+1
      omega)
    |(have hc:y≠G.stop:=by assumption
      refine⟨⟨(j+1,y+1),(show j+1<=L.length by omega),(show y+1<=j+1 by omega),(show y+1<=G.stop by omega)⟩,(by show L.length-(j+1)<L.length-j;omega),?_⟩;exact aG trivial
      done)
    |(refine⟨⟨(j+1,y),(show j+1<=L.length by omega),(show y<=j+1 by omega),hs⟩,(by show L.length-(j+1)<L.length-j;omega),?_⟩
      exact aG trivial
      done)
    |trace_state
 · refine mT.e Tryz.func189 124 PM ?_
   intro G hG Sv;(have ay:((ks.map eS).length:Int)<=d.kind:=by rw[ak];omega);refine bM (kY ay) (λhc=>?_)
   all_goals exact Or.inr (Nat.zero_le _)
end Ju
end Go.Proofs.YtmaiccmhkmndcaaGreatDoor
