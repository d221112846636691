/- A part of the proof: contracts of the functions that the statement reaches. -/
import Derived.Test.YtmaiccmhkmndcaaGreatDoorChpAM
import Derived.Test.YtmaiccmhkmndcaaGreatDoorChpAA
set_option linter.unusedSimpArgs false
set_option linter.unusedVariables false
set_option linter.unnecessarySimpa false
set_option maxRecDepth 100000
set_option maxHeartbeats 40000000
open And renaming intro->ae
open Bool renaming and_eq_true->aQ,true_and->dZ
open List renaming all_eq_true->cG,length_map->ak,getElem?_eq_none_iff->bw,take_of_length_le->bN,getElem?_eq_some_iff->aq
namespace Go.Proofs.YtmaiccmhkmndcaaGreatDoor
open Go Go.Sg
def ED(r:Ru):Bool:=decide (pN r.ex 40<=40)
def HH(p:Po):Bool:=decide (p.kinds.length<=20)&&(decide (p.cx.length<=40)&&(decide (p.rules.length<=20)&&(decide (pN p.wc 40<=40)&&p.rules.all ED)))
def xn(v:Vr):Bool:=HH v.lU
def p7(l:List Vr):Bool:=decide (l.length<=5)&&l.all xn
theorem Nz{p:Po}(h:HH p=true):oL p:=by
 simp only[HH,aQ,decide_eq_true_eq] at h;obtain⟨h1,h2,h3,h4,h5⟩:=h;refine⟨h1,h2,h3,?_,λr hr=>?_⟩
 · have:=JM p.wc 40 (by omega) h4;omega
 · have h6:=cG.1 h5 r hr
   (have h7:pN r.ex 40<=40:=by simpa[ED] using h6);have:=JM r.ex 40 (by omega) h7;omega
theorem NA{l:List Vr}(h:p7 l=true):Qa l:=by
 simp only[p7,aQ,decide_eq_true_eq] at h;exact⟨h.1,λv hv=>Nz (cG.1 h.2 v hv)⟩
theorem JT(l:List Vr):aa Tryz.prog 20 [BJ l] (.bool (p7 l)):=by
 by_cases h5:l.length<=5
 · have h5n:¬(5:Int)<((l.map lv).length:Int):=by rw[ak];omega
   refine aa.e Tryz.func20 57 [.tmp 2] SN ?_;obtain⟨R,hR⟩:∃R,R=p7 l:=⟨_,rfl⟩;(have hR:R=l.all xn:=by rw[hR];unfold p7;rw[decide_eq_true h5,dZ]);rw[show p7 l=R by rw[hR];unfold p7;rw[decide_eq_true h5,dZ]];refine bM (kN h5n) (λhc=>?_)
   all_goals
    refine bY.bK (α:={i:Nat // i<=l.length/\(l.take i).all xn=true}) mixed SN (λi=>[(3,.p (eI i.1))]) (λi=>l.length-i.1) ⟨0,by omega,rfl⟩ ?_ ?_
    · exact aG trivial
    rintro⟨i,hi,hq⟩;have hi:i<=l.length:=hi;have hq:(l.take i).all xn=true:=hq
    cases aS:l[i]? with
    |none=>
     have dD:l.length<=i:=bw.1 aS;(have bV:¬((i:Int)<((l.map lv).length:Int)):=by rw[ak];omega);rw[bN dD] at hq;refine bM (kN bV) (λhc=>?_)
     all_goals exact aP.bool (by rw[hR,hq])
    |some x=>
     have aC:i<l.length:=(aq.1 aS).1;(have ay:((i:Int)<((l.map lv).length:Int)):=by rw[ak];omega);have q1:=xb x.lU.wc 40 (by omega) (by omega);refine gg (kY ay) (kX aS) q1 (λhc=>ae (λhc=>?_) λhc=>ae (λhc=>?_) λhc=>ae (λhc=>?_) λhc=>ae (λhc=>?_) λhc=>?_)
     all_goals first
     |(have hf:xn x=false:=by
        simp only[ak] at *;simp only[xn,HH,Bool.and_eq_false_iff,decide_eq_false_iff_not];omega
       exact aP.bool (by rw[hR,iU aS hf]))
     |skip
     all_goals
      (have g1:x.lU.kinds.length<=20:=by simp only[ak] at *;omega);(have g2:x.lU.cx.length<=40:=by simp only[ak] at *;omega);(have g3:x.lU.rules.length<=20:=by simp only[ak] at *;omega);(have g4:pN x.lU.wc 40<=40:=by omega);(have g5:xn x=x.lU.rules.all ED:=by simp[xn,HH,g1,g2,g3,g4]);refine bY.bK (α:={j:Nat // j<=x.lU.rules.length/\(x.lU.rules.take j).all ED=true}) mixed SN (λj=>[(5,.p (eI j.1))]) (λj=>x.lU.rules.length-j.1) ⟨0,by omega,rfl⟩ ?_ ?_
      · exact aG trivial
      rintro⟨j,hj,hp⟩;have hj:j<=x.lU.rules.length:=hj;have hp:(x.lU.rules.take j).all ED=true:=hp
      cases oM:x.lU.rules[j]? with
      |none=>
       have dD:x.lU.rules.length<=j:=bw.1 oM;(have HI:¬((j:Int)<((x.lU.rules.map ns).length:Int)):=by rw[ak];omega);rw[bN dD] at hp;refine bM (kN HI) (λhc=>?_)
       all_goals
        refine⟨⟨i+1,aC,cE aS hq (g5.trans hp)⟩,by show l.length-(i+1)<l.length-i;omega,?_⟩;exact aG trivial
      |some y=>
       have HJ:j<x.lU.rules.length:=(aq.1 oM).1;(have Qc:((j:Int)<((x.lU.rules.map ns).length:Int)):=by rw[ak];omega);have q2:=xb y.ex 40 (by omega) (by omega);refine gg (kY Qc) (kX oM) q2 (λhc=>ae (λhc=>?_) λhc=>?_)
       all_goals first
       |(have hf:ED y=false:=by simp only[ED,decide_eq_false_iff_not];omega
         exact aP.bool (by rw[hR,iU aS (g5.trans (iU oM hf))]))
       |(have hf:ED y=true:=by simp only[ED,decide_eq_true_eq];omega
         refine⟨⟨j+1,HJ,cE oM hp hf⟩,by show x.lU.rules.length-(j+1)<x.lU.rules.length-j;omega,?_⟩
         exact aG trivial)
 · have h5n:(5:Int)<((l.map lv).length:Int):=by rw[ak];omega
   (have e:p7 l=false:=by unfold p7;rw[decide_eq_false h5];rfl);rw[e];refine aa.e Tryz.func20 57 [.tmp 2] SN ?_;exact bM (kY h5n) trivial
end Go.Proofs.YtmaiccmhkmndcaaGreatDoor
