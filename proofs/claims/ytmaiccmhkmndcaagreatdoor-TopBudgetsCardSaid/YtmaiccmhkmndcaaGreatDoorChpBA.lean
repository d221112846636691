/- A part of the proof: contracts of the functions that the statement reaches. -/
import Derived.Test.YtmaiccmhkmndcaaGreatDoorChpAZ
import Derived.Test.YtmaiccmhkmndcaaGreatDoorChpAA
set_option linter.unusedSimpArgs false
set_option linter.unusedVariables false
set_option linter.unnecessarySimpa false
set_option maxRecDepth 100000
set_option maxHeartbeats 40000000
open Go.Proofs.Tryz renaming prog->af
namespace Go.Proofs.YtmaiccmhkmndcaaGreatDoor
open Go Go.Sg
namespace Ac
open bx
theorem AH(a k:Int)(ha:bx.bh 0 bx.TM a=true)(hk:bx.bh 0 bx.TM k=true):aa af 8 [eL [],bx.eI a,bx.eI k] (.bool true):=by
 have hz:aJ []=0:=rfl;have q1:=Ve.bm [] (by simp);rw[show Ve.aJ []=0 from rfl] at q1
 have Ti:∀n:Nat,n<3->aa af 29 [eL [],bx.eI n,bx.eI a,bx.eI k] (eR ([],0)):=λn hn=>by
  have h:=nh [] n a k (by simp);have V3:bx.bh 0 15 (n:Int)=true:=by simp only[bx.bh,Bool.and_eq_true,decide_eq_true_eq];omega
  have dk:kh n a k=true:=by
   unfold kh;rw[ha,hk,V3];rfl
  unfold wq at h;rwa[if_pos hz,if_pos dk] at h
 refine aa.e Tryz.func8 197 [.tmp 6] Lh ?_;refine bM (kR BX) ?_;refine bY.bq (α:=Unit) mixed Lh (λ_=>[(32,.p (bx.eI 0))]) (λ_=>[(64,.map xP [])]) (λ_=>0) (λ_=>0) () ?_ ?_
 · exact aG trivial
 rintro⟨⟩;(have bV:¬((0:Int)<(([]:List PV).length:Int)):=by simp);refine gg (kN bV) (kZ q1) (kF 13 [(7,false)]) (λhc hc hc=>?_);refine bY.bq (α:={n:Nat // n<=3}) mixed Lh (λn=>[(96,.p (bx.eI n.1))]) (λ_=>[]) (λ_=>0) (λn=>3-n.1) ⟨0,by omega⟩ ?_ ?_
 · exact aG trivial
 rintro⟨n,hn⟩;have hn:n<=3:=hn;by_cases TQ:n<3
 · have hyn:(n:Int)<3:=by omega
   have q3:=Ti n TQ;refine gg (kY hyn) q3 (kR BX) (λhc=>?_);refine bY.bq (α:=Unit) mixed Lh (λ_=>[(17,.p (bx.eI 0))]) (λ_=>[(2240,.iter (eM eK bx.eI ([]:Km)) none)]) (λ_=>0) (λ_=>0) () ?_ ?_
   · exact aG trivial
   rintro⟨⟩
   repeat' (first|exact fg|(refine stx ?_;first|exact bW _|refine aE ?_)|((fail_if_success refine ft ?_);(conv=>whnf)<;>(first|exact fh|refine Nx.of (R:=([]:Km)) (f:=λx=>(eK x.1,bx.eI x.2)) (λhRe=>?_) (λj x hj=>nomatch hj)|refine str ?_|refine Br.dec (λhc=>?_) λhc=>?_|refine Br.mk (λhc=>?_) λhc=>?_|exact PV.ao|refine PV.ai ?_ ?_|refine And.intro ?_ ?_|refine aD λx hx=>?_|refine aE ?_|refine bX (λhn=>?_) ?_|exact fv|refine bS λaZ=>?_|refine al ?_ ?_|refine fu ?_|fail)))<;>(try exact fi)
   all_goals first
   |(refine⟨⟨n+1,by omega⟩,by show 3-(n+1)<3-n;omega,?_⟩
     exact aG trivial)
   |(have hc:(0:Int)≠((([]:List Bg).map eA).length:Int):=by assumption
     exact absurd rfl hc)
   |trace_state
 · have SS:¬(n:Int)<3:=by omega
   exact bM (kN SS) trivial
theorem oR(l:List Bg)(a k:Int)(hl:l.length<=100)(hz:aJ l=0)(ha:bx.bh 0 bx.TM a=true)(hk:bx.bh 0 bx.TM k=true):aa af 8 [eL l,bx.eI a,bx.eI k] (.bool true):=by
 cases l with
 |nil=>exact AH a k ha hk
 |cons b r=>exact xS b r _ rfl a k hl hz ha hk
end Ac
end Go.Proofs.YtmaiccmhkmndcaaGreatDoor
