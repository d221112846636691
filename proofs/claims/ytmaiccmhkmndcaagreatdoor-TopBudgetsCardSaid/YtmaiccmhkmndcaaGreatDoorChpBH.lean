/- A part of the proof: contracts of the functions that the statement reaches. -/
import Derived.Test.YtmaiccmhkmndcaaGreatDoorChpBG
import Derived.Test.YtmaiccmhkmndcaaGreatDoorChpAF
import Derived.Test.YtmaiccmhkmndcaaGreatDoorChpAA
set_option linter.unusedSimpArgs false
set_option linter.unusedVariables false
set_option linter.unnecessarySimpa false
set_option maxRecDepth 100000
set_option maxHeartbeats 40000000
open And renaming intro->ae
open Bool renaming and_eq_true->aQ
open Go.Proofs.Tryz renaming prog->af
open Nat renaming zero_le->de,le_of_ble_eq_true->qq,le_refl->aX
namespace Go.Proofs.YtmaiccmhkmndcaaGreatDoor
open Go Go.Sg
namespace Ju
theorem Fb{ct:PV}(r:Rg)(d:bA.Dc)(a k:Int)(sg:List Int){b:Bool}(q:aa af 37 [NO r d a k,bA.dm sg] (.bool b)):aa af 36 [.ro (QB r d a k),.ro [bA.dm sg]] (.bool b):=by
 refine aa.e Tryz.func36 6 [.tmp 2] [0,1,2] ?_;exact bM q trivial
theorem Fc(r:Rg)(d:bA.Dc)(a k:Int)(sg:List Int){b:Bool}(q:aa af 39 [NO r d a k,bA.dm sg] (.bool b)):aa af 38 [.ro (QB r d a k),.ro [bA.dm sg]] (.bool b):=by
 refine aa.e Tryz.func38 6 [.tmp 2] [0,1,2] ?_;exact bM q trivial
theorem Fe(r:Rg)(d:bA.Dc)(a k:Int)(h:Ir r d a k)(OO:r.ap.length<=1000)(W5:r.av.length<=1000)(hda:d.tm<=a):dC af 40 1 [(0,.cells [.p (eI 0),.p (eI (-1)),zS,zS])] [.p (.ro (QB r d a k)),.ptr 0 0] AkP:=by
 have q:=wv r d a k h OO W5 hda;refine dC.e Tryz.func40 6 [.tmp 2] [0,1,2] ?_
 repeat' (first|exact fg|(refine stx ?_;first|exact bW _|refine aE ?_)|((fail_if_success refine ft ?_);(conv=>whnf)<;>(first|exact fh|(refine fJ.r (gL.n (gq.n (iG.m ?_)));refine pH [0] q (by kernel_rfl) rfl rfl (by decide) M1 (λi hi=>by match i,hi with|0,_=>rfl) M4 ?_;rintro r1 dX ⟨b,N,W,s,c,rfl,rfl⟩;refine⟨λi hi=>(by simp at hi;simp[keys,hi]),by simp[keys],?_⟩)|refine str ?_|refine Br.dec (λhc=>?_) λhc=>?_|refine Br.mk (λhc=>?_) λhc=>?_|exact PV.ao|refine PV.ai ?_ ?_|refine ae ?_ ?_|refine aD λx hx=>?_|refine aE ?_|refine bX (λhn=>?_) ?_|exact fv|refine bS λaZ=>?_|refine al ?_ ?_|refine fu ?_|fail)))<;>(try exact fi)
 all_goals
  refine⟨_,_,⟨!b,N,W,s,c,rfl,rfl⟩,?_⟩;(conv=>whnf);exact nr [] [(0,0)] trivial
  all_goals trace_state
abbrev Sl:=Nat×Bool×List PV
abbrev vO(n:Int)(N W:Sl):bJ:= .cells [.p (eI 0),.p (eI n),.p (.sl N.1 N.2.1 N.2.2),.p (.sl W.1 W.2.1 W.2.2)]
abbrev vC(n:Int)(N W:Sl):ab:=[(0,vO n N W)]
theorem Ff(r:Rg)(d:bA.Dc)(a k:Int)(u:List bx.Us)(hl:r.bg.length<1000000)(Lz:u.length<1000000)(he:(bx.kC r.bg u d.kind d.val a k).2.2=0)(N W:Sl):
 aM af 42 1 (vC (-1) N W) [.p (.ro [Of.eL r.ap,rP.eL r.dp,ng.eL r.it,bx.eL r.bg,BJ r.vs,bA.eL r.dc,od.eL r.av]),.p (.ro [bx.EK u]),.p (.ro (QB r d a k)),.p (.ro [eI a]),.p (.ro [eI k]),.ptr 0 0] (.p (.bool (!(bx.kC r.bg u d.kind d.val a k).2.1)))
  (vC (if(bx.kC r.bg u d.kind d.val a k).2.1 then -1 else(bx.kC r.bg u d.kind d.val a k).1) N W):=by
 have q:=bx.Ax r.bg u d.kind d.val a k hl Lz;have q4:=iD;generalize bx.kC r.bg u d.kind d.val a k=X at *;obtain⟨x,b,z⟩:=X;have he:z=0:=he;subst he;cases b
 all_goals
  refine aM.e Tryz.func42 34 [.tmp 6] [0,1,2,3,4,5,6,7,8,9,29] ?_;refine gG q q4 ?_;exact nr [] [(0,0)] trivial
structure OkQ(r:Rg)(sg:List Int)(u:List bx.Us)(d:bA.Dc)(i:Nat)(a k:Int):Prop where
 c:Ir r d a k
 j:To r sg a
 ix:r.dc[i]? =some d
 f:∀j w,j<i->r.dc[j]? =some w->decide (w.no=d.no)=false
 us:bx.yf u=true
 ul:u.length<=4096
 ap:r.ap.length<=1000
 av:r.av.length<=1000
def JuP(ok:Bool)(r:PV):Prop:=∃(st n:Int) (N W:List PV) (s1 s2:Nat) (c1 c2:Bool),r= .bR [.agg [eI st,eI n,.sl s1 c1 N,.sl s2 c2 W],eI 0]/\(st=0->ok=true)
theorem Ii(r:Rg)(sg:List Int)(u:List bx.Us)(d:bA.Dc)(i:Nat)(a k:Int)(h:OkQ r sg u d i a k):cB af 9 [Rr r,dm sg,bx.EK u,eI d.no,eI a,eI k] (JuP (bx.kC r.bg u d.kind d.val a k).2.1):=by
 obtain⟨⟨hg,hz,TN,ha,hk⟩,hj,hi,hf,hu,Lz,OO,W5⟩:=h;have hC:Ir r d a k:=⟨hg,hz,TN,ha,hk⟩;have hd:=WS hC;have t2:bA.TM=1099511627776:=rfl;have t3:bx.TM=1099511627775:=rfl;simp only[bA.ag,bA.fS,aQ,decide_eq_true_eq] at hd;have qk:=u7 r hg hz.2.2.2.2.1;(have hck:EP r=0:=by unfold EP;rw[if_pos hz]);rw[hck] at qk;have q4:=iD;(have w0:bA.fS bA.TM 0=true:=by decide);have qi:=bA.lx r.dc sg 0 hj.l hj.d hj.sl
 have ei:bA.WU r.dc sg 0=(bA.lG r.dc (bA.Hn r.dc sg 0) 0 r.dc.length,0):=by
  unfold bA.WU;rw[if_pos hz.2.2.2.2.2.1,hj.s,w0];rfl
 rw[ei] at qi;generalize bA.lG r.dc (bA.Hn r.dc sg 0) 0 r.dc.length=L0 at qi
 have UC:∀n v t k,bx.J9 n v t k=true->(bx.kC r.bg u n v t k).2.2=0:=λn v t k h=>by
  unfold bx.kC;rw[if_pos hz.2.2.2.1,if_pos Lz,if_pos hu,if_pos h];show(bx.sZ _ _ _ _ _).2.2=0;unfold bx.sZ;split<;>rfl
 have q0:=bx.Ax r.bg u 0 0 0 0 hg.bg (by omega);have e0:=UC 0 0 0 0 (by decide);generalize bx.kC r.bg u 0 0 0 0=X0 at *;obtain⟨x0,b0,z0⟩:=X0;have e0:z0=0:=e0;subst e0;have qo:=Ki r i d hi hf hg.dc a k ha hk;obtain⟨b1,Fm,c1⟩:=EX r d a k sg hj i hi hf;obtain⟨b2,c2⟩:=H6 r d a k sg hj TN;have j1:=Fb (ct:= .yj) r d a k sg c1;have j2:=Fc r d a k sg c2;have j4:=Ff r d a k u hg.bg (by omega) (UC d.kind d.val a k (by simp only[bx.J9,bx.bh,aQ,decide_eq_true_eq];omega));generalize bx.kC r.bg u d.kind d.val a k=X at *;refine cB.ofD [320,384] [] mixed Tryz.func9 rfl rfl rfl (by kernel_rfl) (by simp) rfl (de _) (by simp) rfl rfl rfl Tryz.func31 rfl rfl rfl (by kernel_rfl) rfl rfl (λev w=>rfl) (λev w=>rfl) rfl (by decide) (.inl ⟨rfl,rfl⟩) (by kernel_rfl) Vt9 Vt9 [0,3,4,5,7,9,10] ?_;intro G hG;refine Jt qk q4 qi q0 qo (kF 9 [(14,false),(7,false),(6,false),(8,false),(10,false),(11,false)]) ?_;refine bY.bq (α:={x:Nat×Sl×Sl // x.1<=4/\(x.1<=2->x.2=((0,true,[]),(0,true,[])))/\(1<=x.1->d.tm<=a)/\(4<=x.1->X.2.1=true)}) mixed Vt9 (λx=>[(55,.p (eI x.1.1))]) (λx=>[(320,vO (-1) x.1.2.1 x.1.2.2)]) (λ_=>0) (λx=>4-x.1.1) ⟨(0,(0,true,[]),(0,true,[])),de _,λ_=>rfl,λh=>absurd h (by decide),λh=>absurd h (by decide)⟩ ?_ ?_
 · exact BB trivial
   all_goals trace_state
 rintro⟨⟨j,N,W⟩,hj,RM,Be,bQ⟩;have hj:j<=4:=hj;have RM:j<=2->(N,W)=((0,true,[]),(0,true,[])):=RM;have Be:1<=j->d.tm<=a:=Be;have bQ:4<=j->X.2.1=true:=bQ;rcases(show j=0\/j=1\/j=2\/j=3\/j=4 by omega) with rfl|rfl|rfl|rfl|rfl
 · obtain⟨rfl,rfl⟩:=Prod.mk.inj (RM (by omega))
   (have ay:((0:Nat):Int)<((4:Nat):Int):=by decide);refine gG j1 (kY ay) (λhc=>ae (λhc hc=>?_) λhc=>?_)
   · refine⟨_,⟨1,-1,[],[],0,0,true,true,rfl,λh=>absurd h (by decide)⟩,?_⟩
     conv=>whnf
     repeat' (first|exact aP.refl _|exact qq rfl|refine ae ?_ ?_|exact aP.of rfl)
   · have hc:b1=false:=by assumption
     refine⟨⟨(1,(0,true,[]),(0,true,[])),by decide,λ_=>rfl,λ_=>Fm hc,λh=>absurd h (by decide)⟩,by show 4-1<4-0;decide,?_⟩;exact BB trivial
 · obtain⟨rfl,rfl⟩:=Prod.mk.inj (RM (by omega))
   (have ay:((1:Nat):Int)<((4:Nat):Int):=by decide);refine gG j2 (kY ay) (λhc=>ae (λhc hc=>?_) λhc=>?_)
   · refine⟨_,⟨2,-1,[],[],0,0,true,true,rfl,λh=>absurd h (by decide)⟩,?_⟩
     conv=>whnf
     repeat' (first|exact aP.refl _|exact qq rfl|refine ae ?_ ?_|exact aP.of rfl)
   · refine⟨⟨(2,(0,true,[]),(0,true,[])),by decide,λ_=>rfl,λ_=>Be (aX _),λh=>absurd h (by decide)⟩,by show 4-2<4-1;decide,?_⟩
     exact BB trivial
 · obtain⟨rfl,rfl⟩:=Prod.mk.inj (RM (by omega))
   have j3:=Fe r d a k hC OO W5 (Be (by omega));have ay:((2:Nat):Int)<((4:Nat):Int):=by decide
   repeat' (first|exact fg|(refine stx ?_;first|exact bW _|refine aE ?_)|((fail_if_success refine ft ?_);(conv=>whnf)<;>(first|exact fh|refine np ay λhc=>?_|(refine fJ.r (gL.n (gq.n (iG.m ?_)));refine pH [320] j3 (by kernel_rfl) rfl rfl (by decide) M1 (λi hi=>by match i,hi with|0,_=>rfl) M4 ?_;rintro r1 dX ⟨b,N,W,s,c,rfl,rfl⟩;refine⟨λi hi=>(by simp at hi;simp[keys,hi]),by simp[keys],?_⟩)|refine str ?_|refine Br.dec (λhc=>?_) λhc=>?_|refine Br.mk (λhc=>?_) λhc=>?_|exact PV.ao|refine PV.ai ?_ ?_|refine ae ?_ ?_|refine aD λx hx=>?_|refine aE ?_|refine bX (λhn=>?_) ?_|exact fv|refine bS λaZ=>?_|refine al ?_ ?_|refine fu ?_|fail)))<;>(try exact fi)
   · refine⟨_,⟨3,-1,N,W,1,s,false,c,rfl,λh=>absurd h (by decide)⟩,?_⟩
     conv=>whnf
     repeat' (first|exact aP.refl _|exact qq rfl|refine ae ?_ ?_|exact aP.of rfl)
   · refine⟨⟨(3,(1,false,N),(s,c,W)),(show 3<=4 by decide),λh=>absurd h (by show ¬ 3<=2;decide),λ_=>Be (show 1<=2 by decide),λh=>absurd h (by show ¬ 4<=3;decide)⟩,by show 4-3<4-2;decide,?_⟩
     exact BB trivial
 · obtain⟨s1,c1,N⟩:=N
   obtain⟨s2,c2,W⟩:=W;(have ay:((3:Nat):Int)<((4:Nat):Int):=by decide);have j4:=j4 (s1,c1,N) (s2,c2,W);obtain⟨x,b,z⟩:=X
   cases b with
   |false=>
    refine gG (kY ay) (kI [320] j4) (λhc hc hc=>?_);refine⟨_,⟨4,x,N,W,s1,s2,c1,c2,rfl,λh=>absurd h (by decide)⟩,?_⟩;conv=>whnf
    repeat' (first|exact aP.refl _|exact qq rfl|refine ae ?_ ?_|exact aP.of rfl)
   |true=>
    refine gG (kY ay) (kI [320] j4) (λhc=>?_);refine⟨⟨(4,(s1,c1,N),(s2,c2,W)),(show 4<=4 by decide),λh=>absurd h (by show ¬ 4<=2;decide),λ_=>Be (show 1<=3 by decide),λ_=>rfl⟩,by show 4-4<4-3;decide,?_⟩;exact BB trivial
 · obtain⟨s1,c1,N⟩:=N
   obtain⟨s2,c2,W⟩:=W;(have bV:¬((4:Nat):Int)<((4:Nat):Int):=by decide);refine bM (kN bV) (λhc=>?_);refine⟨_,⟨0,-1,N,W,s1,s2,c1,c2,rfl,λ_=>bQ (aX _)⟩,?_⟩;conv=>whnf
   repeat' (first|exact aP.refl _|exact qq rfl|refine ae ?_ ?_|exact aP.of rfl)
end Ju
end Go.Proofs.YtmaiccmhkmndcaaGreatDoor
