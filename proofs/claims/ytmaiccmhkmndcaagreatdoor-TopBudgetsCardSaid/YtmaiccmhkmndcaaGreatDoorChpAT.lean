/- A part of the proof: contracts of the functions that the statement reaches. -/
import Derived.Test.YtmaiccmhkmndcaaGreatDoorChpAS
import Derived.Test.YtmaiccmhkmndcaaGreatDoorChpAQ
import Derived.Test.YtmaiccmhkmndcaaGreatDoorChpAA
set_option linter.unusedSimpArgs false
set_option linter.unusedVariables false
set_option linter.unnecessarySimpa false
set_option maxRecDepth 100000
set_option maxHeartbeats 40000000
open And renaming intro->ae
open Bool renaming and_eq_true->aQ
open Go.Proofs.Tryz renaming prog->af
open List renaming take->et,drop->eo,getElem?_eq_getElem->aV,mem_of_getElem?->aO,drop_zero->da,take_of_length_le->bN,mem_singleton->gE,getElem?_eq_some_iff->aq,length_take->dy,mem_map->aY,length_map->ak,take_add_one->bz
open Nat renaming zero_lt_succ->iz
namespace Go.Proofs.YtmaiccmhkmndcaaGreatDoor
open Go Go.Sg
def xU(n:Nat):List Int->AV
 |[]=>.p (.sl 0 true [])
 |a::r=>.bo n 1 0 (r.length+1)
def DD(n:Nat):List Int->ab
 |[]=>[]
 |a::r=>[(n,.row 1 ((a::r).map eI))]
def Zq(n:Nat):List Vr->AV
 |[]=>.p (.sl 0 true [])
 |a::r=>.bo n 13 0 (r.length+1)
def Wn(n:Nat):List Vr->ab
 |[]=>[]
 |a::r=>[(n,.row 13 ((a::r).map lv))]
def JdP(l:List Vr)(r:PV):Prop:=∃(N:List Int) (m:Int),(∀n∈N,∃v∈l,v.no=n)/\N.length<=5/\(m=0\/1<=m/\m<=4)/\r= .bR [dm N,eI m,eI 0]
theorem UA{p:Int->Bool}:∀{K:List Int} {i:Nat} {t:Int},K[i]? =some t->i<(K.takeWhile p).length->p t=true
 |[],_,_,h,_=>by simp at h
 |a::r,i,t,h,hi=>by
  rw[List.takeWhile_cons] at hi;split at hi
  · rename_i ha
    cases i with
    |zero=>simp at h;subst h;exact ha
    |succ i=>exact UA (by simpa using h) (by simpa using hi)
  · simp at hi
theorem UB{p:Int->Bool}:∀{K:List Int} {t:Int},K[(K.takeWhile p).length]? =some t->p t=false
 |[],_,h=>by simp at h
 |a::r,t,h=>by
  rw[List.takeWhile_cons] at h;split at h
  · exact UB (by simpa using h)
  · rename_i ha;simp at h;subst h;simpa using ha
theorem Zr(p:Int->Bool)(K:List Int):(K.takeWhile p).length<=K.length:=(List.takeWhile_sublist p).length_le
theorem QV(l:List Vr)(hr:∀v∈l,dt v=true)(c:Vr)(r:List Vr)(hL:∀v∈c::r,v∈l)(o:Bool)(hl:r.length+1<=5):
 ∃(v:Vr) (jf:FuncId) (J:List Vr),(c::r)[0+(((r.length+1:Nat):Int)-1).toNat]? =some v/\(1<=v.lU.mode/\v.lU.mode<=4)/\cK (eI v.lU.mode) (eM eI eF jdM)=some (eF jf)/\enters af jf=true/\
  aa af jf [.sl 13 false (et (r.length+1) (eo 0 ((c::r).map lv))),.bool o] (BJ J)/\(∀v∈J,v∈l)/\J.length<=r.length+1:=by
 obtain⟨v,hv⟩:∃v,(c::r)[r.length]? =some v:=⟨_,aV (by simp)⟩;have Wv:=aO hv
 have AY:1<=v.lU.mode/\v.lU.mode<=4:=by
  have h1:=hr v (hL v Wv);simp only[dt,aQ,decide_eq_true_eq] at h1;have h2:=(oN h1.2.2.2.2).1;unfold Ht at h2;split at h2
  · split at h2
    · split at h2
      · rename_i h3
        simp only[LI,aQ,decide_eq_true_eq] at h3;exact⟨h3.2.2.1,h3.2.2.2.1⟩
      · cases h2
    · cases h2
  · cases h2
 have Qp:PV.sl 13 false (et (r.length+1) (eo 0 ((c::r).map lv)))=BJ (c::r):=by rw[da,bN (by simp)];rfl
 rw[Qp]
 have Hi:(c::r)[0+(((r.length+1:Nat):Int)-1).toNat]? =some v:=by rw[show 0+(((r.length+1:Nat):Int)-1).toNat=r.length by omega];exact hv
 have h4:v.lU.mode=1\/v.lU.mode=2\/v.lU.mode=3\/v.lU.mode=4:=by omega
 rcases h4 with h|h|h|h
 · refine⟨v,187,if o then[c] else[],Hi,AY,by rw[h];rfl,by kernel_rfl,B7 c r o,?_,?_⟩
   · cases o<;>simp;exact hL c (by simp)
   · cases o<;>simp
 · refine⟨v,188,[v],Hi,AY,by rw[h];rfl,by kernel_rfl,?_,λw hw=>by rw[gE.1 hw];exact hL v Wv,by simp⟩
   have e:c::r=(c::r).take r.length++[v]:=by
    have:=List.take_append_drop r.length (c::r);rw[List.drop_eq_getElem_cons (by simp),(aq.1 hv).2,List.drop_eq_nil_of_le (by simp)] at this;exact this.symm
   rw[e];exact B8 _ v o (by rw[dy];omega)
 · exact⟨v,186,c::r,Hi,AY,by rw[h];rfl,by kernel_rfl,s8 _ o,hL,by simp⟩
 · exact⟨v,186,c::r,Hi,AY,by rw[h];rfl,by kernel_rfl,s8 _ o,hL,by simp⟩
theorem E6(l:List Vr)(b a k:Int)(hl:Qa l)(hz:xO l=0)(hb:Dm b=true)(ha:Dm a=true)(hk:Dm k=true)(hba:b<=a):cB af 94 [BJ l,eI b,eI a,eI k] (JdP l):=by
 have q1:=u4 l hl hz;have hr:∀v∈l,dt v=true:=λv hv=>((gv dt Vr.no l (-1)).1 (wh hz)).1 v hv |>.1;have w1:=pO b;rw[hb] at w1;have w2:=pO a;rw[ha] at w2;have w3:=pO k;rw[hk] at w3;have q2:=lx l b k;have gh:=E4 l b k hl.1 hr hb;(have hnba:¬ a<b:=by omega);have hva:=λt=>N1 (k:=k) hr hb (t:=t);have hKl:=TC (k:=k) hr hb;have hl5:=hl.1;generalize Om b k l=K at *;generalize AX b k l=va at *
 have jd:∀y∈(K.map λt=>[eI t,lv (va t)]),y.length=2:=λy hy=>by
  obtain⟨z,_,rfl⟩:=aY.1 hy;rfl
 have du:∀(i:Nat) t,K[i]? =some t->(K.map λt=>[eI t,lv (va t)]).getD i []=[eI t,lv (va t)]:=λi y h=>by simp[List.getD,h]
 have Y0:∀i,∀v∈(K.take i).map va,v∈l:=λi v hv=>by
  obtain⟨t,ht,rfl⟩:=aY.1 hv;exact hva t (List.mem_of_mem_take ht)
 have htw:=Zr (λt=>decide (t<=a)) K;refine cB.e Tryz.func94 91 [.tmp 8,.tmp 9,.tmp 10] VG ?_;refine Jt q1 w1 w2 w3 q2 (kN hnba) (λhc=>?_);refine bY.range mixed gh (by kernel_rfl) rfl VG (K.takeWhile λt=>decide (t<=a)).length [0,64,1792,1856] (λi=>([(1856,.cells [.p (.bool ((K.take i).any λt=>decide (t=b)))]),(1792,.cells [Zq 1 ((K.take i).map va)]),(64,.cells [.p (eI a)]),(0,.cells [.p (eI b)])]++Wn 1 ((K.take i).map va),2240)) rfl (gN rfl) (by simp) (by simp) jd (λi hi hm=>?a) (λhm=>?b)
 case' a=>
  rw[ak] at hi;obtain⟨t,ht⟩:∃t,K[i]? =some t:=⟨_,aV hi⟩;rw[du i t ht];have hLi:=Y0 i;(have e1:(K.take (i+1)).map va=(K.take i).map va++[va t]:=by rw[bz,ht];simp);(have e2:(K.take (i+1)).any (λt=>decide (t=b))=((K.take i).any (λt=>decide (t=b))||decide (t=b)):=by rw[bz,ht];simp);(have A0:((K.take i).map va).length=i:=by rw[ak,dy];omega);(have Qf:((K.take i).map va).length<=5:=by rw[A0];omega);by_cases ZF:i=(K.takeWhile λt=>decide (t<=a)).length
  rotate_left
  · have BI:¬ a<t:=by
     have:=UA (p:=λt=>decide (t<=a)) ht (by omega);(have h3:t<=a:=by simpa using this);omega
    try dsimp only
    generalize (K.take i).any (λt=>decide (t=b))=o at *;generalize (K.take i).map va=L at *
    cases L with
    |nil=>
     refine bM (kN BI) (λhc=>ae (λhc aZ=>?_) λhc aZ=>?_)
     all_goals try dsimp only
     all_goals rw[e1,e2]
     · rw[show(o||decide (t=b))=true by simp[hc]]
       exact nq trivial
     · rw[show(o||decide (t=b))=decide (t=b) by simp[hc]]
       exact nq trivial
    |cons c r=>
     (have oI:r.length+1<=1000000:=by simp at A0;omega);refine bM (kN BI) (λhc=>ae (λhc=>?_) λhc=>?_)
     all_goals try dsimp only
     all_goals rw[e1,e2]
     · rw[show(o||decide (t=b))=true by simp[hc]]
       refine nq ?_
       all_goals(show(c::r).map lv++[lv (va t)]=_;simp)
     · rw[show(o||decide (t=b))=decide (t=b) by simp[hc]]
       refine nq ?_
       all_goals(show(c::r).map lv++[lv (va t)]=_;simp)
  have BI:a<t:=by
   have:=UB (p:=λt=>decide (t<=a)) (by rw[<-ZF];exact ht);simpa using this
  try dsimp only
  generalize (K.take i).any (λt=>decide (t=b))=o at *;generalize hLg:(K.take i).map va=L at *
 case' b=>
  try dsimp only
  have hLi:=Y0 (K.map λt=>[eI t,lv (va t)]).length;(have Qf:((K.take (K.map λt=>[eI t,lv (va t)]).length).map va).length<=5:=by rw[ak,dy];omega);generalize (K.take (K.map λt=>[eI t,lv (va t)]).length).any (λt=>decide (t=b))=o at *;generalize hLg:(K.take (K.map λt=>[eI t,lv (va t)]).length).map va=L at *
 all_goals
  clear gh jd du hva Y0 hLg;have qs:=ki
  cases L with
  |nil=>
   have h00:((([]:List PV).length:Int)=0):=rfl
   repeat' (first|exact fg|(refine stx ?_;first|exact bW _|refine aE ?_)|((fail_if_success refine ft ?_);(conv=>whnf)<;>(first|exact fh|refine np BI λhc=>?_|refine np h00 λhc=>?_|refine str ?_|refine Br.dec (λhc=>?_) λhc=>?_|refine Br.mk (λhc=>?_) λhc=>?_|exact PV.ao|refine PV.ai ?_ ?_|refine ae ?_ ?_|refine aD λx hx=>?_|refine aE ?_|refine bX (λhn=>?_) ?_|exact fv|refine bS λaZ=>?_|refine al ?_ ?_|refine fu ?_|fail)))<;>(try exact fi)
   refine⟨_,⟨[],0,by simp,by simp,.inl rfl,rfl⟩,?_⟩;(conv=>whnf);exact aP.mk (PV.fU (PV.ai (PV.le_nil _ _ _) (PV.dE _)))
  |cons c r=>
   have Qf:r.length+1<=5:=Qf;obtain⟨v,jf,J,hv,AY,nT,gp,qj,hJ,hJl⟩:=QV l hr c r hLi o Qf
   repeat' (first|exact fg|(refine stx ?_;first|exact bW _|refine aE ?_)|(refine kq ?_;first|refine fR qs ?_|(refine dF qj gp rfl ?_))|((fail_if_success refine ft ?_);(conv=>whnf)<;>(first|exact fh|refine np BI λhc=>?_|refine dR hv ?_|refine Sq.fz (id:=17) [(11,false)] ?_|refine Y8 nT ?_|refine str ?_|refine Br.dec (λhc=>?_) λhc=>?_|refine Br.mk (λhc=>?_) λhc=>?_|exact PV.ao|refine PV.ai ?_ ?_|refine ae ?_ ?_|refine aD λx hx=>?_|refine aE ?_|refine bX (λhn=>?_) ?_|(refine dF qj gp rfl ?_)|exact fv|refine bS λaZ=>?_|refine al ?_ ?_|rw[QU]|refine fu ?_|fail)))<;>(try exact fi)
   generalize v.lU.mode=md at *;clear nT hv qj;refine bY.bq (α:={x:Nat×List Int // x.1<=J.length/\x.2.length=x.1/\ ∀n∈x.2,∃v∈l,v.no=n}) mixed VG (λx=>[(8,xU 1 x.1.2),(77,.p (eI x.1.1))]) (λx=>(2304,.dead)::DD 1 x.1.2) (λ_=>0) (λx=>J.length-x.1.1) ⟨(0,[]),by simp,rfl,by simp⟩ ?_ ?_
   · exact aG trivial
   rintro⟨⟨j,N⟩,hj,Ox,hN⟩;have hj:j<=J.length:=hj;have Ox:N.length=j:=Ox;have hN:∀n∈N,∃v∈l,v.no=n:=hN
   cases hy:J[j]? with
   |none=>
    have dD:J.length<=j:=List.getElem?_eq_none_iff.1 hy;have bV:¬((j:Int)<((J.map lv).length:Int)):=by rw[ak];omega
    cases N with
    |nil=>
     have q0:=rO 0 true;refine gG (kN bV) q0 (λhc=>?_);refine⟨_,⟨[],md,by simp,by simp,.inr AY,rfl⟩,?_⟩;(conv=>whnf);exact aP.mk (PV.fU (PV.ai (PV.le_nil _ _ _) (PV.dE _)))
    |cons n1 r1=>
     obtain⟨a',r',e⟩:∃a' r',(n1::r1).mergeSort (λx y=>decide (x<=y))=a'::r':=by
      have h:=List.length_mergeSort (le:=λx y:Int=>decide (x<=y)) (n1::r1)
      cases hh:(n1::r1).mergeSort (λx y=>decide (x<=y)) with
      |nil=>rw[hh] at h;simp at h
      |cons x y=>exact⟨x,y,rfl⟩
     have oI:r'.length=r1.length:=by
      have h:=List.length_mergeSort (le:=λx y:Int=>decide (x<=y)) (n1::r1);rw[e] at h;simpa using h
     have hmm:∀n∈a'::r',∃v∈l,v.no=n:=λn hn=>by
      rw[<-e,List.mem_mergeSort] at hn;exact hN n hn
     have q:=lF (n1::r1) (iz _) (by omega);rw[e] at q;have q:aM af 98 1 [(0,.row 1 (eI n1::r1.map eI))] [.bo 0 1 0 (r1.length+1)] (.p (.bR [])) [(0,.row 1 (eI a'::r'.map eI))]:=q;refine gG (kN bV) (kI [1] q) (λhc=>?_);refine⟨_,⟨a'::r',md,hmm,(show(a'::r').length<=5 by simp at Ox ⊢;omega),.inr AY,rfl⟩,?_⟩;(conv=>whnf);refine⟨⟨rfl,iz _,by simp[oI]⟩,?_⟩;refine aP.of ?_;rw[da,bN (by simp[oI])];rfl
   |some y=>
    have aC:j<J.length:=(aq.1 hy).1;(have ay:((j:Int)<((J.map lv).length:Int)):=by rw[ak];omega);have hyl:=hJ y (aO hy)
    cases N with
    |nil=>
     refine gG (kY ay) (kX hy) (λhc aZ=>?_);refine⟨⟨(j+1,[y.no]),aC,(show[y.no].length=j+1 by rw[<-Ox];rfl),λn hn=>⟨y,hyl,(gE.1 hn).symm⟩⟩,by show J.length-(j+1)<J.length-j;omega,?_⟩;exact aG trivial
    |cons n1 r1=>
     (have oI:r1.length+1<=10:=by simp at Ox;omega);refine gG (kY ay) (kX hy) (λhc=>?_)
     refine⟨⟨(j+1,n1::(r1++[y.no])),aC,(show(n1::(r1++[y.no])).length=j+1 by rw[<-Ox];simp),λn hn=>by
      rw[<-List.cons_append,List.mem_append] at hn;rcases hn with hn|hn
      · exact hN n hn
      · exact⟨y,hyl,(gE.1 hn).symm⟩⟩,by show J.length-(j+1)<J.length-j;omega,?_⟩
     exact aG trivial
     all_goals(show(n1::r1).map eI++[eI y.no]=_;simp)
def NdP(r:PV):Prop:=∃(L:List Int) (b:Bool),r= .bR [dm L,.bool b,eI 0]
theorem E7(m:Int)(l:List Bool)(hm:1<=m/\m<=4)(hl:l.length<=256):cB af 161 [eI m,W4 l] NdP:=by
 have q1:=E5 m l hm hl;have q2:=jv 213 (λb=>b) B' (by kernel_rfl) l (by omega);have q3:=jv 214 (λb=> !b) Ca (by kernel_rfl) l (by omega);generalize zN (λb=>b) l=y at *;generalize zN (λb=> !b) l=n at *;refine cB.e Tryz.func161 66 [.tmp 4,.tmp 5,.tmp 6] Ug ?_;refine gg q1 q2 q3 (ae (λhc=>ae (λhc=>?_) λhc hc hc hc=>?_) λhc=>ae (λhc=>ae (λhc=>?_) λhc hc=>?_) λhc hc hc=>ae (λhc x hx=>?_) λhc=>?_)
 all_goals first
 |(refine⟨_,⟨[y],true,rfl⟩,?_⟩
   (conv=>whnf);refine⟨⟨rfl,iz _,by simp⟩,?_⟩
   exact aP.refl _)
 |(refine⟨_,⟨[n],false,rfl⟩,?_⟩
   (conv=>whnf);refine⟨⟨rfl,iz _,by simp⟩,?_⟩
   exact aP.refl _)
 |skip
 all_goals
  refine bY.bq (α:={x:Nat×List Int // x.1<=l.length/\x.2.length=x.1}) mixed Ug (λx=>[(4,xU 1 x.1.2),(56,.p (eI x.1.1))]) (λx=>DD 1 x.1.2) (λ_=>0) (λx=>l.length-x.1.1) ⟨(0,[]),by simp,rfl⟩ ?_ ?_
  · exact aG trivial
  rintro⟨⟨i,N⟩,hi,hN⟩;have hi:i<=l.length:=hi;have hN:N.length=i:=hN;by_cases aC:i<l.length
  · have ay:((i:Int)<((l.map PV.bool).length:Int)):=by rw[ak];omega
    cases N with
    |nil=>
     refine bM (kY ay) (λhc aZ=>?_);refine⟨⟨(i+1,[(i:Int)]),aC,(show[(i:Int)].length=i+1 by rw[<-hN];rfl)⟩,by show l.length-(i+1)<l.length-i;omega,?_⟩;exact aG trivial
    |cons a r=>
     (have oI:r.length+1<=256:=by simp at hN;omega);refine bM (kY ay) (λhc=>?_);refine⟨⟨(i+1,a::(r++[(i:Int)])),aC,(show(a::(r++[(i:Int)])).length=i+1 by rw[<-hN];simp)⟩,by show l.length-(i+1)<l.length-i;omega,?_⟩;exact aG trivial
     all_goals(show(a::r).map eI++[eI (i:Int)]=_;simp)
  · have bV:¬((i:Int)<((l.map PV.bool).length:Int)):=by rw[ak];omega
    cases N with
    |nil=>
     refine bM (kN bV) (λhc=>?_)
     all_goals
      first
      |(refine⟨_,⟨[],false,rfl⟩,?_⟩;(conv=>whnf);exact aP.mk (PV.fU (PV.ai (PV.le_nil _ _ _) (PV.dE _))))
      |(refine⟨_,⟨[],decide (0<=y),rfl⟩,?_⟩;(conv=>whnf);exact aP.mk (PV.fU (PV.ai (PV.le_nil _ _ _) (PV.dE _))))
      |(refine⟨_,⟨[],x,rfl⟩,?_⟩;(conv=>whnf);exact aP.mk (PV.fU (PV.ai (PV.le_nil _ _ _) (PV.dE _))))
    |cons a r=>
     refine bM (kN bV) (λhc=>?_)
     all_goals
      first
      |(refine⟨_,⟨a::r,false,rfl⟩,?_⟩;(conv=>whnf);refine⟨⟨rfl,iz _,by simp⟩,?_⟩;refine aP.of ?_;rw[da,bN (by simp)];exact rfl)
      |(refine⟨_,⟨a::r,decide (0<=y),rfl⟩,?_⟩;(conv=>whnf);refine⟨⟨rfl,iz _,by simp⟩,?_⟩;refine aP.of ?_;rw[da,bN (by simp)];exact rfl)
      |(refine⟨_,⟨a::r,x,rfl⟩,?_⟩;(conv=>whnf);refine⟨⟨rfl,iz _,by simp⟩,?_⟩;refine aP.of ?_;rw[da,bN (by simp)];exact rfl)
def YnP(r:PV):Prop:=∃b:Bool,r= .bR [.bool b,eI 0]
theorem E8(m:Int)(l:List Bool)(hm:1<=m/\m<=4)(hl:l.length<=256):cB af 100 [eI m,W4 l] YnP:=by
 have q:=E7 m l hm hl;refine cB.e Tryz.func100 15 [.tmp 4,.tmp 5] [0,1,4,5] ?_
 repeat' (first|exact fg|(refine stx ?_;first|exact bW _|refine aE ?_)|((fail_if_success refine ft ?_);(conv=>whnf)<;>(first|exact fh|(refine fJ.r (gL.n (gq.n (iG.n ?_)));refine nN q (by kernel_rfl) rfl ?_;refine ae (PV.ai (PV.le_refl _) (PV.ai (PV.le_refl _) PV.ao)) ?_;rintro r ⟨L,b,rfl⟩)|refine str ?_|refine Br.dec (λhc=>?_) λhc=>?_|refine Br.mk (λhc=>?_) λhc=>?_|exact PV.ao|refine PV.ai ?_ ?_|refine ae ?_ ?_|refine aD λx hx=>?_|refine aE ?_|refine bX (λhn=>?_) ?_|exact fv|refine bS λaZ=>?_|refine al ?_ ?_|refine fu ?_|fail)))<;>(try exact fi)
 all_goals
  refine⟨_,⟨b,rfl⟩,?_⟩;(conv=>whnf);exact aP.refl _
end Go.Proofs.YtmaiccmhkmndcaaGreatDoor
