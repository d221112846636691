/- A part of the proof: contracts of the functions that the statement reaches. -/
import Derived.Test.YtmaiccmhkmndcaaGreatDoorChpBF
import Derived.Test.YtmaiccmhkmndcaaGreatDoorChpBC
import Derived.Test.YtmaiccmhkmndcaaGreatDoorChpAT
import Derived.Test.YtmaiccmhkmndcaaGreatDoorChpAA
set_option linter.unusedSimpArgs false
set_option linter.unusedVariables false
set_option linter.unnecessarySimpa false
set_option maxRecDepth 100000
set_option maxHeartbeats 40000000
open And renaming intro->ae
open Bool renaming and_eq_true->aQ
open Go.Proofs.Tryz renaming prog->af
open List renaming getElem?_eq_some_iff->aq,length_map->ak,drop_zero->da,map->bZ
open Nat renaming zero_le->de,zero_lt_succ->iz
namespace Go.Proofs.YtmaiccmhkmndcaaGreatDoor
open Go Go.Sg
namespace Ju
def tP(n:Nat):List Bool->AV
 |[]=>.p (.sl 0 true [])
 |_::r=>.bo n 1 0 (r.length+1)
def Zu(n:Nat):List Bool->ab
 |[]=>[]
 |a::r=>[(n,.row 1 ((a::r).map PV.bool))]
abbrev zS:AV:= .p (.sl 0 true [])
def AkP(r:AV)(σ:ab):Prop:=∃(b:Bool) (N W:List PV) (s:Nat) (c:Bool),r= .p (.bool b)/\σ=[(0,.cells [.p (eI 0),.p (eI (-1)),.p (.sl 1 false N),.p (.sl s c W)])]
theorem wv(r:Rg)(d:bA.Dc)(a k:Int)(h:Ir r d a k)(OO:r.ap.length<=1000)(W5:r.av.length<=1000)(hda:d.tm<=a):dC af 41 1 [(0,.cells [.p (eI 0),.p (eI (-1)),zS,zS])] [.p (NO r d a k),.ptr 0 0] AkP:=by
 have hd:=WS h;have ha:=h.a;have hk:=h.k;have t2:bA.TM=1099511627776:=rfl;simp only[bA.ag,bA.fS,aQ,decide_eq_true_eq] at hd;(have bT:∀{n:Int},0<=n->n<1099511627776->Dm n=true:=λh1 h2=>by simp[Dm,h1,h2]);have qJ:=E6 r.vs d.tm a k h.g.vs h.z.2.2.2.2.1 (bT (by omega) (by omega)) (bT ha.1 ha.2) (bT hk.1 hk.2) hda;have q4:=iD;have oS:=(gv dt Vr.no r.vs (-1)).1 (wh h.z.2.2.2.2.1)
 have hpol:∀v∈r.vs,oL v.lU/\wg v.lU=0/\aa af 95 [NO r d a k,eI v.no] (tM v.lU):=λv hv=>by
  have h1:=(oS.1 v hv).1;simp only[dt,aQ,decide_eq_true_eq] at h1;obtain⟨i,hi⟩:=List.getElem?_of_mem hv;refine⟨h.g.vs.2 v hv,h1.2.2.2.2,Fa r d a k i v hi (λj w hj hw=>?_) (by have:=h.g.vs.1;omega)⟩;obtain⟨h2,h3⟩:=aq.1 hi;obtain⟨h4,h5⟩:=aq.1 hw;have:=List.pairwise_iff_getElem.1 oS.2 j i h4 h2 hj;rw[h3,h5] at this;exact decide_eq_false (by omega)
 refine dC.e Tryz.func41 88 [.tmp 4] YA ?_
 repeat' (first|exact fg|(refine stx ?_;first|exact bW _|refine aE ?_)|(refine kq ?_;first|refine fR q4 ?_)|((fail_if_success refine ft ?_);(conv=>whnf)<;>(first|exact fh|refine Sq.fz (id:=1) [(2,false)] ?_|(refine fJ.r (gL.n (gq.n (iG.n ?_)));refine lR qJ (by kernel_rfl) rfl ?_;rintro r1 ⟨N,m,hN,Ox,hm,rfl⟩)|refine str ?_|refine Br.dec (λhc=>?_) λhc=>?_|refine Br.mk (λhc=>?_) λhc=>?_|exact PV.ao|refine PV.ai ?_ ?_|refine ae ?_ ?_|refine aD λx hx=>?_|refine aE ?_|refine bX (λhn=>?_) ?_|exact fv|refine bS λaZ=>?_|refine al ?_ ?_|refine fu ?_|fail)))<;>(try exact fi)
 refine bY.bq (α:={x:Nat×List Bool×List Int // x.1<=N.length/\x.2.1.length=x.1/\x.2.2.length<=x.1*1000}) mixed YA (λx=>[(8,tP 1 x.1.2.1),(33,.p (eI x.1.1))]) (λx=>(0,.cells [.p (eI 0),.p (eI (-1)),zS,xU 2 x.1.2.2])::(Zu 1 x.1.2.1++DD 2 x.1.2.2)) (λ_=>0) (λx=>N.length-x.1.1) ⟨(0,[],[]),de _,rfl,de _⟩ ?_ ?_
 · exact aG trivial
 rintro⟨⟨j,B,W⟩,hj,hB,hW⟩;have hj:j<=N.length:=hj;have hB:B.length=j:=hB;have hW:W.length<=j*1000:=hW
 cases hy:N[j]? with
 |none=>
  have dD:N.length<=j:=List.getElem?_eq_none_iff.1 hy;(have bV:¬((j:Int)<((N.map eI).length:Int)):=by rw[ak];omega);have hBl:B.length<=256:=by omega
  have Qp:∀(b0:Bool) (B:List Bool),W4 (b0::B)= .sl 1 false (List.take (B.length+1) (List.drop 0 ((b0::B).map PV.bool))):=λb0 B=>by
   rw[da,List.take_of_length_le (by simp)];rfl
  have qD:=λ(h:1<=m/\m<=4)=>E8 m B h hBl
  cases W with
  |nil=>
   have q1:=rO 0 true;have q2:=rZ 0 true
   cases B with
   |nil=>
    repeat' (first|exact fg|(refine stx ?_;first|exact bW _|refine aE ?_)|(refine kq ?_;first|refine fR q4 ?_|refine fR q1 ?_|refine fR q2 ?_)|((fail_if_success refine ft ?_);(conv=>whnf)<;>(first|exact fh|refine vZ bV λhc=>?_|(refine fJ.r (gL.n (gq.n (iG.n ?_)));refine nN (qD (hm.resolve_left (by assumption))) (by kernel_rfl) rfl ?_;refine ae (PV.ai (PV.le_refl _) (PV.ai (PV.le_nil _ _ _) PV.ao)) ?_;rintro r1 ⟨b,rfl⟩)|refine str ?_|refine Br.dec (λhc=>?_) λhc=>?_|refine Br.mk (λhc=>?_) λhc=>?_|exact PV.ao|refine PV.ai ?_ ?_|refine ae ?_ ?_|refine aD λx hx=>?_|refine aE ?_|refine bX (λhn=>?_) ?_|exact fv|refine bS λaZ=>?_|refine al ?_ ?_|refine fu ?_|fail)))<;>(try exact fi)
    · refine⟨_,_,⟨false,N.map eI,[],0,true,rfl,rfl⟩,?_⟩
      (conv=>whnf);exact nr [] [(0,0)] trivial
    · refine⟨_,_,⟨b,N.map eI,[],0,true,rfl,rfl⟩,?_⟩
      (conv=>whnf);exact nr [] [(0,0)] trivial
   |cons b0 B=>
    rw[Qp] at qD
    repeat' (first|exact fg|(refine stx ?_;first|exact bW _|refine aE ?_)|(refine kq ?_;first|refine fR q4 ?_|refine fR q1 ?_|refine fR q2 ?_)|((fail_if_success refine ft ?_);(conv=>whnf)<;>(first|exact fh|refine vZ bV λhc=>?_|refine Sq.fz (id:=16) [(8,false)] ?_|(refine fJ.r (gL.n (gq.n (iG.n ?_)));refine lR (qD (hm.resolve_left (by assumption))) (by kernel_rfl) rfl ?_;rintro r1 ⟨b,rfl⟩)|refine str ?_|refine Br.dec (λhc=>?_) λhc=>?_|refine Br.mk (λhc=>?_) λhc=>?_|exact PV.ao|refine PV.ai ?_ ?_|refine ae ?_ ?_|refine aD λx hx=>?_|refine aE ?_|refine bX (λhn=>?_) ?_|exact fv|refine bS λaZ=>?_|refine al ?_ ?_|refine fu ?_|fail)))<;>(try exact fi)
    · refine⟨_,_,⟨false,N.map eI,[],0,true,rfl,rfl⟩,?_⟩
      (conv=>whnf);exact nr [] [(0,0)] trivial
    · refine⟨_,_,⟨b,N.map eI,[],0,true,rfl,rfl⟩,?_⟩
      (conv=>whnf);exact nr [] [(0,0)] trivial
  |cons w0 W=>
   have hWl:W.length+1<=100000:=by simp at hW;omega
   obtain⟨a',r',e⟩:∃a' r',(w0::W).mergeSort (λx y=>decide (x<=y))=a'::r':=by
    have h:=List.length_mergeSort (le:=λx y:Int=>decide (x<=y)) (w0::W)
    cases hh:(w0::W).mergeSort (λx y=>decide (x<=y)) with
    |nil=>rw[hh] at h;simp at h
    |cons x y=>exact⟨x,y,rfl⟩
   have oI:r'.length=W.length:=by
    have h:=List.length_mergeSort (le:=λx y:Int=>decide (x<=y)) (w0::W);rw[e] at h;simpa using h
   have q1:=lF (w0::W) (iz _) (by show W.length+1<1000000;omega);rw[e] at q1;have q1:aM af 98 1 [(0,.row 1 (eI w0::W.map eI))] [.bo 0 1 0 (W.length+1)] (.p (.bR [])) [(0,.row 1 (eI a'::r'.map eI))]:=q1;have q2:=s9 (a'::r') (iz _) (by show r'.length+1<1000000;omega);(have q2:dC af 99 1 [(0,.row 1 (eI a'::r'.map eI))] [.bo 0 1 0 (W.length+1)] (CmP (W.length+1)):=by rw[<-oI];exact q2);clear e
   cases B with
   |nil=>
    repeat' (first|exact fg|(refine stx ?_;first|exact bW _|refine aE ?_)|(refine kq ?_;first|refine fR q4 ?_|refine fR (kI [2] q1) ?_)|((fail_if_success refine ft ?_);(conv=>whnf)<;>(first|exact fh|refine vZ bV λhc=>?_|(refine fJ.r (gL.n (gq.n (iG.m ?_)));refine pH [2] q2 (by kernel_rfl) rfl rfl (by decide) M1 (λi hi=>by match i,hi with|0,_=>rfl) M4 ?_;rintro r1 dX ⟨L,mm,hL1,hL2,hL3,rfl,rfl⟩;refine⟨λi hi=>(by simp at hi;simp[keys,hi]),by simp[keys],?_⟩)|(refine fJ.r (gL.n (gq.n (iG.n ?_)));refine nN (qD (hm.resolve_left (by assumption))) (by kernel_rfl) rfl ?_;refine ae (PV.ai (PV.le_refl _) (PV.ai (PV.le_nil _ _ _) PV.ao)) ?_;rintro r1 ⟨b,rfl⟩)|refine str ?_|refine Br.dec (λhc=>?_) λhc=>?_|refine Br.mk (λhc=>?_) λhc=>?_|exact PV.ao|refine PV.ai ?_ ?_|refine ae ?_ ?_|refine aD λx hx=>?_|refine aE ?_|refine bX (λhn=>?_) ?_|exact fv|refine bS λaZ=>?_|refine al ?_ ?_|refine fu ?_|fail)))<;>(try exact fi)
    · refine⟨_,_,⟨false,N.map eI,(L.take mm).map eI,1,false,rfl,rfl⟩,?_⟩
      (conv=>whnf);refine nr [2] [(0,0)] ?_
      all_goals exact cW.GZ (o:=2) (l:=L.map eI) (by simp) rfl Nat.zero_lt_one (by rw[ak];omega) (by rw[da,List.map_take])
    · refine⟨_,_,⟨b,N.map eI,(L.take mm).map eI,1,false,rfl,rfl⟩,?_⟩
      (conv=>whnf);refine nr [2] [(0,0)] ?_
      all_goals exact cW.GZ (o:=2) (l:=L.map eI) (by simp) rfl Nat.zero_lt_one (by rw[ak];omega) (by rw[da,List.map_take])
   |cons b0 B=>
    rw[Qp] at qD
    repeat' (first|exact fg|(refine stx ?_;first|exact bW _|refine aE ?_)|(refine kq ?_;first|refine fR q4 ?_|refine fR (kI [2] q1) ?_)|((fail_if_success refine ft ?_);(conv=>whnf)<;>(first|exact fh|refine vZ bV λhc=>?_|refine Sq.fz (id:=16) [(8,false)] ?_|(refine fJ.r (gL.n (gq.n (iG.m ?_)));refine pH [2] q2 (by kernel_rfl) rfl rfl (by decide) M1 (λi hi=>by match i,hi with|0,_=>rfl) M4 ?_;rintro r1 dX ⟨L,mm,hL1,hL2,hL3,rfl,rfl⟩;refine⟨λi hi=>(by simp at hi;simp[keys,hi]),by simp[keys],?_⟩)|(refine fJ.r (gL.n (gq.n (iG.n ?_)));refine lR (qD (hm.resolve_left (by assumption))) (by kernel_rfl) rfl ?_;rintro r1 ⟨b,rfl⟩)|refine str ?_|refine Br.dec (λhc=>?_) λhc=>?_|refine Br.mk (λhc=>?_) λhc=>?_|exact PV.ao|refine PV.ai ?_ ?_|refine ae ?_ ?_|refine aD λx hx=>?_|refine aE ?_|refine bX (λhn=>?_) ?_|exact fv|refine bS λaZ=>?_|refine al ?_ ?_|refine fu ?_|fail)))<;>(try exact fi)
    · refine⟨_,_,⟨false,N.map eI,(L.take mm).map eI,1,false,rfl,rfl⟩,?_⟩
      (conv=>whnf);refine nr [2] [(0,0)] ?_
      all_goals exact cW.GZ (o:=2) (l:=L.map eI) (by simp) rfl Nat.zero_lt_one (by rw[ak];omega) (by rw[da,List.map_take])
    · refine⟨_,_,⟨b,N.map eI,(L.take mm).map eI,1,false,rfl,rfl⟩,?_⟩
      (conv=>whnf);refine nr [2] [(0,0)] ?_
      all_goals exact cW.GZ (o:=2) (l:=L.map eI) (by simp) rfl Nat.zero_lt_one (by rw[ak];omega) (by rw[da,List.map_take])
 |some y=>
  have aC:j<N.length:=(aq.1 hy).1;(have ay:((j:Int)<((N.map eI).length:Int)):=by rw[ak];omega);obtain⟨v,hv,rfl⟩:=hN y (List.mem_of_getElem? hy);obtain⟨Rf,SA,q1⟩:=hpol v hv;have q2:=E9 r d a k h v.lU Rf SA;have q3:=λ(L:List Int) (hL:L.length<=r.av.length)=>xX r d a k h OO v.lU Rf SA L (by omega);generalize v.lU=p at *
  cases B with
  |nil=>
   have y7:0=j:=hB;subst y7;obtain rfl:W=[]:=List.length_eq_zero_iff.1 (by omega)
   repeat' (first|exact fg|(refine stx ?_;first|exact bW _|refine aE ?_)|(refine kq ?_;first|refine fR q1 ?_)|((fail_if_success refine ft ?_);(conv=>whnf)<;>(first|exact fh|refine np ay λhc=>?_|refine dR hy ?_|(refine fJ.r (gL.n (gq.n (iG.n ?_)));refine lR q2 (by kernel_rfl) rfl ?_;rintro r1 ⟨L,hL,rfl⟩)|(refine fJ.r (gL.n (gq.n (iG.n ?_)));refine lR (q3 _ hL) (by kernel_rfl) rfl ?_;rintro r1 ⟨b,rfl⟩)|refine λ(Mo:(bZ eI _).length=0)=>?_|refine str ?_|refine Br.dec (λhc=>?_) λhc=>?_|refine Br.mk (λhc=>?_) λhc=>?_|exact PV.ao|refine PV.ai ?_ ?_|refine ae ?_ ?_|refine aD λx hx=>?_|refine aE ?_|refine bX (λhn=>?_) ?_|exact fv|refine bS λaZ=>?_|refine al ?_ ?_|refine fu ?_|fail)))<;>(try exact fi)
   · refine⟨⟨(1,[b],[]),aC,rfl,de _⟩,by show N.length-1<N.length-0;omega,?_⟩
     exact aG trivial
   · cases L with
     |nil=>exact absurd aZ (by simp)
     |cons c L=>
      refine⟨⟨(1,[b],c::L),aC,rfl,(show(c::L).length<=1*1000 by omega)⟩,by show N.length-1<N.length-0;omega,?_⟩;exact aG trivial
  |cons b0 B=>
   cases W with
   |nil=>
    have hBl:B.length+1<=100:=by simp at hB;omega
    repeat' (first|exact fg|(refine stx ?_;first|exact bW _|refine aE ?_)|(refine kq ?_;first|refine fR q1 ?_)|((fail_if_success refine ft ?_);(conv=>whnf)<;>(first|exact fh|refine np ay λhc=>?_|refine dR hy ?_|(refine fJ.r (gL.n (gq.n (iG.n ?_)));refine lR q2 (by kernel_rfl) rfl ?_;rintro r1 ⟨L,hL,rfl⟩)|(refine fJ.r (gL.n (gq.n (iG.n ?_)));refine lR (q3 _ hL) (by kernel_rfl) rfl ?_;rintro r1 ⟨b,rfl⟩)|refine λ(Mo:(bZ eI _).length=0)=>?_|refine str ?_|refine Br.dec (λhc=>?_) λhc=>?_|refine Br.mk (λhc=>?_) λhc=>?_|exact PV.ao|refine PV.ai ?_ ?_|refine ae ?_ ?_|refine aD λx hx=>?_|refine aE ?_|refine bX (λhn=>?_) ?_|exact fv|refine bS λaZ=>?_|refine al ?_ ?_|refine fu ?_|fail)))<;>(try exact fi)
    · refine⟨⟨(j+1,b0::(B++[b]),[]),aC,(show(b0::(B++[b])).length=j+1 by simp at hB ⊢;omega),de _⟩,by show N.length-(j+1)<N.length-j;omega,?_⟩
      exact aG trivial
      all_goals(show(b0::B).map PV.bool++[.bool b]=_;simp)
    · cases L with
      |nil=>exact absurd aZ (by simp)
      |cons c L=>
       refine⟨⟨(j+1,b0::(B++[b]),c::L),aC,(show(b0::(B++[b])).length=j+1 by simp at hB ⊢;omega),(show(c::L).length<=(j+1)*1000 by omega)⟩,by show N.length-(j+1)<N.length-j;omega,?_⟩;exact aG trivial
       all_goals(show(b0::B).map PV.bool++[.bool b]=_;simp)
   |cons w0 W=>
    (have hBl:B.length+1<=100:=by simp at hB;omega);have hWl:W.length+1<=100000:=by simp at hW;omega
    repeat' (first|exact fg|(refine stx ?_;first|exact bW _|refine aE ?_)|(refine kq ?_;first|refine fR q1 ?_)|((fail_if_success refine ft ?_);(conv=>whnf)<;>(first|exact fh|refine np ay λhc=>?_|refine dR hy ?_|(refine fJ.r (gL.n (gq.n (iG.n ?_)));refine lR q2 (by kernel_rfl) rfl ?_;rintro r1 ⟨L,hL,rfl⟩)|(refine fJ.r (gL.n (gq.n (iG.n ?_)));refine lR (q3 _ hL) (by kernel_rfl) rfl ?_;rintro r1 ⟨b,rfl⟩)|refine λ(Mo:(bZ eI _).length=0)=>?_|refine str ?_|refine Br.dec (λhc=>?_) λhc=>?_|refine Br.mk (λhc=>?_) λhc=>?_|exact PV.ao|refine PV.ai ?_ ?_|refine ae ?_ ?_|refine aD λx hx=>?_|refine aE ?_|refine bX (λhn=>?_) ?_|exact fv|refine bS λaZ=>?_|refine al ?_ ?_|refine fu ?_|fail)))<;>(try exact fi)
    refine⟨⟨(j+1,b0::(B++[b]),w0::(W++L)),aC,(show(b0::(B++[b])).length=j+1 by simp at hB ⊢;omega),(show(w0::(W++L)).length<=(j+1)*1000 by simp at hW ⊢;omega)⟩,by show N.length-(j+1)<N.length-j;omega,?_⟩;refine aG ?_
    all_goals first|(show(b0::B).map PV.bool++[.bool b]=_;simp;done)|(show(w0::W).map eI++L.map eI=_;simp;done)|(show W.length+1+(L.map eI).length=(W++L).length+1;simp;omega)
end Ju
end Go.Proofs.YtmaiccmhkmndcaaGreatDoor
