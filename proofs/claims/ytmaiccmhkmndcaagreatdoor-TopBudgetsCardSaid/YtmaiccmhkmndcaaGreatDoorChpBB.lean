/- A part of the proof: contracts of the functions that the statement reaches. -/
import Derived.Test.YtmaiccmhkmndcaaGreatDoorChpAX
import Derived.Test.YtmaiccmhkmndcaaGreatDoorChpAP
import Derived.Test.YtmaiccmhkmndcaaGreatDoorChpAA
set_option linter.unusedSimpArgs false
set_option linter.unusedVariables false
set_option linter.unnecessarySimpa false
set_option maxRecDepth 100000
set_option maxHeartbeats 40000000
open And renaming intro->ae
open Bool renaming and_eq_true->aQ
open Go.Proofs.Tryz renaming prog->af
open List renaming all_eq_true->cG,getElem?_eq_none_iff->bw,length_map->ak,take_of_length_le->bN,take_length->eG,mem_map->aY,getElem?_eq_some_iff->aq,mem_of_getElem?->aO,length_filter_le->iB,mem_filter->dN,take_add_one->bz,foldl_append->fG
open Prod renaming fst->bp
namespace Go.Proofs.YtmaiccmhkmndcaaGreatDoor
open Go Go.Sg
namespace Ac
open bx
theorem AJ(l:List Bg)(u:List Us)(k:Int)(hl:l.length<1000000)(hz:aJ l=0)(Lz:u.length<=4096)(hu:yf u=true)(hk:bx.bh 0 bx.TM k=true):aa af 10 [eL l,EK u,eI k] (.bR [dm (((VY l u k).map bp).mergeSort λx y=>decide (x<=y)),eI 0]):=by
 have q1:=nW l u hl hz Lz;rw[hu,if_pos rfl] at q1;obtain⟨hl4,hr,hs⟩:=dI hz;have q3:=v1 1099511627776 k;have e3:bx.bh 0 (1099511627776-1) k=true:=hk;rw[e3] at q3
 have hU:∀x∈u,rU x=true:=λx hx=>by
  unfold yf at hu;rw[aQ] at hu;exact cG.1 hu.1 x hx
 have hM:=λi=>Qw l u (u.take i) k;refine aa.e Tryz.func10 79 [.tmp 6,.tmp 7] Ni ?_;refine gg q1 (kZ q3) (kR V6) ?_;refine bY.bq (α:={i:Nat // i<=u.length}) mixed Ni (λi=>[(31,.p (eI i.1))]) (λi=>[(768,.map tV (eM bx.eI PV.bool ((u.take i.1).foldl (Fv l u k) []))),(576,.dead)]) (λ_=>0) (λi=>u.length-i.1) ⟨0,by omega⟩ ?_ ?_
 · exact aG trivial
 rintro⟨i,hi⟩;have hi:i<=u.length:=hi
 cases hx:u[i]? with
 |none=>
  have dD:u.length<=i:=bw.1 hx;(have bV:¬((i:Int)<((u.map eU).length:Int)):=by rw[ak];omega);have eF:u.take i=u:=bN dD;show ya _ _ _ λe=>x9 [(768,.map tV (eM bx.eI PV.bool ((u.take i).foldl (Fv l u k) []))),(576,.dead)] _ [] λh=>_;rw[eF];have Tm:=hM u.length;rw[eG] at Tm;change (((VY l u k).map bp).Nodup/\ ∀x∈VY l u k,∃b∈l,b.no=x.1) at Tm;change ya _ _ _ λe=>x9 [(768,.map tV (eM bx.eI PV.bool (VY l u k))),(576,.dead)] _ [] λh=>_;generalize VY l u k=M at *
  have V9:M.length<1000000:=by
   have h1:=Tm.1.length_le_of_subset (l₂:=l.map Bg.no) λn hn=>by
    obtain⟨x,hx,rfl⟩:=aY.1 hn;obtain⟨b,hb,e⟩:=Tm.2 x hx;exact aY.2 ⟨b,hb,e⟩
   simp only[ak] at h1;omega
  have q5:=u5 PV.bool M V9 Tm.1 λx hx=>by
   obtain⟨b,hb,e⟩:=Tm.2 x hx;have:=hr b hb;simp only[ag,bx.bh,aQ,decide_eq_true_eq] at this;have h2:=this.1.1.1.1.1.1;unfold wi;rw[<-e];omega
  have q6:=xR (eM bx.eI PV.bool M);exact oa (kN bV) (kF 23 [(9,false)]) (kI [] q6) (kI [1216] q5) trivial
 |some x=>
  have aC:i<u.length:=(aq.1 hx).1;(have ay:((i:Int)<((u.map eU).length:Int)):=by rw[ak];omega);have Qr:=Qu (l:=l) (u:=u) (k:=k) hx;have Uv:=hU x (aO hx)
  have dk:kh x.kind x.tm k=true:=by
   simp only[rU,aQ] at Uv;unfold kh;rw[Uv.1.1.2,Uv.2.1,hk];rfl
  have q4:=nh l x.kind x.tm k hl;unfold wq at q4;rw[if_pos hz,if_pos dk] at q4;show ya _ _ _ λe=>x9 [(768,.map tV (eM bx.eI PV.bool ((u.take i).foldl (Fv l u k) []))),(576,.dead)] _ [] λh=>_;generalize hM0:(u.take i).foldl (Fv l u k) []=M at *;have hSl:(lg l x.kind x.tm k).length<1000000:=Nat.lt_of_le_of_lt (iB _ _) hl;have hSr:∀b∈lg l x.kind x.tm k,ag b=true:=λb hb=>hr b (dN.1 hb).1;(have Rt:Fv l u k M x=if x.known<=k then(lg l x.kind x.tm k).foldl (Fu u k x.tm) M else M:=rfl);generalize lg l x.kind x.tm k=S at *;refine gg (kY ay) (kX hx) q4 (λhc=>ae (λhc=>?_) λhc=>?_)
  · rename_i wG
    (have e:Fv l u k M x=M:=by rw[Rt,if_neg (by omega)]);rw[e] at Qr;refine⟨⟨i+1,aC⟩,by show u.length-(i+1)<u.length-i;omega,?_⟩;show di _ _ (kj Ni _ _ _ [(31,.p (eI ((i+1:Nat):Int)))] [(768,.map tV (eM bx.eI PV.bool ((u.take (i+1)).foldl (Fv l u k) []))),(576,.dead)] _);rw[Qr];exact aG trivial
  (have Qm:¬ k<x.known:=by assumption);rw[if_pos (by omega)] at Rt;rw[Rt] at Qr;refine bY.bq (α:={j:Nat // j<=S.length}) mixed Ni (λj=>[(54,.p (eI j.1))]) (λj=>[(768,.map tV (eM bx.eI PV.bool ((S.take j.1).foldl (Fu u k x.tm) M)))]) (λ_=>0) (λj=>S.length-j.1) ⟨0,by omega⟩ ?_ ?_
  · exact aG trivial
  rintro⟨j,hj⟩;have hj:j<=S.length:=hj
  cases hy:S[j]? with
  |none=>
   have dD:S.length<=j:=bw.1 hy;(have HI:¬((j:Int)<((S.map eA).length:Int)):=by rw[ak];omega);have eF:S.take j=S:=bN dD;show ya _ _ _ λe=>x9 [(768,.map tV (eM bx.eI PV.bool ((S.take j).foldl (Fu u k x.tm) M)))] _ [] λh=>_;rw[eF];refine bM (kN HI) (λhc=>?_);refine⟨⟨i+1,aC⟩,by show u.length-(i+1)<u.length-i;omega,?_⟩;show di _ _ (kj Ni _ _ _ [(31,.p (eI ((i+1:Nat):Int)))] [(768,.map tV (eM bx.eI PV.bool ((u.take (i+1)).foldl (Fv l u k) []))),(576,.dead)] _);rw[Qr];exact aG trivial
  |some y=>
   have HJ:j<S.length:=(aq.1 hy).1;(have Qc:((j:Int)<((S.map eA).length:Int)):=by rw[ak];omega);have hry:=hSr y (aO hy)
   have hp:1<=y.ia/\y.ia<=1099511627776:=by
    simp only[ag,bx.bh,aQ,decide_eq_true_eq] at hry;omega
   have q7:=xv y u k x.tm (by omega) hp.1 hp.2 (Dr Uv) hU;have cu:=Qv (u:=u) (k:=k) (a:=x.tm) (m:=M) hy;(have hov2:Fu u k x.tm ((S.take j).foldl (Fu u k x.tm) M) y=if rV y u k x.tm then(S.take j).foldl (Fu u k x.tm) M else dQ y.no true ((S.take j).foldl (Fu u k x.tm) M):=rfl);have hfe:=Qs y u k x.tm;have q8:=AI y u k (Fw x.tm (u.filter (iW y (x.tm.tdiv y.ia) k)));rw[hfe] at q8;show ya _ _ _ λe=>x9 [(768,.map tV (eM bx.eI PV.bool ((S.take j).foldl (Fu u k x.tm) M)))] _ [] λh=>_;generalize (S.take j).foldl (Fu u k x.tm) M=Q at *;generalize Fw x.tm (u.filter (iW y (x.tm.tdiv y.ia) k))=sp at *;generalize rV y u k x.tm=fb at *;refine oa (kY Qc) (kX hy) q7 q8 (λhc=>ae (λhc=>?_) λhc=>?_)
   all_goals
    refine⟨⟨j+1,HJ⟩,by show S.length-(j+1)<S.length-j;omega,?_⟩;show di _ _ (kj Ni _ _ _ [(54,.p (eI ((j+1:Nat):Int)))] [(768,.map tV (eM bx.eI PV.bool ((S.take (j+1)).foldl (Fu u k x.tm) M)))] _);rw[cu,hov2]
   · rw[if_pos hc]
     exact aG trivial
   · rw[if_neg (by rw[hc];simp)]
     refine aG ?_
     all_goals(show _=eM bx.eI PV.bool (dQ y.no true Q);rw[<-cU PV.bool iM])
end Ac
namespace Ac
open bx
theorem Qx:ko af 111=some (tV,103):=by kernel_rfl
theorem Y8{β:Type}{o:Option β}{v:β}{A:β->Prop}{B:Prop}(h:o=some v)(k:A v):jr o A B:=by subst h;exact jr.ss k
theorem optN{β:Type}{o:Option β}{A:β->Prop}{B:Prop}(h:o=none)(k:B):jr o A B:=by subst h;exact jr.nn k
def V'(n:Nat):List Sp->AV
 |[]=>.p (.sl 0 true [])
 |a::r=>.bo n 3 0 (r.length+1)
def Qy(n:Nat):List Sp->ab
 |[]=>[]
 |a::r=>[(n,.row 3 ((a::r).map V8))]
theorem L1{F:List Us}{i:Nat}{x:Us}(h:F[i]? =some x):ud (F.take (i+1))=Kc (ud (F.take i)) x:=by
 unfold ud;rw[bz,h];simp[fG]
theorem L2{b:Bg}{M:List (Int×Sm)}{K:List Int}{i:Nat}{t:Int}(h:K[i]? =some t):rW b M (K.take (i+1))=Rv b M (rW b M (K.take i)) t:=by
 unfold rW;rw[bz,h];simp[fG]
theorem Uy(F:List Us)(hF:∀y∈F,0<=y.val/\y.val<=1099511627776):∀i t,0<=(gS (ud (F.take i)) t).1/\(gS (ud (F.take i)) t).1<=i/\0<=(gS (ud (F.take i)) t).2/\(gS (ud (F.take i)) t).2<=1099511627776*(i:Int):=by
 intro i
 induction i with
 |zero=>intro t;simp[ud,gS,bn]
 |succ i ih=>
  intro t
  cases hx:F[i]? with
  |none=>
   (have:F.take (i+1)=F.take i:=by rw[bz,hx];simp);rw[this];have:=ih t;omega
  |some x=>
   have h1:=hF x (aO hx);have h2:=ih t;have h3:=ih x.tm;rw[L1 hx];unfold gS Kc at *;rw[dj];split
   · simp only[Option.getD_some];omega
   · omega
theorem Y9(b:Bg)(M:List (Int×Sm))(N:Int)(hM:∀t,0<=(gS M t).1/\(gS M t).1<=N/\0<=(gS M t).2/\(gS M t).2<=1099511627776*N)(K:List Int):∀i:Nat,0<=(rW b M (K.take i)).1.1/\(rW b M (K.take i)).1.1<=N*i/\0<=(rW b M (K.take i)).1.2/\(rW b M (K.take i)).1.2<=1099511627776*(N*i):=by
 intro i
 induction i with
 |zero=>simp[rW]
 |succ i ih=>
  have e:N*((i+1:Nat):Int)=N*i+N:=by rw[Int.natCast_succ,Int.mul_add,Int.mul_one]
  rw[e]
  cases hx:K[i]? with
  |none=>
   (have:K.take (i+1)=K.take i:=by rw[bz,hx];simp);rw[this];have:=hM 0;omega
  |some t=>
   rw[L2 hx];unfold Rv;have:=hM t;simp only;omega
theorem Kg(b:Bg)(M:List (Int×Sm)):∀(K:List Int) (s:Sm×List Sp),(K.foldl (Rv b M) s).2.length=s.2.length+K.length
 |[],s=>by simp
 |t::r,s=>by
  rw[List.foldl_cons,Kg b M r];unfold Rv;simp only[List.length_append,List.length_cons,List.length_nil];omega
theorem BZ(l:List Bg)(u:List Us)(b:Bg)(p k:Int)(hl:l.length<1000000)(hz:aJ l=0)(Lz:u.length<=100)(hu:yf u=true)(hb:b∈l)(hg:b.gone=false)(XQ:0<=p)(Rf:p<=(1099511627775:Int).tdiv b.ia)(hk:bx.bh 0 bx.TM k=true):aa af 12 [eL l,EK u,eI b.no,eI p,eI k] (.bR [.sl 3 false ((rW b (ud (u.filter (iW b p k))) (((ud (u.filter (iW b p k))).map bp).mergeSort λx y=>decide (x<=y))).2.map V8),eI 0]):=by
 have q1:=nW l u hl hz (by omega);rw[hu,if_pos rfl] at q1;obtain⟨hl4,hr,hs⟩:=dI hz;have q2:=jv l u b k hl hb hg hs;have q3:=v1 1099511627776 k;have e3:bx.bh 0 (1099511627776-1) k=true:=hk;rw[e3] at q3;have hrb:=hr b hb
 have hU:∀x∈u,rU x=true:=λx hx=>by
  unfold yf at hu;rw[aQ] at hu;exact cG.1 hu.1 x hx
 have hp:1<=b.ia/\b.ia<=1099511627776:=by
  simp only[ag,bx.bh,aQ,decide_eq_true_eq] at hrb;omega
 have q4:=HZ b u k p;have gh:=LY b u k p (by omega) hp.1 hU;have hF:∀y∈u.filter (iW b p k),0<=y.val/\y.val<=1099511627776:=λy hy=>ET (hU y (dN.1 hy).1);have hT:∀y∈u.filter (iW b p k),0<=y.tm/\y.tm<=bx.TM:=λy hy=>Dr (hU y (dN.1 hy).1);have WW:=iB (iW b p k) u
 have jd:∀y∈((u.filter (iW b p k)).map λy=>[eU y]),y.length=1:=λy hy=>by
  obtain⟨z,_,rfl⟩:=aY.1 hy;rfl
 (have du:∀i y,(u.filter (iW b p k))[i]? =some y->((u.filter (iW b p k)).map λy=>[eU y]).getD i []=[eU y]:=λi y h=>by simp[List.getD,h]);generalize u.filter (iW b p k)=F at *;have htd:=u9 (show(0:Int)<=1099511627775 by omega) hp.1;refine aa.e Tryz.func12 103 [.tmp 10,.tmp 11] PE ?_;refine Rh q1 q2 (kZ q3) q4 (kR Qx) (λhc hc=>?_)
 all_goals try omega
 refine bY.range mixed gh (by kernel_rfl) rfl PE F.length [1024,2240,2496,2560] (λi=>([(2560,.cells [.mp 2496]),(2496,.map tV (eM bx.eI HY (ud (F.take i)))),(2240,.row af.types[3].size [bx.eI k]),(1024,.cells [.p (eI b.no),.p (eI b.tm),.p (eI b.known),.p (eI b.kind),.p (eI b.ia),.p (eI b.cnt),.p (eI b.val),.p (.bool b.gone),.p (EK u),.p (eI k)])],2880)) rfl (gN rfl) (by simp) (by simp) jd (λi hi hm=>?_) (λ_=>?_)
 · rw[ak] at hi
   obtain⟨y,hy⟩:∃y,F[i]? =some y:=⟨_,List.getElem?_eq_getElem hi⟩;rw[du i y hy];have cu:=L1 hy;have r7:=Uy F hF i y.tm;have XE:=hF y (aO hy)
   try dsimp only
   generalize ud (F.take i)=M at *;have q5:=Dv (gS M y.tm) y (by omega) (by omega) XE;have hhm:Kc M y=dQ y.tm ((gS M y.tm).1+1,(gS M y.tm).2+y.val) M:=rfl
   cases LX:bn y.tm M with
   |none=>
    (have Uc:gS M y.tm=(0,0):=by unfold gS;rw[LX];rfl);rw[Uc] at q5 hhm;(have nT:cK (bx.eI y.tm) (eM bx.eI HY M)=none:=by rw[bj HY iM,LX];rfl);refine gg q5 (kX nT) (kR Qx) ?_
    try dsimp only
    rw[cu,hhm];refine nq ?_
    all_goals(rw[<-cU HY iM])
   |some g=>
    (have Uc:gS M y.tm=g:=by unfold gS;rw[LX];rfl);rw[Uc] at q5 hhm;(have nT:cK (bx.eI y.tm) (eM bx.eI HY M)=some (HY g):=by rw[bj HY iM,LX];rfl);refine gg q5 (kX nT) (kR Qx) ?_
    try dsimp only
    rw[cu,hhm];refine nq ?_
    all_goals(rw[<-cU HY iM])
 · have eF:F.take (F.map λy=>[eU y]).length=F:=by rw[ak,eG]
   rw[eF];have iX:((ud F).map bp).Nodup:=AA F [] (by simp)
   have Ch:∀t,t∈(ud F).map bp->∃x∈F,x.tm=t:=λt ht=>by
    rcases(EV F [] t).1 ht with h|h
    · simp at h
    · exact h
   have r7:=Uy F hF F.length;rw[eG] at r7;generalize ud F=M at *
   have V9:M.length<1000000:=by
    have h1:=iX.length_le_of_subset (l₂:=F.map Us.tm) λn hn=>by
     obtain⟨x,hx,e⟩:=Ch n hn;exact aY.2 ⟨x,hx,e⟩
    simp only[ak] at h1;omega
   have q5:=wj HY M V9 iX λx hx=>by
    obtain⟨y,hy,e⟩:=Ch x.1 (aY.2 ⟨x,hx,rfl⟩);have h2:=hT y hy;simp only[bx.TM] at h2;unfold wi;rw[<-e];omega
   have q6:=Aq (eM bx.eI HY M)
   have Tm:M.length<=100:=by
    have h1:=iX.length_le_of_subset (l₂:=F.map Us.tm) λn hn=>by
     obtain⟨x,hx,e⟩:=Ch n hn;exact aY.2 ⟨x,hx,e⟩
    simp only[ak] at h1;omega
   have hKp:=List.mergeSort_perm (M.map bp) λx y=>decide (x<=y);have hKl:((M.map bp).mergeSort λx y=>decide (x<=y)).length<=100:=by rw[hKp.length_eq,ak];exact Tm
   have hKm:∀t∈(M.map bp).mergeSort λx y=>decide (x<=y),∃g,bn t M=some g:=λt ht=>by
    rw[hKp.mem_iff] at ht;obtain⟨e,he,rfl⟩:=aY.1 ht;exact⟨e.2,jD iX he⟩
   have hgb:∀t,0<=(gS M t).1/\(gS M t).1<=100/\0<=(gS M t).2/\(gS M t).2<=1099511627776*100:=λt=>by
    have:=r7 t;omega
   refine gg (kF 12 [(15,true)]) (kI [] q6) (kI [3008] q5) ?_;generalize (M.map bp).mergeSort (λx y=>decide (x<=y))=K at *;have hsb:=Y9 b M 100 hgb K;refine bY.bq (α:={j:Nat // j<=K.length}) mixed PE (λj=>[(10,V' 1 (rW b M (K.take j.1)).2),(72,.p (eI j.1))]) (λj=>(2880,.cells [.p (eI (rW b M (K.take j.1)).1.1),.p (eI (rW b M (K.take j.1)).1.2)])::(3008,.dead)::(2240,.dead)::Qy 1 (rW b M (K.take j.1)).2) (λ_=>0) (λj=>K.length-j.1) ⟨0,by omega⟩ ?_ ?_
   · exact aG trivial
   rintro⟨j,hj⟩;have hj:j<=K.length:=hj;have Y':=hsb j;(have hlen:(rW b M (K.take j)).2.length=j:=by unfold rW;rw[Kg];simp;omega);(have Oz:K.length<=j->rW b M (K.take j)=rW b M K:=λh=>by rw[bN h]);have hst0:=λt (hx:K[j]? =some t)=>L2 (b:=b) (M:=M) hx;generalize rW b M (K.take j)=R at *;obtain⟨⟨c,v⟩,st⟩:=R;have Y':0<=c/\c<=100*(j:Int)/\0<=v/\v<=1099511627776*(100*(j:Int)):=Y';have hlen:st.length=j:=hlen
   cases hx:K[j]? with
   |none=>
    have dD:K.length<=j:=bw.1 hx;(have bV:¬((j:Int)<((K.map eI).length:Int)):=by rw[ak];omega);rw[<-Oz dD]
    cases st with
    |nil=>
     refine bM (kN bV) (λhc=>?_);exact aP.mk (PV.fU (PV.ai (PV.le_nil _ _ _) (PV.dE _)))
    |cons a r=>
     refine bM (kN bV) (λhc=>?_);refine aP.of ?_;rw[List.drop_zero,bN (by simp)];rfl
   |some t=>
    have aC:j<K.length:=(aq.1 hx).1;(have ay:((j:Int)<((K.map eI).length:Int)):=by rw[ak];omega);obtain⟨g,LX⟩:=hKm t (aO hx);(have Uc:gS M t=g:=by unfold gS;rw[LX];rfl);have hgb2:=hgb t;rw[Uc] at hgb2;(have nT:cK (bx.eI t) (eM bx.eI HY M)=some (HY g):=by rw[bj HY iM,LX];rfl);have cu:=hst0 t hx;(have cu:rW b M (K.take (j+1))=((c+g.1,v+g.2),st++[(⟨t,c+g.1,oP b (c+g.1) (v+g.2)⟩:Sp)]):=by rw[cu];unfold Rv;rw[Uc]);have q7:=AI b u k (c+g.1,v+g.2)
    cases st with
    |nil=>
     refine oa (kY ay) (kX hx) (kX nT) q7 (λhc aZ=>?_);refine⟨⟨j+1,aC⟩,by show K.length-(j+1)<K.length-j;omega,?_⟩;show di _ _ (kj PE _ _ _ [(10,V' 1 (rW b M (K.take (j+1))).2),(72,.p (eI ((j+1:Nat):Int)))] ((2880,.cells [.p (eI (rW b M (K.take (j+1))).1.1),.p (eI (rW b M (K.take (j+1))).1.2)])::(3008,.dead)::(2240,.dead)::Qy 1 (rW b M (K.take (j+1))).2) _);rw[cu];exact aG trivial
    |cons a r=>
     refine oa (kY ay) (kX hx) (kX nT) q7 (λhc=>ae ?_ ?_)
     · simp at hlen;omega
     refine⟨⟨j+1,aC⟩,by show K.length-(j+1)<K.length-j;omega,?_⟩;show di _ _ (kj PE _ _ _ [(10,V' 1 (rW b M (K.take (j+1))).2),(72,.p (eI ((j+1:Nat):Int)))] ((2880,.cells [.p (eI (rW b M (K.take (j+1))).1.1),.p (eI (rW b M (K.take (j+1))).1.2)])::(3008,.dead)::(2240,.dead)::Qy 1 (rW b M (K.take (j+1))).2) _);rw[cu];show di _ _ (kj _ _ _ _ [(10,.bo 1 3 0 ((r++[(⟨t,c+g.1,oP b (c+g.1) (v+g.2)⟩:Sp)]).length+1)),_] (_::_::_::[(1,.row 3 ((a::(r++[(⟨t,c+g.1,oP b (c+g.1) (v+g.2)⟩:Sp)])).map V8))]) _);refine aG ?_
     all_goals(show(a::r).map V8++[V8 ⟨t,c+g.1,oP b (c+g.1) (v+g.2)⟩]=_;simp)
end Ac
end Go.Proofs.YtmaiccmhkmndcaaGreatDoor
