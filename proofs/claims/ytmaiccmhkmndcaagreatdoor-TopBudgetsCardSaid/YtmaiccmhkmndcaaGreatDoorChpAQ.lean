/- A part of the proof: contracts of the functions that the statement reaches. -/
import Derived.Test.YtmaiccmhkmndcaaGreatDoorChpAP
import Derived.Test.YtmaiccmhkmndcaaGreatDoorChpAO
import Derived.Test.YtmaiccmhkmndcaaGreatDoorChpAA
import Derived.Shelf.SlSortCmp.NoneTotal
set_option linter.unusedSimpArgs false
set_option linter.unusedVariables false
set_option linter.unnecessarySimpa false
set_option maxRecDepth 100000
set_option maxHeartbeats 40000000
open And renaming intro->ae
open Array renaming eq_empty_of_size_eq_zero->lW,getElem?_eq_getElem->dh,getElem?_append_left->iY,getElem?_modify->pU
open Go.Calls renaming mono->fI
open Go.Proofs.Tryz renaming prog->af
open List renaming mem_map->aY,length_map->ak,getElem?_eq_some_iff->aq,take->et,map->bZ,drop->eo,drop_zero->da,take_of_length_le->bN
open Nat renaming zero_le->de,zero_lt_succ->iz
namespace Go.Proofs.YtmaiccmhkmndcaaGreatDoor
open Go Go.Sg
namespace Of
open Go.Lib Go.RowKit Go.Shelf Go.Sort
def encS(x:St):List Value:=[.int .i64 x.1,.int .i64 x.2]
def VU(x y:St):Int:=Go.Lib.compareInt x.2 y.2
def cS(s:St)(j:Nat):Int:=if j=0 then s.1 else s.2
theorem ltS(x y:St):ltOf VU x y=decide (x.2<y.2):=by
 unfold ltOf VU Go.Lib.compareInt;by_cases h1:x.2<y.2
 · simp[h1]
 · by_cases h2:y.2<x.2<;>simp[h1,h2]
theorem YV:SWO (ltOf VU) where
 irrefl x:=by rw[ltS];simp
 trans x y z h1 h2:=by rw[ltS] at *;simp at *;omega
 ntrans x y z h1 h2:=by rw[ltS] at *;simp at *;omega
set_option maxHeartbeats 1000000 in
theorem J1(x y:St)(W:World):Calls af 240 #[.agg #[.int .i64 x.1,.int .i64 x.2],.agg #[.int .i64 y.1,.int .i64 y.2]] W λe w'=>e= .returned (.int .i64 (Go.Lib.compareInt x.2 y.2))/\ ∃q os',w'=grow (W.drewN q) os':=by
 have VV:=λW'=>Go.Proofs.AnyG.cmp_Compare_int Go.Proofs.Tryz.VT x.2 y.2 W';change ∀W',Calls af 140 _ _ _ at VV;generalize Go.Lib.compareInt x.2 y.2=r at VV ⊢
 go_enter Tryz.func240,Tryz.ntmps240
 go_wp2_with (go_at_call 140;refine(VV _).mono ?_;rintro e w' ⟨rfl,rfl⟩)
 go_ret
 exact⟨rfl,0,_,by rw[alloc_eq_grow,alloc_eq_grow,grow_grow];rfl⟩
theorem As(l:List St)(t:Nat)(ht:t<l.length*2):(bc (l.map eS))[t]? =some (.p (eI (cS (l[t / 2]'(by omega)) (t % 2)))):=by
 rw[FP (sz:=2) (by omega) (λp hp=>by
  obtain⟨x,_,rfl⟩:=aY.1 hp
  exact⟨rfl,λc hc=>by
   have:c=eI x.1\/c=eI x.2:=by simpa[eS,PV.cells] using hc
   rcases this with rfl|rfl<;>rfl⟩)]
 rw[List.getElem?_map,List.getElem?_eq_getElem (by omega)];rcases Nat.mod_two_eq_zero_or_one t with h|h<;>rw[h]<;>rfl
def xq(l:List St):List St:=(pdq (ltOf VU) l.toArray 0 l.toArray.size (Lib.bitLen l.toArray.size) true true).toList
theorem wo(l:List St):(xq l).length=l.length:=by
 have h:=(pdq_sorts (ltOf VU) YV l.toArray 0 l.toArray.size (Lib.bitLen l.toArray.size) true true (de _) (Nat.le_refl _) (Or.inl rfl)).1.1;unfold xq;rw[Array.length_toList,h];simp
theorem HN(d:List St)(t:Nat)(ht:t<d.length*2):(flatK encS 2 d.toArray)[t]! = .int .i64 (cS (d[t / 2]'(by omega)) (t % 2)):=by
 rw[get_flatK encS 2 d.toArray t (by simpa using ht)];(have h1:t / 2<d.toArray.size:=by simp;omega);rw[getElem!_pos d.toArray (t / 2) h1];rcases Nat.mod_two_eq_zero_or_one t with h|h<;>rw[h]<;>simp[encS,cS]
theorem EH(l:List St)(h0:0<l.length)(hl:l.length<1000000):aM af 276 1 [(0,.row 2 (l.map eS))] [.bo 0 2 0 l.length,.p (.fn (.func 240) [] [])] (.p (.bR [])) [(0,.row 2 ((xq l).map eS))]:=by
 intro F μ w vs ar Ft oS ie;have hr:=ie 0 _ rfl;have A5:=ie 1 _ rfl;generalize hv:vs[0]?.getD undef=v at hr;generalize YX:vs[1]?.getD undef=v1 at A5;have A5:=A5.bG
 cases A5 with
 |fn _ us bs _ _ k1 k2 k3 k4=>
 have e1:us= #[]:=lW k1;have e2:bs= #[]:=lW k2;subst e1;subst e2
 cases hr with
 |bo _ _ _ _ _ hr=>
 cases hr with
 |dJ _ _ _ bL _ cap b t n hb l9 pQ hn tX qe=>
 have FN:cap≠0:=by omega
 have l9:bL=0:=by simpa using l9.resolve_left FN
 subst l9
 have EG:vs= #[.slice (some ⟨b,0,none⟩) l.length cap,.func (.func 240) #[] #[]]:=by
  have h1:vs.size=2:=oS;apply Array.ext
  · simp[h1]
  · intro i hi FO
    (have:i=0\/i=1:=by omega);rcases this with rfl|rfl
    · rw[dh hi] at hv
      simpa using hv
    · rw[dh hi] at YX
      simpa using YX
 subst EG;obtain⟨bQ,cur,t',fO,hlen,ml⟩:=ar.obj 0 b hb;have tY:b<w.heap.size:=ar.mb b (.inl ⟨0,hb⟩)
 have YY:∀d:List St,∀p∈d.map eS,xY 2 p:=λd p hp=>by
  obtain⟨x,_,rfl⟩:=aY.1 hp
  exact⟨rfl,λc hc=>by
   have:c=eI x.1\/c=eI x.2:=by simpa[eS,PV.cells] using hc
   rcases this with rfl|rfl<;>rfl⟩
 have oI:∀d:List St,(bc (d.map eS)).length=d.length*2:=λd=>by
  rw[cz (sz:=2) (by omega) (YY d),ak]
 have hlen:l.length*2<=cur.size:=by
  have h:(bc (l.map eS)).length<=cur.size:=hlen;rw[oI] at h;exact h
 have Bb:∀(j:Nat) (h:j<l.length*2),cur[j]? =some (.int .i64 (cS (l[j / 2]'(by omega)) (j % 2))):=λj h=>by
  have h2:=ml j _ (As l j h);have h3:=h2.bG;rw[dh (by omega)] at h3 ⊢;simp only[Option.getD_some] at h3;generalize cur[j]=u at h3;cases h3;rfl
 have hH:HoldsK encS 2 w b 0 l.toArray:=λj hj=>by
  have IK:j<l.length*2:=by simpa using hj
  refine⟨?_,?_⟩
  · rw[HN l j IK,Nat.zero_add]
    unfold World.cell?;rw[fO];exact Bb j IK
  · unfold World.frozen?
    rw[fO];simp
 have jZ:=Go.Proofs.AnyQ.slices_SortFunc_eq Go.Proofs.Tryz.LL 2 Tryz.isAgg291 Tryz.sizeOf291 encS (λ_=>rfl) (λx v hv=>by simp[encS] at hv;rcases hv with rfl|rfl<;>rfl) VU YV 240 #[] b 0 cap l.toArray w (enters_of Tryz.func240 (by kernel_rfl) rfl) (λ_ _ _ _ x y=>J1 x y _) hH tY (by simp;omega);change Calls af 276 _ _ _ at jZ;refine fI jZ λe w' he=>?_;obtain⟨rfl,n',os,rfl⟩:=he;have Rm:=wo l;(have IM:(pdq (ltOf VU) l.toArray 0 l.toArray.size (Lib.bitLen l.toArray.size) true true)=(xq l).toArray:=by unfold xq;simp);rw[IM];generalize xq l=d at Rm;have iR:(putCells id 0 (flatK encS 2 d.toArray) cur).size=cur.size:=by unfold putCells;simp
 obtain⟨g1,g2⟩:=HL (l':=d.map eS) (cur':=putCells id 0 (flatK encS 2 d.toArray) cur) (w':=sortWorldK encS 2 w b 0 n' d.toArray os) ar Ft hb fO (by
  show((w.heap.modify b (onCells _))++os)[b]? =_
  rw[iY (by simpa using tY),pU,if_pos rfl,fO];rfl) iR rfl rfl rfl (by
  show w.heap.size<=((w.heap.modify b (onCells _))++os).size
  simp) (λc hc XB=>by
  show((w.heap.modify b (onCells _))++os)[c]? =_
  rw[iY (by simpa using hc),pU,if_neg (λe=>XB e.symm)]) (YY d) (by rw[oI,iR];omega) λi c A2=>by
  (have hi:i<d.length*2:=by rw[<-oI];exact(aq.1 A2).1);rw[As d i hi] at A2;injection A2 with A2;subst A2
  have e:(putCells id 0 (flatK encS 2 d.toArray) cur)[i]? =some (.int .i64 (cS (d[i / 2]'(by omega)) (i % 2))):=by
   unfold putCells;rw[Array.getElem?_mapIdx,Bb i (by omega),Option.map_some,if_pos ⟨de _,by simp;omega⟩,Nat.sub_zero,HN d i hi];rfl
  rw[e];exact .p (.int _ _)
 exact⟨_,F,μ,rfl,g1,g2,.p (.bR _ _ rfl (by simp)),λ_ _ _ h=>h,λo ho=>Ft o (by omega)⟩
end Of
end Go.Proofs.YtmaiccmhkmndcaaGreatDoor
namespace Go.Proofs.YtmaiccmhkmndcaaGreatDoor
open Go Go.Sg
theorem J2{f:FuncId}{sz:Nat}{clip:Bool}(h:∀(p:Option Addr) (cap:Nat) (w:World),Calls af f #[.slice p 0 cap] w λe w'=>e= .returned (.tuple #[])/\w'=w):aa af f [.sl sz clip []] (.bR []):=by
 intro F w vs hF oS ie;have h0:=ie 0 _ rfl;generalize hv:vs[0]?.getD undef=v at h0;have VX:vs.size=1:=oS
 have EG:∀u,v=u->vs= #[u]:=λu e=>by
  apply Array.ext
  · simp[VX]
  · intro i hi FO
    (have:i=0:=by omega);subst this;rw[dh hi] at hv;simpa[e] using hv
 have core:∀p cap,v= .slice p 0 cap->Calls af f vs w λe w'=>∃v F',e= .returned v/\dO F aN.no w F' aN.no w'/\(∀b,F' b->b<w'.heap.size)/\RP F' w' v (.bR []):=λp cap e=>by
  rw[EG _ e];refine fI (h p cap w) λe w' he=>?_;obtain⟨rfl,rfl⟩:=he;exact⟨_,F,rfl,dO.refl _ _ _,hF.lt,.bR _ _ rfl (by simp)⟩
 cases h0 with
 |r5 a cap _ _ _ _ _=>exact core _ _ rfl
 |sl b off len cap _ _ _ _ _ h2=>subst h2;exact core _ _ rfl
theorem rO(sz:Nat)(clip:Bool):aa af 98 [.sl sz clip []] (.bR []):=
 J2 λp cap w=>Go.Proofs.AnyM.slices_Sort_int_none Go.Proofs.Tryz.EE p cap w
end Go.Proofs.YtmaiccmhkmndcaaGreatDoor
namespace Go.Proofs.YtmaiccmhkmndcaaGreatDoor.Of
open Go Go.Sg
theorem EI(sz:Nat)(clip:Bool):aa af 276 [.sl sz clip [],.fn (.func 240) [] []] (.bR []):=by
 intro F w vs hF oS ie;have h0:=ie 0 _ rfl;generalize hv:vs[0]?.getD undef=v at h0;generalize YX:vs[1]?.getD undef=v1;have VX:vs.size=2:=oS
 have EG:∀u,v=u->vs= #[u,v1]:=λu e=>by
  apply Array.ext
  · simp[VX]
  · intro i hi FO
    (have:i=0\/i=1:=by omega);rcases this with rfl|rfl
    · rw[dh hi] at hv
      simpa[e] using hv
    · rw[dh hi] at YX
      simpa using YX
 have core:∀p cap,v= .slice p 0 cap->Calls af 276 vs w λe w'=>∃v F',e= .returned v/\dO F aN.no w F' aN.no w'/\(∀b,F' b->b<w'.heap.size)/\RP F' w' v (.bR []):=λp cap e=>by
  rw[EG _ e];refine fI (Go.Proofs.AnyF.slices_SortFunc_none Go.Proofs.Tryz.LL p cap v1 w) λe w' he=>?_;obtain⟨rfl,rfl⟩:=he;exact⟨_,F,rfl,dO.refl _ _ _,hF.lt,.bR _ _ rfl (by simp)⟩
 cases h0 with
 |r5 a cap _ _ _ _ _=>exact core _ _ rfl
 |sl b off len cap _ _ _ _ _ h2=>subst h2;exact core _ _ rfl
def RsP(n:Nat)(r:PV):Prop:=∃l:List St,l.length<=n/\r= .sl 2 false (l.map eS)
theorem BR(M:Mp)(hM:M.length<1000000):cB af 241 [.fn (.func 277) [] [.ro [NB M]],.fn (.func 240) [] []] (RsP M.length):=by
 have q0:=EI 0 true;refine cB.e Tryz.func241 12 [.tmp 4] [0,1,4,5] ?_
 repeat' (first|exact fg|(refine stx ?_;first|exact bW _|refine aE ?_)|((fail_if_success refine ft ?_);(conv=>whnf)<;>(first|exact fh|(refine fJ.r (gL.n (gq.n (iG.m ?_)));refine pH [] (Al M hM) (by kernel_rfl) rfl rfl (by simp) (by simp) (by simp) (λ_ _=>rfl) ?_;rintro r dX ⟨l,hl,rfl,rfl⟩;rcases l with _|⟨a,r⟩<;>refine⟨by simp,by simp[oH,keys],?_⟩)|refine str ?_|refine Br.dec (λhc=>?_) λhc=>?_|refine Br.mk (λhc=>?_) λhc=>?_|exact PV.ao|refine PV.ai ?_ ?_|refine ae ?_ ?_|refine aD λx hx=>?_|refine aE ?_|refine bX (λhn=>?_) ?_|exact fv|refine bS λaZ=>?_|refine al ?_ ?_|refine fu ?_|fail)))<;>(try exact fi)
 all_goals first
 |(refine dF q0 (by kernel_rfl) rfl ?_
   refine cb ?_
   all_goals(refine⟨_,⟨[],de _,rfl⟩,?_⟩;conv=>whnf)
   all_goals exact aP.mk (PV.le_nil _ _ _))
 |(obtain⟨a',r',e⟩:∃a' r',xq (a::r)=a'::r':=by
    have h:=wo (a::r)
    cases hh:xq (a::r) with
    |nil=>rw[hh] at h;simp at h
    |cons x y=>exact⟨x,y,rfl⟩
   (have oI:r'.length=r.length:=by have h:=wo (a::r);rw[e] at h;simpa using h);have q:=EH (a::r) (iz _) (by omega);rw[e] at q;(have q:aM af 276 1 [(0,.row 2 (eS a::r.map eS))] [.bo 0 2 0 ((r.map eS).length+1),.p (.fn (.func 240) [] [])] (.p (.bR [])) [(0,.row 2 (eS a'::r'.map eS))]:=by rw[ak];exact q);refine bM (kI [128] q) ?_
   all_goals(refine⟨_,⟨a'::r',by simp at hl ⊢;omega,rfl⟩,?_⟩;conv=>whnf)
   all_goals
    refine⟨⟨rfl,iz _,by simp[oI]⟩,?_⟩;show aP (PV.sl 2 false (et ((bZ eS r).length+1) (eo 0 (eS a'::bZ eS r')))) _;rw[da,bN (by simp[oI])]
    exact aP.refl _)
end Go.Proofs.YtmaiccmhkmndcaaGreatDoor.Of
namespace Go.Proofs.YtmaiccmhkmndcaaGreatDoor
open Go Go.Sg
namespace Of
theorem ga(l:List Ap)(a t:Int)(hl:l.length<1000000):aa af 196 [eL l,eI a,eI t] (NB (foldM a t l)):=by
 have q:=JY l a t hl;refine aa.e Tryz.func196 12 [.tmp 6] [0,1,2,4,5,6,7] ?_;exact bM (kZ q) trivial
def Qe(l:List Ap)(o p a t:Int):Int×Int×Bool:=match bn (o,p) (foldM a t l) with|none=>(0,0,false)|some x=>if x.gone then(0,0,false) else(x.no,x.wt,true)
theorem HO(l:List Ap)(o p a t:Int)(hl:l.length<1000000)(hz:aJ l=0)(ho:bh 0 31 o=true)(hp:bh 0 63 p=true)(ha:bh 0 TM a=true)(ht:bh 0 TM t=true):aa af 191 [eL l,eI o,eI p,eI a,eI t] (.bR [eI (Qe l o p a t).1,eI (Qe l o p a t).2.1,.bool (Qe l o p a t).2.2,eI 0]):=by
 have q1:=bm l hl;rw[hz] at q1;have q2:=pG o;rw[ho] at q2;have q3:=ke p;rw[hp] at q3;have q4:=dU a;rw[ha] at q4;have q5:=dU t;rw[ht] at q5;have q6:=ga l a t hl;unfold Qe;generalize foldM a t l=M at *;refine aa.e Tryz.func191 60 [.tmp 10,.tmp 11,.tmp 12,.tmp 13] [0,1,2,3,4,10,11,12,13,14,15,19,38,55] ?_;refine Yu (kR HK) q1 q2 q3 q4 q5 q6 (kO (bj eA nu (o,p) M)) (ae (λz hz=>ae (λhc=>?_) λhc=>?_) λhz=>?_)
 all_goals(refine aP.of ?_;simp_all<;>rfl)
def wdH(n k:Nat)(x:List PV):Prop:=k<n/\ ∃s:St,x=[eS s]
theorem EJ(M:Mp)(o:Int)(hM:M.length<1000000):mT af 239 [.ro [NB M],.ro [eI o]] [] (wdH M.length) (· <=M.length):=by
 have q1:=JV M;have q2:=BR M hM;refine mT.e Tryz.func239 40 Uj ?_;intro G hG Sv
 repeat' (first|exact fg|(refine stx ?_;first|exact bW _|refine aE ?_)|(refine kq ?_;first|refine fR q1 ?_)|((fail_if_success refine ft ?_);(conv=>whnf)<;>(first|exact fh|(refine fJ.r (gL.n (gq.n (iG.n ?_)));refine nN q2 (by kernel_rfl) rfl ?_;refine ae (PV.ai (PV.le_refl _) (PV.ai (PV.le_refl _) PV.ao)) ?_;rintro r ⟨L,hL,rfl⟩)|refine str ?_|refine Br.dec (λhc=>?_) λhc=>?_|refine Br.mk (λhc=>?_) λhc=>?_|exact PV.ao|refine PV.ai ?_ ?_|refine ae ?_ ?_|refine aD λx hx=>?_|refine aE ?_|refine bX (λhn=>?_) ?_|exact fv|refine bS λaZ=>?_|refine al ?_ ?_|refine fu ?_|fail)))<;>(try exact fi)
 all_goals
  refine bY.bq (α:={x:Nat×Nat // x.1<=L.length/\x.2<=x.1/\x.2<=G.stop}) mixed Uj (λx=>[(13,.p (eI x.1.1))]) (λ_=>[]) (λx=>x.1.2) (λx=>L.length-x.1.1) ⟨(0,0),by omega,by omega,by omega⟩ ?_ ?_
  · exact aG trivial
  rintro⟨⟨i,y⟩,hi,hy,hs⟩;have hi:i<=L.length:=hi;have hy:y<=i:=hy;have hs:y<=G.stop:=hs
  cases hx:L[i]? with
  |none=>
   have dD:L.length<=i:=List.getElem?_eq_none_iff.1 hx;(have bV:¬((i:Int)<((L.map eS).length:Int)):=by rw[ak];omega);refine bM (kN bV) (λhc=>?_)
   all_goals(refine Or.inr ?_;show y<=M.length;omega)
  |some x=>
   have aC:i<L.length:=(aq.1 hx).1;have ay:((i:Int)<((L.map eS).length:Int)):=by rw[ak];omega
   repeat' (first|exact fg|(refine stx ?_;first|exact bW _|refine aE ?_)|((fail_if_success refine ft ?_);(conv=>whnf)<;>(first|exact fh|refine np ay λhc=>?_|refine dR hx ?_|refine jr.of (bj eA nu x M) (λz hz=>?_) (λhz=>?_)|(refine fJ.r (gL.n (gq.y ?_));(conv=>whnf);refine⟨hG,rfl,hs,[eS (z.ia,z.wt)],rfl,by(rw[Sv];exact⟨by(show y<M.length);omega,(z.ia,z.wt),rfl⟩),?_⟩)|(refine fJ.r (gL.n (gq.y ?_));(conv=>whnf);refine⟨hG,rfl,hs,[eS (0,0)],rfl,by(rw[Sv];exact⟨by(show y<M.length);omega,(0,0),rfl⟩),?_⟩)|refine str ?_|refine Br.dec (λhc=>?_) λhc=>?_|refine Br.mk (λhc=>?_) λhc=>?_|exact PV.ao|refine PV.ai ?_ ?_|refine ae ?_ ?_|refine aD λx hx=>?_|refine aE ?_|refine bX (λhn=>?_) ?_|exact fv|refine bS λaZ=>?_|refine al ?_ ?_|rw[HK]|refine fu ?_|fail)))<;>(try exact fi)
   all_goals first
   |(have hc:¬ y≠G.stop:=by assumption
     refine Or.inl ?_;show y+1=G.stop+1
     omega)
   |(have hc:y≠G.stop:=by assumption
     refine⟨⟨(i+1,y+1),(show i+1<=L.length by omega),(show y+1<=i+1 by omega),(show y+1<=G.stop by omega)⟩,(by show L.length-(i+1)<L.length-i;omega),?_⟩;exact aG trivial
     done)
   |(refine⟨⟨(i+1,y),(show i+1<=L.length by omega),(show y<=i+1 by omega),hs⟩,(by show L.length-(i+1)<L.length-i;omega),?_⟩
     exact aG trivial
     done)
theorem BS(M:Mp)(o:Int):aa af 195 [NB M,eI o] (.fn (.func 239) [] [.ro [NB M],.ro [eI o]]):=by
 refine aa.e Tryz.func195 6 [.tmp 4] [0,1,2,3,4] ?_;exact cb trivial
theorem BT(M:Mp)(o:Int)(hM:M.length<1000000):dC af 238 0 [] [.p (.sl 0 true []),.p (.fn (.func 239) [] [.ro [NB M],.ro [eI o]])] (Rs M.length):=by
 have gh:=EJ M o hM;refine dC.e Tryz.func238 13 [.tmp 4] [0,1,2,4,5,6,7] ?_;refine cb ?_;refine bY.Jn mixed gh (by kernel_rfl) rfl [0,1,2,4,5,6,7] M.length [0] (λk hp nx=>∃l:List St,l.length=k/\hp=[(0,.cells [oV 1 2 (l.map eS)])]++oH 1 2 (l.map eS)/\nx=192) ⟨[],rfl,rfl,rfl⟩ (gN rfl) (by simp) (by simp) (λk x hp nx hx Fs hI=>?_) (λk hp nx Fs hF hI=>?_)
 · obtain⟨hk,s,rfl⟩:=hx
   obtain⟨l,rfl,rfl,rfl⟩:=hI;refine⟨rfl,?_⟩
   cases l with
   |nil=>
    refine cb (λaZ=>?_)
    all_goals
     refine⟨_,_,⟨[s],rfl,rfl,rfl⟩,?_⟩;exact nq trivial
   |cons a r=>
    (have oI:r.length+1<=1000000:=by simp at Fs;omega);show aw _ _ _ ⟨_,[(0,.cells [.bo 1 2 0 ((r.map eS).length+1)]),(1,.row 2 (eS a::r.map eS))],_,_⟩ _;rw[ak];refine cb ?_
    all_goals
     refine⟨_,_,⟨a::(r++[s]),by simp,rfl,rfl⟩,?_⟩;refine nq ?_;show eS a::r.map eS++[eS s]=_;simp
 · obtain⟨l,hl,rfl,rfl⟩:=hI
   cases l with
   |nil=>
    refine cb ?_
    all_goals
     refine⟨_,_,⟨[],de _,rfl,rfl⟩,?_⟩;(conv=>whnf);exact nr [] [] trivial
   |cons a r=>
    have hl:(a::r).length=k:=hl;refine cb ?_
    all_goals
     refine⟨_,_,⟨a::r,by omega,rfl,rfl⟩,?_⟩;(conv=>whnf);exact nr [] [(0,1)] trivial
theorem Au(M:Mp)(o:Int)(hM:M.length<1000000):dC af 194 0 [] [.p (.fn (.func 239) [] [.ro [NB M],.ro [eI o]])] (Rs M.length):=by
 refine dC.e Tryz.func194 5 [.tmp 2] [0,2] ?_
 repeat' (first|exact fg|(refine stx ?_;first|exact bW _|refine aE ?_)|((fail_if_success refine ft ?_);(conv=>whnf)<;>(first|exact fh|(refine fJ.r (gL.n (gq.n (iG.m ?_)));refine pH [] (BT M o hM) (by kernel_rfl) rfl rfl (by simp) (by simp) (by simp) (λ_ _=>rfl) ?_;rintro r dX ⟨l,hl,rfl,rfl⟩;rcases l with _|⟨a,r⟩<;>refine⟨by simp,by simp[oH,keys],?_⟩)|refine str ?_|refine Br.dec (λhc=>?_) λhc=>?_|refine Br.mk (λhc=>?_) λhc=>?_|exact PV.ao|refine PV.ai ?_ ?_|refine ae ?_ ?_|refine aD λx hx=>?_|refine aE ?_|refine bX (λhn=>?_) ?_|exact fv|refine bS λaZ=>?_|refine al ?_ ?_|refine fu ?_|fail)))<;>(try exact fi)
 all_goals first
 |(refine⟨_,_,⟨a::r,hl,rfl,rfl⟩,?_⟩
   conv=>whnf
   exact nr [] [(0,128)] trivial)
 |(refine⟨_,_,⟨[],de _,rfl,rfl⟩,?_⟩
   conv=>whnf
   exact nr [] [] trivial)
def HlP(n:Nat)(r:PV):Prop:=∃l:List St,l.length<=n/\r= .bR [.sl 2 false (l.map eS),eI 0]
theorem BU(l:List Ap)(o a t:Int)(hl:l.length<1000000)(hz:aJ l=0)(ho:bh 0 31 o=true)(ha:bh 0 TM a=true)(ht:bh 0 TM t=true)(hM:(foldM a t l).length<1000000):cB af 157 [eL l,eI o,eI a,eI t] (HlP (foldM a t l).length):=by
 have q1:=bm l hl;rw[hz] at q1;have q2:=pG o;rw[ho] at q2;have q4:=dU a;rw[ha] at q4;have q5:=dU t;rw[ht] at q5;have q6:=ga l a t hl;generalize foldM a t l=M at *;have q7:=BS M o;refine cB.e Tryz.func157 35 [.tmp 8,.tmp 9] [0,1,2,3,8,9,13,27] ?_
 repeat' (first|exact fg|(refine stx ?_;first|exact bW _|refine aE ?_)|(refine kq ?_;first|refine fR q1 ?_|refine fR q2 ?_|refine fR q4 ?_|refine fR q5 ?_|refine fR q6 ?_|refine fR q7 ?_)|((fail_if_success refine ft ?_);(conv=>whnf)<;>(first|exact fh|(refine fJ.r (gL.n (gq.n (iG.m ?_)));refine pH [] (Au M o hM) (by kernel_rfl) rfl rfl (by simp) (by simp) (by simp) (λ_ _=>rfl) ?_;rintro r dX ⟨L,hL,rfl,rfl⟩;rcases L with _|⟨b,r⟩<;>refine⟨by simp,by simp[oH,keys],?_⟩)|refine str ?_|refine Br.dec (λhc=>?_) λhc=>?_|refine Br.mk (λhc=>?_) λhc=>?_|exact PV.ao|refine PV.ai ?_ ?_|refine ae ?_ ?_|refine aD λx hx=>?_|refine aE ?_|refine bX (λhn=>?_) ?_|exact fv|refine bS λaZ=>?_|refine al ?_ ?_|refine fu ?_|fail)))<;>(try exact fi)
 all_goals first
 |(refine⟨_,⟨b::r,hL,rfl⟩,?_⟩
   (conv=>whnf);refine⟨⟨rfl,iz _,by simp⟩,?_⟩;show aP (PV.bR [PV.sl 2 false (et ((bZ eS r).length+1) (eo 0 (eS b::bZ eS r))),_]) _;rw[da,bN (by simp)]
   exact aP.refl _)
 |(refine⟨_,⟨[],de _,rfl⟩,?_⟩
   conv=>whnf
   refine aP.mk (PV.fU (PV.ai (PV.le_nil _ _ _) (PV.ai (PV.le_refl _) PV.ao))))
 |trace_state
end Of
end Go.Proofs.YtmaiccmhkmndcaaGreatDoor
