/- A part of the proof: contracts of the functions that the statement reaches. -/
import Derived.Test.YtmaiccmhkmndcaaGreatDoorChpAQ
import Derived.Test.YtmaiccmhkmndcaaGreatDoorChpAF
import Derived.Test.YtmaiccmhkmndcaaGreatDoorChpAM
import Derived.Test.YtmaiccmhkmndcaaGreatDoorChpAA
set_option linter.unusedSimpArgs false
set_option linter.unusedVariables false
set_option linter.unnecessarySimpa false
set_option maxRecDepth 100000
set_option maxHeartbeats 40000000
open And renaming intro->ae
open Bool renaming and_eq_true->aQ
open Go.IntKind renaming i64->br,u64->eH
open Go.Proofs.Tryz renaming prog->af
open Int renaming toNat->gd,toNat_natCast->dv
open List renaming getElem?_eq_some_iff->aq,getElem?_of_mem->eE,mem_of_getElem?->aO,length_map->ak,getElem?_eq_none_iff->bw,getD->cF,take_add_one->bz,mem_map->aY,getElem?_eq_getElem->aV,take_of_length_le->bN,length_cons->ea,all_eq_true->cG
open Nat renaming le_trans->dW
namespace Go.Proofs.YtmaiccmhkmndcaaGreatDoor
open Go Go.Sg
namespace Pe
open Of
theorem tQ(a b:Int):aa af 206 [eI a,eI b] (.bool (decide (a<b))):=by
 have q:=λa=>bx.iA a;refine aa.e Tryz.func206 17 [.tmp 4] [0,1,4] ?_;exact bM q trivial
 all_goals(refine aP.bool ?_;simp_all)
theorem pJ(a:Int):aa af 287 [eI a] (.bool false):=by
 refine aa.e Tryz.func287 6 [.tmp 2] [0,2] ?_;refine cb ?_
 all_goals exact aP.bool (by simp)
theorem QP(l:List Int)(n:Int)(hl:l.length<1000000)(hs:l.Pairwise (λa b=>a<b)):aa af 273 [dm l,eI n] (.bR [eI (uL id n l),.bool (decide (n∈l))]):=by
 have q2:=pJ;refine aa.e Tryz.func273 54 [.tmp 4,.tmp 5] Ls ?_;refine cb ?_;refine bY.bK (α:={x:Nat×Nat // (x.1<=x.2/\x.2<=l.length)/\(∀j w,j<x.1->l[j]? =some w->w<n)/\(∀j w,x.2<=j->l[j]? =some w->n<=w)}) mixed Ls (λx=>[(7,.p (eI x.1.1)),(8,.p (eI x.1.2))]) (λx=>x.1.2-x.1.1) ⟨(0,l.length),by simp,by intro j w h;exact absurd h (by simp),by intro j w h hw;exact absurd (aq.1 hw).1 (by simp at h;omega)⟩ ?_ ?_
 · exact aG trivial
 rintro⟨⟨a,b⟩,xB,h2,h3⟩;have hb:b<=l.length:=xB.2;have xB:a<=b:=xB.1;have h2:∀j w,j<a->l[j]? =some w->w<n:=h2;have h3:∀j w,b<=j->l[j]? =some w->n<=w:=h3;have q3:=tQ;have hm:=pq a b (by omega)
 have tv:a=b-> ∀x,l[a]? =some x->(n∈l↔x=n):=λe x hx=>by
  constructor
  · intro hn
    obtain⟨j,hj⟩:=eE hn;rcases Nat.lt_trichotomy j a with h|h|h
    · exact absurd (h2 j n h hj) (by omega)
    · subst h;rw[hx] at hj;injection hj
    · have:=tI id hs h hx hj
      have:=h3 a x (by omega) hx;(have h5:x<n:=by assumption);omega
  · intro e;subst e;exact aO hx
 have Zn:a=b->l.length<=a-> ¬ n∈l:=λe hla hn=>by
  obtain⟨j,hj⟩:=eE hn;have:=(aq.1 hj).1;exact absurd (h2 j n (by omega) hj) (by omega)
 have aZ:a=b->uL id n l=a:=λe=>yb id l n a (by omega) h2 (λy hy=>h3 a y (by omega) hy);refine gG q2 q3 (ae (λhc=>ae (ae ?_ ?_) λx hx=>ae (λhc=>ae (ae ?_ ?_) ?_) λhc=>?_) λhc=>ae (λhc x hx=>ae (λhc=>?_) λhc x hx=>?_) λhc=>?_)
 · show 0<=br.wrap ((eH.wrap ((a:Int)+b)).fdiv (2 ^ min (gd 1) eH.bits))
   rw[hm];omega
 · show br.wrap ((eH.wrap ((a:Int)+b)).fdiv (2 ^ min (gd 1) eH.bits))<((l.map eI).length:Int)
   have hc:(a:Int)<(b:Int):=hc;rw[hm,ak];omega
 all_goals first
 |(show -9223372036854775808<=br.wrap ((eH.wrap ((a:Int)+b)).fdiv (2 ^ min (gd 1) eH.bits))+1
   rw[hm];omega)
 |(show br.wrap ((eH.wrap ((a:Int)+b)).fdiv (2 ^ min (gd 1) eH.bits))+1<=9223372036854775807
   rw[hm];omega)
 |(have hab2:(a:Int)<(b:Int):=by assumption
   (have hc:x<n:=by assumption);have hx:l[(br.wrap ((eH.wrap ((a:Int)+b)).fdiv (2 ^ min (gd 1) eH.bits))).toNat]? =some x:=hx;rw[hm,dv] at hx;refine⟨⟨((a+b) / 2+1,b),by show(a+b) / 2+1<=b/\b<=l.length;omega,λj w hj hw=>?_,h3⟩,by show b-((a+b) / 2+1)<b-a;omega,?_⟩
   · have hj:j<(a+b) / 2+1:=hj
     have:=Ek id hs (show j<=(a+b) / 2 by omega) hw hx;have:w<=x:=this;omega
   · refine aG ?_
     exact congrArg (PV.int .i64) (show br.wrap ((eH.wrap ((a:Int)+b)).fdiv (2 ^ min (gd 1) eH.bits))+1=(((a+b) / 2+1:Nat):Int) by rw[hm];omega))
 |(have hab2:(a:Int)<(b:Int):=by assumption
   (have hc:¬ x<n:=by assumption);have hx:l[(br.wrap ((eH.wrap ((a:Int)+b)).fdiv (2 ^ min (gd 1) eH.bits))).toNat]? =some x:=hx;rw[hm,dv] at hx;refine⟨⟨(a,(a+b) / 2),by show a<=(a+b) / 2/\(a+b) / 2<=l.length;omega,h2,λj w hj hw=>?_⟩,by show(a+b) / 2-a<b-a;omega,?_⟩
   · have hj:(a+b) / 2<=j:=hj
     have:=Ek id hs hj hx hw;have:x<=w:=this;omega
   · refine aG ?_
     exact congrArg (PV.int .i64) (show br.wrap ((eH.wrap ((a:Int)+b)).fdiv (2 ^ min (gd 1) eH.bits))=(((a+b) / 2:Nat):Int) by rw[hm]))
 |(have vj:¬(a:Int)<(b:Int):=by assumption
   (have A0:(a:Int)<((l.map eI).length:Int):=by assumption);have sF:l[a]? =some x:=hx;rw[aZ (by omega)]
   first
   |(have hxn:x=n:=by assumption
     rw[decide_eq_true ((tv (by omega) x sF).2 hxn)];exact aP.refl _)
   |(rename_i y0 W0
     have W0:l[a]? =some y0:=W0
     rw[sF] at W0;injection W0 with W0;subst W0
     rw[decide_eq_false (λh=>hc ((tv (by omega) x sF).1 h))];exact aP.refl _))
 |(have vj:¬(a:Int)<(b:Int):=by assumption
   (have A0:¬(a:Int)<((l.map eI).length:Int):=by assumption);rw[ak] at A0
   rw[aZ (by omega),decide_eq_false (Zn (by omega) (by omega))];exact aP.refl _)
 |trace_state
def Wj(H:List (List Of.St)):PV:= .sl 1 false (H.map λl=>.sl 2 false (l.map Of.eS))
def eQ(v:Int)(H:List (List Of.St))(w:List Int):PV:= .agg [eI v,Wj H,dm w]
abbrev cQ(v:Int)(H:List (List Of.St))(w:List Int):List PV:=[eI v,Wj H,dm w]
theorem xy(v:Int)(H:List (List Of.St))(w:List Int)(o:Int):aa af 278 [eQ v H w,eI o] (.fn (.func 290) [] [.ro (cQ v H w),.ro [eI o]]):=by
 refine aa.e Tryz.func278 6 [.tmp 4] [0,1,2,3,4] ?_;exact cb trivial
def QQ(w:List Int)(L:List Of.St):List Of.St:=L.filter λh=>decide (h.1∈w)
theorem AT(v:Int)(H:List (List Of.St))(w:List Int)(o:Nat)(L:List Of.St)(hL:H[o]? =some L)(hl:L.length<1000000)(hH:H.length<1000)(hw:w.length<1000000)(hs:w.Pairwise (λa b=>a<b)):Iter af 290 [.ro (cQ v H w),.ro [eI o]] ((QQ w L).map λh=>[Of.eS h]):=by
 have q:=λn=>QP w n hw hs;have ho:=(aq.1 hL).1;obtain⟨Q,hQ⟩:∃Q:Of.St->Bool,Q=λh=>decide (h.1∈w):=⟨_,rfl⟩;unfold QQ;rw[<-hQ];refine Iter.e Tryz.func290 34 Uo ?_;intro G hG si jM;refine bM (kX hL) ?_;refine bY.bq (α:={i:Nat // i<=L.length/\bF Q L i<=G.stop}) mixed Uo (λi=>[(14,.p (eI i.1))]) (λ_=>[]) (λi=>bF Q L i.1) (λi=>L.length-i.1) ⟨0,by omega,by simp[bF]⟩ ?_ ?_
 · exact aG trivial
 rintro⟨i,hi,X1⟩;have hi:i<=L.length:=hi;have X1:bF Q L i<=G.stop:=X1;have BC:G.xs.length=(L.filter Q).length:=by rw[jM];simp
 cases hx:L[i]? with
 |none=>
  have dD:L.length<=i:=bw.1 hx;(have bV:¬((i:Int)<((L.map Of.eS).length:Int)):=by rw[ak];omega);have e:=mZ Q dD;refine bM (kN bV) (λhc=>?_)
  all_goals(show bF Q L i=min (G.stop+1) ((L.filter Q).map λh=>[Of.eS h]).length;rw[ak];omega)
 |some h=>
  have aC:i<L.length:=(aq.1 hx).1;(have ay:((i:Int)<((L.map Of.eS).length:Int)):=by rw[ak];omega);(have hqh:decide (h.1∈w)=Q h:=by rw[hQ]);have q1:=q h.1;rw[hqh] at q1;refine gg (kY ay) (kX hx) q1 (λhc=>ae (λhc=>ae (ae ?_ ?_) (ae (λhc=>?_) λhc=>?_)) λhc=>?_)
  all_goals first
  |(have hq:Q h=false:=by assumption
    have e:=mn Q hx hq;refine⟨⟨i+1,aC,by show bF Q L (i+1)<=G.stop;omega⟩,by show L.length-(i+1)<L.length-i;omega,?_⟩;refine aG ?_
    exact e)
  |(have hq:Q h=true:=by assumption
    have h1:=(aq.1 (ew Q hx hq)).1
    first
    |(show bF Q L i<G.xs.length
      omega)
    |(show _=List.map AV.p (G.xs.getD (bF Q L i) [])
      have e:G.xs.getD (bF Q L i) []=[Of.eS h]:=by
       rw[jM];simp[cF,ew Q hx hq]
      rw[e];rfl)
    |(have hc:bF Q L i≠G.stop:=by assumption
      have e:=mY Q hx hq;refine⟨⟨i+1,aC,by show bF Q L (i+1)<=G.stop;omega⟩,by show L.length-(i+1)<L.length-i;omega,?_⟩;refine aG ?_
      exact e)
    |(have hc:¬ bF Q L i≠G.stop:=by assumption
      show bF Q L i+1=min (G.stop+1) ((L.filter Q).map λh=>[Of.eS h]).length
      rw[ak];omega))
  |trace_state
structure Tz(H:List (List Of.St))(w:List Int):Prop where
 n:H.length<1000
 wl:w.length<1000000
 s:w.Pairwise (λa b=>a<b)
 l:∀L∈H,L.length<=1000/\ ∀h∈L,1<=h.2/\h.2<=64
def B5(l:List Of.St):Int:=(l.map Prod.snd).sum
theorem Dz{F:List Of.St}{i:Nat}{y:Of.St}(h:F[i]? =some y):B5 (F.take (i+1))=B5 (F.take i)+y.2:=by
 unfold B5;rw[bz,h];simp[List.map_append]
theorem TA(F:List Of.St)(hF:∀y∈F,1<=y.2/\y.2<=64):∀i,0<=B5 (F.take i)/\B5 (F.take i)<=64*(i:Int):=by
 intro i
 induction i with
 |zero=>simp[B5]
 |succ i ih=>
  cases hx:F[i]? with
  |none=>
   (have:F.take (i+1)=F.take i:=by rw[bz,hx];simp);rw[this];omega
  |some y=>
   have:=hF y (aO hx);rw[Dz hx];omega
theorem KD(v:Int)(H:List (List Of.St))(w:List Int)(hH:Tz H w)(x:Ex)(o:Nat)(L:List Of.St)(hL:H[o]? =some L)(hx:x.no=o):aa af 246 [eQ v H w,eW x] (.bool (decide (0<(QQ w L).length))):=by
 have gh:=AT v H w o L hL (by have:=(hH.l L (aO hL)).1;omega) hH.n hH.wl hH.s;have q:=xy v H w o;rw[<-hx] at q gh;generalize QQ w L=F at *
 have jd:∀y∈(F.map λh=>[Of.eS h]),y.length=1:=λy hy=>by
  obtain⟨z,_,rfl⟩:=aY.1 hy;rfl
 refine aa.e Tryz.func246 10 [.cell 4 4] [0,1,2,3,4,8] ?_;refine bM q ?_;refine bY.range mixed gh (by kernel_rfl) rfl [0,1,2,3,4,8] 0 [0,64,128] (λ_=>([(128,.cells [.p (.bool false)]),(64,.cells [.p (eI x.k),.p (eI x.n),.p (eI x.no),.p (.str x.nm),.p (.sl 5 false (x.l.map eX))]),(0,.cells [.p (eI v),.p (Wj H),.p (dm w)])],448)) rfl (gN rfl) (by simp) (by simp) jd (λi hi hm=>?_) (λhm=>?_)
 · rw[ak] at hi
   (have Lu:i=0:=by omega);subst Lu;obtain⟨y,hy⟩:∃y,F[0]? =some y:=⟨_,aV hi⟩;(have du:(F.map λh=>[Of.eS h]).getD 0 []=[Of.eS y]:=by simp[cF,hy]);rw[du,decide_eq_true hi];exact cb trivial
 · rw[ak] at hm
   rw[decide_eq_false (by omega)];exact cb trivial
theorem KE(s:Int)(h:Of.St)(h1:0<=s/\s<=1000000)(h2:1<=h.2/\h.2<=64):aM af 279 1 [(0,.cells [.p (eI s)])] [.p (Of.eS h),.ptr 0 0] (.bR []) [(0,.cells [.p (eI (s+h.2))])]:=by
 refine aM.e Tryz.func279 7 [] [0,1,2] ?_;refine cb ?_
 all_goals(exact nr [] [(0,0)] trivial)
 all_goals exact cW.bR iv.nil
theorem E2(v:Int)(H:List (List Of.St))(w:List Int)(hH:Tz H w)(x:Ex)(o:Nat)(L:List Of.St)(hL:H[o]? =some L)(hx:x.no=o):aa af 247 [eQ v H w,eW x] (.bool (decide (x.n<=B5 (QQ w L)))):=by
 have hLb:=hH.l L (aO hL);have gh:=AT v H w o L hL (by omega) hH.n hH.wl hH.s;have q:=xy v H w o;rw[<-hx] at q gh;have hF:∀h∈QQ w L,1<=h.2/\h.2<=64:=λh hh=>hLb.2 h (List.mem_filter.1 hh).1;have WW:(QQ w L).length<=1000:=dW (List.length_filter_le _ _) hLb.1;generalize QQ w L=F at *
 have jd:∀y∈(F.map λh=>[Of.eS h]),y.length=1:=λy hy=>by
  obtain⟨z,_,rfl⟩:=aY.1 hy;rfl
 refine aa.e Tryz.func247 21 [.tmp 4] [0,1,2,3,4,5,6,7,12,13] ?_;refine bM q ?_;refine bY.range mixed gh (by kernel_rfl) rfl [0,1,2,3,4,5,6,7,12,13] F.length [0,64,192,384] (λk=>([(384,.cells [.fn (.func 279) [] [.ptr 192 0]]),(192,.cells [.p (eI (B5 (F.take k)))]),(64,.cells [.p (eI x.k),.p (eI x.n),.p (eI x.no),.p (.str x.nm),.p (.sl 5 false (x.l.map eX))]),(0,.cells [.p (eI v),.p (Wj H),.p (dm w)])],768)) rfl (gN rfl) (by simp) (by simp) jd (λi hi hm=>?_) (λhm=>?_)
 · rw[ak] at hi
   obtain⟨y,hy⟩:∃y,F[i]? =some y:=⟨_,aV hi⟩;(have du:(F.map λh=>[Of.eS h]).getD i []=[Of.eS y]:=by simp[cF,hy]);rw[du];have cu:=Dz hy;have hb:=TA F hF i;have hyb:=hF y (aO hy);generalize B5 (F.take i)=s at *;have q2:=KE s y (by omega) hyb;refine bM (kI [192] q2) ?_
   try dsimp only
   rw[cu];exact nq trivial
 · have eF:F.take (F.map λh=>[Of.eS h]).length=F:=by rw[ak,List.take_length]
   rw[eF];exact cb trivial
end Pe
namespace Pe
open Of
theorem Wl(l:List Ex):l.map eX=l.map eW:=List.map_congr_left λy _=>uW y
def W3(H:List (List Of.St))(w:List Int)(no:Int):List Of.St:=match H[no.toNat]? with|some L=>QQ w L|none=>[]
section
variable(v:Int)(H:List (List Of.St))(w:List Int)
mutual
def TB:Ex->Bool
 |.mk k n no _ l=>if k=1 then decide (0<(W3 H w no).length) else if k=2 then decide (n<=B5 (W3 H w no)) else if k=3 then decide (n<=((NZ l).countP id:Int)) else(NZ l).getD (if v<=n then 0 else 1) false
def NZ:List Ex->List Bool
 |[]=>[]
 |x::r=>TB x::NZ r
end
theorem AU:∀l,NZ v H w l=l.map (TB v H w)
 |[]=>rfl
 |x::r=>by rw[NZ,AU r];rfl
theorem QR(f:Ex->Bool)(k n no:Int)(s:ByteArray)(l:List Ex)(hl:l.length<=16)(ih:∀y∈l,aa af 199 [eQ v H w,eW y] (.bool (f y))):aa af 248 [eQ v H w,eW (.mk k n no s l)] (.bool (decide (n<=(l.countP f:Int)))):=by
 (have hw:eW (.mk k n no s l)= .agg [eI k,eI n,eI no,.str s,.sl 5 false (l.map eW)]:=by rw[<-Wl];rfl);rw[hw];refine aa.e Tryz.func248 25 [.tmp 4] PU ?_;refine cb ?_;refine bY.bq (α:={i:Nat // i<=l.length}) mixed PU (λi=>[(5,.p (eI ((l.take i.1).countP f:Int))),(11,.p (eI i.1))]) (λ_=>[]) (λ_=>0) (λi=>l.length-i.1) ⟨0,by omega⟩ ?_ ?_
 · exact aG trivial
 rintro⟨i,hi⟩;have hi:i<=l.length:=hi;have sJ:(l.take i).countP f<=i:=dW List.countP_le_length (by rw[List.length_take];omega)
 cases hy:l[i]? with
 |none=>
  have dD:l.length<=i:=bw.1 hy;(have bV:¬((i:Int)<((l.map eW).length:Int)):=by rw[ak];omega);(have eF:(l.take i).countP f=l.countP f:=by rw[bN dD]);rw[<-eF];exact bM (kN bV) trivial
 |some y=>
  have aC:i<l.length:=(aq.1 hy).1;(have ay:((i:Int)<((l.map eW).length:Int)):=by rw[ak];omega);have q:=ih y (aO hy)
  have cu:(l.take (i+1)).countP f=(l.take i).countP f+if f y then 1 else 0:=by
   rw[bz,hy,List.countP_append];simp[List.countP_cons]
  generalize (l.take i).countP f=c at *;refine gg (kY ay) (kX hy) q (λhc=>ae (λhc=>?_) λhc=>?_)
  all_goals
   refine⟨⟨i+1,aC⟩,by show l.length-(i+1)<l.length-i;omega,?_⟩;show di _ _ (kj PU _ _ _ [(5,.p (eI ((l.take (i+1)).countP f:Int))),(11,.p (eI ((i+1:Nat):Int)))] [] _);rw[cu,hc];exact aG trivial
theorem KF(k n no:Int)(s:ByteArray)(a b:Ex)(fa fb:Bool)(ha:aa af 199 [eQ v H w,eW a] (.bool fa))(hb:aa af 199 [eQ v H w,eW b] (.bool fb)):aa af 249 [eQ v H w,eW (.mk k n no s [a,b])] (.bool (if v<=n then fa else fb)):=by
 (have hw:eW (.mk k n no s [a,b])= .agg [eI k,eI n,eI no,.str s,.sl 5 false [eW a,eW b]]:=by rw[<-uW a,<-uW b];rfl);rw[hw];have h0:([eW a,eW b]:List PV)[gd 0]? =some (eW a):=rfl;have h1:([eW a,eW b]:List PV)[gd 1]? =some (eW b):=rfl;refine aa.e Tryz.func249 22 [.tmp 4] [0,1,2,3,4,9] ?_;refine oa (kX h0) (kX h1) ha hb (ae (λhc=>?_) λhc=>?_)
 all_goals(refine aP.bool ?_;simp[hc])
def QS(o:List ByteArray)(x:Ex):Prop:=A9 o x=true/\(∃u,Dk u x=true)/\lT o x=x
theorem QT(s:ByteArray):∀(l:List ByteArray) (n:Nat),wa l s n<((n+l.length:Nat):Int)
 |[],n=>by rw[wa];simp;omega
 |y::r,n=>by
  rw[wa];split
  · simp only[ea];omega
  · have:=QT s r (n+1)
    simp only[ea] at *;omega
theorem E3(o:List ByteArray)(hH:Tz H w)(ho:H.length=o.length):∀x,QS o x->aa af 199 [eQ v H w,eW x] (.bool (TB v H w x)):=by
 refine Ex.ind λx ih hx=>?_;obtain⟨k,n,no,s,l⟩:=x;obtain⟨h1,⟨u,h2⟩,h3⟩:=hx;have ih:∀y∈l,QS o y->aa af 199 [eQ v H w,eW y] (.bool (TB v H w y)):=ih
 have vA:∀y∈l,QS o y:=λy hy=>by
  rw[A9,aQ,Af] at h1;rw[Dk,aQ,uX] at h2;rw[lT,uY] at h3;injection h3 with _ _ _ _ h4;refine⟨cG.1 h1.2 y hy,⟨u,cG.1 h2.1 y hy⟩,?_⟩;have:=List.map_inj_left.1 (h4.trans (List.map_id l).symm) y hy;exact this
 have Vs:=λy hy=>ih y hy (vA y hy)
 have hk:k=1\/k=2\/(k=3/\l.length<=16)\/(k=4/\l.length=2):=by
  rw[Dk,aQ] at h2;have:=h2.2;split at this
  · omega
  · split at this
    · omega
    · split at this
      · simp at this;omega
      · split at this
        · simp at this;omega
        · cases this
 have bV:k=1\/k=2->∃L,H[no.toNat]? =some L/\((no.toNat:Nat):Int)=no:=λhk=>by
  rw[A9,aQ] at h1;rw[lT] at h3;injection h3 with _ _ h4;rw[if_pos hk] at h4
  have h5:0<=xf o s:=by
   have:=h1.1;rcases hk with rfl|rfl<;>simpa using this
  have h6:=QT s o 0;unfold xf at h4 h5;exact⟨_,aV (by omega),by omega⟩
 rw[TB];rcases hk with rfl|rfl|⟨rfl,hl⟩|⟨rfl,hl⟩
 · obtain⟨L,hL,hn⟩:=bV (.inl rfl)
   have q:=KD v H w hH (.mk 1 n no s l) no.toNat L hL hn.symm;(have e:W3 H w no=QQ w L:=by unfold W3;rw[hL]);rw[if_pos rfl,e];refine aa.e Tryz.func199 14 [.tmp 4] Lo ?_;exact bM q trivial
 · obtain⟨L,hL,hn⟩:=bV (.inr rfl)
   have q:=E2 v H w hH (.mk 2 n no s l) no.toNat L hL hn.symm;(have e:W3 H w no=QQ w L:=by unfold W3;rw[hL]);rw[if_neg (by decide),if_pos rfl,e];refine aa.e Tryz.func199 14 [.tmp 4] Lo ?_;exact bM q trivial
 · have q:=QR v H w (TB v H w) 3 n no s l hl Vs
   rw[if_neg (by decide),if_neg (by decide),if_pos rfl,AU,List.countP_map];refine aa.e Tryz.func199 14 [.tmp 4] Lo ?_;exact bM q trivial
 · obtain⟨a,b,rfl⟩:∃a b,l=[a,b]:=by
    match l,hl with
    |[a,b],_=>exact⟨a,b,rfl⟩
   have q:=KF v H w 4 n no s a b _ _ (Vs a (by simp)) (Vs b (by simp))
   have e:(NZ v H w [a,b]).getD (if v<=n then 0 else 1) false=if v<=n then TB v H w a else TB v H w b:=by
    rw[AU];split<;>rfl
   rw[if_neg (by decide),if_neg (by decide),if_neg (by decide),e];refine aa.e Tryz.func199 14 [.tmp 4] Lo ?_;exact bM q trivial
end
end Pe
namespace Pe
open Of
def Dx:Int->List Int->Bool
 |_,[]=>true
 |m,x::r=>(!decide (x<=m)&& !decide (64<=x))&&Dx x r
theorem yh:∀(l:List Int) (m:Int),Dx m l=true->l.Pairwise (λa b=>a<b)/\ ∀x∈l,m<x
 |[],_,_=>⟨.nil,by simp⟩
 |x::r,m,h=>by
  rw[Dx,aQ] at h;obtain⟨h1,h2⟩:=yh r x h.2;(have h3:m<x:=by have:=h.1;simp at this;omega);refine⟨List.pairwise_cons.2 ⟨h2,h1⟩,λy hy=>?_⟩;rcases List.mem_cons.1 hy with rfl|hy
  · exact h3
  · have:=h2 y hy;omega
def xz(l:List Int):Nat->Int
 |0=> -1
 |i+1=>l.getD i 0
theorem DC(l:List Int)(hl:l.length<1000000):aa af 198 [dm l] (.bool (Dx (-1) l)):=by
 obtain⟨R,hR⟩:∃R,R=Dx (-1) l:=⟨_,rfl⟩;rw[<-hR];refine aa.e Tryz.func198 21 [.tmp 2] PO ?_;refine cb ?_;refine bY.bK (α:={i:Nat // i<=l.length/\Dx (xz l i) (l.drop i)=R}) mixed PO (λi=>[(3,.p (eI (xz l i.1))),(8,.p (eI i.1))]) (λi=>l.length-i.1) ⟨0,by omega,hR.symm⟩ ?_ ?_
 · exact aG trivial
 rintro⟨i,hi,hq⟩;have hi:i<=l.length:=hi;have hq:Dx (xz l i) (l.drop i)=R:=hq
 cases hx:l[i]? with
 |none=>
  have dD:l.length<=i:=bw.1 hx;(have bV:¬((i:Int)<((l.map eI).length:Int)):=by rw[ak];omega);rw[List.drop_eq_nil_of_le dD,Dx] at hq;subst hq;exact bM (kN bV) trivial
 |some x=>
  have aC:i<l.length:=(aq.1 hx).1;(have ay:((i:Int)<((l.map eI).length:Int)):=by rw[ak];omega);(have hd:l.drop i=x::l.drop (i+1):=by rw[List.drop_eq_getElem_cons aC,(aq.1 hx).2]);(have hls:xz l (i+1)=x:=by simp[xz,cF,hx]);rw[hd,Dx] at hq;refine gG (kY ay) (kX hx) (λhc=>ae (λhc=>?_) λhc=>ae (λhc=>?_) λhc=>?_)
  all_goals first
  |(have h1:x<=xz l i:=by assumption
    rw[decide_eq_true h1] at hq
    exact aP.bool hq)
  |(have h1:(64:Int)<=x:=by assumption
    rw[decide_eq_true h1,Bool.not_true,Bool.and_false] at hq
    exact aP.bool hq)
  |(have h1:¬ x<=xz l i:=by assumption
    (have h2:¬(64:Int)<=x:=by assumption);rw[decide_eq_false h1,decide_eq_false h2] at hq;refine⟨⟨i+1,aC,by rw[hls];exact hq⟩,by show l.length-(i+1)<l.length-i;omega,?_⟩;show di _ _ (kj PO _ _ _ [(3,.p (eI (xz l (i+1)))),(8,.p (eI ((i+1:Nat):Int)))] _ _);rw[hls]
    exact aG trivial)
  |trace_state
def xU(n:Nat):List Int->AV
 |[]=>.p (.sl 0 true [])
 |a::r=>.bo n 1 0 (r.length+1)
def DD(n:Nat):List Int->ab
 |[]=>[]
 |a::r=>[(n,.row 1 ((a::r).map eI))]
def RtP(H:List (List Of.St))(n:Int)(r:PV):Prop:=∃b:Bool,r= .bool b/\(b=true->(H.length:Int)=n/\ ∀L∈H,∀h∈L,1<=h.2/\h.2<=64)
theorem cV(H:List (List Of.St))(n:Int)(hH:H.length<1000)(hL:∀L∈H,L.length<=1000):cB af 197 [Wj H,eI n] (RtP H n):=by
 refine cB.e Tryz.func197 44 [.tmp 4] PN ?_;refine cb ?_;refine bY.bq (α:={i:Nat // i<=H.length/\ ∀L∈H.take i,∀h∈L,1<=h.2/\h.2<=64}) mixed PN (λi=>[(12,.p (eI i.1))]) (λ_=>[]) (λ_=>0) (λi=>H.length-i.1) ⟨0,by omega,by simp⟩ ?_ ?_
 · exact aG trivial
 rintro⟨i,hi,hq⟩;have hi:i<=H.length:=hi;have hq:∀L∈H.take i,∀h∈L,1<=h.2/\h.2<=64:=hq
 cases hx:H[i]? with
 |none=>
  have dD:H.length<=i:=bw.1 hx;(have bV:¬((i:Int)<((H.map λl=>PV.sl 2 false (l.map Of.eS)).length:Int)):=by rw[ak];omega);rw[bN dD] at hq;refine bM (kN bV) (λhc=>?_)
  all_goals
   refine⟨_,⟨decide ((((H.map λl=>PV.sl 2 false (l.map Of.eS)).length:Nat):Int)=n),rfl,λh=>⟨?_,hq⟩⟩,?_⟩
   · have:=of_decide_eq_true h
     rwa[ak] at this
   · conv=>whnf
     exact aP.refl _
 |some L=>
  have aC:i<H.length:=(aq.1 hx).1;(have ay:((i:Int)<((H.map λl=>PV.sl 2 false (l.map Of.eS)).length:Int)):=by rw[ak];omega);have Qf:=hL L (aO hx)
  have cu:∀L'∈H.take (i+1),L'∈H.take i\/L'=L:=λL' h=>by
   rw[bz,hx] at h;simpa using h
  refine gG (kY ay) (kX hx) (λhc=>?_);refine bY.bq (α:={p:Nat×List Int // p.1<=L.length/\p.2.length=p.1/\ ∀h∈L.take p.1,1<=h.2/\h.2<=64}) mixed PN (λp=>[(7,xU 1 p.1.2),(18,.p (eI p.1.1))]) (λp=>DD 1 p.1.2) (λ_=>0) (λp=>L.length-p.1.1) ⟨(0,[]),by simp,rfl,by simp⟩ ?_ ?_
  · exact aG trivial
  rintro⟨⟨j,N⟩,hj,hN,Zo⟩;have hj:j<=L.length:=hj;have hN:N.length=j:=hN;have Zo:∀h∈L.take j,1<=h.2/\h.2<=64:=Zo
  cases hy:L[j]? with
  |none=>
   have Tj:L.length<=j:=bw.1 hy;(have NN:¬((j:Int)<((L.map Of.eS).length:Int)):=by rw[ak];omega);have hqL:∀h∈L,1<=h.2/\h.2<=64:=λh hh=>Zo h (by rw[bN Tj];exact hh);have q:=DC N (by omega)
   cases N with
   |nil=>
    refine gG (kN NN) (kZ q) (λhc=>?_)
    all_goals first
    |(refine⟨_,⟨false,rfl,λh=>by cases h⟩,?_⟩;(conv=>whnf);exact aP.refl _)
    |(refine⟨⟨i+1,aC,λL' h' h hh=>?_⟩,by show H.length-(i+1)<H.length-i;omega,?_⟩
      · rcases cu L' h' with h1|e
        · exact hq L' h1 h hh
        · rw[e] at hh;exact hqL h hh
      · exact aG trivial)
    |trace_state
   |cons a r=>
    have Qp:dm (a::r)= .sl 1 false (List.take (r.length+1) (List.drop 0 ((a::r).map eI))):=by
     rw[List.drop_zero,bN (by simp)];rfl
    rw[Qp] at q;refine gg (kN NN) (kF 12 [(7,false)]) q (λhc=>ae (λhc=>?_) λhc=>?_)
    all_goals first
    |(refine⟨_,⟨false,rfl,λh=>by cases h⟩,?_⟩;(conv=>whnf);exact aP.refl _)
    |(refine⟨⟨i+1,aC,λL' h' h hh=>?_⟩,by show H.length-(i+1)<H.length-i;omega,?_⟩
      · rcases cu L' h' with h1|e
        · exact hq L' h1 h hh
        · rw[e] at hh;exact hqL h hh
      · exact aG trivial)
  |some h=>
   have Aj:j<L.length:=(aq.1 hy).1;have AG:((j:Int)<((L.map Of.eS).length:Int)):=by rw[ak];omega
   have ur:∀h'∈L.take (j+1),h'∈L.take j\/h'=h:=λh' hh=>by
    rw[bz,hy] at hh;simpa using hh
   cases N with
   |nil=>
    refine gG (kY AG) (kX hy) (λhc=>ae (λhc=>?_) λhc=>ae (λhc=>?_) λhc aZ=>?_)
    all_goals first
    |(refine⟨_,⟨false,rfl,λh=>by cases h⟩,?_⟩;(conv=>whnf);exact aP.refl _)
    |(have k1:¬ h.2<1:=by assumption
      (have k2:¬(64:Int)<h.2:=by assumption);refine⟨⟨(j+1,[h.1]),Aj,(show[h.1].length=j+1 by rw[<-hN];rfl),λh' hh=>?_⟩,by show L.length-(j+1)<L.length-j;omega,?_⟩
      · rcases ur h' hh with h1|rfl
        · exact Zo h' h1
        · omega
      · exact aG trivial)
    |trace_state
   |cons a r=>
    (have oI:r.length+1<=1000:=by simp at hN;omega);refine gG (kY AG) (kX hy) (λhc=>ae (λhc=>?_) λhc=>ae (λhc=>?_) λhc=>?_)
    all_goals first
    |(refine⟨_,⟨false,rfl,λh=>by cases h⟩,?_⟩;(conv=>whnf);exact aP.refl _)
    |(have k1:¬ h.2<1:=by assumption
      (have k2:¬(64:Int)<h.2:=by assumption);refine⟨⟨(j+1,a::(r++[h.1])),Aj,(show(a::(r++[h.1])).length=j+1 by rw[<-hN];simp),λh' hh=>?_⟩,by show L.length-(j+1)<L.length-j;omega,?_⟩
      · rcases ur h' hh with h1|rfl
        · exact Zo h' h1
        · omega
      · exact aG trivial
        all_goals(show(a::r).map eI++[eI h.1]=_;simp))
    |trace_state
def PmP(r:PV):Prop:=∃(b:Bool) (e:Int),r= .bR [.bool b,eI e]
theorem B6(p:Po)(hp:oL p)(hz:wg p=0)(kd v:Int)(H:List (List Of.St))(w:List Int)(hH:H.length<1000)(hL:∀L∈H,L.length<=1000)(hw:w.length<1000000):cB af 158 [tM p,eI kd,eI v,Wj H,dm w] PmP:=by
 have q1:=u3 p hp hz;have q2:=cV H ((p.cx.map eS).length:Nat) hH hL;have q3:=DC w hw;obtain⟨h1,h2⟩:=oN hz
 have hrs:∀(i:Nat) (x:Ru),p.rules[i]? =some x->QS p.cx x.ex:=λi x hx=>by
  have ku:=aO hx;unfold Ht at h1;split at h1
  · split at h1
    · rename_i h3
      split at h1
      · rename_i h4
        simp only[Ev,aQ] at h3;simp only[LI,aQ] at h4;simp only[VP,aQ] at h2;refine⟨cG.1 h3.2.2.2.1 x ku,⟨true,?_⟩,?_⟩
        · have:=cG.1 h4.2.2.2.2.1 _ (aO (nf hx))
          simp only[we,aQ] at this;exact this.2.2.2
        · have:=cG.1 h2.2 _ (aO (nf hx))
          simp only[Oh,aQ] at this;exact JN _ _ this.2
      · cases h1
    · cases h1
  · cases h1
 have oI:p.rules.length=p.kinds.length:=by
  unfold Ht at h1;split at h1
  · split at h1
    · split at h1
      · rename_i h4
        simp only[LI,aQ,decide_eq_true_eq] at h4;exact h4.2.1
      · cases h1
    · cases h1
  · cases h1
 have zm:=hp.k;clear h1 h2;obtain⟨nm,ks,os,rs,ch,md⟩:=p;have hs:tM (Po.mk nm ks os rs ch md)= .agg [.str nm,gV ks,gV os,.sl 8 false (rs.map ns),eI ch.k,eI ch.n,eI ch.no,.str ch.nm,.sl 5 false (ch.l.map eX),eI md]:=rfl;rw[hs] at q1 ⊢;have oI:rs.length=ks.length:=oI;have zm:ks.length<=20:=zm;have hrs:∀(i:Nat) (x:Ru),rs[i]? =some x->QS os x.ex:=hrs;refine cB.e Tryz.func158 58 [.tmp 10,.tmp 11] [0,1,2,3,4,5,10,11,12,16,18,36,43] ?_
 repeat' (first|exact fg|(refine stx ?_;first|exact bW _|refine aE ?_)|(refine kq ?_;first|refine fR q1 ?_|refine fR q3 ?_)|((fail_if_success refine ft ?_);(conv=>whnf)<;>(first|exact fh|(refine fJ.r (gL.n (gq.n (iG.n ?_)));refine nN q2 (by kernel_rfl) rfl ?_;refine ae (PV.ai (PV.le_refl _) (PV.ai (PV.le_refl _) PV.ao)) ?_;rintro r ⟨b,rfl,hb⟩)|refine str ?_|refine Br.dec (λhc=>?_) λhc=>?_|refine Br.mk (λhc=>?_) λhc=>?_|exact PV.ao|refine PV.ai ?_ ?_|refine ae ?_ ?_|refine aD λx hx=>?_|refine aE ?_|refine bX (λhn=>?_) ?_|exact fv|refine bS λaZ=>?_|refine al ?_ ?_|refine fu ?_|fail)))<;>(try exact fi)
 all_goals first
 |(refine⟨_,⟨false,1,rfl⟩,?_⟩;(conv=>whnf);exact aP.refl _)
 |(refine⟨_,⟨false,210,rfl⟩,?_⟩;(conv=>whnf);exact aP.refl _)
 |((with_reducible show(_:Int)<_);simp only[ak] at *;omega)
 |skip
 (have FL:b=true:=by assumption);obtain⟨Fm,wF⟩:=hb FL;(have Fm:(H.length:Int)=(os.length:Int):=by rw[ak] at Fm;exact Fm);(have hokw:Dx (-1) w=true:=by assumption);have hOk:Tz H w:=⟨hH,hw,(yh w (-1) hokw).1,λL h=>⟨hL L h,wF L h⟩⟩;have q4:=E3 v H w os hOk (by omega) x.ex (hrs _ x hx);refine dF q4 (by kernel_rfl) rfl ?_;refine cb ?_
 all_goals(refine⟨_,⟨TB v H w x.ex,0,rfl⟩,?_⟩;(conv=>whnf);exact aP.refl _)
end Pe
end Go.Proofs.YtmaiccmhkmndcaaGreatDoor
