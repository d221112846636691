/- A part of the proof: contracts of the functions that the statement reaches. -/
import Derived.Test.YtmaiccmhkmndcaaGreatDoorChpAM
import Derived.Test.YtmaiccmhkmndcaaGreatDoorChpAP
import Derived.Test.YtmaiccmhkmndcaaGreatDoorChpAA
set_option linter.unusedSimpArgs false
set_option linter.unusedVariables false
set_option linter.unnecessarySimpa false
set_option maxRecDepth 100000
set_option maxHeartbeats 40000000
open And renaming intro->ae
open Go renaming FuncId->bf
open Go.Proofs.Tryz renaming prog->af
open List renaming take_of_length_le->bN,mem_map->aY,take_add_one->bz,mem_of_getElem?->aO,take_length->eG,length_map->ak,getElem?_eq_none_iff->bw,getElem?_eq_some_iff->aq
open Nat renaming le_refl->aX
open Prod renaming fst->bp
namespace Go.Proofs.YtmaiccmhkmndcaaGreatDoor
open Go Go.Sg
theorem Y8{β:Type}{o:Option β}{v:β}{A:β->Prop}{B:Prop}(h:o=some v)(k:A v):jr o A B:=by subst h;exact jr.ss k
theorem pO(n:Int):aa af 151 [eI n] (.bool (Dm n)):=by
 refine aa.e Tryz.func151 9 [.tmp 2] [0,2] ?_;refine cb (ae (λhc=>?_) λhc=>?_)
 all_goals(refine aP.bool ?_;simp_all [Dm]<;>omega)
theorem s8(l:List Vr)(o:Bool):aa af 186 [BJ l,.bool o] (BJ l):=by
 refine aa.e Tryz.func186 6 [.tmp 4] [0,4] ?_;exact cb trivial
theorem B7(v:Vr)(l:List Vr)(o:Bool):aa af 187 [BJ (v::l),.bool o] (BJ (if o then[v] else[])):=by
 refine aa.e Tryz.func187 9 [.tmp 4] [0,1,4,6] ?_;refine cb (ae (λhc=>?_) λhc=>?_)
 · rw[if_pos hc];exact aP.refl _
 · rw[if_neg (by rw[hc];simp)];exact aP.mk (PV.le_nil _ _ _)
theorem B8(l:List Vr)(v:Vr)(o:Bool)(hl:l.length<1000):aa af 188 [BJ (l++[v]),.bool o] (BJ [v]):=by
 refine aa.e Tryz.func188 10 [.tmp 4] [0,4] ?_;refine cb ?_;refine aP.of ?_;show PV.sl 13 false (List.drop _ (List.take _ ((l++[v]).map lv)))=_;rw[Int.toNat_natCast,bN (aX _),show(((((l++[v]).map lv).length:Nat):Int)-1).toNat=(l.map lv).length by simp,List.map_append,List.drop_left];rfl
theorem QU:ko af 208=some (fT,207):=by kernel_rfl
def jdM:List (Int×bf):=[(1,187),(2,188),(3,186),(4,186)]
def eF(f:bf):PV:= .fn (.func f) [] []
theorem ki:aa af 153 [] (.mp fT (eM eI eF jdM)):=by
 refine aa.e Tryz.func153 6 [.tmp 0] [0,1] ?_;exact bM (kR QU) trivial
 all_goals trace_state
theorem lx(l:List Vr)(f k:Int):aa af 152 [BJ l,eI f,eI k] (.fn (.func 184) [] [.ro [BJ l],.ro [eI k],.ro [eI f]]):=by
 refine aa.e Tryz.func152 8 [.tmp 6] [0,1,2,3,4,5,6] ?_;exact cb trivial
abbrev capF(l:List Vr)(f k:Int):List PV:=[.ro [BJ l],.ro [eI k],.ro [eI f]]
theorem Zp:ko af 242=some (fT,135):=by kernel_rfl
theorem Wm:nM eI where
 eq:=λa b=>by
  show(decide (a=b)&&true)=_;simp
def mOk(l:List Vr)(M:List (Int×Vr)):Prop:=(M.map bp).Nodup/\ ∀x∈M,wi x.1/\x.2∈l
theorem L7{l:List Vr}{M:List (Int×Vr)}{t:Int}{v:Vr}(h:mOk l M)(ht:wi t)(hv:v∈l):mOk l (dQ t v M):=by
 refine⟨mX h.1,λx hx=>?_⟩;have h1:x.1∈(dQ t v M).map bp:=aY.2 ⟨x,hx,rfl⟩;have h2:=jD (mX (k:=t) (v:=v) h.1) (show(x.1,x.2)∈dQ t v M from hx);rw[dj] at h2;split at h2
 · rename_i e
   injection h2 with h2;rw[e,<-h2];exact⟨ht,hv⟩
 · have:=ru h2
   exact h.2 _ this
theorem AW{t:Int}{v:Vr}:∀M:List (Int×Vr),(dQ t v M).length<=M.length+1
 |[]=>aX _
 |(k,w)::r=>by
  unfold dQ;split
  · simp
  · have:=AW (t:=t) (v:=v) r;simp;omega
def inS(f k:Int)(s:Int×List (Int×Vr))(x:Vr):Int×List (Int×Vr):=if k<x.known then s else if x.tm<=f then(if x.tm<s.1 then s else(x.tm,dQ f x s.2)) else(s.1,dQ x.tm x s.2)
def B9(f k:Int)(l:List Vr):Int×List (Int×Vr):=l.foldl (inS f k) (-1,[])
theorem Ih{f k:Int}{l:List Vr}{i:Nat}{x:Vr}(h:l[i]? =some x):B9 f k (l.take (i+1))=inS f k (B9 f k (l.take i)) x:=by
 unfold B9;rw[bz,h];simp[List.foldl_append]
theorem KG{f k:Int}{l:List Vr}(hr:∀v∈l,dt v=true)(hf:Dm f=true):∀i,mOk l (B9 f k (l.take i)).2/\(B9 f k (l.take i)).2.length<=i:=by
 intro i
 induction i with
 |zero=>exact⟨⟨by simp[B9],by simp[B9]⟩,by simp[B9]⟩
 |succ i ih=>
  cases hx:l[i]? with
  |none=>
   (have:l.take (i+1)=l.take i:=by rw[bz,hx];simp);rw[this];exact⟨ih.1,by omega⟩
  |some x=>
   have ku:=aO hx;have Uv:=hr x ku;(have htx:wi x.tm:=by simp[dt,Dm] at Uv;unfold wi;omega);(have htf:wi f:=by simp[Dm] at hf;unfold wi;omega);have h1:=AW (t:=f) (v:=x) (B9 f k (l.take i)).2;have h2:=AW (t:=x.tm) (v:=x) (B9 f k (l.take i)).2;rw[Ih hx];unfold inS;split
   · exact⟨ih.1,by omega⟩
   · split
     · split
       · exact⟨ih.1,by omega⟩
       · exact⟨L7 ih.1 htf ku,by simp only;omega⟩
     · exact⟨L7 ih.1 htx ku,by simp only;omega⟩
def Om(f k:Int)(l:List Vr):List Int:=(((B9 f k l).2.map bp).mergeSort λx y=>decide (x<=y))
def AX(f k:Int)(l:List Vr)(t:Int):Vr:=((bn t (B9 f k l).2).getD (l.headD ⟨0,0,0,⟨.empty,[],[],[],.mk 0 0 0 .empty [],0⟩⟩))
theorem N1{f k:Int}{l:List Vr}(hr:∀v∈l,dt v=true)(hf:Dm f=true){t:Int}(ht:t∈Om f k l):AX f k l t∈l:=by
 have hM:=KG (f:=f) (k:=k) hr hf l.length;rw[eG] at hM;unfold Om at ht;rw[(List.mergeSort_perm _ _).mem_iff] at ht;obtain⟨e,he,rfl⟩:=aY.1 ht;have:=jD hM.1.1 he;unfold AX;rw[this];exact(hM.1.2 e he).2
theorem TC{f k:Int}{l:List Vr}(hr:∀v∈l,dt v=true)(hf:Dm f=true):(Om f k l).length<=l.length:=by
 have hM:=KG (f:=f) (k:=k) hr hf l.length;rw[eG] at hM;unfold Om;rw[(List.mergeSort_perm _ _).length_eq,ak];exact hM.2
theorem E4(l:List Vr)(f k:Int)(hl:l.length<=5)(hr:∀v∈l,dt v=true)(hf:Dm f=true):Iter af 184 (capF l f k) ((Om f k l).map λt=>[eI t,lv (AX f k l t)]):=by
 have bQ:=KG (f:=f) (k:=k) hr hf;have lC:=λi x (h:l[i]? =some x)=>Ih (f:=f) (k:=k) h;refine Iter.e Tryz.func184 53 Ln ?_;intro G hG si jM;refine bM (kR Zp) ?_;refine bY.bq (α:={i:Nat // i<=l.length}) mixed Ln (λi=>[(6,.p (eI (B9 f k (l.take i.1)).1)),(15,.p (eI i.1))]) (λi=>[(0,.map fT (eM eI lv (B9 f k (l.take i.1)).2))]) (λ_=>0) (λi=>l.length-i.1) ⟨0,by omega⟩ ?_ ?_
 · exact aG trivial
 rintro⟨i,hi⟩;have hi:i<=l.length:=hi
 cases hx:l[i]? with
 |none=>
  have dD:l.length<=i:=bw.1 hx;(have bV:¬((i:Int)<((l.map lv).length:Int)):=by rw[ak];omega);have eF:l.take i=l:=bN dD;have hM:=bQ l.length;rw[eG] at hM;obtain⟨hM,Tm⟩:=hM
  have hkv:∀t∈Om f k l,bn t (B9 f k l).2=some (AX f k l t):=λt ht=>by
   unfold Om at ht;rw[(List.mergeSort_perm _ _).mem_iff] at ht;obtain⟨e,he,rfl⟩:=aY.1 ht;have:=jD hM.1 he;unfold AX;rw[this];rfl
  have hKl:(Om f k l).length<=5:=by
   unfold Om;rw[(List.mergeSort_perm _ _).length_eq,ak];omega
  have q5:=wm lv (B9 f k l).2 (by omega) hM.1 λx hx=>(hM.2 x hx).1;have q6:=Ar (eM eI lv (B9 f k l).2);change aM af 47 1 _ _ (.p (dm (Om f k l))) _ at q5;generalize Om f k l=K at *;generalize AX f k l=va at *;rw[eF];generalize (B9 f k l).2=M at *;refine oa (kN bV) (kF 12 [(5,false)]) (kI [] q6) (kI [512] q5) (λhc=>?_);refine bY.bq (α:={j:Nat // j<=K.length/\j<=G.stop}) mixed Ln (λj=>[(41,.p (eI j.1))]) (λ_=>[(512,.dead)]) (λj=>j.1) (λj=>K.length-j.1) ⟨0,by omega,by omega⟩ ?_ ?_
  · exact aG trivial
  rintro⟨j,hj,hs⟩;have hj:j<=K.length:=hj;have hs:j<=G.stop:=hs;have BC:G.xs.length=K.length:=by rw[jM];simp
  cases hy:K[j]? with
  |none=>
   have Tj:K.length<=j:=bw.1 hy;(have NN:¬((j:Int)<((K.map eI).length:Int)):=by rw[ak];omega);refine bM (kN NN) (λhc=>?_)
   all_goals(show j=min (G.stop+1) (K.map λt=>[eI t,lv (va t)]).length;rw[ak];omega)
  |some t=>
   have Aj:j<K.length:=(aq.1 hy).1;(have AG:((j:Int)<((K.map eI).length:Int)):=by rw[ak];omega);(have nT:cK (eI t) (eM eI lv M)=some (lv (va t)):=by rw[bj lv Wm,hkv t (aO hy)];rfl);refine gg (kY AG) (kX hy) (kX nT) (λhc=>ae ?_ (ae (λhc=>?_) λhc=>?_))
   all_goals first
   |(show j<G.xs.length
     omega)
   |(show _=List.map AV.p (G.xs.getD j [])
     have e:G.xs.getD j []=[eI t,lv (va t)]:=by
      rw[jM];simp[List.getD,hy]
     rw[e];rfl)
   |(have hc:j≠G.stop:=by assumption
     refine⟨⟨j+1,Aj,(show j+1<=G.stop by omega)⟩,(by show K.length-(j+1)<K.length-j;omega),?_⟩;exact aG trivial
     done)
   |(have hc:¬ j≠G.stop:=by assumption
     show j+1=min (G.stop+1) (K.map λt=>[eI t,lv (va t)]).length
     rw[ak];omega)
   |trace_state
 |some x=>
  have aC:i<l.length:=(aq.1 hx).1;(have ay:((i:Int)<((l.map lv).length:Int)):=by rw[ak];omega);have cu:=lC i x hx;generalize B9 f k (l.take i)=s at *;obtain⟨bg,M⟩:=s;refine gG (kY ay) (kX hx) (λhc=>ae (λhc=>?_) λhc=>ae (λhc=>ae (λhc=>?_) λhc=>?_) λhc=>?_)
  all_goals
   refine⟨⟨i+1,aC⟩,(by show l.length-(i+1)<l.length-i;omega),?_⟩;show di _ _ (kj Ln _ _ _ [(6,.p (eI (B9 f k (l.take (i+1))).1)),(15,.p (eI ((i+1:Nat):Int)))] [(0,.map fT (eM eI lv (B9 f k (l.take (i+1))).2))] _);rw[cu];unfold inS
  · rw[if_pos hc]
    exact aG trivial
  · rw[if_neg (by assumption),if_pos (by assumption),if_pos hc]
    exact aG trivial
  · rw[if_neg (by assumption),if_pos (by assumption),if_neg hc]
    refine aG ?_
    all_goals(show dr (eI f) (lv x) (eM eI lv M)=_;rw[cU lv Wm])
  · rw[if_neg (by assumption),if_neg hc]
    refine aG ?_
    all_goals(show dr (eI x.tm) (lv x) (eM eI lv M)=_;rw[cU lv Wm])
def W4(l:List Bool):PV:= .sl 1 false (l.map PV.bool)
theorem N2(f:bf)(cs:List PV)(q:Bool->Bool)(h:∀w,aa af f (PV.bool w::cs) (.bool (q w)))(hf:enters af f=true)(l:List (Bool))(hl:l.length<1000000):
 aa af 255 [W4 l,.fn (.func f) [] cs] (eI (zN q l)):=by
 refine aa.e Tryz.func255 19 [.tmp 4] [0,1,4,5,7,8,9,16] ?_;refine cb ?_;refine bY.bK (α:={i:Nat // i<=l.length/\ ∀j w,j<i->l[j]? =some w->q w=false}) mixed [0,1,4,5,7,8,9,16] (λi=>[(8,.p (eI i.1))]) (λi=>l.length-i.1) ⟨0,by omega,by intro j w h;omega⟩ ?_ ?_
 · exact aG trivial
 rintro⟨i,hi,hq⟩;have hi:i<=l.length:=hi;have hq:∀j w,j<i->l[j]? =some w->q w=false:=hq;refine bM (kH h hf) (ae (λhc x hx=>ae (λhc=>?_) λhc=>?_) λhc=>?_)
 · have hx:l[i]? =some x:=hx
   rw[gF hx hc hq];exact aP.refl _
 · have hx:l[i]? =some x:=hx
   have:=(aq.1 hx).1;refine⟨⟨i+1,by omega,nU hq hx hc⟩,by show l.length-(i+1)<l.length-i;omega,?_⟩;exact aG trivial
 · have hc:¬(i:Int)<((l.map PV.bool).length:Int):=hc
   rw[ak] at hc;rw[j9 (q:=q) (l:=l) λj w hj hw=>hq j w (by omega) hw];exact aP.refl _
theorem B'(b:Bool):aa af 213 [.bool b] (.bool b):=by
 refine aa.e Tryz.func213 4 [.tmp 2] [0,2] ?_;exact cb trivial
theorem Ca(b:Bool):aa af 214 [.bool b] (.bool (!b)):=by
 refine aa.e Tryz.func214 5 [.tmp 2] [0,2] ?_;exact cb trivial
theorem jv(f:bf)(q:Bool->Bool)(h:∀w,aa af f [PV.bool w] (.bool (q w)))(hf:enters af f=true)(l:List Bool)(hl:l.length<1000000):aa af 212 [W4 l,.fn (.func f) [] []] (eI (zN q l)):=by
 refine aa.e Tryz.func212 8 [.tmp 4] [0,1,4] ?_;exact bM (N2 f [] q h hf l hl) trivial
theorem E5(m:Int)(l:List Bool)(hm:1<=m/\m<=4)(hl:l.length<=256):aa af 211 [eI m,W4 l] (eI 0):=by
 obtain⟨MM,jf,qs,nT⟩:∃(MM:List (PV×PV)) (jf:bf),aa af 153 [] (.mp fT MM)/\cK (eI m) MM=some (eF jf):=by
  have h4:m=1\/m=2\/m=3\/m=4:=by omega
  rcases h4 with h|h|h|h
  · exact⟨_,187,ki,by rw[h];rfl⟩
  · exact⟨_,188,ki,by rw[h];rfl⟩
  · exact⟨_,186,ki,by rw[h];rfl⟩
  · exact⟨_,186,ki,by rw[h];rfl⟩
 have bV:¬(256:Int)<((l.map PV.bool).length:Int):=by rw[ak];omega
 refine aa.e Tryz.func211 18 [.tmp 4] [0,1,4,6,14,17] ?_;exact oa qs (kX nT) (kN bV) (kR QU) trivial
 all_goals trace_state
end Go.Proofs.YtmaiccmhkmndcaaGreatDoor
