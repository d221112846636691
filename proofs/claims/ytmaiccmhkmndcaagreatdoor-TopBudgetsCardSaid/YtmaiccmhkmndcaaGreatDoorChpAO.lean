/- A part of the proof: contracts of the functions that the statement reaches. -/
import Derived.Test.YtmaiccmhkmndcaaGreatDoorChpAN
import Derived.Test.YtmaiccmhkmndcaaGreatDoorChpAJ
import Derived.Test.YtmaiccmhkmndcaaGreatDoorChpAA
set_option linter.unusedSimpArgs false
set_option linter.unusedVariables false
set_option linter.unnecessarySimpa false
set_option maxRecDepth 100000
set_option maxHeartbeats 40000000
open And renaming intro->ae
open Go.Proofs.Tryz renaming prog->af
open Go.World renaming shape?->cC
open List renaming getElem?_eq_some_iff->aq,length_map->ak
open Nat renaming zero_le->de,lt_of_lt_of_le->fl
namespace Go.Proofs.YtmaiccmhkmndcaaGreatDoor
open Go Go.Sg
end Go.Proofs.YtmaiccmhkmndcaaGreatDoor
namespace Go.Sg
open Go
theorem dL.rC{σ:ab}{Z:Nat->Prop}{ρ:Nat->Option Nat}{m m':List (PV×PV)}{c:Option (PV×PV)}(h:m=m'):dL σ Z ρ (.iter m c) (.iter m' none):=by
 subst h;intro F μ w b hz hr;obtain⟨q,es,clock,seen,h1,h2,h3,h4,h5,h6⟩:=hr;exact oX.mono (w:=w) ⟨q,es,clock,seen,h1,h2,h3,h4,h5,λk v h=>by cases h⟩ (λ_ h=>.inl h) (λ_ _=>rfl) rfl
theorem pH{P:Program}{f:FuncId}{σ:ab}{nid:Nat}{K:AV->ab->Prop}{c:Option (FuncId×List AV)}{vs us:List AV}{jI:ab}{R:AV->ab->Prop}(ρ:List Nat)(hi:dC P f ρ.length jI us R)(he:enters P f=true)(hc:c=some (f,vs))(ha:vs=tn (rn ρ nid) us)(hn:ρ.Nodup)
 (hl:∀o∈ρ,σ.get o≠ .dead) (hs:∀i,i<ρ.length->σ.get (ρ.getD i 0)=gD (rn ρ nid) (jI.get i)) (hd:∀i,ρ.length<=i->jI.get i= .dead)
 (hk:∀r dX,R r dX->(∀i,i<ρ.length->i∈keys dX)/\(∀k∈keys dX,k<ρ.length+64)/\K (gY (rn ρ nid) r) (dX.map λx=>(rn ρ nid x.1,gD (rn ρ nid) x.2))):KW P c σ nid K:=
 ⟨⟨f,vs,us,jI,R,ρ,hc,he,ha,hn,hl,hs,hd,hi,hk⟩⟩
end Go.Sg
namespace Go.Proofs.YtmaiccmhkmndcaaGreatDoor
open Go Go.Sg
namespace Of
abbrev xP:KT:=([.int .i64,.int .i64],true)
abbrev St:=Int×Int
def eS(s:St):PV:= .agg [eI s.1,eI s.2]
theorem HK:ko af 255=some (xP,118):=by kernel_rfl
abbrev Mp:=List (St×Ap)
def NB(M:Mp):PV:= .mp xP (eM eS eA M)
def wdK(n k:Nat)(x:List PV):Prop:=k<n/\ ∃s:St,x=[eS s]
theorem NC(M:Mp):mT af 277 [.ro [NB M]] [] (wdK M.length) (· =M.length):=by
 refine mT.e Tryz.func277 14 [0,1,3,5,7,13] ?_;intro G hG Sv;refine bM (kR HK) ?_;refine bY.bq (α:={R:Mp // R.length<=M.length/\M.length-R.length<=G.stop}) mixed [0,1,3,5,7,13] (λ_=>[]) (λR=>[(64,.iter (eM eS eA R.1) none)]) (λR=>M.length-R.1.length) (λR=>R.1.length) ⟨M,Nat.le_refl _,by omega⟩ ?_ ?_
 · exact aG trivial
   all_goals trace_state
 rintro⟨R,hR,hs⟩;have hR:R.length<=M.length:=hR;have hs:M.length-R.length<=G.stop:=hs
 repeat' (first|exact fg|(refine stx ?_;first|exact bW _|refine aE ?_)|((fail_if_success refine ft ?_);(conv=>whnf)<;>(first|exact fh|refine Nx.of (R:=R) (f:=λx=>(eS x.1,eA x.2)) (λhRe=>?_) (λj x hj=>?_)|(refine fJ.r (gL.n (gq.y ?_));(conv=>whnf);refine⟨hG,rfl,hs,[eS x.1],rfl,by(rw[Sv];exact⟨by have:=(aq.1 hj).1;(show M.length-R.length<M.length);omega,x.1,rfl⟩),?_⟩)|refine str ?_|refine Br.dec (λhc=>?_) λhc=>?_|refine Br.mk (λhc=>?_) λhc=>?_|exact PV.ao|refine PV.ai ?_ ?_|refine ae ?_ ?_|refine aD λx hx=>?_|refine aE ?_|refine bX (λhn=>?_) ?_|exact fv|refine bS λaZ=>?_|refine al ?_ ?_|refine fu ?_|fail)))<;>(try exact fi)
 · refine Or.inr ?_
   show M.length-R.length=M.length;rw[hRe];rfl
 all_goals have hlj:=(aq.1 hj).1
 all_goals have Ua:(R.eraseIdx j).length=R.length-1:=List.length_eraseIdx_of_lt hlj
 · have hc:M.length-R.length≠G.stop:=hc
   refine⟨⟨R.eraseIdx j,by omega,by omega⟩,by show(R.eraseIdx j).length<R.length;omega,?_⟩;exact aG trivial
   all_goals(show M.length-(R.eraseIdx j).length=M.length-R.length+1;omega)
 · have hc:¬ M.length-R.length≠G.stop:=hc
   refine Or.inl ?_;show M.length-R.length+1=G.stop+1;omega
theorem JV(M:Mp):aa af 242 [NB M] (.fn (.func 277) [] [.ro [NB M]]):=by
 refine aa.e Tryz.func242 4 [.tmp 2] [0,1,2] ?_;exact cb trivial
def Rs(n:Nat)(r:AV)(σ:ab):Prop:=∃l:List St,l.length<=n/\r=oV 0 2 (l.map eS)/\σ=oH 0 2 (l.map eS)
theorem BQ(M:Mp)(hM:M.length<1000000):dC af 288 0 [] [.p (.sl 0 true []),.p (.fn (.func 277) [] [.ro [NB M]])] (Rs M.length):=by
 have gh:=NC M;refine dC.e Tryz.func288 13 [.tmp 4] [0,1,2,4,5,6,7] ?_;refine cb ?_;refine bY.Jn mixed gh (by kernel_rfl) rfl [0,1,2,4,5,6,7] M.length [0] (λk hp nx=>∃l:List St,l.length=k/\hp=[(0,.cells [oV 1 2 (l.map eS)])]++oH 1 2 (l.map eS)/\nx=192) ⟨[],rfl,rfl,rfl⟩ (gN rfl) (by simp) (by simp) (λk x hp nx hx Fs hI=>?_) (λk hp nx Fs hF hI=>?_)
 · obtain⟨hk,s,rfl⟩:=hx
   obtain⟨l,rfl,rfl,rfl⟩:=hI;refine⟨rfl,?_⟩
   cases l with
   |nil=>
    refine cb (λaZ=>?_)
    all_goals
     refine⟨_,_,⟨[s],rfl,rfl,rfl⟩,?_⟩;exact nq trivial
   |cons a r=>
    (have oI:r.length+1<=1000000:=by simp at Fs;omega);show aw _ _ _ ⟨_,[(0,.cells [.bo 1 2 0 ((r.map eS).length+1)]),(1,.row 2 (eS a::r.map eS))],_,_⟩ _;rw[ak];refine cb ?_
    all_goals
     refine⟨_,_,⟨a::(r++[s]),by simp,rfl,rfl⟩,?_⟩;refine nq ?_;show eS a::r.map eS++[eS s]=_;simp
 · obtain⟨l,hl,rfl,rfl⟩:=hI
   cases l with
   |nil=>
    refine cb ?_
    all_goals
     refine⟨_,_,⟨[],de _,rfl,rfl⟩,?_⟩;(conv=>whnf);exact nr [] [] trivial
   |cons a r=>
    have hl:(a::r).length=k:=hl;refine cb ?_
    all_goals
     refine⟨_,_,⟨a::r,by omega,rfl,rfl⟩,?_⟩;(conv=>whnf);exact nr [] [(0,1)] trivial
theorem Al(M:Mp)(hM:M.length<1000000):dC af 275 0 [] [.p (.fn (.func 277) [] [.ro [NB M]])] (Rs M.length):=by
 refine dC.e Tryz.func275 5 [.tmp 2] [0,2] ?_
 repeat' (first|exact fg|(refine stx ?_;first|exact bW _|refine aE ?_)|((fail_if_success refine ft ?_);(conv=>whnf)<;>(first|exact fh|(refine fJ.r (gL.n (gq.n (iG.m ?_)));refine pH [] (BQ M hM) (by kernel_rfl) rfl rfl (by simp) (by simp) (by simp) (λ_ _=>rfl) ?_;rintro r dX ⟨l,hl,rfl,rfl⟩;rcases l with _|⟨a,r⟩<;>refine⟨by simp,by simp[oH,keys],?_⟩)|refine str ?_|refine Br.dec (λhc=>?_) λhc=>?_|refine Br.mk (λhc=>?_) λhc=>?_|exact PV.ao|refine PV.ai ?_ ?_|refine ae ?_ ?_|refine aD λx hx=>?_|refine aE ?_|refine bX (λhn=>?_) ?_|exact fv|refine bS λaZ=>?_|refine al ?_ ?_|refine fu ?_|fail)))<;>(try exact fi)
 all_goals first
 |(refine⟨_,_,⟨a::r,hl,rfl,rfl⟩,?_⟩
   conv=>whnf
   exact nr [] [(0,128)] trivial)
 |(refine⟨_,_,⟨[],de _,rfl,rfl⟩,?_⟩
   conv=>whnf
   exact nr [] [] trivial)
theorem nu:nM eS where
 eq:=λa b=>by
  obtain⟨a1,a2⟩:=a;obtain⟨b1,b2⟩:=b;show(decide (a1=b1)&&(decide (a2=b2)&&true))=_;simp[Bool.decide_and]
def sW(x:Ap):St:=(x.off,x.ia)
def ee(a t:Int)(x:Ap):Bool:=decide (x.tm<=a)&&decide (x.known<=t)
theorem kg(x:Ap)(a t:Int):aa af 243 [eA x,.ro [eI a],.ro [eI t]] (.bR [eS (sW x),.bool (ee a t x)]):=by
 refine aa.e Tryz.func243 21 [.cell 4 291,.tmp 5] [0,1,2,3,4,5] ?_;refine cb (ae (λhc=>?_) λhc=>?_)
 all_goals(refine aP.of ?_;first|(simp_all [sW,ee,eS];done)|(simp_all [sW,ee,eS];intros;omega))
theorem JW(x y:Ap):aa af 245 [eA x,eA y] (.bool (decide (x.tm>y.tm))):=by
 refine aa.e Tryz.func245 10 [.tmp 4] [0,1,2,3,4] ?_;exact cb trivial
def iV(a t:Int)(m:Mp)(y:Ap):Mp:=if ee a t y then(match bn (sW y) m with|none=>dQ (sW y) y m|some z=>if z.tm<=y.tm then dQ (sW y) y m else m) else m
def foldM(a t:Int)(l:List Ap):Mp:=l.foldl (iV a t) []
theorem dV{a t:Int}{l:List Ap}{i:Nat}{x:Ap}(h:l[i]? =some x):foldM a t (l.take (i+1))=iV a t (foldM a t (l.take i)) x:=by
 unfold foldM;rw[List.take_add_one,h];simp[List.foldl_append]
theorem JY(l:List Ap)(a t:Int)(hl:l.length<1000000):aa af 244 [eL l,.fn (.func 243) [] [.ro [eI a],.ro [eI t]],.fn (.func 245) [] []] (NB (foldM a t l)):=by
 refine aa.e Tryz.func244 50 [.tmp 6] PT ?_;refine bM (kR HK) ?_;refine bY.bq (α:={i:Nat // i<=l.length}) mixed PT (λi=>[(17,.p (eI i.1))]) (λi=>[(64,.map xP (eM eS eA (foldM a t (l.take i.1))))]) (λ_=>0) (λi=>l.length-i.1) ⟨0,by omega⟩ ?_ ?_
 · exact aG trivial
 rintro⟨i,hi⟩;have hi:i<=l.length:=hi
 cases hx:l[i]? with
 |none=>
  have dD:l.length<=i:=List.getElem?_eq_none_iff.1 hx;(have bV:¬((i:Int)<((l.map eA).length:Int)):=by rw[ak];omega);have eF:l.take i=l:=List.take_of_length_le dD;show ya _ _ _ λe=>x9 [(64,.map xP (eM eS eA (foldM a t (l.take i))))] _ [] λh=>_;rw[eF];exact bM (kN bV) trivial
 |some x=>
  have aC:i<l.length:=(aq.1 hx).1;(have ay:((i:Int)<((l.map eA).length:Int)):=by rw[ak];omega);have q1:=kg x a t;have hM:=dV (a:=a) (t:=t) hx;show ya _ _ _ λe=>x9 [(64,.map xP (eM eS eA (foldM a t (l.take i))))] _ [] λh=>_;generalize foldM a t (l.take i)=M at *;refine Jt (kR HK) q1 JW (kY ay) (kX hx) (kO (bj eA nu (sW x) M)) (λhc=>ae (λz hz=>ae (λhc=>ae (λhc=>?_) λhc=>?_) λhc=>?_) λhz=>ae (λhc=>?_) λhc=>?_)
  all_goals
   refine⟨⟨i+1,aC⟩,by show l.length-(i+1)<l.length-i;omega,?_⟩;show di _ _ (kj PT _ _ _ [(17,.p (eI ((i+1:Nat):Int)))] [(64,.map xP (eM eS eA (foldM a t (l.take (i+1)))))] _);rw[hM]
  all_goals first
  |(have e:iV a t M x=dQ (sW x) x M:=by first|(simp_all [iV];done)|(unfold iV;simp_all;intros;omega)
    rw[e];refine aG ?_
    all_goals(show dr (eS (sW x)) (eA x) (eM eS eA M)=_;rw[cU eA nu]))
  |(have e:iV a t M x=M:=by first|(simp_all [iV];done)|(unfold iV;simp_all;intros;omega)
    rw[e]
    exact aG trivial)
end Of
end Go.Proofs.YtmaiccmhkmndcaaGreatDoor
namespace Go.Sg
open Go
theorem HL{F:Nat->Prop}{μ:aN}{w w':World}{b sz:Nat}{l l':List PV}{cur cur':Array Value}{t:TypeId}(ar:az F μ [(0,.row sz l)] w)(Ft:∀o,1<=o->μ o=none)(hb:μ 0=some b)(h1:w.heap[b]? =some (.cells cur t (0,0)))(h2:w'.heap[b]? =some (.cells cur' t (0,0)))
 (iR:cur'.size=cur.size) (CT:w'.os=w.os) (htp:w'.tape=w.tape) (U2:w'.output=w.output) (hs:w.heap.size<=w'.heap.size) (ho:∀c,c<w.heap.size->c≠b->w'.heap[c]? =w.heap[c]?) (bQ:∀p∈l',xY sz p) (hlen:(bc l').length<=cur'.size)
 (ml:∀(i:Nat) c,(bc l')[i]? =some c->RV F μ w' (cur'[i]?.getD undef) c):dO F μ w F μ w'/\az F μ [(0,.row sz l')] w':=by
 have tY:b<w.heap.size:=ar.mb b (.inl ⟨0,hb⟩);have Fx:¬ F b:=ar.live 0 b (λh=>by cases h) hb;have hF:∀c,F c->w'.heap[c]? =w.heap[c]? :=λc hc=>ho c (ar.fb c hc) λe=>Fx (e▸hc)
 have h0:∀o,ab.get [(0,bJ.row sz l')] o≠ .dead->o=0:=λo h=>by
  cases o with
  |zero=>rfl
  |succ o=>exact absurd rfl h
 have ZR:ab.get [(0,bJ.row sz l)] 0≠ .dead:=λh=>by cases h
 refine⟨⟨CT,htp,U2,hs,hF,λc hc hn=>ho c hc λe=>hn (e▸ .inl ⟨0,hb⟩),λc x hx=>?_,λ_ h=>h,λ_ h=>.inl h,λ_ h=>.inl h⟩,
  ⟨ar.fb.step (λ_ h=>h) hF λc hc=>fl (ar.fb c hc) hs,λc hc=>fl (ar.mb c hc) hs,λo h=>⟨b,by rw[h0 o h];exact hb⟩,λo c S7=>?_,λo c h S7=>?_,λi j c hi hj _ _=>(h0 i hi).trans (h0 j hj).symm,
   λc m hc=>⟨(ar.hd c m hc).1,λo h=>by rw[h0 o h];exact(ar.hd c m hc).2 0 ZR⟩,ar.hu⟩⟩
 · by_cases e:c=b
   · subst e
     unfold cC at hx ⊢;rw[h1] at hx;rw[h2];show some (t,cur'.size)=some x;rw[iR];exact hx
   · have hc:c<w.heap.size:=by
      unfold cC at hx;rcases Nat.lt_or_ge c w.heap.size with h|h
      · exact h
      · rw[Array.getElem?_eq_none h] at hx;cases hx
     unfold cC at hx ⊢;rw[ho c hc e];exact hx
 · cases o with
   |zero=>
    rw[hb] at S7;injection S7 with S7;subst S7
    exact⟨bQ,cur',t,h2,hlen,ml⟩
   |succ o=>rw[Ft _ (by omega)] at S7;cases S7
 · rw[h0 o h] at S7
   exact ar.live 0 c ZR S7
end Go.Sg
