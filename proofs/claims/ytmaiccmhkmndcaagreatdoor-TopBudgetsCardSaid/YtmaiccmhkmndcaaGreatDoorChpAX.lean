/- A part of the proof: contracts of the functions that the statement reaches. -/
import Derived.Test.YtmaiccmhkmndcaaGreatDoorChpAF
import Derived.Test.YtmaiccmhkmndcaaGreatDoorChpAA
set_option linter.unusedSimpArgs false
set_option linter.unusedVariables false
set_option linter.unnecessarySimpa false
set_option maxRecDepth 100000
set_option maxHeartbeats 40000000
open And renaming intro->ae
open Bool renaming and_eq_true->aQ
open Go.Proofs.Tryz renaming prog->af
open List renaming foldl_cons->lE,filter_cons->lZ,length_filter_le->iB,mem_filter->dN,length_cons->ea,mem_append->cL,mem_singleton->gE,any_eq_true->kS,foldl_append->fG,map_cons->bE,mem_cons->cy,take_add_one->bz,mem_of_getElem?->aO,length_map->ak,getElem?_eq_some_iff->aq,getD->cF,mem_map->aY,getElem?_eq_getElem->aV
open Prod renaming fst->bp
namespace Go.Proofs.YtmaiccmhkmndcaaGreatDoor
open Go Go.Sg
namespace Ac
open bx
set_option linter.unusedSectionVars false
def iW(b:Bg)(p k:Int)(x:Us):Bool:=decide (x.known<=k)&&(decide (b.kind<0)||decide (b.kind=x.kind))&&decide (x.tm.tdiv b.ia=p)
def LO(b:Bg)(u:List Us)(k a:Int):List Us:=(u.filter (iW b (a.tdiv b.ia) k)).filter λx=>decide (x.tm<=a)
def oP(b:Bg)(c v:Int):Bool:=decide (c<=b.cnt)&&decide (v<=b.val)
def rV(b:Bg)(u:List Us)(k a:Int):Bool:=oP b (LO b u k a).length (kv (LO b u k a))
def Fu(u:List Us)(k a:Int)(m:List (Int×Bool))(y:Bg):List (Int×Bool):=if rV y u k a then m else dQ y.no true m
def Fv(l:List Bg)(u:List Us)(k:Int)(m:List (Int×Bool))(x:Us):List (Int×Bool):=if x.known<=k then(lg l x.kind x.tm k).foldl (Fu u k x.tm) m else m
def VY(l:List Bg)(u:List Us)(k:Int):List (Int×Bool):=u.foldl (Fv l u k) []
def Ka(l:List Bg)(u:List Us)(k:Int):Prop:=∀x∈u,∀b∈lg l x.kind x.tm k,rV b u k x.tm=true
theorem Ay{α β:Type}{f:β->α->β}{m:β}:∀l:List α,(∀x∈l,f m x=m)->l.foldl f m=m
 |[],_=>rfl
 |a::r,h=>by rw[lE,h a (by simp)];exact Ay r λx hx=>h x (by simp[hx])
theorem LP{l:List Bg}{u:List Us}{k:Int}(h:Ka l u k):VY l u k=[]:=by
 refine Ay u λx hx=>?_;unfold Fv;split
 · refine Ay _ λb hb=>?_
   unfold Fu;rw[h x hx b hb];rfl
 · rfl
theorem sA(a:Us)(r:List Us):kv (a::r)=a.val+kv r:=by simp[kv]
theorem Qh(l r:List Us):kv (l++r)=kv l+kv r:=by simp[kv]
theorem Te:∀l:List Us,(∀x∈l,0<=x.val)->0<=kv l
 |[],_=>by simp[kv]
 |a::r,h=>by
  rw[sA];have:=Te r λx hx=>h x (by simp[hx]);have:=h a (by simp);omega
theorem xr(q:Us->Bool):∀l:List Us,(∀x∈l,0<=x.val)->kv (l.filter q)<=kv l
 |[],_=>by simp[kv]
 |a::r,h=>by
  have:=xr q r λx hx=>h x (by simp[hx]);have:=h a (by simp);rw[lZ];split<;>simp only[sA]<;>omega
theorem Tf{b:Bg}{t k:Int}{x:Us}(hb: -1<=b.kind):iW b (t.tdiv b.ia) k x=gb b t k x:=by
 unfold iW gb
 have:decide (b.kind<0)=decide (b.kind= -1):=by rw[decide_eq_decide];omega
 rw[this]
theorem LQ(b:Bg)(u:List Us)(w:Us)(k a:Int):LO b (u++[w]) k a=LO b u k a++if iW b (a.tdiv b.ia) k w&&decide (w.tm<=a) then[w] else[]:=by
 unfold LO;rw[List.filter_append,List.filter_append];congr 1;cases h1:iW b (a.tdiv b.ia) k w<;>cases h2:decide (w.tm<=a)<;>simp[lZ,h1,h2]
theorem HR{x:Bg}(h:ag x=true): -1<=x.kind:=by
 simp[ag,bh] at h;omega
theorem HS{b:Bg}{u:List Us}{w:Us}{t k:Int}(hb: -1<=b.kind)(hu:∀x∈u,0<=x.val)(hv:0<=w.val)(ho:nP u w.val t k b=false):rV b (u++[w]) k t=true:=by
 unfold nP at ho;simp only[Bool.or_eq_false_iff,decide_eq_false_iff_not] at ho
 have e:LO b u k t=(u.filter (gb b t k)).filter λx=>decide (x.tm<=t):=by
  unfold LO;congr 1;exact List.filter_congr λx _=>Tf hb
 have h1:=iB (λx=>decide (x.tm<=t)) (u.filter (gb b t k));have h2:=xr (λx=>decide (x.tm<=t)) (u.filter (gb b t k)) λx hx=>hu x (dN.1 hx).1;rw[<-e] at h1 h2;unfold rV oP;rw[LQ];simp only[aQ,decide_eq_true_eq,List.length_append,Qh];split<;>simp only[ea,List.length_nil,sA]<;>(have:kv []=0:=rfl)<;>omega
theorem NH{l:List Bg}{u:List Us}{w:Us}{t k:Int}(hr:∀x∈l,ag x=true)(hu:∀x∈u,0<=x.val)(hv:0<=w.val)(Db:w.tm=t)(ht:∀x∈u,x.tm<=t)
 (jV:(sZ (lg l w.kind t k) u w.val t k).2.1=true) (hI:Ka l u k):Ka l (u++[w]) k:=by
 have Rt:∀b∈lg l w.kind t k,nP u w.val t k b=false:=λb hb=>by
  cases h:nP u w.val t k b with
  |false=>rfl
  |true=>
   unfold sZ at jV
   cases hf:(lg l w.kind t k).find? (nP u w.val t k) with
   |none=>rw[List.find?_eq_none] at hf;exact absurd h (hf b hb)
   |some c=>rw[hf] at jV;cases jV
 have MF:∀n t',∀b∈lg l n t' k,-1<=b.kind:=λn t' b hb=>HR (hr b (dN.1 hb).1);intro x hx b hb;rcases cL.1 hx with hx|hx
 · cases hc:iW b (x.tm.tdiv b.ia) k w&&decide (w.tm<=x.tm) with
   |false=>
    unfold rV oP;rw[LQ,hc];have:=hI x hx b hb;unfold rV oP at this;simpa using this
   |true=>
    rw[aQ,decide_eq_true_eq] at hc;have h1:=ht x hx;(have e:x.tm=t:=by omega);rw[e] at hb ⊢;refine HS (MF _ _ b hb) hu hv (Rt b ?_);obtain⟨hm,hq⟩:=dN.1 hb;refine dN.2 ⟨hm,?_⟩;rw[aQ] at hq ⊢;refine⟨?_,hq.2⟩;have h2:=hc.1;have h3:=MF _ _ b hb;simp only[iW,aQ,Bool.or_eq_true,decide_eq_true_eq] at h2;simp only[BV,Bool.or_eq_true,decide_eq_true_eq];omega
 · rw[gE] at hx
   subst hx;rw[Db] at hb ⊢;exact HS (MF _ _ b hb) hu hv (Rt b hb)
theorem NI{l:List Bg}{n t k k':Int}(hk:k<=k')(h:∀b∈l,¬(k<b.known/\b.known<=k')):lg l n t k'=lg l n t k:=by
 have hc:∀b∈l,ee t k' b=ee t k b:=λb hb=>by
  have:=h b hb;unfold ee;congr 1;rw[decide_eq_decide];omega
 refine List.filter_congr λy hy=>?_;congr 1;unfold jN;rw[hc y hy];congr 2;rw[Bool.eq_iff_iff,kS,kS];constructor
 · rintro⟨z,hz,h1⟩
   refine⟨z,hz,?_⟩;unfold Td at h1 ⊢;rwa[hc z hz] at h1
 · rintro⟨z,hz,h1⟩
   refine⟨z,hz,?_⟩;unfold Td at h1 ⊢;rwa[hc z hz]
theorem Kb{l:List Bg}{u:List Us}{k k':Int}(hk:k<=k')(h:∀b∈l,¬(k<b.known/\b.known<=k'))(hu:∀x∈u,x.known<=k)(hI:Ka l u k):Ka l u k':=by
 intro x hx b hb;rw[NI hk h] at hb;have:=hI x hx b hb
 have e:LO b u k' x.tm=LO b u k x.tm:=by
  unfold LO;congr 1;refine List.filter_congr λy hy=>?_;have:=hu y hy;unfold iW;rw[decide_eq_true this,decide_eq_true (show y.known<=k' by omega)]
 unfold rV at *;rwa[e]
abbrev Sm:=Int×Int
def Kc(m:List (Int×Sm))(x:Us):List (Int×Sm):=dQ x.tm (((bn x.tm m).getD (0,0)).1+1,((bn x.tm m).getD (0,0)).2+x.val) m
def ud(F:List Us):List (Int×Sm):=F.foldl Kc []
def gS(M:List (Int×Sm))(t:Int):Sm:=(bn t M).getD (0,0)
structure Sp where
 tm:Int
 val:Int
 ok:Bool
def Rv(b:Bg)(M:List (Int×Sm))(s:Sm×List Sp)(t:Int):Sm×List Sp:=((s.1.1+(gS M t).1,s.1.2+(gS M t).2),s.2++[⟨t,s.1.1+(gS M t).1,oP b (s.1.1+(gS M t).1) (s.1.2+(gS M t).2)⟩])
def rW(b:Bg)(M:List (Int×Sm))(K:List Int):Sm×List Sp:=K.foldl (Rv b M) ((0,0),[])
def l7(a:Int)(l:List Sp):Int:=l.foldl (λs x=>if x.tm<=a then x.val else s) 0
def Az(M:List (Int×Sm))(K:List Int):Int:=(K.map λt=>(gS M t).1).sum
theorem wu(a:Int)(l:List Sp)(x:Sp):l7 a (l++[x])=if x.tm<=a then x.val else l7 a l:=by
 unfold l7;rw[fG];rfl
theorem LR(b:Bg)(M:List (Int×Sm))(a:Int):∀(K:List Int) (s:Sm×List Sp),(∀t∈K,a<t)->l7 a (K.foldl (Rv b M) s).2=l7 a s.2
 |[],_,_=>rfl
 |t::r,s,h=>by
  rw[lE,LR b M a r _ λx hx=>h x (by simp[hx])];have:=h t (by simp);unfold Rv;rw[wu,if_neg (by show ¬ t<=a;omega)]
theorem LS(b:Bg)(M:List (Int×Sm))(a:Int):∀(K:List Int) (s:Sm×List Sp),K.Pairwise (· < ·)->l7 a s.2=s.1.1->l7 a (K.foldl (Rv b M) s).2=s.1.1+Az M (K.filter λt=>decide (t<=a))
 |[],s,_,h=>by simp[Az,h]
 |t::r,s,hp,h=>by
  rw[List.pairwise_cons] at hp;by_cases ht:t<=a
  · rw[lE,LS b M a r _ hp.2 (by unfold Rv;rw[wu,if_pos ht]),lZ,if_pos (by simpa using ht)]
    show s.1.1+(gS M t).1+_=_;simp only[Az,bE,List.sum_cons];omega
  · rw[LR b M a (t::r) s λx hx=>by
     rcases cy.1 hx with rfl|hx
     · omega
     · have:=hp.1 x hx;omega,h]
    have e:(t::r).filter (λt=>decide (t<=a))=[]:=by
     rw[List.filter_eq_nil_iff];intro x hx;rcases cy.1 hx with rfl|hx
     · simpa using ht
     · have:=hp.1 x hx;simp;omega
    rw[e];simp[Az]
theorem VZ(m:List (Int×Sm))(x:Us)(t:Int):(gS (Kc m x) t).1=(gS m t).1+if x.tm=t then 1 else 0:=by
 unfold gS Kc;rw[dj];by_cases h:t=x.tm
 · subst h;simp
 · rw[if_neg h,if_neg (λe=>h e.symm)];simp
theorem EV:∀(F:List Us) (m:List (Int×Sm)) (t:Int),t∈(F.foldl Kc m).map bp↔t∈m.map bp\/ ∃x∈F,x.tm=t
 |[],m,t=>by simp
 |a::r,m,t=>by
  rw[lE,EV r]
  have:t∈(Kc m a).map bp↔t∈m.map bp\/a.tm=t:=by
   unfold Kc;rw[so];split
   · rename_i h
     constructor
     · exact .inl
     · rintro(h1|rfl)
       · exact h1
       · exact h
   · rw[cL,gE]
     constructor<;>(rintro(h|h);exact .inl h;exact .inr h.symm)
  rw[this];simp only[cy];constructor
  · rintro((h|h)|⟨x,hx,h⟩)
    · exact .inl h
    · exact .inr ⟨a,.inl rfl,h⟩
    · exact .inr ⟨x,.inr hx,h⟩
  · rintro(h|⟨x,rfl|hx,h⟩)
    · exact .inl (.inl h)
    · exact .inl (.inr h)
    · exact .inr ⟨x,hx,h⟩
theorem AA:∀(F:List Us) (m:List (Int×Sm)),(m.map bp).Nodup->((F.foldl Kc m).map bp).Nodup
 |[],_,h=>h
 |a::r,m,h=>AA r _ (mX h)
theorem EW{a:Int}(q:Int->Bool):∀K:List Int,K.Nodup->a∈K->((K.filter q).map λt=>if a=t then(1:Int) else 0).sum=if q a then 1 else 0
 |[],_,h=>by cases h
 |t::r,hn,h=>by
  rw[List.nodup_cons] at hn
  have h0:∀K:List Int,¬ a∈K->(K.map λt=>if a=t then(1:Int) else 0).sum=0:=λK=>by
   induction K with
   |nil=>intro _;rfl
   |cons b s ih=>
    intro hb;rw[cy,not_or] at hb;rw[bE,List.sum_cons,ih hb.2,if_neg hb.1];rfl
  rcases cy.1 h with rfl|h
  · have hz:=h0 (r.filter q) λhm=>hn.1 (dN.1 hm).1
    rw[lZ];split
    · rw[bE,List.sum_cons,hz,if_pos rfl];rfl
    · exact hz
  · have LD:¬ a=t:=λe=>hn.1 (e▸h)
    rw[lZ];split
    · rw[bE,List.sum_cons,EW q r hn.2 h,if_neg LD];simp
    · exact EW q r hn.2 h
theorem LU(a:Int)(K:List Int)(hn:K.Nodup):∀(F:List Us) (m:List (Int×Sm)),(∀x∈F,x.tm∈K)->Az (F.foldl Kc m) (K.filter λt=>decide (t<=a))=Az m (K.filter λt=>decide (t<=a))+((F.filter λx=>decide (x.tm<=a)).length:Int)
 |[],m,_=>by simp
 |x::r,m,h=>by
  rw[lE,LU a K hn r _ λy hy=>h y (by simp[hy])];have h1:=EW (λt=>decide (t<=a)) K hn (h x (by simp))
  have e:∀L:List Int,Az (Kc m x) L=Az m L+(L.map λt=>if x.tm=t then(1:Int) else 0).sum:=λL=>by
   induction L with
   |nil=>rfl
   |cons t s ih=>
    unfold Az at ih ⊢;simp only[bE,List.sum_cons];rw[ih,VZ];omega
  rw[e,h1,lZ];by_cases hx:x.tm<=a
  · simp[hx];omega
  · simp[hx]
theorem NJ(b:Bg)(F:List Us)(a:Int):l7 a (rW b (ud F) (((ud F).map bp).mergeSort λx y=>decide (x<=y))).2=((F.filter λx=>decide (x.tm<=a)).length:Int):=by
 have hp:=List.mergeSort_perm ((ud F).map bp) λx y=>decide (x<=y);have hs:=List.pairwise_mergeSort (le:=λx y:Int=>decide (x<=y)) (λa b c h1 h2=>by simp at *;omega) (λa b=>by simp;omega) ((ud F).map bp);have iX:((ud F).map bp).Nodup:=AA F [] (by simp);generalize hK:((ud F).map bp).mergeSort (λx y=>decide (x<=y))=K at *;have hn:K.Nodup:=hp.nodup_iff.2 iX
 have aC:K.Pairwise (· < ·):=by
  have:=hs.and hn;refine this.imp λh=>?_;have h1:=h.1;have h2:=h.2;simp at h1;omega
 unfold rW;rw[LS b (ud F) a K _ aC rfl]
 have:=LU a K hn F [] λx hx=>by
  rw[hp.mem_iff];exact(EV F [] x.tm).2 (.inr ⟨x,hx,rfl⟩)
 unfold ud;rw[this]
 have e:∀L:List Int,Az [] L=0:=λL=>by
  induction L with
  |nil=>rfl
  |cons t s ih=>unfold Az at ih ⊢;rw[bE,List.sum_cons,ih];rfl
 rw[e];simp
end Ac
namespace Ac
open bx
theorem cE{α:Type}{l:List α}{i:Nat}{x:α}{p:α->Bool}(h:l[i]? =some x)(ha:(l.take i).all p=true)(hp:p x=true):(l.take (i+1)).all p=true:=by
 rw[bz,h];simp[List.all_append,ha,hp]
theorem iU{α:Type}{l:List α}{i:Nat}{x:α}{p:α->Bool}(h:l[i]? =some x)(hp:p x=false):l.all p=false:=by
 rw[List.all_eq_false];exact⟨x,aO h,by rw[hp];simp⟩
theorem aB(lim:Int)(l:List Int)(hl:l.length<1000000):aa af 44 [eI lim,dm l] (.bool (l.all (bh 0 (lim-1)))):=by
 obtain⟨R,hR⟩:∃R,R=l.all (bh 0 (lim-1)):=⟨_,rfl⟩;rw[<-hR];refine aa.e Tryz.func44 21 [.tmp 4] [0,1,4,6,7,8,9,10,19] ?_;refine cb ?_;refine bY.bK (α:={i:Nat // i<=l.length/\(l.take i).all (bh 0 (lim-1))=true}) mixed [0,1,4,6,7,8,9,10,19] (λi=>[(9,.p (eI i.1))]) (λi=>l.length-i.1) ⟨0,by omega,rfl⟩ ?_ ?_
 · exact aG trivial
 rintro⟨i,hi,hq⟩;have hi:i<=l.length:=hi;have hq:(l.take i).all (bh 0 (lim-1))=true:=hq
 cases hx:l[i]? with
 |none=>
  have dD:l.length<=i:=List.getElem?_eq_none_iff.1 hx;(have bV:¬((i:Int)<((l.map eI).length:Int)):=by rw[ak];omega);rw[List.take_of_length_le dD] at hq;refine bM (kN bV) (λhc=>?_)
  all_goals exact aP.bool (by rw[hR,hq])
 |some x=>
  have aC:i<l.length:=(aq.1 hx).1;(have ay:((i:Int)<((l.map eI).length:Int)):=by rw[ak];omega);refine gG (kY ay) (kX hx) (λhc=>ae (λhc=>?_) λhc=>ae (λhc=>?_) λhc=>?_)
  all_goals first
  |(have hf:bh 0 (lim-1) x=false:=by simp only[bh,Bool.and_eq_false_iff,decide_eq_false_iff_not];omega
    exact aP.bool (by rw[hR,iU hx hf]))
  |(have hf:bh 0 (lim-1) x=true:=by simp only[bh,aQ,decide_eq_true_eq];omega
    refine⟨⟨i+1,aC,cE hx hq hf⟩,by show l.length-(i+1)<l.length-i;omega,?_⟩
    exact aG trivial)
theorem v1(lim a:Int):aa af 44 [eI lim,dm [a]] (.bool (bh 0 (lim-1) a)):=by
 have:=aB lim [a] (by simp);simpa using this
theorem v2(lim a b:Int):aa af 44 [eI lim,dm [a,b]] (.bool (bh 0 (lim-1) a&&bh 0 (lim-1) b)):=by
 have:=aB lim [a,b] (by simp);simpa using this
theorem V6:ko af 98=some (tV,4):=by kernel_rfl
theorem nW(l:List Bg)(u:List Us)(hl:l.length<1000000)(hch:aJ l=0)(hu:u.length<=4096):aa af 43 [eL l,EK u] (eI (if yf u then 0 else 180)):=by
 have q1:=bm l hl;rw[hch] at q1;(have iP:¬(4096:Int)<((u.map eU).length:Int):=by rw[ak];omega);refine aa.e Tryz.func43 62 [.tmp 4] YB ?_;refine gg q1 (kN iP) (kR V6) (λhc=>?_);refine bY.bq (α:={i:Nat // i<=u.length/\Qg u i}) mixed YB (λi=>[(20,.p (eI i.1))]) (λi=>[(576,.map tV (eM eI PV.bool (iC (u.take i.1))))]) (λ_=>0) (λi=>u.length-i.1) ⟨0,by omega,by simp[Qg]⟩ ?_ ?_
 · exact aG trivial
 rintro⟨i,hi,hq⟩;have hi:i<=u.length:=hi;have hq:Qg u i:=hq
 repeat' (first|exact fg|(refine stx ?_;first|exact bW _|refine aE ?_)|(refine kq ?_;first|refine fR (kZ (v1 4096 x.doc)) ?_|refine fR (kZ (v1 16 x.kind)) ?_|refine fR (kZ (v1 1099511627777 x.val)) ?_|refine fR (kZ (v2 1099511627776 x.tm x.known)) ?_)|((fail_if_success refine ft ?_);(conv=>whnf)<;>(first|exact fh|refine jr.of (bj PV.bool iM x.doc (iC (u.take i))) (λz hz=>?_) (λhz=>?_)|refine str ?_|refine Br.dec (λhc=>?_) λhc=>?_|refine Br.mk (λhc=>?_) λhc=>?_|exact PV.ao|refine PV.ai ?_ ?_|refine ae ?_ ?_|refine aD λx hx=>?_|refine aE ?_|refine bX (λhn=>?_) ?_|exact fv|refine bS λaZ=>?_|refine al ?_ ?_|rw[V6]|refine fu ?_|fail)))<;>(try exact fi)
 all_goals first
 |(have hc:¬(i:Int)<((u.map eU).length:Int):=hc
   rw[ak] at hc
   rw[if_pos (LM hq (by omega))];exact aP.refl _)
 |(have sF:u[i]? =some x:=hx
   have bad:rU x=false->aP (eI 180) (eI (if yf u then 0 else 180)):=λh=>by rw[ES sF (Or.inl h)];exact aP.refl _
   first
   |(have g:bh 0 4095 x.doc=false:=(by assumption:bh 0 (4096-1) x.doc=false)
     exact bad (by unfold rU;rw[g];rfl))
   |(have g:bh 0 15 x.kind=false:=(by assumption:bh 0 (16-1) x.kind=false)
     exact bad (by unfold rU;rw[g];simp))
   |(have g:bh 0 1099511627776 x.val=false:=(by assumption:bh 0 (1099511627777-1) x.val=false)
     exact bad (by unfold rU;rw[g];simp))
   |(have g:(bh 0 TM x.tm&&bh 0 TM x.known)=false:=(by assumption:(bh 0 (1099511627776-1) x.tm&&bh 0 (1099511627776-1) x.known)=false)
     exact bad (by unfold rU;rw[g];simp))
   |(have g1:bh 0 4095 x.doc=true:=(by assumption:bh 0 (4096-1) x.doc=true)
     have g2:bh 0 15 x.kind=true:=(by assumption:bh 0 (16-1) x.kind=true);have g3:bh 0 1099511627776 x.val=true:=(by assumption:bh 0 (1099511627777-1) x.val=true);have g4:(bh 0 TM x.tm&&bh 0 TM x.known)=true:=(by assumption:(bh 0 (1099511627776-1) x.tm&&bh 0 (1099511627776-1) x.known)=true);(have hr:rU x=true:=by unfold rU;rw[g1,g2,g3,g4];rfl);have hg:=rT u x.doc i;rw[hz] at hg;by_cases hd:x.doc∈(u.take i).map Us.doc
     · rw[if_pos hd] at hg
       first
       |(injection hg with hg;subst hg
         rw[ES sF (Or.inr hd)];exact aP.refl _)
       |(injection hg with hg;rw[hg] at hc;exact absurd hc (by decide))
       |(cases hg;done)
     · rw[if_neg hd] at hg
       first
       |(cases hg;done)
       |(refine⟨⟨i+1,(aq.1 sF).1,HP sF hq hr hd⟩,by show u.length-(i+1)<u.length-i;have:=(aq.1 sF).1;omega,?_⟩
         refine aG ?_
         all_goals(show _=eM eI PV.bool (iC (u.take (i+1)));rw[Dq sF,<-cU PV.bool iM]))))
end Ac
namespace Ac
open bx
abbrev eBc(b:Bg)(u:List Us)(k:Int):List PV:=[eI b.no,eI b.tm,eI b.known,eI b.kind,eI b.ia,eI b.cnt,eI b.val,.bool b.gone,EK u,eI k]
def eBk(b:Bg)(u:List Us)(k:Int):PV:= .agg (eBc b u k)
def HY(s:Sm):PV:= .agg [eI s.1,eI s.2]
theorem HZ(b:Bg)(u:List Us)(k p:Int):aa af 50 [eBk b u k,eI p] (.fn (.func 103) [] [.ro (eBc b u k),.ro [eI p]]):=by
 refine aa.e Tryz.func50 6 [.tmp 4] [0,1,2,3,4] ?_;exact cb trivial
theorem AI(b:Bg)(u:List Us)(k:Int)(s:Sm):aa af 45 [eBk b u k,HY s] (.bool (oP b s.1 s.2)):=by
 refine aa.e Tryz.func45 19 [.tmp 4] [0,1,2,3,4] ?_;refine cb (ae (λhc=>?_) λhc=>?_)
 all_goals(refine aP.bool ?_;first|(simp_all [oP];done)|(simp_all [oP];intros;omega))
theorem Dv(s:Sm)(x:Us)(h1:0<=s.1/\s.1<=1000000)(h2:0<=s.2/\s.2<=1099511627776*1000000)(h3:0<=x.val/\x.val<=1099511627776):aa af 51 [HY s,eU x] (HY (s.1+1,s.2+x.val)):=by
 refine aa.e Tryz.func51 14 [.cell 4 103] [0,1,2,3,4] ?_;exact cb trivial
theorem LY(b:Bg)(u:List Us)(k p:Int)(hl:u.length<1000000)(hb:1<=b.ia)(hu:∀x∈u,rU x=true):Iter af 103 [.ro (eBc b u k),.ro [eI p]] ((u.filter (iW b p k)).map λy=>[eU y]):=by
 refine Iter.e Tryz.func103 51 [0,1,2,5,6,8,9,10,11,49] ?_;intro G hG si jM;refine cb ?_;refine bY.bq (α:={i:Nat // i<=u.length/\bF (iW b p k) u i<=G.stop}) mixed [0,1,2,5,6,8,9,10,11,49] (λi=>[(10,.p (eI i.1))]) (λ_=>[]) (λi=>bF (iW b p k) u i.1) (λi=>u.length-i.1) ⟨0,by omega,by simp[bF]⟩ ?_ ?_
 · exact aG trivial
 rintro⟨i,hi,hs⟩;have hi:i<=u.length:=hi;have hs:bF (iW b p k) u i<=G.stop:=hs;(have BC:G.xs.length=(u.filter (iW b p k)).length:=by rw[jM];simp);refine cb (ae (λhc x hx=>ae (λhc=>ae (λhc=>ae (ae ?_ ?_) (ae (λhc=>ae (ae ?_ ?_) (ae (λhc=>?_) λhc=>?_)) λhc=>?_)) λhc=>ae (λhc=>ae (ae ?_ ?_) (ae (λhc=>ae (ae ?_ ?_) (ae (λhc=>?_) λhc=>?_)) λhc=>?_)) λhc=>?_) λhc=>?_) λhc=>?_)
 all_goals first
 |(have hc:¬(i:Int)<((u.map eU).length:Int):=hc
   rw[ak] at hc;have e:=mZ (iW b p k) (show u.length<=i by omega);show bF (iW b p k) u i=min (G.stop+1) ((u.filter (iW b p k)).map λy=>[eU y]).length
   rw[ak];omega)
 |(have hx:u[i]? =some x:=hx
   have Y2:=hu x (aO hx);have htx:=u9 (Dr Y2).1 hb;have hbx:=(Dr Y2).2;simp only[TM] at hbx
   first
   |omega
   |(have hq:iW b p k x=false:=by first|(simp_all [iW];done)|(simp_all [iW];intros;omega)
     have aC:=(aq.1 hx).1;have e:=mn (iW b p k) hx hq;refine⟨⟨i+1,aC,by show bF (iW b p k) u (i+1)<=G.stop;omega⟩,by show u.length-(i+1)<u.length-i;omega,?_⟩;refine aG ?_
     exact e)
   |(have hq:iW b p k x=true:=by simp_all [iW];done
     have aC:=(aq.1 hx).1;have h1:=(aq.1 (ew (iW b p k) hx hq)).1
     first
     |(show bF (iW b p k) u i<G.xs.length
       omega)
     |(show _=List.map AV.p (G.xs.getD (bF (iW b p k) u i) [])
       have e:G.xs.getD (bF (iW b p k) u i) []=[eU x]:=by
        rw[jM];simp[cF,ew (iW b p k) hx hq]
       rw[e];rfl)
     |(have hc:bF (iW b p k) u i≠G.stop:=hc
       have e:=mY (iW b p k) hx hq;refine⟨⟨i+1,aC,by show bF (iW b p k) u (i+1)<=G.stop;omega⟩,by show u.length-(i+1)<u.length-i;omega,?_⟩;refine aG ?_
       exact e)
     |(have hc:¬ bF (iW b p k) u i≠G.stop:=hc
       show bF (iW b p k) u i+1=min (G.stop+1) ((u.filter (iW b p k)).map λy=>[eU y]).length
       rw[ak];omega)))
def Tl(a:Int)(s:Sm)(x:Us):Sm:=if x.tm<=a then(s.1+1,s.2+x.val) else s
def Fw(a:Int)(F:List Us):Sm:=F.foldl (Tl a) (0,0)
theorem H0{a:Int}{F:List Us}{i:Nat}{y:Us}(h:F[i]? =some y):Fw a (F.take (i+1))=Tl a (Fw a (F.take i)) y:=by
 unfold Fw;rw[bz,h];simp[fG]
theorem Kf(a:Int):∀(F:List Us) (s:Sm),F.foldl (Tl a) s=(s.1+((F.filter λx=>decide (x.tm<=a)).length:Int),s.2+kv (F.filter λx=>decide (x.tm<=a)))
 |[],s=>by simp[kv]
 |x::r,s=>by
  rw[lE,Kf a r,lZ];unfold Tl;by_cases h:x.tm<=a
  · simp only[h,if_true,decide_true,ea,sA]
    refine Prod.ext ?_ ?_<;>simp only<;>omega
  · simp only[h,if_false,decide_false];rfl
theorem V7{a:Int}(F:List Us)(hF:∀y∈F,0<=y.val/\y.val<=1099511627776):∀i,0<=(Fw a (F.take i)).1/\(Fw a (F.take i)).1<=i/\0<=(Fw a (F.take i)).2/\(Fw a (F.take i)).2<=1099511627776*(i:Int):=by
 intro i
 induction i with
 |zero=>simp[Fw]
 |succ i ih=>
  cases hx:F[i]? with
  |none=>
   (have:F.take (i+1)=F.take i:=by rw[bz,hx];simp);rw[this];omega
  |some y=>
   have:=hF y (aO hx);rw[H0 hx];unfold Tl;split<;>first|omega|(simp only;omega)
theorem xv(b:Bg)(u:List Us)(k a:Int)(hl:u.length<1000000)(hb:1<=b.ia)(FL:b.ia<=1099511627776)(ha:0<=a/\a<=TM)(hu:∀x∈u,rU x=true):aa af 46 [eBk b u k,eI a] (HY (Fw a (u.filter (iW b (a.tdiv b.ia) k)))):=by
 have gh:=LY b u k (a.tdiv b.ia) hl hb hu;have hF:∀y∈u.filter (iW b (a.tdiv b.ia) k),0<=y.val/\y.val<=1099511627776:=λy hy=>ET (hu y (dN.1 hy).1);have WW:=iB (iW b (a.tdiv b.ia) k) u
 have jd:∀y∈((u.filter (iW b (a.tdiv b.ia) k)).map λy=>[eU y]),y.length=1:=λy hy=>by
  obtain⟨z,_,rfl⟩:=aY.1 hy;rfl
 (have du:∀i y,(u.filter (iW b (a.tdiv b.ia) k))[i]? =some y->((u.filter (iW b (a.tdiv b.ia) k)).map λy=>[eU y]).getD i []=[eU y]:=λi y h=>by simp[cF,h]);have q1:=HZ b u k (a.tdiv b.ia);have htd:=u9 ha.1 hb;have RH:a<=1099511627775:=ha.2;generalize u.filter (iW b (a.tdiv b.ia) k)=F at *;refine aa.e Tryz.func46 22 [.cell 4 103] [0,1,2,3,4,5,12,13,17] ?_;refine bM q1 ?_
 all_goals try omega
 refine bY.range mixed gh (by kernel_rfl) rfl [0,1,2,3,4,5,12,13,17] F.length [0,64,128] (λi=>([(128,.cells [.p (eI (Fw a (F.take i)).1),.p (eI (Fw a (F.take i)).2)]),(64,.cells [.p (eI a)]),(0,.cells [.p (eI b.no),.p (eI b.tm),.p (eI b.known),.p (eI b.kind),.p (eI b.ia),.p (eI b.cnt),.p (eI b.val),.p (.bool b.gone),.p (EK u),.p (eI k)])],640)) rfl (gN rfl) (by simp) (by simp) jd (λi hi hm=>?_) (λ_=>?_)
 · rw[ak] at hi
   obtain⟨y,hy⟩:∃y,F[i]? =some y:=⟨_,aV hi⟩;rw[du i y hy];have cu:=H0 (a:=a) hy;have r7:=V7 (a:=a) F hF i;have XE:=hF y (aO hy);generalize Fw a (F.take i)=s at *;have q2:=Dv s y (by omega) (by omega) XE;refine bM q2 (ae (λhc=>?_) λhc=>?_)
   all_goals first
   |(have e:Tl a s y=(s.1+1,s.2+y.val):=by unfold Tl;rw[if_pos (by assumption)]
     rw[e] at cu
     try dsimp only
     rw[cu]
     exact nq trivial)
   |(have e:Tl a s y=s:=by unfold Tl;rw[if_neg (by assumption)]
     rw[e] at cu
     try dsimp only
     rw[cu]
     exact nq trivial)
   |trace_state
 · have eF:F.take (F.map λy=>[eU y]).length=F:=by rw[ak,List.take_length]
   rw[eF];exact cb trivial
end Ac
namespace Ac
open bx
theorem jv(l:List Bg)(u:List Us)(b:Bg)(k:Int)(hl:l.length<1000000)(hb:b∈l)(hg:b.gone=false)(hs:l.Pairwise (λa b=>a.no<b.no)):aa af 49 [eL l,EK u,eI b.no,eI k] (.bR [eBk b u k,.bool true]):=by
 obtain⟨j,hj⟩:=List.getElem?_of_mem hb;have pg:=(aq.1 hj).1;refine aa.e Tryz.func49 33 [.cell 8 100,.tmp 9] YC ?_;refine cb ?_;refine bY.bK (α:={i:Nat // i<=j}) mixed YC (λi=>[(14,.p (eI i.1))]) (λi=>l.length-i.1) ⟨0,by omega⟩ ?_ ?_
 · exact aG trivial
 rintro⟨i,hi⟩;have hi:i<=j:=hi;obtain⟨x,hx⟩:∃x,l[i]? =some x:=⟨_,aV (by omega)⟩;(have ay:((i:Int)<((l.map eA).length:Int)):=by rw[ak];omega);by_cases gx:i=j
 · subst gx
   refine gG (kY ay) (kX hj) (λhc hc hc=>?_)
   all_goals first
   |(exact absurd rfl (by assumption))
   |(have hc:b.gone=true:=by assumption
     rw[hg] at hc;cases hc)
   |(exact aP.refl _)
   |trace_state
 · have pR:¬ x.no=b.no:=by have:=tI Bg.no hs (show i<j by omega) hx hj;omega
   refine gG (kY ay) (kX hx) (λhc hc=>?_)
   all_goals first
   |(refine⟨⟨i+1,by omega⟩,by show l.length-(i+1)<l.length-i;omega,?_⟩
     exact aG trivial
     done)
   |(exact absurd (by assumption) pR)
   |trace_state
theorem H2(l:List Bg)(u:List Us)(b:Bg)(a k:Int)(hl:l.length<1000000)(hz:aJ l=0)(Lz:u.length<=4096)(hu:yf u=true)(hb:b∈l)(hg:b.gone=false)(ha:bh 0 TM a=true)(hk:bh 0 TM k=true):aa af 11 [eL l,EK u,eI b.no,eI a,eI k] (.bR [eI (LO b u k a).length,eI (kv (LO b u k a)),eI 0]):=by
 have q1:=nW l u hl hz Lz;rw[hu,if_pos rfl] at q1;obtain⟨_,hr,hs⟩:=dI hz;have q2:=jv l u b k hl hb hg hs;have q3:=v2 1099511627776 a k
 have e3:(bh 0 (1099511627776-1) a&&bh 0 (1099511627776-1) k)=true:=by
  show(bh 0 TM a&&bh 0 TM k)=true;rw[ha,hk];rfl
 rw[e3] at q3;have hrb:=hr b hb
 have hU:∀x∈u,rU x=true:=λx hx=>by
  unfold yf at hu;rw[aQ] at hu;exact List.all_eq_true.1 hu.1 x hx
 have hp:1<=b.ia/\b.ia<=1099511627776:=by
  simp only[ag,bh,aQ,decide_eq_true_eq] at hrb;omega
 (have hA:0<=a/\a<=TM:=by simpa[bh] using ha);have q4:=xv b u k a (by omega) hp.1 hp.2 hA hU;unfold Fw at q4;rw[Kf] at q4;refine aa.e Tryz.func11 47 [.tmp 10,.tmp 11,.tmp 12] [0,1,2,3,4,10,11,12,13,14,15,16,21,39] ?_;refine oa q1 q2 (kZ q3) q4 ?_;refine aP.of ?_;show PV.bR [eI (0+_),eI (0+_),_]=_;rw[Int.zero_add,Int.zero_add];rfl
def V8(s:Sp):PV:= .agg [eI s.tm,eI s.val,.bool s.ok]
theorem Qs(b:Bg)(u:List Us)(k a:Int):oP b (Fw a (u.filter (iW b (a.tdiv b.ia) k))).1 (Fw a (u.filter (iW b (a.tdiv b.ia) k))).2=rV b u k a:=by
 unfold Fw rV LO;rw[Kf];simp only[Int.zero_add]
theorem Qu{l:List Bg}{u:List Us}{k:Int}{i:Nat}{x:Us}(h:u[i]? =some x):(u.take (i+1)).foldl (Fv l u k) []=Fv l u k ((u.take i).foldl (Fv l u k) []) x:=by
 rw[bz,h];simp[fG]
theorem Qv{S:List Bg}{u:List Us}{k a:Int}{m:List (Int×Bool)}{i:Nat}{x:Bg}(h:S[i]? =some x):(S.take (i+1)).foldl (Fu u k a) m=Fu u k a ((S.take i).foldl (Fu u k a) m) x:=by
 rw[bz,h];simp[fG]
theorem LZ{l:List Bg}{u:List Us}{k:Int}:∀(S:List Bg) (a:Int) (m:List (Int×Bool)),(∀b∈S,b∈l)->((m.map bp).Nodup/\ ∀x∈m,∃b∈l,b.no=x.1)->(((S.foldl (Fu u k a) m).map bp).Nodup/\ ∀x∈S.foldl (Fu u k a) m,∃b∈l,b.no=x.1)
 |[],_,_,_,h=>h
 |b::r,a,m,hS,h=>by
  refine LZ r a _ (λc hc=>hS c (by simp[hc])) ?_;unfold Fu;split
  · exact h
  · refine⟨mX h.1,λx hx=>?_⟩
    have h1:x.1∈(dQ b.no true m).map bp:=aY.2 ⟨x,hx,rfl⟩;rw[so] at h1
    have h2:x.1∈m.map bp\/x.1=b.no:=by
     split at h1
     · exact .inl h1
     · rcases cL.1 h1 with h1|h1
       · exact .inl h1
       · exact .inr (gE.1 h1)
    rcases h2 with h2|h2
    · obtain⟨y,hy,e⟩:=aY.1 h2
      obtain⟨c,hc,e2⟩:=h.2 y hy;exact⟨c,hc,e2.trans e⟩
    · exact⟨b,hS b (by simp),h2.symm⟩
theorem Qw(l:List Bg)(u v:List Us)(k:Int):(((v.foldl (Fv l u k) []).map bp).Nodup/\ ∀x∈v.foldl (Fv l u k) [],∃b∈l,b.no=x.1):=by
 have:∀(v:List Us) (m:List (Int×Bool)),((m.map bp).Nodup/\ ∀x∈m,∃b∈l,b.no=x.1)->(((v.foldl (Fv l u k) m).map bp).Nodup/\ ∀x∈v.foldl (Fv l u k) m,∃b∈l,b.no=x.1):=λv=>by
  induction v with
  |nil=>intro m h;exact h
  |cons x r ih=>
   intro m h;refine ih _ ?_;unfold Fv;split
   · exact LZ _ _ _ (λb hb=>(dN.1 hb).1) h
   · exact h
 exact this v [] ⟨by simp,by simp⟩
end Ac
end Go.Proofs.YtmaiccmhkmndcaaGreatDoor
