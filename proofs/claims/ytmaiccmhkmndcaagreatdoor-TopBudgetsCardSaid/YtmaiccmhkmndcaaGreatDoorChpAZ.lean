/- A part of the proof: contracts of the functions that the statement reaches. -/
import Derived.Test.YtmaiccmhkmndcaaGreatDoorChpAY
import Derived.Test.YtmaiccmhkmndcaaGreatDoorChpAO
import Derived.Test.YtmaiccmhkmndcaaGreatDoorChpAA
set_option linter.unusedSimpArgs false
set_option linter.unusedVariables false
set_option linter.unnecessarySimpa false
set_option maxRecDepth 100000
set_option maxHeartbeats 40000000
open And renaming intro->ae
open Bool renaming and_eq_true->aQ
open Go.Proofs.Tryz renaming prog->af
open List renaming getElem?_eq_some_iff->aq,mem_filter->dN,take_add_one->bz,getElem?_eq_none_iff->bw,length_map->ak,take_of_length_le->bN,take->et,drop->eo,mem_of_getElem?->aO,length->kQ
open Nat renaming le_refl->aX
namespace Go.Proofs.YtmaiccmhkmndcaaGreatDoor
open Go Go.Sg
namespace Ac
open bx
theorem BX:ko af 70=some (xP,3):=by kernel_rfl
theorem Vy{β:Type}{o:Option β}{v:β}{A:β->Prop}{B:Prop}(h:o=some v)(k:A v):jr o A B:=by subst h;exact jr.ss k
theorem SJ{β:Type}{o:Option β}{A:β->Prop}{B:Prop}(h:o=none)(k:B):jr o A B:=by subst h;exact jr.nn k
def BY(n:Nat):List Ve.Am->AV
 |[]=>.p (.sl 0 true [])
 |a::r=>.bo n 6 0 (r.length+1)
def s7(n:Nat):List Ve.Am->ab
 |[]=>[]
 |a::r=>[(n,.row 6 ((a::r).map Ve.eA))]
theorem Y6{α:Type}{q:α->Bool}{S:List α}{j:Nat}{y:α}(hy:S[j]? =some y)(hq:q y=true)(h1:(S.filter q).length<=1):(S.take j).filter q=[]/\S.filter q=[y]:=by
 obtain⟨aC,he⟩:=aq.1 hy
 have e:S=S.take j++y::S.drop (j+1):=by
  rw[<-he,<-List.drop_eq_getElem_cons aC,List.take_append_drop]
 have h2:S.filter q=(S.take j).filter q++y::(S.drop (j+1)).filter q:=by
  have:=congrArg (List.filter q) e;rwa[List.filter_append,List.filter_cons,if_pos hq] at this
 rw[h2] at h1;simp only[List.length_append,List.length_cons] at h1;have h3:(S.take j).filter q=[]:=List.eq_nil_of_length_eq_zero (by omega);have h4:(S.drop (j+1)).filter q=[]:=List.eq_nil_of_length_eq_zero (by omega);rw[h2,h3,h4];exact⟨rfl,rfl⟩
theorem LW{α:Type}{q:α->Bool}{S:List α}{ok:Bool}(h:(S.filter q).length=if ok then 1 else 0):S.any q=ok:=by
 cases ok with
 |true=>
  rw[List.any_eq_true];obtain⟨y,hy⟩:=List.exists_mem_of_length_pos (l:=S.filter q) (by rw[h];exact Nat.zero_lt_one);obtain⟨h1,h2⟩:=dN.1 hy;exact⟨y,h1,h2⟩
 |false=>
  rw[List.any_eq_false];intro y hy hq;have:y∈S.filter q:=dN.2 ⟨hy,hq⟩;rw[List.eq_nil_of_length_eq_zero h] at this;cases this
theorem HX{α:Type}{q:α->Bool}{S:List α}{j:Nat}{y:α}(hy:S[j]? =some y):(S.take (j+1)).any q=((S.take j).any q||q y):=by
 rw[bz,hy];simp
theorem xS(b0:Bg)(l0:List Bg)(l:List Bg)(gy:l=b0::l0)(a k:Int)(hl:l.length<=100)(hz:aJ l=0)(ha:bx.bh 0 bx.TM a=true)(hk:bx.bh 0 bx.TM k=true):aa af 8 [eL l,bx.eI a,bx.eI k] (.bool true):=by
 obtain⟨_,hr,hs⟩:=dI hz;have Il:=yg l;have hTl:=AF l;have lC:=λi x (h:l[i]? =some x)=>NM h;have Uw:=λi=>AF (l.take i);refine aa.e Tryz.func8 197 [.tmp 6] Lh ?_;refine bM (kR BX) ?_;refine bY.bq (α:={i:Nat // i<=l.length}) mixed Lh (λi=>[(8,BY 1 ((l.take i.1).map (pK (eY l)))),(9,BY 2 ((l.take i.1).map (pL (eY l)))),(32,.p (bx.eI i.1))]) (λi=>(64,.map xP (eM eK bx.eI (eY (l.take i.1))))::(s7 1 ((l.take i.1).map (pK (eY l)))++s7 2 ((l.take i.1).map (pL (eY l))))) (λ_=>0) (λi=>l.length-i.1) ⟨0,by omega⟩ ?_ ?_
 · exact aG trivial
 rintro⟨i,hi⟩;have hi:i<=l.length:=hi
 cases hx:l[i]? with
 |none=>
  have dD:l.length<=i:=bw.1 hx;(have bV:¬((i:Int)<((l.map eA).length:Int)):=by rw[ak];omega);have eF:l.take i=l:=bN dD;have hC:∀(f:Bg->Int),(∀b∈l,0<=f b/\f b<=1099511627776/\(b.gone=true->f b=0))->_:=λf hf=>V2 f hf hz hl
  have wG:=hC Bg.cnt λb hb=>by
   have h1:=hr b hb;simp only[ag,bx.bh,aQ,decide_eq_true_eq] at h1
   cases hg:b.gone with
   |false=>rw[hg] at h1;simp at h1;simp;omega
   |true=>rw[hg] at h1;simp at h1;simp;omega
  have Fp:=hC Bg.val λb hb=>by
   have h1:=hr b hb;simp only[ag,bx.bh,aQ,decide_eq_true_eq] at h1
   cases hg:b.gone with
   |false=>rw[hg] at h1;simp at h1;simp;omega
   |true=>rw[hg] at h1;simp at h1;simp;omega
  change Ve.aJ (l.map (pK (eY l)))=0 at wG;change Ve.aJ (l.map (pL (eY l)))=0 at Fp;have q1:=Ve.bm (l.map (pK (eY l))) (by rw[ak];omega);rw[wG] at q1;have q2:=Ve.bm (l.map (pL (eY l))) (by rw[ak];omega);rw[Fp] at q2;rw[eF];have hCl:∀f:Bg->Ve.Am,l.map f=f b0::l0.map f:=λf=>by rw[gy];rfl
  have ml:∀e∈eY l,aa af 30 [Ve.eL (l.map (pK (eY l))),eI e.2,eI a,eI k] (.bR [eI (match kD l a k e.1 with|none=>0|some b=>b.cnt),.bool (match kD l a k e.1 with|none=>false|some b=> !b.gone),eI 0])/\
   aa af 30 [Ve.eL (l.map (pL (eY l))),eI e.2,eI a,eI k] (.bR [eI (match kD l a k e.1 with|none=>0|some b=>b.val),.bool (match kD l a k e.1 with|none=>false|some b=> !b.gone),eI 0]):=λe he=>by
   obtain⟨j,hj⟩:=List.getElem?_of_mem he;have h1:=Il.at hj;have h2:=(aq.1 hj).1;(have A3:bh 0 1048576 e.2=true:=by simp only[bh,aQ,decide_eq_true_eq];omega);have v1:=Ve.xu (l.map (pK (eY l))) e.2 a k (by rw[ak];omega) wG A3 ha hk;have v2:=Ve.xu (l.map (pL (eY l))) e.2 a k (by rw[ak];omega) Fp A3 ha hk;rw[val_last (pK (eY l)) (λb=>⟨rfl,rfl,rfl,rfl⟩) he a k hs] at v1;rw[val_last (pL (eY l)) (λb=>⟨rfl,rfl,rfl,rfl⟩) he a k hs] at v2;refine⟨?_,?_⟩
   · revert v1;cases kD l a k e.1<;>exact λh=>h
   · revert v2;cases kD l a k e.1<;>exact λh=>h
  have Ti:∀n:Nat,n<3->aa af 29 [eL l,bx.eI n,bx.eI a,bx.eI k] (eR (lg l n a k,0)):=λn hn=>by
   have h:=nh l n a k (by omega);have V3:bx.bh 0 15 (n:Int)=true:=by simp only[bx.bh,aQ,decide_eq_true_eq];omega
   have dk:kh n a k=true:=by
    unfold kh;rw[ha,hk,V3];rfl
   unfold wq at h;rwa[if_pos hz,if_pos dk] at h
  have Ux:∀n:Int,((eY l).countP (HW l n a k))=(lg l n a k).length:=λn=>Qo n a k hs;have jq:∀(n:Int) (q:Ky),q.1= -1\/q.1=n->_:=λn q hq=>Du n a k q hq hs;clear lC Uw wG Fp hC;rw[hCl,hCl];rw[hCl] at q1 q2;simp only[hCl] at ml;generalize hT:eY l=T at *;generalize pK T b0=c0 at *;generalize pL T b0=v0 at *;generalize l0.map (pK T)=C at *;generalize l0.map (pL T)=V at *
  have Qp:∀(c:Ve.Am) (C:List Ve.Am),Ve.eL (c::C)= .sl 6 false (et (C.length+1) (eo 0 ((c::C).map Ve.eA))):=λc C=>by
   rw[List.drop_zero,bN (by simp)];rfl
  rw[Qp] at q1 q2;simp only[Qp] at ml;refine oa (kN bV) q1 q2 (kF 13 [(7,false),(8,false),(9,false)]) (λhc=>?_);refine bY.bq (α:={n:Nat // n<=3}) mixed Lh (λn=>[(96,.p (bx.eI n.1))]) (λ_=>[]) (λ_=>0) (λn=>3-n.1) ⟨0,by omega⟩ ?_ ?_
  · exact aG trivial
  rintro⟨n,hn⟩;have hn:n<=3:=hn;by_cases TQ:n<3
  · have hyn:(n:Int)<3:=by omega
    have q3:=Ti n TQ;have hm:=Ux n;have hke:=jq n;have hSl:(lg l n a k).length<=100:=Nat.le_trans (List.length_filter_le _ _) hl;generalize lg l n a k=S at *;refine gg (kY hyn) q3 (kR BX) (λhc=>?_);have hpT:T.countP (HW l n a k)<=T.length:=List.countP_le_length;refine bY.bq (α:={R:Km // (∀e∈R,e∈T)/\R.length<=T.length}) mixed Lh (λR=>[(17,.p (bx.eI ((T.countP (HW l n a k):Int)-(R.1.countP (HW l n a k):Int))))]) (λR=>[(2240,.iter (eM eK bx.eI R.1) none)]) (λ_=>0) (λR=>R.1.length) ⟨T,λ_ h=>h,aX _⟩ ?_ ?_
    · exact aG trivial
    rintro⟨R,hR,V4⟩;have hR:∀e∈R,e∈T:=hR;have V4:R.length<=T.length:=V4;have hpR:R.countP (HW l n a k)<=R.length:=List.countP_le_length;refine cb ?_;refine Nx.of (R:=R) (f:=λx=>(eK x.1,bx.eI x.2)) (λhRe=>?_) (λj x hj=>?_)
    · have Z6:(T.countP (HW l n a k):Int)-(R.countP (HW l n a k):Int)=(S.length:Int):=by
       have:R=[]:=hRe;rw[this,hm];simp
      refine cb (ae (λhc=>?_) λhc=>?_)
      · exact absurd (by rw[ak];exact Z6) hc
      · refine⟨⟨n+1,by omega⟩,by show 3-(n+1)<3-n;omega,?_⟩
        exact aG trivial
    · have hxT:=hR x (aO hj)
      have hlj:=(aq.1 hj).1;have Ua:(R.eraseIdx j).length=R.length-1:=List.length_eraseIdx_of_lt hlj;have U5:=ve (HW l n a k) R j x hj;have tv:∀e∈R.eraseIdx j,e∈T:=λe he=>hR e (List.mem_of_mem_eraseIdx he)
      obtain⟨ok,cv,vv,w1,w2,hB,hQ⟩:∃(ok:Bool) (cv vv:Int),aa af 30 [.sl 6 false (et (C.length+1) (eo 0 ((c0::C).map Ve.eA))),eI x.2,eI a,eI k] (.bR [eI cv,.bool ok,eI 0])/\
       aa af 30 [.sl 6 false (et (V.length+1) (eo 0 ((v0::V).map Ve.eA))),eI x.2,eI a,eI k] (.bR [eI vv,.bool ok,eI 0])/\
       ((x.1.1= -1\/x.1.1=(n:Int))->(∀y∈S,ba y=x.1->ok=true/\y.cnt=cv/\y.val=vv)/\(S.filter λy=>decide (ba y=x.1)).length=if ok then 1 else 0)/\
       HW l n a k x=((decide (x.1.1= -1)||decide (x.1.1=(n:Int)))&&ok):=by
       obtain⟨w1,w2⟩:=ml x hxT;have hkx:=hke x.1;unfold HW;have Qq:∀y∈S,ba y=x.1->y∈S.filter λy=>decide (ba y=x.1):=λy hy hk=>dN.2 ⟨hy,by simpa using hk⟩
       cases hL:kD l a k x.1 with
       |none=>
        rw[hL] at w1 w2;simp only[hL] at hkx;refine⟨false,0,0,w1,w2,λhq=>?_,rfl⟩;have h0:=hkx hq;refine⟨λy hy hk=>?_,by rw[h0];rfl⟩;have:=Qq y hy hk;rw[h0] at this;cases this
       |some b=>
        rw[hL] at w1 w2;simp only[hL] at hkx;refine⟨!b.gone,b.cnt,b.val,w1,w2,λhq=>?_,rfl⟩;have h0:=hkx hq
        cases hg:b.gone with
        |true=>
         rw[hg] at h0;have h0:(S.filter λy=>decide (ba y=x.1))=[]:=h0;refine⟨λy hy hk=>?_,by rw[h0];rfl⟩;have:=Qq y hy hk;rw[h0] at this;cases this
        |false=>
         rw[hg] at h0;have h0:(S.filter λy=>decide (ba y=x.1))=[b]:=h0;refine⟨λy hy hk=>?_,by rw[h0];rfl⟩;have:=Qq y hy hk;rw[h0,List.mem_singleton] at this;subst this;exact⟨rfl,rfl,rfl⟩
      clear ml hke Ux jq Ti q3 Il;refine gG w1 w2 (ae (λhc=>ae (λhc=>?_) λhc=>ae (λhc=>?_) λhc=>?_) λhc=>ae (λhc=>?_) λhc=>?_)
      all_goals first
      |(have hc:¬ ok=ok:=by assumption
        exact absurd rfl hc)
      |(exact absurd trivial (by assumption))
      |(have h1:x.1.1≠ -1:=by assumption
        (have h2:x.1.1≠(n:Int):=by assumption);rw[decide_eq_false h1,decide_eq_false h2] at hQ;rw[hQ] at U5;have U5:R.countP (HW l n a k)=(R.eraseIdx j).countP (HW l n a k):=U5;refine⟨⟨R.eraseIdx j,tv,by omega⟩,by show(R.eraseIdx j).length<R.length;omega,?_⟩;exact aG trivial
        done)
      |skip
      all_goals
       have A3:x.1.1= -1\/x.1.1=(n:Int):=by
        first
        |(have h2:¬ x.1.1≠(n:Int):=by assumption
          omega)
        |(have h2:¬ x.1.1≠ -1:=by assumption
          omega)
       obtain⟨hB1,hB2⟩:=hB A3;(have hQ2:HW l n a k x=ok:=by rw[hQ,show(decide (x.1.1= -1)||decide (x.1.1=(n:Int)))=true by simpa using A3,Bool.true_and]);refine bY.bq (α:={i:Nat // i<=S.length}) mixed Lh (λi=>[(26,.p (.bool ((S.take i.1).any λy=>decide (ba y=x.1)))),(156,.p (bx.eI i.1))]) (λ_=>[]) (λ_=>0) (λi=>S.length-i.1) ⟨0,by omega⟩ ?_ ?_
       · exact aG trivial
       rintro⟨i2,FO⟩;have FO:i2<=S.length:=FO
       cases hy:S[i2]? with
       |none=>
        have Tj:S.length<=i2:=bw.1 hy;(have NN:¬((i2:Int)<((S.map eA).length:Int)):=by rw[ak];omega);(have Tk:(S.take i2).any (λy=>decide (ba y=x.1))=ok:=by rw[bN Tj];exact LW hB2);generalize (S.take i2).any (λy=>decide (ba y=x.1))=A at *;subst Tk;refine bM (kN NN) (λhc=>ae (λhc=>ae (λhc=>?_) λhc=>?_) λhc=>?_)
        all_goals first
        |(exact absurd trivial (by assumption))
        |(have hc:¬ A=A:=by assumption
          exact absurd rfl hc)
        |(have hc:A=true:=by assumption
          rw[hQ2,if_pos hc] at U5;refine⟨⟨R.eraseIdx j,tv,by omega⟩,by show(R.eraseIdx j).length<R.length;omega,?_⟩;exact aG trivial
          done)
        |(have hc:A=false:=by assumption
          rw[hQ2,if_neg (by rw[hc];simp)] at U5;refine⟨⟨R.eraseIdx j,tv,by omega⟩,by show(R.eraseIdx j).length<R.length;omega,?_⟩;exact aG trivial
          done)
        |trace_state
       |some y=>
        have Aj:i2<S.length:=(aq.1 hy).1;(have AG:((i2:Int)<((S.map eA).length:Int)):=by rw[ak];omega);have LD:=HX (q:=λy=>decide (ba y=x.1)) hy;by_cases RY:ba y=x.1
        · obtain⟨g1,g2,g3⟩:=hB1 y (aO hy) RY
          subst g1;have hf:=(Y6 (q:=λy=>decide (ba y=x.1)) hy (by simpa using RY) (by rw[hB2];exact aX _)).1;have Tk:(S.take i2).any (λy=>decide (ba y=x.1))=false:=LW (ok:=false) (by rw[hf];rfl);rw[Tk] at LD;generalize (S.take i2).any (λy=>decide (ba y=x.1))=A at *;subst Tk;have k1:y.kind=x.1.1:=congrArg Prod.fst RY;have k2:y.ia=x.1.2:=congrArg Prod.snd RY
          repeat' (first|exact fg|(refine stx ?_;first|exact bW _|refine aE ?_)|((fail_if_success refine ft ?_);(conv=>whnf)<;>(first|exact fh|refine np AG λhc=>?_|refine Sg.dR hy ?_|refine np k1 λhc=>?_|refine np k2 λhc=>?_|refine Br.dec (λhc=>absurd g2 hc) (λhc=>?_)|refine Br.dec (λhc=>absurd g3 hc) (λhc=>?_)|refine str ?_|refine Br.dec (λhc=>?_) λhc=>?_|refine Br.mk (λhc=>?_) λhc=>?_|exact PV.ao|refine PV.ai ?_ ?_|refine ae ?_ ?_|refine aD λx hx=>?_|refine aE ?_|refine bX (λhn=>?_) ?_|exact fv|refine bS λaZ=>?_|refine al ?_ ?_|refine fu ?_|fail)))<;>(try exact fi)
          all_goals
           refine⟨⟨i2+1,Aj⟩,by show S.length-(i2+1)<S.length-i2;omega,?_⟩;show di _ _ (kj Lh _ _ _ [(26,.p (.bool ((S.take (i2+1)).any λy=>decide (ba y=x.1)))),(156,.p (bx.eI ((i2+1:Nat):Int)))] [] _);rw[LD,decide_eq_true RY,Bool.false_or];exact aG trivial
        · rw[decide_eq_false RY,Bool.or_false] at LD
          generalize (S.take i2).any (λy=>decide (ba y=x.1))=A at *;refine gG (kY AG) (kX hy) (λhc=>ae (λhc=>ae (λhc=>ae (λhc=>?_) λhc=>ae (λhc=>?_) λhc=>ae (λhc=>?_) λhc=>?_) λhc=>?_) λhc=>?_)
          all_goals first
          |(exact absurd trivial (by assumption))
          |(have k1:y.kind=x.1.1:=by assumption
            have k2:y.ia=x.1.2:=by assumption
            exact absurd (Prod.ext k1 k2) RY)
          |(refine⟨⟨i2+1,Aj⟩,by show S.length-(i2+1)<S.length-i2;omega,?_⟩
            show di _ _ (kj Lh _ _ _ [(26,.p (.bool ((S.take (i2+1)).any λy=>decide (ba y=x.1)))),(156,.p (bx.eI ((i2+1:Nat):Int)))] [] _);rw[LD]
            exact aG trivial)
  · have SS:¬(n:Int)<3:=by omega
    exact bM (kN SS) trivial
 |some x=>
  have aC:i<l.length:=(aq.1 hx).1;(have ay:((i:Int)<((l.map eA).length:Int)):=by rw[ak];omega);have hM:=Dt hx;have hv:=lC i x hx;have VN:=Uw i;rw[List.length_take] at VN;(have N5:l.take (i+1)=l.take i++[x]:=by rw[bz,hx];rfl);generalize eY l=T at *;generalize hMi:eY (l.take i)=M at *;have V5:(eM eK bx.eI M).length=M.length:=by unfold eM;rw[ak]
  cases LX:bn (ba x) M with
  |none=>
   (have nT:cK (eK (ba x)) (eM eK bx.eI M)=none:=by rw[bj bx.eI lV,LX];rfl);(have Qr:eY (l.take (i+1))=dQ (ba x) (M.length:Int) M:=by rw[hM];unfold nu;rw[LX]);(have Y7:(bn (ba x) T).getD 0=(M.length:Int):=by rw[<-hv,Qr,dj,if_pos rfl];rfl);(have e1:pK T x=⟨x.no,x.tm,x.known,(M.length:Int),x.cnt,x.gone⟩:=by unfold pK;rw[Y7]);have e2:pL T x=⟨x.no,x.tm,x.known,(M.length:Int),x.val,x.gone⟩:=by unfold pL;rw[Y7]
   cases hL:l.take i with
   |nil=>
    rw[hL] at N5
    repeat' (first|exact fg|(refine stx ?_;first|exact bW _|refine aE ?_)|((fail_if_success refine ft ?_);(conv=>whnf)<;>(first|exact fh|refine np ay λhc=>?_|refine Sg.dR hx ?_|refine SJ nT ?_|refine str ?_|refine Br.dec (λhc=>?_) λhc=>?_|refine Br.mk (λhc=>?_) λhc=>?_|exact PV.ao|refine PV.ai ?_ ?_|refine ae ?_ ?_|refine aD λx hx=>?_|refine aE ?_|refine bX (λhn=>?_) ?_|exact fv|refine bS λaZ=>?_|refine al ?_ ?_|rw[BX]|(show(ko af 70).isSome=true;rw[BX];rfl)|refine fu ?_|fail)))<;>(try exact fi)
    refine⟨⟨i+1,aC⟩,by show l.length-(i+1)<l.length-i;omega,?_⟩;show di _ _ (kj Lh _ _ _ [(8,BY 1 ((l.take (i+1)).map (pK T))),(9,BY 2 ((l.take (i+1)).map (pL T))),(32,.p (bx.eI ((i+1:Nat):Int)))] ((64,.map xP (eM eK bx.eI (eY (l.take (i+1)))))::(s7 1 ((l.take (i+1)).map (pK T))++s7 2 ((l.take (i+1)).map (pL T)))) _);rw[Qr,N5];show di _ _ (kj _ _ _ _ [(8,BY 1 [pK T x]),(9,BY 2 [pL T x]),_] (_::(s7 1 [pK T x]++s7 2 [pL T x])) _);rw[e1,e2];show di _ _ (kj _ _ _ _ [(8,.bo 1 6 0 1),(9,.bo 2 6 0 1),_] (_::[(1,.row 6 [Ve.eA _]),(2,.row 6 [Ve.eA _])]) _);refine aG (ae ?_ (ae ?_ ?_))
    all_goals first
    |(show dr (eK (ba x)) (bx.eI ((eM eK bx.eI M).length:Int)) _=_;rw[V5,cU bx.eI lV];done)
    |(show[Ve.eA ⟨x.no,x.tm,x.known,((eM eK bx.eI M).length:Int),x.cnt,x.gone⟩]=_;rw[V5];done)
    |(show[Ve.eA ⟨x.no,x.tm,x.known,((eM eK bx.eI M).length:Int),x.val,x.gone⟩]=_;rw[V5];done)
    |trace_state
   |cons b r=>
    (have oI:r.length+1<=100:=by have:=congrArg kQ hL;simp at this;omega);rw[hL] at N5
    repeat' (first|exact fg|(refine stx ?_;first|exact bW _|refine aE ?_)|((fail_if_success refine ft ?_);(conv=>whnf)<;>(first|exact fh|refine np ay λhc=>?_|refine Sg.dR hx ?_|refine SJ nT ?_|refine str ?_|refine Br.dec (λhc=>?_) λhc=>?_|refine Br.mk (λhc=>?_) λhc=>?_|exact PV.ao|refine PV.ai ?_ ?_|refine ae ?_ ?_|refine aD λx hx=>?_|refine aE ?_|refine bX (λhn=>?_) ?_|exact fv|refine bS λaZ=>?_|refine al ?_ ?_|rw[BX]|(show(ko af 70).isSome=true;rw[BX];rfl)|refine fu ?_|fail)))<;>(try exact fi)
    refine⟨⟨i+1,aC⟩,by show l.length-(i+1)<l.length-i;omega,?_⟩;show di _ _ (kj Lh _ _ _ [(8,BY 1 ((l.take (i+1)).map (pK T))),(9,BY 2 ((l.take (i+1)).map (pL T))),(32,.p (bx.eI ((i+1:Nat):Int)))] ((64,.map xP (eM eK bx.eI (eY (l.take (i+1)))))::(s7 1 ((l.take (i+1)).map (pK T))++s7 2 ((l.take (i+1)).map (pL T)))) _);rw[Qr,N5];rw[show((b::r)++[x]).map (pK T)=pK T b::(r.map (pK T)++[pK T x]) by simp,show((b::r)++[x]).map (pL T)=pL T b::(r.map (pL T)++[pL T x]) by simp,e1,e2];show di _ _ (kj _ _ _ _ [(8,.bo 1 6 0 ((r.map (pK T)++[_]).length+1)),(9,.bo 2 6 0 ((r.map (pL T)++[_]).length+1)),_] (_::[(1,.row 6 ((pK T b::(r.map (pK T)++[_])).map Ve.eA)),(2,.row 6 ((pL T b::(r.map (pL T)++[_])).map Ve.eA))]) _);refine aG (ae ?_ (ae ?_ ?_))
    all_goals first
    |(show dr (eK (ba x)) (bx.eI ((eM eK bx.eI M).length:Int)) _=_;rw[V5,cU bx.eI lV];done)
    |(show(pK T b::r.map (pK T)).map Ve.eA++[Ve.eA ⟨x.no,x.tm,x.known,((eM eK bx.eI M).length:Int),x.cnt,x.gone⟩]=_;rw[V5];simp;done)
    |(show(pL T b::r.map (pL T)).map Ve.eA++[Ve.eA ⟨x.no,x.tm,x.known,((eM eK bx.eI M).length:Int),x.val,x.gone⟩]=_;rw[V5];simp;done)
    |trace_state
  |some v=>
   (have nT:cK (eK (ba x)) (eM eK bx.eI M)=some (bx.eI v):=by rw[bj bx.eI lV,LX];rfl);(have Qr:eY (l.take (i+1))=M:=by rw[hM];unfold nu;rw[LX]);(have Y7:(bn (ba x) T).getD 0=v:=by rw[<-hv,Qr,LX];rfl);(have e1:pK T x=⟨x.no,x.tm,x.known,v,x.cnt,x.gone⟩:=by unfold pK;rw[Y7]);have e2:pL T x=⟨x.no,x.tm,x.known,v,x.val,x.gone⟩:=by unfold pL;rw[Y7]
   cases hL:l.take i with
   |nil=>
    rw[hL] at hMi;subst hMi;cases LX
   |cons b r=>
    (have oI:r.length+1<=100:=by have:=congrArg kQ hL;simp at this;omega);rw[hL] at N5
    repeat' (first|exact fg|(refine stx ?_;first|exact bW _|refine aE ?_)|((fail_if_success refine ft ?_);(conv=>whnf)<;>(first|exact fh|refine np ay λhc=>?_|refine Sg.dR hx ?_|refine Vy nT ?_|refine str ?_|refine Br.dec (λhc=>?_) λhc=>?_|refine Br.mk (λhc=>?_) λhc=>?_|exact PV.ao|refine PV.ai ?_ ?_|refine ae ?_ ?_|refine aD λx hx=>?_|refine aE ?_|refine bX (λhn=>?_) ?_|exact fv|refine bS λaZ=>?_|refine al ?_ ?_|rw[BX]|(show(ko af 70).isSome=true;rw[BX];rfl)|refine fu ?_|fail)))<;>(try exact fi)
    refine⟨⟨i+1,aC⟩,by show l.length-(i+1)<l.length-i;omega,?_⟩;show di _ _ (kj Lh _ _ _ [(8,BY 1 ((l.take (i+1)).map (pK T))),(9,BY 2 ((l.take (i+1)).map (pL T))),(32,.p (bx.eI ((i+1:Nat):Int)))] ((64,.map xP (eM eK bx.eI (eY (l.take (i+1)))))::(s7 1 ((l.take (i+1)).map (pK T))++s7 2 ((l.take (i+1)).map (pL T)))) _);rw[Qr,N5];rw[show((b::r)++[x]).map (pK T)=pK T b::(r.map (pK T)++[pK T x]) by simp,show((b::r)++[x]).map (pL T)=pL T b::(r.map (pL T)++[pL T x]) by simp,e1,e2];show di _ _ (kj _ _ _ _ [(8,.bo 1 6 0 ((r.map (pK T)++[_]).length+1)),(9,.bo 2 6 0 ((r.map (pL T)++[_]).length+1)),_] (_::[(1,.row 6 ((pK T b::(r.map (pK T)++[_])).map Ve.eA)),(2,.row 6 ((pL T b::(r.map (pL T)++[_])).map Ve.eA))]) _);refine aG (ae ?_ ?_)
    all_goals first
    |(show dr (eK (ba x)) (bx.eI ((eM eK bx.eI M).length:Int)) _=_;rw[V5,cU bx.eI lV];done)
    |(show(pK T b::r.map (pK T)).map Ve.eA++[Ve.eA ⟨x.no,x.tm,x.known,v,x.cnt,x.gone⟩]=_;simp;done)
    |(show(pL T b::r.map (pL T)).map Ve.eA++[Ve.eA ⟨x.no,x.tm,x.known,v,x.val,x.gone⟩]=_;simp;done)
    |trace_state
end Ac
end Go.Proofs.YtmaiccmhkmndcaaGreatDoor
