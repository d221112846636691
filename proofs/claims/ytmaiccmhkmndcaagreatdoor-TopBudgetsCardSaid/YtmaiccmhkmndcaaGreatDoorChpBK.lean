/- A part of the proof: contracts of the functions that the statement reaches. -/
import Derived.Test.YtmaiccmhkmndcaaGreatDoorChpBJ
import Derived.Test.YtmaiccmhkmndcaaGreatDoorChpAA
set_option linter.unusedSimpArgs false
set_option linter.unusedVariables false
set_option linter.unnecessarySimpa false
set_option maxRecDepth 100000
set_option maxHeartbeats 40000000
open And renaming intro->ae
open Bool renaming and_eq_true->aQ,true_and->dZ,false_and->ji
open Go.IntKind renaming i64->br
open Go.Proofs.Tryz renaming prog->af
open Int renaming toNat_natCast->dv
open List renaming take->et,drop->eo,drop_zero->da,take_of_length_le->bN,length_map->ak,length_append->fk,length_cons->ea,replicate->ck,length_replicate->xw,length_set->nX,getElem?_eq_none_iff->bw,getElem?_eq_some_iff->aq,mem_of_getElem?->aO
open Nat renaming le_refl->aX,zero_le->de,zero_add->gQ,le_trans->dW
open Prod renaming fst->bp
namespace Go.Proofs.YtmaiccmhkmndcaaGreatDoor
open Go Go.Sg
section
open Ac
theorem wrap_u8{y:Int}(h0:0<=y)(h1:y<=255):br.wrap y=y:=by
 simp only[IntKind.wrap,IntKind.signed,IntKind.bits];simp;omega
abbrev iQ(mx:Bool)(a b:Int):Int:=if mx=true then(if b>a then b else a) else(if b<a then b else a)
theorem TD(a b:Int):a<=iQ true a b/\b<=iQ true a b/\(iQ true a b=a\/iQ true a b=b):=by
 unfold iQ;rw[if_pos rfl];split<;>omega
theorem TE(a b:Int):iQ false a b<=a/\iQ false a b<=b/\(iQ false a b=a\/iQ false a b=b):=by
 unfold iQ;rw[if_neg (by decide)];split<;>omega
theorem leU(U:List bx.Us)(n:Nat)(h:U.length<=n):PV.le (.sl 5 false (et n (eo 0 (U.map bx.eU)))) (bx.EK U):=PV.zw (by rw[da,bN (by rw[ak];exact h)];rfl)
theorem leU2(U:List bx.Us)(w:bx.Us)(n:Nat)(h:U.length+1<=n):PV.le (.sl 5 false (et n (eo 0 (U.map bx.eU++[bx.eU w])))) (bx.EK (U++[w])):=by
 have:=leU (U++[w]) n (by rw[fk];exact h);rwa[List.map_append] at this
def outU(n:Nat):List bx.Us->AV
 |[]=>.p (.sl 0 true [])
 |_::r=>.bo n 5 0 (r.length+1)
def Zv(n:Nat):List bx.Us->ab
 |[]=>[]
 |a::r=>[(n,.row 5 ((a::r).map bx.eU))]
theorem QW:∀(F:List bx.Us) (m:List (Int×Sm)),(F.foldl Kc m).length<=m.length+F.length
 |[],m=>aX _
 |x::r,m=>by
  have h1:=QW r (Kc m x);have h2:(Kc m x).length<=m.length+1:=Ju.E' _ _ m;rw[List.foldl_cons,ea];omega
theorem wy(r:Rg)(tm:List Int)(kn lt at_:Int)(ht:∀b∈tm,(Lit.int .u8 b).wf=true):aa af 3 [Rr r,Rd.Wa tm,eI kn,eI lt,eI at_] (.bool true):=by
 have q0:=Kh;have q5:=NF r;have q7:=EO;by_cases hG:u6 r=true/\EP r=0/\r.dc.length<=tm.length/\bh 0 1099511627775 kn=true/\bh 0 1099511627775 lt=true/\kn<=lt/\bh 0 1099511627775 at_=true
 · obtain⟨hf,hz,hl,Qm,aC,zm,LD⟩:=hG
   rw[hf] at q5;obtain⟨hg,Rm,OO,W5,tY,bQ⟩:=QA hf;have q6:=sY r hg;rw[hz] at q6;have Zw:=q7 kn;rw[Qm] at Zw;have Zx:=q7 lt;rw[aC] at Zx;have Zy:=q7 at_;rw[LD] at Zy
   have N3:Of.aJ r.ap=0/\rP.aJ r.dp=0/\ng.aJ r.it=0/\bx.aJ r.bg=0/\xO r.vs=0/\bA.aJ r.dc=0/\od.aJ r.av=0:=by
    unfold EP at hz;split at hz
    · assumption
    · cases hz
   have q81:=oR r.bg at_ kn tY N3.2.2.2.1 LD Qm;have q82:=oR r.bg at_ lt tY N3.2.2.2.1 LD aC;(have vj:¬((tm.map (PV.int .u8)).length:Int)<((r.dc.map bA.eA).length:Int):=by rw[ak,ak];omega);(have hnk:¬ lt<kn:=by omega);clear q7;refine aa.e Tryz.func3 259 [.tmp 10] Rj ?_;refine wk11 (kF 1 [(5,false)]) (kZ q0) q5 q6 Zw Zx Zy q81 q82 (kN vj) (kN hnk) (λhc hc=>?_);refine bY.bq (α:={x:Nat×List Int // x.1<=r.dc.length/\x.2.length=r.dc.length/\ ∀j,j<x.1->x.2[j]? =some (-1)}) mixed Rj (λx=>[(11,.bo 3840 1 0 r.dc.length),(94,.p (eI (r.dc.length:Nat))),(95,.p (eI x.1.1))]) (λx=>[(3840,.row 1 (x.1.2.map eI)),(192,.dead)]) (λ_=>0) (λx=>r.dc.length-x.1.1) ⟨(0,ck r.dc.length 0),de _,xw ..,λj h=>absurd h (Nat.not_lt_zero _)⟩ ?_ ?_
   · refine aG ?_
     show ck (((r.dc.map bA.eA).length:Int).toNat) (eI 0)=(ck r.dc.length (0:Int)).map eI;rw[List.map_replicate,ak,dv]
   rintro⟨⟨i,L⟩,hi,hL,Og⟩;have hi:i<=r.dc.length:=hi;have hL:L.length=r.dc.length:=hL;have Og:∀j,j<i->L[j]? =some (-1):=Og;by_cases Wo:i<r.dc.length
   · have ay:((i:Nat):Int)<((r.dc.length:Nat):Int):=by omega
     refine bM (kY ay) (λhc=>?_)
     (all_goals(try((first|(with_reducible show(_:Int)<=_)|(with_reducible show(_:Int)<_)|(with_reducible show(_:Nat)<=_)|(with_reducible show(_:Nat)<_)|(with_reducible show ¬ _)|(with_reducible show(_:Int)=_)|(with_reducible show(_:Nat)=_)|(with_reducible show False));(try dsimp only at *);(try simp only[ak,fk,ea,List.length_nil,xw,List.length_take,List.length_drop,nX,dv,Int.reduceToNat] at *);omega)))
     refine⟨⟨(i+1,L.set i (-1)),Wo,(by rw[nX];exact hL),λj hj=>?_⟩,by show r.dc.length-(i+1)<r.dc.length-i;omega,?_⟩
     · show(L.set i (-1))[j]? =some (-1)
       rw[List.getElem?_set];split
       · rw[if_pos (by omega)]
       · exact Og j (by have hj:j<i+1:=hj;omega)
     refine aG ?_;show(L.map eI).set (0+(i:Int).toNat) (eI (-1))=(L.set i (-1)).map eI;rw[gQ,dv,List.map_set]
   · have bV:¬((i:Nat):Int)<((r.dc.length:Nat):Int):=by omega
     refine bM (kN bV) (λhc=>?_);have hini:=Inv.init (kn:=kn) hL (λj hj=>Og j (by omega));clear Og q0 q5 q6 Zw Zx Zy q81 q82;have Yb:=(bx.dI N3.2.2.2.1).2.1;refine Lp.tail (id:=30) rfl (λs'=>∃U:List bx.Us,(bx.yf U=true/\U.length<=8/\Ka r.bg U kn/\ ∀x∈U,x.known<=kn)/\s'=⟨[(2,.p (eI kn)),(3,.p (eI lt)),(4,.p (eI at_)),(5,.p (.ro [Of.eL r.ap,rP.eL r.dp,ng.eL r.it,bx.eL r.bg,BJ r.vs,bA.eL r.dc,od.eL r.av])),(13,.p (bx.EK U))],[],100000,0⟩) ?_ ?_
     · rintro s' ⟨U,⟨hU,hUl,hUf,hUk⟩,rfl⟩
       have qO:=AJ r.bg U lt (by omega) N3.2.2.2.1 (by omega) hU aC
       obtain⟨O,hO,eO⟩:∃O:List Int,(r.bg.any (nZ kn lt)=false->O=[])/\((VY r.bg U lt).map bp).mergeSort (λx y=>decide (x<=y))=O:=⟨_,λh=>by
        rw[LP (Kb zm (λb hb hh=>by
         have:=List.any_eq_false.1 h b hb
         simp[nZ] at this;omega) hUk hUf)];simp,rfl⟩
       rw[eO] at qO;refine bM qO ?_;refine bY.bq (α:={i:Nat // i<=r.bg.length}) mixed Rj (λi=>[(23,.p (.bool ((r.bg.take i.1).any (nZ kn lt)))),(185,.p (eI i.1))]) (λ_=>[]) (λ_=>0) (λi=>r.bg.length-i.1) ⟨0,de _⟩ ?_ ?_
       · exact aG trivial
       rintro⟨j,hj⟩;have hj:j<=r.bg.length:=hj
       cases oM:r.bg[j]? with
       |none=>
        have dD:r.bg.length<=j:=bw.1 oM;(have HI:¬((j:Int)<((r.bg.map bx.eA).length:Int)):=by rw[ak];omega);show ya [(23,.p (.bool ((r.bg.take j).any (nZ kn lt)))),(185,.p (eI (j:Int)))] _ _ λe=>_;rw[bN dD];generalize r.bg.any (nZ kn lt)=nw at *;refine bM (kN HI) (λhc hc=>?_);rw[hO (by assumption)];exact aP.refl _
       |some b=>
        have HJ:j<r.bg.length:=(aq.1 oM).1;(have Wi:((j:Int)<((r.bg.map bx.eA).length:Int)):=by rw[ak];omega);have lO:=aO oM;have Fm:=Yb b lO
        have Y3:1<=b.ia/\b.ia<=1099511627776:=by
         simp only[bx.ag,bx.bh,aQ,decide_eq_true_eq] at Fm;omega
        have Q8:(r.bg.take (j+1)).any (nZ kn lt)=((r.bg.take j).any (nZ kn lt)||nZ kn lt b):=HX oM;(have QX:0<=at_/\at_<=1099511627775:=by simpa[bh] using LD);(have Mo:¬ b.ia=0:=by omega);generalize (r.bg.take j).any (nZ kn lt)=nw at *;by_cases hgn:b.gone=true
        · refine gG (kY Wi) (kX oM) (λhc=>ae (λhc=>ae (λhc=>?_) λhc=>?_) λhc=>ae (λhc=>ae (λhc=>?_) λhc=>?_) λhc=>ae (λhc=>?_) λhc=>?_)
          all_goals(try exact absurd hgn (by rw[show b.gone=false by assumption];decide))
          all_goals
           refine⟨⟨j+1,HJ⟩,(by show r.bg.length-(j+1)<r.bg.length-j;omega),?_⟩;show di _ _ (kj Rj _ _ _ [(23,.p (.bool ((r.bg.take (j+1)).any (nZ kn lt)))),(185,.p (eI ((j+1:Nat):Int)))] [] _);rw[Q8]
           first
           |(have h1:nw=true:=(by assumption)
             have h2:(nw||nZ kn lt b)=true:=(by rw[h1];rfl)
             rw[h2];exact aG trivial;done)
           |(have h1:nw=false:=(by assumption)
             have h3:kn<b.known:=(by assumption);have h2:(nw||nZ kn lt b)=decide (b.known<=lt):=(by rw[h1,Bool.false_or];unfold nZ;rw[decide_eq_true h3,dZ])
             rw[h2];exact aG trivial;done)
           |(have h1:nw=false:=(by assumption)
             have h3:¬ kn<b.known:=(by assumption);have h2:(nw||nZ kn lt b)=false:=(by rw[h1,Bool.false_or];unfold nZ;rw[decide_eq_false h3,ji])
             rw[h2];exact aG trivial;done)
           |trace_state
        · have hgf:b.gone=false:=by simpa using hgn
          have q11:=H2 r.bg U b at_ kn (by omega) N3.2.2.2.1 (by omega) hU lO hgf LD Qm;have q12:=BZ r.bg U b (at_.tdiv b.ia) kn (by omega) N3.2.2.2.1 (by omega) hU lO hgf (Int.tdiv_nonneg QX.1 (by omega)) (Int.tdiv_le_tdiv (by omega) QX.2) Qm;have ela:=NJ b (U.filter (iW b (at_.tdiv b.ia) kn)) at_;have eup:LO b U kn at_=(U.filter (iW b (at_.tdiv b.ia) kn)).filter λx=>decide (x.tm<=at_):=rfl;rw[eup,<-ela] at q11;generalize bx.kv ((U.filter (iW b (at_.tdiv b.ia) kn)).filter λx=>decide (x.tm<=at_))=sv at *
          have hTl:(rW b (ud (U.filter (iW b (at_.tdiv b.ia) kn))) (((ud (U.filter (iW b (at_.tdiv b.ia) kn))).map bp).mergeSort λx y=>decide (x<=y))).2.length<1000000:=by
           have h1:=Kg b (ud (U.filter (iW b (at_.tdiv b.ia) kn))) (((ud (U.filter (iW b (at_.tdiv b.ia) kn))).map bp).mergeSort λx y=>decide (x<=y)) ((0,0),[]);have h2:=QW (U.filter (iW b (at_.tdiv b.ia) kn)) [];have h3:=List.length_filter_le (iW b (at_.tdiv b.ia) kn) U;have h4:(ud (U.filter (iW b (at_.tdiv b.ia) kn))).length<=0+(U.filter (iW b (at_.tdiv b.ia) kn)).length:=h2;unfold rW;rw[h1,List.length_mergeSort,ak];simp;omega
          have hq0:0<=at_.tdiv b.ia:=Int.tdiv_nonneg QX.1 (by omega);have hq1:at_.tdiv b.ia<=1099511627775:=Int.le_trans (Int.tdiv_le_self _ QX.1) QX.2;generalize (rW b (ud (U.filter (iW b (at_.tdiv b.ia) kn))) (((ud (U.filter (iW b (at_.tdiv b.ia) kn))).map bp).mergeSort λx y=>decide (x<=y))).2=T at *;refine oa (kY Wi) (kX oM) q11 q12 (λhc=>ae (λhc=>ae (λhc=>?_) λhc=>?_) λhc=>ae (λhc=>ae (λhc=>?_) λhc=>?_) λhc=>ae (λhc=>?_) λhc=>?_)
          all_goals(try exact absurd (show b.gone=true by assumption) hgn)
          all_goals(try((with_reducible show(_:Int)<=_);omega))
          all_goals
           refine bY.bq (α:={m:Nat // m<=T.length}) mixed Rj (λm=>[(31,.p (eI (l7 at_ (T.take m.1)))),(238,.p (eI m.1))]) (λ_=>[]) (λ_=>0) (λm=>T.length-m.1) ⟨0,de _⟩ ?_ ?_
           · exact aG trivial
           rintro⟨m,hm⟩;have hm:m<=T.length:=hm
           cases hy:T[m]? with
           |none=>
            have dD:T.length<=m:=bw.1 hy;(have hnom:¬((m:Int)<((T.map V8).length:Int)):=by rw[ak];omega);show ya [(31,.p (eI (l7 at_ (T.take m)))),(238,.p (eI (m:Int)))] _ _ λe=>_;rw[bN dD];have pR:¬(l7 at_ T≠l7 at_ T):=λh=>h rfl;generalize l7 at_ T=c at *;refine gG (kN hnom) (kN pR) (λhc hc=>?_);refine⟨⟨j+1,HJ⟩,(by show r.bg.length-(j+1)<r.bg.length-j;omega),?_⟩;show di _ _ (kj Rj _ _ _ [(23,.p (.bool ((r.bg.take (j+1)).any (nZ kn lt)))),(185,.p (eI ((j+1:Nat):Int)))] [] _);rw[Q8]
            first
            |(have h1:nw=true:=(by assumption)
              have h2:(nw||nZ kn lt b)=true:=(by rw[h1];rfl)
              rw[h2];exact aG trivial;done)
            |(have h1:nw=false:=(by assumption)
              have h3:kn<b.known:=(by assumption);have h2:(nw||nZ kn lt b)=decide (b.known<=lt):=(by rw[h1,Bool.false_or];unfold nZ;rw[decide_eq_true h3,dZ])
              rw[h2];exact aG trivial;done)
            |(have h1:nw=false:=(by assumption)
              have h3:¬ kn<b.known:=(by assumption);have h2:(nw||nZ kn lt b)=false:=(by rw[h1,Bool.false_or];unfold nZ;rw[decide_eq_false h3,ji])
              rw[h2];exact aG trivial;done)
            |trace_state
           |some y=>
            have SZ:m<T.length:=(aq.1 hy).1;have hym:((m:Int)<((T.map V8).length:Int)):=by rw[ak];omega
            have hla:l7 at_ (T.take (m+1))=if y.tm<=at_ then y.val else l7 at_ (T.take m):=by
             rw[List.take_add_one,hy];exact wu _ _ _
            refine gG (kY hym) (kX hy) (λhc=>ae (λhc=>?_) λhc=>?_)
            all_goals
             refine⟨⟨m+1,SZ⟩,(by show T.length-(m+1)<T.length-m;omega),?_⟩;show di _ _ (kj Rj _ _ _ [(31,.p (eI (l7 at_ (T.take (m+1))))),(238,.p (eI ((m+1:Nat):Int)))] [] _);rw[hla]
             first
             |(have h1:y.tm<=at_:=(by assumption)
               rw[if_pos h1];exact aG trivial;done)
             |(have h1:¬ y.tm<=at_:=(by assumption)
               rw[if_neg h1];exact aG trivial;done)
             |trace_state
     · intro tail
       refine bY.bq (α:={x:Nat×Int×List Int×List bx.Us // Inv r kn x.1 x.2.1 x.2.2.1 x.2.2.2}) mixed Rj (λx=>[(11,.bo 3840 1 0 r.dc.length),(13,outU 1 x.1.2.2.2),(14,.p (eI x.1.2.1)),(105,.p (eI x.1.1))]) (λx=>(3840,.row 1 (x.1.2.2.1.map eI))::Zv 1 x.1.2.2.2) (λ_=>0) (λx=>r.dc.length-x.1.1) ⟨(0,0,L,[]),hini⟩ ?_ ?_
       · exact aG trivial
         all_goals trace_state
       rintro⟨⟨j,t,sg,U⟩,hI⟩;have hI:Inv r kn j t sg U:=hI;have pg:=hI.hi;(have hj8:j<=8:=by omega);have te:sg.length=r.dc.length:=bA.uS hI.hs
       cases hx:r.dc[j]? with
       |none=>
        have dD:r.dc.length<=j:=bw.1 hx;(have HI:¬((j:Int)<((r.dc.map bA.eA).length:Int)):=by rw[ak];omega);have BI:=tail
        cases U with
        |nil=>
         repeat' (first|exact fg|(refine stx ?_;first|exact bW _|refine aE ?_)|((fail_if_success refine ft ?_);(conv=>whnf)<;>(first|exact fh|refine vZ HI λhc=>?_|refine tail _ _ ⟨[],⟨hI.hu,by simp,hI.hf,λx hx=>(hI.hk x hx).2⟩,rfl⟩ ?_|refine str ?_|refine Br.dec (λhc=>?_) λhc=>?_|refine Br.mk (λhc=>?_) λhc=>?_|exact PV.ao|refine PV.ai ?_ ?_|refine ae ?_ ?_|refine aD λx hx=>?_|refine aE ?_|refine bX (λhn=>?_) ?_|exact fv|refine bS λaZ=>?_|refine al ?_ ?_|refine fu ?_|fail)))<;>(try exact fi)
         (first|refine di.Vz [] ?_|refine di.T8 [] ?_)<;>(repeat' (first|exact trivial|refine fe.dd ?_|refine fe.mk rfl (by simp) rfl (λh=>bJ.noConfusion h) ?_ ?_|refine ae ?_ ?_|exact Pu|exact cW.p (PV.le_nil _ _ _)|refine cW.pe ?_|refine cW.agg ?_|refine cW.bR ?_|refine cW.fn ?_ ?_|refine iv.cons ?_ ?_|exact iv.nil|exact dL.row _ _|rfl|refine cW.zB rfl ?_ ?_ ?_|refine dL.rb ?_ ?_|refine dL.xI ?_ ?_|refine dL.rC ?_|refine dL.rf ?_ ?_|refine dL.pV ?_ ?_|refine dL.pW ?_ ?_ ?_))<;>try(first|(simp;done)|(congr 1;omega)|(congr 1;(first|(simp;done)|(simp;omega))))
        |cons u0 U=>
         repeat' (first|exact fg|(refine stx ?_;first|exact bW _|refine aE ?_)|((fail_if_success refine ft ?_);(conv=>whnf)<;>(first|exact fh|refine vZ HI λhc=>?_|refine tail _ _ ⟨u0::U,⟨hI.hu,dW hI.hl hj8,hI.hf,λx hx=>(hI.hk x hx).2⟩,rfl⟩ ?_|refine str ?_|refine Br.dec (λhc=>?_) λhc=>?_|refine Br.mk (λhc=>?_) λhc=>?_|exact PV.ao|refine PV.ai ?_ ?_|refine ae ?_ ?_|refine aD λx hx=>?_|refine aE ?_|refine bX (λhn=>?_) ?_|exact fv|refine bS λaZ=>?_|refine al ?_ ?_|refine fu ?_|fail)))<;>(try exact fi)
         (first|refine di.Vz [1] ?_|refine di.T8 [1] ?_)<;>(repeat' (first|exact trivial|refine fe.dd ?_|refine fe.mk rfl (by simp) rfl (λh=>bJ.noConfusion h) ?_ ?_|refine ae ?_ ?_|exact Pu|refine cW.pe ?_|refine cW.agg ?_|refine cW.bR ?_|refine cW.fn ?_ ?_|refine iv.cons ?_ ?_|exact iv.nil|exact dL.row _ _|rfl|refine cW.zB rfl ?_ ?_ ?_|refine dL.rb ?_ ?_|refine dL.xI ?_ ?_|refine dL.rC ?_|refine dL.rf ?_ ?_|refine dL.pV ?_ ?_|refine dL.pW ?_ ?_ ?_))<;>try(first|(simp;done)|(congr 1;omega)|(congr 1;(first|(simp;done)|(simp;omega))))
         all_goals exact cW.GZ (o:=1) (l:=(u0::U).map bx.eU) (by simp) rfl (by decide) (by simp) (by rw[da,bN (by simp)];rfl)
       |some d=>
        have Wo:j<r.dc.length:=(aq.1 hx).1;(have Wi:((j:Int)<((r.dc.map bA.eA).length:Int)):=by rw[ak];omega);obtain⟨y,hy⟩:∃y,tm[j]? =some y:=⟨_,List.getElem?_eq_getElem (by omega)⟩;have WZ:=Rd.wf_u8 (ht y (aO hy));have TN:=aO hx;have WT:=(bA.dI N3.2.2.2.2.2.1).2.1 d TN;have t2:bA.TM=1099511627776:=rfl;simp only[bA.ag,bA.fS,aQ,decide_eq_true_eq] at WT;(have yY:0<=d.tm/\d.tm<1099511627776:=by omega);clear WT;have ht0:=hI.ht;have hut:∀x∈U,x.known<=kn:=λx hx=>(hI.hk x hx).2;have Zz:=dW hI.hl hj8;(have ZQ:(j:Int)<((tm.map (PV.int .u8)).length:Int):=by rw[ak];omega);have hwy:br.wrap y=y:=wrap_u8 WZ.1 WZ.2;have Fi:=TD t (d.tm+br.wrap y);rw[hwy] at Fi;(have hT0:0<=iQ true t (d.tm+br.wrap y):=by rw[hwy];omega);have ZA:0<=kn/\kn<1099511627776:=by simp[bh] at Qm;omega
        have hOkQ:iQ true t (d.tm+br.wrap y)<1099511627776->Ju.OkQ r sg U d j (iQ true t (d.tm+br.wrap y)) kn:=λh=>
         ⟨⟨hg,N3,TN,⟨hT0,h⟩,ZA⟩,⟨N3.2.2.2.2.2.1,by omega,bQ,hI.hs,by simp only[bA.fS,aQ,decide_eq_true_eq];omega⟩,hx,λq w hq hw=>by
           obtain⟨h3,h4⟩:=aq.1 hw;obtain⟨h5,h6⟩:=aq.1 hx;have:=List.pairwise_iff_getElem.1 (bA.dI N3.2.2.2.2.2.1).2.2.1 q j h3 h5 hq;rw[h4,h6] at this
           exact decide_eq_false (by omega),hI.hu,by omega,OO,W5⟩
        have qj:=λh=>Fh r sg U d j _ kn (hOkQ h);have Mz:=TE (iQ true t (d.tm+br.wrap y)) kn
        have hmm:0<=iQ false (iQ true t (d.tm+br.wrap y)) kn/\iQ false (iQ true t (d.tm+br.wrap y)) kn<=iQ true t (d.tm+br.wrap y)/\iQ false (iQ true t (d.tm+br.wrap y)) kn<=kn:=by
         generalize iQ true t (d.tm+br.wrap y)=T at *;omega
        have QY:=λh1 h2=>hI.take (t':=iQ true t (d.tm+br.wrap y)) (m:=iQ false (iQ true t (d.tm+br.wrap y)) kn) N3.2.2.2.1 N3.2.2.2.2.2.1 Rm hx (by rw[hwy];exact Fi.1) h1 ZA hmm h2;have UD:=λh1=>hI.skip Wo (t':=iQ true t (d.tm+br.wrap y)) (by rw[hwy];exact Fi.1) h1
        have qov:=λ(U':List bx.Us) h1 h2 (e:U++[⟨d.no,d.kind,d.val,iQ true t (d.tm+br.wrap y),iQ false (iQ true t (d.tm+br.wrap y)) kn⟩]=U')=>show aa af 10 [bx.eL r.bg,bx.EK U',bx.eI kn] (.bR [.sl 1 false [],bx.eI 0]) by
         have hN:=QY h1 h2;rw[e] at hN;have q:=AJ r.bg U' kn (by omega) N3.2.2.2.1 (by have:=hN.hl;omega) hN.hu Qm;rw[LP hN.hf,show(([]:List (Int×Bool)).map bp).mergeSort (λx y=>decide (x<=y))=[] by simp] at q;exact q
        have ZB:PV.le (.sl 1 false (et r.dc.length (eo 0 (sg.map eI)))) (dm sg):=PV.zw (by rw[da,bN (by rw[ak];omega)];rfl);have hlb:1=1/\0<1/\0+r.dc.length<=(sg.map eI).length:=⟨rfl,Nat.zero_lt_one,by rw[ak];omega⟩;have OH:(j:Int)<((r.dc.length:Nat):Int):=by omega
        cases U with
        |nil=>
         repeat' (first|exact fg|(refine stx ?_;first|exact bW _|refine aE ?_)|((fail_if_success refine ft ?_);(conv=>whnf)<;>(first|exact fh|refine np Wi λhc=>?_|refine dR hx ?_|refine dR hy ?_|refine tail _ _ ⟨[],⟨hI.hu,by simp,hI.hf,hut⟩,rfl⟩ ?_|(refine fJ.r (gL.n (gq.n (iG.n ?_)));refine nN (qj (Int.not_le.1 (by assumption))) (by kernel_rfl) rfl ?_;refine ae hlb ?_;refine ae (PV.ai (PV.le_refl _) (PV.ai ZB (PV.ai (PV.le_nil _ _ _) (PV.dE _)))) ?_;rintro r1 ⟨st,n,rfl,cu⟩)|refine str ?_|refine Br.dec (λhc=>?_) λhc=>?_|refine Br.mk (λhc=>?_) λhc=>?_|exact PV.ao|refine PV.ai ?_ ?_|refine ae ?_ ?_|refine aD λx hx=>?_|refine aE ?_|refine bX (λhn=>?_) ?_|exact fv|refine bS λaZ=>?_|refine al ?_ ?_|refine fu ?_|fail)))<;>(try exact fi)
         · (first|refine di.Vz [] ?_|refine di.T8 [] ?_)<;>(repeat' (first|exact trivial|refine fe.dd ?_|refine fe.mk rfl (by simp) rfl (λh=>bJ.noConfusion h) ?_ ?_|refine ae ?_ ?_|exact Pu|exact cW.p (PV.le_nil _ _ _)|refine cW.pe ?_|refine cW.agg ?_|refine cW.bR ?_|refine cW.fn ?_ ?_|refine iv.cons ?_ ?_|exact iv.nil|exact dL.row _ _|rfl|refine cW.zB rfl ?_ ?_ ?_|refine dL.rb ?_ ?_|refine dL.xI ?_ ?_|refine dL.rC ?_|refine dL.rf ?_ ?_|refine dL.pV ?_ ?_|refine dL.pW ?_ ?_ ?_))<;>try(first|(simp;done)|(congr 1;omega)|(congr 1;(first|(simp;done)|(simp;omega))))
         · refine⟨⟨(j+1,iQ true t (d.tm+br.wrap y),sg,[]),UD (Int.not_le.1 (by assumption))⟩,by show r.dc.length-(j+1)<r.dc.length-j;omega,?_⟩
           exact aG trivial
         · have hT:=Int.not_le.1 (show ¬ 1099511627776<=iQ true t (d.tm+br.wrap y) by assumption)
           have jV:=cu (by omega);have hleU:=leU ([⟨d.no,d.kind,d.val,iQ true t (d.tm+br.wrap y),iQ false (iQ true t (d.tm+br.wrap y)) kn⟩]) ([⟨d.no,d.kind,d.val,iQ true t (d.tm+br.wrap y),iQ false (iQ true t (d.tm+br.wrap y)) kn⟩]).length (aX _);refine k9 (qov ([⟨d.no,d.kind,d.val,iQ true t (d.tm+br.wrap y),iQ false (iQ true t (d.tm+br.wrap y)) kn⟩]) hT jV rfl) (by kernel_rfl) rfl ?_;refine ae ⟨rfl,(by decide),(by simp)⟩ ?_;refine ae (PV.ai (PV.le_refl _) (PV.ai (PV.le_trans (PV.zw rfl) hleU) (PV.dE _))) ?_;(have Wp:¬(0:Int)<((([]:List PV).length:Nat):Int):=by decide);refine bM (kN Wp) (λhc hc hc=>?_);refine⟨⟨(j+1,iQ true t (d.tm+br.wrap y),sg.set j (iQ true t (d.tm+br.wrap y)),[⟨d.no,d.kind,d.val,iQ true t (d.tm+br.wrap y),iQ false (iQ true t (d.tm+br.wrap y)) kn⟩]),QY hT jV⟩,by show r.dc.length-(j+1)<r.dc.length-j;omega,?_⟩;refine aG ?_
           all_goals(show(sg.map eI).set (0+(j:Int).toNat) (eI (iQ true t (d.tm+br.wrap y)))=(sg.set j (iQ true t (d.tm+br.wrap y))).map eI;rw[gQ,dv,List.map_set])
        |cons u0 U=>
         have hUl9:U.length+1<=8:=Zz;have hlu:1=1/\0<1/\0+(U.length+1)<=((u0::U).map bx.eU).length:=⟨rfl,Nat.zero_lt_one,by simp⟩;have hlu5:5=5/\0<5/\0+(U.length+1)<=((u0::U).map bx.eU).length:=⟨rfl,by decide,by simp⟩;have hle2:=leU (u0::U) (U.length+1) (aX _)
         repeat' (first|exact fg|(refine stx ?_;first|exact bW _|refine aE ?_)|((fail_if_success refine ft ?_);(conv=>whnf)<;>(first|exact fh|refine np Wi λhc=>?_|refine dR hx ?_|refine dR hy ?_|refine tail _ _ ⟨u0::U,⟨hI.hu,Zz,hI.hf,hut⟩,rfl⟩ ?_|(refine fJ.r (gL.n (gq.n (iG.n ?_)));refine nN (qj (Int.not_le.1 (by assumption))) (by kernel_rfl) rfl ?_;refine ae hlb ?_;refine ae hlu5 ?_;refine ae (PV.ai (PV.le_refl _) (PV.ai ZB (PV.ai hle2 (PV.dE _)))) ?_;rintro r1 ⟨st,n,rfl,cu⟩)|refine str ?_|refine Br.dec (λhc=>?_) λhc=>?_|refine Br.mk (λhc=>?_) λhc=>?_|exact PV.ao|refine PV.ai ?_ ?_|refine ae ?_ ?_|refine aD λx hx=>?_|refine aE ?_|refine bX (λhn=>?_) ?_|exact fv|refine bS λaZ=>?_|refine al ?_ ?_|refine fu ?_|fail)))<;>(try exact fi)
         · (first|refine di.Vz [1] ?_|refine di.T8 [1] ?_)<;>(repeat' (first|exact trivial|refine fe.dd ?_|refine fe.mk rfl (by simp) rfl (λh=>bJ.noConfusion h) ?_ ?_|refine ae ?_ ?_|exact Pu|refine cW.pe ?_|refine cW.agg ?_|refine cW.bR ?_|refine cW.fn ?_ ?_|refine iv.cons ?_ ?_|exact iv.nil|exact dL.row _ _|rfl|refine cW.zB rfl ?_ ?_ ?_|refine dL.rb ?_ ?_|refine dL.xI ?_ ?_|refine dL.rC ?_|refine dL.rf ?_ ?_|refine dL.pV ?_ ?_|refine dL.pW ?_ ?_ ?_))<;>try(first|(simp;done)|(congr 1;omega)|(congr 1;(first|(simp;done)|(simp;omega))))
           all_goals exact cW.GZ (o:=1) (l:=(u0::U).map bx.eU) (by simp) rfl (by decide) (by simp) (by rw[da,bN (by simp)];rfl)
         · refine⟨⟨(j+1,iQ true t (d.tm+br.wrap y),sg,u0::U),UD (Int.not_le.1 (by assumption))⟩,by show r.dc.length-(j+1)<r.dc.length-j;omega,?_⟩
           exact aG trivial
         · have hT:=Int.not_le.1 (show ¬ 1099511627776<=iQ true t (d.tm+br.wrap y) by assumption)
           have jV:=cu (by omega);refine k9 (qov (u0::(U++[(⟨d.no,d.kind,d.val,iQ true t (d.tm+br.wrap y),iQ false (iQ true t (d.tm+br.wrap y)) kn⟩:bx.Us)])) hT jV rfl) (by kernel_rfl) rfl ?_;refine ae ⟨rfl,(by decide),(by simp)⟩ ?_;refine ae (PV.ai (PV.le_refl _) (PV.ai (leU2 (u0::U) (⟨d.no,d.kind,d.val,iQ true t (d.tm+br.wrap y),iQ false (iQ true t (d.tm+br.wrap y)) kn⟩:bx.Us) _ (aX _)) (PV.dE _))) ?_;(have Wp:¬(0:Int)<((([]:List PV).length:Nat):Int):=by decide);refine bM (kN Wp) (λhc hc hc=>?_);refine⟨⟨(j+1,iQ true t (d.tm+br.wrap y),sg.set j (iQ true t (d.tm+br.wrap y)),u0::(U++[(⟨d.no,d.kind,d.val,iQ true t (d.tm+br.wrap y),iQ false (iQ true t (d.tm+br.wrap y)) kn⟩:bx.Us)])),QY hT jV⟩,by show r.dc.length-(j+1)<r.dc.length-j;omega,?_⟩;refine aG (ae ?_ ?_)
           all_goals first
           |(show(sg.map eI).set (0+(j:Int).toNat) (eI (iQ true t (d.tm+br.wrap y)))=(sg.set j (iQ true t (d.tm+br.wrap y))).map eI
             rw[gQ,dv,List.map_set])
           |(show(u0::U).map bx.eU++[bx.eU (⟨d.no,d.kind,d.val,iQ true t (d.tm+br.wrap y),iQ false (iQ true t (d.tm+br.wrap y)) kn⟩:bx.Us)]=(u0::(U++[(⟨d.no,d.kind,d.val,iQ true t (d.tm+br.wrap y),iQ false (iQ true t (d.tm+br.wrap y)) kn⟩:bx.Us)])).map bx.eU
             simp)
           |trace_state
 · cases hf:u6 r with
   |false=>
    rw[hf] at q5;refine aa.e Tryz.func3 259 [.tmp 10] Rj ?_;exact gG (kZ q0) q5 trivial
   |true=>
    rw[hf] at q5;obtain⟨hg,-⟩:=QA hf;have q6:=sY r hg;have Zw:=q7 kn;have Zx:=q7 lt;have Zy:=q7 at_;generalize bh 0 1099511627775 kn=b1 at *;generalize bh 0 1099511627775 lt=b2 at *;generalize bh 0 1099511627775 at_=b3 at *;clear q7;refine aa.e Tryz.func3 259 [.tmp 10] Rj ?_;refine Jt (kZ q0) q5 q6 Zw Zx Zy (λhc hc hc hc hc hc=>?_)
    all_goals(exfalso;simp only[ak] at *;refine hG ⟨?_,?_,?_,?_,?_,?_,?_⟩<;>first|assumption|omega|rfl)
end
end Go.Proofs.YtmaiccmhkmndcaaGreatDoor
