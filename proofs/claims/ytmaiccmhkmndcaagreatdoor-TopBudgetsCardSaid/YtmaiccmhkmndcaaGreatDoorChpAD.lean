/- A part of the proof: contracts of the functions that the statement reaches. -/
import Derived.Test.YtmaiccmhkmndcaaGreatDoorChpAC
import Derived.Test.YtmaiccmhkmndcaaGreatDoorChpAB
import Derived.Test.YtmaiccmhkmndcaaGreatDoorChpAA
set_option linter.unusedSimpArgs false
set_option linter.unusedVariables false
set_option linter.unnecessarySimpa false
set_option maxRecDepth 100000
set_option maxHeartbeats 40000000
open And renaming intro->ae
open Bool renaming and_eq_true->aQ,false_ne_true->nJ
open Go.Proofs.Tryz renaming prog->af
open Int renaming toNat_natCast->dv
open List renaming replicate->ck,mem_map->aY,getD->cF,length_map->ak,getElem?_eq_getElem->aV,mem_of_getElem?->aO,length_take->dy,all_eq_true->cG,map_cons->bE,map_nil->dw,take_of_length_le->bN,getElem?_eq_none_iff->bw,map->bZ,getElem?_eq_some_iff->aq,range->cJ
namespace Go.Proofs.YtmaiccmhkmndcaaGreatDoor
open Go Go.Sg
namespace bA
theorem sT(l:List Dc)(sg:List Int)(at_:Int)(hl:l.length<=20)(te:sg.length=l.length)(hr:∀x∈l,x.rev.length<=20/\x.need.length<=20)(si:∀x∈l,kr l x=true):
 aM af 83 0 [] [.p (eL l),.p (dm sg),.p (eI at_)] (.ptr 0 0) (hP l sg (dA l sg (gw sg at_))):=by
 have hPi:=Hm.SX (sg:=sg) (λx hx=>(hr x hx).1) (gw sg at_);have ePd:(dA l sg (gw sg at_)).dn.length=l.length:=hPi.dl;have ePl:(dA l sg (gw sg at_)).lk.length=l.length:=hPi.ll;have iX:=JD sg at_;show aM af 83 0 [] [.p (eL l),.p (dm sg),.p (eI at_)] (.ptr 0 0) [(0,pC l sg (dA l sg (gw sg at_)).dn.length (dA l sg (gw sg at_)).lk.length),(1,.row 1 ((dA l sg (gw sg at_)).dn.map PV.bool)),(2,.row 1 ((dA l sg (gw sg at_)).lk.map eI)),(3,.cN fT 1 (hM (oU (dA l sg (gw sg at_)).rv)))];rw[ePd,ePl];have q1:=rG l (by omega);(have hn:(((l.map eA).length:Nat):Int).toNat=l.length:=by simp);refine aM.e Tryz.func83 114 [.tmp 6] SP ?_;refine gG q1 (kR PZ) ?_
 refine iL [832,448,640,704] [(832,.cells [.p (eL l),.p (A7 (su l)),.p (dm sg),.bo 448 1 0 l.length,.bo 640 1 0 l.length,.mp 704]),(448,.row 1 ((Iu l).dn.map PV.bool)),(640,.row 1 ((Iu l).lk.map eI)),(704,.map fT [])] (xL l sg ((Iu l).dn.map PV.bool) ((Iu l).lk.map eI) l.length l.length at_ (by omega)) (by kernel_rfl) rfl rfl (by decide) M1
  (λi hi=>by
    match i,hi with
    |0,_=>
     show bJ.cells [.p (eL l),.p (A7 (su l)),.p (dm sg),.bo 448 1 0 (((l.map eA).length:Nat):Int).toNat,.bo 640 1 0 (((l.map eA).length:Nat):Int).toNat,.mp 704]=_;rw[hn];rfl
    |1,_=>
     show bJ.row 1 (ck (((l.map eA).length:Nat):Int).toNat (PV.bool false))=bJ.row 1 ((Iu l).dn.map PV.bool);rw[hn];simp[Iu]
    |2,_=>
     show bJ.row 1 (ck (((l.map eA).length:Nat):Int).toNat (eI 0))=bJ.row 1 ((Iu l).lk.map eI);rw[hn];simp[Iu]
    |3,_=>rfl) M4 T1 (by simp[keys]) rfl ?_
 refine cb ?_
 have Rn:(gw sg at_).length<=20:=by have:=z7 sg at_;omega
 have gh:=He (gw sg at_) (by omega)
 have hOl:∀i∈gw sg at_,i<l.length:=λi hi=>by have:=(P3.1 hi).1;omega
 generalize hO:gw sg at_=O at *
 have jd:∀x∈(O.map λi=>[eN i]),x.length=1:=λx hx=>by
  obtain⟨y,_,rfl⟩:=aY.1 hx;rfl
 have du:∀k i,O[k]? =some i->(O.map λi=>[eN i]).getD k []=[eN i]:=λk i h=>by simp[cF,h]
 refine Lp.na 704 1 rfl ?_;refine bY.range mixed gh (by kernel_rfl) rfl SP O.length [0,832,448,640,704,896] (λk=>([(704,.cN fT 1 (hM (oU (dA l sg (O.take k)).rv))),(832,.cells [.p (eL l),.p (A7 (su l)),.p (dm sg),.bo 448 1 0 l.length,.bo 640 1 0 l.length,.mp 704]),(448,.row 1 ((dA l sg (O.take k)).dn.map PV.bool)),(640,.row 1 ((dA l sg (O.take k)).lk.map eI)),(896,.cells [.ptr 832 0]),(0,.cells [.p (dm sg)])],1216)) rfl (gN rfl) (by simp) (by simp) jd (λk hk hm=>?_) (λ_=>?_)
 · rw[ak] at hk
   obtain⟨i,hi⟩:∃i,O[k]? =some i:=⟨_,aV hk⟩;rw[du k i hi]
   try dsimp only
   have yR:=hOl i (aO hi);obtain⟨d,hd⟩:∃d,l[i]? =some d:=⟨_,aV yR⟩;(have IM:l[(i:Int).toNat]? =some d:=by rw[dv];exact hd);have hq:=Hm.SX (l:=l) (sg:=sg) (λx hx=>(hr x hx).1) (O.take k)
   have hdi:(dA l sg (O.take k)).dn.getD i false=false:=by
    rw[SY _ (λx hx=>hOl x (List.mem_of_mem_take hx))];exact decide_eq_false (P4 hi iX)
   have lC:=JB (l:=l) (sg:=sg) hi;(have htl:(O.take k).length<=20:=by rw[dy];omega);generalize dA l sg (O.take k)=p at *;(have zm:i<p.lk.length:=by rw[hq.ll];exact yR);have I2:p.lk.length=l.length:=hq.ll;have q2:=zW d.need;(have hsl2:i<sg.length:=by omega);(have hsy:sg[(i:Int).toNat]? =some (lu sg i):=by rw[dv];simp[lu,cF,hsl2]);have vj:=(hr d (aO hd)).2;have oI:=(hr d (aO hd)).1;(have T7:Nk l d.need=true:=by have:=si d (aO hd);unfold kr at this;rw[aQ] at this;exact this.2);refine gG q2 (kX IM) ?_;have hit2:=BD d.need (by omega)
   have hxs2:∀x∈Lt d.need,x.length=2:=λx hx=>by
    obtain⟨y,_,rfl⟩:=aY.1 hx;rfl
   have YL:∀k,k<d.need.length->(Lt d.need).getD k []=[eI ((d.need.length-1-k:Nat):Int),eI (d.need.getD (d.need.length-1-k) 0)]:=λk h=>by simp[Lt,cF,h]
   refine Lp.put 640 (.row 1 ((p.lk.set i (-1)).map eI)) (by
    show bJ.row 1 ((p.lk.map eI).set (0+(i:Int).toNat) (eI (-1)))=bJ.row 1 ((p.lk.set i (-1)).map eI)
    rw[show 0+(i:Int).toNat=i by omega,List.map_set]) ?_
   refine bY.range mixed hit2 (by kernel_rfl) rfl SP d.need.length [0,832,448,640,704,896,1216,1856] (λm=>([(640,.row 1 ((p.lk.set i ((d.need.reverse.take m).foldl (w7 l p (lu sg i)) (-1))).map eI)),(1856,.cells [.p (eI d.no),.p (eI d.tm),.p (eI d.kind),.p (eI d.val),.p (eI d.oc),.p (eI d.Rk),.p (dm d.par),.p (dm d.rev),.p (dm d.need),.p (u8 (d.tx 0)),.p (u8 (d.tx 1)),.p (u8 (d.tx 2)),.p (u8 (d.tx 3)),.p (u8 (d.tx 4)),.p (u8 (d.tx 5)),.p (u8 (d.tx 6)),.p (u8 (d.tx 7)),.p (u8 (d.tx 8)),.p (u8 (d.tx 9)),.p (u8 (d.tx 10)),.p (u8 (d.tx 11)),.p (u8 (d.tx 12)),.p (u8 (d.tx 13)),.p (u8 (d.tx 14)),.p (u8 (d.tx 15)),.p (u8 (d.tx 16)),.p (u8 (d.tx 17)),.p (u8 (d.tx 18)),.p (u8 (d.tx 19)),.p (u8 (d.tx 20)),.p (u8 (d.tx 21)),.p (u8 (d.tx 22)),.p (u8 (d.tx 23)),.p (u8 (d.tx 24)),.p (u8 (d.tx 25)),.p (u8 (d.tx 26)),.p (u8 (d.tx 27)),.p (u8 (d.tx 28)),.p (u8 (d.tx 29)),.p (u8 (d.tx 30)),.p (u8 (d.tx 31))]),(1216,.cells [.p (eN i)]),(704,.cN fT 1 (hM (oU p.rv))),(832,.cells [.p (eL l),.p (A7 (su l)),.p (dm sg),.bo 448 1 0 l.length,.bo 640 1 0 l.length,.mp 704]),(448,.row 1 (p.dn.map PV.bool)),(896,.cells [.ptr 832 0]),(0,.cells [.p (dm sg)])],2624)) rfl (gN rfl) (by simp) (by simp) hxs2 (λm Og Z6=>?_) (λ_=>?_)
   · have Og:m<d.need.length:=by simpa[Lt] using Og
     rw[YL m Og]
     try dsimp only
     obtain⟨no,bV⟩:∃no,d.need[d.need.length-1-m]? =some no:=⟨_,aV (by omega)⟩;(have hnod:d.need.getD (d.need.length-1-m) 0=no:=by simp[cF,bV]);rw[hnod];obtain⟨d',ha,R6,Cg⟩:=P5 (cG.1 T7 no (aO bV));(have LD:cK (eI no) (eM eI eI (su l))=some (eN (wa l no)):=by rw[bj eI iM,ha];rfl);have Up:=Nn (w7 l p (lu sg i)) Og (-1) no bV;generalize hv:(d.need.reverse.take m).foldl (w7 l p (lu sg i)) (-1)=v at *;have YM:YI l ⟨p.dn,p.lk.set i v,p.rv⟩:=(Hm.mk (p:=⟨p.dn,p.lk.set i v,p.rv⟩) hq.dl (by simpa using hq.ll) hq.bd).ok (by omega);have q3:=pA l sg ⟨p.dn,p.lk.set i v,p.rv⟩ (wa l no) (lu sg i) d' R6 YM (by omega);rw[SV zm hdi] at q3;have e1:p.dn.length=l.length:=hq.dl;(have e2:(p.lk.set i v).length=l.length:=by simpa using hq.ll);simp only[hP,e1,e2] at q3
     repeat' (first|exact fg|(refine stx ?_;first|exact bW _|refine aE ?_)|(refine kq ?_;first|refine iL [832,448,640,704] ([(832,.cells [.p (eL l),.p (A7 (su l)),.p (dm sg),.bo 448 1 0 l.length,.bo 640 1 0 l.length,.mp 704]),(448,.row 1 (p.dn.map PV.bool)),(640,.row 1 ((p.lk.set i v).map eI)),(704,.cN fT 1 (hM (oU p.rv)))]) (q3) (by kernel_rfl) rfl rfl (by decide) M1 (λi hi=>by match i,hi with|0,_=>(first|rfl|exact(cd _ _ _ _).symm)|1,_=>(first|rfl|exact(cd _ _ _ _).symm)|2,_=>(first|rfl|exact(cd _ _ _ _).symm)|3,_=>(first|rfl|exact(cd _ _ _ _).symm)) M4 T1 (by simp[keys]) (by(try simp only[hP]);simp only[bE,dw,cd];rfl) ?_)|((fail_if_success refine ft ?_);(conv=>whnf)<;>(first|exact fh|refine jr.at LD ?_|refine dR hsy ?_|refine str ?_|refine Br.dec (λhc=>?_) λhc=>?_|refine Br.mk (λhc=>?_) λhc=>?_|exact PV.ao|refine PV.ai ?_ ?_|refine ae ?_ ?_|refine aD λx hx=>?_|refine aE ?_|refine bX (λhn=>?_) ?_|exact fv|refine bS λaZ=>?_|refine al ?_ ?_|refine fu ?_|fail)))<;>(try exact fi)
     all_goals refine nq ?_
     · rw[show 0+(i:Int).toNat=i by omega,<-List.map_set,List.set_set,Up]
       unfold w7;rw[if_pos hc]
     · rw[Up]
       unfold w7;rw[if_neg hc]
   · have eT:d.need.reverse.take (Lt d.need).length=d.need.reverse:=by rw[bN (by simp[Lt])]
     have eNd:d.need.reverse.foldl (w7 l p (lu sg i)) (-1)=Dg l p (lu sg i) d.need:=rfl;show Kt.n _ ⟨_,[(640,.row 1 ((p.lk.set i ((d.need.reverse.take ((Lt d.need).length)).foldl (w7 l p (lu sg i)) (-1))).map eI)),(1856,.cells [.p (eI d.no),.p (eI d.tm),.p (eI d.kind),.p (eI d.val),.p (eI d.oc),.p (eI d.Rk),.p (dm d.par),.p (dm d.rev),.p (dm d.need),.p (u8 (d.tx 0)),.p (u8 (d.tx 1)),.p (u8 (d.tx 2)),.p (u8 (d.tx 3)),.p (u8 (d.tx 4)),.p (u8 (d.tx 5)),.p (u8 (d.tx 6)),.p (u8 (d.tx 7)),.p (u8 (d.tx 8)),.p (u8 (d.tx 9)),.p (u8 (d.tx 10)),.p (u8 (d.tx 11)),.p (u8 (d.tx 12)),.p (u8 (d.tx 13)),.p (u8 (d.tx 14)),.p (u8 (d.tx 15)),.p (u8 (d.tx 16)),.p (u8 (d.tx 17)),.p (u8 (d.tx 18)),.p (u8 (d.tx 19)),.p (u8 (d.tx 20)),.p (u8 (d.tx 21)),.p (u8 (d.tx 22)),.p (u8 (d.tx 23)),.p (u8 (d.tx 24)),.p (u8 (d.tx 25)),.p (u8 (d.tx 26)),.p (u8 (d.tx 27)),.p (u8 (d.tx 28)),.p (u8 (d.tx 29)),.p (u8 (d.tx 30)),.p (u8 (d.tx 31))]),(1216,.cells [.p (eN i)]),(704,.cN fT 1 (hM (oU p.rv))),(832,.cells [.p (eL l),.p (A7 (su l)),.p (dm sg),.bo 448 1 0 l.length,.bo 640 1 0 l.length,.mp 704]),(448,.row 1 (p.dn.map PV.bool)),(896,.cells [.ptr 832 0]),(0,.cells [.p (dm sg)])],2624,0⟩;rw[eT,eNd];(have vP:sS l sg p i=⟨p.dn.set i true,p.lk.set i (Dg l p (lu sg i) d.need),if Dg l p (lu sg i) d.need<0 then d.rev.foldl (lD d.no) p.rv else p.rv⟩:=by unfold sS;rw[hd]);generalize Dg l p (lu sg i) d.need=V at *;(have hVi:(p.lk.set i V)[0+(i:Int).toNat]? =some V:=by rw[show 0+(i:Int).toNat=i by omega,List.getElem?_set_self zm]);have Rm:p.dn.length=l.length:=hq.dl;(have A0:(p.lk.set i V).length=l.length:=by simpa using hq.ll);have hdil:i<p.dn.length:=by omega
     (conv=>whnf)
     by_cases Z7:V<0
     · rw[if_pos Z7] at vP
       refine gG (kX hVi) (kY Z7) (λhc=>?_);refine bY.bq (α:={m:Nat // m<=d.rev.length}) mixed SP (λm=>[(93,.p (eI m.1))]) (λm=>[(704,.cN fT 1 (hM (oU ((d.rev.take m.1).foldl (lD d.no) p.rv))))]) (λ_=>0) (λm=>d.rev.length-m.1) ⟨0,by omega⟩ ?_ ?_
       · exact BB trivial
       rintro⟨m,hm3⟩;have hm3:m<=d.rev.length:=hm3
       cases hx:d.rev[m]? with
       |none=>
        have dD:d.rev.length<=m:=bw.1 hx;(have bV:¬((m:Int)<((d.rev.map eI).length:Int)):=by rw[ak];omega);have em:d.rev.take m=d.rev:=bN dD;refine bM (kN bV) (λhc=>?_)
        all_goals refine nq (ae ?_ (ae ?_ ?_))
        all_goals(rw[lC,vP])
        · show hM (oU ((d.rev.take m).foldl (lD d.no) p.rv))=_
          rw[em]
        · show(bZ PV.bool p.dn).set (0+(i:Int).toNat) (PV.bool true)=bZ PV.bool (p.dn.set i true)
          rw[show 0+(i:Int).toNat=i by omega,List.map_set]
       |some n=>
        have SZ:m<d.rev.length:=(aq.1 hx).1;(have ay:((m:Int)<((d.rev.map eI).length:Int)):=by rw[ak];omega);have ub:=No (no:=d.no) (m:=p.rv) hx;have lO:=JC (no:=d.no) (d.rev.take m) _ _ hq.bd;(have S0:(d.rev.take m).length<=20:=by rw[dy];omega);generalize (d.rev.take m).foldl (lD d.no) p.rv=M at *
        cases hz:bn n M with
        |none=>
         (have hm:cK (eI n) (hM (oU M))=none:=by rw[uP,hz];rfl);refine oa (kR PZ) (kY ay) (kX hx) (kX hm) (λhc aZ=>?_);refine⟨⟨m+1,SZ⟩,by show d.rev.length-(m+1)<d.rev.length-m;omega,?_⟩;refine BB ?_;show dr (eI n) (.h [eI d.no]) (hM (oU M))=hM (oU ((d.rev.take (m+1)).foldl (lD d.no) p.rv));rw[ub];refine(LC n [d.no] M).trans ?_;unfold lD;rw[hz];rfl
        |some z=>
         (have hm:cK (eI n) (hM (oU M))=some (MV.h (z.map eI)):=by rw[uP,hz];rfl);(have Ce:(z.map eI).length<1000000:=by rw[ak];have:=(lO n z hz).2;omega);refine oa (kR PZ) (kY ay) (kX hx) (kX hm) (λhc=>?_);refine⟨⟨m+1,SZ⟩,by show d.rev.length-(m+1)<d.rev.length-m;omega,?_⟩;refine BB ?_;refine(C0 (YH n) _ _ _).trans ?_;show dr (eI n) (.h (z.map eI++[eI d.no])) (hM (oU M))=hM (oU ((d.rev.take (m+1)).foldl (lD d.no) p.rv));rw[ub,show z.map eI++[eI d.no]=(z++[d.no]).map eI by simp];refine(LC n (z++[d.no]) M).trans ?_;unfold lD;rw[hz];rfl
     · rw[if_neg Z7] at vP
       refine gG (kX hVi) (kN Z7) (λhc=>?_)
       all_goals refine nq (ae ?_ (ae ?_ ?_))
       all_goals(rw[lC,vP])
       show(bZ PV.bool p.dn).set (0+(i:Int).toNat) (PV.bool true)=bZ PV.bool (p.dn.set i true);rw[show 0+(i:Int).toNat=i by omega,List.map_set]
 · have eT:O.take (O.map λi=>[eN i]).length=O:=by rw[ak,List.take_length]
   show Kt.n _ ⟨_,[(704,.cN fT 1 (hM (oU (dA l sg (O.take ((O.map λi=>[eN i]).length))).rv))),(832,.cells [.p (eL l),.p (A7 (su l)),.p (dm sg),.bo 448 1 0 l.length,.bo 640 1 0 l.length,.mp 704]),(448,.row 1 ((dA l sg (O.take ((O.map λi=>[eN i]).length))).dn.map PV.bool)),(640,.row 1 ((dA l sg (O.take ((O.map λi=>[eN i]).length))).lk.map eI)),(896,.cells [.ptr 832 0]),(0,.cells [.p (dm sg)])],1216,0⟩;rw[eT]
   (conv=>whnf)
   refine cb ?_;exact nr [] [(0,832),(1,448),(2,640),(3,704)] trivial
theorem Np(t:Int):aa af 141 [eI t] (.bool (!decide (t= -1)&& !fS TM t)):=by
 have q:=dU t;refine aa.e Tryz.func141 10 [.tmp 2] [0,2] ?_;refine bM q (ae (λhc=>?_) λhc=>?_)
 all_goals(refine aP.bool ?_;simp_all)
theorem z8(l:List Int)(hl:l.length<1000000):aa af 91 [dm l,.fn (.func 141) [] []] (.bool (l.any λt=> !decide (t= -1)&& !fS TM t)):=by
 have q1:∃k:Int,aa af 149 [dm l,.fn (.func 141) [] []] (eI k)/\(decide (0<=k)=l.any λt=> !decide (t= -1)&& !fS TM t):=by
  generalize hP:(λt:Int=> !decide (t= -1)&& !fS TM t)=p;have hp:∀t,aa af 141 [eI t] (.bool (p t)):=λt=>by rw[<-hP];exact Np t
  cases hF:l.findIdx? p with
  |none=>
   (have hn:∀x∈l,p x=false:=λx hx=>by simpa using List.findIdx?_eq_none_iff.1 hF x hx);refine⟨-1,?_,?_⟩
   · refine aa.e Tryz.func149 19 [.tmp 4] nO ?_
     refine cb ?_;refine bY.bK (α:={i:Nat // i<=l.length}) mixed nO (λi=>[(8,.p (eI i.1))]) (λi=>l.length-i.1) ⟨0,by omega⟩ ?_ ?_
     · exact aG trivial
     rintro⟨i,hi⟩;have hi:i<=l.length:=hi
     cases hx:l[i]? with
     |none=>
      have dD:l.length<=i:=bw.1 hx;(have bV:¬((i:Int)<((l.map eI).length:Int)):=by rw[ak];omega);exact bM (kN bV) trivial
     |some x=>
      have aC:i<l.length:=(aq.1 hx).1;(have ay:((i:Int)<((l.map eI).length:Int)):=by rw[ak];omega);have q:=hp x;rw[hn x (aO hx)] at q;refine gg q (kY ay) (kX hx) (λhc=>?_);refine⟨⟨i+1,aC⟩,by show l.length-(i+1)<l.length-i;omega,?_⟩;exact aG trivial
   · rw[show l.any p=false from List.any_eq_false.2 λx hx=>by rw[hn x hx];exact nJ];rfl
  |some n=>
   obtain⟨vj,YJ,Pd⟩:=List.findIdx?_eq_some_iff_getElem.1 hF;refine⟨n,?_,?_⟩
   · refine aa.e Tryz.func149 19 [.tmp 4] nO ?_
     refine cb ?_;refine bY.bK (α:={i:Nat // i<=n}) mixed nO (λi=>[(8,.p (eI i.1))]) (λi=>l.length-i.1) ⟨0,by omega⟩ ?_ ?_
     · exact aG trivial
     rintro⟨i,hi⟩;have hi:i<=n:=hi;(have aC:i<l.length:=by omega);have hx:l[i]? =some l[i]:=aV aC;(have ay:((i:Int)<((l.map eI).length:Int)):=by rw[ak];omega);have q:=hp l[i];by_cases Ch:i=n
     · subst Ch
       rw[YJ] at q;exact gg q (kY ay) (kX hx) trivial
     · have hb:=Pd i (by omega)
       rw[show p l[i]=false by simpa using hb] at q;refine gg q (kY ay) (kX hx) (λhc=>?_);refine⟨⟨i+1,by omega⟩,by show l.length-(i+1)<l.length-i;omega,?_⟩;exact aG trivial
   · rw[show l.any p=true from List.any_eq_true.2 ⟨l[n],List.getElem_mem vj,YJ⟩,decide_eq_true (by omega)]
 obtain⟨k,q1,e⟩:=q1;rw[<-e];refine aa.e Tryz.func91 9 [.tmp 4] [0,1,4] ?_;exact bM q1 trivial
 all_goals(refine aP.bool ?_;simp)
def xY(x:Dc):Prop:=x.par.length<140737488355328/\x.rev.length<1000000/\x.need.length<1000000
theorem bm(l:List Dc)(hl:l.length<1000000)(hd:∀x∈l,xY x):aa af 18 [eL l] (eI (aJ l)):=by
 by_cases iP:(4096:Int)<l.length
 · have Jx:(4096:Int)<((l.map eA).length:Int):=by rw[ak];exact iP
   rw[Hf iP];refine aa.e Tryz.func18 43 [.tmp 2] VC ?_;exact bM (kY Jx) trivial
 (have Jx:¬(4096:Int)<((l.map eA).length:Int):=by rw[ak];exact iP);have q0:=rG l hl;refine aa.e Tryz.func18 43 [.tmp 2] VC ?_;refine gG q0 (kN Jx) (λhc=>?_);refine bY.bK (α:={i:Nat // i<=l.length/\aA ag Dc.no (ax Dc.no l i) (l.drop i)=aA ag Dc.no (-1) l/\ ∀j w,j<i->l[j]? =some w->kr l w=true}) mixed VC (λi=>[(13,.p (eI i.1))]) (λi=>l.length-i.1) ⟨0,by omega,rfl,by intro j w h;omega⟩ ?_ ?_
 · exact aG trivial
 rintro⟨i,hi,hq,hn⟩;have hi:i<=l.length:=hi;have hq:aA ag Dc.no (ax Dc.no l i) (l.drop i)=aA ag Dc.no (-1) l:=hq;have hn:∀j w,j<i->l[j]? =some w->kr l w=true:=hn
 cases aS:l[i]? with
 |none=>
  have dD:l.length<=i:=bw.1 aS;(have bV:¬((i:Int)<((l.map eA).length:Int)):=by rw[ak];omega);refine bM (kN bV) (λhc=>?_)
  rw[Lx iP (cR ag Dc.no hq dD) λx hx=>by
   obtain⟨j,hj⟩:=List.getElem?_of_mem hx
   exact hn j x (by have:=(aq.1 hj).1;omega) hj]
  exact aP.refl _
 |some z=>
  have aC:i<l.length:=(aq.1 aS).1;(have ay:((i:Int)<((l.map eA).length:Int)):=by rw[ak];omega);have hm:=aO aS;obtain⟨d1,d2,d3⟩:=hd z hm;have q1:=cV z d1 (by omega) (by omega);have q2:=xM l z d2 d3;have Eo:(ag z&&decide (ax Dc.no l i<z.no))=false->aJ l=170:=λh=>Hg iP (bC ag Dc.no aS hq h);have wZ:(ag z&&decide (ax Dc.no l i<z.no))=true->aA ag Dc.no (ax Dc.no l (i+1)) (l.drop (i+1))=aA ag Dc.no (-1) l:=λh=>bU ag Dc.no aS hq h
  have SS:kr l z=true-> ∀j w,j<i+1->l[j]? =some w->kr l w=true:=λh j w hj hw=>by
   rcases Nat.lt_succ_iff_lt_or_eq.1 hj with h1|h1
   · exact hn j w h1 hw
   · rw[h1,aS] at hw;injection hw with hw;rw[<-hw];exact h
  cases hr:ag z with
  |false=>
   rw[hr] at q1;rw[Eo (by rw[hr];rfl)];exact gg q1 (kY ay) (kX aS) trivial
  |true=>
   rw[hr] at q1;have h0:=eJ hr
   cases i with
   |zero=>
    have hg:=wZ (by rw[hr];show(true&&decide ((-1:Int)<z.no))=true;rw[decide_eq_true (by omega)];rfl);have Lu:¬(0:Int)<((0:Nat):Int):=by decide
    cases h2:kr l z with
    |false=>
     rw[h2] at q2;rw[oJ iP hm h2];exact Rh q1 q2 (kY ay) (kX aS) (kN Lu) trivial
    |true=>
     rw[h2] at q2;refine Rh q1 q2 (kY ay) (kX aS) (kN Lu) (λhc hc hc hc hc hc hc hc hc hc hc hc hc hc hc hc hc hc hc=>?_);refine⟨⟨0+1,aC,hg,SS h2⟩,by show l.length-(0+1)<l.length-0;omega,?_⟩;exact aG trivial
   |succ k=>
    (have hk:k<l.length:=by omega);obtain⟨y,hy⟩:∃y,l[k]? =some y:=⟨_,aV hk⟩;(have Bq:l[(((k+1:Nat):Int)-1).toNat]? =some y:=by rw[show(((k+1:Nat):Int)-1).toNat=k by omega];exact hy);have gy:ax Dc.no l (k+1)=y.no:=bk Dc.no hy;(have Lv:(0:Int)<((k+1:Nat):Int):=by omega);by_cases PY:z.no<=y.no
    · rw[Eo (by rw[gy,decide_eq_false (show ¬ y.no<z.no by omega),Bool.and_false])]
      exact Jt q1 (kY ay) (kX aS) (kX Bq) (kY Lv) (kY PY) trivial
    · have hg:=wZ (by rw[hr,gy,decide_eq_true (show y.no<z.no by omega)];rfl)
      cases h2:kr l z with
      |false=>
       rw[h2] at q2;rw[oJ iP hm h2];exact Ri q1 q2 (kY ay) (kX aS) (kX Bq) (kY Lv) (kN PY) trivial
      |true=>
       rw[h2] at q2;refine Ri q1 q2 (kY ay) (kX aS) (kX Bq) (kY Lv) (kN PY) (λhc hc hc=>?_);refine⟨⟨k+1+1,aC,hg,SS h2⟩,by show l.length-(k+1+1)<l.length-(k+1);omega,?_⟩;exact aG trivial
theorem dI{l:List Dc}(h:aJ l=0):l.length<=4096/\(∀x∈l,ag x=true)/\l.Pairwise (λa b=>Dc.no a<Dc.no b)/\ ∀x∈l,kr l x=true:=by
 unfold aJ at h;by_cases h1:(4096:Int)<l.length
 · rw[if_pos h1] at h;cases h
 · rw[if_neg h1] at h
   cases hb:(aA ag Dc.no (-1) l&&l.all (kr l)) with
   |false=>rw[hb] at h;cases h
   |true=>
    rw[aQ] at hb;obtain⟨b1,b2⟩:=hb;rw[gv] at b1;exact⟨by omega,λx hx=>(b1.1 x hx).1,b1.2,λx hx=>cG.1 b2 x hx⟩
def S1(t:Int):Bool:= !decide (t= -1)&& !fS TM t
def JF(l:List Dc)(sg:List Int):Bool:=decide (sg.length=l.length)&& !sg.any S1
theorem rH(l:List Dc)(sg:List Int)(te:sg.length<1000000):aa af 81 [eL l,dm sg] (.bool (JF l sg)):=by
 have q:aa af 91 [dm sg,.fn (.func 141) [] []] (.bool (sg.any S1)):=z8 sg te;by_cases h:sg.length=l.length
 · have h2:((sg.map eI).length:Int)=((l.map eA).length:Int):=by simp[h]
   (have e:JF l sg= !sg.any S1:=by unfold JF;rw[decide_eq_true h,Bool.true_and]);rw[e];refine aa.e Tryz.func81 17 [.tmp 4] [0,1,4,5] ?_
   repeat' (first|exact fg|(refine stx ?_;first|exact bW _|refine aE ?_)|(refine kq ?_;first|refine fR q ?_)|((fail_if_success refine ft ?_);(conv=>whnf)<;>(first|exact fh|refine Br.mk (λhc=>?_) (λhc=>absurd (decide_eq_true h2) (by rw[hc];exact nJ))|refine np h2 λhc=>?_|refine str ?_|refine Br.dec (λhc=>?_) λhc=>?_|refine Br.mk (λhc=>?_) λhc=>?_|exact PV.ao|refine PV.ai ?_ ?_|refine ae ?_ ?_|refine aD λx hx=>?_|refine aE ?_|refine bX (λhn=>?_) ?_|exact fv|refine bS λaZ=>?_|refine al ?_ ?_|refine fu ?_|fail)))<;>(try exact fi)
   all_goals trace_state
 · have h2:¬((sg.map eI).length:Int)=((l.map eA).length:Int):=by simp only[ak];omega
   (have e:JF l sg=false:=by unfold JF;rw[decide_eq_false h,Bool.false_and]);rw[e];refine aa.e Tryz.func81 17 [.tmp 4] [0,1,4,5] ?_;exact gG q (kN h2) trivial
   all_goals trace_state
def okF(x:Dc):Prop:=x.par.length<=20/\x.rev.length<=20/\x.need.length<=20
theorem okF.e{x:Dc}(h:okF x):xY x:=⟨by have:=h.1;omega,by have:=h.2.1;omega,by have:=h.2.2;omega⟩
def Hn(l:List Dc)(sg:List Int)(at_:Int):Pl:=dA l sg (gw sg at_)
def Z8(l:List Dc)(i:Nat):Int:=(l[i]?.map Dc.no).getD 0
def P6(l:List Dc)(p:Pl)(t:Int)(i:Nat):Bool:=decide ((lg l p i t).1=0)
def lG(l:List Dc)(p:Pl)(t:Int)(n:Nat):List Int:=((cJ n).filter (P6 l p t)).map (Z8 l)
def WU(l:List Dc)(sg:List Int)(at_:Int):List Int×Int:=
 if aJ l=0 then(if JF l sg&&fS TM at_ then(lG l (Hn l sg at_) at_ l.length,0) else([],1)) else([],aJ l)
def JG(l:List Dc)(sg:List Int)(no at_:Int):Int×Int×Int:=
 if aJ l=0 then(if JF l sg&&fS TM at_ then(match bn no (su l) with|none=>(0,0,1)|some _=>((lg l (Hn l sg at_) (wa l no) at_).1,(lg l (Hn l sg at_) (wa l no) at_).2,0)) else(0,0,1)) else(0,0,aJ l)
def eW3(x:Int×Int×Int):PV:= .bR [eI x.1,eI x.2.1,eI x.2.2]
def eI2(x:List Int×Int):PV:= .bR [dm x.1,eI x.2]
theorem uS{l:List Dc}{sg:List Int}(h:JF l sg=true):sg.length=l.length:=by
 unfold JF at h;rw[aQ] at h;exact of_decide_eq_true h.1
theorem Nq(l:List Dc)(sg:List Int)(no at_:Int)(hl:l.length<=20)(hd:∀x∈l,okF x)(te:sg.length<1000000):aa af 148 [eL l,dm sg,eI no,eI at_] (eW3 (JG l sg no at_)):=by
 have q1:=bm l (by omega) (λx hx=>(hd x hx).e);have q2:=rH l sg te;have q3:=dU at_;unfold JG;by_cases hz:aJ l=0
 · rw[hz] at q1
   rw[if_pos hz]
   cases hs:JF l sg with
   |false=>
    rw[hs] at q2;refine aa.e Tryz.func148 54 [.tmp 8,.tmp 9,.tmp 10] Hb ?_;exact gg q1 q2 q3 trivial
    all_goals trace_state
   |true=>
    rw[hs] at q2
    cases ht:fS TM at_ with
    |false=>
     rw[ht] at q3;refine aa.e Tryz.func148 54 [.tmp 8,.tmp 9,.tmp 10] Hb ?_;exact gg q1 q2 q3 trivial
     all_goals trace_state
    |true=>
     rw[ht] at q3;have iR:=uS hs;obtain⟨iP,_,_,si⟩:=dI hz;have q4:=sT l sg at_ hl iR (λx hx=>⟨(hd x hx).2.1,(hd x hx).2.2⟩) si;have Ch:=Hm.SX (l:=l) (sg:=sg) (λx hx=>(hd x hx).2.1) (gw sg at_);have Rn:=z7 sg at_;have YM:YI l (dA l sg (gw sg at_)):=Ch.ok (by omega);have q4:aM af 83 0 [] [.p (eL l),.p (dm sg),.p (eI at_)] (.ptr 0 0) [(0,pC l sg (dA l sg (gw sg at_)).dn.length (dA l sg (gw sg at_)).lk.length),(1,.row 1 ((dA l sg (gw sg at_)).dn.map PV.bool)),(2,.row 1 ((dA l sg (gw sg at_)).lk.map eI)),(3,.cN fT 1 (hM (oU (dA l sg (gw sg at_)).rv)))]:=q4;show aa af 148 [eL l,dm sg,eI no,eI at_] (eW3 (match bn no (su l) with|none=>(0,0,1)|some _=>((lg l (dA l sg (gw sg at_)) (wa l no) at_).1,(lg l (dA l sg (gw sg at_)) (wa l no) at_).2,0)));generalize dA l sg (gw sg at_)=P at *
     cases hg:bn no (su l) with
     |none=>
      (have hm:cK (eI no) (eM eI eI (su l))=none:=by rw[bj eI iM,hg];rfl);refine aa.e Tryz.func148 54 [.tmp 8,.tmp 9,.tmp 10] Hb ?_
      repeat' (first|exact fg|(refine stx ?_;first|exact bW _|refine aE ?_)|(refine kq ?_;first|refine fR q1 ?_|refine fR q2 ?_|refine fR q3 ?_|refine iL [] [(1280,.cells [.p (eL l),.p (A7 (su l)),.p (dm sg),.bo 1281 1 0 P.dn.length,.bo 1282 1 0 P.lk.length,.mp 1283]),(1281,.row 1 (P.dn.map PV.bool)),(1282,.row 1 (P.lk.map eI)),(1283,.cN fT 1 (hM (oU P.rv)))] q4 (by kernel_rfl) rfl rfl (by simp) (by simp) (by simp) (λ_ _=>rfl) (by simp) (by simp[keys]) (by simp only[bE,dw,cd];rfl) ?_)|((fail_if_success refine ft ?_);(conv=>whnf)<;>(first|exact fh|refine jr.no hm ?_|refine str ?_|refine Br.dec (λhc=>?_) λhc=>?_|refine Br.mk (λhc=>?_) λhc=>?_|exact PV.ao|refine PV.ai ?_ ?_|refine ae ?_ ?_|refine aD λx hx=>?_|refine aE ?_|refine bX (λhn=>?_) ?_|refine iL [] [(1280,.cells [.p (eL l),.p (A7 (su l)),.p (dm sg),.bo 1281 1 0 P.dn.length,.bo 1282 1 0 P.lk.length,.mp 1283]),(1281,.row 1 (P.dn.map PV.bool)),(1282,.row 1 (P.lk.map eI)),(1283,.cN fT 1 (hM (oU P.rv)))] q4 (by kernel_rfl) rfl rfl (by simp) (by simp) (by simp) (λ_ _=>rfl) (by simp) (by simp[keys]) (by simp only[bE,dw,cd];rfl) ?_|exact fv|refine bS λaZ=>?_|refine al ?_ ?_|refine fu ?_|fail)))<;>(try exact fi)
      all_goals trace_state
     |some k=>
      obtain⟨j,w,e,_,hw,_⟩:=uR l.length hg;(have ej:wa l no=j:=by unfold wa;rw[hg,e];rfl);(have hm:cK (eI no) (eM eI eI (su l))=some (eN j):=by rw[bj eI iM,hg,e];rfl);rw[ej];have q5:=pA l sg P j at_ w hw YM (by omega);refine aa.e Tryz.func148 54 [.tmp 8,.tmp 9,.tmp 10] Hb ?_
      repeat' (first|exact fg|(refine stx ?_;first|exact bW _|refine aE ?_)|(refine kq ?_;first|refine fR q1 ?_|refine fR q2 ?_|refine fR q3 ?_|refine iL [] [(1280,.cells [.p (eL l),.p (A7 (su l)),.p (dm sg),.bo 1281 1 0 P.dn.length,.bo 1282 1 0 P.lk.length,.mp 1283]),(1281,.row 1 (P.dn.map PV.bool)),(1282,.row 1 (P.lk.map eI)),(1283,.cN fT 1 (hM (oU P.rv)))] q4 (by kernel_rfl) rfl rfl (by simp) (by simp) (by simp) (λ_ _=>rfl) (by simp) (by simp[keys]) (by simp only[bE,dw,cd];rfl) ?_|refine iL [1280,1281,1282,1283] ([(1280,.cells [.p (eL l),.p (A7 (su l)),.p (dm sg),.bo 1281 1 0 P.dn.length,.bo 1282 1 0 P.lk.length,.mp 1283]),(1281,.row 1 (P.dn.map PV.bool)),(1282,.row 1 (P.lk.map eI)),(1283,.cN fT 1 (hM (oU P.rv)))]) (q5) (by kernel_rfl) rfl rfl (by decide) M1 (λi hi=>by match i,hi with|0,_=>(first|rfl|exact(cd _ _ _ _).symm)|1,_=>(first|rfl|exact(cd _ _ _ _).symm)|2,_=>(first|rfl|exact(cd _ _ _ _).symm)|3,_=>(first|rfl|exact(cd _ _ _ _).symm)) M4 T1 (by simp[keys]) (by(try simp only[hP]);simp only[bE,dw,cd];rfl) ?_)|((fail_if_success refine ft ?_);(conv=>whnf)<;>(first|exact fh|refine jr.at hm ?_|refine str ?_|refine Br.dec (λhc=>?_) λhc=>?_|refine Br.mk (λhc=>?_) λhc=>?_|exact PV.ao|refine PV.ai ?_ ?_|refine ae ?_ ?_|refine aD λx hx=>?_|refine aE ?_|refine bX (λhn=>?_) ?_|refine iL [] [(1280,.cells [.p (eL l),.p (A7 (su l)),.p (dm sg),.bo 1281 1 0 P.dn.length,.bo 1282 1 0 P.lk.length,.mp 1283]),(1281,.row 1 (P.dn.map PV.bool)),(1282,.row 1 (P.lk.map eI)),(1283,.cN fT 1 (hM (oU P.rv)))] q4 (by kernel_rfl) rfl rfl (by simp) (by simp) (by simp) (λ_ _=>rfl) (by simp) (by simp[keys]) (by simp only[bE,dw,cd];rfl) ?_|exact fv|refine bS λaZ=>?_|refine al ?_ ?_|refine fu ?_|fail)))<;>(try exact fi)
      all_goals trace_state
 · rw[if_neg hz]
   refine aa.e Tryz.func148 54 [.tmp 8,.tmp 9,.tmp 10] Hb ?_;exact bM q1 trivial
   all_goals trace_state
def WX(n:Nat):List Int->AV
 |[]=>.p (.sl 0 true [])
 |_::r=>.bo n 1 0 (r.length+1)
def WY(n:Nat):List Int->ab
 |[]=>[]
 |a::r=>[(n,.row 1 ((a::r).map eI))]
theorem NP(l:List Dc)(p:Pl)(t:Int)(n:Nat):lG l p t (n+1)=lG l p t n++if P6 l p t n then[Z8 l n] else[]:=by
 unfold lG;rw[List.range_succ,List.filter_append,List.map_append];congr 1;cases h:P6 l p t n<;>simp[h]
theorem H5(l:List Dc)(p:Pl)(t:Int)(n:Nat):(lG l p t n).length<=n:=by
 unfold lG;have:=List.length_filter_le (P6 l p t) (cJ n);rw[List.length_range] at this;rw[ak];exact this
theorem Tn{z:Nat}(e:PV):aP (.bR [.sl z true [],e]) (.bR [dm [],e]):=aP.mk (PV.fU (PV.ai (PV.le_nil _ _ _) (PV.dE _)))
theorem lx(l:List Dc)(sg:List Int)(at_:Int)(hl:l.length<=20)(hd:∀x∈l,okF x)(te:sg.length<1000000):aa af 33 [eL l,dm sg,eI at_] (eI2 (WU l sg at_)):=by
 have q1:=bm l (by omega) (λx hx=>(hd x hx).e);have q2:=rH l sg te;have q3:=dU at_;unfold WU;by_cases hz:aJ l=0
 · rw[hz] at q1
   rw[if_pos hz]
   cases hs:JF l sg with
   |false=>
    rw[hs] at q2;refine aa.e Tryz.func33 55 [.tmp 6,.tmp 7] En ?_;refine gg q1 q2 q3 ?_
    all_goals exact Tn _
   |true=>
    rw[hs] at q2
    cases ht:fS TM at_ with
    |false=>
     rw[ht] at q3;refine aa.e Tryz.func33 55 [.tmp 6,.tmp 7] En ?_;refine gg q1 q2 q3 ?_
     all_goals exact Tn _
    |true=>
     rw[ht] at q3;have iR:=uS hs;obtain⟨iP,_,_,si⟩:=dI hz;have q4:=sT l sg at_ hl iR (λx hx=>⟨(hd x hx).2.1,(hd x hx).2.2⟩) si;have Ch:=Hm.SX (l:=l) (sg:=sg) (λx hx=>(hd x hx).2.1) (gw sg at_);have Rn:=z7 sg at_;have YM:YI l (dA l sg (gw sg at_)):=Ch.ok (by omega);have q4:aM af 83 0 [] [.p (eL l),.p (dm sg),.p (eI at_)] (.ptr 0 0) [(0,pC l sg (dA l sg (gw sg at_)).dn.length (dA l sg (gw sg at_)).lk.length),(1,.row 1 ((dA l sg (gw sg at_)).dn.map PV.bool)),(2,.row 1 ((dA l sg (gw sg at_)).lk.map eI)),(3,.cN fT 1 (hM (oU (dA l sg (gw sg at_)).rv)))]:=q4;show aa af 33 [eL l,dm sg,eI at_] (eI2 (lG l (dA l sg (gw sg at_)) at_ l.length,0));generalize dA l sg (gw sg at_)=P at *;refine aa.e Tryz.func33 55 [.tmp 6,.tmp 7] En ?_
     repeat' (first|exact fg|(refine stx ?_;first|exact bW _|refine aE ?_)|(refine kq ?_;first|refine fR q1 ?_|refine fR q2 ?_|refine fR q3 ?_|refine iL [] [(1216,.cells [.p (eL l),.p (A7 (su l)),.p (dm sg),.bo 1217 1 0 P.dn.length,.bo 1218 1 0 P.lk.length,.mp 1219]),(1217,.row 1 (P.dn.map PV.bool)),(1218,.row 1 (P.lk.map eI)),(1219,.cN fT 1 (hM (oU P.rv)))] q4 (by kernel_rfl) rfl rfl (by simp) (by simp) (by simp) (λ_ _=>rfl) (by simp) (by simp[keys]) (by simp only[bE,dw,cd];rfl) ?_)|((fail_if_success refine ft ?_);(conv=>whnf)<;>(first|exact fh|refine str ?_|refine Br.dec (λhc=>?_) λhc=>?_|refine Br.mk (λhc=>?_) λhc=>?_|exact PV.ao|refine PV.ai ?_ ?_|refine ae ?_ ?_|refine aD λx hx=>?_|refine aE ?_|refine bX (λhn=>?_) ?_|refine iL [] [(1216,.cells [.p (eL l),.p (A7 (su l)),.p (dm sg),.bo 1217 1 0 P.dn.length,.bo 1218 1 0 P.lk.length,.mp 1219]),(1217,.row 1 (P.dn.map PV.bool)),(1218,.row 1 (P.lk.map eI)),(1219,.cN fT 1 (hM (oU P.rv)))] q4 (by kernel_rfl) rfl rfl (by simp) (by simp) (by simp) (λ_ _=>rfl) (by simp) (by simp[keys]) (by simp only[bE,dw,cd];rfl) ?_|exact fv|refine bS λaZ=>?_|refine al ?_ ?_|refine fu ?_|fail)))<;>(try exact fi)
     refine bY.bq (α:={i:Nat // i<=l.length}) mixed En (λi=>[(6,WX 9 (lG l P at_ i.1)),(34,.p (eI i.1))]) (λi=>WY 9 (lG l P at_ i.1)) (λ_=>0) (λi=>l.length-i.1) ⟨0,by omega⟩ ?_ ?_
     · exact aG trivial
     rintro⟨i,hi⟩;have hi:i<=l.length:=hi;show ya [(6,WX 9 (lG l P at_ i)),(34,_)] _ _ λe=>x9 (WY 9 (lG l P at_ i)) _ [] λh=>_
     cases aS:l[i]? with
     |some y=>
      have aC:i<l.length:=(aq.1 aS).1;(have ay:((i:Int)<((l.map eA).length:Int)):=by rw[ak];omega);have IP:=NP l P at_ i;have N8:=H5 l P at_ i;(have bV:Z8 l i=y.no:=by unfold Z8;rw[aS];rfl);have q5:=pA l sg P i at_ y aS YM (by omega)
      cases hF:P6 l P at_ i with
      |true=>
       have cu:(lg l P i at_).1=0:=of_decide_eq_true hF;rw[if_pos hF,bV] at IP
       cases hG:lG l P at_ i with
       |nil=>
        repeat' (first|exact fg|(refine stx ?_;first|exact bW _|refine aE ?_)|(refine kq ?_;first|refine iL [1216,1217,1218,1219] ([(1216,.cells [.p (eL l),.p (A7 (su l)),.p (dm sg),.bo 1217 1 0 P.dn.length,.bo 1218 1 0 P.lk.length,.mp 1219]),(1217,.row 1 (P.dn.map PV.bool)),(1218,.row 1 (P.lk.map eI)),(1219,.cN fT 1 (hM (oU P.rv)))]) (q5) (by kernel_rfl) rfl rfl (by decide) M1 (λi hi=>by match i,hi with|0,_=>(first|rfl|exact(cd _ _ _ _).symm)|1,_=>(first|rfl|exact(cd _ _ _ _).symm)|2,_=>(first|rfl|exact(cd _ _ _ _).symm)|3,_=>(first|rfl|exact(cd _ _ _ _).symm)) M4 T1 (by simp[keys]) (by(try simp only[hP]);simp only[bE,dw,cd];rfl) ?_)|((fail_if_success refine ft ?_);(conv=>whnf)<;>(first|exact fh|refine np ay λhc=>?_|refine dR aS ?_|refine np cu λhc=>?_|refine str ?_|refine Br.dec (λhc=>?_) λhc=>?_|refine Br.mk (λhc=>?_) λhc=>?_|exact PV.ao|refine PV.ai ?_ ?_|refine ae ?_ ?_|refine aD λx hx=>?_|refine aE ?_|refine bX (λhn=>?_) ?_|exact fv|refine bS λaZ=>?_|refine al ?_ ?_|refine fu ?_|fail)))<;>(try exact fi)
        refine⟨⟨i+1,aC⟩,by show l.length-(i+1)<l.length-i;omega,?_⟩;show di _ _ (kj En _ _ _ [(6,WX 9 (lG l P at_ (i+1))),(34,.p (eI ((i+1:Nat):Int)))] (WY 9 (lG l P at_ (i+1))) _);rw[IP,hG];exact aG trivial
       |cons g gr=>
        have PD:gr.length<=20:=by have h:=N8;rw[hG] at h;simp at h;omega
        repeat' (first|exact fg|(refine stx ?_;first|exact bW _|refine aE ?_)|(refine kq ?_;first|refine iL [1216,1217,1218,1219] ([(1216,.cells [.p (eL l),.p (A7 (su l)),.p (dm sg),.bo 1217 1 0 P.dn.length,.bo 1218 1 0 P.lk.length,.mp 1219]),(1217,.row 1 (P.dn.map PV.bool)),(1218,.row 1 (P.lk.map eI)),(1219,.cN fT 1 (hM (oU P.rv)))]) (q5) (by kernel_rfl) rfl rfl (by decide) M1 (λi hi=>by match i,hi with|0,_=>(first|rfl|exact(cd _ _ _ _).symm)|1,_=>(first|rfl|exact(cd _ _ _ _).symm)|2,_=>(first|rfl|exact(cd _ _ _ _).symm)|3,_=>(first|rfl|exact(cd _ _ _ _).symm)) M4 T1 (by simp[keys]) (by(try simp only[hP]);simp only[bE,dw,cd];rfl) ?_)|((fail_if_success refine ft ?_);(conv=>whnf)<;>(first|exact fh|refine np ay λhc=>?_|refine dR aS ?_|refine np cu λhc=>?_|refine str ?_|refine Br.dec (λhc=>?_) λhc=>?_|refine Br.mk (λhc=>?_) λhc=>?_|exact PV.ao|refine PV.ai ?_ ?_|refine ae ?_ ?_|refine aD λx hx=>?_|refine aE ?_|refine bX (λhn=>?_) ?_|exact fv|refine bS λaZ=>?_|refine al ?_ ?_|refine fu ?_|fail)))<;>(try exact fi)
        refine⟨⟨i+1,aC⟩,by show l.length-(i+1)<l.length-i;omega,?_⟩;show di _ _ (kj En _ _ _ [(6,WX 9 (lG l P at_ (i+1))),(34,.p (eI ((i+1:Nat):Int)))] (WY 9 (lG l P at_ (i+1))) _);rw[IP,hG];exact aG trivial
        all_goals(try(show bZ eI (g::gr)++[eI y.no]=bZ eI (g::(gr++[y.no]));simp;done))
      |false=>
       have cu:¬(lg l P i at_).1=0:=of_decide_eq_false hF;rw[if_neg (by rw[hF];exact nJ),List.append_nil] at IP
       cases hG:lG l P at_ i with
       |nil=>
        repeat' (first|exact fg|(refine stx ?_;first|exact bW _|refine aE ?_)|(refine kq ?_;first|refine iL [1216,1217,1218,1219] ([(1216,.cells [.p (eL l),.p (A7 (su l)),.p (dm sg),.bo 1217 1 0 P.dn.length,.bo 1218 1 0 P.lk.length,.mp 1219]),(1217,.row 1 (P.dn.map PV.bool)),(1218,.row 1 (P.lk.map eI)),(1219,.cN fT 1 (hM (oU P.rv)))]) (q5) (by kernel_rfl) rfl rfl (by decide) M1 (λi hi=>by match i,hi with|0,_=>(first|rfl|exact(cd _ _ _ _).symm)|1,_=>(first|rfl|exact(cd _ _ _ _).symm)|2,_=>(first|rfl|exact(cd _ _ _ _).symm)|3,_=>(first|rfl|exact(cd _ _ _ _).symm)) M4 T1 (by simp[keys]) (by(try simp only[hP]);simp only[bE,dw,cd];rfl) ?_)|((fail_if_success refine ft ?_);(conv=>whnf)<;>(first|exact fh|refine np ay λhc=>?_|refine dR aS ?_|refine vZ cu λhc=>?_|refine str ?_|refine Br.dec (λhc=>?_) λhc=>?_|refine Br.mk (λhc=>?_) λhc=>?_|exact PV.ao|refine PV.ai ?_ ?_|refine ae ?_ ?_|refine aD λx hx=>?_|refine aE ?_|refine bX (λhn=>?_) ?_|exact fv|refine bS λaZ=>?_|refine al ?_ ?_|refine fu ?_|fail)))<;>(try exact fi)
        refine⟨⟨i+1,aC⟩,by show l.length-(i+1)<l.length-i;omega,?_⟩;show di _ _ (kj En _ _ _ [(6,WX 9 (lG l P at_ (i+1))),(34,.p (eI ((i+1:Nat):Int)))] (WY 9 (lG l P at_ (i+1))) _);rw[IP,hG];exact aG trivial
       |cons g gr=>
        repeat' (first|exact fg|(refine stx ?_;first|exact bW _|refine aE ?_)|(refine kq ?_;first|refine iL [1216,1217,1218,1219] ([(1216,.cells [.p (eL l),.p (A7 (su l)),.p (dm sg),.bo 1217 1 0 P.dn.length,.bo 1218 1 0 P.lk.length,.mp 1219]),(1217,.row 1 (P.dn.map PV.bool)),(1218,.row 1 (P.lk.map eI)),(1219,.cN fT 1 (hM (oU P.rv)))]) (q5) (by kernel_rfl) rfl rfl (by decide) M1 (λi hi=>by match i,hi with|0,_=>(first|rfl|exact(cd _ _ _ _).symm)|1,_=>(first|rfl|exact(cd _ _ _ _).symm)|2,_=>(first|rfl|exact(cd _ _ _ _).symm)|3,_=>(first|rfl|exact(cd _ _ _ _).symm)) M4 T1 (by simp[keys]) (by(try simp only[hP]);simp only[bE,dw,cd];rfl) ?_)|((fail_if_success refine ft ?_);(conv=>whnf)<;>(first|exact fh|refine np ay λhc=>?_|refine dR aS ?_|refine vZ cu λhc=>?_|refine str ?_|refine Br.dec (λhc=>?_) λhc=>?_|refine Br.mk (λhc=>?_) λhc=>?_|exact PV.ao|refine PV.ai ?_ ?_|refine ae ?_ ?_|refine aD λx hx=>?_|refine aE ?_|refine bX (λhn=>?_) ?_|exact fv|refine bS λaZ=>?_|refine al ?_ ?_|refine fu ?_|fail)))<;>(try exact fi)
        refine⟨⟨i+1,aC⟩,by show l.length-(i+1)<l.length-i;omega,?_⟩;show di _ _ (kj En _ _ _ [(6,WX 9 (lG l P at_ (i+1))),(34,.p (eI ((i+1:Nat):Int)))] (WY 9 (lG l P at_ (i+1))) _);rw[IP,hG];exact aG trivial
     |none=>
      have dD:l.length<=i:=bw.1 aS;(have bV:¬((i:Int)<((l.map eA).length:Int)):=by rw[ak];omega);have yR:i=l.length:=by omega
      cases hG:lG l P at_ i with
      |nil=>
       refine bM (kN bV) (λhc=>?_);rw[<-yR,hG];exact Tn _
      |cons g gr=>
       refine bM (kN bV) (λhc=>?_);rw[<-yR,hG];refine aP.of (congrArg (λq=>PV.bR [PV.sl 1 false q,eI 0]) ?_);show List.take (gr.length+1) (List.drop 0 (bZ eI (g::gr)))=bZ eI (g::gr);rw[List.drop_zero,bN (by simp)]
 · rw[if_neg hz]
   refine aa.e Tryz.func33 55 [.tmp 6,.tmp 7] En ?_;refine bM q1 (λhc=>?_)
   all_goals exact Tn _
end bA
end Go.Proofs.YtmaiccmhkmndcaaGreatDoor
