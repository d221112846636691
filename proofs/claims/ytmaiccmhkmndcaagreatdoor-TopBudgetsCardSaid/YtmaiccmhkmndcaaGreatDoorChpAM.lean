/- A part of the proof: contracts of the functions that the statement reaches. -/
import Derived.Test.YtmaiccmhkmndcaaGreatDoorChpAL
import Derived.Test.YtmaiccmhkmndcaaGreatDoorChpAA
set_option linter.unusedSimpArgs false
set_option linter.unusedVariables false
set_option linter.unnecessarySimpa false
set_option maxRecDepth 100000
set_option maxHeartbeats 40000000
open Bool renaming and_eq_true->aQ
open Go.Proofs.Tryz renaming prog->af
open List renaming length_map->ak,getElem?_eq_none_iff->bw,take_of_length_le->bN,getElem?_eq_some_iff->aq,mem_of_getElem?->aO
namespace Go.Proofs.YtmaiccmhkmndcaaGreatDoor
open Go Go.Sg
def cP(p:Po):List PV:=[.str p.name,gV p.kinds,gV p.cx,.sl 8 false (p.rules.map ns),eI p.wc.k,eI p.wc.n,eI p.wc.no,.str p.wc.nm,.sl 5 false (p.wc.l.map eX),eI p.mode]
theorem Qb{p:Po}(h:Ht p=0):Rp p=true/\Ev p=true/\LI p=true:=by
 unfold Ht at h;cases h1:Rp p<;>rw[h1] at h
 · simp at h
 cases h2:Ev p<;>rw[h2] at h
 · simp at h
 cases h3:LI p<;>rw[h3] at h
 · simp at h
 exact⟨rfl,rfl,rfl⟩
theorem JR(p:Po)(hp:oL p)(h:Ht p=0):aa af 164 [.ro (cP p)] (.bR []):=by
 obtain⟨h1,h2,h3⟩:=Qb h;have q1:=Hy p hp h1;have q2:=HA p hp h2;have q3:=JQ p hp h3;refine aa.e Tryz.func164 7 [] [0] ?_;exact gg q1 q2 q3 trivial
theorem BO(p:Po)(hp:oL p)(h:Ht p=0):aa af 163 [.fn (.func 164) [] [.ro (cP p)]] (eI 0):=by
 have q:=JR p hp h;refine cB.eq (R:=(· =eI 0)) (cB.ofD [0] [_] mixed Tryz.func163 rfl rfl rfl (by kernel_rfl) (by simp) rfl (Nat.le_refl _) (by simp) rfl rfl rfl Tryz.func215 rfl rfl rfl (by kernel_rfl) rfl rfl (λev w=>rfl) (λev w=>rfl) rfl (by decide) (.inr ⟨_,_,rfl,rfl,rfl,rfl,rfl⟩) (by kernel_rfl) [0,2] [0,2] [0,1,2,3,6,13] ?_) (λq h=>h▸PV.le_refl _);intro G hG;refine bM q ?_
 all_goals(refine⟨_,rfl,?_⟩;(conv=>whnf);exact aP.refl _)
theorem Ak(p:Po)(hp:oL p)(h:Ht p=0):aa af 113 [tM p] (.bR [tM (WV p),eI 0]):=by
 have qa:=BO p hp h;clear h;obtain⟨nm,ks,os,rs,ch,md⟩:=p;have h1:ks.length<=20:=hp.k;have h2:os.length<=40:=hp.o;have h3:rs.length<=20:=hp.r;have he:∀r∈rs,iT r.ex<=40:=hp.e;have q4:=sV os (by omega) ch (by have:iT ch<=40:=hp.c;omega);have hs:tM (Po.mk nm ks os rs ch md)= .agg [.str nm,gV ks,gV os,.sl 8 false (rs.map ns),eI ch.k,eI ch.n,eI ch.no,.str ch.nm,.sl 5 false (ch.l.map eX),eI md]:=rfl;rw[hs];refine aa.e Tryz.func113 44 [.cell 2 133,.tmp 3] Li ?_;refine bM (kZ qa) ?_;refine bY.bq (α:={i:Nat // i<=rs.length}) mixed Li (λi=>[(17,.p (eI i.1))]) (λi=>(64,.cells [.p (.str nm),.p (gV ks),.p (gV os),oV 1 8 ((rs.zipIdx.take i.1).map (sw os)),.p (eI ch.k),.p (eI ch.n),.p (eI ch.no),.p (.str ch.nm),.p (.sl 5 false (ch.l.map eX)),.p (eI md)])::oH 1 8 ((rs.zipIdx.take i.1).map (sw os))) (λ_=>0) (λi=>rs.length-i.1) ⟨0,by omega⟩ ?_ ?_
 · exact aG trivial
 rintro⟨i,hi⟩;have hi:i<=rs.length:=hi;show ya [(17,_)] _ _ λe=>x9 ((64,.cells [.p (.str nm),.p (gV ks),.p (gV os),oV 1 8 ((rs.zipIdx.take i).map (sw os)),.p (eI ch.k),.p (eI ch.n),.p (eI ch.no),.p (.str ch.nm),.p (.sl 5 false (ch.l.map eX)),.p (eI md)])::oH 1 8 ((rs.zipIdx.take i).map (sw os))) _ [] λh=>_;have kl:((rs.zipIdx.take i).map (sw os)).length<1000000:=by rw[ak,List.length_take];omega
 cases aS:rs[i]? with
 |none=>
  have dD:rs.length<=i:=bw.1 aS;(have bV:¬((i:Int)<((rs.map ns).length:Int)):=by rw[ak];omega);rw[bN (by simp;omega)] at kl ⊢
  have GV:tM (WV (Po.mk nm ks os rs ch md))= .agg [.str nm,gV ks,gV os,.sl 8 false (rs.zipIdx.map (sw os)),eI (lT os ch).k,eI (lT os ch).n,eI (lT os ch).no,.str (lT os ch).nm,.sl 5 false ((lT os ch).l.map eX),eI md]:=by
   show PV.agg [_,_,_,.sl 8 false ((rs.zipIdx.map (YP os)).map ns),_,_,_,_,_,_]=_;rw[List.map_map];rfl
  rw[GV]
  cases hG:rs.zipIdx.map (sw os) with
  |nil=>
   refine gG (kN bV) q4 (λhc=>?_)
   all_goals exact Ha trivial
  |cons g gr=>
   rw[hG] at kl;have kl:gr.length+1<1000000:=kl;refine gG (kN bV) q4 (λhc=>?_)
   all_goals refine Ha ?_
   all_goals(rw[List.drop_zero,bN (by simp)])
 |some x=>
  have aC:i<rs.length:=(aq.1 aS).1;(have ay:((i:Int)<((rs.map ns).length:Int)):=by rw[ak];omega);have ku:=aO aS;have q1:=sV os (by omega) x.ex (by have:=he x ku;omega);have BI:(rs.zipIdx.take (i+1)).map (sw os)=(rs.zipIdx.take i).map (sw os)++[sw os (x,i)]:=by rw[List.take_add_one,nf aS];simp
  cases hG:(rs.zipIdx.take i).map (sw os) with
  |nil=>
   refine gg (kY ay) (kX aS) q1 (λhc aZ=>?_);refine⟨⟨i+1,aC⟩,by show rs.length-(i+1)<rs.length-i;omega,?_⟩;show di _ _ (kj Li _ _ _ [(17,.p (eI ((i+1:Nat):Int)))] ((64,.cells [.p (.str nm),.p (gV ks),.p (gV os),oV 1 8 ((rs.zipIdx.take (i+1)).map (sw os)),.p (eI ch.k),.p (eI ch.n),.p (eI ch.no),.p (.str ch.nm),.p (.sl 5 false (ch.l.map eX)),.p (eI md)])::oH 1 8 ((rs.zipIdx.take (i+1)).map (sw os))) _);rw[BI,hG];exact aG trivial
  |cons g gr=>
   rw[hG] at kl;have kl:gr.length+1<1000000:=kl;refine gg (kY ay) (kX aS) q1 (λhc=>?_);refine⟨⟨i+1,aC⟩,by show rs.length-(i+1)<rs.length-i;omega,?_⟩;show di _ _ (kj Li _ _ _ [(17,.p (eI ((i+1:Nat):Int)))] ((64,.cells [.p (.str nm),.p (gV ks),.p (gV os),oV 1 8 ((rs.zipIdx.take (i+1)).map (sw os)),.p (eI ch.k),.p (eI ch.n),.p (eI ch.no),.p (.str ch.nm),.p (.sl 5 false (ch.l.map eX)),.p (eI md)])::oH 1 8 ((rs.zipIdx.take (i+1)).map (sw os))) _);rw[BI,hG];exact aG trivial
mutual
theorem EC(o:List ByteArray):∀(x:Ex) (d:Int),lT o x=x-> ∀z∈prt x d,VQ o z=true
 |.mk k n no s l,d,h,z,hz=>by
  rw[lT] at h;injection h with _ _ h1 _ h2;rw[prt,List.mem_cons] at hz;rcases hz with rfl|hz
  · exact decide_eq_true h1.symm
  · exact HG o l (d+1) h2 z hz
theorem HG(o:List ByteArray):∀(l:List Ex) (d:Int),Hs o l=l-> ∀z∈jj l d,VQ o z=true
 |[],d,h,z,hz=>by rw[jj] at hz;cases hz
 |x::r,d,h,z,hz=>by
  rw[Hs] at h;injection h with h1 h2;rw[jj,List.mem_append] at hz;rcases hz with hz|hz
  · exact EC o x d h1 z hz
  · exact HG o r d h2 z hz
end
theorem oN{p:Po}(h:wg p=0):Ht p=0/\VP p=true:=by
 unfold wg at h;split at h
 · rename_i h1
   refine⟨h1,?_⟩;split at h
   · assumption
   · cases h
 · rename_i h1;exact absurd h h1
theorem u3(p:Po)(hp:oL p)(h:wg p=0):aa af 58 [tM p] (eI 0):=by
 obtain⟨h1,h2⟩:=oN h;have qa:=Ak p hp h1;clear h h1;simp only[VP,aQ] at h2;obtain⟨h4,h5⟩:=h2;obtain⟨nm,ks,os,rs,ch,md⟩:=p;have hk:ks.length<=20:=hp.k;have ho:os.length<=40:=hp.o;have h3:rs.length<=20:=hp.r;have he:∀r∈rs,iT r.ex<=40:=hp.e;have q4:=rL os (by omega) ch (by have:iT ch<=40:=hp.c;omega) (EC os ch 1 (JN _ _ h4));have hs:tM (Po.mk nm ks os rs ch md)= .agg [.str nm,gV ks,gV os,.sl 8 false (rs.map ns),eI ch.k,eI ch.n,eI ch.no,.str ch.nm,.sl 5 false (ch.l.map eX),eI md]:=rfl;rw[hs] at qa ⊢;refine aa.e Tryz.func58 40 [.tmp 2] YD ?_;refine bM qa ?_;refine bY.bK (α:={i:Nat // i<=rs.length/\True}) mixed YD (λi=>[(16,.p (eI i.1))]) (λi=>rs.length-i.1) ⟨0,by omega,trivial⟩ ?_ ?_
 · exact aG trivial
 rintro⟨i,hi,hq⟩;have hi:i<=rs.length:=hi;have hq:True:=hq
 cases aS:rs[i]? with
 |none=>
  have dD:rs.length<=i:=bw.1 aS;(have bV:¬((i:Int)<((rs.map ns).length:Int)):=by rw[ak];omega);exact gG (kN bV) q4 trivial
 |some x=>
  have aC:i<rs.length:=(aq.1 aS).1;(have ay:((i:Int)<((rs.map ns).length:Int)):=by rw[ak];omega);have ku:=aO aS;have h6:=List.all_eq_true.1 h5 _ (aO (nf aS));simp only[Oh,aQ,decide_eq_true_eq] at h6;have hn:x.no=(i:Int):=h6.1.symm;have q1:=rL os (by omega) x.ex (by have:=he x ku;omega) (EC os x.ex 1 (JN _ _ h6.2))
  repeat' (first|exact fg|(refine stx ?_;first|exact bW _|refine aE ?_)|(refine kq ?_;first|refine fR q1 ?_)|((fail_if_success refine ft ?_);(conv=>whnf)<;>(first|exact fh|refine np ay λhc=>?_|refine Br.dec (λhc=>absurd hn hc) (λhc=>?_)|refine dR aS ?_|refine str ?_|refine Br.dec (λhc=>?_) λhc=>?_|refine Br.mk (λhc=>?_) λhc=>?_|exact PV.ao|refine PV.ai ?_ ?_|refine And.intro ?_ ?_|refine aD λx hx=>?_|refine aE ?_|refine bX (λhn=>?_) ?_|exact fv|refine bS λaZ=>?_|refine al ?_ ?_|refine fu ?_|fail)))<;>(try exact fi)
  refine⟨⟨i+1,aC,trivial⟩,by show rs.length-(i+1)<rs.length-i;omega,?_⟩;exact aG trivial
theorem wh{l:List Vr}(h:xO l=0):aA dt Vr.no (-1) l=true:=(vY dt Vr.no (by decide) h).2
theorem u4(l:List Vr)(hl:Qa l)(h:xO l=0):aa af 17 [BJ l] (eI 0):=by
 obtain⟨hl,hf⟩:=hl;have bQ:=wh h;(have h97:¬(256:Int)<((l.map lv).length:Int):=by rw[ak];omega);refine aa.e Tryz.func17 42 [.tmp 2] [0,2,3,5,8,9,10,11,12,38] ?_;refine bM (kN h97) (λhc=>?_);refine bY.bK (α:={i:Nat // i<=l.length/\aA dt Vr.no (ax Vr.no l i) (l.drop i)=true}) mixed [0,2,3,5,8,9,10,11,12,38] (λi=>[(3,.p (eI (ax Vr.no l i.1))),(11,.p (eI i.1))]) (λi=>l.length-i.1) ⟨0,by omega,bQ⟩ ?_ ?_
 · exact aG trivial
 rintro⟨i,hi,hq⟩;have hi:i<=l.length:=hi;have hq:aA dt Vr.no (ax Vr.no l i) (l.drop i)=true:=hq
 cases aS:l[i]? with
 |none=>
  have dD:l.length<=i:=bw.1 aS;(have bV:¬((i:Int)<((l.map lv).length:Int)):=by rw[ak];omega);exact bM (kN bV) trivial
 |some x=>
  have aC:i<l.length:=(aq.1 aS).1;(have ay:((i:Int)<((l.map lv).length:Int)):=by rw[ak];omega);have ku:=aO aS;rw[rr dt Vr.no _ aS] at hq;simp only[aQ,decide_eq_true_eq,dt,Dm] at hq;obtain⟨⟨⟨g1,g2,⟨g3,g4⟩,⟨g5,g6⟩,g7⟩,g8⟩,g9⟩:=hq
  have hb: -1<=ax Vr.no l i:=by
   cases i with
   |zero=>exact Int.le_refl _
   |succ j=>
    obtain⟨z,hz⟩:∃z,l[j]? =some z:=⟨_,List.getElem?_eq_getElem (by omega)⟩;rw[bk Vr.no hz];have h8:=(gv dt Vr.no l (-1)).1 bQ;have:=(h8.1 z (aO hz)).2;omega
  have q1:=aB x.no (ax Vr.no l i+1) 1048576;rw[show bh (ax Vr.no l i+1) 1048576 x.no=true by simp[bh];omega] at q1;have q2:=aB x.tm 0 1099511627775;rw[show bh 0 1099511627775 x.tm=true by simp[bh];omega] at q2;have q3:=aB x.known 0 1099511627775;rw[show bh 0 1099511627775 x.known=true by simp[bh];omega] at q3;have q4:=u3 x.lU (hf x ku) g7;refine Jt (kY ay) (kX aS) q1 q2 q3 q4 (λhc=>?_);refine⟨⟨i+1,aC,by rw[bk Vr.no aS];exact g9⟩,by show l.length-(i+1)<l.length-i;omega,?_⟩;refine aG ?_
  all_goals(rw[bk Vr.no aS])
end Go.Proofs.YtmaiccmhkmndcaaGreatDoor
