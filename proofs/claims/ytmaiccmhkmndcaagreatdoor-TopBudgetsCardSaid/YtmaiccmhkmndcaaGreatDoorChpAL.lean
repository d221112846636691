/- A part of the proof: contracts of the functions that the statement reaches. -/
import Derived.Test.YtmaiccmhkmndcaaGreatDoorChpAK
import Derived.Test.YtmaiccmhkmndcaaGreatDoorChpAA
set_option linter.unusedSimpArgs false
set_option linter.unusedVariables false
set_option linter.unnecessarySimpa false
set_option maxRecDepth 100000
set_option maxHeartbeats 40000000
open And renaming intro->ae
open Bool renaming and_eq_true->aQ
open Go.Proofs.Tryz renaming prog->af
open List renaming length_map->ak,getElem?_eq_none_iff->bw,getElem?_eq_some_iff->aq,mem_of_getElem?->aO,getElem?_eq_getElem->aV,take_add_one->bz,length_cons->ea,length_append->fk,map->bZ,take_of_length_le->bN,length->kQ,mem_map->aY,getElem?_append_right->lX,getElem?_append_left->gA,mem_cons->cy,mem_append->cL,all_eq_true->cG
open Nat renaming lt_or_ge->dK
namespace Go.Proofs.YtmaiccmhkmndcaaGreatDoor
open Go Go.Sg
def Dm(n:Int):Bool:=decide (0<=n)&&decide (n<1099511627776)
theorem u1(n:Int):aa af 68 [eI n] (.bool (Dm n)):=by
 refine aa.e Tryz.func68 9 [.tmp 2] [0,2] ?_;refine cb (ae (λhc=>?_) λhc=>?_)
 all_goals(refine aP.bool ?_;simp_all [Dm]<;>omega)
def dt(v:Vr):Bool:=decide (0<=v.no)&&(decide (v.no<=1048576)&&(Dm v.tm&&(Dm v.known&&decide (wg v.lU=0))))
def xO(l:List Vr):Int:=tJ dt Vr.no 256 200 l
def Qa(l:List Vr):Prop:=l.length<=5/\ ∀v∈l,oL v.lU
theorem BN(l:List Vr)(hl:Qa l):aa af 25 [BJ l] (eI (xO l)):=by
 obtain⟨hl,hf⟩:=hl;(have iP:¬(256:Int)<(l.length:Int):=by omega);(have h97:¬(256:Int)<((l.map lv).length:Int):=by rw[ak];omega);refine aa.e Tryz.func25 59 [.tmp 2] [0,2,3,4,7,11,58] ?_;refine bM (kN h97) (λhc=>?_);refine bY.bK (α:={i:Nat // i<=l.length/\aA dt Vr.no (ax Vr.no l i) (l.drop i)=aA dt Vr.no (-1) l}) mixed [0,2,3,4,7,11,58] (λi=>[(3,.p (eI i.1))]) (λi=>l.length-i.1) ⟨0,by omega,rfl⟩ ?_ ?_
 · exact aG trivial
 rintro⟨i,hi,hq⟩;have hi:i<=l.length:=hi;have hq:aA dt Vr.no (ax Vr.no l i) (l.drop i)=aA dt Vr.no (-1) l:=hq
 cases aS:l[i]? with
 |none=>
  have dD:l.length<=i:=bw.1 aS;(have bV:¬((i:Int)<((l.map lv).length:Int)):=by rw[ak];omega);refine bM (kN bV) (λhc=>?_);rw[show xO l=0 from iK dt Vr.no iP (cR dt Vr.no hq (by omega))];exact aP.refl _
 |some x=>
  have aC:i<l.length:=(aq.1 aS).1;(have ay:((i:Int)<((l.map lv).length:Int)):=by rw[ak];omega);have ku:=aO aS;have q1:=BM x.lU (hf x ku);have q2:=u1 x.tm;have q3:=u1 x.known;obtain⟨b2,wF⟩:∃b,b=Dm x.tm:=⟨_,rfl⟩;obtain⟨b3,hb3⟩:∃b,b=Dm x.known:=⟨_,rfl⟩;obtain⟨e1,he1⟩:∃e,e=wg x.lU:=⟨_,rfl⟩;rw[<-wF] at q2;rw[<-hb3] at q3;rw[<-he1] at q1;have hr:dt x=(decide (0<=x.no)&&(decide (x.no<=1048576)&&(b2&&(b3&&decide (e1=0))))):=by rw[wF,hb3,he1];rfl
  have gy:0<i->∃z,l[i-1]? =some z/\ax Vr.no l i=Vr.no z:=λh=>by
   obtain⟨j,rfl⟩:∃j,i=j+1:=⟨i-1,by omega⟩;obtain⟨z,hz⟩:∃z,l[j]? =some z:=⟨_,aV (by omega)⟩;exact⟨z,hz,bk Vr.no hz⟩
  have bad:(dt x&&decide (ax Vr.no l i<x.no))=false->xO l=200:=λh=>cT dt Vr.no iP (bC dt Vr.no aS hq h);by_cases Lu:0<i
  · obtain⟨z,hz,hzn⟩:=gy Lu
    (have Bm:l[((i:Int)-1).toNat]? =some z:=by rw[show((i:Int)-1).toNat=i-1 by omega];exact hz);rw[hzn] at bad;by_cases hh:0<=x.no/\x.no<=1048576/\z.no<x.no
    · obtain⟨g1,g2,g3⟩:=hh
      (have S5:¬ x.no<0:=by omega);(have S6:¬ 1048576<x.no:=by omega);(have g3':¬ x.no<=z.no:=by omega);have g4:(0:Int)<i:=by omega
      cases b2 with
      |false=>
       rw[bad (by rw[hr];simp)];exact Yu (kY ay) (kN S5) (kN S6) (kY g4) (kN g3') (kX aS) (kX Bm) q2 trivial
      |true=>
      cases b3 with
      |false=>
       rw[bad (by rw[hr];simp)];exact wk9 (kY ay) (kN S5) (kN S6) (kY g4) (kN g3') (kX aS) (kX Bm) q2 q3 trivial
      |true=>
      by_cases h0:e1=0
      · repeat' (first|exact fg|(refine stx ?_;first|exact bW _|refine aE ?_)|(refine kq ?_;first|refine fR q2 ?_|refine fR q3 ?_|refine fR q1 ?_)|((fail_if_success refine ft ?_);(conv=>whnf)<;>(first|exact fh|refine np ay λhc=>?_|refine vZ S5 λhc=>?_|refine vZ S6 λhc=>?_|refine np g4 λhc=>?_|refine vZ g3' λhc=>?_|refine Br.dec (λhc=>absurd h0 hc) (λhc=>?_)|refine dR aS ?_|refine dR Bm ?_|refine str ?_|refine Br.dec (λhc=>?_) λhc=>?_|refine Br.mk (λhc=>?_) λhc=>?_|exact PV.ao|refine PV.ai ?_ ?_|refine ae ?_ ?_|refine aD λx hx=>?_|refine aE ?_|refine bX (λhn=>?_) ?_|exact fv|refine bS λaZ=>?_|refine al ?_ ?_|refine fu ?_|fail)))<;>(try exact fi)
        refine⟨⟨i+1,aC,bU dt Vr.no aS hq (by rw[hr,hzn];simp[g1,g2,g3,h0])⟩,by show l.length-(i+1)<l.length-i;omega,?_⟩;exact aG trivial
      · rw[bad (by rw[hr];simp[h0])]
        repeat' (first|exact fg|(refine stx ?_;first|exact bW _|refine aE ?_)|(refine kq ?_;first|refine fR q2 ?_|refine fR q3 ?_|refine fR q1 ?_)|((fail_if_success refine ft ?_);(conv=>whnf)<;>(first|exact fh|refine np ay λhc=>?_|refine vZ S5 λhc=>?_|refine vZ S6 λhc=>?_|refine np g4 λhc=>?_|refine vZ g3' λhc=>?_|refine Br.dec (λhc=>?_) (λhc=>absurd hc h0)|refine dR aS ?_|refine dR Bm ?_|refine str ?_|refine Br.dec (λhc=>?_) λhc=>?_|refine Br.mk (λhc=>?_) λhc=>?_|exact PV.ao|refine PV.ai ?_ ?_|refine ae ?_ ?_|refine aD λx hx=>?_|refine aE ?_|refine bX (λhn=>?_) ?_|exact fv|refine bS λaZ=>?_|refine al ?_ ?_|refine fu ?_|fail)))<;>(try exact fi)
    · rw[bad (by rw[hr];cases hs:(decide (0<=x.no)&&(decide (x.no<=1048576)&&(b2&&(b3&&decide (e1=0))))&&decide (z.no<x.no)) with
       |false=>rfl
       |true=>simp only[aQ,decide_eq_true_eq] at hs;exact absurd ⟨hs.1.1,hs.1.2.1,hs.2⟩ hh)]
      (have g4:(0:Int)<i:=by omega);(have g5:x.no<0\/ ¬ x.no<0:=by omega);exact oa (kY ay) (kY g4) (kX aS) (kX Bm) trivial
      all_goals(exfalso;apply hh;refine⟨by omega,by omega,by omega⟩)
  · have hi00:i=0:=by omega
    subst hi00;have BA:ax Vr.no l 0= -1:=rfl;rw[BA] at bad;(have g4:¬(0:Int)<((0:Nat):Int):=by omega);by_cases hh:0<=x.no/\x.no<=1048576
    · obtain⟨g1,g2⟩:=hh
      (have S5:¬ x.no<0:=by omega);have S6:¬ 1048576<x.no:=by omega
      cases b2 with
      |false=>
       rw[bad (by rw[hr];simp)];exact Jt (kY ay) (kN S5) (kN S6) (kN g4) (kX aS) q2 trivial
      |true=>
      cases b3 with
      |false=>
       rw[bad (by rw[hr];simp)];exact Ri (kY ay) (kN S5) (kN S6) (kN g4) (kX aS) q2 q3 trivial
      |true=>
      by_cases h0:e1=0
      · repeat' (first|exact fg|(refine stx ?_;first|exact bW _|refine aE ?_)|(refine kq ?_;first|refine fR q2 ?_|refine fR q3 ?_|refine fR q1 ?_)|((fail_if_success refine ft ?_);(conv=>whnf)<;>(first|exact fh|refine np ay λhc=>?_|refine vZ S5 λhc=>?_|refine vZ S6 λhc=>?_|refine vZ g4 λhc=>?_|refine Br.dec (λhc=>absurd h0 hc) (λhc=>?_)|refine dR aS ?_|refine str ?_|refine Br.dec (λhc=>?_) λhc=>?_|refine Br.mk (λhc=>?_) λhc=>?_|exact PV.ao|refine PV.ai ?_ ?_|refine ae ?_ ?_|refine aD λx hx=>?_|refine aE ?_|refine bX (λhn=>?_) ?_|exact fv|refine bS λaZ=>?_|refine al ?_ ?_|refine fu ?_|fail)))<;>(try exact fi)
        refine⟨⟨0+1,aC,bU dt Vr.no aS hq (by rw[hr,BA];simp[g2,h0];omega)⟩,by show l.length-(0+1)<l.length-0;omega,?_⟩;exact aG trivial
      · rw[bad (by rw[hr];simp[h0])]
        repeat' (first|exact fg|(refine stx ?_;first|exact bW _|refine aE ?_)|(refine kq ?_;first|refine fR q2 ?_|refine fR q3 ?_|refine fR q1 ?_)|((fail_if_success refine ft ?_);(conv=>whnf)<;>(first|exact fh|refine np ay λhc=>?_|refine vZ S5 λhc=>?_|refine vZ S6 λhc=>?_|refine vZ g4 λhc=>?_|refine Br.dec (λhc=>?_) (λhc=>absurd hc h0)|refine dR aS ?_|refine str ?_|refine Br.dec (λhc=>?_) λhc=>?_|refine Br.mk (λhc=>?_) λhc=>?_|exact PV.ao|refine PV.ai ?_ ?_|refine ae ?_ ?_|refine aD λx hx=>?_|refine aE ?_|refine bX (λhn=>?_) ?_|exact fv|refine bS λaZ=>?_|refine al ?_ ?_|refine fu ?_|fail)))<;>(try exact fi)
    · rw[bad (by rw[hr];cases hs:(decide (0<=x.no)&&(decide (x.no<=1048576)&&(b2&&(b3&&decide (e1=0))))&&decide (-1<x.no)) with
       |false=>rfl
       |true=>simp only[aQ,decide_eq_true_eq] at hs;exact absurd ⟨hs.1.1,hs.1.2.1⟩ hh)]
      exact gg (kY ay) (kN g4) (kX aS) trivial
      all_goals(exfalso;apply hh;refine⟨by omega,by omega⟩)
mutual
def prt:Ex->Int->List (Ex×Int)
 |.mk k n no s l,d=>(.mk k n no s l,d)::jj l (d+1)
def jj:List Ex->Int->List (Ex×Int)
 |[],_=>[]
 |x::r,d=>prt x d++jj r d
end
def Iw(z:Ex×Int):PV:= .agg [eI z.1.k,eI z.1.n,eI z.1.no,.str z.1.nm,.sl 5 false (z.1.l.map eX),eI z.2]
theorem xk(a b:List Ex)(d:Int):jj (a++b) d=jj a d++jj b d:=by
 induction a with
 |nil=>simp[jj]
 |cons x r ih=>simp[jj,ih]
theorem Nw{l:List Ex}{i:Nat}{x:Ex}(d:Int)(h:l[i]? =some x):jj (l.take (i+1)) d=jj (l.take i) d++prt x d:=by
 rw[bz,h,xk];simp[jj]
theorem JO{l:List Ex}{i:Nat}{x:Ex}(d:Int)(h:l[i]? =some x):jj l d=jj (l.take i) d++(prt x d++jj (l.drop (i+1)) d):=by
 conv=>lhs;rw[<-List.take_append_drop i l,xk,pB h,jj]
mutual
theorem Ez:∀x d,(prt x d).length=iT x
 |.mk k n no s l,d=>by rw[prt,iT,ea,rJ l]
theorem rJ:∀l d,(jj l d).length=fw l
 |[],d=>by rw[jj,fw];rfl
 |x::r,d=>by rw[jj,fw,fk,Ez x,rJ r]
end
theorem lJ(x:Ex)(d:Int):aa af 169 [eW x,eI d] (.fn (.func 221) [] [.ro (cX x),.ro [eI d]]):=by
 refine aa.e Tryz.func169 6 [.tmp 4] [0,1,2,3,4] ?_;exact cb trivial
 all_goals exact Ha trivial
theorem sx{α:Type}{l:List α}{i:Nat}{x:α}(f:α->List PV)(h:l[i]? =some x):(l.map f).getD i []=f x:=by
 simp[List.getD,h]
theorem pF:∀(x:Ex) (d:Int),iT x<=1000->0<=d->d+xN x<=1000->Iter af 221 [.ro (cX x),.ro [eI d]] ((prt x d).map λz=>[Iw z]):=by
 refine Ex.ind λv ih d ht yY hd=>?_;obtain⟨k,n,no,s,l⟩:=v;have ih:∀x∈l,∀d:Int,iT x<=1000->0<=d->d+xN x<=1000->Iter af 221 [.ro (cX x),.ro [eI d]] ((prt x d).map λz=>[Iw z]):=ih;show Iter af 221 [.ro [eI k,eI n,eI no,.str s,.sl 5 false (l.map eX)],.ro [eI d]] _;rw[iT] at ht;rw[xN] at hd;have A0:=lI l;have Il:=rJ l (d+1);(have e0:prt (Ex.mk k n no s l) d=(Ex.mk k n no s l,d)::jj l (d+1):=by rw[prt]);rw[e0];refine Iter.e Tryz.func221 30 PQ ?_;intro G hG si jM;(have BC:G.xs.length=fw l+1:=by rw[jM];simp[Il]);refine cb (ae ?_ (ae (λhc=>?_) λhc=>?_))
 · have e:G.xs.getD 0 []=[Iw (.mk k n no s l,d)]:=by rw[jM];rfl
   show _=bZ AV.p (G.xs.getD 0 []);rw[e];rfl
 · have hc:0≠G.stop:=hc
   refine bY.bq (α:={i:Nat // i<=l.length/\fw (l.take i)+1<=G.stop}) mixed PQ (λi=>[(16,.p (eI i.1))]) (λ_=>[]) (λi=>fw (l.take i.1)+1) (λi=>l.length-i.1) ⟨0,by omega,by rw[List.take_zero,fw];omega⟩ ?_ ?_
   · exact aG trivial
     all_goals(simp[fw])
   rintro⟨i,hi,hs⟩;have hi:i<=l.length:=hi;have hs:fw (l.take i)+1<=G.stop:=hs
   cases aS:l[i]? with
   |none=>
    have dD:l.length<=i:=bw.1 aS;(have bV:¬((i:Int)<((l.map eX).length:Int)):=by rw[ak];omega);have N5:l.take i=l:=bN dD;refine bM (kN bV) (λhc=>?_);show fw (l.take i)+1=min (G.stop+1) (kQ (bZ _ _));rw[N5] at hs ⊢;rw[ak,ea,Il];omega
   |some x=>
    have aC:i<l.length:=(aq.1 aS).1;(have ay:((i:Int)<((l.map eX).length:Int)):=by rw[ak];omega);have ku:=aO aS;have S0:=lH ku;have TN:=Hq ku;have gh:=ih x ku (d+1) (by omega) (by omega) (by omega);have Ub:=JO (d+1) aS;have hlx:=Ez x (d+1);have Aj:=rJ (l.take i) (d+1);refine gg (kY ay) (kX (kb aS)) (lJ x (d+1)) (λhc=>?_)
    have jd:∀y∈((prt x (d+1)).map λz=>[Iw z]),y.length=1:=λy hy=>by
     obtain⟨z,_,rfl⟩:=aY.1 hy;rfl
    refine bY.Vw mixed gh (by kernel_rfl) hG si rfl PQ (G.stop-(fw (l.take i)+1)) [0,832] (λk=>fw (l.take i)+1+k) rfl rfl (by simp) (by simp) jd (λk hk hm=>?_) (λhm=>?_)
    · rw[ak] at hk
      obtain⟨z,hz⟩:∃z,(prt x (d+1))[k]? =some z:=⟨_,aV hk⟩
      have hgz:G.xs.getD (fw (l.take i)+1+k) []=[Iw z]:=by
       rw[jM];refine sx (λz=>[Iw z]) ?_;rw[show fw (l.take i)+1+k=(fw (l.take i)+k)+1 by omega,List.getElem?_cons_succ,Ub,lX (by omega),Aj,gA (by omega),show fw (l.take i)+k-fw (l.take i)=k by omega];exact hz
      have hlen:(jj l (d+1)).length=fw (l.take i)+(iT x+(jj (l.drop (i+1)) (d+1)).length):=by
       rw[Ub,fk,fk,Aj,hlx]
      rw[sx (λz=>[Iw z]) hz];refine cb (ae ?_ (ae (λhc=>ae ?_ ?_) λhc=>ae ?_ ?_))
      · show _=bZ AV.p (G.xs.getD (fw (l.take i)+1+k) [])
        rw[hgz];rfl
      · have hc:fw (l.take i)+1+k≠G.stop:=hc
        omega
      · try dsimp only
        exact nq trivial
      · have hc:¬ fw (l.take i)+1+k≠G.stop:=hc
        omega
      · have hc:¬ fw (l.take i)+1+k≠G.stop:=hc
        show fw (l.take i)+1+k+1=min (G.stop+1) (kQ (bZ _ _));rw[ak,ea];omega
    · have htt:fw (l.take (i+1))=fw (l.take i)+iT x:=by
       rw[<-rJ (l.take (i+1)) (d+1),Nw (d+1) aS,fk,Aj,hlx]
      (have BA:((prt x (d+1)).map λz=>[Iw z]).length=iT x:=by rw[ak,hlx]);rw[BA] at hm ⊢;refine cb ?_;refine⟨⟨i+1,aC,by rw[htt];omega⟩,by show l.length-(i+1)<l.length-i;omega,?_⟩;refine aG ?_
      all_goals(show fw (l.take (i+1))+1=_;rw[htt];omega)
 · have hc:¬ 0≠G.stop:=hc
   show 0+1=min (G.stop+1) (kQ (bZ _ _));rw[ak,ea];omega
theorem tN(e:Int):aa af 216 [.bool true,eI e] (.bR []):=by
 refine aa.e Tryz.func216 9 [] [0,1,5] ?_;exact cb trivial
def bh(lo hi n:Int):Bool:=decide (lo<=n)&&decide (n<=hi)
theorem aB(n lo hi:Int):aa af 57 [eI n,eI lo,eI hi] (.bool (bh lo hi n)):=by
 refine aa.e Tryz.func57 15 [.tmp 6] [0,1,2,6] ?_;refine cb (ae (λhc=>?_) λhc=>?_)
 all_goals((try simp only[bh, *]);exact fin)
def Ix(p:Po):List Ex:=p.rules.map Ru.ex++[p.wc]
def JP(r:Ru):PV:=eW r.ex
theorem rK(p:Po)(hp:p.rules.length<=20):aa af 217 [tM p] (eXL (Ix p)):=by
 obtain⟨nm,ks,os,rs,ch,md⟩:=p;have h3:rs.length<=20:=hp
 have e:eXL (Ix ⟨nm,ks,os,rs,ch,md⟩)= .sl 5 false (rs.map JP++[eW ch]):=by
  show PV.sl 5 false ((rs.map Ru.ex++[ch]).map eX)=_;rw[List.map_append,List.map_map,List.map_singleton,uW];congr 2;exact List.map_congr_left λr _=>uW _
 rw[e];show aa af 217 [.agg [.str nm,gV ks,gV os,.sl 8 false (rs.map ns),eI ch.k,eI ch.n,eI ch.no,.str ch.nm,.sl 5 false (ch.l.map eX),eI md]] _;refine aa.e Tryz.func217 23 [.tmp 2] Lq ?_;refine cb ?_;refine bY.bq (α:={i:Nat // i<=rs.length}) mixed Lq (λi=>[(2,oV 1 5 ((rs.take i.1).map JP)),(8,.p (eI i.1))]) (λi=>oH 1 5 ((rs.take i.1).map JP)) (λ_=>0) (λi=>rs.length-i.1) ⟨0,by omega⟩ ?_ ?_
 · exact aG trivial
 rintro⟨i,hi⟩;have hi:i<=rs.length:=hi;show ya [(2,oV 1 5 ((rs.take i).map JP)),_] _ _ λe=>x9 (oH 1 5 ((rs.take i).map JP)) _ [] λh=>_;have kl:((rs.take i).map JP).length<1000000:=by rw[ak,List.length_take];omega
 cases aS:rs[i]? with
 |none=>
  have dD:rs.length<=i:=bw.1 aS;(have bV:¬((i:Int)<((rs.map ns).length:Int)):=by rw[ak];omega);rw[bN dD] at kl ⊢
  cases hG:rs.map JP with
  |nil=>
   exact bM (kN bV) trivial
   all_goals exact Ha trivial
  |cons g gr=>
   rw[hG] at kl;have kl:gr.length+1<1000000:=kl;refine bM (kN bV) (λhc=>?_)
   all_goals refine Ha ?_
   all_goals(refine congrArg (PV.sl 5 false) ?_;rw[List.drop_zero,bN (by simp)];rfl)
 |some x=>
  have aC:i<rs.length:=(aq.1 aS).1;(have ay:((i:Int)<((rs.map ns).length:Int)):=by rw[ak];omega);have BI:(rs.take (i+1)).map JP=(rs.take i).map JP++[JP x]:=by rw[bz,aS];simp
  cases hG:(rs.take i).map JP with
  |nil=>
   refine gG (kY ay) (kX aS) (λhc aZ=>?_);refine⟨⟨i+1,aC⟩,by show rs.length-(i+1)<rs.length-i;omega,?_⟩;show di _ _ (kj Lq _ _ _ [(2,oV 1 5 ((rs.take (i+1)).map JP)),(8,.p (eI ((i+1:Nat):Int)))] (oH 1 5 ((rs.take (i+1)).map JP)) _);rw[BI,hG];exact aG trivial
  |cons g gr=>
   rw[hG] at kl;have kl:gr.length+1<1000000:=kl;refine gG (kY ay) (kX aS) (λhc=>?_);refine⟨⟨i+1,aC⟩,by show rs.length-(i+1)<rs.length-i;omega,?_⟩;show di _ _ (kj Lq _ _ _ [(2,oV 1 5 ((rs.take (i+1)).map JP)),(8,.p (eI ((i+1:Nat):Int)))] (oH 1 5 ((rs.take (i+1)).map JP)) _);rw[BI,hG];exact aG trivial
def VQ(o:List ByteArray)(z:Ex×Int):Bool:=decide (z.1.no=if z.1.k=1\/z.1.k=2 then xf o z.1.nm else 0)
theorem rL(o:List ByteArray)(ho:o.length<1000000)(x:Ex)(ht:iT x<=500)(h:∀z∈prt x 1,VQ o z=true):aa af 114 [gV o,eW x] (.bool true):=by
 have gh:=pF x 1 (by omega) (by omega) (by have:=ye x;omega);refine aa.e Tryz.func114 23 [.cell 4 4] Ud ?_;refine bM (lJ x 1) ?_
 have jd:∀y∈((prt x 1).map λz=>[Iw z]),y.length=1:=λy hy=>by
  obtain⟨z,_,rfl⟩:=aY.1 hy;rfl
 refine bY.Jo mixed gh (by kernel_rfl) rfl Ud (prt x 1).length [0,64,128] rfl (by simp) (by simp) jd (λk hk hm=>?_) (λhm=>?_)
 · rw[ak] at hk
   obtain⟨z,hz⟩:∃z,(prt x 1)[k]? =some z:=⟨_,aV hk⟩;have hn:=of_decide_eq_true (h z (aO hz));rw[sx (λz=>[Iw z]) hz];obtain⟨b,hb⟩:∃b,b=(decide (z.1.k=1)||decide (z.1.k=2)):=⟨_,rfl⟩;have q1:=pE z.1.k z.1.n z.1.no z.1.nm (z.1.l.map eX);have q2:=jF o z.1.nm ho;rw[<-hb] at q1
   cases b with
   |true=>
    (have hk:z.1.k=1\/z.1.k=2:=by simpa using hb.symm);rw[if_pos hk] at hn;rw[<-hn] at q2
    repeat' (first|exact fg|(refine stx ?_;first|exact bW _|refine aE ?_)|(refine kq ?_;first|refine fR q1 ?_|refine fR q2 ?_)|((fail_if_success refine ft ?_);(conv=>whnf)<;>(first|exact fh|refine Br.dec (λhc=>absurd rfl hc) (λhc=>?_)|refine str ?_|refine Br.dec (λhc=>?_) λhc=>?_|refine Br.mk (λhc=>?_) λhc=>?_|exact PV.ao|refine PV.ai ?_ ?_|refine ae ?_ ?_|refine aD λx hx=>?_|refine aE ?_|refine bX (λhn=>?_) ?_|exact fv|refine bS λaZ=>?_|refine al ?_ ?_|refine fu ?_|fail)))<;>(try exact fi)
    all_goals first|exact hk|skip
    exact nq trivial
   |false=>
    (have km:¬(z.1.k=1\/z.1.k=2):=by simpa using hb.symm);rw[if_neg km] at hn
    repeat' (first|exact fg|(refine stx ?_;first|exact bW _|refine aE ?_)|(refine kq ?_;first|refine fR q1 ?_)|((fail_if_success refine ft ?_);(conv=>whnf)<;>(first|exact fh|refine Br.dec (λhc=>absurd hn hc) (λhc=>?_)|refine str ?_|refine Br.dec (λhc=>?_) λhc=>?_|refine Br.mk (λhc=>?_) λhc=>?_|exact PV.ao|refine PV.ai ?_ ?_|refine ae ?_ ?_|refine aD λx hx=>?_|refine aE ?_|refine bX (λhn=>?_) ?_|exact fv|refine bS λaZ=>?_|refine al ?_ ?_|refine fu ?_|fail)))<;>(try exact fi)
    all_goals first|exact hk|skip
    exact nq trivial
 · exact cb trivial
mutual
theorem LJ:∀(x:Ex) (d:Int),∀z∈prt x d,z.2+1<=d+xN x
 |.mk k n no s l,d,z,h=>by
  rw[prt,cy] at h;rw[xN];rcases h with rfl|h
  · simp only;omega
  · have:=Hx l (d+1) z h;omega
theorem Hx:∀(l:List Ex) (d:Int),∀z∈jj l d,z.2+1<=d+nb l
 |[],d,z,h=>by rw[jj] at h;cases h
 |x::r,d,z,h=>by
  rw[jj,cL] at h;rw[nb];rcases h with h|h
  · have:=LJ x d z h;omega
  · have:=Hx r d z h;omega
end
theorem Hy(p:Po)(hp:oL p)(hs:Rp p=true):aa af 165 [tM p] (.bR []):=by
 have q2:=rK p hp.r;have BC:(Ix p).length<=21:=by have:=hp.r;simp[Ix];omega
 have YQ:∀x∈Ix p,iT x<=40/\xN x<=16:=λx hx=>by
  simp only[Rp,aQ,decide_eq_true_eq,Bool.not_eq_true',decide_eq_false_iff_not] at hs;rcases cL.1 hx with hx|hx
  · obtain⟨r,hr,rfl⟩:=aY.1 hx
    have:=cG.1 hs.2.2.2.2 r hr;simp[Ro] at this;exact⟨hp.e r hr,by omega⟩
  · simp at hx;subst hx;exact⟨hp.c,by have:=hs.2.2.2.1;omega⟩
 simp only[Rp,aQ,decide_eq_true_eq] at hs;obtain⟨s1,s2,s3,s4,s5⟩:=hs;generalize Ix p=X at *;obtain⟨nm,ks,os,rs,ch,md⟩:=p;have e:tM (Po.mk nm ks os rs ch md)= .agg [.str nm,gV ks,gV os,.sl 8 false (rs.map ns),eI ch.k,eI ch.n,eI ch.no,.str ch.nm,.sl 5 false (ch.l.map eX),eI md]:=rfl;rw[e] at q2 ⊢;(have s1':((os.map eS).length:Int)<=32:=by rw[ak];have:os.length<=32:=s1;omega);(have s2':((ks.map eS).length:Int)<=16:=by rw[ak];have:ks.length<=16:=s2;omega);(have s3':decide (((rs.map ns).length:Int)<=16)=true:=by rw[ak];have:rs.length<=16:=s3;simp;omega);have qm:=tN 2;refine aa.e Tryz.func165 44 [] PH ?_
 repeat' (first|exact fg|(refine stx ?_;first|exact bW _|refine aE ?_)|(refine kq ?_;first|(rw[s3'];refine dF (qm) (by kernel_rfl) rfl ?_)|refine fR q2 ?_)|((fail_if_success refine ft ?_);(conv=>whnf)<;>(first|exact fh|refine np s1' λhc=>?_|refine np s2' λhc=>?_|refine str ?_|refine Br.dec (λhc=>?_) λhc=>?_|refine Br.mk (λhc=>?_) λhc=>?_|exact PV.ao|refine PV.ai ?_ ?_|refine ae ?_ ?_|refine aD λx hx=>?_|refine aE ?_|refine bX (λhn=>?_) ?_|(rw[s3'];refine dF (qm) (by kernel_rfl) rfl ?_)|exact fv|refine bS λaZ=>?_|refine al ?_ ?_|refine fu ?_|fail)))<;>(try exact fi)
 all_goals
  refine bY.bK (α:={i:Nat // i<=X.length}) mixed PH (λi=>[(26,.p (eI i.1))]) (λi=>X.length-i.1) ⟨0,by omega⟩ ?_ ?_
  · exact aG trivial
  rintro⟨i,hi⟩;have hi:i<=X.length:=hi
  cases aS:X[i]? with
  |none=>
   have dD:X.length<=i:=bw.1 aS;(have bV:¬((i:Int)<((X.map eX).length:Int)):=by rw[ak];omega);exact bM (kN bV) trivial
  |some x=>
   have aC:i<X.length:=(aq.1 aS).1;(have ay:((i:Int)<((X.map eX).length:Int)):=by rw[ak];omega);have ku:=aO aS;obtain⟨ht,hd⟩:=YQ x ku;have gh:=pF x 1 (by omega) (by omega) (by omega);have Il:=Ez x 1;refine gg (kY ay) (kX (kb aS)) (lJ x 1) (λhc=>?_)
   have jd:∀y∈((prt x 1).map λz=>[Iw z]),y.length=1:=λy hy=>by
    obtain⟨z,_,rfl⟩:=aY.1 hy;rfl
   refine bY.range mixed gh (by kernel_rfl) rfl PH (prt x 1).length [0,1600,1728] (λk=>([(1728,.cells [.p (eI k)]),(1600,.cells [.p (eI x.k),.p (eI x.n),.p (eI x.no),.p (.str x.nm),.p (.sl 5 false (x.l.map eX))]),(0,.cells [.p (.str nm),.p (gV ks),.p (gV os),.p (.sl 8 false (rs.map ns)),.p (eI ch.k),.p (eI ch.n),.p (eI ch.no),.p (.str ch.nm),.p (.sl 5 false (ch.l.map eX)),.p (eI md)])],1984)) rfl (gN rfl) (by simp) (by simp) jd (λk hk hm=>?_) (λhm=>?_)
   · rw[ak] at hk
     obtain⟨z,hz⟩:∃z,(prt x 1)[k]? =some z:=⟨_,aV hk⟩;have Ny:=LJ x 1 z (aO hz);(have ua:(k:Int)+1<=256:=by omega);have Bm:decide (z.2<=16)=true:=decide_eq_true (by omega);rw[sx (λz=>[Iw z]) hz]
     repeat' (first|exact fg|(refine stx ?_;first|exact bW _|refine aE ?_)|(refine kq ?_;first|(rw[Bm];refine dF (qm) (by kernel_rfl) rfl ?_))|((fail_if_success refine ft ?_);(conv=>whnf)<;>(first|exact fh|refine np ua λhc=>?_|refine str ?_|refine Br.dec (λhc=>?_) λhc=>?_|refine Br.mk (λhc=>?_) λhc=>?_|exact PV.ao|refine PV.ai ?_ ?_|refine ae ?_ ?_|refine aD λx hx=>?_|refine aE ?_|refine bX (λhn=>?_) ?_|(rw[Bm];refine dF (qm) (by kernel_rfl) rfl ?_)|exact fv|refine bS λaZ=>?_|refine al ?_ ?_|refine fu ?_|fail)))<;>(try exact fi)
     exact nq trivial
     all_goals trace_state
   · refine cb ?_
     refine⟨⟨i+1,aC⟩,by show X.length-(i+1)<X.length-i;omega,?_⟩;exact aG trivial
theorem kc(l:List ByteArray)(s:ByteArray)(hl:l.length<1000000):aa af 220 [gV l,eS s] (.bool (decide (0<=xf l s))):=by
 refine aa.e Tryz.func220 9 [.tmp 4] [0,1,4] ?_;exact bM (jF l s hl) trivial
theorem rM(l:List ByteArray)(hl:l.length<1000000)(hd:Eu l=true):aa af 219 [gV l,.fn (.func 218) [] []] (.bool true):=by
 refine aa.e Tryz.func219 26 [.tmp 4] [0,1,4,5,6,7,8,9,10,24] ?_;refine cb ?_;refine bY.bK (α:={i:Nat // i<=l.length}) mixed [0,1,4,5,6,7,8,9,10,24] (λi=>[(9,.p (eI i.1))]) (λi=>l.length-i.1) ⟨0,by omega⟩ ?_ ?_
 · exact aG trivial
 rintro⟨i,hi⟩;have hi:i<=l.length:=hi
 cases aS:l[i]? with
 |none=>
  have dD:l.length<=i:=bw.1 aS;(have bV:¬((i:Int)<((l.map eS).length:Int)):=by rw[ak];omega);exact bM (kN bV) trivial
 |some x=>
  have aC:i<l.length:=(aq.1 aS).1;(have ay:((i:Int)<((l.map eS).length:Int)):=by rw[ak];omega);have hz:=cG.1 hd _ (aO (nf aS));simp only[BK,aQ,decide_eq_true_eq] at hz;have q1:=uV x hz.1;have q2:=jF l x hl;rw[hz.2] at q2
  repeat' (first|exact fg|(refine stx ?_;first|exact bW _|refine aE ?_)|(refine kq ?_;first|refine fR q1 ?_|refine fR q2 ?_)|((fail_if_success refine ft ?_);(conv=>whnf)<;>(first|exact fh|refine np ay λhc=>?_|refine P8 aS ?_|refine Br.dec (λhc=>absurd rfl hc) (λhc=>?_)|refine str ?_|refine Br.dec (λhc=>?_) λhc=>?_|refine Br.mk (λhc=>?_) λhc=>?_|exact PV.ao|refine PV.ai ?_ ?_|refine ae ?_ ?_|refine aD λx hx=>?_|refine aE ?_|refine bX (λhn=>?_) ?_|exact fv|refine bS λaZ=>?_|refine al ?_ ?_|refine fu ?_|fail)))<;>(try exact fi)
  refine⟨⟨i+1,aC⟩,by show l.length-(i+1)<l.length-i;omega,?_⟩;exact aG trivial
mutual
theorem EA(o:List ByteArray):∀(x:Ex) (d:Int),A9 o x=true-> ∀z∈prt x d,(!(decide (z.1.k=1)||decide (z.1.k=2))||decide (0<=xf o z.1.nm))=true
 |.mk k n no s l,d,h,z,hz=>by
  rw[A9,aQ] at h;rw[prt,cy] at hz;rcases hz with rfl|hz
  · exact h.1
  · exact Hz o l (d+1) h.2 z hz
theorem Hz(o:List ByteArray):∀(l:List Ex) (d:Int),Nu o l=true-> ∀z∈jj l d,(!(decide (z.1.k=1)||decide (z.1.k=2))||decide (0<=xf o z.1.nm))=true
 |[],d,h,z,hz=>by rw[jj] at hz;cases hz
 |x::r,d,h,z,hz=>by
  rw[Nu,aQ] at h;rw[jj,cL] at hz;rcases hz with hz|hz
  · exact EA o x d h.1 z hz
  · exact Hz o r d h.2 z hz
end
theorem HA(p:Po)(hp:oL p)(hs:Ev p=true):aa af 166 [tM p] (.bR []):=by
 have q2:=rK p hp.r;(have BC:(Ix p).length<=21:=by have:=hp.r;simp[Ix];omega);have Rn:=hp.o;have zm:=hp.k
 have YQ:∀x∈Ix p,iT x<=40/\ ∀z∈prt x 1,(!(decide (z.1.k=1)||decide (z.1.k=2))||decide (0<=xf p.cx z.1.nm))=true:=λx hx=>by
  simp only[Ev,aQ] at hs;rcases cL.1 hx with hx|hx
  · obtain⟨r,hr,rfl⟩:=aY.1 hx
    exact⟨hp.e r hr,EA _ _ 1 (cG.1 hs.2.2.2.1 r hr)⟩
  · simp at hx;subst hx;exact⟨hp.c,EA _ _ 1 hs.2.2.2.2⟩
 simp only[Ev,aQ] at hs;obtain⟨s1,s2,s3,s4,s5⟩:=hs;generalize Ix p=X at *;obtain⟨nm,ks,os,rs,ch,md⟩:=p;have e:tM (Po.mk nm ks os rs ch md)= .agg [.str nm,gV ks,gV os,.sl 8 false (rs.map ns),eI ch.k,eI ch.n,eI ch.no,.str ch.nm,.sl 5 false (ch.l.map eX),eI md]:=rfl;rw[e] at q2 ⊢;have Rn:os.length<=40:=Rn;have zm:ks.length<=20:=zm;have qm:=tN 201;have q3:=uV nm s1;have q4:=rM os (by omega) s2;have q5:=rM ks (by omega) s3;refine aa.e Tryz.func166 43 [] PI ?_;refine Rh q3 q4 q5 qm q2 ?_;refine bY.bK (α:={i:Nat // i<=X.length}) mixed PI (λi=>[(22,.p (eI i.1))]) (λi=>X.length-i.1) ⟨0,by omega⟩ ?_ ?_
 · exact aG trivial
 rintro⟨i,hi⟩;have hi:i<=X.length:=hi
 cases aS:X[i]? with
 |none=>
  have dD:X.length<=i:=bw.1 aS;(have bV:¬((i:Int)<((X.map eX).length:Int)):=by rw[ak];omega);exact bM (kN bV) trivial
 |some x=>
  have aC:i<X.length:=(aq.1 aS).1;(have ay:((i:Int)<((X.map eX).length:Int)):=by rw[ak];omega);have ku:=aO aS;obtain⟨ht,hd⟩:=YQ x ku;have Rb:=ye x;have gh:=pF x 1 (by omega) (by omega) (by omega);refine gg (kY ay) (kX (kb aS)) (lJ x 1) (λhc=>?_)
  have jd:∀y∈((prt x 1).map λz=>[Iw z]),y.length=1:=λy hy=>by
   obtain⟨z,_,rfl⟩:=aY.1 hy;rfl
  refine bY.Jo mixed gh (by kernel_rfl) rfl PI (prt x 1).length [0,1408] rfl (by simp) (by simp) jd (λk hk hm=>?_) (λhm=>?_)
  · rw[ak] at hk
    obtain⟨z,hz⟩:∃z,(prt x 1)[k]? =some z:=⟨_,aV hk⟩;have Ny:=hd z (aO hz);rw[sx (λz=>[Iw z]) hz];have q6:=pE z.1.k z.1.n z.1.no z.1.nm (z.1.l.map eX);have q7:=kc os z.1.nm (by omega);obtain⟨b,hb⟩:∃b,b=(decide (z.1.k=1)||decide (z.1.k=2)):=⟨_,rfl⟩;rw[<-hb] at q6 Ny
    cases b with
    |true=>
     (have h0:decide (0<=xf os z.1.nm)=true:=by simpa using Ny);rw[h0] at q7;refine gg q6 q7 qm ?_;exact nq trivial
    |false=>
     refine gG q6 qm ?_;exact nq trivial
  · refine cb ?_
    refine⟨⟨i+1,aC⟩,by show X.length-(i+1)<X.length-i;omega,?_⟩;exact aG trivial
def Rq(u:Bool)(k n:Int)(s:ByteArray)(m:Nat):Bool:=if k=1 then decide (n=0)&&decide (m=0) else if k=2 then decide (1<=n)&&decide (n<=4096)&&decide (m=0) else
 if k=3 then decide (s=⟨#[]⟩)&&decide (1<=m)&&decide (m<=16)&&decide (1<=n)&&decide (n<=m) else if k=4 then u&&decide (s=⟨#[]⟩)&&decide (m=2)&&decide (0<=n)&&decide (n<=1099511627776) else false
mutual
theorem EB(u:Bool):∀(x:Ex) (d:Int),Dk u x=true-> ∀z∈prt x d,Rq u z.1.k z.1.n z.1.nm z.1.l.length=true
 |.mk k n no s l,d,h,z,hz=>by
  rw[Dk,aQ] at h;rw[prt,cy] at hz;rcases hz with rfl|hz
  · exact h.2
  · exact HB u l (d+1) h.1 z hz
theorem HB(u:Bool):∀(l:List Ex) (d:Int),Nv u l=true-> ∀z∈jj l d,Rq u z.1.k z.1.n z.1.nm z.1.l.length=true
 |[],d,h,z,hz=>by rw[jj] at hz;cases hz
 |x::r,d,h,z,hz=>by
  rw[Nv,aQ] at h;rw[jj,cL] at hz;rcases hz with hz|hz
  · exact EB u x d h.1 z hz
  · exact HB u r d h.2 z hz
end
theorem YR{u:Bool}{k n:Int}{s:ByteArray}{m:Nat}(h:Rq u k n s m=true):k=1\/k=2\/k=3\/k=4:=by
 unfold Rq at h;by_cases h1:k=1;exact .inl h1;by_cases h2:k=2;exact .inr (.inl h2);by_cases h3:k=3;exact .inr (.inr (.inl h3));by_cases h4:k=4;exact .inr (.inr (.inr h4));simp[h1,h2,h3,h4] at h
theorem HC(k n no:Int)(s:ByteArray)(l:List Ex)(h1:n=0)(h2:l.length=0):aa af 325 [.agg [eI k,eI n,eI no,.str s,.sl 5 false (l.map eX)]] (.bool true):=by
 (have h3:decide (((l.map eX).length:Int)=0)=true:=by simp[h2]);refine aa.e Tryz.func325 12 [.tmp 2] [0,1,2] ?_;refine bM (kY h1) (λhc=>?_);exact aP.bool h3
theorem HD(k n no:Int)(s:ByteArray)(l:List Ex)(h1:1<=n/\n<=4096)(h2:l.length=0):aa af 326 [.agg [eI k,eI n,eI no,.str s,.sl 5 false (l.map eX)]] (.bool true):=by
 (have h3:decide (((l.map eX).length:Int)=0)=true:=by simp[h2]);have q:=aB n 1 4096;rw[show bh 1 4096 n=true by simp[bh];omega] at q;refine aa.e Tryz.func326 12 [.tmp 2] [0,1,2] ?_;refine bM q ?_;exact aP.bool h3
theorem HE(k n no:Int)(s:ByteArray)(l:List Ex)(h0:s=⟨#[]⟩)(h1:1<=l.length/\l.length<=16)(h2:1<=n/\n<=l.length):aa af 327 [.agg [eI k,eI n,eI no,.str s,.sl 5 false (l.map eX)]] (.bool true):=by
 have q:=aB ((l.map eX).length:Int) 1 16;rw[show bh 1 16 ((l.map eX).length:Int)=true by rw[ak];simp[bh];omega] at q;have q2:=aB n 1 ((l.map eX).length:Int);rw[show bh 1 ((l.map eX).length:Int) n=true by rw[ak];simp[bh];omega] at q2;refine aa.e Tryz.func327 20 [.tmp 2] [0,1,2] ?_;exact gg (kY h0) q q2 trivial
theorem HF(k n no:Int)(s:ByteArray)(l:List Ex)(h0:s=⟨#[]⟩)(h1:l.length=2)(h2:0<=n/\n<=1099511627776):aa af 328 [.agg [eI k,eI n,eI no,.str s,.sl 5 false (l.map eX)]] (.bool true):=by
 (have h3:((l.map eX).length:Int)=2:=by simp[h1]);have q:=aB n 0 1099511627776;rw[show bh 0 1099511627776 n=true by simp[bh];omega] at q;refine aa.e Tryz.func328 17 [.tmp 2] [0,1,2] ?_;exact gg (kY h0) (kY h3) q trivial
theorem JQ(p:Po)(hp:oL p)(hs:LI p=true):aa af 167 [tM p] (.bR []):=by
 have q2:=rK p hp.r;(have BC:(Ix p).length=p.rules.length+1:=by simp[Ix]);have Rn:=hp.o;have zm:=hp.k;have oI:=hp.r
 have YQ:∀i x,(Ix p)[i]? =some x->iT x<=40/\ ∀z∈prt x 1,Rq (decide (i<p.rules.length)) z.1.k z.1.n z.1.nm z.1.l.length=true:=λi x hx=>by
  simp only[LI,aQ] at hs;by_cases hi:i<p.rules.length
  · rw[Ix,gA (by simpa using hi),List.getElem?_map] at hx
    obtain⟨r,hr,rfl⟩:=Option.map_eq_some_iff.1 hx;rw[decide_eq_true hi];have h5:=cG.1 hs.2.2.2.2.1 _ (aO (nf hr));simp only[we,aQ] at h5;exact⟨hp.e r (aO hr),EB _ _ 1 h5.2.2.2⟩
  · rw[Ix,lX (by simpa using hi)] at hx
    have:i-(p.rules.map Ru.ex).length=0:=by
     cases e:i-(p.rules.map Ru.ex).length with
     |zero=>rfl
     |succ n=>rw[e] at hx;simp at hx
    rw[this] at hx;simp at hx;subst hx;rw[decide_eq_false hi];exact⟨hp.c,EB _ _ 1 hs.2.2.2.2.2⟩
 simp only[LI,aQ,decide_eq_true_eq] at hs;obtain⟨s1,s2,s3,s4,s5,s6⟩:=hs;generalize Ix p=X at *;obtain⟨nm,ks,os,rs,ch,md⟩:=p;have e:tM (Po.mk nm ks os rs ch md)= .agg [.str nm,gV ks,gV os,.sl 8 false (rs.map ns),eI ch.k,eI ch.n,eI ch.no,.str ch.nm,.sl 5 false (ch.l.map eX),eI md]:=rfl;rw[e] at q2 ⊢;have Rn:os.length<=40:=Rn;have zm:ks.length<=20:=zm;have oI:rs.length<=20:=oI;have BC:X.length=rs.length+1:=BC;(have s1':(0:Int)<((ks.map eS).length:Int):=by rw[ak];have:1<=ks.length:=s1;omega);(have s2':((rs.map ns).length:Int)=((ks.map eS).length:Int):=by rw[ak,ak];have:rs.length=ks.length:=s2;omega);have qm:=tN 200;have q3:=aB md 1 4;rw[show bh 1 4 md=true by have h1:1<=md:=s3;have h2:md<=4:=s4;simp[bh];omega] at q3;refine aa.e Tryz.func167 90 [] Lj ?_;refine oa (kY s1') (kY s2') q3 qm (λhc hc=>?_);refine bY.bK (α:={i:Nat // i<=rs.length}) mixed Lj (λi=>[(30,.p (eI i.1))]) (λi=>rs.length-i.1) ⟨0,by omega⟩ ?_ ?_
 · exact aG trivial
 rintro⟨i,hi⟩;have hi:i<=rs.length:=hi
 cases aS:rs[i]? with
 |some x=>
  have aC:i<rs.length:=(aq.1 aS).1;(have ay:((i:Int)<((rs.map ns).length:Int)):=by rw[ak];omega);have h5:=cG.1 s5 _ (aO (nf aS));simp only[we,aQ,decide_eq_true_eq] at h5;obtain⟨f1,f2,f3,f4⟩:=h5;have Dl:ks[i]? =some x.kind:=f1;have q4:=aB x.l6 0 1099511627775;rw[show bh 0 1099511627775 x.l6=true by simp[bh];omega] at q4;refine Jt (kY ay) (kY rfl) (kX aS) (kX Dl) q4 qm (λhc hc=>?_);refine⟨⟨i+1,aC⟩,by show rs.length-(i+1)<rs.length-i;omega,?_⟩;exact aG trivial
 |none=>
  have dD:rs.length<=i:=bw.1 aS;(have bV:¬((i:Int)<((rs.map ns).length:Int)):=by rw[ak];omega);refine gG (kN bV) q2 (λhc=>?_);refine bY.bK (α:={i:Nat // i<=X.length}) mixed Lj (λi=>[(54,.p (eI i.1))]) (λi=>X.length-i.1) ⟨0,by omega⟩ ?_ ?_
  · exact aG trivial
  rintro⟨j,hj⟩;have hj:j<=X.length:=hj
  cases oM:X[j]? with
  |none=>
   have dD:X.length<=j:=bw.1 oM;(have bV:¬((j:Int)<((X.map eX).length:Int)):=by rw[ak];omega);exact bM (kN bV) trivial
  |some x=>
   have aC:j<X.length:=(aq.1 oM).1;(have ay:((j:Int)<((X.map eX).length:Int)):=by rw[ak];omega);obtain⟨ht,hd⟩:=YQ j x oM;have Rb:=ye x;have gh:=pF x 1 (by omega) (by omega) (by omega);refine gg (kY ay) (kX (kb oM)) (lJ x 1) (λhc=>?_)
   have jd:∀y∈((prt x 1).map λz=>[Iw z]),y.length=1:=λy hy=>by
    obtain⟨z,_,rfl⟩:=aY.1 hy;rfl
   refine bY.Jo mixed gh (by kernel_rfl) rfl Lj (prt x 1).length [0,1728,2304,2368] rfl (by simp) (by simp) jd (λk hk hm=>?_) (λhm=>?_)
   · rw[ak] at hk
     obtain⟨z,hz⟩:∃z,(prt x 1)[k]? =some z:=⟨_,aV hk⟩;have Ny:=hd z (aO hz);rw[sx (λz=>[Iw z]) hz];clear hz oM gh jd;obtain⟨⟨zk,zn,zo,zs,zl⟩,zd⟩:=z;have Ny:Rq (decide (j<rs.length)) zk zn zs zl.length=true:=Ny;show aw _ _ _ ⟨rh ((#[61]:Array Nat).toList.zip [.agg [eI zk,eI zn,eI zo,.str zs,.sl 5 false (zl.map eX),eI zd]]) _,_,_,_⟩ _;rcases YR Ny with rfl|rfl|rfl|rfl
     · have qw:=aB 1 1 4
       rw[show bh 1 4 1=true by rfl] at qw;(have hh:zn=0/\zl.length=0:=by simpa[Rq] using Ny);have qk:=HC 1 zn zo zs zl hh.1 hh.2;have hk4:(1:Int)≠4\/j<rs.length:= .inl (by decide);rcases dK j rs.length with pg|pg
       · have LK:(j:Int)<((X.map eX).length:Int)-1:=by rw[ak];omega
         refine oa qw qk qm (kY LK) (λhc=>?_);exact nq trivial
       · have LK:¬(j:Int)<((X.map eX).length:Int)-1:=by rw[ak];omega
         refine oa qw qk qm (kN LK) (λhc=>?_);exact nq trivial
     · have qw:=aB 2 1 4
       rw[show bh 1 4 2=true by rfl] at qw;(have hh:(1<=zn/\zn<=4096)/\zl.length=0:=by simpa[Rq] using Ny);have qk:=HD 2 zn zo zs zl hh.1 hh.2;have hk4:(2:Int)≠4\/j<rs.length:= .inl (by decide);rcases dK j rs.length with pg|pg
       · have LK:(j:Int)<((X.map eX).length:Int)-1:=by rw[ak];omega
         refine oa qw qk qm (kY LK) (λhc=>?_);exact nq trivial
       · have LK:¬(j:Int)<((X.map eX).length:Int)-1:=by rw[ak];omega
         refine oa qw qk qm (kN LK) (λhc=>?_);exact nq trivial
     · have qw:=aB 3 1 4
       rw[show bh 1 4 3=true by rfl] at qw;(have hh:(((zs=⟨#[]⟩/\1<=zl.length)/\zl.length<=16)/\1<=zn)/\zn<=zl.length:=by simpa[Rq] using Ny);have qk:=HE 3 zn zo zs zl hh.1.1.1.1 ⟨hh.1.1.1.2,hh.1.1.2⟩ ⟨hh.1.2,hh.2⟩;have hk4:(3:Int)≠4\/j<rs.length:= .inl (by decide);rcases dK j rs.length with pg|pg
       · have LK:(j:Int)<((X.map eX).length:Int)-1:=by rw[ak];omega
         refine oa qw qk qm (kY LK) (λhc=>?_);exact nq trivial
       · have LK:¬(j:Int)<((X.map eX).length:Int)-1:=by rw[ak];omega
         refine oa qw qk qm (kN LK) (λhc=>?_);exact nq trivial
     · have qw:=aB 4 1 4
       rw[show bh 1 4 4=true by rfl] at qw;(have hh:(((j<rs.length/\zs=⟨#[]⟩)/\zl.length=2)/\0<=zn)/\zn<=1099511627776:=by simpa[Rq] using Ny);have hj4:(4:Int)≠4\/j<rs.length:= .inr hh.1.1.1.1;have qk:=HF 4 zn zo zs zl hh.1.1.1.2 hh.1.1.2 ⟨hh.1.2,hh.2⟩;have hk4:(4:Int)≠4\/j<rs.length:=hj4;rcases dK j rs.length with pg|pg
       · have LK:(j:Int)<((X.map eX).length:Int)-1:=by rw[ak];omega
         refine oa qw qk qm (kY LK) (λhc=>?_);exact nq trivial
       · have LK:¬(j:Int)<((X.map eX).length:Int)-1:=by rw[ak];omega
         exact absurd pg (by have:=hj4.resolve_left (λh=>h rfl);omega)
   · refine cb ?_
     refine⟨⟨j+1,aC⟩,by show X.length-(j+1)<X.length-j;omega,?_⟩;exact aG trivial
end Go.Proofs.YtmaiccmhkmndcaaGreatDoor
