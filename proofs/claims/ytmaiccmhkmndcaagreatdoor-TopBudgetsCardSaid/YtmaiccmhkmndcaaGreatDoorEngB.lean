/- A part of the proof: the engine, that follows the model step by step with abstract values; no program in sight. -/
import Derived.Test.YtmaiccmhkmndcaaGreatDoorEngA
import Derived.TacticsIn
import Derived.RangeFuncSeq
set_option linter.unusedSimpArgs false
set_option linter.unusedVariables false
set_option linter.unnecessarySimpa false
set_option maxRecDepth 100000
set_option maxHeartbeats 40000000
open Array renaming getElem?_eq_getElem->dh,getElem?_toList->gi,getElem?_modify->pU,ext'->gz,getElem?_push->kG,getElem?_append_left->iY,eq_empty_of_size_eq_zero->lW,mem_toList_iff->nF,replicate->gT
open Bool renaming and_eq_true->aQ,false_eq_true->mB
open Classical renaming em->mQ
open Go renaming Program->au,World->aj,TypeId->an,Value->ah,MapEntry->dS,Oper->aH,Operand->aL,FuncId->bf
open Go.Builtin renaming append_->dM,zeroCells->iN,nextslicecap->nQ,firstCells->iZ,copy_->jO
open Go.Call renaming operands->fQ
open Go.Calls renaming mono->fI
open Go.Fence renaming wide->fY
open Go.Op renaming operands->aF
open Go.Oper renaming semAt_eq->jX
open Go.Question renaming appendCap->jP
open Go.Region renaming wanted->je
open Go.Result renaming andThen_ok->bD
open Go.Sem renaming run_bind->bu,run_pure->cg
open Go.World renaming shape?->cC
open Int renaming toNat_natCast->dv
open List renaming map_cons->bE,cons_append->jS,append_assoc->ky,take_of_length_le->bN,map_nil->dw,getElem?_toArray->ny,getElem_of_mem->lM,getElem?_eq_getElem->aV,getElem_mem->jR,getElem?_eq_some_iff->aq,getElem?_append_left->gA,getElem?_take_of_lt->ly,getElem?_append_right->lX,length_take->dy,nil_append->jn,append_nil->ib,length->kQ,length_drop->nz,length_map->ak,getElem?_drop->jQ,getElem?_map->aW,length_eq_zero_iff->qn,getD->cF,replicate->ck,getElem?_append->nG,mem_of_getElem?->aO,drop->eo,mem_singleton->gE,range->cJ,all_eq_true->cG,mem_append->cL,getElem?_set_ne->nv,nodup_cons->jY,mem_map->aY,filter_cons->lZ,getElem?_of_mem->eE,mem_filter->dN,mem_cons->cy,map_map->il,getD_eq_getElem?_getD->im,map->bZ,mem_cons_of_mem->pa,map_append->iq,mem_range->gI,any_eq_true->kS
open Nat renaming le_refl->aX,add_mul->dB,mul_le_mul_right->fC,le_trans->dW,lt_of_lt_of_le->fl,lt_or_ge->dK
open Option renaming map_eq_some_iff->cm,getD_some->js,bind_eq_some_iff->pb
namespace Go.Sg
open Go
section
variable{P:au}{F:Nat->Prop}{μ:aN}{σ:ab}{w:aj}{nid:Nat}{K:AV->ab->Prop}
theorem my(Z:List Nat)(i:Nat)(h:ab.get (jy Z++σ) i≠ .dead):i∉Z/\ab.get (jy Z++σ) i=σ.get i:=by
 induction Z with
 |nil=>exact⟨by simp,rfl⟩
 |cons o r ih=>
  simp only[jy,bE,jS,ab.get] at h ⊢;split at h
  · exact absurd rfl h
  · rename_i e
    obtain⟨h1,h2⟩:=ih h;rw[if_neg e];exact⟨by simp;exact⟨λe'=>e e'.symm,h1⟩,h2⟩
def UZ(F:Nat->Prop)(μ:aN)(σ:ab)(Z:List Nat)(b:Nat):Prop:=F b\/ ∃o,o∈Z/\σ.get o≠ .dead/\μ o=some b
theorem az.kill(h:az F μ σ w)(Z:List Nat):Step F μ w (UZ F μ σ Z) μ w/\az (UZ F μ σ Z) μ (jy Z++σ) w:=by
 have hs:Step F μ w (UZ F μ σ Z) μ w:=⟨rfl,rfl,rfl,aX _,λ_ _=>rfl,λ_ _ _=>rfl,λ_ _ h=>h,λ_ h=>.inl h,λb hb=>by
  rcases hb with hb|⟨o,_,_,hb⟩
  · exact .inl hb
  · exact .inr (.inl (.inl ⟨o,hb⟩)),λ_ _ h=>h,λ_ h=>.inl h⟩
 refine⟨hs,h.fb.st hs λb hb=>?_,h.mb,λo ho=>?_,λo b hm=>?_,λo b ho hm hf=>?_,λi j b hi hj KU KV=>?_,λc m hc=>⟨λhf=>?_,λi hi=>(h.hd c m hc).2 i (by rw[(my Z i hi).2] at hi;exact hi)⟩,h.hu⟩
 · rcases hb with hb|⟨o,_,_,hb⟩
   · exact h.fb b hb
   · exact h.mb b (.inl ⟨o,hb⟩)
 · obtain⟨h1,h2⟩:=my Z o ho
   rw[h2] at ho;exact h.has o ho
 · rcases mQ (ab.get (jy Z++σ) o= .dead) with hd|hd
   · rw[hd];trivial
   · obtain⟨h1,h2⟩:=my Z o hd
     rw[h2];exact(h.obj o b hm).step hs rfl λc hc=>⟨hc,rfl⟩
 · obtain⟨h1,h2⟩:=my Z o ho
   rw[h2] at ho;rcases hf with hf|⟨o',h3,h4,h5⟩
   · exact h.live o b ho hm hf
   · have:=h.inj o o' b ho h4 hm h5
     subst this;exact h1 h3
 · rw[(my Z i hi).2] at hi
   rw[(my Z j hj).2] at hj;exact h.inj i j b hi hj KU KV
 · rcases hf with hf|⟨o,_,h4,h5⟩
   · exact(h.hd c m hc).1 hf
   · exact(h.hd c m hc).2 o h4 h5
theorem Bk{t xt ty:an}{a x:AV}{va vx:ah}(ar:az F μ σ w)(bH:μ nid=none)(ha:RV F μ w va a)(hx:RV F μ w vx x)(h:sd P t xt a x σ nid K):
 eZ P F μ σ w nid K (dM #[t,xt] ty #[va,vx]):=by
 unfold sd at h;obtain⟨p,Z,h1,_,h3,h4⟩:=(jW 60).1 x [] _ (by simp[kA]) h;obtain⟨cu,hk⟩:=ar.kill Z;have hp:=h4 F μ w vx (λo b _ _ hm=>ar.obj o b hm) hx;obtain⟨av,us,v,w',F',μ',g1,g2,g3,g4,g5,g6⟩:=lQ (P:=P) (ty:=ty) hk bH (ha.step cu) (.p hp) h1;exact⟨av,us++jy Z,v,w',F',μ',g1,g2,cu.trans g3,by rw[ky];exact g4,g5,g6⟩
theorem Gg{t xt ty:an}{a x:AV}{va vx:ah}(ar:az F μ σ w)(bH:μ nid=none)(ha:RV F μ w va a)(hx:RV F μ w vx x)(Iq:o4 P xt=true)(h:Cv P t a x σ nid K):
 eZ P F μ σ w nid K (dM #[t,xt] ty #[va,vx]):=by
 unfold Cv at h;split at h
 · rename_i o sz i len cap k n s g z bt hE hz hb
   split at h
   · rename_i e8 l ho
     obtain⟨⟨⟨h1,h2,h3,h4,h5⟩,rfl,e1,e2,h6,h7,h8,h9,ZD⟩,hK⟩:=h;subst e2;subst e1;obtain⟨e,hu,hs,Q2⟩:=og hE hz;obtain⟨ti,hi,FJ⟩:=x3 hu hb;obtain⟨zv,vy,x2,Im⟩:=eB Q2 w;have bQ:=mM ar ho
     have MB:vx= .int .i64 n:=by cases hx with|p h=>cases h;rfl
     subst MB;obtain⟨N,hN⟩:∃N:Nat,n=N:=⟨n.toNat,by omega⟩;subst hN
     cases ha with
     |jb _ _ _ _ _ base hr=>
     have IN:mc (DO (.bo o sz i len)) sz (qG σ) λm new=>m=len/\new=bc ((l.drop i).take len):=by
      simp only[DO,mc,mL ho,vl];refine⟨trivial,?_,trivial,?_⟩
      · rw[cz h4 bQ,<-dB];exact fC _ h6
      · rw[mr h4 bQ,mq h4 (bQ.drop i)]
     obtain⟨m,new,⟨rfl,rfl⟩,hlen,vj,RL⟩:=ic (P:=P) h4 ar.un hr.un IN;have hA:=RL _ (aX _);rw[bN (by omega)] at hA;have iR:zv.cells.size=sz:=x2.trans h3;have Q5:=jT (F:=F) (μ:=μ) (w:=w) (n:=N) x2 h3 h4 (λF i p hp=>Im F i p hp) N (aX _);refine eZ.lift ar (jU (zv:=zv) (e:=e) (s:=sz) (n:=N) (LA:=bc ((l.drop i).take m)) (LN:=ey z N) (cn:=iN zv.cells N) ar.un bH iR h7 (by omega) hA vj ?_ ?_ Q5.1 ?_ _ (λh=>h) ⟨_,_,hK,vo.DP (by omega),?_,λy hy=>?_⟩)
     · simp[iN,iR]
     · intro j c hc
       have:=Q5.2 j c hc;simpa[iN,iR] using this
     · intro ca UO
       have Oy:¬ nQ (m+N) cap*ti.bytes>2 ^ 48:=by
        have k1:=nextslicecap_le (need:=m+N) (old:=cap) (by omega);have k2:nQ (m+N) cap*ti.bytes<=(2*1000000000)*100000:=Nat.mul_le_mul (by omega) (by omega);omega
       exact oq hu hs Iq (Nat.mul_pos (by omega) h4) (by omega) (by omega) hi (by omega) (by omega) (by simpa using Oy) vy w UO
     · simp only[qG,bE,dw,vl,cH,dv]
       rw[ig z g _ _ h2]
     · simp at hy;subst hy
       exact(((bQ.drop i).take m)).append (oz h1 _)
   · exact h.elim
 · exact h.elim
theorem vL{t xt ty e:an}{s n:Nat}{g:Bool}{base:Option Addr}{len cap:Nat}{zv:ah}{i:TypeInfo}(hu:P.underlying t=some (.slice e))(hs:tT P e=some (s,g))(tl:o4 P xt=true)
 (hn:n<=1000000000) (hf:len+n<=cap) (hi:P.info? e=some i) (FJ:i.bytes<=100000) (vy:∀w',(zeroValue e).run P w'= .ok zv w') (w':aj):
 (dM #[t,xt] ty #[.slice base len cap,.int .i64 n]).run P w'=
   ((match base with|some a=>storeCells (a.add (len*s)) (if n*s=0 then(#[]:Array ah) else iN zv.cells n).toList|none=>pure ():Sem Unit).run P w').andThen λ_ vz=>.ok (.slice base (len+n) cap) vz:=by
 have hd:∃k,P.underlying xt=some (.int k):=by
  unfold o4 at tl;split at tl
  · exact⟨_,by assumption⟩
  · cases tl
 obtain⟨k,TO⟩:=hd;have yz:=λw'=>run_sizeOf hs w';have hw:IntKind.i64.wrap (n:Int)=n:=al (by omega) (by omega);have aC:¬((n:Int)<0):=by omega
 have RF:¬(2 ^ 48<(n:Int)*(i.bytes:Int)):=by
  have:n*i.bytes<=1000000000*100000:=Nat.mul_le_mul hn FJ;(have h2:((n*i.bytes:Nat):Int)<=((1000000000*100000:Nat):Int):=by omega);rw[Int.natCast_mul] at h2;omega
 have hm:(TypeDesc.int k matches .int _)=true:=rfl;have ZG:∀w',(asInt (.int .i64 (n:Int))).run P w'= .ok (n:Int) w':=λ_=>rfl;(have RK:¬(281474976710656<(n:Int)*(i.bytes:Int)):=by simpa using RF);by_cases TR:n*s=0
 · cases base<;>(simp only[dM,ny,List.getElem?_cons_zero,List.getElem?_cons_succ,underlying,bu,run_program,bD,hu,cg,yz,TO,hm,if_true,ZG,hw,if_neg aC,dv,if_pos hf,if_pos TR];simp[typeInfo,hi,RK,hf,TR])
 · cases base<;>(simp only[dM,ny,List.getElem?_cons_zero,List.getElem?_cons_succ,underlying,bu,run_program,bD,hu,cg,yz,TO,hm,if_true,ZG,hw,if_neg aC,dv,if_pos hf,if_neg TR];simp[typeInfo,hi,RK,vy,hf,TR])
theorem DW{t xt ty:an}{e:an}{o sz n len cap b bL:Nat}{vx:ah}{cs new:List AV}{zv:ah}{cells:Array ah}{n':Nat}{t':an}(ar:az F μ σ w)(bH:μ nid=none)(ho:σ.get o= .cells cs)(h0:0<sz)
 (Oz:len*sz=cs.length) (Mn:len+n<=1000000000) (h1:∀c∈new,c.one=true) (Mo:0<n) (lO:μ o=some b) (gX:cap=0\/bL=0) (pQ:w.shape? b=some (t',n')) (r7:0+cap*sz<=n') (tX:len<=cap) (qe:cap<=maxLen)
 (x2:zv.cells.size=sz) (c2:cells.size=n*sz) (c3:∀(i:Nat) c,new[i]? =some c->RV F μ w (cells[i]?.getD undef) c) (vj:new.length=n*sz)
 (Xo:len+n<=cap->(dM #[t,xt] ty #[.slice (some ⟨b,bL,none⟩) len cap,vx]).run P w=((storeCells ((⟨b,bL,none⟩:Addr).add (len*sz)) cells.toList).run P w).andThen λ_ vz=>.ok (.slice (some ⟨b,bL,none⟩) (len+n) cap) vz)
 (Xp:cap<len+n-> ∀ca,(iZ sz len (.slice (some ⟨b,bL,none⟩) len cap)).run P w.drew= .ok ca w.drew->(dM #[t,xt] ty #[.slice (some ⟨b,bL,none⟩) len cap,vx]).run P w= .ok (.slice (some ⟨w.heap.size,0,none⟩) (len+n) ((jP (len+n) cap e).cut (w.tape w.drawn (jP (len+n) cap e))))
   (w.drew.alloc (.cells (ca++(cells++iN zv.cells ((jP (len+n) cap e).cut (w.tape w.drawn (jP (len+n) cap e))-(len+n)))) e)))
 (hK:K (.dJ nid sz 0 (len+n)) [(nid,.cells (cs++new)),(o,.dead)]):eZ P F μ σ w nid K (dM #[t,xt] ty #[.slice (some ⟨b,bL,none⟩) len cap,vx]):=by
 by_cases vA:len+n<=cap
 ·
   have l9:bL=0:=by rcases gX with h'|h'<;>omega
   subst l9;obtain⟨cur,Fk,g1,g2,g3⟩:=ar.cells ho lO;have jH:n'=cur.size:=by simp[cC,g1] at pQ;exact pQ.2.symm
   have jV:len*sz+0+cells.toList.length<=cur.size:=by
    have:(len+n)*sz<=cap*sz:=fC _ vA;rw[dB] at this;simp;omega
   have DM:∀v∈cells.toList,v.oneCell'=true:=λv hv=>by
    obtain⟨i,hi,rfl⟩:=lM hv;(have wC:i<new.length:=by simp at hi;omega);have:=c3 i new[i] (aV wC);(have FO:i<cells.size:=by simpa using hi);rw[dh FO] at this;exact one_cell (by simpa using this) (h1 _ (jR _))
   have cY:=run_storeCells_at (P:=P) b (len*sz) Fk cells.toList 0 cur w g1 jV DM
   let cur':=(cur.toList.take (len*sz+0)++cells.toList++cur.toList.drop (len*sz+0+cells.toList.length)).toArray
   have IL:cur'.size=cur.size:=by simp[cur'];simp at jV;omega
   obtain⟨k1,k2⟩:=ar.write ho lO g1 cur' (.cells cs) IL (λw' hs hw=>⟨cur',Fk,hw,by omega,λi c hc=>by
    have A2:i<len*sz:=by have:=(aq.1 hc).1;omega
    have:cur'[i]? =cur[i]? :=by
     simp only[cur',ny,ky];rw[gA (by simp;omega),ly (by omega)];simp
    rw[this];exact(g3 i c hc).step hs⟩)
   (have Xg:ab.get ((o,bJ.cells cs)::σ) o= .cells cs:=by rw[ab.cI,if_pos rfl]);have iO:(w.setRow b cur').heap[b]? =some (.cells cur' Fk (0,0)):=setRow_heap w b cur cur' Fk _ g1;have ur:=(k2.renew bH Xg (by simp) lO .dead trivial).1
   obtain⟨j1,j2⟩:=k2.renew bH Xg (by simp) lO (.cells (cs++new)) ⟨cur',Fk,iO,by rw[List.length_append,vj,IL];simp at jV;omega,λi c hc=>by
    by_cases A2:i<cs.length
    · rw[gA A2] at hc
      have:cur'[i]? =cur[i]? :=by
       simp only[cur',ny,ky];rw[gA (by simp;omega),ly (by omega)];simp
      rw[this];exact((g3 i c hc).step k1).step ur
    · rw[lX (by omega)] at hc
      have Ch:=(aq.1 hc).1
      have:cur'[i]? =cells[i-cs.length]? :=by
       simp only[cur',ny,ky];rw[lX (by simp;omega),gA (by simp;omega)];simp only[dy,Array.length_toList,gi];congr 1;omega
      rw[this]
      exact((c3 _ c hc).step k1).step ur⟩
   have j2':az F (μ.put nid b) ([(nid,.cells (cs++new)),(o,.dead)]++σ) (w.setRow b cur'):=j2.congr λi=>by
    simp only[jS,jn,ab.cI];split
    · rfl
    · split
      · rfl
      · rfl
   refine⟨_,_,.slice (some ⟨b,0,none⟩) (len+n) cap,_,_,_,hK,?_,k1.trans j1,j2',.dJ _ _ _ _ _ _ _ Fk cur'.size (aN.jc _ _ _) (.inr rfl) (by simp[cC,iO]) (by rw[IL];omega) vA qe,λi hi=>if_neg hi⟩;(have UQ:(⟨b,0,none⟩:Addr).add (len*sz)=⟨b,len*sz,none⟩:=by rw[fD];simp);rw[Xo vA,UQ,cY];rfl
 · have Wz:RV F μ w (.slice (some ⟨b,bL,none⟩) len cap) (.dJ o sz 0 len):= .dJ _ _ _ _ _ _ _ t' n' lO gX pQ r7 tX qe
   have hA:∃cells:Array ah,(∀w',tc w w'->(iZ sz len (.slice (some ⟨b,bL,none⟩) len cap)).run P w'= .ok cells w')/\cells.size=len*sz/\ ∀(i:Nat) c,cs[i]? =some c->RV F μ w (cells[i]?.getD undef) c:=by
    obtain⟨n',UP,hk,Ml,RN,hf⟩:=ic (P:=P) (Kn:=λn new=>n=len/\new=cs) (s:=sz) h0 ar Wz ⟨rfl,by rw[ho];exact⟨by omega,rfl,by rw[List.drop_zero,bN (by omega)]⟩⟩;obtain⟨rfl,rfl⟩:=hk;have:=hf _ (aX _);rw[bN (by omega)] at this;exact this
   exact jU (e:=e) (zv:=zv) ar bH x2 tX Mn hA (by omega) c2 c3 vj (λca UO=>Xp (by omega) ca UO) _ (λ{F' μ' w'} h=>by
    exact h.FM) hK
theorem Gh{t xt ty:an}{a x:AV}{va vx:ah}(ar:az F μ σ w)(bH:μ nid=none)(ha:RV F μ w va a)(hx:RV F μ w vx x)(Iq:o4 P xt=true)(h:Cw P t a x σ nid K):
 eZ P F μ σ w nid K (dM #[t,xt] ty #[va,vx]):=by
 unfold Cw at h;split at h
 · rename_i o sz i len k n s g z bt hE hz hb
   split at h
   · rename_i e8 l ho
     obtain⟨⟨⟨h1,h2,h3,h4,h5⟩,rfl,e1,e2,e3,e4,h9,ZD⟩,hK⟩:=h;subst e2;subst e1;subst e3;subst e4;obtain⟨e,hu,hs,Q2⟩:=og hE hz;obtain⟨ti,hi,FJ⟩:=x3 hu hb;obtain⟨zv,vy,x2,Im⟩:=eB Q2 w;have bQ:=mM ar ho
     have MB:vx= .int .i64 n:=by cases hx with|p h=>cases h;rfl
     subst MB;obtain⟨N,hN⟩:∃N:Nat,n=N:=⟨n.toNat,by omega⟩;subst hN;have iR:zv.cells.size=sz:=x2.trans h3;have Q5:=jT (F:=F) (μ:=μ) (w:=w) (n:=N) x2 h3 h4 (λF i p hp=>Im F i p hp) N (aX _)
     cases ha with
     |bo _ _ _ _ _ ha=>
     cases ha with
     |dJ _ _ _ bL _ cap b t' n' lO gX pQ r7 tX qe=>
     have Xq:cap=0\/bL=0:=by rcases gX with h'|h'<;>omega
     have hzf:=λ(hf:l.length+N<=cap)=>vL (ty:=ty) (base:=some ⟨b,bL,none⟩) hu hs Iq (by omega) hf hi (by omega) vy w;by_cases hN0:N=0
     · subst hN0
       have xD:=ar.obj o b lO;rw[ho] at xD;(have hd:σ.get o≠ .dead:=by rw[ho];simp);have cu:=(ar.renew bH rfl hd lO .dead trivial).1;obtain⟨k1,k2⟩:=ar.renew bH rfl hd lO (.row sz (l++[])) (by rw[ib];exact xD.step cu rfl λc hc=>⟨hc,rfl⟩);refine⟨_,_,.slice (some ⟨b,bL,none⟩) (l.length+0) cap,w,F,_,hK,?_,k1,k2,.bo _ _ _ _ _ (.dJ _ _ _ _ _ _ _ t' n' (aN.jc _ _ _) ?_ pQ r7 tX qe),λo ho=>if_neg ho⟩
       · rw[hzf (by omega)]
         simp[storeCells]
       · rcases gX with h'|h'
         · exact .inl h'
         · exact .inr h'
     · have hns0:0<N*sz:=Nat.mul_pos (show 0<N by omega) h4
       (have TR:¬ N*sz=0:=by omega);refine eZ.lift ar (DW (e:=e) (zv:=zv) (o:=o) (sz:=sz) (n:=N) (cs:=bc l) (new:=ey z N) (cells:=iN zv.cells N) ar.un bH (by rw[mL ho];rfl) h4 (cz h4 bQ).symm (by omega) ?_ (by omega) lO Xq pQ (by omega) tX qe iR (by simp[iN,iR]) ?_ Q5.1 ?_ ?_ ⟨_,_,hK,vo.DP (by omega),?_,λy hy=>?_⟩)
       · intro c hc
         rw[ig z g N _ h2] at hc;exact ux (oz h1 N) c hc
       · intro j c hc
         have:=Q5.2 j c hc;simpa[iN,iR] using this
       · intro hf
         rw[hzf hf,if_neg TR]
       · intro hgt ca UO
         have Oy:¬ nQ (l.length+N) cap*ti.bytes>2 ^ 48:=by
          have k1:=nextslicecap_le (need:=l.length+N) (old:=cap) (by omega);have k2:nQ (l.length+N) cap*ti.bytes<=(2*1000000000)*100000:=Nat.mul_le_mul (by omega) (by omega);omega
         exact oq hu hs Iq (by omega) (by omega) (by omega) hi (by omega) (by omega) (by simpa using Oy) vy w UO
       · simp only[qG,bE,dw,vl,cH,dv]
         rw[ig z g _ _ h2]
       · simp at hy
         rcases hy with rfl|rfl
         · exact bQ.append (oz h1 _)
         · trivial
   · exact h.elim
 · exact h.elim
theorem Gi{t xt ty:an}{a x:AV}{va vx:ah}(ar:az F μ σ w)(bH:μ nid=none)(ha:RV F μ w va a)(hx:RV F μ w vx x)(Iq:o4 P xt=true)(h:Ga P t a x σ nid K):
 eZ P F μ σ w nid K (dM #[t,xt] ty #[va,vx]):=by
 unfold Ga at h;split at h
 · exact Gh ar bH ha hx Iq h
 · exact Gg ar bH ha hx Iq h
theorem Gj(w:aj)(b n:Nat)(cur:Array ah)(t:an)(h:w.heap[b]? =some (.cells cur t (0,0))):
 (w.freeze ⟨b,n,none⟩ 1).heap[b]? =some (.cells cur t (n,n+1))/\(∀k,k≠b->(w.freeze ⟨b,n,none⟩ 1).heap[k]? =w.heap[k]?)/\(w.freeze ⟨b,n,none⟩ 1).heap.size=w.heap.size:=by
 unfold World.freeze;rw[if_neg (by decide)];refine⟨?_,λk hk=>?_,by simp⟩
 · simp only[pU,if_true,h,Option.map_some];rfl
 · simp only[pU,if_neg (Ne.symm hk)]
theorem Gk{s d:an}{o sz i len:Nat}{v:ah}(ar:az F μ σ w)(hx:RV F μ w v (.bo o sz i len))(h:CA P s d o sz i len σ K):eZ P F μ σ w nid K (convert s d v):=by
 unfold CA at h;split at h
 · rename_i e8 l hd ho
   obtain⟨⟨rfl,rfl,rfl,yR⟩,q,hq,hK⟩:=h;have hq:=uj hq;obtain⟨e,hu,he⟩:=ui hd
   cases hx with
   |bo _ _ _ _ _ hx=>
   cases hx with
   |dJ _ _ _ bL _ cap b t n lO gX pQ r7 tX qe=>
   (have iX:σ.get o≠ .dead:=by rw[ho];simp);have RG:¬ F b:=ar.live o b iX lO;have xD:=ar.obj o b lO;rw[ho] at xD;obtain⟨bQ,cur,ty,h1,h2,h3⟩:=xD;obtain⟨f1,f2,f3⟩:=Gj w b cur.size cur ty h1;have jH:n=cur.size/\t=ty:=by simp[cC,h1] at pQ;exact⟨pQ.2.symm,pQ.1.symm⟩
   let w':=w.freeze ⟨b,cur.size,none⟩ 1
   let F':Nat->Prop:=λk=>F k\/k=b
   have cu:Step F μ w F' μ w':=by
    refine⟨by show(World.freeze _ _ _).os=_;unfold World.freeze;split<;>rfl,by show(World.freeze _ _ _).tape=_;unfold World.freeze;split<;>rfl,by show(World.freeze _ _ _).output=_;unfold World.freeze;split<;>rfl,by show _<=w'.heap.size;rw[f3];exact aX _,λk hk=>f2 k (λe=>RG (e▸hk)),λk _ hk=>f2 k (λe=>hk (e▸ .inl ⟨o,lO⟩)),λk x hx=>?_,λ_ h=>.inl h,λk hk=>?_,λ_ _ h=>h,λ_ h=>.inl h⟩
    · by_cases hk:k=b
      · subst hk
        simp only[cC,h1] at hx;show cC w' k=_;simp only[cC,show w'.heap[k]? =_ from f1];exact hx
      · simp only[cC,show w'.heap[k]? =_ from f2 k hk] at hx ⊢;exact hx
    · rcases hk with hk|hk
      · exact .inl hk
      · exact .inr (.inl (hk▸ .inl ⟨o,lO⟩))
   have nR:az F' μ ((o,.dead)::σ) w':=by
    have nd:∀j,ab.get ((o,.dead)::σ) j≠ .dead->j≠o/\σ.get j≠ .dead:=λj hj=>by
     rw[ab.cI] at hj;split at hj
     · exact absurd rfl hj
     · rename_i e;exact⟨λe'=>e e'.symm,hj⟩
    refine⟨ar.fb.st cu λk hk=>?_,λk hk=>by rw[show w'.heap.size=_ from f3];exact ar.mb k hk,λj hj=>ar.has j (nd j hj).2,λj k Gl=>?_,λj k hj Gl hF=>?_,λj1 j2 k a1 a2 b1 b2=>ar.inj j1 j2 k (nd j1 a1).2 (nd j2 a2).2 b1 b2,λc m hc=>⟨λhf=>hf.elim (ar.hd c m hc).1 λe=>(ar.hd c m hc).2 o iX (e▸lO),λj hj=>(ar.hd c m hc).2 j (nd j hj).2⟩,ar.hu⟩
    · rw[show w'.heap.size=_ from f3]
      rcases hk with hk|hk
      · exact ar.fb k hk
      · subst hk;exact ar.mb k (.inl ⟨o,lO⟩)
    · rcases mQ (ab.get ((o,.dead)::σ) j= .dead) with e|e
      · rw[e];trivial
      · obtain⟨e1,e2⟩:=nd j e
        (have e3:ab.get ((o,.dead)::σ) j=σ.get j:=by rw[ab.cI,if_neg (λx=>e1 x.symm)]);rw[e3];have WB:k≠b:=λx=>e1 (ar.inj j o b e2 iX (x▸Gl) lO);exact(ar.obj j k Gl).step cu (f2 k WB) λc hc=>⟨hc,f2 c λe=>(ar.hd c k hc).2 o iX (e▸lO)⟩
    · obtain⟨e1,e2⟩:=nd j hj
      rcases hF with hF|hF
      · exact ar.live j k e2 Gl hF
      · exact e1 (ar.inj j o b e2 iX (hF▸Gl) lO)
   have U0:q.length=len:=by
    have:=congrArg kQ hq;rw[dy,nz,ak] at this;omega
   have yt:∀j (x:Int),q[j]? =some x->cur[i+j]? =some (.int .u8 x):=λj x hx=>by
    have hj:j<len:=by have:=(aq.1 hx).1;omega
    have e1:l[i+j]? =some (.int .u8 x):=by
     have:=congrArg (λz=>z[j]?) hq;simp only[ly hj,jQ,aW,hx,Option.map_some] at this;exact this
    have e2:(bc l)[i+j]? =some (.p (.int .u8 x)):=by
     have h9:=Cj (sz:=1) (by decide) (l:=l) bQ e1 (j:=0) (by decide);rw[Nat.mul_one,Nat.add_zero] at h9;rw[h9];rfl
    have e3:=h3 _ _ e2;(have e4:i+j<cur.size:=by have:=(aq.1 e2).1;omega);rw[dh e4] at e3 ⊢
    have e5:∀u:ah,RV F μ w u (.p (.int .u8 x))->u= .int .u8 x:=λu hu=>by
     cases hu with
     |p e6=>cases e6;rfl
    exact congrArg some (e5 _ e3)
   refine⟨_,_,.slice (some ⟨b,bL,none⟩) len cap,w',F',μ,hK,?_,cu,nR,.p ?_,λ_ _=>rfl⟩
   · have RW:w.shape? b=some (ty,cur.size):=by simp[cC,h1]
     simp[convert,underlying,hu,he,markStringish,RW,w']
   · have l9:len=0\/bL=i:=by
      rcases gX with h'|h'
      · left;omega
      · right;omega
     rcases l9 with h0|h0
     · subst h0
       have:q=[]:=qn.1 U0;subst this;exact .r5 _ cap 1 false qe (by simp) (by simp)
     · subst h0
       refine .sl b bL len cap 1 false _ (λk _=>.int .u8 (q.getD k 0)) (.inr rfl) (by rw[ak,U0]) tX qe (by simp) ?_ ?_ ?_
       · intro k p hp
         simp only[aW,cm] at hp;obtain⟨u,_,rfl⟩:=hp;exact⟨rfl,λc hc=>by simp[PV.cells] at hc;subst hc;rfl⟩
       · intro k p j r hp hr
         simp only[aW,cm] at hp;obtain⟨u,TS,rfl⟩:=hp
         have hj:j=0:=by
          have:=(aq.1 hr).1;simp[PV.cells] at this;exact this
         subst hj;rw[mF (show w'.heap[b]? =_ from f1)];(have:q.getD k 0=u:=by simp[cF,TS]);rw[this,Nat.mul_one,Nat.add_zero];exact yt k u TS
       · intro k p j r hp hr
         simp only[aW,cm] at hp;obtain⟨u,TS,rfl⟩:=hp
         have hj:j=0:=by
          have:=(aq.1 hr).1;simp[PV.cells] at this;exact this
         subst hj;simp[PV.cells] at hr;subst hr;(have:q.getD k 0=u:=by simp[cF,TS]);rw[this];exact .int _ _
 · exact h.elim
theorem DX{t xt ty:an}{x:AV}{va vx:ah}{o sz i len cap:Nat}(ar:az F μ σ w)(ha:RV F μ w va (.jb o sz i len cap))(hx:RV F μ w vx x)(h:yO P t xt x (K (.jb o sz i len cap) [])):
 eZ P F μ σ w nid K (dM #[t,xt] ty #[va,vx]):=by
 unfold yO at h;split at h
 · rename_i Mx c
   obtain⟨⟨h1,h2⟩,hK⟩:=h;obtain⟨⟨s,g⟩,hE⟩:=Option.isSome_iff_exists.1 h2;obtain⟨e,hu,hs⟩:=jl hE;have Wz:=ha
   cases ha with
   |jb _ _ _ _ _ base hr=>
   have tX:len<=cap:=by
    cases hr with
    |bo _ _ _ _ _ hr=>cases hr with
     |dJ _ _ _ _ _ _ _ _ _ _ _ _ _ h5 _=>exact h5
   have hvx:∃b c2,vx= .slice b 0 c2:=by
    cases hx with
    |p h=>cases h with
     |r5 a cap sz clip=>exact⟨_,_,rfl⟩
     |sl b off len cap sz clip l cv hb hl=>simp at hl;subst hl;exact⟨_,_,rfl⟩
   obtain⟨b,c2,rfl⟩:=hvx;(have RL:(iZ s 0 (.slice b 0 c2)).run P w= .ok #[] w:=by cases b<;>simp[iZ,loadCells,loadCellsFrom]);refine⟨_,[],.slice base (len+0) cap,w,F,μ,hK,?_,.refl _ _ _,ar,Wz,λ_ _=>rfl⟩;rw[run_append_fits hu hs h1 (n:=0) (λ_=>rfl) (by omega),RL];cases base<;>simp[storeCells]
 · exact h.elim
theorem xE{t:an}(ar:az F μ σ w)(bH:μ nid=none)(h:oB P t nid K):eZ P F μ σ w nid K (Instr.buildSlice t 0 #[]):=by
 unfold oB at h;split at h
 · rename_i s g z hE hz
   obtain⟨⟨h1,h2⟩,hK⟩:=h;obtain⟨e,hu,hs⟩:=jl hE
   have hr:eD P t 0 [] nid (λv us=>v= .bo nid s 0 0/\us=[(nid,.row s [])]):=by
    simp only[eD,kM,hE,hz,List.length_nil,decide_true];exact⟨⟨h1,h2,by simp,by simp⟩,trivial,trivial⟩
   obtain⟨av,us,v,w',F',μ',⟨rfl,rfl⟩,k2,k3,k4,k5,k6⟩:=lY (P:=P) (vs:=[]) ar bH rfl (by simp) hr
   have hv:∃base,v= .slice base 0 0:=by
    (have r0:∀f:Nat->ah,(Array.range (0*s)).map f= #[]:=λf=>by rw[Nat.zero_mul];apply gz;simp);simp only[Instr.buildSlice,underlying,bu,run_program,bD,hu,cg,run_sizeOf hs,Nat.zero_mul,r0] at k2;simp[newRow,Instr.fill] at k2;exact⟨_,k2.1.symm⟩
   obtain⟨base,rfl⟩:=hv;exact⟨_,_,_,w',F',μ',hK,k2,k3,k4,.jb _ _ _ _ _ _ k5,k6⟩
 · exact h.elim
theorem DY{t:an}{a x:AV}{va vx:ah}(ar:az F μ σ w)(ha:RV F μ w va a)(hx:RV F μ w vx x)(h:vJ P t a x σ K):
 ∃us w' F',K db us/\(Instr.storeAt t va vx).run P w= .ok () w'/\Step F μ w F' μ w'/\az F' μ (us++σ) w':=by
 unfold vJ at h;obtain⟨p,Z,h1,_,h3,h4⟩:=(jW 60).1 x [] _ (by simp[kA]) h;obtain⟨cu,hk⟩:=ar.kill Z;have hp:=h4 F μ w vx (λo b _ _ hm=>ar.obj o b hm) hx;obtain⟨us,w',g1,g2,g3,g4⟩:=mN (P:=P) hk (ha.step cu) (.p hp) h1;exact⟨us++jy Z,w',_,g1,g2,cu.trans g3,by rw[ky];exact g4⟩
theorem DZ{t:an}{a x:AV}{va vx:ah}(ar:az F μ σ w)(ha:RV F μ w va a)(hx:RV F μ w vx x)(h:vK P t a x σ K):
 ∃us w' F',K db us/\(Instr.storeAt t va vx).run P w= .ok () w'/\Step F μ w F' μ w'/\az F' μ (us++σ) w':=by
 unfold vK at h;split at h
 · exact DY ar ha hx h
 · obtain⟨us,w',g1,g2,g3,g4⟩:=mN (P:=P) ar ha hx h
   exact⟨us,w',F,g1,g2,g3,g4⟩
theorem az.pad(ar:az F μ σ w){o b:Nat}{cs:List AV}(ho:σ.get o= .cells cs)(hb:μ o=some b):∃cur t k,w.heap[b]? =some (.cells cur t (0,0))/\cs.length+k=cur.size/\az F μ ((o,.cells (cs++ck k .any))::σ) w:=by
 obtain⟨cur,t,g1,g2,g3⟩:=ar.cells ho hb;refine⟨cur,t,cur.size-cs.length,g1,by omega,ar.fb,ar.mb,λi hi=>?_,λi bi hm=>?_,λi bi hi=>?_,λi j bb hi hj=>?_,λc m hc=>⟨(ar.hd c m hc).1,λi hi=>?_⟩,ar.hu⟩
 · rcases fj (o:=o) (x:= .cells (cs++ck (cur.size-cs.length) .any)) (σ:=σ) i with⟨e,_⟩|⟨_,e⟩
   · subst e;exact ar.has i (by rw[ho];simp)
   · rw[e] at hi;exact ar.has i hi
 · rcases fj (o:=o) (x:= .cells (cs++ck (cur.size-cs.length) .any)) (σ:=σ) i with⟨e,e2⟩|⟨_,e⟩
   · rw[e2]
     rw[e,hb] at hm;injection hm with hm;subst hm
     refine⟨cur,t,g1,by simp;omega,λj c hc=>?_⟩;rw[nG] at hc;split at hc
     · exact g3 j c hc
     · have:=aO hc
       rw[List.mem_replicate] at this;rw[this.2];exact .any _
   · rw[e];exact ar.obj i bi hm
 · rcases fj (o:=o) (x:= .cells (cs++ck (cur.size-cs.length) .any)) (σ:=σ) i with⟨e,_⟩|⟨_,e⟩
   · subst e;exact ar.live i bi (by rw[ho];simp)
   · rw[e] at hi;exact ar.live i bi hi
 · have nd:∀i,ab.get ((o,.cells (cs++ck (cur.size-cs.length) .any))::σ) i≠ .dead->σ.get i≠ .dead:=λi hi=>by
    rcases fj (o:=o) (x:= .cells (cs++ck (cur.size-cs.length) .any)) (σ:=σ) i with⟨e,_⟩|⟨_,e⟩
    · subst e;rw[ho];simp
    · rw[e] at hi;exact hi
   exact ar.inj i j bb (nd i hi) (nd j hj)
 · refine(ar.hd c m hc).2 i ?_
   rcases fj (o:=o) (x:= .cells (cs++ck (cur.size-cs.length) .any)) (σ:=σ) i with⟨e,_⟩|⟨_,e⟩
   · subst e;rw[ho];simp
   · rw[e] at hi;exact hi
theorem az.OK{o:Nat}{x y:bJ}(ar:az F μ ((o,x)::σ) w)(hx:x≠ .dead)(h:∀b,RO F μ w b x->RO F μ w b y):az F μ ((o,y)::σ) w:=by
 have hd:∀i,ab.get ((o,y)::σ) i≠ .dead->ab.get ((o,x)::σ) i≠ .dead:=λi hi=>by
  rcases fj (o:=o) (x:=x) (σ:=σ) i with⟨e,e2⟩|⟨e1,e⟩
  · rw[e2];exact hx
  · rw[e]
    rcases fj (o:=o) (x:=y) (σ:=σ) i with⟨e3,_⟩|⟨_,e3⟩
    · exact absurd e3 e1
    · rw[e3] at hi;exact hi
 refine⟨ar.fb,ar.mb,λi hi=>ar.has i (hd i hi),λi b hm=>?_,λi b hi=>ar.live i b (hd i hi),λi j b hi hj=>ar.inj i j b (hd i hi) (hd j hj),λc m hc=>⟨(ar.hd c m hc).1,λi hi=>(ar.hd c m hc).2 i (hd i hi)⟩,ar.hu⟩;have h1:=ar.obj i b hm;rcases fj (o:=o) (x:=x) (σ:=σ) i with⟨e,e2⟩|⟨e1,e⟩
 · rw[e2] at h1
   rcases fj (o:=o) (x:=y) (σ:=σ) i with⟨_,e3⟩|⟨e4,_⟩
   · rw[e3];exact h b h1
   · exact absurd e e4
 · rw[e] at h1
   rcases fj (o:=o) (x:=y) (σ:=σ) i with⟨e4,_⟩|⟨_,e3⟩
   · exact absurd e4 e1
   · rw[e3];exact h1
theorem yS{t xt ty:an}{o sz i len Mx i2 n:Nat}{va vx:ah}(ar:az F μ σ w)(ha:RV F μ w va (.bo o sz i len))(hx:RV F μ w vx (.bo o Mx i2 n))(h:oC P t o sz i len Mx i2 n σ K):
 eZ P F μ σ w nid K (jO #[t,xt] ty #[va,vx]):=by
 unfold oC at h;split at h
 · rename_i s g e8 l hE ho
   obtain⟨⟨⟨q1,q2,q3,h0⟩,hi,FO⟩,hK⟩:=h;(subst q1;have q2:=q2.symm;have q3:=q3.symm;subst q2;subst q3);have bQ:=mM ar ho;have hlen:=cz h0 bQ
   cases ha with
   |bo _ _ _ _ _ ha=>
   cases hx with
   |bo _ _ _ _ _ hx=>
   have U1:=ar.un;(have U2:(qG σ).get o= .cells (bc l):=by rw[mL ho];rfl);obtain⟨b,hb⟩:=ar.has o (by rw[ho];simp);obtain⟨cur,tt,k,Bb,hk,hpad⟩:=U1.pad U2 hb
   have room:∀{i len:Nat} {v:ah},RV F μ w v (.dJ o sz (i*sz) len)->i*sz+len*sz<=cur.size:=by
    intro i len v hv
    cases hv with
    |dJ _ _ _ bL _ cap b' t' n' pT hc pQ r7 tX qe=>
    rw[hb] at pT;injection pT with pT;subst pT
    (have:n'=cur.size:=by simp[cC,Bb] at pQ;exact pQ.2.symm);have:=fC sz tX;omega
   have r1:=room ha;have r2:=room hx;(have jH:(bc l++ck k AV.any).length=cur.size:=by simp;omega);have Mz:min n len<=n:=Nat.min_le_left _ _
   have Xr:=nD (P:=P) (xt:=xt) (ty:=ty) (nid:=nid) (K:=λav us=>av= .p (.int .i64 (min n len:Nat))/\us=[(o,.cells (cO (bc l++ck k AV.any) (i*sz) ((((bc l++ck k AV.any).drop (i2*sz)).take (n*sz)).take (min n len*sz))))]) hpad ha hx (t:=t) (by
    simp only[uo,hE,mc,ab.get,if_true];refine⟨h0,trivial,by rw[jH];exact r2,⟨trivial,by rw[jH];exact r1,λc hc=>?_⟩,⟨trivial,trivial⟩⟩;rw[List.take_take,Nat.min_eq_left (fC _ Mz),List.drop_append,List.take_append] at hc
    have Bl:min n len*sz<=(eo (i2*sz) (bc l)).length:=by
     rw[nz,hlen];have:=fC sz FO;rw[dB] at this;omega
    rw[show min n len*sz-(eo (i2*sz) (bc l)).length=0 by omega,List.take_zero,ib] at hc
    exact ux bQ c (List.mem_of_mem_drop (List.mem_of_mem_take hc)))
   obtain⟨av,us,v,w',F',μ',⟨rfl,rfl⟩,g2,g3,g4,g5,g6⟩:=Xr;refine⟨_,_,v,w',F',μ',hK,g2,g3,?_,g5,g6⟩
   have bH:((bc l++ck k AV.any).drop (i2*sz)).take (min n len*sz)=bc ((l.drop i2).take (min n len)):=by
    rw[List.drop_append,List.take_append]
    have Bl:min n len*sz<=(eo (i2*sz) (bc l)).length:=by
     rw[nz,hlen];have:=fC sz FO;rw[dB] at this;omega
    rw[show min n len*sz-(eo (i2*sz) (bc l)).length=0 by omega,List.take_zero,ib];exact ot h0 bQ i2 _
   (have vj:((l.drop i2).take (min n len)).length=min n len:=by simp;omega);have IY:eh sz ((l.drop i2).take (min n len)):=(bQ.drop _).take _;have sJ:(bc ((l.drop i2).take (min n len))).length=min n len*sz:=by rw[cz h0 IY,vj]
   have Xs:(((bc l++ck k AV.any).drop (i2*sz)).take (n*sz)).take (min n len*sz)=bc ((l.drop i2).take (min n len)):=by
    rw[List.take_take,Nat.min_eq_left (fC _ Mz),bH]
   have vA:i*sz+min n len*sz<=(bc l++ck k AV.any).length:=by
    rw[jH];have:=fC sz (Nat.min_le_right n len);omega
   have DN:cO (bc l++ck k AV.any) (i*sz) (bc ((l.drop i2).take (min n len)))=bc (l.take i++(l.drop i2).take (min n len)++l.drop (i+min n len))++(ck k AV.any).drop (i*sz+min n len*sz-(bc l).length):=by
    rw[mu _ _ _ (by rw[sJ];exact vA),cH,cH,List.take_append,sJ];(have e1:i*sz-(bc l).length=0:=by rw[hlen];have:=fC sz hi;omega);rw[e1,List.take_zero,ib,mq h0 bQ,List.drop_append,<-dB,mr h0 bQ];simp[ky]
   rw[Xs,DN] at g4;have U3:eh sz (l.take i++(l.drop i2).take (min n len)++l.drop (i+min n len)):=((bQ.take _).append IY).append (bQ.drop _)
   have g5':az F' μ' ((o,.cells (bc (l.take i++(l.drop i2).take (min n len)++l.drop (i+min n len))++(ck k AV.any).drop (i*sz+min n len*sz-(bc l).length)))::qG σ) w':=g4.congr λj=>by
    simp only[jS,jn,ab.get];split
    · rfl
    · rename_i e;simp[e]
   have g6':az F' μ' ((o,.cells (bc (l.take i++(l.drop i2).take (min n len)++l.drop (i+min n len))))::qG σ) w':=g5'.OK (by simp) λbb gk=>by
    obtain⟨cur',t',q1,q2,q3⟩:=gk;refine⟨cur',t',q1,by simp at q2 ⊢;omega,λj c hc=>q3 j c ?_⟩;rw[gA (aq.1 hc).1];exact hc
   exact ar.re (us:=[(o,.row sz (l.take i++(l.drop i2).take (min n len)++l.drop (i+min n len)))]) g6' (by
    intro x hx;obtain rfl:=gE.1 hx;exact U3)
 · exact h.elim
theorem D1{t ty:an}{x:AV}{v:ah}(ar:az F μ σ w)(hx:RV F μ w v x)(h:tr P t x σ K):eZ P F μ σ w nid K (Builtin.clear_ #[t] ty #[v]):=by
 unfold tr at h;split at h
 · rename_i o sz i len s g z hE hZ
   split at h
   · rename_i e8 l ho
     obtain⟨⟨q1,q2,h0,hle,Xt,hzc⟩,hK⟩:=h;(subst q1;have q2:=q2.symm;subst q2);obtain⟨e,hu,hs⟩:=jl hE;have bQ:=mM ar ho;have hlen:=cz h0 bQ
     cases hx with
     |bo _ _ _ _ _ hx=>
     cases hx with
     |dJ _ _ _ bL _ cap b t' n' hb gX pQ r7 tX qe=>
     have hZ':tZ P e=some z:=by
      unfold Mm at hZ;rw[hu] at hZ;exact hZ
     obtain⟨zv,vy,x2,Im⟩:=eB hZ' w;rcases Nat.eq_zero_or_pos len with gy|N7
     · subst gy
       refine⟨_,_,.tuple #[],w,F,μ,hK,?_,.refl _ _ _,ar.congr λj=>?_,(.p (.bR _ _ rfl (by simp))),λ_ _=>rfl⟩
       · simp[Builtin.clear_,run_underlying hu]
       · simp only[jS,jn,ab.get]
         split
         · rename_i e;subst e;rw[ho];simp
         · rfl
     · have l9:bL=i*sz:=by rcases gX with h'|h'<;>omega
       subst l9;have U1:=ar.un;(have U2:(qG σ).get o= .cells (bc l):=by rw[mL ho];rfl);(have Ce:z.length=sz:=by rw[<-hzc];exact Xt.1);have IY:eh sz (ck len (kz g z)):=oz Xt _;(have sJ:(bc (ck len (kz g z))).length=len*sz:=by rw[cz h0 IY];simp);have Bm:bc (ck len (kz g z))=ey z len:=(ig z g len (kz g z) hzc).symm;have hzr':∀F (i:Nat) p,z[i]? =some p->RP F w (zv.cells[i]?.getD undef) p:=Im
       have OL:(iN zv.cells len).toList.length=len*sz/\ ∀(j:Nat) c,(ey z len)[j]? =some c->RV F μ w ((iN zv.cells len).toList[j]?.getD undef) c:=by
        (have Q5:zv.cells.size=sz:=by rw[x2];exact Ce);refine⟨by simp[iN,Q5],λj c hc=>?_⟩;have:=(jT (F:=F) (μ:=μ) (w:=w) (n:=len) x2 Ce h0 hzr' len (aX _)).2 j c hc;simp only[iN,Q5] at this ⊢
        have e:∀(k:Nat),(Array.range k)[j]? =(cJ k)[j]? :=λk=>by
         rw[<-gi,Array.toList_range]
        simpa[e] using this
       obtain⟨w',e1,e2,e3⟩:=qB (P:=P) (off:=i*sz) U1 U2 hb (iN zv.cells len).toList (bc (ck len (kz g z))) (by rw[sJ];exact OL.1) (by
        rw[sJ,hlen,<-dB];exact fC _ hle) (by rw[Bm];exact OL.2) (λc hc=>ux IY c hc)
       refine⟨_,_,.tuple #[],w',F,μ,hK,?_,e2,?_,(.p (.bR _ _ rfl (by simp))),λ_ _=>rfl⟩
       · obtain⟨m,rfl⟩:∃m,len=m+1:=⟨len-1,by omega⟩
         simp[Builtin.clear_,run_underlying hu,vy,e1 _ rfl]
       · rw[qF h0 bQ IY i (by simp;omega)] at e3
         simp only[List.length_replicate] at e3
         exact ar.re (us:=[(o,.row sz (l.take i++ck len (kz g z)++l.drop (i+len)))]) e3 (by
          intro x hx;obtain rfl:=gE.1 hx
          exact((bQ.take _).append IY).append (bQ.drop _))
   · exact h.elim
 · exact h.elim
end
section
variable{P:au}{F:Nat->Prop}{μ:aN}{σ:ab}{w:aj}{nid:Nat}{K:AV->ab->Prop}
theorem az.OM(h:az F μ σ w){o b:Nat}{es:Array dS}{clock:Nat}{x:bJ}(ho:σ.get o=x)(hx:x≠ .dead)(hb:μ o=some b)(hg:w.heap[b]? =some (.map es clock))
 (CB:Array dS) (gJ:Nat) (o':bJ) (gk:∀w',Step F μ w F μ w'->w'.heap[b]? =some (.map CB gJ)->RO F μ w' b o'):
 Step F μ w F μ { w with heap:=w.heap.setIfInBounds b (.map CB gJ) } /\az F μ ((o,o')::σ) { w with heap:=w.heap.setIfInBounds b (.map CB gJ) }:=by
 have iX:σ.get o≠ .dead:=by rw[ho];exact hx
 have RG:¬ F b:=h.live o b iX hb;have aC:=qS hg
 have ez:∀k,k≠b->(w.heap.setIfInBounds b (.map CB gJ))[k]? =w.heap[k]? :=λk hk=>by
  rw[Array.getElem?_setIfInBounds];simp[Ne.symm hk]
 have iO:(w.heap.setIfInBounds b (.map CB gJ))[b]? =some (.map CB gJ):=by
  rw[Array.getElem?_setIfInBounds];simp[aC]
 have cu:Step F μ w F μ { w with heap:=w.heap.setIfInBounds b (.map CB gJ) }:=by
  refine⟨rfl,rfl,rfl,by simp,λk hk=>ez k (λe=>RG (e▸hk)),λk _ hk=>ez k (λe=>hk (e▸ .inl ⟨o,hb⟩)),λk x hx=>?_,λ_ h=>h,λ_ h=>.inl h,λ_ _ h=>h,λ_ h=>.inl h⟩;by_cases hk:k=b
  · subst hk;simp[cC,hg] at hx
  · simp only[cC,ez k hk] at hx ⊢;exact hx
 have nd:∀i,ab.get ((o,o')::σ) i≠ .dead->σ.get i≠ .dead:=λi hi=>by
  rcases fj (o:=o) (x:=o') (σ:=σ) i with⟨e,_⟩|⟨_,e⟩
  · rw[e];exact iX
  · rw[e] at hi;exact hi
 refine⟨cu,⟨h.fb.st cu λk hk=>by simpa using h.fb k hk,λk hk=>by simpa using h.mb k hk,λi hi=>h.has i (nd i hi),?_,λi bi hi=>h.live i bi (nd i hi),λi j bb hi hj=>h.inj i j bb (nd i hi) (nd j hj),λc m hc=>⟨(h.hd c m hc).1,λi hi=>(h.hd c m hc).2 i (nd i hi)⟩,h.hu⟩⟩;intro i bi qf;rcases fj (o:=o) (x:=o') (σ:=σ) i with⟨e,e2⟩|⟨e,e2⟩
 · rw[e2]
   rw[e,hb] at qf;injection qf with qf;subst qf
   exact gk _ cu iO
 · rw[e2]
   have gk:=h.obj i bi qf;by_cases hd:σ.get i= .dead
   · rw[hd];trivial
   · have:bi≠b:=λk=>e (h.inj i o _ hd iX (k▸qf) hb)
     exact gk.step cu (ez bi this) λc hc=>⟨hc,ez c λe=>(h.hd c bi hc).2 o iX (e▸hb)⟩
theorem sf{kt:KT}{p q:PV}(hp:qd kt p=true)(hq:qd kt q=true)(he:iF p.cells q.cells=true):p=q:=by
 obtain⟨ks,g⟩:=kt
 have e1:∀{k:FK} {a b:PV},k.ok a=true->k.ok b=true->Q4 a b=true->a=b:=by
  intro k a b ha hb h;cases k<;>cases a<;>simp[FK.ok] at ha<;>cases b<;>simp[FK.ok] at hb<;>simp[Q4] at h
  · subst ha;subst hb;rw[h]
  · rw[h]
  · rw[h]
 have el:∀{ks:List FK} {a b:List PV},gB ks a=true->gB ks b=true->iF a b=true->a=b:=by
  intro ks
  induction ks with
  |nil=>intro a b ha hb _;cases a<;>cases b<;>simp[gB] at ha hb<;>rfl
  |cons k ks ih=>
   intro a b ha hb h
   cases a with
   |nil=>simp[gB] at ha
   |cons x a=>
    cases b with
    |nil=>simp[gB] at hb
    |cons y b=>
     simp only[gB,iF,aQ] at ha hb h;rw[e1 ha.1 hb.1 h.1,ih ha.2 hb.2 h.2]
 cases g with
 |true=>
  cases p<;>simp only[qd] at hp<;>try(cases hp;done)
  cases q<;>simp only[qd] at hq<;>try(cases hq;done)
  rw[el hp hq he]
 |false=>
  simp only[qd] at hp hq
  have one:∀{p:PV},gB ks [p]=true->p.cells=[p]:=by
   intro p h
   cases ks with
   |nil=>simp[gB] at h
   |cons k r=>simp only[gB,aQ] at h;exact vH h.1
  rw[one hp,one hq] at he;have:=el hp hq he;injection this
theorem yT{kt:KT}{p:PV}{v u:ah}(hp:qd kt p=true)(hv:RP F w v p)(hu:RP F w u p):Instr.sameBits 10000 v u=true:=by
 obtain⟨ks,g⟩:=kt
 have one:∀{k:FK} {p:PV} {v u:ah} (n:Nat),k.ok p=true->RP F w v p->RP F w u p->Instr.sameBits n v u=true:=by
  intro k p v u n hp hv hu;rcases mf hp hv with⟨kd,a,rfl,rfl,rfl⟩|⟨b,rfl,rfl,rfl⟩|⟨s,rfl,rfl,rfl⟩
  · cases hu;cases n<;>simp[Instr.sameBits]
  · cases hu;cases n<;>simp[Instr.sameBits]
  · cases hu
    (have:(s==s)=true:=by rw[beq_toListBytes];simp);cases n<;>simp[Instr.sameBits,this]
 cases g with
 |false=>
  simp only[qd] at hp
  cases ks with
  |nil=>simp[gB] at hp
  |cons k r=>simp only[gB,aQ] at hp;exact one _ hp.1 hv hu
 |true=>
  cases p<;>simp only[qd] at hp<;>try(cases hp;done)
  rename_i cs
  cases hv with
  |agg xs _ h1 h2=>
  cases hu with
  |agg ys _ h3 h4=>
  have hl:=ij hp
  have:∀x∈xs.toList.zip ys.toList,Instr.sameBits 9999 x.1 x.2=true:=by
   intro x hx;obtain⟨i,hi,rfl⟩:=lM hx;simp only[List.length_zip,Array.length_toList] at hi;(have hc:i<cs.length:=by omega);(have hk:i<ks.length:=by omega);have a1:=h2 i cs[i] (aV hc);have a2:=h4 i cs[i] (aV hc);rw[dh (by omega)] at a1 a2;have bQ:=F9 hp (aV hk) (aV hc);have:=one 9999 bQ a1 a2;simpa using this
  simp only[Instr.sameBits,aQ,beq_iff_eq];refine⟨by omega,?_⟩;rw[cG];exact this
theorem mE.push{es:Array dS}{clock:Nat}(h:mE es clock)(k v:ah):mE (es.push { key:=k,val:=v,born:=clock }) (clock+1):=by
 refine⟨λi e he=>?_,λi j e e' he Fj hb=>?_⟩
 · rw[kG] at he
   split at he
   · injection he with he;subst he;exact Nat.lt_succ_self _
   · exact Nat.lt_succ_of_lt (h.1 i e he)
 · rw[kG] at he Fj
   split at he<;>split at Fj
   · omega
   · injection he with he;subst he
     have:=h.1 j e' Fj;simp at hb;omega
   · injection Fj with Fj;subst Fj
     have:=h.1 i e he;simp at hb;omega
   · exact h.2 i j e e' he Fj hb
theorem mE.modify{es:Array dS}{clock:Nat}(h:mE es clock)(n:Nat)(k v:ah):mE (es.modify n λe=>{ e with key:=k,val:=v }) clock:=by
 have key:∀(i:Nat) e,(es.modify n λe=>{ e with key:=k,val:=v })[i]? =some e->∃e0,es[i]? =some e0/\e0.born=e.born:=λi e he=>by
  rw[pU] at he;split at he
  · simp only[cm] at he
    obtain⟨e0,h1,rfl⟩:=he;exact⟨e0,h1,rfl⟩
  · exact⟨e,he,rfl⟩
 refine⟨λi e he=>?_,λi j e e' he Fj hb=>?_⟩
 · obtain⟨e0,h1,h2⟩:=key i e he
   rw[<-h2];exact h.1 i e0 h1
 · obtain⟨e0,h1,h2⟩:=key i e he
   obtain⟨e1,h3,h4⟩:=key j e' Fj;exact h.2 i j e0 e1 h1 h3 (by rw[h2,h4];exact hb)
theorem IZ{t:an}{m k v:AV}{vm vk vv:ah}(ar:az F μ σ w)(hm:RV F μ w vm m)(hk:RV F μ w vk k)(hv:RV F μ w vv v)(h:My P t m k v σ K):
 ∃us w',K db us/\(Instr.mapUpdate t vm vk vv).run P w= .ok () w'/\Step F μ w F μ w'/\az F μ (us++σ) w':=by
 unfold My at h;split at h
 · rename_i o key val
   split at h
   · rename_i kt l x6 e ho hT
     obtain⟨⟨rfl,jq⟩,hK⟩:=h;obtain⟨kT,hu,hf⟩:=mw hT
     cases hm with
     |mp _ b hb=>
     have gk:=ar.obj o b hb;rw[ho] at gk;obtain⟨h0,es,clock,h1,h2,h3,h4⟩:=gk;have Gb:=hk.bG;have hvr:=hv.bG
     have uA:=run_findKey (P:=P) hf Gb jq w l es.toList (by simpa using h2) h0 (λi a c d q1 q2=>by
      obtain⟨e',g1,g2,g3⟩:=h4 i a c q1;rw[gi] at q2
      rw[q2] at g1;injection g1 with g1;subst g1;exact g2)
     have o9:=run_checkKey (P:=P) hf Gb jq false w
     cases nT:aT key 0 l with
     |none=>
      (have IU:cD l es.toList key 0=none:=by simp[cD,nT]);(have gn:dr key val l=l++[(key,val)]:=by simp[dr,nT]);rw[gn] at hK
      obtain⟨s1,s2⟩:=ar.OM ho (by simp) hb h1 (es.push { key:=vk,val:=vv,born:=clock }) (clock+1) (.map x6 (l++[(key,val)])) (λw' hs hw=>by
       refine⟨λx hx=>?_,_,_,hw,by simp[h2],h3.push vk vv,λi a c A4=>?_⟩
       · rcases cL.1 hx with hx|hx
         · exact h0 x hx
         · simp at hx;subst hx;exact jq
       · rw[nG] at A4
         split at A4
         · obtain⟨en,g1,g2,g3⟩:=h4 i a c A4
           refine⟨en,?_,g2.mono hs.sub hs.fr,g3.mono hs.sub hs.fr⟩;rw[kG,if_neg (by omega)];exact g1
         · have hi:i=l.length:=by
            have:=(aq.1 A4).1;simp at this;omega
           subst hi;simp at A4;obtain⟨rfl,rfl⟩:=A4
           exact⟨{ key:=vk,val:=vv,born:=clock },by rw[kG,if_pos (by omega)],Gb.mono hs.sub hs.fr,hvr.mono hs.sub hs.fr⟩)
      refine⟨_,_,hK,?_,s1,s2⟩;simp only[Instr.mapUpdate,bu,run_underlying hu,bD,ik h1,o9,uA,IU];simp[setObj,Sem.run,h1]
     |some x=>
      obtain⟨i,pv⟩:=x;obtain⟨_,k',km,heq⟩:=fH nT;rw[Nat.sub_zero] at km;have hi:i<l.length:=(aq.1 km).1;(have DU:i<es.size:=by omega);(have IU:cD l es.toList key 0=some (i,es[i].val):=by simp[cD,nT,DU]);(have gn:dr key val l=l.set i (key,val):=by simp[dr,nT]);rw[gn] at hK;obtain⟨en,g1,g2,g3⟩:=h4 i k' pv km
      have vq:en=es[i]:=by rw[dh DU] at g1;injection g1 with g1;exact g1.symm
      subst vq;have A3:key=k':=sf jq (h0 _ (aO km)) heq;subst A3;have cj:Instr.sameBits 10000 es[i].key vk=true:=yT jq g2 Gb
      obtain⟨s1,s2⟩:=ar.OM ho (by simp) hb h1 (es.modify i λe=>{ e with key:=vk,val:=vv }) clock (.map x6 (l.set i (key,val))) (λw' hs hw=>by
       refine⟨λx hx=>?_,_,_,hw,by simp[h2],h3.modify i vk vv,λj a c A4=>?_⟩
       · rcases List.mem_or_eq_of_mem_set hx with hx|hx
         · exact h0 x hx
         · subst hx;exact jq
       · rw[List.getElem?_set] at A4
         split at A4
         · rename_i gx
           subst gx;(have yU:some (key,val)=some (a,c):=by simpa[hi] using A4);injection yU with yU;injection yU with e1 e2;subst e1;subst e2;exact⟨{ es[i] with key:=vk,val:=vv },by rw[pU];simp[DU],Gb.mono hs.sub hs.fr,hvr.mono hs.sub hs.fr⟩
         · rename_i gx
           obtain⟨en,q1,q2,q3⟩:=h4 j a c A4;refine⟨en,?_,q2.mono hs.sub hs.fr,q3.mono hs.sub hs.fr⟩
           rw[pU];simp[gx,q1])
      refine⟨_,_,hK,?_,s1,s2⟩;(have ON:((es[i]?).map (·.key)).getD vk=es[i].key:=by simp[DU]);simp only[Instr.mapUpdate,bu,run_underlying hu,bD,ik h1,o9,uA,IU,ON];simp[Instr.keyThatStays,cj,setObj,Sem.run,h1]
   · exact h.elim
 · exact h.elim
theorem TV.h(ar:az F μ σ w){n sz i len c:Nat}{l:List PV}{v:ah}(hn:σ.get n= .row sz l)(hi:i=0)(hl:len=l.length)(hv:RV F μ w v (.bo n sz i len))(hc:μ n=some c):Fy F w c sz v l:=by
 subst hi;subst hl;have gk:=ar.obj n c hc;rw[hn] at gk;obtain⟨bQ,cur,t,g1,g2,g3⟩:=gk
 cases hv with
 |bo _ _ _ _ _ hv=>
 cases hv with
 |dJ _ _ _ bL _ cap b t' n' hm h1 h2 h3 h4 h5=>
 rw[hc] at hm;injection hm with hm;subst hm
 have iR:n'=cur.size:=by simp[cC,g1] at h2;exact h2.2.symm
 refine⟨bQ,bL,cap,cur,t,⟨rfl,?_,by omega,h4,h5⟩,g1,g2,λj p hp=>?_⟩
 · rcases h1 with h1|h1
   · exact .inl h1
   · right;omega
 · have:(bc l)[j]? =some (.p p):=by unfold bc;rw[aW,hp];rfl
   exact(g3 j _ this).bG
theorem I0{t:an}{o n sz i len:Nat}{key:PV}{kt:KT}{e8 OJ:Nat}{l:List (PV×MV)}{r:List PV}{e:an}{vm vk vv:ah}(ar:az F μ σ w)(hm:RV F μ w vm (.mp o))(hk:RV F μ w vk (.p key))(hv:RV F μ w vv (.bo n sz i len))
 (ho:σ.get o= .cN kt e8 l) (hT:ko P t=some (kt,e)) (hn:σ.get n= .row OJ r) (hq:qd kt key=true/\sz=e8/\OJ=e8/\i=0/\len=r.length/\n≠o):
 ∃w' μ',(Instr.mapUpdate t vm vk vv).run P w= .ok () w'/\Step F μ w F μ' w'/\az F μ' ([(o,.cN kt e8 (dr key (.h r) l)),(n,.dead)]++σ) w'/\ ∀o,μ' o=μ o:=by
 obtain⟨jq,q1,q2,q3,q4,q5⟩:=hq;subst q2;subst q1;obtain⟨kT,hu,hf⟩:=mw hT
 cases hm with
 |mp _ b hb=>
 have gk:=ar.obj o b hb;rw[ho] at gk;obtain⟨h0,es,clock,h1,h2,h3,c,h4,h5⟩:=gk;(have Bn:σ.get o≠ .dead:=by rw[ho];simp);(have Cg:σ.get n≠ .dead:=by rw[hn];simp);obtain⟨d,hd⟩:=ar.has n Cg;have D2:=TV.h ar hn q3 q4 hv hd;have hdb:d≠b:=λx=>q5 (ar.inj n o b Cg Bn (x▸hd) hb);have RG:¬ F b:=ar.live o b Bn hb;have hdF:¬ F d:=ar.live n d Cg hd;have Gb:=hk.bG
 have uA:=run_findKey (P:=P) hf Gb jq w l es.toList (by simpa using h2) h0 (λi a c d q1 q2=>by
  obtain⟨e',g1,g2,g3⟩:=h4 i a c q1;rw[gi] at q2
  rw[q2] at g1;injection g1 with g1;subst g1;exact g2)
 have o9:=run_checkKey (P:=P) hf Gb jq false w
 let μ':aN:=⟨μ,λx y=>μ.oW x y\/(x=d/\y=b)⟩
 have aC:=qS h1
 have fin:∀(CB:Array dS) (gJ:Nat) (l':List (PV×MV)) (c':Nat->Nat),CB.size=l'.length->mE CB gJ->(∀x∈l',qd kt x.1=true)->
  (∀(i:Nat) k x,l'[i]? =some (k,x)->∃e:dS,CB[i]? =some e/\RP F w e.key k/\IA F μ' w b sz (c' i) e.val x)->
  (∀(i j:Nat) k k' p p',l'[i]? =some (k,.h p)->l'[j]? =some (k',.h p')->c' i=c' j->i=j)->
  Step F μ w F μ' { w with heap:=w.heap.setIfInBounds b (.map CB gJ) } /\az F μ' ([(o,.cN kt sz l'),(n,.dead)]++σ) { w with heap:=w.heap.setIfInBounds b (.map CB gJ) }:=by
  intro CB gJ l' c' a1 a2 a3 a4 a5
  have ez:∀k,k≠b->(w.heap.setIfInBounds b (.map CB gJ))[k]? =w.heap[k]? :=λk hk=>by
   rw[Array.getElem?_setIfInBounds];simp[Ne.symm hk]
  have iO:(w.heap.setIfInBounds b (.map CB gJ))[b]? =some (.map CB gJ):=by
   rw[Array.getElem?_setIfInBounds];simp[aC]
  have cu:Step F μ w F μ' { w with heap:=w.heap.setIfInBounds b (.map CB gJ) }:=by
   refine⟨rfl,rfl,rfl,by simp,λk hk=>ez k (λe=>RG (e▸hk)),λk _ hk=>ez k (λe=>hk (e▸ .inl ⟨o,hb⟩)),λk x hx=>?_,λ_ h=>h,λ_ h=>.inl h,λ_ _ h=>h,λk hk=>?_⟩
   · by_cases hk:k=b
     · subst hk;simp[cC,h1] at hx
     · simp only[cC,ez k hk] at hx ⊢;exact hx
   · rcases hk with⟨i,hi⟩|⟨x,hx|⟨rfl,_⟩⟩
     · exact .inl (.inl ⟨i,hi⟩)
     · exact .inl (.inr ⟨x,hx⟩)
     · exact .inl (.inl ⟨n,hd⟩)
  have RX:Step F μ' w F μ' { w with heap:=w.heap.setIfInBounds b (.map CB gJ) }:=
   ⟨rfl,rfl,rfl,cu.size,cu.fr,λk hk hn=>cu.old k hk λh=>hn (h.imp id λ⟨x,hx⟩=>⟨x,.inl hx⟩),cu.shape,λ_ h=>h,λ_ h=>.inl h,λ_ _ h=>h,λ_ h=>.inl h⟩
  have get:∀i,(i=o/\ab.get ([(o,.cN kt sz l'),(n,.dead)]++σ) i= .cN kt sz l')\/(i=n/\ab.get ([(o,.cN kt sz l'),(n,.dead)]++σ) i= .dead)\/(i≠o/\i≠n/\ab.get ([(o,.cN kt sz l'),(n,.dead)]++σ) i=σ.get i):=λi=>by
   simp only[jS,jn,ab.cI];by_cases e1:o=i
   · exact .inl ⟨e1.symm,if_pos e1⟩
   · rw[if_neg e1]
     by_cases e2:n=i
     · exact .inr (.inl ⟨e2.symm,if_pos e2⟩)
     · exact .inr (.inr ⟨λk=>e1 k.symm,λk=>e2 k.symm,if_neg e2⟩)
  have nd:∀i,ab.get ([(o,.cN kt sz l'),(n,.dead)]++σ) i≠ .dead->σ.get i≠ .dead/\i≠n:=λi hi=>by
   rcases get i with⟨e,_⟩|⟨_,e⟩|⟨_,e2,e⟩
   · exact⟨e▸Bn,e▸Ne.symm q5⟩
   · exact absurd e hi
   · exact⟨e▸hi,e2⟩
  refine⟨cu,ar.fb.st cu λk hk=>by simpa using ar.fb k hk,λk hk=>?_,λi hi=>ar.has i (nd i hi).1,λi bi qf=>?_,λi bi hi=>ar.live i bi (nd i hi).1,λi j bb hi hj=>ar.inj i j bb (nd i hi).1 (nd j hj).1,λx y Fl=>?_,λx y z hy hz=>?_⟩
  · rcases cu.fV k hk with h|h
    · simpa using ar.mb k h
    · rcases hk with⟨i,hi⟩|⟨x,hx|⟨rfl,_⟩⟩
      · simpa using ar.mb k (.inl ⟨i,hi⟩)
      · simpa using ar.mb k (.inr ⟨x,hx⟩)
      · simpa using ar.mb k (.inl ⟨n,hd⟩)
  · have qf:μ i=some bi:=qf
    rcases get i with⟨e,e2⟩|⟨_,e⟩|⟨e1,e2,e⟩
    · rw[e2]
      rw[e,hb] at qf;injection qf with qf;subst qf
      refine⟨a3,CB,gJ,iO,a1,a2,c',λi k x hx=>?_,a5⟩;obtain⟨e,g1,g2,g3⟩:=a4 i k x hx;refine⟨e,g1,g2.mono cu.sub cu.fr,?_⟩
      cases x with
      |h l=>exact⟨g3.1,g3.2.mono cu.sub cu.fr (ez _ λe=>by
         rcases g3.1 with g|⟨g,_⟩
         · exact(ar.hd _ b g).2 o Bn (e▸hb)
         · exact hdb (g.symm.trans e))⟩
      |v av=>exact RV.step g3 RX
    · rw[e];trivial
    · rw[e]
      have gk:=ar.obj i bi qf;by_cases U4:σ.get i= .dead
      · rw[U4];trivial
      · have pR:bi≠b:=λk=>e1 (ar.inj i o _ U4 Bn (k▸qf) hb)
        exact gk.step cu (ez bi pR) λx hx=>⟨.inl hx,ez x λe=>(ar.hd x bi hx).2 o Bn (e▸hb)⟩
  · rcases Fl with Fl|⟨rfl,rfl⟩
    · exact⟨(ar.hd x y Fl).1,λi hi=>(ar.hd x y Fl).2 i (nd i hi).1⟩
    · exact⟨hdF,λi hi hm=>(nd i hi).2 (ar.inj i n x (nd i hi).1 Cg hm hd)⟩
  · rcases hy with hy|⟨rfl,rfl⟩<;>rcases hz with hz|⟨ua,rfl⟩
    · exact ar.hu x y z hy hz
    · exact absurd hd (ua▸(ar.hd x y hy).2 n Cg)
    · exact absurd hd ((ar.hd x z hz).2 n Cg)
    · rfl
 have bH:∀(i:Nat) k p,l[i]? =some (k,.h p)->c i≠d:=λi k p hi e=>by
  obtain⟨_,_,_,g⟩:=h4 i k _ hi;exact(ar.hd _ b g.1).2 n Cg (e▸hd)
 have old:∀{x:MV} {k v},IA F μ w b sz k v x->IA F μ' w b sz k v x:=λ{x k v} g=>by
  cases x with
  |h l=>exact⟨.inl g.1,g.2⟩
  |v av=>exact RV.step g (F':=F) (μ':=μ') (w':=w) ⟨rfl,rfl,rfl,aX _,λ_ _=>rfl,λ_ _ _=>rfl,λ_ _ h=>h,λ_ h=>h,λ_ h=>.inl h,λ_ _ h=>h,λk hk=>by
     rcases hk with⟨i,hi⟩|⟨x,hx|⟨rfl,_⟩⟩
     · exact .inl (.inl ⟨i,hi⟩)
     · exact .inl (.inr ⟨x,hx⟩)
     · exact .inl (.inl ⟨n,hd⟩)⟩
 cases nT:aT key 0 l with
 |none=>
  have IU:cD l es.toList key 0=none:=by simp[cD,nT]
  have gn:dr key (.h r) l=l++[(key,.h r)]:=by simp[dr,nT]
  rw[gn]
  obtain⟨s1,s2⟩:=fin (es.push { key:=vk,val:=vv,born:=clock }) (clock+1) (l++[(key,.h r)]) (λi=>if i=l.length then d else c i) (by simp[h2]) (h3.push vk vv) (λx hx=>by
   rcases cL.1 hx with hx|hx
   · exact h0 x hx
   · simp at hx;subst hx;exact jq) (λi k x hx=>by
   rw[nG] at hx;split at hx
   · rename_i aC
     obtain⟨en,g1,g2,g3⟩:=h4 i k x hx;refine⟨en,?_,g2,?_⟩
     · rw[kG,if_neg (by omega)];exact g1
     · rw[if_neg (by omega)];exact old g3
   · have hi:i=l.length:=by
      have:=(aq.1 hx).1;simp at this;omega
     subst hi;simp at hx;obtain⟨rfl,rfl⟩:=hx;refine⟨{ key:=vk,val:=vv,born:=clock },by rw[kG,if_pos (by omega)],Gb,?_⟩
     rw[if_pos rfl];exact⟨.inr ⟨rfl,rfl⟩,D2⟩) (λi j k k' p p' hi hj gx=>by
   (have li:i<l.length+1:=by simpa using(aq.1 hi).1);(have lj:j<l.length+1:=by simpa using(aq.1 hj).1);by_cases ei:i=l.length<;>by_cases ej:j=l.length
   · omega
   · rw[gA (by omega)] at hj
     rw[if_pos ei,if_neg ej] at gx;exact absurd gx.symm (bH j k' p' hj)
   · rw[gA (by omega)] at hi
     rw[if_neg ei,if_pos ej] at gx;exact absurd gx (bH i k p hi)
   · rw[gA (by omega)] at hi hj
     rw[if_neg ei,if_neg ej] at gx
     exact h5 i j k k' p p' hi hj gx)
  refine⟨_,μ',?_,s1,s2,λ_=>rfl⟩;simp only[Instr.mapUpdate,bu,run_underlying hu,bD,ik h1,o9,uA,IU];simp[setObj,Sem.run,h1]
 |some x=>
  obtain⟨i,pv⟩:=x;obtain⟨_,k',km,heq⟩:=fH nT;rw[Nat.sub_zero] at km;have hi:i<l.length:=(aq.1 km).1;(have DU:i<es.size:=by omega);(have IU:cD l es.toList key 0=some (i,es[i].val):=by simp[cD,nT,DU]);(have gn:dr key (.h r) l=l.set i (key,.h r):=by simp[dr,nT]);rw[gn];obtain⟨en,g1,g2,g3⟩:=h4 i k' pv km
  have vq:en=es[i]:=by rw[dh DU] at g1;injection g1 with g1;exact g1.symm
  subst vq;have A3:key=k':=sf jq (h0 _ (aO km)) heq;subst A3;have cj:Instr.sameBits 10000 es[i].key vk=true:=yT jq g2 Gb
  obtain⟨s1,s2⟩:=fin (es.modify i λe=>{ e with key:=vk,val:=vv }) clock (l.set i (key,.h r)) (λj=>if j=i then d else c j) (by simp[h2]) (h3.modify i vk vv) (λx hx=>by
   rcases List.mem_or_eq_of_mem_set hx with hx|hx
   · exact h0 x hx
   · subst hx;exact jq) (λj a x A4=>by
   rw[List.getElem?_set] at A4;split at A4
   · rename_i gx
     subst gx;(have yU:some (key,MV.h r)=some (a,x):=by simpa[hi] using A4);injection yU with yU;injection yU with e1 e2;subst e1;subst e2;refine⟨{ es[i] with key:=vk,val:=vv },by rw[pU];simp[DU],Gb,?_⟩;rw[if_pos rfl];exact⟨.inr ⟨rfl,rfl⟩,D2⟩
   · rename_i gx
     obtain⟨en,q1,q2,q3⟩:=h4 j a x A4;refine⟨en,?_,q2,?_⟩
     · rw[pU];simp[gx,q1]
     · rw[if_neg (λe=>gx e.symm)];exact old q3) (λj1 j2 k k' p p' Gm Gn gx=>by
   by_cases e1:j1=i<;>by_cases e2:j2=i
   · omega
   · rw[nv (λe=>e2 e.symm)] at Gn
     rw[if_pos e1,if_neg e2] at gx;exact absurd gx.symm (bH j2 k' p' Gn)
   · rw[nv (λe=>e1 e.symm)] at Gm
     rw[if_neg e1,if_pos e2] at gx;exact absurd gx (bH j1 k p Gm)
   · rw[nv (λe=>e1 e.symm)] at Gm
     rw[nv (λe=>e2 e.symm)] at Gn;rw[if_neg e1,if_neg e2] at gx
     exact h5 j1 j2 k k' p p' Gm Gn gx)
  refine⟨_,μ',?_,s1,s2,λ_=>rfl⟩;(have ON:((es[i]?).map (·.key)).getD vk=es[i].key:=by simp[DU]);simp only[Instr.mapUpdate,bu,run_underlying hu,bD,ik h1,o9,uA,IU,ON];simp[Instr.keyThatStays,cj,setObj,Sem.run,h1]
theorem yV{t:an}{m k v:AV}{vm vk vv:ah}(ar:az F μ σ w)(hm:RV F μ w vm m)(hk:RV F μ w vk k)(hv:RV F μ w vv v)(h:IT P t m k v σ K):
 ∃us w' μ',K db us/\(Instr.mapUpdate t vm vk vv).run P w= .ok () w'/\Step F μ w F μ' w'/\az F μ' (us++σ) w'/\ ∀o,μ' o=μ o:=by
 unfold IT at h;split at h
 · rename_i o key n sz i len
   split at h
   · rename_i kt e8 l x6 e OJ r ho hT hn
     obtain⟨⟨rfl,hq⟩,hK⟩:=h;obtain⟨w',μ',g1,g2,g3,g4⟩:=I0 (P:=P) ar hm hk hv ho hT hn hq;exact⟨_,w',μ',hK,g1,g2,g3,g4⟩
   · exact h.elim
 · obtain⟨us,w',g1,g2,g3,g4⟩:=IZ (P:=P) ar hm hk hv h
   exact⟨us,w',μ,g1,g2,g3,g4,λ_=>rfl⟩
theorem Gp{t:an}{n:AV}{vn:ah}(ar:az F μ σ w)(bH:μ nid=none)(hn:RV F μ w vn n)(h:Cz P t n nid K):eZ P F μ σ w nid K (Instr.makeChan t vn):=by
 unfold Cz at h;split at h
 · rename_i k n hT
   obtain⟨⟨h0,h1,h2⟩,hK⟩:=h;obtain⟨dir,e,i,hu,hi,hb⟩:=yP hT;have hn:=hn.bG;cases hn;obtain⟨m,rfl⟩:∃m:Nat,n=m:=⟨n.toNat,by omega⟩
   have hmul:(i.bytes:Int)*m<=100000*1000000000:=by
    (have h3:(i.bytes:Int)<=100000:=by omega);have h4:(m:Int)<=1000000000:=h1;exact Int.mul_le_mul h3 h4 (by omega) (by decide)
   have cY:=Go.Conc.run_makeChan (w:=w) hu hi k m (by omega) (by omega);obtain⟨g1,g2⟩:=ar.push bH (.chan m #[] false 0 0 false) (.chan m []) (λw' hs hw=>⟨#[],0,0,hw,rfl,λi c hc=>by simp at hc⟩);refine⟨_,_,.chan (some w.heap.size),_,_,_,hK,cY,g2,g1,.ch _ _ (aN.jc _ _ _),λo ho=>if_neg ho⟩
 · exact h.elim
theorem az.out(ar:az F μ σ w)(bH:μ nid=none){o b i sz c:Nat}{kt:KT}{m:List (PV×MV)}{key:PV}{l:List PV}{es:Array dS}{clock:Nat}{cf:Nat->Nat}(ho:σ.get o= .cN kt sz m)(hb:μ o=some b)(hg:w.heap[b]? =some (.map es clock))(hs:es.size=m.length)(hB:mE es clock)
 (h0:∀x∈m,qd kt x.1=true) (h4:∀(i:Nat) k x,m[i]? =some (k,x)->∃e:dS,es[i]? =some e/\RP F w e.key k/\IA F μ w b sz (cf i) e.val x) (h5:∀(i j:Nat) k k' l l',m[i]? =some (k,.h l)->m[j]? =some (k',.h l')->cf i=cf j->i=j)
 (hi:m[i]? =some (key,.h l)) (hc:c=cf i) {e:dS} (he:es[i]? =some e) (D2:Fy F w c sz e.val l) (Xu:μ.oW c b):
 ∃μ',Step F μ w F μ' w/\az F μ' ([(nid,.row sz l),(o,.cN kt sz (m.set i (key,.v (.bo nid sz 0 l.length))))]++σ) w/\RV F μ' w e.val (.bo nid sz 0 l.length)/\ ∀q,q≠nid->μ' q=μ q:=by
 have Bn:σ.get o≠ .dead:=by rw[ho];simp
 have bV:nid≠o:=λe=>by rw[e,hb] at bH;cases bH
 let μ':aN:=⟨λq=>if q=nid then some c else μ q,λx y=>μ.oW x y/\x≠c⟩
 have cu:Step F μ w F μ' w:=by
  refine⟨rfl,rfl,rfl,aX _,λ_ _=>rfl,λ_ _ _=>rfl,λ_ _ h=>h,λ_ h=>h,λ_ h=>.inl h,λq k hq=>?_,λk hk=>?_⟩
  · show(if q=nid then some c else μ q)=some k
    rw[if_neg (λe=>by rw[e,bH] at hq;cases hq)];exact hq
  · rcases hk with⟨q,hq⟩|⟨x,hx,_⟩
    · have hq:(if q=nid then some c else μ q)=some k:=hq
      split at hq
      · injection hq with hq;subst hq;exact .inl (.inr ⟨b,Xu⟩)
      · exact .inl (.inl ⟨q,hq⟩)
    · exact .inl (.inr ⟨x,hx⟩)
 have num:∀q k,μ' q=some k->(q=nid/\k=c)\/(q≠nid/\μ q=some k):=λq k hq=>by
  have hq:(if q=nid then some c else μ q)=some k:=hq;by_cases e:q=nid
  · rw[if_pos e] at hq;injection hq with hq;exact .inl ⟨e,hq.symm⟩
  · rw[if_neg e] at hq;exact .inr ⟨e,hq⟩
 let x':bJ:= .cN kt sz (m.set i (key,.v (.bo nid sz 0 l.length)))
 have get:∀q,(q=nid/\ab.get ([(nid,.row sz l),(o,x')]++σ) q= .row sz l)\/(q=o/\ab.get ([(nid,.row sz l),(o,x')]++σ) q=x')\/(q≠nid/\q≠o/\ab.get ([(nid,.row sz l),(o,x')]++σ) q=σ.get q):=λq=>by
  simp only[jS,jn,ab.cI];by_cases e1:nid=q
  · exact .inl ⟨e1.symm,if_pos e1⟩
  · rw[if_neg e1]
    by_cases e2:o=q
    · exact .inr (.inl ⟨e2.symm,if_pos e2⟩)
    · exact .inr (.inr ⟨λk=>e1 k.symm,λk=>e2 k.symm,if_neg e2⟩)
 have live:∀q,q≠nid->ab.get ([(nid,.row sz l),(o,x')]++σ) q≠ .dead->σ.get q≠ .dead:=λq hq hd=>by
  rcases get q with⟨e,_⟩|⟨e,_⟩|⟨_,_,e⟩
  · exact absurd e hq
  · rw[e];exact Bn
  · rw[e] at hd;exact hd
 have hcF:=(ar.hd c b Xu).1;have sJ:=(ar.hd c b Xu).2
 have ie:RV F μ' w e.val (.bo nid sz 0 l.length):=by
  obtain⟨_,off,cap,cur,t,⟨e1,e2,e3,e4,e5⟩,g1,_⟩:=D2;rw[e1];refine .bo _ _ _ _ _ (.dJ nid sz (0*sz) off l.length cap c t cur.size (if_pos rfl) ?_ (by simp[cC,g1]) (by omega) e4 e5);rcases e2 with e2|e2
  · exact .inl e2
  · right;omega
 refine⟨μ',cu,⟨ar.fb,λk hk=>?_,λq hq=>?_,λq k hk=>?_,λq k hq hk=>?_,λp q k hp hq vp RY=>?_,λx y Fl=>⟨(ar.hd x y Fl.1).1,λq hq hk=>?_⟩,λx y z hy hz=>ar.hu x y z hy.1 hz.1⟩,ie,λq hq=>if_neg hq⟩
 · rcases cu.fV k hk with h|h
   · exact ar.mb k h
   · rcases hk with⟨q,hq⟩|⟨x,hx,_⟩
     · rcases num q k hq with⟨_,rfl⟩|⟨_,h⟩
       · exact ar.mb _ (.inr ⟨b,Xu⟩)
       · exact ar.mb k (.inl ⟨q,h⟩)
     · exact ar.mb k (.inr ⟨x,hx⟩)
 · by_cases e:q=nid
   · exact⟨c,by show(if q=nid then some c else μ q)=_;rw[if_pos e]⟩
   · obtain⟨k,hk⟩:=ar.has q (live q e hq)
     exact⟨k,by show(if q=nid then some c else μ q)=_;rw[if_neg e];exact hk⟩
 · rcases get q with⟨e1,e2⟩|⟨e1,e2⟩|⟨e1,e2,e3⟩
   · rw[e2]
     rcases num q k hk with⟨_,rfl⟩|⟨h,_⟩
     · obtain⟨bQ,off,cap,cur,t,_,g1,g2,g3⟩:=D2
       refine⟨bQ,cur,t,g1,g2,λj p hp=>?_⟩;unfold bc at hp;rw[aW] at hp;obtain⟨p',gj,rfl⟩:=cm.1 hp;exact .p (g3 j p' gj)
     · exact absurd e1 h
   · rw[e2]
     rcases num q k hk with⟨h,_⟩|⟨_,h⟩
     · exact absurd (h.symm.trans e1) bV
     · rw[e1,hb] at h;injection h with h;subst h
       refine⟨λx hx=>?_,es,clock,hg,by simpa using hs,hB,cf,λj a x hx=>?_,λj1 j2 k1 k2 l1 l2 Gm Gn=>?_⟩
       · rcases List.mem_or_eq_of_mem_set hx with hx|hx
         · exact h0 x hx
         · subst hx;exact h0 (key,MV.h l) (aO hi)
       · rw[List.getElem?_set] at hx
         split at hx
         · rename_i gx
           subst gx;have aC:i<m.length:=(aq.1 hi).1;(have hx:some (key,MV.v (.bo nid sz 0 l.length))=some (a,x):=by simpa[aC] using hx);injection hx with hx;injection hx with e1 e2;subst e1;subst e2;obtain⟨e',g1,g2,_⟩:=h4 i key _ hi
           rw[he] at g1;injection g1 with g1;subst g1
           exact⟨e,he,g2,ie⟩
         · rename_i gx
           obtain⟨e',g1,g2,g3⟩:=h4 j a x hx;refine⟨e',g1,g2,?_⟩
           cases x with
           |h l'=>exact⟨⟨g3.1,λe=>gx (h5 i j key a l l' hi hx (hc▸e.symm))⟩,g3.2⟩
           |v av=>exact RV.step g3 cu
       · by_cases a1:i=j1
         · subst a1
           have aC:i<m.length:=(aq.1 hi).1;rw[List.getElem?_set_self aC] at Gm;cases Gm
         · by_cases a2:i=j2
           · subst a2
             have aC:i<m.length:=(aq.1 hi).1;rw[List.getElem?_set_self aC] at Gn;cases Gn
           · rw[nv a1] at Gm
             rw[nv a2] at Gn;exact h5 j1 j2 k1 k2 l1 l2 Gm Gn
   · rw[e3]
     rcases num q k hk with⟨h,_⟩|⟨_,h⟩
     · exact absurd h e1
     · by_cases U4:σ.get q= .dead
       · rw[U4];trivial
       · refine(ar.obj q k h).step cu rfl λx hx=>⟨⟨hx,λe=>?_⟩,rfl⟩
         have:k=b:=ar.hu c k b (e▸hx) Xu;exact e2 (ar.inj q o b U4 Bn (this▸h) hb)
 · rcases num q k hk with⟨_,rfl⟩|⟨e,h⟩
   · exact hcF
   · exact ar.live q k (live q e hq) h
 · rcases num p k vp with⟨ep,ek⟩|⟨ep,gj⟩<;>rcases num q k RY with⟨eq,ek'⟩|⟨eq,hq'⟩
   · rw[ep,eq]
   · exact absurd (ek▸hq') (sJ q (live q eq hq))
   · exact absurd (ek'▸gj) (sJ p (live p ep hp))
   · exact ar.inj p q k (live p ep hp) (live q eq hq) gj hq'
 · rcases num q x hk with⟨_,e⟩|⟨e,h⟩
   · exact Fl.2 e
   · exact(ar.hd x y Fl.1).2 q (live q e hq) h
theorem Gq{t:an}{o sz:Nat}{k:AV}{ok:Bool}{kt:KT}{m:List (PV×MV)}{vx vk:ah}(ar:az F μ σ w)(bH:μ nid=none)(hx:RV F μ w vx (.mp o))(hk:RV F μ w vk k)(ho:σ.get o= .cN kt sz m)(h:Cr P t o k ok kt sz m nid K):
 eZ P F μ σ w nid K (Instr.lookup t vx vk ok):=by
 unfold Cr at h;split at h
 · rename_i x6 e key hT
   obtain⟨⟨rfl,jq⟩,h⟩:=h;obtain⟨kT,hu,hf⟩:=mw hT
   cases hx with
   |mp _ b hb=>
   have gk:=ar.obj o b hb;rw[ho] at gk;obtain⟨h0,es,clock,h1,h2,h3,c,h4,h5⟩:=gk;have Gb:=hk.bG
   have uA:=run_findKey (P:=P) hf Gb jq w m es.toList (by simpa using h2) h0 (λi a c d q1 q2=>by
    obtain⟨e',g1,g2,g3⟩:=h4 i a c q1;rw[gi] at q2
    rw[q2] at g1;injection g1 with g1;subst g1;exact g2)
   have o9:=run_checkKey (P:=P) hf Gb jq es.isEmpty w
   have cY:(Instr.lookup t (.map (some b)) vk false).run P w=((match cD m es.toList key 0 with|some (_,v)=>(pure (v,true):Sem (ah×Bool))|none=>do pure (<-zeroValue e,false)).run P w).andThen λx w'=>.ok x.1 w':=by
    simp only[Instr.lookup,bu,run_underlying hu,bD,ik h1,cg,o9,uA]
    cases cD m es.toList key 0 with
    |none=>simp only[bu,cg];cases(zeroValue e).run P w<;>rfl
    |some x=>obtain⟨i,v⟩:=x;simp
   cases nT:aT key 0 m with
   |none=>
    (have IU:cD m es.toList key 0=none:=by simp[cD,nT]);(have Mz:cK key m=none:=by simp[cK,nT]);rw[IU] at cY;obtain⟨z,v,g1,g2,g3⟩:=se (P:=P) (F:=F) (μ:=μ) (w:=w) (h.n Mz);exact⟨_,[],v,w,F,μ,g1,by rw[cY];simp[g3 w],Step.refl _ _ _,ar,g2,λ_ _=>rfl⟩
   |some x=>
    obtain⟨i,x⟩:=x;obtain⟨_,k',km,heq⟩:=fH nT;rw[Nat.sub_zero] at km;have hi:i<m.length:=(aq.1 km).1;(have DU:i<es.size:=by omega);(have IU:cD m es.toList key 0=some (i,es[i].val):=by simp[cD,nT,DU]);(have Mz:cK key m=some x:=by simp[cK,nT]);have A3:key=k':=sf jq (h0 _ (aO km)) heq;subst A3;obtain⟨en,g1,g2,g3⟩:=h4 i key x km
    have vq:en=es[i]:=by rw[dh DU] at g1;injection g1 with g1;exact g1.symm
    subst vq;rw[IU] at cY;have hK:=h.s x Mz
    cases x with
    |h l=>
     obtain⟨μ',q1,q2,q3,q4⟩:=ar.out bH ho hb h1 h2 h3 h0 h4 h5 km rfl g1 g3.2 g3.1;(have gn:dr key (.v (.bo nid sz 0 l.length)) m=m.set i (key,.v (.bo nid sz 0 l.length)):=by simp[dr,nT]);rw[<-gn] at q2;exact⟨_,_,es[i].val,w,F,μ',hK,by rw[cY];simp,q1,q2,q3,q4⟩
    |v av=>exact⟨_,[],es[i].val,w,F,μ,hK,by rw[cY];simp,Step.refl _ _ _,ar,g3,λ_ _=>rfl⟩
 · exact h.elim
theorem Bo{t:an}{kt:KT}{e:an}(ar:az F μ σ w)(hn:μ nid=none)(hT:ko P t=some (kt,e))(h:K (.mp nid) [(nid,.map kt [])]):eZ P F μ σ w nid K (Instr.makeMap t none):=by
 obtain⟨h1,h2⟩:=ar.push hn (.map #[] 0) (.map kt []) (λw' hs hw=>⟨by simp, #[],0,hw,rfl,⟨by simp,by simp⟩,by simp⟩);exact⟨_,_,.map (some w.heap.size),_,_,_,h,by simp[Instr.makeMap,newObj,Sem.run],h2,h1,.mp _ _ (aN.jc _ _ _),λo ho=>if_neg ho⟩
theorem uB{α:Type}{f:α->Nat}:∀{l:List α} {i:Nat} {x:α},(l.map f).Nodup->l[i]? =some x->l.filter (λy=>f y !=f x)=l.eraseIdx i
 |[],i,x,_,h=>by simp at h
 |a::r,0,x,hn,h=>by
  simp at h;subst h;simp only[bE,jY,aY,not_exists,not_and] at hn;simp only[lZ,bne_self_eq_false,mB,if_false,List.eraseIdx_cons_zero];rw[List.filter_eq_self];intro y hy;have:=hn.1 y hy;simpa using this
 |a::r,i+1,x,hn,h=>by
  simp at h;simp only[bE,jY,aY,not_exists,not_and] at hn;have pR:f a≠f x:=λe=>hn.1 x (aO h) e.symm;(have:(f a !=f x)=true:=by simpa using pR);simp only[lZ,this,if_true,List.eraseIdx_cons_succ];rw[uB hn.2 h]
theorem MC{es:Array dS}{clock:Nat}(h:mE es clock){seen:Array Nat}{i:Nat}{e:dS}(he:(leftOf es seen)[i]? =some e):(leftOf es (seen.push e.born)).toList=(leftOf es seen).toList.eraseIdx i:=by
 have h1:(leftOf es (seen.push e.born)).toList=(leftOf es seen).toList.filter (λy=>y.born !=e.born):=by
  unfold leftOf;simp only[Array.toList_filter,List.filter_filter];refine List.filter_congr λy _=>?_;rw[Bool.eq_iff_iff];simp only[Bool.not_eq_true',aQ,bne_iff_ne,<-Bool.not_eq_true,Array.contains_iff_mem,Array.mem_push,not_or];exact⟨λh=>⟨h.2,h.1⟩,λh=>⟨h.2,h.1⟩⟩
 rw[h1];refine uB (f:=λy:dS=>y.born) ?_ (by simpa using he);refine h.nodup.sublist (List.Sublist.map _ ?_);unfold leftOf;rw[Array.toList_filter];exact List.filter_sublist
theorem az.I1(h:az F μ σ w){o b:Nat}{x:bJ}{ob ob':Obj}(ho:σ.get o=x)(hx:x≠ .dead)(hb:μ o=some b)(hg:w.heap[b]? =some ob)(pQ:w.shape? b=none)
 (o':bJ) (gk:∀w',Step F μ w F μ w'->w'.heap[b]? =some ob'->RO F μ w' b o'):
 Step F μ w F μ { w with heap:=w.heap.setIfInBounds b ob' } /\az F μ ((o,o')::σ) { w with heap:=w.heap.setIfInBounds b ob' }:=by
 have iX:σ.get o≠ .dead:=by rw[ho];exact hx
 have RG:¬ F b:=h.live o b iX hb;have aC:=qS hg
 have ez:∀k,k≠b->(w.heap.setIfInBounds b ob')[k]? =w.heap[k]? :=λk hk=>by
  rw[Array.getElem?_setIfInBounds];simp[Ne.symm hk]
 have iO:(w.heap.setIfInBounds b ob')[b]? =some ob':=by
  rw[Array.getElem?_setIfInBounds];simp[aC]
 have cu:Step F μ w F μ { w with heap:=w.heap.setIfInBounds b ob' }:=by
  refine⟨rfl,rfl,rfl,by simp,λk hk=>ez k (λe=>RG (e▸hk)),λk _ hk=>ez k (λe=>hk (e▸ .inl ⟨o,hb⟩)),λk x hx=>?_,λ_ h=>h,λ_ h=>.inl h,λ_ _ h=>h,λ_ h=>.inl h⟩;by_cases hk:k=b
  · subst hk;rw[pQ] at hx;cases hx
  · simp only[cC,ez k hk] at hx ⊢;exact hx
 have nd:∀i,ab.get ((o,o')::σ) i≠ .dead->σ.get i≠ .dead:=λi hi=>by
  rcases fj (o:=o) (x:=o') (σ:=σ) i with⟨e,_⟩|⟨_,e⟩
  · rw[e];exact iX
  · rw[e] at hi;exact hi
 refine⟨cu,⟨h.fb.st cu λk hk=>by simpa using h.fb k hk,λk hk=>by simpa using h.mb k hk,λi hi=>h.has i (nd i hi),?_,λi bi hi=>h.live i bi (nd i hi),λi j bb hi hj=>h.inj i j bb (nd i hi) (nd j hj),λc m hc=>⟨(h.hd c m hc).1,λi hi=>(h.hd c m hc).2 i (nd i hi)⟩,h.hu⟩⟩;intro i bi qf;rcases fj (o:=o) (x:=o') (σ:=σ) i with⟨e,e2⟩|⟨e,e2⟩
 · rw[e2]
   rw[e,hb] at qf;injection qf with qf;subst qf
   exact gk _ cu iO
 · rw[e2]
   have gk:=h.obj i bi qf;by_cases hd:σ.get i= .dead
   · rw[hd];trivial
   · have:bi≠b:=λk=>e (h.inj i o _ hd iX (k▸qf) hb)
     exact gk.step cu (ez bi this) λc hc=>⟨hc,ez c λe=>(h.hd c bi hc).2 o iX (e▸hb)⟩
theorem D3{t:an}{x:AV}{v:ah}(ar:az F μ σ w)(hn:μ nid=none)(hx:RV F μ w v x)(h:IQ P t x nid K):eZ P F μ σ w nid K (Instr.range t v):=by
 unfold IQ at h;split at h
 · rename_i kt m
   obtain⟨ht,hK⟩:=h;obtain⟨⟨x6,e⟩,hT⟩:=Option.isSome_iff_exists.1 ht;obtain⟨kT,hu,_⟩:=mw hT;have hx:=hx.bG
   cases hx with
   |mp b _ _ es clock hF h1 h2 h3 h4 h5=>
   have TW:leftOf es #[]=es:=by
    unfold leftOf;rw[Array.filter_eq_self];intro a _;simp
   obtain⟨s1,s2⟩:=ar.push hn (.mapIter (some b) clock #[] clock) (.iter m none) (λw' hs hw=>by
    refine⟨b,es,clock, #[],hw,hs.sub b hF,(hs.fr b hF).trans h1,h2.2,⟨?_,λi k v e hi he=>?_⟩,λk v hc=>by cases hc⟩
    · show(leftOf es #[]).size=_;rw[TW];exact h2.1
    · have he:(leftOf es #[])[i]? =some e:=he
      rw[TW] at he
      exact⟨(h4 i k v e hi he).mono hs.sub hs.fr,(h5 i k v e hi he).mono hs.sub hs.fr⟩)
   refine⟨_,_,.pointer (some ⟨w.heap.size,0,none⟩),_,_,_,hK,?_,s2,s1,.ptr _ _ _ (aN.jc _ _ _),λo ho=>if_neg ho⟩;simp only[Instr.range,bu,run_underlying hu,bD,ik h1,cg];simp[newObj,Sem.run]
 · exact h.elim
theorem Gr{x:AV}{v:ah}{s:Bool}{ty:an}(ar:az F μ σ w)(hx:RV F μ w v x)(h:OI x s σ K):eZ P F μ σ w nid K (Instr.next v s ty):=by
 unfold OI at h;split at h
 · rename_i o
   split at h
   · rename_i rem cur ho
     cases hx with
     |ptr _ _ b hb=>
     have gk:=ar.obj o b hb;rw[ho] at gk;obtain⟨m,es,clock,seen,h1,h2,h3,h4,⟨h5,h6⟩,h7⟩:=gk;have h5:(leftOf es seen).size=rem.length:=h5
     have hold:∀x∈es.toList,x.born<clock:=λx hx=>by
      obtain⟨i,hi⟩:=eE hx;exact h4.1 i x (by simpa using hi)
     rcases run_next_at (P:=P) w ty b m clock clock seen es clock h1 h3 hold (aX _) with⟨g1,g2⟩|⟨e,g1,w1,g2,g3⟩
     · have:rem=[]:=qn.1 (by omega)
       exact⟨_,[],_,w,F,μ,h.z this,g2,Step.refl _ _ _,ar,.p (.bR _ _ rfl λi p hp=>by
        match i with
        |0=>simp at hp;subst hp;exact .bool _
        |i+1=>simp at hp),λ_ _=>rfl⟩
     · obtain⟨i,hi⟩:=eE g1
       (have DU:(leftOf es seen)[i]? =some e:=by simpa using hi);have yR:i<(leftOf es seen).size:=(Array.getElem?_eq_some_iff.1 DU).1;obtain⟨⟨k,u⟩,hku⟩:∃y,rem[i]? =some y:=⟨_,aV (by omega)⟩;obtain⟨hk,hu⟩:=h6 i k u e hku DU;have hK:=h.s i k u hku
       have Xv:Step F μ w F μ w1/\az F μ σ w1:=by
        rcases g2 with rfl|rfl
        · exact⟨Step.refl _ _ _,ar⟩
        · exact tj ar (w.drawn+1)
       have cj:w1.heap=w.heap:=by rcases g2 with rfl|rfl<;>rfl
       obtain⟨s1,s2⟩:=Xv.2.I1 (ob':= .mapIter (some m) clock (seen.push e.born) clock) ho (λh=>bJ.noConfusion h) hb (by rw[cj];exact h1) (by simp[cC,cj,h1]) (.iter (rem.eraseIdx i) (some (k,u))) (λw' hs hw=>by
        have hF':=hs.sub;have nj:w'.heap[m]? =some (.map es clock):=(hs.fr m h2).trans (by rw[cj];exact h3);have hf:∀b,F b->w'.heap[b]? =w.heap[b]? :=λb hb=>(hs.fr b hb).trans (by rw[cj]);have hL:(leftOf es (seen.push e.born)).toList=(leftOf es seen).toList.eraseIdx i:=MC h4 DU;refine⟨m,es,clock,seen.push e.born,hw,h2,nj,h4,⟨?_,λj a c d hj hd=>?_⟩,λa c hc=>⟨seen,e,rfl,?_,?_⟩⟩
        · show(leftOf es (seen.push e.born)).size=_
          rw[<-Array.length_toList,hL,List.length_eraseIdx_of_lt (by simpa using yR),List.length_eraseIdx_of_lt (by omega),Array.length_toList,h5]
        · have hd:(leftOf es (seen.push e.born))[j]? =some d:=hd
          rw[<-gi,hL] at hd;rw[List.getElem?_eraseIdx] at hd hj;split at hd
          · rename_i hji
            rw[if_pos hji] at hj;obtain⟨p,q⟩:=h6 j a c d hj ((gi (xs:=leftOf es seen)).symm.trans hd);exact⟨p.mono (λ_ h=>h) hf,q.mono (λ_ h=>h) hf⟩
          · rename_i hji
            rw[if_neg hji] at hj;obtain⟨p,q⟩:=h6 (j+1) a c d hj ((gi (xs:=leftOf es seen)).symm.trans hd);exact⟨p.mono (λ_ h=>h) hf,q.mono (λ_ h=>h) hf⟩
        · have:=g1
          unfold leftOf at this;rw[Array.toList_filter] at this;exact(dN.1 this).1
        · injection hc with hc;injection hc with e1 e2;subst e1;subst e2
          exact⟨hk.mono (λ_ h=>h) hf,hu.mono (λ_ h=>h) hf⟩)
       refine⟨_,_,_,_,F,μ,hK,g3,Xv.1.trans s1,s2,.p (.bR _ _ rfl λj p hp=>?_),λ_ _=>rfl⟩
       match j with
       |0=>simp at hp;subst hp;exact .bool _
       |1=>
        simp at hp;subst hp;refine hk.mono (λ_ h=>h) λb hb=>?_;exact(s1.fr b hb).trans (by rw[cj])
       |2=>
        simp at hp;subst hp;refine hu.mono (λ_ h=>h) λb hb=>?_;exact(s1.fr b hb).trans (by rw[cj])
       |j+3=>simp at hp
   · exact h.elim
 · exact h.elim
theorem Gs{o:aH}{ev:aL->AV}{a:aL->ah}(ar:az F μ σ w)(bH:μ nid=none)(aR:∀x,RV F μ w (a x) (ev x))(h:yW P o.op ev σ nid K):Ci P F μ σ w nid K (execOp a o):=by
 obtain⟨dst,op,ty,pos,after,guard⟩:=o;have gen:xW P op (λx=>uc (ev x)) σ nid K->Ci P F μ σ w nid K (execOp a { dst:=dst,op:=op,type:=ty,pos:=pos,after:=after,guard:=guard }):=λh=>OG (o:={ dst:=dst,op:=op,type:=ty,pos:=pos,after:=after,guard:=guard }) ar bH (λx=>(aR x).uc) h;cases op<;>simp only[yW] at h
 case makeMap t n=>
  cases n with
  |none=>
   simp only at h;split at h
   · rename_i kt e hT;exact(Bo ar bH hT h).next
   · exact h.elim
  |some _=>exact h.elim
 case makeChan t n=>
  have:=(Gp (P:=P) ar bH (aR n) h).next;simpa[execOp] using this
 case store t x y=>
  obtain⟨us,w',F',h1,h2,h3,h4⟩:=DZ (P:=P) ar (aR x).uc (aR y).uc h;refine⟨db,us,undef,w',F',μ,h1,.inr ⟨?_,rfl⟩,h3,h4,.p (.bR _ _ rfl (by simp)),λ_ _=>rfl⟩;simp[execOp,h2]
 case buildSlice t n parts=>
  split at h
  · rename_i hp
    (have hpe:parts= #[]:=by apply gz;simpa using hp);subst hpe;have:=(xE (P:=P) ar bH h).next;simpa[execOp] using this
  · exact gen (by simpa using h)
 case convert s d x=>
  split at h
  · rename_i o sz i len jM
    have:=(Gk (P:=P) (nid:=nid) ar (by have:=(aR x).uc;rwa[jM] at this) h).next;simpa[execOp] using this
  · exact gen (by simpa using h)
 case mapUpdate t m k v=>
  obtain⟨us,w',μ',h1,h2,h3,h4,h5⟩:=yV (P:=P) ar (aR m) (aR k) (aR v) h;refine⟨db,us,undef,w',F,μ',h1,.inr ⟨?_,rfl⟩,h3,h4,.p (.bR _ _ rfl (by simp)),λo _=>h5 o⟩;simp[execOp,h2]
 case insert t m k v=>
  obtain⟨us,w',μ',h1,h2,h3,h4,h5⟩:=yV (P:=P) ar (aR m) (aR k) (aR v) h;refine⟨db,us,undef,w',F,μ',h1,.inr ⟨?_,rfl⟩,h3,h4,.p (.bR _ _ rfl (by simp)),λo _=>h5 o⟩;simp[execOp,h2]
 case call c=>
  obtain⟨callee,args,ats⟩:=c;split at h
  · rename_i x y t xt hc er h1 h2
    simp only at hc er h1 h2;subst hc;(have dk:args= #[x,y]:=by apply gz;simpa using er);subst dk
    have OO:eZ P F μ σ w nid K (dM #[t,xt] ty #[a x,a y]):=by
     unfold mh at h;split at h
     · rename_i Iq
       exact Gi ar bH (aR x) (aR y) Iq h
     · have Xw:∀{va:ah} {b:AV},RV F μ w va b->mg P t xt b (uc (ev y)) σ nid K->eZ P F μ σ w nid K (dM #[t,xt] ty #[va,a y]):=λhb h=>by
        unfold mg at h;split at h
        · exact Bk ar bH hb (aR y).uc h
        · exact lQ ar bH hb (aR y).uc h
       split at h
       · rename_i o sz i len cap jH
         have jM:=aR x;rw[jH] at jM;rcases h.h with h|h
         · exact Xw jM.uc h
         · exact DX ar jM (aR y) h
       · exact Xw (aR x).uc h
    have:=OO.next;have e:execOp a { dst:=dst,op:= .call { callee:= .builtin .append,args:= #[x,y],argTypes:=ats },type:=ty,pos:=pos,after:=after,guard:=guard } =(do pure (.value (<-dM ats ty (#[x,y].map a)))):=rfl
    have e2:dM ats ty (#[x,y].map a)=dM #[t,xt] ty #[a x,a y]:=by
     simp only[dM,h1,h2,List.map_toArray,bE,dw];rfl
    rw[e,e2];exact this
  · rename_i x y t hc er h1
    simp only at hc er h1;subst hc;(have dk:args= #[x,y]:=by apply gz;simpa using er);subst dk
    have U5:eZ P F μ σ w nid K (jO #[t,0] ty #[a x,a y]):=by
     unfold Cy at h;split at h
     · rename_i o sz i len o2 Mx i2 n hx hy
       have jM:=(aR x).uc;have WA:=(aR y).uc;rw[hx] at jM;rw[hy] at WA;split at h
       · rename_i heq
         have:=Nat.eq_of_beq_eq_true heq;subst this;exact yS ar jM WA h
       · exact nS ar jM WA h
     · exact nS ar (aR x).uc (aR y).uc h
    have:=U5.next;have e:execOp a { dst:=dst,op:= .call { callee:= .builtin .copy,args:= #[x,y],argTypes:=ats },type:=ty,pos:=pos,after:=after,guard:=guard } =(do pure (.value (<-jO ats ty (#[x,y].map a)))):=rfl
    have e2:jO ats ty (#[x,y].map a)=jO #[t,0] ty #[a x,a y]:=by
     simp only[jO,h1,List.map_toArray,bE,dw];rfl
    rw[e,e2];exact this
  · rename_i x t hc er h1
    simp only at hc er h1;subst hc;(have dk:args= #[x]:=by apply gz;simpa using er);subst dk;have:=(D1 (nid:=nid) (ty:=ty) ar (aR x).uc h).next;have e:execOp a { dst:=dst,op:= .call { callee:= .builtin .clear,args:= #[x],argTypes:=ats },type:=ty,pos:=pos,after:=after,guard:=guard } =(do pure (.value (<-Builtin.clear_ ats ty (#[x].map a)))):=rfl
    have e2:Builtin.clear_ ats ty (#[x].map a)=Builtin.clear_ #[t] ty #[a x]:=by
     simp only[Builtin.clear_,h1,List.map_toArray,bE,dw];rfl
    rw[e,e2];exact this
  · exact h.elim
 all_goals exact gen h
end
structure dO(F:Nat->Prop)(μ:aN)(w:aj)(F':Nat->Prop)(μ':aN)(w':aj):Prop where
 os:w'.os=w.os
 tape:w'.tape=w.tape
 output:w'.output=w.output
 size:w.heap.size<=w'.heap.size
 fr:∀b,F b->w'.heap[b]? =w.heap[b]?
 old:∀b,b<w.heap.size-> ¬ μ.has b->w'.heap[b]? =w.heap[b]?
 shape:∀b x,w.shape? b=some x->w'.shape? b=some x
 sub:∀b,F b->F' b
 jG:∀b,F' b->F b\/μ.has b\/w.heap.size<=b
 fV:∀b,μ'.has b->μ.has b\/w.heap.size<=b
theorem Step.base{F F':Nat->Prop}{μ μ':aN}{w w':aj}(h:Step F μ w F' μ' w'):dO F μ w F' μ' w':=
 ⟨h.os,h.tape,h.output,h.size,h.fr,h.old,h.shape,h.sub,h.jG,h.fV⟩
theorem dO.refl(F:Nat->Prop)(μ:aN)(w:aj):dO F μ w F μ w:=(Step.refl F μ w).base
theorem dO.trans{F F1 F2:Nat->Prop}{μ Ij jL:aN}{w w1 w2:aj}(h:dO F μ w F1 Ij w1)(k:dO F1 Ij w1 F2 jL w2):dO F μ w F2 jL w2 where
 os:=k.os.trans h.os
 tape:=k.tape.trans h.tape
 output:=k.output.trans h.output
 size:=dW h.size k.size
 fr:=λb hb=>(k.fr b (h.sub b hb)).trans (h.fr b hb)
 old:=λb hb hn=>(k.old b (fl hb h.size) (λhm=>by rcases h.fV b hm with h1|h1;(exact hn h1);omega)).trans (h.old b hb hn)
 shape:=λb x hx=>k.shape b x (h.shape b x hx)
 sub:=λb hb=>k.sub b (h.sub b hb)
 jG:=λb hb=>by
  rcases k.jG b hb with h1|h1|h1
  · exact h.jG b h1
  · exact .inr (h.fV b h1)
  · exact .inr (.inr (dW h.size h1))
 fV:=λb hb=>by
  rcases k.fV b hb with h1|h1
  · exact h.fV b h1
  · exact .inr (dW h.size h1)
def fc(ro:Option Nat):Fence:={ fY with round:=ro }
theorem jt{ro:Option Nat}{n:Nat}{P:au}{f:bf}{args:Array ah}{w:aj}{R:Ending->aj->Prop}:CallsIn (fc ro) n P f args w R↔Calls P f args w R:=
 ⟨λh cs=>let⟨e,w',fr,r,s,x⟩:=h.2 cs (λ_ h=>by simp[fc,fY] at h);⟨e,w',fr,r,comesIn_wide.1 s,x⟩,
  λh=>⟨trivial,λcs _=>let⟨e,w',fr,r,s,x⟩:=h cs;⟨e,w',fr,r,comesIn_wide.2 s,x⟩⟩⟩
mutual
def lB:PV->Bool
 |.agg cs=>Gt cs
 |.bR cs=>Gt cs
 |.iface _ v=>lB v
 |.sl _ _ (_::_)=>false
 |.fn _ _ _=>false
 |.ro _=>false
 |.mp _ _=>false
 |_=>true
def Gt:List PV->Bool
 |[]=>true
 |p::r=>lB p&&Gt r
end
theorem vM:∀{l:List PV} {i:Nat} {p:PV},Gt l=true->l[i]? =some p->lB p=true
 |[],i,p,_,h=>by simp at h
 |q::r,i,p,hf,h=>by
  simp only[Gt,aQ] at hf
  cases i with
  |zero=>simp at h;subst h;exact hf.1
  |succ i=>simp at h;exact vM hf.2 h
theorem RP.flat{F F':Nat->Prop}{w w':aj}{v:ah}{p:PV}(h:RP F w v p):lB p=true->RP F' w' v p:=by
 induction h with
 |int k n=>exact λ_=>.int k n
 |bool b=>exact λ_=>.bool b
 |str s=>exact λ_=>.str s
 |yj=>exact λ_=>.yj
 |yl=>exact λ_=>.yl
 |un v h1 h2=>exact λ_=>.un v h1 h2
 |ro b off cs c h1 h2 _ ih=>intro h;simp[lB] at h
 |p9=>exact λ_=>.p9
 |iface t v q _ ih=>exact λh=>.iface t v q (ih (by simpa only[lB] using h))
 |agg cs l h1 _ ih=>exact λh=>.agg cs l h1 λi p hp=>ih i p hp (vM (by simpa only[lB] using h) hp)
 |bR cs l h1 _ ih=>exact λh=>.bR cs l h1 λi p hp=>ih i p hp (vM (by simpa only[lB] using h) hp)
 |fn f as bs ls ms h1 h2 _ _ i1 i2=>intro h;simp[lB] at h
 |mp b ks m es clock h0 h1 h2 h3 _ _ _ _=>intro h;simp[lB] at h
 |r5 a cap sz clip h1 h2 h3=>exact λ_=>.r5 a cap sz clip h1 h2 h3
 |sl b off len cap sz clip l c hb h1 h2 h3 h4 h5 h6 _ ih=>
  cases l with
  |nil=>intro _;simp at h1;subst h1;exact .r5 _ cap _ _ h3 (by simp) h4
  |cons _ _=>intro h;simp[lB] at h
def aa(P:au)(f:bf)(as:List PV)(r:PV):Prop:=
 ∀(F:Nat->Prop) (w:aj) (vs:Array ah),KJ F w->vs.size=as.length->(∀(i:Nat) p,as[i]? =some p->RP F w (vs[i]?.getD undef) p)->
  Calls P f vs w λe w'=>∃v F',e= .returned v/\dO F aN.no w F' aN.no w'/\(∀b,F' b->b<w'.heap.size)/\RP F' w' v r
def cB(P:au)(f:bf)(as:List PV)(R:PV->Prop):Prop:=
 ∀(F:Nat->Prop) (w:aj) (vs:Array ah),KJ F w->vs.size=as.length->(∀(i:Nat) p,as[i]? =some p->RP F w (vs[i]?.getD undef) p)->
  Calls P f vs w λe w'=>∃v F' r,R r/\e= .returned v/\dO F aN.no w F' aN.no w'/\(∀b,F' b->b<w'.heap.size)/\RP F' w' v r
theorem aa.n{P:au}{f:bf}{as:List PV}{r:PV}(h:aa P f as r):cB P f as (· =r):=λF w vs h1 h2 h3=>
 fI (h F w vs h1 h2 h3) λe w' ⟨v,F',h4,h5,h6,h7⟩=>⟨v,F',r,rfl,h4,h5,h6,h7⟩
def enters(P:au)(f:bf):Bool:=
 match P.funcs[f]? with
 |some fn=>fn.body.isSome&& !(fn.name== "runtime.NumGoroutine")
 |none=>false
def dP:AV->List AV->Option (bf×List AV)
 |.p (.fn (.func f) l m),args=>some (f,l.map AV.p++args++m.map AV.p)
 |.fn (.func f) l m,args=>some (f,l++args++m)
 |_,_=>none
def CC(P:au)(c:Option (bf×List AV))(σ:ab)(K:AV->ab->Prop):Prop:=
 ∃(f:bf) (as:List AV) (Z:List Nat) (ps:List PV) (r:PV),c=some (f,as)/\enters P f=true/\(∀o∈Z,σ.get o≠ .dead)/\kP σ (· ∈Z) as ps/\aa P f ps r/\K (.p r) (Z.map λo=>(o,if lB r then σ.get o else .dead))
structure Gu(P:au)(c:Option (bf×List AV))(σ:ab)(K:AV->ab->Prop):Prop where
 h:∃(f:bf) (as:List AV) (Z:List Nat) (ps:List PV) (R:PV->Prop),c=some (f,as)/\enters P f=true/\(∀o∈Z,σ.get o≠ .dead)/\kP σ (· ∈Z) as ps/\cB P f ps R/\ ∀r,R r->K (.p r) (Z.map λo=>(o,if lB r then σ.get o else .dead))
theorem CC.n{P:au}{c:Option (bf×List AV)}{σ:ab}{K:AV->ab->Prop}(h:CC P c σ K):Gu P c σ K:=by
 obtain⟨f,as,Z,ps,r,h1,h2,h3,h4,h5,h6⟩:=h;exact⟨f,as,Z,ps,(· =r),h1,h2,h3,h4,h5.n,λq e=>by subst e;exact h6⟩
def keys(us:ab):List Nat:=us.map Prod.fst
theorem get_append(us σ:ab)(q:Nat):ab.get (us++σ) q=if q∈keys us then ab.get us q else σ.get q:=by
 induction us with
 |nil=>rfl
 |cons x r ih=>
  obtain⟨o,y⟩:=x;have hk:keys ((o,y)::r)=o::keys r:=rfl;rw[hk];simp only[jS,ab.get,ih,cy];by_cases e:o=q
  · simp[e]
  · have e':¬ q=o:=λh=>e h.symm
    simp only[e,e',if_false,false_or]
theorem CD{l:List Nat}(h:l.Nodup){i j:Nat}(hi:i<l.length)(hj:j<l.length)(e:l[i]=l[j]):i=j:=by
 rcases Nat.lt_trichotomy i j with h1|h1|h1
 · exact absurd e (List.pairwise_iff_getElem.1 h i j hi hj h1)
 · exact h1
 · exact absurd e.symm (List.pairwise_iff_getElem.1 h j i hj hi h1)
def aM(P:au)(f:bf)(m:Nat)(jI:ab)(as:List AV)(r:AV)(dX:ab):Prop:=
 ∀(F:Nat->Prop) (μ:aN) (w:aj) (vs:Array ah),az F μ jI w->(∀o,m<=o->μ o=none)->vs.size=as.length->(∀(i:Nat) p,as[i]? =some p->RV F μ w (vs[i]?.getD undef) p)->
  Calls P f vs w λe w'=>∃v F' μ',e= .returned v/\dO F μ w F' μ' w'/\az F' μ' dX w'/\RV F' μ' w' v r/\(∀o,o<m-> ∀b,μ o=some b->μ' o=some b)/\ ∀o,m+64<=o->μ' o=none
def rn(ρ:List Nat)(nid:Nat)(i:Nat):Nat:=if i<ρ.length then ρ.getD i 0 else nid+min (i-ρ.length) 63
def yX(P:au)(c:Option (bf×List AV))(σ:ab)(nid:Nat)(K:AV->ab->Prop):Prop:=
 ∃(f:bf) (as qg:List AV) (jI:ab) (r:AV) (dX:ab) (ρ:List Nat),c=some (f,as)/\enters P f=true/\as=tn (rn ρ nid) qg/\ρ.Nodup/\(∀o∈ρ,σ.get o≠ .dead)/\
  (∀i,i<ρ.length->σ.get (ρ.getD i 0)=gD (rn ρ nid) (jI.get i))/\(∀i,ρ.length<=i->jI.get i= .dead)/\(∀i,i<ρ.length->i∈keys dX)/\(∀k∈keys dX,k<ρ.length+64)/\
  aM P f ρ.length jI qg r dX/\K (gY (rn ρ nid) r) (dX.map λx=>(rn ρ nid x.1,gD (rn ρ nid) x.2))
def dC(P:au)(f:bf)(m:Nat)(jI:ab)(as:List AV)(R:AV->ab->Prop):Prop:=
 ∀(F:Nat->Prop) (μ:aN) (w:aj) (vs:Array ah),az F μ jI w->(∀o,m<=o->μ o=none)->vs.size=as.length->(∀(i:Nat) p,as[i]? =some p->RV F μ w (vs[i]?.getD undef) p)->
  Calls P f vs w λe w'=>∃v F' μ' r dX,R r dX/\e= .returned v/\dO F μ w F' μ' w'/\az F' μ' dX w'/\RV F' μ' w' v r/\(∀o,o<m-> ∀b,μ o=some b->μ' o=some b)/\ ∀o,m+64<=o->μ' o=none
structure KW(P:au)(c:Option (bf×List AV))(σ:ab)(nid:Nat)(K:AV->ab->Prop):Prop where
 h:∃(f:bf) (as qg:List AV) (jI:ab) (R:AV->ab->Prop) (ρ:List Nat),c=some (f,as)/\enters P f=true/\as=tn (rn ρ nid) qg/\ρ.Nodup/\(∀o∈ρ,σ.get o≠ .dead)/\
  (∀i,i<ρ.length->σ.get (ρ.getD i 0)=gD (rn ρ nid) (jI.get i))/\(∀i,ρ.length<=i->jI.get i= .dead)/\dC P f ρ.length jI qg R/\
  ∀r dX,R r dX->(∀i,i<ρ.length->i∈keys dX)/\(∀k∈keys dX,k<ρ.length+64)/\K (gY (rn ρ nid) r) (dX.map λx=>(rn ρ nid x.1,gD (rn ρ nid) x.2))
theorem yX.m{P:au}{c:Option (bf×List AV)}{σ:ab}{nid:Nat}{K:AV->ab->Prop}(h:yX P c σ nid K):KW P c σ nid K:=by
 obtain⟨f,as,qg,jI,r,dX,ρ,hc,gp,has,iX,gU,cj,uC,vN,r7,jZ,hK⟩:=h
 exact⟨f,as,qg,jI,λr' σ'=>r'=r/\σ'=dX,ρ,hc,gp,has,iX,gU,cj,uC,λF μ w vs h1 h2 h3 h4=>fI (jZ F μ w vs h1 h2 h3 h4) λe w' ⟨v,F',μ',k⟩=>⟨v,F',μ',r,dX,⟨rfl,rfl⟩,k⟩,
  λr' σ' e=>by obtain⟨rfl,rfl⟩:=e;exact⟨vN,r7,hK⟩⟩
def U6(P:au)(f:bf):Prop:=∃(fn:Func) (tS tR e:an) (s:Nat) (g:Bool),P.funcs[f]? =some fn/\(fn.name== "runtime.NumGoroutine")=false/\fn.body.isNone=true/\Extern.findNext fn=none/\
 Extern.find fn=some (Extern.SlicesOverlaps.overlaps #[tS,tS] #[tR])/\P.underlying tS=some (.slice e)/\tT P e=some (s,g)
def OP(P:au)(c:Option (bf×List AV))(σ:ab)(K:AV->ab->Prop):Prop:=
 ∃(f:bf) (a1 a2:AV) (o1 s1 i1 n1 o2 s2 i2 n2:Nat) (l1 l2:List PV),c=some (f,[a1,a2])/\U6 P f/\uc a1= .bo o1 s1 i1 n1/\uc a2= .bo o2 s2 i2 n2/\o1≠o2/\σ.get o1= .row s1 l1/\σ.get o2= .row s2 l2/\0<s2/\0<l2.length/\K (.p (.bool false)) [(o1,.row s1 l1),(o2,.row s2 l2)]
def cw:AV->List Nat
 |.ptr o _=>[o]
 |.dJ o _ _ _=>[o]
 |.bo o _ _ _=>[o]
 |.jb o _ _ _ _=>[o]
 |.cr o _ _ _=>[o]
 |.mp o=>[o]
 |.ch o=>[o]
 |_=>[]
def Xx(P:au)(c:AV×List AV)(σ:ab)(nid:Nat)(K:AV->ab->Prop):Prop:=
 ∃(r:AV) (us:ab),yX P (dP c.1 c.2) σ nid (λv eu=>v=r/\eu=us)/\(∀i,ab.get (us++σ) i=σ.get i)/\(∀q∈keys us,q∈c.2.flatMap cw)/\K r []
structure oD(P:au)(c:AV×List AV)(σ:ab)(nid:Nat)(K:AV->ab->Prop):Prop where
 h:CC P (dP c.1 c.2) σ K\/yX P (dP c.1 c.2) σ nid K\/OP P (dP c.1 c.2) σ K\/Xx P c σ nid K
inductive Kind where | quiet | write | call
def kindOf(P:au):Op->Kind
 |.alloc _=>.write
 |.box _ _=>.write
 |.store _ _ _=>.write
 |.buildSlice _ _ _=>.write
 |.makeSlice _ _ _=>.write
 |.makeMap _ _=>.write
 |.makeChan _ _=>.write
 |.mapUpdate _ _ _ _=>.write
 |.insert _ _ _ _=>.write
 |.convert s d _=>(match tC P s,tC P d with|.str,.bytes=>.write|.bytes,.bytes=>.write|_,_=>.quiet)
 |.call c=>(match c.callee with
  |.builtin .append=>.write
  |.builtin .copy=>.write
  |.builtin .clear=>.write
  |.builtin _=>.quiet
  |_=>.call)
 |_=>.quiet
def MD(P:au)(op:Op)(ev:aL->AV)(σ:ab)(nid:Nat)(K:AV->ab->Prop):Prop:=
 match kindOf P op with
 |.quiet=>(match Cs op ev σ with
  |some (t,o,k,ok,kt,sz,m)=>Cr P t o k ok kt sz m nid K
  |none=>yQ P op ev σ (λv=>K v []))
 |.write=>yW P op ev σ nid K
 |.call=>(match op with|.call c=>(match c.callee with|.value x=>oD P (ev x,c.args.toList.map ev) σ nid K|_=>False)|_=>False)
def Xy:Op->Option (an×aL×Bool)
 |.binOp .eql t x (.const (.slice none 0 0)) _=>some (t,x,false)
 |.binOp .neq t x (.const (.slice none 0 0)) _=>some (t,x,true)
 |_=>none
def KY(P:au)(t:an)(neg:Bool)(x:AV)(K:AV->Prop):Prop:=
 match x with
 |.p (.sl _ _ l)=>(tE P t).isSome=true/\ ∀b:Bool,(l≠[]->b=neg)->K (.p (.bool b))
 |.dJ _ _ _ _=>(tE P t).isSome=true/\K (.p (.bool neg))
 |.bo _ _ _ _=>(tE P t).isSome=true/\K (.p (.bool neg))
 |_=>False
def Xz:Op->Option (an×aL×Bool)
 |.binOp .eql t x (.const .nilIface) _=>some (t,x,false)
 |.binOp .neq t x (.const .nilIface) _=>some (t,x,true)
 |_=>none
def ZM(P:au)(t:an)(neg:Bool)(x:AV)(K:AV->Prop):Prop:=
 match x with
 |.p (.iface _ _)=>RZ P t=true/\K (.p (.bool neg))
 |.p .p9=>RZ P t=true/\K (.p (.bool !neg))
 |_=>False
where RZ (P:au) (t:an):Bool:=match P.underlying t with|some (.interface _)=>true|_=>false
def R0(P:au)(op:Op)(ev:aL->AV)(σ:ab)(nid:Nat)(K:AV->ab->Prop):Prop:=
 match Xy op with
 |some (t,x,neg)=>KY P t neg (ev x) λv=>K v []
 |none=>(match Xz op with
  |some (t,x,neg)=>ZM P t neg (ev x) λv=>K v []
  |none=>MD P op ev σ nid K)
def TX(x y:AV)(K:AV->Prop):Prop:=
 match x,y with
 |.p (.int k n),.p (.int k' m)=>k=k'/\K (.p (.int k (k.wrap (n+m))))
 |_,_=>False
def XA(P:au)(op:Op)(ev:aL->AV)(σ:ab)(nid:Nat)(K:AV->ab->Prop):Prop:=
 match op with
 |.range t x=>IQ P t (ev x) nid K
 |.next x s=>OI (ev x) s σ K
 |.entry x=>IS (ev x) σ λv=>K v []
 |.binOp .add t x y z=>vI (R0 P (.binOp .add t x y z) ev σ nid K) (TX (ev x) (ev y) λv=>K v [])
 |op=>R0 P op ev σ nid K
section
variable{P:au}{F:Nat->Prop}{μ:aN}{σ:ab}{w:aj}{nid:Nat}{K:AV->ab->Prop}
theorem OQ(Z:List Nat)(i:Nat):ab.get ((Z.map λo=>(o,σ.get o))++σ) i=σ.get i:=by
 induction Z with
 |nil=>rfl
 |cons o r ih=>
  simp only[bE,jS,ab.get];split
  · rename_i e;rw[e]
  · exact ih
theorem Gv(Z:List Nat)(i:Nat)(h:ab.get ((Z.map λo=>(o,bJ.dead))++σ) i≠ .dead):i∉Z/\ab.get ((Z.map λo=>(o,bJ.dead))++σ) i=σ.get i:=by
 induction Z with
 |nil=>exact⟨by simp,rfl⟩
 |cons o r ih=>
  simp only[bE,jS,ab.get] at h ⊢;split at h
  · exact absurd rfl h
  · rename_i e
    obtain⟨h1,h2⟩:=ih h;rw[if_neg e];exact⟨by simp;exact⟨λe'=>e e'.symm,h1⟩,h2⟩
theorem j5{f:bf}(h:enters P f=true)(args:Array ah)(w:aj):(callFunc f args).run P w= .ok (.enter f args) w:=by
 unfold enters at h;split at h
 · rename_i fn hf
   simp only[aQ,Bool.not_eq_true'] at h;obtain⟨h1,h2⟩:=h
   have h3:fn.body.isNone=false:=by cases hb:fn.body with|none=>rw[hb] at h1;cases h1|some _=>rfl
   (have h4:fn.name≠ "runtime.NumGoroutine" :=by simpa using h2);(have h5:fn.body≠none:=by intro e;rw[e] at h3;cases h3);simp[callFunc,hf,h4,h5]
 · cases h
theorem cM{ro:Option Nat}(o:aH)(a:Act)(w:aj):∀f,o.about P w a.eval=some f->(fc ro).fn f:=λ_ _=>trivial
theorem OR{ro:Option Nat}{n:Nat}{o:aH}{a:Act}{Kq:AV->Prop}{next:Act->aj->Prop}{Q:Exit->Act->aj->Prop}(hd:∀c,o.op≠ .defer c)
 (h:TK P F μ w Kq (execOp a.eval o)) (hk:∀av v,Kq av->RV F μ w v av->next (a.put o.dst v) w):o.wpIn (fc ro) n P a w next Q:=by
 obtain⟨av,v,h1,h2,h3⟩:=h;refine⟨cM o a w,?_⟩;rw[jX _ _ _ hd,h3 w (λb hb=>rfl)];exact hk av v h1 h2
def OS(P:au)(F:Nat->Prop)(μ:aN)(σ:ab)(w:aj)(nid:Nat)(K:AV->ab->Prop)(f:bf)(as:List AV):Prop:=
 ∀(vs:Array ah),vs.size=as.length->(∀(i:Nat) p,as[i]? =some p->RV F μ w (vs[i]?.getD undef) p)->Calls P f vs w λe w'=>∃av us v F' μ',e= .returned v/\K av us/\Step F μ w F' μ' w'/\az F' μ' (us++σ) w'/\RV F' μ' w' v av/\
  ∀o,o<nid\/nid+64<=o->μ' o=μ o
theorem wL{c:Option (bf×List AV)}(ar:az F μ σ w)(h:Gu P c σ K):∃f as,c=some (f,as)/\enters P f=true/\OS P F μ σ w nid K f as:=by
 obtain⟨f,as,Z,ps,R,hc,gp,hZ,Q6,jZ,hK⟩:=h.h;refine⟨f,as,hc,gp,λvs iR ie=>?_⟩;obtain⟨hl,hg⟩:=Q6.get
 have Q7:∀b,(F b\/ ∃o,o∈Z/\σ.get o≠ .dead/\μ o=some b)->b<w.heap.size:=λb hb=>by
  rcases hb with hb|⟨o,_,_,hb⟩
  · exact ar.fb b hb
  · exact ar.mb b (.inl ⟨o,hb⟩)
 have sJ:=jZ _ w vs (ar.fb.step (λ_=>.inl) (λ_ _=>rfl) Q7) (by rw[iR,hl]) (λi p hp=>by
  obtain⟨av,h1,h2⟩:=hg i p hp
  exact h2 F μ w _ (λo b _ _ hm=>ar.obj o b hm) (ie i av h1))
 refine fI sJ λe w' he=>?_;obtain⟨v,F',r,hRr,rfl,hb,hfb,hr⟩:=he;have hK:=hK r hRr;have hold:∀b,b<w.heap.size->w'.heap[b]? =w.heap[b]? :=λb pT=>hb.old b pT aN.lN
 have OT:∀b,F' b->(F b\/ ∃o,o∈Z/\σ.get o≠ .dead/\μ o=some b)\/w.heap.size<=b:=λb pT=>by
  rcases hb.jG b pT with h|h|h
  · exact .inl h
  · exact(aN.lN h).elim
  · exact .inr h
 cases N8:lB r with
 |true=>
  simp only[N8,if_true] at hK;have cu:Step F μ w F μ w':=⟨hb.os,hb.tape,hb.output,hb.size,λb h=>hold b (ar.fb b h),λb h _=>hold b h,hb.shape,λ_ h=>h,λ_ h=>.inl h,λ_ _ h=>h,λ_ h=>.inl h⟩;refine⟨.p r,_,v,F,μ,rfl,hK,cu,?_,(.p (hr.flat N8)),(λ_ _=>rfl)⟩;refine(ar.Fz cu hold (λb h=>.inl h)).congr λi=>?_;exact OQ Z i
 |false=>
  simp only[N8,mB,if_false] at hK
  have cu:Step F μ w F' μ w':=⟨hb.os,hb.tape,hb.output,hb.size,λb h=>hold b (ar.fb b h),λb h _=>hold b h,hb.shape,λb h=>hb.sub b (.inl h),
   λb h=>by
    rcases OT b h with(h|⟨o,_,_,h⟩)|h
    · exact .inl h
    · exact .inr (.inl (.inl ⟨o,h⟩))
    · exact .inr (.inr h),λ_ _ h=>h,λ_ h=>.inl h⟩
  refine⟨.p r,_,v,F',μ,rfl,hK,cu,?_,.p hr,(λ_ _=>rfl)⟩;have du:∀i,ab.get ((Z.map λo=>(o,bJ.dead))++σ) i≠ .dead->i∉Z/\ab.get ((Z.map λo=>(o,bJ.dead))++σ) i=σ.get i:=λi hi=>Gv Z i hi;refine⟨ar.fb.st cu hfb,λb hm=>fl (ar.mb b hm) hb.size,λo ho=>?_,λo b hm=>?_,λo b ho hm hf=>?_,λi j b hi hj KU KV=>?_,λc m hc=>⟨λhf=>?_,λo ho=>(ar.hd c m hc).2 o (by rw[(du o ho).2] at ho;exact ho)⟩,ar.hu⟩
  · obtain⟨h1,h2⟩:=du o ho
    rw[h2] at ho;exact ar.has o ho
  · rcases mQ (ab.get ((Z.map λo=>(o,bJ.dead))++σ) o= .dead) with hd|hd
    · rw[hd];trivial
    · obtain⟨h1,h2⟩:=du o hd
      rw[h2];exact(ar.obj o b hm).step cu (hold b (ar.mb b (.inl ⟨o,hm⟩))) λc hc=>⟨hc,hold c (ar.mb c (.inr ⟨b,hc⟩))⟩
  · obtain⟨h1,h2⟩:=du o ho
    rw[h2] at ho;rcases OT b hf with(h|⟨o',h3,h4,h5⟩)|h
    · exact ar.live o b ho hm h
    · have:=ar.inj o o' b ho h4 hm h5
      subst this;exact h1 h3
    · have:=ar.mb b (.inl ⟨o,hm⟩);omega
  · rw[(du i hi).2] at hi
    rw[(du j hj).2] at hj;exact ar.inj i j b hi hj KU KV
  · rcases OT c hf with(h|⟨o',_,h4,h5⟩)|h
    · exact(ar.hd c m hc).1 h
    · exact(ar.hd c m hc).2 o' h4 h5
    · have:=ar.mb c (.inr ⟨m,hc⟩);omega
theorem KZ{f:Nat->Nat}:∀(l:ab) (i:Nat),(∀k∈keys l,f k=f i->k=i)->ab.get (l.map λx=>(f x.1,gD f x.2)) (f i)=gD f (l.get i)
 |[],_,_=>rfl
 |(j,x)::r,i,h=>by
  simp only[bE,ab.get];by_cases e:j=i
  · subst e;simp
  · have:f j≠f i:=λk=>e (h j (by simp[keys]) k)
    rw[if_neg this,if_neg e];exact KZ r i λk hk=>h k (by simp only[keys,bE,cy] at hk ⊢;exact .inr hk)
theorem Gw{f:Nat->Nat}(l:ab):keys (l.map λx=>(f x.1,gD f x.2))=(keys l).map f:=by
 simp only[keys,il];rfl
theorem Gx{c:Option (bf×List AV)}(ar:az F μ σ w)(h:CC P c σ K):∃f as,c=some (f,as)/\enters P f=true/\OS P F μ σ w nid K f as:=wL ar h.n
theorem wM{c:Option (bf×List AV)}(ar:az F μ σ w)(bH:∀o,nid<=o->o<nid+64->μ o=none)(h:KW P c σ nid K):∃f as,c=some (f,as)/\enters P f=true/\OS P F μ σ w nid K f as:=by
 obtain⟨f,as,qg,jI,RR,ρ,hc,gp,has,iX,gU,cj,uC,jZ,hKK⟩:=h.h;refine⟨f,as,hc,gp,λvs iR ie=>?_⟩
 let g:=rn ρ nid
 let m:=ρ.length
 have Gy:∀i,i<m->g i=ρ.getD i 0:=λi hi=>if_pos hi
 have ZN:∀i,m<=i->i<m+64->g i=nid+(i-m):=λi h1 h2=>by
  show(if i<ρ.length then _ else _)=_;rw[if_neg (by omega)];congr 1;omega
 have D4:∀i,m<=i->nid<=g i/\g i<nid+64:=λi h1=>by
  have:g i=nid+min (i-ρ.length) 63:=if_neg (by omega);rw[this];omega
 have mem:∀i,i<m->ρ.getD i 0∈ρ:=λi hi=>by rw[im,aV hi];exact jR hi
 have WC:∀i,i<m-> ¬(nid<=ρ.getD i 0/\ρ.getD i 0<nid+64):=λi hi hw=>by
  obtain⟨b,hb⟩:=ar.has _ (gU _ (mem i hi));rw[bH _ hw.1 hw.2] at hb;cases hb
 have OU:∀i j,i<m+64->j<m+64->g i=g j->i=j:=λi j hi hj e=>by
  rcases dK i m with h1|h1<;>rcases dK j m with h2|h2
  · rw[Gy i h1,Gy j h2,im,im,aV h1,aV h2] at e
    exact CD iX h1 h2 e
  · have:=D4 j h2;rw[<-e,Gy i h1] at this;exact absurd this (WC i h1)
  · have:=D4 i h1;rw[e,Gy j h2] at this;exact absurd this (WC j h2)
  · rw[ZN i h1 hi,ZN j h2 hj] at e;omega
 let Gz:aN:=⟨λi=>if i<m then μ (ρ.getD i 0) else none,λc b=>μ.oW c b/\ ∃i,i<m/\μ (ρ.getD i 0)=some b⟩
 have Ch:∀o b,μ (g o)=some b->Gz o=some b:=λo b hb=>by
  rcases dK o m with h1|h1
  · rw[Gy o h1] at hb;show(if o<m then _ else _)=_;rw[if_pos h1];exact hb
  · have:=D4 o h1;rw[bH _ this.1 this.2] at hb;cases hb
 have jg:∀{o b},Gz o=some b->o<m/\μ (ρ.getD o 0)=some b:=λ{o b} hb=>by
  by_cases h1:o<m
  · exact⟨h1,by have:(if o<m then μ (ρ.getD o 0) else none)=some b:=hb;rwa[if_pos h1] at this⟩
  · have:(if o<m then μ (ρ.getD o 0) else none)=some b:=hb;rw[if_neg h1] at this;cases this
 have yY:∀{o},jI.get o≠ .dead->o<m:=λ{o} ho=>by
  rcases dK o m with h1|h1
  · exact h1
  · exact absurd (uC o h1) ho
 have nR:az F Gz jI w:=by
  refine⟨ar.fb,λb hb=>hb.elim (λ⟨o,ho⟩=>ar.mb b (.inl ⟨_,(jg ho).2⟩)) λ⟨x,hx⟩=>ar.mb b (.inr ⟨x,hx.1⟩),λo ho=>?_,λo b hb=>?_,λo b ho hb=>?_,λi j b hi hj KU KV=>?_,
   λc x hc=>⟨(ar.hd c x hc.1).1,λo ho hm=>(ar.hd c x hc.1).2 _ (gU _ (mem o (yY ho))) (jg hm).2⟩,λc x y hx hy=>ar.hu c x y hx.1 hy.1⟩
  · obtain⟨b,hb⟩:=ar.has _ (gU _ (mem o (yY ho)))
    exact⟨b,by show(if o<m then _ else _)=_;rw[if_pos (yY ho)];exact hb⟩
  · obtain⟨h1,h2⟩:=jg hb
    have:=ar.obj _ b h2;rw[cj o h1] at this;exact this.tp Ch λc hc=>⟨hc,o,h1,h2⟩
  · exact ar.live _ b (gU _ (mem o (yY ho))) (jg hb).2
  · have:=ar.inj _ _ b (gU _ (mem i (yY hi))) (gU _ (mem j (yY hj))) (jg KU).2 (jg KV).2
    exact OU i j (by have:=yY hi;omega) (by have:=yY hj;omega) (by rw[Gy i (yY hi),Gy j (yY hj)];exact this)
 refine fI (jZ F Gz w vs nR (λo ho=>if_neg (by show ¬ o<ρ.length;omega)) (by rw[iR,has,fX];simp) λi p hp=>?_) λe w' he=>?_
 · exact(ie i (gY g p) (by rw[has,fX];simp[hp];rfl)).tp Ch rfl
 · obtain⟨v,F',μ',r,dX,hRR,rfl,hb,vP,hr,TY,hbnd⟩:=he
   obtain⟨vN,r7,hK⟩:=hKK r dX hRR
   let jL:aN:=⟨λo=>if nid<=o/\o<nid+64 then μ' (m+(o-nid)) else μ o,λc b=>μ'.oW c b\/(μ.oW c b/\ ¬ ∃i,i<m/\μ (ρ.getD i 0)=some b)⟩
   have ME:∀o b,μ' o=some b->jL (g o)=some b:=λo b hb=>by
    rcases dK o m with h1|h1
    · obtain⟨b0,CE⟩:=ar.has _ (gU _ (mem o h1))
      (have h2:Gz o=some b0:=by show(if o<m then _ else _)=_;rw[if_pos h1];exact CE);have h3:=TY o h1 b0 h2
      rw[hb] at h3;injection h3 with h3;subst h3
      show(if _ then _ else _)=_;rw[Gy o h1,if_neg (WC o h1)];exact CE
    · have h2:o<m+64:=by
       rcases dK o (m+64) with h|h
       · exact h
       · rw[hbnd o h] at hb;cases hb
      have h3:=ZN o h1 h2;show(if _ then _ else _)=_;rw[if_pos (by rw[h3];omega),h3,show m+(nid+(o-m)-nid)=o by omega];exact hb
   have hμ2:∀o,o<nid\/nid+64<=o->jL o=μ o:=λo ho=>if_neg (by omega)
   have vQ:∀{o b},jL o=some b->(∃i,m<=i/\i<m+64/\o=g i/\μ' i=some b)\/(¬(nid<=o/\o<nid+64)/\μ o=some b):=λ{o b} hb=>by
    by_cases hw:nid<=o/\o<nid+64
    · have:(if nid<=o/\o<nid+64 then μ' (m+(o-nid)) else μ o)=some b:=hb
      rw[if_pos hw] at this;exact .inl ⟨m+(o-nid),by omega,by omega,by rw[ZN _ (by omega) (by omega)];omega,this⟩
    · have:(if nid<=o/\o<nid+64 then μ' (m+(o-nid)) else μ o)=some b:=hb
      rw[if_neg hw] at this;exact .inr ⟨hw,this⟩
   have R4:∀{b},Gz.has b->μ.has b:=λ{b} h=>h.elim (λ⟨o,ho⟩=>.inl ⟨_,(jg ho).2⟩) λ⟨x,hx⟩=>.inr ⟨x,hx.1⟩
   have cu:Step F μ w F' jL w':=by
    refine⟨hb.os,hb.tape,hb.output,hb.size,hb.fr,λb aC si=>hb.old b aC λh=>si (R4 h),hb.shape,hb.sub,λb hf=>?_,λo b ho=>?_,λb wF=>?_⟩
    · rcases hb.jG b hf with h|h|h
      · exact .inl h
      · exact .inr (.inl (R4 h))
      · exact .inr (.inr h)
    · rw[<-ho];refine if_neg λhw=>?_
      rw[bH o hw.1 hw.2] at ho;cases ho
    · rcases wF with⟨o,ho⟩|⟨x,hx|hx⟩
      · rcases vQ ho with⟨i,_,_,_,hi⟩|⟨_,hi⟩
        · exact(hb.fV b (.inl ⟨i,hi⟩)).imp R4 id
        · exact .inl (.inl ⟨o,hi⟩)
      · exact(hb.fV b (.inr ⟨x,hx⟩)).imp R4 id
      · exact .inl (.inr ⟨x,hx.1⟩)
   have du:∀o,(∃i,i∈keys dX/\o=g i/\ab.get ((dX.map λx=>(g x.1,gD g x.2))++σ) o=gD g (dX.get i))\/
    ((∀i,i∈keys dX->o≠g i)/\ab.get ((dX.map λx=>(g x.1,gD g x.2))++σ) o=σ.get o):=λo=>by
    rw[get_append,Gw];by_cases hk:o∈(keys dX).map g
    · rw[if_pos hk]
      obtain⟨i,hi,rfl⟩:=aY.1 hk;exact .inl ⟨i,hi,rfl,KZ dX i λk hk e=>OU k i (r7 k hk) (r7 i hi) e⟩
    · rw[if_neg hk]
      exact .inr ⟨λi hi e=>hk (e▸aY.2 ⟨i,hi,rfl⟩),rfl⟩
   have other:∀{o b},(∀i,i∈keys dX->o≠g i)->σ.get o≠ .dead->μ o=some b-> ¬ Gz.has b:=λ{o b} ho hd hm XB=>by
    obtain⟨i,hi⟩:=XB.resolve_right λ⟨x,hx⟩=>(ar.hd b x hx.1).2 o hd hm;obtain⟨h1,h2⟩:=jg hi;have:=ar.inj o _ b hd (gU _ (mem i h1)) hm h2;exact ho i (vN i h1) (by rw[Gy i h1];exact this)
   refine⟨_,_,v,F',jL,rfl,hK,cu,?_,hr.uy ME,hμ2⟩
   have R5:∀{c x},μ.oW c x->(¬ ∃i,i<m/\μ (ρ.getD i 0)=some x)-> ¬ Gz.has c:=λ{c x} hc hn h=>by
    rcases h with⟨i,hi⟩|⟨y,hy⟩
    · obtain⟨h1,h2⟩:=jg hi
      exact(ar.hd c x hc).2 _ (gU _ (mem i h1)) h2
    · exact hn (ar.hu c x y hc hy.1▸hy.2)
   have cls:∀{b:Nat} (o:Nat),ab.get (bZ (λx=>(rn ρ nid x.1,gD (rn ρ nid) x.2)) dX++σ) o≠ .dead->jL o=some b->(∃i,i∈keys dX/\o=g i/\dX.get i≠ .dead/\μ' i=some b)\/((∀i,i∈keys dX->o≠g i)/\σ.get o≠ .dead/\μ o=some b):=λ{b} o ho hm=>by
    rcases du o with⟨i,hi,e,e2⟩|⟨e0,e⟩
    · rw[show(ab.get (bZ (λx=>(rn ρ nid x.1,gD (rn ρ nid) x.2)) dX++σ) o)=_ from e2] at ho
      have Be:dX.get i≠ .dead:=λh=>ho (vG.2 h);obtain⟨b1,Fm⟩:=vP.has i Be;have:=ME i b1 Fm
      rw[<-e,hm] at this;injection this with this;subst this
      exact .inl ⟨i,hi,e,Be,Fm⟩
    · rw[show(ab.get (bZ (λx=>(rn ρ nid x.1,gD (rn ρ nid) x.2)) dX++σ) o)=_ from e] at ho
      obtain⟨b0,CE⟩:=ar.has o ho;refine .inr ⟨e0,ho,?_⟩;rcases vQ hm with⟨i',h1,h2,h3,h4⟩|⟨_,CF⟩
      · have:=D4 i' h1;rw[<-h3] at this;rw[bH o this.1 this.2] at CE;cases CE
      · exact CF
   have mixed:∀{b o o' i:Nat},i∈keys dX->o=g i->dX.get i≠ .dead->μ' i=some b->(∀i,i∈keys dX->o'≠g i)->σ.get o'≠ .dead->μ o'=some b->False:=λ{b o o' i} hi e hd hmi' yK R6 nj=>by
    rcases hb.fV b (.inl ⟨i,hmi'⟩) with h|h
    · exact other yK R6 nj h
    · have:=ar.mb b (.inl ⟨o',nj⟩);omega
   refine⟨vP.fb,λb wF=>?_,λo ho=>?_,λo b hm=>?_,λo b ho hm hf=>?_,λi j b hi hj KU KV=>?_,λc x hc=>?_,λc x y hx hy=>?_⟩
   · rcases wF with⟨o,ho⟩|⟨x,hx|hx⟩
     · rcases vQ ho with⟨i,_,_,_,hi⟩|⟨_,hi⟩
       · exact vP.mb b (.inl ⟨i,hi⟩)
       · exact fl (ar.mb b (.inl ⟨o,hi⟩)) hb.size
     · exact vP.mb b (.inr ⟨x,hx⟩)
     · exact fl (ar.mb b (.inr ⟨x,hx.1⟩)) hb.size
   · rcases du o with⟨i,hi,e,e2⟩|⟨_,e⟩
     · rw[show(ab.get (bZ (λx=>(rn ρ nid x.1,gD (rn ρ nid) x.2)) dX++σ) o)=_ from e2] at ho
       obtain⟨b,hb⟩:=vP.has i λh=>ho (vG.2 h);exact⟨b,by rw[e];exact ME i b hb⟩
     · rw[show(ab.get (bZ (λx=>(rn ρ nid x.1,gD (rn ρ nid) x.2)) dX++σ) o)=_ from e] at ho
       obtain⟨b,hb⟩:=ar.has o ho;refine⟨b,?_⟩;rw[<-hb];refine if_neg λhw=>?_;rw[bH o hw.1 hw.2] at hb;cases hb
   · rcases du o with⟨i,hi,e,e2⟩|⟨e0,e⟩
     · rw[show(ab.get (bZ (λx=>(rn ρ nid x.1,gD (rn ρ nid) x.2)) dX++σ) o)=_ from e2]
       have hμi:μ' i=some b:=by
        rcases vQ hm with⟨i',h1,h2,h3,h4⟩|⟨hw,CF⟩
        · have:=OU i i' (r7 i hi) h2 (by rw[<-e,h3]);subst this;exact h4
        · rcases dK i m with h1|h1
          · rw[e,Gy i h1] at CF
            (have h2:Gz i=some b:=by show(if i<m then _ else _)=_;rw[if_pos h1];exact CF);exact TY i h1 b h2
          · have:=D4 i h1;rw[<-e] at this;exact absurd this hw
       exact(vP.obj i b hμi).uy ME λc hc=>.inl hc
     · rw[show(ab.get (bZ (λx=>(rn ρ nid x.1,gD (rn ρ nid) x.2)) dX++σ) o)=_ from e]
       rcases mQ (σ.get o= .dead) with hd|hd
       · rw[hd];trivial
       · obtain⟨b0,CE⟩:=ar.has o hd
         have nj:μ o=some b:=by
          rcases vQ hm with⟨i',h1,h2,h3,h4⟩|⟨_,CF⟩
          · have:=D4 i' h1;rw[<-h3] at this;rw[bH o this.1 this.2] at CE;cases CE
          · exact CF
         refine(ar.obj o b nj).step cu (hb.old b (ar.mb b (.inl ⟨o,nj⟩)) (other e0 hd nj)) λc hc=>?_;have hn:¬ ∃i,i<m/\μ (ρ.getD i 0)=some b:=λ⟨i,h1,h2⟩=>e0 i (vN i h1) (by rw[Gy i h1];exact ar.inj o _ b hd (gU _ (mem i h1)) nj h2);exact⟨.inr ⟨hc,hn⟩,hb.old c (ar.mb c (.inr ⟨b,hc⟩)) (R5 hc hn)⟩
   · rcases du o with⟨i,hi,e,e2⟩|⟨e0,e⟩
     · rw[show(ab.get (bZ (λx=>(rn ρ nid x.1,gD (rn ρ nid) x.2)) dX++σ) o)=_ from e2] at ho
       have Be:dX.get i≠ .dead:=λh=>ho (vG.2 h);obtain⟨b1,Fm⟩:=vP.has i Be;have:=ME i b1 Fm
       rw[<-e,hm] at this;injection this with this;subst this
       exact vP.live i b Be Fm hf
     · rw[show(ab.get (bZ (λx=>(rn ρ nid x.1,gD (rn ρ nid) x.2)) dX++σ) o)=_ from e] at ho
       obtain⟨b0,CE⟩:=ar.has o ho
       have nj:μ o=some b:=by
        rcases vQ hm with⟨i',h1,h2,h3,h4⟩|⟨_,CF⟩
        · have:=D4 i' h1;rw[<-h3] at this;rw[bH o this.1 this.2] at CE;cases CE
        · exact CF
       rcases hb.jG b hf with h|h|h
       · exact ar.live o b ho nj h
       · exact other e0 ho nj h
       · have:=ar.mb b (.inl ⟨o,nj⟩);omega
   ·
     rcases cls i hi KU with⟨k1,a1,a2,a3,a4⟩|⟨a1,a2,a3⟩<;>rcases cls j hj KV with⟨k2,b1,b2,b3,b4⟩|⟨b1,b2,b3⟩
     · have:=vP.inj k1 k2 b a3 b3 a4 b4
       rw[a2,b2,this]
     · exact(mixed a1 a2 a3 a4 b1 b2 b3).elim
     · exact(mixed b1 b2 b3 b4 a1 a2 a3).elim
     · exact ar.inj i j b a2 b2 a3 b3
   · have U7:∀{y},μ'.oW c y->Gz.has c\/w.heap.size<=c:=λ{y} h=>hb.fV c (.inr ⟨y,h⟩)
     refine⟨λhf=>?_,λo ho hm=>?_⟩
     · rcases hc with hc|⟨hc,hn⟩
       · exact(vP.hd c x hc).1 hf
       · rcases hb.jG c hf with h|h|h
         · exact(ar.hd c x hc).1 h
         · exact R5 hc hn h
         · have:=ar.mb c (.inr ⟨x,hc⟩);omega
     · rcases cls o ho hm with⟨k1,a1,a2,a3,a4⟩|⟨a1,a2,a3⟩
       · rcases hc with hc|⟨hc,hn⟩
         · exact(vP.hd c x hc).2 k1 a3 a4
         · rcases hb.fV c (.inl ⟨k1,a4⟩) with h|h
           · exact R5 hc hn h
           · have:=ar.mb c (.inr ⟨x,hc⟩);omega
       · rcases hc with hc|⟨hc,hn⟩
         · rcases U7 hc with h|h
           · exact other a1 a2 a3 h
           · have:=ar.mb c (.inl ⟨o,a3⟩);omega
         · exact(ar.hd c x hc).2 o a2 a3
   · have U7:∀{y},μ'.oW c y->Gz.has c\/w.heap.size<=c:=λ{y} h=>hb.fV c (.inr ⟨y,h⟩)
     have two:∀{x y},μ'.oW c x->μ.oW c y->(¬ ∃i,i<m/\μ (ρ.getD i 0)=some y)->False:=λ{x y} h1 h2 h3=>by
      rcases U7 h1 with h|h
      · exact R5 h2 h3 h
      · have:=ar.mb c (.inr ⟨y,h2⟩);omega
     rcases hx with hx|⟨hx,Q8⟩<;>rcases hy with hy|⟨hy,hny⟩
     · exact vP.hu c x y hx hy
     · exact(two hx hy hny).elim
     · exact(two hy hx Q8).elim
     · exact ar.hu c x y hx hy
theorem wN{c:Option (bf×List AV)}(ar:az F μ σ w)(bH:∀o,nid<=o->o<nid+64->μ o=none)(h:yX P c σ nid K):∃f as,c=some (f,as)/\enters P f=true/\OS P F μ σ w nid K f as:=wM ar bH h.m
theorem CG{ro:Option Nat}{n:Nat}{o:aH}{ev:aL->AV}{a:Act}{next:Act->aj->Prop}{Q:Exit->Act->aj->Prop}(ar:az F μ σ w)
 (bH:∀o,nid<=o->o<nid+64->μ o=none) (aR:∀x,RV F μ w (a.eval x) (ev x)) (h:MD P o.op ev σ nid K)
 (hk:∀av us v w' F' μ',K av us->Step F μ w F' μ' w'->az F' μ' (us++σ) w'->RV F' μ' w' v av->(∀o,o<nid\/nid+64<=o->μ' o=μ o)->next (a.put o.dst v) w'):
 o.wpIn (fc ro) n P a w next Q:=by
 unfold MD at h
 cases MF:kindOf P o.op with
 |quiet=>
  simp only[MF] at h;split at h
  · rename_i t q k ok kt sz m I2
    obtain⟨dst,op,ty,pos,after,guard⟩:=o;(cases op<;>try(cases I2;done));rename_i t' x i Fo;simp only[Cs] at I2;split at I2
    · rename_i o' hx
      split at I2
      · rename_i x6 e8 m' ho
        injection I2 with I2;injection I2 with e1 e2;injection e2 with e2 e3;injection e3 with e3 e4;injection e4 with e4 e5;injection e5 with e5 e6;injection e6 with e6 e7;subst e1;subst e2;subst e3;subst e4;subst e5;subst e6;subst e7;have jM:=aR x;rw[hx] at jM;obtain⟨av,us,v,w',F',μ',h1,h2,h3,h4,h5,h6⟩:=(Gq ar (bH nid (aX _) (by omega)) jM (aR i) ho h).next;refine⟨cM _ a w,?_⟩;rw[jX _ _ _ (by simp)];have hh:=hk av us v w' F' μ' h1 h3 h4 h5 (λo ho=>h6 o (by omega));rcases h2 with h2|⟨h2,hv⟩
        · have WD:(execOp a.eval { dst:=dst,op:= .lookup t' x i Fo,type:=ty,pos:=pos,after:=after,guard:=guard }).run P w= .ok (.value v) w':=h2
          rw[WD];exact hh
        · have WD:(execOp a.eval { dst:=dst,op:= .lookup t' x i Fo,type:=ty,pos:=pos,after:=after,guard:=guard }).run P w= .ok .skip w':=h2
          rw[WD];subst hv;exact hh
      · cases I2
    · cases I2
  have hd:∀c,o.op≠ .defer c:=λc hc=>by rw[hc] at h;exact h
  exact OR hd (Gf ar aR h) λav v h1 h2=>hk av [] v w F μ h1 (Step.refl F μ w) ar h2 (λ_ _=>rfl)
 |write=>
  simp only[MF] at h;(have hd:∀c,o.op≠ .defer c:=λc hc=>by rw[hc] at h;exact h);obtain⟨av,us,v,w',F',μ',h1,h2,h3,h4,h5,h6⟩:=Gs ar (bH nid (aX _) (by omega)) aR h;refine⟨cM o a w,?_⟩;rw[jX _ _ _ hd];have hh:=hk av us v w' F' μ' h1 h3 h4 h5 (λo ho=>h6 o (by omega));rcases h2 with h2|⟨h2,hv⟩
  · rw[h2];exact hh
  · rw[h2];subst hv;exact hh
 |call=>
  simp only[MF] at h;obtain⟨dst,op,ty,pos,after,guard⟩:=o;(cases op<;>try exact h.elim);rename_i c;obtain⟨callee,args,ats⟩:=c
  cases callee with
  |builtin b=>exact h.elim
  |invoke r m=>exact h.elim
  |value x=>
   simp only at h;have hx:=aR x;refine⟨cM _ a w,?_⟩;rw[jX _ _ _ (by simp)]
   have runE:∀{f:bf} {as:List AV} (us bs:Array ah),OP P (some (f,as)) σ K->a.eval x= .func (.func f) us bs->(us++args.map a.eval++bs).size=as.length->(∀(i:Nat) p,as[i]? =some p->RV F μ w ((us++args.map a.eval++bs)[i]?.getD undef) p)->
    Oper.uponIn (fc ro) n P { dst:=dst,op:= .call { callee:= .value x,args:=args,argTypes:=ats },type:=ty,pos:=pos,after:=after,guard:=guard } a next Q
     ((execOp a.eval { dst:=dst,op:= .call { callee:= .value x,args:=args,argTypes:=ats },type:=ty,pos:=pos,after:=after,guard:=guard }).run P w):=by
    intro f as us bs hE he iR ie;obtain⟨f',a1,a2,o1,s1,i1,n1,o2,s2,i2,n2,l1,l2,hc,⟨fn,tS,tR,e,sz,g,hf,hn,hb,hx,hfi,hu,hs⟩,e1,e2,pR,g1,g2,h0,hl,hK⟩:=hE;injection hc with hc;injection hc with wG Fp;subst wG;subst Fp;have r1:=(ie 0 a1 rfl).uc;have r2:=(ie 1 a2 rfl).uc;rw[e1] at r1;rw[e2] at r2;generalize oS:us++args.map a.eval++bs=vs at *
    obtain⟨v1,v2,rfl⟩:∃v1 v2,vs= #[v1,v2]:=by
     obtain⟨l⟩:=vs
     match l,iR with
     |[v1,v2],_=>exact⟨v1,v2,rfl⟩
    simp only[ny,List.getElem?_cons_zero,List.getElem?_cons_succ,js] at r1 r2
    cases r1 with
    |bo _ _ _ _ _ r1=>
    cases r1 with
    |dJ _ _ _ off1 _ cap1 b1 t1 k1 Fm _ XC _ _ _=>
    cases r2 with
    |bo _ _ _ _ _ r2=>
    cases r2 with
    |dJ _ _ _ off2 _ cap2 b2 t2 k2 wF _ RW _ _ _=>
    have row:∀{o b t k sz:Nat} {l:List PV},σ.get o= .row sz l->μ o=some b->w.shape? b=some (t,k)->(∀off,w.frozen? ⟨b,off,none⟩=false)/\(bc l).length<=k/\eh sz l:=by
     intro o b t k sz l ho hb pQ;have gk:=ar.obj o b hb;rw[ho] at gk;obtain⟨bQ,cur,t',q1,q2,q3⟩:=gk;simp[cC,q1] at pQ;exact⟨λoff=>by simp[World.frozen?,q1],by omega,bQ⟩
    obtain⟨z1,_,_⟩:=row g1 Fm XC;obtain⟨_,z2,z3⟩:=row g2 wF RW
    have N9:k2≠0:=by
     rw[cz h0 z3] at z2;have:=Nat.mul_pos hl h0;omega
    have hbne:b1≠b2:=λe=>pR (ar.inj o1 o2 b1 (by rw[g1];simp) (by rw[g2];simp) Fm (e▸wF))
    have cY:(execOp a.eval { dst:=dst,op:= .call { callee:= .value x,args:=args,argTypes:=ats },type:=ty,pos:=pos,after:=after,guard:=guard }).run P w= .ok (.value (.bool false)) w:=by
     simp only[execOp,resolve,he,Deferred.ofValue,bu,cg,bD,invoke];rw[oS,run_callFunc_extern hf hn hb hx hfi,Lib.run_overlaps_apart w tS tR e hu sz (λw=>run_sizeOf hs w) ⟨b1,off1,none⟩ ⟨b2,off2,none⟩ n1 cap1 n2 cap2 hbne t1 t2 k1 k2 XC RW N9 (z1 _) (z1 _)];rfl
    rw[cY];refine hk _ _ _ w F μ hK (Step.refl F μ w) (ar.congr λi=>?_) (.p (.bool _)) (λ_ _=>rfl);simp only[jS,jn,ab.get];split
    · rename_i e;subst e;exact g1.symm
    · split
      · rename_i e;subst e;exact g2.symm
      · rfl
   obtain⟨f,as,hc,U8⟩:∃f as,dP (ev x) (args.toList.map ev)=some (f,as)/\((enters P f=true/\OS P F μ σ w nid K f as)\/OP P (some (f,as)) σ K):=by
    rcases h.h with h|h|h|h
    · obtain⟨f,as,h1,h2,h3⟩:=Gx ar h;exact⟨f,as,h1,.inl ⟨h2,h3⟩⟩
    · obtain⟨f,as,h1,h2,h3⟩:=wN ar bH h;exact⟨f,as,h1,.inl ⟨h2,h3⟩⟩
    · obtain⟨f,a1,a2,o1,s1,i1,n1,o2,s2,i2,n2,l1,l2,hc,rest⟩:=h
      exact⟨f,_,hc,.inr ⟨f,a1,a2,o1,s1,i1,n1,o2,s2,i2,n2,l1,l2,rfl,rest⟩⟩
    · obtain⟨r,us0,h,cj,_,hK⟩:=h
      obtain⟨f,as,h1,h2,h3⟩:=wN ar bH h;refine⟨f,as,h1,.inl ⟨h2,λvs iR ie=>fI (h3 vs iR ie) λe w' he=>?_⟩⟩;obtain⟨av,us,v,F',μ',e1,⟨rfl,rfl⟩,g1,g2,g3,g4⟩:=he;exact⟨_,[],v,F',μ',e1,hK,g1,g2.congr λi=>(cj i).symm,g3,g4⟩
   have key:∀(us bs:Array ah),a.eval x= .func (.func f) us bs->(us++args.map a.eval++bs).size=as.length->(∀(i:Nat) p,as[i]? =some p->RV F μ w ((us++args.map a.eval++bs)[i]?.getD undef) p)->
    Oper.uponIn (fc ro) n P { dst:=dst,op:= .call { callee:= .value x,args:=args,argTypes:=ats },type:=ty,pos:=pos,after:=after,guard:=guard } a next Q
     ((execOp a.eval { dst:=dst,op:= .call { callee:= .value x,args:=args,argTypes:=ats },type:=ty,pos:=pos,after:=after,guard:=guard }).run P w):=by
    intro us bs he iR ie;rcases U8 with⟨gp,OV⟩|hE
    rotate_left
    · exact runE us bs hE he iR ie
    have cY:(execOp a.eval { dst:=dst,op:= .call { callee:= .value x,args:=args,argTypes:=ats },type:=ty,pos:=pos,after:=after,guard:=guard }).run P w=
     .ok (.enter f (us++args.map a.eval++bs)) w:=by
     simp only[execOp,resolve,he,Deferred.ofValue,bu,cg,bD,invoke];exact j5 gp _ _
    rw[cY,Oper.uponIn_enter];refine⟨λh=>by simp[fc,fY] at h,jt.2 ?_⟩;refine fI (OV _ iR ie) λe w' he=>?_;obtain⟨av,us,v,F',μ',rfl,h1,h2,h3,h4,h5⟩:=he;exact hk av us v w' F' μ' h1 h2 h3 h4 h5
   have uD:∀(us bs:Array ah) (l m:List AV),us.size=l.length->bs.size=m.length->(∀(i:Nat) p,l[i]? =some p->RV F μ w (us[i]?.getD undef) p)->
    (∀(i:Nat) p,m[i]? =some p->RV F μ w (bs[i]?.getD undef) p)->(us++args.map a.eval++bs).size=(l++args.toList.map ev++m).length/\
    ∀(i:Nat) p,(l++args.toList.map ev++m)[i]? =some p->RV F μ w ((us++args.map a.eval++bs)[i]?.getD undef) p:=by
    intro us bs l m hl hm h1 h2;refine⟨by simp[hl,hm],λi p hp=>?_⟩;rw[nG] at hp;split at hp
    · rename_i hi
      rw[nG] at hp;split at hp
      · rename_i wC
        have:(us++args.map a.eval++bs)[i]? =us[i]? :=by
         rw[iY (by simp;omega),iY (by omega)]
        rw[this];exact h1 i p hp
      · rename_i wC
        have FO:i-l.length<args.size:=by simp at hi;omega
        have:(us++args.map a.eval++bs)[i]? =(args.map a.eval)[i-l.length]? :=by
         rw[iY (by simp;omega),Array.getElem?_append_right (by omega),hl]
        rw[this];simp only[aW,cm,gi] at hp;obtain⟨y,hy,rfl⟩:=hp;simp only[Array.getElem?_map,hy];exact aR y
    · rename_i hi
      have:(us++args.map a.eval++bs)[i]? =bs[i-(l++args.toList.map ev).length]? :=by
       rw[Array.getElem?_append_right (by simp at hi ⊢;omega)];simp[hl]
      rw[this];exact h2 _ p hp
   unfold dP at hc;split at hc
   · rename_i f' l m sM
     injection hc with hc;injection hc with wG Fp;subst wG;subst Fp;rw[sM] at hx;generalize hy:a.eval x=y at hx
     cases hx with
     |p hx=>
      cases hx with
      |fn _ us bs _ _ g1 g2 g3 g4=>
       obtain⟨e1,e2⟩:=uD us bs (l.map AV.p) (m.map AV.p) (by simp[g1]) (by simp[g2]) (λi p hp=>by
        simp only[aW,cm] at hp;obtain⟨q,hq,rfl⟩:=hp
        exact .p (g3 i q hq)) (λi p hp=>by
        simp only[aW,cm] at hp;obtain⟨q,hq,rfl⟩:=hp
        exact .p (g4 i q hq))
       exact key us bs hy e1 e2
   · rename_i f' l m sM
     injection hc with hc;injection hc with wG Fp;subst wG;subst Fp;rw[sM] at hx;generalize hy:a.eval x=y at hx
     cases hx with
     |fn _ us bs _ _ g1 g2 g3 g4=>
      obtain⟨e1,e2⟩:=uD us bs l m g1 g2 g3 g4;exact key us bs hy e1 e2
   · cases hc
theorem sN{t e:an}(hu:P.underlying t=some (.slice e))(a:Option Addr)(l c:Nat)(w':aj):(Op.equal t (.slice a l c) (.slice none 0 0)).run P w'= .ok a.isNone w':=by
 have:∀d,(Op.equalIn (d+1) t (.slice a l c) (.slice none 0 0)).run P w'= .ok a.isNone w':=λd=>by
  cases a<;>simp only[Op.equalIn,underlying,bu,run_program,bD,hu,cg]<;>rfl
 exact this 9999
theorem yZ{ro:Option Nat}{n:Nat}{o:aH}{ev:aL->AV}{a:Act}{next:Act->aj->Prop}{Q:Exit->Act->aj->Prop}(ar:az F μ σ w)
 (bH:∀o,nid<=o->o<nid+64->μ o=none) (aR:∀x,RV F μ w (a.eval x) (ev x)) (h:R0 P o.op ev σ nid K)
 (hk:∀av us v w' F' μ',K av us->Step F μ w F' μ' w'->az F' μ' (us++σ) w'->RV F' μ' w' v av->(∀o,o<nid\/nid+64<=o->μ' o=μ o)->next (a.put o.dst v) w'):
 o.wpIn (fc ro) n P a w next Q:=by
 unfold R0 at h;split at h
 · rename_i t x neg iX
   have te:∃base len cap,a.eval x= .slice base len cap/\(tE P t).isSome=true/\K (.p (.bool (if neg then !base.isNone else base.isNone))) []:=by
    have hx:=aR x;unfold KY at h;split at h
    · rename_i s c l sM
      rw[sM] at hx;generalize a.eval x=v at hx
      cases hx with
      |p hx=>
       cases hx with
       |r5 base cap sz clip h1 h2 h3=>exact⟨base,0,cap,rfl,h.1,h.2 _ (by simp)⟩
       |sl b off len cap sz clip l f h1 h2 h3 h4 h5 h6 h7 h8=>exact⟨_,len,cap,rfl,h.1,h.2 _ (λ_=>by cases neg<;>rfl)⟩
    · rename_i sM
      rw[sM] at hx;generalize a.eval x=v at hx
      cases hx with
      |dJ o sz off bL len cap b t' n' h1 h2 h3 h4 h5 h6=>exact⟨some ⟨b,bL,none⟩,_,cap,rfl,h.1,by cases neg<;>exact h.2⟩
    · rename_i sM
      rw[sM] at hx;generalize a.eval x=v at hx
      cases hx with
      |bo _ _ _ _ _ hx=>
      cases hx with
      |dJ o sz off bL len cap b t' n' h1 h2 h3 h4 h5 h6=>exact⟨some ⟨b,bL,none⟩,_,cap,rfl,h.1,by cases neg<;>exact h.2⟩
    · exact h.elim
   obtain⟨base,len,cap,hv,ht,hK⟩:=te
   have hu:∃e,P.underlying t=some (.slice e):=by
    unfold tE at ht;split at ht
    · rename_i e he;exact⟨e,he⟩
    · cases ht
   obtain⟨e,hu⟩:=hu
   have cY:(execOp a.eval o).run P w= .ok (.value (.bool (if neg then !base.isNone else base.isNone))) w:=by
    obtain⟨dst,op,ty,pos,after,guard⟩:=o;unfold Xy at iX;split at iX
    · rename_i t' x' Fk Bp
      simp only at Bp;subst Bp;injection iX with iX;injection iX with e1 e2;injection e2 with e2 e3;subst e1;subst e2;subst e3;(have hg:(eqGuard .eql t' x' (.const (.slice none 0 0)) (.slice base len cap) (.slice none 0 0)).run P w= .ok () w:=by unfold eqGuard;rfl);have MG:a.eval (.const (.slice none 0 0))= .slice none 0 0:=rfl;simp only[execOp,hv,MG,bu,hg,bD,binOp,sN hu,cg];rfl
    · rename_i t' x' Fk Bp
      simp only at Bp;subst Bp;injection iX with iX;injection iX with e1 e2;injection e2 with e2 e3;subst e1;subst e2;subst e3;(have hg:(eqGuard .neq t' x' (.const (.slice none 0 0)) (.slice base len cap) (.slice none 0 0)).run P w= .ok () w:=by unfold eqGuard;rfl);have MG:a.eval (.const (.slice none 0 0))= .slice none 0 0:=rfl;simp only[execOp,hv,MG,bu,hg,bD,binOp,sN hu,cg];rfl
    · cases iX
   (have hd:∀c,o.op≠ .defer c:=λc hc=>by rw[hc] at iX;cases iX);refine⟨cM o a w,?_⟩;rw[jX _ _ _ hd,cY];exact hk _ [] _ w F μ hK (Step.refl F μ w) ar (.p (.bool _)) (λ_ _=>rfl)
 · split at h
   · rename_i t x neg tl
     have hb:∃b:Bool,(a.eval x= .nilIface/\b=true\/(∃ty u,a.eval x= .iface ty u)/\b=false)/\ZM.RZ P t=true/\K (.p (.bool (if neg then !b else b))) []:=by
      have hx:=aR x;unfold ZM at h;split at h
      · rename_i ty q sM
        rw[sM] at hx;generalize hu:a.eval x=v at hx;have hx:=hx.bG
        cases hx with
        |iface _ u _ _=>exact⟨false,.inr ⟨⟨_,_,rfl⟩,rfl⟩,h.1,by cases neg<;>exact h.2⟩
      · rename_i sM
        rw[sM] at hx;generalize hu:a.eval x=v at hx;have hx:=hx.bG
        cases hx with
        |p9=>exact⟨true,.inl ⟨rfl,rfl⟩,h.1,by cases neg<;>exact h.2⟩
      · exact h.elim
     obtain⟨b,hv,ht,hK⟩:=hb
     have hu:∃ms,P.underlying t=some (.interface ms):=by
      unfold ZM.RZ at ht;split at ht
      · rename_i ms TL;exact⟨ms,TL⟩
      · cases ht
     obtain⟨ms,hu⟩:=hu;have MG:a.eval (.const .nilIface)= .nilIface:=rfl
     have heq:(Op.equal t (a.eval x) .nilIface).run P w= .ok b w:=by
      have:∀d,(Op.equalIn (d+1) t (a.eval x) .nilIface).run P w= .ok b w:=λd=>by
       rcases hv with⟨e1,e2⟩|⟨⟨ty,u,e1⟩,e2⟩<;>subst e2<;>rw[e1]<;>
        simp only[Op.equalIn,underlying,bu,run_program,bD,hu,cg]
      exact this 9999
     have cY:(execOp a.eval o).run P w= .ok (.value (.bool (if neg then !b else b))) w:=by
      obtain⟨dst,op,ty,pos,after,guard⟩:=o
      have hg:∀op',(eqGuard op' t x (.const .nilIface) (a.eval x) .nilIface).run P w= .ok () w:=λop'=>by
       unfold eqGuard;rcases hv with⟨e1,_⟩|⟨⟨ty,u,e1⟩,_⟩<;>rw[e1]<;>cases op'<;>cases x<;>rfl
      have hbn:∀v:ah,(v= .nilIface\/ ∃ty u,v= .iface ty u)->(binOp .eql t v .nilIface)=(do pure (.bool (<-Op.equal t v .nilIface)))/\(binOp .neq t v .nilIface)=(do pure (.bool !(<-Op.equal t v .nilIface))):=λv Mt=>by
       rcases Mt with rfl|⟨ty,u,rfl⟩<;>exact⟨rfl,rfl⟩
      obtain⟨Fm,wF⟩:=hbn (a.eval x) (by rcases hv with⟨e1,_⟩|⟨e1,_⟩;exact .inl e1;exact .inr e1);unfold Xz at tl;split at tl
      · rename_i t' x' Fk Bp
        simp only at Bp;subst Bp;injection tl with tl;injection tl with e1 e2;injection e2 with e2 e3;subst e1;subst e2;subst e3;simp only[execOp,MG,bu,hg,bD,Fm,heq,cg];rfl
      · rename_i t' x' Fk Bp
        simp only at Bp;subst Bp;injection tl with tl;injection tl with e1 e2;injection e2 with e2 e3;subst e1;subst e2;subst e3;simp only[execOp,MG,bu,hg,bD,wF,heq,cg];rfl
      · cases tl
     (have hd:∀c,o.op≠ .defer c:=λc hc=>by rw[hc] at tl;cases tl);refine⟨cM o a w,?_⟩;rw[jX _ _ _ hd,cY];exact hk _ [] _ w F μ hK (Step.refl F μ w) ar (.p (.bool _)) (λ_ _=>rfl)
   · exact CG ar bH aR h hk
theorem MH{ro:Option Nat}{n:Nat}{o:aH}{ev:aL->AV}{a:Act}{next:Act->aj->Prop}{Q:Exit->Act->aj->Prop}(ar:az F μ σ w)
 (bH:∀o,nid<=o->o<nid+64->μ o=none) (aR:∀x,RV F μ w (a.eval x) (ev x)) (h:XA P o.op ev σ nid K)
 (hk:∀av us v w' F' μ',K av us->Step F μ w F' μ' w'->az F' μ' (us++σ) w'->RV F' μ' w' v av->(∀o,o<nid\/nid+64<=o->μ' o=μ o)->next (a.put o.dst v) w'):
 o.wpIn (fc ro) n P a w next Q:=by
 have XD:(∀c,o.op≠ .defer c)->Ci P F μ σ w nid K (execOp a.eval o)->o.wpIn (fc ro) n P a w next Q:=λhd h=>by
  obtain⟨av,us,v,w',F',μ',h1,h2,h3,h4,h5,h6⟩:=h;refine⟨cM o a w,?_⟩;rw[jX _ _ _ hd];have hh:=hk av us v w' F' μ' h1 h3 h4 h5 (λo ho=>h6 o (by omega));rcases h2 with h2|⟨h2,hv⟩
  · rw[h2];exact hh
  · rw[h2];subst hv;exact hh
 obtain⟨dst,op,ty,pos,after,guard⟩:=o
 replace h:XA P op ev σ nid K:=h
 unfold XA at h;split at h
 · rename_i t x
   exact XD (λc hc=>by cases hc) (D3 ar (bH nid (aX _) (by omega)) (aR x) h).next
 · rename_i x s
   exact XD (λc hc=>by cases hc) (Gr (nid:=nid) ar (aR x) h).next
 · rename_i x
   exact OR (λc hc=>by cases hc) (DV ar (aR x) h).next λav v h1 h2=>hk av [] v w F μ h1 (Step.refl F μ w) ar h2 (λ_ _=>rfl)
 · rename_i t x y z
   rcases h.h with h|h
   · exact yZ (o:={ dst:=dst,op:= .binOp .add t x y z,type:=ty,pos:=pos,after:=after,guard:=guard }) ar bH aR h hk
   · have hx:=aR x
     have hy:=aR y;unfold TX at h;split at h
     · rename_i k n' k' m sM hye
       obtain⟨rfl,hK⟩:=h;rw[sM] at hx;rw[hye] at hy;have MB:=fE hx;have XE:=fE hy;refine OR (F:=F) (μ:=μ) (Kq:=λv=>K v []) (λc hc=>by cases hc) ⟨_,.int k (k.wrap (n'+m)),hK,.p (.int _ _),λw' _=>?_⟩ λav v h1 h2=>hk av [] v w F μ h1 (Step.refl F μ w) ar h2 (λ_ _=>rfl);(have hg:(eqGuard .add t x y (.int k n') (.int k m)).run P w'= .ok () w':=by unfold eqGuard;rfl);simp only[execOp,MB,XE,bu,hg,bD,binOp,Op.intArith,ne_eq,not_true_eq_false,if_false,cg]
     · exact h.elim
 · exact yZ (o:={ dst:=dst,op:=op,type:=ty,pos:=pos,after:=after,guard:=guard }) ar bH aR h hk
end
def U9(P:au)(f:bf)(m:Nat)(jI:ab)(as:List AV)(p:PV):Prop:=
 lB p=true/\ ∀(F:Nat->Prop) (μ:aN) (w:aj) (vs:Array ah),az F μ jI w->(∀o,m<=o->μ o=none)->vs.size=as.length->(∀(i:Nat) p,as[i]? =some p->RV F μ w (vs[i]?.getD undef) p)->
  Calls P f vs w λe w'=>∃v F' μ',e= .panicked [{ v,recovered:=false }]/\dO F μ w F' μ' w'/\RP F' w' v p
structure XF(P:au)(c:Option (bf×List AV))(σ:ab)(nid:Nat)(KX:PV->ab->Prop):Prop where
 h:∃(f:bf) (as qg:List AV) (jI:ab) (ρ:List Nat) (p:PV),c=some (f,as)/\enters P f=true/\as=tn (rn ρ nid) qg/\ρ.Nodup/\(∀o∈ρ,σ.get o≠ .dead)/\
  (∀i,i<ρ.length->σ.get (ρ.getD i 0)=gD (rn ρ nid) (jI.get i))/\(∀i,ρ.length<=i->jI.get i= .dead)/\U9 P f ρ.length jI qg p/\KX p (ρ.map λo=>(o,.dead))
def vR(P:au)(op:Op)(ev:aL->AV)(σ:ab)(nid:Nat)(KX:PV->ab->Prop):Prop:=
 match op with
 |.call c=>(match c.callee with
  |.value x=>XF P (dP (ev x) (c.args.toList.map ev)) σ nid KX
  |_=>False)
 |_=>False
structure iG(A B:Prop):Prop where
 h:A\/B
theorem iG.n{A B:Prop}(h:A):iG A B:=⟨.inl h⟩
theorem iG.m{A B:Prop}(h:B):iG A B:=⟨.inr h⟩
def R7(P:au)(op:Op)(ev:aL->AV)(σ:ab)(nid:Nat)(K:AV->ab->Prop):Prop:=
 match op with
 |.call c=>(match c.callee with
  |.value x=>iG (Gu P (dP (ev x) (c.args.toList.map ev)) σ K) (KW P (dP (ev x) (c.args.toList.map ev)) σ nid K)
  |_=>False)
 |_=>False
structure gL(A B:Prop):Prop where
 h:A\/B
theorem gL.n{A B:Prop}(h:B):gL A B:=⟨.inr h⟩
structure gq(A B:Prop):Prop where
 h:A\/B
theorem gq.n{A B:Prop}(h:A):gq A B:=⟨.inl h⟩
theorem gq.y{A B:Prop}(h:B):gq A B:=⟨.inr h⟩
structure fJ(A B:Prop):Prop where
 h:A\/B
theorem fJ.l{A B:Prop}(h:A):fJ A B:=⟨.inl h⟩
theorem fJ.r{A B:Prop}(h:B):fJ A B:=⟨.inr h⟩
def GA(op:Op)(A B:Prop):Prop:=
 match op with
 |.call c=>(match c.callee with
  |.value _=>fJ A B
  |_=>A)
 |_=>A
theorem K0{op:Op}{A B:Prop}(h:GA op A B):A\/B:=by
 unfold GA at h;split at h
 · split at h
   · exact h.h
   · exact .inl h
 · exact .inl h
section
variable{P:au}{F:Nat->Prop}{μ:aN}{σ:ab}{w:aj}{nid:Nat}{KX:PV->ab->Prop}
theorem wO{x:aL}{args:Array aL}{f:bf}{as:List AV}{ev:aL->AV}{a:Act}
 (aR:∀x,RV F μ w (a.eval x) (ev x)) (hc:dP (ev x) (args.toList.map ev)=some (f,as)):
 ∃us bs:Array ah,a.eval x= .func (.func f) us bs/\(us++args.map a.eval++bs).size=as.length/\ ∀(i:Nat) p,as[i]? =some p->RV F μ w ((us++args.map a.eval++bs)[i]?.getD undef) p:=by
 have hx:=aR x
 have uD:∀(us bs:Array ah) (l m:List AV),us.size=l.length->bs.size=m.length->(∀(i:Nat) p,l[i]? =some p->RV F μ w (us[i]?.getD undef) p)->
  (∀(i:Nat) p,m[i]? =some p->RV F μ w (bs[i]?.getD undef) p)->(us++args.map a.eval++bs).size=(l++args.toList.map ev++m).length/\
  ∀(i:Nat) p,(l++args.toList.map ev++m)[i]? =some p->RV F μ w ((us++args.map a.eval++bs)[i]?.getD undef) p:=by
  intro us bs l m hl hm h1 h2;refine⟨by simp[hl,hm],λi p hp=>?_⟩;rw[nG] at hp;split at hp
  · rename_i hi
    rw[nG] at hp;split at hp
    · rename_i wC
      have:(us++args.map a.eval++bs)[i]? =us[i]? :=by
       rw[iY (by simp;omega),iY (by omega)]
      rw[this];exact h1 i p hp
    · rename_i wC
      have FO:i-l.length<args.size:=by simp at hi;omega
      have:(us++args.map a.eval++bs)[i]? =(args.map a.eval)[i-l.length]? :=by
       rw[iY (by simp;omega),Array.getElem?_append_right (by omega),hl]
      rw[this];simp only[aW,cm,gi] at hp;obtain⟨y,hy,rfl⟩:=hp;simp only[Array.getElem?_map,hy];exact aR y
  · rename_i hi
    have:(us++args.map a.eval++bs)[i]? =bs[i-(l++args.toList.map ev).length]? :=by
     rw[Array.getElem?_append_right (by simp at hi ⊢;omega)];simp[hl]
    rw[this];exact h2 _ p hp
 unfold dP at hc;split at hc
 · rename_i f' l m sM
   injection hc with hc;injection hc with wG Fp;subst wG;subst Fp;rw[sM] at hx;generalize hy:a.eval x=y at hx
   cases hx with
   |p hx=>
    cases hx with
    |fn _ us bs _ _ g1 g2 g3 g4=>
     obtain⟨e1,e2⟩:=uD us bs (l.map AV.p) (m.map AV.p) (by simp[g1]) (by simp[g2]) (λi p hp=>by
      simp only[aW,cm] at hp;obtain⟨q,hq,rfl⟩:=hp
      exact .p (g3 i q hq)) (λi p hp=>by
      simp only[aW,cm] at hp;obtain⟨q,hq,rfl⟩:=hp
      exact .p (g4 i q hq))
     exact⟨us,bs,rfl,e1,e2⟩
 · rename_i f' l m sM
   injection hc with hc;injection hc with wG Fp;subst wG;subst Fp;rw[sM] at hx;generalize hy:a.eval x=y at hx
   cases hx with
   |fn _ us bs _ _ g1 g2 g3 g4=>
    obtain⟨e1,e2⟩:=uD us bs l m g1 g2 g3 g4;exact⟨us,bs,rfl,e1,e2⟩
 · cases hc
theorem y4{x:aL}{args:Array aL}{ats:Array an}{dst:Option Nat}{ty:an}{pos:String}{after:Array Edge}{guard:Option (Nat×Bool)}{f:bf}{as:List AV}{ev:aL->AV}{a:Act}
 (aR:∀x,RV F μ w (a.eval x) (ev x)) (hc:dP (ev x) (args.toList.map ev)=some (f,as)) (gp:enters P f=true):
 ∃vs:Array ah,vs.size=as.length/\(∀(i:Nat) p,as[i]? =some p->RV F μ w (vs[i]?.getD undef) p)/\
  (execOp a.eval { dst:=dst,op:= .call { callee:= .value x,args:=args,argTypes:=ats },type:=ty,pos:=pos,after:=after,guard:=guard }).run P w= .ok (.enter f vs) w:=by
 obtain⟨us,bs,he,h1,h2⟩:=wO aR hc;refine⟨_,h1,h2,?_⟩;simp only[execOp,resolve,he,Deferred.ofValue,bu,cg,bD,invoke];exact j5 gp _ _
theorem y5{ro:Option Nat}{n:Nat}{o:aH}{ev:aL->AV}{a:Act}{next:Act->aj->Prop}{Q:Exit->Act->aj->Prop}(ar:az F μ σ w)
 (bH:∀o,nid<=o->o<nid+64->μ o=none) (aR:∀x,RV F μ w (a.eval x) (ev x)) (h:vR P o.op ev σ nid KX)
 (hk:∀p us v w',KX p us->Step F μ w F μ w'->az F μ (us++σ) w'->RP F w' v p->Q (.panic [{ v,recovered:=false }]) a w'):
 o.wpIn (fc ro) n P a w next Q:=by
 unfold vR at h;obtain⟨dst,op,ty,pos,after,guard⟩:=o;(cases op<;>try exact h.elim);rename_i c;obtain⟨callee,args,ats⟩:=c
 cases callee with
 |builtin b=>exact h.elim
 |invoke r m=>exact h.elim
 |value x=>
  simp only at h;obtain⟨f,as,qg,jI,ρ,p,hc,gp,has,iX,gU,cj,uC,⟨N8,jZ⟩,hK⟩:=h.h;obtain⟨vs,iR,ie,cY⟩:=y4 (P:=P) (dst:=dst) (ats:=ats) (ty:=ty) (pos:=pos) (after:=after) (guard:=guard) aR hc gp;refine⟨cM _ a w,?_⟩;rw[jX _ _ _ (by simp),cY,Oper.uponIn_enter];refine⟨λh=>by simp[fc,fY] at h,jt.2 ?_⟩
  let g:=rn ρ nid
  let m:=ρ.length
  have Gy:∀i,i<m->g i=ρ.getD i 0:=λi hi=>if_pos hi
  have D4:∀i,m<=i->nid<=g i/\g i<nid+64:=λi h1=>by
   have:g i=nid+min (i-ρ.length) 63:=if_neg (by omega);rw[this];omega
  have mem:∀i,i<m->ρ.getD i 0∈ρ:=λi hi=>by rw[im,aV hi];exact jR hi
  have OU:∀i j,i<m->j<m->g i=g j->i=j:=λi j hi hj e=>by
   rw[Gy i hi,Gy j hj,im,im,aV hi,aV hj] at e;exact CD iX hi hj e
  let Gz:aN:=⟨λi=>if i<m then μ (ρ.getD i 0) else none,λc b=>μ.oW c b/\ ∃i,i<m/\μ (ρ.getD i 0)=some b⟩
  have Ch:∀o b,μ (g o)=some b->Gz o=some b:=λo b hb=>by
   rcases dK o m with h1|h1
   · rw[Gy o h1] at hb;show(if o<m then _ else _)=_;rw[if_pos h1];exact hb
   · have:=D4 o h1;rw[bH _ this.1 this.2] at hb;cases hb
  have jg:∀{o b},Gz o=some b->o<m/\μ (ρ.getD o 0)=some b:=λ{o b} hb=>by
   by_cases h1:o<m
   · exact⟨h1,by have:(if o<m then μ (ρ.getD o 0) else none)=some b:=hb;rwa[if_pos h1] at this⟩
   · have:(if o<m then μ (ρ.getD o 0) else none)=some b:=hb;rw[if_neg h1] at this;cases this
  have yY:∀{o},jI.get o≠ .dead->o<m:=λ{o} ho=>by
   rcases dK o m with h1|h1
   · exact h1
   · exact absurd (uC o h1) ho
  have nR:az F Gz jI w:=by
   refine⟨ar.fb,λb hb=>hb.elim (λ⟨o,ho⟩=>ar.mb b (.inl ⟨_,(jg ho).2⟩)) λ⟨x,hx⟩=>ar.mb b (.inr ⟨x,hx.1⟩),λo ho=>?_,λo b hb=>?_,λo b ho hb=>?_,λi j b hi hj KU KV=>?_,
    λc x hc=>⟨(ar.hd c x hc.1).1,λo ho hm=>(ar.hd c x hc.1).2 _ (gU _ (mem o (yY ho))) (jg hm).2⟩,λc x y hx hy=>ar.hu c x y hx.1 hy.1⟩
   · obtain⟨b,hb⟩:=ar.has _ (gU _ (mem o (yY ho)))
     exact⟨b,by show(if o<m then _ else _)=_;rw[if_pos (yY ho)];exact hb⟩
   · obtain⟨h1,h2⟩:=jg hb
     have:=ar.obj _ b h2;rw[cj o h1] at this;exact this.tp Ch λc hc=>⟨hc,o,h1,h2⟩
   · exact ar.live _ b (gU _ (mem o (yY ho))) (jg hb).2
   · have:=ar.inj _ _ b (gU _ (mem i (yY hi))) (gU _ (mem j (yY hj))) (jg KU).2 (jg KV).2
     exact OU i j (yY hi) (yY hj) (by rw[Gy i (yY hi),Gy j (yY hj)];exact this)
  refine fI (jZ F Gz w vs nR (λo ho=>if_neg (by show ¬ o<ρ.length;omega)) (by rw[iR,has,fX];simp) λi p hp=>?_) λe w' he=>?_
  · exact(ie i (gY g p) (by rw[has,fX];simp[hp];rfl)).tp Ch rfl
  · obtain⟨v,F',μ',rfl,hb,hr⟩:=he
    have Va:∀b,¬ μ.has b-> ¬ Gz.has b:=λb hn h=>hn (h.elim (λ⟨o,ho⟩=>.inl ⟨_,(jg ho).2⟩) λ⟨x,hx⟩=>.inr ⟨x,hx.1⟩);have cu:Step F μ w F μ w':=⟨hb.os,hb.tape,hb.output,hb.size,hb.fr,λb aC hn=>hb.old b aC (Va b hn),hb.shape,λ_ h=>h,λ_ h=>.inl h,λ_ _ h=>h,λ_ h=>.inl h⟩;have du:∀i,ab.get ((ρ.map λo=>(o,bJ.dead))++σ) i≠ .dead->i∉ρ/\ab.get ((ρ.map λo=>(o,bJ.dead))++σ) i=σ.get i:=λi hi=>Gv ρ i hi;refine hk p _ v w' hK cu ?_ (hr.flat N8);refine⟨ar.fb.st cu λb h=>fl (ar.fb b h) hb.size,λb hm=>fl (ar.mb b hm) hb.size,λo ho=>?_,λo b hm=>?_,λo b ho hm=>?_,λi j b hi hj KU KV=>?_,λc x hc=>⟨(ar.hd c x hc).1,λo ho=>(ar.hd c x hc).2 o (by rw[(du o ho).2] at ho;exact ho)⟩,ar.hu⟩
    · obtain⟨h1,h2⟩:=du o ho
      rw[h2] at ho;exact ar.has o ho
    · rcases mQ (ab.get ((ρ.map λo=>(o,bJ.dead))++σ) o= .dead) with hd|hd
      · rw[hd];trivial
      · obtain⟨h1,h2⟩:=du o hd
        have Bn:=hd;rw[h2] at Bn;rw[h2];have bV:∀i,i<m->μ (ρ.getD i 0)=some b->False:=λi h3 h4=>h1 (ar.inj o _ b Bn (gU _ (mem i h3)) hm h4▸mem i h3);refine(ar.obj o b hm).step cu (hb.old b (ar.mb b (.inl ⟨o,hm⟩)) λh=>?_) λc hc=>⟨hc,hb.old c (ar.mb c (.inr ⟨b,hc⟩)) λh=>?_⟩
        · rcases h with⟨i,hi⟩|⟨x,hx⟩
          · exact bV i (jg hi).1 (jg hi).2
          · exact(ar.hd b x hx.1).2 o Bn hm
        · rcases h with⟨i,hi⟩|⟨x,hx,i,h3,h4⟩
          · exact(ar.hd c b hc).2 _ (gU _ (mem i (jg hi).1)) (jg hi).2
          · exact bV i h3 (ar.hu c b x hc hx▸h4)
    · obtain⟨h1,h2⟩:=du o ho
      rw[h2] at ho;exact ar.live o b ho hm
    · rw[(du i hi).2] at hi
      rw[(du j hj).2] at hj;exact ar.inj i j b hi hj KU KV
theorem I3{ro:Option Nat}{n:Nat}{K:AV->ab->Prop}{o:aH}{ev:aL->AV}{a:Act}{next:Act->aj->Prop}{Q:Exit->Act->aj->Prop}(ar:az F μ σ w)(bH:∀o,nid<=o->o<nid+64->μ o=none)
 (aR:∀x,RV F μ w (a.eval x) (ev x)) (h:R7 P o.op ev σ nid K)
 (hk:∀av us v w' F' μ',K av us->Step F μ w F' μ' w'->az F' μ' (us++σ) w'->RV F' μ' w' v av->(∀o,o<nid\/nid+64<=o->μ' o=μ o)->next (a.put o.dst v) w'):
 o.wpIn (fc ro) n P a w next Q:=by
 unfold R7 at h;obtain⟨dst,op,ty,pos,after,guard⟩:=o;(cases op<;>try exact h.elim);rename_i c;obtain⟨callee,args,ats⟩:=c
 cases callee with
 |builtin b=>exact h.elim
 |invoke r m=>exact h.elim
 |value x=>
  simp only at h;obtain⟨f,as,hc,gp,OV⟩:=h.h.elim (λh=>wL (nid:=nid) ar h) (λh=>wM ar bH h);obtain⟨vs,iR,ie,cY⟩:=y4 (dst:=dst) (ty:=ty) (pos:=pos) (after:=after) (guard:=guard) (args:=args) (ats:=ats) aR hc gp;refine⟨cM _ a w,?_⟩;rw[jX _ _ _ (by simp),cY,Oper.uponIn_enter];refine⟨λh=>by simp[fc,fY] at h,jt.2 ?_⟩;refine fI (OV _ iR ie) λe w' he=>?_;obtain⟨av,us,v,F',μ',rfl,h1,h2,h3,h4,h5⟩:=he;exact hk av us v w' F' μ' h1 h2 h3 h4 h5
end
structure St where
 env:Env
 hp:ab
 nx:Nat
 yk:Nat
def bP(env:Env):aL->AV
 |.tmp t=>env.get t
 |.const v=>DG v
 |.func f=>.p (.fn (.func f) [] [])
 |.global g=>(match W7.lookup g with|some fs=>.p (.ro (fs.map λf=>.fn (.func f) [] []))|none=>.any)
structure CH(F:Nat->Prop)(μ:aN)(w w':aj):Prop where
 os:w'.os=w.os
 tape:w'.tape=w.tape
 output:w'.output=w.output
 size:w.heap.size<=w'.heap.size
 same:∀b,F b\/μ.has b->w'.heap[b]? =w.heap[b]?
structure fK(P:au) where
 it:Bool
 nm:Bool:=false
 J:Nat->(Nat->Prop)->aN->aj->Prop
 l:Nat
 xs:List (List PV)
 stop:Nat
 wd:Nat->List PV->Prop:=λ_ _=>False
 cl:∀{k:Nat} {F F':Nat->Prop} {μ μ':aN} {w w':aj},J k F μ w->dO F μ w F' μ' w'->J k F' μ' w'
 R8:it=true-> ∀{k:Nat} {F:Nat->Prop} {μ:aN} {w:aj} {vs:Array ah} {x:List PV} (ro:Option Nat) (n:Nat),J k F μ w->(∀b,F b->b<w.heap.size)->(∀b,μ.has b->b<w.heap.size)->((k<xs.length/\x=xs.getD k [])\/wd k x)->k<=stop->vs.size=x.length->
  (∀(i:Nat) p,x[i]? =some p->RP F w (vs[i]?.getD undef) p)->YieldAt (fc ro) n P l vs w λe w'=>e= .returned (.bool (decide (k≠stop)))/\J (k+1) F μ w'/\CH F μ w w'
structure Cx(P:au) where
 N:Nat
 G:fK P
 kp:List Nat
def fK.no(P:au):fK P where
 it:=false
 J:=λ_ _ _ _=>True
 l:=0
 xs:=[]
 stop:=0
 cl:=λ_ _=>trivial
 R8:=λh=>by cases h
def nH(r:Nat):Deferred:={ target:= .collected r,args:= #[] }
structure D0 where
 ds:List Deferred
 b0:Nat
 ro:Option Nat
 kf:Nat->Prop
 kx:Nat->Prop
 wk:aj
def Mk(F:Nat->Prop)(μ:aN)(w:aj)(d0:D0)(a:Act):Prop:=
 ∃ms:List Nat,(ms.Nodup/\d0.b0<=w.heap.size)/\a.defers=ms.map nH++d0.ds/\ ∀r∈ms,w.heap[r]? =some (.deferred (some []))/\ ¬ F r/\ ¬ μ.has r/\d0.b0<=r
theorem bB{w:aj}{b:Nat}{o:Obj}(h:w.heap[b]? =some o):b<w.heap.size:=(Array.getElem?_eq_some_iff.1 h).1
theorem Mk.base{F F':Nat->Prop}{μ μ':aN}{w w':aj}{d0:D0}{a a':Act}(h:Mk F μ w d0 a)(b:dO F μ w F' μ' w')(e:a'.defers=a.defers):Mk F' μ' w' d0 a':=by
 obtain⟨ms,h1,h2,h3⟩:=h;refine⟨ms,⟨h1.1,dW h1.2 b.size⟩,e.trans h2,λr hr=>?_⟩;obtain⟨h4,h5,h6,h7⟩:=h3 r hr;have aC:=bB h4;refine⟨(b.old r aC h6).trans h4,λhf=>?_,λhm=>?_,h7⟩
 · rcases b.jG r hf with h|h|h
   · exact h5 h
   · exact h6 h
   · omega
 · rcases b.fV r hm with h|h
   · exact h6 h
   · omega
def Rd(F:Nat->Prop)(μ:aN)(w:aj)(d0:D0):Prop:=∀l,d0.ro=some l->∃r:Loop,w.heap[l]? =some (.loop r)/\ ¬ F l/\ ¬ μ.has l
theorem Rd.base{F F':Nat->Prop}{μ μ':aN}{w w':aj}{d0:D0}(h:Rd F μ w d0)(b:dO F μ w F' μ' w'):Rd F' μ' w' d0:=λl hl=>by
 obtain⟨r,h4,h5,h6⟩:=h l hl;have aC:=bB h4;refine⟨r,(b.old l aC h6).trans h4,λhf=>?_,λhm=>?_⟩
 · rcases b.jG l hf with h|h|h
   · exact h5 h
   · exact h6 h
   · omega
 · rcases b.fV l hm with h|h
   · exact h6 h
   · omega
def Kp(L:List Nat)(μ μ':aN):Prop:=∀o∈L,∀b,μ o=some b->μ' o=some b
theorem Kp.refl(L:List Nat)(μ:aN):Kp L μ μ:=λ_ _ _ h=>h
theorem Kp.trans{L:List Nat}{μ Ij jL:aN}(h:Kp L μ Ij)(k:Kp L Ij jL):Kp L μ jL:=λo ho b hb=>k o ho b (h o ho b hb)
theorem Kp.step{L:List Nat}{F F':Nat->Prop}{μ μ':aN}{w w':aj}(h:Step F μ w F' μ' w'):Kp L μ μ':=λo _ b hb=>h.pre o b hb
def Rl{P:au}(G:fK P)(F:Nat->Prop)(μ:aN)(w:aj)(F':Nat->Prop)(μ':aN)(w':aj):Prop:=G.it=false->dO F μ w F' μ' w'
section
variable{P:au}{G:fK P}
theorem Rl.refl(F:Nat->Prop)(μ:aN)(w:aj):Rl G F μ w F μ w:=λ_=>dO.refl F μ w
theorem Rl.trans{F F1 F2:Nat->Prop}{μ Ij jL:aN}{w w1 w2:aj}(h:Rl G F μ w F1 Ij w1)(k:Rl G F1 Ij w1 F2 jL w2):Rl G F μ w F2 jL w2:=λe=>(h e).trans (k e)
theorem Rl.of{F F':Nat->Prop}{μ μ':aN}{w w':aj}(h:dO F μ w F' μ' w'):Rl G F μ w F' μ' w':=λ_=>h
end
def aN.plus(μ:aN)(X:Nat->Prop):aN:=⟨μ.f,λc b=>μ.oW c b\/X c⟩
theorem aN.cA{μ:aN}{X:Nat->Prop}{b:Nat}:(μ.plus X).has b↔μ.has b\/X b:=by
 constructor
 · rintro(h|⟨m,h|h⟩)
   · exact .inl (.inl h)
   · exact .inl (.inr ⟨m,h⟩)
   · exact .inr h
 · rintro((h|⟨m,h⟩)|h)
   · exact .inl h
   · exact .inr ⟨m,.inl h⟩
   · exact .inr ⟨0,.inr h⟩
structure JX{P:au}(G:fK P)(d0:D0)(F:Nat->Prop)(μ:aN)(yk:Nat)(ds:List Deferred)(w:aj)(X:Nat->Prop):Prop where
 j:G.J yk F (μ.plus X) w
 x:∀b,X b->b<w.heap.size/\ ¬ F b/\ ¬ μ.has b
 ma:G.it=true-> ∀r,nH r∈ds->X r
 ro:G.it=true-> ∀l,d0.ro=some l->X l
 kf:G.it=true-> ∀b,d0.kf b->F b/\w.heap[b]? =d0.wk.heap[b]?
 kx:G.it=true-> ∀b,d0.kx b->X b/\w.heap[b]? =d0.wk.heap[b]?
 os:G.it=true->w.os=d0.wk.os/\w.tape=d0.wk.tape/\w.output=d0.wk.output/\d0.wk.heap.size<=w.heap.size
theorem JX.base{P:au}{G:fK P}{d0:D0}{F F':Nat->Prop}{μ μ':aN}{yk:Nat}{ds:List Deferred}{w w':aj}{X:Nat->Prop}(h:JX G d0 F μ yk ds w X)(b:dO F μ w F' μ' w'):JX G d0 F' μ' yk ds w' X:=by
 have hX:∀c,X c->c<w'.heap.size/\ ¬ F' c/\ ¬ μ'.has c:=λc hc=>by
  obtain⟨h1,h2,h3⟩:=h.x c hc;refine⟨fl h1 b.size,λhf=>?_,λhm=>?_⟩
  · rcases b.jG c hf with h|h|h
    · exact h2 h
    · exact h3 h
    · omega
  · rcases b.fV c hm with h|h
    · exact h3 h
    · omega
 refine⟨G.cl h.j ⟨b.os,b.tape,b.output,b.size,b.fr,λc hc hn=>b.old c hc λhm=>hn (aN.cA.2 (.inl hm)),b.shape,b.sub,λc hc=>?_,λc hc=>?_⟩,hX,h.ma,h.ro,λhi c hc=>?_,λhi c hc=>?_,λhi=>?_⟩
 · rcases b.jG c hc with h|h|h
   · exact .inl h
   · exact .inr (.inl (aN.cA.2 (.inl h)))
   · exact .inr (.inr h)
 · rcases aN.cA.1 hc with hc|hc
   · rcases b.fV c hc with h|h
     · exact .inl (aN.cA.2 (.inl h))
     · exact .inr h
   · exact .inl (aN.cA.2 (.inr hc))
 · obtain⟨h1,h2⟩:=h.kf hi c hc
   exact⟨b.sub c h1,(b.fr c h1).trans h2⟩
 · obtain⟨h1,h2⟩:=h.kx hi c hc
   obtain⟨h3,_,h5⟩:=h.x c h1;exact⟨h1,(b.old c h3 h5).trans h2⟩
 · obtain⟨h1,h2,h3,h4⟩:=h.os hi
   exact⟨b.os.trans h1,b.tape.trans h2,b.output.trans h3,dW h4 b.size⟩
def JE{P:au}(G:fK P)(d0:D0)(F:Nat->Prop)(μ:aN)(yk:Nat)(a:Act)(w:aj):Prop:=∃X,JX G d0 F μ yk a.defers w X
theorem JE.base{P:au}{G:fK P}{d0:D0}{F F':Nat->Prop}{μ μ':aN}{yk:Nat}{a a':Act}{w w':aj}(h:JE G d0 F μ yk a w)(b:dO F μ w F' μ' w')(e:a'.defers=a.defers):JE G d0 F' μ' yk a' w':=by
 obtain⟨X,h⟩:=h;exact⟨X,by rw[e];exact h.base b⟩
theorem JE.no{P:au}{G:fK P}{d0:D0}{F:Nat->Prop}{μ:aN}{yk:Nat}{a:Act}{w:aj}(gh:G.it=false)(h:G.J yk F μ w):JE G d0 F μ yk a w:=by
 have n:¬ G.it=true:=by rw[gh];exact Bool.false_ne_true
 exact⟨λ_=>False,G.cl h ⟨rfl,rfl,rfl,aX _,λ_ _=>rfl,λ_ _ _=>rfl,λ_ _ h=>h,λ_ h=>h,λ_ h=>.inl h,λb h=>.inl ((aN.cA.1 h).elim id False.elim)⟩,λ_ h=>h.elim,λh=>(n h).elim,λh=>(n h).elim,λh=>(n h).elim,λh=>(n h).elim,λh=>(n h).elim⟩
theorem JE.start{P:au}{G:fK P}{ds:List Deferred}{b0:Nat}{F:Nat->Prop}{μ:aN}{yk:Nat}{a:Act}{w:aj}(h:G.J yk F μ w)(ha:∀r,nH r∉a.defers):JE G ⟨ds,b0,none,λ_=>False,λ_=>False,w⟩ F μ yk a w:=
 ⟨λ_=>False,G.cl h ⟨rfl,rfl,rfl,aX _,λ_ _=>rfl,λ_ _ _=>rfl,λ_ _ h=>h,λ_ h=>h,λ_ h=>.inl h,λb h=>.inl ((aN.cA.1 h).elim id False.elim)⟩,λ_ h=>h.elim,λ_ r hr=>(ha r hr).elim,λ_ l hl=>(by cases hl),λ_ b hb=>hb.elim,λ_ b hb=>hb.elim,λ_=>⟨rfl,rfl,rfl,aX _⟩⟩
theorem JE.j{P:au}{G:fK P}{d0:D0}{F:Nat->Prop}{μ:aN}{yk:Nat}{a:Act}{w:aj}(h:JE G d0 F μ yk a w):G.J yk F μ w:=by
 obtain⟨X,h⟩:=h;exact G.cl h.j ⟨rfl,rfl,rfl,aX _,λ_ _=>rfl,λ_ _ _=>rfl,λ_ _ h=>h,λ_ h=>h,λ_ h=>.inl h,λb h=>.inl (aN.cA.2 (.inl h))⟩
structure oT{P:au}(C:Cx P)(d0:D0)(F:Nat->Prop)(μ:aN)(s:St)(a:Act)(w:aj):Prop where
 h:az F μ s.hp w
 fresh:∀o,s.nx<=o->μ o=none
 size:a.tmps.size=C.N
 env:∀t,RV F μ w (a.tmps[t]?.getD undef) (s.env.get t)
 nI:Mk F μ w d0 a
 rd:Rd F μ w d0
 nm:C.G.nm=true->a.defers=d0.ds
 j:JE C.G d0 F μ s.yk a w
section
variable{P:au}{C:Cx P}{d0:D0}{N:Nat}{F:Nat->Prop}{μ:aN}{w:aj}{a:Act}
theorem y6{α:Type}{g:Nat}{x:α}:∀{l:List (Nat×α)},l.lookup g=some x->(g,x)∈l
 |(k,y)::l,h=>by
  simp only[List.lookup] at h;split at h
  · rename_i e
    have:g=k:=by simpa using e
    subst this;injection h with h;subst h;exact List.mem_cons_self
  · exact pa _ (y6 h)
theorem gu{env:Env}(hg:IB F w)(h:∀t,RV F μ w (a.tmps[t]?.getD undef) (env.get t))(x:aL):RV F μ w (a.eval x) (bP env x):=by
 cases x with
 |tmp t=>have:=h t;simpa[Act.eval,bP,Array.getD_eq_getD_getElem?] using this
 |const v=>exact uf v
 |global g=>
  simp only[bP];split
  · rename_i fs ZI
    obtain⟨h1,h2⟩:=hg (g,fs) (y6 ZI);refine .p (.W6 g 0 _ (λj=>match fs[j]? with|some f=>.func (.func f) #[] #[]|none=>undef) (.inr h1) λj q hq=>?_);simp only[aW,cm] at hq;obtain⟨f,hf,rfl⟩:=hq;exact⟨by rw[h2 j f hf,hf],by rw[hf];exact .fn _ _ _ _ _ rfl rfl (by simp) (by simp)⟩
  · exact .any _
 |func f=>exact .p (.fn _ _ _ _ _ rfl rfl (by simp) (by simp))
def Env.put(env:Env)(dst:Option Nat)(v:AV):Env:=
 match dst with
 |some d=>(d,v)::env
 |none=>env
theorem sj{env:Env}(h:∀t,RV F μ w (a.tmps[t]?.getD undef) (env.get t)){dst:Option Nat}{v:ah}{av:AV}(hd:∀d,dst=some d->d<a.tmps.size)(hv:RV F μ w v av)(t:Nat):
 RV F μ w ((a.put dst v).tmps[t]?.getD undef) ((env.put dst av).get t):=by
 cases dst with
 |none=>exact h t
 |some d=>
  have aC:=hd d rfl;simp only[Act.put,Env.put,Env.get];by_cases e:d=t
  · subst e;simp[aC];exact hv
  · rw[if_neg e]
    (have:(a.tmps.setIfInBounds d v)[t]? =a.tmps[t]? :=by rw[Array.getElem?_setIfInBounds,if_neg e]);rw[this];exact h t
theorem oT.put{s:St}(h:oT C d0 F μ s a w){dst:Option Nat}(hd:∀d,dst=some d->d<C.N){F':Nat->Prop}{μ':aN}{w':aj}(cu:Step F μ w F' μ' w'){us:ab}(hs:az F' μ' (us++s.hp) w'){v:ah}{av:AV}
 (hv:RV F' μ' w' v av) (ZO:∀o,o<s.nx\/s.nx+64<=o->μ' o=μ o):oT C d0 F' μ' ⟨s.env.put dst av,us++s.hp,s.nx+64,s.yk⟩ (a.put dst v) w' where
 h:=hs
 fresh:=λo ho=>by
  have yK:s.nx+64<=o:=ho;rw[ZO o (.inr yK)];exact h.fresh o (by omega)
 size:=by cases dst<;>simp[Act.put,h.size]
 env:=sj (λt=>(h.env t).step cu) (λd R6=>by rw[h.size];exact hd d R6) hv
 nI:=h.nI.base cu.base (by cases dst<;>rfl)
 rd:=h.rd.base cu.base
 nm:=λe=>(by cases dst<;>exact h.nm e)
 j:=h.j.base cu.base (by cases dst<;>rfl)
theorem ir{w w':aj}{b:Nat}(h:w'.heap[b]? =w.heap[b]?):w'.shape? b=w.shape? b:=by unfold cC;rw[h]
theorem RV.same{w':aj}{v:ah}{x:AV}(h:RV F μ w v x)(hs:∀b,F b\/μ.has b->w'.heap[b]? =w.heap[b]?):RV F μ w' v x:=by
 induction h with
 |any v=>exact .any v
 |p h=>exact .p (h.mono (λ_ h=>h) λb hb=>hs b (.inl hb))
 |ptr o off b h=>exact .ptr o off b h
 |dJ o sz off bL len cap b t n h1 h0 h2 h3 h4 h5=>exact .dJ o sz off bL len cap b t n h1 h0 ((ir (hs b (.inr (.inl ⟨o,h1⟩)))).trans h2) h3 h4 h5
 |bo o sz i len v _ ih=>exact .bo o sz i len _ ih
 |jb o sz i len cap base _ ih=>exact .jb o sz i len cap base ih
 |cr o sz i j v _ ih=>exact .cr o sz i j _ ih
 |mp o b h=>exact .mp o b h
 |ch o b h=>exact .ch o b h
 |agg cs l h1 _ ih=>exact .agg cs l h1 ih
 |bR cs l h1 _ ih=>exact .bR cs l h1 ih
 |fn f as bs ls ms h1 h2 _ _ i1 i2=>exact .fn f as bs ls ms h1 h2 i1 i2
theorem RO.same{w':aj}{b:Nat}{x:bJ}(h:RO F μ w b x)(hs:∀b,F b\/μ.has b->w'.heap[b]? =w.heap[b]?)(hb:w'.heap[b]? =w.heap[b]?):RO F μ w' b x:=by
 cases x with
 |dead=>trivial
 |cells cs=>
  obtain⟨cur,t,h1,h2,h3⟩:=h;exact⟨cur,t,hb.trans h1,h2,λi c hc=>(h3 i c hc).same hs⟩
 |row sz l=>
  obtain⟨h0,cur,t,h1,h2,h3⟩:=h;exact⟨h0,cur,t,hb.trans h1,h2,λi c hc=>(h3 i c hc).same hs⟩
 |map ks m=>
  obtain⟨h0,es,clock,h1,h2,h3,h4⟩:=h;exact⟨h0,es,clock,hb.trans h1,h2,h3,λi k v hm=>let⟨e,a,b,c⟩:=h4 i k v hm;⟨e,a,b.mono (λ_ h=>h) (λb hb=>hs b (.inl hb)),c.mono (λ_ h=>h) (λb hb=>hs b (.inl hb))⟩⟩
 |chan cap buf=>
  obtain⟨bs,x,y,h1,h2,h3⟩:=h;exact⟨bs,x,y,hb.trans h1,h2,λi c hc=>(h3 i c hc).mono (λ_ h=>h) (λb hb=>hs b (.inl hb))⟩
 |iter rem cur=>exact oX.mono h (λ_ h=>h) (λb hb=>hs b (.inl hb)) hb
 |cN ks sz m=>
  obtain⟨h0,es,clock,h1,h2,h3,c,h4,h5⟩:=h;refine⟨h0,es,clock,hb.trans h1,h2,h3,c,λi k x hx=>?_,h5⟩;obtain⟨e,a,d,g⟩:=h4 i k x hx;refine⟨e,a,d.mono (λ_ h=>h) (λb hb=>hs b (.inl hb)),?_⟩
  cases x with
  |h l=>exact⟨g.1,g.2.mono (λ_ h=>h) (λb hb=>hs b (.inl hb)) (hs _ (.inr (.inr ⟨b,g.1⟩)))⟩
  |v av=>exact RV.same g hs
theorem az.same{σ:ab}{w':aj}(h:az F μ σ w)(hz:w.heap.size<=w'.heap.size)(hs:∀b,F b\/μ.has b->w'.heap[b]? =w.heap[b]?):az F μ σ w':=
 ⟨h.fb.step (λ_ h=>h) (λb hb=>hs b (.inl hb)) λb hb=>fl (h.fb b hb) hz,λb hb=>fl (h.mb b hb) hz,h.has,λo b hb=>(h.obj o b hb).same hs (hs b (.inr (.inl ⟨o,hb⟩))),h.live,h.inj,h.hd,h.hu⟩
def tu(ops:List aH)(g:Option (Nat×Bool))(env:Env)(K:Bool->Env->Prop):Prop:=
 match g with
 |none=>K true env
 |some (j,want)=>(match(ops[j]?).bind (·.dst) with
  |none=>False
  |some t=>(match env.get t with
   |.p (.bool b)=>(b=want->K true ((t,.p (.bool want))::env))/\(b≠want->K false ((t,.p (.bool !want))::env))
   |.p (.bR [])=>K false env
   |_=>False))
theorem wP{v:ah}(h:RV F μ w v (.p (.bR []))):v= .tuple #[]:=by
 cases h with
 |p h=>cases h with
  |bR cs _ h1 _=>simp at h1;rw[h1]
theorem D5{ops:Array aH}{o:aH}{env:Env}{K:Bool->Env->Prop}(h:tu ops.toList o.guard env K)(he:∀t,RV F μ w (a.tmps[t]?.getD undef) (env.get t))
 (hd:∀(j:Nat) (x:aH) d,ops[j]? =some x->x.dst=some d->d<a.tmps.size):
 ∃b bO,K b bO/\je o (yielded ops a.tmps)=b/\ ∀t,RV F μ w (a.tmps[t]?.getD undef) (bO.get t):=by
 unfold tu at h;unfold je
 cases hg:o.guard with
 |none=>rw[hg] at h;exact⟨true,env,h,rfl,he⟩
 |some g=>
  obtain⟨j,want⟩:=g;rw[hg] at h;simp only[gi] at h
  cases ho:(ops[j]?).bind (·.dst) with
  |none=>rw[ho] at h;exact h.elim
  |some t=>
   rw[ho] at h;simp only at h
   have aC:t<a.tmps.size:=by
    obtain⟨x,hx,Vb⟩:=pb.1 ho;exact hd j x t hx Vb
   have ht:=he t;(have uk:a.tmps[t]? =some (a.tmps[t]?.getD undef):=by rw[dh aC];rfl);split at h
   · rename_i b hb
     rw[hb] at ht;have hv:=jx ht
     have hy:yielded ops a.tmps j=some b:=by
      unfold yielded;rw[ho];simp only[Option.bind_some];rw[uk,hv]
     rw[hv] at uk
     have bO:∀c,b=c-> ∀u,RV F μ w (a.tmps[u]?.getD undef) (Env.get ((t,.p (.bool c))::env) u):=λc hc u=>by
      simp only[Env.get];by_cases e:t=u
      · subst e;rw[if_pos rfl,hv,hc];exact .p (.bool _)
      · rw[if_neg e];exact he u
     by_cases hw:b=want
     · exact⟨true,_,h.1 hw,by simp[hy,hw],bO want hw⟩
     · exact⟨false,_,h.2 hw,by simp[hy,hw],bO (!want) (by cases b<;>cases want<;>simp_all)⟩
   · rename_i hb
     rw[hb] at ht;have hv:=wP ht
     have hy:yielded ops a.tmps j=none:=by
      unfold yielded;rw[ho];simp only[Option.bind_some];rw[uk,hv]
     exact⟨false,env,h,by simp[hy],he⟩
   · exact h.elim
def yieldOf(ev:aL->AV):Op->Option (Nat×List AV)
 |.call c=>(match c.callee with
  |.value x=>(match ev x with|.p (.fn (.yield l) [] [])=>some (l,c.args.toList.map ev)|_=>none)
  |_=>none)
 |_=>none
def x7:Op->Option aL
 |.panic x=>some x
 |_=>none
def Vc{P:au}(G:fK P)(op:Op)(ev:aL->AV)(yk:Nat)(K:AV->Prop):Prop:=
 match op with
 |.call c=>(match c.callee with
  |.value x=>(match ev x with
   |.fn (.yield l) [] []=>G.it=true/\l=G.l/\yk<=G.stop/\ ∃x,c.args.toList.map ev=x.map .p/\G.wd yk x/\K (.p (.bool (decide (yk≠G.stop))))
   |_=>False)
  |_=>False)
 |_=>False
def XG{P:au}(G:fK P)(op:Op)(dst:Option Nat)(env:Env)(hp:ab)(nx yk:Nat)(K:St->Prop)(KP:PV->St->Prop):Prop:=
 match x7 op with
 |some x=>(match bP env x with|.p (.iface t v)=>KP (.iface t v) ⟨env,hp,nx,yk⟩|_=>False)
 |none=>(match yieldOf (bP env) op with
  |some (l,as)=>(G.it=true/\l=G.l/\yk<G.xs.length/\yk<=G.stop/\as=(G.xs.getD yk []).map .p)/\K ⟨env.put dst (.p (.bool (decide (yk≠G.stop)))),hp,nx,yk+1⟩
  |none=>GA op (XA P op (bP env) hp nx λv us=>K ⟨env.put dst v,us++hp,nx+64,yk⟩) (gL (vR P op (bP env) hp nx λp us=>KP p ⟨env,us++hp,nx,yk⟩) (gq (R7 P op (bP env) hp nx λv us=>K ⟨env.put dst v,us++hp,nx+64,yk⟩) (Vc G op (bP env) yk λv=>K ⟨env.put dst v,hp,nx,yk+1⟩))))
def D6{P:au}(G:fK P)(ops:List aH):List aH->St->(St->Prop)->(PV->St->Prop)->Prop
 |[],s,K,_=>K s
 |o::r,s,K,KP=>tu ops o.guard s.env λb env=>match b with
  |true=>XG G o.op o.dst env s.hp s.nx s.yk (λs'=>D6 G ops r s' K KP) KP
  |false=>D6 G ops r ⟨env.put o.dst db,s.hp,s.nx,s.yk⟩ K KP
def sO(N:Nat)(ops:List aH):Bool:=ops.all λo=>match o.dst with|some d=>decide (d<N)|none=>true
theorem iu{ops:List aH}(h:sO N ops=true)(o:aH)(ho:o∈ops)(d:Nat)(hd:o.dst=some d):d<N:=by
 have:=cG.1 h o ho;rw[hd] at this;simpa using this
theorem GB:RV F μ w undef db:= .p (.bR _ _ rfl (by simp))
def qT(F:Nat->Prop)(w:aj)(ch:List PanicEntry)(p:PV):Prop:=∃v,ch=[{ v,recovered:=false }]/\RP F w v p
theorem CI{n:Nat}{s:St}{Q:Exit->Act->aj->Prop}{next:Act->aj->Prop}{K:St->Prop}{dst:Option Nat}{x:aL}{args:Array aL}{ats:Array an}{ty:an}{pos:String}{after:Array Edge}{guard:Option (Nat×Bool)}{l:Nat}{xs:List PV}(hd:∀d,dst=some d->d<C.N)(hs:oT C d0 F μ s a w)
 (h1:C.G.it=true) (h2:l=C.G.l) (h4:s.yk<=C.G.stop) (h3:(s.yk<C.G.xs.length/\xs=C.G.xs.getD s.yk [])\/C.G.wd s.yk xs) (MB:a.eval x= .func (.yield l) #[] #[]) (h5:args.toList.map (bP s.env)=xs.map .p)
 (hK:K ⟨s.env.put dst (.p (.bool (decide (s.yk≠C.G.stop)))),s.hp,s.nx,s.yk+1⟩)
 (hk:∀s' F' μ' a' w',K s'->Rl C.G F μ w F' μ' w'->Kp C.kp μ μ'->oT C d0 F' μ' s' a' w'->next a' w'):Oper.wpIn (fc d0.ro) n P { dst:=dst,op:= .call { callee:= .value x,args:=args,argTypes:=ats },type:=ty,pos:=pos,after:=after,guard:=guard } a w next Q:=by
 have dk:(args.map a.eval).size=xs.length:=by
  have:=congrArg kQ h5;simpa using this
 have Q1:∀(i:Nat) p,xs[i]? =some p->RP F w ((args.map a.eval)[i]?.getD undef) p:=λi p gj=>by
  (have h6:(args.toList.map (bP s.env))[i]? =some (.p p):=by rw[h5,aW,gj];rfl);simp only[aW,cm,gi] at h6;obtain⟨y,Q9,Bq⟩:=h6;have h7:=gu hs.h.fb.gl hs.env y;rw[Bq] at h7;simp only[Array.getElem?_map,Q9];exact h7.bG
 obtain⟨X,y7⟩:=hs.j;obtain⟨fn,tmps,assign,body,cY,fL⟩:=C.G.R8 h1 d0.ro (n-1) y7.j hs.h.fb (λb hb=>(aN.cA.1 hb).elim (hs.h.mb b) λhb=>(y7.x b hb).1) h3 h4 dk Q1;refine⟨cM _ a w,?_⟩;rw[jX _ _ _ (by simp)]
 have K1:(execOp a.eval { dst:=dst,op:= .call { callee:= .value x,args:=args,argTypes:=ats },type:=ty,pos:=pos,after:=after,guard:=guard }).run P w= .ok (.round C.G.l fn tmps assign body) w:=by
  simp only[execOp,resolve,MB,Deferred.ofValue,bu,cg,bD,invoke,Array.empty_append,h2];exact cY
 rw[K1,Oper.uponIn_round];refine⟨λh=>by simp[fc,fY] at h,RoundIn.mono fL λe w' he=>?_⟩;obtain⟨rfl,hj,MI⟩:=he;have Q':CH F μ w w':=⟨MI.os,MI.tape,MI.output,MI.size,λb hb=>MI.same b (hb.imp id λhb=>aN.cA.2 (.inl hb))⟩;have hkX:∀b,X b->w'.heap[b]? =w.heap[b]? :=λb hb=>MI.same b (.inr (aN.cA.2 (.inr hb)));refine hk _ F μ _ w' hK (λhf=>by rw[h1] at hf;cases hf) (Kp.refl _ _) ⟨hs.h.same Q'.size Q'.same,hs.fresh,by cases dst<;>simp[Act.put,hs.size],?_,?_,?_,λe=>(by cases dst<;>exact hs.nm e),?_⟩
 · exact sj (λt=>(hs.env t).same Q'.same) (λd R6=>by rw[hs.size];exact hd d R6) (.p (.bool _))
 · obtain⟨ms,m1,m2,m3⟩:=hs.nI
   refine⟨ms,⟨m1.1,dW m1.2 Q'.size⟩,by cases dst<;>exact m2,λr hr=>?_⟩;obtain⟨m4,m5⟩:=m3 r hr;exact⟨(hkX r (y7.ma h1 r (by rw[m2];exact cL.2 (.inl (aY.2 ⟨r,hr,rfl⟩))))).trans m4,m5⟩
 · intro l hl
   obtain⟨r,r1,r2⟩:=hs.rd l hl;exact⟨r,(hkX l (y7.ro h1 l hl)).trans r1,r2⟩
 · refine⟨X,hj,λb hb=>⟨fl (y7.x b hb).1 Q'.size,(y7.x b hb).2⟩,λ_ r hr=>y7.ma h1 r (by cases dst<;>exact hr),λ_=>y7.ro h1,λ_ b hb=>?_,λ_ b hb=>?_,λ_=>?_⟩
   · obtain⟨q1,q2⟩:=y7.kf h1 b hb
     exact⟨q1,(Q'.same b (.inl q1)).trans q2⟩
   · obtain⟨q1,q2⟩:=y7.kx h1 b hb
     exact⟨q1,(hkX b q1).trans q2⟩
   · obtain⟨q1,q2,q3,q4⟩:=y7.os h1
     exact⟨Q'.os.trans q1,Q'.tape.trans q2,Q'.output.trans q3,dW q4 Q'.size⟩
theorem CJ{n:Nat}{o:aH}{s:St}{Q:Exit->Act->aj->Prop}{next:Act->aj->Prop}{K:St->Prop}{KP:PV->St->Prop}(hd:∀d,o.dst=some d->d<C.N)(hs:oT C d0 F μ s a w)
 (h:XG C.G o.op o.dst s.env s.hp s.nx s.yk K KP)
 (hk:∀s' F' μ' a' w',K s'->Rl C.G F μ w F' μ' w'->Kp C.kp μ μ'->oT C d0 F' μ' s' a' w'->next a' w')
 (hp:∀s' F' μ' w' p ch,KP p s'->Rl C.G F μ w F' μ' w'->Kp C.kp μ μ'->oT C d0 F' μ' s' a w'->qT F' w' ch p->Q (.panic ch) a w'):o.wpIn (fc d0.ro) n P a w next Q:=by
 unfold XG at h;split at h
 · rename_i x hx
   split at h
   · rename_i t v hv
     have ie:=gu hs.h.fb.gl hs.env x;rw[hv] at ie;obtain⟨dst,op,ty,pos,after,guard⟩:=o;(cases op<;>try(cases hx;done));rename_i y;simp only[x7,Option.some.injEq] at hx;subst hx;generalize MB:a.eval y=u at ie;have ie:=ie.bG;have Vf:Q (.panic [{ v:=u,recovered:=false }]) a w:=hp s F μ w _ _ h (Rl.refl F μ w) (Kp.refl _ _) hs ⟨u,rfl,ie⟩
     cases ie with
     |iface _ v' _ hr=>
      refine⟨cM _ a w,?_⟩;rw[jX _ _ _ (by simp)]
      have cY:(execOp a.eval { dst:=dst,op:= .panic y,type:=ty,pos:=pos,after:=after,guard:=guard }).run P w= .halt (.panic (.iface t v')) w:=by
       simp only[execOp,MB];rfl
      rw[cY,Oper.uponIn_panic];exact Vf
   · exact h.elim
 · split at h
   · rename_i hx l as hy
     obtain⟨⟨h1,h2,h3,h4,h5⟩,hK⟩:=h;obtain⟨dst,op,ty,pos,after,guard⟩:=o
     obtain⟨x,args,ats,rfl⟩:∃x args ats,op= .call { callee:= .value x,args:=args,argTypes:=ats }:=by
      cases op with
      |call c=>
       obtain⟨callee,args,ats⟩:=c
       cases callee with
       |value x=>exact⟨x,args,ats,rfl⟩
       |_=>cases hy
      |_=>cases hy
     simp only[yieldOf] at hy;split at hy
     · rename_i l' sF
       injection hy with hy;injection hy with e1 e2;subst e1;have ie:=gu hs.h.fb.gl hs.env x;rw[sF] at ie;have ie:=ie.bG;generalize MB:a.eval x=u at ie
       cases ie with
       |fn _ us bs _ _ g1 g2 g3 g4=>
        have e3:us= #[]:=lW g1;have e4:bs= #[]:=lW g2;subst e3;subst e4
        have dk:(args.map a.eval).size=(C.G.xs.getD s.yk []).length:=by
         have:=congrArg kQ (e2.trans h5);simpa using this
        have Q1:∀(i:Nat) p,(C.G.xs.getD s.yk [])[i]? =some p->RP F w ((args.map a.eval)[i]?.getD undef) p:=λi p gj=>by
         (have h6:(args.toList.map (bP s.env))[i]? =some (.p p):=by rw[e2,h5,aW,gj];rfl);simp only[aW,cm,gi] at h6;obtain⟨y,Q9,Bq⟩:=h6;have h7:=gu hs.h.fb.gl hs.env y;rw[Bq] at h7;simp only[Array.getElem?_map,Q9];exact h7.bG
        exact CI hd hs h1 h2 h4 (.inl ⟨h3,rfl⟩) MB (e2.trans h5) hK hk
     · cases hy
   · rcases K0 h with h|h
     · refine MH hs.h (λo h1 _=>hs.fresh o h1) (gu hs.h.fb.gl hs.env) h λav us v w' F' μ' k1 k2 k3 k4 k5=>?_
       exact hk _ F' μ' _ w' k1 (.of k2.base) (.step k2) (hs.put hd k2 k3 k4 k5)
     · rcases h.h with h|h
       · refine y5 hs.h (λo h1 _=>hs.fresh o h1) (gu hs.h.fb.gl hs.env) h λp us v w' k1 k2 k3 k4=>?_
         exact hp ⟨s.env,us++s.hp,s.nx,s.yk⟩ F μ w' p _ k1 (.of k2.base) (.step k2) ⟨k3,hs.fresh,hs.size,λt=>(hs.env t).step k2,hs.nI.base k2.base rfl,hs.rd.base k2.base,hs.nm,hs.j.base k2.base rfl⟩ ⟨v,rfl,k4⟩
       · rcases h.h with h|h
         · refine I3 (nid:=s.nx) hs.h (λo h1 _=>hs.fresh o h1) (gu hs.h.fb.gl hs.env) h λav us v w' F' μ' k1 k2 k3 k4 k5=>?_
           exact hk _ F' μ' _ w' k1 (.of k2.base) (.step k2) (hs.put hd k2 k3 k4 k5)
         · unfold Vc at h
           obtain⟨dst,op,ty,pos,after,guard⟩:=o
           cases op with
           |call c=>
            obtain⟨callee,args,ats⟩:=c
            cases callee with
            |builtin b=>exact h.elim
            |invoke r m=>exact h.elim
            |value x=>
             simp only at h;split at h
             · rename_i l hl
               obtain⟨h1,h2,h4,xs,h5,h6,hK⟩:=h;have ie:=gu hs.h.fb.gl hs.env x;rw[hl] at ie;generalize MB:a.eval x=u at ie
               cases ie with
               |fn _ us bs _ _ g1 g2 g3 g4=>
                have e3:us= #[]:=lW g1;have e4:bs= #[]:=lW g2;subst e3;subst e4;exact CI (K:=K) hd hs h1 h2 h4 (.inr h6) MB h5 hK hk
             · exact h.elim
           |_=>exact h.elim
theorem y8{n:Nat}{ops:Array aH}{Q:Exit->Act->aj->Prop}{K:St->Prop}{KP:PV->St->Prop}(bQ:sO C.N ops.toList=true):
 ∀(l:List aH) (s:St) (F:Nat->Prop) (μ:aN) (a:Act) (w:aj),(∀o∈l,o∈ops.toList)->oT C d0 F μ s a w->D6 C.G ops.toList l s K KP->
  (∀s' F' μ' a' w',K s'->Rl C.G F μ w F' μ' w'->Kp C.kp μ μ'->oT C d0 F' μ' s' a' w'->Q .normal a' w')->
  (∀s' F' μ' a' w' p ch,KP p s'->Rl C.G F μ w F' μ' w'->Kp C.kp μ μ'->oT C d0 F' μ' s' a' w'->qT F' w' ch p->Q (.panic ch) a' w')->wpListIn (fc d0.ro) n P ops Q l a w:=by
 intro l
 induction l with
 |nil=>intro s F μ a w _ hs h hk _;exact hk s F μ a w h (Rl.refl F μ w) (Kp.refl _ _) hs
 |cons o r ih=>
  intro s F μ a w tv hs h hk hp;have I4:∀d,o.dst=some d->d<C.N:=iu bQ o (tv o (by simp));simp only[D6] at h
  obtain⟨b,bO,h1,h2,h3⟩:=D5 h hs.env (λj x d hx hd=>by
   rw[hs.size];exact iu bQ x (by rw[nF];exact Array.mem_of_getElem? hx) d hd)
  have OW:oT C d0 F μ ⟨bO,s.hp,s.nx,s.yk⟩ a w:=⟨hs.h,hs.fresh,hs.size,h3,hs.nI,hs.rd,hs.nm,hs.j⟩;simp only[wpListIn];rw[h2]
  cases b with
  |true=>
   simp only[if_true];simp only at h1;refine CJ (s:=⟨bO,s.hp,s.nx,s.yk⟩) I4 OW h1 (λs' F' μ' a' w' k1 k2 k3 k4=>?_) λs' F' μ' w' p ch k1 k2 k3 k4 k5=>hp s' F' μ' a w' p ch k1 k2 k3 k4 k5
   exact ih s' F' μ' a' w' (λx hx=>tv x (by simp[hx])) k4 k1 (λXH R9 y9 XI UI e1 e2 e3 e4=>hk XH R9 y9 XI UI e1 (k2.trans e2) (k3.trans e3) e4)
    λXH R9 y9 XI UI p ch e1 e2 e3 e4 e5=>hp XH R9 y9 XI UI p ch e1 (k2.trans e2) (k3.trans e3) e4 e5
  |false=>
   simp only[mB,if_false];simp only at h1;refine⟨cM o a w,?_⟩
   exact ih ⟨bO.put o.dst db,s.hp,s.nx,s.yk⟩ F μ _ w (λx hx=>tv x (by simp[hx]))
    ⟨hs.h,hs.fresh,by cases o.dst<;>simp[Act.put,hs.size],sj h3 (λd hd=>by rw[hs.size];exact I4 d hd) GB,hs.nI.base (dO.refl F μ w) (by cases o.dst<;>rfl),hs.rd,λe=>(by cases o.dst<;>exact hs.nm e),hs.j.base (dO.refl F μ w) (by cases o.dst<;>rfl)⟩ h1 hk hp
end
section
variable{P:au}{K:AV->Prop}{σ σ':ab}
theorem pd{g:Bool}{s:Nat}{cs:List PV}{off:Nat}(h:qu g s cs off K):∃v,K v/\qu g s cs off (· =v):=by
 unfold qu at *;cases g
 · simp only at h ⊢
   split at h
   · rename_i v hv;exact⟨_,h,by simp only[hv]⟩
   · exact h.elim
 · exact⟨_,h.2,h.1,rfl⟩
theorem tw{g:Bool}{s:Nat}{cs:List AV}{off:Nat}(h:sI g s cs off K):∃v,K v/\sI g s cs off (· =v):=by
 unfold sI at *;cases g
 · simp only at h ⊢
   split at h
   · rename_i v hv;exact⟨_,h,by simp only[hv]⟩
   · exact h.elim
 · exact⟨_,h.2,h.1,rfl⟩
theorem I5{c a b:AV}(h:Cd c a b K):∃v,K v/\Cd c a b (· =v):=by
 unfold Cd at h;split at h
 · exact⟨_,h,rfl⟩
 · exact h.elim
theorem GC{t f:Nat}{x:AV}(h:vt P t f x K):∃v,K v/\vt P t f x (· =v):=by
 unfold vt at *;split at h
 · split at h
   · exact pd h
   · exact tw h
   · exact h.elim
 · exact h.elim
theorem y'{t:an}{a:AV}(h:wA P t a σ K)(he:∀q,q∈cw a->σ'.get q=σ.get q):∃v,K v/\wA P t a σ' (· =v):=by
 unfold wA at *;split at h
 · split at h
   · exact pd h
   · rename_i o off
     split at h
     · rename_i cs jH
       rw[<-he o (by simp[cw])] at jH;simp only[jH];exact tw h
     · exact h.elim
   · exact h.elim
 · exact h.elim
theorem CL{a:AV}(h:IE a K):∃v,K v/\IE a (· =v):=by
 unfold IE at h;split at h<;>first|exact h.elim|exact⟨_,h,rfl⟩
theorem GD{t f:Nat}{x:AV}(h:TH P t f x K):∃v,K v/\TH P t f x (· =v):=by
 unfold TH at *;split at h
 · split at h<;>first|exact h.elim|exact⟨_,h.2,h.1,rfl⟩
 · exact h.elim
theorem GF{t:an}{x i:AV}(h:Ry P t x i K):∃v,K v/\Ry P t x i (· =v):=by
 unfold Ry at *;split at h
 · split at h
   · rename_i n
     obtain⟨⟨h1,h2,h3⟩,h⟩:=h;have hn:n.toNat<_:=(Int.toNat_lt h2).2 h3;have hg:=aV hn;exact⟨_,h _ hg,⟨h1,h2,h3⟩,λp hp=>by rw[hg] at hp;injection hp with hp;rw[hp]⟩
   · exact⟨_,h.2,h.1,rfl⟩
   · exact h.elim
 · split at h
   · split at h<;>first|exact h.elim|exact⟨_,h.2,h.1,rfl⟩
   · exact h.elim
theorem OX{t:an}{x i:AV}(h:Wq P t x i K):∃v,K v/\Wq P t x i (· =v):=by
 unfold Wq at *;split at h
 · split at h
   · obtain⟨v,h1,h2⟩:=pd h.2;exact⟨v,h1,h.1,h2⟩
   · obtain⟨v,h1,h2⟩:=tw h.2;exact⟨v,h1,h.1,h2⟩
   · exact h.elim
 · split at h
   · exact⟨_,h.2.2,h.1,h.2.1,rfl⟩
   · exact h.elim
theorem MJ{op:BinOp}{k k':IntKind}{a b:Int}(h:Mb op k k' a b K):∃v,K v/\Mb op k k' a b (· =v):=by
 cases op<;>simp only[Mb] at h ⊢ <;>first|exact⟨_,h.2.2,h.1,h.2.1,rfl⟩|exact⟨_,h.2,h.1,rfl⟩
theorem MK{op:BinOp}{t:an}{x y:AV}(h:Mc P op t x y K):∃v,K v/\Mc P op t x y (· =v):=by
 unfold Mc at *;split at h
 · exact MJ h
 · cases op<;>simp only[Rz] at h ⊢ <;>first|exact h.elim|exact⟨_,h,rfl⟩|exact⟨_,h.2,h.1,rfl⟩
 · cases op<;>simp only[KM] at h ⊢ <;>first|exact h.elim|exact⟨_,h.2,h.1,rfl⟩
 · exact h.elim
theorem OY{op:UnOp}{x:AV}(h:Wr op x K):∃v,K v/\Wr op x (· =v):=by
 unfold Wr at h;split at h<;>first|exact h.elim|exact⟨_,h,rfl⟩|exact⟨_,h.2,h.1,rfl⟩
theorem OZ{x:AV}{i:Nat}(h:Ws x i K):∃v,K v/\Ws x i (· =v):=by
 unfold Ws at *;split at h
 · split at h
   · exact⟨_,h,rfl⟩
   · exact h.elim
 · split at h
   · exact⟨_,h,rfl⟩
   · exact h.elim
 · exact h.elim
theorem za{s d:an}{x:AV}(h:wB P s d x σ K)(he:∀q,q∈cw x->σ'.get q=σ.get q):∃v,K v/\wB P s d x σ' (· =v):=by
 unfold wB at *;split at h
 · split at h
   · exact⟨_,h.2,h.1,rfl⟩
   · exact h.elim
 · split at h
   · exact⟨_,h.2,h.1,rfl⟩
   · obtain⟨h1,h2,q,h3,h4⟩:=h
     exact⟨_,h4,h1,h2,q,h3,rfl⟩
   · rename_i o sz off len
     obtain⟨h1,h2,h⟩:=h;split at h
     · rename_i cs jH
       rw[<-he o (by simp[cw])] at jH;obtain⟨h3,q,h4,h5⟩:=h;refine⟨_,h5,h1,h2,?_⟩;simp only[jH];exact⟨h3,q,h4,rfl⟩
     · exact h.elim
   · exact h.elim
 · exact h.elim
theorem GG{t:an}{x:AV}{lo hi mx:Option AV}(h:RB P t x lo hi mx σ K)(he:∀q,q∈cw x->σ'.get q=σ.get q):∃v,K v/\RB P t x lo hi mx σ' (· =v):=by
 unfold RB at *;split at h
 · split at h
   · split at h
     · exact⟨_,h.2,h.1,rfl⟩
     · exact⟨_,h.2.2.2,h.1,h.2.1,h.2.2.1,rfl⟩
   · exact h.elim
 · split at h
   · split at h
     · exact⟨_,h.2,h.1,rfl⟩
     · exact⟨_,h.2.2.2,h.1,h.2.1,h.2.2.1,rfl⟩
   · exact h.elim
 · rename_i o off
   split at h
   · rename_i n s g cs ht jH
     rw[<-he o (by simp[cw])] at jH;simp only[ht,jH];split at h
     · exact⟨_,h.2.2,h.1,h.2.1,rfl⟩
     · exact h.elim
   · exact h.elim
 · split at h
   · exact⟨_,h.2.2.2,h.1,h.2.1,h.2.2.1,rfl⟩
   · exact h.elim
 · exact h.elim
theorem O0{t:an}{x:AV}(h:Wu P t x K):∃v,K v/\Wu P t x (· =v):=by
 unfold Wu at h;split at h<;>first|exact h.elim|exact⟨_,h.2.2,h.1,h.2.1,rfl⟩
theorem O1{t:an}{x:AV}(h:Wt P t x K):∃v,K v/\Wt P t x (· =v):=by
 unfold Wt at h;split at h<;>first|exact h.elim|exact⟨_,h.2,h.1,rfl⟩
theorem CM{x:AV}{t:an}(h:FA x P t K):∃v,K v/\FA x P t (· =v):=by
 unfold FA at h;split at h<;>first|exact h.elim|exact⟨_,h.2,h.1,rfl⟩
theorem uE{mx:Bool}{r:List AV}:∀{x:AV},iE mx x r K->∃v,K v/\iE mx x r (· =v):=by
 induction r with
 |nil=>
  intro x h;unfold iE at h;split at h
  · exact⟨_,h,rfl⟩
  · exact h.elim
 |cons y r ih=>
  intro x h;unfold iE at h;split at h
  · rename_i h1;cases h1
  · rename_i k a k' b r' hy
    injection hy with Q9 Bq;subst Q9;subst Bq;obtain⟨v,h1,h2⟩:=ih h;exact⟨v,h1,h2⟩
  · exact h.elim
theorem GH{t:an}{parts:List (Nat×AV)}(h:vu P t parts K):∃v,K v/\vu P t parts (· =v):=by
 unfold vu at *;split at h
 · split at h
   · exact⟨_,h,rfl⟩
   · exact h.elim
 · exact h.elim
variable{W:AV->ab->Prop}{nid:Nat}
theorem CN{x:AV}{s:Nat}{Kn:Nat->List AV->Prop}(h:mc x s σ Kn)(he:∀q,q∈cw x->σ'.get q=σ.get q):
 ∃n new,Kn n new/\ ∀OF:Nat->List AV->Prop,OF n new->mc x s σ' OF:=by
 unfold mc at *;split at h
 · exact⟨_,_,h.2,λK' hk=>⟨h.1,hk⟩⟩
 · rename_i o sz off n
   obtain⟨h1,h⟩:=h;split at h
   · rename_i cs jH
     rw[<-he o (by simp[cw])] at jH;exact⟨_,_,h.2,λK' hk=>⟨h1,by simp only[jH];exact⟨h.1,hk⟩⟩⟩
   · exact h.elim
 · exact⟨_,_,h.2,λK' hk=>⟨h.1,hk⟩⟩
 · exact h.elim
theorem wQ{t:an}{a x:AV}(h:mI P t a x σ W)(he:∀q,q∈cw a->σ'.get q=σ.get q):∃v us,W v us/\mI P t a x σ' (λv' eu=>v'=v/\eu=us):=by
 unfold mI at *;split at h
 · rename_i o off s g ht
   split at h
   · rename_i cs jH
     rw[<-he o (by simp[cw])] at jH;refine⟨_,_,h.2,?_⟩;simp only[jH];exact⟨h.1,by simp⟩
   · exact h.elim
 · exact h.elim
theorem uF{t xt:an}{a x:AV}(h:jm P t xt a x σ nid W)(he:∀q,q∈cw a\/q∈cw x->σ'.get q=σ.get q):
 ∃v us,W v us/\jm P t xt a x σ' nid (λv' eu=>v'=v/\eu=us):=by
 unfold jm at *;split at h
 · obtain⟨h0,h⟩:=h
   obtain⟨n,new,h1,h2⟩:=CN h λq hq=>he q (.inr hq);split at h1
   · obtain⟨h3,h4,h5⟩:=h1
     rcases Nat.eq_zero_or_pos n with hn|hn
     · exact⟨_,_,h4 hn,h0,h2 _ ⟨h3,λ_=>⟨rfl,rfl⟩,λh=>by omega⟩⟩
     · exact⟨_,_,h5 hn,h0,h2 _ ⟨h3,λh=>by omega,λ_=>⟨rfl,rfl⟩⟩⟩
   · rename_i o sz off len
     split at h1
     · rename_i cs jH
       rw[<-he o (.inl (by simp[cw]))] at jH;obtain⟨h3,h4,h5⟩:=h1;rcases Nat.eq_zero_or_pos n with hn|hn
       · exact⟨_,_,h4 hn,h0,h2 _ (by simp only[jH];exact⟨h3,λ_=>by simp,λh=>by omega⟩)⟩
       · exact⟨_,_,h5 hn,h0,h2 _ (by simp only[jH];exact⟨h3,λh=>by omega,λ_=>by simp⟩)⟩
     · exact h1.elim
   · exact h1.elim
 · exact h.elim
theorem zb{t:an}{a x:AV}(h:uo P t a x σ W)(he:∀q,q∈cw a\/q∈cw x->σ'.get q=σ.get q):
 ∃v us,W v us/\uo P t a x σ' (λv' eu=>v'=v/\eu=us):=by
 unfold uo at *;split at h
 · obtain⟨h0,h⟩:=h
   rename_i o sz off len _;obtain⟨n,new,h1,h2⟩:=CN h λq hq=>he q (.inr hq);split at h1
   · rename_i cs jH
     rw[<-he o (.inl (by simp[cw]))] at jH;exact⟨_,_,h1.2,h0,h2 _ (by simp only[jH];exact⟨h1.1,by simp⟩)⟩
   · exact h1.elim
 · exact h.elim
theorem zc{s d:an}{x:AV}(h:mo P s d x W):∃v us,W v us/\mo P s d x (λv' eu=>v'=v/\eu=us):=by
 unfold mo at *;split at h
 · exact⟨_,_,h.2,h.1,rfl,rfl⟩
 · exact h.elim
theorem kU{t:an}{len:Nat}{parts:List (Nat×AV)}(h:fF P t len parts nid W):∃v us,W v us/\fF P t len parts nid (λv' eu=>v'=v/\eu=us):=by
 unfold fF at *;split at h
 · obtain⟨h0,h⟩:=h
   split at h
   · rename_i cs jH;exact⟨_,_,h,h0,by simp only[jH];simp⟩
   · exact h.elim
 · exact h.elim
theorem xF{t:an}{n c:AV}(h:jo P t n c nid W):∃v us,W v us/\jo P t n c nid (λv' eu=>v'=v/\eu=us):=by
 unfold jo at *;split at h
 · exact⟨_,_,h.2,h.1,rfl,rfl⟩
 · exact h.elim
theorem wR{t:an}(h:qA P t nid W):∃v us,W v us/\qA P t nid (λv' eu=>v'=v/\eu=us):=by
 unfold qA at *;split at h
 · exact⟨_,_,h,rfl,rfl⟩
 · split at h
   · split at h
     · exact⟨_,_,h,rfl,rfl⟩
     · exact h.elim
   · exact h.elim
theorem I6{c:Option (bf×List AV)}(h:CC P c σ W):∃v us,W v us/\ ∀σ':ab,(∀q,q∈keys us->σ'.get q=σ.get q)->CC P c σ' (λv' eu=>v'=v/\eu=us):=by
 obtain⟨f,as,Z,ps,r,h1,h2,h3,h4,h5,h6⟩:=h;refine⟨_,_,h6,λσ' he=>?_⟩;have Fj:∀o,o∈Z->σ'.get o=σ.get o:=λo ho=>he o (by simp[keys];exact ho);refine⟨f,as,Z,ps,r,h1,h2,λo ho=>by rw[Fj o ho];exact h3 o ho,h4.local Fj,h5,rfl,?_⟩;apply List.map_congr_left;intro o ho;rw[Fj o ho]
theorem mz{ev ev':aL->AV}{l:List aL}(h:∀x∈l,ev' x=ev x):l.map ev'=l.map ev:=List.map_congr_left h
theorem iH{ev ev':aL->AV}{l:Option aL}(h:∀x,l=some x->ev' x=ev x):l.map ev'=l.map ev:=by
 cases l with
 |none=>rfl
 |some x=>simp[h x rfl]
theorem qU{ev ev':aL->AV}{l:List (Nat×aL)}(h:∀x∈l.map (·.2),ev' x=ev x):l.map (λy=>(y.1,ev' y.2))=l.map λy=>(y.1,ev y.2):=
 List.map_congr_left λy hy=>by rw[h y.2 (aY.2 ⟨y,hy,rfl⟩)]
theorem D7{op:Op}{ev ev':aL->AV}(h:qK P op ev σ K)(aR:∀x∈op.operands.toList,ev' x=ev x)
 (he:∀q,q∈(op.operands.toList.map ev).flatMap cw->σ'.get q=σ.get q):∃v,K v/\qK P op ev' σ' (· =v):=by
 cases op<;>simp only[qK] at h ⊢ <;>try exact h.elim
 case move x=>exact⟨_,h,aR x (by simp[aF])⟩
 case assign x=>exact⟨_,h,aR x (by simp[aF])⟩
 case pick c a b=>rw[aR c (by simp[aF]),aR a (by simp[aF]),aR b (by simp[aF])];exact I5 h
 case field t x f=>rw[aR x (by simp[aF])];exact GC h
 case load t a=>rw[aR a (by simp[aF])];exact y' h λq hq=>he q (by simp[aF,hq])
 case nilCheck x=>rw[aR x (by simp[aF])];exact CL h
 case fieldAddr t x f=>rw[aR x (by simp[aF])];exact GD h
 case indexAddr t x i=>rw[aR x (by simp[aF]),aR i (by simp[aF])];exact GF h
 case index t x i=>rw[aR x (by simp[aF]),aR i (by simp[aF])];exact OX h
 case binOp op t x y _=>rw[aR x (by simp[aF]),aR y (by simp[aF])];exact MK h
 case unOp op _ x=>rw[aR x (by simp[aF])];exact OY h
 case extract x i=>rw[aR x (by simp[aF])];exact OZ h
 case convert s d x=>rw[aR x (by simp[aF])];exact za h λq hq=>he q (by simp[aF,hq])
 case makeFunc f a b=>
  rw[mz (l:=a.toList) (λx hx=>aR x (by simp[aF,nF.1 hx])),mz (l:=b.toList) (λx hx=>aR x (by simp[aF,nF.1 hx]))];exact⟨_,h,rfl⟩
 case slice t x lo hi mx=>
  rw[aR x (by simp[aF]),iH (l:=lo) (λy hy=>aR y (by simp[aF,hy])),iH (l:=hi) (λy hy=>aR y (by simp[aF,hy])),
   iH (l:=mx) (λy hy=>aR y (by simp[aF,hy]))]
  exact GG h λq hq=>he q (by simp[aF,hq])
 case makeInterface t x=>rw[aR x (by simp[aF])];exact O1 h
 case typeAssert x xt t c=>
  cases c with
  |false=>simp only at h ⊢;rw[aR x (by simp[aF])];exact O0 h
  |true=>exact h.elim
 case build t parts=>
  rw[qU (l:=parts.toList) (λx hx=>aR x (by simpa[aF] using hx))];exact GH h
 case call c=>
  obtain⟨callee,args,ats⟩:=c
  cases callee with
  |builtin b=>
   have Bs:∀x∈args.toList,ev' x=ev x:=λx hx=>aR x (by simp[aF,fQ,nF.1 hx]);cases b<;>simp only[] at h ⊢ <;>try exact h.elim
   · split at h
     · rename_i x t hx ht
       rw[Bs x (by rw[hx];simp)];exact CM h
     · exact h.elim
   · split at h
     · rename_i x r hx
       rw[Bs x (by rw[hx];simp),mz (l:=r) (λy hy=>Bs y (by rw[hx];simp[hy]))];exact uE h
     · exact h.elim
   · split at h
     · rename_i x r hx
       rw[Bs x (by rw[hx];simp),mz (l:=r) (λy hy=>Bs y (by rw[hx];simp[hy]))];exact uE h
     · exact h.elim
  |value f=>exact h.elim
  |invoke x m=>exact h.elim
theorem Sa{op:Op}{ev ev':aL->AV}(h:wK P op ev σ nid W)(aR:∀x∈op.operands.toList,ev' x=ev x)
 (he:∀q,q∈(op.operands.toList.map ev).flatMap cw->σ'.get q=σ.get q):∃v us,W v us/\wK P op ev' σ' nid (λv' eu=>v'=v/\eu=us):=by
 cases op<;>simp only[wK] at h ⊢ <;>try exact h.elim
 case alloc t=>exact wR h
 case box t x=>rw[aR x (by simp[aF])];exact⟨_,_,h.2,h.1,rfl,rfl⟩
 case store t a x=>rw[aR x (by simp[aF]),aR a (by simp[aF])];exact wQ h λq hq=>he q (by simp[aF,hq])
 case buildSlice t n parts=>
  rw[qU (l:=parts.toList) (λx hx=>aR x (by simpa[aF] using hx))];exact kU h
 case makeSlice t n c=>rw[aR n (by simp[aF]),aR c (by simp[aF])];exact xF h
 case convert s d x=>rw[aR x (by simp[aF])];exact zc h
 case call c=>
  obtain⟨callee,args,ats⟩:=c;split at h
  · rename_i x y t xt sJ er h1 h2
    simp only at er h1 h2;have hx:∀z∈[x,y],ev' z=ev z:=λz hz=>aR z (by simp only[aF,fQ];simp;right;rw[<-nF,er];exact hz);rw[hx x (by simp),hx y (by simp)];exact uF h λq hq=>he q (by simp only[aF,fQ];simp[er];right;exact hq)
  · rename_i x y t sJ er h1
    simp only at er h1;have hx:∀z∈[x,y],ev' z=ev z:=λz hz=>aR z (by simp only[aF,fQ];simp;right;rw[<-nF,er];exact hz);rw[hx x (by simp),hx y (by simp)];exact zb h λq hq=>he q (by simp only[aF,fQ];simp[er];right;exact hq)
  · exact h.elim
theorem ze{c:Option (bf×List AV)}(h:yX P c σ nid W):∃v us,W v us/\ ∀σ':ab,(∀q,q∈keys us->σ'.get q=σ.get q)->yX P c σ' nid (λv' eu=>v'=v/\eu=us):=by
 obtain⟨f,as,qg,jI,r,dX,ρ,hc,gp,has,iX,gU,cj,uC,vN,r7,jZ,hK⟩:=h;refine⟨_,_,hK,λσ' he=>?_⟩
 have hk:∀i,i<ρ.length->σ'.get (ρ.getD i 0)=σ.get (ρ.getD i 0):=λi hi=>he _ (by
  rw[Gw];exact aY.2 ⟨i,vN i hi,if_pos hi⟩)
 refine⟨f,as,qg,jI,r,dX,ρ,hc,gp,has,iX,λo ho=>?_,λi hi=>(hk i hi).trans (cj i hi),uC,vN,r7,jZ,rfl,rfl⟩;obtain⟨i,hi,rfl⟩:=lM ho;(have:ρ.getD i 0=ρ[i]:=by rw[im,aV hi];rfl);rw[<-this,hk i hi,this];exact gU _ ho
theorem I7{c:AV×List AV}(h:oD P c σ nid W):∃v us,W v us/\ ∀σ':ab,(∀q,q∈c.2.flatMap cw\/q∈keys us->σ'.get q=σ.get q)->oD P c σ' nid (λv' eu=>v'=v/\eu=us):=by
 rcases h.h with h|h|h|h
 · obtain⟨v,us,h1,h2⟩:=I6 h
   exact⟨v,us,h1,λσ' he=>⟨.inl (h2 σ' λq hq=>he q (.inr hq))⟩⟩
 · obtain⟨v,us,h1,h2⟩:=ze h
   exact⟨v,us,h1,λσ' he=>⟨.inr (.inl (h2 σ' λq hq=>he q (.inr hq)))⟩⟩
 · obtain⟨f,a1,a2,o1,s1,i1,n1,o2,s2,i2,n2,l1,l2,hc,hf,e1,e2,pR,g1,g2,h0,hl,hK⟩:=h
   exact⟨_,_,hK,λσ' he=>⟨.inr (.inr (.inl ⟨f,a1,a2,o1,s1,i1,n1,o2,s2,i2,n2,l1,l2,hc,hf,e1,e2,pR,(he o1 (.inr (by simp[keys]))).trans g1,(he o2 (.inr (by simp[keys]))).trans g2,h0,hl,rfl,rfl⟩))⟩⟩
 · obtain⟨r,us,h,cj,xD,hK⟩:=h
   obtain⟨v,eu,⟨rfl,rfl⟩,h2⟩:=ze h;refine⟨_,[],hK,λσ' he=>⟨.inr (.inr (.inr ⟨_,_,h2 σ' (λq hq=>he q (.inl (xD q hq))),λi=>?_,xD,rfl,rfl⟩))⟩⟩;have h3:=cj i;rw[get_append] at h3 ⊢;split
   · rename_i hi
     rw[if_pos hi] at h3;rw[h3,he i (.inl (xD i hi))]
   · rfl
theorem I8{t:an}{x i:AV}(h:uu P t x i K):∃v,K v/\uu P t x i (· =v):=by
 cases x with
 |bo o sz i0 len=>simp only[uu] at *;split at h<;>first|exact h.elim|exact⟨_,h.2,h.1,rfl⟩
 |cr o sz i0 j=>simp only[uu] at *;split at h<;>first|exact h.elim|exact⟨_,h.2,h.1,rfl⟩
 |_=>simp only[uu] at h ⊢;exact GF h
theorem D8{t:an}{a:AV}(h:nE P t a σ K)(he:∀q,q∈cw a->σ'.get q=σ.get q):∃v,K v/\nE P t a σ' (· =v):=by
 cases a with
 |cr o sz i j=>
  simp only[nE] at *;rw[he o (by simp[cw])];split at h
  · split at h
    · obtain⟨h1,h2⟩:=h
      have hi:=h1.2.2.2.2;obtain⟨v,h3,h4⟩:=pd (h2 _ (aV hi));refine⟨v,h3,h1,λp hp=>?_⟩
      rw[aV hi] at hp;injection hp with hp;rw[<-hp];exact h4
    · exact⟨_,h.2,h.1,rfl⟩
  · exact h.elim
 |_=>simp only[nE] at h ⊢;exact y' h he
theorem I9{t f:Nat}{x:AV}(h:yE P t f x K):∃v,K v/\yE P t f x (· =v):=by
 cases x with
 |cr o sz i0 j=>simp only[yE] at *;split at h<;>first|exact h.elim|exact⟨_,h.2,h.1,rfl⟩
 |_=>simp only[yE] at h ⊢;exact GD h
theorem GI{x:AV}(h:yF x K):∃v,K v/\yF x (· =v):=by
 cases x with
 |cr o sz i0 j=>exact⟨_,h,rfl⟩
 |_=>simp only[yF] at h ⊢;exact CL h
theorem D9{s d:an}{x:AV}(h:o5 P s d x σ K)(he:∀q,q∈cw x->σ'.get q=σ.get q):∃v,K v/\o5 P s d x σ' (· =v):=by
 cases x with
 |bo o sz i len=>
  simp only[o5] at *;rw[he o (by simp[cw])];split at h
  · obtain⟨h1,h⟩:=h
    split at h
    · obtain⟨h2,q,h3,h4⟩:=h
      exact⟨_,h4,h1,h2,q,h3,rfl⟩
    · exact h.elim
  · exact h.elim
 |_=>simp only[o5] at h ⊢;exact za h he
theorem I'{t:an}{x:AV}{lo hi mx:Option AV}(h:uv P t x lo hi mx σ K)(he:∀q,q∈cw x->σ'.get q=σ.get q):∃v,K v/\uv P t x lo hi mx σ' (· =v):=by
 cases x with
 |bo o sz i len=>
  simp only[uv] at *;split at h
  · split at h
    · exact⟨_,h.2,h.1,rfl⟩
    · exact⟨_,h.2.2.2,h.1,h.2.1,h.2.2.1,rfl⟩
  · exact h.elim
 |cr o sz i j=>
  simp only[uv] at *;rw[he o (by simp[cw])];split at h
  · split at h
    · exact⟨_,h.2,h.1,rfl⟩
    · exact h.elim
  · exact h.elim
 |_=>simp only[uv] at h ⊢;exact GG h he
theorem qV{x:AV}{t:an}(h:vB x P t K):∃v,K v/\vB x P t (· =v):=by
 cases x with
 |bo o sz i len=>exact⟨_,h.2,h.1,rfl⟩
 |_=>simp only[vB] at h ⊢;exact CM h
theorem K2{op:Op}{ev ev':aL->AV}(h:xQ P op ev σ K)(aR:∀x∈op.operands.toList,ev' x=ev x)
 (he:∀q,q∈(op.operands.toList.map ev).flatMap cw->σ'.get q=σ.get q):∃v,K v/\xQ P op ev' σ' (· =v):=by
 cases op<;>simp only[xQ] at h ⊢
 case load t a=>rw[aR a (by simp[aF])];exact D8 h λq hq=>he q (by simp[aF,hq])
 case nilCheck x=>rw[aR x (by simp[aF])];exact GI h
 case fieldAddr t x f=>rw[aR x (by simp[aF])];exact I9 h
 case indexAddr t x i=>rw[aR x (by simp[aF]),aR i (by simp[aF])];exact I8 h
 case convert s d x=>rw[aR x (by simp[aF])];exact D9 h λq hq=>he q (by simp[aF,hq])
 case slice t x lo hi mx=>
  rw[aR x (by simp[aF]),iH (l:=lo) (λy hy=>aR y (by simp[aF,hy])),iH (l:=hi) (λy hy=>aR y (by simp[aF,hy])),
   iH (l:=mx) (λy hy=>aR y (by simp[aF,hy]))]
  exact I' h λq hq=>he q (by simp[aF,hq])
 case call c=>
  obtain⟨callee,args,ats⟩:=c
  cases callee with
  |builtin b=>
   have Bs:∀x∈args.toList,ev' x=ev x:=λx hx=>aR x (by simp[aF,fQ,nF.1 hx])
   cases b with
   |len=>
    simp only[] at h ⊢;split at h
    · rename_i x t hx ht
      rw[Bs x (by rw[hx];simp)];exact qV h
    · exact h.elim
   |_=>exact D7 h aR he
  |_=>exact D7 h aR he
 all_goals exact D7 h aR he
theorem Bt{t:an}(h:ou P t nid W):∃v us,W v us/\ou P t nid (λv' eu=>v'=v/\eu=us):=by
 unfold ou at *;split at h
 · exact⟨_,_,h,rfl,rfl⟩
 · exact wR h
theorem GJ{t:an}{x:AV}(h:vD P t x nid W):∃v us,W v us/\vD P t x nid (λv' eu=>v'=v/\eu=us):=by
 unfold vD at *;split at h
 · split at h
   · exact⟨_,_,h.2,h.1,rfl,rfl⟩
   · exact h.elim
 · exact⟨_,_,h.2,h.1,rfl,rfl⟩
theorem GK{t:an}{a x:AV}(h:vE P t a x σ W)(he:∀q,q∈cw a->σ'.get q=σ.get q):∃v us,W v us/\vE P t a x σ' (λv' eu=>v'=v/\eu=us):=by
 unfold vE at *;split at h
 · rename_i o s g ht
   split at h
   · rename_i cs jH
     rw[<-he o (by simp[cw])] at jH;refine⟨_,_,h.2,?_⟩;simp only[jH];exact⟨h.1,by simp⟩
   · exact h.elim
 · rename_i pR
   obtain⟨v,us,g1,g2⟩:=wQ h he;exact⟨v,us,g1,g2⟩
theorem jh{t:an}{a x:AV}(h:gC P t a x σ W)(he:∀q,q∈cw a->σ'.get q=σ.get q):∃v us,W v us/\gC P t a x σ' (λv' eu=>v'=v/\eu=us):=by
 cases a with
 |cr o sz i j=>
  simp only[gC] at *;rw[he o (by simp[cw])];split at h
  · split at h
    · split at h
      · exact⟨_,_,h.2,h.1,rfl,rfl⟩
      · obtain⟨h1,h2⟩:=h
        have hi:=h1.2.2.2.1;have h3:=h2 _ (aV hi);split at h3
        · rename_i cs jH
          refine⟨_,_,h3,h1,λp hp=>?_⟩
          rw[aV hi,jH] at hp;injection hp with hp;subst hp
          exact⟨rfl,rfl⟩
        · exact h3.elim
      · split at h
        · exact⟨_,_,h.2,h.1,rfl,rfl⟩
        · exact h.elim
    · exact h.elim
  · exact h.elim
 |_=>simp only[gC] at h ⊢;exact GK h he
theorem tz{t:an}{len:Nat}{parts:List (Nat×AV)}(h:eD P t len parts nid W):∃v us,W v us/\eD P t len parts nid (λv' eu=>v'=v/\eu=us):=by
 unfold eD at *;split at h
 · split at h
   · split at h
     · exact⟨_,_,h.2,h.1,rfl,rfl⟩
     · exact h.elim
   · exact kU h
 · exact kU h
theorem D'{t:an}{n c:AV}(h:sa P t n c nid W):∃v us,W v us/\sa P t n c nid (λv' eu=>v'=v/\eu=us):=by
 unfold sa at *;split at h
 · exact⟨_,_,h.2.2,h.1,h.2.1,rfl,rfl⟩
 · exact h.elim
theorem wS{x:AV}{s:Nat}{Kn:Nat->List PV->Prop}(h:lP x s σ Kn)(he:∀q,q∈cw x->σ'.get q=σ.get q):
 ∃n new,Kn n new/\ ∀OF:Nat->List PV->Prop,OF n new->lP x s σ' OF:=by
 unfold lP at *;split at h
 · exact⟨_,_,h.2,λK' hk=>⟨h.1,hk⟩⟩
 · rename_i o sz i n
   obtain⟨h1,h⟩:=h;simp only[he o (by simp[cw])];split at h
   · exact⟨_,_,h.2,λK' hk=>⟨h1,h.1,hk⟩⟩
   · exact h.elim
 · exact⟨_,_,h.2,λK' hk=>⟨h.1,hk⟩⟩
 · exact h.elim
theorem fZ{t xt:an}{a x:AV}(h:fW P t xt a x σ nid W)(he:∀q,q∈cw a\/q∈cw x->σ'.get q=σ.get q):
 ∃v us,W v us/\fW P t xt a x σ' nid (λv' eu=>v'=v/\eu=us):=by
 unfold fW at *;split at h
 · exact uF h he
 · split at h
   · obtain⟨h0,h⟩:=h
     obtain⟨n,new,h1,h2⟩:=wS h λq hq=>he q (.inr hq);split at h1
     · rename_i o sz i len _
       split at h1
       · rename_i e8 l jH
         rw[<-he o (.inl (by simp[cw]))] at jH;exact⟨_,_,h1.2,h0,h2 _ (by simp only[jH];exact⟨h1.1,by simp⟩)⟩
       · exact h1.elim
     · obtain⟨h3,h4,h5⟩:=h1
       rcases Nat.eq_zero_or_pos n with hn|hn
       · exact⟨_,_,h4 hn,h0,h2 _ ⟨h3,λ_=>⟨rfl,rfl⟩,λh=>by omega⟩⟩
       · exact⟨_,_,h5 hn,h0,h2 _ ⟨h3,λh=>by omega,λ_=>⟨rfl,rfl⟩⟩⟩
     · exact h1.elim
   · exact h.elim
theorem pf{t:an}{a x:AV}(h:me P t a x σ W)(he:∀q,q∈cw a\/q∈cw x->σ'.get q=σ.get q):
 ∃v us,W v us/\me P t a x σ' (λv' eu=>v'=v/\eu=us):=by
 cases a with
 |bo o sz i len=>
  simp only[me] at *;split at h
  · obtain⟨h0,h⟩:=h
    obtain⟨n,new,h1,h2⟩:=wS h λq hq=>he q (.inr hq);split at h1
    · rename_i e8 l jH
      rw[<-he o (.inl (by simp[cw]))] at jH;exact⟨_,_,h1.2,h0,h2 _ (by simp only[jH];exact⟨h1.1,by simp⟩)⟩
    · exact h1.elim
  · exact h.elim
 |_=>simp only[me] at h ⊢;exact zb h he
theorem K3{op:Op}{ev ev':aL->AV}(h:xW P op ev σ nid W)(aR:∀x∈op.operands.toList,ev' x=ev x)
 (he:∀q,q∈(op.operands.toList.map ev).flatMap cw->σ'.get q=σ.get q):∃v us,W v us/\xW P op ev' σ' nid (λv' eu=>v'=v/\eu=us):=by
 cases op<;>simp only[xW] at h ⊢
 case alloc t=>exact Bt h
 case box t x=>rw[aR x (by simp[aF])];exact GJ h
 case store t a x=>rw[aR x (by simp[aF]),aR a (by simp[aF])];exact jh h λq hq=>he q (by simp[aF,hq])
 case buildSlice t n parts=>
  rw[qU (l:=parts.toList) (λx hx=>aR x (by simpa[aF] using hx))];exact tz h
 case makeSlice t n c=>rw[aR n (by simp[aF]),aR c (by simp[aF])];exact D' h
 case call c=>
  obtain⟨callee,args,ats⟩:=c;split at h
  · rename_i x y t xt sJ er h1 h2
    simp only at er h1 h2;have hx:∀z∈[x,y],ev' z=ev z:=λz hz=>aR z (by simp only[aF,fQ];simp;right;rw[<-nF,er];exact hz);rw[hx x (by simp),hx y (by simp)];exact fZ h λq hq=>he q (by simp only[aF,fQ];simp[er];right;exact hq)
  · rename_i x y t sJ er h1
    simp only at er h1;have hx:∀z∈[x,y],ev' z=ev z:=λz hz=>aR z (by simp only[aF,fQ];simp;right;rw[<-nF,er];exact hz);rw[hx x (by simp),hx y (by simp)];exact pf h λq hq=>he q (by simp only[aF,fQ];simp[er];right;exact hq)
  · exact h.elim
 all_goals exact Sa h aR he
theorem mi(a:AV):cw (uc a)=cw a:=by cases a<;>rfl
theorem GL(l:List aL)(ev:aL->AV):(l.map λx=>uc (ev x)).flatMap cw=(l.map ev).flatMap cw:=by
 induction l with
 |nil=>rfl
 |cons x l ih=>simp[ih,mi]
theorem zf{t:an}(h:N6 P t K):∃v,K v/\N6 P t (· =v):=by
 unfold N6 at *;split at h
 · split at h
   · exact⟨_,h,rfl⟩
   · exact h.elim
 · exact h.elim
theorem GM{t:an}{K':AV->Prop}(h:N6 P t K)(hk:∀v,K v->K' v):N6 P t K':=by
 unfold N6 at *;split at h
 · split at h
   · exact hk _ h
   · exact h.elim
 · exact h.elim
theorem zg{t:an}{ok:Bool}{kt:KT}{m:List (PV×PV)}{k:AV}(h:yN P t ok kt m k K):∃v,K v/\yN P t ok kt m k (· =v):=by
 unfold yN at *;split at h
 · rename_i x6 e key hT
   obtain⟨h0,h⟩:=h
   cases ok with
   |true=>
    simp only at h ⊢
    cases hf:cK key m with
    |none=>
     obtain⟨z,h1,h2⟩:=zf (h.n hf);exact⟨_,h1,h0,⟨λv e=>(by cases e),λ_=>GM h2 λv e=>by rw[e]⟩⟩
    |some v=>exact⟨_,h.s v hf,h0,⟨λu e=>by injection e with e;rw[e],λe=>by cases e⟩⟩
   |false=>
    simp only at h ⊢
    cases hf:cK key m with
    |none=>
     obtain⟨z,h1,h2⟩:=zf (h.n hf);exact⟨_,h1,h0,⟨λv e=>(by cases e),λ_=>h2⟩⟩
    |some v=>exact⟨_,h.s v hf,h0,⟨λu e=>by injection e with e;rw[e],λe=>by cases e⟩⟩
 · exact h.elim
theorem Ea{t:an}{x k:AV}{ok:Bool}(h:o8 P t x k ok σ K)(he:∀q,q∈cw x->σ'.get q=σ.get q):∃v,K v/\o8 P t x k ok σ' (· =v):=by
 cases x with
 |mp o=>
  simp only[o8] at *;rw[he o (by simp[cw])];split at h
  · exact zg h
  · exact h.elim
 |p q=>
  cases q with
  |mp kt m=>simp only[o8] at *;exact zg h
  |_=>exact h.elim
 |_=>exact h.elim
theorem ML{t:an}{x:AV}(h:Bh P t x K):∃v,K v/\Bh P t x (· =v):=by
 unfold Bh at *;split at h
 · exact⟨_,h.2,h.1,rfl⟩
 · exact h.elim
theorem Ja{t:an}{o sz i len cap:Nat}{lo hi mx:Option AV}(h:Ct P t o sz i len cap lo hi mx K):∃v,K v/\Ct P t o sz i len cap lo hi mx (· =v):=by
 unfold Ct at *;split at h
 · exact⟨_,h.2,h.1,rfl⟩
 · exact h.elim
theorem MN{p q:PV}{K:Bool->Prop}(h:RU p q K):∃v,K v/\ ∀K':Bool->Prop,K' v->RU p q K':=by
 cases p<;>cases q<;>first|exact h.elim|exact⟨_,h,λ_ h=>h⟩
theorem qW:∀{a b:List PV} {K:Bool->Prop},TU a b K->∃v,K v/\ ∀K':Bool->Prop,K' v->TU a b K'
 |[],[],K,h=>⟨_,h,λ_ h=>h⟩
 |[],_::_,K,h=>h.elim
 |_::_,[],K,h=>h.elim
 |p::r,q::s,K,h=>by
  obtain⟨v,h1,h2⟩:=MN h
  cases r with
  |nil=>
   cases s with
   |nil=>exact⟨v,h1,λK' h=>h2 _ h⟩
   |cons _ _=>exact h1.elim
  |cons x r=>
   obtain⟨u,h3,h4⟩:=qW (a:=x::r) (b:=s) h1;exact⟨_,h3,λK' h=>h2 _ (h4 _ h)⟩
theorem Jb{op:BinOp}{t:an}{a b:List PV}(h:Cu P op t a b K):∃v,K v/\Cu P op t a b (· =v):=by
 unfold Cu at *;split at h
 · obtain⟨h0,h⟩:=h
   cases op<;>simp only at h ⊢ <;>try exact h.elim
   · obtain⟨v,h1,h2⟩:=qW h;exact⟨_,h1,h0,h2 _ rfl⟩
   · obtain⟨v,h1,h2⟩:=qW h;exact⟨_,h1,h0,h2 _ rfl⟩
 · exact h.elim
 · split at h
   · obtain⟨h0,h⟩:=h
     cases op<;>simp only at h ⊢ <;>try exact h.elim
     · obtain⟨v,h1,h2⟩:=qW h;exact⟨_,h1,h0,h2 _ rfl⟩
     · obtain⟨v,h1,h2⟩:=qW h;exact⟨_,h1,h0,h2 _ rfl⟩
   · exact h.elim
theorem MO{t:an}{x:AV}(h:Bi P t x σ K)(he:∀q,q∈cw x->σ'.get q=σ.get q):∃v,K v/\Bi P t x σ' (· =v):=by
 cases x with
 |mp o=>
  simp only[Bi] at *;rw[he o (by simp[cw])];split at h
  · exact⟨_,h.2,h.1,rfl⟩
  · exact h.elim
 |p q=>
  cases q with
  |mp kt m=>simp only[Bi] at *;exact⟨_,h.2,h.1,rfl⟩
  |_=>unfold Bi at *;exact qV h
 |ch o=>
  simp only[Bi] at *;rw[he o (by simp[cw])];split at h
  · exact⟨_,h.2,h.1,rfl⟩
  · exact h.elim
 |_=>unfold Bi at *;exact qV h
theorem K4{op:Op}{ev ev':aL->AV}(h:yQ P op ev σ K)(aR:∀x∈op.operands.toList,ev' x=ev x)
 (he:∀q,q∈(op.operands.toList.map ev).flatMap cw->σ'.get q=σ.get q):∃v,K v/\yQ P op ev' σ' (· =v):=by
 have gen:xQ P op (λx=>uc (ev x)) σ K->∃v,K v/\xQ P op (λx=>uc (ev' x)) σ' (· =v):=λh=>K2 h (λx hx=>by rw[aR x hx]) (λq hq=>he q (by rw[<-GL];exact hq));have IX:xQ P op ev σ K->∃v,K v/\xQ P op ev' σ' (· =v):=λh=>K2 h aR he;cases op<;>simp only[yQ] at h ⊢
 case move x=>rw[aR x (by simp[aF])];exact⟨_,h,rfl⟩
 case assign x=>rw[aR x (by simp[aF])];exact⟨_,h,rfl⟩
 case lookup t x i ok=>rw[aR x (by simp[aF]),aR i (by simp[aF])];exact Ea h λq hq=>he q (by simp[aF,hq])
 case slice t x lo hi mx=>
  rw[aR x (by simp[aF])];split at h
  · rename_i hx
    rw[iH (l:=lo) (λy hy=>aR y (by simp[aF,hy])),iH (l:=hi) (λy hy=>aR y (by simp[aF,hy])),
     iH (l:=mx) (λy hy=>aR y (by simp[aF,hy]))]
    exact Ja h
  · exact IX h
 case binOp ZL t x y z=>
  rw[aR x (by simp[aF]),aR y (by simp[aF])];split at h
  · exact Jb h
  · exact IX h
 case call c=>
  obtain⟨callee,args,ats⟩:=c;have Bs:∀x∈args.toList,ev' x=ev x:=λx hx=>aR x (by simp[aF,fQ,nF.1 hx]);split at h
  · split at h
    · rename_i x t hx ht
      rw[Bs x (by simp only at hx;rw[hx];simp)];exact ML h
    · exact h.elim
  · rename_i hc
    simp only at hc;subst hc;split at h
    · rename_i x t hx ht
      simp only at hx
      rw[Bs x (by rw[hx];simp)];exact MO h λq hq=>he q (by
       have:args= #[x]:=by apply gz;simpa using hx
       subst this;simp[aF,fQ,hq])
    · exact h.elim
  · exact IX h
 all_goals exact gen h
theorem GN{x:AV}{s:Nat}{Kn OF:Nat->List PV->Prop}(h:lP x s σ Kn)(hk:∀n new,Kn n new->OF n new):lP x s σ OF:=by
 unfold lP at *;split at h
 · exact⟨h.1,hk _ _ h.2⟩
 · refine⟨h.1,?_⟩
   have h2:=h.2;split at h2
   · exact⟨h2.1,hk _ _ h2.2⟩
   · exact h2.elim
 · exact⟨h.1,hk _ _ h.2⟩
 · exact h.elim
theorem Eb{t xt:an}{a x:AV}{W':AV->ab->Prop}(h:jm P t xt a x σ nid W)(hk:∀v us,W v us->W' v us):jm P t xt a x σ nid W':=by
 unfold jm at *;split at h
 · refine⟨h.1,sb h.2 λn new h2=>?_⟩
   split at h2
   · exact⟨h2.1,λhn=>hk _ _ (h2.2.1 hn),λhn=>hk _ _ (h2.2.2 hn)⟩
   · split at h2
     · exact⟨h2.1,λhn=>hk _ _ (h2.2.1 hn),λhn=>hk _ _ (h2.2.2 hn)⟩
     · exact h2.elim
   · exact h2.elim
 · exact h.elim
theorem zh{t xt:an}{a x:AV}{W':AV->ab->Prop}(h:fW P t xt a x σ nid W)(hk:∀v us,W v us->W' v us):fW P t xt a x σ nid W':=by
 unfold fW at *;split at h
 · exact Eb h hk
 · split at h
   · refine⟨h.1,GN h.2 λn new h2=>?_⟩
     split at h2
     · split at h2
       · exact⟨h2.1,hk _ _ h2.2⟩
       · exact h2.elim
     · exact⟨h2.1,λhn=>hk _ _ (h2.2.1 hn),λhn=>hk _ _ (h2.2.2 hn)⟩
     · exact h2.elim
   · exact h.elim
theorem Ec{t xt:an}{a x:AV}(h:sd P t xt a x σ nid W):∃v us,W v us/\ ∀σ':ab,(∀q,q∈cw a\/q∈keys us->σ'.get q=σ.get q)->sd P t xt a x σ' nid (λv' eu=>v'=v/\eu=us):=by
 unfold sd at *;obtain⟨p,Z,h1,_,h3⟩:=(KR 60).1 x [] _ h;obtain⟨v,us,g1,g2⟩:=fZ (σ':=jy Z++σ) h1 (λ_ _=>rfl);refine⟨v,_,g1,λσ' he=>(lr 60).1 _ _ _ _ (λp' Z' hp=>?_) (h3 σ' λq hq=>he q (.inr ?_))⟩
 · obtain⟨rfl,rfl⟩:=hp
   obtain⟨v2,Sb,⟨e1,e2⟩,g3⟩:=fZ (σ':=jy Z'++σ') g2 (λq hq=>by
    rw[get_append,get_append];split
    · rfl
    · rcases hq with hq|hq
      · exact he q (.inl hq)
      · simp[cw] at hq)
   subst e1;subst e2;obtain⟨v3,us3,⟨e1,e2⟩,g4⟩:=fZ (σ':=jy Z'++σ') (W:=λv' eu=>v'=v2/\eu=Sb) g3 (λ_ _=>rfl);exact zh g3 λv' eu hh=>⟨hh.1,by rw[hh.2]⟩
 · simp only[keys,iq,cL]
   right;simp[jy,hq]
theorem Bu{t:an}{o sz i j:Nat}{p:PV}{W':AV->ab->Prop}(h:gC P t (.cr o sz i j) (.p p) σ W)(hk:∀v us,W v us->W' v us):gC P t (.cr o sz i j) (.p p) σ W':=by
 simp only[gC] at *;split at h
 · split at h
   · exact⟨h.1,hk _ _ h.2⟩
   · refine⟨h.1,λq hq=>?_⟩
     have:=h.2 q hq;split at this
     · exact hk _ _ this
     · exact this.elim
   · split at h
     · exact⟨h.1,hk _ _ h.2⟩
     · exact h.elim
 · exact h.elim
theorem GO{t:an}{o sz i j:Nat}{x:AV}(h:vJ P t (.cr o sz i j) x σ W):∃v us,W v us/\ ∀σ':ab,(∀q,q=o\/q∈keys us->σ'.get q=σ.get q)->vJ P t (.cr o sz i j) x σ' (λv' eu=>v'=v/\eu=us):=by
 unfold vJ at *;obtain⟨p,Z,h1,_,h3⟩:=(KR 60).1 x [] _ h;obtain⟨v,us,g1,g2⟩:=jh (σ':=jy Z++σ) h1 (λ_ _=>rfl);refine⟨v,_,g1,λσ' he=>(lr 60).1 _ _ _ _ (λp' Z' hp=>?_) (h3 σ' λq hq=>he q (.inr ?_))⟩
 · obtain⟨rfl,rfl⟩:=hp
   obtain⟨v2,Sb,⟨e1,e2⟩,g3⟩:=jh (σ':=jy Z'++σ') g2 (λq hq=>by
    rw[get_append,get_append];split
    · rfl
    · simp[cw] at hq;exact he q (.inl hq))
   subst e1;subst e2;exact Bu g3 λv' eu hh=>⟨hh.1,by rw[hh.2]⟩
 · simp only[keys,iq,cL]
   right;simp[jy,hq]
theorem Bv{t:an}{o sz i len Mx i2 n:Nat}(h:oC P t o sz i len Mx i2 n σ W)(he:σ'.get o=σ.get o):∃v us,W v us/\oC P t o sz i len Mx i2 n σ' (λv' eu=>v'=v/\eu=us):=by
 unfold oC at *;rw[he];split at h
 · exact⟨_,_,h.2,h.1,rfl,rfl⟩
 · exact h.elim
theorem wT{t:an}{x:AV}(h:tr P t x σ W)(he:∀q,q∈cw x->σ'.get q=σ.get q):∃v us,W v us/\tr P t x σ' (λv' eu=>v'=v/\eu=us):=by
 unfold tr at *;split at h
 · rename_i o sz i len s g z hE hZ
   simp only;rw[he o (by simp[cw])];split at h
   · exact⟨_,_,h.2,h.1,rfl,rfl⟩
   · exact h.elim
 · exact h.elim
theorem MP{t:an}{m k v:AV}(h:My P t m k v σ W)(he:∀q,q∈cw m->σ'.get q=σ.get q):∃v' us,W v' us/\My P t m k v σ' (λv'' eu=>v''=v'/\eu=us):=by
 unfold My at *;split at h
 · rename_i o key val
   simp only;rw[he o (by simp[cw])];split at h
   · exact⟨_,_,h.2,h.1,rfl,rfl⟩
   · exact h.elim
 · exact h.elim
theorem Jc{t:an}{o sz:Nat}{k:AV}{ok:Bool}{kt:KT}{m:List (PV×MV)}(h:Cr P t o k ok kt sz m nid W):∃v us,W v us/\Cr P t o k ok kt sz m nid (λv' eu=>v'=v/\eu=us):=by
 unfold Cr at *;split at h
 · rename_i x6 e key hT
   obtain⟨h0,h⟩:=h
   cases hf:cK key m with
   |none=>
    obtain⟨z,h1,h2⟩:=zf (h.n hf);exact⟨_,_,h1,h0,⟨λv e=>(by cases e),λ_=>GM h2 λv e=>⟨e,rfl⟩⟩⟩
   |some x=>
    have h1:=h.s x hf
    cases x with
    |h l=>exact⟨_,_,h1,h0,⟨λu e=>by injection e with e;subst e;exact⟨rfl,rfl⟩,λe=>by cases e⟩⟩
    |v a=>exact⟨_,_,h1,h0,⟨λu e=>by injection e with e;subst e;exact⟨rfl,rfl⟩,λe=>by cases e⟩⟩
 · exact h.elim
theorem Jd{t:an}{n:AV}(h:Cz P t n nid W):∃v us,W v us/\Cz P t n nid (λv' eu=>v'=v/\eu=us):=by
 unfold Cz at *;split at h
 · exact⟨_,_,h.2,h.1,rfl,rfl⟩
 · exact h.elim
theorem sk{t:an}{m k v:AV}(h:IT P t m k v σ W)(he:∀q,q∈cw m\/q∈cw v->σ'.get q=σ.get q):∃v' us,W v' us/\IT P t m k v σ' (λv'' eu=>v''=v'/\eu=us):=by
 unfold IT at *;split at h
 · rename_i o key n sz i len
   simp only;rw[he o (by simp[cw]),he n (by simp[cw])];split at h
   · exact⟨_,_,h.2,h.1,rfl,rfl⟩
   · exact h.elim
 · rename_i bV
   obtain⟨v',us,h1,h2⟩:=MP h (λq hq=>he q (.inl hq));refine⟨v',us,h1,?_⟩
   cases v with
   |bo n sz i len=>
    cases m with
    |mp o=>
     cases k with
     |p key=>exact(bV _ _ _ _ _ _ rfl rfl rfl).elim
     |_=>exact h2
    |_=>exact h2
   |_=>cases m<;>cases k<;>exact h2
theorem e9{t:an}{a x:AV}(h:Cv P t a x σ nid W)(he:∀q,q∈cw a->σ'.get q=σ.get q):∃v us,W v us/\Cv P t a x σ' nid (λv' eu=>v'=v/\eu=us):=by
 unfold Cv at *;split at h
 · rename_i o sz i len cap k n s g z bt hE hz hb
   simp only[hE,hz,hb];rw[he o (by simp[cw])];split at h
   · exact⟨_,_,h.2,h.1,rfl,rfl⟩
   · exact h.elim
 · exact h.elim
theorem Je{t:an}{a x:AV}(h:Cw P t a x σ nid W)(he:∀q,q∈cw a->σ'.get q=σ.get q):∃v us,W v us/\Cw P t a x σ' nid (λv' eu=>v'=v/\eu=us):=by
 unfold Cw at *;split at h
 · rename_i o sz i len k n s g z bt hE hz hb
   simp only[hE,hz,hb];rw[he o (by simp[cw])];split at h
   · exact⟨_,_,h.2,h.1,rfl,rfl⟩
   · exact h.elim
 · exact h.elim
theorem zi{t:an}{a x:AV}(h:Ga P t a x σ nid W)(he:∀q,q∈cw a->σ'.get q=σ.get q):∃v us,W v us/\Ga P t a x σ' nid (λv' eu=>v'=v/\eu=us):=by
 cases a with
 |bo o sz i len=>exact Je (P:=P) (t:=t) (x:=x) (nid:=nid) (a:= .bo o sz i len) h he
 |any=>exact e9 (P:=P) (t:=t) (x:=x) (nid:=nid) (a:= .any) h he
 |p q=>exact e9 (P:=P) (t:=t) (x:=x) (nid:=nid) (a:= .p q) h he
 |ptr o off=>exact e9 (P:=P) (t:=t) (x:=x) (nid:=nid) (a:= .ptr o off) h he
 |dJ o sz off len=>exact e9 (P:=P) (t:=t) (x:=x) (nid:=nid) (a:= .dJ o sz off len) h he
 |jb o sz i len cap=>exact e9 (P:=P) (t:=t) (x:=x) (nid:=nid) (a:= .jb o sz i len cap) h he
 |cr o sz i j=>exact e9 (P:=P) (t:=t) (x:=x) (nid:=nid) (a:= .cr o sz i j) h he
 |mp o=>exact e9 (P:=P) (t:=t) (x:=x) (nid:=nid) (a:= .mp o) h he
 |ch o=>exact e9 (P:=P) (t:=t) (x:=x) (nid:=nid) (a:= .ch o) h he
 |agg cs=>exact e9 (P:=P) (t:=t) (x:=x) (nid:=nid) (a:= .agg cs) h he
 |bR vs=>exact e9 (P:=P) (t:=t) (x:=x) (nid:=nid) (a:= .bR vs) h he
 |fn f a b=>exact e9 (P:=P) (t:=t) (x:=x) (nid:=nid) (a:= .fn f a b) h he
theorem Jf{s d:an}{o sz i len:Nat}(h:CA P s d o sz i len σ W):∃v us,W v us/\(∀σ':ab,σ'.get o=σ.get o->CA P s d o sz i len σ' (λv' eu=>v'=v/\eu=us)):=by
 unfold CA at *;split at h
 · rename_i e8 l hd ho
   obtain⟨h1,q,hq,hK⟩:=h;refine⟨_,_,hK,λσ' he=>?_⟩;rw[he,hd,ho];exact⟨h1,q,hq,rfl,rfl⟩
 · exact h.elim
theorem Sc{op:Op}{ev:aL->AV}(h:yW P op ev σ nid W):∃v us,W v us/\ ∀(ev':aL->AV) (σ':ab),(∀x∈op.operands.toList,ev' x=ev x)->
 (∀q,q∈(op.operands.toList.map ev).flatMap cw\/q∈keys us->σ'.get q=σ.get q)->yW P op ev' σ' nid (λv' eu=>v'=v/\eu=us):=by
 have gen:xW P op (λx=>uc (ev x)) σ nid W->∃v us,W v us/\ ∀(ev':aL->AV) (σ':ab),(∀x∈op.operands.toList,ev' x=ev x)->
  (∀q,q∈(op.operands.toList.map ev).flatMap cw\/q∈keys us->σ'.get q=σ.get q)->xW P op (λx=>uc (ev' x)) σ' nid (λv' eu=>v'=v/\eu=us):=λh=>by
  obtain⟨v,us,h1,h2⟩:=K3 (ev':=λx=>uc (ev x)) (σ':=σ) h (λ_ _=>rfl) (λ_ _=>rfl);refine⟨v,us,h1,λev' σ' aR he=>?_⟩;obtain⟨v',eu,⟨e1,e2⟩,h3⟩:=K3 (ev':=λx=>uc (ev' x)) (σ':=σ') h2 (λx hx=>by rw[aR x hx]) (λq hq=>he q (.inl (by rw[<-GL];exact hq)));subst e1;subst e2;exact h3
 cases op<;>simp only[yW] at h
 case makeMap t n=>
  cases n with
  |none=>
   simp only at h;split at h
   · rename_i hT
     exact⟨_,_,h,λ_ _ _ _=>by simp only[yW,hT];exact⟨trivial,trivial⟩⟩
   · exact h.elim
  |some _=>exact h.elim
 case makeChan t n=>
  obtain⟨v,us,h1,h2⟩:=Jd h;refine⟨v,us,h1,λev' σ' aR he=>?_⟩;simp only[yW];rw[aR n (by simp[aF])];exact h2
 case store t a x=>
  have Bp:∀(ev':aL->AV),(∀z∈(Op.store t a x).operands.toList,ev' z=ev z)->ev' a=ev a/\ev' x=ev x:=λev' aR=>⟨aR a (by simp[aF]),aR x (by simp[aF])⟩;unfold vK at h;split at h
  · rename_i ha hx
    (cases ZP:uc (ev a)<;>rw[ZP] at ha<;>try(cases ha;done));rename_i o sz i j;rw[ZP] at h;obtain⟨v,us,g1,g2⟩:=GO h;refine⟨v,us,g1,λev' σ' aR he=>?_⟩;obtain⟨e1,e2⟩:=Bp ev' aR;simp only[yW];rw[e1,e2,ZP];unfold vK;rw[hx];refine g2 σ' λq hq=>he q ?_;rcases hq with hq|hq
    · left
      (have:q∈cw (ev a):=by rw[<-mi,ZP];simp[cw,hq]);simp[aF,this]
    · exact .inr hq
  · rename_i pR
    obtain⟨v,us,g1,g2⟩:=jh (σ':=σ) h (λ_ _=>rfl);refine⟨v,us,g1,λev' σ' aR he=>?_⟩;obtain⟨e1,e2⟩:=Bp ev' aR;simp only[yW];rw[e1,e2];obtain⟨v2,Sb,⟨e3,e4⟩,g3⟩:=jh (σ':=σ') g2 (λq hq=>he q (.inl (by rw[mi] at hq;simp[aF,hq])));subst e3;subst e4;unfold vK;split
    · rename_i hx hy;exact(pR hx hy).elim
    · exact g3
 case buildSlice t n parts=>
  split at h
  · rename_i hp
    unfold oB at h;split at h
    · rename_i s g z hE hz
      refine⟨_,_,h.2,λev' σ' aR he=>?_⟩;simp only[yW,hp,oB,hE,hz];exact⟨h.1,trivial,trivial⟩
    · exact h.elim
  · rename_i pR
    obtain⟨v,us,g1,g2⟩:=gen (by simpa using h);refine⟨v,us,g1,λev' σ' aR he=>?_⟩;have:=g2 ev' σ' aR he;simp only[yW]
    first
    |simpa using this
    |(split
      · rename_i hp;exact(pR rfl hp).elim
      · simpa using this)
 case convert s d x=>
  split at h
  · rename_i o sz i len jM
    obtain⟨v,us,g1,g2⟩:=Jf h;refine⟨v,us,g1,λev' σ' aR he=>?_⟩;simp only[yW];rw[aR x (by simp[aF]),jM];refine g2 σ' (he o (.inl ?_));(have:o∈cw (ev x):=by rw[<-mi,jM];simp[cw]);simp[aF,this]
  · rename_i pR
    obtain⟨v,us,g1,g2⟩:=gen (by simpa using h);refine⟨v,us,g1,λev' σ' aR he=>?_⟩;have:=g2 ev' σ' aR he;simp only[yW];split
    · rename_i o sz i len jM
      rw[aR x (by simp[aF])] at jM;exact(pR _ _ _ _ jM).elim
    · exact this
 case mapUpdate t m k v=>
  obtain⟨v',us,h1,h2⟩:=sk (σ':=σ) h (λ_ _=>rfl);refine⟨v',us,h1,λev' σ' aR he=>?_⟩;obtain⟨v2,Sb,⟨e1,e2⟩,h3⟩:=sk (σ':=σ') h2 (λq hq=>he q (.inl (by rcases hq with hq|hq<;>simp[aF,hq])));subst e1;subst e2;simp only[yW];rw[aR m (by simp[aF]),aR k (by simp[aF]),aR v (by simp[aF])];exact h3
 case insert t m k v=>
  obtain⟨v',us,h1,h2⟩:=sk (σ':=σ) h (λ_ _=>rfl);refine⟨v',us,h1,λev' σ' aR he=>?_⟩;obtain⟨v2,Sb,⟨e1,e2⟩,h3⟩:=sk (σ':=σ') h2 (λq hq=>he q (.inl (by rcases hq with hq|hq<;>simp[aF,hq])));subst e1;subst e2;simp only[yW];rw[aR m (by simp[aF]),aR k (by simp[aF]),aR v (by simp[aF])];exact h3
 case call c=>
  obtain⟨callee,args,ats⟩:=c;split at h
  · rename_i x y t xt hc er h1 h2
    simp only at hc er h1 h2;subst hc;(have dk:args= #[x,y]:=by apply gz;simpa using er);subst dk;have N':∀(ev:aL->AV) (σ':ab) (K:AV->ab->Prop),yW P (.call { callee:= .builtin .append,args:= #[x,y],argTypes:=ats }) ev σ' nid K=mh P t xt (ev x) (ev y) σ' nid K:=λev σ' K=>by simp[yW,h1,h2]
    have Bp:∀(ev':aL->AV),(∀z∈(Op.call { callee:= .builtin .append,args:= #[x,y],argTypes:=ats }).operands.toList,ev' z=ev z)->ev' x=ev x/\ev' y=ev y:=λev' aR=>
     ⟨aR x (by simp[aF,fQ]),aR y (by simp[aF,fQ])⟩
    cases Iq:o4 P xt with
    |true=>
     simp only[mh,Iq] at h;obtain⟨v,us,g1,g2⟩:=zi (σ':=σ) h (λ_ _=>rfl);refine⟨v,us,g1,λev' σ' aR he=>?_⟩;obtain⟨e1,e2⟩:=Bp ev' aR;rw[N',e1,e2];simp only[mh,Iq];obtain⟨v2,Sb,⟨e3,e4⟩,g3⟩:=zi (σ':=σ') g2 (λq hq=>he q (.inl (by simp[aF,fQ,hq])));subst e3;subst e4;exact g3
    |false=>
    simp only[mh,Iq] at h
    have Xw:∀{b:AV},(∀q,q∈cw b->q∈cw (ev x))->mg P t xt b (uc (ev y)) σ nid W->∃v us,W v us/\ ∀(σ':ab),(∀q,q∈((Op.call { callee:= .builtin .append,args:= #[x,y],argTypes:=ats }).operands.toList.map ev).flatMap cw\/q∈keys us->σ'.get q=σ.get q)->mg P t xt b (uc (ev y)) σ' nid (λv' eu=>v'=v/\eu=us):=λhb h=>by
     unfold mg at h;split at h
     · rename_i hx hy
       obtain⟨v,us,g1,g2⟩:=Ec h;refine⟨v,us,g1,λσ' he=>?_⟩;unfold mg;simp only[hx,hy];refine g2 σ' λq hq=>he q ?_;rcases hq with hq|hq
       · exact .inl (by simp[aF,fQ,hb q hq])
       · exact .inr hq
     · rename_i pR
       obtain⟨v,us,g1,g2⟩:=fZ (σ':=σ) h (λ_ _=>rfl);refine⟨v,us,g1,λσ' he=>?_⟩
       obtain⟨v2,Sb,⟨e3,e4⟩,g3⟩:=fZ (σ':=σ') g2 (λq hq=>he q (.inl (by
        rw[mi] at hq;rcases hq with hq|hq
        · simp[aF,fQ,hb q hq]
        · simp[aF,fQ,hq])))
       subst e3;subst e4;unfold mg;split
       · rename_i hx hy;exact(pR hx hy).elim
       · exact g3
    split at h
    · rename_i o sz i len cap jH
      rcases h.h with h|h
      · obtain⟨v,us,g1,g2⟩:=Xw (λq hq=>by rw[jH];exact hq) h
        refine⟨v,us,g1,λev' σ' aR he=>?_⟩;obtain⟨e1,e2⟩:=Bp ev' aR;rw[N',e1,e2];simp only[mh,Iq,jH];exact vI.l (g2 σ' he)
      · unfold yO at h
        split at h
        · rename_i Mx c jM
          refine⟨_,_,h.2,λev' σ' aR he=>?_⟩;obtain⟨e1,e2⟩:=Bp ev' aR;rw[N',e1,e2];simp only[mh,Iq,jH];refine vI.r ?_;simp only[yO,jM];exact⟨h.1,trivial,trivial⟩
        · exact h.elim
    · rename_i hncs
      obtain⟨v,us,g1,g2⟩:=Xw (λq hq=>by rwa[mi] at hq) h;refine⟨v,us,g1,λev' σ' aR he=>?_⟩;obtain⟨e1,e2⟩:=Bp ev' aR;rw[N',e1,e2];simp only[mh,Iq]
      first
      |exact g2 σ' he
      |(split
        · rename_i o sz i len cap jH;exact(hncs _ _ _ _ _ jH).elim
        · exact g2 σ' he)
  · rename_i x y t hc er h1
    simp only at hc er h1;subst hc;(have dk:args= #[x,y]:=by apply gz;simpa using er);subst dk;have N':∀(ev:aL->AV) (σ':ab) (K:AV->ab->Prop),yW P (.call { callee:= .builtin .copy,args:= #[x,y],argTypes:=ats }) ev σ' nid K=Cy P t (uc (ev x)) (uc (ev y)) σ' K:=λev σ' K=>by simp[yW,h1]
    have Bp:∀(ev':aL->AV),(∀z∈(Op.call { callee:= .builtin .copy,args:= #[x,y],argTypes:=ats }).operands.toList,ev' z=ev z)->ev' x=ev x/\ev' y=ev y:=λev' aR=>
     ⟨aR x (by simp[aF,fQ]),aR y (by simp[aF,fQ])⟩
    have hoo:∀{σ':ab} {us:ab},(∀q,q∈((Op.call { callee:= .builtin .copy,args:= #[x,y],argTypes:=ats }).operands.toList.map ev).flatMap cw\/q∈keys us->σ'.get q=σ.get q)-> ∀q,q∈cw (uc (ev x))\/q∈cw (uc (ev y))->σ'.get q=σ.get q:=λhe q hq=>he q (.inl (by
     rw[mi,mi] at hq
     rcases hq with hq|hq<;>simp[aF,fQ,hq]))
    revert h hoo;generalize hX:uc (ev x)=X;generalize hY:uc (ev y)=Y;intro h hoo
    have fin:∀{σ':ab},(∀q,q∈cw X\/q∈cw Y->σ'.get q=σ.get q)-> ∀{W:AV->ab->Prop},Cy P t X Y σ W->∃v us,W v us/\Cy P t X Y σ' (λv' eu=>v'=v/\eu=us):=by
     intro σ' he W h;unfold Cy at *;split at h
     · split at h
       · exact Bv h (he _ (.inl (by simp[cw])))
       · exact pf h he
     · exact pf h he
    obtain⟨v,us,g1,g2⟩:=fin (σ':=σ) (λ_ _=>rfl) h;refine⟨v,us,g1,λev' σ' aR he=>?_⟩;obtain⟨e1,e2⟩:=Bp ev' aR;rw[N',e1,e2,hX,hY];obtain⟨v2,Sb,⟨e3,e4⟩,g3⟩:=fin (σ':=σ') (hoo he) g2;subst e3;subst e4;exact g3
  · rename_i x t hc er h1
    simp only at hc er h1;subst hc;(have dk:args= #[x]:=by apply gz;simpa using er);subst dk;(have N':∀(ev:aL->AV) (σ':ab) (K:AV->ab->Prop),yW P (.call { callee:= .builtin .clear,args:= #[x],argTypes:=ats }) ev σ' nid K=tr P t (uc (ev x)) σ' K:=λev σ' K=>by simp[yW,h1]);obtain⟨v',us,g1,g2⟩:=wT (σ':=σ) h (λ_ _=>rfl);refine⟨v',us,g1,λev' σ' aR he=>?_⟩;rw[N',aR x (by simp[aF,fQ])];obtain⟨v2,Sb,⟨e1,e2⟩,g3⟩:=wT (σ':=σ') g2 (λq hq=>he q (.inl (by rw[mi] at hq;simp[aF,fQ,hq])));subst e1;subst e2;exact g3
  · exact h.elim
 all_goals exact gen h
theorem O2{op:Op}{ev:aL->AV}(h:MD P op ev σ nid W):∃v us,W v us/\ ∀(ev':aL->AV) (σ':ab),(∀x∈op.operands.toList,ev' x=ev x)->
 (∀q,q∈(op.operands.toList.map ev).flatMap cw\/q∈keys us->σ'.get q=σ.get q)->MD P op ev' σ' nid (λv' eu=>v'=v/\eu=us):=by
 unfold MD at *
 cases MF:kindOf P op with
 |quiet=>
  simp only[MF] at h ⊢
  have lk:∀{ev':aL->AV} {σ':ab},(∀x∈op.operands.toList,ev' x=ev x)->(∀q,q∈(op.operands.toList.map ev).flatMap cw->σ'.get q=σ.get q)->Cs op ev' σ'=Cs op ev σ:=by
   intro ev' σ' aR he;(cases op<;>try rfl);rename_i t x i ok;simp only[Cs];rw[aR x (by simp[aF]),aR i (by simp[aF])];(cases hx:ev x<;>try rfl);rename_i o;simp only;rw[he o (by simp[aF,hx,cw])]
  cases I2:Cs op ev σ with
  |some y=>
   obtain⟨t,o,k,ok,kt,sz,m⟩:=y;rw[I2] at h;simp only at h;obtain⟨v,us,h1,h2⟩:=Jc h;refine⟨v,us,h1,λev' σ' aR he=>?_⟩;rw[lk aR λq hq=>he q (.inl hq),I2];exact h2
  |none=>
  rw[I2] at h;simp only at h;obtain⟨v,h1,h2⟩:∃v,W v []/\yQ P op ev σ (· =v):=K4 (ev':=ev) (σ':=σ) h (λ_ _=>rfl) (λ_ _=>rfl);refine⟨v,[],h1,λev' σ' aR he=>?_⟩;obtain⟨v',e,h3⟩:=K4 (ev':=ev') (σ':=σ') h2 aR (λq hq=>he q (.inl hq));subst e;rw[lk aR λq hq=>he q (.inl hq),I2];simpa using h3
 |write=>
  simp only[MF] at h ⊢;exact Sc h
 |call=>
  simp only[MF] at h ⊢;(cases op<;>try exact h.elim);rename_i c;obtain⟨callee,args,ats⟩:=c
  cases callee with
  |builtin b=>exact h.elim
  |invoke r m=>exact h.elim
  |value x=>
   simp only at h ⊢;obtain⟨v,us,h1,h2⟩:=I7 h;refine⟨v,us,h1,λev' σ' aR he=>?_⟩;rw[aR x (by simp[aF,fQ]),mz (l:=args.toList) (λy hy=>aR y (by simp[aF,fQ,nF.1 hy]))];refine h2 σ' λq hq=>hq.elim (λhq=>he q (.inl ?_)) λhq=>he q (.inr hq);obtain⟨y,hy,hq⟩:=List.mem_flatMap.1 hq;obtain⟨z,hz,rfl⟩:=aY.1 hy;exact List.mem_flatMap.2 ⟨_,aY.2 ⟨z,by simp[aF,fQ,nF.1 hz],rfl⟩,hq⟩
def GP(op:Op)(ev:aL->AV):List Nat:=
 match op with
 |.move _=>[]
 |.assign _=>[]
 |op=>(op.operands.toList.map ev).flatMap cw
theorem MQ{op:Op}{ev:aL->AV}(h:MD P op ev σ nid W):∃v us,W v us/\ ∀(ev':aL->AV) (σ':ab),(∀x∈op.operands.toList,ev' x=ev x)->
 (∀q,q∈GP op ev\/q∈keys us->σ'.get q=σ.get q)->MD P op ev' σ' nid (λv' eu=>v'=v/\eu=us):=by
 cases op<;>first
 |exact O2 h
 |(rename_i x
   have h:W (ev x) []:=h;refine⟨ev x,[],h,λev' σ' aR _=>?_⟩;have e:=aR x (by simp[aF])
   exact⟨e,rfl⟩)
end
def dg(o:aH):List Nat:=(o.after.toList.filter λe=>Region.binds .any e).map (·.on)
def dedup:List Nat->List Nat
 |[]=>[]
 |x::r=>if(dedup r).contains x then dedup r else x::dedup r
theorem vS{k:Nat}:∀{l:List Nat},k∈dedup l->k∈l
 |[],h=>by simp[dedup] at h
 |x::r,h=>by
  simp only[dedup] at h;split at h
  · exact pa _ (vS h)
  · rcases cy.1 h with h|h
    · subst h;simp
    · exact pa _ (vS h)
def qX:List aH->List (List Nat)->List (List Nat)
 |[],acc=>acc
 |o::r,acc=>qX r (acc++[dedup ((dg o).flatMap λk=>k::acc.getD k [])])
def mj(ops:List aH)(fq:List (List Nat×List Nat))(i j:Nat):Bool:=
 match ops[i]?,ops[j]? with
 |some x,some y=> !(Oper.apart ops.toArray x y)||(fq.getD i ([],[])).2.any (λq=>(fq.getD j ([],[])).1.contains q||(fq.getD j ([],[])).2.contains q)||
   (fq.getD j ([],[])).2.any (λq=>(fq.getD i ([],[])).1.contains q)
 |_,_=>false
def Vg(ops:List aH)(fq:List (List Nat×List Nat)):Bool:=
 (cJ ops.length).all λj=>(match ops[j]? with|some o=>(dg o).all λk=>decide (k<j)|none=>true)&&
   (cJ j).all λi=>((qX ops []).getD j []).contains i|| !mj ops fq i j
def Ra(ops:List aH)(fq:List (List Nat×List Nat)):Bool:=
 (cJ ops.length).all λj=>(match ops[j]? with|some o=>(dg o).all λk=>decide (k<j)|none=>true)&&
   (cJ j).all λi=>((qX ops []).getD j []).contains i||(decide (j<fq.length)&& !mj ops fq i j)
theorem Vh{ops:List aH}{fq:List (List Nat×List Nat)}(h:Vg ops fq=true)(hl:fq.length=ops.length):Ra ops fq=true:=by
 unfold Vg at h;unfold Ra;rw[cG] at *;intro j hj;have:=h j hj;rw[hl,decide_eq_true (gI.1 hj)];simpa using this
def Fq(ops:List aH)(fq:List (List Nat×List Nat)):Bool:=
 (cJ ops.length).all λj=>(match ops[j]? with|some o=>(dg o).all λk=>decide (k<j)|none=>true)&&
   (cJ j).all λi=>((qX ops []).getD j []).contains i||(decide (j<fq.length)&& !mj ops fq i j)||(decide (fq.length<=j)&& !decide (i+1=fq.length))
def zj{P:au}(G:fK P)(ops:List aH)(nx yk:Nat):List aH->Nat->Env->ab->List (List Nat×List Nat)->(St->Prop)->(PV->St->Prop)->Prop
 |[],i,env,hp,fq,K,_=>Vg ops fq=true/\K ⟨env,hp,nx+64*i,yk⟩
 |o::r,i,env,hp,fq,K,KP=>tu ops o.guard env λb bO=>match b with
  |true=>(match yieldOf (bP bO) o.op with
   |some _=>Ra ops fq=true/\D6 G ops (o::r) ⟨bO,hp,nx+64*i,yk⟩ K KP
   |none=>GA o.op (MD P o.op (bP bO) hp (nx+64*i) λv us=>zj G ops nx yk r (i+1) (bO.put o.dst v) (us++hp) (fq++[(GP o.op (bP bO),keys us)]) K KP) (vR P o.op (bP bO) hp (nx+64*i) λp us=>Fq ops (fq++[([],keys us)])=true/\KP p ⟨[],[],nx+64*ops.length,yk⟩))
  |false=>zj G ops nx yk r (i+1) (bO.put o.dst db) hp (fq++[([],[])]) K KP
structure Rec where
 ex:Bool
 fp:List Nat
 v:AV
 us:ab
instance:Inhabited Rec:=⟨⟨false,[],.any,[]⟩⟩
def fo(ops:List aH)(k:Nat):Option Nat:=(ops[k]?).bind (·.dst)
def fM(ops:List aH)(aK:Nat->Rec)(e0:Nat->AV)(S:Nat->Bool):Nat->Nat->AV
 |0,t=>e0 t
 |k+1,t=>if S k=true/\fo ops k=some t then(aK k).v else fM ops aK e0 S k t
def sG(aK:Nat->Rec)(h0:Nat->bJ)(S:Nat->Bool):Nat->Nat->bJ
 |0,q=>h0 q
 |k+1,q=>if S k=true/\q∈keys (aK k).us then ab.get (aK k).us q else sG aK h0 S k q
section
variable{ops:List aH}{aK jz:Nat->Rec}{e0:Nat->AV}{h0:Nat->bJ}{S S':Nat->Bool}
theorem kW{n t:Nat}(hr:∀k,k<n->aK k=jz k)(hS:∀k,k<n->S k=S' k):fM ops aK e0 S n t=fM ops jz e0 S' n t:=by
 induction n with
 |zero=>rfl
 |succ n ih=>simp only[fM,hr n (by omega),hS n (by omega),ih (λk hk=>hr k (by omega)) (λk hk=>hS k (by omega))]
theorem oE{n q:Nat}(hr:∀k,k<n->aK k=jz k)(hS:∀k,k<n->S k=S' k):sG aK h0 S n q=sG jz h0 S' n q:=by
 induction n with
 |zero=>rfl
 |succ n ih=>simp only[sG,hr n (by omega),hS n (by omega),ih (λk hk=>hr k (by omega)) (λk hk=>hS k (by omega))]
theorem K5{j n t:Nat}(hj:j<=n)(h1:∀i,i<j->fo ops i=some t->S i=true)(h2:∀k,j<=k->k<n->fo ops k=some t->S k=false):
 fM ops aK e0 S n t=fM ops aK e0 (λ_=>true) j t:=by
 induction n with
 |zero=>have:j=0:=by omega
        subst this;rfl
 |succ n ih=>
  rcases dK n j with h|h
  · have:j=n+1:=by omega
    subst this;clear ih h2 hj h;generalize n+1=m at *
    induction m with
    |zero=>rfl
    |succ m ih=>
     simp only[fM];by_cases e:fo ops m=some t
     · simp[e,h1 m (by omega) e]
     · simp[e,ih λi hi he=>h1 i (by omega) he]
  · simp only[fM]
    (have:¬(S n=true/\fo ops n=some t):=λ⟨h3,h4⟩=>by rw[h2 n h (by omega) h4] at h3;cases h3);rw[if_neg this];exact ih h λk hk km=>h2 k hk (by omega)
theorem O3{j n q:Nat}(hj:j<=n)(h1:∀i,i<j->q∈keys (aK i).us->S i=true)(h2:∀k,j<=k->k<n->q∈keys (aK k).us->S k=false):
 sG aK h0 S n q=sG aK h0 (λ_=>true) j q:=by
 induction n with
 |zero=>have:j=0:=by omega
        subst this;rfl
 |succ n ih=>
  rcases dK n j with h|h
  · have:j=n+1:=by omega
    subst this;clear ih h2 hj h;generalize n+1=m at *
    induction m with
    |zero=>rfl
    |succ m ih=>
     simp only[sG];by_cases e:q∈keys (aK m).us
     · simp[e,h1 m (by omega) e]
     · simp[e,ih λi hi he=>h1 i (by omega) he]
  · simp only[sG]
    (have:¬(S n=true/\q∈keys (aK n).us):=λ⟨h3,h4⟩=>by rw[h2 n h (by omega) h4] at h3;cases h3);rw[if_neg this];exact ih h λk hk km=>h2 k hk (by omega)
theorem O4{j n t:Nat}(hj:j<n)(hS:∀k,S' k=if k=j then true else S k)(h2:∀k,j<k->k<n->fo ops j=some t->fo ops k=some t->S k=false):
 fM ops aK e0 S' n t=if fo ops j=some t then(aK j).v else fM ops aK e0 S n t:=by
 induction n with
 |zero=>omega
 |succ n ih=>
  simp only[fM];rcases dK j n with h|h
  · have hn:S' n=S n:=by rw[hS n,if_neg (by omega)]
    rw[ih h λk hk km=>h2 k hk (by omega),hn];by_cases e:fo ops j=some t<;>by_cases e':fo ops n=some t
    · simp[h2 n h (by omega) e e']
    · simp[e']
    · simp[e]
    · simp[e']
  · have:j=n:=by omega
    subst this;rw[hS j,if_pos rfl];(have iS:fM ops aK e0 S' j t=fM ops aK e0 S j t:=kW (λ_ _=>rfl) λk hk=>by rw[hS k,if_neg (by omega)]);by_cases e:fo ops j=some t
    · simp[e]
    · simp[e,iS]
theorem Sd{j n q:Nat}(hj:j<n)(hS:∀k,S' k=if k=j then true else S k)(h2:∀k,j<k->k<n->q∈keys (aK j).us->q∈keys (aK k).us->S k=false):
 sG aK h0 S' n q=if q∈keys (aK j).us then ab.get (aK j).us q else sG aK h0 S n q:=by
 induction n with
 |zero=>omega
 |succ n ih=>
  simp only[sG];rcases dK j n with h|h
  · have hn:S' n=S n:=by rw[hS n,if_neg (by omega)]
    rw[ih h λk hk km=>h2 k hk (by omega),hn];by_cases e:q∈keys (aK j).us<;>by_cases e':q∈keys (aK n).us
    · simp[h2 n h (by omega) e e']
    · simp[e']
    · simp[e]
    · simp[e']
  · have:j=n:=by omega
    subst this;rw[hS j,if_pos rfl];(have iS:sG aK h0 S' j q=sG aK h0 S j q:=oE (λ_ _=>rfl) λk hk=>by rw[hS k,if_neg (by omega)]);by_cases e:q∈keys (aK j).us
    · simp[e]
    · simp[e,iS]
def Closed(ops:List aH)(D:Nat->Prop):Prop:=∀j o,ops[j]? =some o->D j-> ∀k∈dg o,D k
theorem vT:∀(rest:List aH) (acc:List (List Nat)) (base:Nat),(∀j,ops[base+j]? =rest[j]?)->acc.length=base->
 (∀(j:Nat) l o,acc[j]? =some l->ops[j]? =some o-> ∀D:Nat->Prop,Closed ops D->(∀k∈dg o,D k)-> ∀k∈l,D k)->
 ∀(j:Nat) l o,(qX rest acc)[j]? =some l->ops[j]? =some o-> ∀D:Nat->Prop,Closed ops D->(∀k∈dg o,D k)-> ∀k∈l,D k:=by
 intro rest
 induction rest with
 |nil=>intro acc base _ _ h;exact h
 |cons o r ih=>
  intro acc base Bw hlen h;refine ih _ (base+1) (λj=>by have:=Bw (j+1);rw[show base+1+j=base+(j+1) by omega];simpa using this) (by simp[hlen]) λj l o' hj yK D hD hk k zm=>?_;rw[nG] at hj;split at hj
  · exact h j l o' hj yK D hD hk k zm
  · rename_i dD
    have y7:j=base:=by
     have:=(aq.1 hj).1;simp at this;omega
    subst y7;rw[show j-acc.length=0 by omega] at hj;simp only[List.getElem?_cons_zero,Option.some.injEq] at hj;subst hj;have ho:=Bw 0;simp only[Nat.add_zero,List.getElem?_cons_zero] at ho
    rw[yK] at ho;injection ho with ho;subst ho
    have:=vS zm;obtain⟨m,hm,Fs⟩:=List.mem_flatMap.1 this;rcases cy.1 Fs with e|e
    · subst e;exact hk k hm
    · have aC:m<acc.length:=by
       rcases dK m acc.length with h'|h'
       · exact h'
       · rw[im,List.getElem?_eq_none h'] at e;simp at e
      have hg:acc[m]? =some (acc.getD m []):=by rw[im,aV aC];rfl
      have nj:∃om,ops[m]? =some om:=by
       have pg:=(aq.1 yK).1;exact⟨_,aV (by omega)⟩
      obtain⟨om,Jg⟩:=nj;exact h m _ om hg Jg D hD (hD m om Jg (hk m hm)) k e
end
theorem wU{o:aH}{k:Nat}:k∈dg o↔ ∃e∈o.after,Region.binds .any e=true/\e.on=k:=by
 simp only[dg,aY,dN,nF];exact⟨λ⟨e,⟨h1,h2⟩,h3⟩=>⟨e,h1,h2,h3⟩,λ⟨e,h1,h2,h3⟩=>⟨e,⟨h1,h2⟩,h3⟩⟩
def Bx(P:au)(ops:List aH)(nx:Nat)(aK:Nat->Rec)(e0:Nat->AV)(h0:Nat->bJ)(i:Nat)(o:aH):Prop:=
 ((aK i).ex=true/\
   (o.guard=none\/ ∃j want t,o.guard=some (j,want)/\fo ops j=some t/\fM ops aK e0 (λ_=>true) i t= .p (.bool want))/\
   ∀(bO:Env) (σ':ab),(∀t∈o.looksAt ops.toArray,bO.get t=fM ops aK e0 (λ_=>true) i t)->
    (∀q,q∈(aK i).fp\/q∈keys (aK i).us->ab.get σ' q=sG aK h0 (λ_=>true) i q)->MD P o.op (bP bO) σ' (nx+64*i) (λv us=>v=(aK i).v/\us=(aK i).us))\/
 ((aK i).ex=false/\(aK i).v=db/\(aK i).us=[]/\(aK i).fp=[]/\
   ∃j want t,o.guard=some (j,want)/\fo ops j=some t/\(fM ops aK e0 (λ_=>true) i t= .p (.bool !want)\/fM ops aK e0 (λ_=>true) i t= .p (.bR [])))
section
variable{P:au}{ops:List aH}{nx yk:Nat}{e0:Nat->AV}{h0:Nat->bJ}{K:St->Prop}{KP:PV->St->Prop}
theorem Bx.congr{aK jz:Nat->Rec}{i:Nat}{o:aH}(h:Bx P ops nx aK e0 h0 i o)(e:∀k,k<=i->jz k=aK k):Bx P ops nx jz e0 h0 i o:=by
 have hE:∀t,fM ops jz e0 (λ_=>true) i t=fM ops aK e0 (λ_=>true) i t:=λt=>kW (λk hk=>e k (by omega)) (λ_ _=>rfl);have hH:∀t,sG jz h0 (λ_=>true) i t=sG aK h0 (λ_=>true) i t:=λt=>oE (λk hk=>e k (by omega)) (λ_ _=>rfl);unfold Bx at *;simp only[hE,hH,e i (aX _)];exact h
theorem zp{o:aH}{j t:Nat}{want:Bool}(hg:o.guard=some (j,want))(hd:fo ops j=some t):t∈o.looksAt ops.toArray:=by
 unfold Oper.looksAt;rw[hg];simp only[cL];right;(have:(ops.toArray[j]?).bind (·.dst)=some t:=by simpa[fo] using hd);rw[this];simp
theorem wV{env bO:Env}{o:aH}(h:∀t∈o.looksAt ops.toArray,bO.get t=env.get t):∀x∈o.op.operands.toList,bP bO x=bP env x:=by
 intro x hx
 cases x with
 |tmp t=>
  refine h t ?_;unfold Oper.looksAt;simp only[cL,List.mem_filterMap];exact .inl ⟨.tmp t,hx,rfl⟩
 |const v=>rfl
 |global g=>rfl
 |func f=>rfl
def Cut(P:au)(G:fK P)(ops:List aH)(nx yk:Nat)(e0:Nat->AV)(h0:Nat->bJ)(K:St->Prop)(KP:PV->St->Prop):Prop:=
 ∃(m:Nat) (jz:Nat->Rec) (bO:Env) (gj:ab),m<=ops.length/\
  (∀t,bO.get t=fM ops jz e0 (λ_=>true) m t)/\(∀q,gj.get q=sG jz h0 (λ_=>true) m q)/\
  (∀k o,k<m->ops[k]? =some o->Bx P ops nx jz e0 h0 k o)/\
  ((Ra ops ((cJ m).map (λk=>((jz k).fp,keys (jz k).us)))=true/\D6 G ops (ops.drop m) ⟨bO,gj,nx+64*m,yk⟩ K KP)\/
   ∃(o:aH) (p:PV) (us:ab),ops[m]? =some o/\
    (o.guard=none\/ ∃j want t,o.guard=some (j,want)/\fo ops j=some t/\fM ops jz e0 (λ_=>true) m t= .p (.bool want))/\
    Fq ops ((cJ m).map (λk=>((jz k).fp,keys (jz k).us))++[([],keys us)])=true/\KP p ⟨[],[],nx+64*ops.length,yk⟩/\
    ∀(GQ:Env) (O5:ab),(∀t∈o.looksAt ops.toArray,GQ.get t=fM ops jz e0 (λ_=>true) m t)->(∀q,q∈keys us->ab.get O5 q=sG jz h0 (λ_=>true) m q)->
     vR P o.op (bP GQ) O5 (nx+64*m) (λp' eu=>p'=p/\eu=us))
theorem MR{op:Op}{ev:aL->AV}{σ:ab}{nid:Nat}{W:PV->ab->Prop}(h:vR P op ev σ nid W):∃p us,W p us/\ ∀(ev':aL->AV) (σ':ab),(∀x∈op.operands.toList,ev' x=ev x)->
 (∀q,q∈keys us->σ'.get q=σ.get q)->vR P op ev' σ' nid (λp' eu=>p'=p/\eu=us):=by
 unfold vR at *;(cases op<;>try exact h.elim);rename_i c;obtain⟨callee,args,ats⟩:=c
 cases callee with
 |builtin b=>exact h.elim
 |invoke r m=>exact h.elim
 |value x=>
  simp only at h ⊢;obtain⟨f,as,qg,jI,ρ,p,hc,gp,has,iX,gU,cj,uC,jZ,hK⟩:=h.h;refine⟨p,_,hK,λev' σ' aR he=>?_⟩;have Fj:∀o∈ρ,σ'.get o=σ.get o:=λo ho=>he o (by simp only[keys,il,aY];exact⟨o,ho,rfl⟩);rw[aR x (by simp[aF,fQ]),mz (l:=args.toList) (λy hy=>aR y (by simp[aF,fQ,nF.1 hy]))];refine⟨f,as,qg,jI,ρ,p,hc,gp,has,iX,λo ho=>by rw[Fj o ho];exact gU o ho,λi hi=>?_,uC,jZ,rfl,rfl⟩;(have hm:ρ.getD i 0∈ρ:=by rw[im,aV hi];exact jR hi);rw[Fj _ hm];exact cj i hi
theorem Jh{G:fK P}:∀(rest:List aH) (i:Nat) (env:Env) (hp:ab) (aK:Nat->Rec) (fq:List (List Nat×List Nat)),(∀j,ops[i+j]? =rest[j]?)->i+rest.length=ops.length->
 (∀t,env.get t=fM ops aK e0 (λ_=>true) i t)->(∀q,hp.get q=sG aK h0 (λ_=>true) i q)->(∀k o,k<i->ops[k]? =some o->Bx P ops nx aK e0 h0 k o)->
 fq=(cJ i).map (λk=>((aK k).fp,keys (aK k).us))->zj G ops nx yk rest i env hp fq K KP->
 Cut P G ops nx yk e0 h0 K KP:=by
 intro rest
 induction rest with
 |nil=>
  intro i env hp aK fq Bw hlen hE hH hT hf h;simp at hlen;subst hlen;simp only[zj] at h;exact⟨ops.length,aK,env,hp,aX _,hE,hH,λk o hk km=>hT k o hk km,.inl ⟨by rw[<-hf];exact Vh h.1 (by rw[hf];simp),by rw[List.drop_length];exact h.2⟩⟩
 |cons o r ih=>
  intro i env hp aK fq Bw hlen hE hH hT hf h;simp only[zj] at h;(have Oa:ops[i]? =some o:=by simpa using Bw 0);(have XJ:∀j,ops[i+1+j]? =r[j]? :=λj=>by have:=Bw (j+1);rw[show i+1+j=i+(j+1) by omega];simpa using this);have FC:i+1+r.length=ops.length:=by simp at hlen;omega
  have next:∀(x:Rec) (nt:Env),(∀t,nt.get t=env.get t)->
   (Bx P ops nx (λk=>if k=i then x else aK k) e0 h0 i o)->
   zj G ops nx yk r (i+1) (nt.put o.dst x.v) (x.us++hp) (fq++[(x.fp,keys x.us)]) K KP->
   Cut P G ops nx yk e0 h0 K KP:=by
   intro x nt h1 h2 h3;have iS:∀t,fM ops (λk=>if k=i then x else aK k) e0 (λ_=>true) i t=fM ops aK e0 (λ_=>true) i t:=λt=>kW (λk hk=>if_neg (by omega)) (λ_ _=>rfl);have O6:∀t,sG (λk=>if k=i then x else aK k) h0 (λ_=>true) i t=sG aK h0 (λ_=>true) i t:=λt=>oE (λk hk=>if_neg (by omega)) (λ_ _=>rfl);refine ih (i+1) _ _ (λk=>if k=i then x else aK k) _ XJ FC (λt=>?_) (λq=>?_) (λk o' hk km=>?_) ?_ h3
   · simp only[fM,iS,if_true,true_and,fo,Oa,Option.bind_some]
     cases hd:o.dst with
     |none=>simp[Env.put,h1,hE]
     |some d=>
      simp only[Env.put,Env.get,h1,hE,Option.some.injEq]
   · simp only[sG,O6,if_true,true_and]
     rw[get_append,hH]
   · rcases dK k i with aC|dD
     · exact(hT k o' aC km).congr λm hm=>if_neg (by omega)
     · have:k=i:=by omega
       subst this
       rw[Oa] at km;injection km with km;subst km
       exact h2
   · rw[hf,List.range_succ,iq]
     simp only[bE,dw,if_true];congr 1;apply List.map_congr_left;intro k hk;(have:k≠i:=by have:=gI.1 hk;omega);simp[this]
  have run:∀nt:Env,(∀t,nt.get t=env.get t)->
   (o.guard=none\/ ∃j want t,o.guard=some (j,want)/\fo ops j=some t/\fM ops aK e0 (λ_=>true) i t= .p (.bool want))->
   (match yieldOf (bP nt) o.op with
     |some _=>Ra ops fq=true/\D6 G ops (o::r) ⟨nt,hp,nx+64*i,yk⟩ K KP
     |none=>GA o.op (MD P o.op (bP nt) hp (nx+64*i) λv us=>zj G ops nx yk r (i+1) (nt.put o.dst v) (us++hp) (fq++[(GP o.op (bP nt),keys us)]) K KP) (vR P o.op (bP nt) hp (nx+64*i) λp us=>Fq ops (fq++[([],keys us)])=true/\KP p ⟨[],[],nx+64*ops.length,yk⟩))->
   Cut P G ops nx yk e0 h0 K KP:=by
   intro nt h1 hg cu
   cases hy:yieldOf (bP nt) o.op with
   |some y=>
    rw[hy] at cu;refine⟨i,aK,nt,hp,by simp at hlen;omega,λt=>by rw[h1,hE],hH,hT,.inl ⟨by rw[<-hf];exact cu.1,?_⟩⟩
    have:ops.drop i=o::r:=by
     refine List.ext_getElem? λj=>?_;rw[jQ];exact Bw j
    rw[this];exact cu.2
   |none=>
   rw[hy] at cu;simp only at cu;rcases K0 cu with cu|cu
   rotate_left
   · obtain⟨p,us,⟨k1,k1'⟩,k2⟩:=MR cu
     refine⟨i,aK,nt,hp,by simp at hlen;omega,λt=>by rw[h1,hE],hH,hT,.inr ⟨o,p,us,Oa,hg,by rw[<-hf];exact k1,k1',λbO σ' he hh=>?_⟩⟩;exact k2 (bP bO) σ' (wV λt ht=>by rw[he t ht,h1,hE]) λq hq=>by rw[hh q hq,hH]
   obtain⟨v,us,k1,k2⟩:=MQ cu;refine next ⟨true,GP o.op (bP nt),v,us⟩ nt h1 (.inl ?_) k1
   have iS:∀t,fM ops (λk=>if k=i then(⟨true,GP o.op (bP nt),v,us⟩:Rec) else aK k) e0 (λ_=>true) i t=fM ops aK e0 (λ_=>true) i t:=
    λt=>kW (λk hk=>if_neg (by omega)) (λ_ _=>rfl)
   have O6:∀t,sG (λk=>if k=i then(⟨true,GP o.op (bP nt),v,us⟩:Rec) else aK k) h0 (λ_=>true) i t=sG aK h0 (λ_=>true) i t:=
    λt=>oE (λk hk=>if_neg (by omega)) (λ_ _=>rfl)
   simp only[if_true,iS,O6,true_and];refine⟨hg,λbO σ' he hh=>k2 (bP bO) σ' (wV λt ht=>by rw[he t ht,h1,hE]) λq hq=>by rw[hh q hq,hH]⟩
  unfold tu at h
  cases hg:o.guard with
  |none=>rw[hg] at h;exact run env (λ_=>rfl) (.inl hg) h
  |some g=>
   obtain⟨j,want⟩:=g;rw[hg] at h;simp only at h
   cases hd:(ops[j]?).bind (·.dst) with
   |none=>rw[hd] at h;exact h.elim
   |some t=>
    rw[hd] at h;simp only at h;have Rb:fo ops j=some t:=hd;have TZ:∀(x:Rec),fM ops (λk=>if k=i then x else aK k) e0 (λ_=>true) i t=fM ops aK e0 (λ_=>true) i t:=λx=>kW (λk hk=>if_neg (by omega)) (λ_ _=>rfl);split at h
    · rename_i b hb
      have nt:∀c,b=c-> ∀u,Env.get ((t,.p (.bool c))::env) u=env.get u:=λc hc u=>by
       simp only[Env.get];split
       · rename_i e;rw[<-e,hb,hc]
       · rfl
      by_cases hw:b=want
      · refine run ((t,.p (.bool want))::env) (nt want hw) (.inr ⟨j,want,t,hg,Rb,?_⟩) (h.1 hw)
        rw[<-hE,hb,hw]
      · have pT:b= !want:=by cases b<;>cases want<;>simp_all
        refine next ⟨false,[],db,[]⟩ ((t,.p (.bool !want))::env) (nt _ pT) (.inr ?_) (h.2 hw);simp only[if_true,true_and];exact⟨j,want,t,hg,Rb,.inl (by rw[TZ,<-hE,hb,pT])⟩
    · rename_i hb
      refine next ⟨false,[],db,[]⟩ env (λ_=>rfl) (.inr ?_) h;simp only[if_true,true_and];exact⟨j,want,t,hg,Rb,.inr (by rw[TZ,<-hE,hb])⟩
    · exact h.elim
end
section
variable{P:au}{N:Nat}{ops:List aH}{nx:Nat}{e0:Nat->AV}{h0:Nat->bJ}{aK:Nat->Rec}
def kB(listed:Array Bool)(k:Nat):Bool:=listed.getD k false
theorem pj{listed:Array Bool}{j:Nat}(hj:j<listed.size)(k:Nat):kB (listed.setIfInBounds j true) k=if k=j then true else kB listed k:=by
 unfold kB;split
 · rename_i e;subst e;simp[hj]
 · rename_i e;exact getD_set_ne false (λh=>e h.symm)
theorem XK{fq:List (List Nat×List Nat)}(h:Vg ops fq=true):
 (∀j o,ops[j]? =some o-> ∀k∈dg o,k<j)/\ ∀i j,i<j->j<ops.length->mj ops fq i j=true-> ∀(o:aH),ops[j]? =some o-> ∀D:Nat->Prop,Closed ops D->(∀k∈dg o,D k)->D i:=by
 unfold Vg at h;simp only[cG,gI,aQ] at h;refine⟨λj o ho k hk=>?_,λi j gx hj hc o ho D hD hk=>?_⟩
 · have hj:=(aq.1 ho).1
   have:=(h j hj).1;rw[ho] at this;simpa using cG.1 this k hk
 · have:=(h j hj).2 i gx
   rw[hc] at this;simp only[Bool.not_true,Bool.or_false] at this
   have hlen:j<(qX ops []).length:=by
    rcases dK j (qX ops []).length with h'|h'
    · exact h'
    · rw[im,List.getElem?_eq_none h'] at this;simp at this
   (have hg:(qX ops [])[j]? =some ((qX ops []).getD j []):=by rw[im,aV hlen];rfl);exact vT ops [] 0 (by simp) rfl (by simp) j _ o hg ho D hD hk i (by simpa using this)
theorem O7{fq:List (List Nat×List Nat)}(h:Ra ops fq=true):
 (∀j o,ops[j]? =some o-> ∀k∈dg o,k<j)/\ ∀i j,i<j->j<ops.length->(fq.length<=j\/mj ops fq i j=true)-> ∀(o:aH),ops[j]? =some o-> ∀D:Nat->Prop,Closed ops D->(∀k∈dg o,D k)->D i:=by
 unfold Ra at h;simp only[cG,gI,aQ] at h;refine⟨λj o ho k hk=>?_,λi j gx hj hc o ho D hD hk=>?_⟩
 · have hj:=(aq.1 ho).1
   have:=(h j hj).1;rw[ho] at this;simpa using cG.1 this k hk
 · have:=(h j hj).2 i gx
   have e:(decide (j<fq.length)&& !mj ops fq i j)=false:=by
    rcases hc with hc|hc
    · rw[decide_eq_false (by omega)];rfl
    · rw[hc];simp
   rw[e] at this;simp only[Bool.or_false] at this
   have hlen:j<(qX ops []).length:=by
    rcases dK j (qX ops []).length with h'|h'
    · exact h'
    · rw[im,List.getElem?_eq_none h'] at this;simp at this
   (have hg:(qX ops [])[j]? =some ((qX ops []).getD j []):=by rw[im,aV hlen];rfl);exact vT ops [] 0 (by simp) rfl (by simp) j _ o hg ho D hD hk i (by simpa using this)
structure GR(P:au)(N:Nat)(ops:List aH)(nx:Nat)(e0:Nat->AV)(h0:Nat->bJ)(aK:Nat->Rec)(m:Nat)(listed:Array Bool)(F:Nat->Prop)(μ:aN)(a:Act)(w:aj):Prop where
 sz:listed.size=ops.length
 dc:Closed ops (λk=>kB listed k=true)
 lo:∀k,m<=k->kB listed k=false
 sim:∃hp:ab,az F μ hp w/\ ∀q,hp.get q=sG aK h0 (kB listed) m q
 env:∃en:Env,(∀t,RV F μ w (a.tmps[t]?.getD undef) (en.get t))/\ ∀t,en.get t=fM ops aK e0 (kB listed) m t
 size:a.tmps.size=N
 fresh:∀o,nx+64*m<=o->μ o=none
 WC:∀j,j<m->kB listed j=false-> ∀o,nx+64*j<=o->o<nx+64*j+64->μ o=none
def MS(n:Nat)(listed:Array Bool):Nat:=((cJ n).filter λj=> !kB listed j).length
theorem Vi{n j:Nat}{listed:Array Bool}(hj:j<n)(hs:j<listed.size)(h:kB listed j=false):MS n (listed.setIfInBounds j true)<MS n listed:=by
 unfold MS
 have e:(cJ n).filter (λk=> !kB (listed.setIfInBounds j true) k)=((cJ n).filter λk=> !kB listed k).filter (λk=>decide (k≠j)):=by
  rw[List.filter_filter];apply List.filter_congr;intro k _;rw[pj hs];by_cases e:k=j<;>simp[e]
 rw[e];exact List.length_filter_lt_length_iff_exists.2 ⟨j,by simp[hj,h],by simp⟩
theorem GS{n:Nat}{listed:Array Bool}(h:MS n listed=0)(j:Nat)(hj:j<n):kB listed j=true:=by
 unfold MS at h;have:=qn.1 h
 cases hl:kB listed j with
 |true=>rfl
 |false=>
  have hm:j∈(cJ n).filter λj=> !kB listed j:=by simp[hj,hl]
  rw[this] at hm;simp at hm
theorem uG{i j t:Nat}{x y:aH}{fq:List (List Nat×List Nat)}(hx:ops[i]? =some x)(hy:ops[j]? =some y)(h:(x.dst=some t/\(t∈y.looksAt ops.toArray\/y.dst=some t))\/(y.dst=some t/\t∈x.looksAt ops.toArray)):
 mj ops fq i j=true:=by
 unfold mj;rw[hx,hy];simp only[Bool.or_eq_true,Bool.not_eq_true'];left;left
 cases ha:Oper.apart ops.toArray x y with
 |false=>rfl
 |true=>
  obtain⟨h1,h2,h3⟩:=Oper.apart_spec ha;rcases h with⟨hd,h|h⟩|⟨hd,h⟩
  · exact absurd h (h1 t hd)
  · exact absurd h (h2 t hd)
  · exact absurd h (h3 t hd)
theorem zq{i j q n:Nat}{x y:aH}(hx:ops[i]? =some x)(hy:ops[j]? =some y)(hi:i<n)(hj:j<n)
 (h:(q∈keys (aK i).us/\(q∈(aK j).fp\/q∈keys (aK j).us))\/(q∈keys (aK j).us/\q∈(aK i).fp)):
 mj ops ((cJ n).map (λk=>((aK k).fp,keys (aK k).us))) i j=true:=by
 unfold mj;rw[hx,hy]
 have hg:∀k,k<n->((cJ n).map (λk=>((aK k).fp,keys (aK k).us))).getD k ([],[])=((aK k).fp,keys (aK k).us):=λk hk=>by
  rw[im,aW,List.getElem?_range hk];rfl
 simp only[hg i hi,hg j hj,Bool.or_eq_true,kS,List.contains_eq_mem,decide_eq_true_eq];rcases h with⟨h1,h⟩|⟨h1,h2⟩
 · exact .inl (.inr ⟨q,h1,h⟩)
 · exact .inr ⟨q,h1,h2⟩
theorem jA(listed:Array Bool)(j:Nat)(hs:listed.size=ops.length):(j∈Region.ready .any ops.toArray listed↔j<ops.length/\kB listed j=false/\ ∃o,ops[j]? =some o/\ ∀k∈dg o,kB listed k=true):=by
 rw[mem_ready];constructor
 · rintro⟨h1,o,h2,h3⟩
   (have WD:ops[j]? =some o:=by simpa using h2);have hj:=(aq.1 WD).1;refine⟨hj,?_,o,WD,λk hk=>?_⟩
   · unfold kB;rw[Array.getD_eq_getD_getElem?,dh (by omega)] at h1 ⊢;exact h1
   · obtain⟨e,he,hb,rfl⟩:=wU.1 hk
     exact h3 e he hb
 · rintro⟨hj,h1,o,h2,h3⟩
   refine⟨?_,o,by simpa using h2,λe he hb=>h3 e.on (wU.2 ⟨e,he,hb,rfl⟩)⟩;unfold kB at h1;rw[Array.getD_eq_getD_getElem?,dh (by omega)] at h1 ⊢;exact h1
theorem CO{ro:Option Nat}{n:Nat}{Q:Exit->Act->aj->Prop}{w0:aj}{F0:Nat->Prop}{μ0:aN}{a0:Act}(bQ:sO N ops=true){m:Nat}(hm:m<=ops.length)
 (iS:∀j o,ops[j]? =some o-> ∀k∈dg o,k<j)
 (MT:∀i j,i<j->j<m->mj ops ((cJ m).map (λk=>((aK k).fp,keys (aK k).us))) i j=true-> ∀(o:aH),ops[j]? =some o-> ∀D:Nat->Prop,Closed ops D->(∀k∈dg o,D k)->D i)
 (hT:∀k o,k<m->ops[k]? =some o->Bx P ops nx aK e0 h0 k o)
 (done:∀(fuel:Nat) (listed:Array Bool) (F:Nat->Prop) (μ:aN) (a:Act) (w:aj),ops.length-m<=fuel->(∀j,j<m->kB listed j=true)->Step F0 μ0 w0 F μ w->GR P N ops nx e0 h0 aK m listed F μ a w->a.defers=a0.defers->wpAnyIn (fc ro) n P .any ops.toArray Q fuel listed a w)
 (beyond:∀(fuel:Nat) (listed:Array Bool) (F:Nat->Prop) (μ:aN) (a:Act) (w:aj) (j:Nat) (o:aH),m<=j->j<ops.length->kB listed j=false->ops[j]? =some o->(∀k∈dg o,kB listed k=true)->(∃j,j<m/\kB listed j=false)->
   Step F0 μ0 w0 F μ w->GR P N ops nx e0 h0 aK m listed F μ a w->a.defers=a0.defers->wpOpIn (fc ro) n P ops.toArray Q j (wpAnyIn (fc ro) n P .any ops.toArray Q fuel (listed.setIfInBounds j true)) a w):
 ∀(fuel:Nat) (listed:Array Bool) (F:Nat->Prop) (μ:aN) (a:Act) (w:aj),MS m listed+(ops.length-m)<=fuel->Step F0 μ0 w0 F μ w->GR P N ops nx e0 h0 aK m listed F μ a w->a.defers=a0.defers->
  wpAnyIn (fc ro) n P .any ops.toArray Q fuel listed a w:=by
 intro fuel
 induction fuel with
 |zero=>
  intro listed F μ a w hu cu hI zt;exact done 0 listed F μ a w (by omega) (GS (by omega)) cu hI zt
 |succ fuel ih=>
  intro listed F μ a w hu cu hI zt;rcases Nat.eq_zero_or_pos (MS m listed) with hz|aZ
  · exact done (fuel+1) listed F μ a w (by omega) (GS hz) cu hI zt
  have hex:∃j,j<m/\kB listed j=false:=by
   rcases mQ (∃j,j<m/\kB listed j=false) with h|h
   · exact h
   · have:MS m listed=0:=by
      unfold MS;rw[qn,List.filter_eq_nil_iff];intro j hj;have hj:=gI.1 hj
      cases hl:kB listed j with
      |true=>simp
      |false=>exact absurd ⟨j,hj,hl⟩ h
     omega
  refine⟨λMU=>?_,λj hj=>?_⟩
  · exfalso
    obtain⟨j0,y7,gy⟩:=hex
    have all:∀j,j<m->kB listed j=true:=λj=>by
     induction j using Nat.strongRecOn with
     |_ j ihj=>
      intro hj
      cases hl:kB listed j with
      |true=>rfl
      |false=>
       have hoj:ops[j]? =some (ops[j]'(by omega)):=aV _;have:j∈Region.ready .any ops.toArray listed:=(jA listed j hI.sz).2 ⟨by omega,hl,_,hoj,λk hk=>ihj k (iS j _ hoj k hk) (by have:=iS j _ hoj k hk;omega)⟩;rw[MU] at this;simp at this
    rw[all j0 y7] at gy;cases gy
  · obtain⟨XL,Se,o,ho,Rc⟩:=(jA listed j hI.sz).1 hj
    rcases dK j m with pg|dD
    rotate_left
    · exact beyond fuel listed F μ a w j o dD XL Se ho Rc hex cu hI zt
    (have OH:j<listed.size:=by rw[hI.sz];exact XL);have MW:∀k,k<m->∃x,ops[k]? =some x:=λk hk=>⟨_,aV (by omega)⟩;have fA:∀i,i<j->mj ops ((cJ m).map (λk=>((aK k).fp,keys (aK k).us))) i j=true->kB listed i=true:=λi gx hc=>MT i j gx pg hc o ho _ hI.dc Rc
    have fB:∀k,j<k->k<m->mj ops ((cJ m).map (λk=>((aK k).fp,keys (aK k).us))) j k=true->kB listed k=false:=λk Gl hk hc=>by
     obtain⟨x,hx⟩:=MW k hk
     cases hl:kB listed k with
     |false=>rfl
     |true=>
      have:=MT j k Gl hk hc x hx _ hI.dc (hI.dc k x hx hl);rw[Se] at this;cases this
    have qY:∀{k t},fo ops k=some t->∃x,ops[k]? =some x/\x.dst=some t:=λ{k t} h=>by
     unfold fo at h;obtain⟨x,h1,h2⟩:=pb.1 h;exact⟨x,h1,h2⟩
    have hE:∀t∈o.looksAt ops.toArray,fM ops aK e0 (kB listed) m t=fM ops aK e0 (λ_=>true) j t:=λt ht=>by
     refine K5 (Nat.le_of_lt pg) (λi gx hd=>?_) (λk Gl hk hd=>?_)
     · obtain⟨x,h1,h2⟩:=qY hd
       exact fA i gx (uG h1 ho (.inl ⟨h2,.inl ht⟩))
     · rcases dK j k with h|h
       · obtain⟨x,h1,h2⟩:=qY hd
         exact fB k h hk (uG ho h1 (.inr ⟨h2,ht⟩))
       · have:k=j:=by omega
         subst this;exact Se
    have hH:∀q,q∈(aK j).fp\/q∈keys (aK j).us->sG aK h0 (kB listed) m q=sG aK h0 (λ_=>true) j q:=λq hq=>by
     refine O3 (Nat.le_of_lt pg) (λi gx hd=>?_) (λk Gl hk hd=>?_)
     · obtain⟨x,h1⟩:=MW i (by omega)
       exact fA i gx (zq h1 ho (by omega) pg (.inl ⟨hd,hq⟩))
     · rcases dK j k with h|h
       · obtain⟨x,h1⟩:=MW k hk
         refine fB k h hk (zq (q:=q) ho h1 pg hk ?_);rcases hq with hq|hq
         · exact .inr ⟨hd,hq⟩
         · exact .inl ⟨hq,.inr hd⟩
       · have:k=j:=by omega
         subst this;exact Se
    have I4:∀d,o.dst=some d->d<N:=iu bQ o (aO ho);(have hdf':∀v,(a.put o.dst v).defers=a0.defers:=λv=>by rw[<-zt];cases o.dst<;>rfl);obtain⟨en,e1,e2⟩:=hI.env;obtain⟨hp,s1,s2⟩:=hI.sim
    have go:∀(v:ah) (w':aj) (F':Nat->Prop) (μ':aN),Step F μ w F' μ' w'->az F' μ' ((aK j).us++hp) w'->RV F' μ' w' v (aK j).v->
     (∀q,q<nx+64*j\/nx+64*j+64<=q->μ' q=μ q)->wpAnyIn (fc ro) n P .any ops.toArray Q fuel (listed.setIfInBounds j true) (a.put o.dst v) w':=by
     intro v w' F' μ' k1 k2 k3 k4;refine ih _ F' μ' _ w' ?_ (cu.trans k1) ?_ (hdf' v)
     · have:=Vi pg OH Se;omega
     · refine⟨by simp[hI.sz],λk x hx hk m' nj=>?_,λk hk=>?_,⟨_,k2,λq=>?_⟩,⟨en.put o.dst (aK j).v,sj (λt=>(e1 t).step k1) (λd hd=>by rw[hI.size];exact I4 d hd) k3,λt=>?_⟩,
        by cases o.dst<;>simp[Act.put,hI.size],λq hq=>?_,λk hk hl q h1 h2=>?_⟩
       · have hk:kB (listed.setIfInBounds j true) k=true:=hk
         show kB (listed.setIfInBounds j true) m'=true;rw[pj OH] at hk ⊢;by_cases e:m'=j
         · rw[if_pos e]
         · rw[if_neg e]
           by_cases e':k=j
           · subst e';rw[ho] at hx;injection hx with hx;subst hx;exact Rc m' nj
           · rw[if_neg e'] at hk;exact hI.dc k x hx hk m' nj
       · rw[pj OH,if_neg (by omega)];exact hI.lo k hk
       · rw[get_append,s2 q,Sd pg (pj OH) λk Gl hk h1 h2=>?_]
         obtain⟨x,hx⟩:=MW k hk;exact fB k Gl hk (zq ho hx pg hk (.inl ⟨h1,.inr h2⟩))
       · rw[O4 pg (pj OH) λk Gl hk h1 h2=>?_,<-e2]
         · have hdj:fo ops j=o.dst:=by simp[fo,ho]
           rw[hdj]
           cases o.dst with
           |none=>simp[Env.put]
           |some d=>simp only[Env.put,Env.get,Option.some.injEq]
         · obtain⟨x,hx,Vb⟩:=qY h2
           obtain⟨y,hy,hyd⟩:=qY h1
           rw[ho] at hy;injection hy with hy;subst hy
           exact fB k Gl hk (uG ho hx (.inl ⟨hyd,.inr Vb⟩))
       · rw[k4 q (by omega)];exact hI.fresh q hq
       · rw[pj OH] at hl
         by_cases e:k=j
         · rw[if_pos e] at hl;cases hl
         · rw[if_neg e] at hl
           rw[k4 q (by omega)];exact hI.WC k hk hl q h1 h2
    have yv:∀{g:Nat} {want:Bool} {t:Nat},o.guard=some (g,want)->fo ops g=some t->∃v,yielded ops.toArray a.tmps g=(match v with|.bool b=>some b|_=>none)/\RV F μ w v (fM ops aK e0 (λ_=>true) j t):=by
     intro g want t hg hd;obtain⟨x,hx,Vb⟩:=qY hd;(have aC:t<a.tmps.size:=by rw[hI.size];exact iu bQ x (aO hx) t Vb);refine⟨a.tmps[t]?.getD undef,?_,?_⟩
     · unfold yielded
       (have:(ops.toArray[g]?).bind (·.dst)=some t:=by simpa[fo] using hd);rw[this];simp only[Option.bind_some];rw[dh aC,js];cases a.tmps[t]<;>rfl
     · rw[<-hE t (zp hg hd),<-e2];exact e1 t
    unfold wpOpIn;(have yK:ops.toArray[j]? =some o:=by simpa using ho);simp only[yK];rcases hT j o pg ho with⟨hex,hg,RX⟩|⟨hex,hv,UN,hfp,g,want,t,hg,hd,ml⟩
    · have hw:je o (yielded ops.toArray a.tmps)=true:=by
       unfold je;rcases hg with hg|⟨g,want,t,hg,hd,ml⟩
       · rw[hg]
       · rw[hg]
         obtain⟨v,y1,y2⟩:=yv hg hd;rw[ml] at y2;have:=jx y2;subst this;simp[y1]
      rw[hw];simp only[if_true];have XM:=RX en hp (λt ht=>by rw[e2,hE t ht]) (λq hq=>by rw[s2,hH q hq]);refine CG s1 (λq h1 h2=>hI.WC j pg Se q h1 h2) (gu s1.fb.gl e1) XM λav us v w' F' μ' k1 k2 k3 k4 k5=>?_;obtain⟨rfl,rfl⟩:=k1;exact go v w' F' μ' k2 k3 k4 k5
    · have hw:je o (yielded ops.toArray a.tmps)=false:=by
       unfold je;rw[hg];obtain⟨v,y1,y2⟩:=yv hg hd;rcases ml with ml|ml
       · rw[ml] at y2
         have:=jx y2;subst this;simp[y1]
       · rw[ml] at y2
         have:=wP y2;subst this;simp[y1]
      rw[hw];simp only[mB,if_false];refine⟨cM o a w,go undef w F μ (Step.refl F μ w) (by rw[UN];exact s1) (by rw[hv];exact GB) (λ_ _=>rfl)⟩
theorem O8{ro:Option Nat}{n:Nat}{Q:Exit->Act->aj->Prop}{w0:aj}{F0:Nat->Prop}{μ0:aN}{a0:Act}(bQ:sO N ops=true){m:Nat}(hm:m<=ops.length)
 (hR:Ra ops ((cJ m).map (λk=>((aK k).fp,keys (aK k).us)))=true) (hT:∀k o,k<m->ops[k]? =some o->Bx P ops nx aK e0 h0 k o)
 (oF:∀F' μ' a' w' (hp:ab) (en:Env),Step F0 μ0 w0 F' μ' w'->az F' μ' hp w'->(∀q,hp.get q=sG aK h0 (λ_=>true) m q)->(∀t,RV F' μ' w' (a'.tmps[t]?.getD undef) (en.get t))->
   (∀t,en.get t=fM ops aK e0 (λ_=>true) m t)->a'.tmps.size=N->(∀o,nx+64*m<=o->μ' o=none)->a'.defers=a0.defers->wpListIn (fc ro) n P ops.toArray Q (ops.drop m) a' w'):
 ∀(fuel:Nat) (listed:Array Bool) (F:Nat->Prop) (μ:aN) (a:Act) (w:aj),MS m listed+(ops.length-m)<=fuel->Step F0 μ0 w0 F μ w->GR P N ops nx e0 h0 aK m listed F μ a w->a.defers=a0.defers->
  wpAnyIn (fc ro) n P .any ops.toArray Q fuel listed a w:=by
 obtain⟨iS,CP⟩:=O7 hR;have MT:∀i j,i<j->j<m->mj ops ((cJ m).map (λk=>((aK k).fp,keys (aK k).us))) i j=true-> ∀(o:aH),ops[j]? =some o-> ∀D:Nat->Prop,Closed ops D->(∀k∈dg o,D k)->D i:=λi j h1 h2 h3=>CP i j h1 (by omega) (.inr h3);have T0:∀i j,i<j->j<ops.length->m<=j-> ∀(o:aH),ops[j]? =some o-> ∀D:Nat->Prop,Closed ops D->(∀k∈dg o,D k)->D i:=λi j h1 h2 h3=>CP i j h1 h2 (.inl (by simpa using h3))
 have tail:∀(fuel k:Nat) (listed:Array Bool) (a:Act) (w:aj),ops.length-k<=fuel->m<=k->k<=ops.length->listed.size=ops.length->(∀i,kB listed i=decide (i<k))->wpListIn (fc ro) n P ops.toArray Q (ops.drop k) a w->
  wpAnyIn (fc ro) n P .any ops.toArray Q fuel listed a w:=by
  intro fuel
  induction fuel with
  |zero=>
   intro k listed a w hf XN hk hs hl hw;(have e:k=ops.length:=by omega);subst e;rw[List.drop_length] at hw;refine⟨?_,hw⟩;rw[List.eq_nil_iff_forall_not_mem];intro j hj;obtain⟨h1,h2,_⟩:=(jA listed j hs).1 hj;rw[hl j,decide_eq_true h1] at h2;cases h2
  |succ fuel ih=>
   intro k listed a w hf XN hk hs hl hw;rcases dK k ops.length with aC|dD
   · have bQ:ops[k]? =some ops[k]:=aV aC
     refine⟨λMU=>?_,λj hj=>?_⟩
     · have:k∈Region.ready .any ops.toArray listed:=(jA listed k hs).2 ⟨aC,by rw[hl k];simp,_,bQ,λi hi=>by rw[hl i];exact decide_eq_true (iS k _ bQ i hi)⟩
       rw[MU] at this;simp at this
     · obtain⟨h1,h2,o,ho,h3⟩:=(jA listed j hs).1 hj
       have Gl:j=k:=by
        rw[hl j] at h2;have h2:=of_decide_eq_false h2;rcases dK k j with h|h
        · have sJ:Closed ops (λi=>kB listed i=true):=λj' o' yK IK i hi=>by
           have IK:kB listed j'=true:=IK;show kB listed i=true;rw[hl] at IK ⊢;have:=iS j' o' yK i hi;exact decide_eq_true (by have:=of_decide_eq_true IK;omega)
          have:=T0 k j h h1 (by omega) o ho _ sJ h3;have this:kB listed k=true:=this;rw[hl k] at this;have:=of_decide_eq_true this;omega
        · omega
       subst Gl
       have hd:ops.drop j=o::ops.drop (j+1):=by
        rw[List.drop_eq_getElem_cons aC];congr 1;rw[bQ] at ho;injection ho
       rw[hd] at hw;have yK:ops.toArray[j]? =some o:=by simpa using ho
       have nxt:∀a w,wpListIn (fc ro) n P ops.toArray Q (ops.drop (j+1)) a w->wpAnyIn (fc ro) n P .any ops.toArray Q fuel (listed.setIfInBounds j true) a w:=λa w h=>by
        refine ih (j+1) _ a w (by omega) (by omega) (by omega) (by simp[hs]) (λi=>?_) h;rw[pj (by omega),hl i];split
        · rename_i e;subst e;exact(decide_eq_true (by omega)).symm
        · rename_i e
          by_cases h':i<j
          · rw[decide_eq_true h',decide_eq_true (by omega)]
          · rw[decide_eq_false h',decide_eq_false (by omega)]
       refine wpOpIn_mono nxt ?_;unfold wpOpIn;simp only[yK];exact hw
   · have e:k=ops.length:=by omega
     subst e;rw[List.drop_length] at hw;refine⟨λ_=>hw,λj hj=>?_⟩;obtain⟨h1,h2,_⟩:=(jA listed j hs).1 hj;rw[hl j,decide_eq_true h1] at h2;cases h2
 have done:∀(fuel:Nat) (listed:Array Bool) (F:Nat->Prop) (μ:aN) (a:Act) (w:aj),ops.length-m<=fuel->(∀j,j<m->kB listed j=true)->Step F0 μ0 w0 F μ w->GR P N ops nx e0 h0 aK m listed F μ a w->a.defers=a0.defers->wpAnyIn (fc ro) n P .any ops.toArray Q fuel listed a w:=by
  intro fuel listed F μ a w XO qQ cu hI zt;obtain⟨hp,s1,s2⟩:=hI.sim;obtain⟨en,e1,e2⟩:=hI.env;refine tail fuel m listed a w XO (aX _) hm hI.sz (λi=>?_) (oF F μ a w hp en cu s1 (λq=>(s2 q).trans (oE (λ_ _=>rfl) λk hk=>qQ k hk)) e1 (λt=>(e2 t).trans (kW (λ_ _=>rfl) λk hk=>qQ k hk)) hI.size hI.fresh zt);by_cases h:i<m
  · rw[qQ i h,decide_eq_true h]
  · rw[hI.lo i (by omega),decide_eq_false h]
 refine CO bQ hm iS MT hT done λfuel listed F μ a w j o dD pg Se ho Rc hex cu hI zt=>?_;exfalso;obtain⟨j0,y7,gy⟩:=hex;have:=T0 j0 j (by omega) pg dD o ho _ hI.dc Rc;have this:kB listed j0=true:=this;rw[this] at gy;cases gy
theorem O9{fq:List (List Nat×List Nat)}(h:Fq ops fq=true):
 (∀j o,ops[j]? =some o-> ∀k∈dg o,k<j)/\ ∀i j,i<j->j<ops.length->((j<fq.length/\mj ops fq i j=true)\/(fq.length<=j/\i+1=fq.length))-> ∀(o:aH),ops[j]? =some o-> ∀D:Nat->Prop,Closed ops D->(∀k∈dg o,D k)->D i:=by
 unfold Fq at h;simp only[cG,gI,aQ] at h;refine⟨λj o ho k hk=>?_,λi j gx hj hc o ho D hD hk=>?_⟩
 · have hj:=(aq.1 ho).1
   have:=(h j hj).1;rw[ho] at this;simpa using cG.1 this k hk
 · have:=(h j hj).2 i gx
   have e1:(decide (j<fq.length)&& !mj ops fq i j)=false:=by
    rcases hc with⟨_,hc⟩|⟨hc,_⟩
    · rw[hc];simp
    · rw[decide_eq_false (by omega)];rfl
   have e2:(decide (fq.length<=j)&& !decide (i+1=fq.length))=false:=by
    rcases hc with⟨hc,_⟩|⟨_,hc⟩
    · rw[decide_eq_false (by omega)];rfl
    · rw[decide_eq_true hc];simp
   rw[e1,e2] at this;simp only[Bool.or_false] at this
   have hlen:j<(qX ops []).length:=by
    rcases dK j (qX ops []).length with h'|h'
    · exact h'
    · rw[im,List.getElem?_eq_none h'] at this;simp at this
   (have hg:(qX ops [])[j]? =some ((qX ops []).getD j []):=by rw[im,aV hlen];rfl);exact vT ops [] 0 (by simp) rfl (by simp) j _ o hg ho D hD hk i (by simpa using this)
theorem O'{l:List (List Nat×List Nat)}{x:List Nat×List Nat}{i j:Nat}(hi:i<l.length)(hj:j<l.length):mj ops (l++[x]) i j=mj ops l i j:=by
 have g:∀k,k<l.length->(l++[x]).getD k ([],[])=l.getD k ([],[]):=λk hk=>by
  rw[im,im,gA hk]
 unfold mj;rw[g i hi,g j hj]
theorem MX{l:List (List Nat×List Nat)}{ks:List Nat}{i q:Nat}{x y:aH}(hi:i<l.length)(hx:ops[i]? =some x)(hy:ops[l.length]? =some y)(h1:q∈(l.getD i ([],[])).2)(h2:q∈ks):mj ops (l++[([],ks)]) i l.length=true:=by
 have g:(l++[(([]:List Nat),ks)]).getD i ([],[])=l.getD i ([],[]):=by
  rw[im,im,gA hi]
 have g2:(l++[(([]:List Nat),ks)]).getD l.length ([],[])=([],ks):=by
  rw[im,lX (aX _)];simp
 unfold mj;rw[hx,hy,g,g2];simp only[Bool.or_eq_true,kS];refine .inl (.inr ⟨q,h1,.inr ?_⟩);simpa[List.contains_eq_mem] using h2
theorem Pa{ro:Option Nat}{n:Nat}{Q:Exit->Act->aj->Prop}{w0:aj}{F0:Nat->Prop}{μ0:aN}{a0:Act}(bQ:sO N ops=true){m:Nat}{om:aH}{p:PV}{us:ab}(Jg:ops[m]? =some om)
 (hgd:om.guard=none\/ ∃j want t,om.guard=some (j,want)/\fo ops j=some t/\fM ops aK e0 (λ_=>true) m t= .p (.bool want))
 (hX:Fq ops ((cJ m).map (λk=>((aK k).fp,keys (aK k).us))++[([],keys us)])=true) (hT:∀k o,k<m->ops[k]? =some o->Bx P ops nx aK e0 h0 k o)
 (hpk:∀(GQ:Env) (O5:ab),(∀t∈om.looksAt ops.toArray,GQ.get t=fM ops aK e0 (λ_=>true) m t)->(∀q,q∈keys us->ab.get O5 q=sG aK h0 (λ_=>true) m q)->
   vR P om.op (bP GQ) O5 (nx+64*m) (λp' eu=>p'=p/\eu=us))
 (oF:∀F' μ' a' w' v,Step F0 μ0 w0 F' μ' w'->az F' μ' [] w'->a'.tmps.size=N->(∀o,nx+64*ops.length<=o->μ' o=none)->a'.defers=a0.defers->RP F' w' v p->Q (.panic [{ v,recovered:=false }]) a' w'):
 ∀(fuel:Nat) (listed:Array Bool) (F:Nat->Prop) (μ:aN) (a:Act) (w:aj),MS m listed+(ops.length-m)<=fuel->Step F0 μ0 w0 F μ w->GR P N ops nx e0 h0 aK m listed F μ a w->a.defers=a0.defers->
  wpAnyIn (fc ro) n P .any ops.toArray Q fuel listed a w:=by
 obtain⟨iS,CP⟩:=O9 hX;have kl:m<ops.length:=(aq.1 Jg).1;have hlen:((cJ m).map (λk=>((aK k).fp,keys (aK k).us))).length=m:=by simp
 have MT:∀i j,i<j->j<m->mj ops ((cJ m).map (λk=>((aK k).fp,keys (aK k).us))) i j=true-> ∀(o:aH),ops[j]? =some o-> ∀D:Nat->Prop,Closed ops D->(∀k∈dg o,D k)->D i:=λi j h1 h2 h3=>
  CP i j h1 (by omega) (.inl ⟨by simp;omega,by rw[O' (by simp;omega) (by simp;omega)];exact h3⟩)
 have Pc:∀j,m<j->j<ops.length-> ∀(o:aH),ops[j]? =some o-> ∀D:Nat->Prop,Closed ops D->(∀k∈dg o,D k)->D m:=λj h1 h2=>CP m j h1 h2 (.inr ⟨by simp;omega,by simp⟩);have Pd:∀i,i<m->mj ops ((cJ m).map (λk=>((aK k).fp,keys (aK k).us))++[([],keys us)]) i m=true-> ∀D:Nat->Prop,Closed ops D->(∀k∈dg om,D k)->D i:=λi h1 h3=>CP i m h1 kl (.inl ⟨by simp,h3⟩) om Jg
 have pan:∀(K:Act->aj->Prop) (listed:Array Bool) (F:Nat->Prop) (μ:aN) (a:Act) (w:aj),kB listed m=false->(∀k∈dg om,kB listed k=true)->Step F0 μ0 w0 F μ w->GR P N ops nx e0 h0 aK m listed F μ a w->a.defers=a0.defers->
  wpOpIn (fc ro) n P ops.toArray Q m K a w:=by
  intro K listed F μ a w Se Rc cu hI zt;have fA:∀i,i<m->mj ops ((cJ m).map (λk=>((aK k).fp,keys (aK k).us))++[([],keys us)]) i m=true->kB listed i=true:=λi gx hc=>Pd i gx hc _ hI.dc Rc
  have qY:∀{k t},fo ops k=some t->∃x,ops[k]? =some x/\x.dst=some t:=λ{k t} h=>by
   unfold fo at h;obtain⟨x,h1,h2⟩:=pb.1 h;exact⟨x,h1,h2⟩
  have hE:∀t∈om.looksAt ops.toArray,fM ops aK e0 (kB listed) m t=fM ops aK e0 (λ_=>true) m t:=λt ht=>by
   refine K5 (aX m) (λi gx hd=>?_) (λk Gl hk hd=>by omega);obtain⟨x,h1,h2⟩:=qY hd;exact fA i gx (uG h1 Jg (.inl ⟨h2,.inl ht⟩))
  have hH:∀q,q∈keys us->sG aK h0 (kB listed) m q=sG aK h0 (λ_=>true) m q:=λq hq=>by
   refine O3 (aX m) (λi gx hd=>?_) (λk Gl hk hd=>by omega);refine fA i gx ?_;have h1:ops[i]? =some (ops[i]'(by omega)):=aV _;have:=MX (l:=(cJ m).map (λk=>((aK k).fp,keys (aK k).us))) (ks:=keys us) (i:=i) (q:=q) (by simp;omega) h1 (by rw[hlen];exact Jg) (by rw[im,aW,List.getElem?_range gx];exact hd) hq;rw[hlen] at this;exact this
  obtain⟨en,e1,e2⟩:=hI.env;obtain⟨hp,s1,s2⟩:=hI.sim
  have yv:∀{g:Nat} {want:Bool} {t:Nat},om.guard=some (g,want)->fo ops g=some t->∃v,yielded ops.toArray a.tmps g=(match v with|.bool b=>some b|_=>none)/\RV F μ w v (fM ops aK e0 (λ_=>true) m t):=by
   intro g want t hg hd;obtain⟨x,hx,Vb⟩:=qY hd;(have aC:t<a.tmps.size:=by rw[hI.size];exact iu bQ x (aO hx) t Vb);refine⟨a.tmps[t]?.getD undef,?_,?_⟩
   · unfold yielded
     (have:(ops.toArray[g]?).bind (·.dst)=some t:=by simpa[fo] using hd);rw[this];simp only[Option.bind_some];rw[dh aC,js];cases a.tmps[t]<;>rfl
   · rw[<-hE t (zp hg hd),<-e2];exact e1 t
  unfold wpOpIn;(have yK:ops.toArray[m]? =some om:=by simpa using Jg);simp only[yK]
  have hw:je om (yielded ops.toArray a.tmps)=true:=by
   unfold je;rcases hgd with hg|⟨g,want,t,hg,hd,ml⟩
   · rw[hg]
   · rw[hg]
     obtain⟨v,y1,y2⟩:=yv hg hd;rw[ml] at y2;have:=jx y2;subst this;simp[y1]
  rw[hw];simp only[if_true];have hpk':=hpk en hp (λt ht=>by rw[e2,hE t ht]) (λq hq=>by rw[s2,hH q hq]);refine y5 s1 (λq h1 h2=>hI.fresh q h1) (gu s1.fb.gl e1) hpk' λp' eu v w' k1 k2 k3 k4=>?_;obtain⟨rfl,rfl⟩:=k1;refine oF F μ a w' v (cu.trans k2) ⟨k3.fb,k3.mb,λo ho=>absurd rfl ho,λo b _=>trivial,λo b ho=>absurd rfl ho,λi j b ho=>absurd rfl ho,λc x hc=>⟨(k3.hd c x hc).1,λo ho=>absurd rfl ho⟩,k3.hu⟩ hI.size (λq hq=>hI.fresh q ?_) zt k4;have:64*m<=64*ops.length:=Nat.mul_le_mul_left _ (Nat.le_of_lt kl);omega
 refine CO bQ (Nat.le_of_lt kl) iS MT hT (λfuel listed F μ a w XO qQ cu hI zt=>?_) λfuel listed F μ a w j o dD pg Se ho Rc hex cu hI zt=>?_
 · obtain⟨fuel,rfl⟩:∃f,fuel=f+1:=⟨fuel-1,by omega⟩
   have Ba:=hI.lo m (aX m);have XP:∀k∈dg om,kB listed k=true:=λk hk=>qQ k (iS m om Jg k hk);refine⟨λMU=>?_,λj hj=>?_⟩
   · exfalso
     have:m∈Region.ready .any ops.toArray listed:=(jA listed m hI.sz).2 ⟨kl,Ba,om,Jg,XP⟩;rw[MU] at this;simp at this
   · obtain⟨h1,h2,o,ho,h3⟩:=(jA listed j hI.sz).1 hj
     have ZQ:j=m:=by
      rcases Nat.lt_trichotomy j m with h|h|h
      · rw[qQ j h] at h2;cases h2
      · exact h
      · have:=Pc j h h1 o ho _ hI.dc h3
        have this:kB listed m=true:=this;rw[Ba] at this;cases this
     subst ZQ;exact pan _ listed F μ a w Ba XP cu hI zt
 · have Ba:=hI.lo m (aX m)
   have ZQ:j=m:=by
    rcases dK m j with h|h
    · have:=Pc j h pg o ho _ hI.dc Rc
      have this:kB listed m=true:=this;rw[Ba] at this;cases this
    · omega
   subst ZQ
   rw[Jg] at ho;injection ho with ho;subst ho
   exact pan _ listed F μ a w Ba Rc cu hI zt
theorem Ji{C:Cx P}{d0:D0}{n id:Nat}{Q:Exit->Act->aj->Prop}{K:St->Prop}{KP:PV->St->Prop}{s:St}{F:Nat->Prop}{μ:aN}{a:Act}{w:aj}(hm:P.follows .mixedOrders=true)(bQ:sO C.N ops=true)
 (hs:oT C d0 F μ s a w) (h:zj C.G ops s.nx s.yk ops 0 s.env s.hp [] K KP)
 (hk:∀s' F' μ' a' w',K s'->Rl C.G F μ w F' μ' w'->Kp C.kp μ μ'->oT C d0 F' μ' s' a' w'->Q .normal a' w')
 (XQ:∀s' F' μ' a' w' p ch,KP p s'->Rl C.G F μ w F' μ' w'->Kp C.kp μ μ'->oT C d0 F' μ' s' a' w'->qT F' w' ch p->Q (.panic ch) a' w'):(Code.region id ops.toArray true).wpIn (fc d0.ro) n P Q a w:=by
 obtain⟨m,aK,bO,gj,kl,hE,hH,hT,hcut⟩:=Jh (e0:=s.env.get) (h0:=ab.get s.hp) ops 0 s.env s.hp (λ_=>default) [] (by simp) (by simp) (λt=>rfl) (λq=>rfl) (λk o hk=>by omega) (by simp) h;refine wpIn_region_any hm ?_;obtain⟨d1,d2⟩:=tj hs.h (w.drawn+1)
 have Sf:∀k,kB (gT ops.toArray.size false) k=false:=λk=>by
  unfold kB;rw[Array.getD_eq_getD_getElem?];by_cases e:k<ops.toArray.size
  · simp at e;simp[e]
  · simp at e;simp[e]
 have XO:MS m (gT ops.toArray.size false)+(ops.length-m)<=ops.toArray.size:=by
  unfold MS;have:=List.length_filter_le (λj=> !kB (gT ops.toArray.size false) j) (cJ m);simp only[List.length_range] at this;simp only[List.size_toArray] at *;omega
 have hinv:GR P C.N ops s.nx s.env.get (ab.get s.hp) aK m (gT ops.toArray.size false) F μ a { w with drawn:=w.drawn+1 }:=by
  have e0':∀n t,fM ops aK s.env.get (kB (gT ops.toArray.size false)) n t=s.env.get t:=λn t=>by
   induction n with
   |zero=>rfl
   |succ n ih=>simp only[fM,Sf,ih];simp
  have ZR:∀n t,sG aK (ab.get s.hp) (kB (gT ops.toArray.size false)) n t=s.hp.get t:=λn t=>by
   induction n with
   |zero=>rfl
   |succ n ih=>simp only[sG,Sf,ih];simp
  refine⟨by simp,λk x hx hk=>absurd hk (by show ¬ kB (gT ops.toArray.size false) k=true;rw[Sf];simp),λk _=>Sf k,⟨s.hp,d2,λq=>(ZR _ q).symm⟩,⟨s.env,λt=>(hs.env t).step d1,λt=>(e0' _ t).symm⟩,hs.size,λo ho=>hs.fresh o (by omega),λj _ _ o h1 _=>hs.fresh o (by omega)⟩
 rcases hcut with⟨hR,hK⟩|⟨o,p,us,Jg,hgd,hX,hKP,hpk⟩
 · refine O8 (F0:=F) (μ0:=μ) (w0:=w) (a0:=a) (e0:=s.env.get) (h0:=ab.get s.hp) (nx:=s.nx) bQ kl hR hT (λF' μ' a' w' hp en k1 k2 k3 k4 k5 k6 k7 k8=>?_) _ _ F μ a _ XO d1 hinv rfl
   refine y8 (C:=C) (ops:=ops.toArray) bQ _ ⟨bO,gj,s.nx+64*m,s.yk⟩ F' μ' a' w' (λo ho=>List.mem_of_mem_drop ho) ⟨k2.congr λi=>by rw[hH,k3],k7,k6,λt=>by rw[hE,<-k5];exact k4 t,hs.nI.base k1.base k8,hs.rd.base k1.base,λe=>k8.trans (hs.nm e),hs.j.base k1.base k8⟩ hK (λs' F2 jL a2 w2 e1 e2 e3 e4=>hk s' F2 jL a2 w2 e1 ((Rl.of k1.base).trans e2) ((Kp.step k1).trans e3) e4) (λs' F2 jL a2 w2 p ch e1 e2 e3 e4 e5=>XQ s' F2 jL a2 w2 p ch e1 ((Rl.of k1.base).trans e2) ((Kp.step k1).trans e3) e4 e5)
 · refine Pa (F0:=F) (μ0:=μ) (w0:=w) (a0:=a) (e0:=s.env.get) (h0:=ab.get s.hp) (nx:=s.nx) bQ Jg hgd hX hT hpk (λF' μ' a' w' v k1 k2 k3 k4 k5 k6=>?_) _ _ F μ a _ XO d1 hinv rfl
   exact XQ ⟨[],[],s.nx+64*ops.length,s.yk⟩ F' μ' a' w' p _ hKP (Rl.of k1.base) (Kp.step k1) ⟨k2,k4,k3,λt=>.any _,hs.nI.base k1.base k5,hs.rd.base k1.base,λe=>k5.trans (hs.nm e),hs.j.base k1.base k5⟩ ⟨v,rfl,k6⟩
end
end Go.Sg
