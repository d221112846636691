/- A part of the proof: the engine, that follows the model step by step with abstract values; no program in sight. -/
import Derived.Test.YtmaiccmhkmndcaaGreatDoorEngB
import Derived.Conc.LoneCalls
import Derived.RangeFuncLeaves
import Derived.RangeFuncNested
import Derived.RecoverIn
import Derived.ReadAgain
import Derived.JoinedOf
import Derived.Handed
import Derived.OpenShut
import Derived.ChangeSame
import Derived.SizedLaws
import Derived.ChangeCalls
import Derived.Stop.Joined
set_option linter.unusedSimpArgs false
set_option linter.unusedVariables false
set_option linter.unnecessarySimpa false
set_option maxRecDepth 100000
set_option maxHeartbeats 40000000
open Array renaming getElem?_push->kG,replicate->gT,getElem?_append_left->iY,eq_empty_of_size_eq_zero->lW,getElem?_eq_getElem->dh,getElem?_toList->gi
open Bool renaming and_eq_true->aQ,false_ne_true->nJ
open Classical renaming em->mQ,choose_spec->qZ
open Go renaming Oper->aH,Program->au,TypeId->an,Operand->aL,World->aj,Value->ah,FuncId->bf
open Go.Calls renaming mono->fI
open Go.DataW renaming weights->j6
open Go.Fence renaming wide->fY
open Go.Oper renaming semAt_eq->jX
open Go.Region renaming wanted->je
open Go.Result renaming andThen_ok->bD
open Go.Sem renaming run_bind->bu,run_pure->cg
open Go.World renaming shape?->cC
open List renaming getElem?_append->nG,getElem?_eq_some_iff->aq,map_cons->bE,nodup_cons->jY,mem_cons->cy,mem_map->aY,getElem?_eq_getElem->aV,append_nil->ib,mem_append->cL,getElem?_map->aW,range->cJ,mem_range->gI,mem_of_getElem?->aO,all_eq_true->cG,mem_filter->dN,map_map->il,getD->cF,getElem_mem->jR,length->kQ,length_append->fk,getElem?_of_mem->eE,take_add_one->bz,take_length->eG,getElem?_set_ne->nv,getElem?_drop->jQ,getElem_of_mem->lM
open Nat renaming le_refl->aX,zero_le->de,le_trans->dW,lt_of_lt_of_le->fl,zero_add->gQ
open Option renaming map_eq_some_iff->cm,bind_eq_some_iff->pb
open Option.some renaming inj->gH
open Prod renaming fst->bp,snd->j7
namespace Go.Sg
open Go
def isCm:Op->Bool
 |.send _ _=>true
 |.recv _ _ _=>true
 |_=>false
def Pf(ops:List aH):Bool:=ops.any λo=>isCm o.op
def XR(P:au)(t:an):Option an:=
 match P.underlying t with
 |some (.chan _ e)=>some e
 |_=>none
def XS:Op->Bool
 |.defer _=>false
 |_=>true
theorem MY{op:Op}(h:XS op=true):∀c,op≠ .defer c:=λc e=>by subst e;cases h
def XT(P:au)(op:Op)(ev:aL->AV)(σ:ab)(nid:Nat)(K:AV->ab->Prop):Prop:=
 match op with
 |.send c x=>(match ev c with
  |.ch o=>mv σ 60 (ev x) [] λp Z=>(match ab.get (jy Z++σ) o with
   |.chan cap buf=>buf.length<cap/\K db ((o,.chan cap (buf++[p]))::jy Z)
   |_=>False)
  |_=>False)
 |.recv t c ok=>(match ok,ev c,XR P t with
  |false,.ch o,some e=>(match σ.get o with
   |.chan cap (x::r)=>N6 P e (λ_=>True)/\K (.p x) [(o,.chan cap r)]
   |_=>False)
  |_,_,_=>False)
 |op=>(match kindOf P op with
  |.quiet=>yQ P op ev σ λv=>K v []
  |.write=>yW P op ev σ nid K
  |.call=>False)
def cq{P:au}(l:List aH)(env:Env)(hp:ab)(nx yk:Nat)(K:St->Prop):Prop:=
 match l with
 |[]=>K ⟨env,hp,nx,yk⟩
 |o::r=>(match o.guard with
  |some _=>False
  |none=>XT P o.op (bP env) hp nx λv us=>cq (P:=P) r (env.put o.dst v) (us++hp) (nx+64) yk K)
section
variable{P:au}{C:Cx P}{d0:D0}{F:Nat->Prop}{μ:aN}{w:aj}{a:Act}
theorem GU{ro:Option Nat}{b:Frame}{k:List Item}{cs:List Frame}{ops:Array aH}{i:Nat}{rest:List Nat}{o:aH}{v:ah}{w':aj}{n:Nat}(gk:b.roundOf=(fc ro).round)(ho:ops[i]? =some o)(hg:o.guard=none)
 (hd:∀c,o.op≠ .defer c) (hr:(execOp a.eval o).run P w= .ok (.value v) w'\/((execOp a.eval o).run P w= .ok .skip w'/\v=undef)):
 StepsIn (Machine.fenced P (fc ro)) P (lone (b.atR a (.inRegion ops (i::rest)::k)) cs w) (lone (b.atR (a.put o.dst v) (.inRegion ops rest::k)) cs w'):=by
 (have hw:je o (yielded ops a.tmps)=true:=by unfold je;rw[hg]);have h0:(lone (b.atR a (.inRegion ops (i::rest)::k)) cs w).fenced P (fc ro):=fenced_oper (n:=n) trivial (λ_ h=>by simp[fc,fY] at h) ho (cM o a w);have cu:=stepGR_op (P:=P) (b:=b) (k:=k) (cs:=cs) (w:=w) (rest:=rest) ho hw;rw[gk] at cu;(have GV:(b.atR a (.inRegion ops (i::rest)::k)).finish v=b.atR (a.put o.dst v) (.inRegion ops rest::k):=by rw[Frame.finish_atR,ho];rfl);(have ZS:(o.semAt (fc ro).round a.eval).run P w=(execOp a.eval o).run P w:=by rw[jX _ _ _ hd]);refine .one h0 (step_lone_go ?_);rw[cu,<-GV];rcases hr with hr|⟨hr,rfl⟩
 · rw[<-ZS] at hr;simp[stepG.apply,hr]
 · rw[<-ZS] at hr;simp[stepG.apply,hr]
theorem CQ{ro:Option Nat}{b:Frame}{k:List Item}{cs:List Frame}{ops:Array aH}{i:Nat}{rest:List Nat}{o:aH}{cases:Array CommCase}{bl:Bool}{sh:CommShape}{w':aj}(gk:b.roundOf=(fc ro).round)(ho:ops[i]? =some o)(hg:o.guard=none)
 (hd:∀c,o.op≠ .defer c) (hr:(execOp a.eval o).run P w= .ok (.comm cases bl sh) w'):
 ∃es,stepG P true (Go.Conc.G (b.atR a (.inRegion ops (i::rest)::k)) cs) w= .comm (Go.Conc.G (b.atR a (.inRegion ops (i::rest)::k)) cs) cases bl sh w' es:=by
 (have hw:je o (yielded ops a.tmps)=true:=by unfold je;rw[hg]);have cu:=stepGR_op (P:=P) (b:=b) (k:=k) (cs:=cs) (w:=w) (rest:=rest) ho hw;rw[gk] at cu;(have ZS:(o.semAt (fc ro).round a.eval).run P w=(execOp a.eval o).run P w:=by rw[jX _ _ _ hd]);rw[<-ZS] at hr;show ∃es,stepG P true { frame:=b.atR a (.inRegion ops (i::rest)::k),callers:=cs,status:= .running,dying:=none } w=_;rw[cu];simp only[stepG.apply]
 cases hT:(o.semAt (fc ro).round a.eval).runT P w #[] with
 |mk r es=>
  have hrr:r= .ok (.comm cases bl sh) w':=by
   have:=congrArg bp hT;simp only[Sem.runT_eq] at this;rw[<-this];exact hr
  subst hrr;simp only[if_true,Go.Conc.G];exact⟨_,rfl⟩
theorem MZ{n:Nat}{o:aH}{s:St}{K:AV->ab->Prop}{b:Frame}{k:List Item}{cs:List Frame}{ops:Array aH}{i:Nat}{rest:List Nat}(hd:∀d,o.dst=some d->d<C.N)(hs:oT C d0 F μ s a w)(gk:b.roundOf=(fc d0.ro).round)(ho:ops[i]? =some o)(hg:o.guard=none)
 (h:XT P o.op (bP s.env) s.hp s.nx K):∃av us v w' F' μ',K av us/\Step F μ w F' μ' w'/\az F' μ' (us++s.hp) w'/\RV F' μ' w' v av/\(∀q,q<s.nx\/s.nx+64<=q->μ' q=μ q)/\
   StepsIn (Machine.fenced P (fc d0.ro)) P (lone (b.atR a (.inRegion ops (i::rest)::k)) cs w) (lone (b.atR (a.put o.dst v) (.inRegion ops rest::k)) cs w'):=by
 have h0:(lone (b.atR a (.inRegion ops (i::rest)::k)) cs w).fenced P (fc d0.ro):=fenced_oper (n:=n) trivial (λ_ h=>by simp[fc,fY] at h) ho (cM o a w);(have GV:∀v,(b.atR a (.inRegion ops (i::rest)::k)).finish v=b.atR (a.put o.dst v) (.inRegion ops rest::k):=λv=>by rw[Frame.finish_atR,ho];rfl);have aR:=gu hs.h.fb.gl hs.env;obtain⟨dst,op,ty,pos,after,guard⟩:=o
 have gen:(match kindOf P op with|.quiet=>yQ P op (bP s.env) s.hp λv=>K v []|.write=>yW P op (bP s.env) s.hp s.nx K|.call=>False)->XS op=true->
  ∃av us v w' F' μ',K av us/\Step F μ w F' μ' w'/\az F' μ' (us++s.hp) w'/\RV F' μ' w' v av/\(∀q,q<s.nx\/s.nx+64<=q->μ' q=μ q)/\
  StepsIn (Machine.fenced P (fc d0.ro)) P (lone (b.atR a (.inRegion ops (i::rest)::k)) cs w) (lone (b.atR (a.put dst v) (.inRegion ops rest::k)) cs w'):=λh zt=>by
  have zt:=MY zt;split at h
  · obtain⟨av,v,h1,h2,h3⟩:=Gf (o:={ dst:=dst,op:=op,type:=ty,pos:=pos,after:=after,guard:=guard }) hs.h aR h
    exact⟨av,[],v,w,F,μ,h1,Step.refl _ _ _,hs.h,h2,λ_ _=>rfl,GU (n:=n) gk ho hg zt (.inl (h3 w (λ_ _=>rfl)))⟩
  · obtain⟨av,us,v,w',F',μ',h1,h2,h3,h4,h5,h6⟩:=Gs (o:={ dst:=dst,op:=op,type:=ty,pos:=pos,after:=after,guard:=guard }) hs.h (hs.fresh _ (aX _)) aR h
    exact⟨av,us,v,w',F',μ',h1,h3,h4,h5,λq hq=>h6 q (by omega),GU (n:=n) gk ho hg zt h2⟩
  · exact h.elim
 cases op<;>try exact gen h rfl
 case defer c=>exact h.elim
 case send c x=>
  simp only[XT] at h;split at h
  · rename_i q hc
    obtain⟨p,Z,h,_,h3,h4⟩:=(jW 60).1 _ [] _ (by simp[kA]) h;obtain⟨hkst,N9⟩:=hs.h.kill Z;have hp:=h4 F μ w (a.eval x) (λo b _ _ hm=>hs.h.obj o b hm) (aR x);split at h
    · rename_i cap buf hq
      obtain⟨aC,hK⟩:=h;have Vj:=aR c;rw[hc] at Vj;generalize hcv:a.eval c=cv at Vj
      cases Vj with
      |ch _ Pg hb=>
      have Ph:=N9.obj q Pg hb;rw[hq] at Ph;obtain⟨bs,xA,recvd,g1,g2,g3⟩:=Ph
      have cY:(execOp a.eval { dst:=dst,op:= .send c x,type:=ty,pos:=pos,after:=after,guard:=guard }).run P w= .ok (.comm #[Go.Conc.scase Pg (a.eval x) (.tuple #[])] true .send) w:=by
       simp only[execOp,hcv];rfl
      obtain⟨es,cu⟩:=CQ (P:=P) (ro:=d0.ro) (b:=b) (k:=k) (cs:=cs) (rest:=rest) gk ho hg (by simp) cY;have lC:=Go.Conc.step_lone_send_room cu g1 (by omega);have DN:w.setChan Pg cap (bs.push (a.eval x)) false (xA+1) recvd false= { w with heap:=w.heap.setIfInBounds Pg (.chan cap (bs.push (a.eval x)) false (xA+1) recvd false) }:=rfl
      obtain⟨s1,s2⟩:=N9.I1 (ob':= .chan cap (bs.push (a.eval x)) false (xA+1) recvd false) hq (by simp) hb g1 (by simp[cC,g1]) (.chan cap (buf++[p])) (λw' cu hw=>⟨_,_,_,hw,by simp[g2],λj c hc=>by
       rw[kG];rw[nG] at hc;split at hc
       · rw[if_neg (by omega)];exact(g3 j c hc).mono cu.sub cu.fr
       · have hj:j=buf.length:=by
          have:=(aq.1 hc).1;simp at this;omega
         subst hj;simp at hc;subst hc
         rw[if_pos (by omega)];exact hp.mono cu.sub cu.fr⟩)
      refine⟨_,_,undef,_,_,μ,hK,hkst.trans s1,?_,.p (.bR _ _ rfl (by simp)),λ_ _=>rfl,.one h0 ?_⟩
      · simpa using s2
      · rw[<-DN,<-GV];exact lC
    · exact h.elim
  · exact h.elim
 case recv t c ok=>
  simp only[XT] at h;split at h
  · rename_i q e hc hT
    split at h
    · rename_i cap x r hq
      obtain⟨hz,hK⟩:=h;obtain⟨_,z,_,_,hz⟩:=se (P:=P) (F:=F) (μ:=μ) (w:=w) hz
      obtain⟨dir,hu⟩:∃dir,P.underlying t=some (.chan dir e):=by
       unfold XR at hT;split at hT
       · rename_i dir e' hu;injection hT with hT;subst hT;exact⟨dir,hu⟩
       · cases hT
      have Vj:=aR c;rw[hc] at Vj;generalize hcv:a.eval c=cv at Vj
      cases Vj with
      |ch _ Pg hb=>
      have Ph:=hs.h.obj q Pg hb;rw[hq] at Ph;obtain⟨bs,xA,recvd,g1,g2,g3⟩:=Ph
      have cY:(execOp a.eval { dst:=dst,op:= .recv t c false,type:=ty,pos:=pos,after:=after,guard:=guard }).run P w= .ok (.comm #[Go.Conc.rcase Pg z] true (.recv false)) w:=by
       simp only[execOp,hcv,bu,run_underlying hu,bD,hz w];rfl
      obtain⟨es,cu⟩:=CQ (P:=P) (ro:=d0.ro) (b:=b) (k:=k) (cs:=cs) (rest:=rest) gk ho hg (by simp) cY;(have aZ:0<bs.size:=by rw[g2];simp);have lC:=Go.Conc.step_lone_recv_buf false cu g1 aZ;have DN:w.setChan Pg cap (bs.extract 1 bs.size) false xA (recvd+1) false= { w with heap:=w.heap.setIfInBounds Pg (.chan cap (bs.extract 1 bs.size) false xA (recvd+1) false) }:=rfl
      obtain⟨s1,s2⟩:=hs.h.I1 (ob':= .chan cap (bs.extract 1 bs.size) false xA (recvd+1) false) hq (by simp) hb g1 (by simp[cC,g1]) (.chan cap r) (λw' cu hw=>⟨_,_,_,hw,by simp[g2],λj c hc=>by
       have hj:j<r.length:=(aq.1 hc).1;have OH:1+j<bs.size:=by rw[g2];simp;omega
       have e1:(bs.extract 1 bs.size)[j]? =bs[j+1]? :=by
        rw[Array.getElem?_extract,if_pos (by omega)];congr 1;omega
       rw[e1]
       exact(g3 (j+1) c (by simpa using hc)).mono cu.sub cu.fr⟩)
      have hv:RP F w (bs.getD 0 undef) x:=by
       have:=g3 0 x rfl;rw[Array.getD_eq_getD_getElem?];exact this
      refine⟨_,_,bs.getD 0 undef,_,F,μ,hK,s1,s2,.p (hv.mono s1.sub s1.fr),λ_ _=>rfl,.one h0 ?_⟩;rw[<-DN,<-GV];exact lC
    · exact h.elim
  · exact h.elim
theorem GW{n:Nat}{ops:Array aH}{Q:Exit->Act->aj->Prop}{K:St->Prop}(bQ:sO C.N ops.toList=true):
 ∀(l:List aH) (i:Nat) (s:St) (F:Nat->Prop) (μ:aN) (a:Act) (w:aj),(∀j o,l[j]? =some o->ops[i+j]? =some o)->oT C d0 F μ s a w->cq (P:=P) l s.env s.hp s.nx s.yk K->
  (∀s' F' μ' a' w',K s'->Rl C.G F μ w F' μ' w'->Kp C.kp μ μ'->oT C d0 F' μ' s' a' w'->Q .normal a' w')-> ∀(b:Frame) (k:List Item) (cs:List Frame),b.roundOf=(fc d0.ro).round->
  ∃e a' w',Q e a' w'/\ArrivesIn (Machine.fenced P (fc d0.ro)) P (lone (b.atR a (.inRegion ops (List.range' i l.length)::k)) cs w) b k cs e a' w'
 |[],i,s,F,μ,a,w,_,hs,h,hk,b,k,cs,gk=>⟨.normal,a,w,hk s F μ a w h (Rl.refl F μ w) (Kp.refl _ _) hs,.one (fenced_calm (n:=n) trivial (λ_ h=>by simp[fc,fY] at h) rfl) stepR_region_end⟩
 |o::r,i,s,F,μ,a,w,hl,hs,h,hk,b,k,cs,gk=>by
  have ho:ops[i]? =some o:=hl 0 o rfl;have I4:∀d,o.dst=some d->d<C.N:=iu bQ o (by rw[Array.mem_toList_iff];exact Array.mem_of_getElem? ho);simp only[cq] at h;split at h
  · exact h.elim
  · rename_i hg
    obtain⟨av,us,v,w',F',μ',h1,h2,h3,h4,h5,h6⟩:=MZ (n:=n) (k:=k) (cs:=cs) (rest:=List.range' (i+1) r.length) I4 hs gk ho hg h;have OW:=hs.put I4 h2 h3 h4 h5;obtain⟨e,a2,w2,hq,By⟩:=GW (n:=n) (Q:=Q) bQ r (i+1) _ F' μ' _ w' (λj o hj=>by rw[show i+1+j=i+(j+1) by omega];exact hl (j+1) o hj) OW h1 (λXH R9 y9 XI UI e1 e2 e3 e4=>hk XH R9 y9 XI UI e1 ((Rl.of h2.base).trans e2) ((Kp.step h2).trans e3) e4) b k cs gk;exact⟨e,a2,w2,hq,.of_steps h6 By⟩
theorem Sh{n:Nat}{id:Nat}{ops:Array aH}{Q:Exit->Act->aj->Prop}{s:St}{K:St->Prop}(bQ:sO C.N ops.toList=true)(hs:oT C d0 F μ s a w)(h:cq (P:=P) ops.toList s.env s.hp s.nx s.yk K)
 (hk:∀s' F' μ' a' w',K s'->Rl C.G F μ w F' μ' w'->Kp C.kp μ μ'->oT C d0 F' μ' s' a' w'->Q .normal a' w'):(Code.region id ops false).wpIn (fc d0.ro) n P Q a w:=by
 intro b k cs gk hb hr;obtain⟨e,a',w',q,r⟩:=GW (n:=n) (Q:=Q) bQ ops.toList 0 s F μ a w (λj o hj=>by simpa using hj) hs h hk b k cs gk;refine⟨e,a',w',q,.of_steps (.one (fenced_calm hb hr rfl) stepR_region) ?_⟩;rw[List.range_eq_range'];simpa using r
end
def q9(N:Nat):Code->Bool
 |.region _ ops _=>sO N ops.toList
 |.seq a b=>q9 N a&&q9 N b
 |.cond _ a b=>q9 N a&&q9 N b
 |.block _ c=>q9 N c
 |.loop c=>q9 N c
 |.scope c=>q9 N c
 |.rangeFunc _ _ a b=>q9 N a&&q9 N b
 |_=>true
structure Kt where
 n:St->Prop
 e:Nat->St->Prop
 r:St->Prop
 p:PV->St->Prop
def kOf(K:Kt)(F:Nat->Prop)(w:aj):Exit->St->Prop
 |.normal,s=>K.n s
 |.exit j,s=>K.e j s
 |.ret,s=>K.r s
 |.panic ch,s=>∃p,K.p p s/\qT F w ch p
 |_,_=>False
def bY{P:au}(C:Cx P)(c:Code)(s:St)(K:Kt):Prop:=
 q9 C.N c=true-> ∀(n:Nat) (Q:Exit->Act->aj->Prop) (d0:D0) (F:Nat->Prop) (μ:aN) (a:Act) (w:aj),oT C d0 F μ s a w->
  (∀e s' F' μ' a' w',kOf K F' w' e s'->Rl C.G F μ w F' μ' w'->Kp C.kp μ μ'->oT C d0 F' μ' s' a' w'->Q e a' w')->c.wpIn (fc d0.ro) n P Q a w
def K6:AV->(AV->Prop)->Prop
 |.any,K=>K .any
 |.p v,K=>K (.p v)
 |.ptr o f,K=>K (.ptr o f)
 |.dJ o s f l,K=>K (.dJ o s f l)
 |.bo o s f l,K=>K (.bo o s f l)
 |.jb o s f l c,K=>K (.jb o s f l c)
 |.cr o s i j,K=>K (.cr o s i j)
 |.mp o,K=>K (.mp o)
 |.ch o,K=>K (.ch o)
 |.agg l,K=>K (.agg l)
 |.bR l,K=>K (.bR l)
 |.fn f a b,K=>K (.fn f a b)
theorem mR(v:AV)(K:AV->Prop):K6 v K=K v:=by cases v<;>rfl
def Ed:Nat->(Nat->Prop)->Prop
 |0,K=>K 0
 |n+1,K=>K (n+1)
theorem uH(n:Nat)(K:Nat->Prop):Ed n K=K n:=by cases n<;>rfl
def xG(dst:Option Nat)(v:AV)(env:Env)(K:Env->Prop):Prop:=
 match dst with
 |some d=>K ((d,v)::env)
 |none=>K env
theorem uI(dst:Option Nat)(v:AV)(env:Env)(K:Env->Prop):xG dst v env K=K (env.put dst v):=by cases dst<;>rfl
def Si:List AV->(List AV->Prop)->Prop
 |[],K=>K []
 |a::l,K=>K6 a λa=>Si l λl=>K (a::l)
theorem K7:∀(l:List AV) (K:List AV->Prop),Si l K=K l
 |[],_=>rfl
 |a::l,K=>by rw[Si,mR,K7 l]
def obF(x:bJ)(K:bJ->Prop):Prop:=
 match x with
 |.cells cs=>Si cs λcs=>K (.cells cs)
 |.dead=>K .dead
 |.row sz l=>K (.row sz l)
 |.map kt m=>K (.map kt m)
 |.chan c b=>K (.chan c b)
 |.iter m c=>K (.iter m c)
 |.cN kt sz m=>K (.cN kt sz m)
theorem Vk(x:bJ)(K:bJ->Prop):obF x K=K x:=by cases x<;>simp[obF,K7]
def Ee:ab->ab->(ab->Prop)->Prop
 |[],h,K=>K h
 |(o,x)::r,h,K=>obF x λx=>Ee r h λh'=>K ((o,x)::h')
theorem x8:∀(us h:ab) (K:ab->Prop),Ee us h K=K (us++h)
 |[],_,_=>rfl
 |(o,x)::r,h,K=>by rw[Ee,Vk,x8 r];rfl
structure Br(b:Bool)(A B:Prop):Prop where
 t:b=true->A
 f:b=false->B
theorem Br.dec{p:Prop}[Decidable p]{A B:Prop}(h1:p->A)(h2:¬ p->B):Br (decide p) A B:=⟨λh=>h1 (of_decide_eq_true h),λh=>h2 (of_decide_eq_false h)⟩
theorem Br.tt{A B:Prop}(h:A):Br true A B:=⟨λ_=>h,λe=>Bool.noConfusion e⟩
theorem Br.ff{A B:Prop}(h:B):Br false A B:=⟨λe=>Bool.noConfusion e,λ_=>h⟩
theorem Br.not{b:Bool}{A B:Prop}(h:Br b B A):Br (!b) A B:=⟨λe=>h.f (by simpa using e),λe=>h.t (by simpa using e)⟩
def WE(ops:List aH)(g:Option (Nat×Bool))(env:Env)(A B:Env->Prop):Prop:=
 match g with
 |none=>A env
 |some (j,want)=>(match(ops[j]?).bind (·.dst) with
  |none=>False
  |some t=>(match env.get t with
   |.p (.bool b)=>(match want with
    |true=>Br b (A ((t,.p (.bool true))::env)) (B ((t,.p (.bool false))::env))
    |false=>Br b (B ((t,.p (.bool true))::env)) (A ((t,.p (.bool false))::env)))
   |.p (.bR [])=>B env
   |_=>False))
theorem Pj(ops:List aH)(g:Option (Nat×Bool))(env:Env)(A B:Env->Prop):WE ops g env A B=tu ops g env λb bO=>match b with|true=>A bO|false=>B bO:=by
 unfold WE tu
 cases g with
 |none=>rfl
 |some g=>
  obtain⟨j,want⟩:=g;simp only
  cases hd:(ops[j]?).bind (·.dst) with
  |none=>rfl
  |some t=>
   simp only;generalize env.get t=v
   cases v with
   |p q=>
    cases q with
    |bool b=>
     cases want with
     |true=>exact propext ⟨λh=>⟨h.t,λe=>h.f (by simpa using e)⟩,λh=>⟨h.1,λe=>h.2 (by simp[e])⟩⟩
     |false=>exact propext ⟨λh=>⟨h.f,λe=>h.t (by simpa using e)⟩,λh=>⟨λe=>h.2 (by simp[e]),h.1⟩⟩
    |bR l=>cases l<;>rfl
    |_=>rfl
   |_=>rfl
def WG{P:au}(G:fK P)(op:Op)(dst:Option Nat)(env:Env)(hp:ab)(nx yk:Nat)(K:Env->ab->Nat->Nat->Prop)(KP:PV->St->Prop):Prop:=
 match x7 op with
 |some x=>(match bP env x with|.p (.iface t v)=>KP (.iface t v) ⟨env,hp,nx,yk⟩|_=>False)
 |none=>(match yieldOf (bP env) op with
  |some (l,as)=>(G.it=true/\l=G.l/\yk<G.xs.length/\yk<=G.stop/\as=(G.xs.getD yk []).map .p)/\xG dst (.p (.bool (decide (yk≠G.stop)))) env λbO=>K bO hp nx (yk+1)
  |none=>GA op (XA P op (bP env) hp nx λv us=>K6 v λv=>Ed (nx+64) λxH=>xG dst v env λbO=>Ee us hp λgj=>K bO gj xH yk) (gL (vR P op (bP env) hp nx λp us=>Ee us hp λgj=>KP p ⟨env,gj,nx,yk⟩) (gq (R7 P op (bP env) hp nx λv us=>Ed (nx+64) λxH=>xG dst v env λbO=>Ee us hp λgj=>K bO gj xH yk) (Vc G op (bP env) yk λv=>xG dst v env λbO=>K bO hp nx (yk+1)))))
theorem Pk{P:au}(G:fK P)(op:Op)(dst:Option Nat)(env:Env)(hp:ab)(nx yk:Nat)(K:Env->ab->Nat->Nat->Prop)(KP:PV->St->Prop):WG G op dst env hp nx yk K KP=
 XG G op dst env hp nx yk (λs=>K s.env s.hp s.nx s.yk) KP:=by
 unfold WG XG
 cases x7 op with
 |some x=>
  first
  |rfl
  |(simp only
    generalize bP env x=v
    cases v with
    |p q=>cases q<;>rfl
    |_=>rfl)
 |none=>
  cases yieldOf (bP env) op with
  |some y=>simp only[uI]
  |none=>simp only[uI,mR,uH,x8]
noncomputable def sq{P:au}(G:fK P)(ops:List aH)(l:List aH):Env->ab->Nat->Nat->(Env->ab->Nat->Nat->Prop)->(PV->St->Prop)->Prop:=
 List.rec (motive:=λ_=>Env->ab->Nat->Nat->(Env->ab->Nat->Nat->Prop)->(PV->St->Prop)->Prop) (λenv hp nx yk K _=>K env hp nx yk)
  (λo _ ih env hp nx yk K KP=>WE ops o.guard env (λenv=>WG G o.op o.dst env hp nx yk (λenv hp nx yk=>ih env hp nx yk K KP) KP)
    (λenv=>xG o.dst db env λenv=>ih env hp nx yk K KP)) l
theorem Sj{P:au}(G:fK P)(ops:List aH)(o:aH)(r:List aH)(env:Env)(hp:ab)(nx yk:Nat)(K:Env->ab->Nat->Nat->Prop)(KP:PV->St->Prop):sq G ops (o::r) env hp nx yk K KP=
 WE ops o.guard env (λenv=>WG G o.op o.dst env hp nx yk (λenv hp nx yk=>sq G ops r env hp nx yk K KP) KP) (λenv=>xG o.dst db env λenv=>sq G ops r env hp nx yk K KP):=rfl
theorem K8{P:au}(G:fK P)(ops:List aH)(K:Env->ab->Nat->Nat->Prop)(KP:PV->St->Prop):∀(l:List aH) (env:Env) (hp:ab) (nx yk:Nat),sq G ops l env hp nx yk K KP=
 D6 G ops l ⟨env,hp,nx,yk⟩ (λs=>K s.env s.hp s.nx s.yk) KP
 |[],_,_,_,_=>rfl
 |o::r,env,hp,nx,yk=>by
  simp only[Sj,D6,Pj,Pk,uI];congr 1;funext b bO
  cases b with
  |true=>
   simp only;congr 1;funext s;exact K8 G ops K KP r s.env s.hp s.nx s.yk
  |false=>exact K8 G ops K KP r _ hp nx yk
structure WH(ops:List aH)(fq:List (List Nat×List Nat)):Prop where
 h:Vg ops fq=true
theorem WH.eq(ops:List aH)(fq:List (List Nat×List Nat)):WH ops fq=(Vg ops fq=true):=propext ⟨λh=>h.h,λh=>⟨h⟩⟩
structure Ir(ops:List aH)(fq:List (List Nat×List Nat)):Prop where
 h:Ra ops fq=true
theorem Ir.eq(ops:List aH)(fq:List (List Nat×List Nat)):Ir ops fq=(Ra ops fq=true):=propext ⟨λh=>h.h,λh=>⟨h⟩⟩
structure WI(ops:List aH)(fq:List (List Nat×List Nat)):Prop where
 h:Fq ops fq=true
theorem WI.eq(ops:List aH)(fq:List (List Nat×List Nat)):WI ops fq=(Fq ops fq=true):=propext ⟨λh=>h.h,λh=>⟨h⟩⟩
def Sk:List Nat->(List Nat->Prop)->Prop
 |[],K=>K []
 |x::l,K=>Ed x λx=>Sk l λl=>K (x::l)
theorem Pm:∀(l:List Nat) (K:List Nat->Prop),Sk l K=K l
 |[],_=>rfl
 |x::l,K=>by rw[Sk,uH,Pm l]
noncomputable def dq{P:au}(G:fK P)(ops:List aH)(nx yk:Nat)(l:List aH):Nat->Env->ab->List (List Nat×List Nat)->(Env->ab->Nat->Nat->Prop)->(PV->St->Prop)->Prop:=
 List.rec (motive:=λ_=>Nat->Env->ab->List (List Nat×List Nat)->(Env->ab->Nat->Nat->Prop)->(PV->St->Prop)->Prop) (λi env hp fq K _=>WH ops fq/\Ed (nx+64*i) λxH=>K env hp xH yk)
  (λo r ih i env hp fq K KP=>WE ops o.guard env
    (λenv=>match yieldOf (bP env) o.op with|some _=>Ir ops fq/\Ed (nx+64*i) λxH=>sq G ops (o::r) env hp xH yk K KP|none=>GA o.op (MD P o.op (bP env) hp (nx+64*i) λv us=>Sk (GP o.op (bP env)) λfp=>Sk (keys us) λks=>K6 v λv=>xG o.dst v env λbO=>Ee us hp λgj=>ih (i+1) bO gj (fq++[(fp,ks)]) K KP) (vR P o.op (bP env) hp (nx+64*i) λp us=>Sk (keys us) λks=>WI ops (fq++[([],ks)])/\KP p ⟨[],[],nx+64*ops.length,yk⟩))
    (λenv=>xG o.dst db env λbO=>ih (i+1) bO hp (fq++[([],[])]) K KP)) l
theorem Vl{P:au}(G:fK P)(ops:List aH)(nx yk i:Nat)(env:Env)(hp:ab)(fq:List (List Nat×List Nat))(K:Env->ab->Nat->Nat->Prop)(KP:PV->St->Prop):dq G ops nx yk [] i env hp fq K KP=(WH ops fq/\Ed (nx+64*i) λxH=>K env hp xH yk):=rfl
theorem Sn{P:au}(G:fK P)(ops:List aH)(nx yk:Nat)(o:aH)(r:List aH)(i:Nat)(env:Env)(hp:ab)(fq:List (List Nat×List Nat))(K:Env->ab->Nat->Nat->Prop)(KP:PV->St->Prop):dq G ops nx yk (o::r) i env hp fq K KP=WE ops o.guard env
 (λenv=>match yieldOf (bP env) o.op with|some _=>Ir ops fq/\Ed (nx+64*i) λxH=>sq G ops (o::r) env hp xH yk K KP|none=>GA o.op (MD P o.op (bP env) hp (nx+64*i) λv us=>Sk (GP o.op (bP env)) λfp=>Sk (keys us) λks=>K6 v λv=>xG o.dst v env λbO=>Ee us hp λgj=>dq G ops nx yk r (i+1) bO gj (fq++[(fp,ks)]) K KP) (vR P o.op (bP env) hp (nx+64*i) λp us=>Sk (keys us) λks=>WI ops (fq++[([],ks)])/\KP p ⟨[],[],nx+64*ops.length,yk⟩))
 (λenv=>xG o.dst db env λbO=>dq G ops nx yk r (i+1) bO hp (fq++[([],[])]) K KP):=rfl
theorem Pn{P:au}(G:fK P)(ops:List aH)(nx yk:Nat)(K:Env->ab->Nat->Nat->Prop)(KP:PV->St->Prop):∀(l:List aH) (i:Nat) (env:Env) (hp:ab) (fq:List (List Nat×List Nat)),dq G ops nx yk l i env hp fq K KP=
 zj G ops nx yk l i env hp fq (λs=>K s.env s.hp s.nx s.yk) KP
 |[],_,_,_,_=>by simp only[Vl,zj,uH,WH.eq]
 |o::r,i,env,hp,fq=>by
  simp only[Sn,zj,Pj,uI,mR,x8,Pm,Ir.eq,WI.eq,uH,K8];congr 1;funext b bO
  cases b with
  |true=>
   simp only
   cases yieldOf (bP bO) o.op with
   |some _=>rfl
   |none=>
   simp only;congr 1;congr 1;funext v us;exact Pn G ops nx yk K KP r (i+1) _ _ _
  |false=>exact Pn G ops nx yk K KP r (i+1) _ hp _
def aN.WJ(μ:aN)(ρ:Nat->Option Nat):aN:=⟨λo=>(ρ o).bind μ,μ.oW⟩
theorem aN.sm{μ:aN}{ρ:Nat->Option Nat}{o o':Nat}(h:ρ o'=some o):(μ.WJ ρ) o'=μ o:=by show(ρ o').bind μ=_;rw[h];rfl
def FZ(σ:ab)(Z:Nat->Prop)(F:Nat->Prop)(μ:aN)(b:Nat):Prop:=F b\/ ∃o,Z o/\σ.get o≠ .dead/\μ o=some b
def XU(σ:ab)(Z:Nat->Prop)(F:Nat->Prop)(μ:aN)(w:aj):Prop:=∀o b,Z o->σ.get o≠ .dead->μ o=some b->RO F μ w b (σ.get o)
def cW(σ:ab)(Z:Nat->Prop)(ρ:Nat->Option Nat)(a a':AV):Prop:=
 ∀(F:Nat->Prop) (μ:aN) (w:aj) (v:ah),XU σ Z F μ w->RV F μ w v a->RV (FZ σ Z F μ) (μ.WJ ρ) w v a'
section
variable{σ:ab}{Z:Nat->Prop}{ρ:Nat->Option Nat}
theorem cW.any(a:AV):cW σ Z ρ a .any:=λ_ _ _ v _ _=>.any v
theorem cW.p{p q:PV}(h:PV.le p q):cW σ Z ρ (.p p) (.p q):=λF μ w v _ hv=>by
 cases hv with
 |p hv=>exact .p ((h F w v hv).mono (λ_=>.inl) (λ_ _=>rfl))
theorem cW.refl(p:PV):cW σ Z ρ (.p p) (.p p):=cW.p (PV.le_refl p)
theorem cW.frz{a:AV}{p:PV}(h:lL σ Z a p):cW σ Z ρ a (.p p):=λF μ w v hz hv=>.p (h F μ w v hz hv)
theorem cW.ptr{o o' off:Nat}(h:ρ o'=some o):cW σ Z ρ (.ptr o off) (.ptr o' off):=λF μ w v _ hv=>by
 cases hv with
 |ptr _ _ b hm=>exact .ptr o' off b (by rw[aN.sm h];exact hm)
theorem cW.dJ{o o' sz off len:Nat}(h:ρ o'=some o):cW σ Z ρ (.dJ o sz off len) (.dJ o' sz off len):=λF μ w v _ hv=>by
 cases hv with
 |dJ _ _ _ bL _ cap b t n hm h0 h1 h2 h3 h4=>exact .dJ o' sz off bL len cap b t n (by show(ρ o').bind μ=some b;rw[h];exact hm) h0 h1 h2 h3 h4
theorem cW.mp{o o':Nat}(h:ρ o'=some o):cW σ Z ρ (.mp o) (.mp o'):=λF μ w v _ hv=>by
 cases hv with
 |mp _ b hm=>exact .mp o' b (by show(ρ o').bind μ=some b;rw[h];exact hm)
theorem cW.ch{o o':Nat}(h:ρ o'=some o):cW σ Z ρ (.ch o) (.ch o'):=λF μ w v _ hv=>by
 cases hv with
 |ch _ b hm=>exact .ch o' b (by show(ρ o').bind μ=some b;rw[h];exact hm)
inductive iv(σ:ab)(Z:Nat->Prop)(ρ:Nat->Option Nat):List AV->List AV->Prop
 |nil:iv σ Z ρ [] []
 |cons {a a':AV} {l l':List AV}:cW σ Z ρ a a'->iv σ Z ρ l l'->iv σ Z ρ (a::l) (a'::l')
theorem iv.get{l l':List AV}(h:iv σ Z ρ l l'):l.length=l'.length/\ ∀(i:Nat) a',l'[i]? =some a'->∃a,l[i]? =some a/\cW σ Z ρ a a':=by
 induction h with
 |nil=>simp
 |cons h _ ih=>
  refine⟨by simp[ih.1],λi p hp=>?_⟩
  cases i with
  |zero=>simp at hp;subst hp;exact⟨_,rfl,h⟩
  |succ i=>simp at hp;simpa using ih.2 i p hp
theorem cW.agg{l l':List AV}(h:iv σ Z ρ l l'):cW σ Z ρ (.agg l) (.agg l'):=λF μ w v hz hv=>by
 cases hv with
 |agg cs _ h1 h2=>exact .agg cs l' (h1.trans h.get.1) λi p hp=>let⟨a,h3,h4⟩:=h.get.2 i p hp;h4 F μ w _ hz (h2 i a h3)
theorem cW.bR{l l':List AV}(h:iv σ Z ρ l l'):cW σ Z ρ (.bR l) (.bR l'):=λF μ w v hz hv=>by
 cases hv with
 |bR cs _ h1 h2=>exact .bR cs l' (h1.trans h.get.1) λi p hp=>let⟨a,h3,h4⟩:=h.get.2 i p hp;h4 F μ w _ hz (h2 i a h3)
theorem cW.fn{f:Fn}{l l' m m':List AV}(h:iv σ Z ρ l l')(k:iv σ Z ρ m m'):cW σ Z ρ (.fn f l m) (.fn f l' m'):=λF μ w v hz hv=>by
 cases hv with
 |fn _ as bs _ _ h1 h2 h3 h4=>
  refine .fn f as bs l' m' (h1.trans h.get.1) (h2.trans k.get.1) (λi p hp=>?_) (λi p hp=>?_)
  · obtain⟨a,h5,h6⟩:=h.get.2 i p hp
    exact h6 F μ w _ hz (h3 i a h5)
  · obtain⟨a,h5,h6⟩:=k.get.2 i p hp
    exact h6 F μ w _ hz (h4 i a h5)
def dL(σ:ab)(Z:Nat->Prop)(ρ:Nat->Option Nat):bJ->bJ->Prop
 |.cells l,.cells l'=>iv σ Z ρ l l'
 |x,y=>∀(F:Nat->Prop) (μ:aN) (w:aj) (b:Nat),XU σ Z F μ w->RO F μ w b x->RO (FZ σ Z F μ) (μ.WJ ρ) w b y
theorem dL.spec{x y:bJ}(h:dL σ Z ρ x y){F:Nat->Prop}{μ:aN}{w:aj}{b:Nat}(hz:XU σ Z F μ w)(hr:RO F μ w b x):RO (FZ σ Z F μ) (μ.WJ ρ) w b y:=by
 unfold dL at h;split at h
 · rename_i l l'
   obtain⟨cur,t,h1,h2,h3⟩:=hr;refine⟨cur,t,h1,by rw[<-h.get.1];exact h2,λi c hc=>?_⟩;obtain⟨a,h4,h5⟩:=h.get.2 i c hc;exact h5 F μ w _ hz (h3 i a h4)
 · exact h F μ w b hz hr
def uJ(σ:ab)(Z:Nat->Prop)(ρ:Nat->Option Nat)(env:Env):Env->Prop
 |[]=>True
 |(t,v)::r=>cW σ Z ρ (env.get t) v/\uJ σ Z ρ env r
theorem uJ.get{env:Env}:∀{bO:Env},uJ σ Z ρ env bO-> ∀t,cW σ Z ρ (env.get t) (bO.get t)
 |[],_,t=>cW.any _
 |(u,v)::r,h,t=>by
  simp only[Env.get];split
  · rename_i e;subst e;exact h.1
  · exact uJ.get h.2 t
def fe(σ:ab)(Z:Nat->Prop)(ρ:Nat->Option Nat):ab->Prop
 |[]=>True
 |(o',x)::r=>(x= .dead\/ ∃o,ρ o'=some o/\ ¬ Z o/\σ.get o≠ .dead/\dL σ Z ρ (σ.get o) x)/\fe σ Z ρ r
theorem fe.get:∀{σ':ab},fe σ Z ρ σ'-> ∀o',ab.get σ' o'≠ .dead->∃o,ρ o'=some o/\ ¬ Z o/\σ.get o≠ .dead/\dL σ Z ρ (σ.get o) (ab.get σ' o')
 |[],_,o',h=>absurd rfl h
 |(u,x)::r,h,o',hd=>by
  simp only[ab.get] at hd ⊢;split
  · rename_i e;subst e;rw[if_pos rfl] at hd;exact h.1.resolve_left hd
  · rename_i e;rw[if_neg e] at hd;exact fe.get h.2 o' hd
end
def gM(R:List (Nat×Nat))(o:Nat):Option Nat:=(R.find? λx=>x.1==o).map j7
theorem oG{R:List (Nat×Nat)}{i o:Nat}(h:gM R i=some o):(i,o)∈R:=by
 unfold gM at h;obtain⟨⟨x,y⟩,h1,h2⟩:=cm.1 h;have h3:=List.find?_some h1;have h4:=List.mem_of_find?_eq_some h1;simp at h3 h2;subst h3;subst h2;exact h4
theorem GX:∀{R:List (Nat×Nat)},(R.map j7).Nodup-> ∀{i j o:Nat},(i,o)∈R->(j,o)∈R->i=j
 |[],_,i,j,o,h,_=>by simp at h
 |x::r,hn,i,j,o,hi,hj=>by
  simp only[bE,jY] at hn;rcases cy.1 hi with hi|hi<;>rcases cy.1 hj with hj|hj
  · rw[<-hj] at hi;injection hi
  · exact absurd (aY.2 ⟨_,hj,by rw[<-hi]⟩) hn.1
  · exact absurd (aY.2 ⟨_,hi,by rw[<-hj]⟩) hn.1
  · exact GX hn.2 hi hj
def di{P:au}(C:Cx P)(s s':St):Prop:=∀(d0:D0) (F:Nat->Prop) (μ:aN) (a:Act) (w:aj),oT C d0 F μ s a w->∃F' μ',oT C d0 F' μ' s' a w/\dO F μ w F' μ' w/\Kp C.kp μ μ'
section
variable{P:au}{C:Cx P}
theorem di.trans{s s1 s2:St}(h:di C s s1)(k:di C s1 s2):di C s s2:=λd0 F μ a w hs=>
 let⟨F1,Ij,h1,h2,h3⟩:=h d0 F μ a w hs
 let⟨F2,jL,k1,k2,k3⟩:=k d0 F1 Ij a w h1
 ⟨F2,jL,k1,h2.trans k2,h3.trans k3⟩
theorem az.Ob{σ σ':ab}{F:Nat->Prop}{μ:aN}{w:aj}(h:az F μ σ w)(Z:List Nat)(R:List (Nat×Nat))(hH:fe σ (· ∈Z) (gM R) σ')(hn:(R.map j7).Nodup):
 az (FZ σ (· ∈Z) F μ) (μ.WJ (gM R)) σ' w/\dO F μ w (FZ σ (· ∈Z) F μ) (μ.WJ (gM R)) w:=by
 have hz:XU σ (· ∈Z) F μ w:=λo b _ _ hm=>h.obj o b hm;refine⟨⟨?_,?_,?_,?_,?_,?_,λc x hc=>⟨?_,λi hi hm=>?_⟩,h.hu⟩,?_⟩
 · refine h.fb.step (λ_=>.inl) (λ_ _=>rfl) ?_
   rintro b (hb|⟨o,_,_,hb⟩)
   · exact h.fb b hb
   · exact h.mb b (.inl ⟨o,hb⟩)
 · rintro b (⟨o,ho⟩|⟨x,hx⟩)
   · obtain⟨o1,_,h2⟩:=pb.1 ho
     exact h.mb b (.inl ⟨o1,h2⟩)
   · exact h.mb b (.inr ⟨x,hx⟩)
 · intro o' hd
   obtain⟨o,h1,_,h2,_⟩:=hH.get o' hd;obtain⟨b,hb⟩:=h.has o h2;exact⟨b,by rw[aN.sm h1];exact hb⟩
 · intro o' b hm
   rcases mQ (ab.get σ' o'= .dead) with hd|hd
   · rw[hd];trivial
   · obtain⟨o,h1,_,_,h3⟩:=hH.get o' hd
     rw[aN.sm h1] at hm;exact h3.spec hz (h.obj o b hm)
 · intro o' b hd hm hf
   obtain⟨o,h1,h2,h3,_⟩:=hH.get o' hd;rw[aN.sm h1] at hm;rcases hf with hf|⟨z,z1,z2,z3⟩
   · exact h.live o b h3 hm hf
   · have:=h.inj o z b h3 z2 hm z3
     subst this;exact h2 z1
 · intro i j b hi hj KU KV
   obtain⟨oi,i1,_,i3,_⟩:=hH.get i hi;obtain⟨oj,j1,_,j3,_⟩:=hH.get j hj;rw[aN.sm i1] at KU;rw[aN.sm j1] at KV;have:=h.inj oi oj b i3 j3 KU KV;subst this;exact GX hn (oG i1) (oG j1)
 · rintro(hf|⟨o,_,z2,z3⟩)
   · exact(h.hd c x hc).1 hf
   · exact(h.hd c x hc).2 o z2 z3
 · obtain⟨o,h1,_,h2,_⟩:=hH.get i hi
   obtain⟨o1,e1,e2⟩:=pb.1 hm
   rw[h1] at e1;injection e1 with e1;subst e1
   exact(h.hd c x hc).2 o h2 e2
 · refine⟨rfl,rfl,rfl,aX _,λ_ _=>rfl,λ_ _ _=>rfl,λ_ _ h=>h,λ_=>.inl,?_,?_⟩
   · rintro b (hb|⟨o,_,_,hb⟩)
     · exact .inl hb
     · exact .inr (.inl (.inl ⟨o,hb⟩))
   · rintro b (⟨o,ho⟩|⟨x,hx⟩)
     · obtain⟨o1,_,h2⟩:=pb.1 ho
       exact .inl (.inl ⟨o1,h2⟩)
     · exact .inl (.inr ⟨x,hx⟩)
theorem di.of{s s':St}(Z:List Nat)(R:List (Nat×Nat))(hE:uJ s.hp (· ∈Z) (gM R) s.env s'.env)(hH:fe s.hp (· ∈Z) (gM R) s'.hp)
 (hn:(R.map j7).Nodup) (hx:∀x∈R,x.1<s'.nx) (hk:∀o∈C.kp,gM R o=some o) (hy:s'.yk=s.yk):di C s s':=λd0 F μ a w hs=>by
 have hz:XU s.hp (· ∈Z) F μ w:=λo b _ _ hm=>hs.h.obj o b hm;obtain⟨h1,h2⟩:=hs.h.Ob Z R hH hn;refine⟨_,_,⟨h1,λo ho=>?_,hs.size,λt=>hE.get t F μ w _ hz (hs.env t),hs.nI.base h2 rfl,hs.rd.base h2,hs.nm,by rw[hy];exact hs.j.base h2 rfl⟩,h2,λo ho b hb=>by show(gM R o).bind μ=some b;rw[hk o ho];exact hb⟩;show(gM R o).bind μ=none
 cases hr:gM R o with
 |none=>rfl
 |some x=>have h3:=hx _ (oG hr);simp only at h3;omega
def XV:List Nat->Env->(Env->Prop)->Prop
 |[],_,K=>K []
 |t::V,env,K=>K6 (env.get t) λv=>(match v with|.any=>XV V env K|v=>XV V env λe=>K ((t,v)::e))
theorem di.env{env bO:Env}{hp:ab}{nx yk:Nat}(h:∀t,bO.get t=env.get t\/bO.get t= .any):di C ⟨env,hp,nx,yk⟩ ⟨bO,hp,nx,yk⟩:=λd0 F μ a w hs=>
 ⟨F,μ,⟨hs.h,hs.fresh,hs.size,λt=>by
   rcases h t with e|e
   · rw[show(St.mk bO hp nx yk).env.get t=_ from e];exact hs.env t
   · rw[show(St.mk bO hp nx yk).env.get t=_ from e];exact .any _,hs.nI,hs.rd,hs.nm,hs.j⟩,dO.refl F μ w,Kp.refl _ _⟩
theorem zu:∀(V:List Nat) (env:Env) (K:Env->Prop),XV V env K->∃bO,K bO/\ ∀t,bO.get t=env.get t\/bO.get t= .any
 |[],env,K,h=>⟨[],h,λ_=>.inr rfl⟩
 |t::V,env,K,h=>by
  simp only[XV,mR] at h;split at h
  · exact zu V env K h
  · obtain⟨bO,h1,h2⟩:=zu V env _ h
    refine⟨_,h1,λu=>?_⟩;simp only[Env.get];split
    · rename_i e;subst e;exact .inl rfl
    · exact h2 u
def ra:ab->Nat->Bool
 |[],_=>false
 |(u,_)::r,t=>(match Nat.beq u t with|true=>true|false=>ra r t)
def nK(oh:ab):ab->ab->ab
 |[],_=>oh
 |(o,x)::r,S=>(match ra S o with
  |true=>nK oh r S
  |false=>(match ra oh o with
   |true=>nK oh r ((o,x)::S)
   |false=>(match x with
    |.dead=>nK oh r ((o,x)::S)
    |x=>(o,x)::nK oh r ((o,x)::S))))
def x9(oh:ab):ab->ab->(ab->Prop)->Prop
 |[],_,K=>K oh
 |(o,x)::r,S,K=>(match ra S o with
  |true=>x9 oh r S K
  |false=>(match ra oh o with
   |true=>x9 oh r ((o,x)::S) K
   |false=>(match x with
    |.dead=>x9 oh r ((o,x)::S) K
    |x=>x9 oh r ((o,x)::S) λh=>K ((o,x)::h))))
theorem vU(oh:ab):∀(r S:ab) (K:ab->Prop),x9 oh r S K=K (nK oh r S)
 |[],_,K=>rfl
 |(o,x)::r,S,K=>by
  simp only[x9,nK]
  cases ra S o with
  |true=>exact vU oh r S K
  |false=>
   simp only
   cases ra oh o with
   |true=>exact vU oh r _ K
   |false=>
    simp only;cases x<;>simp only[vU oh r]
theorem pk:∀(r S:ab) (i:Nat),ra S i=true->ab.get (nK [] r S) i= .dead
 |[],S,i,_=>rfl
 |(o,x)::r,S,i,h=>by
  (have h2:∀y,ra ((o,y)::S) i=true:=λy=>by simp only[ra];split<;>first|rfl|exact h);simp only[nK];split
  · exact pk r S i h
  · rename_i hs
    (have Oa:o≠i:=λe=>by subst e;rw[h] at hs;cases hs);simp only[ra];cases x<;>simp only[]<;>first|exact pk r _ i (h2 _)|(rw[ab.cI,if_neg Oa];exact pk r _ i (h2 _))
theorem sn:∀(r S:ab) (i:Nat),ra S i=false->ab.get (nK [] r S) i=ab.get r i
 |[],S,i,_=>rfl
 |(o,x)::r,S,i,h=>by
  simp only[nK];split
  · rename_i hs
    (have Oa:o≠i:=λe=>by subst e;rw[h] at hs;cases hs);rw[sn r S i h,ab.cI,if_neg Oa]
  · simp only[ra]
    by_cases Oa:o=i
    · subst Oa
      (have hs:∀y,ra ((o,y)::S) o=true:=λy=>by simp[ra]);rw[ab.cI,if_pos rfl];cases x<;>simp only[]<;>first|exact pk r _ o (hs _)|(rw[ab.cI,if_pos rfl])
    · have hs:∀y,ra ((o,y)::S) i=false:=λy=>by
       simp only[ra]
       have:Nat.beq o i=false:=by
        cases hb:Nat.beq o i with
        |false=>rfl
        |true=>exact absurd (Nat.eq_of_beq_eq_true hb) Oa
       rw[this];exact h
      rw[ab.cI,if_neg Oa];cases x<;>simp only[]<;>first|exact sn r _ i (hs _)|(rw[ab.cI,if_neg Oa];exact sn r _ i (hs _))
theorem di.hp{env:Env}{hp:ab}{nx yk:Nat}:di C ⟨env,hp,nx,yk⟩ ⟨env,nK [] hp [],nx,yk⟩:=λd0 F μ a w hs=>
 ⟨F,μ,⟨hs.h.congr λi=>sn hp [] i rfl,hs.fresh,hs.size,hs.env,hs.nI,hs.rd,hs.nm,hs.j⟩,dO.refl F μ w,Kp.refl _ _⟩
structure Sq(C:Cx P)(V:List Nat)(id:Nat)(Q:St->Prop)(s:St):Prop where
 ex:∃s',di C s s'/\Q s'
theorem Sq.Ob{V:List Nat}{id:Nat}{Q:St->Prop}{s:St}(s':St)(h:di C s s')(k:Sq C V id Q s'):Sq C V id Q s:=let⟨t,h1,h2⟩:=k.ex;⟨t,h.trans h1,h2⟩
theorem Sq.pr{V:List Nat}{id:Nat}{Q:St->Prop}{env:Env}{hp:ab}{nx yk:Nat}(h:XV V env λbO=>x9 [] hp [] λgj=>Q ⟨bO,gj,nx,yk⟩):Sq C V id Q ⟨env,hp,nx,yk⟩:=by
 obtain⟨bO,h1,h2⟩:=zu V env _ h;rw[vU] at h1;exact⟨_,(di.env h2).trans di.hp,h1⟩
def WK:Code->Nat
 |.region id _ _=>id
 |.seq x _=>WK x
 |.block _ c=>WK c
 |.loop c=>WK c
 |.scope c=>WK c
 |.cond _ x _=>WK x
 |_=>0
def cdF(x:AV)(A B:Prop):Prop:=
 match x with
 |.p (.bool b)=>Br b A B
 |_=>False
def exF(id:Nat)(A:Prop)(B:Nat->Prop)(j:Nat):Prop:=
 match Nat.beq j id with
 |true=>A
 |false=>B j
theorem Vm(id:Nat)(A:Prop)(B:Nat->Prop)(j:Nat):exF id A B j=if j=id then A else B j:=by
 unfold exF;split
 · rename_i h;rw[if_pos (Nat.eq_of_beq_eq_true h)]
 · rename_i h;rw[if_neg (Nat.ne_of_beq_eq_false h)]
structure Lp(C:Cx P)(c:Code)(s:St)(K:Kt):Prop where
 w:bY C c s K
def XW:List aH->Env->ab->Nat->Nat->(St->Prop)->Prop
 |[],env,hp,nx,yk,K=>K ⟨env,hp,nx,yk⟩
 |o::r,env,hp,nx,yk,K=>(match o.guard with
  |some _=>False
  |none=>XT P o.op (bP env) hp nx λv us=>K6 v λv=>Ed (nx+64) λxH=>xG o.dst v env λbO=>Ee us hp λgj=>XW r bO gj xH yk K)
theorem Pp:∀(l:List aH) (env:Env) (hp:ab) (nx yk:Nat) (K:St->Prop),XW (P:=P) l env hp nx yk K=cq (P:=P) l env hp nx yk K
 |[],_,_,_,_,_=>rfl
 |o::r,env,hp,nx,yk,K=>by
  unfold XW cq;simp only[mR,uH,uI,x8,Pp r]
  all_goals(cases o.guard<;>rfl)
def awR(C:Cx P)(ops:Array aH)(draw:Bool)(s:St)(K:Kt):Prop:=
 match draw,s with
 |true,⟨env,hp,nx,yk⟩=>dq C.G ops.toList nx yk ops.toList 0 env hp [] (λenv hp nx yk=>K.n ⟨env,hp,nx,yk⟩) K.p
 |false,⟨env,hp,nx,yk⟩=>(match Pf ops.toList with
  |true=>XW (P:=P) ops.toList env hp nx yk K.n
  |false=>sq C.G ops.toList ops.toList env hp nx yk (λenv hp nx yk=>K.n ⟨env,hp,nx,yk⟩) K.p)
def Kt.sq(C:Cx P)(V:List Nat)(id:Nat)(f:St->Kt->Prop)(K:Kt):Kt:={ K with n:=λs'=>Sq C V id (λs2=>f s2 K) s' }
def Kt.bl(id:Nat)(K:Kt):Kt:={ K with e:=λj s'=>exF id (K.n s') (λj=>K.e j s') j }
def Kt.nx(K:Kt)(f:St->Prop):Kt:={ K with n:=f }
noncomputable def aw(C:Cx P)(V:List Nat)(c:Code):St->Kt->Prop:=
 Code.rec (motive:=λ_=>St->Kt->Prop)
  (skip:=λs K=>K.n s)
  (region:=λ_ ops draw s K=>awR C ops draw s K)
  (seq:=λ_ y Vn Vo s K=>Vn s (Kt.sq C V (WK y) Vo K))
  (cond:=λc _ _ Vn Vo s K=>cdF (bP s.env c) (Vn s K) (Vo s K))
  (block:=λid _ ih s K=>ih s (Kt.bl id K))
  (loop:=λc _ s K=>Lp C (.loop c) s K)
  (rangeFunc:=λf ps x y _ _ s K=>Lp C (.rangeFunc f ps x y) s K)
  (exit:=λj s K=>K.e j s)
  (scope:=λc _ s K=>Lp C (.scope c) s K)
  (label:=λ_ s K=>K.n s)
  (goto:=λl s K=>Lp C (.goto l) s K)
  (ret:=λs K=>K.r s)
  (refuse:=λw s K=>Lp C (.refuse w) s K) c
theorem aw_t(C:Cx P)(V:List Nat)(id:Nat)(ops:Array aH)(env:Env)(hp:ab)(nx yk:Nat)(K:Kt):aw C V (.region id ops true) ⟨env,hp,nx,yk⟩ K=dq C.G ops.toList nx yk ops.toList 0 env hp [] (λenv hp nx yk=>K.n ⟨env,hp,nx,yk⟩) K.p:=rfl
theorem aw_f(C:Cx P)(V:List Nat)(id:Nat)(ops:Array aH)(env:Env)(hp:ab)(nx yk:Nat)(K:Kt):aw C V (.region id ops false) ⟨env,hp,nx,yk⟩ K=(match Pf ops.toList with
 |true=>XW (P:=P) ops.toList env hp nx yk K.n
 |false=>sq C.G ops.toList ops.toList env hp nx yk (λenv hp nx yk=>K.n ⟨env,hp,nx,yk⟩) K.p):=rfl
theorem Sr(C:Cx P)(V:List Nat)(c:aL)(x y:Code)(s:St)(K:Kt):aw C V (.cond c x y) s K=cdF (bP s.env c) (aw C V x s K) (aw C V y s K):=rfl
theorem j8(hm:P.follows .mixedOrders=true)(V:List Nat)(c:Code):∀(s:St) (K:Kt),aw C V c s K->bY C c s K:=by
 induction c with
 |skip=>intro s K h _ n Q d0 F μ a w hs hk;exact wpIn_skip (hk .normal s F μ a w h (Rl.refl F μ w) (Kp.refl _ _) hs)
 |exit j=>intro s K h _ n Q d0 F μ a w hs hk;exact wpIn_exit (hk (.exit j) s F μ a w h (Rl.refl F μ w) (Kp.refl _ _) hs)
 |ret=>intro s K h _ n Q d0 F μ a w hs hk;exact wpIn_ret (hk .ret s F μ a w h (Rl.refl F μ w) (Kp.refl _ _) hs)
 |label l=>intro s K h _ n Q d0 F μ a w hs hk;exact wpIn_label (hk .normal s F μ a w h (Rl.refl F μ w) (Kp.refl _ _) hs)
 |region id ops draw=>
  intro s K h bQ n Q d0 F μ a w hs hk;obtain⟨env,hp,nx,yk⟩:=s
  cases draw with
  |true=>
   rw[aw_t,Pn] at h
   have:=Ji (n:=n) (id:=id) (Q:=Q) hm bQ hs h (λs' F' μ' a' w' h1 h2 h3 h4=>hk .normal s' F' μ' a' w' h1 h2 h3 h4)
    λs' F' μ' a' w' p ch h1 h2 h3 h4 h5=>hk (.panic ch) s' F' μ' a' w' ⟨p,h1,h5⟩ h2 h3 h4
   simpa using this
  |false=>
   rw[aw_f] at h
   cases qe:Pf ops.toList with
   |true=>
    rw[qe] at h;simp only[Pp] at h;exact Sh (s:=⟨env,hp,nx,yk⟩) bQ hs h λs' F' μ' a' w' h1 h2 h3 h4=>hk .normal s' F' μ' a' w' h1 h2 h3 h4
   |false=>
   rw[qe] at h;simp only[K8] at h
   exact wpIn_region_list (y8 bQ _ _ F μ a w (λo ho=>ho) hs h (λs' F' μ' a' w' h1 h2 h3 h4=>hk .normal s' F' μ' a' w' h1 h2 h3 h4)
    λs' F' μ' a' w' p ch h1 h2 h3 h4 h5=>hk (.panic ch) s' F' μ' a' w' ⟨p,h1,h5⟩ h2 h3 h4)
 |seq x y Vn Vo=>
  intro s K h bQ n Q d0 F μ a w hs hk;simp only[q9,aQ] at bQ;refine wpIn_seq (Vn s _ h bQ.1 n _ d0 F μ a w hs λe s' F' μ' a' w' h1 h2 h3 h4=>?_)
  cases e with
  |normal=>
   obtain⟨s2,e1,e2⟩:=h1.ex;obtain⟨F2,jL,g1,g2,g3⟩:=e1 d0 F' μ' a' w' h4;exact Vo s2 K e2 bQ.2 n Q d0 F2 jL a' w' g1 λe s3 F3 Oc a3 w3 k1 k2 k3 k4=>hk e s3 F3 Oc a3 w3 k1 (h2.trans ((Rl.of g2).trans k2)) (h3.trans (g3.trans k3)) k4
  |exit j=>exact hk _ s' F' μ' a' w' h1 h2 h3 h4
  |ret=>exact hk _ s' F' μ' a' w' h1 h2 h3 h4
  |goto l=>exact h1.elim
  |panic ch=>exact hk _ s' F' μ' a' w' h1 h2 h3 h4
  |outgrown=>exact h1.elim
 |cond c x y Vn Vo=>
  intro s K h bQ n Q d0 F μ a w hs hk;simp only[q9,aQ] at bQ;rw[Sr] at h;simp only[cdF] at h;have hc:=gu hs.h.fb.gl hs.env c;split at h
  · rename_i b hb
    rw[hb] at hc;exact wpIn_cond_split (jx hc) (λe=>Vn s K (h.t e) bQ.1 n Q d0 F μ a w hs hk) (λe=>Vo s K (h.f e) bQ.2 n Q d0 F μ a w hs hk)
  · exact h.elim
 |block id c ih=>
  intro s K h bQ n Q d0 F μ a w hs hk;refine wpIn_block (ih s _ h bQ n _ d0 F μ a w hs λe s' F' μ' a' w' h1 h2 h3 h4=>?_)
  cases e with
  |normal=>exact hk .normal s' F' μ' a' w' h1 h2 h3 h4
  |exit j=>
   simp only[kOf,Kt.bl,Vm] at h1;simp only[Exit.inBlock];split
   · rename_i e;rw[if_pos e] at h1;exact hk .normal s' F' μ' a' w' h1 h2 h3 h4
   · rename_i e;rw[if_neg e] at h1;exact hk (.exit j) s' F' μ' a' w' h1 h2 h3 h4
  |ret=>exact hk .ret s' F' μ' a' w' h1 h2 h3 h4
  |goto l=>exact h1.elim
  |panic ch=>exact hk _ s' F' μ' a' w' h1 h2 h3 h4
  |outgrown=>exact h1.elim
 |loop c ih=>intro s K h;exact h.w
 |rangeFunc f params assign body _ _=>intro s K h;exact h.w
 |scope c _=>intro s K h;exact h.w
 |goto l=>intro s K h;exact h.w
 |refuse why=>intro s K h;exact h.w
variable{s s':St}{K:Kt}{c:Code}
theorem bY.Ob(h:di C s s')(k:bY C c s' K):bY C c s K:=λbQ n Q d0 F μ a w hs hk=>by
 obtain⟨F',μ',h1,h2,h3⟩:=h d0 F μ a w hs;exact k bQ n Q d0 F' μ' a w h1 λe s2 F2 jL a2 w2 k1 k2 k3 k4=>hk e s2 F2 jL a2 w2 k1 ((Rl.of h2).trans k2) (h3.trans k3) k4
theorem Bz{F:Fence}{n:Nat}{c:Code}{Q:Exit->Act->aj->Prop}(I:Nat->Act->aj->Prop)
 (round:∀j a w,I j a w->c.wpIn F n P (Exit.then (λa' w'=>∃j',j'<j/\I j' a' w') Q) a w) {j:Nat} {a:Act} {w:aj} (h0:I j a w):(Code.loop c).wpIn F n P Q a w:=by
 intro b k cs gk hb hr
 have key:∀j a w,I j a w->
  ∃e a' w',Q e a' w'/\ArrivesIn (Machine.fenced P F) P (lone (b.atR a (.code c:: .inLoop c::k)) cs w) b k cs e a' w':=by
  intro j
  induction j using Nat.strongRecOn with
  |_ j ih=>
   intro a w hI;obtain⟨e,M0,uq,hq,By⟩:=round j a w hI b (.inLoop c::k) cs gk hb hr
   cases e with
   |normal=>
    obtain⟨j',aC,XX⟩:=hq;obtain⟨e₂,a₂,vz,XY,Ss⟩:=ih j' aC M0 uq XX;exact⟨e₂,a₂,vz,XY,.of_steps (StepsIn.trans By (.one (fenced_calm hb hr rfl) stepR_inLoop)) Ss⟩
   |exit id=>exact⟨_,M0,uq,hq,.pass (x:= .inLoop c) rfl (λ_ _=>.inl (by simp)) By⟩
   |goto l=>exact⟨_,M0,uq,hq,.pass (x:= .inLoop c) rfl (λ_ _=>.inl (by simp)) By⟩
   |ret=>exact⟨_,M0,uq,hq,.pass (x:= .inLoop c) rfl (λ_ _=>.inl (by simp)) By⟩
   |panic ch=>exact⟨_,M0,uq,hq,.pass (x:= .inLoop c) rfl (λ_ _=>.inl (by simp)) By⟩
   |outgrown=>exact⟨_,M0,uq,hq,.pass (x:= .inLoop c) rfl (λ_ _=>.inl (by simp)) By⟩
 obtain⟨e,a',w',hq,By⟩:=key _ a w h0;exact⟨e,a',w',hq,.of_steps (.one (fenced_calm hb hr rfl) stepR_loop) By⟩
theorem bY.loop{α:Type}(hm:P.follows .mixedOrders=true)(V:List Nat)(I:α->St)(m:α->Nat)(i0:α)(h0:di C s (I i0))
 (lC:∀i,aw C V c (I i) (Kt.nx K λs'=>∃j,m j<m i/\di C s' (I j))):Lp C (.loop c) s K:=⟨λbQ n Q d0 F μ a w hs hk=>by
 obtain⟨F0,μ0,h1,h2,h3⟩:=h0 d0 F μ a w hs;refine Bz (λk a' w'=>∃(i:α) (F':Nat->Prop) (μ':aN),m i=k/\Rl C.G F μ w F' μ' w'/\Kp C.kp μ μ'/\oT C d0 F' μ' (I i) a' w') (λk a1 w1 hI=>?_) (j:=m i0) ⟨i0,F0,μ0,rfl,.of h2,h3,h1⟩;obtain⟨i,F1,Ij,Io,b1,b2,s1⟩:=hI;refine j8 hm V c (I i) _ (lC i) bQ n _ d0 F1 Ij a1 w1 s1 λe s' F' μ' a' w' k1 k2 k3 k4=>?_
 cases e with
 |normal=>
  obtain⟨j,hj,he⟩:=k1;obtain⟨F2,jL,e1,e2,e3⟩:=he d0 F' μ' a' w' k4;exact⟨m j,by omega,j,F2,jL,rfl,(b1.trans k2).trans (.of e2),(b2.trans k3).trans e3,e1⟩
 |exit j=>exact hk _ s' F' μ' a' w' k1 (b1.trans k2) (b2.trans k3) k4
 |ret=>exact hk _ s' F' μ' a' w' k1 (b1.trans k2) (b2.trans k3) k4
 |goto l=>exact k1.elim
 |panic ch=>exact hk _ s' F' μ' a' w' k1 (b1.trans k2) (b2.trans k3) k4
 |outgrown=>exact k1.elim⟩
end
section
variable{P:au}{f:bf}{σ:ab}{nid:Nat}{K:AV->ab->Prop}{ps:List PV}{r:PV}{c:Option (bf×List AV)}
theorem PV.zw{p q:PV}(h:p=q):PV.le p q:=by subst h;exact PV.le_refl p
theorem PV.dE:∀l:List PV,PV.Q0 l l
 |[]=>PV.ao
 |_::l=>PV.ai (PV.le_refl _) (PV.dE l)
theorem aa.le{as bs:List PV}{r q:PV}(h:aa P f as r)(ha:PV.Q0 bs as)(hr:PV.le r q):aa P f bs q:=λF w vs hF hs hv=>
 fI (h F w vs hF (hs.trans ha.1) λi p hp=>by
  have hi:i<bs.length:=by rw[ha.1];exact(aq.1 hp).1
  exact ha.2 i _ p (aV hi) hp F w _ (hv i _ (aV hi))) λe w' ⟨v,F',h1,h2,h3,h4⟩=>⟨v,F',h1,h2,h3,hr F' w' v h4⟩
theorem dF{c:AV×List AV}(hp:aa P f ps r)(he:enters P f=true)(hc:dP c.1 c.2=some (f,ps.map AV.p))(hk:K (.p r) []):oD P c σ nid K:=
 ⟨.inl ⟨f,_,[],ps,r,hc,he,by simp,kP.refl ps,hp,by simpa using hk⟩⟩
theorem k9{c:AV×List AV}{as:List AV}(hp:aa P f ps r)(he:enters P f=true)(hc:dP c.1 c.2=some (f,as))(hz:x4 σ 60 as [] λqs Z=>PV.Q0 qs ps/\K (.p r) (Z.map λo=>(o,if lB r then σ.get o else .dead))):oD P c σ nid K:=by
 obtain⟨qs,Z,⟨h1,h2⟩,_,h3,h4⟩:=(jW 60).2 as [] _ (by simp[kA]) hz;exact⟨.inl ⟨f,as,Z,qs,r,hc,he,h3,h4,hp.le h1 (PV.le_refl r),h2⟩⟩
theorem Pq{c:AV×List AV}{as qg:List AV}{jI dX:ab}{r:AV}(ρ:List Nat)(hi:aM P f ρ.length jI qg r dX)(he:enters P f=true)(hc:dP c.1 c.2=some (f,as))(ha:as=tn (rn ρ nid) qg)(hn:ρ.Nodup)
 (hl:∀o∈ρ,σ.get o≠ .dead) (hs:∀i,i<ρ.length->σ.get (ρ.getD i 0)=gD (rn ρ nid) (jI.get i)) (hd:∀i,ρ.length<=i->jI.get i= .dead) (vN:∀i,i<ρ.length->i∈keys dX)
 (hb:∀k∈keys dX,k<ρ.length+64) (hk:K (gY (rn ρ nid) r) (dX.map λx=>(rn ρ nid x.1,gD (rn ρ nid) x.2))):oD P c σ nid K:=
 ⟨.inr (.inl ⟨f,as,qg,jI,r,dX,ρ,hc,he,ha,hn,hl,hs,hd,vN,hb,hi,hk⟩)⟩
end
structure aP(p q:PV):Prop where
 le:PV.le p q
@[simp] theorem aP.refl(p:PV):aP p p:=⟨PV.le_refl p⟩
theorem aP.of{p q:PV}(h:p=q):aP p q:=⟨PV.zw h⟩
theorem aP.bool{a b:Bool}(h:a=b):aP (.bool a) (.bool b):= .of (by rw[h])
def dT:Nat->List AV->Env
 |_,[]=>[]
 |k,p::l=>(k,p)::dT (k+1) l
theorem pn:∀(l:List AV) (k t:Nat),(dT k l).get t=if k<=t then(match l[t-k]? with|some p=>p|none=>.any) else .any
 |[],k,t=>by simp[dT,Env.get]
 |p::l,k,t=>by
  simp only[dT,Env.get,pn l];by_cases e:k=t
  · subst e;simp
  · simp only[e,if_false]
    by_cases h:k+1<=t
    · rw[if_pos h,if_pos (by omega),show t-k=t-(k+1)+1 by omega];simp
    · rw[if_neg h,if_neg (by omega)]
def zx(P:au)(env:Env)(hp:ab):List ResultVar->(List AV->Prop)->Prop
 |[],K=>K []
 |.tmp t::l,K=>K6 (env.get t) λv=>zx P env hp l λvs=>K (v::vs)
 |.cell a t::l,K=>nE P t (env.get a) hp λv=>K6 v λv=>zx P env hp l λvs=>K (v::vs)
def Jj:List AV->AV
 |[v]=>v
 |vs=>.bR vs
def zy(P:au)(res:List ResultVar)(r:PV)(s:St):Prop:=
 match s with
 |⟨env,hp,_,_⟩=>zx P env hp res λvs=>mv hp 60 (Jj vs) [] λp _=>aP p r
def tD(ts:Array ah)(x:ResultVar):Sem ah:=
 match x with
 |.tmp t=>pure (ts.getD t undef)
 |.cell c t=>do loadVar t (<-asAddr (ts.getD c undef))
theorem jB{P:au}{F:Nat->Prop}{μ:aN}{env:Env}{hp:ab}{ts:Array ah}{w:aj}(ar:az F μ hp w)(hs:∀t,RV F μ w (ts[t]?.getD undef) (env.get t)):∀(res:List ResultVar) (K:List AV->Prop),zx P env hp res K->
 ∃(vs:List ah) (as:List AV),K as/\vs.length=as.length/\(∀(i:Nat) p,as[i]? =some p->RV F μ w (vs[i]?.getD undef) p)/\
  ∀w',tc w w'->(res.mapM (tD ts)).run P w'= .ok vs w':=by
 intro res
 induction res with
 |nil=>intro K h;exact⟨[],[],h,rfl,by simp,by simp⟩
 |cons x l ih=>
  intro K h
  cases x with
  |tmp t=>
   simp only[zx,mR] at h;obtain⟨vs,as,h1,h2,h3,h4⟩:=ih _ h;refine⟨ts.getD t undef::vs,env.get t::as,h1,by simp[h2],λi p hp=>?_,λw' hw=>?_⟩
   · cases i with
     |zero=>simp at hp;subst hp;have:=hs t;simpa[Array.getD_eq_getD_getElem?] using this
     |succ i=>simp at hp;simpa using h3 i p hp
   · simp only[List.mapM_cons,bu,cg,bD,tD,h4 w' hw]
  |cell c t=>
   simp only[zx,mR] at h;have hv:=hs c;obtain⟨av,v,k1,k2,k3⟩:=sK (P:=P) ar hv h;obtain⟨vs,as,h1,h2,h3,h4⟩:=ih _ k1;refine⟨v::vs,av::as,h1,by simp[h2],λi p hp=>?_,λw' hw=>?_⟩
   · cases i with
     |zero=>simp at hp;subst hp;simpa using k2
     |succ i=>simp at hp;simpa using h3 i p hp
   · have cY:=k3 w' hw
     have XZ:(tD ts (.cell c t)).run P w'= .ok v w':=by
      show(do loadVar t (<-asAddr (ts.getD c undef)):Sem ah).run P w'= .ok v w';(have e:ts.getD c undef=ts[c]?.getD undef:=by simp[Array.getD_eq_getD_getElem?]);rw[e];revert cY;generalize ts[c]?.getD undef=u;intro cY
      cases u with
      |pointer q=>cases q with
       |some q=>exact cY
       |none=>simp[Instr.loadAt,Instr.sureAddr] at cY
      |_=>simp[Instr.loadAt,Instr.sureAddr] at cY
     simp only[List.mapM_cons,bu,cg,XZ,bD,h4 w' hw]
theorem K9{P:au}{ro:Option Nat}{n:Nat}{fn:Func}{tmps:Array ah}{R:Ending->aj->Prop}:∀(ms:List Nat) (w:aj),ms.Nodup->(∀r∈ms,w.heap[r]? =some (.deferred (some [])))->
 (∀w',(∀b,b∉ms->w'.heap[b]? =w.heap[b]?)->w'.os=w.os->w'.tape=w.tape->w'.output=w.output->w'.heap.size=w.heap.size->LeavesIn (fc ro) n P fn tmps R [] .returning w')->
 LeavesInM (fc ro) n P fn tmps R (ms.map nH) .returning w
 |[],w,_,_,h=>h w (λ_ _=>rfl) rfl rfl rfl rfl
 |r::ms,w,hn,hd,h=>by
  have hr:=hd r (by simp);have aC:=bB hr;simp only[jY] at hn
  let w1:aj:=w.putObj r (.deferred none)
  have cj:∀b,b≠r->w1.heap[b]? =w.heap[b]? :=λb hb=>World.putObj_heap_other hb;refine⟨by simp,.inl ⟨r,w1,rfl,?_,?_⟩⟩
  · exact run_takeDeferred hr
  · refine K9 ms w1 hn.2 (λx hx=>?_) λw' k1 k2 k3 k4 k5=>?_
    · rw[cj x (λe=>hn.1 (e▸hx))];exact hd x (by simp[hx])
    · refine h w' (λb hb=>?_) k2 k3 k4 (k5.trans (by simp[w1]))
      simp only[cy,not_or] at hb;rw[k1 b hb.2,cj b hb.1]
section
variable{P:au}{f:bf}{fn:Func}{c:Code}{N:Nat}{res:List ResultVar}
theorem La{ro:Option Nat}{n:Nat}{tmps:Array ah}{R:Ending->aj->Prop}{ch:List PanicEntry}:∀(ms:List Nat) (w:aj),ms.Nodup->(∀r∈ms,w.heap[r]? =some (.deferred (some [])))->
 (∀w',(∀b,b∉ms->w'.heap[b]? =w.heap[b]?)->w'.os=w.os->w'.tape=w.tape->w'.output=w.output->w'.heap.size=w.heap.size->R (.panicked ch) w')->
 LeavesInM (fc ro) n P fn tmps R (ms.map nH) (.panicking ch) w
 |[],w,_,_,h=>h w (λ_ _=>rfl) rfl rfl rfl rfl
 |r::ms,w,hn,hd,h=>by
  have hr:=hd r (by simp);simp only[jY] at hn
  let w1:aj:=w.putObj r (.deferred none)
  have cj:∀b,b≠r->w1.heap[b]? =w.heap[b]? :=λb hb=>World.putObj_heap_other hb;refine⟨by simp,.inl ⟨r,w1,rfl,run_takeDeferred hr,?_⟩⟩;refine La ms w1 hn.2 (λx hx=>?_) λw' k1 k2 k3 k4 k5=>?_
  · rw[cj x (λe=>hn.1 (e▸hx))];exact hd x (by simp[hx])
  · refine h w' (λb hb=>?_) k2 k3 k4 (k5.trans (by simp[w1]))
    simp only[cy,not_or] at hb;rw[k1 b hb.2,cj b hb.1]
theorem mS{C:Cx P}{as:List AV}{s0:St}{K:Kt}{F:Nat->Prop}{μ:aN}{w:aj}{vs:Array ah}{R:Ending->aj->Prop}(hm:P.follows .mixedOrders=true)(hf:P.funcs[f]? =some fn)(hb:fn.body=some c)
 (hN:fn.ntmps=C.N) (hr:fn.results.toList=res) (bQ:q9 C.N c=true) (ha:as.length<=C.N) (V:List Nat) (h:aw C V c s0 K)
 (ZE:s0.env=dT 0 as) (ar:az F μ s0.hp w) (Ft:∀o,s0.nx<=o->μ o=none) (hj:C.G.J s0.yk F μ w) (oS:vs.size=as.length) (ie:∀(i:Nat) p,as[i]? =some p->RV F μ w (vs[i]?.getD undef) p)
 (hn:∀s,K.n s->K.r s) (he:∀j s,¬ K.e j s)
 (hret:∀s F' μ' w' (ts:Array ah),K.r s->Rl C.G F μ w F' μ' w'->Kp C.kp μ μ'->az F' μ' s.hp w'->(∀o,s.nx<=o->μ' o=none)->(∀t,RV F' μ' w' (ts[t]?.getD undef) (s.env.get t))->(C.G.it=true->C.G.J s.yk F' μ' w')->
   ∃us:List ah,(res.mapM (tD ts)).run P w'= .ok us w'/\R (.returned (if h:us.toArray.size=1 then us.toArray[0] else .tuple us.toArray)) w')
 (Vf:∀p s F' μ' w' ch,K.p p s->Rl C.G F μ w F' μ' w'->Kp C.kp μ μ'->az F' μ' s.hp w'->qT F' w' ch p->R (.panicked ch) w'):Calls P f vs w R:=by
 rw[<-jt (ro:=none) (n:=0)];refine callsIn_of_wp_marks hf hb trivial ?_ rfl
 have iR:(vs++gT (fn.ntmps-vs.size) undef).size=C.N:=by
  have h1:vs.size<=C.N:=by rw[oS];exact ha
  simp[hN];omega
 have hs:oT C ⟨[],w.heap.size,none,λ_=>False,λ_=>False,w⟩ F μ s0 { tmps:=vs++gT (fn.ntmps-vs.size) undef,defers:=[] } w:=by
  refine⟨ar,Ft,iR,λt=>?_,⟨[],⟨List.nodup_nil,aX _⟩,rfl,by simp⟩,(λl hl=>by cases hl),λ_=>rfl,JE.start hj (λr hr=>by cases hr)⟩;rw[ZE,pn];simp only[de,if_true,Nat.sub_zero];split
  · rename_i p hp
    (have aC:t<vs.size:=by rw[oS];exact(aq.1 hp).1);show RV F _ w ((vs++gT (fn.ntmps-vs.size) undef)[t]?.getD undef) _;rw[iY aC];exact ie t p hp
  · exact .any _
 have tk:∀{s':St} {F':Nat->Prop} {μ':aN} {a':Act} {w':aj},Rl C.G F μ w F' μ' w'->oT C ⟨[],w.heap.size,none,λ_=>False,λ_=>False,w⟩ F' μ' s' a' w'->∃ms:List Nat,ms.Nodup/\a'.defers=ms.map nH/\(∀r∈ms,w'.heap[r]? =some (.deferred (some []))/\ ¬ F' r)/\
  ∀w2,(∀b,b∉ms->w2.heap[b]? =w'.heap[b]?)->w2.os=w'.os->w2.tape=w'.tape->w2.output=w'.output->w2.heap.size=w'.heap.size->
   az F' μ' s'.hp w2/\(∀t,RV F' μ' w2 (a'.tmps[t]?.getD undef) (s'.env.get t))/\Rl C.G F μ w F' μ' w2/\(C.G.it=true->C.G.J s'.yk F' μ' w2):=by
  intro s' F' μ' a' w' h2 h4;obtain⟨ms,m1,m2,m3⟩:=h4.nI;refine⟨ms,m1.1,by rw[m2];exact ib _,λr hr=>⟨(m3 r hr).1,(m3 r hr).2.1⟩,λw2 k1 k2 k3 k4 k5=>?_⟩
  have cj:∀b,F' b\/μ'.has b->w2.heap[b]? =w'.heap[b]? :=λb hb=>k1 b λlO=>by
   obtain⟨_,h5,h6,_⟩:=m3 b lO;exact hb.elim h5 h6
  refine⟨h4.h.same (by omega) cj,λt=>(h4.env t).same cj,λgh=>?_,?_⟩
  · have hB:=h2 gh
    have iS:∀b,b<w.heap.size->b∉ms:=λb hb lO=>by
     have:=(m3 b lO).2.2.2;simp only at this;omega
    refine⟨k2.trans hB.os,k3.trans hB.tape,k4.trans hB.output,by rw[k5];exact hB.size,λb hb=>(cj b (.inl (hB.sub b hb))).trans (hB.fr b hb),λb hb hn=>(k1 b (iS b hb)).trans (hB.old b hb hn),λb x hx=>?_,hB.sub,hB.jG,hB.fV⟩;have sF:=hB.shape b x hx;by_cases lO:b∈ms
    · have:=(m3 b lO).1
      simp[cC,this] at sF
    · exact(ir (k1 b lO)).trans sF
  · intro gh
    obtain⟨X,hJ⟩:=h4.j;refine C.G.cl hJ.j ⟨k2,k3,k4,by omega,λb hb=>cj b (.inl hb),λb _ hn=>k1 b λlO=>hn (aN.cA.2 (.inr (hJ.ma gh b (by rw[m2];exact cL.2 (.inl (aY.2 ⟨b,lO,rfl⟩)))))),λb x hx=>?_,λ_ h=>h,λ_ h=>.inl h,λb h=>.inl (aN.cA.2 (.inl h))⟩;by_cases lO:b∈ms
    · have:=(m3 b lO).1
      simp[cC,this] at hx
    · exact(ir (k1 b lO)).trans hx
 refine j8 hm V c _ _ h bQ 0 _ ⟨[],w.heap.size,none,λ_=>False,λ_=>False,w⟩ F μ _ w hs λe s' F' μ' a' w' h1 h2 h3 h4=>?_;obtain⟨ms,t1,t2,t3,t4⟩:=tk h2 h4
 have fin:K.r s'->LeavesInM (fc none) 0 P fn a'.tmps R a'.defers .returning w':=λhK=>by
  rw[t2];refine K9 ms w' t1 (λr hr=>(t3 r hr).1) λw2 k1 k2 k3 k4 k5=>?_;obtain⟨g1,g2,g3,g4⟩:=t4 w2 k1 k2 k3 k4 k5;obtain⟨us,r1,r2⟩:=hret s' F' μ' w2 a'.tmps hK g3 h3 g1 h4.fresh g2 g4;refine⟨_,?_,r2⟩;have e:results fn a'.tmps=(do let vs <-fn.results.mapM (tD a'.tmps);pure (if h:vs.size=1 then vs[0] else .tuple vs)):=rfl;rw[e,<-Array.toArray_toList (xs:=fn.results),hr,List.mapM_toArray];simp only[bu,map_eq_pure_bind,cg,r1,bD]
 cases e with
 |normal=>exact fin (hn _ h1)
 |ret=>exact fin h1
 |exit j=>exact absurd h1 (he j s')
 |goto l=>exact h1.elim
 |panic ch=>
  obtain⟨p,p1,p2⟩:=h1;show LeavesInM (fc none) 0 P fn a'.tmps R a'.defers (.panicking ch) w';rw[t2];refine La ms w' t1 (λr hr=>(t3 r hr).1) λw2 k1 k2 k3 k4 k5=>?_;obtain⟨g1,g2,g3,g4⟩:=t4 w2 k1 k2 k3 k4 k5;obtain⟨v,v1,v2⟩:=p2
  exact Vf p s' F' μ' w2 ch p1 g3 h3 g1 ⟨v,v1,v2.mono (λ_ h=>h) λb hb=>by
   exact k1 b λlO=>(t3 b lO).2 hb⟩
 |outgrown=>exact h1.elim
theorem vV{us:List ah}{GY:List AV}{F:Nat->Prop}{μ:aN}{w:aj}(k2:us.length=GY.length)(k3:∀(i:Nat) p,GY[i]? =some p->RV F μ w (us[i]?.getD undef) p):
 RV F μ w (if h:us.toArray.size=1 then us.toArray[0] else .tuple us.toArray) (Jj GY):=by
 by_cases h1:us.toArray.size=1
 · rw[dif_pos h1]
   have X1:us.length=1:=by simpa using h1
   obtain⟨u,rfl⟩:∃u,us=[u]:=by
    cases us with
    |nil=>simp at X1
    |cons u r=>cases r with
     |nil=>exact⟨u,rfl⟩
     |cons _ _=>simp at X1
   obtain⟨v,rfl⟩:∃v,GY=[v]:=by
    cases GY with
    |nil=>simp at k2
    |cons u r=>cases r with
     |nil=>exact⟨u,rfl⟩
     |cons _ _=>simp at k2
   exact k3 0 v rfl
 · rw[dif_neg h1]
   have e:Jj GY= .bR GY:=by
    cases GY with
    |nil=>rfl
    |cons u r=>cases r with
     |nil=>exfalso;apply h1;simpa using k2
     |cons _ _=>rfl
   rw[e];exact .bR _ _ (by simp[k2]) (λi p hp=>by simpa using k3 i p hp)
theorem aa.of{as:List PV}{r:PV}(hm:P.follows .mixedOrders=true)(hf:P.funcs[f]? =some fn)(hb:fn.body=some c)
 (hN:fn.ntmps=N) (hr:fn.results.toList=res) (bQ:q9 N c=true) (ha:as.length<=N) (V:List Nat)
 (h:aw ⟨N,fK.no P,[]⟩ V c ⟨dT 0 (as.map .p),[],0,0⟩ ⟨zy P res r,λ_ _=>False,zy P res r,λ_ _=>False⟩):aa P f as r:=by
 intro F w vs hF oS ie;refine mS (as:=as.map .p) (μ:=aN.no) (F:=F) hm hf hb hN hr bQ (by simpa using ha) V h rfl (az.nil hF) (λ_ _=>rfl) trivial (by simpa using oS) (λi p hp=>?_) (λ_ h=>h) (λ_ _ h=>h) ?_ (λ_ _ _ _ _ _ h=>h.elim)
 · simp only[aW,cm] at hp
   obtain⟨q,hq,rfl⟩:=hp;exact .p (ie i q hq)
 · intro s F' μ' w' ts hK h2 _ h3 _ h5 _
   obtain⟨env,hp,nx,yk⟩:=s;have h2:=h2 rfl;obtain⟨us,GY,k1,k2,k3,k4⟩:=jB h3 h5 res _ hK;refine⟨us,k4 w' (λ_ _=>rfl),?_⟩;obtain⟨p,Z,p1,_,p2,p3⟩:=(jW 60).1 (Jj GY) [] _ (by simp[kA]) k1;refine⟨_,(λb=>F' b\/ ∃o,o∈Z/\hp.get o≠ .dead/\μ' o=some b),rfl,⟨h2.os,h2.tape,h2.output,h2.size,h2.fr,h2.old,h2.shape,λb hb=>.inl (h2.sub b hb),?_,λb h=>(aN.lN h).elim⟩,?_,?_⟩
   · rintro b (hb|⟨o,_,_,hb⟩)
     · exact h2.jG b hb
     · rcases h2.fV b (.inl ⟨o,hb⟩) with h|h
       · exact .inr (.inl h)
       · exact .inr (.inr h)
   · rintro b (hb|⟨o,_,_,hb⟩)
     · exact h3.fb b hb
     · exact h3.mb b (.inl ⟨o,hb⟩)
   · exact p1.le _ _ _ (p3 F' μ' w' _ (λo b _ _ CF=>h3.obj o b CF) (vV k2 k3))
def zA(P:au)(res:List ResultVar)(m:Nat)(r:AV)(dX:ab)(s:St):Prop:=
 match s with
 |⟨env,hp,_,_⟩=>zx P env hp res λvs=>∃(Z:List Nat) (R:List (Nat×Nat)),cW hp (· ∈Z) (gM R) (Jj vs) r/\fe hp (· ∈Z) (gM R) dX/\(R.map j7).Nodup/\(∀x∈R,x.1<m+64)/\ ∀i,i<m->gM R i=some i
theorem aM.of{m nx:Nat}{jI dX:ab}{as:List AV}{r:AV}(hm:P.follows .mixedOrders=true)(hf:P.funcs[f]? =some fn)(hb:fn.body=some c)
 (hN:fn.ntmps=N) (hr:fn.results.toList=res) (bQ:q9 N c=true) (ha:as.length<=N) (V:List Nat) (Q8:m<=nx)
 (h:aw ⟨N,fK.no P,cJ m⟩ V c ⟨dT 0 as,jI,nx,0⟩ ⟨zA P res m r dX,λ_ _=>False,zA P res m r dX,λ_ _=>False⟩):aM P f m jI as r dX:=by
 intro F μ w vs ar Ft oS ie;refine mS (C:=⟨N,fK.no P,cJ m⟩) (as:=as) (μ:=μ) (F:=F) hm hf hb hN hr bQ ha V h rfl ar (λo ho=>Ft o (dW Q8 ho)) trivial oS ie (λ_ h=>h) (λ_ _ h=>h) ?_ (λ_ _ _ _ _ _ h=>h.elim);intro s F' μ' w' ts hK h2 vp h3 _ h5 _;obtain⟨env,hp,xH,yk⟩:=s;have h2:=h2 rfl;obtain⟨us,GY,⟨Z,R,e1,e2,e3,e4,e5⟩,k2,k3,k4⟩:=jB h3 h5 res _ hK;refine⟨us,k4 w' (λ_ _=>rfl),?_⟩;obtain⟨g1,g2⟩:=h3.Ob Z R e2 e3;refine⟨_,_,_,rfl,h2.trans g2,g1,e1 F' μ' w' _ (λo b _ _ CF=>h3.obj o b CF) (vV k2 k3),λo ho b pT=>?_,λo ho=>?_⟩
 · show(gM R o).bind μ'=some b
   rw[e5 o ho];exact vp o (gI.2 ho) b pT
 · show(gM R o).bind μ'=none
   cases Ef:gM R o with
   |none=>rfl
   |some x=>have h6:o<m+64:=e4 _ (oG Ef);omega
theorem dC.of{m nx:Nat}{jI:ab}{as:List AV}{R:AV->ab->Prop}(hm:P.follows .mixedOrders=true)(hf:P.funcs[f]? =some fn)(hb:fn.body=some c)
 (hN:fn.ntmps=N) (hr:fn.results.toList=res) (bQ:q9 N c=true) (ha:as.length<=N) (V:List Nat) (Q8:m<=nx)
 (h:aw ⟨N,fK.no P,cJ m⟩ V c ⟨dT 0 as,jI,nx,0⟩ ⟨λs=>∃r dX,R r dX/\zA P res m r dX s,λ_ _=>False,λs=>∃r dX,R r dX/\zA P res m r dX s,λ_ _=>False⟩):dC P f m jI as R:=by
 intro F μ w vs ar Ft oS ie;refine mS (C:=⟨N,fK.no P,cJ m⟩) (as:=as) (μ:=μ) (F:=F) hm hf hb hN hr bQ ha V h rfl ar (λo ho=>Ft o (dW Q8 ho)) trivial oS ie (λ_ h=>h) (λ_ _ h=>h) ?_ (λ_ _ _ _ _ _ h=>h.elim);intro s F' μ' w' ts hK h2 vp h3 _ h5 _;obtain⟨env,hp,xH,yk⟩:=s;have h2:=h2 rfl;obtain⟨r,dX,hR,hK⟩:=hK;obtain⟨us,GY,⟨Z,R,e1,e2,e3,e4,e5⟩,k2,k3,k4⟩:=jB h3 h5 res _ hK;refine⟨us,k4 w' (λ_ _=>rfl),?_⟩;obtain⟨g1,g2⟩:=h3.Ob Z R e2 e3;refine⟨_,_,_,r,dX,hR,rfl,h2.trans g2,g1,e1 F' μ' w' _ (λo b _ _ CF=>h3.obj o b CF) (vV k2 k3),λo ho b pT=>?_,λo ho=>?_⟩
 · show(gM R o).bind μ'=some b
   rw[e5 o ho];exact vp o (gI.2 ho) b pT
 · show(gM R o).bind μ'=none
   cases Ef:gM R o with
   |none=>rfl
   |some x=>have h6:o<m+64:=e4 _ (oG Ef);omega
def Iter(P:au)(f:bf)(fN:List PV)(xs:List (List PV)):Prop:=
 ∀(G:fK P),G.it=true->G.nm=false->G.xs=xs-> ∀(F:Nat->Prop) (w:aj) (vs:Array ah),KJ F w->vs.size=fN.length->(∀(i:Nat) p,fN[i]? =some p->RP F w (vs[i]?.getD undef) p)->
  G.J 0 F aN.no w->Calls P f (#[.func (.yield G.l) #[] #[]]++vs) w λe w'=>∃v F' μ',e= .returned v/\G.J (min (G.stop+1) xs.length) F' μ' w'
def mT(P:au)(f:bf)(fN:List PV)(xs:List (List PV))(wd:Nat->List PV->Prop)(Fin:Nat->Prop):Prop:=
 ∀(G:fK P),G.it=true->G.nm=false->G.xs=xs->G.wd=wd-> ∀(F:Nat->Prop) (w:aj) (vs:Array ah),KJ F w->vs.size=fN.length->(∀(i:Nat) p,fN[i]? =some p->RP F w (vs[i]?.getD undef) p)->
  G.J 0 F aN.no w->Calls P f (#[.func (.yield G.l) #[] #[]]++vs) w λe w'=>∃v F' μ' k,e= .returned v/\G.J k F' μ' w'/\(k=G.stop+1\/Fin k)
theorem Iter.g{P:au}{f:bf}{fN:List PV}{xs:List (List PV)}(h:Iter P f fN xs):mT P f fN xs (λ_ _=>False) (· =xs.length):=λG h1 h2 h3 _ F w vs h4 h5 h6 h7=>
 fI (h G h1 h2 h3 F w vs h4 h5 h6 h7) λe w' ⟨v,F',μ',k1,k2⟩=>⟨v,F',μ',_,k1,k2,by omega⟩
def Su(n:Nat)(s:St):Prop:=s.yk=n
theorem mT.of{fN:List PV}{wd:Nat->List PV->Prop}{Fin:Nat->Prop}(hm:P.follows .mixedOrders=true)(hf:P.funcs[f]? =some fn)(hb:fn.body=some c)
 (hN:fn.ntmps=N) (hr:fn.results.toList=[]) (bQ:q9 N c=true) (ha:fN.length+1<=N) (V:List Nat)
 (h:∀(G:fK P),G.it=true->G.wd=wd->aw ⟨N,G,[]⟩ V c ⟨dT 0 (.fn (.yield G.l) [] []::fN.map .p),[],0,0⟩ ⟨λs=>s.yk=G.stop+1\/Fin s.yk,λ_ _=>False,λs=>s.yk=G.stop+1\/Fin s.yk,λ_ _=>False⟩):mT P f fN [] wd Fin:=by
 intro G gh si jd Sv F w vs hF oS ie hj;refine mS (C:=⟨N,G,[]⟩) (as:= .fn (.yield G.l) [] []::fN.map .p) (μ:=aN.no) (F:=F) hm hf hb hN hr bQ (by simpa using ha) V (h G gh Sv) rfl (az.nil hF) (λ_ _=>rfl) hj (by simp[oS];omega) (λi p hp=>?_) (λ_ h=>h) (λ_ _ h=>h) ?_ (λ_ _ _ _ _ _ h=>h.elim)
 · cases i with
   |zero=>
    simp at hp;subst hp;(have:(#[Value.func (.yield G.l) #[] #[]]++vs)[0]?.getD undef= .func (.yield G.l) #[] #[]:=by rw[iY (Nat.zero_lt_one)];rfl);rw[this];exact .fn _ _ _ _ _ rfl rfl (by simp) (by simp)
   |succ i=>
    simp only[List.getElem?_cons_succ,aW,cm] at hp;obtain⟨q,hq,rfl⟩:=hp
    have:(#[Value.func (.yield G.l) #[] #[]]++vs)[i+1]? =vs[i]? :=by
     rw[Array.getElem?_append_right (by simp)];simp
    rw[this];exact .p (ie i q hq)
 · intro s F' μ' w' ts hK _ _ h3 _ _ IK
   exact⟨[],by simp,_,F',μ',s.yk,rfl,IK gh,hK⟩
theorem Iter.of{fN:List PV}{xs:List (List PV)}(hm:P.follows .mixedOrders=true)(hf:P.funcs[f]? =some fn)(hb:fn.body=some c)
 (hN:fn.ntmps=N) (hr:fn.results.toList=[]) (bQ:q9 N c=true) (ha:fN.length+1<=N) (V:List Nat)
 (h:∀(G:fK P),G.it=true->G.nm=false->G.xs=xs->aw ⟨N,G,[]⟩ V c ⟨dT 0 (.p (.fn (.yield G.l) [] [])::fN.map .p),[],0,0⟩ ⟨Su (min (G.stop+1) xs.length),λ_ _=>False,Su (min (G.stop+1) xs.length),λ_ _=>False⟩):Iter P f fN xs:=by
 intro G gh si jd F w vs hF oS ie hj;refine mS (C:=⟨N,G,[]⟩) (as:= .p (.fn (.yield G.l) [] [])::fN.map .p) (μ:=aN.no) (F:=F) hm hf hb hN hr bQ (by simpa using ha) V (h G gh si jd) rfl (az.nil hF) (λ_ _=>rfl) hj (by simp[oS];omega) (λi p hp=>?_) (λ_ h=>h) (λ_ _ h=>h) ?_ (λ_ _ _ _ _ _ h=>h.elim)
 · cases i with
   |zero=>
    simp at hp;subst hp;(have:(#[Value.func (.yield G.l) #[] #[]]++vs)[0]?.getD undef= .func (.yield G.l) #[] #[]:=by rw[iY (Nat.zero_lt_one)];rfl);rw[this];exact .p (.fn _ _ _ _ _ rfl rfl (by simp) (by simp))
   |succ i=>
    simp only[List.getElem?_cons_succ,aW,cm] at hp;obtain⟨q,hq,rfl⟩:=hp
    have:(#[Value.func (.yield G.l) #[] #[]]++vs)[i+1]? =vs[i]? :=by
     rw[Array.getElem?_append_right (by simp)];simp
    rw[this];exact .p (ie i q hq)
 · intro s F' μ' w' ts hK _ _ h3 _ _ IK
   refine⟨[],by simp,_,F',μ',rfl,?_⟩;have:s.yk=_:=hK;rw[<-this];exact IK gh
end
theorem fg{P:Prop}(h:P:=by first|((with_reducible show _=_);exact rfl)|((with_reducible show(_:Nat)<_);exact Nat.zero_lt_succ _)|((with_reducible show(_:Nat)<=_);exact Nat.le_of_ble_eq_true rfl)):P:=h
theorem fh{P:Prop}(h:P:=by first|exact WH.mk (by kernel_rfl)|exact Ir.mk (by kernel_rfl)|exact WI.mk (by kernel_rfl)):P:=h
theorem X3{P:Prop}(h:P:=by first|exact PV.le_refl _|exact Nat.zero_lt_succ _|exact Nat.le_of_ble_eq_true rfl|exact onesOf rfl|exact Or.inl rfl|exact noMem|exact Eg rfl|exact X5 rfl|exact okMap (λ_=>⟨rfl,Eg rfl⟩)|exact nonz):P:=h
theorem cl4{P:Prop}(h:P:=by first|exact aP.refl _|omega|((with_reducible first|show(_:Int)<=_|show(_:Int)<_|show(_:Nat)<=_|show(_:Nat)<_|show ¬ _|show(_:Int)=_|show(_:Nat)=_);(simp only[List.length_map,List.length_append,List.length_cons,List.length_nil,List.length_replicate,List.length_take,List.length_drop,List.length_set,Int.toNat_natCast,Int.reduceToNat]<;>omega))):P:=h
theorem fi{P:Prop}(h:P:=by first|exact cl4|exact of_decide_eq_true rfl):P:=h
theorem M1{P:Prop}(h:P:=by repeat' (first|exact Pr|refine M3 ?_ ?_|exact Ps|exact Pt|exact Vp|exact ZT|exact Sw|exact Sx)):P:=h
theorem M4{P:Prop}(h:P:=by intro i hi;simp only[List.length_cons,List.length_nil,Nat.zero_add,Nat.reduceAdd] at hi;simp only[ab.get];repeat' (first|rfl|(rw[if_neg (by omega)]))):P:=h
theorem T1{P:Prop}(h:P:=by intro i hi;simp only[List.length_cons,List.length_nil,Nat.zero_add,Nat.reduceAdd] at hi;simp[keys];omega):P:=h
theorem Pu{P:Prop}(h:P:=by first|exact cW.refl _|exact cW.dJ rfl|exact cW.bo rfl|exact cW.jb rfl|exact cW.cslr rfl|exact cW.mp rfl|exact cW.ch rfl|exact cW.cr rfl|exact cW.ptr rfl|exact cW.any _):P:=h
section
variable{σ:ab}{Z:Nat->Prop}{ρ:Nat->Option Nat}
theorem cW.pe{p q:PV}(h:p=q):cW σ Z ρ (.p p) (.p q):=by subst h;exact cW.refl _
theorem cW.bo{o o' sz i len:Nat}(h:ρ o'=some o):cW σ Z ρ (.bo o sz i len) (.bo o' sz i len):=λF μ w v hz hv=>by
 cases hv with
 |bo _ _ _ _ _ hv=>exact .bo _ _ _ _ _ (cW.dJ h F μ w v hz hv)
theorem cW.jb{o o' sz i len cap:Nat}(h:ρ o'=some o):cW σ Z ρ (.jb o sz i len cap) (.jb o' sz i len cap):=λF μ w v hz hv=>by
 cases hv with
 |jb _ _ _ _ _ _ hv=>exact .jb _ _ _ _ _ _ (cW.bo h F μ w _ hz hv)
theorem cW.cr{o o' sz i j:Nat}(h:ρ o'=some o):cW σ Z ρ (.cr o sz i j) (.cr o' sz i j):=λF μ w v hz hv=>by
 cases hv with
 |cr _ _ _ _ _ hv=>exact .cr _ _ _ _ _ (cW.ptr h F μ w v hz hv)
theorem dL.row(sz:Nat)(l:List PV):dL σ Z ρ (.row sz l) (.row sz l):=λF μ w b hz hr=>by
 obtain⟨bQ,cur,t,h1,h2,h3⟩:=hr
 exact⟨bQ,cur,t,h1,h2,λi c hc=>by
  have h4:=h3 i c hc
  have:∃q,c= .p q:=by
   have:=aO hc;simp only[bc,aY] at this;obtain⟨q,_,rfl⟩:=this;exact⟨q,rfl⟩
  obtain⟨q,rfl⟩:=this
  exact cW.refl q F μ w _ hz h4⟩
theorem dL.rb{sz e8:Nat}{l l':List PV}(h:sz=e8)(k:l=l'):dL σ Z ρ (.row sz l) (.row e8 l'):=by subst h;subst k;exact dL.row sz l
theorem dL.xI{kt x6:KT}{m m':List (PV×PV)}(h:kt=x6)(k:m=m'):dL σ Z ρ (.map kt m) (.map x6 m'):=by
 subst h;subst k;intro F μ w b hz hr;obtain⟨h0,es,clock,h1,h2,h3,h4⟩:=hr;exact⟨h0,es,clock,h1,h2,h3,λi k v hi=>let⟨e,q1,q2,q3⟩:=h4 i k v hi;⟨e,q1,q2.mono (λb hb=>.inl hb) (λ_ _=>rfl),q3.mono (λb hb=>.inl hb) (λ_ _=>rfl)⟩⟩
theorem dL.rf{m m':List (PV×PV)}{c c':Option (PV×PV)}(h:m=m')(k:c=c'):dL σ Z ρ (.iter m c) (.iter m' c'):=by
 subst h;subst k;intro F μ w b hz hr;exact oX.mono hr (λ_ h=>.inl h) (λ_ _=>rfl) rfl
theorem dL.pV{c c':Nat}{m m':List PV}(h:c=c')(k:m=m'):dL σ Z ρ (.chan c m) (.chan c' m'):=by
 subst h;subst k;intro F μ w b hz hr;obtain⟨bs,x,y,h1,h2,h3⟩:=hr;exact⟨bs,x,y,h1,h2,λi c hc=>(h3 i c hc).mono (λ_ h=>.inl h) (λ_ _=>rfl)⟩
def hM(q:List (PV×List PV)):List (PV×MV):=q.map λx=>(x.1,.h x.2)
theorem Vq{q:List (PV×List PV)}{i:Nat}{k:PV}{x:MV}(h:(hM q)[i]? =some (k,x)):∃l,x= .h l/\q[i]? =some (k,l):=by
 unfold hM at h;rw[aW] at h;obtain⟨⟨k',l⟩,h1,h2⟩:=cm.1 h;injection h2 with e1 e2;subst e1;subst e2;exact⟨l,rfl,h1⟩
theorem dL.pW{kt x6:KT}{sz e8:Nat}{m:List (PV×MV)}{q:List (PV×List PV)}(h:kt=x6)(h':sz=e8)(k:m=hM q):dL σ Z ρ (.cN kt sz m) (.cN x6 e8 (hM q)):=by
 subst h;subst h';subst k;intro F μ w b hz hr;obtain⟨h0,es,clock,h1,h2,h3,c,h4,h5⟩:=hr;refine⟨h0,es,clock,h1,h2,h3,c,λi k x hx=>?_,h5⟩;obtain⟨e,a,d,g⟩:=h4 i k x hx;obtain⟨l,rfl,_⟩:=Vq hx;exact⟨e,a,d.mono (λ_ h=>.inl h) (λ_ _=>rfl),g.1,g.2.mono (λ_ h=>.inl h) (λ_ _=>rfl) rfl⟩
theorem cW.zB{o o' sz i len e8 i' X6:Nat}(h:ρ o'=some o)(h1:sz=e8)(h2:i=i')(h3:len=X6):cW σ Z ρ (.bo o sz i len) (.bo o' e8 i' X6):=by subst h1;subst h2;subst h3;exact cW.bo h
theorem fe.mk{σ':ab}{o o':Nat}{x y:bJ}(h1:ρ o'=some o)(h2:¬ Z o)(h3:σ.get o=y)(h4:y≠ .dead)(h5:dL σ Z ρ y x)(h6:fe σ Z ρ σ'):fe σ Z ρ ((o',x)::σ'):=
 ⟨.inr ⟨o,h1,h2,by rw[h3];exact h4,by rw[h3];exact h5⟩,h6⟩
theorem fe.dd{σ':ab}{o':Nat}(h6:fe σ Z ρ σ'):fe σ Z ρ ((o',.dead)::σ'):=⟨.inl rfl,h6⟩
theorem cW.GZ{o sz i len:Nat}{l:List PV}{q:PV}(ho:Z o)(hc:σ.get o= .row sz l)(h0:0<sz)(hl:i+len<=l.length)(hq: .sl sz false ((l.drop i).take len)=q):cW σ Z ρ (.bo o sz i len) (.p q):=by
 subst hq;exact cW.frz (lL.bo ho hc h0 hl)
theorem Sw{c:Nat}{l:List PV}:bJ.chan c l≠ .dead:=λh=>bJ.noConfusion h
theorem Sx{k:KT}{c:Nat}{l:List (PV×MV)}:bJ.cN k c l≠ .dead:=λh=>bJ.noConfusion h
theorem Ps{s:Nat}{l:List PV}:bJ.row s l≠ .dead:=λh=>bJ.noConfusion h
theorem Pt{l:List AV}:bJ.cells l≠ .dead:=λh=>bJ.noConfusion h
theorem Vp{k:KT}{m:List (PV×PV)}:bJ.map k m≠ .dead:=λh=>bJ.noConfusion h
theorem Pr{Q:Nat->Prop}:∀o∈([]:List Nat),Q o:=λ_ h=>nomatch h
theorem M3{Q:Nat->Prop}{a:Nat}{l:List Nat}(h:Q a)(k:∀o∈l,Q o):∀o∈a::l,Q o:=λo ho=>by
 rcases cy.1 ho with e|e
 · rw[e];exact h
 · exact k o e
theorem aD{α:Type}{f:α->PV}{l:List α}{n:Nat}{K:PV->Prop}(h:∀x,l[n]? =some x->K (f x)):∀p,(l.map f)[n]? =some p->K p:=λp hp=>by
 rw[aW] at hp;obtain⟨x,hx,rfl⟩:=cm.1 hp;exact h x hx
theorem Eg{l:List PV}(h:l.all PV.one=true):∀c∈l,c.one=true:=λc hc=>cG.1 h c hc
theorem X5{sz:Nat}{l:List PV}(h:l.all (λp=>Nat.beq p.cells.length sz&&p.cells.all PV.one)=true):∀v∈l,xY sz v:=λv hv=>by
 have:=cG.1 h v hv;simp only[aQ] at this;exact⟨Nat.eq_of_beq_eq_true this.1,Eg this.2⟩
theorem bS{n:Nat}{A:Prop}(h:0<n->A):0<n->A:=h
end
mutual
def kV(R:Nat->Bool):AV->Bool
 |.any=>true
 |.p _=>true
 |.ptr o _=>R o
 |.dJ o _ _ _=>R o
 |.bo o _ _ _=>R o
 |.jb o _ _ _ _=>R o
 |.cr o _ _ _=>R o
 |.mp o=>R o
 |.ch o=>R o
 |.agg l=>kL R l
 |.bR l=>kL R l
 |.fn _ a b=>(match kL R a with|true=>kL R b|false=>false)
def kL(R:Nat->Bool):List AV->Bool
 |[]=>true
 |a::l=>(match kV R a with|true=>kL R l|false=>false)
end
section
variable{σ:ab}{Z:Nat->Prop}{ρ:Nat->Option Nat}{R:Nat->Bool}
mutual
theorem T2(hR:∀o,R o=true->ρ o=some o):∀v,kV R v=true->cW σ Z ρ v v
 |.any,_=>cW.any _
 |.p q,_=>cW.refl q
 |.ptr o off,h=>cW.ptr (hR o h)
 |.dJ o _ _ _,h=>cW.dJ (hR o h)
 |.bo o _ _ _,h=>cW.bo (hR o h)
 |.jb o _ _ _ _,h=>cW.jb (hR o h)
 |.cr o _ _ _,h=>cW.cr (hR o h)
 |.mp o,h=>cW.mp (hR o h)
 |.ch o,h=>cW.ch (hR o h)
 |.agg l,h=>cW.agg (zC hR l h)
 |.bR l,h=>cW.bR (zC hR l h)
 |.fn f a b,h=>by
  simp only[kV] at h;split at h
  · rename_i ha;exact cW.fn (zC hR a ha) (zC hR b h)
  · cases h
theorem zC(hR:∀o,R o=true->ρ o=some o):∀l,kL R l=true->iv σ Z ρ l l
 |[],_=>.nil
 |a::l,h=>by
  simp only[kL] at h;split at h
  · rename_i ha;exact .cons (T2 hR a ha) (zC hR l h)
  · cases h
end
end
def po:bJ->Bool
 |.dead=>false
 |_=>true
theorem M5{x:bJ}(h:po x=true):x≠ .dead:=λe=>by subst e;cases h
def G0:Nat->List Nat->Bool
 |_,[]=>false
 |o,x::l=>(match Nat.beq o x with|true=>true|false=>G0 o l)
theorem G1{o:Nat}:∀{l:List Nat},G0 o l=true->o∈l
 |x::l,h=>by
  simp only[G0] at h;split at h
  · rename_i e;rw[Nat.eq_of_beq_eq_true e];simp
  · simp[G1 h]
theorem G3{o:Nat}:∀{l:List Nat},G0 o l=false->o∉l
 |[],_=>by simp
 |x::l,h=>by
  simp only[G0] at h;split at h
  · cases h
  · rename_i e;simp only[cy,not_or];exact⟨λhx=>by subst hx;simp at e,G3 h⟩
def G4:List Nat->List Nat->Bool
 |[],_=>true
 |x::l,Z=>(match G0 x Z with|true=>G4 l Z|false=>false)
theorem uK{Z:List Nat}:∀{l:List Nat},G4 l Z=true-> ∀o∈l,o∈Z
 |x::l,h,o,ho=>by
  simp only[G4] at h;split at h
  · rename_i e
    rcases cy.1 ho with ho|ho
    · subst ho;exact G1 e
    · exact uK h o ho
  · cases h
def nL(σ:ab)(Z:List Nat)(o:Nat):Bool:=match G0 o Z with|true=>false|false=>po (σ.get o)
theorem zD{σ:ab}{Z:List Nat}{o:Nat}(h:nL σ Z o=true):o∉Z/\σ.get o≠ .dead:=by
 unfold nL at h;split at h
 · cases h
 · rename_i e;exact⟨G3 e,M5 h⟩
def X7(σ:ab):AV->Bool
 |.ptr o _=> !po (σ.get o)
 |.dJ o _ _ _=> !po (σ.get o)
 |.bo o _ _ _=> !po (σ.get o)
 |.jb o _ _ _ _=> !po (σ.get o)
 |.cr o _ _ _=> !po (σ.get o)
 |.mp o=> !po (σ.get o)
 |.ch o=> !po (σ.get o)
 |_=>false
def ZU(σ:ab)(Z:List Nat)(v:AV)(K:AV->Prop):Prop:=
 match kV (nL σ Z) v with
 |true=>K v
 |false=>(match X7 σ v with
  |true=>K .any
  |false=>mv σ 60 v [] λp Z'=>G4 Z' Z=true/\K (.p p))
def Sy(σ:ab)(Z:List Nat):List AV->(List AV->Prop)->Prop
 |[],K=>K []
 |v::l,K=>ZU σ Z v λv=>K6 v λv=>Sy σ Z l λl=>K (v::l)
def zE(σ:ab)(Z:List Nat):List Nat->Env->(Env->Prop)->Prop
 |[],_,K=>K []
 |t::V,env,K=>K6 (env.get t) λv=>ZU σ Z v λv=>(match v with|.any=>zE σ Z V env K|v=>zE σ Z V env λe=>K ((t,v)::e))
def vW(σ:ab)(Z:List Nat):ab->List Nat->(ab->Prop)->Prop
 |[],_,K=>K []
 |(o,_)::r,S,K=>(match G0 o S with
  |true=>vW σ Z r S K
  |false=>(match nL σ Z o with
   |false=>vW σ Z r (o::S) K
   |true=>(match σ.get o with
    |.cells cs=>Sy σ Z cs λsP=>vW σ Z r (o::S) λh=>K ((o,.cells sP)::h)
    |.row sz l=>vW σ Z r (o::S) λh=>K ((o,.row sz l)::h)
    |.map kt m=>vW σ Z r (o::S) λh=>K ((o,.map kt m)::h)
    |.chan c m=>vW σ Z r (o::S) λh=>K ((o,.chan c m)::h)
    |.cN kt sz m=>(∃q,m=hM q)/\vW σ Z r (o::S) λh=>K ((o,.cN kt sz m)::h)
    |_=>vW σ Z r (o::S) K)))
def T3(env:Env)(σ:ab):List (Nat×Bool)->List Nat->(List Nat->Prop)->Prop
 |[],Z,K=>K Z
 |(t,false)::T,Z,K=>mv σ 60 (env.get t) Z λ_ Z=>T3 env σ T Z K
 |(t,true)::T,Z,K=>(match env.get t with
  |.ptr o _=>(match σ.get o with
   |.cells cs=>x4 σ 60 cs Z λ_ Z=>T3 env σ T Z K
   |_=>False)
  |_=>False)
section
variable{σ:ab}{env:Env}{Z:List Nat}
def VK(σ:ab)(Z:List Nat)(a a':AV):Prop:=∀ρ:Nat->Option Nat,(∀o,nL σ Z o=true->ρ o=some o)->cW σ (· ∈Z) ρ a a'
theorem G5{v:AV}{K:AV->Prop}(h:ZU σ Z v K):∃v',K v'/\VK σ Z v v':=by
 unfold ZU at h;split at h
 · rename_i e;exact⟨v,h,λρ vX=>T2 vX v e⟩
 · split at h
   · exact⟨_,h,λρ _=>cW.any _⟩
   · obtain⟨p,Z',⟨h1,h2⟩,_,_,h3⟩:=(jW 60).1 v [] _ (by simp[kA]) h
     exact⟨_,h2,λρ _=>cW.frz (h3.F6 (uK h1))⟩
theorem CR:∀{l:List AV} {K:List AV->Prop},Sy σ Z l K->∃l',K l'/\ ∀ρ:Nat->Option Nat,(∀o,nL σ Z o=true->ρ o=some o)->iv σ (· ∈Z) ρ l l'
 |[],K,h=>⟨[],h,λ_ _=>.nil⟩
 |v::l,K,h=>by
  simp only[Sy,mR] at h;obtain⟨v',h1,h2⟩:=G5 h;obtain⟨l',h3,h4⟩:=CR h1;exact⟨_,h3,λρ vX=>.cons (h2 ρ vX) (h4 ρ vX)⟩
theorem tG:∀{V:List Nat} {K:Env->Prop},zE σ Z V env K->∃bO,K bO/\ ∀ρ:Nat->Option Nat,(∀o,nL σ Z o=true->ρ o=some o)->uJ σ (· ∈Z) ρ env bO
 |[],K,h=>⟨[],h,λ_ _=>trivial⟩
 |t::V,K,h=>by
  simp only[zE,mR] at h;obtain⟨v',h1,h2⟩:=G5 h;split at h1
  · exact tG h1
  · obtain⟨e,h3,h4⟩:=tG h1
    exact⟨_,h3,λρ vX=>⟨h2 ρ vX,h4 ρ vX⟩⟩
theorem iI:∀{h:ab} {S:List Nat} {K:ab->Prop},vW σ Z h S K->∃h',K h'/\ ∀ρ:Nat->Option Nat,(∀o,nL σ Z o=true->ρ o=some o)->fe σ (· ∈Z) ρ h'
 |[],S,K,h=>⟨[],h,λ_ _=>trivial⟩
 |(o,x)::r,S,K,h=>by
  simp only[vW] at h;split at h
  · exact iI h
  · split at h
    · exact iI h
    · rename_i hk
      obtain⟨k1,k2⟩:=zD hk;split at h
      · rename_i cs hc
        obtain⟨sP,h1,h2⟩:=CR h;obtain⟨h',h3,h4⟩:=iI h1;exact⟨_,h3,λρ vX=>fe.mk (vX o hk) k1 hc (by simp) (h2 ρ vX) (h4 ρ vX)⟩
      · rename_i sz l hc
        obtain⟨h',h3,h4⟩:=iI h;exact⟨_,h3,λρ vX=>fe.mk (vX o hk) k1 hc (by simp) (dL.row sz l) (h4 ρ vX)⟩
      · rename_i kt m hc
        obtain⟨h',h3,h4⟩:=iI h;exact⟨_,h3,λρ vX=>fe.mk (vX o hk) k1 hc (by simp) (dL.xI rfl rfl) (h4 ρ vX)⟩
      · rename_i cp m hc
        obtain⟨h',h3,h4⟩:=iI h;exact⟨_,h3,λρ vX=>fe.mk (vX o hk) k1 hc (by simp) (dL.pV rfl rfl) (h4 ρ vX)⟩
      · rename_i kt sz m hc
        obtain⟨⟨q,hq⟩,h⟩:=h;obtain⟨h',h3,h4⟩:=iI h;subst hq;exact⟨_,h3,λρ vX=>fe.mk (vX o hk) k1 hc (by simp) (dL.pW rfl rfl rfl) (h4 ρ vX)⟩
      · exact iI h
theorem zF:∀{T:List (Nat×Bool)} {Z:List Nat} {K:List Nat->Prop},kA σ Z->T3 env σ T Z K->∃Z',K Z'
 |[],Z,K,_,h=>⟨Z,h⟩
 |(t,false)::T,Z,K,hZ,h=>by
  simp only[T3] at h;obtain⟨p,Z',h1,_,h2,_⟩:=(jW 60).1 _ _ _ hZ h;exact zF h2 h1
 |(t,true)::T,Z,K,hZ,h=>by
  simp only[T3] at h;split at h
  · split at h
    · obtain⟨p,Z',h1,_,h2,_⟩:=(jW 60).2 _ _ _ hZ h
      exact zF h2 h1
    · exact h.elim
  · exact h.elim
theorem CS{o:Nat}:∀(L:List Nat),o∈L->gM (L.map λo=>(o,o)) o=some o
 |x::l,h=>by
  by_cases e:x=o
  · subst e;simp[gM]
  · have:=CS l (by simpa[Ne.symm e] using h)
    simp only[gM,bE] at this ⊢;rw[List.find?_cons_of_neg (by simpa using e)];exact this
theorem di.fz{P:au}{C:Cx P}{V:List Nat}{hp:ab}{nx yk:Nat}{Q:St->Prop}(T:List (Nat×Bool))
 (h:T3 env hp T [] λZ=>zE hp Z V env λbO=>vW hp Z hp [] λgj=>C.kp.all (nL hp Z)=true/\Q ⟨bO,gj,nx,yk⟩):∃s',di C ⟨env,hp,nx,yk⟩ s'/\Q s':=by
 obtain⟨Z,h⟩:=zF (by simp[kA]) h;obtain⟨bO,h,h1⟩:=tG h;obtain⟨gj,⟨vp,h⟩,h2⟩:=iI h;refine⟨_,λd0 F μ a w hs=>?_,h⟩
 have vX:∀o,nL hp Z o=true->gM (((cJ nx).filter (nL hp Z)).map λo=>(o,o)) o=some o:=λo ho=>by
  refine CS _ (dN.2 ⟨gI.2 ?_,ho⟩);obtain⟨b,hb⟩:=hs.h.block rfl (zD ho).2;refine Nat.lt_of_not_le λhle=>?_;have:=hs.fresh o hle;rw[this] at hb;cases hb
 refine di.of (s:=⟨env,hp,nx,yk⟩) (s':=⟨bO,gj,nx,yk⟩) Z _ (h1 _ vX) (h2 _ vX) ?_ ?_ ?_ rfl d0 F μ a w hs
 · simp only[il]
   have:((λo:Nat×Nat=>o.2)∘λo=>(o,o))=id:=rfl;show(((cJ nx).filter (nL hp Z)).map (j7∘λo=>(o,o))).Nodup;rw[show(j7∘λo:Nat=>(o,o))=id from rfl,List.map_id];exact List.Nodup.sublist List.filter_sublist List.nodup_range
 · intro x hx
   obtain⟨o,ho,rfl⟩:=aY.1 hx;exact gI.1 (dN.1 ho).1
 · intro o ho
   exact vX o (cG.1 vp o ho)
theorem Sq.fz{P:au}{C:Cx P}{V:List Nat}{id:Nat}{hp:ab}{nx yk:Nat}{Q:St->Prop}(T:List (Nat×Bool))
 (h:T3 env hp T [] λZ=>zE hp Z V env λbO=>vW hp Z hp [] λgj=>C.kp.all (nL hp Z)=true/\Q ⟨bO,gj,nx,yk⟩):Sq C V id Q ⟨env,hp,nx,yk⟩:=
 ⟨di.fz T h⟩
end
def dz:AV->List Nat
 |.any=>[]
 |.p _=>[]
 |.ptr o _=>[o]
 |.dJ o _ _ _=>[o]
 |.bo o _ _ _=>[o]
 |.jb o _ _ _ _=>[o]
 |.cr o _ _ _=>[o]
 |.mp o=>[o]
 |.ch o=>[o]
 |.agg l=>zG l
 |.bR l=>zG l
 |.fn _ a b=>zG a++zG b
where zG:List AV->List Nat
 |[]=>[]
 |a::l=>dz a++zG l
theorem iJ{o:Nat}:∀{l:List AV} {a:AV},a∈l->o∈dz a->o∈dz.zG l
 |_::_,_,h,ho=>by
  rw[dz.zG];rcases cy.1 h with h|h
  · subst h;exact cL.2 (.inl ho)
  · exact cL.2 (.inr (iJ h ho))
theorem RV.Fz{F F':Nat->Prop}{μ μ':aN}{w w':aj}(hF:∀b,F b->F' b)(hw:∀b,F b->w'.heap[b]? =w.heap[b]?)(pQ:∀b x,w.shape? b=some x->w'.shape? b=some x){v:ah}{x:AV}(h:RV F μ w v x):(∀o∈dz x,∀b,μ o=some b->μ' o=some b)->RV F' μ' w' v x:=by
 induction h with
 |any v=>intro _;exact .any v
 |p h=>intro _;exact .p (h.mono hF hw)
 |agg cs l h1 _ ih=>intro hn;exact .agg cs l h1 λi p hp=>ih i p hp λo ho=>hn o (by rw[dz];exact iJ (aO hp) ho)
 |bR cs l h1 _ ih=>intro hn;exact .bR cs l h1 λi p hp=>ih i p hp λo ho=>hn o (by rw[dz];exact iJ (aO hp) ho)
 |fn f as bs ls ms h1 h2 _ _ ih1 Vs=>
  intro hn
  exact .fn f as bs ls ms h1 h2 (λi p hp=>ih1 i p hp λo ho=>hn o (by rw[dz];exact cL.2 (.inl (iJ (aO hp) ho))))
   (λi p hp=>Vs i p hp λo ho=>hn o (by rw[dz];exact cL.2 (.inr (iJ (aO hp) ho))))
 |ptr o off b hb=>intro hn;exact .ptr o off b (hn o (by simp[dz]) b hb)
 |dJ o sz off bL len cap b t n hm h0 h1 h2 h3 h4=>intro hn;exact .dJ o sz off bL len cap b t n (hn o (by simp[dz]) b hm) h0 (pQ _ _ h1) h2 h3 h4
 |bo o sz i len v h ih=>intro hn;exact .bo _ _ _ _ _ (ih λx hx=>hn x (by simpa[dz] using hx))
 |jb o sz i len cap base h ih=>intro hn;exact .jb _ _ _ _ _ _ (ih λx hx=>hn x (by simpa[dz] using hx))
 |cr o sz i j v h ih=>intro hn;exact .cr _ _ _ _ _ (ih λx hx=>hn x (by simpa[dz] using hx))
 |mp o b hb=>intro hn;exact .mp o b (hn o (by simp[dz]) b hb)
 |ch o b hb=>intro hn;exact .ch o b (hn o (by simp[dz]) b hb)
structure RC(nk:List Nat)(d0:D0)(F0:Nat->Prop)(μ0:aN)(w0:aj)(tmps:Array ah)(env:Env)(ms:List Nat)(l:Nat)(F:Nat->Prop)(μ:aN)(hp:ab)(nx:Nat)(W:aj):Prop where
 h:az F μ hp W
 fresh:∀o,nx<=o->μ o=none
 env:∀t,RV F μ W (tmps[t]?.getD undef) (env.get t)
 nI:∀r∈ms,W.heap[r]? =some (.deferred (some []))/\ ¬ F r/\ ¬ μ.has r/\d0.b0<=r
 rd:Rd F μ W d0
 base:dO F0 μ0 w0 F μ W
 kp:Kp nk μ0 μ
 rl:¬ F l/\ ¬ μ.has l/\w0.heap.size<=l
 M6:∀l0,d0.ro=some l0->l0<w0.heap.size
section
variable{P:au}{nk:List Nat}{d0:D0}{F0:Nat->Prop}{μ0:aN}{w0:aj}{tmps:Array ah}{env:Env}{ms:List Nat}{l:Nat}{F:Nat->Prop}{μ:aN}{hp:ab}{nx:Nat}{W W':aj}
theorem RC.world(h:RC nk d0 F0 μ0 w0 tmps env ms l F μ hp nx W){Pb:Nat->Prop}(CT:W'.os=W.os)(htp:W'.tape=W.tape)(U2:W'.output=W.output)(hz:W.heap.size<=W'.heap.size)
 (hs:∀b,b<W.heap.size-> ¬ Pb b->W'.heap[b]? =W.heap[b]?) (hP:∀b,Pb b-> ¬ F b/\ ¬ μ.has b/\b∉ms/\w0.heap.size<=b):RC nk d0 F0 μ0 w0 tmps env ms l F μ hp nx W':=by
 have cj:∀b,F b\/μ.has b->W'.heap[b]? =W.heap[b]? :=λb hb=>hs b (hb.elim (h.h.fb b) (h.h.mb b)) λgj=>by
  obtain⟨h1,h2,_⟩:=hP b gj;exact hb.elim h1 h2
 have iS:∀b,b<w0.heap.size->W'.heap[b]? =W.heap[b]? :=λb hb=>hs b (fl hb h.base.size) λgj=>by
  have:=(hP b gj).2.2.2;omega
 refine⟨h.h.same hz cj,h.fresh,λt=>(h.env t).same cj,λr hr=>?_,λl0 gy=>?_,?_,h.kp,h.rl,h.M6⟩
 · obtain⟨h1,h2,h3,h4⟩:=h.nI r hr
   exact⟨(hs r (bB h1) λgj=>(hP r gj).2.2.1 hr).trans h1,h2,h3,h4⟩
 · obtain⟨r,h1,h2⟩:=h.rd l0 gy
   exact⟨r,(iS l0 (h.M6 l0 gy)).trans h1,h2⟩
 · have hb:=h.base
   exact⟨CT.trans hb.os,htp.trans hb.tape,U2.trans hb.output,dW hb.size hz,λb hf=>(cj b (.inl (hb.sub b hf))).trans (hb.fr b hf),λb aC hn=>(iS b aC).trans (hb.old b aC hn),
    λb x hx=>by
     have aC:b<w0.heap.size:=by
      unfold cC at hx;split at hx
      · rename_i hg;exact bB hg
      · cases hx
     exact(ir (iS b aC)).trans (hb.shape b x hx),
    hb.sub,hb.jG,hb.fV⟩
theorem RC.step(h:RC nk d0 F0 μ0 w0 tmps env ms l F μ hp nx W)(vq:∀t,∀o∈dz (env.get t),o∈nk){F':Nat->Prop}{μ':aN}{gj:ab}{xH:Nat}(hl:l<W.heap.size)(b:dO F μ W F' μ' W')(k:Kp nk μ μ')(hh:az F' μ' gj W')(hf:∀o,xH<=o->μ' o=none):
 RC nk d0 F0 μ0 w0 tmps env ms l F' μ' gj xH W':=by
 refine⟨hh,hf,λt=>(h.env t).Fz b.sub b.fr b.shape λo ho b' pT=>k o (vq t o ho) b' pT,λr hr=>?_,h.rd.base b,h.base.trans b,h.kp.trans k,⟨λhx=>?_,λhx=>?_,h.rl.2.2⟩,h.M6⟩
 · obtain⟨h1,h2,h3,h4⟩:=h.nI r hr
   have aC:=bB h1;refine⟨(b.old r aC h3).trans h1,λhx=>?_,λhx=>?_,h4⟩
   · rcases b.jG r hx with h|h|h
     · exact h2 h
     · exact h3 h
     · omega
   · rcases b.fV r hx with h|h
     · exact h3 h
     · omega
 · rcases b.jG l hx with h'|h'|h'
   · exact h.rl.1 h'
   · exact h.rl.2.1 h'
   · omega
 · rcases b.fV l hx with h'|h'
   · exact h.rl.2.1 h'
   · omega
structure Sp(F0 F:Nat->Prop)(μ:aN)(w0:aj)(ms:List Nat)(l:Nat)(Fg:Nat->Prop)(μg:aN):Prop where
 s1:∀b,μg.has b-> ¬ Fg b-> ¬ F b/\ ¬ μ.has b/\b≠l/\b∉ms/\w0.heap.size<=b
 s2:∀b,Fg b->b≠l/\b∉ms/\(F b\/ ¬ μ.has b)/\(F0 b\/w0.heap.size<=b)
theorem RV.grow{F F':Nat->Prop}{μ:aN}{w:aj}{v:ah}{x:AV}(h:RV F μ w v x)(hF:∀b,F b->F' b):RV F' μ w v x:=h.Fz hF (λ_ _=>rfl) (λ_ _ h=>h) (λ_ _ _ h=>h)
theorem RO.grow{F F':Nat->Prop}{μ:aN}{w:aj}{b:Nat}(hF:∀b,F b->F' b):∀{x:bJ},RO F μ w b x->RO F' μ w b x
 |.dead,h=>h
 |.cells _,⟨cur,t,h1,h2,h3⟩=>⟨cur,t,h1,h2,λi c hc=>(h3 i c hc).grow hF⟩
 |.row _ _,⟨h0,cur,t,h1,h2,h3⟩=>⟨h0,cur,t,h1,h2,λi c hc=>(h3 i c hc).grow hF⟩
 |.map _ _,⟨h0,es,clock,h1,h2,h3,h4⟩=>⟨h0,es,clock,h1,h2,h3,λi k v hkv=>let⟨e,g1,g2,g3⟩:=h4 i k v hkv;⟨e,g1,g2.mono hF (λ_ _=>rfl),g3.mono hF (λ_ _=>rfl)⟩⟩
 |.chan _ _,⟨bs,xA,recvd,h1,h2,h3⟩=>⟨bs,xA,recvd,h1,h2,λi c hc=>(h3 i c hc).mono hF (λ_ _=>rfl)⟩
 |.iter _ _,h=>oX.mono h hF (λ_ _=>rfl) rfl
 |.cN _ _ _,⟨h0,es,clock,h1,h2,h3,c,h4,h5⟩=>⟨h0,es,clock,h1,h2,h3,c,λi k x hx=>by
   obtain⟨e,a,d,g⟩:=h4 i k x hx;refine⟨e,a,d.mono hF (λ_ _=>rfl),?_⟩
   cases x with
   |h l=>exact⟨g.1,g.2.mono hF (λ_ _=>rfl) rfl⟩
   |v av=>exact RV.grow g hF,h5⟩
theorem RC.grow{F0:Nat->Prop}{Fg:Nat->Prop}{μg:aN}(h:RC nk d0 F0 μ0 w0 tmps env ms l F μ hp nx W)(s:Sp F0 F μ w0 ms l Fg μg)(Fx:∀b,Fg b->b<W.heap.size):RC nk d0 F0 μ0 w0 tmps env ms l (λb=>F b\/Fg b) μ hp nx W/\Sp F0 (λb=>F b\/Fg b) μ w0 ms l Fg μg:=by
 refine⟨⟨⟨h.h.fb.step (λ_=>.inl) (λ_ _=>rfl) λb hb=>hb.elim (h.h.fb b) (Fx b),h.h.mb,h.h.has,λo b hb=>(h.h.obj o b hb).grow λ_=>.inl,λo b ho hb hF=>?_,h.h.inj,λc x hc=>⟨λhF=>hF.elim (h.h.hd c x hc).1 λhF=>(s.s2 c hF).2.2.1.elim (h.h.hd c x hc).1 λh1=>h1 (.inr ⟨x,hc⟩),(h.h.hd c x hc).2⟩,h.h.hu⟩,h.fresh,λt=>(h.env t).grow λ_=>.inl,λr hr=>?_,λl0 gy=>?_,?_,h.kp,⟨λhx=>?_,h.rl.2⟩,h.M6⟩,⟨λb hb hn=>?_,λb hb=>?_⟩⟩
 · rcases hF with hF|hF
   · exact h.h.live o b ho hb hF
   · rcases(s.s2 b hF).2.2.1 with h1|h1
     · exact h.h.live o b ho hb h1
     · exact h1 (.inl ⟨o,hb⟩)
 · obtain⟨h1,h2,h3⟩:=h.nI r hr
   exact⟨h1,λhx=>hx.elim h2 λhx=>(s.s2 r hx).2.1 hr,h3⟩
 · obtain⟨r,h1,h2,h3⟩:=h.rd l0 gy
   refine⟨r,h1,λhx=>hx.elim h2 λhx=>?_,h3⟩;rcases(s.s2 l0 hx).2.2.2 with h4|h4
   · exact h2 (h.base.sub l0 h4)
   · have:=h.M6 l0 gy;omega
 · have b:=h.base
   refine⟨b.os,b.tape,b.output,b.size,b.fr,b.old,b.shape,λb' hb=>.inl (b.sub b' hb),λb' hb=>?_,b.fV⟩;rcases hb with hb|hb
   · exact b.jG b' hb
   · rcases(s.s2 b' hb).2.2.2 with h4|h4
     · exact .inl h4
     · exact .inr (.inr h4)
 · exact hx.elim h.rl.1 λhx=>(s.s2 l hx).1 rfl
 · obtain⟨h1,h2⟩:=s.s1 b hb hn
   exact⟨λhx=>hx.elim h1 hn,h2⟩
 · obtain⟨h1,h2,_,h3⟩:=s.s2 b hb
   exact⟨h1,h2,.inl (.inr hb),h3⟩
end
def rh:List (Nat×PV)->Env->Env
 |[],env=>env
 |(t,p)::r,env=>rh r ((t,.p p)::env)
theorem Eh{F:Nat->Prop}{μ:aN}{w:aj}:∀(xs:List (Nat×ah)) (ps:List (Nat×PV)) (tmps:Array ah) (env:Env),xs.length=ps.length->(∀(i:Nat) x p,xs[i]? =some x->ps[i]? =some p->x.1=p.1/\x.1<tmps.size/\RP F w x.2 p.2)->
 (∀t,RV F μ w (tmps[t]?.getD undef) (env.get t))->(xs.foldl (λtmps x=>tmps.setIfInBounds x.1 x.2) tmps).size=tmps.size/\ ∀t,RV F μ w ((xs.foldl (λtmps x=>tmps.setIfInBounds x.1 x.2) tmps)[t]?.getD undef) ((rh ps env).get t)
 |[],[],tmps,env,_,_,h=>⟨rfl,h⟩
 |(t,v)::xs,(t',p)::ps,tmps,env,hl,hx,h=>by
  obtain⟨e,aC,hr⟩:=hx 0 _ _ rfl rfl;simp only at e aC hr;subst e
  have:=Eh (F:=F) (μ:=μ) (w:=w) xs ps (tmps.setIfInBounds t v) ((t,.p p)::env) (by simpa using hl) (λi x p hi hp=>by
   have:=hx (i+1) x p (by simpa using hi) (by simpa using hp)
   simpa using this) (λu=>by
   simp only[Env.get];by_cases e:t=u
   · subst e;simp[aC];exact .p hr
   · rw[if_neg e,Array.getElem?_setIfInBounds,if_neg e];exact h u)
  simpa[rh] using this
 |[],_::_,_,_,hl,_,_=>by simp at hl
 |_::_,[],_,_,hl,_,_=>by simp at hl
section
variable{P:au}{N:Nat}{kp nk:List Nat}{d0:D0}{F0:Nat->Prop}{μ0:aN}{w0:aj}{tmps:Array ah}{env:Env}{yk:Nat}{ms:List Nat}{l:Nat}{K:Kt}{m:Nat}{I:Nat->ab->Nat->Prop}{rec:LoopState->Option Code->Loop}
def Ei(K:Kt)(env:Env)(yk:Nat)(c:Code)(hp:ab)(nx:Nat):Prop:=(∃j,c= .exit j/\K.e j ⟨env,hp,nx,yk⟩)\/(c= .ret/\K.r ⟨env,hp,nx,yk⟩)
def JJ(nk:List Nat)(d0:D0)(F0:Nat->Prop)(μ0:aN)(w0:aj)(tmps:Array ah)(env:Env)(yk:Nat)(ms:List Nat)(l:Nat)(K:Kt)(m:Nat)(I:Nat->ab->Nat->Prop)(rec:LoopState->Option Code->Loop)(k:Nat)(Fg:Nat->Prop)(μg:aN)(W:aj):Prop:=
 ∃F μ hp nx st pe,RC nk d0 F0 μ0 w0 tmps env ms l F μ hp nx W/\Sp F0 F μ w0 ms l Fg μg/\W.heap[l]? =some (.loop (rec st pe))/\
  ((k<=m/\st= .ready/\pe=none/\I k hp nx)\/(k=m+1/\st= .done/\ ∃c,pe=some c/\Ei K env yk c hp nx))
theorem JJ.cl{k:Nat}{Fg T4:Nat->Prop}{μg Jk:aN}{W W':aj}(h:JJ nk d0 F0 μ0 w0 tmps env yk ms l K m I rec k Fg μg W)(b:dO Fg μg W T4 Jk W'):JJ nk d0 F0 μ0 w0 tmps env yk ms l K m I rec k T4 Jk W':=by
 obtain⟨F,μ,hp,nx,st,pe,hr,hs,hl,hx⟩:=h;have aC:=bB hl
 have cj:∀b',b'<W.heap.size-> ¬(μg.has b'/\ ¬ Fg b')->W'.heap[b']? =W.heap[b']? :=λb' h1 h2=>by
  by_cases hf:Fg b'
  · exact b.fr b' hf
  · exact b.old b' h1 λh3=>h2 ⟨h3,hf⟩
 refine⟨F,μ,hp,nx,st,pe,hr.world (Pb:=λb=>μg.has b/\ ¬ Fg b) b.os b.tape b.output b.size cj (λb' h1=>?_),⟨λb' hb hn=>?_,λb' hb=>?_⟩,(cj l aC λh1=>(hs.s1 l h1.1 h1.2).2.2.1 rfl).trans hl,hx⟩
 · obtain⟨h2,h3,_,h4,h5⟩:=hs.s1 b' h1.1 h1.2;exact⟨h2,h3,h4,h5⟩
 · rcases b.fV b' hb with h1|h1
   · exact hs.s1 b' h1 λh2=>hn (b.sub b' h2)
   · exact⟨λh2=>by have:=hr.h.fb b' h2;omega,λh2=>by have:=hr.h.mb b' h2;omega,by omega,λh2=>by have:=bB (hr.nI b' h2).1;omega,dW hr.base.size h1⟩
 · rcases b.jG b' hb with h1|h1|h1
   · exact hs.s2 b' h1
   · by_cases hf:Fg b'
     · exact hs.s2 b' hf
     · obtain⟨h2,h3,h4,h5,h6⟩:=hs.s1 b' h1 hf;exact⟨h4,h5,.inr h3,.inr h6⟩
   · exact⟨by omega,λh2=>by have:=bB (hr.nI b' h2).1;omega,.inr λh2=>by have:=hr.h.mb b' h2;omega,.inr (dW hr.base.size h1)⟩
def WL(K:Kt)(env:Env)(yk m k:Nat)(NX:St->Prop):Kt where
 n:=NX
 e:=λj s'=>k=m/\K.e j ⟨env,s'.hp,s'.nx,yk⟩
 r:=λs'=>k=m/\K.r ⟨env,s'.hp,s'.nx,yk⟩
 p:=λ_ _=>False
def ZV(C':Cx P)(m k:Nat)(I:Nat->ab×Nat)(s':St):Prop:=k<m/\di C' s' ⟨[],(I (k+1)).1,(I (k+1)).2,s'.yk⟩
theorem JJ.R8(hm:P.follows .mixedOrders=true){ps:Array Tmp}{assign body:Code}{fn:bf}{df:Nat}{I:Nat->ab->Nat->Prop}{Y:Nat->List PV->Prop}{NX:Nat->St->Prop}{x:List PV}(vq:∀t,∀o∈dz (env.get t),o∈nk)
 (ri:rec=λst pe=>{ state:=st,pending:=pe,fn:=fn,tmps:=tmps,params:=ps,assign:=assign,body:=body,defers:=df }) (hN:tmps.size=N) (G6:∀t∈ps.toList,t<N)
 (bQ:q9 N assign=true/\q9 N body=true) (V:List Nat)
 (fL:∀k x hp nx,Y k x->k<=m->I k hp nx->x.length=ps.size/\aw ⟨N,fK.no P,nk⟩ V assign ⟨rh (ps.toList.zip x) env,hp,nx,yk⟩
   ⟨λs'=>aw ⟨N,fK.no P,nk⟩ V body s' (WL K env yk m k (NX k)),λ_ _=>False,λ_=>False,λ_ _=>False⟩)
 (hNX:∀k s',NX k s'->k<m/\ ∃hp nx,I (k+1) hp nx/\di ⟨N,fK.no P,nk⟩ s' ⟨[],hp,nx,s'.yk⟩)
 {k:Nat} {Fg:Nat->Prop} {μg:aN} {W:aj} {vs:Array ah} (ro:Option Nat) (n:Nat) (h:JJ nk d0 F0 μ0 w0 tmps env yk ms l K m I rec k Fg μg W) (Fx:∀b,Fg b->b<W.heap.size) (Re:∀b,μg.has b->b<W.heap.size)
 (hk:Y k x) (Fs:k<=m) (oS:vs.size=x.length) (Q1:∀(i:Nat) p,x[i]? =some p->RP Fg W (vs[i]?.getD undef) p):
 YieldAt (fc ro) n P l vs W λe w'=>e= .returned (.bool (decide (k≠m)))/\JJ nk d0 F0 μ0 w0 tmps env yk ms l K m I rec (k+1) Fg μg w'/\CH Fg μg W w':=by
 obtain⟨F1,μ,hp,nx,st,pe,A5,vP,hl,hx⟩:=h;(obtain⟨_,rfl,rfl,hI⟩:=hx.resolve_right λh=>by have:=h.1;omega);obtain⟨hr,hs⟩:=A5.grow vP Fx;obtain⟨hlen,fL⟩:=fL k x hp nx hk Fs hI;have A0:=bB hl;(have Ml:W.heap[l]? =some (.loop { state:= .ready,pending:=none,fn:=fn,tmps:=tmps,params:=ps,assign:=assign,body:=body,defers:=df }):=by rw[hl,ri]);refine⟨fn,_,assign,body,run_yield Ml (by rw[oS];exact hlen),roundIn_of_wpIn trivial ?_⟩
 have hT:((ps.zip vs).foldl (λtmps (x:Nat×ah)=>tmps.setIfInBounds x.1 x.2) tmps).size=N/\ ∀t,RV (λb=>F1 b\/Fg b) μ W (((ps.zip vs).foldl (λtmps (x:Nat×ah)=>tmps.setIfInBounds x.1 x.2) tmps)[t]?.getD undef) ((rh (ps.toList.zip x) env).get t):=by
  rw[<-Array.foldl_toList,Array.toList_zip];have:=Eh (F:=λb=>F1 b\/Fg b) (μ:=μ) (w:=W) (ps.toList.zip vs.toList) (ps.toList.zip x) tmps env (by simp[oS]) (λi z p aS hpi=>?_) hr.env
  · rw[hN] at this;exact this
  · obtain⟨h1,h2⟩:=List.getElem?_zip_eq_some.1 aS
    obtain⟨h3,h4⟩:=List.getElem?_zip_eq_some.1 hpi
    rw[h1] at h3;injection h3 with h3
    refine⟨h3,by rw[hN];exact G6 _ (aO h1),?_⟩;have h5:=Q1 i _ h4;(have:vs[i]? =some z.2:=by simpa using h2);rw[this] at h5;exact h5.mono (λ_=>.inr) (λ_ _=>rfl)
 have nR:oT (P:=P) ⟨N,fK.no P,nk⟩ ⟨[],0,some l,λ_=>False,λ_=>False,W⟩ (λb=>F1 b\/Fg b) μ ⟨rh (ps.toList.zip x) env,hp,nx,yk⟩ { tmps:=(ps.zip vs).foldl (λtmps (x:Nat×ah)=>tmps.setIfInBounds x.1 x.2) tmps,defers:=[] } W:=by
  refine⟨hr.h,hr.fresh,hT.1,hT.2,⟨[],⟨List.nodup_nil,de _⟩,rfl,by simp⟩,λl' mU=>?_,λh=>(by cases h),JE.no rfl trivial⟩;injection mU with mU;subst mU;exact⟨_,hl,hr.rl.1,hr.rl.2.1⟩
 refine j8 hm V assign _ _ fL bQ.1 n _ ⟨[],0,some l,λ_=>False,λ_=>False,W⟩ _ μ _ W nR λe s1 F2 jL a1 w1 g1 g2 g3 g4=>?_;have mV:dO (λb=>F1 b\/Fg b) μ W F2 jL w1:=g2 rfl;have Ip:=hr.step vq A0 mV g3 g4.h g4.fresh;have BA:w1.heap[l]? =some (.loop { state:= .ready,pending:=none,fn:=fn,tmps:=tmps,params:=ps,assign:=assign,body:=body,defers:=df }):=(mV.old l A0 hr.rl.2.1).trans Ml;have Vt:=bB BA
 cases e with
 |normal=>
  refine⟨_,run_beginRound BA rfl,?_⟩;have gn:∀b,b≠l->(w1.putObj l (.loop { state:= .busy,pending:=none,fn:=fn,tmps:=tmps,params:=ps,assign:=assign,body:=body,defers:=df })).heap[b]? =w1.heap[b]? :=λb hb=>World.putObj_heap_other hb;obtain⟨w2,Od⟩:∃w2,w2=w1.putObj l (.loop { state:= .busy,pending:=none,fn:=fn,tmps:=tmps,params:=ps,assign:=assign,body:=body,defers:=df }):=⟨_,rfl⟩;rw[<-Od] at gn ⊢;(have Bl:w2.heap[l]? =some (.loop { state:= .busy,pending:=none,fn:=fn,tmps:=tmps,params:=ps,assign:=assign,body:=body,defers:=df }):=by rw[Od];exact World.putObj_heap_same Vt);(have pR:∀b,F2 b\/jL.has b->b≠l:=λb hb e=>by subst e;exact hb.elim Ip.rl.1 Ip.rl.2.1);(have iR:w1.heap.size<=w2.heap.size:=by rw[Od];simp);have G7:l∉ms:=λhx=>by have:=(Ip.nI l hx).1;rw[BA] at this;cases this
  have Pv:oT (P:=P) ⟨N,fK.no P,nk⟩ ⟨[],0,some l,λ_=>False,λ_=>False,W⟩ F2 jL s1 a1 w2:=by
   refine⟨g4.h.same iR λb hb=>gn b (pR b hb),g4.fresh,g4.size,λt=>(g4.env t).same λb hb=>gn b (pR b hb),?_,λl' mU=>?_,λh=>(by cases h),JE.no rfl trivial⟩
   · obtain⟨ms2,q1,q2,q3⟩:=g4.nI
     refine⟨ms2,⟨q1.1,de _⟩,q2,λr Ef=>?_⟩;obtain⟨q4,q5⟩:=q3 r Ef;exact⟨(gn r λe=>by subst e;rw[BA] at q4;cases q4).trans q4,q5⟩
   · injection mU with mU;subst mU
     exact⟨_,Bl,Ip.rl.1,Ip.rl.2.1⟩
  (have CT:w2.os=w1.os/\w2.tape=w1.tape/\w2.output=w1.output:=by rw[Od];exact⟨rfl,rfl,rfl⟩);have hr3:RC nk d0 F0 μ0 w0 tmps env ms l F2 jL s1.hp s1.nx w2:=Ip.world (Pb:=(· =l)) CT.1 CT.2.1 CT.2.2 iR (λb _ hb=>gn b hb) (λb hb=>by subst hb;exact⟨Ip.rl.1,Ip.rl.2.1,G7,Ip.rl.2.2⟩);refine j8 hm V body _ _ g1 bQ.2 n _ ⟨[],0,some l,λ_=>False,λ_=>False,W⟩ _ jL _ w2 Pv λe s3 F3 Oc a3 w3 k1 k2 k3 k4=>?_;have pX:dO F2 jL w2 F3 Oc w3:=k2 rfl;have X8:=bB Bl;have hr4:=hr3.step vq X8 pX k3 k4.h k4.fresh;have WM:w3.heap[l]? =some (.loop { state:= .busy,pending:=none,fn:=fn,tmps:=tmps,params:=ps,assign:=assign,body:=body,defers:=df }):=(pX.old l X8 hr3.rl.2.1).trans Bl;have Sz:=bB WM
  have fin:∀(jump:Option Code) (F4:Nat->Prop) (CU:aN) (X9:ab) (X':Nat),RC nk d0 F0 μ0 w0 tmps env ms l F4 CU X9 X' w3->dO F3 Oc w3 F4 CU w3->
   ((k+1<=m/\jump=none/\I (k+1) X9 X')\/(k=m/\ ∃c,jump=some c/\Ei K env yk c X9 X'))->
   ∃v w4,(Instr.endRound l jump).run P w3= .ok v w4/\(Ending.returned v= .returned (.bool (decide (k≠m)))/\JJ nk d0 F0 μ0 w0 tmps env yk ms l K m I rec (k+1) Fg μg w4/\CH Fg μg W w4):=by
   intro jump F4 CU X9 X' ZW hb5 hj;have cY:=run_endRound (P:=P) jump WM;refine⟨_,_,cY,?_,?_,?_⟩
   · rcases hj with⟨h1,rfl,_⟩|⟨h1,c,rfl,_⟩
     · simp[show k≠m by omega]
     · simp[h1]
   · obtain⟨st',RX⟩:∃st',st'=(if jump.isNone=true then LoopState.ready else LoopState.done):=⟨_,rfl⟩
     have sQ:∀(o:Obj) b,b≠l->(w3.putObj l o).heap[b]? =w3.heap[b]? :=λo b hb=>World.putObj_heap_other hb;have Ya:l∉ms:=G7;refine⟨F4,CU,X9,X',(if jump.isNone=true then LoopState.ready else LoopState.done),jump,ZW.world (Pb:=(· =l)) rfl rfl rfl (by simp) (λb _ hb=>sQ _ b hb) (λb hb=>by subst hb;exact⟨ZW.rl.1,ZW.rl.2.1,Ya,ZW.rl.2.2⟩),⟨λb hb hn=>?_,λb hb=>?_⟩,?_,?_⟩
     · obtain⟨h1,h2,h3,h4,h5⟩:=hs.s1 b hb hn
       have hbW:=Re b hb;have hW1:=mV.size;have hW3:=pX.size
       have t2:¬ jL.has b:=λhx=>by rcases mV.fV b hx with h|h;(exact h2 h);omega
       have t3:¬ Oc.has b:=λhx=>by rcases pX.fV b hx with h|h;(exact t2 h);omega
       have f2:¬ F2 b:=λhx=>by rcases mV.jG b hx with h|h|h;(exact h1 h);(exact h2 h);omega
       have f3:¬ F3 b:=λhx=>by rcases pX.jG b hx with h|h|h;(exact f2 h);(exact t2 h);omega
       refine⟨λhx=>?_,λhx=>?_,h3,h4,h5⟩
       · rcases hb5.jG b hx with h|h|h
         · exact f3 h
         · exact t3 h
         · omega
       · rcases hb5.fV b hx with h|h
         · exact t3 h
         · omega
     · obtain⟨h1,h2,_,h3⟩:=hs.s2 b hb
       exact⟨h1,h2,.inl (hb5.sub b (pX.sub b (mV.sub b (.inr hb)))),h3⟩
     · rw[World.putObj_heap_same Sz,ri]
     · rcases hj with⟨h1,rfl,h2⟩|⟨h1,c,rfl,h2⟩
       · exact .inl ⟨h1,rfl,rfl,h2⟩
       · exact .inr ⟨by omega,rfl,c,rfl,h2⟩
   · refine⟨?_,?_,?_,?_,λb hb=>?_⟩
     · exact pX.os.trans (CT.1.trans mV.os)
     · exact pX.tape.trans (CT.2.1.trans mV.tape)
     · exact pX.output.trans (CT.2.2.trans mV.output)
     · have h1:=mV.size;have h2:=pX.size;simp;omega
     · have vj:b≠l:=by
        rcases hb with hb|hb
        · exact(hs.s2 b hb).1
        · by_cases hf:Fg b
          · exact(hs.s2 b hf).1
          · exact(hs.s1 b hb hf).2.2.1
       rw[World.putObj_heap_other vj];by_cases hf:Fg b
       · exact(pX.fr b (mV.sub b (.inr hf))).trans ((gn b vj).trans (mV.fr b (.inr hf)))
       · have pT:=hb.resolve_left hf
         obtain⟨h1,h2,_⟩:=hs.s1 b pT hf;have hbW:=Re b pT;have hW1:=mV.size
         have t2:¬ jL.has b:=λhx=>by rcases mV.fV b hx with h|h;(exact h2 h);omega
         exact(pX.old b (by omega) t2).trans ((gn b vj).trans (mV.old b hbW h2))
  cases e with
  |normal=>
   obtain⟨q1,hp5,nx5,qI,q2⟩:=hNX k _ k1;obtain⟨F4,CU,e1,e2,e3⟩:=q2 ⟨[],0,some l,λ_=>False,λ_=>False,W⟩ F3 Oc a3 w3 k4;exact fin none F4 CU _ _ (hr4.step vq Sz e2 e3 e1.h e1.fresh) e2 (.inl ⟨q1,rfl,qI⟩)
  |ret=>
   obtain⟨q1,q2⟩:=k1;exact fin (some .ret) F3 Oc _ _ hr4 (dO.refl _ _ _) (.inr ⟨q1,_,rfl,.inr ⟨rfl,q2⟩⟩)
  |exit j=>
   obtain⟨q1,q2⟩:=k1;exact fin (some (.exit j)) F3 Oc _ _ hr4 (dO.refl _ _ _) (.inr ⟨q1,_,rfl,.inl ⟨j,rfl,q2⟩⟩)
  |goto t=>exact k1.elim
  |panic ch=>obtain⟨_,h,_⟩:=k1;exact h.elim
  |outgrown=>exact k1.elim
 |exit j=>exact g1.elim
 |ret=>exact g1.elim
 |goto l=>exact g1.elim
 |panic ch=>obtain⟨_,h,_⟩:=g1;exact h.elim
 |outgrown=>exact g1.elim
theorem bY.Pw(hm:P.follows .mixedOrders=true){gf:bf}{fN:List PV}{xs:List (List PV)}{wd:Nat->List PV->Prop}{Fin:Nat->Prop}(gh:mT P gf fN xs wd Fin)(gp:enters P gf=true){s:St}{K:Kt}{g:aL}{ps:Array Tmp}{assign body:Code}
 (hg:bP s.env g= .p (.fn (.func gf) [] fN)) (V:List Nat) (m:Nat) (nk:List Nat) (I:Nat->ab->Nat->Prop) (NX:Nat->St->Prop) (h0:I 0 s.hp s.nx) (vq:∀t,∀o∈dz (s.env.get t),o∈nk) (vp:∀o∈kp,o∈nk)
 (G6:∀t∈ps.toList,t<N)
 (fL:∀k x hp nx,(k<xs.length/\x=xs.getD k [])\/wd k x->k<=m->I k hp nx->x.length=ps.size/\aw ⟨N,fK.no P,nk⟩ V assign ⟨rh (ps.toList.zip x) s.env,hp,nx,s.yk⟩
   ⟨λs'=>aw ⟨N,fK.no P,nk⟩ V body s' (WL K s.env s.yk m k (NX k)),λ_ _=>False,λ_=>False,λ_ _=>False⟩)
 (hNX:∀k s',NX k s'->k<m/\ ∃hp nx,I (k+1) hp nx/\di ⟨N,fK.no P,nk⟩ s' ⟨[],hp,nx,s'.yk⟩)
 (oF:∀k hp nx,k<=m->Fin k->I k hp nx->K.n ⟨s.env,hp,nx,s.yk⟩):bY ⟨N,fK.no P,kp⟩ (.rangeFunc g ps assign body) s K:=by
 intro bQ n Q d0 F μ a w hs hk;simp only[q9,aQ] at bQ;refine wpIn_rangeFunc λfn _=>?_;obtain⟨ms,⟨iX,CE⟩,Jl,TL⟩:=hs.nI;have hx:=gu hs.h.fb.gl hs.env g;rw[hg] at hx
 obtain⟨bs,dD,T5,Yb⟩:∃bs:Array ah,a.eval g= .func (.func gf) #[] bs/\bs.size=fN.length/\ ∀(i:Nat) p,fN[i]? =some p->RP F w (bs[i]?.getD undef) p:=by
  generalize a.eval g=u at hx
  cases hx with
  |p hx=>
   cases hx with
   |fn _ as bs _ _ h1 h2 _ h4=>
    have:as= #[]:=lW (by simpa using h1);subst this;exact⟨bs,rfl,h2,h4⟩
 have T6:∀l,w.heap.size<=l->RC nk d0 F μ w a.tmps s.env ms l F μ s.hp s.nx w:=λl hl=>by
  refine⟨hs.h,hs.fresh,hs.env,TL,hs.rd,dO.refl _ _ _,Kp.refl _ _,⟨λh=>by have:=hs.h.fb l h;omega,λh=>by have:=hs.h.mb l h;omega,hl⟩,λl0 gy=>?_⟩;obtain⟨r,h,_⟩:=hs.rd l0 gy;exact bB h
 have core:∀(l:Nat) (mark:List Deferred) (w1:aj) (df:Nat) (CV:List Nat),(Instr.enterLoop fn a.tmps ps assign body d0.ro).run P w= .ok (l,mark) w1->
  w1.heap[l]? =some (.loop { state:= .ready,pending:=none,fn:=fn,tmps:=a.tmps,params:=ps,assign:=assign,body:=body,defers:=df })->
  (∀b,F b->w1.heap[b]? =w.heap[b]?)->RC nk d0 F μ w a.tmps s.env CV l F μ s.hp s.nx w1->mark++a.defers=CV.map nH++d0.ds->CV.Nodup->
  ∃(l:Nat) (mark:List Deferred) (uq:aj) (d:Deferred) (zH:aj) (f:bf) (args:Array ah) (vz:aj),
  (Instr.enterLoop fn a.tmps ps assign body (fc d0.ro).round).run P w= .ok (l,mark) uq/\
  (resolve a.eval (rangeCall g l) 0).run P uq= .ok d zH/\
  (∀f',Target.leads P zH d.target d.args=some f'->(fc d0.ro).fn f')/\
  (invoke d.target d.args).run P zH= .ok (.enter f args) vz/\
  ((fc d0.ro).depth.isSome=true->1<=n)/\
  CallsIn (fc d0.ro) (n-1) P f args vz (rangePost (fc d0.ro) n P l Q { a with defers:=mark++a.defers }):=by
  intro l mark w1 df CV h1 h2 Q7 h3 h4 h5;refine⟨l,mark,w1,{ target:= .fn (.func gf) bs,args:= #[.func (.yield l) #[] #[]] },w1,gf, #[.func (.yield l) #[] #[]]++bs,w1,h1,?_,λ_ _=>trivial,?_,λh=>by simp[fc,fY] at h,jt.2 ?_⟩
  · simp only[resolve,dD]
    simp[go_sem]
  · simp only[invoke]
    exact j5 gp _ _
  obtain⟨rec,ri⟩:∃rec:LoopState->Option Code->Loop,rec=λst pe=>{ state:=st,pending:=pe,fn:=fn,tmps:=a.tmps,params:=ps,assign:=assign,body:=body,defers:=df }:=⟨_,rfl⟩;have G7:∀{W:aj} {r:Loop},W.heap[l]? =some (.loop r)-> ∀{F':Nat->Prop} {μ':aN} {hp:ab} {nx:Nat},RC nk d0 F μ w a.tmps s.env CV l F' μ' hp nx W->l∉CV:=λhW _ _ _ _ hR hx=>by have:=(hR.nI l hx).1;rw[hW] at this;cases this
  let G:fK P:=
   { it:=true
     J:=JJ nk d0 F μ w a.tmps s.env s.yk CV l K m I rec
     l:=l
     xs:=xs
     stop:=m
     wd:=wd
     cl:=λhJ hB=>hJ.cl hB
     R8:=λ_ {k Fg μg W vs x} ro n' hJ Fx Re h6 h7 h8 h9=>JJ.R8 (Y:=λk x=>(k<xs.length/\x=xs.getD k [])\/wd k x) hm vq ri hs.size G6 bQ V fL hNX ro n' hJ Fx Re h6 h7 h8 h9 }
  have hJ0:G.J 0 F aN.no w1:=by
   refine⟨F,μ,s.hp,s.nx,.ready,none,h3,⟨λb hb=>(aN.lN hb).elim,λb hb=>⟨λe=>?_,λhx=>(h3.nI b hx).2.1 hb,.inl hb,.inl hb⟩⟩,by rw[ri];exact h2,.inl ⟨de _,rfl,rfl,h0⟩⟩;subst e;exact h3.rl.1 hb
  refine fI (gh G rfl rfl rfl rfl F w1 bs h3.h.fb T5 (λi p hp=>(Yb i p hp).mono (λ_ h=>h) Q7) hJ0) λe w2 he=>?_;obtain⟨v,Fg,μg,kf,rfl,⟨F2,jL,SA,ZX,st,pe,q1,q2,q3,q4⟩,hkf⟩:=he;have A0:=bB q3;have gn:∀(o:Obj) b,b≠l->(w2.putObj l o).heap[b]? =w2.heap[b]? :=λo b hb=>World.putObj_heap_other hb
  have T7:(rec st pe).state≠ .busy:=by
   rw[ri];rcases q4 with⟨_,rfl,_⟩|⟨_,rfl,_⟩<;>simp
  have kl:=G7 q3 q1;(obtain⟨o,cY⟩:∃o:Obj,(Instr.endLoop l).run P w2= .ok pe (w2.putObj l o):=by subst ri;exact⟨_,run_endLoop q3 T7⟩);refine⟨_,_,cY,?_⟩;have q5:=q1.world (W':=w2.putObj l o) (Pb:=(· =l)) rfl rfl rfl (by simp) (λb _ hb=>gn _ b hb) (λb hb=>by subst hb;exact⟨q1.rl.1,q1.rl.2.1,kl,q1.rl.2.2⟩)
  have nR:oT (P:=P) ⟨N,fK.no P,kp⟩ d0 F2 jL ⟨s.env,SA,ZX,s.yk⟩ { a with defers:=mark++a.defers } (w2.putObj l o):=
   ⟨q5.h,q5.fresh,hs.size,q5.env,⟨CV,⟨h5,dW CE q5.base.size⟩,h4,q5.nI⟩,q5.rd,λh=>(by cases h),JE.no rfl trivial⟩
  have Jm:Kp kp μ jL:=λo ho b hb=>q5.kp o (vp o ho) b hb;rcases q4 with⟨p1,_,rfl,p3⟩|⟨_,_,c,rfl,p3⟩
  · have hF:Fin kf:=hkf.resolve_left λh=>by
     have e:G.stop=m:=rfl;rw[e] at h;omega
    exact hk .normal _ F2 jL _ _ (oF kf SA ZX p1 hF p3) (.of q5.base) Jm nR
  · rcases p3 with⟨j,rfl,p3⟩|⟨rfl,p3⟩
    · exact wpIn_exit (hk (.exit j) _ F2 jL _ _ p3 (.of q5.base) Jm nR)
    · exact wpIn_ret (hk .ret _ F2 jL _ _ p3 (.of q5.base) Jm nR)
 have hA:∀(W:aj) (o:Obj) b,b<W.heap.size->(W.alloc o).heap[b]? =W.heap[b]? :=λW o b hb=>by
  show(W.heap.push o)[b]? =_;rw[kG,if_neg (by omega)]
 cases gk:d0.ro with
 |none=>
  rw[gk] at core;obtain⟨rc,A6⟩:∃rc:Obj,rc= .loop { state:= .ready,pending:=none,fn:=fn,tmps:=a.tmps,params:=ps,assign:=assign,body:=body,defers:=w.heap.size }:=⟨_,rfl⟩;(have hz:((w.alloc (.deferred (some []))).alloc rc).heap.size=w.heap.size+2:=by simp);have cj:∀b,b<w.heap.size->((w.alloc (.deferred (some []))).alloc rc).heap[b]? =w.heap[b]? :=λb hb=>(hA _ _ b (by simp;omega)).trans (hA _ _ b hb);have hD:((w.alloc (.deferred (some []))).alloc rc).heap[w.heap.size]? =some (.deferred (some [])):=(hA _ _ _ (by simp)).trans (World.alloc_heap_new w _)
  have hL:((w.alloc (.deferred (some []))).alloc rc).heap[w.heap.size+1]? =some rc:=by
   have:=World.alloc_heap_new (w.alloc (.deferred (some []))) rc;rwa[World.size_alloc] at this
  have hq:=(T6 (w.heap.size+1) (by omega)).world (W':=(w.alloc (.deferred (some []))).alloc rc) (Pb:=λ_=>False) rfl rfl rfl (by omega) (λb hb _=>cj b hb) (λ_ h=>h.elim)
  have XN:∀r∈w.heap.size::ms,((w.alloc (.deferred (some []))).alloc rc).heap[r]? =some (.deferred (some []))/\ ¬ F r/\ ¬ μ.has r/\d0.b0<=r:=λr hr=>by
   rcases cy.1 hr with hr|hr
   · subst hr
     exact⟨hD,λh=>by have:=hs.h.fb _ h;omega,λh=>by have:=hs.h.mb _ h;omega,CE⟩
   · exact hq.nI r hr
  have Yc:RC nk d0 F μ w a.tmps s.env (w.heap.size::ms) (w.heap.size+1) F μ s.hp s.nx ((w.alloc (.deferred (some []))).alloc rc):={ hq with nI:=XN };refine core _ _ _ w.heap.size (w.heap.size::ms) (by rw[A6];exact run_enterLoop_outer _ _ _ _ _) (by rw[hL,A6]) (λb hb=>cj b (hs.h.fb b hb)) Yc (by rw[Jl];rfl) (jY.2 ⟨λh=>?_,iX⟩);have:=bB (TL _ h).1;omega
 |some l0=>
  rw[gk] at core;obtain⟨r0,gy,_⟩:=hs.rd l0 gk;obtain⟨rc,A6⟩:∃rc:Obj,rc= .loop { state:= .ready,pending:=none,fn:=fn,tmps:=a.tmps,params:=ps,assign:=assign,body:=body,defers:=r0.defers }:=⟨_,rfl⟩;have hq:=(T6 w.heap.size (aX _)).world (W':=w.alloc rc) (Pb:=λ_=>False) rfl rfl rfl (by simp) (λb hb _=>hA _ _ b hb) (λ_ h=>h.elim);exact core _ [] _ r0.defers ms (by rw[A6];exact run_enterLoop_inner gy _ _ _ _ _) (by rw[World.alloc_heap_new,A6]) (λb hb=>hA _ _ b (hs.h.fb b hb)) hq (by rw[Jl];rfl) iX
theorem bY.Jn(hm:P.follows .mixedOrders=true){gf:bf}{fN:List PV}{wd:Nat->List PV->Prop}{Fin:Nat->Prop}(gh:mT P gf fN [] wd Fin)(gp:enters P gf=true){s:St}{K:Kt}{g:aL}{ps:Array Tmp}{assign body:Code}
 (hg:bP s.env g= .p (.fn (.func gf) [] fN)) (V:List Nat) (m:Nat) (nk:List Nat) (I:Nat->ab->Nat->Prop) (h0:I 0 s.hp s.nx) (vq:∀t,∀o∈dz (s.env.get t),o∈nk) (vp:∀o∈kp,o∈nk)
 (G6:∀t∈ps.toList,t<N)
 (fL:∀k x hp nx,wd k x->k<=m->I k hp nx->x.length=ps.size/\aw ⟨N,fK.no P,nk⟩ V assign ⟨rh (ps.toList.zip x) s.env,hp,nx,s.yk⟩
   ⟨λs'=>aw ⟨N,fK.no P,nk⟩ V body s' (WL K s.env s.yk m k (λs'=>k<m/\ ∃hp nx,I (k+1) hp nx/\di ⟨N,fK.no P,nk⟩ s' ⟨[],hp,nx,s'.yk⟩)),λ_ _=>False,λ_=>False,λ_ _=>False⟩)
 (oF:∀k hp nx,k<=m->Fin k->I k hp nx->K.n ⟨s.env,hp,nx,s.yk⟩):Lp ⟨N,fK.no P,kp⟩ (.rangeFunc g ps assign body) s K:=
 ⟨bY.Pw hm gh gp hg V m nk I (λk s'=>k<m/\ ∃hp nx,I (k+1) hp nx/\di ⟨N,fK.no P,nk⟩ s' ⟨[],hp,nx,s'.yk⟩) h0 vq vp G6 (λk x hp nx hx=>fL k x hp nx (hx.resolve_left λh=>absurd h.1 (by simp))) (λ_ _ h=>h) oF⟩
theorem bY.Px(hm:P.follows .mixedOrders=true){gf:bf}{fN:List PV}{xs:List (List PV)}(gh:Iter P gf fN xs)(gp:enters P gf=true){s:St}{K:Kt}{g:aL}{ps:Array Tmp}{assign body:Code}
 (hg:bP s.env g= .p (.fn (.func gf) [] fN)) (V:List Nat) (m:Nat) (nk:List Nat) (I:Nat->ab×Nat) (h0:I 0=(s.hp,s.nx)) (vq:∀t,∀o∈dz (s.env.get t),o∈nk) (vp:∀o∈kp,o∈nk)
 (G6:∀t∈ps.toList,t<N) (jd:∀x∈xs,x.length=ps.size)
 (fL:∀k,k<xs.length->k<=m->aw ⟨N,fK.no P,nk⟩ V assign ⟨rh (ps.toList.zip (xs.getD k [])) s.env,(I k).1,(I k).2,s.yk⟩
   ⟨λs'=>aw ⟨N,fK.no P,nk⟩ V body s' (WL K s.env s.yk m k (ZV ⟨N,fK.no P,nk⟩ m k I)),λ_ _=>False,λ_=>False,λ_ _=>False⟩)
 (oF:xs.length<=m->K.n ⟨s.env,(I xs.length).1,(I xs.length).2,s.yk⟩):bY ⟨N,fK.no P,kp⟩ (.rangeFunc g ps assign body) s K:=by
 refine bY.Pw hm gh.g gp hg V m nk (λk hp nx=>I k=(hp,nx)) (λk=>ZV ⟨N,fK.no P,nk⟩ m k I) h0 vq vp G6 (λk x hp nx hx Fs hI=>?_) (λk s' h=>⟨h.1,_,_,rfl,h.2⟩) λk hp nx Fs hF hI=>?_
 · obtain⟨h6,rfl⟩:=hx.resolve_right (λh=>h)
   refine⟨?_,?_⟩
   · have:xs.getD k []=xs[k]:=by simp[cF,aV h6]
     rw[this];exact jd _ (jR h6)
   · have:=fL k h6 Fs
     rw[hI] at this;exact this
 · subst hF
   have:=oF Fs;rw[hI] at this;exact this
theorem bY.range(hm:P.follows .mixedOrders=true){gf:bf}{fN:List PV}{xs:List (List PV)}(gh:Iter P gf fN xs)(gp:enters P gf=true){s:St}{K:Kt}{g:aL}{ps:Array Tmp}{assign body:Code}
 (hg:bP s.env g= .p (.fn (.func gf) [] fN)) (V:List Nat) (m:Nat) (nk:List Nat) (I:Nat->ab×Nat) (h0:I 0=(s.hp,s.nx)) (vq:∀t,∀o∈dz (s.env.get t),o∈nk) (vp:∀o∈kp,o∈nk)
 (G6:∀t∈ps.toList,t<N) (jd:∀x∈xs,x.length=ps.size)
 (fL:∀k,k<xs.length->k<=m->aw ⟨N,fK.no P,nk⟩ V assign ⟨rh (ps.toList.zip (xs.getD k [])) s.env,(I k).1,(I k).2,s.yk⟩
   ⟨λs'=>aw ⟨N,fK.no P,nk⟩ V body s' (WL K s.env s.yk m k (ZV ⟨N,fK.no P,nk⟩ m k (I))),λ_ _=>False,λ_=>False,λ_ _=>False⟩)
 (oF:xs.length<=m->K.n ⟨s.env,(I xs.length).1,(I xs.length).2,s.yk⟩):Lp ⟨N,fK.no P,kp⟩ (.rangeFunc g ps assign body) s K:=⟨bY.Px hm gh gp hg V m nk I h0 vq vp G6 jd fL oF⟩
theorem gN{env:Env}{nk:List Nat}(h:(env.all λx=>G4 (dz x.2) nk)=true):∀t,∀o∈dz (env.get t),o∈nk:=by
 intro t
 induction env with
 |nil=>intro o ho;simp[Env.get,dz] at ho
 |cons x r ih=>
  obtain⟨u,v⟩:=x;simp only[List.all_cons,aQ] at h;simp only[Env.get];split
  · exact uK h.1
  · exact ih h.2
theorem bY.Jo(hm:P.follows .mixedOrders=true){gf:bf}{fN:List PV}{xs:List (List PV)}(gh:Iter P gf fN xs)(gp:enters P gf=true){env:Env}{hp:ab}{nx yk:Nat}{K:Kt}{g:aL}{ps:Array Tmp}{assign body:Code}
 (hg:bP env g= .p (.fn (.func gf) [] fN)) (V:List Nat) (m:Nat) (nk:List Nat) (vq:(env.all λx=>G4 (dz x.2) nk)=true) (vp:∀o∈kp,o∈nk)
 (G6:∀t∈ps.toList,t<N) (jd:∀x∈xs,x.length=ps.size)
 (fL:∀k,k<xs.length->k<=m->aw ⟨N,fK.no P,nk⟩ V assign ⟨rh (ps.toList.zip (xs.getD k [])) env,hp,nx,yk⟩
   ⟨λs'=>aw ⟨N,fK.no P,nk⟩ V body s' (WL K env yk m k (ZV ⟨N,fK.no P,nk⟩ m k (λ_=>(hp,nx)))),λ_ _=>False,λ_=>False,λ_ _=>False⟩)
 (oF:xs.length<=m->K.n ⟨env,hp,nx,yk⟩):Lp ⟨N,fK.no P,kp⟩ (.rangeFunc g ps assign body) ⟨env,hp,nx,yk⟩ K:=⟨
 bY.Px hm gh gp hg V m nk (λ_=>(hp,nx)) rfl (gN vq) vp G6 jd fL oF⟩
end
def SB:Env->Nat->Bool
 |[],_=>false
 |(u,_)::r,t=>(match Nat.beq u t with|true=>true|false=>SB r t)
def CW(ov env:Env):List Nat->Env
 |[]=>ov
 |t::V=>(match SB ov t with
  |true=>CW ov env V
  |false=>(match env.get t with
   |.any=>CW ov env V
   |v=>(t,v)::CW ov env V))
def ya(ov env:Env):List Nat->(Env->Prop)->Prop
 |[],K=>K ov
 |t::V,K=>(match SB ov t with
  |true=>ya ov env V K
  |false=>K6 (env.get t) λv=>(match v with
   |.any=>ya ov env V K
   |v=>ya ov env V λe=>K ((t,v)::e)))
theorem Ej(ov env:Env):∀(V:List Nat) (K:Env->Prop),ya ov env V K=K (CW ov env V)
 |[],K=>rfl
 |t::V,K=>by
  simp only[ya,CW,mR]
  cases SB ov t with
  |true=>exact Ej ov env V K
  |false=>
   simp only;cases env.get t<;>simp only[Ej ov env V]
section
variable{P:au}{C:Cx P}{K:Kt}{c:Code}
def kj(V:List Nat)(env:Env)(hp:ab)(nx:Nat)(ov:Env)(oh:ab)(yk:Nat):St:=⟨CW ov env V,nK oh hp [],nx,yk⟩
theorem bY.bq{α:Type}(hm:P.follows .mixedOrders=true)(V:List Nat){env:Env}{hp:ab}{nx yk:Nat}(ov:α->Env)(oh:α->ab)(yo:α->Nat)(m:α->Nat)(i0:α)
 (h0:di C ⟨env,hp,nx,yk⟩ (kj V env hp nx (ov i0) (oh i0) (yo i0)))
 (lC:∀i,ya (ov i) env V λe=>x9 (oh i) hp [] λh=>aw C V c ⟨e,h,nx,yo i⟩ (Kt.nx K λs'=>∃j,m j<m i/\di C s' (kj V env hp nx (ov j) (oh j) (yo j)))):Lp C (.loop c) ⟨env,hp,nx,yk⟩ K:=
 bY.loop hm V (λi=>kj V env hp nx (ov i) (oh i) (yo i)) m i0 h0 λi=>by
  have:=lC i;rw[Ej,vU] at this;exact this
theorem bY.bK{α:Type}(hm:P.follows .mixedOrders=true)(V:List Nat){env:Env}{hp:ab}{nx yk:Nat}(ov:α->Env)(m:α->Nat)(i0:α)
 (h0:di C ⟨env,hp,nx,yk⟩ (kj V env hp nx (ov i0) [] yk))
 (lC:∀i,ya (ov i) env V λe=>x9 [] hp [] λh=>aw C V c ⟨e,h,nx,yk⟩ (Kt.nx K λs'=>∃j,m j<m i/\di C s' (kj V env hp nx (ov j) [] yk))):Lp C (.loop c) ⟨env,hp,nx,yk⟩ K:=
 bY.bq hm V ov (λ_=>[]) (λ_=>yk) m i0 h0 lC
def lD(o' o:Nat)(R:List (Nat×Nat))(K:List (Nat×Nat)->Prop):Prop:=
 match Yd R o' with
 |true=>K R
 |false=>K ((o',o)::R)
where Yd:List (Nat×Nat)->Nat->Bool
 |[],_=>false
 |(u,_)::r,t=>(match Nat.beq u t with|true=>true|false=>Yd r t)
mutual
def G8:Nat->AV->AV->List (Nat×Nat)->(List (Nat×Nat)->Prop)->Prop
 |0,_,_,R,K=>K R
 |_+1,.ptr o _,.ptr o' _,R,K=>lD o' o R K
 |_+1,.dJ o _ _ _,.dJ o' _ _ _,R,K=>lD o' o R K
 |_+1,.bo o _ _ _,.bo o' _ _ _,R,K=>lD o' o R K
 |_+1,.jb o _ _ _ _,.jb o' _ _ _ _,R,K=>lD o' o R K
 |_+1,.jb o _ _ _ _,.bo o' _ _ _,R,K=>lD o' o R K
 |_+1,.cr o _ _ _,.cr o' _ _ _,R,K=>lD o' o R K
 |_+1,.mp o,.mp o',R,K=>lD o' o R K
 |_+1,.ch o,.ch o',R,K=>lD o' o R K
 |n+1,.agg l,.agg l',R,K=>rj n l l' R K
 |n+1,.bR l,.bR l',R,K=>rj n l l' R K
 |n+1,.fn _ a b,.fn _ a' b',R,K=>rj n a a' R λR=>rj n b b' R K
 |_+1,_,_,R,K=>K R
def rj:Nat->List AV->List AV->List (Nat×Nat)->(List (Nat×Nat)->Prop)->Prop
 |n+1,a::l,a'::l',R,K=>G8 n a a' R λR=>rj n l l' R K
 |_,_,_,R,K=>K R
end
def CX(env:Env):Env->List (Nat×Nat)->(List (Nat×Nat)->Prop)->Prop
 |[],R,K=>K R
 |(t,v)::r,R,K=>K6 (env.get t) λu=>K6 v λv=>G8 99 u v R λR=>CX env r R K
def Lb(o:Nat)(B:Prop)(A:Nat->Prop):List (Nat×Nat)->Prop
 |[]=>B
 |(u,x)::r=>(match Nat.beq u o with|true=>A x|false=>Lb o B A r)
def rk(hp:ab):ab->List (Nat×Nat)->(List (Nat×Nat)->Prop)->Prop
 |[],R,K=>K R
 |(o',x)::r,R,K=>Lb o' (rk hp r R K) (λo=>match hp.get o,x with
  |.cells l,.cells l'=>rj 99 l l' R λR=>rk hp r R K
  |_,_=>rk hp r R K) R
theorem M7{o' o:Nat}{R:List (Nat×Nat)}{K:List (Nat×Nat)->Prop}(h:lD o' o R K):∃R',K R':=by
 unfold lD at h;split at h
 · exact⟨_,h⟩
 · exact⟨_,h⟩
theorem CY:∀n:Nat,(∀(a a':AV) (R:List (Nat×Nat)) (K:List (Nat×Nat)->Prop),G8 n a a' R K->∃R',K R')/\(∀(a a':List AV) (R:List (Nat×Nat)) (K:List (Nat×Nat)->Prop),rj n a a' R K->∃R',K R'):=by
 intro n
 induction n with
 |zero=>exact⟨λa a' R K h=>by simp only[G8] at h;exact⟨_,h⟩,λa a' R K h=>by simp only[rj] at h;exact⟨_,h⟩⟩
 |succ n ih=>
  refine⟨λa a' R K h=>?_,λa a' R K h=>?_⟩
  · cases a<;>cases a'<;>simp only[G8] at h<;>first|exact M7 h|exact ih.2 _ _ _ _ h|exact⟨_,h⟩|skip
    obtain⟨R',h'⟩:=ih.2 _ _ _ _ h;exact ih.2 _ _ _ _ h'
  · cases a with
    |nil=>cases a'<;>(simp only[rj] at h;exact⟨_,h⟩)
    |cons x l=>
     cases a' with
     |nil=>simp only[rj] at h;exact⟨_,h⟩
     |cons y m=>
      simp only[rj] at h;obtain⟨R',h'⟩:=ih.1 _ _ _ _ h;exact ih.2 _ _ _ _ h'
theorem tH{env:Env}:∀{e:Env} {R:List (Nat×Nat)} {K:List (Nat×Nat)->Prop},CX env e R K->∃R',K R'
 |[],R,K,h=>⟨_,h⟩
 |(t,v)::r,R,K,h=>by
  simp only[CX,mR] at h;obtain⟨R',h'⟩:=(CY 99).1 _ _ _ _ h;exact tH h'
theorem zI{o:Nat}{B:Prop}{A:Nat->Prop}:∀{R:List (Nat×Nat)},Lb o B A R->B\/ ∃x,A x
 |[],h=>.inl h
 |(u,x)::r,h=>by
  unfold Lb at h;split at h
  · exact .inr ⟨x,h⟩
  · exact zI h
theorem ju{hp:ab}:∀{h':ab} {R:List (Nat×Nat)} {K:List (Nat×Nat)->Prop},rk hp h' R K->∃R',K R'
 |[],R,K,h=>⟨_,h⟩
 |(o',x)::r,R,K,h=>by
  unfold rk at h;rcases zI h with h|⟨o,h⟩
  · exact ju h
  · split at h
    · obtain⟨R',h'⟩:=(CY 99).2 _ _ _ _ h
      exact ju h'
    · exact ju h
def rm:List (Nat×Nat)->Bool
 |[]=>true
 |(_,x)::r=>(match SC r x with|true=>false|false=>rm r)
where SC:List (Nat×Nat)->Nat->Bool
 |[],_=>false
 |(_,u)::r,t=>(match Nat.beq u t with|true=>true|false=>SC r t)
theorem G9{t:Nat}:∀{R:List (Nat×Nat)},rm.SC R t=false->t∉R.map j7
 |[],_=>by simp
 |(x,u)::r,h=>by
  simp only[rm.SC] at h;split at h
  · cases h
  · rename_i e
    simp only[bE,cy,not_or];exact⟨λhx=>by subst hx;simp at e,G9 h⟩
theorem rq:∀{R:List (Nat×Nat)},rm R=true->(R.map j7).Nodup
 |[],_=>by simp
 |(x,u)::r,h=>by
  simp only[rm] at h;split at h
  · cases h
  · rename_i e
    simp only[bE,jY];exact⟨G9 e,rq h⟩
def WN(nx:Nat):List (Nat×Nat)->Bool
 |[]=>true
 |(x,_)::r=>(match Nat.ble (x+1) nx with|true=>WN nx r|false=>false)
theorem zJ{nx:Nat}:∀{R:List (Nat×Nat)},WN nx R=true-> ∀x∈R,x.1<nx
 |(x,u)::r,h,y,hy=>by
  simp only[WN] at h;split at h
  · rename_i e
    rcases cy.1 hy with hy|hy
    · subst hy;exact Nat.le_of_ble_eq_true e
    · exact zJ h y hy
  · cases h
def WO(R:List (Nat×Nat)):List Nat->Bool
 |[]=>true
 |o::l=>(match gM R o with|some x=>(match Nat.beq x o with|true=>WO R l|false=>false)|none=>false)
theorem zK{R:List (Nat×Nat)}:∀{l:List Nat},WO R l=true-> ∀o∈l,gM R o=some o
 |a::l,h,o,ho=>by
  simp only[WO] at h;split at h
  · rename_i x hx
    split at h
    · rename_i e
      rcases cy.1 ho with ho|ho
      · subst ho;rw[hx,Nat.eq_of_beq_eq_true e]
      · exact zK h o ho
    · cases h
  · cases h
theorem di.T8{env bO:Env}{hp gj:ab}{nx xH yk T9:Nat}(Z:List Nat) (h:CX env bO [] λR=>rk hp gj R λR=>rk hp gj R λR=>
 (rm R=true/\WN xH R=true/\WO R C.kp=true)/\T9=yk/\uJ hp (· ∈Z) (gM R) env bO/\fe hp (· ∈Z) (gM R) gj):di C ⟨env,hp,nx,yk⟩ ⟨bO,gj,xH,T9⟩:=by
 obtain⟨R1,h⟩:=tH h;obtain⟨R2,h⟩:=ju h;obtain⟨R3,h⟩:=ju h;obtain⟨⟨h1,h2,h3⟩,h4,h5,h6⟩:=h;exact di.of Z R3 h5 h6 (rq h1) (zJ h2) (zK h3) h4
theorem di.ofK{env bO:Env}{hp gj:ab}{nx xH yk T9:Nat}(Z:List Nat) (h:CX env bO (C.kp.map λo=>(o,o)) λR=>rk hp gj R λR=>rk hp gj R λR=>
 (rm R=true/\WN xH R=true/\WO R C.kp=true)/\T9=yk/\uJ hp (· ∈Z) (gM R) env bO/\fe hp (· ∈Z) (gM R) gj):di C ⟨env,hp,nx,yk⟩ ⟨bO,gj,xH,T9⟩:=by
 obtain⟨R1,h⟩:=tH h;obtain⟨R2,h⟩:=ju h;obtain⟨R3,h⟩:=ju h;obtain⟨⟨h1,h2,h3⟩,h4,h5,h6⟩:=h;exact di.of Z R3 h5 h6 (rq h1) (zJ h2) (zK h3) h4
end
section
variable{α:Type}(right:α->Bool)(no:α->Int)
def aA:Int->List α->Bool
 |_,[]=>true
 |n,x::l=>right x&&decide (n<no x)&&aA (no x) l
def ax(l:List α):Nat->Int
 |0=> -1
 |i+1=>match l[i]? with|some x=>no x|none=> -1
theorem bk{l:List α}{i:Nat}{x:α}(h:l[i]? =some x):ax no l (i+1)=no x:=by simp[ax,h]
theorem rr{l:List α}{i:Nat}{x:α}(n:Int)(h:l[i]? =some x):aA right no n (l.drop i)=(right x&&decide (n<no x)&&aA right no (no x) (l.drop (i+1))):=by
 obtain⟨h1,h2⟩:=aq.1 h;rw[List.drop_eq_getElem_cons h1,h2,aA]
theorem Jp{l:List α}{i:Nat}(n:Int)(h:l.length<=i):aA right no n (l.drop i)=true:=by
 rw[List.drop_of_length_le h,aA]
theorem gv:∀(l:List α) (n:Int),aA right no n l=true↔(∀x∈l,right x=true/\n<no x)/\l.Pairwise (λa b=>no a<no b)
 |[],n=>by simp[aA]
 |x::l,n=>by
  simp only[aA,aQ,decide_eq_true_eq,gv l,cy,List.pairwise_cons,forall_eq_or_imp];constructor
  · rintro⟨⟨h1,h2⟩,h3,h4⟩
    exact⟨⟨⟨h1,h2⟩,λa ha=>⟨(h3 a ha).1,by have:=(h3 a ha).2;omega⟩⟩,λa ha=>(h3 a ha).2,h4⟩
  · rintro⟨⟨⟨h1,h2⟩,h3⟩,h4,h5⟩
    exact⟨⟨h1,h2⟩,λa ha=>⟨(h3 a ha).1,h4 a ha⟩,h5⟩
def uL(n:Int)(l:List α):Nat:=(l.takeWhile λy=>decide (no y<n)).length
def SD(n:Int)(l:List α):Bool:=match l[uL no n l]? with|some y=>decide (no y=n)|none=>false
theorem SE(n:Int)(l:List α):uL no n l<=l.length:=by
 unfold uL;have:=congrArg kQ (List.takeWhile_append_dropWhile (p:=λy=>decide (no y<n)) (l:=l));simp only[fk] at this;omega
theorem CZ(n:Int)(x:α)(l:List α):uL no n (x::l)=if no x<n then uL no n l+1 else 0:=by
 unfold uL;by_cases h:no x<n<;>simp[List.takeWhile,h]
theorem yb:∀(l:List α) (n:Int) (i:Nat),i<=l.length->(∀j x,j<i->l[j]? =some x->no x<n)->(∀x,l[i]? =some x->n<=no x)->uL no n l=i
 |[],n,i,h,_,_=>by simp at h;simp[uL,h]
 |x::l,n,0,_,_,h2=>by
  have:=h2 x rfl;rw[CZ,if_neg (by omega)]
 |x::l,n,i+1,h,h1,h2=>by
  have:=h1 0 x (by omega) rfl;rw[CZ,if_pos this,yb l n i (by simpa using h) (λj y hj hy=>h1 (j+1) y (by omega) (by simpa using hy)) (λy hy=>h2 y (by simpa using hy))]
theorem tI{l:List α}(h:l.Pairwise (λa b=>no a<no b)){i j:Nat}{x y:α}(gx:i<j)(hx:l[i]? =some x)(hy:l[j]? =some y):no x<no y:=by
 obtain⟨h1,h2⟩:=aq.1 hx;obtain⟨h3,h4⟩:=aq.1 hy;have:=List.pairwise_iff_getElem.1 h i j h1 h3 gx;rw[h2,h4] at this;exact this
theorem Ek{l:List α}(h:l.Pairwise (λa b=>no a<no b)){i j:Nat}{x y:α}(gx:i<=j)(hx:l[i]? =some x)(hy:l[j]? =some y):no x<=no y:=by
 rcases Nat.lt_or_eq_of_le gx with h1|h1
 · exact Int.le_of_lt (tI no h h1 hx hy)
 · subst h1;rw[hx] at hy;injection hy with hy;subst hy;exact Int.le_refl _
theorem SF{l:List α}(h:l.Pairwise (λa b=>no a<no b)){x y:α}(hx:x∈l)(hy:y∈l)(he:no x=no y):x=y:=by
 obtain⟨i,hi⟩:=eE hx;obtain⟨j,hj⟩:=eE hy;rcases Nat.lt_trichotomy i j with h1|h1|h1
 · have:=tI no h h1 hi hj;omega
 · subst h1;rw[hi] at hj;exact gH hj
 · have:=tI no h h1 hj hi;omega
def tJ(lim:Int)(err:Int)(l:List α):Int:=if lim<(l.length:Int) then 2 else if aA right no (-1) l then 0 else err
theorem bC{l:List α}{i:Nat}{x:α}(h:l[i]? =some x)(hq:aA right no (ax no l i) (l.drop i)=aA right no (-1) l)(hx:(right x&&decide (ax no l i<no x))=false):aA right no (-1) l=false:=by
 rw[<-hq,rr right no _ h,hx];rfl
theorem bU{l:List α}{i:Nat}{x:α}(h:l[i]? =some x)(hq:aA right no (ax no l i) (l.drop i)=aA right no (-1) l)(hx:(right x&&decide (ax no l i<no x))=true):aA right no (ax no l (i+1)) (l.drop (i+1))=aA right no (-1) l:=by
 rw[<-hq,rr right no _ h,hx,bk no h];rfl
theorem cR{l:List α}{i:Nat}(hq:aA right no (ax no l i) (l.drop i)=aA right no (-1) l)(h:l.length<=i):aA right no (-1) l=true:=by
 rw[<-hq,Jp right no _ h]
theorem iw{lim err:Int}{l:List α}(h:lim<(l.length:Int)):tJ right no lim err l=2:=by unfold tJ;rw[if_pos h]
theorem cT{lim err:Int}{l:List α}(h:¬ lim<(l.length:Int))(k:aA right no (-1) l=false):tJ right no lim err l=err:=by unfold tJ;rw[if_neg h,k];rfl
theorem iK{lim err:Int}{l:List α}(h:¬ lim<(l.length:Int))(k:aA right no (-1) l=true):tJ right no lim err l=0:=by unfold tJ;rw[if_neg h,k];rfl
theorem vY{lim err:Int}{l:List α}(he:err≠0)(h:tJ right no lim err l=0):¬ lim<(l.length:Int)/\aA right no (-1) l=true:=by
 unfold tJ at h;split at h
 · cases h
 · split at h
   · exact⟨by assumption,by assumption⟩
   · exact absurd h he
section
variable{κ:Type}[DecidableEq κ](cnt:α->Bool)(key:α->κ)(tm:α->Int)
def zL(k:κ)(o:Option α)(y:α):Option α:=
 if cnt y=true/\key y=k then(match o with|none=>some y|some z=>if tm z<=tm y then some y else some z) else o
def jC(l:List α)(k:κ):Option α:=l.foldl (zL cnt key tm k) none
def after(x y:α):Prop:=tm y<tm x\/tm x=tm y/\no y<no x
theorem lf{l:List α}{i:Nat}{x:α}(h:l[i]? =some x)(k:κ):jC cnt key tm (l.take (i+1)) k=zL cnt key tm k (jC cnt key tm (l.take i) k) x:=by
 unfold jC;rw[bz,h];simp[List.foldl_append]
theorem mW{l:List α}(hs:l.Pairwise (λa b=>no a<no b))(k:κ):(jC cnt key tm l k=none/\ ∀x∈l,¬(cnt x=true/\key x=k))\/
 ∃y,jC cnt key tm l k=some y/\y∈l/\cnt y=true/\key y=k/\ ∀x∈l,cnt x=true->key x=k-> ¬ after no tm x y:=by
 have gen:∀n,(jC cnt key tm (l.take n) k=none/\ ∀x∈l.take n,¬(cnt x=true/\key x=k))\/
  ∃y,jC cnt key tm (l.take n) k=some y/\y∈l.take n/\cnt y=true/\key y=k/\ ∀x∈l.take n,cnt x=true->key x=k-> ¬ after no tm x y:=by
  intro n
  induction n with
  |zero=>left;simp[jC]
  |succ n ih=>
   cases hx:l[n]? with
   |none=>
    (have:l.take (n+1)=l.take n:=by rw[bz,hx];simp);rw[this];exact ih
   |some x=>
    rw[lf cnt key tm hx];have hm:∀z,z∈l.take (n+1)↔z∈l.take n\/z=x:=λz=>by rw[bz,hx];simp
    have aC:∀z∈l.take n,no z<no x:=λz hz=>by
     obtain⟨j,hj⟩:=eE hz;have pg:=(aq.1 hj).1;rw[List.length_take] at pg;rw[List.getElem?_take_of_lt (by omega)] at hj;exact tI no hs (by omega) hj hx
    unfold zL;by_cases hc:cnt x=true/\key x=k
    · rw[if_pos hc]
      right;rcases ih with⟨h1,h2⟩|⟨y,h1,h2,h3,h4,h5⟩
      · rw[h1]
        refine⟨x,rfl,(hm x).2 (.inr rfl),hc.1,hc.2,λz hz ua Bm=>?_⟩;rcases(hm z).1 hz with hz|hz
        · exact absurd ⟨ua,Bm⟩ (h2 z hz)
        · subst hz;simp[after]
      · rw[h1]
        simp only;by_cases ht:tm y<=tm x
        · rw[if_pos ht]
          refine⟨x,rfl,(hm x).2 (.inr rfl),hc.1,hc.2,λz hz ua Bm=>?_⟩;rcases(hm z).1 hz with hz|hz
          · have a1:=h5 z hz ua Bm
            have a2:=aC z hz;have a3:=aC y h2;unfold after at a1 ⊢;omega
          · subst hz;simp[after]
        · rw[if_neg ht]
          refine⟨y,rfl,(hm y).2 (.inl h2),h3,h4,λz hz ua Bm=>?_⟩;rcases(hm z).1 hz with hz|hz
          · exact h5 z hz ua Bm
          · subst hz;unfold after;omega
    · rw[if_neg hc]
      rcases ih with⟨h1,h2⟩|⟨y,h1,h2,h3,h4,h5⟩
      · left
        refine⟨h1,λz hz=>?_⟩;rcases(hm z).1 hz with hz|hz
        · exact h2 z hz
        · subst hz;exact hc
      · right
        refine⟨y,h1,(hm y).2 (.inl h2),h3,h4,λz hz ua Bm=>?_⟩;rcases(hm z).1 hz with hz|hz
        · exact h5 z hz ua Bm
        · subst hz;exact absurd ⟨ua,Bm⟩ hc
 have:=gen l.length;rwa[eG] at this
theorem zM{l:List α}(hs:l.Pairwise (λa b=>no a<no b)){x:α}(hx:x∈l):jC cnt key tm l (key x)=some x↔cnt x=true/\ ∀z∈l,cnt z=true->key z=key x-> ¬ after no tm z x:=by
 rcases mW no cnt key tm hs (key x) with⟨h1,h2⟩|⟨y,h1,h2,h3,h4,h5⟩
 · rw[h1]
   constructor
   · intro h;cases h
   · intro h;exact absurd ⟨h.1,rfl⟩ (h2 x hx)
 · rw[h1]
   constructor
   · intro h;injection h with h;subst h;exact⟨h3,h5⟩
   · rintro⟨k1,k2⟩
     have a1:=h5 x hx k1 rfl;have a2:=k2 y h2 h3 h4;(have:no x=no y:=by unfold after at a1 a2;omega);rw[SF no hs hx h2 this]
end
end
section
variable{κ β γ:Type}[DecidableEq κ](eK:κ->PV)(eV:β->γ)
def bn(k:κ):List (κ×β)->Option β
 |[]=>none
 |(k',v)::r=>if k=k' then some v else bn k r
def dQ(k:κ)(v:β):List (κ×β)->List (κ×β)
 |[]=>[(k,v)]
 |(k',v')::r=>if k=k' then(k,v)::r else(k',v')::dQ k v r
def eM(m:List (κ×β)):List (PV×γ):=m.map λx=>(eK x.1,eV x.2)
theorem dj(k k':κ)(v:β):∀m:List (κ×β),bn k (dQ k' v m)=if k=k' then some v else bn k m
 |[]=>by simp[dQ,bn]
 |(a,b)::r=>by
  have ih:=dj k k' v r;simp only[dQ];by_cases h1:k'=a
  · subst h1;rw[if_pos rfl];simp only[bn];by_cases h2:k=k'<;>simp[h2]
  · rw[if_neg h1];simp only[bn,ih]
    by_cases h2:k=a
    · subst h2;rw[if_pos rfl,if_pos rfl,if_neg (λe=>h1 e.symm)]
    · rw[if_neg h2,if_neg h2]
theorem so(k:κ)(v:β):∀m:List (κ×β),(dQ k v m).map bp=if k∈m.map bp then m.map bp else m.map bp++[k]
 |[]=>by simp[dQ]
 |(a,b)::r=>by
  have ih:=so k v r;simp only[dQ];by_cases h1:k=a
  · subst h1;simp
  · rw[if_neg h1]
    simp only[bE,ih,cy,h1,false_or];split<;>simp
theorem mX{k:κ}{v:β}{m:List (κ×β)}(h:(m.map bp).Nodup):((dQ k v m).map bp).Nodup:=by
 rw[so];split
 · exact h
 · rename_i hn
   rw[List.nodup_append];exact⟨h,by simp,λa ha b hb=>by simp at hb;subst hb;exact λe=>hn (e▸ha)⟩
theorem ru{k:κ}{v:β}:∀{m:List (κ×β)},bn k m=some v->(k,v)∈m
 |[],h=>by cases h
 |(a,b)::r,h=>by
  simp only[bn] at h;split at h
  · rename_i e;injection h with h;subst e;subst h;simp
  · exact List.mem_cons_of_mem _ (ru h)
theorem jD{k:κ}{v:β}:∀{m:List (κ×β)},(m.map bp).Nodup->(k,v)∈m->bn k m=some v
 |(a,b)::r,hn,h=>by
  simp only[bE,jY,aY,not_exists,not_and] at hn;simp only[bn];rcases cy.1 h with h|h
  · injection h with e1 e2;subst e1;subst e2;simp
  · have:k≠a:=λe=>hn.1 (k,v) h e
    rw[if_neg this];exact jD hn.2 h
structure nM:Prop where
 eq:∀a b:κ,iF (eK a).cells (eK b).cells=decide (a=b)
variable{eK}
theorem rz(hk:nM eK)(k:κ):∀(m:List (κ×β)) (i:Nat),(aT (eK k) i (eM eK eV m)).map j7=(bn k m).map eV
 |[],i=>rfl
 |(k',v)::r,i=>by
  have ih:=rz hk k r (i+1);simp only[eM,bE,aT,hk.eq,bn] at ih ⊢;by_cases h:k=k'
  · subst h;simp
  · simp only[h,decide_false,if_false];exact ih
theorem bj(hk:nM eK)(k:κ)(m:List (κ×β)):cK (eK k) (eM eK eV m)=(bn k m).map eV:=rz eV hk k m 0
theorem wW(hk:nM eK)(k:κ)(v:β):∀(m:List (κ×β)) (i0:Nat),(match aT (eK k) i0 (eM eK eV m) with|some (i,_)=>(eM eK eV m).set (i-i0) (eK k,eV v)|none=>eM eK eV m++[(eK k,eV v)])=eM eK eV (dQ k v m)
 |[],i0=>rfl
 |(k',v')::r,i0=>by
  have ih:=wW hk k v r (i0+1);simp only[eM,bE,aT,hk.eq,dQ] at ih ⊢;by_cases h:k=k'
  · subst h;simp
  · simp only[h,decide_false,if_false,bE]
    cases hf:aT (eK k) (i0+1) (List.map (λx=>(eK x.1,eV x.2)) r) with
    |none=>rw[hf] at ih;simp only at ih ⊢;rw[<-ih];rfl
    |some x=>
     obtain⟨i,u⟩:=x;rw[hf] at ih;have:=(fH hf).1;simp only at ih ⊢;rw[<-ih,show i-i0=(i-(i0+1))+1 by omega,List.set_cons_succ]
theorem cU(hk:nM eK)(k:κ)(v:β)(m:List (κ×β)):dr (eK k) (eV v) (eM eK eV m)=eM eK eV (dQ k v m):=by
 have:=wW eV hk k v m 0;unfold dr;rw[<-this];split<;>rename_i h<;>rw[h]<;>simp
end
def zN{α:Type}(q:α->Bool)(l:List α):Int:=match l.findIdx? q with|some i=>i|none=> -1
theorem gF{α:Type}{q:α->Bool}{l:List α}{i:Nat}{x:α}(h:l[i]? =some x)(hq:q x=true)(hn:∀j w,j<i->l[j]? =some w->q w=false):zN q l=i:=by
 have:l.findIdx? q=some i:=by
  rw[List.findIdx?_eq_some_iff_getElem];obtain⟨h1,h2⟩:=aq.1 h;refine⟨h1,by rw[h2];exact hq,λj hj=>?_⟩;rw[hn j l[j] hj (aV _)];simp
 simp[zN,this]
theorem j9{α:Type}{q:α->Bool}{l:List α}(hn:∀j w,j<l.length->l[j]? =some w->q w=false):zN q l= -1:=by
 have:l.findIdx? q=none:=by
  rw[List.findIdx?_eq_none_iff];intro x hx;obtain⟨j,hj⟩:=eE hx;exact hn j x (aq.1 hj).1 hj
 simp[zN,this]
theorem uM{α:Type}(q:α->Bool)(l:List α):decide (zN q l>=0)=l.any q:=by
 unfold zN
 cases h:l.findIdx? q with
 |none=>
  rw[List.findIdx?_eq_none_iff] at h;simp only[ge_iff_le];(have:l.any q=false:=by rw[List.any_eq_false];intro x hx;rw[h x hx];simp);rw[this];rfl
 |some i=>
  obtain⟨h1,h2,_⟩:=List.findIdx?_eq_some_iff_getElem.1 h;have:l.any q=true:=List.any_eq_true.2 ⟨_,jR h1,h2⟩;rw[this];simp
theorem M8{α:Type}(q:α->Bool)(l:List α):(zN q l= -1/\ ∀x∈l,q x=false)\/ ∃(i:Nat) (x:α),zN q l=(i:Int)/\l[i]? =some x/\q x=true/\ ∀j w,j<i->l[j]? =some w->q w=false:=by
 unfold zN
 cases h:l.findIdx? q with
 |none=>exact .inl ⟨rfl,λx hx=>List.findIdx?_eq_none_iff.1 h x hx⟩
 |some i=>
  obtain⟨h1,h2,h3⟩:=List.findIdx?_eq_some_iff_getElem.1 h;refine .inr ⟨i,l[i],rfl,aV h1,h2,λj w hj hw=>?_⟩;have:=h3 j hj;obtain⟨h4,h5⟩:=aq.1 hw;rw[h5] at this;simpa using this
theorem filter_all{α:Type}(q:α->Bool)(l:List α)(h:∀x∈l,q x=false):(l.filter λy=> !q y)=l:=List.filter_eq_self.2 λx hx=>by rw[h x hx];rfl
theorem nU{α:Type}{q:α->Bool}{l:List α}{i:Nat}{x:α}(hq:∀j w,j<i->l[j]? =some w->q w=false)(h:l[i]? =some x)(hx:q x=false):∀j w,j<i+1->l[j]? =some w->q w=false:=λj w hj hw=>by
 rcases Nat.lt_succ_iff_lt_or_eq.1 hj with h1|h1
 · exact hq j w h1 hw
 · subst h1;rw[h] at hw;injection hw with hw;subst hw;exact hx
def qh(a b:Int):Int:=if a<b then -1 else if b<a then 1 else 0
theorem yc{a b:Int}:qh a b<0↔a<b:=by unfold qh;split;(simp;assumption);split<;>simp<;>omega
theorem Lc{a b:Int}:qh a b=0↔a=b:=by unfold qh;split;(simp;omega);split<;>simp<;>omega
theorem pq(a b:Nat)(h:a+b<2000000):Go.IntKind.i64.wrap ((Go.IntKind.u64.wrap ((a:Int)+b)).fdiv (2 ^ min (Int.toNat 1) Go.IntKind.u64.bits))=(((a+b) / 2:Nat):Int):=by
 (have e1:Go.IntKind.u64.wrap ((a:Int)+b)=((a+b:Nat):Int):=by rw[Oq (by omega) (by omega)];omega);rw[e1];show Go.IntKind.i64.wrap (Int.fdiv ((a+b:Nat):Int) (2 ^ 1))=_;rw[Int.fdiv_eq_ediv_of_nonneg _ (by omega)];(have e2:(((a+b:Nat):Int) / (2 ^ 1))=(((a+b) / 2:Nat):Int):=by simp);rw[e2];exact al (by omega) (by omega)
section
variable{α:Type}(q:α->Bool)
def bF(l:List α)(i:Nat):Nat:=(l.take i).countP q
theorem mY{l:List α}{i:Nat}{x:α}(h:l[i]? =some x)(hq:q x=true):bF q l (i+1)=bF q l i+1:=by
 unfold bF;rw[bz,h];simp[List.countP_append,hq]
theorem mn{l:List α}{i:Nat}{x:α}(h:l[i]? =some x)(hq:q x=false):bF q l (i+1)=bF q l i:=by
 unfold bF;rw[bz,h];simp[List.countP_append,hq]
theorem mZ{l:List α}{i:Nat}(h:l.length<=i):bF q l i=(l.filter q).length:=by
 unfold bF;rw[List.take_of_length_le h,List.countP_eq_length_filter]
theorem ew:∀{l:List α} {i:Nat} {x:α},l[i]? =some x->q x=true->(l.filter q)[bF q l i]? =some x
 |[],_,_,h,_=>by simp at h
 |y::l,0,x,h,hq=>by simp at h;subst h;simp[bF,hq]
 |y::l,i+1,x,h,hq=>by
  have ih:=ew (l:=l) (i:=i) (by simpa using h) hq;unfold bF at ih ⊢;cases hy:q y<;>simp[hy,List.filter_cons,ih]
theorem iy{l:List α}{i:Nat}{x:α}(h:l[i]? =some x):(l.take (i+1)).filter q=(l.take i).filter q++if q x then[x] else[]:=by
 rw[bz,h];cases hq:q x<;>simp[hq]
end
theorem dR{α:Type}{f:α->PV}{l:List α}{n:Nat}{x:α}{K:PV->Prop}(hx:l[n]? =some x)(k:K (f x)):∀p,(l.map f)[n]? =some p->K p:=λp hp=>by
 rw[aW,hx] at hp;injection hp with hp;subst hp;exact k
theorem ix_q{l:List PV}{n:Nat}{x:PV}{K:PV->Prop}(hx:l[n]? =some x)(k:K x):∀p,l[n]? =some p->K p:=λp hp=>by
 rw[hx] at hp;injection hp with hp;subst hp;exact k
theorem pt(k:PV):∀(q:List (PV×List PV)) (i:Nat),aT k i (hM q)=(aT k i q).map λx=>(x.1,MV.h x.2)
 |[],i=>rfl
 |(k',l)::r,i=>by
  have ih:=pt k r (i+1);simp only[hM,bE,aT] at ih ⊢;split
  · rfl
  · exact ih
theorem zO(k:PV)(q:List (PV×List PV)):cK k (hM q)=(cK k q).map MV.h:=by
 unfold cK;rw[pt];cases aT k 0 q<;>rfl
theorem Ld(k:PV)(l:List PV)(q:List (PV×List PV)):dr k (.h l) (hM q)=hM (dr k l q):=by
 unfold dr;rw[pt]
 cases aT k 0 q with
 |none=>simp[hM]
 |some x=>simp[hM,List.map_set]
theorem pw{β:Type}{k:PV}(hk:iF k.cells k.cells=true)(v:β):∀(m:List (PV×β)) (i:Nat),aT k i (match aT k i m with|some (j,_)=>m.set (j-i) (k,v)|none=>m++[(k,v)])=some (match aT k i m with|some (j,_)=>(j,v)|none=>(i+m.length,v))
 |[],i=>by simp[aT,hk]
 |(k',x)::r,i=>by
  have ih:=pw hk v r (i+1)
  cases hc:iF k.cells k'.cells with
  |true=>simp[aT,hc,hk]
  |false=>
   (have e1:∀i,aT k i ((k',x)::r)=aT k (i+1) r:=λi=>by simp[aT,hc]);rw[e1]
   cases hf:aT k (i+1) r with
   |none=>
    rw[hf] at ih;simp only at ih ⊢;rw[List.cons_append,aT,hc];simp only;rw[ih];simp;omega
   |some y=>
    obtain⟨j,u⟩:=y;rw[hf] at ih;have hj:=(fH hf).1;simp only at ih ⊢;rw[show j-i=(j-(i+1))+1 by omega,List.set_cons_succ,aT,hc];simp only;exact ih
theorem Jq{β:Type}{k:PV}(hk:iF k.cells k.cells=true)(v:β)(m:List (PV×β)):cK k (dr k v m)=some v:=by
 have:=pw hk v m 0;(have e:dr k v m=(match aT k 0 m with|some (j,_)=>m.set (j-0) (k,v)|none=>m++[(k,v)]):=by unfold dr;cases aT k 0 m<;>rfl);rw[<-e] at this;unfold cK;rw[this];cases aT k 0 m<;>rfl
theorem C0{β:Type}{k:PV}(hk:iF k.cells k.cells=true)(v v':β)(m:List (PV×β)):dr k v (dr k v' m)=dr k v m:=by
 have:=pw hk v' m 0
 have e:dr k v' m=(match aT k 0 m with|some (j,_)=>m.set (j-0) (k,v')|none=>m++[(k,v')]):=by unfold dr;cases aT k 0 m<;>rfl
 rw[<-e] at this
 cases hf:aT k 0 m with
 |none=>
  rw[hf] at this;simp only[gQ] at this;(have e1:dr k v' m=m++[(k,v')]:=by unfold dr;rw[hf]);(have e2:dr k v m=m++[(k,v)]:=by unfold dr;rw[hf]);rw[e2];rw[show dr k v (dr k v' m)=(match aT k 0 (dr k v' m) with|some (i,_)=>(dr k v' m).set i (k,v)|none=>dr k v' m++[(k,v)]) from rfl,this,e1];simp
 |some x=>
  obtain⟨j,u⟩:=x;rw[hf] at this;simp only at this;(have e1:dr k v' m=m.set j (k,v'):=by unfold dr;rw[hf]);(have e2:dr k v m=m.set j (k,v):=by unfold dr;rw[hf]);rw[e2];rw[show dr k v (dr k v' m)=(match aT k 0 (dr k v' m) with|some (i,_)=>(dr k v' m).set i (k,v)|none=>dr k v' m++[(k,v)]) from rfl,this,e1];simp
def M9(sz:Nat)(q:List (PV×List PV)):List (PV×PV):=q.map λx=>(x.1,.sl sz false x.2)
theorem wX(sz:Nat)(k:PV):∀(q:List (PV×List PV)) (i:Nat),aT k i (M9 sz q)=(aT k i q).map λx=>(x.1,PV.sl sz false x.2)
 |[],i=>rfl
 |(k',l)::r,i=>by
  have ih:=wX sz k r (i+1);simp only[M9,bE,aT] at ih ⊢;split
  · rfl
  · exact ih
theorem Na(sz:Nat)(k:PV)(q:List (PV×List PV)):cK k (M9 sz q)=(cK k q).map (PV.sl sz false):=by
 unfold cK;rw[wX];cases aT k 0 q<;>rfl
section
variable{P:au}{F:Nat->Prop}{μ:aN}{σ:ab}{w:aj}
theorem Fy.rp{c sz:Nat}{v:ah}{l:List PV}(h:Fy F w c sz v l)(h0:0<sz):RP (λb=>F b\/b=c) w v (.sl sz false l):=by
 obtain⟨bQ,off,cap,cur,t,⟨e1,e2,e3,e4,e5⟩,g1,g2,g3⟩:=h
 let μ0:aN:=⟨λi=>if i=0 then some c else none,λ_ _=>False⟩
 have hm:μ0 0=some c:=rfl
 have ie:RV F μ0 w v (.bo 0 sz 0 l.length):=by
  rw[e1];refine .bo _ _ _ _ _ (.dJ 0 sz (0*sz) off l.length cap c t cur.size hm ?_ (by simp[cC,g1]) (by omega) e4 e5);rcases e2 with e2|e2
  · exact .inl e2
  · right;omega
 have gk:RO F μ0 w c (.row sz l):=⟨bQ,cur,t,g1,g2,λj p hp=>by
  unfold bc at hp;rw[aW] at hp;obtain⟨p',gj,rfl⟩:=cm.1 hp
  exact .p (g3 j p' gj)⟩
 have:=lL.bo (σ:=[(0,.row sz l)]) (Z:=(· =0)) (o:=0) (sz:=sz) (i:=0) (len:=l.length) (l:=l) rfl rfl h0 (by omega) F μ0 w v (λo b ho _ hb=>by
  subst ho
  rw[hm] at hb;injection hb with hb;subst hb
  exact gk) ie
 rw[List.drop_zero,eG] at this;refine this.mono (λb hb=>?_) (λ_ _=>rfl);rcases hb with hb|⟨o,rfl,_,hb⟩
 · exact .inl hb
 · rw[hm] at hb;injection hb with hb;exact .inr hb.symm
theorem az.shut(h:az F μ σ w){o sz:Nat}{kt:KT}{q:List (PV×List PV)}(ho:σ.get o= .cN kt sz (hM q))(h0:0<sz):
 ∃F' μ',Step F μ w F' μ' w/\az F' μ' ((o,.map kt (M9 sz q))::σ) w/\ ∀i,μ' i=μ i:=by
 (have Bn:σ.get o≠ .dead:=by rw[ho];simp);obtain⟨b,hb⟩:=h.has o Bn;have gk:=h.obj o b hb;rw[ho] at gk;obtain⟨k0,es,clock,h1,h2,h3,c,h4,h5⟩:=gk
 let F':Nat->Prop:=λx=>F x\/μ.oW x b
 let μ':aN:=⟨μ,λx y=>μ.oW x y/\y≠b⟩
 have cu:Step F μ w F' μ' w:=⟨rfl,rfl,rfl,aX _,λ_ _=>rfl,λ_ _ _=>rfl,λ_ _ h=>h,λ_ h=>.inl h,λx hx=>by
  rcases hx with hx|hx
  · exact .inl hx
  · exact .inr (.inl (.inr ⟨b,hx⟩)),λ_ _ h=>h,λx hx=>by
  rcases hx with⟨i,hi⟩|⟨y,hy,_⟩
  · exact .inl (.inl ⟨i,hi⟩)
  · exact .inl (.inr ⟨y,hy⟩)⟩
 have nd:∀i,ab.get ((o,.map kt (M9 sz q))::σ) i≠ .dead->σ.get i≠ .dead:=λi hi=>by
  rcases fj (o:=o) (x:= .map kt (M9 sz q)) (σ:=σ) i with⟨e,_⟩|⟨_,e⟩
  · rw[e];exact Bn
  · rw[e] at hi;exact hi
 refine⟨F',μ',cu,⟨h.fb.st cu λx hx=>?_,λx hx=>?_,λi hi=>h.has i (nd i hi),λi x hx=>?_,λi x hi hx hF=>?_,λi j x hi hj=>h.inj i j x (nd i hi) (nd j hj),λx y Fl=>⟨λhF=>?_,λi hi=>(h.hd x y Fl.1).2 i (nd i hi)⟩,λx y z hy hz=>h.hu x y z hy.1 hz.1⟩,λ_=>rfl⟩
 · rcases hx with hx|hx
   · exact h.fb x hx
   · exact h.mb x (.inr ⟨b,hx⟩)
 · rcases cu.fV x hx with hx|hx
   · exact h.mb x hx
   · rcases ‹μ'.has x› with⟨i,hi⟩|⟨y,hy,_⟩
     · exact h.mb x (.inl ⟨i,hi⟩)
     · exact h.mb x (.inr ⟨y,hy⟩)
 · have hx:μ i=some x:=hx
   rcases fj (o:=o) (x:= .map kt (M9 sz q)) (σ:=σ) i with⟨e,e2⟩|⟨e,e2⟩
   · rw[e2]
     rw[e,hb] at hx;injection hx with hx;subst hx
     refine⟨λy hy=>?_,es,clock,h1,by simpa[M9,hM] using h2,h3,λj k v hj=>?_⟩
     · unfold M9 at hy
       obtain⟨z,hz,rfl⟩:=aY.1 hy;exact k0 (z.1,.h z.2) (aY.2 ⟨z,hz,rfl⟩)
     · unfold M9 at hj
       rw[aW] at hj;obtain⟨⟨k',l⟩,hz,e⟩:=cm.1 hj;injection e with e1 e2;subst e1;subst e2;obtain⟨e,g1,g2,g3,g4⟩:=h4 j k' (.h l) (by unfold hM;rw[aW,hz];rfl);refine⟨e,g1,g2.mono cu.sub cu.fr,(g4.rp h0).mono (λx hx=>?_) (λ_ _=>rfl)⟩;rcases hx with hx|hx
       · exact .inl hx
       · subst hx;exact .inr g3
   · rw[e2]
     by_cases hd:σ.get i= .dead
     · rw[hd];trivial
     · refine(h.obj i x hx).step cu rfl λy hy=>⟨⟨hy,λe'=>?_⟩,rfl⟩
       exact e (h.inj i o b hd Bn (e'▸hx) hb)
 · rcases hF with hF|hF
   · exact h.live i x (nd i hi) hx hF
   · exact(h.hd x b hF).2 i (nd i hi) hx
 · rcases hF with hF|hF
   · exact(h.hd x y Fl.1).1 hF
   · exact Fl.2 (h.hu x y b Fl.1 hF)
theorem di.shut{C:Cx P}{env:Env}{hp:ab}{nx yk o sz:Nat}{kt:KT}{q:List (PV×List PV)}(ho:hp.get o= .cN kt sz (hM q))(h0:0<sz):di C ⟨env,hp,nx,yk⟩ ⟨env,(o,.map kt (M9 sz q))::hp,nx,yk⟩:=λd0 F μ a w hs=>by
 obtain⟨F',μ',h1,h2,h3⟩:=hs.h.shut ho h0;exact⟨F',μ',⟨h2,λi hi=>by rw[h3];exact hs.fresh i hi,hs.size,λt=>(hs.env t).step h1,hs.nI.base h1.base rfl,hs.rd.base h1.base,hs.nm,hs.j.base h1.base rfl⟩,h1.base,.step h1⟩
theorem Sq.shut{C:Cx P}{V:List Nat}{id:Nat}{env:Env}{hp:ab}{nx yk:Nat}{Q:St->Prop}(o:Nat){sz:Nat}{kt:KT}{q:List (PV×List PV)}(ho:hp.get o= .cN kt sz (hM q))(h0:0<sz)(k:Sq C V id Q ⟨env,(o,.map kt (M9 sz q))::hp,nx,yk⟩):Sq C V id Q ⟨env,hp,nx,yk⟩:=
 Sq.Ob _ (di.shut ho h0) k
theorem Lp.Ob{C:Cx P}{c:Code}{s s':St}{K:Kt}(h:di C s s')(k:Lp C c s' K):Lp C c s K:=⟨bY.Ob h k.w⟩
theorem di.na{C:Cx P}{env:Env}{hp:ab}{nx yk:Nat}(o sz:Nat){kt:KT}(ho:hp.get o= .map kt []):di C ⟨env,hp,nx,yk⟩ ⟨env,(o,.cN kt sz (hM []))::hp,nx,yk⟩:=λd0 F μ a w hs=>by
 have h:=az.OK (o:=o) (x:= .map kt []) (y:= .cN kt sz (hM [])) (σ:=hp) (F:=F) (μ:=μ) (w:=w) (hs.h.congr λi=>by
  rw[ab.cI];split
  · rename_i e;rw[<-e];exact ho.symm
  · rfl) (λh=>bJ.noConfusion h) (λb hr=>by
    obtain⟨h0,es,clock,h1,h2,h3,h4⟩:=hr
    exact⟨by simp[hM],es,clock,h1,h2,h3,λ_=>0,λi k x hx=>by simp[hM] at hx,λi j k k' l l' hi=>by simp[hM] at hi⟩)
 exact⟨F,μ,⟨h,hs.fresh,hs.size,hs.env,hs.nI,hs.rd,hs.nm,hs.j⟩,dO.refl F μ w,Kp.refl _ _⟩
theorem Lp.na{C:Cx P}{c:Code}{env:Env}{hp:ab}{nx yk:Nat}{K:Kt}(o sz:Nat){kt:KT}(ho:hp.get o= .map kt [])(k:Lp C c ⟨env,nK [] ((o,.cN kt sz (hM []))::hp) [],nx,yk⟩ K):Lp C c ⟨env,hp,nx,yk⟩ K:=
 Lp.Ob ((di.na o sz ho).trans di.hp) k
end
def fK.once(P:au)(F0:Nat->Prop)(μ0:aN)(w0:aj):fK P where
 it:=true
 nm:=true
 J:=λ_ F μ w=>dO F0 μ0 w0 F μ w
 l:=0
 xs:=[]
 stop:=0
 cl:=λh k=>h.trans k
 R8:=λ_ {k} {F} {μ} {w} {vs} {x} ro n hj h1 h2 h3=>h3.elim (λh=>absurd h.1 (by simp)) λh=>h.elim
def rA(kp:List Nat):Env->Env
 |[]=>[]
 |(t,v)::r=>(t,match v with|.ptr o off=>(match kp.contains o with|true=>.ptr o off|false=>.any)|_=>.any)::rA kp r
theorem Jr(kp:List Nat)(env:Env)(t:Nat):(rA kp env).get t= .any\/ ∃o off,o∈kp/\env.get t= .ptr o off/\(rA kp env).get t= .ptr o off:=by
 induction env with
 |nil=>exact .inl rfl
 |cons x r ih=>
  obtain⟨u,v⟩:=x;simp only[rA,Env.get];split
  · rename_i e
    split
    · rename_i o off
      split
      · rename_i h
        exact .inr ⟨o,off,by simpa using h,rfl,rfl⟩
      · exact .inl rfl
    · exact .inl rfl
  · exact ih
def El(kp:List Nat):List AV->Bool
 |[]=>true
 |.ptr o _::r=>kp.contains o&&El kp r
 |_::_=>false
theorem zP{kp:List Nat}:∀{l:List AV} {i:Nat} {a:AV},El kp l=true->l[i]? =some a->∃o off,a= .ptr o off/\o∈kp
 |[],i,a,_,h=>by simp at h
 |x::r,i,a,hp,h=>by
  (cases x<;>simp only[El] at hp<;>try(cases hp;done));rename_i o off;simp only[aQ] at hp
  cases i with
  |zero=>simp at h;subst h;exact⟨o,off,rfl,by simpa using hp.1⟩
  |succ i=>simp at h;exact zP hp.2 h
theorem RV.kp{F F':Nat->Prop}{μ μ':aN}{w w':aj}{kp:List Nat}{v:ah}{o off:Nat}(h:RV F μ w v (.ptr o off))(ho:o∈kp)(hk:Kp kp μ μ'):RV F' μ' w' v (.ptr o off):=by
 cases h with
 |ptr _ _ b hb=>exact .ptr o off b (hk o ho b hb)
theorem di.ofAK{P:au}{C:Cx P}{V:List Nat}{env bO ov:Env}{hp gj oh:ab}{nx nx0 yk T9:Nat}(Z:List Nat) (h:ya ov bO V λbO=>x9 oh gj [] λgj=>CX env bO (C.kp.map λo=>(o,o)) λR=>rk hp gj R λR=>rk hp gj R λR=>
 (rm R=true/\WN nx0 R=true/\WO R C.kp=true)/\T9=yk/\uJ hp (· ∈Z) (gM R) env bO/\fe hp (· ∈Z) (gM R) gj):di C ⟨env,hp,nx,yk⟩ (kj V bO gj nx0 ov oh T9):=by
 rw[Ej,vU] at h;exact di.ofK Z h
section
variable{P:au}
def SG(P:au)(G:fK P)(kp:List Nat)(Nd:Nat)(Vd:List Nat)(pY:Code)(ds:List Nat)(cap:List AV)(res:List ResultVar)(R:PV->Prop)(q:PV)(s:St):Prop:=
 aw ⟨Nd,G,kp⟩ Vd pY ⟨(ds.map λd=>(d,.p q))++dT 0 cap,s.hp,s.nx,s.yk⟩
  ⟨λs'=>∃r,R r/\zy P res r ⟨rA kp s.env,s'.hp,s'.nx,s'.yk⟩,λ_ _=>False,λs'=>∃r,R r/\zy P res r ⟨rA kp s.env,s'.hp,s'.nx,s'.yk⟩,λ_ _=>False⟩
def Py(P:au)(G:fK P)(kp:List Nat)(N Nd:Nat)(V Vd:List Nat)(rest pY:Code)(ds:List Nat)(fd:Nat)(x:aL)(Ye:Array aL)(res:List ResultVar)(R:PV->Prop)(s:St):Prop:=
 match dP (bP s.env x) (Ye.toList.map (bP s.env)) with
 |some (f,cap)=>(f=fd/\El kp cap=true/\cap.length<=Nd)/\aw ⟨N,G,kp⟩ V rest s ⟨SG P G kp Nd Vd pY ds cap res R .p9,λ_ _=>False,SG P G kp Nd Vd pY ds cap res R .p9,λq s=>SG P G kp Nd Vd pY ds cap res R q s⟩
 |none=>False
def Yf(G:fK P)(pre:List aH)(s:St)(K:St->Prop):Prop:=
 match pre with
 |[]=>K s
 |o::_=>WG G o.op o.dst s.env s.hp s.nx s.yk (λenv hp nx yk=>K ⟨env,hp,nx,yk⟩) (λ_ _=>False)
theorem Nb{C:Cx P}{d0:D0}{F:Nat->Prop}{μ:aN}{a:Act}{w:aj}{ops:Array aH}{pre:List aH}{o2:aH}{s:St}{n:Nat}{Q:Exit->Act->aj->Prop}{K:St->Prop}(hl:pre.length<=1)(hg:∀o∈pre,o.guard=none)(hd:∀o∈pre,∀d,o.dst=some d->d<C.N)(hs:oT C d0 F μ s a w)
 (h:Yf C.G pre s K) (hk:∀s' F' μ' a' w',K s'->oT C d0 F' μ' s' a' w'->wpListIn (fc d0.ro) n P ops Q [o2] a' w'):wpListIn (fc d0.ro) n P ops Q (pre++[o2]) a w:=by
 cases pre with
 |nil=>exact hk s F μ a w h hs
 |cons o r=>
  obtain rfl:r=[]:=List.length_eq_zero_iff.1 (by simpa using hl);have h:WG C.G o.op o.dst s.env s.hp s.nx s.yk (λenv hp nx yk=>K ⟨env,hp,nx,yk⟩) (λ_ _=>False):=h;rw[Pk] at h;show wpListIn (fc d0.ro) n P ops Q (o::[o2]) a w;rw[wpListIn,show je o (yielded ops a.tmps)=true by unfold je;rw[hg o (by simp)],if_pos rfl];exact CJ (hd o (by simp)) hs h (λs' F' μ' a' w' m1 _ _ m4=>hk s' F' μ' a' w' m1 m4) (λ_ _ _ _ _ _ hh=>hh.elim)
theorem Em{F0:Nat->Prop}{μ0:aN}{w0:aj}{kp:List Nat}{N:Nat}{d0:D0}{F:Nat->Prop}{μ:aN}{s:St}{a:Act}{w:aj}
 (h:oT (P:=P) ⟨N,fK.once P F0 μ0 w0,kp⟩ d0 F μ s a w):a.defers=d0.ds:=by
 exact h.nm rfl
theorem cB.ofD{f fd:bf}{fn wY:Func}{r0 rest pY:Code}{id idd:Nat}{ops G':Array aH}{o2 p1:aH}{ps:List aH}{N Nd d1:Nat}{ds:List Nat}{res:List ResultVar}{x:aL}{Ye:Array aL}{ats:Array an}{as:List PV}{R:PV->Prop}(kp:List Nat)(pre:List aH)
 (hm:P.follows .mixedOrders=true) (hf:P.funcs[f]? =some fn) (hb:fn.body=some (.seq r0 (.seq (.region id ops false) rest))) (hN:fn.ntmps=N) (hr:fn.results.toList=res) (bQ:q9 N (.seq r0 (.seq (.region id ops false) rest))=true)
 (ha:as.length<=N) (Bw:ops.toList=pre++[o2]) (Il:pre.length<=1) (g1:∀o∈pre,o.guard=none) (g2:o2.guard=none) (hop2:o2.op= .defer { callee:= .value x,args:=Ye,argTypes:=ats }) (Yg:o2.dst=none)
 (hfd:P.funcs[fd]? =some wY) (r7:wY.body=some (.seq (.region idd G' false) pY)) (hNd:wY.ntmps=Nd) (WQ:wY.results= #[]) (Vu:q9 Nd (.seq (.region idd G' false) pY)=true) (Le:G'.toList=p1::ps)
 (q1:p1.guard=none) (Rf:∀ev w,(execOp ev p1).run P w= .ok .recover w) (hpa:∀ev w,p1.about P w ev=none) (Be:p1.dst=some d1) (BA:d1<Nd) (FI:(ps=[]/\ds=[d1])\/ ∃p2 d2,ps=[p2]/\p2.guard=none/\p2.op= .assign (.tmp d1)/\p2.dst=some d2/\ds=[d2,d1]) (gp:enters P fd=true)
 (V0 V Vd:List Nat)
 (h:∀G:fK P,G.it=true->aw ⟨N,G,kp⟩ V0 r0 ⟨dT 0 (as.map .p),[],0,0⟩ ⟨λs=>Yf G pre s (Py P G kp N Nd V Vd rest pY ds fd x Ye res R),λ_ _=>False,λ_=>False,λ_ _=>False⟩):cB P f as R:=by
 intro F w vs hF oS ie;rw[<-jt (ro:=none) (n:=0)];refine callsIn_of_wp_marks hf hb trivial ?_ rfl;have Yh:∀o:Nat,aN.no o=none:=λ_=>rfl
 let G:=fK.once P F aN.no w
 let C:Cx P:=⟨N,G,kp⟩
 simp only[q9,aQ] at bQ Vu
 have iR:(vs++gT (fn.ntmps-vs.size) undef).size=N:=by
  have h1:vs.size<=N:=by rw[oS];exact ha
  simp[hN];omega
 have hs:oT C ⟨[],0,none,λ_=>False,λ_=>False,w⟩ F aN.no ⟨dT 0 (as.map .p),[],0,0⟩ { tmps:=vs++gT (fn.ntmps-vs.size) undef,defers:=[] } w:=by
  refine⟨az.nil hF,λ_ _=>rfl,iR,λt=>?_,⟨[],⟨List.nodup_nil,de _⟩,rfl,by simp⟩,(λl hl=>by cases hl),λ_=>rfl,JE.start (dO.refl _ _ _) (λr hr=>by cases hr)⟩;rw[pn];simp only[de,if_true,Nat.sub_zero];split
  · rename_i p hp
    have aC:t<vs.size:=by
     have:=(aq.1 hp).1;rw[oS];simpa using this
    show RV F _ w ((vs++gT (fn.ntmps-vs.size) undef)[t]?.getD undef) _;rw[iY aC];simp only[aW,cm] at hp;obtain⟨q,hq,rfl⟩:=hp;exact .p (ie t q hq)
  · exact .any _
 refine wpIn_seq (j8 (C:=C) hm V0 r0 _ _ (h G rfl) bQ.1 0 _ ⟨[],0,none,λ_=>False,λ_=>False,w⟩ F _ _ w hs λe s1 F1 Ij a1 w1 k1 k2 k3 k4=>?_)
 have k1n:∀{A:Prop},e≠ .normal->A:=λ{A} he=>by
  cases e with
  |normal=>exact absurd rfl he
  |exit j=>exact k1.elim
  |ret=>exact k1.elim
  |panic ch=>obtain⟨p,hp,_⟩:=k1;exact hp.elim
  |goto l=>exact k1.elim
  |outgrown=>exact k1.elim
 rcases mQ (e= .normal) with rfl|he
 rotate_left
 · exact k1n he
 clear k1n;refine wpIn_seq (wpIn_region_list ?_);rw[Bw];have U3:sO N ops.toList=true:=bQ.2.1;refine Nb (C:=C) Il g1 (λo ho d hd=>iu U3 o (by rw[Bw];exact List.mem_append_left _ ho) d hd) k4 k1 (λs2 F2 jL a2 w2 m1 m4=>?_);simp only[wpListIn];rw[show je o2 (yielded ops a2.tmps)=true by unfold je;rw[g2],if_pos rfl];refine⟨cM _ _ _,?_⟩;unfold Py at m1;split at m1
 · rename_i fx cap aR
   obtain⟨⟨rfl,gX,tX⟩,Lf⟩:=m1;obtain⟨us,SH,e0,e2,e4⟩:=wO (a:=a2) (λy=>gu m4.h.fb.gl m4.env y) aR;obtain⟨qg,Yi⟩:∃qg:Array ah,qg=us++Ye.map a2.eval:=⟨_,rfl⟩;rw[<-Yi] at e2 e4;obtain⟨bs,T5⟩:∃bs:Array ah,bs=qg++SH:=⟨_,rfl⟩;rw[<-T5] at e2 e4
   have cY:(Oper.semAt none a2.eval o2).run P w2= .ok (.defer { target:= .fn (.func fx) SH,args:=qg }) w2:=by
    rw[Oper.semAt_none];simp only[execOp,hop2,resolve,e0,Deferred.ofValue,bu,cg,bD,Yi]
   rw[show(fc (⟨[],0,none,λ_=>False,λ_=>False,w⟩:D0).ro).round=none from rfl,cY,Oper.uponIn_defer];have zt:a2.defers=[]:=Em m4
   have hs3:oT C ⟨[{ target:= .fn (.func fx) SH,args:=qg }],0,none,λ_=>False,λ_=>False,w2⟩ F2 jL s2 ({ a2 with defers:={ target:= .fn (.func fx) SH,args:=qg }::a2.defers }.put o2.dst undef) w2:=by
    rw[Yg];refine⟨m4.h,m4.fresh,m4.size,m4.env,⟨[],⟨List.nodup_nil,de _⟩,?_,by simp⟩,(λl hl=>by cases hl),λ_=>?_,JE.start m4.j.j (λr hr=>?_)⟩
    · show _::a2.defers=_
      rw[zt];rfl
    · show _::a2.defers=_
      rw[zt]
    · have hr:nH r∈({ target:= .fn (.func fx) SH,args:=qg }:Deferred)::a2.defers:=hr
      rw[zt] at hr;simp[nH] at hr
   show rest.wpIn _ _ _ _ _ _;refine j8 (C:=C) hm V rest _ _ Lf bQ.2.2 0 _ ⟨[{ target:= .fn (.func fx) SH,args:=qg }],0,none,λ_=>False,λ_=>False,w2⟩ F2 jL _ w2 hs3 λe s4 F4 CU a4 w4 n1 n2 n3 n4=>?_;have hdf4:a4.defers=[{ target:= .fn (.func fx) SH,args:=qg }]:=Em n4
   have fin:∀(q:PV) (v:ah) (u:FrameMode) (rc:List Frame->Frame->Option (ah×List Frame)),RP F4 w4 v q->(∀(c0:Frame) (cs:List Frame),c0.mode=u->
    ∃u2,settle u2= .returning/\((recoverD (c0::cs)=some (v,{ c0 with mode:=u2 }::cs))\/(recoverD (c0::cs)=none/\v= .nilIface/\u2=u)))->u≠ .run->SG P G kp Nd Vd pY ds cap res R q s4->
    LeavesInM (fc none) 0 P fn a4.tmps (λe w'=>∃v F' r,R r/\e= .returned v/\dO F aN.no w F' aN.no w'/\(∀b,F' b->b<w'.heap.size)/\RP F' w' v r) a4.defers u w4:=by
    intro q v u rc hvq ri hu oF;rw[hdf4];refine⟨hu,.inr ⟨(λh=>by simp[fc,fY] at h),.func fx,SH,fx,bs,rfl,?_,λ_ _=>trivial,?_⟩⟩
    · show(invoke (.fn (.func fx) SH) qg).run P w4=_
      simp only[invoke,<-T5];exact j5 gp _ _
    refine callsDIn_of_wpSIn hfd r7 trivial λc0 cs FN=>?_;obtain⟨u2,DN,A6⟩:=ri c0 cs FN;refine wpSIn_seq (wpSIn_region ?_);(have Yj:G'.size=ps.length+1:=by have:=congrArg kQ Le;simpa using this);(have hg0:G'[0]? =some p1:=by have:=congrArg (λl=>l[0]?) Le;simpa using this);(have tY:bs.size<=Nd:=by rw[e2];exact tX);have Yk:(bs++gT (wY.ntmps-bs.size) undef).size=Nd:=by simp[hNd];omega
    have key:∀(a5:Act) (sP:List Frame),a5.defers=[]->a5.tmps.size=Nd->(∀t,RV F4 CU w4 (a5.tmps[t]?.getD undef) (Env.get ((ds.map λd=>(d,AV.p q))++dT 0 cap) t))->sP= { c0 with mode:=u2 }::cs->pY.wpSIn (fc none) (0-1) P (bodyPostS P wY c0 cs fun
     |.returned _,u',w'=>LeavesInM (fc none) 0 P fn a4.tmps (λe w'=>∃v F' r,R r/\e= .returned v/\dO F aN.no w F' aN.no w'/\(∀b,F' b->b<w'.heap.size)/\RP F' w' v r) [] (settle u') w'
     |.panicked chain,u',w'=>LeavesInM (fc none) 0 P fn a4.tmps (λe w'=>∃v F' r,R r/\e= .returned v/\dO F aN.no w F' aN.no w'/\(∀b,F' b->b<w'.heap.size)/\RP F' w' v r) [] (raised u' chain) w'
     |.outgrown,_,w'=>∃v F' r,R r/\Ending.outgrown= .returned v/\dO F aN.no w F' aN.no w'/\(∀b,F' b->b<w'.heap.size)/\RP F' w' v r)
     a5 sP w4:=by
     intro a5 sP hd5 hs5 he5 jH;subst jH;refine wpSIn_of_wpIn rfl ?_
     have nR:oT (P:=P) ⟨Nd,G,kp⟩ ⟨[],0,none,λ_=>False,λ_=>False,w4⟩ F4 CU ⟨(ds.map λd=>(d,.p q))++dT 0 cap,s4.hp,s4.nx,s4.yk⟩ a5 w4:=
      ⟨n4.h,n4.fresh,hs5,he5,⟨[],⟨List.nodup_nil,de _⟩,hd5,by simp⟩,(λl hl=>by cases hl),λ_=>hd5,JE.start n4.j.j (λr hr=>by rw[hd5] at hr;cases hr)⟩
     refine j8 (C:=⟨Nd,G,kp⟩) hm Vd pY _ _ oF Vu.2 (0-1) _ ⟨[],0,none,λ_=>False,λ_=>False,w4⟩ F4 CU _ w4 nR λe s5 F5 ZY a5 w5 l1 l2 l3 l4=>?_;have hdf5:a5.defers=[]:=Em l4
     have out:(∃r,R r/\zy P res r ⟨rA kp s4.env,s5.hp,s5.nx,s5.yk⟩)->a5.defers=[]/\ ∃u',({ c0 with mode:=u2 }::cs:List Frame)= { c0 with mode:=u' }::cs/\ ∃v,(results wY a5.tmps).run P w5= .ok v w5/\
      LeavesInM (fc none) 0 P fn a4.tmps (λe w'=>∃v F' r,R r/\e= .returned v/\dO F aN.no w F' aN.no w'/\(∀b,F' b->b<w'.heap.size)/\RP F' w' v r) [] (settle u') w5:=by
      rintro⟨r,hR,hK⟩;refine⟨hdf5,u2,rfl,.tuple #[],?_,?_⟩
      · unfold results
        rw[WQ];simp
      rw[DN]
      have henv:∀t,RV F5 ZY w5 (a4.tmps[t]?.getD undef) ((rA kp s4.env).get t):=λt=>by
       rcases Jr kp s4.env t with h|⟨o,off,ho,h1,h2⟩
       · rw[h];exact .any _
       · rw[h2]
         have:=n4.env t;rw[h1] at this;exact this.kp ho l3
      obtain⟨us,GY,z1,z2,z3,z4⟩:=jB l4.h henv res _ hK;obtain⟨p,Z,p1,_,p2,p3⟩:=(jW 60).1 (Jj GY) [] _ (by simp[kA]) z1;have hB:dO F aN.no w F5 ZY w5:=l4.j.j;refine⟨_,?_,_,(λb=>F5 b\/ ∃o,o∈Z/\s5.hp.get o≠ .dead/\ZY o=some b),r,hR,rfl,⟨hB.os,hB.tape,hB.output,hB.size,hB.fr,hB.old,hB.shape,λb hb=>.inl (hB.sub b hb),?_,λb h=>(aN.lN h).elim⟩,?_,p1.le _ _ _ (p3 F5 ZY w5 _ (λo b _ _ CF=>l4.h.obj o b CF) (vV z2 z3))⟩
      · have e:results fn a4.tmps=(do let vs <-fn.results.mapM (tD a4.tmps);pure (if h:vs.size=1 then vs[0] else .tuple vs)):=rfl
        rw[e,<-Array.toArray_toList (xs:=fn.results),hr,List.mapM_toArray];simp only[bu,map_eq_pure_bind,cg,z4 w5 (λ_ _=>rfl),bD]
      · rintro b (hb|⟨o,_,_,hb⟩)
        · exact hB.jG b hb
        · rcases hB.fV b (.inl ⟨o,hb⟩) with h|h
          · exact .inr (.inl h)
          · exact .inr (.inr h)
      · rintro b (hb|⟨o,_,_,hb⟩)
        · exact l4.h.fb b hb
        · exact l4.h.mb b (.inl ⟨o,hb⟩)
     cases e with
     |normal=>exact out l1
     |ret=>exact out l1
     |exit j=>exact l1.elim
     |goto l=>exact l1.elim
     |panic ch=>obtain⟨p,hp,_⟩:=l1;exact hp.elim
     |outgrown=>exact l1.elim
    have base:∀t,RV F4 CU w4 ((bs++gT (wY.ntmps-bs.size) undef)[t]?.getD undef) ((dT 0 cap).get t):=λt=>by
     rw[pn];simp only[de,if_true,Nat.sub_zero];split
     · rename_i p hp
       (have aC:t<bs.size:=by rw[e2];exact(aq.1 hp).1);rw[iY aC];obtain⟨o,off,rfl,ho⟩:=zP gX hp;exact(e4 t _ hp).kp ho n3
     · exact .any _
    have Yl:∀t,RV F4 CU w4 ((({ tmps:=bs++gT (wY.ntmps-bs.size) undef,defers:=[] }:Act).put (some d1) v).tmps[t]?.getD undef) (Env.get ((d1,.p q)::dT 0 cap) t):=
     sj (a:={ tmps:=bs++gT (wY.ntmps-bs.size) undef,defers:=[] }) (env:=dT 0 cap) (dst:=some d1) base (λd hd=>by injection hd with hd;subst hd;rw[Yk];exact BA) (.p hvq)
    (have T':je p1 (yielded G' (bs++gT (wY.ntmps-bs.size) undef))=true:=by unfold je;rw[q1]);rcases FI with⟨rfl,rfl⟩|⟨p2,d2,rfl,q2,SA,IM,rfl⟩
    · rw[Yj,show cJ (([]:List aH).length+1)=[0] from rfl]
      simp only[wpOpsSIn,hg0];refine⟨cM _ _ _,?_⟩;rw[T',if_pos rfl,Rf];have Ym:=λsP=>key (({ tmps:=bs++gT (wY.ntmps-bs.size) undef,defers:=[] }:Act).put p1.dst v) sP (by rw[Be];rfl) (by rw[Be];simp only[Act.put,Array.size_setIfInBounds];exact Yk) (by rw[Be];exact Yl);rcases A6 with A6|⟨A6,rfl,rfl⟩
      · simp only[A6]
        exact Ym _ rfl
      · simp only[A6]
        exact Ym _ (by rw[<-FN])
    · have hg1:G'[1]? =some p2:=by have:=congrArg (λl=>l[1]?) Le;simpa using this
      rw[Yj,show cJ ([p2].length+1)=[0,1] from rfl];simp only[wpOpsSIn,hg0,hg1];refine⟨cM _ _ _,?_⟩;rw[T',if_pos rfl,Rf]
      have K1:(execOp (({ tmps:=bs++gT (wY.ntmps-bs.size) undef,defers:=[] }:Act).put p1.dst v).eval p2).run P w4= .ok (.value v) w4:=by
       have Mt:(({ tmps:=bs++gT (wY.ntmps-bs.size) undef,defers:=[] }:Act).put p1.dst v).eval (.tmp d1)=v:=by
        rw[Be];simp only[Act.put,Act.eval,Array.getD_eq_getD_getElem?];rw[Array.getElem?_setIfInBounds_self_of_lt (by rw[Yk];exact BA)];rfl
       simp only[execOp,SA,Mt,cg]
      (have Yn:∀tm,je p2 (yielded G' tm)=true:=λtm=>by unfold je;rw[q2]);have dd2:d2<Nd:=iu Vu.1 p2 (by rw[Le];simp) d2 IM
      have Yo:=λsP=>key (({ tmps:=bs++gT (wY.ntmps-bs.size) undef,defers:=[] }:Act).put p1.dst v |>.put p2.dst v) sP (by rw[Be,IM];rfl) (by rw[Be,IM];simp only[Act.put,Array.size_setIfInBounds];exact Yk)
       (by rw[Be,IM];exact sj (a:=({ tmps:=bs++gT (wY.ntmps-bs.size) undef,defers:=[] }:Act).put (some d1) v) (env:=(d1,.p q)::dT 0 cap) (dst:=some d2) Yl (λd hd=>by injection hd with hd;subst hd;simp only[Act.put,Array.size_setIfInBounds];rw[Yk];exact dd2) (.p hvq))
      rcases A6 with A6|⟨A6,rfl,rfl⟩
      · simp only[A6]
        refine⟨cM _ _ _,?_⟩;rw[Yn,if_pos rfl,K1];exact Yo _ rfl
      · simp only[A6]
        refine⟨cM _ _ _,?_⟩;rw[Yn,if_pos rfl,K1];exact Yo _ (by rw[<-FN])
   cases e with
   |normal=>exact fin .p9 .nilIface .returning (λ_ _=>none) .p9 (λc0 cs hc=>⟨.returning,rfl,.inr ⟨by simp[recoverD,hc],rfl,rfl⟩⟩) (by simp) n1
   |ret=>exact fin .p9 .nilIface .returning (λ_ _=>none) .p9 (λc0 cs hc=>⟨.returning,rfl,.inr ⟨by simp[recoverD,hc],rfl,rfl⟩⟩) (by simp) n1
   |exit j=>exact n1.elim
   |goto l=>exact n1.elim
   |panic ch=>
    obtain⟨p,hp,v,rfl,hv⟩:=n1;exact fin p v (.panicking [{ v,recovered:=false }]) (λ_ _=>none) hv (λc0 cs hc=>⟨.panicking [{ v,recovered:=true }],rfl,.inl (by simp[recoverD,hc])⟩) (by simp) hp
   |outgrown=>exact n1.elim
 · exact m1.elim
end
section
variable{P:au}{F:Nat->Prop}{μ:aN}{σ:ab}{w:aj}
theorem az.hide(ar:az F μ σ w){o n sz i:Nat}{kt:KT}{l:List (PV×MV)}{key:PV}{r:List PV}(ho:σ.get o= .cN kt sz l)(hn:σ.get n= .row sz r)(bV:n≠o)(km:l[i]? =some (key,.v (.bo n sz 0 r.length))):
 ∃μ',Step F μ w F μ' w/\az F μ' ((o,.cN kt sz (l.set i (key,.h r)))::(n,.dead)::σ) w/\ ∀i,μ' i=μ i:=by
 (have Bn:σ.get o≠ .dead:=by rw[ho];simp);(have Cg:σ.get n≠ .dead:=by rw[hn];simp);obtain⟨b,hb⟩:=ar.has o Bn;have gk:=ar.obj o b hb;rw[ho] at gk;obtain⟨h0,es,clock,h1,h2,h3,c,h4,h5⟩:=gk;obtain⟨d,hd⟩:=ar.has n Cg;obtain⟨en,g1,g2,g3⟩:=h4 i key _ km;have D2:=TV.h ar hn rfl rfl g3 hd;have hdb:d≠b:=λx=>bV (ar.inj n o b Cg Bn (x▸hd) hb);have hdF:¬ F d:=ar.live n d Cg hd
 let μ':aN:=⟨μ,λx y=>μ.oW x y\/(x=d/\y=b)⟩
 have cu:Step F μ w F μ' w:=⟨rfl,rfl,rfl,aX _,λ_ _=>rfl,λ_ _ _=>rfl,λ_ _ h=>h,λ_ h=>h,λ_ h=>.inl h,λ_ _ h=>h,λk hk=>by
  rcases hk with⟨i,hi⟩|⟨x,hx|⟨rfl,_⟩⟩
  · exact .inl (.inl ⟨i,hi⟩)
  · exact .inl (.inr ⟨x,hx⟩)
  · exact .inl (.inl ⟨n,hd⟩)⟩
 have old:∀{x:MV} {k v},IA F μ w b sz k v x->IA F μ' w b sz k v x:=λ{x k v} g=>by
  cases x with
  |h l=>exact⟨.inl g.1,g.2⟩
  |v av=>exact RV.step g cu
 have bH:∀(i:Nat) k p,l[i]? =some (k,.h p)->c i≠d:=λi k p hi e=>by
  obtain⟨_,_,_,g⟩:=h4 i k _ hi;exact(ar.hd _ b g.1).2 n Cg (e▸hd)
 have yR:i<l.length:=(aq.1 km).1
 have get:∀j,(j=o/\ab.get ((o,.cN kt sz (l.set i (key,.h r)))::(n,.dead)::σ) j= .cN kt sz (l.set i (key,.h r)))\/(j=n/\ab.get ((o,.cN kt sz (l.set i (key,.h r)))::(n,.dead)::σ) j= .dead)\/(j≠o/\j≠n/\ab.get ((o,.cN kt sz (l.set i (key,.h r)))::(n,.dead)::σ) j=σ.get j):=λj=>by
  simp only[ab.cI];by_cases e1:o=j
  · exact .inl ⟨e1.symm,if_pos e1⟩
  · rw[if_neg e1]
    by_cases e2:n=j
    · exact .inr (.inl ⟨e2.symm,if_pos e2⟩)
    · exact .inr (.inr ⟨λk=>e1 k.symm,λk=>e2 k.symm,if_neg e2⟩)
 have nd:∀j,ab.get ((o,.cN kt sz (l.set i (key,.h r)))::(n,.dead)::σ) j≠ .dead->σ.get j≠ .dead/\j≠n:=λj hj=>by
  rcases get j with⟨e,_⟩|⟨_,e⟩|⟨_,e2,e⟩
  · exact⟨e▸Bn,e▸Ne.symm bV⟩
  · exact absurd e hj
  · exact⟨e▸hj,e2⟩
 refine⟨μ',cu,⟨ar.fb.st cu λk hk=>ar.fb k hk,λk hk=>?_,λi hi=>ar.has i (nd i hi).1,λj bi qf=>?_,λi bi hi=>ar.live i bi (nd i hi).1,λi j bb hi hj=>ar.inj i j bb (nd i hi).1 (nd j hj).1,λx y Fl=>?_,λx y z hy hz=>?_⟩,λ_=>rfl⟩
 · rcases cu.fV k hk with h|h
   · exact ar.mb k h
   · rcases hk with⟨i,hi⟩|⟨x,hx|⟨rfl,_⟩⟩
     · exact ar.mb k (.inl ⟨i,hi⟩)
     · exact ar.mb k (.inr ⟨x,hx⟩)
     · exact ar.mb k (.inl ⟨n,hd⟩)
 · have qf:μ j=some bi:=qf
   rcases get j with⟨e,e2⟩|⟨_,e⟩|⟨e1,e2,e⟩
   · rw[e2]
     rw[e,hb] at qf;injection qf with qf;subst qf
     refine⟨λx hx=>?_,es,clock,h1,by simpa using h2,h3,λj=>if j=i then d else c j,λj a x A4=>?_,λj1 j2 k k' p p' Gm Gn gx=>?_⟩
     · rcases List.mem_or_eq_of_mem_set hx with hx|hx
       · exact h0 x hx
       · subst hx;exact h0 (key,MV.v (.bo n sz 0 r.length)) (aO km)
     · rw[List.getElem?_set] at A4
       split at A4
       · rename_i gx
         subst gx;(have yU:some (key,MV.h r)=some (a,x):=by simpa[yR] using A4);injection yU with yU;injection yU with e1 e2;subst e1;subst e2;refine⟨en,g1,g2,?_⟩;simp only[↓reduceIte];exact⟨.inr ⟨rfl,rfl⟩,D2⟩
       · rename_i gx
         obtain⟨en,q1,q2,q3⟩:=h4 j a x A4;refine⟨en,q1,q2,?_⟩;have hij':j≠i:=λe=>gx e.symm;simp only[if_neg hij'];exact old q3
     · simp only at gx
       by_cases e1:j1=i<;>by_cases e2:j2=i
       · omega
       · rw[nv (λe=>e2 e.symm)] at Gn
         rw[if_pos e1,if_neg e2] at gx;exact absurd gx.symm (bH j2 k' p' Gn)
       · rw[nv (λe=>e1 e.symm)] at Gm
         rw[if_neg e1,if_pos e2] at gx;exact absurd gx (bH j1 k p Gm)
       · rw[nv (λe=>e1 e.symm)] at Gm
         rw[nv (λe=>e2 e.symm)] at Gn;rw[if_neg e1,if_neg e2] at gx;exact h5 j1 j2 k k' p p' Gm Gn gx
   · rw[e];trivial
   · rw[e]
     have gk:=ar.obj j bi qf;by_cases U4:σ.get j= .dead
     · rw[U4];trivial
     · exact gk.step cu rfl λx hx=>⟨.inl hx,rfl⟩
 · rcases Fl with Fl|⟨rfl,rfl⟩
   · exact⟨(ar.hd x y Fl).1,λi hi=>(ar.hd x y Fl).2 i (nd i hi).1⟩
   · exact⟨hdF,λi hi hm=>(nd i hi).2 (ar.inj i n x (nd i hi).1 Cg hm hd)⟩
 · rcases hy with hy|⟨rfl,rfl⟩<;>rcases hz with hz|⟨ua,rfl⟩
   · exact ar.hu x y z hy hz
   · exact absurd hd (ua▸(ar.hd x y hy).2 n Cg)
   · exact absurd hd ((ar.hd x z hz).2 n Cg)
   · rfl
theorem Nc{kt:KT}{key:PV}{q:List (PV×List PV)}{l:List PV}{a:AV}(hks:∀x∈q,qd kt x.1=true)(jq:qd kt key=true)(hf:cK key q=some l):∃i,(dr key (.v a) (hM q))[i]? =some (key,MV.v a)/\(dr key (.v a) (hM q)).set i (key,.h l)=hM q:=by
 unfold cK at hf;obtain⟨⟨i,l'⟩,h1,e⟩:=cm.1 hf;have e:l'=l:=e;subst e;obtain⟨_,k',km,heq⟩:=fH h1;rw[Nat.sub_zero] at km;have aC:=(aq.1 km).1
 have gn:dr key (.v a) (hM q)=(hM q).set i (key,.v a):=by
  simp only[dr,pt,h1,Option.map_some]
 (have UH:i<(hM q).length:=by simpa[hM] using aC);have A3:key=k':=sf jq (hks _ (aO km)) heq;subst A3;refine⟨i,by rw[gn,List.getElem?_set_self UH],?_⟩;rw[gn,List.set_set];refine List.ext_getElem? λj=>?_;rw[List.getElem?_set];split
 · rename_i gx;subst gx
   have e:=(aq.1 km).2;simp[hM,aC,e]
 · rfl
structure Hid(hp gj:ab)(o n sz:Nat)(kt:KT)(q:List (PV×List PV))(key:PV)(l:List PV):Prop where
 e:gj=(o,.cN kt sz (hM q))::(n,.dead)::hp
 ho:hp.get o= .cN kt sz (dr key (.v (.bo n sz 0 l.length)) (hM q))
 hn:hp.get n= .row sz l
 no:n≠o
 ks:∀x∈q,qd kt x.1=true
 kk:qd kt key=true
 f:cK key q=some l
theorem az.oW{hp gj:ab}(ar:az F μ hp w){o n sz:Nat}{kt:KT}{q:List (PV×List PV)}{key:PV}{l:List PV}(h:Hid hp gj o n sz kt q key l):∃μ',Step F μ w F μ' w/\az F μ' gj w/\ ∀i,μ' i=μ i:=by
 obtain⟨i,h1,h2⟩:=Nc (a:= .bo n sz 0 l.length) h.ks h.kk h.f;have:=ar.hide h.ho h.hn h.no h1;rw[h2] at this;rw[h.e];exact this
def Yp(P:au)(res:List ResultVar)(m:Nat)(r:AV)(dX:ab)(s:St):Prop:=
 zA P res m r dX s\/ ∃gj o n sz kt q key l,Hid s.hp gj o n sz kt q key l/\zA P res m r dX ⟨s.env,gj,s.nx,s.yk⟩
end
section
variable{P:au}{f:bf}{fn:Func}{c:Code}{N:Nat}{res:List ResultVar}
theorem aM.ofH{m nx:Nat}{jI dX:ab}{as:List AV}{r:AV}(hm:P.follows .mixedOrders=true)(hf:P.funcs[f]? =some fn)(hb:fn.body=some c)
 (hN:fn.ntmps=N) (hr:fn.results.toList=res) (bQ:q9 N c=true) (ha:as.length<=N) (V:List Nat) (Q8:m<=nx)
 (h:aw ⟨N,fK.no P,cJ m⟩ V c ⟨dT 0 as,jI,nx,0⟩ ⟨Yp P res m r dX,λ_ _=>False,Yp P res m r dX,λ_ _=>False⟩):aM P f m jI as r dX:=by
 intro F μ w vs ar Ft oS ie;refine mS (C:=⟨N,fK.no P,cJ m⟩) (as:=as) (μ:=μ) (F:=F) hm hf hb hN hr bQ ha V h rfl ar (λo ho=>Ft o (dW Q8 ho)) trivial oS ie (λ_ h=>h) (λ_ _ h=>h) ?_ (λ_ _ _ _ _ _ h=>h.elim);intro s F' μ' w' ts hK h2 vp h3 _ h5 _;have h2:=h2 rfl
 have fin:∀{s:St} {μ':aN},zA P res m r dX s->dO F μ w F' μ' w'->(∀o,o<m-> ∀b,μ o=some b->μ' o=some b)->az F' μ' s.hp w'->(∀t,RV F' μ' w' (ts[t]?.getD undef) (s.env.get t))->
  ∃us:List ah,(res.mapM (tD ts)).run P w'= .ok us w'/\ ∃v R9 y9,Ending.returned (if h:us.toArray.size=1 then us.toArray[0] else .tuple us.toArray)= .returned v/\dO F μ w R9 y9 w'/\az R9 y9 dX w'/\RV R9 y9 w' v r/\(∀o,o<m-> ∀b,μ o=some b->y9 o=some b)/\ ∀o,m+64<=o->y9 o=none:=by
  intro s μ' hK h2 vp h3 h5;obtain⟨env,hp,xH,yk⟩:=s;obtain⟨us,GY,⟨Z,R,e1,e2,e3,e4,e5⟩,k2,k3,k4⟩:=jB h3 h5 res _ hK;refine⟨us,k4 w' (λ_ _=>rfl),?_⟩;obtain⟨g1,g2⟩:=h3.Ob Z R e2 e3;refine⟨_,_,_,rfl,h2.trans g2,g1,e1 F' μ' w' _ (λo b _ _ CF=>h3.obj o b CF) (vV k2 k3),λo ho b pT=>?_,λo ho=>?_⟩
  · show(gM R o).bind μ'=some b
    rw[e5 o ho];exact vp o ho b pT
  · show(gM R o).bind μ'=none
    cases Ef:gM R o with
    |none=>rfl
    |some x=>have h6:o<m+64:=e4 _ (oG Ef);omega
 rcases hK with hK|⟨gj,o,n,sz,kt,q,key,l,hH,hK⟩
 · exact fin hK h2 (λo ho b hb=>vp o (gI.2 ho) b hb) h3 h5
 · obtain⟨jL,g1,g2,g3⟩:=h3.oW hH
   exact fin hK (h2.trans g1.base) (λo ho b hb=>by rw[g3];exact vp o (gI.2 ho) b hb) g2 (λt=>(h5 t).step g1)
theorem cd(g:Nat->Nat)(kt:KT)(sz:Nat)(q:List (PV×List PV)):gD g (.cN kt sz (hM q))= .cN kt sz (hM q):=by
 simp only[gD,hM,il];congr 1
theorem iL{σ:ab}{nid:Nat}{K:AV->ab->Prop}{c':AV×List AV}{as qg:List AV}{jI dX:ab}{r:AV}(ρ:List Nat)(us:ab)(hi:aM P f ρ.length jI qg r dX)(he:enters P f=true)(hc:dP c'.1 c'.2=some (f,as))(ha:as=tn (rn ρ nid) qg)(hn:ρ.Nodup)
 (hl:∀o∈ρ,σ.get o≠ .dead) (hs:∀i,i<ρ.length->σ.get (ρ.getD i 0)=gD (rn ρ nid) (jI.get i)) (hd:∀i,ρ.length<=i->jI.get i= .dead) (vN:∀i,i<ρ.length->i∈keys dX)
 (hb:∀k∈keys dX,k<ρ.length+64) (UN:(dX.map λx=>(rn ρ nid x.1,gD (rn ρ nid) x.2))=us) (hk:K (gY (rn ρ nid) r) us):oD P c' σ nid K:=
 Pq ρ hi he hc ha hn hl hs hd vN hb (UN.symm▸hk)
theorem di.put{C:Cx P}{env:Env}{hp:ab}{nx yk:Nat}{o:Nat}{x:bJ}(ho:hp.get o=x):di C ⟨env,hp,nx,yk⟩ ⟨env,(o,x)::hp,nx,yk⟩:=λd0 F μ a w hs=>
 ⟨F,μ,⟨hs.h.congr λi=>by
   rw[ab.cI];split
   · rename_i e;rw[<-e,ho]
   · rfl,hs.fresh,hs.size,hs.env,hs.nI,hs.rd,hs.nm,hs.j⟩,dO.refl F μ w,Kp.refl _ _⟩
theorem Lp.put{C:Cx P}{c:Code}{env:Env}{hp:ab}{nx yk:Nat}{K:Kt}(o:Nat)(x:bJ)(ho:hp.get o=x)(k:Lp C c ⟨env,nK [] ((o,x)::hp) [],nx,yk⟩ K):Lp C c ⟨env,hp,nx,yk⟩ K:=
 Lp.Ob ((di.put ho).trans di.hp) k
end
section
variable{P:au}{f:bf}{σ:ab}{nid:Nat}{K:AV->ab->Prop}{ps:List PV}{R:PV->Prop}
theorem lR{c:Option (bf×List AV)}(hp:cB P f ps R)(he:enters P f=true)(hc:c=some (f,ps.map AV.p))(hk:∀r,R r->K (.p r) []):Gu P c σ K:=
 ⟨⟨f,_,[],ps,R,hc,he,by simp,kP.refl ps,hp,λr hr=>by simpa using hk r hr⟩⟩
theorem cB.le{as bs:List PV}{R Q:PV->Prop}(h:cB P f as R)(ha:PV.Q0 bs as)(hr:∀r,R r->∃q,Q q/\PV.le r q):cB P f bs Q:=λF w vs hF hs hv=>
 fI (h F w vs hF (hs.trans ha.1) λi p hp=>by
  have hi:i<bs.length:=by rw[ha.1];exact(aq.1 hp).1
  exact ha.2 i _ p (aV hi) hp F w _ (hv i _ (aV hi))) λe w' ⟨v,F',r,h0,h1,h2,h3,h4⟩=>
   let⟨q,q1,q2⟩:=hr r h0
   ⟨v,F',q,q1,h1,h2,h3,q2 F' w' v h4⟩
theorem nN{c:Option (bf×List AV)}{as:List AV}(hp:cB P f ps R)(he:enters P f=true)(hc:c=some (f,as))(hz:x4 σ 60 as [] λqs Z=>PV.Q0 qs ps/\ ∀r,R r->K (.p r) (Z.map λo=>(o,if lB r then σ.get o else .dead))):Gu P c σ K:=by
 obtain⟨qs,Z,⟨h1,h2⟩,_,h3,h4⟩:=(jW 60).2 as [] _ (by simp[kA]) hz;exact⟨⟨f,as,Z,qs,R,hc,he,h3,h4,hp.le h1 λr hr=>⟨r,hr,PV.le_refl r⟩,h2⟩⟩
variable{fn:Func}{c:Code}{N:Nat}{res:List ResultVar}
theorem cB.of{as:List PV}(hm:P.follows .mixedOrders=true)(hf:P.funcs[f]? =some fn)(hb:fn.body=some c)
 (hN:fn.ntmps=N) (hr:fn.results.toList=res) (bQ:q9 N c=true) (ha:as.length<=N) (V:List Nat)
 (h:aw ⟨N,fK.no P,[]⟩ V c ⟨dT 0 (as.map .p),[],0,0⟩ ⟨λs=>∃r,R r/\zy P res r s,λ_ _=>False,λs=>∃r,R r/\zy P res r s,λ_ _=>False⟩):cB P f as R:=by
 intro F w vs hF oS ie;refine mS (as:=as.map .p) (μ:=aN.no) (F:=F) hm hf hb hN hr bQ (by simpa using ha) V h rfl (az.nil hF) (λ_ _=>rfl) trivial (by simpa using oS) (λi p hp=>?_) (λ_ h=>h) (λ_ _ h=>h) ?_ (λ_ _ _ _ _ _ h=>h.elim)
 · simp only[aW,cm] at hp
   obtain⟨q,hq,rfl⟩:=hp;exact .p (ie i q hq)
 · intro s F' μ' w' ts hK h2 _ h3 _ h5 _
   obtain⟨env,hp,nx,yk⟩:=s;have h2:=h2 rfl;obtain⟨r,hR,hK⟩:=hK;obtain⟨us,GY,k1,k2,k3,k4⟩:=jB h3 h5 res _ hK;refine⟨us,k4 w' (λ_ _=>rfl),?_⟩;obtain⟨p,Z,p1,_,p2,p3⟩:=(jW 60).1 (Jj GY) [] _ (by simp[kA]) k1;refine⟨_,(λb=>F' b\/ ∃o,o∈Z/\hp.get o≠ .dead/\μ' o=some b),r,hR,rfl,⟨h2.os,h2.tape,h2.output,h2.size,h2.fr,h2.old,h2.shape,λb hb=>.inl (h2.sub b hb),?_,λb h=>(aN.lN h).elim⟩,?_,?_⟩
   · rintro b (hb|⟨o,_,_,hb⟩)
     · exact h2.jG b hb
     · rcases h2.fV b (.inl ⟨o,hb⟩) with h|h
       · exact .inr (.inl h)
       · exact .inr (.inr h)
   · rintro b (hb|⟨o,_,_,hb⟩)
     · exact h3.fb b hb
     · exact h3.mb b (.inl ⟨o,hb⟩)
   · exact p1.le _ _ _ (p3 F' μ' w' _ (λo b _ _ CF=>h3.obj o b CF) (vV k2 k3))
theorem cB.eq{as:List PV}{r:PV}(h:cB P f as R)(hr:∀q,R q->PV.le q r):aa P f as r:=λF w vs h1 h2 h3=>
 fI (h F w vs h1 h2 h3) λe w' ⟨v,F',q,h0,h4,h5,h6,h7⟩=>⟨v,F',h4,h5,h6,hr q h0 F' w' v h7⟩
end
def sH:AV->Bool
 |.dJ .. =>false
 |.bo .. =>false
 |.jb .. =>false
 |.agg l=>zQ l
 |.bR l=>zQ l
 |.fn _ a b=>zQ a&&zQ b
 |_=>true
where zQ:List AV->Bool
 |[]=>true
 |a::l=>sH a&&zQ l
theorem sr{l:List AV}(h:sH.zQ l=true):∀a∈l,sH a=true:=by
 induction l with
 |nil=>simp
 |cons x l ih=>
  rw[sH.zQ,aQ] at h;intro a ha;rcases cy.1 ha with rfl|ha
  · exact h.1
  · exact ih h.2 a ha
theorem RV.Yq{F F':Nat->Prop}{μ μ':aN}{w w':aj}(hF:∀b,F b->F' b)(hw:∀b,F b->w'.heap[b]? =w.heap[b]?){v:ah}{x:AV}(h:RV F μ w v x):sH x=true->(∀o∈dz x,∀b,μ o=some b->μ' o=some b)->RV F' μ' w' v x:=by
 induction h with
 |any v=>intro _ _;exact .any v
 |p h=>intro _ _;exact .p (h.mono hF hw)
 |agg cs l h1 _ ih=>intro hs hn;rw[sH] at hs;exact .agg cs l h1 λi p hp=>ih i p hp (sr hs p (aO hp)) λo ho=>hn o (by rw[dz];exact iJ (aO hp) ho)
 |bR cs l h1 _ ih=>intro hs hn;rw[sH] at hs;exact .bR cs l h1 λi p hp=>ih i p hp (sr hs p (aO hp)) λo ho=>hn o (by rw[dz];exact iJ (aO hp) ho)
 |fn f as bs ls ms h1 h2 _ _ ih1 Vs=>
  intro hs hn;rw[sH,aQ] at hs
  exact .fn f as bs ls ms h1 h2 (λi p hp=>ih1 i p hp (sr hs.1 p (aO hp)) λo ho=>hn o (by rw[dz];exact cL.2 (.inl (iJ (aO hp) ho))))
   (λi p hp=>Vs i p hp (sr hs.2 p (aO hp)) λo ho=>hn o (by rw[dz];exact cL.2 (.inr (iJ (aO hp) ho))))
 |ptr o off b hb=>intro _ hn;exact .ptr o off b (hn o (by simp[dz]) b hb)
 |dJ o sz off bL len cap b t n hm h0 h1 h2 h3 h4=>intro hs;simp[sH] at hs
 |bo o sz i len v h ih=>intro hs;simp[sH] at hs
 |jb o sz i len cap base h ih=>intro hs;simp[sH] at hs
 |cr o sz i j v h ih=>intro _ hn;exact .cr _ _ _ _ _ (ih rfl λx hx=>hn x (by simpa[dz] using hx))
 |mp o b hb=>intro _ hn;exact .mp o b (hn o (by simp[dz]) b hb)
 |ch o b hb=>intro _ hn;exact .ch o b (hn o (by simp[dz]) b hb)
structure RI(nk:List Nat)(d0:D0)(F0:Nat->Prop)(μ0:aN)(w0:aj)(tmps:Array ah)(env:Env)(ms:List Nat)(l:Nat)(F:Nat->Prop)(μ:aN)(hp:ab)(nx:Nat)(W:aj):Prop where
 h:az F μ hp W
 fresh:∀o,nx<=o->μ o=none
 env:∀t,RV F μ W (tmps[t]?.getD undef) (env.get t)
 nI:∀r∈ms,W.heap[r]? =some (.deferred (some []))/\ ¬ F r/\ ¬ μ.has r/\d0.b0<=r
 rd:Rd F μ W d0
 kp:Kp nk μ0 μ
 rl:¬ F l/\ ¬ μ.has l/\w0.heap.size<=l
 M6:∀l0,d0.ro=some l0->l0<w0.heap.size
 sub:∀b,F0 b->F b
 sz:w0.heap.size<=W.heap.size
structure JXI{P:au}(G:fK P)(d0:D0)(w0:aj)(ms:List Nat)(l:Nat)(F:Nat->Prop)(μ:aN)(yk:Nat)(Fg:Nat->Prop)(μg:aN)(W:aj)(X:Nat->Prop):Prop where
 j:G.J yk (λb=>F b\/(Fg b/\b<W.heap.size)) (μ.plus X) W
 x:∀b,X b->b<W.heap.size/\ ¬ F b/\ ¬ Fg b/\ ¬ μ.has b
 xl:X l
 xm:∀r∈ms,X r
 xo:∀l0,d0.ro=some l0->X l0
 xd:∀r,nH r∈d0.ds->X r/\r<w0.heap.size
 xg:∀b,μg.has b-> ¬ Fg b->b<W.heap.size->X b
 kf:∀b,d0.kf b->F b/\W.heap[b]? =d0.wk.heap[b]?
 kx:∀b,d0.kx b->X b/\b<w0.heap.size/\W.heap[b]? =d0.wk.heap[b]?
 os:W.os=d0.wk.os/\W.tape=d0.wk.tape/\W.output=d0.wk.output/\d0.wk.heap.size<=W.heap.size
section
variable{P:au}{G:fK P}{nk:List Nat}{d0:D0}{F0:Nat->Prop}{μ0:aN}{w0:aj}{tmps:Array ah}{env:Env}{ms:List Nat}{l:Nat}{F:Nat->Prop}{μ:aN}{hp:ab}{nx:Nat}{W W':aj}
theorem RI.world(h:RI nk d0 F0 μ0 w0 tmps env ms l F μ hp nx W){Pb:Nat->Prop}(hz:W.heap.size<=W'.heap.size)
 (hs:∀b,b<W.heap.size-> ¬ Pb b->W'.heap[b]? =W.heap[b]?) (hP:∀b,Pb b-> ¬ F b/\ ¬ μ.has b/\b∉ms/\w0.heap.size<=b):RI nk d0 F0 μ0 w0 tmps env ms l F μ hp nx W':=by
 have cj:∀b,F b\/μ.has b->W'.heap[b]? =W.heap[b]? :=λb hb=>hs b (hb.elim (h.h.fb b) (h.h.mb b)) λgj=>by
  obtain⟨h1,h2,_⟩:=hP b gj;exact hb.elim h1 h2
 have iS:∀b,b<w0.heap.size->W'.heap[b]? =W.heap[b]? :=λb hb=>hs b (fl hb h.sz) λgj=>by
  have:=(hP b gj).2.2.2;omega
 refine⟨h.h.same hz cj,h.fresh,λt=>(h.env t).same cj,λr hr=>?_,λl0 gy=>?_,h.kp,h.rl,h.M6,h.sub,dW h.sz hz⟩
 · obtain⟨h1,h2,h3,h4⟩:=h.nI r hr
   exact⟨(hs r (bB h1) λgj=>(hP r gj).2.2.1 hr).trans h1,h2,h3,h4⟩
 · obtain⟨r,h1,h2⟩:=h.rd l0 gy
   exact⟨r,(iS l0 (h.M6 l0 gy)).trans h1,h2⟩
theorem RI.grow{Fg:Nat->Prop}{μg:aN}(h:RI nk d0 F0 μ0 w0 tmps env ms l F μ hp nx W)(s:Sp F0 F μ w0 ms l Fg μg)(Fx:∀b,Fg b->b<W.heap.size):RI nk d0 F0 μ0 w0 tmps env ms l (λb=>F b\/Fg b) μ hp nx W:=by
 refine⟨⟨h.h.fb.step (λ_=>.inl) (λ_ _=>rfl) λb hb=>hb.elim (h.h.fb b) (Fx b),h.h.mb,h.h.has,λo b hb=>(h.h.obj o b hb).grow λ_=>.inl,λo b ho hb hF=>?_,h.h.inj,λc x hc=>⟨λhF=>hF.elim (h.h.hd c x hc).1 λhF=>(s.s2 c hF).2.2.1.elim (h.h.hd c x hc).1 λh1=>h1 (.inr ⟨x,hc⟩),(h.h.hd c x hc).2⟩,h.h.hu⟩,h.fresh,λt=>(h.env t).grow λ_=>.inl,λr hr=>?_,λl0 gy=>?_,h.kp,⟨λhx=>?_,h.rl.2⟩,h.M6,λb hb=>.inl (h.sub b hb),h.sz⟩
 · rcases hF with hF|hF
   · exact h.h.live o b ho hb hF
   · rcases(s.s2 b hF).2.2.1 with h1|h1
     · exact h.h.live o b ho hb h1
     · exact h1 (.inl ⟨o,hb⟩)
 · obtain⟨h1,h2,h3⟩:=h.nI r hr
   exact⟨h1,λhx=>hx.elim h2 λhx=>(s.s2 r hx).2.1 hr,h3⟩
 · obtain⟨r,h1,h2,h3⟩:=h.rd l0 gy
   refine⟨r,h1,λhx=>hx.elim h2 λhx=>?_,h3⟩;rcases(s.s2 l0 hx).2.2.2 with h4|h4
   · exact h2 (h.sub l0 h4)
   · have:=h.M6 l0 gy;omega
 · exact hx.elim h.rl.1 λhx=>(s.s2 l hx).1 rfl
end
section
variable{P:au}{G:fK P}{N:Nat}{kp nk:List Nat}{d0:D0}{F0:Nat->Prop}{μ0:aN}{w0:aj}{tmps:Array ah}{env:Env}{ms:List Nat}{l:Nat}{K:Kt}{m:Nat}{I:Nat->ab×Nat}{Y:Nat->Nat}{rec:LoopState->Option Code->Loop}
def JI(G:fK P)(nk:List Nat)(d0:D0)(F0:Nat->Prop)(μ0:aN)(w0:aj)(tmps:Array ah)(env:Env)(ms:List Nat)(l:Nat)(K:Kt)(m:Nat)(I:Nat->ab×Nat)(Y:Nat->Nat)(rec:LoopState->Option Code->Loop)(k:Nat)(Fg:Nat->Prop)(μg:aN)(W:aj):Prop:=
 ∃F μ hp nx st pe yk X,RI nk d0 F0 μ0 w0 tmps env ms l F μ hp nx W/\Sp F0 F μ w0 ms l Fg μg/\W.heap[l]? =some (.loop (rec st pe))/\JXI G d0 w0 ms l F μ yk Fg μg W X/\
  ((k<=m/\st= .ready/\pe=none/\I k=(hp,nx)/\yk=Y k)\/(k=m+1/\st= .done/\ ∃c,pe=some c/\Ei K env yk c hp nx))
theorem JI.cl{k:Nat}{Fg T4:Nat->Prop}{μg Jk:aN}{W W':aj}(h:JI G nk d0 F0 μ0 w0 tmps env ms l K m I Y rec k Fg μg W)(b:dO Fg μg W T4 Jk W'):JI G nk d0 F0 μ0 w0 tmps env ms l K m I Y rec k T4 Jk W':=by
 obtain⟨F,μ,hp,nx,st,pe,yk,X,hr,hs,hl,hj,hx⟩:=h;have aC:=bB hl
 have cj:∀b',b'<W.heap.size-> ¬(μg.has b'/\ ¬ Fg b')->W'.heap[b']? =W.heap[b']? :=λb' h1 h2=>by
  by_cases hf:Fg b'
  · exact b.fr b' hf
  · exact b.old b' h1 λh3=>h2 ⟨h3,hf⟩
 have OW:Sp F0 F μ w0 ms l T4 Jk:=by
  refine⟨λb' hb hn=>?_,λb' hb=>?_⟩
  · rcases b.fV b' hb with h1|h1
    · exact hs.s1 b' h1 λh2=>hn (b.sub b' h2)
    · exact⟨λh2=>by have:=hr.h.fb b' h2;omega,λh2=>by have:=hr.h.mb b' h2;omega,by omega,λh2=>by have:=bB (hr.nI b' h2).1;omega,dW hr.sz h1⟩
  · rcases b.jG b' hb with h1|h1|h1
    · exact hs.s2 b' h1
    · by_cases hf:Fg b'
      · exact hs.s2 b' hf
      · obtain⟨h2,h3,h4,h5,h6⟩:=hs.s1 b' h1 hf;exact⟨h4,h5,.inr h3,.inr h6⟩
    · exact⟨by omega,λh2=>by have:=bB (hr.nI b' h2).1;omega,.inr λh2=>by have:=hr.h.mb b' h2;omega,.inr (dW hr.sz h1)⟩
 have Ef:RI nk d0 F0 μ0 w0 tmps env ms l F μ hp nx W':=hr.world (Pb:=λb=>μg.has b/\ ¬ Fg b) b.size cj (λb' h1=>by
  obtain⟨h2,h3,_,h4,h5⟩:=hs.s1 b' h1.1 h1.2;exact⟨h2,h3,h4,h5⟩)
 have iS:∀c,c<w0.heap.size->W'.heap[c]? =W.heap[c]? :=λc hc=>cj c (fl hc hr.sz) λh1=>by
  have:=(hs.s1 c h1.1 h1.2).2.2.2.2;omega
 have Vv:∀c,c<w0.heap.size->T4 c->F c:=λc hc hf=>by
  rcases(OW.s2 c hf).2.2.2 with h1|h1
  · exact hr.sub c h1
  · omega
 refine⟨F,μ,hp,nx,st,pe,yk,λc=>(X c\/(Jk.has c/\c<W'.heap.size))/\ ¬ T4 c,Ef,OW,(cj l aC λh1=>(hs.s1 l h1.1 h1.2).2.2.1 rfl).trans hl,⟨?_,?_,?_,?_,?_,?_,?_,?_,?_,?_⟩,hx⟩
 · refine G.cl hj.j ⟨b.os,b.tape,b.output,b.size,λc hc=>?_,λc hc hn=>?_,b.shape,λc hc=>hc.imp id λh=>⟨b.sub c h.1,fl h.2 b.size⟩,λc hc=>?_,λc hc=>?_⟩
   · rcases hc with hc|hc
     · exact cj c (hr.h.fb c hc) λh1=>(hs.s1 c h1.1 h1.2).1 hc
     · exact b.fr c hc.1
   · refine cj c hc λh1=>hn (aN.cA.2 (.inr (hj.xg c h1.1 h1.2 hc)))
   · rcases hc with hc|hc
     · exact .inl (.inl hc)
     · by_cases hz:c<W.heap.size
       · rcases b.jG c hc.1 with h1|h1|h1
         · exact .inl (.inr ⟨h1,hz⟩)
         · by_cases hf:Fg c
           · exact .inl (.inr ⟨hf,hz⟩)
           · exact .inr (.inl (aN.cA.2 (.inr (hj.xg c h1 hf hz))))
         · omega
       · exact .inr (.inr (by omega))
   · rcases aN.cA.1 hc with hc|⟨hc|⟨hc,_⟩,hn⟩
     · exact .inl (aN.cA.2 (.inl hc))
     · exact .inl (aN.cA.2 (.inr hc))
     · rcases b.fV c hc with h1|h1
       · by_cases hz:c<W.heap.size
         · exact .inl (aN.cA.2 (.inr (hj.xg c h1 (λh2=>hn (b.sub c h2)) hz)))
         · exact .inr (by omega)
       · exact .inr h1
 · rintro c ⟨hc|⟨hc,hz⟩,hn⟩
   · obtain⟨h1,h2,_,h4⟩:=hj.x c hc
     exact⟨fl h1 b.size,h2,hn,h4⟩
   · obtain⟨h1,h2,_⟩:=OW.s1 c hc hn
     exact⟨hz,h1,hn,h2⟩
 · exact⟨.inl hj.xl,λhf=>(OW.s2 l hf).1 rfl⟩
 · intro r hm
   exact⟨.inl (hj.xm r hm),λhf=>(OW.s2 r hf).2.1 hm⟩
 · intro l0 gy
   obtain⟨_,_,h1,_⟩:=hr.rd l0 gy;exact⟨.inl (hj.xo l0 gy),λhf=>h1 (Vv l0 (hr.M6 l0 gy) hf)⟩
 · intro r hm
   obtain⟨h1,h2⟩:=hj.xd r hm;exact⟨⟨.inl h1,λhf=>(hj.x r h1).2.1 (Vv r h2 hf)⟩,h2⟩
 · intro c h1 h2 h3
   exact⟨.inr ⟨h1,h3⟩,h2⟩
 · intro c hc
   obtain⟨h1,h2⟩:=hj.kf c hc;exact⟨h1,(cj c (hr.h.fb c h1) λh3=>(hs.s1 c h3.1 h3.2).1 h1).trans h2⟩
 · intro c hc
   obtain⟨h1,h2,h3⟩:=hj.kx c hc;exact⟨⟨.inl h1,λhf=>(hj.x c h1).2.1 (Vv c h2 hf)⟩,h2,(iS c h2).trans h3⟩
 · obtain⟨h1,h2,h3,h4⟩:=hj.os
   exact⟨b.os.trans h1,b.tape.trans h2,b.output.trans h3,dW h4 b.size⟩
def rdI(C':Cx P)(K:Kt)(env:Env)(m k:Nat)(I:Nat->ab×Nat)(Y:Nat->Nat):Kt where
 n:=λs'=>k<m/\di C' s' ⟨[],(I (k+1)).1,(I (k+1)).2,Y (k+1)⟩
 e:=λj s'=>k=m/\K.e j ⟨env,s'.hp,s'.nx,s'.yk⟩
 r:=λs'=>k=m/\K.r ⟨env,s'.hp,s'.nx,s'.yk⟩
 p:=λ_ _=>False
theorem JI.R8(hm:P.follows .mixedOrders=true){ps:Array Tmp}{assign body:Code}{fn:bf}{df:Nat}{xs:List (List PV)}(gh:G.it=true)(si:G.nm=false)(vq:∀t,sH (env.get t)=true/\ ∀o∈dz (env.get t),o∈nk)
 (ri:rec=λst pe=>{ state:=st,pending:=pe,fn:=fn,tmps:=tmps,params:=ps,assign:=assign,body:=body,defers:=df }) (hN:tmps.size=N) (G6:∀t∈ps.toList,t<N)
 (bQ:q9 N assign=true/\q9 N body=true) (V:List Nat) (jd:∀x∈xs,x.length=ps.size)
 (fL:∀k,k<xs.length->k<=m->aw ⟨N,G,nk⟩ V assign ⟨rh (ps.toList.zip (xs.getD k [])) env,(I k).1,(I k).2,Y k⟩
   ⟨λs'=>aw ⟨N,G,nk⟩ V body s' (rdI ⟨N,G,nk⟩ K env m k I Y),λ_ _=>False,λ_=>False,λ_ _=>False⟩)
 {k:Nat} {Fg:Nat->Prop} {μg:aN} {W:aj} {vs:Array ah} (ro:Option Nat) (n:Nat) (h:JI G nk d0 F0 μ0 w0 tmps env ms l K m I Y rec k Fg μg W) (Fx:∀b,Fg b->b<W.heap.size) (Re:∀b,μg.has b->b<W.heap.size)
 (hk:k<xs.length) (Fs:k<=m) (oS:vs.size=(xs.getD k []).length) (Q1:∀(i:Nat) p,(xs.getD k [])[i]? =some p->RP Fg W (vs[i]?.getD undef) p):
 YieldAt (fc ro) n P l vs W λe w'=>e= .returned (.bool (decide (k≠m)))/\JI G nk d0 F0 μ0 w0 tmps env ms l K m I Y rec (k+1) Fg μg w'/\CH Fg μg W w':=by
 obtain⟨F1,μ,hp,nx,st,pe,yk,X,A5,hs,hl,hj,hx⟩:=h
 obtain⟨_,rfl,rfl,hI,rfl⟩:=hx.resolve_right λh=>by have:=h.1;omega
 have hr:=A5.grow hs Fx
 have hlen:(xs.getD k []).length=ps.size:=by
  have:xs.getD k []=xs[k]:=by simp[cF,aV hk]
  rw[this];exact jd _ (jR hk)
 have A0:=bB hl
 have Ml:W.heap[l]? =some (.loop { state:= .ready,pending:=none,fn:=fn,tmps:=tmps,params:=ps,assign:=assign,body:=body,defers:=df }):=by rw[hl,ri]
 refine⟨fn,_,assign,body,run_yield Ml (by rw[oS];exact hlen),roundIn_of_wpIn trivial ?_⟩
 have hT:((ps.zip vs).foldl (λtmps (x:Nat×ah)=>tmps.setIfInBounds x.1 x.2) tmps).size=N/\ ∀t,RV (λb=>F1 b\/Fg b) μ W (((ps.zip vs).foldl (λtmps (x:Nat×ah)=>tmps.setIfInBounds x.1 x.2) tmps)[t]?.getD undef) ((rh (ps.toList.zip (xs.getD k [])) env).get t):=by
  rw[<-Array.foldl_toList,Array.toList_zip];have:=Eh (F:=λb=>F1 b\/Fg b) (μ:=μ) (w:=W) (ps.toList.zip vs.toList) (ps.toList.zip (xs.getD k [])) tmps env (by simp[oS]) (λi x p aS hpi=>?_) hr.env
  · rw[hN] at this;exact this
  · obtain⟨h1,h2⟩:=List.getElem?_zip_eq_some.1 aS
    obtain⟨h3,h4⟩:=List.getElem?_zip_eq_some.1 hpi
    rw[h1] at h3;injection h3 with h3
    refine⟨h3,by rw[hN];exact G6 _ (aO h1),?_⟩;have h5:=Q1 i _ h4;(have:vs[i]? =some x.2:=by simpa using h2);rw[this] at h5;exact h5.mono (λ_=>.inr) (λ_ _=>rfl)
 have nR:oT (P:=P) ⟨N,G,nk⟩ ⟨[],0,some l,λb=>F1 b\/Fg b,X,W⟩ (λb=>F1 b\/Fg b) μ ⟨rh (ps.toList.zip (xs.getD k [])) env,(I k).1,(I k).2,Y k⟩ { tmps:=(ps.zip vs).foldl (λtmps (x:Nat×ah)=>tmps.setIfInBounds x.1 x.2) tmps,defers:=[] } W:=by
  refine⟨by rw[hI];exact hr.h,by rw[hI];exact hr.fresh,hT.1,hT.2,⟨[],⟨List.nodup_nil,de _⟩,rfl,by simp⟩,λl' mU=>?_,λh=>absurd (si.symm.trans h) nJ,X,G.cl hj.j ⟨rfl,rfl,rfl,aX _,λ_ _=>rfl,λ_ _ _=>rfl,λ_ _ h=>h,λ_ h=>h.imp id And.left,λb h=>.inl (h.imp id λh=>⟨h,Fx b h⟩),λ_ h=>.inl h⟩,λb hb=>⟨(hj.x b hb).1,λhf=>hf.elim (hj.x b hb).2.1 (hj.x b hb).2.2.1,(hj.x b hb).2.2.2⟩,λ_ r Ef=>(by cases Ef),λ_ l' mU=>?_,λ_ b hb=>⟨hb,rfl⟩,λ_ b hb=>⟨hb,rfl⟩,λ_=>⟨rfl,rfl,rfl,aX _⟩⟩
  · injection mU with mU;subst mU
    exact⟨_,hl,hr.rl.1,hr.rl.2.1⟩
  · injection mU with mU;subst mU
    exact hj.xl
 refine j8 hm V assign _ _ (fL k hk Fs) bQ.1 n _ ⟨[],0,some l,λb=>F1 b\/Fg b,X,W⟩ _ μ _ W nR λe s1 F2 jL a1 w1 g1 _ g3 g4=>?_;obtain⟨X2,j2⟩:=g4.j;obtain⟨xl2,BA⟩:=j2.kx gh l hj.xl;have BA:w1.heap[l]? =some (.loop { state:= .ready,pending:=none,fn:=fn,tmps:=tmps,params:=ps,assign:=assign,body:=body,defers:=df }):=BA.trans Ml;have Vt:=bB BA;obtain⟨os1,tp1,ou1,sz1⟩:=j2.os gh
 cases e with
 |normal=>
  refine⟨_,run_beginRound BA rfl,?_⟩;have gn:∀b,b≠l->(w1.putObj l (.loop { state:= .busy,pending:=none,fn:=fn,tmps:=tmps,params:=ps,assign:=assign,body:=body,defers:=df })).heap[b]? =w1.heap[b]? :=λb hb=>World.putObj_heap_other hb;obtain⟨w2,Od⟩:∃w2,w2=w1.putObj l (.loop { state:= .busy,pending:=none,fn:=fn,tmps:=tmps,params:=ps,assign:=assign,body:=body,defers:=df }):=⟨_,rfl⟩;rw[<-Od] at gn ⊢;(have Bl:w2.heap[l]? =some (.loop { state:= .busy,pending:=none,fn:=fn,tmps:=tmps,params:=ps,assign:=assign,body:=body,defers:=df }):=by rw[Od];exact World.putObj_heap_same Vt);obtain⟨_,nF2,nM2⟩:=j2.x l xl2;(have pR:∀b,F2 b\/jL.has b->b≠l:=λb hb e=>by subst e;exact hb.elim nF2 nM2);(have iR:w1.heap.size<=w2.heap.size:=by rw[Od];simp);have CT:w2.os=w1.os/\w2.tape=w1.tape/\w2.output=w1.output:=by rw[Od];exact⟨rfl,rfl,rfl⟩
  have hJ2:JX G ⟨[],0,some l,λb=>F1 b\/Fg b,X,w2⟩ F2 jL s1.yk a1.defers w2 X2:=by
   refine⟨G.cl j2.j ⟨CT.1,CT.2.1,CT.2.2,iR,λb hb=>gn b (pR b (.inl hb)),λb _ hn=>gn b λe=>by subst e;exact hn (aN.cA.2 (.inr xl2)),λb x hx=>?_,λ_ h=>h,λ_ h=>.inl h,λ_ h=>.inl h⟩,λb hb=>⟨fl (j2.x b hb).1 iR,(j2.x b hb).2⟩,j2.ma,λ_ l' mU=>?_,λ_ b hb=>⟨(j2.kf gh b hb).1,rfl⟩,λ_ b hb=>⟨(j2.kx gh b hb).1,rfl⟩,λ_=>⟨rfl,rfl,rfl,aX _⟩⟩
   · refine(ir (gn b λe=>?_)).trans hx
     subst e;simp[cC,BA] at hx
   · injection mU with mU;subst mU;exact xl2
  have Pv:oT (P:=P) ⟨N,G,nk⟩ ⟨[],0,some l,λb=>F1 b\/Fg b,X,w2⟩ F2 jL s1 a1 w2:=by
   refine⟨g4.h.same iR λb hb=>gn b (pR b hb),g4.fresh,g4.size,λt=>(g4.env t).same λb hb=>gn b (pR b hb),?_,λl' mU=>?_,λh=>absurd (si.symm.trans h) nJ,X2,hJ2⟩
   · obtain⟨ms2,q1,q2,q3⟩:=g4.nI
     refine⟨ms2,⟨q1.1,de _⟩,q2,λr Ef=>?_⟩;obtain⟨q4,q5⟩:=q3 r Ef;exact⟨(gn r λe=>by subst e;rw[BA] at q4;cases q4).trans q4,q5⟩
   · injection mU with mU;subst mU
     exact⟨_,Bl,nF2,nM2⟩
  refine j8 hm V body _ _ g1 bQ.2 n _ ⟨[],0,some l,λb=>F1 b\/Fg b,X,w2⟩ _ jL _ w2 Pv λe s3 F3 Oc a3 w3 k1 _ k3 k4=>?_
  have fin:∀(jump:Option Code) (F4:Nat->Prop) (CU:aN) (s4:St),oT (P:=P) ⟨N,G,nk⟩ ⟨[],0,some l,λb=>F1 b\/Fg b,X,w2⟩ F4 CU s4 a3 w3->Kp nk μ CU->
   ((k+1<=m/\jump=none/\I (k+1)=(s4.hp,s4.nx)/\s4.yk=Y (k+1))\/(k=m/\ ∃c,jump=some c/\Ei K env s4.yk c s4.hp s4.nx))->
   ∃v w4,(Instr.endRound l jump).run P w3= .ok v w4/\(Ending.returned v= .returned (.bool (decide (k≠m)))/\JI G nk d0 F0 μ0 w0 tmps env ms l K m I Y rec (k+1) Fg μg w4/\CH Fg μg W w4):=by
   intro jump F4 CU s4 k5 kp4 hjx;obtain⟨X4,j4⟩:=k5.j;have WM:w3.heap[l]? =some (.loop { state:= .busy,pending:=none,fn:=fn,tmps:=tmps,params:=ps,assign:=assign,body:=body,defers:=df }):=(j4.kx gh l hj.xl).2.trans Bl;have Sz:=bB WM;have cY:=run_endRound (P:=P) jump WM;have sQ:∀(o:Obj) b,b≠l->(w3.putObj l o).heap[b]? =w3.heap[b]? :=λo b hb=>World.putObj_heap_other hb;obtain⟨os3,tp3,ou3,sz3⟩:=j4.os gh;simp only at os3 tp3 ou3 sz3 os1 tp1 ou1 sz1
   have hF:∀b,F1 b\/Fg b->F4 b/\b≠l/\w3.heap[b]? =W.heap[b]? :=λb hb=>by
    obtain⟨q1,q2⟩:=j4.kf gh b hb;obtain⟨q3,q4⟩:=j2.kf gh b hb;have tY:b≠l:=pR b (.inl q3);exact⟨q1,tY,q2.trans ((gn b tY).trans q4)⟩
   have hX:∀b,X b->X4 b:=λb hb=>(j4.kx gh b hb).1;have ZZ:∀b,X b->b≠l->w3.heap[b]? =W.heap[b]? :=λb hb tY=>(j4.kx gh b hb).2.trans ((gn b tY).trans (j2.kx gh b hb).2)
   have Z0:RI nk d0 F0 μ0 w0 tmps env ms l F4 CU s4.hp s4.nx w3:=by
    refine⟨k5.h,k5.fresh,λt=>(A5.env t).Yq (λb hb=>(hF b (.inl hb)).1) (λb hb=>(hF b (.inl hb)).2.2) (vq t).1 (λo ho b hb=>kp4 o ((vq t).2 o ho) b hb),λr nj=>?_,λl0 gy=>?_,A5.kp.trans kp4,⟨(j4.x l (hX l hj.xl)).2.1,(j4.x l (hX l hj.xl)).2.2,A5.rl.2.2⟩,A5.M6,λb hb=>(hF b (.inl (A5.sub b hb))).1,?_⟩
    · obtain⟨q1,q2,q3,q4⟩:=A5.nI r nj
      have q5:=hj.xm r nj;have q6:=hX r q5;exact⟨(ZZ r q5 λe=>by subst e;rw[hl] at q1;cases q1).trans q1,(j4.x r q6).2.1,(j4.x r q6).2.2,q4⟩
    · obtain⟨r,q1,q2⟩:=A5.rd l0 gy
      have q5:=hj.xo l0 gy;have q6:=hX l0 q5;(have:l0≠l:=λe=>by have h1:=A5.M6 l0 gy;have h2:=A5.rl.2.2;omega);exact⟨r,(ZZ l0 q5 this).trans q1,(j4.x l0 q6).2.1,(j4.x l0 q6).2.2⟩
    · have:=A5.sz;omega
   refine⟨_,_,cY,?_,?_,?_⟩
   · rcases hjx with⟨h1,rfl,_⟩|⟨h1,c,rfl,_⟩
     · simp[show k≠m by omega]
     · simp[h1]
   · have G7:l∉ms:=λhx=>by have:=(A5.nI l hx).1;rw[hl] at this;cases this
     refine⟨F4,CU,s4.hp,s4.nx,(if jump.isNone=true then LoopState.ready else LoopState.done),jump,s4.yk,X4,Z0.world (Pb:=(· =l)) (by simp) (λb _ hb=>sQ _ b hb) (λb hb=>by subst hb;exact⟨Z0.rl.1,Z0.rl.2.1,G7,Z0.rl.2.2⟩),⟨λb hb hn=>?_,λb hb=>?_⟩,?_,⟨?_,?_,?_,?_,?_,?_,?_,?_,?_,?_⟩,?_⟩
     · obtain⟨h1,h2,h3,h4,h5⟩:=hs.s1 b hb hn
       have q:=hX b (hj.xg b hb hn (Re b hb));exact⟨(j4.x b q).2.1,(j4.x b q).2.2,h3,h4,h5⟩
     · obtain⟨h1,h2,_,h3⟩:=hs.s2 b hb
       exact⟨h1,h2,.inl (hF b (.inr hb)).1,h3⟩
     · rw[World.putObj_heap_same Sz,ri]
     · refine G.cl j4.j ⟨rfl,rfl,rfl,by simp,λb hb=>sQ _ b λe=>?_,λb _ hn=>sQ _ b λe=>?_,λb x hx=>?_,λ_ h=>.inl h,λb h=>.inl (h.elim id λh=>(hF b (.inr h.1)).1),λ_ h=>.inl h⟩
       · subst e;exact(j4.x b (hX b hj.xl)).2.1 hb
       · subst e;exact hn (aN.cA.2 (.inr (hX b hj.xl)))
       · refine(ir (sQ _ b λe=>?_)).trans hx
         subst e;simp[cC,WM] at hx
     · intro b hb
       obtain⟨q1,q2,q3⟩:=j4.x b hb;exact⟨by simpa using q1,q2,λhf=>q2 (hF b (.inr hf)).1,q3⟩
     · exact hX l hj.xl
     · exact λr nj=>hX r (hj.xm r nj)
     · exact λl0 gy=>hX l0 (hj.xo l0 gy)
     · exact λr nj=>⟨hX r (hj.xd r nj).1,(hj.xd r nj).2⟩
     · exact λb h1 h2 _=>hX b (hj.xg b h1 h2 (Re b h1))
     · intro b hb
       obtain⟨q1,q2⟩:=hj.kf b hb;obtain⟨q3,q4,q5⟩:=hF b (.inl q1);exact⟨q3,(sQ _ b q4).trans (q5.trans q2)⟩
     · intro b hb
       obtain⟨q1,q2,q3⟩:=hj.kx b hb;(have tY:b≠l:=λe=>by have:=A5.rl.2.2;omega);exact⟨hX b q1,q2,(sQ _ b tY).trans ((ZZ b q1 tY).trans q3)⟩
     · obtain⟨q1,q2,q3,q4⟩:=hj.os
       refine⟨os3.trans (CT.1.trans (os1.trans q1)),tp3.trans (CT.2.1.trans (tp1.trans q2)),ou3.trans (CT.2.2.trans (ou1.trans q3)),?_⟩;simp;omega
     · rcases hjx with⟨h1,rfl,h2,h3⟩|⟨h1,c,rfl,h2⟩
       · exact .inl ⟨h1,rfl,rfl,h2,h3⟩
       · exact .inr ⟨by omega,rfl,c,rfl,h2⟩
   · refine⟨os3.trans (CT.1.trans os1),tp3.trans (CT.2.1.trans tp1),ou3.trans (CT.2.2.trans ou1),?_,λb hb=>?_⟩
     · simp;omega
     · by_cases hf:Fg b
       · obtain⟨_,q4,q5⟩:=hF b (.inr hf)
         exact(sQ _ b q4).trans q5
       · have pT:=hb.resolve_left hf
         have vj:b≠l:=(hs.s1 b pT hf).2.2.1;exact(sQ _ b vj).trans (ZZ b (hj.xg b pT hf (Re b pT)) vj)
  cases e with
  |normal=>
   obtain⟨q1,q2⟩:=k1;obtain⟨F4,CU,e1,e2,e3⟩:=q2 _ F3 Oc a3 w3 k4;exact fin none F4 CU _ e1 (g3.trans (k3.trans e3)) (.inl ⟨q1,rfl,rfl,rfl⟩)
  |ret=>
   obtain⟨q1,q2⟩:=k1;exact fin (some .ret) F3 Oc _ k4 (g3.trans k3) (.inr ⟨q1,_,rfl,.inr ⟨rfl,q2⟩⟩)
  |exit j=>
   obtain⟨q1,q2⟩:=k1;exact fin (some (.exit j)) F3 Oc _ k4 (g3.trans k3) (.inr ⟨q1,_,rfl,.inl ⟨j,rfl,q2⟩⟩)
  |goto t=>exact k1.elim
  |panic ch=>obtain⟨_,h,_⟩:=k1;exact h.elim
  |outgrown=>exact k1.elim
 |exit j=>exact g1.elim
 |ret=>exact g1.elim
 |goto l=>exact g1.elim
 |panic ch=>obtain⟨_,h,_⟩:=g1;exact h.elim
 |outgrown=>exact g1.elim
theorem bY.SI(hm:P.follows .mixedOrders=true){gf:bf}{fN:List PV}{xs:List (List PV)}(gh:Iter P gf fN xs)(gp:enters P gf=true)(hG:G.it=true)(si:G.nm=false){s:St}{K:Kt}{g:aL}{ps:Array Tmp}{assign body:Code}
 (hg:bP s.env g= .p (.fn (.func gf) [] fN)) (V:List Nat) (m:Nat) (nk:List Nat) (I:Nat->ab×Nat) (Y:Nat->Nat) (h0:I 0=(s.hp,s.nx)) (hY:s.yk=Y 0) (vq:∀t,sH (s.env.get t)=true/\ ∀o∈dz (s.env.get t),o∈nk) (vp:∀o∈kp,o∈nk)
 (G6:∀t∈ps.toList,t<N) (jd:∀x∈xs,x.length=ps.size)
 (fL:∀k,k<xs.length->k<=m->aw ⟨N,G,nk⟩ V assign ⟨rh (ps.toList.zip (xs.getD k [])) s.env,(I k).1,(I k).2,Y k⟩
   ⟨λs'=>aw ⟨N,G,nk⟩ V body s' (rdI ⟨N,G,nk⟩ K s.env m k I Y),λ_ _=>False,λ_=>False,λ_ _=>False⟩)
 (oF:xs.length<=m->K.n ⟨s.env,(I xs.length).1,(I xs.length).2,Y xs.length⟩):bY ⟨N,G,kp⟩ (.rangeFunc g ps assign body) s K:=by
 intro bQ n Q d0 F μ a w hs hk;simp only[q9,aQ] at bQ;refine wpIn_rangeFunc λfn _=>?_;obtain⟨ms,⟨iX,CE⟩,Jl,TL⟩:=hs.nI;obtain⟨X0,Js⟩:=hs.j;have hx:=gu hs.h.fb.gl hs.env g;rw[hg] at hx
 obtain⟨bs,dD,T5,Yb⟩:∃bs:Array ah,a.eval g= .func (.func gf) #[] bs/\bs.size=fN.length/\ ∀(i:Nat) p,fN[i]? =some p->RP F w (bs[i]?.getD undef) p:=by
  generalize a.eval g=u at hx
  cases hx with
  |p hx=>
   cases hx with
   |fn _ as bs _ _ h1 h2 _ h4=>
    have:as= #[]:=lW (by simpa using h1);subst this;exact⟨bs,rfl,h2,h4⟩
 have T6:∀l,w.heap.size<=l->RI nk d0 F μ w a.tmps s.env ms l F μ s.hp s.nx w:=λl hl=>by
  refine⟨hs.h,hs.fresh,hs.env,TL,hs.rd,Kp.refl _ _,⟨λh=>by have:=hs.h.fb l h;omega,λh=>by have:=hs.h.mb l h;omega,hl⟩,λl0 gy=>?_,λ_ h=>h,aX _⟩;obtain⟨r,h,_⟩:=hs.rd l0 gy;exact bB h
 have core:∀(l:Nat) (mark:List Deferred) (w1:aj) (df:Nat) (CV:List Nat),(Instr.enterLoop fn a.tmps ps assign body d0.ro).run P w= .ok (l,mark) w1->
  w1.heap[l]? =some (.loop { state:= .ready,pending:=none,fn:=fn,tmps:=a.tmps,params:=ps,assign:=assign,body:=body,defers:=df })->
  (∀b,b<w.heap.size->w1.heap[b]? =w.heap[b]?)->(w1.os=w.os/\w1.tape=w.tape/\w1.output=w.output)->RI nk d0 F μ w a.tmps s.env CV l F μ s.hp s.nx w1->mark++a.defers=CV.map nH++d0.ds->CV.Nodup->(∀r∈CV,r∈ms\/w.heap.size<=r)->
  ∃(l:Nat) (mark:List Deferred) (uq:aj) (d:Deferred) (zH:aj) (f:bf) (args:Array ah) (vz:aj),
  (Instr.enterLoop fn a.tmps ps assign body (fc d0.ro).round).run P w= .ok (l,mark) uq/\
  (resolve a.eval (rangeCall g l) 0).run P uq= .ok d zH/\
  (∀f',Target.leads P zH d.target d.args=some f'->(fc d0.ro).fn f')/\
  (invoke d.target d.args).run P zH= .ok (.enter f args) vz/\
  ((fc d0.ro).depth.isSome=true->1<=n)/\
  CallsIn (fc d0.ro) (n-1) P f args vz (rangePost (fc d0.ro) n P l Q { a with defers:=mark++a.defers }):=by
  intro l mark w1 df CV h1 h2 Q7 Nf h3 h4 h5 h6;refine⟨l,mark,w1,{ target:= .fn (.func gf) bs,args:= #[.func (.yield l) #[] #[]] },w1,gf, #[.func (.yield l) #[] #[]]++bs,w1,h1,?_,λ_ _=>trivial,?_,λh=>by simp[fc,fY] at h,jt.2 ?_⟩
  · simp only[resolve,dD]
    simp[go_sem]
  · simp only[invoke]
    exact j5 gp _ _
  obtain⟨rec,ri⟩:∃rec:LoopState->Option Code->Loop,rec=λst pe=>{ state:=st,pending:=pe,fn:=fn,tmps:=a.tmps,params:=ps,assign:=assign,body:=body,defers:=df }:=⟨_,rfl⟩;have G7:∀{W:aj} {r:Loop},W.heap[l]? =some (.loop r)-> ∀{F':Nat->Prop} {μ':aN} {hp:ab} {nx:Nat},RI nk d0 F μ w a.tmps s.env CV l F' μ' hp nx W->l∉CV:=λhW _ _ _ _ hR hx=>by have:=(hR.nI l hx).1;rw[hW] at this;cases this
  let G2:fK P:=
   { it:=true
     J:=JI G nk d0 F μ w a.tmps s.env CV l K m I Y rec
     l:=l
     xs:=xs
     stop:=m
     cl:=λhJ hB=>hJ.cl hB
     R8:=λ_ {k Fg μg W vs x} ro n' hJ Fx Re hx h7 h8 h9=>by
      obtain⟨h6,rfl⟩:=hx.resolve_right (λh=>h)
      exact JI.R8 hm hG si vq ri hs.size G6 bQ V jd fL ro n' hJ Fx Re h6 h7 h8 h9 }
  have hJ0:G2.J 0 F aN.no w1:=by
   refine⟨F,μ,s.hp,s.nx,.ready,none,s.yk,λb=>X0 b\/b=l\/b∈CV,h3,⟨λb hb=>(aN.lN hb).elim,λb hb=>⟨λe=>?_,λhx=>(h3.nI b hx).2.1 hb,.inl hb,.inl hb⟩⟩,by rw[ri];exact h2,⟨?_,?_,.inr (.inl rfl),λr hr=>.inr (.inr hr),λl0 gy=>.inl (Js.ro hG l0 gy),λr hr=>?_,λb hb=>(aN.lN hb).elim,λb hb=>?_,λb hb=>?_,?_⟩,.inl ⟨de _,rfl,rfl,h0,hY⟩⟩
   · subst e;exact h3.rl.1 hb
   · refine G.cl Js.j ⟨Nf.1,Nf.2.1,Nf.2.2,h3.sz,λb hb=>Q7 b (hs.h.fb b hb),λb hb _=>Q7 b hb,λb x hx=>?_,λ_ h=>.inl h,λb h=>.inl (h.elim id And.left),λb h=>?_⟩
     · have aC:b<w.heap.size:=by
        unfold cC at hx;split at hx
        · rename_i hg;exact bB hg
        · cases hx
       exact(ir (Q7 b aC)).trans hx
     · rcases aN.cA.1 h with h|h|h|h
       · exact .inl (aN.cA.2 (.inl h))
       · exact .inl (aN.cA.2 (.inr h))
       · subst h;exact .inr h3.rl.2.2
       · rcases h6 b h with h7|h7
         · exact .inl (aN.cA.2 (.inr (Js.ma hG b (by rw[Jl];exact cL.2 (.inl (aY.2 ⟨b,h7,rfl⟩))))))
         · exact .inr h7
   · rintro b (hb|rfl|hb)
     · obtain⟨q1,q2,q3⟩:=Js.x b hb
       exact⟨fl q1 h3.sz,q2,q2,q3⟩
     · exact⟨bB h2,h3.rl.1,h3.rl.1,h3.rl.2.1⟩
     · obtain⟨q1,q2,q3,_⟩:=h3.nI b hb
       exact⟨bB q1,q2,q2,q3⟩
   · have q:=Js.ma hG r (by rw[Jl];exact cL.2 (.inr hr))
     exact⟨.inl q,(Js.x r q).1⟩
   · obtain⟨q1,q2⟩:=Js.kf hG b hb
     exact⟨q1,(Q7 b (hs.h.fb b q1)).trans q2⟩
   · obtain⟨q1,q2⟩:=Js.kx hG b hb
     exact⟨.inl q1,(Js.x b q1).1,(Q7 b (Js.x b q1).1).trans q2⟩
   · obtain⟨q1,q2,q3,q4⟩:=Js.os hG
     exact⟨Nf.1.trans q1,Nf.2.1.trans q2,Nf.2.2.trans q3,dW q4 h3.sz⟩
  refine fI (gh G2 rfl rfl rfl F w1 bs h3.h.fb T5 (λi p hp=>(Yb i p hp).mono (λ_ h=>h) λb hb=>Q7 b (hs.h.fb b hb)) hJ0) λe w2 he=>?_;obtain⟨v,Fg,μg,rfl,F2,jL,SA,ZX,st,pe,yk2,X2,q1,q2,q3,q4,q5⟩:=he;have A0:=bB q3;have gn:∀(o:Obj) b,b≠l->(w2.putObj l o).heap[b]? =w2.heap[b]? :=λo b hb=>World.putObj_heap_other hb
  have T7:(rec st pe).state≠ .busy:=by
   rw[ri];rcases q5 with⟨_,rfl,_⟩|⟨_,rfl,_⟩<;>simp
  have kl:=G7 q3 q1;(obtain⟨o,cY⟩:∃o:Obj,(Instr.endLoop l).run P w2= .ok pe (w2.putObj l o):=by subst ri;exact⟨_,run_endLoop q3 T7⟩);refine⟨_,_,cY,?_⟩;have Z1:=q1.grow (Fg:=λb=>Fg b/\b<w2.heap.size) (μg:=aN.no) ⟨λb hb=>(aN.lN hb).elim,λb hb=>q2.s2 b hb.1⟩ (λb hb=>hb.2);have q6:=Z1.world (W':=w2.putObj l o) (Pb:=(· =l)) (by simp) (λb _ hb=>gn _ b hb) (λb hb=>by subst hb;exact⟨Z1.rl.1,Z1.rl.2.1,kl,Z1.rl.2.2⟩);have pR:∀b,F2 b->b≠l:=λb hb e=>by subst e;exact q1.rl.1 hb
  have nR:oT (P:=P) ⟨N,G,kp⟩ d0 (λb=>F2 b\/(Fg b/\b<w2.heap.size)) jL ⟨s.env,SA,ZX,yk2⟩ { a with defers:=mark++a.defers } (w2.putObj l o):=by
   refine⟨q6.h,q6.fresh,hs.size,q6.env,⟨CV,⟨h5,dW CE q6.sz⟩,h4,q6.nI⟩,q6.rd,λh=>absurd (si.symm.trans h) nJ,X2,⟨?_,λb hb=>?_,λ_ r hr=>?_,λ_=>q4.xo,λ_ b hb=>?_,λ_ b hb=>?_,λ_=>?_⟩⟩
   · refine G.cl q4.j ⟨rfl,rfl,rfl,by simp,λb hb=>gn _ b λe=>?_,λb _ hn=>gn _ b λe=>?_,λb x hx=>?_,λ_ h=>h,λb h=>.inl h,λ_ h=>.inl h⟩
     · subst e
       rcases hb with hb|hb
       · exact pR b hb rfl
       · exact(q2.s2 b hb.1).1 rfl
     · subst e;exact hn (aN.cA.2 (.inr q4.xl))
     · refine(ir (gn _ b λe=>?_)).trans hx
       subst e;simp[cC,q3] at hx
   · obtain⟨p1,p2,p3,p4⟩:=q4.x b hb
     exact⟨by simpa using p1,λh=>h.elim p2 λh=>p3 h.1,p4⟩
   · have Ef:nH r∈CV.map nH++d0.ds:=by rw[<-h4];exact hr
     rcases cL.1 Ef with Ef|Ef
     · obtain⟨r',A5,Ip⟩:=aY.1 Ef
       (have:r'=r:=by simpa[nH] using Ip);subst this;exact q4.xm r' A5
     · exact(q4.xd r Ef).1
   · obtain⟨p1,p2⟩:=q4.kf b hb
     exact⟨.inl p1,(gn _ b (pR b p1)).trans p2⟩
   · obtain⟨p1,p2,p3⟩:=q4.kx b hb
     exact⟨p1,(gn _ b λe=>by have:=q1.rl.2.2;omega).trans p3⟩
   · obtain⟨p1,p2,p3,p4⟩:=q4.os
     exact⟨p1,p2,p3,by simpa using p4⟩
  have Jm:Kp kp μ jL:=λo ho b hb=>q6.kp o (vp o ho) b hb;(have oI:∀{F':Nat->Prop} {μ':aN} {w':aj},Rl G F μ w F' μ' w':=λh=>by rw[hG] at h;cases h);rcases q5 with⟨p1,_,rfl,p3,p4⟩|⟨_,_,c,rfl,p3⟩
  · have hle:xs.length<=m:=by
     have:min (G2.stop+1) xs.length<=m:=p1;have e:G2.stop=m:=rfl;rw[e] at this;omega
    have e:min (G2.stop+1) xs.length=xs.length:=by
     have e:G2.stop=m:=rfl;rw[e];omega
    rw[e] at p3 p4;have:=oF hle;rw[p3,<-p4] at this;exact hk .normal _ _ jL _ _ this oI Jm nR
  · rcases p3 with⟨j,rfl,p3⟩|⟨rfl,p3⟩
    · exact wpIn_exit (hk (.exit j) _ _ jL _ _ p3 oI Jm nR)
    · exact wpIn_ret (hk .ret _ _ jL _ _ p3 oI Jm nR)
 have hA:∀(W:aj) (o:Obj) b,b<W.heap.size->(W.alloc o).heap[b]? =W.heap[b]? :=λW o b hb=>by
  show(W.heap.push o)[b]? =_;rw[kG,if_neg (by omega)]
 cases gk:d0.ro with
 |none=>
  rw[gk] at core;obtain⟨rc,A6⟩:∃rc:Obj,rc= .loop { state:= .ready,pending:=none,fn:=fn,tmps:=a.tmps,params:=ps,assign:=assign,body:=body,defers:=w.heap.size }:=⟨_,rfl⟩;(have hz:((w.alloc (.deferred (some []))).alloc rc).heap.size=w.heap.size+2:=by simp);have cj:∀b,b<w.heap.size->((w.alloc (.deferred (some []))).alloc rc).heap[b]? =w.heap[b]? :=λb hb=>(hA _ _ b (by simp;omega)).trans (hA _ _ b hb);have hD:((w.alloc (.deferred (some []))).alloc rc).heap[w.heap.size]? =some (.deferred (some [])):=(hA _ _ _ (by simp)).trans (World.alloc_heap_new w _)
  have hL:((w.alloc (.deferred (some []))).alloc rc).heap[w.heap.size+1]? =some rc:=by
   have:=World.alloc_heap_new (w.alloc (.deferred (some []))) rc;rwa[World.size_alloc] at this
  have hq:=(T6 (w.heap.size+1) (by omega)).world (W':=(w.alloc (.deferred (some []))).alloc rc) (Pb:=λ_=>False) (by omega) (λb hb _=>cj b hb) (λ_ h=>h.elim)
  have XN:∀r∈w.heap.size::ms,((w.alloc (.deferred (some []))).alloc rc).heap[r]? =some (.deferred (some []))/\ ¬ F r/\ ¬ μ.has r/\d0.b0<=r:=λr hr=>by
   rcases cy.1 hr with hr|hr
   · subst hr
     exact⟨hD,λh=>by have:=hs.h.fb _ h;omega,λh=>by have:=hs.h.mb _ h;omega,CE⟩
   · exact hq.nI r hr
  have Yc:RI nk d0 F μ w a.tmps s.env (w.heap.size::ms) (w.heap.size+1) F μ s.hp s.nx ((w.alloc (.deferred (some []))).alloc rc):={ hq with nI:=XN };refine core _ _ _ w.heap.size (w.heap.size::ms) (by rw[A6];exact run_enterLoop_outer _ _ _ _ _) (by rw[hL,A6]) cj ⟨rfl,rfl,rfl⟩ Yc (by rw[Jl];rfl) (jY.2 ⟨λh=>?_,iX⟩) (λr hr=>?_)
  · have:=bB (TL _ h).1
    omega
  · rcases cy.1 hr with hr|hr
    · subst hr;exact .inr (aX _)
    · exact .inl hr
 |some l0=>
  rw[gk] at core;obtain⟨r0,gy,_⟩:=hs.rd l0 gk;obtain⟨rc,A6⟩:∃rc:Obj,rc= .loop { state:= .ready,pending:=none,fn:=fn,tmps:=a.tmps,params:=ps,assign:=assign,body:=body,defers:=r0.defers }:=⟨_,rfl⟩;have hq:=(T6 w.heap.size (aX _)).world (W':=w.alloc rc) (Pb:=λ_=>False) (by simp) (λb hb _=>hA _ _ b hb) (λ_ h=>h.elim);exact core _ [] _ r0.defers ms (by rw[A6];exact run_enterLoop_inner gy _ _ _ _ _) (by rw[World.alloc_heap_new,A6]) (λb hb=>hA _ _ b hb) ⟨rfl,rfl,rfl⟩ hq (by rw[Jl];rfl) iX (λr hr=>.inl hr)
theorem Lg{nk:List Nat}:∀{env:Env},(env.all λx=>sH x.2&&G4 (dz x.2) nk)=true-> ∀t,sH (env.get t)=true/\ ∀o∈dz (env.get t),o∈nk
 |[],_,_=>⟨rfl,λ_ h=>by cases h⟩
 |(u,v)::r,h,t=>by
  simp only[List.all_cons,aQ] at h;simp only[Env.get];split
  · exact⟨h.1.1,uK h.1.2⟩
  · exact Lg (by simpa using h.2) t
theorem bY.Vw(hm:P.follows .mixedOrders=true){gf:bf}{fN:List PV}{xs:List (List PV)}(gh:Iter P gf fN xs)(gp:enters P gf=true)(hG:G.it=true)(si:G.nm=false){env:Env}{hp:ab}{nx yk:Nat}{K:Kt}{g:aL}{ps:Array Tmp}{assign body:Code}
 (hg:bP env g= .p (.fn (.func gf) [] fN)) (V:List Nat) (m:Nat) (nk:List Nat) (Y:Nat->Nat) (hY:yk=Y 0) (vq:(env.all λx=>sH x.2&&G4 (dz x.2) nk)=true) (vp:∀o∈kp,o∈nk)
 (G6:∀t∈ps.toList,t<N) (jd:∀x∈xs,x.length=ps.size)
 (fL:∀k,k<xs.length->k<=m->aw ⟨N,G,nk⟩ V assign ⟨rh (ps.toList.zip (xs.getD k [])) env,hp,nx,Y k⟩
   ⟨λs'=>aw ⟨N,G,nk⟩ V body s' (rdI ⟨N,G,nk⟩ K env m k (λ_=>(hp,nx)) Y),λ_ _=>False,λ_=>False,λ_ _=>False⟩)
 (oF:xs.length<=m->K.n ⟨env,hp,nx,Y xs.length⟩):Lp ⟨N,G,kp⟩ (.rangeFunc g ps assign body) ⟨env,hp,nx,yk⟩ K:=⟨
 bY.SI hm gh gp hG si hg V m nk (λ_=>(hp,nx)) Y rfl hY (Lg vq) vp G6 jd fL oF⟩
end
structure FYc(p:Prop):Prop where
 y:p
structure FNc(p:Prop):Prop where
 n:¬ p
structure FXc(p:Prop):Prop where
 x:p
structure FOc(p:Prop):Prop where
 o:p
structure FRc(p:Prop):Prop where
 r:p
structure FZc(p:Prop):Prop where
 z:p
structure FHc(p e:Prop):Prop where
 h:p
 e:e
structure FIc(ρ:List Nat)(p:Prop):Prop where
 i:p
theorem Vx{P:Program}{f:FuncId}{σ:ab}{nid:Nat}{K:AV->ab->Prop}{c:AV×List AV}{as qg:List AV}{jI dX:ab}{r:AV}{ρ:List Nat}(h:FIc ρ (aM P f ρ.length jI qg r dX))(he:enters P f=true)(hc:dP c.1 c.2=some (f,as))(ha:as=tn (rn ρ nid) qg)(hn:ρ.Nodup)
 (hl:∀o∈ρ,σ.get o≠ .dead) (hs:∀i,i<ρ.length->σ.get (ρ.getD i 0)=gD (rn ρ nid) (jI.get i)) (hd:∀i,ρ.length<=i->jI.get i= .dead) (vN:∀i,i<ρ.length->i∈keys dX)
 (hb:∀k∈keys dX,k<ρ.length+64) (hk:K (gY (rn ρ nid) r) (dX.map λx=>(rn ρ nid x.1,gD (rn ρ nid) x.2))):oD P c σ nid K:=Pq ρ h.i he hc ha hn hl hs hd vN hb hk
structure FFc(id:Nat)(T:List (Nat×Bool)):Prop where
 t:True
section
variable{p e:Prop}
theorem kY(h:p):FYc p:=⟨h⟩
theorem kN(h:¬ p):FNc p:=⟨h⟩
theorem kX(h:p):FXc p:=⟨h⟩
theorem kO(h:p):FOc p:=⟨h⟩
theorem kR(h:p):FRc p:=⟨h⟩
theorem kZ(h:p):FZc p:=⟨h⟩
theorem kH(h:p)(j:e):FHc p e:=⟨h,j⟩
theorem kI(ρ:List Nat)(h:p):FIc ρ p:=⟨h⟩
theorem kF(id:Nat)(T:List (Nat×Bool)):FFc id T:=⟨trivial⟩
end
section
variable{β:Type}{o:Option β}{v:β}{A:β->Prop}{B:Prop}
theorem Vy(h:o=some v)(k:A v):jr o A B:=by subst h;exact jr.ss k
theorem SJ(h:o=none)(k:B):jr o A B:=by subst h;exact jr.nn k
end
structure Wk(p:Prop) where
 q:Prop
 h:q->p
section
variable{g g1 g2:Prop}
abbrev Wk.id:Wk g:=⟨g,λh=>h⟩
abbrev Wk.ok(h:g):Wk g:=⟨True,λ_=>h⟩
abbrev Wk.w(e:g1=g)(w:Wk g1):Wk g:=⟨w.q,λh=>e▸w.h h⟩
abbrev Wk.a(r:g1->g)(w:Wk g1):Wk g:=⟨w.q,λh=>r (w.h h)⟩
abbrev Wk.b(r:g1->g2->g)(w1:Wk g1)(w2:Wk g2):Wk g:=⟨w1.q/\w2.q,λh=>r (w1.h h.1) (w2.h h.2)⟩
abbrev Wk.d{c d:Prop}(r:(c->g1)->(d->g2)->g)(w1:c->Wk g1)(w2:d->Wk g2):Wk g:=⟨(∀hc,(w1 hc).q)/\ ∀hc,(w2 hc).q,λh=>r (λc=>(w1 c).h (h.1 c)) λc=>(w2 c).h (h.2 c)⟩
abbrev Wk.f1{c:Prop}(r:(c->g1)->g)(w1:c->Wk g1):Wk g:=⟨∀hc,(w1 hc).q,λh=>r (λc=>(w1 c).h (h c))⟩
abbrev Wk.p{c:Prop}(r:(c->g1)->g)(w1:c->Wk g1):Wk g:=⟨∀aZ,(w1 aZ).q,λh=>r (λc=>(w1 c).h (h c))⟩
abbrev Wk.x{α:Type}{P:α->Prop}{k:α->Prop}(r:(∀x,P x->k x)->g)(w1:∀x,P x->Wk (k x)):Wk g:=⟨∀x hx,(w1 x hx).q,λh=>r (λx hx=>(w1 x hx).h (h x hx))⟩
abbrev Wk.o{α:Type}{P:α->Prop}{k:α->Prop}{c:Prop}(r:(∀x,P x->k x)->(c->g2)->g)(w1:∀x,P x->Wk (k x))(w2:c->Wk g2):Wk g:=⟨(∀z hz,(w1 z hz).q)/\ ∀hz,(w2 hz).q,λh=>r (λx hx=>(w1 x hx).h (h.1 x hx)) λc=>(w2 c).h (h.2 c)⟩
abbrev Wk.n{c:Prop}(r:(c->g1)->g2->g)(w1:c->Wk g1)(w2:Wk g2):Wk g:=⟨(∀hn,(w1 hn).q)/\w2.q,λh=>r (λc=>(w1 c).h (h.1 c)) (w2.h h.2)⟩
abbrev Wk.yd{α:Sort _}{f:α->Prop}(w:Wk (Exists f)):Wk (Exists f):=w
abbrev Wk.zR{P:Program}{c:AV×List AV}{σ:ab}{nid:Nat}{K:AV->ab->Prop}(w:Wk (oD P c σ nid K)):Wk (oD P c σ nid K):=w
abbrev Wk.s1{a b:PV}(w:Wk (aP a b)):Wk (aP a b):=w
abbrev Wk.s2{P:Program}{C:Cx P}{c:Code}{s:St}{K:Kt}(w:Wk (Lp C c s K)):Wk (Lp C c s K):=w
abbrev Wk.r1{a b:Int}(w:Wk (a<=b)):Wk (a<=b):=w
abbrev Wk.r2{a b:Int}(w:Wk (a<b)):Wk (a<b):=w
abbrev Wk.r3{a b:Nat}(w:Wk (a<=b)):Wk (a<=b):=w
abbrev Wk.r4{a b:Nat}(w:Wk (a<b)):Wk (a<b):=w
end
theorem np{p:Prop}[Decidable p]{A B:Prop}(h:p)(k:p->A):Br (decide p) A B:=Br.dec k λc=>absurd h c
theorem vZ{p:Prop}[Decidable p]{A B:Prop}(h:¬ p)(k:¬ p->B):Br (decide p) A B:=Br.dec (λc=>absurd c h) k
theorem kFz{P:Program}{C:Cx P}{V:List Nat}{id:Nat}{env:Env}{hp:ab}{nx yk:Nat}{Q:St->Prop}{T:List (Nat×Bool)}(_:FFc id T)(h:T3 env hp T [] λZ=>zE hp Z V env λbO=>vW hp Z hp [] λgj=>C.kp.all (nL hp Z)=true/\Q ⟨bO,gj,nx,yk⟩):Sq C V id Q ⟨env,hp,nx,yk⟩:=Sq.fz T h
class SK(p:Prop):Prop where
 t:True
class Yr(p:Prop):Prop where
 t:True
instance{a b:PV}:SK (aP a b):=⟨trivial⟩
instance{P:Program}{C:Cx P}{c:Code}{s:St}{K:Kt}:SK (Lp C c s K):=⟨trivial⟩
instance{α:Sort _}{f:α->Prop}:SK (Exists f):=⟨trivial⟩
instance{P:Program}{c:AV×List AV}{s:ab}{n:Nat}{K:AV->ab->Prop}:SK (oD P c s n K):=⟨trivial⟩
instance{a b:Int}:SK (a<=b):=⟨trivial⟩
instance{a b:Int}:SK (a<b):=⟨trivial⟩
instance{a b:Nat}:SK (a<=b):=⟨trivial⟩
instance{a b:Nat}:SK (a<b):=⟨trivial⟩
instance{a b:PV}:Yr (aP a b):=⟨trivial⟩
instance{P:Program}{C:Cx P}{c:Code}{s:St}{K:Kt}:Yr (Lp C c s K):=⟨trivial⟩
instance{α:Sort _}{f:α->Prop}:Yr (Exists f):=⟨trivial⟩
instance{P:Program}{c:AV×List AV}{s:ab}{n:Nat}{K:AV->ab->Prop}:Yr (oD P c s n K):=⟨trivial⟩
theorem ft{p:Prop}[SK p](h:p):p:=h
theorem fu{p:Prop}[Yr p](h:p):p:=h
class Stx(p:Prop):Prop where
 t:True
instance{α:Sort _}{f:α->Prop}:Stx (Exists f):=⟨trivial⟩
theorem stx{p:Prop}[Stx p](h:p):p:=h
class Stc(p:Prop):Prop where
 t:True
instance{P:Program}{c:AV×List AV}{s:ab}{n:Nat}{K:AV->ab->Prop}:Stc (oD P c s n K):=⟨trivial⟩
theorem kq{p:Prop}[Stc p](h:p):p:=h
theorem Ys{C g g1:Prop}(r:C->g1->g:=by intro c;first|exact dF c (by kernel_rfl) rfl|exact dF (c _) (by kernel_rfl) rfl|exact dF (c _ _) (by kernel_rfl) rfl|exact dF (c _ _ _) (by kernel_rfl) rfl|exact dF (c _ _ _ _) (by kernel_rfl) rfl|exact dF (c _ _ _ _ _) (by kernel_rfl) rfl|exact dF (c _ _ _ _ _ _) (by kernel_rfl) rfl|exact dF (c _ _ _ _ _ _ _) (by kernel_rfl) rfl|exact dF c.h c.e rfl|exact dF (c.h _) c.e rfl|exact dF (c.h _ _) c.e rfl|(intro h;refine k9 c.z (by kernel_rfl) rfl ?_;(repeat' (first|exact PV.ao|refine PV.ai ?_ ?_|refine And.intro ?_ ?_|exact Nat.zero_lt_succ _|exact Nat.le_of_ble_eq_true rfl|exact PV.le_refl _|exact PV.le_nil _ _ _|exact PV.ue _ _ _|refine PV.ym ?_|refine PV.fU ?_|rfl));exact h;done)|(intro h;refine k9 (c.z _) (by kernel_rfl) rfl ?_;(repeat' (first|exact PV.ao|refine PV.ai ?_ ?_|refine And.intro ?_ ?_|exact Nat.zero_lt_succ _|exact Nat.le_of_ble_eq_true rfl|exact PV.le_refl _|exact PV.le_nil _ _ _|exact PV.ue _ _ _|refine PV.ym ?_|refine PV.fU ?_|rfl));exact h;done)|(intro h;refine k9 (c.z _ _) (by kernel_rfl) rfl ?_;(repeat' (first|exact PV.ao|refine PV.ai ?_ ?_|refine And.intro ?_ ?_|exact Nat.zero_lt_succ _|exact Nat.le_of_ble_eq_true rfl|exact PV.le_refl _|exact PV.le_nil _ _ _|exact PV.ue _ _ _|refine PV.ym ?_|refine PV.fU ?_|rfl));exact h;done)|exact Vx c (by kernel_rfl) rfl rfl (by decide) M1 (λi hi=>by rcases i with _|_|_|_|_|_|i<;>first|rfl|exact absurd hi (by simp)) M4 T1 (by simp[keys])):C->g1->g:=r
theorem fR{C g g1:Prop}(c:C)(h:g1)(r:C->g1->g:=by exact Ys):g:=r c h
theorem str{g g1:Prop}(h:g1)(r:g1->g:=by first|exact fJ.l|exact Sq.pr|exact Br.tt|exact Br.ff|exact Br.not|exact jr.nn|exact jr.ss|exact vI.l):g:=r h
theorem fv{P:Prop}(h:P:=by first|exact X3|exact rfl|exact trivial):P:=h
abbrev Wk.l{C g g1:Prop}(c:C)(w:Wk g1)(r:C->g1->g:=by exact Ys):Wk g:=⟨w.q,λh=>r c (w.h h)⟩
abbrev Wk.e{C g g1:Prop}(c:C)(w:Wk g1)(r:C->g1->g:=by intro c;first|exact Sg.dR c.x|exact Sg.ix_q c.x|exact Vy c.x|exact SJ c.x|exact kFz c):Wk g:=⟨w.q,λh=>r c (w.h h)⟩
abbrev Wk.f{C c g g1:Prop}(f:C)(w1:c->Wk g1)(r:C->(c->g1)->g:=by intro f;first|exact np f.y|exact vZ f.n):Wk g:=Wk.f1 (r f) w1
abbrev Wk.v{C c g g2:Prop}{α:Type}{P:α->Prop}{k:α->Prop}(f:C)(w1:∀x,P x->Wk (k x))(w2:c->Wk g2)(r:C->(∀x,P x->k x)->(c->g2)->g:=by intro f;exact jr.of f.o):Wk g:=Wk.o (r f) w1 w2
abbrev Wk.t{C g g1:Prop}(f:C)(w:Wk g1)(e:C->g1=g:=by intro f;conv=>rhs;rw[f.r]):Wk g:=Wk.w (e f) w
theorem cb{p q:Prop}(hq:q)(h:Wk p:=by(repeat' (first|exact Wk.ok fg|((with_reducible refine Wk.yd ?_);(first|exact Wk.ok (bW _)|refine Wk.a aE ?_))|((fail_if_success with_reducible first|refine Wk.s1 ?_|refine Wk.s2 ?_|refine Wk.yd ?_|refine Wk.zR ?_|refine Wk.r1 ?_|refine Wk.r2 ?_|refine Wk.r3 ?_|refine Wk.r4 ?_);(refine Wk.w (by conv=>rhs;whnf) ?_)<;>(first|exact Wk.ok fh|refine Wk.a fJ.l ?_|refine Wk.a Sq.pr ?_|refine Wk.a Br.tt ?_|refine Wk.a Br.ff ?_|refine Wk.a Br.not ?_|refine Wk.a jr.nn ?_|refine Wk.a jr.ss ?_|refine Wk.a vI.l ?_|refine Wk.a aE ?_|refine Wk.d Br.dec (λhc=>?_) (λhc=>?_)|refine Wk.d Br.mk (λhc=>?_) (λhc=>?_)|exact Wk.ok PV.ao|refine Wk.b PV.ai ?_ ?_|refine Wk.b And.intro ?_ ?_|refine Wk.x aD (λx hx=>?_)|refine Wk.n bX (λhn=>?_) ?_|exact Wk.ok X3|refine Wk.p bS (λaZ=>?_)|refine Wk.b al ?_ ?_|exact Wk.ok rfl|exact Wk.ok trivial|(with_reducible first|refine Wk.s1 ?_|refine Wk.s2 ?_|refine Wk.yd ?_|refine Wk.zR ?_))))<;>(try exact Wk.ok fi))<;>exact Wk.id)(e:q=h.q:=by first|((simp only[Wk.id,Wk.ok,Wk.w,Wk.a,Wk.b,Wk.d,Wk.f1,Wk.p,Wk.x,Wk.n,Wk.o,Wk.l,Wk.e,Wk.f,Wk.v,Wk.t,Wk.yd,Wk.zR,true_and,and_true,implies_true]);first|done|exact rfl)|exact rfl):p:=h.h (e▸hq)
abbrev Yt{p F:Prop}(h:F->Wk p:=by intro f;(repeat' (first|exact Wk.ok fg|((with_reducible refine Wk.yd ?_);(first|exact Wk.ok (bW _)|refine Wk.a aE ?_))|((with_reducible refine Wk.zR ?_);(first|refine Wk.l f.1 ?_))|((fail_if_success with_reducible first|refine Wk.s1 ?_|refine Wk.s2 ?_|refine Wk.yd ?_|refine Wk.zR ?_|refine Wk.r1 ?_|refine Wk.r2 ?_|refine Wk.r3 ?_|refine Wk.r4 ?_);(refine Wk.w (by conv=>rhs;whnf) ?_)<;>(first|exact Wk.ok fh|refine Wk.f f.1 (λhc=>?_)|refine Wk.e f.1 ?_|refine Wk.v f.1 (λz hz=>?_) (λhz=>?_)|refine Wk.a fJ.l ?_|refine Wk.a Sq.pr ?_|refine Wk.a Br.tt ?_|refine Wk.a Br.ff ?_|refine Wk.a Br.not ?_|refine Wk.a jr.nn ?_|refine Wk.a jr.ss ?_|refine Wk.a vI.l ?_|refine Wk.a aE ?_|refine Wk.d Br.dec (λhc=>?_) (λhc=>?_)|refine Wk.d Br.mk (λhc=>?_) (λhc=>?_)|exact Wk.ok PV.ao|refine Wk.b PV.ai ?_ ?_|refine Wk.b And.intro ?_ ?_|refine Wk.x aD (λx hx=>?_)|refine Wk.n bX (λhn=>?_) ?_|exact Wk.ok X3|refine Wk.p bS (λaZ=>?_)|refine Wk.b al ?_ ?_|exact Wk.ok rfl|exact Wk.ok trivial|(with_reducible first|refine Wk.s1 ?_|refine Wk.s2 ?_|refine Wk.yd ?_|refine Wk.zR ?_)|refine Wk.t f.1 ?_)))<;>(try exact Wk.ok fi))<;>exact Wk.id):F->Wk p:=h
abbrev SL{p F:Prop}(h:F->Wk p:=by intro f;(repeat' (first|exact Wk.ok fg|((with_reducible refine Wk.yd ?_);(first|exact Wk.ok (bW _)|refine Wk.a aE ?_))|((with_reducible refine Wk.zR ?_);(first|refine Wk.l f.1 ?_|refine Wk.l f.2.1 ?_|refine Wk.l f.2.2.1 ?_))|((fail_if_success with_reducible first|refine Wk.s1 ?_|refine Wk.s2 ?_|refine Wk.yd ?_|refine Wk.zR ?_|refine Wk.r1 ?_|refine Wk.r2 ?_|refine Wk.r3 ?_|refine Wk.r4 ?_);(refine Wk.w (by conv=>rhs;whnf) ?_)<;>(first|exact Wk.ok fh|refine Wk.f f.1 (λhc=>?_)|refine Wk.e f.1 ?_|refine Wk.v f.1 (λz hz=>?_) (λhz=>?_)|refine Wk.f f.2.1 (λhc=>?_)|refine Wk.e f.2.1 ?_|refine Wk.v f.2.1 (λz hz=>?_) (λhz=>?_)|refine Wk.f f.2.2.1 (λhc=>?_)|refine Wk.e f.2.2.1 ?_|refine Wk.v f.2.2.1 (λz hz=>?_) (λhz=>?_)|refine Wk.a fJ.l ?_|refine Wk.a Sq.pr ?_|refine Wk.a Br.tt ?_|refine Wk.a Br.ff ?_|refine Wk.a Br.not ?_|refine Wk.a jr.nn ?_|refine Wk.a jr.ss ?_|refine Wk.a vI.l ?_|refine Wk.a aE ?_|refine Wk.d Br.dec (λhc=>?_) (λhc=>?_)|refine Wk.d Br.mk (λhc=>?_) (λhc=>?_)|exact Wk.ok PV.ao|refine Wk.b PV.ai ?_ ?_|refine Wk.b And.intro ?_ ?_|refine Wk.x aD (λx hx=>?_)|refine Wk.n bX (λhn=>?_) ?_|exact Wk.ok X3|refine Wk.p bS (λaZ=>?_)|refine Wk.b al ?_ ?_|exact Wk.ok rfl|exact Wk.ok trivial|(with_reducible first|refine Wk.s1 ?_|refine Wk.s2 ?_|refine Wk.yd ?_|refine Wk.zR ?_)|refine Wk.t f.1 ?_|refine Wk.t f.2.1 ?_|refine Wk.t f.2.2.1 ?_)))<;>(try exact Wk.ok fi))<;>exact Wk.id):F->Wk p:=h
abbrev l5{p F:Prop}(h:F->Wk p:=by intro f;(repeat' (first|exact Wk.ok fg|((with_reducible refine Wk.yd ?_);(first|exact Wk.ok (bW _)|refine Wk.a aE ?_))|((with_reducible refine Wk.zR ?_);(first|refine Wk.l f.1 ?_|refine Wk.l f.2.1 ?_|refine Wk.l f.2.2.1 ?_|refine Wk.l f.2.2.2.1 ?_|refine Wk.l f.2.2.2.2.1 ?_|refine Wk.l f.2.2.2.2.2.1 ?_|refine Wk.l f.2.2.2.2.2.2.1 ?_|refine Wk.l f.2.2.2.2.2.2.2.1 ?_|refine Wk.l f.2.2.2.2.2.2.2.2.1 ?_|refine Wk.l f.2.2.2.2.2.2.2.2.2.1 ?_|refine Wk.l f.2.2.2.2.2.2.2.2.2.2.1 ?_))|((fail_if_success with_reducible first|refine Wk.s1 ?_|refine Wk.s2 ?_|refine Wk.yd ?_|refine Wk.zR ?_|refine Wk.r1 ?_|refine Wk.r2 ?_|refine Wk.r3 ?_|refine Wk.r4 ?_);(refine Wk.w (by conv=>rhs;whnf) ?_)<;>(first|exact Wk.ok fh|refine Wk.f f.1 (λhc=>?_)|refine Wk.e f.1 ?_|refine Wk.v f.1 (λz hz=>?_) (λhz=>?_)|refine Wk.f f.2.1 (λhc=>?_)|refine Wk.e f.2.1 ?_|refine Wk.v f.2.1 (λz hz=>?_) (λhz=>?_)|refine Wk.f f.2.2.1 (λhc=>?_)|refine Wk.e f.2.2.1 ?_|refine Wk.v f.2.2.1 (λz hz=>?_) (λhz=>?_)|refine Wk.f f.2.2.2.1 (λhc=>?_)|refine Wk.e f.2.2.2.1 ?_|refine Wk.v f.2.2.2.1 (λz hz=>?_) (λhz=>?_)|refine Wk.f f.2.2.2.2.1 (λhc=>?_)|refine Wk.e f.2.2.2.2.1 ?_|refine Wk.v f.2.2.2.2.1 (λz hz=>?_) (λhz=>?_)|refine Wk.f f.2.2.2.2.2.1 (λhc=>?_)|refine Wk.e f.2.2.2.2.2.1 ?_|refine Wk.v f.2.2.2.2.2.1 (λz hz=>?_) (λhz=>?_)|refine Wk.f f.2.2.2.2.2.2.1 (λhc=>?_)|refine Wk.e f.2.2.2.2.2.2.1 ?_|refine Wk.v f.2.2.2.2.2.2.1 (λz hz=>?_) (λhz=>?_)|refine Wk.f f.2.2.2.2.2.2.2.1 (λhc=>?_)|refine Wk.e f.2.2.2.2.2.2.2.1 ?_|refine Wk.v f.2.2.2.2.2.2.2.1 (λz hz=>?_) (λhz=>?_)|refine Wk.f f.2.2.2.2.2.2.2.2.1 (λhc=>?_)|refine Wk.e f.2.2.2.2.2.2.2.2.1 ?_|refine Wk.v f.2.2.2.2.2.2.2.2.1 (λz hz=>?_) (λhz=>?_)|refine Wk.f f.2.2.2.2.2.2.2.2.2.1 (λhc=>?_)|refine Wk.e f.2.2.2.2.2.2.2.2.2.1 ?_|refine Wk.v f.2.2.2.2.2.2.2.2.2.1 (λz hz=>?_) (λhz=>?_)|refine Wk.f f.2.2.2.2.2.2.2.2.2.2.1 (λhc=>?_)|refine Wk.e f.2.2.2.2.2.2.2.2.2.2.1 ?_|refine Wk.v f.2.2.2.2.2.2.2.2.2.2.1 (λz hz=>?_) (λhz=>?_)|refine Wk.a fJ.l ?_|refine Wk.a Sq.pr ?_|refine Wk.a Br.tt ?_|refine Wk.a Br.ff ?_|refine Wk.a Br.not ?_|refine Wk.a jr.nn ?_|refine Wk.a jr.ss ?_|refine Wk.a vI.l ?_|refine Wk.a aE ?_|refine Wk.d Br.dec (λhc=>?_) (λhc=>?_)|refine Wk.d Br.mk (λhc=>?_) (λhc=>?_)|exact Wk.ok PV.ao|refine Wk.b PV.ai ?_ ?_|refine Wk.b And.intro ?_ ?_|refine Wk.x aD (λx hx=>?_)|refine Wk.n bX (λhn=>?_) ?_|exact Wk.ok X3|refine Wk.p bS (λaZ=>?_)|refine Wk.b al ?_ ?_|exact Wk.ok rfl|exact Wk.ok trivial|(with_reducible first|refine Wk.s1 ?_|refine Wk.s2 ?_|refine Wk.yd ?_|refine Wk.zR ?_)|refine Wk.t f.1 ?_|refine Wk.t f.2.1 ?_|refine Wk.t f.2.2.1 ?_|refine Wk.t f.2.2.2.1 ?_|refine Wk.t f.2.2.2.2.1 ?_|refine Wk.t f.2.2.2.2.2.1 ?_|refine Wk.t f.2.2.2.2.2.2.1 ?_|refine Wk.t f.2.2.2.2.2.2.2.1 ?_|refine Wk.t f.2.2.2.2.2.2.2.2.1 ?_|refine Wk.t f.2.2.2.2.2.2.2.2.2.1 ?_|refine Wk.t f.2.2.2.2.2.2.2.2.2.2.1 ?_)))<;>(try exact Wk.ok fi))<;>exact Wk.id):F->Wk p:=h
theorem bM{p C1:Prop}(c1:C1){q:Prop}(hq:q)(h:C1/\True->Wk p:=by exact Yt)(e:q=(h ⟨c1,trivial⟩).q:=by first|((simp only[Yt,Wk.id,Wk.ok,Wk.w,Wk.a,Wk.b,Wk.d,Wk.f1,Wk.p,Wk.x,Wk.n,Wk.o,Wk.l,Wk.e,Wk.f,Wk.v,Wk.t,Wk.yd,Wk.zR,true_and,and_true,implies_true]);first|done|exact rfl)|exact rfl):p:=(h ⟨c1,trivial⟩).h (e▸hq)
theorem gG{p C1 C2:Prop}(c1:C1)(c2:C2){q:Prop}(hq:q)(h:C1/\C2/\True->Wk p:=by exact SL)(e:q=(h ⟨c1,c2,trivial⟩).q:=by first|((simp only[SL,Wk.id,Wk.ok,Wk.w,Wk.a,Wk.b,Wk.d,Wk.f1,Wk.p,Wk.x,Wk.n,Wk.o,Wk.l,Wk.e,Wk.f,Wk.v,Wk.t,Wk.yd,Wk.zR,true_and,and_true,implies_true]);first|done|exact rfl)|exact rfl):p:=(h ⟨c1,c2,trivial⟩).h (e▸hq)
theorem gg{p C1 C2 C3:Prop}(c1:C1)(c2:C2)(c3:C3){q:Prop}(hq:q)(h:C1/\C2/\C3/\True->Wk p:=by exact SL)(e:q=(h ⟨c1,c2,c3,trivial⟩).q:=by first|((simp only[SL,Wk.id,Wk.ok,Wk.w,Wk.a,Wk.b,Wk.d,Wk.f1,Wk.p,Wk.x,Wk.n,Wk.o,Wk.l,Wk.e,Wk.f,Wk.v,Wk.t,Wk.yd,Wk.zR,true_and,and_true,implies_true]);first|done|exact rfl)|exact rfl):p:=(h ⟨c1,c2,c3,trivial⟩).h (e▸hq)
theorem oa{p C1 C2 C3 C4:Prop}(c1:C1)(c2:C2)(c3:C3)(c4:C4){q:Prop}(hq:q)(h:C1/\C2/\C3/\C4/\True->Wk p:=by exact l5)(e:q=(h ⟨c1,c2,c3,c4,trivial⟩).q:=by first|((simp only[l5,Wk.id,Wk.ok,Wk.w,Wk.a,Wk.b,Wk.d,Wk.f1,Wk.p,Wk.x,Wk.n,Wk.o,Wk.l,Wk.e,Wk.f,Wk.v,Wk.t,Wk.yd,Wk.zR,true_and,and_true,implies_true]);first|done|exact rfl)|exact rfl):p:=(h ⟨c1,c2,c3,c4,trivial⟩).h (e▸hq)
theorem Rh{p C1 C2 C3 C4 C5:Prop}(c1:C1)(c2:C2)(c3:C3)(c4:C4)(c5:C5){q:Prop}(hq:q)(h:C1/\C2/\C3/\C4/\C5/\True->Wk p:=by exact l5)(e:q=(h ⟨c1,c2,c3,c4,c5,trivial⟩).q:=by first|((simp only[l5,Wk.id,Wk.ok,Wk.w,Wk.a,Wk.b,Wk.d,Wk.f1,Wk.p,Wk.x,Wk.n,Wk.o,Wk.l,Wk.e,Wk.f,Wk.v,Wk.t,Wk.yd,Wk.zR,true_and,and_true,implies_true]);first|done|exact rfl)|exact rfl):p:=(h ⟨c1,c2,c3,c4,c5,trivial⟩).h (e▸hq)
theorem Jt{p C1 C2 C3 C4 C5 C6:Prop}(c1:C1)(c2:C2)(c3:C3)(c4:C4)(c5:C5)(c6:C6){q:Prop}(hq:q)(h:C1/\C2/\C3/\C4/\C5/\C6/\True->Wk p:=by exact l5)(e:q=(h ⟨c1,c2,c3,c4,c5,c6,trivial⟩).q:=by first|((simp only[l5,Wk.id,Wk.ok,Wk.w,Wk.a,Wk.b,Wk.d,Wk.f1,Wk.p,Wk.x,Wk.n,Wk.o,Wk.l,Wk.e,Wk.f,Wk.v,Wk.t,Wk.yd,Wk.zR,true_and,and_true,implies_true]);first|done|exact rfl)|exact rfl):p:=(h ⟨c1,c2,c3,c4,c5,c6,trivial⟩).h (e▸hq)
theorem Ri{p C1 C2 C3 C4 C5 C6 C7:Prop}(c1:C1)(c2:C2)(c3:C3)(c4:C4)(c5:C5)(c6:C6)(c7:C7){q:Prop}(hq:q)(h:C1/\C2/\C3/\C4/\C5/\C6/\C7/\True->Wk p:=by exact l5)(e:q=(h ⟨c1,c2,c3,c4,c5,c6,c7,trivial⟩).q:=by first|((simp only[l5,Wk.id,Wk.ok,Wk.w,Wk.a,Wk.b,Wk.d,Wk.f1,Wk.p,Wk.x,Wk.n,Wk.o,Wk.l,Wk.e,Wk.f,Wk.v,Wk.t,Wk.yd,Wk.zR,true_and,and_true,implies_true]);first|done|exact rfl)|exact rfl):p:=(h ⟨c1,c2,c3,c4,c5,c6,c7,trivial⟩).h (e▸hq)
theorem Yu{p C1 C2 C3 C4 C5 C6 C7 C8:Prop}(c1:C1)(c2:C2)(c3:C3)(c4:C4)(c5:C5)(c6:C6)(c7:C7)(c8:C8){q:Prop}(hq:q)(h:C1/\C2/\C3/\C4/\C5/\C6/\C7/\C8/\True->Wk p:=by exact l5)(e:q=(h ⟨c1,c2,c3,c4,c5,c6,c7,c8,trivial⟩).q:=by first|((simp only[l5,Wk.id,Wk.ok,Wk.w,Wk.a,Wk.b,Wk.d,Wk.f1,Wk.p,Wk.x,Wk.n,Wk.o,Wk.l,Wk.e,Wk.f,Wk.v,Wk.t,Wk.yd,Wk.zR,true_and,and_true,implies_true]);first|done|exact rfl)|exact rfl):p:=(h ⟨c1,c2,c3,c4,c5,c6,c7,c8,trivial⟩).h (e▸hq)
theorem wk9{p C1 C2 C3 C4 C5 C6 C7 C8 C9:Prop}(c1:C1)(c2:C2)(c3:C3)(c4:C4)(c5:C5)(c6:C6)(c7:C7)(c8:C8)(c9:C9){q:Prop}(hq:q)(h:C1/\C2/\C3/\C4/\C5/\C6/\C7/\C8/\C9/\True->Wk p:=by exact l5)(e:q=(h ⟨c1,c2,c3,c4,c5,c6,c7,c8,c9,trivial⟩).q:=by first|((simp only[l5,Wk.id,Wk.ok,Wk.w,Wk.a,Wk.b,Wk.d,Wk.f1,Wk.p,Wk.x,Wk.n,Wk.o,Wk.l,Wk.e,Wk.f,Wk.v,Wk.t,Wk.yd,Wk.zR,true_and,and_true,implies_true]);first|done|exact rfl)|exact rfl):p:=(h ⟨c1,c2,c3,c4,c5,c6,c7,c8,c9,trivial⟩).h (e▸hq)
theorem wk10{p C1 C2 C3 C4 C5 C6 C7 C8 C9 Yv:Prop}(c1:C1)(c2:C2)(c3:C3)(c4:C4)(c5:C5)(c6:C6)(c7:C7)(c8:C8)(c9:C9)(Yw:Yv){q:Prop}(hq:q)(h:C1/\C2/\C3/\C4/\C5/\C6/\C7/\C8/\C9/\Yv/\True->Wk p:=by exact l5)(e:q=(h ⟨c1,c2,c3,c4,c5,c6,c7,c8,c9,Yw,trivial⟩).q:=by first|((simp only[l5,Wk.id,Wk.ok,Wk.w,Wk.a,Wk.b,Wk.d,Wk.f1,Wk.p,Wk.x,Wk.n,Wk.o,Wk.l,Wk.e,Wk.f,Wk.v,Wk.t,Wk.yd,Wk.zR,true_and,and_true,implies_true]);first|done|exact rfl)|exact rfl):p:=(h ⟨c1,c2,c3,c4,c5,c6,c7,c8,c9,Yw,trivial⟩).h (e▸hq)
theorem wk11{p C1 C2 C3 C4 C5 C6 C7 C8 C9 Yv C11:Prop}(c1:C1)(c2:C2)(c3:C3)(c4:C4)(c5:C5)(c6:C6)(c7:C7)(c8:C8)(c9:C9)(Yw:Yv)(c11:C11){q:Prop}(hq:q)(h:C1/\C2/\C3/\C4/\C5/\C6/\C7/\C8/\C9/\Yv/\C11/\True->Wk p:=by exact l5)(e:q=(h ⟨c1,c2,c3,c4,c5,c6,c7,c8,c9,Yw,c11,trivial⟩).q:=by first|((simp only[l5,Wk.id,Wk.ok,Wk.w,Wk.a,Wk.b,Wk.d,Wk.f1,Wk.p,Wk.x,Wk.n,Wk.o,Wk.l,Wk.e,Wk.f,Wk.v,Wk.t,Wk.yd,Wk.zR,true_and,and_true,implies_true]);first|done|exact rfl)|exact rfl):p:=(h ⟨c1,c2,c3,c4,c5,c6,c7,c8,c9,Yw,c11,trivial⟩).h (e▸hq)
abbrev Wk.c{g g1 g2 g3:Prop}(r:g1->g2->g3->g)(w1:Wk g1)(w2:Wk g2)(w3:Wk g3):Wk g:=⟨w1.q/\w2.q/\w3.q,λh=>r (w1.h h.1) (w2.h h.2.1) (w3.h h.2.2)⟩
theorem clE{P:Prop}(h:P:=by first|(simp;done)|(congr 1;omega)|(congr 1;(first|(simp;done)|(simp;omega)))):P:=h
theorem aG{p q:Prop}(hq:q)(h:Wk p:=by(first|refine Wk.a (di.Vz []) ?_|refine Wk.a (di.T8 []) ?_)<;>(repeat' (first|exact Wk.ok trivial|refine Wk.a fe.dd ?_|refine Wk.b (fe.mk rfl (by simp) rfl (λh=>bJ.noConfusion h)) ?_ ?_|refine Wk.b And.intro ?_ ?_|exact Wk.ok Pu|refine Wk.a cW.pe ?_|refine Wk.a cW.agg ?_|refine Wk.a cW.bR ?_|refine Wk.b cW.fn ?_ ?_|refine Wk.b iv.cons ?_ ?_|exact Wk.ok iv.nil|exact Wk.ok (dL.row _ _)|exact Wk.ok rfl|refine Wk.c (cW.zB rfl) ?_ ?_ ?_|refine Wk.b dL.rb ?_ ?_|refine Wk.b dL.xI ?_ ?_|refine Wk.a dL.rC ?_|refine Wk.b dL.rf ?_ ?_|refine Wk.b dL.pV ?_ ?_|refine Wk.c dL.pW ?_ ?_ ?_|exact Wk.ok (dL.na rfl)))<;>(try exact Wk.ok clE)<;>exact Wk.id)(e:q=h.q:=by first|((simp only[Wk.id,Wk.ok,Wk.a,Wk.b,Wk.c,true_and,and_true]);first|done|exact rfl)|exact rfl):p:=h.h (e▸hq)
theorem nq{p q:Prop}(hq:q)(h:Wk p:=by(refine Wk.a (di.ofK []) ?_)<;>(repeat' (first|exact Wk.ok trivial|refine Wk.a fe.dd ?_|refine Wk.b (fe.mk rfl (by simp) rfl (λh=>bJ.noConfusion h)) ?_ ?_|refine Wk.b And.intro ?_ ?_|exact Wk.ok Pu|refine Wk.a cW.pe ?_|refine Wk.a cW.agg ?_|refine Wk.a cW.bR ?_|refine Wk.b cW.fn ?_ ?_|refine Wk.b iv.cons ?_ ?_|exact Wk.ok iv.nil|exact Wk.ok (dL.row _ _)|exact Wk.ok rfl|refine Wk.c (cW.zB rfl) ?_ ?_ ?_|refine Wk.b dL.rb ?_ ?_|refine Wk.b dL.xI ?_ ?_|refine Wk.a dL.rC ?_|refine Wk.b dL.rf ?_ ?_|refine Wk.b dL.pV ?_ ?_|refine Wk.c dL.pW ?_ ?_ ?_|exact Wk.ok (dL.na rfl)))<;>(try exact Wk.ok clE)<;>exact Wk.id)(e:q=h.q:=by first|((simp only[Wk.id,Wk.ok,Wk.a,Wk.b,Wk.c,true_and,and_true]);first|done|exact rfl)|exact rfl):p:=h.h (e▸hq)
theorem BB{p q:Prop}(hq:q)(h:Wk p:=by(refine Wk.a (di.ofAK []) ?_)<;>(repeat' (first|exact Wk.ok trivial|refine Wk.a fe.dd ?_|refine Wk.b (fe.mk rfl (by simp) rfl (λh=>bJ.noConfusion h)) ?_ ?_|refine Wk.b And.intro ?_ ?_|exact Wk.ok Pu|refine Wk.a cW.pe ?_|refine Wk.a cW.agg ?_|refine Wk.a cW.bR ?_|refine Wk.b cW.fn ?_ ?_|refine Wk.b iv.cons ?_ ?_|exact Wk.ok iv.nil|exact Wk.ok (dL.row _ _)|exact Wk.ok rfl|refine Wk.c (cW.zB rfl) ?_ ?_ ?_|refine Wk.b dL.rb ?_ ?_|refine Wk.b dL.xI ?_ ?_|refine Wk.a dL.rC ?_|refine Wk.b dL.rf ?_ ?_|refine Wk.b dL.pV ?_ ?_|refine Wk.c dL.pW ?_ ?_ ?_|exact Wk.ok (dL.na rfl)))<;>(try exact Wk.ok clE)<;>exact Wk.id)(e:q=h.q:=by first|((simp only[Wk.id,Wk.ok,Wk.a,Wk.b,Wk.c,true_and,and_true]);first|done|exact rfl)|exact rfl):p:=h.h (e▸hq)
theorem nr{A B:List Nat->List (Nat×Nat)->Prop}{m:Nat}(Z:List Nat)(R:List (Nat×Nat)){q:Prop}(hq:q)(h:Wk (A Z R/\B Z R):=by(repeat' (first|exact Wk.ok trivial|refine Wk.a fe.dd ?_|refine Wk.b (fe.mk rfl (by simp) rfl (λh=>bJ.noConfusion h)) ?_ ?_|refine Wk.b And.intro ?_ ?_|exact Wk.ok Pu|refine Wk.a cW.pe ?_|refine Wk.a cW.agg ?_|refine Wk.a cW.bR ?_|refine Wk.b cW.fn ?_ ?_|refine Wk.b iv.cons ?_ ?_|exact Wk.ok iv.nil|exact Wk.ok (dL.row _ _)|exact Wk.ok rfl|refine Wk.c (cW.zB rfl) ?_ ?_ ?_|refine Wk.b dL.rb ?_ ?_|refine Wk.b dL.xI ?_ ?_|refine Wk.a dL.rC ?_|refine Wk.b dL.rf ?_ ?_|refine Wk.b dL.pV ?_ ?_|refine Wk.c dL.pW ?_ ?_ ?_|exact Wk.ok (dL.na rfl)))<;>exact Wk.id)(e:q=h.q:=by first|((simp only[Wk.id,Wk.ok,Wk.a,Wk.b,Wk.c,true_and,and_true]);first|done|exact rfl)|exact rfl)(h3:(R.map Prod.snd).Nodup:=by decide)(h4:∀x∈R,x.1<m+64:=by simp)(h5:∀i,i<m->gM R i=some i:=by intro i hi;rcases i with _|_|_|_|_|_|i<;>first|rfl|omega):∃(Z:List Nat) (R:List (Nat×Nat)),A Z R/\B Z R/\(R.map Prod.snd).Nodup/\(∀x∈R,x.1<m+64)/\ ∀i,i<m->gM R i=some i:=⟨Z,R,(h.h (e▸hq)).1,(h.h (e▸hq)).2,h3,h4,h5⟩
theorem Ha{p q:Prop}(hq:q)(h:Wk p:=by(try refine Wk.a aP.mk ?_);(repeat' (first|exact Wk.ok (PV.le_refl _)|exact Wk.ok (PV.le_nil _ _ _)|exact Wk.ok (PV.ue _ _ _)|exact Wk.ok (PV.Z3 _ _ _)|refine Wk.a PV.ym ?_|refine Wk.a PV.fU ?_|exact Wk.ok PV.ao|refine Wk.b PV.ai ?_ ?_|refine Wk.a PV.zw ?_|exact Wk.ok rfl))<;>exact Wk.id)(e:q=h.q:=by first|((simp only[Wk.id,Wk.ok,Wk.a,Wk.b,Wk.c,true_and,and_true]);first|done|exact rfl)|exact rfl):p:=h.h (e▸hq)
theorem fin{p:Prop}(h:p:=by(try simp only[*,↓reduceIte,Bool.false_eq_true,Bool.not_true,Bool.not_false,Bool.and_true,Bool.true_and,Bool.and_false,Bool.false_and,List.nil_append,List.drop_zero,Nat.zero_add,List.take_length,Int.toNat_natCast,Int.toNat_zero,List.append_nil]);first|done|exact Ha trivial):p:=h
section
variable{P:Program}{f:FuncId}{c:Code}{fn:Func}{m nx:Nat}{as:List PV}{bs:List AV}{r:PV}{a:AV}{jI dX:ab}{xs:List (List PV)}
theorem aa.e(hf:P.funcs[f]? =some fn)(N:Nat)(res:List ResultVar)(V:List Nat)(h:aw ⟨N,fK.no P,[]⟩ V c ⟨dT 0 (as.map .p),[],0,0⟩ ⟨zy P res r,λ_ _=>False,zy P res r,λ_ _=>False⟩)(hm:P.follows .mixedOrders=true:=by exact mixed)(hb:fn.body=some c:=by exact rfl)(hN:fn.ntmps=N:=by exact rfl)(hr:fn.results.toList=res:=by exact rfl)(bQ:q9 N c=true:=by kernel_rfl)(ha:as.length<=N:=by simp):aa P f as r:=aa.of hm hf hb hN hr bQ ha V h
theorem aM.e(hf:P.funcs[f]? =some fn)(N:Nat)(res:List ResultVar)(V:List Nat)(h:aw ⟨N,fK.no P,List.range m⟩ V c ⟨dT 0 bs,jI,m,0⟩ ⟨zA P res m a dX,λ_ _=>False,zA P res m a dX,λ_ _=>False⟩)(hm:P.follows .mixedOrders=true:=by exact mixed)(hb:fn.body=some c:=by exact rfl)(hN:fn.ntmps=N:=by exact rfl)(hr:fn.results.toList=res:=by exact rfl)(bQ:q9 N c=true:=by kernel_rfl)(ha:bs.length<=N:=by simp):aM P f m jI bs a dX:=aM.of hm hf hb hN hr bQ ha V (Nat.le_refl _) h
theorem cB.e{R:PV->Prop}(hf:P.funcs[f]? =some fn)(N:Nat)(res:List ResultVar)(V:List Nat)(h:aw ⟨N,fK.no P,[]⟩ V c ⟨dT 0 (as.map .p),[],0,0⟩ ⟨λs=>∃r,R r/\zy P res r s,λ_ _=>False,λs=>∃r,R r/\zy P res r s,λ_ _=>False⟩)(hm:P.follows .mixedOrders=true:=by exact mixed)(hb:fn.body=some c:=by exact rfl)(hN:fn.ntmps=N:=by exact rfl)(hr:fn.results.toList=res:=by exact rfl)(bQ:q9 N c=true:=by kernel_rfl)(ha:as.length<=N:=by simp):cB P f as R:=cB.of hm hf hb hN hr bQ ha V h
theorem dC.e{R:AV->ab->Prop}(hf:P.funcs[f]? =some fn)(N:Nat)(res:List ResultVar)(V:List Nat)(h:aw ⟨N,fK.no P,List.range m⟩ V c ⟨dT 0 bs,jI,m,0⟩ ⟨λs=>∃r dX,R r dX/\zA P res m r dX s,λ_ _=>False,λs=>∃r dX,R r dX/\zA P res m r dX s,λ_ _=>False⟩)(hm:P.follows .mixedOrders=true:=by exact mixed)(hb:fn.body=some c:=by exact rfl)(hN:fn.ntmps=N:=by exact rfl)(hr:fn.results.toList=res:=by exact rfl)(bQ:q9 N c=true:=by kernel_rfl)(ha:bs.length<=N:=by simp):dC P f m jI bs R:=dC.of hm hf hb hN hr bQ ha V (Nat.le_refl _) h
theorem Iter.e(hf:P.funcs[f]? =some fn)(N:Nat)(V:List Nat)(h:∀(G:fK P),G.it=true->G.nm=false->G.xs=xs->aw ⟨N,G,[]⟩ V c ⟨dT 0 (.p (.fn (.yield G.l) [] [])::as.map .p),[],0,0⟩ ⟨Su (min (G.stop+1) xs.length),λ_ _=>False,Su (min (G.stop+1) xs.length),λ_ _=>False⟩)(hm:P.follows .mixedOrders=true:=by exact mixed)(hb:fn.body=some c:=by exact rfl)(hN:fn.ntmps=N:=by exact rfl)(hr:fn.results.toList=[]:=by exact rfl)(bQ:q9 N c=true:=by kernel_rfl)(ha:as.length+1<=N:=by simp):Iter P f as xs:=Iter.of hm hf hb hN hr bQ ha V h
theorem mT.e{wd:Nat->List PV->Prop}{Fin:Nat->Prop}(hf:P.funcs[f]? =some fn)(N:Nat)(V:List Nat)(h:∀(G:fK P),G.it=true->G.wd=wd->aw ⟨N,G,[]⟩ V c ⟨dT 0 (.fn (.yield G.l) [] []::as.map .p),[],0,0⟩ ⟨λs=>s.yk=G.stop+1\/Fin s.yk,λ_ _=>False,λs=>s.yk=G.stop+1\/Fin s.yk,λ_ _=>False⟩)(hm:P.follows .mixedOrders=true:=by exact mixed)(hb:fn.body=some c:=by exact rfl)(hN:fn.ntmps=N:=by exact rfl)(hr:fn.results.toList=[]:=by exact rfl)(bQ:q9 N c=true:=by kernel_rfl)(ha:as.length+1<=N:=by simp):mT P f as [] wd Fin:=mT.of hm hf hb hN hr bQ ha V h
end
section
open Go.ChangeShapes Go.WideShapes
theorem ka{H:Type}{P:au}{e:an}{n:Nat}:∀{ds:List (DataW H)} {d:DataW H},d∈ds->n∈j6 P e d->n∈DataW.weightsAll P e ds
 |x::r,d,h,hn=>by
  simp only[DataW.weightsAll,cL];rcases cy.1 h with h|h
  · subst h;exact .inl hn
  · exact .inr (ka h hn)
def jJ(w:aj):Nat->Prop:=λb=>b<w.heap.size
structure gO(P:au)(t:an)(α:Type)(ec:α->List PV)(ok:α->Prop):Prop where
 sz:∀x,ok x->(ec x).length=P.cellsOf t
 one:∀x,ok x-> ∀c∈ec x,c.one=true
 rd:∀{H:Type} {enc:an×ah->H} {w:aj} {n:Nat} {cs:List ah} {y},DataW.trod enc P w 0 (λ_=>true) true n t cs=some y->(∀k∈j6 P t y.1,k<=reachBytes)->
  ∃x,ok x/\cs.length=P.cellsOf t/\ ∀(i:Nat) p,(ec x)[i]? =some p->RP (jJ w) w (cs[i]?.getD undef) p
section
variable{P:au}{t e:an}{α β:Type}{ec:α->List PV}{ok:α->Prop}
theorem gO.int{k:IntKind}(ht:P.underlying t=some (.int k))(hc:P.cellsOf t=1):gO P t Int (λn=>[.int k n]) (λn=>(Lit.int k n).wf=true) where
 sz _ _:=by rw[hc];rfl
 one _ _ c hc:=by simp at hc;subst hc;rfl
 rd hr _:=by
  obtain⟨n,rfl,_,hw⟩:=DataW.trod_int ht hr
  exact⟨n,hw,by rw[hc];rfl,λi p hp=>by
   cases i with
   |zero=>simp at hp;subst hp;exact .int k n
   |succ i=>simp at hp⟩
theorem gO.bool(ht:P.underlying t=some .bool)(hc:P.cellsOf t=1):gO P t Bool (λb=>[.bool b]) (λ_=>True) where
 sz _ _:=by rw[hc];rfl
 one _ _ c hc:=by simp at hc;subst hc;rfl
 rd hr _:=by
  obtain⟨b,rfl,_⟩:=DataW.trod_bool ht hr
  exact⟨b,trivial,by rw[hc];rfl,λi p hp=>by
   cases i with
   |zero=>simp at hp;subst hp;exact .bool b
   |succ i=>simp at hp⟩
theorem gO.str(ht:P.underlying t=some .string)(hc:P.cellsOf t=1):gO P t ByteArray (λb=>[.str b]) (λb=>b.size<=reachBytes) where
 sz _ _:=by rw[hc];rfl
 one _ _ c hc:=by simp at hc;subst hc;rfl
 rd hr hk:=by
  obtain⟨b,rfl,rfl,hw⟩:=DataW.trod_string ht hr
  exact⟨b,by have:=hk b.data.toList.length (by simp[j6]);simpa using this,by rw[hc];rfl,λi p hp=>by
   cases i with
   |zero=>simp at hp;subst hp;exact .str b
   |succ i=>simp at hp⟩
theorem Da{w:aj}{a:Addr}{i:Nat}{v:ah}(h:w.cell? (a.add i)=some v):(i=0->a.spot=none)/\w.cell? ⟨a.block,a.off+i,none⟩=some v:=by
 obtain⟨b,off,sp⟩:=a;unfold Addr.add at h;split at h
 · rename_i h0;subst h0
   cases sp with
   |none=>exact⟨λ_=>rfl,h⟩
   |some s=>
    exfalso;unfold World.cell? at h;split at h<;>simp at h
 · rename_i h0
   exact⟨λe=>absurd e h0,h⟩
theorem zT{w:aj}{b off:Nat}{v:ah}(h:w.cell? ⟨b,off,none⟩=some v):b<w.heap.size:=by
 unfold World.cell? at h;split at h
 · rename_i hb;exact bB hb
 · cases h
theorem gO.slice{sz:Nat}{ep:α->PV}(ht:P.underlying t=some (.slice e))(hc:P.cellsOf t=1)(h:gO P e α ec ok)(hz:P.cellsOf e=sz)(h0:0<sz)(FL:0<P.bytesOf e)(fO:∀x,ok x->(ep x).cells=ec x):
 gO P t (List α) (λl=>[.sl sz false (l.map ep)]) (λl=>l.length<=reachBytes/\ ∀x∈l,ok x) where
 sz _ _:=by rw[hc];rfl
 one _ _ c hc:=by simp at hc;subst hc;rfl
 rd:=by
  intro H enc w n cs y hr Db;rcases DataW.trod_slice ht hr with⟨rfl,_⟩|⟨a,len,cap,elems,rest,m,_,rfl,rfl,hb,hl,hm,hlen,Ua,_,_⟩
  · refine⟨[],⟨by simp,by simp⟩,by rw[hc];rfl,λi p hp=>?_⟩
    cases i with
    |zero=>simp at hp;subst hp;exact .r5 none 0 sz false (de _) (λ_=>rfl) (λh=>by cases h)
    |succ i=>simp at hp
  · have Pz:len<=reachBytes:=by
     have h1:=Db ((elems.length+rest.length)*P.bytesOf e) (by simp[j6,ht])
     have h2:len<=(elems.length+rest.length)*P.bytesOf e:=by
      rw[<-hlen]
      calc elems.length<=elems.length+rest.length:=Nat.le_add_right _ _
       _<=(elems.length+rest.length)*P.bytesOf e:=Nat.le_mul_of_pos_right _ FL
     omega
    have each:∀i,i<len->∃sP x,w.cells? 0 (a.add (i*sz)) sz=some sP/\ok x/\sP.length=sz/\ ∀(j:Nat) p,(ec x)[j]? =some p->RP (jJ w) w (sP[j]?.getD undef) p:=by
     intro i hi;have h1:=Ua i hi;rw[aV (by omega)] at h1;obtain⟨sP,k1,k2⟩:=pb.1 h1
     obtain⟨x,q1,q2,q3⟩:=h.rd k2 (λk hk=>Db k (by
      simp only[j6,ht,cy,cL]
      exact .inr (.inl (ka (aY.2 ⟨_,jR _,rfl⟩) hk))))
     rw[hz] at k1 q2;exact⟨sP,x,k1,q1,q2,q3⟩
    rcases Nat.eq_zero_or_pos len with gy|N7
    · subst gy
      refine⟨[],⟨by simp,by simp⟩,by rw[hc];rfl,λi p hp=>?_⟩
      cases i with
      |zero=>simp at hp;subst hp;exact .r5 (some a) cap sz false hm (λh=>by cases h) (λh=>by cases h)
      |succ i=>simp at hp
    · have pz:∀i sP,i<len->w.cells? 0 (a.add (i*sz)) sz=some sP->sP.length=sz-> ∀j,j<sz->(i*sz+j=0->a.spot=none)/\w.cell? ⟨a.block,a.off+i*sz+j,none⟩=some (sP[j]?.getD undef):=by
       intro i sP hi jH sJ j hj;obtain⟨_,_,hg⟩:=World.cells?_some jH;have h1:=hg j hj;rw[aV (by omega)] at h1;have h2:=h1
       have e0:(a.add (i*sz)).add j=a.add (i*sz+j):=by
        unfold Addr.add;by_cases hi:i*sz=0<;>by_cases hj:j=0<;>simp[hi,hj,Nat.add_assoc]
       rw[e0] at h1;obtain⟨g1,g2⟩:=Da h1;refine⟨g1,?_⟩;rw[Nat.add_assoc,g2,aV (by omega)];rfl
      classical
      let fx:Nat->α:=λi=>if hi:i<len then Classical.choose (qZ (each i hi)) else Classical.choose (qZ (each 0 N7))
      let fc:Nat->List ah:=λi=>if hi:i<len then Classical.choose (each i hi) else[]
      have Ng:∀i,i<len->w.cells? 0 (a.add (i*sz)) sz=some (fc i)/\ok (fx i)/\(fc i).length=sz/\ ∀(j:Nat) p,(ec (fx i))[j]? =some p->RP (jJ w) w ((fc i)[j]?.getD undef) p:=by
       intro i hi;have:=qZ (qZ (each i hi));simp only[fx,fc,hi,dif_pos];exact this
      have Ub:a.spot=none:=by
       obtain⟨k1,_,k3,_⟩:=Ng 0 N7;exact(pz 0 _ N7 k1 k3 0 h0).1 (by simp)
      have ha:a=⟨a.block,a.off,none⟩:=by cases a;simp_all
      have hblk:a.block<w.heap.size:=by
       obtain⟨k1,_,k3,_⟩:=Ng 0 N7;exact zT (pz 0 _ N7 k1 k3 0 h0).2
      have du:∀(i:Nat) p,((cJ len).map (λi=>ep (fx i)))[i]? =some p->i<len/\p=ep (fx i):=by
       intro i p hp;simp only[aW,cm] at hp;obtain⟨k,hk,rfl⟩:=hp;obtain⟨g1,g2⟩:=aq.1 hk;simp at g1 g2;subst g2;exact⟨g1,rfl⟩
      refine⟨(cJ len).map fx,⟨by simpa using Pz,by
       intro x hx;simp only[aY,gI] at hx;obtain⟨i,hi,rfl⟩:=hx
       exact(Ng i hi).2.1⟩,by rw[hc];rfl,λi p hp=>?_⟩
      cases i with
      |succ i=>simp at hp
      |zero=>
       simp at hp;subst hp;show RP (jJ w) w (.slice (some a) len cap) _;rw[ha];refine RP.sl a.block a.off len cap sz false _ (λi j=>(fc i)[j]?.getD undef) hblk (by simp) hl hm (λh=>by cases h) ?_ ?_ ?_
       · intro i p hp
         obtain⟨h1,rfl⟩:=du i p (by simpa[Function.comp] using hp);obtain⟨_,k2,_⟩:=Ng i h1;exact⟨by rw[fO _ k2,h.sz _ k2,hz],by rw[fO _ k2];exact h.one _ k2⟩
       · intro i p j q hp hq
         obtain⟨h1,rfl⟩:=du i p (by simpa[Function.comp] using hp);obtain⟨k1,k2,k3,_⟩:=Ng i h1
         have hj:j<sz:=by
          have:=(aq.1 hq).1;rw[fO _ k2,h.sz _ k2,hz] at this;exact this
         exact(pz i _ h1 k1 k3 j hj).2
       · intro i p j q hp hq
         obtain⟨h1,rfl⟩:=du i p (by simpa[Function.comp] using hp);obtain⟨k1,k2,k3,k4⟩:=Ng i h1;rw[fO _ k2] at hq;exact k4 j q hq
structure fP(P:au)(off:Nat)(fs:List Field)(α:Type)(ec:α->List PV)(ok:α->Prop):Prop where
 sz:∀x,ok x->(ec x).length=(fs.map λf=>P.cellsOf f.type).sum
 one:∀x,ok x-> ∀c∈ec x,c.one=true
 rd:∀{H:Type} {enc:an×ah->H} {w:aj} {n:Nat} {cs:List ah},(∀f∈fs,∃y,DataW.trod enc P w 0 (λ_=>true) true n f.type ((cs.drop f.offset).take (P.cellsOf f.type))=some y/\ ∀k∈j6 P f.type y.1,k<=reachBytes)->
  ∃x,ok x/\ ∀(i:Nat) p,(ec x)[i]? =some p->RP (jJ w) w (cs[off+i]?.getD undef) p
theorem fP.nil{off:Nat}:fP P off [] Unit (λ_=>[]) (λ_=>True) where
 sz _ _:=rfl
 one _ _ c hc:=by simp at hc
 rd _:=⟨(),trivial,λi p hp=>by simp at hp⟩
theorem fP.cons{off bL:Nat}{f:Field}{fs:List Field}{Jv:β->List PV}{Fo:β->Prop}(h:gO P f.type α ec ok)(k:fP P bL fs β Jv Fo)(l9:f.offset=off)(ho:bL=off+P.cellsOf f.type):
 fP P off (f::fs) (α×β) (λx=>ec x.1++Jv x.2) (λx=>ok x.1/\Fo x.2):=by
 subst ho;exact {
  sz:=λx hx=>by simp[h.sz _ hx.1,k.sz _ hx.2]
  one:=λx hx c hc=>by
   rcases cL.1 hc with hc|hc
   · exact h.one _ hx.1 c hc
   · exact k.one _ hx.2 c hc
  rd:=by
   intro H enc w n cs hf;obtain⟨y,hy,N'⟩:=hf f (by simp);obtain⟨x,h1,h2,h3⟩:=h.rd hy N';obtain⟨x',k1,k2⟩:=k.rd (cs:=cs) (λg hg=>hf g (by simp[hg]));refine⟨(x,x'),⟨h1,k1⟩,λi p hp=>?_⟩;have hp:(ec x++Jv x')[i]? =some p:=hp;rw[nG,h.sz x h1] at hp;split at hp
   · rename_i hi
     have:=h3 i p hp;rw[List.getElem?_take,if_pos hi,jQ,l9] at this;exact this
   · rename_i hi
     have:=k2 _ p hp;rw[show off+P.cellsOf f.type+(i-P.cellsOf f.type)=off+i by omega] at this
     exact this }
theorem gO.struct{fs:Array Field}(ht:P.underlying t=some (.struct fs))(h:fP P 0 fs.toList α ec ok)(hc:P.cellsOf t=(fs.toList.map λf=>P.cellsOf f.type).sum):gO P t α ec ok where
 sz x hx:=by rw[h.sz x hx,hc]
 one:=h.one
 rd:=by
  intro H enc w n cs y hr Db;obtain⟨xs,m,_,rfl,hl,hlen,hf⟩:=DataW.trod_struct ht hr
  obtain⟨x,h1,h2⟩:=h.rd (enc:=enc) (w:=w) (n:=m) (cs:=cs) (λf VA=>by
   obtain⟨i,hi,he⟩:=lM VA;(have wC:i<fs.size:=by simpa using hi);(have e:fs[i]? =some f:=by rw[dh wC];simpa using he);have:=hf i f e;rw[aV (by omega)] at this;refine⟨_,this,λk hk=>Db k ?_⟩;simp only[j6,ht]
   exact DataW.weights_mem_each (j:=i) (by rw[aW,gi,e];rfl) (by rw[aW,aV (by omega)];rfl) k hk)
  exact⟨x,h1,hl,λi p hp=>by have:=h2 i p hp;rwa[gQ] at this⟩
theorem gO.array{n sz:Nat}(ht:P.underlying t=some (.array n e))(h:gO P e α ec ok)(hz:P.cellsOf e=sz)(hc:P.cellsOf t=n*sz)(h0:0<sz):gO P t (List α) (λl=>l.flatMap ec) (λl=>l.length=n/\ ∀x∈l,ok x) where
 sz l hl:=by
  rw[hc,<-hl.1]
  have:∀l:List α,(∀x∈l,ok x)->(l.flatMap ec).length=l.length*sz:=by
   intro l
   induction l with
   |nil=>intro _;simp
   |cons x l ih=>
    intro hx;rw[List.flatMap_cons,fk,ih (λy hy=>hx y (by simp[hy])),h.sz x (hx x (by simp)),hz,List.length_cons,Nat.add_mul];omega
  exact this l hl.2
 one l hl c hc:=by
  obtain⟨x,hx,hcx⟩:=List.mem_flatMap.1 hc;exact h.one x (hl.2 x hx) c hcx
 rd:=by
  intro H enc w k cs y hr Db;obtain⟨xs,m,_,rfl,hl,hlen,hf⟩:=DataW.trod_array ht hr
  have each:∀i,i<n->∃x,ok x/\ ∀(j:Nat) p,(ec x)[j]? =some p->RP (jJ w) w (cs[i*sz+j]?.getD undef) p:=by
   intro i hi;have h1:=hf i hi;rw[aV (by omega)] at h1
   obtain⟨x,q1,q2,q3⟩:=h.rd h1 (λk hk=>Db k (by
    simp only[j6,ht]
    exact ka (aY.2 ⟨_,jR _,rfl⟩) hk))
   refine⟨x,q1,λj p hp=>?_⟩;(have hj:j<P.cellsOf e:=by rw[<-h.sz x q1];exact(aq.1 hp).1);have:=q3 j p hp;rw[List.getElem?_take,if_pos hj,jQ,hz] at this;exact this
  have build:∀k,k<=n->∃l:List α,l.length=k/\(∀x∈l,ok x)/\ ∀(i:Nat) x,l[i]? =some x-> ∀(j:Nat) p,(ec x)[j]? =some p->RP (jJ w) w (cs[i*sz+j]?.getD undef) p:=by
   intro k
   induction k with
   |zero=>intro _;exact⟨[],rfl,by simp,by simp⟩
   |succ k ih=>
    intro hk;obtain⟨l,a1,a2,a3⟩:=ih (by omega);obtain⟨x,b1,b2⟩:=each k (by omega);refine⟨l++[x],by simp[a1],λy hy=>?_,λi y hy=>?_⟩
    · rcases cL.1 hy with hy|hy
      · exact a2 y hy
      · simp at hy;subst hy;exact b1
    · rw[nG] at hy
      split at hy
      · exact a3 i y hy
      · rename_i hi
        rw[a1] at hi hy
        have:i=k:=by
         have:=(aq.1 hy).1;simp at this;omega
        subst this;simp at hy;subst hy;exact b2
  obtain⟨l,a1,a2,a3⟩:=build n (aX _);refine⟨l,⟨a1,a2⟩,hl,λi p hp=>?_⟩
  have fm:∀(l:List α),(∀x∈l,ok x)-> ∀(i:Nat) p,(l.flatMap ec)[i]? =some p->∃x,l[i / sz]? =some x/\(ec x)[i % sz]? =some p:=by
   intro l
   induction l with
   |nil=>intro _ i p hp;simp at hp
   |cons x l ih=>
    intro hx i p hp;(have hs:(ec x).length=sz:=by rw[h.sz x (hx x (by simp)),hz]);rw[List.flatMap_cons,nG,hs] at hp;split at hp
    · rename_i hi
      exact⟨x,by rw[Nat.div_eq_of_lt hi];rfl,by rw[Nat.mod_eq_of_lt hi];exact hp⟩
    · rename_i hi
      obtain⟨y,c1,c2⟩:=ih (λz hz=>hx z (by simp[hz])) _ p hp;(have wC:sz<=i:=by omega);refine⟨y,?_,?_⟩
      · rw[show i / sz=(i-sz) / sz+1 by rw[<-Nat.sub_add_cancel wC,Nat.add_div_right _ h0,Nat.add_sub_cancel]]
        simpa using c1
      · rw[show i % sz=(i-sz) % sz by rw[<-Nat.mod_eq_sub_mod wC]];exact c2
  obtain⟨x,c1,c2⟩:=fm l a2 i p hp;have:=a3 _ x c1 _ p c2;rwa[Nat.div_add_mod' i sz] at this
def PA(P:au)(t:an)(α:Type)(ev:α->PV)(ok:α->Prop):Prop:=
 ∀{H:Type} {enc:an×ah->H} {w:aj} {r:Reach} {b0:Nat} {v:ah} {d:DataW H} {ps:List MemPlace},Value.okWide P w r b0 t v->DataW.Trod enc P w 0 (λ_=>true) true t v d ps->(∀k∈j6 P t d,k<=reachBytes)->∃x,ok x/\RP (jJ w) w v (ev x)
def SM(P:au)(t:an):Bool:=match P.underlying t with|some (.struct _)=>true|some (.array _ _)=>true|_=>false
theorem PA.agg(h:gO P t α ec ok)(ht:SM P t=true):PA P t α (λx=>.agg (ec x)) ok:=by
 intro H enc w r b0 v d ps hv hd Db;obtain⟨n,hn⟩:=hd;obtain⟨x,h1,h2,h3⟩:=h.rd hn Db;refine⟨x,h1,?_⟩
 have Mt:∃cs,v= .agg cs:=by
  unfold SM at ht;unfold Value.okWide at hv;split at ht<;>simp_all
  · obtain⟨cs,e,_⟩:=hv;exact⟨cs,e⟩
  · obtain⟨cs,e,_⟩:=hv;exact⟨cs,e⟩
 obtain⟨cs,rfl⟩:=Mt;(have hl:cs.size=P.cellsOf t:=by simpa[Value.cells] using h2);refine .agg cs _ (by rw[hl,h.sz x h1]) λi p hp=>?_;have:=h3 i p hp;simpa[Value.cells] using this
theorem PA.one{ev:α->PV}(h:gO P t α (λx=>[ev x]) ok)(ht:SM P t=false):PA P t α ev ok:=by
 intro H enc w r b0 v d ps hv hd Db;obtain⟨n,hn⟩:=hd;obtain⟨x,h1,h2,h3⟩:=h.rd hn Db;refine⟨x,h1,?_⟩
 have Mt:v.cells= #[v]:=by
  (cases v<;>try rfl);exfalso;rename_i cs;unfold SM at ht;unfold Value.okWide Cell.okWide Cell.ok at hv;split at ht<;>try(cases ht;done)
  cases hu:P.underlying t with
  |none=>simp[hu] at hv
  |some u=>cases u<;>simp_all
 have:=h3 0 _ rfl;rw[Mt] at this;simpa using this
theorem Jw{F F':Nat->Prop}{w w':aj}(b:dO F aN.no w F' aN.no w')(may:MemPlace->Prop):w.keptBut w' may:=by
 refine⟨b.os,b.output,λi hi=>?_⟩;have:=b.old i hi (λh=>aN.lN h);rw[this]
 cases h:w.heap[i]? with
 |none=>trivial
 |some o=>cases o<;>simp
theorem Nh{F F':Nat->Prop}{w w':aj}(b:dO F aN.no w F' aN.no w')(p:MemPlace)(hp:p.block<w.heap.size):w.sameAt w' p:=by
 have:=b.old p.block hp (λh=>aN.lN h)
 cases p with
 |cell k off=>exact ja this
 |map k=>exact this
theorem sR{H:Type}{enc:an×ah->H}{w w':aj}{base:Nat}{spare:Nat->Bool}{held:Bool}:∀{ts:List an} {vs:List ah} {ds:List (DataW H)} {ps:List MemPlace},
 DataW.TrodAll enc P w base spare held ts vs ds ps->(∀p∈ps,w.sameAt w' p)->DataW.TrodAll enc P w' base spare held ts vs ds ps
 |[],[],[],_,h,_=>h
 |_::_,_::_,_::_,_,⟨p,q,⟨n,h1⟩,h2,e⟩,hs=>⟨p,q,⟨n,DataW.trod_carry n _ _ _ h1 λx hx=>hs x (by rw[e];exact List.mem_append_left _ hx)⟩,sR h2 (λx hx=>hs x (by rw[e];exact List.mem_append_right _ hx)),e⟩
theorem PB{H:Type}{enc:an×ah->H}{fn:Func}{s:ChangeSpec}{W W':aj}{args:Array ah}{ds gs:List (DataW H)}{before:List MemPlace}{F F':Nat->Prop}{tb:an}
 (K:Kids P (· <P.types.size)) (hz:∀t e,t<P.types.size->P.underlying t=some (.slice e)->0<P.cellsOf e) (hts:∀t∈fn.params.toList,t<P.types.size)
 (hW:DataW.Whole enc P fn.params.toList s.vars false W args.toList ds gs before) (hb:dO F aN.no W F' aN.no W')
 (Yx:s.vars=[]) (hres:(s.fn H (ds++gs)).results=[.lit (.bool true)]) (dk:(s.fn H (ds++gs)).args=ds) (Yy:(s.fn H (ds++gs)).vars=[])
 (hrt:fn.resultTypes= #[tb]) (FL:P.underlying tb=some .bool):
 s.post enc P fn false true false false W args (.bool true) W':=by
 have aC:=hW.lt;have hW2:=hW;obtain⟨p,q,hA,hV,rfl,Q6,iX⟩:=hW2;refine⟨ds,gs,p++q,[],p,[],hW,?_,?_,?_,Jw hb _,λh=>by cases h⟩
 · rw[hres,hrt]
   exact trodAll_mk1 (Go.RowKit.shut_bool FL true)
 · rw[dk]
   have h1:DataW.TrodAll enc P W 0 (λb=>decide (b<W.heap.size)) true fn.params.toList args.toList ds p:=
    DataW.TrodAll.respare K hz hts hA (λx hx=>by simpa using aC x (List.mem_append_left _ hx))
   exact sR h1 λx hx=>Nh hb x (aC x (List.mem_append_left _ hx))
 · rw[Yy,Yx];rfl
def xJ(P:au)(ts:List an)(A:Type)(ev:A->List PV)(ok:A->Prop):Prop:=
 ∀{H:Type} {enc:an×ah->H} {w:aj} {r:Reach} {b0:Nat} {vs:List ah} {ds:List (DataW H)} {ps:List MemPlace},(∀(j:Nat) t v,ts[j]? =some t->vs[j]? =some v->Value.okWide P w r b0 t v)->
  DataW.TrodAll enc P w 0 (λ_=>true) true ts vs ds ps->(∀k∈DataW.weightsEach P ts ds,k<=reachBytes)->∃a,ok a/\vs.length=(ev a).length/\ ∀(i:Nat) p,(ev a)[i]? =some p->RP (jJ w) w (vs[i]?.getD undef) p
theorem xJ.nil:xJ P [] Unit (λ_=>[]) (λ_=>True):=by
 intro H enc w r b0 vs ds ps _ h _;obtain⟨rfl,rfl,rfl⟩:=trodAll_nil h;exact⟨(),trivial,rfl,λi p hp=>by simp at hp⟩
theorem xJ.cons{ts:List an}{ev:α->PV}{B:Type}{ev':B->List PV}{Fo:B->Prop}(h:PA P t α ev ok)(k:xJ P ts B ev' Fo):xJ P (t::ts) (α×B) (λx=>ev x.1::ev' x.2) (λx=>ok x.1/\Fo x.2):=by
 intro H enc w r b0 vs ds ps hv hd hw;obtain⟨v,vs',d,ds',p,q,rfl,rfl,rfl,h1,h2⟩:=trodAll_cons hd;obtain⟨x,a1,a2⟩:=h (hv 0 t v rfl rfl) h1 (λn hn=>hw n (by simp only[DataW.weightsEach,cL];exact .inl hn));obtain⟨y,b1,b2,b3⟩:=k (λj t v ht Mt=>hv (j+1) t v (by simpa using ht) (by simpa using Mt)) h2 (λn hn=>hw n (by simp only[DataW.weightsEach,cL];exact .inr hn));refine⟨(x,y),⟨a1,b1⟩,by simp[b2],λi p hp=>?_⟩
 cases i with
 |zero=>simp at hp;subst hp;exact a2
 |succ i=>simpa using b3 i p (by simpa using hp)
theorem PC{C:Checked}{os:Os}{f:bf}{fn:Func}{s:ChangeSpec}{H:Type}{enc:an×ah->H}{A:Type}{ev:A->List PV}{ok:A->Prop}{tb:an}{laid:List (String×DataW Unit)}(own:ownKnob C.prog.godebug=none)(started:os.Started)(VB:C.prog.inits.idxOf? f=none)
 (hfn:C.prog.funcs[f]? =some fn)
 (witness:∃(w:aj) (tape:Tape) (i:Input),w.os=os/\(w.forCall tape i).Shaped C.prog/\i.vars=[]/\Input.okWide C.prog (w.forCall tape i) .any w.heap.size f i/\
   ((s.pre enc C.prog fn [] false (w.forCall tape i).memory i.args/\laidMetH C.prog laid (w.forCall tape i).memory)/\sizedMet enc C.prog fn (OpenSpec.ofChange s) false (w.forCall tape i).memory i.args)/\({}:Assume).holds C.prog (lone (Frame.enter C.prog f i.args .normal) [] (w.forCall tape i)))
 (hl:laidOutB C.prog=true) (hmr:mapsRowed C.prog=true) (hz:((cJ C.prog.types.size).all λt=>match C.prog.underlying t with|some (.slice e)=>decide (0<C.prog.cellsOf e)|_=>true)=true)
 (hts:(fn.params.toList.all λt=>decide (t<C.prog.types.size))=true) (Yx:s.vars=[])
 (hrt:fn.resultTypes= #[tb]) (FL:C.prog.underlying tb=some .bool)
 (Yz:∀ds:List (DataW H),ds.length=fn.params.size->s.fn H ds= { results:=[.lit (.bool true)],args:=ds })
 (PD:∀W,laidMetH C.prog laid W->IB (jJ W) W) (hA:xJ C.prog fn.params.toList A ev ok) (hlaw:∀a,ok a->aa C.prog f (ev a) (.bool true)):
 ReturnsInHanded {} C os f .any (λw args=>(s.pre enc C.prog fn [] false w args/\laidMetH C.prog laid w)/\sizedMet enc C.prog fn (OpenSpec.ofChange s) false w args) (s.post enc C.prog fn false true false false):=by
 refine returnsInHanded_of_change_and (X:=λw _=>laidMetH C.prog laid w) (λ_ _ _ hh h=>h.of_heap hh) own started VB hfn witness ?_;intro W base args ds gs before ml hW _ Db hL _;have hW':=hW;obtain⟨p,q,hT,hV,rfl,Q6,iX⟩:=hW'
 have Uc:gs=[]:=by
  rw[Yx] at hV
  cases gs with
  |nil=>rfl
  |cons g r=>simp[DataW.TrodVars] at hV
 subst Uc
 have hvt:s.plain.varTypes C.prog=[]:=by
  simp[DataSpec.varTypes,ChangeSpec.plain,Yx]
 rw[hvt,ib,ib] at Db;obtain⟨a,a1,a2,a3⟩:=hA (λj t v ht hv=>ml j t v (by simpa using ht) (by simpa using hv)) hT (λk hk=>by simpa using cG.1 Db k hk);have jZ:=hlaw a a1 (jJ W) W args ⟨λb hb=>hb,PD W hL⟩ (by simpa using a2) (λi p hp=>by simpa using a3 i p hp);refine jZ.mono λe W' ⟨v,F',he,hb,_,hv⟩=>?_;cases hv;refine⟨_,he,?_⟩
 have hlen:ds.length=fn.params.size:=by
  have:=(trodAll_length hT).2;simpa using this
 have Ub:=Yz ds hlen;exact PB (kids_rows hl hmr) (slices_full_of C.prog hz) (λt ht=>by simpa using cG.1 hts t ht) hW hb Yx (by rw[ib,Ub]) (by rw[ib,Ub]) (by rw[ib,Ub]) hrt FL
end
end
section
open Go.ChangeShapes Go.WideShapes
structure rD(M:Nat->Prop)(P:au)(t:an)(α:Type)(ec:α->List PV)(ok:α->Prop):Prop where
 sz:∀x,ok x->(ec x).length=P.cellsOf t
 one:∀x,ok x-> ∀c∈ec x,c.one=true
 rd:∀{H:Type} {enc:an×ah->H} {w:aj} {n:Nat} {cs:List ah} {y},M n->DataW.trod enc P w 0 (λ_=>true) true n t cs=some y->(∀k∈j6 P t y.1,k<=reachBytes)->
  ∃x,ok x/\cs.length=P.cellsOf t/\ ∀(i:Nat) p,(ec x)[i]? =some p->RP (jJ w) w (cs[i]?.getD undef) p
section
variable{P:au}{t e:an}{α β:Type}{ec:α->List PV}{ok:α->Prop}
theorem gO.Z4{M:Nat->Prop}(h:gO P t α ec ok):rD M P t α ec ok:=⟨h.sz,h.one,λ_ hr hw=>h.rd hr hw⟩
theorem rD.all(h:∀N,rD (λn=>n<N) P t α ec ok):gO P t α ec ok:=⟨(h 0).sz,(h 0).one,λ{_ _ _ n _ _} hr hw=>(h (n+1)).rd (Nat.lt_succ_self n) hr hw⟩
theorem rD.map{M:Nat->Prop}{Jv:β->List PV}{Fo:β->Prop}(h:rD M P t α ec ok)(f:α->β)(g:β->α)(hg:∀x,f (g x)=x)(he:∀x,ok x->Jv (f x)=ec x)(ho:∀x,ok x->Fo (f x))(hb:∀y,Fo y->ok (g y)):rD M P t β Jv Fo where
 sz y hy:=by rw[<-hg y,he _ (hb y hy)];exact h.sz _ (hb y hy)
 one y hy:=by rw[<-hg y,he _ (hb y hy)];exact h.one _ (hb y hy)
 rd hM hr hw:=by
  obtain⟨x,h1,h2,h3⟩:=h.rd hM hr hw;exact⟨f x,ho x h1,h2,λi p hp=>h3 i p (by rw[<-he x h1];exact hp)⟩
theorem rD.slice{M M':Nat->Prop}(hM:∀m,M (m+1)->M' m){sz:Nat}{ep:α->PV}(ht:P.underlying t=some (.slice e))(hc:P.cellsOf t=1)(h:rD M' P e α ec ok)(hz:P.cellsOf e=sz)(h0:0<sz)(FL:0<P.bytesOf e)(fO:∀x,ok x->(ep x).cells=ec x):
 rD M P t (List α) (λl=>[.sl sz false (l.map ep)]) (λl=>l.length<=reachBytes/\ ∀x∈l,ok x) where
 sz _ _:=by rw[hc];rfl
 one _ _ c hc:=by simp at hc;subst hc;rfl
 rd:=by
  intro H enc w n cs y WR hr Db;rcases DataW.trod_slice ht hr with⟨rfl,_⟩|⟨a,len,cap,elems,rest,m,si,rfl,rfl,hb,hl,hm,hlen,Ua,_,_⟩
  · refine⟨[],⟨by simp,by simp⟩,by rw[hc];rfl,λi p hp=>?_⟩
    cases i with
    |zero=>simp at hp;subst hp;exact .r5 none 0 sz false (de _) (λ_=>rfl) (λh=>by cases h)
    |succ i=>simp at hp
  · have Pz:len<=reachBytes:=by
     have h1:=Db ((elems.length+rest.length)*P.bytesOf e) (by simp[j6,ht])
     have h2:len<=(elems.length+rest.length)*P.bytesOf e:=by
      rw[<-hlen]
      calc elems.length<=elems.length+rest.length:=Nat.le_add_right _ _
       _<=(elems.length+rest.length)*P.bytesOf e:=Nat.le_mul_of_pos_right _ FL
     omega
    have each:∀i,i<len->∃sP x,w.cells? 0 (a.add (i*sz)) sz=some sP/\ok x/\sP.length=sz/\ ∀(j:Nat) p,(ec x)[j]? =some p->RP (jJ w) w (sP[j]?.getD undef) p:=by
     intro i hi;have h1:=Ua i hi;rw[aV (by omega)] at h1;obtain⟨sP,k1,k2⟩:=pb.1 h1
     obtain⟨x,q1,q2,q3⟩:=h.rd (hM m (si▸WR)) k2 (λk hk=>Db k (by
      simp only[j6,ht,cy,cL]
      exact .inr (.inl (ka (aY.2 ⟨_,jR _,rfl⟩) hk))))
     rw[hz] at k1 q2;exact⟨sP,x,k1,q1,q2,q3⟩
    rcases Nat.eq_zero_or_pos len with gy|N7
    · subst gy
      refine⟨[],⟨by simp,by simp⟩,by rw[hc];rfl,λi p hp=>?_⟩
      cases i with
      |zero=>simp at hp;subst hp;exact .r5 (some a) cap sz false hm (λh=>by cases h) (λh=>by cases h)
      |succ i=>simp at hp
    · have pz:∀i sP,i<len->w.cells? 0 (a.add (i*sz)) sz=some sP->sP.length=sz-> ∀j,j<sz->(i*sz+j=0->a.spot=none)/\w.cell? ⟨a.block,a.off+i*sz+j,none⟩=some (sP[j]?.getD undef):=by
       intro i sP hi jH sJ j hj;obtain⟨_,_,hg⟩:=World.cells?_some jH;have h1:=hg j hj;rw[aV (by omega)] at h1;have h2:=h1
       have e0:(a.add (i*sz)).add j=a.add (i*sz+j):=by
        unfold Addr.add;by_cases hi:i*sz=0<;>by_cases hj:j=0<;>simp[hi,hj,Nat.add_assoc]
       rw[e0] at h1;obtain⟨g1,g2⟩:=Da h1;refine⟨g1,?_⟩;rw[Nat.add_assoc,g2,aV (by omega)];rfl
      classical
      let fx:Nat->α:=λi=>if hi:i<len then Classical.choose (qZ (each i hi)) else Classical.choose (qZ (each 0 N7))
      let fc:Nat->List ah:=λi=>if hi:i<len then Classical.choose (each i hi) else[]
      have Ng:∀i,i<len->w.cells? 0 (a.add (i*sz)) sz=some (fc i)/\ok (fx i)/\(fc i).length=sz/\ ∀(j:Nat) p,(ec (fx i))[j]? =some p->RP (jJ w) w ((fc i)[j]?.getD undef) p:=by
       intro i hi;have:=qZ (qZ (each i hi));simp only[fx,fc,hi,dif_pos];exact this
      have Ub:a.spot=none:=by
       obtain⟨k1,_,k3,_⟩:=Ng 0 N7;exact(pz 0 _ N7 k1 k3 0 h0).1 (by simp)
      have ha:a=⟨a.block,a.off,none⟩:=by cases a;simp_all
      have hblk:a.block<w.heap.size:=by
       obtain⟨k1,_,k3,_⟩:=Ng 0 N7;exact zT (pz 0 _ N7 k1 k3 0 h0).2
      have du:∀(i:Nat) p,((cJ len).map (λi=>ep (fx i)))[i]? =some p->i<len/\p=ep (fx i):=by
       intro i p hp;simp only[aW,cm] at hp;obtain⟨k,hk,rfl⟩:=hp;obtain⟨g1,g2⟩:=aq.1 hk;simp at g1 g2;subst g2;exact⟨g1,rfl⟩
      refine⟨(cJ len).map fx,⟨by simpa using Pz,by
       intro x hx;simp only[aY,gI] at hx;obtain⟨i,hi,rfl⟩:=hx
       exact(Ng i hi).2.1⟩,by rw[hc];rfl,λi p hp=>?_⟩
      cases i with
      |succ i=>simp at hp
      |zero=>
       simp at hp;subst hp;show RP (jJ w) w (.slice (some a) len cap) _;rw[ha];refine RP.sl a.block a.off len cap sz false _ (λi j=>(fc i)[j]?.getD undef) hblk (by simp) hl hm (λh=>by cases h) ?_ ?_ ?_
       · intro i p hp
         obtain⟨h1,rfl⟩:=du i p (by simpa[Function.comp] using hp);obtain⟨_,k2,_⟩:=Ng i h1;exact⟨by rw[fO _ k2,h.sz _ k2,hz],by rw[fO _ k2];exact h.one _ k2⟩
       · intro i p j q hp hq
         obtain⟨h1,rfl⟩:=du i p (by simpa[Function.comp] using hp);obtain⟨k1,k2,k3,_⟩:=Ng i h1
         have hj:j<sz:=by
          have:=(aq.1 hq).1;rw[fO _ k2,h.sz _ k2,hz] at this;exact this
         exact(pz i _ h1 k1 k3 j hj).2
       · intro i p j q hp hq
         obtain⟨h1,rfl⟩:=du i p (by simpa[Function.comp] using hp);obtain⟨k1,k2,k3,k4⟩:=Ng i h1;rw[fO _ k2] at hq;exact k4 j q hq
structure xK(M:Nat->Prop)(P:au)(off:Nat)(fs:List Field)(α:Type)(ec:α->List PV)(ok:α->Prop):Prop where
 sz:∀x,ok x->(ec x).length=(fs.map λf=>P.cellsOf f.type).sum
 one:∀x,ok x-> ∀c∈ec x,c.one=true
 rd:∀{H:Type} {enc:an×ah->H} {w:aj} {n:Nat} {cs:List ah},M n->(∀f∈fs,∃y,DataW.trod enc P w 0 (λ_=>true) true n f.type ((cs.drop f.offset).take (P.cellsOf f.type))=some y/\ ∀k∈j6 P f.type y.1,k<=reachBytes)->
  ∃x,ok x/\ ∀(i:Nat) p,(ec x)[i]? =some p->RP (jJ w) w (cs[off+i]?.getD undef) p
theorem xK.nil{M:Nat->Prop}{off:Nat}:xK M P off [] Unit (λ_=>[]) (λ_=>True) where
 sz _ _:=rfl
 one _ _ c hc:=by simp at hc
 rd _ _:=⟨(),trivial,λi p hp=>by simp at hp⟩
theorem xK.cons{M:Nat->Prop}{off bL:Nat}{f:Field}{fs:List Field}{Jv:β->List PV}{Fo:β->Prop}(h:rD M P f.type α ec ok)(k:xK M P bL fs β Jv Fo)(l9:f.offset=off)(ho:bL=off+P.cellsOf f.type):
 xK M P off (f::fs) (α×β) (λx=>ec x.1++Jv x.2) (λx=>ok x.1/\Fo x.2):=by
 subst ho;exact {
  sz:=λx hx=>by simp[h.sz _ hx.1,k.sz _ hx.2]
  one:=λx hx c hc=>by
   rcases cL.1 hc with hc|hc
   · exact h.one _ hx.1 c hc
   · exact k.one _ hx.2 c hc
  rd:=by
   intro H enc w n cs WR hf;obtain⟨y,hy,N'⟩:=hf f (by simp);obtain⟨x,h1,h2,h3⟩:=h.rd WR hy N';obtain⟨x',k1,k2⟩:=k.rd (cs:=cs) WR (λg hg=>hf g (by simp[hg]));refine⟨(x,x'),⟨h1,k1⟩,λi p hp=>?_⟩;have hp:(ec x++Jv x')[i]? =some p:=hp;rw[nG,h.sz x h1] at hp;split at hp
   · rename_i hi
     have:=h3 i p hp;rw[List.getElem?_take,if_pos hi,jQ,l9] at this;exact this
   · rename_i hi
     have:=k2 _ p hp;rw[show off+P.cellsOf f.type+(i-P.cellsOf f.type)=off+i by omega] at this
     exact this }
theorem rD.struct{M M':Nat->Prop}(hM:∀m,M (m+1)->M' m){fs:Array Field}(ht:P.underlying t=some (.struct fs))(h:xK M' P 0 fs.toList α ec ok)(hc:P.cellsOf t=(fs.toList.map λf=>P.cellsOf f.type).sum):rD M P t α ec ok where
 sz x hx:=by rw[h.sz x hx,hc]
 one:=h.one
 rd:=by
  intro H enc w n cs y WR hr Db;obtain⟨xs,m,si,rfl,hl,hlen,hf⟩:=DataW.trod_struct ht hr
  obtain⟨x,h1,h2⟩:=h.rd (enc:=enc) (w:=w) (n:=m) (cs:=cs) (hM m (si▸WR)) (λf VA=>by
   obtain⟨i,hi,he⟩:=lM VA;(have wC:i<fs.size:=by simpa using hi);(have e:fs[i]? =some f:=by rw[dh wC];simpa using he);have:=hf i f e;rw[aV (by omega)] at this;refine⟨_,this,λk hk=>Db k ?_⟩;simp only[j6,ht]
   exact DataW.weights_mem_each (j:=i) (by rw[aW,gi,e];rfl) (by rw[aW,aV (by omega)];rfl) k hk)
  exact⟨x,h1,hl,λi p hp=>by have:=h2 i p hp;rwa[gQ] at this⟩
end
end
end Go.Sg
