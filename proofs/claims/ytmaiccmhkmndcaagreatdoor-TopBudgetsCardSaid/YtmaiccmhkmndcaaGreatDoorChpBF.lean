/- A part of the proof: contracts of the functions that the statement reaches. -/
import Derived.Test.YtmaiccmhkmndcaaGreatDoorChpBE
import Derived.Test.YtmaiccmhkmndcaaGreatDoorChpAT
import Derived.Test.YtmaiccmhkmndcaaGreatDoorChpAA
set_option linter.unusedSimpArgs false
set_option linter.unusedVariables false
set_option linter.unnecessarySimpa false
set_option maxRecDepth 100000
set_option maxHeartbeats 40000000
open And renaming intro->ae
open Go.Proofs.Tryz renaming prog->af
open Int renaming toNat_natCast->dv
open List renaming length_map->ak,length_append->fk,length_cons->ea,length_replicate->xw,length_take->dy,length_set->nX,replicate->ck,take->et,drop->eo,drop_zero->da,mem_singleton->gE
open Nat renaming le_refl->aX,zero_le->de,zero_lt_succ->iz
namespace Go.Proofs.YtmaiccmhkmndcaaGreatDoor
open Go Go.Sg
namespace Ju
def CmP(n:Nat)(r:AV)(σ:ab):Prop:=∃(l:List Int) (m:Nat),l.length=n/\0<m/\m<=n/\r= .bo 0 1 0 m/\σ=[(0,.row 1 (l.map eI))]
theorem rZ(sz:Nat)(clip:Bool):aa af 99 [.sl sz clip []] (.sl sz clip []):=by
 have h2:((([]:List PV).length:Int)<2):=by decide
 refine aa.e Tryz.func99 61 [.tmp 2] SQ ?_;exact bM (kY h2) trivial
theorem s9(l:List Int)(h0:0<l.length)(hl:l.length<1000000):dC af 99 1 [(0,.row 1 (l.map eI))] [.bo 0 1 0 l.length] (CmP l.length):=by
 have hlen:(l.map eI).length=l.length:=ak ..;refine dC.e Tryz.func99 61 [.tmp 2] SQ ?_;refine cb (ae (λhc=>?_) λhc=>?_)
 · refine⟨_,_,⟨l,l.length,rfl,h0,aX _,rfl,rfl⟩,?_⟩
   (conv=>whnf);exact nr [] [(0,0)] trivial
 refine bY.bq (α:={i:Nat // 1<=i/\i<=l.length}) mixed SQ (λi=>[(3,.p (eI i.1))]) (λ_=>[]) (λ_=>0) (λi=>l.length-i.1) ⟨1,by omega,by omega⟩ ?_ ?_
 · exact aG trivial
 rintro⟨i,Lv,hi⟩;have Lv:1<=i:=Lv;have hi:i<=l.length:=hi
 cases hx:l[i]? with
 |none=>
  have dD:l.length<=i:=List.getElem?_eq_none_iff.1 hx;(have bV:¬((i:Int)<(l.length:Int)):=by omega);refine bM (kN bV) (λhc=>?_);refine⟨_,_,⟨l,l.length,rfl,h0,aX _,rfl,rfl⟩,?_⟩;(conv=>whnf);exact nr [] [(0,0)] trivial
 |some x=>
  have aC:i<l.length:=(List.getElem?_eq_some_iff.1 hx).1;(have ay:((i:Int)<(l.length:Int)):=by omega);refine bM (kY ay) (λhc x hx x hx=>ae (λhc=>?_) λhc=>?_)
  · refine bY.bq (α:={x:Nat×Nat×List Int // x.2.2.length=l.length/\1<=x.2.1/\x.2.1<=l.length-i/\i<=x.1/\x.1+1<=i+x.2.1}) mixed SQ (λx=>[(3,.p (eI x.1.1)),(5,.p (eI x.1.2.1))]) (λx=>[(0,.row 1 (x.1.2.2.map eI))]) (λ_=>0) (λx=>l.length-i-x.1.2.1) ⟨(i,1,l),rfl,by show 1<=1;omega,by show 1<=l.length-i;omega,aX _,aX _⟩ ?_ ?_
    · exact aG trivial
    rintro⟨⟨k,j,L⟩,hL,Gm,Gn,Io,N9⟩;have hL:L.length=l.length:=hL;have Gm:1<=j:=Gm;have Gn:j<=l.length-i:=Gn;have Io:i<=k:=Io;have N9:k+1<=i+j:=N9;refine cb (ae (λhc=>ae ?_ λx hx x hx=>ae (λhc=>ae ?_ λx hx=>?_) λhc=>?_) λhc=>?_)
    (all_goals(try((first|(with_reducible show(_:Int)<=_)|(with_reducible show(_:Int)<_)|(with_reducible show(_:Nat)<=_)|(with_reducible show(_:Nat)<_)|(with_reducible show ¬ _)|(with_reducible show(_:Int)=_)|(with_reducible show(_:Nat)=_)|(with_reducible show False));(try dsimp only at *);(try simp only[ak,fk,ea,List.length_nil,xw,dy,List.length_drop,nX,dv,Int.reduceToNat] at *);omega)))
    · have pg:(j:Int)<((((l.length:Nat):Int).toNat-(i:Int).toNat:Nat):Int):=by assumption
      refine⟨⟨(k+1,j+1,L.set k x),(show(L.set k x).length=l.length by rw[nX];exact hL),(show 1<=j+1 by omega),(show j+1<=l.length-i by omega),(show i<=k+1 by omega),(show k+1+1<=i+(j+1) by omega)⟩,by show l.length-i-(j+1)<l.length-i-j;omega,?_⟩;exact aG trivial
    · have pg:(j:Int)<((((l.length:Nat):Int).toNat-(i:Int).toNat:Nat):Int):=by assumption
      refine⟨⟨(k,j+1,L),hL,(show 1<=j+1 by omega),(show j+1<=l.length-i by omega),Io,(show k+1<=i+(j+1) by omega)⟩,by show l.length-i-(j+1)<l.length-i-j;omega,?_⟩;exact aG trivial
    (have pg:¬(j:Int)<((((l.length:Nat):Int).toNat-(i:Int).toNat:Nat):Int):=by assumption);refine⟨_,_,⟨L.take k++ck (l.length-k) 0,k,by rw[fk,dy,xw];omega,by omega,by omega,rfl,rfl⟩,?_⟩;(conv=>whnf);refine nr [] [(0,0)] ?_;show et (0+(k:Int).toNat) (L.map eI)++ck (((l.length:Nat):Int).toNat-(k:Int).toNat) (eI 0)++eo (0+(k:Int).toNat+(((l.length:Nat):Int).toNat-(k:Int).toNat)) (L.map eI)=(L.take k++ck (l.length-k) 0).map eI;rw[List.drop_eq_nil_of_le (by rw[ak];omega),List.append_nil,List.map_append,List.map_take,List.map_replicate,Nat.zero_add,dv,dv]
  · refine⟨⟨i+1,by omega,aC⟩,by show l.length-(i+1)<l.length-i;omega,?_⟩
    exact aG trivial
theorem KH(r:Rg)(d:bA.Dc)(a k:Int)(p:Po):aa af 156 [NO r d a k,tM p] (.fn (.func 189) [] [.ro (QB r d a k),.ro (cP p)]):=by
 refine aa.e Tryz.func156 6 [.tmp 4] [0,1,2,3,4] ?_;exact cb trivial
def PlP(n:Nat)(r:PV):Prop:=∃l:List Int,l.length<=n/\r=dm l
theorem E9(r:Rg)(d:bA.Dc)(a k:Int)(h:Ir r d a k)(p:Po)(hp:oL p)(hz:wg p=0):cB af 96 [NO r d a k,tM p] (PlP r.av.length):=by
 have gh:=N0 r d a k h p hp hz;have hal:=h.g.av;have q:=KH r d a k p;refine cB.e Tryz.func96 19 [.cell 4 39] [0,1,2,3,4,5,8,9] ?_;refine gG (kF 1 [(2,false),(3,false)]) q ?_;refine bY.Jn mixed gh (by kernel_rfl) rfl [0,1,2,3,4,5,8,9] r.av.length [128] (λk hp nx=>∃l:List Int,l.length=k/\hp=[(128,.cells [xU 1 l])]++DD 1 l/\nx=384) ⟨[],rfl,rfl,rfl⟩ (gN rfl) (by simp) (by simp) (λk x hp nx hx Fs hI=>?_) (λk hp nx Fs hF hI=>?_)
 · obtain⟨hk,y,rfl⟩:=hx
   obtain⟨l,rfl,rfl,rfl⟩:=hI;refine⟨rfl,?_⟩
   cases l with
   |nil=>
    refine cb (λaZ=>?_)
    all_goals
     refine⟨_,_,⟨[y.for_],rfl,rfl,rfl⟩,?_⟩;exact nq trivial
   |cons b s=>
    (have oI:s.length+1<=1000000:=by simp at Fs;omega);show aw _ _ _ ⟨_,[(128,.cells [.bo 1 1 0 (s.length+1)]),(1,.row 1 (eI b::s.map eI))],_,_⟩ _;refine cb ?_
    all_goals
     refine⟨_,_,⟨b::(s++[y.for_]),by simp,rfl,rfl⟩,?_⟩;refine nq ?_;show eI b::s.map eI++[eI y.for_]=_;simp
 · obtain⟨l,hl,rfl,rfl⟩:=hI
   have hF:k<=r.av.length:=hF
   cases l with
   |nil=>
    have q1:=rO 0 true;have q2:=rZ 0 true;refine gG q1 q2 ?_;refine⟨_,⟨[],de _,rfl⟩,?_⟩;(conv=>whnf);exact aP.mk (PV.le_nil _ _ _)
   |cons b s=>
    have hl:s.length+1=k:=hl
    obtain⟨a',r',e⟩:∃a' r',(b::s).mergeSort (λx y=>decide (x<=y))=a'::r':=by
     have h:=List.length_mergeSort (le:=λx y:Int=>decide (x<=y)) (b::s)
     cases hh:(b::s).mergeSort (λx y=>decide (x<=y)) with
     |nil=>rw[hh] at h;simp at h
     |cons x y=>exact⟨x,y,rfl⟩
    have oI:r'.length=s.length:=by
     have h:=List.length_mergeSort (le:=λx y:Int=>decide (x<=y)) (b::s);rw[e] at h;simpa using h
    have q1:=lF (b::s) (iz _) (by show s.length+1<1000000;omega);rw[e] at q1;have q1:aM af 98 1 [(0,.row 1 (eI b::s.map eI))] [.bo 0 1 0 (s.length+1)] (.p (.bR [])) [(0,.row 1 (eI a'::r'.map eI))]:=q1;have q2:=s9 (a'::r') (iz _) (by show r'.length+1<1000000;omega);(have q2:dC af 99 1 [(0,.row 1 (eI a'::r'.map eI))] [.bo 0 1 0 (s.length+1)] (CmP (s.length+1)):=by rw[<-oI];exact q2);show Kt.n _ ⟨_,[(128,.cells [.bo 1 1 0 (s.length+1)]),(1,.row 1 (eI b::s.map eI))],_,_⟩
    repeat' (first|exact fg|(refine stx ?_;first|exact bW _|refine aE ?_)|(refine kq ?_;first|refine fR (kI [1] q1) ?_)|((fail_if_success refine ft ?_);(conv=>whnf)<;>(first|exact fh|(refine fJ.r (gL.n (gq.n (iG.m ?_)));refine pH [1] q2 (by kernel_rfl) rfl rfl (by decide) M1 (λi hi=>by match i,hi with|0,_=>rfl) M4 ?_;rintro r1 dX ⟨L,m,hL1,hL2,hL3,rfl,rfl⟩;refine⟨λi hi=>(by simp at hi;simp[keys,hi]),by simp[keys],?_⟩)|refine str ?_|refine Br.dec (λhc=>?_) λhc=>?_|refine Br.mk (λhc=>?_) λhc=>?_|exact PV.ao|refine PV.ai ?_ ?_|refine ae ?_ ?_|refine aD λx hx=>?_|refine aE ?_|refine bX (λhn=>?_) ?_|exact fv|refine bS λaZ=>?_|refine al ?_ ?_|refine fu ?_|fail)))<;>(try exact fi)
    refine⟨_,⟨L.take m,by rw[dy];omega,rfl⟩,?_⟩;(conv=>whnf);refine⟨⟨rfl,iz _,(show 0+m<=(L.map eI).length by rw[ak];omega)⟩,?_⟩;refine aP.of ?_;rw[da];show PV.sl 1 false (et m (L.map eI))=dm (L.take m);rw[<-List.map_take];rfl
def BnP(r:PV):Prop:=∃b:Bool,r= .bool b
theorem Zs{p:Po}(hz:wg p=0):p.cx.length<=32/\p.rules.length=p.kinds.length:=by
 obtain⟨ua,-⟩:=oN hz;unfold Ht at ua;split at ua
 · rename_i h1
   split at ua
   · split at ua
     · rename_i h2
       simp only[Rp,LI,Bool.and_eq_true,decide_eq_true_eq] at h1 h2;exact⟨h1.1,h2.2.1⟩
     · cases ua
   · cases ua
 · cases ua
theorem E'{κ β:Type}[DecidableEq κ](k:κ)(v:β):∀M:List (κ×β),(dQ k v M).length<=M.length+1
 |[]=>aX _
 |(j,w)::r=>by
  have:=E' k v r;unfold dQ;split<;>simp only[ea]<;>omega
theorem DE(a t:Int):∀(l:List Of.Ap) (M:Of.Mp),(l.foldl (Of.iV a t) M).length<=M.length+l.length
 |[],M=>aX _
 |x::r,M=>by
  have h1:=DE a t r (Of.iV a t M x);have h3:=E' (Of.sW x) x M
  have h2:(Of.iV a t M x).length<=M.length+1:=by
   unfold Of.iV;split
   · split
     · exact h3
     · split<;>omega
   · omega
  rw[List.foldl_cons,ea];omega
def eHo(L:List Of.St):PV:= .sl 2 false (L.map Of.eS)
def outL(n:Nat):List (List Of.St)->AV
 |[]=>.p (.sl 0 true [])
 |_::r=>.bo n 1 0 (r.length+1)
def Zt(n:Nat):List (List Of.St)->ab
 |[]=>[]
 |a::r=>[(n,.row 1 ((a::r).map eHo))]
theorem xX(r:Rg)(d:bA.Dc)(a k:Int)(h:Ir r d a k)(OO:r.ap.length<=1000)(p:Po)(hp:oL p)(hz:wg p=0)(w:List Int)(hw:w.length<1000000):cB af 97 [NO r d a k,tM p,dm w] BnP:=by
 obtain⟨ho,-⟩:=Zs hz;(have bI:∀{lo hi n:Int},lo<=n->n<=hi->bh lo hi n=true:=λh1 h2=>by simp[bh,h1,h2]);have hM:(Of.foldM a k r.ap).length<=1000:=Nat.le_trans (DE a k r.ap []) (by simpa using OO);have ha:=h.a;have hk:=h.k;have qH:=λn (hn:(0:Int)<=n) (Xd:n<=31)=>Of.BU r.ap n a k h.g.ap h.z.1 (bI hn Xd) (bI ha.1 (show a<=1099511627775 by omega)) (bI hk.1 (show k<=1099511627775 by omega)) (by omega);generalize (Of.foldM a k r.ap).length=n0 at *;have qP:=λ(H:List (List Of.St)) hH hL=>Pe.B6 p hp hz d.kind d.val H w hH hL hw;have q4:=iD;(have Rn:((p.cx.map eS).length:Int)<=32:=by rw[ak];omega);refine cB.e Tryz.func97 56 [.tmp 6] YF ?_;refine bM (kF 2 [(3,false),(4,false)]) ?_;refine bY.bq (α:={H:List (List Of.St) // H.length<=p.cx.length/\ ∀L∈H,L.length<=n0}) mixed YF (λH=>[(7,outL 2 H.1),(16,.p (eI (H.1.length:Nat)))]) (λH=>Zt 2 H.1) (λ_=>0) (λH=>p.cx.length-H.1.length) ⟨[],de _,λ_ h=>nomatch h⟩ ?_ ?_
 · exact aG trivial
 rintro⟨H,hH,hL⟩;have hH:H.length<=p.cx.length:=hH;have hL:∀L∈H,L.length<=n0:=hL;by_cases aC:H.length<p.cx.length
 · have ay:((H.length:Nat):Int)<((p.cx.map eS).length:Int):=by rw[ak];omega
   have q1:=qH (H.length:Nat) (by omega) (by omega);have hlt0:0<p.cx.length:=by omega
   cases H with
   |nil=>
    repeat' (first|exact fg|(refine stx ?_;first|exact bW _|refine aE ?_)|(refine kq ?_;first|refine fR q4 ?_)|((fail_if_success refine ft ?_);(conv=>whnf)<;>(first|exact fh|refine np ay λhc=>?_|(refine fJ.r (gL.n (gq.n (iG.n ?_)));refine lR q1 (by kernel_rfl) rfl ?_;rintro r1 ⟨L,Qf,rfl⟩)|refine str ?_|refine Br.dec (λhc=>?_) λhc=>?_|refine Br.mk (λhc=>?_) λhc=>?_|exact PV.ao|refine PV.ai ?_ ?_|refine ae ?_ ?_|refine aD λx hx=>?_|refine aE ?_|refine bX (λhn=>?_) ?_|exact fv|refine bS λaZ=>?_|refine al ?_ ?_|refine fu ?_|fail)))<;>(try exact fi)
    all_goals
     refine⟨⟨[L],(show 1<=p.cx.length by omega),λL' h'=>by rw[gE.1 h'];exact Qf⟩,(show p.cx.length-1<p.cx.length-0 from Nat.sub_lt_sub_left hlt0 (Nat.zero_lt_one)),?_⟩;exact aG trivial
   |cons b s=>
    have te:s.length+1<=40:=by simp at hH;omega
    repeat' (first|exact fg|(refine stx ?_;first|exact bW _|refine aE ?_)|(refine kq ?_;first|refine fR q4 ?_)|((fail_if_success refine ft ?_);(conv=>whnf)<;>(first|exact fh|refine np ay λhc=>?_|(refine fJ.r (gL.n (gq.n (iG.n ?_)));refine lR q1 (by kernel_rfl) rfl ?_;rintro r1 ⟨L,Qf,rfl⟩)|refine str ?_|refine Br.dec (λhc=>?_) λhc=>?_|refine Br.mk (λhc=>?_) λhc=>?_|exact PV.ao|refine PV.ai ?_ ?_|refine ae ?_ ?_|refine aD λx hx=>?_|refine aE ?_|refine bX (λhn=>?_) ?_|exact fv|refine bS λaZ=>?_|refine al ?_ ?_|refine fu ?_|fail)))<;>(try exact fi)
    all_goals
     refine⟨⟨b::(s++[L]),(show(b::(s++[L])).length<=p.cx.length by simp at aC ⊢;omega),λL' h'=>?_⟩,(show p.cx.length-(b::(s++[L])).length<p.cx.length-(b::s).length by simp at aC ⊢;omega),?_⟩
     · rw[<-List.cons_append,List.mem_append] at h'
       rcases h' with h'|h'
       · exact hL L' h'
       · rw[gE.1 h'];exact Qf
     refine aG ?_
     all_goals(show(b::s).map eHo++[eHo L]=_;simp)
 · have bV:¬((H.length:Nat):Int)<((p.cx.map eS).length:Int):=by rw[ak];omega
   have qp:=qP H (by omega) (λL h=>by have:=hL L h;omega)
   cases H with
   |nil=>
    repeat' (first|exact fg|(refine stx ?_;first|exact bW _|refine aE ?_)|((fail_if_success refine ft ?_);(conv=>whnf)<;>(first|exact fh|refine vZ bV λhc=>?_|(refine fJ.r (gL.n (gq.n (iG.n ?_)));refine nN qp (by kernel_rfl) rfl ?_;refine ae (PV.ai (PV.le_refl _) (PV.ai (PV.le_refl _) (PV.ai (PV.le_refl _) (PV.ai (PV.le_nil _ _ _) (PV.ai (PV.le_refl _) PV.ao))))) ?_;rintro r1 ⟨b,e,rfl⟩)|refine str ?_|refine Br.dec (λhc=>?_) λhc=>?_|refine Br.mk (λhc=>?_) λhc=>?_|exact PV.ao|refine PV.ai ?_ ?_|refine ae ?_ ?_|refine aD λx hx=>?_|refine aE ?_|refine bX (λhn=>?_) ?_|exact fv|refine bS λaZ=>?_|refine al ?_ ?_|refine fu ?_|fail)))<;>(try exact fi)
    · refine⟨_,⟨decide (e=0),rfl⟩,?_⟩
      (conv=>whnf);exact aP.refl _
    · refine⟨_,⟨false,rfl⟩,?_⟩
      (conv=>whnf);exact aP.refl _
   |cons b s=>
    have Qp:Pe.Wj (b::s)= .sl 1 false (et (s.length+1) (eo 0 ((b::s).map eHo))):=by
     rw[da,List.take_of_length_le (by simp)];rfl
    rw[Qp] at qp
    repeat' (first|exact fg|(refine stx ?_;first|exact bW _|refine aE ?_)|((fail_if_success refine ft ?_);(conv=>whnf)<;>(first|exact fh|refine vZ bV λhc=>?_|refine Sq.fz (id:=9) [(7,false)] ?_|(refine fJ.r (gL.n (gq.n (iG.n ?_)));refine lR qp (by kernel_rfl) rfl ?_;rintro r1 ⟨b,e,rfl⟩)|refine str ?_|refine Br.dec (λhc=>?_) λhc=>?_|refine Br.mk (λhc=>?_) λhc=>?_|exact PV.ao|refine PV.ai ?_ ?_|refine ae ?_ ?_|refine aD λx hx=>?_|refine aE ?_|refine bX (λhn=>?_) ?_|exact fv|refine bS λaZ=>?_|refine al ?_ ?_|refine fu ?_|fail)))<;>(try exact fi)
    · refine⟨_,⟨decide (e=0),rfl⟩,?_⟩
      (conv=>whnf);exact aP.refl _
    · refine⟨_,⟨false,rfl⟩,?_⟩
      (conv=>whnf);exact aP.refl _
end Ju
end Go.Proofs.YtmaiccmhkmndcaaGreatDoor
