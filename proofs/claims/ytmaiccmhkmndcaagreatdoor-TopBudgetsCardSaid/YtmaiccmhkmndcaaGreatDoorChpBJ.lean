/- A part of the proof: contracts of the functions that the statement reaches. -/
import Derived.Test.YtmaiccmhkmndcaaGreatDoorChpAD
import Derived.Test.YtmaiccmhkmndcaaGreatDoorChpAW
import Derived.Test.YtmaiccmhkmndcaaGreatDoorChpBA
import Derived.Test.YtmaiccmhkmndcaaGreatDoorChpBB
import Derived.Test.YtmaiccmhkmndcaaGreatDoorChpBI
import Derived.Test.YtmaiccmhkmndcaaGreatDoorChpBH
import Derived.Test.YtmaiccmhkmndcaaGreatDoorChpAA
set_option linter.unusedSimpArgs false
set_option linter.unusedVariables false
set_option linter.unnecessarySimpa false
set_option maxRecDepth 100000
set_option maxHeartbeats 40000000
open Bool renaming and_eq_true->aQ
open Go.Proofs.Tryz renaming prog->af
open List renaming all_eq_true->cG,any_eq_false->lS,getElem?_eq_some_iff->aq,mem_append->cL,mem_singleton->gE
open Option.some renaming inj->gH
namespace Go.Proofs.YtmaiccmhkmndcaaGreatDoor
open Go Go.Sg
theorem Lp.tail{P:Program}{C:Cx P}{c:Code}{s:St}{K:Kt}{V:List Nat}{id:Nat}{Q:St->Prop}(_:K.n=Sq C V id Q)(I:St->Prop)(hI:∀s',I s'->Sq C V id Q s')(h:(∀s s',I s'->di C s s'->Sq C V id Q s)->Lp C c s K):Lp C c s K:=h λ_ s' h1 h2=>Sq.Ob s' h2 (hI s' h1)
def nZ(kn lt:Int)(b:bx.Bg):Bool:=decide (kn<b.known)&&decide (b.known<=lt)
def Zh:Rg:=⟨[],[],[],[⟨0,0,0,0,0,0,0,false⟩],[],[],[]⟩
theorem Kh:aa af 4 [Rr Zh] (eI 300):=u7 Zh ⟨by decide,by decide,by decide,by decide,⟨by decide,λ_ h=>nomatch h⟩,by decide,by decide,λ_ h=>nomatch h⟩ rfl
theorem QA{r:Rg}(h:u6 r=true):Ta r/\r.dc.length<=8/\r.ap.length<=1000/\r.av.length<=1000/\r.bg.length<=100/\ ∀x∈r.dc,bA.okF x:=by
 simp only[u6,Dn,aQ,decide_eq_true_eq,cG,EN] at h;obtain⟨⟨⟨h1,h2,h3,h4,h5,h6⟩,h7⟩,h8⟩:=h
 have hd:∀x∈r.dc,bA.okF x:=λx hx=>by
  have:=h8 x hx;exact⟨this.1,this.2.1,this.2.2⟩
 exact⟨⟨by omega,by omega,by omega,by omega,NA h7,by omega,by omega,λx hx=>(hd x hx).e⟩,h5,by omega,by omega,by omega,hd⟩
structure Inv(r:Rg)(kn:Int)(i:Nat)(t:Int)(sg:List Int)(U:List bx.Us):Prop where
 hi:i<=r.dc.length
 ht:0<=t/\t<1099511627776
 hs:bA.JF r.dc sg=true
 hu:bx.yf U=true
 hl:U.length<=i
 hf:Ac.Ka r.bg U kn
 hk:∀x∈U,x.tm<=t/\x.known<=kn
 hd:∀x∈U,∃j w,j<i/\r.dc[j]? =some w/\x.doc=w.no
theorem Inv.skip{r:Rg}{kn:Int}{i:Nat}{t t':Int}{sg:List Int}{U:List bx.Us}(h:Inv r kn i t sg U)(hi:i<r.dc.length)(h1:t<=t')(h2:t'<1099511627776):Inv r kn (i+1) t' sg U:=
 ⟨hi,⟨by have:=h.ht.1;omega,h2⟩,h.hs,h.hu,by have:=h.hl;omega,h.hf,λx hx=>⟨by have:=(h.hk x hx).1;omega,(h.hk x hx).2⟩,λx hx=>let⟨j,w,a,b⟩:=h.hd x hx;⟨j,w,by omega,b⟩⟩
theorem Inv.init{r:Rg}{kn:Int}{L:List Int}(hL:L.length=r.dc.length)(h:∀j,j<r.dc.length->L[j]? =some (-1)):Inv r kn 0 0 L []:=
 ⟨Nat.zero_le _,by omega,by
  unfold bA.JF;rw[decide_eq_true hL,Bool.true_and,Bool.not_eq_true',lS];intro x hx;obtain⟨j,hj⟩:=List.getElem?_of_mem hx;have pg:=(aq.1 hj).1;rw[h j (by omega)] at hj;obtain rfl:=gH hj
  decide,rfl,Nat.le_refl _,λx hx=>(by cases hx),λx hx=>(by cases hx),λx hx=>(by cases hx)⟩
theorem Inv.take{r:Rg}{kn:Int}{i:Nat}{t t' m:Int}{sg:List Int}{U:List bx.Us}{d:bA.Dc}(h:Inv r kn i t sg U)(hb:bx.aJ r.bg=0)(hc:bA.aJ r.dc=0)(Rm:r.dc.length<=8)(hd:r.dc[i]? =some d)(h1:t<=t')(h2:t'<1099511627776)(hk:0<=kn/\kn<1099511627776)
 (hm:0<=m/\m<=t'/\m<=kn) (hr:(bx.kC r.bg U d.kind d.val t' kn).2.1=true):Inv r kn (i+1) t' (sg.set i t') (U++[⟨d.no,d.kind,d.val,t',m⟩]):=by
 have yR:=(aq.1 hd).1;obtain⟨_,WQ,hp,_⟩:=bA.dI hc;have WT:=WQ d (List.mem_of_getElem? hd);have ht0:=h.ht;have t2:bA.TM=1099511627776:=rfl;have t3:bx.TM=1099511627775:=rfl;simp only[bA.ag,bA.fS,aQ,decide_eq_true_eq] at WT;have hu:=h.hu;unfold bx.yf at hu;rw[aQ,decide_eq_true_eq,cG] at hu;have hl:=h.hl
 have jV:(bx.sZ (bx.lg r.bg d.kind t' kn) U d.val t' kn).2.1=true:=by
  unfold bx.kC at hr;rw[if_pos hb,if_pos (by omega),if_pos h.hu] at hr;split at hr
  · exact hr
  · cases hr
 refine⟨yR,⟨by omega,h2⟩,?_,?_,by rw[List.length_append];simp;omega,?_,?_,?_⟩
 · have hs:=h.hs
   unfold bA.JF at hs ⊢;rw[aQ,decide_eq_true_eq,Bool.not_eq_true',lS] at hs ⊢;refine⟨by rw[List.length_set];exact hs.1,λx hx=>?_⟩;rcases List.mem_or_eq_of_mem_set hx with hx|rfl
   · exact hs.2 x hx
   · simp[bA.S1,bA.fS,t2];omega
 · unfold bx.yf
   rw[aQ,decide_eq_true_eq,cG];refine⟨λx hx=>?_,?_⟩
   · rcases cL.1 hx with hx|hx
     · exact hu.1 x hx
     · rw[gE] at hx
       subst hx;simp only[bx.rU,bx.bh,aQ,decide_eq_true_eq];omega
   · rw[List.map_append,List.nodup_append]
     refine⟨hu.2,by simp,?_⟩;intro a ha b wF e;obtain⟨x,hx,rfl⟩:=List.mem_map.1 ha;obtain⟨j,w,hj,hw,e2⟩:=h.hd x hx;(have wF:b=d.no:=by simpa using wF);obtain⟨h3,h4⟩:=aq.1 hw;obtain⟨h5,h6⟩:=aq.1 hd;have:=List.pairwise_iff_getElem.1 hp j i h3 h5 hj;rw[h4,h6] at this;omega
 · refine Ac.NH (t:=t') (bx.dI hb).2.1 (λx hx=>(bx.ET (hu.1 x hx)).1) (by show 0<=d.val;omega) rfl (λx hx=>by have:=(h.hk x hx).1;omega) jV h.hf
 · intro x hx
   rcases cL.1 hx with hx|hx
   · have:=h.hk x hx;omega
   · rw[gE] at hx
     subst hx;exact⟨Int.le_refl _,hm.2.2⟩
 · intro x hx
   rcases cL.1 hx with hx|hx
   · obtain⟨j,w,a,b⟩:=h.hd x hx
     exact⟨j,w,by omega,b⟩
   · rw[gE] at hx
     subst hx;exact⟨i,d,by omega,hd,rfl⟩
def JvP(ok:Bool)(r:PV):Prop:=∃st n:Int,r= .bR [.agg [eI st,eI n,.un,.un],eI 0]/\(st=0->ok=true)
theorem Fh(r:Rg)(sg:List Int)(u:List bx.Us)(d:bA.Dc)(i:Nat)(a k:Int)(h:Ju.OkQ r sg u d i a k):cB af 9 [Rr r,dm sg,bx.EK u,eI d.no,eI a,eI k] (JvP (bx.kC r.bg u d.kind d.val a k).2.1):=
 (Ju.Ii r sg u d i a k h).le (PV.dE _) λq ⟨st,n,N,W,s1,s2,c1,c2,e,h1⟩=>⟨_,⟨st,n,rfl,h1⟩,by
   rw[e]
   exact PV.fU (PV.ai (PV.ym (PV.ai (PV.le_refl _) (PV.ai (PV.le_refl _) (PV.ai (PV.TG _ _ _) (PV.ai (PV.TG _ _ _) PV.ao))))) (PV.dE _))⟩
end Go.Proofs.YtmaiccmhkmndcaaGreatDoor
