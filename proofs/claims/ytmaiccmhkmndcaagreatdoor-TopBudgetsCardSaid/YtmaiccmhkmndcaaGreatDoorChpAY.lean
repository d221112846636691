/- A part of the proof: contracts of the functions that the statement reaches. -/
import Derived.Test.YtmaiccmhkmndcaaGreatDoorChpAX
import Derived.Test.YtmaiccmhkmndcaaGreatDoorChpAR
import Derived.Test.YtmaiccmhkmndcaaGreatDoorChpAA
set_option linter.unusedSimpArgs false
set_option linter.unusedVariables false
set_option linter.unnecessarySimpa false
set_option maxRecDepth 100000
set_option maxHeartbeats 40000000
open Bool renaming and_eq_true->aQ
open List renaming take_add_one->bz,foldl_append->fG,mem_cons->cy,map_append->iq,getElem?_map->aW,getElem?_eq_some_iff->aq,getElem?_of_mem->eE,length_cons->ea,mem_map->aY,map_cons->bE,filter_cons->lZ,take_length->eG,nodup_cons->jY,mem_filter->dN
open Prod renaming fst->bp,snd->j7
namespace Go.Proofs.YtmaiccmhkmndcaaGreatDoor
open Go Go.Sg
namespace Ac
open bx
abbrev Km:=List (Ky×Int)
def nu(m:Km)(b:Bg):Km:=match bn (ba b) m with|some _=>m|none=>dQ (ba b) (m.length:Int) m
def eY(l:List Bg):Km:=l.foldl nu []
def pK(M:Km)(b:Bg):Ve.Am:=⟨b.no,b.tm,b.known,(bn (ba b) M).getD 0,b.cnt,b.gone⟩
def pL(M:Km)(b:Bg):Ve.Am:=⟨b.no,b.tm,b.known,(bn (ba b) M).getD 0,b.val,b.gone⟩
theorem Dt{l:List Bg}{i:Nat}{x:Bg}(h:l[i]? =some x):eY (l.take (i+1))=nu (eY (l.take i)) x:=by
 unfold eY;rw[bz,h];simp[fG]
theorem Qk(m:Km)(b:Bg)(q:Ky){v:Int}(h:bn q m=some v):bn q (nu m b)=some v:=by
 unfold nu;split
 · exact h
 · rename_i hn
   rw[dj];split
   · rename_i e;subst e;rw[hn] at h;cases h
   · exact h
theorem AD:∀(l:List Bg) (m:Km) (q:Ky) {v:Int},bn q m=some v->bn q (l.foldl nu m)=some v
 |[],_,_,_,h=>h
 |b::r,m,q,_,h=>AD r _ q (Qk m b q h)
theorem HV(m:Km)(b:Bg):∃v,bn (ba b) (nu m b)=some v:=by
 unfold nu;split
 · rename_i v h;exact⟨v,h⟩
 · exact⟨_,by rw[dj,if_pos rfl]⟩
theorem vd:∀(l:List Bg) (m:Km) (b:Bg),b∈l->∃v,bn (ba b) (l.foldl nu m)=some v
 |a::r,m,b,h=>by
  rcases cy.1 h with rfl|h
  · obtain⟨v,hv⟩:=HV m b
    exact⟨v,AD r _ _ hv⟩
  · exact vd r _ b h
theorem NM{l:List Bg}{i:Nat}{x:Bg}(h:l[i]? =some x):bn (ba x) (eY (l.take (i+1)))=bn (ba x) (eY l):=by
 have e:l=l.take (i+1)++l.drop (i+1):=(List.take_append_drop _ _).symm;obtain⟨v,hv⟩:=HV (eY (l.take i)) x;rw[<-Dt h] at hv;rw[hv];have:=AD (l.drop (i+1)) (eY (l.take (i+1))) (ba x) hv;unfold eY at this ⊢;rw[<-fG,<-e] at this;exact this.symm
def Pl(m:Km):Prop:=(m.map bp).Nodup/\m.map j7=(List.range m.length).map λi:Nat=>(i:Int)
theorem AE{q:Ky}{v:Int}:∀{m:Km},bn q m=none->dQ q v m=m++[(q,v)]
 |[],_=>rfl
 |(k,w)::r,h=>by
  unfold bn at h;split at h
  · cases h
  · rename_i hk
    unfold dQ;rw[if_neg hk,AE h];rfl
theorem Pl.step{m:Km}(h:Pl m)(b:Bg):Pl (nu m b):=by
 unfold nu;split
 · exact h
 · rename_i hn
   refine⟨mX h.1,?_⟩;rw[AE hn,iq,h.2,List.length_append,List.length_singleton,List.range_succ,iq];rfl
theorem Pl.all:∀(l:List Bg) {m:Km},Pl m->Pl (l.foldl nu m)
 |[],_,h=>h
 |b::r,_,h=>Pl.all r (h.step b)
theorem yg(l:List Bg):Pl (eY l):=Pl.all l ⟨by simp,rfl⟩
theorem Pl.at{m:Km}(h:Pl m){i:Nat}{e:Ky×Int}(he:m[i]? =some e):e.2=(i:Int):=by
 (have h1:(m.map j7)[i]? =some e.2:=by rw[aW,he];rfl);have hi:=(aq.1 he).1;rw[h.2,aW,List.getElem?_range hi] at h1;injection h1 with h1;exact h1.symm
theorem Pl.inj{m:Km}(h:Pl m){e f:Ky×Int}(he:e∈m)(hf:f∈m)(hv:e.2=f.2):e=f:=by
 obtain⟨i,hi⟩:=eE he;obtain⟨j,hj⟩:=eE hf;have h1:=h.at hi;have h2:=h.at hj;(have:i=j:=by omega);subst this;rw[hi] at hj;injection hj
theorem AF(l:List Bg):(eY l).length<=l.length:=by
 have:∀(l:List Bg) (m:Km),(l.foldl nu m).length<=m.length+l.length:=λl=>by
  induction l with
  |nil=>intro m;simp
  |cons b r ih=>
   intro m;have h1:=ih (nu m b)
   have h2:(nu m b).length<=m.length+1:=by
    unfold nu;split
    · omega
    · rename_i hn;rw[AE hn];simp
   rw[List.foldl_cons,ea];omega
 simpa[eY] using this l []
theorem Ql{l:List Bg}{b:Bg}(hb:b∈l){e:Ky×Int}(he:e∈eY l):(bn (ba b) (eY l)).getD 0=e.2↔ba b=e.1:=by
 have hp:=yg l;obtain⟨v,hv⟩:=vd l [] b hb;change bn (ba b) (eY l)=some v at hv;rw[hv];show v=e.2↔_;have hm:=ru hv;constructor
 · intro h
   have:=hp.inj hm he h;rw[<-this]
 · intro h
   obtain⟨q,w⟩:=e;have h1:=jD hp.1 he;change ba b=q at h;rw[<-h,hv] at h1;injection h1
theorem V2{l:List Bg}(f:Bg->Int)(hf:∀b∈l,0<=f b/\f b<=1099511627776/\(b.gone=true->f b=0))(hz:aJ l=0)(hl:l.length<=100):Ve.aJ (l.map λb=>⟨b.no,b.tm,b.known,(bn (ba b) (eY l)).getD 0,f b,b.gone⟩)=0:=by
 obtain⟨_,hr,hs⟩:=dI hz;unfold Ve.aJ;refine iK _ _ (by rw[List.length_map];omega) ?_;rw[gv]
 have jq:∀b∈l,0<=(bn (ba b) (eY l)).getD 0/\(bn (ba b) (eY l)).getD 0<=100:=λb hb=>by
  obtain⟨v,hv⟩:=vd l [] b hb;change bn (ba b) (eY l)=some v at hv;obtain⟨i,hi⟩:=eE (ru hv);have:=(yg l).at hi;have h2:=(aq.1 hi).1;have h3:=AF l;rw[hv];change v=(i:Int) at this;show 0<=v/\v<=100;omega
 refine⟨λx hx=>?_,?_⟩
 · obtain⟨b,hb,rfl⟩:=aY.1 hx
   have h1:=hr b hb;have h2:=hf b hb;have h3:=jq b hb;have h4:=eJ h1;simp only[ag,bx.bh,aQ,decide_eq_true_eq] at h1;refine⟨?_,by show -1<b.no;omega⟩;have h5:b.no<=1048576:=h1.1.1.1.1.1.2;simp only[Ve.ag,bh,bx.bh,aQ,decide_eq_true_eq,Bool.or_eq_true,Bool.not_eq_true']
   cases hg:b.gone with
   |false=>simp only[Ve.TM,TM] at *;simp;omega
   |true=>have:=h2.2.2 hg;simp only[Ve.TM,TM] at *;simp;omega
 · rw[List.pairwise_map];exact hs
theorem Th{l:List Bg}(M:Km)(g:Bg->Ve.Am)(hg:∀b,(g b).no=b.no/\(g b).tm=b.tm/\(g b).known=b.known/\(g b).key=(bn (ba b) M).getD 0)(e:Ky×Int)(he:∀b∈l,(bn (ba b) M).getD 0=e.2↔ba b=e.1)(a k:Int)(hs:l.Pairwise (λx y=>x.no<y.no)):
 ∀i,Ve.A' a (((l.take i).map g).filter (Ve.oQ e.2 k))=match jC (ee a k) ba Bg.tm (l.take i) e.1 with|none=>(Ve.zAm,false)|some b=>(g b,true):=by
 have tv:∀(i:Nat) b,jC (ee a k) ba Bg.tm (l.take i) e.1=some b->b∈l.take i:=λi b h=>by
  have:=mW Bg.no (ee a k) ba Bg.tm (l:=l.take i) (hs.sublist (List.take_sublist _ _)) e.1;rcases this with⟨h1,_⟩|⟨y,h1,h2,_⟩
  · rw[h1] at h;cases h
  · rw[h1] at h;injection h with h;exact h▸h2
 intro i
 induction i with
 |zero=>rfl
 |succ i ih=>
  cases hx:l[i]? with
  |none=>rw[bz,hx];simpa using ih
  |some x=>
   have ku:=List.mem_of_getElem? hx;rw[lf _ _ _ hx,bz,hx];simp only[Option.toList,iq,bE,List.map_nil,List.filter_append]
   have Qm:Ve.oQ e.2 k (g x)=(decide (ba x=e.1)&&decide (x.known<=k)):=by
    unfold Ve.oQ;rw[(hg x).2.2.2,(hg x).2.2.1];congr 1;rw[decide_eq_decide];exact he x ku
   unfold zL
   cases hq:Ve.oQ e.2 k (g x) with
   |false=>
    have h0:¬(ee a k x=true/\ba x=e.1):=by
     rintro⟨h1,h2⟩;rw[Qm] at hq;simp only[ee,aQ,decide_eq_true_eq] at h1;simp[h2,h1.2] at hq
    rw[if_neg h0];simp only[lZ,hq,List.filter_nil];simpa using ih
   |true=>
    rw[Qm,aQ,decide_eq_true_eq,decide_eq_true_eq] at hq;(have Yc:Ve.oQ e.2 k (g x)=true:=by rw[Qm,decide_eq_true hq.1,decide_eq_true hq.2];rfl);simp only[lZ,Yc,List.filter_nil,if_true];unfold Ve.A';rw[fG];change Ve.NL a (Ve.A' a (((l.take i).map g).filter (Ve.oQ e.2 k))) (g x)=_;rw[ih];by_cases ht:x.tm<=a
    · have hcn:ee a k x=true:=by unfold ee;rw[decide_eq_true ht,decide_eq_true hq.2];rfl
      rw[if_pos ⟨hcn,hq.1⟩]
      cases ho:jC (ee a k) ba Bg.tm (l.take i) e.1 with
      |none=>
       simp only[Ve.NL];rw[(hg x).2.1,decide_eq_true ht];rfl
      |some z=>
       have hz:=tv i z ho
       have aC:z.no<x.no:=by
        obtain⟨j,hj⟩:=eE hz;have pg:=(aq.1 hj).1;rw[List.length_take] at pg;rw[List.getElem?_take_of_lt (by omega)] at hj;exact tI Bg.no hs (by omega) hj hx
       have qe:decide (Ve.Tg (g z) (g x)<0)=decide (z.tm<=x.tm):=by
        unfold Ve.Tg;rw[(hg z).2.1,(hg x).2.1,(hg z).1,(hg x).1,decide_eq_decide];split
        · rename_i h0
          rw[Lc] at h0;rw[yc];omega
        · rename_i h0
          rw[Lc] at h0;rw[yc];omega
       simp only[Ve.NL];rw[(hg x).2.1,decide_eq_true ht,qe];by_cases h1:z.tm<=x.tm
       · simp[h1]
       · simp[h1]
    · have hcn:¬(ee a k x=true/\ba x=e.1):=by
       rintro⟨h1,_⟩;simp only[ee,aQ,decide_eq_true_eq] at h1;exact ht h1.1
      rw[if_neg hcn]
      cases ho:jC (ee a k) ba Bg.tm (l.take i) e.1 with
      |none=>simp only[Ve.NL];rw[(hg x).2.1,decide_eq_false ht];rfl
      |some z=>simp only[Ve.NL];rw[(hg x).2.1,decide_eq_false ht];rfl
def kD(l:List Bg)(a k:Int)(q:Ky):Option Bg:=jC (ee a k) ba Bg.tm l q
theorem val_last{l:List Bg}(g:Bg->Ve.Am)(hg:∀b,(g b).no=b.no/\(g b).tm=b.tm/\(g b).known=b.known/\(g b).key=(bn (ba b) (eY l)).getD 0){e:Ky×Int}(he:e∈eY l)(a k:Int)(hs:l.Pairwise (λx y=>x.no<y.no)):
 Ve.Qj (l.map g) e.2 a k=match kD l a k e.1 with|none=>(0,false)|some b=>((g b).val,!(g b).gone):=by
 have:=Th (l:=l) (eY l) g hg e (λb hb=>Ql hb he) a k hs l.length;rw[eG] at this;unfold Ve.Qj kD;rw[this];cases jC (ee a k) ba Bg.tm l e.1<;>rfl
theorem Du{l:List Bg}(n a k:Int)(q:Ky)(hq:q.1= -1\/q.1=n)(hs:l.Pairwise (λx y=>x.no<y.no)):
 (lg l n a k).filter (λb=>decide (ba b=q))=match kD l a k q with|none=>[]|some b=>if b.gone then[] else[b]:=by
 have Y4:jC (cZ n a k) ba Bg.tm l q=kD l a k q:=by
  unfold kD
  have:∀i,jC (cZ n a k) ba Bg.tm (l.take i) q=jC (ee a k) ba Bg.tm (l.take i) q:=λi=>by
   induction i with
   |zero=>rfl
   |succ i ih=>
    cases hx:l[i]? with
    |none=>rw[bz,hx];simpa using ih
    |some x=>
     rw[lf _ _ _ hx,lf _ _ _ hx,ih];unfold zL;by_cases hk:ba x=q
     · have hf:BV n x=true:=by
        have e:x.kind=q.1:=congrArg bp hk;unfold BV;rw[e];simpa using hq
       unfold cZ;rw[hf,Bool.and_true]
     · rw[if_neg (λh=>hk h.2),if_neg (λh=>hk h.2)]
  have:=this l.length;rwa[eG] at this
 rw[<-ER l n a k hs];unfold Oj;rw[List.filter_filter];have du:=oO n a k l q l.length;rw[eG,Y4] at du
 have Y5:(l.filter λb=>decide (ba b=q)&&bx.stM (foldM n a k l) b)=l.filter λb=> !b.gone&&decide (kD l a k q=some b):=List.filter_congr λb _=>by
  unfold bx.stM;by_cases hk:ba b=q
  · rw[hk,du,decide_eq_true rfl,Bool.true_and]
  · rw[decide_eq_false hk,Bool.false_and]
    symm
    rw[Bool.and_eq_false_iff];right;rw[decide_eq_false_iff_not];intro h;have:=mW Bg.no (ee a k) ba Bg.tm hs q;unfold kD at h;rcases this with⟨h1,_⟩|⟨y,h1,_,_,h4,_⟩
    · rw[h1] at h;cases h
    · rw[h1] at h;injection h with h;exact hk (h▸h4)
 rw[Y5]
 cases ho:kD l a k q with
 |none=>
  rw[List.filter_eq_nil_iff];intro b _;simp
 |some z=>
  have hz:z∈l:=by
   have:=mW Bg.no (ee a k) ba Bg.tm hs q;unfold kD at ho;rcases this with⟨h1,_⟩|⟨y,h1,h2,_⟩
   · rw[h1] at ho;cases ho
   · rw[h1] at ho;injection ho with ho;exact ho▸h2
  show _=if z.gone then[] else[z]
  have iX:l.Nodup:=hs.imp λh e=>by subst e;omega
  have DM:∀l:List Bg,l.Nodup->z∈l->l.filter (λb=> !b.gone&&decide (some z=some b))=if z.gone then[] else[z]:=λl=>by
   induction l with
   |nil=>intro _ h;cases h
   |cons y r ih=>
    intro hn hm;rw[jY] at hn;by_cases e:z=y
    · subst e
      have h0:r.filter (λb=> !b.gone&&decide (some z=some b))=[]:=by
       rw[List.filter_eq_nil_iff];intro b hb h;simp at h;exact hn.1 (h.2▸hb)
      rw[lZ,h0];cases z.gone<;>simp
    · rcases cy.1 hm with h|h
      · exact absurd h e
      · rw[lZ,if_neg (by simp;intro _;exact e)]
        exact ih hn.2 h
  exact DM l iX hz
theorem LV{α κ:Type}[DecidableEq κ](key:α->κ):∀(K:List κ) (S:List α),K.Nodup->(∀s∈S,key s∈K)->S.length=(K.map λx=>(S.filter λs=>decide (key s=x)).length).sum
 |[],S,_,h=>by
  cases S with
  |nil=>rfl
  |cons a r=>exact absurd (h a (by simp)) (by simp)
 |x::r,S,hn,h=>by
  rw[jY] at hn
  have h1:=LV key r (S.filter λs=> !decide (key s=x)) hn.2 λs hs=>by
   obtain⟨h1,h2⟩:=dN.1 hs;rcases cy.1 (h s h1) with e|e
   · rw[e] at h2;simp at h2
   · exact e
  have h2:S.length=(S.filter λs=>decide (key s=x)).length+(S.filter λs=> !decide (key s=x)).length:=by
   clear h h1
   induction S with
   |nil=>rfl
   |cons a t ih=>simp only[lZ,ea];by_cases hk:key a=x<;>simp[hk]<;>omega
  rw[h2,h1,bE,List.sum_cons];congr 2;refine List.map_congr_left λy hy=>?_;rw[List.filter_filter];congr 1;refine List.filter_congr λs _=>?_;by_cases hk:key s=y
  · have:¬ key s=x:=λe=>hn.1 (by rw[<-e,hk];exact hy)
    simp[hk];exact λe=>this (hk.trans e)
  · simp[hk]
def HW(l:List Bg)(n a k:Int)(e:Ky×Int):Bool:=(decide (e.1.1= -1)||decide (e.1.1=n))&&(match kD l a k e.1 with|none=>false|some b=> !b.gone)
theorem Qo{l:List Bg}(n a k:Int)(hs:l.Pairwise (λx y=>x.no<y.no)):((eY l).countP (HW l n a k))=(lg l n a k).length:=by
 have hp:=yg l
 rw[LV ba ((eY l).map bp) (lg l n a k) hp.1 λs h=>by
  obtain⟨v,hv⟩:=vd l [] s (dN.1 h).1
  exact aY.2 ⟨_,ru hv,rfl⟩]
 rw[List.map_map]
 have:∀L:Km,L.countP (HW l n a k)=(L.map ((λx=>((lg l n a k).filter λs=>decide (ba s=x)).length)∘bp)).sum:=λL=>by
  induction L with
  |nil=>rfl
  |cons e r ih=>
   rw[List.countP_cons,ih,bE,List.sum_cons,Nat.add_comm];congr 1;show _=((lg l n a k).filter λs=>decide (ba s=e.1)).length;by_cases hq:e.1.1= -1\/e.1.1=n
   · rw[Du n a k e.1 hq hs]
     unfold HW;rw[show(decide (e.1.1= -1)||decide (e.1.1=n))=true by simpa using hq]
     cases kD l a k e.1 with
     |none=>rfl
     |some b=>cases hg:b.gone<;>simp[hg]
   · unfold HW
     rw[show(decide (e.1.1= -1)||decide (e.1.1=n))=false by simpa[not_or] using hq]
     have:(lg l n a k).filter (λs=>decide (ba s=e.1))=[]:=by
      rw[List.filter_eq_nil_iff];intro s OW h;(have h1:ba s=e.1:=by simpa using h);have h2:=(dN.1 OW).2;rw[aQ] at h2;have h3:=h2.1;have e2:s.kind=e.1.1:=congrArg bp h1;simp only[BV,Bool.or_eq_true,decide_eq_true_eq,e2] at h3;exact hq h3
     rw[this];rfl
 exact this _
theorem ve{α:Type}(p:α->Bool):∀(R:List α) (j:Nat) (x:α),R[j]? =some x->R.countP p=(R.eraseIdx j).countP p+if p x then 1 else 0
 |[],j,x,h=>by simp at h
 |a::r,0,x,h=>by
  simp at h;subst h;rw[List.countP_cons];rfl
 |a::r,j+1,x,h=>by
  have:=ve p r j x (by simpa using h);simp only[List.eraseIdx_cons_succ,List.countP_cons];omega
end Ac
end Go.Proofs.YtmaiccmhkmndcaaGreatDoor
