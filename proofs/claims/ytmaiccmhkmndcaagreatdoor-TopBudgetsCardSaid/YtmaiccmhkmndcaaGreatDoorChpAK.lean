/- A part of the proof: contracts of the functions that the statement reaches. -/
import Derived.Test.YtmaiccmhkmndcaaGreatDoorChpAJ
import Derived.Test.YtmaiccmhkmndcaaGreatDoorChpAA
set_option linter.unusedSimpArgs false
set_option linter.unusedVariables false
set_option linter.unnecessarySimpa false
set_option maxRecDepth 100000
set_option maxHeartbeats 40000000
open And renaming intro->ae
open Bool renaming and_eq_true->aQ,true_and->dZ,false_and->ji
open Go.Proofs.Tryz renaming prog->af
open List renaming getElem?_eq_none_iff->bw,length_map->ak,drop_eq_nil_of_le->lz,getElem?_eq_some_iff->aq,getElem?_eq_getElem->aV,mem_of_getElem?->aO,take_of_length_le->bN,map_map->il
namespace Go.Proofs.YtmaiccmhkmndcaaGreatDoor
open Go Go.Sg
mutual
def LH:Ex->Ex->Bool
 |.mk k n no s l,b=>decide (k=b.k)&&(decide (n=b.n)&&(decide (no=b.no)&&(decide (s=b.nm)&&(decide (l.length=b.l.length)&&Ag l b.l))))
def Ag:List Ex->List Ex->Bool
 |x::r,y::t=>LH x y&&Ag r t
 |_,_=>true
end
theorem JN:∀a b,LH a b=true->a=b:=by
 refine Ex.ind λv ih b h=>?_;obtain⟨k,n,no,s,l⟩:=v;obtain⟨k',n',VM,s',m⟩:=b;have ih:∀x∈l,∀b,LH x b=true->x=b:=ih;rw[LH] at h;simp only[aQ,decide_eq_true_eq] at h;obtain⟨h1,h2,h3,h4,h5,h6⟩:=h
 have key:∀(r t:List Ex),(∀x∈r,x∈l)->r.length=t.length->Ag r t=true->r=t:=by
  intro r
  induction r with
  |nil=>intro t _ hl _;cases t with|nil=>rfl|cons _ _=>simp at hl
  |cons x r S2=>
   intro t hm hl hs
   cases t with
   |nil=>simp at hl
   |cons y t=>
    rw[Ag,aQ] at hs;rw[ih x (hm x List.mem_cons_self) y hs.1,S2 t (λz hz=>hm z (List.mem_cons_of_mem _ hz)) (by simpa using hl) hs.2]
 have h1:k=k':=h1;have h2:n=n':=h2;have h3:no=VM:=h3;have h4:s=s':=h4;have h5:l=m:=key l m (λ_ h=>h) h5 h6;rw[h1,h2,h3,h4,h5]
theorem xi:∀a,∀b,iT a<=1000->aa af 178 [eW a,eW b] (.bool (LH a b)):=by
 refine Ex.ind λv ih b ht=>?_;obtain⟨k,n,no,s,l⟩:=v;obtain⟨k',n',VM,s',m⟩:=b;have ih:∀x∈l,∀b,iT x<=1000->aa af 178 [eW x,eW b] (.bool (LH x b)):=ih;show aa af 178 [.agg [eI k,eI n,eI no,.str s,.sl 5 false (l.map eX)],.agg [eI k',eI n',eI VM,.str s',.sl 5 false (m.map eX)]] _;rw[iT] at ht;have A0:=lI l;(have e:LH (.mk k n no s l) (.mk k' n' VM s' m)=(decide (k=k')&&(decide (n=n')&&(decide (no=VM)&&(decide (s=s')&&(decide (l.length=m.length)&&Ag l m))))):=by rw[LH];rfl);rw[e];by_cases hh:k=k'/\n=n'/\no=VM/\s=s'/\l.length=m.length
 · obtain⟨rfl,rfl,rfl,rfl,VN⟩:=hh
   simp only[decide_true,dZ,VN];(have Bl:((l.map eX).length:Int)=((m.map eX).length:Int):=by simp[VN]);obtain⟨R,hR⟩:∃R,R=Ag l m:=⟨_,rfl⟩;rw[<-hR];refine aa.e Tryz.func178 60 [.tmp 4] PL ?_
   repeat' (first|exact fg|(refine stx ?_;first|exact bW _|refine aE ?_)|((fail_if_success refine ft ?_);(conv=>whnf)<;>(first|exact fh|refine Br.dec (λhc=>absurd rfl hc) (λhc=>?_)|refine Br.dec (λhc=>absurd Bl hc) (λhc=>?_)|refine str ?_|refine Br.dec (λhc=>?_) λhc=>?_|refine Br.mk (λhc=>?_) λhc=>?_|exact PV.ao|refine PV.ai ?_ ?_|refine ae ?_ ?_|refine aD λx hx=>?_|refine aE ?_|refine bX (λhn=>?_) ?_|exact fv|refine bS λaZ=>?_|refine al ?_ ?_|refine fu ?_|fail)))<;>(try exact fi)
   refine bY.bK (α:={i:Nat // i<=l.length/\Ag (l.drop i) (m.drop i)=R}) mixed PL (λi=>[(5,.p (eI i.1))]) (λi=>l.length-i.1) ⟨0,by omega,hR.symm⟩ ?_ ?_
   · exact aG trivial
   rintro⟨i,hi,hq⟩;have hi:i<=l.length:=hi;have hq:Ag (l.drop i) (m.drop i)=R:=hq
   cases aS:l[i]? with
   |none=>
    have dD:l.length<=i:=bw.1 aS;(have bV:¬((i:Int)<((l.map eX).length:Int)):=by rw[ak];omega);rw[lz dD,show ∀t,Ag [] t=true from λt=>by cases t<;>rfl] at hq;refine bM (kN bV) (λhc=>?_);exact aP.bool hq
   |some x=>
    have aC:i<l.length:=(aq.1 aS).1;(have ay:((i:Int)<((l.map eX).length:Int)):=by rw[ak];omega);obtain⟨y,Dl⟩:∃y,m[i]? =some y:=⟨_,aV (by omega)⟩;have ku:=aO aS;have S0:=lH ku;have q1:=ih x ku y (by omega);rw[pB aS,pB Dl,Ag] at hq
    cases hf:LH x y with
    |true=>
     rw[hf] at q1 hq;rw[dZ] at hq;refine oa (kY ay) (kX (kb aS)) (kX (kb Dl)) q1 (λhc=>?_);refine⟨⟨i+1,aC,hq⟩,by show l.length-(i+1)<l.length-i;omega,?_⟩;exact aG trivial
    |false=>
     rw[hf] at q1 hq;rw[ji] at hq;refine oa (kY ay) (kX (kb aS)) (kX (kb Dl)) q1 (λhc=>?_);exact aP.bool hq
 · have e:(decide (k=k')&&(decide (n=n')&&(decide (no=VM)&&(decide (s=s')&&(decide (l.length=m.length)&&Ag l m)))))=false:=by
    rw[Bool.eq_false_iff];intro h;simp only[aQ,decide_eq_true_eq] at h;exact hh ⟨h.1,h.2.1,h.2.2.1,h.2.2.2.1,h.2.2.2.2.1⟩
   rw[e];refine aa.e Tryz.func178 60 [.tmp 4] PL ?_;refine cb (λhc hc hc hc hc=>?_)
   all_goals(exfalso;simp only[ak,ne_eq,Decidable.not_not] at *;exact hh ⟨by assumption,by assumption,by assumption,by assumption,by omega⟩)
def jN:List ByteArray->List ByteArray->Bool
 |x::r,y::t=>decide (x=y)&&jN r t
 |[],[]=>true
 |_,_=>false
theorem P':∀a b,jN a b=true->a=b
 |[],[],_=>rfl
 |x::r,y::t,h=>by
  rw[jN,aQ,decide_eq_true_eq] at h;rw[h.1,P' r t h.2]
 |[],_::_,h=>by simp[jN] at h
 |_::_,[],h=>by simp[jN] at h
theorem S3:∀a b,jN a b=true->a.length=b.length:=λa b h=>by rw[P' a b h]
theorem xj(a b:List ByteArray)(ha:a.length<1000000):aa af 177 [gV a,gV b] (.bool (jN a b)):=by
 by_cases VN:a.length=b.length
 · have Bl:((a.map eS).length:Int)=((b.map eS).length:Int):=by simp[VN]
   obtain⟨R,hR⟩:∃R,R=jN a b:=⟨_,rfl⟩;rw[<-hR];refine aa.e Tryz.func177 26 [.tmp 4] PK ?_
   repeat' (first|exact fg|(refine stx ?_;first|exact bW _|refine aE ?_)|((fail_if_success refine ft ?_);(conv=>whnf)<;>(first|exact fh|refine Br.dec (λhc=>absurd Bl hc) (λhc=>?_)|refine str ?_|refine Br.dec (λhc=>?_) λhc=>?_|refine Br.mk (λhc=>?_) λhc=>?_|exact PV.ao|refine PV.ai ?_ ?_|refine ae ?_ ?_|refine aD λx hx=>?_|refine aE ?_|refine bX (λhn=>?_) ?_|exact fv|refine bS λaZ=>?_|refine al ?_ ?_|refine fu ?_|fail)))<;>(try exact fi)
   refine bY.bK (α:={i:Nat // i<=a.length/\jN (a.drop i) (b.drop i)=R}) mixed PK (λi=>[(5,.p (eI i.1))]) (λi=>a.length-i.1) ⟨0,by omega,hR.symm⟩ ?_ ?_
   · exact aG trivial
   rintro⟨i,hi,hq⟩;have hi:i<=a.length:=hi;have hq:jN (a.drop i) (b.drop i)=R:=hq
   cases aS:a[i]? with
   |none=>
    have dD:a.length<=i:=bw.1 aS;(have bV:¬((i:Int)<((a.map eS).length:Int)):=by rw[ak];omega);rw[lz dD,lz (by omega),show jN [] []=true from rfl] at hq;refine bM (kN bV) (λhc=>?_);exact aP.bool hq
   |some x=>
    have aC:i<a.length:=(aq.1 aS).1;(have ay:((i:Int)<((a.map eS).length:Int)):=by rw[ak];omega);obtain⟨y,Dl⟩:∃y,b[i]? =some y:=⟨_,aV (by omega)⟩;rw[pB aS,pB Dl,jN] at hq;by_cases hf:x=y
    · have hnf:¬ x≠y:=λh=>h hf
      rw[decide_eq_true hf,dZ] at hq
      repeat' (first|exact fg|(refine stx ?_;first|exact bW _|refine aE ?_)|((fail_if_success refine ft ?_);(conv=>whnf)<;>(first|exact fh|refine np ay λhc=>?_|refine Br.dec (λhc=>absurd hf hc) (λhc=>?_)|refine P8 aS ?_|refine P8 Dl ?_|refine str ?_|refine Br.dec (λhc=>?_) λhc=>?_|refine Br.mk (λhc=>?_) λhc=>?_|exact PV.ao|refine PV.ai ?_ ?_|refine ae ?_ ?_|refine aD λx hx=>?_|refine aE ?_|refine bX (λhn=>?_) ?_|exact fv|refine bS λaZ=>?_|refine al ?_ ?_|refine fu ?_|fail)))<;>(try exact fi)
      refine⟨⟨i+1,aC,hq⟩,by show a.length-(i+1)<a.length-i;omega,?_⟩;exact aG trivial
    · rw[decide_eq_false hf,ji] at hq
      refine oa (kY ay) (kY hf) (kX aS) (kX Dl) (λhc hc=>?_);exact aP.bool hq
 · have e:jN a b=false:=by
    rw[Bool.eq_false_iff];intro h;exact VN (S3 a b h)
   rw[e];(have Bl:((a.map eS).length:Int)≠((b.map eS).length:Int):=by rw[ak,ak];omega);refine aa.e Tryz.func177 26 [.tmp 4] PK ?_;exact bM (kY Bl) trivial
structure Ru where
 kind:ByteArray
 no:Int
 l6:Int
 ex:Ex
structure Po where
 name:ByteArray
 kinds:List ByteArray
 cx:List ByteArray
 rules:List Ru
 wc:Ex
 mode:Int
structure Vr where
 no:Int
 tm:Int
 known:Int
 lU:Po
def cX(x:Ex):List PV:=[eI x.k,eI x.n,eI x.no,.str x.nm,.sl 5 false (x.l.map eX)]
def ns(r:Ru):PV:= .agg [.str r.kind,eI r.no,eI r.l6,eI r.ex.k,eI r.ex.n,eI r.ex.no,.str r.ex.nm,.sl 5 false (r.ex.l.map eX)]
def tM(p:Po):PV:= .agg [.str p.name,gV p.kinds,gV p.cx,.sl 8 false (p.rules.map ns),eI p.wc.k,eI p.wc.n,eI p.wc.no,.str p.wc.nm,.sl 5 false (p.wc.l.map eX),eI p.mode]
def lv(v:Vr):PV:= .agg [eI v.no,eI v.tm,eI v.known,.str v.lU.name,gV v.lU.kinds,gV v.lU.cx,.sl 8 false (v.lU.rules.map ns),eI v.lU.wc.k,eI v.lU.wc.n,eI v.lU.wc.no,.str v.lU.wc.nm,.sl 5 false (v.lU.wc.l.map eX),eI v.lU.mode]
def BJ(l:List Vr):PV:= .sl 13 false (l.map lv)
structure oL(p:Po):Prop where
 k:p.kinds.length<=20
 o:p.cx.length<=40
 r:p.rules.length<=20
 c:iT p.wc<=40
 e:∀r∈p.rules,iT r.ex<=40
def BK(l:List ByteArray)(x:ByteArray×Nat):Bool:=uU x.1&&decide (xf l x.1=x.2)
def Eu(l:List ByteArray):Bool:=l.zipIdx.all (BK l)
theorem nf{α:Type}{l:List α}{i:Nat}{x:α}(h:l[i]? =some x):l.zipIdx[i]? =some (x,i):=by
 rw[List.getElem?_zipIdx,h];simp
theorem p6(l:List ByteArray)(hl:l.length<1000000):aa af 224 [gV l] (.bool (Eu l)):=by
 unfold Eu;obtain⟨R,hR⟩:∃R,R=l.zipIdx.all (BK l):=⟨_,rfl⟩;rw[<-hR];refine aa.e Tryz.func224 26 [.tmp 2] [0,2,3,7,25] ?_;refine cb ?_;refine bY.bK (α:={i:Nat // i<=l.length/\(l.zipIdx.take i).all (BK l)=true}) mixed [0,2,3,7,25] (λi=>[(3,.p (eI i.1))]) (λi=>l.length-i.1) ⟨0,by omega,rfl⟩ ?_ ?_
 · exact aG trivial
 rintro⟨i,hi,hq⟩;have hi:i<=l.length:=hi;have hq:(l.zipIdx.take i).all (BK l)=true:=hq
 cases aS:l[i]? with
 |none=>
  have dD:l.length<=i:=bw.1 aS;(have bV:¬((i:Int)<((l.map eS).length:Int)):=by rw[ak];omega);rw[bN (by simp;omega)] at hq;refine bM (kN bV) (λhc=>?_);exact aP.bool (hq.symm.trans hR.symm)
 |some x=>
  have aC:i<l.length:=(aq.1 aS).1;(have ay:((i:Int)<((l.map eS).length:Int)):=by rw[ak];omega);have ku:=aO aS;have q1:=xa x;have q2:=pD l x hl;have hz:=nf aS
  cases h1:uU x with
  |false=>
   rw[h1] at q1;refine gg (kY ay) (kX aS) q1 (λhc=>?_);exact aP.bool ((iU (p:=BK l) hz (by simp[BK,h1])).symm.trans hR.symm)
  |true=>
   rw[h1] at q1;by_cases h2:xf l x=i
   · repeat' (first|exact fg|(refine stx ?_;first|exact bW _|refine aE ?_)|(refine kq ?_;first|refine fR q1 ?_|refine fR q2 ?_)|((fail_if_success refine ft ?_);(conv=>whnf)<;>(first|exact fh|refine np ay λhc=>?_|refine Br.dec (λhc=>absurd h2 hc) (λhc=>?_)|refine P8 aS ?_|refine str ?_|refine Br.dec (λhc=>?_) λhc=>?_|refine Br.mk (λhc=>?_) λhc=>?_|exact PV.ao|refine PV.ai ?_ ?_|refine ae ?_ ?_|refine aD λx hx=>?_|refine aE ?_|refine bX (λhn=>?_) ?_|exact fv|refine bS λaZ=>?_|refine al ?_ ?_|refine fu ?_|fail)))<;>(try exact fi)
     refine⟨⟨i+1,aC,cE hz hq (by simp[BK,h1,h2])⟩,by show l.length-(i+1)<l.length-i;omega,?_⟩;exact aG trivial
   · refine Rh (kY ay) (kY h2) (kX aS) q1 q2 (λhc hc=>?_)
     exact aP.bool ((iU (p:=BK l) hz (by simp[BK,h1,h2])).symm.trans hR.symm)
def Ro(r:Ru):Bool:= !decide (16<(xN r.ex:Int))
def Rp(p:Po):Bool:=decide (p.cx.length<=32)&&(decide (p.kinds.length<=16)&&(decide (p.rules.length<=16)&&(!decide (16<(xN p.wc:Int))&&p.rules.all Ro)))
theorem Ah(p:Po)(hp:oL p):aa af 173 [tM p] (.bool (!Rp p)):=by
 obtain⟨nm,ks,os,rs,ch,md⟩:=p;have h1:ks.length<=20:=hp.k;have h2:os.length<=40:=hp.o;have h3:rs.length<=20:=hp.r;have he:∀r∈rs,iT r.ex<=40:=hp.e;have q0:=xe ch (by have:iT ch<=40:=hp.c;omega);show aa af 173 [.agg [.str nm,gV ks,gV os,.sl 8 false (rs.map ns),eI ch.k,eI ch.n,eI ch.no,.str ch.nm,.sl 5 false (ch.l.map eX),eI md]] _;have e:Rp ⟨nm,ks,os,rs,ch,md⟩=(decide (os.length<=32)&&(decide (ks.length<=16)&&(decide (rs.length<=16)&&(!decide (16<(xN ch:Int))&&rs.all Ro)))):=rfl;rw[e];by_cases hh:os.length<=32/\ks.length<=16/\rs.length<=16/\ ¬ 16<(xN ch:Int)
 · obtain⟨g1,g2,g3,g4⟩:=hh
   rw[decide_eq_true g1,decide_eq_true g2,decide_eq_true g3];rw[decide_eq_false g4] at q0 ⊢;simp only[dZ,Bool.not_false];obtain⟨R,hR⟩:∃R,R= !rs.all Ro:=⟨_,rfl⟩;rw[<-hR];refine aa.e Tryz.func173 39 [.tmp 2] Ll ?_;refine bM q0 (ae (λhc=>?_) λhc=>ae (λhc=>?_) λhc=>ae (λhc=>?_) λhc=>?_)
   all_goals first|(exfalso;simp only[ak] at *;omega)|skip
   refine bY.bK (α:={i:Nat // i<=rs.length/\(rs.take i).all Ro=true}) mixed Ll (λi=>[(3,.p (eI i.1))]) (λi=>rs.length-i.1) ⟨0,by omega,rfl⟩ ?_ ?_
   · exact aG trivial
   rintro⟨i,hi,hq⟩;have hi:i<=rs.length:=hi;have hq:(rs.take i).all Ro=true:=hq
   cases aS:rs[i]? with
   |none=>
    have dD:rs.length<=i:=bw.1 aS;(have bV:¬((i:Int)<((rs.map ns).length:Int)):=by rw[ak];omega);rw[bN dD] at hq;refine bM (kN bV) (λhc=>?_);exact aP.bool (by rw[hR,hq];rfl)
   |some x=>
    have aC:i<rs.length:=(aq.1 aS).1;(have ay:((i:Int)<((rs.map ns).length:Int)):=by rw[ak];omega);have ku:=aO aS;have q1:=xe x.ex (by have:=he x ku;omega);(have Bl:decide (16<(xN x.ex:Int))= !Ro x:=by simp[Ro]);rw[Bl] at q1
    cases hf:Ro x with
    |true=>
     rw[hf] at q1;refine gg (kY ay) (kX aS) q1 (λhc=>?_);refine⟨⟨i+1,aC,cE aS hq hf⟩,by show rs.length-(i+1)<rs.length-i;omega,?_⟩;exact aG trivial
    |false=>
     rw[hf] at q1
     skip
     refine gg (kY ay) (kX aS) q1 (λhc=>?_);exact aP.bool (by rw[hR,iU aS hf];rfl)
 · obtain⟨R,hR⟩:∃R,R=decide (16<(xN ch:Int)):=⟨_,rfl⟩
   have e:(decide (os.length<=32)&&(decide (ks.length<=16)&&(decide (rs.length<=16)&&(!decide (16<(xN ch:Int))&&rs.all Ro))))=false:=by
    rw[Bool.eq_false_iff];intro h;simp only[aQ,decide_eq_true_eq,Bool.not_eq_true',decide_eq_false_iff_not] at h;exact hh ⟨h.1,h.2.1,h.2.2.1,h.2.2.2.1⟩
   rw[e];rw[<-hR] at q0
   cases R with
   |true=>
    refine aa.e Tryz.func173 39 [.tmp 2] Ll ?_;exact bM q0 trivial
   |false=>
    have hd:¬ 16<(xN ch:Int):=of_decide_eq_false hR.symm;refine aa.e Tryz.func173 39 [.tmp 2] Ll ?_;refine bM q0 (λhc hc hc=>?_)
    all_goals(exfalso;simp only[ak] at *;exact hh ⟨by omega,by omega,by omega,hd⟩)
def VO(o:List ByteArray)(r:Ru):Bool:=A9 o r.ex
def Ev(p:Po):Bool:=uU p.name&&(Eu p.cx&&(Eu p.kinds&&(p.rules.all (VO p.cx)&&A9 p.cx p.wc)))
theorem Ew(p:Po)(hp:oL p):aa af 174 [tM p] (.bool (Ev p)):=by
 obtain⟨nm,ks,os,rs,ch,md⟩:=p;have h1:ks.length<=20:=hp.k;have h2:os.length<=40:=hp.o;have h3:rs.length<=20:=hp.r;have he:∀r∈rs,iT r.ex<=40:=hp.e;have q0:=xa nm;have q2:=p6 os (by omega);have q3:=p6 ks (by omega);have q4:=xh os (by omega) ch (by have:iT ch<=40:=hp.c;omega);show aa af 174 [.agg [.str nm,gV ks,gV os,.sl 8 false (rs.map ns),eI ch.k,eI ch.n,eI ch.no,.str ch.nm,.sl 5 false (ch.l.map eX),eI md]] (.bool (uU nm&&(Eu os&&(Eu ks&&(rs.all (VO os)&&A9 os ch)))));obtain⟨R,hR⟩:∃R,R=(rs.all (VO os)&&A9 os ch):=⟨_,rfl⟩;rw[<-hR];cases e1:uU nm<;>rw[e1] at q0
 · refine aa.e Tryz.func174 42 [.tmp 2] Hc ?_
   exact bM q0 trivial
 cases e2:Eu os<;>rw[e2] at q2
 · refine aa.e Tryz.func174 42 [.tmp 2] Hc ?_
   exact gG q0 q2 trivial
 cases e3:Eu ks<;>rw[e3] at q3
 · refine aa.e Tryz.func174 42 [.tmp 2] Hc ?_
   exact gg q0 q2 (q3) trivial
 simp only[dZ];refine aa.e Tryz.func174 42 [.tmp 2] Hc ?_;refine gg q0 q2 q3 ?_;refine bY.bK (α:={i:Nat // i<=rs.length/\(rs.take i).all (VO os)=true}) mixed Hc (λi=>[(3,.p (eI i.1))]) (λi=>rs.length-i.1) ⟨0,by omega,rfl⟩ ?_ ?_
 · exact aG trivial
 rintro⟨i,hi,hq⟩;have hi:i<=rs.length:=hi;have hq:(rs.take i).all (VO os)=true:=hq
 cases aS:rs[i]? with
 |none=>
  have dD:rs.length<=i:=bw.1 aS;(have bV:¬((i:Int)<((rs.map ns).length:Int)):=by rw[ak];omega);rw[bN dD] at hq;refine gG (kN bV) q4 (λhc=>?_);exact aP.bool (by rw[hR,hq];rfl)
 |some x=>
  have aC:i<rs.length:=(aq.1 aS).1;(have ay:((i:Int)<((rs.map ns).length:Int)):=by rw[ak];omega);have ku:=aO aS;have q1:=xh os (by omega) x.ex (by have:=he x ku;omega);have Bl:A9 os x.ex=VO os x:=rfl;rw[Bl] at q1
  cases hf:VO os x with
  |true=>
   rw[hf] at q1;refine gg (kY ay) (kX aS) q1 (λhc=>?_);refine⟨⟨i+1,aC,cE aS hq hf⟩,by show rs.length-(i+1)<rs.length-i;omega,?_⟩;exact aG trivial
  |false=>
   rw[hf] at q1
   skip
   refine gg (kY ay) (kX aS) q1 (λhc=>?_);exact aP.bool (by rw[hR,iU aS hf];rfl)
def we(ks:List ByteArray)(x:Ru×Nat):Bool:=decide (ks[x.2]? =some x.1.kind)&&(decide (0<=x.1.l6)&&(decide (x.1.l6<1099511627776)&&Dk true x.1.ex))
def LI(p:Po):Bool:=decide (1<=p.kinds.length)&&(decide (p.rules.length=p.kinds.length)&&(decide (1<=p.mode)&&(decide (p.mode<=4)&&(p.rules.zipIdx.all (we p.kinds)&&Dk false p.wc))))
theorem BL(p:Po)(hp:oL p):aa af 175 [tM p] (.bool (LI p)):=by
 obtain⟨nm,ks,os,rs,ch,md⟩:=p;have h1:ks.length<=20:=hp.k;have h2:os.length<=40:=hp.o;have h3:rs.length<=20:=hp.r;have he:∀r∈rs,iT r.ex<=40:=hp.e;have q4:=sU false ch (by have:iT ch<=40:=hp.c;omega);show aa af 175 [.agg [.str nm,gV ks,gV os,.sl 8 false (rs.map ns),eI ch.k,eI ch.n,eI ch.no,.str ch.nm,.sl 5 false (ch.l.map eX),eI md]] (.bool (decide (1<=ks.length)&&(decide (rs.length=ks.length)&&(decide (1<=md)&&(decide (md<=4)&&(rs.zipIdx.all (we ks)&&Dk false ch))))));by_cases hh:1<=ks.length/\rs.length=ks.length/\1<=md/\md<=4
 · obtain⟨g1,g2,g3,g4⟩:=hh
   rw[decide_eq_true g1,decide_eq_true g2,decide_eq_true g3,decide_eq_true g4];simp only[dZ];obtain⟨R,hR⟩:∃R,R=(rs.zipIdx.all (we ks)&&Dk false ch):=⟨_,rfl⟩;rw[<-hR];refine aa.e Tryz.func175 67 [.tmp 2] PJ ?_;refine cb (ae (λhc=>?_) λhc=>ae (λhc=>?_) λhc hc hc=>?_)
   all_goals first|(exfalso;simp only[ak] at *;omega)|skip
   refine bY.bK (α:={i:Nat // i<=rs.length/\(rs.zipIdx.take i).all (we ks)=true}) mixed PJ (λi=>[(3,.p (eI i.1))]) (λi=>rs.length-i.1) ⟨0,by omega,rfl⟩ ?_ ?_
   · exact aG trivial
   rintro⟨i,hi,hq⟩;have hi:i<=rs.length:=hi;have hq:(rs.zipIdx.take i).all (we ks)=true:=hq
   cases aS:rs[i]? with
   |none=>
    have dD:rs.length<=i:=bw.1 aS;(have bV:¬((i:Int)<((rs.map ns).length:Int)):=by rw[ak];omega);rw[bN (by simp;omega)] at hq;refine gG (kN bV) q4 (λhc=>?_);exact aP.bool (by rw[hR,hq];rfl)
   |some x=>
    have aC:i<rs.length:=(aq.1 aS).1;(have ay:((i:Int)<((rs.map ns).length:Int)):=by rw[ak];omega);have ku:=aO aS;have q1:=sU true x.ex (by have:=he x ku;omega);have hz:=nf aS;obtain⟨y,Dl⟩:∃y,ks[i]? =some y:=⟨_,aV (by omega)⟩
    cases hf:we ks (x,i) with
    |true=>
     have hf2:=hf;simp only[we,aQ,decide_eq_true_eq,Dl,Option.some.injEq] at hf2;obtain⟨f1,f2,f3,f4⟩:=hf2;rw[f4] at q1;have f1':x.kind=y:=f1.symm;(have f2':¬ x.l6<0:=by omega);have f3':¬ 1099511627776<=x.l6:=by omega
     repeat' (first|exact fg|(refine stx ?_;first|exact bW _|refine aE ?_)|(refine kq ?_;first|refine fR q1 ?_)|((fail_if_success refine ft ?_);(conv=>whnf)<;>(first|exact fh|refine np ay λhc=>?_|refine Br.dec (λhc=>absurd f1' hc) (λhc=>?_)|refine vZ f2' λhc=>?_|refine vZ f3' λhc=>?_|refine dR aS ?_|refine P8 Dl ?_|refine str ?_|refine Br.dec (λhc=>?_) λhc=>?_|refine Br.mk (λhc=>?_) λhc=>?_|exact PV.ao|refine PV.ai ?_ ?_|refine ae ?_ ?_|refine aD λx hx=>?_|refine aE ?_|refine bX (λhn=>?_) ?_|exact fv|refine bS λaZ=>?_|refine al ?_ ?_|refine fu ?_|fail)))<;>(try exact fi)
     refine⟨⟨i+1,aC,cE hz hq hf⟩,by show rs.length-(i+1)<rs.length-i;omega,?_⟩;exact aG trivial
    |false=>
     (have hr:R=false:=by rw[hR,iU hz hf];rfl);obtain⟨u,hu⟩:∃u,u=Dk true x.ex:=⟨_,rfl⟩;rw[<-hu] at q1;subst hr
     cases u with
     |false=>
      exact oa (kY ay) (kX aS) (kX Dl) q1 trivial
     |true=>
      refine oa (kY ay) (kX aS) (kX Dl) q1 (λhc hc hc hc=>?_)
      all_goals(exfalso;simp[we,Dl,<-hu] at hf;simp only[ne_eq,Decidable.not_not] at *;have hk:x.kind=y:=by assumption
                have:=hf hk.symm;omega)
 · have e:(decide (1<=ks.length)&&(decide (rs.length=ks.length)&&(decide (1<=md)&&(decide (md<=4)&&(rs.zipIdx.all (we ks)&&Dk false ch)))))=false:=by
    rw[Bool.eq_false_iff];intro h;simp only[aQ,decide_eq_true_eq] at h;exact hh ⟨h.1,h.2.1,h.2.2.1,h.2.2.2.1⟩
   rw[e];refine aa.e Tryz.func175 67 [.tmp 2] PJ ?_;refine cb (λhc hc hc hc=>?_)
   all_goals(exfalso;simp only[ak,ne_eq,Decidable.not_not] at *;exact hh ⟨by omega,by omega,by omega,by omega⟩)
def YP(o:List ByteArray)(x:Ru×Nat):Ru:=⟨x.1.kind,x.2,x.1.l6,lT o x.1.ex⟩
def WV(p:Po):Po:=⟨p.name,p.kinds,p.cx,p.rules.zipIdx.map (YP p.cx),lT p.cx p.wc,p.mode⟩
def noP:PV:= .agg [.str ⟨#[]⟩,.sl 0 true [],.sl 0 true [],.sl 0 true [],eI 0,eI 0,eI 0,.str ⟨#[]⟩,.sl 0 true [],eI 0]
def Ht(p:Po):Int:=if Rp p then(if Ev p then(if LI p then 0 else 200) else 201) else 2
def sw(o:List ByteArray)(x:Ru×Nat):PV:=ns (YP o x)
theorem Ai(p:Po)(hp:oL p):aa af 129 [tM p] (.bR [if Ht p=0 then tM (WV p) else noP,eI (Ht p)]):=by
 have qa:=Ah p hp;have qb:=Ew p hp;have qc:=BL p hp;unfold Ht;obtain⟨nm,ks,os,rs,ch,md⟩:=p;have h1:ks.length<=20:=hp.k;have h2:os.length<=40:=hp.o;have h3:rs.length<=20:=hp.r;have he:∀r∈rs,iT r.ex<=40:=hp.e;have q4:=p5 os (by omega) ch (by have:iT ch<=40:=hp.c;omega);have hs:tM (Po.mk nm ks os rs ch md)= .agg [.str nm,gV ks,gV os,.sl 8 false (rs.map ns),eI ch.k,eI ch.n,eI ch.no,.str ch.nm,.sl 5 false (ch.l.map eX),eI md]:=rfl;rw[hs] at qa qb qc ⊢
 cases e1:Rp (Po.mk nm ks os rs ch md) with
 |false=>
  rw[e1] at qa;refine aa.e Tryz.func129 53 [.cell 2 133,.tmp 3] zU ?_;exact bM qa trivial
  all_goals exact Ha trivial
 |true=>
  rw[e1] at qa
  cases e2:Ev (Po.mk nm ks os rs ch md) with
  |false=>
   rw[e2] at qb;refine aa.e Tryz.func129 53 [.cell 2 133,.tmp 3] zU ?_;exact gG qa qb trivial
   all_goals exact Ha trivial
  |true=>
   rw[e2] at qb
   cases e3:LI (Po.mk nm ks os rs ch md) with
   |false=>
    rw[e3] at qc;refine aa.e Tryz.func129 53 [.cell 2 133,.tmp 3] zU ?_;exact gg qa qb qc trivial
    all_goals exact Ha trivial
   |true=>
    rw[e3] at qc;refine aa.e Tryz.func129 53 [.cell 2 133,.tmp 3] zU ?_;refine gg qa qb qc ?_;refine bY.bq (α:={i:Nat // i<=rs.length}) mixed zU (λi=>[(5,.p (eI i.1))]) (λi=>(768,.cells [.p (.str nm),.p (gV ks),.p (gV os),oV 1 8 ((rs.zipIdx.take i.1).map (sw os)),.p (eI ch.k),.p (eI ch.n),.p (eI ch.no),.p (.str ch.nm),.p (.sl 5 false (ch.l.map eX)),.p (eI md)])::oH 1 8 ((rs.zipIdx.take i.1).map (sw os))) (λ_=>0) (λi=>rs.length-i.1) ⟨0,by omega⟩ ?_ ?_
    · exact aG trivial
    rintro⟨i,hi⟩;have hi:i<=rs.length:=hi;show ya [(5,_)] _ _ λe=>x9 ((768,.cells [.p (.str nm),.p (gV ks),.p (gV os),oV 1 8 ((rs.zipIdx.take i).map (sw os)),.p (eI ch.k),.p (eI ch.n),.p (eI ch.no),.p (.str ch.nm),.p (.sl 5 false (ch.l.map eX)),.p (eI md)])::oH 1 8 ((rs.zipIdx.take i).map (sw os))) _ [] λh=>_;have kl:((rs.zipIdx.take i).map (sw os)).length<1000000:=by rw[ak,List.length_take];omega
    cases aS:rs[i]? with
    |none=>
     have dD:rs.length<=i:=bw.1 aS;(have bV:¬((i:Int)<((rs.map ns).length:Int)):=by rw[ak];omega);rw[bN (by simp;omega)] at kl ⊢
     have GV:tM (WV (Po.mk nm ks os rs ch md))= .agg [.str nm,gV ks,gV os,.sl 8 false (rs.zipIdx.map (sw os)),eI (lT os ch).k,eI (lT os ch).n,eI (lT os ch).no,.str (lT os ch).nm,.sl 5 false ((lT os ch).l.map eX),eI md]:=by
      show PV.agg [_,_,_,.sl 8 false ((rs.zipIdx.map (YP os)).map ns),_,_,_,_,_,_]=_;rw[il];rfl
     show _;simp only[if_true];rw[GV]
     cases hG:rs.zipIdx.map (sw os) with
     |nil=>
      refine gG (kN bV) q4 (λhc=>?_)
      all_goals exact Ha trivial
     |cons g gr=>
      rw[hG] at kl;have kl:gr.length+1<1000000:=kl;refine gG (kN bV) q4 (λhc=>?_)
      all_goals refine Ha ?_
      all_goals(rw[List.drop_zero,bN (by simp)])
    |some x=>
     have aC:i<rs.length:=(aq.1 aS).1;(have ay:((i:Int)<((rs.map ns).length:Int)):=by rw[ak];omega);have ku:=aO aS;have q1:=p5 os (by omega) x.ex (by have:=he x ku;omega);have BI:(rs.zipIdx.take (i+1)).map (sw os)=(rs.zipIdx.take i).map (sw os)++[sw os (x,i)]:=by rw[List.take_add_one,nf aS];simp
     cases hG:(rs.zipIdx.take i).map (sw os) with
     |nil=>
      refine gg (kY ay) (kX aS) q1 (λhc aZ=>?_);refine⟨⟨i+1,aC⟩,by show rs.length-(i+1)<rs.length-i;omega,?_⟩;show di _ _ (kj zU _ _ _ [(5,.p (eI ((i+1:Nat):Int)))] ((768,.cells [.p (.str nm),.p (gV ks),.p (gV os),oV 1 8 ((rs.zipIdx.take (i+1)).map (sw os)),.p (eI ch.k),.p (eI ch.n),.p (eI ch.no),.p (.str ch.nm),.p (.sl 5 false (ch.l.map eX)),.p (eI md)])::oH 1 8 ((rs.zipIdx.take (i+1)).map (sw os))) _);rw[BI,hG];exact aG trivial
     |cons g gr=>
      rw[hG] at kl;have kl:gr.length+1<1000000:=kl;refine gg (kY ay) (kX aS) q1 (λhc=>?_);refine⟨⟨i+1,aC⟩,by show rs.length-(i+1)<rs.length-i;omega,?_⟩;show di _ _ (kj zU _ _ _ [(5,.p (eI ((i+1:Nat):Int)))] ((768,.cells [.p (.str nm),.p (gV ks),.p (gV os),oV 1 8 ((rs.zipIdx.take (i+1)).map (sw os)),.p (eI ch.k),.p (eI ch.n),.p (eI ch.no),.p (.str ch.nm),.p (.sl 5 false (ch.l.map eX)),.p (eI md)])::oH 1 8 ((rs.zipIdx.take (i+1)).map (sw os))) _);rw[BI,hG];exact aG trivial
theorem Hu:∀a,jN a a=true
 |[]=>rfl
 |x::r=>by rw[jN,Hu r];simp
mutual
theorem Ey(o:List ByteArray):∀x,iT (lT o x)=iT x
 |.mk k n no s l=>by rw[lT,iT,iT,Hv o l]
theorem Hv(o:List ByteArray):∀l,fw (Hs o l)=fw l
 |[]=>rfl
 |x::r=>by rw[Hs,fw,fw,Ey o x,Hv o r]
end
def Oh(o:List ByteArray)(x:Ru×Nat):Bool:=decide ((x.2:Int)=x.1.no)&&LH (lT o x.1.ex) x.1.ex
def VP(p:Po):Bool:=LH (lT p.cx p.wc) p.wc&&p.rules.zipIdx.all (Oh p.cx)
theorem S4(nm:ByteArray)(ks os:List ByteArray)(rs:List Ru)(ch:Ex)(md:Int):tM (WV (Po.mk nm ks os rs ch md))= .agg [.str nm,gV ks,gV os,.sl 8 false (rs.zipIdx.map (sw os)),eI (lT os ch).k,eI (lT os ch).n,eI (lT os ch).no,.str (lT os ch).nm,.sl 5 false ((lT os ch).l.map eX),eI md]:=by
 show PV.agg [_,_,_,.sl 8 false ((rs.zipIdx.map (YP os)).map ns),_,_,_,_,_,_]=_;rw[il];rfl
theorem Hw(p:Po)(hp:oL p):aa af 130 [tM (WV p),tM p] (.bool (VP p)):=by
 obtain⟨nm,ks,os,rs,ch,md⟩:=p;have h1:ks.length<=20:=hp.k;have h2:os.length<=40:=hp.o;have h3:rs.length<=20:=hp.r;have he:∀r∈rs,iT r.ex<=40:=hp.e;have q1:=xj os os (by omega);have q2:=xj ks ks (by omega);rw[Hu] at q1 q2;have q3:=xi (lT os ch) ch (by rw[Ey];have:iT ch<=40:=hp.c;omega);rw[S4,show VP (Po.mk nm ks os rs ch md)=(LH (lT os ch) ch&&rs.zipIdx.all (Oh os)) from rfl];show aa af 130 [_,.agg [.str nm,gV ks,gV os,.sl 8 false (rs.map ns),eI ch.k,eI ch.n,eI ch.no,.str ch.nm,.sl 5 false (ch.l.map eX),eI md]] _;have Bl:((rs.zipIdx.map (sw os)).length:Int)=((rs.map ns).length:Int):=by simp
 cases e:LH (lT os ch) ch with
 |false=>
  rw[e] at q3;refine aa.e Tryz.func130 97 [.tmp 4] PG ?_
  repeat' (first|exact fg|(refine stx ?_;first|exact bW _|refine aE ?_)|(refine kq ?_;first|refine fR q1 ?_|refine fR q2 ?_|refine fR q3 ?_)|((fail_if_success refine ft ?_);(conv=>whnf)<;>(first|exact fh|refine Br.dec (λhc=>absurd rfl hc) (λhc=>?_)|refine Br.dec (λhc=>absurd Bl hc) (λhc=>?_)|refine str ?_|refine Br.dec (λhc=>?_) λhc=>?_|refine Br.mk (λhc=>?_) λhc=>?_|exact PV.ao|refine PV.ai ?_ ?_|refine ae ?_ ?_|refine aD λx hx=>?_|refine aE ?_|refine bX (λhn=>?_) ?_|exact fv|refine bS λaZ=>?_|refine al ?_ ?_|refine fu ?_|fail)))<;>(try exact fi)
 |true=>
  rw[e] at q3;simp only[dZ];obtain⟨R,hR⟩:∃R,R=rs.zipIdx.all (Oh os):=⟨_,rfl⟩;rw[<-hR];refine aa.e Tryz.func130 97 [.tmp 4] PG ?_
  repeat' (first|exact fg|(refine stx ?_;first|exact bW _|refine aE ?_)|(refine kq ?_;first|refine fR q1 ?_|refine fR q2 ?_|refine fR q3 ?_)|((fail_if_success refine ft ?_);(conv=>whnf)<;>(first|exact fh|refine Br.dec (λhc=>absurd rfl hc) (λhc=>?_)|refine Br.dec (λhc=>absurd Bl hc) (λhc=>?_)|refine str ?_|refine Br.dec (λhc=>?_) λhc=>?_|refine Br.mk (λhc=>?_) λhc=>?_|exact PV.ao|refine PV.ai ?_ ?_|refine ae ?_ ?_|refine aD λx hx=>?_|refine aE ?_|refine bX (λhn=>?_) ?_|exact fv|refine bS λaZ=>?_|refine al ?_ ?_|refine fu ?_|fail)))<;>(try exact fi)
  refine bY.bK (α:={i:Nat // i<=rs.zipIdx.length/\(rs.zipIdx.take i).all (Oh os)=true}) mixed PG (λi=>[(5,.p (eI i.1))]) (λi=>rs.zipIdx.length-i.1) ⟨0,by omega,rfl⟩ ?_ ?_
  · exact aG trivial
  rintro⟨i,hi,hq⟩;have hi:i<=rs.zipIdx.length:=hi;have hq:(rs.zipIdx.take i).all (Oh os)=true:=hq
  cases aS:rs.zipIdx[i]? with
  |none=>
   have dD:rs.zipIdx.length<=i:=bw.1 aS;(have bV:¬((i:Int)<((rs.zipIdx.map (sw os)).length:Int)):=by rw[ak];omega);rw[bN dD] at hq;refine bM (kN bV) (λhc=>?_);exact aP.bool (hq.symm.trans hR.symm)
  |some x=>
   have aC:i<rs.zipIdx.length:=(aq.1 aS).1;(have ay:((i:Int)<((rs.zipIdx.map (sw os)).length:Int)):=by rw[ak];omega);have ku:=aO aS;obtain⟨x,j⟩:=x
   have hj:j=i:=by rw[List.getElem?_zipIdx] at aS;cases h:rs[i]? with
    |none=>rw[h] at aS;simp at aS
    |some y=>rw[h] at aS;simp at aS;exact aS.2.symm
   subst hj;have Ce:rs.zipIdx.length<=20:=by simp;omega
   have Dl:rs[j]? =some x:=by rw[List.getElem?_zipIdx] at aS;cases h:rs[j]? with
    |none=>rw[h] at aS;simp at aS
    |some y=>rw[h] at aS;simp at aS;rw[aS]
   have q4:=xi (lT os x.ex) x.ex (by rw[Ey];have:=he x (aO Dl);omega);obtain⟨u,hu⟩:∃u,u=LH (lT os x.ex) x.ex:=⟨_,rfl⟩;rw[<-hu] at q4;by_cases hn:(j:Int)=x.no
   · cases u with
     |true=>
      repeat' (first|exact fg|(refine stx ?_;first|exact bW _|refine aE ?_)|(refine kq ?_;first|refine fR q4 ?_)|((fail_if_success refine ft ?_);(conv=>whnf)<;>(first|exact fh|refine np ay λhc=>?_|refine Br.dec (λhc=>absurd rfl hc) (λhc=>?_)|refine Br.dec (λhc=>absurd hn hc) (λhc=>?_)|refine dR aS ?_|refine dR Dl ?_|refine str ?_|refine Br.dec (λhc=>?_) λhc=>?_|refine Br.mk (λhc=>?_) λhc=>?_|exact PV.ao|refine PV.ai ?_ ?_|refine ae ?_ ?_|refine aD λx hx=>?_|refine aE ?_|refine bX (λhn=>?_) ?_|exact fv|refine bS λaZ=>?_|refine al ?_ ?_|refine fu ?_|fail)))<;>(try exact fi)
      refine⟨⟨j+1,aC,cE aS hq (by simp[Oh,hn,<-hu])⟩,by show rs.zipIdx.length-(j+1)<rs.zipIdx.length-j;omega,?_⟩;exact aG trivial
     |false=>
      repeat' (first|exact fg|(refine stx ?_;first|exact bW _|refine aE ?_)|(refine kq ?_;first|refine fR q4 ?_)|((fail_if_success refine ft ?_);(conv=>whnf)<;>(first|exact fh|refine np ay λhc=>?_|refine Br.dec (λhc=>absurd rfl hc) (λhc=>?_)|refine Br.dec (λhc=>absurd hn hc) (λhc=>?_)|refine dR aS ?_|refine dR Dl ?_|refine str ?_|refine Br.dec (λhc=>?_) λhc=>?_|refine Br.mk (λhc=>?_) λhc=>?_|exact PV.ao|refine PV.ai ?_ ?_|refine ae ?_ ?_|refine aD λx hx=>?_|refine aE ?_|refine bX (λhn=>?_) ?_|exact fv|refine bS λaZ=>?_|refine al ?_ ?_|refine fu ?_|fail)))<;>(try exact fi)
      exact aP.bool ((iU (p:=Oh os) aS (by simp[Oh,<-hu])).symm.trans hR.symm)
   · repeat' (first|exact fg|(refine stx ?_;first|exact bW _|refine aE ?_)|((fail_if_success refine ft ?_);(conv=>whnf)<;>(first|exact fh|refine np ay λhc=>?_|refine Br.dec (λhc=>absurd rfl hc) (λhc=>?_)|refine np hn λhc=>?_|refine dR aS ?_|refine dR Dl ?_|refine str ?_|refine Br.dec (λhc=>?_) λhc=>?_|refine Br.mk (λhc=>?_) λhc=>?_|exact PV.ao|refine PV.ai ?_ ?_|refine ae ?_ ?_|refine aD λx hx=>?_|refine aE ?_|refine bX (λhn=>?_) ?_|exact fv|refine bS λaZ=>?_|refine al ?_ ?_|refine fu ?_|fail)))<;>(try exact fi)
     exact aP.bool ((iU (p:=Oh os) aS (by simp[Oh,hn])).symm.trans hR.symm)
def wg(p:Po):Int:=if Ht p=0 then(if VP p then 0 else 200) else Ht p
theorem BM(p:Po)(hp:oL p):aa af 69 [tM p] (eI (wg p)):=by
 have q1:=Ai p hp;have q2:=Hw p hp;unfold wg;by_cases h:Ht p=0
 · rw[if_pos h] at q1 ⊢
   rw[h] at q1;cases e:VP p<;>rw[e] at q2
   · refine aa.e Tryz.func69 17 [.tmp 2] VE ?_
     exact gG q1 q2 trivial
   · refine aa.e Tryz.func69 17 [.tmp 2] VE ?_
     exact gG q1 q2 trivial
 · rw[if_neg h] at q1 ⊢
   refine aa.e Tryz.func69 17 [.tmp 2] VE ?_;exact gG q1 (kY h) trivial
end Go.Proofs.YtmaiccmhkmndcaaGreatDoor
