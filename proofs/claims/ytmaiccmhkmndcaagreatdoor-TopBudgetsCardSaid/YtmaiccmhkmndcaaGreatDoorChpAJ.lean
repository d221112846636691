/- A part of the proof: contracts of the functions that the statement reaches. -/
import Derived.Test.YtmaiccmhkmndcaaGreatDoorEngC
import Derived.Test.YtmaiccmhkmndcaaGreatDoorChpAA
import Derived.Test.YtmaiccmhkmndcaaGreatDoorProg
set_option linter.unusedSimpArgs false
set_option linter.unusedVariables false
set_option linter.unnecessarySimpa false
set_option maxRecDepth 100000
set_option maxHeartbeats 40000000
open And renaming intro->ae
open Go.Proofs.Tryz renaming prog->af
open List renaming mem_cons->cy,getElem?_map->aW,mem_cons_of_mem->pa,getElem?_eq_none_iff->bw,length_map->ak,drop_eq_nil_of_le->lz,getElem?_eq_some_iff->aq,mem_of_getElem?->aO,drop_eq_getElem_cons->gP,getElem?_eq_getElem->aV,take_add_one->bz,take_of_length_le->bN,map_map->il,length_take->dy,drop_zero->da
open Option.some renaming inj->gH
namespace Go.Proofs.YtmaiccmhkmndcaaGreatDoor
open Go Go.Sg
def eI(i:Int):PV:= .int .i64 i
def dm(l:List Int):PV:= .sl 1 false (l.map eI)
def eS(s:ByteArray):PV:= .str s
def gV(l:List ByteArray):PV:= .sl 1 false (l.map eS)
theorem mixed:Tryz.prog.follows .mixedOrders=true:=by kernel_rfl
def Aa(c:Int):Bool:=(decide (97<=c)&&decide (c<=122))||(decide (65<=c)&&decide (c<=90))
def Nr(c:Int):Bool:=decide (48<=c)&&decide (c<=57)
def Ab(c:Int):Bool:=Aa c||Nr c||decide (c=95)
theorem Dh(c:Int):aa Tryz.prog 282 [.int .u8 c] (.bool (Aa c)):=by
 refine aa.e Tryz.func282 17 [.tmp 2] [0,2] ?_;refine cb (And.intro (λhc=>And.intro (λhc=>?_) λhc hc=>?_) λhc=>And.intro (λhc=>?_) λhc=>?_)
 all_goals(refine aP.bool ?_;simp_all [Aa]<;>omega)
theorem Ns(c:Int):aa Tryz.prog 292 [.int .u8 c] (.bool (Nr c)):=by
 refine aa.e Tryz.func292 9 [.tmp 2] [0,2] ?_;refine cb (And.intro (λhc=>?_) λhc=>?_)
 all_goals(refine aP.bool ?_;simp_all [Nr]<;>omega)
theorem Di(c:Int):aa Tryz.prog 283 [.int .u8 c] (.bool (Ab c)):=by
 refine aa.e Tryz.func283 13 [.tmp 2] [0,2] ?_;refine gG Dh Ns (And.intro (λhc=>?_) λhc=>And.intro (λhc=>?_) λhc=>?_)
 all_goals(refine aP.bool ?_;simp_all [Ab])
theorem P7{c:Int}:Ab c=true↔(97<=c/\c<=122)\/(65<=c/\c<=90)\/(48<=c/\c<=57)\/c=95:=by
 simp[Ab,Aa,Nr,or_assoc]
theorem w9(c:Int)(h:Ab c=true):aa Tryz.prog 281 [.int .u8 c] (eI (if Aa c then 2 else if Nr c then 3 else 5)):=by
 have h':=P7.1 h;refine aa.e Tryz.func281 47 [.tmp 2] [0,2,3,18,25,28,43] ?_;refine cb (And.intro (λhc hc=>?_) λhc=>And.intro (λhc=>And.intro (λhc=>?_) λhc hc hc hc=>?_) λhc hc hc=>?_)
 all_goals first
 |(exfalso;omega)
 |(refine aP.of (congrArg eI ?_);simp only[Aa,Nr,Bool.or_eq_true,Bool.and_eq_true,decide_eq_true_eq];split<;>(try split)<;>omega)
def Iv(s:ByteArray)(i:Nat):Int:=((s.data.toList.getD i 0).toNat:Int)
def uT(s:ByteArray):Bool:=decide (1<=s.size)&&(decide (s.size<=32)&&(Aa (Iv s 0)&&(List.range s.size).all λi=>Ab (Iv s i)))
theorem mA{s:ByteArray}:uT s=true↔1<=s.size/\s.size<=32/\Aa (Iv s 0)=true/\ ∀i,i<s.size->Ab (Iv s i)=true:=by
 simp[uT]
theorem Ho(s:ByteArray):aa Tryz.prog 259 [eS s] (.bool (uT s)):=by
 have no:∀{p:Prop},¬ p->(uT s=true->p)->aP (.bool false) (.bool (uT s)):=λh k=>aP.bool (by
  cases e:uT s with
  |false=>rfl
  |true=>exact absurd (k e) h)
 refine aa.e Tryz.func259 29 [.tmp 2] [0,2,3,17,21,28] ?_;refine gG (Dh (Iv s 0)) Di (And.intro (λhc=>?_) λhc=>And.intro (λhc=>?_) λhc=>And.intro (λhc=>?_) λhc=>?_)
 · exact no (p:=1<=s.size) (by omega) λh=>(mA.1 h).1
 · exact no (p:=s.size<=32) (by omega) λh=>(mA.1 h).2.1
 · rename_i h1 h2
   have hc:Aa (Iv s 0)=true:=hc;refine bY.bK (α:={i:Nat // i<=s.size/\ ∀j,j<i->Ab (Iv s j)=true}) mixed [0,2,3,17,21,28] (λi=>[(3,.p (eI i.1))]) (λi=>s.size-i.1) ⟨0,by omega,λj hj=>by omega⟩ ?_ ?_
   · exact aG trivial
   rintro⟨i,hi,hq⟩;have hi:i<=s.size:=hi;refine bM (Di (Iv s i)) (And.intro (λhc=>And.intro (λhc=>?_) λhc=>?_) λhc=>?_)
   · rename_i h3
     have h4:Ab (Iv s i)=true:=hc;have h3:(i:Int)<s.size:=h3;refine⟨⟨i+1,by omega,λj hj=>?_⟩,by show s.size-(i+1)<s.size-i;omega,?_⟩
     · rcases Nat.lt_succ_iff_lt_or_eq.1 hj with hj|rfl
       · exact hq j hj
       · exact h4
     · exact aG trivial
   · rename_i h3
     have h3:(i:Int)<s.size:=h3;have h4:Ab (Iv s i)=false:=hc;exact no (p:=Ab (Iv s i)=true) (by rw[h4];exact Bool.false_ne_true) λh=>(mA.1 h).2.2.2 i (by omega)
   · have hc:¬(i:Int)<s.size:=hc
     exact aP.bool (mA.2 ⟨by omega,by omega,by assumption,λj hj=>hq j (by omega)⟩).symm
 · have hc:Aa (Iv s 0)=false:=hc
   exact no (p:=Aa (Iv s 0)=true) (by rw[hc];exact Bool.false_ne_true) λh=>(mA.1 h).2.2.1
theorem JH(s:ByteArray)(hn:uT s=true):aa Tryz.prog 256 [eS s] (.bool true):=by
 obtain⟨n1,n2,n3,n4⟩:=mA.1 hn;have q0:=w9 (Iv s 0) (n4 0 n1);rw[if_pos n3] at q0;(have h0:¬ s=ByteArray.mk #[]:=λh=>by rw[h] at n1;exact absurd n1 (by decide));refine aa.e Tryz.func256 38 [.tmp 2] [0,2,3,4,17,19,20,21,36] ?_;refine bM q0 (And.intro (λhc=>?_) λhc hc=>?_)
 all_goals first|(exfalso;omega)|(exfalso;contradiction)|skip
 refine bY.bK (α:={i:Nat // i<=s.size}) mixed [0,2,3,4,17,19,20,21,36] (λi=>[(20,.p (eI i.1))]) (λi=>s.size-i.1) ⟨0,by omega⟩ ?_ ?_
 · exact aG trivial
 rintro⟨i,hi⟩;have hi:i<=s.size:=hi;by_cases aC:i<s.size
 · obtain⟨k,hk,q⟩:∃k:Int,(k=2\/k=3\/k=5)/\aa Tryz.prog 281 [.int .u8 (Iv s i)] (eI k):=by
    refine⟨_,?_,w9 (Iv s i) (n4 i aC)⟩;split
    · exact .inl rfl
    · split
      · exact .inr (.inl rfl)
      · exact .inr (.inr rfl)
   refine bM q (λhc=>And.intro (λhc=>And.intro (λhc hc=>?_) λhc=>?_) λhc=>?_)
   all_goals first
   |(exfalso;omega)
   |(refine⟨⟨i+1,aC⟩,by show s.size-(i+1)<s.size-i;omega,?_⟩;exact aG trivial)
 · refine cb (λhc=>?_)
   all_goals(exfalso;(try dsimp only at *);omega)
def w8(l:List UInt8):ByteArray:=⟨l.toArray⟩
def words:List ByteArray:=[w8 [112,111,108,105,99,121],w8 [109,111,100,101],w8 [111,108,100],w8 [110,101,119],w8 [98,111,116,104],w8 [101,105,116,104,101,114],w8 [111,102,102,105,99,101],w8 [107,105,110,100],w8 [114,117,108,101],w8 [116,104,105,110,107],w8 [99,104,97,110,103,101],w8 [115,111,109,101],w8 [119,101,105,103,104,116],w8 [111,102],w8 [117,112,116,111],w8 [101,108,115,101]]
def Ad(s:ByteArray):Bool:=words.any λw=>decide (s=w)
theorem Dj{s:ByteArray}:Ad s=true↔s∈words:=by
 simp[Ad,List.any_eq_true]
theorem Hp{s w:ByteArray}(h:s=w)(hw:w∈words:=by repeat(first|exact List.mem_cons_self|apply List.mem_cons_of_mem)):Ad s=true:=Dj.2 (h▸hw)
theorem JK(s:ByteArray):aa Tryz.prog 260 [eS s] (.bool (Ad s)):=by
 refine aa.e Tryz.func260 21 [.tmp 2] [0,2,3,4] ?_;refine cb (And.intro (λhc=>And.intro (λhc=>?_) λhc=>?_) λhc=>And.intro (λhc=>And.intro (λhc=>?_) λhc=>?_) λhc=>And.intro (λhc=>And.intro (λhc=>?_) λhc=>?_) λhc=>And.intro (λhc=>And.intro (λhc=>?_) λhc=>?_) λhc=>And.intro (λhc=>And.intro (λhc=>?_) λhc=>?_) λhc=>And.intro (λhc=>And.intro (λhc=>?_) λhc=>?_) λhc=>And.intro (λhc=>And.intro (λhc=>?_) λhc=>?_) λhc=>And.intro (λhc=>And.intro (λhc=>?_) λhc=>?_) λhc=>And.intro (λhc=>And.intro (λhc=>?_) λhc=>?_) λhc=>And.intro (λhc=>And.intro (λhc=>?_) λhc=>?_) λhc=>And.intro (λhc=>And.intro (λhc=>?_) λhc=>?_) λhc=>And.intro (λhc=>And.intro (λhc=>?_) λhc=>?_) λhc=>And.intro (λhc=>And.intro (λhc=>?_) λhc=>?_) λhc=>And.intro (λhc=>And.intro (λhc=>?_) λhc=>?_) λhc=>And.intro (λhc=>And.intro (λhc=>?_) λhc=>?_) λhc=>And.intro (λhc=>?_) λhc=>?_)
 all_goals first
 |contradiction
 |exact aP.bool (Hp (by assumption)).symm
 |(refine aP.bool ?_
   cases e:Ad s with
   |false=>rfl
   |true=>
    exfalso;have:=Dj.1 e;simp only[words,List.mem_cons,List.not_mem_nil,or_false,w8] at this
    rcases this with h|h|h|h|h|h|h|h|h|h|h|h|h|h|h|h<;>contradiction)
def uU(s:ByteArray):Bool:=uT s&& !Ad s
theorem xa(s:ByteArray):aa Tryz.prog 223 [eS s] (.bool (uU s)):=by
 refine aa.e Tryz.func223 10 [.tmp 2] [0,2] ?_;refine gG (Ho s) (JK s) (And.intro (λhc=>?_) λhc=>?_)
 all_goals(refine aP.bool ?_;simp_all [uU])
theorem uV(s:ByteArray)(h:uU s=true):aa Tryz.prog 218 [eS s] (.bool true):=by
 (have h2:uT s=true/\Ad s=false:=by simpa[uU] using h);have q:=JH s h2.1;refine aa.e Tryz.func218 23 [.tmp 2] [0,2,3,4] ?_;refine bM q (And.intro (λhc hc=>?_) λhc=>And.intro (λhc hc=>?_) λhc=>And.intro (λhc hc=>?_) λhc=>And.intro (λhc hc=>?_) λhc=>And.intro (λhc hc=>?_) λhc=>And.intro (λhc hc=>?_) λhc=>And.intro (λhc hc=>?_) λhc=>And.intro (λhc hc=>?_) λhc=>And.intro (λhc hc=>?_) λhc=>And.intro (λhc hc=>?_) λhc=>And.intro (λhc hc=>?_) λhc=>And.intro (λhc hc=>?_) λhc=>And.intro (λhc hc=>?_) λhc=>And.intro (λhc hc=>?_) λhc=>And.intro (λhc hc=>?_) λhc hc=>?_)
 all_goals first
 |contradiction
 |exact absurd (Hp (by assumption)) (by rw[h2.2];exact Bool.false_ne_true)
end Go.Proofs.YtmaiccmhkmndcaaGreatDoor
namespace Go.Proofs.YtmaiccmhkmndcaaGreatDoor
open Go Go.Sg
inductive Ex where
 |mk (k n no:Int) (nm:ByteArray) (l:List Ex)
namespace Ex
def k:Ex->Int|mk a _ _ _ _=>a
def n:Ex->Int|mk _ a _ _ _=>a
def no:Ex->Int|mk _ _ a _ _=>a
def nm:Ex->ByteArray|mk _ _ _ a _=>a
def l:Ex->List Ex|mk _ _ _ _ a=>a
end Ex
theorem Ae{x:Ex}:∀{l:List Ex},x∈l->SizeOf.sizeOf x<SizeOf.sizeOf l
 |y::r,h=>by
  rcases cy.1 h with h|h
  · subst h;simp;omega
  · have:=Ae h;simp;omega
theorem Ex.ind{P:Ex->Prop}(h:∀v,(∀x∈v.l,P x)->P v):∀v,P v:=by
 have key:∀m v,SizeOf.sizeOf v<m->P v:=by
  intro m
  induction m with
  |zero=>intro v hv;omega
  |succ m ih=>
   intro v hv;refine h v λx hx=>ih x ?_
   cases v with
   |mk k n no s l=>
    have Uq:SizeOf.sizeOf x<SizeOf.sizeOf l:=Ae hx;simp at hv;omega
 exact λv=>key _ v (Nat.lt_succ_self _)
mutual
def eX:Ex->PV
 |.mk k n no s l=>.agg [eI k,eI n,eI no,.str s,.sl 5 false (Z9 l)]
def Z9:List Ex->List PV
 |[]=>[]
 |x::r=>eX x::Z9 r
end
theorem LF:∀l,Z9 l=l.map eX
 |[]=>rfl
 |x::r=>by rw[Z9,LF r];rfl
def eW(v:Ex):PV:= .agg [eI v.k,eI v.n,eI v.no,.str v.nm,.sl 5 false (v.l.map eX)]
theorem uW(v:Ex):eX v=eW v:=by
 cases v with
 |mk k n no s l=>rw[eX,LF];rfl
def eXL(l:List Ex):PV:= .sl 5 false (l.map eX)
theorem kb{l:List Ex}{n:Nat}{x:Ex}(hx:l[n]? =some x):(l.map eX)[n]? =some (eW x):=by
 rw[aW,hx,<-uW];rfl
theorem ix_x{l:List Ex}{n:Nat}{x:Ex}{K:PV->Prop}(hx:l[n]? =some x)(k:K (eW x)):∀p,(l.map eX)[n]? =some p->K p:=λp hp=>by
 rw[aW,hx] at hp;injection hp with hp;subst hp;rw[uW];exact k
mutual
def pN:Ex->Int->Int
 |.mk _ _ _ _ l,L=>A8 l 1 L
def A8:List Ex->Int->Int->Int
 |[],n,_=>n
 |x::r,n,L=>if n<=L then A8 r (n+pN x (L-n)) L else n
end
theorem Es{l:List Ex}{n L:Int}(h:¬ n<=L):A8 l n L=n:=by
 cases l with
 |nil=>rw[A8]
 |cons x r=>rw[A8,if_neg h]
theorem Ur:∀x,∀L:Int,0<=L->1<=pN x L/\pN x L<=L+1:=by
 refine Ex.ind λv ih L hL=>?_;obtain⟨k,n,no,s,l⟩:=v;have ih:∀x∈l,∀L:Int,0<=L->1<=pN x L/\pN x L<=L+1:=ih;rw[pN]
 have key:∀(r:List Ex) (n:Int),(∀x∈r,x∈l)->1<=n->n<=L+1->1<=A8 r n L/\A8 r n L<=L+1:=by
  intro r
  induction r with
  |nil=>intro n _ h1 h2;rw[A8];exact⟨h1,h2⟩
  |cons x r S2=>
   intro n hm h1 h2;rw[A8];split
   · have:=ih x (hm x List.mem_cons_self) (L-n) (by omega)
     exact S2 _ (λy hy=>hm y (pa _ hy)) (by omega) (by omega)
   · exact⟨h1,h2⟩
 exact key l 1 (λ_ h=>h) (by omega) (by omega)
def eP(f:Nat)(x:Ex):Prop:=∀L:Int,0<=L->L<=1000->aa af f [eW x,eI L] (eI (pN x L))
theorem JL:∀x,eP 257 x:=by
 refine Ex.ind λv ih L hL0 hL=>?_;obtain⟨k,n,no,s,l⟩:=v;have ih:∀x∈l,eP 257 x:=ih;show aa af 257 [.agg [eI k,eI n,eI no,.str s,.sl 5 false (l.map eX)],eI L] _;refine aa.e Tryz.func257 31 [.tmp 4] [0,1,2,4,5,6,16] ?_;refine cb ?_;refine bY.bK (α:={q:Nat×Int // q.1<=l.length/\(q.1:Int)<q.2/\q.2<=L+1/\A8 (l.drop q.1) q.2 L=pN (.mk k n no s l) L}) mixed [0,1,2,4,5,6,16] (λi=>[(5,.p (eI i.1.2)),(6,.p (eI i.1.1))]) (λi=>l.length-i.1.1) ⟨(0,1),by omega,by simp,by simp;omega,by rw[pN];rfl⟩ ?_ ?_
 · exact aG trivial
 rintro⟨⟨i,m⟩,hi,h1,h2,h3⟩;simp only at hi h1 h2 h3
 cases aS:l[i]? with
 |none=>
  have dD:l.length<=i:=bw.1 aS;(have bV:¬((i:Int)<((l.map eX).length:Int)):=by rw[ak];omega);rw[lz dD,A8] at h3;refine bM (kN bV) (λhc=>?_);exact aP.of (congrArg eI h3)
 |some x=>
  have aC:i<l.length:=(aq.1 aS).1;(have ay:((i:Int)<((l.map eX).length:Int)):=by rw[ak];omega);have ku:=aO aS;by_cases hm:m<=L
  · have q:=ih x ku (L-m) (by omega) (by omega)
    have hb:=Ur x (L-m) (by omega)
    have hd:l.drop i=x::l.drop (i+1):=by
     rw[gP aC];congr 1;exact gH ((aV aC).symm.trans aS)
    rw[hd,A8,if_pos hm] at h3;refine oa (kY ay) (kY hm) (kX (kb aS)) q (λhc hc=>?_);refine⟨⟨(i+1,m+pN x (L-m)),aC,by simp only;omega,by simp only;omega,h3⟩,by show l.length-(i+1)<l.length-i;omega,?_⟩;exact aG trivial
  · rw[Es hm] at h3
    refine gG (kY ay) (kN hm) (λhc hc=>?_);exact aP.of (congrArg eI h3)
theorem xb:∀x,eP 63 x:=by
 refine Ex.ind λv ih L hL0 hL=>?_;obtain⟨k,n,no,s,l⟩:=v;have ih:∀x∈l,eP 63 x:=ih;show aa af 63 [.agg [eI k,eI n,eI no,.str s,.sl 5 false (l.map eX)],eI L] _;refine aa.e Tryz.func63 31 [.tmp 4] [0,1,2,4,5,6,16] ?_;refine cb ?_;refine bY.bK (α:={q:Nat×Int // q.1<=l.length/\(q.1:Int)<q.2/\q.2<=L+1/\A8 (l.drop q.1) q.2 L=pN (.mk k n no s l) L}) mixed [0,1,2,4,5,6,16] (λi=>[(5,.p (eI i.1.2)),(6,.p (eI i.1.1))]) (λi=>l.length-i.1.1) ⟨(0,1),by omega,by simp,by simp;omega,by rw[pN];rfl⟩ ?_ ?_
 · exact aG trivial
 rintro⟨⟨i,m⟩,hi,h1,h2,h3⟩;simp only at hi h1 h2 h3
 cases aS:l[i]? with
 |none=>
  have dD:l.length<=i:=bw.1 aS;(have bV:¬((i:Int)<((l.map eX).length:Int)):=by rw[ak];omega);rw[lz dD,A8] at h3;refine bM (kN bV) (λhc=>?_);exact aP.of (congrArg eI h3)
 |some x=>
  have aC:i<l.length:=(aq.1 aS).1;(have ay:((i:Int)<((l.map eX).length:Int)):=by rw[ak];omega);have ku:=aO aS;by_cases hm:m<=L
  · have q:=ih x ku (L-m) (by omega) (by omega)
    have hb:=Ur x (L-m) (by omega)
    have hd:l.drop i=x::l.drop (i+1):=by
     rw[gP aC];congr 1;exact gH ((aV aC).symm.trans aS)
    rw[hd,A8,if_pos hm] at h3;refine oa (kY ay) (kY hm) (kX (kb aS)) q (λhc hc=>?_);refine⟨⟨(i+1,m+pN x (L-m)),aC,by simp only;omega,by simp only;omega,h3⟩,by show l.length-(i+1)<l.length-i;omega,?_⟩;exact aG trivial
  · rw[Es hm] at h3
    refine gG (kY ay) (kN hm) (λhc hc=>?_);exact aP.of (congrArg eI h3)
mutual
def iT:Ex->Nat
 |.mk _ _ _ _ l=>fw l+1
def fw:List Ex->Nat
 |[]=>0
 |x::r=>iT x+fw r
end
mutual
def xN:Ex->Nat
 |.mk _ _ _ _ l=>nb l+1
def nb:List Ex->Nat
 |[]=>0
 |x::r=>max (xN x) (nb r)
end
theorem LG(x:Ex):1<=iT x:=by cases x;rw[iT];omega
theorem lH{x:Ex}:∀{l:List Ex},x∈l->iT x<=fw l
 |y::r,h=>by
  rw[fw];rcases cy.1 h with e|e
  · subst e;omega
  · have:=lH e;omega
theorem lI:∀l:List Ex,l.length<=fw l
 |[]=>by simp[fw]
 |x::r=>by rw[fw];have:=lI r;have:=LG x;simp;omega
theorem JM:∀x,∀L:Int,0<=L->pN x L<=L->pN x L=iT x:=by
 refine Ex.ind λv ih L hL h=>?_;obtain⟨k,n,no,s,l⟩:=v;have ih:∀x∈l,∀L:Int,0<=L->pN x L<=L->pN x L=iT x:=ih;rw[pN] at h ⊢
 have key:∀(r:List Ex) (n:Int),(∀x∈r,x∈l)->n<=L->A8 r n L<=L->A8 r n L=n+fw r:=by
  intro r
  induction r with
  |nil=>intro n _ h1 h2;rw[A8,fw];simp
  |cons x r S2=>
   intro n hm h1 h2;rw[A8,if_pos h1] at h2 ⊢;by_cases h3:n+pN x (L-n)<=L
   · have e:=ih x (hm x List.mem_cons_self) (L-n) (by omega) (by omega)
     rw[S2 _ (λy hy=>hm y (pa _ hy)) h3 h2,e,fw];omega
   · rw[Es h3] at h2;omega
 by_cases h1:(1:Int)<=L
 · rw[key l 1 (λ_ h=>h) h1 h,iT];omega
 · rw[Es h1] at h;omega
theorem Hq{x:Ex}:∀{l:List Ex},x∈l->xN x<=nb l
 |y::r,h=>by
  rw[nb];rcases cy.1 h with e|e
  · subst e;omega
  · have:=Hq e;omega
theorem xc(a b:List Ex):nb (a++b)=max (nb a) (nb b):=by
 induction a with
 |nil=>simp[nb]
 |cons x r ih=>simp[nb,ih,Nat.max_assoc]
theorem Nt{l:List Ex}{i:Nat}{x:Ex}(h:l[i]? =some x):nb (l.take (i+1))=max (nb (l.take i)) (xN x):=by
 rw[bz,h,xc];simp[nb]
theorem ye:∀x,xN x<=iT x:=by
 refine Ex.ind λv ih=>?_;obtain⟨k,n,no,s,l⟩:=v;have ih:∀x∈l,xN x<=iT x:=ih;rw[xN,iT]
 have key:∀r:List Ex,(∀x∈r,x∈l)->nb r<=fw r:=by
  intro r
  induction r with
  |nil=>intro _;rw[nb];omega
  |cons x r S2=>
   intro hm;rw[nb,fw];have:=ih x (hm x List.mem_cons_self);have:=S2 λy hy=>hm y (pa _ hy);omega
 have:=key l λ_ h=>h;omega
theorem Et(l:List Ex)(i:Nat):nb (l.take i)<=nb l:=by
 have:=xc (l.take i) (l.drop i);rw[List.take_append_drop] at this;omega
theorem Hr:∀x,iT x<=1000->aa af 258 [eW x] (eI (xN x)):=by
 refine Ex.ind λv ih ht=>?_;obtain⟨k,n,no,s,l⟩:=v;have ih:∀x∈l,iT x<=1000->aa af 258 [eW x] (eI (xN x)):=ih;show aa af 258 [.agg [eI k,eI n,eI no,.str s,.sl 5 false (l.map eX)]] _;have Rb:=ye (.mk k n no s l);rw[iT] at ht Rb;rw[xN] at Rb;have A0:=lI l;refine aa.e Tryz.func258 22 [.tmp 2] [0,1,2,3,4,9] ?_;refine cb ?_;refine bY.bK (α:={i:Nat // i<=l.length}) mixed [0,1,2,3,4,9] (λi=>[(3,.p (eI (nb (l.take i.1)))),(4,.p (eI i.1))]) (λi=>l.length-i.1) ⟨0,by omega⟩ ?_ ?_
 · exact aG trivial
 rintro⟨i,hi⟩;have hi:i<=l.length:=hi
 cases aS:l[i]? with
 |none=>
  have dD:l.length<=i:=bw.1 aS;(have bV:¬((i:Int)<((l.map eX).length:Int)):=by rw[ak];omega);(have Rb:nb (l.take i)=nb l:=by rw[bN dD]);refine bM (kN bV) (λhc=>?_);refine aP.of (congrArg eI ?_);show((nb (l.take i):Nat):Int)+1=_;rw[Rb,xN];omega
 |some x=>
  have aC:i<l.length:=(aq.1 aS).1;(have ay:((i:Int)<((l.map eX).length:Int)):=by rw[ak];omega);have ku:=aO aS;have S0:=lH ku;have q1:=ih x ku (by omega);have hdt2:=Nt aS;have Rm:=Et l i;refine gg (kY ay) (kX (kb aS)) q1 (λhc=>?_);refine⟨⟨i+1,aC⟩,by show l.length-(i+1)<l.length-i;omega,?_⟩;exact aG trivial
  all_goals trace_state
end Go.Proofs.YtmaiccmhkmndcaaGreatDoor
namespace Go.Proofs.YtmaiccmhkmndcaaGreatDoor
open Go Go.Sg
theorem YN:∀x,∀L:Int,0<=L->pN x L<=iT x:=by
 refine Ex.ind λv ih L hL=>?_;obtain⟨k,n,no,s,l⟩:=v;have ih:∀x∈l,∀L:Int,0<=L->pN x L<=iT x:=ih;rw[pN,iT]
 have key:∀(r:List Ex) (n:Int),(∀x∈r,x∈l)->A8 r n L<=n+fw r:=by
  intro r
  induction r with
  |nil=>intro n _;rw[A8,fw];simp
  |cons x r S2=>
   intro n hm;rw[A8,fw];split
   · have:=ih x (hm x List.mem_cons_self) (L-n) (by omega)
     have:=S2 (n+pN x (L-n)) λy hy=>hm y (pa _ hy);omega
   · omega
 have:=key l 1 λ_ h=>h;omega
theorem YO{x:Ex}{L:Int}(h:(iT x:Int)<=L):pN x L=iT x:=by
 have h1:=LG x;exact JM x L (by omega) (Int.le_trans (YN x L (by omega)) h)
theorem xe(x:Ex)(h:iT x<=200):aa af 222 [eW x] (.bool (decide (16<(xN x:Int)))):=by
 have q1:=JL x 256 (by omega) (by omega);rw[YO (by omega)] at q1;have q2:=Hr x (by omega);(have h1:¬(256:Int)<(iT x:Int):=by omega);refine aa.e Tryz.func222 11 [.tmp 2] [0,1,2] ?_;exact gg (kN h1) q1 q2 trivial
def wa:List ByteArray->ByteArray->Nat->Int
 |[],_,_=> -1
 |y::r,s,i=>if y=s then(i:Int) else wa r s (i+1)
def xf(l:List ByteArray)(s:ByteArray):Int:=wa l s 0
theorem P8{l:List ByteArray}{n:Nat}{x:ByteArray}{K:PV->Prop}(hx:l[n]? =some x)(k:K (eS x)):∀p,(l.map eS)[n]? =some p->K p:=λp hp=>by
 rw[aW,hx] at hp;injection hp with hp;subst hp;exact k
theorem pB{α:Type}{l:List α}{i:Nat}{x:α}(h:l[i]? =some x):l.drop i=x::l.drop (i+1):=by
 have aC:=(aq.1 h).1;rw[gP aC];congr 1;exact gH ((aV aC).symm.trans h)
theorem pD(l:List ByteArray)(s:ByteArray)(hl:l.length<1000000):aa af 227 [gV l,eS s] (eI (xf l s)):=by
 refine aa.e Tryz.func227 19 [.tmp 4] [0,1,4,5,9,17] ?_;refine cb ?_;refine bY.bK (α:={i:Nat // i<=l.length/\wa (l.drop i) s i=xf l s}) mixed [0,1,4,5,9,17] (λi=>[(5,.p (eI i.1))]) (λi=>l.length-i.1) ⟨0,by omega,rfl⟩ ?_ ?_
 · exact aG trivial
 rintro⟨i,hi,hq⟩;have hi:i<=l.length:=hi;have hq:wa (l.drop i) s i=xf l s:=hq
 cases aS:l[i]? with
 |none=>
  have dD:l.length<=i:=bw.1 aS;(have bV:¬((i:Int)<((l.map eS).length:Int)):=by rw[ak];omega);rw[lz dD,wa] at hq;refine bM (kN bV) (λhc=>?_);exact aP.of (congrArg eI hq)
 |some x=>
  have aC:i<l.length:=(aq.1 aS).1;(have ay:((i:Int)<((l.map eS).length:Int)):=by rw[ak];omega);rw[pB aS,wa] at hq;by_cases hs:x=s
  · rw[if_pos hs] at hq
    refine gg (kY ay) (kY hs) (kX aS) (λhc hc=>?_);exact aP.of (congrArg eI hq)
  · rw[if_neg hs] at hq
    refine gg (kY ay) (kN hs) (kX aS) (λhc hc=>?_);refine⟨⟨i+1,aC,hq⟩,by show l.length-(i+1)<l.length-i;omega,?_⟩;exact aG trivial
theorem jF(l:List ByteArray)(s:ByteArray)(hl:l.length<1000000):aa af 171 [gV l,eS s] (eI (xf l s)):=by
 refine aa.e Tryz.func171 19 [.tmp 4] [0,1,4,5,7,8,9,16] ?_;refine cb ?_;refine bY.bK (α:={i:Nat // i<=l.length/\wa (l.drop i) s i=xf l s}) mixed [0,1,4,5,7,8,9,16] (λi=>[(8,.p (eI i.1))]) (λi=>l.length-i.1) ⟨0,by omega,rfl⟩ ?_ ?_
 · exact aG trivial
 rintro⟨i,hi,hq⟩;have hi:i<=l.length:=hi;have hq:wa (l.drop i) s i=xf l s:=hq
 cases aS:l[i]? with
 |none=>
  have dD:l.length<=i:=bw.1 aS;(have bV:¬((i:Int)<((l.map eS).length:Int)):=by rw[ak];omega);rw[lz dD,wa] at hq;refine bM (kN bV) (λhc=>?_);exact aP.of (congrArg eI hq)
 |some x=>
  have aC:i<l.length:=(aq.1 aS).1;(have ay:((i:Int)<((l.map eS).length:Int)):=by rw[ak];omega);rw[pB aS,wa] at hq;by_cases hs:s=x
  · rw[if_pos hs.symm] at hq
    refine gg (kY ay) (kY hs) (kX aS) (λhc hc=>?_);exact aP.of (congrArg eI hq)
  · rw[if_neg (λe=>hs e.symm)] at hq
    refine gg (kY ay) (kN hs) (kX aS) (λhc hc=>?_);refine⟨⟨i+1,aC,hq⟩,by show l.length-(i+1)<l.length-i;omega,?_⟩;exact aG trivial
mutual
def A9(o:List ByteArray):Ex->Bool
 |.mk k _ _ s l=>(!(decide (k=1)||decide (k=2))||decide (0<=xf o s))&&Nu o l
def Nu(o:List ByteArray):List Ex->Bool
 |[]=>true
 |x::r=>A9 o x&&Nu o r
end
theorem Af(o:List ByteArray):∀l,Nu o l=l.all (A9 o)
 |[]=>rfl
 |x::r=>by rw[Nu,Af o r];rfl
theorem cE{α:Type}{l:List α}{i:Nat}{x:α}{p:α->Bool}(h:l[i]? =some x)(ha:(l.take i).all p=true)(hp:p x=true):(l.take (i+1)).all p=true:=by
 rw[bz,h];simp[ha,hp]
theorem iU{α:Type}{l:List α}{i:Nat}{x:α}{p:α->Bool}(h:l[i]? =some x)(hp:p x=false):l.all p=false:=by
 rw[List.all_eq_false];exact⟨x,aO h,by rw[hp];simp⟩
theorem xh(o:List ByteArray)(ho:o.length<1000000):∀x,iT x<=1000->aa af 225 [gV o,eW x] (.bool (A9 o x)):=by
 refine Ex.ind λv ih ht=>?_;obtain⟨k,n,no,s,l⟩:=v;have ih:∀x∈l,iT x<=1000->aa af 225 [gV o,eW x] (.bool (A9 o x)):=ih;show aa af 225 [gV o,.agg [eI k,eI n,eI no,.str s,.sl 5 false (l.map eX)]] _;rw[iT] at ht;have A0:=lI l;have q0:=pD o s ho;by_cases hd:(k=1\/k=2)/\xf o s<0
 · have e:A9 o (.mk k n no s l)=false:=by
    rw[A9,decide_eq_false (by omega:¬ 0<=xf o s)];rcases hd.1 with h|h<;>simp[h]
   rw[e];have hk:=hd.1;have hx:=hd.2;(have N9:¬ k=1-> ¬ ¬ k=2:=by omega);(have Uq:¬ ¬ xf o s<0:=by omega);refine aa.e Tryz.func225 36 [.tmp 4] PR ?_
   repeat' (first|exact fg|(refine stx ?_;first|exact bW _|refine aE ?_)|(refine kq ?_;first|refine fR q0 ?_)|((fail_if_success refine ft ?_);(conv=>whnf)<;>(first|exact fh|refine Br.dec (λhc=>?_) (λhc=>absurd hc Uq)|refine str ?_|refine Br.dec (λhc=>?_) λhc=>?_|refine Br.mk (λhc=>?_) λhc=>?_|exact PV.ao|refine PV.ai ?_ ?_|refine ae ?_ ?_|refine aD λx hx=>?_|refine aE ?_|refine bX (λhn=>?_) ?_|exact fv|refine bS λaZ=>?_|refine al ?_ ?_|refine fu ?_|fail)))<;>(try exact fi)
   all_goals(exfalso;first|omega|contradiction)
 · have e:A9 o (.mk k n no s l)=l.all (A9 o):=by
    rw[A9,Af];by_cases h:k=1\/k=2
    · rw[decide_eq_true (by omega:0<=xf o s)];simp
    · simp[show ¬ k=1 by omega,show ¬ k=2 by omega]
   rw[e];refine aa.e Tryz.func225 36 [.tmp 4] PR ?_;refine bM q0 (ae (λhc hc=>?_) λhc=>ae (λhc hc=>?_) λhc=>?_)
   all_goals first|(exfalso;apply hd;omega)|skip
   all_goals
    refine bY.bK (α:={i:Nat // i<=l.length/\(l.take i).all (A9 o)=true}) mixed PR (λi=>[(5,.p (eI i.1))]) (λi=>l.length-i.1) ⟨0,by omega,rfl⟩ ?_ ?_
    · exact aG trivial
    rintro⟨i,hi,hq⟩;have hi:i<=l.length:=hi;have hq:(l.take i).all (A9 o)=true:=hq
    cases aS:l[i]? with
    |none=>
     have dD:l.length<=i:=bw.1 aS;(have bV:¬((i:Int)<((l.map eX).length:Int)):=by rw[ak];omega);rw[bN dD] at hq;rw[hq];exact bM (kN bV) trivial
    |some x=>
     have aC:i<l.length:=(aq.1 aS).1;(have ay:((i:Int)<((l.map eX).length:Int)):=by rw[ak];omega);have ku:=aO aS;have S0:=lH ku;have q1:=ih x ku (by omega)
     cases hf:A9 o x with
     |true=>
      rw[hf] at q1;refine gg (kY ay) (kX (kb aS)) q1 (λhc=>?_);refine⟨⟨i+1,aC,cE aS hq hf⟩,by show l.length-(i+1)<l.length-i;omega,?_⟩;exact aG trivial
     |false=>
      rw[hf] at q1;rw[iU aS hf];exact gg (kY ay) (kX (kb aS)) q1 trivial
mutual
def Dk(u:Bool):Ex->Bool
 |.mk k n _ s l=>Nv u l&&(if k=1 then decide (n=0)&&decide (l.length=0) else if k=2 then decide (1<=n)&&decide (n<=4096)&&decide (l.length=0) else
   if k=3 then decide (s=⟨#[]⟩)&&decide (1<=l.length)&&decide (l.length<=16)&&decide (1<=n)&&decide (n<=l.length) else if k=4 then u&&decide (s=⟨#[]⟩)&&decide (l.length=2)&&decide (0<=n)&&decide (n<=1099511627776) else false)
def Nv(u:Bool):List Ex->Bool
 |[]=>true
 |x::r=>Dk u x&&Nv u r
end
theorem uX(u:Bool):∀l,Nv u l=l.all (Dk u)
 |[]=>rfl
 |x::r=>by rw[Nv,uX u r];rfl
theorem sU(u:Bool):∀x,iT x<=1000->aa af 226 [eW x,.bool u] (.bool (Dk u x)):=by
 refine Ex.ind λv ih ht=>?_;obtain⟨k,n,no,s,l⟩:=v;have ih:∀x∈l,iT x<=1000->aa af 226 [eW x,.bool u] (.bool (Dk u x)):=ih;show aa af 226 [.agg [eI k,eI n,eI no,.str s,.sl 5 false (l.map eX)],.bool u] _;rw[iT] at ht;have A0:=lI l;refine aa.e Tryz.func226 104 [.tmp 4] Uh ?_;refine cb ?_;refine bY.bK (α:={i:Nat // i<=l.length/\(l.take i).all (Dk u)=true}) mixed Uh (λi=>[(5,.p (eI i.1))]) (λi=>l.length-i.1) ⟨0,by omega,rfl⟩ ?_ ?_
 · exact aG trivial
 rintro⟨i,hi,hq⟩;have hi:i<=l.length:=hi;have hq:(l.take i).all (Dk u)=true:=hq
 cases aS:l[i]? with
 |none=>
  have dD:l.length<=i:=bw.1 aS;(have bV:¬((i:Int)<((l.map eX).length:Int)):=by rw[ak];omega);rw[bN dD] at hq;rw[Dk,uX,hq,Bool.true_and];refine bM (kN bV) (λhc=>ae (λhc=>ae (λhc=>?_) λhc=>?_) λhc=>ae (λhc=>ae (λhc=>ae (λhc=>?_) λhc=>?_) λhc=>?_) λhc=>ae (λhc=>ae (λhc=>ae (λhc=>ae (λhc=>ae (λhc=>?_) λhc=>?_) λhc=>?_) λhc=>?_) λhc=>?_) λhc=>ae (λhc=>ae (λhc=>ae (λhc=>ae (λhc=>ae (λhc=>?_) λhc=>?_) λhc=>?_) λhc=>?_) λhc=>?_) λhc=>?_)
  all_goals(refine aP.bool ?_;clear bV ih hq;simp_all<;>omega)
 |some x=>
  have aC:i<l.length:=(aq.1 aS).1;(have ay:((i:Int)<((l.map eX).length:Int)):=by rw[ak];omega);have ku:=aO aS;have S0:=lH ku;have q1:=ih x ku (by omega)
  cases hf:Dk u x with
  |true=>
   rw[hf] at q1;refine gg (kY ay) (kX (kb aS)) q1 (λhc=>?_);refine⟨⟨i+1,aC,cE aS hq hf⟩,by show l.length-(i+1)<l.length-i;omega,?_⟩;exact aG trivial
  |false=>
   rw[hf] at q1;rw[Dk,uX,iU aS hf,Bool.false_and];exact gg (kY ay) (kX (kb aS)) q1 trivial
mutual
def lT(o:List ByteArray):Ex->Ex
 |.mk k n _ s l=>.mk k n (if k=1\/k=2 then xf o s else 0) s (Hs o l)
def Hs(o:List ByteArray):List Ex->List Ex
 |[]=>[]
 |x::r=>lT o x::Hs o r
end
theorem uY(o:List ByteArray):∀l,Hs o l=l.map (lT o)
 |[]=>rfl
 |x::r=>by rw[Hs,uY o r];rfl
def oV(n sz:Nat):List PV->AV
 |[]=>.p (.sl 0 true [])
 |_::r=>.bo n sz 0 (r.length+1)
def oH(n sz:Nat):List PV->ab
 |[]=>[]
 |a::r=>[(n,.row sz (a::r))]
def uZ(o:List ByteArray)(x:Ex):PV:=eX (lT o x)
theorem P9(o:List ByteArray)(x:Ex):uZ o x=eW (lT o x):=uW _
theorem p5(o:List ByteArray)(ho:o.length<1000000):∀x,iT x<=1000->aa af 176 [gV o,eW x] (eW (lT o x)):=by
 refine Ex.ind λv ih ht=>?_;obtain⟨k,n,no,s,l⟩:=v;have ih:∀x∈l,iT x<=1000->aa af 176 [gV o,eW x] (eW (lT o x)):=ih;show aa af 176 [gV o,.agg [eI k,eI n,eI no,.str s,.sl 5 false (l.map eX)]] _;rw[iT] at ht;have A0:=lI l;have q0:=pD o s ho;(obtain⟨N,hN⟩:∃N,N=if k=1\/k=2 then xf o s else 0:=⟨_,rfl⟩);have hr:lT o (.mk k n no s l)= .mk k n N s (l.map (lT o)):=by rw[lT,uY,<-hN]
 have e:eW (lT o (.mk k n no s l))= .agg [eI k,eI n,eI N,.str s,.sl 5 false (l.map (uZ o))]:=by
  rw[hr];show PV.agg [_,_,_,_,.sl 5 false ((l.map (lT o)).map eX)]=_
  rw[il];rfl
 rw[e];refine aa.e Tryz.func176 43 [.cell 4 131] Lm ?_;refine bM q0 (ae (λhc=>?_) λhc=>ae (λhc=>?_) λhc=>?_)
 all_goals first
 |(have VL:k=1\/k=2:=by omega
   have e2:xf o s=N:=(hN.trans (if_pos VL)).symm)
 |(have VL:¬(k=1\/k=2):=by omega
   have e2:0=N:=(hN.trans (if_neg VL)).symm)
 all_goals
  clear hN;refine bY.bq (α:={i:Nat // i<=l.length}) mixed Lm (λi=>[(6,.p (eI i.1))]) (λi=>(192,.cells [.p (eI k),.p (eI n),.p (eI N),.p (.str s),oV 1 5 ((l.take i.1).map (uZ o))])::oH 1 5 ((l.take i.1).map (uZ o))) (λ_=>0) (λi=>l.length-i.1) ⟨0,by omega⟩ ?_ ?_
  · refine aG ?_
    all_goals(exact congrArg eI e2)
  rintro⟨i,hi⟩;have hi:i<=l.length:=hi;show ya [(6,_)] _ _ λe=>x9 ((192,.cells [.p (eI k),.p (eI n),.p (eI N),.p (.str s),oV 1 5 ((l.take i).map (uZ o))])::oH 1 5 ((l.take i).map (uZ o))) _ [] λh=>_;have kl:((l.take i).map (uZ o)).length<1000000:=by rw[ak,dy];omega
  cases aS:l[i]? with
  |none=>
   have dD:l.length<=i:=bw.1 aS;(have bV:¬((i:Int)<((l.map eX).length:Int)):=by rw[ak];omega);rw[bN dD] at kl ⊢
   cases hG:l.map (uZ o) with
   |nil=>
    refine bM (kN bV) (λhc=>?_)
    all_goals exact Ha trivial
   |cons g gr=>
    rw[hG] at kl;have kl:gr.length+1<1000000:=kl;refine bM (kN bV) (λhc=>?_)
    all_goals refine Ha ?_
    all_goals(rw[da,bN (by simp)])
  |some x=>
   have aC:i<l.length:=(aq.1 aS).1;(have ay:((i:Int)<((l.map eX).length:Int)):=by rw[ak];omega);have ku:=aO aS;have S0:=lH ku;have q1:=ih x ku (by omega);have BI:(l.take (i+1)).map (uZ o)=(l.take i).map (uZ o)++[eW (lT o x)]:=by rw[bz,aS,<-P9];simp
   cases hG:(l.take i).map (uZ o) with
   |nil=>
    refine gg (kY ay) (kX (kb aS)) q1 (λhc aZ=>?_);refine⟨⟨i+1,aC⟩,by show l.length-(i+1)<l.length-i;omega,?_⟩;show di _ _ (kj Lm _ _ _ [(6,.p (eI ((i+1:Nat):Int)))] ((192,.cells [.p (eI k),.p (eI n),.p (eI N),.p (.str s),oV 1 5 ((l.take (i+1)).map (uZ o))])::oH 1 5 ((l.take (i+1)).map (uZ o))) _);rw[BI,hG];exact aG trivial
   |cons g gr=>
    rw[hG] at kl;have kl:gr.length+1<1000000:=kl;refine gg (kY ay) (kX (kb aS)) q1 (λhc=>?_);refine⟨⟨i+1,aC⟩,by show l.length-(i+1)<l.length-i;omega,?_⟩;show di _ _ (kj Lm _ _ _ [(6,.p (eI ((i+1:Nat):Int)))] ((192,.cells [.p (eI k),.p (eI n),.p (eI N),.p (.str s),oV 1 5 ((l.take (i+1)).map (uZ o))])::oH 1 5 ((l.take (i+1)).map (uZ o))) _);rw[BI,hG];exact aG trivial
theorem pE(k n no:Int)(s:ByteArray)(l:List PV):aa af 170 [.agg [eI k,eI n,eI no,.str s,.sl 5 false l]] (.bool (decide (k=1)||decide (k=2))):=by
 refine aa.e Tryz.func170 11 [.tmp 2] [0,1,2] ?_;refine cb (ae (λhc=>?_) λhc=>?_)
 all_goals(refine aP.bool ?_;simp_all)
theorem sV(o:List ByteArray)(ho:o.length<1000000):∀x,iT x<=1000->aa af 168 [gV o,eW x] (eW (lT o x)):=by
 refine Ex.ind λv ih ht=>?_;obtain⟨k,n,no,s,l⟩:=v;have ih:∀x∈l,iT x<=1000->aa af 168 [gV o,eW x] (eW (lT o x)):=ih;show aa af 168 [gV o,.agg [eI k,eI n,eI no,.str s,.sl 5 false (l.map eX)]] _;rw[iT] at ht;have A0:=lI l;have q0:=jF o s ho;(obtain⟨N,hN⟩:∃N,N=if k=1\/k=2 then xf o s else 0:=⟨_,rfl⟩);have hr:lT o (.mk k n no s l)= .mk k n N s (l.map (lT o)):=by rw[lT,uY,<-hN]
 have e:eW (lT o (.mk k n no s l))= .agg [eI k,eI n,eI N,.str s,.sl 5 false (l.map (uZ o))]:=by
  rw[hr];show PV.agg [_,_,_,_,.sl 5 false ((l.map (lT o)).map eX)]=_
  rw[il];rfl
 rw[e];refine aa.e Tryz.func168 35 [.cell 4 131] Lk ?_;refine gG q0 pE (ae (λhc=>?_) λhc=>?_)
 all_goals first
 |(have VL:k=1\/k=2:=by simpa using hc
   have e2:xf o s=N:=(hN.trans (if_pos VL)).symm)
 |(have VL:¬(k=1\/k=2):=by simpa using hc
   have e2:0=N:=(hN.trans (if_neg VL)).symm)
 all_goals
  clear hN;refine bY.bq (α:={i:Nat // i<=l.length}) mixed Lk (λi=>[(21,.p (eI i.1))]) (λi=>(0,.cells [.p (eI k),.p (eI n),.p (eI N),.p (.str s),oV 1 5 ((l.take i.1).map (uZ o))])::oH 1 5 ((l.take i.1).map (uZ o))) (λ_=>0) (λi=>l.length-i.1) ⟨0,by omega⟩ ?_ ?_
  · refine aG ?_
    all_goals(exact congrArg eI e2)
  rintro⟨i,hi⟩;have hi:i<=l.length:=hi;show ya [(21,_)] _ _ λe=>x9 ((0,.cells [.p (eI k),.p (eI n),.p (eI N),.p (.str s),oV 1 5 ((l.take i).map (uZ o))])::oH 1 5 ((l.take i).map (uZ o))) _ [] λh=>_;have kl:((l.take i).map (uZ o)).length<1000000:=by rw[ak,dy];omega
  cases aS:l[i]? with
  |none=>
   have dD:l.length<=i:=bw.1 aS;(have bV:¬((i:Int)<((l.map eX).length:Int)):=by rw[ak];omega);rw[bN dD] at kl ⊢
   cases hG:l.map (uZ o) with
   |nil=>
    refine bM (kN bV) (λhc=>?_)
    all_goals exact Ha trivial
   |cons g gr=>
    rw[hG] at kl;have kl:gr.length+1<1000000:=kl;refine bM (kN bV) (λhc=>?_)
    all_goals refine Ha ?_
    all_goals(rw[da,bN (by simp)])
  |some x=>
   have aC:i<l.length:=(aq.1 aS).1;(have ay:((i:Int)<((l.map eX).length:Int)):=by rw[ak];omega);have ku:=aO aS;have S0:=lH ku;have q1:=ih x ku (by omega);have BI:(l.take (i+1)).map (uZ o)=(l.take i).map (uZ o)++[eW (lT o x)]:=by rw[bz,aS,<-P9];simp
   cases hG:(l.take i).map (uZ o) with
   |nil=>
    refine gg (kY ay) (kX (kb aS)) q1 (λhc aZ=>?_);refine⟨⟨i+1,aC⟩,by show l.length-(i+1)<l.length-i;omega,?_⟩;show di _ _ (kj Lk _ _ _ [(21,.p (eI ((i+1:Nat):Int)))] ((0,.cells [.p (eI k),.p (eI n),.p (eI N),.p (.str s),oV 1 5 ((l.take (i+1)).map (uZ o))])::oH 1 5 ((l.take (i+1)).map (uZ o))) _);rw[BI,hG];exact aG trivial
   |cons g gr=>
    rw[hG] at kl;have kl:gr.length+1<1000000:=kl;refine gg (kY ay) (kX (kb aS)) q1 (λhc=>?_);refine⟨⟨i+1,aC⟩,by show l.length-(i+1)<l.length-i;omega,?_⟩;show di _ _ (kj Lk _ _ _ [(21,.p (eI ((i+1:Nat):Int)))] ((0,.cells [.p (eI k),.p (eI n),.p (eI N),.p (.str s),oV 1 5 ((l.take (i+1)).map (uZ o))])::oH 1 5 ((l.take (i+1)).map (uZ o))) _);rw[BI,hG];exact aG trivial
end Go.Proofs.YtmaiccmhkmndcaaGreatDoor
