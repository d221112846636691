/- A part of the proof: the engine, that follows the model step by step with abstract values; no program in sight. -/
import Derived.RangeFuncLeaves
import Derived.RangeFuncRecord
import Derived.KernelRfl
import Derived.OrdersIn
import Derived.Still
import Derived.Laws.Sem
import Derived.Laws.Cells
import Derived.Laws.BytesArg
import Derived.Laws.CopyRow
import Derived.Laws.Append
import Derived.Laws.IdiomStrings
import Derived.Laws.StructEq
import Derived.Laws.Externs
import Derived.Lib.Overlaps
import Derived.ChangeKeysEq
import Derived.Maps.RangeRun
import Derived.Conc.LoneSelectN
import Derived.Conc.SmallLaws
set_option linter.unusedSimpArgs false
set_option linter.unusedVariables false
set_option linter.unnecessarySimpa false
set_option maxRecDepth 100000
set_option maxHeartbeats 40000000
open Array renaming getElem?_push->kG,getElem?_toList->gi,getElem?_eq_getElem->dh,ext'->gz,getElem?_append_left->iY,eq_empty_of_size_eq_zero->lW
open Bool renaming true_and->dZ,false_eq_true->mB,and_eq_true->aQ
open ByteArray.toList renaming loop->Iz
open Go renaming TypeId->an,MapEntry->dS,World->aj,Value->ah,Program->au,Operand->aL
open Go.Builtin renaming len_->gm,firstCells->iZ,append_->dM,nextslicecap->nQ,zeroCells->iN,copy_->jO
open Go.Instr renaming sliceBounds->mC
open Go.IntKind renaming i64->br
open Go.Question renaming appendCap->jP
open Go.Result renaming andThen_ok->bD
open Go.Sem renaming run_bind->bu,run_pure->cg
open Go.World renaming shape?->cC
open Int renaming toNat_natCast->dv
open List renaming getElem?_eq_some_iff->aq,getElem?_eq_getElem->aV,getElem?_map->aW,getElem?_take_of_lt->ly,getElem?_drop->jQ,replicate->ck,drop_zero->da,getD->cF,drop_eq_nil_of_le->lz,drop_eq_getElem_cons->gP,getElem?_set_ne->nv,mem_of_getElem?->aO,map_cons->bE,map_nil->dw,length_cons->ea,getElem_of_mem->lM,getElem_mem->jR,getElem?_toArray->ny,append_assoc->ky,getElem?_append_left->gA,getElem?_append_right->lX,length_take->dy,length_map->ak,cons_append->jS,nil_append->jn,length_append->fk,take_of_length_le->bN,take_append_drop->mD,all_eq_true->cG,mem_map->aY,append_nil->ib,length_eq_zero_iff->qn,mem_cons->cy,length_drop->nz
open Nat renaming le_refl->aX,le_trans->dW,lt_of_lt_of_le->fl,lt_or_ge->dK,zero_le->de,add_mul->dB,mul_le_mul_right->fC,zero_add->gQ,le_of_ble_eq_true->qq
open Option renaming map_eq_some_iff->cm
open Option.some renaming inj->gH
namespace Go.Sg
open Go
inductive FK where
 |int (k:IntKind)
 |bool
 |str
 deriving DecidableEq,Inhabited
inductive PV where
 |int (k:IntKind) (n:Int)
 |bool (b:Bool)
 |str (s:ByteArray)
 |agg (cs:List PV)
 |sl (sz:Nat) (clip:Bool) (l:List PV)
 |fn (f:Fn) (first cap:List PV)
 |yj
 |yl
 |ro (cs:List PV)
 |iface (t:an) (v:PV)
 |p9
 |bR (vs:List PV)
 |mp (ks:List FK×Bool) (m:List (PV×PV))
 |un
 deriving Inhabited
def PV.cells:PV->List PV
 |.agg cs=>cs
 |v=>[v]
def PV.one:PV->Bool
 |.agg _=>false
 |.bR _=>false
 |_=>true
def xY(sz:Nat)(p:PV):Prop:=p.cells.length=sz/\ ∀c∈p.cells,c.one=true
def FK.ok:FK->PV->Bool
 |.int k,.int k' _=>decide (k=k')
 |.bool,.bool _=>true
 |.str,.str _=>true
 |_,_=>false
def gB:List FK->List PV->Bool
 |[],[]=>true
 |k::r,p::s=>k.ok p&&gB r s
 |_,_=>false
abbrev KT:=List FK×Bool
def qd:KT->PV->Bool
 |(ks,true),.agg cs=>gB ks cs
 |(_,true),_=>false
 |(ks,false),p=>gB ks [p]
def mE(es:Array dS)(clock:Nat):Prop:=(∀(i:Nat) e,es[i]? =some e->e.born<clock)/\ ∀(i j:Nat) e e',es[i]? =some e->es[j]? =some e'->e.born=e'.born->i=j
inductive RP(F:Nat->Prop)(w:aj):ah->PV->Prop
 |int (k:IntKind) (n:Int):RP F w (.int k n) (.int k n)
 |bool (b:Bool):RP F w (.bool b) (.bool b)
 |str (s:ByteArray):RP F w (.string s) (.str s)
 |yj:RP F w .nilFunc .yj
 |yl:RP F w (.pointer none) .yl
 |un (v:ah):v.cells= #[v]->v.oneCell'=true->RP F w v .un
 |p9:RP F w .nilIface .p9
 |ro (b off:Nat) (cs:List PV) (c:Nat->ah):(cs=[]\/F b)->(∀(j:Nat) q,cs[j]? =some q->w.cell? ⟨b,off+j,none⟩=some (c j))->(∀(j:Nat) q,cs[j]? =some q->RP F w (c j) q)->
   RP F w (.pointer (some ⟨b,off,none⟩)) (.ro cs)
 |iface (t:an) (v:ah) (q:PV):RP F w v q->RP F w (.iface t v) (.iface t q)
 |agg (cs:Array ah) (l:List PV):cs.size=l.length->(∀(i:Nat) p,l[i]? =some p->RP F w (cs[i]?.getD undef) p)->RP F w (.agg cs) (.agg l)
 |bR (cs:Array ah) (l:List PV):cs.size=l.length->(∀(i:Nat) p,l[i]? =some p->RP F w (cs[i]?.getD undef) p)->RP F w (.tuple cs) (.bR l)
 |fn (f:Fn) (as bs:Array ah) (ls ms:List PV):as.size=ls.length->bs.size=ms.length->
   (∀(i:Nat) p,ls[i]? =some p->RP F w (as[i]?.getD undef) p)->(∀(i:Nat) p,ms[i]? =some p->RP F w (bs[i]?.getD undef) p)->RP F w (.func f as bs) (.fn f ls ms)
 |mp (b:Nat) (ks:List FK×Bool) (m:List (PV×PV)) (es:Array dS) (clock:Nat):F b->w.heap[b]? =some (.map es clock)->(es.size=m.length/\mE es clock)->(∀x∈m,qd ks x.1=true)->
   (∀(i:Nat) k v e,m[i]? =some (k,v)->es[i]? =some e->RP F w e.key k)->(∀(i:Nat) k v e,m[i]? =some (k,v)->es[i]? =some e->RP F w e.val v)->RP F w (.map (some b)) (.mp ks m)
 |r5 (a:Option Addr) (cap sz:Nat) (clip:Bool):cap<=maxLen->(a=none->cap=0)->(clip=true->cap=0)->RP F w (.slice a 0 cap) (.sl sz clip [])
 |sl (b off len cap sz:Nat) (clip:Bool) (l:List PV) (c:Nat->Nat->ah):F b->len=l.length->len<=cap->cap<=maxLen->(clip=true->cap=len)->
   (∀(i:Nat) p,l[i]? =some p->xY sz p)->
   (∀(i:Nat) p (j:Nat) q,l[i]? =some p->p.cells[j]? =some q->w.cell? ⟨b,off+i*sz+j,none⟩=some (c i j))->
   (∀(i:Nat) p (j:Nat) q,l[i]? =some p->p.cells[j]? =some q->RP F w (c i j) q)->RP F w (.slice (some ⟨b,off,none⟩) len cap) (.sl sz clip l)
theorem ja{w w':aj}{a:Addr}(h:w'.heap[a.block]? =w.heap[a.block]?):w'.cell? a=w.cell? a:=by simp[World.cell?,h]
theorem RP.mono{F F':Nat->Prop}{w w':aj}{v:ah}{p:PV}(h:RP F w v p)(hF:∀b,F b->F' b)(hw:∀b,F b->w'.heap[b]? =w.heap[b]?):RP F' w' v p:=by
 induction h with
 |int k n=>exact .int k n
 |bool b=>exact .bool b
 |str s=>exact .str s
 |yj=>exact .yj
 |yl=>exact .yl
 |un v h1 h2=>exact .un v h1 h2
 |p9=>exact .p9
 |ro b off cs c h1 h2 _ ih=>
  refine .ro b off cs c (h1.imp id (hF b)) (λj q hq=>?_) ih
  have Fx:F b:=by rcases h1 with h|h;(subst h;simp at hq);exact h
  exact(ja (hw b Fx)).trans (h2 j q hq)
 |iface t v q _ ih=>exact .iface t v q ih
 |agg cs l h1 _ ih=>exact .agg cs l h1 ih
 |bR cs l h1 _ ih=>exact .bR cs l h1 ih
 |fn f as bs ls ms h1 h2 _ _ i1 i2=>exact .fn f as bs ls ms h1 h2 i1 i2
 |mp b ks m es clock hb h1 h2 h3 _ _ i1 i2=>exact .mp b ks m es clock (hF b hb) ((hw b hb).trans h1) h2 h3 i1 i2
 |r5 a cap sz clip h1 h2 h3=>exact .r5 a cap sz clip h1 h2 h3
 |sl b off len cap sz clip l c hb h1 h2 h3 h4 h5 h6 _ ih=>
  exact .sl b off len cap sz clip l c (hF b hb) h1 h2 h3 h4 h5 (λi p j q a b'=>(ja (hw b hb)).trans (h6 i p j q a b')) ih
theorem RP.DF{F:Nat->Prop}{w:aj}{v:ah}{cs:List PV}(h:RP F w v (.ro cs)):∃(b off:Nat) (c:Nat->ah),v= .pointer (some ⟨b,off,none⟩)/\(cs=[]\/F b)/\
 ∀(j:Nat) q,cs[j]? =some q->w.cell? ⟨b,off+j,none⟩=some (c j)/\RP F w (c j) q:=by
 cases h with
 |ro b off cs c h1 h2 h3=>exact⟨b,off,c,rfl,h1,λj q hq=>⟨h2 j q hq,h3 j q hq⟩⟩
theorem RP.W6{F:Nat->Prop}{w:aj}(b off:Nat)(cs:List PV)(c:Nat->ah)(h1:cs=[]\/F b)(h2:∀(j:Nat) q,cs[j]? =some q->w.cell? ⟨b,off+j,none⟩=some (c j)/\RP F w (c j) q):
 RP F w (.pointer (some ⟨b,off,none⟩)) (.ro cs):= .ro b off cs c h1 (λj q hq=>(h2 j q hq).1) (λj q hq=>(h2 j q hq).2)
def PV.le(p q:PV):Prop:=∀F w v,RP F w v p->RP F w v q
theorem PV.le_refl(p:PV):PV.le p p:=λ_ _ _ h=>h
theorem PV.le_trans{p q r:PV}(h:PV.le p q)(k:PV.le q r):PV.le p r:=λF w v x=>k F w v (h F w v x)
theorem PV.le_nil(s s':Nat)(c:Bool):PV.le (.sl s true []) (.sl s' c []):=λF w v h=>by
 cases h with
 |r5 a cap sz clip h1 h2 h3=>exact .r5 a cap _ _ h1 h2 (λ_=>h3 rfl)
 |sl b off len cap sz clip l c hb h1 h2 h3 h4 h5 h6 h7=>
  simp at h1;subst h1;exact .r5 _ cap _ _ h3 (by simp) (λ_=>h4 rfl)
theorem PV.ue(s:Nat)(c:Bool)(l:List PV):PV.le (.sl s c l) (.sl s false l):=λF w v h=>by
 cases h with
 |r5 a cap sz clip h1 h2 h3=>exact .r5 a cap _ _ h1 h2 (by simp)
 |sl b off len cap sz clip l c hb h1 h2 h3 h4 h5 h6 h7=>exact .sl b off len cap s false l c hb h1 h2 h3 (by simp) h5 h6 h7
theorem PV.TG(s:Nat)(c:Bool)(l:List PV):PV.le (.sl s c l) .un:=λF w v h=>by
 cases h<;>exact .un _ rfl rfl
def PV.Q0(a b:List PV):Prop:=a.length=b.length/\ ∀(i:Nat) p q,a[i]? =some p->b[i]? =some q->PV.le p q
theorem PV.ao:PV.Q0 [] []:=⟨rfl,λi p q h=>by simp at h⟩
theorem PV.ai{p q:PV}{a b:List PV}(h:PV.le p q)(k:PV.Q0 a b):PV.Q0 (p::a) (q::b):=
 ⟨by simp[k.1],λi x y hx hy=>by
  cases i with
  |zero=>simp at hx hy;subst hx;subst hy;exact h
  |succ i=>simp at hx hy;exact k.2 i x y hx hy⟩
theorem PV.ym{a b:List PV}(h:PV.Q0 a b):PV.le (.agg a) (.agg b):=λF w v x=>by
 cases x with
 |agg cs l h1 h2=>
  refine .agg cs b (h1.trans h.1) λi p hp=>?_;(have hi:i<a.length:=by rw[h.1];exact(aq.1 hp).1);exact h.2 i a[i] p (aV hi) hp F w _ (h2 i _ (aV hi))
theorem PV.fU{a b:List PV}(h:PV.Q0 a b):PV.le (.bR a) (.bR b):=λF w v x=>by
 cases x with
 |bR cs l h1 h2=>
  refine .bR cs b (h1.trans h.1) λi p hp=>?_;(have hi:i<a.length:=by rw[h.1];exact(aq.1 hp).1);exact h.2 i a[i] p (aV hi) hp F w _ (h2 i _ (aV hi))
inductive AV where
 |any
 |p (v:PV)
 |ptr (o off:Nat)
 |dJ (o sz off len:Nat)
 |bo (o sz i len:Nat)
 |jb (o sz i len cap:Nat)
 |cr (o sz i j:Nat)
 |mp (o:Nat)
 |ch (o:Nat)
 |agg (cs:List AV)
 |bR (vs:List AV)
 |fn (f:Fn) (first cap:List AV)
 deriving Inhabited
structure aN where
 f:Nat->Option Nat
 oW:Nat->Nat->Prop
instance:CoeFun aN (λ_=>Nat->Option Nat):=⟨aN.f⟩
def aN.has(μ:aN)(b:Nat):Prop:=(∃o,μ o=some b)\/ ∃m,μ.oW b m
def aN.no:aN:=⟨λ_=>none,λ_ _=>False⟩
theorem aN.lN{b:Nat}(h:aN.no.has b):False:=by
 rcases h with⟨o,h⟩|⟨m,h⟩<;>cases h
inductive RV(F:Nat->Prop)(μ:aN)(w:aj):ah->AV->Prop
 |any (v:ah):RV F μ w v .any
 |p {v:ah} {q:PV}:RP F w v q->RV F μ w v (.p q)
 |ptr (o off b:Nat):μ o=some b->RV F μ w (.pointer (some ⟨b,off,none⟩)) (.ptr o off)
 |dJ (o sz off bL len cap b:Nat) (t:an) (n:Nat):μ o=some b->(cap=0\/bL=off)->w.shape? b=some (t,n)->off+cap*sz<=n->len<=cap->cap<=maxLen->
   RV F μ w (.slice (some ⟨b,bL,none⟩) len cap) (.dJ o sz off len)
 |bo (o sz i len:Nat) (v:ah):RV F μ w v (.dJ o sz (i*sz) len)->RV F μ w v (.bo o sz i len)
 |jb (o sz i len cap:Nat) (base:Option Addr):RV F μ w (.slice base len cap) (.bo o sz i len)->RV F μ w (.slice base len cap) (.jb o sz i len cap)
 |cr (o sz i j:Nat) (v:ah):RV F μ w v (.ptr o (i*sz+j))->RV F μ w v (.cr o sz i j)
 |mp (o b:Nat):μ o=some b->RV F μ w (.map (some b)) (.mp o)
 |ch (o b:Nat):μ o=some b->RV F μ w (.chan (some b)) (.ch o)
 |agg (cs:Array ah) (l:List AV):cs.size=l.length->(∀(i:Nat) p,l[i]? =some p->RV F μ w (cs[i]?.getD undef) p)->RV F μ w (.agg cs) (.agg l)
 |bR (cs:Array ah) (l:List AV):cs.size=l.length->(∀(i:Nat) p,l[i]? =some p->RV F μ w (cs[i]?.getD undef) p)->RV F μ w (.tuple cs) (.bR l)
 |fn (f:Fn) (as bs:Array ah) (ls ms:List AV):as.size=ls.length->bs.size=ms.length->
   (∀(i:Nat) p,ls[i]? =some p->RV F μ w (as[i]?.getD undef) p)->(∀(i:Nat) p,ms[i]? =some p->RV F μ w (bs[i]?.getD undef) p)->RV F μ w (.func f as bs) (.fn f ls ms)
structure Step(F:Nat->Prop)(μ:aN)(w:aj)(F':Nat->Prop)(μ':aN)(w':aj):Prop where
 os:w'.os=w.os
 tape:w'.tape=w.tape
 output:w'.output=w.output
 size:w.heap.size<=w'.heap.size
 fr:∀b,F b->w'.heap[b]? =w.heap[b]?
 old:∀b,b<w.heap.size-> ¬ μ.has b->w'.heap[b]? =w.heap[b]?
 shape:∀b x,w.shape? b=some x->w'.shape? b=some x
 sub:∀b,F b->F' b
 jG:∀b,F' b->F b\/μ.has b\/w.heap.size<=b
 pre:∀o b,μ o=some b->μ' o=some b
 fV:∀b,μ'.has b->μ.has b\/w.heap.size<=b
theorem Step.refl(F:Nat->Prop)(μ:aN)(w:aj):Step F μ w F μ w:=
 ⟨rfl,rfl,rfl,aX _,λ_ _=>rfl,λ_ _ _=>rfl,λ_ _ h=>h,λ_ h=>h,λ_ h=>.inl h,λ_ _ h=>h,λ_ h=>.inl h⟩
theorem Step.trans{F F1 F2:Nat->Prop}{μ Ij jL:aN}{w w1 w2:aj}(h:Step F μ w F1 Ij w1)(k:Step F1 Ij w1 F2 jL w2):Step F μ w F2 jL w2 where
 os:=k.os.trans h.os
 tape:=k.tape.trans h.tape
 output:=k.output.trans h.output
 size:=dW h.size k.size
 fr:=λb hb=>(k.fr b (h.sub b hb)).trans (h.fr b hb)
 old:=λb hb hn=>(k.old b (fl hb h.size) (λhm=>by rcases h.fV b hm with h1|h1;(exact hn h1);omega)).trans (h.old b hb hn)
 shape:=λb x hx=>k.shape b x (h.shape b x hx)
 sub:=λb hb=>k.sub b (h.sub b hb)
 jG:=λb hb=>by
  rcases k.jG b hb with h1|h1|h1
  · exact h.jG b h1
  · exact .inr (h.fV b h1)
  · exact .inr (.inr (dW h.size h1))
 pre:=λo b hb=>k.pre o b (h.pre o b hb)
 fV:=λb hb=>by
  rcases k.fV b hb with h1|h1
  · exact h.fV b h1
  · exact .inr (dW h.size h1)
theorem RV.step{F F':Nat->Prop}{μ μ':aN}{w w':aj}{v:ah}{a:AV}(h:RV F μ w v a)(s:Step F μ w F' μ' w'):RV F' μ' w' v a:=by
 induction h with
 |any v=>exact .any v
 |p h=>exact .p (h.mono s.sub s.fr)
 |ptr o off b h=>exact .ptr o off b (s.pre _ _ h)
 |dJ o sz off bL len cap b t n h1 h0 h2 h3 h4 h5=>exact .dJ o sz off bL len cap b t n (s.pre _ _ h1) h0 (s.shape b _ h2) h3 h4 h5
 |bo o sz i len v _ ih=>exact .bo o sz i len _ ih
 |jb o sz i len cap base _ ih=>exact .jb o sz i len cap base ih
 |cr o sz i j v _ ih=>exact .cr o sz i j _ ih
 |mp o b h=>exact .mp o b (s.pre _ _ h)
 |ch o b h=>exact .ch o b (s.pre _ _ h)
 |agg cs l h1 _ ih=>exact .agg cs l h1 ih
 |bR cs l h1 _ ih=>exact .bR cs l h1 ih
 |fn f as bs ls ms h1 h2 _ _ i1 i2=>exact .fn f as bs ls ms h1 h2 i1 i2
inductive MV where
 |h (l:List PV)
 |v (a:AV)
 deriving Inhabited
inductive bJ where
 |dead
 |cells (cs:List AV)
 |row (sz:Nat) (l:List PV)
 |map (ks:List FK×Bool) (m:List (PV×PV))
 |chan (cap:Nat) (buf:List PV)
 |iter (rem:List (PV×PV)) (cur:Option (PV×PV))
 |cN (ks:List FK×Bool) (sz:Nat) (m:List (PV×MV))
 deriving Inhabited
def oX(F:Nat->Prop)(w:aj)(b:Nat)(rem:List (PV×PV))(cur:Option (PV×PV)):Prop:=
 ∃(m:Nat) (es:Array dS) (clock:Nat) (seen:Array Nat),w.heap[b]? =some (.mapIter (some m) clock seen clock)/\F m/\w.heap[m]? =some (.map es clock)/\mE es clock/\
  ((es.filter λe=> !seen.contains e.born).size=rem.length/\ ∀(i:Nat) k v e,rem[i]? =some (k,v)->(es.filter λe=> !seen.contains e.born)[i]? =some e->RP F w e.key k/\RP F w e.val v)/\
  ∀k v,cur=some (k,v)->∃(On:Array Nat) (e:dS),seen=On.push e.born/\e∈es.toList/\RP F w e.key k/\RP F w e.val v
theorem mE.nodup{es:Array dS}{clock:Nat}(h:mE es clock):(es.toList.map (·.born)).Nodup:=by
 rw[List.nodup_iff_pairwise_ne,List.pairwise_map,List.pairwise_iff_getElem];intro i j hi hj gx e;have:=h.2 i j es.toList[i] es.toList[j] (by simp at hi ⊢) (by simp at hj ⊢) e;omega
theorem oX.mono{F F':Nat->Prop}{w w':aj}{b:Nat}{rem:List (PV×PV)}{cur:Option (PV×PV)}(h:oX F w b rem cur)(hF:∀b,F b->F' b)(hw:∀b,F b->w'.heap[b]? =w.heap[b]?)(hb:w'.heap[b]? =w.heap[b]?):oX F' w' b rem cur:=by
 obtain⟨m,es,clock,seen,h1,h2,h3,h4,⟨h5,h6⟩,h7⟩:=h;refine⟨m,es,clock,seen,hb.trans h1,hF m h2,(hw m h2).trans h3,h4,⟨h5,λi k v e a c=>?_⟩,λk v e=>?_⟩
 · obtain⟨p,q⟩:=h6 i k v e a c
   exact⟨p.mono hF hw,q.mono hF hw⟩
 · obtain⟨s,e,a,c,p,q⟩:=h7 k v e
   exact⟨s,e,a,c,p.mono hF hw,q.mono hF hw⟩
def bc(l:List PV):List AV:=(l.flatMap PV.cells).map .p
abbrev ab:=List (Nat×bJ)
def ab.get:ab->Nat->bJ
 |[],_=>.dead
 |(j,v)::r,i=>if j=i then v else ab.get r i
def Fy(F:Nat->Prop)(w:aj)(c sz:Nat)(v:ah)(l:List PV):Prop:=
 (∀p∈l,xY sz p)/\ ∃(off cap:Nat) (cur:Array ah) (t:an),(v= .slice (some ⟨c,off,none⟩) l.length cap/\(cap=0\/off=0)/\cap*sz<=cur.size/\l.length<=cap/\cap<=maxLen)/\
   w.heap[c]? =some (.cells cur t (0,0))/\(bc l).length<=cur.size/\ ∀(i:Nat) p,(l.flatMap PV.cells)[i]? =some p->RP F w (cur[i]?.getD undef) p
theorem Fy.mono{F F':Nat->Prop}{w w':aj}{c sz:Nat}{v:ah}{l:List PV}(h:Fy F w c sz v l)(hF:∀b,F b->F' b)(hw:∀b,F b->w'.heap[b]? =w.heap[b]?)(hc:w'.heap[c]? =w.heap[c]?):Fy F' w' c sz v l:=by
 obtain⟨h0,off,cap,cur,t,h1,h2,h3,h4⟩:=h;exact⟨h0,off,cap,cur,t,h1,hc.trans h2,h3,λi p hp=>(h4 i p hp).mono hF hw⟩
def IA(F:Nat->Prop)(μ:aN)(w:aj)(b sz c:Nat)(v:ah):MV->Prop
 |.h l=>μ.oW c b/\Fy F w c sz v l
 |.v a=>RV F μ w v a
def RO(F:Nat->Prop)(μ:aN)(w:aj)(b:Nat):bJ->Prop
 |.dead=>True
 |.cells cs=>∃cur t,w.heap[b]? =some (.cells cur t (0,0))/\cs.length<=cur.size/\ ∀(i:Nat) c,cs[i]? =some c->RV F μ w (cur[i]?.getD undef) c
 |.row sz l=>(∀p∈l,xY sz p)/\ ∃cur t,w.heap[b]? =some (.cells cur t (0,0))/\(bc l).length<=cur.size/\ ∀(i:Nat) c,(bc l)[i]? =some c->RV F μ w (cur[i]?.getD undef) c
 |.map ks m=>(∀x∈m,qd ks x.1=true)/\ ∃es clock,w.heap[b]? =some (.map es clock)/\es.size=m.length/\mE es clock/\
   (∀(i:Nat) k v,m[i]? =some (k,v)->∃e:dS,es[i]? =some e/\RP F w e.key k/\RP F w e.val v)
 |.chan cap buf=>∃bs xA recvd,w.heap[b]? =some (.chan cap bs false xA recvd false)/\bs.size=buf.length/\ ∀(i:Nat) c,buf[i]? =some c->RP F w (bs[i]?.getD undef) c
 |.iter rem cur=>oX F w b rem cur
 |.cN ks sz m=>(∀x∈m,qd ks x.1=true)/\ ∃es clock,w.heap[b]? =some (.map es clock)/\es.size=m.length/\mE es clock/\ ∃c:Nat->Nat,
   (∀(i:Nat) k x,m[i]? =some (k,x)->∃e:dS,es[i]? =some e/\RP F w e.key k/\IA F μ w b sz (c i) e.val x)/\
   ∀(i j:Nat) k k' l l',m[i]? =some (k,.h l)->m[j]? =some (k',.h l')->c i=c j->i=j
theorem RO.step{F F':Nat->Prop}{μ μ':aN}{w w':aj}{b:Nat}{o:bJ}(h:RO F μ w b o)(s:Step F μ w F' μ' w')(hb:w'.heap[b]? =w.heap[b]?)
 (hh:∀c,μ.oW c b->μ'.oW c b/\w'.heap[c]? =w.heap[c]?):RO F' μ' w' b o:=by
 cases o with
 |dead=>trivial
 |cells cs=>
  obtain⟨cur,t,h1,h2,h3⟩:=h;exact⟨cur,t,hb.trans h1,h2,λi c hc=>(h3 i c hc).step s⟩
 |row sz l=>
  obtain⟨h0,cur,t,h1,h2,h3⟩:=h;exact⟨h0,cur,t,hb.trans h1,h2,λi c hc=>(h3 i c hc).step s⟩
 |map ks m=>
  obtain⟨h0,es,clock,h1,h2,h3,h4⟩:=h;exact⟨h0,es,clock,hb.trans h1,h2,h3,λi k v hm=>let⟨e,a,b,c⟩:=h4 i k v hm;⟨e,a,b.mono s.sub s.fr,c.mono s.sub s.fr⟩⟩
 |chan cap buf=>
  obtain⟨bs,x,y,h1,h2,h3⟩:=h;exact⟨bs,x,y,hb.trans h1,h2,λi c hc=>(h3 i c hc).mono s.sub s.fr⟩
 |iter rem cur=>exact oX.mono h s.sub s.fr hb
 |cN ks sz m=>
  obtain⟨h0,es,clock,h1,h2,h3,c,h4,h5⟩:=h;refine⟨h0,es,clock,hb.trans h1,h2,h3,c,λi k x hx=>?_,h5⟩;obtain⟨e,a,d,g⟩:=h4 i k x hx;refine⟨e,a,d.mono s.sub s.fr,?_⟩
  cases x with
  |h l=>
   obtain⟨g1,g2⟩:=hh _ g.1;exact⟨g1,g.2.mono s.sub s.fr g2⟩
  |v av=>exact RV.step g s
def W7:List (Nat×List Nat):=[(0,[324,325,326,327,328])]
def IB(F:Nat->Prop)(w:aj):Prop:=∀x∈W7,F x.1/\ ∀(j f:Nat),x.2[j]? =some f->w.cell? ⟨x.1,0+j,none⟩=some (.func (.func f) #[] #[])
theorem IB.step{F F':Nat->Prop}{w w':aj}(h:IB F w)(hF:∀b,F b->F' b)(hw:∀b,F b->w'.heap[b]? =w.heap[b]?):IB F' w':=λx hx=>
 ⟨hF _ (h x hx).1,λj f hf=>(ja (hw _ (h x hx).1)).trans ((h x hx).2 j f hf)⟩
structure KJ(F:Nat->Prop)(w:aj):Prop where
 lt:∀b,F b->b<w.heap.size
 gl:IB F w
instance{F:Nat->Prop}{w:aj}:CoeFun (KJ F w) (λ_=>∀b,F b->b<w.heap.size):=⟨KJ.lt⟩
theorem KJ.st{F F':Nat->Prop}{μ μ':aN}{w w':aj}(h:KJ F w)(s:Step F μ w F' μ' w')(hl:∀b,F' b->b<w'.heap.size):KJ F' w':=⟨hl,h.gl.step s.sub s.fr⟩
theorem KJ.step{F F':Nat->Prop}{w w':aj}(h:KJ F w)(hF:∀b,F b->F' b)(hw:∀b,F b->w'.heap[b]? =w.heap[b]?)(hl:∀b,F' b->b<w'.heap.size):KJ F' w':=⟨hl,h.gl.step hF hw⟩
structure az(F:Nat->Prop)(μ:aN)(σ:ab)(w:aj):Prop where
 fb:KJ F w
 mb:∀b,μ.has b->b<w.heap.size
 has:∀o,σ.get o≠ .dead->∃b,μ o=some b
 obj:∀o b,μ o=some b->RO F μ w b (σ.get o)
 live:∀o b,σ.get o≠ .dead->μ o=some b-> ¬ F b
 inj:∀i j b,σ.get i≠ .dead->σ.get j≠ .dead->μ i=some b->μ j=some b->i=j
 hd:∀c m,μ.oW c m-> ¬ F c/\ ∀o,σ.get o≠ .dead->μ o≠some c
 hu:∀c m m',μ.oW c m->μ.oW c m'->m=m'
theorem az.nil{F:Nat->Prop}{w:aj}(h:KJ F w):az F aN.no [] w:=by
 refine⟨h,?_,?_,?_,?_,?_,?_,λ_ _ _ h=>h.elim⟩
 · intro b hb;exact(aN.lN hb).elim
 · intro o ho;exact absurd rfl ho
 · intro o b hb;cases hb
 · intro o b ho;exact absurd rfl ho
 · intro i j b ho;exact absurd rfl ho
 · intro c m h;exact h.elim
theorem az.cells{F:Nat->Prop}{μ:aN}{σ:ab}{w:aj}(h:az F μ σ w){o b:Nat}{cs:List AV}(ho:σ.get o= .cells cs)(hb:μ o=some b):
 ∃cur t,w.heap[b]? =some (.cells cur t (0,0))/\cs.length<=cur.size/\ ∀(i:Nat) c,cs[i]? =some c->RV F μ w (cur[i]?.getD undef) c:=by
 have:=h.obj o b hb;rw[ho] at this;exact this
theorem az.block{F:Nat->Prop}{μ:aN}{σ:ab}{w:aj}(h:az F μ σ w){o:Nat}{x:bJ}(ho:σ.get o=x)(hx:x≠ .dead):∃b,μ o=some b:=h.has o (by rw[ho];exact hx)
theorem az.Fz{F F':Nat->Prop}{μ:aN}{σ:ab}{w w':aj}(h:az F μ σ w)(s:Step F μ w F' μ w')
 (hb:∀b,b<w.heap.size->w'.heap[b]? =w.heap[b]?) (hF:∀b,F' b->F b\/(w.heap.size<=b/\b<w'.heap.size)):az F' μ σ w' where
 fb:=h.fb.st s λb hf=>by rcases hF b hf with h1|h1;(exact fl (h.fb b h1) s.size);exact h1.2
 mb:=λb hm=>fl (h.mb b hm) s.size
 has:=h.has
 obj:=λo b hm=>(h.obj o b hm).step s (hb b (h.mb b (.inl ⟨o,hm⟩))) λc hc=>⟨hc,hb c (h.mb c (.inr ⟨b,hc⟩))⟩
 live:=λo b hd hm hf=>by
  rcases hF b hf with h1|h1
  · exact h.live o b hd hm h1
  · have:=h.mb b (.inl ⟨o,hm⟩);omega
 inj:=h.inj
 hd:=λc m hc=>⟨λhf=>by
  rcases hF c hf with h1|h1
  · exact(h.hd c m hc).1 h1
  · have:=h.mb c (.inr ⟨m,hc⟩);omega,(h.hd c m hc).2⟩
 hu:=h.hu
def aN.put(μ:aN)(o b:Nat):aN:=⟨λi=>if i=o then some b else μ i,μ.oW⟩
theorem aN.jc(μ:aN)(o b:Nat):μ.put o b o=some b:=by simp[aN.put]
theorem aN.xZ{μ:aN}{o b k:Nat}(h:(μ.put o b).has k):μ.has k\/k=b:=by
 rcases h with⟨i,hi⟩|⟨m,hm⟩
 · have hi:(if i=o then some b else μ i)=some k:=hi
   split at hi
   · injection hi with hi;exact .inr hi.symm
   · exact .inl (.inl ⟨i,hi⟩)
 · exact .inl (.inr ⟨m,hm⟩)
theorem aN.x1{μ:aN}{o b:Nat}(h:μ o=none):∀i k,μ i=some k->μ.put o b i=some k:=λi k hk=>by
 show(if i=o then some b else μ i)=some k;split
 · rename_i e;subst e;rw[h] at hk;cases hk
 · exact hk
theorem ab.cI(j:Nat)(v:bJ)(r:ab)(i:Nat):ab.get ((j,v)::r) i=if j=i then v else ab.get r i:=rfl
theorem az.push{F:Nat->Prop}{μ:aN}{σ:ab}{w:aj}(h:az F μ σ w){n:Nat}(hn:μ n=none)(x:Obj)(o:bJ)
 (ho:∀(w':aj),Step F μ w F (μ.put n w.heap.size) w'->w'.heap[w.heap.size]? =some x->RO F (μ.put n w.heap.size) w' w.heap.size o):
 az F (μ.put n w.heap.size) ((n,o)::σ) { w with heap:=w.heap.push x } /\Step F μ w F (μ.put n w.heap.size) { w with heap:=w.heap.push x }:=by
 have hold:∀b,b<w.heap.size->(w.heap.push x)[b]? =w.heap[b]? :=λb hb=>by rw[kG,if_neg (by omega)]
 have hs:Step F μ w F (μ.put n w.heap.size) { w with heap:=w.heap.push x }:=
  ⟨rfl,rfl,rfl,by simp,λb hb=>hold b (h.fb b hb),λb hb _=>hold b hb,λb y hy=>by
   have hb:b<w.heap.size:=by
    unfold cC at hy;rcases dK b w.heap.size with h'|h'
    · exact h'
    · simp[Array.getElem?_eq_none h'] at hy
   unfold cC at *
   simp only[hold b hb];exact hy,λ_ h=>h,λ_ h=>.inl h,aN.x1 hn,λb hb=>by rcases aN.xZ hb with h1|h1;(exact .inl h1);exact .inr (by omega)⟩
 have get:∀i b,μ.put n w.heap.size i=some b->(i=n/\b=w.heap.size/\ab.get ((n,o)::σ) i=o)\/(i≠n/\μ i=some b/\ab.get ((n,o)::σ) i=σ.get i):=λi b hi=>by
  have hi:(if i=n then some w.heap.size else μ i)=some b:=hi;rw[ab.cI];by_cases e:i=n
  · rw[if_pos e] at hi;injection hi with hi;exact .inl ⟨e,hi.symm,if_pos e.symm⟩
  · rw[if_neg e] at hi;exact .inr ⟨e,hi,if_neg (λk=>e k.symm)⟩
 refine⟨⟨h.fb.st hs λb hb=>fl (h.fb b hb) hs.size,λb hb=>by
  simp;rcases aN.xZ hb with h1|h1;(exact Nat.lt_succ_of_lt (h.mb b h1));omega,?_,?_,?_,?_,?_,h.hu⟩,hs⟩
 · intro i hi
   by_cases e:i=n
   · subst e;exact⟨_,aN.jc _ _ _⟩
   · rw[ab.cI,if_neg (λk=>e k.symm)] at hi
     obtain⟨b,hb⟩:=h.has i hi;exact⟨b,aN.x1 hn _ _ hb⟩
 · intro i b hm
   rcases get i b hm with⟨_,rfl,e⟩|⟨_,nj,e⟩
   · rw[e];exact ho _ hs (by simp)
   · rw[e];exact(h.obj i b nj).step hs (hold b (h.mb b (.inl ⟨i,nj⟩))) λc hc=>⟨hc,hold c (h.mb c (.inr ⟨b,hc⟩))⟩
 · intro i b hd hm hf
   rcases get i b hm with⟨_,rfl,e⟩|⟨_,nj,e⟩
   · have:=h.fb _ hf;omega
   · rw[e] at hd;exact h.live i b hd nj hf
 · intro i j b h3 h4 h5 h6
   rcases get i b h5 with⟨e1,e2,_⟩|⟨_,k1,e⟩
   · rcases get j b h6 with⟨e3,_,_⟩|⟨_,k2,_⟩
     · omega
     · have:=h.mb b (.inl ⟨j,k2⟩);omega
   · rcases get j b h6 with⟨_,e3,_⟩|⟨_,k2,e'⟩
     · have:=h.mb b (.inl ⟨i,k1⟩);omega
     · rw[e] at h3;rw[e'] at h4;exact h.inj i j b h3 h4 k1 k2
 · intro c m hc
   have Rw:μ.oW c m:=hc;refine⟨(h.hd c m Rw).1,λi hi hm=>?_⟩;rcases get i c hm with⟨_,e,_⟩|⟨_,k1,e⟩
   · have:=h.mb c (.inr ⟨m,Rw⟩);omega
   · rw[e] at hi;exact(h.hd c m Rw).2 i hi k1
abbrev Env:=List (Nat×AV)
def Env.get:Env->Nat->AV
 |[],_=>.any
 |(j,v)::r,i=>if j=i then v else Env.get r i
def yn:ah->Option PV
 |.int k n=>some (.int k n)
 |.bool b=>some (.bool b)
 |.string s=>some (.str s)
 |.slice none 0 0=>some (.sl 0 true [])
 |.pointer none=>some .yl
 |.nilFunc=>some .yj
 |.nilIface=>some .p9
 |_=>none
def nA:List ah->Option (List PV)
 |[]=>some []
 |v::r=>match yn v,nA r with|some p,some q=>some (p::q)|_,_=>none
def DG:ah->AV
 |.agg cs=>match nA cs.toList with|some l=>.p (.agg l)|none=>.any
 |.tuple cs=>if cs.size=0 then .p (.bR []) else .any
 |v=>match yn v with|some p=>.p p|none=>.any
theorem wz{F:Nat->Prop}{w:aj}{v:ah}{p:PV}(h:yn v=some p):RP F w v p:=by
 unfold yn at h;split at h<;>first|(cases h;done)|(injection h with h;subst h)
 · exact .int _ _
 · exact .bool _
 · exact .str _
 · exact .r5 none 0 0 true (by unfold maxLen;omega) (λ_=>rfl) (λ_=>rfl)
 · exact .yl
 · exact .yj
 · exact .p9
theorem l8{F:Nat->Prop}{w:aj}:∀{l:List ah} {q:List PV},nA l=some q->l.length=q.length/\ ∀(i:Nat) p,q[i]? =some p->RP F w (l[i]?.getD undef) p
 |[],q,h=>by simp[nA] at h;subst h;simp
 |v::r,q,h=>by
  simp only[nA] at h;split at h
  · rename_i p q' h1 h2
    injection h with h;subst h;obtain⟨h3,h4⟩:=l8 (F:=F) (w:=w) h2;refine⟨by simp[h3],λi x hx=>?_⟩
    cases i with
    |zero=>simp at hx;subst hx;simpa using wz h1
    |succ i=>simp at hx;simpa using h4 i x hx
  · cases h
theorem uf{F:Nat->Prop}{μ:aN}{w:aj}(v:ah):RV F μ w v (DG v):=by
 have rest:RV F μ w v (match yn v with|some p=>.p p|none=>.any):=by
  split
  · rename_i p hp;exact .p (wz hp)
  · exact .any _
 cases v<;>first|exact rest|skip
 · rename_i cs
   show RV F μ w _ (match nA cs.toList with|some l=>.p (.agg l)|none=>.any);split
   · rename_i l hl
     obtain⟨h1,h2⟩:=l8 (F:=F) (w:=w) hl;exact .p (.agg cs l (by simpa using h1) (by simpa using h2))
   · exact .any _
 · rename_i cs
   show RV F μ w _ (if cs.size=0 then .p (.bR []) else .any);split
   · rename_i h0;exact .p (.bR _ _ h0 (by simp))
   · exact .any _
def qt:List AV->Option (List PV)
 |[]=>some []
 |.p v::r=>match qt r with|some q=>some (v::q)|none=>none
 |_=>none
def Cc(l:List AV):AV:=match qt l with|some q=>.p (.agg q)|none=>.agg l
def Oo(l:List AV):AV:=match qt l with|some q=>.p (.bR q)|none=>.bR l
def UE(f:Fn)(a b:List AV):AV:=match qt a,qt b with|some x,some y=>.p (.fn f x y)|_,_=>.fn f a b
theorem yp:∀{l:List AV} {q:List PV},qt l=some q->l=q.map AV.p
 |[],q,h=>by simp[qt] at h;subst h;rfl
 |a::r,q,h=>by
  (cases a<;>simp only[qt] at h<;>try(cases h;done));rename_i v;split at h
  · rename_i q' hq
    injection h with h;subst h;simp[yp hq]
  · cases h
section
variable{F:Nat->Prop}{μ:aN}{w:aj}
theorem RV.bG{v:ah}{p:PV}(h:RV F μ w v (.p p)):RP F w v p:=by cases h;assumption
theorem ug{l:List AV}{q:List PV}(h:qt l=some q){f:Nat->ah}(hr:∀(i:Nat) p,l[i]? =some p->RV F μ w (f i) p):l.length=q.length/\ ∀(i:Nat) p,q[i]? =some p->RP F w (f i) p:=by
 have:=yp h;subst this;refine⟨by simp,λi p hp=>(hr i (.p p) (by simp[hp])).bG⟩
theorem ta{cs:Array ah}{l:List AV}(h:cs.size=l.length)(hr:∀(i:Nat) p,l[i]? =some p->RV F μ w (cs[i]?.getD undef) p):RV F μ w (.agg cs) (Cc l):=by
 unfold Cc;split
 · rename_i q hq
   obtain⟨h1,h2⟩:=ug hq hr;exact .p (.agg cs q (h.trans h1) h2)
 · exact .agg cs l h hr
theorem IC{cs:Array ah}{l:List AV}(h:cs.size=l.length)(hr:∀(i:Nat) p,l[i]? =some p->RV F μ w (cs[i]?.getD undef) p):RV F μ w (.tuple cs) (Oo l):=by
 unfold Oo;split
 · rename_i q hq
   obtain⟨h1,h2⟩:=ug hq hr;exact .p (.bR cs q (h.trans h1) h2)
 · exact .bR cs l h hr
theorem L9{f:Fn}{as bs:Array ah}{la lb:List AV}(ha:as.size=la.length)(hb:bs.size=lb.length)
 (h1:∀(i:Nat) p,la[i]? =some p->RV F μ w (as[i]?.getD undef) p) (h2:∀(i:Nat) p,lb[i]? =some p->RV F μ w (bs[i]?.getD undef) p):RV F μ w (.func f as bs) (UE f la lb):=by
 unfold UE;split
 · rename_i x y hx hy
   obtain⟨a1,a2⟩:=ug hx h1;obtain⟨b1,b2⟩:=ug hy h2;exact .p (.fn f as bs x y (ha.trans a1) (hb.trans b1) a2 b2)
 · exact .fn f as bs la lb ha hb h1 h2
def AV.cells:AV->List AV
 |.p v=>v.cells.map .p
 |.agg cs=>cs
 |v=>[v]
theorem RP.cells{v:ah}{p:PV}(h:RP F w v p):v.cells.size=p.cells.length/\ ∀(i:Nat) q,p.cells[i]? =some q->RP F w (v.cells[i]?.getD undef) q:=by
 have one:∀{v:ah} {p:PV},v.cells= #[v]->p.cells=[p]->RP F w v p->v.cells.size=p.cells.length/\ ∀(i:Nat) q,p.cells[i]? =some q->RP F w (v.cells[i]?.getD undef) q:=by
  intro v p hv hp h;rw[hv,hp];refine⟨rfl,λi q hq=>?_⟩
  cases i with
  |zero=>simp at hq;subst hq;simpa using h
  |succ i=>simp at hq
 cases h with
 |agg cs l h1 h2=>exact⟨h1,h2⟩
 |int k n=>exact one rfl rfl (.int k n)
 |bool b=>exact one rfl rfl (.bool b)
 |str s=>exact one rfl rfl (.str s)
 |yj=>exact one rfl rfl .yj
 |yl=>exact one rfl rfl .yl
 |un v h1 h2=>exact one h1 rfl (.un v h1 h2)
 |ro b off cs c h1 h2 h3=>exact one rfl rfl (.ro b off cs c h1 h2 h3)
 |p9=>exact one rfl rfl .p9
 |iface t v q h=>exact one rfl rfl (.iface t v q h)
 |bR cs l h1 h2=>exact one rfl rfl (.bR cs l h1 h2)
 |fn f as bs ls ms h1 h2 h3 h4=>exact one rfl rfl (.fn f as bs ls ms h1 h2 h3 h4)
 |mp b ks m es clock h0 h1 h2 h3 h4 h5=>exact one rfl rfl (.mp b ks m es clock h0 h1 h2 h3 h4 h5)
 |r5 a cap sz clip h1 h2 h3=>exact one rfl rfl (.r5 a cap sz clip h1 h2 h3)
 |sl b off len cap sz clip l c hb h1 h2 h3 h4 h5 h6 h7=>exact one rfl rfl (.sl b off len cap sz clip l c hb h1 h2 h3 h4 h5 h6 h7)
theorem RV.cells{v:ah}{a:AV}(ha:a≠ .any)(h:RV F μ w v a):v.cells.size=a.cells.length/\ ∀(i:Nat) c,a.cells[i]? =some c->RV F μ w (v.cells[i]?.getD undef) c:=by
 have one:∀{v:ah} {a:AV},v.cells= #[v]->a.cells=[a]->RV F μ w v a->v.cells.size=a.cells.length/\ ∀(i:Nat) c,a.cells[i]? =some c->RV F μ w (v.cells[i]?.getD undef) c:=by
  intro v p hv hp h;rw[hv,hp];refine⟨rfl,λi q hq=>?_⟩
  cases i with
  |zero=>simp at hq;subst hq;simpa using h
  |succ i=>simp at hq
 cases h with
 |any v=>exact absurd rfl ha
 |p h=>
  obtain⟨h1,h2⟩:=h.cells;refine⟨by simpa[AV.cells] using h1,λi c hc=>?_⟩;simp only[AV.cells,aW,cm] at hc;obtain⟨q,hq,rfl⟩:=hc;exact .p (h2 i q hq)
 |agg cs l h1 h2=>exact⟨h1,h2⟩
 |ptr o off b h=>exact one rfl rfl (.ptr o off b h)
 |dJ o sz off bL len cap b t n h1 h0 h2 h3 h4 h5=>exact one rfl rfl (.dJ o sz off bL len cap b t n h1 h0 h2 h3 h4 h5)
 |bo o sz i len v h=>cases h with|dJ o sz off bL len cap b t n h1 h0 h2 h3 h4 h5=>exact one rfl rfl (.bo _ _ _ _ _ (.dJ o sz _ bL len cap b t n h1 h0 h2 h3 h4 h5))
 |jb o sz i len cap base h=>exact one rfl rfl (.jb o sz i len cap base h)
 |cr o sz i j v h=>cases h with|ptr o off b h=>exact one rfl rfl (.cr _ _ _ _ _ (.ptr o _ b h))
 |mp o b h=>exact one rfl rfl (.mp o b h)
 |ch o b h=>exact one rfl rfl (.ch o b h)
 |bR cs l h1 h2=>exact one rfl rfl (.bR cs l h1 h2)
 |fn f as bs ls ms h1 h2 h3 h4=>exact one rfl rfl (.fn f as bs ls ms h1 h2 h3 h4)
end
def ID:TypeDesc->Bool
 |.struct _|.array _ _=>true
 |_=>false
def tT(P:au)(t:an):Option (Nat×Bool):=
 match P.info? t,P.underlying t with|some i,some d=>some (i.size,ID d)|_,_=>none
def tF(P:au)(t:an)(f:Nat):Option (Nat×Nat×Bool):=
 match P.underlying t with
 |some (.struct fs)=>match fs[f]? with|some x=>(match tT P x.type with|some (s,g)=>some (x.offset,s,g)|none=>none)|none=>none
 |_=>none
def tE(P:au)(t:an):Option (Nat×Bool):=
 match P.underlying t with|some (.slice e)=>tT P e|_=>none
def tA(P:au)(t:an):Option (Nat×Nat×Bool):=
 match P.underlying t with|some (.array n e)=>(match tT P e with|some (s,g)=>some (n,s,g)|none=>none)|_=>none
def tZ(P:au)(t:an):Option (List PV):=
 match P.info? t with|some i=>(match i.zero with|some v=>nA v.cells.toList|none=>none)|none=>none
theorem DH{P:au}{t:an}{s:Nat}{g:Bool}(h:tT P t=some (s,g)):(∃i,P.info? t=some i/\i.size=s)/\ ∃d,P.underlying t=some d/\ID d=g:=by
 unfold tT at h;split at h
 · rename_i i d h1 h2;simp at h;exact⟨⟨i,h1,h.1⟩,d,h2,h.2⟩
 · cases h
theorem kJ{P:au}{t:an}{s:Nat}{g:Bool}(h:tT P t=some (s,g))(w:aj):(isAgg t).run P w= .ok g w:=by
 obtain⟨_,d,h1,h2⟩:=DH h;subst h2;simp[isAgg,underlying,h1];cases d<;>simp[ID]
theorem run_sizeOf{P:au}{t:an}{s:Nat}{g:Bool}(h:tT P t=some (s,g))(w:aj):(sizeOf t).run P w= .ok s w:=by
 obtain⟨⟨i,h1,h2⟩,_⟩:=DH h;subst h2;simp[sizeOf,typeInfo,h1]
theorem KK{P:au}{t:an}{f off s:Nat}{g:Bool}(h:tF P t f=some (off,s,g)):
 ∃fs x,P.underlying t=some (.struct fs)/\fs[f]? =some x/\x.offset=off/\tT P x.type=some (s,g):=by
 unfold tF at h;split at h
 · rename_i fs h1
   split at h
   · rename_i x hx
     split at h
     · rename_i s' g' hs
       simp at h;obtain⟨rfl,rfl,rfl⟩:=h;exact⟨fs,x,h1,hx,rfl,hs⟩
     · cases h
   · cases h
 · cases h
theorem jl{P:au}{t:an}{s:Nat}{g:Bool}(h:tE P t=some (s,g)):∃e,P.underlying t=some (.slice e)/\tT P e=some (s,g):=by
 unfold tE at h;split at h
 · rename_i e h1;exact⟨e,h1,h⟩
 · cases h
theorem DI{P:au}{t:an}{n s:Nat}{g:Bool}(h:tA P t=some (n,s,g)):∃e,P.underlying t=some (.array n e)/\tT P e=some (s,g):=by
 unfold tA at h;split at h
 · rename_i m e h1
   split at h
   · rename_i s' g' h2;simp at h;obtain⟨rfl,rfl,rfl⟩:=h;exact⟨e,h1,h2⟩
   · cases h
 · cases h
theorem Rx{P:au}{t:an}{l:List PV}(h:tZ P t=some l):∃i v,P.info? t=some i/\i.zero=some v/\nA v.cells.toList=some l:=by
 unfold tZ at h;split at h
 · rename_i i h1
   split at h
   · rename_i v hv;exact⟨i,v,h1,hv,h⟩
   · cases h
 · cases h
theorem eB{P:au}{t:an}{l:List PV}(h:tZ P t=some l)(w:aj):∃v,(∀w',(zeroValue t).run P w'= .ok v w')/\v.cells.size=l.length/\ ∀F (i:Nat) p,l[i]? =some p->RP F w (v.cells[i]?.getD undef) p:=by
 obtain⟨i,v,h1,h2,h3⟩:=Rx h;refine⟨v,λw'=>by simp[zeroValue,typeInfo,h1,h2],?_,λF j p hp=>?_⟩
 · have:=(l8 (F:=λ_=>False) (w:=w) h3).1;simpa using this
 · have:=(l8 (F:=F) (w:=w) h3).2 j p hp;simpa using this
def qu(g:Bool)(sz:Nat)(cs:List PV)(off:Nat)(K:AV->Prop):Prop:=
 match g with
 |true=>off+sz<=cs.length/\K (.p (.agg ((cs.drop off).take sz)))
 |false=>match cs[off]? with|some v=>K (.p v)|none=>False
def sI(g:Bool)(sz:Nat)(cs:List AV)(off:Nat)(K:AV->Prop):Prop:=
 match g with
 |true=>off+sz<=cs.length/\K (Cc ((cs.drop off).take sz))
 |false=>match cs[off]? with|some v=>K v|none=>False
section
variable{P:au}{F:Nat->Prop}{μ:aN}{w:aj}{K:AV->Prop}
theorem yq{t:an}{g:Bool}{sz off:Nat}{l:List PV}{cs:Array ah}(ht:tT P t=some (sz,g))(hs:cs.size=l.length)
 (hr:∀(i:Nat) p,l[i]? =some p->RP F w (cs[i]?.getD undef) p) (h:qu g sz l off K):∃av v,K av/\RV F μ w v av/\ ∀w',(part t cs off).run P w'= .ok v w':=by
 cases g with
 |true=>
  obtain⟨h1,h2⟩:=h;refine⟨_,.agg (cs.extract off (off+sz)),h2,.p (.agg _ _ (by simp;omega) λi p hp=>?_),λw'=>by simp[part,kJ ht,run_sizeOf ht]⟩;(have hi:i<sz:=by have:=(aq.1 hp).1;simp at this;omega);rw[ly hi,jQ] at hp;have:=hr _ _ hp;simpa[Array.getElem?_extract,show i<min (off+sz) cs.size-off by omega,show off+i<cs.size by omega] using this
 |false=>
  simp only[qu] at h;split at h
  · rename_i v hv
    (have aC:off<cs.size:=by rw[hs];exact(aq.1 hv).1);refine⟨_,cs[off],h,.p (by have:=hr _ _ hv;simpa[aC] using this),λw'=>by simp[part,kJ ht,aC]⟩
  · exact h.elim
theorem yr{t:an}{g:Bool}{sz off:Nat}{l:List AV}{cs:Array ah}(ht:tT P t=some (sz,g))(hs:cs.size=l.length)
 (hr:∀(i:Nat) p,l[i]? =some p->RV F μ w (cs[i]?.getD undef) p) (h:sI g sz l off K):∃av v,K av/\RV F μ w v av/\ ∀w',(part t cs off).run P w'= .ok v w':=by
 cases g with
 |true=>
  obtain⟨h1,h2⟩:=h;refine⟨_,.agg (cs.extract off (off+sz)),h2,ta (by simp;omega) λi p hp=>?_,λw'=>by simp[part,kJ ht,run_sizeOf ht]⟩;(have hi:i<sz:=by have:=(aq.1 hp).1;simp at this;omega);rw[ly hi,jQ] at hp;have:=hr _ _ hp;simpa[Array.getElem?_extract,show i<min (off+sz) cs.size-off by omega,show off+i<cs.size by omega] using this
 |false=>
  simp only[sI] at h;split at h
  · rename_i v hv
    (have aC:off<cs.size:=by rw[hs];exact(aq.1 hv).1);refine⟨_,cs[off],h,by have:=hr _ _ hv;simpa[aC] using this,λw'=>by simp[part,kJ ht,aC]⟩
  · exact h.elim
end
def Fits(k:IntKind)(n:Int):Prop:=k.wrap n=n
theorem al{n:Int}(h1: -9223372036854775808<=n)(h2:n<=9223372036854775807):Fits .i64 n:=by
 unfold Fits IntKind.wrap IntKind.signed IntKind.bits;simp only[dZ,decide_eq_true_eq,Nat.reduceSub];split<;>omega
theorem Oq{n:Int}(h1:0<=n)(h2:n<=18446744073709551615):Fits .u64 n:=by
 unfold Fits IntKind.wrap IntKind.signed IntKind.bits;simp only[Bool.false_and,mB,if_false];omega
def uh(op:BinOp)(k:IntKind)(x y:Int):Int:=
 match op with
 |.and=>k.wrap (BitVec.ofInt k.bits x&&& BitVec.ofInt k.bits y).toNat
 |.or=>k.wrap (BitVec.ofInt k.bits x||| BitVec.ofInt k.bits y).toNat
 |.xor=>k.wrap (BitVec.ofInt k.bits x ^^^ BitVec.ofInt k.bits y).toNat
 |_=>k.wrap (BitVec.ofInt k.bits x&&& ~~~(BitVec.ofInt k.bits y)).toNat
def Cd(c a b:AV)(K:AV->Prop):Prop:=
 match c with
 |.p (.bool t)=>K (bif t then a else b)
 |_=>False
def vt(P:au)(t f:Nat)(x:AV)(K:AV->Prop):Prop:=
 match tF P t f with
 |some (off,s,g)=>(match x with|.p (.agg cs)=>qu g s cs off K|.agg cs=>sI g s cs off K|_=>False)
 |none=>False
def wA(P:au)(t:an)(a:AV)(σ:ab)(K:AV->Prop):Prop:=
 match tT P t with
 |some (s,g)=>(match a with
  |.p (.ro cs)=>qu g s cs 0 K
  |.ptr o off=>(match σ.get o with|.cells cs=>sI g s cs off K|_=>False)
  |_=>False)
 |none=>False
def IE(a:AV)(K:AV->Prop):Prop:=
 match a with
 |.ptr .. =>K a
 |.p (.ro _)=>K a
 |.fn (.func _) _ _=>K a
 |.p (.fn (.func _) _ _)=>K a
 |.p (.fn (.yield _) _ _)=>K a
 |_=>False
def TH(P:au)(t f:Nat)(x:AV)(K:AV->Prop):Prop:=
 match tF P t f with
 |some (off,s,_)=>(match x with
  |.ptr o b=>0<s/\K (.ptr o (b+off))
  |.p (.ro cs)=>0<s/\K (.p (.ro (cs.drop off)))
  |_=>False)
 |none=>False
def Ry(P:au)(t:an)(x i:AV)(K:AV->Prop):Prop:=
 match tE P t with
 |some (s,_)=>(match x,i with
  |.p (.sl sz _ l),.p (.int _ n)=>(sz=s/\0<=n/\n<l.length)/\ ∀p,l[n.toNat]? =some p->K (.p (.ro p.cells))
  |.dJ o sz off len,.p (.int _ n)=>(sz=s/\0<=n/\n<len)/\K (.ptr o (off+n.toNat*s))
  |_,_=>False)
 |none=>(match tA P t with
  |some (m,s,_)=>(match x,i with
   |.ptr o off,.p (.int _ n)=>(0<=n/\n<m)/\K (.ptr o (off+n.toNat*s))
   |.p (.ro cs),.p (.int _ n)=>(0<=n/\n<m)/\K (.p (.ro (cs.drop (n.toNat*s))))
   |_,_=>False)
  |none=>False)
def Ma(P:au)(t:an):Bool:=match P.underlying t with|some .string=>true|_=>false
def Wq(P:au)(t:an)(x i:AV)(K:AV->Prop):Prop:=
 match tA P t with
 |some (m,s,g)=>(match x,i with
  |.p (.agg cs),.p (.int _ n)=>(0<=n/\n<m)/\qu g s cs (n.toNat*s) K
  |.agg cs,.p (.int _ n)=>(0<=n/\n<m)/\sI g s cs (n.toNat*s) K
  |_,_=>False)
 |none=>(match x,i with
  |.p (.str b),.p (.int _ n)=>Ma P t=true/\(0<=n/\n<b.size)/\K (.p (.int .u8 (b.data.toList.getD n.toNat 0).toNat))
  |_,_=>False)
def Mb(op:BinOp)(k k':IntKind)(a b:Int)(K:AV->Prop):Prop:=
 match op with
 |.add=>k=k'/\Fits k (a+b)/\K (.p (.int k (a+b)))
 |.sub=>k=k'/\Fits k (a-b)/\K (.p (.int k (a-b)))
 |.mul=>k=k'/\Fits k (a*b)/\K (.p (.int k (a*b)))
 |.quo=>k=k'/\(b≠0/\Fits k (a.tdiv b))/\K (.p (.int k (a.tdiv b)))
 |.rem=>k=k'/\b≠0/\K (.p (.int k (a.tmod b)))
 |.and=>k=k'/\K (.p (.int k (uh .and k a b)))
 |.or=>k=k'/\K (.p (.int k (uh .or k a b)))
 |.xor=>k=k'/\K (.p (.int k (uh .xor k a b)))
 |.andNot=>k=k'/\K (.p (.int k (uh .andNot k a b)))
 |.shl=>0<=b/\K (.p (.int k (k.wrap (a*2 ^ min b.toNat k.bits))))
 |.shr=>0<=b/\K (.p (.int k (a.fdiv (2 ^ min b.toNat k.bits))))
 |.eql=>k=k'/\K (.p (.bool (decide (a=b))))
 |.neq=>k=k'/\K (.p (.bool (decide (a≠b))))
 |.lss=>k=k'/\K (.p (.bool (decide (a<b))))
 |.leq=>k=k'/\K (.p (.bool (decide (a<=b))))
 |.gtr=>k=k'/\K (.p (.bool (decide (b<a))))
 |.geq=>k=k'/\K (.p (.bool (decide (b<=a))))
def Rz(op:BinOp)(a b:ByteArray)(K:AV->Prop):Prop:=
 match op with
 |.eql=>K (.p (.bool (decide (a=b))))
 |.neq=>K (.p (.bool (decide (a≠b))))
 |.add=>a.size+b.size<=9223372036854775807/\K (.p (.str (a++b)))
 |_=>False
def KL(P:au)(t:an):Bool:=match P.underlying t with|some .bool=>true|_=>false
def KM(P:au)(op:BinOp)(t:an)(a b:Bool)(K:AV->Prop):Prop:=
 match op with
 |.eql=>KL P t=true/\K (.p (.bool (a==b)))
 |.neq=>KL P t=true/\K (.p (.bool (a !=b)))
 |_=>False
def Mc(P:au)(op:BinOp)(t:an)(x y:AV)(K:AV->Prop):Prop:=
 match x,y with
 |.p (.int k a),.p (.int k' b)=>Mb op k k' a b K
 |.p (.str a),.p (.str b)=>Rz op a b K
 |.p (.bool a),.p (.bool b)=>KM P op t a b K
 |_,_=>False
def Wr(op:UnOp)(x:AV)(K:AV->Prop):Prop:=
 match op,x with
 |.not,.p (.bool b)=>K (.p (.bool !b))
 |.neg,.p (.int k n)=>Fits k (0-n)/\K (.p (.int k (0-n)))
 |.xor,.p (.int k n)=>K (.p (.int k (uh .xor k (if k.signed then -1 else k.max) n)))
 |_,_=>False
def Ws(x:AV)(i:Nat)(K:AV->Prop):Prop:=
 match x with
 |.p (.bR vs)=>(match vs[i]? with|some v=>K (.p v)|none=>False)
 |.bR vs=>(match vs[i]? with|some v=>K v|none=>False)
 |_=>False
inductive CK where
 |int (k:IntKind)|str|bytes|none
 deriving DecidableEq,Inhabited
def tC(P:au)(t:an):CK:=
 match P.underlying t with
 |some (.int k)=>.int k
 |some .string=>.str
 |some (.slice e)=>(match P.underlying e with|some (.int .u8)=>.bytes|_=>.none)
 |_=>.none
def TI:List PV->Option (List Int)
 |[]=>some []
 |.int .u8 n::r=>match TI r with|some q=>some (n::q)|none=>none
 |_=>none
def RA:List AV->Option (List Int)
 |[]=>some []
 |.p (.int .u8 n)::r=>match RA r with|some q=>some (n::q)|none=>none
 |_=>none
def tK(P:au)(t:an):Bool:=(P.underlying t).isSome
def wB(P:au)(s d:an)(x:AV)(σ:ab)(K:AV->Prop):Prop:=
 match tC P d with
 |.int k=>(match x with|.p (.int _ n)=>tK P s=true/\K (.p (.int k (k.wrap n)))|_=>False)
 |.str=>(match x with
  |.p (.str b)=>tC P s= .str/\K (.p (.str b))
  |.p (.sl sz _ l)=>tC P s= .bytes/\sz<=1/\ ∃q,TI l=some q/\K (.p (.str (strOfNums q)))
  |.dJ o sz off len=>tC P s= .bytes/\sz=1/\(match σ.get o with|.cells cs=>off+len<=cs.length/\ ∃q,RA ((cs.drop off).take len)=some q/\K (.p (.str (strOfNums q)))|_=>False)
  |_=>False)
 |_=>False
def oe(d:Int):Option AV->Option Int
 |none=>some d
 |some (.p (.int _ n))=>some n
 |_=>none
def RB(P:au)(t:an)(x:AV)(lo hi mx:Option AV)(σ:ab)(K:AV->Prop):Prop:=
 match x with
 |.p (.sl sz c l)=>(match tE P t,oe 0 lo,oe l.length hi with
  |some (s,_),some a,some b=>(match mx with
   |none=>((sz=s\/l=[])/\0<=a/\a<=b/\b<=l.length)/\K (.p (.sl sz (c&&hi.isNone) ((l.take b.toNat).drop a.toNat)))
   |some m=>((sz=s\/l=[])/\0<=a/\a<=b/\b<=l.length)/\hi.isSome/\oe 0 (some m)=some b/\K (.p (.sl sz true ((l.take b.toNat).drop a.toNat))))
  |_,_,_=>False)
 |.dJ o sz off len=>(match tE P t,oe 0 lo,oe len hi with
  |some (s,_),some a,some b=>(match mx with
   |none=>(sz=s/\0<=a/\a<=b/\b<=len)/\K (.dJ o sz (off+a.toNat*s) (b.toNat-a.toNat))
   |some m=>(sz=s/\0<=a/\a<=b/\b<=len)/\hi.isSome/\oe 0 (some m)=some b/\K (.dJ o sz (off+a.toNat*s) (b.toNat-a.toNat)))
  |_,_,_=>False)
 |.ptr o off=>(match tA P t,σ.get o,mx with
  |some (n,s,_),.cells cs,none=>(match oe 0 lo,oe n hi with
   |some a,some b=>(0<=a/\a<=b/\b<=n)/\(off+n*s<=cs.length/\n<=1000000000)/\K (.dJ o s (off+a.toNat*s) (b.toNat-a.toNat))
   |_,_=>False)
  |_,_,_=>False)
 |.p (.str b)=>(match oe 0 lo,oe b.size hi with
  |some a,some e=>mx.isNone/\Ma P t=true/\(0<=a/\a<=e/\e<=b.size)/\K (.p (.str (b.extract a.toNat e.toNat)))
  |_,_=>False)
 |_=>False
def ZC(P:au)(t:an):Bool:=match P.underlying t with|some (.interface _)=>true|none=>true|_=>false
def Wt(P:au)(t:an)(x:AV)(K:AV->Prop):Prop:=
 match x with
 |.p v=>ZC P t=false/\K (.p (.iface t v))
 |_=>False
def Wu(P:au)(t:an)(x:AV)(K:AV->Prop):Prop:=
 match x with
 |.p (.iface t' v)=>ZC P t=false/\t'=t/\K (.p v)
 |_=>False
def FA(x:AV)(P:au)(t:an)(K:AV->Prop):Prop:=
 match x with
 |.p (.sl _ _ l)=>(tE P t).isSome/\K (.p (.int .i64 l.length))
 |.dJ _ _ _ n=>(tE P t).isSome/\K (.p (.int .i64 n))
 |.p (.str b)=>Ma P t=true/\K (.p (.int .i64 b.size))
 |_=>False
def iE(mx:Bool):AV->List AV->(AV->Prop)->Prop
 |x,[],K=>(match x with|.p (.int _ _)=>K x|_=>False)
 |.p (.int k a),.p (.int _ b)::r,K=>iE mx (.p (.int k (if mx then(if b>a then b else a) else(if b<a then b else a)))) r K
 |_,_,_=>False
def W8(P:au):List Field->Option (List (Nat×Nat))
 |[]=>some []
 |x::r=>match tT P x.type,W8 P r with|some (s,_),some l=>some ((x.offset,s)::l)|_,_=>none
def tPs(P:au)(t:an):Option (List (Nat×Nat)×Nat):=
 match P.underlying t with
 |some (.struct fs)=>(match W8 P fs.toList with|some l=>some (l,0)|none=>none)
 |some (.array _ e)=>(match tT P e with|some (s,_)=>(if s=0 then none else some ([],s))|none=>none)
 |_=>none
def placeOf(l:List (Nat×Nat))(s i:Nat):Option (Nat×Nat):=if s=0 then l[i]? else some (i*s,s)
def AV.isAny:AV->Bool
 |.any=>true
 |_=>false
def cO(cs:List AV)(off:Nat):List AV->List AV
 |[]=>cs
 |v::r=>cO (cs.set off v) (off+1) r
def Md:List AV->Nat->List AV->List AV
 |[],_,_=>[]
 |c::cs,0,[]=>c::cs
 |_::cs,0,v::vs=>v::Md cs 0 vs
 |c::cs,n+1,vs=>c::Md cs n vs
def pP(pl:Nat->Option (Nat×Nat))(cells:List AV):List (Nat×AV)->Option (List AV)
 |[]=>some cells
 |(i,v)::r=>match pl i with
  |some (off,s)=>if v.isAny=false/\v.cells.length=s/\off+s<=cells.length then pP pl (Md cells off v.cells) r else none
  |none=>none
def tZA(P:au)(t:an):Option (List AV):=
 match tZ P t with
 |some z=>some (z.map .p)
 |none=>(match P.info? t with
  |some i=>(match i.zero with|some v=>some (ck v.cells.size .any)|none=>none)
  |none=>none)
def vu(P:au)(t:an)(parts:List (Nat×AV))(K:AV->Prop):Prop:=
 match tZA P t,tPs P t with
 |some z,some (l,s)=>(match pP (placeOf l s) z parts with|some cs=>K (Cc cs)|none=>False)
 |_,_=>False
def qK(P:au)(op:Op)(ev:aL->AV)(σ:ab)(K:AV->Prop):Prop:=
 match op with
 |.move x=>K (ev x)
 |.assign x=>K (ev x)
 |.pick c a b=>Cd (ev c) (ev a) (ev b) K
 |.field t x f=>vt P t f (ev x) K
 |.load t a=>wA P t (ev a) σ K
 |.nilCheck x=>IE (ev x) K
 |.fieldAddr t x f=>TH P t f (ev x) K
 |.indexAddr t x i=>Ry P t (ev x) (ev i) K
 |.index t x i=>Wq P t (ev x) (ev i) K
 |.binOp op t x y _=>Mc P op t (ev x) (ev y) K
 |.unOp op _ x=>Wr op (ev x) K
 |.extract x i=>Ws (ev x) i K
 |.convert s d x=>wB P s d (ev x) σ K
 |.makeFunc f a b=>K (UE f (a.toList.map ev) (b.toList.map ev))
 |.slice t x lo hi mx=>RB P t (ev x) (lo.map ev) (hi.map ev) (mx.map ev) σ K
 |.makeInterface t x=>Wt P t (ev x) K
 |.typeAssert x _ t c=>(match c with|false=>Wu P t (ev x) K|true=>False)
 |.build t parts=>vu P t (parts.toList.map λy=>(y.1,ev y.2)) K
 |.call c=>(match c.callee with
  |.builtin .len=>(match c.args.toList,c.argTypes[0]? with | [x],some t=>FA (ev x) P t K|_,_=>False)
  |.builtin .max=>(match c.args.toList with|x::r=>iE true (ev x) (r.map ev) K | []=>False)
  |.builtin .min=>(match c.args.toList with|x::r=>iE false (ev x) (r.map ev) K | []=>False)
  |_=>False)
 |_=>False
def tc(w w':aj):Prop:=∀b,b<w.heap.size->w'.heap[b]? =w.heap[b]?
theorem tc.cell{w w':aj}(h:tc w w'){a:Addr}{v:ah}(hc:w.cell? a=some v):w'.cell? a=some v:=by
 have hb:a.block<w.heap.size:=by
  unfold World.cell? at hc;rcases dK a.block w.heap.size with h'|h'
  · exact h'
  · simp[Array.getElem?_eq_none h'] at hc
 exact(ja (h _ hb)).trans hc
def Qt(P:au)(F:Nat->Prop)(μ:aN)(w:aj)(K:AV->Prop)(s:Sem ah):Prop:=
 ∃av v,K av/\RV F μ w v av/\ ∀w',tc w w'->s.run P w'= .ok v w'
section
variable{P:au}{F:Nat->Prop}{μ:aN}{σ:ab}{w:aj}{K:AV->Prop}
theorem Qt.of{s:Sem ah}(av:AV)(v:ah)(h:K av)(hr:RV F μ w v av)(hs:∀w',s.run P w'= .ok v w'):Qt P F μ w K s:=⟨av,v,h,hr,λw' _=>hs w'⟩
theorem DJ{t f:Nat}{x:AV}{v:ah}(hx:RV F μ w v x)(h:vt P t f x K):Qt P F μ w K (Instr.field t v f):=by
 unfold vt at h;split at h
 · rename_i off s g ht
   obtain⟨fs,y,h1,h2,h3,h4⟩:=KK ht;split at h
   · cases hx;rename_i hx;cases hx;rename_i cs hs hr
     obtain⟨av,u,k1,k2,k3⟩:=yq (F:=F) (μ:=μ) (w:=w) h4 hs hr h;exact .of av u k1 k2 λw'=>by simp[Instr.field,underlying,h1,h2,asAgg,h3,k3]
   · cases hx;rename_i cs hs hr
     obtain⟨av,u,k1,k2,k3⟩:=yr (F:=F) (μ:=μ) (w:=w) h4 hs hr h;exact .of av u k1 k2 λw'=>by simp[Instr.field,underlying,h1,h2,asAgg,h3,k3]
   · exact h.elim
 · exact h.elim
theorem fD(b off n:Nat):Addr.add ⟨b,off,none⟩ n=⟨b,off+n,none⟩:=by
 unfold Addr.add;split<;>simp_all
theorem mF{w:aj}{b j:Nat}{cs:Array ah}{t:an}{fz:Nat×Nat}(h:w.heap[b]? =some (.cells cs t fz)):w.cell? ⟨b,j,none⟩=cs[j]? :=by simp[World.cell?,h]
def FB(g:Bool)(s:Nat)(c:Nat->ah):ah:=match g with|true=>.agg ((Array.range s).map c)|false=>c 0
theorem nB{t:an}{s:Nat}{g:Bool}(ht:tT P t=some (s,g)){b off:Nat}{f:Nat->ah}{n:Nat}(w':aj)(hn:g=true->s<=n)(RD:g=false->0<n)
 (hc:∀j,j<n->w'.cell? ⟨b,off+j,none⟩=some (f j)):(loadVar t ⟨b,off,none⟩).run P w'= .ok (FB g s f) w':=by
 cases g with
 |false=>
  have:=hc 0 (RD rfl);simp only[Nat.add_zero] at this;simp[loadVar,kJ ht,this,FB]
 |true=>
  have h1:=run_loadCells (P:=P) (w:=w') ⟨b,off,none⟩ s f (λj hj=>by rw[fD];exact hc j (fl hj (hn rfl)));simp only[loadVar,bu,kJ ht,run_sizeOf ht,bD,if_true,cg,h1];congr 2;apply Array.ext
  · simp
  · intro i hi wC;simp
theorem qv{t:an}{a:AV}{v:ah}(ar:az F μ σ w)(ha:RV F μ w v a)(h:wA P t a σ K):Qt P F μ w K (Instr.loadAt t v):=by
 unfold wA at h;split at h
 · rename_i s g ht
   split at h
   · rename_i cs
     obtain⟨b,off,c,rfl,hF,hc⟩:=ha.bG.DF;have yt:∀(j:Nat) q,cs[j]? =some q->RP F w (c j) q:=λj q hq=>(hc j q hq).2
     obtain⟨hlen,FC,hK⟩:(g=true->s<=cs.length)/\(g=false->0<cs.length)/\ ∃av,K av/\RV F μ w (FB g s c) av:=by
      cases g with
      |true=>
       obtain⟨h1,h2⟩:=h;refine⟨λ_=>by omega,by simp,_,h2,.p (.agg _ _ (by simp;omega) λi p hp=>?_)⟩;(have hi:i<s:=by have:=(aq.1 hp).1;simp at this;omega);rw[ly hi,da] at hp;simpa[hi] using yt i p hp
      |false=>
       simp only[qu] at h;split at h
       · rename_i q hq;exact⟨by simp,λ_=>(aq.1 hq).1,_,h,.p (yt 0 q hq)⟩
       · exact h.elim
     obtain⟨av,k1,k2⟩:=hK;refine⟨av,_,k1,k2,λw' hw=>?_⟩;simp only[Instr.loadAt,Instr.sureAddr,bu,cg,bD];exact nB ht w' hlen FC λj hj=>hw.cell (hc j _ (aV hj)).1
   · rename_i o off
     cases ha;rename_i b hb;split at h
     · rename_i cs ho
       obtain⟨cur,ty,h1,h2,h3⟩:=ar.cells ho hb;have yt:∀(j:Nat) q,cs[j]? =some q->RV F μ w (cur[j]?.getD undef) q:=h3
       let c:Nat->ah:=λj=>cur[off+j]?.getD undef
       obtain⟨hlen,FC,hK⟩:(g=true->s<=cs.length-off)/\(g=false->0<cs.length-off)/\ ∃av,K av/\RV F μ w (FB g s c) av:=by
        cases g with
        |true=>
         obtain⟨h1,h2⟩:=h;refine⟨λ_=>by omega,by simp,_,h2,ta (by simp;omega) λi p hp=>?_⟩;(have hi:i<s:=by have:=(aq.1 hp).1;simp at this;omega);rw[ly hi,jQ] at hp;simpa[hi,c] using yt _ p hp
        |false=>
         simp only[sI] at h;split at h
         · rename_i q hq;exact⟨by simp,λ_=>by have:=(aq.1 hq).1;omega,_,h,by simpa[c,FB] using yt off q hq⟩
         · exact h.elim
       obtain⟨av,k1,k2⟩:=hK;refine⟨av,_,k1,k2,λw' hw=>?_⟩;simp only[Instr.loadAt,Instr.sureAddr,bu,cg,bD];refine nB ht w' hlen FC λj hj=>hw.cell ?_;rw[mF h1];(have:off+j<cur.size:=by omega);simp[c,this]
     · exact h.elim
   · exact h.elim
 · exact h.elim
theorem vw{t f:Nat}{x:AV}{v:ah}(hx:RV F μ w v x)(h:TH P t f x K):Qt P F μ w K (Instr.fieldAt t v f):=by
 unfold TH at h;split at h
 · rename_i off s g ht
   obtain⟨fs,y,h1,h2,h3,h4⟩:=KK ht;split at h
   · cases hx;rename_i o b' b hb
     refine .of _ (.pointer (some ⟨b,b'+off,none⟩)) h.2 (.ptr _ _ _ hb) λw'=>?_;(have hs:s≠0:=by omega);simp[Instr.fieldAt,underlying,h1,h2,Instr.sureAddr,fieldPlace,run_sizeOf h4,hs,h3,fD]
   · rename_i cs
     obtain⟨b,bL,c,rfl,hF,hc⟩:=hx.bG.DF;refine .of _ (.pointer (some ⟨b,bL+off,none⟩)) h.2 (.p (.W6 b _ _ (λj=>c (off+j)) ?_ λj q hq=>?_)) λw'=>?_
     · rcases hF with h'|h'
       · subst h';simp
       · exact .inr h'
     · rw[jQ] at hq
       have:=hc _ _ hq;rw[Nat.add_assoc];exact this
     · have hs:s≠0:=by omega
       simp[Instr.fieldAt,underlying,h1,h2,Instr.sureAddr,fieldPlace,run_sizeOf h4,hs,h3,fD]
   · exact h.elim
 · exact h.elim
theorem r6{t:an}{x i:AV}{v u:ah}(hx:RV F μ w v x)(hi:RV F μ w u i)(h:Ry P t x i K):Qt P F μ w K (Instr.indexAt t v u):=by
 unfold Ry at h;split at h
 · rename_i s g ht
   obtain⟨e,h1,h2⟩:=jl ht;split at h
   · rename_i sz c l k n
     obtain⟨⟨rfl,h0,aC⟩,hK⟩:=h;cases hi;rename_i hi;cases hi;cases hx;rename_i hx
     cases hx with
     |r5 a cap sz clip e1 e2 e3=>simp at aC;omega
     |sl b off len cap sz clip l cv hb hl h3 h4 h5 h6 h7 h8=>
      (have hn:n.toNat<l.length:=by omega);(have hg:l[n.toNat]? =some (l.getD n.toNat default):=by simp[cF,aV hn]);refine .of _ (.pointer (some ⟨b,off+n.toNat*sz,none⟩)) (hK _ hg) (.p (.W6 _ _ _ (cv n.toNat) (.inr hb) λj q hq=>?_)) λw'=>?_
      · exact⟨h7 _ _ j q hg hq,h8 _ _ j q hg hq⟩
      · have hc:0<=n/\n<(len:Int):=⟨h0,by omega⟩
        simp[Instr.indexAt,asIntOf,underlying,h1,hc,run_sizeOf h2,fD]
   · rename_i o sz off len k n
     obtain⟨⟨rfl,h0,aC⟩,hK⟩:=h;cases hi;rename_i hi;cases hi
     cases hx with
     |dJ o sz off bL len cap b t' n' hb gX pQ r7 tX qe=>
     refine .of _ (.pointer (some ⟨b,off+n.toNat*sz,none⟩)) hK (.ptr _ _ _ hb) λw'=>?_;have hc:0<=n/\n<(len:Int):=⟨h0,aC⟩
     have:bL=off:=by rcases gX with h'|h'<;>omega
     subst this;simp[Instr.indexAt,asIntOf,underlying,h1,hc,run_sizeOf h2,fD]
   · exact h.elim
 · split at h
   · rename_i m s g ht
     obtain⟨e,h1,h2⟩:=DI ht;split at h
     · rename_i o off k n
       obtain⟨⟨h0,aC⟩,hK⟩:=h;cases hi;rename_i hi;cases hi;cases hx;rename_i b hb;refine .of _ (.pointer (some ⟨b,off+n.toNat*s,none⟩)) hK (.ptr _ _ _ hb) λw'=>?_;have hc:0<=n/\n<(m:Int):=⟨h0,aC⟩;simp[Instr.indexAt,asIntOf,underlying,h1,hc,run_sizeOf h2,fD,Instr.sureAddr]
     · rename_i cs k n
       obtain⟨⟨h0,aC⟩,hK⟩:=h;cases hi;rename_i hi;cases hi;obtain⟨b,off,c,rfl,hF,hc⟩:=hx.bG.DF;refine .of _ (.pointer (some ⟨b,off+n.toNat*s,none⟩)) hK (.p (.W6 b _ _ (λj=>c (n.toNat*s+j)) ?_ λj q hq=>?_)) λw'=>?_
       · rcases hF with h'|h'
         · subst h';simp
         · exact .inr h'
       · rw[jQ] at hq
         have:=hc _ _ hq;rw[Nat.add_assoc];exact this
       · have hc:0<=n/\n<(m:Int):=⟨h0,aC⟩
         simp[Instr.indexAt,asIntOf,underlying,h1,hc,run_sizeOf h2,fD,Instr.sureAddr]
     · exact h.elim
   · exact h.elim
theorem Me{t:an}{x i:AV}{v u:ah}(hx:RV F μ w v x)(hi:RV F μ w u i)(h:Wq P t x i K):Qt P F μ w K (Instr.index t v u):=by
 unfold Wq at h;split at h
 · rename_i m s g ht
   obtain⟨e,h1,h2⟩:=DI ht;split at h
   · rename_i cs k n
     obtain⟨⟨h0,aC⟩,hK⟩:=h;cases hi;rename_i hi;cases hi;cases hx;rename_i hx;cases hx;rename_i vs hs hr;obtain⟨av,y,k1,k2,k3⟩:=yq (F:=F) (μ:=μ) (w:=w) h2 hs hr hK;refine .of av y k1 k2 λw'=>?_;have hc:0<=n/\n<(m:Int):=⟨h0,aC⟩;simp[Instr.index,asIntOf,underlying,h1,hc,run_sizeOf h2,k3]
   · rename_i cs k n
     obtain⟨⟨h0,aC⟩,hK⟩:=h;cases hi;rename_i hi;cases hi;cases hx;rename_i vs hs hr;obtain⟨av,y,k1,k2,k3⟩:=yr (F:=F) (μ:=μ) (w:=w) h2 hs hr hK;refine .of av y k1 k2 λw'=>?_;have hc:0<=n/\n<(m:Int):=⟨h0,aC⟩;simp[Instr.index,asIntOf,underlying,h1,hc,run_sizeOf h2,k3]
   · exact h.elim
 · split at h
   · rename_i b k n
     obtain⟨hs,⟨h0,aC⟩,hK⟩:=h;cases hi;rename_i hi;cases hi;cases hx;rename_i hx;cases hx;(have h1:P.underlying t=some .string:=by unfold Ma at hs;split at hs<;>simp_all);refine .of _ _ hK (.p (.int _ _)) λw'=>?_;have hn:n.toNat<b.data.size:=by have:b.size=b.data.size:=rfl;omega
     have hg:(if 0<=n then b[n.toNat]? else none)=some (b.data.toList.getD n.toNat 0):=by
      rw[if_pos h0];have:b[n.toNat]? =some (b[n.toNat]'hn):=getElem?_pos b n.toNat hn;rw[this];show some b.data[n.toNat]=_;rw[List.getD_eq_getElem?_getD,gi,dh hn];rfl
     simp only[Instr.index,asIntOf,underlying,bu,run_program,bD,cg,h1,hg]
   · exact h.elim
end
section
variable{P:au}{F:Nat->Prop}{μ:aN}{σ:ab}{w:aj}{K:AV->Prop}
theorem FD{c a b:AV}{vc va vb:ah}(hc:RV F μ w vc c)(ha:RV F μ w va a)(hb:RV F μ w vb b)(h:Cd c a b K):
 Qt P F μ w K (do pure (if <-asBool vc then va else vb)):=by
 unfold Cd at h;split at h
 · rename_i t
   cases hc;rename_i hc;cases hc;refine .of _ (if t then va else vb) h (by cases t;exact hb;exact ha) λw'=>by simp[asBool]
 · exact h.elim
theorem fE{v:ah}{k:IntKind}{n:Int}(h:RV F μ w v (.p (.int k n))):v= .int k n:=by cases h;rename_i h;cases h;rfl
theorem jx{v:ah}{b:Bool}(h:RV F μ w v (.p (.bool b))):v= .bool b:=by cases h;rename_i h;cases h;rfl
theorem mG{v:ah}{b:ByteArray}(h:RV F μ w v (.p (.str b))):v= .string b:=by cases h;rename_i h;cases h;rfl
theorem IF{op:BinOp}{k k':IntKind}{a b:Int}{t:an}(h:Mb op k k' a b K):Qt P F μ w K (binOp op t (.int k a) (.int k' b)):=by
 cases op<;>simp only[Mb] at h
 case add=>obtain⟨rfl,h1,h2⟩:=h;exact .of _ _ h2 (.p (.int _ _)) λw'=>by simp[binOp,Op.intArith,show k.wrap (a+b)=a+b from h1]
 case sub=>obtain⟨rfl,h1,h2⟩:=h;exact .of _ _ h2 (.p (.int _ _)) λw'=>by simp[binOp,Op.intArith,show k.wrap (a-b)=a-b from h1]
 case mul=>obtain⟨rfl,h1,h2⟩:=h;exact .of _ _ h2 (.p (.int _ _)) λw'=>by simp[binOp,Op.intArith,show k.wrap (a*b)=a*b from h1]
 case quo=>obtain⟨rfl,⟨h0,h1⟩,h2⟩:=h;exact .of _ _ h2 (.p (.int _ _)) λw'=>by simp[binOp,Op.intDiv,h0,show k.wrap (a.tdiv b)=a.tdiv b from h1]
 case rem=>obtain⟨rfl,h0,h2⟩:=h;exact .of _ _ h2 (.p (.int _ _)) λw'=>by simp[binOp,Op.intDiv,h0]
 case and=>obtain⟨rfl,h2⟩:=h;exact .of _ _ h2 (.p (.int _ _)) λw'=>by simp[binOp,Op.intBits,uh]
 case or=>obtain⟨rfl,h2⟩:=h;exact .of _ _ h2 (.p (.int _ _)) λw'=>by simp[binOp,Op.intBits,uh]
 case xor=>obtain⟨rfl,h2⟩:=h;exact .of _ _ h2 (.p (.int _ _)) λw'=>by simp[binOp,Op.intBits,uh]
 case andNot=>obtain⟨rfl,h2⟩:=h;exact .of _ _ h2 (.p (.int _ _)) λw'=>by simp[binOp,Op.intBits,uh]
 case shl=>obtain⟨h1,h2⟩:=h;exact .of _ _ h2 (.p (.int _ _)) λw'=>by simp[binOp,Op.shift,show ¬ b<0 by omega]
 case shr=>obtain⟨h1,h2⟩:=h;exact .of _ _ h2 (.p (.int _ _)) λw'=>by simp[binOp,Op.shift,show ¬ b<0 by omega]
 case eql=>obtain⟨rfl,h2⟩:=h;exact .of _ _ h2 (.p (.bool _)) λw'=>by simp[binOp,Op.intCmp];rfl
 case neq=>obtain⟨rfl,h2⟩:=h;exact .of _ _ h2 (.p (.bool _)) λw'=>by simp[binOp,Op.intCmp];rfl
 case lss=>obtain⟨rfl,h2⟩:=h;exact .of _ _ h2 (.p (.bool _)) λw'=>by simp[binOp,Op.intCmp]
 case leq=>obtain⟨rfl,h2⟩:=h;exact .of _ _ h2 (.p (.bool _)) λw'=>by simp[binOp,Op.intCmp]
 case gtr=>obtain⟨rfl,h2⟩:=h;exact .of _ _ h2 (.p (.bool _)) λw'=>by simp[binOp,Op.intCmp]
 case geq=>obtain⟨rfl,h2⟩:=h;exact .of _ _ h2 (.p (.bool _)) λw'=>by simp[binOp,Op.intCmp]
theorem toList_data(a:ByteArray):a.toList=a.data.toList:=by
 have:∀(n i:Nat) (r:List UInt8),n=a.size-i->Iz a i r=r.reverse++(a.data.toList.drop i):=by
  intro n
  induction n with
  |zero=>
   intro i r h;unfold Iz;rw[if_neg (by omega),lz (by have:a.data.toList.length=a.size:=rfl;omega)];simp
  |succ n ih=>
   intro i r h;unfold Iz;(have hi:i<a.size:=by omega);rw[if_pos hi,ih (i+1) _ (by omega)];have wC:i<a.data.toList.length:=hi;rw[gP wC]
   have:a.get! i=a.data.toList[i]:=by
    have hd:i<a.data.size:=hi;simp only[ByteArray.get!,Array.getElem_toList];exact getElem!_pos a.data i hd
   simp[this]
 unfold ByteArray.toList;rw[this _ 0 [] rfl];simp
theorem toList_inj{a b:ByteArray}:(a.toList==b.toList)=decide (a=b):=by
 rw[toList_data,toList_data];rw[Bool.eq_iff_iff];simp only[beq_iff_eq,decide_eq_true_eq];constructor
 · intro h
   cases a;cases b;simp only[ByteArray.mk.injEq];exact Array.toList_inj.1 h
 · intro h;rw[h]
theorem IG{op:BinOp}{a b:ByteArray}{t:an}(h:Rz op a b K):Qt P F μ w K (binOp op t (.string a) (.string b)):=by
 cases op<;>simp only[Rz] at h
 case add=>
  obtain⟨h1,h2⟩:=h;refine .of _ _ h2 (.p (.str _)) λw'=>?_;(have:¬((a.size+b.size:Nat):Int)>br.max:=by simp[IntKind.max,IntKind.signed,IntKind.bits];omega);simp only[binOp,Op.stringOp,this,if_false,cg]
 case eql=>exact .of _ _ h (.p (.bool _)) λw'=>by simp only[binOp,Op.stringOp,cg,toList_inj]
 case neq=>exact .of _ _ h (.p (.bool _)) λw'=>by simp only[binOp,Op.stringOp,cg,toList_inj];simp
 all_goals exact h.elim
theorem run_equal_bool{t:an}(hu:P.underlying t=some .bool)(a b:Bool)(w':aj):(Op.equal t (.bool a) (.bool b)).run P w'= .ok (a==b) w':=by
 have:∀d,(Op.equalIn (d+1) t (.bool a) (.bool b)).run P w'= .ok (a==b) w':=λd=>by simp only[Op.equalIn,underlying,bu,run_program,bD,hu,cg]
 exact this 9999
theorem FE{op:BinOp}{a b:Bool}{t:an}(h:KM P op t a b K):Qt P F μ w K (binOp op t (.bool a) (.bool b)):=by
 have key:KL P t=true->P.underlying t=some .bool:=λhs=>by unfold KL at hs;split at hs<;>simp_all
 cases op<;>simp only[KM] at h
 case eql=>exact .of _ _ h.2 (.p (.bool _)) λw'=>by simp only[binOp,bu,run_equal_bool (key h.1),bD,cg]
 case neq=>exact .of _ _ h.2 (.p (.bool _)) λw'=>by simp only[binOp,bu,run_equal_bool (key h.1),bD,cg];rfl
 all_goals exact h.elim
theorem IH{op:BinOp}{t:an}{x y:AV}{v u:ah}(ox oy:aL)(hx:RV F μ w v x)(hy:RV F μ w u y)(h:Mc P op t x y K):
 Qt P F μ w K (do eqGuard op t ox oy v u;binOp op t v u):=by
 have quiet:∀{v u:ah},(match v,u with|.nilIface,.nilIface=>False|.agg _,.agg _=>False|_,_=>True)->Qt P F μ w K (binOp op t v u)->Qt P F μ w K (do eqGuard op t ox oy v u;binOp op t v u):=by
  intro v u hvu ⟨av,x,h1,h2,h3⟩;refine⟨av,x,h1,h2,λw' UF=>?_⟩
  have:(eqGuard op t ox oy v u).run P w'= .ok () w':=by
   unfold eqGuard;cases op<;>simp only[Bool.not_true,Bool.not_false,mB,if_true,if_false]<;>first|rfl|(cases v<;>cases u<;>first|rfl|exact hvu.elim)
  simp[bu,this,h3 w' UF]
 unfold Mc at h;split at h
 · obtain rfl:=fE hx;obtain rfl:=fE hy;exact quiet trivial (IF h)
 · obtain rfl:=mG hx;obtain rfl:=mG hy;exact quiet trivial (IG h)
 · obtain rfl:=jx hx;obtain rfl:=jx hy;exact quiet trivial (FE h)
 · exact h.elim
theorem Mf{op:UnOp}{x:AV}{v:ah}(hx:RV F μ w v x)(h:Wr op x K):Qt P F μ w K (Op.unary op v):=by
 unfold Wr at h;split at h
 · obtain rfl:=jx hx;exact .of _ _ h (.p (.bool _)) λw'=>rfl
 · obtain rfl:=fE hx
   rename_i k n;exact .of _ _ h.2 (.p (.int _ _)) λw'=>by simp[Op.unary,Op.intArith];have:=h.1;unfold Fits at this;simpa using this
 · obtain rfl:=fE hx;exact .of _ _ h (.p (.int _ _)) λw'=>rfl
 · exact h.elim
theorem Mg{x:AV}{i:Nat}{v:ah}(hx:RV F μ w v x)(h:Ws x i K):Qt P F μ w K (Instr.extract v i):=by
 unfold Ws at h;split at h
 · cases hx;rename_i hx;cases hx;rename_i cs hs hr
   split at h
   · rename_i q hq
     (have hi:i<cs.size:=by rw[hs];exact(aq.1 hq).1);exact .of _ cs[i] h (.p (by simpa[hi] using hr _ _ hq)) λw'=>by simp[Instr.extract,hi]
   · exact h.elim
 · cases hx;rename_i cs hs hr
   split at h
   · rename_i q hq
     (have hi:i<cs.size:=by rw[hs];exact(aq.1 hq).1);exact .of _ cs[i] h (by simpa[hi] using hr _ _ hq) λw'=>by simp[Instr.extract,hi]
   · exact h.elim
 · exact h.elim
theorem Mh{t:an}{x:AV}{v:ah}(hx:RV F μ w v x)(h:Wt P t x K):Qt P F μ w K (Instr.makeInterface t v):=by
 unfold Wt at h;split at h
 · obtain⟨h1,h2⟩:=h
   refine .of _ (.iface t v) h2 (.p (.iface _ _ _ hx.bG)) λw'=>?_;unfold ZC at h1;split at h1<;>simp at h1;rename_i bV Ot
   cases hu:P.underlying t with
   |none=>exact absurd hu Ot
   |some d=>cases d<;>first|(exact absurd hu (bV _))|simp[Instr.makeInterface,underlying,hu]
 · exact h.elim
theorem Mi{t xt:an}{x:AV}{v:ah}(hx:RV F μ w v x)(h:Wu P t x K):Qt P F μ w K (Instr.typeAssert v xt t false):=by
 unfold Wu at h;split at h
 · obtain⟨h1,rfl,h2⟩:=h
   have hx:=hx.bG
   cases hx with
   |iface _ u _ hu=>
   refine .of _ u h2 (.p hu) λw'=>?_;unfold ZC at h1;split at h1<;>simp at h1;rename_i bV Ot
   cases hd:P.underlying _ with
   |none=>exact absurd hd Ot
   |some d=>cases d<;>first|(exact absurd hd (bV _))|simp[Instr.typeAssert,underlying,hd]
 · exact h.elim
theorem td{x:AV}{t ty:an}{v:ah}(hx:RV F μ w v x)(h:FA x P t K):Qt P F μ w K (gm #[t] ty #[v]):=by
 unfold FA at h;split at h
 · obtain⟨h1,h2⟩:=h
   obtain⟨⟨s,g⟩,hE⟩:=Option.isSome_iff_exists.1 h1;obtain⟨e,hu,_⟩:=jl hE;cases hx;rename_i hx
   cases hx with
   |r5 a cap sz clip e1 e2 e3=>exact .of _ _ h2 (.p (.int _ _)) λw'=>by simp[gm,underlying,hu,goInt]
   |sl b off len cap sz clip l cv hb hl h3 h4 h5 h6 h7 h8=>exact .of _ _ h2 (.p (.int _ _)) λw'=>by simp[gm,underlying,hu,goInt,hl]
 · obtain⟨h1,h2⟩:=h
   obtain⟨⟨s,g⟩,hE⟩:=Option.isSome_iff_exists.1 h1;obtain⟨e,hu,_⟩:=jl hE
   cases hx with
   |dJ o sz off bL len cap b t' n' hb gX pQ r7 tX qe=>exact .of _ _ h2 (.p (.int _ _)) λw'=>by simp[gm,underlying,hu,goInt]
 · obtain⟨h1,h2⟩:=h
   obtain rfl:=mG hx;(have hu:P.underlying t=some .string:=by unfold Ma at h1;split at h1<;>simp_all);exact .of _ _ h2 (.p (.int _ _)) λw'=>by simp[gm,underlying,hu,goInt]
 · exact h.elim
theorem oY(mx:Bool):∀(r:List AV) (x:AV) (v:ah) (vs:List ah),RV F μ w v x->vs.length=r.length->(∀(i:Nat) p,r[i]? =some p->RV F μ w (vs[i]?.getD undef) p)->
 iE mx x r K->Qt P F μ w K (vs.foldlM (if mx then Builtin.max2 else Builtin.min2) v)
 |[],x,v,vs,hx,hl,_,h=>by
  have:vs=[]:=by simpa using hl
  subst this
  cases x with
  |p q=>
   cases q with
   |int k n=>obtain rfl:=fE hx;exact .of _ _ h (.p (.int _ _)) λw'=>rfl
   |_=>exact h.elim
  |_=>exact h.elim
 |y::r,x,v,vs,hx,hl,hr,h=>by
  match vs,hl with
  |u::vs,hl=>
   have hu:RV F μ w u y:=by simpa using hr 0 y rfl
   cases x with
   |p q=>
    cases q with
    |int k a=>
     cases y with
     |p q'=>
      cases q' with
      |int k' b=>
       obtain rfl:=fE hx;obtain rfl:=fE hu;simp only[iE] at h;obtain⟨av,z,h1,h2,h3⟩:=oY mx r _ _ vs (.p (.int _ _)) (by simpa using hl) (λi p hp=>by simpa using hr (i+1) p (by simpa using hp)) h;refine⟨av,z,h1,h2,λw' UF=>?_⟩;have h4:=h3 w' UF;cases mx<;>simp only[if_true,mB,if_false] at h4 ⊢ <;>simp[List.foldlM_cons,Builtin.max2,Builtin.min2,h4]
      |_=>simp[iE] at h
     |_=>simp[iE] at h
    |_=>simp[iE] at h
   |_=>simp[iE] at h
end
section
variable{P:au}{F:Nat->Prop}{μ:aN}{σ:ab}{w:aj}{K:AV->Prop}
theorem UG{t:an}{k:IntKind}(h:tC P t= .int k):P.underlying t=some (.int k):=by
 unfold tC at h;split at h<;>first|(injection h with h;subst h;assumption)|(cases h;done)|(split at h<;>cases h)
theorem II{t:an}(h:tC P t= .str):P.underlying t=some .string:=by
 unfold tC at h;split at h<;>first|assumption|(cases h;done)|(split at h<;>cases h)
theorem ui{t:an}(h:tC P t= .bytes):∃e,P.underlying t=some (.slice e)/\P.underlying e=some (.int .u8):=by
 unfold tC at h;(split at h<;>first|(cases h;done)|skip);rename_i e he;split at h
 · rename_i h2;exact⟨e,he,h2⟩
 · cases h
theorem uj:∀{l:List PV} {q:List Int},TI l=some q->l=q.map (PV.int .u8)
 |[],q,h=>by simp[TI] at h;subst h;rfl
 |p::r,q,h=>by
  cases p with
  |int k n=>
   (cases k<;>simp only[TI] at h<;>try(cases h;done));split at h
   · rename_i q' hq
     injection h with h;subst h;simp[uj hq]
   · cases h
  |_=>simp[TI] at h
theorem FF:∀{l:List AV} {q:List Int},RA l=some q->l=q.map λn=>AV.p (PV.int .u8 n)
 |[],q,h=>by simp[RA] at h;subst h;rfl
 |p::r,q,h=>by
  cases p with
  |p v=>
   cases v with
   |int k n=>
    (cases k<;>simp only[RA] at h<;>try(cases h;done));split at h
    · rename_i q' hq
      injection h with h;subst h;simp[FF hq]
    · cases h
   |_=>simp[RA] at h
  |_=>simp[RA] at h
theorem RE(q:List Int):RA (q.map λn=>AV.p (PV.int .u8 n))=some q:=by
 induction q with
 |nil=>rfl
 |cons n q ih=>simp[RA,ih]
theorem qx{s d:an}{x:AV}{v:ah}(ar:az F μ σ w)(hx:RV F μ w v x)(h:wB P s d x σ K):Qt P F μ w K (convert s d v):=by
 unfold wB at h;split at h
 · rename_i k hd
   have hd:=UG hd;split at h
   · rename_i k' n
     obtain rfl:=fE hx;obtain⟨h1,h⟩:=h;obtain⟨ds,hs⟩:=Option.isSome_iff_exists.1 h1;exact .of _ _ h (.p (.int _ _)) λw'=>by simp[convert,underlying,hd,hs,Conv.intToInt]
   · exact h.elim
 · rename_i hd
   have hd:=II hd;split at h
   · obtain⟨h1,h2⟩:=h
     obtain rfl:=mG hx;have hs:=II h1;exact .of _ _ h2 (.p (.str _)) λw'=>by simp[convert,underlying,hd,hs]
   · rename_i sz c l
     obtain⟨h1,iR,q,hq,h2⟩:=h;obtain⟨e,hs,he⟩:=ui h1;have hl:=uj hq;cases hx;rename_i hx
     cases hx with
     |r5 a cap sz clip e1 e2 e3=>
      (have:q=[]:=by simpa using hl.symm);subst this;refine .of _ (.string (strOfNums [])) h2 (.p (.str _)) λw'=>?_
      cases a with
      |none=>rw[run_convert_bytes_nil w' s e hs he 0 cap d hd];rfl
      |some a=>
       have:=run_convert_bytes_arg w' s e hs he a.block a.off 0 cap [] rfl (by simp) d hd
       have h0:∀a b:Addr,(convert s d (.slice (some a) 0 cap)).run P w'=(convert s d (.slice (some b) 0 cap)).run P w':=λa b=>by
        rw[run_convert_bytes_string w' s d e (some a) 0 cap hs he hd,run_convert_bytes_string w' s d e (some b) 0 cap hs he hd];rfl
       rw[h0 a ⟨a.block,a.off,none⟩,this]
     |sl b off len cap sz clip l cv hb A0 h3 h4 h5 h6 h7 h8=>
      subst hl;refine⟨_,_,h2,.p (.str _),λw' UF=>run_convert_bytes_arg w' s e hs he b off len cap q (by simpa using A0.symm) (λi hi=>UF.cell ?_) d hd⟩;(have wC:i<q.length:=by simpa[A0] using hi);(have hg:(q.map (PV.int .u8))[i]? =some (.int .u8 q[i]):=by simp[wC]);have h9:=h7 i _ 0 _ hg rfl;have ZD:=h8 i _ 0 _ hg rfl;have hsz1:sz=1:=(h6 i _ hg).1.symm;subst hsz1;simp only[Nat.mul_one,Nat.add_zero] at h9;rw[h9];generalize cv i 0=cc at ZD;cases ZD;simp[cF,wC]
   · rename_i o sz off len
     obtain⟨h1,iR,h⟩:=h;subst iR;obtain⟨e,hs,he⟩:=ui h1;split at h
     · rename_i cs ho
       obtain⟨hle,q,hq,h2⟩:=h;have hl:=FF hq;have hql:q.length=len:=by have:=congrArg List.length hl;simp at this;omega
       cases hx with
       |dJ o sz off bL len cap b t' n' hb gX pQ r7 tX qe=>
       obtain⟨cur,ty,g1,g2,g3⟩:=ar.cells ho hb;refine⟨_,_,h2,.p (.str _),λw' UF=>run_convert_bytes_arg w' s e hs he b bL len cap q hql (λi hi=>UF.cell ?_) d hd⟩
       have l9:bL=off:=by rcases gX with h'|h'<;>omega
       subst l9
       have hg:cs[bL+i]? =some (.p (.int .u8 (q.getD i 0))):=by
        have:=congrArg (λl:List AV=>l[i]?) hl;simp only[ly hi,jQ,aW] at this;rw[this];simp[cF,show i<q.length by omega]
       have:=fE (g3 _ _ hg);rw[mF g1];(have aC:bL+i<cur.size:=by omega);simp[aC] at this ⊢;rw[this]
     · exact h.elim
   · exact h.elim
 · exact h.elim
theorem ef{d a:Int}{x:Option AV}{v:Option ah}(hx:match x,v with|some x,some v=>RV F μ w v x|none,none=>True|_,_=>False)(h:oe d x=some a):
 (x=none/\v=none/\a=d)\/ ∃k,v=some (.int k a):=by
 unfold oe at h;split at h
 · injection h with h;subst h
   cases v with
   |none=>exact .inl ⟨rfl,rfl,rfl⟩
   |some v=>exact hx.elim
 · injection h with h;subst h
   cases v with
   |none=>exact hx.elim
   |some v=>rename_i k n;obtain rfl:=fE hx;exact .inr ⟨k,rfl⟩
 · cases h
theorem run_sliceBound{k:IntKind}{n:Int}{y:Nat}{code:BoundsCode}(h0:0<=n)(h1:n<=y)(w':aj):(Instr.sliceBound (.int k n) y code).run P w'= .ok n.toNat w':=by
 have:0<=n/\n<=(y:Int):=⟨h0,h1⟩;simp[Instr.sliceBound,asIntOf,this]
theorem mH{isS:Bool}{len cap:Nat}{lo hi:Option ah}{a b:Int}(Ba:(lo=none/\a=0)\/ ∃k,lo=some (.int k a))(Ik:(hi=none/\b=len)\/ ∃k,hi=some (.int k b))
 (h0:0<=a) (h1:a<=b) (h2:b<=cap) (w':aj):(mC isS len cap lo hi none).run P w'= .ok (a.toNat,b.toNat,cap) w':=by
 have sh:∀k code,(Instr.sliceBound (.int k b) cap code).run P w'= .ok b.toNat w':=λk code=>run_sliceBound (by omega) h2 w';have sl:∀k code,(Instr.sliceBound (.int k a) b.toNat code).run P w'= .ok a.toNat w':=λk code=>run_sliceBound h0 (by omega) w';rcases Ba with⟨rfl,rfl⟩|⟨k,rfl⟩<;>rcases Ik with⟨rfl,rfl⟩|⟨k2,rfl⟩<;>simp only[mC,bu,cg,bD,sh,dv] at sl ⊢ <;>first|rfl|simp only[sl,bD]
theorem wD{isS:Bool}{len cap:Nat}{lo hi mx:Option ah}{a b:Int}{k k':IntKind}(Ba:(lo=none/\a=0)\/ ∃k,lo=some (.int k a))(Ik:hi=some (.int k b))(Fi:mx=some (.int k' b))
 (h0:0<=a) (h1:a<=b) (h2:b<=cap) (w':aj):(mC isS len cap lo hi mx).run P w'= .ok (a.toNat,b.toNat,b.toNat) w':=by
 subst Ik;subst Fi;unfold mC;simp only[bu,run_sliceBound (P:=P) (show 0<=b by omega) h2,run_sliceBound (P:=P) (show 0<=b by omega) (show b<=(b.toNat:Int) by omega),bD];rcases Ba with⟨rfl,rfl⟩|⟨k,rfl⟩
 · simp
 · simp only[bu,run_sliceBound (P:=P) h0 (show a<=(b.toNat:Int) by omega),bD,cg]
theorem Ou{v:ah}{sz:Nat}{c:Bool}{l:List PV}(h:RP F w v (.sl sz c l)):∃a len cap,v= .slice a len cap/\len=l.length/\len<=cap/\cap<=maxLen/\(c=true->cap=len)/\
 ∀(s lo hi m:Nat),(sz=s\/l=[])->lo<=hi->hi<=len->hi<=m->m<=cap->RP F w (.slice (if m=lo then a else a.map (·.add (lo*s))) (hi-lo) (m-lo)) (.sl sz (decide (m=hi)) ((l.take hi).drop lo)):=by
 cases h with
 |r5 a cap sz clip e1 e2 e3=>
  refine⟨a,0,cap,rfl,rfl,de _,e1,e3,λs lo hi m _ h1 h2 h3 h4=>?_⟩;(obtain rfl:lo=0:=by omega);(obtain rfl:hi=0:=by omega);simp only[List.take_nil,List.drop_nil,Nat.sub_self];refine .r5 _ _ _ _ (by omega) (λh=>?_) (λh=>by simp at h;omega);have:=e2 (by cases a with|none=>rfl|some a=>split at h<;>simp at h);omega
 |sl b off len cap sz clip l cv hb hl h3 h4 h5 h6 h7 h8=>
  refine⟨_,len,cap,rfl,hl,h3,h4,h5,λs lo hi m hs h1 h2 hm h4'=>?_⟩;by_cases he:lo=hi
  · subst he
    have:(l.take lo).drop lo=[]:=lz (by simp;omega);rw[this,Nat.sub_self];exact .r5 _ _ _ _ (by omega) (λh=>by split at h<;>simp at h) (λh=>by simp at h;omega)
  · have iR:sz=s:=by rcases hs with h'|h';(exact h');(subst h';simp at hl;omega)
    subst iR;rw[if_neg (by omega)];simp only[Option.map_some,fD]
    have hg:∀(i:Nat) p,((l.take hi).drop lo)[i]? =some p->l[lo+i]? =some p:=λi p hp=>by
     rw[jQ] at hp;(have wC:lo+i<hi:=by have:=(aq.1 hp).1;simp at this;omega);rwa[ly wC] at hp
    refine .sl b (off+lo*sz) (hi-lo) (m-lo) sz _ _ (λi j=>cv (lo+i) j) hb (by simp;omega) (by omega) (by omega) (λh=>by simp at h;omega)
     (λi p hp=>h6 _ p (hg i p hp)) (λi p j q hp hq=>?_) (λi p j q hp hq=>h8 _ p j q (hg i p hp) hq)
    have:=h7 _ p j q (hg i p hp) hq;rw[<-this,dB];congr 2;omega
theorem r8{t:an}{x:AV}{v:ah}{lo hi mx:Option AV}{IJ FG A1:Option ah}(ar:az F μ σ w)(hx:RV F μ w v x)
 (Ba:match lo,IJ with|some x,some v=>RV F μ w v x|none,none=>True|_,_=>False) (Ik:match hi,FG with|some x,some v=>RV F μ w v x|none,none=>True|_,_=>False)
 (Fi:match mx,A1 with|some x,some v=>RV F μ w v x|none,none=>True|_,_=>False) (h:RB P t x lo hi mx σ K):Qt P F μ w K (Instr.sliceAt t v IJ FG A1):=by
 have qy:∀{d a:Int} {x:Option AV} {v:Option ah},((x=none/\v=none/\a=d)\/ ∃k,v=some (.int k a))->(v=none/\a=d)\/ ∃k,v=some (.int k a):=λh=>h.imp (λh=>⟨h.2.1,h.2.2⟩) id;unfold RB at h;split at h
 · rename_i sz c l
   split at h
   · rename_i s g a b hE ha hb
     obtain⟨e,hu,hs⟩:=jl hE;cases hx;rename_i hx;obtain⟨ad,len,cap,rfl,hlen,tX,qe,sJ,te⟩:=Ou hx;have h1:=qy (ef Ba ha);have h2:=qy (ef Ik hb);split at h
     · obtain⟨⟨hz,h0,xB,tY⟩,hK⟩:=h
       (obtain rfl:A1=none:=by cases A1;rfl;exact Fi.elim);have hr:∀w',(mC true len cap IJ FG none).run P w'= .ok (a.toNat,b.toNat,cap) w':=λw'=>mH h1 (by simpa[hlen] using h2) h0 xB (by omega) w'
       refine .of _ _ hK (.p ?_) λw'=>by
        simp only[Instr.sliceAt,Instr.slice,underlying,bu,run_program,bD,hu,cg,hr w',run_sizeOf hs];rfl
       have Q1:=te s a.toNat b.toNat cap hz (by omega) (by omega) (by omega) (aX _)
       have hle:PV.le (.sl sz (decide (cap=b.toNat)) ((l.take b.toNat).drop a.toNat)) (.sl sz (c&&hi.isNone) ((l.take b.toNat).drop a.toNat)):=by
        cases hc:(c&&hi.isNone) with
        |false=>exact PV.ue _ _ _
        |true=>
         simp only[aQ,Option.isNone_iff_eq_none] at hc;obtain⟨rfl,rfl⟩:=hc;(have:b=l.length:=by simp[oe] at hb;exact hb.symm);(have hd:decide (cap=b.toNat)=true:=by simp[this,sJ rfl,hlen]);rw[hd];exact PV.le_refl _
       exact hle F w _ Q1
     · rename_i m
       obtain⟨⟨hz,h0,xB,tY⟩,uk,hm,hK⟩:=h
       obtain⟨k',Wv⟩:∃k',A1=some (.int k' b):=by
        rcases ef Fi hm with⟨h',_⟩|h'
        · cases h'
        · exact h'
       obtain⟨k,hvh⟩:∃k,FG=some (.int k b):=by
        rcases ef Ik hb with⟨h',_⟩|h'
        · rw[h'] at uk;simp at uk
        · exact h'
       have hr:∀w',(mC true len cap IJ FG A1).run P w'= .ok (a.toNat,b.toNat,b.toNat) w':=λw'=>wD h1 hvh Wv h0 xB (by omega) w'
       refine .of _ _ hK (.p ?_) λw'=>by
        simp only[Instr.sliceAt,Instr.slice,underlying,bu,run_program,bD,hu,cg,hr w',run_sizeOf hs];rfl
       have Q1:=te s a.toNat b.toNat b.toNat hz (by omega) (by omega) (by omega) (by omega);simpa using Q1
   · exact h.elim
 · rename_i o sz off n
   split at h
   · rename_i s g a b hE ha hb
     obtain⟨e,hu,hs⟩:=jl hE
     cases hx with
     |dJ o sz off bL len cap bb t' n' RF gX pQ r7 tX qe=>
     have h1:=qy (ef Ba ha);have h2:=qy (ef Ik hb)
     have fin:∀(m:Nat),b.toNat<=m->m<=cap->a<=b->0<=a->b<=n->sz=s->RV F μ w (.slice (if m=a.toNat then some ⟨bb,bL,none⟩ else(some (⟨bb,bL,none⟩:Addr)).map (·.add (a.toNat*s))) (b.toNat-a.toNat) (m-a.toNat)) (.dJ o sz (off+a.toNat*s) (b.toNat-a.toNat)):=by
      intro m hm hmc xB h0 tY hz;subst hz
      have hmul:off+a.toNat*sz+(m-a.toNat)*sz<=n':=by
       (have:(m-a.toNat)*sz+a.toNat*sz=m*sz:=by rw[<-dB];congr 1;omega);have:m*sz<=cap*sz:=fC _ hmc;omega
      by_cases TJ:m=a.toNat
      · rw[if_pos TJ]
        exact .dJ _ _ _ _ _ _ _ t' n' RF (.inl (by omega)) pQ hmul (by omega) (by omega)
      · rw[if_neg TJ]
        simp only[Option.map_some,fD];refine .dJ _ _ _ _ _ _ _ t' n' RF (.inr ?_) pQ hmul (by omega) (by omega);rcases gX with h'|h'
        · omega
        · rw[h']
     split at h
     · obtain⟨⟨hz,h0,xB,tY⟩,hK⟩:=h
       (obtain rfl:A1=none:=by cases A1;rfl;exact Fi.elim);have hr:∀w',(mC true n cap IJ FG none).run P w'= .ok (a.toNat,b.toNat,cap) w':=λw'=>mH h1 h2 h0 xB (by omega) w'
       exact .of _ _ hK (fin cap (by omega) (aX _) xB h0 tY hz) λw'=>by
        simp only[Instr.sliceAt,Instr.slice,underlying,bu,run_program,bD,hu,cg,hr w',run_sizeOf hs]
     · rename_i m
       obtain⟨⟨hz,h0,xB,tY⟩,uk,hm,hK⟩:=h
       obtain⟨k',Wv⟩:∃k',A1=some (.int k' b):=by
        rcases ef Fi hm with⟨h',_⟩|h'
        · cases h'
        · exact h'
       obtain⟨k,hvh⟩:∃k,FG=some (.int k b):=by
        rcases ef Ik hb with⟨h',_⟩|h'
        · rw[h'] at uk;simp at uk
        · exact h'
       have hr:∀w',(mC true n cap IJ FG A1).run P w'= .ok (a.toNat,b.toNat,b.toNat) w':=λw'=>wD h1 hvh Wv h0 xB (by omega) w'
       exact .of _ _ hK (fin b.toNat (aX _) (by omega) xB h0 tY hz) λw'=>by
        simp only[Instr.sliceAt,Instr.slice,underlying,bu,run_program,bD,hu,cg,hr w',run_sizeOf hs]
   · exact h.elim
 · rename_i o off
   split at h
   · rename_i n s g cs hA ho
     obtain⟨e,hu,hs⟩:=DI hA;(obtain rfl:A1=none:=by cases A1;rfl;exact Fi.elim);cases hx;rename_i b hb;obtain⟨cur,ty,g1,g2,g3⟩:=ar.cells ho hb;split at h
     · rename_i a e' ha Fj
       obtain⟨⟨h0,xB,tY⟩,⟨iR,hn⟩,hK⟩:=h;have h1:=qy (ef Ba ha);have h2:=qy (ef Ik Fj);have hr:∀w',(mC false n n IJ FG none).run P w'= .ok (a.toNat,e'.toNat,n) w':=λw'=>mH h1 h2 h0 xB tY w'
       refine .of _ (.slice (some (if n=a.toNat then⟨b,off,none⟩ else Addr.add ⟨b,off,none⟩ (a.toNat*s))) (e'.toNat-a.toNat) (n-a.toNat)) hK ?_ λw'=>by
        simp only[Instr.sliceAt,underlying,bu,run_program,bD,hu,cg,Instr.sureAddr,hr w',run_sizeOf hs]
       have hmul:off+a.toNat*s+(n-a.toNat)*s<=cur.size:=by
        (have:(n-a.toNat)*s+a.toNat*s=n*s:=by rw[<-dB];congr 1;omega);omega
       (have Ov:w.shape? b=some (ty,cur.size):=by simp[cC,g1]);(have kl:n-a.toNat<=maxLen:=by unfold maxLen;omega);by_cases TJ:n=a.toNat
       · rw[if_pos TJ]
         exact .dJ _ _ _ _ _ _ _ ty cur.size hb (.inl (by omega)) Ov hmul (by omega) kl
       · rw[if_neg TJ,fD]
         exact .dJ _ _ _ _ _ _ _ ty cur.size hb (.inr rfl) Ov hmul (by omega) kl
     · exact h.elim
   · exact h.elim
 · rename_i b
   split at h
   · rename_i a e ha he
     obtain⟨hn,cu,⟨h0,xB,tY⟩,hK⟩:=h;(have hu:P.underlying t=some .string:=by unfold Ma at cu;split at cu<;>simp_all);(obtain rfl:mx=none:=by simpa using hn);(obtain rfl:A1=none:=by cases A1;rfl;exact Fi.elim);obtain rfl:=mG hx;have h1:=qy (ef Ba ha);have h2:=qy (ef Ik he);have hr:∀w',(mC false b.size b.size IJ FG none).run P w'= .ok (a.toNat,e.toNat,b.size) w':=λw'=>mH h1 h2 h0 xB tY w'
     exact .of _ _ hK (.p (.str _)) λw'=>by
      simp only[Instr.sliceAt,Instr.slice,underlying,bu,run_program,bD,hu,cg,Option.isSome_none,mB,if_false,hr w']
   · exact h.elim
 · exact h.elim
end
section
variable{P:au}{F:Nat->Prop}{μ:aN}{σ:ab}{w:aj}{K:AV->Prop}
theorem lp:∀(vs:List AV) (cs:List AV) (off:Nat),(cO cs off vs).length=cs.length
 |[],cs,off=>rfl
 |v::r,cs,off=>by simp[cO,lp r]
theorem qz:∀(vs cs:List AV) (c:AV) (off:Nat),cO (c::cs) (off+1) vs=c::cO cs off vs
 |[],_,_,_=>rfl
 |v::r,cs,c,off=>by rw[cO,cO,List.set_cons_succ,qz r]
theorem yu:∀(vs:List AV) (off:Nat),cO [] off vs=[]
 |[],_=>rfl
 |v::r,off=>by rw[cO,List.set_nil,yu r]
theorem um:∀(cs:List AV) (off:Nat) (vs:List AV),Md cs off vs=cO cs off vs
 |[],off,vs=>by rw[Md,yu]
 |c::cs,0,[]=>rfl
 |c::cs,0,v::vs=>by rw[Md,cO,List.set_cons_zero,qz,um cs 0 vs]
 |c::cs,n+1,vs=>by
  rw[qz,<-um cs n vs];cases vs<;>rfl
theorem yw:∀(vs:List AV) (us:List ah) (cs:List AV) (xs:Array ah) (off k:Nat),us.length=vs.length->xs.size=cs.length->(∀(i:Nat) p,vs[i]? =some p->RV F μ w (us[i]?.getD undef) p)->
 (∀(i:Nat) p,cs[i]? =some p->RV F μ w (xs[i]?.getD undef) p)->
 ((us.zipIdx k).foldl (λcs (x:ah×Nat)=>cs.setIfInBounds (off+x.2) x.1) xs).size=(cO cs (off+k) vs).length/\
 ∀(i:Nat) p,(cO cs (off+k) vs)[i]? =some p->RV F μ w (((us.zipIdx k).foldl (λcs (x:ah×Nat)=>cs.setIfInBounds (off+x.2) x.1) xs)[i]?.getD undef) p
 |[],us,cs,xs,off,k,hl,hs,hv,hc=>by
  (have:us=[]:=by simpa using hl);subst this;exact⟨hs,hc⟩
 |v::r,us,cs,xs,off,k,hl,hs,hv,hc=>by
  match us,hl with
  |u::us,hl=>
   simp only[List.zipIdx_cons,List.foldl_cons,cO];have hu:RV F μ w u v:=by simpa using hv 0 v rfl
   have:=yw r us (cs.set (off+k) v) (xs.setIfInBounds (off+k) u) off (k+1) (by simpa using hl) (by simpa using hs) (λi p hp=>by simpa using hv (i+1) p (by simpa using hp)) (λi p hp=>by
    by_cases he:off+k=i
    · subst he
      (have aC:off+k<cs.length:=by have:=(aq.1 hp).1;simpa using this);rw[List.getElem?_set_self aC] at hp;injection hp with hp;subst hp;(have UH:off+k<xs.size:=by omega);simpa[UH] using hu
    · rw[nv he] at hp
      rw[Array.getElem?_setIfInBounds_ne he]
      exact hc i p hp)
   exact this
theorem tf{pl:Nat->Option (Nat×Nat)}:∀(parts:List (Nat×AV)) (vs:List (Nat×ah)) (cs:List AV) (xs:Array ah) (out:List AV),vs.length=parts.length->
 (∀(i:Nat) p,parts[i]? =some p->∃v,vs[i]? =some (p.1,v)/\RV F μ w v p.2)->xs.size=cs.length->(∀(i:Nat) p,cs[i]? =some p->RV F μ w (xs[i]?.getD undef) p)->pP pl cs parts=some out->
 ∃ys,Instr.fill pl xs vs=some ys/\ys.size=out.length/\ ∀(i:Nat) p,out[i]? =some p->RV F μ w (ys[i]?.getD undef) p
 |[],vs,cs,xs,out,hl,_,hs,hc,h=>by
  (have:vs=[]:=by simpa using hl);subst this;simp[pP] at h;subst h;exact⟨xs,rfl,hs,hc⟩
 |(i,a)::r,vs,cs,xs,out,hl,hp,hs,hc,h=>by
  match vs,hl with
  |x::vs,hl=>
   obtain⟨v,hv,hr⟩:=hp 0 (i,a) rfl;simp at hv;subst hv;simp only[pP,um] at h;split at h
   · rename_i off s Il
     split at h
     · rename_i FH
       obtain⟨h0,h1,h2⟩:=FH;(have hne':a≠ .any:=λe=>by subst e;cases h0);obtain⟨k1,k2⟩:=hr.cells hne';have cu:=yw (F:=F) (μ:=μ) (w:=w) a.cells v.cells.toList cs xs off 0 (by simpa using k1) hs (by simpa using k2) hc;obtain⟨ys,y1,y2,y3⟩:=tf r vs _ _ out (by simpa using hl) (λi p gj=>by simpa using hp (i+1) p (by simpa using gj)) cu.1 cu.2 h;refine⟨ys,?_,y2,y3⟩
       have e:(v.cells.zipIdx.foldl (λcs (c,j)=>cs.setIfInBounds (off+j) c) xs)=v.cells.toList.zipIdx.foldl (λcs (x:ah×Nat)=>cs.setIfInBounds (off+x.2) x.1) xs:=by
        rw[<-Array.foldl_toList,Array.toList_zipIdx]
       simp only[Instr.fill,Il,e]
       have FH:(v.cells.size≠s||off+v.cells.size>xs.size)=false:=by
        simp only[bne_iff_ne,ne_eq,Bool.or_eq_false_iff,decide_eq_false_iff_not,Nat.not_lt,gt_iff_lt];refine⟨by simp;omega,by omega⟩
       rw[if_neg (by simpa using FH)];exact y1
     · cases h
   · cases h
theorem run_places:∀(fs:List Field) (l:List (Nat×Nat)),W8 P fs=some l-> ∀w',(fs.mapM (λf=>do pure (f.offset,<-sizeOf f.type)):Sem (List (Nat×Nat))).run P w'= .ok l w'
 |[],l,h,w'=>by simp[W8] at h;subst h;rfl
 |x::r,l,h,w'=>by
  simp only[W8] at h;split at h
  · rename_i s g l' hs hl
    injection h with h;subst h;simp only[List.mapM_cons,bu,run_sizeOf hs,bD,cg,run_places r l' hl]
  · cases h
theorem Mj{t:an}{z:List AV}(h:tZA P t=some z):∃zv:ah,(∀w',(zeroValue t).run P w'= .ok zv w')/\zv.cells.size=z.length/\ ∀(i:Nat) p,z[i]? =some p->RV F μ w (zv.cells[i]?.getD undef) p:=by
 unfold tZA at h;split at h
 · rename_i z' hz
   injection h with h;subst h;obtain⟨zv,vy,x2,Im⟩:=eB hz w
   exact⟨zv,vy,by simpa using x2,λi p hp=>by
    simp only[aW,cm] at hp;obtain⟨q,hq,rfl⟩:=hp
    exact .p (Im F i q hq)⟩
 · split at h
   · rename_i i hi
     split at h
     · rename_i v hv
       injection h with h;subst h
       exact⟨v,λw'=>by simp[zeroValue,typeInfo,hi,hv],by simp,λi c hc=>by
        have:=aO hc
        rw[(List.mem_replicate.1 this).2];exact .any _⟩
     · cases h
   · cases h
theorem DK{t:an}{parts:List (Nat×AV)}{vs:List (Nat×ah)}(hl:vs.length=parts.length)(hp:∀(i:Nat) p,parts[i]? =some p->∃v,vs[i]? =some (p.1,v)/\RV F μ w v p.2)
 (h:vu P t parts K):Qt P F μ w K (Instr.build t vs.toArray):=by
 unfold vu at h;split at h
 · rename_i z l s hz FI
   split at h
   · rename_i cs hf
     obtain⟨zv,vy,x2,Im⟩:=Mj (P:=P) (F:=F) (μ:=μ) (w:=w) hz;obtain⟨ys,y1,y2,y3⟩:=tf (F:=F) (μ:=μ) (w:=w) parts vs z zv.cells cs hl hp (by simpa using x2) Im hf;refine .of _ (.agg ys) h (ta y2 y3) λw'=>?_;unfold tPs at FI;split at FI
     · rename_i fs hu
       split at FI
       · rename_i l' Ml
         injection FI with FI;injection FI with e1 e2;subst e1;subst e2;have hm:=run_places fs.toList l' Ml w';(have Ow:placeOf l' 0=λx=>l'.toArray[x]? :=by funext x;simp[placeOf]);rw[Ow] at y1;simp only[Instr.build,bu,vy,bD,underlying,run_program,hu,cg,Array.mapM_eq_mapM_toList,Sem.run_map,hm,y1]
       · cases FI
     · rename_i n e hu
       split at FI
       · rename_i s' g hs
         split at FI
         · cases FI
         · rename_i ZE
           injection FI with FI;injection FI with e1 e2;subst e1;subst e2;(have Ow:placeOf [] s'=λi=>some (i*s',s'):=by funext x;simp[placeOf,ZE]);rw[Ow] at y1;simp only[Instr.build,bu,vy,bD,underlying,run_program,hu,cg,run_sizeOf hs,y1]
       · cases FI
     · cases FI
   · exact h.elim
 · exact h.elim
def DL:ah->Bool
 |.pointer (some _)=>true
 |.func (.func _) _ _=>true
 |.func (.yield _) _ _=>true
 |_=>false
theorem yx{x:AV}{v:ah}(hx:RV F μ w v x)(h:IE x K):∃av,K av/\RV F μ w v av/\DL v=true:=by
 unfold IE at h;split at h
 · cases hx;rename_i b hb;exact⟨_,h,.ptr _ _ _ hb,rfl⟩
 · exact⟨_,h,hx,by obtain⟨b,off,c,rfl,_,_⟩:=hx.bG.DF;rfl⟩
 · exact⟨_,h,hx,by cases hx;rfl⟩
 · exact⟨_,h,hx,by cases hx;rename_i hx;cases hx;rfl⟩
 · exact⟨_,h,hx,by cases hx;rename_i hx;cases hx;rfl⟩
 · exact h.elim
def TK(P:au)(F:Nat->Prop)(μ:aN)(w:aj)(K:AV->Prop)(s:Sem Next):Prop:=
 ∃av v,K av/\RV F μ w v av/\ ∀w',tc w w'->s.run P w'= .ok (.value v) w'
theorem Qt.next{s:Sem ah}(h:Qt P F μ w K s):TK P F μ w K (do pure (.value (<-s))):=by
 obtain⟨av,v,h1,h2,h3⟩:=h;exact⟨av,v,h1,h2,λw' hw=>by simp[h3 w' hw]⟩
theorem KN{l:List aL}{ev:aL->AV}{a:aL->ah}(h:∀x,RV F μ w (a x) (ev x)):∀(i:Nat) p,(l.map ev)[i]? =some p->RV F μ w ((l.toArray.map a)[i]?.getD undef) p:=λi p hp=>by
 simp only[aW,cm] at hp;obtain⟨x,hx,rfl⟩:=hp;simp[hx];exact h x
theorem oZ{x:Option aL}{ev:aL->AV}{a:aL->ah}(h:∀x,RV F μ w (a x) (ev x)):match x.map ev,x.map a with|some x,some v=>RV F μ w v x|none,none=>True|_,_=>False:=by
 cases x with
 |none=>trivial
 |some x=>exact h x
theorem yy{o:Oper}{ev:aL->AV}{a:aL->ah}(ar:az F μ σ w)(aR:∀x,RV F μ w (a x) (ev x))(h:qK P o.op ev σ K):TK P F μ w K (execOp a o):=by
 obtain⟨dst,op,ty,pos,after,guard⟩:=o;cases op<;>simp only[qK] at h<;>try exact h.elim
 case move x=>exact⟨_,_,h,aR x,λw' _=>rfl⟩
 case assign x=>exact⟨_,_,h,aR x,λw' _=>rfl⟩
 case pick c x y=>
  obtain⟨av,v,h1,h2,h3⟩:=FD (P:=P) (aR c) (aR x) (aR y) h;refine⟨av,v,h1,h2,λw' hw=>?_⟩;have:=h3 w' hw;simp only[bu] at this;simp only[execOp,bu]
  cases hb:(asBool (a c)).run P w' with
  |halt x UI=>rw[hb] at this;simp at this
  |ok t UI=>
   rw[hb] at this;simp only[bD,cg] at this ⊢;injection this with e1 e2;rw[e1,e2]
 case field t x f=>exact(DJ (aR x) h).next
 case load t x=>exact(qv ar (aR x) h).next
 case nilCheck x=>
  obtain⟨av,h1,h2,h3⟩:=yx (aR x) h;refine⟨av,a x,h1,h2,λw' _=>?_⟩;simp only[execOp];revert h3;generalize a x=v;intro h3;unfold DL at h3;split at h3<;>first|rfl|cases h3
 case fieldAddr t x f=>exact(vw (aR x) h).next
 case indexAddr t x i=>exact(r6 (aR x) (aR i) h).next
 case index t x i=>exact(Me (aR x) (aR i) h).next
 case binOp op t x y Fk=>exact(IH x y (aR x) (aR y) h).next
 case unOp op t x=>exact(Mf (aR x) h).next
 case extract x i=>exact(Mg (aR x) h).next
 case convert s d x=>exact(qx ar (aR x) h).next
 case makeFunc f x y=>
  refine Qt.next (s:=Instr.makeFunc f (x.map a) (y.map a)) (.of _ (.func f (x.map a) (y.map a)) h (L9 (by simp) (by simp) ?_ ?_) λw'=>rfl)
  · have:=KN (l:=x.toList) aR;simpa using this
  · have:=KN (l:=y.toList) aR;simpa using this
 case slice t x lo hi mx=>exact(r8 ar (aR x) (oZ aR) (oZ aR) (oZ aR) h).next
 case makeInterface t x=>exact(Mh (aR x) h).next
 case typeAssert x xt t c=>
  cases c with
  |false=>exact(Mi (aR x) h).next
  |true=>exact h.elim
 case build t parts=>
  have:=DK (P:=P) (F:=F) (μ:=μ) (w:=w) (K:=K) (t:=t) (parts:=parts.toList.map λy=>(y.1,ev y.2)) (vs:=parts.toList.map λy=>(y.1,a y.2)) (by simp) (λi p hp=>by
   simp only[aW,cm] at hp;obtain⟨y,hy,rfl⟩:=hp
   exact⟨a y.2,by simp[hy],aR y.2⟩) h
  have e:(parts.map λ(i,x)=>(i,a x))=(parts.toList.map λy=>(y.1,a y.2)).toArray:=by
   apply gz;simp
  simp only[execOp];rw[e];exact this.next
 case call c=>
  obtain⟨callee,args,ats⟩:=c
  cases callee with
  |builtin b=>
   have cY:∀(v:Sem ah),execOp a { dst:=dst,op:= .call { callee:= .builtin b,args:=args,argTypes:=ats },type:=ty,pos:=pos,after:=after,guard:=guard } =(do pure (.value (<-v)))->
    Qt P F μ w K v->TK P F μ w K (execOp a { dst:=dst,op:= .call { callee:= .builtin b,args:=args,argTypes:=ats },type:=ty,pos:=pos,after:=after,guard:=guard }):=λv e hq=>by rw[e];exact hq.next
   cases b<;>simp only[] at h<;>try exact h.elim
   ·
     split at h
     · rename_i x t hx ht
       (have dk:args= #[x]:=by apply gz;simpa using hx);subst dk;refine cY (gm ats ty (#[x].map a)) rfl ?_;have:=td (P:=P) (ty:=ty) (aR x) h;obtain⟨av,v,h1,h2,h3⟩:=this;refine⟨av,v,h1,h2,λw' hw=>?_⟩;have:=h3 w' hw;simp only[gm,ht,List.map_toArray,bE,dw] at this ⊢;exact this
     · exact h.elim
   ·
     split at h
     · rename_i x r hx
       (have dk:args=(x::r).toArray:=by apply gz;simpa using hx);subst dk;refine cY (Builtin.max_ ats ty ((x::r).toArray.map a)) rfl ?_
       have:=oY (P:=P) (K:=K) (F:=F) (μ:=μ) (w:=w) true (r.map ev) (ev x) (a x) (r.map a) (aR x) (by simp) (λi p hp=>by
        simp only[aW,cm] at hp;obtain⟨y,hy,rfl⟩:=hp
        simp[hy];exact aR y) h
       simpa[Builtin.max_] using this
     · exact h.elim
   · split at h
     · rename_i x r hx
       (have dk:args=(x::r).toArray:=by apply gz;simpa using hx);subst dk;refine cY (Builtin.min_ ats ty ((x::r).toArray.map a)) rfl ?_
       have:=oY (P:=P) (K:=K) (F:=F) (μ:=μ) (w:=w) false (r.map ev) (ev x) (a x) (r.map a) (aR x) (by simp) (λi p hp=>by
        simp only[aW,cm] at hp;obtain⟨y,hy,rfl⟩:=hp
        simp[hy];exact aR y) h
       simpa[Builtin.min_] using this
     · exact h.elim
  |value f=>exact h.elim
  |invoke x m=>exact h.elim
end
def AV.one:AV->Bool
 |.any=>false
 |.agg _=>false
 |.bR _=>false
 |.p (.agg _)=>false
 |.p (.bR _)=>false
 |_=>true
def db:AV:= .p (.bR [])
def tB(P:au)(t:an):Option Nat:=
 match P.underlying t with|some (.slice e)=>(match P.info? e with|some i=>some i.bytes|none=>none)|_=>none
def Mm(P:au)(t:an):Option (List PV):=
 match P.underlying t with|some (.slice e)=>tZ P e|_=>none
def qA(P:au)(t:an)(nid:Nat)(K:AV->ab->Prop):Prop:=
 match tZ P t with
 |some z=>K (.ptr nid 0) [(nid,.cells (z.map .p))]
 |none=>(match P.info? t with
  |some i=>(match i.zero with|some v=>K (.ptr nid 0) [(nid,.cells (ck v.cells.size .any))]|none=>False)
  |none=>False)
def UJ(x:AV)(nid:Nat)(K:AV->ab->Prop):Prop:=x.isAny=false/\K (.ptr nid 0) [(nid,.cells x.cells)]
def mI(P:au)(t:an)(a x:AV)(σ:ab)(K:AV->ab->Prop):Prop:=
 match a,tT P t with
 |.ptr o off,some (s,_)=>(match σ.get o with
  |.cells cs=>(x.isAny=false/\x.cells.length=s/\off+s<=cs.length/\ ∀c∈x.cells,c.one=true)/\K db [(o,.cells (cO cs off x.cells))]
  |_=>False)
 |_,_=>False
def ey(z:List PV)(n:Nat):List AV:=
 match z with
 |[v]=>ck n (.p v)
 |z=>(ck n (z.map AV.p)).flatten
def fF(P:au)(t:an)(len:Nat)(parts:List (Nat×AV))(nid:Nat)(K:AV->ab->Prop):Prop:=
 match tE P t,Mm P t with
 |some (s,_),some z=>(z.length=s/\0<s/\len*s<=1000000)/\(match pP (placeOf [] s) (ey z len) parts with|some cs=>K (.dJ nid s 0 len) [(nid,.cells cs)]|none=>False)
 |_,_=>False
def jo(P:au)(t:an)(n c:AV)(nid:Nat)(K:AV->ab->Prop):Prop:=
 match n,c,tE P t,Mm P t,tB P t with
 |.p (.int _ n),.p (.int _ c),some (s,_),some z,some bt=>(z.length=s/\0<s/\0<=n/\n<=c/\c<=1000000000/\bt<=100000)/\K (.dJ nid s 0 n.toNat) [(nid,.cells (ey z n.toNat))]
 |_,_,_,_,_=>False
def mc(x:AV)(s:Nat)(σ:ab)(K:Nat->List AV->Prop):Prop:=
 match x with
 |.p (.sl sz _ l)=>(sz=s\/l=[])/\K l.length ((l.flatMap PV.cells).map .p)
 |.dJ o sz off n=>sz=s/\(match σ.get o with|.cells cs=>off+n*s<=cs.length/\K n ((cs.drop off).take (n*s))|_=>False)
 |.p (.str b)=>s=1/\K b.size (b.data.toList.map λu=>.p (.int .u8 u.toNat))
 |_=>False
def nC(P:au)(t:an):Bool:=match P.underlying t with|some (.int _)=>false|none=>false|_=>true
def jm(P:au)(t xt:an)(a x:AV)(σ:ab)(nid:Nat)(K:AV->ab->Prop):Prop:=
 match tE P t,Mm P t,tB P t with
 |some (s,_),some z,some bt=>
  (z.length=s/\0<s/\bt<=100000/\nC P xt=true)/\mc x s σ λn new=>
    (match a with
    |.p (.sl sz c l)=>(c=true/\(sz=s\/l=[])/\l.length+n<=1000000000)/\
      (n=0->K a [])/\(0<n->K (.dJ nid s 0 (l.length+n)) [(nid,.cells ((l.flatMap PV.cells).map .p++new))])
    |.dJ o sz off len=>(match σ.get o with
     |.cells cs=>(sz=s/\off=0/\len*s=cs.length/\len+n<=1000000000/\(∀c∈new,c.one=true))/\
       (n=0->K a [])/\(0<n->K (.dJ nid s 0 (len+n)) [(nid,.cells (cs++new)),(o,.dead)])
     |_=>False)
    |_=>False)
 |_,_,_=>False
def uo(P:au)(t:an)(a x:AV)(σ:ab)(K:AV->ab->Prop):Prop:=
 match tE P t,a with
 |some (s,_),.dJ o sz off len=>0<s/\mc x s σ λn new=>(match σ.get o with
  |.cells cs=>(sz=s/\off+len*s<=cs.length/\(∀c∈new.take (min n len*s),c.one=true))/\
    K (.p (.int .i64 (min n len:Nat))) [(o,.cells (cO cs off (new.take (min n len*s))))]
  |_=>False)
 |_,_=>False
def mo(P:au)(s d:an)(x:AV)(K:AV->ab->Prop):Prop:=
 match tC P d,x with
 |.bytes,.p (.str b)=>(tC P s= .str/\b.size<=1000000000)/\K (.p (.sl 1 false (b.data.toList.map λu=>.int .u8 u.toNat))) []
 |_,_=>False
def wK(P:au)(op:Op)(ev:aL->AV)(σ:ab)(nid:Nat)(K:AV->ab->Prop):Prop:=
 match op with
 |.alloc t=>qA P t nid K
 |.box _ x=>UJ (ev x) nid K
 |.store t a x=>mI P t (ev a) (ev x) σ K
 |.buildSlice t n parts=>fF P t n (parts.toList.map λy=>(y.1,ev y.2)) nid K
 |.makeSlice t n c=>jo P t (ev n) (ev c) nid K
 |.convert s d x=>mo P s d (ev x) K
 |.call c=>(match c.callee,c.args.toList,c.argTypes[0]?,c.argTypes[1]? with
  |.builtin .append,[a,x],some t,some xt=>jm P t xt (ev a) (ev x) σ nid K
  |.builtin .copy,[a,x],some t,_=>uo P t (ev a) (ev x) σ K
  |_,_,_,_=>False)
 |_=>False
section
variable{P:au}{F:Nat->Prop}{μ:aN}{σ:ab}{w:aj}{nid:Nat}{K:AV->ab->Prop}
def eZ(P:au)(F:Nat->Prop)(μ:aN)(σ:ab)(w:aj)(nid:Nat)(K:AV->ab->Prop)(s:Sem ah):Prop:=
 ∃av us v w' F' μ',K av us/\s.run P w= .ok v w'/\Step F μ w F' μ' w'/\az F' μ' (us++σ) w'/\RV F' μ' w' v av/\ ∀o,o≠nid->μ' o=μ o
theorem one_cell{v:ah}{c:AV}(h:RV F μ w v c)(h1:c.one=true):v.oneCell'=true:=by
 cases h with
 |bo o sz i len v h=>cases h;rfl
 |cr o sz i j v h=>cases h;rfl
 |p hq=>cases hq<;>first|assumption|rfl|(cases h1;done)
 |_=>first|rfl|(cases h1;done)
theorem fj{o:Nat}{x:bJ}{σ:ab}(i:Nat):(i=o/\ab.get ((o,x)::σ) i=x)\/(i≠o/\ab.get ((o,x)::σ) i=σ.get i):=by
 rw[ab.cI];by_cases e:o=i
 · rw[if_pos e];exact .inl ⟨e.symm,rfl⟩
 · rw[if_neg e];exact .inr ⟨λk=>e k.symm,rfl⟩
theorem az.write(h:az F μ σ w){o b:Nat}{cs:List AV}{cur:Array ah}{t:an}(ho:σ.get o= .cells cs)(hb:μ o=some b)(hg:w.heap[b]? =some (.cells cur t (0,0)))
 (cur':Array ah) (o':bJ) (hs:cur'.size=cur.size) (gk:∀w',Step F μ w F μ w'->w'.heap[b]? =some (.cells cur' t (0,0))->RO F μ w' b o'):
 Step F μ w F μ (w.setRow b cur')/\az F μ ((o,o')::σ) (w.setRow b cur'):=by
 (have iX:σ.get o≠ .dead:=by rw[ho];simp);have RG:¬ F b:=h.live o b iX hb;have ez:∀k,k≠b->(w.setRow b cur').heap[k]? =w.heap[k]? :=λk hk=>setRow_other w b k cur' hk;have iO:(w.setRow b cur').heap[b]? =some (.cells cur' t (0,0)):=setRow_heap w b cur cur' t _ hg
 have cu:Step F μ w F μ (w.setRow b cur'):=by
  refine⟨rfl,rfl,rfl,by simp,λk hk=>ez k (λe=>RG (e▸hk)),λk _ hk=>ez k (λe=>hk (e▸ .inl ⟨o,hb⟩)),λk x hx=>?_,λ_ h=>h,λ_ h=>.inl h,λ_ _ h=>h,λ_ h=>.inl h⟩;by_cases hk:k=b
  · subst hk
    simp[cC,hg] at hx;simp[cC,iO,<-hx,hs]
  · simp only[cC,ez k hk] at hx ⊢;exact hx
 have nd:∀i,ab.get ((o,o')::σ) i≠ .dead->σ.get i≠ .dead:=λi hi=>by
  rcases fj (o:=o) (x:=o') (σ:=σ) i with⟨e,_⟩|⟨_,e⟩
  · rw[e];exact iX
  · rw[e] at hi;exact hi
 refine⟨cu,⟨h.fb.st cu λk hk=>by simpa using h.fb k hk,λk hk=>by simpa using h.mb k hk,λi hi=>h.has i (nd i hi),?_,λi bi hi=>h.live i bi (nd i hi),λi j bb hi hj=>h.inj i j bb (nd i hi) (nd j hj),λc m hc=>⟨(h.hd c m hc).1,λi hi=>(h.hd c m hc).2 i (nd i hi)⟩,h.hu⟩⟩;intro i bi qf;rcases fj (o:=o) (x:=o') (σ:=σ) i with⟨e,e2⟩|⟨e,e2⟩
 · rw[e2]
   rw[e,hb] at qf;injection qf with qf;subst qf
   exact gk _ cu iO
 · rw[e2]
   have gk:=h.obj i bi qf;by_cases hd:σ.get i= .dead
   · rw[hd];trivial
   · have:bi≠b:=λk=>e (h.inj i o _ hd iX (k▸qf) hb)
     exact gk.step cu (ez bi this) λc hc=>⟨hc,ez c λe=>(h.hd c bi hc).2 o iX (e▸hb)⟩
theorem kK(h:az F μ σ w)(hn:μ nid=none)(cur:Array ah)(t:an)(cs:List AV)(hl:cs.length<=cur.size)(hr:∀(i:Nat) c,cs[i]? =some c->RV F μ w (cur[i]?.getD undef) c):
 Step F μ w F (μ.put nid w.heap.size) { w with heap:=w.heap.push (.cells cur t) } /\az F (μ.put nid w.heap.size) ([(nid,.cells cs)]++σ) { w with heap:=w.heap.push (.cells cur t) } /\
 (μ.put nid w.heap.size) nid=some w.heap.size/\ ∀o,o≠nid->(μ.put nid w.heap.size) o=μ o:=by
 have:=h.push hn (.cells cur t) (.cells cs) (λw' hs hw=>⟨cur,t,hw,hl,λi c hc=>(hr i c hc).step hs⟩);exact⟨this.2,this.1,aN.jc _ _ _,λo ho=>if_neg ho⟩
theorem o0{t:an}{old:ah}(ar:az F μ σ w)(hn:μ nid=none)(h:qA P t nid K):eZ P F μ σ w nid K (Instr.alloc t true old):=by
 unfold qA at h;split at h
 · rename_i z hz
   obtain⟨zv,vy,x2,Im⟩:=eB hz w
   obtain⟨h1,h2,h3,h4⟩:=kK ar hn zv.cells t (z.map .p) (by simp[x2]) (λi c hc=>by
    simp only[aW,cm] at hc;obtain⟨q,hq,rfl⟩:=hc
    exact .p (Im F i q hq))
   exact⟨_,_,.pointer (some ⟨w.heap.size,0,none⟩),_,_,_,h,by simp[Instr.alloc,vy,newVar,newRow],h1,h2,.ptr _ _ _ h3,h4⟩
 · split at h
   · rename_i i hi
     split at h
     · rename_i v hv
       have vy:∀w',(zeroValue t).run P w'= .ok v w':=λw'=>by simp[zeroValue,typeInfo,hi,hv]
       obtain⟨h1,h2,h3,h4⟩:=kK ar hn v.cells t (ck v.cells.size .any) (by simp) (λi c hc=>by
        have:=aO hc
        rw[(List.mem_replicate.1 this).2];exact .any _)
       exact⟨_,_,.pointer (some ⟨w.heap.size,0,none⟩),_,_,_,h,by simp[Instr.alloc,vy,newVar,newRow],h1,h2,.ptr _ _ _ h3,h4⟩
     · exact h.elim
   · exact h.elim
theorem tg{t:an}{x:AV}{v:ah}(ar:az F μ σ w)(hn:μ nid=none)(hx:RV F μ w v x)(h:UJ x nid K):eZ P F μ σ w nid K (Instr.box t v):=by
 obtain⟨h0,h⟩:=h;obtain⟨k1,k2⟩:=hx.cells (λe=>by subst e;cases h0);obtain⟨h1,h2,h3,h4⟩:=kK ar hn v.cells t x.cells (by omega) k2;exact⟨_,_,.pointer (some ⟨w.heap.size,0,none⟩),_,_,_,h,by simp[Instr.box,newVar,newRow],h1,h2,.ptr _ _ _ h3,h4⟩
theorem th:∀(vs cs:List AV) (off i:Nat),off+vs.length<=cs.length->(cO cs off vs)[i]? =if off<=i/\i<off+vs.length then vs[i-off]? else cs[i]?
 |[],cs,off,i,_=>by simp[cO];omega
 |v::r,cs,off,i,h=>by
  simp only[ea] at h;rw[cO,th r (cs.set off v) (off+1) i (by simp;omega)];by_cases h1:i=off
  · subst h1
    rw[if_neg (by omega),if_pos (by simp),List.getElem?_set_self (by omega)];simp
  · rw[nv (λe=>h1 e.symm)]
    by_cases h2:off+1<=i/\i<off+1+r.length
    · rw[if_pos h2,if_pos (by simp;omega)]
      rw[show i-off=(i-(off+1))+1 by omega];simp
    · rw[if_neg h2,if_neg (by simp;omega)]
theorem qB(ar:az F μ σ w){o b off:Nat}{cs:List AV}(ho:σ.get o= .cells cs)(hb:μ o=some b)(vs:List ah)(us:List AV)(hl:vs.length=us.length)(hle:off+us.length<=cs.length)
 (hr:∀(i:Nat) c,us[i]? =some c->RV F μ w (vs[i]?.getD undef) c) (h1:∀c∈us,c.one=true):
 ∃w',(∀(a:Addr),a=⟨b,off,none⟩->(storeCells a vs).run P w= .ok () w')/\Step F μ w F μ w'/\az F μ ((o,.cells (cO cs off us))::σ) w':=by
 obtain⟨cur,t,g1,g2,g3⟩:=ar.cells ho hb
 have DM:∀v∈vs,v.oneCell'=true:=λv hv=>by
  obtain⟨i,hi,rfl⟩:=lM hv;(have wC:i<us.length:=by omega);have:=hr i us[i] (aV wC);rw[aV hi] at this;exact one_cell this (h1 _ (jR _))
 have cY:=run_storeCells_at (P:=P) b off t vs 0 cur w g1 (by omega) DM;refine⟨_,λa ha=>by subst ha;exact cY,?_⟩;refine ar.write ho hb g1 _ _ (by simp;omega) λw' hs hw=>⟨_,_,hw,by simp[lp];omega,λi c hc=>?_⟩;rw[th us cs off i hle] at hc
 have du:(cur.toList.take (off+0)++vs++cur.toList.drop (off+0+vs.length)).toArray[i]? =if off<=i/\i<off+us.length then vs[i-off]? else cur[i]? :=by
  simp only[Nat.add_zero,ny,ky];by_cases h2:i<off
  · rw[gA (by simp;omega),if_neg (by omega),ly h2];simp
  · rw[lX (by simp;omega)]
    (have:min off cur.toList.length=off:=by simp;omega);rw[dy,this];by_cases h3:i<off+us.length
    · rw[if_pos ⟨by omega,h3⟩,gA (by omega)]
    · rw[if_neg (by omega),lX (by omega),jQ]
      rw[show off+vs.length+(i-off-vs.length)=i by omega];simp
 rw[du];split at hc
 · rename_i hh;rw[if_pos hh];exact(hr _ _ hc).step hs
 · rename_i hh;rw[if_neg hh];exact(g3 _ _ hc).step hs
theorem o3{t:an}{a x:AV}{va v:ah}(ar:az F μ σ w)(ha:RV F μ w va a)(hx:RV F μ w v x)(h:mI P t a x σ K):
 ∃us w',K db us/\(Instr.storeAt t va v).run P w= .ok () w'/\Step F μ w F μ w'/\az F μ (us++σ) w':=by
 unfold mI at h;split at h
 · rename_i o off s g ht
   split at h
   · rename_i cs ho
     obtain⟨⟨h0,hl,hle,h1⟩,hK⟩:=h;cases ha;rename_i b hb;obtain⟨k1,k2⟩:=hx.cells (λe=>by subst e;cases h0);obtain⟨w',e1,e2,e3⟩:=qB (P:=P) (off:=off) ar ho hb v.cells.toList x.cells (by simpa using k1) (by omega) (by simpa using k2) h1;refine⟨_,w',hK,?_,e2,e3⟩;(have:v.cells.size=s:=by omega);simp[Instr.storeAt,Instr.sureAddr,storeVar,run_sizeOf ht,this,e1 _ rfl]
   · exact h.elim
 · exact h.elim
theorem jT{z:List PV}{zv:Array ah}{s n:Nat}(hz:zv.size=z.length)(hs:z.length=s)(h0:0<s)(hr:∀F (i:Nat) p,z[i]? =some p->RP F w (zv[i]?.getD undef) p)(m:Nat)(hm:n<=m):
 (ey z n).length=n*s/\ ∀(i:Nat) c,(ey z n)[i]? =some c->RV F μ w (((Array.range (m*s)).map (zv[· % zv.size]!))[i]?.getD undef) c:=by
 have flat:∀(n:Nat),((ck n (z.map AV.p)).flatten).length=n*s/\ ∀(i:Nat) c,((ck n (z.map AV.p)).flatten)[i]? =some c->∃q,z[i % s]? =some q/\c= .p q:=by
  intro n
  induction n with
  |zero=>simp
  |succ n ih=>
   obtain⟨i1,i2⟩:=ih;refine⟨by simp[List.replicate_succ,hs,i1,dB];omega,λi c hc=>?_⟩;rw[List.replicate_succ,List.flatten_cons] at hc;by_cases hi:i<s
   · rw[gA (by simpa[hs] using hi)] at hc
     simp only[aW,cm] at hc;obtain⟨q,hq,rfl⟩:=hc;exact⟨q,by rw[Nat.mod_eq_of_lt hi];exact hq,rfl⟩
   · rw[lX (by simp[hs];omega)] at hc
     simp only[ak,hs] at hc;obtain⟨q,hq,rfl⟩:=i2 _ _ hc;exact⟨q,by rw[<-hq,Nat.mod_eq_sub_mod (by omega)],rfl⟩
 have both:(ey z n).length=n*s/\ ∀(i:Nat) c,(ey z n)[i]? =some c->∃q,z[i % s]? =some q/\c= .p q:=by
  unfold ey;split
  · rename_i v
    simp at hs;subst hs;refine⟨by simp,λi c hc=>?_⟩;have hi:=(aq.1 hc).1;simp at hi;simp[hi] at hc;exact⟨v,by simp[Nat.mod_one],hc.symm⟩
  · exact flat n
 refine⟨both.1,λi c hc=>?_⟩;obtain⟨q,hq,rfl⟩:=both.2 i c hc;(have hi:i<n*s:=by have:=(aq.1 hc).1;rw[both.1] at this;exact this);have wC:i<m*s:=fl hi (fC _ hm);(have UK:i % s<zv.size:=by rw[hz,hs];exact Nat.mod_lt _ h0);have:=hr F _ q hq;refine .p ?_
 have e:(((Array.range (m*s)).map (zv[· % zv.size]!))[i]?.getD undef)=zv[i % s]?.getD undef:=by
  rw[hz,hs];simp[wC,UK]
 rw[e];exact this
theorem og{t:an}{s:Nat}{g:Bool}{z:List PV}(hE:tE P t=some (s,g))(hz:Mm P t=some z):∃e,P.underlying t=some (.slice e)/\tT P e=some (s,g)/\tZ P e=some z:=by
 obtain⟨e,hu,hs⟩:=jl hE;unfold Mm at hz;rw[hu] at hz;exact⟨e,hu,hs,hz⟩
theorem gR{t:an}{len:Nat}{parts:List (Nat×AV)}{vs:List (Nat×ah)}(ar:az F μ σ w)(hn:μ nid=none)(hl:vs.length=parts.length)
 (hp:∀(i:Nat) p,parts[i]? =some p->∃v,vs[i]? =some (p.1,v)/\RV F μ w v p.2) (h:fF P t len parts nid K):eZ P F μ σ w nid K (Instr.buildSlice t len vs.toArray):=by
 unfold fF at h;split at h
 · rename_i s g z hE hz
   obtain⟨e,hu,hs,Q2⟩:=og hE hz;obtain⟨⟨Ce,h0,Mn⟩,h⟩:=h;obtain⟨zv,vy,x2,Im⟩:=eB Q2 w;split at h
   · rename_i cs hf
     obtain⟨zl,zr⟩:=jT (F:=F) (μ:=μ) (w:=w) (n:=len) x2 Ce h0 Im len (aX _);obtain⟨ys,y1,y2,y3⟩:=tf (F:=F) (μ:=μ) (w:=w) parts vs (ey z len) ((Array.range (len*s)).map (zv.cells[· % zv.cells.size]!)) cs hl hp (by simp[zl]) zr hf
     have sJ:cs.length=len*s:=by
      have:∀(parts:List (Nat×AV)) (cs out:List AV),pP (placeOf [] s) cs parts=some out->out.length=cs.length:=by
       intro parts
       induction parts with
       |nil=>intro cs out h;simp[pP] at h;rw[h]
       |cons x r ih=>
        intro cs out h;simp only[pP] at h;split at h
        · split at h
          · have:=ih _ _ h;rw[this,um,lp]
          · cases h
        · cases h
      rw[this _ _ _ hf,zl]
     obtain⟨h1,h2,h3,h4⟩:=kK ar hn ys e cs (by omega) y3;(have Ow:placeOf [] s=λi=>some (i*s,s):=by funext x;simp[placeOf,show s≠0 by omega]);rw[Ow] at y1;refine⟨_,_,.slice (some ⟨w.heap.size,0,none⟩) len len,_,_,_,h,?_,h1,h2,.dJ _ _ _ _ _ _ _ e ys.size h3 (.inr rfl) (by simp[cC]) (by omega) (aX _) ?_,h4⟩
     · by_cases hlen:len*s=0
       · have r0:∀f:Nat->ah,(Array.range (len*s)).map f= #[]:=λf=>by rw[hlen];apply gz;simp
         rw[r0] at y1;simp only[Instr.buildSlice,underlying,bu,run_program,bD,hu,cg,run_sizeOf hs,if_pos hlen,r0,y1];rw[if_neg (by omega)];simp[newRow]
       · have:¬ len*s>2 ^ 24:=by omega
         simp only[Instr.buildSlice,underlying,bu,run_program,bD,hu,cg,run_sizeOf hs,hlen,if_false,this,vy];simp[y1,newRow]
     · unfold maxLen;have:len<=len*s:=Nat.le_mul_of_pos_right _ h0;omega
   · exact h.elim
 · exact h.elim
theorem x3{t e:an}{bt:Nat}(hu:P.underlying t=some (.slice e))(h:tB P t=some bt):∃i,P.info? e=some i/\i.bytes=bt:=by
 unfold tB at h;rw[hu] at h;simp only[] at h;split at h
 · rename_i i hi;injection h with h;exact⟨i,hi,h⟩
 · cases h
theorem oo{t:an}{n c:AV}{vn vc:ah}(ar:az F μ σ w)(bH:μ nid=none)(hn:RV F μ w vn n)(hc:RV F μ w vc c)(h:jo P t n c nid K):eZ P F μ σ w nid K (Instr.makeSlice t vn vc):=by
 unfold jo at h;split at h
 · rename_i k1 n k2 c s g z bt hE hz hb
   obtain⟨e,hu,hs,Q2⟩:=og hE hz;obtain⟨i,hi,FJ⟩:=x3 hu hb;obtain⟨⟨Ce,h0,Mo,UL,qe,FL⟩,hK⟩:=h;obtain rfl:=fE hn;obtain rfl:=fE hc;obtain⟨zv,vy,x2,Im⟩:=eB Q2 w;have hwn:br.wrap n=n:=al (by omega) (by omega);have hwc:br.wrap c=c:=al (by omega) (by omega);obtain⟨zl,zr⟩:=jT (F:=F) (μ:=μ) (w:=w) (n:=n.toNat) x2 Ce h0 Im c.toNat (by omega)
   obtain⟨h1,h2,h3,h4⟩:=kK ar bH ((Array.range (c.toNat*s)).map (zv.cells[· % zv.cells.size]!)) e (ey z n.toNat) (by
    rw[zl];simp;exact fC _ (by omega)) zr
   have UM:∀x:Int,0<=x->x<=1000000000-> ¬((bt:Int)*x>2 ^ 48):=λx Ww hx=>by
    have h5:(bt:Int)*x<=100000*1000000000:=Int.mul_le_mul (by omega) hx Ww (by omega);(have h6:(2:Int) ^ 48=281474976710656:=by decide);rw[h6];omega
   refine⟨_,_,.slice (some ⟨w.heap.size,0,none⟩) n.toNat c.toNat,_,_,_,hK,?_,h1,h2,.dJ _ _ _ _ _ _ _ e (c.toNat*s) h3 (.inr rfl) (by simp[cC]) (by omega) (by omega) (by unfold maxLen;omega),h4⟩
   have FH:(decide (c<0)||decide ((bt:Int)*c>2 ^ 48)||decide (n<0)||decide (n>c))=false:=by
    simp only[Bool.or_eq_false_iff,decide_eq_false_iff_not];exact⟨⟨⟨by omega,UM c (by omega) qe⟩,by omega⟩,by omega⟩
   simp only[Instr.makeSlice,underlying,bu,run_program,bD,hu,cg,asInt,asIntOf,typeInfo,hi,FJ,hwn,hwc,FH,mB,if_false,run_askRoom,run_sizeOf hs,newRow,run_newObj];by_cases hcz:c.toNat*s=0
   · have r0:∀f:Nat->ah,(Array.range (c.toNat*s)).map f= #[]:=λf=>by rw[hcz];apply gz;simp
     simp only[if_pos hcz,bu,cg,bD,r0,run_newObj]
   · simp only[hcz,if_false,bu,vy,bD,cg,run_newObj]
 · exact h.elim
theorem lA{sz:Nat}(h0:0<sz):∀(l:List PV),(∀p∈l,p.cells.length=sz)->(l.flatMap PV.cells).length=l.length*sz/\ ∀k,(l.flatMap PV.cells)[k]? =(l[k / sz]?).bind λp=>p.cells[k % sz]?
 |[],_=>by simp
 |p::r,h=>by
  have hp:=h p (by simp);obtain⟨i1,i2⟩:=lA h0 r (λq hq=>h q (by simp[hq]));refine⟨by simp[i1,hp,dB];omega,λk=>?_⟩;rw[List.flatMap_cons];by_cases hk:k<sz
  · rw[gA (by omega),Nat.div_eq_of_lt hk,Nat.mod_eq_of_lt hk];simp
  · rw[lX (by omega),hp,i2]
    have hd:k / sz=(k-sz) / sz+1:=by
     rw[<-Nat.sub_add_cancel (show sz<=k by omega),Nat.add_div_right _ h0];simp
    have hm:(k-sz) % sz=k % sz:=(Nat.mod_eq_sub_mod (by omega)).symm;rw[hd,hm];simp
theorem ic{x:AV}{v:ah}{s:Nat}{Kn:Nat->List AV->Prop}(h0:0<s)(ar:az F μ σ w)(hx:RV F μ w v x)(h:mc x s σ Kn):
 ∃n new,Kn n new/\(∀w',(Builtin.lenOf v).run P w'= .ok n w')/\new.length=n*s/\(∀m,m<=n->∃cells:Array ah,(∀w',tc w w'->(iZ s m v).run P w'= .ok cells w')/\cells.size=m*s/\ ∀(i:Nat) c,(new.take (m*s))[i]? =some c->RV F μ w (cells[i]?.getD undef) c):=by
 have Cf:∀(b off len cap n:Nat) (new:List AV) (f:Nat->ah),new.length=n*s->(∀(i:Nat) c,new[i]? =some c->w.cell? ⟨b,off+i,none⟩=some (f i)/\RV F μ w (f i) c)->
  ∀m,m<=n->∃cells:Array ah,(∀w',tc w w'->(iZ s m (.slice (some ⟨b,off,none⟩) len cap)).run P w'= .ok cells w')/\cells.size=m*s/\ ∀(i:Nat) c,(new.take (m*s))[i]? =some c->RV F μ w (cells[i]?.getD undef) c:=by
  intro b off len cap n new f hl hc m hm;have TL:m*s<=n*s:=fC _ hm;refine⟨((List.range (m*s)).map f).toArray,λw' hw=>?_,by simp,λi c hi=>?_⟩
  · simp only[iZ]
    exact run_loadCells (P:=P) (w:=w') ⟨b,off,none⟩ (m*s) f (λj hj=>by
     have IK:j<new.length:=by omega
     rw[fD];exact hw.cell (hc j _ (aV IK)).1)
  · have ZF:i<m*s:=by have:=(aq.1 hi).1;simp at this;omega
    rw[ly ZF] at hi;simpa[ZF] using(hc i c hi).2
 unfold mc at h;split at h
 · rename_i sz c l
   obtain⟨hz,hK⟩:=h;cases hx;rename_i hx
   cases hx with
   |r5 a cap sz clip e1 e2 e3=>
    refine⟨_,_,hK,λw'=>rfl,by simp,λm hm=>⟨#[],λw' _=>?_,?_,by simp⟩⟩
    · obtain rfl:m=0:=by simpa using hm
      cases a<;>simp[iZ,loadCells,loadCellsFrom]
    · obtain rfl:m=0:=by simpa using hm
      simp
   |sl b off len cap sz clip l cv hb hl h3 h4 h5 h6 h7 h8=>
    by_cases pR:l=[]
    · subst pR
      simp at hl;subst hl;refine⟨_,_,hK,λw'=>rfl,by simp,λm hm=>⟨#[],λw' _=>?_,?_,by simp⟩⟩
      · obtain rfl:m=0:=by simpa using hm
        simp[iZ,loadCells,loadCellsFrom]
      · obtain rfl:m=0:=by simpa using hm
        simp
    · have iR:sz=s:=hz.resolve_right pR
      subst iR
      obtain⟨f1,f2⟩:=lA h0 l (λp hp=>by
       obtain⟨i,hi,rfl⟩:=lM hp
       exact(h6 i _ (aV hi)).1)
      refine⟨_,_,hK,λw'=>by rw[<-hl];rfl,by simp[f1],Cf b off len cap l.length _ (λk=>cv (k / sz) (k % sz)) (by simp[f1]) λi c hc=>?_⟩;simp only[aW,cm] at hc;obtain⟨q,hq,rfl⟩:=hc;rw[f2,Option.bind_eq_some_iff] at hq;obtain⟨p,hp,hq⟩:=hq;refine⟨?_,.p (h8 _ p _ q hp hq)⟩;have:=h7 _ p _ q hp hq;rw[<-this];have TN:i / sz*sz+i % sz=i:=Nat.div_add_mod' i sz;rw[Nat.add_assoc,TN]
 · rename_i o sz off n
   obtain⟨rfl,h⟩:=h;split at h
   · rename_i cs ho
     obtain⟨hle,hK⟩:=h
     cases hx with
     |dJ o sz off bL len cap b t n' hb gX pQ r7 tX qe=>
     obtain⟨cur,ty,g1,g2,g3⟩:=ar.cells ho hb;refine⟨_,_,hK,λw'=>rfl,by simp;omega,?_⟩;by_cases hn:n=0
     · subst hn
       intro m hm;(obtain rfl:m=0:=by omega);exact⟨#[],λw' _=>by simp[iZ,loadCells,loadCellsFrom],by simp,by simp⟩
     · have:bL=off:=by rcases gX with h'|h'<;>omega
       subst this;refine Cf b bL n cap n _ (λk=>cur[bL+k]?.getD undef) (by simp;omega) λi c hc=>?_;(have hi:i<n*sz:=by have:=(aq.1 hc).1;simp at this;omega);rw[ly hi,jQ] at hc;refine⟨?_,g3 _ _ hc⟩;rw[mF g1];(have aC:bL+i<cur.size:=by omega);simp[aC]
   · exact h.elim
 · rename_i b
   obtain⟨rfl,hK⟩:=h;obtain rfl:=mG hx;refine⟨_,_,hK,λw'=>rfl,by rw[ak,Array.length_toList,Nat.mul_one];rfl,λm hm=>⟨(b.extract 0 m).data.map λu=>.int .u8 u.toNat,λw' _=>rfl,?_,λi c hc=>?_⟩⟩
   · rw[Array.size_map,ByteArray.data_extract,Array.size_extract]
     have:b.size=b.data.size:=rfl;omega
   · have hi:i<m*1:=by have:=(aq.1 hc).1;simp at this;omega
     rw[ly hi] at hc;simp only[aW,cm] at hc;obtain⟨u,hu,rfl⟩:=hc;(have FJ:i<b.data.size:=by have:=(aq.1 hu).1;simpa using this);(have:b.data.toList[i]? =some b.data[i]:=by simp[FJ]);rw[this] at hu;injection hu with hu;subst hu;have nj:i<min m b.data.size:=by omega
     have e:((b.extract 0 m).data.map λu=>Value.int .u8 u.toNat)[i]?.getD undef= .int .u8 b.data[i].toNat:=by
      have aC:i<((b.extract 0 m).data.map λu=>Value.int .u8 u.toNat).size:=by
       rw[Array.size_map,ByteArray.data_extract,Array.size_extract];omega
      rw[dh aC,Option.getD_some,Array.getElem_map];simp only[ByteArray.data_extract,Array.getElem_extract,gQ]
     rw[e];exact .p (.int _ _)
 · exact h.elim
end
section
variable{P:au}{F:Nat->Prop}{μ:aN}{σ:ab}{w:aj}{nid:Nat}{K:AV->ab->Prop}
theorem az.congr{σ':ab}(h:az F μ σ w)(e:∀i,ab.get σ' i=σ.get i):az F μ σ' w:=
 ⟨h.fb,h.mb,λo ho=>h.has o (by rw[<-e];exact ho),λo b hb=>by rw[e];exact h.obj o b hb,λo b ho=>h.live o b (by rw[<-e];exact ho),λi j b hi hj=>h.inj i j b (by rw[<-e];exact hi) (by rw[<-e];exact hj),λc m hc=>⟨(h.hd c m hc).1,λo ho=>(h.hd c m hc).2 o (by rw[<-e];exact ho)⟩,h.hu⟩
theorem az.less{σ':ab}(h:az F μ σ w)(e:∀i,ab.get σ' i= .dead\/ab.get σ' i=σ.get i):az F μ σ' w:=by
 have nd:∀i,ab.get σ' i≠ .dead->σ.get i≠ .dead:=λi hi=>by
  rcases e i with k|k
  · exact absurd k hi
  · rw[<-k];exact hi
 refine⟨h.fb,h.mb,λo ho=>h.has o (nd o ho),λo b hb=>?_,λo b ho=>h.live o b (nd o ho),λi j b hi hj=>h.inj i j b (nd i hi) (nd j hj),λc m hc=>⟨(h.hd c m hc).1,λo ho=>(h.hd c m hc).2 o (nd o ho)⟩,h.hu⟩;rcases e o with k|k
 · rw[k];trivial
 · rw[k];exact h.obj o b hb
theorem az.FM{n o:Nat}{x:bJ}(h:az F μ ([(n,x)]++σ) w):az F μ ([(n,x),(o,.dead)]++σ) w:=h.less λi=>by
 simp only[jS,jn,ab.cI];by_cases h1:n=i
 · rw[if_pos h1,if_pos h1];exact .inr rfl
 · rw[if_neg h1,if_neg h1]
   by_cases h2:o=i
   · rw[if_pos h2];exact .inl rfl
   · rw[if_neg h2];exact .inr rfl
theorem tj(ar:az F μ σ w)(n:Nat):Step F μ w F μ { w with drawn:=n } /\az F μ σ { w with drawn:=n }:=by
 have hs:Step F μ w F μ { w with drawn:=n }:=⟨rfl,rfl,rfl,aX _,λ_ _=>rfl,λ_ _ _=>rfl,λ_ _ h=>h,λ_ h=>h,λ_ h=>.inl h,λ_ _ h=>h,λ_ h=>.inl h⟩;exact⟨hs,ar.Fz hs (λ_ _=>rfl) (λ_ h=>.inl h)⟩
theorem az.renew(h:az F μ σ w){n o b:Nat}{x:bJ}(hn:μ n=none)(ho:σ.get o=x)(hx:x≠ .dead)(hb:μ o=some b)(y:bJ)(hy:RO F (μ.put n b) w b y):
 Step F μ w F (μ.put n b) w/\az F (μ.put n b) ([(n,y),(o,.dead)]++σ) w:=by
 have bV:n≠o:=λe=>by rw[e,hb] at hn;cases hn
 have hs:Step F μ w F (μ.put n b) w:=⟨rfl,rfl,rfl,aX _,λ_ _=>rfl,λ_ _ _=>rfl,λ_ _ h=>h,λ_ h=>h,λ_ h=>.inl h,aN.x1 hn,λk hk=>by
  rcases aN.xZ hk with h1|h1;(exact .inl h1);exact .inl (h1▸ .inl ⟨o,hb⟩)⟩
 have get:∀i,(i=n/\ab.get ([(n,y),(o,.dead)]++σ) i=y)\/(i=o/\ab.get ([(n,y),(o,.dead)]++σ) i= .dead)\/(i≠n/\i≠o/\ab.get ([(n,y),(o,.dead)]++σ) i=σ.get i):=λi=>by
  simp only[jS,jn,ab.cI];by_cases e1:n=i
  · exact .inl ⟨e1.symm,if_pos e1⟩
  · rw[if_neg e1]
    by_cases e2:o=i
    · exact .inr (.inl ⟨e2.symm,if_pos e2⟩)
    · exact .inr (.inr ⟨λk=>e1 k.symm,λk=>e2 k.symm,if_neg e2⟩)
 have num:∀i k,(μ.put n b) i=some k->(i=n/\k=b)\/(i≠n/\μ i=some k):=λi k hi=>by
  have hi:(if i=n then some b else μ i)=some k:=hi;by_cases e:i=n
  · rw[if_pos e] at hi;injection hi with hi;exact .inl ⟨e,hi.symm⟩
  · rw[if_neg e] at hi;exact .inr ⟨e,hi⟩
 have iX:σ.get o≠ .dead:=by rw[ho];exact hx
 refine⟨hs,⟨h.fb,λk hk=>by rcases aN.xZ hk with h1|h1;(exact h.mb k h1);exact h1▸h.mb b (.inl ⟨o,hb⟩),?_,?_,?_,?_,?_,h.hu⟩⟩
 · intro i hi
   rcases get i with⟨e,_⟩|⟨_,e⟩|⟨_,_,e⟩
   · rw[e];exact⟨b,aN.jc _ _ _⟩
   · exact absurd e hi
   · rw[e] at hi
     obtain⟨k,hk⟩:=h.has i hi;exact⟨k,aN.x1 hn _ _ hk⟩
 · intro i k hk
   rcases get i with⟨e,e2⟩|⟨_,e⟩|⟨e1,_,e⟩
   · rw[e2]
     rcases num i k hk with⟨_,rfl⟩|⟨e3,_⟩
     · exact hy
     · exact absurd e e3
   · rw[e];trivial
   · rw[e]
     rcases num i k hk with⟨e3,_⟩|⟨_,km⟩
     · exact absurd e3 e1
     · exact(h.obj i k km).step hs rfl λc hc=>⟨hc,rfl⟩
 · intro i k hi hk
   rcases num i k hk with⟨_,rfl⟩|⟨e3,km⟩
   · exact h.live o _ iX hb
   · rcases get i with⟨e,_⟩|⟨_,e⟩|⟨_,_,e⟩
     · exact absurd e e3
     · exact absurd e hi
     · rw[e] at hi;exact h.live i k hi km
 · intro i j k hi hj hki W9
   rcases num i k hki with⟨ei,ek⟩|⟨ei,Xa⟩<;>rcases num j k W9 with⟨ej,ek'⟩|⟨ej,Xb⟩
   · rw[ei,ej]
   · rcases get j with⟨e,_⟩|⟨_,e⟩|⟨_,e2,e⟩
     · exact absurd e ej
     · exact absurd e hj
     · rw[e] at hj;subst ek;exact absurd (h.inj j o _ hj iX Xb hb) e2
   · rcases get i with⟨e,_⟩|⟨_,e⟩|⟨_,e2,e⟩
     · exact absurd e ei
     · exact absurd e hi
     · rw[e] at hi;subst ek';exact absurd (h.inj i o _ hi iX Xa hb) e2
   · rcases get i with⟨e,_⟩|⟨_,e⟩|⟨_,_,e⟩
     · exact absurd e ei
     · exact absurd e hi
     · rcases get j with⟨e',_⟩|⟨_,e'⟩|⟨_,_,e'⟩
       · exact absurd e' ej
       · exact absurd e' hj
       · rw[e] at hi;rw[e'] at hj;exact h.inj i j k hi hj Xa Xb
 · intro c m hc
   have hc:μ.oW c m:=hc;refine⟨(h.hd c m hc).1,λi hi hm=>?_⟩;rcases num i c hm with⟨_,rfl⟩|⟨e3,km⟩
   · exact(h.hd _ m hc).2 o iX hb
   · rcases get i with⟨e,_⟩|⟨_,e⟩|⟨_,_,e⟩
     · exact absurd e e3
     · exact absurd e hi
     · rw[e] at hi;exact(h.hd c m hc).2 i hi km
theorem wE{t:an}(h:nC P t=true):∃d,P.underlying t=some d/\ ∀k,d≠ .int k:=by
 unfold nC at h;split at h
 · cases h
 · cases h
 · rename_i h1 h2
   cases hu:P.underlying t with
   |none=>exact absurd hu h2
   |some d=>exact⟨d,rfl,λk e=>h1 k (by rw[hu,e])⟩
theorem run_append_fits{t xt ty e:an}{s n:Nat}{g:Bool}{base:Option Addr}{len cap:Nat}{vx:ah}(hu:P.underlying t=some (.slice e))(hs:tT P e=some (s,g))(tl:nC P xt=true)
 (hlen:∀w',(Builtin.lenOf vx).run P w'= .ok n w') (hf:len+n<=cap) (w':aj):(dM #[t,xt] ty #[.slice base len cap,vx]).run P w'=
   ((iZ s n vx).run P w').andThen λnew uq=>((match base with|some a=>storeCells (a.add (len*s)) new.toList|none=>pure ():Sem Unit).run P uq).andThen λ_ vz=>.ok (.slice base (len+n) cap) vz:=by
 obtain⟨dx,TO,Cg⟩:=wE tl;have yz:=λw'=>run_sizeOf hs w'
 have hm:(dx matches .int _)=false:=by
  cases dx<;>first|rfl|exact absurd rfl (Cg _)
 cases base<;>simp only[dM,ny,List.getElem?_cons_zero,List.getElem?_cons_succ,underlying,bu,run_program,bD,hu,cg,yz,TO,hm,mB,if_false,hlen,if_pos hf,Bool.not_false,if_true]
theorem yA{t xt ty e:an}{s n:Nat}{g:Bool}{base:Option Addr}{len cap:Nat}{vx zv:ah}{i:TypeInfo}{ca cn:Array ah}(hu:P.underlying t=some (.slice e))(hs:tT P e=some (s,g))(tl:nC P xt=true)
 (hlen:∀w',(Builtin.lenOf vx).run P w'= .ok n w') (hf:¬ len+n<=cap) (hi:P.info? e=some i) (TP:¬(9223372036854775807<((len:Int)+(n:Int)))) (Xc:¬(281474976710656<nQ (len+n) cap*i.bytes))
 (vy:∀w',(zeroValue e).run P w'= .ok zv w') (w':aj) (ha:(iZ s len (.slice base len cap)).run P w'.drew= .ok ca w'.drew) (hn:(iZ s n vx).run P w'.drew= .ok cn w'.drew):
 (dM #[t,xt] ty #[.slice base len cap,vx]).run P w'= .ok (.slice (some ⟨w'.heap.size,0,none⟩) (len+n) ((jP (len+n) cap e).cut (w'.tape w'.drawn (jP (len+n) cap e))))
   (w'.drew.alloc (.cells (ca++(cn++iN zv.cells ((jP (len+n) cap e).cut (w'.tape w'.drawn (jP (len+n) cap e))-(len+n)))) e)):=by
 obtain⟨dx,TO,Cg⟩:=wE tl;have yz:=λw'=>run_sizeOf hs w'
 have hm:(dx matches .int _)=false:=by
  cases dx<;>first|rfl|exact absurd rfl (Cg _)
 simp only[dM,ny,List.getElem?_cons_zero,List.getElem?_cons_succ,underlying,bu,run_program,bD,hu,cg,yz,TO,hm,mB,if_false,hlen,if_neg hf,Bool.not_false,if_true];simp[typeInfo,hi,TP,Xc,Question.forced,ha,hn,vy,newRow]
theorem jU{t xt ty:an}{e:an}{s n len cap:Nat}{base:Option Addr}{vx:ah}{LA LN:List AV}{zv:ah}(ar:az F μ σ w)(bH:μ nid=none)
 (x2:zv.cells.size=s) (hle:len<=cap) (Mn:len+n<=1000000000)
 (hA:∃cells:Array ah,(∀w',tc w w'->(iZ s len (.slice base len cap)).run P w'= .ok cells w')/\cells.size=len*s/\ ∀(i:Nat) c,LA[i]? =some c->RV F μ w (cells[i]?.getD undef) c) (Wx:LA.length=len*s)
 {cn:Array ah} (Xd:cn.size=n*s) (TQ:∀(i:Nat) c,LN[i]? =some c->RV F μ w (cn[i]?.getD undef) c) (Ox:LN.length=n*s)
 (cY:∀ca,(iZ s len (.slice base len cap)).run P w.drew= .ok ca w.drew->(dM #[t,xt] ty #[.slice base len cap,vx]).run P w= .ok (.slice (some ⟨w.heap.size,0,none⟩) (len+n) ((jP (len+n) cap e).cut (w.tape w.drawn (jP (len+n) cap e))))
   (w.drew.alloc (.cells (ca++(cn++iN zv.cells ((jP (len+n) cap e).cut (w.tape w.drawn (jP (len+n) cap e))-(len+n)))) e)))
 (us:ab) (UN:∀{F' μ' w'},az F' μ' ([(nid,.cells (LA++LN))]++σ) w'->az F' μ' (us++σ) w') (hK:K (.dJ nid s 0 (len+n)) us):eZ P F μ σ w nid K (dM #[t,xt] ty #[.slice base len cap,vx]):=by
 obtain⟨ca,ha1,RH,ha3⟩:=hA
 let q:Question:= .appendCap (len+n) cap e
 let nc:=q.cut (w.tape w.drawn q)
 have UL:len+n<=nc:=by show len+n<=len+n+_;omega
 have RJ:nc<=maxLen:=by
  have:nc=len+n+(w.tape w.drawn q) % (2 ^ 63-(len+n)):=rfl;have h1:(w.tape w.drawn q) % (2 ^ 63-(len+n))<2 ^ 63-(len+n):=Nat.mod_lt _ (by omega);unfold maxLen;omega
 obtain⟨s1,s2⟩:=tj ar (w.drawn+1)
 let cur:=ca++cn++iN zv.cells (nc-(len+n))
 have Bb:cur.size=nc*s:=by
  (have:(iN zv.cells (nc-(len+n))).size=(nc-(len+n))*s:=by simp[iN,x2]);show(ca++cn++_).size=_;rw[Array.size_append,Array.size_append,this,RH,Xd,<-dB,<-dB];congr 1;omega
 obtain⟨h1,h2,h3,h4⟩:=kK s2 bH cur e (LA++LN) (by rw[Bb,fk,Wx,Ox,<-dB];exact fC _ UL) (λi c hc=>by
  have ie:RV F μ w (cur[i]?.getD undef) c:=by
   by_cases aC:i<LA.length
   · rw[gA aC] at hc
     have:cur[i]? =ca[i]? :=by
      show(ca++cn++_)[i]? =_;rw[Array.append_assoc,iY (by omega)]
     rw[this];exact ha3 i c hc
   · rw[lX (by omega)] at hc
     have Ch:=(aq.1 hc).1
     have:cur[i]? =cn[i-LA.length]? :=by
      show(ca++cn++_)[i]? =_;rw[iY (by rw[Array.size_append];omega),Array.getElem?_append_right (by omega),RH,Wx]
     rw[this];exact TQ _ c hc
  exact ie.step s1)
 refine⟨_,_,.slice (some ⟨w.heap.size,0,none⟩) (len+n) nc,_,_,_,hK,?_,s1.trans h1,UN h2,.dJ _ _ _ _ _ _ _ e cur.size h3 (.inr rfl) (by simp[cC]) (by rw[Bb];omega) UL RJ,h4⟩;have Xe:cur=ca++(cn++iN zv.cells (nc-(len+n))):=Array.append_assoc ..;rw[Xe];exact cY ca (ha1 w.drew (λ_ _=>rfl))
theorem qE{t xt ty:an}{e:an}{s n bt len cap:Nat}{g:Bool}{base:Option Addr}{vx:ah}{LA LN:List AV}{i:TypeInfo}{z:List PV}(ar:az F μ σ w)(bH:μ nid=none)
 (hu:P.underlying t=some (.slice e)) (hs:tT P e=some (s,g)) (hi:P.info? e=some i) (FJ:i.bytes=bt) (FL:bt<=100000) (hz:tZ P e=some z) (Ce:z.length=s) (tl:nC P xt=true)
 (hlen:∀w',(Builtin.lenOf vx).run P w'= .ok n w') (hgt:cap<len+n) (hle:len<=cap) (Mn:len+n<=1000000000)
 (hA:∃cells:Array ah,(∀w',tc w w'->(iZ s len (.slice base len cap)).run P w'= .ok cells w')/\cells.size=len*s/\ ∀(i:Nat) c,LA[i]? =some c->RV F μ w (cells[i]?.getD undef) c) (Wx:LA.length=len*s)
 (hN:∃cells:Array ah,(∀w',tc w w'->(iZ s n vx).run P w'= .ok cells w')/\cells.size=n*s/\ ∀(i:Nat) c,LN[i]? =some c->RV F μ w (cells[i]?.getD undef) c) (Ox:LN.length=n*s)
 (us:ab) (UN:∀{F' μ' w'},az F' μ' ([(nid,.cells (LA++LN))]++σ) w'->az F' μ' (us++σ) w') (hK:K (.dJ nid s 0 (len+n)) us):eZ P F μ σ w nid K (dM #[t,xt] ty #[.slice base len cap,vx]):=by
 obtain⟨cn,hn1,Xd,TQ⟩:=hN;obtain⟨zv,vy,x2,Im⟩:=eB hz w
 have Oy:¬ nQ (len+n) cap*i.bytes>2 ^ 48:=by
  have k1:=nextslicecap_le (need:=len+n) (old:=cap) hgt;have k2:nQ (len+n) cap*i.bytes<=(2*1000000000)*100000:=Nat.mul_le_mul (by omega) (by omega);omega
 have Xc:¬(281474976710656<nQ (len+n) cap*i.bytes):=by simpa using Oy
 exact jU ar bH (x2.trans Ce) hle Mn hA Wx Xd TQ Ox (λca UO=>yA hu hs tl hlen (by omega) hi (by omega) Xc vy w UO (hn1 w.drew (λ_ _=>rfl))) us UN hK
def o4(P:au)(t:an):Bool:=match P.underlying t with|some (.int _)=>true|_=>false
theorem oq{t xt ty e:an}{s n:Nat}{g:Bool}{base:Option Addr}{len cap:Nat}{zv:ah}{i:TypeInfo}{ca:Array ah}(hu:P.underlying t=some (.slice e))(hs:tT P e=some (s,g))(tl:o4 P xt=true)
 (h0:0<n*s) (hn:n<=1000000000) (hf:¬ len+n<=cap) (hi:P.info? e=some i) (FJ:i.bytes<=100000) (TP:len+n<=1000000000) (Xc:¬(281474976710656<nQ (len+n) cap*i.bytes))
 (vy:∀w',(zeroValue e).run P w'= .ok zv w') (w':aj) (ha:(iZ s len (.slice base len cap)).run P w'.drew= .ok ca w'.drew):
 (dM #[t,xt] ty #[.slice base len cap,.int .i64 n]).run P w'= .ok (.slice (some ⟨w'.heap.size,0,none⟩) (len+n) ((jP (len+n) cap e).cut (w'.tape w'.drawn (jP (len+n) cap e))))
   (w'.drew.alloc (.cells (ca++(iN zv.cells n++iN zv.cells ((jP (len+n) cap e).cut (w'.tape w'.drawn (jP (len+n) cap e))-(len+n)))) e)):=by
 have hd:∃k,P.underlying xt=some (.int k):=by
  unfold o4 at tl;split at tl
  · exact⟨_,by assumption⟩
  · cases tl
 obtain⟨k,TO⟩:=hd;have yz:=λw'=>run_sizeOf hs w';have hw:br.wrap (n:Int)=n:=al (by omega) (by omega);have aC:¬((n:Int)<0):=by omega
 have RF:¬(2 ^ 48<(n:Int)*(i.bytes:Int)):=by
  have:n*i.bytes<=1000000000*100000:=Nat.mul_le_mul hn FJ;(have h2:((n*i.bytes:Nat):Int)<=((1000000000*100000:Nat):Int):=by omega);rw[Int.natCast_mul] at h2;omega
 have TR:¬ n*s=0:=by omega
 (have hmax:¬(9223372036854775807<((len:Int)+(n:Int))):=by omega);have hm:(TypeDesc.int k matches .int _)=true:=rfl;have ZG:∀w',(asInt (.int .i64 (n:Int))).run P w'= .ok (n:Int) w':=λ_=>rfl;(have RK:¬(281474976710656<(n:Int)*(i.bytes:Int)):=by simpa using RF);simp only[dM,ny,List.getElem?_cons_zero,List.getElem?_cons_succ,underlying,bu,run_program,bD,hu,cg,yz,TO,hm,if_true,ZG,hw,if_neg aC,dv];simp[typeInfo,hi,RK,TR,if_neg hf,hmax,Xc,Question.forced,ha,vy,newRow,hf]
theorem lq{t xt ty:an}{a x:AV}{va vx:ah}(ar:az F μ σ w)(bH:μ nid=none)(ha:RV F μ w va a)(hx:RV F μ w vx x)(h:jm P t xt a x σ nid K):eZ P F μ σ w nid K (dM #[t,xt] ty #[va,vx]):=by
 unfold jm at h;split at h
 · rename_i s g z bt hE hz hb
   obtain⟨e,hu,hs,Q2⟩:=og hE hz;obtain⟨i,hi,FJ⟩:=x3 hu hb;obtain⟨⟨Ce,h0,FL,tl⟩,h⟩:=h;obtain⟨n,new,h,hlen,vj,RL⟩:=ic (P:=P) h0 ar hx h;have hN:=RL n (aX _);rw[bN (by omega)] at hN;have Xf:∀{p:Prop},False->p:=λh=>h.elim
   cases a with
   |p q=>
     cases q with
     |sl sz c l=>
       obtain⟨⟨rfl,iR,Mn⟩,RM,aZ⟩:=h
       have gX:∃base cap,va= .slice base l.length cap/\cap=l.length/\(base=none->l.length=0):=by
        cases ha;rename_i ha
        cases ha with
        |r5 a cap sz clip e1 e2 e3=>exact⟨a,cap,rfl,e3 rfl,λ_=>rfl⟩
        |sl b off len cap sz clip l cv hb hl h3 h4 h5 h6 h7 h8=>subst hl;exact⟨_,cap,rfl,h5 rfl,λh=>by cases h⟩
       obtain⟨base,cap,rfl,rfl,hbn⟩:=gX;by_cases Mo:n=0
       · subst Mo
         obtain⟨cells,c1,c2,_⟩:=hN;(have FN:cells= #[]:=by apply lW;omega);subst FN;have Q3:=c1 w (λ_ _=>rfl);refine⟨_,_,_,w,F,μ,RM rfl,?_,.refl _ _ _,ar,ha,λ_ _=>rfl⟩;rw[run_append_fits (len:=l.length) (cap:=l.length) hu hs tl hlen (by omega),Q3];cases base<;>simp[storeCells]
       · have hA:∃cells:Array ah,(∀w',tc w w'->(iZ s l.length (.slice base l.length l.length)).run P w'= .ok cells w')/\cells.size=l.length*s/\ ∀(i:Nat) c,((l.flatMap PV.cells).map AV.p)[i]? =some c->RV F μ w (cells[i]?.getD undef) c:=by
          obtain⟨n',UP,hk,Ml,RN,hf⟩:=ic (P:=P) (Kn:=λn new=>n=l.length/\new=(l.flatMap PV.cells).map AV.p) h0 ar ha ⟨iR,rfl,rfl⟩;obtain⟨rfl,rfl⟩:=hk;have:=hf _ (aX _);rw[bN (by omega)] at this;exact this
         have Wx:((l.flatMap PV.cells).map AV.p).length=l.length*s:=by
          obtain⟨n',UP,hk,Ml,RN,hf⟩:=ic (P:=P) (Kn:=λn new=>n=l.length/\new=(l.flatMap PV.cells).map AV.p) h0 ar ha ⟨iR,rfl,rfl⟩;obtain⟨rfl,rfl⟩:=hk;exact RN
         exact qE ar bH hu hs hi FJ FL Q2 Ce tl hlen (by omega) (aX _) Mn hA Wx hN vj _ (λh=>h) (aZ (by omega))
     |_=>exact Xf h
   |dJ o sz off len=>
    simp only[] at h;split at h
    · rename_i cs ho
      obtain⟨⟨rfl,rfl,Oz,Mn,h1⟩,RM,aZ⟩:=h;have Wz:=ha
      cases ha with
      |dJ o sz off bL len cap b t' n' lO gX pQ r7 tX qe=>
      by_cases Mo:n=0
      · subst Mo
        obtain⟨cells,c1,c2,_⟩:=hN;(have FN:cells= #[]:=by apply lW;omega);subst FN;have Q3:=c1 w (λ_ _=>rfl);refine⟨_,_,_,w,F,μ,RM rfl,?_,.refl _ _ _,ar,Wz,λ_ _=>rfl⟩;rw[run_append_fits hu hs tl hlen tX,Q3];simp[storeCells]
      · by_cases vA:len+n<=cap
        ·
          have l9:bL=0:=by rcases gX with h'|h'<;>omega
          subst l9;obtain⟨cells,c1,c2,c3⟩:=hN;have Q3:=c1 w (λ_ _=>rfl);obtain⟨cur,Fk,g1,g2,g3⟩:=ar.cells ho lO;have jH:n'=cur.size:=by simp[cC,g1] at pQ;exact pQ.2.symm
          have jV:len*sz+0+cells.toList.length<=cur.size:=by
           have:(len+n)*sz<=cap*sz:=fC _ vA;rw[dB] at this;simp;omega
          have DM:∀v∈cells.toList,v.oneCell'=true:=λv hv=>by
           obtain⟨i,hi,rfl⟩:=lM hv;(have wC:i<new.length:=by simp at hi;omega);have:=c3 i new[i] (aV wC);(have FO:i<cells.size:=by simpa using hi);rw[dh FO] at this;exact one_cell (by simpa using this) (h1 _ (jR _))
          have cY:=run_storeCells_at (P:=P) b (len*sz) Fk cells.toList 0 cur w g1 jV DM
          let cur':=(cur.toList.take (len*sz+0)++cells.toList++cur.toList.drop (len*sz+0+cells.toList.length)).toArray
          have IL:cur'.size=cur.size:=by simp[cur'];simp at jV;omega
          obtain⟨k1,k2⟩:=ar.write ho lO g1 cur' (.cells cs) IL (λw' hs hw=>⟨cur',Fk,hw,by omega,λi c hc=>by
           have A2:i<len*sz:=by have:=(aq.1 hc).1;omega
           have:cur'[i]? =cur[i]? :=by
            simp only[cur',ny,ky];rw[gA (by simp;omega),ly (by omega)];simp
           rw[this];exact(g3 i c hc).step hs⟩)
          (have Xg:ab.get ((o,bJ.cells cs)::σ) o= .cells cs:=by rw[ab.cI,if_pos rfl]);have iO:(w.setRow b cur').heap[b]? =some (.cells cur' Fk (0,0)):=setRow_heap w b cur cur' Fk _ g1;have ur:=(k2.renew bH Xg (by simp) lO .dead trivial).1
          obtain⟨j1,j2⟩:=k2.renew bH Xg (by simp) lO (.cells (cs++new)) ⟨cur',Fk,iO,by rw[fk,vj,IL];simp at jV;omega,λi c hc=>by
           by_cases A2:i<cs.length
           · rw[gA A2] at hc
             have:cur'[i]? =cur[i]? :=by
              simp only[cur',ny,ky];rw[gA (by simp;omega),ly (by omega)];simp
             rw[this];exact((g3 i c hc).step k1).step ur
           · rw[lX (by omega)] at hc
             have Ch:=(aq.1 hc).1
             have:cur'[i]? =cells[i-cs.length]? :=by
              simp only[cur',ny,ky];rw[lX (by simp;omega),gA (by simp;omega)];simp only[dy,Array.length_toList,gi];congr 1;omega
             rw[this]
             exact((c3 _ c hc).step k1).step ur⟩
          have j2':az F (μ.put nid b) ([(nid,.cells (cs++new)),(o,.dead)]++σ) (w.setRow b cur'):=j2.congr λi=>by
           simp only[jS,jn,ab.cI];split
           · rfl
           · split
             · rfl
             · rfl
          refine⟨_,_,.slice (some ⟨b,0,none⟩) (len+n) cap,_,_,_,aZ (by omega),?_,k1.trans j1,j2',.dJ _ _ _ _ _ _ _ Fk cur'.size (aN.jc _ _ _) (.inr rfl) (by simp[cC,iO]) (by rw[IL];omega) vA qe,λi hi=>if_neg hi⟩;(have UQ:(⟨b,0,none⟩:Addr).add (len*sz)=⟨b,len*sz,none⟩:=by rw[fD];simp);rw[run_append_fits hu hs tl hlen vA,Q3];simp only[bD,UQ,cY];rfl
        · have hA:∃cells:Array ah,(∀w',tc w w'->(iZ sz len (.slice (some ⟨b,bL,none⟩) len cap)).run P w'= .ok cells w')/\cells.size=len*sz/\ ∀(i:Nat) c,cs[i]? =some c->RV F μ w (cells[i]?.getD undef) c:=by
           obtain⟨n',UP,hk,Ml,RN,hf⟩:=ic (P:=P) (Kn:=λn new=>n=len/\new=cs) (s:=sz) h0 ar Wz ⟨rfl,by rw[ho];exact⟨by omega,rfl,by rw[da,bN (by omega)]⟩⟩;obtain⟨rfl,rfl⟩:=hk;have:=hf _ (aX _);rw[bN (by omega)] at this;exact this
          have hK:=aZ (by omega)
          exact qE (z:=z) ar bH hu hs hi FJ FL Q2 Ce tl hlen (by omega) tX Mn hA (by omega) hN vj _ (λ{F' μ' w'} h=>by
           exact h.FM) hK
    · exact h.elim
   |_=>exact Xf h
 · exact h.elim
theorem OA{σ:ab}{o:Nat}{x:bJ}(h:σ.get o=x)(i:Nat):ab.get ((o,x)::σ) i=σ.get i:=by
 rw[ab.cI];split
 · rename_i e;subst e;exact h.symm
 · rfl
theorem nD{t xt ty:an}{a x:AV}{va vx:ah}(ar:az F μ σ w)(ha:RV F μ w va a)(hx:RV F μ w vx x)(h:uo P t a x σ K):eZ P F μ σ w nid K (jO #[t,xt] ty #[va,vx]):=by
 unfold uo at h;split at h
 · rename_i s g o sz off len hE
   obtain⟨e,hu,hs⟩:=jl hE;have yz:=λw'=>run_sizeOf hs w';obtain⟨h0,h⟩:=h
   · obtain⟨n,new,h,hlen,vj,RL⟩:=ic (P:=P) h0 ar hx h
     split at h
     · rename_i cs ho
       obtain⟨⟨rfl,hle,h1⟩,hK⟩:=h
       cases ha with
       |dJ o sz off bL len cap b t' n' lO gX pQ r7 tX qe=>
       obtain⟨cells,c1,c2,c3⟩:=RL (min n len) (Nat.min_le_left _ _);have Q3:=c1 w (λ_ _=>rfl);by_cases hz:min n len=0
       · have FN:cells= #[]:=by apply lW;rw[c2,hz];omega
         subst FN
         have DN:az F μ ([(o,.cells (cO cs off (new.take (min n len*sz))))]++σ) w:=ar.congr λi=>by
          rw[hz];simp only[Nat.zero_mul,List.take_zero,cO,jS,jn];exact OA ho i
         refine⟨_,_,.int .i64 (min n len:Nat),w,F,μ,hK,?_,.refl _ _ _,DN,.p (.int _ _),λ_ _=>rfl⟩;have:Nat.min n len=min n len:=rfl;simp[jO,underlying,hu,yz,hlen,this,Q3,storeCells,goInt]
       · have l9:bL=off:=by rcases gX with h'|h'<;>omega
         subst l9;have hmul:min n len*sz<=len*sz:=fC _ (Nat.min_le_right _ _)
         have htl:(new.take (min n len*sz)).length=min n len*sz:=by
          have:min n len*sz<=n*sz:=fC _ (Nat.min_le_left _ _);simp;omega
         obtain⟨w',e1,e2,e3⟩:=qB (P:=P) (off:=bL) ar ho lO cells.toList (new.take (min n len*sz)) (by rw[htl];simpa using c2) (by omega) (by simpa using c3) h1;refine⟨_,_,.int .i64 (min n len:Nat),w',F,μ,hK,?_,e2,e3,.p (.int _ _),λ_ _=>rfl⟩;have:Nat.min n len=min n len:=rfl;simp[jO,underlying,hu,yz,hlen,this,Q3,e1 _ rfl,goInt]
     · exact h.elim
 · exact h.elim
theorem xC{s d:an}{x:AV}{v:ah}(ar:az F μ σ w)(hx:RV F μ w v x)(h:mo P s d x K):eZ P F μ σ w nid K (convert s d v):=by
 unfold mo at h;split at h
 · rename_i b hd
   obtain⟨⟨cu,Mn⟩,hK⟩:=h;obtain⟨e,hu,he⟩:=ui hd;have hs:=II cu;obtain rfl:=mG hx;have cY:=run_bytes_of_string (P:=P) w s d e b hs hu he
   let nc:=grownCap w b.size 0 e
   let cur:=bytesRow b nc
   let w':=w.drew.alloc (.cells cur e (cur.size,cur.size+1))
   let F':Nat->Prop:=λk=>F k\/k=w.heap.size
   have hold:∀k,k<w.heap.size->w'.heap[k]? =w.heap[k]? :=λk hk=>by
    show(w.heap.push _)[k]? =_;rw[kG,if_neg (by omega)]
   have bH:w'.heap[w.heap.size]? =some (.cells cur e (cur.size,cur.size+1)):=by
    show(w.heap.push _)[w.heap.size]? =_;simp
   have iR:w'.heap.size=w.heap.size+1:=by show(w.heap.push _).size=_;simp
   have cu:Step F μ w F' μ w':=⟨rfl,rfl,rfl,by omega,λk hk=>hold k (ar.fb k hk),λk hk _=>hold k hk,λk y hy=>by
    have hk:k<w.heap.size:=by
     unfold cC at hy;rcases dK k w.heap.size with h'|h'
     · exact h'
     · simp[Array.getElem?_eq_none h'] at hy
    unfold cC at *
    rw[hold k hk];exact hy,λ_ h=>.inl h,λk hk=>hk.imp id (λh=>.inr (by omega)),λ_ _ h=>h,λ_ h=>.inl h⟩
   have nR:=ar.Fz cu hold (λk hk=>hk.imp id (λh=>⟨by omega,by omega⟩))
   have RJ:nc<=maxLen/\b.size<=nc:=by
    have h1:nc=b.size+(w.tape w.drawn (jP b.size 0 e)) % (2 ^ 63-b.size):=rfl;have h2:(w.tape w.drawn (jP b.size 0 e)) % (2 ^ 63-b.size)<2 ^ 63-b.size:=Nat.mod_lt _ (by omega);unfold maxLen;omega
   refine⟨_,_,_,w',F',μ,hK,cY,cu,nR,.p ?_,λ_ _=>rfl⟩;refine .sl _ 0 _ _ 1 false _ (λi _=>.int .u8 (b.data.toList.getD i 0).toNat) (.inr rfl) (by rw[ak,Array.length_toList];rfl) RJ.2 RJ.1 (by simp) ?_ ?_ ?_
   · intro i p hp
     simp only[aW,cm] at hp;obtain⟨u,_,rfl⟩:=hp;exact⟨rfl,λc hc=>by simp[PV.cells] at hc;subst hc;rfl⟩
   · intro i p j q hp hq
     simp only[aW,cm] at hp;obtain⟨u,TS,rfl⟩:=hp
     have hj:j=0:=by
      have:=(aq.1 hq).1;simp[PV.cells] at this;exact this
     subst hj;(have FJ:i<b.data.size:=by have:=(aq.1 TS).1;simpa using this);rw[mF bH];show(b.data.map (λb=>Value.int .u8 b.toNat)++Array.replicate (nc-b.size) (.int .u8 0))[0+i*1+0]? =_;rw[iY (by simpa using FJ)];simp[cF];exact⟨b.data[i],by rw[dh FJ],by rw[dh FJ];rfl⟩
   · intro i p j q hp hq
     simp only[aW,cm] at hp;obtain⟨u,TS,rfl⟩:=hp
     have hj:j=0:=by
      have:=(aq.1 hq).1;simp[PV.cells] at this;exact this
     subst hj;simp[PV.cells] at hq;subst hq;(have:b.data.toList.getD i 0=u:=by simp[cF,TS]);rw[this];exact .int _ _
 · exact h.elim
def Ci(P:au)(F:Nat->Prop)(μ:aN)(σ:ab)(w:aj)(nid:Nat)(K:AV->ab->Prop)(s:Sem Next):Prop:=
 ∃av us v w' F' μ',K av us/\(s.run P w= .ok (.value v) w'\/(s.run P w= .ok .skip w'/\v=undef))/\Step F μ w F' μ' w'/\az F' μ' (us++σ) w'/\RV F' μ' w' v av/\ ∀o,o≠nid->μ' o=μ o
theorem eZ.next{s:Sem ah}(h:eZ P F μ σ w nid K s):Ci P F μ σ w nid K (do pure (.value (<-s))):=by
 obtain⟨av,us,v,w',F',μ',h1,h2,h3,h4,h5⟩:=h;exact⟨av,us,v,w',F',μ',h1,.inl (by simp[h2]),h3,h4,h5⟩
theorem OB{o:Oper}{ev:aL->AV}{a:aL->ah}(ar:az F μ σ w)(bH:μ nid=none)(aR:∀x,RV F μ w (a x) (ev x))(h:wK P o.op ev σ nid K):Ci P F μ σ w nid K (execOp a o):=by
 obtain⟨dst,op,ty,pos,after,guard⟩:=o
 have yB:∀(parts:Array (Nat×aL)),(∀(i:Nat) p,(parts.toList.map λy=>(y.1,ev y.2))[i]? =some p->∃v,(parts.toList.map λy=>(y.1,a y.2))[i]? =some (p.1,v)/\RV F μ w v p.2):=λparts i p hp=>by
  simp only[aW,cm] at hp;obtain⟨y,hy,rfl⟩:=hp;exact⟨a y.2,by simp[hy],aR y.2⟩
 cases op<;>simp only[wK] at h<;>try exact h.elim
 case alloc t=>exact(o0 (old:= .tuple #[]) ar bH h).next
 case box t x=>exact(tg (t:=t) ar bH (aR x) h).next
 case store t x y=>
  obtain⟨us,w',h1,h2,h3,h4⟩:=o3 (P:=P) ar (aR x) (aR y) h;refine⟨db,us,undef,w',F,μ,h1,.inr ⟨?_,rfl⟩,h3,h4,.p (.bR _ _ rfl (by simp)),λ_ _=>rfl⟩;simp[execOp,h2]
 case buildSlice t n parts=>
  have:=gR (P:=P) (F:=F) (μ:=μ) (w:=w) (K:=K) (t:=t) (len:=n) (parts:=parts.toList.map λy=>(y.1,ev y.2)) (vs:=parts.toList.map λy=>(y.1,a y.2)) ar bH (by simp) (yB parts) h
  have e:(parts.map λ(i,x)=>(i,a x))=(parts.toList.map λy=>(y.1,a y.2)).toArray:=by
   apply gz;simp
  simp only[execOp];rw[e];exact this.next
 case makeSlice t n c=>exact(oo ar bH (aR n) (aR c) h).next
 case convert s d x=>exact(xC ar (aR x) h).next
 case call c=>
  obtain⟨callee,args,ats⟩:=c
  have UR:∀{t xt:an},ats[0]? =some t->ats[1]? =some xt-> ∀(yC:Array ah) (ty:an),dM ats ty yC=dM #[t,xt] ty yC:=λh1 h2 yC ty=>by
   simp only[dM,h1,h2];rfl
  split at h
  · rename_i x y t xt hc er h1 h2
    simp only at hc er h1 h2;subst hc;(have dk:args= #[x,y]:=by apply gz;simpa using er);subst dk;have:=(lq (ty:=ty) ar bH (aR x) (aR y) h).next;have e:execOp a { dst:=dst,op:= .call { callee:= .builtin .append,args:= #[x,y],argTypes:=ats },type:=ty,pos:=pos,after:=after,guard:=guard } =(do pure (.value (<-dM ats ty (#[x,y].map a)))):=rfl;rw[e,UR h1 h2];simpa using this
  · rename_i x y t hc er h1
    simp only at hc er h1;subst hc;(have dk:args= #[x,y]:=by apply gz;simpa using er);subst dk;have:=(nD (nid:=nid) (xt:=0) (ty:=ty) ar (aR x) (aR y) h).next;have e:execOp a { dst:=dst,op:= .call { callee:= .builtin .copy,args:= #[x,y],argTypes:=ats },type:=ty,pos:=pos,after:=after,guard:=guard } =(do pure (.value (<-jO ats ty (#[x,y].map a)))):=rfl
    have e2:jO ats ty (#[x,y].map a)=jO #[t,0] ty #[a x,a y]:=by
     simp only[jO,h1,List.map_toArray,bE,dw];rfl
    rw[e,e2];exact this
  · exact h.elim
end
def eh(sz:Nat)(l:List PV):Prop:=∀p∈l,xY sz p
theorem eh.append{sz:Nat}{l m:List PV}(h:eh sz l)(k:eh sz m):eh sz (l++m):=λp hp=>by
 rcases List.mem_append.1 hp with h'|h'
 · exact h p h'
 · exact k p h'
theorem eh.take{sz:Nat}{l:List PV}(h:eh sz l)(n:Nat):eh sz (l.take n):=λp hp=>h p (List.mem_of_mem_take hp)
theorem eh.drop{sz:Nat}{l:List PV}(h:eh sz l)(n:Nat):eh sz (l.drop n):=λp hp=>h p (List.mem_of_mem_drop hp)
theorem eh.set{sz:Nat}{l:List PV}(h:eh sz l)(i:Nat){v:PV}(hv:xY sz v):eh sz (l.set i v):=λp hp=>by
 rcases List.mem_or_eq_of_mem_set hp with h'|h'
 · exact h p h'
 · rw[h'];exact hv
theorem cH(l m:List PV):bc (l++m)=bc l++bc m:=by simp[bc]
theorem mJ(v:PV):bc [v]=v.cells.map .p:=by simp[bc]
section
variable{sz:Nat}(h0:0<sz){l:List PV}(h:eh sz l)
include h0 h
theorem cz:(bc l).length=l.length*sz:=by simp only[bc,ak];exact(lA h0 l (λp hp=>(h p hp).1)).1
theorem FP(k:Nat):(bc l)[k]? =((l[k / sz]?).bind λp=>p.cells[k % sz]?).map .p:=by
 simp only[bc,aW];rw[(lA h0 l (λp hp=>(h p hp).1)).2 k]
theorem Cj{i:Nat}{p:PV}(hp:l[i]? =some p){j:Nat}(hj:j<sz):(bc l)[i*sz+j]? =(p.cells[j]?).map .p:=by
 rw[FP h0 h]
 have h1:(i*sz+j) / sz=i:=by rw[Nat.add_comm,Nat.add_mul_div_right _ _ h0,Nat.div_eq_of_lt hj];simp
 have h2:(i*sz+j) % sz=j:=by rw[Nat.add_comm,Nat.add_mul_mod_self_right,Nat.mod_eq_of_lt hj]
 rw[h1,h2,hp];rfl
theorem mq(n:Nat):(bc l).take (n*sz)=bc (l.take n):=by
 have e:=mD n l;have h1:=cz h0 (h.take n);by_cases hn:n<=l.length
 · rw[<-e,cH]
   (have hl:(bc (l.take n)).length=n*sz:=by rw[h1,dy,Nat.min_eq_left hn]);rw[<-hl,List.take_append_of_le_length (aX _),List.take_length];rw[List.take_append_of_le_length (by simp;omega),List.take_take];simp
 · rw[bN (by rw[cz h0 h];exact fC _ (by omega)),bN (by omega)]
theorem mr(n:Nat):(bc l).drop (n*sz)=bc (l.drop n):=by
 have e:=mD n l;by_cases hn:n<=l.length
 · have h1:=cz h0 (h.take n)
   (have hl:(bc (l.take n)).length=n*sz:=by rw[h1,dy,Nat.min_eq_left hn]);(have:bc l=bc (l.take n)++bc (l.drop n):=by rw[<-cH,e]);rw[this,<-hl,List.drop_left]
 · rw[List.drop_of_length_le (by rw[cz h0 h];exact fC _ (by omega)),List.drop_of_length_le (by omega)];rfl
theorem ot(i n:Nat):((bc l).drop (i*sz)).take (n*sz)=bc ((l.drop i).take n):=by
 rw[mr h0 h,mq h0 (h.drop i)]
end
theorem mu(cs vs:List AV)(off:Nat)(h:off+vs.length<=cs.length):cO cs off vs=cs.take off++vs++cs.drop (off+vs.length):=by
 apply List.ext_getElem?;intro i;rw[th vs cs off i h,ky];by_cases h1:i<off
 · rw[if_neg (by omega),gA (by simp;omega),ly h1]
 · rw[lX (by simp;omega)]
   (have:(cs.take off).length=off:=by simp;omega);rw[this];by_cases h2:i<off+vs.length
   · rw[if_pos ⟨by omega,h2⟩,gA (by omega)]
   · rw[if_neg (by omega),lX (by omega),jQ]
     congr 1;omega
theorem qF{sz:Nat}(h0:0<sz){l m:List PV}(h:eh sz l)(k:eh sz m)(i:Nat)(hi:i+m.length<=l.length):
 cO (bc l) (i*sz) (bc m)=bc (l.take i++m++l.drop (i+m.length)):=by
 have hl:=cz h0 h;have hm:=cz h0 k;(have hle:i*sz+m.length*sz<=l.length*sz:=by rw[<-dB];exact fC _ hi);rw[mu _ _ _ (by rw[hl,hm];exact hle),mq h0 h,hm,<-dB,mr h0 h,<-cH,<-cH]
theorem yD{α:Type}(l:List α)(i:Nat)(v:α)(h:i<l.length):l.take i++[v]++l.drop (i+[v].length)=l.set i v:=by
 rw[List.set_eq_take_append_cons_drop,if_pos h];simp
theorem OC{sz:Nat}(h0:0<sz){l:List PV}{v:PV}(h:eh sz l)(hv:xY sz v)(i:Nat)(hi:i<l.length):
 cO (bc l) (i*sz) (v.cells.map .p)=bc (l.set i v):=by
 have:=qF h0 h (m:=[v]) (λp hp=>by simp at hp;subst hp;exact hv) i (by simp;omega);rw[mJ] at this;rw[this];congr 1;exact yD l i v hi
theorem ig(z:List PV)(g:Bool)(n:Nat)(z0:PV)(h:z0.cells=z):ey z n=bc (ck n z0):=by
 subst h
 have:bc (ck n z0)=(ck n (z0.cells.map AV.p)).flatten:=by
  induction n with
  |zero=>rfl
  |succ n ih=>rw[List.replicate_succ,<-List.singleton_append,cH,ih,mJ,List.replicate_succ,List.flatten_cons]
 rw[this];unfold ey;split
 · rename_i v e
   rw[e];clear this
   induction n with
   |zero=>rfl
   |succ n ih=>rw[List.replicate_succ,ih,List.replicate_succ,List.flatten_cons];rfl
 · rfl
theorem Ck{s:Nat}(hs:0<s):∀(sE:List PV) (k:Nat) (cs:List AV),eh s sE->(k+sE.length)*s<=cs.length->
 pP (placeOf [] s) cs ((sE.zipIdx k).map λx=>(x.2,AV.p x.1))=some (cs.take (k*s)++bc sE++cs.drop ((k+sE.length)*s))
 |[],k,cs,_,_=>by simp[pP,bc]
 |v::r,k,cs,h,hl=>by
  have hv:=(h v (by simp)).1
  have hle:k*s+s<=cs.length:=by
   have:(k+1)*s<=(k+(v::r).length)*s:=fC _ (by simp);rw[dB,Nat.one_mul] at this;omega
  (have hc:(AV.p v).cells.length=s:=by simp[AV.cells,hv]);have hlen:(cO cs (k*s) (AV.p v).cells).length=cs.length:=lp _ _ _;simp only[List.zipIdx_cons,bE,pP,um];(have hp:placeOf [] s k=some (k*s,s):=by simp[placeOf,show s≠0 by omega]);rw[hp];simp only[];rw[if_pos ⟨rfl,hc,hle⟩,Ck hs r (k+1) _ (λp hp=>h p (by simp[hp])) (by rw[hlen];simpa[Nat.add_assoc,Nat.add_comm 1] using hl)];congr 1;rw[mu _ _ _ (by rw[hc];exact hle),hc];(have e1:(AV.p v).cells=bc [v]:=by rw[mJ];rfl);(have e2:bc (v::r)=bc [v]++bc r:=by rw[<-cH];rfl);(have h1:(bc [v]).length=s:=by rw[<-e1];exact hc);rw[e1,e2];(have Io:(k+1)*s=k*s+s:=by rw[dB,Nat.one_mul]);(have N5:(List.take (k*s) cs).length=k*s:=by simp;omega);(have xB:(cs.take (k*s)++bc [v]).length=k*s+s:=by rw[fk,N5,h1]);(have t1:(cs.take (k*s)++bc [v]++cs.drop (k*s+s)).take ((k+1)*s)=cs.take (k*s)++bc [v]:=by rw[Io];exact List.take_left' xB);have hn:(k+1+r.length)*s=k*s+s+r.length*s:=by rw[dB,Io]
  have t2:(cs.take (k*s)++bc [v]++cs.drop (k*s+s)).drop ((k+1+r.length)*s)=cs.drop ((k+(v::r).length)*s):=by
   rw[List.drop_append,xB,List.drop_of_length_le (by rw[xB,hn];omega),jn,List.drop_drop,hn];congr 1;simp only[ea];rw[dB,dB,Nat.one_mul];omega
  rw[t1,t2];simp[ky]
def vl:bJ->bJ
 |.row _ l=>.cells (bc l)
 |x=>x
def RQ:bJ->Prop
 |.row sz l=>eh sz l
 |_=>True
def qG(σ:ab):ab:=σ.map λx=>(x.1,vl x.2)
def DO:AV->AV
 |.bo o sz i len=>.dJ o sz (i*sz) len
 |.cr o sz i j=>.ptr o (i*sz+j)
 |v=>v
theorem OD{x:bJ}:vl x= .dead↔x= .dead:=by cases x<;>simp[vl]
theorem r9:∀(σ:ab) (o:Nat),(qG σ).get o=vl (σ.get o)
 |[],_=>rfl
 |(j,x)::r,o=>by
  show(if j=o then vl x else ab.get (qG r) o)=vl (if j=o then x else ab.get r o);split
  · rfl
  · exact r9 r o
section
variable{P:au}{F:Nat->Prop}{μ:aN}{σ:ab}{w:aj}{nid:Nat}
theorem OE{b:Nat}{x:bJ}:RO F μ w b x↔RQ x/\RO F μ w b (vl x):=by
 cases x with
 |row sz l=>exact Iff.rfl
 |_=>exact⟨λh=>⟨trivial,h⟩,λh=>h.2⟩
theorem RV.un{v:ah}{a:AV}(h:RV F μ w v a):RV F μ w v (DO a):=by
 cases h with
 |bo o sz i len v h=>exact h
 |cr o sz i j v h=>exact h
 |jb o sz i len cap base h=>exact .jb o sz i len cap base h
 |p h=>exact .p h
 |any v=>exact .any v
 |ptr o off b h=>exact .ptr o off b h
 |dJ o sz off bL len cap b t n h1 h0 h2 h3 h4 h5=>exact .dJ o sz off bL len cap b t n h1 h0 h2 h3 h4 h5
 |mp o b h=>exact .mp o b h
 |ch o b h=>exact .ch o b h
 |agg cs l h1 h2=>exact .agg cs l h1 h2
 |bR cs l h1 h2=>exact .bR cs l h1 h2
 |fn f as bs ls ms h1 h2 h3 h4=>exact .fn f as bs ls ms h1 h2 h3 h4
theorem az.un(h:az F μ σ w):az F μ (qG σ) w:=by
 have nd:∀o,(qG σ).get o≠ .dead->σ.get o≠ .dead:=λo ho e=>ho (by rw[r9,e];rfl);exact⟨h.fb,h.mb,λo ho=>h.has o (nd o ho),λo b hb=>by rw[r9];exact(OE.1 (h.obj o b hb)).2,λo b ho=>h.live o b (nd o ho),λi j b hi hj=>h.inj i j b (nd i hi) (nd j hj),λc m hc=>⟨(h.hd c m hc).1,λo ho=>(h.hd c m hc).2 o (nd o ho)⟩,h.hu⟩
theorem az.RQ(h:az F μ σ w)(o:Nat):Sg.RQ (σ.get o):=by
 by_cases hd:σ.get o= .dead
 · rw[hd];trivial
 · obtain⟨b,hb⟩:=h.has o hd
   exact(OE.1 (h.obj o b hb)).1
theorem az.re{F':Nat->Prop}{μ':aN}{w':aj}{us:ab}(h:az F μ σ w)(h':az F' μ' (qG us++qG σ) w')(hu:∀x∈us,Sg.RQ x.2):az F' μ' (us++σ) w':=by
 have e:qG us++qG σ=qG (us++σ):=by simp[qG]
 rw[e] at h';have nd:∀o,ab.get (us++σ) o≠ .dead->(qG (us++σ)).get o≠ .dead:=λo ho e=>ho (by rw[r9] at e;exact OD.1 e)
 have ok:∀o,Sg.RQ (ab.get (us++σ) o):=λo=>by
  clear h' nd e
  induction us with
  |nil=>exact h.RQ o
  |cons x r ih=>
   rw[jS,ab.cI];split
   · exact hu x (by simp)
   · exact ih λy hy=>hu y (by simp[hy])
 exact⟨h'.fb,h'.mb,λo ho=>h'.has o (nd o ho),λo b hb=>OE.2 ⟨ok o,by have:=h'.obj o b hb;rwa[r9] at this⟩,λo b ho=>h'.live o b (nd o ho),λi j b hi hj=>h'.inj i j b (nd i hi) (nd j hj),λc m hc=>⟨(h'.hd c m hc).1,λo ho=>(h'.hd c m hc).2 o (nd o ho)⟩,h'.hu⟩
end
def eqS:PV->PV->Bool
 |.int k n,.int k' m=>decide (k=k')&&decide (n=m)
 |.bool a,.bool b=>a==b
 |_,_=>false
def RS(P:au)(t:an):Option (Nat×PV):=
 match tA P t,tZ P t with
 |some (n,1,false),some (z0::r)=>if r.length+1=n/\(r.all (eqS z0))=true/\z0.one=true then some (n,z0) else none
 |_,_=>none
def kz(g:Bool)(z:List PV):PV:=
 match g,z with
 |false,[v]=>v
 |_,z=>.agg z
def kM:Nat->List (Nat×AV)->Option (List PV)
 |_,[]=>some []
 |k,(j,.p v)::r=>if j=k then(match kM (k+1) r with|some q=>some (v::q)|none=>none) else none
 |_,_=>none
def mK(cs:List PV)(off:Nat):List PV->List PV
 |[]=>cs
 |v::r=>mK (cs.set off v) (off+1) r
def uu(P:au)(t:an)(x i:AV)(K:AV->Prop):Prop:=
 match x with
 |.bo o sz i0 len=>(match tE P t,i with|some (s,_),.p (.int _ n)=>(sz=s/\0<=n/\n<len)/\K (.cr o sz (i0+n.toNat) 0)|_,_=>False)
 |.cr o sz i0 j=>(match tE P t,tA P t,i with|none,some (m,s,_),.p (.int _ n)=>(sz=s/\j=0/\0<=n/\n<m)/\K (.cr o sz (i0+n.toNat) 0)|_,_,_=>False)
 |x=>Ry P t x i K
def nE(P:au)(t:an)(a:AV)(σ:ab)(K:AV->Prop):Prop:=
 match a with
 |.cr o sz i j=>(match tT P t,σ.get o with
  |some (s,g),.row e8 l=>(match decide (s<=sz) with
   |true=>(e8=sz/\0<sz/\0<s/\j+s<=sz/\i<l.length)/\ ∀p,l[i]? =some p->qu g s p.cells j K
   |false=>(e8=sz/\sz=1/\g=true/\i=0/\j=0/\s=l.length)/\K (.p (.agg (l.flatMap PV.cells))))
  |_,_=>False)
 |a=>wA P t a σ K
def yE(P:au)(t f:Nat)(x:AV)(K:AV->Prop):Prop:=
 match x with
 |.cr o sz i j=>(match tF P t f with|some (off,s,_)=>0<s/\K (.cr o sz i (j+off))|none=>False)
 |x=>TH P t f x K
def yF(x:AV)(K:AV->Prop):Prop:=
 match x with
 |.cr o sz i j=>K (.cr o sz i j)
 |x=>IE x K
def o5(P:au)(s d:an)(x:AV)(σ:ab)(K:AV->Prop):Prop:=
 match x with
 |.bo o sz i len=>(match tC P d with
  |.str=>(tC P s= .bytes/\sz=1)/\(match σ.get o with|.row e8 l=>(e8=1/\i+len<=l.length)/\ ∃q,TI ((l.drop i).take len)=some q/\K (.p (.str (strOfNums q)))|_=>False)
  |_=>False)
 |x=>wB P s d x σ K
def uv(P:au)(t:an)(x:AV)(lo hi mx:Option AV)(σ:ab)(K:AV->Prop):Prop:=
 match x with
 |.bo o sz i len=>(match tE P t,oe 0 lo,oe len hi with
  |some (s,_),some a,some b=>(match mx with
   |none=>(sz=s/\0<=a/\a<=b/\b<=len)/\K (.bo o sz (i+a.toNat) (b.toNat-a.toNat))
   |some m=>(sz=s/\0<=a/\a<=b/\b<=len)/\hi.isSome/\oe 0 (some m)=some b/\K (.bo o sz (i+a.toNat) (b.toNat-a.toNat)))
  |_,_,_=>False)
 |.cr o sz i j=>(match tE P t,tA P t,σ.get o,mx with
  |none,some (n,s,_),.row e8 l,none=>(match oe 0 lo,oe n hi with
   |some a,some b=>(sz=s/\e8=s/\0<s/\i=0/\j=0/\n=l.length/\n<=1000000000/\0<=a/\a<=b/\b<=n)/\K (.bo o s a.toNat (b.toNat-a.toNat))
   |_,_=>False)
  |_,_,_,_=>False)
 |x=>RB P t x lo hi mx σ K
def vB(x:AV)(P:au)(t:an)(K:AV->Prop):Prop:=
 match x with
 |.bo _ _ _ n=>(tE P t).isSome/\K (.p (.int .i64 n))
 |x=>FA x P t K
def xQ(P:au)(op:Op)(ev:aL->AV)(σ:ab)(K:AV->Prop):Prop:=
 match op with
 |.load t a=>nE P t (ev a) σ K
 |.nilCheck x=>yF (ev x) K
 |.fieldAddr t x f=>yE P t f (ev x) K
 |.indexAddr t x i=>uu P t (ev x) (ev i) K
 |.convert s d x=>o5 P s d (ev x) σ K
 |.slice t x lo hi mx=>uv P t (ev x) (lo.map ev) (hi.map ev) (mx.map ev) σ K
 |.call c=>(match c.callee with
  |.builtin .len=>(match c.args.toList,c.argTypes[0]? with | [x],some t=>vB (ev x) P t K|_,_=>False)
  |_=>qK P (.call c) ev σ K)
 |op=>qK P op ev σ K
def ou(P:au)(t:an)(nid:Nat)(K:AV->ab->Prop):Prop:=
 match RS P t with
 |some (n,z0)=>K (.cr nid 1 0 0) [(nid,.row 1 (ck n z0))]
 |none=>qA P t nid K
def vD(P:au)(t:an)(x:AV)(nid:Nat)(K:AV->ab->Prop):Prop:=
 match RS P t with
 |some _=>(match x with|.p (.agg cs)=>(∀c∈cs,c.one=true)/\K (.cr nid 1 0 0) [(nid,.row 1 cs)]|_=>False)
 |none=>UJ x nid K
def FQ:List AV->List AV->List AV
 |_::cs,v::vs=>v::FQ cs vs
 |cs,[]=>cs
 |[],_::_=>[]
def vE(P:au)(t:an)(a x:AV)(σ:ab)(K:AV->ab->Prop):Prop:=
 match a,tT P t with
 |.ptr o 0,some (s,_)=>(match σ.get o with
  |.cells cs=>(x.isAny=false/\x.cells.length=s/\s<=cs.length/\x.cells.all AV.one=true)/\K db [(o,.cells (FQ cs x.cells))]
  |_=>False)
 |a,_=>mI P t a x σ K
theorem FR:∀(vs cs:List AV) (pre:List AV),vs.length<=cs.length->pre++FQ cs vs=cO (pre++cs) pre.length vs
 |[],cs,pre,_=>by cases cs<;>simp[FQ,cO]
 |v::vs,[],pre,h=>by simp at h
 |v::vs,c::cs,pre,h=>by
  have:=FR vs cs (pre++[v]) (by simpa using h);rw[FQ,cO];(have e:(pre++c::cs).set pre.length v=(pre++[v])++cs:=by simp);rw[e,show pre.length+1=(pre++[v]).length by simp,<-this];simp
theorem Mq{P:au}{t:an}{a x:AV}{σ:ab}{K:AV->ab->Prop}(h:vE P t a x σ K):mI P t a x σ K:=by
 unfold vE at h;split at h
 · rename_i o s g ht
   split at h
   · rename_i cs ho
     obtain⟨⟨h0,hl,hle,h1⟩,hK⟩:=h;simp only[mI,ht,ho];refine⟨⟨h0,hl,by omega,λc hc=>cG.1 h1 c hc⟩,?_⟩;have e:=FR x.cells cs [] (by omega);simp only[jn,List.length_nil] at e;rw[<-e];exact hK
   · exact h.elim
 · exact h
def gC(P:au)(t:an)(a x:AV)(σ:ab)(K:AV->ab->Prop):Prop:=
 match a with
 |.cr o sz i j=>(match x with
  |.p v=>(match tT P t,σ.get o with
   |some (s,_),.row e8 l=>(match decide (s=sz),decide (s<sz) with
    |true,_=>(e8=sz/\0<sz/\j=0/\i<l.length/\xY sz v)/\K db [(o,.row sz (l.set i v))]
    |false,true=>(e8=sz/\0<sz/\j+s<=sz/\i<l.length/\xY s v)/\ ∀p,l[i]? =some p->(match p with|.agg cs=>K db [(o,.row sz (l.set i (.agg (mK cs j v.cells))))]|_=>False)
    |false,false=>(match v with
     |.agg cs=>(e8=sz/\sz=1/\i=0/\j=0/\s=l.length/\cs.length=s/\ ∀c∈cs,c.one=true)/\K db [(o,.row 1 cs)]
     |_=>False))
   |_,_=>False)
  |_=>False)
 |a=>vE P t a x σ K
def eD(P:au)(t:an)(len:Nat)(parts:List (Nat×AV))(nid:Nat)(K:AV->ab->Prop):Prop:=
 match kM 0 parts with
 |some sE=>(match decide (sE.length=len) with
  |true=>(match tE P t,Mm P t with
   |some (s,_),some z=>(z.length=s/\0<s/\len*s<=1000000/\ ∀v∈sE,xY s v)/\K (.bo nid s 0 len) [(nid,.row s sE)]
   |_,_=>False)
  |false=>fF P t len parts nid K)
 |none=>fF P t len parts nid K
def sa(P:au)(t:an)(n c:AV)(nid:Nat)(K:AV->ab->Prop):Prop:=
 match n,c,tE P t,Mm P t,tB P t with
 |.p (.int _ n),.p (.int _ c),some (s,g),some z,some bt=>(xY s (kz g z)/\(kz g z).cells=z/\z.length=s/\0<s/\bt<=100000)/\(0<=n/\n<=c/\c<=1000000000)/\K (.bo nid s 0 n.toNat) [(nid,.row s (ck n.toNat (kz g z)))]
 |_,_,_,_,_=>False
def lP(x:AV)(s:Nat)(σ:ab)(K:Nat->List PV->Prop):Prop:=
 match x with
 |.p (.sl sz _ l)=>(sz=s\/l=[])/\K l.length l
 |.bo o sz i n=>sz=s/\(match σ.get o with|.row e8 l=>(e8=s/\i+n<=l.length)/\K n ((l.drop i).take n)|_=>False)
 |.p (.str b)=>s=1/\K b.size (b.data.toList.map λu=>.int .u8 u.toNat)
 |_=>False
def isCells:AV->Bool
 |.dJ _ _ _ _=>true
 |_=>false
def fW(P:au)(t xt:an)(a x:AV)(σ:ab)(nid:Nat)(K:AV->ab->Prop):Prop:=
 match isCells a||isCells x with
 |true=>jm P t xt a x σ nid K
 |false=>(match tE P t,Mm P t,tB P t with
  |some (s,_),some z,some bt=>(z.length=s/\0<s/\bt<=100000/\nC P xt=true)/\lP x s σ λn new=>(match a with
   |.bo o sz i len=>(match σ.get o with
    |.row e8 l=>(sz=s/\e8=s/\i=0/\len=l.length/\len+n<=1000000000)/\K (.bo nid s 0 (len+n)) [(nid,.row s (l++new)),(o,.dead)]
    |_=>False)
   |.p (.sl sz c l)=>(c=true/\(sz=s\/l=[])/\l.length+n<=1000000000)/\(n=0->K a [])/\(0<n->K (.bo nid s 0 (l.length+n)) [(nid,.row s (l++new))])
   |_=>False)
  |_,_,_=>False)
def me(P:au)(t:an)(a x:AV)(σ:ab)(K:AV->ab->Prop):Prop:=
 match a with
 |.bo o sz i len=>(match tE P t with
  |some (s,_)=>0<s/\lP x s σ λn new=>(match σ.get o with
   |.row e8 l=>(sz=s/\e8=s/\i+len<=l.length)/\K (.p (.int .i64 (min n len:Nat))) [(o,.row s (l.take i++new.take (min n len)++l.drop (i+min n len)))]
   |_=>False)
  |none=>False)
 |a=>uo P t a x σ K
def xW(P:au)(op:Op)(ev:aL->AV)(σ:ab)(nid:Nat)(K:AV->ab->Prop):Prop:=
 match op with
 |.alloc t=>ou P t nid K
 |.box t x=>vD P t (ev x) nid K
 |.store t a x=>gC P t (ev a) (ev x) σ K
 |.buildSlice t n parts=>eD P t n (parts.toList.map λy=>(y.1,ev y.2)) nid K
 |.makeSlice t n c=>sa P t (ev n) (ev c) nid K
 |.call c=>(match c.callee,c.args.toList,c.argTypes[0]?,c.argTypes[1]? with
  |.builtin .append,[a,x],some t,some xt=>fW P t xt (ev a) (ev x) σ nid K
  |.builtin .copy,[a,x],some t,_=>me P t (ev a) (ev x) σ K
  |_,_,_,_=>False)
 |op=>wK P op ev σ nid K
section
variable{P:au}{F:Nat->Prop}{μ:aN}{σ:ab}{w:aj}{nid:Nat}
def vo(v v':AV):Prop:=∀(F:Nat->Prop) (μ:aN) (w:aj) (x:ah),RV F μ w x v->RV F μ w x v'
theorem vo.refl(v:AV):vo v v:=λ_ _ _ _ h=>h
theorem vo.bo(o sz i len:Nat):vo (.dJ o sz (i*sz) len) (.bo o sz i len):=λ_ _ _ _ h=>.bo _ _ _ _ _ h
theorem vo.DP{o sz i len k:Nat}(e:k=i*sz):vo (.dJ o sz k len) (.bo o sz i len):=by subst e;exact vo.bo o sz i len
theorem vo.cr{o sz i j k:Nat}(e:k=i*sz+j):vo (.ptr o k) (.cr o sz i j):=by subst e;exact λ_ _ _ _ h=>.cr _ _ _ _ _ h
def lift(K:AV->Prop)(v:AV):Prop:=∃v',K v'/\vo v v'
theorem lift.of{K:AV->Prop}{v:AV}(h:K v):lift K v:=⟨v,h,vo.refl v⟩
theorem mL{o:Nat}{x:bJ}(h:σ.get o=x):(qG σ).get o=vl x:=by rw[r9,h]
theorem Cl:∀(l:List PV),qt (l.map AV.p)=some l
 |[]=>rfl
 |p::r=>by simp[qt,Cl r]
theorem Cm(l:List PV):Cc (l.map AV.p)= .p (.agg l):=by simp[Cc,Cl]
theorem Qt.lift{K:AV->Prop}{s:Sem ah}(h:Qt P F μ w (lift K) s):Qt P F μ w K s:=by
 obtain⟨av,v,⟨v',h1,h2⟩,h3,h4⟩:=h;exact⟨v',v,h1,h2 _ _ _ _ h3,h4⟩
theorem FT{t:an}{x i:AV}{K:AV->Prop}{v u:ah}(hx:RV F μ w v x)(hi:RV F μ w u i)(h:uu P t x i K):Qt P F μ w K (Instr.indexAt t v u):=by
 cases x with
 |bo o sz i0 len=>
  refine(r6 (K:=lift K) hx.un hi ?_).lift;simp only[uu] at h;split at h
  · rename_i s g k n hE
    obtain⟨⟨h1,h2,h3⟩,hK⟩:=h;subst h1;simp only[Ry,DO,hE];exact⟨⟨trivial,h2,h3⟩,_,hK,vo.cr (by rw[dB];simp)⟩
  · exact h.elim
 |cr o sz i0 j=>
  refine(r6 (K:=lift K) hx.un hi ?_).lift;simp only[uu] at h;split at h
  · rename_i m s g k n hE hA
    obtain⟨⟨h1,h2,h3,h4⟩,hK⟩:=h;subst h1;subst h2;simp only[Ry,DO,hE,hA];exact⟨⟨h3,h4⟩,_,hK,vo.cr (by rw[dB];simp)⟩
  · exact h.elim
 |_=>exact r6 hx hi h
theorem mM(ar:az F μ σ w){o sz:Nat}{l:List PV}(ho:σ.get o= .row sz l):eh sz l:=by
 have:=ar.RQ o;rw[ho] at this;exact this
theorem sK{t:an}{a:AV}{K:AV->Prop}{v:ah}(ar:az F μ σ w)(ha:RV F μ w v a)(h:nE P t a σ K):Qt P F μ w K (Instr.loadAt t v):=by
 cases a with
 |cr o sz i j=>
  refine(qv (K:=lift K) ar.un ha.un ?_).lift;simp only[nE] at h;split at h
  · rename_i s g e8 l ht ho
    have bQ:=mM ar ho;have hu:=mL ho;simp only[wA,DO,ht,hu,vl];split at h
    · obtain⟨⟨e1,h0,ZE,hj,hi⟩,hK⟩:=h
      subst e1;have hp:l[i]? =some l[i]:=aV hi;have hK:=hK _ hp;have hpc:=(bQ l[i] (jR hi)).1;have hlen:=cz h0 bQ
      have hle:i*e8+e8<=l.length*e8:=by
       have:(i+1)*e8<=l.length*e8:=fC _ (by omega);rw[dB,Nat.one_mul] at this;exact this
      cases g with
      |true=>
       obtain⟨h1,h2⟩:=hK;refine⟨by omega,?_⟩
       have e:((bc l).drop (i*e8+j)).take s=((l[i].cells.drop j).take s).map .p:=by
        have:=ot h0 bQ i 1;(have e2:(l.drop i).take 1=[l[i]]:=by rw[gP hi];rfl);rw[e2,mJ,Nat.one_mul] at this;rw[<-List.drop_drop]
        have e3:(((bc l).drop (i*e8)).drop j).take s=((((bc l).drop (i*e8)).take e8).drop j).take s:=by
         rw[List.drop_take,List.take_take,Nat.min_eq_left (by omega)]
        rw[e3,this,List.map_take,List.map_drop]
       rw[e,Cm];exact lift.of h2
      |false=>
       simp only[qu] at hK;simp only[sI];split at hK
       · rename_i q hq
         rw[Cj h0 bQ hp (by omega),hq];exact lift.of hK
       · exact hK.elim
    · obtain⟨⟨rfl,rfl,rfl,rfl,rfl,rfl⟩,hK⟩:=h
      have hlen:=cz (by omega) bQ;refine⟨by omega,?_⟩
      have:((bc l).drop (0*1+0)).take l.length=(l.flatMap PV.cells).map .p:=by
       rw[bN (by simp;omega)];rfl
      rw[this,Cm];exact lift.of hK
  · exact h.elim
 |_=>exact qv ar ha h
theorem FU{t f:Nat}{x:AV}{K:AV->Prop}{v:ah}(hx:RV F μ w v x)(h:yE P t f x K):Qt P F μ w K (Instr.fieldAt t v f):=by
 cases x with
 |cr o sz i j=>
  refine(vw (K:=lift K) hx.un ?_).lift;simp only[yE] at h;split at h
  · rename_i off s g ht
    simp only[TH,DO,ht];exact⟨h.1,_,h.2,vo.cr (by omega)⟩
  · exact h.elim
 |_=>exact vw hx h
theorem DQ{x:AV}{K:AV->Prop}{v:ah}(hx:RV F μ w v x)(h:yF x K):∃av,K av/\RV F μ w v av/\DL v=true:=by
 cases x with
 |cr o sz i j=>
  refine⟨_,h,hx,?_⟩
  cases hx with|cr _ _ _ _ _ hx=>cases hx;rfl
 |_=>exact yx hx h
theorem Bc{s d:an}{x:AV}{K:AV->Prop}{v:ah}(ar:az F μ σ w)(hx:RV F μ w v x)(h:o5 P s d x σ K):Qt P F μ w K (convert s d v):=by
 cases x with
 |bo o sz i len=>
  refine(qx (K:=lift K) ar.un hx.un ?_).lift;simp only[o5] at h;split at h
  · rename_i hd
    obtain⟨⟨h1,rfl⟩,h⟩:=h;split at h
    · rename_i e8 l ho
      obtain⟨⟨rfl,hle⟩,q,hq,hK⟩:=h;have bQ:=mM ar ho;simp only[wB,DO,hd,mL ho,vl];refine⟨h1,trivial,by rw[cz (by omega) bQ];omega,q,?_,lift.of hK⟩;have hm:=ot (by omega) bQ i len;rw[Nat.mul_one] at hm ⊢;rw[Nat.mul_one] at hm;rw[hm];have:(l.drop i).take len=q.map (PV.int .u8):=uj hq;rw[this]
      have e:bc (q.map (PV.int .u8))=q.map λn=>AV.p (PV.int .u8 n):=by
       clear this hq hm hle bQ ho hK
       induction q with
       |nil=>rfl
       |cons n q ih=>rw[bE,<-List.singleton_append,cH,ih];rfl
      rw[e,RE]
    · exact h.elim
  · exact h.elim
 |_=>exact qx ar hx h
theorem FV{t:an}{x:AV}{v:ah}{lo hi mx:Option AV}{IJ FG A1:Option ah}{K:AV->Prop}(ar:az F μ σ w)(hx:RV F μ w v x)
 (Ba:match lo,IJ with|some x,some v=>RV F μ w v x|none,none=>True|_,_=>False) (Ik:match hi,FG with|some x,some v=>RV F μ w v x|none,none=>True|_,_=>False)
 (Fi:match mx,A1 with|some x,some v=>RV F μ w v x|none,none=>True|_,_=>False) (h:uv P t x lo hi mx σ K):Qt P F μ w K (Instr.sliceAt t v IJ FG A1):=by
 cases x with
 |bo o sz i len=>
  refine(r8 (K:=lift K) ar.un hx.un Ba Ik Fi ?_).lift;simp only[uv] at h;split at h
  · rename_i s g a b hE ha hb
    simp only[RB,DO,hE,ha,hb]
    cases mx with
    |none=>
     obtain⟨⟨rfl,h1,h2,h3⟩,hK⟩:=h;exact⟨⟨rfl,h1,h2,h3⟩,_,hK,vo.DP (by rw[dB])⟩
    |some m=>
     obtain⟨⟨rfl,h1,h2,h3⟩,h4,h5,hK⟩:=h;exact⟨⟨rfl,h1,h2,h3⟩,h4,h5,_,hK,vo.DP (by rw[dB])⟩
  · exact h.elim
 |cr o sz i j=>
  refine(r8 (K:=lift K) ar.un hx.un Ba Ik Fi ?_).lift;simp only[uv] at h;split at h
  · rename_i n s g e8 l hE hA ho
    split at h
    · rename_i a b ha hb
      obtain⟨⟨rfl,rfl,h0,rfl,rfl,rfl,h1,h2,h3,h4⟩,hK⟩:=h;have bQ:=mM ar ho;simp only[RB,DO,hA,mL ho,vl,ha,hb];refine⟨⟨h2,h3,h4⟩,⟨by rw[cz h0 bQ];omega,h1⟩,_,hK,vo.DP (by omega)⟩
    · exact h.elim
  · exact h.elim
 |_=>exact r8 ar hx Ba Ik Fi h
theorem uw{x:AV}{t ty:an}{v:ah}{K:AV->Prop}(hx:RV F μ w v x)(h:vB x P t K):Qt P F μ w K (gm #[t] ty #[v]):=by
 cases x with
 |bo o sz i len=>exact(td (K:=lift K) hx.un (by simp only[FA,DO];exact⟨h.1,lift.of h.2⟩)).lift
 |_=>exact td hx h
end
end Go.Sg
namespace Go.Sg
open Go
theorem cells_one{p:PV}(h:p.one=true):p.cells=[p]:=by cases p<;>first|rfl|cases h
theorem KO(c:PV):(AV.p c).one=c.one:=by cases c<;>rfl
theorem ow:∀{l:List PV},(∀c∈l,c.one=true)->bc l=l.map .p
 |[],_=>rfl
 |c::r,h=>by
  rw[<-List.singleton_append,cH,mJ,cells_one (h c (by simp)),ow λx hx=>h x (by simp[hx])];rfl
theorem o6{l:List PV}(h:∀c∈l,c.one=true):eh 1 l:=λc hc=>by
 have:=cells_one (h c hc);exact⟨by rw[this];rfl,by rw[this];intro x hx;simp at hx;subst hx;exact h _ hc⟩
theorem oz{sz:Nat}{z:PV}(h:xY sz z)(n:Nat):eh sz (ck n z):=λp hp=>by
 rw[(List.mem_replicate.1 hp).2];exact h
theorem US{a b:PV}(h:eqS a b=true):b=a:=by
 unfold eqS at h;split at h
 · simp at h;rw[h.1,h.2]
 · simp at h;rw[h]
 · cases h
theorem Mr{P:au}{t:an}{n:Nat}{z0:PV}(h:RS P t=some (n,z0)):tZ P t=some (ck n z0)/\z0.one=true/\tA P t=some (n,1,false):=by
 unfold RS at h;split at h
 · rename_i n' z r h1 h2
   split at h
   · rename_i hc
     obtain⟨h3,h4,h5⟩:=hc;injection h with h;injection h with e1 e2;subst e1;subst e2;refine⟨?_,h5,h1⟩;rw[h2];congr 1;subst h3;have:∀x∈r,x=z:=λx hx=>US (cG.1 h4 x hx);have hr:r=ck r.length z:=List.eq_replicate_iff.2 ⟨rfl,this⟩;rw[List.replicate_succ,<-hr]
   · cases h
 · cases h
theorem sL:∀(vs cs:List PV) (off:Nat),(mK cs off vs).length=cs.length
 |[],_,_=>rfl
 |v::r,cs,off=>by rw[mK,sL r];simp
theorem yG:∀(vs cs:List PV) (off:Nat),(mK cs off vs).map AV.p=cO (cs.map .p) off (vs.map .p)
 |[],_,_=>rfl
 |v::r,cs,off=>by rw[mK,yG r,bE,cO,List.map_set]
theorem yH:∀(vs cs:List PV) (off:Nat) (x:PV),x∈mK cs off vs->x∈cs\/x∈vs
 |[],_,_,_,h=>.inl h
 |v::r,cs,off,x,h=>by
  rcases yH r _ _ x h with h'|h'
  · rcases List.mem_or_eq_of_mem_set h' with h''|h''
    · exact .inl h''
    · exact .inr (by simp[h''])
  · exact .inr (by simp[h'])
theorem DR{sz:Nat}(h0:0<sz){l cs vs:List PV}(h:eh sz l){i j:Nat}(hp:l[i]? =some (.agg cs))(hj:j+vs.length<=sz):
 cO (bc l) (i*sz+j) (vs.map .p)=bc (l.set i (.agg (mK cs j vs))):=by
 have hi:i<l.length:=(aq.1 hp).1;have jH:cs.length=sz:=(h _ (aO hp)).1;have hlen:=cz h0 h
 have hle:i*sz+sz<=l.length*sz:=by
  have:(i+1)*sz<=l.length*sz:=fC _ (by omega);rw[dB,Nat.one_mul] at this;exact this
 have e1:l.set i (.agg (mK cs j vs))=l.take i++[PV.agg (mK cs j vs)]++l.drop (i+1):=(yD l i _ hi).symm;rw[e1,cH,cH,mJ];have e2:(PV.agg (mK cs j vs)).cells.map AV.p=cO (cs.map .p) j (vs.map .p):=yG vs cs j;rw[e2,mu _ _ _ (by simp;omega),mu _ _ _ (by simp;omega),<-mq h0 h,<-mr h0 h]
 have Xh:((bc l).drop (i*sz)).take sz=cs.map .p:=by
  have:=ot h0 h i 1
  have e3:(l.drop i).take 1=[.agg cs]:=by
   rw[gP hi];(have:l[i]= .agg cs:=by rw[aV hi] at hp;injection hp);rw[this];rfl
  rw[e3,mJ,Nat.one_mul] at this;exact this
 have e4:(bc l).take (i*sz+j)=(bc l).take (i*sz)++(cs.map AV.p).take j:=by
  rw[<-Xh,List.take_take,Nat.min_eq_left (by omega),List.take_add]
 have e5:(bc l).drop (i*sz+j+(vs.map AV.p).length)=(cs.map AV.p).drop (j+(vs.map AV.p).length)++(bc l).drop ((i+1)*sz):=by
  rw[<-Xh,ak,dB,Nat.one_mul];(have a1:(bc l).drop (i*sz+j+vs.length)=((bc l).drop (i*sz)).drop (j+vs.length):=by rw[List.drop_drop,Nat.add_assoc]);(have a2:(bc l).drop (i*sz+sz)=((bc l).drop (i*sz)).drop sz:=by rw[List.drop_drop]);rw[a1,a2];generalize (bc l).drop (i*sz)=r;(have a3:r.drop (j+vs.length)=(r.take sz++r.drop sz).drop (j+vs.length):=by rw[mD]);rw[a3];by_cases hr:sz<=r.length
  · rw[List.drop_append_of_le_length (by simp;omega)]
  · rw[List.drop_append]
    congr 1;rw[List.drop_of_length_le (l:=r) (by omega)];simp
 rw[e4,e5];simp[ky]
theorem FW{z:List PV}{s n:Nat}(h:z.length=s):(ey z n).length=n*s:=by
 unfold ey;split
 · simp at h;simp[<-h]
 · subst h
   induction n with
   |zero=>simp
   |succ n ih=>rw[List.replicate_succ,List.flatten_cons,fk,ih,dB];simp;omega
theorem qL:∀{k:Nat} {parts:List (Nat×AV)} {sE:List PV},kM k parts=some sE->parts=(sE.zipIdx k).map λx=>(x.2,AV.p x.1)
 |k,[],sE,h=>by simp[kM] at h;subst h;rfl
 |k,(j,a)::r,sE,h=>by
  cases a with
  |p v=>
   simp only[kM] at h;split at h
   · rename_i e
     split at h
     · rename_i q hq
       injection h with h;subst h;subst e;rw[qL hq];rfl
     · cases h
   · cases h
  |_=>simp[kM] at h
section
variable{P:au}{F:Nat->Prop}{μ:aN}{σ:ab}{w:aj}{nid:Nat}{K:AV->ab->Prop}
def Xi(K:AV->ab->Prop)(v:AV)(us:ab):Prop:=∃v' eu,K v' eu/\vo v v'/\us=qG eu/\ ∀x∈eu,RQ x.2
theorem eZ.lift{s:Sem ah}(ar:az F μ σ w)(h:eZ P F μ (qG σ) w nid (Xi K) s):eZ P F μ σ w nid K s:=by
 obtain⟨av,us,v,w',F',μ',⟨v',eu,h1,h2,h3,h4⟩,h5,h6,h7,h8,h9⟩:=h;subst h3;exact⟨v',eu,v,w',F',μ',h1,h5,h6,ar.re h7 h4,h2 _ _ _ _ h8,h9⟩
theorem yI{t:an}{old:ah}(ar:az F μ σ w)(hn:μ nid=none)(h:ou P t nid K):eZ P F μ σ w nid K (Instr.alloc t true old):=by
 unfold ou at h;split at h
 · rename_i n z0 ht
   obtain⟨hz,DM,_⟩:=Mr ht;refine eZ.lift ar (o0 ar.un hn ?_);simp only[qA,hz];have pS:∀c∈ck n z0,c.one=true:=λc hc=>by rw[(List.mem_replicate.1 hc).2];exact DM
   exact⟨_,_,h,vo.cr (by omega),by simp only[qG,bE,dw,vl,ow pS],λx hx=>by
    simp at hx;subst hx;exact o6 pS⟩
 · exact o0 ar hn h
theorem DS{t:an}{x:AV}{v:ah}(ar:az F μ σ w)(hn:μ nid=none)(hx:RV F μ w v x)(h:vD P t x nid K):eZ P F μ σ w nid K (Instr.box t v):=by
 unfold vD at h;split at h
 · split at h
   · rename_i cs
     obtain⟨pS,hK⟩:=h;refine eZ.lift ar (tg ar.un hn hx ⟨rfl,_,_,hK,vo.cr (by omega),?_,λx hx=>?_⟩)
     · simp only[qG,bE,dw,vl,ow pS];rfl
     · simp at hx;subst hx;exact o6 pS
   · exact h.elim
 · exact tg ar hn hx h
theorem Ms{v:PV}:(AV.p v).cells=v.cells.map .p:=by cases v<;>rfl
theorem mN{t:an}{a x:AV}{va v:ah}(ar:az F μ σ w)(ha:RV F μ w va a)(hx:RV F μ w v x)(h:gC P t a x σ K):
 ∃us w',K db us/\(Instr.storeAt t va v).run P w= .ok () w'/\Step F μ w F μ w'/\az F μ (us++σ) w':=by
 cases a with
 |cr o sz i j=>
  have go:mI P t (DO (.cr o sz i j)) x (qG σ) (λv us=>v=db/\ ∃eu,K db eu/\us=qG eu/\ ∀x∈eu,RQ x.2):=by
   simp only[gC] at h;split at h
   · rename_i v
     split at h
     · rename_i s g e8 l ht ho
       have bQ:=mM ar ho;simp only[mI,DO,ht,mL ho,vl,Ms];split at h
       · rename_i hd
         obtain rfl:=of_decide_eq_true hd;obtain⟨⟨rfl,h0,rfl,hi,hv⟩,hK⟩:=h;have hlen:=cz h0 bQ
         have hle:i*e8+e8<=l.length*e8:=by
          have:(i+1)*e8<=l.length*e8:=fC _ (by omega);rw[dB,Nat.one_mul] at this;exact this
         refine⟨⟨by first|trivial|rfl,by simp[hv.1],by omega,λc hc=>?_⟩,by first|trivial|rfl,_,hK,?_,?_⟩
         · obtain⟨c',Rw,rfl⟩:=aY.1 hc
           rw[KO];exact hv.2 c' Rw
         · simp only[qG,bE,dw,vl,Nat.add_zero,OC h0 bQ hv i hi]
         · intro y hy;simp at hy;subst hy;exact bQ.set i hv
       · rename_i Be IM
         have hs:=of_decide_eq_true IM;obtain⟨⟨rfl,h0,hj,hi,hv⟩,hK⟩:=h;have hK:=hK _ (aV hi);split at hK
         · rename_i cs jH
           (have hp:l[i]? =some (.agg cs):=by rw[aV hi,jH]);have hlen:=cz h0 bQ
           have hle:i*e8+e8<=l.length*e8:=by
            have:(i+1)*e8<=l.length*e8:=fC _ (by omega);rw[dB,Nat.one_mul] at this;exact this
           refine⟨⟨by first|trivial|rfl,by simp[hv.1],by omega,λc hc=>?_⟩,by first|trivial|rfl,_,hK,?_,?_⟩
           · obtain⟨c',Rw,rfl⟩:=aY.1 hc
             rw[KO];exact hv.2 c' Rw
           · simp only[qG,bE,dw,vl]
             rw[DR h0 bQ hp (by rw[hv.1];exact hj)]
           · intro y hy;simp at hy;subst hy
             have Xj:=bQ _ (aO hp);refine bQ.set i ⟨by simp only[PV.cells,sL];exact Xj.1,λc hc=>?_⟩;rcases yH _ _ _ _ hc with h'|h'
             · exact Xj.2 c h'
             · exact hv.2 c h'
         · exact hK.elim
       · split at h
         · rename_i cs
           obtain⟨⟨rfl,rfl,rfl,rfl,rfl,sJ,pS⟩,hK⟩:=h;have hlen:=cz (by omega) bQ;refine⟨⟨by first|trivial|rfl,by simp[PV.cells,sJ],by omega,λc hc=>?_⟩,by first|trivial|rfl,_,hK,?_,?_⟩
           · obtain⟨c',Rw,rfl⟩:=aY.1 hc
             rw[KO];exact pS c' Rw
           · simp only[qG,bE,dw,vl,PV.cells]
             rw[mu _ _ _ (by simp;omega),ow pS];simp only[Nat.zero_mul,Nat.add_zero,List.take_zero,jn,gQ,ak];rw[List.drop_of_length_le (by omega),ib]
           · intro y hy;simp at hy;subst hy;exact o6 pS
         · exact h.elim
     · exact h.elim
   · exact h.elim
  obtain⟨us,w',⟨_,eu,h1,rfl,h2⟩,h3,h4,h5⟩:=o3 (P:=P) ar.un ha.un hx go;exact⟨eu,w',h1,h3,h4,ar.re h5 h2⟩
 |_=>exact o3 ar ha hx (Mq h)
theorem lY{t:an}{len:Nat}{parts:List (Nat×AV)}{vs:List (Nat×ah)}(ar:az F μ σ w)(hn:μ nid=none)(hl:vs.length=parts.length)
 (hp:∀(i:Nat) p,parts[i]? =some p->∃v,vs[i]? =some (p.1,v)/\RV F μ w v p.2) (h:eD P t len parts nid K):eZ P F μ σ w nid K (Instr.buildSlice t len vs.toArray):=by
 unfold eD at h;split at h
 · rename_i sE hv
   split at h
   · rename_i hd
     have hd:=of_decide_eq_true hd;split at h
     · rename_i s g z hE hz
       obtain⟨⟨h1,h2,h3,h4⟩,hK⟩:=h;refine eZ.lift ar (gR ar.un hn hl hp ?_);simp only[fF,hE,hz];have Ce:(ey z len).length=len*s:=FW h1;have hf:=Ck h2 sE 0 (ey z len) h4 (by rw[Ce,hd,gQ];exact aX _);rw[qL hv,hf];refine⟨⟨h1,h2,h3⟩,_,_,hK,vo.DP (by omega),?_,λx hx=>by simp at hx;subst hx;exact h4⟩;simp only[qG,bE,dw,vl,Nat.zero_mul,List.take_zero,jn,gQ];rw[List.drop_of_length_le (by rw[Ce,hd];exact aX _),ib]
     · exact h.elim
   · exact gR ar hn hl hp h
 · exact gR ar hn hl hp h
theorem Bf{t:an}{n c:AV}{vn vc:ah}(ar:az F μ σ w)(bH:μ nid=none)(hn:RV F μ w vn n)(hc:RV F μ w vc c)(h:sa P t n c nid K):eZ P F μ σ w nid K (Instr.makeSlice t vn vc):=by
 unfold sa at h;split at h
 · rename_i k1 n k2 c s g z bt hE hz hb
   obtain⟨⟨h1,h2,h3,h4,h5⟩,⟨h6,h7,h8⟩,hK⟩:=h;refine eZ.lift ar (oo ar.un bH hn hc ?_);simp only[jo,hE,hz,hb];refine⟨⟨h3,h4,h6,h7,h8,h5⟩,_,_,hK,vo.DP (by omega),?_,λx hx=>by simp at hx;subst hx;exact oz h1 _⟩;simp only[qG,bE,dw,vl];rw[ig z g _ _ h2]
 · exact h.elim
theorem Cn{x:AV}{s:Nat}{v:ah}{Kn:Nat->List PV->Prop}(h0:0<s)(ar:az F μ σ w)(hx:RV F μ w v x)(h:lP x s σ Kn):
 mc (DO x) s (qG σ) λn new=>∃l,new=bc l/\eh s l/\l.length=n/\Kn n l:=by
 unfold lP at h;split at h
 · rename_i sz c l
   obtain⟨h1,hK⟩:=h;refine⟨h1,l,rfl,?_,rfl,hK⟩;intro p hp;rcases h1 with rfl|rfl
   · cases hx.bG with
     |r5 a cap sz clip e1 e2 e3=>simp at hp
     |sl b off len cap sz clip l cv hb hl h3 h4 h5 h6 h7 h8=>
      obtain⟨i,hi,rfl⟩:=lM hp;exact h6 i _ (aV hi)
   · simp at hp
 · rename_i o sz i n
   obtain⟨rfl,h⟩:=h;split at h
   · rename_i e8 l ho
     obtain⟨⟨rfl,hle⟩,hK⟩:=h;have bQ:=mM ar ho;simp only[mc,DO,mL ho,vl];refine⟨trivial,?_,_,ot h0 bQ i n,(bQ.drop i).take n,by simp;omega,hK⟩;rw[cz h0 bQ,<-dB];exact fC _ hle
   · exact h.elim
 · rename_i b
   obtain⟨rfl,hK⟩:=h
   have pS:∀c∈(b.data.toList.map λu=>PV.int .u8 u.toNat),c.one=true:=λc hc=>by
    obtain⟨u,_,rfl⟩:=aY.1 hc;rfl
   simp only[mc,DO];refine⟨trivial,_,?_,o6 pS,by rw[ak,Array.length_toList];rfl,hK⟩;rw[ow pS,List.map_map];rfl
 · exact h.elim
theorem ux{s:Nat}{l:List PV}(h:eh s l)(c:AV)(hc:c∈bc l):c.one=true:=by
 simp only[bc,aY,List.mem_flatMap] at hc;obtain⟨q,⟨p,hp,hq⟩,rfl⟩:=hc;rw[KO];exact(h p hp).2 q hq
theorem sb{x:AV}{s:Nat}{Kn OF:Nat->List AV->Prop}(h:mc x s σ Kn)(hk:∀n new,Kn n new->OF n new):mc x s σ OF:=by
 unfold mc at *;split at h
 · exact⟨h.1,hk _ _ h.2⟩
 · refine⟨h.1,?_⟩
   have h2:=h.2;split at h2
   · exact⟨h2.1,hk _ _ h2.2⟩
   · exact h2.elim
 · exact⟨h.1,hk _ _ h.2⟩
 · exact h.elim
theorem vF{x:AV}{s:Nat}{Kn:Nat->List AV->Prop}(h:mc x s σ Kn):mc x s σ λn new=>Kn n new/\mc x s σ λn' _=>n'=n:=by
 unfold mc at *;split at h
 · exact⟨h.1,h.2,h.1,rfl⟩
 · rename_i o sz off n
   obtain⟨h1,h2⟩:=h;subst h1
   cases ho:σ.get o with
   |cells cs=>simp only[ho] at h2 ⊢;exact⟨trivial,h2.1,h2.2,trivial,h2.1,trivial⟩
   |_=>simp only[ho] at h2
 · exact⟨h.1,h.2,h.1,rfl⟩
 · exact h.elim
theorem Co{x:AV}{s:Nat}{Kn:Nat->List PV->Prop}(h:lP x s σ Kn):∃n l,Kn n l:=by
 unfold lP at h;split at h
 · exact⟨_,_,h.2⟩
 · have h2:=h.2
   split at h2
   · exact⟨_,_,h2.2⟩
   · exact h2.elim
 · exact⟨_,_,h.2⟩
 · exact h.elim
theorem lQ{t xt ty:an}{a x:AV}{va vx:ah}(ar:az F μ σ w)(bH:μ nid=none)(ha:RV F μ w va a)(hx:RV F μ w vx x)(h:fW P t xt a x σ nid K):
 eZ P F μ σ w nid K (dM #[t,xt] ty #[va,vx]):=by
 unfold fW at h;split at h
 · exact lq ar bH ha hx h
 · split at h
   · rename_i s g z bt hE hz hb
     obtain⟨⟨h1,h2,h3,h4⟩,h⟩:=h;have IN:=Cn h2 ar hx h
     cases a with
     |bo o sz i len=>
      by_cases FX:mc (DO x) s (qG σ) λn _=>n=0
      · obtain⟨n,new,⟨⟨l',e1,e2,e3,hk⟩,iO⟩,hlen,vj,RL⟩:=ic (P:=P) h2 ar.un hx.un (vF IN)
        have Mo:n=0:=by
         have:=vF FX
         have h5:∀{x:AV} {s:Nat} {σ:ab} {n:Nat},mc x s σ (λn' _=>n'=n)->mc x s σ (λn' _=>n'=0)->n=0:=by
          intro x s σ n ha hb;unfold mc at ha hb;split at ha
          · exact ha.2.symm.trans hb.2
          · have RH:=ha.2
            have wF:=hb.2;split at RH
            · rename_i jH;simp only[jH] at wF;exact RH.2.symm.trans wF.2
            · exact RH.elim
          · exact ha.2.symm.trans hb.2
          · exact ha.elim
         exact h5 iO FX
        subst Mo;have Ml:l'=[]:=qn.1 e3;subst Ml;simp only at hk;split at hk
        · rename_i e8 l ho
          obtain⟨⟨rfl,rfl,rfl,rfl,Mn⟩,hK⟩:=hk;obtain⟨e,hu,hs,_⟩:=og hE hz
          cases ha with
          |bo _ _ _ _ _ ha=>
          cases ha with
          |dJ o sz off bL len cap b t' n' lO gX pQ r7 tX qe=>
          (have hd:σ.get o≠ .dead:=by rw[ho];simp);have xD:=ar.obj o b lO;rw[ho] at xD;have cu:=(ar.renew bH rfl hd lO .dead trivial).1;obtain⟨k1,k2⟩:=ar.renew bH rfl hd lO (.row e8 (l++[])) (by rw[ib];exact xD.step cu rfl λc hc=>⟨hc,rfl⟩)
          have l9:bL=0\/cap=0:=by rcases gX with h'|h'<;>omega
          obtain⟨cells,c1,c2,_⟩:=RL 0 (aX _);(have FN:cells= #[]:=by apply lW;omega);subst FN;have Q3:=c1 w (λ_ _=>rfl);refine⟨_,_,.slice (some ⟨b,bL,none⟩) (l.length+0) cap,w,F,_,hK,?_,k1,k2,.bo _ _ _ _ _ (.dJ _ _ _ _ _ _ _ t' n' (aN.jc _ _ _) ?_ pQ r7 tX qe),λo ho=>if_neg ho⟩
          · rw[run_append_fits hu hs h4 hlen (by omega),Q3]
            simp[storeCells]
          · rcases gX with h'|h'
            · exact .inl h'
            · exact .inr h'
        · exact hk.elim
      · refine eZ.lift ar (lq ar.un bH ha.un hx.un ?_)
        simp only[jm,DO,hE,hz,hb];refine⟨⟨h1,h2,h3,h4⟩,sb (vF IN) λn new ⟨⟨l',e1,e2,e3,hk⟩,iO⟩=>?_⟩;subst e1;simp only at hk;split at hk
        · rename_i e8 l ho
          obtain⟨⟨rfl,rfl,rfl,rfl,Mn⟩,hK⟩:=hk;have bQ:=mM ar ho;rw[mL ho];simp only[vl];refine⟨⟨by first|trivial|rfl,by omega,by rw[cz h2 bQ],Mn,λc hc=>ux e2 c hc⟩,λhn=>absurd ?_ FX,λhn=>⟨_,_,hK,vo.DP (by omega),?_,λy hy=>?_⟩⟩
          · subst hn;exact iO
          · simp only[qG,bE,dw,vl,cH]
          · simp at hy
            rcases hy with rfl|rfl
            · exact bQ.append e2
            · trivial
        · exact hk.elim
     |p q=>
      cases q with
      |sl sz c l=>
       refine eZ.lift ar (lq ar.un bH ha (hx.un) ?_);simp only[jm,hE,hz,hb];refine⟨⟨h1,h2,h3,h4⟩,sb IN λn new ⟨l',e1,e2,e3,hk⟩=>?_⟩;subst e1;obtain⟨hc,TT,vp⟩:=hk;refine⟨hc,λhn=>⟨_,[],TT hn,vo.refl _,rfl,by simp⟩,λhn=>⟨_,_,vp hn,vo.DP (by omega),?_,λx hx=>?_⟩⟩
       · simp only[qG,bE,dw,vl,cH];rfl
       · simp at hx;subst hx
         refine eh.append ?_ e2;intro p hp;rcases hc.2.1 with rfl|rfl
         · cases ha.bG with
           |r5 a cap sz clip e1 e2 e3=>simp at hp
           |sl b off len cap sz clip l cv hb hl h3 h4 h5 h6 h7 h8=>
            obtain⟨i,hi,rfl⟩:=lM hp;exact h6 i _ (aV hi)
         · simp at hp
      |_=>obtain⟨_,_,hf⟩:=Co h;exact hf.elim
     |_=>obtain⟨_,_,hf⟩:=Co h;exact hf.elim
   · exact h.elim
theorem nS{t xt ty:an}{a x:AV}{va vx:ah}(ar:az F μ σ w)(ha:RV F μ w va a)(hx:RV F μ w vx x)(h:me P t a x σ K):eZ P F μ σ w nid K (jO #[t,xt] ty #[va,vx]):=by
 cases a with
 |bo o sz i len=>
  simp only[me] at h;split at h
  · rename_i s g hE
    obtain⟨h0,h⟩:=h;have IN:=Cn h0 ar hx h;refine eZ.lift ar (nD ar.un ha.un hx.un ?_);simp only[uo,DO,hE];refine⟨h0,sb IN λn new ⟨l',e1,e2,e3,hk⟩=>?_⟩;subst e1;split at hk
    · rename_i e8 l ho
      obtain⟨⟨rfl,rfl,hle⟩,hK⟩:=hk;have bQ:=mM ar ho;rw[mL ho];simp only[vl];have hlen:=cz h0 bQ;rw[mq h0 e2];(have kl:(l'.take (min n len)).length=min n len:=by simp;omega);refine⟨⟨trivial,by rw[hlen,<-dB];exact fC _ hle,λc hc=>ux (e2.take _) c hc⟩,_,_,hK,vo.refl _,?_,λy hy=>?_⟩
      · simp only[qG,bE,dw,vl]
        rw[qF h0 bQ (e2.take _) i (by rw[kl];omega),kl]
      · obtain rfl:=List.mem_singleton.1 hy
        show eh e8 (l.take i++l'.take (min n len)++l.drop (i+min n len));exact(eh.append (bQ.take _) (e2.take _)).append (bQ.drop _)
    · exact hk.elim
  · exact h.elim
 |_=>exact nD ar ha hx h
end
end Go.Sg
namespace Go.Sg
open Go
section
variable{P:au}{F:Nat->Prop}{μ:aN}{σ:ab}{w:aj}{nid:Nat}
theorem FY{o:Oper}{ev:aL->AV}{a:aL->ah}{K:AV->Prop}(ar:az F μ σ w)(aR:∀x,RV F μ w (a x) (ev x))(h:xQ P o.op ev σ K):TK P F μ w K (execOp a o):=by
 obtain⟨dst,op,ty,pos,after,guard⟩:=o;cases op<;>simp only[xQ] at h
 case load t x=>exact(sK ar (aR x) h).next
 case nilCheck x=>
  obtain⟨av,h1,h2,h3⟩:=DQ (aR x) h;refine⟨av,a x,h1,h2,λw' _=>?_⟩;simp only[execOp];revert h3;generalize a x=v;intro h3;unfold DL at h3;split at h3<;>first|rfl|cases h3
 case fieldAddr t x f=>exact(FU (aR x) h).next
 case indexAddr t x i=>exact(FT (aR x) (aR i) h).next
 case convert s d x=>exact(Bc ar (aR x) h).next
 case slice t x lo hi mx=>exact(FV ar (aR x) (oZ aR) (oZ aR) (oZ aR) h).next
 case call c=>
  obtain⟨callee,args,ats⟩:=c
  cases callee with
  |builtin b=>
   cases b with
   |len=>
    simp only[] at h;split at h
    · rename_i x t hx ht
      (have dk:args= #[x]:=by apply gz;simpa using hx);subst dk;have:=(uw (t:=t) (ty:=ty) (aR x) h).next;(have e:gm ats ty #[a x]=gm #[t] ty #[a x]:=by simp only[gm,ht];rfl);have e2:execOp a { dst:=dst,op:= .call { callee:= .builtin .len,args:= #[x],argTypes:=ats },type:=ty,pos:=pos,after:=after,guard:=guard } =(do pure (.value (<-gm ats ty (#[x].map a)))):=rfl;rw[e2];(have e3: #[x].map a= #[a x]:=by simp);rw[e3,e];exact this
    · exact h.elim
   |_=>exact yy ar aR h
  |_=>exact yy ar aR h
 all_goals exact yy ar aR h
theorem OG{o:Oper}{ev:aL->AV}{a:aL->ah}{K:AV->ab->Prop}(ar:az F μ σ w)(bH:μ nid=none)(aR:∀x,RV F μ w (a x) (ev x))(h:xW P o.op ev σ nid K):Ci P F μ σ w nid K (execOp a o):=by
 obtain⟨dst,op,ty,pos,after,guard⟩:=o
 have yB:∀(parts:Array (Nat×aL)),(∀(i:Nat) p,(parts.toList.map λy=>(y.1,ev y.2))[i]? =some p->∃v,(parts.toList.map λy=>(y.1,a y.2))[i]? =some (p.1,v)/\RV F μ w v p.2):=λparts i p hp=>by
  simp only[aW,cm] at hp;obtain⟨y,hy,rfl⟩:=hp;exact⟨a y.2,by simp[hy],aR y.2⟩
 cases op<;>simp only[xW] at h
 case alloc t=>exact(yI (old:= .tuple #[]) ar bH h).next
 case box t x=>exact(DS (t:=t) ar bH (aR x) h).next
 case store t x y=>
  obtain⟨us,w',h1,h2,h3,h4⟩:=mN (P:=P) ar (aR x) (aR y) h;refine⟨db,us,undef,w',F,μ,h1,.inr ⟨?_,rfl⟩,h3,h4,.p (.bR _ _ rfl (by simp)),λ_ _=>rfl⟩;simp[execOp,h2]
 case buildSlice t n parts=>
  have:=lY (P:=P) (F:=F) (μ:=μ) (w:=w) (K:=K) (t:=t) (len:=n) (parts:=parts.toList.map λy=>(y.1,ev y.2)) (vs:=parts.toList.map λy=>(y.1,a y.2)) ar bH (by simp) (yB parts) h
  have e:(parts.map λ(i,x)=>(i,a x))=(parts.toList.map λy=>(y.1,a y.2)).toArray:=by
   apply gz;simp
  simp only[execOp];rw[e];exact this.next
 case makeSlice t n c=>exact(Bf ar bH (aR n) (aR c) h).next
 case call c=>
  obtain⟨callee,args,ats⟩:=c
  have UR:∀{t xt:an},ats[0]? =some t->ats[1]? =some xt-> ∀(yC:Array ah) (ty:an),dM ats ty yC=dM #[t,xt] ty yC:=λh1 h2 yC ty=>by
   simp only[dM,h1,h2];rfl
  split at h
  · rename_i x y t xt hc er h1 h2
    simp only at hc er h1 h2;subst hc;(have dk:args= #[x,y]:=by apply gz;simpa using er);subst dk;have:=(lQ (ty:=ty) ar bH (aR x) (aR y) h).next;have e:execOp a { dst:=dst,op:= .call { callee:= .builtin .append,args:= #[x,y],argTypes:=ats },type:=ty,pos:=pos,after:=after,guard:=guard } =(do pure (.value (<-dM ats ty (#[x,y].map a)))):=rfl;rw[e,UR h1 h2];simpa using this
  · rename_i x y t hc er h1
    simp only at hc er h1;subst hc;(have dk:args= #[x,y]:=by apply gz;simpa using er);subst dk;have:=(nS (nid:=nid) (xt:=0) (ty:=ty) ar (aR x) (aR y) h).next;have e:execOp a { dst:=dst,op:= .call { callee:= .builtin .copy,args:= #[x,y],argTypes:=ats },type:=ty,pos:=pos,after:=after,guard:=guard } =(do pure (.value (<-jO ats ty (#[x,y].map a)))):=rfl
    have e2:jO ats ty (#[x,y].map a)=jO #[t,0] ty #[a x,a y]:=by
     simp only[jO,h1,List.map_toArray,bE,dw];rfl
    rw[e,e2];exact this
  · exact h.elim
 all_goals exact OB ar bH aR h
end
end Go.Sg
namespace Go.Sg
open Go
mutual
def gY(f:Nat->Nat):AV->AV
 |.ptr o off=>.ptr (f o) off
 |.dJ o sz off len=>.dJ (f o) sz off len
 |.bo o sz i len=>.bo (f o) sz i len
 |.jb o sz i len cap=>.jb (f o) sz i len cap
 |.cr o sz i j=>.cr (f o) sz i j
 |.mp o=>.mp (f o)
 |.ch o=>.ch (f o)
 |.agg cs=>.agg (tn f cs)
 |.bR cs=>.bR (tn f cs)
 |.fn g a b=>.fn g (tn f a) (tn f b)
 |.any=>.any
 |.p v=>.p v
def tn(f:Nat->Nat):List AV->List AV
 |[]=>[]
 |a::r=>gY f a::tn f r
end
theorem fX(f:Nat->Nat):∀l:List AV,tn f l=l.map (gY f)
 |[]=>rfl
 |a::r=>by rw[tn,fX f r];rfl
def UT(f:Nat->Nat):MV->MV
 |.h l=>.h l
 |.v a=>.v (gY f a)
def gD(f:Nat->Nat):bJ->bJ
 |.cN ks sz m=>.cN ks sz (m.map λx=>(x.1,UT f x.2))
 |.cells cs=>.cells (tn f cs)
 |.map ks m=>.map ks m
 |x=>x
section
variable{P:au}{F:Nat->Prop}{μ μ':aN}{w:aj}{f:Nat->Nat}
theorem RV.uy(h:∀o b,μ o=some b->μ' (f o)=some b){v:ah}{a:AV}(hr:RV F μ w v a):RV F μ' w v (gY f a):=by
 induction hr with
 |any v=>exact .any v
 |p hp=>exact .p hp
 |ptr o off b hb=>exact .ptr _ off b (h o b hb)
 |dJ o sz off bL len cap b t n h1 h0 h2 h3 h4 h5=>exact .dJ _ sz off bL len cap b t n (h o b h1) h0 h2 h3 h4 h5
 |bo o sz i len v _ ih=>exact .bo _ sz i len v ih
 |jb o sz i len cap base _ ih=>exact .jb _ sz i len cap base ih
 |cr o sz i j v _ ih=>exact .cr _ sz i j v ih
 |mp o b hb=>exact .mp _ b (h o b hb)
 |ch o b hb=>exact .ch _ b (h o b hb)
 |agg cs l h1 _ ih=>
  simp only[gY,fX];refine .agg cs _ (by simpa using h1) λi p hp=>?_;simp only[aW,cm] at hp;obtain⟨q,hq,rfl⟩:=hp;exact ih i q hq
 |bR cs l h1 _ ih=>
  simp only[gY,fX];refine .bR cs _ (by simpa using h1) λi p hp=>?_;simp only[aW,cm] at hp;obtain⟨q,hq,rfl⟩:=hp;exact ih i q hq
 |fn g as bs ls ms h1 h2 _ _ i1 i2=>
  simp only[gY,fX];refine .fn g as bs _ _ (by simpa using h1) (by simpa using h2) (λi p hp=>?_) (λi p hp=>?_)
  · simp only[aW,cm] at hp
    obtain⟨q,hq,rfl⟩:=hp;exact i1 i q hq
  · simp only[aW,cm] at hp
    obtain⟨q,hq,rfl⟩:=hp;exact i2 i q hq
theorem RV.tp(h:∀o b,μ (f o)=some b->μ' o=some b){v:ah}{x:AV}(hr:RV F μ w v x):∀{a:AV},x=gY f a->RV F μ' w v a:=by
 induction hr with
 |any v=>intro a e;cases a<;>simp only[gY] at e<;>first|exact .any v|cases e
 |p hp=>intro a e;cases a<;>simp only[gY] at e<;>first|(injection e with e;subst e;exact .p hp)|cases e
 |ptr o off b hb=>intro a e;cases a<;>simp only[gY] at e<;>first|(injection e with e1 e2;subst e1;subst e2;exact .ptr _ _ b (h _ b hb))|cases e
 |dJ o sz off bL len cap b t n h1 h0 h2 h3 h4 h5=>
  intro a e;cases a<;>simp only[gY] at e<;>first|(injection e with e1 e2 e3 e4;subst e1;subst e2;subst e3;subst e4;exact .dJ _ _ _ bL _ cap b t n (h _ b h1) h0 h2 h3 h4 h5)|cases e
 |bo o sz i len v _ ih=>intro a e;cases a<;>simp only[gY] at e<;>first|(injection e with e1 e2 e3 e4;subst e1;subst e2;subst e3;subst e4;exact .bo _ _ _ _ v (ih rfl))|cases e
 |jb o sz i len cap base _ ih=>intro a e;cases a<;>simp only[gY] at e<;>first|(injection e with e1 e2 e3 e4 e5;subst e1;subst e2;subst e3;subst e4;subst e5;exact .jb _ _ _ _ _ base (ih rfl))|cases e
 |cr o sz i j v _ ih=>intro a e;cases a<;>simp only[gY] at e<;>first|(injection e with e1 e2 e3 e4;subst e1;subst e2;subst e3;subst e4;exact .cr _ _ _ _ v (ih rfl))|cases e
 |mp o b hb=>intro a e;cases a<;>simp only[gY] at e<;>first|(injection e with e1;subst e1;exact .mp _ b (h _ b hb))|cases e
 |ch o b hb=>intro a e;cases a<;>simp only[gY] at e<;>first|(injection e with e1;subst e1;exact .ch _ b (h _ b hb))|cases e
 |agg cs l h1 _ ih=>
  intro a e
  cases a with
  |agg l'=>
   simp only[gY] at e;injection e with e;subst e;rw[fX] at h1 ih;exact .agg cs l' (by simpa using h1) λi p hp=>ih i (gY f p) (by simp[hp]) rfl
  |_=>simp only[gY] at e;cases e
 |bR cs l h1 _ ih=>
  intro a e
  cases a with
  |bR l'=>
   simp only[gY] at e;injection e with e;subst e;rw[fX] at h1 ih;exact .bR cs l' (by simpa using h1) λi p hp=>ih i (gY f p) (by simp[hp]) rfl
  |_=>simp only[gY] at e;cases e
 |fn g as bs ls ms h1 h2 _ _ i1 i2=>
  intro a e
  cases a with
  |fn g' l' m'=>
   simp only[gY] at e;injection e with e0 e1 e2;subst e0;subst e1;subst e2;rw[fX] at h1 i1 h2 i2;exact .fn g as bs l' m' (by simpa using h1) (by simpa using h2) (λi p hp=>i1 i (gY f p) (by simp[hp]) rfl) (λi p hp=>i2 i (gY f p) (by simp[hp]) rfl)
  |_=>simp only[gY] at e;cases e
theorem RO.uy(h:∀o b,μ o=some b->μ' (f o)=some b){b:Nat}(hh:∀c,μ.oW c b->μ'.oW c b){x:bJ}(hr:RO F μ w b x):RO F μ' w b (gD f x):=by
 cases x with
 |dead=>trivial
 |cells cs=>
  obtain⟨cur,t,h1,h2,h3⟩:=hr;simp only[gD,fX];refine⟨cur,t,h1,by simpa using h2,λi c hc=>?_⟩;simp only[aW,cm] at hc;obtain⟨q,hq,rfl⟩:=hc;exact(h3 i q hq).uy h
 |row sz l=>
  obtain⟨h0,cur,t,h1,h2,h3⟩:=hr;refine⟨h0,cur,t,h1,h2,λi c hc=>?_⟩;have:=h3 i c hc;simp only[bc,aW,cm] at hc;obtain⟨q,_,rfl⟩:=hc;exact .p this.bG
 |map ks m=>exact hr
 |chan cap buf=>exact hr
 |iter rem cur=>exact hr
 |cN ks sz m=>
  obtain⟨h0,es,clock,h1,h2,h3,c,h4,h5⟩:=hr;simp only[gD];refine⟨λx hx=>?_,es,clock,h1,by simpa using h2,h3,c,λi k x hx=>?_,λi j k k' l l' hi hj=>?_⟩
  · obtain⟨y,hy,rfl⟩:=aY.1 hx;exact h0 y hy
  · simp only[aW,cm] at hx
    obtain⟨y,hy,e⟩:=hx;injection e with e1 e2;subst e1;subst e2;obtain⟨e,a,d,g⟩:=h4 i y.1 y.2 hy;refine⟨e,a,d,?_⟩;generalize y.2=z at g ⊢
    cases z with
    |h l=>exact⟨hh _ g.1,g.2⟩
    |v av=>exact RV.uy h g
  · simp only[aW,cm] at hi hj
    obtain⟨⟨y1,y2⟩,hy,e⟩:=hi;obtain⟨⟨z1,z2⟩,hz,e'⟩:=hj
    cases y2 with
    |v _=>cases e
    |h l2=>
     cases z2 with
     |v _=>cases e'
     |h l3=>exact h5 i j y1 z1 l2 l3 hy hz
theorem RO.tp(h:∀o b,μ (f o)=some b->μ' o=some b){b:Nat}(hh:∀c,μ.oW c b->μ'.oW c b){x:bJ}(hr:RO F μ w b (gD f x)):RO F μ' w b x:=by
 cases x with
 |dead=>trivial
 |cells cs=>
  simp only[gD,fX] at hr;obtain⟨cur,t,h1,h2,h3⟩:=hr;exact⟨cur,t,h1,by simpa using h2,λi c hc=>(h3 i (gY f c) (by simp[hc])).tp h rfl⟩
 |row sz l=>
  obtain⟨h0,cur,t,h1,h2,h3⟩:=hr;refine⟨h0,cur,t,h1,h2,λi c hc=>?_⟩;have:=h3 i c hc;simp only[bc,aW,cm] at hc;obtain⟨q,_,rfl⟩:=hc;exact .p this.bG
 |map ks m=>exact hr
 |chan cap buf=>exact hr
 |iter rem cur=>exact hr
 |cN ks sz m=>
  simp only[gD] at hr;obtain⟨h0,es,clock,h1,h2,h3,c,h4,h5⟩:=hr;refine⟨λx hx=>h0 (x.1,UT f x.2) (aY.2 ⟨x,hx,rfl⟩),es,clock,h1,by simpa using h2,h3,c,λi k x hx=>?_,λi j k k' l l' hi hj=>?_⟩
  · obtain⟨e,a,d,g⟩:=h4 i k (UT f x) (by rw[aW,hx];rfl)
    refine⟨e,a,d,?_⟩
    cases x with
    |h l=>exact⟨hh _ g.1,g.2⟩
    |v av=>exact RV.tp h g rfl
  · exact h5 i j k k' l l' (by rw[aW,hi];rfl) (by rw[aW,hj];rfl)
theorem vG{x:bJ}:gD f x= .dead↔x= .dead:=by cases x<;>simp[gD]
end
def lL(σ:ab)(Z:Nat->Prop)(av:AV)(p:PV):Prop:=
 ∀(F:Nat->Prop) (μ:aN) (w:aj) (v:ah),(∀o b,Z o->σ.get o≠ .dead->μ o=some b->RO F μ w b (σ.get o))->RV F μ w v av->
  RP (λb=>F b\/ ∃o,Z o/\σ.get o≠ .dead/\μ o=some b) w v p
inductive kP(σ:ab)(Z:Nat->Prop):List AV->List PV->Prop
 |nil:kP σ Z [] []
 |cons {a:AV} {p:PV} {l:List AV} {m:List PV}:lL σ Z a p->kP σ Z l m->kP σ Z (a::l) (p::m)
theorem kP.get{σ:ab}{Z:Nat->Prop}{l:List AV}{m:List PV}(h:kP σ Z l m):l.length=m.length/\ ∀(i:Nat) p,m[i]? =some p->∃a,l[i]? =some a/\lL σ Z a p:=by
 induction h with
 |nil=>simp
 |cons h _ ih=>
  refine⟨by simp[ih.1],λi p hp=>?_⟩
  cases i with
  |zero=>simp at hp;subst hp;exact⟨_,rfl,h⟩
  |succ i=>simp at hp;simpa using ih.2 i p hp
theorem lL.local{σ σ':ab}{Z:Nat->Prop}{a:AV}{p:PV}(h:lL σ Z a p)(e:∀o,Z o->σ'.get o=σ.get o):lL σ' Z a p:=λF μ w v h1 h2=>by
 have:=h F μ w v (λo b z d m=>by rw[<-e o z];exact h1 o b z (by rw[e o z];exact d) m) h2;refine this.mono (λb hb=>?_) (λ_ _=>rfl);rcases hb with hb|⟨o,h1,h2,h3⟩
 · exact .inl hb
 · exact .inr ⟨o,h1,by rw[e o h1];exact h2,h3⟩
theorem kP.local{σ σ':ab}{Z:Nat->Prop}{l:List AV}{m:List PV}(h:kP σ Z l m)(e:∀o,Z o->σ'.get o=σ.get o):kP σ' Z l m:=by
 induction h with
 |nil=>exact .nil
 |cons h _ ih=>exact .cons (h.local e) ih
section
variable{σ:ab}{Z:Nat->Prop}
theorem lL.p{p q:PV}(h:PV.le p q):lL σ Z (.p p) q:=λF μ w v _ hv=>by
 cases hv with
 |p hv=>exact(h F w v hv).mono (λ_=>.inl) (λ_ _=>rfl)
theorem lL.refl(p:PV):lL σ Z (.p p) p:=lL.p (PV.le_refl p)
theorem kP.refl:∀(l:List PV),kP σ Z (l.map .p) l
 |[]=>.nil
 |p::l=>.cons (lL.refl p) (kP.refl l)
theorem lL.agg{l:List AV}{m:List PV}(h:kP σ Z l m):lL σ Z (.agg l) (.agg m):=λF μ w v hz hv=>by
 cases hv with
 |agg cs _ h1 h2=>exact .agg cs m (h1.trans h.get.1) λi p hp=>let⟨a,h3,h4⟩:=h.get.2 i p hp;h4 F μ w _ hz (h2 i a h3)
theorem lL.bR{l:List AV}{m:List PV}(h:kP σ Z l m):lL σ Z (.bR l) (.bR m):=λF μ w v hz hv=>by
 cases hv with
 |bR cs _ h1 h2=>exact .bR cs m (h1.trans h.get.1) λi p hp=>let⟨a,h3,h4⟩:=h.get.2 i p hp;h4 F μ w _ hz (h2 i a h3)
theorem lL.dJ{o sz off len:Nat}{cs:List AV}{l:List PV}(ho:Z o)(hc:σ.get o= .cells cs)(h0:0<sz)(hl:l.length=len)(hs:∀p∈l,xY sz p)
 (h:kP σ Z ((cs.drop off).take (len*sz)) (l.flatMap PV.cells)):lL σ Z (.dJ o sz off len) (.sl sz false l):=λF μ w v hz hv=>by
 cases hv with
 |dJ _ _ _ bL _ cap b t n hm h1 h2 h3 h4 h5=>
  rcases h1 with h1|h1
  · have:len=0:=by omega
    have gy:l=[]:=qn.1 (by omega);subst gy;subst this;subst h1;exact .r5 _ 0 sz false h5 (by simp) (by simp)
  · subst h1
    (have hd:σ.get o≠ .dead:=by rw[hc];simp);have hr:=hz o b ho hd hm;rw[hc] at hr;obtain⟨cur,t',g1,g2,g3⟩:=hr;obtain⟨f1,f2⟩:=lA h0 l (λp hp=>(hs p hp).1)
    have key:∀(i:Nat) p (j:Nat) q,l[i]? =some p->p.cells[j]? =some q->∃a,cs[bL+(i*sz+j)]? =some a/\lL σ Z a q:=λi p j q hp hq=>by
     (have OH:j<sz:=by have:=(aq.1 hq).1;rw[(hs p (aO hp)).1] at this;exact this);(have hdiv:(i*sz+j) / sz=i:=by rw[Nat.mul_comm,Nat.mul_add_div h0,Nat.div_eq_of_lt OH];omega);(have UK:(i*sz+j) % sz=j:=by rw[Nat.mul_comm,Nat.mul_add_mod,Nat.mod_eq_of_lt OH]);(have hk:(l.flatMap PV.cells)[i*sz+j]? =some q:=by rw[f2,hdiv,UK,hp];exact hq);obtain⟨a,ha,IP⟩:=h.get.2 _ q hk;rw[List.getElem?_take] at ha;split at ha
     · rw[jQ] at ha;exact⟨a,ha,IP⟩
     · cases ha
    refine .sl b bL len cap sz false l (λi j=>cur[bL+(i*sz+j)]?.getD undef) (.inr ⟨o,ho,hd,hm⟩) hl.symm h4 h5 (by simp) (λi p hp=>hs p (aO hp)) (λi p j q hp hq=>?_) (λi p j q hp hq=>?_)
    · obtain⟨a,ha,_⟩:=key i p j q hp hq
      have aC:bL+(i*sz+j)<cur.size:=fl (aq.1 ha).1 g2;rw[mF g1,show bL+i*sz+j=bL+(i*sz+j) by omega,dh aC];rfl
    · obtain⟨a,ha,IP⟩:=key i p j q hp hq
      exact IP F μ w _ hz (g3 _ a ha)
theorem lL.ptr{o off:Nat}{cs:List AV}{l:List PV}(ho:Z o)(hc:σ.get o= .cells cs)(h:kP σ Z ((cs.drop off).take l.length) l):lL σ Z (.ptr o off) (.ro l):=λF μ w v hz hv=>by
 cases hv with
 |ptr _ _ b hm=>
  (have hd:σ.get o≠ .dead:=by rw[hc];simp);have hr:=hz o b ho hd hm;rw[hc] at hr;obtain⟨cur,t',g1,g2,g3⟩:=hr;refine .W6 b off l (λj=>cur[off+j]?.getD undef) (.inr (.inr ⟨o,ho,hd,hm⟩)) λj q hq=>?_;obtain⟨a,ha,hf⟩:=h.get.2 j q hq;rw[List.getElem?_take] at ha;split at ha
  · rw[jQ] at ha
    have aC:off+j<cur.size:=fl (aq.1 ha).1 g2;exact⟨by rw[mF g1,dh aC];rfl,hf F μ w _ hz (g3 _ a ha)⟩
  · cases ha
theorem lL.fn{f:Fn}{l m:List AV}{l' m':List PV}(h:kP σ Z l l')(k:kP σ Z m m'):lL σ Z (.fn f l m) (.fn f l' m'):=λF μ w v hz hv=>by
 cases hv with
 |fn _ as bs _ _ h1 h2 h3 h4=>
  refine .fn f as bs l' m' (h1.trans h.get.1) (h2.trans k.get.1) (λi p hp=>?_) (λi p hp=>?_)
  · obtain⟨a,h5,h6⟩:=h.get.2 i p hp
    exact h6 F μ w _ hz (h3 i a h5)
  · obtain⟨a,h5,h6⟩:=k.get.2 i p hp
    exact h6 F μ w _ hz (h4 i a h5)
end
def KQ:Nat->List PV->(List PV->List PV->Prop)->Prop
 |0,l,K=>K [] l
 |n+1,c::l,K=>KQ n l λa r=>K (c::a) r
 |_+1,[],_=>False
def ZH(sz:Nat)(a:List PV):PV:=match sz,a with
 |1,[c]=>c
 |_,a=>.agg a
def RT(sz:Nat):Nat->List PV->(List PV->Prop)->Prop
 |0,_,K=>K []
 |n+1,l,K=>KQ sz l λa r=>RT sz n r λm=>K (ZH sz a::m)
theorem yJ:∀{n:Nat} {l:List PV} {K:List PV->List PV->Prop},KQ n l K->K (l.take n) (l.drop n)/\n<=l.length
 |0,l,K,h=>⟨h,de _⟩
 |n+1,c::l,K,h=>by
  obtain⟨h1,h2⟩:=yJ (n:=n) (l:=l) h;exact⟨h1,by simp;omega⟩
 |n+1,[],K,h=>h.elim
theorem UU{sz:Nat}{a:List PV}(hl:a.length=sz)(h1:∀p∈a,p.one=true):xY sz (ZH sz a)/\(ZH sz a).cells=a:=by
 unfold ZH;split
 · rename_i c
   have hc:c.cells=[c]:=cells_one (h1 c (by simp));exact⟨⟨by rw[hc];rfl,by rw[hc];exact h1⟩,hc⟩
 · exact⟨⟨hl,h1⟩,rfl⟩
theorem sc{sz:Nat}:∀{n:Nat} {l:List PV} {K:List PV->Prop},(∀p∈l,p.one=true)->RT sz n l K->∃m,K m/\m.length=n/\(∀p∈m,xY sz p)/\m.flatMap PV.cells=l.take (n*sz)/\ ∀K':List PV->Prop,K' m->RT sz n l K'
 |0,l,K,_,h=>⟨[],h,rfl,by simp,by simp,λK' h=>h⟩
 |n+1,l,K,h1,h=>by
  obtain⟨h2,h3⟩:=yJ h;obtain⟨m,k1,k2,k3,k4,k5⟩:=sc (λp hp=>h1 p (List.mem_of_mem_drop hp)) h2;obtain⟨e1,e2⟩:=UU (sz:=sz) (a:=l.take sz) (by simp;omega) (λp hp=>h1 p (List.mem_of_mem_take hp));refine⟨_,k1,by simp[k2],λp hp=>?_,?_,λK' hK'=>?_⟩
  · rcases cy.1 hp with hp|hp
    · subst hp;exact e1
    · exact k3 p hp
  · rw[List.flatMap_cons,e2,k4,dB,Nat.one_mul,Nat.add_comm (n*sz),List.take_add]
  · have:∀(n:Nat) (l:List PV) (Q:List PV->List PV->Prop),n<=l.length->Q (l.take n) (l.drop n)->KQ n l Q:=by
     intro n
     induction n with
     |zero=>intro l Q _ h;exact h
     |succ n ih=>
      intro l Q hl h
      cases l with
      |nil=>simp at hl
      |cons c l=>exact ih l _ (by simpa using hl) h
    exact this sz l _ h3 (k5 _ hK')
mutual
def mv(σ:ab):Nat->AV->List Nat->(PV->List Nat->Prop)->Prop
 |0,_,_,_=>False
 |_+1,.p v,Z,K=>K v Z
 |n+1,.ptr o off,Z,K=>(match σ.get o with
  |.cells cs=>x4 σ n (cs.drop off) (o::Z) λl Z=>K (.ro l) Z
  |_=>False)
 |n+1,.dJ o sz off len,Z,K=>(match σ.get o with
  |.cells cs=>(0<sz/\off+len*sz<=cs.length)/\x4 σ n ((cs.drop off).take (len*sz)) (o::Z) λl Z=>(∀p∈l,p.one=true)/\RT sz len l λm=>K (.sl sz false m) Z
  |_=>False)
 |_+1,.bo o sz i len,Z,K=>(match σ.get o with
  |.row e8 l=>(e8=sz/\0<sz/\i+len<=l.length)/\K (.sl sz false ((l.drop i).take len)) (o::Z)
  |_=>False)
 |_+1,.jb o sz i len _,Z,K=>(match σ.get o with
  |.row e8 l=>(e8=sz/\0<sz/\i+len<=l.length)/\K (.sl sz false ((l.drop i).take len)) (o::Z)
  |_=>False)
 |_+1,.cr o sz i j,Z,K=>(match σ.get o with
  |.row e8 l=>(e8=sz/\0<sz/\j<=sz)/\K (.ro (((l.drop i).flatMap PV.cells).drop j)) (o::Z)
  |_=>False)
 |_+1,.mp o,Z,K=>(match σ.get o with
  |.map kt m=>K (.mp kt m) (o::Z)
  |_=>False)
 |n+1,.agg l,Z,K=>x4 σ n l Z λm Z=>K (.agg m) Z
 |n+1,.bR l,Z,K=>x4 σ n l Z λm Z=>K (.bR m) Z
 |n+1,.fn f a b,Z,K=>x4 σ n a Z λl Z=>x4 σ n b Z λm Z=>K (.fn f l m) Z
 |_,_,_,_=>False
def x4(σ:ab):Nat->List AV->List Nat->(List PV->List Nat->Prop)->Prop
 |0,_,_,_=>False
 |_+1,[],Z,K=>K [] Z
 |n+1,a::l,Z,K=>mv σ n a Z λp Z=>x4 σ n l Z λm Z=>K (p::m) Z
end
theorem lL.F6{σ:ab}{Z Z':Nat->Prop}{a:AV}{p:PV}(h:lL σ Z a p)(hz:∀o,Z o->Z' o):lL σ Z' a p:=λF μ w v hZ hv=>
 (h F μ w v (λo b ho=>hZ o b (hz o ho)) hv).mono (λb hb=>hb.imp id λ⟨o,h1,h2⟩=>⟨o,hz o h1,h2⟩) (λ_ _=>rfl)
theorem kP.F6{σ:ab}{Z Z':Nat->Prop}{l:List AV}{m:List PV}(h:kP σ Z l m)(hz:∀o,Z o->Z' o):kP σ Z' l m:=by
 induction h with
 |nil=>exact .nil
 |cons h _ ih=>exact .cons (h.F6 hz) ih
theorem lL.bo{σ:ab}{Z:Nat->Prop}{o sz i len:Nat}{l:List PV}(ho:Z o)(hc:σ.get o= .row sz l)(h0:0<sz)(hl:i+len<=l.length):lL σ Z (.bo o sz i len) (.sl sz false ((l.drop i).take len)):=by
 intro F μ w v hz hv
 cases hv with
 |bo _ _ _ _ _ hv=>
 have Mt:=hv
 cases hv with
 |dJ _ _ _ bL _ cap b t n hm h1 h2 h3 h4 h5=>
 have hr:=hz o b ho (by rw[hc];simp) hm;have Ip:=hr;rw[hc] at hr;obtain⟨bQ,cur,t',g1,g2,g3⟩:=hr;have hlen:=cz h0 bQ
 have h6:lL [(o,bJ.cells (bc l))] (· =o) (.dJ o sz (i*sz) len) (.sl sz false ((l.drop i).take len)):=by
  refine lL.dJ (cs:=bc l) rfl (by simp[ab.get]) h0 (by simp;omega) (eh.take (eh.drop bQ i) len) ?_;rw[ot h0 bQ];exact kP.refl _
 refine(h6 F μ w _ (λo' b' yK _ nj=>?_) Mt).mono (λb' pT=>?_) (λ_ _=>rfl)
 · subst yK
   rw[hm] at nj;injection nj with nj;subst nj
   (have:ab.get [(o',bJ.cells (bc l))] o'= .cells (bc l):=by simp[ab.get]);rw[this];exact⟨cur,t',g1,g2,g3⟩
 · rcases pT with pT|⟨o',yK,_,nj⟩
   · exact .inl pT
   · subst yK;exact .inr ⟨_,ho,by rw[hc];simp,nj⟩
theorem lL.cr{σ:ab}{Z:Nat->Prop}{o sz i j:Nat}{l:List PV}(ho:Z o)(hc:σ.get o= .row sz l)(h0:0<sz)(hj:j<=sz):lL σ Z (.cr o sz i j) (.ro (((l.drop i).flatMap PV.cells).drop j)):=by
 intro F μ w v hz hv
 cases hv with
 |cr _ _ _ _ _ hv=>
 have Mt:=hv
 cases hv with
 |ptr _ _ b hm=>
 have hr:=hz o b ho (by rw[hc];simp) hm;rw[hc] at hr;obtain⟨bQ,cur,t',g1,g2,g3⟩:=hr
 have h6:lL [(o,bJ.cells (bc l))] (· =o) (.ptr o (i*sz+j)) (.ro (((l.drop i).flatMap PV.cells).drop j)):=by
  refine lL.ptr (cs:=bc l) rfl (by simp[ab.get]) ?_;rw[<-List.drop_drop,mr h0 bQ,bN (by simp[bc])];(have:(bc (l.drop i)).drop j=(((l.drop i).flatMap PV.cells).drop j).map .p:=by simp[bc,List.map_drop]);rw[this];exact kP.refl _
 refine(h6 F μ w _ (λo' b' yK _ nj=>?_) Mt).mono (λb' pT=>?_) (λ_ _=>rfl)
 · subst yK
   rw[hm] at nj;injection nj with nj;subst nj
   (have:ab.get [(o',bJ.cells (bc l))] o'= .cells (bc l):=by simp[ab.get]);rw[this];exact⟨cur,t',g1,g2,g3⟩
 · rcases pT with pT|⟨o',yK,_,nj⟩
   · exact .inl pT
   · subst yK;exact .inr ⟨_,ho,by rw[hc];simp,nj⟩
theorem lL.jb{σ:ab}{Z:Nat->Prop}{o sz i len cap:Nat}{l:List PV}(ho:Z o)(hc:σ.get o= .row sz l)(h0:0<sz)(hl:i+len<=l.length):lL σ Z (.jb o sz i len cap) (.sl sz false ((l.drop i).take len)):=by
 intro F μ w v hz hv
 cases hv with
 |jb _ _ _ _ _ _ hv=>exact lL.bo ho hc h0 hl F μ w _ hz hv
theorem lL.mp{σ:ab}{Z:Nat->Prop}{o:Nat}{kt:List FK×Bool}{m:List (PV×PV)}(ho:Z o)(hc:σ.get o= .map kt m):lL σ Z (.mp o) (.mp kt m):=by
 intro F μ w v hz hv
 cases hv with
 |mp _ b hm=>
 have hr:=hz o b ho (by rw[hc];simp) hm;rw[hc] at hr;obtain⟨bQ,es,clock,g1,g2,g3,g4⟩:=hr;refine .mp b kt m es clock (.inr ⟨o,ho,by rw[hc];simp,hm⟩) g1 ⟨g2,g3⟩ bQ (λi k v e h1 h2=>?_) (λi k v e h1 h2=>?_)
 · obtain⟨e',h3,h4,_⟩:=g4 i k v h1
   rw[h2] at h3;injection h3 with h3;subst h3
   exact h4.mono (λ_=>.inl) (λ_ _=>rfl)
 · obtain⟨e',h3,_,h5⟩:=g4 i k v h1
   rw[h2] at h3;injection h3 with h3;subst h3
   exact h5.mono (λ_=>.inl) (λ_ _=>rfl)
def kA(σ:ab)(Z:List Nat):Prop:=∀o∈Z,σ.get o≠ .dead
theorem kA.cons{σ:ab}{Z:List Nat}{o:Nat}(h:kA σ Z)(ho:σ.get o≠ .dead):kA σ (o::Z):=λx hx=>by
 rcases cy.1 hx with e|e
 · subst e;exact ho
 · exact h x e
section
variable{σ:ab}
theorem jW:∀n:Nat,(∀(v:AV) (Z:List Nat) (K:PV->List Nat->Prop),kA σ Z->mv σ n v Z K->∃p Z',K p Z'/\(∀o∈Z,o∈Z')/\kA σ Z'/\lL σ (· ∈Z') v p)/\
 (∀(l:List AV) (Z:List Nat) (K:List PV->List Nat->Prop),kA σ Z->x4 σ n l Z K->∃m Z',K m Z'/\(∀o∈Z,o∈Z')/\kA σ Z'/\kP σ (· ∈Z') l m):=by
 intro n
 induction n with
 |zero=>exact⟨λv Z K _ h=>by simp[mv] at h,λl Z K _ h=>by simp[x4] at h⟩
 |succ n ih=>
  obtain⟨Xk,yL⟩:=ih;refine⟨λv Z K hZ h=>?_,λl Z K hZ h=>?_⟩
  · cases v with
    |p q=>simp only[mv] at h;exact⟨q,Z,h,λ_ h=>h,hZ,lL.refl q⟩
    |ptr o off=>
     simp only[mv] at h;split at h
     · rename_i cs hc
       obtain⟨m,Z',h1,h2,h3,h4⟩:=yL _ _ _ (hZ.cons (by rw[hc];simp)) h;refine⟨_,Z',h1,λx hx=>h2 x (by simp[hx]),h3,lL.ptr (h2 o (by simp)) hc ?_⟩;rw[bN (by rw[h4.get.1];exact aX _)];exact h4
     · exact h.elim
    |dJ o sz off len=>
     simp only[mv] at h;split at h
     · rename_i cs hc
       obtain⟨⟨h0,hle⟩,h⟩:=h;obtain⟨m,Z',⟨h1,hg⟩,h2,h3,h4⟩:=yL _ _ _ (hZ.cons (by rw[hc];simp)) h;obtain⟨q,k1,k2,k3,k4,_⟩:=sc h1 hg;refine⟨_,Z',k1,λx hx=>h2 x (by simp[hx]),h3,lL.dJ (h2 o (by simp)) hc h0 k2 k3 ?_⟩;(have kl:m.length=len*sz:=by have:=h4.get.1;simp at this;omega);have ht:m.take (len*sz)=m:=bN (by omega);rw[k4,ht];exact h4
     · exact h.elim
    |bo o sz i len=>
     simp only[mv] at h;split at h
     · rename_i e8 l hc
       obtain⟨⟨rfl,h0,hle⟩,h⟩:=h;exact⟨_,_,h,λx hx=>by simp[hx],hZ.cons (by rw[hc];simp),lL.bo (by simp) hc h0 hle⟩
     · exact h.elim
    |jb o sz i len cap=>
     simp only[mv] at h;split at h
     · rename_i e8 l hc
       obtain⟨⟨rfl,h0,hle⟩,h⟩:=h;exact⟨_,_,h,λx hx=>by simp[hx],hZ.cons (by rw[hc];simp),lL.jb (by simp) hc h0 hle⟩
     · exact h.elim
    |cr o sz i j=>
     simp only[mv] at h;split at h
     · rename_i e8 l hc
       obtain⟨⟨rfl,h0,hle⟩,h⟩:=h;exact⟨_,_,h,λx hx=>by simp[hx],hZ.cons (by rw[hc];simp),lL.cr (by simp) hc h0 hle⟩
     · exact h.elim
    |mp o=>
     simp only[mv] at h;split at h
     · rename_i kt m hc
       exact⟨_,_,h,λx hx=>by simp[hx],hZ.cons (by rw[hc];simp),lL.mp (by simp) hc⟩
     · exact h.elim
    |agg l=>
     simp only[mv] at h;obtain⟨m,Z',h1,h2,h3,h4⟩:=yL _ _ _ hZ h;exact⟨_,Z',h1,h2,h3,lL.agg h4⟩
    |bR l=>
     simp only[mv] at h;obtain⟨m,Z',h1,h2,h3,h4⟩:=yL _ _ _ hZ h;exact⟨_,Z',h1,h2,h3,lL.bR h4⟩
    |fn f a b=>
     simp only[mv] at h;obtain⟨m,Z',h1,h2,h3,h4⟩:=yL _ _ _ hZ h;obtain⟨m2,Z2,k1,k2,k3,k4⟩:=yL _ _ _ h3 h1;exact⟨_,Z2,k1,λx hx=>k2 x (h2 x hx),k3,lL.fn (h4.F6 k2) k4⟩
    |_=>simp[mv] at h
  · cases l with
    |nil=>simp only[x4] at h;exact⟨[],Z,h,λ_ h=>h,hZ,.nil⟩
    |cons a l=>
     simp only[x4] at h;obtain⟨p,Z',h1,h2,h3,h4⟩:=Xk _ _ _ hZ h;obtain⟨m2,Z2,k1,k2,k3,k4⟩:=yL _ _ _ h3 h1;exact⟨_,Z2,k1,λx hx=>k2 x (h2 x hx),k3,.cons (h4.F6 k2) k4⟩
end
section
variable{σ:ab}
theorem lr:∀n:Nat,(∀(v:AV) (Z:List Nat) (K K':PV->List Nat->Prop),(∀p Z,K p Z->K' p Z)->mv σ n v Z K->mv σ n v Z K')/\
 (∀(l:List AV) (Z:List Nat) (K K':List PV->List Nat->Prop),(∀p Z,K p Z->K' p Z)->x4 σ n l Z K->x4 σ n l Z K'):=by
 intro n
 induction n with
 |zero=>exact⟨λv Z K K' _ h=>by simp[mv] at h,λl Z K K' _ h=>by simp[x4] at h⟩
 |succ n ih=>
  obtain⟨Xk,yL⟩:=ih;refine⟨λv Z K K' hK h=>?_,λl Z K K' hK h=>?_⟩
  · cases v with
    |p q=>simp only[mv] at *;exact hK _ _ h
    |ptr o off=>
     simp only[mv] at *;split at h
     · exact yL _ _ _ _ (λ_ _=>hK _ _) h
     · exact h.elim
    |dJ o sz off len=>
     simp only[mv] at *;split at h
     · refine⟨h.1,yL _ _ _ _ (λl Z hl=>⟨hl.1,?_⟩) h.2⟩
       obtain⟨q,k1,_,_,_,k5⟩:=sc hl.1 hl.2;exact k5 _ (hK _ _ k1)
     · exact h.elim
    |bo o sz i len=>
     simp only[mv] at *;split at h
     · exact⟨h.1,hK _ _ h.2⟩
     · exact h.elim
    |jb o sz i len cap=>
     simp only[mv] at *;split at h
     · exact⟨h.1,hK _ _ h.2⟩
     · exact h.elim
    |cr o sz i j=>
     simp only[mv] at *;split at h
     · exact⟨h.1,hK _ _ h.2⟩
     · exact h.elim
    |mp o=>
     simp only[mv] at *;split at h
     · exact hK _ _ h
     · exact h.elim
    |agg l=>simp only[mv] at *;exact yL _ _ _ _ (λ_ _=>hK _ _) h
    |bR l=>simp only[mv] at *;exact yL _ _ _ _ (λ_ _=>hK _ _) h
    |fn f a b=>simp only[mv] at *;exact yL _ _ _ _ (λ_ _ h=>yL _ _ _ _ (λ_ _=>hK _ _) h) h
    |_=>simp[mv] at h
  · cases l with
    |nil=>simp only[x4] at *;exact hK _ _ h
    |cons a l=>simp only[x4] at *;exact Xk _ _ _ _ (λ_ _ h=>yL _ _ _ _ (λ_ _=>hK _ _) h) h
theorem KR:∀n:Nat,(∀(v:AV) (Z:List Nat) (K:PV->List Nat->Prop),mv σ n v Z K->∃p Z',K p Z'/\(∀o∈Z,o∈Z')/\ ∀σ':ab,(∀q∈Z',σ'.get q=σ.get q)->mv σ' n v Z (λp' Z''=>p'=p/\Z''=Z'))/\
 (∀(l:List AV) (Z:List Nat) (K:List PV->List Nat->Prop),x4 σ n l Z K->∃m Z',K m Z'/\(∀o∈Z,o∈Z')/\ ∀σ':ab,(∀q∈Z',σ'.get q=σ.get q)->x4 σ' n l Z (λp' Z''=>p'=m/\Z''=Z')):=by
 intro n
 induction n with
 |zero=>exact⟨λv Z K h=>by simp[mv] at h,λl Z K h=>by simp[x4] at h⟩
 |succ n ih=>
  obtain⟨Xk,yL⟩:=ih;refine⟨λv Z K h=>?_,λl Z K h=>?_⟩
  · cases v with
    |p q=>simp only[mv] at *;exact⟨q,Z,h,λ_ h=>h,λ_ _=>⟨rfl,rfl⟩⟩
    |ptr o off=>
     simp only[mv] at *;split at h
     · rename_i cs hc
       obtain⟨m,Z',h1,h2,h3⟩:=yL _ _ _ h;refine⟨_,Z',h1,λx hx=>h2 x (by simp[hx]),λσ' mO=>?_⟩;rw[mO o (h2 o (by simp)),hc];exact(lr n).2 _ _ _ _ (λp Z h=>⟨by rw[h.1],h.2⟩) (h3 σ' mO)
     · exact h.elim
    |dJ o sz off len=>
     simp only[mv] at *;split at h
     · rename_i cs hc
       obtain⟨wG,h⟩:=h;obtain⟨m,Z',⟨h1,hg⟩,h2,h3⟩:=yL _ _ _ h;obtain⟨q,k1,k2,k3,k4,k5⟩:=sc h1 hg;refine⟨_,Z',k1,λx hx=>h2 x (by simp[hx]),λσ' mO=>?_⟩;rw[mO o (h2 o (by simp)),hc];refine⟨wG,(lr n).2 _ _ _ _ (λp Z h=>?_) (h3 σ' mO)⟩;obtain⟨rfl,rfl⟩:=h;exact⟨h1,k5 _ ⟨rfl,rfl⟩⟩
     · exact h.elim
    |bo o sz i len=>
     simp only[mv] at *;split at h
     · rename_i e8 l hc
       refine⟨_,_,h.2,λx hx=>by simp[hx],λσ' mO=>?_⟩;rw[mO o (by simp),hc];exact⟨h.1,rfl,rfl⟩
     · exact h.elim
    |jb o sz i len cap=>
     simp only[mv] at *;split at h
     · rename_i e8 l hc
       refine⟨_,_,h.2,λx hx=>by simp[hx],λσ' mO=>?_⟩;rw[mO o (by simp),hc];exact⟨h.1,rfl,rfl⟩
     · exact h.elim
    |cr o sz i j=>
     simp only[mv] at *;split at h
     · rename_i e8 l hc
       refine⟨_,_,h.2,λx hx=>by simp[hx],λσ' mO=>?_⟩;rw[mO o (by simp),hc];exact⟨h.1,rfl,rfl⟩
     · exact h.elim
    |mp o=>
     simp only[mv] at *;split at h
     · rename_i kt m hc
       refine⟨_,_,h,λx hx=>by simp[hx],λσ' mO=>?_⟩;rw[mO o (by simp),hc];exact⟨rfl,rfl⟩
     · exact h.elim
    |agg l=>
     simp only[mv] at *;obtain⟨m,Z',h1,h2,h3⟩:=yL _ _ _ h;exact⟨_,Z',h1,h2,λσ' mO=>(lr n).2 _ _ _ _ (λp Z h=>⟨by rw[h.1],h.2⟩) (h3 σ' mO)⟩
    |bR l=>
     simp only[mv] at *;obtain⟨m,Z',h1,h2,h3⟩:=yL _ _ _ h;exact⟨_,Z',h1,h2,λσ' mO=>(lr n).2 _ _ _ _ (λp Z h=>⟨by rw[h.1],h.2⟩) (h3 σ' mO)⟩
    |fn f a b=>
     simp only[mv] at *;obtain⟨m,Z',h1,h2,h3⟩:=yL _ _ _ h;obtain⟨m2,Z2,k1,k2,k3⟩:=yL _ _ _ h1;refine⟨_,Z2,k1,λx hx=>k2 x (h2 x hx),λσ' mO=>(lr n).2 _ _ _ _ (λp Z h=>?_) (h3 σ' λq hq=>mO q (k2 q hq))⟩;obtain⟨rfl,rfl⟩:=h;exact(lr n).2 _ _ _ _ (λp Z h=>⟨by rw[h.1],h.2⟩) (k3 σ' mO)
    |_=>simp[mv] at h
  · cases l with
    |nil=>simp only[x4] at *;exact⟨[],Z,h,λ_ h=>h,λ_ _=>⟨rfl,rfl⟩⟩
    |cons a l=>
     simp only[x4] at *;obtain⟨m,Z',h1,h2,h3⟩:=Xk _ _ _ h;obtain⟨m2,Z2,k1,k2,k3⟩:=yL _ _ _ h1;refine⟨_,Z2,k1,λx hx=>k2 x (h2 x hx),λσ' mO=>(lr n).1 _ _ _ _ (λp Z h=>?_) (h3 σ' λq hq=>mO q (k2 q hq))⟩;obtain⟨rfl,rfl⟩:=h;exact(lr n).2 _ _ _ _ (λp Z h=>⟨by rw[h.1],h.2⟩) (k3 σ' mO)
end
def uc:AV->AV
 |.jb o sz i len _=>.bo o sz i len
 |v=>v
theorem RV.uc{F:Nat->Prop}{μ:aN}{w:aj}{v:ah}{a:AV}(h:RV F μ w v a):RV F μ w v (uc a):=by
 cases h with
 |jb o sz i len cap base h=>exact h
 |any v=>exact .any v
 |p h=>exact .p h
 |ptr o off b h=>exact .ptr o off b h
 |dJ o sz off bL len cap b t n h1 h0 h2 h3 h4 h5=>exact .dJ o sz off bL len cap b t n h1 h0 h2 h3 h4 h5
 |bo o sz i len v h=>exact .bo o sz i len v h
 |cr o sz i j v h=>exact .cr o sz i j v h
 |mp o b h=>exact .mp o b h
 |ch o b h=>exact .ch o b h
 |agg cs l h1 h2=>exact .agg cs l h1 h2
 |bR cs l h1 h2=>exact .bR cs l h1 h2
 |fn f as bs ls ms h1 h2 h3 h4=>exact .fn f as bs ls ms h1 h2 h3 h4
def o7(P:au)(t:an):Option FK:=
 match P.underlying t with
 |some (.int k)=>some (.int k)
 |some .bool=>some .bool
 |some .string=>some .str
 |_=>none
def qM(P:au):Nat->List Field->Option (List FK)
 |_,[]=>some []
 |i,f::r=>match o7 P f.type,qM P (i+1) r with
  |some k,some l=>if f.name≠ "_" /\f.offset=i/\tT P f.type=some (1,false) then some (k::l) else none
  |_,_=>none
def Mu(P:au)(t:an):Option (List FK×Bool):=
 match o7 P t with
 |some k=>some ([k],false)
 |none=>match P.underlying t with
  |some (.struct fs)=>if P.stoodInHeld t=false/\Nat.ble 2 P.depth=true then(match qM P 0 fs.toList with|some l=>some (l,true)|none=>none) else none
  |_=>none
def Q4:PV->PV->Bool
 |.int _ n,.int _ m=>decide (n=m)
 |.bool a,.bool b=>a==b
 |.str a,.str b=>decide (a=b)
 |_,_=>false
def iF:List PV->List PV->Bool
 |[],[]=>true
 |p::r,q::s=>Q4 p q&&iF r s
 |_,_=>false
section
variable{P:au}{F:Nat->Prop}{μ:aN}{σ:ab}{w:aj}
theorem mf{k:FK}{p:PV}{v:ah}(hk:k.ok p=true)(h:RP F w v p):(∃kd n,k= .int kd/\p= .int kd n/\v= .int kd n)\/(∃b,k= .bool/\p= .bool b/\v= .bool b)\/(∃s,k= .str/\p= .str s/\v= .string s):=by
 cases k<;>cases h<;>simp[FK.ok] at hk
 · subst hk;exact .inl ⟨_,_,rfl,rfl,rfl⟩
 · exact .inr (.inl ⟨_,rfl,rfl,rfl⟩)
 · exact .inr (.inr ⟨_,rfl,rfl,rfl⟩)
theorem F7{t:an}{k:IntKind}(h:o7 P t=some (.int k)):P.underlying t=some (.int k):=by
 unfold o7 at h;split at h<;>simp_all
theorem Cp{t:an}(h:o7 P t=some .bool):P.underlying t=some .bool:=by
 unfold o7 at h;split at h<;>simp_all
theorem F8{t:an}(h:o7 P t=some .str):P.underlying t=some .string:=by
 unfold o7 at h;split at h<;>simp_all
theorem tq{t:an}{k:FK}(ht:o7 P t=some k){p q:PV}{v u:ah}(hp:k.ok p=true)(hq:k.ok q=true)(hv:RP F w v p)(hu:RP F w u q)(d:Nat)(w':aj):
 (Op.equalIn (d+1) t v u).run P w'= .ok (Q4 p q) w':=by
 rcases mf hp hv with⟨kd,n,rfl,rfl,rfl⟩|⟨b,rfl,rfl,rfl⟩|⟨s,rfl,rfl,rfl⟩
 · rcases mf hq hu with⟨Xl,m,e,rfl,rfl⟩|⟨b,e,_⟩|⟨s,e,_⟩
   · injection e with e;subst e
     rw[run_equalIn_int w' d t _ _ n m (F7 ht)];congr 1
   · cases e
   · cases e
 · rcases mf hq hu with⟨Xl,m,e,_⟩|⟨b',e,rfl,rfl⟩|⟨s,e,_⟩
   · cases e
   · exact run_equalIn_bool' w' d t b b' (Cp ht)
   · cases e
 · rcases mf hq hu with⟨Xl,m,e,_⟩|⟨b',e,_⟩|⟨s',e,rfl,rfl⟩
   · cases e
   · cases e
   · rw[run_equalIn_string w' d t s s' (F8 ht),toList_inj];rfl
theorem ij:∀{ks:List FK} {l:List PV},gB ks l=true->ks.length=l.length
 |[],[],_=>rfl
 |k::r,p::s,h=>by simp only[gB,aQ] at h;simp[ij h.2]
 |[],_::_,h=>by simp[gB] at h
 |_::_,[],h=>by simp[gB] at h
theorem F9:∀{ks:List FK} {l:List PV} {i:Nat} {k:FK} {p:PV},gB ks l=true->ks[i]? =some k->l[i]? =some p->k.ok p=true
 |k::r,p::s,i,k',p',h,hk,hp=>by
  simp only[gB,aQ] at h
  cases i with
  |zero=>simp at hk hp;subst hk;subst hp;exact h.1
  |succ i=>simp at hk hp;exact F9 h.2 hk hp
theorem oA{t:an}(h:tT P t=some (1,false))(cs:Array ah){off:Nat}{v:ah}(hv:cs[off]? =some v)(w':aj):(part t cs off).run P w'= .ok v w':=by
 simp[part,kJ h,hv]
theorem uz{xs ys:Array ah}{cs ds:List PV}(jd:xs.size=cs.length)(UW:ys.size=ds.length)(hx:∀(i:Nat) p,cs[i]? =some p->RP F w (xs[i]?.getD undef) p)(hy:∀(i:Nat) p,ds[i]? =some p->RP F w (ys[i]?.getD undef) p)(d:Nat)(w':aj):
 ∀(fs:List Field) (i:Nat) (ks:List FK),qM P i fs=some ks->gB ks (cs.drop i)=true->gB ks (ds.drop i)=true->
  (Op.eqFields (d+1) xs ys fs).run P w'= .ok (iF (cs.drop i) (ds.drop i)) w'
 |[],i,ks,h,hc,hd=>by
  simp[qM] at h;subst h;have e1:cs.drop i=[]:=qn.1 (ij hc).symm;have e2:ds.drop i=[]:=qn.1 (ij hd).symm;rw[e1,e2];rfl
 |f::fs,i,ks,h,hc,hd=>by
  simp only[qM] at h;split at h
  · rename_i k l hk hl
    split at h
    · rename_i hf
      obtain⟨h1,h2,h3⟩:=hf;injection h with h;subst h;have lc:=ij hc;have ld:=ij hd;simp only[ea,nz] at lc ld;(have A2:i<cs.length:=by omega);(have oW:i<ds.length:=by omega);(have ec:cs.drop i=cs[i]::cs.drop (i+1):=by rw[gP A2]);(have ed:ds.drop i=ds[i]::ds.drop (i+1):=by rw[gP oW]);rw[ec] at hc ⊢;rw[ed] at hd ⊢;simp only[gB,aQ] at hc hd;have Xm:=hx i cs[i] (aV A2);have Xn:=hy i ds[i] (aV oW);rw[dh (by omega)] at Xm Xn;have rx:RP F w xs[i] cs[i]:=Xm;have ry:RP F w ys[i] ds[i]:=Xn;have px:(part f.type xs f.offset).run P w'= .ok xs[i] w':=oA h3 xs (by rw[h2];exact dh (by omega)) w';have py:(part f.type ys f.offset).run P w'= .ok ys[i] w':=oA h3 ys (by rw[h2];exact dh (by omega)) w';have re:=tq (P:=P) (F:=F) (w:=w) hk hc.1 hd.1 rx ry d w';simp only[Op.eqFields,h1,ne_eq,not_false_eq_true,if_true,bu,px,py,re,bD,iF]
      cases Q4 cs[i] ds[i] with
      |false=>simp
      |true=>
       simp only[Bool.not_true,mB,if_false,dZ];exact uz jd UW hx hy d w' fs (i+1) l hl hc.2 hd.2
    · cases h
  · cases h
theorem yM{t:an}{k:FK}(h:o7 P t=some k):∀d,1<=d->P.eqGuardType d t=false:=λd hd=>by
 cases d with
 |zero=>omega
 |succ d=>
  unfold o7 at h;unfold Program.eqGuardType;split at h<;>first|(rename_i e;rw[e];done)|(rename_i e;simp[e];done)|cases h
theorem wH:∀(fs:List Field) (i:Nat) (l:List FK),qM P i fs=some l-> ∀d,1<=d->(fs.any λf=>f.name != "_" &&P.eqGuardType d f.type)=false
 |[],_,_,_,_,_=>rfl
 |f::r,i,l,h,d,hd=>by
  simp only[qM] at h;split at h
  · rename_i k l' hk hl
    simp only[List.any_cons,yM hk d hd,Bool.and_false,Bool.false_or];exact wH r _ _ hl d hd
  · cases h
theorem DT{t:an}{fs:Array Field}{l:List FK}(hu:P.underlying t=some (.struct fs))(h:qM P 0 fs.toList=some l):∀d,2<=d->P.eqGuardType d t=false:=λd hd=>by
 cases d with
 |zero=>omega
 |succ d=>
  unfold Program.eqGuardType;rw[hu];have:=wH fs.toList 0 l h d (by omega);simpa using this
theorem mP{t:an}{ks:List FK}(h:Mu P t=some (ks,true)):∃fs,P.underlying t=some (.struct fs)/\P.stoodInHeld t=false/\P.eqGuardType P.depth t=false/\qM P 0 fs.toList=some ks:=by
 unfold Mu at h;split at h
 · simp at h
 · split at h
   · rename_i fs ZI
     split at h
     · rename_i hc
       split at h
       · rename_i l hl
         simp at h;subst h;exact⟨fs,ZI,hc.1,DT ZI hl _ (qq hc.2),hl⟩
       · cases h
     · cases h
   · cases h
theorem x5{t:an}{ks:List FK}(h:Mu P t=some (ks,false)):∃k,o7 P t=some k/\ks=[k]:=by
 unfold Mu at h;split at h
 · rename_i k hk;simp at h;exact⟨k,hk,h.symm⟩
 · split at h
   · split at h
     · split at h<;>simp at h
     · cases h
   · cases h
theorem Cq{t:an}{ks:List FK}(ht:Mu P t=some (ks,true)){v u:ah}{cs ds:List PV}(hv:RP F w v (.agg cs))(hu:RP F w u (.agg ds))(hc:gB ks cs=true)(hd:gB ks ds=true)(d:Nat)(w':aj):
 (Op.equalIn (d+2) t v u).run P w'= .ok (iF cs ds) w':=by
 obtain⟨fs,h1,h2,h3,h4⟩:=mP ht
 cases hv with
 |agg xs _ jd hx=>
  cases hu with
  |agg ys _ UW hy=>
   (have e:P.fieldsOf t=fs:=by simp[Program.fieldsOf,h1]);rw[run_equalIn_struct w' (d+1) t xs ys (by rw[e];exact h1) h2,e];exact uz jd UW hx hy d w' fs.toList 0 ks h4 (by simpa using hc) (by simpa using hd)
theorem Mv{t:an}{kt:KT}(ht:Mu P t=some kt){v u:ah}{p q:PV}(hv:RP F w v p)(hu:RP F w u q)(hp:qd kt p=true)(hq:qd kt q=true)(w':aj):(Op.equal t v u).run P w'= .ok (iF p.cells q.cells) w':=by
 obtain⟨ks,g⟩:=kt
 cases g with
 |true=>
  cases p<;>simp only[qd] at hp<;>try(cases hp;done)
  cases q<;>simp only[qd] at hq<;>try(cases hq;done)
  exact Cq ht hv hu hp hq 9998 w'
 |false=>
  obtain⟨k,hk,rfl⟩:=x5 ht;simp only[qd,gB,Bool.and_true] at hp hq
  have one:∀{p:PV},k.ok p=true->p.cells=[p]:=by
   intro p h;cases p<;>first|rfl|(cases k<;>simp[FK.ok] at h)
  rw[one hp,one hq];have:=tq (P:=P) hk hp hq hv hu 9999 w';rw[show Op.equal t v u=Op.equalIn 10000 t v u from rfl,this];simp[iF]
end
section
variable{β:Type}{P:au}{F:Nat->Prop}{μ:aN}{σ:ab}{w:aj}{nid:Nat}
def aT(k:PV):Nat->List (PV×β)->Option (Nat×β)
 |_,[]=>none
 |i,(k',v)::r=>match iF k.cells k'.cells with
  |true=>some (i,v)
  |false=>aT k (i+1) r
def cK(k:PV)(m:List (PV×β)):Option β:=(aT k 0 m).map Prod.snd
def dr(k:PV)(v:β)(m:List (PV×β)):List (PV×β):=
 match aT k 0 m with
 |some (i,_)=>m.set i (k,v)
 |none=>m++[(k,v)]
theorem vH{k:FK}{p:PV}(h:k.ok p=true):p.cells=[p]:=by
 cases p<;>first|rfl|(cases k<;>simp[FK.ok] at h)
def cD(m:List (PV×β))(es:List dS)(k:PV)(i0:Nat):Option (Nat×ah):=
 match aT k i0 m with
 |some (i,_)=>some (i,((es[i-i0]?).map (·.val)).getD undef)
 |none=>none
theorem fH{k:PV}:∀{m:List (PV×β)} {i0 i:Nat} {v:β},aT k i0 m=some (i,v)->i0<=i/\ ∃k',m[i-i0]? =some (k',v)/\iF k.cells k'.cells=true
 |[],i0,i,v,h=>by simp[aT] at h
 |(k',v')::r,i0,i,v,h=>by
  simp only[aT] at h;split at h
  · rename_i e
    simp at h;obtain⟨rfl,rfl⟩:=h;exact⟨aX _,k',by simp,e⟩
  · obtain⟨h1,k2,h2,h3⟩:=fH h
    refine⟨by omega,k2,?_,h3⟩;rw[show i-i0=(i-(i0+1))+1 by omega];simpa using h2
theorem qN{t:an}{kt:KT}(ht:Mu P t=some kt){v:ah}{k:PV}(hv:RP F w v k)(hk:qd kt k=true)(w':aj):
 ∀(m:List (PV×β)) (es:List dS) (i0:Nat),es.length=m.length->(∀x∈m,qd kt x.1=true)->(∀(i:Nat) k' v' e,m[i]? =some (k',v')->es[i]? =some e->RP F w e.key k')->
  (Instr.findAsking t v es i0).run P w'= .ok (cD m es k i0) w'
 |[],[],i0,_,_,_=>by simp[Instr.findAsking,cD,aT]
 |(k',v')::m,e::es,i0,hl,hm,hr=>by
  have h1:=Mv (P:=P) ht hv (hr 0 k' v' e rfl rfl) hk (hm (k',v') (by simp)) w';have ih:=qN ht hv hk w' m es (i0+1) (by simpa using hl) (λx hx=>hm x (by simp[hx])) (λi a b c ha hc=>hr (i+1) a b c (by simpa using ha) (by simpa using hc));simp only[Instr.findAsking,bu,h1,bD]
  cases he:iF k.cells k'.cells with
  |true=>simp[cD,aT,he]
  |false=>
   simp only[mB,if_false,ih];simp only[cD,aT,he]
   cases hf:aT k (i0+1) m with
   |none=>rfl
   |some x=>
    obtain⟨i,u⟩:=x;have:=(fH hf).1;simp only;rw[show i-i0=(i-(i0+1))+1 by omega];rfl
theorem run_findKey{t:an}{kt:KT}(ht:Mu P t=some kt){v:ah}{k:PV}(hv:RP F w v k)(hk:qd kt k=true)(w':aj)(m:List (PV×β))(es:List dS)
 (hl:es.length=m.length) (hm:∀x∈m,qd kt x.1=true) (hr:∀(i:Nat) k' v' e,m[i]? =some (k',v')->es[i]? =some e->RP F w e.key k'):
   (Instr.findKey t v es).run P w'= .ok (cD m es k 0) w':=by
 obtain⟨ks,g⟩:=kt
 have hasU:∃d,P.underlying t=some d:=by
  cases g with
  |true=>obtain⟨fs,h,_⟩:=mP ht;exact⟨_,h⟩
  |false=>
   obtain⟨k',km,_⟩:=x5 ht;unfold o7 at km;split at km<;>first|exact⟨_,‹_›⟩|cases km
 obtain⟨d,hd⟩:=hasU;have hask:=qN (P:=P) ht hv hk w' m es 0 hl hm hr
 have now:∀(m:List (PV×β)) (es:List dS) (i0:Nat),es.length=m.length->(∀x∈m,qd (ks,g) x.1=true)->(∀(i:Nat) k' v' e,m[i]? =some (k',v')->es[i]? =some e->RP F w e.key k')->
  Instr.findNow d v es i0=some (cD m es k i0)\/Instr.findNow d v es i0=none:=by
  intro m
  induction m with
  |nil=>
   intro es i0 hl _ _;(have:es=[]:=by simpa using hl);subst this;exact .inl (by simp[Instr.findNow,cD,aT])
  |cons x m ih=>
   obtain⟨k',v'⟩:=x;intro es i0 hl hm hr
   cases es with
   |nil=>simp at hl
   |cons e es=>
    have ZJ:=ih es (i0+1) (by simpa using hl) (λx hx=>hm x (by simp[hx])) (λi a b c ha hc=>hr (i+1) a b c (by simpa using ha) (by simpa using hc));have jq:=hr 0 k' v' e rfl rfl;have km:=hm (k',v') (by simp)
    have hs:Instr.sameNow d v e.key=none\/Instr.sameNow d v e.key=some (iF k.cells k'.cells):=by
     cases g with
     |true=>
      left;obtain⟨fs,h,_⟩:=mP ht
      rw[hd] at h;injection h with h;subst h
      simp[Instr.sameNow]
     |false=>
      right;obtain⟨kk,A3,rfl⟩:=x5 ht;simp only[qd,gB,Bool.and_true] at hk km;rw[vH hk,vH km];rcases mf hk hv with⟨kd,n,rfl,rfl,rfl⟩|⟨b,rfl,rfl,rfl⟩|⟨s,rfl,rfl,rfl⟩
      · rcases mf km jq with⟨Xl,n',e1,rfl,e3⟩|⟨b,e1,_⟩|⟨s,e1,_⟩
        · injection e1 with e1;subst e1
          have:=F7 A3
          rw[hd] at this;injection this with this;subst this
          rw[e3];simp[Instr.sameNow,iF,Q4,Bool.beq_eq_decide_eq]
        · cases e1
        · cases e1
      · rcases mf km jq with⟨Xl,n',e1,_⟩|⟨b',e1,rfl,e3⟩|⟨s,e1,_⟩
        · cases e1
        · have:=Cp A3
          rw[hd] at this;injection this with this;subst this
          rw[e3];simp[Instr.sameNow,iF,Q4]
        · cases e1
      · rcases mf km jq with⟨Xl,n',e1,_⟩|⟨b',e1,_⟩|⟨s',e1,rfl,e3⟩
        · cases e1
        · cases e1
        · have:=F8 A3
          rw[hd] at this;injection this with this;subst this
          rw[e3];(have e4:(s==s')=decide (s=s'):=by rw[<-toList_inj,beq_toListBytes]);simp[Instr.sameNow,iF,Q4,e4]
    rcases hs with hs|hs
    · right;simp[Instr.findNow,hs]
    · cases he:iF k.cells k'.cells with
      |true=>rw[he] at hs;left;simp[Instr.findNow,hs,cD,aT,he]
      |false=>
       rw[he] at hs;simp only[Instr.findNow,hs];rcases ZJ with h|h
       · left
         rw[h];simp only[cD,aT,he]
         cases hf:aT k (i0+1) m with
         |none=>rfl
         |some x=>
          obtain⟨i,u⟩:=x;have:=(fH hf).1;simp only;rw[show i-i0=(i-(i0+1))+1 by omega];rfl
       · right;exact h
 simp only[Instr.findKey,bu,run_underlying hd,bD];rcases now m es 0 hl hm hr with h|h
 · rw[h];rfl
 · rw[h];exact hask
theorem run_checkKey{t:an}{kt:KT}(ht:Mu P t=some kt){v:ah}{k:PV}(hv:RP F w v k)(hk:qd kt k=true)(e:Bool)(w':aj):(Instr.checkKey e 10000 t v).run P w'= .ok () w':=by
 obtain⟨ks,g⟩:=kt
 have one:∀(n:Nat) {t:an} {kk:FK} {p:PV} {v:ah},o7 P t=some kk->(Instr.checkKey e (n+1) t v).run P w'= .ok () w':=by
  intro n t kk p v hf;unfold o7 at hf;split at hf<;>first|(rename_i hu;simp[Instr.checkKey,run_underlying hu];done)|cases hf
 cases g with
 |false=>
  obtain⟨kk,A3,rfl⟩:=x5 ht;exact one 9999 (p:=k) A3
 |true=>
  obtain⟨fs,h1,_,_,h4⟩:=mP ht;(cases k<;>simp only[qd] at hk<;>try(cases hk;done));rename_i cs
  cases hv with
  |agg xs _ jd hx=>
  have all:∀(fs:List Field) (i:Nat) (ks:List FK),qM P i fs=some ks->gB ks (cs.drop i)=true-> ∀f∈fs,tT P f.type=some (1,false)/\(∃kk,o7 P f.type=some kk)/\f.offset<cs.length:=by
   intro fs
   induction fs with
   |nil=>intro i ks _ _ f hf;simp at hf
   |cons f fs ih=>
    intro i ks h hc g hg;simp only[qM] at h;split at h
    · rename_i k l hk hl
      split at h
      · rename_i hf
        injection h with h;subst h;have lc:=ij hc;simp only[ea,nz] at lc;(have A2:i<cs.length:=by omega);(have ec:cs.drop i=cs[i]::cs.drop (i+1):=by rw[gP A2]);rw[ec] at hc;simp only[gB,aQ] at hc;rcases cy.1 hg with hg|hg
        · subst hg;exact⟨hf.2.2,⟨_,hk⟩,by omega⟩
        · exact ih (i+1) l hl hc.2 g hg
      · cases h
    · cases h
  have qQ:=all fs.toList 0 ks h4 (by simpa using hk);rw[show(10000:Nat)=9999+1 from rfl,Instr.checkKey];simp only[bu,run_underlying h1,bD];rw[<-Array.forIn_toList];revert qQ;generalize fs.toList=l;intro qQ;clear h4 h1
  induction l with
  |nil=>simp
  |cons f l ih=>
   obtain⟨a1,⟨kk,a2⟩,a3⟩:=qQ f (by simp);have hp:(part f.type xs f.offset).run P w'= .ok (xs[f.offset]'(by omega)) w':=oA a1 xs (dh (by omega)) w';have hc:=one 9998 (t:=f.type) (p:= .yl) (v:=xs[f.offset]'(by omega)) a2;have ZJ:=ih λg hg=>qQ g (by simp[hg]);simp only[List.forIn_cons,bu,Sem.run_ite];split
   · simp only[bu,hp,bD,hc,cg]
     exact ZJ
   · simp only[cg,bD]
     exact ZJ
end
structure jr{β:Type}(o:Option β)(A:β->Prop)(B:Prop):Prop where
 s:∀v,o=some v->A v
 n:o=none->B
theorem jr.of{α β:Type}{o:Option β}{q:Option α}{f:α->β}{A:β->Prop}{B:Prop}(h:o=q.map f)(s:∀y,q=some y->A (f y))(n:q=none->B):jr o A B:=by
 subst h;refine⟨λv e=>?_,λe=>?_⟩
 · cases q with
   |none=>cases e
   |some y=>injection e with e;subst e;exact s y rfl
 · cases q with
   |none=>exact n rfl
   |some y=>cases e
theorem jr.nn{β:Type}{A:β->Prop}{B:Prop}(h:B):jr none A B:=⟨λ_ e=>absurd e (λk=>by cases k),λ_=>h⟩
theorem jr.ss{β:Type}{v:β}{A:β->Prop}{B:Prop}(h:A v):jr (some v) A B:=⟨λu e=>(gH e)▸h,λe=>absurd e (λk=>by cases k)⟩
def ko(P:au)(t:an):Option (KT×an):=
 match P.underlying t with
 |some (.map k e)=>(match Mu P k with|some kt=>some (kt,e)|none=>none)
 |_=>none
def N6(P:au)(t:an)(K:AV->Prop):Prop:=
 match P.info? t with
 |some i=>(match i.zero with|some v=>K (DG v)|none=>False)
 |none=>False
def yN(P:au)(t:an)(ok:Bool)(x6:KT)(m:List (PV×PV))(k:AV)(K:AV->Prop):Prop:=
 match ko P t,k with
 |some (kt,e),.p key=>(x6=kt/\qd kt key=true)/\(match ok with
  |true=>jr (cK key m) (λv=>K (.p (.bR [v,.bool true]))) (N6 P e λz=>K (Oo [z,.p (.bool false)]))
  |false=>jr (cK key m) (λv=>K (.p v)) (N6 P e K))
 |_,_=>False
def o8(P:au)(t:an)(x k:AV)(ok:Bool)(σ:ab)(K:AV->Prop):Prop:=
 match x with
 |.mp o=>(match σ.get o with|.map kt m=>yN P t ok kt m k K|_=>False)
 |.p (.mp kt m)=>yN P t ok kt m k K
 |_=>False
def Cr(P:au)(t:an)(o:Nat)(k:AV)(ok:Bool)(x6:KT)(sz:Nat)(m:List (PV×MV))(nid:Nat)(K:AV->ab->Prop):Prop:=
 match ko P t,k,ok with
 |some (kt,e),.p key,false=>(x6=kt/\qd kt key=true)/\jr (cK key m) (λx=>match x with
   |.h l=>K (.bo nid sz 0 l.length) [(nid,.row sz l),(o,.cN kt sz (dr key (.v (.bo nid sz 0 l.length)) m))]
   |.v a=>K a []) (N6 P e λz=>K z [])
 |_,_,_=>False
def Cs(op:Op)(ev:aL->AV)(σ:ab):Option (an×Nat×AV×Bool×KT×Nat×List (PV×MV)):=
 match op with
 |.lookup t x i ok=>(match ev x with
  |.mp o=>(match σ.get o with
   |.cN kt sz m=>some (t,o,ev i,ok,kt,sz,m)
   |_=>none)
  |_=>none)
 |_=>none
def Bh(P:au)(t:an)(x:AV)(K:AV->Prop):Prop:=
 match x with
 |.jb _ _ _ _ cap=>(tE P t).isSome=true/\K (.p (.int .i64 cap))
 |_=>False
def Ct(P:au)(t:an)(o sz i len cap:Nat)(lo hi mx:Option AV)(K:AV->Prop):Prop:=
 match tE P t,oe 0 lo,oe len hi,mx with
 |some (s,_),some a,some b,none=>(sz=s/\0<=a/\a<=b/\b<=cap)/\K (.jb o sz (i+a.toNat) (b.toNat-a.toNat) (cap-a.toNat))
 |_,_,_,_=>False
def RU:PV->PV->(Bool->Prop)->Prop
 |.int _ n,.int _ m,K=>K (decide (n=m))
 |.bool a,.bool b,K=>K (a==b)
 |.str a,.str b,K=>K (decide (a=b))
 |_,_,_=>False
def TU:List PV->List PV->(Bool->Prop)->Prop
 |[],[],K=>K true
 |p::r,q::s,K=>RU p q λb=>(match r with | []=>(match s with | []=>K b|_=>False)|_=>TU r s λc=>K (b&&c))
 |_,_,_=>False
theorem Mw{p q:PV}{K:Bool->Prop}(h:RU p q K):K (Q4 p q):=by
 cases p<;>cases q<;>first|exact h.elim|exact h
theorem qR:∀{a b:List PV} {K:Bool->Prop},TU a b K->K (iF a b)
 |[],[],K,h=>h
 |[],_::_,K,h=>h.elim
 |_::_,[],K,h=>h.elim
 |p::r,q::s,K,h=>by
  have h1:=Mw h
  cases r with
  |nil=>
   cases s with
   |nil=>simpa[iF] using h1
   |cons _ _=>exact h1.elim
  |cons x r=>
   have h2:=qR (a:=x::r) (b:=s) h1;exact h2
def ZK(P:au)(t:an):Option (Nat×FK):=
 match P.underlying t with
 |some (.array n e)=>(match o7 P e with
  |some k=>if tT P e=some (1,false)/\Nat.ble 2 P.depth=true then some (n,k) else none
  |none=>none)
 |_=>none
def Cu(P:au)(op:BinOp)(t:an)(a b:List PV)(K:AV->Prop):Prop:=
 match Mu P t with
 |some (ks,true)=>(gB ks a=true/\gB ks b=true)/\(match op with|.eql=>TU a b λr=>K (.p (.bool r))|.neq=>TU a b λr=>K (.p (.bool !r))|_=>False)
 |some (_,false)=>False
 |none=>match ZK P t with
  |some (n,k)=>(gB (ck n k) a=true/\gB (ck n k) b=true)/\(match op with|.eql=>TU a b λr=>K (.p (.bool r))|.neq=>TU a b λr=>K (.p (.bool !r))|_=>False)
  |none=>False
def KS(P:au)(t:an):Bool:=
 match P.underlying t with
 |some (.chan _ e)=>(match P.info? e with|some i=>decide (i.bytes<=100000)|none=>false)
 |_=>false
def Bi(P:au)(t:an)(x:AV)(σ:ab)(K:AV->Prop):Prop:=
 match x with
 |.mp o=>(match σ.get o with|.map _ m=>(ko P t).isSome=true/\K (.p (.int .i64 m.length))|_=>False)
 |.p (.mp _ m)=>(ko P t).isSome=true/\K (.p (.int .i64 m.length))
 |.ch o=>(match σ.get o with|.chan _ b=>KS P t=true/\K (.p (.int .i64 b.length))|_=>False)
 |x=>vB (uc x) P t K
structure Nx(o:Nat)(rem:List (PV×PV))(K:AV->ab->Prop):Prop where
 z:rem=[]->K (.p (.bR [.bool false])) []
 s:∀(i:Nat) k v,rem[i]? =some (k,v)->K (.p (.bR [.bool true,k,v])) [(o,.iter (rem.eraseIdx i) (some (k,v)))]
theorem Nx.of{α:Type}{o:Nat}{f:α->PV×PV}{R:List α}{K:AV->ab->Prop}(h1:R=[]->K (.p (.bR [.bool false])) [])(h2:∀(i:Nat) x,R[i]? =some x->K (.p (.bR [.bool true,(f x).1,(f x).2])) [(o,.iter ((R.eraseIdx i).map f) (some (f x)))]):Nx o (R.map f) K:=by
 refine⟨λh=>h1 (by simpa using h),λi k v h=>?_⟩;rw[aW] at h;obtain⟨x,hx,e⟩:=cm.1 h;have:=h2 i x hx;(have em:(R.map f).eraseIdx i=(R.eraseIdx i).map f:=by simp[List.eraseIdx_eq_take_drop_succ,List.map_take,List.map_drop]);rw[e] at this;rw[em];exact this
def IQ(P:au)(t:an)(x:AV)(nid:Nat)(K:AV->ab->Prop):Prop:=
 match x with
 |.p (.mp _ m)=>(ko P t).isSome=true/\K (.ptr nid 0) [(nid,.iter m none)]
 |_=>False
def OI(x:AV)(s:Bool)(σ:ab)(K:AV->ab->Prop):Prop:=
 match x,s with
 |.ptr o 0,false=>(match σ.get o with|.iter rem _=>Nx o rem K|_=>False)
 |_,_=>False
def IS(x:AV)(σ:ab)(K:AV->Prop):Prop:=
 match x with
 |.ptr o 0=>(match σ.get o with|.iter _ (some c)=>K (.p (.bR [c.1,c.2]))|_=>False)
 |_=>False
def yQ(P:au)(op:Op)(ev:aL->AV)(σ:ab)(K:AV->Prop):Prop:=
 match op with
 |.move x=>K (ev x)
 |.assign x=>K (ev x)
 |.lookup t x i ok=>o8 P t (ev x) (ev i) ok σ K
 |.slice t x lo hi mx=>(match ev x with
  |.jb o sz i len cap=>Ct P t o sz i len cap (lo.map ev) (hi.map ev) (mx.map ev) K
  |_=>xQ P (.slice t x lo hi mx) ev σ K)
 |.binOp ZL t x y z=>(match ev x,ev y with
  |.p (.agg a),.p (.agg b)=>Cu P ZL t a b K
  |_,_=>xQ P (.binOp ZL t x y z) ev σ K)
 |.call c=>(match c.callee with
  |.builtin .cap=>(match c.args.toList,c.argTypes[0]? with | [x],some t=>Bh P t (ev x) K|_,_=>False)
  |.builtin .len=>(match c.args.toList,c.argTypes[0]? with | [x],some t=>Bi P t (ev x) σ K|_,_=>False)
  |_=>xQ P (.call c) ev σ K)
 |op=>xQ P op (λx=>uc (ev x)) σ K
def jy(Z:List Nat):ab:=Z.map λo=>(o,.dead)
def sd(P:au)(t xt:an)(a x:AV)(σ:ab)(nid:Nat)(K:AV->ab->Prop):Prop:=
 mv σ 60 x [] λp Z=>fW P t xt a (.p p) (jy Z++σ) nid λv us=>K v (us++jy Z)
def mg(P:au)(t xt:an)(a x:AV)(σ:ab)(nid:Nat)(K:AV->ab->Prop):Prop:=
 match isCells x,isCells a with
 |true,false=>sd P t xt a x σ nid K
 |_,_=>fW P t xt a x σ nid K
def Cv(P:au)(t:an)(a x:AV)(σ:ab)(nid:Nat)(K:AV->ab->Prop):Prop:=
 match a,x,tE P t,Mm P t,tB P t with
 |.jb o sz i len cap,.p (.int k n),some (s,g),some z,some bt=>(match σ.get o with
  |.row e8 l=>((xY s (kz g z)/\(kz g z).cells=z/\z.length=s/\0<s/\bt<=100000)/\(k= .i64/\sz=s/\e8=s/\i+len<=l.length/\len<=cap/\0<=n/\(cap:Int)<len+n/\(len:Int)+n<=1000000000))/\
    K (.bo nid s 0 (len+n.toNat)) [(nid,.row s ((l.drop i).take len++ck n.toNat (kz g z)))]
  |_=>False)
 |_,_,_,_,_=>False
def Cw(P:au)(t:an)(a x:AV)(σ:ab)(nid:Nat)(K:AV->ab->Prop):Prop:=
 match a,x,tE P t,Mm P t,tB P t with
 |.bo o sz i len,.p (.int k n),some (s,g),some z,some bt=>(match σ.get o with
  |.row e8 l=>((xY s (kz g z)/\(kz g z).cells=z/\z.length=s/\0<s/\bt<=100000)/\(k= .i64/\sz=s/\e8=s/\i=0/\len=l.length/\0<=n/\(len:Int)+n<=1000000000))/\
    K (.bo nid s 0 (len+n.toNat)) [(nid,.row s (l++ck n.toNat (kz g z))),(o,.dead)]
  |_=>False)
 |_,_,_,_,_=>False
def Ga(P:au)(t:an)(a x:AV)(σ:ab)(nid:Nat)(K:AV->ab->Prop):Prop:=
 match a with
 |.bo o sz i len=>Cw P t (.bo o sz i len) x σ nid K
 |a=>Cv P t a x σ nid K
structure vI(A B:Prop):Prop where
 h:A\/B
theorem vI.l{A B:Prop}(h:A):vI A B:=⟨.inl h⟩
theorem vI.r{A B:Prop}(h:B):vI A B:=⟨.inr h⟩
def yO(P:au)(t xt:an)(x:AV)(A:Prop):Prop:=
 match x with
 |.p (.sl _ _ [])=>(nC P xt=true/\(tE P t).isSome=true)/\A
 |_=>False
def mh(P:au)(t xt:an)(a x:AV)(σ:ab)(nid:Nat)(K:AV->ab->Prop):Prop:=
 match o4 P xt with
 |true=>Ga P t a x σ nid K
 |false=>(match a with
  |.jb o sz i len cap=>vI (mg P t xt (.bo o sz i len) (uc x) σ nid K) (yO P t xt x (K (.jb o sz i len cap) []))
  |a=>mg P t xt (uc a) (uc x) σ nid K)
def oB(P:au)(t:an)(nid:Nat)(K:AV->ab->Prop):Prop:=
 match tE P t,Mm P t with
 |some (s,_),some z=>(z.length=s/\0<s)/\K (.jb nid s 0 0 0) [(nid,.row s [])]
 |_,_=>False
def vJ(P:au)(t:an)(a x:AV)(σ:ab)(K:AV->ab->Prop):Prop:=
 mv σ 60 x [] λp Z=>gC P t a (.p p) (jy Z++σ) λv us=>K v (us++jy Z)
def UX:AV->Bool
 |.cr _ _ _ _=>true
 |_=>false
def UY:AV->Bool
 |.p _=>true
 |_=>false
def vK(P:au)(t:an)(a x:AV)(σ:ab)(K:AV->ab->Prop):Prop:=
 match UX a,UY x with
 |true,false=>vJ P t a x σ K
 |_,_=>gC P t a x σ K
def oC(P:au)(t:an)(o sz i len Mx i2 n:Nat)(σ:ab)(K:AV->ab->Prop):Prop:=
 match tE P t,σ.get o with
 |some (s,_),.row e8 l=>((sz=s/\Mx=s/\e8=s/\0<s)/\i<=l.length/\i2+min n len<=l.length)/\
   K (.p (.int .i64 (min n len:Nat))) [(o,.row s (l.take i++((l.drop i2).take (min n len))++l.drop (i+min n len)))]
 |_,_=>False
def Cy(P:au)(t:an)(a x:AV)(σ:ab)(K:AV->ab->Prop):Prop:=
 match a,x with
 |.bo o sz i len,.bo o2 Mx i2 n=>(match Nat.beq o o2 with
  |true=>oC P t o sz i len Mx i2 n σ K
  |false=>me P t (.bo o sz i len) (.bo o2 Mx i2 n) σ K)
 |a,x=>me P t a x σ K
def tr(P:au)(t:an)(x:AV)(σ:ab)(K:AV->ab->Prop):Prop:=
 match x,tE P t,Mm P t with
 |.bo o sz i len,some (s,g),some z=>(match σ.get o with
  |.row e8 l=>(sz=s/\e8=s/\0<s/\i+len<=l.length/\xY s (kz g z)/\(kz g z).cells=z)/\K db [(o,.row s (l.take i++ck len (kz g z)++l.drop (i+len)))]
  |_=>False)
 |_,_,_=>False
def My(P:au)(t:an)(m k v:AV)(σ:ab)(K:AV->ab->Prop):Prop:=
 match m,k,v with
 |.mp o,.p key,.p val=>(match σ.get o,ko P t with
  |.map kt l,some (x6,_)=>(x6=kt/\qd kt key=true)/\K db [(o,.map kt (dr key val l))]
  |_,_=>False)
 |_,_,_=>False
def IT(P:au)(t:an)(m k v:AV)(σ:ab)(K:AV->ab->Prop):Prop:=
 match m,k,v with
 |.mp o,.p key,.bo n sz i len=>(match σ.get o,ko P t,σ.get n with
  |.cN kt e8 l,some (x6,_),.row OJ r=>(x6=kt/\qd kt key=true/\sz=e8/\OJ=e8/\i=0/\len=r.length/\n≠o)/\K db [(o,.cN kt e8 (dr key (.h r) l)),(n,.dead)]
  |_,_,_=>False)
 |m,k,v=>My P t m k v σ K
def Cz(P:au)(t:an)(n:AV)(nid:Nat)(K:AV->ab->Prop):Prop:=
 match n,KS P t with
 |.p (.int k n),true=>(0<=n/\n<=1000000000/\k= .i64)/\K (.ch nid) [(nid,.chan n.toNat [])]
 |_,_=>False
def CA(P:au)(s d:an)(o sz i len:Nat)(σ:ab)(K:AV->ab->Prop):Prop:=
 match tC P d,σ.get o with
 |.bytes,.row e8 l=>(s=d/\sz=1/\e8=1/\i+len<=l.length)/\ ∃q,TI ((l.drop i).take len)=some q/\K (.p (.sl 1 false (q.map (PV.int .u8)))) [(o,.dead)]
 |_,_=>False
def yW(P:au)(op:Op)(ev:aL->AV)(σ:ab)(nid:Nat)(K:AV->ab->Prop):Prop:=
 match op with
 |.makeMap t n=>(match n with
  |none=>(match ko P t with|some (kt,_)=>K (.mp nid) [(nid,.map kt [])]|none=>False)
  |some _=>False)
 |.store t a x=>vK P t (uc (ev a)) (uc (ev x)) σ K
 |.buildSlice t n parts=>(match n,parts.toList with
  |0,[]=>oB P t nid K
  |n,l=>xW P (.buildSlice t n l.toArray) (λx=>uc (ev x)) σ nid K)
 |.convert s d x=>(match uc (ev x) with
  |.bo o sz i len=>CA P s d o sz i len σ K
  |_=>xW P (.convert s d x) (λx=>uc (ev x)) σ nid K)
 |.mapUpdate t m k v=>IT P t (ev m) (ev k) (ev v) σ K
 |.makeChan t n=>Cz P t (ev n) nid K
 |.insert t m k v=>IT P t (ev m) (ev k) (ev v) σ K
 |.call c=>(match c.callee,c.args.toList,c.argTypes[0]?,c.argTypes[1]? with
  |.builtin .append,[a,x],some t,some xt=>mh P t xt (ev a) (ev x) σ nid K
  |.builtin .copy,[a,x],some t,_=>Cy P t (uc (ev a)) (uc (ev x)) σ K
  |.builtin .clear,[x],some t,_=>tr P t (uc (ev x)) σ K
  |_,_,_,_=>False)
 |op=>xW P op (λx=>uc (ev x)) σ nid K
section
variable{P:au}{F:Nat->Prop}{μ:aN}{σ:ab}{w:aj}{nid:Nat}
theorem mw{t:an}{kt:KT}{e:an}(h:ko P t=some (kt,e)):∃k,P.underlying t=some (.map k e)/\Mu P k=some kt:=by
 unfold ko at h
 cases hu:P.underlying t with
 |none=>rw[hu] at h;cases h
 |some d=>
  rw[hu] at h;(cases d<;>simp only at h<;>try(cases h;done));rename_i k e'
  cases hk:Mu P k with
  |none=>rw[hk] at h;cases h
  |some x6=>
   rw[hk] at h;injection h with h;injection h with h1 h2;subst h1;subst h2;exact⟨k,rfl,hk⟩
theorem se{t:an}{K:AV->Prop}(h:N6 P t K):∃av v,K av/\RV F μ w v av/\ ∀w',(zeroValue t).run P w'= .ok v w':=by
 unfold N6 at h;split at h
 · rename_i i hi
   split at h
   · rename_i v hv
     exact⟨_,v,h,uf v,λw'=>by simp[zeroValue,typeInfo,hi,hv]⟩
   · exact h.elim
 · exact h.elim
theorem ik{w':aj}{b:Nat}{es:Array dS}{clock:Nat}(h:w'.heap[b]? =some (.map es clock)):(getObj b).run P w'= .ok (.map es clock) w':=by
 simp[getObj,Sem.run,h]
theorem qS{w:aj}{b:Nat}{o:Obj}(h:w.heap[b]? =some o):b<w.heap.size:=(Array.getElem?_eq_some_iff.1 h).1
theorem wI{t:an}{ok:Bool}{kt:KT}{m:List (PV×PV)}{k:AV}{K:AV->Prop}{vk:ah}{b:Nat}{es:Array dS}{clock:Nat}(hb:w.heap[b]? =some (.map es clock))(hs:es.size=m.length)(hm:∀x∈m,qd kt x.1=true)
 (hr:∀(i:Nat) k v e,m[i]? =some (k,v)->es[i]? =some e->RP F w e.key k/\RP F w e.val v) (hk:RV F μ w vk k) (h:yN P t ok kt m k K):Qt P F μ w K (Instr.lookup t (.map (some b)) vk ok):=by
 unfold yN at h;split at h
 · rename_i x6 e key hT
   obtain⟨⟨rfl,jq⟩,h⟩:=h;obtain⟨kT,hu,hf⟩:=mw hT;have Gb:=hk.bG;have cj:∀w',tc w w'->w'.heap[b]? =some (.map es clock):=λw' hw=>(hw b (qS hb)).trans hb;have uA:∀w',(Instr.findKey kT vk es.toList).run P w'= .ok (cD m es.toList key 0) w':=λw'=>run_findKey hf Gb jq w' m es.toList (by simpa using hs) hm (λi a b c h1 h2=>(hr i a b c h1 (by simpa using h2)).1);have o9:∀w',(Instr.checkKey es.isEmpty 10000 kT vk).run P w'= .ok () w':=λw'=>run_checkKey hf Gb jq _ w'
   have cY:∀w',tc w w'->(Instr.lookup t (.map (some b)) vk ok).run P w'=((match cD m es.toList key 0 with|some (_,v)=>(pure (v,true):Sem (ah×Bool))|none=>do pure (<-zeroValue e,false)).run P w').andThen λx w'=>.ok (if ok then .tuple #[x.1,.bool x.2] else x.1) w':=by
    intro w' hw;simp only[Instr.lookup,bu,run_underlying hu,bD,ik (cj w' hw),cg,o9 w',uA w']
    cases cD m es.toList key 0 with
    |none=>simp only[bu,cg];cases(zeroValue e).run P w'<;>rfl
    |some x=>obtain⟨i,v⟩:=x;simp
   cases nT:aT key 0 m with
   |none=>
    (have IU:cD m es.toList key 0=none:=by simp[cD,nT]);(have Mz:cK key m=none:=by simp[cK,nT]);rw[IU] at cY
    cases ok with
    |true=>
     obtain⟨z,v,h1,h2,h3⟩:=se (P:=P) (F:=F) (μ:=μ) (w:=w) (h.n Mz);refine⟨_,.tuple #[v,.bool false],h1,IC (by rfl) (λi p hp=>?_),λw' hw=>?_⟩
     · match i with
       |0=>simp at hp;subst hp;exact h2
       |1=>simp at hp;subst hp;exact .p (.bool _)
       |i+2=>simp at hp
     · rw[cY w' hw];simp[h3 w']
    |false=>
     obtain⟨z,v,h1,h2,h3⟩:=se (P:=P) (F:=F) (μ:=μ) (w:=w) (h.n Mz);exact⟨_,v,h1,h2,λw' hw=>by rw[cY w' hw];simp[h3 w']⟩
   |some x=>
    obtain⟨i,pv⟩:=x;obtain⟨_,k',km,_⟩:=fH nT;have hi:i<m.length:=(aq.1 km).1;(have DU:i<es.size:=by omega);(have IU:cD m es.toList key 0=some (i,es[i].val):=by simp[cD,nT,DU]);(have Mz:cK key m=some pv:=by simp[cK,nT]);have ie:=(hr i k' pv es[i] km (dh DU)).2;rw[IU] at cY
    cases ok with
    |true=>
     refine⟨_,.tuple #[es[i].val,.bool true],h.s pv Mz,.p (.bR _ _ (by rfl) (λj p hp=>?_)),λw' hw=>by rw[cY w' hw];simp⟩
     match j with
     |0=>simp at hp;subst hp;exact ie
     |1=>simp at hp;subst hp;exact .bool _
     |j+2=>simp at hp
    |false=>exact⟨_,es[i].val,h.s pv Mz,.p ie,λw' hw=>by rw[cY w' hw];simp⟩
 · exact h.elim
theorem Bj{t:an}{x k:AV}{ok:Bool}{K:AV->Prop}{vx vk:ah}(ar:az F μ σ w)(hx:RV F μ w vx x)(hk:RV F μ w vk k)(h:o8 P t x k ok σ K):Qt P F μ w K (Instr.lookup t vx vk ok):=by
 unfold o8 at h;split at h
 · rename_i o
   split at h
   · rename_i kt m ho
     cases hx with
     |mp _ b hb=>
     have gk:=ar.obj o b hb;rw[ho] at gk;obtain⟨h0,es,clock,h1,h2,h3,h4⟩:=gk
     exact wI h1 h2 h0 (λi k v e hi he=>by
      obtain⟨e',g1,g2,g3⟩:=h4 i k v hi
      rw[he] at g1;injection g1 with g1;subst g1;exact⟨g2,g3⟩) hk h
   · exact h.elim
 · rename_i kt m
   have hx:=hx.bG
   cases hx with
   |mp b _ _ es clock hb h1 h2 h3 h4 h5=>exact wI h1 h2.1 h3 (λi k v e hi he=>⟨h4 i k v e hi he,h5 i k v e hi he⟩) hk h
 · exact h.elim
theorem yP{t:an}(h:KS P t=true):∃dir e i,P.underlying t=some (.chan dir e)/\P.info? e=some i/\i.bytes<=100000:=by
 unfold KS at h;split at h
 · rename_i dir e hu
   cases hi:P.info? e with
   |none=>rw[hi] at h;cases h
   |some i=>rw[hi] at h;exact⟨dir,e,i,hu,hi,of_decide_eq_true h⟩
 · cases h
theorem IV{t ty:an}{x:AV}{K:AV->Prop}{v:ah}(ar:az F μ σ w)(hx:RV F μ w v x)(h:Bi P t x σ K):Qt P F μ w K (gm #[t] ty #[v]):=by
 have key:∀{b:Nat} {es:Array dS} {clock:Nat} {m:List (PV×PV)},w.heap[b]? =some (.map es clock)->es.size=m.length->(ko P t).isSome=true->K (.p (.int .i64 m.length))->Qt P F μ w K (gm #[t] ty #[.map (some b)]):=by
  intro b es clock m hb hs ht hK;obtain⟨⟨kt,e⟩,hT⟩:=Option.isSome_iff_exists.1 ht;obtain⟨kT,hu,_⟩:=mw hT;refine⟨_,.int .i64 m.length,hK,.p (.int _ _),λw' hw=>?_⟩;have pT:w'.heap[b]? =some (.map es clock):=(hw b (qS hb)).trans hb;simp[gm,run_underlying hu,ik pT,goInt,hs]
 unfold Bi at h;split at h
 · rename_i o
   split at h
   · rename_i kt m ho
     cases hx with
     |mp _ b hb=>
     have gk:=ar.obj o b hb;rw[ho] at gk;obtain⟨h0,es,clock,h1,h2,h3,h4⟩:=gk;exact key h1 h2 h.1 h.2
   · exact h.elim
 · have hx:=hx.bG
   cases hx with
   |mp b _ _ es clock hb h1 h2 h3 h4 h5=>exact key h1 h2.1 h.1 h.2
 · rename_i o
   split at h
   · rename_i cap buf ho
     cases hx with
     |ch _ b hb=>
     have gk:=ar.obj o b hb;rw[ho] at gk;obtain⟨bs,xA,recvd,h1,h2,h3⟩:=gk;obtain⟨dir,e,i,hu,_,_⟩:=yP h.1;refine⟨_,.int .i64 buf.length,h.2,.p (.int _ _),λw' hw=>?_⟩;have pT:=(hw b (qS h1)).trans h1;rw[Go.Conc.run_len_chan t ty hu pT,h2];rfl
   · exact h.elim
 · exact uw hx.uc h
theorem IW{t ty:an}{x:AV}{K:AV->Prop}{v:ah}(hx:RV F μ w v x)(h:Bh P t x K):Qt P F μ w K (Builtin.cap_ #[t] ty #[v]):=by
 unfold Bh at h;split at h
 · obtain⟨⟨s,g⟩,hE⟩:=Option.isSome_iff_exists.1 h.1
   obtain⟨e,hu,_⟩:=jl hE
   cases hx with
   |jb o sz i len cap base hx=>exact⟨_,_,h.2,.p (.int _ _),λw' _=>by simp[Builtin.cap_,run_underlying hu,goInt]⟩
 · exact h.elim
theorem Gc{t:an}{o sz i len cap:Nat}{v:ah}{lo hi mx:Option AV}{IJ FG A1:Option ah}{K:AV->Prop}(hx:RV F μ w v (.jb o sz i len cap))
 (Ba:match lo,IJ with|some x,some v=>RV F μ w v x|none,none=>True|_,_=>False) (Ik:match hi,FG with|some x,some v=>RV F μ w v x|none,none=>True|_,_=>False)
 (Fi:match mx,A1 with|some x,some v=>RV F μ w v x|none,none=>True|_,_=>False) (h:Ct P t o sz i len cap lo hi mx K):Qt P F μ w K (Instr.sliceAt t v IJ FG A1):=by
 have qy:∀{d a:Int} {x:Option AV} {v:Option ah},((x=none/\v=none/\a=d)\/ ∃k,v=some (.int k a))->(v=none/\a=d)\/ ∃k,v=some (.int k a):=λh=>h.imp (λh=>⟨h.2.1,h.2.2⟩) id;unfold Ct at h;split at h
 · rename_i s g a b hE ha hb
   obtain⟨⟨hz,h0,xB,tY⟩,hK⟩:=h;obtain⟨e,hu,hs⟩:=jl hE;have h1:=qy (ef Ba ha);have h2:=qy (ef Ik hb);obtain rfl:A1=none:=by cases A1;rfl;exact Fi.elim
   cases hx with
   |jb _ _ _ _ _ base hx=>
   cases hx with
   |bo _ _ _ _ _ hx=>
   cases hx with
   |dJ _ _ _ bL _ _ bb t' n' RF gX pQ r7 tX qe=>
   have hr:∀w',(mC true len cap IJ FG none).run P w'= .ok (a.toNat,b.toNat,cap) w':=λw'=>mH h1 h2 h0 xB (by omega) w';subst hz
   refine .of _ (.slice (if cap=a.toNat then some ⟨bb,bL,none⟩ else(some (⟨bb,bL,none⟩:Addr)).map (·.add (a.toNat*sz))) (b.toNat-a.toNat) (cap-a.toNat)) hK ?_ λw'=>by
    simp only[Instr.sliceAt,Instr.slice,underlying,bu,run_program,bD,hu,cg,hr w',run_sizeOf hs]
   refine .jb _ _ _ _ _ _ (.bo _ _ _ _ _ ?_);have A4:a.toNat<=cap:=by omega
   have hmul:(i+a.toNat)*sz+(cap-a.toNat)*sz<=n':=by
    rw[<-dB,show i+a.toNat+(cap-a.toNat)=i+cap by omega,dB];exact r7
   by_cases TJ:cap=a.toNat
   · rw[if_pos TJ]
     exact .dJ _ _ _ _ _ _ _ t' n' RF (.inl (by omega)) pQ hmul (by omega) (by omega)
   · rw[if_neg TJ]
     simp only[Option.map_some,fD];refine .dJ _ _ _ _ _ _ _ t' n' RF (.inr ?_) pQ hmul (by omega) (by omega);rcases gX with h'|h'
     · omega
     · rw[h',dB]
 · exact h.elim
theorem Gd{t:an}{n:Nat}{k:FK}(h:ZK P t=some (n,k)):∃e,P.underlying t=some (.array n e)/\o7 P e=some k/\tT P e=some (1,false)/\P.eqGuardType P.depth t=false:=by
 unfold ZK at h;split at h
 · rename_i m e hu
   split at h
   · rename_i k' hk
     split at h
     · rename_i hc
       injection h with h;injection h with h1 h2;subst h1;subst h2;refine⟨e,hu,hk,hc.1,?_⟩;have hd:2<=P.depth:=qq hc.2
       cases hdp:P.depth with
       |zero=>omega
       |succ d=>
        unfold Program.eqGuardType;rw[hu];exact yM hk d (by omega)
     · cases h
   · cases h
 · cases h
theorem wJ{e:an}{k:FK}(hk:o7 P e=some k)(h3:tT P e=some (1,false)){xs ys:Array ah}{cs ds:List PV}(jd:xs.size=cs.length)(UW:ys.size=ds.length)(hx:∀(i:Nat) p,cs[i]? =some p->RP F w (xs[i]?.getD undef) p)(hy:∀(i:Nat) p,ds[i]? =some p->RP F w (ys[i]?.getD undef) p)(d:Nat)(w':aj):
 ∀(m i:Nat),gB (ck m k) (cs.drop i)=true->gB (ck m k) (ds.drop i)=true->
  (Op.eqItems (d+1) e 1 xs ys (List.range' i m)).run P w'= .ok (iF (cs.drop i) (ds.drop i)) w'
 |0,i,hc,hd=>by
  have e1:cs.drop i=[]:=qn.1 (ij hc).symm;have e2:ds.drop i=[]:=qn.1 (ij hd).symm;rw[e1,e2];rfl
 |m+1,i,hc,hd=>by
  have lc:=ij hc;have ld:=ij hd;simp only[List.length_replicate,nz] at lc ld;(have A2:i<cs.length:=by omega);(have oW:i<ds.length:=by omega);(have ec:cs.drop i=cs[i]::cs.drop (i+1):=by rw[gP A2]);(have ed:ds.drop i=ds[i]::ds.drop (i+1):=by rw[gP oW]);rw[ec] at hc ⊢;rw[ed] at hd ⊢;simp only[List.replicate_succ,gB,aQ] at hc hd;have Xm:=hx i cs[i] (aV A2);have Xn:=hy i ds[i] (aV oW);rw[dh (by omega)] at Xm Xn;have rx:RP F w xs[i] cs[i]:=Xm;have ry:RP F w ys[i] ds[i]:=Xn;have px:(part e xs (i*1)).run P w'= .ok xs[i] w':=oA h3 xs (by rw[Nat.mul_one];exact dh (by omega)) w';have py:(part e ys (i*1)).run P w'= .ok ys[i] w':=oA h3 ys (by rw[Nat.mul_one];exact dh (by omega)) w';have re:=tq (P:=P) (F:=F) (w:=w) hk hc.1 hd.1 rx ry d w';simp only[List.range'_succ,Op.eqItems,bu,px,py,re,bD,iF]
  cases Q4 cs[i] ds[i] with
  |false=>simp
  |true=>
   simp only[Bool.not_true,mB,if_false,dZ];exact wJ hk h3 jd UW hx hy d w' m (i+1) hc.2 hd.2
theorem MA{t:an}{n:Nat}{k:FK}(ht:ZK P t=some (n,k)){v u:ah}{cs ds:List PV}(hv:RP F w v (.agg cs))(hu:RP F w u (.agg ds))(hc:gB (ck n k) cs=true)(hd:gB (ck n k) ds=true)(d:Nat)(w':aj):
 (Op.equalIn (d+2) t v u).run P w'= .ok (iF cs ds) w':=by
 obtain⟨e,h1,h2,h3,h4⟩:=Gd ht
 cases hv with
 |agg xs _ jd hx=>
  cases hu with
  |agg ys _ UW hy=>
   obtain⟨⟨i,hi,hs⟩,_⟩:=DH h3;(have hce:P.cellsOf e=1:=by simp[Program.cellsOf,hi,hs]);rw[Go.run_equalIn_array w' (d+1) xs ys h1 hi,hce,List.range_eq_range'];exact wJ h2 h3 jd UW hx hy d w' n 0 (by simpa using hc) (by simpa using hd)
theorem Ge{op:BinOp}{t:an}{a b:List PV}{K:AV->Prop}{v u:ah}(ox oy:aL)(hv:RP F w v (.agg a))(hu:RP F w u (.agg b))(h:Cu P op t a b K):Qt P F μ w K (do eqGuard op t ox oy v u;binOp op t v u):=by
 unfold Cu at h;split at h
 · rename_i ks hT
   obtain⟨⟨ha,hb⟩,h⟩:=h;obtain⟨fs,h1,h2,h3,h4⟩:=mP hT;have cY:=λw'=>Cq (P:=P) hT hv hu ha hb 9998 w'
   cases hv with
   |agg xs _ g1 g2=>
   cases hu with
   |agg ys _ g3 g4=>
   split at h
   · have hK:=qR h
     exact⟨_,.bool (iF a b),hK,.p (.bool _),λw' _=>by
      simp only[bu,run_eqGuard_agg w' .eql t ox oy xs ys h3,bD,run_eql_struct,cY w']⟩
   · have hK:=qR h
     exact⟨_,.bool (!iF a b),hK,.p (.bool _),λw' _=>by
      simp only[bu,run_eqGuard_agg w' .neq t ox oy xs ys h3,bD,run_neq_struct,cY w']⟩
   · exact h.elim
 · exact h.elim
 · split at h
   · rename_i n k hT
     obtain⟨⟨ha,hb⟩,h⟩:=h;obtain⟨e,h1,h2,h3,hg⟩:=Gd hT;have cY:=λw'=>MA (P:=P) hT hv hu ha hb 9998 w'
     cases hv with
     |agg xs _ g1 g2=>
     cases hu with
     |agg ys _ g3 g4=>
     split at h
     · have hK:=qR h
       exact⟨_,.bool (iF a b),hK,.p (.bool _),λw' _=>by
        simp only[bu,run_eqGuard_agg w' .eql t ox oy xs ys hg,bD,run_eql_struct,cY w']⟩
     · have hK:=qR h
       exact⟨_,.bool (!iF a b),hK,.p (.bool _),λw' _=>by
        simp only[bu,run_eqGuard_agg w' .neq t ox oy xs ys hg,bD,run_neq_struct,cY w']⟩
     · exact h.elim
   · exact h.elim
theorem DV{x:AV}{K:AV->Prop}{v:ah}(ar:az F μ σ w)(hx:RV F μ w v x)(h:IS x σ K):Qt P F μ w K (Instr.entry v):=by
 unfold IS at h;split at h
 · rename_i o
   split at h
   · rename_i rem c ho
     cases hx with
     |ptr _ _ b hb=>
     have gk:=ar.obj o b hb;rw[ho] at gk;obtain⟨m,es,clock,seen,h1,h2,h3,h4,_,h7⟩:=gk;obtain⟨On,e,rfl,he,hk,hv⟩:=h7 c.1 c.2 rfl;refine⟨_,.tuple #[e.key,e.val],h,.p (.bR _ _ rfl λi p hp=>?_),λw' hw=>?_⟩
     · match i with
       |0=>simp at hp;subst hp;exact hk
       |1=>simp at hp;subst hp;exact hv
       |i+2=>simp at hp
     · exact run_entry_at w' b m clock On es clock e ((hw b (qS h1)).trans h1) ((hw m (qS h3)).trans h3) he h4.nodup
   · exact h.elim
 · exact h.elim
theorem Gf{o:Oper}{ev:aL->AV}{a:aL->ah}{K:AV->Prop}(ar:az F μ σ w)(aR:∀x,RV F μ w (a x) (ev x))(h:yQ P o.op ev σ K):TK P F μ w K (execOp a o):=by
 obtain⟨dst,op,ty,pos,after,guard⟩:=o;have gen:xQ P op (λx=>uc (ev x)) σ K->TK P F μ w K (execOp a { dst:=dst,op:=op,type:=ty,pos:=pos,after:=after,guard:=guard }):=λh=>FY (o:={ dst:=dst,op:=op,type:=ty,pos:=pos,after:=after,guard:=guard }) ar (λx=>(aR x).uc) h;have IX:xQ P op ev σ K->TK P F μ w K (execOp a { dst:=dst,op:=op,type:=ty,pos:=pos,after:=after,guard:=guard }):=λh=>FY (o:={ dst:=dst,op:=op,type:=ty,pos:=pos,after:=after,guard:=guard }) ar aR h;cases op<;>simp only[yQ] at h
 case move x=>exact⟨_,_,h,aR x,λw' _=>rfl⟩
 case assign x=>exact⟨_,_,h,aR x,λw' _=>rfl⟩
 case lookup t x i ok=>exact(Bj ar (aR x) (aR i) h).next
 case slice t x lo hi mx=>
  split at h
  · rename_i o sz i len cap hx
    have jM:=aR x;rw[hx] at jM;exact(Gc jM (oZ aR) (oZ aR) (oZ aR) h).next
  · exact IX h
 case binOp ZL t x y z=>
  split at h
  · rename_i l m hx hy
    have jM:=aR x;have WA:=aR y;rw[hx] at jM;rw[hy] at WA;exact(Ge x y jM.bG WA.bG h).next
  · exact IX h
 case call c=>
  obtain⟨callee,args,ats⟩:=c;split at h
  · rename_i hc
    simp only at hc h;subst hc;split at h
    · rename_i x t er h1
      (have dk:args= #[x]:=by apply gz;simpa using er);subst dk;have:=(IW (ty:=ty) (aR x) h).next;have e:execOp a { dst:=dst,op:= .call { callee:= .builtin .cap,args:= #[x],argTypes:=ats },type:=ty,pos:=pos,after:=after,guard:=guard } =(do pure (.value (<-Builtin.cap_ ats ty (#[x].map a)))):=rfl
      have e2:Builtin.cap_ ats ty (#[x].map a)=Builtin.cap_ #[t] ty #[a x]:=by
       simp only[Builtin.cap_,h1,List.map_toArray,bE,dw];rfl
      rw[e,e2];exact this
    · exact h.elim
  · rename_i hc
    simp only at hc h;subst hc;split at h
    · rename_i x t er h1
      (have dk:args= #[x]:=by apply gz;simpa using er);subst dk;have:=(IV (ty:=ty) ar (aR x) h).next;have e:execOp a { dst:=dst,op:= .call { callee:= .builtin .len,args:= #[x],argTypes:=ats },type:=ty,pos:=pos,after:=after,guard:=guard } =(do pure (.value (<-gm ats ty (#[x].map a)))):=rfl
      have e2:gm ats ty (#[x].map a)=gm #[t] ty #[a x]:=by
       simp only[gm,h1,List.map_toArray,bE,dw];rfl
      rw[e,e2];exact this
    · exact h.elim
  · exact IX h
 all_goals exact gen h
end
end Go.Sg
