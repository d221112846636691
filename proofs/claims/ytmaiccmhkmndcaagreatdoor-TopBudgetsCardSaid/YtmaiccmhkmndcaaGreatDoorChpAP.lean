/- A part of the proof: contracts of the functions that the statement reaches. -/
import Derived.Test.YtmaiccmhkmndcaaGreatDoorChpAO
import Derived.Test.YtmaiccmhkmndcaaGreatDoorChpAA
import Derived.Shelf.SlIterI.Nil
import Derived.Shelf.SortM.Plain
import Derived.Shelf.SortM.SortNone
import Derived.Ground.GgzProg
import Derived.Ground.SlgmProg
import Derived.Test.YtmaiccmhkmndcaaGreatDoorProg
import Derived.Shelf.SlSortCmp.WholeK
import Derived.Shelf.SlicesG.Cmp
import Derived.Ground.SlsfProg
import Derived.Ground.SlgcProg
set_option linter.unusedSimpArgs false
set_option linter.unusedVariables false
set_option linter.unnecessarySimpa false
set_option maxRecDepth 100000
set_option maxHeartbeats 40000000
open Array renaming getElem?_eq_getElem->dh,getElem?_append_left->iY,getElem?_modify->pU,getElem?_toList->gi
open Go.Calls renaming mono->fI
open Go.Fence renaming wide->fY
open Go.IntKind renaming i64->br
open Go.Proofs.SlLaysZI renaming n7->JS
open Go.Proofs.Tryz renaming prog->af
open Go.WideElems renaming rg->rN
open Go.World renaming shape?->cC
open List renaming length_map->ak,getElem?_map->aW,getElem?_eq_getElem->aV,mem_singleton->gE,getElem?_eq_some_iff->aq,getElem?_of_mem->eE,map_map->il,getD->cF
open Nat renaming lt_or_ge->dK
open Option renaming getD_some->js,map_eq_some_iff->cm
open Prod renaming fst->bp
namespace Go.Proofs
open Go.Shelf
def Tryz.JZ:Go.Shelf.Ren:=⟨λ| 5=>98|8=>160|7=>159|19=>209|20=>210|10=>200|11=>201|12=>202|13=>203|14=>204|15=>205|16=>206|17=>207|18=>208|30=>250|31=>251|32=>252|33=>253|34=>254|35=>179|40=>280|n=>n,λ| 23=>39|25=>3|3=>3|32=>222|22=>39|0=>0|44=>268|46=>270|4=>4|36=>262|35=>261|41=>72|5=>5|9=>9|53=>313|57=>317|63=>351|64=>162|n=>n,λ| n=>n⟩
theorem Tryz.EE:Go.Proofs.SlLaysM.n5 af Tryz.JZ:={
 mixed:=by kernel_rfl
 f5:=⟨Tryz.f98.name,by decide,Tryz.func98.trans (congrArg some (by kernel_rfl))⟩
 f7:=⟨Tryz.f159.name,by decide,Tryz.func159.trans (congrArg some (by kernel_rfl))⟩
 f8:=Tryz.func160.trans (congrArg some (by kernel_rfl))
 f10:=⟨Tryz.f200.name,by decide,Tryz.func200.trans (congrArg some (by kernel_rfl))⟩
 f11:=⟨Tryz.f201.name,by decide,Tryz.func201.trans (congrArg some (by kernel_rfl))⟩
 f12:=⟨Tryz.f202.name,by decide,Tryz.func202.trans (congrArg some (by kernel_rfl))⟩
 f13:=⟨Tryz.f203.name,by decide,Tryz.func203.trans (congrArg some (by kernel_rfl))⟩
 f14:=⟨Tryz.f204.name,by decide,Tryz.func204.trans (congrArg some (by kernel_rfl))⟩
 f15:=⟨Tryz.f205.name,by decide,Tryz.func205.trans (congrArg some (by kernel_rfl))⟩
 f16:=⟨Tryz.f206.name,by decide,Tryz.func206.trans (congrArg some (by kernel_rfl))⟩
 f17:=⟨Tryz.f207.name,by decide,Tryz.func207.trans (congrArg some (by kernel_rfl))⟩
 f18:=⟨Tryz.f208.name,by decide,Tryz.func208.trans (congrArg some (by kernel_rfl))⟩
 f19:=Tryz.func209.trans (congrArg some (by kernel_rfl))
 f20:=Tryz.func210.trans (congrArg some (by kernel_rfl))
 f30:=⟨Tryz.f250.name,by decide,Tryz.func250.trans (congrArg some (by kernel_rfl))⟩
 f31:=Tryz.func251.trans (congrArg some (by kernel_rfl))
 f32:=Tryz.func252.trans (congrArg some (by kernel_rfl))
 f33:=⟨Tryz.f253.name,by decide,Tryz.func253.trans (congrArg some (by kernel_rfl))⟩
 f34:=⟨Tryz.f254.name,by decide,Tryz.func254.trans (congrArg some (by kernel_rfl))⟩
 f35:=⟨Tryz.f179.name,by decide,Tryz.func179.trans (congrArg some (by kernel_rfl))⟩
 f40:=⟨Tryz.f280.name,by decide,Tryz.func280.trans (congrArg some (by kernel_rfl))⟩
 t0:=Tryz.underlying0
 a0:=Tryz.isAgg0
 z0:=Tryz.sizeOf0
 v0:=Tryz.zeroValue0
 t3:=Tryz.underlying3
 a3:=Tryz.isAgg3
 z3:=Tryz.sizeOf3
 v3:=Tryz.zeroValue3
 t4:=Tryz.underlying4
 a4:=Tryz.isAgg4
 z4:=Tryz.sizeOf4
 v4:=Tryz.zeroValue4
 t5:=Tryz.underlying5
 a5:=Tryz.isAgg5
 z5:=Tryz.sizeOf5
 v5:=Tryz.zeroValue5
 t9:=Tryz.underlying9
 a9:=Tryz.isAgg9
 z9:=Tryz.sizeOf9
 v9:=Tryz.zeroValue9
 t22:=Tryz.underlying39
 a22:=Tryz.isAgg39
 z22:=Tryz.sizeOf39
 v22:=Tryz.zeroValue39
 t23:=Tryz.underlying39
 a23:=Tryz.isAgg39
 z23:=Tryz.sizeOf39
 v23:=Tryz.zeroValue39
 t25:=Tryz.underlying3
 a25:=Tryz.isAgg3
 z25:=Tryz.sizeOf3
 v25:=Tryz.zeroValue3
 t32:=Tryz.underlying222
 a32:=Tryz.isAgg222
 z32:=Tryz.sizeOf222
 v32:=Tryz.zeroValue222
 t35:=Tryz.underlying261
 a35:=Tryz.isAgg261
 z35:=Tryz.sizeOf261
 v35:=Tryz.zeroValue261
 t36:=Tryz.underlying262
 a36:=Tryz.isAgg262
 z36:=Tryz.sizeOf262
 v36:=Tryz.zeroValue262
 t41:=Tryz.underlying72
 a41:=Tryz.isAgg72
 z41:=Tryz.sizeOf72
 v41:=Tryz.zeroValue72
 t44:=Tryz.underlying268
 a44:=Tryz.isAgg268
 z44:=Tryz.sizeOf268
 v44:=Tryz.zeroValue268
 t46:=Tryz.underlying270
 a46:=Tryz.isAgg270
 z46:=Tryz.sizeOf270
 v46:=Tryz.zeroValue270
 t53:=Tryz.underlying313
 a53:=Tryz.isAgg313
 z53:=Tryz.sizeOf313
 v53:=Tryz.zeroValue313
 t57:=Tryz.underlying317
 a57:=Tryz.isAgg317
 z57:=Tryz.sizeOf317
 v57:=Tryz.zeroValue317
 t63:=Tryz.underlying351
 a63:=Tryz.isAgg351
 z63:=Tryz.sizeOf351
 v63:=Tryz.zeroValue351
 t64:=Tryz.underlying162
 a64:=Tryz.isAgg162
 z64:=Tryz.sizeOf162
 v64:=Tryz.zeroValue162 }
def Tryz.EF:Go.Shelf.Ren:=⟨λ| 6=>47|8=>101|9=>98|11=>162|13=>160|12=>159|23=>209|24=>210|14=>200|15=>201|16=>202|17=>203|18=>204|19=>205|20=>206|21=>207|22=>208|25=>250|26=>251|27=>252|28=>253|29=>254|30=>179|31=>280|n=>n,λ| 26=>3|28=>107|24=>39|0=>0|3=>3|37=>222|48=>268|50=>270|4=>4|40=>262|39=>261|45=>72|5=>5|9=>9|51=>313|55=>317|57=>351|58=>162|33=>37|n=>n,λ| n=>n⟩
theorem Tryz.Qd:Go.Proofs.SlLaysZI.n6 af Tryz.EF:={
 mixed:=by kernel_rfl
 f6:=⟨Tryz.f47.name,by decide,Tryz.func47.trans (congrArg some (by kernel_rfl))⟩
 f8:=⟨Tryz.f101.name,by decide,Tryz.func101.trans (congrArg some (by kernel_rfl))⟩
 f11:=⟨Tryz.f162.name,by decide,Tryz.func162.trans (congrArg some (by kernel_rfl))⟩
 t0:=Tryz.underlying0
 a0:=Tryz.isAgg0
 z0:=Tryz.sizeOf0
 v0:=Tryz.zeroValue0
 t24:=Tryz.underlying39
 a24:=Tryz.isAgg39
 z24:=Tryz.sizeOf39
 v24:=Tryz.zeroValue39
 t26:=Tryz.underlying3
 a26:=Tryz.isAgg3
 z26:=Tryz.sizeOf3
 v26:=Tryz.zeroValue3
 t28:=Tryz.underlying107
 a28:=Tryz.isAgg107
 z28:=Tryz.sizeOf107
 v28:=Tryz.zeroValue107
 i26:=by kernel_rfl }
def Tryz.An:Go.Shelf.Ren:=⟨λ| 7=>48|10=>102|n=>n,λ| 23=>98|26=>3|3=>4|28=>107|0=>0|27=>106|33=>37|4=>4|n=>n,λ| n=>n⟩
theorem Tryz.VR:JS af Tryz.An:={
 mixed:=by kernel_rfl
 f7:=⟨Tryz.f48.name,by decide,Tryz.func48.trans (congrArg some (by kernel_rfl))⟩
 f10:=⟨Tryz.f102.name,by decide,Tryz.func102.trans (congrArg some (by kernel_rfl))⟩
 t0:=Tryz.underlying0
 a0:=Tryz.isAgg0
 z0:=Tryz.sizeOf0
 v0:=Tryz.zeroValue0
 t4:=Tryz.underlying4
 a4:=Tryz.isAgg4
 z4:=Tryz.sizeOf4
 v4:=Tryz.zeroValue4
 t23:=Tryz.underlying98
 a23:=Tryz.isAgg98
 z23:=Tryz.sizeOf98
 v23:=Tryz.zeroValue98
 t26:=Tryz.underlying3
 a26:=Tryz.isAgg3
 z26:=Tryz.sizeOf3
 v26:=Tryz.zeroValue3
 t27:=Tryz.underlying106
 a27:=Tryz.isAgg106
 z27:=Tryz.sizeOf106
 v27:=Tryz.zeroValue106
 t28:=Tryz.underlying107
 a28:=Tryz.isAgg107
 z28:=Tryz.sizeOf107
 v28:=Tryz.zeroValue107
 t33:=Tryz.underlying37
 a33:=Tryz.isAgg37
 z33:=Tryz.sizeOf37
 v33:=Tryz.zeroValue37 }
def Tryz.Ao:Go.Shelf.Ren:=⟨λ| 7=>52|10=>104|n=>n,λ| 23=>111|26=>3|3=>103|28=>107|0=>0|27=>106|33=>37|4=>4|n=>n,λ| n=>n⟩
theorem Tryz.VS:JS af Tryz.Ao:={
 mixed:=by kernel_rfl
 f7:=⟨Tryz.f52.name,by decide,Tryz.func52.trans (congrArg some (by kernel_rfl))⟩
 f10:=⟨Tryz.f104.name,by decide,Tryz.func104.trans (congrArg some (by kernel_rfl))⟩
 t0:=Tryz.underlying0
 a0:=Tryz.isAgg0
 z0:=Tryz.sizeOf0
 v0:=Tryz.zeroValue0
 t4:=Tryz.underlying4
 a4:=Tryz.isAgg4
 z4:=Tryz.sizeOf4
 v4:=Tryz.zeroValue4
 t23:=Tryz.underlying111
 a23:=Tryz.isAgg111
 z23:=Tryz.sizeOf111
 v23:=Tryz.zeroValue111
 t26:=Tryz.underlying3
 a26:=Tryz.isAgg3
 z26:=Tryz.sizeOf3
 v26:=Tryz.zeroValue3
 t27:=Tryz.underlying106
 a27:=Tryz.isAgg106
 z27:=Tryz.sizeOf106
 v27:=Tryz.zeroValue106
 t28:=Tryz.underlying107
 a28:=Tryz.isAgg107
 z28:=Tryz.sizeOf107
 v28:=Tryz.zeroValue107
 t33:=Tryz.underlying37
 a33:=Tryz.isAgg37
 z33:=Tryz.sizeOf37
 v33:=Tryz.zeroValue37 }
def Tryz.xp:Go.Shelf.Ren:=⟨λ| 7=>185|10=>230|n=>n,λ| 23=>242|26=>3|3=>135|28=>107|0=>0|27=>106|33=>37|4=>4|n=>n,λ| n=>n⟩
theorem Tryz.S8:JS af Tryz.xp:={
 mixed:=by kernel_rfl
 f7:=⟨Tryz.f185.name,by decide,Tryz.func185.trans (congrArg some (by kernel_rfl))⟩
 f10:=⟨Tryz.f230.name,by decide,Tryz.func230.trans (congrArg some (by kernel_rfl))⟩
 t0:=Tryz.underlying0
 a0:=Tryz.isAgg0
 z0:=Tryz.sizeOf0
 v0:=Tryz.zeroValue0
 t4:=Tryz.underlying4
 a4:=Tryz.isAgg4
 z4:=Tryz.sizeOf4
 v4:=Tryz.zeroValue4
 t23:=Tryz.underlying242
 a23:=Tryz.isAgg242
 z23:=Tryz.sizeOf242
 v23:=Tryz.zeroValue242
 t26:=Tryz.underlying3
 a26:=Tryz.isAgg3
 z26:=Tryz.sizeOf3
 v26:=Tryz.zeroValue3
 t27:=Tryz.underlying106
 a27:=Tryz.isAgg106
 z27:=Tryz.sizeOf106
 v27:=Tryz.zeroValue106
 t28:=Tryz.underlying107
 a28:=Tryz.isAgg107
 z28:=Tryz.sizeOf107
 v28:=Tryz.zeroValue107
 t33:=Tryz.underlying37
 a33:=Tryz.isAgg37
 z33:=Tryz.sizeOf37
 v33:=Tryz.zeroValue37 }
end Go.Proofs
namespace Go.Proofs.YtmaiccmhkmndcaaGreatDoor
open Go Go.Sg
theorem sy(l:List Int):bc (l.map eI)=l.map λn=>AV.p (eI n):=by
 induction l with
 |nil=>rfl
 |cons a r ih=>
  have:bc ((a::r).map eI)=AV.p (eI a)::bc (r.map eI):=rfl;rw[this,ih];rfl
theorem lF(l:List Int)(h0:0<l.length)(hl:l.length<1000000):aM af 98 1 [(0,.row 1 (l.map eI))] [.bo 0 1 0 l.length] (.p (.bR [])) [(0,.row 1 ((l.mergeSort λx y=>decide (x<=y)).map eI))]:=by
 intro F μ w vs ar Ft oS ie;have hr:=ie 0 _ rfl;generalize hv:vs[0]?.getD undef=v at hr
 cases hr with
 |bo _ _ _ _ _ hr=>
 cases hr with
 |dJ _ _ _ bL _ cap b t n hb l9 pQ hn tX qe=>
 have FN:cap≠0:=by omega
 have l9:bL=0:=by simpa using l9.resolve_left FN
 subst l9
 have EG:vs= #[.slice (some ⟨b,0,none⟩) l.length cap]:=by
  have h1:vs.size=1:=oS;apply Array.ext
  · simp[h1]
  · intro i hi FO
    (have:i=0:=by omega);subst this;rw[dh hi] at hv;simpa using hv
 subst EG;obtain⟨bQ,cur,t',fO,hlen,ml⟩:=ar.obj 0 b hb;have tY:b<w.heap.size:=ar.mb b (.inl ⟨0,hb⟩)
 have hlen:l.length<=cur.size:=by
  have h:(bc (l.map eI)).length<=cur.size:=hlen;rw[sy,ak] at h;exact h
 have Bb:∀(j:Nat) (h:j<l.length),cur[j]? =some (.int .i64 l[j]):=λj h=>by
  have h2:=ml j (.p (eI l[j])) (by
   show(bc (l.map eI))[j]? =_
   rw[sy,aW,aV h];rfl)
  have h3:=h2.bG;rw[dh (by omega)] at h3 ⊢;simp only[js] at h3;generalize cur[j]=u at h3;cases h3;rfl
 have hH:Go.Sort.Holds (Value.int .i64) w b 0 l.toArray:=λj hj=>by
  have IK:j<l.length:=by simpa using hj
  refine⟨?_,?_⟩
  · show w.cell? ⟨b,0+j,none⟩=some (Value.int .i64 l.toArray[j]!)
    (have e:l.toArray[j]! =l[j]:=by rw[getElem!_pos _ j hj];simp);rw[e,Nat.zero_add];unfold World.cell?;rw[fO];exact Bb j IK
  · unfold World.frozen?
    rw[fO];simp
 have jZ:=Go.Proofs.AnyM.slices_Sort_int Tryz.EE b 0 cap l w hH tY (by omega);change Calls af 98 _ _ _ at jZ;refine fI jZ λe w' he=>?_;obtain⟨rfl,n',os,rfl⟩:=he;generalize hd:(l.mergeSort λx y=>decide (x<=y))=d;(have Rm:d.length=l.length:=by rw[<-hd,List.length_mergeSort]);have iR:(Go.Sort.putCells (Value.int .i64) 0 d.toArray cur).size=cur.size:=by unfold Go.Sort.putCells;simp
 obtain⟨g1,g2⟩:=HL (l':=d.map eI) (cur':=Go.Sort.putCells (Value.int .i64) 0 d.toArray cur) (w':=Go.Sort.grow (Go.Sort.putRow (Value.int .i64) (Go.Sort.ahead w n') b 0 d.toArray) os) ar Ft hb fO (by
  show((w.heap.modify b (Go.Sort.onCells _))++os)[b]? =_
  rw[iY (by simpa using tY),pU,if_pos rfl,fO];rfl) iR rfl rfl rfl (by
  show w.heap.size<=((w.heap.modify b (Go.Sort.onCells _))++os).size
  simp) (λc hc XB=>by
  show((w.heap.modify b (Go.Sort.onCells _))++os)[c]? =_
  rw[iY (by simpa using hc),pU,if_neg (λe=>XB e.symm)]) (λp hp=>by
  obtain⟨x,_,rfl⟩:=List.mem_map.1 hp
  exact⟨rfl,λc hc=>by rw[gE.1 hc];rfl⟩) (by rw[sy,ak,iR];omega) λi c A2=>by
  rw[sy,aW,cm] at A2;obtain⟨x,hx,rfl⟩:=A2;have yR:i<d.length:=(aq.1 hx).1
  have e:(Go.Sort.putCells (Value.int .i64) 0 d.toArray cur)[i]? =some (.int .i64 x):=by
   unfold Go.Sort.putCells;rw[Array.getElem?_mapIdx,Bb i (by omega)];simp[yR,(aq.1 hx).2]
  rw[e];exact .p (.int _ _)
 exact⟨_,F,μ,rfl,g1,g2,.p (.bR _ _ rfl (by simp)),λ_ _ _ h=>h,λo ho=>Ft o (by omega)⟩
abbrev fT:KT:=([.int .i64],false)
def wi(n:Int):Prop:= -9223372036854775808<=n/\n<=9223372036854775807
abbrev Oi:Value->Option (DataW Unit×List MemPlace):=λ_=>some (.nil,[])
theorem keyN{n:Int}(h:wi n):keyOf af 3 (.int .i64 n)=some (.int .i64 n):=by
 refine Go.Maps.keyOf_int_mk Tryz.underlying3 ?_
 show(decide (br.min<=n)&&decide (n<=br.max))=true
 have h1:br.min= -9223372036854775808:=by decide
 have h2:br.max=9223372036854775807:=by decide
 rw[h1,h2,decide_eq_true h.1,decide_eq_true h.2];rfl
theorem tO{β:Type}(eV:β->PV)(g:Nat)(hg:∀(b0 b nn:Nat) (D:DataW Unit) (w:World),b0<w.heap.size->w.cell? ⟨b0,0,none⟩=some (.map (some b))->w.ownsMap af 3 Oi b nn D->SeqGives fY 2 af g #[.pointer (some ⟨b0,0,none⟩)] encZ (λss=>ss.Perm (intKeys D)) (Go.Maps.size D) w)
 (eg:∀args w,(callFunc g args).run af w= .ok (.enter g args) w) (M:List (Int×β)) (hM:M.length<1000000) (hn:(M.map bp).Nodup) (hr:∀x∈M,wi x.1):
 aM af 47 1 [(0,.cells [.p (.mp fT (eM eI eV M))])] [.fn (.func g) [] [.ptr 0 0]] (.p (dm ((M.map bp).mergeSort λx y=>decide (x<=y)))) [(0,.cells [.p (.mp fT (eM eI eV M))])]:=by
 intro F μ w vs ar Ft oS ie;have T6:=ie 0 _ rfl;generalize hv:vs[0]?.getD undef=v at T6
 cases T6 with
 |fn _ us bs _ _ g1 g2 g3 g4=>
 have e1:us= #[]:=Array.eq_empty_of_size_eq_zero g1;subst e1;have h4:=g4 0 _ rfl;generalize CE:bs[0]?.getD undef=u at h4
 cases h4 with
 |ptr _ _ b0 ZO=>
 have T5:bs= #[.pointer (some ⟨b0,0,none⟩)]:=by
  have h1:bs.size=1:=g2;apply Array.ext
  · simp[h1]
  · intro i hi FO
    (have:i=0:=by omega);subst this;rw[dh hi] at CE;simpa using CE
 subst T5
 have EG:vs= #[.func (.func g) #[] #[.pointer (some ⟨b0,0,none⟩)]]:=by
  have h1:vs.size=1:=oS;apply Array.ext
  · simp[h1]
  · intro i hi FO
    (have:i=0:=by omega);subst this;rw[dh hi] at hv;simpa using hv
 subst EG;obtain⟨cur,t,fO,hlen,ml⟩:=ar.obj 0 b0 ZO;have hb0l:b0<w.heap.size:=ar.mb b0 (.inl ⟨0,ZO⟩);have Yh:=(ml 0 _ rfl).bG;have sJ:0<cur.size:=hlen;rw[dh sJ] at Yh;simp only[js] at Yh;generalize FN:cur[0]=c0 at Yh
 cases Yh with
 |mp b _ _ es clock Fx YS iR bQ hk hvl=>
 obtain⟨iR,hbo⟩:=iR;have iR:es.size=M.length:=by rw[iR];simp[eM]
 have gp:∀(i:Nat) (e:MapEntry),es[i]? =some e->∃x,M[i]? =some x/\e.key= .int .i64 x.1:=λi e he=>by
  (have hi:i<M.length:=by have:=(Array.getElem?_eq_some_iff.1 he).1;omega);refine⟨M[i],aV hi,?_⟩;have h1:=hk i (eI M[i].1) (eV M[i].2) e (by simp[eM,aV hi]) he;generalize e.key=kk at h1;cases h1;rfl
 have zm:es.toList.map MapEntry.key=M.map λx=>Value.int .i64 x.1:=by
  apply List.ext_getElem?;intro i;rw[aW,aW,gi]
  cases he:es[i]? with
  |none=>
   (have:M.length<=i:=by have:=Array.getElem?_eq_none_iff.1 he;omega);rw[List.getElem?_eq_none this];rfl
  |some e=>
   obtain⟨x,hx,sM⟩:=gp i e he;rw[hx];simp[sM]
 have tv:∀e∈es.toList,∃x∈M,e.key= .int .i64 x.1:=λe he=>by
  obtain⟨i,hi⟩:=eE he;rw[gi] at hi;obtain⟨x,hx,sM⟩:=gp i e hi;exact⟨x,List.mem_of_getElem? hx,sM⟩
 have WQ:∀e∈es.toList,∀x∈M,e.key= .int .i64 x.1->Go.WideElems.rd af 3 Oi e=some (.int .i64 x.1,.nil):=λe _ x hx sM=>by
  unfold Go.WideElems.rd;rw[sM,keyN (hr x hx)];rfl
 have cu:Go.MapKept.Stamped es clock:=by
  refine⟨λe he=>?_,?_,?_⟩
  · obtain⟨i,hi⟩:=eE he
    rw[gi] at hi;exact hbo.1 i e hi
  · rw[List.Nodup,List.pairwise_map,List.pairwise_iff_getElem]
    intro i j hi hj gx e;have:=hbo.2 i j _ _ (by rw[<-gi];exact aV hi) (by rw[<-gi];exact aV hj) e;omega
  · show(es.toList.map MapEntry.key).Nodup
    rw[zm];(have e:(M.map λx=>Value.int .i64 x.1)=(M.map bp).map λn=>Value.int .i64 n:=by rw[il];rfl);rw[e,List.Nodup,List.pairwise_map];exact hn.imp λh e=>h (by injection e)
 have vA:Go.WideElems.Fit af 3 Oi es clock:=⟨by rw[iR];unfold maxLen;omega,cu,λe he=>by
  obtain⟨x,hx,sM⟩:=tv e he
  exact⟨_,WQ e he x hx sM⟩⟩
 have YT:w.ownsMap af 3 Oi b es.size (.map ((es.toList.map (rN af 3 Oi)).foldr DataW.insert [])):=⟨es,clock,YS,vA,Nat.le_refl _,rfl⟩
 have Ut:(intKeys (DataW.map ((es.toList.map (rN af 3 Oi)).foldr DataW.insert []))).Perm (M.map bp):=by
  show(((es.toList.map (rN af 3 Oi)).foldr DataW.insert []).map λp:Lit×DataW Unit=>Go.intOf p.1).Perm _;refine((Go.WideShapes.sorted_perm _).map _).trans ?_;rw[il]
  have:es.toList.map ((λp:Lit×DataW Unit=>Go.intOf p.1)∘rN af 3 Oi)=M.map bp:=by
   have h1:es.toList.map ((λp:Lit×DataW Unit=>Go.intOf p.1)∘rN af 3 Oi)=(es.toList.map MapEntry.key).map λv=>match v with|.int _ n=>n|_=>0:=by
    rw[il];refine List.map_congr_left λe he=>?_;obtain⟨x,hx,sM⟩:=tv e he;show Go.intOf (rN af 3 Oi e).1=_;rw[Go.WideElems.rg_of (WQ e he x hx sM)]
    show x.1=match e.key with|.int _ n=>n|_=>0
    rw[sM]
   rw[h1,zm,il];rfl
  rw[this]
 have hD:Go.Maps.size (DataW.map ((es.toList.map (rN af 3 Oi)).foldr DataW.insert []))=M.length:=by
  show List.length _=_;rw[Go.length_sorted];simp[iR]
 generalize hDD:(DataW.map ((es.toList.map (rN af 3 Oi)).foldr DataW.insert []):DataW Unit)=D at YT Ut hD
 have Og:w.cell? ⟨b0,0,none⟩=some (.map (some b)):=by
  unfold World.cell?;rw[fO];show cur[0]? =_;rw[dh sJ,FN]
 have hseq:SeqGives fY 2 af g #[.pointer (some ⟨b0,0,none⟩)] encZ (λss=>ss.Perm (intKeys D)) (Go.Maps.size D) w:=
  hg b0 b es.size D w hb0l Og YT
 have cS:=Go.Proofs.AnyZI.sorted_in Go.Proofs.Tryz.Qd fY 5 trivial trivial trivial trivial rfl (by omega) ⟨λPg off cap ss W hH hblk iR=>callsIn_wide.2 (Go.Proofs.AnyM.slices_Sort_int Go.Proofs.Tryz.EE Pg off cap ss W hH hblk iR),λp cap W=>callsIn_wide.2 (Go.Proofs.AnyM.slices_Sort_int_none Go.Proofs.Tryz.EE p cap W)⟩ (enters_of Tryz.func98 (by kernel_rfl) rfl) g #[.pointer (some ⟨b0,0,none⟩)] trivial eg _ _ (by rw[hD];unfold maxLen;omega) (by rw[hD];omega) w hseq;change CallsIn _ _ af 47 _ _ _ at cS;refine fI ((callsIn_wide (n:=5)).1 cS) λe w' he=>?_;obtain⟨v,ss,rfl,hS,D2,MU,S9⟩:=he;have hS2:ss.mergeSort leI=(M.map bp).mergeSort leI:=mergeSort_of_perm_i (hS.trans Ut);(have te:ss.length=((M.map bp).mergeSort leI).length:=by rw[<-hS2,List.length_mergeSort]);obtain⟨hl,FX⟩:=D2;change ((ss.mergeSort leI).map encZ).length=ss.length*1 at hl;show ∃v F' μ',_/\_/\_/\RV F' μ' w' v (.p (dm ((M.map bp).mergeSort leI)))/\_;have hold:∀c,c<w.heap.size->w'.heap[c]? =w.heap[c]? :=S9.block;rcases FX with⟨rfl,hz⟩|⟨g,cap,YU,rfl,hg,hgc,tX,qe,jH,N5⟩
 · have e0:(M.map bp).mergeSort leI=[]:=List.eq_nil_of_length_eq_zero (by omega)
   rw[e0]
   have ur:Step F μ w F μ w':=⟨S9.os,S9.tape,S9.output,S9.size,λc hc=>hold c (ar.fb c hc),λc hc _=>hold c hc,λc x hx=>by
    have hc:c<w.heap.size:=by
     unfold cC at hx;rcases dK c w.heap.size with h|h
     · exact h
     · rw[Array.getElem?_eq_none h] at hx;cases hx
    unfold cC at hx ⊢
    rw[hold c hc];exact hx,λ_ h=>h,λ_ h=>.inl h,λ_ _ h=>h,λ_ h=>.inl h⟩
   exact⟨_,F,μ,rfl,ur.base,ar.Fz ur hold (λc hc=>.inl hc),.p (.r5 none 0 1 false (Nat.zero_le _) (λ_=>rfl) (λh=>by cases h)),λ_ _ _ h=>h,λo ho=>Ft o (by omega)⟩
 · have PD:g<w'.heap.size:=by
    rcases dK g w'.heap.size with h|h
    · exact h
    · rw[Array.getElem?_eq_none h] at hgc;cases hgc
   have ur:Step F μ w (λc=>F c\/c=g) μ w':=⟨S9.os,S9.tape,S9.output,S9.size,λc hc=>hold c (ar.fb c hc),λc hc _=>hold c hc,λc x hx=>by
    have hc:c<w.heap.size:=by
     unfold cC at hx;rcases dK c w.heap.size with h|h
     · exact h
     · rw[Array.getElem?_eq_none h] at hx;cases hx
    unfold cC at hx ⊢
    rw[hold c hc];exact hx,λ_ h=>.inl h,λc h=>h.elim .inl λe=>.inr (.inr (by omega)),λ_ _ h=>h,λ_ h=>.inl h⟩
   refine⟨_,_,μ,rfl,ur.base,ar.Fz ur hold (λc hc=>hc.elim .inl λe=>.inr ⟨by omega,by omega⟩),.p (.sl g 0 _ cap 1 false _ (λi _=>.int .i64 (((M.map bp).mergeSort leI).getD i 0)) (.inr rfl) (by rw[ak];exact te) tX qe (λh=>by cases h) (λi p hp=>?_) (λi p j q hp hq=>?_) (λi p j q hp hq=>?_)),λ_ _ _ h=>h,λo ho=>Ft o (by omega)⟩
   · rw[aW,cm] at hp
     obtain⟨x,_,rfl⟩:=hp;exact⟨rfl,λc hc=>by rw[gE.1 hc];rfl⟩
   · rw[aW,cm] at hp
     obtain⟨x,hx,rfl⟩:=hp
     have hj:j=0:=by
      cases j with
      |zero=>rfl
      |succ j=>simp[eI,PV.cells] at hq
     subst hj;have yR:=(aq.1 hx).1
     have h1:(YU.toList.take (ss.length*1))[i]? =some (encZ x):=by
      rw[N5];change ((ss.mergeSort leI).map encZ)[i]? =_;rw[hS2,aW,hx];rfl
     rw[List.getElem?_take_of_lt (by omega),gi] at h1;unfold World.cell?;rw[hgc];show YU[0+i*1+0]? =_;rw[show 0+i*1+0=i by omega,h1];simp[cF,hx]
   · rw[aW,cm] at hp
     obtain⟨x,hx,rfl⟩:=hp
     have hj:j=0:=by
      cases j with
      |zero=>rfl
      |succ j=>simp[eI,PV.cells] at hq
     subst hj;(have e:q=eI x:=by simpa[eI,PV.cells] using hq.symm);rw[e];(have:((M.map bp).mergeSort leI).getD i 0=x:=by simp[cF,hx]);show RP _ w' (.int .i64 (((M.map bp).mergeSort leI).getD i 0)) (eI x);rw[this];exact .int _ _
theorem u5{β:Type}(eV:β->PV)(M:List (Int×β))(hM:M.length<1000000)(hn:(M.map bp).Nodup)(hr:∀x∈M,wi x.1):
 aM af 47 1 [(0,.cells [.p (.mp fT (eM eI eV M))])] [.fn (.func 102) [] [.ptr 0 0]] (.p (dm ((M.map bp).mergeSort λx y=>decide (x<=y)))) [(0,.cells [.p (.mp fT (eM eI eV M))])]:=
 tO eV 102 (λb0 b nn D w h1 h2 h3=>Go.Proofs.AnyZI.keys_gives (ρ:=Go.Proofs.Tryz.An) { Go.Proofs.Tryz.VR with } fY 2 trivial rfl (by omega) b0 b nn D w h1 h2 h3) (enters_of Tryz.func102 (by kernel_rfl) rfl) M hM hn hr
theorem xR(m:List (PV×PV)):aM af 48 0 [] [.p (.mp fT m)] (.fn (.func 102) [] [.ptr 0 0]) [(0,.cells [.p (.mp fT m)])]:=by
 refine aM.e Tryz.func48 4 [.tmp 2] [0,1,2] ?_;refine cb ?_
 all_goals(exact nr [] [(0,0)] trivial)
theorem wj{β:Type}(eV:β->PV)(M:List (Int×β))(hM:M.length<1000000)(hn:(M.map bp).Nodup)(hr:∀x∈M,wi x.1):
 aM af 47 1 [(0,.cells [.p (.mp fT (eM eI eV M))])] [.fn (.func 104) [] [.ptr 0 0]] (.p (dm ((M.map bp).mergeSort λx y=>decide (x<=y)))) [(0,.cells [.p (.mp fT (eM eI eV M))])]:=
 tO eV 104 (λb0 b nn D w h1 h2 h3=>Go.Proofs.AnyZI.keys_gives (ρ:=Go.Proofs.Tryz.Ao) { Go.Proofs.Tryz.VS with } fY 2 trivial rfl (by omega) b0 b nn D w h1 h2 h3) (enters_of Tryz.func104 (by kernel_rfl) rfl) M hM hn hr
theorem Aq(m:List (PV×PV)):aM af 52 0 [] [.p (.mp fT m)] (.fn (.func 104) [] [.ptr 0 0]) [(0,.cells [.p (.mp fT m)])]:=by
 refine aM.e Tryz.func52 4 [.tmp 2] [0,1,2] ?_;refine cb ?_
 all_goals(exact nr [] [(0,0)] trivial)
theorem wm{β:Type}(eV:β->PV)(M:List (Int×β))(hM:M.length<1000000)(hn:(M.map bp).Nodup)(hr:∀x∈M,wi x.1):
 aM af 47 1 [(0,.cells [.p (.mp fT (eM eI eV M))])] [.fn (.func 230) [] [.ptr 0 0]] (.p (dm ((M.map bp).mergeSort λx y=>decide (x<=y)))) [(0,.cells [.p (.mp fT (eM eI eV M))])]:=
 tO eV 230 (λb0 b nn D w h1 h2 h3=>Go.Proofs.AnyZI.keys_gives (ρ:=Go.Proofs.Tryz.xp) { Go.Proofs.Tryz.S8 with } fY 2 trivial rfl (by omega) b0 b nn D w h1 h2 h3) (enters_of Tryz.func230 (by kernel_rfl) rfl) M hM hn hr
theorem Ar(m:List (PV×PV)):aM af 185 0 [] [.p (.mp fT m)] (.fn (.func 230) [] [.ptr 0 0]) [(0,.cells [.p (.mp fT m)])]:=by
 refine aM.e Tryz.func185 4 [.tmp 2] [0,1,2] ?_;refine cb ?_
 all_goals(exact nr [] [(0,0)] trivial)
end Go.Proofs.YtmaiccmhkmndcaaGreatDoor
namespace Go.Proofs
open Go.Shelf
def Tryz.HM:Go.Shelf.Ren:=⟨λ| 6=>276|15=>160|14=>289|28=>209|29=>210|20=>294|21=>295|22=>296|23=>297|24=>298|25=>299|26=>300|27=>301|46=>303|47=>251|48=>252|49=>304|50=>305|57=>307|n=>n,λ| 22=>303|24=>291|25=>302|3=>3|39=>222|0=>0|53=>268|55=>270|4=>4|46=>262|45=>261|50=>72|5=>5|9=>9|66=>313|70=>317|76=>351|77=>162|n=>n,λ| n=>n⟩
theorem Tryz.LL:Go.Proofs.SlLaysF0.n6 af Tryz.HM:={
 mixed:=by kernel_rfl
 f6:=⟨Tryz.f276.name,by decide,Tryz.func276.trans (congrArg some (by kernel_rfl))⟩
 f14:=⟨Tryz.f289.name,by decide,Tryz.func289.trans (congrArg some (by kernel_rfl))⟩
 f15:=Tryz.func160.trans (congrArg some (by kernel_rfl))
 f20:=⟨Tryz.f294.name,by decide,Tryz.func294.trans (congrArg some (by kernel_rfl))⟩
 f21:=⟨Tryz.f295.name,by decide,Tryz.func295.trans (congrArg some (by kernel_rfl))⟩
 f22:=⟨Tryz.f296.name,by decide,Tryz.func296.trans (congrArg some (by kernel_rfl))⟩
 f23:=⟨Tryz.f297.name,by decide,Tryz.func297.trans (congrArg some (by kernel_rfl))⟩
 f24:=⟨Tryz.f298.name,by decide,Tryz.func298.trans (congrArg some (by kernel_rfl))⟩
 f25:=⟨Tryz.f299.name,by decide,Tryz.func299.trans (congrArg some (by kernel_rfl))⟩
 f26:=⟨Tryz.f300.name,by decide,Tryz.func300.trans (congrArg some (by kernel_rfl))⟩
 f27:=⟨Tryz.f301.name,by decide,Tryz.func301.trans (congrArg some (by kernel_rfl))⟩
 f28:=Tryz.func209.trans (congrArg some (by kernel_rfl))
 f29:=Tryz.func210.trans (congrArg some (by kernel_rfl))
 f46:=⟨Tryz.f303.name,by decide,Tryz.func303.trans (congrArg some (by kernel_rfl))⟩
 f47:=Tryz.func251.trans (congrArg some (by kernel_rfl))
 f48:=Tryz.func252.trans (congrArg some (by kernel_rfl))
 f49:=⟨Tryz.f304.name,by decide,Tryz.func304.trans (congrArg some (by kernel_rfl))⟩
 f50:=⟨Tryz.f305.name,by decide,Tryz.func305.trans (congrArg some (by kernel_rfl))⟩
 f57:=⟨Tryz.f307.name,by decide,Tryz.func307.trans (congrArg some (by kernel_rfl))⟩
 t0:=Tryz.underlying0
 a0:=Tryz.isAgg0
 z0:=Tryz.sizeOf0
 v0:=Tryz.zeroValue0
 t3:=Tryz.underlying3
 a3:=Tryz.isAgg3
 z3:=Tryz.sizeOf3
 v3:=Tryz.zeroValue3
 t4:=Tryz.underlying4
 a4:=Tryz.isAgg4
 z4:=Tryz.sizeOf4
 v4:=Tryz.zeroValue4
 t5:=Tryz.underlying5
 a5:=Tryz.isAgg5
 z5:=Tryz.sizeOf5
 v5:=Tryz.zeroValue5
 t9:=Tryz.underlying9
 a9:=Tryz.isAgg9
 z9:=Tryz.sizeOf9
 v9:=Tryz.zeroValue9
 t22:=Tryz.underlying303
 a22:=Tryz.isAgg303
 z22:=Tryz.sizeOf303
 v22:=Tryz.zeroValue303
 t25:=Tryz.underlying302
 a25:=Tryz.isAgg302
 z25:=Tryz.sizeOf302
 v25:=Tryz.zeroValue302
 t39:=Tryz.underlying222
 a39:=Tryz.isAgg222
 z39:=Tryz.sizeOf222
 v39:=Tryz.zeroValue222
 t45:=Tryz.underlying261
 a45:=Tryz.isAgg261
 z45:=Tryz.sizeOf261
 v45:=Tryz.zeroValue261
 t46:=Tryz.underlying262
 a46:=Tryz.isAgg262
 z46:=Tryz.sizeOf262
 v46:=Tryz.zeroValue262
 t50:=Tryz.underlying72
 a50:=Tryz.isAgg72
 z50:=Tryz.sizeOf72
 v50:=Tryz.zeroValue72
 t53:=Tryz.underlying268
 a53:=Tryz.isAgg268
 z53:=Tryz.sizeOf268
 v53:=Tryz.zeroValue268
 t55:=Tryz.underlying270
 a55:=Tryz.isAgg270
 z55:=Tryz.sizeOf270
 v55:=Tryz.zeroValue270
 t66:=Tryz.underlying313
 a66:=Tryz.isAgg313
 z66:=Tryz.sizeOf313
 v66:=Tryz.zeroValue313
 t70:=Tryz.underlying317
 a70:=Tryz.isAgg317
 z70:=Tryz.sizeOf317
 v70:=Tryz.zeroValue317
 t76:=Tryz.underlying351
 a76:=Tryz.isAgg351
 z76:=Tryz.sizeOf351
 v76:=Tryz.zeroValue351
 t77:=Tryz.underlying162
 a77:=Tryz.isAgg162
 z77:=Tryz.sizeOf162
 v77:=Tryz.zeroValue162 }
def Tryz.J0:Go.Shelf.Ren:=⟨λ| 5=>140|7=>179|n=>n,λ| 22=>3|3=>3|4=>4|n=>n,λ| n=>n⟩
theorem Tryz.VT:Go.Proofs.SlLaysC2.n5 af Tryz.J0:={
 mixed:=by kernel_rfl
 f5:=⟨Tryz.f140.name,by decide,Tryz.func140.trans (congrArg some (by kernel_rfl))⟩
 f7:=⟨Tryz.f179.name,by decide,Tryz.func179.trans (congrArg some (by kernel_rfl))⟩
 t3:=Tryz.underlying3
 a3:=Tryz.isAgg3
 z3:=Tryz.sizeOf3
 v3:=Tryz.zeroValue3
 t4:=Tryz.underlying4
 a4:=Tryz.isAgg4
 z4:=Tryz.sizeOf4
 v4:=Tryz.zeroValue4
 t22:=Tryz.underlying3
 a22:=Tryz.isAgg3
 z22:=Tryz.sizeOf3
 v22:=Tryz.zeroValue3 }
end Go.Proofs
