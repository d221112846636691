/- A part of the proof: contracts of the functions that the statement reaches. -/
import Derived.Test.YtmaiccmhkmndcaaGreatDoorChpAB
import Derived.Test.YtmaiccmhkmndcaaGreatDoorChpAA
set_option linter.unusedSimpArgs false
set_option linter.unusedVariables false
set_option linter.unnecessarySimpa false
set_option maxRecDepth 100000
set_option maxHeartbeats 40000000
open And renaming intro->ae
open Bool renaming false_ne_true->nJ
open Go.Proofs.Tryz renaming prog->af
open List renaming take_add_one->bz,foldl_append->fG,foldl_cons->lE,mem_append->cL,mem_cons->cy,take_append_drop->mD,take_of_length_le->bN,drop_eq_nil_of_le->lz,append_nil->ib,getElem?_eq_getElem->aV,mem_of_getElem?->aO,drop_eq_getElem_cons->gP,getElem?_eq_some_iff->aq,map->bZ,getD->cF,mem_filter->dN,mem_range->gI,length_map->ak,getElem?_eq_none_iff->bw,any_eq_false->lS,any_eq_true->kS,replicate->ck,length_cons->ea
open Nat renaming zero_lt_succ->iz
namespace Go.Proofs.YtmaiccmhkmndcaaGreatDoor
open Go Go.Sg
namespace bA
theorem Jz{f:Nat->Int}{xs:List Nat}{c x:Nat}(h:xs[c]? =some x):(xs.take (c+1)).foldl (jK f) []=jK f ((xs.take c).foldl (jK f) []) x:=by
 rw[bz,h];simp[fG]
theorem P0{f:Nat->Int}(out:List Nat)(x:Nat):(jK f out x).length=out.length+1:=by
 unfold jK;simp;omega
theorem v8{f:Nat->Int}:∀(xs out:List Nat),(xs.foldl (jK f) out).length=out.length+xs.length
 |[],out=>by simp
 |x::r,out=>by rw[lE,v8 r,P0];simp;omega
theorem P1{f:Nat->Int}{out:List Nat}{x y:Nat}:y∈jK f out x↔y=x\/y∈out:=by
 unfold jK;rw[cL,cy];(have e:y∈out↔y∈out.take (Nj f x out)\/y∈out.drop (Nj f x out):=by rw[<-cL,mD]);rw[e];constructor
 · rintro(h|h|h)
   · exact .inr (.inl h)
   · exact .inl h
   · exact .inr (.inr h)
 · rintro(h|h|h)
   · exact .inr (.inl h)
   · exact .inl h
   · exact .inr (.inr h)
theorem Df{f:Nat->Int}:∀{xs out:List Nat} {y:Nat},y∈xs.foldl (jK f) out↔y∈xs\/y∈out
 |[],out,y=>by simp
 |x::r,out,y=>by
  rw[lE,Df,P1,cy];constructor
  · rintro(h|h|h)
    · exact .inl (.inr h)
    · exact .inl (.inl h)
    · exact .inr h
  · rintro((h|h)|h)
    · exact .inr (.inl h)
    · exact .inl h
    · exact .inr (.inr h)
theorem uQ(l:List Dc)(sg:List Int)(D K:List PV)(n1 n2:Nat)(xs:List Nat)(hx:∀i∈xs,i<sg.length)(te:sg.length<1000000)(BC:xs.length<1000000):
 aM af 261 6 [(0,pC l sg n1 n2),(1,.row 1 D),(2,.row 1 K),(3,.map fT []),(4,.cells [.ptr 0 0]),(5,.row 1 (xs.map eN))] [.bo 5 1 0 xs.length,.p (eI 0),.p (eI xs.length),.fn (.func 181) [] [.ptr 4 0]] (.bR []) [(0,pC l sg n1 n2),(1,.row 1 D),(2,.row 1 K),(3,.map fT []),(4,.cells [.ptr 0 0]),(5,.row 1 ((xs.foldl (jK (lu sg)) []).map eN))]:=by
 refine aM.e Tryz.func261 53 [] zV ?_;refine cb ?_;refine bY.bq (α:={c:Nat // 1<=c/\(c<=xs.length\/c=1)}) mixed zV (λc=>[(8,.p (eI c.1))]) (λc=>[(5,.row 1 ((((xs.take c.1).foldl (jK (lu sg)) [])++xs.drop c.1).map eN))]) (λ_=>0) (λc=>xs.length+1-c.1) ⟨1,by omega⟩ ?_ ?_
 · refine aG ?_
   cases xs<;>rfl
 rintro⟨c,h1,h2⟩;have h1:1<=c:=h1;have h2:c<=xs.length\/c=1:=h2;by_cases sJ:c<xs.length
 case neg=>
  (have bV:¬(c:Int)<(xs.length:Int):=by omega);have e1:xs.take c=xs:=bN (by omega);have e2:xs.drop c=[]:=lz (by omega);rw[e1,e2,ib];refine bM (kN bV) (λhc=>?_);exact nr [] [(0,0),(1,1),(2,2),(3,3),(4,4),(5,5)] trivial
 case pos=>
 (have ay:(c:Int)<(xs.length:Int):=by omega);obtain⟨x,hxc⟩:∃x,xs[c]? =some x:=⟨_,aV sJ⟩;have ub:=Jz (f:=lu sg) hxc;have Rn:((xs.take c).foldl (jK (lu sg)) []).length=c:=by rw[v8];simp;omega
 have Jg:∀y∈(xs.take c).foldl (jK (lu sg)) [],y<sg.length:=λy hy=>by
  rcases Df.1 hy with h|h
  · exact hx y (List.mem_of_mem_take h)
  · cases h
 have ku:x<sg.length:=hx x (aO hxc);(have WT:xs.drop c=x::xs.drop (c+1):=by rw[gP sJ];congr 1;exact(aq.1 hxc).2);have oI:(xs.drop (c+1)).length=xs.length-(c+1):=List.length_drop;generalize ME:(xs.take c).foldl (jK (lu sg)) []=out at *;generalize Lf:xs.drop (c+1)=rest at *;rw[WT];refine bM (kY ay) (λhc=>?_);(have e0:out.take c++x::(out.drop c++rest)=out++x::rest:=by rw[bN (by omega),lz (by omega)];rfl);refine bY.bq (α:={j:Nat // j<=c/\ ∀m y,j<=m->out[m]? =some y->lu sg x<lu sg y}) mixed zV (λj=>[(9,.p (eI j.1))]) (λj=>[(5,.row 1 ((out.take j.1++x::(out.drop j.1++rest)).map eN))]) (λ_=>0) (λj=>j.1) ⟨c,by omega,λm y h hm=>absurd (aq.1 hm).1 (by omega)⟩ ?_ ?_
 · refine aG ?_
   rw[e0]
 rintro⟨j,hj,hg⟩;have hj:j<=c:=hj;have hg:∀m y,j<=m->out[m]? =some y->lu sg x<lu sg y:=hg
 have fin:(∀y,0<j->out[j-1]? =some y-> ¬ lu sg x<lu sg y)->(xs.take (c+1)).foldl (jK (lu sg)) []++rest=out.take j++x::(out.drop j++rest):=λh=>by
  rw[ub];unfold jK;rw[SR (lu sg) x out j (by omega) hg h];simp
 cases j with
 |zero=>
  (have y7:¬(0:Int)<((0:Nat):Int):=by decide);have fin:=fin (λy h=>absurd h (by omega));refine bM (kN y7) (λhc hc hc hc hc hc hc hc hc hc hc hc hc=>?_);refine⟨⟨c+1,by omega,by omega⟩,by show xs.length+1-(c+1)<xs.length+1-c;omega,?_⟩;refine aG ?_;show bZ eN _=bZ eN ((xs.take (c+1)).foldl (jK (lu sg)) []++xs.drop (c+1));rw[Lf,fin]
 |succ j=>
  (have y7:(0:Int)<((j+1:Nat):Int):=by omega);obtain⟨y,hy⟩:∃y,out[j]? =some y:=⟨_,aV (by omega)⟩;have hym:=Jg y (aO hy);(have hsx:sg[x]? =some (lu sg x):=by simp[lu,cF,ku]);(have hsy:sg[y]? =some (lu sg y):=by simp[lu,cF,hym]);have q:=Hh l sg D K n1 n2 x y _ _ hsx hsy te;have hL:(out.take (j+1)).length=j+1:=by simp;omega
  have Hi:(out.take (j+1)++x::(out.drop (j+1)++rest))[0+((j+1:Nat):Int).toNat]? =some x:=by
   rw[show 0+((j+1:Nat):Int).toNat=j+1 by omega,List.getElem?_append_right (by omega),hL,Nat.sub_self];rfl
  have hiy:(out.take (j+1)++x::(out.drop (j+1)++rest))[0+(((j+1:Nat):Int)-1).toNat]? =some y:=by
   rw[show 0+(((j+1:Nat):Int)-1).toNat=j by omega,List.getElem?_append_left (by omega),List.getElem?_take_of_lt (by omega)];exact hy
  have hlen:(out.take (j+1)++x::(out.drop (j+1)++rest)).length=xs.length:=by simp;omega
  by_cases aC:lu sg x<lu sg y
  · have qe:qh (lu sg x) (lu sg y)<0:=(yc).2 aC
    refine Rh (kI [0,1,2,3,4] q) (kY y7) (kY qe) (kX Hi) (kX hiy) (λhc hc=>?_);refine⟨⟨j,by omega,λm z hm hz=>?_⟩,by show j<j+1;omega,?_⟩
    · rcases Nat.lt_or_eq_of_le hm with h|h
      · exact hg m z h hz
      · subst h;rw[hy] at hz;injection hz with hz;rw[<-hz];exact aC
    · refine aG ?_
      show((bZ eN (out.take (j+1)++x::(out.drop (j+1)++rest))).set (0+((j+1:Nat):Int).toNat) (eN y)).set (0+(((j+1:Nat):Int)-1).toNat) (eN x)=bZ eN (out.take j++x::(out.drop j++rest));rw[show 0+((j+1:Nat):Int).toNat=j+1 by omega,show 0+(((j+1:Nat):Int)-1).toNat=j by omega,<-List.map_set,<-List.map_set,swp out rest x y j hy]
  · have qe:¬ qh (lu sg x) (lu sg y)<0:=λh=>aC ((yc).1 h)
    have fin:=fin (λz _ hz=>by
     have hz:out[j]? =some z:=hz
     rw[hy] at hz;injection hz with hz;rw[<-hz];exact aC)
    refine Rh (kI [0,1,2,3,4] q) (kY y7) (kN qe) (kX Hi) (kX hiy) (λhc hc=>?_);refine⟨⟨c+1,by omega,by omega⟩,by show xs.length+1-(c+1)<xs.length+1-c;omega,?_⟩;refine aG ?_;show bZ eN _=bZ eN ((xs.take (c+1)).foldl (jK (lu sg)) []++xs.drop (c+1));rw[Lf,fin]
theorem BE(l:List Dc)(sg:List Int)(D K:List PV)(n1 n2:Nat)(xs:List Nat)(b:Int)(hb:b=xs.length)(hx:∀i∈xs,i<sg.length)(te:sg.length<1000000)(BC:xs.length<1000000):
 aM af 261 6 [(0,pC l sg n1 n2),(1,.row 1 D),(2,.row 1 K),(3,.map fT []),(4,.cells [.ptr 0 0]),(5,.row 1 (xs.map eN))] [.bo 5 1 0 xs.length,.p (eI 0),.p (eI b),.fn (.func 181) [] [.ptr 4 0]] (.bR []) [(0,pC l sg n1 n2),(1,.row 1 D),(2,.row 1 K),(3,.map fT []),(4,.cells [.ptr 0 0]),(5,.row 1 ((xs.foldl (jK (lu sg)) []).map eN))]:=by
 subst hb;exact uQ l sg D K n1 n2 xs hx te BC
theorem BF(l:List Dc)(sg:List Int)(D K:List PV)(n1 n2:Nat)(R:List PV)(n:Nat)(a b:Int)(h0:0<=a)(ha:a<1000000)(xB:a=b):
 aM af 261 6 [(0,pC l sg n1 n2),(1,.row 1 D),(2,.row 1 K),(3,.map fT []),(4,.cells [.ptr 0 0]),(5,.row 1 R)] [.bo 5 1 0 n,.p (eI a),.p (eI b),.fn (.func 181) [] [.ptr 4 0]] (.bR []) [(0,pC l sg n1 n2),(1,.row 1 D),(2,.row 1 K),(3,.map fT []),(4,.cells [.ptr 0 0]),(5,.row 1 R)]:=by
 (have bV:¬ a+1<b:=by omega);refine aM.e Tryz.func261 53 [] zV ?_;refine cb ?_;refine bY.bq (α:=Unit) mixed zV (λ_=>[]) (λ_=>[]) (λ_=>0) (λ_=>0) () ?_ ?_
 · exact aG trivial
 intro _;refine bM (kN bV) (λhc=>?_);exact nr [] [(0,0),(1,1),(2,2),(3,3),(4,4),(5,5)] trivial
theorem BG(l:List Dc)(sg:List Int)(D K:List PV)(n1 n2:Nat):
 aM af 261 5 [(0,pC l sg n1 n2),(1,.row 1 D),(2,.row 1 K),(3,.map fT []),(4,.cells [.ptr 0 0])] [.p (.sl 0 true []),.p (eI 0),.p (eI 0),.fn (.func 181) [] [.ptr 4 0]] (.bR []) [(0,pC l sg n1 n2),(1,.row 1 D),(2,.row 1 K),(3,.map fT []),(4,.cells [.ptr 0 0])]:=by
 (have bV:¬(0:Int)+1<0:=by decide);refine aM.e Tryz.func261 53 [] zV ?_;refine cb ?_;refine bY.bq (α:=Unit) mixed zV (λ_=>[]) (λ_=>[]) (λ_=>0) (λ_=>0) () ?_ ?_
 · exact aG trivial
 intro _;refine bM (kN bV) (λhc=>?_);exact nr [] [(0,0),(1,1),(2,2),(3,3),(4,4)] trivial
theorem zY(l:List Dc)(sg:List Int)(D K:List PV)(n1 n2:Nat):
 aM af 228 5 [(0,pC l sg n1 n2),(1,.row 1 D),(2,.row 1 K),(3,.map fT []),(4,.cells [.ptr 0 0])] [.p (.sl 0 true []),.p (eI 0),.fn (.func 181) [] [.ptr 4 0]] (.bR []) [(0,pC l sg n1 n2),(1,.row 1 D),(2,.row 1 K),(3,.map fT []),(4,.cells [.ptr 0 0])]:=by
 have h1:¬(20:Int)<=0:=by decide
 (have h2:¬(20:Int)<0:=by decide);refine aM.e Tryz.func228 63 [] uN ?_;refine cb ?_;refine bY.bq (α:=Unit) mixed uN (λ_=>[]) (λ_=>[]) (λ_=>0) (λ_=>0) () ?_ ?_
 · exact aG trivial
 intro _;refine gG (kN h1) (kI [0,1,2,3,4] (BG l sg D K n1 n2)) (λhc=>?_);refine bY.bq (α:=Unit) mixed uN (λ_=>[]) (λ_=>[]) (λ_=>0) (λ_=>0) () ?_ ?_
 · exact aG trivial
 intro _;refine bM (kN h2) (λhc=>?_);exact nr [] [(0,0),(1,1),(2,2),(3,3),(4,4)] trivial
theorem Er(l:List Dc)(sg:List Int)(D K:List PV)(n1 n2:Nat):
 aM af 180 5 [(0,pC l sg n1 n2),(1,.row 1 D),(2,.row 1 K),(3,.map fT []),(4,.cells [.ptr 0 0])] [.p (.sl 0 true []),.fn (.func 181) [] [.ptr 4 0]] (.bR []) [(0,pC l sg n1 n2),(1,.row 1 D),(2,.row 1 K),(3,.map fT []),(4,.cells [.ptr 0 0])]:=by
 refine aM.e Tryz.func180 9 [] [0,1] ?_;refine bM (kI [0,1,2,3,4] (zY l sg D K n1 n2)) ?_;exact nr [] [(0,0),(1,1),(2,2),(3,3),(4,4)] trivial
theorem BH(l:List Dc)(sg:List Int)(D K:List PV)(n1 n2:Nat)(xs:List Nat)(hx:∀i∈xs,i<sg.length)(te:sg.length<1000000)(BC:xs.length<=20):
 aM af 228 6 [(0,pC l sg n1 n2),(1,.row 1 D),(2,.row 1 K),(3,.map fT []),(4,.cells [.ptr 0 0]),(5,.row 1 (xs.map eN))] [.bo 5 1 0 xs.length,.p (eI xs.length),.fn (.func 181) [] [.ptr 4 0]] (.bR []) [(0,pC l sg n1 n2),(1,.row 1 D),(2,.row 1 K),(3,.map fT []),(4,.cells [.ptr 0 0]),(5,.row 1 ((xs.foldl (jK (lu sg)) []).map eN))]:=by
 have h2:¬(20:Int)<(xs.length:Int):=by omega
 by_cases h20:xs.length=20
 · have hb:(20:Int)=xs.length:=by omega
   have q1:=BE l sg D K n1 n2 xs 20 hb hx te (by omega);have q2:=BF l sg D K n1 n2 ((xs.foldl (jK (lu sg)) []).map eN) xs.length 20 xs.length (by omega) (by omega) hb;(have h1:(20:Int)<=(xs.length:Int):=by omega);(have h3:¬(40:Int)<=(xs.length:Int):=by omega);refine aM.e Tryz.func228 63 [] uN ?_;refine cb ?_;refine bY.bq (α:=Bool) mixed uN (λb=>[(7,.p (eI (if b then 20 else 0))),(8,.p (eI (if b then 40 else 20)))]) (λb=>[(5,.row 1 ((if b then xs.foldl (jK (lu sg)) [] else xs).map eN))]) (λ_=>0) (λb=>if b then 0 else 1) false ?_ ?_
   · exact aG trivial
   intro b
   cases b with
   |false=>
    refine gG (kY h1) (kI [0,1,2,3,4,5] q1) (λhc=>?_);refine⟨true,by decide,?_⟩;exact aG trivial
   |true=>
    refine gG (kN h3) (kI [0,1,2,3,4,5] q2) (λhc=>?_);refine bY.bq (α:=Unit) mixed uN (λ_=>[]) (λ_=>[]) (λ_=>0) (λ_=>0) () ?_ ?_
    · exact aG trivial
    intro _;refine bM (kN h2) (λhc=>?_);exact nr [] [(0,0),(1,1),(2,2),(3,3),(4,4),(5,5)] trivial
 · have h1:¬(20:Int)<=(xs.length:Int):=by omega
   have q1:=uQ l sg D K n1 n2 xs hx te (by omega);refine aM.e Tryz.func228 63 [] uN ?_;refine cb ?_;refine bY.bq (α:=Unit) mixed uN (λ_=>[]) (λ_=>[]) (λ_=>0) (λ_=>0) () ?_ ?_
   · exact aG trivial
   intro _;refine gG (kN h1) (kI [0,1,2,3,4,5] q1) (λhc=>?_);refine bY.bq (α:=Unit) mixed uN (λ_=>[]) (λ_=>[]) (λ_=>0) (λ_=>0) () ?_ ?_
   · exact aG trivial
   intro _;refine bM (kN h2) (λhc=>?_);exact nr [] [(0,0),(1,1),(2,2),(3,3),(4,4),(5,5)] trivial
theorem lF(l:List Dc)(sg:List Int)(D K:List PV)(n1 n2:Nat)(xs:List Nat)(hx:∀i∈xs,i<sg.length)(te:sg.length<1000000)(BC:xs.length<=20):
 aM af 180 6 [(0,pC l sg n1 n2),(1,.row 1 D),(2,.row 1 K),(3,.map fT []),(4,.cells [.ptr 0 0]),(5,.row 1 (xs.map eN))] [.bo 5 1 0 xs.length,.fn (.func 181) [] [.ptr 4 0]] (.bR []) [(0,pC l sg n1 n2),(1,.row 1 D),(2,.row 1 K),(3,.map fT []),(4,.cells [.ptr 0 0]),(5,.row 1 ((xs.foldl (jK (lu sg)) []).map eN))]:=by
 have q1:=BH l sg D K n1 n2 xs hx te BC;refine aM.e Tryz.func180 9 [] [0,1] ?_;refine bM (kI [0,1,2,3,4,5] q1) ?_;exact nr [] [(0,0),(1,1),(2,2),(3,3),(4,4),(5,5)] trivial
def oV(n:Nat):List Nat->AV
 |[]=>.p (.sl 0 true [])
 |_::r=>.bo n 1 0 (r.length+1)
def oH(n:Nat):List Nat->ab
 |[]=>[]
 |a::r=>[(n,.row 1 ((a::r).map eN))]
theorem P2(sg:List Int)(at_:Int)(n:Nat):vr sg at_ (n+1)=vr sg at_ n++if Oe sg at_ n then[n] else[]:=by
 unfold vr;rw[List.range_succ,List.filter_append];congr 1;cases h:Oe sg at_ n<;>simp[h]
theorem VJ{sg:List Int}{at_:Int}{n i:Nat}(h:i∈vr sg at_ n):i<n/\Oe sg at_ i=true:=by
 unfold vr at h;rw[dN,gI] at h;exact h
theorem Ly(sg:List Int)(at_:Int)(n:Nat):(vr sg at_ n).length<=n:=by
 unfold vr;have:=List.length_filter_le (Oe sg at_) (List.range n);rw[List.length_range] at this;exact this
theorem xL(l:List Dc)(sg:List Int)(D K:List PV)(n1 n2:Nat)(at_:Int)(te:sg.length<=20):
 aM af 142 4 [(0,pC l sg n1 n2),(1,.row 1 D),(2,.row 1 K),(3,.map fT [])] [.ptr 0 0,.p (eI at_)] (.p (.fn (.func 229) [] [.ro [Z5 (gw sg at_)]])) [(0,pC l sg n1 n2),(1,.row 1 D),(2,.row 1 K),(3,.map fT [])]:=by
 refine aM.e Tryz.func142 35 [.tmp 4] Dd ?_;refine cb ?_;refine bY.bq (α:={i:Nat // i<=sg.length}) mixed Dd (λi=>[(5,oV 5 (vr sg at_ i.1)),(13,.p (eI i.1))]) (λi=>oH 5 (vr sg at_ i.1)) (λ_=>0) (λi=>sg.length-i.1) ⟨0,by omega⟩ ?_ ?_
 · exact aG trivial
 rintro⟨i,hi⟩;have hi:i<=sg.length:=hi;show ya [(5,oV 5 (vr sg at_ i)),(13,_)] _ _ λe=>x9 (oH 5 (vr sg at_ i)) _ [] λh=>_;have Lz:=Ly sg at_ i
 cases aS:sg[i]? with
 |some y=>
  have aC:i<sg.length:=(aq.1 aS).1;(have ay:((i:Int)<((sg.map eI).length:Int)):=by rw[ak];omega);(have hsf:lu sg i=y:=by simp[lu,cF,aS]);have IP:=P2 sg at_ i;have Q9:Oe sg at_ i=(decide (0<=y)&&decide (y<=at_)):=by unfold Oe;rw[hsf]
  cases hG:vr sg at_ i with
  |nil=>
   refine gG (kY ay) (kX aS) (λhc=>ae (λhc=>ae (λhc aZ=>?_) λhc=>?_) λhc=>?_)
   all_goals first
   |(have vP:Oe sg at_ i=true:=by rw[Q9];simp;omega
     refine⟨⟨i+1,aC⟩,by show sg.length-(i+1)<sg.length-i;omega,?_⟩;show di _ _ (kj Dd _ _ _ [(5,oV 5 (vr sg at_ (i+1))),(13,.p (eI ((i+1:Nat):Int)))] (oH 5 (vr sg at_ (i+1))) _);rw[IP,hG,if_pos vP]
     exact aG trivial)
   |(have vP:Oe sg at_ i=false:=by rw[Q9];simp;omega
     refine⟨⟨i+1,aC⟩,by show sg.length-(i+1)<sg.length-i;omega,?_⟩;show di _ _ (kj Dd _ _ _ [(5,oV 5 (vr sg at_ (i+1))),(13,.p (eI ((i+1:Nat):Int)))] (oH 5 (vr sg at_ (i+1))) _);rw[IP,hG,if_neg (by rw[vP];exact nJ),ib]
     exact aG trivial)
   |trace_state
  |cons g gr=>
   (have PD:gr.length<=20:=by have h:=Lz;rw[hG] at h;simp at h;omega);refine gG (kY ay) (kX aS) (λhc=>ae (λhc=>ae (λhc=>?_) λhc=>?_) λhc=>?_)
   all_goals first
   |(have vP:Oe sg at_ i=true:=by rw[Q9];simp;omega
     refine⟨⟨i+1,aC⟩,by show sg.length-(i+1)<sg.length-i;omega,?_⟩;show di _ _ (kj Dd _ _ _ [(5,oV 5 (vr sg at_ (i+1))),(13,.p (eI ((i+1:Nat):Int)))] (oH 5 (vr sg at_ (i+1))) _);rw[IP,hG,if_pos vP];refine aG ?_
     all_goals(try(show bZ eN (g::gr)++[eN i]=bZ eN (g::(gr++[i]));simp;done)))
   |(have vP:Oe sg at_ i=false:=by rw[Q9];simp;omega
     refine⟨⟨i+1,aC⟩,by show sg.length-(i+1)<sg.length-i;omega,?_⟩;show di _ _ (kj Dd _ _ _ [(5,oV 5 (vr sg at_ (i+1))),(13,.p (eI ((i+1:Nat):Int)))] (oH 5 (vr sg at_ (i+1))) _);rw[IP,hG,if_neg (by rw[vP];exact nJ),ib]
     exact aG trivial)
   |trace_state
 |none=>
  have dD:sg.length<=i:=bw.1 aS;(have bV:¬((i:Int)<((sg.map eI).length:Int)):=by rw[ak];omega);(have yR:i=sg.length:=by omega);(have ho:gw sg at_=(vr sg at_ i).foldl (jK (lu sg)) []:=by rw[yR];rfl);(have hx:∀j∈vr sg at_ i,j<sg.length:=λj hj=>by have:=(VJ hj).1;omega);rw[ho]
  cases hG:vr sg at_ i with
  |nil=>
   have q:=Er l sg D K n1 n2;have q2:=uO [];refine gg (kI [0,1,2,3,4] q) (kZ q2) (kN bV) (λhc=>?_);exact nr [] [(0,0),(1,1),(2,2),(3,3)] trivial
  |cons g gr=>
   rw[hG] at hx Lz;have q:=lF l sg D K n1 n2 (g::gr) hx (by omega) (by omega);have q2:=uO ((g::gr).foldl (jK (lu sg)) []);have N8:((g::gr).foldl (jK (lu sg)) []).length=gr.length+1:=by rw[v8];simp
   repeat' (first|exact fg|(refine stx ?_;first|exact bW _|refine aE ?_)|(refine kq ?_;first|refine fR (kI [0,1,2,3,4,5] q) ?_|(refine k9 q2 (by kernel_rfl) rfl ?_;refine ae ⟨rfl,iz _,(by simp only[ak,N8];omega)⟩ ?_))|((fail_if_success refine ft ?_);(conv=>whnf)<;>(first|exact fh|refine vZ bV λhc=>?_|refine str ?_|refine Br.dec (λhc=>?_) λhc=>?_|refine Br.mk (λhc=>?_) λhc=>?_|exact PV.ao|refine PV.ai ?_ ?_|refine ae ?_ ?_|refine aD λx hx=>?_|refine aE ?_|refine bX (λhn=>?_) ?_|(refine k9 q2 (by kernel_rfl) rfl ?_;refine ae ⟨rfl,iz _,(by simp only[ak,N8];omega)⟩ ?_)|exact fv|refine bS λaZ=>?_|refine al ?_ ?_|refine fu ?_|fail)))<;>(try exact fi)
   · rw[List.drop_zero,bN (by rw[ak,N8];exact Nat.le_refl _)];exact PV.le_refl _
   · exact nr [] [(0,0),(1,1),(2,2),(3,3)] trivial
def oK(L:List Dc)(t:Int):Bool:=(bn t (su L)).isNone
def SU(L:List Dc):PV:= .ro [eL L,A7 (su L)]
theorem JA(L:List Dc)(t:Int):aa af 116 [eI t,SU L] (.bool (oK L t)):=by
 refine aa.e Tryz.func116 15 [.tmp 3] [0,1,3,5] ?_;refine bM (kO (bj eI iM t (su L))) (ae (λz hz=>?_) λhz=>?_)
 all_goals(refine aP.bool ?_;unfold oK;rw[hz];rfl)
theorem p0(L:List Dc)(l:List Int)(hl:l.length<1000000):aa af 91 [dm l,.fn (.func 116) [] [SU L]] (.bool (l.any λt=>oK L t)):=by
 have q1:∃k:Int,aa af 149 [dm l,.fn (.func 116) [] [SU L]] (eI k)/\(decide (0<=k)=l.any λt=>oK L t):=by
  generalize hP:(λt:Int=>oK L t)=p;have hp:∀t,aa af 116 [eI t,SU L] (.bool (p t)):=λt=>by rw[<-hP];exact JA L t
  cases hF:l.findIdx? p with
  |none=>
   (have hn:∀x∈l,p x=false:=λx hx=>by simpa using List.findIdx?_eq_none_iff.1 hF x hx);refine⟨-1,?_,?_⟩
   · refine aa.e Tryz.func149 19 [.tmp 4] nO ?_
     refine cb ?_;refine bY.bK (α:={i:Nat // i<=l.length}) mixed nO (λi=>[(8,.p (eI i.1))]) (λi=>l.length-i.1) ⟨0,by omega⟩ ?_ ?_
     · exact aG trivial
     rintro⟨i,hi⟩;have hi:i<=l.length:=hi
     cases hx:l[i]? with
     |none=>
      have dD:l.length<=i:=bw.1 hx;(have bV:¬((i:Int)<((l.map eI).length:Int)):=by rw[ak];omega);exact bM (kN bV) trivial
     |some x=>
      have aC:i<l.length:=(aq.1 hx).1;(have ay:((i:Int)<((l.map eI).length:Int)):=by rw[ak];omega);have q:=hp x;rw[hn x (aO hx)] at q;refine gg q (kY ay) (kX hx) (λhc=>?_);refine⟨⟨i+1,aC⟩,by show l.length-(i+1)<l.length-i;omega,?_⟩;exact aG trivial
   · rw[show l.any p=false from lS.2 λx hx=>by rw[hn x hx];exact nJ];rfl
  |some n=>
   obtain⟨vj,YJ,Pd⟩:=List.findIdx?_eq_some_iff_getElem.1 hF;refine⟨n,?_,?_⟩
   · refine aa.e Tryz.func149 19 [.tmp 4] nO ?_
     refine cb ?_;refine bY.bK (α:={i:Nat // i<=n}) mixed nO (λi=>[(8,.p (eI i.1))]) (λi=>l.length-i.1) ⟨0,by omega⟩ ?_ ?_
     · exact aG trivial
     rintro⟨i,hi⟩;have hi:i<=n:=hi;(have aC:i<l.length:=by omega);have hx:l[i]? =some l[i]:=aV aC;(have ay:((i:Int)<((l.map eI).length:Int)):=by rw[ak];omega);have q:=hp l[i];by_cases Ch:i=n
     · subst Ch
       rw[YJ] at q;exact gg q (kY ay) (kX hx) trivial
     · have hb:=Pd i (by omega)
       rw[show p l[i]=false by simpa using hb] at q;refine gg q (kY ay) (kX hx) (λhc=>?_);refine⟨⟨i+1,by omega⟩,by show l.length-(i+1)<l.length-i;omega,?_⟩;exact aG trivial
   · rw[show l.any p=true from kS.2 ⟨l[n],List.getElem_mem vj,YJ⟩,decide_eq_true (by omega)]
 obtain⟨k,q1,e⟩:=q1;rw[<-e];refine aa.e Tryz.func91 9 [.tmp 4] [0,1,4] ?_;exact bM q1 trivial
 all_goals(refine aP.bool ?_;simp)
theorem Hj{L:List Dc}{t:Int}:∀n,bn t (Is L n)=none↔ ∀j w,j<n->L[j]? =some w->w.no≠t
 |0=>⟨λ_ j w h=>by omega,λ_=>rfl⟩
 |n+1=>by
  have ih:=Hj (L:=L) (t:=t) n
  cases hn:L[n]? with
  |none=>
   rw[Is,hn];refine ih.trans ⟨λh j w hj hw=>?_,λh j w hj hw=>h j w (by omega) hw⟩;rcases Nat.lt_succ_iff_lt_or_eq.1 hj with h1|h1
   · exact h j w h1 hw
   · rw[h1,hn] at hw;cases hw
  |some d=>
   rw[zX hn,dj];by_cases hd:t=d.no
   · rw[if_pos hd]
     exact⟨λh=>(by cases h),λh=>absurd hd.symm (h n d (by omega) hn)⟩
   · rw[if_neg hd]
     refine ih.trans ⟨λh j w hj hw=>?_,λh j w hj hw=>h j w (by omega) hw⟩;rcases Nat.lt_succ_iff_lt_or_eq.1 hj with h1|h1
     · exact h j w h1 hw
     · rw[h1,hn] at hw;injection hw with hw;subst hw;exact λe=>hd e.symm
theorem uR{L:List Dc}{t k:Int}:∀n,bn t (Is L n)=some k->∃(j:Nat) (w:Dc),k=j/\j<n/\L[j]? =some w/\w.no=t
 |0,h=>by cases h
 |n+1,h=>by
  have ih:=uR (L:=L) (t:=t) (k:=k) n
  cases hn:L[n]? with
  |none=>
   rw[Is,hn] at h;obtain⟨j,w,h1,h2,h3⟩:=ih h;exact⟨j,w,h1,by omega,h3⟩
  |some d=>
   rw[zX hn,dj] at h;by_cases hd:t=d.no
   · rw[if_pos hd] at h
     injection h with h;exact⟨n,d,h.symm,by omega,hn,hd.symm⟩
   · rw[if_neg hd] at h
     obtain⟨j,w,h1,h2,h3⟩:=ih h;exact⟨j,w,h1,by omega,h3⟩
theorem Hk(L:List Dc)(t:Int):oK L t= !(L.any λx=>decide (x.no=t)):=by
 unfold oK su
 cases h:bn t (Is L L.length) with
 |none=>
  have h1:=(Hj L.length).1 h
  rw[lS.2 λx hx e=>by
   obtain⟨j,hj⟩:=List.getElem?_of_mem hx
   exact h1 j x (aq.1 hj).1 hj (of_decide_eq_true e)]
  rfl
 |some k=>
  obtain⟨j,w,_,_,hw,e⟩:=uR L.length h;rw[kS.2 ⟨w,aO hw,decide_eq_true e⟩];rfl
theorem zZ(L:List Dc):∀P:List Int,(!P.any (oK L))=Nk L P
 |[]=>rfl
 |n::r=>by
  have ih:=zZ L r;have e:Nk L (n::r)=((L.any λx=>decide (x.no=n))&&Nk L r):=rfl;rw[e,<-ih,List.any_cons,Hk];cases(L.any λx=>decide (x.no=n))<;>simp
theorem xM(L:List Dc)(x:Dc)(h2:x.rev.length<1000000)(h3:x.need.length<1000000):aa af 61 [eSh L,eA x] (.bool (kr L x)):=by
 (have e:kr L x=(!x.rev.any (oK L)&& !x.need.any (oK L)):=by unfold kr;rw[zZ,zZ]);rw[e];have q1:=p0 L x.rev h2;have q2:=p0 L x.need h3;refine aa.e Tryz.func61 19 [.tmp 4] [0,1,2,3,4,5] ?_;refine gg q1 q2 (kF 2 [(5,false)]) (ae (λhc=>?_) λhc=>?_)
 · refine aP.bool ?_
   rw[show x.rev.any (oK L)=true from hc];rfl
 · refine aP.bool ?_
   rw[show x.rev.any (oK L)=false from hc];rfl
def Iu(l:List Dc):Pl:=⟨ck l.length false,ck l.length 0,[]⟩
def wa(l:List Dc)(no:Int):Nat:=((bn no (su l)).getD 0).toNat
def w7(l:List Dc)(p:Pl)(t acc no:Int):Int:=if(lg l p (wa l no) t).1≠0 then no else acc
def Dg(l:List Dc)(p:Pl)(t:Int)(YK:List Int):Int:=YK.reverse.foldl (w7 l p t) (-1)
def lD(no:Int)(m:List (Int×List Int))(n:Int):List (Int×List Int):=dQ n ((bn n m).getD []++[no]) m
def sS(l:List Dc)(sg:List Int)(p:Pl)(i:Nat):Pl:=
 match l[i]? with
 |none=>p
 |some d=>⟨p.dn.set i true,p.lk.set i (Dg l p (lu sg i) d.need),if Dg l p (lu sg i) d.need<0 then d.rev.foldl (lD d.no) p.rv else p.rv⟩
def dA(l:List Dc)(sg:List Int)(o:List Nat):Pl:=o.foldl (sS l sg) (Iu l)
theorem JB{l:List Dc}{sg:List Int}{O:List Nat}{k i:Nat}(h:O[k]? =some i):dA l sg (O.take (k+1))=sS l sg (dA l sg (O.take k)) i:=by
 unfold dA;rw[bz,h];simp[fG]
theorem Hl{α:Type}(l:List α)(i j:Nat)(v z:α)(h:i<l.length):(l.set i v).getD j z=if j=i then v else l.getD j z:=by
 simp only[cF,List.getElem?_set];by_cases gx:j=i
 · subst gx;simp[h]
 · rw[if_neg (λe=>gx e.symm),if_neg gx]
theorem SV{l:List Dc}{p:Pl}{i j:Nat}{v t:Int}(hi:i<p.lk.length)(h:p.dn.getD i false=false):lg l ⟨p.dn,p.lk.set i v,p.rv⟩ j t=lg l p j t:=by
 unfold lg
 cases l[j]? with
 |none=>rfl
 |some d=>
  show(if p.dn.getD j false=false then _ else if 0<=(p.lk.set i v).getD j 0 then(4,(p.lk.set i v).getD j 0) else _)=_;by_cases hj:j=i
  · subst hj;rw[if_pos h];show _=(if p.dn.getD j false=false then _ else _);rw[if_pos h]
  · rw[Hl _ _ _ _ _ hi,if_neg hj]
def Bd(m:List (Int×List Int))(B:Nat):Prop:=∀n ls,bn n m=some ls->ls≠[]/\ls.length<=B
theorem JC{no:Int}:∀(R:List Int) (m:List (Int×List Int)) (B:Nat),Bd m B->Bd (R.foldl (lD no) m) (B+R.length)
 |[],m,B,h=>h
 |n::r,m,B,h=>by
  have h1:Bd (lD no m n) (B+1):=λk ls hk=>by
   unfold lD at hk;rw[dj] at hk;by_cases e:k=n
   · rw[if_pos e] at hk
     injection hk with hk;subst hk;refine⟨by simp,?_⟩
     cases hg:bn n m with
     |none=>simp
     |some z=>have:=(h n z hg).2;simp;omega
   · rw[if_neg e] at hk
     exact⟨(h k ls hk).1,by have:=(h k ls hk).2;omega⟩
  have:=JC (no:=no) r _ _ h1;rw[lE,ea];intro k ls hk;have h2:=this k ls hk;exact⟨h2.1,by omega⟩
structure Hm(l:List Dc)(p:Pl)(B:Nat):Prop where
 dl:p.dn.length=l.length
 ll:p.lk.length=l.length
 bd:Bd p.rv B
theorem Hm.step{l:List Dc}{sg:List Int}{p:Pl}{B:Nat}(hr:∀x∈l,x.rev.length<=20)(h:Hm l p B)(i:Nat):Hm l (sS l sg p i) (B+20):=by
 unfold sS
 cases hd:l[i]? with
 |none=>exact⟨h.dl,h.ll,λn ls hn=>⟨(h.bd n ls hn).1,by have:=(h.bd n ls hn).2;omega⟩⟩
 |some d=>
  refine⟨by simp[h.dl],by simp[h.ll],λn ls hn=>?_⟩;have oI:=hr d (aO hd);simp only at hn;split at hn
  · have:=JC (no:=d.no) d.rev _ _ h.bd n ls hn
    exact⟨this.1,by omega⟩
  · exact⟨(h.bd n ls hn).1,by have:=(h.bd n ls hn).2;omega⟩
theorem Hm.fold{l:List Dc}{sg:List Int}(hr:∀x∈l,x.rev.length<=20):∀(o:List Nat) (p:Pl) (B:Nat),Hm l p B->Hm l (o.foldl (sS l sg) p) (B+20*o.length)
 |[],p,B,h=>h
 |i::r,p,B,h=>by
  have:=Hm.fold (sg:=sg) hr r _ _ (h.step (sg:=sg) hr i);rw[lE,ea,show B+20*(r.length+1)=B+20+20*r.length by omega];exact this
theorem Hm.SX{l:List Dc}{sg:List Int}(hr:∀x∈l,x.rev.length<=20)(o:List Nat):Hm l (dA l sg o) (20*o.length):=by
 have:=Hm.fold (sg:=sg) hr o (Iu l) 0 ⟨by simp[Iu],by simp[Iu],λn ls h=>by cases h⟩;rwa[Nat.zero_add] at this
theorem Hm.ok{l:List Dc}{p:Pl}{B:Nat}(h:Hm l p B)(hB:B<1000000):YI l p:=⟨h.dl,h.ll,λn ls hn=>⟨(h.bd n ls hn).1,by have:=(h.bd n ls hn).2;omega⟩⟩
theorem LB{l:List Dc}{sg:List Int}:∀(o:List Nat) (p:Pl),p.dn.length=l.length->(∀i∈o,i<l.length)-> ∀j,(o.foldl (sS l sg) p).dn.getD j false=(p.dn.getD j false||decide (j∈o))
 |[],p,_,_,j=>by simp
 |i::r,p,hp,ho,j=>by
  have yR:=ho i (by simp);have hd:l[i]? =some l[i]:=aV yR;(have e:(sS l sg p i).dn=p.dn.set i true:=by unfold sS;rw[hd]);rw[lE,LB r _ (by rw[e];simpa using hp) (λx hx=>ho x (by simp[hx])) j,e,Hl _ _ _ _ _ (by omega)];by_cases hj:j=i
  · subst hj;simp
  · rw[if_neg hj];simp[hj]
theorem SY{l:List Dc}{sg:List Int}(o:List Nat)(ho:∀i∈o,i<l.length)(j:Nat):(dA l sg o).dn.getD j false=decide (j∈o):=by
 unfold dA;rw[LB o (Iu l) (by simp[Iu]) ho j]
 have:(Iu l).dn.getD j false=false:=by
  simp only[Iu,cF,List.getElem?_replicate];split<;>rfl
 rw[this,Bool.false_or]
theorem Nl{f:Nat->Int}(out:List Nat)(x:Nat):(jK f out x).Perm (x::out):=by
 unfold jK;refine List.perm_middle.trans ?_;rw[mD]
theorem z6{f:Nat->Int}:∀(xs out:List Nat),(xs.foldl (jK f) out).Perm (xs++out)
 |[],out=>List.Perm.refl _
 |x::r,out=>by
  rw[lE];refine(z6 r _).trans ?_;refine((Nl out x).append_left r).trans ?_;exact List.perm_middle
theorem wb(sg:List Int)(at_:Int):(gw sg at_).Perm (vr sg at_ sg.length):=by
 have:=z6 (f:=lu sg) (vr sg at_ sg.length) [];rwa[ib] at this
theorem JD(sg:List Int)(at_:Int):(gw sg at_).Nodup:=by
 rw[(wb sg at_).nodup_iff];unfold vr;exact List.Nodup.sublist List.filter_sublist List.nodup_range
theorem z7(sg:List Int)(at_:Int):(gw sg at_).length<=sg.length:=by
 rw[(wb sg at_).length_eq];exact Ly sg at_ _
theorem P3{sg:List Int}{at_:Int}{i:Nat}:i∈gw sg at_↔i<sg.length/\Oe sg at_ i=true:=by
 rw[(wb sg at_).mem_iff];unfold vr;rw[dN,gI]
theorem P4{O:List Nat}{k i:Nat}(h:O[k]? =some i)(hn:O.Nodup):i∉O.take k:=by
 have aC:=(aq.1 h).1;have e:=(aq.1 h).2
 have hO:O.take k++i::O.drop (k+1)=O:=by
  rw[<-e,<-gP aC,mD]
 rw[<-hO] at hn;intro hm;exact(List.nodup_append.1 hn).2.2 i hm i (by simp) rfl
theorem Nn{α:Type}{need:List α}{k:Nat}(f:Int->α->Int)(hk:k<need.length)(z:Int)(x:α)(hx:need[need.length-1-k]? =some x):(need.reverse.take (k+1)).foldl f z=f ((need.reverse.take k).foldl f z) x:=by
 have:need.reverse[k]? =some x:=by rw[List.getElem?_reverse hk];exact hx
 rw[bz,this];simp[fG]
theorem No{no:Int}{R:List Int}{m:List (Int×List Int)}{k:Nat}{x:Int}(h:R[k]? =some x):(R.take (k+1)).foldl (lD no) m=lD no ((R.take k).foldl (lD no) m) x:=by
 rw[bz,h];simp[fG]
theorem LC(n:Int)(ls:List Int)(m:List (Int×List Int)):dr (eI n) (.h (ls.map eI)) (hM (oU m))=hM (oU (dQ n ls m)):=by
 rw[Ld];exact congrArg hM (cU (λl:List Int=>l.map eI) iM n ls m)
theorem P5{l:List Dc}{no:Int}(h:(l.any λx=>decide (x.no=no))=true):∃(d:Dc),bn no (su l)=some ((wa l no:Nat):Int)/\l[wa l no]? =some d/\d.no=no:=by
 have hg:=Hk l no;rw[h] at hg;unfold oK at hg
 cases ha:bn no (su l) with
 |none=>rw[ha] at hg;cases hg
 |some k=>
  obtain⟨j,w,e,_,hw,e2⟩:=uR l.length ha;(have e3:wa l no=j:=by unfold wa;rw[ha,e];rfl);exact⟨w,by rw[e3,e],by rw[e3];exact hw,e2⟩
end bA
end Go.Proofs.YtmaiccmhkmndcaaGreatDoor
