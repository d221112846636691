/- A part of the proof: contracts of the functions that the statement reaches. -/
import Derived.Test.YtmaiccmhkmndcaaGreatDoorChpAW
import Derived.Test.YtmaiccmhkmndcaaGreatDoorChpAM
import Derived.Test.YtmaiccmhkmndcaaGreatDoorChpAA
set_option linter.unusedSimpArgs false
set_option linter.unusedVariables false
set_option linter.unnecessarySimpa false
set_option maxRecDepth 100000
set_option maxHeartbeats 40000000
open Go.Proofs.Tryz renaming prog->af
open List renaming mem_cons->cy
namespace Go.Proofs.YtmaiccmhkmndcaaGreatDoor
open Go Go.Sg
namespace Rd
theorem rI:gO af 3 Int (λn=>[eI n]) (λn=>(Lit.int .i64 n).wf=true):=gO.int (by kernel_rfl) (by kernel_rfl)
theorem rB:gO af 4 Bool (λn=>[.bool n]) (λ_=>True):=gO.bool (by kernel_rfl) (by kernel_rfl)
theorem rS:gO af 9 ByteArray (λb=>[eS b]) (λb=>b.size<=reachBytes):=gO.str (by kernel_rfl) (by kernel_rfl)
theorem rU8:gO af 5 Int (λn=>[.int .u8 n]) (λn=>(Lit.int .u8 n).wf=true):=gO.int (by kernel_rfl) (by kernel_rfl)
theorem nY{P:Program}{t:TypeId}{n:Nat}{α β:Type}{ec:α->List PV}{ok:α->Prop}{Jv:β->List PV}{Fo:β->Prop}(h:gO P t α ec ok)(f:α->β)(he:∀x,ok x->Jv (f x)=ec x)(ho:∀x,ok x->Fo (f x))(hz:∀y,(Jv y).length=n)(hc:P.cellsOf t=n)(h1:∀y,(Jv y).all PV.one=true):gO P t β Jv Fo where
 sz y _:=by rw[hz y,hc]
 one y _:=List.all_eq_true.1 (h1 y)
 rd hr hw:=by
  obtain⟨x,k1,k2,k3⟩:=h.rd hr hw;exact⟨f x,ho x k1,k2,λi p hp=>k3 i p (by rw[<-he x k1];exact hp)⟩
theorem wf_u8{n:Int}(h:(Lit.int .u8 n).wf=true):0<=n/\n<=255:=by
 simp[Lit.wf,IntKind.min,IntKind.max,IntKind.signed,IntKind.bits] at h;omega
def Wa(l:List Int):PV:= .sl 1 false (l.map (PV.int .u8))
theorem rAp:gO af 118 Of.Ap (λx=>(Of.eA x).cells) (λ_=>True):=
 nY (n:=7) (gO.struct Tryz.underlying118 (fP.cons rI (fP.cons rI (fP.cons rI (fP.cons rI (fP.cons rI (fP.cons rI (fP.cons rB fP.nil (by kernel_rfl) rfl) (by kernel_rfl) rfl) (by kernel_rfl) rfl) (by kernel_rfl) rfl) (by kernel_rfl) rfl) (by kernel_rfl) rfl) (by kernel_rfl) rfl) (by kernel_rfl)) (λx=>(⟨x.1,x.2.1,x.2.2.1,x.2.2.2.1,x.2.2.2.2.1,x.2.2.2.2.2.1,x.2.2.2.2.2.2.1⟩:Of.Ap)) (λ_ _=>rfl) (λ_ _=>trivial) (λ_=>rfl) (by kernel_rfl) (λ_=>rfl)
def Za(l:List (Of.Ap)):Prop:=l.length<=reachBytes/\ ∀b∈l,(λ_=>True) b
theorem rLAp:gO af 22 (List (Of.Ap)) (λb=>[Of.eL b]) Za:=
 gO.slice (e:=118) (sz:=7) (ep:=Of.eA) (by kernel_rfl) (by kernel_rfl) rAp (by kernel_rfl) (by decide) (of_decide_eq_true (by kernel_rfl)) (λ_ _=>rfl)
theorem rDp:gO af 121 rP.Dp (λx=>(rP.eA x).cells) (λ_=>True):=
 nY (n:=10) (gO.struct Tryz.underlying121 (fP.cons rI (fP.cons rI (fP.cons rI (fP.cons rI (fP.cons rI (fP.cons rI (fP.cons rI (fP.cons rI (fP.cons rI (fP.cons rB fP.nil (by kernel_rfl) rfl) (by kernel_rfl) rfl) (by kernel_rfl) rfl) (by kernel_rfl) rfl) (by kernel_rfl) rfl) (by kernel_rfl) rfl) (by kernel_rfl) rfl) (by kernel_rfl) rfl) (by kernel_rfl) rfl) (by kernel_rfl) rfl) (by kernel_rfl)) (λx=>(⟨x.1,x.2.1,x.2.2.1,x.2.2.2.1,x.2.2.2.2.1,x.2.2.2.2.2.1,x.2.2.2.2.2.2.1,x.2.2.2.2.2.2.2.1,x.2.2.2.2.2.2.2.2.1,x.2.2.2.2.2.2.2.2.2.1⟩:rP.Dp)) (λ_ _=>rfl) (λ_ _=>trivial) (λ_=>rfl) (by kernel_rfl) (λ_=>rfl)
def Zb(l:List (rP.Dp)):Prop:=l.length<=reachBytes/\ ∀b∈l,(λ_=>True) b
theorem rLDp:gO af 23 (List (rP.Dp)) (λb=>[rP.eL b]) Zb:=
 gO.slice (e:=121) (sz:=10) (ep:=rP.eA) (by kernel_rfl) (by kernel_rfl) rDp (by kernel_rfl) (by decide) (of_decide_eq_true (by kernel_rfl)) (λ_ _=>rfl)
theorem rIt:gO af 124 ng.It (λx=>(ng.eA x).cells) (λ_=>True):=
 nY (n:=7) (gO.struct Tryz.underlying124 (fP.cons rI (fP.cons rI (fP.cons rI (fP.cons rI (fP.cons rI (fP.cons rB (fP.cons rB fP.nil (by kernel_rfl) rfl) (by kernel_rfl) rfl) (by kernel_rfl) rfl) (by kernel_rfl) rfl) (by kernel_rfl) rfl) (by kernel_rfl) rfl) (by kernel_rfl) rfl) (by kernel_rfl)) (λx=>(⟨x.1,x.2.1,x.2.2.1,x.2.2.2.1,x.2.2.2.2.1,x.2.2.2.2.2.1,x.2.2.2.2.2.2.1⟩:ng.It)) (λ_ _=>rfl) (λ_ _=>trivial) (λ_=>rfl) (by kernel_rfl) (λ_=>rfl)
def Zc(l:List (ng.It)):Prop:=l.length<=reachBytes/\ ∀b∈l,(λ_=>True) b
theorem rLIt:gO af 24 (List (ng.It)) (λb=>[ng.eL b]) Zc:=
 gO.slice (e:=124) (sz:=7) (ep:=ng.eA) (by kernel_rfl) (by kernel_rfl) rIt (by kernel_rfl) (by decide) (of_decide_eq_true (by kernel_rfl)) (λ_ _=>rfl)
theorem rBg:gO af 35 bx.Bg (λx=>(bx.eA x).cells) (λ_=>True):=
 nY (n:=8) (gO.struct Tryz.underlying35 (fP.cons rI (fP.cons rI (fP.cons rI (fP.cons rI (fP.cons rI (fP.cons rI (fP.cons rI (fP.cons rB fP.nil (by kernel_rfl) rfl) (by kernel_rfl) rfl) (by kernel_rfl) rfl) (by kernel_rfl) rfl) (by kernel_rfl) rfl) (by kernel_rfl) rfl) (by kernel_rfl) rfl) (by kernel_rfl) rfl) (by kernel_rfl)) (λx=>(⟨x.1,x.2.1,x.2.2.1,x.2.2.2.1,x.2.2.2.2.1,x.2.2.2.2.2.1,x.2.2.2.2.2.2.1,x.2.2.2.2.2.2.2.1⟩:bx.Bg)) (λ_ _=>rfl) (λ_ _=>trivial) (λ_=>rfl) (by kernel_rfl) (λ_=>rfl)
def Zd(l:List (bx.Bg)):Prop:=l.length<=reachBytes/\ ∀b∈l,(λ_=>True) b
theorem rLBg:gO af 25 (List (bx.Bg)) (λb=>[bx.eL b]) Zd:=
 gO.slice (e:=35) (sz:=8) (ep:=bx.eA) (by kernel_rfl) (by kernel_rfl) rBg (by kernel_rfl) (by decide) (of_decide_eq_true (by kernel_rfl)) (λ_ _=>rfl)
theorem rAv:gO af 144 od.Ap (λx=>(od.eA x).cells) (λ_=>True):=
 nY (n:=8) (gO.struct Tryz.underlying144 (fP.cons rI (fP.cons rI (fP.cons rI (fP.cons rI (fP.cons rI (fP.cons rI (fP.cons rI (fP.cons rB fP.nil (by kernel_rfl) rfl) (by kernel_rfl) rfl) (by kernel_rfl) rfl) (by kernel_rfl) rfl) (by kernel_rfl) rfl) (by kernel_rfl) rfl) (by kernel_rfl) rfl) (by kernel_rfl) rfl) (by kernel_rfl)) (λx=>(⟨x.1,x.2.1,x.2.2.1,x.2.2.2.1,x.2.2.2.2.1,x.2.2.2.2.2.1,x.2.2.2.2.2.2.1,x.2.2.2.2.2.2.2.1⟩:od.Ap)) (λ_ _=>rfl) (λ_ _=>trivial) (λ_=>rfl) (by kernel_rfl) (λ_=>rfl)
def Ze(l:List (od.Ap)):Prop:=l.length<=reachBytes/\ ∀b∈l,(λ_=>True) b
theorem rLAv:gO af 28 (List (od.Ap)) (λb=>[od.eL b]) Ze:=
 gO.slice (e:=144) (sz:=8) (ep:=od.eA) (by kernel_rfl) (by kernel_rfl) rAv (by kernel_rfl) (by decide) (of_decide_eq_true (by kernel_rfl)) (λ_ _=>rfl)
def okLI(l:List (Int)):Prop:=l.length<=reachBytes/\ ∀b∈l,(λb=>(Lit.int .i64 b).wf=true) b
theorem rLI:gO af 39 (List (Int)) (λb=>[dm b]) okLI:=
 gO.slice (e:=3) (sz:=1) (ep:=eI) (by kernel_rfl) (by kernel_rfl) rI (by kernel_rfl) (by decide) (of_decide_eq_true (by kernel_rfl)) (λ_ _=>rfl)
def Zf(l:List (Int)):Prop:=l.length<=reachBytes/\ ∀b∈l,(λb=>(Lit.int .u8 b).wf=true) b
theorem rLU:gO af 31 (List (Int)) (λb=>[Wa b]) Zf:=
 gO.slice (e:=5) (sz:=1) (ep:=(PV.int .u8)) (by kernel_rfl) (by kernel_rfl) rU8 (by kernel_rfl) (by decide) (of_decide_eq_true (by kernel_rfl)) (λ_ _=>rfl)
def okLS(l:List (ByteArray)):Prop:=l.length<=reachBytes/\ ∀b∈l,(λb=>b.size<=reachBytes) b
theorem rLS:gO af 127 (List (ByteArray)) (λb=>[gV b]) okLS:=
 gO.slice (e:=9) (sz:=1) (ep:=eS) (by kernel_rfl) (by kernel_rfl) rS (by kernel_rfl) (by decide) (of_decide_eq_true (by kernel_rfl)) (λ_ _=>rfl)
mutual
def Fq:Ex->Prop
 |.mk k n o s l=>(Lit.int .i64 k).wf=true/\(Lit.int .i64 n).wf=true/\(Lit.int .i64 o).wf=true/\s.size<=reachBytes/\l.length<=reachBytes/\Qz l
def Qz:List Ex->Prop
 |[]=>True
 |x::r=>Fq x/\Qz r
end
theorem H3{l:List Ex}:Qz l↔ ∀x∈l,Fq x:=by
 induction l with
 |nil=>simp[Qz]
 |cons a r ih=>rw[Qz];simp only[cy,forall_eq_or_imp];rw[ih]
theorem rXN:∀N,rD (λn=>n<N) af 131 Ex cX Fq
 |0=>⟨λx _=>by show 5=_;kernel_rfl,λx _ c hc=>by
   simp only[cX,cy,List.mem_nil_iff,or_false] at hc
   rcases hc with rfl|rfl|rfl|rfl|rfl<;>rfl,λh=>absurd h (Nat.not_lt_zero _)⟩
 |N+1=>by
  have ih:=rXN N
  have hs:rD (λn=>n<N) af 129 (List Ex) (λl=>[.sl 5 false (l.map eX)]) (λl=>l.length<=reachBytes/\ ∀x∈l,Fq x):=
   rD.slice (e:=131) (sz:=5) (M:=λn=>n<N) (M':=λn=>n<N) (λm h=>by omega) (by kernel_rfl) (by kernel_rfl) ih (by kernel_rfl) (by decide) (of_decide_eq_true (by kernel_rfl)) (λx _=>by rw[uW];rfl)
  have h:=rD.struct (P:=af) (t:=131) (M:=λn=>n<N+1) (M':=λn=>n<N) (λm h=>by omega) Tryz.underlying131 (xK.cons rI.Z4 (xK.cons rI.Z4 (xK.cons rI.Z4 (xK.cons rS.Z4 (xK.cons hs xK.nil (by kernel_rfl) rfl) (by kernel_rfl) rfl) (by kernel_rfl) rfl) (by kernel_rfl) rfl) (by kernel_rfl) rfl) (by kernel_rfl)
  exact h.map (λx=>(Ex.mk x.1 x.2.1 x.2.2.1 x.2.2.2.1 x.2.2.2.2.1:Ex)) (λw=>(w.k,w.n,w.no,w.nm,w.l,())) (λx=>by cases x;rfl) (λ_ _=>rfl)
   (λx h=>by rw[Fq];exact⟨h.1,h.2.1,h.2.2.1,h.2.2.2.1,h.2.2.2.2.1.1,H3.2 h.2.2.2.2.1.2⟩) (λy h=>by cases y;rw[Fq] at h;exact⟨h.1,h.2.1,h.2.2.1,h.2.2.2.1,⟨h.2.2.2.2.1,H3.1 h.2.2.2.2.2⟩,trivial⟩)
theorem rX:gO af 131 Ex cX Fq:=rD.all rXN
theorem rRu:gO af 148 Ru (λx=>(ns x).cells) (λx=>Fq x.ex):=by
 have h:=gO.struct (P:=af) (t:=148) Tryz.underlying148 (fP.cons rS (fP.cons rI (fP.cons rI (fP.cons rX fP.nil (by kernel_rfl) rfl) (by kernel_rfl) rfl) (by kernel_rfl) rfl) (by kernel_rfl) rfl) (by kernel_rfl);exact nY (n:=8) h (λx=>(⟨x.1,x.2.1,x.2.2.1,x.2.2.2.1⟩:Ru)) (λ_ _=>rfl) (λx h=>h.2.2.2.1) (λ_=>rfl) (by kernel_rfl) (λ_=>rfl)
def Zg(l:List Ru):Prop:=l.length<=reachBytes/\ ∀b∈l,Fq b.ex
theorem rLRu:gO af 128 (List Ru) (λb=>[.sl 8 false (b.map ns)]) Zg:=
 gO.slice (e:=148) (sz:=8) (ep:=ns) (by kernel_rfl) (by kernel_rfl) rRu (by kernel_rfl) (by decide) (of_decide_eq_true (by kernel_rfl)) (λ_ _=>rfl)
theorem rPo:gO af 133 Po cP (λ_=>True):=by
 have h:=gO.struct (P:=af) (t:=133) Tryz.underlying133 (fP.cons rS (fP.cons rLS (fP.cons rLS (fP.cons rLRu (fP.cons rX (fP.cons rI fP.nil (by kernel_rfl) rfl) (by kernel_rfl) rfl) (by kernel_rfl) rfl) (by kernel_rfl) rfl) (by kernel_rfl) rfl) (by kernel_rfl) rfl) (by kernel_rfl);exact nY (n:=10) h (λx=>(⟨x.1,x.2.1,x.2.2.1,x.2.2.2.1,x.2.2.2.2.1,x.2.2.2.2.2.1⟩:Po)) (λ_ _=>rfl) (λ_ _=>trivial) (λ_=>rfl) (by kernel_rfl) (λ_=>rfl)
theorem rVr:gO af 135 Vr (λx=>(lv x).cells) (λ_=>True):=by
 have h:=gO.struct (P:=af) (t:=135) Tryz.underlying135 (fP.cons rI (fP.cons rI (fP.cons rI (fP.cons rPo fP.nil (by kernel_rfl) rfl) (by kernel_rfl) rfl) (by kernel_rfl) rfl) (by kernel_rfl) rfl) (by kernel_rfl);exact nY (n:=13) h (λx=>(⟨x.1,x.2.1,x.2.2.1,x.2.2.2.1⟩:Vr)) (λ_ _=>rfl) (λ_ _=>trivial) (λ_=>rfl) (by kernel_rfl) (λ_=>rfl)
theorem rLVr:gO af 26 (List Vr) (λb=>[BJ b]) (λl=>l.length<=reachBytes/\ ∀b∈l,True):=
 gO.slice (e:=135) (sz:=13) (ep:=lv) (by kernel_rfl) (by kernel_rfl) rVr (by kernel_rfl) (by decide) (of_decide_eq_true (by kernel_rfl)) (λ_ _=>rfl)
theorem tx32(L:List Int)(h:L.length=32):(L.flatMap λn=>[PV.int .u8 n])=[bA.u8 (L.getD 0 0),bA.u8 (L.getD 1 0),bA.u8 (L.getD 2 0),bA.u8 (L.getD 3 0),bA.u8 (L.getD 4 0),bA.u8 (L.getD 5 0),bA.u8 (L.getD 6 0),bA.u8 (L.getD 7 0),bA.u8 (L.getD 8 0),bA.u8 (L.getD 9 0),bA.u8 (L.getD 10 0),bA.u8 (L.getD 11 0),bA.u8 (L.getD 12 0),bA.u8 (L.getD 13 0),bA.u8 (L.getD 14 0),bA.u8 (L.getD 15 0),bA.u8 (L.getD 16 0),bA.u8 (L.getD 17 0),bA.u8 (L.getD 18 0),bA.u8 (L.getD 19 0),bA.u8 (L.getD 20 0),bA.u8 (L.getD 21 0),bA.u8 (L.getD 22 0),bA.u8 (L.getD 23 0),bA.u8 (L.getD 24 0),bA.u8 (L.getD 25 0),bA.u8 (L.getD 26 0),bA.u8 (L.getD 27 0),bA.u8 (L.getD 28 0),bA.u8 (L.getD 29 0),bA.u8 (L.getD 30 0),bA.u8 (L.getD 31 0)]:=by
 match L,h with
 |[a0,a1,a2,a3,a4,a5,a6,a7,a8,a9,a10,a11,a12,a13,a14,a15,a16,a17,a18,a19,a20,a21,a22,a23,a24,a25,a26,a27,a28,a29,a30,a31],_=>rfl
theorem rTx:gO af 42 (List Int) (λl=>l.flatMap λn=>[.int .u8 n]) (λl=>l.length=32/\ ∀x∈l,(Lit.int .u8 x).wf=true):=
 gO.array (e:=5) (n:=32) (sz:=1) (by kernel_rfl) rU8 (by kernel_rfl) (by kernel_rfl) (by decide)
theorem rDc:gO af 44 bA.Dc (λx=>(bA.eA x).cells) (λ_=>True):=by
 have h:=gO.struct (P:=af) (t:=44) Tryz.underlying44 (fP.cons rI (fP.cons rI (fP.cons rI (fP.cons rI (fP.cons rI (fP.cons rI (fP.cons rLI (fP.cons rLI (fP.cons rLI (fP.cons rTx fP.nil (by kernel_rfl) rfl) (by kernel_rfl) rfl) (by kernel_rfl) rfl) (by kernel_rfl) rfl) (by kernel_rfl) rfl) (by kernel_rfl) rfl) (by kernel_rfl) rfl) (by kernel_rfl) rfl) (by kernel_rfl) rfl) (by kernel_rfl) rfl) (by kernel_rfl)
 exact nY (n:=41) h (λx=>(⟨x.1,x.2.1,x.2.2.1,x.2.2.2.1,x.2.2.2.2.1,x.2.2.2.2.2.1,x.2.2.2.2.2.2.1,x.2.2.2.2.2.2.2.1,x.2.2.2.2.2.2.2.2.1,λi=>x.2.2.2.2.2.2.2.2.2.1.getD i 0⟩:bA.Dc)) (λx hx=>by
  obtain⟨b1,b2,b3,b4,b5,b6,b7,b8,b9,b10,_⟩:=x;show _=[eI b1]++([eI b2]++([eI b3]++([eI b4]++([eI b5]++([eI b6]++([dm b7]++([dm b8]++([dm b9]++((b10.flatMap λn=>[PV.int .u8 n])++[])))))))))
  rw[tx32 b10 hx.2.2.2.2.2.2.2.2.2.1.1];rfl) (λ_ _=>trivial) (λ_=>rfl) (by kernel_rfl) (λ_=>rfl)
theorem rLDc:gO af 27 (List bA.Dc) (λb=>[bA.eL b]) (λl=>l.length<=reachBytes/\ ∀b∈l,True):=
 gO.slice (e:=44) (sz:=41) (ep:=bA.eA) (by kernel_rfl) (by kernel_rfl) rDc (by kernel_rfl) (by decide) (of_decide_eq_true (by kernel_rfl)) (λ_ _=>rfl)
theorem rRg:gO af 30 Rg (λx=>(Rr x).cells) (λ_=>True):=
 nY (n:=7) (gO.struct Tryz.underlying30 (fP.cons rLAp (fP.cons rLDp (fP.cons rLIt (fP.cons rLBg (fP.cons rLVr (fP.cons rLDc (fP.cons rLAv fP.nil (by kernel_rfl) rfl) (by kernel_rfl) rfl) (by kernel_rfl) rfl) (by kernel_rfl) rfl) (by kernel_rfl) rfl) (by kernel_rfl) rfl) (by kernel_rfl) rfl) (by kernel_rfl)) (λx=>(⟨x.1,x.2.1,x.2.2.1,x.2.2.2.1,x.2.2.2.2.1,x.2.2.2.2.2.1,x.2.2.2.2.2.2.1⟩:Rg)) (λ_ _=>rfl) (λ_ _=>trivial) (λ_=>rfl) (by kernel_rfl) (λ_=>rfl)
theorem aRg:PA af 30 Rg Rr (λ_=>True):=PA.agg rRg (by kernel_rfl)
theorem aU:PA af 31 (List Int) Wa Zf:=PA.one rLU (by kernel_rfl)
theorem aI:PA af 3 Int eI (λn=>(Lit.int .i64 n).wf=true):=PA.one rI (by kernel_rfl)
theorem own:ownKnob af.godebug=none:=by kernel_rfl
end Rd
end Go.Proofs.YtmaiccmhkmndcaaGreatDoor
