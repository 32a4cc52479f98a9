import Derived.Test.YtmhaiihjfgfaoaaGzGliderReaches3
import Derived.Test.YtmhaiihjfgfaoaaGzGliderReaches32
import Derived.Test.YtmhaiihjfgfaoaaGzGliderReaches33
import Derived.Test.YtmhaiihjfgfaoaaGzGliderReaches34
import Derived.Test.YtmhaiihjfgfaoaaRows
import Derived.WalkKit
import Derived.ProofKit
import Derived.OpenShut
import Derived.ShutString
import Derived.ChangeOld
import Derived.Below
import Derived.SizedLaws
open Go.Value renaming int → U
open Go.IntKind renaming i64 → Z
open Bool renaming true → ab, false → ac
namespace Go.Proofs.Ytmhaiihjfgfaoaa.gliderReaches
open Go.ChangeShapes Go.WideShapes Go.ChangeAt Go.RowKit Go.Proofs.YtmhaiihjfgfaoaaW.PrintWords Go.Proofs.Ytmhaiihjfgfaoaa.Pr Go.Proofs.Ytmhaiihjfgfaoaa.Good Go.Proofs.YtmhaiihjfgfaoaaW.iZ
open Go.ChangeMaps (open_string shut_string)
set_option linter.unusedVariables false
theorem own:ownKnob Try.prog.godebug = none:=by kernel_rfl
theorem laidOut:laidOutB Try.prog = true:=by kernel_rfl
set_option maxRecDepth 100000 in
theorem lifted (os:Os) (started:os.Started) (H:Type) (enc:TypeId × Value→H):
 ReturnsInHanded {} Try.checked os 13 .any (Rows.gliderReachesSpec.pre6 enc Try.prog Try.f13 Rows.gliderReachesRow.domain false) (Rows.gliderReachesSpec.post enc Try.prog Try.f13 false true false false):=by
 refine returnsInHanded_of_change_sized (C:=Try.checked) own started (by kernel_rfl) Try.func13
  (ChangeSpec.witness6 (enc:=enc) (C:=Try.checked) false ⟨#[],#[.agg #[U Z 0,U Z 0,U Z 0,U Z 0,U Z 0,U Z 0,U Z 0,.slice none 0 0,.slice none 0 0],.agg #[U Z 0,U Z 0,U Z 0,U Z 0,U Z 0,U Z 0,U Z 0],.agg #[U Z 0,U Z 0,U Z 0,U Z 0],U Z 0,U Z 0,.slice none 0 0,.agg #[U Z 0,U Z 0,U Z 0,U Z 0,U Z 0,U Z 0]],[]⟩ 8 (by kernel_rfl) (by kernel_rfl) (by kernel_rfl) (by kernel_rfl)) ?_
 intro W base args ds gs before hval0 hW hcnd hsz0 _
 have hsz:(DataW.weightsEach Try.prog (Try.f13.params.toList++Rows.gliderReachesSpec.plain.varTypes Try.prog) (ds++gs)).all (·≤reachBytes) = true:=hsz0
 have hval:∀ (j:Nat) t v,Try.f13.params[j]? = some t→args[j]? = some v→Value.okWide Try.prog W .any base t v:=hval0
 have hW':=hW
 obtain ⟨p,q,hA0,hV,rfl,hfz,hnd⟩:=hW
 have hA:DataW.TrodAll enc Try.prog W 0 (fun _=>true) true Try.f13.params.toList args.toList ds p:=hA0
 rw [Try.params13] at hA hval hsz
 obtain ⟨v0,vs0,d0,ds0,p0,q0,hargs,rfl,rfl,h0,r0⟩:=trodAll_cons hA
 obtain ⟨v1,vs1,d1,ds1,p1,q1,rfl,rfl,rfl,h1,r1⟩:=trodAll_cons r0
 obtain ⟨v2,vs2,d2,ds2,p2,q2,rfl,rfl,rfl,h2,r2⟩:=trodAll_cons r1
 obtain ⟨v3,vs3,d3,ds3,p3,q3,rfl,rfl,rfl,h3,r3⟩:=trodAll_cons r2
 obtain ⟨v4,vs4,d4,ds4,p4,q4,rfl,rfl,rfl,h4,r4⟩:=trodAll_cons r3
 obtain ⟨v5,vs5,d5,ds5,p5,q5,rfl,rfl,rfl,h5,r5⟩:=trodAll_cons r4
 obtain ⟨v6,vs6,d6,ds6,p6,q6,rfl,rfl,rfl,h6,r6⟩:=trodAll_cons r5
 obtain ⟨rfl,rfl,rfl⟩:=trodAll_nil r6
 obtain rfl:args = #[v0,v1,v2,v3,v4,v5,v6]:=by cases args;simp_all
 obtain ⟨rfl,rfl⟩:=trodVars_none hV
 have k0:=h0
 have lt0:∀ x ∈ p0,x.block < W.heap.size:=by obtain ⟨m,hm⟩:=k0;exact DataW.trod_lt m _ _ _ hm
 obtain ⟨cs0,rfl,_⟩:=okWide_struct Try.underlying25 (hval 0 25 v0 rfl rfl)
 obtain ⟨y0,K0,g0⟩:=iZ.arg ar7 h0 hsz (j:=0) rfl rfl
 have K0':(k25).K W y0 cs0.toList:=K0
 obtain ⟨dG,dH,dJ,dI,e0,aR,aP5,aC,aP6⟩:=ajx K0'
 obtain rfl:=Array.toList_inj.1 (e0:cs0.toList = (#[U Z y0.f0,U Z y0.f1,U Z y0.f2,U Z y0.f3,U Z y0.f4,U Z y0.f5,U Z y0.f6,.slice dG y0.f7.length dH,.slice dJ y0.f8.length dI]:Array Value).toList)
 have k1:=h1
 have lt1:∀ x ∈ p1,x.block < W.heap.size:=by obtain ⟨m,hm⟩:=k1;exact DataW.trod_lt m _ _ _ hm
 obtain ⟨cs1,rfl,_⟩:=okWide_struct Try.underlying29 (hval 1 29 v1 rfl rfl)
 obtain ⟨y1,K1,g1⟩:=iZ.arg ar8 h1 hsz (j:=1) rfl rfl
 have K1':(k29).K W y1 cs1.toList:=K1
 obtain e1:=ajz K1'
 obtain rfl:=Array.toList_inj.1 (e1:cs1.toList = (#[U Z y1.f0,U Z y1.f1,U Z y1.f2.f0,U Z y1.f2.f1,U Z y1.f3.f0,U Z y1.f3.f1,U Z y1.f4]:Array Value).toList)
 have k2:=h2
 have lt2:∀ x ∈ p2,x.block < W.heap.size:=by obtain ⟨m,hm⟩:=k2;exact DataW.trod_lt m _ _ _ hm
 obtain ⟨cs2,rfl,_⟩:=okWide_struct Try.underlying31 (hval 2 31 v2 rfl rfl)
 obtain ⟨y2,K2,g2⟩:=iZ.arg Xl h2 hsz (j:=2) rfl rfl
 have K2':(Iy).K W y2 cs2.toList:=K2
 obtain e2:=R5 K2'
 obtain rfl:=Array.toList_inj.1 (e2:cs2.toList = (#[U Z y2.f0.f0,U Z y2.f0.f1,U Z y2.f1.f0,U Z y2.f1.f1]:Array Value).toList)
 obtain ⟨a3,rfl,rfl,rfl,w3⟩:=open_int Try.underlying2 (hval 3 2 v3 rfl rfl) h3
 obtain ⟨a4,rfl,rfl,rfl,w4⟩:=open_int Try.underlying3 (hval 4 3 v4 rfl rfl) h4
 have k5:=h5
 have lt5:∀ x ∈ p5,x.block < W.heap.size:=by obtain ⟨m,hm⟩:=k5;exact DataW.trod_lt m _ _ _ hm
 obtain ⟨A5,n5,c5,rfl⟩:=okWide_slice Try.underlying50 (hval 5 50 v5 rfl rfl)
 obtain ⟨y5,K5,g5⟩:=iZ.arg (iZ.slice 31 Try.underlying50 (by kernel_rfl) Xl) h5 hsz (j:=5) rfl rfl
 obtain ⟨_,_,e5,l5,C5⟩:=K5
 obtain ⟨rfl,rfl,rfl⟩:_∧_∧_:=by simpa [Value.cells] using e5
 have k6:=h6
 have lt6:∀ x ∈ p6,x.block < W.heap.size:=by obtain ⟨m,hm⟩:=k6;exact DataW.trod_lt m _ _ _ hm
 obtain ⟨cs6,rfl,_⟩:=okWide_struct Try.underlying81 (hval 6 81 v6 rfl rfl)
 obtain ⟨y6,K6,g6⟩:=iZ.arg ar9 h6 hsz (j:=6) rfl rfl
 have K6':(k81).K W y6 cs6.toList:=K6
 obtain e6:=ajA K6'
 obtain rfl:=Array.toList_inj.1 (e6:cs6.toList = (#[U Z y6.f0.f0.f0,U Z y6.f0.f0.f1,U Z y6.f0.f1.f0,U Z y6.f0.f1.f1,U Z y6.f1,U Z y6.f2]:Array Value).toList)
 clear hA0 hval0 hsz0 hsz
 obtain ⟨kk,hp⟩:=Pure.GliderReaches y0 y1 y2 a3 a4 y5 y6 g0 g1 g2 w3 w4 g5 g6
 refine (Pr.aD.calls kk (y0.f0) (y0.f1) (y0.f2) (y0.f3) (y0.f4) (y0.f5) (y0.f6) _ _ (y0.f7) _ _ (y0.f8) (y1.f0) (y1.f1) (y1.f2.f0) (y1.f2.f1) (y1.f3.f0) (y1.f3.f1) (y1.f4) (y2.f0.f0) (y2.f0.f1) (y2.f1.f0) (y2.f1.f1) a3 a4 _ _ y5 (y6.f0.f0.f0) (y6.f0.f0.f1) (y6.f0.f1.f0) (y6.f0.f1.f1) (y6.f1) (y6.f2) true W aP5 aR aP6 aC C5 l5 hp ⟨rfl⟩).mono fun e W' ⟨he,bel⟩=>?_
 subst he
 exact ⟨_,rfl,_,_,_,[],_,[],hW',trodAll_mk1 (shut_bool Try.underlying4 _),(trodAll_cons_mk (Below.trod laidOut (by kernel_rfl) (of_decide_eq_true (by kernel_rfl)) k0 bel lt0) (trodAll_cons_mk (Below.trod laidOut (by kernel_rfl) (of_decide_eq_true (by kernel_rfl)) k1 bel lt1) (trodAll_cons_mk (Below.trod laidOut (by kernel_rfl) (of_decide_eq_true (by kernel_rfl)) k2 bel lt2) (trodAll_cons_mk (shut_int Try.underlying2 w3) (trodAll_cons_mk (shut_int Try.underlying3 w4) (trodAll_cons_mk (Below.trod laidOut (by kernel_rfl) (of_decide_eq_true (by kernel_rfl)) k5 bel lt5) (trodAll_cons_mk (Below.trod laidOut (by kernel_rfl) (of_decide_eq_true (by kernel_rfl)) k6 bel lt6) trodAll_mk0))))))),rfl,bel.frame _,fun h=>by cases h⟩
theorem over:Rows.gliderReachesRow.holds Try.pinned (OpenSpec.ofChange Rows.gliderReachesSpec) :=
 OpenClaim.holds_of_wide 13 Try.f13 rfl rfl rfl rfl rfl rfl rfl ⟨rfl,rfl,rfl,rfl,rfl⟩ rfl rfl rfl rfl rfl (by kernel_rfl) Try.func13 (by kernel_rfl)
  (of_decide_eq_true (by kernel_rfl)) (by unfold Func.isWrapper;first|(rw [if_pos (by decide+kernel)];kernel_rfl)|(rw [if_neg (by decide+kernel)];exact ⟨rfl,rfl⟩))
  (fun os started H enc _=>lifted os started H enc)
theorem proved:Rows.GliderReachesSaid:=over
#print axioms proved
end Go.Proofs.Ytmhaiihjfgfaoaa.gliderReaches
namespace Go.Proofs.Ytmhaiihjfgfaoaa
theorem gliderReaches_holds:Rows.GliderReachesSaid:=gliderReaches.proved
end Go.Proofs.Ytmhaiihjfgfaoaa
