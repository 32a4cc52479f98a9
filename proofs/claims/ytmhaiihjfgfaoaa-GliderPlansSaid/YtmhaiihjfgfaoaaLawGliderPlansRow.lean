import Derived.Test.YtmhaiihjfgfaoaaGpGliderPlans1
import Derived.Test.YtmhaiihjfgfaoaaGpGliderPlans9
import Derived.Test.YtmhaiihjfgfaoaaRows
import Derived.WalkKit
import Derived.ProofKit
import Derived.OpenShut
import Derived.ShutString
import Derived.ChangeOld
import Derived.Below
import Derived.SizedLaws
open Option.some renaming inj → bh
open Option renaming bind_some → aE
open List renaming setIfInBounds_toArray → ap, set_cons_zero → aq, set_cons_succ → ar
open Go.World renaming block_lt_of_cell? → bd
set_option maxRecDepth 100000
set_option maxHeartbeats 80000000
open Go.Value renaming int → Z
open Go.IntKind renaming i64 → ab
open Bool renaming true → ac, false → al
open Go.RowKit renaming wrap64 → an
open Go renaming World → ao
namespace Go.Proofs.Ytmhaiihjfgfaoaa.gliderPlans
open Go.ChangeShapes Go.WideShapes Go.ChangeAt Go.RowKit Go.Proofs.YtmhaiihjfgfaoaaW.bu Go.Proofs.Ytmhaiihjfgfaoaa.Pr Go.Proofs.Ytmhaiihjfgfaoaa.Good Go.Proofs.YtmhaiihjfgfaoaaW.jJ
open Go.ChangeMaps (open_string shut_string)
theorem own:ownKnob Try.prog.godebug = none:=by kernel_rfl
theorem laidOut:laidOutB Try.prog = true:=by kernel_rfl
theorem lifted (os:Os) (started:os.Started) (H:Type) (enc:TypeId × Value→H):
 ReturnsInHanded {} Try.checked os 14 .any (Rows.gliderPlansSpec.pre6 enc Try.prog Try.f14 Rows.gliderPlansRow.domain false) (Rows.gliderPlansSpec.post enc Try.prog Try.f14 false true false false):=by
 refine returnsInHanded_of_change_sized (C:=Try.checked) own started (by kernel_rfl) Try.func14
  (ChangeSpec.witness6 (enc:=enc) (C:=Try.checked) false ⟨#[],#[.agg #[Z ab 0,Z ab 0,Z ab 0,Z ab 0,Z ab 0,Z ab 0,Z ab 0,.slice none 0 0,.slice none 0 0],.agg #[Z ab 0,Z ab 0,Z ab 0,Z ab 0,Z ab 0,Z ab 0,Z ab 0],.agg #[Z ab 0,Z ab 0,Z ab 0,Z ab 0],Z ab 0,.agg #[Z ab 0,Z ab 0],.slice none 0 0,.agg #[Z ab 0,Z ab 0,Z ab 0,Z ab 0,Z ab 0,Z ab 0],Z ab 0],[]⟩ 8 (by kernel_rfl) (by kernel_rfl) (by kernel_rfl) (by kernel_rfl)) ?_
 intro W base args ds gs before hval0 hW hcnd hsz0 _
 have hsz:(DataW.weightsEach Try.prog (Try.f14.params.toList++Rows.gliderPlansSpec.plain.varTypes Try.prog) (ds++gs)).all (·≤reachBytes) = true:=hsz0
 have hval:∀ (j:Nat) t v,Try.f14.params[j]? = some t→args[j]? = some v→Value.okWide Try.prog W .any base t v:=hval0
 have hW':=hW
 obtain ⟨p,q,hA0,hV,rfl,hfz,hnd⟩:=hW
 have hA:DataW.TrodAll enc Try.prog W 0 (fun _=>true) true Try.f14.params.toList args.toList ds p:=hA0
 rw [Try.params14] at hA hval hsz
 obtain ⟨v0,vs0,d0,ds0,p0,q0,hargs,rfl,rfl,h0,r0⟩:=trodAll_cons hA
 obtain ⟨v1,vs1,d1,ds1,p1,q1,rfl,rfl,rfl,h1,r1⟩:=trodAll_cons r0
 obtain ⟨v2,vs2,d2,ds2,p2,q2,rfl,rfl,rfl,h2,r2⟩:=trodAll_cons r1
 obtain ⟨v3,vs3,d3,ds3,p3,q3,rfl,rfl,rfl,h3,r3⟩:=trodAll_cons r2
 obtain ⟨v4,vs4,d4,ds4,p4,q4,rfl,rfl,rfl,h4,r4⟩:=trodAll_cons r3
 obtain ⟨v5,vs5,d5,ds5,p5,q5,rfl,rfl,rfl,h5,r5⟩:=trodAll_cons r4
 obtain ⟨v6,vs6,d6,ds6,p6,q6,rfl,rfl,rfl,h6,r6⟩:=trodAll_cons r5
 obtain ⟨v7,vs7,d7,ds7,p7,q7,rfl,rfl,rfl,h7,r7⟩:=trodAll_cons r6
 obtain ⟨rfl,rfl,rfl⟩:=trodAll_nil r7
 obtain rfl:args = #[v0,v1,v2,v3,v4,v5,v6,v7]:=by cases args;simp_all
 obtain ⟨rfl,rfl⟩:=trodVars_none hV
 have k0:=h0
 have lt0:∀ x ∈ p0,x.block < W.heap.size:=by obtain ⟨m,hm⟩:=k0;exact DataW.trod_lt m _ _ _ hm
 obtain ⟨cs0,rfl,_⟩:=okWide_struct Try.underlying25 (hval 0 25 v0 rfl rfl)
 obtain ⟨y0,K0,g0⟩:=jJ.arg azu h0 hsz (j:=0) rfl rfl
 have K0':(k25).K W y0 cs0.toList:=K0
 obtain ⟨dY,dS,dV,dU,e0,aX,aZ2,aG,aZ3⟩:=aom K0'
 obtain rfl:=Array.toList_inj.1 (e0:cs0.toList = (#[Z ab y0.f0,Z ab y0.f1,Z ab y0.f2,Z ab y0.f3,Z ab y0.f4,Z ab y0.f5,Z ab y0.f6,.slice dY y0.f7.length dS,.slice dV y0.f8.length dU]:Array Value).toList)
 have k1:=h1
 have lt1:∀ x ∈ p1,x.block < W.heap.size:=by obtain ⟨m,hm⟩:=k1;exact DataW.trod_lt m _ _ _ hm
 obtain ⟨cs1,rfl,_⟩:=okWide_struct Try.underlying29 (hval 1 29 v1 rfl rfl)
 obtain ⟨y1,K1,g1⟩:=jJ.arg azv h1 hsz (j:=1) rfl rfl
 have K1':(k29).K W y1 cs1.toList:=K1
 obtain e1:=aoo K1'
 obtain rfl:=Array.toList_inj.1 (e1:cs1.toList = (#[Z ab y1.f0,Z ab y1.f1,Z ab y1.f2.f0,Z ab y1.f2.f1,Z ab y1.f3.f0,Z ab y1.f3.f1,Z ab y1.f4]:Array Value).toList)
 have k2:=h2
 have lt2:∀ x ∈ p2,x.block < W.heap.size:=by obtain ⟨m,hm⟩:=k2;exact DataW.trod_lt m _ _ _ hm
 obtain ⟨cs2,rfl,_⟩:=okWide_struct Try.underlying31 (hval 2 31 v2 rfl rfl)
 obtain ⟨y2,K2,g2⟩:=jJ.arg al2 h2 hsz (j:=2) rfl rfl
 have K2':(k31).K W y2 cs2.toList:=K2
 obtain e2:=Vu K2'
 obtain rfl:=Array.toList_inj.1 (e2:cs2.toList = (#[Z ab y2.f0.f0,Z ab y2.f0.f1,Z ab y2.f1.f0,Z ab y2.f1.f1]:Array Value).toList)
 obtain ⟨a3,rfl,rfl,rfl,w3⟩:=open_int Try.underlying2 (hval 3 2 v3 rfl rfl) h3
 have k4:=h4
 have lt4:∀ x ∈ p4,x.block < W.heap.size:=by obtain ⟨m,hm⟩:=k4;exact DataW.trod_lt m _ _ _ hm
 obtain ⟨cs4,rfl,_⟩:=okWide_struct Try.underlying27 (hval 4 27 v4 rfl rfl)
 obtain ⟨y4,K4,g4⟩:=jJ.arg I7 h4 hsz (j:=4) rfl rfl
 have K4':(k27).K W y4 cs4.toList:=K4
 obtain e4:=Ad K4'
 obtain rfl:=Array.toList_inj.1 (e4:cs4.toList = (#[Z ab y4.f0,Z ab y4.f1]:Array Value).toList)
 have k5:=h5
 have lt5:∀ x ∈ p5,x.block < W.heap.size:=by obtain ⟨m,hm⟩:=k5;exact DataW.trod_lt m _ _ _ hm
 obtain ⟨A5,n5,c5,rfl⟩:=okWide_slice Try.underlying49 (hval 5 49 v5 rfl rfl)
 obtain ⟨y5,K5,g5⟩:=jJ.arg (jJ.slice 33 Try.underlying49 (by kernel_rfl) azw) h5 hsz (j:=5) rfl rfl
 obtain ⟨_,_,e5,l5,C5⟩:=K5
 obtain ⟨rfl,rfl,rfl⟩:_∧_∧_:=by simpa [Value.cells] using e5
 have k6:=h6
 have lt6:∀ x ∈ p6,x.block < W.heap.size:=by obtain ⟨m,hm⟩:=k6;exact DataW.trod_lt m _ _ _ hm
 obtain ⟨cs6,rfl,_⟩:=okWide_struct Try.underlying81 (hval 6 81 v6 rfl rfl)
 obtain ⟨y6,K6,g6⟩:=jJ.arg azx h6 hsz (j:=6) rfl rfl
 have K6':(k81).K W y6 cs6.toList:=K6
 obtain e6:=aop K6'
 obtain rfl:=Array.toList_inj.1 (e6:cs6.toList = (#[Z ab y6.f0.f0.f0,Z ab y6.f0.f0.f1,Z ab y6.f0.f1.f0,Z ab y6.f0.f1.f1,Z ab y6.f1,Z ab y6.f2]:Array Value).toList)
 obtain ⟨a7,rfl,rfl,rfl,w7⟩:=open_int Try.underlying3 (hval 7 3 v7 rfl rfl) h7
 clear hA0 hval0 hsz0 hsz
 obtain ⟨kk,hp⟩:=Pure.GliderPlans y0 y1 y2 a3 y4 y5 y6 a7 g0 g1 g2 w3 g4 g5 g6 w7
 refine (Pr.bB.calls kk (y0.f0) (y0.f1) (y0.f2) (y0.f3) (y0.f4) (y0.f5) (y0.f6) _ _ (y0.f7) _ _ (y0.f8) (y1.f0) (y1.f1) (y1.f2.f0) (y1.f2.f1) (y1.f3.f0) (y1.f3.f1) (y1.f4) (y2.f0.f0) (y2.f0.f1) (y2.f1.f0) (y2.f1.f1) a3 (y4.f0) (y4.f1) _ _ y5 (y6.f0.f0.f0) (y6.f0.f0.f1) (y6.f0.f1.f0) (y6.f0.f1.f1) (y6.f1) (y6.f2) a7 true W aZ2 aX aZ3 aG C5 l5 hp ⟨rfl⟩).mono fun e W' ⟨he,bel⟩=>?_
 subst he
 exact ⟨_,rfl,_,_,_,[],_,[],hW',trodAll_mk1 (shut_bool Try.underlying4 _),(trodAll_cons_mk (Below.trod laidOut (by kernel_rfl) (of_decide_eq_true (by kernel_rfl)) k0 bel lt0) (trodAll_cons_mk (Below.trod laidOut (by kernel_rfl) (of_decide_eq_true (by kernel_rfl)) k1 bel lt1) (trodAll_cons_mk (Below.trod laidOut (by kernel_rfl) (of_decide_eq_true (by kernel_rfl)) k2 bel lt2) (trodAll_cons_mk (shut_int Try.underlying2 w3) (trodAll_cons_mk (Below.trod laidOut (by kernel_rfl) (of_decide_eq_true (by kernel_rfl)) k4 bel lt4) (trodAll_cons_mk (Below.trod laidOut (by kernel_rfl) (of_decide_eq_true (by kernel_rfl)) k5 bel lt5) (trodAll_cons_mk (Below.trod laidOut (by kernel_rfl) (of_decide_eq_true (by kernel_rfl)) k6 bel lt6) (trodAll_cons_mk (shut_int Try.underlying3 w7) trodAll_mk0)))))))),rfl,bel.frame _,fun h=>by cases h⟩
theorem over:Rows.gliderPlansRow.holds Try.pinned (OpenSpec.ofChange Rows.gliderPlansSpec) :=
 OpenClaim.holds_of_wide 14 Try.f14 rfl rfl rfl rfl rfl rfl rfl ⟨rfl,rfl,rfl,rfl,rfl⟩ rfl rfl rfl rfl rfl (by kernel_rfl) Try.func14 (by kernel_rfl)
  (of_decide_eq_true (by kernel_rfl)) (by unfold Func.isWrapper;first|(rw [if_pos (by decide+kernel)];kernel_rfl)|(rw [if_neg (by decide+kernel)];exact ⟨rfl,rfl⟩))
  (fun os started H enc _=>lifted os started H enc)
theorem proved:Rows.GliderPlansSaid:=over
#print axioms proved
end Go.Proofs.Ytmhaiihjfgfaoaa.gliderPlans
namespace Go.Proofs.Ytmhaiihjfgfaoaa
theorem gliderPlans_holds:Rows.GliderPlansSaid:=gliderPlans.proved
end Go.Proofs.Ytmhaiihjfgfaoaa
