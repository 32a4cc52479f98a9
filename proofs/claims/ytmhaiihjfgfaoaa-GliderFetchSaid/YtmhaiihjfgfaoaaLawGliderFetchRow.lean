import Derived.Test.YtmhaiihjfgfaoaaGfGliderFetch3
import Derived.Test.YtmhaiihjfgfaoaaGfGliderFetch33
import Derived.Test.YtmhaiihjfgfaoaaGfGliderFetch34
import Derived.Test.YtmhaiihjfgfaoaaGfGliderFetch36
import Derived.Test.YtmhaiihjfgfaoaaRows
import Derived.WalkKit
import Derived.ProofKit
import Derived.OpenShut
import Derived.ShutString
import Derived.ChangeOld
import Derived.Below
import Derived.SizedLaws
open Go.Value renaming int → U
open Go.IntKind renaming i64 → Z
open Bool renaming true → ab, false → ac
namespace Go.Proofs.Ytmhaiihjfgfaoaa.gliderFetch
open Go.ChangeShapes Go.WideShapes Go.ChangeAt Go.RowKit Go.Proofs.YtmhaiihjfgfaoaaW.PrintWords Go.Proofs.Ytmhaiihjfgfaoaa.Pr Go.Proofs.Ytmhaiihjfgfaoaa.Good Go.Proofs.YtmhaiihjfgfaoaaW.iU
open Go.ChangeMaps (open_string shut_string)
set_option linter.unusedVariables false
theorem own:ownKnob Try.prog.godebug = none:=by kernel_rfl
theorem laidOut:laidOutB Try.prog = true:=by kernel_rfl
theorem VD {P:Program} {w:World} {r:Reach} {base:Nat} {t:TypeId} {v:Value} {n e:Nat} (ht:P.underlying t = some (.array n e)) (h:Value.okWide P w r base t v):∃ cs,v = .agg cs:=by
 simp only [Value.okWide,ht] at h
 obtain ⟨cs,h1,_⟩:=h
 exact ⟨cs,h1⟩
set_option maxRecDepth 100000 in
theorem lifted (os:Os) (started:os.Started) (H:Type) (enc:TypeId × Value→H):
 ReturnsInHanded {} Try.checked os 11 .any (Rows.gliderFetchSpec.pre6 enc Try.prog Try.f11 Rows.gliderFetchRow.domain false) (Rows.gliderFetchSpec.post enc Try.prog Try.f11 false true false false):=by
 refine returnsInHanded_of_change_sized (C:=Try.checked) own started (by kernel_rfl) Try.func11
  (ChangeSpec.witness6 (enc:=enc) (C:=Try.checked) false ⟨#[],#[.agg #[U Z 0,U Z 0,U Z 0,U Z 0,U Z 0,U Z 0,U Z 0,.slice none 0 0,.slice none 0 0],.agg #[U Z 0,U Z 0,U Z 0,U Z 0,U Z 0,U Z 0,U Z 0],.agg #[U Z 0,U Z 0,U Z 0,U Z 0],U Z 0,.agg #[U Z 0,U Z 0],.slice none 0 0,.agg #[U Z 0,U Z 0,U Z 0,U Z 0,U Z 0,U Z 0],.agg #[.int .u16 0,.int .u16 0],.slice none 0 0],[]⟩ 8 (by kernel_rfl) (by kernel_rfl) (by kernel_rfl) (by kernel_rfl)) ?_
 intro W base args ds gs before hval0 hW hcnd hsz0 _
 have hsz:(DataW.weightsEach Try.prog (Try.f11.params.toList++Rows.gliderFetchSpec.plain.varTypes Try.prog) (ds++gs)).all (·≤reachBytes) = true:=hsz0
 have hval:∀ (j:Nat) t v,Try.f11.params[j]? = some t→args[j]? = some v→Value.okWide Try.prog W .any base t v:=hval0
 have hW':=hW
 obtain ⟨p,q,hA0,hV,rfl,hfz,hnd⟩:=hW
 have hA:DataW.TrodAll enc Try.prog W 0 (fun _=>true) true Try.f11.params.toList args.toList ds p:=hA0
 rw [Try.params11] at hA hval hsz
 obtain ⟨v0,vs0,d0,ds0,p0,q0,hargs,rfl,rfl,h0,r0⟩:=trodAll_cons hA
 obtain ⟨v1,vs1,d1,ds1,p1,q1,rfl,rfl,rfl,h1,r1⟩:=trodAll_cons r0
 obtain ⟨v2,vs2,d2,ds2,p2,q2,rfl,rfl,rfl,h2,r2⟩:=trodAll_cons r1
 obtain ⟨v3,vs3,d3,ds3,p3,q3,rfl,rfl,rfl,h3,r3⟩:=trodAll_cons r2
 obtain ⟨v4,vs4,d4,ds4,p4,q4,rfl,rfl,rfl,h4,r4⟩:=trodAll_cons r3
 obtain ⟨v5,vs5,d5,ds5,p5,q5,rfl,rfl,rfl,h5,r5⟩:=trodAll_cons r4
 obtain ⟨v6,vs6,d6,ds6,p6,q6,rfl,rfl,rfl,h6,r6⟩:=trodAll_cons r5
 obtain ⟨v7,vs7,d7,ds7,p7,q7,rfl,rfl,rfl,h7,r7⟩:=trodAll_cons r6
 obtain ⟨v8,vs8,d8,ds8,p8,q8,rfl,rfl,rfl,h8,r8⟩:=trodAll_cons r7
 obtain ⟨rfl,rfl,rfl⟩:=trodAll_nil r8
 obtain rfl:args = #[v0,v1,v2,v3,v4,v5,v6,v7,v8]:=by cases args;simp_all
 obtain ⟨rfl,rfl⟩:=trodVars_none hV
 have k0:=h0
 have lt0:∀ x ∈ p0,x.block < W.heap.size:=by obtain ⟨m,hm⟩:=k0;exact DataW.trod_lt m _ _ _ hm
 obtain ⟨cs0,rfl,_⟩:=okWide_struct Try.underlying25 (hval 0 25 v0 rfl rfl)
 obtain ⟨y0,K0,g0⟩:=iU.arg avE h0 hsz (j:=0) rfl rfl
 have K0':(k25).K W y0 cs0.toList:=K0
 obtain ⟨dW,dN,dZ,dO,e0,aT,a1h,ak,a1i⟩:=anZ K0'
 obtain rfl:=Array.toList_inj.1 (e0:cs0.toList = (#[U Z y0.f0,U Z y0.f1,U Z y0.f2,U Z y0.f3,U Z y0.f4,U Z y0.f5,U Z y0.f6,.slice dW y0.f7.length dN,.slice dZ y0.f8.length dO]:Array Value).toList)
 have k1:=h1
 have lt1:∀ x ∈ p1,x.block < W.heap.size:=by obtain ⟨m,hm⟩:=k1;exact DataW.trod_lt m _ _ _ hm
 obtain ⟨cs1,rfl,_⟩:=okWide_struct Try.underlying29 (hval 1 29 v1 rfl rfl)
 obtain ⟨y1,K1,g1⟩:=iU.arg avF h1 hsz (j:=1) rfl rfl
 have K1':(k29).K W y1 cs1.toList:=K1
 obtain e1:=an1 K1'
 obtain rfl:=Array.toList_inj.1 (e1:cs1.toList = (#[U Z y1.f0,U Z y1.f1,U Z y1.f2.f0,U Z y1.f2.f1,U Z y1.f3.f0,U Z y1.f3.f1,U Z y1.f4]:Array Value).toList)
 have k2:=h2
 have lt2:∀ x ∈ p2,x.block < W.heap.size:=by obtain ⟨m,hm⟩:=k2;exact DataW.trod_lt m _ _ _ hm
 obtain ⟨cs2,rfl,_⟩:=okWide_struct Try.underlying31 (hval 2 31 v2 rfl rfl)
 obtain ⟨y2,K2,g2⟩:=iU.arg ai2 h2 hsz (j:=2) rfl rfl
 have K2':(k31).K W y2 cs2.toList:=K2
 obtain e2:=UG K2'
 obtain rfl:=Array.toList_inj.1 (e2:cs2.toList = (#[U Z y2.f0.f0,U Z y2.f0.f1,U Z y2.f1.f0,U Z y2.f1.f1]:Array Value).toList)
 obtain ⟨a3,rfl,rfl,rfl,w3⟩:=open_int Try.underlying2 (hval 3 2 v3 rfl rfl) h3
 have k4:=h4
 have lt4:∀ x ∈ p4,x.block < W.heap.size:=by obtain ⟨m,hm⟩:=k4;exact DataW.trod_lt m _ _ _ hm
 obtain ⟨cs4,rfl,_⟩:=okWide_struct Try.underlying27 (hval 4 27 v4 rfl rfl)
 obtain ⟨y4,K4,g4⟩:=iU.arg IP h4 hsz (j:=4) rfl rfl
 have K4':(k27).K W y4 cs4.toList:=K4
 obtain e4:=BH K4'
 obtain rfl:=Array.toList_inj.1 (e4:cs4.toList = (#[U Z y4.f0,U Z y4.f1]:Array Value).toList)
 have k5:=h5
 have lt5:∀ x ∈ p5,x.block < W.heap.size:=by obtain ⟨m,hm⟩:=k5;exact DataW.trod_lt m _ _ _ hm
 obtain ⟨A5,n5,c5,rfl⟩:=okWide_slice Try.underlying49 (hval 5 49 v5 rfl rfl)
 obtain ⟨y5,K5,g5⟩:=iU.arg (iU.slice 33 Try.underlying49 (by kernel_rfl) avG) h5 hsz (j:=5) rfl rfl
 obtain ⟨_,_,e5,l5,C5⟩:=K5
 obtain ⟨rfl,rfl,rfl⟩:_∧_∧_:=by simpa [Value.cells] using e5
 have k6:=h6
 have lt6:∀ x ∈ p6,x.block < W.heap.size:=by obtain ⟨m,hm⟩:=k6;exact DataW.trod_lt m _ _ _ hm
 obtain ⟨cs6,rfl,_⟩:=okWide_struct Try.underlying81 (hval 6 81 v6 rfl rfl)
 obtain ⟨y6,K6,g6⟩:=iU.arg avI h6 hsz (j:=6) rfl rfl
 have K6':(k81).K W y6 cs6.toList:=K6
 obtain e6:=an2 K6'
 obtain rfl:=Array.toList_inj.1 (e6:cs6.toList = (#[U Z y6.f0.f0.f0,U Z y6.f0.f0.f1,U Z y6.f0.f1.f0,U Z y6.f0.f1.f1,U Z y6.f1,U Z y6.f2]:Array Value).toList)
 have k7:=h7
 have lt7:∀ x ∈ p7,x.block < W.heap.size:=by obtain ⟨m,hm⟩:=k7;exact DataW.trod_lt m _ _ _ hm
 obtain ⟨cs7,rfl⟩:∃ cs,v7 = .agg cs:=VD Try.underlying56 (hval 7 56 v7 rfl rfl)
 obtain ⟨y7,K7,g7⟩:=iU.arg avH h7 hsz (j:=7) rfl rfl
 have K7':(aAu).K W y7 cs7.toList:=K7
 obtain e7:=alc K7'
 obtain rfl:=Array.toList_inj.1 (e7:cs7.toList = (#[.int .u16 y7.f0,.int .u16 y7.f1]:Array Value).toList)
 have k8:=h8
 have lt8:∀ x ∈ p8,x.block < W.heap.size:=by obtain ⟨m,hm⟩:=k8;exact DataW.trod_lt m _ _ _ hm
 obtain ⟨A8,n8,c8,rfl⟩:=okWide_slice Try.underlying57 (hval 8 57 v8 rfl rfl)
 obtain ⟨y8,K8,g8⟩:=iU.arg (iU.slice 55 Try.underlying57 (by kernel_rfl) (iU.int Try.underlying55)) h8 hsz (j:=8) rfl rfl
 obtain ⟨_,_,e8,l8,C8⟩:=K8
 obtain ⟨rfl,rfl,rfl⟩:_∧_∧_:=by simpa [Value.cells] using e8
 clear hA0 hval0 hsz0 hsz
 obtain ⟨kk,hp⟩:=Pure.GliderFetch y0 y1 y2 a3 y4 y5 y6 y7 y8 g0 g1 g2 w3 g4 g5 g6 g7 g8
 refine (Pr.ae.calls kk (y0.f0) (y0.f1) (y0.f2) (y0.f3) (y0.f4) (y0.f5) (y0.f6) _ _ (y0.f7) _ _ (y0.f8) (y1.f0) (y1.f1) (y1.f2.f0) (y1.f2.f1) (y1.f3.f0) (y1.f3.f1) (y1.f4) (y2.f0.f0) (y2.f0.f1) (y2.f1.f0) (y2.f1.f1) a3 (y4.f0) (y4.f1) _ _ y5 (y6.f0.f0.f0) (y6.f0.f0.f1) (y6.f0.f1.f0) (y6.f0.f1.f1) (y6.f1) (y6.f2) (y7.f0) (y7.f1) _ _ y8 true W a1h aT a1i ak C5 l5 C8 l8 hp ⟨rfl⟩).mono fun e W' ⟨he,bel⟩=>?_
 subst he
 exact ⟨_,rfl,_,_,_,[],_,[],hW',trodAll_mk1 (shut_bool Try.underlying4 _),(trodAll_cons_mk (Below.trod laidOut (by kernel_rfl) (of_decide_eq_true (by kernel_rfl)) k0 bel lt0) (trodAll_cons_mk (Below.trod laidOut (by kernel_rfl) (of_decide_eq_true (by kernel_rfl)) k1 bel lt1) (trodAll_cons_mk (Below.trod laidOut (by kernel_rfl) (of_decide_eq_true (by kernel_rfl)) k2 bel lt2) (trodAll_cons_mk (shut_int Try.underlying2 w3) (trodAll_cons_mk (Below.trod laidOut (by kernel_rfl) (of_decide_eq_true (by kernel_rfl)) k4 bel lt4) (trodAll_cons_mk (Below.trod laidOut (by kernel_rfl) (of_decide_eq_true (by kernel_rfl)) k5 bel lt5) (trodAll_cons_mk (Below.trod laidOut (by kernel_rfl) (of_decide_eq_true (by kernel_rfl)) k6 bel lt6) (trodAll_cons_mk (Below.trod laidOut (by kernel_rfl) (of_decide_eq_true (by kernel_rfl)) k7 bel lt7) (trodAll_cons_mk (Below.trod laidOut (by kernel_rfl) (of_decide_eq_true (by kernel_rfl)) k8 bel lt8) trodAll_mk0))))))))),rfl,bel.frame _,fun h=>by cases h⟩
theorem over:Rows.gliderFetchRow.holds Try.pinned (OpenSpec.ofChange Rows.gliderFetchSpec) :=
 OpenClaim.holds_of_wide 11 Try.f11 rfl rfl rfl rfl rfl rfl rfl ⟨rfl,rfl,rfl,rfl,rfl⟩ rfl rfl rfl rfl rfl (by kernel_rfl) Try.func11 (by kernel_rfl)
  (of_decide_eq_true (by kernel_rfl)) (by unfold Func.isWrapper;first|(rw [if_pos (by decide+kernel)];kernel_rfl)|(rw [if_neg (by decide+kernel)];exact ⟨rfl,rfl⟩))
  (fun os started H enc _=>lifted os started H enc)
theorem proved:Rows.GliderFetchSaid:=over
#print axioms proved
end Go.Proofs.Ytmhaiihjfgfaoaa.gliderFetch
namespace Go.Proofs.Ytmhaiihjfgfaoaa
theorem gliderFetch_holds:Rows.GliderFetchSaid:=gliderFetch.proved
end Go.Proofs.Ytmhaiihjfgfaoaa
