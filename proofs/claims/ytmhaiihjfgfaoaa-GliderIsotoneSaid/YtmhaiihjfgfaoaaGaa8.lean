import Derived.Test.YtmhaiihjfgfaoaaGaa7
import Derived.Test.YtmhaiihjfgfaoaaGaa1
import Derived.Test.YtmhaiihjfgfaoaaGaa3
section
namespace Go.Proofs.Ytmhaiihjfgfaoaa.Good
open Go.RowKit Go.Proofs.YtmhaiihjfgfaoaaW.PrintWords Go.Proofs.YtmhaiihjfgfaoaaW.PrintLast Go.Proofs.YtmhaiihjfgfaoaaW.PrintMore Go.Proofs.Ytmhaiihjfgfaoaa.Pr Go.Proofs.YtmhaiihjfgfaoaaW.iY
set_option linter.unusedVariables false
def W27 (x:mZ):Prop:=(Lit.int .i64 x.f0).wf = true∧(Lit.int .i64 x.f1).wf = true
theorem Dw {H:Type} {enc:TypeId × Value→H}:iY enc Try.prog 27 k27 W27:=iY.struct (fun p=>⟨p.1,p.2⟩) Try.underlying27 (by kernel_rfl) (fun _=>rfl) (jw.cons rfl (by kernel_rfl) (iY.int Try.underlying2) (jw.one rfl (by kernel_rfl) (iY.int Try.underlying2)))
def W40 (x:mQ):Prop:=W27 x.f0∧W27 x.f1
theorem afK {H:Type} {enc:TypeId × Value→H}:iY enc Try.prog 40 xK W40:=iY.struct (fun p=>⟨p.1,p.2⟩) Try.underlying40 (by kernel_rfl) (fun _=>rfl) (jw.cons rfl (by kernel_rfl) Dw (jw.one rfl (by kernel_rfl) Dw))
def W25 (x:S25):Prop:=(Lit.int .i64 x.f0).wf = true∧(Lit.int .i64 x.f1).wf = true∧(Lit.int .i64 x.f2).wf = true∧(Lit.int .i64 x.f3).wf = true∧(Lit.int .i64 x.f4).wf = true∧(Lit.int .i64 x.f5).wf = true∧(Lit.int .i64 x.f6).wf = true∧((∀ y ∈ x.f7,True)∧x.f7.length*Try.prog.bytesOf 4≤reachBytes)∧((∀ y ∈ x.f8,W40 y)∧x.f8.length*Try.prog.bytesOf 40≤reachBytes)
theorem X4 {H:Type} {enc:TypeId × Value→H}:iY enc Try.prog 25 k25 W25:=iY.struct (fun p=>⟨p.1,p.2.1,p.2.2.1,p.2.2.2.1,p.2.2.2.2.1,p.2.2.2.2.2.1,p.2.2.2.2.2.2.1,p.2.2.2.2.2.2.2.1,p.2.2.2.2.2.2.2.2⟩) Try.underlying25 (by kernel_rfl) (fun _=>rfl) (jw.cons rfl (by kernel_rfl) (iY.int Try.underlying3) (jw.cons rfl (by kernel_rfl) (iY.int Try.underlying3) (jw.cons rfl (by kernel_rfl) (iY.int Try.underlying2) (jw.cons rfl (by kernel_rfl) (iY.int Try.underlying2) (jw.cons rfl (by kernel_rfl) (iY.int Try.underlying3) (jw.cons rfl (by kernel_rfl) (iY.int Try.underlying3) (jw.cons rfl (by kernel_rfl) (iY.int Try.underlying2) (jw.cons rfl (by kernel_rfl) (iY.slice 4 Try.underlying22 (by kernel_rfl) (iY.bool Try.underlying4)) (jw.one rfl (by kernel_rfl) (iY.slice 40 Try.underlying23 (by kernel_rfl) afK))))))))))
def W29 (x:S29):Prop:=(Lit.int .i64 x.f0).wf = true∧(Lit.int .i64 x.f1).wf = true∧W27 x.f2∧W27 x.f3∧(Lit.int .i64 x.f4).wf = true
theorem X5 {H:Type} {enc:TypeId × Value→H}:iY enc Try.prog 29 k29 W29:=iY.struct (fun p=>⟨p.1,p.2.1,p.2.2.1,p.2.2.2.1,p.2.2.2.2⟩) Try.underlying29 (by kernel_rfl) (fun _=>rfl) (jw.cons rfl (by kernel_rfl) (iY.int Try.underlying2) (jw.cons rfl (by kernel_rfl) (iY.int Try.underlying2) (jw.cons rfl (by kernel_rfl) Dw (jw.cons rfl (by kernel_rfl) Dw (jw.one rfl (by kernel_rfl) (iY.int Try.underlying2))))))
def W31 (x:jI):Prop:=W27 x.f0∧W27 x.f1
theorem X6 {H:Type} {enc:TypeId × Value→H}:iY enc Try.prog 31 k31 W31:=iY.struct (fun p=>⟨p.1,p.2⟩) Try.underlying31 (by kernel_rfl) (fun _=>rfl) (jw.cons rfl (by kernel_rfl) Dw (jw.one rfl (by kernel_rfl) Dw))
def W33 (x:M0):Prop:=(Lit.int .i64 x.f0).wf = true∧(Lit.int .i64 x.f1).wf = true
theorem afL {H:Type} {enc:TypeId × Value→H}:iY enc Try.prog 33 k33 W33:=iY.struct (fun p=>⟨p.1,p.2⟩) Try.underlying33 (by kernel_rfl) (fun _=>rfl) (jw.cons rfl (by kernel_rfl) (iY.int Try.underlying3) (jw.one rfl (by kernel_rfl) (iY.int Try.underlying3)))
end Go.Proofs.Ytmhaiihjfgfaoaa.Good
end
section
namespace Go.Proofs.Ytmhaiihjfgfaoaa.Gl
open Go.RowKit Go.Proofs.YtmhaiihjfgfaoaaW.PrintWords Go.Proofs.YtmhaiihjfgfaoaaW.PrintLast Go.Proofs.YtmhaiihjfgfaoaaW.PrintMore Go.Proofs.Ytmhaiihjfgfaoaa.Pr
set_option linter.unusedVariables false
theorem jb {x:Int} (h:-9223372036854775808≤x∧x < 9223372036854775808):wrap64 x = x:=by unfold wrap64;omega
theorem Nz (lo hi:Int):dG.f lo hi = some (MH lo hi):=by
 unfold dG.f bg.f
 rw [show MH lo hi = (decide (lo≤hi) && (decide (-1073741824≤lo) && decide (lo≤1073741824)) && (decide (-1073741824≤hi) && decide (hi≤1073741824))) from by
  rw [Bool.eq_iff_iff,xW];simp only [Bool.and_eq_true,decide_eq_true_eq];omega]
 by_cases h1:lo≤hi <;> by_cases h2:-1073741824≤lo <;> by_cases h3:lo≤1073741824 <;> by_cases h4:-1073741824≤hi <;> by_cases h5:hi≤1073741824 <;> simp [h1,h2,h3,h4,h5]
theorem Bw (lo hi a b:Int):cK.f lo hi a b = some (xh lo hi a b):=by
 unfold cK.f xh
 rw [Nz,Option.bind_some]
 cases MH lo hi with
 |false=>rfl
 |true =>
  by_cases h:a≤lo <;> simp [h]
theorem Ug (x lo hi:Int):bg.f x lo hi = some (mM x lo hi):=by
 unfold bg.f mM
 by_cases h:lo≤x <;> simp [h]
theorem WS (x:jI):dW.f x.f0.f0 x.f0.f1 x.f1.f0 x.f1.f1 = some (K6 x):=by
 unfold dW.f K6
 simp only [Nz,Ug,Option.bind_some]
 cases MH x.f0.f0 x.f0.f1 <;> cases MH x.f1.f0 x.f1.f1 <;> cases mM x.f0.f0 (-268435456) 268435456 <;> cases mM x.f0.f1 (-268435456) 268435456 <;> cases mM x.f1.f0 (-268435456) 268435456 <;> cases mM x.f1.f1 (-268435456) 268435456 <;> rfl
theorem WT (v:wW):cz.f v.speed v.dive v.use.f0 v.use.f1 v.drift.f0 v.drift.f1 v.reserve = some (L6 v):=by
 unfold cz.f L6 QC mM
 simp only [Bw,Option.bind_some]
 by_cases h1:v.speed < 0
 ·rw [if_pos h1,show decide (0≤v.speed) = false from decide_eq_false (by omega)];rfl
 rw [if_neg h1,show decide (0≤v.speed) = true from decide_eq_true (by omega)]
 by_cases h2:v.speed > 5000
 ·rw [if_pos h2,show decide (v.speed≤5000) = false from decide_eq_false (by omega)];rfl
 rw [if_neg h2,show decide (v.speed≤5000) = true from decide_eq_true (by omega)]
 by_cases h3:v.dive < 1
 ·rw [if_pos h3,show decide (1≤v.dive) = false from decide_eq_false (by omega)];rfl
 rw [if_neg h3,show decide (1≤v.dive) = true from decide_eq_true (by omega)]
 by_cases h4:v.dive > 131072
 ·rw [if_pos h4,show decide (v.dive≤131072) = false from decide_eq_false (by omega)];rfl
 rw [if_neg h4,show decide (v.dive≤131072) = true from decide_eq_true (by omega)]
 cases xh v.use.f0 v.use.f1 0 1073741824
 ·rfl
 cases xh v.drift.f0 v.drift.f1 0 1073741824
 ·rfl
 by_cases h5:v.reserve < 0
 ·rw [if_pos h5,show decide (0≤v.reserve) = false from decide_eq_false (by omega)];rfl
 rw [if_neg h5,show decide (0≤v.reserve) = true from decide_eq_true (by omega)]
 by_cases h6:v.reserve > 1073741824
 ·rw [if_pos h6,show decide (v.reserve≤1073741824) = false from decide_eq_false (by omega)];rfl
 rw [if_neg h6,show decide (v.reserve≤1073741824) = true from decide_eq_true (by omega)];rfl
theorem RO (s:oH) (hm:0≤s.most∧s.most≤5000) (hl:s.currents.length≤100000):∀ (m i K:Nat),i+m = s.currents.length→m+1≤K→
 aI.l0 K (i:Int) s.nx s.ny s.cell s.slot s.slots s.layers s.most s.shores s.currents = some (if (s.currents.drop i).any (Jl s.most) then 2 else 0)
 |0,i,K+1,h,hk=>by
  rw [aI.l0,if_neg (by omega),List.drop_eq_nil_of_le (by omega)];rfl
 |m+1,i,K+1,h,hk=>by
  have hi:i < s.currents.length:=by omega
  rw [aI.l0,if_pos (by omega),if_pos (by omega),jb (x:=-s.most) (by omega),jb (x:=(i:Int)+1) (by omega)]
  have e:bn s.currents (i:Int) = s.currents[i]:=by
   unfold bn
   simp [hi]
  rw [e,Bw,Option.bind_some,Bw,Option.bind_some,List.drop_eq_getElem_cons hi,List.any_cons]
  have ih:=RO s hm hl m (i+1) K (by omega) (by omega)
  rw [show ((i+1:Nat):Int) = (i:Int)+1 from by omega] at ih
  rw [ih,show Jl s.most s.currents[i] = (!xh s.currents[i].f0.f0 s.currents[i].f0.f1 (-s.most) s.most || !xh s.currents[i].f1.f0 s.currents[i].f1.f1 (-s.most) s.most) from rfl]
  cases xh s.currents[i].f0.f0 s.currents[i].f0.f1 (-s.most) s.most
  ·rfl
  cases xh s.currents[i].f1.f0 s.currents[i].f1.f1 (-s.most) s.most
  ·rfl
  rfl
theorem Pz (s:oH) (K:Nat) (hl:s.currents.length≤100000) (hk:s.currents.length+3≤K):aI.f K s.nx s.ny s.cell s.slot s.slots s.layers s.most s.shores s.currents = some (sH s):=by
 obtain ⟨K,rfl⟩:∃ k,K = k+2:=⟨K - 2,by omega⟩
 have hj:aI.j0 (K+2) true s.nx s.ny s.cell s.slot s.slots s.layers s.most s.shores s.currents = some 2:=by rw [aI.j0,if_pos rfl]
 unfold aI.f sH Hm
 rw [hj]
 unfold mM
 by_cases h1:s.nx < 1
 ·rw [if_pos h1,show decide (1≤s.nx) = false from decide_eq_false (by omega)];rfl
 rw [if_neg h1,show decide (1≤s.nx) = true from decide_eq_true (by omega)]
 by_cases h2:s.nx > 12
 ·rw [if_pos h2,show decide (s.nx≤12) = false from decide_eq_false (by omega)];rfl
 rw [if_neg h2,show decide (s.nx≤12) = true from decide_eq_true (by omega)]
 by_cases h3:s.ny < 1
 ·rw [if_pos h3,show decide (1≤s.ny) = false from decide_eq_false (by omega)];rfl
 rw [if_neg h3,show decide (1≤s.ny) = true from decide_eq_true (by omega)]
 by_cases h4:s.ny > 12
 ·rw [if_pos h4,show decide (s.ny≤12) = false from decide_eq_false (by omega)];rfl
 rw [if_neg h4,show decide (s.ny≤12) = true from decide_eq_true (by omega)]
 by_cases h5:s.cell < 100
 ·rw [if_pos h5,show decide (100≤s.cell) = false from decide_eq_false (by omega)];rfl
 rw [if_neg h5,show decide (100≤s.cell) = true from decide_eq_true (by omega)]
 by_cases h6:s.cell > 65536
 ·rw [if_pos h6,show decide (s.cell≤65536) = false from decide_eq_false (by omega)];rfl
 rw [if_neg h6,show decide (s.cell≤65536) = true from decide_eq_true (by omega)]
 by_cases h7:s.slot < 1
 ·rw [if_pos h7,show decide (1≤s.slot) = false from decide_eq_false (by omega)];rfl
 rw [if_neg h7,show decide (1≤s.slot) = true from decide_eq_true (by omega)]
 by_cases h8:s.slot > 1048576
 ·rw [if_pos h8,show decide (s.slot≤1048576) = false from decide_eq_false (by omega)];rfl
 rw [if_neg h8,show decide (s.slot≤1048576) = true from decide_eq_true (by omega)]
 by_cases h9:s.slots < 1
 ·rw [if_pos h9,show decide (1≤s.slots) = false from decide_eq_false (by omega)];rfl
 rw [if_neg h9,show decide (1≤s.slots) = true from decide_eq_true (by omega)]
 by_cases h10:s.slots > 16
 ·rw [if_pos h10,show decide (s.slots≤16) = false from decide_eq_false (by omega)];rfl
 rw [if_neg h10,show decide (s.slots≤16) = true from decide_eq_true (by omega)]
 by_cases h11:s.layers < 1
 ·rw [if_pos h11,show decide (1≤s.layers) = false from decide_eq_false (by omega)];rfl
 rw [if_neg h11,show decide (1≤s.layers) = true from decide_eq_true (by omega)]
 by_cases h12:s.layers > 3
 ·rw [if_pos h12,show decide (s.layers≤3) = false from decide_eq_false (by omega)];rfl
 rw [if_neg h12,show decide (s.layers≤3) = true from decide_eq_true (by omega)]
 by_cases h13:s.most < 0
 ·rw [if_pos h13,show decide (0≤s.most) = false from decide_eq_false (by omega)];rfl
 rw [if_neg h13,show decide (0≤s.most) = true from decide_eq_true (by omega)]
 by_cases h14:s.most > 5000
 ·rw [show decide (s.most > 5000) = true from decide_eq_true h14,hj,show decide (s.most≤5000) = false from decide_eq_false (by omega)];rfl
 rw [show decide (s.most > 5000) = false from decide_eq_false h14,show decide (s.most≤5000) = true from decide_eq_true (by omega)]
 obtain ⟨n0,n1⟩:=iV (a:=s.nx) (b:=s.ny) (m:=12) (n:=12) (by omega) (by omega) (by omega) (by omega)
 obtain ⟨m0,m1⟩:=iV (a:=s.slots) (b:=s.layers) (m:=16) (n:=3) (by omega) (by omega) (by omega) (by omega)
 obtain ⟨q0,q1⟩:=iV (a:=s.slots*s.layers) (b:=s.nx*s.ny) (m:=48) (n:=144) (by omega) (by omega) (by omega) (by omega)
 obtain ⟨p0,p1⟩:=iV (a:=s.slots*s.layers) (b:=s.nx) (m:=48) (n:=12) (by omega) (by omega) (by omega) (by omega)
 have ea:s.layers*s.slots = s.slots*s.layers:=Int.mul_comm _ _
 have eb:s.slots*s.layers*s.nx*s.ny = s.slots*s.layers*(s.nx*s.ny):=by rw [Int.mul_assoc]
 rw [aI.j0,if_neg (by decide),jb (x:=s.nx*s.ny) (by omega)]
 by_cases h15:(s.shores.length:Int) = s.nx*s.ny
 ·rw [if_pos h15,decide_eq_true h15,aI.j1,jb (x:=s.slots*s.layers) (by omega),jb (x:=s.slots*s.layers*s.nx) (by omega),eb,jb (x:=s.slots*s.layers*(s.nx*s.ny)) (by omega)]
  by_cases h16:(s.currents.length:Int) = s.slots*s.layers*(s.nx*s.ny)
  ·rw [if_neg (by rw [h16];simp),decide_eq_true h16]
   have:=RO s (by omega) hl s.currents.length 0 K (by omega) (by omega)
   rw [show ((0:Nat):Int) = 0 from rfl,List.drop_zero] at this
   rw [this]
   cases s.currents.any (Jl s.most) <;> rfl
  ·rw [if_pos (by simpa using h16),decide_eq_false h16];rfl
 ·rw [if_neg h15,decide_eq_false h15,aI.j1,if_pos rfl];rfl
theorem Nc (s:oH):fT.f s.nx s.ny s.cell s.slot s.slots s.layers s.most s.shores s.currents = some (decide ((s.shores.length:Int) > 200) || decide ((s.currents.length:Int) > 3000)):=by
 unfold fT.f
 by_cases h:(s.shores.length:Int) > 200 <;> simp [h]
def ab3 (s:oH) (v:wW) (x:jI) (t:Int):Bool:=!decide ((s.shores.length:Int) > 200) && !decide ((s.currents.length:Int) > 3000) && Hm s && QC v && K6 x && decide (0≤t) && decide (t≤1073741824)
theorem ab2 (s:oH) (v:wW) (x:jI) (t:Int) (K:Nat) (hk:3003≤K):jA.f K s.nx s.ny s.cell s.slot s.slots s.layers s.most s.shores s.currents v.speed v.dive v.use.f0 v.use.f1 v.drift.f0 v.drift.f1 v.reserve x.f0.f0 x.f0.f1 x.f1.f0 x.f1.f1 t = some (ab3 s v x t):=by
 unfold jA.f ab3
 rw [Nc,Option.bind_some]
 by_cases h1:(s.shores.length:Int) > 200
 ·rw [decide_eq_true h1];rfl
 by_cases h2:(s.currents.length:Int) > 3000
 ·rw [decide_eq_true h2,decide_eq_false h1];rfl
 rw [decide_eq_false h1,decide_eq_false h2,if_neg (by decide),Pz s K (by omega) (by omega),Option.bind_some,WT,Option.bind_some,WS,Option.bind_some]
 unfold sH L6
 cases Hm s
 ·rfl
 cases QC v
 ·rfl
 cases K6 x
 ·rfl
 by_cases h3:t ≥ 0
 ·rw [if_pos rfl,if_pos rfl,if_pos rfl,if_pos h3,show decide (0≤t) = true from decide_eq_true h3];rfl
 ·rw [if_pos rfl,if_pos rfl,if_pos rfl,if_neg h3,show decide (0≤t) = false from decide_eq_false h3];rfl
end Go.Proofs.Ytmhaiihjfgfaoaa.Gl
end
section
namespace Go.Proofs.Ytmhaiihjfgfaoaa.Gl
open Go.RowKit Go.Proofs.YtmhaiihjfgfaoaaW.PrintWords Go.Proofs.YtmhaiihjfgfaoaaW.PrintLast Go.Proofs.YtmhaiihjfgfaoaaW.PrintMore Go.Proofs.Ytmhaiihjfgfaoaa.Pr
set_option linter.unusedVariables false
def mH (a b:jI):Prop:=b.f0.f0≤a.f0.f0∧a.f0.f1≤b.f0.f1∧b.f1.f0≤a.f1.f0∧a.f1.f1≤b.f1.f1
theorem mH.rfl' (a:jI):mH a a:=⟨Int.le_refl _,Int.le_refl _,Int.le_refl _,Int.le_refl _⟩
theorem mH.trans {a b c:jI} (h:mH a b) (k:mH b c):mH a c:=by unfold mH at*;omega
theorem mH.antisymm {a b:jI} (h:mH a b) (k:mH b a):a = b:=by
 obtain ⟨⟨a0,a1⟩,⟨a2,a3⟩⟩:=a
 obtain ⟨⟨b0,b1⟩,⟨b2,b3⟩⟩:=b
 unfold mH at*
 dsimp only at h k
 have e0:a0 = b0:=by omega
 have e1:a1 = b1:=by omega
 have e2:a2 = b2:=by omega
 have e3:a3 = b3:=by omega
 rw [e0,e1,e2,e3]
theorem RP {a b:jI}:mH a (vR a b)∧mH b (vR a b):=by
 unfold mH vR
 dsimp only
 omega
theorem Y6 {a b c:jI} (h:mH a c) (k:mH b c):mH (vR a b) c:=by
 unfold mH vR at*
 dsimp only
 omega
theorem NA:∀ (l:List jI) (z:jI),∃ y,l.foldl Rt (some z) = some y∧(mH z y∧∀ a ∈ l,mH a y)∧∀ b,mH z b→(∀ a ∈ l,mH a b)→mH y b
 |[],z=>⟨z,rfl,⟨mH.rfl' z,fun a h=>by cases h⟩,fun b h _=>h⟩
 |x :: l,z=>by
  obtain ⟨y,h,⟨h1,h2⟩,h3⟩:=NA l (vR z x)
  refine ⟨y,h,⟨RP.1.trans h1,fun a ha=>?_⟩,fun b hb hl=>h3 b (Y6 hb (hl x (List.mem_cons_self ..))) fun a ha=>hl a (List.mem_cons_of_mem _ ha)⟩
  rcases List.mem_cons.1 ha with rfl|ha
  ·exact RP.2.trans h1
  ·exact h2 a ha
theorem Py {l:List jI} (h:l≠[]):∃ y,sD l = some y∧(∀ a ∈ l,mH a y)∧∀ b,(∀ a ∈ l,mH a b)→mH y b:=by
 cases l with
 |nil=>exact absurd rfl h
 |cons x l =>
  obtain ⟨y,h,⟨h1,h2⟩,h3⟩:=NA l x
  refine ⟨y,h,fun a ha=>?_,fun b hl=>h3 b (hl x (List.mem_cons_self ..)) fun a ha=>hl a (List.mem_cons_of_mem _ ha)⟩
  rcases List.mem_cons.1 ha with rfl|ha
  ·exact h1
  ·exact h2 a ha
theorem Iq {l l':List jI} (h:l≠[]) (hs:∀ a ∈ l,∃ b ∈ l',mH a b):mH (j3 l) (j3 l'):=by
 obtain ⟨y,e,h1,h2⟩:=Py h
 have h':l'≠[]:=by
  intro e'
  cases l with
  |nil=>exact h rfl
  |cons x l =>
   obtain ⟨b,hb,_⟩:=hs x (List.mem_cons_self ..)
   rw [e'] at hb;cases hb
 obtain ⟨y',e',h1',h2'⟩:=Py h'
 unfold j3
 rw [e,e']
 exact h2 y' fun a ha=>by
  obtain ⟨b,hb,hs⟩:=hs a ha
  exact hs.trans (h1' b hb)
theorem aa6 {nx i0 k0 c:Int} {n m:Nat}:c ∈ allT nx i0 n k0 m↔∃ r:Nat,r < m∧∃ j:Nat,j < n∧c = (k0+(r:Int))*nx+(i0+(j:Int)):=by
 unfold allT YT
 simp only [List.mem_flatMap,List.mem_range,List.mem_map]
 constructor
 ·rintro ⟨r,hr,j,hj,rfl⟩
  exact ⟨r,hr,j,hj,rfl⟩
 ·rintro ⟨r,hr,j,hj,rfl⟩
  exact ⟨r,hr,j,hj,rfl⟩
theorem Y7 {nx a b c d k:Int}:k ∈ allT nx a (b+1 - a).toNat c (d+1 - c).toNat↔∃ r i:Int,(c≤r∧r≤d)∧(a≤i∧i≤b)∧k = r*nx+i:=by
 rw [aa6]
 constructor
 ·rintro ⟨r,hr,j,hj,rfl⟩
  exact ⟨c+r,a+j,by omega,by omega,rfl⟩
 ·rintro ⟨r,i,hr,hi,rfl⟩
  exact ⟨(r - c).toNat,by omega,(i - a).toNat,by omega,by rw [show c+((r - c).toNat:Int) = r from by omega,show a+((i - a).toNat:Int) = i from by omega]⟩
theorem CG {s:oH} {x:jI} {k:Int}:k ∈ qF s x↔∃ r i:Int,((qy s.cell x.f1 s.ny).1≤r∧r≤(qy s.cell x.f1 s.ny).2)∧((qy s.cell x.f0 s.nx).1≤i∧i≤(qy s.cell x.f0 s.nx).2)∧k = r*s.nx+i:=Y7
theorem GQ (c x:Int):qE c x≤x / c∧x / c - 1≤qE c x:=by unfold qE;split <;> omega
theorem Uh {c x y:Int} (hc:0 < c) (h:x≤y):qE c x≤qE c y:=by
 have h1:x / c≤y / c:=Int.ediv_le_ediv hc h
 by_cases hy:0 < y / c∧y % c = 0
 ·by_cases e:x = y
  ·rw [e];exact Int.le_refl _
  ·have h2:y = c*(y / c):=by have:=Int.emod_add_mul_ediv y c;omega
   have h3:x / c < y / c:=Int.ediv_lt_of_lt_mul hc (by rw [Int.mul_comm];omega)
   have:=(GQ c x).1
   have:=(GQ c y).2
   omega
 ·have h4:qE c y = y / c:=by unfold qE;rw [if_neg hy]
  have:=(GQ c x).1
  omega
theorem RQ {c most:Int} {a b:mZ} (hc:0 < c) (h0:b.f0≤a.f0) (h1:a.f1≤b.f1):(qy c b most).1≤(qy c a most).1∧(qy c a most).2≤(qy c b most).2:=by
 have:=Uh hc h0
 have:=Int.ediv_le_ediv hc h1
 unfold qy
 dsimp only
 omega
theorem RS {c most:Int} {a:mZ} (hc:0 < c) (h:a.f0≤a.f1):(qy c a most).1≤(qy c a most).2:=by
 have:=(GQ c a.f0).1
 have:=Int.ediv_le_ediv hc h
 unfold qy
 dsimp only
 omega
def RU (s s':oH):Prop:=s'.nx = s.nx∧s'.ny = s.ny∧s'.cell = s.cell∧s'.slot = s.slot∧s'.slots = s.slots∧s'.layers = s.layers∧s'.most = s.most
theorem Ui {s s':oH} {x x':jI} (hs:RU s s') (hc:0 < s.cell) (h:mH x x') {k:Int} (hk:k ∈ qF s x):k ∈ qF s' x':=by
 obtain ⟨h1,h2,h3,_⟩:=hs
 obtain ⟨r,i,hr,hi,e⟩:=CG.1 hk
 obtain ⟨a0,a1⟩:=RQ (c:=s.cell) (most:=s.nx) (a:=x.f0) (b:=x'.f0) hc h.1 h.2.1
 obtain ⟨b0,b1⟩:=RQ (c:=s.cell) (most:=s.ny) (a:=x.f1) (b:=x'.f1) hc h.2.2.1 h.2.2.2
 refine CG.2 ⟨r,i,?_,?_,?_⟩
 ·rw [h3,h2];omega
 ·rw [h3,h1];omega
 ·rw [h1];exact e
theorem Lj {s:oH} {x:jI} (hc:0 < s.cell) (h0:x.f0.f0≤x.f0.f1) (h1:x.f1.f0≤x.f1.f1):∃ k,k ∈ qF s x:=by
 have a:=RS (c:=s.cell) (most:=s.nx) (a:=x.f0) hc h0
 have b:=RS (c:=s.cell) (most:=s.ny) (a:=x.f1) hc h1
 exact ⟨_,CG.2 ⟨_,_,⟨Int.le_refl _,b⟩,⟨Int.le_refl _,a⟩,rfl⟩⟩
theorem wU {s:oH} {x:jI} {layer j0:Int} {q:Nat} {y:jI}:y ∈ jk s x layer j0 q↔∃ r:Nat,r < q∧∃ c ∈ qF s x,y = vE s layer (j0+(r:Int)) c:=by
 unfold jk slotL
 simp only [List.mem_flatMap,List.mem_range,List.mem_map]
 constructor
 ·rintro ⟨r,hr,c,hc,rfl⟩
  exact ⟨r,hr,c,hc,rfl⟩
 ·rintro ⟨r,hr,c,hc,rfl⟩
  exact ⟨r,hr,c,hc,rfl⟩
theorem Ip {t u d:Int} (hd:0 < d) (h:t < u):0 < ((u - 1) / d+1 - t / d).toNat:=by
 have:=Int.ediv_le_ediv (a:=t) (b:=u - 1) hd (by omega)
 omega
theorem afM {s s':oH} {x x':jI} {layer t u:Int} (hs:RU s s') (hN:Ar s) (hcu:∀ i:Int,mH ⟨(bn s.currents i).f0,(bn s.currents i).f1⟩ ⟨(bn s'.currents i).f0,(bn s'.currents i).f1⟩)
 (h:mH x x') (h0:x.f0.f0≤x.f0.f1) (h1:x.f1.f0≤x.f1.f1) (ht:t < u):mH (Mc s x layer t u) (Mc s' x' layer t u):=by
 have hc:0 < s.cell:=by have:=hN.cell;omega
 have hd:0 < s.slot:=by have:=hN.slot;omega
 unfold Mc
 rw [hs.2.2.2.1]
 refine Iq ?_ fun y hy=>?_
 ·obtain ⟨k,hk⟩:=Lj (s:=s) hc h0 h1
  exact List.ne_nil_of_mem (wU.2 ⟨0,Ip hd ht,k,hk,rfl⟩)
 ·obtain ⟨r,hr,c,hc',rfl⟩:=wU.1 hy
  refine ⟨_,wU.2 ⟨r,hr,c,Ui hs hc h hc',rfl⟩,?_⟩
  unfold vE
  rw [hs.1,hs.2.1,hs.2.2.2.2.2.1]
  exact hcu _
theorem Ma {dive speed:Int} {a b u v:mZ} (hd:0≤dive) (h:b.f0≤a.f0∧a.f1≤b.f1) (k:v.f0≤u.f0∧u.f1≤v.f1):(pG dive b speed v).f0≤(pG dive a speed u).f0∧(pG dive a speed u).f1≤(pG dive b speed v).f1:=by
 have h0:(speed+1000*v.f0)*dive≤(speed+1000*u.f0)*dive:=Int.mul_le_mul_of_nonneg_right (by omega) hd
 have h1:(speed+1000*u.f1)*dive≤(speed+1000*v.f1)*dive:=Int.mul_le_mul_of_nonneg_right (by omega) hd
 unfold pG XH Y9
 dsimp only
 generalize (speed+1000*v.f0)*dive = A at*
 generalize (speed+1000*u.f0)*dive = B at*
 generalize (speed+1000*v.f1)*dive = C at*
 generalize (speed+1000*u.f1)*dive = D at*
 omega
theorem Uj {s s':oH} {v:wW} {x x':jI} (hs:RU s s') (h:mH x x'):mH (jV s v x) (jV s' v x'):=by
 unfold jV
 rw [hs.2.2.2.2.2.2]
 unfold mH at*
 dsimp only
 omega
theorem aa7 {s:oH} {v:wW} {x:jI} (hS:Ar s) (hV:MG v) (hx:GL x):(jV s v x).f0.f0≤(jV s v x).f0.f1∧(jV s v x).f1.f0≤(jV s v x).f1.f1:=by
 have:=(iV (a:=v.speed+s.most) (b:=v.dive) (m:=10000) (n:=131072) (by have:=hV.speed;have:=hS.most;omega) (by have:=hV.speed;have:=hS.most;omega) (by have:=hV.dive;omega) hV.dive.2).1
 unfold jV
 obtain ⟨_,h0,h1⟩:=hx
 dsimp only
 omega
theorem Y8 {s s':oH} {v:wW} {x x':jI} {t hd layer:Int} (hs:RU s s') (hN:Ar s) (hV:MG v) (hx:GL x) (hcu:∀ i:Int,mH ⟨(bn s.currents i).f0,(bn s.currents i).f1⟩ ⟨(bn s'.currents i).f0,(bn s'.currents i).f1⟩)
 (h:mH x x'):mH (AQ s v x (jV s v x) t hd layer) (AQ s' v x' (jV s' v x') t hd layer):=by
 obtain ⟨g0,g1⟩:=aa7 (s:=s) hN hV hx
 have ha:=afM (layer:=layer) (t:=t) (u:=t+v.dive) hs hN hcu (Uj (v:=v) hs h) g0 g1 (by have:=hV.dive;omega)
 have hq:0≤v.dive:=by have:=hV.dive;omega
 unfold AQ
 obtain ⟨p0,p1⟩:=Ma (speed:=(GJ hd).1*v.speed) hq ⟨h.1,h.2.1⟩ ⟨ha.1,ha.2.1⟩
 obtain ⟨q0,q1⟩:=Ma (speed:=(GJ hd).2*v.speed) hq ⟨h.2.2.1,h.2.2.2⟩ ⟨ha.2.2.1,ha.2.2.2⟩
 exact ⟨p0,p1,q0,q1⟩
theorem RV {s:oH} {v:wW} {x:jI} {t hd layer:Int} (h:xV s v x t hd layer = 0):ZR s∧MG v∧GL x∧(0≤t∧t≤1073741824)∧L8 [⟨hd,layer⟩] s.layers = 0∧DL s v x t = 0∧uk s v x t hd layer = AQ s v x (jV s v x) t hd layer:=by
 have h0:=h
 unfold xV at h
 obtain ⟨hb,h⟩:=vK h
 obtain ⟨hc,hd⟩:=vK h
 unfold AB at hb
 obtain ⟨ht,hp⟩:=vK hb
 obtain ⟨hS,hV⟩:=RH ht
 obtain ⟨hx,h1,h2⟩:=RL hp
 refine ⟨hS,hV,hx,⟨h1,h2⟩,hc,hd,?_⟩
 unfold uk zJ
 rw [if_pos h0,if_pos hd]
theorem Yj {s s':oH} {v:wW} {x x':jI} {t hd layer:Int} (hs:RU s s') (hcu:∀ i:Int,mH ⟨(bn s.currents i).f0,(bn s.currents i).f1⟩ ⟨(bn s'.currents i).f0,(bn s'.currents i).f1⟩)
 (h:mH x x') (h1:xV s v x t hd layer = 0) (h2:xV s' v x' t hd layer = 0):mH (uk s v x t hd layer) (uk s' v x' t hd layer):=by
 obtain ⟨hS,hV,hx,ht,hc,hd,e⟩:=RV h1
 obtain ⟨_,_,_,_,_,_,e'⟩:=RV h2
 rw [e,e']
 exact Y8 hs hS.n hV hx hcu h
end Go.Proofs.Ytmhaiihjfgfaoaa.Gl
end
