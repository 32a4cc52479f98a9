import Derived.SizedLaws
import Derived.ChangeSlices
import Derived.Deep.Slices
import Derived.ChangeArms
import Derived.DataReads
import Derived.WideShapes
import Derived.Test.YtmhaiihjfgfaoaaGaa5
import Derived.Test.YtmhaiihjfgfaoaaGaa6
import Derived.Test.YtmhaiihjfgfaoaaGaa4
import Derived.Test.YtmhaiihjfgfaoaaGaa1
import Derived.Test.YtmhaiihjfgfaoaaGaa3
section
namespace Go.Proofs.Ytmhaiihjfgfaoaa.Gl
open Go.RowKit Go.Shelf Go.Proofs.YtmhaiihjfgfaoaaW.PrintWords Go.Proofs.YtmhaiihjfgfaoaaW.PrintLast Go.Proofs.YtmhaiihjfgfaoaaW.PrintMore Go.Proofs.Ytmhaiihjfgfaoaa.Pr Go.Proofs.YtmhaiihjfgfaoaaW.Round
set_option linter.unusedVariables false
set_option linter.unusedSimpArgs false
attribute [local go_sem] fo fq gu gz fu
theorem GM {n:Int} (h0:-9223372036854775808≤n) (h1:n≤9223372036854775807):wrap64 n = n:=by unfold wrap64;omega
def QC (v:wW):Bool:=mM v.speed 0 5000 && mM v.dive 1 131072 && xh v.use.f0 v.use.f1 0 1073741824 && xh v.drift.f0 v.drift.f1 0 1073741824 && mM v.reserve 0 1073741824
def L6 (v:wW):Int:=if QC v then 0 else 2
theorem RF (x lo hi:Int):dn.f x lo hi = some (mM x lo hi):=by
 unfold dn.f mM
 by_cases h:x ≥ lo
 ·rw [if_pos h,show decide (lo≤x) = true from decide_eq_true h];simp
 ·rw [if_neg h,show decide (lo≤x) = false from decide_eq_false h];simp
theorem QX (v:wW):cZ.f 4 v.speed v.dive v.use.f0 v.use.f1 v.drift.f0 v.drift.f1 v.reserve = some (L6 v):=by
 unfold cZ.f L6 QC
 simp only [RF,Ro 2,Option.bind_some]
 cases mM v.speed 0 5000 <;> cases mM v.dive 1 131072 <;> cases xh v.use.f0 v.use.f1 0 1073741824 <;> cases xh v.drift.f0 v.drift.f1 0 1073741824 <;> cases mM v.reserve 0 1073741824 <;> rfl
theorem afB (v:wW) (w:World):Calls Try.prog 27 #[.agg #[.int .i64 v.speed,.int .i64 v.dive,.int .i64 v.use.f0,.int .i64 v.use.f1,.int .i64 v.drift.f0,.int .i64 v.drift.f1,.int .i64 v.reserve]] w (vP (.int .i64 (L6 v)) w):=cZ.calls 4 _ _ _ _ _ _ _ _ w (QX v)
def K6 (x:jI):Bool:=(MH x.f0.f0 x.f0.f1 && MH x.f1.f0 x.f1.f1) && (mM x.f0.f0 (-268435456) 268435456 && mM x.f0.f1 (-268435456) 268435456 && mM x.f1.f0 (-268435456) 268435456 && mM x.f1.f1 (-268435456) 268435456)
def Bi (x:jI):Int:=if K6 x then 0 else 2
theorem Y3 (k:Nat) (a b:mZ):eB.f (k+3) [a,b] = some (if MH a.f0 a.f1 && MH b.f0 b.f1 then 0 else 2):=by
 unfold eB.f
 have e1:(([a,b]:List mZ).length:Int) = 2:=rfl
 have r0:oJ [a,b] 0 = a:=rfl
 have r1:oJ [a,b] 1 = b:=rfl
 have w1:wrap64 (0+1) = 1:=GM (by decide) (by decide)
 have w2:wrap64 (1+1) = 2:=GM (by decide) (by decide)
 have step:∀ (c:mZ) (r:Option Int),(if c.f0 > c.f1 then some 2 else if c.f0 < -1073741824 then some 2 else if c.f1 > 1073741824 then some 2 else r) = if MH c.f0 c.f1 then r else some 2:=by
  intro c r
  cases h:MH c.f0 c.f1 with
  |true =>
   have:=xW.1 h
   rw [if_neg (by omega),if_neg (by omega),if_neg (by omega),if_pos rfl]
  |false =>
   have hn:¬ (c.f0≤c.f1∧-1073741824≤c.f0∧c.f1≤1073741824):=fun h2=>by rw [xW.2 h2] at h;cases h
   rw [show (if false = true then r else some 2) = some 2 from rfl]
   by_cases h1:c.f0 > c.f1
   ·rw [if_pos h1]
   ·rw [if_neg h1]
    by_cases h2:c.f0 < -1073741824
    ·rw [if_pos h2]
    ·rw [if_neg h2,if_pos (by omega)]
 simp only [eB.l0,e1]
 rw [if_pos (by decide),if_pos (by decide),if_pos (by decide),r0,step]
 cases ha:MH a.f0 a.f1 with
 |false=>rfl
 |true =>
  rw [if_pos rfl,w1,if_pos (by decide),if_pos (by decide),if_pos (by decide),r1,step]
  cases hb:MH b.f0 b.f1 with
  |false=>rfl
  |true =>
   rw [if_pos rfl,w2,if_neg (by decide)]
   rfl
theorem RG (x:jI):fZ.f 4 x.f0.f0 x.f0.f1 x.f1.f0 x.f1.f1 = some (Bi x):=by
 unfold fZ.f Bi K6
 rw [Y3 1,Option.bind_some]
 cases h:(MH x.f0.f0 x.f0.f1 && MH x.f1.f0 x.f1.f1) with
 |false=>rfl
 |true =>
  rw [Bool.and_eq_true] at h
  have h1:=xW.1 h.1
  have h2:=xW.1 h.2
  have am:∀ a:Int,-1073741824≤a→a≤1073741824→ek.f a = some (max a (-a)):=fun a h0 h1=>by
   unfold ek.f
   rw [Ah,GM (by omega) (by omega)]
  rw [show (if (true = true) then (0:Int) else 2) = 0 from rfl,if_pos rfl]
  simp only [am _ h1.2.1 (by omega),am _ (show -1073741824≤x.f0.f1 by omega) h1.2.2,am _ h2.2.1 (by omega),am _ (show -1073741824≤x.f1.f1 by omega) h2.2.2,Option.bind_some,Ah]
  by_cases hb:max (max (max (max x.f0.f0 (-x.f0.f0)) (max x.f0.f1 (-x.f0.f1))) (max x.f1.f0 (-x.f1.f0))) (max x.f1.f1 (-x.f1.f1)) > 268435456
  ·rw [if_pos hb,if_neg]
   rw [Bool.true_and,Bool.and_eq_true,Bool.and_eq_true,Bool.and_eq_true,jB,jB,jB,jB]
   omega
  ·rw [if_neg hb,if_pos]
   rw [Bool.true_and,Bool.and_eq_true,Bool.and_eq_true,Bool.and_eq_true,jB,jB,jB,jB]
   omega
theorem afC (x:jI) (w:World):Calls Try.prog 67 #[.agg #[.int .i64 x.f0.f0,.int .i64 x.f0.f1,.int .i64 x.f1.f0,.int .i64 x.f1.f1]] w (vP (.int .i64 (Bi x)) w):=fZ.calls 4 _ _ _ _ _ w (RG x)
def Bu (x:jI) (t:Int):Int:=if Bi x≠0 then Bi x else if mM t 0 1073741824 then 0 else 3
theorem TY (x:jI) (t:Int):ow.f 4 x.f0.f0 x.f0.f1 x.f1.f0 x.f1.f1 t = some (Bu x t):=by
 unfold ow.f Bu
 rw [RG,Option.bind_some,RF,Option.bind_some]
 by_cases h:Bi x = 0
 ·rw [if_pos h,if_neg (show ¬ (Bi x≠0) from fun h2=>h2 h)]
  cases mM t 0 1073741824 <;> rfl
 ·rw [if_neg h,if_pos h]
theorem Y4 (x:jI) (t:Int) (w:World):Calls Try.prog 114 #[.agg #[.int .i64 x.f0.f0,.int .i64 x.f0.f1,.int .i64 x.f1.f0,.int .i64 x.f1.f1],.int .i64 t] w (vP (.int .i64 (Bu x t)) w):=ow.calls 4 _ _ _ _ _ _ w (TY x t)
def QD (layers:Int) (c:M0):Bool:=mM c.f0 0 8 && decide (0≤c.f1) && (decide (layers < 0) || decide (c.f1 < layers))
def L8 (l:List M0) (layers:Int):Int:=if l.length > 64 then 6 else if l.all (QD layers) then 0 else 2
theorem aa3 (layers:Int) (l:List M0) (hl:l.length≤64):∀ (m i k:Nat),i+m = l.length→m < k→fH.l0 k layers l (l.length:Int) (i:Int) = some (if (l.drop i).all (QD layers) then 0 else 2):=by
 intro m
 induction m with
 |zero =>
  intro i k h hk
  obtain ⟨k,rfl⟩:∃ q,k = q+1:=⟨k - 1,by omega⟩
  rw [fH.l0,if_neg (by omega),List.drop_of_length_le (by omega)]
  rfl
 |succ m ih =>
  intro i k h hk
  obtain ⟨k,rfl⟩:∃ q,k = q+1:=⟨k - 1,by omega⟩
  have hi:i < l.length:=by omega
  have hr:pg l (i:Int) = l[i]:=by
   unfold pg
   rw [List.getD_eq_getElem?_getD,Int.toNat_natCast,List.getElem?_eq_getElem hi]
   rfl
  have hih:=ih (i+1) k (by omega) (by omega)
  rw [fH.l0,if_pos (by omega),if_pos (by omega),if_pos (by omega),hr,GM (by omega) (by omega),show ((i:Int)+1) = ((i+1:Nat):Int) by omega,hih,List.drop_eq_getElem_cons hi,List.all_cons]
  cases hb:QD layers l[i] with
  |true =>
   have hb2:QD layers l[i] = true:=hb
   unfold QD at hb2
   simp only [Bool.and_eq_true,Bool.or_eq_true,decide_eq_true_eq,jB] at hb2
   rw [Bool.true_and,if_neg (by omega),if_neg (by omega),if_neg (by omega)]
   by_cases h0:layers ≥ 0
   ·rw [if_pos h0,if_neg (by omega)]
   ·rw [if_neg h0]
  |false =>
   have hn:¬ ((0≤l[i].f0∧l[i].f0≤8)∧0≤l[i].f1∧(layers < 0∨l[i].f1 < layers)):=fun h2=>by
    have:QD layers l[i] = true:=by
     unfold QD
     simp only [Bool.and_eq_true,Bool.or_eq_true,decide_eq_true_eq,jB]
     exact ⟨⟨h2.1,h2.2.1⟩,h2.2.2⟩
    rw [this] at hb
    cases hb
   rw [Bool.false_and,if_neg (show ¬ (false = true) by decide)]
   by_cases a1:l[i].f0 < 0
   ·rw [if_pos a1]
   ·rw [if_neg a1]
    by_cases a2:l[i].f0 ≥ 9
    ·rw [if_pos a2]
    ·rw [if_neg a2]
     by_cases a3:l[i].f1 < 0
     ·rw [if_pos a3]
     ·rw [if_neg a3,if_pos (by omega),if_pos (by omega)]
theorem aa4 (l:List M0) (layers:Int):fH.f 66 l layers = some (L8 l layers):=by
 unfold fH.f L8
 by_cases h:l.length > 64
 ·rw [if_pos (by omega),if_pos h]
 ·rw [if_neg (by omega),if_neg h]
  have:=aa3 layers l (by omega) l.length 0 66 (by omega) (by omega)
  rw [List.drop_zero] at this
  exact this
theorem afD (A:Option Addr) (c:Nat) (l:List M0) (layers:Int) (w:World) (hC:Kd.C k33 w A l.length l) (hc:l.length≤c):Calls Try.prog 65 #[.slice A l.length c,.int .i64 layers] w (vP (.int .i64 (L8 l layers)) w):=fH.calls 66 _ _ _ _ _ w hC hc (aa4 l layers)
theorem QE (s:oH):(sH s = 0∧Hm s = true)∨sH s = 2:=by
 unfold sH
 cases Hm s
 ·exact .inr rfl
 ·exact .inl ⟨rfl,rfl⟩
theorem X3 (v:wW):(L6 v = 0∧QC v = true)∨L6 v = 2:=by
 unfold L6
 cases QC v
 ·exact .inr rfl
 ·exact .inl ⟨rfl,rfl⟩
theorem QQ {lo hi a b:Int}:xh lo hi a b = true↔(lo≤hi∧-1073741824≤lo∧hi≤1073741824)∧a≤lo∧hi≤b:=by unfold xh;simp only [Bool.and_eq_true,decide_eq_true_eq,xW];exact and_assoc
theorem J2 {s:oH} (h:Hm s = true):ZR s:=by
 unfold Hm at h
 simp only [Bool.and_eq_true,decide_eq_true_eq,jB,Bool.not_eq_true'] at h
 obtain ⟨⟨⟨⟨⟨⟨⟨⟨⟨h0,h1⟩,h2⟩,h3⟩,h4⟩,h5⟩,h6⟩,h7⟩,h8⟩,h9⟩:=h
 refine ⟨⟨h0,h1,h2,h3,h4,h5,h6⟩,h7,h8,fun c hc=>?_⟩
 have:=List.any_eq_false.1 h9 c hc
 unfold Jl at this
 simp only [Bool.not_eq_true,Bool.or_eq_false_iff,Bool.not_eq_false',QQ] at this
 omega
theorem afE {v:wW} (h:QC v = true):MG v:=by
 unfold QC at h
 simp only [Bool.and_eq_true,jB] at h
 exact ⟨h.1.1.1.1,h.1.1.1.2⟩
theorem PD {x:jI} (h:Bi x = 0):GL x:=by
 unfold Bi at h
 cases hb:K6 x with
 |false=>rw [hb] at h;cases h
 |true =>
  unfold K6 at hb
  simp only [Bool.and_eq_true,jB,xW] at hb
  unfold GL Qy
  omega
def xn (s:oH) (v:wW):Int:=if sH s≠0 then sH s else L6 v
theorem RH {s:oH} {v:wW} (h:xn s v = 0):ZR s∧MG v:=by
 unfold xn at h
 rcases QE s with ⟨h1,h2⟩|h1
 ·rw [if_neg (by omega)] at h
  rcases X3 v with ⟨h3,h4⟩|h3
  ·exact ⟨J2 h2,afE h4⟩
  ·omega
 ·rw [if_pos (by omega)] at h
  omega
def RI (s:oH) (v:wW) (E:Int) (w:World) (e:Ending) (w':World):Prop :=
 ∃ ptr,e = .returned (.tuple #[.pointer ptr,.int .i64 E])∧Below w.heap.size w w'∧((xn s v = 0∧∃ g,ptr = some ⟨g,0,none⟩∧w.heap.size≤g∧ma w' g s v)∨(xn s v≠0∧ptr = none))
set_option maxRecDepth 100000 in
set_option maxHeartbeats 4000000 in
theorem RJ (s:oH) (v:wW) (A7 A8:Option Addr) (c7 c8:Nat) (w:World) (h7:s.shores.length≤c7) (hC7:Kd.C Kd.bool w A7 s.shores.length s.shores) (h8:s.currents.length≤c8) (R4:Kd.C xK w A8 s.currents.length s.currents):
 Calls Try.prog 113 #[.agg #[.int .i64 s.nx,.int .i64 s.ny,.int .i64 s.cell,.int .i64 s.slot,.int .i64 s.slots,.int .i64 s.layers,.int .i64 s.most,.slice A7 s.shores.length c7,.slice A8 s.currents.length c8],.agg #[.int .i64 v.speed,.int .i64 v.dive,.int .i64 v.use.f0,.int .i64 v.use.f1,.int .i64 v.drift.f0,.int .i64 v.drift.f1,.int .i64 v.reserve]] w (RI s v (xn s v) w):=by
 have Dx:=Try.underlying25
 have KU:=Try.underlying29
 have apC:=Try.underlying110
 have HE:Hid (xn s v = if sH s≠0 then sH s else L6 v):=Lib.hid rfl
 go_enter Try.func113,Try.ntmps113
 go_wp2_with fail
 have m2:iT ((w.alloc (.cells #[.int .i64 s.nx,.int .i64 s.ny,.int .i64 s.cell,.int .i64 s.slot,.int .i64 s.slots,.int .i64 s.layers,.int .i64 s.most,.slice A7 s.shores.length c7,.slice A8 s.currents.length c8] 25)).alloc (.cells #[.int .i64 v.speed,.int .i64 v.dive,.int .i64 v.use.f0,.int .i64 v.use.f1,.int .i64 v.drift.f0,.int .i64 v.drift.f1,.int .i64 v.reserve] 29)) (w.heap.size) #[.int .i64 s.nx,.int .i64 s.ny,.int .i64 s.cell,.int .i64 s.slot,.int .i64 s.slots,.int .i64 s.layers,.int .i64 s.most,.slice A7 s.shores.length c7,.slice A8 s.currents.length c8] 25:=(af (by have h_:=fK w (.cells #[.int .i64 s.nx,.int .i64 s.ny,.int .i64 s.cell,.int .i64 s.slot,.int .i64 s.slots,.int .i64 s.layers,.int .i64 s.most,.slice A7 s.shores.length c7,.slice A8 s.currents.length c8] 25);first|exact h_|(simp only [World.size_alloc] at h_;exact h_)) _)
 have m3:iT ((w.alloc (.cells #[.int .i64 s.nx,.int .i64 s.ny,.int .i64 s.cell,.int .i64 s.slot,.int .i64 s.slots,.int .i64 s.layers,.int .i64 s.most,.slice A7 s.shores.length c7,.slice A8 s.currents.length c8] 25)).alloc (.cells #[.int .i64 v.speed,.int .i64 v.dive,.int .i64 v.use.f0,.int .i64 v.use.f1,.int .i64 v.drift.f0,.int .i64 v.drift.f1,.int .i64 v.reserve] 29)) (w.heap.size+1) #[.int .i64 v.speed,.int .i64 v.dive,.int .i64 v.use.f0,.int .i64 v.use.f1,.int .i64 v.drift.f0,.int .i64 v.drift.f1,.int .i64 v.reserve] 29:=(by have h_:=fK (w.alloc (.cells #[.int .i64 s.nx,.int .i64 s.ny,.int .i64 s.cell,.int .i64 s.slot,.int .i64 s.slots,.int .i64 s.layers,.int .i64 s.most,.slice A7 s.shores.length c7,.slice A8 s.currents.length c8] 25)) (.cells #[.int .i64 v.speed,.int .i64 v.dive,.int .i64 v.use.f0,.int .i64 v.use.f1,.int .i64 v.drift.f0,.int .i64 v.drift.f1,.int .i64 v.reserve] 29);first|exact h_|(simp only [World.size_alloc] at h_;exact h_))
 have mB:Below w.heap.size w ((w.alloc (.cells #[.int .i64 s.nx,.int .i64 s.ny,.int .i64 s.cell,.int .i64 s.slot,.int .i64 s.slots,.int .i64 s.layers,.int .i64 s.most,.slice A7 s.shores.length c7,.slice A8 s.currents.length c8] 25)).alloc (.cells #[.int .i64 v.speed,.int .i64 v.dive,.int .i64 v.use.f0,.int .i64 v.use.f1,.int .i64 v.drift.f0,.int .i64 v.drift.f1,.int .i64 v.reserve] 29)):=(au (au (Below.refl w.heap.size w) _) _)
 have qi:w.heap.size≤w.heap.size:=Nat.le_refl _
 generalize zx:((w.alloc (.cells #[.int .i64 s.nx,.int .i64 s.ny,.int .i64 s.cell,.int .i64 s.slot,.int .i64 s.slots,.int .i64 s.layers,.int .i64 s.most,.slice A7 s.shores.length c7,.slice A8 s.currents.length c8] 25)).alloc (.cells #[.int .i64 v.speed,.int .i64 v.dive,.int .i64 v.use.f0,.int .i64 v.use.f1,.int .i64 v.drift.f0,.int .i64 v.drift.f1,.int .i64 v.reserve] 29)) = W1 at m2 m3 mB ⊢
 clear zx
 generalize hg2:w.heap.size = g2 at m2 m3 ⊢
 have hG2:w.heap.size≤g2:=by omega
 generalize hg3:g2+1 = g3 at m3 ⊢
 have TS:g2≠g3:=by omega
 have ah4:g3≠g2:=TS.symm
 have hG3:w.heap.size≤g3:=by omega
 clear qi
 try clear hg3
 try clear hg2
 have DJ:w.heap.size≤W1.heap.size:=mB.size
 have hcon:=Qs s A7 A8 c7 c8 W1 h7 (Kd.dF hC7 mB) h8 (Kd.dF R4 mB)
 (with_reducible refine hcon.mono ?_)
 clear hcon
 rintro e W2 ⟨rfl,hb⟩
 replace m2:=ax m2 hb
 replace m3:=ax m3 hb
 replace mB:=ay mB hb
 clear hb
 have zy:w.heap.size≤W2.heap.size:=mB.size
 rcases QE s with ⟨h1,_⟩|h1
 case inr =>
  have HZ:Hid (xn s v = 2):=Lib.hid (HE.out.trans (by rw [h1];rfl))
  rw [h1]
  clear h1 HE
  go_wp2
  go_ret2
  exact ⟨none,by rw [HZ.out];rfl,mB,.inr ⟨by rw [HZ.out];decide,rfl⟩⟩
 case inl =>
  have HE2:=Lib.hid (HE.out.trans (if_neg (by omega)))
  clear HE
  rw [h1]
  clear h1
  have apD:=(aa m3 0).trans rfl
  have apE:=(aa m3 1).trans rfl
  have apF:=(aa m3 2).trans rfl
  have apG:=(aa m3 3).trans rfl
  have apH:=(aa m3 4).trans rfl
  have apI:=(aa m3 5).trans rfl
  have apJ:=(aa m3 6).trans rfl
  go_wp2_with fail
  clear apD
  clear apE
  clear apF
  clear apG
  clear apH
  clear apI
  clear apJ
  have hcon:=afB v W2
  (with_reducible refine hcon.mono ?_)
  clear hcon
  rintro e W3 ⟨rfl,hb⟩
  replace m2:=ax m2 hb
  replace m3:=ax m3 hb
  replace mB:=ay mB hb
  clear hb
  have Jc:w.heap.size≤W3.heap.size:=mB.size
  rcases X3 v with ⟨h1,_⟩|h1
  case inr =>
   have HE:=HE2
   have HZ:Hid (xn s v = 2):=Lib.hid (HE2.out.trans h1)
   rw [h1]
   clear h1 HE
   go_wp2
   go_ret2
   exact ⟨none,by rw [HZ.out];rfl,mB,.inr ⟨by rw [HZ.out];decide,rfl⟩⟩
  case inl =>
   have HZ:=Lib.hid (HE2.out.trans h1)
   rw [h1]
   clear h1 HE2
   have ao2:=(aa m2 0).trans rfl
   have ao3:=(aa m2 1).trans rfl
   have ao4:=(aa m2 2).trans rfl
   have ao5:=(aa m2 3).trans rfl
   have aF1:=(aa m2 4).trans rfl
   have aF2:=(aa m2 5).trans rfl
   have aF3:=(aa m2 6).trans rfl
   have aF4:=(aa m2 7).trans rfl
   have aF5:=(aa m2 8).trans rfl
   have apD:=(aa m3 0).trans rfl
   have apE:=(aa m3 1).trans rfl
   have apF:=(aa m3 2).trans rfl
   have apG:=(aa m3 3).trans rfl
   have apH:=(aa m3 4).trans rfl
   have apI:=(aa m3 5).trans rfl
   have apJ:=(aa m3 6).trans rfl
   go_wp2
   go_ret2
   exact ⟨_,by rw [HZ.out];rfl,au mB _,.inl ⟨HZ.out,W3.heap.size,rfl,mB.size,A7,c7,A8,c8,fK W3 (.cells #[.int .i64 s.nx,.int .i64 s.ny,.int .i64 s.cell,.int .i64 s.slot,.int .i64 s.slots,.int .i64 s.layers,.int .i64 s.most,.slice A7 s.shores.length c7,.slice A8 s.currents.length c8,.int .i64 v.speed,.int .i64 v.dive,.int .i64 v.use.f0,.int .i64 v.use.f1,.int .i64 v.drift.f0,.int .i64 v.drift.f1,.int .i64 v.reserve] 110),h7,Kd.dF hC7 (au mB _),h8,Kd.dF R4 (au mB _)⟩⟩
def AB (s:oH) (v:wW) (x:jI) (t:Int):Int:=if xn s v≠0 then xn s v else Bu x t
set_option maxRecDepth 100000 in
set_option maxHeartbeats 4000000 in
theorem Y5 (s:oH) (v:wW) (x:jI) (t:Int) (A7 A8:Option Addr) (c7 c8:Nat) (w:World) (h7:s.shores.length≤c7) (hC7:Kd.C Kd.bool w A7 s.shores.length s.shores) (h8:s.currents.length≤c8) (R4:Kd.C xK w A8 s.currents.length s.currents):
 Calls Try.prog 64 #[.agg #[.int .i64 s.nx,.int .i64 s.ny,.int .i64 s.cell,.int .i64 s.slot,.int .i64 s.slots,.int .i64 s.layers,.int .i64 s.most,.slice A7 s.shores.length c7,.slice A8 s.currents.length c8],.agg #[.int .i64 v.speed,.int .i64 v.dive,.int .i64 v.use.f0,.int .i64 v.use.f1,.int .i64 v.drift.f0,.int .i64 v.drift.f1,.int .i64 v.reserve],.agg #[.int .i64 x.f0.f0,.int .i64 x.f0.f1,.int .i64 x.f1.f0,.int .i64 x.f1.f1],.int .i64 t] w (RI s v (AB s v x t) w):=by
 have Dx:=Try.underlying25
 have KU:=Try.underlying29
 have vT:=Try.underlying31
 have HE:Hid (AB s v x t = if xn s v≠0 then xn s v else Bu x t):=Lib.hid rfl
 go_enter Try.func64,Try.ntmps64
 go_wp2_with fail
 have m4:iT (((w.alloc (.cells #[.int .i64 s.nx,.int .i64 s.ny,.int .i64 s.cell,.int .i64 s.slot,.int .i64 s.slots,.int .i64 s.layers,.int .i64 s.most,.slice A7 s.shores.length c7,.slice A8 s.currents.length c8] 25)).alloc (.cells #[.int .i64 v.speed,.int .i64 v.dive,.int .i64 v.use.f0,.int .i64 v.use.f1,.int .i64 v.drift.f0,.int .i64 v.drift.f1,.int .i64 v.reserve] 29)).alloc (.cells #[.int .i64 x.f0.f0,.int .i64 x.f0.f1,.int .i64 x.f1.f0,.int .i64 x.f1.f1] 31)) (w.heap.size) #[.int .i64 s.nx,.int .i64 s.ny,.int .i64 s.cell,.int .i64 s.slot,.int .i64 s.slots,.int .i64 s.layers,.int .i64 s.most,.slice A7 s.shores.length c7,.slice A8 s.currents.length c8] 25:=(af (af (by have h_:=fK w (.cells #[.int .i64 s.nx,.int .i64 s.ny,.int .i64 s.cell,.int .i64 s.slot,.int .i64 s.slots,.int .i64 s.layers,.int .i64 s.most,.slice A7 s.shores.length c7,.slice A8 s.currents.length c8] 25);first|exact h_|(simp only [World.size_alloc] at h_;exact h_)) _) _)
 have m5:iT (((w.alloc (.cells #[.int .i64 s.nx,.int .i64 s.ny,.int .i64 s.cell,.int .i64 s.slot,.int .i64 s.slots,.int .i64 s.layers,.int .i64 s.most,.slice A7 s.shores.length c7,.slice A8 s.currents.length c8] 25)).alloc (.cells #[.int .i64 v.speed,.int .i64 v.dive,.int .i64 v.use.f0,.int .i64 v.use.f1,.int .i64 v.drift.f0,.int .i64 v.drift.f1,.int .i64 v.reserve] 29)).alloc (.cells #[.int .i64 x.f0.f0,.int .i64 x.f0.f1,.int .i64 x.f1.f0,.int .i64 x.f1.f1] 31)) (w.heap.size+1) #[.int .i64 v.speed,.int .i64 v.dive,.int .i64 v.use.f0,.int .i64 v.use.f1,.int .i64 v.drift.f0,.int .i64 v.drift.f1,.int .i64 v.reserve] 29:=(af (by have h_:=fK (w.alloc (.cells #[.int .i64 s.nx,.int .i64 s.ny,.int .i64 s.cell,.int .i64 s.slot,.int .i64 s.slots,.int .i64 s.layers,.int .i64 s.most,.slice A7 s.shores.length c7,.slice A8 s.currents.length c8] 25)) (.cells #[.int .i64 v.speed,.int .i64 v.dive,.int .i64 v.use.f0,.int .i64 v.use.f1,.int .i64 v.drift.f0,.int .i64 v.drift.f1,.int .i64 v.reserve] 29);first|exact h_|(simp only [World.size_alloc] at h_;exact h_)) _)
 have m6:iT (((w.alloc (.cells #[.int .i64 s.nx,.int .i64 s.ny,.int .i64 s.cell,.int .i64 s.slot,.int .i64 s.slots,.int .i64 s.layers,.int .i64 s.most,.slice A7 s.shores.length c7,.slice A8 s.currents.length c8] 25)).alloc (.cells #[.int .i64 v.speed,.int .i64 v.dive,.int .i64 v.use.f0,.int .i64 v.use.f1,.int .i64 v.drift.f0,.int .i64 v.drift.f1,.int .i64 v.reserve] 29)).alloc (.cells #[.int .i64 x.f0.f0,.int .i64 x.f0.f1,.int .i64 x.f1.f0,.int .i64 x.f1.f1] 31)) (w.heap.size+1+1) #[.int .i64 x.f0.f0,.int .i64 x.f0.f1,.int .i64 x.f1.f0,.int .i64 x.f1.f1] 31:=(by have h_:=fK ((w.alloc (.cells #[.int .i64 s.nx,.int .i64 s.ny,.int .i64 s.cell,.int .i64 s.slot,.int .i64 s.slots,.int .i64 s.layers,.int .i64 s.most,.slice A7 s.shores.length c7,.slice A8 s.currents.length c8] 25)).alloc (.cells #[.int .i64 v.speed,.int .i64 v.dive,.int .i64 v.use.f0,.int .i64 v.use.f1,.int .i64 v.drift.f0,.int .i64 v.drift.f1,.int .i64 v.reserve] 29)) (.cells #[.int .i64 x.f0.f0,.int .i64 x.f0.f1,.int .i64 x.f1.f0,.int .i64 x.f1.f1] 31);first|exact h_|(simp only [World.size_alloc] at h_;exact h_))
 have mB:Below w.heap.size w (((w.alloc (.cells #[.int .i64 s.nx,.int .i64 s.ny,.int .i64 s.cell,.int .i64 s.slot,.int .i64 s.slots,.int .i64 s.layers,.int .i64 s.most,.slice A7 s.shores.length c7,.slice A8 s.currents.length c8] 25)).alloc (.cells #[.int .i64 v.speed,.int .i64 v.dive,.int .i64 v.use.f0,.int .i64 v.use.f1,.int .i64 v.drift.f0,.int .i64 v.drift.f1,.int .i64 v.reserve] 29)).alloc (.cells #[.int .i64 x.f0.f0,.int .i64 x.f0.f1,.int .i64 x.f1.f0,.int .i64 x.f1.f1] 31)):=(au (au (au (Below.refl w.heap.size w) _) _) _)
 have qi:w.heap.size≤w.heap.size:=Nat.le_refl _
 generalize zx:(((w.alloc (.cells #[.int .i64 s.nx,.int .i64 s.ny,.int .i64 s.cell,.int .i64 s.slot,.int .i64 s.slots,.int .i64 s.layers,.int .i64 s.most,.slice A7 s.shores.length c7,.slice A8 s.currents.length c8] 25)).alloc (.cells #[.int .i64 v.speed,.int .i64 v.dive,.int .i64 v.use.f0,.int .i64 v.use.f1,.int .i64 v.drift.f0,.int .i64 v.drift.f1,.int .i64 v.reserve] 29)).alloc (.cells #[.int .i64 x.f0.f0,.int .i64 x.f0.f1,.int .i64 x.f1.f0,.int .i64 x.f1.f1] 31)) = W1 at m4 m5 m6 mB ⊢
 clear zx
 generalize hg4:w.heap.size = g4 at m4 m5 m6 ⊢
 have hG4:w.heap.size≤g4:=by omega
 generalize hg5:g4+1 = g5 at m5 m6 ⊢
 have aiy:g4≠g5:=by omega
 have aB7:g5≠g4:=aiy.symm
 have hG5:w.heap.size≤g5:=by omega
 generalize hg6:g5+1 = g6 at m6 ⊢
 have TU:g4≠g6:=by omega
 have Bq:g5≠g6:=by omega
 have air:g6≠g4:=TU.symm
 have Qv:g6≠g5:=Bq.symm
 have Rv:w.heap.size≤g6:=by omega
 clear qi
 try clear hg6
 try clear hg5
 try clear hg4
 have DJ:w.heap.size≤W1.heap.size:=mB.size
 have hcon:=RJ s v A7 A8 c7 c8 W1 h7 (Kd.dF hC7 mB) h8 (Kd.dF R4 mB)
 (with_reducible refine hcon.mono ?_)
 clear hcon
 rintro e W2 ⟨ptr,rfl,hb,⟨h0,g,rfl,hg,hT⟩|⟨h0,rfl⟩⟩
 case inr =>
  have HZ:=Lib.hid (HE.out.trans (if_pos h0))
  replace mB:=ay mB hb
  clear hb HE
  have h00:=Lib.hid h0
  generalize hE_:xn s v = E0 at*
  have hE:=Lib.hid hE_
  clear hE_
  have hd:(E0 == 0) = false:=beq_eq_false_iff_ne.2 h0
  have hd2:(E0 != 0) = true:=by rw [bne,hd];rfl
  clear h0
  go_wp2
  go_ret2
  exact ⟨none,by rw [HZ.out];rfl,mB,.inr ⟨by rw [hE.out];exact h00.out,rfl⟩⟩
 case inl =>
  have HZ:=Lib.hid (HE.out.trans (if_neg (fun h=>h h0)))
  clear HE
  have hg0:w.heap.size≤g:=Nat.le_trans (m:=W1.heap.size) (by assumption) hg
  replace m4:=ax m4 hb
  replace m5:=ax m5 hb
  replace m6:=ax m6 hb
  replace mB:=ay mB hb
  clear hb
  have H0:=Lib.hid h0
  rw [h0]
  clear h0
  have zy:w.heap.size≤W2.heap.size:=mB.size
  have IM:=(aa m6 0).trans rfl
  have IP:=(aa m6 1).trans rfl
  have IQ:=(aa m6 2).trans rfl
  have IU:=(aa m6 3).trans rfl
  go_wp2_with fail
  clear IM
  clear IP
  clear IQ
  clear IU
  have hcon:=Y4 x t W2
  (with_reducible refine hcon.mono ?_)
  clear hcon
  rintro e W3 ⟨rfl,hb⟩
  replace hT:=hT.below hb
  replace m4:=ax m4 hb
  replace m5:=ax m5 hb
  replace m6:=ax m6 hb
  replace mB:=ay mB hb
  clear hb
  go_wp2
  go_ret2
  exact ⟨_,by rw [HZ.out];rfl,mB,.inl ⟨H0.out,g,rfl,hg0,hT⟩⟩
end Go.Proofs.Ytmhaiihjfgfaoaa.Gl
end
section
namespace Go.Proofs.Ytmhaiihjfgfaoaa.Gl
open Go.RowKit Go.Shelf Go.Proofs.YtmhaiihjfgfaoaaW.PrintWords Go.Proofs.YtmhaiihjfgfaoaaW.PrintLast Go.Proofs.YtmhaiihjfgfaoaaW.PrintMore Go.Proofs.Ytmhaiihjfgfaoaa.Pr Go.Proofs.YtmhaiihjfgfaoaaW.Round
set_option linter.unusedVariables false
set_option linter.unusedSimpArgs false
attribute [local go_sem] fo fq gu gz fu
theorem vK {a b:Int} (h:(if a≠0 then a else b) = 0):a = 0∧b = 0:=by
 by_cases h0:a = 0
 ·rw [if_neg (fun h=>h h0)] at h
  exact ⟨h0,h⟩
 ·rw [if_pos h0] at h
  exact absurd h h0
theorem afF {W:World} {b:Nat} {x y:Int} (h:W.heap[b]? = some (.cells #[.int .i64 x,.int .i64 y] 33 (0,0))):Kd.C k33 W (some ⟨b,0,none⟩) 1 [⟨x,y⟩]:=by
 refine ⟨rfl,by decide,fun _=>⟨⟨b,0,none⟩,rfl,fun j p hj=>?_⟩⟩
 match j,hj with
 |0,hj =>
  obtain rfl:(⟨x,y⟩:M0) = p:=by simpa using hj
  refine ⟨_,rfl,ahB W ⟨x,y⟩,fun i u hu=>?_⟩
  match i,hu with
  |0,hu=>exact ((aa h 0).trans (by simpa using hu))
  |1,hu=>exact ((aa h 1).trans (by simpa using hu))
theorem afG {hd layer layers:Int} (hl:1≤layers) (h:L8 [⟨hd,layer⟩] layers = 0):(0≤hd∧hd≤8)∧0≤layer∧layer < layers:=by
 unfold L8 at h
 cases hb:([⟨hd,layer⟩]:List M0).all (QD layers) with
 |false=>rw [hb] at h;simp at h
 |true =>
  simp only [List.all_cons,List.all_nil,Bool.and_true,QD,Bool.and_eq_true,Bool.or_eq_true,decide_eq_true_eq,jB] at hb
  omega
theorem RL {x:jI} {t:Int} (h:Bu x t = 0):GL x∧0≤t∧t≤1073741824:=by
 unfold Bu at h
 obtain ⟨h1,h2⟩:=vK h
 refine ⟨PD h1,?_⟩
 cases hb:mM t 0 1073741824 with
 |false=>rw [hb] at h2;simp at h2
 |true=>exact jB.1 hb
def xV (s:oH) (v:wW) (x:jI) (t hd layer:Int):Int:=if AB s v x t≠0 then AB s v x t else if L8 [⟨hd,layer⟩] s.layers≠0 then L8 [⟨hd,layer⟩] s.layers else DL s v x t
def uk (s:oH) (v:wW) (x:jI) (t hd layer:Int):jI:=if xV s v x t hd layer = 0 then zJ s v x t hd layer else z31
set_option maxRecDepth 100000 in
set_option maxHeartbeats 8000000 in
theorem aa5 (s:oH) (v:wW) (x:jI) (t hd layer:Int) (A7 A8:Option Addr) (c7 c8:Nat) (w:World) (h7:s.shores.length≤c7) (hC7:Kd.C Kd.bool w A7 s.shores.length s.shores) (h8:s.currents.length≤c8) (R4:Kd.C xK w A8 s.currents.length s.currents):
 Calls Try.prog 20 #[.agg #[.int .i64 s.nx,.int .i64 s.ny,.int .i64 s.cell,.int .i64 s.slot,.int .i64 s.slots,.int .i64 s.layers,.int .i64 s.most,.slice A7 s.shores.length c7,.slice A8 s.currents.length c8],.agg #[.int .i64 v.speed,.int .i64 v.dive,.int .i64 v.use.f0,.int .i64 v.use.f1,.int .i64 v.drift.f0,.int .i64 v.drift.f1,.int .i64 v.reserve],.agg #[.int .i64 x.f0.f0,.int .i64 x.f0.f1,.int .i64 x.f1.f0,.int .i64 x.f1.f1],.int .i64 t,.agg #[.int .i64 hd,.int .i64 layer]] w (vP (.tuple #[.agg #[.int .i64 (uk s v x t hd layer).f0.f0,.int .i64 (uk s v x t hd layer).f0.f1,.int .i64 (uk s v x t hd layer).f1.f0,.int .i64 (uk s v x t hd layer).f1.f1],.int .i64 (xV s v x t hd layer)]) w):=by
 have Dx:=Try.underlying25
 have KU:=Try.underlying29
 have vT:=Try.underlying31
 have Ze:=Try.underlying33
 have sU:=Try.underlying27
 have HE:Hid (xV s v x t hd layer = if AB s v x t≠0 then AB s v x t else if L8 [⟨hd,layer⟩] s.layers≠0 then L8 [⟨hd,layer⟩] s.layers else DL s v x t):=Lib.hid rfl
 have HV:Hid (uk s v x t hd layer = if xV s v x t hd layer = 0 then zJ s v x t hd layer else z31):=Lib.hid rfl
 go_enter Try.func20,Try.ntmps20
 go_wp2_with fail
 have m5:iT (((((w.alloc (.cells #[.int .i64 s.nx,.int .i64 s.ny,.int .i64 s.cell,.int .i64 s.slot,.int .i64 s.slots,.int .i64 s.layers,.int .i64 s.most,.slice A7 s.shores.length c7,.slice A8 s.currents.length c8] 25)).alloc (.cells #[.int .i64 v.speed,.int .i64 v.dive,.int .i64 v.use.f0,.int .i64 v.use.f1,.int .i64 v.drift.f0,.int .i64 v.drift.f1,.int .i64 v.reserve] 29)).alloc (.cells #[.int .i64 x.f0.f0,.int .i64 x.f0.f1,.int .i64 x.f1.f0,.int .i64 x.f1.f1] 31)).alloc (.cells #[.int .i64 hd,.int .i64 layer] 33)).alloc (.cells #[.int .i64 0,.int .i64 0,.int .i64 0,.int .i64 0] 31)) (w.heap.size) #[.int .i64 s.nx,.int .i64 s.ny,.int .i64 s.cell,.int .i64 s.slot,.int .i64 s.slots,.int .i64 s.layers,.int .i64 s.most,.slice A7 s.shores.length c7,.slice A8 s.currents.length c8] 25:=(af (af (af (af (by have h_:=fK w (.cells #[.int .i64 s.nx,.int .i64 s.ny,.int .i64 s.cell,.int .i64 s.slot,.int .i64 s.slots,.int .i64 s.layers,.int .i64 s.most,.slice A7 s.shores.length c7,.slice A8 s.currents.length c8] 25);first|exact h_|(simp only [World.size_alloc] at h_;exact h_)) _) _) _) _)
 have m6:iT (((((w.alloc (.cells #[.int .i64 s.nx,.int .i64 s.ny,.int .i64 s.cell,.int .i64 s.slot,.int .i64 s.slots,.int .i64 s.layers,.int .i64 s.most,.slice A7 s.shores.length c7,.slice A8 s.currents.length c8] 25)).alloc (.cells #[.int .i64 v.speed,.int .i64 v.dive,.int .i64 v.use.f0,.int .i64 v.use.f1,.int .i64 v.drift.f0,.int .i64 v.drift.f1,.int .i64 v.reserve] 29)).alloc (.cells #[.int .i64 x.f0.f0,.int .i64 x.f0.f1,.int .i64 x.f1.f0,.int .i64 x.f1.f1] 31)).alloc (.cells #[.int .i64 hd,.int .i64 layer] 33)).alloc (.cells #[.int .i64 0,.int .i64 0,.int .i64 0,.int .i64 0] 31)) (w.heap.size+1) #[.int .i64 v.speed,.int .i64 v.dive,.int .i64 v.use.f0,.int .i64 v.use.f1,.int .i64 v.drift.f0,.int .i64 v.drift.f1,.int .i64 v.reserve] 29:=(af (af (af (by have h_:=fK (w.alloc (.cells #[.int .i64 s.nx,.int .i64 s.ny,.int .i64 s.cell,.int .i64 s.slot,.int .i64 s.slots,.int .i64 s.layers,.int .i64 s.most,.slice A7 s.shores.length c7,.slice A8 s.currents.length c8] 25)) (.cells #[.int .i64 v.speed,.int .i64 v.dive,.int .i64 v.use.f0,.int .i64 v.use.f1,.int .i64 v.drift.f0,.int .i64 v.drift.f1,.int .i64 v.reserve] 29);first|exact h_|(simp only [World.size_alloc] at h_;exact h_)) _) _) _)
 have m7:iT (((((w.alloc (.cells #[.int .i64 s.nx,.int .i64 s.ny,.int .i64 s.cell,.int .i64 s.slot,.int .i64 s.slots,.int .i64 s.layers,.int .i64 s.most,.slice A7 s.shores.length c7,.slice A8 s.currents.length c8] 25)).alloc (.cells #[.int .i64 v.speed,.int .i64 v.dive,.int .i64 v.use.f0,.int .i64 v.use.f1,.int .i64 v.drift.f0,.int .i64 v.drift.f1,.int .i64 v.reserve] 29)).alloc (.cells #[.int .i64 x.f0.f0,.int .i64 x.f0.f1,.int .i64 x.f1.f0,.int .i64 x.f1.f1] 31)).alloc (.cells #[.int .i64 hd,.int .i64 layer] 33)).alloc (.cells #[.int .i64 0,.int .i64 0,.int .i64 0,.int .i64 0] 31)) (w.heap.size+1+1) #[.int .i64 x.f0.f0,.int .i64 x.f0.f1,.int .i64 x.f1.f0,.int .i64 x.f1.f1] 31:=(af (af (by have h_:=fK ((w.alloc (.cells #[.int .i64 s.nx,.int .i64 s.ny,.int .i64 s.cell,.int .i64 s.slot,.int .i64 s.slots,.int .i64 s.layers,.int .i64 s.most,.slice A7 s.shores.length c7,.slice A8 s.currents.length c8] 25)).alloc (.cells #[.int .i64 v.speed,.int .i64 v.dive,.int .i64 v.use.f0,.int .i64 v.use.f1,.int .i64 v.drift.f0,.int .i64 v.drift.f1,.int .i64 v.reserve] 29)) (.cells #[.int .i64 x.f0.f0,.int .i64 x.f0.f1,.int .i64 x.f1.f0,.int .i64 x.f1.f1] 31);first|exact h_|(simp only [World.size_alloc] at h_;exact h_)) _) _)
 have m9:iT (((((w.alloc (.cells #[.int .i64 s.nx,.int .i64 s.ny,.int .i64 s.cell,.int .i64 s.slot,.int .i64 s.slots,.int .i64 s.layers,.int .i64 s.most,.slice A7 s.shores.length c7,.slice A8 s.currents.length c8] 25)).alloc (.cells #[.int .i64 v.speed,.int .i64 v.dive,.int .i64 v.use.f0,.int .i64 v.use.f1,.int .i64 v.drift.f0,.int .i64 v.drift.f1,.int .i64 v.reserve] 29)).alloc (.cells #[.int .i64 x.f0.f0,.int .i64 x.f0.f1,.int .i64 x.f1.f0,.int .i64 x.f1.f1] 31)).alloc (.cells #[.int .i64 hd,.int .i64 layer] 33)).alloc (.cells #[.int .i64 0,.int .i64 0,.int .i64 0,.int .i64 0] 31)) (w.heap.size+1+1+1) #[.int .i64 hd,.int .i64 layer] 33:=(af (by have h_:=fK (((w.alloc (.cells #[.int .i64 s.nx,.int .i64 s.ny,.int .i64 s.cell,.int .i64 s.slot,.int .i64 s.slots,.int .i64 s.layers,.int .i64 s.most,.slice A7 s.shores.length c7,.slice A8 s.currents.length c8] 25)).alloc (.cells #[.int .i64 v.speed,.int .i64 v.dive,.int .i64 v.use.f0,.int .i64 v.use.f1,.int .i64 v.drift.f0,.int .i64 v.drift.f1,.int .i64 v.reserve] 29)).alloc (.cells #[.int .i64 x.f0.f0,.int .i64 x.f0.f1,.int .i64 x.f1.f0,.int .i64 x.f1.f1] 31)) (.cells #[.int .i64 hd,.int .i64 layer] 33);first|exact h_|(simp only [World.size_alloc] at h_;exact h_)) _)
 have m10:iT (((((w.alloc (.cells #[.int .i64 s.nx,.int .i64 s.ny,.int .i64 s.cell,.int .i64 s.slot,.int .i64 s.slots,.int .i64 s.layers,.int .i64 s.most,.slice A7 s.shores.length c7,.slice A8 s.currents.length c8] 25)).alloc (.cells #[.int .i64 v.speed,.int .i64 v.dive,.int .i64 v.use.f0,.int .i64 v.use.f1,.int .i64 v.drift.f0,.int .i64 v.drift.f1,.int .i64 v.reserve] 29)).alloc (.cells #[.int .i64 x.f0.f0,.int .i64 x.f0.f1,.int .i64 x.f1.f0,.int .i64 x.f1.f1] 31)).alloc (.cells #[.int .i64 hd,.int .i64 layer] 33)).alloc (.cells #[.int .i64 0,.int .i64 0,.int .i64 0,.int .i64 0] 31)) (w.heap.size+1+1+1+1) #[.int .i64 0,.int .i64 0,.int .i64 0,.int .i64 0] 31:=(by have h_:=fK ((((w.alloc (.cells #[.int .i64 s.nx,.int .i64 s.ny,.int .i64 s.cell,.int .i64 s.slot,.int .i64 s.slots,.int .i64 s.layers,.int .i64 s.most,.slice A7 s.shores.length c7,.slice A8 s.currents.length c8] 25)).alloc (.cells #[.int .i64 v.speed,.int .i64 v.dive,.int .i64 v.use.f0,.int .i64 v.use.f1,.int .i64 v.drift.f0,.int .i64 v.drift.f1,.int .i64 v.reserve] 29)).alloc (.cells #[.int .i64 x.f0.f0,.int .i64 x.f0.f1,.int .i64 x.f1.f0,.int .i64 x.f1.f1] 31)).alloc (.cells #[.int .i64 hd,.int .i64 layer] 33)) (.cells #[.int .i64 0,.int .i64 0,.int .i64 0,.int .i64 0] 31);first|exact h_|(simp only [World.size_alloc] at h_;exact h_))
 have mB:Below w.heap.size w (((((w.alloc (.cells #[.int .i64 s.nx,.int .i64 s.ny,.int .i64 s.cell,.int .i64 s.slot,.int .i64 s.slots,.int .i64 s.layers,.int .i64 s.most,.slice A7 s.shores.length c7,.slice A8 s.currents.length c8] 25)).alloc (.cells #[.int .i64 v.speed,.int .i64 v.dive,.int .i64 v.use.f0,.int .i64 v.use.f1,.int .i64 v.drift.f0,.int .i64 v.drift.f1,.int .i64 v.reserve] 29)).alloc (.cells #[.int .i64 x.f0.f0,.int .i64 x.f0.f1,.int .i64 x.f1.f0,.int .i64 x.f1.f1] 31)).alloc (.cells #[.int .i64 hd,.int .i64 layer] 33)).alloc (.cells #[.int .i64 0,.int .i64 0,.int .i64 0,.int .i64 0] 31)):=(au (au (au (au (au (Below.refl w.heap.size w) _) _) _) _) _)
 have qi:w.heap.size≤w.heap.size:=Nat.le_refl _
 generalize zx:(((((w.alloc (.cells #[.int .i64 s.nx,.int .i64 s.ny,.int .i64 s.cell,.int .i64 s.slot,.int .i64 s.slots,.int .i64 s.layers,.int .i64 s.most,.slice A7 s.shores.length c7,.slice A8 s.currents.length c8] 25)).alloc (.cells #[.int .i64 v.speed,.int .i64 v.dive,.int .i64 v.use.f0,.int .i64 v.use.f1,.int .i64 v.drift.f0,.int .i64 v.drift.f1,.int .i64 v.reserve] 29)).alloc (.cells #[.int .i64 x.f0.f0,.int .i64 x.f0.f1,.int .i64 x.f1.f0,.int .i64 x.f1.f1] 31)).alloc (.cells #[.int .i64 hd,.int .i64 layer] 33)).alloc (.cells #[.int .i64 0,.int .i64 0,.int .i64 0,.int .i64 0] 31)) = W1 at m5 m6 m7 m9 m10 mB ⊢
 clear zx
 generalize hg5:w.heap.size = g5 at m5 m6 m7 m9 m10 ⊢
 have hG5:w.heap.size≤g5:=by omega
 generalize hg6:g5+1 = g6 at m6 m7 m9 m10 ⊢
 have Bq:g5≠g6:=by omega
 have Qv:g6≠g5:=Bq.symm
 have Rv:w.heap.size≤g6:=by omega
 generalize hg7:g6+1 = g7 at m7 m9 m10 ⊢
 have LH:g5≠g7:=by omega
 have TV:g6≠g7:=by omega
 have aau:g7≠g5:=LH.symm
 have aiu:g7≠g6:=TV.symm
 have hG7:w.heap.size≤g7:=by omega
 generalize hg9:g7+1 = g9 at m9 m10 ⊢
 have TQ:g5≠g9:=by omega
 have LY:g6≠g9:=by omega
 have LM:g7≠g9:=by omega
 have ah3:g9≠g5:=TQ.symm
 have aaU:g9≠g6:=LY.symm
 have aax:g9≠g7:=LM.symm
 have hG9:w.heap.size≤g9:=by omega
 generalize Qw:g9+1 = g10 at m10 ⊢
 have mU:g5≠g10:=by omega
 have mV:g6≠g10:=by omega
 have GK:g7≠g10:=by omega
 have Qz:g9≠g10:=by omega
 have KR:g10≠g5:=mU.symm
 have KS:g10≠g6:=mV.symm
 have X0:g10≠g7:=GK.symm
 have afy:g10≠g9:=Qz.symm
 have jl:w.heap.size≤g10:=by omega
 clear qi
 try clear Qw
 try clear hg9
 try clear hg7
 try clear hg6
 try clear hg5
 have DJ:w.heap.size≤W1.heap.size:=mB.size
 have hbg:AB s v x t = if xn s v≠0 then xn s v else Bu x t:=rfl
 have HBG:=Lib.hid hbg
 clear hbg
 have hcon:=Y5 s v x t A7 A8 c7 c8 W1 h7 (Kd.dF hC7 mB) h8 (Kd.dF R4 mB)
 (with_reducible refine hcon.mono ?_)
 clear hcon
 rintro e W2 ⟨ptr,rfl,hb,hpt⟩
 replace m5:=ax m5 hb
 replace m6:=ax m6 hb
 replace m7:=ax m7 hb
 replace m9:=ax m9 hb
 replace m10:=ax m10 hb
 replace mB:=ay mB hb
 clear hb
 have zy:w.heap.size≤W2.heap.size:=mB.size
 generalize hE_:AB s v x t = E0 at*
 have HE0:=Lib.hid hE_
 clear hE_
 by_cases h0:E0 = 0
 case neg =>
  have HZ:Hid (xV s v x t hd layer = E0):=Lib.hid (HE.out.trans (if_pos h0))
  have Br:Hid (uk s v x t hd layer = z31):=Lib.hid (HV.out.trans (if_neg (by rw [HZ.out];exact h0)))
  clear HV
  have hd1:(E0 == 0) = false:=beq_eq_false_iff_ne.2 h0
  have hd2:(E0 != 0) = true:=by rw [bne,hd1];rfl
  clear h0 hpt HE
  have vF:=(aa m10 0).trans rfl
  have vG:=(aa m10 1).trans rfl
  have vH:=(aa m10 2).trans rfl
  have vI:=(aa m10 3).trans rfl
  have zC:=ae m10 0
  have zD:=ae m10 1
  have zF:=ae m10 2
  have zG:=ae m10 3
  go_wp2
  exact bodyPost_ret (iw rfl _ _ g10 31 #[.int .i64 0,.int .i64 0,.int .i64 0,.int .i64 0] (0,0) _ rfl (aW (aW (aW (aW m10 0 (.int .i64 0) rfl) 1 (.int .i64 0) rfl) 2 (.int .i64 0) rfl) 3 (.int .i64 0) rfl) Try.underlying31 rfl (by kernel_rfl)) rfl ⟨by rw [Br.out,HZ.out];rfl,(Below.setCell (p:=⟨g10,3,none⟩) (Below.setCell (p:=⟨g10,2,none⟩) (Below.setCell (p:=⟨g10,1,none⟩) (Below.setCell (p:=⟨g10,0,none⟩) mB jl _) jl _) jl _) jl _)⟩
 case pos =>
  have HE2:=Lib.hid (HE.out.trans (if_neg (fun h=>h h0)))
  clear HE
  have hb0:=HBG.out.symm.trans h0
  obtain ⟨ht0,hp0⟩:=vK hb0
  obtain ⟨hbx,aB8,aF6⟩:=RL hp0
  obtain ⟨hSV,hVN⟩:=RH ht0
  rcases hpt with ⟨_,g,rfl,hg,hT⟩|⟨hbad,_⟩
  case inr=>exact absurd ht0 hbad
  case inl =>
   subst h0
   clear hb0 ht0 hp0 HBG
   have aay:=(aa m9 0).trans rfl
   have aaz:=(aa m9 1).trans rfl
   have GA:∀ o_,(W2.alloc o_).cell? ⟨g5,0,none⟩ = some (.int .i64 s.nx):=fun o_=>(aa (af m5 o_) 0).trans rfl
   have II:∀ o_,(W2.alloc o_).cell? ⟨g5,1,none⟩ = some (.int .i64 s.ny):=fun o_=>(aa (af m5 o_) 1).trans rfl
   have QA:∀ o_,(W2.alloc o_).cell? ⟨g5,2,none⟩ = some (.int .i64 s.cell):=fun o_=>(aa (af m5 o_) 2).trans rfl
   have QB:∀ o_,(W2.alloc o_).cell? ⟨g5,3,none⟩ = some (.int .i64 s.slot):=fun o_=>(aa (af m5 o_) 3).trans rfl
   have TZ:∀ o_,(W2.alloc o_).cell? ⟨g5,4,none⟩ = some (.int .i64 s.slots):=fun o_=>(aa (af m5 o_) 4).trans rfl
   have T9:∀ o_,(W2.alloc o_).cell? ⟨g5,5,none⟩ = some (.int .i64 s.layers):=fun o_=>(aa (af m5 o_) 5).trans rfl
   have Ua:∀ o_,(W2.alloc o_).cell? ⟨g5,6,none⟩ = some (.int .i64 s.most):=fun o_=>(aa (af m5 o_) 6).trans rfl
   have Ub:∀ o_,(W2.alloc o_).cell? ⟨g5,7,none⟩ = some (.slice A7 s.shores.length c7):=fun o_=>(aa (af m5 o_) 7).trans rfl
   have Uc:∀ o_,(W2.alloc o_).cell? ⟨g5,8,none⟩ = some (.slice A8 s.currents.length c8):=fun o_=>(aa (af m5 o_) 8).trans rfl
   go_wp2_with fail
   clear GA
   clear II
   clear QA
   clear QB
   clear TZ
   clear T9
   clear Ua
   clear Ub
   clear Uc
   clear aay
   clear aaz
   replace hT:=hT.below (au (Below.refl _ W2) (.cells #[.int .i64 hd,.int .i64 layer] 33))
   have LJ:=aU m5
   have Qx:=aU m6
   have aav:=aU m7
   have aB9:=aU m9
   have LX:=aU m10
   have mc:iT (W2.alloc (.cells #[.int .i64 hd,.int .i64 layer] 33)) (W2.heap.size) #[.int .i64 hd,.int .i64 layer] 33:=(by have h_:=fK W2 (.cells #[.int .i64 hd,.int .i64 layer] 33);first|exact h_|(simp only [World.size_alloc] at h_;exact h_))
   replace m5:iT (W2.alloc (.cells #[.int .i64 hd,.int .i64 layer] 33)) g5 #[.int .i64 s.nx,.int .i64 s.ny,.int .i64 s.cell,.int .i64 s.slot,.int .i64 s.slots,.int .i64 s.layers,.int .i64 s.most,.slice A7 s.shores.length c7,.slice A8 s.currents.length c8] 25:=(af m5 _)
   replace m6:iT (W2.alloc (.cells #[.int .i64 hd,.int .i64 layer] 33)) g6 #[.int .i64 v.speed,.int .i64 v.dive,.int .i64 v.use.f0,.int .i64 v.use.f1,.int .i64 v.drift.f0,.int .i64 v.drift.f1,.int .i64 v.reserve] 29:=(af m6 _)
   replace m7:iT (W2.alloc (.cells #[.int .i64 hd,.int .i64 layer] 33)) g7 #[.int .i64 x.f0.f0,.int .i64 x.f0.f1,.int .i64 x.f1.f0,.int .i64 x.f1.f1] 31:=(af m7 _)
   replace m9:iT (W2.alloc (.cells #[.int .i64 hd,.int .i64 layer] 33)) g9 #[.int .i64 hd,.int .i64 layer] 33:=(af m9 _)
   replace m10:iT (W2.alloc (.cells #[.int .i64 hd,.int .i64 layer] 33)) g10 #[.int .i64 0,.int .i64 0,.int .i64 0,.int .i64 0] 31:=(af m10 _)
   replace mB:Below w.heap.size w (W2.alloc (.cells #[.int .i64 hd,.int .i64 layer] 33)):=(au mB _)
   have qi:w.heap.size≤W2.heap.size:=zy
   generalize zx:(W2.alloc (.cells #[.int .i64 hd,.int .i64 layer] 33)) = W3 at m5 m6 m7 m9 m10 mc mB hT ⊢
   clear zx
   generalize hgc:W2.heap.size = gc at mc ⊢
   have aiz:g5≠gc:=by omega
   have aiA:g6≠gc:=by omega
   have aiB:g7≠gc:=by omega
   have aiC:g9≠gc:=by omega
   have afH:g10≠gc:=by omega
   have aCa:gc≠g5:=aiz.symm
   have aCb:gc≠g6:=aiA.symm
   have aCc:gc≠g7:=aiB.symm
   have aCd:gc≠g9:=aiC.symm
   have axn:gc≠g10:=afH.symm
   have hGc:w.heap.size≤gc:=by omega
   clear qi LJ Qx aav aB9 LX
   try clear hgc
   have Jc:w.heap.size≤W3.heap.size:=mB.size
   have hcon:=afD (some ⟨gc,0,none⟩) 1 [⟨hd,layer⟩] s.layers W3 (afF mc) (Nat.le_refl 1)
   dsimp only [List.length_cons,List.length_nil,Nat.zero_add] at hcon
   (with_reducible refine hcon.mono ?_)
   clear hcon
   rintro e W4 ⟨rfl,hb⟩
   replace hT:=hT.below hb
   replace m5:=ax m5 hb
   replace m6:=ax m6 hb
   replace m7:=ax m7 hb
   replace m9:=ax m9 hb
   replace m10:=ax m10 hb
   replace mc:=ax mc hb
   replace mB:=ay mB hb
   clear hb
   have Rp:w.heap.size≤W4.heap.size:=mB.size
   have hc1:=afG (hd:=hd) (layer:=layer) hSV.n.layers.1
   generalize L8 [⟨hd,layer⟩] s.layers = E1 at*
   by_cases h1:E1 = 0
   case neg =>
    have HZ:Hid (xV s v x t hd layer = E1):=Lib.hid (HE2.out.trans (if_pos h1))
    have Br:Hid (uk s v x t hd layer = z31):=Lib.hid (HV.out.trans (if_neg (by rw [HZ.out];exact h1)))
    clear HV
    have hd1:(E1 == 0) = false:=beq_eq_false_iff_ne.2 h1
    have hd2:(E1 != 0) = true:=by rw [bne,hd1];rfl
    clear h1 hc1 HE2
    have vF:=(aa m10 0).trans rfl
    have vG:=(aa m10 1).trans rfl
    have vH:=(aa m10 2).trans rfl
    have vI:=(aa m10 3).trans rfl
    have zC:=ae m10 0
    have zD:=ae m10 1
    have zF:=ae m10 2
    have zG:=ae m10 3
    go_wp2
    exact bodyPost_ret (iw rfl _ _ g10 31 #[.int .i64 0,.int .i64 0,.int .i64 0,.int .i64 0] (0,0) _ rfl (aW (aW (aW (aW m10 0 (.int .i64 0) rfl) 1 (.int .i64 0) rfl) 2 (.int .i64 0) rfl) 3 (.int .i64 0) rfl) Try.underlying31 rfl (by kernel_rfl)) rfl ⟨by rw [Br.out,HZ.out];rfl,(Below.setCell (p:=⟨g10,3,none⟩) (Below.setCell (p:=⟨g10,2,none⟩) (Below.setCell (p:=⟨g10,1,none⟩) (Below.setCell (p:=⟨g10,0,none⟩) mB jl _) jl _) jl _) jl _)⟩
   case pos =>
    obtain ⟨⟨hh0,hh1⟩,hl0,hl1⟩:=hc1 h1
    have HE3:=Lib.hid (HE2.out.trans (if_neg (fun h=>h h1)))
    clear HE2 hc1
    subst h1
    have aiv:=(aa m7 0).trans rfl
    have aiw:=(aa m7 1).trans rfl
    have aCe:=(aa m7 2).trans rfl
    have aCf:=(aa m7 3).trans rfl
    have aay:=(aa m9 0).trans rfl
    have aaz:=(aa m9 1).trans rfl
    go_wp2_with fail
    clear aiv
    clear aiw
    clear aCe
    clear aCf
    clear aay
    clear aaz
    have hcon:=aaY g s v x t hd layer W4 hT hSV hVN hbx aB8 (by omega) hh0 hh1 hl0 hl1
    (with_reducible refine hcon.mono ?_)
    clear hcon
    rintro e W5 ⟨rfl,hb⟩
    replace m5:=ax m5 hb
    replace m6:=ax m6 hb
    replace m7:=ax m7 hb
    replace m9:=ax m9 hb
    replace m10:=ax m10 hb
    replace mc:=ax mc hb
    replace mB:=ay mB hb
    clear hb
    have XG:w.heap.size≤W5.heap.size:=mB.size
    have Br:Hid (uk s v x t hd layer = zJ s v x t hd layer):=Lib.hid (by rw [HV.out,HE3.out];by_cases hz:DL s v x t = 0;exact if_pos hz;rw [if_neg hz];unfold zJ;rw [if_neg hz])
    clear HV
    generalize zJ s v x t hd layer = Y at*
    have vF:=(aa m10 0).trans rfl
    have vG:=(aa m10 1).trans rfl
    have vH:=(aa m10 2).trans rfl
    have vI:=(aa m10 3).trans rfl
    have zC:=ae m10 0
    have zD:=ae m10 1
    have zF:=ae m10 2
    have zG:=ae m10 3
    go_wp2
    exact bodyPost_ret (iw rfl _ _ g10 31 #[.int .i64 Y.f0.f0,.int .i64 Y.f0.f1,.int .i64 Y.f1.f0,.int .i64 Y.f1.f1] (0,0) _ rfl (aW (aW (aW (aW m10 0 (.int .i64 Y.f0.f0) rfl) 1 (.int .i64 Y.f0.f1) rfl) 2 (.int .i64 Y.f1.f0) rfl) 3 (.int .i64 Y.f1.f1) rfl) Try.underlying31 rfl (by kernel_rfl)) rfl ⟨by rw [Br.out,HE3.out];rfl,(Below.setCell (p:=⟨g10,3,none⟩) (Below.setCell (p:=⟨g10,2,none⟩) (Below.setCell (p:=⟨g10,1,none⟩) (Below.setCell (p:=⟨g10,0,none⟩) mB jl _) jl _) jl _) jl _)⟩
end Go.Proofs.Ytmhaiihjfgfaoaa.Gl
end
section
namespace Go.Proofs.Ytmhaiihjfgfaoaa.Gl
open Go.RowKit Go.Shelf Go.Proofs.YtmhaiihjfgfaoaaW.PrintWords Go.Proofs.YtmhaiihjfgfaoaaW.PrintLast Go.Proofs.YtmhaiihjfgfaoaaW.PrintMore Go.Proofs.Ytmhaiihjfgfaoaa.Pr Go.Proofs.YtmhaiihjfgfaoaaW.Round
set_option linter.unusedVariables false
set_option linter.unusedSimpArgs false
attribute [local go_sem] fo fq gu gz fu
def Mv (s:oH) (x:jI) (layer t u:Int):Int:=if sH s≠0 then sH s else if Bi x≠0 then 2 else if layer < 0∨layer ≥ s.layers then 3 else if t < 0∨t ≥ u then 2 else if (ib s x && nA s t u) = true then 0 else 5
def GX (s:oH) (x:jI) (layer t u:Int):jI:=if Mv s x layer t u = 0 then Mc s x layer t u else z31
def afI:wW:=⟨0,0,⟨0,0⟩,⟨0,0⟩,0⟩
theorem afJ (x:jI):Bi x = 0∨Bi x = 2:=by
 unfold Bi
 cases K6 x
 ·exact .inr rfl
 ·exact .inl rfl
theorem RN {s:oH} {x:jI} (hS:Ar s) (hx:GL x) (h:ib s x = true):Jd s x:=by
 unfold ib at h
 simp only [Bool.and_eq_true,decide_eq_true_eq] at h
 have p2:=iV (show 0≤s.nx by have:=hS.nx;omega) hS.nx.2 (show 0≤s.cell by have:=hS.cell;omega) hS.cell.2
 have p3:=iV (show 0≤s.ny by have:=hS.ny;omega) hS.ny.2 (show 0≤s.cell by have:=hS.cell;omega) hS.cell.2
 obtain ⟨⟨x0,x1,x2,x3⟩,x4,x5⟩:=hx
 unfold Jd
 omega
set_option maxRecDepth 100000 in
set_option maxHeartbeats 8000000 in
theorem aiD (s:oH) (x:jI) (layer t u:Int) (A7 A8:Option Addr) (c7 c8:Nat) (w:World) (h7:s.shores.length≤c7) (hC7:Kd.C Kd.bool w A7 s.shores.length s.shores) (h8:s.currents.length≤c8) (R4:Kd.C xK w A8 s.currents.length s.currents):
 Calls Try.prog 23 #[.agg #[.int .i64 s.nx,.int .i64 s.ny,.int .i64 s.cell,.int .i64 s.slot,.int .i64 s.slots,.int .i64 s.layers,.int .i64 s.most,.slice A7 s.shores.length c7,.slice A8 s.currents.length c8],.agg #[.int .i64 x.f0.f0,.int .i64 x.f0.f1,.int .i64 x.f1.f0,.int .i64 x.f1.f1],.int .i64 layer,.int .i64 t,.int .i64 u] w (vP (.tuple #[.agg #[.int .i64 (GX s x layer t u).f0.f0,.int .i64 (GX s x layer t u).f0.f1,.int .i64 (GX s x layer t u).f1.f0,.int .i64 (GX s x layer t u).f1.f1],.int .i64 (Mv s x layer t u)]) w):=by
 have Dx:=Try.underlying25
 have KU:=Try.underlying29
 have vT:=Try.underlying31
 have Yt:=Try.underlying40
 have sU:=Try.underlying27
 have apC:=Try.underlying110
 have HE:Hid (Mv s x layer t u = if sH s≠0 then sH s else if Bi x≠0 then 2 else if layer < 0∨layer ≥ s.layers then 3 else if t < 0∨t ≥ u then 2 else if (ib s x && nA s t u) = true then 0 else 5):=Lib.hid rfl
 have HV:Hid (GX s x layer t u = if Mv s x layer t u = 0 then Mc s x layer t u else z31):=Lib.hid rfl
 go_enter Try.func23,Try.ntmps23
 go_wp2_with fail
 have m5:iT ((((w.alloc (.cells #[.int .i64 s.nx,.int .i64 s.ny,.int .i64 s.cell,.int .i64 s.slot,.int .i64 s.slots,.int .i64 s.layers,.int .i64 s.most,.slice A7 s.shores.length c7,.slice A8 s.currents.length c8] 25)).alloc (.cells #[.int .i64 x.f0.f0,.int .i64 x.f0.f1,.int .i64 x.f1.f0,.int .i64 x.f1.f1] 31)).alloc (.cells #[.int .i64 0,.int .i64 0,.int .i64 0,.int .i64 0] 40)).alloc (.cells #[.int .i64 s.nx,.int .i64 s.ny,.int .i64 s.cell,.int .i64 s.slot,.int .i64 s.slots,.int .i64 s.layers,.int .i64 s.most,.slice A7 s.shores.length c7,.slice A8 s.currents.length c8,.int .i64 0,.int .i64 0,.int .i64 0,.int .i64 0,.int .i64 0,.int .i64 0,.int .i64 0] 110)) (w.heap.size) #[.int .i64 s.nx,.int .i64 s.ny,.int .i64 s.cell,.int .i64 s.slot,.int .i64 s.slots,.int .i64 s.layers,.int .i64 s.most,.slice A7 s.shores.length c7,.slice A8 s.currents.length c8] 25:=(af (af (af (by have h_:=fK w (.cells #[.int .i64 s.nx,.int .i64 s.ny,.int .i64 s.cell,.int .i64 s.slot,.int .i64 s.slots,.int .i64 s.layers,.int .i64 s.most,.slice A7 s.shores.length c7,.slice A8 s.currents.length c8] 25);first|exact h_|(simp only [World.size_alloc] at h_;exact h_)) _) _) _)
 have m6:iT ((((w.alloc (.cells #[.int .i64 s.nx,.int .i64 s.ny,.int .i64 s.cell,.int .i64 s.slot,.int .i64 s.slots,.int .i64 s.layers,.int .i64 s.most,.slice A7 s.shores.length c7,.slice A8 s.currents.length c8] 25)).alloc (.cells #[.int .i64 x.f0.f0,.int .i64 x.f0.f1,.int .i64 x.f1.f0,.int .i64 x.f1.f1] 31)).alloc (.cells #[.int .i64 0,.int .i64 0,.int .i64 0,.int .i64 0] 40)).alloc (.cells #[.int .i64 s.nx,.int .i64 s.ny,.int .i64 s.cell,.int .i64 s.slot,.int .i64 s.slots,.int .i64 s.layers,.int .i64 s.most,.slice A7 s.shores.length c7,.slice A8 s.currents.length c8,.int .i64 0,.int .i64 0,.int .i64 0,.int .i64 0,.int .i64 0,.int .i64 0,.int .i64 0] 110)) (w.heap.size+1) #[.int .i64 x.f0.f0,.int .i64 x.f0.f1,.int .i64 x.f1.f0,.int .i64 x.f1.f1] 31:=(af (af (by have h_:=fK (w.alloc (.cells #[.int .i64 s.nx,.int .i64 s.ny,.int .i64 s.cell,.int .i64 s.slot,.int .i64 s.slots,.int .i64 s.layers,.int .i64 s.most,.slice A7 s.shores.length c7,.slice A8 s.currents.length c8] 25)) (.cells #[.int .i64 x.f0.f0,.int .i64 x.f0.f1,.int .i64 x.f1.f0,.int .i64 x.f1.f1] 31);first|exact h_|(simp only [World.size_alloc] at h_;exact h_)) _) _)
 have m10:iT ((((w.alloc (.cells #[.int .i64 s.nx,.int .i64 s.ny,.int .i64 s.cell,.int .i64 s.slot,.int .i64 s.slots,.int .i64 s.layers,.int .i64 s.most,.slice A7 s.shores.length c7,.slice A8 s.currents.length c8] 25)).alloc (.cells #[.int .i64 x.f0.f0,.int .i64 x.f0.f1,.int .i64 x.f1.f0,.int .i64 x.f1.f1] 31)).alloc (.cells #[.int .i64 0,.int .i64 0,.int .i64 0,.int .i64 0] 40)).alloc (.cells #[.int .i64 s.nx,.int .i64 s.ny,.int .i64 s.cell,.int .i64 s.slot,.int .i64 s.slots,.int .i64 s.layers,.int .i64 s.most,.slice A7 s.shores.length c7,.slice A8 s.currents.length c8,.int .i64 0,.int .i64 0,.int .i64 0,.int .i64 0,.int .i64 0,.int .i64 0,.int .i64 0] 110)) (w.heap.size+1+1) #[.int .i64 0,.int .i64 0,.int .i64 0,.int .i64 0] 40:=(af (by have h_:=fK ((w.alloc (.cells #[.int .i64 s.nx,.int .i64 s.ny,.int .i64 s.cell,.int .i64 s.slot,.int .i64 s.slots,.int .i64 s.layers,.int .i64 s.most,.slice A7 s.shores.length c7,.slice A8 s.currents.length c8] 25)).alloc (.cells #[.int .i64 x.f0.f0,.int .i64 x.f0.f1,.int .i64 x.f1.f0,.int .i64 x.f1.f1] 31)) (.cells #[.int .i64 0,.int .i64 0,.int .i64 0,.int .i64 0] 40);first|exact h_|(simp only [World.size_alloc] at h_;exact h_)) _)
 have m12:iT ((((w.alloc (.cells #[.int .i64 s.nx,.int .i64 s.ny,.int .i64 s.cell,.int .i64 s.slot,.int .i64 s.slots,.int .i64 s.layers,.int .i64 s.most,.slice A7 s.shores.length c7,.slice A8 s.currents.length c8] 25)).alloc (.cells #[.int .i64 x.f0.f0,.int .i64 x.f0.f1,.int .i64 x.f1.f0,.int .i64 x.f1.f1] 31)).alloc (.cells #[.int .i64 0,.int .i64 0,.int .i64 0,.int .i64 0] 40)).alloc (.cells #[.int .i64 s.nx,.int .i64 s.ny,.int .i64 s.cell,.int .i64 s.slot,.int .i64 s.slots,.int .i64 s.layers,.int .i64 s.most,.slice A7 s.shores.length c7,.slice A8 s.currents.length c8,.int .i64 0,.int .i64 0,.int .i64 0,.int .i64 0,.int .i64 0,.int .i64 0,.int .i64 0] 110)) (w.heap.size+1+1+1) #[.int .i64 s.nx,.int .i64 s.ny,.int .i64 s.cell,.int .i64 s.slot,.int .i64 s.slots,.int .i64 s.layers,.int .i64 s.most,.slice A7 s.shores.length c7,.slice A8 s.currents.length c8,.int .i64 0,.int .i64 0,.int .i64 0,.int .i64 0,.int .i64 0,.int .i64 0,.int .i64 0] 110:=(by have h_:=fK (((w.alloc (.cells #[.int .i64 s.nx,.int .i64 s.ny,.int .i64 s.cell,.int .i64 s.slot,.int .i64 s.slots,.int .i64 s.layers,.int .i64 s.most,.slice A7 s.shores.length c7,.slice A8 s.currents.length c8] 25)).alloc (.cells #[.int .i64 x.f0.f0,.int .i64 x.f0.f1,.int .i64 x.f1.f0,.int .i64 x.f1.f1] 31)).alloc (.cells #[.int .i64 0,.int .i64 0,.int .i64 0,.int .i64 0] 40)) (.cells #[.int .i64 s.nx,.int .i64 s.ny,.int .i64 s.cell,.int .i64 s.slot,.int .i64 s.slots,.int .i64 s.layers,.int .i64 s.most,.slice A7 s.shores.length c7,.slice A8 s.currents.length c8,.int .i64 0,.int .i64 0,.int .i64 0,.int .i64 0,.int .i64 0,.int .i64 0,.int .i64 0] 110);first|exact h_|(simp only [World.size_alloc] at h_;exact h_))
 have mB:Below w.heap.size w ((((w.alloc (.cells #[.int .i64 s.nx,.int .i64 s.ny,.int .i64 s.cell,.int .i64 s.slot,.int .i64 s.slots,.int .i64 s.layers,.int .i64 s.most,.slice A7 s.shores.length c7,.slice A8 s.currents.length c8] 25)).alloc (.cells #[.int .i64 x.f0.f0,.int .i64 x.f0.f1,.int .i64 x.f1.f0,.int .i64 x.f1.f1] 31)).alloc (.cells #[.int .i64 0,.int .i64 0,.int .i64 0,.int .i64 0] 40)).alloc (.cells #[.int .i64 s.nx,.int .i64 s.ny,.int .i64 s.cell,.int .i64 s.slot,.int .i64 s.slots,.int .i64 s.layers,.int .i64 s.most,.slice A7 s.shores.length c7,.slice A8 s.currents.length c8,.int .i64 0,.int .i64 0,.int .i64 0,.int .i64 0,.int .i64 0,.int .i64 0,.int .i64 0] 110)):=(au (au (au (au (Below.refl w.heap.size w) _) _) _) _)
 have qi:w.heap.size≤w.heap.size:=Nat.le_refl _
 generalize zx:((((w.alloc (.cells #[.int .i64 s.nx,.int .i64 s.ny,.int .i64 s.cell,.int .i64 s.slot,.int .i64 s.slots,.int .i64 s.layers,.int .i64 s.most,.slice A7 s.shores.length c7,.slice A8 s.currents.length c8] 25)).alloc (.cells #[.int .i64 x.f0.f0,.int .i64 x.f0.f1,.int .i64 x.f1.f0,.int .i64 x.f1.f1] 31)).alloc (.cells #[.int .i64 0,.int .i64 0,.int .i64 0,.int .i64 0] 40)).alloc (.cells #[.int .i64 s.nx,.int .i64 s.ny,.int .i64 s.cell,.int .i64 s.slot,.int .i64 s.slots,.int .i64 s.layers,.int .i64 s.most,.slice A7 s.shores.length c7,.slice A8 s.currents.length c8,.int .i64 0,.int .i64 0,.int .i64 0,.int .i64 0,.int .i64 0,.int .i64 0,.int .i64 0] 110)) = W1 at m5 m6 m10 m12 mB ⊢
 clear zx
 generalize hg5:w.heap.size = g5 at m5 m6 m10 m12 ⊢
 have hG5:w.heap.size≤g5:=by omega
 generalize hg6:g5+1 = g6 at m6 m10 m12 ⊢
 have Bq:g5≠g6:=by omega
 have Qv:g6≠g5:=Bq.symm
 have Rv:w.heap.size≤g6:=by omega
 generalize Qw:g6+1 = g10 at m10 m12 ⊢
 have mU:g5≠g10:=by omega
 have mV:g6≠g10:=by omega
 have KR:g10≠g5:=mU.symm
 have KS:g10≠g6:=mV.symm
 have jl:w.heap.size≤g10:=by omega
 generalize aid:g10+1 = g12 at m12 ⊢
 have wE:g5≠g12:=by omega
 have nM:g6≠g12:=by omega
 have j5:g10≠g12:=by omega
 have XM:g12≠g5:=wE.symm
 have XN:g12≠g6:=nM.symm
 have jr:g12≠g10:=j5.symm
 have GH:w.heap.size≤g12:=by omega
 clear qi
 try clear aid
 try clear Qw
 try clear hg6
 try clear hg5
 have DJ:w.heap.size≤W1.heap.size:=mB.size
 have hcon:=Qs s A7 A8 c7 c8 W1 h7 (Kd.dF hC7 mB) h8 (Kd.dF R4 mB)
 (with_reducible refine hcon.mono ?_)
 clear hcon
 rintro e W2 ⟨rfl,hb⟩
 replace m5:=ax m5 hb
 replace m6:=ax m6 hb
 replace m10:=ax m10 hb
 replace m12:=ax m12 hb
 replace mB:=ay mB hb
 clear hb
 have zy:w.heap.size≤W2.heap.size:=mB.size
 rcases QE s with ⟨h1,hsb⟩|h1
 case inr =>
  rw [h1]
  have HZ:Hid (Mv s x layer t u = 2):=Lib.hid (HE.out.trans (by rw [h1];rfl))
  have Br:Hid (GX s x layer t u = z31):=Lib.hid (HV.out.trans (if_neg (by rw [HZ.out];decide)))
  clear HV HE
  have vF:=(aa m10 0).trans rfl
  have vG:=(aa m10 1).trans rfl
  have vH:=(aa m10 2).trans rfl
  have vI:=(aa m10 3).trans rfl
  have zC:=ae m10 0
  have zD:=ae m10 1
  have zF:=ae m10 2
  have zG:=ae m10 3
  go_wp2
  exact bodyPost_ret (iw rfl _ _ g10 40 #[.int .i64 0,.int .i64 0,.int .i64 0,.int .i64 0] (0,0) _ rfl (aW (aW (aW (aW m10 0 (.int .i64 0) rfl) 1 (.int .i64 0) rfl) 2 (.int .i64 0) rfl) 3 (.int .i64 0) rfl) Try.underlying40 rfl (by kernel_rfl)) rfl ⟨by rw [Br.out,HZ.out];rfl,(Below.setCell (p:=⟨g10,3,none⟩) (Below.setCell (p:=⟨g10,2,none⟩) (Below.setCell (p:=⟨g10,1,none⟩) (Below.setCell (p:=⟨g10,0,none⟩) mB jl _) jl _) jl _) jl _)⟩
 case inl =>
  have hSV:=J2 hsb
  have HE2:=Lib.hid (HE.out.trans (if_neg (by omega)))
  clear HE
  have HE:=HE2
  clear HE2
  rw [h1]
  clear h1 hsb
  have IM:=(aa m6 0).trans rfl
  have IP:=(aa m6 1).trans rfl
  have IQ:=(aa m6 2).trans rfl
  have IU:=(aa m6 3).trans rfl
  go_wp2_with fail
  clear IM
  clear IP
  clear IQ
  clear IU
  have hcon:=afC x W2
  (with_reducible refine hcon.mono ?_)
  clear hcon
  rintro e W3 ⟨rfl,hb⟩
  replace m5:=ax m5 hb
  replace m6:=ax m6 hb
  replace m10:=ax m10 hb
  replace m12:=ax m12 hb
  replace mB:=ay mB hb
  clear hb
  have Jc:w.heap.size≤W3.heap.size:=mB.size
  rcases afJ x with h1|h1
  case inr =>
   rw [h1]
   have HZ:Hid (Mv s x layer t u = 2):=Lib.hid (HE.out.trans (by rw [h1];rfl))
   have Br:Hid (GX s x layer t u = z31):=Lib.hid (HV.out.trans (if_neg (by rw [HZ.out];decide)))
   clear HV HE
   have vF:=(aa m10 0).trans rfl
   have vG:=(aa m10 1).trans rfl
   have vH:=(aa m10 2).trans rfl
   have vI:=(aa m10 3).trans rfl
   have zC:=ae m10 0
   have zD:=ae m10 1
   have zF:=ae m10 2
   have zG:=ae m10 3
   go_wp2
   exact bodyPost_ret (iw rfl _ _ g10 40 #[.int .i64 0,.int .i64 0,.int .i64 0,.int .i64 0] (0,0) _ rfl (aW (aW (aW (aW m10 0 (.int .i64 0) rfl) 1 (.int .i64 0) rfl) 2 (.int .i64 0) rfl) 3 (.int .i64 0) rfl) Try.underlying40 rfl (by kernel_rfl)) rfl ⟨by rw [Br.out,HZ.out];rfl,(Below.setCell (p:=⟨g10,3,none⟩) (Below.setCell (p:=⟨g10,2,none⟩) (Below.setCell (p:=⟨g10,1,none⟩) (Below.setCell (p:=⟨g10,0,none⟩) mB jl _) jl _) jl _) jl _)⟩
  case inl =>
   have hBX:=PD h1
   have HE2:=Lib.hid (HE.out.trans (if_neg (by omega)))
   clear HE
   have HE:=HE2
   clear HE2
   rw [h1]
   clear h1
   by_cases hq:layer < 0
   case pos =>
    have Ud:decide (layer < 0) = true:=decide_eq_true (by omega)
    have GA:=(aa m5 0).trans rfl
    have II:=(aa m5 1).trans rfl
    have QA:=(aa m5 2).trans rfl
    have QB:=(aa m5 3).trans rfl
    have TZ:=(aa m5 4).trans rfl
    have T9:=(aa m5 5).trans rfl
    have Ua:=(aa m5 6).trans rfl
    have Ub:=(aa m5 7).trans rfl
    have Uc:=(aa m5 8).trans rfl
    have HZ:Hid (Mv s x layer t u = 3):=Lib.hid (HE.out.trans (if_pos (.inl hq)))
    have Br:Hid (GX s x layer t u = z31):=Lib.hid (HV.out.trans (if_neg (by rw [HZ.out];decide)))
    clear HV HE
    have vF:=(aa m10 0).trans rfl
    have vG:=(aa m10 1).trans rfl
    have vH:=(aa m10 2).trans rfl
    have vI:=(aa m10 3).trans rfl
    have zC:=ae m10 0
    have zD:=ae m10 1
    have zF:=ae m10 2
    have zG:=ae m10 3
    go_wp2
    exact bodyPost_ret (iw rfl _ _ g10 40 #[.int .i64 0,.int .i64 0,.int .i64 0,.int .i64 0] (0,0) _ rfl (aW (aW (aW (aW m10 0 (.int .i64 0) rfl) 1 (.int .i64 0) rfl) 2 (.int .i64 0) rfl) 3 (.int .i64 0) rfl) Try.underlying40 rfl (by kernel_rfl)) rfl ⟨by rw [Br.out,HZ.out];rfl,(Below.setCell (p:=⟨g10,3,none⟩) (Below.setCell (p:=⟨g10,2,none⟩) (Below.setCell (p:=⟨g10,1,none⟩) (Below.setCell (p:=⟨g10,0,none⟩) mB jl _) jl _) jl _) jl _)⟩
   case neg =>
    have Ud:decide (layer < 0) = false:=decide_eq_false (by omega)
    have hl0:=hq;clear hq
    have dl0:=Ud
    clear Ud
    by_cases hq:s.layers≤layer
    case pos =>
     have Ud:decide (s.layers≤layer) = true:=decide_eq_true (by omega)
     have GA:=(aa m5 0).trans rfl
     have II:=(aa m5 1).trans rfl
     have QA:=(aa m5 2).trans rfl
     have QB:=(aa m5 3).trans rfl
     have TZ:=(aa m5 4).trans rfl
     have T9:=(aa m5 5).trans rfl
     have Ua:=(aa m5 6).trans rfl
     have Ub:=(aa m5 7).trans rfl
     have Uc:=(aa m5 8).trans rfl
     have HZ:Hid (Mv s x layer t u = 3):=Lib.hid (HE.out.trans (if_pos (.inr hq)))
     have Br:Hid (GX s x layer t u = z31):=Lib.hid (HV.out.trans (if_neg (by rw [HZ.out];decide)))
     clear HV HE
     have vF:=(aa m10 0).trans rfl
     have vG:=(aa m10 1).trans rfl
     have vH:=(aa m10 2).trans rfl
     have vI:=(aa m10 3).trans rfl
     have zC:=ae m10 0
     have zD:=ae m10 1
     have zF:=ae m10 2
     have zG:=ae m10 3
     go_wp2
     exact bodyPost_ret (iw rfl _ _ g10 40 #[.int .i64 0,.int .i64 0,.int .i64 0,.int .i64 0] (0,0) _ rfl (aW (aW (aW (aW m10 0 (.int .i64 0) rfl) 1 (.int .i64 0) rfl) 2 (.int .i64 0) rfl) 3 (.int .i64 0) rfl) Try.underlying40 rfl (by kernel_rfl)) rfl ⟨by rw [Br.out,HZ.out];rfl,(Below.setCell (p:=⟨g10,3,none⟩) (Below.setCell (p:=⟨g10,2,none⟩) (Below.setCell (p:=⟨g10,1,none⟩) (Below.setCell (p:=⟨g10,0,none⟩) mB jl _) jl _) jl _) jl _)⟩
    case neg =>
     have Ud:decide (s.layers≤layer) = false:=decide_eq_false (by omega)
     have HE2:=Lib.hid (HE.out.trans (if_neg (by omega)))
     clear HE
     have HE:=HE2
     clear HE2
     have hl1:=hq;clear hq
     have dl1:=Ud
     clear Ud
     by_cases hq:t < 0
     case pos =>
      have Ud:decide (t < 0) = true:=decide_eq_true (by omega)
      have GA:=(aa m5 0).trans rfl
      have II:=(aa m5 1).trans rfl
      have QA:=(aa m5 2).trans rfl
      have QB:=(aa m5 3).trans rfl
      have TZ:=(aa m5 4).trans rfl
      have T9:=(aa m5 5).trans rfl
      have Ua:=(aa m5 6).trans rfl
      have Ub:=(aa m5 7).trans rfl
      have Uc:=(aa m5 8).trans rfl
      have HZ:Hid (Mv s x layer t u = 2):=Lib.hid (HE.out.trans (if_pos (.inl hq)))
      have Br:Hid (GX s x layer t u = z31):=Lib.hid (HV.out.trans (if_neg (by rw [HZ.out];decide)))
      clear HV HE
      have vF:=(aa m10 0).trans rfl
      have vG:=(aa m10 1).trans rfl
      have vH:=(aa m10 2).trans rfl
      have vI:=(aa m10 3).trans rfl
      have zC:=ae m10 0
      have zD:=ae m10 1
      have zF:=ae m10 2
      have zG:=ae m10 3
      go_wp2
      exact bodyPost_ret (iw rfl _ _ g10 40 #[.int .i64 0,.int .i64 0,.int .i64 0,.int .i64 0] (0,0) _ rfl (aW (aW (aW (aW m10 0 (.int .i64 0) rfl) 1 (.int .i64 0) rfl) 2 (.int .i64 0) rfl) 3 (.int .i64 0) rfl) Try.underlying40 rfl (by kernel_rfl)) rfl ⟨by rw [Br.out,HZ.out];rfl,(Below.setCell (p:=⟨g10,3,none⟩) (Below.setCell (p:=⟨g10,2,none⟩) (Below.setCell (p:=⟨g10,1,none⟩) (Below.setCell (p:=⟨g10,0,none⟩) mB jl _) jl _) jl _) jl _)⟩
     case neg =>
      have Ud:decide (t < 0) = false:=decide_eq_false (by omega)
      have ht0:=hq;clear hq
      have dt0:=Ud
      clear Ud
      by_cases hq:u≤t
      case pos =>
       have Ud:decide (u≤t) = true:=decide_eq_true (by omega)
       have GA:=(aa m5 0).trans rfl
       have II:=(aa m5 1).trans rfl
       have QA:=(aa m5 2).trans rfl
       have QB:=(aa m5 3).trans rfl
       have TZ:=(aa m5 4).trans rfl
       have T9:=(aa m5 5).trans rfl
       have Ua:=(aa m5 6).trans rfl
       have Ub:=(aa m5 7).trans rfl
       have Uc:=(aa m5 8).trans rfl
       have HZ:Hid (Mv s x layer t u = 2):=Lib.hid (HE.out.trans (if_pos (.inr hq)))
       have Br:Hid (GX s x layer t u = z31):=Lib.hid (HV.out.trans (if_neg (by rw [HZ.out];decide)))
       clear HV HE
       have vF:=(aa m10 0).trans rfl
       have vG:=(aa m10 1).trans rfl
       have vH:=(aa m10 2).trans rfl
       have vI:=(aa m10 3).trans rfl
       have zC:=ae m10 0
       have zD:=ae m10 1
       have zF:=ae m10 2
       have zG:=ae m10 3
       go_wp2
       exact bodyPost_ret (iw rfl _ _ g10 40 #[.int .i64 0,.int .i64 0,.int .i64 0,.int .i64 0] (0,0) _ rfl (aW (aW (aW (aW m10 0 (.int .i64 0) rfl) 1 (.int .i64 0) rfl) 2 (.int .i64 0) rfl) 3 (.int .i64 0) rfl) Try.underlying40 rfl (by kernel_rfl)) rfl ⟨by rw [Br.out,HZ.out];rfl,(Below.setCell (p:=⟨g10,3,none⟩) (Below.setCell (p:=⟨g10,2,none⟩) (Below.setCell (p:=⟨g10,1,none⟩) (Below.setCell (p:=⟨g10,0,none⟩) mB jl _) jl _) jl _) jl _)⟩
      case neg =>
       have Ud:decide (u≤t) = false:=decide_eq_false (by omega)
       have HE2:=Lib.hid (HE.out.trans (if_neg (by omega)))
       clear HE
       have HE:=HE2
       clear HE2
       have ht1:=hq;clear hq
       have dt1:=Ud
       clear Ud
       have GA:=(aa m5 0).trans rfl
       have II:=(aa m5 1).trans rfl
       have QA:=(aa m5 2).trans rfl
       have QB:=(aa m5 3).trans rfl
       have TZ:=(aa m5 4).trans rfl
       have T9:=(aa m5 5).trans rfl
       have Ua:=(aa m5 6).trans rfl
       have Ub:=(aa m5 7).trans rfl
       have Uc:=(aa m5 8).trans rfl
       have IM:=(aa m6 0).trans rfl
       have IP:=(aa m6 1).trans rfl
       have IQ:=(aa m6 2).trans rfl
       have IU:=(aa m6 3).trans rfl
       go_wp2_with fail
       clear GA
       clear II
       clear QA
       clear QB
       clear TZ
       clear T9
       clear Ua
       clear Ub
       clear Uc
       clear IM
       clear IP
       clear IQ
       clear IU
       have mkT:∀ W,Below W3.heap.size W3 W→ma W g12 s afI:=fun W hW=>⟨A7,c7,A8,c8,ax m12 hW,h7,Kd.dF hC7 (ay mB hW),h8,Kd.dF R4 (ay mB hW)⟩
       have hN:Below W3.heap.size W3 W3:=Below.refl _ _
       have hcon:=Gz g12 s afI x W3 (mkT W3 hN) hSV.n
       (with_reducible refine hcon.mono ?_)
       clear hcon
       rintro e W4 ⟨rfl,hb⟩
       replace hN:=ay hN hb
       replace m5:=ax m5 hb
       replace m6:=ax m6 hb
       replace m10:=ax m10 hb
       replace m12:=ax m12 hb
       replace mB:=ay mB hb
       clear hb
       have Rp:w.heap.size≤W4.heap.size:=mB.size
       cases hc:ib s x with
       |false =>
        have HC:=Lib.hid hc
        clear hc
        have HZ:Hid (Mv s x layer t u = 5):=Lib.hid (HE.out.trans (by rw [HC.out];rfl))
        have Br:Hid (GX s x layer t u = z31):=Lib.hid (HV.out.trans (if_neg (by rw [HZ.out];decide)))
        clear HV HE
        have vF:=(aa m10 0).trans rfl
        have vG:=(aa m10 1).trans rfl
        have vH:=(aa m10 2).trans rfl
        have vI:=(aa m10 3).trans rfl
        have zC:=ae m10 0
        have zD:=ae m10 1
        have zF:=ae m10 2
        have zG:=ae m10 3
        go_wp2
        exact bodyPost_ret (iw rfl _ _ g10 40 #[.int .i64 0,.int .i64 0,.int .i64 0,.int .i64 0] (0,0) _ rfl (aW (aW (aW (aW m10 0 (.int .i64 0) rfl) 1 (.int .i64 0) rfl) 2 (.int .i64 0) rfl) 3 (.int .i64 0) rfl) Try.underlying40 rfl (by kernel_rfl)) rfl ⟨by rw [Br.out,HZ.out];rfl,(Below.setCell (p:=⟨g10,3,none⟩) (Below.setCell (p:=⟨g10,2,none⟩) (Below.setCell (p:=⟨g10,1,none⟩) (Below.setCell (p:=⟨g10,0,none⟩) mB jl _) jl _) jl _) jl _)⟩
       |true =>
        have hIn:=RN hSV.n hBX hc
        have HC:=Lib.hid hc
        clear hc
        go_wp2_with fail
        have hcon:=Nr g12 s afI t u W4 (mkT W4 hN) hSV.n
        (with_reducible refine hcon.mono ?_)
        clear hcon
        rintro e W5 ⟨rfl,hb⟩
        replace hN:=ay hN hb
        replace m5:=ax m5 hb
        replace m6:=ax m6 hb
        replace m10:=ax m10 hb
        replace m12:=ax m12 hb
        replace mB:=ay mB hb
        clear hb
        have XG:w.heap.size≤W5.heap.size:=mB.size
        cases hk:nA s t u with
        |false =>
         have HK:=Lib.hid hk
         clear hk
         have HZ:Hid (Mv s x layer t u = 5):=Lib.hid (HE.out.trans (by rw [HC.out,HK.out];rfl))
         have Br:Hid (GX s x layer t u = z31):=Lib.hid (HV.out.trans (if_neg (by rw [HZ.out];decide)))
         clear HV HE
         have vF:=(aa m10 0).trans rfl
         have vG:=(aa m10 1).trans rfl
         have vH:=(aa m10 2).trans rfl
         have vI:=(aa m10 3).trans rfl
         have zC:=ae m10 0
         have zD:=ae m10 1
         have zF:=ae m10 2
         have zG:=ae m10 3
         go_wp2
         exact bodyPost_ret (iw rfl _ _ g10 40 #[.int .i64 0,.int .i64 0,.int .i64 0,.int .i64 0] (0,0) _ rfl (aW (aW (aW (aW m10 0 (.int .i64 0) rfl) 1 (.int .i64 0) rfl) 2 (.int .i64 0) rfl) 3 (.int .i64 0) rfl) Try.underlying40 rfl (by kernel_rfl)) rfl ⟨by rw [Br.out,HZ.out];rfl,(Below.setCell (p:=⟨g10,3,none⟩) (Below.setCell (p:=⟨g10,2,none⟩) (Below.setCell (p:=⟨g10,1,none⟩) (Below.setCell (p:=⟨g10,0,none⟩) mB jl _) jl _) jl _) jl _)⟩
        |true =>
         have hk2:u≤s.slots*s.slot:=by unfold nA at hk;simp only [Bool.and_eq_true,decide_eq_true_eq] at hk;exact hk.2
         have HZ:Hid (Mv s x layer t u = 0):=Lib.hid (HE.out.trans (by rw [HC.out,hk];rfl))
         clear hk HE
         have Br:=Lib.hid (HV.out.trans (if_pos HZ.out))
         clear HV
         have IM:=(aa m6 0).trans rfl
         have IP:=(aa m6 1).trans rfl
         have IQ:=(aa m6 2).trans rfl
         have IU:=(aa m6 3).trans rfl
         go_wp2_with fail
         clear IM
         clear IP
         clear IQ
         clear IU
         have hcon:=aaF g12 s afI x layer t u W5 (mkT W5 hN) hSV.n hIn hSV.cu (by omega) (by omega) (by omega) (by omega) hk2
         (with_reducible refine hcon.mono ?_)
         clear hcon
         rintro e W6 ⟨rfl,hb⟩
         replace hN:=ay hN hb
         replace m5:=ax m5 hb
         replace m6:=ax m6 hb
         replace m10:=ax m10 hb
         replace m12:=ax m12 hb
         replace mB:=ay mB hb
         clear hb
         have ao6:w.heap.size≤W6.heap.size:=mB.size
         clear dl0 dl1 dt0 dt1 hl0 hl1 ht0 ht1 hk2 hIn hBX hSV mkT hN
         generalize Mc s x layer t u = Y at*
         have aEo:∀ o_,(W6.alloc o_).cell? ⟨g10,0,none⟩ = some (.int .i64 0):=fun o_=>(aa (af m10 o_) 0).trans rfl
         have aEp:∀ o_,(W6.alloc o_).frozen? ⟨g10,0,none⟩ = false:=fun o_=>ae (af m10 o_) 0
         have aEq:∀ o_,(W6.alloc o_).cell? ⟨g10,1,none⟩ = some (.int .i64 0):=fun o_=>(aa (af m10 o_) 1).trans rfl
         have aEr:∀ o_,(W6.alloc o_).frozen? ⟨g10,1,none⟩ = false:=fun o_=>ae (af m10 o_) 1
         have aEs:∀ o_,(W6.alloc o_).cell? ⟨g10,2,none⟩ = some (.int .i64 0):=fun o_=>(aa (af m10 o_) 2).trans rfl
         have aEt:∀ o_,(W6.alloc o_).frozen? ⟨g10,2,none⟩ = false:=fun o_=>ae (af m10 o_) 2
         have aEu:∀ o_,(W6.alloc o_).cell? ⟨g10,3,none⟩ = some (.int .i64 0):=fun o_=>(aa (af m10 o_) 3).trans rfl
         have aEv:∀ o_,(W6.alloc o_).frozen? ⟨g10,3,none⟩ = false:=fun o_=>ae (af m10 o_) 3
         go_wp2
         exact bodyPost_ret (iw rfl _ _ g10 40 #[.int .i64 Y.f0.f0,.int .i64 Y.f0.f1,.int .i64 Y.f1.f0,.int .i64 Y.f1.f1] (0,0) _ rfl (aW (aW (aW (aW (af m10 _) 0 (.int .i64 Y.f0.f0) rfl) 1 (.int .i64 Y.f0.f1) rfl) 2 (.int .i64 Y.f1.f0) rfl) 3 (.int .i64 Y.f1.f1) rfl) Try.underlying40 rfl (by kernel_rfl)) rfl ⟨by rw [Br.out,HZ.out];rfl,(Below.setCell (p:=⟨g10,3,none⟩) (Below.setCell (p:=⟨g10,2,none⟩) (Below.setCell (p:=⟨g10,1,none⟩) (Below.setCell (p:=⟨g10,0,none⟩) (au mB _) jl _) jl _) jl _) jl _)⟩
end Go.Proofs.Ytmhaiihjfgfaoaa.Gl
end
section
namespace Go.Proofs.Ytmhaiihjfgfaoaa.Pr
open Go.RowKit Go.Proofs.YtmhaiihjfgfaoaaW.PrintWords Go.Proofs.YtmhaiihjfgfaoaaW.PrintLast Go.Proofs.YtmhaiihjfgfaoaaW.PrintMore Go.Proofs.Ytmhaiihjfgfaoaa.Gl
set_option linter.unusedVariables false
def jJ.f (aC:Int) (aD:Int) (aG:Int) (aH:Int) (aN:Int) (aK:Int) (aJ:Int) (aX:List Bool) (aM:List (mQ)):Option (Int):=some (sH ⟨aC,aD,aG,aH,aN,aK,aJ,aX,aM⟩)
theorem jJ.calls (aC:Int) (aD:Int) (aG:Int) (aH:Int) (aN:Int) (aK:Int) (aJ:Int) (bG:Option Addr) (bH:Nat) (aX:List Bool) (bO:Option Addr) (bM:Nat) (aM:List (mQ)) (r:Int) (w:World) (lV:Kd.C Kd.bool w bG aX.length aX) (lW:aX.length≤bH) (lX:Kd.C xK w bO aM.length aM) (lY:aM.length≤bM) (h:jJ.f aC aD aG aH aN aK aJ aX aM = some r):
 Calls Try.prog 25 #[.agg #[.int .i64 aC,.int .i64 aD,.int .i64 aG,.int .i64 aH,.int .i64 aN,.int .i64 aK,.int .i64 aJ,.slice bG aX.length bH,.slice bO aM.length bM]] w fun e w'=>e = .returned (.int .i64 r)∧Below w.heap.size w w':=by
 cases h
 exact Qs ⟨aC,aD,aG,aH,aN,aK,aJ,aX,aM⟩ bG bO bH bM w lW lV lY lX
def iH.f (aC:Int) (aD:Int) (aG:Int) (aH:Int) (aN:Int) (aK:Int) (aJ:Int) (aX:List Bool) (aM:List (mQ)) (bz:Int) (bA:Int) (bI:Int) (bJ:Int) (dI:Int) (dJ:Int) (dK:Int) (eT:Int) (eH:Int) (dN:Int) (dQ:Int) (a3:Int) (iZ:Int) (ja:Int):Option (Int × Int × Int × Int × Int):=some ((uk ⟨aC,aD,aG,aH,aN,aK,aJ,aX,aM⟩ ⟨bz,bA,⟨bI,bJ⟩,⟨dI,dJ⟩,dK⟩ ⟨⟨eT,eH⟩,⟨dN,dQ⟩⟩ a3 iZ ja).f0.f0,(uk ⟨aC,aD,aG,aH,aN,aK,aJ,aX,aM⟩ ⟨bz,bA,⟨bI,bJ⟩,⟨dI,dJ⟩,dK⟩ ⟨⟨eT,eH⟩,⟨dN,dQ⟩⟩ a3 iZ ja).f0.f1,(uk ⟨aC,aD,aG,aH,aN,aK,aJ,aX,aM⟩ ⟨bz,bA,⟨bI,bJ⟩,⟨dI,dJ⟩,dK⟩ ⟨⟨eT,eH⟩,⟨dN,dQ⟩⟩ a3 iZ ja).f1.f0,(uk ⟨aC,aD,aG,aH,aN,aK,aJ,aX,aM⟩ ⟨bz,bA,⟨bI,bJ⟩,⟨dI,dJ⟩,dK⟩ ⟨⟨eT,eH⟩,⟨dN,dQ⟩⟩ a3 iZ ja).f1.f1,xV ⟨aC,aD,aG,aH,aN,aK,aJ,aX,aM⟩ ⟨bz,bA,⟨bI,bJ⟩,⟨dI,dJ⟩,dK⟩ ⟨⟨eT,eH⟩,⟨dN,dQ⟩⟩ a3 iZ ja)
theorem iH.calls (aC:Int) (aD:Int) (aG:Int) (aH:Int) (aN:Int) (aK:Int) (aJ:Int) (bG:Option Addr) (bH:Nat) (aX:List Bool) (bO:Option Addr) (bM:Nat) (aM:List (mQ)) (bz:Int) (bA:Int) (bI:Int) (bJ:Int) (dI:Int) (dJ:Int) (dK:Int) (eT:Int) (eH:Int) (dN:Int) (dQ:Int) (a3:Int) (iZ:Int) (ja:Int) (r1:Int) (r2:Int) (r3:Int) (r4:Int) (r5:Int) (w:World) (lV:Kd.C Kd.bool w bG aX.length aX) (lW:aX.length≤bH) (lX:Kd.C xK w bO aM.length aM) (lY:aM.length≤bM) (h:iH.f aC aD aG aH aN aK aJ aX aM bz bA bI bJ dI dJ dK eT eH dN dQ a3 iZ ja = some (r1,r2,r3,r4,r5)):
 Calls Try.prog 20 #[.agg #[.int .i64 aC,.int .i64 aD,.int .i64 aG,.int .i64 aH,.int .i64 aN,.int .i64 aK,.int .i64 aJ,.slice bG aX.length bH,.slice bO aM.length bM],.agg #[.int .i64 bz,.int .i64 bA,.int .i64 bI,.int .i64 bJ,.int .i64 dI,.int .i64 dJ,.int .i64 dK],.agg #[.int .i64 eT,.int .i64 eH,.int .i64 dN,.int .i64 dQ],.int .i64 a3,.agg #[.int .i64 iZ,.int .i64 ja]] w fun e w'=>e = .returned (.tuple #[.agg #[.int .i64 r1,.int .i64 r2,.int .i64 r3,.int .i64 r4],.int .i64 r5])∧Below w.heap.size w w':=by
 cases h
 exact aa5 ⟨aC,aD,aG,aH,aN,aK,aJ,aX,aM⟩ ⟨bz,bA,⟨bI,bJ⟩,⟨dI,dJ⟩,dK⟩ ⟨⟨eT,eH⟩,⟨dN,dQ⟩⟩ a3 iZ ja bG bO bH bM w lW lV lY lX
def sj.f (aC:Int) (aD:Int) (aG:Int) (aH:Int) (aN:Int) (aK:Int) (aJ:Int) (aX:List Bool) (aM:List (mQ)) (bz:Int) (bA:Int) (bI:Int) (bJ:Int) (a2:Int) (a3:Int) (a4:Int):Option (Int × Int × Int × Int × Int):=some ((GX ⟨aC,aD,aG,aH,aN,aK,aJ,aX,aM⟩ ⟨⟨bz,bA⟩,⟨bI,bJ⟩⟩ a2 a3 a4).f0.f0,(GX ⟨aC,aD,aG,aH,aN,aK,aJ,aX,aM⟩ ⟨⟨bz,bA⟩,⟨bI,bJ⟩⟩ a2 a3 a4).f0.f1,(GX ⟨aC,aD,aG,aH,aN,aK,aJ,aX,aM⟩ ⟨⟨bz,bA⟩,⟨bI,bJ⟩⟩ a2 a3 a4).f1.f0,(GX ⟨aC,aD,aG,aH,aN,aK,aJ,aX,aM⟩ ⟨⟨bz,bA⟩,⟨bI,bJ⟩⟩ a2 a3 a4).f1.f1,Mv ⟨aC,aD,aG,aH,aN,aK,aJ,aX,aM⟩ ⟨⟨bz,bA⟩,⟨bI,bJ⟩⟩ a2 a3 a4)
theorem sj.calls (aC:Int) (aD:Int) (aG:Int) (aH:Int) (aN:Int) (aK:Int) (aJ:Int) (bG:Option Addr) (bH:Nat) (aX:List Bool) (bO:Option Addr) (bM:Nat) (aM:List (mQ)) (bz:Int) (bA:Int) (bI:Int) (bJ:Int) (a2:Int) (a3:Int) (a4:Int) (r1:Int) (r2:Int) (r3:Int) (r4:Int) (r5:Int) (w:World) (lV:Kd.C Kd.bool w bG aX.length aX) (lW:aX.length≤bH) (lX:Kd.C xK w bO aM.length aM) (lY:aM.length≤bM) (h:sj.f aC aD aG aH aN aK aJ aX aM bz bA bI bJ a2 a3 a4 = some (r1,r2,r3,r4,r5)):
 Calls Try.prog 23 #[.agg #[.int .i64 aC,.int .i64 aD,.int .i64 aG,.int .i64 aH,.int .i64 aN,.int .i64 aK,.int .i64 aJ,.slice bG aX.length bH,.slice bO aM.length bM],.agg #[.int .i64 bz,.int .i64 bA,.int .i64 bI,.int .i64 bJ],.int .i64 a2,.int .i64 a3,.int .i64 a4] w fun e w'=>e = .returned (.tuple #[.agg #[.int .i64 r1,.int .i64 r2,.int .i64 r3,.int .i64 r4],.int .i64 r5])∧Below w.heap.size w w':=by
 cases h
 exact aiD ⟨aC,aD,aG,aH,aN,aK,aJ,aX,aM⟩ ⟨⟨bz,bA⟩,⟨bI,bJ⟩⟩ a2 a3 a4 bG bO bH bM w lW lV lY lX
end Go.Proofs.Ytmhaiihjfgfaoaa.Pr
end
section
namespace Go.Proofs.Ytmhaiihjfgfaoaa.Pr
open Go.RowKit Go.Proofs.YtmhaiihjfgfaoaaW.PrintWords Go.Proofs.YtmhaiihjfgfaoaaW.PrintLast Go.Proofs.YtmhaiihjfgfaoaaW.PrintMore
attribute [local go_sem] fo fq gu gz fu
set_option linter.unusedVariables false
set_option linter.unusedSimpArgs false
attribute [local go_sem high] aoV
def bE.f (k:Nat):Option (Bool):=(di.f k).bind fun jH=>((ku.f 2000 2000).bind fun yB=>((iH.f jH.1 jH.2.1 jH.2.2.1 jH.2.2.2.1 jH.2.2.2.2.1 jH.2.2.2.2.2.1 jH.2.2.2.2.2.2.1 jH.2.2.2.2.2.2.2.1 jH.2.2.2.2.2.2.2.2.1 jH.2.2.2.2.2.2.2.2.2.1 jH.2.2.2.2.2.2.2.2.2.2.1 jH.2.2.2.2.2.2.2.2.2.2.2.1 jH.2.2.2.2.2.2.2.2.2.2.2.2.1 jH.2.2.2.2.2.2.2.2.2.2.2.2.2.1 jH.2.2.2.2.2.2.2.2.2.2.2.2.2.2.1 jH.2.2.2.2.2.2.2.2.2.2.2.2.2.2.2 yB.1 yB.2.1 yB.2.2.1 yB.2.2.2 0 2 0).bind fun qO=>((jq.f k jH.2.2.2.2.2.2.2.2.2.1 jH.2.2.2.2.2.2.2.2.2.2.1 jH.2.2.2.2.2.2.2.2.2.2.2.1 jH.2.2.2.2.2.2.2.2.2.2.2.2.1 jH.2.2.2.2.2.2.2.2.2.2.2.2.2.1 jH.2.2.2.2.2.2.2.2.2.2.2.2.2.2.1 jH.2.2.2.2.2.2.2.2.2.2.2.2.2.2.2 300 310).bind fun yC=>(if (wrap64 (qO.2.2.2.2+yC.2)) = 0 then (if yC.1 = 3 then (some ((qO.1 == 2200 && (qO.2.1 == 2400)) && ((qO.2.2.1 == 2000 && (qO.2.2.2.1 == 2000))))) else (some false)) else (some false)))))
theorem bE.mono:∀ k,nS (bE.f k) (bE.f (k+1)):=by
 intro k
 unfold bE.f
 repeat' first
  |(with_reducible exact jq.mono _ _ _ _ _ _ _ _ _ _)
  |(with_reducible exact di.mono _)
  |(with_reducible exact nS.refl _)
  |(with_reducible exact nS.none _)
  |(with_reducible refine nS.ite ?_ ?_)
  |(with_reducible refine nS.bind ?_ (fun _=>?_))
  |exact jq.mono _ _ _ _ _ _ _ _ _ _
  |exact di.mono _
  |exact nS.none _
  |refine nS.ite ?_ ?_
  |refine nS.bind ?_ (fun _=>?_)
def bE.T2:Bool × List (List Nat × List Nat):=(true,[([],[]),([],[]),([],[]),([],[]),([0,1,2,3,2],[0,1,2,3]),([4],[4]),([5],[5]),([5],[5]),([],[]),([8,6,4,0,1,2,3,4,5,6,8],[6,8]),([7,9,0,1,2,3,4,5,6,7,8,9],[7])])
def bE.B2:List Nat:=[0,0,0,0,15,31,63,63,0,383,1023]
theorem bE.aCg:vC .any (opsOf Try.f19 2) = bE.T2:=by kernel_rfl
theorem bE.apL:wu bE.T2.2 bE.B2 = true:=by kernel_rfl
set_option maxRecDepth 100000 in
theorem bE.Zt:bE.f 60 = some true:=by kernel_rfl
set_option maxHeartbeats 8000000 in
set_option maxRecDepth 100000 in
theorem bE.calls (k:Nat) (r:Bool) (w:World) (h:bE.f k = some r):
 Calls Try.prog 19 #[] w fun e w'=>e = .returned (.bool r)∧Below w.heap.size w w':=by
 have hr_:aj (r = true):=⟨Option.some.inj ((yZ bE.mono (Nat.le_max_left k 60) h).symm.trans (yZ bE.mono (Nat.le_max_right k 60) bE.Zt))⟩
 have Dx:=Try.underlying25
 have KU:=Try.underlying29
 have Ze:=Try.underlying33
 have vT:=Try.underlying31
 have sU:=Try.underlying27
 have HB:=aj.mk (Below.refl w.heap.size w)
 have H:((di.f k).bind fun jH=>((ku.f 2000 2000).bind fun yB=>((iH.f jH.1 jH.2.1 jH.2.2.1 jH.2.2.2.1 jH.2.2.2.2.1 jH.2.2.2.2.2.1 jH.2.2.2.2.2.2.1 jH.2.2.2.2.2.2.2.1 jH.2.2.2.2.2.2.2.2.1 jH.2.2.2.2.2.2.2.2.2.1 jH.2.2.2.2.2.2.2.2.2.2.1 jH.2.2.2.2.2.2.2.2.2.2.2.1 jH.2.2.2.2.2.2.2.2.2.2.2.2.1 jH.2.2.2.2.2.2.2.2.2.2.2.2.2.1 jH.2.2.2.2.2.2.2.2.2.2.2.2.2.2.1 jH.2.2.2.2.2.2.2.2.2.2.2.2.2.2.2 yB.1 yB.2.1 yB.2.2.1 yB.2.2.2 0 2 0).bind fun qO=>((jq.f k jH.2.2.2.2.2.2.2.2.2.1 jH.2.2.2.2.2.2.2.2.2.2.1 jH.2.2.2.2.2.2.2.2.2.2.2.1 jH.2.2.2.2.2.2.2.2.2.2.2.2.1 jH.2.2.2.2.2.2.2.2.2.2.2.2.2.1 jH.2.2.2.2.2.2.2.2.2.2.2.2.2.2.1 jH.2.2.2.2.2.2.2.2.2.2.2.2.2.2.2 300 310).bind fun yC=>(if (wrap64 (qO.2.2.2.2+yC.2)) = 0 then (if yC.1 = 3 then (some ((qO.1 == 2200 && (qO.2.1 == 2400)) && ((qO.2.2.1 == 2000 && (qO.2.2.2.1 == 2000))))) else (some false)) else (some false)))))) = some r:=h
 clear h
 replace H:=Option.bind_eq_some_iff.mp H
 obtain ⟨⟨nO,nT,oD,oK,oP,pI,pM,nU,oF,mO,mW,nu,nE,nP,nV,oG⟩,A10,H⟩:=H
 replace H:((ku.f 2000 2000).bind fun yB=>((iH.f nO nT oD oK oP pI pM nU oF mO mW nu nE nP nV oG yB.1 yB.2.1 yB.2.2.1 yB.2.2.2 0 2 0).bind fun qO=>((jq.f k mO mW nu nE nP nV oG 300 310).bind fun yC=>(if (wrap64 (qO.2.2.2.2+yC.2)) = 0 then (if yC.1 = 3 then (some ((qO.1 == 2200 && (qO.2.1 == 2400)) && ((qO.2.2.1 == 2000 && (qO.2.2.2.1 == 2000))))) else (some false)) else (some false))))) = some r:=H
 have A1:=aj.mk A10
 clear A10
 replace H:=Option.bind_eq_some_iff.mp H
 obtain ⟨⟨ML,MM,MN,MO⟩,RY,H⟩:=H
 replace H:((iH.f nO nT oD oK oP pI pM nU oF mO mW nu nE nP nV oG ML MM MN MO 0 2 0).bind fun qO=>((jq.f k mO mW nu nE nP nV oG 300 310).bind fun yC=>(if (wrap64 (qO.2.2.2.2+yC.2)) = 0 then (if yC.1 = 3 then (some ((qO.1 == 2200 && (qO.2.1 == 2400)) && ((qO.2.2.1 == 2000 && (qO.2.2.2.1 == 2000))))) else (some false)) else (some false)))) = some r:=H
 have A2:=aj.mk RY
 clear RY
 replace H:=Option.bind_eq_some_iff.mp H
 obtain ⟨⟨Es,GN,IV,Jq,IW⟩,ZA,H⟩:=H
 replace H:((jq.f k mO mW nu nE nP nV oG 300 310).bind fun yC=>(if (wrap64 (IW+yC.2)) = 0 then (if yC.1 = 3 then (some ((Es == 2200 && (GN == 2400)) && ((IV == 2000 && (Jq == 2000))))) else (some false)) else (some false))) = some r:=H
 have A3:=aj.mk ZA
 clear ZA
 replace H:=Option.bind_eq_some_iff.mp H
 obtain ⟨⟨Ue,Uf⟩,Nl,H⟩:=H
 replace H:(if (wrap64 (IW+Uf)) = 0 then (if Ue = 3 then (some ((Es == 2200 && (GN == 2400)) && ((IV == 2000 && (Jq == 2000))))) else (some false)) else (some false)) = some r:=H
 have A4:=aj.mk Nl
 clear Nl
 by_cases c5:(wrap64 (IW+Uf)) = 0
 ·rw [if_pos c5] at H
  have Ew:((wrap64 (IW+Uf)) == 0) = true:=beq_iff_eq.mpr c5
  have aam:((wrap64 (IW+Uf)) != 0) = false:=bne_eq_false_iff_eq.mpr c5
  clear c5
  by_cases c6:Ue = 3
  ·rw [if_pos c6] at H
   have Lu:(Ue == 3) = true:=beq_iff_eq.mpr c6
   have aCh:(Ue != 3) = false:=bne_eq_false_iff_eq.mpr c6
   clear c6
   obtain rfl:=Option.some.inj H
   go_enter Try.func19,Try.ntmps19
   try go_wp2_with (first|((with_reducible refine bT (f:=61) rfl ?_);refine fM (some 8) rfl rfl Try.func61 (by kernel_rfl) rfl #[] rfl (by (try simp only [List.map_toArray,List.map_cons,List.map_nil]);first|done|rfl|(simp only [List.length_drop,List.length_take];rfl)) ?_;(with_reducible refine (di.calls k nO nT oD oK oP pI pM nU oF mO mW nu nE nP nV oG _ A1.out).mono ?_);rintro e w7 ⟨aGb,aGc,rfl,ho0,ho1,hb⟩;refine ⟨_,rfl,?_⟩;have bB:=aj.mk (Kd.vY ho0 (aA (by repeat (first|(with_reducible first|exact HB.out|apply au|apply ah|apply av)|exact HB.out))));have bC:=aj.mk (Kd.vY ho1 (aA (by repeat (first|(with_reducible first|exact HB.out|apply au|apply ah|apply av)|exact HB.out))));have bK:=aj.mk (ay (by repeat (first|(with_reducible first|exact HB.out|apply au|apply ah|apply av)|exact HB.out)) hb);clear HB;have jf:=bB;have jg:=bC;have HB:=bK;clear bB bC bK;(try clear hb);(try clear hb2);(try clear hk);(try clear hi);(try clear ho0);(try clear ho1))|((with_reducible refine bu (N:=1) rfl ?_);refine aY ?hg (N:=1) ?hd (cs:=#[.int .i64 0,.int .i64 0,.int .i64 0,.int .i64 0,.int .i64 0,.int .i64 0,.int .i64 0,.slice none 0 0,.slice none 0 0]) (t:=25) ?hr ?_;(case hd=>rfl);(case hg=>rfl);(case hr=>first|(go_simp;done)|(go_simp;rfl));intro dH hg w8 hbox hb;have bB:=aj.mk (Kd.gL (by (with_reducible repeat (first|apply Kd.eD|apply Kd.eF|apply Kd.fF));exact jf.out) hb);have bC:=aj.mk (Kd.gL (by (with_reducible repeat (first|apply Kd.eD|apply Kd.eF|apply Kd.fF));exact jg.out) hb);have bK:=aj.mk (ay (by repeat (first|(with_reducible first|exact HB.out|apply au|apply ah|apply av)|exact HB.out)) hb);have bP:=aj.mk (hbox);have dX:=aj.mk ((by rw [hg];exact (aA (by repeat (first|(with_reducible first|exact HB.out|apply au|apply ah|apply av)|exact HB.out))):w.heap.size≤dH));have fB:=aj.mk ((by rw [hg];exact (aA (by repeat (first|(with_reducible first|exact HB.out|apply au|apply ah|apply av)|exact HB.out))):w.heap.size≤dH));clear jf;clear jg;clear HB;have jf:=bB;have jg:=bC;have HB:=bK;have dB:=bP;have aEw:=dX;have qP:=fB;clear bB bC bK bP dX fB;clear hb hbox hg)|((with_reducible refine bu (N:=2) rfl ?_);refine aY ?hg (N:=2) ?hd (cs:=#[.int .i64 0,.int .i64 0,.int .i64 0,.int .i64 0,.int .i64 0,.int .i64 0,.int .i64 0]) (t:=29) ?hr ?_;(case hd=>rfl);(case hg=>rfl);(case hr=>first|(go_simp;done)|(go_simp;rfl));intro dS hg w9 hbox hb;have bB:=aj.mk (Kd.gL (by (with_reducible repeat (first|apply Kd.eD|apply Kd.eF|apply Kd.fF));exact jf.out) hb);have bC:=aj.mk (Kd.gL (by (with_reducible repeat (first|apply Kd.eD|apply Kd.eF|apply Kd.fF));exact jg.out) hb);have bK:=aj.mk (ax (g:=dH) (o:=.cells #[.int .i64 0,.int .i64 0,.int .i64 0,.int .i64 0,.int .i64 0,.int .i64 0,.int .i64 0,.slice none 0 0,.slice none 0 0] 25 (0,0)) (by (with_reducible repeat (first|refine ag ?_ _|refine ai ?_|refine af ?_ _));exact dB.out) hb);have bP:=aj.mk (ay (by repeat (first|(with_reducible first|exact HB.out|apply au|apply ah|apply av|refine ak ?_ qP.out)|exact HB.out)) hb);have dX:=aj.mk (hbox);have fB:=aj.mk ((by rw [hg];exact (aA (by repeat (first|(with_reducible first|exact HB.out|apply au|apply ah|apply av|refine ak ?_ qP.out)|exact HB.out))):w.heap.size≤dS));have gD:=aj.mk ((by rw [hg];exact (aA (by repeat (first|(with_reducible first|exact HB.out|apply au|apply ah|apply av|refine ak ?_ qP.out)|exact HB.out))):w.heap.size≤dS));have jK:=aj.mk ((by rw [hg];exact Nat.ne_of_lt (aU (g:=dH) (o:=.cells #[.int .i64 0,.int .i64 0,.int .i64 0,.int .i64 0,.int .i64 0,.int .i64 0,.int .i64 0,.slice none 0 0,.slice none 0 0] 25 (0,0)) (by (with_reducible repeat (first|refine ag ?_ _|refine ai ?_|refine af ?_ _));exact dB.out)):dH≠dS));have jL:=aj.mk ((by rw [hg];exact Nat.ne_of_gt (aU (g:=dH) (o:=.cells #[.int .i64 0,.int .i64 0,.int .i64 0,.int .i64 0,.int .i64 0,.int .i64 0,.int .i64 0,.slice none 0 0,.slice none 0 0] 25 (0,0)) (by (with_reducible repeat (first|refine ag ?_ _|refine ai ?_|refine af ?_ _));exact dB.out)):dS≠dH));clear jf;clear jg;clear dB;clear HB;have jf:=bB;have jg:=bC;have dB:=bK;have HB:=bP;have dM:=dX;have aEx:=fB;have sF:=gD;have sG:=jK;have qf:=jL;clear bB bC bK bP dX fB gD jK jL;clear hb hbox hg;have agA:=sG.out;have agB:=qf.out;have CP:w9.cell? ⟨dH,0,none⟩ = some (.int .i64 0):=(aa dB.out 0).trans rfl;have CQ:w9.cell? ⟨dH,1,none⟩ = some (.int .i64 0):=(aa dB.out 1).trans rfl;have FB:w9.cell? ⟨dH,2,none⟩ = some (.int .i64 0):=(aa dB.out 2).trans rfl;have FC:w9.cell? ⟨dH,3,none⟩ = some (.int .i64 0):=(aa dB.out 3).trans rfl;have Ke:w9.cell? ⟨dH,4,none⟩ = some (.int .i64 0):=(aa dB.out 4).trans rfl;have Kg:w9.cell? ⟨dH,5,none⟩ = some (.int .i64 0):=(aa dB.out 5).trans rfl;have Kh:w9.cell? ⟨dH,6,none⟩ = some (.int .i64 0):=(aa dB.out 6).trans rfl;have Ki:w9.cell? ⟨dH,7,none⟩ = some (.slice none 0 0):=(aa dB.out 7).trans rfl;have Kj:w9.cell? ⟨dH,8,none⟩ = some (.slice none 0 0):=(aa dB.out 8).trans rfl;have CR:=ae dB.out 0;have CS:=ae dB.out 1;have FD:=ae dB.out 2;have FE:=ae dB.out 3;have Kk:=ae dB.out 4;have Kl:=ae dB.out 5;have Km:=ae dB.out 6;have Kn:=ae dB.out 7;have Ko:=ae dB.out 8;obtain ⟨qz,qA,aCi⟩:=Kd.pR jf.out;subst aCi;obtain ⟨qQ,qR,aCj⟩:=Kd.pR jg.out;subst aCj;have xw:w9.cell? ⟨dS,0,none⟩ = some (.int .i64 0):=(aa dM.out 0).trans rfl;have xx:w9.cell? ⟨dS,1,none⟩ = some (.int .i64 0):=(aa dM.out 1).trans rfl;have EB:w9.cell? ⟨dS,2,none⟩ = some (.int .i64 0):=(aa dM.out 2).trans rfl;have EC:w9.cell? ⟨dS,3,none⟩ = some (.int .i64 0):=(aa dM.out 3).trans rfl;have axo:w9.cell? ⟨dS,4,none⟩ = some (.int .i64 0):=(aa dM.out 4).trans rfl;have axp:w9.cell? ⟨dS,5,none⟩ = some (.int .i64 0):=(aa dM.out 5).trans rfl;have axq:w9.cell? ⟨dS,6,none⟩ = some (.int .i64 0):=(aa dM.out 6).trans rfl;have xy:=ae dM.out 0;have xz:=ae dM.out 1;have ED:=ae dM.out 2;have EE:=ae dM.out 3;have axr:=ae dM.out 4;have axs:=ae dM.out 5;have axt:=ae dM.out 6))
   have bB:aj (Kd.R Kd.bool 4 ((((((((((((((((w9.setCell ⟨dH,0,none⟩ (.int .i64 nO)).setCell ⟨dH,1,none⟩ (.int .i64 nT)).setCell ⟨dH,2,none⟩ (.int .i64 oD)).setCell ⟨dH,3,none⟩ (.int .i64 oK)).setCell ⟨dH,4,none⟩ (.int .i64 oP)).setCell ⟨dH,5,none⟩ (.int .i64 pI)).setCell ⟨dH,6,none⟩ (.int .i64 pM)).setCell ⟨dH,7,none⟩ (.slice qz nU.length qA)).setCell ⟨dH,8,none⟩ (.slice qQ oF.length qR)).setCell ⟨dS,0,none⟩ (.int .i64 mO)).setCell ⟨dS,1,none⟩ (.int .i64 mW)).setCell ⟨dS,2,none⟩ (.int .i64 nu)).setCell ⟨dS,3,none⟩ (.int .i64 nE)).setCell ⟨dS,4,none⟩ (.int .i64 nP)).setCell ⟨dS,5,none⟩ (.int .i64 nV)).setCell ⟨dS,6,none⟩ (.int .i64 oG)) w.heap.size (fun _=>True) (.slice qz nU.length qA) nU):=⟨by (with_reducible repeat (first|apply Kd.eD|apply Kd.eF|apply Kd.fF));exact Kd.pU (Kd.fE (p:=⟨dS,6,none⟩) (Kd.fE (p:=⟨dS,5,none⟩) (Kd.fE (p:=⟨dS,4,none⟩) (Kd.fE (p:=⟨dS,3,none⟩) (Kd.fE (p:=⟨dS,2,none⟩) (Kd.fE (p:=⟨dS,1,none⟩) (Kd.fE (p:=⟨dS,0,none⟩) (Kd.fE (p:=⟨dH,8,none⟩) (Kd.fE (p:=⟨dH,7,none⟩) (Kd.fE (p:=⟨dH,6,none⟩) (Kd.fE (p:=⟨dH,5,none⟩) (Kd.fE (p:=⟨dH,4,none⟩) (Kd.fE (p:=⟨dH,3,none⟩) (Kd.fE (p:=⟨dH,2,none⟩) (Kd.fE (p:=⟨dH,1,none⟩) (Kd.fE (p:=⟨dH,0,none⟩) (Kd.nG (Kd.nG jf.out dB.out (by decide)) dM.out (by decide)) (fun _ hk=>hk.1.2) (.int .i64 nO)) (fun _ hk=>hk.1.2) (.int .i64 nT)) (fun _ hk=>hk.1.2) (.int .i64 oD)) (fun _ hk=>hk.1.2) (.int .i64 oK)) (fun _ hk=>hk.1.2) (.int .i64 oP)) (fun _ hk=>hk.1.2) (.int .i64 pI)) (fun _ hk=>hk.1.2) (.int .i64 pM)) (fun _ hk=>hk.1.2) (.slice qz nU.length qA)) (fun _ hk=>hk.1.2) (.slice qQ oF.length qR)) (fun _ hk=>hk.2) (.int .i64 mO)) (fun _ hk=>hk.2) (.int .i64 mW)) (fun _ hk=>hk.2) (.int .i64 nu)) (fun _ hk=>hk.2) (.int .i64 nE)) (fun _ hk=>hk.2) (.int .i64 nP)) (fun _ hk=>hk.2) (.int .i64 nV)) (fun _ hk=>hk.2) (.int .i64 oG)) (fun _ hk=>trivial)⟩
   have bC:aj (Kd.R xK 40 ((((((((((((((((w9.setCell ⟨dH,0,none⟩ (.int .i64 nO)).setCell ⟨dH,1,none⟩ (.int .i64 nT)).setCell ⟨dH,2,none⟩ (.int .i64 oD)).setCell ⟨dH,3,none⟩ (.int .i64 oK)).setCell ⟨dH,4,none⟩ (.int .i64 oP)).setCell ⟨dH,5,none⟩ (.int .i64 pI)).setCell ⟨dH,6,none⟩ (.int .i64 pM)).setCell ⟨dH,7,none⟩ (.slice qz nU.length qA)).setCell ⟨dH,8,none⟩ (.slice qQ oF.length qR)).setCell ⟨dS,0,none⟩ (.int .i64 mO)).setCell ⟨dS,1,none⟩ (.int .i64 mW)).setCell ⟨dS,2,none⟩ (.int .i64 nu)).setCell ⟨dS,3,none⟩ (.int .i64 nE)).setCell ⟨dS,4,none⟩ (.int .i64 nP)).setCell ⟨dS,5,none⟩ (.int .i64 nV)).setCell ⟨dS,6,none⟩ (.int .i64 oG)) w.heap.size (fun _=>True) (.slice qQ oF.length qR) oF):=⟨by (with_reducible repeat (first|apply Kd.eD|apply Kd.eF|apply Kd.fF));exact Kd.pU (Kd.fE (p:=⟨dS,6,none⟩) (Kd.fE (p:=⟨dS,5,none⟩) (Kd.fE (p:=⟨dS,4,none⟩) (Kd.fE (p:=⟨dS,3,none⟩) (Kd.fE (p:=⟨dS,2,none⟩) (Kd.fE (p:=⟨dS,1,none⟩) (Kd.fE (p:=⟨dS,0,none⟩) (Kd.fE (p:=⟨dH,8,none⟩) (Kd.fE (p:=⟨dH,7,none⟩) (Kd.fE (p:=⟨dH,6,none⟩) (Kd.fE (p:=⟨dH,5,none⟩) (Kd.fE (p:=⟨dH,4,none⟩) (Kd.fE (p:=⟨dH,3,none⟩) (Kd.fE (p:=⟨dH,2,none⟩) (Kd.fE (p:=⟨dH,1,none⟩) (Kd.fE (p:=⟨dH,0,none⟩) (Kd.nG (Kd.nG jg.out dB.out (by decide)) dM.out (by decide)) (fun _ hk=>hk.1.2) (.int .i64 nO)) (fun _ hk=>hk.1.2) (.int .i64 nT)) (fun _ hk=>hk.1.2) (.int .i64 oD)) (fun _ hk=>hk.1.2) (.int .i64 oK)) (fun _ hk=>hk.1.2) (.int .i64 oP)) (fun _ hk=>hk.1.2) (.int .i64 pI)) (fun _ hk=>hk.1.2) (.int .i64 pM)) (fun _ hk=>hk.1.2) (.slice qz nU.length qA)) (fun _ hk=>hk.1.2) (.slice qQ oF.length qR)) (fun _ hk=>hk.2) (.int .i64 mO)) (fun _ hk=>hk.2) (.int .i64 mW)) (fun _ hk=>hk.2) (.int .i64 nu)) (fun _ hk=>hk.2) (.int .i64 nE)) (fun _ hk=>hk.2) (.int .i64 nP)) (fun _ hk=>hk.2) (.int .i64 nV)) (fun _ hk=>hk.2) (.int .i64 oG)) (fun _ hk=>trivial)⟩
   have bK:aj (((((((((((((((((w9.setCell ⟨dH,0,none⟩ (.int .i64 nO)).setCell ⟨dH,1,none⟩ (.int .i64 nT)).setCell ⟨dH,2,none⟩ (.int .i64 oD)).setCell ⟨dH,3,none⟩ (.int .i64 oK)).setCell ⟨dH,4,none⟩ (.int .i64 oP)).setCell ⟨dH,5,none⟩ (.int .i64 pI)).setCell ⟨dH,6,none⟩ (.int .i64 pM)).setCell ⟨dH,7,none⟩ (.slice qz nU.length qA)).setCell ⟨dH,8,none⟩ (.slice qQ oF.length qR)).setCell ⟨dS,0,none⟩ (.int .i64 mO)).setCell ⟨dS,1,none⟩ (.int .i64 mW)).setCell ⟨dS,2,none⟩ (.int .i64 nu)).setCell ⟨dS,3,none⟩ (.int .i64 nE)).setCell ⟨dS,4,none⟩ (.int .i64 nP)).setCell ⟨dS,5,none⟩ (.int .i64 nV)).setCell ⟨dS,6,none⟩ (.int .i64 oG)).heap[dH]? = some (.cells #[.int .i64 nO,.int .i64 nT,.int .i64 oD,.int .i64 oK,.int .i64 oP,.int .i64 pI,.int .i64 pM,.slice qz nU.length qA,.slice qQ oF.length qR] 25 (0,0))):=⟨by (with_reducible repeat (first|refine ag ?_ _|refine ai ?_|refine af ?_ _));refine az ?_ sG.out _;(with_reducible repeat (first|refine ag ?_ _|refine ai ?_|refine af ?_ _));refine az ?_ sG.out _;(with_reducible repeat (first|refine ag ?_ _|refine ai ?_|refine af ?_ _));refine az ?_ sG.out _;(with_reducible repeat (first|refine ag ?_ _|refine ai ?_|refine af ?_ _));refine az ?_ sG.out _;(with_reducible repeat (first|refine ag ?_ _|refine ai ?_|refine af ?_ _));refine az ?_ sG.out _;(with_reducible repeat (first|refine ag ?_ _|refine ai ?_|refine af ?_ _));refine az ?_ sG.out _;(with_reducible repeat (first|refine ag ?_ _|refine ai ?_|refine af ?_ _));refine az ?_ sG.out _;(with_reducible repeat (first|refine ag ?_ _|refine ai ?_|refine af ?_ _));refine aW (cs:=#[.int .i64 nO,.int .i64 nT,.int .i64 oD,.int .i64 oK,.int .i64 oP,.int .i64 pI,.int .i64 pM,.slice qz nU.length qA,.slice none 0 0]) ?_ 8 _ rfl;(with_reducible repeat (first|refine ag ?_ _|refine ai ?_|refine af ?_ _));refine aW (cs:=#[.int .i64 nO,.int .i64 nT,.int .i64 oD,.int .i64 oK,.int .i64 oP,.int .i64 pI,.int .i64 pM,.slice none 0 0,.slice none 0 0]) ?_ 7 _ rfl;(with_reducible repeat (first|refine ag ?_ _|refine ai ?_|refine af ?_ _));refine aW (cs:=#[.int .i64 nO,.int .i64 nT,.int .i64 oD,.int .i64 oK,.int .i64 oP,.int .i64 pI,.int .i64 0,.slice none 0 0,.slice none 0 0]) ?_ 6 _ rfl;(with_reducible repeat (first|refine ag ?_ _|refine ai ?_|refine af ?_ _));refine aW (cs:=#[.int .i64 nO,.int .i64 nT,.int .i64 oD,.int .i64 oK,.int .i64 oP,.int .i64 0,.int .i64 0,.slice none 0 0,.slice none 0 0]) ?_ 5 _ rfl;(with_reducible repeat (first|refine ag ?_ _|refine ai ?_|refine af ?_ _));refine aW (cs:=#[.int .i64 nO,.int .i64 nT,.int .i64 oD,.int .i64 oK,.int .i64 0,.int .i64 0,.int .i64 0,.slice none 0 0,.slice none 0 0]) ?_ 4 _ rfl;(with_reducible repeat (first|refine ag ?_ _|refine ai ?_|refine af ?_ _));refine aW (cs:=#[.int .i64 nO,.int .i64 nT,.int .i64 oD,.int .i64 0,.int .i64 0,.int .i64 0,.int .i64 0,.slice none 0 0,.slice none 0 0]) ?_ 3 _ rfl;(with_reducible repeat (first|refine ag ?_ _|refine ai ?_|refine af ?_ _));refine aW (cs:=#[.int .i64 nO,.int .i64 nT,.int .i64 0,.int .i64 0,.int .i64 0,.int .i64 0,.int .i64 0,.slice none 0 0,.slice none 0 0]) ?_ 2 _ rfl;(with_reducible repeat (first|refine ag ?_ _|refine ai ?_|refine af ?_ _));refine aW (cs:=#[.int .i64 nO,.int .i64 0,.int .i64 0,.int .i64 0,.int .i64 0,.int .i64 0,.int .i64 0,.slice none 0 0,.slice none 0 0]) ?_ 1 _ rfl;(with_reducible repeat (first|refine ag ?_ _|refine ai ?_|refine af ?_ _));refine aW (cs:=#[.int .i64 0,.int .i64 0,.int .i64 0,.int .i64 0,.int .i64 0,.int .i64 0,.int .i64 0,.slice none 0 0,.slice none 0 0]) ?_ 0 _ rfl;(with_reducible repeat (first|refine ag ?_ _|refine ai ?_|refine af ?_ _));exact dB.out⟩
   have bP:aj (((((((((((((((((w9.setCell ⟨dH,0,none⟩ (.int .i64 nO)).setCell ⟨dH,1,none⟩ (.int .i64 nT)).setCell ⟨dH,2,none⟩ (.int .i64 oD)).setCell ⟨dH,3,none⟩ (.int .i64 oK)).setCell ⟨dH,4,none⟩ (.int .i64 oP)).setCell ⟨dH,5,none⟩ (.int .i64 pI)).setCell ⟨dH,6,none⟩ (.int .i64 pM)).setCell ⟨dH,7,none⟩ (.slice qz nU.length qA)).setCell ⟨dH,8,none⟩ (.slice qQ oF.length qR)).setCell ⟨dS,0,none⟩ (.int .i64 mO)).setCell ⟨dS,1,none⟩ (.int .i64 mW)).setCell ⟨dS,2,none⟩ (.int .i64 nu)).setCell ⟨dS,3,none⟩ (.int .i64 nE)).setCell ⟨dS,4,none⟩ (.int .i64 nP)).setCell ⟨dS,5,none⟩ (.int .i64 nV)).setCell ⟨dS,6,none⟩ (.int .i64 oG)).heap[dS]? = some (.cells #[.int .i64 mO,.int .i64 mW,.int .i64 nu,.int .i64 nE,.int .i64 nP,.int .i64 nV,.int .i64 oG] 29 (0,0))):=⟨by (with_reducible repeat (first|refine ag ?_ _|refine ai ?_|refine af ?_ _));refine aW (cs:=#[.int .i64 mO,.int .i64 mW,.int .i64 nu,.int .i64 nE,.int .i64 nP,.int .i64 nV,.int .i64 0]) ?_ 6 _ rfl;(with_reducible repeat (first|refine ag ?_ _|refine ai ?_|refine af ?_ _));refine aW (cs:=#[.int .i64 mO,.int .i64 mW,.int .i64 nu,.int .i64 nE,.int .i64 nP,.int .i64 0,.int .i64 0]) ?_ 5 _ rfl;(with_reducible repeat (first|refine ag ?_ _|refine ai ?_|refine af ?_ _));refine aW (cs:=#[.int .i64 mO,.int .i64 mW,.int .i64 nu,.int .i64 nE,.int .i64 0,.int .i64 0,.int .i64 0]) ?_ 4 _ rfl;(with_reducible repeat (first|refine ag ?_ _|refine ai ?_|refine af ?_ _));refine aW (cs:=#[.int .i64 mO,.int .i64 mW,.int .i64 nu,.int .i64 0,.int .i64 0,.int .i64 0,.int .i64 0]) ?_ 3 _ rfl;(with_reducible repeat (first|refine ag ?_ _|refine ai ?_|refine af ?_ _));refine aW (cs:=#[.int .i64 mO,.int .i64 mW,.int .i64 0,.int .i64 0,.int .i64 0,.int .i64 0,.int .i64 0]) ?_ 2 _ rfl;(with_reducible repeat (first|refine ag ?_ _|refine ai ?_|refine af ?_ _));refine aW (cs:=#[.int .i64 mO,.int .i64 0,.int .i64 0,.int .i64 0,.int .i64 0,.int .i64 0,.int .i64 0]) ?_ 1 _ rfl;(with_reducible repeat (first|refine ag ?_ _|refine ai ?_|refine af ?_ _));refine aW (cs:=#[.int .i64 0,.int .i64 0,.int .i64 0,.int .i64 0,.int .i64 0,.int .i64 0,.int .i64 0]) ?_ 0 _ rfl;(with_reducible repeat (first|refine ag ?_ _|refine ai ?_|refine af ?_ _));refine az ?_ qf.out _;(with_reducible repeat (first|refine ag ?_ _|refine ai ?_|refine af ?_ _));refine az ?_ qf.out _;(with_reducible repeat (first|refine ag ?_ _|refine ai ?_|refine af ?_ _));refine az ?_ qf.out _;(with_reducible repeat (first|refine ag ?_ _|refine ai ?_|refine af ?_ _));refine az ?_ qf.out _;(with_reducible repeat (first|refine ag ?_ _|refine ai ?_|refine af ?_ _));refine az ?_ qf.out _;(with_reducible repeat (first|refine ag ?_ _|refine ai ?_|refine af ?_ _));refine az ?_ qf.out _;(with_reducible repeat (first|refine ag ?_ _|refine ai ?_|refine af ?_ _));refine az ?_ qf.out _;(with_reducible repeat (first|refine ag ?_ _|refine ai ?_|refine af ?_ _));refine az ?_ qf.out _;(with_reducible repeat (first|refine ag ?_ _|refine ai ?_|refine af ?_ _));refine az ?_ qf.out _;(with_reducible repeat (first|refine ag ?_ _|refine ai ?_|refine af ?_ _));exact dM.out⟩
   have dX:aj (Below w.heap.size w ((((((((((((((((w9.setCell ⟨dH,0,none⟩ (.int .i64 nO)).setCell ⟨dH,1,none⟩ (.int .i64 nT)).setCell ⟨dH,2,none⟩ (.int .i64 oD)).setCell ⟨dH,3,none⟩ (.int .i64 oK)).setCell ⟨dH,4,none⟩ (.int .i64 oP)).setCell ⟨dH,5,none⟩ (.int .i64 pI)).setCell ⟨dH,6,none⟩ (.int .i64 pM)).setCell ⟨dH,7,none⟩ (.slice qz nU.length qA)).setCell ⟨dH,8,none⟩ (.slice qQ oF.length qR)).setCell ⟨dS,0,none⟩ (.int .i64 mO)).setCell ⟨dS,1,none⟩ (.int .i64 mW)).setCell ⟨dS,2,none⟩ (.int .i64 nu)).setCell ⟨dS,3,none⟩ (.int .i64 nE)).setCell ⟨dS,4,none⟩ (.int .i64 nP)).setCell ⟨dS,5,none⟩ (.int .i64 nV)).setCell ⟨dS,6,none⟩ (.int .i64 oG))):=⟨by repeat (first|(with_reducible first|exact HB.out|apply au|apply ah|apply av|refine ak ?_ qP.out|refine ak ?_ sF.out)|exact HB.out)⟩
   (try clear jf)
   (try clear jg)
   (try clear dB)
   (try clear dM)
   (try clear HB)
   generalize ((((((((((((((((w9.setCell ⟨dH,0,none⟩ (.int .i64 nO)).setCell ⟨dH,1,none⟩ (.int .i64 nT)).setCell ⟨dH,2,none⟩ (.int .i64 oD)).setCell ⟨dH,3,none⟩ (.int .i64 oK)).setCell ⟨dH,4,none⟩ (.int .i64 oP)).setCell ⟨dH,5,none⟩ (.int .i64 pI)).setCell ⟨dH,6,none⟩ (.int .i64 pM)).setCell ⟨dH,7,none⟩ (.slice qz nU.length qA)).setCell ⟨dH,8,none⟩ (.slice qQ oF.length qR)).setCell ⟨dS,0,none⟩ (.int .i64 mO)).setCell ⟨dS,1,none⟩ (.int .i64 mW)).setCell ⟨dS,2,none⟩ (.int .i64 nu)).setCell ⟨dS,3,none⟩ (.int .i64 nE)).setCell ⟨dS,4,none⟩ (.int .i64 nP)).setCell ⟨dS,5,none⟩ (.int .i64 nV)).setCell ⟨dS,6,none⟩ (.int .i64 oG)) = Ji at bB bC bK bP dX ⊢
   have jf:=bB
   have jg:=bC
   have dB:=bK
   have dM:=bP
   have HB:=dX
   clear bB bC bK bP dX
   have bB:=aj.mk (Kd.fF jf.out)
   have bC:=aj.mk (Kd.fF jg.out)
   have bK:=aj.mk (ai dB.out)
   have bP:=aj.mk (ai dM.out)
   have dX:=aj.mk (av HB.out)
   clear jf
   clear jg
   clear dB
   clear dM
   clear HB
   have jf:=bB
   have jg:=bC
   have dB:=bK
   have dM:=bP
   have HB:=dX
   clear bB bC bK bP dX
   refine qg (n:=11) (S:=fun w'=>w'.cell? ⟨dH,0,none⟩ = some (.int .i64 nO)∧w'.cell? ⟨dH,1,none⟩ = some (.int .i64 nT)∧w'.cell? ⟨dH,2,none⟩ = some (.int .i64 oD)∧w'.cell? ⟨dH,3,none⟩ = some (.int .i64 oK)∧w'.cell? ⟨dH,4,none⟩ = some (.int .i64 oP)∧w'.cell? ⟨dH,5,none⟩ = some (.int .i64 pI)∧w'.cell? ⟨dH,6,none⟩ = some (.int .i64 pM)∧w'.cell? ⟨dH,7,none⟩ = some (.slice qz nU.length qA)∧w'.cell? ⟨dH,8,none⟩ = some (.slice qQ oF.length qR)∧w'.cell? ⟨dS,0,none⟩ = some (.int .i64 mO)∧w'.cell? ⟨dS,1,none⟩ = some (.int .i64 mW)∧w'.cell? ⟨dS,2,none⟩ = some (.int .i64 nu)∧w'.cell? ⟨dS,3,none⟩ = some (.int .i64 nE)∧w'.cell? ⟨dS,4,none⟩ = some (.int .i64 nP)∧w'.cell? ⟨dS,5,none⟩ = some (.int .i64 nV)∧w'.cell? ⟨dS,6,none⟩ = some (.int .i64 oG)) (ds:=[]) #[false,false,false,false,false,false,false,false,false,false,false] (by kernel_rfl) rfl rfl ⟨(aa dB.out 0).trans rfl,(aa dB.out 1).trans rfl,(aa dB.out 2).trans rfl,(aa dB.out 3).trans rfl,(aa dB.out 4).trans rfl,(aa dB.out 5).trans rfl,(aa dB.out 6).trans rfl,(aa dB.out 7).trans rfl,(aa dB.out 8).trans rfl,(aa dM.out 0).trans rfl,(aa dM.out 1).trans rfl,(aa dM.out 2).trans rfl,(aa dM.out 3).trans rfl,(aa dM.out 4).trans rfl,(aa dM.out 5).trans rfl,(aa dM.out 6).trans rfl⟩ (fun hHeld=>?_);refine si bE.aCg bE.apL (fun iD wX=>?_)
   generalize Ji.drew = w16 at jf jg dB dM HB hHeld ⊢
   refine bU (i:=3) (N:=some 15) (v:=?_) (a':=?_) #[false,false,false,true,false,false,false,false,false,false,false] rfl rfl (dC iD.out (by kernel_rfl)) (fun _ _ _ h=>h) (Or.inl ⟨by rfl,?_⟩) ?_ ?_
   rotate_left
   ·intro w'
    go_simp
    with_reducible rfl
   rotate_left
   ·simp only [Act.put,List.setIfInBounds_toArray,List.set_cons_zero,List.set_cons_succ,aZ,bf]
    rfl
   refine gB (i:=0) (N:=some 12) (v:=?_) (a':=?_) #[true,false,false,true,false,false,false,false,false,false,false] rfl rfl (gJ iD.out wX.out (by kernel_rfl)) (fun _ _ _ h=>h) (Or.inl ⟨by rfl,?_⟩) hHeld ?_ ?_
   rotate_left
   ·rintro w' ⟨s0,s1,s2,s3,s4,s5,s6,s7,s8,s9,s10,s11,s12,s13,Lh,s15⟩
    go_simp
    with_reducible rfl
   rotate_left
   ·simp only [Act.put,List.setIfInBounds_toArray,List.set_cons_zero,List.set_cons_succ,aZ,bf]
    rfl
   refine gB (i:=1) (N:=some 13) (v:=?_) (a':=?_) #[true,true,false,true,false,false,false,false,false,false,false] rfl rfl (gJ iD.out wX.out (by kernel_rfl)) (fun _ _ _ h=>h) (Or.inl ⟨by rfl,?_⟩) hHeld ?_ ?_
   rotate_left
   ·rintro w' ⟨s0,s1,s2,s3,s4,s5,s6,s7,s8,s9,s10,s11,s12,s13,Lh,s15⟩
    go_simp
    with_reducible rfl
   rotate_left
   ·simp only [Act.put,List.setIfInBounds_toArray,List.set_cons_zero,List.set_cons_succ,aZ,bf]
    rfl
   refine ZY (σ:=Nat) 2 #[true,true,true,true,true,true,true,true,true,false,false] (fun s_=>[(14,.agg #[.int .i64 ML,.int .i64 MM,.int .i64 MN,.int .i64 MO]),(16,.tuple #[.agg #[.int .i64 Es,.int .i64 GN,.int .i64 IV,.int .i64 Jq],.int .i64 IW]),(3,.pointer (some ⟨s_,0,none⟩)),(11,.tuple #[.agg #[.int .i64 Es,.int .i64 GN,.int .i64 IV,.int .i64 Jq],.int .i64 IW]),(17,.agg #[.int .i64 Es,.int .i64 GN,.int .i64 IV,.int .i64 Jq]),(18,.int .i64 IW)]) (fun s_ w'=>(w'.cell? ⟨dH,0,none⟩ = some (.int .i64 nO)∧w'.cell? ⟨dH,1,none⟩ = some (.int .i64 nT)∧w'.cell? ⟨dH,2,none⟩ = some (.int .i64 oD)∧w'.cell? ⟨dH,3,none⟩ = some (.int .i64 oK)∧w'.cell? ⟨dH,4,none⟩ = some (.int .i64 oP)∧w'.cell? ⟨dH,5,none⟩ = some (.int .i64 pI)∧w'.cell? ⟨dH,6,none⟩ = some (.int .i64 pM)∧w'.cell? ⟨dH,7,none⟩ = some (.slice qz nU.length qA)∧w'.cell? ⟨dH,8,none⟩ = some (.slice qQ oF.length qR)∧w'.cell? ⟨dS,0,none⟩ = some (.int .i64 mO)∧w'.cell? ⟨dS,1,none⟩ = some (.int .i64 mW)∧w'.cell? ⟨dS,2,none⟩ = some (.int .i64 nu)∧w'.cell? ⟨dS,3,none⟩ = some (.int .i64 nE)∧w'.cell? ⟨dS,4,none⟩ = some (.int .i64 nP)∧w'.cell? ⟨dS,5,none⟩ = some (.int .i64 nV)∧w'.cell? ⟨dS,6,none⟩ = some (.int .i64 oG))∧(Kd.R Kd.bool 4 w' w.heap.size (fun _=>True) (.slice qz nU.length qA) nU)∧(Kd.R xK 40 w' w.heap.size (fun _=>True) (.slice qQ oF.length qR) oF)∧(w'.heap[dH]? = some (.cells #[.int .i64 nO,.int .i64 nT,.int .i64 oD,.int .i64 oK,.int .i64 oP,.int .i64 pI,.int .i64 pM,.slice qz nU.length qA,.slice qQ oF.length qR] 25 (0,0)))∧(w'.heap[dS]? = some (.cells #[.int .i64 mO,.int .i64 mW,.int .i64 nu,.int .i64 nE,.int .i64 nP,.int .i64 nV,.int .i64 oG] 29 (0,0)))∧(w'.heap[s_]? = some (.cells #[.int .i64 0,.int .i64 0,.int .i64 0,.int .i64 0] 31 (0,0)))∧(w.heap.size≤s_)∧(w.heap.size≤s_)∧(dH≠s_)∧(s_≠dH)∧(dS≠s_)∧(s_≠dS)∧(Below w.heap.size w w')) ?_ ?_
   rotate_left
   ·intro hCont
    refine aeI (i:=2) (j:=8) (Ni:=some 14) (Nj:=some 3) #[true,true,true,true,false,false,false,false,false,false,false] #[true,true,false,true,false,false,false,false,true,false,false] rfl rfl rfl rfl (Z0 iD.out (by kernel_rfl)) (by decide) (by decide) (fun K hK=>?_) (fun K hK=>?_)
    ·skip
     refine kP Try.func62 (by kernel_rfl) rfl #[.int .i64 2000,.int .i64 2000] (by rfl) rfl rfl (by (try simp only [List.map_toArray,List.map_cons,List.map_nil]);first|done|rfl|(simp only [List.length_drop,List.length_take];rfl)) ?_
     with_reducible refine (ku.calls 2000 2000 ML MM MN MO _ A2.out).mono ?_
     rintro e zK ⟨rfl,hb⟩
     refine ⟨_,rfl,?_⟩
     have bB:=aj.mk (Kd.gL (by (with_reducible repeat (first|apply Kd.eD|apply Kd.eF|apply Kd.fF));exact jf.out) hb)
     have bC:=aj.mk (Kd.gL (by (with_reducible repeat (first|apply Kd.eD|apply Kd.eF|apply Kd.fF));exact jg.out) hb)
     have bK:=aj.mk (ax (g:=dH) (o:=.cells #[.int .i64 nO,.int .i64 nT,.int .i64 oD,.int .i64 oK,.int .i64 oP,.int .i64 pI,.int .i64 pM,.slice qz nU.length qA,.slice qQ oF.length qR] 25 (0,0)) (by (with_reducible repeat (first|refine ag ?_ _|refine ai ?_|refine af ?_ _));exact dB.out) hb)
     have bP:=aj.mk (ax (g:=dS) (o:=.cells #[.int .i64 mO,.int .i64 mW,.int .i64 nu,.int .i64 nE,.int .i64 nP,.int .i64 nV,.int .i64 oG] 29 (0,0)) (by (with_reducible repeat (first|refine ag ?_ _|refine ai ?_|refine af ?_ _));exact dM.out) hb)
     have dX:=aj.mk (ay (by repeat (first|(with_reducible first|exact HB.out|apply au|apply ah|apply av|refine ak ?_ qP.out|refine ak ?_ sF.out)|exact HB.out)) hb)
     clear jf
     clear jg
     clear dB
     clear dM
     clear HB
     have jf:=bB
     have jg:=bC
     have dB:=bK
     have dM:=bP
     have HB:=dX
     clear bB bC bK bP dX
     (try clear hb)
     (try clear hb2)
     (try clear hk)
     (try clear hi)
     refine hK.out _ _ ⟨(aa dB.out 0).trans rfl,(aa dB.out 1).trans rfl,(aa dB.out 2).trans rfl,(aa dB.out 3).trans rfl,(aa dB.out 4).trans rfl,(aa dB.out 5).trans rfl,(aa dB.out 6).trans rfl,(aa dB.out 7).trans rfl,(aa dB.out 8).trans rfl,(aa dM.out 0).trans rfl,(aa dM.out 1).trans rfl,(aa dM.out 2).trans rfl,(aa dM.out 3).trans rfl,(aa dM.out 4).trans rfl,(aa dM.out 5).trans rfl,(aa dM.out 6).trans rfl⟩ (fun hHeld=>?_)
     clear hK K
     refine iP (a':=?_) ?_ ?_
     rotate_left
     ·show Act.put _ (some 14) _ = _
      simp only [Act.put,List.setIfInBounds_toArray,List.set_cons_zero,List.set_cons_succ,aZ,bf]
      rfl
     refine aeI (i:=4) (j:=8) (Ni:=some 16) (Nj:=some 3) #[true,true,true,true,true,false,false,false,false,false,false] #[true,true,true,true,false,false,false,false,true,false,false] rfl rfl rfl rfl (Z0 iD.out (by kernel_rfl)) (by decide) (by decide) (fun K hK=>?_) (fun K hK=>?_)
     ·skip
      refine kP Try.func20 (by kernel_rfl) rfl #[.agg #[.int .i64 nO,.int .i64 nT,.int .i64 oD,.int .i64 oK,.int .i64 oP,.int .i64 pI,.int .i64 pM,.slice qz nU.length qA,.slice qQ oF.length qR],.agg #[.int .i64 mO,.int .i64 mW,.int .i64 nu,.int .i64 nE,.int .i64 nP,.int .i64 nV,.int .i64 oG],.agg #[.int .i64 ML,.int .i64 MM,.int .i64 MN,.int .i64 MO],.int .i64 0,.agg #[.int .i64 2,.int .i64 0]] (by rfl) rfl rfl (by (try simp only [List.map_toArray,List.map_cons,List.map_nil]);first|done|rfl|(simp only [List.length_drop,List.length_take];rfl)) ?_
      with_reducible refine (iH.calls nO nT oD oK oP pI pM _ _ nU _ _ oF mO mW nu nE nP nV oG ML MM MN MO 0 2 0 Es GN IV Jq IW _ ?gm ?gp ?gQ ?gT A3.out).mono ?_
      (case gm=>repeat (first|exact (Kd.iF jf.out).2.2|(with_reducible refine Kd.dO ?_ _)|(with_reducible refine Kd.dP ?_ _)|(with_reducible refine Kd.eO ?_)))
      (case gp=>exact (Kd.iF jf.out).2.1)
      (case gQ=>repeat (first|exact (Kd.iF jg.out).2.2|(with_reducible refine Kd.dO ?_ _)|(with_reducible refine Kd.dP ?_ _)|(with_reducible refine Kd.eO ?_)))
      (case gT=>exact (Kd.iF jg.out).2.1)
      rintro e Bc ⟨rfl,hb⟩
      refine ⟨_,rfl,?_⟩
      have bB:=aj.mk (Kd.gL (by (with_reducible repeat (first|apply Kd.eD|apply Kd.eF|apply Kd.fF));exact jf.out) hb)
      have bC:=aj.mk (Kd.gL (by (with_reducible repeat (first|apply Kd.eD|apply Kd.eF|apply Kd.fF));exact jg.out) hb)
      have bK:=aj.mk (ax (g:=dH) (o:=.cells #[.int .i64 nO,.int .i64 nT,.int .i64 oD,.int .i64 oK,.int .i64 oP,.int .i64 pI,.int .i64 pM,.slice qz nU.length qA,.slice qQ oF.length qR] 25 (0,0)) (by (with_reducible repeat (first|refine ag ?_ _|refine ai ?_|refine af ?_ _));exact dB.out) hb)
      have bP:=aj.mk (ax (g:=dS) (o:=.cells #[.int .i64 mO,.int .i64 mW,.int .i64 nu,.int .i64 nE,.int .i64 nP,.int .i64 nV,.int .i64 oG] 29 (0,0)) (by (with_reducible repeat (first|refine ag ?_ _|refine ai ?_|refine af ?_ _));exact dM.out) hb)
      have dX:=aj.mk (ay (by repeat (first|(with_reducible first|exact HB.out|apply au|apply ah|apply av|refine ak ?_ qP.out|refine ak ?_ sF.out)|exact HB.out)) hb)
      clear jf
      clear jg
      clear dB
      clear dM
      clear HB
      have jf:=bB
      have jg:=bC
      have dB:=bK
      have dM:=bP
      have HB:=dX
      clear bB bC bK bP dX
      (try clear hb)
      (try clear hb2)
      (try clear hk)
      (try clear hi)
      refine hK.out _ _ ⟨(aa dB.out 0).trans rfl,(aa dB.out 1).trans rfl,(aa dB.out 2).trans rfl,(aa dB.out 3).trans rfl,(aa dB.out 4).trans rfl,(aa dB.out 5).trans rfl,(aa dB.out 6).trans rfl,(aa dB.out 7).trans rfl,(aa dB.out 8).trans rfl,(aa dM.out 0).trans rfl,(aa dM.out 1).trans rfl,(aa dM.out 2).trans rfl,(aa dM.out 3).trans rfl,(aa dM.out 4).trans rfl,(aa dM.out 5).trans rfl,(aa dM.out 6).trans rfl⟩ (fun hHeld=>?_)
      clear hK K
      refine iP (a':=?_) ?_ ?_
      rotate_left
      ·show Act.put _ (some 16) _ = _
       simp only [Act.put,List.setIfInBounds_toArray,List.set_cons_zero,List.set_cons_succ,aZ,bf]
       rfl
      refine bU (i:=5) (N:=some 11) (v:=?_) (a':=?_) #[true,true,true,true,true,true,false,false,false,false,false] rfl rfl (dC iD.out (by kernel_rfl)) (fun _ _ _ h=>h) (Or.inl ⟨by rfl,?_⟩) ?_ ?_
      rotate_left
      ·intro w'
       go_simp
       with_reducible rfl
      rotate_left
      ·simp only [Act.put,List.setIfInBounds_toArray,List.set_cons_zero,List.set_cons_succ,aZ,bf]
       rfl
      refine bU (i:=6) (N:=some 17) (v:=?_) (a':=?_) #[true,true,true,true,true,true,true,false,false,false,false] rfl rfl (dC iD.out (by kernel_rfl)) (fun _ _ _ h=>h) (Or.inl ⟨by rfl,?_⟩) ?_ ?_
      rotate_left
      ·intro w'
       go_simp
       with_reducible rfl
      rotate_left
      ·simp only [Act.put,List.setIfInBounds_toArray,List.set_cons_zero,List.set_cons_succ,aZ,bf]
       rfl
      refine bU (i:=7) (N:=some 18) (v:=?_) (a':=?_) #[true,true,true,true,true,true,true,true,false,false,false] rfl rfl (dC iD.out (by kernel_rfl)) (fun _ _ _ h=>h) (Or.inl ⟨by rfl,?_⟩) ?_ ?_
      rotate_left
      ·intro w'
       go_simp
       with_reducible rfl
      rotate_left
      ·simp only [Act.put,List.setIfInBounds_toArray,List.set_cons_zero,List.set_cons_succ,aZ,bf]
       rfl
      refine o7 (i:=8) (N:=some 3) #[true,true,true,true,true,true,true,true,true,false,false] rfl rfl (l9 iD.out (by kernel_rfl)) (by decide) (fun K hK=>?_)
      refine Lm ?hg (N:=3) ?hd (cs:=#[.int .i64 0,.int .i64 0,.int .i64 0,.int .i64 0]) (t:=31) ?hr ?_;(case hd=>rfl);(case hg=>rfl);(case hr=>first|(go_simp;done)|(go_simp;rfl))
      intro eu hg Q9 hbox hb
      have bB:=aj.mk (Kd.gL (by (with_reducible repeat (first|apply Kd.eD|apply Kd.eF|apply Kd.fF));exact jf.out) hb)
      have bC:=aj.mk (Kd.gL (by (with_reducible repeat (first|apply Kd.eD|apply Kd.eF|apply Kd.fF));exact jg.out) hb)
      have bK:=aj.mk (ax (g:=dH) (o:=.cells #[.int .i64 nO,.int .i64 nT,.int .i64 oD,.int .i64 oK,.int .i64 oP,.int .i64 pI,.int .i64 pM,.slice qz nU.length qA,.slice qQ oF.length qR] 25 (0,0)) (by (with_reducible repeat (first|refine ag ?_ _|refine ai ?_|refine af ?_ _));exact dB.out) hb)
      have bP:=aj.mk (ax (g:=dS) (o:=.cells #[.int .i64 mO,.int .i64 mW,.int .i64 nu,.int .i64 nE,.int .i64 nP,.int .i64 nV,.int .i64 oG] 29 (0,0)) (by (with_reducible repeat (first|refine ag ?_ _|refine ai ?_|refine af ?_ _));exact dM.out) hb)
      have dX:=aj.mk (ay (by repeat (first|(with_reducible first|exact HB.out|apply au|apply ah|apply av|refine ak ?_ qP.out|refine ak ?_ sF.out)|exact HB.out)) hb)
      have fB:=aj.mk (hbox)
      have gD:=aj.mk ((by rw [hg];exact (aA (by repeat (first|(with_reducible first|exact HB.out|apply au|apply ah|apply av|refine ak ?_ qP.out|refine ak ?_ sF.out)|exact HB.out))):w.heap.size≤eu))
      have jK:=aj.mk ((by rw [hg];exact (aA (by repeat (first|(with_reducible first|exact HB.out|apply au|apply ah|apply av|refine ak ?_ qP.out|refine ak ?_ sF.out)|exact HB.out))):w.heap.size≤eu))
      have jL:=aj.mk ((by rw [hg];exact Nat.ne_of_lt (aU (g:=dH) (o:=.cells #[.int .i64 nO,.int .i64 nT,.int .i64 oD,.int .i64 oK,.int .i64 oP,.int .i64 pI,.int .i64 pM,.slice qz nU.length qA,.slice qQ oF.length qR] 25 (0,0)) (by (with_reducible repeat (first|refine ag ?_ _|refine ai ?_|refine af ?_ _));exact dB.out)):dH≠eu))
      have kL:=aj.mk ((by rw [hg];exact Nat.ne_of_gt (aU (g:=dH) (o:=.cells #[.int .i64 nO,.int .i64 nT,.int .i64 oD,.int .i64 oK,.int .i64 oP,.int .i64 pI,.int .i64 pM,.slice qz nU.length qA,.slice qQ oF.length qR] 25 (0,0)) (by (with_reducible repeat (first|refine ag ?_ _|refine ai ?_|refine af ?_ _));exact dB.out)):eu≠dH))
      have lJ:=aj.mk ((by rw [hg];exact Nat.ne_of_lt (aU (g:=dS) (o:=.cells #[.int .i64 mO,.int .i64 mW,.int .i64 nu,.int .i64 nE,.int .i64 nP,.int .i64 nV,.int .i64 oG] 29 (0,0)) (by (with_reducible repeat (first|refine ag ?_ _|refine ai ?_|refine af ?_ _));exact dM.out)):dS≠eu))
      have lZ:=aj.mk ((by rw [hg];exact Nat.ne_of_gt (aU (g:=dS) (o:=.cells #[.int .i64 mO,.int .i64 mW,.int .i64 nu,.int .i64 nE,.int .i64 nP,.int .i64 nV,.int .i64 oG] 29 (0,0)) (by (with_reducible repeat (first|refine ag ?_ _|refine ai ?_|refine af ?_ _));exact dM.out)):eu≠dS))
      clear jf
      clear jg
      clear dB
      clear dM
      clear HB
      have jf:=bB
      have jg:=bC
      have dB:=bK
      have dM:=bP
      have HB:=dX
      have lN:=fB
      have Ny:=gD
      have yD:=jK
      have dV:=jL
      have pJ:=kL
      have fe:=lJ
      have pK:=lZ
      clear bB bC bK bP dX fB gD jK jL kL lJ lZ
      clear hb hbox hg
      refine hK.out _ _ ⟨(aa dB.out 0).trans rfl,(aa dB.out 1).trans rfl,(aa dB.out 2).trans rfl,(aa dB.out 3).trans rfl,(aa dB.out 4).trans rfl,(aa dB.out 5).trans rfl,(aa dB.out 6).trans rfl,(aa dB.out 7).trans rfl,(aa dB.out 8).trans rfl,(aa dM.out 0).trans rfl,(aa dM.out 1).trans rfl,(aa dM.out 2).trans rfl,(aa dM.out 3).trans rfl,(aa dM.out 4).trans rfl,(aa dM.out 5).trans rfl,(aa dM.out 6).trans rfl⟩ (fun hHeld=>?_)
      clear hK K
      refine iP (a':=?_) ?_ ?_
      rotate_left
      ·show Act.put _ (some 3) _ = _
       simp only [Act.put,List.setIfInBounds_toArray,List.set_cons_zero,List.set_cons_succ,aZ,bf]
       rfl
      exact iP (by simp only [qH,Act.put,List.setIfInBounds_toArray,List.set_cons_zero,List.set_cons_succ]) (hCont (eu) _ ⟨hHeld,(by (with_reducible repeat (first|apply Kd.eD|apply Kd.eF|apply Kd.fF));exact jf.out),(by (with_reducible repeat (first|apply Kd.eD|apply Kd.eF|apply Kd.fF));exact jg.out),(by (with_reducible repeat (first|refine ag ?_ _|refine ai ?_|refine af ?_ _));exact dB.out),(by (with_reducible repeat (first|refine ag ?_ _|refine ai ?_|refine af ?_ _));exact dM.out),(by (with_reducible repeat (first|refine ag ?_ _|refine ai ?_|refine af ?_ _));exact lN.out),Ny.out,yD.out,dV.out,pJ.out,fe.out,pK.out,(by repeat (first|(with_reducible first|exact HB.out|apply au|apply ah|apply av|refine ak ?_ qP.out|refine ak ?_ sF.out|refine ak ?_ yD.out)|exact HB.out))⟩)
     ·skip
      refine Lm ?hg (N:=3) ?hd (cs:=#[.int .i64 0,.int .i64 0,.int .i64 0,.int .i64 0]) (t:=31) ?hr ?_;(case hd=>rfl);(case hg=>rfl);(case hr=>first|(go_simp;done)|(go_simp;rfl))
      intro eu hg Bc hbox hb
      have bB:=aj.mk (Kd.gL (by (with_reducible repeat (first|apply Kd.eD|apply Kd.eF|apply Kd.fF));exact jf.out) hb)
      have bC:=aj.mk (Kd.gL (by (with_reducible repeat (first|apply Kd.eD|apply Kd.eF|apply Kd.fF));exact jg.out) hb)
      have bK:=aj.mk (ax (g:=dH) (o:=.cells #[.int .i64 nO,.int .i64 nT,.int .i64 oD,.int .i64 oK,.int .i64 oP,.int .i64 pI,.int .i64 pM,.slice qz nU.length qA,.slice qQ oF.length qR] 25 (0,0)) (by (with_reducible repeat (first|refine ag ?_ _|refine ai ?_|refine af ?_ _));exact dB.out) hb)
      have bP:=aj.mk (ax (g:=dS) (o:=.cells #[.int .i64 mO,.int .i64 mW,.int .i64 nu,.int .i64 nE,.int .i64 nP,.int .i64 nV,.int .i64 oG] 29 (0,0)) (by (with_reducible repeat (first|refine ag ?_ _|refine ai ?_|refine af ?_ _));exact dM.out) hb)
      have dX:=aj.mk (ay (by repeat (first|(with_reducible first|exact HB.out|apply au|apply ah|apply av|refine ak ?_ qP.out|refine ak ?_ sF.out)|exact HB.out)) hb)
      have fB:=aj.mk (hbox)
      have gD:=aj.mk ((by rw [hg];exact (aA (by repeat (first|(with_reducible first|exact HB.out|apply au|apply ah|apply av|refine ak ?_ qP.out|refine ak ?_ sF.out)|exact HB.out))):w.heap.size≤eu))
      have jK:=aj.mk ((by rw [hg];exact (aA (by repeat (first|(with_reducible first|exact HB.out|apply au|apply ah|apply av|refine ak ?_ qP.out|refine ak ?_ sF.out)|exact HB.out))):w.heap.size≤eu))
      have jL:=aj.mk ((by rw [hg];exact Nat.ne_of_lt (aU (g:=dH) (o:=.cells #[.int .i64 nO,.int .i64 nT,.int .i64 oD,.int .i64 oK,.int .i64 oP,.int .i64 pI,.int .i64 pM,.slice qz nU.length qA,.slice qQ oF.length qR] 25 (0,0)) (by (with_reducible repeat (first|refine ag ?_ _|refine ai ?_|refine af ?_ _));exact dB.out)):dH≠eu))
      have kL:=aj.mk ((by rw [hg];exact Nat.ne_of_gt (aU (g:=dH) (o:=.cells #[.int .i64 nO,.int .i64 nT,.int .i64 oD,.int .i64 oK,.int .i64 oP,.int .i64 pI,.int .i64 pM,.slice qz nU.length qA,.slice qQ oF.length qR] 25 (0,0)) (by (with_reducible repeat (first|refine ag ?_ _|refine ai ?_|refine af ?_ _));exact dB.out)):eu≠dH))
      have lJ:=aj.mk ((by rw [hg];exact Nat.ne_of_lt (aU (g:=dS) (o:=.cells #[.int .i64 mO,.int .i64 mW,.int .i64 nu,.int .i64 nE,.int .i64 nP,.int .i64 nV,.int .i64 oG] 29 (0,0)) (by (with_reducible repeat (first|refine ag ?_ _|refine ai ?_|refine af ?_ _));exact dM.out)):dS≠eu))
      have lZ:=aj.mk ((by rw [hg];exact Nat.ne_of_gt (aU (g:=dS) (o:=.cells #[.int .i64 mO,.int .i64 mW,.int .i64 nu,.int .i64 nE,.int .i64 nP,.int .i64 nV,.int .i64 oG] 29 (0,0)) (by (with_reducible repeat (first|refine ag ?_ _|refine ai ?_|refine af ?_ _));exact dM.out)):eu≠dS))
      clear jf
      clear jg
      clear dB
      clear dM
      clear HB
      have jf:=bB
      have jg:=bC
      have dB:=bK
      have dM:=bP
      have HB:=dX
      have lN:=fB
      have Ny:=gD
      have yD:=jK
      have dV:=jL
      have pJ:=kL
      have fe:=lJ
      have pK:=lZ
      clear bB bC bK bP dX fB gD jK jL kL lJ lZ
      clear hb hbox hg
      refine hK.out _ _ ⟨(aa dB.out 0).trans rfl,(aa dB.out 1).trans rfl,(aa dB.out 2).trans rfl,(aa dB.out 3).trans rfl,(aa dB.out 4).trans rfl,(aa dB.out 5).trans rfl,(aa dB.out 6).trans rfl,(aa dB.out 7).trans rfl,(aa dB.out 8).trans rfl,(aa dM.out 0).trans rfl,(aa dM.out 1).trans rfl,(aa dM.out 2).trans rfl,(aa dM.out 3).trans rfl,(aa dM.out 4).trans rfl,(aa dM.out 5).trans rfl,(aa dM.out 6).trans rfl⟩ (fun hHeld=>?_)
      clear hK K
      refine iP (a':=?_) ?_ ?_
      rotate_left
      ·show Act.put _ (some 3) _ = _
       simp only [Act.put,List.setIfInBounds_toArray,List.set_cons_zero,List.set_cons_succ,aZ,bf]
       rfl
      refine o7 (i:=4) (N:=some 16) #[true,true,true,true,true,false,false,false,true,false,false] rfl rfl (l9 iD.out (by kernel_rfl)) (by decide) (fun K hK=>?_)
      refine kP Try.func20 (by kernel_rfl) rfl #[.agg #[.int .i64 nO,.int .i64 nT,.int .i64 oD,.int .i64 oK,.int .i64 oP,.int .i64 pI,.int .i64 pM,.slice qz nU.length qA,.slice qQ oF.length qR],.agg #[.int .i64 mO,.int .i64 mW,.int .i64 nu,.int .i64 nE,.int .i64 nP,.int .i64 nV,.int .i64 oG],.agg #[.int .i64 ML,.int .i64 MM,.int .i64 MN,.int .i64 MO],.int .i64 0,.agg #[.int .i64 2,.int .i64 0]] (by rfl) rfl rfl (by (try simp only [List.map_toArray,List.map_cons,List.map_nil]);first|done|rfl|(simp only [List.length_drop,List.length_take];rfl)) ?_
      with_reducible refine (iH.calls nO nT oD oK oP pI pM _ _ nU _ _ oF mO mW nu nE nP nV oG ML MM MN MO 0 2 0 Es GN IV Jq IW _ ?gm ?gp ?gQ ?gT A3.out).mono ?_
      (case gm=>repeat (first|exact (Kd.iF jf.out).2.2|(with_reducible refine Kd.dO ?_ _)|(with_reducible refine Kd.dP ?_ _)|(with_reducible refine Kd.eO ?_)))
      (case gp=>exact (Kd.iF jf.out).2.1)
      (case gQ=>repeat (first|exact (Kd.iF jg.out).2.2|(with_reducible refine Kd.dO ?_ _)|(with_reducible refine Kd.dP ?_ _)|(with_reducible refine Kd.eO ?_)))
      (case gT=>exact (Kd.iF jg.out).2.1)
      rintro e Q9 ⟨rfl,hb⟩
      refine ⟨_,rfl,?_⟩
      have bB:=aj.mk (Kd.gL (by (with_reducible repeat (first|apply Kd.eD|apply Kd.eF|apply Kd.fF));exact jf.out) hb)
      have bC:=aj.mk (Kd.gL (by (with_reducible repeat (first|apply Kd.eD|apply Kd.eF|apply Kd.fF));exact jg.out) hb)
      have bK:=aj.mk (ax (g:=dH) (o:=.cells #[.int .i64 nO,.int .i64 nT,.int .i64 oD,.int .i64 oK,.int .i64 oP,.int .i64 pI,.int .i64 pM,.slice qz nU.length qA,.slice qQ oF.length qR] 25 (0,0)) (by (with_reducible repeat (first|refine ag ?_ _|refine ai ?_|refine af ?_ _));exact dB.out) hb)
      have bP:=aj.mk (ax (g:=dS) (o:=.cells #[.int .i64 mO,.int .i64 mW,.int .i64 nu,.int .i64 nE,.int .i64 nP,.int .i64 nV,.int .i64 oG] 29 (0,0)) (by (with_reducible repeat (first|refine ag ?_ _|refine ai ?_|refine af ?_ _));exact dM.out) hb)
      have dX:=aj.mk (ax (g:=eu) (o:=.cells #[.int .i64 0,.int .i64 0,.int .i64 0,.int .i64 0] 31 (0,0)) (by (with_reducible repeat (first|refine ag ?_ _|refine ai ?_|refine af ?_ _));exact lN.out) hb)
      have fB:=aj.mk (ay (by repeat (first|(with_reducible first|exact HB.out|apply au|apply ah|apply av|refine ak ?_ qP.out|refine ak ?_ sF.out|refine ak ?_ yD.out)|exact HB.out)) hb)
      clear jf
      clear jg
      clear dB
      clear dM
      clear lN
      clear HB
      have jf:=bB
      have jg:=bC
      have dB:=bK
      have dM:=bP
      have lN:=dX
      have HB:=fB
      clear bB bC bK bP dX fB
      (try clear hb)
      (try clear hb2)
      (try clear hk)
      (try clear hi)
      refine hK.out _ _ ⟨(aa dB.out 0).trans rfl,(aa dB.out 1).trans rfl,(aa dB.out 2).trans rfl,(aa dB.out 3).trans rfl,(aa dB.out 4).trans rfl,(aa dB.out 5).trans rfl,(aa dB.out 6).trans rfl,(aa dB.out 7).trans rfl,(aa dB.out 8).trans rfl,(aa dM.out 0).trans rfl,(aa dM.out 1).trans rfl,(aa dM.out 2).trans rfl,(aa dM.out 3).trans rfl,(aa dM.out 4).trans rfl,(aa dM.out 5).trans rfl,(aa dM.out 6).trans rfl⟩ (fun hHeld=>?_)
      clear hK K
      refine iP (a':=?_) ?_ ?_
      rotate_left
      ·show Act.put _ (some 16) _ = _
       simp only [Act.put,List.setIfInBounds_toArray,List.set_cons_zero,List.set_cons_succ,aZ,bf]
       rfl
      refine bU (i:=5) (N:=some 11) (v:=?_) (a':=?_) #[true,true,true,true,true,true,false,false,true,false,false] rfl rfl (dC iD.out (by kernel_rfl)) (fun _ _ _ h=>h) (Or.inl ⟨by rfl,?_⟩) ?_ ?_
      rotate_left
      ·intro w'
       go_simp
       with_reducible rfl
      rotate_left
      ·simp only [Act.put,List.setIfInBounds_toArray,List.set_cons_zero,List.set_cons_succ,aZ,bf]
       rfl
      refine bU (i:=6) (N:=some 17) (v:=?_) (a':=?_) #[true,true,true,true,true,true,true,false,true,false,false] rfl rfl (dC iD.out (by kernel_rfl)) (fun _ _ _ h=>h) (Or.inl ⟨by rfl,?_⟩) ?_ ?_
      rotate_left
      ·intro w'
       go_simp
       with_reducible rfl
      rotate_left
      ·simp only [Act.put,List.setIfInBounds_toArray,List.set_cons_zero,List.set_cons_succ,aZ,bf]
       rfl
      refine bU (i:=7) (N:=some 18) (v:=?_) (a':=?_) #[true,true,true,true,true,true,true,true,true,false,false] rfl rfl (dC iD.out (by kernel_rfl)) (fun _ _ _ h=>h) (Or.inl ⟨by rfl,?_⟩) ?_ ?_
      rotate_left
      ·intro w'
       go_simp
       with_reducible rfl
      rotate_left
      ·simp only [Act.put,List.setIfInBounds_toArray,List.set_cons_zero,List.set_cons_succ,aZ,bf]
       rfl
      exact iP (by simp only [qH,Act.put,List.setIfInBounds_toArray,List.set_cons_zero,List.set_cons_succ]) (hCont (eu) _ ⟨hHeld,(by (with_reducible repeat (first|apply Kd.eD|apply Kd.eF|apply Kd.fF));exact jf.out),(by (with_reducible repeat (first|apply Kd.eD|apply Kd.eF|apply Kd.fF));exact jg.out),(by (with_reducible repeat (first|refine ag ?_ _|refine ai ?_|refine af ?_ _));exact dB.out),(by (with_reducible repeat (first|refine ag ?_ _|refine ai ?_|refine af ?_ _));exact dM.out),(by (with_reducible repeat (first|refine ag ?_ _|refine ai ?_|refine af ?_ _));exact lN.out),Ny.out,yD.out,dV.out,pJ.out,fe.out,pK.out,(by repeat (first|(with_reducible first|exact HB.out|apply au|apply ah|apply av|refine ak ?_ qP.out|refine ak ?_ sF.out|refine ak ?_ yD.out)|exact HB.out))⟩)
    ·skip
     refine Lm ?hg (N:=3) ?hd (cs:=#[.int .i64 0,.int .i64 0,.int .i64 0,.int .i64 0]) (t:=31) ?hr ?_;(case hd=>rfl);(case hg=>rfl);(case hr=>first|(go_simp;done)|(go_simp;rfl))
     intro eu hg zK hbox hb
     have bB:=aj.mk (Kd.gL (by (with_reducible repeat (first|apply Kd.eD|apply Kd.eF|apply Kd.fF));exact jf.out) hb)
     have bC:=aj.mk (Kd.gL (by (with_reducible repeat (first|apply Kd.eD|apply Kd.eF|apply Kd.fF));exact jg.out) hb)
     have bK:=aj.mk (ax (g:=dH) (o:=.cells #[.int .i64 nO,.int .i64 nT,.int .i64 oD,.int .i64 oK,.int .i64 oP,.int .i64 pI,.int .i64 pM,.slice qz nU.length qA,.slice qQ oF.length qR] 25 (0,0)) (by (with_reducible repeat (first|refine ag ?_ _|refine ai ?_|refine af ?_ _));exact dB.out) hb)
     have bP:=aj.mk (ax (g:=dS) (o:=.cells #[.int .i64 mO,.int .i64 mW,.int .i64 nu,.int .i64 nE,.int .i64 nP,.int .i64 nV,.int .i64 oG] 29 (0,0)) (by (with_reducible repeat (first|refine ag ?_ _|refine ai ?_|refine af ?_ _));exact dM.out) hb)
     have dX:=aj.mk (ay (by repeat (first|(with_reducible first|exact HB.out|apply au|apply ah|apply av|refine ak ?_ qP.out|refine ak ?_ sF.out)|exact HB.out)) hb)
     have fB:=aj.mk (hbox)
     have gD:=aj.mk ((by rw [hg];exact (aA (by repeat (first|(with_reducible first|exact HB.out|apply au|apply ah|apply av|refine ak ?_ qP.out|refine ak ?_ sF.out)|exact HB.out))):w.heap.size≤eu))
     have jK:=aj.mk ((by rw [hg];exact (aA (by repeat (first|(with_reducible first|exact HB.out|apply au|apply ah|apply av|refine ak ?_ qP.out|refine ak ?_ sF.out)|exact HB.out))):w.heap.size≤eu))
     have jL:=aj.mk ((by rw [hg];exact Nat.ne_of_lt (aU (g:=dH) (o:=.cells #[.int .i64 nO,.int .i64 nT,.int .i64 oD,.int .i64 oK,.int .i64 oP,.int .i64 pI,.int .i64 pM,.slice qz nU.length qA,.slice qQ oF.length qR] 25 (0,0)) (by (with_reducible repeat (first|refine ag ?_ _|refine ai ?_|refine af ?_ _));exact dB.out)):dH≠eu))
     have kL:=aj.mk ((by rw [hg];exact Nat.ne_of_gt (aU (g:=dH) (o:=.cells #[.int .i64 nO,.int .i64 nT,.int .i64 oD,.int .i64 oK,.int .i64 oP,.int .i64 pI,.int .i64 pM,.slice qz nU.length qA,.slice qQ oF.length qR] 25 (0,0)) (by (with_reducible repeat (first|refine ag ?_ _|refine ai ?_|refine af ?_ _));exact dB.out)):eu≠dH))
     have lJ:=aj.mk ((by rw [hg];exact Nat.ne_of_lt (aU (g:=dS) (o:=.cells #[.int .i64 mO,.int .i64 mW,.int .i64 nu,.int .i64 nE,.int .i64 nP,.int .i64 nV,.int .i64 oG] 29 (0,0)) (by (with_reducible repeat (first|refine ag ?_ _|refine ai ?_|refine af ?_ _));exact dM.out)):dS≠eu))
     have lZ:=aj.mk ((by rw [hg];exact Nat.ne_of_gt (aU (g:=dS) (o:=.cells #[.int .i64 mO,.int .i64 mW,.int .i64 nu,.int .i64 nE,.int .i64 nP,.int .i64 nV,.int .i64 oG] 29 (0,0)) (by (with_reducible repeat (first|refine ag ?_ _|refine ai ?_|refine af ?_ _));exact dM.out)):eu≠dS))
     clear jf
     clear jg
     clear dB
     clear dM
     clear HB
     have jf:=bB
     have jg:=bC
     have dB:=bK
     have dM:=bP
     have HB:=dX
     have lN:=fB
     have Ny:=gD
     have yD:=jK
     have dV:=jL
     have pJ:=kL
     have fe:=lJ
     have pK:=lZ
     clear bB bC bK bP dX fB gD jK jL kL lJ lZ
     clear hb hbox hg
     refine hK.out _ _ ⟨(aa dB.out 0).trans rfl,(aa dB.out 1).trans rfl,(aa dB.out 2).trans rfl,(aa dB.out 3).trans rfl,(aa dB.out 4).trans rfl,(aa dB.out 5).trans rfl,(aa dB.out 6).trans rfl,(aa dB.out 7).trans rfl,(aa dB.out 8).trans rfl,(aa dM.out 0).trans rfl,(aa dM.out 1).trans rfl,(aa dM.out 2).trans rfl,(aa dM.out 3).trans rfl,(aa dM.out 4).trans rfl,(aa dM.out 5).trans rfl,(aa dM.out 6).trans rfl⟩ (fun hHeld=>?_)
     clear hK K
     refine iP (a':=?_) ?_ ?_
     rotate_left
     ·show Act.put _ (some 3) _ = _
      simp only [Act.put,List.setIfInBounds_toArray,List.set_cons_zero,List.set_cons_succ,aZ,bf]
      rfl
     refine o7 (i:=2) (N:=some 14) #[true,true,true,true,false,false,false,false,true,false,false] rfl rfl (l9 iD.out (by kernel_rfl)) (by decide) (fun K hK=>?_)
     refine kP Try.func62 (by kernel_rfl) rfl #[.int .i64 2000,.int .i64 2000] (by rfl) rfl rfl (by (try simp only [List.map_toArray,List.map_cons,List.map_nil]);first|done|rfl|(simp only [List.length_drop,List.length_take];rfl)) ?_
     with_reducible refine (ku.calls 2000 2000 ML MM MN MO _ A2.out).mono ?_
     rintro e Bc ⟨rfl,hb⟩
     refine ⟨_,rfl,?_⟩
     have bB:=aj.mk (Kd.gL (by (with_reducible repeat (first|apply Kd.eD|apply Kd.eF|apply Kd.fF));exact jf.out) hb)
     have bC:=aj.mk (Kd.gL (by (with_reducible repeat (first|apply Kd.eD|apply Kd.eF|apply Kd.fF));exact jg.out) hb)
     have bK:=aj.mk (ax (g:=dH) (o:=.cells #[.int .i64 nO,.int .i64 nT,.int .i64 oD,.int .i64 oK,.int .i64 oP,.int .i64 pI,.int .i64 pM,.slice qz nU.length qA,.slice qQ oF.length qR] 25 (0,0)) (by (with_reducible repeat (first|refine ag ?_ _|refine ai ?_|refine af ?_ _));exact dB.out) hb)
     have bP:=aj.mk (ax (g:=dS) (o:=.cells #[.int .i64 mO,.int .i64 mW,.int .i64 nu,.int .i64 nE,.int .i64 nP,.int .i64 nV,.int .i64 oG] 29 (0,0)) (by (with_reducible repeat (first|refine ag ?_ _|refine ai ?_|refine af ?_ _));exact dM.out) hb)
     have dX:=aj.mk (ax (g:=eu) (o:=.cells #[.int .i64 0,.int .i64 0,.int .i64 0,.int .i64 0] 31 (0,0)) (by (with_reducible repeat (first|refine ag ?_ _|refine ai ?_|refine af ?_ _));exact lN.out) hb)
     have fB:=aj.mk (ay (by repeat (first|(with_reducible first|exact HB.out|apply au|apply ah|apply av|refine ak ?_ qP.out|refine ak ?_ sF.out|refine ak ?_ yD.out)|exact HB.out)) hb)
     clear jf
     clear jg
     clear dB
     clear dM
     clear lN
     clear HB
     have jf:=bB
     have jg:=bC
     have dB:=bK
     have dM:=bP
     have lN:=dX
     have HB:=fB
     clear bB bC bK bP dX fB
     (try clear hb)
     (try clear hb2)
     (try clear hk)
     (try clear hi)
     refine hK.out _ _ ⟨(aa dB.out 0).trans rfl,(aa dB.out 1).trans rfl,(aa dB.out 2).trans rfl,(aa dB.out 3).trans rfl,(aa dB.out 4).trans rfl,(aa dB.out 5).trans rfl,(aa dB.out 6).trans rfl,(aa dB.out 7).trans rfl,(aa dB.out 8).trans rfl,(aa dM.out 0).trans rfl,(aa dM.out 1).trans rfl,(aa dM.out 2).trans rfl,(aa dM.out 3).trans rfl,(aa dM.out 4).trans rfl,(aa dM.out 5).trans rfl,(aa dM.out 6).trans rfl⟩ (fun hHeld=>?_)
     clear hK K
     refine iP (a':=?_) ?_ ?_
     rotate_left
     ·show Act.put _ (some 14) _ = _
      simp only [Act.put,List.setIfInBounds_toArray,List.set_cons_zero,List.set_cons_succ,aZ,bf]
      rfl
     refine o7 (i:=4) (N:=some 16) #[true,true,true,true,true,false,false,false,true,false,false] rfl rfl (l9 iD.out (by kernel_rfl)) (by decide) (fun K hK=>?_)
     refine kP Try.func20 (by kernel_rfl) rfl #[.agg #[.int .i64 nO,.int .i64 nT,.int .i64 oD,.int .i64 oK,.int .i64 oP,.int .i64 pI,.int .i64 pM,.slice qz nU.length qA,.slice qQ oF.length qR],.agg #[.int .i64 mO,.int .i64 mW,.int .i64 nu,.int .i64 nE,.int .i64 nP,.int .i64 nV,.int .i64 oG],.agg #[.int .i64 ML,.int .i64 MM,.int .i64 MN,.int .i64 MO],.int .i64 0,.agg #[.int .i64 2,.int .i64 0]] (by rfl) rfl rfl (by (try simp only [List.map_toArray,List.map_cons,List.map_nil]);first|done|rfl|(simp only [List.length_drop,List.length_take];rfl)) ?_
     with_reducible refine (iH.calls nO nT oD oK oP pI pM _ _ nU _ _ oF mO mW nu nE nP nV oG ML MM MN MO 0 2 0 Es GN IV Jq IW _ ?gm ?gp ?gQ ?gT A3.out).mono ?_
     (case gm=>repeat (first|exact (Kd.iF jf.out).2.2|(with_reducible refine Kd.dO ?_ _)|(with_reducible refine Kd.dP ?_ _)|(with_reducible refine Kd.eO ?_)))
     (case gp=>exact (Kd.iF jf.out).2.1)
     (case gQ=>repeat (first|exact (Kd.iF jg.out).2.2|(with_reducible refine Kd.dO ?_ _)|(with_reducible refine Kd.dP ?_ _)|(with_reducible refine Kd.eO ?_)))
     (case gT=>exact (Kd.iF jg.out).2.1)
     rintro e Q9 ⟨rfl,hb⟩
     refine ⟨_,rfl,?_⟩
     have bB:=aj.mk (Kd.gL (by (with_reducible repeat (first|apply Kd.eD|apply Kd.eF|apply Kd.fF));exact jf.out) hb)
     have bC:=aj.mk (Kd.gL (by (with_reducible repeat (first|apply Kd.eD|apply Kd.eF|apply Kd.fF));exact jg.out) hb)
     have bK:=aj.mk (ax (g:=dH) (o:=.cells #[.int .i64 nO,.int .i64 nT,.int .i64 oD,.int .i64 oK,.int .i64 oP,.int .i64 pI,.int .i64 pM,.slice qz nU.length qA,.slice qQ oF.length qR] 25 (0,0)) (by (with_reducible repeat (first|refine ag ?_ _|refine ai ?_|refine af ?_ _));exact dB.out) hb)
     have bP:=aj.mk (ax (g:=dS) (o:=.cells #[.int .i64 mO,.int .i64 mW,.int .i64 nu,.int .i64 nE,.int .i64 nP,.int .i64 nV,.int .i64 oG] 29 (0,0)) (by (with_reducible repeat (first|refine ag ?_ _|refine ai ?_|refine af ?_ _));exact dM.out) hb)
     have dX:=aj.mk (ax (g:=eu) (o:=.cells #[.int .i64 0,.int .i64 0,.int .i64 0,.int .i64 0] 31 (0,0)) (by (with_reducible repeat (first|refine ag ?_ _|refine ai ?_|refine af ?_ _));exact lN.out) hb)
     have fB:=aj.mk (ay (by repeat (first|(with_reducible first|exact HB.out|apply au|apply ah|apply av|refine ak ?_ qP.out|refine ak ?_ sF.out|refine ak ?_ yD.out)|exact HB.out)) hb)
     clear jf
     clear jg
     clear dB
     clear dM
     clear lN
     clear HB
     have jf:=bB
     have jg:=bC
     have dB:=bK
     have dM:=bP
     have lN:=dX
     have HB:=fB
     clear bB bC bK bP dX fB
     (try clear hb)
     (try clear hb2)
     (try clear hk)
     (try clear hi)
     refine hK.out _ _ ⟨(aa dB.out 0).trans rfl,(aa dB.out 1).trans rfl,(aa dB.out 2).trans rfl,(aa dB.out 3).trans rfl,(aa dB.out 4).trans rfl,(aa dB.out 5).trans rfl,(aa dB.out 6).trans rfl,(aa dB.out 7).trans rfl,(aa dB.out 8).trans rfl,(aa dM.out 0).trans rfl,(aa dM.out 1).trans rfl,(aa dM.out 2).trans rfl,(aa dM.out 3).trans rfl,(aa dM.out 4).trans rfl,(aa dM.out 5).trans rfl,(aa dM.out 6).trans rfl⟩ (fun hHeld=>?_)
     clear hK K
     refine iP (a':=?_) ?_ ?_
     rotate_left
     ·show Act.put _ (some 16) _ = _
      simp only [Act.put,List.setIfInBounds_toArray,List.set_cons_zero,List.set_cons_succ,aZ,bf]
      rfl
     refine bU (i:=5) (N:=some 11) (v:=?_) (a':=?_) #[true,true,true,true,true,true,false,false,true,false,false] rfl rfl (dC iD.out (by kernel_rfl)) (fun _ _ _ h=>h) (Or.inl ⟨by rfl,?_⟩) ?_ ?_
     rotate_left
     ·intro w'
      go_simp
      with_reducible rfl
     rotate_left
     ·simp only [Act.put,List.setIfInBounds_toArray,List.set_cons_zero,List.set_cons_succ,aZ,bf]
      rfl
     refine bU (i:=6) (N:=some 17) (v:=?_) (a':=?_) #[true,true,true,true,true,true,true,false,true,false,false] rfl rfl (dC iD.out (by kernel_rfl)) (fun _ _ _ h=>h) (Or.inl ⟨by rfl,?_⟩) ?_ ?_
     rotate_left
     ·intro w'
      go_simp
      with_reducible rfl
     rotate_left
     ·simp only [Act.put,List.setIfInBounds_toArray,List.set_cons_zero,List.set_cons_succ,aZ,bf]
      rfl
     refine bU (i:=7) (N:=some 18) (v:=?_) (a':=?_) #[true,true,true,true,true,true,true,true,true,false,false] rfl rfl (dC iD.out (by kernel_rfl)) (fun _ _ _ h=>h) (Or.inl ⟨by rfl,?_⟩) ?_ ?_
     rotate_left
     ·intro w'
      go_simp
      with_reducible rfl
     rotate_left
     ·simp only [Act.put,List.setIfInBounds_toArray,List.set_cons_zero,List.set_cons_succ,aZ,bf]
      rfl
     exact iP (by simp only [qH,Act.put,List.setIfInBounds_toArray,List.set_cons_zero,List.set_cons_succ]) (hCont (eu) _ ⟨hHeld,(by (with_reducible repeat (first|apply Kd.eD|apply Kd.eF|apply Kd.fF));exact jf.out),(by (with_reducible repeat (first|apply Kd.eD|apply Kd.eF|apply Kd.fF));exact jg.out),(by (with_reducible repeat (first|refine ag ?_ _|refine ai ?_|refine af ?_ _));exact dB.out),(by (with_reducible repeat (first|refine ag ?_ _|refine ai ?_|refine af ?_ _));exact dM.out),(by (with_reducible repeat (first|refine ag ?_ _|refine ai ?_|refine af ?_ _));exact lN.out),Ny.out,yD.out,dV.out,pJ.out,fe.out,pK.out,(by repeat (first|(with_reducible first|exact HB.out|apply au|apply ah|apply av|refine ak ?_ qP.out|refine ak ?_ sF.out|refine ak ?_ yD.out)|exact HB.out))⟩)
   rintro eu rO ⟨hS_,h0_,h1_,h2_,h3_,h4_,h5_,h6_,h7_,h8_,h9_,apM,apN⟩
   have bB:aj (Kd.R Kd.bool 4 rO w.heap.size (fun _=>True) (.slice qz nU.length qA) nU):=⟨h0_⟩
   have bC:aj (Kd.R xK 40 rO w.heap.size (fun _=>True) (.slice qQ oF.length qR) oF):=⟨h1_⟩
   have bK:aj (rO.heap[dH]? = some (.cells #[.int .i64 nO,.int .i64 nT,.int .i64 oD,.int .i64 oK,.int .i64 oP,.int .i64 pI,.int .i64 pM,.slice qz nU.length qA,.slice qQ oF.length qR] 25 (0,0))):=⟨h2_⟩
   have bP:aj (rO.heap[dS]? = some (.cells #[.int .i64 mO,.int .i64 mW,.int .i64 nu,.int .i64 nE,.int .i64 nP,.int .i64 nV,.int .i64 oG] 29 (0,0))):=⟨h3_⟩
   have dX:aj (rO.heap[eu]? = some (.cells #[.int .i64 0,.int .i64 0,.int .i64 0,.int .i64 0] 31 (0,0))):=⟨h4_⟩
   have fB:aj (w.heap.size≤eu):=⟨h5_⟩
   have gD:aj (w.heap.size≤eu):=⟨h6_⟩
   have jK:aj (dH≠eu):=⟨h7_⟩
   have jL:aj (eu≠dH):=⟨h8_⟩
   have kL:aj (dS≠eu):=⟨h9_⟩
   have lJ:aj (eu≠dS):=⟨apM⟩
   have lZ:aj (Below w.heap.size w rO):=⟨apN⟩
   clear jf
   clear jg
   clear dB
   clear dM
   clear HB
   clear h0_ h1_ h2_ h3_ h4_ h5_ h6_ h7_ h8_ h9_ apM apN
   have jf:=bB
   have jg:=bC
   have dB:=bK
   have dM:=bP
   have lN:=dX
   have Ny:=fB
   have yD:=gD
   have dV:=jK
   have pJ:=jL
   have fe:=kL
   have pK:=lJ
   have HB:=lZ
   clear bB bC bK bP dX fB gD jK jL kL lJ lZ
   have hHeld:rO.cell? ⟨dH,0,none⟩ = some (.int .i64 nO)∧rO.cell? ⟨dH,1,none⟩ = some (.int .i64 nT)∧rO.cell? ⟨dH,2,none⟩ = some (.int .i64 oD)∧rO.cell? ⟨dH,3,none⟩ = some (.int .i64 oK)∧rO.cell? ⟨dH,4,none⟩ = some (.int .i64 oP)∧rO.cell? ⟨dH,5,none⟩ = some (.int .i64 pI)∧rO.cell? ⟨dH,6,none⟩ = some (.int .i64 pM)∧rO.cell? ⟨dH,7,none⟩ = some (.slice qz nU.length qA)∧rO.cell? ⟨dH,8,none⟩ = some (.slice qQ oF.length qR)∧rO.cell? ⟨dS,0,none⟩ = some (.int .i64 mO)∧rO.cell? ⟨dS,1,none⟩ = some (.int .i64 mW)∧rO.cell? ⟨dS,2,none⟩ = some (.int .i64 nu)∧rO.cell? ⟨dS,3,none⟩ = some (.int .i64 nE)∧rO.cell? ⟨dS,4,none⟩ = some (.int .i64 nP)∧rO.cell? ⟨dS,5,none⟩ = some (.int .i64 nV)∧rO.cell? ⟨dS,6,none⟩ = some (.int .i64 oG):=hS_
   refine iP (a':=?_) ?_ ?_
   rotate_left
   ·simp only [qH,Act.put,List.setIfInBounds_toArray,List.set_cons_zero,List.set_cons_succ]
    rfl
   refine o7 (i:=9) (N:=none) #[true,true,true,true,true,true,true,true,true,true,false] rfl rfl (l9 iD.out (by kernel_rfl)) (by decide) (fun K hK=>?_)
   have aGe:rO.cell? ⟨eu,0,none⟩ = some (.int .i64 0):=(aa lN.out 0).trans rfl
   have aEI:=ae lN.out 0
   have axu:=dV.out
   have axv:=fe.out
   have axw:=pJ.out
   have axx:=pK.out
   have aGf:rO.cell? ⟨eu,1,none⟩ = some (.int .i64 0):=(aa lN.out 1).trans rfl
   have aEJ:=ae lN.out 1
   have axy:=dV.out
   have axz:=fe.out
   have axA:=pJ.out
   have axB:=pK.out
   have aGg:rO.cell? ⟨eu,2,none⟩ = some (.int .i64 0):=(aa lN.out 2).trans rfl
   have aEK:=ae lN.out 2
   have axC:=dV.out
   have axD:=fe.out
   have axE:=pJ.out
   have axF:=pK.out
   have aGh:rO.cell? ⟨eu,3,none⟩ = some (.int .i64 0):=(aa lN.out 3).trans rfl
   have aEL:=ae lN.out 3
   have axG:=dV.out
   have axH:=fe.out
   have axI:=pJ.out
   have axJ:=pK.out
   refine Ld (w1:=?_) (by rfl) rfl ?_ ?_
   rotate_left
   ·go_simp
    rfl
   refine hK.out _ _ ⟨((cell_far (p:=⟨eu,_,none⟩) dV.out _).trans (((cell_far (p:=⟨eu,_,none⟩) dV.out _).trans (((cell_far (p:=⟨eu,_,none⟩) dV.out _).trans (((cell_far (p:=⟨eu,_,none⟩) dV.out _).trans (hHeld.1)))))))),((cell_far (p:=⟨eu,_,none⟩) dV.out _).trans (((cell_far (p:=⟨eu,_,none⟩) dV.out _).trans (((cell_far (p:=⟨eu,_,none⟩) dV.out _).trans (((cell_far (p:=⟨eu,_,none⟩) dV.out _).trans (hHeld.2.1)))))))),((cell_far (p:=⟨eu,_,none⟩) dV.out _).trans (((cell_far (p:=⟨eu,_,none⟩) dV.out _).trans (((cell_far (p:=⟨eu,_,none⟩) dV.out _).trans (((cell_far (p:=⟨eu,_,none⟩) dV.out _).trans (hHeld.2.2.1)))))))),((cell_far (p:=⟨eu,_,none⟩) dV.out _).trans (((cell_far (p:=⟨eu,_,none⟩) dV.out _).trans (((cell_far (p:=⟨eu,_,none⟩) dV.out _).trans (((cell_far (p:=⟨eu,_,none⟩) dV.out _).trans (hHeld.2.2.2.1)))))))),((cell_far (p:=⟨eu,_,none⟩) dV.out _).trans (((cell_far (p:=⟨eu,_,none⟩) dV.out _).trans (((cell_far (p:=⟨eu,_,none⟩) dV.out _).trans (((cell_far (p:=⟨eu,_,none⟩) dV.out _).trans (hHeld.2.2.2.2.1)))))))),((cell_far (p:=⟨eu,_,none⟩) dV.out _).trans (((cell_far (p:=⟨eu,_,none⟩) dV.out _).trans (((cell_far (p:=⟨eu,_,none⟩) dV.out _).trans (((cell_far (p:=⟨eu,_,none⟩) dV.out _).trans (hHeld.2.2.2.2.2.1)))))))),((cell_far (p:=⟨eu,_,none⟩) dV.out _).trans (((cell_far (p:=⟨eu,_,none⟩) dV.out _).trans (((cell_far (p:=⟨eu,_,none⟩) dV.out _).trans (((cell_far (p:=⟨eu,_,none⟩) dV.out _).trans (hHeld.2.2.2.2.2.2.1)))))))),((cell_far (p:=⟨eu,_,none⟩) dV.out _).trans (((cell_far (p:=⟨eu,_,none⟩) dV.out _).trans (((cell_far (p:=⟨eu,_,none⟩) dV.out _).trans (((cell_far (p:=⟨eu,_,none⟩) dV.out _).trans (hHeld.2.2.2.2.2.2.2.1)))))))),((cell_far (p:=⟨eu,_,none⟩) dV.out _).trans (((cell_far (p:=⟨eu,_,none⟩) dV.out _).trans (((cell_far (p:=⟨eu,_,none⟩) dV.out _).trans (((cell_far (p:=⟨eu,_,none⟩) dV.out _).trans (hHeld.2.2.2.2.2.2.2.2.1)))))))),((cell_far (p:=⟨eu,_,none⟩) fe.out _).trans (((cell_far (p:=⟨eu,_,none⟩) fe.out _).trans (((cell_far (p:=⟨eu,_,none⟩) fe.out _).trans (((cell_far (p:=⟨eu,_,none⟩) fe.out _).trans (hHeld.2.2.2.2.2.2.2.2.2.1)))))))),((cell_far (p:=⟨eu,_,none⟩) fe.out _).trans (((cell_far (p:=⟨eu,_,none⟩) fe.out _).trans (((cell_far (p:=⟨eu,_,none⟩) fe.out _).trans (((cell_far (p:=⟨eu,_,none⟩) fe.out _).trans (hHeld.2.2.2.2.2.2.2.2.2.2.1)))))))),((cell_far (p:=⟨eu,_,none⟩) fe.out _).trans (((cell_far (p:=⟨eu,_,none⟩) fe.out _).trans (((cell_far (p:=⟨eu,_,none⟩) fe.out _).trans (((cell_far (p:=⟨eu,_,none⟩) fe.out _).trans (hHeld.2.2.2.2.2.2.2.2.2.2.2.1)))))))),((cell_far (p:=⟨eu,_,none⟩) fe.out _).trans (((cell_far (p:=⟨eu,_,none⟩) fe.out _).trans (((cell_far (p:=⟨eu,_,none⟩) fe.out _).trans (((cell_far (p:=⟨eu,_,none⟩) fe.out _).trans (hHeld.2.2.2.2.2.2.2.2.2.2.2.2.1)))))))),((cell_far (p:=⟨eu,_,none⟩) fe.out _).trans (((cell_far (p:=⟨eu,_,none⟩) fe.out _).trans (((cell_far (p:=⟨eu,_,none⟩) fe.out _).trans (((cell_far (p:=⟨eu,_,none⟩) fe.out _).trans (hHeld.2.2.2.2.2.2.2.2.2.2.2.2.2.1)))))))),((cell_far (p:=⟨eu,_,none⟩) fe.out _).trans (((cell_far (p:=⟨eu,_,none⟩) fe.out _).trans (((cell_far (p:=⟨eu,_,none⟩) fe.out _).trans (((cell_far (p:=⟨eu,_,none⟩) fe.out _).trans (hHeld.2.2.2.2.2.2.2.2.2.2.2.2.2.2.1)))))))),((cell_far (p:=⟨eu,_,none⟩) fe.out _).trans (((cell_far (p:=⟨eu,_,none⟩) fe.out _).trans (((cell_far (p:=⟨eu,_,none⟩) fe.out _).trans (((cell_far (p:=⟨eu,_,none⟩) fe.out _).trans (hHeld.2.2.2.2.2.2.2.2.2.2.2.2.2.2.2))))))))⟩ (fun hHeld=>?_)
   clear hK K
   refine bU (i:=10) (N:=some 4) (v:=?_) (a':=?_) #[true,true,true,true,true,true,true,true,true,true,true] rfl rfl (dC iD.out (by kernel_rfl)) (fun _ _ _ h=>h) (Or.inl ⟨by rfl,?_⟩) ?_ ?_
   rotate_left
   ·intro w'
    go_simp
    with_reducible rfl
   rotate_left
   ·simp only [Act.put,List.setIfInBounds_toArray,List.set_cons_zero,List.set_cons_succ,aZ,bf]
    rfl
   refine tT (yh iD.out (by kernel_rfl)) ?_
   have aoP:=fe.out
   have aoQ:=pK.out
   have Qk:rO.cell? ⟨dS,0,none⟩ = some (.int .i64 mO):=(aa dM.out 0).trans rfl
   have Ql:rO.cell? ⟨dS,1,none⟩ = some (.int .i64 mW):=(aa dM.out 1).trans rfl
   have Xp:rO.cell? ⟨dS,2,none⟩ = some (.int .i64 nu):=(aa dM.out 2).trans rfl
   have Xq:rO.cell? ⟨dS,3,none⟩ = some (.int .i64 nE):=(aa dM.out 3).trans rfl
   have ae6:rO.cell? ⟨dS,4,none⟩ = some (.int .i64 nP):=(aa dM.out 4).trans rfl
   have ae7:rO.cell? ⟨dS,5,none⟩ = some (.int .i64 nV):=(aa dM.out 5).trans rfl
   have ae8:rO.cell? ⟨dS,6,none⟩ = some (.int .i64 oG):=(aa dM.out 6).trans rfl
   have Qm:=ae dM.out 0
   have Qn:=ae dM.out 1
   have Xr:=ae dM.out 2
   have Xt:=ae dM.out 3
   have ae9:=ae dM.out 4
   have afa:=ae dM.out 5
   have afb:=ae dM.out 6
   try go_wp2_with (first|((with_reducible refine bT (f:=37) rfl ?_);refine fM (some 22) rfl rfl Try.func37 (by kernel_rfl) rfl #[.agg #[.int .i64 mO,.int .i64 mW,.int .i64 nu,.int .i64 nE,.int .i64 nP,.int .i64 nV,.int .i64 oG],.agg #[.int .i64 300,.int .i64 310]] rfl (by (try simp only [List.map_toArray,List.map_cons,List.map_nil]);first|done|rfl|(simp only [List.length_drop,List.length_take];rfl)) ?_;(with_reducible refine (jq.calls k mO mW nu nE nP nV oG 300 310 Ue Uf _ A4.out).mono ?_);rintro e Np ⟨rfl,hb⟩;refine ⟨_,rfl,?_⟩;have bB:=aj.mk (Kd.gL (by (with_reducible repeat (first|apply Kd.eD|apply Kd.eF|apply Kd.fF));exact (Kd.pU (Kd.fE (p:=⟨eu,3,none⟩) (Kd.fE (p:=⟨eu,2,none⟩) (Kd.fE (p:=⟨eu,1,none⟩) (Kd.fE (p:=⟨eu,0,none⟩) (Kd.nG jf.out lN.out (by decide)) (fun _ hk=>hk.2) (.int .i64 Es)) (fun _ hk=>hk.2) (.int .i64 GN)) (fun _ hk=>hk.2) (.int .i64 IV)) (fun _ hk=>hk.2) (.int .i64 Jq)) (fun _ h_=>h_.1))) hb);have bC:=aj.mk (Kd.gL (by (with_reducible repeat (first|apply Kd.eD|apply Kd.eF|apply Kd.fF));exact (Kd.pU (Kd.fE (p:=⟨eu,3,none⟩) (Kd.fE (p:=⟨eu,2,none⟩) (Kd.fE (p:=⟨eu,1,none⟩) (Kd.fE (p:=⟨eu,0,none⟩) (Kd.nG jg.out lN.out (by decide)) (fun _ hk=>hk.2) (.int .i64 Es)) (fun _ hk=>hk.2) (.int .i64 GN)) (fun _ hk=>hk.2) (.int .i64 IV)) (fun _ hk=>hk.2) (.int .i64 Jq)) (fun _ h_=>h_.1))) hb);have bK:=aj.mk (ax (g:=dH) (o:=.cells #[.int .i64 nO,.int .i64 nT,.int .i64 oD,.int .i64 oK,.int .i64 oP,.int .i64 pI,.int .i64 pM,.slice qz nU.length qA,.slice qQ oF.length qR] 25 (0,0)) (by (with_reducible repeat (first|refine ag ?_ _|refine ai ?_|refine af ?_ _));refine az ?_ dV.out _;(with_reducible repeat (first|refine ag ?_ _|refine ai ?_|refine af ?_ _));refine az ?_ dV.out _;(with_reducible repeat (first|refine ag ?_ _|refine ai ?_|refine af ?_ _));refine az ?_ dV.out _;(with_reducible repeat (first|refine ag ?_ _|refine ai ?_|refine af ?_ _));refine az ?_ dV.out _;(with_reducible repeat (first|refine ag ?_ _|refine ai ?_|refine af ?_ _));exact dB.out) hb);have bP:=aj.mk (ax (g:=dS) (o:=.cells #[.int .i64 mO,.int .i64 mW,.int .i64 nu,.int .i64 nE,.int .i64 nP,.int .i64 nV,.int .i64 oG] 29 (0,0)) (by (with_reducible repeat (first|refine ag ?_ _|refine ai ?_|refine af ?_ _));refine az ?_ fe.out _;(with_reducible repeat (first|refine ag ?_ _|refine ai ?_|refine af ?_ _));refine az ?_ fe.out _;(with_reducible repeat (first|refine ag ?_ _|refine ai ?_|refine af ?_ _));refine az ?_ fe.out _;(with_reducible repeat (first|refine ag ?_ _|refine ai ?_|refine af ?_ _));refine az ?_ fe.out _;(with_reducible repeat (first|refine ag ?_ _|refine ai ?_|refine af ?_ _));exact dM.out) hb);have dX:=aj.mk (ax (g:=eu) (o:=.cells #[.int .i64 Es,.int .i64 GN,.int .i64 IV,.int .i64 Jq] 31 (0,0)) (by (with_reducible repeat (first|refine ag ?_ _|refine ai ?_|refine af ?_ _));refine aW (cs:=#[.int .i64 Es,.int .i64 GN,.int .i64 IV,.int .i64 0]) ?_ 3 _ rfl;(with_reducible repeat (first|refine ag ?_ _|refine ai ?_|refine af ?_ _));refine aW (cs:=#[.int .i64 Es,.int .i64 GN,.int .i64 0,.int .i64 0]) ?_ 2 _ rfl;(with_reducible repeat (first|refine ag ?_ _|refine ai ?_|refine af ?_ _));refine aW (cs:=#[.int .i64 Es,.int .i64 0,.int .i64 0,.int .i64 0]) ?_ 1 _ rfl;(with_reducible repeat (first|refine ag ?_ _|refine ai ?_|refine af ?_ _));refine aW (cs:=#[.int .i64 0,.int .i64 0,.int .i64 0,.int .i64 0]) ?_ 0 _ rfl;(with_reducible repeat (first|refine ag ?_ _|refine ai ?_|refine af ?_ _));exact lN.out) hb);have fB:=aj.mk (ay (by repeat (first|(with_reducible first|exact HB.out|apply au|apply ah|apply av|refine ak ?_ qP.out|refine ak ?_ sF.out|refine ak ?_ yD.out)|exact HB.out)) hb);clear jf;clear jg;clear dB;clear dM;clear lN;clear HB;have jf:=bB;have jg:=bC;have dB:=bK;have dM:=bP;have lN:=dX;have HB:=fB;clear bB bC bK bP dX fB;(try clear hb);(try clear hb2);(try clear hk);(try clear hi);have aEM:=pJ.out;have aEN:=dV.out;have zS:Np.cell? ⟨eu,0,none⟩ = some (.int .i64 Es):=(aa lN.out 0).trans rfl;have zT:Np.cell? ⟨eu,1,none⟩ = some (.int .i64 GN):=(aa lN.out 1).trans rfl;have zU:Np.cell? ⟨eu,2,none⟩ = some (.int .i64 IV):=(aa lN.out 2).trans rfl;have zV:Np.cell? ⟨eu,3,none⟩ = some (.int .i64 Jq):=(aa lN.out 3).trans rfl;have zW:=ae lN.out 0;have zX:=ae lN.out 1;have zY:=ae lN.out 2;have zZ:=ae lN.out 3))
   go_ret
   exact ⟨by first|rfl|(simp [aQ,aT] <;> rfl)|(simp [*,aQ,aT] <;> rfl),by repeat (first|(with_reducible first|exact HB.out|apply au|apply ah|apply av|refine ak ?_ qP.out|refine ak ?_ sF.out|refine ak ?_ yD.out)|exact HB.out)⟩
  ·rw [if_neg c6] at H
   have Lu:(Ue == 3) = false:=beq_eq_false_iff_ne.mpr c6
   have aCh:(Ue != 3) = true:=bne_iff_ne.mpr c6
   have MU:=Option.some.inj H
   rw [hr_.out] at MU
   cases MU
 ·rw [if_neg c5] at H
  have Ew:((wrap64 (IW+Uf)) == 0) = false:=beq_eq_false_iff_ne.mpr c5
  have aam:((wrap64 (IW+Uf)) != 0) = true:=bne_iff_ne.mpr c5
  have MU:=Option.some.inj H
  rw [hr_.out] at MU
  cases MU
end Go.Proofs.Ytmhaiihjfgfaoaa.Pr
end
section
namespace Go.Proofs.YtmhaiihjfgfaoaaW.PrintWords
open Go.ChangeShapes Go.WideShapes
end Go.Proofs.YtmhaiihjfgfaoaaW.PrintWords
end
section
namespace Go.Proofs.YtmhaiihjfgfaoaaW.iY
open Go.RowKit Go.Proofs.YtmhaiihjfgfaoaaW.PrintWords Go.Deep Go.ChangeShapes Go.WideShapes
set_option linter.unusedVariables false
section
variable {H:Type} {enc:TypeId × Value→H} {P:Program}
def iY {α:Type} (enc:TypeId × Value→H) (P:Program) (t:TypeId) (K:Kd α) (G:α→Prop):Prop :=
 ∀ (w:World) (fuel:Nat) (cs:List Value) (x:DataW H × List MemPlace),DataW.trod enc P w 0 (fun _=>true) true fuel t cs = some x→(DataW.weights P t x.1).all (·≤reachBytes) = true→∃ y,K.K w y cs∧G y
theorem iY.int {t:TypeId} {k:IntKind} (hu:P.underlying t = some (.int k)):iY enc P t (Kd.int k) (fun n=>(Lit.int k n).wf = true):=by
 intro w fuel cs x h _
 cases fuel with
 |zero=>simp [DataW.trod] at h
 |succ n =>
  unfold DataW.trod at h
  rw [hu] at h
  split at h <;> simp_all
  obtain ⟨⟨rfl,hw⟩,_⟩:=h
  rename_i n _ _
  exact ⟨_,rfl,hw⟩
theorem iY.bool {t:TypeId} (hu:P.underlying t = some .bool):iY enc P t Kd.bool (fun _=>True):=by
 intro w fuel cs x h _
 cases fuel with
 |zero=>simp [DataW.trod] at h
 |succ n =>
  unfold DataW.trod at h
  rw [hu] at h
  split at h <;> simp_all
  rename_i b _
  cases b
  ·exact .inl rfl
  ·exact .inr rfl
def jw {α:Type} (enc:TypeId × Value→H) (P:Program) (off:Nat) (fs:List Field) (K:Kd α) (G:α→Prop):Prop :=
 ∀ (w:World) (fuel:Nat) (cs:List Value) (xs:List (DataW H × List MemPlace)),cs.length = off+K.sz→xs.length = fs.length→
  (∀ (i:Nat) (f:Field),fs[i]? = some f→DataW.trod enc P w 0 (fun _=>true) true fuel f.type ((cs.drop f.offset).take (P.cellsOf f.type)) = xs[i]?)→
  (DataW.weightsEach P (fs.map (·.type)) (xs.map (·.1))).all (·≤reachBytes) = true→∃ y,K.K w y (cs.drop off)∧G y
theorem jw.one {α:Type} {off:Nat} {f:Field} {K:Kd α} {G:α→Prop} (hoff:f.offset = off) (hsz:P.cellsOf f.type = K.sz) (h:iY enc P f.type K G):jw enc P off [f] K G:=by
 intro w fuel cs xs hl hx hi hw
 obtain ⟨x,rfl⟩:∃ x,xs = [x]:=by
  match xs,hx with
  |[x],_=>exact ⟨x,rfl⟩
 have h1:=hi 0 f rfl
 rw [hoff,hsz,List.take_of_length_le (by simp;omega)] at h1
 exact h w fuel _ x h1 (by simpa [DataW.weightsEach] using hw)
theorem jw.cons {α β:Type} {off:Nat} {f:Field} {fs:List Field} {K:Kd α} {G:α→Prop} {K':Kd β} {G':β→Prop} (hoff:f.offset = off) (hsz:P.cellsOf f.type = K.sz) (h:iY enc P f.type K G) (h':jw enc P (off+K.sz) fs K' G'):
 jw enc P off (f :: fs) (Kd.pair K K') (fun y=>G y.1∧G' y.2):=by
 intro w fuel cs xs hl hx hi hw
 obtain ⟨x,xs',rfl⟩:∃ x xs',xs = x :: xs':=by
  match xs,hx with
  |x :: xs',_=>exact ⟨x,xs',rfl⟩
 have hl2:cs.length = off+(K.sz+K'.sz):=hl
 have h1:=hi 0 f rfl
 rw [hoff,hsz] at h1
 simp only [List.map_cons,DataW.weightsEach,List.all_append,Bool.and_eq_true] at hw
 obtain ⟨y,hy,gy⟩:=h w fuel _ x h1 hw.1
 obtain ⟨y',hy',gy'⟩:=h' w fuel cs xs' (by omega) (by simpa using hx) (fun i g hg=>by simpa using hi (i+1) g (by simpa using hg)) hw.2
 refine ⟨(y,y'),⟨_,_,?_,hy,hy'⟩,gy,gy'⟩
 rw [← List.drop_drop,List.take_append_drop]
theorem iY.struct {α β:Type} {t:TypeId} {fs:Array Field} {K:Kd α} {G:α→Prop} {f:β→α} (g:α→β) (hu:P.underlying t = some (.struct fs)) (hsz:P.cellsOf t = K.sz) (hg:∀ y,f (g y) = y) (h:jw enc P 0 fs.toList K G):
 iY enc P t (Kd.iso K f) (fun z=>G (f z)):=by
 intro w fuel cs x hx hw
 obtain ⟨xs,n,rfl,rfl,hl,hxl,hi⟩:=DataW.trod_struct hu hx
 obtain ⟨y,hy,gy⟩:=h w n cs xs (by omega) (by simpa using hxl) (fun i f hf=>hi i f (by simpa using hf)) (by simpa [DataW.weights,hu] using hw)
 refine ⟨g y,?_,by show G (f (g y));rw [hg];exact gy⟩
 show K.K w (f (g y)) cs
 rw [hg]
 simpa using hy
theorem L9 {α:Type} {Q:Nat→α→Prop}:∀ (n:Nat),(∀ i,i < n→∃ y,Q i y)→∃ ys:List α,ys.length = n∧∀ i y,ys[i]? = some y→Q i y
 |0,_=>⟨[],rfl,fun i y h=>by simp at h⟩
 |n+1,h=>by
  obtain ⟨ys,hl,hq⟩:=L9 n (fun i hi=>h i (by omega))
  obtain ⟨y,hy⟩:=h n (by omega)
  refine ⟨ys++[y],by simp [hl],fun i z hz=>?_⟩
  rw [List.getElem?_append] at hz
  split at hz
  ·exact hq i z hz
  ·rename_i hi
   obtain rfl:i = n:=by
    have:=(List.getElem?_eq_some_iff.1 hz).1
    simp at this
    omega
   simp [hl] at hz
   exact hz ▸ hy
theorem Bv {e:TypeId}:∀ {ds:List (DataW H)} {d:DataW H},(DataW.weightsAll P e ds).all (·≤reachBytes) = true→d ∈ ds→(DataW.weights P e d).all (·≤reachBytes) = true
 |[],_,_,h=>by cases h
 |a :: r,d,hw,h=>by
  simp only [DataW.weightsAll,List.all_append,Bool.and_eq_true] at hw
  rcases List.mem_cons.1 h with rfl|h
  ·exact hw.1
  ·exact Bv hw.2 h
theorem iY.slice {α:Type} {t e:TypeId} (e':Nat) {K:Kd α} {G:α→Prop} (hu:P.underlying t = some (.slice e)) (hsz:P.cellsOf e = K.sz) (h:iY enc P e K G):
 iY enc P t (Kd.slice e' K) (fun ys=>(∀ y ∈ ys,G y)∧ys.length*P.bytesOf e≤reachBytes):=by
 intro w fuel cs x hx hw
 rcases open_slice hu hx with ⟨rfl,rfl⟩|⟨a,len,cap,m,n,D,Pl,rfl,hb,hl,hm,hmm,rfl,hi⟩
 ·exact ⟨[],⟨none,0,rfl,by simp,⟨rfl,by simp,fun h=>by simp at h⟩⟩,by simp,by simp⟩
 ·have hmc:m = cap:=by simpa using hmm
  subst hmc
  simp only [DataW.weights,hu,List.all_cons,List.all_append,Bool.and_eq_true,decide_eq_true_eq,List.length_map,List.length_range] at hw
  obtain ⟨ys,hyl,hys⟩:=L9 (Q:=fun i y=>(∃ cs',w.cells? 0 (a.add (i*P.cellsOf e)) (P.cellsOf e) = some cs'∧K.K w y cs')∧G y) len (fun i hil=>by
   obtain ⟨cs',hc,ht⟩:=hi i (by omega)
   obtain ⟨y,hy,gy⟩:=h w n cs' _ ht (Bv hw.2.1 (List.mem_map.2 ⟨i,List.mem_range.2 hil,rfl⟩))
   exact ⟨y,⟨cs',hc,hy⟩,gy⟩)
  refine ⟨ys,⟨some a,m,by rw [hyl],by omega,hyl.trans hyl.symm |>.trans (by rfl),?_,fun _=>⟨a,rfl,fun j p hj=>?_⟩⟩,fun y hy=>?_,?_⟩
  ·unfold maxLen at hm
   omega
  ·obtain ⟨⟨cs',hc,hk⟩,_⟩:=hys j p hj
   obtain ⟨_,hcl,hcell⟩:=World.cells?_some hc
   refine ⟨cs',by rw [hcl,hsz],hk,fun i u hu'=>?_⟩
   have hlt:=(List.getElem?_eq_some_iff.1 hu').1
   rw [← Go.Deep.add_add,← hsz,hcell i (by omega),hu']
  ·obtain ⟨j,hj⟩:=List.getElem?_of_mem hy
   exact (hys j y hj).2
  ·refine Nat.le_trans (Nat.mul_le_mul_right _ (show ys.length≤len+(m - len) by omega)) hw.1
theorem iY.arg {α:Type} {t:TypeId} {K:Kd α} {G:α→Prop} (h:iY enc P t K G) {w:World} {v:Value} {d:DataW H} {p:List MemPlace} (ht:DataW.Trod enc P w 0 (fun _=>true) true t v d p)
 {ts:List TypeId} {ds:List (DataW H)} (hsz:(DataW.weightsEach P ts ds).all (·≤reachBytes) = true) {j:Nat} (hj:ts[j]? = some t) (hd:ds[j]? = some d):∃ y,K.K w y v.cells.toList∧G y:=by
 obtain ⟨fuel,hf⟩:=ht
 exact h w fuel _ _ hf (List.all_eq_true.2 fun n hn=>List.all_eq_true.1 hsz _ (DataW.weights_mem_each hj hd n hn))
end
end Go.Proofs.YtmhaiihjfgfaoaaW.iY
end
