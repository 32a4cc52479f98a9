import Derived.Test.YtmhaiihjfgfaoaaGzGliderReaches3
import Derived.Test.YtmhaiihjfgfaoaaGzGliderReaches6
import Derived.Test.YtmhaiihjfgfaoaaGzGliderReaches11
import Derived.Test.YtmhaiihjfgfaoaaGzGliderReaches4
open Go.Value renaming int → U
open Go.IntKind renaming i64 → Z
open Bool renaming true → ab, false → ac
section
namespace Go.Proofs.Ytmhaiihjfgfaoaa.Gl
open Go.RowKit Go.Shelf Go.Proofs.YtmhaiihjfgfaoaaW.PrintWords Go.Proofs.YtmhaiihjfgfaoaaW.PrintLast Go.Proofs.YtmhaiihjfgfaoaaW.PrintMore Go.Proofs.Ytmhaiihjfgfaoaa.Pr Go.Proofs.YtmhaiihjfgfaoaaW.Round
set_option linter.unusedVariables false
set_option linter.unusedSimpArgs false
attribute [local go_sem] eD eF fD fE eG
theorem Le {n:Int} (h0:-9223372036854775808≤n) (h1:n≤9223372036854775807):wrap64 n = n:=by unfold wrap64;omega
def ZT (v:nz):Bool:=lJ v.speed 0 5000 && lJ v.dive 1 131072 && BD v.use.f0 v.use.f1 0 1073741824 && BD v.drift.f0 v.drift.f1 0 1073741824 && lJ v.reserve 0 1073741824
def Rl (v:nz):Int:=if ZT v then 0 else 2
theorem Rm (x lo hi:Int):bR.f x lo hi = some (lJ x lo hi):=by
 unfold bR.f lJ
 by_cases h:x ≥ lo
 ·rw [if_pos h,show decide (lo≤x) = true from decide_eq_true h];simp
 ·rw [if_neg h,show decide (lo≤x) = false from decide_eq_false h];simp
theorem ahr (v:nz):dP.f 4 v.speed v.dive v.use.f0 v.use.f1 v.drift.f0 v.drift.f1 v.reserve = some (Rl v):=by
 unfold dP.f Rl ZT
 simp only [Rm,XJ 2,Option.bind_some]
 cases lJ v.speed 0 5000 <;> cases lJ v.dive 1 131072 <;> cases BD v.use.f0 v.use.f1 0 1073741824 <;> cases BD v.drift.f0 v.drift.f1 0 1073741824 <;> cases lJ v.reserve 0 1073741824 <;> rfl
theorem abb (v:nz) (w:World):Calls Try.prog 27 #[.agg #[U Z v.speed,U Z v.dive,U Z v.use.f0,U Z v.use.f1,U Z v.drift.f0,U Z v.drift.f1,U Z v.reserve]] w (sI (U Z (Rl v)) w):=dP.calls 4 _ _ _ _ _ _ _ _ w (ahr v)
def vw (x:dO):Bool:=(Ki x.f0.f0 x.f0.f1 && Ki x.f1.f0 x.f1.f1) && (lJ x.f0.f0 (-268435456) 268435456 && lJ x.f0.f1 (-268435456) 268435456 && lJ x.f1.f0 (-268435456) 268435456 && lJ x.f1.f1 (-268435456) 268435456)
def Hq (x:dO):Int:=if vw x then 0 else 2
theorem TE (k:Nat) (a b:lu):dB.f (k+3) [a,b] = some (if Ki a.f0 a.f1 && Ki b.f0 b.f1 then 0 else 2):=by
 unfold dB.f
 have e1:(([a,b]:List lu).length:Int) = 2:=rfl
 have r0:oO [a,b] 0 = a:=rfl
 have r1:oO [a,b] 1 = b:=rfl
 have w1:wrap64 (0+1) = 1:=Le (by decide) (by decide)
 have w2:wrap64 (1+1) = 2:=Le (by decide) (by decide)
 have step:∀ (c:lu) (r:Option Int),(if c.f0 > c.f1 then some 2 else if c.f0 < -1073741824 then some 2 else if c.f1 > 1073741824 then some 2 else r) = if Ki c.f0 c.f1 then r else some 2:=by
  intro c r
  cases h:Ki c.f0 c.f1 with
  |true =>
   have:=sU.1 h
   rw [if_neg (by omega),if_neg (by omega),if_neg (by omega),if_pos rfl]
  |false =>
   have hn:¬ (c.f0≤c.f1∧-1073741824≤c.f0∧c.f1≤1073741824):=fun h2=>by rw [sU.2 h2] at h;cases h
   rw [show (if false = true then r else some 2) = some 2 from rfl]
   by_cases h1:c.f0 > c.f1
   ·rw [if_pos h1]
   ·rw [if_neg h1]
    by_cases h2:c.f0 < -1073741824
    ·rw [if_pos h2]
    ·rw [if_neg h2,if_pos (by omega)]
 simp only [dB.l0,e1]
 rw [if_pos (by decide),if_pos (by decide),if_pos (by decide),r0,step]
 cases ha:Ki a.f0 a.f1 with
 |false=>rfl
 |true =>
  rw [if_pos rfl,w1,if_pos (by decide),if_pos (by decide),if_pos (by decide),r1,step]
  cases hb:Ki b.f0 b.f1 with
  |false=>rfl
  |true =>
   rw [if_pos rfl,w2,if_neg (by decide)]
   rfl
theorem Rn (x:dO):dR.f 4 x.f0.f0 x.f0.f1 x.f1.f0 x.f1.f1 = some (Hq x):=by
 unfold dR.f Hq vw
 rw [TE 1,Option.bind_some]
 cases h:(Ki x.f0.f0 x.f0.f1 && Ki x.f1.f0 x.f1.f1) with
 |false=>rfl
 |true =>
  rw [Bool.and_eq_true] at h
  have h1:=sU.1 h.1
  have h2:=sU.1 h.2
  have am:∀ a:Int,-1073741824≤a→a≤1073741824→dN.f a = some (max a (-a)):=fun a h0 h1=>by
   unfold dN.f
   rw [Cq,Le (by omega) (by omega)]
  rw [show (if (true = true) then (0:Int) else 2) = 0 from rfl,if_pos rfl]
  simp only [am _ h1.2.1 (by omega),am _ (show -1073741824≤x.f0.f1 by omega) h1.2.2,am _ h2.2.1 (by omega),am _ (show -1073741824≤x.f1.f1 by omega) h2.2.2,Option.bind_some,Cq]
  by_cases hb:max (max (max (max x.f0.f0 (-x.f0.f0)) (max x.f0.f1 (-x.f0.f1))) (max x.f1.f0 (-x.f1.f0))) (max x.f1.f1 (-x.f1.f1)) > 268435456
  ·rw [if_pos hb,if_neg]
   rw [Bool.true_and,Bool.and_eq_true,Bool.and_eq_true,Bool.and_eq_true,jK,jK,jK,jK]
   omega
  ·rw [if_neg hb,if_pos]
   rw [Bool.true_and,Bool.and_eq_true,Bool.and_eq_true,Bool.and_eq_true,jK,jK,jK,jK]
   omega
theorem akF (x:dO) (w:World):Calls Try.prog 67 #[.agg #[U Z x.f0.f0,U Z x.f0.f1,U Z x.f1.f0,U Z x.f1.f1]] w (sI (U Z (Hq x)) w):=dR.calls 4 _ _ _ _ _ w (Rn x)
def nD (x:dO) (t:Int):Int:=if Hq x≠0 then Hq x else if lJ t 0 1073741824 then 0 else 3
theorem ZU (x:dO) (t:Int):oz.f 4 x.f0.f0 x.f0.f1 x.f1.f0 x.f1.f1 t = some (nD x t):=by
 unfold oz.f nD
 rw [Rn,Option.bind_some,Rm,Option.bind_some]
 by_cases h:Hq x = 0
 ·rw [if_pos h,if_neg (show ¬ (Hq x≠0) from fun h2=>h2 h)]
  cases lJ t 0 1073741824 <;> rfl
 ·rw [if_neg h,if_pos h]
theorem TF (x:dO) (t:Int) (w:World):Calls Try.prog 114 #[.agg #[U Z x.f0.f0,U Z x.f0.f1,U Z x.f1.f0,U Z x.f1.f1],U Z t] w (sI (U Z (nD x t)) w):=oz.calls 4 _ _ _ _ _ _ w (ZU x t)
def UK (layers:Int) (c:Hm):Bool:=lJ c.f0 0 8 && decide (0≤c.f1) && (decide (layers < 0) || decide (c.f1 < layers))
def SK (l:List Hm) (layers:Int):Int:=if l.length > 64 then 6 else if l.all (UK layers) then 0 else 2
theorem ahs (layers:Int) (l:List Hm) (hl:l.length≤64):∀ (m i k:Nat),i+m = l.length→m < k→eQ.l0 k layers l (l.length:Int) (i:Int) = some (if (l.drop i).all (UK layers) then 0 else 2):=by
 intro m
 induction m with
 |zero =>
  intro i k h hk
  obtain ⟨k,rfl⟩:∃ q,k = q+1:=⟨k - 1,by omega⟩
  rw [eQ.l0,if_neg (by omega),List.drop_of_length_le (by omega)]
  rfl
 |succ m ih =>
  intro i k h hk
  obtain ⟨k,rfl⟩:∃ q,k = q+1:=⟨k - 1,by omega⟩
  have hi:i < l.length:=by omega
  have hr:o5 l (i:Int) = l[i]:=by
   unfold o5
   rw [List.getD_eq_getElem?_getD,Int.toNat_natCast,List.getElem?_eq_getElem hi]
   rfl
  have hih:=ih (i+1) k (by omega) (by omega)
  rw [eQ.l0,if_pos (by omega),if_pos (by omega),if_pos (by omega),hr,Le (by omega) (by omega),show ((i:Int)+1) = ((i+1:Nat):Int) by omega,hih,List.drop_eq_getElem_cons hi,List.all_cons]
  cases hb:UK layers l[i] with
  |true =>
   have hb2:UK layers l[i] = true:=hb
   unfold UK at hb2
   simp only [Bool.and_eq_true,Bool.or_eq_true,decide_eq_true_eq,jK] at hb2
   rw [Bool.true_and,if_neg (by omega),if_neg (by omega),if_neg (by omega)]
   by_cases h0:layers ≥ 0
   ·rw [if_pos h0,if_neg (by omega)]
   ·rw [if_neg h0]
  |false =>
   have hn:¬ ((0≤l[i].f0∧l[i].f0≤8)∧0≤l[i].f1∧(layers < 0∨l[i].f1 < layers)):=fun h2=>by
    have:UK layers l[i] = true:=by
     unfold UK
     simp only [Bool.and_eq_true,Bool.or_eq_true,decide_eq_true_eq,jK]
     exact ⟨⟨h2.1,h2.2.1⟩,h2.2.2⟩
    rw [this] at hb
    cases hb
   rw [Bool.false_and,if_neg (show ¬ (false = true) by decide)]
   by_cases a1:l[i].f0 < 0
   ·rw [if_pos a1]
   ·rw [if_neg a1]
    by_cases a2:l[i].f0 ≥ 9
    ·rw [if_pos a2]
    ·rw [if_neg a2]
     by_cases a3:l[i].f1 < 0
     ·rw [if_pos a3]
     ·rw [if_neg a3,if_pos (by omega),if_pos (by omega)]
theorem aht (l:List Hm) (layers:Int):eQ.f 66 l layers = some (SK l layers):=by
 unfold eQ.f SK
 by_cases h:l.length > 64
 ·rw [if_pos (by omega),if_pos h]
 ·rw [if_neg (by omega),if_neg h]
  have:=ahs layers l (by omega) l.length 0 66 (by omega) (by omega)
  rw [List.drop_zero] at this
  exact this
theorem akG (A:Option Addr) (c:Nat) (l:List Hm) (layers:Int) (w:World) (hC:Kd.C k33 w A l.length l) (hc:l.length≤c):Calls Try.prog 65 #[.slice A l.length c,U Z layers] w (sI (U Z (SK l layers)) w):=eQ.calls 66 _ _ _ _ _ w hC hc (aht l layers)
theorem UL (s:j3):(zQ s = 0∧XK s = true)∨zQ s = 2:=by
 unfold zQ
 cases XK s
 ·exact .inr rfl
 ·exact .inl ⟨rfl,rfl⟩
theorem UM (v:nz):(Rl v = 0∧ZT v = true)∨Rl v = 2:=by
 unfold Rl
 cases ZT v
 ·exact .inr rfl
 ·exact .inl ⟨rfl,rfl⟩
theorem ahu {lo hi a b:Int}:BD lo hi a b = true↔(lo≤hi∧-1073741824≤lo∧hi≤1073741824)∧a≤lo∧hi≤b:=by unfold BD;simp only [Bool.and_eq_true,decide_eq_true_eq,sU];exact and_assoc
theorem akH {s:j3} (h:XK s = true):ER s:=by
 unfold XK at h
 simp only [Bool.and_eq_true,decide_eq_true_eq,jK,Bool.not_eq_true'] at h
 obtain ⟨⟨⟨⟨⟨⟨⟨⟨⟨h0,h1⟩,h2⟩,h3⟩,h4⟩,h5⟩,h6⟩,h7⟩,h8⟩,h9⟩:=h
 refine ⟨⟨h0,h1,h2,h3,h4,h5,h6⟩,h7,h8,fun c hc=>?_⟩
 have:=List.any_eq_false.1 h9 c hc
 unfold SL at this
 simp only [Bool.not_eq_true,Bool.or_eq_false_iff,Bool.not_eq_false',ahu] at this
 omega
theorem akI {v:nz} (h:ZT v = true):wO v:=by
 unfold ZT at h
 simp only [Bool.and_eq_true,jK] at h
 exact ⟨h.1.1.1.1,h.1.1.1.2⟩
theorem abd {x:dO} (h:Hq x = 0):kG x:=by
 unfold Hq at h
 cases hb:vw x with
 |false=>rw [hb] at h;cases h
 |true =>
  unfold vw at hb
  simp only [Bool.and_eq_true,jK,sU] at hb
  unfold kG EN
  omega
def kI (s:j3) (v:nz):Int:=if zQ s≠0 then zQ s else Rl v
theorem BF {s:j3} {v:nz} (h:kI s v = 0):ER s∧wO v:=by
 unfold kI at h
 rcases UL s with ⟨h1,h2⟩|h1
 ·rw [if_neg (by omega)] at h
  rcases UM v with ⟨h3,h4⟩|h3
  ·exact ⟨akH h2,akI h4⟩
  ·omega
 ·rw [if_pos (by omega)] at h
  omega
def XL (s:j3) (v:nz) (E:Int) (w:World) (e:Ending) (w':World):Prop :=
 ∃ ptr,e = .returned (.tuple #[.pointer ptr,U Z E])∧Below w.heap.size w w'∧((kI s v = 0∧∃ g,ptr = some ⟨g,0,none⟩∧w.heap.size≤g∧jo w' g s v)∨(kI s v≠0∧ptr = none))
set_option maxRecDepth 100000 in
set_option maxHeartbeats 4000000 in
theorem XM (s:j3) (v:nz) (A7 A8:Option Addr) (c7 c8:Nat) (w:World) (h7:s.shores.length≤c7) (TG:Kd.C Kd.bool w A7 s.shores.length s.shores) (h8:s.currents.length≤c8) (PM:Kd.C DD w A8 s.currents.length s.currents):
 Calls Try.prog 113 #[.agg #[U Z s.nx,U Z s.ny,U Z s.cell,U Z s.slot,U Z s.slots,U Z s.layers,U Z s.most,.slice A7 s.shores.length c7,.slice A8 s.currents.length c8],.agg #[U Z v.speed,U Z v.dive,U Z v.use.f0,U Z v.use.f1,U Z v.drift.f0,U Z v.drift.f1,U Z v.reserve]] w (XL s v (kI s v) w):=by
 have zR:=Try.underlying25
 have Cb:=Try.underlying29
 have axv:=Try.underlying110
 have HE:Hid (kI s v = if zQ s≠0 then zQ s else Rl v):=Lib.hid rfl
 go_enter Try.func113,Try.ntmps113
 go_wp2_with fail
 have m2:eT ((w.alloc (.cells #[U Z s.nx,U Z s.ny,U Z s.cell,U Z s.slot,U Z s.slots,U Z s.layers,U Z s.most,.slice A7 s.shores.length c7,.slice A8 s.currents.length c8] 25)).alloc (.cells #[U Z v.speed,U Z v.dive,U Z v.use.f0,U Z v.use.f1,U Z v.drift.f0,U Z v.drift.f1,U Z v.reserve] 29)) (w.heap.size) #[U Z s.nx,U Z s.ny,U Z s.cell,U Z s.slot,U Z s.slots,U Z s.layers,U Z s.most,.slice A7 s.shores.length c7,.slice A8 s.currents.length c8] 25:=(ae UN _)
 have m3:eT ((w.alloc (.cells #[U Z s.nx,U Z s.ny,U Z s.cell,U Z s.slot,U Z s.slots,U Z s.layers,U Z s.most,.slice A7 s.shores.length c7,.slice A8 s.currents.length c8] 25)).alloc (.cells #[U Z v.speed,U Z v.dive,U Z v.use.f0,U Z v.use.f1,U Z v.drift.f0,U Z v.drift.f1,U Z v.reserve] 29)) (w.heap.size+1) #[U Z v.speed,U Z v.dive,U Z v.use.f0,U Z v.use.f1,U Z v.drift.f0,U Z v.drift.f1,U Z v.reserve] 29:=XN
 have mB:Below w.heap.size w ((w.alloc (.cells #[U Z s.nx,U Z s.ny,U Z s.cell,U Z s.slot,U Z s.slots,U Z s.layers,U Z s.most,.slice A7 s.shores.length c7,.slice A8 s.currents.length c8] 25)).alloc (.cells #[U Z v.speed,U Z v.dive,U Z v.use.f0,U Z v.use.f1,U Z v.drift.f0,U Z v.drift.f1,U Z v.reserve] 29)):=(aT (aT (Below.refl w.heap.size w) _) _)
 have jS:w.heap.size≤w.heap.size:=Nat.le_refl _
 generalize qL:((w.alloc (.cells #[U Z s.nx,U Z s.ny,U Z s.cell,U Z s.slot,U Z s.slots,U Z s.layers,U Z s.most,.slice A7 s.shores.length c7,.slice A8 s.currents.length c8] 25)).alloc (.cells #[U Z v.speed,U Z v.dive,U Z v.use.f0,U Z v.use.f1,U Z v.drift.f0,U Z v.drift.f1,U Z v.reserve] 29)) = W1 at m2 m3 mB ⊢
 clear qL
 generalize hg2:w.heap.size = g2 at m2 m3 ⊢
 have hG2:w.heap.size≤g2:=by omega
 generalize hg3:g2+1 = g3 at m3 ⊢
 have Ky:g2≠g3:=by omega
 have ZV:g3≠g2:=Ky.symm
 have hG3:w.heap.size≤g3:=by omega
 clear jS
 try clear hg3
 try clear hg2
 have wG:w.heap.size≤W1.heap.size:=mB.size
 have hcon:=abe s A7 A8 c7 c8 W1 h7 (Kd.bz TG mB) h8 (Kd.bz PM mB)
 (with_reducible refine hcon.mono ?_)
 clear hcon
 rintro e W2 ⟨rfl,hb⟩
 replace m2:=av m2 hb
 replace m3:=av m3 hb
 replace mB:=bO mB hb
 clear hb
 have sO:w.heap.size≤W2.heap.size:=mB.size
 rcases UL s with ⟨h1,_⟩|h1
 case inr =>
  have HZ:Hid (kI s v = 2):=Lib.hid (HE.out.trans (by rw [h1];rfl))
  rw [h1]
  clear h1 HE
  go_wp2
  go_ret2
  exact ⟨none,o6,mB,.inr ⟨by rw [HZ.out];decide,rfl⟩⟩
 case inl =>
  have HE2:=Lib.hid (HE.out.trans (if_neg (by omega)))
  clear HE
  rw [h1]
  clear h1
  obtain ⟨ahv,ahw,ahx,ahy,ahz,ahA,ahB⟩:=Hr m3
  go_wp2_with fail
  clear ahv ahw ahx ahy ahz ahA ahB
  have hcon:=abb v W2
  (with_reducible refine hcon.mono ?_)
  clear hcon
  rintro e W3 ⟨rfl,hb⟩
  replace m2:=av m2 hb
  replace m3:=av m3 hb
  replace mB:=bO mB hb
  clear hb
  have Ha:w.heap.size≤W3.heap.size:=mB.size
  rcases UM v with ⟨h1,_⟩|h1
  case inr =>
   have HE:=HE2
   have HZ:Hid (kI s v = 2):=Lib.hid (HE2.out.trans h1)
   rw [h1]
   clear h1 HE
   go_wp2
   go_ret2
   exact ⟨none,o6,mB,.inr ⟨by rw [HZ.out];decide,rfl⟩⟩
  case inl =>
   have HZ:=Lib.hid (HE2.out.trans h1)
   rw [h1]
   clear h1 HE2
   obtain ⟨auP,auQ,auR,auS,aN1,aN2,aN3,aN4,aN5⟩:=BG m2
   obtain ⟨ahv,ahw,ahx,ahy,ahz,ahA,ahB⟩:=Hr m3
   go_wp2
   go_ret2
   exact ⟨_,o6,aT mB _,.inl ⟨HZ.out,W3.heap.size,rfl,mB.size,A7,c7,A8,c8,eP W3 (.cells #[U Z s.nx,U Z s.ny,U Z s.cell,U Z s.slot,U Z s.slots,U Z s.layers,U Z s.most,.slice A7 s.shores.length c7,.slice A8 s.currents.length c8,U Z v.speed,U Z v.dive,U Z v.use.f0,U Z v.use.f1,U Z v.drift.f0,U Z v.drift.f1,U Z v.reserve] 110),h7,Kd.bz TG (aT mB _),h8,Kd.bz PM (aT mB _)⟩⟩
def ky (s:j3) (v:nz) (x:dO) (t:Int):Int:=if kI s v≠0 then kI s v else nD x t
set_option maxRecDepth 100000 in
set_option maxHeartbeats 4000000 in
theorem NI (s:j3) (v:nz) (x:dO) (t:Int) (A7 A8:Option Addr) (c7 c8:Nat) (w:World) (h7:s.shores.length≤c7) (TG:Kd.C Kd.bool w A7 s.shores.length s.shores) (h8:s.currents.length≤c8) (PM:Kd.C DD w A8 s.currents.length s.currents):
 Calls Try.prog 64 #[.agg #[U Z s.nx,U Z s.ny,U Z s.cell,U Z s.slot,U Z s.slots,U Z s.layers,U Z s.most,.slice A7 s.shores.length c7,.slice A8 s.currents.length c8],.agg #[U Z v.speed,U Z v.dive,U Z v.use.f0,U Z v.use.f1,U Z v.drift.f0,U Z v.drift.f1,U Z v.reserve],.agg #[U Z x.f0.f0,U Z x.f0.f1,U Z x.f1.f0,U Z x.f1.f1],U Z t] w (XL s v (ky s v x t) w):=by
 have zR:=Try.underlying25
 have Cb:=Try.underlying29
 have oP:=Try.underlying31
 have HE:Hid (ky s v x t = if kI s v≠0 then kI s v else nD x t):=Lib.hid rfl
 go_enter Try.func64,Try.ntmps64
 go_wp2_with fail
 have m4:eT (((w.alloc (.cells #[U Z s.nx,U Z s.ny,U Z s.cell,U Z s.slot,U Z s.slots,U Z s.layers,U Z s.most,.slice A7 s.shores.length c7,.slice A8 s.currents.length c8] 25)).alloc (.cells #[U Z v.speed,U Z v.dive,U Z v.use.f0,U Z v.use.f1,U Z v.drift.f0,U Z v.drift.f1,U Z v.reserve] 29)).alloc (.cells #[U Z x.f0.f0,U Z x.f0.f1,U Z x.f1.f0,U Z x.f1.f1] 31)) (w.heap.size) #[U Z s.nx,U Z s.ny,U Z s.cell,U Z s.slot,U Z s.slots,U Z s.layers,U Z s.most,.slice A7 s.shores.length c7,.slice A8 s.currents.length c8] 25:=(ae (ae UN _) _)
 have m5:eT (((w.alloc (.cells #[U Z s.nx,U Z s.ny,U Z s.cell,U Z s.slot,U Z s.slots,U Z s.layers,U Z s.most,.slice A7 s.shores.length c7,.slice A8 s.currents.length c8] 25)).alloc (.cells #[U Z v.speed,U Z v.dive,U Z v.use.f0,U Z v.use.f1,U Z v.drift.f0,U Z v.drift.f1,U Z v.reserve] 29)).alloc (.cells #[U Z x.f0.f0,U Z x.f0.f1,U Z x.f1.f0,U Z x.f1.f1] 31)) (w.heap.size+1) #[U Z v.speed,U Z v.dive,U Z v.use.f0,U Z v.use.f1,U Z v.drift.f0,U Z v.drift.f1,U Z v.reserve] 29:=(ae XN _)
 have m6:eT (((w.alloc (.cells #[U Z s.nx,U Z s.ny,U Z s.cell,U Z s.slot,U Z s.slots,U Z s.layers,U Z s.most,.slice A7 s.shores.length c7,.slice A8 s.currents.length c8] 25)).alloc (.cells #[U Z v.speed,U Z v.dive,U Z v.use.f0,U Z v.use.f1,U Z v.drift.f0,U Z v.drift.f1,U Z v.reserve] 29)).alloc (.cells #[U Z x.f0.f0,U Z x.f0.f1,U Z x.f1.f0,U Z x.f1.f1] 31)) (w.heap.size+1+1) #[U Z x.f0.f0,U Z x.f0.f1,U Z x.f1.f0,U Z x.f1.f1] 31:=aff
 have mB:Below w.heap.size w (((w.alloc (.cells #[U Z s.nx,U Z s.ny,U Z s.cell,U Z s.slot,U Z s.slots,U Z s.layers,U Z s.most,.slice A7 s.shores.length c7,.slice A8 s.currents.length c8] 25)).alloc (.cells #[U Z v.speed,U Z v.dive,U Z v.use.f0,U Z v.use.f1,U Z v.drift.f0,U Z v.drift.f1,U Z v.reserve] 29)).alloc (.cells #[U Z x.f0.f0,U Z x.f0.f1,U Z x.f1.f0,U Z x.f1.f1] 31)):=(aT (aT (aT (Below.refl w.heap.size w) _) _) _)
 have jS:w.heap.size≤w.heap.size:=Nat.le_refl _
 generalize qL:(((w.alloc (.cells #[U Z s.nx,U Z s.ny,U Z s.cell,U Z s.slot,U Z s.slots,U Z s.layers,U Z s.most,.slice A7 s.shores.length c7,.slice A8 s.currents.length c8] 25)).alloc (.cells #[U Z v.speed,U Z v.dive,U Z v.use.f0,U Z v.use.f1,U Z v.drift.f0,U Z v.drift.f1,U Z v.reserve] 29)).alloc (.cells #[U Z x.f0.f0,U Z x.f0.f1,U Z x.f1.f0,U Z x.f1.f1] 31)) = W1 at m4 m5 m6 mB ⊢
 clear qL
 generalize hg4:w.heap.size = g4 at m4 m5 m6 ⊢
 have hG4:w.heap.size≤g4:=by omega
 generalize hg5:g4+1 = g5 at m5 m6 ⊢
 have pV:g4≠g5:=by omega
 have UO:g5≠g4:=pV.symm
 have hG5:w.heap.size≤g5:=by omega
 generalize UC:g5+1 = g6 at m6 ⊢
 have zS:g4≠g6:=by omega
 have o7:g5≠g6:=by omega
 have UQ:g6≠g4:=zS.symm
 have lC:g6≠g5:=o7.symm
 have SC:w.heap.size≤g6:=by omega
 clear jS
 try clear UC
 try clear hg5
 try clear hg4
 have wG:w.heap.size≤W1.heap.size:=mB.size
 have hcon:=XM s v A7 A8 c7 c8 W1 h7 (Kd.bz TG mB) h8 (Kd.bz PM mB)
 (with_reducible refine hcon.mono ?_)
 clear hcon
 rintro e W2 ⟨ptr,rfl,hb,⟨h0,g,rfl,hg,hT⟩|⟨h0,rfl⟩⟩
 case inr =>
  have HZ:=Lib.hid (HE.out.trans (if_pos h0))
  replace mB:=bO mB hb
  clear hb HE
  have h00:=Lib.hid h0
  generalize XO:kI s v = E0 at*
  have hE:=Lib.hid XO
  clear XO
  have hd:(E0 == 0) = false:=beq_eq_false_iff_ne.2 h0
  have hd2:(E0 != 0) = true:=by rw [bne,hd];rfl
  clear h0
  go_wp2
  go_ret2
  exact ⟨none,o6,mB,.inr ⟨by rw [hE.out];exact h00.out,rfl⟩⟩
 case inl =>
  have HZ:=Lib.hid (HE.out.trans (if_neg (fun h=>h h0)))
  clear HE
  have hg0:w.heap.size≤g:=Nat.le_trans (m:=W1.heap.size) (by assumption) hg
  replace m4:=av m4 hb
  replace m5:=av m5 hb
  replace m6:=av m6 hb
  replace mB:=bO mB hb
  clear hb
  have H0:=Lib.hid h0
  rw [h0]
  clear h0
  have sO:w.heap.size≤W2.heap.size:=mB.size
  obtain ⟨DF,Kz,KA,KC⟩:=nV m6
  go_wp2_with fail
  clear DF Kz KA KC
  have hcon:=TF x t W2
  (with_reducible refine hcon.mono ?_)
  clear hcon
  rintro e W3 ⟨rfl,hb⟩
  replace hT:=hT.below hb
  replace m4:=av m4 hb
  replace m5:=av m5 hb
  replace m6:=av m6 hb
  replace mB:=bO mB hb
  clear hb
  go_wp2
  go_ret2
  exact ⟨_,o6,mB,.inl ⟨H0.out,g,rfl,hg0,hT⟩⟩
theorem zG {a b:Int} (h:(if a≠0 then a else b) = 0):a = 0∧b = 0:=by
 by_cases h0:a = 0
 ·rw [if_neg (fun h=>h h0)] at h
  exact ⟨h0,h⟩
 ·rw [if_pos h0] at h
  exact absurd h h0
theorem akJ {W:World} {b:Nat} {x y:Int} (h:W.heap[b]? = some (.cells #[U Z x,U Z y] 33 (0,0))):Kd.C k33 W (some ⟨b,0,none⟩) 1 [⟨x,y⟩]:=by
 refine ⟨rfl,by decide,fun _=>⟨⟨b,0,none⟩,rfl,fun j p hj=>?_⟩⟩
 match j,hj with
 |0,hj =>
  obtain rfl:(⟨x,y⟩:Hm) = p:=by simpa using hj
  refine ⟨_,rfl,auT W ⟨x,y⟩,fun i u hu=>?_⟩
  match i,hu with
  |0,hu=>exact ((af h 0).trans (by simpa using hu))
  |1,hu=>exact ((af h 1).trans (by simpa using hu))
theorem akK {hd layer layers:Int} (hl:1≤layers) (h:SK [⟨hd,layer⟩] layers = 0):(0≤hd∧hd≤8)∧0≤layer∧layer < layers:=by
 unfold SK at h
 cases hb:([⟨hd,layer⟩]:List Hm).all (UK layers) with
 |false=>rw [hb] at h;simp at h
 |true =>
  simp only [List.all_cons,List.all_nil,Bool.and_true,UK,Bool.and_eq_true,Bool.or_eq_true,decide_eq_true_eq,jK] at hb
  omega
theorem BH {x:dO} {t:Int} (h:nD x t = 0):kG x∧0≤t∧t≤1073741824:=by
 unfold nD at h
 obtain ⟨h1,h2⟩:=zG h
 refine ⟨abd h1,?_⟩
 cases hb:lJ t 0 1073741824 with
 |false=>rw [hb] at h2;simp at h2
 |true=>exact jK.1 hb
def Ro (s:j3) (v:nz) (x:dO) (t hd layer:Int):Int:=if ky s v x t≠0 then ky s v x t else if SK [⟨hd,layer⟩] s.layers≠0 then SK [⟨hd,layer⟩] s.layers else K9 s v x t
def GQ (s:j3) (v:nz) (x:dO) (t hd layer:Int):dO:=if Ro s v x t hd layer = 0 then GM s v x t hd layer else z31
set_option maxRecDepth 100000 in
set_option maxHeartbeats 8000000 in
theorem ahC (s:j3) (v:nz) (x:dO) (t hd layer:Int) (A7 A8:Option Addr) (c7 c8:Nat) (w:World) (h7:s.shores.length≤c7) (TG:Kd.C Kd.bool w A7 s.shores.length s.shores) (h8:s.currents.length≤c8) (PM:Kd.C DD w A8 s.currents.length s.currents):
 Calls Try.prog 20 #[.agg #[U Z s.nx,U Z s.ny,U Z s.cell,U Z s.slot,U Z s.slots,U Z s.layers,U Z s.most,.slice A7 s.shores.length c7,.slice A8 s.currents.length c8],.agg #[U Z v.speed,U Z v.dive,U Z v.use.f0,U Z v.use.f1,U Z v.drift.f0,U Z v.drift.f1,U Z v.reserve],.agg #[U Z x.f0.f0,U Z x.f0.f1,U Z x.f1.f0,U Z x.f1.f1],U Z t,.agg #[U Z hd,U Z layer]] w (sI (.tuple #[.agg #[U Z (GQ s v x t hd layer).f0.f0,U Z (GQ s v x t hd layer).f0.f1,U Z (GQ s v x t hd layer).f1.f0,U Z (GQ s v x t hd layer).f1.f1],U Z (Ro s v x t hd layer)]) w):=by
 have zR:=Try.underlying25
 have Cb:=Try.underlying29
 have oP:=Try.underlying31
 have SH:=Try.underlying33
 have oo:=Try.underlying27
 have HE:Hid (Ro s v x t hd layer = if ky s v x t≠0 then ky s v x t else if SK [⟨hd,layer⟩] s.layers≠0 then SK [⟨hd,layer⟩] s.layers else K9 s v x t):=Lib.hid rfl
 have HV:Hid (GQ s v x t hd layer = if Ro s v x t hd layer = 0 then GM s v x t hd layer else z31):=Lib.hid rfl
 go_enter Try.func20,Try.ntmps20
 go_wp2_with fail
 have m5:eT (((((w.alloc (.cells #[U Z s.nx,U Z s.ny,U Z s.cell,U Z s.slot,U Z s.slots,U Z s.layers,U Z s.most,.slice A7 s.shores.length c7,.slice A8 s.currents.length c8] 25)).alloc (.cells #[U Z v.speed,U Z v.dive,U Z v.use.f0,U Z v.use.f1,U Z v.drift.f0,U Z v.drift.f1,U Z v.reserve] 29)).alloc (.cells #[U Z x.f0.f0,U Z x.f0.f1,U Z x.f1.f0,U Z x.f1.f1] 31)).alloc (.cells #[U Z hd,U Z layer] 33)).alloc (.cells #[U Z 0,U Z 0,U Z 0,U Z 0] 31)) (w.heap.size) #[U Z s.nx,U Z s.ny,U Z s.cell,U Z s.slot,U Z s.slots,U Z s.layers,U Z s.most,.slice A7 s.shores.length c7,.slice A8 s.currents.length c8] 25:=(ae (ae (ae (ae UN _) _) _) _)
 have m6:eT (((((w.alloc (.cells #[U Z s.nx,U Z s.ny,U Z s.cell,U Z s.slot,U Z s.slots,U Z s.layers,U Z s.most,.slice A7 s.shores.length c7,.slice A8 s.currents.length c8] 25)).alloc (.cells #[U Z v.speed,U Z v.dive,U Z v.use.f0,U Z v.use.f1,U Z v.drift.f0,U Z v.drift.f1,U Z v.reserve] 29)).alloc (.cells #[U Z x.f0.f0,U Z x.f0.f1,U Z x.f1.f0,U Z x.f1.f1] 31)).alloc (.cells #[U Z hd,U Z layer] 33)).alloc (.cells #[U Z 0,U Z 0,U Z 0,U Z 0] 31)) (w.heap.size+1) #[U Z v.speed,U Z v.dive,U Z v.use.f0,U Z v.use.f1,U Z v.drift.f0,U Z v.drift.f1,U Z v.reserve] 29:=(ae (ae (ae XN _) _) _)
 have m7:eT (((((w.alloc (.cells #[U Z s.nx,U Z s.ny,U Z s.cell,U Z s.slot,U Z s.slots,U Z s.layers,U Z s.most,.slice A7 s.shores.length c7,.slice A8 s.currents.length c8] 25)).alloc (.cells #[U Z v.speed,U Z v.dive,U Z v.use.f0,U Z v.use.f1,U Z v.drift.f0,U Z v.drift.f1,U Z v.reserve] 29)).alloc (.cells #[U Z x.f0.f0,U Z x.f0.f1,U Z x.f1.f0,U Z x.f1.f1] 31)).alloc (.cells #[U Z hd,U Z layer] 33)).alloc (.cells #[U Z 0,U Z 0,U Z 0,U Z 0] 31)) (w.heap.size+1+1) #[U Z x.f0.f0,U Z x.f0.f1,U Z x.f1.f0,U Z x.f1.f1] 31:=(ae (ae aff _) _)
 have m9:eT (((((w.alloc (.cells #[U Z s.nx,U Z s.ny,U Z s.cell,U Z s.slot,U Z s.slots,U Z s.layers,U Z s.most,.slice A7 s.shores.length c7,.slice A8 s.currents.length c8] 25)).alloc (.cells #[U Z v.speed,U Z v.dive,U Z v.use.f0,U Z v.use.f1,U Z v.drift.f0,U Z v.drift.f1,U Z v.reserve] 29)).alloc (.cells #[U Z x.f0.f0,U Z x.f0.f1,U Z x.f1.f0,U Z x.f1.f1] 31)).alloc (.cells #[U Z hd,U Z layer] 33)).alloc (.cells #[U Z 0,U Z 0,U Z 0,U Z 0] 31)) (w.heap.size+1+1+1) #[U Z hd,U Z layer] 33:=(ae (by have h_:=eP (((w.alloc (.cells #[U Z s.nx,U Z s.ny,U Z s.cell,U Z s.slot,U Z s.slots,U Z s.layers,U Z s.most,.slice A7 s.shores.length c7,.slice A8 s.currents.length c8] 25)).alloc (.cells #[U Z v.speed,U Z v.dive,U Z v.use.f0,U Z v.use.f1,U Z v.drift.f0,U Z v.drift.f1,U Z v.reserve] 29)).alloc (.cells #[U Z x.f0.f0,U Z x.f0.f1,U Z x.f1.f0,U Z x.f1.f1] 31)) (.cells #[U Z hd,U Z layer] 33);first|exact h_|(simp only [World.size_alloc] at h_;exact h_)) _)
 have m10:eT (((((w.alloc (.cells #[U Z s.nx,U Z s.ny,U Z s.cell,U Z s.slot,U Z s.slots,U Z s.layers,U Z s.most,.slice A7 s.shores.length c7,.slice A8 s.currents.length c8] 25)).alloc (.cells #[U Z v.speed,U Z v.dive,U Z v.use.f0,U Z v.use.f1,U Z v.drift.f0,U Z v.drift.f1,U Z v.reserve] 29)).alloc (.cells #[U Z x.f0.f0,U Z x.f0.f1,U Z x.f1.f0,U Z x.f1.f1] 31)).alloc (.cells #[U Z hd,U Z layer] 33)).alloc (.cells #[U Z 0,U Z 0,U Z 0,U Z 0] 31)) (w.heap.size+1+1+1+1) #[U Z 0,U Z 0,U Z 0,U Z 0] 31:=(by have h_:=eP ((((w.alloc (.cells #[U Z s.nx,U Z s.ny,U Z s.cell,U Z s.slot,U Z s.slots,U Z s.layers,U Z s.most,.slice A7 s.shores.length c7,.slice A8 s.currents.length c8] 25)).alloc (.cells #[U Z v.speed,U Z v.dive,U Z v.use.f0,U Z v.use.f1,U Z v.drift.f0,U Z v.drift.f1,U Z v.reserve] 29)).alloc (.cells #[U Z x.f0.f0,U Z x.f0.f1,U Z x.f1.f0,U Z x.f1.f1] 31)).alloc (.cells #[U Z hd,U Z layer] 33)) (.cells #[U Z 0,U Z 0,U Z 0,U Z 0] 31);first|exact h_|(simp only [World.size_alloc] at h_;exact h_))
 have mB:Below w.heap.size w (((((w.alloc (.cells #[U Z s.nx,U Z s.ny,U Z s.cell,U Z s.slot,U Z s.slots,U Z s.layers,U Z s.most,.slice A7 s.shores.length c7,.slice A8 s.currents.length c8] 25)).alloc (.cells #[U Z v.speed,U Z v.dive,U Z v.use.f0,U Z v.use.f1,U Z v.drift.f0,U Z v.drift.f1,U Z v.reserve] 29)).alloc (.cells #[U Z x.f0.f0,U Z x.f0.f1,U Z x.f1.f0,U Z x.f1.f1] 31)).alloc (.cells #[U Z hd,U Z layer] 33)).alloc (.cells #[U Z 0,U Z 0,U Z 0,U Z 0] 31)):=(aT (aT (aT (aT (aT (Below.refl w.heap.size w) _) _) _) _) _)
 have jS:w.heap.size≤w.heap.size:=Nat.le_refl _
 generalize qL:(((((w.alloc (.cells #[U Z s.nx,U Z s.ny,U Z s.cell,U Z s.slot,U Z s.slots,U Z s.layers,U Z s.most,.slice A7 s.shores.length c7,.slice A8 s.currents.length c8] 25)).alloc (.cells #[U Z v.speed,U Z v.dive,U Z v.use.f0,U Z v.use.f1,U Z v.drift.f0,U Z v.drift.f1,U Z v.reserve] 29)).alloc (.cells #[U Z x.f0.f0,U Z x.f0.f1,U Z x.f1.f0,U Z x.f1.f1] 31)).alloc (.cells #[U Z hd,U Z layer] 33)).alloc (.cells #[U Z 0,U Z 0,U Z 0,U Z 0] 31)) = W1 at m5 m6 m7 m9 m10 mB ⊢
 clear qL
 generalize hg5:w.heap.size = g5 at m5 m6 m7 m9 m10 ⊢
 have hG5:w.heap.size≤g5:=by omega
 generalize UC:g5+1 = g6 at m6 m7 m9 m10 ⊢
 have o7:g5≠g6:=by omega
 have lC:g6≠g5:=o7.symm
 have SC:w.heap.size≤g6:=by omega
 generalize hg7:g6+1 = g7 at m7 m9 m10 ⊢
 have DC:g5≠g7:=by omega
 have iy:g6≠g7:=by omega
 have Ri:g7≠g5:=DC.symm
 have Rc:g7≠g6:=iy.symm
 have hG7:w.heap.size≤g7:=by omega
 generalize hg9:g7+1 = g9 at m9 m10 ⊢
 have ZW:g5≠g9:=by omega
 have Rf:g6≠g9:=by omega
 have Rh:g7≠g9:=by omega
 have auU:g9≠g5:=ZW.symm
 have ahb:g9≠g6:=Rf.symm
 have ahc:g9≠g7:=Rh.symm
 have hG9:w.heap.size≤g9:=by omega
 generalize UD:g9+1 = g10 at m10 ⊢
 have oq:g5≠g10:=by omega
 have mE:g6≠g10:=by omega
 have EP:g7≠g10:=by omega
 have UE:g9≠g10:=by omega
 have UH:g10≠g5:=oq.symm
 have PZ:g10≠g6:=mE.symm
 have UF:g10≠g7:=EP.symm
 have akz:g10≠g9:=UE.symm
 have pz:w.heap.size≤g10:=by omega
 clear jS
 try clear UD
 try clear hg9
 try clear hg7
 try clear UC
 try clear hg5
 have wG:w.heap.size≤W1.heap.size:=mB.size
 have hbg:ky s v x t = if kI s v≠0 then kI s v else nD x t:=rfl
 have HBG:=Lib.hid hbg
 clear hbg
 have hcon:=NI s v x t A7 A8 c7 c8 W1 h7 (Kd.bz TG mB) h8 (Kd.bz PM mB)
 (with_reducible refine hcon.mono ?_)
 clear hcon
 rintro e W2 ⟨ptr,rfl,hb,hpt⟩
 replace m5:=av m5 hb
 replace m6:=av m6 hb
 replace m7:=av m7 hb
 replace m9:=av m9 hb
 replace m10:=av m10 hb
 replace mB:=bO mB hb
 clear hb
 have sO:w.heap.size≤W2.heap.size:=mB.size
 generalize XO:ky s v x t = E0 at*
 have HE0:=Lib.hid XO
 clear XO
 by_cases h0:E0 = 0
 case neg =>
  have HZ:Hid (Ro s v x t hd layer = E0):=Lib.hid (HE.out.trans (if_pos h0))
  have HV2:Hid (GQ s v x t hd layer = z31):=Lib.hid (HV.out.trans (if_neg (by rw [HZ.out];exact h0)))
  clear HV
  have hd1:(E0 == 0) = false:=beq_eq_false_iff_ne.2 h0
  have hd2:(E0 != 0) = true:=by rw [bne,hd1];rfl
  clear h0 hpt HE
  obtain ⟨Bp,Bq,Br,Bt,XP,XQ,XR,XT⟩:=gD m10
  go_wp2
  exact bodyPost_ret (oN rfl _ _ g10 31 #[U Z 0,U Z 0,U Z 0,U Z 0] (0,0) _ rfl (aI (aI (aI (aI m10 0 (U Z 0) rfl) 1 (U Z 0) rfl) 2 (U Z 0) rfl) 3 (U Z 0) rfl) Try.underlying31 rfl aY) rfl ⟨ZM,(Below.setCell (p:=⟨g10,3,none⟩) (Below.setCell (p:=⟨g10,2,none⟩) (Below.setCell (p:=⟨g10,1,none⟩) (Below.setCell (p:=⟨g10,0,none⟩) mB pz _) pz _) pz _) pz _)⟩
 case pos =>
  have HE2:=Lib.hid (HE.out.trans (if_neg (fun h=>h h0)))
  clear HE
  have hb0:=HBG.out.symm.trans h0
  obtain ⟨ht0,hp0⟩:=zG hb0
  obtain ⟨hbx,UR,ZX⟩:=BH hp0
  obtain ⟨hSV,hVN⟩:=BF ht0
  rcases hpt with ⟨_,g,rfl,hg,hT⟩|⟨hbad,_⟩
  case inr=>exact absurd ht0 hbad
  case inl =>
   subst h0
   clear hb0 ht0 hp0 HBG
   obtain ⟨ahD,ahE⟩:=J9 m9
   have D8:∀ o_,(W2.alloc o_).cell? ⟨g5,0,none⟩ = some (U Z s.nx):=fun o_=>(af (ae m5 o_) 0).trans rfl
   have ES:∀ o_,(W2.alloc o_).cell? ⟨g5,1,none⟩ = some (U Z s.ny):=fun o_=>(af (ae m5 o_) 1).trans rfl
   have NA:∀ o_,(W2.alloc o_).cell? ⟨g5,2,none⟩ = some (U Z s.cell):=fun o_=>(af (ae m5 o_) 2).trans rfl
   have NB:∀ o_,(W2.alloc o_).cell? ⟨g5,3,none⟩ = some (U Z s.slot):=fun o_=>(af (ae m5 o_) 3).trans rfl
   have ahF:∀ o_,(W2.alloc o_).cell? ⟨g5,4,none⟩ = some (U Z s.slots):=fun o_=>(af (ae m5 o_) 4).trans rfl
   have ahG:∀ o_,(W2.alloc o_).cell? ⟨g5,5,none⟩ = some (U Z s.layers):=fun o_=>(af (ae m5 o_) 5).trans rfl
   have ahH:∀ o_,(W2.alloc o_).cell? ⟨g5,6,none⟩ = some (U Z s.most):=fun o_=>(af (ae m5 o_) 6).trans rfl
   have ahI:∀ o_,(W2.alloc o_).cell? ⟨g5,7,none⟩ = some (.slice A7 s.shores.length c7):=fun o_=>(af (ae m5 o_) 7).trans rfl
   have ahJ:∀ o_,(W2.alloc o_).cell? ⟨g5,8,none⟩ = some (.slice A8 s.currents.length c8):=fun o_=>(af (ae m5 o_) 8).trans rfl
   go_wp2_with fail
   clear D8 ES NA NB ahF ahG ahH ahI ahJ ahD ahE
   replace hT:=hT.below (aT (Below.refl _ W2) (.cells #[U Z hd,U Z layer] 33))
   have Bo:=bP m5
   have wT:=bP m6
   have He:=bP m7
   have aN7:=bP m9
   have Rp:=bP m10
   have mc:eT (W2.alloc (.cells #[U Z hd,U Z layer] 33)) (W2.heap.size) #[U Z hd,U Z layer] 33:=(by have h_:=eP W2 (.cells #[U Z hd,U Z layer] 33);first|exact h_|(simp only [World.size_alloc] at h_;exact h_))
   replace m5:eT (W2.alloc (.cells #[U Z hd,U Z layer] 33)) g5 #[U Z s.nx,U Z s.ny,U Z s.cell,U Z s.slot,U Z s.slots,U Z s.layers,U Z s.most,.slice A7 s.shores.length c7,.slice A8 s.currents.length c8] 25:=(ae m5 _)
   replace m6:eT (W2.alloc (.cells #[U Z hd,U Z layer] 33)) g6 #[U Z v.speed,U Z v.dive,U Z v.use.f0,U Z v.use.f1,U Z v.drift.f0,U Z v.drift.f1,U Z v.reserve] 29:=(ae m6 _)
   replace m7:eT (W2.alloc (.cells #[U Z hd,U Z layer] 33)) g7 #[U Z x.f0.f0,U Z x.f0.f1,U Z x.f1.f0,U Z x.f1.f1] 31:=(ae m7 _)
   replace m9:eT (W2.alloc (.cells #[U Z hd,U Z layer] 33)) g9 #[U Z hd,U Z layer] 33:=(ae m9 _)
   replace m10:eT (W2.alloc (.cells #[U Z hd,U Z layer] 33)) g10 #[U Z 0,U Z 0,U Z 0,U Z 0] 31:=(ae m10 _)
   replace mB:Below w.heap.size w (W2.alloc (.cells #[U Z hd,U Z layer] 33)):=(aT mB _)
   have jS:w.heap.size≤W2.heap.size:=sO
   generalize qL:(W2.alloc (.cells #[U Z hd,U Z layer] 33)) = W3 at m5 m6 m7 m9 m10 mc mB hT ⊢
   clear qL
   generalize hgc:W2.heap.size = gc at mc ⊢
   have auV:g5≠gc:=by omega
   have auW:g6≠gc:=by omega
   have auX:g7≠gc:=by omega
   have auY:g9≠gc:=by omega
   have akL:g10≠gc:=by omega
   have aN8:gc≠g5:=auV.symm
   have aN9:gc≠g6:=auW.symm
   have aOa:gc≠g7:=auX.symm
   have aOb:gc≠g9:=auY.symm
   have aFM:gc≠g10:=akL.symm
   have hGc:w.heap.size≤gc:=by omega
   clear jS Bo wT He aN7 Rp
   try clear hgc
   have Ha:w.heap.size≤W3.heap.size:=mB.size
   have hcon:=akG (some ⟨gc,0,none⟩) 1 [⟨hd,layer⟩] s.layers W3 (akJ mc) (Nat.le_refl 1)
   dsimp only [List.length_cons,List.length_nil,Nat.zero_add] at hcon
   (with_reducible refine hcon.mono ?_)
   clear hcon
   rintro e W4 ⟨rfl,hb⟩
   replace hT:=hT.below hb
   replace m5:=av m5 hb
   replace m6:=av m6 hb
   replace m7:=av m7 hb
   replace m9:=av m9 hb
   replace m10:=av m10 hb
   replace mc:=av mc hb
   replace mB:=bO mB hb
   clear hb
   have O3:w.heap.size≤W4.heap.size:=mB.size
   have hc1:=akK (hd:=hd) (layer:=layer) hSV.n.layers.1
   generalize SK [⟨hd,layer⟩] s.layers = E1 at*
   by_cases h1:E1 = 0
   case neg =>
    have HZ:Hid (Ro s v x t hd layer = E1):=Lib.hid (HE2.out.trans (if_pos h1))
    have HV2:Hid (GQ s v x t hd layer = z31):=Lib.hid (HV.out.trans (if_neg (by rw [HZ.out];exact h1)))
    clear HV
    have hd1:(E1 == 0) = false:=beq_eq_false_iff_ne.2 h1
    have hd2:(E1 != 0) = true:=by rw [bne,hd1];rfl
    clear h1 hc1 HE2
    obtain ⟨Bp,Bq,Br,Bt,XP,XQ,XR,XT⟩:=gD m10
    go_wp2
    exact bodyPost_ret (oN rfl _ _ g10 31 #[U Z 0,U Z 0,U Z 0,U Z 0] (0,0) _ rfl (aI (aI (aI (aI m10 0 (U Z 0) rfl) 1 (U Z 0) rfl) 2 (U Z 0) rfl) 3 (U Z 0) rfl) Try.underlying31 rfl aY) rfl ⟨ZM,(Below.setCell (p:=⟨g10,3,none⟩) (Below.setCell (p:=⟨g10,2,none⟩) (Below.setCell (p:=⟨g10,1,none⟩) (Below.setCell (p:=⟨g10,0,none⟩) mB pz _) pz _) pz _) pz _)⟩
   case pos =>
    obtain ⟨⟨hh0,hh1⟩,hl0,hl1⟩:=hc1 h1
    have HE3:=Lib.hid (HE2.out.trans (if_neg (fun h=>h h1)))
    clear HE2 hc1
    subst h1
    obtain ⟨Hf,Hg,KD,KE⟩:=nV m7
    obtain ⟨ahD,ahE⟩:=J9 m9
    go_wp2_with fail
    clear Hf Hg KD KE ahD ahE
    have hcon:=ahe g s v x t hd layer W4 hT hSV hVN hbx UR (by omega) hh0 hh1 hl0 hl1
    (with_reducible refine hcon.mono ?_)
    clear hcon
    rintro e W5 ⟨rfl,hb⟩
    replace m5:=av m5 hb
    replace m6:=av m6 hb
    replace m7:=av m7 hb
    replace m9:=av m9 hb
    replace m10:=av m10 hb
    replace mc:=av mc hb
    replace mB:=bO mB hb
    clear hb
    have Rj:w.heap.size≤W5.heap.size:=mB.size
    have HV2:Hid (GQ s v x t hd layer = GM s v x t hd layer):=Lib.hid (by rw [HV.out,HE3.out];by_cases hz:K9 s v x t = 0;exact if_pos hz;rw [if_neg hz];unfold GM;rw [if_neg hz])
    clear HV
    generalize GM s v x t hd layer = Y at*
    obtain ⟨Bp,Bq,Br,Bt,XP,XQ,XR,XT⟩:=gD m10
    go_wp2
    exact bodyPost_ret (oN rfl _ _ g10 31 #[U Z Y.f0.f0,U Z Y.f0.f1,U Z Y.f1.f0,U Z Y.f1.f1] (0,0) _ rfl (aI (aI (aI (aI m10 0 (U Z Y.f0.f0) rfl) 1 (U Z Y.f0.f1) rfl) 2 (U Z Y.f1.f0) rfl) 3 (U Z Y.f1.f1) rfl) Try.underlying31 rfl aY) rfl ⟨by rw [HV2.out,HE3.out];rfl,(Below.setCell (p:=⟨g10,3,none⟩) (Below.setCell (p:=⟨g10,2,none⟩) (Below.setCell (p:=⟨g10,1,none⟩) (Below.setCell (p:=⟨g10,0,none⟩) mB pz _) pz _) pz _) pz _)⟩
end Go.Proofs.Ytmhaiihjfgfaoaa.Gl
end
section
namespace Go.Proofs.Ytmhaiihjfgfaoaa.Pr
open Go.RowKit Go.Proofs.YtmhaiihjfgfaoaaW.PrintWords Go.Proofs.YtmhaiihjfgfaoaaW.PrintLast Go.Proofs.YtmhaiihjfgfaoaaW.PrintMore Go.Proofs.Ytmhaiihjfgfaoaa.Gl
set_option linter.unusedVariables false
def oC.f (ah:Int) (ai:Int) (ax:Int) (ay:Int) (aK:Int) (aH:Int) (aJ:Int) (aR:List Bool) (aC:List (oV)) (aQ:Int) (aM:Int) (bf:Int) (bg:Int) (bD:Int) (bE:Int) (bF:Int) (bJ:Int) (bK:Int) (bM:Int) (bN:Int) (a3:Int) (jr:Int) (iO:Int):Option (Int × Int × Int × Int × Int):=some ((GQ ⟨ah,ai,ax,ay,aK,aH,aJ,aR,aC⟩ ⟨aQ,aM,⟨bf,bg⟩,⟨bD,bE⟩,bF⟩ ⟨⟨bJ,bK⟩,⟨bM,bN⟩⟩ a3 jr iO).f0.f0,(GQ ⟨ah,ai,ax,ay,aK,aH,aJ,aR,aC⟩ ⟨aQ,aM,⟨bf,bg⟩,⟨bD,bE⟩,bF⟩ ⟨⟨bJ,bK⟩,⟨bM,bN⟩⟩ a3 jr iO).f0.f1,(GQ ⟨ah,ai,ax,ay,aK,aH,aJ,aR,aC⟩ ⟨aQ,aM,⟨bf,bg⟩,⟨bD,bE⟩,bF⟩ ⟨⟨bJ,bK⟩,⟨bM,bN⟩⟩ a3 jr iO).f1.f0,(GQ ⟨ah,ai,ax,ay,aK,aH,aJ,aR,aC⟩ ⟨aQ,aM,⟨bf,bg⟩,⟨bD,bE⟩,bF⟩ ⟨⟨bJ,bK⟩,⟨bM,bN⟩⟩ a3 jr iO).f1.f1,Ro ⟨ah,ai,ax,ay,aK,aH,aJ,aR,aC⟩ ⟨aQ,aM,⟨bf,bg⟩,⟨bD,bE⟩,bF⟩ ⟨⟨bJ,bK⟩,⟨bM,bN⟩⟩ a3 jr iO)
theorem oC.calls (ah:Int) (ai:Int) (ax:Int) (ay:Int) (aK:Int) (aH:Int) (aJ:Int) (dG:Option Addr) (dH:Nat) (aR:List Bool) (dJ:Option Addr) (dI:Nat) (aC:List (oV)) (aQ:Int) (aM:Int) (bf:Int) (bg:Int) (bD:Int) (bE:Int) (bF:Int) (bJ:Int) (bK:Int) (bM:Int) (bN:Int) (a3:Int) (jr:Int) (iO:Int) (r1:Int) (r2:Int) (r3:Int) (r4:Int) (r5:Int) (w:World) (iU:Kd.C Kd.bool w dG aR.length aR) (iV:aR.length≤dH) (iW:Kd.C DD w dJ aC.length aC) (iX:aC.length≤dI) (h:oC.f ah ai ax ay aK aH aJ aR aC aQ aM bf bg bD bE bF bJ bK bM bN a3 jr iO = some (r1,r2,r3,r4,r5)):
 Calls Try.prog 20 #[.agg #[U Z ah,U Z ai,U Z ax,U Z ay,U Z aK,U Z aH,U Z aJ,.slice dG aR.length dH,.slice dJ aC.length dI],.agg #[U Z aQ,U Z aM,U Z bf,U Z bg,U Z bD,U Z bE,U Z bF],.agg #[U Z bJ,U Z bK,U Z bM,U Z bN],U Z a3,.agg #[U Z jr,U Z iO]] w fun e w'=>e = .returned (.tuple #[.agg #[U Z r1,U Z r2,U Z r3,U Z r4],U Z r5])∧Below w.heap.size w w':=by
 cases h
 exact ahC ⟨ah,ai,ax,ay,aK,aH,aJ,aR,aC⟩ ⟨aQ,aM,⟨bf,bg⟩,⟨bD,bE⟩,bF⟩ ⟨⟨bJ,bK⟩,⟨bM,bN⟩⟩ a3 jr iO dG dJ dH dI w iV iU iX iW
end Go.Proofs.Ytmhaiihjfgfaoaa.Pr
end
