import Derived.Test.YtmhaiihjfgfaoaaGfGliderFetch3
import Derived.Test.YtmhaiihjfgfaoaaGfGliderFetch10
import Derived.Test.YtmhaiihjfgfaoaaGfGliderFetch15
import Derived.Test.YtmhaiihjfgfaoaaGfGliderFetch8
set_option linter.unusedVariables false
set_option linter.unusedSimpArgs false
open Go.Value renaming int → U
open Go.IntKind renaming i64 → Z
open Bool renaming true → ab, false → ac
section
namespace Go.Proofs.Ytmhaiihjfgfaoaa.Gl
open Go.RowKit Go.Shelf Go.Proofs.YtmhaiihjfgfaoaaW.PrintWords Go.Proofs.YtmhaiihjfgfaoaaW.PrintLast Go.Proofs.YtmhaiihjfgfaoaaW.PrintMore Go.Proofs.Ytmhaiihjfgfaoaa.Pr Go.Proofs.YtmhaiihjfgfaoaaW.Round
set_option linter.unusedVariables false
set_option linter.unusedSimpArgs false
attribute [local go_sem] gp gq iA iB gu
theorem M5 {n:Int} (h0:-9223372036854775808≤n) (h1:n≤9223372036854775807):wrap64 n = n:=by unfold wrap64;omega
def Dt (v:tF):Bool:=ow v.speed 0 5000 && ow v.dive 1 131072 && xq v.use.f0 v.use.f1 0 1073741824 && xq v.drift.f0 v.drift.f1 0 1073741824 && ow v.reserve 0 1073741824
def Q8 (v:tF):Int:=if Dt v then 0 else 2
theorem TZ (x lo hi:Int):cB.f x lo hi = some (ow x lo hi):=by
 unfold cB.f ow
 by_cases h:x ≥ lo
 ·rw [if_pos h,show decide (lo≤x) = true from decide_eq_true h];simp
 ·rw [if_neg h,show decide (lo≤x) = false from decide_eq_false h];simp
theorem amk (v:tF):eP.f 4 v.speed v.dive v.use.f0 v.use.f1 v.drift.f0 v.drift.f1 v.reserve = some (Q8 v):=by
 unfold eP.f Q8 Dt
 simp only [TZ,aaH 2,Option.bind_some]
 cases ow v.speed 0 5000 <;> cases ow v.dive 1 131072 <;> cases xq v.use.f0 v.use.f1 0 1073741824 <;> cases xq v.drift.f0 v.drift.f1 0 1073741824 <;> cases ow v.reserve 0 1073741824 <;> rfl
theorem aqm (v:tF) (w:World):Calls Try.prog 27 #[.agg #[U Z v.speed,U Z v.dive,U Z v.use.f0,U Z v.use.f1,U Z v.drift.f0,U Z v.drift.f1,U Z v.reserve]] w (zn (U Z (Q8 v)) w):=eP.calls 4 _ _ _ _ _ _ _ _ w (amk v)
def Mj (x:jf):Bool:=(MK x.f0.f0 x.f0.f1 && MK x.f1.f0 x.f1.f1) && (ow x.f0.f0 (-268435456) 268435456 && ow x.f0.f1 (-268435456) 268435456 && ow x.f1.f0 (-268435456) 268435456 && ow x.f1.f1 (-268435456) 268435456)
def Vb (x:jf):Int:=if Mj x then 0 else 2
theorem VS (k:Nat) (a b:ky):dU.f (k+3) [a,b] = some (if MK a.f0 a.f1 && MK b.f0 b.f1 then 0 else 2):=by
 unfold dU.f
 have e1:(([a,b]:List ky).length:Int) = 2:=rfl
 have r0:ql [a,b] 0 = a:=rfl
 have r1:ql [a,b] 1 = b:=rfl
 have w1:wrap64 (0+1) = 1:=M5 (by decide) (by decide)
 have w2:wrap64 (1+1) = 2:=M5 (by decide) (by decide)
 have step:∀ (c:ky) (r:Option Int),(if c.f0 > c.f1 then some 2 else if c.f0 < -1073741824 then some 2 else if c.f1 > 1073741824 then some 2 else r) = if MK c.f0 c.f1 then r else some 2:=by
  intro c r
  cases h:MK c.f0 c.f1 with
  |true =>
   have:=BS.1 h
   rw [if_neg (by omega),if_neg (by omega),if_neg (by omega),if_pos rfl]
  |false =>
   have hn:¬ (c.f0≤c.f1∧-1073741824≤c.f0∧c.f1≤1073741824):=fun h2=>by rw [BS.2 h2] at h;cases h
   rw [show (if false = true then r else some 2) = some 2 from rfl]
   by_cases h1:c.f0 > c.f1
   ·rw [if_pos h1]
   ·rw [if_neg h1]
    by_cases h2:c.f0 < -1073741824
    ·rw [if_pos h2]
    ·rw [if_neg h2,if_pos (by omega)]
 simp only [dU.l0,e1]
 rw [if_pos (by decide),if_pos (by decide),if_pos (by decide),r0,step]
 cases ha:MK a.f0 a.f1 with
 |false=>rfl
 |true =>
  rw [if_pos rfl,w1,if_pos (by decide),if_pos (by decide),if_pos (by decide),r1,step]
  cases hb:MK b.f0 b.f1 with
  |false=>rfl
  |true =>
   rw [if_pos rfl,w2,if_neg (by decide)]
   rfl
theorem abd (x:jf):eZ.f 4 x.f0.f0 x.f0.f1 x.f1.f0 x.f1.f1 = some (Vb x):=by
 unfold eZ.f Vb Mj
 rw [VS 1,Option.bind_some]
 cases h:(MK x.f0.f0 x.f0.f1 && MK x.f1.f0 x.f1.f1) with
 |false=>rfl
 |true =>
  rw [Bool.and_eq_true] at h
  have h1:=BS.1 h.1
  have h2:=BS.1 h.2
  have am:∀ a:Int,-1073741824≤a→a≤1073741824→eO.f a = some (max a (-a)):=fun a h0 h1=>by
   unfold eO.f
   rw [DW,M5 (by omega) (by omega)]
  rw [show (if (true = true) then (0:Int) else 2) = 0 from rfl,if_pos rfl]
  simp only [am _ h1.2.1 (by omega),am _ (show -1073741824≤x.f0.f1 by omega) h1.2.2,am _ h2.2.1 (by omega),am _ (show -1073741824≤x.f1.f1 by omega) h2.2.2,Option.bind_some,DW]
  by_cases hb:max (max (max (max x.f0.f0 (-x.f0.f0)) (max x.f0.f1 (-x.f0.f1))) (max x.f1.f0 (-x.f1.f0))) (max x.f1.f1 (-x.f1.f1)) > 268435456
  ·rw [if_pos hb,if_neg]
   rw [Bool.true_and,Bool.and_eq_true,Bool.and_eq_true,Bool.and_eq_true,jC,jC,jC,jC]
   omega
  ·rw [if_neg hb,if_pos]
   rw [Bool.true_and,Bool.and_eq_true,Bool.and_eq_true,Bool.and_eq_true,jC,jC,jC,jC]
   omega
def xS (x:jf) (t:Int):Int:=if Vb x≠0 then Vb x else if ow t 0 1073741824 then 0 else 3
theorem ad6 (x:jf) (t:Int):pX.f 4 x.f0.f0 x.f0.f1 x.f1.f0 x.f1.f1 t = some (xS x t):=by
 unfold pX.f xS
 rw [abd,Option.bind_some,TZ,Option.bind_some]
 by_cases h:Vb x = 0
 ·rw [if_pos h,if_neg (show ¬ (Vb x≠0) from fun h2=>h2 h)]
  cases ow t 0 1073741824 <;> rfl
 ·rw [if_neg h,if_pos h]
theorem aj2 (x:jf) (t:Int) (w:World):Calls Try.prog 114 #[.agg #[U Z x.f0.f0,U Z x.f0.f1,U Z x.f1.f0,U Z x.f1.f1],U Z t] w (zn (U Z (xS x t)) w):=pX.calls 4 _ _ _ _ _ _ w (ad6 x t)
def GY (layers:Int) (c:xN):Bool:=ow c.f0 0 8 && decide (0≤c.f1) && (decide (layers < 0) || decide (c.f1 < layers))
def FE (l:List xN) (layers:Int):Int:=if l.length > 64 then 6 else if l.all (GY layers) then 0 else 2
theorem aml (layers:Int) (l:List xN) (hl:l.length≤64):∀ (m i k:Nat),i+m = l.length→m < k→fK.l0 k layers l (l.length:Int) (i:Int) = some (if (l.drop i).all (GY layers) then 0 else 2):=by
 intro m
 induction m with
 |zero =>
  intro i k h hk
  obtain ⟨k,rfl⟩:∃ q,k = q+1:=⟨k - 1,by omega⟩
  rw [fK.l0,if_neg (by omega),List.drop_of_length_le (by omega)]
  rfl
 |succ m ih =>
  intro i k h hk
  obtain ⟨k,rfl⟩:∃ q,k = q+1:=⟨k - 1,by omega⟩
  have hi:i < l.length:=by omega
  have hr:bJ l (i:Int) = l[i]:=by
   unfold bJ
   rw [List.getD_eq_getElem?_getD,Int.toNat_natCast,List.getElem?_eq_getElem hi]
   rfl
  have hih:=ih (i+1) k (by omega) (by omega)
  rw [fK.l0,if_pos (by omega),if_pos (by omega),if_pos (by omega),hr,M5 (by omega) (by omega),show ((i:Int)+1) = ((i+1:Nat):Int) by omega,hih,List.drop_eq_getElem_cons hi,List.all_cons]
  cases hb:GY layers l[i] with
  |true =>
   have hb2:GY layers l[i] = true:=hb
   unfold GY at hb2
   simp only [Bool.and_eq_true,Bool.or_eq_true,decide_eq_true_eq,jC] at hb2
   rw [Bool.true_and,if_neg (by omega),if_neg (by omega),if_neg (by omega)]
   by_cases h0:layers ≥ 0
   ·rw [if_pos h0,if_neg (by omega)]
   ·rw [if_neg h0]
  |false =>
   have hn:¬ ((0≤l[i].f0∧l[i].f0≤8)∧0≤l[i].f1∧(layers < 0∨l[i].f1 < layers)):=fun h2=>by
    have:GY layers l[i] = true:=by
     unfold GY
     simp only [Bool.and_eq_true,Bool.or_eq_true,decide_eq_true_eq,jC]
     exact ⟨⟨h2.1,h2.2.1⟩,h2.2.2⟩
    rw [this] at hb
    cases hb
   rw [Bool.false_and,if_neg (show ¬ (false = true) by decide)]
   by_cases a1:l[i].f0 < 0
   ·rw [if_pos a1]
   ·rw [if_neg a1]
    by_cases a2:l[i].f0 ≥ 9
    ·rw [if_pos a2]
    ·rw [if_neg a2]
     by_cases a3:l[i].f1 < 0
     ·rw [if_pos a3]
     ·rw [if_neg a3,if_pos (by omega),if_pos (by omega)]
theorem amm (l:List xN) (layers:Int):fK.f 66 l layers = some (FE l layers):=by
 unfold fK.f FE
 by_cases h:l.length > 64
 ·rw [if_pos (by omega),if_pos h]
 ·rw [if_neg (by omega),if_neg h]
  have:=aml layers l (by omega) l.length 0 66 (by omega) (by omega)
  rw [List.drop_zero] at this
  exact this
theorem afy (A:Option Addr) (c:Nat) (l:List xN) (layers:Int) (w:World) (hC:Kd.C k33 w A l.length l) (hc:l.length≤c):Calls Try.prog 65 #[.slice A l.length c,U Z layers] w (zn (U Z (FE l layers)) w):=fK.calls 66 _ _ _ _ _ w hC hc (amm l layers)
theorem afz (s:oJ):(BU s = 0∧U4 s = true)∨BU s = 2:=by
 unfold BU
 cases U4 s
 ·exact .inr rfl
 ·exact .inl ⟨rfl,rfl⟩
theorem afA (v:tF):(Q8 v = 0∧Dt v = true)∨Q8 v = 2:=by
 unfold Q8
 cases Dt v
 ·exact .inr rfl
 ·exact .inl ⟨rfl,rfl⟩
theorem Jm {lo hi a b:Int}:xq lo hi a b = true↔(lo≤hi∧-1073741824≤lo∧hi≤1073741824)∧a≤lo∧hi≤b:=by unfold xq;simp only [Bool.and_eq_true,decide_eq_true_eq,BS];exact and_assoc
theorem aqn {s:oJ} (h:U4 s = true):Va s:=by
 unfold U4 at h
 simp only [Bool.and_eq_true,decide_eq_true_eq,jC,Bool.not_eq_true'] at h
 obtain ⟨⟨⟨⟨⟨⟨⟨⟨⟨h0,h1⟩,h2⟩,h3⟩,h4⟩,h5⟩,h6⟩,h7⟩,h8⟩,h9⟩:=h
 refine ⟨⟨h0,h1,h2,h3,h4,h5,h6⟩,h7,h8,fun c hc=>?_⟩
 have:=List.any_eq_false.1 h9 c hc
 unfold U3 at this
 simp only [Bool.not_eq_true,Bool.or_eq_false_iff,Bool.not_eq_false',Jm] at this
 omega
theorem aqo {v:tF} (h:Dt v = true):Fy v:=by
 unfold Dt at h
 simp only [Bool.and_eq_true,jC] at h
 exact ⟨h.1.1.1.1,h.1.1.1.2⟩
theorem aqp {x:jf} (h:Vb x = 0):xD x:=by
 unfold Vb at h
 cases hb:Mj x with
 |false=>rw [hb] at h;cases h
 |true =>
  unfold Mj at hb
  simp only [Bool.and_eq_true,jC,BS] at hb
  unfold xD Jh
  omega
def ru (s:oJ) (v:tF):Int:=if BU s≠0 then BU s else Q8 v
theorem M6 {s:oJ} {v:tF} (h:ru s v = 0):Va s∧Fy v:=by
 unfold ru at h
 rcases afz s with ⟨h1,h2⟩|h1
 ·rw [if_neg (by omega)] at h
  rcases afA v with ⟨h3,h4⟩|h3
  ·exact ⟨aqn h2,aqo h4⟩
  ·omega
 ·rw [if_pos (by omega)] at h
  omega
def abe (s:oJ) (v:tF) (E:Int) (w:World) (e:Ending) (w':World):Prop :=
 ∃ ptr,e = .returned (.tuple #[.pointer ptr,U Z E])∧Below w.heap.size w w'∧((ru s v = 0∧∃ g,ptr = some ⟨g,0,none⟩∧w.heap.size≤g∧nX w' g s v)∨(ru s v≠0∧ptr = none))
set_option maxRecDepth 100000 in
set_option maxHeartbeats 4000000 in
theorem abf (s:oJ) (v:tF) (A7 A8:Option Addr) (c7 c8:Nat) (w:World) (h7:s.shores.length≤c7) (hC7:Kd.C Kd.bool w A7 s.shores.length s.shores) (h8:s.currents.length≤c8) (hC8:Kd.C GI w A8 s.currents.length s.currents):
 Calls Try.prog 113 #[.agg #[U Z s.nx,U Z s.ny,U Z s.cell,U Z s.slot,U Z s.slots,U Z s.layers,U Z s.most,.slice A7 s.shores.length c7,.slice A8 s.currents.length c8],.agg #[U Z v.speed,U Z v.dive,U Z v.use.f0,U Z v.use.f1,U Z v.drift.f0,U Z v.drift.f1,U Z v.reserve]] w (abe s v (ru s v) w):=by
 have BV:=Try.underlying25
 have Br:=Try.underlying29
 have aBN:=Try.underlying110
 have HE:Hid (ru s v = if BU s≠0 then BU s else Q8 v):=Lib.hid rfl
 go_enter Try.func113,Try.ntmps113
 go_wp2_with fail
 have m2:jh ((w.alloc (.cells #[U Z s.nx,U Z s.ny,U Z s.cell,U Z s.slot,U Z s.slots,U Z s.layers,U Z s.most,.slice A7 s.shores.length c7,.slice A8 s.currents.length c8] 25)).alloc (.cells #[U Z v.speed,U Z v.dive,U Z v.use.f0,U Z v.use.f1,U Z v.drift.f0,U Z v.drift.f1,U Z v.reserve] 29)) (w.heap.size) #[U Z s.nx,U Z s.ny,U Z s.cell,U Z s.slot,U Z s.slots,U Z s.layers,U Z s.most,.slice A7 s.shores.length c7,.slice A8 s.currents.length c8] 25:=(af alA _)
 have m3:jh ((w.alloc (.cells #[U Z s.nx,U Z s.ny,U Z s.cell,U Z s.slot,U Z s.slots,U Z s.layers,U Z s.most,.slice A7 s.shores.length c7,.slice A8 s.currents.length c8] 25)).alloc (.cells #[U Z v.speed,U Z v.dive,U Z v.use.f0,U Z v.use.f1,U Z v.drift.f0,U Z v.drift.f1,U Z v.reserve] 29)) (w.heap.size+1) #[U Z v.speed,U Z v.dive,U Z v.use.f0,U Z v.use.f1,U Z v.drift.f0,U Z v.drift.f1,U Z v.reserve] 29:=aqr
 have mB:Below w.heap.size w ((w.alloc (.cells #[U Z s.nx,U Z s.ny,U Z s.cell,U Z s.slot,U Z s.slots,U Z s.layers,U Z s.most,.slice A7 s.shores.length c7,.slice A8 s.currents.length c8] 25)).alloc (.cells #[U Z v.speed,U Z v.dive,U Z v.use.f0,U Z v.use.f1,U Z v.drift.f0,U Z v.drift.f1,U Z v.reserve] 29)):=(bA (bA (Below.refl w.heap.size w) _) _)
 have oI:w.heap.size≤w.heap.size:=Nat.le_refl _
 generalize yX:((w.alloc (.cells #[U Z s.nx,U Z s.ny,U Z s.cell,U Z s.slot,U Z s.slots,U Z s.layers,U Z s.most,.slice A7 s.shores.length c7,.slice A8 s.currents.length c8] 25)).alloc (.cells #[U Z v.speed,U Z v.dive,U Z v.use.f0,U Z v.use.f1,U Z v.drift.f0,U Z v.drift.f1,U Z v.reserve] 29)) = W1 at m2 m3 mB ⊢
 clear yX
 generalize hg2:w.heap.size = g2 at m2 m3 ⊢
 have hG2:w.heap.size≤g2:=by omega
 generalize hg3:g2+1 = g3 at m3 ⊢
 have TN:g2≠g3:=by omega
 have alL:g3≠g2:=TN.symm
 have hG3:w.heap.size≤g3:=by omega
 clear oI
 try clear hg3
 try clear hg2
 have DR:w.heap.size≤W1.heap.size:=mB.size
 have hcon:=apS s A7 A8 c7 c8 W1 h7 (Kd.bB hC7 mB) h8 (Kd.bB hC8 mB)
 (with_reducible refine hcon.mono ?_)
 clear hcon
 rintro e W2 ⟨rfl,hb⟩
 replace m2:=aU m2 hb
 replace m3:=aU m3 hb
 replace mB:=dY mB hb
 clear hb
 have Dl:w.heap.size≤W2.heap.size:=mB.size
 rcases afz s with ⟨h1,_⟩|h1
 case inr =>
  have HZ:Hid (ru s v = 2):=Lib.hid (HE.out.trans (by rw [h1];rfl))
  rw [h1]
  clear h1 HE
  go_wp2
  go_ret2
  exact ⟨none,yY,mB,.inr ⟨by rw [HZ.out];decide,rfl⟩⟩
 case inl =>
  have HE2:=Lib.hid (HE.out.trans (if_neg (by omega)))
  clear HE
  rw [h1]
  clear h1
  obtain ⟨amn,amo,amq,amr,ams,amt,amu⟩:=Mk m3
  go_wp2_with fail
  clear amn amo amq amr ams amt amu
  have hcon:=aqm v W2
  (with_reducible refine hcon.mono ?_)
  clear hcon
  rintro e W3 ⟨rfl,hb⟩
  replace m2:=aU m2 hb
  replace m3:=aU m3 hb
  replace mB:=dY mB hb
  clear hb
  have LA:w.heap.size≤W3.heap.size:=mB.size
  rcases afA v with ⟨h1,_⟩|h1
  case inr =>
   have HE:=HE2
   have HZ:Hid (ru s v = 2):=Lib.hid (HE2.out.trans h1)
   rw [h1]
   clear h1 HE
   go_wp2
   go_ret2
   exact ⟨none,yY,mB,.inr ⟨by rw [HZ.out];decide,rfl⟩⟩
  case inl =>
   have HZ:=Lib.hid (HE2.out.trans h1)
   rw [h1]
   clear h1 HE2
   obtain ⟨aBa,aBb,aBc,aBd,a6A,a6B,a6C,a6D,a6E⟩:=Dm m2
   obtain ⟨amn,amo,amq,amr,ams,amt,amu⟩:=Mk m3
   go_wp2
   go_ret2
   exact ⟨_,yY,bA mB _,.inl ⟨HZ.out,W3.heap.size,rfl,mB.size,A7,c7,A8,c8,gT W3 (.cells #[U Z s.nx,U Z s.ny,U Z s.cell,U Z s.slot,U Z s.slots,U Z s.layers,U Z s.most,.slice A7 s.shores.length c7,.slice A8 s.currents.length c8,U Z v.speed,U Z v.dive,U Z v.use.f0,U Z v.use.f1,U Z v.drift.f0,U Z v.drift.f1,U Z v.reserve] 110),h7,Kd.bB hC7 (bA mB _),h8,Kd.bB hC8 (bA mB _)⟩⟩
def vB (s:oJ) (v:tF) (x:jf) (t:Int):Int:=if ru s v≠0 then ru s v else xS x t
set_option maxRecDepth 100000 in
set_option maxHeartbeats 4000000 in
theorem VT (s:oJ) (v:tF) (x:jf) (t:Int) (A7 A8:Option Addr) (c7 c8:Nat) (w:World) (h7:s.shores.length≤c7) (hC7:Kd.C Kd.bool w A7 s.shores.length s.shores) (h8:s.currents.length≤c8) (hC8:Kd.C GI w A8 s.currents.length s.currents):
 Calls Try.prog 64 #[.agg #[U Z s.nx,U Z s.ny,U Z s.cell,U Z s.slot,U Z s.slots,U Z s.layers,U Z s.most,.slice A7 s.shores.length c7,.slice A8 s.currents.length c8],.agg #[U Z v.speed,U Z v.dive,U Z v.use.f0,U Z v.use.f1,U Z v.drift.f0,U Z v.drift.f1,U Z v.reserve],.agg #[U Z x.f0.f0,U Z x.f0.f1,U Z x.f1.f0,U Z x.f1.f1],U Z t] w (abe s v (vB s v x t) w):=by
 have BV:=Try.underlying25
 have Br:=Try.underlying29
 have rO:=Try.underlying31
 have HE:Hid (vB s v x t = if ru s v≠0 then ru s v else xS x t):=Lib.hid rfl
 go_enter Try.func64,Try.ntmps64
 go_wp2_with fail
 have m4:jh (((w.alloc (.cells #[U Z s.nx,U Z s.ny,U Z s.cell,U Z s.slot,U Z s.slots,U Z s.layers,U Z s.most,.slice A7 s.shores.length c7,.slice A8 s.currents.length c8] 25)).alloc (.cells #[U Z v.speed,U Z v.dive,U Z v.use.f0,U Z v.use.f1,U Z v.drift.f0,U Z v.drift.f1,U Z v.reserve] 29)).alloc (.cells #[U Z x.f0.f0,U Z x.f0.f1,U Z x.f1.f0,U Z x.f1.f1] 31)) (w.heap.size) #[U Z s.nx,U Z s.ny,U Z s.cell,U Z s.slot,U Z s.slots,U Z s.layers,U Z s.most,.slice A7 s.shores.length c7,.slice A8 s.currents.length c8] 25:=(af (af alA _) _)
 have m5:jh (((w.alloc (.cells #[U Z s.nx,U Z s.ny,U Z s.cell,U Z s.slot,U Z s.slots,U Z s.layers,U Z s.most,.slice A7 s.shores.length c7,.slice A8 s.currents.length c8] 25)).alloc (.cells #[U Z v.speed,U Z v.dive,U Z v.use.f0,U Z v.use.f1,U Z v.drift.f0,U Z v.drift.f1,U Z v.reserve] 29)).alloc (.cells #[U Z x.f0.f0,U Z x.f0.f1,U Z x.f1.f0,U Z x.f1.f1] 31)) (w.heap.size+1) #[U Z v.speed,U Z v.dive,U Z v.use.f0,U Z v.use.f1,U Z v.drift.f0,U Z v.drift.f1,U Z v.reserve] 29:=(af aqr _)
 have m6:jh (((w.alloc (.cells #[U Z s.nx,U Z s.ny,U Z s.cell,U Z s.slot,U Z s.slots,U Z s.layers,U Z s.most,.slice A7 s.shores.length c7,.slice A8 s.currents.length c8] 25)).alloc (.cells #[U Z v.speed,U Z v.dive,U Z v.use.f0,U Z v.use.f1,U Z v.drift.f0,U Z v.drift.f1,U Z v.reserve] 29)).alloc (.cells #[U Z x.f0.f0,U Z x.f0.f1,U Z x.f1.f0,U Z x.f1.f1] 31)) (w.heap.size+1+1) #[U Z x.f0.f0,U Z x.f0.f1,U Z x.f1.f0,U Z x.f1.f1] 31:=ayG
 have mB:Below w.heap.size w (((w.alloc (.cells #[U Z s.nx,U Z s.ny,U Z s.cell,U Z s.slot,U Z s.slots,U Z s.layers,U Z s.most,.slice A7 s.shores.length c7,.slice A8 s.currents.length c8] 25)).alloc (.cells #[U Z v.speed,U Z v.dive,U Z v.use.f0,U Z v.use.f1,U Z v.drift.f0,U Z v.drift.f1,U Z v.reserve] 29)).alloc (.cells #[U Z x.f0.f0,U Z x.f0.f1,U Z x.f1.f0,U Z x.f1.f1] 31)):=(bA (bA (bA (Below.refl w.heap.size w) _) _) _)
 have oI:w.heap.size≤w.heap.size:=Nat.le_refl _
 generalize yX:(((w.alloc (.cells #[U Z s.nx,U Z s.ny,U Z s.cell,U Z s.slot,U Z s.slots,U Z s.layers,U Z s.most,.slice A7 s.shores.length c7,.slice A8 s.currents.length c8] 25)).alloc (.cells #[U Z v.speed,U Z v.dive,U Z v.use.f0,U Z v.use.f1,U Z v.drift.f0,U Z v.drift.f1,U Z v.reserve] 29)).alloc (.cells #[U Z x.f0.f0,U Z x.f0.f1,U Z x.f1.f0,U Z x.f1.f1] 31)) = W1 at m4 m5 m6 mB ⊢
 clear yX
 generalize hg4:w.heap.size = g4 at m4 m5 m6 ⊢
 have hG4:w.heap.size≤g4:=by omega
 generalize hg5:g4+1 = g5 at m5 m6 ⊢
 have ad7:g4≠g5:=by omega
 have ayH:g5≠g4:=ad7.symm
 have hG5:w.heap.size≤g5:=by omega
 generalize hg6:g5+1 = g6 at m6 ⊢
 have adW:g4≠g6:=by omega
 have Pg:g5≠g6:=by omega
 have ayx:g6≠g4:=adW.symm
 have adQ:g6≠g5:=Pg.symm
 have hG6:w.heap.size≤g6:=by omega
 clear oI
 try clear hg6
 try clear hg5
 try clear hg4
 have DR:w.heap.size≤W1.heap.size:=mB.size
 have hcon:=abf s v A7 A8 c7 c8 W1 h7 (Kd.bB hC7 mB) h8 (Kd.bB hC8 mB)
 (with_reducible refine hcon.mono ?_)
 clear hcon
 rintro e W2 ⟨ptr,rfl,hb,⟨h0,g,rfl,hg,hT⟩|⟨h0,rfl⟩⟩
 case inr =>
  have HZ:=Lib.hid (HE.out.trans (if_pos h0))
  replace mB:=dY mB hb
  clear hb HE
  have h00:=Lib.hid h0
  generalize hE_:ru s v = E0 at*
  have hE:=Lib.hid hE_
  clear hE_
  have hd:(E0 == 0) = false:=beq_eq_false_iff_ne.2 h0
  have hd2:(E0 != 0) = true:=by rw [bne,hd];rfl
  clear h0
  go_wp2
  go_ret2
  exact ⟨none,yY,mB,.inr ⟨by rw [hE.out];exact h00.out,rfl⟩⟩
 case inl =>
  have HZ:=Lib.hid (HE.out.trans (if_neg (fun h=>h h0)))
  clear HE
  have hg0:w.heap.size≤g:=Nat.le_trans (m:=W1.heap.size) (by assumption) hg
  replace m4:=aU m4 hb
  replace m5:=aU m5 hb
  replace m6:=aU m6 hb
  replace mB:=dY mB hb
  clear hb
  have H0:=Lib.hid h0
  rw [h0]
  clear h0
  have Dl:w.heap.size≤W2.heap.size:=mB.size
  obtain ⟨adS,adT,adU,adV⟩:=xy m6
  go_wp2_with fail
  clear adS adT adU adV
  have hcon:=aj2 x t W2
  (with_reducible refine hcon.mono ?_)
  clear hcon
  rintro e W3 ⟨rfl,hb⟩
  replace hT:=hT.below hb
  replace m4:=aU m4 hb
  replace m5:=aU m5 hb
  replace m6:=aU m6 hb
  replace mB:=dY mB hb
  clear hb
  go_wp2
  go_ret2
  exact ⟨_,yY,mB,.inl ⟨H0.out,g,rfl,hg0,hT⟩⟩
theorem pY {a b:Int} (h:(if a≠0 then a else b) = 0):a = 0∧b = 0:=by
 by_cases h0:a = 0
 ·rw [if_neg (fun h=>h h0)] at h
  exact ⟨h0,h⟩
 ·rw [if_pos h0] at h
  exact absurd h h0
theorem aqs {W:World} {b:Nat} {x y:Int} (h:W.heap[b]? = some (.cells #[U Z x,U Z y] 33 (0,0))):Kd.C k33 W (some ⟨b,0,none⟩) 1 [⟨x,y⟩]:=by
 refine ⟨rfl,by decide,fun _=>⟨⟨b,0,none⟩,rfl,fun j p hj=>?_⟩⟩
 match j,hj with
 |0,hj =>
  obtain rfl:(⟨x,y⟩:xN) = p:=by simpa using hj
  refine ⟨_,rfl,ayI W ⟨x,y⟩,fun i u hu=>?_⟩
  match i,hu with
  |0,hu=>exact ((ah h 0).trans (by simpa using hu))
  |1,hu=>exact ((ah h 1).trans (by simpa using hu))
theorem aqt {hd layer layers:Int} (hl:1≤layers) (h:FE [⟨hd,layer⟩] layers = 0):(0≤hd∧hd≤8)∧0≤layer∧layer < layers:=by
 unfold FE at h
 cases hb:([⟨hd,layer⟩]:List xN).all (GY layers) with
 |false=>rw [hb] at h;simp at h
 |true =>
  simp only [List.all_cons,List.all_nil,Bool.and_true,GY,Bool.and_eq_true,Bool.or_eq_true,decide_eq_true_eq,jC] at hb
  omega
theorem M7 {x:jf} {t:Int} (h:xS x t = 0):xD x∧0≤t∧t≤1073741824:=by
 unfold xS at h
 obtain ⟨h1,h2⟩:=pY h
 refine ⟨aqp h1,?_⟩
 cases hb:ow t 0 1073741824 with
 |false=>rw [hb] at h2;simp at h2
 |true=>exact jC.1 hb
def T9 (s:oJ) (v:tF) (x:jf) (t hd layer:Int):Int:=if vB s v x t≠0 then vB s v x t else if FE [⟨hd,layer⟩] s.layers≠0 then FE [⟨hd,layer⟩] s.layers else qz s v x t
def I6 (s:oJ) (v:tF) (x:jf) (t hd layer:Int):jf:=if T9 s v x t hd layer = 0 then oP s v x t hd layer else z31
set_option maxRecDepth 100000 in
set_option maxHeartbeats 8000000 in
theorem amv (s:oJ) (v:tF) (x:jf) (t hd layer:Int) (A7 A8:Option Addr) (c7 c8:Nat) (w:World) (h7:s.shores.length≤c7) (hC7:Kd.C Kd.bool w A7 s.shores.length s.shores) (h8:s.currents.length≤c8) (hC8:Kd.C GI w A8 s.currents.length s.currents):
 Calls Try.prog 20 #[.agg #[U Z s.nx,U Z s.ny,U Z s.cell,U Z s.slot,U Z s.slots,U Z s.layers,U Z s.most,.slice A7 s.shores.length c7,.slice A8 s.currents.length c8],.agg #[U Z v.speed,U Z v.dive,U Z v.use.f0,U Z v.use.f1,U Z v.drift.f0,U Z v.drift.f1,U Z v.reserve],.agg #[U Z x.f0.f0,U Z x.f0.f1,U Z x.f1.f0,U Z x.f1.f1],U Z t,.agg #[U Z hd,U Z layer]] w (zn (.tuple #[.agg #[U Z (I6 s v x t hd layer).f0.f0,U Z (I6 s v x t hd layer).f0.f1,U Z (I6 s v x t hd layer).f1.f0,U Z (I6 s v x t hd layer).f1.f1],U Z (T9 s v x t hd layer)]) w):=by
 have BV:=Try.underlying25
 have Br:=Try.underlying29
 have rO:=Try.underlying31
 have MV:=Try.underlying33
 have pz:=Try.underlying27
 have HE:Hid (T9 s v x t hd layer = if vB s v x t≠0 then vB s v x t else if FE [⟨hd,layer⟩] s.layers≠0 then FE [⟨hd,layer⟩] s.layers else qz s v x t):=Lib.hid rfl
 have HV:Hid (I6 s v x t hd layer = if T9 s v x t hd layer = 0 then oP s v x t hd layer else z31):=Lib.hid rfl
 go_enter Try.func20,Try.ntmps20
 go_wp2_with fail
 have m5:jh (((((w.alloc (.cells #[U Z s.nx,U Z s.ny,U Z s.cell,U Z s.slot,U Z s.slots,U Z s.layers,U Z s.most,.slice A7 s.shores.length c7,.slice A8 s.currents.length c8] 25)).alloc (.cells #[U Z v.speed,U Z v.dive,U Z v.use.f0,U Z v.use.f1,U Z v.drift.f0,U Z v.drift.f1,U Z v.reserve] 29)).alloc (.cells #[U Z x.f0.f0,U Z x.f0.f1,U Z x.f1.f0,U Z x.f1.f1] 31)).alloc (.cells #[U Z hd,U Z layer] 33)).alloc (.cells #[U Z 0,U Z 0,U Z 0,U Z 0] 31)) (w.heap.size) #[U Z s.nx,U Z s.ny,U Z s.cell,U Z s.slot,U Z s.slots,U Z s.layers,U Z s.most,.slice A7 s.shores.length c7,.slice A8 s.currents.length c8] 25:=(af (af (af (af alA _) _) _) _)
 have m6:jh (((((w.alloc (.cells #[U Z s.nx,U Z s.ny,U Z s.cell,U Z s.slot,U Z s.slots,U Z s.layers,U Z s.most,.slice A7 s.shores.length c7,.slice A8 s.currents.length c8] 25)).alloc (.cells #[U Z v.speed,U Z v.dive,U Z v.use.f0,U Z v.use.f1,U Z v.drift.f0,U Z v.drift.f1,U Z v.reserve] 29)).alloc (.cells #[U Z x.f0.f0,U Z x.f0.f1,U Z x.f1.f0,U Z x.f1.f1] 31)).alloc (.cells #[U Z hd,U Z layer] 33)).alloc (.cells #[U Z 0,U Z 0,U Z 0,U Z 0] 31)) (w.heap.size+1) #[U Z v.speed,U Z v.dive,U Z v.use.f0,U Z v.use.f1,U Z v.drift.f0,U Z v.drift.f1,U Z v.reserve] 29:=(af (af (af aqr _) _) _)
 have m7:jh (((((w.alloc (.cells #[U Z s.nx,U Z s.ny,U Z s.cell,U Z s.slot,U Z s.slots,U Z s.layers,U Z s.most,.slice A7 s.shores.length c7,.slice A8 s.currents.length c8] 25)).alloc (.cells #[U Z v.speed,U Z v.dive,U Z v.use.f0,U Z v.use.f1,U Z v.drift.f0,U Z v.drift.f1,U Z v.reserve] 29)).alloc (.cells #[U Z x.f0.f0,U Z x.f0.f1,U Z x.f1.f0,U Z x.f1.f1] 31)).alloc (.cells #[U Z hd,U Z layer] 33)).alloc (.cells #[U Z 0,U Z 0,U Z 0,U Z 0] 31)) (w.heap.size+1+1) #[U Z x.f0.f0,U Z x.f0.f1,U Z x.f1.f0,U Z x.f1.f1] 31:=(af (af ayG _) _)
 have m9:jh (((((w.alloc (.cells #[U Z s.nx,U Z s.ny,U Z s.cell,U Z s.slot,U Z s.slots,U Z s.layers,U Z s.most,.slice A7 s.shores.length c7,.slice A8 s.currents.length c8] 25)).alloc (.cells #[U Z v.speed,U Z v.dive,U Z v.use.f0,U Z v.use.f1,U Z v.drift.f0,U Z v.drift.f1,U Z v.reserve] 29)).alloc (.cells #[U Z x.f0.f0,U Z x.f0.f1,U Z x.f1.f0,U Z x.f1.f1] 31)).alloc (.cells #[U Z hd,U Z layer] 33)).alloc (.cells #[U Z 0,U Z 0,U Z 0,U Z 0] 31)) (w.heap.size+1+1+1) #[U Z hd,U Z layer] 33:=(af (by have h_:=gT (((w.alloc (.cells #[U Z s.nx,U Z s.ny,U Z s.cell,U Z s.slot,U Z s.slots,U Z s.layers,U Z s.most,.slice A7 s.shores.length c7,.slice A8 s.currents.length c8] 25)).alloc (.cells #[U Z v.speed,U Z v.dive,U Z v.use.f0,U Z v.use.f1,U Z v.drift.f0,U Z v.drift.f1,U Z v.reserve] 29)).alloc (.cells #[U Z x.f0.f0,U Z x.f0.f1,U Z x.f1.f0,U Z x.f1.f1] 31)) (.cells #[U Z hd,U Z layer] 33);first|exact h_|(simp only [World.size_alloc] at h_;exact h_)) _)
 have m10:jh (((((w.alloc (.cells #[U Z s.nx,U Z s.ny,U Z s.cell,U Z s.slot,U Z s.slots,U Z s.layers,U Z s.most,.slice A7 s.shores.length c7,.slice A8 s.currents.length c8] 25)).alloc (.cells #[U Z v.speed,U Z v.dive,U Z v.use.f0,U Z v.use.f1,U Z v.drift.f0,U Z v.drift.f1,U Z v.reserve] 29)).alloc (.cells #[U Z x.f0.f0,U Z x.f0.f1,U Z x.f1.f0,U Z x.f1.f1] 31)).alloc (.cells #[U Z hd,U Z layer] 33)).alloc (.cells #[U Z 0,U Z 0,U Z 0,U Z 0] 31)) (w.heap.size+1+1+1+1) #[U Z 0,U Z 0,U Z 0,U Z 0] 31:=(by have h_:=gT ((((w.alloc (.cells #[U Z s.nx,U Z s.ny,U Z s.cell,U Z s.slot,U Z s.slots,U Z s.layers,U Z s.most,.slice A7 s.shores.length c7,.slice A8 s.currents.length c8] 25)).alloc (.cells #[U Z v.speed,U Z v.dive,U Z v.use.f0,U Z v.use.f1,U Z v.drift.f0,U Z v.drift.f1,U Z v.reserve] 29)).alloc (.cells #[U Z x.f0.f0,U Z x.f0.f1,U Z x.f1.f0,U Z x.f1.f1] 31)).alloc (.cells #[U Z hd,U Z layer] 33)) (.cells #[U Z 0,U Z 0,U Z 0,U Z 0] 31);first|exact h_|(simp only [World.size_alloc] at h_;exact h_))
 have mB:Below w.heap.size w (((((w.alloc (.cells #[U Z s.nx,U Z s.ny,U Z s.cell,U Z s.slot,U Z s.slots,U Z s.layers,U Z s.most,.slice A7 s.shores.length c7,.slice A8 s.currents.length c8] 25)).alloc (.cells #[U Z v.speed,U Z v.dive,U Z v.use.f0,U Z v.use.f1,U Z v.drift.f0,U Z v.drift.f1,U Z v.reserve] 29)).alloc (.cells #[U Z x.f0.f0,U Z x.f0.f1,U Z x.f1.f0,U Z x.f1.f1] 31)).alloc (.cells #[U Z hd,U Z layer] 33)).alloc (.cells #[U Z 0,U Z 0,U Z 0,U Z 0] 31)):=(bA (bA (bA (bA (bA (Below.refl w.heap.size w) _) _) _) _) _)
 have oI:w.heap.size≤w.heap.size:=Nat.le_refl _
 generalize yX:(((((w.alloc (.cells #[U Z s.nx,U Z s.ny,U Z s.cell,U Z s.slot,U Z s.slots,U Z s.layers,U Z s.most,.slice A7 s.shores.length c7,.slice A8 s.currents.length c8] 25)).alloc (.cells #[U Z v.speed,U Z v.dive,U Z v.use.f0,U Z v.use.f1,U Z v.drift.f0,U Z v.drift.f1,U Z v.reserve] 29)).alloc (.cells #[U Z x.f0.f0,U Z x.f0.f1,U Z x.f1.f0,U Z x.f1.f1] 31)).alloc (.cells #[U Z hd,U Z layer] 33)).alloc (.cells #[U Z 0,U Z 0,U Z 0,U Z 0] 31)) = W1 at m5 m6 m7 m9 m10 mB ⊢
 clear yX
 generalize hg5:w.heap.size = g5 at m5 m6 m7 m9 m10 ⊢
 have hG5:w.heap.size≤g5:=by omega
 generalize hg6:g5+1 = g6 at m6 m7 m9 m10 ⊢
 have Pg:g5≠g6:=by omega
 have adQ:g6≠g5:=Pg.symm
 have hG6:w.heap.size≤g6:=by omega
 generalize hg7:g6+1 = g7 at m7 m9 m10 ⊢
 have TG:g5≠g7:=by omega
 have adY:g6≠g7:=by omega
 have alD:g7≠g5:=TG.symm
 have ayA:g7≠g6:=adY.symm
 have hG7:w.heap.size≤g7:=by omega
 generalize hg9:g7+1 = g9 at m9 m10 ⊢
 have adL:g5≠g9:=by omega
 have TV:g6≠g9:=by omega
 have L9:g7≠g9:=by omega
 have ayc:g9≠g5:=adL.symm
 have al6:g9≠g6:=TV.symm
 have adN:g9≠g7:=L9.symm
 have hG9:w.heap.size≤g9:=by omega
 generalize adR:g9+1 = g10 at m10 ⊢
 have pU:g5≠g10:=by omega
 have pV:g6≠g10:=by omega
 have MW:g7≠g10:=by omega
 have W9:g9≠g10:=by omega
 have WU:g10≠g5:=pU.symm
 have WV:g10≠g6:=pV.symm
 have afv:g10≠g7:=MW.symm
 have aqi:g10≠g9:=W9.symm
 have rA:w.heap.size≤g10:=by omega
 clear oI
 try clear adR
 try clear hg9
 try clear hg7
 try clear hg6
 try clear hg5
 have DR:w.heap.size≤W1.heap.size:=mB.size
 have hbg:vB s v x t = if ru s v≠0 then ru s v else xS x t:=rfl
 have HBG:=Lib.hid hbg
 clear hbg
 have hcon:=VT s v x t A7 A8 c7 c8 W1 h7 (Kd.bB hC7 mB) h8 (Kd.bB hC8 mB)
 (with_reducible refine hcon.mono ?_)
 clear hcon
 rintro e W2 ⟨ptr,rfl,hb,hpt⟩
 replace m5:=aU m5 hb
 replace m6:=aU m6 hb
 replace m7:=aU m7 hb
 replace m9:=aU m9 hb
 replace m10:=aU m10 hb
 replace mB:=dY mB hb
 clear hb
 have Dl:w.heap.size≤W2.heap.size:=mB.size
 generalize hE_:vB s v x t = E0 at*
 have HE0:=Lib.hid hE_
 clear hE_
 by_cases h0:E0 = 0
 case neg =>
  have HZ:Hid (T9 s v x t hd layer = E0):=Lib.hid (HE.out.trans (if_pos h0))
  have HV2:Hid (I6 s v x t hd layer = z31):=Lib.hid (HV.out.trans (if_neg (by rw [HZ.out];exact h0)))
  clear HV
  have hd1:(E0 == 0) = false:=beq_eq_false_iff_ne.2 h0
  have hd2:(E0 != 0) = true:=by rw [bne,hd1];rfl
  clear h0 hpt HE
  obtain ⟨MO,MP,MQ,MR,aaT,aaU,aaV,aaW⟩:=jc m10
  go_wp2
  exact bodyPost_ret (nW rfl _ _ g10 31 #[U Z 0,U Z 0,U Z 0,U Z 0] (0,0) _ rfl (aN (aN (aN (aN m10 0 (U Z 0) rfl) 1 (U Z 0) rfl) 2 (U Z 0) rfl) 3 (U Z 0) rfl) Try.underlying31 rfl aM) rfl ⟨adX,(Below.setCell (p:=⟨g10,3,none⟩) (Below.setCell (p:=⟨g10,2,none⟩) (Below.setCell (p:=⟨g10,1,none⟩) (Below.setCell (p:=⟨g10,0,none⟩) mB rA _) rA _) rA _) rA _)⟩
 case pos =>
  have HE2:=Lib.hid (HE.out.trans (if_neg (fun h=>h h0)))
  clear HE
  have hb0:=HBG.out.symm.trans h0
  obtain ⟨ht0,hp0⟩:=pY hb0
  obtain ⟨hbx,aj3,amw⟩:=M7 hp0
  obtain ⟨hSV,hVN⟩:=M6 ht0
  rcases hpt with ⟨_,g,rfl,hg,hT⟩|⟨hbad,_⟩
  case inr=>exact absurd ht0 hbad
  case inl =>
   subst h0
   clear hb0 ht0 hp0 HBG
   obtain ⟨WR,WS⟩:=GJ m9
   have Q4:∀ o_,(W2.alloc o_).cell? ⟨g5,0,none⟩ = some (U Z s.nx):=fun o_=>(ah (af m5 o_) 0).trans rfl
   have TK:∀ o_,(W2.alloc o_).cell? ⟨g5,1,none⟩ = some (U Z s.ny):=fun o_=>(ah (af m5 o_) 1).trans rfl
   have ama:∀ o_,(W2.alloc o_).cell? ⟨g5,2,none⟩ = some (U Z s.cell):=fun o_=>(ah (af m5 o_) 2).trans rfl
   have amb:∀ o_,(W2.alloc o_).cell? ⟨g5,3,none⟩ = some (U Z s.slot):=fun o_=>(ah (af m5 o_) 3).trans rfl
   have aWM:∀ o_,(W2.alloc o_).cell? ⟨g5,4,none⟩ = some (U Z s.slots):=fun o_=>(ah (af m5 o_) 4).trans rfl
   have aWN:∀ o_,(W2.alloc o_).cell? ⟨g5,5,none⟩ = some (U Z s.layers):=fun o_=>(ah (af m5 o_) 5).trans rfl
   have aWO:∀ o_,(W2.alloc o_).cell? ⟨g5,6,none⟩ = some (U Z s.most):=fun o_=>(ah (af m5 o_) 6).trans rfl
   have aWP:∀ o_,(W2.alloc o_).cell? ⟨g5,7,none⟩ = some (.slice A7 s.shores.length c7):=fun o_=>(ah (af m5 o_) 7).trans rfl
   have aWQ:∀ o_,(W2.alloc o_).cell? ⟨g5,8,none⟩ = some (.slice A8 s.currents.length c8):=fun o_=>(ah (af m5 o_) 8).trans rfl
   go_wp2_with fail
   clear Q4 TK ama amb aWM aWN aWO aWP aWQ WR WS
   replace hT:=hT.below (bA (Below.refl _ W2) (.cells #[U Z hd,U Z layer] 33))
   have O6:=eG m5
   have WW:=eG m6
   have alF:=eG m7
   have aWR:=eG m9
   have TU:=eG m10
   have mc:jh (W2.alloc (.cells #[U Z hd,U Z layer] 33)) (W2.heap.size) #[U Z hd,U Z layer] 33:=(by have h_:=gT W2 (.cells #[U Z hd,U Z layer] 33);first|exact h_|(simp only [World.size_alloc] at h_;exact h_))
   replace m5:jh (W2.alloc (.cells #[U Z hd,U Z layer] 33)) g5 #[U Z s.nx,U Z s.ny,U Z s.cell,U Z s.slot,U Z s.slots,U Z s.layers,U Z s.most,.slice A7 s.shores.length c7,.slice A8 s.currents.length c8] 25:=(af m5 _)
   replace m6:jh (W2.alloc (.cells #[U Z hd,U Z layer] 33)) g6 #[U Z v.speed,U Z v.dive,U Z v.use.f0,U Z v.use.f1,U Z v.drift.f0,U Z v.drift.f1,U Z v.reserve] 29:=(af m6 _)
   replace m7:jh (W2.alloc (.cells #[U Z hd,U Z layer] 33)) g7 #[U Z x.f0.f0,U Z x.f0.f1,U Z x.f1.f0,U Z x.f1.f1] 31:=(af m7 _)
   replace m9:jh (W2.alloc (.cells #[U Z hd,U Z layer] 33)) g9 #[U Z hd,U Z layer] 33:=(af m9 _)
   replace m10:jh (W2.alloc (.cells #[U Z hd,U Z layer] 33)) g10 #[U Z 0,U Z 0,U Z 0,U Z 0] 31:=(af m10 _)
   replace mB:Below w.heap.size w (W2.alloc (.cells #[U Z hd,U Z layer] 33)):=(bA mB _)
   have oI:w.heap.size≤W2.heap.size:=Dl
   generalize yX:(W2.alloc (.cells #[U Z hd,U Z layer] 33)) = W3 at m5 m6 m7 m9 m10 mc mB hT ⊢
   clear yX
   generalize hgc:W2.heap.size = gc at mc ⊢
   have ayJ:g5≠gc:=by omega
   have ayK:g6≠gc:=by omega
   have ayL:g7≠gc:=by omega
   have ayM:g9≠gc:=by omega
   have aqu:g10≠gc:=by omega
   have aWS:gc≠g5:=ayJ.symm
   have aWT:gc≠g6:=ayK.symm
   have aWU:gc≠g7:=ayL.symm
   have aWV:gc≠g9:=ayM.symm
   have aOB:gc≠g10:=aqu.symm
   have hGc:w.heap.size≤gc:=by omega
   clear oI O6 WW alF aWR TU
   try clear hgc
   have LA:w.heap.size≤W3.heap.size:=mB.size
   have hcon:=afy (some ⟨gc,0,none⟩) 1 [⟨hd,layer⟩] s.layers W3 (aqs mc) (Nat.le_refl 1)
   dsimp only [List.length_cons,List.length_nil,Nat.zero_add] at hcon
   (with_reducible refine hcon.mono ?_)
   clear hcon
   rintro e W4 ⟨rfl,hb⟩
   replace hT:=hT.below hb
   replace m5:=aU m5 hb
   replace m6:=aU m6 hb
   replace m7:=aU m7 hb
   replace m9:=aU m9 hb
   replace m10:=aU m10 hb
   replace mc:=aU mc hb
   replace mB:=dY mB hb
   clear hb
   have aaI:w.heap.size≤W4.heap.size:=mB.size
   have hc1:=aqt (hd:=hd) (layer:=layer) hSV.n.layers.1
   generalize FE [⟨hd,layer⟩] s.layers = E1 at*
   by_cases h1:E1 = 0
   case neg =>
    have HZ:Hid (T9 s v x t hd layer = E1):=Lib.hid (HE2.out.trans (if_pos h1))
    have HV2:Hid (I6 s v x t hd layer = z31):=Lib.hid (HV.out.trans (if_neg (by rw [HZ.out];exact h1)))
    clear HV
    have hd1:(E1 == 0) = false:=beq_eq_false_iff_ne.2 h1
    have hd2:(E1 != 0) = true:=by rw [bne,hd1];rfl
    clear h1 hc1 HE2
    obtain ⟨MO,MP,MQ,MR,aaT,aaU,aaV,aaW⟩:=jc m10
    go_wp2
    exact bodyPost_ret (nW rfl _ _ g10 31 #[U Z 0,U Z 0,U Z 0,U Z 0] (0,0) _ rfl (aN (aN (aN (aN m10 0 (U Z 0) rfl) 1 (U Z 0) rfl) 2 (U Z 0) rfl) 3 (U Z 0) rfl) Try.underlying31 rfl aM) rfl ⟨adX,(Below.setCell (p:=⟨g10,3,none⟩) (Below.setCell (p:=⟨g10,2,none⟩) (Below.setCell (p:=⟨g10,1,none⟩) (Below.setCell (p:=⟨g10,0,none⟩) mB rA _) rA _) rA _) rA _)⟩
   case pos =>
    obtain ⟨⟨hh0,hh1⟩,hl0,hl1⟩:=hc1 h1
    have HE3:=Lib.hid (HE2.out.trans (if_neg (fun h=>h h1)))
    clear HE2 hc1
    subst h1
    obtain ⟨ad3,ad4,amx,amy⟩:=xy m7
    obtain ⟨WR,WS⟩:=GJ m9
    go_wp2_with fail
    clear ad3 ad4 amx amy WR WS
    have hcon:=aa4 g s v x t hd layer W4 hT hSV hVN hbx aj3 (by omega) hh0 hh1 hl0 hl1
    (with_reducible refine hcon.mono ?_)
    clear hcon
    rintro e W5 ⟨rfl,hb⟩
    replace m5:=aU m5 hb
    replace m6:=aU m6 hb
    replace m7:=aU m7 hb
    replace m9:=aU m9 hb
    replace m10:=aU m10 hb
    replace mc:=aU mc hb
    replace mB:=dY mB hb
    clear hb
    have afi:w.heap.size≤W5.heap.size:=mB.size
    have HV2:Hid (I6 s v x t hd layer = oP s v x t hd layer):=Lib.hid (by rw [HV.out,HE3.out];by_cases hz:qz s v x t = 0;exact if_pos hz;rw [if_neg hz];unfold oP;rw [if_neg hz])
    clear HV
    generalize oP s v x t hd layer = Y at*
    obtain ⟨MO,MP,MQ,MR,aaT,aaU,aaV,aaW⟩:=jc m10
    go_wp2
    exact bodyPost_ret (nW rfl _ _ g10 31 #[U Z Y.f0.f0,U Z Y.f0.f1,U Z Y.f1.f0,U Z Y.f1.f1] (0,0) _ rfl (aN (aN (aN (aN m10 0 (U Z Y.f0.f0) rfl) 1 (U Z Y.f0.f1) rfl) 2 (U Z Y.f1.f0) rfl) 3 (U Z Y.f1.f1) rfl) Try.underlying31 rfl aM) rfl ⟨by rw [HV2.out,HE3.out];rfl,(Below.setCell (p:=⟨g10,3,none⟩) (Below.setCell (p:=⟨g10,2,none⟩) (Below.setCell (p:=⟨g10,1,none⟩) (Below.setCell (p:=⟨g10,0,none⟩) mB rA _) rA _) rA _) rA _)⟩
end Go.Proofs.Ytmhaiihjfgfaoaa.Gl
end
section
namespace Go.Proofs.Ytmhaiihjfgfaoaa.Pr
open Go.RowKit Go.Proofs.YtmhaiihjfgfaoaaW.PrintWords Go.Proofs.YtmhaiihjfgfaoaaW.PrintLast Go.Proofs.YtmhaiihjfgfaoaaW.PrintMore Go.Proofs.Ytmhaiihjfgfaoaa.Gl
set_option linter.unusedVariables false
def p9.f (ai:Int) (aj:Int) (aC:Int) (aD:Int) (aJ:Int) (aH:Int) (aK:Int) (aT:List Bool) (ak:List (rq)) (aI:Int) (aG:Int) (bn:Int) (bq:Int) (bH:Int) (bI:Int) (bG:Int) (bZ:Int) (cz:Int) (dw:Int) (dx:Int) (a3:Int) (gD:Int) (gF:Int):Option (Int × Int × Int × Int × Int):=some ((I6 ⟨ai,aj,aC,aD,aJ,aH,aK,aT,ak⟩ ⟨aI,aG,⟨bn,bq⟩,⟨bH,bI⟩,bG⟩ ⟨⟨bZ,cz⟩,⟨dw,dx⟩⟩ a3 gD gF).f0.f0,(I6 ⟨ai,aj,aC,aD,aJ,aH,aK,aT,ak⟩ ⟨aI,aG,⟨bn,bq⟩,⟨bH,bI⟩,bG⟩ ⟨⟨bZ,cz⟩,⟨dw,dx⟩⟩ a3 gD gF).f0.f1,(I6 ⟨ai,aj,aC,aD,aJ,aH,aK,aT,ak⟩ ⟨aI,aG,⟨bn,bq⟩,⟨bH,bI⟩,bG⟩ ⟨⟨bZ,cz⟩,⟨dw,dx⟩⟩ a3 gD gF).f1.f0,(I6 ⟨ai,aj,aC,aD,aJ,aH,aK,aT,ak⟩ ⟨aI,aG,⟨bn,bq⟩,⟨bH,bI⟩,bG⟩ ⟨⟨bZ,cz⟩,⟨dw,dx⟩⟩ a3 gD gF).f1.f1,T9 ⟨ai,aj,aC,aD,aJ,aH,aK,aT,ak⟩ ⟨aI,aG,⟨bn,bq⟩,⟨bH,bI⟩,bG⟩ ⟨⟨bZ,cz⟩,⟨dw,dx⟩⟩ a3 gD gF)
theorem p9.calls (ai:Int) (aj:Int) (aC:Int) (aD:Int) (aJ:Int) (aH:Int) (aK:Int) (dW:Option Addr) (dN:Nat) (aT:List Bool) (dZ:Option Addr) (dO:Nat) (ak:List (rq)) (aI:Int) (aG:Int) (bn:Int) (bq:Int) (bH:Int) (bI:Int) (bG:Int) (bZ:Int) (cz:Int) (dw:Int) (dx:Int) (a3:Int) (gD:Int) (gF:Int) (r1:Int) (r2:Int) (r3:Int) (r4:Int) (r5:Int) (w:World) (jT:Kd.C Kd.bool w dW aT.length aT) (jU:aT.length≤dN) (jV:Kd.C GI w dZ ak.length ak) (jW:ak.length≤dO) (h:p9.f ai aj aC aD aJ aH aK aT ak aI aG bn bq bH bI bG bZ cz dw dx a3 gD gF = some (r1,r2,r3,r4,r5)):
 Calls Try.prog 20 #[.agg #[U Z ai,U Z aj,U Z aC,U Z aD,U Z aJ,U Z aH,U Z aK,.slice dW aT.length dN,.slice dZ ak.length dO],.agg #[U Z aI,U Z aG,U Z bn,U Z bq,U Z bH,U Z bI,U Z bG],.agg #[U Z bZ,U Z cz,U Z dw,U Z dx],U Z a3,.agg #[U Z gD,U Z gF]] w fun e w'=>e = .returned (.tuple #[.agg #[U Z r1,U Z r2,U Z r3,U Z r4],U Z r5])∧Below w.heap.size w w':=by
 cases h
 exact amv ⟨ai,aj,aC,aD,aJ,aH,aK,aT,ak⟩ ⟨aI,aG,⟨bn,bq⟩,⟨bH,bI⟩,bG⟩ ⟨⟨bZ,cz⟩,⟨dw,dx⟩⟩ a3 gD gF dW dZ dN dO w jU jT jW jV
end Go.Proofs.Ytmhaiihjfgfaoaa.Pr
end
