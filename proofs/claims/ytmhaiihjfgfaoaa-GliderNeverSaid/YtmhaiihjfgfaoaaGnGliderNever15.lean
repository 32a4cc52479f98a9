import Derived.Test.YtmhaiihjfgfaoaaGnGliderNever3
import Derived.Test.YtmhaiihjfgfaoaaGnGliderNever9
import Derived.Test.YtmhaiihjfgfaoaaGnGliderNever14
import Derived.Test.YtmhaiihjfgfaoaaGnGliderNever7
set_option linter.unusedSimpArgs false
set_option linter.unusedVariables false
open Go.Value renaming int → Z
open Go.IntKind renaming i64 → ab
open Bool renaming true → ac, false → al
section
namespace Go.Proofs.Ytmhaiihjfgfaoaa.Gl
open Go.RowKit Go.Shelf Go.Proofs.YtmhaiihjfgfaoaaW.PrintWords Go.Proofs.YtmhaiihjfgfaoaaW.PrintLast Go.Proofs.YtmhaiihjfgfaoaaW.PrintMore Go.Proofs.Ytmhaiihjfgfaoaa.Pr Go.Proofs.YtmhaiihjfgfaoaaW.Round
set_option linter.unusedVariables false
set_option linter.unusedSimpArgs false
attribute [local go_sem] dw dx dM dN dz
theorem Ga {n:Int} (h0:-9223372036854775808≤n) (h1:n≤9223372036854775807):wrap64 n = n:=by unfold wrap64;omega
def uq (v:iw):Bool:=iR v.speed 0 5000 && iR v.dive 1 131072 && ou v.use.f0 v.use.f1 0 1073741824 && ou v.drift.f0 v.drift.f1 0 1073741824 && iR v.reserve 0 1073741824
def Fz (v:iw):Int:=if uq v then 0 else 2
theorem Gb (x lo hi:Int):aV.f x lo hi = some (iR x lo hi):=by
 unfold aV.f iR
 by_cases h:x ≥ lo
 ·rw [if_pos h,show decide (lo≤x) = true from decide_eq_true h];simp
 ·rw [if_neg h,show decide (lo≤x) = false from decide_eq_false h];simp
theorem ahe (v:iw):bG.f 4 v.speed v.dive v.use.f0 v.use.f1 v.drift.f0 v.drift.f1 v.reserve = some (Fz v):=by
 unfold bG.f Fz uq
 simp only [Gb,YB 2,Option.bind_some]
 cases iR v.speed 0 5000 <;> cases iR v.dive 1 131072 <;> cases ou v.use.f0 v.use.f1 0 1073741824 <;> cases ou v.drift.f0 v.drift.f1 0 1073741824 <;> cases iR v.reserve 0 1073741824 <;> rfl
theorem adv (v:iw) (w:World):Calls Try.prog 27 #[.agg #[Z ab v.speed,Z ab v.dive,Z ab v.use.f0,Z ab v.use.f1,Z ab v.drift.f0,Z ab v.drift.f1,Z ab v.reserve]] w (oo (Z ab (Fz v)) w):=bG.calls 4 _ _ _ _ _ _ _ _ w (ahe v)
def uK (x:cZ):Bool:=(EU x.f0.f0 x.f0.f1 && EU x.f1.f0 x.f1.f1) && (iR x.f0.f0 (-268435456) 268435456 && iR x.f0.f1 (-268435456) 268435456 && iR x.f1.f0 (-268435456) 268435456 && iR x.f1.f1 (-268435456) 268435456)
def BR (x:cZ):Int:=if uK x then 0 else 2
theorem Si (k:Nat) (a b:gm):bA.f (k+3) [a,b] = some (if EU a.f0 a.f1 && EU b.f0 b.f1 then 0 else 2):=by
 unfold bA.f
 have e1:(([a,b]:List gm).length:Int) = 2:=rfl
 have r0:lq [a,b] 0 = a:=rfl
 have r1:lq [a,b] 1 = b:=rfl
 have w1:wrap64 (0+1) = 1:=Ga (by decide) (by decide)
 have w2:wrap64 (1+1) = 2:=Ga (by decide) (by decide)
 have step:∀ (c:gm) (r:Option Int),(if c.f0 > c.f1 then some 2 else if c.f0 < -1073741824 then some 2 else if c.f1 > 1073741824 then some 2 else r) = if EU c.f0 c.f1 then r else some 2:=by
  intro c r
  cases h:EU c.f0 c.f1 with
  |true =>
   have:=wy.1 h
   rw [if_neg (by omega),if_neg (by omega),if_neg (by omega),if_pos rfl]
  |false =>
   have hn:¬ (c.f0≤c.f1∧-1073741824≤c.f0∧c.f1≤1073741824):=fun h2=>by rw [wy.2 h2] at h;cases h
   rw [show (if false = true then r else some 2) = some 2 from rfl]
   by_cases h1:c.f0 > c.f1
   ·rw [if_pos h1]
   ·rw [if_neg h1]
    by_cases h2:c.f0 < -1073741824
    ·rw [if_pos h2]
    ·rw [if_neg h2,if_pos (by omega)]
 simp only [bA.l0,e1]
 rw [if_pos (by decide),if_pos (by decide),if_pos (by decide),r0,step]
 cases ha:EU a.f0 a.f1 with
 |false=>rfl
 |true =>
  rw [if_pos rfl,w1,if_pos (by decide),if_pos (by decide),if_pos (by decide),r1,step]
  cases hb:EU b.f0 b.f1 with
  |false=>rfl
  |true =>
   rw [if_pos rfl,w2,if_neg (by decide)]
   rfl
theorem P7 (x:cZ):bH.f 4 x.f0.f0 x.f0.f1 x.f1.f0 x.f1.f1 = some (BR x):=by
 unfold bH.f BR uK
 rw [Si 1,Option.bind_some]
 cases h:(EU x.f0.f0 x.f0.f1 && EU x.f1.f0 x.f1.f1) with
 |false=>rfl
 |true =>
  rw [Bool.and_eq_true] at h
  have h1:=wy.1 h.1
  have h2:=wy.1 h.2
  have am:∀ a:Int,-1073741824≤a→a≤1073741824→bF.f a = some (max a (-a)):=fun a h0 h1=>by
   unfold bF.f
   rw [FW,Ga (by omega) (by omega)]
  rw [show (if (true = true) then (0:Int) else 2) = 0 from rfl,if_pos rfl]
  simp only [am _ h1.2.1 (by omega),am _ (show -1073741824≤x.f0.f1 by omega) h1.2.2,am _ h2.2.1 (by omega),am _ (show -1073741824≤x.f1.f1 by omega) h2.2.2,Option.bind_some,FW]
  by_cases hb:max (max (max (max x.f0.f0 (-x.f0.f0)) (max x.f0.f1 (-x.f0.f1))) (max x.f1.f0 (-x.f1.f0))) (max x.f1.f1 (-x.f1.f1)) > 268435456
  ·rw [if_pos hb,if_neg]
   rw [Bool.true_and,Bool.and_eq_true,Bool.and_eq_true,Bool.and_eq_true,dR,dR,dR,dR]
   omega
  ·rw [if_neg hb,if_pos]
   rw [Bool.true_and,Bool.and_eq_true,Bool.and_eq_true,Bool.and_eq_true,dR,dR,dR,dR]
   omega
theorem akL (x:cZ) (w:World):Calls Try.prog 67 #[.agg #[Z ab x.f0.f0,Z ab x.f0.f1,Z ab x.f1.f0,Z ab x.f1.f1]] w (oo (Z ab (BR x)) w):=bH.calls 4 _ _ _ _ _ w (P7 x)
def ow (x:cZ) (t:Int):Int:=if BR x≠0 then BR x else if iR t 0 1073741824 then 0 else 3
theorem abx (x:cZ) (t:Int):jW.f 4 x.f0.f0 x.f0.f1 x.f1.f0 x.f1.f1 t = some (ow x t):=by
 unfold jW.f ow
 rw [P7,Option.bind_some,Gb,Option.bind_some]
 by_cases h:BR x = 0
 ·rw [if_pos h,if_neg (show ¬ (BR x≠0) from fun h2=>h2 h)]
  cases iR t 0 1073741824 <;> rfl
 ·rw [if_neg h,if_pos h]
theorem Sj (x:cZ) (t:Int) (w:World):Calls Try.prog 114 #[.agg #[Z ab x.f0.f0,Z ab x.f0.f1,Z ab x.f1.f0,Z ab x.f1.f1],Z ab t] w (oo (Z ab (ow x t)) w):=jW.calls 4 _ _ _ _ _ _ w (abx x t)
def Ck (layers:Int) (c:eQ):Bool:=iR c.f0 0 8 && decide (0≤c.f1) && (decide (layers < 0) || decide (c.f1 < layers))
def vG (l:List eQ) (layers:Int):Int:=if l.length > 64 then 6 else if l.all (Ck layers) then 0 else 2
theorem ahf (layers:Int) (l:List eQ) (hl:l.length≤64):∀ (m i k:Nat),i+m = l.length→m < k→bV.l0 k layers l (l.length:Int) (i:Int) = some (if (l.drop i).all (Ck layers) then 0 else 2):=by
 intro m
 induction m with
 |zero =>
  intro i k h hk
  obtain ⟨k,rfl⟩:∃ q,k = q+1:=⟨k - 1,by omega⟩
  rw [bV.l0,if_neg (by omega),List.drop_of_length_le (by omega)]
  rfl
 |succ m ih =>
  intro i k h hk
  obtain ⟨k,rfl⟩:∃ q,k = q+1:=⟨k - 1,by omega⟩
  have hi:i < l.length:=by omega
  have hr:iO l (i:Int) = l[i]:=by
   unfold iO
   rw [List.getD_eq_getElem?_getD,Int.toNat_natCast,List.getElem?_eq_getElem hi]
   rfl
  have hih:=ih (i+1) k (by omega) (by omega)
  rw [bV.l0,if_pos (by omega),if_pos (by omega),if_pos (by omega),hr,Ga (by omega) (by omega),show ((i:Int)+1) = ((i+1:Nat):Int) by omega,hih,List.drop_eq_getElem_cons hi,List.all_cons]
  cases hb:Ck layers l[i] with
  |true =>
   have hb2:Ck layers l[i] = true:=hb
   unfold Ck at hb2
   simp only [Bool.and_eq_true,Bool.or_eq_true,decide_eq_true_eq,dR] at hb2
   rw [Bool.true_and,if_neg (by omega),if_neg (by omega),if_neg (by omega)]
   by_cases h0:layers ≥ 0
   ·rw [if_pos h0,if_neg (by omega)]
   ·rw [if_neg h0]
  |false =>
   have hn:¬ ((0≤l[i].f0∧l[i].f0≤8)∧0≤l[i].f1∧(layers < 0∨l[i].f1 < layers)):=fun h2=>by
    have:Ck layers l[i] = true:=by
     unfold Ck
     simp only [Bool.and_eq_true,Bool.or_eq_true,decide_eq_true_eq,dR]
     exact ⟨⟨h2.1,h2.2.1⟩,h2.2.2⟩
    rw [this] at hb
    cases hb
   rw [Bool.false_and,if_neg (show ¬ (false = true) by decide)]
   by_cases a1:l[i].f0 < 0
   ·rw [if_pos a1]
   ·rw [if_neg a1]
    by_cases a2:l[i].f0 ≥ 9
    ·rw [if_pos a2]
    ·rw [if_neg a2]
     by_cases a3:l[i].f1 < 0
     ·rw [if_pos a3]
     ·rw [if_neg a3,if_pos (by omega),if_pos (by omega)]
theorem ahg (l:List eQ) (layers:Int):bV.f 66 l layers = some (vG l layers):=by
 unfold bV.f vG
 by_cases h:l.length > 64
 ·rw [if_pos (by omega),if_pos h]
 ·rw [if_neg (by omega),if_neg h]
  have:=ahf layers l (by omega) l.length 0 66 (by omega) (by omega)
  rw [List.drop_zero] at this
  exact this
theorem adw (A:Option Addr) (c:Nat) (l:List eQ) (layers:Int) (w:World) (hC:Kd.C TP w A l.length l) (hc:l.length≤c):Calls Try.prog 65 #[.slice A l.length c,Z ab layers] w (oo (Z ab (vG l layers)) w):=bV.calls 66 _ _ _ _ _ w hC hc (ahg l layers)
theorem TQ (s:fT):(rE s = 0∧RG s = true)∨rE s = 2:=by
 unfold rE
 cases RG s
 ·exact .inr rfl
 ·exact .inl ⟨rfl,rfl⟩
theorem TR (v:iw):(Fz v = 0∧uq v = true)∨Fz v = 2:=by
 unfold Fz
 cases uq v
 ·exact .inr rfl
 ·exact .inl ⟨rfl,rfl⟩
theorem Gc {lo hi a b:Int}:ou lo hi a b = true↔(lo≤hi∧-1073741824≤lo∧hi≤1073741824)∧a≤lo∧hi≤b:=by unfold ou;simp only [Bool.and_eq_true,decide_eq_true_eq,wy];exact and_assoc
theorem akM {s:fT} (h:RG s = true):BQ s:=by
 unfold RG at h
 simp only [Bool.and_eq_true,decide_eq_true_eq,dR,Bool.not_eq_true'] at h
 obtain ⟨⟨⟨⟨⟨⟨⟨⟨⟨h0,h1⟩,h2⟩,h3⟩,h4⟩,h5⟩,h6⟩,h7⟩,h8⟩,h9⟩:=h
 refine ⟨⟨h0,h1,h2,h3,h4,h5,h6⟩,h7,h8,fun c hc=>?_⟩
 have:=List.any_eq_false.1 h9 c hc
 unfold RH at this
 simp only [Bool.not_eq_true,Bool.or_eq_false_iff,Bool.not_eq_false',Gc] at this
 omega
theorem akN {v:iw} (h:uq v = true):uF v:=by
 unfold uq at h
 simp only [Bool.and_eq_true,dR] at h
 exact ⟨h.1.1.1.1,h.1.1.1.2⟩
theorem adx {x:cZ} (h:BR x = 0):gp x:=by
 unfold BR at h
 cases hb:uK x with
 |false=>rw [hb] at h;cases h
 |true =>
  unfold uK at hb
  simp only [Bool.and_eq_true,dR,wy] at hb
  unfold gp Cc
  omega
def il (s:fT) (v:iw):Int:=if rE s≠0 then rE s else Fz v
theorem ve {s:fT} {v:iw} (h:il s v = 0):BQ s∧uF v:=by
 unfold il at h
 rcases TQ s with ⟨h1,h2⟩|h1
 ·rw [if_neg (by omega)] at h
  rcases TR v with ⟨h3,h4⟩|h3
  ·exact ⟨akM h2,akN h4⟩
  ·omega
 ·rw [if_pos (by omega)] at h
  omega
def YC (s:fT) (v:iw) (E:Int) (w:World) (e:Ending) (w':World):Prop :=
 ∃ ptr,e = .returned (.tuple #[.pointer ptr,Z ab E])∧Below w.heap.size w w'∧((il s v = 0∧∃ g,ptr = some ⟨g,0,none⟩∧w.heap.size≤g∧dZ w' g s v)∨(il s v≠0∧ptr = none))
set_option maxRecDepth 100000 in
set_option maxHeartbeats 4000000 in
theorem YD (s:fT) (v:iw) (A7 A8:Option Addr) (c7 c8:Nat) (w:World) (h7:s.shores.length≤c7) (Ry:Kd.C Kd.bool w A7 s.shores.length s.shores) (h8:s.currents.length≤c8) (JL:Kd.C Cm w A8 s.currents.length s.currents):
 Calls Try.prog 113 #[.agg #[Z ab s.nx,Z ab s.ny,Z ab s.cell,Z ab s.slot,Z ab s.slots,Z ab s.layers,Z ab s.most,.slice A7 s.shores.length c7,.slice A8 s.currents.length c8],.agg #[Z ab v.speed,Z ab v.dive,Z ab v.use.f0,Z ab v.use.f1,Z ab v.drift.f0,Z ab v.drift.f1,Z ab v.reserve]] w (YC s v (il s v) w):=by
 have Cn:=Try.underlying25
 have xX:=Try.underlying29
 have anG:=Try.underlying110
 have HE:Hid (il s v = if rE s≠0 then rE s else Fz v):=Lib.hid rfl
 go_enter Try.func113,Try.ntmps113
 go_wp2_with fail
 have m2:aZ ((w.alloc (.cells #[Z ab s.nx,Z ab s.ny,Z ab s.cell,Z ab s.slot,Z ab s.slots,Z ab s.layers,Z ab s.most,.slice A7 s.shores.length c7,.slice A8 s.currents.length c8] 25)).alloc (.cells #[Z ab v.speed,Z ab v.dive,Z ab v.use.f0,Z ab v.use.f1,Z ab v.drift.f0,Z ab v.drift.f1,Z ab v.reserve] 29)) (w.heap.size) #[Z ab s.nx,Z ab s.ny,Z ab s.cell,Z ab s.slot,Z ab s.slots,Z ab s.layers,Z ab s.most,.slice A7 s.shores.length c7,.slice A8 s.currents.length c8] 25:=(aa RI _)
 have m3:aZ ((w.alloc (.cells #[Z ab s.nx,Z ab s.ny,Z ab s.cell,Z ab s.slot,Z ab s.slots,Z ab s.layers,Z ab s.most,.slice A7 s.shores.length c7,.slice A8 s.currents.length c8] 25)).alloc (.cells #[Z ab v.speed,Z ab v.dive,Z ab v.use.f0,Z ab v.use.f1,Z ab v.drift.f0,Z ab v.drift.f1,Z ab v.reserve] 29)) (w.heap.size+1) #[Z ab v.speed,Z ab v.dive,Z ab v.use.f0,Z ab v.use.f1,Z ab v.drift.f0,Z ab v.drift.f1,Z ab v.reserve] 29:=TS
 have mB:Below w.heap.size w ((w.alloc (.cells #[Z ab s.nx,Z ab s.ny,Z ab s.cell,Z ab s.slot,Z ab s.slots,Z ab s.layers,Z ab s.most,.slice A7 s.shores.length c7,.slice A8 s.currents.length c8] 25)).alloc (.cells #[Z ab v.speed,Z ab v.dive,Z ab v.use.f0,Z ab v.use.f1,Z ab v.drift.f0,Z ab v.drift.f1,Z ab v.reserve] 29)):=(ai (ai (Below.refl w.heap.size w) _) _)
 have dU:w.heap.size≤w.heap.size:=Nat.le_refl _
 generalize jq:((w.alloc (.cells #[Z ab s.nx,Z ab s.ny,Z ab s.cell,Z ab s.slot,Z ab s.slots,Z ab s.layers,Z ab s.most,.slice A7 s.shores.length c7,.slice A8 s.currents.length c8] 25)).alloc (.cells #[Z ab v.speed,Z ab v.dive,Z ab v.use.f0,Z ab v.use.f1,Z ab v.drift.f0,Z ab v.drift.f1,Z ab v.reserve] 29)) = W1 at m2 m3 mB ⊢
 clear jq
 generalize hg2:w.heap.size = g2 at m2 m3 ⊢
 have hG2:w.heap.size≤g2:=by omega
 generalize hg3:g2+1 = g3 at m3 ⊢
 have Fh:g2≠g3:=by omega
 have abn:g3≠g2:=Fh.symm
 have hG3:w.heap.size≤g3:=by omega
 clear dU
 try clear hg3
 try clear hg2
 have lC:w.heap.size≤W1.heap.size:=mB.size
 have hcon:=ady s A7 A8 c7 c8 W1 h7 (Kd.bD Ry mB) h8 (Kd.bD JL mB)
 (with_reducible refine hcon.mono ?_)
 clear hcon
 rintro e W2 ⟨rfl,hb⟩
 replace m2:=af m2 hb
 replace m3:=af m3 hb
 replace mB:=aJ mB hb
 clear hb
 have mY:w.heap.size≤W2.heap.size:=mB.size
 rcases TQ s with ⟨h1,_⟩|h1
 case inr =>
  have HZ:Hid (il s v = 2):=Lib.hid (HE.out.trans (by rw [h1];rfl))
  rw [h1]
  clear h1 HE
  go_wp2
  go_ret2
  exact ⟨none,jD,mB,.inr ⟨by rw [HZ.out];decide,rfl⟩⟩
 case inl =>
  have HE2:=Lib.hid (HE.out.trans (if_neg (by omega)))
  clear HE
  rw [h1]
  clear h1
  obtain ⟨YE,YF,YG,YH,YI,YJ,YK⟩:=vg m3
  go_wp2_with fail
  clear YE YF YG YH YI YJ YK
  have hcon:=adv v W2
  (with_reducible refine hcon.mono ?_)
  clear hcon
  rintro e W3 ⟨rfl,hb⟩
  replace m2:=af m2 hb
  replace m3:=af m3 hb
  replace mB:=aJ mB hb
  clear hb
  have uY:w.heap.size≤W3.heap.size:=mB.size
  rcases TR v with ⟨h1,_⟩|h1
  case inr =>
   have HE:=HE2
   have HZ:Hid (il s v = 2):=Lib.hid (HE2.out.trans h1)
   rw [h1]
   clear h1 HE
   go_wp2
   go_ret2
   exact ⟨none,jD,mB,.inr ⟨by rw [HZ.out];decide,rfl⟩⟩
  case inl =>
   have HZ:=Lib.hid (HE2.out.trans h1)
   rw [h1]
   clear h1 HE2
   obtain ⟨ao7,ao8,ao9,apa,aB0,aB1,aB2,aB3,aB4⟩:=EW m2
   obtain ⟨YE,YF,YG,YH,YI,YJ,YK⟩:=vg m3
   go_wp2
   go_ret2
   exact ⟨_,jD,ai mB _,.inl ⟨HZ.out,W3.heap.size,rfl,mB.size,A7,c7,A8,c8,bB W3 (.cells #[Z ab s.nx,Z ab s.ny,Z ab s.cell,Z ab s.slot,Z ab s.slots,Z ab s.layers,Z ab s.most,.slice A7 s.shores.length c7,.slice A8 s.currents.length c8,Z ab v.speed,Z ab v.dive,Z ab v.use.f0,Z ab v.use.f1,Z ab v.drift.f0,Z ab v.drift.f1,Z ab v.reserve] 110),h7,Kd.bD Ry (ai mB _),h8,Kd.bD JL (ai mB _)⟩⟩
def eB (s:fT) (v:iw) (x:cZ) (t:Int):Int:=if il s v≠0 then il s v else ow x t
set_option maxRecDepth 100000 in
set_option maxHeartbeats 4000000 in
theorem J2 (s:fT) (v:iw) (x:cZ) (t:Int) (A7 A8:Option Addr) (c7 c8:Nat) (w:World) (h7:s.shores.length≤c7) (Ry:Kd.C Kd.bool w A7 s.shores.length s.shores) (h8:s.currents.length≤c8) (JL:Kd.C Cm w A8 s.currents.length s.currents):
 Calls Try.prog 64 #[.agg #[Z ab s.nx,Z ab s.ny,Z ab s.cell,Z ab s.slot,Z ab s.slots,Z ab s.layers,Z ab s.most,.slice A7 s.shores.length c7,.slice A8 s.currents.length c8],.agg #[Z ab v.speed,Z ab v.dive,Z ab v.use.f0,Z ab v.use.f1,Z ab v.drift.f0,Z ab v.drift.f1,Z ab v.reserve],.agg #[Z ab x.f0.f0,Z ab x.f0.f1,Z ab x.f1.f0,Z ab x.f1.f1],Z ab t] w (YC s v (eB s v x t) w):=by
 have Cn:=Try.underlying25
 have xX:=Try.underlying29
 have pG:=Try.underlying31
 have HE:Hid (eB s v x t = if il s v≠0 then il s v else ow x t):=Lib.hid rfl
 go_enter Try.func64,Try.ntmps64
 go_wp2_with fail
 have m4:aZ (((w.alloc (.cells #[Z ab s.nx,Z ab s.ny,Z ab s.cell,Z ab s.slot,Z ab s.slots,Z ab s.layers,Z ab s.most,.slice A7 s.shores.length c7,.slice A8 s.currents.length c8] 25)).alloc (.cells #[Z ab v.speed,Z ab v.dive,Z ab v.use.f0,Z ab v.use.f1,Z ab v.drift.f0,Z ab v.drift.f1,Z ab v.reserve] 29)).alloc (.cells #[Z ab x.f0.f0,Z ab x.f0.f1,Z ab x.f1.f0,Z ab x.f1.f1] 31)) (w.heap.size) #[Z ab s.nx,Z ab s.ny,Z ab s.cell,Z ab s.slot,Z ab s.slots,Z ab s.layers,Z ab s.most,.slice A7 s.shores.length c7,.slice A8 s.currents.length c8] 25:=(aa (aa RI _) _)
 have m5:aZ (((w.alloc (.cells #[Z ab s.nx,Z ab s.ny,Z ab s.cell,Z ab s.slot,Z ab s.slots,Z ab s.layers,Z ab s.most,.slice A7 s.shores.length c7,.slice A8 s.currents.length c8] 25)).alloc (.cells #[Z ab v.speed,Z ab v.dive,Z ab v.use.f0,Z ab v.use.f1,Z ab v.drift.f0,Z ab v.drift.f1,Z ab v.reserve] 29)).alloc (.cells #[Z ab x.f0.f0,Z ab x.f0.f1,Z ab x.f1.f0,Z ab x.f1.f1] 31)) (w.heap.size+1) #[Z ab v.speed,Z ab v.dive,Z ab v.use.f0,Z ab v.use.f1,Z ab v.drift.f0,Z ab v.drift.f1,Z ab v.reserve] 29:=(aa TS _)
 have m6:aZ (((w.alloc (.cells #[Z ab s.nx,Z ab s.ny,Z ab s.cell,Z ab s.slot,Z ab s.slots,Z ab s.layers,Z ab s.most,.slice A7 s.shores.length c7,.slice A8 s.currents.length c8] 25)).alloc (.cells #[Z ab v.speed,Z ab v.dive,Z ab v.use.f0,Z ab v.use.f1,Z ab v.drift.f0,Z ab v.drift.f1,Z ab v.reserve] 29)).alloc (.cells #[Z ab x.f0.f0,Z ab x.f0.f1,Z ab x.f1.f0,Z ab x.f1.f1] 31)) (w.heap.size+1+1) #[Z ab x.f0.f0,Z ab x.f0.f1,Z ab x.f1.f0,Z ab x.f1.f1] 31:=aby
 have mB:Below w.heap.size w (((w.alloc (.cells #[Z ab s.nx,Z ab s.ny,Z ab s.cell,Z ab s.slot,Z ab s.slots,Z ab s.layers,Z ab s.most,.slice A7 s.shores.length c7,.slice A8 s.currents.length c8] 25)).alloc (.cells #[Z ab v.speed,Z ab v.dive,Z ab v.use.f0,Z ab v.use.f1,Z ab v.drift.f0,Z ab v.drift.f1,Z ab v.reserve] 29)).alloc (.cells #[Z ab x.f0.f0,Z ab x.f0.f1,Z ab x.f1.f0,Z ab x.f1.f1] 31)):=(ai (ai (ai (Below.refl w.heap.size w) _) _) _)
 have dU:w.heap.size≤w.heap.size:=Nat.le_refl _
 generalize jq:(((w.alloc (.cells #[Z ab s.nx,Z ab s.ny,Z ab s.cell,Z ab s.slot,Z ab s.slots,Z ab s.layers,Z ab s.most,.slice A7 s.shores.length c7,.slice A8 s.currents.length c8] 25)).alloc (.cells #[Z ab v.speed,Z ab v.dive,Z ab v.use.f0,Z ab v.use.f1,Z ab v.drift.f0,Z ab v.drift.f1,Z ab v.reserve] 29)).alloc (.cells #[Z ab x.f0.f0,Z ab x.f0.f1,Z ab x.f1.f0,Z ab x.f1.f1] 31)) = W1 at m4 m5 m6 mB ⊢
 clear jq
 generalize hg4:w.heap.size = g4 at m4 m5 m6 ⊢
 have hG4:w.heap.size≤g4:=by omega
 generalize hg5:g4+1 = g5 at m5 m6 ⊢
 have mJ:g4≠g5:=by omega
 have TT:g5≠g4:=mJ.symm
 have Yd:w.heap.size≤g5:=by omega
 generalize Ye:g5+1 = g6 at m6 ⊢
 have um:g4≠g6:=by omega
 have nI:g5≠g6:=by omega
 have TE:g6≠g4:=um.symm
 have iT:g6≠g5:=nI.symm
 have RB:w.heap.size≤g6:=by omega
 clear dU
 try clear Ye
 try clear hg5
 try clear hg4
 have lC:w.heap.size≤W1.heap.size:=mB.size
 have hcon:=YD s v A7 A8 c7 c8 W1 h7 (Kd.bD Ry mB) h8 (Kd.bD JL mB)
 (with_reducible refine hcon.mono ?_)
 clear hcon
 rintro e W2 ⟨ptr,rfl,hb,⟨h0,g,rfl,hg,hT⟩|⟨h0,rfl⟩⟩
 case inr =>
  have HZ:=Lib.hid (HE.out.trans (if_pos h0))
  replace mB:=aJ mB hb
  clear hb HE
  have h00:=Lib.hid h0
  generalize Sk:il s v = E0 at*
  have hE:=Lib.hid Sk
  clear Sk
  have hd:(E0 == 0) = false:=beq_eq_false_iff_ne.2 h0
  have hd2:(E0 != 0) = true:=by rw [bne,hd];rfl
  clear h0
  go_wp2
  go_ret2
  exact ⟨none,jD,mB,.inr ⟨by rw [hE.out];exact h00.out,rfl⟩⟩
 case inl =>
  have HZ:=Lib.hid (HE.out.trans (if_neg (fun h=>h h0)))
  clear HE
  have hg0:w.heap.size≤g:=Nat.le_trans (m:=W1.heap.size) (by assumption) hg
  replace m4:=af m4 hb
  replace m5:=af m5 hb
  replace m6:=af m6 hb
  replace mB:=aJ mB hb
  clear hb
  have H0:=Lib.hid h0
  rw [h0]
  clear h0
  have mY:w.heap.size≤W2.heap.size:=mB.size
  obtain ⟨zF,JM,JN,JO⟩:=mH m6
  go_wp2_with fail
  clear zF JM JN JO
  have hcon:=Sj x t W2
  (with_reducible refine hcon.mono ?_)
  clear hcon
  rintro e W3 ⟨rfl,hb⟩
  replace hT:=hT.below hb
  replace m4:=af m4 hb
  replace m5:=af m5 hb
  replace m6:=af m6 hb
  replace mB:=aJ mB hb
  clear hb
  go_wp2
  go_ret2
  exact ⟨_,jD,mB,.inl ⟨H0.out,g,rfl,hg0,hT⟩⟩
theorem mg {a b:Int} (h:(if a≠0 then a else b) = 0):a = 0∧b = 0:=by
 by_cases h0:a = 0
 ·rw [if_neg (fun h=>h h0)] at h
  exact ⟨h0,h⟩
 ·rw [if_pos h0] at h
  exact absurd h h0
theorem akO {W:World} {b:Nat} {x y:Int} (h:W.heap[b]? = some (.cells #[Z ab x,Z ab y] 33 (0,0))):Kd.C TP W (some ⟨b,0,none⟩) 1 [⟨x,y⟩]:=by
 refine ⟨rfl,by decide,fun _=>⟨⟨b,0,none⟩,rfl,fun j p hj=>?_⟩⟩
 match j,hj with
 |0,hj =>
  obtain rfl:(⟨x,y⟩:eQ) = p:=by simpa using hj
  refine ⟨_,rfl,apb W ⟨x,y⟩,fun i u hu=>?_⟩
  match i,hu with
  |0,hu=>exact ((ae h 0).trans (by simpa using hu))
  |1,hu=>exact ((ae h 1).trans (by simpa using hu))
theorem akP {hd layer layers:Int} (hl:1≤layers) (h:vG [⟨hd,layer⟩] layers = 0):(0≤hd∧hd≤8)∧0≤layer∧layer < layers:=by
 unfold vG at h
 cases hb:([⟨hd,layer⟩]:List eQ).all (Ck layers) with
 |false=>rw [hb] at h;simp at h
 |true =>
  simp only [List.all_cons,List.all_nil,Bool.and_true,Ck,Bool.and_eq_true,Bool.or_eq_true,decide_eq_true_eq,dR] at hb
  omega
theorem yB {x:cZ} {t:Int} (h:ow x t = 0):gp x∧0≤t∧t≤1073741824:=by
 unfold ow at h
 obtain ⟨h1,h2⟩:=mg h
 refine ⟨adx h1,?_⟩
 cases hb:iR t 0 1073741824 with
 |false=>rw [hb] at h2;simp at h2
 |true=>exact dR.1 hb
def P8 (s:fT) (v:iw) (x:cZ) (t hd layer:Int):Int:=if eB s v x t≠0 then eB s v x t else if vG [⟨hd,layer⟩] s.layers≠0 then vG [⟨hd,layer⟩] s.layers else jv s v x t
def BN (s:fT) (v:iw) (x:cZ) (t hd layer:Int):cZ:=if P8 s v x t hd layer = 0 then iX s v x t hd layer else z31
set_option maxRecDepth 100000 in
set_option maxHeartbeats 8000000 in
theorem ahh (s:fT) (v:iw) (x:cZ) (t hd layer:Int) (A7 A8:Option Addr) (c7 c8:Nat) (w:World) (h7:s.shores.length≤c7) (Ry:Kd.C Kd.bool w A7 s.shores.length s.shores) (h8:s.currents.length≤c8) (JL:Kd.C Cm w A8 s.currents.length s.currents):
 Calls Try.prog 20 #[.agg #[Z ab s.nx,Z ab s.ny,Z ab s.cell,Z ab s.slot,Z ab s.slots,Z ab s.layers,Z ab s.most,.slice A7 s.shores.length c7,.slice A8 s.currents.length c8],.agg #[Z ab v.speed,Z ab v.dive,Z ab v.use.f0,Z ab v.use.f1,Z ab v.drift.f0,Z ab v.drift.f1,Z ab v.reserve],.agg #[Z ab x.f0.f0,Z ab x.f0.f1,Z ab x.f1.f0,Z ab x.f1.f1],Z ab t,.agg #[Z ab hd,Z ab layer]] w (oo (.tuple #[.agg #[Z ab (BN s v x t hd layer).f0.f0,Z ab (BN s v x t hd layer).f0.f1,Z ab (BN s v x t hd layer).f1.f0,Z ab (BN s v x t hd layer).f1.f1],Z ab (P8 s v x t hd layer)]) w):=by
 have Cn:=Try.underlying25
 have xX:=Try.underlying29
 have pG:=Try.underlying31
 have F5:=Try.underlying33
 have mE:=Try.underlying27
 have HE:Hid (P8 s v x t hd layer = if eB s v x t≠0 then eB s v x t else if vG [⟨hd,layer⟩] s.layers≠0 then vG [⟨hd,layer⟩] s.layers else jv s v x t):=Lib.hid rfl
 have HV:Hid (BN s v x t hd layer = if P8 s v x t hd layer = 0 then iX s v x t hd layer else z31):=Lib.hid rfl
 go_enter Try.func20,Try.ntmps20
 go_wp2_with fail
 have m5:aZ (((((w.alloc (.cells #[Z ab s.nx,Z ab s.ny,Z ab s.cell,Z ab s.slot,Z ab s.slots,Z ab s.layers,Z ab s.most,.slice A7 s.shores.length c7,.slice A8 s.currents.length c8] 25)).alloc (.cells #[Z ab v.speed,Z ab v.dive,Z ab v.use.f0,Z ab v.use.f1,Z ab v.drift.f0,Z ab v.drift.f1,Z ab v.reserve] 29)).alloc (.cells #[Z ab x.f0.f0,Z ab x.f0.f1,Z ab x.f1.f0,Z ab x.f1.f1] 31)).alloc (.cells #[Z ab hd,Z ab layer] 33)).alloc (.cells #[Z ab 0,Z ab 0,Z ab 0,Z ab 0] 31)) (w.heap.size) #[Z ab s.nx,Z ab s.ny,Z ab s.cell,Z ab s.slot,Z ab s.slots,Z ab s.layers,Z ab s.most,.slice A7 s.shores.length c7,.slice A8 s.currents.length c8] 25:=(aa (aa (aa (aa RI _) _) _) _)
 have m6:aZ (((((w.alloc (.cells #[Z ab s.nx,Z ab s.ny,Z ab s.cell,Z ab s.slot,Z ab s.slots,Z ab s.layers,Z ab s.most,.slice A7 s.shores.length c7,.slice A8 s.currents.length c8] 25)).alloc (.cells #[Z ab v.speed,Z ab v.dive,Z ab v.use.f0,Z ab v.use.f1,Z ab v.drift.f0,Z ab v.drift.f1,Z ab v.reserve] 29)).alloc (.cells #[Z ab x.f0.f0,Z ab x.f0.f1,Z ab x.f1.f0,Z ab x.f1.f1] 31)).alloc (.cells #[Z ab hd,Z ab layer] 33)).alloc (.cells #[Z ab 0,Z ab 0,Z ab 0,Z ab 0] 31)) (w.heap.size+1) #[Z ab v.speed,Z ab v.dive,Z ab v.use.f0,Z ab v.use.f1,Z ab v.drift.f0,Z ab v.drift.f1,Z ab v.reserve] 29:=(aa (aa (aa TS _) _) _)
 have m7:aZ (((((w.alloc (.cells #[Z ab s.nx,Z ab s.ny,Z ab s.cell,Z ab s.slot,Z ab s.slots,Z ab s.layers,Z ab s.most,.slice A7 s.shores.length c7,.slice A8 s.currents.length c8] 25)).alloc (.cells #[Z ab v.speed,Z ab v.dive,Z ab v.use.f0,Z ab v.use.f1,Z ab v.drift.f0,Z ab v.drift.f1,Z ab v.reserve] 29)).alloc (.cells #[Z ab x.f0.f0,Z ab x.f0.f1,Z ab x.f1.f0,Z ab x.f1.f1] 31)).alloc (.cells #[Z ab hd,Z ab layer] 33)).alloc (.cells #[Z ab 0,Z ab 0,Z ab 0,Z ab 0] 31)) (w.heap.size+1+1) #[Z ab x.f0.f0,Z ab x.f0.f1,Z ab x.f1.f0,Z ab x.f1.f1] 31:=(aa (aa aby _) _)
 have m9:aZ (((((w.alloc (.cells #[Z ab s.nx,Z ab s.ny,Z ab s.cell,Z ab s.slot,Z ab s.slots,Z ab s.layers,Z ab s.most,.slice A7 s.shores.length c7,.slice A8 s.currents.length c8] 25)).alloc (.cells #[Z ab v.speed,Z ab v.dive,Z ab v.use.f0,Z ab v.use.f1,Z ab v.drift.f0,Z ab v.drift.f1,Z ab v.reserve] 29)).alloc (.cells #[Z ab x.f0.f0,Z ab x.f0.f1,Z ab x.f1.f0,Z ab x.f1.f1] 31)).alloc (.cells #[Z ab hd,Z ab layer] 33)).alloc (.cells #[Z ab 0,Z ab 0,Z ab 0,Z ab 0] 31)) (w.heap.size+1+1+1) #[Z ab hd,Z ab layer] 33:=(aa (by have h_:=bB (((w.alloc (.cells #[Z ab s.nx,Z ab s.ny,Z ab s.cell,Z ab s.slot,Z ab s.slots,Z ab s.layers,Z ab s.most,.slice A7 s.shores.length c7,.slice A8 s.currents.length c8] 25)).alloc (.cells #[Z ab v.speed,Z ab v.dive,Z ab v.use.f0,Z ab v.use.f1,Z ab v.drift.f0,Z ab v.drift.f1,Z ab v.reserve] 29)).alloc (.cells #[Z ab x.f0.f0,Z ab x.f0.f1,Z ab x.f1.f0,Z ab x.f1.f1] 31)) (.cells #[Z ab hd,Z ab layer] 33);first|exact h_|(simp only [World.size_alloc] at h_;exact h_)) _)
 have m10:aZ (((((w.alloc (.cells #[Z ab s.nx,Z ab s.ny,Z ab s.cell,Z ab s.slot,Z ab s.slots,Z ab s.layers,Z ab s.most,.slice A7 s.shores.length c7,.slice A8 s.currents.length c8] 25)).alloc (.cells #[Z ab v.speed,Z ab v.dive,Z ab v.use.f0,Z ab v.use.f1,Z ab v.drift.f0,Z ab v.drift.f1,Z ab v.reserve] 29)).alloc (.cells #[Z ab x.f0.f0,Z ab x.f0.f1,Z ab x.f1.f0,Z ab x.f1.f1] 31)).alloc (.cells #[Z ab hd,Z ab layer] 33)).alloc (.cells #[Z ab 0,Z ab 0,Z ab 0,Z ab 0] 31)) (w.heap.size+1+1+1+1) #[Z ab 0,Z ab 0,Z ab 0,Z ab 0] 31:=(by have h_:=bB ((((w.alloc (.cells #[Z ab s.nx,Z ab s.ny,Z ab s.cell,Z ab s.slot,Z ab s.slots,Z ab s.layers,Z ab s.most,.slice A7 s.shores.length c7,.slice A8 s.currents.length c8] 25)).alloc (.cells #[Z ab v.speed,Z ab v.dive,Z ab v.use.f0,Z ab v.use.f1,Z ab v.drift.f0,Z ab v.drift.f1,Z ab v.reserve] 29)).alloc (.cells #[Z ab x.f0.f0,Z ab x.f0.f1,Z ab x.f1.f0,Z ab x.f1.f1] 31)).alloc (.cells #[Z ab hd,Z ab layer] 33)) (.cells #[Z ab 0,Z ab 0,Z ab 0,Z ab 0] 31);first|exact h_|(simp only [World.size_alloc] at h_;exact h_))
 have mB:Below w.heap.size w (((((w.alloc (.cells #[Z ab s.nx,Z ab s.ny,Z ab s.cell,Z ab s.slot,Z ab s.slots,Z ab s.layers,Z ab s.most,.slice A7 s.shores.length c7,.slice A8 s.currents.length c8] 25)).alloc (.cells #[Z ab v.speed,Z ab v.dive,Z ab v.use.f0,Z ab v.use.f1,Z ab v.drift.f0,Z ab v.drift.f1,Z ab v.reserve] 29)).alloc (.cells #[Z ab x.f0.f0,Z ab x.f0.f1,Z ab x.f1.f0,Z ab x.f1.f1] 31)).alloc (.cells #[Z ab hd,Z ab layer] 33)).alloc (.cells #[Z ab 0,Z ab 0,Z ab 0,Z ab 0] 31)):=(ai (ai (ai (ai (ai (Below.refl w.heap.size w) _) _) _) _) _)
 have dU:w.heap.size≤w.heap.size:=Nat.le_refl _
 generalize jq:(((((w.alloc (.cells #[Z ab s.nx,Z ab s.ny,Z ab s.cell,Z ab s.slot,Z ab s.slots,Z ab s.layers,Z ab s.most,.slice A7 s.shores.length c7,.slice A8 s.currents.length c8] 25)).alloc (.cells #[Z ab v.speed,Z ab v.dive,Z ab v.use.f0,Z ab v.use.f1,Z ab v.drift.f0,Z ab v.drift.f1,Z ab v.reserve] 29)).alloc (.cells #[Z ab x.f0.f0,Z ab x.f0.f1,Z ab x.f1.f0,Z ab x.f1.f1] 31)).alloc (.cells #[Z ab hd,Z ab layer] 33)).alloc (.cells #[Z ab 0,Z ab 0,Z ab 0,Z ab 0] 31)) = W1 at m5 m6 m7 m9 m10 mB ⊢
 clear jq
 generalize hg5:w.heap.size = g5 at m5 m6 m7 m9 m10 ⊢
 have Yd:w.heap.size≤g5:=by omega
 generalize Ye:g5+1 = g6 at m6 m7 m9 m10 ⊢
 have nI:g5≠g6:=by omega
 have iT:g6≠g5:=nI.symm
 have RB:w.heap.size≤g6:=by omega
 generalize hg7:g6+1 = g7 at m7 m9 m10 ⊢
 have Cg:g5≠g7:=by omega
 have ed:g6≠g7:=by omega
 have TJ:g7≠g5:=Cg.symm
 have TG:g7≠g6:=ed.symm
 have hG7:w.heap.size≤g7:=by omega
 generalize hg9:g7+1 = g9 at m9 m10 ⊢
 have abz:g5≠g9:=by omega
 have PQ:g6≠g9:=by omega
 have xS:g7≠g9:=by omega
 have apc:g9≠g5:=abz.symm
 have agU:g9≠g6:=PQ.symm
 have PT:g9≠g7:=xS.symm
 have hG9:w.heap.size≤g9:=by omega
 generalize Tq:g9+1 = g10 at m10 ⊢
 have jU:g5≠g10:=by omega
 have jA:g6≠g10:=by omega
 have zN:g7≠g10:=by omega
 have TH:g9≠g10:=by omega
 have Tt:g10≠g5:=jU.symm
 have LM:g10≠g6:=jA.symm
 have TI:g10≠g7:=zN.symm
 have akG:g10≠g9:=TH.symm
 have lZ:w.heap.size≤g10:=by omega
 clear dU
 try clear Tq
 try clear hg9
 try clear hg7
 try clear Ye
 try clear hg5
 have lC:w.heap.size≤W1.heap.size:=mB.size
 have hbg:eB s v x t = if il s v≠0 then il s v else ow x t:=rfl
 have HBG:=Lib.hid hbg
 clear hbg
 have hcon:=J2 s v x t A7 A8 c7 c8 W1 h7 (Kd.bD Ry mB) h8 (Kd.bD JL mB)
 (with_reducible refine hcon.mono ?_)
 clear hcon
 rintro e W2 ⟨ptr,rfl,hb,hpt⟩
 replace m5:=af m5 hb
 replace m6:=af m6 hb
 replace m7:=af m7 hb
 replace m9:=af m9 hb
 replace m10:=af m10 hb
 replace mB:=aJ mB hb
 clear hb
 have mY:w.heap.size≤W2.heap.size:=mB.size
 generalize Sk:eB s v x t = E0 at*
 have HE0:=Lib.hid Sk
 clear Sk
 by_cases h0:E0 = 0
 case neg =>
  have HZ:Hid (P8 s v x t hd layer = E0):=Lib.hid (HE.out.trans (if_pos h0))
  have HV2:Hid (BN s v x t hd layer = z31):=Lib.hid (HV.out.trans (if_neg (by rw [HZ.out];exact h0)))
  clear HV
  have hd1:(E0 == 0) = false:=beq_eq_false_iff_ne.2 h0
  have hd2:(E0 != 0) = true:=by rw [bne,hd1];rfl
  clear h0 hpt HE
  obtain ⟨uU,uV,uW,uX,Yg,Yh,Yi,Yj⟩:=jr m10
  go_wp2
  exact bodyPost_ret (kZ rfl _ _ g10 31 #[Z ab 0,Z ab 0,Z ab 0,Z ab 0] (0,0) _ rfl (az (az (az (az m10 0 (Z ab 0) rfl) 1 (Z ab 0) rfl) 2 (Z ab 0) rfl) 3 (Z ab 0) rfl) Try.underlying31 rfl aT) rfl ⟨abq,(Below.setCell (p:=⟨g10,3,none⟩) (Below.setCell (p:=⟨g10,2,none⟩) (Below.setCell (p:=⟨g10,1,none⟩) (Below.setCell (p:=⟨g10,0,none⟩) mB lZ _) lZ _) lZ _) lZ _)⟩
 case pos =>
  have HE2:=Lib.hid (HE.out.trans (if_neg (fun h=>h h0)))
  clear HE
  have hb0:=HBG.out.symm.trans h0
  obtain ⟨ht0,hp0⟩:=mg hb0
  obtain ⟨hbx,J3,P9⟩:=yB hp0
  obtain ⟨hSV,hVN⟩:=ve ht0
  rcases hpt with ⟨_,g,rfl,hg,hT⟩|⟨hbad,_⟩
  case inr=>exact absurd ht0 hbad
  case inl =>
   subst h0
   clear hb0 ht0 hp0 HBG
   obtain ⟨JS,JU⟩:=F8 m9
   have yn:∀ o_,(W2.alloc o_).cell? ⟨g5,0,none⟩ = some (Z ab s.nx):=fun o_=>(ae (aa m5 o_) 0).trans rfl
   have zG:∀ o_,(W2.alloc o_).cell? ⟨g5,1,none⟩ = some (Z ab s.ny):=fun o_=>(ae (aa m5 o_) 1).trans rfl
   have JY:∀ o_,(W2.alloc o_).cell? ⟨g5,2,none⟩ = some (Z ab s.cell):=fun o_=>(ae (aa m5 o_) 2).trans rfl
   have JZ:∀ o_,(W2.alloc o_).cell? ⟨g5,3,none⟩ = some (Z ab s.slot):=fun o_=>(ae (aa m5 o_) 3).trans rfl
   have apd:∀ o_,(W2.alloc o_).cell? ⟨g5,4,none⟩ = some (Z ab s.slots):=fun o_=>(ae (aa m5 o_) 4).trans rfl
   have ape:∀ o_,(W2.alloc o_).cell? ⟨g5,5,none⟩ = some (Z ab s.layers):=fun o_=>(ae (aa m5 o_) 5).trans rfl
   have apf:∀ o_,(W2.alloc o_).cell? ⟨g5,6,none⟩ = some (Z ab s.most):=fun o_=>(ae (aa m5 o_) 6).trans rfl
   have apg:∀ o_,(W2.alloc o_).cell? ⟨g5,7,none⟩ = some (.slice A7 s.shores.length c7):=fun o_=>(ae (aa m5 o_) 7).trans rfl
   have aph:∀ o_,(W2.alloc o_).cell? ⟨g5,8,none⟩ = some (.slice A8 s.currents.length c8):=fun o_=>(ae (aa m5 o_) 8).trans rfl
   go_wp2_with fail
   clear yn zG JY JZ apd ape apf apg aph JS JU
   replace hT:=hT.below (ai (Below.refl _ W2) (.cells #[Z ab hd,Z ab layer] 33))
   have uj:=aD m5
   have rz:=aD m6
   have uZ:=aD m7
   have abA:=aD m9
   have PI:=aD m10
   have mc:aZ (W2.alloc (.cells #[Z ab hd,Z ab layer] 33)) (W2.heap.size) #[Z ab hd,Z ab layer] 33:=(by have h_:=bB W2 (.cells #[Z ab hd,Z ab layer] 33);first|exact h_|(simp only [World.size_alloc] at h_;exact h_))
   replace m5:aZ (W2.alloc (.cells #[Z ab hd,Z ab layer] 33)) g5 #[Z ab s.nx,Z ab s.ny,Z ab s.cell,Z ab s.slot,Z ab s.slots,Z ab s.layers,Z ab s.most,.slice A7 s.shores.length c7,.slice A8 s.currents.length c8] 25:=(aa m5 _)
   replace m6:aZ (W2.alloc (.cells #[Z ab hd,Z ab layer] 33)) g6 #[Z ab v.speed,Z ab v.dive,Z ab v.use.f0,Z ab v.use.f1,Z ab v.drift.f0,Z ab v.drift.f1,Z ab v.reserve] 29:=(aa m6 _)
   replace m7:aZ (W2.alloc (.cells #[Z ab hd,Z ab layer] 33)) g7 #[Z ab x.f0.f0,Z ab x.f0.f1,Z ab x.f1.f0,Z ab x.f1.f1] 31:=(aa m7 _)
   replace m9:aZ (W2.alloc (.cells #[Z ab hd,Z ab layer] 33)) g9 #[Z ab hd,Z ab layer] 33:=(aa m9 _)
   replace m10:aZ (W2.alloc (.cells #[Z ab hd,Z ab layer] 33)) g10 #[Z ab 0,Z ab 0,Z ab 0,Z ab 0] 31:=(aa m10 _)
   replace mB:Below w.heap.size w (W2.alloc (.cells #[Z ab hd,Z ab layer] 33)):=(ai mB _)
   have dU:w.heap.size≤W2.heap.size:=mY
   generalize jq:(W2.alloc (.cells #[Z ab hd,Z ab layer] 33)) = W3 at m5 m6 m7 m9 m10 mc mB hT ⊢
   clear jq
   generalize hgc:W2.heap.size = gc at mc ⊢
   have api:g5≠gc:=by omega
   have apj:g6≠gc:=by omega
   have apk:g7≠gc:=by omega
   have apl:g9≠gc:=by omega
   have akQ:g10≠gc:=by omega
   have aB5:gc≠g5:=api.symm
   have aB6:gc≠g6:=apj.symm
   have aB7:gc≠g7:=apk.symm
   have aB8:gc≠g9:=apl.symm
   have av7:gc≠g10:=akQ.symm
   have hGc:w.heap.size≤gc:=by omega
   clear dU uj rz uZ abA PI
   try clear hgc
   have uY:w.heap.size≤W3.heap.size:=mB.size
   have hcon:=adw (some ⟨gc,0,none⟩) 1 [⟨hd,layer⟩] s.layers W3 (akO mc) (Nat.le_refl 1)
   dsimp only [List.length_cons,List.length_nil,Nat.zero_add] at hcon
   (with_reducible refine hcon.mono ?_)
   clear hcon
   rintro e W4 ⟨rfl,hb⟩
   replace hT:=hT.below hb
   replace m5:=af m5 hb
   replace m6:=af m6 hb
   replace m7:=af m7 hb
   replace m9:=af m9 hb
   replace m10:=af m10 hb
   replace mc:=af mc hb
   replace mB:=aJ mB hb
   clear hb
   have E5:w.heap.size≤W4.heap.size:=mB.size
   have hc1:=akP (hd:=hd) (layer:=layer) hSV.n.layers.1
   generalize vG [⟨hd,layer⟩] s.layers = E1 at*
   by_cases h1:E1 = 0
   case neg =>
    have HZ:Hid (P8 s v x t hd layer = E1):=Lib.hid (HE2.out.trans (if_pos h1))
    have HV2:Hid (BN s v x t hd layer = z31):=Lib.hid (HV.out.trans (if_neg (by rw [HZ.out];exact h1)))
    clear HV
    have hd1:(E1 == 0) = false:=beq_eq_false_iff_ne.2 h1
    have hd2:(E1 != 0) = true:=by rw [bne,hd1];rfl
    clear h1 hc1 HE2
    obtain ⟨uU,uV,uW,uX,Yg,Yh,Yi,Yj⟩:=jr m10
    go_wp2
    exact bodyPost_ret (kZ rfl _ _ g10 31 #[Z ab 0,Z ab 0,Z ab 0,Z ab 0] (0,0) _ rfl (az (az (az (az m10 0 (Z ab 0) rfl) 1 (Z ab 0) rfl) 2 (Z ab 0) rfl) 3 (Z ab 0) rfl) Try.underlying31 rfl aT) rfl ⟨abq,(Below.setCell (p:=⟨g10,3,none⟩) (Below.setCell (p:=⟨g10,2,none⟩) (Below.setCell (p:=⟨g10,1,none⟩) (Below.setCell (p:=⟨g10,0,none⟩) mB lZ _) lZ _) lZ _) lZ _)⟩
   case pos =>
    obtain ⟨⟨hh0,hh1⟩,hl0,hl1⟩:=hc1 h1
    have HE3:=Lib.hid (HE2.out.trans (if_neg (fun h=>h h1)))
    clear HE2 hc1
    subst h1
    obtain ⟨zP,zQ,Co,Cq⟩:=mH m7
    obtain ⟨JS,JU⟩:=F8 m9
    go_wp2_with fail
    clear zP zQ Co Cq JS JU
    have hcon:=PX g s v x t hd layer W4 hT hSV hVN hbx J3 (by omega) hh0 hh1 hl0 hl1
    (with_reducible refine hcon.mono ?_)
    clear hcon
    rintro e W5 ⟨rfl,hb⟩
    replace m5:=af m5 hb
    replace m6:=af m6 hb
    replace m7:=af m7 hb
    replace m9:=af m9 hb
    replace m10:=af m10 hb
    replace mc:=af mc hb
    replace mB:=aJ mB hb
    clear hb
    have E8:w.heap.size≤W5.heap.size:=mB.size
    have HV2:Hid (BN s v x t hd layer = iX s v x t hd layer):=Lib.hid (by rw [HV.out,HE3.out];by_cases hz:jv s v x t = 0;exact if_pos hz;rw [if_neg hz];unfold iX;rw [if_neg hz])
    clear HV
    generalize iX s v x t hd layer = Y at*
    obtain ⟨uU,uV,uW,uX,Yg,Yh,Yi,Yj⟩:=jr m10
    go_wp2
    exact bodyPost_ret (kZ rfl _ _ g10 31 #[Z ab Y.f0.f0,Z ab Y.f0.f1,Z ab Y.f1.f0,Z ab Y.f1.f1] (0,0) _ rfl (az (az (az (az m10 0 (Z ab Y.f0.f0) rfl) 1 (Z ab Y.f0.f1) rfl) 2 (Z ab Y.f1.f0) rfl) 3 (Z ab Y.f1.f1) rfl) Try.underlying31 rfl aT) rfl ⟨by rw [HV2.out,HE3.out];rfl,(Below.setCell (p:=⟨g10,3,none⟩) (Below.setCell (p:=⟨g10,2,none⟩) (Below.setCell (p:=⟨g10,1,none⟩) (Below.setCell (p:=⟨g10,0,none⟩) mB lZ _) lZ _) lZ _) lZ _)⟩
end Go.Proofs.Ytmhaiihjfgfaoaa.Gl
end
section
namespace Go.Proofs.Ytmhaiihjfgfaoaa.Pr
open Go.RowKit Go.Proofs.YtmhaiihjfgfaoaaW.PrintWords Go.Proofs.YtmhaiihjfgfaoaaW.PrintLast Go.Proofs.YtmhaiihjfgfaoaaW.PrintMore Go.Proofs.Ytmhaiihjfgfaoaa.Gl
set_option linter.unusedVariables false
def jX.f (ax:Int) (av:Int) (aH:Int) (aG:Int) (aQ:Int) (aN:Int) (aM:Int) (bn:List Bool) (aW:List (qW)) (bq:Int) (bz:Int) (bY:Int) (bX:Int) (dB:Int) (dC:Int) (dD:Int) (dh:Int) (di:Int) (dm:Int) (dn:Int) (a3:Int) (fA:Int) (fB:Int):Option (Int × Int × Int × Int × Int):=some ((BN ⟨ax,av,aH,aG,aQ,aN,aM,bn,aW⟩ ⟨bq,bz,⟨bY,bX⟩,⟨dB,dC⟩,dD⟩ ⟨⟨dh,di⟩,⟨dm,dn⟩⟩ a3 fA fB).f0.f0,(BN ⟨ax,av,aH,aG,aQ,aN,aM,bn,aW⟩ ⟨bq,bz,⟨bY,bX⟩,⟨dB,dC⟩,dD⟩ ⟨⟨dh,di⟩,⟨dm,dn⟩⟩ a3 fA fB).f0.f1,(BN ⟨ax,av,aH,aG,aQ,aN,aM,bn,aW⟩ ⟨bq,bz,⟨bY,bX⟩,⟨dB,dC⟩,dD⟩ ⟨⟨dh,di⟩,⟨dm,dn⟩⟩ a3 fA fB).f1.f0,(BN ⟨ax,av,aH,aG,aQ,aN,aM,bn,aW⟩ ⟨bq,bz,⟨bY,bX⟩,⟨dB,dC⟩,dD⟩ ⟨⟨dh,di⟩,⟨dm,dn⟩⟩ a3 fA fB).f1.f1,P8 ⟨ax,av,aH,aG,aQ,aN,aM,bn,aW⟩ ⟨bq,bz,⟨bY,bX⟩,⟨dB,dC⟩,dD⟩ ⟨⟨dh,di⟩,⟨dm,dn⟩⟩ a3 fA fB)
theorem jX.calls (ax:Int) (av:Int) (aH:Int) (aG:Int) (aQ:Int) (aN:Int) (aM:Int) (fJ:Option Addr) (fK:Nat) (bn:List Bool) (fU:Option Addr) (fM:Nat) (aW:List (qW)) (bq:Int) (bz:Int) (bY:Int) (bX:Int) (dB:Int) (dC:Int) (dD:Int) (dh:Int) (di:Int) (dm:Int) (dn:Int) (a3:Int) (fA:Int) (fB:Int) (r1:Int) (r2:Int) (r3:Int) (r4:Int) (r5:Int) (w:World) (nP:Kd.C Kd.bool w fJ bn.length bn) (nQ:bn.length≤fK) (nR:Kd.C Cm w fU aW.length aW) (nS:aW.length≤fM) (h:jX.f ax av aH aG aQ aN aM bn aW bq bz bY bX dB dC dD dh di dm dn a3 fA fB = some (r1,r2,r3,r4,r5)):
 Calls Try.prog 20 #[.agg #[Z ab ax,Z ab av,Z ab aH,Z ab aG,Z ab aQ,Z ab aN,Z ab aM,.slice fJ bn.length fK,.slice fU aW.length fM],.agg #[Z ab bq,Z ab bz,Z ab bY,Z ab bX,Z ab dB,Z ab dC,Z ab dD],.agg #[Z ab dh,Z ab di,Z ab dm,Z ab dn],Z ab a3,.agg #[Z ab fA,Z ab fB]] w fun e w'=>e = .returned (.tuple #[.agg #[Z ab r1,Z ab r2,Z ab r3,Z ab r4],Z ab r5])∧Below w.heap.size w w':=by
 cases h
 exact ahh ⟨ax,av,aH,aG,aQ,aN,aM,bn,aW⟩ ⟨bq,bz,⟨bY,bX⟩,⟨dB,dC⟩,dD⟩ ⟨⟨dh,di⟩,⟨dm,dn⟩⟩ a3 fA fB fJ fU fK fM w nQ nP nS nR
end Go.Proofs.Ytmhaiihjfgfaoaa.Pr
end
