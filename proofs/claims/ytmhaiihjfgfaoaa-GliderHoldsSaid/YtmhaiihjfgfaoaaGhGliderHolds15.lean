import Derived.Test.YtmhaiihjfgfaoaaGhGliderHolds3
import Derived.Test.YtmhaiihjfgfaoaaGhGliderHolds9
import Derived.Test.YtmhaiihjfgfaoaaGhGliderHolds14
import Derived.Test.YtmhaiihjfgfaoaaGhGliderHolds7
section
namespace Go.Proofs.Ytmhaiihjfgfaoaa.Gl
open Go.RowKit Go.Shelf Go.Proofs.YtmhaiihjfgfaoaaW.PrintWords Go.Proofs.YtmhaiihjfgfaoaaW.PrintLast Go.Proofs.YtmhaiihjfgfaoaaW.PrintMore Go.Proofs.Ytmhaiihjfgfaoaa.Pr Go.Proofs.YtmhaiihjfgfaoaaW.Round
set_option linter.unusedVariables false
set_option linter.unusedSimpArgs false
attribute [local go_sem] cz cB dK dL cK
theorem IL {n:Int} (h0:-9223372036854775808≤n) (h1:n≤9223372036854775807):wrap64 n = n:=by unfold wrap64;omega
def RG (v:qO):Bool:=lG v.speed 0 5000 && lG v.dive 1 131072 && vR v.use.f0 v.use.f1 0 1073741824 && vR v.drift.f0 v.drift.f1 0 1073741824 && lG v.reserve 0 1073741824
def KV (v:qO):Int:=if RG v then 0 else 2
theorem UX (x lo hi:Int):bO.f x lo hi = some (lG x lo hi):=by
 unfold bO.f lG
 by_cases h:x ≥ lo
 ·rw [if_pos h,show decide (lo≤x) = true from decide_eq_true h];simp
 ·rw [if_neg h,show decide (lo≤x) = false from decide_eq_false h];simp
theorem adE (v:qO):dP.f 4 v.speed v.dive v.use.f0 v.use.f1 v.drift.f0 v.drift.f1 v.reserve = some (KV v):=by
 unfold dP.f KV RG
 simp only [UX,UY 2,Option.bind_some]
 cases lG v.speed 0 5000 <;> cases lG v.dive 1 131072 <;> cases vR v.use.f0 v.use.f1 0 1073741824 <;> cases vR v.drift.f0 v.drift.f1 0 1073741824 <;> cases lG v.reserve 0 1073741824 <;> rfl
theorem agf (v:qO) (w:World):Calls Try.prog 27 #[.agg #[.int .i64 v.speed,.int .i64 v.dive,.int .i64 v.use.f0,.int .i64 v.use.f1,.int .i64 v.drift.f0,.int .i64 v.drift.f1,.int .i64 v.reserve]] w (xA (.int .i64 (KV v)) w):=dP.calls 4 _ _ _ _ _ _ _ _ w (adE v)
def PW (x:gz):Bool:=(PX x.f0.f0 x.f0.f1 && PX x.f1.f0 x.f1.f1) && (lG x.f0.f0 (-268435456) 268435456 && lG x.f0.f1 (-268435456) 268435456 && lG x.f1.f0 (-268435456) 268435456 && lG x.f1.f1 (-268435456) 268435456)
def OZ (x:gz):Int:=if PW x then 0 else 2
theorem abx (k:Nat) (a b:nD):dO.f (k+3) [a,b] = some (if PX a.f0 a.f1 && PX b.f0 b.f1 then 0 else 2):=by
 unfold dO.f
 have e1:(([a,b]:List nD).length:Int) = 2:=rfl
 have r0:nz [a,b] 0 = a:=rfl
 have r1:nz [a,b] 1 = b:=rfl
 have w1:wrap64 (0+1) = 1:=IL (by decide) (by decide)
 have w2:wrap64 (1+1) = 2:=IL (by decide) (by decide)
 have step:∀ (c:nD) (r:Option Int),(if c.f0 > c.f1 then some 2 else if c.f0 < -1073741824 then some 2 else if c.f1 > 1073741824 then some 2 else r) = if PX c.f0 c.f1 then r else some 2:=by
  intro c r
  cases h:PX c.f0 c.f1 with
  |true =>
   have:=BJ.1 h
   rw [if_neg (by omega),if_neg (by omega),if_neg (by omega),if_pos rfl]
  |false =>
   have hn:¬ (c.f0≤c.f1∧-1073741824≤c.f0∧c.f1≤1073741824):=fun h2=>by rw [BJ.2 h2] at h;cases h
   rw [show (if false = true then r else some 2) = some 2 from rfl]
   by_cases h1:c.f0 > c.f1
   ·rw [if_pos h1]
   ·rw [if_neg h1]
    by_cases h2:c.f0 < -1073741824
    ·rw [if_pos h2]
    ·rw [if_neg h2,if_pos (by omega)]
 simp only [dO.l0,e1]
 rw [if_pos (by decide),if_pos (by decide),if_pos (by decide),r0,step]
 cases ha:PX a.f0 a.f1 with
 |false=>rfl
 |true =>
  rw [if_pos rfl,w1,if_pos (by decide),if_pos (by decide),if_pos (by decide),r1,step]
  cases hb:PX b.f0 b.f1 with
  |false=>rfl
  |true =>
   rw [if_pos rfl,w2,if_neg (by decide)]
   rfl
theorem adF (x:gz):fw.f 4 x.f0.f0 x.f0.f1 x.f1.f0 x.f1.f1 = some (OZ x):=by
 unfold fw.f OZ PW
 rw [abx 1,Option.bind_some]
 cases h:(PX x.f0.f0 x.f0.f1 && PX x.f1.f0 x.f1.f1) with
 |false=>rfl
 |true =>
  rw [Bool.and_eq_true] at h
  have h1:=BJ.1 h.1
  have h2:=BJ.1 h.2
  have am:∀ a:Int,-1073741824≤a→a≤1073741824→dN.f a = some (max a (-a)):=fun a h0 h1=>by
   unfold dN.f
   rw [Ip,IL (by omega) (by omega)]
  rw [show (if (true = true) then (0:Int) else 2) = 0 from rfl,if_pos rfl]
  simp only [am _ h1.2.1 (by omega),am _ (show -1073741824≤x.f0.f1 by omega) h1.2.2,am _ h2.2.1 (by omega),am _ (show -1073741824≤x.f1.f1 by omega) h2.2.2,Option.bind_some,Ip]
  by_cases hb:max (max (max (max x.f0.f0 (-x.f0.f0)) (max x.f0.f1 (-x.f0.f1))) (max x.f1.f0 (-x.f1.f0))) (max x.f1.f1 (-x.f1.f1)) > 268435456
  ·rw [if_pos hb,if_neg]
   rw [Bool.true_and,Bool.and_eq_true,Bool.and_eq_true,Bool.and_eq_true,iV,iV,iV,iV]
   omega
  ·rw [if_neg hb,if_pos]
   rw [Bool.true_and,Bool.and_eq_true,Bool.and_eq_true,Bool.and_eq_true,iV,iV,iV,iV]
   omega
def qm (x:gz) (t:Int):Int:=if OZ x≠0 then OZ x else if lG t 0 1073741824 then 0 else 3
theorem WY (x:gz) (t:Int):mQ.f 4 x.f0.f0 x.f0.f1 x.f1.f0 x.f1.f1 t = some (qm x t):=by
 unfold mQ.f qm
 rw [adF,Option.bind_some,UX,Option.bind_some]
 by_cases h:OZ x = 0
 ·rw [if_pos h,if_neg (show ¬ (OZ x≠0) from fun h2=>h2 h)]
  cases lG t 0 1073741824 <;> rfl
 ·rw [if_neg h,if_pos h]
theorem aby (x:gz) (t:Int) (w:World):Calls Try.prog 114 #[.agg #[.int .i64 x.f0.f0,.int .i64 x.f0.f1,.int .i64 x.f1.f0,.int .i64 x.f1.f1],.int .i64 t] w (xA (.int .i64 (qm x t)) w):=mQ.calls 4 _ _ _ _ _ _ w (WY x t)
def BK (layers:Int) (c:vY):Bool:=lG c.f0 0 8 && decide (0≤c.f1) && (decide (layers < 0) || decide (c.f1 < layers))
def wG (l:List vY) (layers:Int):Int:=if l.length > 64 then 6 else if l.all (BK layers) then 0 else 2
theorem adG (layers:Int) (l:List vY) (hl:l.length≤64):∀ (m i k:Nat),i+m = l.length→m < k→eP.l0 k layers l (l.length:Int) (i:Int) = some (if (l.drop i).all (BK layers) then 0 else 2):=by
 intro m
 induction m with
 |zero =>
  intro i k h hk
  obtain ⟨k,rfl⟩:∃ q,k = q+1:=⟨k - 1,by omega⟩
  rw [eP.l0,if_neg (by omega),List.drop_of_length_le (by omega)]
  rfl
 |succ m ih =>
  intro i k h hk
  obtain ⟨k,rfl⟩:∃ q,k = q+1:=⟨k - 1,by omega⟩
  have hi:i < l.length:=by omega
  have hr:dx l (i:Int) = l[i]:=by
   unfold dx
   rw [List.getD_eq_getElem?_getD,Int.toNat_natCast,List.getElem?_eq_getElem hi]
   rfl
  have hih:=ih (i+1) k (by omega) (by omega)
  rw [eP.l0,if_pos (by omega),if_pos (by omega),if_pos (by omega),hr,IL (by omega) (by omega),show ((i:Int)+1) = ((i+1:Nat):Int) by omega,hih,List.drop_eq_getElem_cons hi,List.all_cons]
  cases hb:BK layers l[i] with
  |true =>
   have hb2:BK layers l[i] = true:=hb
   unfold BK at hb2
   simp only [Bool.and_eq_true,Bool.or_eq_true,decide_eq_true_eq,iV] at hb2
   rw [Bool.true_and,if_neg (by omega),if_neg (by omega),if_neg (by omega)]
   by_cases h0:layers ≥ 0
   ·rw [if_pos h0,if_neg (by omega)]
   ·rw [if_neg h0]
  |false =>
   have hn:¬ ((0≤l[i].f0∧l[i].f0≤8)∧0≤l[i].f1∧(layers < 0∨l[i].f1 < layers)):=fun h2=>by
    have:BK layers l[i] = true:=by
     unfold BK
     simp only [Bool.and_eq_true,Bool.or_eq_true,decide_eq_true_eq,iV]
     exact ⟨⟨h2.1,h2.2.1⟩,h2.2.2⟩
    rw [this] at hb
    cases hb
   rw [Bool.false_and,if_neg (show ¬ (false = true) by decide)]
   by_cases a1:l[i].f0 < 0
   ·rw [if_pos a1]
   ·rw [if_neg a1]
    by_cases a2:l[i].f0 ≥ 9
    ·rw [if_pos a2]
    ·rw [if_neg a2]
     by_cases a3:l[i].f1 < 0
     ·rw [if_pos a3]
     ·rw [if_neg a3,if_pos (by omega),if_pos (by omega)]
theorem adH (l:List vY) (layers:Int):eP.f 66 l layers = some (wG l layers):=by
 unfold eP.f wG
 by_cases h:l.length > 64
 ·rw [if_pos (by omega),if_pos h]
 ·rw [if_neg (by omega),if_neg h]
  have:=adG layers l (by omega) l.length 0 66 (by omega) (by omega)
  rw [List.drop_zero] at this
  exact this
theorem Yw (A:Option Addr) (c:Nat) (l:List vY) (layers:Int) (w:World) (hC:Kd.C Yv w A l.length l) (hc:l.length≤c):Calls Try.prog 65 #[.slice A l.length c,.int .i64 layers] w (xA (.int .i64 (wG l layers)) w):=eP.calls 66 _ _ _ _ _ w hC hc (adH l layers)
theorem Yx (s:lF):(uk s = 0∧Mj s = true)∨uk s = 2:=by
 unfold uk
 cases Mj s
 ·exact .inr rfl
 ·exact .inl ⟨rfl,rfl⟩
theorem Yy (v:qO):(KV v = 0∧RG v = true)∨KV v = 2:=by
 unfold KV
 cases RG v
 ·exact .inr rfl
 ·exact .inl ⟨rfl,rfl⟩
theorem O0 {lo hi a b:Int}:vR lo hi a b = true↔(lo≤hi∧-1073741824≤lo∧hi≤1073741824)∧a≤lo∧hi≤b:=by unfold vR;simp only [Bool.and_eq_true,decide_eq_true_eq,BJ];exact and_assoc
theorem agh {s:lF} (h:Mj s = true):PU s:=by
 unfold Mj at h
 simp only [Bool.and_eq_true,decide_eq_true_eq,iV,Bool.not_eq_true'] at h
 obtain ⟨⟨⟨⟨⟨⟨⟨⟨⟨h0,h1⟩,h2⟩,h3⟩,h4⟩,h5⟩,h6⟩,h7⟩,h8⟩,h9⟩:=h
 refine ⟨⟨h0,h1,h2,h3,h4,h5,h6⟩,h7,h8,fun c hc=>?_⟩
 have:=List.any_eq_false.1 h9 c hc
 unfold O1 at this
 simp only [Bool.not_eq_true,Bool.or_eq_false_iff,Bool.not_eq_false',O0] at this
 omega
theorem agi {v:qO} (h:RG v = true):Br v:=by
 unfold RG at h
 simp only [Bool.and_eq_true,iV] at h
 exact ⟨h.1.1.1.1,h.1.1.1.2⟩
theorem agj {x:gz} (h:OZ x = 0):qx x:=by
 unfold OZ at h
 cases hb:PW x with
 |false=>rw [hb] at h;cases h
 |true =>
  unfold PW at hb
  simp only [Bool.and_eq_true,iV,BJ] at hb
  unfold qx Bq
  omega
def nV (s:lF) (v:qO):Int:=if uk s≠0 then uk s else KV v
theorem IM {s:lF} {v:qO} (h:nV s v = 0):PU s∧Br v:=by
 unfold nV at h
 rcases Yx s with ⟨h1,h2⟩|h1
 ·rw [if_neg (by omega)] at h
  rcases Yy v with ⟨h3,h4⟩|h3
  ·exact ⟨agh h2,agi h4⟩
  ·omega
 ·rw [if_pos (by omega)] at h
  omega
def UZ (s:lF) (v:qO) (E:Int) (w:World) (e:Ending) (w':World):Prop :=
 ∃ ptr,e = .returned (.tuple #[.pointer ptr,.int .i64 E])∧Below w.heap.size w w'∧((nV s v = 0∧∃ g,ptr = some ⟨g,0,none⟩∧w.heap.size≤g∧kZ w' g s v)∨(nV s v≠0∧ptr = none))
set_option maxRecDepth 100000 in
set_option maxHeartbeats 4000000 in
theorem U0 (s:lF) (v:qO) (A7 A8:Option Addr) (c7 c8:Nat) (w:World) (h7:s.shores.length≤c7) (hC7:Kd.C Kd.bool w A7 s.shores.length s.shores) (h8:s.currents.length≤c8) (WJ:Kd.C CY w A8 s.currents.length s.currents):
 Calls Try.prog 113 #[.agg #[.int .i64 s.nx,.int .i64 s.ny,.int .i64 s.cell,.int .i64 s.slot,.int .i64 s.slots,.int .i64 s.layers,.int .i64 s.most,.slice A7 s.shores.length c7,.slice A8 s.currents.length c8],.agg #[.int .i64 v.speed,.int .i64 v.dive,.int .i64 v.use.f0,.int .i64 v.use.f1,.int .i64 v.drift.f0,.int .i64 v.drift.f1,.int .i64 v.reserve]] w (UZ s v (nV s v) w):=by
 have xE:=Try.underlying25
 have BL:=Try.underlying29
 have apb:=Try.underlying110
 have HE:Hid (nV s v = if uk s≠0 then uk s else KV v):=Lib.hid rfl
 go_enter Try.func113,Try.ntmps113
 go_wp2_with fail
 have m2:iD ((w.alloc (.cells #[.int .i64 s.nx,.int .i64 s.ny,.int .i64 s.cell,.int .i64 s.slot,.int .i64 s.slots,.int .i64 s.layers,.int .i64 s.most,.slice A7 s.shores.length c7,.slice A8 s.currents.length c8] 25)).alloc (.cells #[.int .i64 v.speed,.int .i64 v.dive,.int .i64 v.use.f0,.int .i64 v.use.f1,.int .i64 v.drift.f0,.int .i64 v.drift.f1,.int .i64 v.reserve] 29)) (w.heap.size) #[.int .i64 s.nx,.int .i64 s.ny,.int .i64 s.cell,.int .i64 s.slot,.int .i64 s.slots,.int .i64 s.layers,.int .i64 s.most,.slice A7 s.shores.length c7,.slice A8 s.currents.length c8] 25:=(ag adI _)
 have m3:iD ((w.alloc (.cells #[.int .i64 s.nx,.int .i64 s.ny,.int .i64 s.cell,.int .i64 s.slot,.int .i64 s.slots,.int .i64 s.layers,.int .i64 s.most,.slice A7 s.shores.length c7,.slice A8 s.currents.length c8] 25)).alloc (.cells #[.int .i64 v.speed,.int .i64 v.dive,.int .i64 v.use.f0,.int .i64 v.use.f1,.int .i64 v.drift.f0,.int .i64 v.drift.f1,.int .i64 v.reserve] 29)) (w.heap.size+1) #[.int .i64 v.speed,.int .i64 v.dive,.int .i64 v.use.f0,.int .i64 v.use.f1,.int .i64 v.drift.f0,.int .i64 v.drift.f1,.int .i64 v.reserve] 29:=agk
 have mB:Below w.heap.size w ((w.alloc (.cells #[.int .i64 s.nx,.int .i64 s.ny,.int .i64 s.cell,.int .i64 s.slot,.int .i64 s.slots,.int .i64 s.layers,.int .i64 s.most,.slice A7 s.shores.length c7,.slice A8 s.currents.length c8] 25)).alloc (.cells #[.int .i64 v.speed,.int .i64 v.dive,.int .i64 v.use.f0,.int .i64 v.use.f1,.int .i64 v.drift.f0,.int .i64 v.drift.f1,.int .i64 v.reserve] 29)):=(aY (aY (Below.refl w.heap.size w) _) _)
 have nK:w.heap.size≤w.heap.size:=Nat.le_refl _
 generalize xV:((w.alloc (.cells #[.int .i64 s.nx,.int .i64 s.ny,.int .i64 s.cell,.int .i64 s.slot,.int .i64 s.slots,.int .i64 s.layers,.int .i64 s.most,.slice A7 s.shores.length c7,.slice A8 s.currents.length c8] 25)).alloc (.cells #[.int .i64 v.speed,.int .i64 v.dive,.int .i64 v.use.f0,.int .i64 v.use.f1,.int .i64 v.drift.f0,.int .i64 v.drift.f1,.int .i64 v.reserve] 29)) = W1 at m2 m3 mB ⊢
 clear xV
 generalize hg2:w.heap.size = g2 at m2 m3 ⊢
 have hG2:w.heap.size≤g2:=by omega
 generalize hg3:g2+1 = g3 at m3 ⊢
 have WG:g2≠g3:=by omega
 have al4:g3≠g2:=WG.symm
 have hG3:w.heap.size≤g3:=by omega
 clear nK
 try clear hg3
 try clear hg2
 have Dl:w.heap.size≤W1.heap.size:=mB.size
 have hcon:=agl s A7 A8 c7 c8 W1 h7 (Kd.bn hC7 mB) h8 (Kd.bn WJ mB)
 (with_reducible refine hcon.mono ?_)
 clear hcon
 rintro e W2 ⟨rfl,hb⟩
 replace m2:=aV m2 hb
 replace m3:=aV m3 hb
 replace mB:=dY mB hb
 clear hb
 have x9:w.heap.size≤W2.heap.size:=mB.size
 rcases Yx s with ⟨h1,_⟩|h1
 case inr =>
  have HZ:Hid (nV s v = 2):=Lib.hid (HE.out.trans (by rw [h1];rfl))
  rw [h1]
  clear h1 HE
  go_wp2
  go_ret2
  exact ⟨none,zS,mB,.inr ⟨by rw [HZ.out];decide,rfl⟩⟩
 case inl =>
  have HE2:=Lib.hid (HE.out.trans (if_neg (by omega)))
  clear HE
  rw [h1]
  clear h1
  obtain ⟨apc,apd,ape,apf,apg,aph,api⟩:=Mk m3
  go_wp2_with fail
  clear apc apd ape apf apg aph api
  have hcon:=agf v W2
  (with_reducible refine hcon.mono ?_)
  clear hcon
  rintro e W3 ⟨rfl,hb⟩
  replace m2:=aV m2 hb
  replace m3:=aV m3 hb
  replace mB:=dY mB hb
  clear hb
  have LW:w.heap.size≤W3.heap.size:=mB.size
  rcases Yy v with ⟨h1,_⟩|h1
  case inr =>
   have HE:=HE2
   have HZ:Hid (nV s v = 2):=Lib.hid (HE2.out.trans h1)
   rw [h1]
   clear h1 HE
   go_wp2
   go_ret2
   exact ⟨none,zS,mB,.inr ⟨by rw [HZ.out];decide,rfl⟩⟩
  case inl =>
   have HZ:=Lib.hid (HE2.out.trans h1)
   rw [h1]
   clear h1 HE2
   obtain ⟨apj,apk,apl,apm,aII,aIJ,aIK,aIL,aIM⟩:=xG m2
   obtain ⟨apc,apd,ape,apf,apg,aph,api⟩:=Mk m3
   go_wp2
   go_ret2
   exact ⟨_,zS,aY mB _,.inl ⟨HZ.out,W3.heap.size,rfl,mB.size,A7,c7,A8,c8,fT W3 (.cells #[.int .i64 s.nx,.int .i64 s.ny,.int .i64 s.cell,.int .i64 s.slot,.int .i64 s.slots,.int .i64 s.layers,.int .i64 s.most,.slice A7 s.shores.length c7,.slice A8 s.currents.length c8,.int .i64 v.speed,.int .i64 v.dive,.int .i64 v.use.f0,.int .i64 v.use.f1,.int .i64 v.drift.f0,.int .i64 v.drift.f1,.int .i64 v.reserve] 110),h7,Kd.bn hC7 (aY mB _),h8,Kd.bn WJ (aY mB _)⟩⟩
def pq (s:lF) (v:qO) (x:gz) (t:Int):Int:=if nV s v≠0 then nV s v else qm x t
set_option maxRecDepth 100000 in
set_option maxHeartbeats 4000000 in
theorem QB (s:lF) (v:qO) (x:gz) (t:Int) (A7 A8:Option Addr) (c7 c8:Nat) (w:World) (h7:s.shores.length≤c7) (hC7:Kd.C Kd.bool w A7 s.shores.length s.shores) (h8:s.currents.length≤c8) (WJ:Kd.C CY w A8 s.currents.length s.currents):
 Calls Try.prog 64 #[.agg #[.int .i64 s.nx,.int .i64 s.ny,.int .i64 s.cell,.int .i64 s.slot,.int .i64 s.slots,.int .i64 s.layers,.int .i64 s.most,.slice A7 s.shores.length c7,.slice A8 s.currents.length c8],.agg #[.int .i64 v.speed,.int .i64 v.dive,.int .i64 v.use.f0,.int .i64 v.use.f1,.int .i64 v.drift.f0,.int .i64 v.drift.f1,.int .i64 v.reserve],.agg #[.int .i64 x.f0.f0,.int .i64 x.f0.f1,.int .i64 x.f1.f0,.int .i64 x.f1.f1],.int .i64 t] w (UZ s v (pq s v x t) w):=by
 have xE:=Try.underlying25
 have BL:=Try.underlying29
 have qP:=Try.underlying31
 have HE:Hid (pq s v x t = if nV s v≠0 then nV s v else qm x t):=Lib.hid rfl
 go_enter Try.func64,Try.ntmps64
 go_wp2_with fail
 have m4:iD (((w.alloc (.cells #[.int .i64 s.nx,.int .i64 s.ny,.int .i64 s.cell,.int .i64 s.slot,.int .i64 s.slots,.int .i64 s.layers,.int .i64 s.most,.slice A7 s.shores.length c7,.slice A8 s.currents.length c8] 25)).alloc (.cells #[.int .i64 v.speed,.int .i64 v.dive,.int .i64 v.use.f0,.int .i64 v.use.f1,.int .i64 v.drift.f0,.int .i64 v.drift.f1,.int .i64 v.reserve] 29)).alloc (.cells #[.int .i64 x.f0.f0,.int .i64 x.f0.f1,.int .i64 x.f1.f0,.int .i64 x.f1.f1] 31)) (w.heap.size) #[.int .i64 s.nx,.int .i64 s.ny,.int .i64 s.cell,.int .i64 s.slot,.int .i64 s.slots,.int .i64 s.layers,.int .i64 s.most,.slice A7 s.shores.length c7,.slice A8 s.currents.length c8] 25:=(ag (ag adI _) _)
 have m5:iD (((w.alloc (.cells #[.int .i64 s.nx,.int .i64 s.ny,.int .i64 s.cell,.int .i64 s.slot,.int .i64 s.slots,.int .i64 s.layers,.int .i64 s.most,.slice A7 s.shores.length c7,.slice A8 s.currents.length c8] 25)).alloc (.cells #[.int .i64 v.speed,.int .i64 v.dive,.int .i64 v.use.f0,.int .i64 v.use.f1,.int .i64 v.drift.f0,.int .i64 v.drift.f1,.int .i64 v.reserve] 29)).alloc (.cells #[.int .i64 x.f0.f0,.int .i64 x.f0.f1,.int .i64 x.f1.f0,.int .i64 x.f1.f1] 31)) (w.heap.size+1) #[.int .i64 v.speed,.int .i64 v.dive,.int .i64 v.use.f0,.int .i64 v.use.f1,.int .i64 v.drift.f0,.int .i64 v.drift.f1,.int .i64 v.reserve] 29:=(ag agk _)
 have m6:iD (((w.alloc (.cells #[.int .i64 s.nx,.int .i64 s.ny,.int .i64 s.cell,.int .i64 s.slot,.int .i64 s.slots,.int .i64 s.layers,.int .i64 s.most,.slice A7 s.shores.length c7,.slice A8 s.currents.length c8] 25)).alloc (.cells #[.int .i64 v.speed,.int .i64 v.dive,.int .i64 v.use.f0,.int .i64 v.use.f1,.int .i64 v.drift.f0,.int .i64 v.drift.f1,.int .i64 v.reserve] 29)).alloc (.cells #[.int .i64 x.f0.f0,.int .i64 x.f0.f1,.int .i64 x.f1.f0,.int .i64 x.f1.f1] 31)) (w.heap.size+1+1) #[.int .i64 x.f0.f0,.int .i64 x.f0.f1,.int .i64 x.f1.f0,.int .i64 x.f1.f1] 31:=amC
 have mB:Below w.heap.size w (((w.alloc (.cells #[.int .i64 s.nx,.int .i64 s.ny,.int .i64 s.cell,.int .i64 s.slot,.int .i64 s.slots,.int .i64 s.layers,.int .i64 s.most,.slice A7 s.shores.length c7,.slice A8 s.currents.length c8] 25)).alloc (.cells #[.int .i64 v.speed,.int .i64 v.dive,.int .i64 v.use.f0,.int .i64 v.use.f1,.int .i64 v.drift.f0,.int .i64 v.drift.f1,.int .i64 v.reserve] 29)).alloc (.cells #[.int .i64 x.f0.f0,.int .i64 x.f0.f1,.int .i64 x.f1.f0,.int .i64 x.f1.f1] 31)):=(aY (aY (aY (Below.refl w.heap.size w) _) _) _)
 have nK:w.heap.size≤w.heap.size:=Nat.le_refl _
 generalize xV:(((w.alloc (.cells #[.int .i64 s.nx,.int .i64 s.ny,.int .i64 s.cell,.int .i64 s.slot,.int .i64 s.slots,.int .i64 s.layers,.int .i64 s.most,.slice A7 s.shores.length c7,.slice A8 s.currents.length c8] 25)).alloc (.cells #[.int .i64 v.speed,.int .i64 v.dive,.int .i64 v.use.f0,.int .i64 v.use.f1,.int .i64 v.drift.f0,.int .i64 v.drift.f1,.int .i64 v.reserve] 29)).alloc (.cells #[.int .i64 x.f0.f0,.int .i64 x.f0.f1,.int .i64 x.f1.f0,.int .i64 x.f1.f1] 31)) = W1 at m4 m5 m6 mB ⊢
 clear xV
 generalize hg4:w.heap.size = g4 at m4 m5 m6 ⊢
 have hG4:w.heap.size≤g4:=by omega
 generalize hg5:g4+1 = g5 at m5 m6 ⊢
 have amD:g4≠g5:=by omega
 have aC2:g5≠g4:=amD.symm
 have hG5:w.heap.size≤g5:=by omega
 generalize hg6:g5+1 = g6 at m6 ⊢
 have WK:g4≠g6:=by omega
 have Dk:g5≠g6:=by omega
 have amn:g6≠g4:=WK.symm
 have Rf:g6≠g5:=Dk.symm
 have Uw:w.heap.size≤g6:=by omega
 clear nK
 try clear hg6
 try clear hg5
 try clear hg4
 have Dl:w.heap.size≤W1.heap.size:=mB.size
 have hcon:=U0 s v A7 A8 c7 c8 W1 h7 (Kd.bn hC7 mB) h8 (Kd.bn WJ mB)
 (with_reducible refine hcon.mono ?_)
 clear hcon
 rintro e W2 ⟨ptr,rfl,hb,⟨h0,g,rfl,hg,hT⟩|⟨h0,rfl⟩⟩
 case inr =>
  have HZ:=Lib.hid (HE.out.trans (if_pos h0))
  replace mB:=dY mB hb
  clear hb HE
  have h00:=Lib.hid h0
  generalize hE_:nV s v = E0 at*
  have hE:=Lib.hid hE_
  clear hE_
  have hd:(E0 == 0) = false:=beq_eq_false_iff_ne.2 h0
  have hd2:(E0 != 0) = true:=by rw [bne,hd];rfl
  clear h0
  go_wp2
  go_ret2
  exact ⟨none,zS,mB,.inr ⟨by rw [hE.out];exact h00.out,rfl⟩⟩
 case inl =>
  have HZ:=Lib.hid (HE.out.trans (if_neg (fun h=>h h0)))
  clear HE
  have hg0:w.heap.size≤g:=Nat.le_trans (m:=W1.heap.size) (by assumption) hg
  replace m4:=aV m4 hb
  replace m5:=aV m5 hb
  replace m6:=aV m6 hb
  replace mB:=dY mB hb
  clear hb
  have H0:=Lib.hid h0
  rw [h0]
  clear h0
  have x9:w.heap.size≤W2.heap.size:=mB.size
  obtain ⟨Rk,Rl,Rm,Rn⟩:=rV m6
  go_wp2_with fail
  clear Rk Rl Rm Rn
  have hcon:=aby x t W2
  (with_reducible refine hcon.mono ?_)
  clear hcon
  rintro e W3 ⟨rfl,hb⟩
  replace hT:=hT.below hb
  replace m4:=aV m4 hb
  replace m5:=aV m5 hb
  replace m6:=aV m6 hb
  replace mB:=dY mB hb
  clear hb
  go_wp2
  go_ret2
  exact ⟨_,zS,mB,.inl ⟨H0.out,g,rfl,hg0,hT⟩⟩
end Go.Proofs.Ytmhaiihjfgfaoaa.Gl
end
section
namespace Go.Proofs.Ytmhaiihjfgfaoaa.Gl
open Go.RowKit Go.Shelf Go.Proofs.YtmhaiihjfgfaoaaW.PrintWords Go.Proofs.YtmhaiihjfgfaoaaW.PrintLast Go.Proofs.YtmhaiihjfgfaoaaW.PrintMore Go.Proofs.Ytmhaiihjfgfaoaa.Pr Go.Proofs.YtmhaiihjfgfaoaaW.Round
set_option linter.unusedVariables false
set_option linter.unusedSimpArgs false
attribute [local go_sem] cz cB dK dL cK
theorem Dw {a b:Int} (h:(if a≠0 then a else b) = 0):a = 0∧b = 0:=by
 by_cases h0:a = 0
 ·rw [if_neg (fun h=>h h0)] at h
  exact ⟨h0,h⟩
 ·rw [if_pos h0] at h
  exact absurd h h0
theorem agm {W:World} {b:Nat} {x y:Int} (h:W.heap[b]? = some (.cells #[.int .i64 x,.int .i64 y] 33 (0,0))):Kd.C Yv W (some ⟨b,0,none⟩) 1 [⟨x,y⟩]:=by
 refine ⟨rfl,by decide,fun _=>⟨⟨b,0,none⟩,rfl,fun j p hj=>?_⟩⟩
 match j,hj with
 |0,hj =>
  obtain rfl:(⟨x,y⟩:vY) = p:=by simpa using hj
  refine ⟨_,rfl,amE W ⟨x,y⟩,fun i u hu=>?_⟩
  match i,hu with
  |0,hu=>exact ((aa h 0).trans (by simpa using hu))
  |1,hu=>exact ((aa h 1).trans (by simpa using hu))
theorem agn {hd layer layers:Int} (hl:1≤layers) (h:wG [⟨hd,layer⟩] layers = 0):(0≤hd∧hd≤8)∧0≤layer∧layer < layers:=by
 unfold wG at h
 cases hb:([⟨hd,layer⟩]:List vY).all (BK layers) with
 |false=>rw [hb] at h;simp at h
 |true =>
  simp only [List.all_cons,List.all_nil,Bool.and_true,BK,Bool.and_eq_true,Bool.or_eq_true,decide_eq_true_eq,iV] at hb
  omega
theorem IP {x:gz} {t:Int} (h:qm x t = 0):qx x∧0≤t∧t≤1073741824:=by
 unfold qm at h
 obtain ⟨h1,h2⟩:=Dw h
 refine ⟨agj h1,?_⟩
 cases hb:lG t 0 1073741824 with
 |false=>rw [hb] at h2;simp at h2
 |true=>exact iV.1 hb
def O3 (s:lF) (v:qO) (x:gz) (t hd layer:Int):Int:=if pq s v x t≠0 then pq s v x t else if wG [⟨hd,layer⟩] s.layers≠0 then wG [⟨hd,layer⟩] s.layers else mO s v x t
def CZ (s:lF) (v:qO) (x:gz) (t hd layer:Int):gz:=if O3 s v x t hd layer = 0 then kY s v x t hd layer else z31
set_option maxRecDepth 100000 in
set_option maxHeartbeats 8000000 in
theorem adJ (s:lF) (v:qO) (x:gz) (t hd layer:Int) (A7 A8:Option Addr) (c7 c8:Nat) (w:World) (h7:s.shores.length≤c7) (hC7:Kd.C Kd.bool w A7 s.shores.length s.shores) (h8:s.currents.length≤c8) (WJ:Kd.C CY w A8 s.currents.length s.currents):
 Calls Try.prog 20 #[.agg #[.int .i64 s.nx,.int .i64 s.ny,.int .i64 s.cell,.int .i64 s.slot,.int .i64 s.slots,.int .i64 s.layers,.int .i64 s.most,.slice A7 s.shores.length c7,.slice A8 s.currents.length c8],.agg #[.int .i64 v.speed,.int .i64 v.dive,.int .i64 v.use.f0,.int .i64 v.use.f1,.int .i64 v.drift.f0,.int .i64 v.drift.f1,.int .i64 v.reserve],.agg #[.int .i64 x.f0.f0,.int .i64 x.f0.f1,.int .i64 x.f1.f0,.int .i64 x.f1.f1],.int .i64 t,.agg #[.int .i64 hd,.int .i64 layer]] w (xA (.tuple #[.agg #[.int .i64 (CZ s v x t hd layer).f0.f0,.int .i64 (CZ s v x t hd layer).f0.f1,.int .i64 (CZ s v x t hd layer).f1.f0,.int .i64 (CZ s v x t hd layer).f1.f1],.int .i64 (O3 s v x t hd layer)]) w):=by
 have xE:=Try.underlying25
 have BL:=Try.underlying29
 have qP:=Try.underlying31
 have Rs:=Try.underlying33
 have pK:=Try.underlying27
 have HE:Hid (O3 s v x t hd layer = if pq s v x t≠0 then pq s v x t else if wG [⟨hd,layer⟩] s.layers≠0 then wG [⟨hd,layer⟩] s.layers else mO s v x t):=Lib.hid rfl
 have HV:Hid (CZ s v x t hd layer = if O3 s v x t hd layer = 0 then kY s v x t hd layer else z31):=Lib.hid rfl
 go_enter Try.func20,Try.ntmps20
 go_wp2_with fail
 have m5:iD (((((w.alloc (.cells #[.int .i64 s.nx,.int .i64 s.ny,.int .i64 s.cell,.int .i64 s.slot,.int .i64 s.slots,.int .i64 s.layers,.int .i64 s.most,.slice A7 s.shores.length c7,.slice A8 s.currents.length c8] 25)).alloc (.cells #[.int .i64 v.speed,.int .i64 v.dive,.int .i64 v.use.f0,.int .i64 v.use.f1,.int .i64 v.drift.f0,.int .i64 v.drift.f1,.int .i64 v.reserve] 29)).alloc (.cells #[.int .i64 x.f0.f0,.int .i64 x.f0.f1,.int .i64 x.f1.f0,.int .i64 x.f1.f1] 31)).alloc (.cells #[.int .i64 hd,.int .i64 layer] 33)).alloc (.cells #[.int .i64 0,.int .i64 0,.int .i64 0,.int .i64 0] 31)) (w.heap.size) #[.int .i64 s.nx,.int .i64 s.ny,.int .i64 s.cell,.int .i64 s.slot,.int .i64 s.slots,.int .i64 s.layers,.int .i64 s.most,.slice A7 s.shores.length c7,.slice A8 s.currents.length c8] 25:=(ag (ag (ag (ag adI _) _) _) _)
 have m6:iD (((((w.alloc (.cells #[.int .i64 s.nx,.int .i64 s.ny,.int .i64 s.cell,.int .i64 s.slot,.int .i64 s.slots,.int .i64 s.layers,.int .i64 s.most,.slice A7 s.shores.length c7,.slice A8 s.currents.length c8] 25)).alloc (.cells #[.int .i64 v.speed,.int .i64 v.dive,.int .i64 v.use.f0,.int .i64 v.use.f1,.int .i64 v.drift.f0,.int .i64 v.drift.f1,.int .i64 v.reserve] 29)).alloc (.cells #[.int .i64 x.f0.f0,.int .i64 x.f0.f1,.int .i64 x.f1.f0,.int .i64 x.f1.f1] 31)).alloc (.cells #[.int .i64 hd,.int .i64 layer] 33)).alloc (.cells #[.int .i64 0,.int .i64 0,.int .i64 0,.int .i64 0] 31)) (w.heap.size+1) #[.int .i64 v.speed,.int .i64 v.dive,.int .i64 v.use.f0,.int .i64 v.use.f1,.int .i64 v.drift.f0,.int .i64 v.drift.f1,.int .i64 v.reserve] 29:=(ag (ag (ag agk _) _) _)
 have m7:iD (((((w.alloc (.cells #[.int .i64 s.nx,.int .i64 s.ny,.int .i64 s.cell,.int .i64 s.slot,.int .i64 s.slots,.int .i64 s.layers,.int .i64 s.most,.slice A7 s.shores.length c7,.slice A8 s.currents.length c8] 25)).alloc (.cells #[.int .i64 v.speed,.int .i64 v.dive,.int .i64 v.use.f0,.int .i64 v.use.f1,.int .i64 v.drift.f0,.int .i64 v.drift.f1,.int .i64 v.reserve] 29)).alloc (.cells #[.int .i64 x.f0.f0,.int .i64 x.f0.f1,.int .i64 x.f1.f0,.int .i64 x.f1.f1] 31)).alloc (.cells #[.int .i64 hd,.int .i64 layer] 33)).alloc (.cells #[.int .i64 0,.int .i64 0,.int .i64 0,.int .i64 0] 31)) (w.heap.size+1+1) #[.int .i64 x.f0.f0,.int .i64 x.f0.f1,.int .i64 x.f1.f0,.int .i64 x.f1.f1] 31:=(ag (ag amC _) _)
 have m9:iD (((((w.alloc (.cells #[.int .i64 s.nx,.int .i64 s.ny,.int .i64 s.cell,.int .i64 s.slot,.int .i64 s.slots,.int .i64 s.layers,.int .i64 s.most,.slice A7 s.shores.length c7,.slice A8 s.currents.length c8] 25)).alloc (.cells #[.int .i64 v.speed,.int .i64 v.dive,.int .i64 v.use.f0,.int .i64 v.use.f1,.int .i64 v.drift.f0,.int .i64 v.drift.f1,.int .i64 v.reserve] 29)).alloc (.cells #[.int .i64 x.f0.f0,.int .i64 x.f0.f1,.int .i64 x.f1.f0,.int .i64 x.f1.f1] 31)).alloc (.cells #[.int .i64 hd,.int .i64 layer] 33)).alloc (.cells #[.int .i64 0,.int .i64 0,.int .i64 0,.int .i64 0] 31)) (w.heap.size+1+1+1) #[.int .i64 hd,.int .i64 layer] 33:=(ag (by have h_:=fT (((w.alloc (.cells #[.int .i64 s.nx,.int .i64 s.ny,.int .i64 s.cell,.int .i64 s.slot,.int .i64 s.slots,.int .i64 s.layers,.int .i64 s.most,.slice A7 s.shores.length c7,.slice A8 s.currents.length c8] 25)).alloc (.cells #[.int .i64 v.speed,.int .i64 v.dive,.int .i64 v.use.f0,.int .i64 v.use.f1,.int .i64 v.drift.f0,.int .i64 v.drift.f1,.int .i64 v.reserve] 29)).alloc (.cells #[.int .i64 x.f0.f0,.int .i64 x.f0.f1,.int .i64 x.f1.f0,.int .i64 x.f1.f1] 31)) (.cells #[.int .i64 hd,.int .i64 layer] 33);first|exact h_|(simp only [World.size_alloc] at h_;exact h_)) _)
 have m10:iD (((((w.alloc (.cells #[.int .i64 s.nx,.int .i64 s.ny,.int .i64 s.cell,.int .i64 s.slot,.int .i64 s.slots,.int .i64 s.layers,.int .i64 s.most,.slice A7 s.shores.length c7,.slice A8 s.currents.length c8] 25)).alloc (.cells #[.int .i64 v.speed,.int .i64 v.dive,.int .i64 v.use.f0,.int .i64 v.use.f1,.int .i64 v.drift.f0,.int .i64 v.drift.f1,.int .i64 v.reserve] 29)).alloc (.cells #[.int .i64 x.f0.f0,.int .i64 x.f0.f1,.int .i64 x.f1.f0,.int .i64 x.f1.f1] 31)).alloc (.cells #[.int .i64 hd,.int .i64 layer] 33)).alloc (.cells #[.int .i64 0,.int .i64 0,.int .i64 0,.int .i64 0] 31)) (w.heap.size+1+1+1+1) #[.int .i64 0,.int .i64 0,.int .i64 0,.int .i64 0] 31:=(by have h_:=fT ((((w.alloc (.cells #[.int .i64 s.nx,.int .i64 s.ny,.int .i64 s.cell,.int .i64 s.slot,.int .i64 s.slots,.int .i64 s.layers,.int .i64 s.most,.slice A7 s.shores.length c7,.slice A8 s.currents.length c8] 25)).alloc (.cells #[.int .i64 v.speed,.int .i64 v.dive,.int .i64 v.use.f0,.int .i64 v.use.f1,.int .i64 v.drift.f0,.int .i64 v.drift.f1,.int .i64 v.reserve] 29)).alloc (.cells #[.int .i64 x.f0.f0,.int .i64 x.f0.f1,.int .i64 x.f1.f0,.int .i64 x.f1.f1] 31)).alloc (.cells #[.int .i64 hd,.int .i64 layer] 33)) (.cells #[.int .i64 0,.int .i64 0,.int .i64 0,.int .i64 0] 31);first|exact h_|(simp only [World.size_alloc] at h_;exact h_))
 have mB:Below w.heap.size w (((((w.alloc (.cells #[.int .i64 s.nx,.int .i64 s.ny,.int .i64 s.cell,.int .i64 s.slot,.int .i64 s.slots,.int .i64 s.layers,.int .i64 s.most,.slice A7 s.shores.length c7,.slice A8 s.currents.length c8] 25)).alloc (.cells #[.int .i64 v.speed,.int .i64 v.dive,.int .i64 v.use.f0,.int .i64 v.use.f1,.int .i64 v.drift.f0,.int .i64 v.drift.f1,.int .i64 v.reserve] 29)).alloc (.cells #[.int .i64 x.f0.f0,.int .i64 x.f0.f1,.int .i64 x.f1.f0,.int .i64 x.f1.f1] 31)).alloc (.cells #[.int .i64 hd,.int .i64 layer] 33)).alloc (.cells #[.int .i64 0,.int .i64 0,.int .i64 0,.int .i64 0] 31)):=(aY (aY (aY (aY (aY (Below.refl w.heap.size w) _) _) _) _) _)
 have nK:w.heap.size≤w.heap.size:=Nat.le_refl _
 generalize xV:(((((w.alloc (.cells #[.int .i64 s.nx,.int .i64 s.ny,.int .i64 s.cell,.int .i64 s.slot,.int .i64 s.slots,.int .i64 s.layers,.int .i64 s.most,.slice A7 s.shores.length c7,.slice A8 s.currents.length c8] 25)).alloc (.cells #[.int .i64 v.speed,.int .i64 v.dive,.int .i64 v.use.f0,.int .i64 v.use.f1,.int .i64 v.drift.f0,.int .i64 v.drift.f1,.int .i64 v.reserve] 29)).alloc (.cells #[.int .i64 x.f0.f0,.int .i64 x.f0.f1,.int .i64 x.f1.f0,.int .i64 x.f1.f1] 31)).alloc (.cells #[.int .i64 hd,.int .i64 layer] 33)).alloc (.cells #[.int .i64 0,.int .i64 0,.int .i64 0,.int .i64 0] 31)) = W1 at m5 m6 m7 m9 m10 mB ⊢
 clear xV
 generalize hg5:w.heap.size = g5 at m5 m6 m7 m9 m10 ⊢
 have hG5:w.heap.size≤g5:=by omega
 generalize hg6:g5+1 = g6 at m6 m7 m9 m10 ⊢
 have Dk:g5≠g6:=by omega
 have Rf:g6≠g5:=Dk.symm
 have Uw:w.heap.size≤g6:=by omega
 generalize hg7:g6+1 = g7 at m7 m9 m10 ⊢
 have GN:g5≠g7:=by omega
 have OU:g6≠g7:=by omega
 have WO:g7≠g5:=GN.symm
 have adv:g7≠g6:=OU.symm
 have hG7:w.heap.size≤g7:=by omega
 generalize hg9:g7+1 = g9 at m9 m10 ⊢
 have WZ:g5≠g9:=by omega
 have OT:g6≠g9:=by omega
 have OV:g7≠g9:=by omega
 have amF:g9≠g5:=WZ.symm
 have adp:g9≠g6:=OT.symm
 have adw:g9≠g7:=OV.symm
 have hG9:w.heap.size≤g9:=by omega
 generalize WI:g9+1 = g10 at m10 ⊢
 have mK:g5≠g10:=by omega
 have mM:g6≠g10:=by omega
 have IE:g7≠g10:=by omega
 have Rt:g9≠g10:=by omega
 have Rh:g10≠g5:=mK.symm
 have Ri:g10≠g6:=mM.symm
 have Yt:g10≠g7:=IE.symm
 have af8:g10≠g9:=Rt.symm
 have nX:w.heap.size≤g10:=by omega
 clear nK
 try clear WI
 try clear hg9
 try clear hg7
 try clear hg6
 try clear hg5
 have Dl:w.heap.size≤W1.heap.size:=mB.size
 have hbg:pq s v x t = if nV s v≠0 then nV s v else qm x t:=rfl
 have HBG:=Lib.hid hbg
 clear hbg
 have hcon:=QB s v x t A7 A8 c7 c8 W1 h7 (Kd.bn hC7 mB) h8 (Kd.bn WJ mB)
 (with_reducible refine hcon.mono ?_)
 clear hcon
 rintro e W2 ⟨ptr,rfl,hb,hpt⟩
 replace m5:=aV m5 hb
 replace m6:=aV m6 hb
 replace m7:=aV m7 hb
 replace m9:=aV m9 hb
 replace m10:=aV m10 hb
 replace mB:=dY mB hb
 clear hb
 have x9:w.heap.size≤W2.heap.size:=mB.size
 generalize hE_:pq s v x t = E0 at*
 have HE0:=Lib.hid hE_
 clear hE_
 by_cases h0:E0 = 0
 case neg =>
  have HZ:Hid (O3 s v x t hd layer = E0):=Lib.hid (HE.out.trans (if_pos h0))
  have HV2:Hid (CZ s v x t hd layer = z31):=Lib.hid (HV.out.trans (if_neg (by rw [HZ.out];exact h0)))
  clear HV
  have hd1:(E0 == 0) = false:=beq_eq_false_iff_ne.2 h0
  have hd2:(E0 != 0) = true:=by rw [bne,hd1];rfl
  clear h0 hpt HE
  obtain ⟨Iu,Iw,Iy,Iz,Uy,Uz,UA,UB⟩:=iC m10
  go_wp2
  exact bodyPost_ret (lU rfl _ _ g10 31 #[.int .i64 0,.int .i64 0,.int .i64 0,.int .i64 0] (0,0) _ rfl (aI (aI (aI (aI m10 0 (.int .i64 0) rfl) 1 (.int .i64 0) rfl) 2 (.int .i64 0) rfl) 3 (.int .i64 0) rfl) Try.underlying31 rfl aR) rfl ⟨WL,(Below.setCell (p:=⟨g10,3,none⟩) (Below.setCell (p:=⟨g10,2,none⟩) (Below.setCell (p:=⟨g10,1,none⟩) (Below.setCell (p:=⟨g10,0,none⟩) mB nX _) nX _) nX _) nX _)⟩
 case pos =>
  have HE2:=Lib.hid (HE.out.trans (if_neg (fun h=>h h0)))
  clear HE
  have hb0:=HBG.out.symm.trans h0
  obtain ⟨ht0,hp0⟩:=Dw hb0
  obtain ⟨hbx,amG,apn⟩:=IP hp0
  obtain ⟨hSV,hVN⟩:=IM ht0
  rcases hpt with ⟨_,g,rfl,hg,hT⟩|⟨hbad,_⟩
  case inr=>exact absurd ht0 hbad
  case inl =>
   subst h0
   clear hb0 ht0 hp0 HBG
   obtain ⟨ads,adt⟩:=II m9
   have Ir:∀ o_,(W2.alloc o_).cell? ⟨g5,0,none⟩ = some (.int .i64 s.nx):=fun o_=>(aa (ag m5 o_) 0).trans rfl
   have KS:∀ o_,(W2.alloc o_).cell? ⟨g5,1,none⟩ = some (.int .i64 s.ny):=fun o_=>(aa (ag m5 o_) 1).trans rfl
   have Ru:∀ o_,(W2.alloc o_).cell? ⟨g5,2,none⟩ = some (.int .i64 s.cell):=fun o_=>(aa (ag m5 o_) 2).trans rfl
   have Rv:∀ o_,(W2.alloc o_).cell? ⟨g5,3,none⟩ = some (.int .i64 s.slot):=fun o_=>(aa (ag m5 o_) 3).trans rfl
   have adK:∀ o_,(W2.alloc o_).cell? ⟨g5,4,none⟩ = some (.int .i64 s.slots):=fun o_=>(aa (ag m5 o_) 4).trans rfl
   have adL:∀ o_,(W2.alloc o_).cell? ⟨g5,5,none⟩ = some (.int .i64 s.layers):=fun o_=>(aa (ag m5 o_) 5).trans rfl
   have adM:∀ o_,(W2.alloc o_).cell? ⟨g5,6,none⟩ = some (.int .i64 s.most):=fun o_=>(aa (ag m5 o_) 6).trans rfl
   have adN:∀ o_,(W2.alloc o_).cell? ⟨g5,7,none⟩ = some (.slice A7 s.shores.length c7):=fun o_=>(aa (ag m5 o_) 7).trans rfl
   have adO:∀ o_,(W2.alloc o_).cell? ⟨g5,8,none⟩ = some (.slice A8 s.currents.length c8):=fun o_=>(aa (ag m5 o_) 8).trans rfl
   go_wp2_with fail
   clear Ir KS Ru Rv adK adL adM adN adO ads adt
   replace hT:=hT.below (aY (Below.refl _ W2) (.cells #[.int .i64 hd,.int .i64 layer] 33))
   have KQ:=dV m5
   have Rj:=dV m6
   have ady:=dV m7
   have aC3:=dV m9
   have OP:=dV m10
   have mc:iD (W2.alloc (.cells #[.int .i64 hd,.int .i64 layer] 33)) (W2.heap.size) #[.int .i64 hd,.int .i64 layer] 33:=(by have h_:=fT W2 (.cells #[.int .i64 hd,.int .i64 layer] 33);first|exact h_|(simp only [World.size_alloc] at h_;exact h_))
   replace m5:iD (W2.alloc (.cells #[.int .i64 hd,.int .i64 layer] 33)) g5 #[.int .i64 s.nx,.int .i64 s.ny,.int .i64 s.cell,.int .i64 s.slot,.int .i64 s.slots,.int .i64 s.layers,.int .i64 s.most,.slice A7 s.shores.length c7,.slice A8 s.currents.length c8] 25:=(ag m5 _)
   replace m6:iD (W2.alloc (.cells #[.int .i64 hd,.int .i64 layer] 33)) g6 #[.int .i64 v.speed,.int .i64 v.dive,.int .i64 v.use.f0,.int .i64 v.use.f1,.int .i64 v.drift.f0,.int .i64 v.drift.f1,.int .i64 v.reserve] 29:=(ag m6 _)
   replace m7:iD (W2.alloc (.cells #[.int .i64 hd,.int .i64 layer] 33)) g7 #[.int .i64 x.f0.f0,.int .i64 x.f0.f1,.int .i64 x.f1.f0,.int .i64 x.f1.f1] 31:=(ag m7 _)
   replace m9:iD (W2.alloc (.cells #[.int .i64 hd,.int .i64 layer] 33)) g9 #[.int .i64 hd,.int .i64 layer] 33:=(ag m9 _)
   replace m10:iD (W2.alloc (.cells #[.int .i64 hd,.int .i64 layer] 33)) g10 #[.int .i64 0,.int .i64 0,.int .i64 0,.int .i64 0] 31:=(ag m10 _)
   replace mB:Below w.heap.size w (W2.alloc (.cells #[.int .i64 hd,.int .i64 layer] 33)):=(aY mB _)
   have nK:w.heap.size≤W2.heap.size:=x9
   generalize xV:(W2.alloc (.cells #[.int .i64 hd,.int .i64 layer] 33)) = W3 at m5 m6 m7 m9 m10 mc mB hT ⊢
   clear xV
   generalize hgc:W2.heap.size = gc at mc ⊢
   have amH:g5≠gc:=by omega
   have amI:g6≠gc:=by omega
   have amJ:g7≠gc:=by omega
   have amK:g9≠gc:=by omega
   have agp:g10≠gc:=by omega
   have aC4:gc≠g5:=amH.symm
   have aC5:gc≠g6:=amI.symm
   have aC6:gc≠g7:=amJ.symm
   have aC7:gc≠g9:=amK.symm
   have auF:gc≠g10:=agp.symm
   have hGc:w.heap.size≤gc:=by omega
   clear nK KQ Rj ady aC3 OP
   try clear hgc
   have LW:w.heap.size≤W3.heap.size:=mB.size
   have hcon:=Yw (some ⟨gc,0,none⟩) 1 [⟨hd,layer⟩] s.layers W3 (agm mc) (Nat.le_refl 1)
   dsimp only [List.length_cons,List.length_nil,Nat.zero_add] at hcon
   (with_reducible refine hcon.mono ?_)
   clear hcon
   rintro e W4 ⟨rfl,hb⟩
   replace hT:=hT.below hb
   replace m5:=aV m5 hb
   replace m6:=aV m6 hb
   replace m7:=aV m7 hb
   replace m9:=aV m9 hb
   replace m10:=aV m10 hb
   replace mc:=aV mc hb
   replace mB:=dY mB hb
   clear hb
   have UJ:w.heap.size≤W4.heap.size:=mB.size
   have hc1:=agn (hd:=hd) (layer:=layer) hSV.n.layers.1
   generalize wG [⟨hd,layer⟩] s.layers = E1 at*
   by_cases h1:E1 = 0
   case neg =>
    have HZ:Hid (O3 s v x t hd layer = E1):=Lib.hid (HE2.out.trans (if_pos h1))
    have HV2:Hid (CZ s v x t hd layer = z31):=Lib.hid (HV.out.trans (if_neg (by rw [HZ.out];exact h1)))
    clear HV
    have hd1:(E1 == 0) = false:=beq_eq_false_iff_ne.2 h1
    have hd2:(E1 != 0) = true:=by rw [bne,hd1];rfl
    clear h1 hc1 HE2
    obtain ⟨Iu,Iw,Iy,Iz,Uy,Uz,UA,UB⟩:=iC m10
    go_wp2
    exact bodyPost_ret (lU rfl _ _ g10 31 #[.int .i64 0,.int .i64 0,.int .i64 0,.int .i64 0] (0,0) _ rfl (aI (aI (aI (aI m10 0 (.int .i64 0) rfl) 1 (.int .i64 0) rfl) 2 (.int .i64 0) rfl) 3 (.int .i64 0) rfl) Try.underlying31 rfl aR) rfl ⟨WL,(Below.setCell (p:=⟨g10,3,none⟩) (Below.setCell (p:=⟨g10,2,none⟩) (Below.setCell (p:=⟨g10,1,none⟩) (Below.setCell (p:=⟨g10,0,none⟩) mB nX _) nX _) nX _) nX _)⟩
   case pos =>
    obtain ⟨⟨hh0,Un⟩,hl0,hl1⟩:=hc1 h1
    have HE3:=Lib.hid (HE2.out.trans (if_neg (fun h=>h h1)))
    clear HE2 hc1
    subst h1
    obtain ⟨WT,WU,adP,adQ⟩:=rV m7
    obtain ⟨ads,adt⟩:=II m9
    go_wp2_with fail
    clear WT WU adP adQ ads adt
    have hcon:=UN g s v x t hd layer W4 hT hSV hVN hbx amG (by omega) hh0 Un hl0 hl1
    (with_reducible refine hcon.mono ?_)
    clear hcon
    rintro e W5 ⟨rfl,hb⟩
    replace m5:=aV m5 hb
    replace m6:=aV m6 hb
    replace m7:=aV m7 hb
    replace m9:=aV m9 hb
    replace m10:=aV m10 hb
    replace mc:=aV mc hb
    replace mB:=dY mB hb
    clear hb
    have adr:w.heap.size≤W5.heap.size:=mB.size
    have HV2:Hid (CZ s v x t hd layer = kY s v x t hd layer):=Lib.hid (by rw [HV.out,HE3.out];by_cases hz:mO s v x t = 0;exact if_pos hz;rw [if_neg hz];unfold kY;rw [if_neg hz])
    clear HV
    generalize kY s v x t hd layer = Y at*
    obtain ⟨Iu,Iw,Iy,Iz,Uy,Uz,UA,UB⟩:=iC m10
    go_wp2
    exact bodyPost_ret (lU rfl _ _ g10 31 #[.int .i64 Y.f0.f0,.int .i64 Y.f0.f1,.int .i64 Y.f1.f0,.int .i64 Y.f1.f1] (0,0) _ rfl (aI (aI (aI (aI m10 0 (.int .i64 Y.f0.f0) rfl) 1 (.int .i64 Y.f0.f1) rfl) 2 (.int .i64 Y.f1.f0) rfl) 3 (.int .i64 Y.f1.f1) rfl) Try.underlying31 rfl aR) rfl ⟨by rw [HV2.out,HE3.out];rfl,(Below.setCell (p:=⟨g10,3,none⟩) (Below.setCell (p:=⟨g10,2,none⟩) (Below.setCell (p:=⟨g10,1,none⟩) (Below.setCell (p:=⟨g10,0,none⟩) mB nX _) nX _) nX _) nX _)⟩
end Go.Proofs.Ytmhaiihjfgfaoaa.Gl
end
section
namespace Go.Proofs.Ytmhaiihjfgfaoaa.Gl
open Go.RowKit Go.Shelf Go.Proofs.YtmhaiihjfgfaoaaW.PrintWords Go.Proofs.YtmhaiihjfgfaoaaW.PrintLast Go.Proofs.YtmhaiihjfgfaoaaW.PrintMore Go.Proofs.Ytmhaiihjfgfaoaa.Pr Go.Proofs.YtmhaiihjfgfaoaaW.Round
set_option linter.unusedVariables false
set_option linter.unusedSimpArgs false
attribute [local go_sem] cz cB dK dL cK
end Go.Proofs.Ytmhaiihjfgfaoaa.Gl
end
section
namespace Go.Proofs.Ytmhaiihjfgfaoaa.Pr
open Go.RowKit Go.Proofs.YtmhaiihjfgfaoaaW.PrintWords Go.Proofs.YtmhaiihjfgfaoaaW.PrintLast Go.Proofs.YtmhaiihjfgfaoaaW.PrintMore Go.Proofs.Ytmhaiihjfgfaoaa.Gl
set_option linter.unusedVariables false
def mR.f (aj:Int) (ak:Int) (ax:Int) (ay:Int) (aJ:Int) (aC:Int) (aG:Int) (aN:List Bool) (av:List (nU)) (aU:Int) (aQ:Int) (aZ:Int) (bf:Int) (bE:Int) (bF:Int) (bG:Int) (bP:Int) (bQ:Int) (bR:Int) (bS:Int) (a3:Int) (nY:Int) (mH:Int):Option (Int × Int × Int × Int × Int):=some ((CZ ⟨aj,ak,ax,ay,aJ,aC,aG,aN,av⟩ ⟨aU,aQ,⟨aZ,bf⟩,⟨bE,bF⟩,bG⟩ ⟨⟨bP,bQ⟩,⟨bR,bS⟩⟩ a3 nY mH).f0.f0,(CZ ⟨aj,ak,ax,ay,aJ,aC,aG,aN,av⟩ ⟨aU,aQ,⟨aZ,bf⟩,⟨bE,bF⟩,bG⟩ ⟨⟨bP,bQ⟩,⟨bR,bS⟩⟩ a3 nY mH).f0.f1,(CZ ⟨aj,ak,ax,ay,aJ,aC,aG,aN,av⟩ ⟨aU,aQ,⟨aZ,bf⟩,⟨bE,bF⟩,bG⟩ ⟨⟨bP,bQ⟩,⟨bR,bS⟩⟩ a3 nY mH).f1.f0,(CZ ⟨aj,ak,ax,ay,aJ,aC,aG,aN,av⟩ ⟨aU,aQ,⟨aZ,bf⟩,⟨bE,bF⟩,bG⟩ ⟨⟨bP,bQ⟩,⟨bR,bS⟩⟩ a3 nY mH).f1.f1,O3 ⟨aj,ak,ax,ay,aJ,aC,aG,aN,av⟩ ⟨aU,aQ,⟨aZ,bf⟩,⟨bE,bF⟩,bG⟩ ⟨⟨bP,bQ⟩,⟨bR,bS⟩⟩ a3 nY mH)
theorem mR.calls (aj:Int) (ak:Int) (ax:Int) (ay:Int) (aJ:Int) (aC:Int) (aG:Int) (dH:Option Addr) (dD:Nat) (aN:List Bool) (dG:Option Addr) (dE:Nat) (av:List (nU)) (aU:Int) (aQ:Int) (aZ:Int) (bf:Int) (bE:Int) (bF:Int) (bG:Int) (bP:Int) (bQ:Int) (bR:Int) (bS:Int) (a3:Int) (nY:Int) (mH:Int) (r1:Int) (r2:Int) (r3:Int) (r4:Int) (r5:Int) (w:World) (iW:Kd.C Kd.bool w dH aN.length aN) (iX:aN.length≤dD) (iY:Kd.C CY w dG av.length av) (iZ:av.length≤dE) (h:mR.f aj ak ax ay aJ aC aG aN av aU aQ aZ bf bE bF bG bP bQ bR bS a3 nY mH = some (r1,r2,r3,r4,r5)):
 Calls Try.prog 20 #[.agg #[.int .i64 aj,.int .i64 ak,.int .i64 ax,.int .i64 ay,.int .i64 aJ,.int .i64 aC,.int .i64 aG,.slice dH aN.length dD,.slice dG av.length dE],.agg #[.int .i64 aU,.int .i64 aQ,.int .i64 aZ,.int .i64 bf,.int .i64 bE,.int .i64 bF,.int .i64 bG],.agg #[.int .i64 bP,.int .i64 bQ,.int .i64 bR,.int .i64 bS],.int .i64 a3,.agg #[.int .i64 nY,.int .i64 mH]] w fun e w'=>e = .returned (.tuple #[.agg #[.int .i64 r1,.int .i64 r2,.int .i64 r3,.int .i64 r4],.int .i64 r5])∧Below w.heap.size w w':=by
 cases h
 exact adJ ⟨aj,ak,ax,ay,aJ,aC,aG,aN,av⟩ ⟨aU,aQ,⟨aZ,bf⟩,⟨bE,bF⟩,bG⟩ ⟨⟨bP,bQ⟩,⟨bR,bS⟩⟩ a3 nY mH dH dG dD dE w iX iW iZ iY
end Go.Proofs.Ytmhaiihjfgfaoaa.Pr
end
