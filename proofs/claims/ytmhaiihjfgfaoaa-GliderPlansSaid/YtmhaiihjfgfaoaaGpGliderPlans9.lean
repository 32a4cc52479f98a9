import Derived.Lib.SliceRun
import Derived.SizedLaws
import Derived.ChangeSlices
import Derived.Deep.Slices
import Derived.ChangeArms
import Derived.DataReads
import Derived.WideShapes
import Derived.Test.YtmhaiihjfgfaoaaGpGliderPlans1
import Derived.Test.YtmhaiihjfgfaoaaGpGliderPlans8
import Derived.Test.YtmhaiihjfgfaoaaGpGliderPlans7
import Derived.Test.YtmhaiihjfgfaoaaGpGliderPlans3
set_option linter.unusedVariables false
set_option linter.unusedSimpArgs false
open Option.some renaming inj → bh
open Option renaming bind_some → aE
open List renaming setIfInBounds_toArray → ap, set_cons_zero → aq, set_cons_succ → ar
open Go.World renaming block_lt_of_cell? → bd
set_option maxRecDepth 100000
set_option maxHeartbeats 80000000
open Go.Value renaming int → Z
open Go.IntKind renaming i64 → ab
open Bool renaming true → ac, false → al
open Go.RowKit renaming wrap64 → an
open Go renaming World → ao
section
namespace Go.Proofs.Ytmhaiihjfgfaoaa.Gl
open Go.RowKit Go.Proofs.YtmhaiihjfgfaoaaW.bu Go.Proofs.YtmhaiihjfgfaoaaW.dB Go.Proofs.YtmhaiihjfgfaoaaW.ek Go.Proofs.Ytmhaiihjfgfaoaa.Pr
theorem acJ (k:Nat) (a:Int) (h:-4611686018427387904≤a∧a≤4611686018427387904):gF.f (k+1) a 1000 = some (a / 1000):=by
 rw [gF.f,if_neg (by omega),if_neg (by omega)]
 by_cases h0:0≤a
 ·rw [Int.tmod_eq_emod_of_nonneg h0,Int.tdiv_eq_ediv_of_nonneg h0,if_neg (by omega),fF (by omega)]
 ·obtain ⟨b,rfl⟩:∃ b,a = -b:=⟨-a,by omega⟩
  rw [Int.neg_tmod,Int.neg_tdiv,Int.tmod_eq_emod_of_nonneg (show 0≤b by omega),Int.tdiv_eq_ediv_of_nonneg (show 0≤b by omega)]
  by_cases h1:-(b % 1000) < 0
  ·rw [if_pos h1,fF (x:=-(b / 1000)) (by omega),fF (by omega)]
   congr 1;omega
  ·rw [if_neg h1,fF (by omega)]
   congr 1;omega
theorem Ji (k:Nat) (a:Int) (h:-4611686018427387904≤a∧a≤4611686018427387904):gF.f (k+1) a 1000000 = some (Mi a):=by
 unfold Mi
 rw [gF.f,if_neg (by omega),if_neg (by omega)]
 by_cases h0:0≤a
 ·rw [Int.tmod_eq_emod_of_nonneg h0,Int.tdiv_eq_ediv_of_nonneg h0,if_neg (by omega),fF (by omega)]
 ·obtain ⟨b,rfl⟩:∃ b,a = -b:=⟨-a,by omega⟩
  rw [Int.neg_tmod,Int.neg_tdiv,Int.tmod_eq_emod_of_nonneg (show 0≤b by omega),Int.tdiv_eq_ediv_of_nonneg (show 0≤b by omega)]
  by_cases h1:-(b % 1000000) < 0
  ·rw [if_pos h1,fF (x:=-(b / 1000000)) (by omega),fF (by omega)]
   congr 1;omega
  ·rw [if_neg h1,fF (by omega)]
   congr 1;omega
theorem ahB (k:Nat) (a:Int) (h:0≤a∧a≤4611686018427387904):jw.f (k+1) a 1000 = some ((a+999) / 1000):=by
 unfold jw.f
 rw [fF (x:=-a) (by omega),acJ k (-a) (by omega),aE,fF (by omega)]
 congr 1;omega
theorem X9 (k:Nat) (a:Int) (h:-4611686018427387904≤a∧a≤4611686018427387904):jw.f (k+1) a 1000000 = some (upM a):=by
 unfold jw.f upM
 rw [fF (x:=-a) (by omega),Ji k (-a) (by omega),aE]
 unfold Mi
 rw [fF (by omega)]
theorem Rl {s:lK} {v:nW} {x:iA} (hS:Cm s) (hV:Fz v) (hx:JC x) (k:Nat):fB.f (k+1) s.nx s.ny s.cell s.slot s.slots s.layers s.most s.bf s.aC v.speed v.bq v.use.f0 v.use.f1 v.aV.f0 v.aV.f1 v.reserve x.f0.f0 x.f0.f1 x.f1.f0 x.f1.f1 = some ((fO s v x).f0.f0,(fO s v x).f0.f1,(fO s v x).f1.f0,(fO s v x).f1.f1):=by
 have n1:=hV.speed;have n2:=hV.bq;have n3:=hS.most
 obtain ⟨p0,p1⟩:=je (a:=v.speed+s.most) (b:=v.bq) (m:=10000) (n:=131072) (by omega) (by omega) (by omega) (by omega)
 obtain ⟨x0,x1,x2,x3⟩:=hx
 unfold fB.f fO
 rw [fF (x:=v.speed+s.most) (by omega),fF (x:=(v.speed+s.most)*v.bq) (by omega),ahB k _ (by omega),aE]
 generalize hm:((v.speed+s.most)*v.bq+999) / 1000 = m at*
 rw [fF (x:=x.f0.f0 - m) (by omega),fF (x:=x.f0.f1+m) (by omega),fF (x:=x.f1.f0 - m) (by omega),fF (x:=x.f1.f1+m) (by omega)]
theorem anH {s:lK} (hS:Cm s) (x:iA):j3.f s.nx s.ny s.cell s.slot s.slots s.layers s.most s.bf s.aC x.f0.f0 x.f0.f1 x.f1.f0 x.f1.f1 = some (iX s x):=by
 have n1:=hS.nx;have n2:=hS.ny;have n3:=hS.cell
 obtain ⟨a0,a1⟩:=je (a:=s.nx) (b:=s.cell) (m:=12) (n:=65536) (by omega) (by omega) (by omega) (by omega)
 obtain ⟨b0,b1⟩:=je (a:=s.ny) (b:=s.cell) (m:=12) (n:=65536) (by omega) (by omega) (by omega) (by omega)
 unfold j3.f iX
 rw [fF (x:=s.nx*s.cell) (by omega),fF (x:=s.ny*s.cell) (by omega)]
 by_cases g1:0≤x.f0.f0 <;> by_cases g2:x.f0.f1≤s.nx*s.cell <;> by_cases g3:0≤x.f1.f0 <;> simp [g1,g2,g3]
theorem ahC {s:lK} (hS:Cm s) (t u:Int):jf.f s.nx s.ny s.cell s.slot s.slots s.layers s.most s.bf s.aC t u = some (uy s t u):=by
 have n4:=hS.slot;have n5:=hS.slots
 obtain ⟨d0,d1⟩:=je (a:=s.slots) (b:=s.slot) (m:=16) (n:=1048576) (by omega) (by omega) (by omega) (by omega)
 unfold jf.f uy
 rw [fF (x:=s.slots*s.slot) (by omega)]
 by_cases g1:0≤t <;> simp [g1]
def ahD (s:lK) (v:nW) (x:iA) (t:Int):Bool:=iX s (fO s v x) && uy s t (t+v.bq)
theorem M7 (s:lK) (v:nW) (x:iA) (t:Int):pW s v x t = if ahD s v x t = true then 0 else 5:=rfl
theorem acK {s:lK} {v:nW} {x:iA} {t:Int} (hS:Cm s) (hV:Fz v) (hx:JC x) (ht:0≤t∧t≤1099511627776) (k:Nat):dP.f (k+1) s.nx s.ny s.cell s.slot s.slots s.layers s.most s.bf s.aC v.speed v.bq v.use.f0 v.use.f1 v.aV.f0 v.aV.f1 v.reserve x.f0.f0 x.f0.f1 x.f1.f0 x.f1.f1 t = some (ahD s v x t):=by
 have n2:=hV.bq
 unfold dP.f ahD
 rw [Rl hS hV hx k,aE]
 refine Eq.trans (congrArg (fun o=>Option.bind o _) (anH hS (fO s v x))) ?_
 rw [aE,fF (x:=t+v.bq) (by omega),ahC hS,aE]
 cases iX s (fO s v x) <;> rfl
theorem Y5 (s:lK) (v:nW) (x:iA) (hS:Cm s) (hV:Fz v) (hx:JC x) (hsh:(s.bf.length:Int) = s.nx*s.ny):∀ (m i K:Nat),(i:Int)+(m:Int) = s.nx*s.ny→m+2≤K→
 bM.l0 K (i:Int) s.nx s.ny s.cell s.slot s.slots s.layers s.most s.bf s.aC v.speed v.bq v.use.f0 v.use.f1 v.aV.f0 v.aV.f1 v.reserve x.f0.f0 x.f0.f1 x.f1.f0 x.f1.f1
  = some (!(List.range m).any fun r=>GD false s.bf ((i:Int)+(r:Int)) && xQ s (fO s v x) ((i:Int)+(r:Int)))
 |0,i,K+1,h,hk=>by
  have n1:=hS.nx;have n2:=hS.ny
  obtain ⟨p0,p1⟩:=je (a:=s.nx) (b:=s.ny) (m:=12) (n:=12) (by omega) (by omega) (by omega) (by omega)
  rw [bM.l0,fF (x:=s.nx*s.ny) (by omega),if_neg (by omega)];rfl
 |m+1,i,K+1,h,hk=>by
  obtain ⟨K,rfl⟩:∃ z,K = z+1:=⟨K - 1,by omega⟩
  have n1:=hS.nx;have n2:=hS.ny
  obtain ⟨p0,p1⟩:=je (a:=s.nx) (b:=s.ny) (m:=12) (n:=12) (by omega) (by omega) (by omega) (by omega)
  have ih:=Y5 s v x hS hV hx hsh m (i+1) (K+1) (by omega) (by omega)
  have e1:∀ r:Nat,((i+1:Nat):Int)+(r:Int) = (i:Int)+((r+1:Nat):Int):=fun r=>by omega
  simp only [e1] at ih
  have e2:(List.range (m+1)).any (fun r=>GD false s.bf ((i:Int)+(r:Int)) && xQ s (fO s v x) ((i:Int)+(r:Int))) = ((GD false s.bf (i:Int) && xQ s (fO s v x) (i:Int)) || (List.range m).any fun r=>GD false s.bf ((i:Int)+((r+1:Nat):Int)) && xQ s (fO s v x) ((i:Int)+((r+1:Nat):Int))):=by
   rw [List.range_succ_eq_map,List.any_cons,List.any_map]
   simp only [Int.ofNat_zero,Int.natCast_zero,Int.add_zero]
   rfl
  rw [bM.l0,fF (x:=s.nx*s.ny) (by omega),if_pos (by omega),if_pos (by omega),if_pos (by omega),fF (x:=(i:Int)+1) (by omega),show (i:Int)+1 = ((i+1:Nat):Int) from by omega,ih,e2]
  cases hr:GD false s.bf (i:Int) with
  |false=>rw [if_neg (by decide),Bool.false_and,Bool.false_or]
  |true =>
   rw [if_pos rfl,Rl hS hV hx K,aE,afN s hS (i:Int) (by omega) (by omega),aE]
   refine Eq.trans (congrArg (fun o=>Option.bind o _) (RP (fO s v x) _ _ _ _)) ?_
   rw [aE]
   have et:((decide ((fO s v x).f0.f0≤((i:Int) % s.nx+1)*s.cell) && decide ((i:Int) % s.nx*s.cell≤(fO s v x).f0.f1)) && (decide ((fO s v x).f1.f0≤((i:Int) / s.nx+1)*s.cell) && decide ((i:Int) / s.nx*s.cell≤(fO s v x).f1.f1))) = xQ s (fO s v x) (i:Int):=rfl
   rw [et]
   cases xQ s (fO s v x) (i:Int) with
   |true=>rfl
   |false=>rw [if_neg (by decide),Bool.and_false,Bool.false_or]
theorem ar9 {s:lK} {v:nW} {x:iA} (hS:Cm s) (hV:Fz v) (hx:vK x) (hsh:(s.bf.length:Int) = s.nx*s.ny) (hc:iX s (fO s v x) = true) (K:Nat) (hk:146≤K):
 bM.f K s.nx s.ny s.cell s.slot s.slots s.layers s.most s.bf s.aC v.speed v.bq v.use.f0 v.use.f1 v.aV.f0 v.aV.f1 v.reserve x.f0.f0 x.f0.f1 x.f1.f0 x.f1.f1 = some (decide (Ex s (fO s v x) = 0)):=by
 have n1:=hS.nx;have n2:=hS.ny
 obtain ⟨p0,p1⟩:=je (a:=s.nx) (b:=s.ny) (m:=12) (n:=12) (by omega) (by omega) (by omega) (by omega)
 obtain ⟨g0,g1⟩:=afJ (s:=s) hS hV hx
 unfold bM.f
 have:=Y5 s v x hS hV hx.1 hsh (s.nx*s.ny).toNat 0 K (by omega) (by omega)
 rw [show ((0:Nat):Int) = 0 from rfl] at this
 rw [this,Option.some.injEq]
 have he:(List.range (s.nx*s.ny).toNat).any (fun r=>GD false s.bf (0+(r:Int)) && xQ s (fO s v x) (0+(r:Int))) = (sF s (fO s v x)).any (fun c=>GD false s.bf c):=by
  rw [Bool.eq_iff_iff,List.any_eq_true,List.any_eq_true]
  constructor
  ·rintro ⟨r,hr,h⟩
   rw [List.mem_range] at hr
   rw [Int.zero_add,Bool.and_eq_true] at h
   exact ⟨_,(LF hS g0 g1 hc).2 ⟨by omega,h.2⟩,h.1⟩
  ·rintro ⟨c,hcm,h⟩
   obtain ⟨hb,ht⟩:=(LF hS g0 g1 hc).1 hcm
   refine ⟨c.toNat,by rw [List.mem_range];omega,?_⟩
   rw [Int.zero_add,show ((c.toNat:Nat):Int) = c from by omega,h,ht];rfl
 rw [he]
 unfold Ex
 cases (sF s (fO s v x)).any (fun c=>GD false s.bf c) <;> rfl
theorem azh {h:Int} (h0:0≤h) (h1:h≤8):lQ.f h = some ((LY h).1,(LY h).2):=by
 have:h = 0∨h = 1∨h = 2∨h = 3∨h = 4∨h = 5∨h = 6∨h = 7∨h = 8:=by omega
 rcases this with rfl|rfl|rfl|rfl|rfl|rfl|rfl|rfl|rfl <;> rfl
theorem Y6 {a u:jK} {sp d:Int} (hd:1≤d∧d≤131072) (ha0:-1099511627776≤a.f0∧a.f0≤1099511627776) (ha1:-1099511627776≤a.f1∧a.f1≤1099511627776) (hs0:-5000000≤sp∧sp≤5000000) (hu0:-5000≤u.f0∧u.f0≤5000) (hu1:-5000≤u.f1∧u.f1≤5000) (k:Nat):
 dF.f (k+1) a.f0 a.f1 sp u.f0 u.f1 d = some ((qR d a sp u).f0,(qR d a sp u).f1):=by
 have m0:=rP (a:=sp+1000*u.f0) (b:=d) (m:=10000000) (n:=131072) (by omega) (by omega) (by omega) (by omega) (by omega)
 have m1:=rP (a:=sp+1000*u.f1) (b:=d) (m:=10000000) (n:=131072) (by omega) (by omega) (by omega) (by omega) (by omega)
 unfold dF.f qR
 rw [fF (x:=1000*u.f0) (by omega),fF (x:=1000*u.f1) (by omega),fF (x:=sp+1000*u.f0) (by omega),fF (x:=sp+1000*u.f1) (by omega),fF (x:=(sp+1000*u.f0)*d) (by omega),fF (x:=(sp+1000*u.f1)*d) (by omega),Ji k _ (by omega),aE,X9 k _ (by omega),aE]
 have e0:an (a.f0+Mi ((sp+1000*u.f0)*d)) = a.f0+Mi ((sp+1000*u.f0)*d):=fF (by unfold Mi;omega)
 have e1:an (a.f1+upM ((sp+1000*u.f1)*d)) = a.f1+upM ((sp+1000*u.f1)*d):=fF (by unfold upM;omega)
 rw [e0,e1]
theorem asa {s:lK} {v:nW} {x:iA} {t hd layer:Int} (hS:VS s) (hV:Fz v) (hx:vK x) (hh0:0≤hd) (hh1:hd≤8) (hl0:0≤layer) (hl1:layer < s.layers) (hm:ahD s v x t = true) (K:Nat) (hk:2400≤K):
 dD.f K s.nx s.ny s.cell s.slot s.slots s.layers s.most s.bf s.aC v.speed v.bq v.use.f0 v.use.f1 v.aV.f0 v.aV.f1 v.reserve x.f0.f0 x.f0.f1 x.f1.f0 x.f1.f1 t hd layer = some ((EA s v x (fO s v x) t hd layer).f0.f0,(EA s v x (fO s v x) t hd layer).f0.f1,(EA s v x (fO s v x) t hd layer).f1.f0,(EA s v x (fO s v x) t hd layer).f1.f1):=by
 obtain ⟨K,rfl⟩:∃ z,K = z+1:=⟨K - 1,by omega⟩
 have hre:pW s v x t = 0:=by rw [M7,if_pos hm]
 obtain ⟨hin,⟨ht0,ht1⟩,_⟩:=VT hS.n hV hx hre
 obtain ⟨g0,g1⟩:=afJ (s:=s) hS.n hV hx
 unfold ahD at hm
 rw [Bool.and_eq_true] at hm
 have n5:=hS.n.slots;have n4:=hS.n.slot;have nd:=hV.bq;have nsp:=hV.speed
 obtain ⟨d0,d1⟩:=je (a:=s.slots) (b:=s.slot) (m:=16) (n:=1048576) (by omega) (by omega) (by omega) (by omega)
 have hat:aZ.f (K+1) s.nx s.ny s.cell s.slot s.slots s.layers s.most s.bf s.aC (fO s v x).f0.f0 (fO s v x).f0.f1 (fO s v x).f1.f0 (fO s v x).f1.f1 layer t (t+v.bq) = some ((XG s (fO s v x) layer t (t+v.bq)).f0.f0,(XG s (fO s v x) layer t (t+v.bq)).f0.f1,(XG s (fO s v x) layer t (t+v.bq)).f1.f0,(XG s (fO s v x) layer t (t+v.bq)).f1.f1):=by
  rw [← anF hS.n g0 g1 hm.1 ht0 (by omega) ht1]
  unfold aZ.f
  have:=Y4 s (fO s v x) layer t (t+v.bq) hS.n hS.cu hl0 hl1 s.slots.toNat 0 (K+1) [] (Int.le_refl _) (by omega) (by omega)
  rw [List.nil_append] at this
  exact this
 unfold dD.f
 rw [azh hh0 hh1,aE,Rl hS.n hV hx.1 K,aE,fF (x:=t+v.bq) (by omega),hat,aE]
 have hai:=ao5 hS.cb (fO s v x) layer t (t+v.bq)
 have hdi:=Z6 hd
 unfold EA
 generalize XG s (fO s v x) layer t (t+v.bq) = y at*
 generalize LY hd = d at*
 obtain ⟨y0,y1,y2,y3,y8,y9⟩:=hai
 have m0:=rP (a:=d.1) (b:=v.speed) (m:=1000) (n:=5000) hdi.1.1 hdi.1.2 nsp.1 nsp.2 (by omega)
 have m1:=rP (a:=d.2) (b:=v.speed) (m:=1000) (n:=5000) hdi.2.1 hdi.2.2 nsp.1 nsp.2 (by omega)
 obtain ⟨⟨x0,x1,x2,x3⟩,_⟩:=hx
 rw [fF (x:=d.1*v.speed) (by omega),fF (x:=d.2*v.speed) (by omega)]
 refine Eq.trans (congrArg (fun o=>Option.bind o _) (Y6 (a:=x.f0) (u:=y.f0) nd x0 x1 (by omega) y0 y1 K)) ?_
 rw [aE]
 refine Eq.trans (congrArg (fun o=>Option.bind o _) (Y6 (a:=x.f1) (u:=y.f1) nd x2 x3 (by omega) y2 y3 K)) ?_
 rw [aE]
theorem asb {s:lK} {v:nW} {x:iA} {t hd layer:Int} (hS:VS s) (hV:Fz v) (hx:vK x) (ht:0≤t∧t≤1099511627776) (hh0:0≤hd) (hh1:hd≤8) (hl0:0≤layer) (hl1:layer < s.layers) (K:Nat) (hk:2400≤K):
 kW.f K s.nx s.ny s.cell s.slot s.slots s.layers s.most s.bf s.aC v.speed v.bq v.use.f0 v.use.f1 v.aV.f0 v.aV.f1 v.reserve x.f0.f0 x.f0.f1 x.f1.f0 x.f1.f1 t hd layer = some ((mW s v x t hd layer).f0.f0,(mW s v x t hd layer).f0.f1,(mW s v x t hd layer).f1.f0,(mW s v x t hd layer).f1.f1,nY s v x t):=by
 obtain ⟨k,rfl⟩:∃ z,K = z+1:=⟨K - 1,by omega⟩
 unfold kW.f
 rw [acK hS.n hV hx.1 ht k,aE]
 cases hm:ahD s v x t with
 |false =>
  have hE:nY s v x t = 5:=by unfold nY;rw [M7,hm,if_neg (show ¬(false = true) by decide),if_pos (by decide)]
  unfold mW
  rw [hE,if_neg (by decide),if_neg (by decide)];rfl
 |true =>
  have hE:nY s v x t = Ex s (fO s v x):=by unfold nY;rw [M7,hm,if_pos rfl,if_neg (by decide)]
  have hc:iX s (fO s v x) = true:=by unfold ahD at hm;exact (Bool.and_eq_true_iff.1 hm).1
  rw [if_pos rfl,ar9 hS.n hV hx hS.sh hc (k+1) (by omega),aE]
  unfold mW
  rw [hE]
  rcases adR s (fO s v x) with h|h
  ·rw [h,if_pos (by decide),if_pos rfl,asa hS hV hx hh0 hh1 hl0 hl1 hm (k+1) hk,aE]
  ·rw [h,if_neg (by decide),if_neg (by decide)];rfl
theorem Y7 (x:iA) (t:Int):fA.f x.f0.f0 x.f0.f1 x.f1.f0 x.f1.f1 t = some (oK x t):=by
 unfold fA.f oK XJ nU
 rw [alT,aE]
 cases XI x with
 |false=>rfl
 |true =>
  by_cases h1:t < 0
  ·rw [if_pos rfl,if_pos h1,decide_eq_false (show ¬(0≤t) by omega)];rfl
  ·rw [if_pos rfl,if_neg h1,decide_eq_true (show 0≤t by omega)]
   by_cases h2:t > 1073741824
   ·rw [if_pos h2,decide_eq_false (show ¬(t≤1073741824) by omega)];rfl
   ·rw [if_neg h2,decide_eq_true (show t≤1073741824 by omega)];rfl
theorem afO (s:lK) (v:nW) (K:Nat) (hl:s.aC.length≤100000) (hk:s.aC.length+3≤K):fZ.f K s.nx s.ny s.cell s.slot s.slots s.layers s.most s.bf s.aC v.speed v.bq v.use.f0 v.use.f1 v.aV.f0 v.aV.f1 v.reserve = some (lW s v):=by
 unfold fZ.f lW
 rw [azf s K hl hk,aE,aE,aze,aE]
 by_cases h:Az s = 0
 ·rw [if_pos h,if_neg (fun q=>q h)]
 ·rw [if_neg h,if_pos h]
theorem I4 (s:lK) (v:nW) (t:Int) (l:List gU) (hS:VS s) (hV:Fz v) (ht:0≤t∧t≤1073741824) (hl:l.length≤64) (hall:l.all (FH s.layers) = true):∀ (m i K:Nat) (x:iA) (out:List iA),i+m = l.length→m+2401≤K→vK x→out.length = i→
 dw.l0 K t l out (i:Int) s.nx s.ny s.cell s.slot s.slots s.layers s.most s.bf s.aC v.speed v.bq v.use.f0 v.use.f1 v.aV.f0 v.aV.f1 v.reserve x.f0.f0 x.f0.f1 x.f1.f0 x.f1.f1 = some (rF s v (l.drop i) x (t+(i:Int)*v.bq) (i:Int) out)
 |0,i,K+1,x,out,h,hk,hx,ho=>by
  obtain rfl:i = l.length:=by omega
  rw [dw.l0,if_neg (by omega),List.drop_length];rfl
 |m+1,i,K+1,x,out,h,hk,hx,ho=>by
  have hi:i < l.length:=by omega
  have e:bX l (i:Int) = l[i]:=by
   unfold bX
   simp [hi]
  have nd:=hV.bq
  obtain ⟨q0,q1⟩:=je (a:=(i:Int)) (b:=v.bq) (m:=64) (n:=131072) (by omega) (by omega) (by omega) (by omega)
  obtain ⟨⟨hh0,hh1⟩,hl0,hl1⟩:=akP hS.n.layers.1 (List.all_eq_true.1 hall l[i] (List.getElem_mem hi))
  rw [dw.l0,if_pos (by omega),if_pos (by omega),fF (x:=(i:Int)*v.bq) (by omega),fF (x:=t+(i:Int)*v.bq) (by omega),e,List.drop_eq_getElem_cons hi,rF,asb hS hV hx ⟨by omega,by omega⟩ hh0 hh1 hl0 hl1 K (by omega),aE]
  by_cases hE:nY s v x (t+(i:Int)*v.bq) = 0
  ·refine Eq.trans (if_pos hE) ?_
   rw [if_pos (show out.length < 4398046511104 by omega),if_neg (fun q=>q hE),fF (x:=(i:Int)+1) (by omega)]
   have ih:=I4 s v t l hS hV ht hl hall m (i+1) K (mW s v x (t+(i:Int)*v.bq) l[i].f0 l[i].f1) (out++[mW s v x (t+(i:Int)*v.bq) l[i].f0 l[i].f1]) (by omega) (by omega) (VU hS hV hx hE) (by rw [List.length_append,ho];rfl)
   rw [show ((i+1:Nat):Int) = (i:Int)+1 from by omega,Int.add_mul,Int.one_mul,← Int.add_assoc] at ih
   exact ih
  ·refine Eq.trans (if_neg hE) ?_
   rw [if_pos hE]
theorem LG (l:List iA) (hl:l.length≤100000):∀ (m i K:Nat),i+m = l.length→m+1≤K→oM.l0 K l l (i:Int) = some true
 |0,i,K+1,h,hk=>by rw [oM.l0,if_neg (by omega)]
 |m+1,i,K+1,h,hk=>by
  rw [oM.l0,if_pos (by omega),if_pos (by omega),if_pos (by omega),if_neg (by simp),fF (by omega)]
  exact LG l hl m (i+1) K (by omega) (by omega)
theorem Kn (v:nW) (hv:wZ v = true) (l:List gU) (hl:l.length≤64):∀ (m i K:Nat) (E:jK) (out:List jK),i+m = l.length→m+1≤K→out.length = i→(0≤E.f0∧E.f0≤E.f1∧E.f1≤1073741824)→
 bR.l0 K l out (i:Int) v.speed v.bq v.use.f0 v.use.f1 v.aV.f0 v.aV.f1 v.reserve E.f0 E.f1 = some (WC v (l.drop i) E (i:Int) out)
 |0,i,K+1,E,out,h,hk,ho,hE=>by
  rw [bR.l0,if_neg (by omega),List.drop_eq_nil_of_le (by omega)]
  unfold WC
  rw [show (l.length:Int) = (i:Int) from by omega]
 |m+1,i,K+1,E,out,h,hk,ho,hE=>by
  have hi:i < l.length:=by omega
  have e:bX l (i:Int) = l[i]:=by
   unfold bX
   simp [hi]
  have hus:=Gr hv l[i]
  have hres:=WE hv
  have htk:il.f v.speed v.bq v.use.f0 v.use.f1 v.aV.f0 v.aV.f1 v.reserve l[i].f0 l[i].f1 = some ((jG v l[i]).f0,(jG v l[i]).f1):=by
   unfold il.f jG
   split <;> rfl
  rw [List.drop_eq_getElem_cons hi]
  unfold WC
  rw [bR.l0,if_pos (by omega),if_pos (by omega),e,htk,aE]
  dsimp only
  rw [fF (x:=E.f0 - (jG v l[i]).f1) (by omega),fF (x:=E.f1 - (jG v l[i]).f0) (by omega),fF (x:=(i:Int)+1) (by omega)]
  by_cases hlow:E.f0 - (jG v l[i]).f1 < v.reserve
  ·rw [if_pos hlow,if_pos hlow]
  ·rw [if_neg hlow,if_neg hlow,if_pos (by omega)]
   exact Kn v hv l hl m (i+1) K ⟨E.f0 - (jG v l[i]).f1,E.f1 - (jG v l[i]).f0⟩ _ (by omega) (by omega) (by rw [List.length_append,ho];rfl) (by dsimp only;omega)
theorem I5 (v:nW) (hv:wZ v = true) (p:BX) (t:Int) (ht:0≤t∧t≤1073741824) (l:List iA) (hl:l.length≤64):∀ (m i K:Nat) (T acc:Int),i+m = l.length→m+3≤K→T = t+(i:Int)*v.bq→
 bP.l0 K t l acc (i:Int) v.speed v.bq v.use.f0 v.use.f1 v.aV.f0 v.aV.f1 v.reserve p.f0.f0.f0 p.f0.f0.f1 p.f0.f1.f0 p.f0.f1.f1 p.f1 p.f2 = some (Gx v.bq p (l.drop i) T acc)
 |0,i,K+1,T,acc,h,hk,hT=>by
  rw [bP.l0,if_neg (by omega),List.drop_eq_nil_of_le (by omega)];rfl
 |m+1,i,K+1,T,acc,h,hk,hT=>by
  have hi:i < l.length:=by omega
  have e:gM l (i:Int) = l[i]:=by
   unfold gM
   simp [hi]
  have hd:1≤v.bq∧v.bq≤131072:=by
   unfold wZ at hv
   simp only [Bool.and_eq_true,jg] at hv
   omega
  have hm:=je (a:=(i:Int)+1) (b:=v.bq) (m:=65) (n:=131072) (by omega) (by omega) (by omega) (by omega)
  have hT2:T+v.bq = t+((i:Int)+1)*v.bq:=by rw [hT,Int.add_mul,Int.one_mul];omega
  have ih:=fun aDO=>I5 v hv p t ht l hl m (i+1) K (T+v.bq) aDO (by omega) (by omega) (by rw [hT2];rfl)
  rw [List.drop_eq_getElem_cons hi]
  unfold Gx
  rw [bP.l0,if_pos (by omega),fF (x:=(i:Int)+1) (by omega),fF (x:=((i:Int)+1)*v.bq) (by omega),fF (x:=t+((i:Int)+1)*v.bq) (by omega),e,← hT2,ahA _ _ K (by omega),aE,if_pos (show 0≤(i:Int) by omega),Ez]
  by_cases h1:p.f1≤T+v.bq
  ·rw [if_pos h1]
   by_cases h2:T+v.bq≤p.f2
   ·rw [if_pos h2,if_pos ⟨h1,h2⟩]
    exact ih _
   ·rw [if_neg h2,if_neg (fun q=>h2 q.2)]
    exact ih _
  ·rw [if_neg h1,if_neg (fun q=>h1 q.1)]
   exact ih _
theorem afP (p:BX):gD.f p.f0.f0.f0 p.f0.f0.f1 p.f0.f1.f0 p.f0.f1.f1 p.f1 p.f2 = some (AR p):=by
 unfold gD.f AR
 rw [alT,aE]
 cases XI p.f0 with
 |false=>rfl
 |true =>
  rw [if_pos rfl]
  by_cases h1:p.f1 ≥ 0
  ·rw [if_pos h1,decide_eq_true (show 0≤p.f1 from h1)]
   by_cases h2:p.f1≤p.f2
   ·rw [if_pos h2,decide_eq_true h2];rfl
   ·rw [if_neg h2,decide_eq_false h2];rfl
  ·rw [if_neg h1,decide_eq_false (show ¬(0≤p.f1) from h1)];rfl
theorem Ya (s:lK) (v:nW) (x:iA) (t:Int) (e:jK) (l:List gU) (p:BX) (K:Nat) (hl:s.aC.length≤100000) (hk:s.aC.length+3≤K) (hk':2500≤K):
 iD.f K s.nx s.ny s.cell s.slot s.slots s.layers s.most s.bf s.aC v.speed v.bq v.use.f0 v.use.f1 v.aV.f0 v.aV.f1 v.reserve x.f0.f0 x.f0.f1 x.f1.f0 x.f1.f1 t e.f0 e.f1 l p.f0.f0.f0 p.f0.f0.f1 p.f0.f1.f0 p.f0.f1.f1 p.f1 p.f2 = some (WL s v x t e l p):=by
 unfold iD.f WL
 have hub:oL s v x t = if lW s v≠0 then lW s v else oK x t:=rfl
 rw [afO s v K hl hk,aE]
 by_cases h1:lW s v = 0
 ·rw [if_pos h1,Y7,aE]
  rw [if_neg (fun q=>q h1)] at hub
  rw [hub]
  by_cases h2:oK x t = 0
  ·rw [if_pos h2,if_neg (fun q=>q h2),Ar,aE]
   cases hb:si e.f0 e.f1 0 1073741824 with
   |false=>rw [if_neg (by decide),if_pos rfl]
   |true =>
    rw [if_pos rfl,if_neg (by decide),azg _ _ K (by omega),aE]
    by_cases h3:Ct l s.layers = 0
    ·rw [if_pos h3,if_neg (fun q=>q h3),afP,aE]
     cases hp:AR p with
     |false=>rw [if_neg (by decide),if_pos rfl]
     |true =>
      rw [if_pos rfl,if_neg (by decide)]
      obtain ⟨hS,hV⟩:=JG h1
      obtain ⟨hx,ht0,ht1⟩:=JH h2
      obtain ⟨afd,hall⟩:=abN h3
      have hv:=zt h1
      have hbb:=FI.1 hb
      have hrun:=I4 s v t l hS hV ⟨ht0,ht1⟩ afd hall l.length 0 K x [] (by omega) (by omega) hx rfl
      rw [show ((0:Nat):Int) = 0 from rfl,Int.zero_mul,Int.add_zero,List.drop_zero] at hrun
      have hen:=Kn v hv l afd l.length 0 K e [] (by omega) (by omega) rfl (by omega)
      rw [List.drop_zero,show ((0:Nat):Int) = 0 from rfl] at hen
      have hrl:=abV s v l x t 0 []
      simp only [List.length_nil,Nat.zero_add] at hrl
      have hfe:=I5 v hv p t ⟨ht0,ht1⟩ (rF s v l x t 0 []).1 (by omega) (rF s v l x t 0 []).1.length 0 K t 0 (by omega) (by omega) (by simp)
      rw [List.drop_zero] at hfe
      unfold gH.f dw.f
      rw [hrun,aE]
      by_cases h4:(rF s v l x t 0 []).2.2 = 0
      ·rw [if_pos h4,if_neg (fun q=>q h4)]
       unfold bR.f
       refine Eq.trans (congrArg (fun o=>Option.bind (Option.bind o _) _) hen) ?_
       rw [aE]
       by_cases h5:(WC v l e 0 []).2.2 = 0
       ·refine Eq.trans ?_ (congrArg some (if_neg (fun q=>q h5))).symm
        refine Eq.trans (congrArg (fun o=>Option.bind o _) (if_pos h5)) ?_
        unfold bP.f
        refine Eq.trans (congrArg (fun o=>Option.bind (Option.bind o _) _) hfe) ?_
        rw [aE]
        by_cases h6:Gx v.bq p (rF s v l x t 0 []).1 t 0 = 2
        ·refine Eq.trans ?_ (congrArg some (if_neg (fun q=>q h6))).symm
         exact congrArg (fun o=>Option.bind o _) (if_pos h6)
        ·refine Eq.trans ?_ (congrArg some (if_pos h6)).symm
         exact congrArg (fun o=>Option.bind o _) (if_neg h6)
       ·refine Eq.trans ?_ (congrArg some (if_pos h5)).symm
        exact congrArg (fun o=>Option.bind o _) (if_neg h5)
      ·rw [if_neg h4,if_pos h4,aE]
    ·rw [if_neg h3,if_pos h3];try rfl
  ·rw [if_neg h2,if_pos h2];try rfl
 ·rw [if_neg h1]
  rw [if_pos h1] at hub
  rw [hub,if_pos h1];try rfl
end Go.Proofs.Ytmhaiihjfgfaoaa.Gl
end
section
namespace Go.Proofs.Ytmhaiihjfgfaoaa.Pr
open Go.RowKit Go.Proofs.YtmhaiihjfgfaoaaW.bu Go.Proofs.YtmhaiihjfgfaoaaW.dB Go.Proofs.YtmhaiihjfgfaoaaW.ek
attribute [local go_sem] iq iw jq jr iy
mutual
def bA.l0:Nat→Int→Int→List (List (gU))→Int→Option ((List (List (gU))))
 |0,_,_,_,_=>none
 |k+1,x0,x1,x5,x6=>if x6 < x1 then (bA.l1 k x0 x1 x5 x6 ([]:List (List (gU))) 0) else (some x5)
def bA.l1:Nat→Int→Int→List (List (gU))→Int→List (List (gU))→Int→Option ((List (List (gU))))
 |0,_,_,_,_,_,_=>none
 |k+1,x0,x1,x5,x6,x7,x8=>if x8 < (x5.length:Int) then (bA.l2 k x0 x1 x5 x6 x7 x8 0) else (bA.l0 k x0 x1 x7 (an (x6+1)))
def bA.l2:Nat→Int→Int→List (List (gU))→Int→List (List (gU))→Int→Int→Option ((List (List (gU))))
 |0,_,_,_,_,_,_,_=>none
 |k+1,x0,x1,x5,x6,x7,x8,x9=>if x9 < 9 then (bA.l3 k x0 x1 x5 x6 x7 x8 x9 0) else (bA.l1 k x0 x1 x5 x6 x7 (an (x8+1)))
def bA.l3:Nat→Int→Int→List (List (gU))→Int→List (List (gU))→Int→Int→Int→Option ((List (List (gU))))
 |0,_,_,_,_,_,_,_,_=>none
 |k+1,x0,x1,x5,x6,x7,x8,x9,M8=>if M8 < x0 then ((some (([]:List (gU)):List (gU))).bind fun afQ=>(if 0≤x8 then (if x8 < (x5.length:Int) then (if afQ.length+(wC x5 x8).length < 8796093022208 then ((some (afQ++(wC x5 x8):List (gU))).bind fun Xi=>(if Xi.length < 8796093022208 then (if x7.length < 5864062014805 then (bA.l3 k x0 x1 x5 x6 (x7++[(Xi++[(⟨x9,M8⟩:gU)])]) x8 x9 (an (M8+1))) else (none)) else (none))) else (none)) else (none)) else (none))) else (bA.l2 k x0 x1 x5 x6 x7 x8 (an (x9+1)))
end
def bA.f (k:Nat) (a0:Int) (a1:Int):Option ((List (List (gU)))):=bA.l0 k a0 a1 (([[]]:List (List (gU)))) 0
theorem bA.calls (k:Nat) (a0:Int) (a1:Int) (r:List (List (gU))) (w:ao) (h:bA.f k a0 a1 = some r):
 Calls Try.prog 110 #[Z ab a0,Z ab a1] w fun e w'=>∃ QH:Value,e = .returned (QH)∧Kd.S (Kd.slice 33 yn) 49 w' w.heap.size (fun _=>True) QH r∧Below w.heap.size w w':=by
 have E9:=Try.underlying33
 have HB:=af.mk (Below.refl w.heap.size w)
 have H:(bA.l0 k a0 a1 (([[]]:List (List (gU)))) 0) = some r:=h
 clear h
 obtain ⟨aMv,afR⟩:∃ y_:List (List (gU)),y_ = (([[]]:List (List (gU)))):=⟨_,rfl⟩
 replace H:(bA.l0 k a0 a1 aMv 0) = some r:=by first|(rw [afR];with_reducible exact H)|(have yu:=(aE _ _).symm.trans H;rw [afR];with_reducible exact yu)|(have yu:=(aE _ _).symm.trans H;with_reducible exact yu)|with_reducible exact H|(rw [afR];exact H)|exact H
 have aBx:=af.mk afR
 clear afR
 have H':=af.mk H
 clear H
 go_enter Try.func110,Try.ntmps110
 go_wp2_with (first|((with_reducible refine av (N:=11) rfl ?_);refine Kd.aE3 (Kd.slice 33 yn) _ 49 (by rfl) (N:=11) (by rfl) (xs:=([[]]:List (List (gU)))) (inner:=[.slice none 0 0]) (ok:=fun _=>True) (okp:=fun _=>True) fU (by exact (lV.one (show Kd.M (Kd.slice 33 yn) _ _ _ [] [.slice none 0 0] from ⟨_,rfl,Kd.Na _ _ _ _ _⟩) (lV.none _ _))) (fun _ hk=>hk) trivial (Below.refl _ _) (Nat.le_refl _) (by simp) ?_;intro a6T w3 ho4 hb Jn oC;clear Jn oC;(first|rw [← aBx.out] at ho4|(simp only [Int.reduceToNat] at ho4;rw [← aBx.out] at ho4));have aMx:=af.mk (Kd.ahJ ho4 (fM gp));replace HB:=dz HB hb;clear hb ho4))
 go_loopg [5,6] k (fun kq v5 v6 w'=>∃ (fe:List (List (gU))) (rG:Int),v6 = Z ab rG∧af (bA.l0 kq a0 a1 fe rG = some r)∧af (kq≤k)∧af (Kd.S (Kd.slice 33 yn) 49 w' w.heap.size (fun _=>True) v5 fe)∧af (Below w.heap.size w w'))
 case atStart=>exact ⟨(aMv),(0),om,H',⟨Nat.le_refl _⟩,⟨by (with_reducible repeat (first|apply Kd.Dy|apply Kd.Dz|apply Kd.Jv));exact aMx.out⟩,⟨gp⟩⟩
 case round =>
  clear H'
  try clear c1
  try clear p2
  obtain ⟨fe,rG,rfl,HA,Cj,EZ,HB⟩:=hrel
  cases gk with
  |zero=>exact absurd HA.out (by simp [bA.l0])
  |succ k1 =>
   have H:=HA.out
   clear HA
   simp only [bA.l0] at H
   by_cases c5:rG < a1
   ·rw [if_pos c5] at H
    have yt:decide (rG < a1) = true:=decide_eq_true c5
    clear c5
    have H':=af.mk H
    clear H
    go_wp2
    go_loopg [7,8] k1 (fun kq v7 v8 w'=>∃ (asc:List (List (gU))) (xR:Int),v8 = Z ab xR∧af (bA.l1 kq a0 a1 fe rG asc xR = some r)∧af (kq≤k1)∧af (Kd.S (Kd.slice 33 yn) 49 w' w.heap.size (fun k_=>some k_≠(v7:Value).ownBlock) u5 fe)∧af (Kd.S (Kd.slice 33 yn) 49 w' w.heap.size (fun k_=>some k_≠(u5:Value).ownBlock) v7 asc)∧af (Below w.heap.size w w'))
    case atStart=>exact ⟨(([]:List (List (gU)))),(0),om,H',⟨Nat.le_refl _⟩,⟨by (with_reducible repeat (first|apply Kd.Dy|apply Kd.Dz|apply Kd.Jv));exact Kd.P6 EZ.out (fun _ hk=>(by simp [Value.ownBlock]))⟩,⟨by first|exact Kd.azB _ _ _ _ _|exact Kd.aE6 _ _ _ _ _|exact Kd.aE7 _ _ _ _ _|exact Kd.aE8 _ _ _ _ _|exact Kd.Na _ _ _ _ _⟩,⟨gp⟩⟩
    case round =>
     clear H'
     try clear c1
     try clear p2
     try clear c5
     try clear yt
     try clear p2
     obtain ⟨asc,xR,rfl,HA,HK2,EZ,P8,HB⟩:=hrel
     cases gk with
     |zero=>exact absurd HA.out (by simp [bA.l1])
     |succ k2 =>
      have H:=HA.out
      clear HA
      simp only [bA.l1] at H
      by_cases c6:xR < (fe.length:Int)
      ·rw [if_pos c6] at H
       have Du:decide (xR < (fe.length:Int)) = true:=decide_eq_true c6
       clear c6
       have H':=af.mk H
       clear H
       obtain ⟨Ao7,co7,eo7⟩:=Kd.Zg EZ.out
       subst eo7
       go_wp2
       go_loopg [7,9] k2 (fun kq v7 v9 w'=>∃ (ase:List (List (gU))) (Jq:Int),v9 = Z ab Jq∧af (bA.l2 kq a0 a1 fe rG ase xR Jq = some r)∧af (kq≤k2)∧af (Kd.S (Kd.slice 33 yn) 49 w' w.heap.size (fun k_=>some k_≠(v7:Value).ownBlock) (.slice Ao7 fe.length co7) fe)∧af (Kd.S (Kd.slice 33 yn) 49 w' w.heap.size (fun k_=>some k_≠((.slice Ao7 fe.length co7):Value).ownBlock) v7 ase)∧af (Below w.heap.size w w'))
       case atStart=>exact ⟨(asc),(0),om,H',⟨Nat.le_refl _⟩,⟨Zl⟩,⟨agj⟩,⟨gp⟩⟩
       case round =>
        clear H'
        try clear c1
        try clear p2
        try clear c5
        try clear yt
        try clear c6
        try clear Du
        try clear p2
        obtain ⟨ase,Jq,rfl,HA,HK3,EZ,P8,HB⟩:=hrel
        cases gk with
        |zero=>exact absurd HA.out (by simp [bA.l2])
        |succ k3 =>
         have H:=HA.out
         clear HA
         simp only [bA.l2] at H
         by_cases c8:Jq < 9
         ·rw [if_pos c8] at H
          have GJ:decide (Jq < 9) = true:=decide_eq_true c8
          clear c8
          have H':=af.mk H
          clear H
          go_wp2
          go_loopg [7,10] k3 (fun kq v7 v10 w'=>∃ (Rm:List (List (gU))) (Au:Int),v10 = Z ab Au∧af (bA.l3 kq a0 a1 fe rG Rm xR Jq Au = some r)∧af (kq≤k3)∧af (Kd.S (Kd.slice 33 yn) 49 w' w.heap.size (fun k_=>some k_≠(v7:Value).ownBlock) (.slice Ao7 fe.length co7) fe)∧af (Kd.S (Kd.slice 33 yn) 49 w' w.heap.size (fun k_=>some k_≠((.slice Ao7 fe.length co7):Value).ownBlock) v7 Rm)∧af (Below w.heap.size w w'))
          case atStart=>exact ⟨(ase),(0),om,H',⟨Nat.le_refl _⟩,⟨Zl⟩,⟨agj⟩,⟨gp⟩⟩
          case round =>
           clear H'
           try clear c1
           try clear p2
           try clear c5
           try clear yt
           try clear c6
           try clear Du
           try clear c8
           try clear GJ
           try clear p2
           obtain ⟨Rm,Au,rfl,HA,HK4,EZ,P8,HB⟩:=hrel
           cases gk with
           |zero=>exact absurd HA.out (by simp [bA.l3])
           |succ k4 =>
            have H:=HA.out
            clear HA
            simp only [bA.l3] at H
            by_cases c9:Au < a0
            ·rw [if_pos c9] at H
             have JM:decide (Au < a0) = true:=decide_eq_true c9
             clear c9
             obtain ⟨afQ,afS⟩:∃ y_:List (gU),y_ = (([]:List (gU))):=⟨_,rfl⟩
             replace H:(if 0≤xR then (if xR < (fe.length:Int) then (if afQ.length+(wC fe xR).length < 8796093022208 then ((some (afQ++(wC fe xR):List (gU))).bind fun Xi=>(if Xi.length < 8796093022208 then (if Rm.length < 5864062014805 then (bA.l3 k4 a0 a1 fe rG (Rm++[(Xi++[(⟨Jq,Au⟩:gU)])]) xR Jq (an (Au+1))) else (none)) else (none))) else (none)) else (none)) else (none)) = some r:=by first|(rw [afS];with_reducible exact H)|(have yu:=(aE _ _).symm.trans H;rw [afS];with_reducible exact yu)|(have yu:=(aE _ _).symm.trans H;with_reducible exact yu)|with_reducible exact H|(rw [afS];exact H)|exact H
             have aBz:=af.mk afS
             clear afS
             by_cases c10:0≤xR
             ·rw [if_pos c10] at H
              have Cs:decide (0≤xR) = true:=decide_eq_true c10
              clear c10
              by_cases c11:xR < (fe.length:Int)
              ·rw [if_pos c11] at H
               have I9:decide (xR < (fe.length:Int)) = true:=decide_eq_true c11
               clear c11
               by_cases c12:afQ.length+(wC fe xR).length < 8796093022208
               ·rw [if_pos c12] at H
                have aoB:=af.mk c12
                clear c12
                obtain ⟨Xi,afT⟩:∃ y_:List (gU),y_ = (afQ++(wC fe xR)):=⟨_,rfl⟩
                replace H:(if Xi.length < 8796093022208 then (if Rm.length < 5864062014805 then (bA.l3 k4 a0 a1 fe rG (Rm++[(Xi++[(⟨Jq,Au⟩:gU)])]) xR Jq (an (Au+1))) else (none)) else (none)) = some r:=by first|(rw [afT];with_reducible exact H)|(have yu:=(aE _ _).symm.trans H;rw [afT];with_reducible exact yu)|(have yu:=(aE _ _).symm.trans H;with_reducible exact yu)|with_reducible exact H|(rw [afT];exact H)|exact H
                have aMy:=af.mk afT
                clear afT
                by_cases c13:Xi.length < 8796093022208
                ·rw [if_pos c13] at H
                 have apX:=af.mk c13
                 clear c13
                 obtain ⟨ahE,afU⟩:∃ y_:List (gU),y_ = (Xi++[(⟨Jq,Au⟩:gU)]):=⟨_,rfl⟩
                 replace H:(if Rm.length < 5864062014805 then (bA.l3 k4 a0 a1 fe rG (Rm++[ahE]) xR Jq (an (Au+1))) else (none)) = some r:=by first|(rw [afU];with_reducible exact H)|(have yu:=(aE _ _).symm.trans H;rw [afU];with_reducible exact yu)|(have yu:=(aE _ _).symm.trans H;with_reducible exact yu)|with_reducible exact H|(rw [afU];exact H)|exact H
                 have aMz:=af.mk afU
                 clear afU
                 by_cases c14:Rm.length < 5864062014805
                 ·rw [if_pos c14] at H
                  have aMA:=af.mk c14
                  clear c14
                  obtain ⟨aMB,afV⟩:∃ y_:List (List (gU)),y_ = (Rm++[ahE]):=⟨_,rfl⟩
                  replace H:(bA.l3 k4 a0 a1 fe rG aMB xR Jq (an (Au+1))) = some r:=by first|(rw [afV];with_reducible exact H)|(have yu:=(aE _ _).symm.trans H;rw [afV];with_reducible exact yu)|(have yu:=(aE _ _).symm.trans H;with_reducible exact yu)|with_reducible exact H|(rw [afV];exact H)|exact H
                  have aMC:=af.mk afV
                  clear afV
                  have H':=af.mk H
                  clear H
                  go_wp2_with (first|((with_reducible refine av (N:=33) rfl ?_);refine Kd.z8 yn _ 33 (by rfl) (N:=33) (by rfl) (xs:=([]:List (gU))) (inner:=[]) (ok:=fun _=>True) (okp:=fun _=>True) fU (by exact (lV.none _ _)) (fun _ hk=>hk) trivial (Below.refl _ _) (Nat.le_refl _) (by simp) ?_;intro aZJ w15 ahF hb Jn oC;clear Jn oC;(first|rw [← aBz.out] at ahF|(simp only [Int.reduceToNat] at ahF;rw [← aBz.out] at ahF));have aBA:=af.mk (Kd.kv ahF (fM gp));replace EZ:=af.mk (Kd.acZ Zl (Kd.PV ahF) hb);replace P8:=af.mk (Kd.acZ agj (Kd.PV ahF) hb);replace HB:=dz HB hb;clear hb ahF;have azi:0≤(xR:Int):=of_decide_eq_true nM;have azj:xR < (fe.length:Int):=of_decide_eq_true nM;obtain ⟨RQ,aZK,aZL,aZM,azk,alU,alV⟩:=aB7 (Kd.Vp EZ.out).2.2 xR azi azj;cases aZM;obtain ⟨a4u,aEu,aEv,asf⟩:=Kd.azC EZ.out [] xR azi (by first|exact azj|exact of_decide_eq_true nM|(have e_:=(Kd.Vp EZ.out).1;omega));obtain ⟨aVm,rfl,acL⟩:=aEv;have PM:=asf 0 _ rfl;rw [Nat.add_zero,show ((Kd.slice 33 yn)).sz = 1 from rfl,Nat.mul_one] at PM;replace PM:=bh (PM.symm.trans azk);rw [PM] at acL;have BU:=af.mk (show Kd.R yn 33 _ _ _ _ (wC fe xR) from acL);clear PM acL;clear asf aEu;have alW:=af.mk alV;have aVn:=af.mk alU;clear alV alU;replace azi:=eq_true azi;replace azj:=eq_true azj)|((with_reducible refine pz (b:=.append) (xs:=#[.tmp 33,.tmp 37]) rfl ?_);at_builtin;refine Kd.Xv yn (w0:=w) w.heap.size rfl (.tmp 33) (.tmp 37) 49 33 (.agg #[(Z ab 0),(Z ab 0)]) 16 rfl Try.underlying49 Vt rfl (by decide) (by omega) aZJ afQ (wC fe xR) _ _ _ (fun _=>True) (fun _=>False) rfl rfl ?aO ?aR (fun _ _ h=>h) (fun _ h=>h.elim) ?aF ?aB ?aS ?aL ?_;(case aR=>repeat (first|exact (by repeat (first|(with_reducible exact alW.out)|(with_reducible refine Kd.bJ ?_ _)|(with_reducible refine Kd.bK ?_ _)|(with_reducible refine Kd.bZ ?_)|exact alW.out))|(with_reducible refine Kd.bJ ?_ _)|(with_reducible refine Kd.bK ?_ _)|(with_reducible refine Kd.bZ ?_)));(case aB=>exact gp);(case aF=>exact (fun _ _=>trivial));(case aO=>exact (by (with_reducible repeat (first|apply Kd.ky|apply Kd.jY|apply Kd.jP));exact aBA.out));(case aS=>exact (fM gp));(case aL=>have:=aoB.out;omega);intro aZN DC ho hb hg hat;rw [← aMy.out] at ho;have vv:=af.mk (Kd.Ng (ok:=(fun k_=>some k_≠(u7:Value).ownBlock)) Zl hg hat);have vw:=af.mk (Kd.Ng (ok:=(fun k_=>some k_≠(.slice (some RQ) fe.length co7:Value).ownBlock)) agj hg hat);have vz:=af.mk (Kd.Si (ok:=(fun k_=>some k_≠(.slice (some RQ) fe.length co7:Value).ownBlock∧some k_≠(u7:Value).ownBlock)) (by (with_reducible repeat (first|apply Kd.ky|apply Kd.jY|apply Kd.jP));exact Kd.jX BU.out (fun _ hk=>⟨⟨hk.2,hk.1.1⟩,hk.1.2⟩)) hg hat);have vB:=af.mk (hb);have xU:=af.mk (ho);clear EZ;clear P8;clear BU;clear HB;clear aBA;have EZ:=vv;have P8:=vw;have BU:=vz;have HB:=vB;have aBB:=xU;clear vv vw vz vB xU;clear ho hb hg hat)|((with_reducible refine pz (b:=.append) (xs:=#[.tmp 38,.tmp 42]) rfl ?_);at_builtin;refine Kd.Cg yn (w0:=w) w.heap.size rfl (.tmp 38) (.tmp 42) 49 33 (.agg #[(Z ab 0),(Z ab 0)]) 16 rfl Try.underlying49 Vt rfl (by decide) (by omega) aZN Xi (⟨Jq,Au⟩:gU) [Z ab Jq,Z ab Au] (fun _=>True) (fun _=>False) rfl rfl ?aP (fun _ hk=>hk.elim) ?aF ?aO ?aB ?aS ?aL ?_;(case aP=>exact ahK _ _ _ (⟨Jq,Au⟩:gU));(case aB=>exact gp);(case aF=>exact (fun _ _=>trivial));(case aO=>exact (by (with_reducible repeat (first|apply Kd.ky|apply Kd.jY|apply Kd.jP));exact aBB.out));(case aS=>exact (fM gp));(case aL=>have:=apX.out;omega);intro a6U w18 ho hb hg hat;rw [← aMz.out] at ho;have vv:=af.mk (Kd.Ng (ok:=(fun k_=>some k_≠(u7:Value).ownBlock)) Zl hg hat);have vw:=af.mk (Kd.Ng (ok:=(fun k_=>some k_≠(.slice (some RQ) fe.length co7:Value).ownBlock)) agj hg hat);have vz:=af.mk (Kd.Si (ok:=(fun k_=>some k_≠(.slice (some RQ) fe.length co7:Value).ownBlock∧some k_≠(u7:Value).ownBlock)) (by (with_reducible repeat (first|apply Kd.ky|apply Kd.jY|apply Kd.jP));exact BU.out) hg hat);have vB:=af.mk (hb);have xU:=af.mk (ho);clear EZ;clear P8;clear BU;clear HB;clear aBB;have EZ:=vv;have P8:=vw;have BU:=vz;have HB:=vB;have alX:=xU;clear vv vw vz vB xU;clear ho hb hg hat;obtain ⟨azl,azm,aZO⟩:=Kd.lM alX.out;subst aZO)|((with_reducible refine pz (b:=.append) (xs:=#[.tmp 32,.tmp 44]) rfl ?_);at_builtin;refine Kd.aob (Kd.slice 33 yn) (w0:=w) w.heap.size rfl (.tmp 32) (.tmp 44) 143 49 (.slice none 0 0) 24 rfl Try.underlying143 aB5 rfl (by decide) (by omega) u7 Rm ahE [.slice azl ahE.length azm] (fun k_=>some k_≠(.slice (some RQ) fe.length co7:Value).ownBlock) (fun k_=>some k_ = (.slice azl ahE.length azm:Value).ownBlock) rfl rfl ?aP (fun k_ hk_=>((Kd.jX (ok':=fun k_=>((fun k_=>some k_≠(.slice (some RQ) fe.length co7:Value).ownBlock)) k_∧some k_≠(u7:Value).ownBlock) (Kd.Nb (Kd.Nb (alX.out) (Kd.Sl EZ.out) (by decide)) (Kd.Sl P8.out) (by decide)) (fun k_ hk=>⟨hk.1.2,hk.2⟩))).1 k_ hk_.symm) ?aF ?aO ?aB ?aS ?aL ?_;(case aP=>exact Kd.aEX (Kd.jX (Kd.asy rfl (Kd.jX (ok':=fun k_=>((fun k_=>some k_≠(.slice (some RQ) fe.length co7:Value).ownBlock)) k_∧some k_≠(u7:Value).ownBlock) (Kd.Nb (Kd.Nb (alX.out) (Kd.Sl EZ.out) (by decide)) (Kd.Sl P8.out) (by decide)) (fun k_ hk=>⟨hk.1.2,hk.2⟩))) (fun _ h_=>h_)));(case aB=>exact gp);(case aF=>exact (fun k_ hk=>Kd.fresh' (Kd.aWk Zl) k_ hk));(case aO=>exact (by (with_reducible repeat (first|apply Kd.Dy|apply Kd.Dz|apply Kd.Jv));exact Kd.P6 P8.out (fun k_ hk=>⟨hk.1,fun e_=>hk.2 e_⟩)));(case aS=>exact (fM gp));(case aL=>have:=aMA.out;omega);intro a6W w19 ho hb hg hat;rw [← aMC.out] at ho;have vv:=af.mk (Kd.Ng (ok:=(fun k_=>some k_≠(.slice azl ahE.length azm:Value).ownBlock)) (by (with_reducible repeat (first|apply Kd.Dy|apply Kd.Dz|apply Kd.Jv));exact Kd.P6 EZ.out (fun _ hk=>⟨hk.2,hk.1⟩)) hg hat);have vw:=af.mk (Kd.Si (ok:=(fun k_=>some k_≠(.slice (some RQ) fe.length co7:Value).ownBlock∧some k_≠(.slice azl ahE.length azm:Value).ownBlock)) (by (with_reducible repeat (first|apply Kd.ky|apply Kd.jY|apply Kd.jP));exact Kd.jX BU.out (fun _ hk=>⟨⟨hk.1.1,hk.2⟩,hk.1.2⟩)) hg hat);have vz:=af.mk (hb);have vB:=af.mk (ho);clear EZ;clear BU;clear HB;clear P8;clear alX;have EZ:=vv;have BU:=vw;have HB:=vz;have aMD:=vB;clear vv vw vz vB;clear ho hb hg hat))
                  go_roundg k4
                  case measure=>have:=Cj.out;have:=HK2.out;have:=HK3.out;have:=HK4.out;omega
                  case rel=>exact ⟨(aMB),(an (Au+1)),om,H',⟨by have:=Cj.out;have:=HK2.out;have:=HK3.out;have:=HK4.out;omega⟩,⟨by (with_reducible repeat (first|apply Kd.Dy|apply Kd.Dz|apply Kd.Jv));exact Kd.P6 EZ.out (fun _ hk=>hk.2)⟩,⟨by (with_reducible repeat (first|apply Kd.Dy|apply Kd.Dz|apply Kd.Jv));exact aMD.out⟩,⟨gp⟩⟩
                 ·rw [if_neg c14] at H
                  exact absurd H (by simp)
                ·rw [if_neg c13] at H
                 exact absurd H (by simp)
               ·rw [if_neg c12] at H
                exact absurd H (by simp)
              ·rw [if_neg c11] at H
               exact absurd H (by simp)
             ·rw [if_neg c10] at H
              exact absurd H (by simp)
            ·rw [if_neg c9] at H
             have JM:decide (Au < a0) = false:=decide_eq_false c9
             clear c9
             have H':=af.mk H
             clear H
             go_wp2
             go_roundg k4
             case measure=>have:=Cj.out;have:=HK2.out;have:=HK3.out;have:=HK4.out;omega
             case rel=>exact ⟨(Rm),(an (Jq+1)),om,H',⟨by have:=Cj.out;have:=HK2.out;have:=HK3.out;have:=HK4.out;omega⟩,⟨Zl⟩,⟨agj⟩,⟨gp⟩⟩
         ·rw [if_neg c8] at H
          have GJ:decide (Jq < 9) = false:=decide_eq_false c8
          clear c8
          have H':=af.mk H
          clear H
          go_wp2
          go_roundg k3
          case measure=>have:=Cj.out;have:=HK2.out;have:=HK3.out;omega
          case rel=>exact ⟨(ase),(an (xR+1)),om,H',⟨by have:=Cj.out;have:=HK2.out;have:=HK3.out;omega⟩,⟨Zl⟩,⟨agj⟩,⟨gp⟩⟩
      ·rw [if_neg c6] at H
       have Du:decide (xR < (fe.length:Int)) = false:=decide_eq_false c6
       clear c6
       have H':=af.mk H
       clear H
       obtain ⟨a6X,a6Y,aZP⟩:=Kd.Zg EZ.out
       subst aZP
       go_wp2
       go_roundg k2
       case measure=>have:=Cj.out;have:=HK2.out;omega
       case rel=>exact ⟨(asc),(an (rG+1)),om,H',⟨by have:=Cj.out;have:=HK2.out;omega⟩,⟨by (with_reducible repeat (first|apply Kd.Dy|apply Kd.Dz|apply Kd.Jv));exact Kd.P6 P8.out (fun _ hk=>trivial)⟩,⟨gp⟩⟩
   ·rw [if_neg c5] at H
    have yt:decide (rG < a1) = false:=decide_eq_false c5
    clear c5
    obtain rfl:=bh H
    go_wp2
    go_ret
    exact ⟨_,mJ,Zl,gp⟩
end Go.Proofs.Ytmhaiihjfgfaoaa.Pr
end
section
namespace Go.Proofs.Ytmhaiihjfgfaoaa.Gl
open Go.RowKit Go.Proofs.YtmhaiihjfgfaoaaW.bu Go.Proofs.YtmhaiihjfgfaoaaW.dB Go.Proofs.Ytmhaiihjfgfaoaa.Pr
def RS (s:lK) (v:nW) (x:iA) (t:Int) (e:jK) (l:List gU) (p:BX):Int :=
 if (rF s v l x t 0 []).2.2≠0 then (rF s v l x t 0 []).2.2 else if (WC v l e 0 []).2.2≠0 then (WC v l e 0 []).2.2 else if Gx v.bq p (rF s v l x t 0 []).1 t 0≠2 then 20 else 0
theorem I6 {s:lK} {v:nW} {x:iA} {t:Int} {e:jK} {l:List gU} {p:BX}:RS s v x t e l p = 0↔yj s v p l x t e.f0 false = true:=by
 have hg:=YW (s:=s) (v:=v) (p:=p) l x t e false 0 0 [] [] t 0 (by decide) (by decide) rfl (by simp)
 unfold RS
 rw [hg]
 by_cases h1:(rF s v l x t 0 []).2.2 = 0
 ·rw [if_neg (fun q=>q h1)]
  by_cases h2:(WC v l e 0 []).2.2 = 0
  ·rw [if_neg (fun q=>q h2)]
   by_cases h3:Gx v.bq p (rF s v l x t 0 []).1 t 0 = 2
   ·rw [if_neg (fun q=>q h3)]
    exact ⟨fun _=>⟨h1,h2,h3⟩,fun _=>rfl⟩
   ·rw [if_pos h3]
    exact ⟨(fun h=>by cases h),fun h=>absurd h.2.2 h3⟩
  ·rw [if_pos h2]
   exact ⟨fun h=>absurd h h2,fun h=>absurd h.2.1 h2⟩
 ·rw [if_pos h1]
  exact ⟨fun h=>absurd h h1,fun h=>absurd h.1 h1⟩
theorem asg (s:lK) (v:nW) (x:iA) (t:Int) (e:jK) (l:List gU) (p:BX) (K:Nat) (hS:VS s) (hV:Fz v) (hv:wZ v = true) (hx:vK x) (ht:0≤t∧t≤1073741824) (hb:0≤e.f0∧e.f0≤e.f1∧e.f1≤1073741824) (hc:Ct l s.layers = 0) (hk:s.aC.length+3≤K) (hk':2500≤K):
 gH.f K s.nx s.ny s.cell s.slot s.slots s.layers s.most s.bf s.aC v.speed v.bq v.use.f0 v.use.f1 v.aV.f0 v.aV.f1 v.reserve x.f0.f0 x.f0.f1 x.f1.f0 x.f1.f1 t e.f0 e.f1 l p.f0.f0.f0 p.f0.f0.f1 p.f0.f1.f0 p.f0.f1.f1 p.f1 p.f2 = some (RS s v x t e l p):=by
 unfold RS
 obtain ⟨afd,hall⟩:=abN hc
 have hrun:=I4 s v t l hS hV ht afd hall l.length 0 K x [] (by omega) (by omega) hx rfl
 rw [show ((0:Nat):Int) = 0 from rfl,Int.zero_mul,Int.add_zero,List.drop_zero] at hrun
 have hen:=Kn v hv l afd l.length 0 K e [] (by omega) (by omega) rfl (by omega)
 rw [List.drop_zero,show ((0:Nat):Int) = 0 from rfl] at hen
 have hrl:=abV s v l x t 0 []
 simp only [List.length_nil,Nat.zero_add] at hrl
 have hfe:=I5 v hv p t ht (rF s v l x t 0 []).1 (by omega) (rF s v l x t 0 []).1.length 0 K t 0 (by omega) (by omega) (by simp)
 rw [List.drop_zero,show ((0:Nat):Int) = 0 from rfl] at hfe
 unfold gH.f dw.f
 rw [hrun,aE]
 by_cases h4:(rF s v l x t 0 []).2.2 = 0
 ·rw [if_pos h4,if_neg (fun q=>q h4)]
  unfold bR.f
  rw [hen,aE]
  by_cases h5:(WC v l e 0 []).2.2 = 0
  ·rw [if_pos h5,if_neg (fun q=>q h5)]
   unfold bP.f
   rw [hfe,aE]
   by_cases h6:Gx v.bq p (rF s v l x t 0 []).1 t 0 = 2
   ·rw [if_pos h6,if_neg (fun q=>q h6)]
   ·rw [if_neg h6,if_pos h6]
  ·rw [if_neg h5,if_pos h5]
 ·rw [if_neg h4,if_pos h4]
def rbF (s:lK) (v:nW) (x:iA) (t:Int) (e:jK) (p:BX) (b l:List gU):List gU:=if (b = []∨mU v l < mU v b)∧RS s v x t e l p = 0 then l else b
def rbV (s:lK) (v:nW) (x:iA) (t:Int) (e:jK) (p:BX):Nat→List gU
 |0=>[]
 |n+1=>(lY s (n+1)).foldl (rbF s v x t e p) (rbV s v x t e p n)
def Fp (s:lK) (v:nW) (x:iA) (t:Int) (e:jK) (p:BX) (d:Int):List gU × Int × Int :=
 if lW s v≠0 then ([],0,lW s v) else if oK x t≠0 then ([],0,oK x t) else if si e.f0 e.f1 0 1073741824 = false then ([],0,2) else if AR p = false then ([],0,2) else if d < 1 then ([],0,3) else if 3 < d then ([],0,3)
 else if rbV s v x t e p d.toNat = [] then ([],0,15) else (rbV s v x t e p d.toNat,mU v (rbV s v x t e p d.toNat),0)
def asB (v:nW) (b:List gU):List gU × Int:=(b,if b = [] then -1 else mU v b)
theorem alZ {s:lK} {v:nW} {x:iA} {t:Int} {e:jK} {p:BX} (hv:wZ v = true):∀ (L:List (List gU)) (b:List gU),(∀ l ∈ L,l≠[])→L.foldl (Jh (fun l=>yj s v p l x t e.f0 false) (mU v)) (asB v b) = asB v (L.foldl (rbF s v x t e p) b)
 |[],b,_=>rfl
 |l :: L,b,h=>by
  rw [List.foldl_cons,List.foldl_cons]
  have hl:=h l List.mem_cons_self
  have e1:Jh (fun l=>yj s v p l x t e.f0 false) (mU v) (asB v b) l = asB v (rbF s v x t e p b l):=by
   unfold Jh rbF
   have hc:=BS hv b
   by_cases hb:b = []
   ·subst hb
    by_cases hg:yj s v p l x t e.f0 false = true
    ·rw [if_pos ⟨hg,.inl (by unfold asB;rw [if_pos rfl];decide)⟩,if_pos ⟨.inl rfl,I6.2 hg⟩]
     unfold asB
     rw [if_neg hl]
    ·rw [if_neg (fun q=>hg q.1),if_neg (fun q=>hg (I6.1 q.2))]
   ·have e2:(asB v b).2 = mU v b:=by unfold asB;rw [if_neg hb]
    by_cases hq:yj s v p l x t e.f0 false = true∧mU v l < mU v b
    ·rw [if_pos ⟨hq.1,.inr (by rw [e2];exact hq.2)⟩,if_pos ⟨.inr hq.2,I6.2 hq.1⟩]
     unfold asB
     rw [if_neg hl]
    ·rw [if_neg (fun q=>hq ⟨q.1,by have:=q.2;rw [e2] at this;omega⟩),if_neg (fun q=>hq ⟨I6.1 q.2,q.1.resolve_left hb⟩)]
  rw [e1]
  exact alZ hv L _ (fun l' hl'=>h l' (List.mem_cons_of_mem _ hl'))
theorem acM {s:lK} {v:nW} {x:iA} {t:Int} {e:jK} {p:BX} (hv:wZ v = true):∀ n,AU s v p x t e n = asB v (rbV s v x t e p n)
 |0=>rfl
 |n+1=>by
  have hb:AU s v p x t e (n+1) = (lY s (n+1)).foldl (Jh (fun l=>yj s v p l x t e.f0 false) (mU v)) (AU s v p x t e n):=by
   rw [AU,YV hv]
   simp only [List.nil_append,List.length_nil,List.drop_zero,Int.zero_add]
   rw [show (fun l:List gU=>l) = id from rfl,List.map_id]
  rw [hb,acM hv n,alZ hv _ _ (fun l hl=>by
   have:=((zu _ _).1 hl).1
   intro h0
   rw [h0] at this
   cases this)]
  rfl
theorem anI (s:lK) (v:nW) (x:iA) (t:Int) (e:jK) (p:BX) (d:Int):Ms s v x t e p d = Fp s v x t e p d:=by
 have hbg:oL s v x t = if lW s v≠0 then lW s v else oK x t:=rfl
 unfold Fp
 by_cases h1:lW s v = 0
 case neg =>
  rw [if_pos h1] at hbg ⊢
  exact vX (by unfold JW;rw [hbg,if_pos h1]) h1
 rw [if_neg (fun q=>q h1)] at hbg ⊢
 by_cases h2:oK x t = 0
 case neg =>
  rw [if_pos h2]
  exact vX (by unfold JW;rw [hbg,if_pos h2]) h2
 rw [if_neg (fun q=>q h2)]
 rw [h2] at hbg
 have hE:JW s v x t e p d = if si e.f0 e.f1 0 1073741824 = false then 2 else if AR p = false then 2 else if d < 1 then 3 else if 3 < d then 3 else if (AU s v p x t e d.toNat).2 < 0 then 15 else 0:=by unfold JW;rw [hbg,if_neg (fun q=>q rfl)]
 by_cases h3:si e.f0 e.f1 0 1073741824 = false
 ·rw [if_pos h3];exact vX (by rw [hE,if_pos h3]) (by decide)
 rw [if_neg h3]
 by_cases h4:AR p = false
 ·rw [if_pos h4];exact vX (by rw [hE,if_neg h3,if_pos h4]) (by decide)
 rw [if_neg h4]
 by_cases h5:d < 1
 ·rw [if_pos h5];exact vX (by rw [hE,if_neg h3,if_neg h4,if_pos h5]) (by decide)
 rw [if_neg h5]
 by_cases h6:3 < d
 ·rw [if_pos h6];exact vX (by rw [hE,if_neg h3,if_neg h4,if_neg h5,if_pos h6]) (by decide)
 rw [if_neg h6]
 rw [if_neg h3,if_neg h4,if_neg h5,if_neg h6,acM (zt h1)] at hE
 have hb:=acM (s:=s) (x:=x) (t:=t) (e:=e) (p:=p) (zt h1) d.toNat
 have hc:=BS (zt h1) (rbV s v x t e p d.toNat)
 generalize rbV s v x t e p d.toNat = b at*
 by_cases h7:b = []
 ·rw [if_pos h7]
  exact vX (by rw [hE,if_pos (by unfold asB;rw [if_pos h7];exact (by decide:(-1:Int) < 0))]) (by decide)
 ·rw [if_neg h7]
  have h8:¬ (asB v b).2 < 0:=by unfold asB;rw [if_neg h7];dsimp only;omega
  unfold Ms afm
  rw [hE,if_neg h8,if_pos rfl,hb]
  unfold asB
  rw [if_neg h7]
theorem Ko (s:lK):∀ n,lY s (n+1) = (lY s n).flatMap fun l=>(uC s).map fun c=>l++[c]
 |0=>by
  simp only [lY,List.map_cons,List.map_nil,List.flatMap_cons,List.flatMap_nil,List.append_nil,List.nil_append]
  induction uC s with
  |nil=>rfl
  |cons a l ih=>rw [List.flatMap_cons,List.map_cons,ih];rfl
 |n+1=>by
  rw [show lY s (n+1+1) = (uC s).flatMap fun c=>(lY s (n+1)).map (c :: ·) from rfl]
  conv=>rhs;rw [show lY s (n+1) = (uC s).flatMap fun c=>(lY s n).map (c :: ·) from rfl]
  rw [List.flatMap_assoc]
  congr 1
  funext c
  rw [Ko s n,List.map_flatMap,List.flatMap_map]
  congr 1
  funext l
  rw [List.map_map]
  rfl
theorem PO (s:lK) (hl:1≤s.layers∧s.layers≤3):(uC s).length≤27:=by
 unfold uC Po ahs
 rw [List.length_flatMap]
 simp only [List.length_map,List.length_range]
 have:((List.range 9).map fun _=>s.layers.toNat).sum = 9*s.layers.toNat:=by simp [List.range_succ];omega
 omega
theorem Xj {α β:Type} (f:α→List β) (k:Nat):∀ l:List α,(∀ a,(f a).length = k)→(l.flatMap f).length = l.length*k
 |[],_=>by simp
 |a :: l,h=>by rw [List.flatMap_cons,List.length_append,h,Xj f k l h,List.length_cons,Nat.add_mul];omega
theorem Kq (s:lK) (hl:1≤s.layers∧s.layers≤3):∀ n,(lY s n).length = (uC s).length ^ n
 |0=>rfl
 |n+1=>by rw [Ko,Xj _ (uC s).length _ (fun l=>List.length_map _),Kq s hl n,Nat.pow_succ]
theorem acN (s:lK) (hl:1≤s.layers∧s.layers≤3) (n:Nat) (hn:n≤3):(lY s n).length≤20000:=by
 rw [Kq s hl]
 have h1:=Nat.le_trans (Nat.pow_le_pow_left (PO s hl) n) (Nat.pow_le_pow_right (by decide) hn)
 have h2:(27:Nat) ^ 3 = 19683:=by decide
 omega
theorem al0 {s:lK} {v:nW} {x:iA} {t:Int} {e:jK} {p:BX} (n:Nat):∀ (L:List (List gU)) (b:List gU),(∀ l ∈ L,l.length≤n)→b.length≤n→(L.foldl (rbF s v x t e p) b).length≤n
 |[],b,_,h=>h
 |l :: L,b,hL,h=>by
  rw [List.foldl_cons]
  refine al0 n L _ (fun l' hl'=>hL l' (List.mem_cons_of_mem _ hl')) ?_
  unfold rbF
  split
  ·exact hL l List.mem_cons_self
  ·exact h
theorem acO {s:lK} {v:nW} {x:iA} {t:Int} {e:jK} {p:BX}:∀ n,(rbV s v x t e p n).length≤n
 |0=>Nat.le_refl _
 |n+1=>al0 (n+1) _ _ (fun l hl=>by have:=((zu _ _).1 hl).1;omega) (Nat.le_trans (acO n) (Nat.le_succ _))
section
variable (s:lK) (hl:1≤s.layers∧s.layers≤3) (n:Int)
include hl
theorem pl3 (x5:List (List gU)) (x6:Int) (i:Nat) (l:List gU) (hi:x5[i]? = some l) (hll:l.length≤3) (h:Nat) (hh:h < 9):∀ (m j K:Nat) (base:List (List gU)),j+m = s.layers.toNat→base.length+27≤1000000→
 bA.l3 (K+m+1) s.layers n x5 x6 (base++(CL s.layers.toNat h j).map fun c=>l++[c]) (i:Int) (h:Int) (j:Int) = bA.l2 K s.layers n x5 x6 (base++(Po s.layers.toNat (h+1)).map fun c=>l++[c]) (i:Int) ((h+1:Nat):Int)
 |0,j,K,base,hj,hb=>by
  obtain rfl:j = s.layers.toNat:=by omega
  have hc:((h+1:Nat):Int) = (h:Int)+1:=by omega
  rw [Nat.add_zero,bA.l3,if_neg (by omega),II (x:=(h:Int)+1) (by omega),hc,← LC]
 |m+1,j,K,base,hj,hb=>by
  have hlt:i < x5.length:=(List.getElem?_eq_some_iff.1 hi).1
  have hrd:wC x5 (i:Int) = l:=by unfold wC;simp [List.getD_eq_getElem?_getD,hi]
  have hle:(CL s.layers.toNat h j).length≤27:=by
   have h1:=(Re (n:=s.layers.toNat) (m:=9) hh (show j≤s.layers.toNat by omega)).length_le
   have h2:=PO s hl
   unfold uC at h2
   omega
  have hc:((j+1:Nat):Int) = (j:Int)+1:=by omega
  rw [show K+(m+1)+1 = (K+m+1)+1 by omega,bA.l3,if_pos (by omega),aE,if_pos (by omega),if_pos (by omega),hrd,if_pos (by simp only [List.length_nil];omega),aE,List.nil_append,if_pos (by omega),if_pos (by rw [List.length_append,List.length_map];omega),II (x:=(j:Int)+1) (by omega),← hc,List.append_assoc]
  have:=pl3 x5 x6 i l hi hll h hh m (j+1) K base (by omega) hb
  rw [IK,List.map_append,List.map_singleton] at this
  exact this
theorem pl2 (x5:List (List gU)) (x6:Int) (i:Nat) (l:List gU) (hi:x5[i]? = some l) (hll:l.length≤3) (hx5:x5.length≤1000000):∀ (m h K:Nat) (base:List (List gU)),h+m = 9→base.length+27≤1000000→
 bA.l2 (K+m*(s.layers.toNat+2)+1) s.layers n x5 x6 (base++(Po s.layers.toNat h).map fun c=>l++[c]) (i:Int) (h:Int) = bA.l1 K s.layers n x5 x6 (base++(uC s).map fun c=>l++[c]) ((i+1:Nat):Int)
 |0,h,K,base,hh,hb=>by
  obtain rfl:h = 9:=by omega
  have hlt:i < x5.length:=(List.getElem?_eq_some_iff.1 hi).1
  have hc:((i+1:Nat):Int) = (i:Int)+1:=by omega
  rw [Nat.zero_mul,Nat.add_zero,bA.l2,if_neg (by omega),II (x:=(i:Int)+1) (by omega),hc]
  rfl
 |m+1,h,K,base,hh,hb=>by
  have e:K+(m+1)*(s.layers.toNat+2)+1 = ((K+m*(s.layers.toNat+2)+1)+s.layers.toNat+1)+1:=by rw [Nat.add_mul];omega
  have h3:=pl3 s hl n x5 x6 i l hi hll h (by omega) s.layers.toNat 0 (K+m*(s.layers.toNat+2)+1) base (by omega) hb
  rw [LB] at h3
  rw [e,bA.l2,if_pos (by omega)]
  exact h3.trans (pl2 x5 x6 i l hi hll hx5 m (h+1) K base (by omega) hb)
theorem pl1 (x5:List (List gU)) (x6:Int) (hll:∀ l ∈ x5,l.length≤3) (hx5:x5.length*27≤900000) (hn6:0≤x6∧x6≤3):∀ (m i K:Nat),i+m = x5.length→
 bA.l1 (K+m*(9*(s.layers.toNat+2)+2)+1) s.layers n x5 x6 ((x5.take i).flatMap fun l=>(uC s).map fun c=>l++[c]) (i:Int) = bA.l0 K s.layers n (x5.flatMap fun l=>(uC s).map fun c=>l++[c]) (x6+1)
 |0,i,K,h=>by
  rw [Nat.zero_mul,Nat.add_zero,bA.l1,if_neg (by omega),II (x:=x6+1) (by omega),List.take_of_length_le (by omega)]
 |m+1,i,K,h=>by
  have hi:i < x5.length:=by omega
  have e:K+(m+1)*(9*(s.layers.toNat+2)+2)+1 = ((K+m*(9*(s.layers.toNat+2)+2)+1)+9*(s.layers.toNat+2)+1)+1:=by rw [Nat.add_mul];omega
  have hbl:((x5.take i).flatMap fun l=>(uC s).map fun c=>l++[c]).length+27≤1000000:=by
   rw [Xj _ (uC s).length _ (fun l=>List.length_map _),List.length_take]
   have h1:=PO s hl
   have h2:=Nat.mul_le_mul (show min i x5.length≤x5.length by omega) h1
   omega
  have h2:=pl2 s hl n x5 x6 i x5[i] (List.getElem?_eq_getElem hi) (hll _ (List.getElem_mem hi)) (by omega) 9 0 (K+m*(9*(s.layers.toNat+2)+2)+1) _ (by omega) hbl
  rw [show Po s.layers.toNat 0 = [] from rfl,List.map_nil,List.append_nil,show ((0:Nat):Int) = 0 from rfl] at h2
  rw [e,bA.l1,if_pos (by omega)]
  refine h2.trans ?_
  have:=pl1 x5 x6 hll hx5 hn6 m (i+1) K (by omega)
  rw [List.take_succ_eq_append_getElem hi,List.flatMap_append,List.flatMap_singleton] at this
  exact this
theorem pl0 (n:Nat) (hn:n≤3):∀ (m i:Nat),i+m = n→∃ K,bA.l0 K s.layers (n:Int) (lY s i) (i:Int) = some (lY s n)
 |0,i,h=>by
  obtain rfl:i = n:=by omega
  exact ⟨1,by rw [bA.l0,if_neg (by omega)]⟩
 |m+1,i,h=>by
  obtain ⟨K,hK⟩:=pl0 n hn m (i+1) (by omega)
  have hsz:=Kq s hl i
  have hp:(uC s).length ^ i≤27 ^ 2:=Nat.le_trans (Nat.pow_le_pow_left (PO s hl) i) (Nat.pow_le_pow_right (by decide) (by omega))
  have h27:(27:Nat) ^ 2 = 729:=by decide
  have hsz2:(lY s i).length*27≤900000:=by rw [hsz];omega
  have h1:=pl1 s hl (n:Int) (lY s i) (i:Int) (fun l hl'=>by have:=((zu i l).1 hl').1;omega) hsz2 (by omega) (lY s i).length 0 K (Nat.zero_add _)
  rw [List.take_zero,List.flatMap_nil,← Ko,show (i:Int)+1 = ((i+1:Nat):Int) by omega,hK] at h1
  exact ⟨(K+(lY s i).length*(9*(s.layers.toNat+2)+2)+1)+1,by rw [bA.l0,if_pos (by omega)];exact h1⟩
theorem anJ (n:Nat) (hn:n≤3):∃ K,bA.f K s.layers (n:Int) = some (lY s n):=pl0 s hl n hn n 0 (Nat.zero_add _)
end
end Go.Proofs.Ytmhaiihjfgfaoaa.Gl
end
section
namespace Go.Proofs.Ytmhaiihjfgfaoaa.Gl
open Go.RowKit Go.Shelf Go.Proofs.YtmhaiihjfgfaoaaW.bu Go.Proofs.YtmhaiihjfgfaoaaW.dB Go.Proofs.YtmhaiihjfgfaoaaW.ek Go.Proofs.Ytmhaiihjfgfaoaa.Pr Go.Proofs.YtmhaiihjfgfaoaaW.Round
attribute [local go_sem] iq iw jq jr iy
attribute [local go_sem] Oper.semAt_some
def aEw (R:List gU × Int × Int) (w:ao) (e:Ending) (w':ao):Prop:=∃ QH:Value,e = .returned (.tuple #[QH,Z ab R.2.1,Z ab R.2.2])∧Kd.R yn 33 w' w.heap.size (fun _=>True) QH R.1∧Below w.heap.size w w'
def afW (W:ao) (base:Nat) (o:Value) (b:List gU):Prop:=Kd.R yn 33 W base (fun _=>True) o b∧(b = []→o = .slice none 0 0)
theorem afW.below {W W1:ao} {base:Nat} {o:Value} {b:List gU} (h:afW W base o b) (hb:Below W.heap.size W W1):afW W1 base o b:=⟨Kd.lZ h.1 hb,h.2⟩
theorem afW.some {W:ao} {base:Nat} {o:Value} {b:List gU} (h:afW W base o b) (hb:b≠[]):∃ ad c,o = .slice (some ad) b.length c∧b.length≤c∧Kd.C yn W (some ad) b.length b:=by
 obtain ⟨A,c,rfl⟩:=Kd.lM h.1
 obtain ⟨_,h1,h2⟩:=Kd.fK h.1
 obtain ⟨ad,e,_⟩:=h2.2.2 (List.length_pos_iff.2 hb)
 subst e
 exact ⟨ad,c,rfl,h1,h2⟩
theorem anK (s:lK) (v:nW) (x:iA) (t:Int) (ev:jK) (p:BX) (d:Int) (hlim:s.aC.length≤100000) (A7 A8:Option Addr) (c7 c8:Nat) (w:ao) (h7:s.bf.length≤c7) (XC:Kd.C Kd.bool w A7 s.bf.length s.bf) (h8:s.aC.length≤c8) (Rx:Kd.C Dt w A8 s.aC.length s.aC):
 Calls Try.prog 58 #[.agg #[Z ab s.nx,Z ab s.ny,Z ab s.cell,Z ab s.slot,Z ab s.slots,Z ab s.layers,Z ab s.most,.slice A7 s.bf.length c7,.slice A8 s.aC.length c8],.agg #[Z ab v.speed,Z ab v.bq,Z ab v.use.f0,Z ab v.use.f1,Z ab v.aV.f0,Z ab v.aV.f1,Z ab v.reserve],.agg #[Z ab x.f0.f0,Z ab x.f0.f1,Z ab x.f1.f0,Z ab x.f1.f1],Z ab t,.agg #[Z ab ev.f0,Z ab ev.f1],.agg #[Z ab p.f0.f0.f0,Z ab p.f0.f0.f1,Z ab p.f0.f1.f0,Z ab p.f0.f1.f1,Z ab p.f1,Z ab p.f2],Z ab d] w (aEw (Fp s v x t ev p d) w):=by
 have xS:=Try.underlying25
 have qj:=Try.underlying31
 have E9:=Try.underlying33
 have oO:=Try.underlying27
 have vo:=Try.underlying29
 have XP:=Try.underlying81
 have HX:Hid (Fp s v x t ev p d = if lW s v≠0 then ([],0,lW s v) else if oK x t≠0 then ([],0,oK x t) else if si ev.f0 ev.f1 0 1073741824 = false then ([],0,2) else if AR p = false then ([],0,2) else if d < 1 then ([],0,3) else if 3 < d then ([],0,3)
  else if rbV s v x t ev p d.toNat = [] then ([],0,15) else (rbV s v x t ev p d.toNat,mU v (rbV s v x t ev p d.toNat),0)):=Lib.hid rfl
 generalize Fp s v x t ev p d = RR at*
 have hbo:=afO s v 200000 hlim (by omega)
 have kB:=fun W (h1:Below w.heap.size w W)=>fZ.calls 200000 s.nx s.ny s.cell s.slot s.slots s.layers s.most A7 c7 s.bf A8 c8 s.aC v.speed v.bq v.use.f0 v.use.f1 v.aV.f0 v.aV.f1 v.reserve (lW s v) W (Kd.bz XC h1) h7 (Kd.bz Rx h1) h8 hbo
 have HTO:=Lib.hid (fun (h:lW s v = 0)=>And.intro (JG h) (zt h))
 clear hbo
 generalize lW s v = E0 at*
 have q22:∀ (w:ao) (a:Option Addr) (n c n' c':Nat),(binOp .eql 49 (.slice a n c) (.slice none n' c')).run Try.prog w = .ok (.bool a.isNone) w:=fun w a n c n' c'=>Lib.run_eql_slice_nil w _ _ a n c n' c' Try.underlying49
 go_enter Try.func58,Try.ntmps58
 go_wp2_with fail
 have m7:dW (((((w.alloc (.cells #[Z ab s.nx,Z ab s.ny,Z ab s.cell,Z ab s.slot,Z ab s.slots,Z ab s.layers,Z ab s.most,.slice A7 s.bf.length c7,.slice A8 s.aC.length c8] 25)).alloc (.cells #[Z ab v.speed,Z ab v.bq,Z ab v.use.f0,Z ab v.use.f1,Z ab v.aV.f0,Z ab v.aV.f1,Z ab v.reserve] 29)).alloc (.cells #[Z ab x.f0.f0,Z ab x.f0.f1,Z ab x.f1.f0,Z ab x.f1.f1] 31)).alloc (.cells #[Z ab ev.f0,Z ab ev.f1] 27)).alloc (.cells #[Z ab p.f0.f0.f0,Z ab p.f0.f0.f1,Z ab p.f0.f1.f0,Z ab p.f0.f1.f1,Z ab p.f1,Z ab p.f2] 81)) (w.heap.size) #[Z ab s.nx,Z ab s.ny,Z ab s.cell,Z ab s.slot,Z ab s.slots,Z ab s.layers,Z ab s.most,.slice A7 s.bf.length c7,.slice A8 s.aC.length c8] 25:=(aa (aa (aa (aa Zh _) _) _) _)
 have m8:dW (((((w.alloc (.cells #[Z ab s.nx,Z ab s.ny,Z ab s.cell,Z ab s.slot,Z ab s.slots,Z ab s.layers,Z ab s.most,.slice A7 s.bf.length c7,.slice A8 s.aC.length c8] 25)).alloc (.cells #[Z ab v.speed,Z ab v.bq,Z ab v.use.f0,Z ab v.use.f1,Z ab v.aV.f0,Z ab v.aV.f1,Z ab v.reserve] 29)).alloc (.cells #[Z ab x.f0.f0,Z ab x.f0.f1,Z ab x.f1.f0,Z ab x.f1.f1] 31)).alloc (.cells #[Z ab ev.f0,Z ab ev.f1] 27)).alloc (.cells #[Z ab p.f0.f0.f0,Z ab p.f0.f0.f1,Z ab p.f0.f1.f0,Z ab p.f0.f1.f1,Z ab p.f1,Z ab p.f2] 81)) (w.heap.size+1) #[Z ab v.speed,Z ab v.bq,Z ab v.use.f0,Z ab v.use.f1,Z ab v.aV.f0,Z ab v.aV.f1,Z ab v.reserve] 29:=(aa (aa (aa ac2 _) _) _)
 have m9:dW (((((w.alloc (.cells #[Z ab s.nx,Z ab s.ny,Z ab s.cell,Z ab s.slot,Z ab s.slots,Z ab s.layers,Z ab s.most,.slice A7 s.bf.length c7,.slice A8 s.aC.length c8] 25)).alloc (.cells #[Z ab v.speed,Z ab v.bq,Z ab v.use.f0,Z ab v.use.f1,Z ab v.aV.f0,Z ab v.aV.f1,Z ab v.reserve] 29)).alloc (.cells #[Z ab x.f0.f0,Z ab x.f0.f1,Z ab x.f1.f0,Z ab x.f1.f1] 31)).alloc (.cells #[Z ab ev.f0,Z ab ev.f1] 27)).alloc (.cells #[Z ab p.f0.f0.f0,Z ab p.f0.f0.f1,Z ab p.f0.f1.f0,Z ab p.f0.f1.f1,Z ab p.f1,Z ab p.f2] 81)) (w.heap.size+1+1) #[Z ab x.f0.f0,Z ab x.f0.f1,Z ab x.f1.f0,Z ab x.f1.f1] 31:=(aa (aa ama _) _)
 have m11:dW (((((w.alloc (.cells #[Z ab s.nx,Z ab s.ny,Z ab s.cell,Z ab s.slot,Z ab s.slots,Z ab s.layers,Z ab s.most,.slice A7 s.bf.length c7,.slice A8 s.aC.length c8] 25)).alloc (.cells #[Z ab v.speed,Z ab v.bq,Z ab v.use.f0,Z ab v.use.f1,Z ab v.aV.f0,Z ab v.aV.f1,Z ab v.reserve] 29)).alloc (.cells #[Z ab x.f0.f0,Z ab x.f0.f1,Z ab x.f1.f0,Z ab x.f1.f1] 31)).alloc (.cells #[Z ab ev.f0,Z ab ev.f1] 27)).alloc (.cells #[Z ab p.f0.f0.f0,Z ab p.f0.f0.f1,Z ab p.f0.f1.f0,Z ab p.f0.f1.f1,Z ab p.f1,Z ab p.f2] 81)) (w.heap.size+1+1+1) #[Z ab ev.f0,Z ab ev.f1] 27:=(aa aB2 _)
 have m12:dW (((((w.alloc (.cells #[Z ab s.nx,Z ab s.ny,Z ab s.cell,Z ab s.slot,Z ab s.slots,Z ab s.layers,Z ab s.most,.slice A7 s.bf.length c7,.slice A8 s.aC.length c8] 25)).alloc (.cells #[Z ab v.speed,Z ab v.bq,Z ab v.use.f0,Z ab v.use.f1,Z ab v.aV.f0,Z ab v.aV.f1,Z ab v.reserve] 29)).alloc (.cells #[Z ab x.f0.f0,Z ab x.f0.f1,Z ab x.f1.f0,Z ab x.f1.f1] 31)).alloc (.cells #[Z ab ev.f0,Z ab ev.f1] 27)).alloc (.cells #[Z ab p.f0.f0.f0,Z ab p.f0.f0.f1,Z ab p.f0.f1.f0,Z ab p.f0.f1.f1,Z ab p.f1,Z ab p.f2] 81)) (w.heap.size+1+1+1+1) #[Z ab p.f0.f0.f0,Z ab p.f0.f0.f1,Z ab p.f0.f1.f0,Z ab p.f0.f1.f1,Z ab p.f1,Z ab p.f2] 81:=aB3
 have mB:Below w.heap.size w (((((w.alloc (.cells #[Z ab s.nx,Z ab s.ny,Z ab s.cell,Z ab s.slot,Z ab s.slots,Z ab s.layers,Z ab s.most,.slice A7 s.bf.length c7,.slice A8 s.aC.length c8] 25)).alloc (.cells #[Z ab v.speed,Z ab v.bq,Z ab v.use.f0,Z ab v.use.f1,Z ab v.aV.f0,Z ab v.aV.f1,Z ab v.reserve] 29)).alloc (.cells #[Z ab x.f0.f0,Z ab x.f0.f1,Z ab x.f1.f0,Z ab x.f1.f1] 31)).alloc (.cells #[Z ab ev.f0,Z ab ev.f1] 27)).alloc (.cells #[Z ab p.f0.f0.f0,Z ab p.f0.f0.f1,Z ab p.f0.f1.f0,Z ab p.f0.f1.f1,Z ab p.f1,Z ab p.f2] 81)):=(aH (aH (aH (aH (aH (Below.refl w.heap.size w) _) _) _) _) _)
 have kZ:w.heap.size≤w.heap.size:=Nat.le_refl _
 generalize qQ:(((((w.alloc (.cells #[Z ab s.nx,Z ab s.ny,Z ab s.cell,Z ab s.slot,Z ab s.slots,Z ab s.layers,Z ab s.most,.slice A7 s.bf.length c7,.slice A8 s.aC.length c8] 25)).alloc (.cells #[Z ab v.speed,Z ab v.bq,Z ab v.use.f0,Z ab v.use.f1,Z ab v.aV.f0,Z ab v.aV.f1,Z ab v.reserve] 29)).alloc (.cells #[Z ab x.f0.f0,Z ab x.f0.f1,Z ab x.f1.f0,Z ab x.f1.f1] 31)).alloc (.cells #[Z ab ev.f0,Z ab ev.f1] 27)).alloc (.cells #[Z ab p.f0.f0.f0,Z ab p.f0.f0.f1,Z ab p.f0.f1.f0,Z ab p.f0.f1.f1,Z ab p.f1,Z ab p.f2] 81)) = W1 at m7 m8 m9 m11 m12 mB ⊢
 clear qQ
 generalize hg7:w.heap.size = g7 at m7 m8 m9 m11 m12 ⊢
 have hG7:w.heap.size≤g7:=by omega
 generalize hg8:g7+1 = g8 at m8 m9 m11 m12 ⊢
 have Cn:g7≠g8:=by omega
 have Qj:g8≠g7:=Cn.symm
 have ZO:w.heap.size≤g8:=by omega
 generalize hg9:g8+1 = g9 at m9 m11 m12 ⊢
 have yA:g7≠g9:=by omega
 have Hg:g8≠g9:=by omega
 have MO:g9≠g7:=yA.symm
 have VD:g9≠g8:=Hg.symm
 have hG9:w.heap.size≤g9:=by omega
 generalize ahm:g9+1 = g11 at m11 m12 ⊢
 have rR:g7≠g11:=by omega
 have IJ:g8≠g11:=by omega
 have rT:g9≠g11:=by omega
 have Ua:g11≠g7:=rR.symm
 have Ub:g11≠g8:=IJ.symm
 have Uc:g11≠g9:=rT.symm
 have VR:w.heap.size≤g11:=by omega
 generalize agE:g11+1 = g12 at m12 ⊢
 have rU:g7≠g12:=by omega
 have PH:g8≠g12:=by omega
 have rV:g9≠g12:=by omega
 have oD:g11≠g12:=by omega
 have acB:g12≠g7:=rU.symm
 have acC:g12≠g8:=PH.symm
 have acD:g12≠g9:=rV.symm
 have Pf:g12≠g11:=oD.symm
 have JB:w.heap.size≤g12:=by omega
 clear kZ
 try clear agE
 try clear ahm
 try clear hg9
 try clear hg8
 try clear hg7
 have sD:w.heap.size≤W1.heap.size:=mB.size
 try clear Cn yA rR rU
 try clear Qj Hg IJ PH
 try clear MO VD rT rV
 try clear Ua Ub Uc oD
 try clear acB acC acD Pf
 clear hG7 ZO hG9 VR JB
 skip
 obtain ⟨Qo,Qp,V4,V5,abW,WM,abX,abY,abZ⟩:=Ay m7
 obtain ⟨LW,LX,MS,MU,Ra,Rb,Rc⟩:=Ci m8
 go_wp2_with fail
 clear Qo Qp V4 V5 abW WM abX abY abZ LW LX MS MU Ra Rb Rc
 skip
 have hcon:=kB W1 mB
 (with_reducible refine hcon.mono ?_)
 clear hcon
 rintro e W2 ⟨rfl,hb⟩
 replace m7:=ah m7 hb
 replace m8:=ah m8 hb
 replace m9:=ah m9 hb
 replace m11:=ah m11 hb
 replace m12:=ah m12 hb
 replace mB:=bI mB hb
 clear hb
 have vI:w.heap.size≤W2.heap.size:=mB.size
 by_cases h0:E0 = 0
 case neg =>
  have HZ:=Lib.hid (HX.out.trans (if_pos h0))
  have hd1:(E0 == 0) = false:=beq_eq_false_iff_ne.2 h0
  have hd2:(E0 != 0) = true:=by rw [bne,hd1];rfl
  clear h0 HX HTO
  obtain ⟨Qo,Qp,V4,V5,abW,WM,abX,abY,abZ⟩:=Ay m7
  obtain ⟨LW,LX,MS,MU,Ra,Rb,Rc⟩:=Ci m8
  go_wp2_with fail
  clear Qo Qp V4 V5 abW WM abX abY abZ LW LX MS MU Ra Rb Rc
  skip
  have hcon:=kB W2 mB
  (with_reducible refine hcon.mono ?_)
  clear hcon
  rintro e W3 ⟨rfl,hb⟩
  replace m7:=ah m7 hb
  replace m8:=ah m8 hb
  replace m9:=ah m9 hb
  replace m11:=ah m11 hb
  replace m12:=ah m12 hb
  replace mB:=bI mB hb
  clear hb
  have FB:w.heap.size≤W3.heap.size:=mB.size
  go_wp2
  go_ret3
  exact ⟨_,qi,Zk,Nl⟩
 case pos =>
  have HX2:=Lib.hid (HX.out.trans (if_neg (fun h=>h h0)))
  clear HX kB
  obtain ⟨⟨hSV,hVN⟩,hVB⟩:=HTO.out h0
  subst h0
  clear HTO
  have hpo:=fun (h:oK x t = 0)=>JH h
  have HPO:=Lib.hid hpo
  clear hpo
  have kP:=fun W=>fA.calls x.f0.f0 x.f0.f1 x.f1.f0 x.f1.f1 t (oK x t) W (Y7 x t)
  generalize oK x t = E1 at*
  obtain ⟨Jy,Jz,R5,R6⟩:=rY m9
  go_wp2_with fail
  clear Jy Jz R5 R6
  skip
  have hcon:=kP W2
  (with_reducible refine hcon.mono ?_)
  clear hcon
  rintro e W4 ⟨rfl,hb⟩
  replace m7:=ah m7 hb
  replace m8:=ah m8 hb
  replace m9:=ah m9 hb
  replace m11:=ah m11 hb
  replace m12:=ah m12 hb
  replace mB:=bI mB hb
  clear hb
  have Vz:w.heap.size≤W4.heap.size:=mB.size
  by_cases h1:E1 = 0
  case neg =>
   have HZ:=Lib.hid (HX2.out.trans (if_pos h1))
   have hd1:(E1 == 0) = false:=beq_eq_false_iff_ne.2 h1
   have hd2:(E1 != 0) = true:=by rw [bne,hd1];rfl
   clear h1 HX2 HPO
   obtain ⟨Jy,Jz,R5,R6⟩:=rY m9
   go_wp2_with fail
   clear Jy Jz R5 R6
   have hcon:=kP W4
   (with_reducible refine hcon.mono ?_)
   clear hcon
   rintro e W5 ⟨rfl,hb⟩
   replace m7:=ah m7 hb
   replace m8:=ah m8 hb
   replace m9:=ah m9 hb
   replace m11:=ah m11 hb
   replace m12:=ah m12 hb
   replace mB:=bI mB hb
   clear hb
   have VA:w.heap.size≤W5.heap.size:=mB.size
   go_wp2
   go_ret3
   exact ⟨_,qi,Zk,Nl⟩
  case pos =>
   have HX3:=Lib.hid (HX2.out.trans (if_neg (fun h=>h h1)))
   clear HX2 kP
   obtain ⟨hbx,XK,aaa⟩:=HPO.out h1
   subst h1
   clear HPO
   have HTT:=Lib.hid (And.intro XK aaa)
   clear XK aaa
   obtain ⟨Pk,Pm⟩:=Ch m11
   go_wp2_with fail
   clear Pk Pm
   skip
   have hcon:=bG.calls ev.f0 ev.f1 0 1073741824 _ W4 (Ar _ _ _ _)
   (with_reducible refine hcon.mono ?_)
   clear hcon
   rintro e W6 ⟨rfl,hb⟩
   replace m7:=ah m7 hb
   replace m8:=ah m8 hb
   replace m9:=ah m9 hb
   replace m11:=ah m11 hb
   replace m12:=ah m12 hb
   replace mB:=bI mB hb
   clear hb
   have azN:w.heap.size≤W6.heap.size:=mB.size
   cases hbn:si ev.f0 ev.f1 0 1073741824 with
   |false =>
    have HZ:=Lib.hid (HX3.out.trans (if_pos hbn))
    clear hbn HX3
    go_wp2
    go_ret3
    exact ⟨_,qi,Zk,Nl⟩
   |true =>
    have HX4:=Lib.hid (HX3.out.trans (if_neg (by rw [hbn];decide)))
    have HBN:=Lib.hid (FI.1 hbn)
    clear HX3 hbn
    obtain ⟨VO,arP,arQ,arR,arS,arT⟩:=Xz m12
    go_wp2_with fail
    clear VO arP arQ arR arS arT
    have hcon:=gD.calls p.f0.f0.f0 p.f0.f0.f1 p.f0.f1.f0 p.f0.f1.f1 p.f1 p.f2 _ W6 (afP p)
    (with_reducible refine hcon.mono ?_)
    clear hcon
    rintro e W7 ⟨rfl,hb⟩
    replace m7:=ah m7 hb
    replace m8:=ah m8 hb
    replace m9:=ah m9 hb
    replace m11:=ah m11 hb
    replace m12:=ah m12 hb
    replace mB:=bI mB hb
    clear hb
    have aiN:w.heap.size≤W7.heap.size:=mB.size
    cases hpk:AR p with
    |false =>
     have HZ:=Lib.hid (HX4.out.trans (if_pos hpk))
     clear hpk HX4
     go_wp2
     go_ret3
     exact ⟨_,qi,Zk,Nl⟩
    |true =>
     have HX5:=Lib.hid (HX4.out.trans (if_neg (by rw [hpk];decide)))
     clear HX4 hpk
     by_cases c1:d < 1
     case pos =>
      have HZ:=Lib.hid (HX5.out.trans (if_pos c1))
      have k1:decide (d < 1) = true:=decide_eq_true c1
      clear c1 HX5
      go_wp2
      go_ret3
      exact ⟨_,qi,Zk,Nl⟩
     case neg =>
      have HX6:=Lib.hid (HX5.out.trans (if_neg c1))
      clear HX5
      have k1:decide (d < 1) = false:=decide_eq_false c1
      by_cases c2:3 < d
      case pos =>
       have HZ:=Lib.hid (HX6.out.trans (if_pos c2))
       have k2:decide (3 < d) = true:=decide_eq_true c2
       clear c1 c2 HX6
       go_wp2
       go_ret3
       exact ⟨_,qi,Zk,Nl⟩
      case neg =>
       have HX7:=Lib.hid (HX6.out.trans (if_neg c2))
       clear HX6
       have k2:decide (3 < d) = false:=decide_eq_false c2
       have HD:Hid (1≤d∧d≤3):=Lib.hid (by omega)
       clear c1 c2
       skip
       go_wp2
       skip
       clear k1 k2
       go_loopw [17,18] (fun o i wr=>∃ (k:Nat),i = Z ab ((k:Int)+1)∧(k:Int)≤d∧afW wr w.heap.size o (rbV s v x t ev p k)∧dW wr g7 #[Z ab s.nx,Z ab s.ny,Z ab s.cell,Z ab s.slot,Z ab s.slots,Z ab s.layers,Z ab s.most,.slice A7 s.bf.length c7,.slice A8 s.aC.length c8] 25∧dW wr g8 #[Z ab v.speed,Z ab v.bq,Z ab v.use.f0,Z ab v.use.f1,Z ab v.aV.f0,Z ab v.aV.f1,Z ab v.reserve] 29∧dW wr g9 #[Z ab x.f0.f0,Z ab x.f0.f1,Z ab x.f1.f0,Z ab x.f1.f1] 31∧dW wr g11 #[Z ab ev.f0,Z ab ev.f1] 27∧dW wr g12 #[Z ab p.f0.f0.f0,Z ab p.f0.f0.f1,Z ab p.f0.f1.f0,Z ab p.f0.f1.f1,Z ab p.f1,Z ab p.f2] 81∧Below w.heap.size w wr) (fun _ i _=>(d+1 - intOf i).toNat)
       case atStart=>exact ⟨0,rfl,by have h_:=HD.out;omega,⟨Kd.Na _ _ _ _ _,fun _=>rfl⟩,m7,m8,m9,m11,m12,mB⟩
       case round =>
        clear m7 m8 m9 m11 m12 mB aiN
        obtain ⟨k,rfl,hk,HO,m7,m8,m9,m11,m12,mB⟩:=hrel
        have YO:w.heap.size≤wr.heap.size:=mB.size
        obtain ⟨hd1,hd2⟩:=HD.out
        by_cases hkd:(k:Int)+1≤d
        case pos =>
         have kl:decide ((k:Int)+1≤d) = true:=decide_eq_true hkd
         obtain ⟨Kp_,aZQ⟩:=anJ s hSV.n.layers (k+1) (by omega)
         have kPl:=bA.calls Kp_ s.layers ((k+1:Nat):Int) (lY s (k+1)) wr aZQ
         rw [show ((k+1:Nat):Int) = (k:Int)+1 by omega] at kPl
         have HPL:=Lib.hid (fun l (h:l ∈ lY s (k+1))=>(zu (k+1) l).1 h)
         have HRB:Hid (rbV s v x t ev p (k+1) = (lY s (k+1)).foldl (rbF s v x t ev p) (rbV s v x t ev p k)):=Lib.hid rfl
         have hPB:Hid ((lY s (k+1)).length≤20000):=Lib.hid (acN s hSV.n.layers (k+1) (by omega))
         have HB0:Hid ((rbV s v x t ev p k).length≤3):=Lib.hid (Nat.le_trans (acO k) (by omega))
         generalize lY s (k+1) = L at*
         generalize rbV s v x t ev p k = b0 at*
         have WM:=(ae m7 5).trans rfl
         go_wp2_with fail
         skip
         clear WM
         have hcon:=kPl
         (with_reducible refine hcon.mono ?_)
         clear hcon
         rintro e W8 ⟨vP,rfl,HSP,hb⟩
         replace HO:=HO.below hb
         replace m7:=ah m7 hb
         replace m8:=ah m8 hb
         replace m9:=ah m9 hb
         replace m11:=ah m11 hb
         replace m12:=ah m12 hb
         replace mB:=bI mB hb
         clear hb
         have azO:w.heap.size≤W8.heap.size:=mB.size
         clear kPl
         replace HSP:=Kd.ahJ HSP YO
         obtain ⟨AP,cP,rfl⟩:=Kd.Zg HSP
         go_wp2
         skip
         go_loopw [17,20] (fun o i wr=>∃ (j:Nat) (b:List gU),i = Z ab (j:Int)∧j≤L.length∧afW wr w.heap.size o b∧Hid ((L.take j).foldl (rbF s v x t ev p) b0 = b)∧b.length≤3∧Kd.S (Kd.slice 33 yn) 49 wr w.heap.size (fun _=>True) (.slice AP L.length cP) L∧dW wr g7 #[Z ab s.nx,Z ab s.ny,Z ab s.cell,Z ab s.slot,Z ab s.slots,Z ab s.layers,Z ab s.most,.slice A7 s.bf.length c7,.slice A8 s.aC.length c8] 25∧dW wr g8 #[Z ab v.speed,Z ab v.bq,Z ab v.use.f0,Z ab v.use.f1,Z ab v.aV.f0,Z ab v.aV.f1,Z ab v.reserve] 29∧dW wr g9 #[Z ab x.f0.f0,Z ab x.f0.f1,Z ab x.f1.f0,Z ab x.f1.f1] 31∧dW wr g11 #[Z ab ev.f0,Z ab ev.f1] 27∧dW wr g12 #[Z ab p.f0.f0.f0,Z ab p.f0.f0.f1,Z ab p.f0.f1.f0,Z ab p.f0.f1.f1,Z ab p.f1,Z ab p.f2] 81∧Below w.heap.size w wr) (fun _ i _=>((L.length:Int) - intOf i).toNat)
         case atStart=>exact ⟨0,b0,rfl,Nat.zero_le _,HO,Lib.hid rfl,HB0.out,HSP,m7,m8,m9,m11,m12,mB⟩
         case round =>
          clear m7 m8 m9 m11 m12 mB azO HO HSP
          obtain ⟨j,b,rfl,hj,HO,HF,hb3,HSP,m7,m8,m9,m11,m12,mB⟩:=hrel
          skip
          by_cases hjl:j < L.length
          case neg =>
           obtain rfl:j = L.length:=by omega
           have HFE:=HF.out
           rw [List.take_length] at HFE
           have hnl:¬ ((L.length:Int) < (L.length:Int)):=by omega
           go_wp2
           skip
           go_roundw
           case rel=>exact ⟨k+1,by simp,by omega,by rw [HRB.out,HFE];exact HO,m7,m8,m9,m11,m12,mB⟩
           case measure=>simp [intOf];omega
          case pos =>
           obtain ⟨_,_,hCP⟩:=Kd.Vp HSP
           obtain ⟨ad,rfl,_⟩:=hCP.2.2 (by omega)
           clear hCP
           obtain ⟨c_,_,⟨u,rfl,hRl⟩,hcell⟩:=Kd.azC HSP [] (j:Int) (by omega) (by omega)
           have hx0:wr.cell? (ad.add j) = some u:=by have h_:=hcell 0 u rfl;rw [show (Kd.slice 33 yn).sz = 1 from rfl,Int.toNat_natCast,Nat.mul_one,Nat.add_zero] at h_;exact h_
           have hget:L.getD (j:Int).toNat [] = L[j]:=by simp [List.getD_eq_getElem?_getD,hjl]
           rw [hget] at hRl
           clear hget hcell
           have hmem:L[j] ∈ L:=List.getElem_mem hjl
           have HF2:Hid ((L.take (j+1)).foldl (rbF s v x t ev p) b0 = rbF s v x t ev p b L[j]):=Lib.hid (by rw [List.take_succ_eq_append_getElem hjl,List.foldl_append,HF.out];rfl)
           clear HF
           obtain ⟨hl1,hl2⟩:=HPL.out _ hmem
           generalize L[j] = l at*
           have azn:l≠[]:=by rintro rfl;cases hl1
           have HOl:afW wr w.heap.size u l:=⟨Kd.jX hRl (fun _ _=>trivial),fun h=>absurd h azn⟩
           clear hRl
           obtain ⟨adl,cl,rfl,hcl,hCl⟩:=HOl.some azn
           have aMF:=azd (s:=s) (l:=l) (by omega) hl2
           have kGd:=fun W (h1:Below w.heap.size w W) (h2:Kd.C yn W (some adl) l.length l)=>gH.calls 200000 s.nx s.ny s.cell s.slot s.slots s.layers s.most A7 c7 s.bf A8 c8 s.aC v.speed v.bq v.use.f0 v.use.f1 v.aV.f0 v.aV.f1 v.reserve x.f0.f0 x.f0.f1 x.f1.f0 x.f1.f1 t ev.f0 ev.f1 (some adl) cl l p.f0.f0.f0 p.f0.f0.f1 p.f0.f1.f0 p.f0.f1.f1 p.f1 p.f2 (RS s v x t ev l p) W (Kd.bz XC h1) h7 (Kd.bz Rx h1) h8 h2 hcl (asg s v x t ev l p 200000 hSV hVN hVB hbx HTT.out (by have h_:=HBN.out;omega) aMF (by omega) (by omega))
           have kCl:=fun W (h2:Kd.C yn W (some adl) l.length l)=>dO.calls 200000 v.speed v.bq v.use.f0 v.use.f1 v.aV.f0 v.aV.f1 v.reserve (some adl) cl l (mU v l) W h2 hcl (Xg hVB l (by omega) 200000 (by omega))
           have hls:Hid (l.length≤3):=Lib.hid (by omega)
           have a7b:=Lib.hid azn
           clear hl1 hl2 aMF hmem azn
           have hj1:((j:Int) < (L.length:Int)):=by omega
           have hj2:Hid (j+1≤L.length):=Lib.hid hjl
           have hRF:Hid (rbF s v x t ev p b l = if (b = []∨mU v l < mU v b)∧RS s v x t ev l p = 0 then l else b):=Lib.hid rfl
           have hmx:Try.prog.follows .mixedOrders = true:=by kernel_rfl
           generalize RS s v x t ev l p = pg at*
           generalize rbF s v x t ev p b l = B2 at*
           by_cases hbe:b = []
           case pos =>
            subst hbe
            have ho_:=HO.2 rfl
            subst ho_
            clear kCl
            have hcond:(([]:List gU) = []∨mU v l < mU v []):=.inl rfl
            go_wp2_with fail
            skip
            replace m7:=ag m7
            replace m8:=ag m8
            replace m9:=ag m9
            replace m11:=ag m11
            replace m12:=ag m12
            replace mB:=bF mB
            replace HO:=HO.below (bF (Below.refl wr.heap.size wr))
            replace HSP:=Kd.AX HSP (bF (Below.refl wr.heap.size wr))
            replace HOl:=HOl.below (bF (Below.refl wr.heap.size wr))
            replace hCl:=Kd.bz hCl (bF (Below.refl wr.heap.size wr))
            replace hx0:(World.drew wr).cell? (ad.add j) = some (.slice (some adl) l.length cl):=hx0
            refine jV (n:=28) (S:=fun w'=>w'.cell? ⟨g7,0,none⟩ = some (Z ab s.nx)∧w'.cell? ⟨g7,1,none⟩ = some (Z ab s.ny)∧w'.cell? ⟨g7,2,none⟩ = some (Z ab s.cell)∧w'.cell? ⟨g7,3,none⟩ = some (Z ab s.slot)∧w'.cell? ⟨g7,4,none⟩ = some (Z ab s.slots)∧w'.cell? ⟨g7,5,none⟩ = some (Z ab s.layers)∧w'.cell? ⟨g7,6,none⟩ = some (Z ab s.most)∧w'.cell? ⟨g7,7,none⟩ = some (.slice A7 s.bf.length c7)∧w'.cell? ⟨g7,8,none⟩ = some (.slice A8 s.aC.length c8)∧w'.cell? ⟨g8,0,none⟩ = some (Z ab v.speed)∧w'.cell? ⟨g8,1,none⟩ = some (Z ab v.bq)∧w'.cell? ⟨g8,2,none⟩ = some (Z ab v.use.f0)∧w'.cell? ⟨g8,3,none⟩ = some (Z ab v.use.f1)∧w'.cell? ⟨g8,4,none⟩ = some (Z ab v.aV.f0)∧w'.cell? ⟨g8,5,none⟩ = some (Z ab v.aV.f1)∧w'.cell? ⟨g8,6,none⟩ = some (Z ab v.reserve)∧w'.cell? ⟨g9,0,none⟩ = some (Z ab x.f0.f0)∧w'.cell? ⟨g9,1,none⟩ = some (Z ab x.f0.f1)∧w'.cell? ⟨g9,2,none⟩ = some (Z ab x.f1.f0)∧w'.cell? ⟨g9,3,none⟩ = some (Z ab x.f1.f1)∧w'.cell? ⟨g11,0,none⟩ = some (Z ab ev.f0)∧w'.cell? ⟨g11,1,none⟩ = some (Z ab ev.f1)∧w'.cell? ⟨g12,0,none⟩ = some (Z ab p.f0.f0.f0)∧w'.cell? ⟨g12,1,none⟩ = some (Z ab p.f0.f0.f1)∧w'.cell? ⟨g12,2,none⟩ = some (Z ab p.f0.f1.f0)∧w'.cell? ⟨g12,3,none⟩ = some (Z ab p.f0.f1.f1)∧w'.cell? ⟨g12,4,none⟩ = some (Z ab p.f1)∧w'.cell? ⟨g12,5,none⟩ = some (Z ab p.f2)∧w'.cell? (ad.add j) = some (.slice (some adl) l.length cl)) (ds:=[]) #[al,al,al,al,al,al,al,al,al,al,al,al,al,al,al,al,al,al,al,al,al,al,al,al,al,al,al,al] aT rfl rfl ⟨((ae m7 0).trans rfl),((ae m7 1).trans rfl),((ae m7 2).trans rfl),((ae m7 3).trans rfl),((ae m7 4).trans rfl),((ae m7 5).trans rfl),((ae m7 6).trans rfl),((ae m7 7).trans rfl),((ae m7 8).trans rfl),((ae m8 0).trans rfl),((ae m8 1).trans rfl),((ae m8 2).trans rfl),((ae m8 3).trans rfl),((ae m8 4).trans rfl),((ae m8 5).trans rfl),((ae m8 6).trans rfl),((ae m9 0).trans rfl),((ae m9 1).trans rfl),((ae m9 2).trans rfl),((ae m9 3).trans rfl),((ae m11 0).trans rfl),((ae m11 1).trans rfl),((ae m12 0).trans rfl),((ae m12 1).trans rfl),((ae m12 2).trans rfl),((ae m12 3).trans rfl),((ae m12 4).trans rfl),((ae m12 5).trans rfl),hx0⟩ (fun hHeld=>?_)
            generalize hWd:World.drew _ = Wx at m7 m8 m9 m11 m12 mB HO HSP HOl hCl hx0 hHeld ⊢
            clear hWd
            refine dR (i:=0) (N:=some 64) aT ?_
            refine dR (i:=1) (N:=some 65) aT ?_
            refine dR (i:=2) (N:=some 66) aT ?_
            refine j6 (i:=3) (N:=some 67) (v:=undef) (a':=?_) #[ac,ac,ac,ac,al,al,al,al,al,al,al,al,al,al,al,al,al,al,al,al,al,al,al,al,al,al,al,al] rfl rfl aT (fun _ _ _ h=>h) (Or.inr ⟨by rfl,rfl⟩) ?_ ?_
            rotate_left
            ·simp only [Act.put,ap,aq,ar,eY,fo]
             rfl
            refine j6 (i:=4) (N:=some 68) (v:=undef) (a':=?_) #[ac,ac,ac,ac,ac,al,al,al,al,al,al,al,al,al,al,al,al,al,al,al,al,al,al,al,al,al,al,al] rfl rfl aT (fun _ _ _ h=>h) (Or.inr ⟨by rfl,rfl⟩) ?_ ?_
            rotate_left
            ·simp only [Act.put,ap,aq,ar,eY,fo]
             rfl
            refine j6 (i:=5) (N:=some 69) (v:=undef) (a':=?_) #[ac,ac,ac,ac,ac,ac,al,al,al,al,al,al,al,al,al,al,al,al,al,al,al,al,al,al,al,al,al,al] rfl rfl aT (fun _ _ _ h=>h) (Or.inr ⟨by rfl,rfl⟩) ?_ ?_
            rotate_left
            ·simp only [Act.put,ap,aq,ar,eY,fo]
             rfl
            refine j6 (i:=6) (N:=some 70) (v:=undef) (a':=?_) #[ac,ac,ac,ac,ac,ac,ac,al,al,al,al,al,al,al,al,al,al,al,al,al,al,al,al,al,al,al,al,al] rfl rfl aT (fun _ _ _ h=>h) (Or.inr ⟨by rfl,rfl⟩) ?_ ?_
            rotate_left
            ·simp only [Act.put,ap,aq,ar,eY,fo]
             rfl
            refine j6 (i:=7) (N:=some 71) (v:=undef) (a':=?_) #[ac,ac,ac,ac,ac,ac,ac,ac,al,al,al,al,al,al,al,al,al,al,al,al,al,al,al,al,al,al,al,al] rfl rfl aT (fun _ _ _ h=>h) (Or.inr ⟨by rfl,rfl⟩) ?_ ?_
            rotate_left
            ·simp only [Act.put,ap,aq,ar,eY,fo]
             rfl
            refine j6 (i:=8) (N:=some 72) (v:=undef) (a':=?_) #[ac,ac,ac,ac,ac,ac,ac,ac,ac,al,al,al,al,al,al,al,al,al,al,al,al,al,al,al,al,al,al,al] rfl rfl aT (fun _ _ _ h=>h) (Or.inr ⟨by rfl,rfl⟩) ?_ ?_
            rotate_left
            ·simp only [Act.put,ap,aq,ar,eY,fo]
             rfl
            refine j6 (i:=9) (N:=some 73) (v:=undef) (a':=?_) #[ac,ac,ac,ac,ac,ac,ac,ac,ac,ac,al,al,al,al,al,al,al,al,al,al,al,al,al,al,al,al,al,al] rfl rfl aT (fun _ _ _ h=>h) (Or.inr ⟨by rfl,rfl⟩) ?_ ?_
            rotate_left
            ·simp only [Act.put,ap,aq,ar,eY,fo]
             rfl
            refine j6 (i:=10) (N:=some 74) (v:=undef) (a':=?_) #[ac,ac,ac,ac,ac,ac,ac,ac,ac,ac,ac,al,al,al,al,al,al,al,al,al,al,al,al,al,al,al,al,al] rfl rfl aT (fun _ _ _ h=>h) (Or.inr ⟨by rfl,rfl⟩) ?_ ?_
            rotate_left
            ·simp only [Act.put,ap,aq,ar,eY,fo]
             rfl
            refine j6 (i:=11) (N:=some 75) (v:=undef) (a':=?_) #[ac,ac,ac,ac,ac,ac,ac,ac,ac,ac,ac,ac,al,al,al,al,al,al,al,al,al,al,al,al,al,al,al,al] rfl rfl aT (fun _ _ _ h=>h) (Or.inr ⟨by rfl,rfl⟩) ?_ ?_
            rotate_left
            ·simp only [Act.put,ap,aq,ar,eY,fo]
             rfl
            refine j6 (i:=12) (N:=some 76) (v:=undef) (a':=?_) #[ac,ac,ac,ac,ac,ac,ac,ac,ac,ac,ac,ac,ac,al,al,al,al,al,al,al,al,al,al,al,al,al,al,al] rfl rfl aT (fun _ _ _ h=>h) (Or.inr ⟨by rfl,rfl⟩) ?_ ?_
            rotate_left
            ·simp only [Act.put,ap,aq,ar,eY,fo]
             rfl
            refine dR (i:=13) (N:=some 77) aT ?_
            refine dR (i:=14) (N:=some 78) aT ?_
            refine dR (i:=18) (N:=some 82) aT ?_
            refine dR (i:=20) (N:=some 84) aT ?_
            refine dR (i:=21) (N:=some 85) aT ?_
            refine dR (i:=22) (N:=some 86) aT ?_
            refine iT (i:=15) (N:=some 79) aT hHeld ?_
            refine iT (i:=16) (N:=some 80) aT hHeld ?_
            refine iT (i:=17) (N:=some 81) aT hHeld ?_
            refine iT (i:=19) (N:=some 83) aT hHeld ?_
            refine iT (i:=23) (N:=some 87) aT hHeld ?_
            refine iT (i:=24) (N:=some 88) aT hHeld ?_
            refine iW (i:=25) (N:=some 89) #[ac,ac,ac,ac,ac,ac,ac,ac,ac,ac,ac,ac,ac,ac,ac,ac,ac,ac,ac,ac,ac,ac,ac,ac,ac,ac,al,al] rfl rfl aT (by decide) (fun K hK=>?_)
            have jL:=kGd Wx mB hCl
            refine gY Try.func97 aT rfl #[.agg #[Z ab s.nx,Z ab s.ny,Z ab s.cell,Z ab s.slot,Z ab s.slots,Z ab s.layers,Z ab s.most,.slice A7 s.bf.length c7,.slice A8 s.aC.length c8],.agg #[Z ab v.speed,Z ab v.bq,Z ab v.use.f0,Z ab v.use.f1,Z ab v.aV.f0,Z ab v.aV.f1,Z ab v.reserve],.agg #[Z ab x.f0.f0,Z ab x.f0.f1,Z ab x.f1.f0,Z ab x.f1.f1],Z ab t,.agg #[Z ab ev.f0,Z ab ev.f1],.slice (some adl) l.length cl,.agg #[Z ab p.f0.f0.f0,Z ab p.f0.f0.f1,Z ab p.f0.f1.f0,Z ab p.f0.f1.f1,Z ab p.f1,Z ab p.f2]] (by rfl) rfl rfl Ju ?_
            with_reducible refine (jL).mono ?_
            rintro e w25 ⟨rfl,hb⟩
            refine ⟨_,rfl,?_⟩
            clear jL
            replace HO:=HO.below hb
            replace HSP:=Kd.AX HSP hb
            replace HOl:=HOl.below hb
            replace hCl:=Kd.bz hCl hb
            replace hx0:=(hb.cell (bd _ _ hx0)).trans hx0
            replace m7:=ah m7 hb
            replace m8:=ah m8 hb
            replace m9:=ah m9 hb
            replace m11:=ah m11 hb
            replace m12:=ah m12 hb
            replace mB:=bI mB hb
            clear hb
            refine hK.out _ _ ⟨((ae m7 0).trans rfl),((ae m7 1).trans rfl),((ae m7 2).trans rfl),((ae m7 3).trans rfl),((ae m7 4).trans rfl),((ae m7 5).trans rfl),((ae m7 6).trans rfl),((ae m7 7).trans rfl),((ae m7 8).trans rfl),((ae m8 0).trans rfl),((ae m8 1).trans rfl),((ae m8 2).trans rfl),((ae m8 3).trans rfl),((ae m8 4).trans rfl),((ae m8 5).trans rfl),((ae m8 6).trans rfl),((ae m9 0).trans rfl),((ae m9 1).trans rfl),((ae m9 2).trans rfl),((ae m9 3).trans rfl),((ae m11 0).trans rfl),((ae m11 1).trans rfl),((ae m12 0).trans rfl),((ae m12 1).trans rfl),((ae m12 2).trans rfl),((ae m12 3).trans rfl),((ae m12 4).trans rfl),((ae m12 5).trans rfl),hx0⟩ (fun hHeld=>?_)
            clear hK K
            refine dQ aFA ?_
            refine dR (i:=26) (N:=some 90) aT ?_
            refine dR (i:=27) (N:=some 91) aT ?_
            refine mi aT ?_
            try clear hHeld
            skip
            by_cases hpg:pg = 0
            case pos =>
             have hd1:(pg == 0) = true:=beq_iff_eq.2 hpg
             have hZ:=Lib.hid (hRF.out.trans (if_pos ⟨hcond,hpg⟩))
             clear hpg
             have azo:=hPB.out
             go_wp2
             skip
             go_roundw
             case rel=>exact ⟨j+1,_,by simp,hj2.out,HOl,Lib.hid (by rw [HF2.out,hZ.out]),hls.out,HSP,m7,m8,m9,m11,m12,mB⟩
             case measure=>simp [intOf];omega
            case neg =>
             have hd1:(pg == 0) = false:=beq_eq_false_iff_ne.2 hpg
             have hZ:=Lib.hid (hRF.out.trans (if_neg (fun h=>hpg h.2)))
             clear hpg
             have azo:=hPB.out
             go_wp2
             skip
             go_roundw
             case rel=>exact ⟨j+1,_,by simp,hj2.out,HO,Lib.hid (by rw [HF2.out,hZ.out]),hb3,HSP,m7,m8,m9,m11,m12,mB⟩
             case measure=>simp [intOf];omega
           case neg =>
            obtain ⟨adb,cb,rfl,hcb,hCb⟩:=HO.some hbe
            have kCb:=fun W (h2:Kd.C yn W (some adb) b.length b)=>dO.calls 200000 v.speed v.bq v.use.f0 v.use.f1 v.aV.f0 v.aV.f1 v.reserve (some adb) cb b (mU v b) W h2 hcb (Xg hVB b (by omega) 200000 (by omega))
            clear hcb
            by_cases hlt:mU v l < mU v b
            case pos =>
             have hcond:(b = []∨mU v l < mU v b):=.inr hlt
             have hd0:decide (mU v l < mU v b) = true:=decide_eq_true hlt
             clear hlt
             go_wp2_with fail
             skip
             replace m7:=ag m7
             replace m8:=ag m8
             replace m9:=ag m9
             replace m11:=ag m11
             replace m12:=ag m12
             replace mB:=bF mB
             replace HO:=HO.below (bF (Below.refl wr.heap.size wr))
             replace HSP:=Kd.AX HSP (bF (Below.refl wr.heap.size wr))
             replace HOl:=HOl.below (bF (Below.refl wr.heap.size wr))
             replace hCl:=Kd.bz hCl (bF (Below.refl wr.heap.size wr))
             replace hx0:(World.drew wr).cell? (ad.add j) = some (.slice (some adl) l.length cl):=hx0
             replace hCb:=Kd.bz hCb (bF (Below.refl wr.heap.size wr))
             refine jV (n:=28) (S:=fun w'=>w'.cell? ⟨g7,0,none⟩ = some (Z ab s.nx)∧w'.cell? ⟨g7,1,none⟩ = some (Z ab s.ny)∧w'.cell? ⟨g7,2,none⟩ = some (Z ab s.cell)∧w'.cell? ⟨g7,3,none⟩ = some (Z ab s.slot)∧w'.cell? ⟨g7,4,none⟩ = some (Z ab s.slots)∧w'.cell? ⟨g7,5,none⟩ = some (Z ab s.layers)∧w'.cell? ⟨g7,6,none⟩ = some (Z ab s.most)∧w'.cell? ⟨g7,7,none⟩ = some (.slice A7 s.bf.length c7)∧w'.cell? ⟨g7,8,none⟩ = some (.slice A8 s.aC.length c8)∧w'.cell? ⟨g8,0,none⟩ = some (Z ab v.speed)∧w'.cell? ⟨g8,1,none⟩ = some (Z ab v.bq)∧w'.cell? ⟨g8,2,none⟩ = some (Z ab v.use.f0)∧w'.cell? ⟨g8,3,none⟩ = some (Z ab v.use.f1)∧w'.cell? ⟨g8,4,none⟩ = some (Z ab v.aV.f0)∧w'.cell? ⟨g8,5,none⟩ = some (Z ab v.aV.f1)∧w'.cell? ⟨g8,6,none⟩ = some (Z ab v.reserve)∧w'.cell? ⟨g9,0,none⟩ = some (Z ab x.f0.f0)∧w'.cell? ⟨g9,1,none⟩ = some (Z ab x.f0.f1)∧w'.cell? ⟨g9,2,none⟩ = some (Z ab x.f1.f0)∧w'.cell? ⟨g9,3,none⟩ = some (Z ab x.f1.f1)∧w'.cell? ⟨g11,0,none⟩ = some (Z ab ev.f0)∧w'.cell? ⟨g11,1,none⟩ = some (Z ab ev.f1)∧w'.cell? ⟨g12,0,none⟩ = some (Z ab p.f0.f0.f0)∧w'.cell? ⟨g12,1,none⟩ = some (Z ab p.f0.f0.f1)∧w'.cell? ⟨g12,2,none⟩ = some (Z ab p.f0.f1.f0)∧w'.cell? ⟨g12,3,none⟩ = some (Z ab p.f0.f1.f1)∧w'.cell? ⟨g12,4,none⟩ = some (Z ab p.f1)∧w'.cell? ⟨g12,5,none⟩ = some (Z ab p.f2)∧w'.cell? (ad.add j) = some (.slice (some adl) l.length cl)) (ds:=[]) #[al,al,al,al,al,al,al,al,al,al,al,al,al,al,al,al,al,al,al,al,al,al,al,al,al,al,al,al] aT rfl rfl ⟨((ae m7 0).trans rfl),((ae m7 1).trans rfl),((ae m7 2).trans rfl),((ae m7 3).trans rfl),((ae m7 4).trans rfl),((ae m7 5).trans rfl),((ae m7 6).trans rfl),((ae m7 7).trans rfl),((ae m7 8).trans rfl),((ae m8 0).trans rfl),((ae m8 1).trans rfl),((ae m8 2).trans rfl),((ae m8 3).trans rfl),((ae m8 4).trans rfl),((ae m8 5).trans rfl),((ae m8 6).trans rfl),((ae m9 0).trans rfl),((ae m9 1).trans rfl),((ae m9 2).trans rfl),((ae m9 3).trans rfl),((ae m11 0).trans rfl),((ae m11 1).trans rfl),((ae m12 0).trans rfl),((ae m12 1).trans rfl),((ae m12 2).trans rfl),((ae m12 3).trans rfl),((ae m12 4).trans rfl),((ae m12 5).trans rfl),hx0⟩ (fun hHeld=>?_)
             generalize hWd:World.drew _ = Wx at m7 m8 m9 m11 m12 mB HO HSP HOl hCl hx0 hHeld hCb ⊢
             clear hWd
             refine dR (i:=0) (N:=some 64) aT ?_
             refine dR (i:=1) (N:=some 65) aT ?_
             refine dR (i:=2) (N:=some 66) aT ?_
             refine dR (i:=4) (N:=some 68) aT ?_
             refine dR (i:=5) (N:=some 69) aT ?_
             refine dR (i:=6) (N:=some 70) aT ?_
             refine dR (i:=10) (N:=some 74) aT ?_
             refine iT (i:=3) (N:=some 67) aT hHeld ?_
             refine iT (i:=7) (N:=some 71) aT hHeld ?_
             refine iT (i:=9) (N:=some 73) aT hHeld ?_
             refine iW (i:=8) (N:=some 72) #[ac,ac,ac,ac,ac,ac,ac,ac,ac,ac,ac,al,al,al,al,al,al,al,al,al,al,al,al,al,al,al,al,al] rfl rfl aT (by decide) (fun K hK=>?_)
             have jL:=kCl Wx hCl
             refine gY Try.func60 aT rfl #[.agg #[Z ab v.speed,Z ab v.bq,Z ab v.use.f0,Z ab v.use.f1,Z ab v.aV.f0,Z ab v.aV.f1,Z ab v.reserve],.slice (some adl) l.length cl] (by rfl) rfl rfl Ju ?_
             with_reducible refine (jL).mono ?_
             rintro e w8 ⟨rfl,hb⟩
             refine ⟨_,rfl,?_⟩
             clear jL
             replace HO:=HO.below hb
             replace HSP:=Kd.AX HSP hb
             replace HOl:=HOl.below hb
             replace hCl:=Kd.bz hCl hb
             replace hx0:=(hb.cell (bd _ _ hx0)).trans hx0
             replace hCb:=Kd.bz hCb hb
             replace m7:=ah m7 hb
             replace m8:=ah m8 hb
             replace m9:=ah m9 hb
             replace m11:=ah m11 hb
             replace m12:=ah m12 hb
             replace mB:=bI mB hb
             clear hb
             refine hK.out _ _ ⟨((ae m7 0).trans rfl),((ae m7 1).trans rfl),((ae m7 2).trans rfl),((ae m7 3).trans rfl),((ae m7 4).trans rfl),((ae m7 5).trans rfl),((ae m7 6).trans rfl),((ae m7 7).trans rfl),((ae m7 8).trans rfl),((ae m8 0).trans rfl),((ae m8 1).trans rfl),((ae m8 2).trans rfl),((ae m8 3).trans rfl),((ae m8 4).trans rfl),((ae m8 5).trans rfl),((ae m8 6).trans rfl),((ae m9 0).trans rfl),((ae m9 1).trans rfl),((ae m9 2).trans rfl),((ae m9 3).trans rfl),((ae m11 0).trans rfl),((ae m11 1).trans rfl),((ae m12 0).trans rfl),((ae m12 1).trans rfl),((ae m12 2).trans rfl),((ae m12 3).trans rfl),((ae m12 4).trans rfl),((ae m12 5).trans rfl),hx0⟩ (fun hHeld=>?_)
             clear hK K
             refine dQ aFB ?_
             refine iW (i:=11) (N:=some 75) #[ac,ac,ac,ac,ac,ac,ac,ac,ac,ac,ac,ac,al,al,al,al,al,al,al,al,al,al,al,al,al,al,al,al] rfl rfl aT (by decide) (fun K hK=>?_)
             have jL:=kCb w8 hCb
             refine gY Try.func60 aT rfl #[.agg #[Z ab v.speed,Z ab v.bq,Z ab v.use.f0,Z ab v.use.f1,Z ab v.aV.f0,Z ab v.aV.f1,Z ab v.reserve],.slice (some adb) b.length cb] (by rfl) rfl rfl Ju ?_
             with_reducible refine (jL).mono ?_
             rintro e w11 ⟨rfl,hb⟩
             refine ⟨_,rfl,?_⟩
             clear jL
             replace HO:=HO.below hb
             replace HSP:=Kd.AX HSP hb
             replace HOl:=HOl.below hb
             replace hCl:=Kd.bz hCl hb
             replace hx0:=(hb.cell (bd _ _ hx0)).trans hx0
             replace hCb:=Kd.bz hCb hb
             replace m7:=ah m7 hb
             replace m8:=ah m8 hb
             replace m9:=ah m9 hb
             replace m11:=ah m11 hb
             replace m12:=ah m12 hb
             replace mB:=bI mB hb
             clear hb
             refine hK.out _ _ ⟨((ae m7 0).trans rfl),((ae m7 1).trans rfl),((ae m7 2).trans rfl),((ae m7 3).trans rfl),((ae m7 4).trans rfl),((ae m7 5).trans rfl),((ae m7 6).trans rfl),((ae m7 7).trans rfl),((ae m7 8).trans rfl),((ae m8 0).trans rfl),((ae m8 1).trans rfl),((ae m8 2).trans rfl),((ae m8 3).trans rfl),((ae m8 4).trans rfl),((ae m8 5).trans rfl),((ae m8 6).trans rfl),((ae m9 0).trans rfl),((ae m9 1).trans rfl),((ae m9 2).trans rfl),((ae m9 3).trans rfl),((ae m11 0).trans rfl),((ae m11 1).trans rfl),((ae m12 0).trans rfl),((ae m12 1).trans rfl),((ae m12 2).trans rfl),((ae m12 3).trans rfl),((ae m12 4).trans rfl),((ae m12 5).trans rfl),hx0⟩ (fun hHeld=>?_)
             clear hK K
             refine dQ asE ?_
             refine dR (i:=12) (N:=some 76) aT ?_
             refine dR (i:=13) (N:=some 77) aT ?_
             refine dR (i:=14) (N:=some 78) aT ?_
             refine dR (i:=18) (N:=some 82) aT ?_
             refine dR (i:=20) (N:=some 84) aT ?_
             refine dR (i:=21) (N:=some 85) aT ?_
             refine dR (i:=22) (N:=some 86) aT ?_
             refine iT (i:=15) (N:=some 79) aT hHeld ?_
             refine iT (i:=16) (N:=some 80) aT hHeld ?_
             refine iT (i:=17) (N:=some 81) aT hHeld ?_
             refine iT (i:=19) (N:=some 83) aT hHeld ?_
             refine iT (i:=23) (N:=some 87) aT hHeld ?_
             refine iT (i:=24) (N:=some 88) aT hHeld ?_
             refine iW (i:=25) (N:=some 89) #[ac,ac,ac,ac,ac,ac,ac,ac,ac,ac,ac,ac,ac,ac,ac,ac,ac,ac,ac,ac,ac,ac,ac,ac,ac,ac,al,al] rfl rfl aT (by decide) (fun K hK=>?_)
             have jL:=kGd w11 mB hCl
             refine gY Try.func97 aT rfl #[.agg #[Z ab s.nx,Z ab s.ny,Z ab s.cell,Z ab s.slot,Z ab s.slots,Z ab s.layers,Z ab s.most,.slice A7 s.bf.length c7,.slice A8 s.aC.length c8],.agg #[Z ab v.speed,Z ab v.bq,Z ab v.use.f0,Z ab v.use.f1,Z ab v.aV.f0,Z ab v.aV.f1,Z ab v.reserve],.agg #[Z ab x.f0.f0,Z ab x.f0.f1,Z ab x.f1.f0,Z ab x.f1.f1],Z ab t,.agg #[Z ab ev.f0,Z ab ev.f1],.slice (some adl) l.length cl,.agg #[Z ab p.f0.f0.f0,Z ab p.f0.f0.f1,Z ab p.f0.f1.f0,Z ab p.f0.f1.f1,Z ab p.f1,Z ab p.f2]] (by rfl) rfl rfl Ju ?_
             with_reducible refine (jL).mono ?_
             rintro e w25 ⟨rfl,hb⟩
             refine ⟨_,rfl,?_⟩
             clear jL
             replace HO:=HO.below hb
             replace HSP:=Kd.AX HSP hb
             replace HOl:=HOl.below hb
             replace hCl:=Kd.bz hCl hb
             replace hx0:=(hb.cell (bd _ _ hx0)).trans hx0
             replace hCb:=Kd.bz hCb hb
             replace m7:=ah m7 hb
             replace m8:=ah m8 hb
             replace m9:=ah m9 hb
             replace m11:=ah m11 hb
             replace m12:=ah m12 hb
             replace mB:=bI mB hb
             clear hb
             refine hK.out _ _ ⟨((ae m7 0).trans rfl),((ae m7 1).trans rfl),((ae m7 2).trans rfl),((ae m7 3).trans rfl),((ae m7 4).trans rfl),((ae m7 5).trans rfl),((ae m7 6).trans rfl),((ae m7 7).trans rfl),((ae m7 8).trans rfl),((ae m8 0).trans rfl),((ae m8 1).trans rfl),((ae m8 2).trans rfl),((ae m8 3).trans rfl),((ae m8 4).trans rfl),((ae m8 5).trans rfl),((ae m8 6).trans rfl),((ae m9 0).trans rfl),((ae m9 1).trans rfl),((ae m9 2).trans rfl),((ae m9 3).trans rfl),((ae m11 0).trans rfl),((ae m11 1).trans rfl),((ae m12 0).trans rfl),((ae m12 1).trans rfl),((ae m12 2).trans rfl),((ae m12 3).trans rfl),((ae m12 4).trans rfl),((ae m12 5).trans rfl),hx0⟩ (fun hHeld=>?_)
             clear hK K
             refine dQ aFA ?_
             refine dR (i:=26) (N:=some 90) aT ?_
             refine dR (i:=27) (N:=some 91) aT ?_
             refine mi aT ?_
             try clear hHeld
             skip
             by_cases hpg:pg = 0
             case pos =>
              have hd1:(pg == 0) = true:=beq_iff_eq.2 hpg
              have hZ:=Lib.hid (hRF.out.trans (if_pos ⟨hcond,hpg⟩))
              clear hpg
              have azo:=hPB.out
              go_wp2
              skip
              go_roundw
              case rel=>exact ⟨j+1,_,by simp,hj2.out,HOl,Lib.hid (by rw [HF2.out,hZ.out]),hls.out,HSP,m7,m8,m9,m11,m12,mB⟩
              case measure=>simp [intOf];omega
             case neg =>
              have hd1:(pg == 0) = false:=beq_eq_false_iff_ne.2 hpg
              have hZ:=Lib.hid (hRF.out.trans (if_neg (fun h=>hpg h.2)))
              clear hpg
              have azo:=hPB.out
              go_wp2
              skip
              go_roundw
              case rel=>exact ⟨j+1,_,by simp,hj2.out,HO,Lib.hid (by rw [HF2.out,hZ.out]),hb3,HSP,m7,m8,m9,m11,m12,mB⟩
              case measure=>simp [intOf];omega
            case neg =>
             have hZ:=Lib.hid (hRF.out.trans (if_neg (fun h=>h.1.elim hbe hlt)))
             have hd0:decide (mU v l < mU v b) = false:=decide_eq_false hlt
             clear hlt
             go_wp2_with fail
             skip
             replace m7:=ag m7
             replace m8:=ag m8
             replace m9:=ag m9
             replace m11:=ag m11
             replace m12:=ag m12
             replace mB:=bF mB
             replace HO:=HO.below (bF (Below.refl wr.heap.size wr))
             replace HSP:=Kd.AX HSP (bF (Below.refl wr.heap.size wr))
             replace HOl:=HOl.below (bF (Below.refl wr.heap.size wr))
             replace hCl:=Kd.bz hCl (bF (Below.refl wr.heap.size wr))
             replace hx0:(World.drew wr).cell? (ad.add j) = some (.slice (some adl) l.length cl):=hx0
             replace hCb:=Kd.bz hCb (bF (Below.refl wr.heap.size wr))
             refine jV (n:=28) (S:=fun w'=>w'.cell? ⟨g7,0,none⟩ = some (Z ab s.nx)∧w'.cell? ⟨g7,1,none⟩ = some (Z ab s.ny)∧w'.cell? ⟨g7,2,none⟩ = some (Z ab s.cell)∧w'.cell? ⟨g7,3,none⟩ = some (Z ab s.slot)∧w'.cell? ⟨g7,4,none⟩ = some (Z ab s.slots)∧w'.cell? ⟨g7,5,none⟩ = some (Z ab s.layers)∧w'.cell? ⟨g7,6,none⟩ = some (Z ab s.most)∧w'.cell? ⟨g7,7,none⟩ = some (.slice A7 s.bf.length c7)∧w'.cell? ⟨g7,8,none⟩ = some (.slice A8 s.aC.length c8)∧w'.cell? ⟨g8,0,none⟩ = some (Z ab v.speed)∧w'.cell? ⟨g8,1,none⟩ = some (Z ab v.bq)∧w'.cell? ⟨g8,2,none⟩ = some (Z ab v.use.f0)∧w'.cell? ⟨g8,3,none⟩ = some (Z ab v.use.f1)∧w'.cell? ⟨g8,4,none⟩ = some (Z ab v.aV.f0)∧w'.cell? ⟨g8,5,none⟩ = some (Z ab v.aV.f1)∧w'.cell? ⟨g8,6,none⟩ = some (Z ab v.reserve)∧w'.cell? ⟨g9,0,none⟩ = some (Z ab x.f0.f0)∧w'.cell? ⟨g9,1,none⟩ = some (Z ab x.f0.f1)∧w'.cell? ⟨g9,2,none⟩ = some (Z ab x.f1.f0)∧w'.cell? ⟨g9,3,none⟩ = some (Z ab x.f1.f1)∧w'.cell? ⟨g11,0,none⟩ = some (Z ab ev.f0)∧w'.cell? ⟨g11,1,none⟩ = some (Z ab ev.f1)∧w'.cell? ⟨g12,0,none⟩ = some (Z ab p.f0.f0.f0)∧w'.cell? ⟨g12,1,none⟩ = some (Z ab p.f0.f0.f1)∧w'.cell? ⟨g12,2,none⟩ = some (Z ab p.f0.f1.f0)∧w'.cell? ⟨g12,3,none⟩ = some (Z ab p.f0.f1.f1)∧w'.cell? ⟨g12,4,none⟩ = some (Z ab p.f1)∧w'.cell? ⟨g12,5,none⟩ = some (Z ab p.f2)∧w'.cell? (ad.add j) = some (.slice (some adl) l.length cl)) (ds:=[]) #[al,al,al,al,al,al,al,al,al,al,al,al,al,al,al,al,al,al,al,al,al,al,al,al,al,al,al,al] aT rfl rfl ⟨((ae m7 0).trans rfl),((ae m7 1).trans rfl),((ae m7 2).trans rfl),((ae m7 3).trans rfl),((ae m7 4).trans rfl),((ae m7 5).trans rfl),((ae m7 6).trans rfl),((ae m7 7).trans rfl),((ae m7 8).trans rfl),((ae m8 0).trans rfl),((ae m8 1).trans rfl),((ae m8 2).trans rfl),((ae m8 3).trans rfl),((ae m8 4).trans rfl),((ae m8 5).trans rfl),((ae m8 6).trans rfl),((ae m9 0).trans rfl),((ae m9 1).trans rfl),((ae m9 2).trans rfl),((ae m9 3).trans rfl),((ae m11 0).trans rfl),((ae m11 1).trans rfl),((ae m12 0).trans rfl),((ae m12 1).trans rfl),((ae m12 2).trans rfl),((ae m12 3).trans rfl),((ae m12 4).trans rfl),((ae m12 5).trans rfl),hx0⟩ (fun hHeld=>?_)
             generalize hWd:World.drew _ = Wx at m7 m8 m9 m11 m12 mB HO HSP HOl hCl hx0 hHeld hCb ⊢
             clear hWd
             refine dR (i:=0) (N:=some 64) aT ?_
             refine dR (i:=1) (N:=some 65) aT ?_
             refine dR (i:=2) (N:=some 66) aT ?_
             refine dR (i:=4) (N:=some 68) aT ?_
             refine dR (i:=5) (N:=some 69) aT ?_
             refine dR (i:=6) (N:=some 70) aT ?_
             refine dR (i:=10) (N:=some 74) aT ?_
             refine iT (i:=3) (N:=some 67) aT hHeld ?_
             refine iT (i:=7) (N:=some 71) aT hHeld ?_
             refine iT (i:=9) (N:=some 73) aT hHeld ?_
             refine iW (i:=8) (N:=some 72) #[ac,ac,ac,ac,ac,ac,ac,ac,ac,ac,ac,al,al,al,al,al,al,al,al,al,al,al,al,al,al,al,al,al] rfl rfl aT (by decide) (fun K hK=>?_)
             have jL:=kCl Wx hCl
             refine gY Try.func60 aT rfl #[.agg #[Z ab v.speed,Z ab v.bq,Z ab v.use.f0,Z ab v.use.f1,Z ab v.aV.f0,Z ab v.aV.f1,Z ab v.reserve],.slice (some adl) l.length cl] (by rfl) rfl rfl Ju ?_
             with_reducible refine (jL).mono ?_
             rintro e w8 ⟨rfl,hb⟩
             refine ⟨_,rfl,?_⟩
             clear jL
             replace HO:=HO.below hb
             replace HSP:=Kd.AX HSP hb
             replace HOl:=HOl.below hb
             replace hCl:=Kd.bz hCl hb
             replace hx0:=(hb.cell (bd _ _ hx0)).trans hx0
             replace hCb:=Kd.bz hCb hb
             replace m7:=ah m7 hb
             replace m8:=ah m8 hb
             replace m9:=ah m9 hb
             replace m11:=ah m11 hb
             replace m12:=ah m12 hb
             replace mB:=bI mB hb
             clear hb
             refine hK.out _ _ ⟨((ae m7 0).trans rfl),((ae m7 1).trans rfl),((ae m7 2).trans rfl),((ae m7 3).trans rfl),((ae m7 4).trans rfl),((ae m7 5).trans rfl),((ae m7 6).trans rfl),((ae m7 7).trans rfl),((ae m7 8).trans rfl),((ae m8 0).trans rfl),((ae m8 1).trans rfl),((ae m8 2).trans rfl),((ae m8 3).trans rfl),((ae m8 4).trans rfl),((ae m8 5).trans rfl),((ae m8 6).trans rfl),((ae m9 0).trans rfl),((ae m9 1).trans rfl),((ae m9 2).trans rfl),((ae m9 3).trans rfl),((ae m11 0).trans rfl),((ae m11 1).trans rfl),((ae m12 0).trans rfl),((ae m12 1).trans rfl),((ae m12 2).trans rfl),((ae m12 3).trans rfl),((ae m12 4).trans rfl),((ae m12 5).trans rfl),hx0⟩ (fun hHeld=>?_)
             clear hK K
             refine dQ aFB ?_
             refine iW (i:=11) (N:=some 75) #[ac,ac,ac,ac,ac,ac,ac,ac,ac,ac,ac,ac,al,al,al,al,al,al,al,al,al,al,al,al,al,al,al,al] rfl rfl aT (by decide) (fun K hK=>?_)
             have jL:=kCb w8 hCb
             refine gY Try.func60 aT rfl #[.agg #[Z ab v.speed,Z ab v.bq,Z ab v.use.f0,Z ab v.use.f1,Z ab v.aV.f0,Z ab v.aV.f1,Z ab v.reserve],.slice (some adb) b.length cb] (by rfl) rfl rfl Ju ?_
             with_reducible refine (jL).mono ?_
             rintro e w11 ⟨rfl,hb⟩
             refine ⟨_,rfl,?_⟩
             clear jL
             replace HO:=HO.below hb
             replace HSP:=Kd.AX HSP hb
             replace HOl:=HOl.below hb
             replace hCl:=Kd.bz hCl hb
             replace hx0:=(hb.cell (bd _ _ hx0)).trans hx0
             replace hCb:=Kd.bz hCb hb
             replace m7:=ah m7 hb
             replace m8:=ah m8 hb
             replace m9:=ah m9 hb
             replace m11:=ah m11 hb
             replace m12:=ah m12 hb
             replace mB:=bI mB hb
             clear hb
             refine hK.out _ _ ⟨((ae m7 0).trans rfl),((ae m7 1).trans rfl),((ae m7 2).trans rfl),((ae m7 3).trans rfl),((ae m7 4).trans rfl),((ae m7 5).trans rfl),((ae m7 6).trans rfl),((ae m7 7).trans rfl),((ae m7 8).trans rfl),((ae m8 0).trans rfl),((ae m8 1).trans rfl),((ae m8 2).trans rfl),((ae m8 3).trans rfl),((ae m8 4).trans rfl),((ae m8 5).trans rfl),((ae m8 6).trans rfl),((ae m9 0).trans rfl),((ae m9 1).trans rfl),((ae m9 2).trans rfl),((ae m9 3).trans rfl),((ae m11 0).trans rfl),((ae m11 1).trans rfl),((ae m12 0).trans rfl),((ae m12 1).trans rfl),((ae m12 2).trans rfl),((ae m12 3).trans rfl),((ae m12 4).trans rfl),((ae m12 5).trans rfl),hx0⟩ (fun hHeld=>?_)
             clear hK K
             refine dQ asE ?_
             refine dR (i:=12) (N:=some 76) aT ?_
             refine dR (i:=13) (N:=some 77) aT ?_
             refine dR (i:=14) (N:=some 78) aT ?_
             refine j6 (i:=15) (N:=some 79) (v:=undef) (a':=?_) #[ac,ac,ac,ac,ac,ac,ac,ac,ac,ac,ac,ac,ac,ac,ac,ac,al,al,al,al,al,al,al,al,al,al,al,al] rfl rfl aT (fun _ _ _ h=>h) (Or.inr ⟨by rfl,rfl⟩) ?_ ?_
             rotate_left
             ·simp only [Act.put,ap,aq,ar,eY,fo]
              rfl
             refine j6 (i:=16) (N:=some 80) (v:=undef) (a':=?_) #[ac,ac,ac,ac,ac,ac,ac,ac,ac,ac,ac,ac,ac,ac,ac,ac,ac,al,al,al,al,al,al,al,al,al,al,al] rfl rfl aT (fun _ _ _ h=>h) (Or.inr ⟨by rfl,rfl⟩) ?_ ?_
             rotate_left
             ·simp only [Act.put,ap,aq,ar,eY,fo]
              rfl
             refine j6 (i:=17) (N:=some 81) (v:=undef) (a':=?_) #[ac,ac,ac,ac,ac,ac,ac,ac,ac,ac,ac,ac,ac,ac,ac,ac,ac,ac,al,al,al,al,al,al,al,al,al,al] rfl rfl aT (fun _ _ _ h=>h) (Or.inr ⟨by rfl,rfl⟩) ?_ ?_
             rotate_left
             ·simp only [Act.put,ap,aq,ar,eY,fo]
              rfl
             refine j6 (i:=18) (N:=some 82) (v:=undef) (a':=?_) #[ac,ac,ac,ac,ac,ac,ac,ac,ac,ac,ac,ac,ac,ac,ac,ac,ac,ac,ac,al,al,al,al,al,al,al,al,al] rfl rfl aT (fun _ _ _ h=>h) (Or.inr ⟨by rfl,rfl⟩) ?_ ?_
             rotate_left
             ·simp only [Act.put,ap,aq,ar,eY,fo]
              rfl
             refine j6 (i:=19) (N:=some 83) (v:=undef) (a':=?_) #[ac,ac,ac,ac,ac,ac,ac,ac,ac,ac,ac,ac,ac,ac,ac,ac,ac,ac,ac,ac,al,al,al,al,al,al,al,al] rfl rfl aT (fun _ _ _ h=>h) (Or.inr ⟨by rfl,rfl⟩) ?_ ?_
             rotate_left
             ·simp only [Act.put,ap,aq,ar,eY,fo]
              rfl
             refine j6 (i:=20) (N:=some 84) (v:=undef) (a':=?_) #[ac,ac,ac,ac,ac,ac,ac,ac,ac,ac,ac,ac,ac,ac,ac,ac,ac,ac,ac,ac,ac,al,al,al,al,al,al,al] rfl rfl aT (fun _ _ _ h=>h) (Or.inr ⟨by rfl,rfl⟩) ?_ ?_
             rotate_left
             ·simp only [Act.put,ap,aq,ar,eY,fo]
              rfl
             refine j6 (i:=21) (N:=some 85) (v:=undef) (a':=?_) #[ac,ac,ac,ac,ac,ac,ac,ac,ac,ac,ac,ac,ac,ac,ac,ac,ac,ac,ac,ac,ac,ac,al,al,al,al,al,al] rfl rfl aT (fun _ _ _ h=>h) (Or.inr ⟨by rfl,rfl⟩) ?_ ?_
             rotate_left
             ·simp only [Act.put,ap,aq,ar,eY,fo]
              rfl
             refine j6 (i:=22) (N:=some 86) (v:=undef) (a':=?_) #[ac,ac,ac,ac,ac,ac,ac,ac,ac,ac,ac,ac,ac,ac,ac,ac,ac,ac,ac,ac,ac,ac,ac,al,al,al,al,al] rfl rfl aT (fun _ _ _ h=>h) (Or.inr ⟨by rfl,rfl⟩) ?_ ?_
             rotate_left
             ·simp only [Act.put,ap,aq,ar,eY,fo]
              rfl
             refine j6 (i:=23) (N:=some 87) (v:=undef) (a':=?_) #[ac,ac,ac,ac,ac,ac,ac,ac,ac,ac,ac,ac,ac,ac,ac,ac,ac,ac,ac,ac,ac,ac,ac,ac,al,al,al,al] rfl rfl aT (fun _ _ _ h=>h) (Or.inr ⟨by rfl,rfl⟩) ?_ ?_
             rotate_left
             ·simp only [Act.put,ap,aq,ar,eY,fo]
              rfl
             refine j6 (i:=24) (N:=some 88) (v:=undef) (a':=?_) #[ac,ac,ac,ac,ac,ac,ac,ac,ac,ac,ac,ac,ac,ac,ac,ac,ac,ac,ac,ac,ac,ac,ac,ac,ac,al,al,al] rfl rfl aT (fun _ _ _ h=>h) (Or.inr ⟨by rfl,rfl⟩) ?_ ?_
             rotate_left
             ·simp only [Act.put,ap,aq,ar,eY,fo]
              rfl
             refine j6 (i:=25) (N:=some 89) (v:=undef) (a':=?_) #[ac,ac,ac,ac,ac,ac,ac,ac,ac,ac,ac,ac,ac,ac,ac,ac,ac,ac,ac,ac,ac,ac,ac,ac,ac,ac,al,al] rfl rfl aT (fun _ _ _ h=>h) (Or.inr ⟨by rfl,rfl⟩) ?_ ?_
             rotate_left
             ·simp only [Act.put,ap,aq,ar,eY,fo]
              rfl
             refine j6 (i:=26) (N:=some 90) (v:=undef) (a':=?_) #[ac,ac,ac,ac,ac,ac,ac,ac,ac,ac,ac,ac,ac,ac,ac,ac,ac,ac,ac,ac,ac,ac,ac,ac,ac,ac,ac,al] rfl rfl aT (fun _ _ _ h=>h) (Or.inr ⟨by rfl,rfl⟩) ?_ ?_
             rotate_left
             ·simp only [Act.put,ap,aq,ar,eY,fo]
              rfl
             refine dR (i:=27) (N:=some 91) aT ?_
             refine mi aT ?_
             try clear hHeld
             skip
             have azo:=hPB.out
             go_wp2
             skip
             go_roundw
             case rel=>exact ⟨j+1,_,by simp,hj2.out,HO,Lib.hid (by rw [HF2.out,hZ.out]),hb3,HSP,m7,m8,m9,m11,m12,mB⟩
             case measure=>simp [intOf];omega
        case neg =>
         have kl:decide ((k:Int)+1≤d) = false:=decide_eq_false hkd
         obtain rfl:k = d.toNat:=by omega
         have HB3:Hid ((rbV s v x t ev p d.toNat).length≤3):=Lib.hid (Nat.le_trans (acO _) (by omega))
         generalize rbV s v x t ev p d.toNat = b at*
         by_cases hbe:b = []
         case pos =>
          have HZ:=Lib.hid (HX7.out.trans (if_pos hbe))
          have ho_:=HO.2 hbe
          subst ho_
          clear HX7
          go_wp2
          go_ret3
          exact ⟨_,qi,Zk,Nl⟩
         case neg =>
          have HZ:=Lib.hid (HX7.out.trans (if_neg hbe))
          clear HX7
          obtain ⟨adb,cb,rfl,hcb,hCb⟩:=HO.some hbe
          have kCb:=fun W (h2:Kd.C yn W (some adb) b.length b)=>dO.calls 200000 v.speed v.bq v.use.f0 v.use.f1 v.aV.f0 v.aV.f1 v.reserve (some adb) cb b (mU v b) W h2 hcb (Xg hVB b (by have h_:=HB3.out;omega) 200000 (by omega))
          obtain ⟨LW,LX,MS,MU,Ra,Rb,Rc⟩:=Ci m8
          go_wp2_with fail
          clear LW LX MS MU Ra Rb Rc
          skip
          have hcon:=kCb wr hCb
          (with_reducible refine hcon.mono ?_)
          clear hcon
          rintro e W9 ⟨rfl,hb⟩
          replace HO:=HO.below hb
          replace m7:=ah m7 hb
          replace m8:=ah m8 hb
          replace m9:=ah m9 hb
          replace m11:=ah m11 hb
          replace m12:=ah m12 hb
          replace mB:=bI mB hb
          clear hb
          have a4z:w.heap.size≤W9.heap.size:=mB.size
          go_wp2
          skip
          go_ret3
          exact ⟨_,qi,by rw [HZ.out];exact HO.1,mB⟩
end Go.Proofs.Ytmhaiihjfgfaoaa.Gl
end
section
namespace Go.Proofs.Ytmhaiihjfgfaoaa.Pr
open Go.RowKit Go.Proofs.YtmhaiihjfgfaoaaW.bu Go.Proofs.YtmhaiihjfgfaoaaW.dB Go.Proofs.YtmhaiihjfgfaoaaW.ek Go.Proofs.Ytmhaiihjfgfaoaa.Gl
def kY.f (ai:Int) (aj:Int) (az:Int) (aA:Int) (aI:Int) (aD:Int) (aJ:Int) (aX:List Bool) (aG:List (qK)) (aQ:Int) (aN:Int) (bC:Int) (bD:Int) (bU:Int) (bV:Int) (bW:Int) (cO:Int) (cZ:Int) (dh:Int) (di:Int) (a3:Int) (fE:Int) (eZ:Int) (Xa:Int) (Xb:Int) (Xc:Int) (Xd:Int) (Xe:Int) (Xf:Int) (a6:Int):Option ((List (gU)) × Int × Int):=if aG.length≤100000 then some (Fp ⟨ai,aj,az,aA,aI,aD,aJ,aX,aG⟩ ⟨aQ,aN,⟨bC,bD⟩,⟨bU,bV⟩,bW⟩ ⟨⟨cO,cZ⟩,⟨dh,di⟩⟩ a3 ⟨fE,eZ⟩ ⟨⟨⟨Xa,Xb⟩,⟨Xc,Xd⟩⟩,Xe,Xf⟩ a6) else none
theorem kY.calls (ai:Int) (aj:Int) (az:Int) (aA:Int) (aI:Int) (aD:Int) (aJ:Int) (dY:Option Addr) (dS:Nat) (aX:List Bool) (dV:Option Addr) (dU:Nat) (aG:List (qK)) (aQ:Int) (aN:Int) (bC:Int) (bD:Int) (bU:Int) (bV:Int) (bW:Int) (cO:Int) (cZ:Int) (dh:Int) (di:Int) (a3:Int) (fE:Int) (eZ:Int) (Xa:Int) (Xb:Int) (Xc:Int) (Xd:Int) (Xe:Int) (Xf:Int) (a6:Int) (r1:List (gU)) (r2:Int) (r3:Int) (w:ao) (jC:Kd.C Kd.bool w dY aX.length aX) (jD:aX.length≤dS) (jE:Kd.C Dt w dV aG.length aG) (jF:aG.length≤dU) (h:kY.f ai aj az aA aI aD aJ aX aG aQ aN bC bD bU bV bW cO cZ dh di a3 fE eZ Xa Xb Xc Xd Xe Xf a6 = some (r1,r2,r3)):
 Calls Try.prog 58 #[.agg #[Z ab ai,Z ab aj,Z ab az,Z ab aA,Z ab aI,Z ab aD,Z ab aJ,.slice dY aX.length dS,.slice dV aG.length dU],.agg #[Z ab aQ,Z ab aN,Z ab bC,Z ab bD,Z ab bU,Z ab bV,Z ab bW],.agg #[Z ab cO,Z ab cZ,Z ab dh,Z ab di],Z ab a3,.agg #[Z ab fE,Z ab eZ],.agg #[Z ab Xa,Z ab Xb,Z ab Xc,Z ab Xd,Z ab Xe,Z ab Xf],Z ab a6] w fun e w'=>∃ QH:Value,e = .returned (.tuple #[QH,Z ab r2,Z ab r3])∧Kd.R yn 33 w' w.heap.size (fun _=>True) QH r1∧Below w.heap.size w w':=by
 unfold kY.f at h
 by_cases Jn:aG.length≤100000
 ·rw [if_pos Jn] at h
  have e_:=bh h
  have q_:=anK ⟨ai,aj,az,aA,aI,aD,aJ,aX,aG⟩ ⟨aQ,aN,⟨bC,bD⟩,⟨bU,bV⟩,bW⟩ ⟨⟨cO,cZ⟩,⟨dh,di⟩⟩ a3 ⟨fE,eZ⟩ ⟨⟨⟨Xa,Xb⟩,⟨Xc,Xd⟩⟩,Xe,Xf⟩ a6 Jn dY dV dS dU w jD jC jF jE
  rw [e_] at q_
  exact q_
 ·rw [if_neg Jn] at h
  cases h
end Go.Proofs.Ytmhaiihjfgfaoaa.Pr
end
section
namespace Go.Proofs.Ytmhaiihjfgfaoaa.Pr
open Go.RowKit Go.Proofs.YtmhaiihjfgfaoaaW.bu Go.Proofs.YtmhaiihjfgfaoaaW.dB Go.Proofs.YtmhaiihjfgfaoaaW.ek
attribute [local go_sem] iq iw jq jr iy
def bB.j0:Nat→Int→List (gU)→Int→Bool→Int→Int→Int→Int→Int→Int→Int→List Bool→List (qK)→Int→Int→Int→Int→Int→Int→Int→Int→Int→Int→Int→Int→Int→Int→Int→Int→Int→Int→Int→Option (Bool)
 |0,_,_,_,_,_,_,_,_,_,_,_,_,_,_,_,_,_,_,_,_,_,_,_,_,_,_,_,_,_,_,_,_=>none
 |k+1,x3,x5,x7,x34,UN,UO,UQ,UR,UT,UU,UW,UX,UY,UZ,U0,U1,U2,U3,U4,U5,U6,U7,U8,U9,Va,Vb,Vd,Ve,Vf,Vg,Vh,Vi=>if x34 = true then ((bS.f k).bind fun anL=>(some anL)) else ((vY.f UN UO UQ UR UT UU UW UX UY UZ U0 U1 U2 U3 U4 U5 U6 U7 U8 U9 x3 Va Vb Vd Ve Vf Vg Vh Vi x7).bind fun Xk=>((kY.f UN UO UQ UR UT UU UW UX UY UZ U0 U1 U2 U3 U4 U5 U6 U7 U8 U9 x3 Va Vb Vd Ve Vf Vg Vh Vi x7).bind fun Kr=>((mR.f UN UO UQ UR UT UU UW UX UY UZ U0 U1 U2 U3 U4 U5 U6 U7 U8 U9 x3 Va Vb x5 Vd Ve Vf Vg Vh Vi).bind fun Me=>((iD.f k UN UO UQ UR UT UU UW UX UY UZ U0 U1 U2 U3 U4 U5 U6 U7 U8 U9 x3 Va Vb x5 Vd Ve Vf Vg Vh Vi).bind fun Kt=>(if Me = Kt then ((dE.f k Xk.1 Kr.1).bind fun PQ=>(if PQ = true then (if Xk.2.1 = Kr.2.1 then (if Xk.2.2 = Kr.2.2 then ((bS.f k).bind fun Jr=>(some Jr)) else (some false)) else (some false)) else (some false))) else (some false))))))
def bB.f (k:Nat) (ai:Int) (aj:Int) (az:Int) (aA:Int) (aI:Int) (aD:Int) (aJ:Int) (aX:List Bool) (aG:List (qK)) (aQ:Int) (aN:Int) (bC:Int) (bD:Int) (bU:Int) (bV:Int) (bW:Int) (cO:Int) (cZ:Int) (dh:Int) (di:Int) (a3:Int) (fE:Int) (eZ:Int) (l5:List (gU)) (jh:Int) (ji:Int) (jk:Int) (jl:Int) (jm:Int) (jo:Int) (a7:Int):Option (Bool):=(jZ.f ai aj az aA aI aD aJ aX aG).bind fun anM=>(if anM = true then (bB.j0 k a3 l5 a7 true ai aj az aA aI aD aJ aX aG aQ aN bC bD bU bV bW cO cZ dh di fE eZ jh ji jk jl jm jo) else (if (l5.length:Int) > 10 then (bB.j0 k a3 l5 a7 true ai aj az aA aI aD aJ aX aG aQ aN bC bD bU bV bW cO cZ dh di fE eZ jh ji jk jl jm jo) else ((kX.f ai aj az aA aI aD aJ aX aG a7).bind fun Xl=>(bB.j0 k a3 l5 a7 Xl ai aj az aA aI aD aJ aX aG aQ aN bC bD bU bV bW cO cZ dh di fE eZ jh ji jk jl jm jo))))
def bB.T5:Bool × List (List Nat × List Nat):=(true,[([],[]),([],[]),([],[]),([],[]),([],[]),([],[]),([],[]),([0,1,2,3,4,5,6],[0,1,2,3,4,5,6]),([],[]),([],[]),([],[]),([],[]),([],[]),([],[]),([],[]),([8,9,10,11,12,13,14,7],[8,9,10,11,12,13,14]),([7,15],[7,15]),([16,15],[16]),([17],[17]),([17],[17]),([18,19,17,17],[17,18,19]),([17,20],[17,20]),([21,20],[21]),([22],[22]),([22],[22]),([23,24,22],[22,23,24]),([22,25],[22,25]),([26,22],[26]),([27],[27]),([27],[27]),([28,29,27],[27,28,29]),([27,30],[27,30]),([31,27],[31]),([32,32],[32]),([32,33],[32,33]),([34,33,0,1,2,3,4,5,6,7,8,9,10,11,12,13,14,15,16,17,18,19,20,21,22,23,24,25,26,27,28,29,30,31,32,33,34],[34])])
def bB.B5:List Nat:=[0,0,0,0,0,0,0,127,0,0,0,0,0,0,0,32767,65535,131071,262143,262143,1048575,2097151,4194303,8388607,8388607,33554431,67108863,134217727,268435455,268435455,1073741823,2147483647,4294967295,8589934591,17179869183,34359738367]
theorem bB.abz:rX .any (opsOf Try.f14 5) = bB.T5:=by kernel_rfl
theorem bB.OY:oF bB.T5.2 bB.B5 = true:=by kernel_rfl
theorem bB.calls (k:Nat) (ai:Int) (aj:Int) (az:Int) (aA:Int) (aI:Int) (aD:Int) (aJ:Int) (dY:Option Addr) (dS:Nat) (aX:List Bool) (dV:Option Addr) (dU:Nat) (aG:List (qK)) (aQ:Int) (aN:Int) (bC:Int) (bD:Int) (bU:Int) (bV:Int) (bW:Int) (cO:Int) (cZ:Int) (dh:Int) (di:Int) (a3:Int) (fE:Int) (eZ:Int) (A5:Option Addr) (c5:Nat) (l5:List (gU)) (jh:Int) (ji:Int) (jk:Int) (jl:Int) (jm:Int) (jo:Int) (a7:Int) (r:Bool) (w:ao) (jC:Kd.C Kd.bool w dY aX.length aX) (jD:aX.length≤dS) (jE:Kd.C Dt w dV aG.length aG) (jF:aG.length≤dU) (hr5:Kd.C yn w A5 l5.length l5) (hc5:l5.length≤c5) (h:bB.f k ai aj az aA aI aD aJ aX aG aQ aN bC bD bU bV bW cO cZ dh di a3 fE eZ l5 jh ji jk jl jm jo a7 = some r) (hr_:af (r = true)):
 Calls Try.prog 14 #[.agg #[Z ab ai,Z ab aj,Z ab az,Z ab aA,Z ab aI,Z ab aD,Z ab aJ,.slice dY aX.length dS,.slice dV aG.length dU],.agg #[Z ab aQ,Z ab aN,Z ab bC,Z ab bD,Z ab bU,Z ab bV,Z ab bW],.agg #[Z ab cO,Z ab cZ,Z ab dh,Z ab di],Z ab a3,.agg #[Z ab fE,Z ab eZ],.slice A5 l5.length c5,.agg #[Z ab jh,Z ab ji,Z ab jk,Z ab jl,Z ab jm,Z ab jo],Z ab a7] w fun e w'=>e = .returned (.bool r)∧Below w.heap.size w w':=by
 have xS:=Try.underlying25
 have vo:=Try.underlying29
 have qj:=Try.underlying31
 have oO:=Try.underlying27
 have XP:=Try.underlying81
 have iI:=af.mk jC
 have iO:=af.mk jD
 clear jC jD
 have iB:=af.mk jE
 have iP:=af.mk jF
 clear jE jF
 have HR5:=af.mk hr5
 have HC5:=af.mk hc5
 clear hr5 hc5
 have HB:=af.mk (Below.refl w.heap.size w)
 have H:((jZ.f ai aj az aA aI aD aJ aX aG).bind fun anM=>(if anM = true then (bB.j0 k a3 l5 a7 true ai aj az aA aI aD aJ aX aG aQ aN bC bD bU bV bW cO cZ dh di fE eZ jh ji jk jl jm jo) else (if (l5.length:Int) > 10 then (bB.j0 k a3 l5 a7 true ai aj az aA aI aD aJ aX aG aQ aN bC bD bU bV bW cO cZ dh di fE eZ jh ji jk jl jm jo) else ((kX.f ai aj az aA aI aD aJ aX aG a7).bind fun Xl=>(bB.j0 k a3 l5 a7 Xl ai aj az aA aI aD aJ aX aG aQ aN bC bD bU bV bW cO cZ dh di fE eZ jh ji jk jl jm jo))))) = some r:=h
 clear h
 have HC9:=af.mk H
 clear H
 go_enter Try.func14,Try.ntmps14
 go_upto_region 1 with (first|((with_reducible refine av (N:=8) rfl ?_);(try (refine pU (by rfl) ?_;dsimp only));refine ak (by rfl) (N:=8) (by rfl) (cs:=#[Z ab ai,Z ab aj,Z ab az,Z ab aA,Z ab aI,Z ab aD,Z ab aJ,.slice dY aX.length dS,.slice dV aG.length dU]) (t:=25) fU ?_;intro Mt hg w10 ay hb;have ko:=af.mk (ay);have a4A:=bY HB hg;have a4B:=bY HB hg;replace HB:=dz HB hb;clear hb ay hg)|((with_reducible refine av (N:=9) rfl ?_);(try (refine pU (by rfl) ?_;dsimp only));refine ak (by rfl) (N:=9) (by rfl) (cs:=#[Z ab aQ,Z ab aN,Z ab bC,Z ab bD,Z ab bU,Z ab bV,Z ab bW]) (t:=29) fU ?_;intro RU hg w11 ay hb;have ma:=af.mk (ay);have a4C:=bY HB hg;have a4D:=bY HB hg;have LH:=fG ko hg;have LJ:=fH ko hg;replace ko:=bn ko hb;replace HB:=dz HB hb;clear hb ay hg)|((with_reducible refine av (N:=10) rfl ?_);(try (refine pU (by rfl) ?_;dsimp only));refine ak (by rfl) (N:=10) (by rfl) (cs:=#[Z ab cO,Z ab cZ,Z ab dh,Z ab di]) (t:=31) fU ?_;intro afX hg Ja ay hb;have mZ:=af.mk (ay);have a4E:=bY HB hg;have a4F:=bY HB hg;have LK:=fG ko hg;have LM:=fH ko hg;have anN:=fG ma hg;have anO:=fH ma hg;replace ko:=bn ko hb;replace ma:=bn ma hb;replace HB:=dz HB hb;clear hb ay hg)|((with_reducible refine av (N:=12) rfl ?_);(try (refine pU (by rfl) ?_;dsimp only));refine ak (by rfl) (N:=12) (by rfl) (cs:=#[Z ab fE,Z ab eZ]) (t:=27) fU ?_;intro ash hg GK ay hb;have nS:=af.mk (ay);have a4G:=bY HB hg;have a4H:=bY HB hg;have LP:=fG ko hg;have LQ:=fH ko hg;have anP:=fG ma hg;have anQ:=fH ma hg;have anR:=fG mZ hg;have anS:=fH mZ hg;replace ko:=bn ko hb;replace ma:=bn ma hb;replace mZ:=bn mZ hb;replace HB:=dz HB hb;clear hb ay hg)|((with_reducible refine av (N:=14) rfl ?_);(try (refine pU (by rfl) ?_;dsimp only));refine ak (by rfl) (N:=14) (by rfl) (cs:=#[Z ab jh,Z ab ji,Z ab jk,Z ab jl,Z ab jm,Z ab jo]) (t:=81) fU ?_;intro Xm hg w14 ay hb;have oN:=af.mk (ay);have a4I:=bY HB hg;have a4J:=bY HB hg;have LU:=fG ko hg;have LV:=fH ko hg;have anT:=fG ma hg;have anU:=fH ma hg;have anV:=fG mZ hg;have anW:=fH mZ hg;have anX:=fG nS hg;have anY:=fH nS hg;replace ko:=bn ko hb;replace ma:=bn ma hb;replace mZ:=bn mZ hb;replace nS:=bn nS hb;replace HB:=dz HB hb;clear hb ay hg))
 (try simp only [Act.put,ap,aq,ar])
 go_cut [34] (fun v34 wc=>∃ (kq:Nat) (al1:Bool),v34 = .bool al1∧af (bB.j0 kq a3 l5 a7 al1 ai aj az aA aI aD aJ aX aG aQ aN bC bD bU bV bW cO cZ dh di fE eZ jh ji jk jl jm jo = some r)∧af (kq≤k)∧af (wc.heap[Mt]? = some (.cells #[Z ab ai,Z ab aj,Z ab az,Z ab aA,Z ab aI,Z ab aD,Z ab aJ,(.slice dY aX.length dS),(.slice dV aG.length dU)] 25 (0,0)))∧af (wc.heap[RU]? = some (.cells #[Z ab aQ,Z ab aN,Z ab bC,Z ab bD,Z ab bU,Z ab bV,Z ab bW] 29 (0,0)))∧af (wc.heap[afX]? = some (.cells #[Z ab cO,Z ab cZ,Z ab dh,Z ab di] 31 (0,0)))∧af (wc.heap[ash]? = some (.cells #[Z ab fE,Z ab eZ] 27 (0,0)))∧af (wc.heap[Xm]? = some (.cells #[Z ab jh,Z ab ji,Z ab jk,Z ab jl,Z ab jm,Z ab jo] 81 (0,0)))∧af (Below w.heap.size w wc))
 case first =>
  as_aux_lemma =>
   have H:=HC9.out
   clear HC9
   replace H:=Option.bind_eq_some_iff.mp H
   obtain ⟨anM,aMG,H⟩:=H
   replace H:(if anM = true then (bB.j0 k a3 l5 a7 true ai aj az aA aI aD aJ aX aG aQ aN bC bD bU bV bW cO cZ dh di fE eZ jh ji jk jl jm jo) else (if (l5.length:Int) > 10 then (bB.j0 k a3 l5 a7 true ai aj az aA aI aD aJ aX aG aQ aN bC bD bU bV bW cO cZ dh di fE eZ jh ji jk jl jm jo) else ((kX.f ai aj az aA aI aD aJ aX aG a7).bind fun Xl=>(bB.j0 k a3 l5 a7 Xl ai aj az aA aI aD aJ aX aG aQ aN bC bD bU bV bW cO cZ dh di fE eZ jh ji jk jl jm jo)))) = some r:=H
   have A15:=af.mk aMG
   clear aMG
   by_cases c16:anM = true
   ·subst c16
    have H1:(bB.j0 k a3 l5 a7 true ai aj az aA aI aD aJ aX aG aQ aN bC bD bU bV bW cO cZ dh di fE eZ jh ji jk jl jm jo) = some r:=by rw [if_pos rfl] at H;exact H
    clear H
    have H:=H1
    clear H1
    have H':=af.mk H
    clear H
    have RH:=LH.out
    have RI:=LJ.out
    have Yw:=LK.out
    have Yx:=LM.out
    have Ru:=LP.out
    have Rv:=LQ.out
    have aoD:=LU.out
    have aoE:=LV.out
    obtain ⟨tO,tQ,DK,DL,DN,DR,DT,KS,KT,tT,tV,DU,DV,DW,DX,DY,KU,KV⟩:=jS ko.out
    go_wp2_with (first|((with_reducible refine aU (f:=22) rfl ?_);refine dn (some 24) rfl rfl Try.func22 aT rfl #[.agg #[Z ab ai,Z ab aj,Z ab az,Z ab aA,Z ab aI,Z ab aD,Z ab aJ,.slice dY aX.length dS,.slice dV aG.length dU]] rfl jB ?_;(with_reducible refine (jZ.calls ai aj az aA aI aD aJ _ _ aX _ _ aG true _ ?dG ?dH ?eP ?eQ A15.out).mono ?_);(case dG=>repeat (first|exact (Kd.bz iI.out HB.out)|(with_reducible refine Kd.bJ ?_ _)|(with_reducible refine Kd.bK ?_ _)|(with_reducible refine Kd.bZ ?_)));(case dH=>exact iO.out);(case eP=>repeat (first|exact (Kd.bz iB.out HB.out)|(with_reducible refine Kd.bJ ?_ _)|(with_reducible refine Kd.bK ?_ _)|(with_reducible refine Kd.bZ ?_)));(case eQ=>exact iP.out);rintro e w22 ⟨rfl,hb⟩;refine ⟨_,rfl,?_⟩;replace ko:=bn ko hb;replace ma:=bn ma hb;replace mZ:=bn mZ hb;replace nS:=bn nS hb;replace oN:=bn oN hb;replace HB:=dz HB hb;(try clear hb);(try clear hb2);(try clear hk);(try clear hi)))
    go_meet
    case rel=>exact ⟨_,(true),om,H',⟨GH⟩,⟨iK⟩,⟨iK⟩,⟨iK⟩,⟨iK⟩,⟨iK⟩,⟨gp⟩⟩
   ·replace c16:=Bool.eq_false_iff.mpr c16
    subst c16
    have H1:(if (l5.length:Int) > 10 then (bB.j0 k a3 l5 a7 true ai aj az aA aI aD aJ aX aG aQ aN bC bD bU bV bW cO cZ dh di fE eZ jh ji jk jl jm jo) else ((kX.f ai aj az aA aI aD aJ aX aG a7).bind fun Xl=>(bB.j0 k a3 l5 a7 Xl ai aj az aA aI aD aJ aX aG aQ aN bC bD bU bV bW cO cZ dh di fE eZ jh ji jk jl jm jo))) = some r:=by rw [if_neg (show ¬ (false = true) by decide)] at H;exact H
    clear H
    have H:=H1
    clear H1
    by_cases c23:(l5.length:Int) > 10
    ·rw [if_pos c23] at H
     have Y8:decide (10 < (l5.length:Int)) = true:=decide_eq_true c23
     have aBC:decide (10 < l5.length) = true:=decide_eq_true (by omega)
     clear c23
     (first|rw [Y8]|(simp only [eY,fo];rw [Y8])|skip)
     have H':=af.mk H
     clear H
     have aeH:=LH.out
     have aeI:=LJ.out
     have ai5:=LK.out
     have ai6:=LM.out
     have aeK:=LP.out
     have aeL:=LQ.out
     have apY:=LU.out
     have apZ:=LV.out
     obtain ⟨Lh,Li,OH,OI,abJ,abK,akJ,akK,akL,Lj,Ll,OJ,OL,abL,abM,akM,akN,akO⟩:=jS ko.out
     go_wp2_with (first|((with_reducible refine aU (f:=22) rfl ?_);refine dn (some 24) rfl rfl Try.func22 aT rfl #[.agg #[Z ab ai,Z ab aj,Z ab az,Z ab aA,Z ab aI,Z ab aD,Z ab aJ,.slice dY aX.length dS,.slice dV aG.length dU]] rfl jB ?_;(with_reducible refine (jZ.calls ai aj az aA aI aD aJ _ _ aX _ _ aG false _ ?dG ?dH ?eP ?eQ A15.out).mono ?_);(case dG=>repeat (first|exact (Kd.bz iI.out HB.out)|(with_reducible refine Kd.bJ ?_ _)|(with_reducible refine Kd.bK ?_ _)|(with_reducible refine Kd.bZ ?_)));(case dH=>exact iO.out);(case eP=>repeat (first|exact (Kd.bz iB.out HB.out)|(with_reducible refine Kd.bJ ?_ _)|(with_reducible refine Kd.bK ?_ _)|(with_reducible refine Kd.bZ ?_)));(case eQ=>exact iP.out);rintro e w29 ⟨rfl,hb⟩;refine ⟨_,rfl,?_⟩;replace ko:=bn ko hb;replace ma:=bn ma hb;replace mZ:=bn mZ hb;replace nS:=bn nS hb;replace oN:=bn oN hb;replace HB:=dz HB hb;(try clear hb);(try clear hb2);(try clear hk);(try clear hi)))
     go_meet
     case rel=>exact ⟨_,(true),om,H',⟨GH⟩,⟨iK⟩,⟨iK⟩,⟨iK⟩,⟨iK⟩,⟨iK⟩,⟨gp⟩⟩
    ·rw [if_neg c23] at H
     have Y8:decide (10 < (l5.length:Int)) = false:=decide_eq_false c23
     have aBC:decide (10 < l5.length) = false:=decide_eq_false (by omega)
     clear c23
     (first|rw [Y8]|(simp only [eY,fo];rw [Y8])|skip)
     replace H:=Option.bind_eq_some_iff.mp H
     obtain ⟨Xl,aMH,H⟩:=H
     replace H:(bB.j0 k a3 l5 a7 Xl ai aj az aA aI aD aJ aX aG aQ aN bC bD bU bV bW cO cZ dh di fE eZ jh ji jk jl jm jo) = some r:=H
     have PS:=af.mk aMH
     clear aMH
     have H':=af.mk H
     clear H
     have aAK:=LH.out
     have aAL:=LJ.out
     have aBa:=LK.out
     have aBb:=LM.out
     have aIh:=LP.out
     have aIi:=LQ.out
     have aAM:=LU.out
     have aAN:=LV.out
     obtain ⟨zH,zI,Ei,Ej,KL,KM,KN,Tx,Ty,zJ,zK,El,Em,KO,KP,KQ,Tz,TA⟩:=jS ko.out
     go_wp2_with (first|((with_reducible refine aU (f:=22) rfl ?_);refine dn (some 24) rfl rfl Try.func22 aT rfl #[.agg #[Z ab ai,Z ab aj,Z ab az,Z ab aA,Z ab aI,Z ab aD,Z ab aJ,.slice dY aX.length dS,.slice dV aG.length dU]] rfl jB ?_;(with_reducible refine (jZ.calls ai aj az aA aI aD aJ _ _ aX _ _ aG false _ ?dG ?dH ?eP ?eQ A15.out).mono ?_);(case dG=>repeat (first|exact (Kd.bz iI.out HB.out)|(with_reducible refine Kd.bJ ?_ _)|(with_reducible refine Kd.bK ?_ _)|(with_reducible refine Kd.bZ ?_)));(case dH=>exact iO.out);(case eP=>repeat (first|exact (Kd.bz iB.out HB.out)|(with_reducible refine Kd.bJ ?_ _)|(with_reducible refine Kd.bK ?_ _)|(with_reducible refine Kd.bZ ?_)));(case eQ=>exact iP.out);rintro e w36 ⟨rfl,hb⟩;refine ⟨_,rfl,?_⟩;replace ko:=bn ko hb;replace ma:=bn ma hb;replace mZ:=bn mZ hb;replace nS:=bn nS hb;replace oN:=bn oN hb;replace HB:=dz HB hb;(try clear hb);(try clear hb2);(try clear hk);(try clear hi);obtain ⟨Oz,OA,aaM,aaN,aaO,aaP,ajp,azp,azq,OB,OC,aaQ,aaR,aaS,aaT,ajq,azr,azs⟩:=jS ko.out)|(go_at_call 56;(with_reducible refine (kX.calls ai aj az aA aI aD aJ _ _ aX _ _ aG a7 Xl _ ?dG ?dH ?eP ?eQ PS.out).mono ?_);(case dG=>repeat (first|exact (Kd.bz iI.out HB.out)|(with_reducible refine Kd.bJ ?_ _)|(with_reducible refine Kd.bK ?_ _)|(with_reducible refine Kd.bZ ?_)));(case dH=>exact iO.out);(case eP=>repeat (first|exact (Kd.bz iB.out HB.out)|(with_reducible refine Kd.bJ ?_ _)|(with_reducible refine Kd.bK ?_ _)|(with_reducible refine Kd.bZ ?_)));(case eQ=>exact iP.out);rintro e w38 ⟨rfl,hb⟩;replace ko:=bn ko hb;replace ma:=bn ma hb;replace mZ:=bn mZ hb;replace nS:=bn nS hb;replace oN:=bn oN hb;replace HB:=dz HB hb;(try clear hb);(try clear hb2);(try clear hk);(try clear hi)))
     go_meet
     case rel=>exact ⟨_,(Xl),om,H',⟨GH⟩,⟨iK⟩,⟨iK⟩,⟨iK⟩,⟨iK⟩,⟨iK⟩,⟨gp⟩⟩
 case rest =>
  as_aux_lemma =>
   clear HC9
   try clear c1
   try clear c2
   try clear p2
   try clear c3
   try clear c5
   try clear c14
   try clear c16
   try clear c17
   try clear c18
   try clear c19
   try clear c20
   try clear c22
   try clear c23
   try clear Y8
   try clear aBC
   try clear c24
   try clear c25
   try clear Xr
   try clear c27
   try clear c31
   try clear c32
   try clear c33
   try clear c34
   try clear tO tQ DK DL DN DR DT KS KT
   try clear Lh Li OH OI abJ abK akJ akK akL
   try clear zH zI Ei Ej KL KM KN Tx Ty
   try clear Oz OA aaM aaN aaO aaP ajp azp azq
   try clear tT tV DU DV DW DX DY KU KV
   try clear Lj Ll OJ OL abL abM akM akN akO
   try clear zJ zK El Em KO KP KQ Tz TA
   try clear OB OC aaQ aaR aaS aaT ajq azr azs
   obtain ⟨kq,al1,rfl,HA,HJ8,ko,ma,mZ,nS,oN,HB⟩:=hcut
   cases kq with
   |zero=>exact absurd HA.out (by simp [bB.j0])
   |succ Yb =>
    have H:=HA.out
    clear HA
    simp only [bB.j0] at H
    by_cases c39:al1 = true
    ·subst c39
     have H1:((bS.f Yb).bind fun anL=>(some anL)) = some r:=by rw [if_pos rfl] at H;exact H
     clear H
     have H:=H1
     clear H1
     replace H:=Option.bind_eq_some_iff.mp H
     obtain ⟨anL,aMI,H⟩:=H
     replace H:(some anL) = some r:=H
     have ME:=af.mk aMI
     clear aMI
     obtain rfl:=bh H
     go_wp2_with (first|((with_reducible refine aU (f:=19) rfl ?_);refine dn (some 35) rfl rfl Try.func19 aT rfl #[] rfl jB ?_;(with_reducible refine (bS.calls Yb anL _ ME.out).mono ?_);rintro e w41 ⟨rfl,hb⟩;refine ⟨_,rfl,?_⟩;replace ko:=bn ko hb;replace ma:=bn ma hb;replace mZ:=bn mZ hb;replace nS:=bn nS hb;replace oN:=bn oN hb;replace HB:=dz HB hb;(try clear hb);(try clear hb2);(try clear hk);(try clear hi)))
     go_ret
     exact ⟨mJ,gp⟩
    ·replace c39:=Bool.eq_false_iff.mpr c39
     subst c39
     have H1:((vY.f ai aj az aA aI aD aJ aX aG aQ aN bC bD bU bV bW cO cZ dh di a3 fE eZ jh ji jk jl jm jo a7).bind fun Xk=>((kY.f ai aj az aA aI aD aJ aX aG aQ aN bC bD bU bV bW cO cZ dh di a3 fE eZ jh ji jk jl jm jo a7).bind fun Kr=>((mR.f ai aj az aA aI aD aJ aX aG aQ aN bC bD bU bV bW cO cZ dh di a3 fE eZ l5 jh ji jk jl jm jo).bind fun Me=>((iD.f Yb ai aj az aA aI aD aJ aX aG aQ aN bC bD bU bV bW cO cZ dh di a3 fE eZ l5 jh ji jk jl jm jo).bind fun Kt=>(if Me = Kt then ((dE.f Yb Xk.1 Kr.1).bind fun PQ=>(if PQ = true then (if Xk.2.1 = Kr.2.1 then (if Xk.2.2 = Kr.2.2 then ((bS.f Yb).bind fun Jr=>(some Jr)) else (some false)) else (some false)) else (some false))) else (some false)))))) = some r:=by rw [if_neg (show ¬ (false = true) by decide)] at H;exact H
     clear H
     have H:=H1
     clear H1
     replace H:=Option.bind_eq_some_iff.mp H
     obtain ⟨⟨ahG,Sd,Sg⟩,aMJ,H⟩:=H
     replace H:((kY.f ai aj az aA aI aD aJ aX aG aQ aN bC bD bU bV bW cO cZ dh di a3 fE eZ jh ji jk jl jm jo a7).bind fun Kr=>((mR.f ai aj az aA aI aD aJ aX aG aQ aN bC bD bU bV bW cO cZ dh di a3 fE eZ l5 jh ji jk jl jm jo).bind fun Me=>((iD.f Yb ai aj az aA aI aD aJ aX aG aQ aN bC bD bU bV bW cO cZ dh di a3 fE eZ l5 jh ji jk jl jm jo).bind fun Kt=>(if Me = Kt then ((dE.f Yb ahG Kr.1).bind fun PQ=>(if PQ = true then (if Sd = Kr.2.1 then (if Sg = Kr.2.2 then ((bS.f Yb).bind fun Jr=>(some Jr)) else (some false)) else (some false)) else (some false))) else (some false))))) = some r:=H
     have A42:=af.mk aMJ
     clear aMJ
     replace H:=Option.bind_eq_some_iff.mp H
     obtain ⟨⟨anZ,Xn,Xo⟩,aMK,H⟩:=H
     replace H:((mR.f ai aj az aA aI aD aJ aX aG aQ aN bC bD bU bV bW cO cZ dh di a3 fE eZ l5 jh ji jk jl jm jo).bind fun Me=>((iD.f Yb ai aj az aA aI aD aJ aX aG aQ aN bC bD bU bV bW cO cZ dh di a3 fE eZ l5 jh ji jk jl jm jo).bind fun Kt=>(if Me = Kt then ((dE.f Yb ahG anZ).bind fun PQ=>(if PQ = true then (if Sd = Xn then (if Sg = Xo then ((bS.f Yb).bind fun Jr=>(some Jr)) else (some false)) else (some false)) else (some false))) else (some false)))) = some r:=H
     have A43:=af.mk aMK
     clear aMK
     replace H:=Option.bind_eq_some_iff.mp H
     obtain ⟨Me,aML,H⟩:=H
     replace H:((iD.f Yb ai aj az aA aI aD aJ aX aG aQ aN bC bD bU bV bW cO cZ dh di a3 fE eZ l5 jh ji jk jl jm jo).bind fun Kt=>(if Me = Kt then ((dE.f Yb ahG anZ).bind fun PQ=>(if PQ = true then (if Sd = Xn then (if Sg = Xo then ((bS.f Yb).bind fun Jr=>(some Jr)) else (some false)) else (some false)) else (some false))) else (some false))) = some r:=H
     have A44:=af.mk aML
     clear aML
     replace H:=Option.bind_eq_some_iff.mp H
     obtain ⟨Kt,aMM,H⟩:=H
     replace H:(if Me = Kt then ((dE.f Yb ahG anZ).bind fun PQ=>(if PQ = true then (if Sd = Xn then (if Sg = Xo then ((bS.f Yb).bind fun Jr=>(some Jr)) else (some false)) else (some false)) else (some false))) else (some false)) = some r:=H
     have A45:=af.mk aMM
     clear aMM
     by_cases c46:Me = Kt
     ·rw [if_pos c46] at H
      have aMN:(Me == Kt) = true:=beq_iff_eq.mpr c46
      have aMO:(Me != Kt) = false:=bne_eq_false_iff_eq.mpr c46
      clear c46
      replace H:=Option.bind_eq_some_iff.mp H
      obtain ⟨PQ,aMP,H⟩:=H
      replace H:(if PQ = true then (if Sd = Xn then (if Sg = Xo then ((bS.f Yb).bind fun Jr=>(some Jr)) else (some false)) else (some false)) else (some false)) = some r:=H
      have A47:=af.mk aMP
      clear aMP
      by_cases c48:PQ = true
      ·subst c48
       have H1:(if Sd = Xn then (if Sg = Xo then ((bS.f Yb).bind fun Jr=>(some Jr)) else (some false)) else (some false)) = some r:=by rw [if_pos rfl] at H;exact H
       clear H
       have H:=H1
       clear H1
       by_cases c49:Sd = Xn
       ·rw [if_pos c49] at H
        have aMQ:(Sd == Xn) = true:=beq_iff_eq.mpr c49
        have aMR:(Sd != Xn) = false:=bne_eq_false_iff_eq.mpr c49
        clear c49
        by_cases c50:Sg = Xo
        ·rw [if_pos c50] at H
         have aMS:(Sg == Xo) = true:=beq_iff_eq.mpr c50
         have aMT:(Sg != Xo) = false:=bne_eq_false_iff_eq.mpr c50
         clear c50
         replace H:=Option.bind_eq_some_iff.mp H
         obtain ⟨Jr,aMU,H⟩:=H
         replace H:(some Jr) = some r:=H
         have A51:=af.mk aMU
         clear aMU
         obtain rfl:=bh H
         have aA4:=LH.out
         have aA5:=LJ.out
         have a4K:=LK.out
         have a4L:=LM.out
         have aA6:=LP.out
         have aA7:=LQ.out
         have aj4:=LU.out
         have aj5:=LV.out
         obtain ⟨aj6,aj7,aj8,aj9,aVq,aVr,aVs,aVt,aVu,aka,akb,akc,akd,aVv,aVw,aVx,aVy,aVz⟩:=jS ko.out
         have aIL:=anN.out
         have aIM:=anO.out
         have aIN:=anP.out
         have aIO:=anQ.out
         have aAu:=anT.out
         have aAv:=anU.out
         obtain ⟨ake,akf,axt,axu,aVA,aVB,aVC,akg,akh,axv,axw,aVD,aVE,aVF⟩:=kz ma.out
         have aIP:=anR.out
         have aIQ:=anS.out
         have apQ:=anV.out
         have apR:=anW.out
         obtain ⟨abp,abq,abr,abt,abu,abv,abw,abx⟩:=jA mZ.out
         have aG9:=anX.out
         have aHa:=anY.out
         obtain ⟨au9,ava,avb,avc⟩:=iQ nS.out
         obtain ⟨aVG,aVH,aVI,aVJ,aVK,aVL,aVM,aVN,aVO,aVP,aVQ,aVR⟩:=Aa oN.out
         try go_wp2_with (first|((with_reducible refine aU (f:=57) rfl ?_);refine dn (some 44) rfl rfl Try.func57 aT rfl #[.agg #[Z ab ai,Z ab aj,Z ab az,Z ab aA,Z ab aI,Z ab aD,Z ab aJ,.slice dY aX.length dS,.slice dV aG.length dU],.agg #[Z ab aQ,Z ab aN,Z ab bC,Z ab bD,Z ab bU,Z ab bV,Z ab bW],.agg #[Z ab cO,Z ab cZ,Z ab dh,Z ab di],Z ab a3,.agg #[Z ab fE,Z ab eZ],.agg #[Z ab jh,Z ab ji,Z ab jk,Z ab jl,Z ab jm,Z ab jo],Z ab a7] rfl jB ?_;(with_reducible refine (vY.calls ai aj az aA aI aD aJ _ _ aX _ _ aG aQ aN bC bD bU bV bW cO cZ dh di a3 fE eZ jh ji jk jl jm jo a7 ahG Sd Sg _ ?dG ?dH ?eP ?eQ A42.out).mono ?_);(case dG=>repeat (first|exact (Kd.bz iI.out HB.out)|(with_reducible refine Kd.bJ ?_ _)|(with_reducible refine Kd.bK ?_ _)|(with_reducible refine Kd.bZ ?_)));(case dH=>exact iO.out);(case eP=>repeat (first|exact (Kd.bz iB.out HB.out)|(with_reducible refine Kd.bJ ?_ _)|(with_reducible refine Kd.bK ?_ _)|(with_reducible refine Kd.bZ ?_)));(case eQ=>exact iP.out);rintro e w67 ⟨a7i,rfl,ho0,hb⟩;refine ⟨_,rfl,?_⟩;have AV:=af.mk (Kd.kv ho0 (fM gp));replace ko:=bn ko hb;replace ma:=bn ma hb;replace mZ:=bn mZ hb;replace nS:=bn nS hb;replace oN:=bn oN hb;replace HB:=dz HB hb;(try clear hb);(try clear hb2);(try clear hk);(try clear hi);(try clear ho0);obtain ⟨aVS,aVT,aVU,aVV,aVW,aVX,aVY,aVZ,aV0,aV1,aV2,aV3,aV4,aV5,aV6,aV7,aV8,aV9⟩:=jS ko.out;obtain ⟨avd,ave,avf,avg,avh,avi,avj,avk,avl,avm,avn,avo,avp,avq⟩:=kz ma.out;obtain ⟨ax8,ax9,aWa,aWb,aya,ayb,aWc,aWd⟩:=jA mZ.out;obtain ⟨aWe,aWf,aWg,aWh⟩:=iQ nS.out;obtain ⟨ayc,ayd,aye,ayf,ayg,ayh,ayi,ayj,ayk,ayl,aym,ayn⟩:=Aa oN.out)|((with_reducible refine aU (f:=58) rfl ?_);refine dn (some 56) rfl rfl Try.func58 aT rfl #[.agg #[Z ab ai,Z ab aj,Z ab az,Z ab aA,Z ab aI,Z ab aD,Z ab aJ,.slice dY aX.length dS,.slice dV aG.length dU],.agg #[Z ab aQ,Z ab aN,Z ab bC,Z ab bD,Z ab bU,Z ab bV,Z ab bW],.agg #[Z ab cO,Z ab cZ,Z ab dh,Z ab di],Z ab a3,.agg #[Z ab fE,Z ab eZ],.agg #[Z ab jh,Z ab ji,Z ab jk,Z ab jl,Z ab jm,Z ab jo],Z ab a7] rfl jB ?_;(with_reducible refine (kY.calls ai aj az aA aI aD aJ _ _ aX _ _ aG aQ aN bC bD bU bV bW cO cZ dh di a3 fE eZ jh ji jk jl jm jo a7 anZ Xn Xo _ ?dG ?dH ?eP ?eQ A43.out).mono ?_);(case dG=>repeat (first|exact (Kd.bz iI.out HB.out)|(with_reducible refine Kd.bJ ?_ _)|(with_reducible refine Kd.bK ?_ _)|(with_reducible refine Kd.bZ ?_)));(case dH=>exact iO.out);(case eP=>repeat (first|exact (Kd.bz iB.out HB.out)|(with_reducible refine Kd.bJ ?_ _)|(with_reducible refine Kd.bK ?_ _)|(with_reducible refine Kd.bZ ?_)));(case eQ=>exact iP.out);rintro e w73 ⟨a7k,rfl,ho0,hb⟩;refine ⟨_,rfl,?_⟩;have vv:=af.mk (Kd.Js (by (with_reducible repeat (first|apply Kd.ky|apply Kd.jY|apply Kd.jP));exact AV.out) (Kd.PV ho0) hb);have vw:=af.mk (Kd.kv (Kd.Zb ho0 (Kd.af9 (by (with_reducible repeat (first|apply Kd.ky|apply Kd.jY|apply Kd.jP));exact AV.out))) (fM gp));have vz:=bn ko hb;have vB:=bn ma hb;have xU:=bn mZ hb;have Jo:=bn nS hb;have SQ:=bn oN hb;have Yt:=dz HB hb;clear AV;clear ko;clear ma;clear mZ;clear nS;clear oN;clear HB;have AV:=vv;have Jj:=vw;have ko:=vz;have ma:=vB;have mZ:=xU;have nS:=Jo;have oN:=SQ;have HB:=Yt;clear vv vw vz vB xU Jo SQ Yt;(try clear hb);(try clear hb2);(try clear hk);(try clear hi);(try clear ho0)))
         replace AV:=af.mk (Kd.jP AV.out)
         replace Jj:=af.mk (Kd.jP Jj.out)
         replace ko:=af.mk (ag ko.out)
         replace ma:=af.mk (ag ma.out)
         replace mZ:=af.mk (ag mZ.out)
         replace nS:=af.mk (ag nS.out)
         replace oN:=af.mk (ag oN.out)
         replace HB:=af.mk (bF HB.out)
         refine jV (n:=36) (S:=fun w'=>w'.cell? ⟨Mt,0,none⟩ = some (Z ab ai)∧w'.cell? ⟨Mt,1,none⟩ = some (Z ab aj)∧w'.cell? ⟨Mt,2,none⟩ = some (Z ab az)∧w'.cell? ⟨Mt,3,none⟩ = some (Z ab aA)∧w'.cell? ⟨Mt,4,none⟩ = some (Z ab aI)∧w'.cell? ⟨Mt,5,none⟩ = some (Z ab aD)∧w'.cell? ⟨Mt,6,none⟩ = some (Z ab aJ)∧w'.cell? ⟨Mt,7,none⟩ = some (.slice dY aX.length dS)∧w'.cell? ⟨Mt,8,none⟩ = some (.slice dV aG.length dU)∧w'.cell? ⟨RU,0,none⟩ = some (Z ab aQ)∧w'.cell? ⟨RU,1,none⟩ = some (Z ab aN)∧w'.cell? ⟨RU,2,none⟩ = some (Z ab bC)∧w'.cell? ⟨RU,3,none⟩ = some (Z ab bD)∧w'.cell? ⟨RU,4,none⟩ = some (Z ab bU)∧w'.cell? ⟨RU,5,none⟩ = some (Z ab bV)∧w'.cell? ⟨RU,6,none⟩ = some (Z ab bW)∧w'.cell? ⟨afX,0,none⟩ = some (Z ab cO)∧w'.cell? ⟨afX,1,none⟩ = some (Z ab cZ)∧w'.cell? ⟨afX,2,none⟩ = some (Z ab dh)∧w'.cell? ⟨afX,3,none⟩ = some (Z ab di)∧w'.cell? ⟨ash,0,none⟩ = some (Z ab fE)∧w'.cell? ⟨ash,1,none⟩ = some (Z ab eZ)∧w'.cell? ⟨Xm,0,none⟩ = some (Z ab jh)∧w'.cell? ⟨Xm,1,none⟩ = some (Z ab ji)∧w'.cell? ⟨Xm,2,none⟩ = some (Z ab jk)∧w'.cell? ⟨Xm,3,none⟩ = some (Z ab jl)∧w'.cell? ⟨Xm,4,none⟩ = some (Z ab jm)∧w'.cell? ⟨Xm,5,none⟩ = some (Z ab jo)) (ds:=[]) #[al,al,al,al,al,al,al,al,al,al,al,al,al,al,al,al,al,al,al,al,al,al,al,al,al,al,al,al,al,al,al,al,al,al,al,al] aT rfl rfl (vk ko.out (Mx ma.out (Jk mZ.out (aoc nS.out (Xz oN.out))))) (fun hHeld=>?_);refine jQ bB.abz bB.OY (fun dx mD=>?_)
         generalize w73.drew = w74 at AV Jj ko ma mZ nS oN HB hHeld ⊢
         refine dR (i:=3) (N:=some 63) (aY dx.out aT) ?_
         refine dR (i:=5) (N:=some 65) (aY dx.out aT) ?_
         refine dR (i:=11) (N:=some 71) (aY dx.out aT) ?_
         refine dR (i:=13) (N:=some 73) (aY dx.out aT) ?_
         refine iT (i:=0) (N:=some 60) (bL dx.out mD.out aT) hHeld ?_
         refine iT (i:=1) (N:=some 61) (bL dx.out mD.out aT) hHeld ?_
         refine iT (i:=2) (N:=some 62) (bL dx.out mD.out aT) hHeld ?_
         refine iT (i:=4) (N:=some 64) (bL dx.out mD.out aT) hHeld ?_
         refine iT (i:=6) (N:=some 66) (bL dx.out mD.out aT) hHeld ?_
         refine iT (i:=8) (N:=some 68) (bL dx.out mD.out aT) hHeld ?_
         refine iT (i:=9) (N:=some 69) (bL dx.out mD.out aT) hHeld ?_
         refine iT (i:=10) (N:=some 70) (bL dx.out mD.out aT) hHeld ?_
         refine iT (i:=12) (N:=some 72) (bL dx.out mD.out aT) hHeld ?_
         refine iT (i:=14) (N:=some 74) (bL dx.out mD.out aT) hHeld ?_
         refine iW (i:=7) (N:=some 67) #[ac,ac,ac,ac,ac,ac,ac,ac,ac,ac,ac,ac,ac,ac,ac,al,al,al,al,al,al,al,al,al,al,al,al,al,al,al,al,al,al,al,al,al] rfl rfl (gJ dx.out aT) (by decide) (fun K hK=>?_)
         refine gY Try.func48 aT rfl #[.agg #[Z ab ai,Z ab aj,Z ab az,Z ab aA,Z ab aI,Z ab aD,Z ab aJ,.slice dY aX.length dS,.slice dV aG.length dU],.agg #[Z ab aQ,Z ab aN,Z ab bC,Z ab bD,Z ab bU,Z ab bV,Z ab bW],.agg #[Z ab cO,Z ab cZ,Z ab dh,Z ab di],Z ab a3,.agg #[Z ab fE,Z ab eZ],.slice A5 l5.length c5,.agg #[Z ab jh,Z ab ji,Z ab jk,Z ab jl,Z ab jm,Z ab jo]] (by rfl) rfl rfl jB ?_
         with_reducible refine (mR.calls ai aj az aA aI aD aJ _ _ aX _ _ aG aQ aN bC bD bU bV bW cO cZ dh di a3 fE eZ _ _ l5 jh ji jk jl jm jo Me _ ?dG ?dH ?eP ?eQ ?Gn ?Gp A44.out).mono ?_
         (case dG=>repeat (first|exact (Kd.bz iI.out HB.out)|(with_reducible refine Kd.bJ ?_ _)|(with_reducible refine Kd.bK ?_ _)|(with_reducible refine Kd.bZ ?_)))
         (case dH=>exact iO.out)
         (case eP=>repeat (first|exact (Kd.bz iB.out HB.out)|(with_reducible refine Kd.bJ ?_ _)|(with_reducible refine Kd.bK ?_ _)|(with_reducible refine Kd.bZ ?_)))
         (case eQ=>exact iP.out)
         (case Gn=>repeat (first|exact (Kd.bz HR5.out HB.out)|(with_reducible refine Kd.bJ ?_ _)|(with_reducible refine Kd.bK ?_ _)|(with_reducible refine Kd.bZ ?_)))
         (case Gp=>exact HC5.out)
         rintro e w75 ⟨rfl,hb⟩
         refine ⟨_,rfl,?_⟩
         replace AV:=wh AV hb
         replace Jj:=wh Jj hb
         replace ko:=bn ko hb
         replace ma:=bn ma hb
         replace mZ:=bn mZ hb
         replace nS:=bn nS hb
         replace oN:=bn oN hb
         replace HB:=dz HB hb
         (try clear hb)
         (try clear hb2)
         (try clear hk)
         (try clear hi)
         refine hK.out _ _ (vk ko.out (Mx ma.out (Jk mZ.out (aoc nS.out (Xz oN.out))))) (fun hHeld=>?_)
         clear hK K
         refine dQ (by show Act.put _ (some 67) _ = _;simp only [Act.put,ap,aq,ar,eY,fo];rfl) ?_
         refine iW (i:=15) (N:=some 75) #[ac,ac,ac,ac,ac,ac,ac,ac,ac,ac,ac,ac,ac,ac,ac,ac,al,al,al,al,al,al,al,al,al,al,al,al,al,al,al,al,al,al,al,al] rfl rfl (gJ dx.out aT) (by decide) (fun K hK=>?_)
         refine gY Try.func49 aT rfl #[.agg #[Z ab ai,Z ab aj,Z ab az,Z ab aA,Z ab aI,Z ab aD,Z ab aJ,.slice dY aX.length dS,.slice dV aG.length dU],.agg #[Z ab aQ,Z ab aN,Z ab bC,Z ab bD,Z ab bU,Z ab bV,Z ab bW],.agg #[Z ab cO,Z ab cZ,Z ab dh,Z ab di],Z ab a3,.agg #[Z ab fE,Z ab eZ],.slice A5 l5.length c5,.agg #[Z ab jh,Z ab ji,Z ab jk,Z ab jl,Z ab jm,Z ab jo]] (by rfl) rfl rfl jB ?_
         with_reducible refine (iD.calls Yb ai aj az aA aI aD aJ _ _ aX _ _ aG aQ aN bC bD bU bV bW cO cZ dh di a3 fE eZ _ _ l5 jh ji jk jl jm jo Kt _ ?dG ?dH ?eP ?eQ ?Gn ?Gp A45.out).mono ?_
         (case dG=>repeat (first|exact (Kd.bz iI.out HB.out)|(with_reducible refine Kd.bJ ?_ _)|(with_reducible refine Kd.bK ?_ _)|(with_reducible refine Kd.bZ ?_)))
         (case dH=>exact iO.out)
         (case eP=>repeat (first|exact (Kd.bz iB.out HB.out)|(with_reducible refine Kd.bJ ?_ _)|(with_reducible refine Kd.bK ?_ _)|(with_reducible refine Kd.bZ ?_)))
         (case eQ=>exact iP.out)
         (case Gn=>repeat (first|exact (Kd.bz HR5.out HB.out)|(with_reducible refine Kd.bJ ?_ _)|(with_reducible refine Kd.bK ?_ _)|(with_reducible refine Kd.bZ ?_)))
         (case Gp=>exact HC5.out)
         rintro e w76 ⟨rfl,hb⟩
         refine ⟨_,rfl,?_⟩
         replace AV:=wh AV hb
         replace Jj:=wh Jj hb
         replace ko:=bn ko hb
         replace ma:=bn ma hb
         replace mZ:=bn mZ hb
         replace nS:=bn nS hb
         replace oN:=bn oN hb
         replace HB:=dz HB hb
         (try clear hb)
         (try clear hb2)
         (try clear hk)
         (try clear hi)
         obtain ⟨aZU,aZV,aMV⟩:=Kd.lM AV.out
         (first|subst aMV|(injection aMV with f1_ f2_ f3_;have f4_:=f1_.symm;have f5_:=f3_.symm;clear f1_ f2_ f3_;subst f4_;subst f5_))
         obtain ⟨aZZ,aZ0,aMY⟩:=Kd.lM Jj.out
         (first|subst aMY|(injection aMY with f1_ f2_ f3_;have f4_:=f1_.symm;have f5_:=f3_.symm;clear f1_ f2_ f3_;subst f4_;subst f5_))
         refine hK.out _ _ (vk ko.out (Mx ma.out (Jk mZ.out (aoc nS.out (Xz oN.out))))) (fun hHeld=>?_)
         clear hK K
         refine dQ asE ?_
         refine dR (i:=16) (N:=some 76) (aY dx.out aT) ?_
         refine dR (i:=17) (N:=some 77) (aY dx.out aT) ?_
         refine dR (i:=18) (N:=some 78) (aY dx.out aT) ?_
         refine dR (i:=19) (N:=some 79) (aY dx.out aT) ?_
         refine iW (i:=20) (N:=some 80) #[ac,ac,ac,ac,ac,ac,ac,ac,ac,ac,ac,ac,ac,ac,ac,ac,ac,ac,ac,ac,ac,al,al,al,al,al,al,al,al,al,al,al,al,al,al,al] rfl rfl (gJ dx.out aT) (by decide) (fun K hK=>?_)
         refine gY Try.func59 aT rfl #[.slice aZU ahG.length aZV,.slice aZZ anZ.length aZ0] (by rfl) rfl rfl jB ?_
         with_reducible refine (dE.calls Yb _ _ ahG _ _ anZ true _ ?dG ?dH ?eP ?eQ A47.out).mono ?_
         (case dG=>repeat (first|exact (Kd.fK AV.out).2.2|(with_reducible refine Kd.bJ ?_ _)|(with_reducible refine Kd.bK ?_ _)|(with_reducible refine Kd.bZ ?_)))
         (case dH=>exact (Kd.fK AV.out).2.1)
         (case eP=>repeat (first|exact (Kd.fK Jj.out).2.2|(with_reducible refine Kd.bJ ?_ _)|(with_reducible refine Kd.bK ?_ _)|(with_reducible refine Kd.bZ ?_)))
         (case eQ=>exact (Kd.fK Jj.out).2.1)
         rintro e w' ⟨rfl,⟨nd,rfl⟩⟩
         refine ⟨_,rfl,?_⟩
         refine hK.out _ _ (vk ko.out (Mx ma.out (Jk mZ.out (aoc nS.out (Xz oN.out))))) (fun hHeld=>?_)
         clear hK K
         refine dQ aFn ?_
         refine dR (i:=21) (N:=some 81) (aY dx.out aT) ?_
         refine dR (i:=22) (N:=some 82) (aY dx.out aT) ?_
         refine dR (i:=23) (N:=some 83) (aY dx.out aT) ?_
         refine dR (i:=24) (N:=some 84) (aY dx.out aT) ?_
         refine dR (i:=25) (N:=some 85) (aY dx.out aT) ?_
         refine dR (i:=26) (N:=some 86) (aY dx.out aT) ?_
         refine dR (i:=27) (N:=some 87) (aY dx.out aT) ?_
         refine dR (i:=28) (N:=some 88) (aY dx.out aT) ?_
         refine dR (i:=29) (N:=some 89) (aY dx.out aT) ?_
         refine dR (i:=30) (N:=some 90) (aY dx.out aT) ?_
         refine dR (i:=31) (N:=some 91) (aY dx.out aT) ?_
         refine dR (i:=32) (N:=some 92) (aY dx.out aT) ?_
         refine iW (i:=33) (N:=some 93) #[ac,ac,ac,ac,ac,ac,ac,ac,ac,ac,ac,ac,ac,ac,ac,ac,ac,ac,ac,ac,ac,ac,ac,ac,ac,ac,ac,ac,ac,ac,ac,ac,ac,ac,al,al] rfl rfl (gJ dx.out aT) (by decide) (fun K hK=>?_)
         refine gY Try.func19 aT rfl #[] (by rfl) rfl rfl jB ?_
         with_reducible refine (bS.calls Yb Jr _ A51.out).mono ?_
         rintro e w79 ⟨rfl,hb⟩
         refine ⟨_,rfl,?_⟩
         replace AV:=wh AV hb
         replace Jj:=wh Jj hb
         replace ko:=bn ko hb
         replace ma:=bn ma hb
         replace mZ:=bn mZ hb
         replace nS:=bn nS hb
         replace oN:=bn oN hb
         replace HB:=dz HB hb
         (try clear hb)
         (try clear hb2)
         (try clear hk)
         (try clear hi)
         refine hK.out _ _ (vk ko.out (Mx ma.out (Jk mZ.out (aoc nS.out (Xz oN.out))))) (fun hHeld=>?_)
         clear hK K
         refine dQ (by show Act.put _ (some 93) _ = _;simp only [Act.put,ap,aq,ar,eY,fo];rfl) ?_
         refine dR (i:=34) (N:=some 94) (aY dx.out aT) ?_
         refine dR (i:=35) (N:=some 16) (aY dx.out aT) ?_
         refine mi (ni dx.out aT) ?_
         try go_wp2
         go_ret
         exact ⟨mJ,gp⟩
        ·rw [if_neg c50] at H
         have aMS:(Sg == Xo) = false:=beq_eq_false_iff_ne.mpr c50
         have aMT:(Sg != Xo) = true:=bne_iff_ne.mpr c50
         have hh_:=bh H
         rw [hr_.out] at hh_
         cases hh_
       ·rw [if_neg c49] at H
        have aMQ:(Sd == Xn) = false:=beq_eq_false_iff_ne.mpr c49
        have aMR:(Sd != Xn) = true:=bne_iff_ne.mpr c49
        have hh_:=bh H
        rw [hr_.out] at hh_
        cases hh_
      ·replace c48:=Bool.eq_false_iff.mpr c48
       subst c48
       have H1:(some false) = some r:=by rw [if_neg (show ¬ (false = true) by decide)] at H;exact H
       clear H
       have H:=H1
       clear H1
       have hh_:=bh H
       rw [hr_.out] at hh_
       cases hh_
     ·rw [if_neg c46] at H
      have aMN:(Me == Kt) = false:=beq_eq_false_iff_ne.mpr c46
      have aMO:(Me != Kt) = true:=bne_iff_ne.mpr c46
      have hh_:=bh H
      rw [hr_.out] at hh_
      cases hh_
end Go.Proofs.Ytmhaiihjfgfaoaa.Pr
end
section
namespace Go.Proofs.YtmhaiihjfgfaoaaW.bu
open Go.ChangeShapes Go.WideShapes
end Go.Proofs.YtmhaiihjfgfaoaaW.bu
end
section
namespace Go.Proofs.YtmhaiihjfgfaoaaW.jJ
open Go.RowKit Go.Proofs.YtmhaiihjfgfaoaaW.bu Go.Deep Go.ChangeShapes Go.WideShapes
section
variable {H:Type} {enc:TypeId × Value→H} {P:Program}
def jJ {α:Type} (enc:TypeId × Value→H) (P:Program) (t:TypeId) (K:Kd α) (G:α→Prop):Prop :=
 ∀ (w:ao) (fuel:Nat) (cs:List Value) (x:DataW H × List MemPlace),DataW.trod enc P w 0 (fun _=>true) true fuel t cs = some x→(DataW.weights P t x.1).all (·≤reachBytes) = true→∃ y,K.K w y cs∧G y
theorem jJ.int {t:TypeId} {k:IntKind} (hu:P.underlying t = some (.int k)):jJ enc P t (Kd.int k) (fun n=>(Lit.int k n).wf = true):=by
 intro w fuel cs x h _
 cases fuel with
 |zero=>simp [DataW.trod] at h
 |succ n =>
  unfold DataW.trod at h
  rw [hu] at h
  split at h <;> simp_all
  obtain ⟨⟨rfl,hw⟩,_⟩:=h
  rename_i n _ _
  exact ⟨_,rfl,hw⟩
theorem jJ.bool {t:TypeId} (hu:P.underlying t = some .bool):jJ enc P t Kd.bool (fun _=>True):=by
 intro w fuel cs x h _
 cases fuel with
 |zero=>simp [DataW.trod] at h
 |succ n =>
  unfold DataW.trod at h
  rw [hu] at h
  split at h <;> simp_all
  rename_i b _
  cases b
  ·exact .inl rfl
  ·exact .inr rfl
def j5 {α:Type} (enc:TypeId × Value→H) (P:Program) (off:Nat) (fs:List Field) (K:Kd α) (G:α→Prop):Prop :=
 ∀ (w:ao) (fuel:Nat) (cs:List Value) (xs:List (DataW H × List MemPlace)),cs.length = off+K.sz→xs.length = fs.length→
  (∀ (i:Nat) (f:Field),fs[i]? = some f→DataW.trod enc P w 0 (fun _=>true) true fuel f.type ((cs.drop f.offset).take (P.cellsOf f.type)) = xs[i]?)→
  (DataW.weightsEach P (fs.map (·.type)) (xs.map (·.1))).all (·≤reachBytes) = true→∃ y,K.K w y (cs.drop off)∧G y
theorem j5.one {α:Type} {off:Nat} {f:Field} {K:Kd α} {G:α→Prop} (hoff:f.offset = off) (hsz:P.cellsOf f.type = K.sz) (h:jJ enc P f.type K G):j5 enc P off [f] K G:=by
 intro w fuel cs xs hl hx hi hw
 obtain ⟨x,rfl⟩:∃ x,xs = [x]:=by
  match xs,hx with
  |[x],_=>exact ⟨x,rfl⟩
 have h1:=hi 0 f rfl
 rw [hoff,hsz,List.take_of_length_le (by simp;omega)] at h1
 exact h w fuel _ x h1 (by simpa [DataW.weightsEach] using hw)
theorem j5.cons {α β:Type} {off:Nat} {f:Field} {fs:List Field} {K:Kd α} {G:α→Prop} {K':Kd β} {G':β→Prop} (hoff:f.offset = off) (hsz:P.cellsOf f.type = K.sz) (h:jJ enc P f.type K G) (h':j5 enc P (off+K.sz) fs K' G'):
 j5 enc P off (f :: fs) (Kd.pair K K') (fun y=>G y.1∧G' y.2):=by
 intro w fuel cs xs hl hx hi hw
 obtain ⟨x,xs',rfl⟩:∃ x xs',xs = x :: xs':=by
  match xs,hx with
  |x :: xs',_=>exact ⟨x,xs',rfl⟩
 have hl2:cs.length = off+(K.sz+K'.sz):=hl
 have h1:=hi 0 f rfl
 rw [hoff,hsz] at h1
 simp only [List.map_cons,DataW.weightsEach,List.all_append,Bool.and_eq_true] at hw
 obtain ⟨y,hy,gy⟩:=h w fuel _ x h1 hw.1
 obtain ⟨y',hy',gy'⟩:=h' w fuel cs xs' (by omega) (by simpa using hx) (fun i g hg=>by simpa using hi (i+1) g (by simpa using hg)) hw.2
 refine ⟨(y,y'),⟨_,_,?_,hy,hy'⟩,gy,gy'⟩
 rw [← List.drop_drop,List.take_append_drop]
theorem jJ.struct {α β:Type} {t:TypeId} {fs:Array Field} {K:Kd α} {G:α→Prop} {f:β→α} (g:α→β) (hu:P.underlying t = some (.struct fs)) (hsz:P.cellsOf t = K.sz) (hg:∀ y,f (g y) = y) (h:j5 enc P 0 fs.toList K G):
 jJ enc P t (Kd.iso K f) (fun z=>G (f z)):=by
 intro w fuel cs x hx hw
 obtain ⟨xs,n,rfl,rfl,hl,hxl,hi⟩:=DataW.trod_struct hu hx
 obtain ⟨y,hy,gy⟩:=h w n cs xs (by omega) (by simpa using hxl) (fun i f hf=>hi i f (by simpa using hf)) (by simpa [DataW.weights,hu] using hw)
 refine ⟨g y,?_,by show G (f (g y));rw [hg];exact gy⟩
 show K.K w (f (g y)) cs
 rw [hg]
 simpa using hy
theorem Xp {α:Type} {Q:Nat→α→Prop}:∀ (n:Nat),(∀ i,i < n→∃ y,Q i y)→∃ ys:List α,ys.length = n∧∀ i y,ys[i]? = some y→Q i y
 |0,_=>⟨[],rfl,fun i y h=>by simp at h⟩
 |n+1,h=>by
  obtain ⟨ys,hl,hq⟩:=Xp n (fun i hi=>h i (by omega))
  obtain ⟨y,hy⟩:=h n (by omega)
  refine ⟨ys++[y],by simp [hl],fun i z hz=>?_⟩
  rw [List.getElem?_append] at hz
  split at hz
  ·exact hq i z hz
  ·rename_i hi
   obtain rfl:i = n:=by
    have:=(List.getElem?_eq_some_iff.1 hz).1
    simp at this
    omega
   simp [hl] at hz
   exact hz ▸ hy
theorem Ku {e:TypeId}:∀ {ds:List (DataW H)} {d:DataW H},(DataW.weightsAll P e ds).all (·≤reachBytes) = true→d ∈ ds→(DataW.weights P e d).all (·≤reachBytes) = true
 |[],_,_,h=>by cases h
 |a :: r,d,hw,h=>by
  simp only [DataW.weightsAll,List.all_append,Bool.and_eq_true] at hw
  rcases List.mem_cons.1 h with rfl|h
  ·exact hw.1
  ·exact Ku hw.2 h
theorem jJ.slice {α:Type} {t e:TypeId} (e':Nat) {K:Kd α} {G:α→Prop} (hu:P.underlying t = some (.slice e)) (hsz:P.cellsOf e = K.sz) (h:jJ enc P e K G):
 jJ enc P t (Kd.slice e' K) (fun ys=>(∀ y ∈ ys,G y)∧ys.length*P.bytesOf e≤reachBytes):=by
 intro w fuel cs x hx hw
 rcases open_slice hu hx with ⟨rfl,rfl⟩|⟨a,len,cap,m,n,D,Pl,rfl,hb,hl,hm,hmm,rfl,hi⟩
 ·exact ⟨[],⟨none,0,rfl,by simp,⟨rfl,by simp,fun h=>by simp at h⟩⟩,by simp,by simp⟩
 ·have hmc:m = cap:=by simpa using hmm
  subst hmc
  simp only [DataW.weights,hu,List.all_cons,List.all_append,Bool.and_eq_true,decide_eq_true_eq,List.length_map,List.length_range] at hw
  obtain ⟨ys,hyl,hys⟩:=Xp (Q:=fun i y=>(∃ cs',w.cells? 0 (a.add (i*P.cellsOf e)) (P.cellsOf e) = some cs'∧K.K w y cs')∧G y) len (fun i hil=>by
   obtain ⟨cs',hc,ht⟩:=hi i (by omega)
   obtain ⟨y,hy,gy⟩:=h w n cs' _ ht (Ku hw.2.1 (List.mem_map.2 ⟨i,List.mem_range.2 hil,rfl⟩))
   exact ⟨y,⟨cs',hc,hy⟩,gy⟩)
  refine ⟨ys,⟨some a,m,by rw [hyl],by omega,hyl.trans hyl.symm |>.trans (by rfl),?_,fun _=>⟨a,rfl,fun j p hj=>?_⟩⟩,fun y hy=>?_,?_⟩
  ·unfold maxLen at hm
   omega
  ·obtain ⟨⟨cs',hc,hk⟩,_⟩:=hys j p hj
   obtain ⟨_,hcl,hcell⟩:=World.cells?_some hc
   refine ⟨cs',by rw [hcl,hsz],hk,fun i u hu'=>?_⟩
   have hlt:=(List.getElem?_eq_some_iff.1 hu').1
   rw [← Go.Deep.add_add,← hsz,hcell i (by omega),hu']
  ·obtain ⟨j,hj⟩:=List.getElem?_of_mem hy
   exact (hys j y hj).2
  ·refine Nat.le_trans (Nat.mul_le_mul_right _ (show ys.length≤len+(m - len) by omega)) hw.1
theorem jJ.arg {α:Type} {t:TypeId} {K:Kd α} {G:α→Prop} (h:jJ enc P t K G) {w:ao} {v:Value} {d:DataW H} {p:List MemPlace} (ht:DataW.Trod enc P w 0 (fun _=>true) true t v d p)
 {ts:List TypeId} {ds:List (DataW H)} (hsz:(DataW.weightsEach P ts ds).all (·≤reachBytes) = true) {j:Nat} (hj:ts[j]? = some t) (hd:ds[j]? = some d):∃ y,K.K w y v.cells.toList∧G y:=by
 obtain ⟨fuel,hf⟩:=ht
 exact h w fuel _ _ hf (List.all_eq_true.2 fun n hn=>List.all_eq_true.1 hsz _ (DataW.weights_mem_each hj hd n hn))
end
end Go.Proofs.YtmhaiihjfgfaoaaW.jJ
end
section
namespace Go.Proofs.Ytmhaiihjfgfaoaa.Good
open Go.RowKit Go.Proofs.YtmhaiihjfgfaoaaW.bu Go.Proofs.YtmhaiihjfgfaoaaW.dB Go.Proofs.YtmhaiihjfgfaoaaW.ek Go.Proofs.Ytmhaiihjfgfaoaa.Pr Go.Proofs.YtmhaiihjfgfaoaaW.jJ
def W27 (x:jK):Prop:=(Lit.int .i64 x.f0).wf = true∧(Lit.int .i64 x.f1).wf = true
theorem I7 {H:Type} {enc:TypeId × Value→H}:jJ enc Try.prog 27 k27 W27:=jJ.struct (fun p=>⟨p.1,p.2⟩) Try.underlying27 aT (fun _=>rfl) (j5.cons rfl aT (jJ.int Try.underlying2) (j5.one rfl aT (jJ.int Try.underlying2)))
def W40 (x:qK):Prop:=W27 x.f0∧W27 x.f1
theorem azt {H:Type} {enc:TypeId × Value→H}:jJ enc Try.prog 40 Dt W40:=jJ.struct (fun p=>⟨p.1,p.2⟩) Try.underlying40 aT (fun _=>rfl) (j5.cons rfl aT I7 (j5.one rfl aT I7))
def W25 (x:S25):Prop:=(Lit.int .i64 x.f0).wf = true∧(Lit.int .i64 x.f1).wf = true∧(Lit.int .i64 x.f2).wf = true∧(Lit.int .i64 x.f3).wf = true∧(Lit.int .i64 x.f4).wf = true∧(Lit.int .i64 x.f5).wf = true∧(Lit.int .i64 x.f6).wf = true∧((∀ y ∈ x.f7,True)∧x.f7.length*Try.prog.bytesOf 4≤reachBytes)∧((∀ y ∈ x.f8,W40 y)∧x.f8.length*Try.prog.bytesOf 40≤reachBytes)
theorem azu {H:Type} {enc:TypeId × Value→H}:jJ enc Try.prog 25 k25 W25:=jJ.struct (fun p=>⟨p.1,p.2.1,p.2.2.1,p.2.2.2.1,p.2.2.2.2.1,p.2.2.2.2.2.1,p.2.2.2.2.2.2.1,p.2.2.2.2.2.2.2.1,p.2.2.2.2.2.2.2.2⟩) Try.underlying25 aT (fun _=>rfl) (j5.cons rfl aT (jJ.int Try.underlying3) (j5.cons rfl aT (jJ.int Try.underlying3) (j5.cons rfl aT (jJ.int Try.underlying2) (j5.cons rfl aT (jJ.int Try.underlying2) (j5.cons rfl aT (jJ.int Try.underlying3) (j5.cons rfl aT (jJ.int Try.underlying3) (j5.cons rfl aT (jJ.int Try.underlying2) (j5.cons rfl aT (jJ.slice 4 Try.underlying22 aT (jJ.bool Try.underlying4)) (j5.one rfl aT (jJ.slice 40 Try.underlying23 aT azt))))))))))
def W29 (x:S29):Prop:=(Lit.int .i64 x.f0).wf = true∧(Lit.int .i64 x.f1).wf = true∧W27 x.f2∧W27 x.f3∧(Lit.int .i64 x.f4).wf = true
theorem azv {H:Type} {enc:TypeId × Value→H}:jJ enc Try.prog 29 k29 W29:=jJ.struct (fun p=>⟨p.1,p.2.1,p.2.2.1,p.2.2.2.1,p.2.2.2.2⟩) Try.underlying29 aT (fun _=>rfl) (j5.cons rfl aT (jJ.int Try.underlying2) (j5.cons rfl aT (jJ.int Try.underlying2) (j5.cons rfl aT I7 (j5.cons rfl aT I7 (j5.one rfl aT (jJ.int Try.underlying2))))))
def W31 (x:iA):Prop:=W27 x.f0∧W27 x.f1
theorem al2 {H:Type} {enc:TypeId × Value→H}:jJ enc Try.prog 31 k31 W31:=jJ.struct (fun p=>⟨p.1,p.2⟩) Try.underlying31 aT (fun _=>rfl) (j5.cons rfl aT I7 (j5.one rfl aT I7))
def W33 (x:gU):Prop:=(Lit.int .i64 x.f0).wf = true∧(Lit.int .i64 x.f1).wf = true
theorem azw {H:Type} {enc:TypeId × Value→H}:jJ enc Try.prog 33 yn W33:=jJ.struct (fun p=>⟨p.1,p.2⟩) Try.underlying33 aT (fun _=>rfl) (j5.cons rfl aT (jJ.int Try.underlying3) (j5.one rfl aT (jJ.int Try.underlying3)))
def W81 (x:BX):Prop:=W31 x.f0∧(Lit.int .i64 x.f1).wf = true∧(Lit.int .i64 x.f2).wf = true
theorem azx {H:Type} {enc:TypeId × Value→H}:jJ enc Try.prog 81 k81 W81:=jJ.struct (fun p=>⟨p.1,p.2.1,p.2.2⟩) Try.underlying81 aT (fun _=>rfl) (j5.cons rfl aT al2 (j5.cons rfl aT (jJ.int Try.underlying2) (j5.one rfl aT (jJ.int Try.underlying2))))
end Go.Proofs.Ytmhaiihjfgfaoaa.Good
end
section
namespace Go.Proofs.Ytmhaiihjfgfaoaa.Pure
open Go.RowKit Go.Proofs.YtmhaiihjfgfaoaaW.bu Go.Proofs.YtmhaiihjfgfaoaaW.dB Go.Proofs.Ytmhaiihjfgfaoaa.Pr Go.Proofs.Ytmhaiihjfgfaoaa.Good Go.Proofs.Ytmhaiihjfgfaoaa.Gl
namespace Pln
theorem works {k:Nat} (h:60≤k):bS.f k = some true:=PT bS.mono h bS.azY
theorem LG (l:List gU) (hl:l.length≤64):∀ (m i K:Nat),i+m = l.length→m+1≤K→dE.l0 K l l (i:Int) = some true
 |0,i,K+1,h,hk=>by rw [dE.l0,if_neg (by omega)]
 |m+1,i,K+1,h,hk=>by
  have hc:((i+1:Nat):Int) = (i:Int)+1:=by omega
  rw [dE.l0,if_pos (by omega),if_pos (by omega),if_pos (by omega),if_neg (by simp),II (x:=(i:Int)+1) (by omega),← hc]
  exact LG l hl m (i+1) K (by omega) (by omega)
theorem same (l:List gU) (hl:l.length≤64) (K:Nat) (hk:70≤K):dE.f K l l = some true:=by
 unfold dE.f
 rw [if_pos rfl]
 exact LG l hl l.length 0 K (Nat.zero_add _) (by omega)
theorem asi (s:lK) (v:nW) (x:iA) (t:Int) (e:jK) (p:BX) (d:Int):(Fp s v x t e p d).1.length≤64:=by
 unfold Fp
 split
 ·simp
 split
 ·simp
 split
 ·simp
 split
 ·simp
 split
 ·simp
 split
 ·simp
 split
 ·simp
 ·have:=acO (s:=s) (v:=v) (x:=x) (t:=t) (e:=e) (p:=p) d.toNat
  dsimp only
  omega
end Pln
open Pln in
theorem GliderPlans:∀ (x0:S25) (x1:S29) (x2:iA) (x3:Int) (x4:jK) (x5:(List gU)) (x6:BX) (x7:Int),W25 x0→W29 x1→W31 x2→(Lit.int .i64 x3).wf = true→W27 x4→((∀ y ∈ x5,W33 y)∧x5.length*Try.prog.bytesOf 33≤reachBytes)→W81 x6→(Lit.int .i64 x7).wf = true→∃ k,bB.f k (x0.f0) (x0.f1) (x0.f2) (x0.f3) (x0.f4) (x0.f5) (x0.f6) (x0.f7) (x0.f8) (x1.f0) (x1.f1) (x1.f2.f0) (x1.f2.f1) (x1.f3.f0) (x1.f3.f1) (x1.f4) (x2.f0.f0) (x2.f0.f1) (x2.f1.f0) (x2.f1.f1) x3 (x4.f0) (x4.f1) x5 (x6.f0.f0.f0) (x6.f0.f0.f1) (x6.f0.f1.f0) (x6.f0.f1.f1) (x6.f1) (x6.f2) x7 = some true:=by
 intro x0 x1 x2 x3 x4 x5 x6 x7 g0 g1 g2 g3 g4 g5 g6 g7
 let s:lK:=⟨x0.f0,x0.f1,x0.f2,x0.f3,x0.f4,x0.f5,x0.f6,x0.f7,x0.f8⟩
 let v:nW:=⟨x1.f0,x1.f1,⟨x1.f2.f0,x1.f2.f1⟩,⟨x1.f3.f0,x1.f3.f1⟩,x1.f4⟩
 have main:∀ K:Nat,10000≤K→bB.f (K+1) s.nx s.ny s.cell s.slot s.slots s.layers s.most s.bf s.aC v.speed v.bq v.use.f0 v.use.f1 v.aV.f0 v.aV.f1 v.reserve x2.f0.f0 x2.f0.f1 x2.f1.f0 x2.f1.f1 x3 x4.f0 x4.f1 x5 x6.f0.f0.f0 x6.f0.f0.f1 x6.f0.f1.f0 x6.f0.f1.f1 x6.f1 x6.f2 x7 = some true:=by
  intro K hK
  have ht:bB.j0 (K+1) x3 x5 x7 true s.nx s.ny s.cell s.slot s.slots s.layers s.most s.bf s.aC v.speed v.bq v.use.f0 v.use.f1 v.aV.f0 v.aV.f1 v.reserve x2.f0.f0 x2.f0.f1 x2.f1.f0 x2.f1.f1 x4.f0 x4.f1 x6.f0.f0.f0 x6.f0.f0.f1 x6.f0.f1.f0 x6.f0.f1.f1 x6.f1 x6.f2 = some true:=by
   rw [bB.j0,if_pos rfl,works (by omega)];rfl
  unfold bB.f
  rw [anE,aE]
  by_cases h1:(s.bf.length:Int) > 200
  ·rw [decide_eq_true h1,Bool.true_or,if_pos rfl,ht]
  by_cases h2:(s.aC.length:Int) > 3000
  ·rw [decide_eq_true h2,Bool.or_true,if_pos rfl,ht]
  rw [decide_eq_false h1,decide_eq_false h2,Bool.or_false,if_neg (by decide)]
  by_cases h3:(x5.length:Int) > 10
  ·rw [if_pos h3,ht]
  rw [if_neg h3]
  have aMZ:∃ b,kX.f s.nx s.ny s.cell s.slot s.slots s.layers s.most s.bf s.aC x7 = some b:=by
   unfold kX.f
   split
   ·exact ⟨_,rfl⟩
   ·exact ⟨_,rfl⟩
  obtain ⟨b,hb⟩:=aMZ
  rw [hb,aE]
  cases b with
  |true=>exact ht
  |false =>
   rw [bB.j0,if_neg (by decide)]
   have hbe:vY.f s.nx s.ny s.cell s.slot s.slots s.layers s.most s.bf s.aC v.speed v.bq v.use.f0 v.use.f1 v.aV.f0 v.aV.f1 v.reserve x2.f0.f0 x2.f0.f1 x2.f1.f0 x2.f1.f1 x3 x4.f0 x4.f1 x6.f0.f0.f0 x6.f0.f0.f1 x6.f0.f1.f0 x6.f0.f1.f1 x6.f1 x6.f2 x7 = some (Fp s v x2 x3 x4 x6 x7):=by
    rw [← anI];rfl
   have hrb:kY.f s.nx s.ny s.cell s.slot s.slots s.layers s.most s.bf s.aC v.speed v.bq v.use.f0 v.use.f1 v.aV.f0 v.aV.f1 v.reserve x2.f0.f0 x2.f0.f1 x2.f1.f0 x2.f1.f1 x3 x4.f0 x4.f1 x6.f0.f0.f0 x6.f0.f0.f1 x6.f0.f1.f0 x6.f0.f1.f1 x6.f1 x6.f2 x7 = some (Fp s v x2 x3 x4 x6 x7):=by
    unfold kY.f
    rw [if_pos (by omega)]
   have hcp:mR.f s.nx s.ny s.cell s.slot s.slots s.layers s.most s.bf s.aC v.speed v.bq v.use.f0 v.use.f1 v.aV.f0 v.aV.f1 v.reserve x2.f0.f0 x2.f0.f1 x2.f1.f0 x2.f1.f1 x3 x4.f0 x4.f1 x5 x6.f0.f0.f0 x6.f0.f0.f1 x6.f0.f1.f0 x6.f0.f1.f1 x6.f1 x6.f2 = some (WL s v x2 x3 x4 x5 x6):=rfl
   rw [hbe,aE,hrb,aE,hcp,aE,Ya s v x2 x3 x4 x5 x6 K (by omega) (by omega) (by omega),aE,if_pos rfl,same _ (asi s v x2 x3 x4 x6 x7) K (by omega),aE,if_pos rfl,if_pos rfl,if_pos rfl,works (by omega)];rfl
 exact ⟨10000+1,main 10000 (Nat.le_refl _)⟩
end Go.Proofs.Ytmhaiihjfgfaoaa.Pure
end
