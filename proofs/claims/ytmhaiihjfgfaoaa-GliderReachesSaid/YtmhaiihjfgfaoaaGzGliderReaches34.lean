import Derived.Test.YtmhaiihjfgfaoaaGzGliderReaches3
import Derived.Test.YtmhaiihjfgfaoaaGzGliderReaches33
import Derived.Test.YtmhaiihjfgfaoaaGzGliderReaches27
import Derived.Test.YtmhaiihjfgfaoaaGzGliderReaches14
import Derived.Test.YtmhaiihjfgfaoaaGzGliderReaches28
import Derived.Test.YtmhaiihjfgfaoaaGzGliderReaches25
import Derived.Test.YtmhaiihjfgfaoaaGzGliderReaches31
import Derived.Test.YtmhaiihjfgfaoaaGzGliderReaches20
import Derived.Test.YtmhaiihjfgfaoaaGzGliderReaches22
import Derived.Test.YtmhaiihjfgfaoaaGzGliderReaches23
import Derived.Test.YtmhaiihjfgfaoaaGzGliderReaches24
import Derived.Test.YtmhaiihjfgfaoaaGzGliderReaches26
import Derived.Test.YtmhaiihjfgfaoaaGzGliderReaches32
set_option linter.unusedSimpArgs false
set_option linter.unusedVariables false
section
namespace Go.Proofs.Ytmhaiihjfgfaoaa.Gl
open Go.RowKit Go.Proofs.YtmhaiihjfgfaoaaW.PrintWords Go.Proofs.YtmhaiihjfgfaoaaW.PrintLast Go.Proofs.YtmhaiihjfgfaoaaW.PrintMore Go.Proofs.Ytmhaiihjfgfaoaa.Pr
set_option linter.unusedVariables false
theorem Xp (k:Nat) (a:Int) (h:-4611686018427387904≤a∧a≤4611686018427387904):fA.f (k+1) a 1000 = some (a / 1000):=by
 rw [fA.f,if_neg (by omega),if_neg (by omega)]
 by_cases h0:0≤a
 ·rw [Int.tmod_eq_emod_of_nonneg h0,Int.tdiv_eq_ediv_of_nonneg h0,if_neg (by omega),dY (by omega)]
 ·obtain ⟨b,rfl⟩:∃ b,a = -b:=⟨-a,by omega⟩
  rw [Int.neg_tmod,Int.neg_tdiv,Int.tmod_eq_emod_of_nonneg (show 0≤b by omega),Int.tdiv_eq_ediv_of_nonneg (show 0≤b by omega)]
  by_cases h1:-(b % 1000) < 0
  ·rw [if_pos h1,dY (x:=-(b / 1000)) (by omega),dY (by omega)]
   congr 1;omega
  ·rw [if_neg h1,dY (by omega)]
   congr 1;omega
theorem GX (k:Nat) (a:Int) (h:-4611686018427387904≤a∧a≤4611686018427387904):fA.f (k+1) a 1000000 = some (Hy a):=by
 unfold Hy
 rw [fA.f,if_neg (by omega),if_neg (by omega)]
 by_cases h0:0≤a
 ·rw [Int.tmod_eq_emod_of_nonneg h0,Int.tdiv_eq_ediv_of_nonneg h0,if_neg (by omega),dY (by omega)]
 ·obtain ⟨b,rfl⟩:∃ b,a = -b:=⟨-a,by omega⟩
  rw [Int.neg_tmod,Int.neg_tdiv,Int.tmod_eq_emod_of_nonneg (show 0≤b by omega),Int.tdiv_eq_ediv_of_nonneg (show 0≤b by omega)]
  by_cases h1:-(b % 1000000) < 0
  ·rw [if_pos h1,dY (x:=-(b / 1000000)) (by omega),dY (by omega)]
   congr 1;omega
  ·rw [if_neg h1,dY (by omega)]
   congr 1;omega
theorem aaV (k:Nat) (a:Int) (h:0≤a∧a≤4611686018427387904):iC.f (k+1) a 1000 = some ((a+999) / 1000):=by
 unfold iC.f
 rw [dY (x:=-a) (by omega),Xp k (-a) (by omega),Option.bind_some,dY (by omega)]
 congr 1;omega
theorem Tu (k:Nat) (a:Int) (h:-4611686018427387904≤a∧a≤4611686018427387904):iC.f (k+1) a 1000000 = some (Xw a):=by
 unfold iC.f Xw
 rw [dY (x:=-a) (by omega),GX k (-a) (by omega),Option.bind_some]
 unfold Hy
 rw [dY (by omega)]
theorem Us {s:j3} {v:nz} {x:dO} (hS:Dy s) (hV:wO v) (hx:EN x) (k:Nat):fT.f (k+1) s.nx s.ny s.cell s.slot s.slots s.layers s.most s.shores s.currents v.speed v.dive v.use.f0 v.use.f1 v.drift.f0 v.drift.f1 v.reserve x.f0.f0 x.f0.f1 x.f1.f0 x.f1.f1 = some ((dQ s v x).f0.f0,(dQ s v x).f0.f1,(dQ s v x).f1.f0,(dQ s v x).f1.f1):=by
 have n1:=hV.speed;have n2:=hV.dive;have n3:=hS.most
 obtain ⟨p0,p1⟩:=iF (a:=v.speed+s.most) (b:=v.dive) (m:=10000) (n:=131072) (by omega) (by omega) (by omega) (by omega)
 obtain ⟨x0,x1,x2,x3⟩:=hx
 unfold fT.f dQ
 rw [dY (x:=v.speed+s.most) (by omega),dY (x:=(v.speed+s.most)*v.dive) (by omega),aaV k _ (by omega),Option.bind_some]
 generalize hm:((v.speed+s.most)*v.dive+999) / 1000 = m at*
 rw [dY (x:=x.f0.f0 - m) (by omega),dY (x:=x.f0.f1+m) (by omega),dY (x:=x.f1.f0 - m) (by omega),dY (x:=x.f1.f1+m) (by omega)]
theorem agK {s:j3} (hS:Dy s) (x:dO):iR.f s.nx s.ny s.cell s.slot s.slots s.layers s.most s.shores s.currents x.f0.f0 x.f0.f1 x.f1.f0 x.f1.f1 = some (iI s x):=by
 have n1:=hS.nx;have n2:=hS.ny;have n3:=hS.cell
 obtain ⟨a0,a1⟩:=iF (a:=s.nx) (b:=s.cell) (m:=12) (n:=65536) (by omega) (by omega) (by omega) (by omega)
 obtain ⟨b0,b1⟩:=iF (a:=s.ny) (b:=s.cell) (m:=12) (n:=65536) (by omega) (by omega) (by omega) (by omega)
 unfold iR.f iI
 rw [dY (x:=s.nx*s.cell) (by omega),dY (x:=s.ny*s.cell) (by omega)]
 by_cases g1:0≤x.f0.f0 <;> by_cases g2:x.f0.f1≤s.nx*s.cell <;> by_cases g3:0≤x.f1.f0 <;> simp [g1,g2,g3]
theorem aaW {s:j3} (hS:Dy s) (t u:Int):ik.f s.nx s.ny s.cell s.slot s.slots s.layers s.most s.shores s.currents t u = some (sJ s t u):=by
 have n4:=hS.slot;have n5:=hS.slots
 obtain ⟨d0,d1⟩:=iF (a:=s.slots) (b:=s.slot) (m:=16) (n:=1048576) (by omega) (by omega) (by omega) (by omega)
 unfold ik.f sJ
 rw [dY (x:=s.slots*s.slot) (by omega)]
 by_cases g1:0≤t <;> simp [g1]
def Sq (s:j3) (v:nz) (x:dO) (t:Int):Bool:=iI s (dQ s v x) && sJ s t (t+v.dive)
theorem Ca (s:j3) (v:nz) (x:dO) (t:Int):ig s v x t = if Sq s v x t = true then 0 else 5:=rfl
theorem Nl {s:j3} {v:nz} {x:dO} {t:Int} (hS:Dy s) (hV:wO v) (hx:EN x) (ht:0≤t∧t≤1099511627776) (k:Nat):dx.f (k+1) s.nx s.ny s.cell s.slot s.slots s.layers s.most s.shores s.currents v.speed v.dive v.use.f0 v.use.f1 v.drift.f0 v.drift.f1 v.reserve x.f0.f0 x.f0.f1 x.f1.f0 x.f1.f1 t = some (Sq s v x t):=by
 have n2:=hV.dive
 unfold dx.f Sq
 rw [Us hS hV hx k,Option.bind_some]
 refine Eq.trans (congrArg (fun o=>Option.bind o _) (agK hS (dQ s v x))) ?_
 rw [Option.bind_some,dY (x:=t+v.dive) (by omega),aaW hS,Option.bind_some]
 cases iI s (dQ s v x) <;> rfl
theorem asc {h:Int} (h0:0≤h) (h1:h≤8):jU.f h = some ((G9 h).1,(G9 h).2):=by
 have:h = 0∨h = 1∨h = 2∨h = 3∨h = 4∨h = 5∨h = 6∨h = 7∨h = 8:=by omega
 rcases this with rfl|rfl|rfl|rfl|rfl|rfl|rfl|rfl|rfl <;> rfl
theorem Ut {a u:lu} {sp d:Int} (hd:1≤d∧d≤131072) (ha0:-1099511627776≤a.f0∧a.f0≤1099511627776) (ha1:-1099511627776≤a.f1∧a.f1≤1099511627776) (hs0:-5000000≤sp∧sp≤5000000) (hu0:-5000≤u.f0∧u.f0≤5000) (hu1:-5000≤u.f1∧u.f1≤5000) (k:Nat):
 di.f (k+1) a.f0 a.f1 sp u.f0 u.f1 d = some ((oZ d a sp u).f0,(oZ d a sp u).f1):=by
 have m0:=lV (a:=sp+1000*u.f0) (b:=d) (m:=10000000) (n:=131072) (by omega) (by omega) (by omega) (by omega) (by omega)
 have m1:=lV (a:=sp+1000*u.f1) (b:=d) (m:=10000000) (n:=131072) (by omega) (by omega) (by omega) (by omega) (by omega)
 unfold di.f oZ
 rw [dY (x:=1000*u.f0) (by omega),dY (x:=1000*u.f1) (by omega),dY (x:=sp+1000*u.f0) (by omega),dY (x:=sp+1000*u.f1) (by omega),dY (x:=(sp+1000*u.f0)*d) (by omega),dY (x:=(sp+1000*u.f1)*d) (by omega),GX k _ (by omega),Option.bind_some,Tu k _ (by omega),Option.bind_some]
 have e0:wrap64 (a.f0+Hy ((sp+1000*u.f0)*d)) = a.f0+Hy ((sp+1000*u.f0)*d):=dY (by unfold Hy;omega)
 have e1:wrap64 (a.f1+Xw ((sp+1000*u.f1)*d)) = a.f1+Xw ((sp+1000*u.f1)*d):=dY (by unfold Xw;omega)
 rw [e0,e1]
theorem Zf {s:j3} {v:nz} {x:dO} {t hd layer:Int} (hS:ER s) (hV:wO v) (hx:kG x) (hh0:0≤hd) (hh1:hd≤8) (hl0:0≤layer) (hl1:layer < s.layers) (hm:Sq s v x t = true) (K:Nat) (hk:2400≤K):
 cZ.f K s.nx s.ny s.cell s.slot s.slots s.layers s.most s.shores s.currents v.speed v.dive v.use.f0 v.use.f1 v.drift.f0 v.drift.f1 v.reserve x.f0.f0 x.f0.f1 x.f1.f0 x.f1.f1 t hd layer = some ((kP s v x (dQ s v x) t hd layer).f0.f0,(kP s v x (dQ s v x) t hd layer).f0.f1,(kP s v x (dQ s v x) t hd layer).f1.f0,(kP s v x (dQ s v x) t hd layer).f1.f1):=by
 obtain ⟨K,rfl⟩:∃ z,K = z+1:=⟨K - 1,by omega⟩
 have hre:ig s v x t = 0:=by rw [Ca,if_pos hm]
 obtain ⟨hin,⟨ht0,ht1⟩,_⟩:=D7 hS.n hV hx hre
 obtain ⟨g0,g1⟩:=aj0 (s:=s) hS.n hV hx
 unfold Sq at hm
 rw [Bool.and_eq_true] at hm
 have n5:=hS.n.slots;have n4:=hS.n.slot;have nd:=hV.dive;have nsp:=hV.speed
 obtain ⟨d0,d1⟩:=iF (a:=s.slots) (b:=s.slot) (m:=16) (n:=1048576) (by omega) (by omega) (by omega) (by omega)
 have hat:aZ.f (K+1) s.nx s.ny s.cell s.slot s.slots s.layers s.most s.shores s.currents (dQ s v x).f0.f0 (dQ s v x).f0.f1 (dQ s v x).f1.f0 (dQ s v x).f1.f1 layer t (t+v.dive) = some ((SB s (dQ s v x) layer t (t+v.dive)).f0.f0,(SB s (dQ s v x) layer t (t+v.dive)).f0.f1,(SB s (dQ s v x) layer t (t+v.dive)).f1.f0,(SB s (dQ s v x) layer t (t+v.dive)).f1.f1):=by
  rw [← agI hS.n g0 g1 hm.1 ht0 (by omega) ht1]
  unfold aZ.f
  have:=Ur s (dQ s v x) layer t (t+v.dive) hS.n hS.cu hl0 hl1 s.slots.toNat 0 (K+1) [] (Int.le_refl _) (by omega) (by omega)
  rw [List.nil_append] at this
  exact this
 unfold cZ.f
 rw [asc hh0 hh1,Option.bind_some,Us hS.n hV hx.1 K,Option.bind_some,dY (x:=t+v.dive) (by omega),hat,Option.bind_some]
 have hai:=aa6 hS.cb (dQ s v x) layer t (t+v.dive)
 have hdi:=PX hd
 unfold kP
 generalize SB s (dQ s v x) layer t (t+v.dive) = y at*
 generalize G9 hd = d at*
 obtain ⟨y0,y1,y2,y3,y8,y9⟩:=hai
 have m0:=lV (a:=d.1) (b:=v.speed) (m:=1000) (n:=5000) hdi.1.1 hdi.1.2 nsp.1 nsp.2 (by omega)
 have m1:=lV (a:=d.2) (b:=v.speed) (m:=1000) (n:=5000) hdi.2.1 hdi.2.2 nsp.1 nsp.2 (by omega)
 obtain ⟨⟨x0,x1,x2,x3⟩,_⟩:=hx
 rw [dY (x:=d.1*v.speed) (by omega),dY (x:=d.2*v.speed) (by omega)]
 refine Eq.trans (congrArg (fun o=>Option.bind o _) (Ut (a:=x.f0) (u:=y.f0) nd x0 x1 (by omega) y0 y1 K)) ?_
 rw [Option.bind_some]
 refine Eq.trans (congrArg (fun o=>Option.bind o _) (Ut (a:=x.f1) (u:=y.f1) nd x2 x3 (by omega) y2 y3 K)) ?_
 rw [Option.bind_some]
theorem OU (x:dO) (t:Int):bI.f x.f0.f0 x.f0.f1 x.f1.f0 x.f1.f1 t = some (nD x t):=by
 unfold bI.f nD Hq lJ
 rw [Xn,Option.bind_some]
 cases vw x with
 |false=>rfl
 |true =>
  by_cases h1:t < 0
  ·rw [if_pos rfl,if_pos h1,decide_eq_false (show ¬(0≤t) by omega)];rfl
  ·rw [if_pos rfl,if_neg h1,decide_eq_true (show 0≤t by omega)]
   by_cases h2:t > 1073741824
   ·rw [if_pos h2,decide_eq_false (show ¬(t≤1073741824) by omega)];rfl
   ·rw [if_neg h2,decide_eq_true (show t≤1073741824 by omega)];rfl
theorem Sr (s:j3) (v:nz) (K:Nat) (hl:s.currents.length≤100000) (hk:s.currents.length+3≤K):bX.f K s.nx s.ny s.cell s.slot s.slots s.layers s.most s.shores s.currents v.speed v.dive v.use.f0 v.use.f1 v.drift.f0 v.drift.f1 v.reserve = some (kI s v):=by
 unfold bX.f kI
 rw [asb s K hl hk,Option.bind_some,Option.bind_some,asa,Option.bind_some]
 by_cases h:zQ s = 0
 ·rw [if_pos h,if_neg (fun q=>q h)]
 ·rw [if_neg h,if_pos h]
theorem Uu (l:List dO) (hl:l.length≤100000):∀ (m i K:Nat),i+m = l.length→m+1≤K→bH.l0 K l l (i:Int) = some true
 |0,i,K+1,h,hk=>by rw [bH.l0,if_neg (by omega)]
 |m+1,i,K+1,h,hk=>by
  rw [bH.l0,if_pos (by omega),if_pos (by omega),if_pos (by omega),if_neg (by simp),dY (by omega)]
  exact Uu l hl m (i+1) K (by omega) (by omega)
theorem Uv (l:List dO) (K:Nat) (hl:l.length≤100000) (hk:l.length+1≤K):bH.f K l l = some true:=by
 unfold bH.f
 rw [if_pos rfl]
 exact Uu l hl l.length 0 K (by omega) (by omega)
end Go.Proofs.Ytmhaiihjfgfaoaa.Gl
end
section
namespace Go.Proofs.Ytmhaiihjfgfaoaa.Gl
open Go.RowKit Go.Proofs.YtmhaiihjfgfaoaaW.PrintWords Go.Proofs.YtmhaiihjfgfaoaaW.PrintLast Go.Proofs.YtmhaiihjfgfaoaaW.PrintMore Go.Proofs.Ytmhaiihjfgfaoaa.Pr
theorem aj3 (a b:lu) (K:Nat) (hk:2≤K):bZ.f K a.f0 a.f1 b.f0 b.f1 = some (YX a b,inE a b):=by
 obtain ⟨K,rfl⟩:∃ z,K = z+2:=⟨K - 2,by omega⟩
 unfold bZ.f YX inE
 rw [J5,J5,Option.bind_some,Option.bind_some]
 cases ha:Ki a.f0 a.f1 with
 |false=>rfl
 |true =>
  cases hb:Ki b.f0 b.f1 with
  |false=>rfl
  |true =>
   have h1:=sU.1 ha
   have h2:=sU.1 hb
   rw [if_pos rfl,bZ.j0,if_neg (by decide),if_pos (show (true && true) = true from rfl),if_pos (show (true && true) = true from rfl)]
   by_cases q1:a.f0 ≥ b.f0
   ·rw [if_pos q1,bZ.j1]
    by_cases q2:a.f1≤b.f1
    ·rw [if_pos (decide_eq_true q2),if_pos (by omega),if_pos (by omega)]
    ·rw [if_neg (by simp only [decide_eq_true_eq];exact q2),if_neg (by omega)]
     by_cases q3:a.f0 > b.f1
     ·rw [if_pos q3,if_neg (by omega)]
     ·rw [if_neg q3,if_pos (by omega),if_neg (by omega)]
   ·rw [if_neg q1,bZ.j1,if_neg (by decide)]
    by_cases q3:a.f1 < b.f0
    ·rw [if_pos q3,if_neg (by omega)]
    ·rw [if_neg q3]
     by_cases q4:a.f0 > b.f1
     ·rw [if_pos q4,if_neg (by omega)]
     ·rw [if_neg q4,if_pos (by omega),if_neg (by omega)]
theorem aaX (x y:dO) (K:Nat) (hk:2≤K):jl.f K x.f0.f0 x.f0.f1 x.f1.f0 x.f1.f1 y.f0.f0 y.f0.f1 y.f1.f0 y.f1.f1 = some (BU x y):=by
 unfold jl.f BU
 rw [aj3 _ _ K hk,Option.bind_some,aj3 _ _ K hk,Option.bind_some]
 dsimp only
 rw [Gz]
theorem GY (l:List dO) (hl:l.length≤64):∀ (m i K:Nat),i+m = l.length→m+1≤K→cz.l0 K l (i:Int) = some (if (l.drop i).any (fun x=>!vw x) then 2 else 0)
 |0,i,K+1,h,hk=>by
  rw [cz.l0,if_neg (by omega),List.drop_eq_nil_of_le (by omega)];rfl
 |m+1,i,K+1,h,hk=>by
  have hi:i < l.length:=by omega
  have e:bq l (i:Int) = l[i]:=by
   unfold bq
   simp [hi]
  have ih:=GY l hl m (i+1) K (by omega) (by omega)
  rw [cz.l0,if_pos (by omega),if_pos (by omega),e,Xn,Option.bind_some,dY (x:=(i:Int)+1) (by omega),show (i:Int)+1 = ((i+1:Nat):Int) from by omega,ih,List.drop_eq_getElem_cons hi,List.any_cons]
  cases vw l[i] <;> rfl
theorem aaY (l:List dO) (K:Nat) (hk:66≤K):cz.f K l = some (xR l):=by
 unfold cz.f xR
 by_cases h:l.length > 64
 ·rw [if_pos (by omega),if_pos h]
 ·rw [if_neg (by omega),if_neg h]
  have:=GY l (by omega) l.length 0 K (by omega) (by omega)
  rw [List.drop_zero] at this
  exact this
end Go.Proofs.Ytmhaiihjfgfaoaa.Gl
end
section
namespace Go.Proofs.Ytmhaiihjfgfaoaa.Pr
open Go.RowKit Go.Proofs.YtmhaiihjfgfaoaaW.PrintWords Go.Proofs.YtmhaiihjfgfaoaaW.PrintLast Go.Proofs.YtmhaiihjfgfaoaaW.PrintMore
attribute [local go_sem] eD eF fD fE eG
set_option linter.unusedVariables false
set_option linter.unusedSimpArgs false
end Go.Proofs.Ytmhaiihjfgfaoaa.Pr
end
section
namespace Go.Proofs.Ytmhaiihjfgfaoaa.Gl
open Go.RowKit Go.Shelf Go.Proofs.YtmhaiihjfgfaoaaW.PrintWords Go.Proofs.YtmhaiihjfgfaoaaW.PrintLast Go.Proofs.YtmhaiihjfgfaoaaW.PrintMore Go.Proofs.Ytmhaiihjfgfaoaa.Pr Go.Proofs.YtmhaiihjfgfaoaaW.Round
set_option linter.unusedVariables false
set_option linter.unusedSimpArgs false
attribute [local go_sem] eD eF fD fE eG
end Go.Proofs.Ytmhaiihjfgfaoaa.Gl
end
section
namespace Go.Proofs.Ytmhaiihjfgfaoaa.Pr
open Go.RowKit Go.Proofs.YtmhaiihjfgfaoaaW.PrintWords Go.Proofs.YtmhaiihjfgfaoaaW.PrintLast Go.Proofs.YtmhaiihjfgfaoaaW.PrintMore
attribute [local go_sem] eD eF fD fE eG
set_option linter.unusedVariables false
set_option linter.unusedSimpArgs false
end Go.Proofs.Ytmhaiihjfgfaoaa.Pr
end
section
namespace Go.Proofs.Ytmhaiihjfgfaoaa.Gl
open Go.RowKit Go.Proofs.YtmhaiihjfgfaoaaW.PrintWords Go.Proofs.YtmhaiihjfgfaoaaW.PrintLast Go.Proofs.YtmhaiihjfgfaoaaW.PrintMore Go.Proofs.Ytmhaiihjfgfaoaa.Pr
set_option linter.unusedVariables false
theorem aj4 (p:Zz):il.f p.f0.f0.f0 p.f0.f0.f1 p.f0.f1.f0 p.f0.f1.f1 p.f1 p.f2 = some (Nb p):=by
 unfold il.f Nb
 rw [Xn,Option.bind_some]
 cases vw p.f0 with
 |false=>rfl
 |true =>
  rw [if_pos rfl]
  by_cases h1:p.f1 ≥ 0
  ·rw [if_pos h1,decide_eq_true (show 0≤p.f1 from h1)]
   by_cases h2:p.f1≤p.f2
   ·rw [if_pos h2,decide_eq_true h2];rfl
   ·rw [if_neg h2,decide_eq_false h2];rfl
  ·rw [if_neg h1,decide_eq_false (show ¬(0≤p.f1) from h1)];rfl
end Go.Proofs.Ytmhaiihjfgfaoaa.Gl
end
section
namespace Go.Proofs.Ytmhaiihjfgfaoaa.Gl
open Go.RowKit Go.Proofs.YtmhaiihjfgfaoaaW.PrintWords Go.Proofs.YtmhaiihjfgfaoaaW.PrintLast Go.Proofs.Ytmhaiihjfgfaoaa.Pr
theorem aaZ (a:dO):oJ a a = a:=by unfold oJ;simp
def mid (s:j3) (v:nz) (x:dO) (t:Int) (q j:Nat):dO:=if q+j = 0 then ⟨⟨0,0⟩,⟨0,0⟩⟩ else qK s v x (dQ s v x) t (kP s v x (dQ s v x) t 0 0) (wJ s.layers.toNat q j)
theorem aj5 (s:j3) (v:nz) (x:dO) (t:Int) (q j:Nat):mid s v x t q (j+1) = if q+j = 0 then kP s v x (dQ s v x) t (q:Int) (j:Int) else oJ (mid s v x t q j) (kP s v x (dQ s v x) t (q:Int) (j:Int)):=by
 unfold mid
 rw [if_neg (show ¬(q+(j+1) = 0) by omega),BP,RQ]
 by_cases h:q+j = 0
 ·obtain rfl:q = 0:=by omega
  obtain rfl:j = 0:=by omega
  rw [if_pos rfl,uP]
  exact aaZ _
 ·rw [if_neg h,if_neg h]
theorem ase (s:j3) (v:nz) (x:dO) (t:Int) (q:Nat) (hl:1≤s.layers):mid s v x t q s.layers.toNat = mid s v x t (q+1) 0:=by
 unfold mid
 rw [if_neg (show ¬(q+s.layers.toNat = 0) by omega),if_neg (by omega),uP,Et]
theorem mid_end (s:j3) (v:nz) (x:dO) (t:Int):mid s v x t 9 0 = uQ s v x t:=by
 unfold mid
 rw [if_neg (by omega),uP]
 rfl
theorem aj6 {s:j3} {v:nz} {x:dO} {t d:Int} {out:List dO} {i:Int} (hS:ER s) (hV:wO v) (hx:kG x) {T:Int} (hT:wrap64 (t+(wrap64 (i*v.dive))) = T) (hm:Sq s v x T = true) (q:Nat) (hq:q < 9) {R:List dO × Bool} {F:Nat}
 (hgo:∀ K,F≤K→aX.l1 K t d out i ((q+1:Nat):Int) s.nx s.ny s.cell s.slot s.slots s.layers s.most s.shores s.currents v.speed v.dive v.use.f0 v.use.f1 v.drift.f0 v.drift.f1 v.reserve x.f0.f0 x.f0.f1 x.f1.f0 x.f1.f1 (mid s v x T (q+1) 0).f0.f0 (mid s v x T (q+1) 0).f0.f1 (mid s v x T (q+1) 0).f1.f0 (mid s v x T (q+1) 0).f1.f1 = some R):∀ (m j K:Nat),j+m = s.layers.toNat→F+m+1≤K→2400+m+1≤K→
 aX.l2 K t d out i (q:Int) (j:Int) s.nx s.ny s.cell s.slot s.slots s.layers s.most s.shores s.currents v.speed v.dive v.use.f0 v.use.f1 v.drift.f0 v.drift.f1 v.reserve x.f0.f0 x.f0.f1 x.f1.f0 x.f1.f1 (mid s v x T q j).f0.f0 (mid s v x T q j).f0.f1 (mid s v x T q j).f1.f0 (mid s v x T q j).f1.f1 = some R:=by
 intro m
 have hla:=hS.n.layers
 induction m with
 |zero =>
  intro j K h hk hk2
  obtain ⟨K,rfl⟩:∃ z,K = z+1:=⟨K - 1,by omega⟩
  obtain rfl:j = s.layers.toNat:=by omega
  have hc:((q+1:Nat):Int) = (q:Int)+1:=by omega
  rw [aX.l2,if_neg (by omega),dY (x:=(q:Int)+1) (by omega),← hc,ase s v x T q hla.1]
  exact hgo K (by omega)
 |succ m ih =>
  intro j K h hk hk2
  obtain ⟨K,rfl⟩:∃ z,K = z+1:=⟨K - 1,by omega⟩
  have hc:((j+1:Nat):Int) = (j:Int)+1:=by omega
  have ih1:=ih (j+1) K (by omega) (by omega) (by omega)
  rw [aj5] at ih1
  rw [aX.l2,if_pos (by omega),hT]
  refine Eq.trans (congrArg (fun o=>Option.bind o _) (Zf hS hV hx (hd:=(q:Int)) (layer:=(j:Int)) (by omega) (by omega) (by omega) (by omega) hm K (by omega))) ?_
  rw [Option.bind_some,dY (x:=(q:Int)+(j:Int)) (by omega),dY (x:=(j:Int)+1) (by omega),← hc]
  dsimp only
  by_cases hz:q+j = 0
  ·rw [if_neg (show ¬((q:Int)+(j:Int) > 0) by omega)]
   rw [if_pos hz] at ih1
   exact ih1
  ·rw [if_pos (show (q:Int)+(j:Int) > 0 by omega)]
   rw [if_neg hz] at ih1
   unfold dC.f
   rw [Option.bind_some,Option.bind_some]
   dsimp only
   rw [Gz,Cq,Gz,Cq]
   exact ih1
theorem aj7 {s:j3} {v:nz} {x:dO} {t d:Int} {out:List dO} {i:Int} (hS:ER s) (hV:wO v) (hx:kG x) {T:Int} (hT:wrap64 (t+(wrap64 (i*v.dive))) = T) (hm:Sq s v x T = true) (hi:out.length < 4398046511104) {R:List dO × Bool} {F:Nat}
 (hgo:∀ K,F≤K→aX.l0 K t d (out++[uQ s v x T]) (wrap64 (i+1)) s.nx s.ny s.cell s.slot s.slots s.layers s.most s.shores s.currents v.speed v.dive v.use.f0 v.use.f1 v.drift.f0 v.drift.f1 v.reserve (uQ s v x T).f0.f0 (uQ s v x T).f0.f1 (uQ s v x T).f1.f0 (uQ s v x T).f1.f1 = some R):∀ (m q K:Nat),q+m = 9→F+6*m+1≤K→2400+6*m+1≤K→
 aX.l1 K t d out i (q:Int) s.nx s.ny s.cell s.slot s.slots s.layers s.most s.shores s.currents v.speed v.dive v.use.f0 v.use.f1 v.drift.f0 v.drift.f1 v.reserve x.f0.f0 x.f0.f1 x.f1.f0 x.f1.f1 (mid s v x T q 0).f0.f0 (mid s v x T q 0).f0.f1 (mid s v x T q 0).f1.f0 (mid s v x T q 0).f1.f1 = some R:=by
 intro m
 have hla:=hS.n.layers
 induction m with
 |zero =>
  intro q K h hk hk2
  obtain ⟨K,rfl⟩:∃ z,K = z+1:=⟨K - 1,by omega⟩
  obtain rfl:q = 9:=by omega
  rw [aX.l1,if_neg (by omega),if_pos hi,mid_end]
  exact hgo K (by omega)
 |succ m ih =>
  intro q K h hk hk2
  obtain ⟨K,rfl⟩:∃ z,K = z+1:=⟨K - 1,by omega⟩
  rw [aX.l1,if_pos (by omega)]
  exact aj6 hS hV hx hT hm q (by omega) (F:=max (F+6*m+1) (2400+6*m+1)) (fun K' hK'=>ih (q+1) K' (by omega) (by omega) (by omega)) s.layers.toNat 0 K (by omega) (by omega) (by omega)
def okR (R:List dO × Int):List dO × Bool:=if R.2 = 0 then (R.1,true) else ([],false)
theorem aj8 {s:j3} {v:nz} {t:Int} (hS:ER s) (hV:wO v) (ht:0≤t∧t≤1073741824) (n:Nat) (hn:n≤64):∀ (m i K:Nat) (x:dO) (out:List dO),i+m = n→3000+60*m≤K→kG x→out.length = i→
 aX.l0 K t (n:Int) out (i:Int) s.nx s.ny s.cell s.slot s.slots s.layers s.most s.shores s.currents v.speed v.dive v.use.f0 v.use.f1 v.drift.f0 v.drift.f1 v.reserve x.f0.f0 x.f0.f1 x.f1.f0 x.f1.f1 = some (okR (iP s v m x (t+(i:Int)*v.dive) out)):=by
 have hdv:=hV.dive
 intro m
 induction m with
 |zero =>
  intro i K x out h hk hx ho
  obtain ⟨K,rfl⟩:∃ z,K = z+1:=⟨K - 1,by omega⟩
  rw [aX.l0,if_neg (by omega)]
  unfold iP okR
  rw [if_pos rfl]
 |succ m ih =>
  intro i K x out h hk hx ho
  obtain ⟨K,rfl⟩:∃ z,K = z+1:=⟨K - 1,by omega⟩
  have hqi:=iF (a:=(i:Int)) (b:=v.dive) (m:=64) (n:=131072) (by omega) (by omega) (by omega) (by omega)
  have hT:wrap64 (t+(wrap64 ((i:Int)*v.dive))) = t+(i:Int)*v.dive:=by rw [dY (x:=(i:Int)*v.dive) (by omega),dY (x:=t+(i:Int)*v.dive) (by omega)]
  have hc:((i+1:Nat):Int) = (i:Int)+1:=by omega
  have hmul:t+((i+1:Nat):Int)*v.dive = t+(i:Int)*v.dive+v.dive:=by rw [hc,Int.add_mul,Int.one_mul];omega
  obtain ⟨K,rfl⟩:∃ z,K = z+1:=⟨K - 1,by omega⟩
  rw [aX.l0,if_pos (by omega),hT,Nl hS.n hV hx.1 (by omega) K,Option.bind_some]
  unfold iP
  by_cases hm:Sq s v x (t+(i:Int)*v.dive) = true
  ·have hr:ig s v x (t+(i:Int)*v.dive) = 0:=by rw [Ca,if_pos hm]
   rw [if_pos hm,if_neg (fun q=>q hr)]
   have h1:=aj7 (s:=s) (v:=v) (x:=x) (t:=t) (d:=(n:Int)) (out:=out) (i:=(i:Int)) hS hV hx hT hm (by omega) (R:=okR (iP s v m (uQ s v x (t+(i:Int)*v.dive)) (t+(i:Int)*v.dive+v.dive) (out++[uQ s v x (t+(i:Int)*v.dive)]))) (F:=3000+60*m) (fun K' hK'=>by
    have:=ih (i+1) K' _ (out++[uQ s v x (t+(i:Int)*v.dive)]) (by omega) hK' (YR hS hV hx hr) (by rw [List.length_append,ho];rfl)
    rw [hmul] at this
    rw [dY (x:=(i:Int)+1) (by omega),← hc]
    exact this) 9 0 (K+1) rfl (by omega) (by omega)
   exact h1
  ·have hr:ig s v x (t+(i:Int)*v.dive) = 5:=by rw [Ca,if_neg hm]
   rw [if_neg hm,if_pos (by rw [hr];decide),hr]
   unfold okR
   rw [if_neg (by decide)]
theorem Uw {s:j3} {v:nz} {t:Int} (hS:ER s) (hV:wO v) (ht:0≤t∧t≤1073741824) (n:Nat) (hn:n≤64) (x:dO) (hx:kG x) (K:Nat) (hk:7000≤K):aX.f K s.nx s.ny s.cell s.slot s.slots s.layers s.most s.shores s.currents v.speed v.dive v.use.f0 v.use.f1 v.drift.f0 v.drift.f1 v.reserve x.f0.f0 x.f0.f1 x.f1.f0 x.f1.f1 t (n:Int) = some (okR (iP s v n x t [])):=by
 unfold aX.f
 have:=aj8 hS hV ht n hn n 0 K x [] (by omega) (by omega) hx rfl
 rw [show t+((0:Nat):Int)*v.dive = t by simp] at this
 exact this
theorem KS (s:j3) (v:nz):∀ (n:Nat) (x:dO) (t:Int) (out:List dO),(iP s v n x t out).2 = 0∨iP s v n x t out = ([],5)
 |0,x,t,out=>.inl (by unfold iP;rfl)
 |n+1,x,t,out=>by
  unfold iP
  rcases aaT s v x t with h|h
  ·rw [if_neg (fun q=>q h)]
   exact KS s v n _ _ _
  ·rw [h,if_pos (by decide)]
   exact .inr rfl
theorem aj9 {s:j3} {v:nz} {n:Nat} {x:dO} {t:Int}:(if (okR (iP s v n x t [])).2 = true then some ((okR (iP s v n x t [])).1,(0:Int)) else some ([],5)) = some (iP s v n x t []):=by
 rcases KS s v n x t [] with h|h
 ·unfold okR
  rw [if_pos h,if_pos rfl]
  generalize iP s v n x t [] = R at*
  obtain ⟨a,b⟩:=R
  dsimp only at h
  subst h
  rfl
 ·rw [h];rfl
theorem agL (s:j3) (v:nz) (x:dO) (t d:Int) (K:Nat) (hl:s.currents.length≤100000) (hk:s.currents.length+3≤K) (hk':7002≤K):dE.f K s.nx s.ny s.cell s.slot s.slots s.layers s.most s.shores s.currents v.speed v.dive v.use.f0 v.use.f1 v.drift.f0 v.drift.f1 v.reserve x.f0.f0 x.f0.f1 x.f1.f0 x.f1.f1 t d = some (GA s v x t d):=by
 obtain ⟨K,rfl⟩:∃ z,K = z+1:=⟨K - 1,by omega⟩
 unfold dE.f
 rw [Sr s v (K+1) hl hk,Option.bind_some,Option.bind_some]
 have hbg:ky s v x t = if kI s v≠0 then kI s v else nD x t:=rfl
 unfold GA
 by_cases h0:kI s v = 0
 case neg =>
  rw [if_pos h0] at hbg
  rw [if_neg h0,hbg,if_pos h0]
 rw [if_pos h0,OU,Option.bind_some,Option.bind_some]
 rw [if_neg (fun q=>q h0)] at hbg
 by_cases h1:nD x t = 0
 case neg=>rw [if_neg h1,hbg,if_pos h1]
 rw [if_pos h1,hbg,if_neg (show ¬(nD x t≠0) from fun q=>q h1)]
 obtain ⟨hx,ht0,ht1⟩:=BH h1
 obtain ⟨hS,hV⟩:=BF h0
 by_cases hd:d < 0
 ·rw [if_pos hd,if_pos (.inl hd),dE.j0,if_pos rfl]
 rw [if_neg hd]
 by_cases hd2:d > 64
 ·rw [decide_eq_true hd2,if_pos (.inr hd2),dE.j0,if_pos rfl]
 rw [decide_eq_false hd2,if_neg (by omega),dE.j0,if_neg (by decide)]
 obtain ⟨n,rfl⟩:∃ n:Nat,d = n:=⟨d.toNat,by omega⟩
 rw [Int.toNat_natCast,Uw hS hV ⟨ht0,ht1⟩ n (by omega) x hx K (by omega),Option.bind_some]
 exact aj9
def fl (a:Int):Bool:=decide (a≠0)
theorem Zg {s:j3} {v:nz} {x g:dO} {t:Int} {tb:dO}:∀ (l:List Hm) (a:Int),a = 0∨a = 16→GD s v x g t tb a l = 0∨GD s v x g t tb a l = 16
 |[],a,h=>h
 |c :: l,a,h=>by
  have e:GD s v x g t tb a (c :: l) = GD s v x g t tb (if BU (kP s v x g t c.f0 c.f1) tb = 2 then a else 16) l:=rfl
  rw [e]
  refine Zg l _ ?_
  split
  ·exact h
  ·exact .inr rfl
theorem aFl {s:j3} {v:nz} {x:dO} {t:Int} {l:List dO} {i:Nat} (hi:i < l.length) (hS:ER s) (hV:wO v) (hx:kG x) {T a:Int} (hT:wrap64 (t+(wrap64 ((i:Int)*v.dive))) = T) (hm:Sq s v x T = true) (q:Nat) (hq:q < 9) {R:Int} {F:Nat}
 (hgo:∀ K,F≤K→aA.l1 K t l (fl (GD s v x (dQ s v x) T l[i] a (wJ s.layers.toNat (q+1) 0))) (i:Int) ((q+1:Nat):Int) s.nx s.ny s.cell s.slot s.slots s.layers s.most s.shores s.currents v.speed v.dive v.use.f0 v.use.f1 v.drift.f0 v.drift.f1 v.reserve x.f0.f0 x.f0.f1 x.f1.f0 x.f1.f1 = some R):∀ (m j K:Nat),j+m = s.layers.toNat→F+m+1≤K→2400+m+1≤K→
 aA.l2 K t l (fl (GD s v x (dQ s v x) T l[i] a (wJ s.layers.toNat q j))) (i:Int) (q:Int) (j:Int) s.nx s.ny s.cell s.slot s.slots s.layers s.most s.shores s.currents v.speed v.dive v.use.f0 v.use.f1 v.drift.f0 v.drift.f1 v.reserve x.f0.f0 x.f0.f1 x.f1.f0 x.f1.f1 = some R:=by
 intro m
 have hla:=hS.n.layers
 induction m with
 |zero =>
  intro j K h hk hk2
  obtain ⟨K,rfl⟩:∃ z,K = z+1:=⟨K - 1,by omega⟩
  obtain rfl:j = s.layers.toNat:=by omega
  have hc:((q+1:Nat):Int) = (q:Int)+1:=by omega
  have:=hgo K (by omega)
  rw [uP,Et] at this
  rw [aA.l2,if_neg (by omega),dY (x:=(q:Int)+1) (by omega),← hc]
  exact this
 |succ m ih =>
  intro j K h hk hk2
  obtain ⟨K,rfl⟩:∃ z,K = z+1:=⟨K - 1,by omega⟩
  have hc:((j+1:Nat):Int) = (j:Int)+1:=by omega
  have ih1:=ih (j+1) K (by omega) (by omega) (by omega)
  rw [BP,Uj] at ih1
  dsimp only at ih1
  have e:bq l (i:Int) = l[i]:=by unfold bq;simp [hi]
  generalize GD s v x (dQ s v x) T l[i] a (wJ s.layers.toNat q j) = P at*
  rw [aA.l2,if_pos (by omega),hT]
  refine Eq.trans (congrArg (fun o=>Option.bind o _) (Zf hS hV hx (hd:=(q:Int)) (layer:=(j:Int)) (by omega) (by omega) (by omega) (by omega) hm K (by omega))) ?_
  rw [Option.bind_some,dY (x:=(j:Int)+1) (by omega),← hc]
  dsimp only
  by_cases hP:P = 0
  ·subst hP
   have hin:=aaX (kP s v x (dQ s v x) T (q:Int) (j:Int)) l[i] K (by omega)
   rw [if_neg (show ¬(fl 0 = true) from by decide),if_pos (by omega),if_pos (by omega),e,hin,Option.bind_some]
   by_cases hI:BU (kP s v x (dQ s v x) T (q:Int) (j:Int)) l[i] = 2
   ·rw [if_pos hI] at ih1
    rw [hI]
    exact ih1
   ·rw [if_neg hI] at ih1
    rw [show (BU (kP s v x (dQ s v x) T (q:Int) (j:Int)) l[i] != 2) = fl 16 from by rw [bne,beq_eq_false_iff_ne.2 hI];rfl]
    exact ih1
  ·have hf:fl P = true:=decide_eq_true hP
   rw [if_pos hf]
   have hf2:fl (if BU (kP s v x (dQ s v x) T (q:Int) (j:Int)) l[i] = 2 then P else 16) = true:=by
    split
    ·exact hf
    ·rfl
   rw [hf2] at ih1
   exact ih1
theorem aFm {s:j3} {v:nz} {x:dO} {t:Int} {l:List dO} {i:Nat} (hi:i < l.length) (hS:ER s) (hV:wO v) (hx:kG x) {T a:Int} (hT:wrap64 (t+(wrap64 ((i:Int)*v.dive))) = T) (hm:Sq s v x T = true) {R:Int} {F:Nat}
 (hgo:∀ K,F≤K→aA.l0 K t l (fl (KO s v x T l[i] a)) (wrap64 ((i:Int)+1)) s.nx s.ny s.cell s.slot s.slots s.layers s.most s.shores s.currents v.speed v.dive v.use.f0 v.use.f1 v.drift.f0 v.drift.f1 v.reserve (l[i]).f0.f0 (l[i]).f0.f1 (l[i]).f1.f0 (l[i]).f1.f1 = some R):∀ (m q K:Nat),q+m = 9→F+6*m+1≤K→2400+6*m+1≤K→
 aA.l1 K t l (fl (GD s v x (dQ s v x) T l[i] a (wJ s.layers.toNat q 0))) (i:Int) (q:Int) s.nx s.ny s.cell s.slot s.slots s.layers s.most s.shores s.currents v.speed v.dive v.use.f0 v.use.f1 v.drift.f0 v.drift.f1 v.reserve x.f0.f0 x.f0.f1 x.f1.f0 x.f1.f1 = some R:=by
 intro m
 have hla:=hS.n.layers
 induction m with
 |zero =>
  intro q K h hk hk2
  obtain ⟨K,rfl⟩:∃ z,K = z+1:=⟨K - 1,by omega⟩
  obtain rfl:q = 9:=by omega
  have e:bq l (i:Int) = l[i]:=by unfold bq;simp [hi]
  rw [aA.l1,if_neg (by omega),if_pos (by omega),if_pos (by omega),e,uP]
  exact hgo K (by omega)
 |succ m ih =>
  intro q K h hk hk2
  obtain ⟨K,rfl⟩:∃ z,K = z+1:=⟨K - 1,by omega⟩
  rw [aA.l1,if_pos (by omega)]
  exact aFl hi hS hV hx hT hm q (by omega) (F:=max (F+6*m+1) (2400+6*m+1)) (fun K' hK'=>ih (q+1) K' (by omega) (by omega) (by omega)) s.layers.toNat 0 K (by omega) (by omega) (by omega)
theorem aFn {s:j3} {v:nz} {t:Int} (hS:ER s) (hV:wO v) (ht:0≤t∧t≤1073741824) (l:List dO) (hl:l.length≤64) (hb:∀ b ∈ l,kG b):∀ (m i K:Nat) (x:dO) (a:Int),i+m = l.length→3000+60*m≤K→kG x→a = 0∨a = 16→
 aA.l0 K t l (fl a) (i:Int) s.nx s.ny s.cell s.slot s.slots s.layers s.most s.shores s.currents v.speed v.dive v.use.f0 v.use.f1 v.drift.f0 v.drift.f1 v.reserve x.f0.f0 x.f0.f1 x.f1.f0 x.f1.f1 = some (ckI s v (l.drop i) x (t+(i:Int)*v.dive) a):=by
 have hdv:=hV.dive
 intro m
 induction m with
 |zero =>
  intro i K x a h hk hx ha
  obtain ⟨K,rfl⟩:∃ z,K = z+1:=⟨K - 1,by omega⟩
  have:l.drop i = []:=List.drop_eq_nil_iff.2 (by omega)
  rw [aA.l0,if_neg (by omega),this]
  unfold ckI
  rcases ha with rfl|rfl <;> rfl
 |succ m ih =>
  intro i K x a h hk hx ha
  obtain ⟨K,rfl⟩:∃ z,K = z+1:=⟨K - 1,by omega⟩
  have hi:i < l.length:=by omega
  have hqi:=iF (a:=(i:Int)) (b:=v.dive) (m:=64) (n:=131072) (by omega) (by omega) (by omega) (by omega)
  have hT:wrap64 (t+(wrap64 ((i:Int)*v.dive))) = t+(i:Int)*v.dive:=by rw [dY (x:=(i:Int)*v.dive) (by omega),dY (x:=t+(i:Int)*v.dive) (by omega)]
  have hc:((i+1:Nat):Int) = (i:Int)+1:=by omega
  have hmul:t+((i+1:Nat):Int)*v.dive = t+(i:Int)*v.dive+v.dive:=by rw [hc,Int.add_mul,Int.one_mul];omega
  obtain ⟨K,rfl⟩:∃ z,K = z+1:=⟨K - 1,by omega⟩
  rw [aA.l0,if_pos (by omega),hT,Nl hS.n hV hx.1 (by omega) K,Option.bind_some,List.drop_eq_getElem_cons hi]
  unfold ckI
  by_cases hm:Sq s v x (t+(i:Int)*v.dive) = true
  ·have hr:ig s v x (t+(i:Int)*v.dive) = 0:=by rw [Ca,if_pos hm]
   rw [if_pos hm,if_neg (fun q=>q hr)]
   have h1:=aFm (s:=s) (v:=v) (x:=x) (t:=t) (l:=l) (i:=i) hi hS hV hx hT hm (a:=a) (R:=ckI s v (l.drop (i+1)) l[i] (t+(i:Int)*v.dive+v.dive) (KO s v x (t+(i:Int)*v.dive) l[i] a)) (F:=3000+60*m) (fun K' hK'=>by
    have:=ih (i+1) K' l[i] (KO s v x (t+(i:Int)*v.dive) l[i] a) (by omega) hK' (hb _ (List.getElem_mem hi)) (Zg _ _ ha)
    rw [hmul] at this
    rw [dY (x:=(i:Int)+1) (by omega),← hc]
    exact this) 9 0 (K+1) rfl (by omega) (by omega)
   exact h1
  ·have hr:ig s v x (t+(i:Int)*v.dive) = 5:=by rw [Ca,if_neg hm]
   rw [if_neg hm,if_pos (by rw [hr];decide),hr]
theorem Su (s:j3) (v:nz) (x:dO) (t:Int) (l:List dO) (K:Nat) (hl:s.currents.length≤100000) (hk:s.currents.length+3≤K) (hk':7002≤K):aA.f K s.nx s.ny s.cell s.slot s.slots s.layers s.most s.shores s.currents v.speed v.dive v.use.f0 v.use.f1 v.drift.f0 v.drift.f1 v.reserve x.f0.f0 x.f0.f1 x.f1.f0 x.f1.f1 t l = some (CkX s v x t l):=by
 unfold aA.f
 rw [Sr s v K hl hk,Option.bind_some,Option.bind_some]
 have hbg:ky s v x t = if kI s v≠0 then kI s v else nD x t:=rfl
 unfold CkX
 by_cases h0:kI s v = 0
 case neg =>
  rw [if_pos h0] at hbg
  rw [if_neg h0,hbg,if_pos h0]
 rw [if_pos h0,OU,Option.bind_some,Option.bind_some]
 rw [if_neg (fun q=>q h0)] at hbg
 by_cases h1:nD x t = 0
 case neg=>rw [if_neg h1,hbg,if_pos h1]
 rw [if_pos h1,hbg,if_neg (show ¬(nD x t≠0) from fun q=>q h1),aaY l K (by omega),Option.bind_some,Option.bind_some]
 obtain ⟨hx,ht0,ht1⟩:=BH h1
 obtain ⟨hS,hV⟩:=BF h0
 by_cases h2:xR l = 0
 case neg=>rw [if_neg h2,if_pos h2]
 rw [if_pos h2,if_neg (show ¬(xR l≠0) from fun q=>q h2)]
 obtain ⟨aru,hb⟩:=Uk h2
 have:=aFn hS hV ⟨ht0,ht1⟩ l aru hb l.length 0 K x 0 (by omega) (by omega) hx (.inl rfl)
 rw [show t+((0:Nat):Int)*v.dive = t by simp,List.drop_zero] at this
 exact this
theorem Zh {a b:lu} (h0:Ki a.f0 a.f1 = true) (h1:Ki b.f0 b.f1 = true):(decide (a.f0≤b.f1) && decide (b.f0≤a.f1)) = decide (YX a b≠0):=by
 have g0:=sU.1 h0
 have g1:=sU.1 h1
 unfold YX
 rw [h0,h1,if_pos (show (true && true) = true from rfl),Bool.eq_iff_iff]
 simp only [Bool.and_eq_true,decide_eq_true_eq]
 by_cases hm:max a.f0 b.f0≤min a.f1 b.f1
 ·rw [if_pos hm]
  have:(if b.f0≤a.f0∧a.f1≤b.f1 then (2:Int) else 1)≠0:=by split <;> decide
  constructor
  ·intro _;exact this
  ·intro _;omega
 ·rw [if_neg hm]
  constructor
  ·intro h;omega
  ·intro h;exact absurd rfl h
theorem agM {b y:dO} (hb:Sm b) (hy:vw y = true):((decide (b.f0.f0≤y.f0.f1) && decide (y.f0.f0≤b.f0.f1)) && (decide (b.f1.f0≤y.f1.f1) && decide (y.f1.f0≤b.f1.f1))) = decide (BU b y≠0):=by
 have hbb:=hb.vw
 unfold Gl.vw at hbb hy
 simp only [Bool.and_eq_true] at hbb hy
 rw [Zh hbb.1.1 hy.1.1,Zh hbb.1.2 hy.1.2]
 have h0:=aeh b.f0 y.f0
 have h1:=aeh b.f1 y.f1
 unfold BU
 rw [Bool.eq_iff_iff]
 simp only [Bool.and_eq_true,decide_eq_true_eq]
 omega
theorem aka {v:nz} {p:Zz} {t:Int} (hV:wO v) (hp:vw p.f0 = true) (ht:0≤t∧t≤1073741824) (l:List dO) (hl:l.length≤64) (hs:∀ b ∈ l,Sm b):∀ (m i K:Nat),i+m = l.length→m+1≤K→
 aW.l0 K t l (i:Int) v.speed v.dive v.use.f0 v.use.f1 v.drift.f0 v.drift.f1 v.reserve p.f0.f0.f0 p.f0.f0.f1 p.f0.f1.f0 p.f0.f1.f1 p.f1 p.f2 = some (if Sd v.dive p (l.drop i) (t+(i:Int)*v.dive) = true then ([],15) else (l,0)):=by
 have hdv:=hV.dive
 intro m
 induction m with
 |zero =>
  intro i K h hk
  obtain ⟨K,rfl⟩:∃ z,K = z+1:=⟨K - 1,by omega⟩
  have:l.drop i = []:=List.drop_eq_nil_iff.2 (by omega)
  rw [aW.l0,if_neg (by omega),this]
  rfl
 |succ m ih =>
  intro i K h hk
  obtain ⟨K,rfl⟩:∃ z,K = z+1:=⟨K - 1,by omega⟩
  have hi:i < l.length:=by omega
  have hc:((i+1:Nat):Int) = (i:Int)+1:=by omega
  have hqi:=iF (a:=(i:Int)+1) (b:=v.dive) (m:=65) (n:=131072) (by omega) (by omega) (by omega) (by omega)
  have hmul:t+((i+1:Nat):Int)*v.dive = t+(i:Int)*v.dive+v.dive:=by rw [hc,Int.add_mul,Int.one_mul];omega
  have hT:wrap64 (t+(wrap64 ((wrap64 ((i:Int)+1))*v.dive))) = t+(i:Int)*v.dive+v.dive:=by
   rw [dY (x:=(i:Int)+1) (by omega),dY (x:=((i:Int)+1)*v.dive) (by omega),dY (x:=t+((i:Int)+1)*v.dive) (by omega),← hmul,hc]
  have e:bq l (i:Int) = l[i]:=by unfold bq;simp [hi]
  have ih1:=ih (i+1) K (by omega) (by omega)
  rw [hmul] at ih1
  have hti:=agM (hs _ (List.getElem_mem hi)) hp
  rw [aW.l0,if_pos (by omega),hT,e,dY (x:=(i:Int)+1) (by omega),← hc,ih1,List.drop_eq_getElem_cons hi,Pz,hti,Option.bind_some]
  rw [show Sd v.dive p (l[i] :: l.drop (i+1)) (t+(i:Int)*v.dive) = ((lJ (t+(i:Int)*v.dive+v.dive) p.f1 p.f2 && decide (BU l[i] p.f0≠0)) || Sd v.dive p (l.drop (i+1)) (t+(i:Int)*v.dive+v.dive)) from rfl]
  unfold lJ
  generalize t+(i:Int)*v.dive+v.dive = T at*
  by_cases g1:T ≥ p.f1
  case neg=>rw [if_neg g1,decide_eq_false (show ¬(p.f1≤T) from g1),Bool.false_and,Bool.false_and,Bool.false_or]
  rw [if_pos g1,decide_eq_true (show p.f1≤T from g1)]
  by_cases g2:T≤p.f2
  case neg=>rw [if_neg g2,decide_eq_false g2,Bool.and_false,Bool.false_and,Bool.false_or]
  rw [if_pos g2,decide_eq_true g2,if_pos (by omega)]
  cases hI:decide (BU l[i] p.f0≠0) with
  |true=>rfl
  |false=>rfl
theorem agN (s:j3) (v:nz) (x:dO) (t:Int) (p:Zz) (d:Int) (K:Nat) (hl:s.currents.length≤100000) (hk:s.currents.length+3≤K) (hk':7002≤K):aW.f K s.nx s.ny s.cell s.slot s.slots s.layers s.most s.shores s.currents v.speed v.dive v.use.f0 v.use.f1 v.drift.f0 v.drift.f1 v.reserve x.f0.f0 x.f0.f1 x.f1.f0 x.f1.f1 t p.f0.f0.f0 p.f0.f0.f1 p.f0.f1.f0 p.f0.f1.f1 p.f1 p.f2 d = some (GJ s v x t p d):=by
 obtain ⟨K,rfl⟩:∃ z,K = z+1:=⟨K - 1,by omega⟩
 unfold aW.f
 rw [Sr s v (K+1) hl hk,Option.bind_some,Option.bind_some]
 have hbg:ky s v x t = if kI s v≠0 then kI s v else nD x t:=rfl
 unfold GJ
 by_cases h0:kI s v = 0
 case neg =>
  rw [if_pos h0] at hbg
  rw [if_neg h0,hbg,if_pos h0]
 rw [if_pos h0,OU,Option.bind_some,Option.bind_some]
 rw [if_neg (fun q=>q h0)] at hbg
 by_cases h1:nD x t = 0
 case neg=>rw [if_neg h1,hbg,if_pos h1]
 rw [if_pos h1,hbg,if_neg (show ¬(nD x t≠0) from fun q=>q h1),aj4,Option.bind_some]
 obtain ⟨hx,ht0,ht1⟩:=BH h1
 obtain ⟨hS,hV⟩:=BF h0
 cases hpk:Nb p with
 |false=>rw [if_neg (by decide),if_pos rfl]
 |true =>
 rw [if_pos rfl,if_neg (show ¬(true = false) by decide)]
 by_cases hd:d < 1
 ·rw [if_pos hd,if_pos (.inl hd),aW.j0,if_pos rfl]
 rw [if_neg hd]
 by_cases hd2:d > 64
 ·rw [decide_eq_true hd2,if_pos (.inr hd2),aW.j0,if_pos rfl]
 rw [decide_eq_false hd2,if_neg (by omega),aW.j0,if_neg (by decide)]
 obtain ⟨n,rfl⟩:∃ n:Nat,d = n:=⟨d.toNat,by omega⟩
 rw [Int.toNat_natCast,Uw hS hV ⟨ht0,ht1⟩ n (by omega) x hx K (by omega),Option.bind_some]
 rcases KS s v n x t [] with h|h
 ·obtain ⟨Bs,e,hlen,_,hsm⟩:=Sl hS hV n x t [] hx h
  rw [List.nil_append] at e
  have hpb:vw p.f0 = true:=by
   unfold Nb at hpk
   simp only [Bool.and_eq_true] at hpk
   exact hpk.1.1.1
  unfold okR
  rw [if_pos h,if_pos rfl,if_neg (fun q=>q h)]
  have:=aka (v:=v) (p:=p) (t:=t) hV hpb ⟨ht0,ht1⟩ Bs (by omega) hsm Bs.length 0 K (by omega) (by omega)
  rw [show t+((0:Nat):Int)*v.dive = t by simp,List.drop_zero,← e] at this
  dsimp only
  refine this.trans ?_
  generalize iP s v n x t [] = R at*
  obtain ⟨a,b⟩:=R
  dsimp only at h
  subst h
  rfl
 ·rw [h];rfl
end Go.Proofs.Ytmhaiihjfgfaoaa.Gl
end
section
namespace Go.Proofs.Ytmhaiihjfgfaoaa.Pure
open Go.RowKit Go.Proofs.YtmhaiihjfgfaoaaW.PrintWords Go.Proofs.YtmhaiihjfgfaoaaW.PrintLast Go.Proofs.Ytmhaiihjfgfaoaa.Pr Go.Proofs.Ytmhaiihjfgfaoaa.Good Go.Proofs.Ytmhaiihjfgfaoaa.Gl
namespace Reaches
theorem works {k:Nat} (h:60≤k):bG.f k = some true:=Nr bG.mono h bG.asE
theorem agO (s:j3) (v:nz) (x:dO) (t d:Int):(GA s v x t d).1.length≤64:=by
 unfold GA
 split
 ·exact Nat.zero_le _
 ·split
  ·exact Nat.zero_le _
  ·have:=JG s v d.toNat x t []
   rw [List.length_nil] at this
   omega
theorem agP (s:j3) (v:nz) (x:dO) (t:Int) (p:Zz) (d:Int):(GJ s v x t p d).1.length≤64:=by
 unfold GJ
 split
 ·exact Nat.zero_le _
 ·split
  ·exact Nat.zero_le _
  ·split
   ·exact Nat.zero_le _
   ·have:=JG s v d.toNat x t []
    rw [List.length_nil] at this
    split
    ·exact Nat.zero_le _
    ·split
     ·exact Nat.zero_le _
     ·omega
end Reaches
open Reaches in
theorem GliderReaches:∀ (x0:S25) (x1:S29) (x2:dO) (x3:Int) (x4:Int) (x5:(List dO)) (x6:Zz),W25 x0→W29 x1→W31 x2→(Lit.int .i64 x3).wf = true→(Lit.int .i64 x4).wf = true→((∀ y ∈ x5,W31 y)∧x5.length*Try.prog.bytesOf 31≤reachBytes)→W81 x6→∃ k,aD.f k (x0.f0) (x0.f1) (x0.f2) (x0.f3) (x0.f4) (x0.f5) (x0.f6) (x0.f7) (x0.f8) (x1.f0) (x1.f1) (x1.f2.f0) (x1.f2.f1) (x1.f3.f0) (x1.f3.f1) (x1.f4) (x2.f0.f0) (x2.f0.f1) (x2.f1.f0) (x2.f1.f1) x3 x4 x5 (x6.f0.f0.f0) (x6.f0.f0.f1) (x6.f0.f1.f0) (x6.f0.f1.f1) (x6.f1) (x6.f2) = some true:=by
 intro x0 x1 x2 x3 x4 x5 x6 g0 g1 g2 g3 g4 g5 g6
 let s:j3:=⟨x0.f0,x0.f1,x0.f2,x0.f3,x0.f4,x0.f5,x0.f6,x0.f7,x0.f8⟩
 let v:nz:=⟨x1.f0,x1.f1,⟨x1.f2.f0,x1.f2.f1⟩,⟨x1.f3.f0,x1.f3.f1⟩,x1.f4⟩
 have main:∀ K:Nat,8000≤K→aD.f (K+1) s.nx s.ny s.cell s.slot s.slots s.layers s.most s.shores s.currents v.speed v.dive v.use.f0 v.use.f1 v.drift.f0 v.drift.f1 v.reserve x2.f0.f0 x2.f0.f1 x2.f1.f0 x2.f1.f1 x3 x4 x5 x6.f0.f0.f0 x6.f0.f0.f1 x6.f0.f1.f0 x6.f0.f1.f1 x6.f1 x6.f2 = some true:=by
  intro K hK
  have ht:aD.j0 (K+1) x3 x4 x5 true s.nx s.ny s.cell s.slot s.slots s.layers s.most s.shores s.currents v.speed v.dive v.use.f0 v.use.f1 v.drift.f0 v.drift.f1 v.reserve x2.f0.f0 x2.f0.f1 x2.f1.f0 x2.f1.f1 x6.f0.f0.f0 x6.f0.f0.f1 x6.f0.f1.f0 x6.f0.f1.f1 x6.f1 x6.f2 = some true:=by
   rw [aD.j0,if_pos rfl,works (by omega)];rfl
  unfold aD.f
  rw [agH s,Option.bind_some]
  by_cases hg:(decide ((s.shores.length:Int) > 200) || decide ((s.currents.length:Int) > 3000)) = true
  ·rw [if_pos hg,ht]
  rw [if_neg hg]
  simp only [Bool.or_eq_true,decide_eq_true_eq] at hg
  have hf:aD.j0 (K+1) x3 x4 x5 false s.nx s.ny s.cell s.slot s.slots s.layers s.most s.shores s.currents v.speed v.dive v.use.f0 v.use.f1 v.drift.f0 v.drift.f1 v.reserve x2.f0.f0 x2.f0.f1 x2.f1.f0 x2.f1.f1 x6.f0.f0.f0 x6.f0.f0.f1 x6.f0.f1.f0 x6.f0.f1.f1 x6.f1 x6.f2 = some true:=by
   have h1:rU.f s.nx s.ny s.cell s.slot s.slots s.layers s.most s.shores s.currents v.speed v.dive v.use.f0 v.use.f1 v.drift.f0 v.drift.f1 v.reserve x2.f0.f0 x2.f0.f1 x2.f1.f0 x2.f1.f1 x3 x4 = some (GA s v x2 x3 x4):=rfl
   have h2:oL.f s.nx s.ny s.cell s.slot s.slots s.layers s.most s.shores s.currents v.speed v.dive v.use.f0 v.use.f1 v.drift.f0 v.drift.f1 v.reserve x2.f0.f0 x2.f0.f1 x2.f1.f0 x2.f1.f1 x3 x6.f0.f0.f0 x6.f0.f0.f1 x6.f0.f1.f0 x6.f0.f1.f1 x6.f1 x6.f2 x4 = some (GJ s v x2 x3 x6 x4):=rfl
   have h3:fQ.f s.nx s.ny s.cell s.slot s.slots s.layers s.most s.shores s.currents v.speed v.dive v.use.f0 v.use.f1 v.drift.f0 v.drift.f1 v.reserve x2.f0.f0 x2.f0.f1 x2.f1.f0 x2.f1.f1 x3 x5 = some (CkX s v x2 x3 x5):=rfl
   have r1:=agL s v x2 x3 x4 K (by omega) (by omega) (by omega)
   have r2:=agN s v x2 x3 x6 x4 K (by omega) (by omega) (by omega)
   have r3:=Su s v x2 x3 x5 K (by omega) (by omega) (by omega)
   have l1:=agO s v x2 x3 x4
   have l2:=agP s v x2 x3 x6 x4
   rw [aD.j0,if_neg (by decide),h1,Option.bind_some,r1,Option.bind_some,h2,Option.bind_some,r2,Option.bind_some]
   generalize GA s v x2 x3 x4 = R at*
   generalize GJ s v x2 x3 x6 x4 = Q at*
   rw [Uv R.1 K (by omega) (by omega),Option.bind_some,if_pos rfl,if_pos rfl,Uv Q.1 K (by omega) (by omega),Option.bind_some,if_pos rfl,if_pos rfl,h3,Option.bind_some,r3,Option.bind_some,if_pos rfl,works (by omega)]
   rfl
  have hb:∀ b:Bool,aD.j0 (K+1) x3 x4 x5 b s.nx s.ny s.cell s.slot s.slots s.layers s.most s.shores s.currents v.speed v.dive v.use.f0 v.use.f1 v.drift.f0 v.drift.f1 v.reserve x2.f0.f0 x2.f0.f1 x2.f1.f0 x2.f1.f1 x6.f0.f0.f0 x6.f0.f0.f1 x6.f0.f1.f0 x6.f0.f1.f1 x6.f1 x6.f2 = some true:=fun b=>by
   cases b with
   |true=>exact ht
   |false=>exact hf
  simp only [hb,ite_self]
 exact ⟨8000+1,main 8000 (Nat.le_refl _)⟩
end Go.Proofs.Ytmhaiihjfgfaoaa.Pure
end
