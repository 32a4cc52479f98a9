import Derived.Test.YtmhaiihjfgfaoaaGfGliderFetch3
import Derived.Test.YtmhaiihjfgfaoaaGfGliderFetch19
set_option linter.unusedVariables false
set_option linter.unusedSimpArgs false
open Go.Value renaming int → U
open Go.IntKind renaming i64 → Z
open Bool renaming true → ab, false → ac
section
namespace Go.Proofs.Ytmhaiihjfgfaoaa.Pr
open Go.RowKit Go.Proofs.YtmhaiihjfgfaoaaW.PrintWords Go.Proofs.YtmhaiihjfgfaoaaW.PrintLast Go.Proofs.YtmhaiihjfgfaoaaW.PrintMore
attribute [local go_sem] gp gq iA iB gu
set_option linter.unusedVariables false
set_option linter.unusedSimpArgs false
def dX.f (k:Nat) (ai:Int) (aj:Int) (aC:Int) (aD:Int) (aJ:Int) (aH:Int) (aK:Int) (aT:List Bool) (ak:List (rq)) (aI:Int) (aG:Int) (bn:Int) (bq:Int) (bH:Int) (bI:Int) (bG:Int) (bZ:Int) (cz:Int) (dw:Int) (dx:Int) (a3:Int):Option (Bool):=(fC.f k ai aj aC aD aJ aH aK aT ak aI aG bn bq bH bI bG bZ cz dw dx).bind fun Nl=>((ko.f ai aj aC aD aJ aH aK aT ak Nl.1 Nl.2.1 Nl.2.2.1 Nl.2.2.2).bind fun abL=>(if abL = true then ((jB.f ai aj aC aD aJ aH aK aT ak a3 (wrap64 (a3+aG))).bind fun Re=>(some Re)) else (some false)))
def dX.T1:Bool × List (List Nat × List Nat):=(true,[([],[]),([],[]),([],[]),([],[]),([1,2,3],[1,2,3]),([0,4,4],[0,4]),([5,5],[5]),([6],[6]),([6],[6]),([6],[6]),([6],[6]),([10,6],[6,10]),([9,11,6],[6,9,11]),([7,8,12,6,6],[6,7,8,12]),([6,13],[6,13]),([14,13,0,1,2,3,4,5,6,7,8,9,10,11,12,13,14],[14])])
def dX.B1:List Nat:=[0,0,0,0,14,31,63,127,127,127,127,1151,3711,8191,16383,32767]
theorem dX.aqO:qA .any (opsOf Try.f105 1) = dX.T1:=by kernel_rfl
theorem dX.af0:mI dX.T1.2 dX.B1 = true:=by kernel_rfl
set_option maxHeartbeats 8000000 in
set_option maxRecDepth 100000 in
theorem dX.calls (k:Nat) (ai:Int) (aj:Int) (aC:Int) (aD:Int) (aJ:Int) (aH:Int) (aK:Int) (dW:Option Addr) (dN:Nat) (aT:List Bool) (dZ:Option Addr) (dO:Nat) (ak:List (rq)) (aI:Int) (aG:Int) (bn:Int) (bq:Int) (bH:Int) (bI:Int) (bG:Int) (bZ:Int) (cz:Int) (dw:Int) (dx:Int) (a3:Int) (r:Bool) (w:World) (jT:Kd.C Kd.bool w dW aT.length aT) (jU:aT.length≤dN) (jV:Kd.C GI w dZ ak.length ak) (jW:ak.length≤dO) (h:dX.f k ai aj aC aD aJ aH aK aT ak aI aG bn bq bH bI bG bZ cz dw dx a3 = some r):
 Calls Try.prog 105 #[.agg #[U Z ai,U Z aj,U Z aC,U Z aD,U Z aJ,U Z aH,U Z aK,.slice dW aT.length dN,.slice dZ ak.length dO],.agg #[U Z aI,U Z aG,U Z bn,U Z bq,U Z bH,U Z bI,U Z bG],.agg #[U Z bZ,U Z cz,U Z dw,U Z dx],U Z a3] w fun e w'=>e = .returned (.bool r)∧Below w.heap.size w w':=by
 have BV:=Try.underlying25
 have Br:=Try.underlying29
 have rO:=Try.underlying31
 have ik:=aa.mk jT
 have iC:=aa.mk jU
 clear jT jU
 have gN:=aa.mk jV
 have iD:=aa.mk jW
 clear jV jW
 have HB:=aa.mk (Below.refl w.heap.size w)
 have H:((fC.f k ai aj aC aD aJ aH aK aT ak aI aG bn bq bH bI bG bZ cz dw dx).bind fun Nl=>((ko.f ai aj aC aD aJ aH aK aT ak Nl.1 Nl.2.1 Nl.2.2.1 Nl.2.2.2).bind fun abL=>(if abL = true then ((jB.f ai aj aC aD aJ aH aK aT ak a3 (wrap64 (a3+aG))).bind fun Re=>(some Re)) else (some false)))) = some r:=h
 clear h
 replace H:=Option.bind_eq_some_iff.mp H
 obtain ⟨⟨aeg,aeh,aei,aej⟩,QF,H⟩:=H
 replace H:((ko.f ai aj aC aD aJ aH aK aT ak aeg aeh aei aej).bind fun abL=>(if abL = true then ((jB.f ai aj aC aD aJ aH aK aT ak a3 (wrap64 (a3+aG))).bind fun Re=>(some Re)) else (some false))) = some r:=H
 have A5:=aa.mk QF
 clear QF
 replace H:=Option.bind_eq_some_iff.mp H
 obtain ⟨abL,QG,H⟩:=H
 replace H:(if abL = true then ((jB.f ai aj aC aD aJ aH aK aT ak a3 (wrap64 (a3+aG))).bind fun Re=>(some Re)) else (some false)) = some r:=H
 have A6:=aa.mk QG
 clear QG
 by_cases c7:abL = true
 ·subst c7
  have H1:((jB.f ai aj aC aD aJ aH aK aT ak a3 (wrap64 (a3+aG))).bind fun Re=>(some Re)) = some r:=by rw [if_pos rfl] at H;exact H
  clear H
  have H:=H1
  clear H1
  replace H:=Option.bind_eq_some_iff.mp H
  obtain ⟨Re,QO,H⟩:=H
  replace H:(some Re) = some r:=H
  have A8:=aa.mk QO
  clear QO
  obtain rfl:=Option.some.inj H
  go_enter Try.func105,Try.ntmps105
  try go_wp2_with (first|((with_reducible refine aA (N:=4) rfl ?_);refine au (by rfl) (N:=4) (by rfl) (cs:=#[U Z ai,U Z aj,U Z aC,U Z aD,U Z aJ,U Z aH,U Z aK,.slice dW aT.length dN,.slice dZ ak.length dO]) (t:=25) fG ?_;intro ym hg w9 hbox hb;have fJ:=aa.mk (hbox);have aCh:=bS HB hg;have aCi:=bS HB hg;replace HB:=cO HB hb;clear hb hbox hg)|((with_reducible refine aA (N:=5) rfl ?_);refine au (by rfl) (N:=5) (by rfl) (cs:=#[U Z aI,U Z aG,U Z bn,U Z bq,U Z bH,U Z bI,U Z bG]) (t:=29) fG ?_;intro Dy hg w10 hbox hb;have iE:=aa.mk (hbox);have aCj:=bS HB hg;have aCk:=bS HB hg;have akp:=eQ fJ hg;have akq:=eT fJ hg;replace fJ:=aX fJ hb;replace HB:=cO HB hb;clear hb hbox hg)|((with_reducible refine aA (N:=6) rfl ?_);refine au (by rfl) (N:=6) (by rfl) (cs:=#[U Z bZ,U Z cz,U Z dw,U Z dx]) (t:=31) fG ?_;intro Nn hg w11 hbox hb;have lV:=aa.mk (hbox);have aCl:=bS HB hg;have aCm:=bS HB hg;have akr:=eQ fJ hg;have aks:=eT fJ hg;have akt:=eQ iE hg;have aku:=eT iE hg;replace fJ:=aX fJ hb;replace iE:=aX iE hb;replace HB:=cO HB hb;clear hb hbox hg))
  replace fJ:=aa.mk (ag fJ.out)
  replace iE:=aa.mk (ag iE.out)
  replace lV:=aa.mk (ag lV.out)
  replace HB:=aa.mk (bO HB.out)
  refine iN (n:=16) (S:=fun w'=>w'.cell? ⟨ym,0,none⟩ = some (U Z ai)∧w'.cell? ⟨ym,1,none⟩ = some (U Z aj)∧w'.cell? ⟨ym,2,none⟩ = some (U Z aC)∧w'.cell? ⟨ym,3,none⟩ = some (U Z aD)∧w'.cell? ⟨ym,4,none⟩ = some (U Z aJ)∧w'.cell? ⟨ym,5,none⟩ = some (U Z aH)∧w'.cell? ⟨ym,6,none⟩ = some (U Z aK)∧w'.cell? ⟨ym,7,none⟩ = some (.slice dW aT.length dN)∧w'.cell? ⟨ym,8,none⟩ = some (.slice dZ ak.length dO)∧w'.cell? ⟨Dy,0,none⟩ = some (U Z aI)∧w'.cell? ⟨Dy,1,none⟩ = some (U Z aG)∧w'.cell? ⟨Dy,2,none⟩ = some (U Z bn)∧w'.cell? ⟨Dy,3,none⟩ = some (U Z bq)∧w'.cell? ⟨Dy,4,none⟩ = some (U Z bH)∧w'.cell? ⟨Dy,5,none⟩ = some (U Z bI)∧w'.cell? ⟨Dy,6,none⟩ = some (U Z bG)∧w'.cell? ⟨Nn,0,none⟩ = some (U Z bZ)∧w'.cell? ⟨Nn,1,none⟩ = some (U Z cz)∧w'.cell? ⟨Nn,2,none⟩ = some (U Z dw)∧w'.cell? ⟨Nn,3,none⟩ = some (U Z dx)) (ds:=[]) #[ac,ac,ac,ac,ac,ac,ac,ac,ac,ac,ac,ac,ac,ac,ac,ac] aM rfl rfl ⟨bE fJ 0,bE fJ 1,bE fJ 2,bE fJ 3,bE fJ 4,bE fJ 5,bE fJ 6,bE fJ 7,bE fJ 8,bE iE 0,bE iE 1,bE iE 2,bE iE 3,bE iE 4,bE iE 5,bE iE 6,bE lV 0,bE lV 1,bE lV 2,bE lV 3⟩ (fun hHeld=>?_);refine fU dX.aqO dX.af0 (fun bz jb=>?_)
  generalize w11.drew = O3 at fJ iE lV HB hHeld ⊢
  refine iL (i:=0) (N:=some 9) (aY bz.out jb.out aM) hHeld ?_
  refine iL (i:=1) (N:=some 10) (aY bz.out jb.out aM) hHeld ?_
  refine iL (i:=2) (N:=some 11) (aY bz.out jb.out aM) hHeld ?_
  refine iL (i:=3) (N:=some 12) (aY bz.out jb.out aM) hHeld ?_
  refine iO (i:=4) (N:=some 13) #[ab,ab,ab,ab,ab,ac,ac,ac,ac,ac,ac,ac,ac,ac,ac,ac] rfl rfl (eH bz.out aM) (by decide) (fun K hK=>?_)
  refine gJ Try.func133 aM rfl #[.agg #[U Z ai,U Z aj,U Z aC,U Z aD,U Z aJ,U Z aH,U Z aK,.slice dW aT.length dN,.slice dZ ak.length dO],.agg #[U Z aI,U Z aG,U Z bn,U Z bq,U Z bH,U Z bI,U Z bG],.agg #[U Z bZ,U Z cz,U Z dw,U Z dx]] (by rfl) rfl rfl ji ?_
  with_reducible refine (fC.calls k ai aj aC aD aJ aH aK _ _ aT _ _ ak aI aG bn bq bH bI bG bZ cz dw dx aeg aeh aei aej _ ?cZ ?df ?eu ?eB A5.out).mono ?_
  (case cZ=>repeat (first|exact (Kd.bB ik.out HB.out)|(with_reducible refine Kd.bC ?_ _)|(with_reducible refine Kd.bD ?_ _)|(with_reducible refine Kd.bN ?_)))
  (case df=>exact iC.out)
  (case eu=>repeat (first|exact (Kd.bB gN.out HB.out)|(with_reducible refine Kd.bC ?_ _)|(with_reducible refine Kd.bD ?_ _)|(with_reducible refine Kd.bN ?_)))
  (case eB=>exact iD.out)
  rintro e FD ⟨rfl,hb⟩
  refine ⟨_,rfl,?_⟩
  replace fJ:=aX fJ hb
  replace iE:=aX iE hb
  replace lV:=aX lV hb
  replace HB:=cO HB hb
  (try clear hb)
  (try clear hb2)
  (try clear hk)
  (try clear hi)
  refine hK.out _ _ ⟨bE fJ 0,bE fJ 1,bE fJ 2,bE fJ 3,bE fJ 4,bE fJ 5,bE fJ 6,bE fJ 7,bE fJ 8,bE iE 0,bE iE 1,bE iE 2,bE iE 3,bE iE 4,bE iE 5,bE iE 6,bE lV 0,bE lV 1,bE lV 2,bE lV 3⟩ (fun hHeld=>?_)
  clear hK K
  refine dM adZ ?_
  refine iO (i:=5) (N:=some 14) #[ab,ab,ab,ab,ab,ab,ac,ac,ac,ac,ac,ac,ac,ac,ac,ac] rfl rfl (eH bz.out aM) (by decide) (fun K hK=>?_)
  refine gJ Try.func71 aM rfl #[.agg #[U Z ai,U Z aj,U Z aC,U Z aD,U Z aJ,U Z aH,U Z aK,.slice dW aT.length dN,.slice dZ ak.length dO],.agg #[U Z aeg,U Z aeh,U Z aei,U Z aej]] (by rfl) rfl rfl ji ?_
  with_reducible refine (ko.calls ai aj aC aD aJ aH aK _ _ aT _ _ ak aeg aeh aei aej true _ ?cZ ?df ?eu ?eB A6.out).mono ?_
  (case cZ=>repeat (first|exact (Kd.bB ik.out HB.out)|(with_reducible refine Kd.bC ?_ _)|(with_reducible refine Kd.bD ?_ _)|(with_reducible refine Kd.bN ?_)))
  (case df=>exact iC.out)
  (case eu=>repeat (first|exact (Kd.bB gN.out HB.out)|(with_reducible refine Kd.bC ?_ _)|(with_reducible refine Kd.bD ?_ _)|(with_reducible refine Kd.bN ?_)))
  (case eB=>exact iD.out)
  rintro e w14 ⟨rfl,hb⟩
  refine ⟨_,rfl,?_⟩
  replace fJ:=aX fJ hb
  replace iE:=aX iE hb
  replace lV:=aX lV hb
  replace HB:=cO HB hb
  (try clear hb)
  (try clear hb2)
  (try clear hk)
  (try clear hi)
  refine hK.out _ _ ⟨bE fJ 0,bE fJ 1,bE fJ 2,bE fJ 3,bE fJ 4,bE fJ 5,bE fJ 6,bE fJ 7,bE fJ 8,bE iE 0,bE iE 1,bE iE 2,bE iE 3,bE iE 4,bE iE 5,bE iE 6,bE lV 0,bE lV 1,bE lV 2,bE lV 3⟩ (fun hHeld=>?_)
  clear hK K
  refine dM amA ?_
  refine bV (i:=6) (N:=some 15) (ax bz.out aM) ?_
  refine bV (i:=8) (N:=some 17) (ax bz.out aM) ?_
  refine bV (i:=9) (N:=some 18) (ax bz.out aM) ?_
  refine bV (i:=10) (N:=some 19) (ax bz.out aM) ?_
  refine iL (i:=7) (N:=some 16) (aY bz.out jb.out aM) hHeld ?_
  refine iL (i:=11) (N:=some 20) (aY bz.out jb.out aM) hHeld ?_
  refine bV (i:=12) (N:=some 21) (ax bz.out aM) ?_
  refine iO (i:=13) (N:=some 22) #[ab,ab,ab,ab,ab,ab,ab,ab,ab,ab,ab,ab,ab,ab,ac,ac] rfl rfl (eH bz.out aM) (by decide) (fun K hK=>?_)
  refine gJ Try.func72 aM rfl #[.agg #[U Z ai,U Z aj,U Z aC,U Z aD,U Z aJ,U Z aH,U Z aK,.slice dW aT.length dN,.slice dZ ak.length dO],U Z a3,U Z (wrap64 (a3+aG))] (by rfl) rfl rfl ji ?_
  with_reducible refine (jB.calls ai aj aC aD aJ aH aK _ _ aT _ _ ak a3 (wrap64 (a3+aG)) Re _ ?cZ ?df ?eu ?eB A8.out).mono ?_
  (case cZ=>repeat (first|exact (Kd.bB ik.out HB.out)|(with_reducible refine Kd.bC ?_ _)|(with_reducible refine Kd.bD ?_ _)|(with_reducible refine Kd.bN ?_)))
  (case df=>exact iC.out)
  (case eu=>repeat (first|exact (Kd.bB gN.out HB.out)|(with_reducible refine Kd.bC ?_ _)|(with_reducible refine Kd.bD ?_ _)|(with_reducible refine Kd.bN ?_)))
  (case eB=>exact iD.out)
  rintro e w15 ⟨rfl,hb⟩
  refine ⟨_,rfl,?_⟩
  replace fJ:=aX fJ hb
  replace iE:=aX iE hb
  replace lV:=aX lV hb
  replace HB:=cO HB hb
  (try clear hb)
  (try clear hb2)
  (try clear hk)
  (try clear hi)
  refine hK.out _ _ ⟨bE fJ 0,bE fJ 1,bE fJ 2,bE fJ 3,bE fJ 4,bE fJ 5,bE fJ 6,bE fJ 7,bE fJ 8,bE iE 0,bE iE 1,bE iE 2,bE iE 3,bE iE 4,bE iE 5,bE iE 6,bE lV 0,bE lV 1,bE lV 2,bE lV 3⟩ (fun hHeld=>?_)
  clear hK K
  refine dM (by show Act.put _ (some 22) _ = _;simp only [Act.put,List.setIfInBounds_toArray,List.set_cons_zero,List.set_cons_succ,ib,ig];rfl) ?_
  refine bV (i:=14) (N:=some 23) (ax bz.out aM) ?_
  refine bV (i:=15) (N:=some 8) (ax bz.out aM) ?_
  refine jS (ja bz.out aM) ?_
  try go_wp2
  go_ret
  exact ⟨lW,gL⟩
 ·replace c7:=Bool.eq_false_iff.mpr c7
  subst c7
  have H1:(some false) = some r:=by rw [if_neg (show ¬ (false = true) by decide)] at H;exact H
  clear H
  have H:=H1
  clear H1
  obtain rfl:=Option.some.inj H
  go_enter Try.func105,Try.ntmps105
  try go_wp2_with (first|((with_reducible refine aA (N:=4) rfl ?_);refine au (by rfl) (N:=4) (by rfl) (cs:=#[U Z ai,U Z aj,U Z aC,U Z aD,U Z aJ,U Z aH,U Z aK,.slice dW aT.length dN,.slice dZ ak.length dO]) (t:=25) fG ?_;intro ym hg w16 hbox hb;have fJ:=aa.mk (hbox);have aCh:=bS HB hg;have aCi:=bS HB hg;replace HB:=cO HB hb;clear hb hbox hg)|((with_reducible refine aA (N:=5) rfl ?_);refine au (by rfl) (N:=5) (by rfl) (cs:=#[U Z aI,U Z aG,U Z bn,U Z bq,U Z bH,U Z bI,U Z bG]) (t:=29) fG ?_;intro Dy hg Fb hbox hb;have iE:=aa.mk (hbox);have aCj:=bS HB hg;have aCk:=bS HB hg;have akp:=eQ fJ hg;have akq:=eT fJ hg;replace fJ:=aX fJ hb;replace HB:=cO HB hb;clear hb hbox hg)|((with_reducible refine aA (N:=6) rfl ?_);refine au (by rfl) (N:=6) (by rfl) (cs:=#[U Z bZ,U Z cz,U Z dw,U Z dx]) (t:=31) fG ?_;intro Nn hg w18 hbox hb;have lV:=aa.mk (hbox);have aCl:=bS HB hg;have aCm:=bS HB hg;have akr:=eQ fJ hg;have aks:=eT fJ hg;have akt:=eQ iE hg;have aku:=eT iE hg;replace fJ:=aX fJ hb;replace iE:=aX iE hb;replace HB:=cO HB hb;clear hb hbox hg))
  replace fJ:=aa.mk (ag fJ.out)
  replace iE:=aa.mk (ag iE.out)
  replace lV:=aa.mk (ag lV.out)
  replace HB:=aa.mk (bO HB.out)
  refine iN (n:=16) (S:=fun w'=>w'.cell? ⟨ym,0,none⟩ = some (U Z ai)∧w'.cell? ⟨ym,1,none⟩ = some (U Z aj)∧w'.cell? ⟨ym,2,none⟩ = some (U Z aC)∧w'.cell? ⟨ym,3,none⟩ = some (U Z aD)∧w'.cell? ⟨ym,4,none⟩ = some (U Z aJ)∧w'.cell? ⟨ym,5,none⟩ = some (U Z aH)∧w'.cell? ⟨ym,6,none⟩ = some (U Z aK)∧w'.cell? ⟨ym,7,none⟩ = some (.slice dW aT.length dN)∧w'.cell? ⟨ym,8,none⟩ = some (.slice dZ ak.length dO)∧w'.cell? ⟨Dy,0,none⟩ = some (U Z aI)∧w'.cell? ⟨Dy,1,none⟩ = some (U Z aG)∧w'.cell? ⟨Dy,2,none⟩ = some (U Z bn)∧w'.cell? ⟨Dy,3,none⟩ = some (U Z bq)∧w'.cell? ⟨Dy,4,none⟩ = some (U Z bH)∧w'.cell? ⟨Dy,5,none⟩ = some (U Z bI)∧w'.cell? ⟨Dy,6,none⟩ = some (U Z bG)∧w'.cell? ⟨Nn,0,none⟩ = some (U Z bZ)∧w'.cell? ⟨Nn,1,none⟩ = some (U Z cz)∧w'.cell? ⟨Nn,2,none⟩ = some (U Z dw)∧w'.cell? ⟨Nn,3,none⟩ = some (U Z dx)) (ds:=[]) #[ac,ac,ac,ac,ac,ac,ac,ac,ac,ac,ac,ac,ac,ac,ac,ac] aM rfl rfl ⟨bE fJ 0,bE fJ 1,bE fJ 2,bE fJ 3,bE fJ 4,bE fJ 5,bE fJ 6,bE fJ 7,bE fJ 8,bE iE 0,bE iE 1,bE iE 2,bE iE 3,bE iE 4,bE iE 5,bE iE 6,bE lV 0,bE lV 1,bE lV 2,bE lV 3⟩ (fun hHeld=>?_);refine fU dX.aqO dX.af0 (fun bz jb=>?_)
  generalize w18.drew = w19 at fJ iE lV HB hHeld ⊢
  refine iL (i:=0) (N:=some 9) (aY bz.out jb.out aM) hHeld ?_
  refine iL (i:=1) (N:=some 10) (aY bz.out jb.out aM) hHeld ?_
  refine iL (i:=2) (N:=some 11) (aY bz.out jb.out aM) hHeld ?_
  refine iL (i:=3) (N:=some 12) (aY bz.out jb.out aM) hHeld ?_
  refine iO (i:=4) (N:=some 13) #[ab,ab,ab,ab,ab,ac,ac,ac,ac,ac,ac,ac,ac,ac,ac,ac] rfl rfl (eH bz.out aM) (by decide) (fun K hK=>?_)
  refine gJ Try.func133 aM rfl #[.agg #[U Z ai,U Z aj,U Z aC,U Z aD,U Z aJ,U Z aH,U Z aK,.slice dW aT.length dN,.slice dZ ak.length dO],.agg #[U Z aI,U Z aG,U Z bn,U Z bq,U Z bH,U Z bI,U Z bG],.agg #[U Z bZ,U Z cz,U Z dw,U Z dx]] (by rfl) rfl rfl ji ?_
  with_reducible refine (fC.calls k ai aj aC aD aJ aH aK _ _ aT _ _ ak aI aG bn bq bH bI bG bZ cz dw dx aeg aeh aei aej _ ?cZ ?df ?eu ?eB A5.out).mono ?_
  (case cZ=>repeat (first|exact (Kd.bB ik.out HB.out)|(with_reducible refine Kd.bC ?_ _)|(with_reducible refine Kd.bD ?_ _)|(with_reducible refine Kd.bN ?_)))
  (case df=>exact iC.out)
  (case eu=>repeat (first|exact (Kd.bB gN.out HB.out)|(with_reducible refine Kd.bC ?_ _)|(with_reducible refine Kd.bD ?_ _)|(with_reducible refine Kd.bN ?_)))
  (case eB=>exact iD.out)
  rintro e I4 ⟨rfl,hb⟩
  refine ⟨_,rfl,?_⟩
  replace fJ:=aX fJ hb
  replace iE:=aX iE hb
  replace lV:=aX lV hb
  replace HB:=cO HB hb
  (try clear hb)
  (try clear hb2)
  (try clear hk)
  (try clear hi)
  refine hK.out _ _ ⟨bE fJ 0,bE fJ 1,bE fJ 2,bE fJ 3,bE fJ 4,bE fJ 5,bE fJ 6,bE fJ 7,bE fJ 8,bE iE 0,bE iE 1,bE iE 2,bE iE 3,bE iE 4,bE iE 5,bE iE 6,bE lV 0,bE lV 1,bE lV 2,bE lV 3⟩ (fun hHeld=>?_)
  clear hK K
  refine dM adZ ?_
  refine iO (i:=5) (N:=some 14) #[ab,ab,ab,ab,ab,ab,ac,ac,ac,ac,ac,ac,ac,ac,ac,ac] rfl rfl (eH bz.out aM) (by decide) (fun K hK=>?_)
  refine gJ Try.func71 aM rfl #[.agg #[U Z ai,U Z aj,U Z aC,U Z aD,U Z aJ,U Z aH,U Z aK,.slice dW aT.length dN,.slice dZ ak.length dO],.agg #[U Z aeg,U Z aeh,U Z aei,U Z aej]] (by rfl) rfl rfl ji ?_
  with_reducible refine (ko.calls ai aj aC aD aJ aH aK _ _ aT _ _ ak aeg aeh aei aej false _ ?cZ ?df ?eu ?eB A6.out).mono ?_
  (case cZ=>repeat (first|exact (Kd.bB ik.out HB.out)|(with_reducible refine Kd.bC ?_ _)|(with_reducible refine Kd.bD ?_ _)|(with_reducible refine Kd.bN ?_)))
  (case df=>exact iC.out)
  (case eu=>repeat (first|exact (Kd.bB gN.out HB.out)|(with_reducible refine Kd.bC ?_ _)|(with_reducible refine Kd.bD ?_ _)|(with_reducible refine Kd.bN ?_)))
  (case eB=>exact iD.out)
  rintro e w21 ⟨rfl,hb⟩
  refine ⟨_,rfl,?_⟩
  replace fJ:=aX fJ hb
  replace iE:=aX iE hb
  replace lV:=aX lV hb
  replace HB:=cO HB hb
  (try clear hb)
  (try clear hb2)
  (try clear hk)
  (try clear hi)
  refine hK.out _ _ ⟨bE fJ 0,bE fJ 1,bE fJ 2,bE fJ 3,bE fJ 4,bE fJ 5,bE fJ 6,bE fJ 7,bE fJ 8,bE iE 0,bE iE 1,bE iE 2,bE iE 3,bE iE 4,bE iE 5,bE iE 6,bE lV 0,bE lV 1,bE lV 2,bE lV 3⟩ (fun hHeld=>?_)
  clear hK K
  refine dM amA ?_
  refine bV (i:=6) (N:=some 15) (ax bz.out aM) ?_
  refine qa (i:=7) (N:=some 16) (v:=undef) (a':=?_) #[ab,ab,ab,ab,ab,ab,ab,ab,ac,ac,ac,ac,ac,ac,ac,ac] rfl rfl (ax bz.out aM) (fun _ _ _ h=>h) (Or.inr ⟨by rfl,rfl⟩) ?_ ?_
  rotate_left
  ·simp only [Act.put,List.setIfInBounds_toArray,List.set_cons_zero,List.set_cons_succ,ib,ig]
   rfl
  refine qa (i:=8) (N:=some 17) (v:=undef) (a':=?_) #[ab,ab,ab,ab,ab,ab,ab,ab,ab,ac,ac,ac,ac,ac,ac,ac] rfl rfl (ax bz.out aM) (fun _ _ _ h=>h) (Or.inr ⟨by rfl,rfl⟩) ?_ ?_
  rotate_left
  ·simp only [Act.put,List.setIfInBounds_toArray,List.set_cons_zero,List.set_cons_succ,ib,ig]
   rfl
  refine qa (i:=9) (N:=some 18) (v:=undef) (a':=?_) #[ab,ab,ab,ab,ab,ab,ab,ab,ab,ab,ac,ac,ac,ac,ac,ac] rfl rfl (ax bz.out aM) (fun _ _ _ h=>h) (Or.inr ⟨by rfl,rfl⟩) ?_ ?_
  rotate_left
  ·simp only [Act.put,List.setIfInBounds_toArray,List.set_cons_zero,List.set_cons_succ,ib,ig]
   rfl
  refine qa (i:=10) (N:=some 19) (v:=undef) (a':=?_) #[ab,ab,ab,ab,ab,ab,ab,ab,ab,ab,ab,ac,ac,ac,ac,ac] rfl rfl (ax bz.out aM) (fun _ _ _ h=>h) (Or.inr ⟨by rfl,rfl⟩) ?_ ?_
  rotate_left
  ·simp only [Act.put,List.setIfInBounds_toArray,List.set_cons_zero,List.set_cons_succ,ib,ig]
   rfl
  refine qa (i:=11) (N:=some 20) (v:=undef) (a':=?_) #[ab,ab,ab,ab,ab,ab,ab,ab,ab,ab,ab,ab,ac,ac,ac,ac] rfl rfl (ax bz.out aM) (fun _ _ _ h=>h) (Or.inr ⟨by rfl,rfl⟩) ?_ ?_
  rotate_left
  ·simp only [Act.put,List.setIfInBounds_toArray,List.set_cons_zero,List.set_cons_succ,ib,ig]
   rfl
  refine qa (i:=12) (N:=some 21) (v:=undef) (a':=?_) #[ab,ab,ab,ab,ab,ab,ab,ab,ab,ab,ab,ab,ab,ac,ac,ac] rfl rfl (ax bz.out aM) (fun _ _ _ h=>h) (Or.inr ⟨by rfl,rfl⟩) ?_ ?_
  rotate_left
  ·simp only [Act.put,List.setIfInBounds_toArray,List.set_cons_zero,List.set_cons_succ,ib,ig]
   rfl
  refine qa (i:=13) (N:=some 22) (v:=undef) (a':=?_) #[ab,ab,ab,ab,ab,ab,ab,ab,ab,ab,ab,ab,ab,ab,ac,ac] rfl rfl (ax bz.out aM) (fun _ _ _ h=>h) (Or.inr ⟨by rfl,rfl⟩) ?_ ?_
  rotate_left
  ·simp only [Act.put,List.setIfInBounds_toArray,List.set_cons_zero,List.set_cons_succ,ib,ig]
   rfl
  refine bV (i:=14) (N:=some 23) (ax bz.out aM) ?_
  refine bV (i:=15) (N:=some 8) (ax bz.out aM) ?_
  refine jS (ja bz.out aM) ?_
  try go_wp2
  go_ret
  exact ⟨lW,gL⟩
def dK.f (k:Nat) (ai:Int) (aj:Int) (a1:Int) (bZ:Int) (cz:Int) (a3:Int):Option (Int × Int):=(gW.f k (wrap64 ((wrap64 (a1+(wrap64 (1000*bZ))))*a3)) 1000000).bind fun XI=>((jG.f k (wrap64 ((wrap64 (a1+(wrap64 (1000*cz))))*a3)) 1000000).bind fun XJ=>(some (wrap64 (ai+XI),wrap64 (aj+XJ))))
def dK.T1:Bool × List (List Nat × List Nat):=(true,[([],[]),([0],[0]),([],[]),([],[]),([3],[3]),([4],[4]),([2,5],[2,5]),([],[]),([6,7],[6,7]),([8],[8]),([1,9],[1,9]),([],[]),([11],[11]),([],[]),([],[]),([14],[14]),([15],[15]),([13,16],[13,16]),([],[]),([17,18],[17,18]),([19,9],[19]),([12,20],[12,20]),([10,21],[10,21]),([22,20,0,1,2,3,4,5,6,7,8,9,10,11,12,13,14,15,16,17,18,19,20,21,22],[22])])
def dK.B1:List Nat:=[0,1,0,0,8,24,60,0,252,508,1023,0,2048,0,0,16384,49152,122880,0,516096,1041404,2096124,4194303,8388607]
theorem dK.aqO:qA .any (opsOf Try.f134 1) = dK.T1:=by kernel_rfl
theorem dK.af0:mI dK.T1.2 dK.B1 = true:=by kernel_rfl
set_option maxHeartbeats 8000000 in
set_option maxRecDepth 100000 in
theorem dK.calls (k:Nat) (ai:Int) (aj:Int) (a1:Int) (bZ:Int) (cz:Int) (a3:Int) (r1:Int) (r2:Int) (w:World) (h:dK.f k ai aj a1 bZ cz a3 = some (r1,r2)):
 Calls Try.prog 134 #[.agg #[U Z ai,U Z aj],U Z a1,.agg #[U Z bZ,U Z cz],U Z a3] w fun e w'=>e = .returned (.agg #[U Z r1,U Z r2])∧Below w.heap.size w w':=by
 have pz:=Try.underlying27
 have HB:=aa.mk (Below.refl w.heap.size w)
 have H:((gW.f k (wrap64 ((wrap64 (a1+(wrap64 (1000*bZ))))*a3)) 1000000).bind fun XI=>((jG.f k (wrap64 ((wrap64 (a1+(wrap64 (1000*cz))))*a3)) 1000000).bind fun XJ=>(some (wrap64 (ai+XI),wrap64 (aj+XJ))))) = some (r1,r2):=h
 clear h
 replace H:=Option.bind_eq_some_iff.mp H
 obtain ⟨XI,QF,H⟩:=H
 replace H:((jG.f k (wrap64 ((wrap64 (a1+(wrap64 (1000*cz))))*a3)) 1000000).bind fun XJ=>(some (wrap64 (ai+XI),wrap64 (aj+XJ)))) = some (r1,r2):=H
 have A5:=aa.mk QF
 clear QF
 replace H:=Option.bind_eq_some_iff.mp H
 obtain ⟨XJ,QG,H⟩:=H
 replace H:(some (wrap64 (ai+XI),wrap64 (aj+XJ))) = some (r1,r2):=H
 have A6:=aa.mk QG
 clear QG
 simp only [Option.some.injEq,Prod.mk.injEq] at H
 obtain ⟨rfl,rfl⟩:=H
 go_enter Try.func134,Try.ntmps134
 try go_wp2_with (first|((with_reducible refine aA (N:=4) rfl ?_);refine au (by rfl) (N:=4) (by rfl) (cs:=#[U Z ai,U Z aj]) (t:=27) fG ?_;intro awC hg w7 hbox hb;have Bu:=aa.mk (hbox);have a14:=bS HB hg;have a15:=bS HB hg;replace HB:=cO HB hb;clear hb hbox hg)|((with_reducible refine aA (N:=6) rfl ?_);refine au (by rfl) (N:=6) (by rfl) (cs:=#[U Z bZ,U Z cz]) (t:=27) fG ?_;intro awD hg w8 hbox hb;have FJ:=aa.mk (hbox);have a18:=bS HB hg;have a19:=bS HB hg;have aAK:=eQ Bu hg;have aAL:=eT Bu hg;replace Bu:=aX Bu hb;replace HB:=cO HB hb;clear hb hbox hg)|((with_reducible refine aA (N:=8) rfl ?_);refine au (by rfl) (N:=8) (by rfl) (cs:=#[U Z 0,U Z 0]) (t:=27) fG ?_;intro am1 hg w9 hbox hb;have QP:=aa.mk (hbox);have a2a:=bS HB hg;have a2b:=bS HB hg;have CY:=eQ Bu hg;have V4:=eT Bu hg;have CZ:=eQ FJ hg;have V5:=eT FJ hg;replace Bu:=aX Bu hb;replace FJ:=aX FJ hb;replace HB:=cO HB hb;clear hb hbox hg))
 replace Bu:=aa.mk (ag Bu.out)
 replace FJ:=aa.mk (ag FJ.out)
 replace QP:=aa.mk (ag QP.out)
 replace HB:=aa.mk (bO HB.out)
 refine iN (n:=24) (S:=fun w'=>w'.cell? ⟨awC,0,none⟩ = some (U Z ai)∧w'.cell? ⟨awC,1,none⟩ = some (U Z aj)∧w'.cell? ⟨awD,0,none⟩ = some (U Z bZ)∧w'.cell? ⟨awD,1,none⟩ = some (U Z cz)) (ds:=[]) #[ac,ac,ac,ac,ac,ac,ac,ac,ac,ac,ac,ac,ac,ac,ac,ac,ac,ac,ac,ac,ac,ac,ac,ac] aM rfl rfl ⟨bE Bu 0,bE Bu 1,bE FJ 0,bE FJ 1⟩ (fun hHeld=>?_);refine fU dK.aqO dK.af0 (fun bz jb=>?_)
 generalize w9.drew = w10 at Bu FJ QP HB hHeld ⊢
 refine bV (i:=0) (N:=some 9) (ax bz.out aM) ?_
 refine bV (i:=2) (N:=some 11) (ax bz.out aM) ?_
 refine bV (i:=3) (N:=some 12) (ax bz.out aM) ?_
 refine bV (i:=7) (N:=some 16) (ax bz.out aM) ?_
 refine bV (i:=11) (N:=some 20) (ax bz.out aM) ?_
 refine bV (i:=13) (N:=some 22) (ax bz.out aM) ?_
 refine bV (i:=14) (N:=some 23) (ax bz.out aM) ?_
 refine bV (i:=18) (N:=some 27) (ax bz.out aM) ?_
 refine iL (i:=1) (N:=some 10) (aY bz.out jb.out aM) hHeld ?_
 refine iL (i:=4) (N:=some 13) (aY bz.out jb.out aM) hHeld ?_
 refine bV (i:=5) (N:=some 14) (ax bz.out aM) ?_
 refine bV (i:=6) (N:=some 15) (ax bz.out aM) ?_
 refine bV (i:=8) (N:=some 17) (ax bz.out aM) ?_
 refine iL (i:=12) (N:=some 21) (aY bz.out jb.out aM) hHeld ?_
 refine iL (i:=15) (N:=some 24) (aY bz.out jb.out aM) hHeld ?_
 refine bV (i:=16) (N:=some 25) (ax bz.out aM) ?_
 refine bV (i:=17) (N:=some 26) (ax bz.out aM) ?_
 refine bV (i:=19) (N:=some 28) (ax bz.out aM) ?_
 refine iO (i:=9) (N:=some 18) #[ab,ab,ab,ab,ab,ab,ab,ab,ab,ab,ac,ab,ab,ab,ab,ab,ab,ab,ab,ab,ac,ac,ac,ac] rfl rfl (eH bz.out aM) (by decide) (fun K hK=>?_)
 refine gJ Try.func140 aM rfl #[U Z (wrap64 ((wrap64 (a1+(wrap64 (1000*bZ))))*a3)),U Z 1000000] (by rfl) rfl rfl ji ?_
 with_reducible refine (gW.calls k (wrap64 ((wrap64 (a1+(wrap64 (1000*bZ))))*a3)) 1000000 XI _ A5.out).mono ?_
 rintro e w' ⟨rfl,⟨nd,rfl⟩⟩
 refine ⟨_,rfl,?_⟩
 refine hK.out _ _ ⟨bE Bu 0,bE Bu 1,bE FJ 0,bE FJ 1⟩ (fun hHeld=>?_)
 clear hK K
 refine dM (by show Act.put _ (some 18) _ = _;simp only [Act.put,List.setIfInBounds_toArray,List.set_cons_zero,List.set_cons_succ,ib,ig];rfl) ?_
 refine bV (i:=10) (N:=some 19) (ax bz.out aM) ?_
 refine iO (i:=20) (N:=some 29) #[ab,ab,ab,ab,ab,ab,ab,ab,ab,ab,ab,ab,ab,ab,ab,ab,ab,ab,ab,ab,ab,ac,ac,ac] rfl rfl (eH bz.out aM) (by decide) (fun K hK=>?_)
 refine gJ Try.func139 aM rfl #[U Z (wrap64 ((wrap64 (a1+(wrap64 (1000*cz))))*a3)),U Z 1000000] (by rfl) rfl rfl ji ?_
 with_reducible refine (jG.calls k (wrap64 ((wrap64 (a1+(wrap64 (1000*cz))))*a3)) 1000000 XJ _ A6.out).mono ?_
 rintro e w' ⟨rfl,⟨nd,rfl⟩⟩
 refine ⟨_,rfl,?_⟩
 refine hK.out _ _ ⟨bE Bu 0,bE Bu 1,bE FJ 0,bE FJ 1⟩ (fun hHeld=>?_)
 clear hK K
 refine dM al9 ?_
 refine bV (i:=21) (N:=some 30) (ax bz.out aM) ?_
 refine bV (i:=22) (N:=some 31) (ax bz.out aM) ?_
 refine iO (i:=23) (N:=none) #[ab,ab,ab,ab,ab,ab,ab,ab,ab,ab,ab,ab,ab,ab,ab,ab,ab,ab,ab,ab,ab,ab,ab,ab] rfl rfl (eH bz.out aM) (by decide) (fun K hK=>?_)
 have a6L:w10.cell? ⟨am1,0,none⟩ = some (U Z 0):=(ah QP.out 0).trans rfl
 have a2c:=bf QP.out 0
 have aOQ:=CY.out
 have aOR:=CZ.out
 have aOS:=V4.out
 have aOT:=V5.out
 have a6M:w10.cell? ⟨am1,1,none⟩ = some (U Z 0):=(ah QP.out 1).trans rfl
 have a2d:=bf QP.out 1
 have aOU:=CY.out
 have aOV:=CZ.out
 have aOW:=V4.out
 have aOX:=V5.out
 refine ve (w1:=?_) (by rfl) rfl ?_ ?_
 rotate_left
 ·go_simp
  rfl
 refine hK.out _ _ ⟨(bY CY ((bY CY (hHeld.1)))),(bY CY ((bY CY (hHeld.2.1)))),(bY CZ ((bY CZ (hHeld.2.2.1)))),(bY CZ ((bY CZ (hHeld.2.2.2))))⟩ (fun hHeld=>?_)
 clear hK K
 refine jS (ja bz.out aM) ?_
 try go_wp2
 refine bodyPost_ret (results_cell_row rfl _ _ am1 27 #[U Z (wrap64 (ai+XI)),U Z (wrap64 (aj+XJ))] (0,0) _ rfl (by (with_reducible repeat (first|refine av ?_ _|refine ag ?_|refine af ?_ _));refine aN (cs:=#[U Z (wrap64 (ai+XI)),U Z 0]) ?_ 1 _ rfl;(with_reducible repeat (first|refine av ?_ _|refine ag ?_|refine af ?_ _));refine aN (cs:=#[U Z 0,U Z 0]) ?_ 0 _ rfl;(with_reducible repeat (first|refine av ?_ _|refine ag ?_|refine af ?_ _));exact QP.out) Try.underlying27 rfl aM) rfl ?_
 exact ⟨lW,gL⟩
def iH.f (ai:Int) (aj:Int) (aI:Int) (aG:Int):Option (Bool):=if ai≤aG then (some (decide (aI≤aj))) else (some false)
set_option maxHeartbeats 8000000 in
set_option maxRecDepth 100000 in
theorem iH.calls (ai:Int) (aj:Int) (aI:Int) (aG:Int) (r:Bool) (w:World) (h:iH.f ai aj aI aG = some r):
 Calls Try.prog 132 #[.agg #[U Z ai,U Z aj],.agg #[U Z aI,U Z aG]] w fun e w'=>e = .returned (.bool r)∧Below w.heap.size w w':=by
 have pz:=Try.underlying27
 have HB:=aa.mk (Below.refl w.heap.size w)
 have H:(if ai≤aG then (some (decide (aI≤aj))) else (some false)) = some r:=h
 clear h
 by_cases c3:ai≤aG
 ·rw [if_pos c3] at H
  have Cc:decide (ai≤aG) = true:=decide_eq_true c3
  clear c3
  obtain rfl:=Option.some.inj H
  go_enter Try.func132,Try.ntmps132
  go_wp2_with (first|((with_reducible refine aA (N:=2) rfl ?_);refine au (by rfl) (N:=2) (by rfl) (cs:=#[U Z ai,U Z aj]) (t:=27) fG ?_;intro aCn hg w4 hbox hb;have Js:=aa.mk (hbox);have aCo:=bS HB hg;have aCp:=bS HB hg;replace HB:=cO HB hb;clear hb hbox hg)|((with_reducible refine aA (N:=3) rfl ?_);refine au (by rfl) (N:=3) (by rfl) (cs:=#[U Z aI,U Z aG]) (t:=27) fG ?_;intro aCq hg w5 hbox hb;have am2:=aa.mk (hbox);have aCr:=bS HB hg;have aCs:=bS HB hg;have PH:=eQ Js hg;have PI:=eT Js hg;replace Js:=aX Js hb;replace HB:=cO HB hb;clear hb hbox hg;have azf:=PH.out;have azg:=PI.out;obtain ⟨zA,zB,zC,zD⟩:=iZ Js.out;obtain ⟨Md,Me,Mf,Mg⟩:=iZ am2.out))
  go_ret
  exact ⟨lW,gL⟩
 ·rw [if_neg c3] at H
  have Cc:decide (ai≤aG) = false:=decide_eq_false c3
  clear c3
  obtain rfl:=Option.some.inj H
  go_enter Try.func132,Try.ntmps132
  go_wp2_with (first|((with_reducible refine aA (N:=2) rfl ?_);refine au (by rfl) (N:=2) (by rfl) (cs:=#[U Z ai,U Z aj]) (t:=27) fG ?_;intro aCn hg w9 hbox hb;have Js:=aa.mk (hbox);have aCo:=bS HB hg;have aCp:=bS HB hg;replace HB:=cO HB hb;clear hb hbox hg)|((with_reducible refine aA (N:=3) rfl ?_);refine au (by rfl) (N:=3) (by rfl) (cs:=#[U Z aI,U Z aG]) (t:=27) fG ?_;intro aCq hg w10 hbox hb;have am2:=aa.mk (hbox);have aCr:=bS HB hg;have aCs:=bS HB hg;have PH:=eQ Js hg;have PI:=eT Js hg;replace Js:=aX Js hb;replace HB:=cO HB hb;clear hb hbox hg;have VN:=PH.out;have VO:=PI.out;obtain ⟨o6,o7,o8,o9⟩:=iZ Js.out;obtain ⟨ug,uh,ui,uj⟩:=iZ am2.out))
  go_ret
  exact ⟨lW,gL⟩
def fB.f (ai:Int) (aj:Int) (aC:Int) (aD:Int) (aI:Int) (aG:Int) (bn:Int) (bq:Int):Option (Bool):=(iH.f ai aj aI aG).bind fun akv=>(if akv = true then ((iH.f aC aD bn bq).bind fun Vk=>(some Vk)) else (some false))
set_option maxHeartbeats 8000000 in
set_option maxRecDepth 100000 in
theorem fB.calls (ai:Int) (aj:Int) (aC:Int) (aD:Int) (aI:Int) (aG:Int) (bn:Int) (bq:Int) (r:Bool) (w:World) (h:fB.f ai aj aC aD aI aG bn bq = some r):
 Calls Try.prog 104 #[.agg #[U Z ai,U Z aj,U Z aC,U Z aD],.agg #[U Z aI,U Z aG,U Z bn,U Z bq]] w fun e w'=>e = .returned (.bool r)∧Below w.heap.size w w':=by
 have rO:=Try.underlying31
 have pz:=Try.underlying27
 have HB:=aa.mk (Below.refl w.heap.size w)
 have H:((iH.f ai aj aI aG).bind fun akv=>(if akv = true then ((iH.f aC aD bn bq).bind fun Vk=>(some Vk)) else (some false))) = some r:=h
 clear h
 replace H:=Option.bind_eq_some_iff.mp H
 obtain ⟨akv,QH,H⟩:=H
 replace H:(if akv = true then ((iH.f aC aD bn bq).bind fun Vk=>(some Vk)) else (some false)) = some r:=H
 have A3:=aa.mk QH
 clear QH
 by_cases c4:akv = true
 ·subst c4
  have H1:((iH.f aC aD bn bq).bind fun Vk=>(some Vk)) = some r:=by rw [if_pos rfl] at H;exact H
  clear H
  have H:=H1
  clear H1
  replace H:=Option.bind_eq_some_iff.mp H
  obtain ⟨Vk,QF,H⟩:=H
  replace H:(some Vk) = some r:=H
  have A5:=aa.mk QF
  clear QF
  obtain rfl:=Option.some.inj H
  go_enter Try.func104,Try.ntmps104
  go_wp2_with (first|((with_reducible refine aA (N:=2) rfl ?_);refine au (by rfl) (N:=2) (by rfl) (cs:=#[U Z ai,U Z aj,U Z aC,U Z aD]) (t:=31) fG ?_;intro aCt hg w6 hbox hb;have zg:=aa.mk (hbox);have aCu:=bS HB hg;have aCv:=bS HB hg;replace HB:=cO HB hb;clear hb hbox hg)|((with_reducible refine aA (N:=3) rfl ?_);refine au (by rfl) (N:=3) (by rfl) (cs:=#[U Z aI,U Z aG,U Z bn,U Z bq]) (t:=31) fG ?_;intro aCw hg w7 hbox hb;have LG:=aa.mk (hbox);have aCx:=bS HB hg;have aCy:=bS HB hg;have PK:=eQ zg hg;have PL:=eT zg hg;replace zg:=aX zg hb;replace HB:=cO HB hb;clear hb hbox hg;have abB:=PK.out;have abC:=PL.out;obtain ⟨zu,zw,G8,G9,zx,zy,Ha,Hd⟩:=jc zg.out;obtain ⟨sV,sW,JQ,JR,sZ,tq,JS,JU⟩:=jc LG.out)|((with_reducible refine aQ (f:=132) rfl ?_);refine dn (some 9) rfl rfl Try.func132 aM rfl #[.agg #[U Z ai,U Z aj],.agg #[U Z aI,U Z aG]] rfl ji ?_;(with_reducible refine (iH.calls ai aj aI aG true _ A3.out).mono ?_);rintro e w11 ⟨rfl,hb⟩;refine ⟨_,rfl,?_⟩;replace zg:=aX zg hb;replace LG:=aX LG hb;replace HB:=cO HB hb;(try clear hb);(try clear hb2);(try clear hk);(try clear hi);obtain ⟨o6,o7,JD,JE,o8,o9,JF,JG⟩:=jc zg.out;obtain ⟨ug,uh,Aw,Ay,ui,uj,Az,AA⟩:=jc LG.out)|(go_at_call 132;(with_reducible refine (iH.calls aC aD bn bq Vk _ A5.out).mono ?_);rintro e w14 ⟨rfl,hb⟩;replace zg:=aX zg hb;replace LG:=aX LG hb;replace HB:=cO HB hb;(try clear hb);(try clear hb2);(try clear hk);(try clear hi)))
  go_ret
  exact ⟨lW,gL⟩
 ·replace c4:=Bool.eq_false_iff.mpr c4
  subst c4
  have H1:(some false) = some r:=by rw [if_neg (show ¬ (false = true) by decide)] at H;exact H
  clear H
  have H:=H1
  clear H1
  obtain rfl:=Option.some.inj H
  go_enter Try.func104,Try.ntmps104
  go_wp2_with (first|((with_reducible refine aA (N:=2) rfl ?_);refine au (by rfl) (N:=2) (by rfl) (cs:=#[U Z ai,U Z aj,U Z aC,U Z aD]) (t:=31) fG ?_;intro aCt hg w15 hbox hb;have zg:=aa.mk (hbox);have aCu:=bS HB hg;have aCv:=bS HB hg;replace HB:=cO HB hb;clear hb hbox hg)|((with_reducible refine aA (N:=3) rfl ?_);refine au (by rfl) (N:=3) (by rfl) (cs:=#[U Z aI,U Z aG,U Z bn,U Z bq]) (t:=31) fG ?_;intro aCw hg w16 hbox hb;have LG:=aa.mk (hbox);have aCx:=bS HB hg;have aCy:=bS HB hg;have PK:=eQ zg hg;have PL:=eT zg hg;replace zg:=aX zg hb;replace HB:=cO HB hb;clear hb hbox hg;have Uj:=PK.out;have Uk:=PL.out;obtain ⟨Ee,Ef,RD,RF,Eg,Eh,RG,RH⟩:=jc zg.out;obtain ⟨vU,vV,yg,yh,vW,vX,yj,yl⟩:=jc LG.out)|((with_reducible refine aQ (f:=132) rfl ?_);refine dn (some 9) rfl rfl Try.func132 aM rfl #[.agg #[U Z ai,U Z aj],.agg #[U Z aI,U Z aG]] rfl ji ?_;(with_reducible refine (iH.calls ai aj aI aG false _ A3.out).mono ?_);rintro e I4 ⟨rfl,hb⟩;refine ⟨_,rfl,?_⟩;replace zg:=aX zg hb;replace LG:=aX LG hb;replace HB:=cO HB hb;(try clear hb);(try clear hb2);(try clear hk);(try clear hi)))
  go_ret
  exact ⟨lW,gL⟩
def fV.f (ai:Int) (aj:Int) (aI:Int) (aG:Int):Option (Int × Int):=some (mn ai aI,mx aj aG)
set_option maxHeartbeats 8000000 in
set_option maxRecDepth 100000 in
theorem fV.calls (ai:Int) (aj:Int) (aI:Int) (aG:Int) (r1:Int) (r2:Int) (w:World) (h:fV.f ai aj aI aG = some (r1,r2)):
 Calls Try.prog 120 #[.agg #[U Z ai,U Z aj],.agg #[U Z aI,U Z aG]] w fun e w'=>e = .returned (.agg #[U Z r1,U Z r2])∧Below w.heap.size w w':=by
 have pz:=Try.underlying27
 have HB:=aa.mk (Below.refl w.heap.size w)
 have H:(some (mn ai aI,mx aj aG)) = some (r1,r2):=h
 clear h
 obtain ⟨Dn,Jb⟩:∃ j_:Int,(mn ai aI) = j_:=⟨_,rfl⟩
 replace H:(some (Dn,mx aj aG)) = some (r1,r2):=by first|(rw [Jb] at H;exact H)|(simp only [Jb] at H ⊢;exact H)
 have alN:(if aI < ai then aI else ai) = Dn:=Jb
 obtain ⟨Rk,Pb⟩:∃ j_:Int,(mx aj aG) = j_:=⟨_,rfl⟩
 replace H:(some (Dn,Rk)) = some (r1,r2):=by first|(rw [Pb] at H;exact H)|(simp only [Pb] at H ⊢;exact H)
 have awf:(if aj < aG then aG else aj) = Rk:=Pb
 simp only [Option.some.injEq,Prod.mk.injEq] at H
 obtain ⟨rfl,rfl⟩:=H
 go_enter Try.func120,Try.ntmps120
 go_wp2_with (first|((with_reducible refine aA (N:=2) rfl ?_);refine au (by rfl) (N:=2) (by rfl) (cs:=#[U Z ai,U Z aj]) (t:=27) fG ?_;intro a2e hg w5 hbox hb;have Np:=aa.mk (hbox);have a2f:=bS HB hg;have a2g:=bS HB hg;replace HB:=cO HB hb;clear hb hbox hg)|((with_reducible refine aA (N:=3) rfl ?_);refine au (by rfl) (N:=3) (by rfl) (cs:=#[U Z aI,U Z aG]) (t:=27) fG ?_;intro a2h hg w6 hbox hb;have abM:=aa.mk (hbox);have a2i:=bS HB hg;have a2j:=bS HB hg;have akw:=eQ Np hg;have akx:=eT Np hg;replace Np:=aX Np hb;replace HB:=cO HB hb;clear hb hbox hg)|((with_reducible refine aA (N:=4) rfl ?_);refine au (by rfl) (N:=4) (by rfl) (cs:=#[U Z 0,U Z 0]) (t:=27) fG ?_;intro aCz hg w7 hbox hb;have awE:=aa.mk (hbox);have a2k:=bS HB hg;have a2l:=bS HB hg;have aky:=eQ Np hg;have akz:=eT Np hg;have akA:=eQ abM hg;have akB:=eT abM hg;replace Np:=aX Np hb;replace abM:=aX abM hb;replace HB:=cO HB hb;clear hb hbox hg;have abB:=akw.out;have abC:=akx.out;have aqJ:=aky.out;have aqK:=akz.out;obtain ⟨sV,sW,sZ,tq⟩:=iZ Np.out;have VN:=akA.out;have VO:=akB.out;obtain ⟨o6,o7,o8,o9⟩:=iZ abM.out;obtain ⟨ug,uh,ui,uj⟩:=iZ awE.out))
 refine bodyPost_ret (results_cell_row rfl _ _ aCz 27 #[U Z Dn,U Z Rk] (0,0) _ rfl (by (with_reducible repeat (first|refine av ?_ _|refine ag ?_|refine af ?_ _));refine aN (cs:=#[U Z Dn,U Z 0]) ?_ 1 _ rfl;(with_reducible repeat (first|refine av ?_ _|refine ag ?_|refine af ?_ _));refine aN (cs:=#[U Z 0,U Z 0]) ?_ 0 _ rfl;(with_reducible repeat (first|refine av ?_ _|refine ag ?_|refine af ?_ _));exact awE.out) Try.underlying27 rfl aM) rfl ?_
 exact ⟨aCA,gL⟩
end Go.Proofs.Ytmhaiihjfgfaoaa.Pr
end
