import Derived.Test.YtmhaiihjfgfaoaaGhGliderHolds3
import Derived.Test.YtmhaiihjfgfaoaaGhGliderHolds4
import Derived.Test.YtmhaiihjfgfaoaaGhGliderHolds5
section
namespace Go.Proofs.Ytmhaiihjfgfaoaa.Pr
open Go.RowKit Go.Proofs.YtmhaiihjfgfaoaaW.PrintWords Go.Proofs.YtmhaiihjfgfaoaaW.PrintLast Go.Proofs.YtmhaiihjfgfaoaaW.PrintMore
attribute [local go_sem] cz cB dK dL cK
set_option linter.unusedVariables false
set_option linter.unusedSimpArgs false
def fK.f (k:Nat) (aj:Int) (ak:Int) (ax:Int) (ay:Int) (aJ:Int) (aC:Int) (aG:Int) (aN:List Bool) (av:List (nU)) (aU:Int) (aQ:Int) (aZ:Int) (bf:Int) (bE:Int) (bF:Int) (bG:Int):Option (Int):=(ai.f k aj ak ax ay aJ aC aG aN av).bind fun Mm=>(if Mm = 0 then ((cO.f aU aQ aZ bf bE bF bG).bind fun U1=>(some U1)) else ((ai.f k aj ak ax ay aJ aC aG aN av).bind fun U2=>(some U2)))
set_option maxHeartbeats 8000000 in
set_option maxRecDepth 100000 in
theorem fK.calls (k:Nat) (aj:Int) (ak:Int) (ax:Int) (ay:Int) (aJ:Int) (aC:Int) (aG:Int) (dH:Option Addr) (dD:Nat) (aN:List Bool) (dG:Option Addr) (dE:Nat) (av:List (nU)) (aU:Int) (aQ:Int) (aZ:Int) (bf:Int) (bE:Int) (bF:Int) (bG:Int) (r:Int) (w:World) (iW:Kd.C Kd.bool w dH aN.length aN) (iX:aN.length≤dD) (iY:Kd.C CY w dG av.length av) (iZ:av.length≤dE) (h:fK.f k aj ak ax ay aJ aC aG aN av aU aQ aZ bf bE bF bG = some r):
 Calls Try.prog 79 #[.agg #[.int .i64 aj,.int .i64 ak,.int .i64 ax,.int .i64 ay,.int .i64 aJ,.int .i64 aC,.int .i64 aG,.slice dH aN.length dD,.slice dG av.length dE],.agg #[.int .i64 aU,.int .i64 aQ,.int .i64 aZ,.int .i64 bf,.int .i64 bE,.int .i64 bF,.int .i64 bG]] w fun e w'=>e = .returned (.int .i64 r)∧Below w.heap.size w w':=by
 have xE:=Try.underlying25
 have BL:=Try.underlying29
 have gq:=ae.mk iW
 have gG:=ae.mk iX
 clear iW iX
 have fF:=ae.mk iY
 have gH:=ae.mk iZ
 clear iY iZ
 have HB:=ae.mk (Below.refl w.heap.size w)
 have H:((ai.f k aj ak ax ay aJ aC aG aN av).bind fun Mm=>(if Mm = 0 then ((cO.f aU aQ aZ bf bE bF bG).bind fun U1=>(some U1)) else ((ai.f k aj ak ax ay aJ aC aG aN av).bind fun U2=>(some U2)))) = some r:=h
 clear h
 replace H:=Option.bind_eq_some_iff.mp H
 obtain ⟨Mm,QA,H⟩:=H
 replace H:(if Mm = 0 then ((cO.f aU aQ aZ bf bE bF bG).bind fun U1=>(some U1)) else ((ai.f k aj ak ax ay aJ aC aG aN av).bind fun U2=>(some U2))) = some r:=H
 have A3:=ae.mk QA
 clear QA
 by_cases c4:Mm = 0
 ·rw [if_pos c4] at H
  have rW:(Mm == 0) = true:=beq_iff_eq.mpr c4
  have amA:(Mm != 0) = false:=bne_eq_false_iff_eq.mpr c4
  clear c4
  replace H:=Option.bind_eq_some_iff.mp H
  obtain ⟨U1,OX,H⟩:=H
  replace H:(some U1) = some r:=H
  have A5:=ae.mk OX
  clear OX
  obtain rfl:=Option.some.inj H
  go_enter Try.func79,Try.ntmps79
  go_wp2_with (first|((with_reducible refine aA (N:=2) rfl ?_);refine az (by rfl) (N:=2) (by rfl) (cs:=#[.int .i64 aj,.int .i64 ak,.int .i64 ax,.int .i64 ay,.int .i64 aJ,.int .i64 aC,.int .i64 aG,.slice dH aN.length dD,.slice dG av.length dE]) (t:=25) gQ ?_;intro apq hg w6 hbox hb;have qX:=ae.mk (hbox);have apr:=dn HB hg;have aps:=dn HB hg;replace HB:=dF HB hb;clear hb hbox hg)|((with_reducible refine aA (N:=3) rfl ?_);refine az (by rfl) (N:=3) (by rfl) (cs:=#[.int .i64 aU,.int .i64 aQ,.int .i64 aZ,.int .i64 bf,.int .i64 bE,.int .i64 bF,.int .i64 bG]) (t:=29) gQ ?_;intro apt hg w7 hbox hb;have GG:=ae.mk (hbox);have apu:=dn HB hg;have apv:=dn HB hg;have KZ:=iE qX hg;have K3:=iF qX hg;replace qX:=bC qX hb;replace HB:=dF HB hb;clear hb hbox hg;have agB:=KZ.out;have agC:=K3.out;obtain ⟨Dr,Dt,K7,K8,RO,RP,RQ,RS,RU,Du,Dv,K9,La,RV,RX,RY,RZ,R3⟩:=iI qX.out)|((with_reducible refine aW (f:=26) rfl ?_);refine dM (some 6) rfl rfl Try.func26 aR rfl #[.agg #[.int .i64 aj,.int .i64 ak,.int .i64 ax,.int .i64 ay,.int .i64 aJ,.int .i64 aC,.int .i64 aG,.slice dH aN.length dD,.slice dG av.length dE]] rfl jJ ?_;(with_reducible refine (ai.calls k aj ak ax ay aJ aC aG _ _ aN _ _ av Mm _ ?dz ?dA ?dR ?dS A3.out).mono ?_);(case dz=>repeat (first|exact (Kd.bn gq.out HB.out)|(with_reducible refine Kd.bA ?_ _)|(with_reducible refine Kd.bB ?_ _)|(with_reducible refine Kd.bK ?_)));(case dA=>exact gG.out);(case dR=>repeat (first|exact (Kd.bn fF.out HB.out)|(with_reducible refine Kd.bA ?_ _)|(with_reducible refine Kd.bB ?_ _)|(with_reducible refine Kd.bK ?_)));(case dS=>exact gH.out);rintro e w10 ⟨rfl,hb⟩;refine ⟨_,rfl,?_⟩;replace qX:=bC qX hb;replace GG:=bC GG hb;replace HB:=dF HB hb;(try clear hb);(try clear hb2);(try clear hk);(try clear hi);obtain ⟨yn,yo,BF,BG,IU,IV,IW,yt,yu,BH,BI,IX,IY,IZ⟩:=ko GG.out)|((with_reducible refine aW (f:=28) rfl ?_);refine dM (some 11) rfl rfl Try.func28 aR rfl #[.agg #[.int .i64 aU,.int .i64 aQ,.int .i64 aZ,.int .i64 bf,.int .i64 bE,.int .i64 bF,.int .i64 bG]] rfl jJ ?_;(with_reducible refine (cO.calls aU aQ aZ bf bE bF bG U1 _ A5.out).mono ?_);rintro e MC ⟨rfl,hb⟩;refine ⟨_,rfl,?_⟩;replace qX:=bC qX hb;replace GG:=bC GG hb;replace HB:=dF HB hb;(try clear hb);(try clear hb2);(try clear hk);(try clear hi)))
  go_ret
  exact ⟨lJ,gM⟩
 ·rw [if_neg c4] at H
  have rW:(Mm == 0) = false:=beq_eq_false_iff_ne.mpr c4
  have amA:(Mm != 0) = true:=bne_iff_ne.mpr c4
  replace H:=Option.bind_eq_some_iff.mp H
  obtain ⟨U2,U3,H⟩:=H
  replace H:(some U2) = some r:=H
  have A13:=ae.mk U3
  clear U3
  obtain rfl:=Option.some.inj H
  go_enter Try.func79,Try.ntmps79
  go_wp2_with (first|((with_reducible refine aA (N:=2) rfl ?_);refine az (by rfl) (N:=2) (by rfl) (cs:=#[.int .i64 aj,.int .i64 ak,.int .i64 ax,.int .i64 ay,.int .i64 aJ,.int .i64 aC,.int .i64 aG,.slice dH aN.length dD,.slice dG av.length dE]) (t:=25) gQ ?_;intro apq hg w14 hbox hb;have qX:=ae.mk (hbox);have apr:=dn HB hg;have aps:=dn HB hg;replace HB:=dF HB hb;clear hb hbox hg)|((with_reducible refine aA (N:=3) rfl ?_);refine az (by rfl) (N:=3) (by rfl) (cs:=#[.int .i64 aU,.int .i64 aQ,.int .i64 aZ,.int .i64 bf,.int .i64 bE,.int .i64 bF,.int .i64 bG]) (t:=29) gQ ?_;intro apt hg WW hbox hb;have GG:=ae.mk (hbox);have apu:=dn HB hg;have apv:=dn HB hg;have KZ:=iE qX hg;have K3:=iF qX hg;replace qX:=bC qX hb;replace HB:=dF HB hb;clear hb hbox hg;have QF:=KZ.out;have QG:=K3.out;obtain ⟨yE,yF,yG,yH,El,Em,En,MM,MN,yI,yJ,yK,yL,Eo,Ep,Er,MO,MP⟩:=iI qX.out)|((with_reducible refine aW (f:=26) rfl ?_);refine dM (some 6) rfl rfl Try.func26 aR rfl #[.agg #[.int .i64 aj,.int .i64 ak,.int .i64 ax,.int .i64 ay,.int .i64 aJ,.int .i64 aC,.int .i64 aG,.slice dH aN.length dD,.slice dG av.length dE]] rfl jJ ?_;(with_reducible refine (ai.calls k aj ak ax ay aJ aC aG _ _ aN _ _ av Mm _ ?dz ?dA ?dR ?dS A3.out).mono ?_);(case dz=>repeat (first|exact (Kd.bn gq.out HB.out)|(with_reducible refine Kd.bA ?_ _)|(with_reducible refine Kd.bB ?_ _)|(with_reducible refine Kd.bK ?_)));(case dA=>exact gG.out);(case dR=>repeat (first|exact (Kd.bn fF.out HB.out)|(with_reducible refine Kd.bA ?_ _)|(with_reducible refine Kd.bB ?_ _)|(with_reducible refine Kd.bK ?_)));(case dS=>exact gH.out);rintro e w18 ⟨rfl,hb⟩;refine ⟨_,rfl,?_⟩;replace qX:=bC qX hb;replace GG:=bC GG hb;replace HB:=dF HB hb;(try clear hb);(try clear hb2);(try clear hk);(try clear hi);obtain ⟨yx,yz,BR,BS,I1,I4,I5,MQ,MR,yA,yB,BU,BV,I6,I7,I8,MS,MU⟩:=iI qX.out)|((with_reducible refine aW (f:=26) rfl ?_);refine dM (some 9) rfl rfl Try.func26 aR rfl #[.agg #[.int .i64 aj,.int .i64 ak,.int .i64 ax,.int .i64 ay,.int .i64 aJ,.int .i64 aC,.int .i64 aG,.slice dH aN.length dD,.slice dG av.length dE]] rfl jJ ?_;(with_reducible refine (ai.calls k aj ak ax ay aJ aC aG _ _ aN _ _ av U2 _ ?dz ?dA ?dR ?dS A13.out).mono ?_);(case dz=>repeat (first|exact (Kd.bn gq.out HB.out)|(with_reducible refine Kd.bA ?_ _)|(with_reducible refine Kd.bB ?_ _)|(with_reducible refine Kd.bK ?_)));(case dA=>exact gG.out);(case dR=>repeat (first|exact (Kd.bn fF.out HB.out)|(with_reducible refine Kd.bA ?_ _)|(with_reducible refine Kd.bB ?_ _)|(with_reducible refine Kd.bK ?_)));(case dS=>exact gH.out);rintro e D7 ⟨rfl,hb⟩;refine ⟨_,rfl,?_⟩;replace qX:=bC qX hb;replace GG:=bC GG hb;replace HB:=dF HB hb;(try clear hb);(try clear hb2);(try clear hk);(try clear hi)))
  go_ret
  exact ⟨lJ,gM⟩
end Go.Proofs.Ytmhaiihjfgfaoaa.Pr
end
section
namespace Go.Proofs.Ytmhaiihjfgfaoaa.Pr
open Go.RowKit Go.Proofs.YtmhaiihjfgfaoaaW.PrintWords Go.Proofs.YtmhaiihjfgfaoaaW.PrintLast Go.Proofs.YtmhaiihjfgfaoaaW.PrintMore
attribute [local go_sem] cz cB dK dL cK
set_option linter.unusedVariables false
set_option linter.unusedSimpArgs false
def fo.f (aj:Int) (ak:Int) (ax:Int) (ay:Int) (a1:Int):Option (Int):=(dC.f aj ak ax ay).bind fun abA=>(if abA = true then (if a1 < 0 then (some 3) else (if a1 > 1073741824 then (some 3) else (some 0))) else (some 2))
set_option maxHeartbeats 8000000 in
set_option maxRecDepth 100000 in
theorem fo.calls (aj:Int) (ak:Int) (ax:Int) (ay:Int) (a1:Int) (r:Int) (w:World) (h:fo.f aj ak ax ay a1 = some r):
 Calls Try.prog 80 #[.agg #[.int .i64 aj,.int .i64 ak,.int .i64 ax,.int .i64 ay],.int .i64 a1] w fun e w'=>e = .returned (.int .i64 r)∧Below w.heap.size w w':=by
 have qP:=Try.underlying31
 have HB:=ae.mk (Below.refl w.heap.size w)
 have H:((dC.f aj ak ax ay).bind fun abA=>(if abA = true then (if a1 < 0 then (some 3) else (if a1 > 1073741824 then (some 3) else (some 0))) else (some 2))) = some r:=h
 clear h
 replace H:=Option.bind_eq_some_iff.mp H
 obtain ⟨abA,QA,H⟩:=H
 replace H:(if abA = true then (if a1 < 0 then (some 3) else (if a1 > 1073741824 then (some 3) else (some 0))) else (some 2)) = some r:=H
 have A3:=ae.mk QA
 clear QA
 by_cases c4:abA = true
 ·subst c4
  have H1:(if a1 < 0 then (some 3) else (if a1 > 1073741824 then (some 3) else (some 0))) = some r:=by rw [if_pos rfl] at H;exact H
  clear H
  have H:=H1
  clear H1
  by_cases c5:a1 < 0
  ·rw [if_pos c5] at H
   have Dc:decide (a1 < 0) = true:=decide_eq_true c5
   clear c5
   obtain rfl:=Option.some.inj H
   go_enter Try.func80,Try.ntmps80
   go_wp2_with (first|((with_reducible refine aA (N:=2) rfl ?_);refine az (by rfl) (N:=2) (by rfl) (cs:=#[.int .i64 aj,.int .i64 ak,.int .i64 ax,.int .i64 ay]) (t:=31) gQ ?_;intro ad7 hg w6 hbox hb;have xH:=ae.mk (hbox);have ad8:=dn HB hg;have ad9:=dn HB hg;replace HB:=dF HB hb;clear hb hbox hg;obtain ⟨xI,xJ,Dx,Dy,xK,xL,Dz,DC⟩:=iC xH.out)|((with_reducible refine aW (f:=63) rfl ?_);refine dM (some 6) rfl rfl Try.func63 aR rfl #[.agg #[.int .i64 aj,.int .i64 ak,.int .i64 ax,.int .i64 ay]] rfl jJ ?_;(with_reducible refine (dC.calls aj ak ax ay true _ A3.out).mono ?_);rintro e w8 ⟨rfl,hb⟩;refine ⟨_,rfl,?_⟩;replace xH:=bC xH hb;replace HB:=dF HB hb;(try clear hb);(try clear hb2);(try clear hk);(try clear hi)))
   go_ret
   exact ⟨lJ,gM⟩
  ·rw [if_neg c5] at H
   have Dc:decide (a1 < 0) = false:=decide_eq_false c5
   clear c5
   by_cases c9:a1 > 1073741824
   ·rw [if_pos c9] at H
    have U4:decide (1073741824 < a1) = true:=decide_eq_true c9
    clear c9
    obtain rfl:=Option.some.inj H
    go_enter Try.func80,Try.ntmps80
    go_wp2_with (first|((with_reducible refine aA (N:=2) rfl ?_);refine az (by rfl) (N:=2) (by rfl) (cs:=#[.int .i64 aj,.int .i64 ak,.int .i64 ax,.int .i64 ay]) (t:=31) gQ ?_;intro ad7 hg w10 hbox hb;have xH:=ae.mk (hbox);have ad8:=dn HB hg;have ad9:=dn HB hg;replace HB:=dF HB hb;clear hb hbox hg;obtain ⟨yn,yo,BF,BG,yt,yu,BH,BI⟩:=iC xH.out)|((with_reducible refine aW (f:=63) rfl ?_);refine dM (some 6) rfl rfl Try.func63 aR rfl #[.agg #[.int .i64 aj,.int .i64 ak,.int .i64 ax,.int .i64 ay]] rfl jJ ?_;(with_reducible refine (dC.calls aj ak ax ay true _ A3.out).mono ?_);rintro e MC ⟨rfl,hb⟩;refine ⟨_,rfl,?_⟩;replace xH:=bC xH hb;replace HB:=dF HB hb;(try clear hb);(try clear hb2);(try clear hk);(try clear hi)))
    go_ret
    exact ⟨lJ,gM⟩
   ·rw [if_neg c9] at H
    have U4:decide (1073741824 < a1) = false:=decide_eq_false c9
    clear c9
    obtain rfl:=Option.some.inj H
    go_enter Try.func80,Try.ntmps80
    go_wp2_with (first|((with_reducible refine aA (N:=2) rfl ?_);refine az (by rfl) (N:=2) (by rfl) (cs:=#[.int .i64 aj,.int .i64 ak,.int .i64 ax,.int .i64 ay]) (t:=31) gQ ?_;intro ad7 hg w13 hbox hb;have xH:=ae.mk (hbox);have ad8:=dn HB hg;have ad9:=dn HB hg;replace HB:=dF HB hb;clear hb hbox hg;obtain ⟨wm,wo,DR,DT,wu,wy,DU,DV⟩:=iC xH.out)|((with_reducible refine aW (f:=63) rfl ?_);refine dM (some 6) rfl rfl Try.func63 aR rfl #[.agg #[.int .i64 aj,.int .i64 ak,.int .i64 ax,.int .i64 ay]] rfl jJ ?_;(with_reducible refine (dC.calls aj ak ax ay true _ A3.out).mono ?_);rintro e WW ⟨rfl,hb⟩;refine ⟨_,rfl,?_⟩;replace xH:=bC xH hb;replace HB:=dF HB hb;(try clear hb);(try clear hb2);(try clear hk);(try clear hi)))
    go_ret
    exact ⟨lJ,gM⟩
 ·replace c4:=Bool.eq_false_iff.mpr c4
  subst c4
  have H1:(some 2) = some r:=by rw [if_neg (show ¬ (false = true) by decide)] at H;exact H
  clear H
  have H:=H1
  clear H1
  obtain rfl:=Option.some.inj H
  go_enter Try.func80,Try.ntmps80
  go_wp2_with (first|((with_reducible refine aA (N:=2) rfl ?_);refine az (by rfl) (N:=2) (by rfl) (cs:=#[.int .i64 aj,.int .i64 ak,.int .i64 ax,.int .i64 ay]) (t:=31) gQ ?_;intro ad7 hg w16 hbox hb;have xH:=ae.mk (hbox);have ad8:=dn HB hg;have ad9:=dn HB hg;replace HB:=dF HB hb;clear hb hbox hg;obtain ⟨yE,yF,yG,yH,yI,yJ,yK,yL⟩:=iC xH.out)|((with_reducible refine aW (f:=63) rfl ?_);refine dM (some 6) rfl rfl Try.func63 aR rfl #[.agg #[.int .i64 aj,.int .i64 ak,.int .i64 ax,.int .i64 ay]] rfl jJ ?_;(with_reducible refine (dC.calls aj ak ax ay false _ A3.out).mono ?_);rintro e w18 ⟨rfl,hb⟩;refine ⟨_,rfl,?_⟩;replace xH:=bC xH hb;replace HB:=dF HB hb;(try clear hb);(try clear hb2);(try clear hk);(try clear hi)))
  go_ret
  exact ⟨lJ,gM⟩
end Go.Proofs.Ytmhaiihjfgfaoaa.Pr
end
section
namespace Go.Proofs.Ytmhaiihjfgfaoaa.Pr
open Go.RowKit Go.Proofs.YtmhaiihjfgfaoaaW.PrintWords Go.Proofs.YtmhaiihjfgfaoaaW.PrintLast Go.Proofs.YtmhaiihjfgfaoaaW.PrintMore
attribute [local go_sem] cz cB dK dL cK
set_option linter.unusedVariables false
set_option linter.unusedSimpArgs false
def bM.l0:Nat→List (vY)→Int→Int→Option (Int)
 |0,_,_,_=>none
 |k+1,x0,x1,x5=>if x5 < (x0.length:Int) then (if 0≤x5 then (if ((dx x0 x5).f0) < 0 then (some 2) else (if ((dx x0 x5).f0) > 8 then (some 2) else (if ((dx x0 x5).f1) < 0 then (some 2) else (if x1 ≥ 0 then (if ((dx x0 x5).f1) ≥ x1 then (some 2) else (bM.l0 k x0 x1 (wrap64 (x5+1)))) else (bM.l0 k x0 x1 (wrap64 (x5+1))))))) else (none)) else (some 0)
def bM.f (k:Nat) (l0:List (vY)) (a1:Int):Option (Int):=if (l0.length:Int) > 64 then (some 6) else (bM.l0 k l0 a1 0)
set_option maxHeartbeats 8000000 in
set_option maxRecDepth 100000 in
theorem bM.calls (k:Nat) (A0:Option Addr) (c0:Nat) (l0:List (vY)) (a1:Int) (r:Int) (w:World) (hr0:Kd.C Yv w A0 l0.length l0) (hc0:l0.length≤c0) (h:bM.f k l0 a1 = some r):
 Calls Try.prog 81 #[.slice A0 l0.length c0,.int .i64 a1] w fun e w'=>e = .returned (.int .i64 r)∧qi w w':=by
 have GX:=ae.mk hr0
 have HC0:=ae.mk hc0
 clear hr0 hc0
 have H:(if (l0.length:Int) > 64 then (some 6) else (bM.l0 k l0 a1 0)) = some r:=h
 clear h
 by_cases c3:(l0.length:Int) > 64
 ·rw [if_pos c3] at H
  have Db:decide (64 < (l0.length:Int)) = true:=decide_eq_true c3
  have UQ:decide (64 < l0.length) = true:=decide_eq_true (by omega)
  clear c3
  obtain rfl:=Option.some.inj H
  go_enter Try.func81,Try.ntmps81
  go_wp2
  go_ret
  exact ⟨nI,R4⟩
 ·rw [if_neg c3] at H
  have Db:decide (64 < (l0.length:Int)) = false:=decide_eq_false c3
  have UQ:decide (64 < l0.length) = false:=decide_eq_false (by omega)
  clear c3
  have H':=ae.mk H
  clear H
  go_enter Try.func81,Try.ntmps81
  go_wp2
  go_loopg [5] k (fun kq v5 w'=>∃ (jr:Int),v5 = .int .i64 jr∧ae (bM.l0 kq l0 a1 jr = some r)∧ae (kq≤k)∧qi w w')
  case atStart=>exact ⟨(0),nI,H',⟨Nat.le_refl _⟩,R4⟩
  case round =>
   clear H'
   try clear p2
   try clear c3
   try clear Db
   try clear UQ
   obtain ⟨jr,rfl,HA,Mi,⟨m1,rfl⟩⟩:=hrel
   cases gk with
   |zero=>exact absurd HA.out (by simp [bM.l0])
   |succ k1 =>
    have H:=HA.out
    clear HA
    simp only [bM.l0] at H
    by_cases c4:jr < (l0.length:Int)
    ·rw [if_pos c4] at H
     have rW:decide (jr < (l0.length:Int)) = true:=decide_eq_true c4
     clear c4
     by_cases c5:0≤jr
     ·rw [if_pos c5] at H
      have Dc:decide (0≤jr) = true:=decide_eq_true c5
      clear c5
      by_cases c6:((dx l0 jr).f0) < 0
      ·rw [if_pos c6] at H
       have Dp:decide (((dx l0 jr).f0) < 0) = true:=decide_eq_true c6
       clear c6
       obtain rfl:=Option.some.inj H
       have xM:0≤(jr:Int):=of_decide_eq_true lX
       have xN:jr < (l0.length:Int):=of_decide_eq_true lX
       obtain ⟨vZ,O9,I9,Ja⟩:=kT GX.out jr xM xN
       cases O9
       replace xM:=eq_true xM
       replace xN:=eq_true xN
       go_wp2
       go_ret
       exact ⟨nI,R4⟩
      ·rw [if_neg c6] at H
       have Dp:decide (((dx l0 jr).f0) < 0) = false:=decide_eq_false c6
       clear c6
       by_cases c7:((dx l0 jr).f0) > 8
       ·rw [if_pos c7] at H
        have WX:decide (8 < ((dx l0 jr).f0)) = true:=decide_eq_true c7
        clear c7
        obtain rfl:=Option.some.inj H
        have xM:0≤(jr:Int):=of_decide_eq_true lX
        have xN:jr < (l0.length:Int):=of_decide_eq_true lX
        obtain ⟨vZ,O9,I9,Ja⟩:=kT GX.out jr xM xN
        cases O9
        replace xM:=eq_true xM
        replace xN:=eq_true xN
        have BX:0≤(jr:Int):=of_decide_eq_true lX
        have BZ:jr < (l0.length:Int):=of_decide_eq_true lX
        obtain ⟨Jb,R5,MV,MW⟩:=kT GX.out jr BX BZ
        obtain rfl:vZ = Jb:=(by injection R5)
        replace BX:=eq_true BX
        replace BZ:=eq_true BZ
        go_wp2
        go_ret
        exact ⟨nI,R4⟩
       ·rw [if_neg c7] at H
        have WX:decide (8 < ((dx l0 jr).f0)) = false:=decide_eq_false c7
        clear c7
        by_cases c8:((dx l0 jr).f1) < 0
        ·rw [if_pos c8] at H
         have Lb:decide (((dx l0 jr).f1) < 0) = true:=decide_eq_true c8
         clear c8
         obtain rfl:=Option.some.inj H
         have xM:0≤(jr:Int):=of_decide_eq_true lX
         have xN:jr < (l0.length:Int):=of_decide_eq_true lX
         obtain ⟨vZ,O9,I9,Ja⟩:=kT GX.out jr xM xN
         cases O9
         replace xM:=eq_true xM
         replace xN:=eq_true xN
         have BX:0≤(jr:Int):=of_decide_eq_true lX
         have BZ:jr < (l0.length:Int):=of_decide_eq_true lX
         obtain ⟨Jb,R5,MV,MW⟩:=kT GX.out jr BX BZ
         obtain rfl:vZ = Jb:=(by injection R5)
         replace BX:=eq_true BX
         replace BZ:=eq_true BZ
         have GY:0≤(jr:Int):=of_decide_eq_true lX
         have GZ:jr < (l0.length:Int):=of_decide_eq_true lX
         obtain ⟨Pb,Xc,R6,R7⟩:=kT GX.out jr GY GZ
         obtain rfl:vZ = Pb:=(by injection Xc)
         replace GY:=eq_true GY
         replace GZ:=eq_true GZ
         go_wp2
         go_ret
         exact ⟨nI,R4⟩
        ·rw [if_neg c8] at H
         have Lb:decide (((dx l0 jr).f1) < 0) = false:=decide_eq_false c8
         clear c8
         by_cases c9:a1 ≥ 0
         ·rw [if_pos c9] at H
          have U4:decide (0≤a1) = true:=decide_eq_true c9
          clear c9
          by_cases c10:((dx l0 jr).f1) ≥ a1
          ·rw [if_pos c10] at H
           have Ad:decide (a1≤((dx l0 jr).f1)) = true:=decide_eq_true c10
           clear c10
           obtain rfl:=Option.some.inj H
           have xM:0≤(jr:Int):=of_decide_eq_true lX
           have xN:jr < (l0.length:Int):=of_decide_eq_true lX
           obtain ⟨vZ,O9,I9,Ja⟩:=kT GX.out jr xM xN
           cases O9
           replace xM:=eq_true xM
           replace xN:=eq_true xN
           have BX:0≤(jr:Int):=of_decide_eq_true lX
           have BZ:jr < (l0.length:Int):=of_decide_eq_true lX
           obtain ⟨Jb,R5,MV,MW⟩:=kT GX.out jr BX BZ
           obtain rfl:vZ = Jb:=(by injection R5)
           replace BX:=eq_true BX
           replace BZ:=eq_true BZ
           have GY:0≤(jr:Int):=of_decide_eq_true lX
           have GZ:jr < (l0.length:Int):=of_decide_eq_true lX
           obtain ⟨Pb,Xc,R6,R7⟩:=kT GX.out jr GY GZ
           obtain rfl:vZ = Pb:=(by injection Xc)
           replace GY:=eq_true GY
           replace GZ:=eq_true GZ
           have Xd:0≤(jr:Int):=of_decide_eq_true lX
           have Xe:jr < (l0.length:Int):=of_decide_eq_true lX
           obtain ⟨aea,amR,agD,agE⟩:=kT GX.out jr Xd Xe
           obtain rfl:vZ = aea:=(by injection amR)
           replace Xd:=eq_true Xd
           replace Xe:=eq_true Xe
           go_wp2
           go_ret
           exact ⟨nI,R4⟩
          ·rw [if_neg c10] at H
           have Ad:decide (a1≤((dx l0 jr).f1)) = false:=decide_eq_false c10
           clear c10
           have H':=ae.mk H
           clear H
           have xM:0≤(jr:Int):=of_decide_eq_true lX
           have xN:jr < (l0.length:Int):=of_decide_eq_true lX
           obtain ⟨vZ,O9,I9,Ja⟩:=kT GX.out jr xM xN
           cases O9
           replace xM:=eq_true xM
           replace xN:=eq_true xN
           have BX:0≤(jr:Int):=of_decide_eq_true lX
           have BZ:jr < (l0.length:Int):=of_decide_eq_true lX
           obtain ⟨Jb,R5,MV,MW⟩:=kT GX.out jr BX BZ
           obtain rfl:vZ = Jb:=(by injection R5)
           replace BX:=eq_true BX
           replace BZ:=eq_true BZ
           have GY:0≤(jr:Int):=of_decide_eq_true lX
           have GZ:jr < (l0.length:Int):=of_decide_eq_true lX
           obtain ⟨Pb,Xc,R6,R7⟩:=kT GX.out jr GY GZ
           obtain rfl:vZ = Pb:=(by injection Xc)
           replace GY:=eq_true GY
           replace GZ:=eq_true GZ
           have Xd:0≤(jr:Int):=of_decide_eq_true lX
           have Xe:jr < (l0.length:Int):=of_decide_eq_true lX
           obtain ⟨aea,amR,agD,agE⟩:=kT GX.out jr Xd Xe
           obtain rfl:vZ = aea:=(by injection amR)
           replace Xd:=eq_true Xd
           replace Xe:=eq_true Xe
           go_wp2
           go_roundg k1
           case measure=>have:=Mi.out;omega
           case rel=>exact ⟨(wrap64 (jr+1)),nI,H',⟨RF⟩,R4⟩
         ·rw [if_neg c9] at H
          have U4:decide (0≤a1) = false:=decide_eq_false c9
          clear c9
          have H':=ae.mk H
          clear H
          have xM:0≤(jr:Int):=of_decide_eq_true lX
          have xN:jr < (l0.length:Int):=of_decide_eq_true lX
          obtain ⟨vZ,O9,I9,Ja⟩:=kT GX.out jr xM xN
          cases O9
          replace xM:=eq_true xM
          replace xN:=eq_true xN
          have BX:0≤(jr:Int):=of_decide_eq_true lX
          have BZ:jr < (l0.length:Int):=of_decide_eq_true lX
          obtain ⟨Jb,R5,MV,MW⟩:=kT GX.out jr BX BZ
          obtain rfl:vZ = Jb:=(by injection R5)
          replace BX:=eq_true BX
          replace BZ:=eq_true BZ
          have GY:0≤(jr:Int):=of_decide_eq_true lX
          have GZ:jr < (l0.length:Int):=of_decide_eq_true lX
          obtain ⟨Pb,Xc,R6,R7⟩:=kT GX.out jr GY GZ
          obtain rfl:vZ = Pb:=(by injection Xc)
          replace GY:=eq_true GY
          replace GZ:=eq_true GZ
          go_wp2
          go_roundg k1
          case measure=>have:=Mi.out;omega
          case rel=>exact ⟨(wrap64 (jr+1)),nI,H',⟨RF⟩,R4⟩
     ·rw [if_neg c5] at H
      exact absurd H (by simp)
    ·rw [if_neg c4] at H
     have rW:decide (jr < (l0.length:Int)) = false:=decide_eq_false c4
     clear c4
     obtain rfl:=Option.some.inj H
     go_wp2
     go_ret
     exact ⟨nI,R4⟩
end Go.Proofs.Ytmhaiihjfgfaoaa.Pr
end
section
namespace Go.Proofs.Ytmhaiihjfgfaoaa.Pr
open Go.RowKit Go.Proofs.YtmhaiihjfgfaoaaW.PrintWords Go.Proofs.YtmhaiihjfgfaoaaW.PrintLast Go.Proofs.YtmhaiihjfgfaoaaW.PrintMore
attribute [local go_sem] cz cB dK dL cK
set_option linter.unusedVariables false
set_option linter.unusedSimpArgs false
def fu.f:Nat→Int→Int→Option (Int)
 |0,_,_=>none
 |k+1,a0,a1=>if a1 < 0 then ((fu.f k (wrap64 (-a0)) (wrap64 (-a1))).bind fun abB=>(some abB)) else (if a1 = 0 then (none) else (if (Int.tmod a0 a1) < 0 then (some (wrap64 ((wrap64 (Int.tdiv a0 a1)) - 1))) else (some (wrap64 (Int.tdiv a0 a1)))))
set_option maxHeartbeats 8000000 in
set_option maxRecDepth 100000 in
theorem fu.calls (k:Nat):∀ (a0:Int) (a1:Int) (r:Int) (w:World) (h:fu.f k a0 a1 = some r),
 Calls Try.prog 140 #[.int .i64 a0,.int .i64 a1] w fun e w'=>e = .returned (.int .i64 r)∧qi w w':=by
 induction k using Nat.strongRecOn with
 |_ k ih =>
 intro a0 a1 r w h
 cases k with
 |zero=>exact absurd h (by simp [fu.f])
 |succ k =>
 simp only [fu.f] at h
 have H:(if a1 < 0 then ((fu.f k (wrap64 (-a0)) (wrap64 (-a1))).bind fun abB=>(some abB)) else (if a1 = 0 then (none) else (if (Int.tmod a0 a1) < 0 then (some (wrap64 ((wrap64 (Int.tdiv a0 a1)) - 1))) else (some (wrap64 (Int.tdiv a0 a1)))))) = some r:=h
 clear h
 by_cases c3:a1 < 0
 ·rw [if_pos c3] at H
  have Db:decide (a1 < 0) = true:=decide_eq_true c3
  clear c3
  replace H:=Option.bind_eq_some_iff.mp H
  obtain ⟨abB,LX,H⟩:=H
  replace H:(some abB) = some r:=H
  have A4:=ae.mk LX
  clear LX
  obtain rfl:=Option.some.inj H
  go_enter Try.func140,Try.ntmps140
  go_wp2_with (first|((with_reducible refine aW (f:=140) rfl ?_);refine dM (some 12) rfl rfl Try.func140 aR rfl #[.int .i64 (wrap64 (-a0)),.int .i64 (wrap64 (-a1))] rfl jJ ?_;(with_reducible refine (ih k (by omega) (wrap64 (-a0)) (wrap64 (-a1)) abB _ A4.out).mono ?_);rintro e w' ⟨rfl,⟨nd,rfl⟩⟩;refine ⟨_,rfl,?_⟩))
  go_ret
  exact ⟨nI,R4⟩
 ·rw [if_neg c3] at H
  have Db:decide (a1 < 0) = false:=decide_eq_false c3
  clear c3
  by_cases c5:a1 = 0
  ·rw [if_pos c5] at H
   exact absurd H (by simp)
  ·rw [if_neg c5] at H
   have Dc:(a1 == 0) = false:=beq_eq_false_iff_ne.mpr c5
   have abz:(a1 != 0) = true:=bne_iff_ne.mpr c5
   by_cases c6:(Int.tmod a0 a1) < 0
   ·rw [if_pos c6] at H
    have Dp:decide ((Int.tmod a0 a1) < 0) = true:=decide_eq_true c6
    clear c6
    obtain rfl:=Option.some.inj H
    go_enter Try.func140,Try.ntmps140
    go_wp2
    go_ret
    exact ⟨nI,R4⟩
   ·rw [if_neg c6] at H
    have Dp:decide ((Int.tmod a0 a1) < 0) = false:=decide_eq_false c6
    clear c6
    obtain rfl:=Option.some.inj H
    go_enter Try.func140,Try.ntmps140
    go_wp2
    go_ret
    exact ⟨nI,R4⟩
end Go.Proofs.Ytmhaiihjfgfaoaa.Pr
end
section
namespace Go.Proofs.Ytmhaiihjfgfaoaa.Pr
open Go.RowKit Go.Proofs.YtmhaiihjfgfaoaaW.PrintWords Go.Proofs.YtmhaiihjfgfaoaaW.PrintLast Go.Proofs.YtmhaiihjfgfaoaaW.PrintMore
attribute [local go_sem] cz cB dK dL cK
set_option linter.unusedVariables false
set_option linter.unusedSimpArgs false
def iy.f (k:Nat) (a0:Int) (a1:Int):Option (Int):=(fu.f k (wrap64 (-a0)) a1).bind fun abC=>(some (wrap64 (-abC)))
set_option maxHeartbeats 8000000 in
set_option maxRecDepth 100000 in
theorem iy.calls (k:Nat) (a0:Int) (a1:Int) (r:Int) (w:World) (h:iy.f k a0 a1 = some r):
 Calls Try.prog 139 #[.int .i64 a0,.int .i64 a1] w fun e w'=>e = .returned (.int .i64 r)∧qi w w':=by
 have H:((fu.f k (wrap64 (-a0)) a1).bind fun abC=>(some (wrap64 (-abC)))) = some r:=h
 clear h
 replace H:=Option.bind_eq_some_iff.mp H
 obtain ⟨abC,QA,H⟩:=H
 replace H:(some (wrap64 (-abC))) = some r:=H
 have A3:=ae.mk QA
 clear QA
 obtain rfl:=Option.some.inj H
 go_enter Try.func139,Try.ntmps139
 go_wp2_with (first|((with_reducible refine aW (f:=140) rfl ?_);refine dM (some 8) rfl rfl Try.func140 aR rfl #[.int .i64 (wrap64 (-a0)),.int .i64 a1] rfl jJ ?_;(with_reducible refine (fu.calls k (wrap64 (-a0)) a1 abC _ A3.out).mono ?_);rintro e w' ⟨rfl,⟨nd,rfl⟩⟩;refine ⟨_,rfl,?_⟩))
 go_ret
 exact ⟨nI,R4⟩
end Go.Proofs.Ytmhaiihjfgfaoaa.Pr
end
section
namespace Go.Proofs.Ytmhaiihjfgfaoaa.Pr
open Go.RowKit Go.Proofs.YtmhaiihjfgfaoaaW.PrintWords Go.Proofs.YtmhaiihjfgfaoaaW.PrintLast Go.Proofs.YtmhaiihjfgfaoaaW.PrintMore
attribute [local go_sem] cz cB dK dL cK
set_option linter.unusedVariables false
set_option linter.unusedSimpArgs false
def eB.f (k:Nat) (aj:Int) (ak:Int) (ax:Int) (ay:Int) (aJ:Int) (aC:Int) (aG:Int) (aN:List Bool) (av:List (nU)) (aU:Int) (aQ:Int) (aZ:Int) (bf:Int) (bE:Int) (bF:Int) (bG:Int) (bP:Int) (bQ:Int) (bR:Int) (bS:Int):Option (Int × Int × Int × Int):=(iy.f k (wrap64 ((wrap64 (aU+aG))*aQ)) 1000).bind fun vT=>(some (wrap64 (bP - vT),wrap64 (bQ+vT),wrap64 (bR - vT),wrap64 (bS+vT)))
set_option maxHeartbeats 8000000 in
set_option maxRecDepth 100000 in
theorem eB.calls (k:Nat) (aj:Int) (ak:Int) (ax:Int) (ay:Int) (aJ:Int) (aC:Int) (aG:Int) (dH:Option Addr) (dD:Nat) (aN:List Bool) (dG:Option Addr) (dE:Nat) (av:List (nU)) (aU:Int) (aQ:Int) (aZ:Int) (bf:Int) (bE:Int) (bF:Int) (bG:Int) (bP:Int) (bQ:Int) (bR:Int) (bS:Int) (r1:Int) (r2:Int) (r3:Int) (r4:Int) (w:World) (iW:Kd.C Kd.bool w dH aN.length aN) (iX:aN.length≤dD) (iY:Kd.C CY w dG av.length av) (iZ:av.length≤dE) (h:eB.f k aj ak ax ay aJ aC aG aN av aU aQ aZ bf bE bF bG bP bQ bR bS = some (r1,r2,r3,r4)):
 Calls Try.prog 133 #[.agg #[.int .i64 aj,.int .i64 ak,.int .i64 ax,.int .i64 ay,.int .i64 aJ,.int .i64 aC,.int .i64 aG,.slice dH aN.length dD,.slice dG av.length dE],.agg #[.int .i64 aU,.int .i64 aQ,.int .i64 aZ,.int .i64 bf,.int .i64 bE,.int .i64 bF,.int .i64 bG],.agg #[.int .i64 bP,.int .i64 bQ,.int .i64 bR,.int .i64 bS]] w fun e w'=>e = .returned (.agg #[.int .i64 r1,.int .i64 r2,.int .i64 r3,.int .i64 r4])∧Below w.heap.size w w':=by
 have xE:=Try.underlying25
 have BL:=Try.underlying29
 have qP:=Try.underlying31
 have pK:=Try.underlying27
 have gq:=ae.mk iW
 have gG:=ae.mk iX
 clear iW iX
 have fF:=ae.mk iY
 have gH:=ae.mk iZ
 clear iY iZ
 have HB:=ae.mk (Below.refl w.heap.size w)
 have H:((iy.f k (wrap64 ((wrap64 (aU+aG))*aQ)) 1000).bind fun vT=>(some (wrap64 (bP - vT),wrap64 (bQ+vT),wrap64 (bR - vT),wrap64 (bS+vT)))) = some (r1,r2,r3,r4):=h
 clear h
 replace H:=Option.bind_eq_some_iff.mp H
 obtain ⟨vT,LX,H⟩:=H
 replace H:(some (wrap64 (bP - vT),wrap64 (bQ+vT),wrap64 (bR - vT),wrap64 (bS+vT))) = some (r1,r2,r3,r4):=H
 have A4:=ae.mk LX
 clear LX
 simp only [Option.some.injEq,Prod.mk.injEq] at H
 obtain ⟨rfl,rfl,rfl,rfl⟩:=H
 go_enter Try.func133,Try.ntmps133
 go_wp2_with (first|((with_reducible refine aA (N:=3) rfl ?_);refine az (by rfl) (N:=3) (by rfl) (cs:=#[.int .i64 aj,.int .i64 ak,.int .i64 ax,.int .i64 ay,.int .i64 aJ,.int .i64 aC,.int .i64 aG,.slice dH aN.length dD,.slice dG av.length dE]) (t:=25) gQ ?_;intro apw hg w5 hbox hb;have xO:=ae.mk (hbox);have aE3:=dn HB hg;have aE4:=dn HB hg;replace HB:=dF HB hb;clear hb hbox hg)|((with_reducible refine aA (N:=4) rfl ?_);refine az (by rfl) (N:=4) (by rfl) (cs:=#[.int .i64 aU,.int .i64 aQ,.int .i64 aZ,.int .i64 bf,.int .i64 bE,.int .i64 bF,.int .i64 bG]) (t:=29) gQ ?_;intro apx hg w6 hbox hb;have DD:=ae.mk (hbox);have aE5:=dn HB hg;have aE6:=dn HB hg;have abD:=iE xO hg;have abE:=iF xO hg;replace xO:=bC xO hb;replace HB:=dF HB hb;clear hb hbox hg)|((with_reducible refine aA (N:=5) rfl ?_);refine az (by rfl) (N:=5) (by rfl) (cs:=#[.int .i64 bP,.int .i64 bQ,.int .i64 bR,.int .i64 bS]) (t:=31) gQ ?_;intro apy hg w7 hbox hb;have Pf:=ae.mk (hbox);have aE7:=dn HB hg;have aE8:=dn HB hg;have abF:=iE xO hg;have abG:=iF xO hg;have abH:=iE DD hg;have abI:=iF DD hg;replace xO:=bC xO hb;replace DD:=bC DD hb;replace HB:=dF HB hb;clear hb hbox hg)|((with_reducible refine aA (N:=6) rfl ?_);refine az (by rfl) (N:=6) (by rfl) (cs:=#[.int .i64 0,.int .i64 0,.int .i64 0,.int .i64 0]) (t:=31) gQ ?_;intro akN hg w8 hbox hb;have Yz:=ae.mk (hbox);have aE9:=dn HB hg;have aFa:=dn HB hg;have abJ:=iE xO hg;have abK:=iF xO hg;have abL:=iE DD hg;have abM:=iF DD hg;have abN:=iE Pf hg;have abO:=iF Pf hg;replace xO:=bC xO hb;replace DD:=bC DD hb;replace Pf:=bC Pf hb;replace HB:=dF HB hb;clear hb hbox hg;have apz:=abE.out;have apA:=abD.out;have ac3:=abH.out;have ac4:=abI.out;have Us:=abL.out;have Ut:=abM.out;obtain ⟨uS,uT,Ij,Ik,YA,YB,YC,uU,uV,Il,Im,YD,YE,YF⟩:=ko DD.out;have Ye:=abF.out;have Yf:=abG.out;have akO:=abJ.out;have akP:=abK.out;obtain ⟨pM,pO,rJ,rM,u6,u7,ve,wH,wI,pQ,pR,rO,rP,vg,vk,vo,wJ,wK⟩:=iI xO.out)|((with_reducible refine aW (f:=139) rfl ?_);refine dM (some 16) rfl rfl Try.func139 aR rfl #[.int .i64 (wrap64 ((wrap64 (aU+aG))*aQ)),.int .i64 1000] rfl jJ ?_;(with_reducible refine (iy.calls k (wrap64 ((wrap64 (aU+aG))*aQ)) 1000 vT _ A4.out).mono ?_);rintro e w' ⟨rfl,⟨nd,rfl⟩⟩;refine ⟨_,rfl,?_⟩;(try (rw [Xf w8];generalize PT:World.drewN w8 _ = w8;have BM:ae (w8.heap[apw]? = some (.cells #[.int .i64 aj,.int .i64 ak,.int .i64 ax,.int .i64 ay,.int .i64 aJ,.int .i64 aC,.int .i64 aG,.slice dH aN.length dD,.slice dG av.length dE] 25 (0,0))):=⟨by rw [← PT];exact iq⟩;have BN:ae (w8.heap[apx]? = some (.cells #[.int .i64 aU,.int .i64 aQ,.int .i64 aZ,.int .i64 bf,.int .i64 bE,.int .i64 bF,.int .i64 bG] 29 (0,0))):=⟨by rw [← PT];exact iq⟩;have BO:ae (w8.heap[apy]? = some (.cells #[.int .i64 bP,.int .i64 bQ,.int .i64 bR,.int .i64 bS] 31 (0,0))):=⟨by rw [← PT];exact iq⟩;have BP:ae (w8.heap[akN]? = some (.cells #[.int .i64 0,.int .i64 0,.int .i64 0,.int .i64 0] 31 (0,0))):=⟨by rw [← PT];exact iq⟩;have BQ:ae (Below w.heap.size w w8):=⟨by rw [← PT];exact gM⟩;clear xO DD Pf Yz HB PT;have xO:=BM;have DD:=BN;have Pf:=BO;have Yz:=BP;have HB:=BQ;clear BM BN BO BP BQ));have QF:=abN.out;have QG:=abO.out;obtain ⟨yE,yF,yG,yH,yI,yJ,yK,yL⟩:=iC Pf.out;obtain ⟨si,sj,su,sw,sD,sF,sG,sH⟩:=iC Yz.out))
 refine bodyPost_ret (results_cell_row rfl _ _ akN 31 #[.int .i64 (wrap64 (bP - vT)),.int .i64 (wrap64 (bQ+vT)),.int .i64 (wrap64 (bR - vT)),.int .i64 (wrap64 (bS+vT))] (0,0) _ rfl (by (with_reducible repeat (first|refine au ?_ _|refine ah ?_|refine ag ?_ _));refine aI (cs:=#[.int .i64 (wrap64 (bP - vT)),.int .i64 (wrap64 (bQ+vT)),.int .i64 (wrap64 (bR - vT)),.int .i64 0]) ?_ 3 _ rfl;(with_reducible repeat (first|refine au ?_ _|refine ah ?_|refine ag ?_ _));refine aI (cs:=#[.int .i64 (wrap64 (bP - vT)),.int .i64 (wrap64 (bQ+vT)),.int .i64 0,.int .i64 0]) ?_ 2 _ rfl;(with_reducible repeat (first|refine au ?_ _|refine ah ?_|refine ag ?_ _));refine aI (cs:=#[.int .i64 (wrap64 (bP - vT)),.int .i64 0,.int .i64 0,.int .i64 0]) ?_ 1 _ rfl;(with_reducible repeat (first|refine au ?_ _|refine ah ?_|refine ag ?_ _));refine aI (cs:=#[.int .i64 0,.int .i64 0,.int .i64 0,.int .i64 0]) ?_ 0 _ rfl;(with_reducible repeat (first|refine au ?_ _|refine ah ?_|refine ag ?_ _));exact Yz.out) Try.underlying31 rfl aR) rfl ?_
 exact ⟨lJ,gM⟩
end Go.Proofs.Ytmhaiihjfgfaoaa.Pr
end
section
namespace Go.Proofs.Ytmhaiihjfgfaoaa.Pr
open Go.RowKit Go.Proofs.YtmhaiihjfgfaoaaW.PrintWords Go.Proofs.YtmhaiihjfgfaoaaW.PrintLast Go.Proofs.YtmhaiihjfgfaoaaW.PrintMore
attribute [local go_sem] cz cB dK dL cK
set_option linter.unusedVariables false
set_option linter.unusedSimpArgs false
def iQ.f (aj:Int) (ak:Int) (ax:Int) (ay:Int) (aJ:Int) (aC:Int) (aG:Int) (aN:List Bool) (av:List (nU)) (aU:Int) (aQ:Int) (aZ:Int) (bf:Int):Option (Bool):=if aU ≥ 0 then (if aQ≤(wrap64 (aj*ax)) then (if aZ ≥ 0 then (some (decide (bf≤(wrap64 (ak*ax))))) else (some false)) else (some false)) else (some false)
set_option maxHeartbeats 8000000 in
set_option maxRecDepth 100000 in
theorem iQ.calls (aj:Int) (ak:Int) (ax:Int) (ay:Int) (aJ:Int) (aC:Int) (aG:Int) (dH:Option Addr) (dD:Nat) (aN:List Bool) (dG:Option Addr) (dE:Nat) (av:List (nU)) (aU:Int) (aQ:Int) (aZ:Int) (bf:Int) (r:Bool) (w:World) (iW:Kd.C Kd.bool w dH aN.length aN) (iX:aN.length≤dD) (iY:Kd.C CY w dG av.length av) (iZ:av.length≤dE) (h:iQ.f aj ak ax ay aJ aC aG aN av aU aQ aZ bf = some r):
 Calls Try.prog 71 #[.agg #[.int .i64 aj,.int .i64 ak,.int .i64 ax,.int .i64 ay,.int .i64 aJ,.int .i64 aC,.int .i64 aG,.slice dH aN.length dD,.slice dG av.length dE],.agg #[.int .i64 aU,.int .i64 aQ,.int .i64 aZ,.int .i64 bf]] w fun e w'=>e = .returned (.bool r)∧Below w.heap.size w w':=by
 have xE:=Try.underlying25
 have qP:=Try.underlying31
 have gq:=ae.mk iW
 have gG:=ae.mk iX
 clear iW iX
 have fF:=ae.mk iY
 have gH:=ae.mk iZ
 clear iY iZ
 have HB:=ae.mk (Below.refl w.heap.size w)
 have H:(if aU ≥ 0 then (if aQ≤(wrap64 (aj*ax)) then (if aZ ≥ 0 then (some (decide (bf≤(wrap64 (ak*ax))))) else (some false)) else (some false)) else (some false)) = some r:=h
 clear h
 by_cases c3:aU ≥ 0
 ·rw [if_pos c3] at H
  have Db:decide (0≤aU) = true:=decide_eq_true c3
  clear c3
  by_cases c4:aQ≤(wrap64 (aj*ax))
  ·rw [if_pos c4] at H
   have rW:decide (aQ≤(wrap64 (aj*ax))) = true:=decide_eq_true c4
   clear c4
   by_cases c5:aZ ≥ 0
   ·rw [if_pos c5] at H
    have Dc:decide (0≤aZ) = true:=decide_eq_true c5
    clear c5
    obtain rfl:=Option.some.inj H
    go_enter Try.func71,Try.ntmps71
    go_wp2_with (first|((with_reducible refine aA (N:=2) rfl ?_);refine az (by rfl) (N:=2) (by rfl) (cs:=#[.int .i64 aj,.int .i64 ak,.int .i64 ax,.int .i64 ay,.int .i64 aJ,.int .i64 aC,.int .i64 aG,.slice dH aN.length dD,.slice dG av.length dE]) (t:=25) gQ ?_;intro aeb hg w6 hbox hb;have qh:=ae.mk (hbox);have aec:=dn HB hg;have aed:=dn HB hg;replace HB:=dF HB hb;clear hb hbox hg)|((with_reducible refine aA (N:=3) rfl ?_);refine az (by rfl) (N:=3) (by rfl) (cs:=#[.int .i64 aU,.int .i64 aQ,.int .i64 aZ,.int .i64 bf]) (t:=31) gQ ?_;intro aee hg w7 hbox hb;have Pg:=ae.mk (hbox);have aef:=dn HB hg;have aeg:=dn HB hg;have uB:=iE qh hg;have uC:=iF qh hg;replace qh:=bC qh hb;replace HB:=dF HB hb;clear hb hbox hg;have agB:=uC.out;have agC:=uB.out;obtain ⟨Dr,Dt,K7,K8,Du,Dv,K9,La⟩:=iC Pg.out;obtain ⟨wL,wM,Jc,Jd,R8,R9,Sa,YG,YH,wN,wO,Je,Jf,Sb,Sc,Sd,YI,YJ⟩:=iI qh.out))
    go_ret
    exact ⟨lJ,gM⟩
   ·rw [if_neg c5] at H
    have Dc:decide (0≤aZ) = false:=decide_eq_false c5
    clear c5
    obtain rfl:=Option.some.inj H
    go_enter Try.func71,Try.ntmps71
    go_wp2_with (first|((with_reducible refine aA (N:=2) rfl ?_);refine az (by rfl) (N:=2) (by rfl) (cs:=#[.int .i64 aj,.int .i64 ak,.int .i64 ax,.int .i64 ay,.int .i64 aJ,.int .i64 aC,.int .i64 aG,.slice dH aN.length dD,.slice dG av.length dE]) (t:=25) gQ ?_;intro aeb hg w11 hbox hb;have qh:=ae.mk (hbox);have aec:=dn HB hg;have aed:=dn HB hg;replace HB:=dF HB hb;clear hb hbox hg)|((with_reducible refine aA (N:=3) rfl ?_);refine az (by rfl) (N:=3) (by rfl) (cs:=#[.int .i64 aU,.int .i64 aQ,.int .i64 aZ,.int .i64 bf]) (t:=31) gQ ?_;intro aee hg MC hbox hb;have Pg:=ae.mk (hbox);have aef:=dn HB hg;have aeg:=dn HB hg;have uB:=iE qh hg;have uC:=iF qh hg;replace qh:=bC qh hb;replace HB:=dF HB hb;clear hb hbox hg;have Ye:=uC.out;have Yf:=uB.out;obtain ⟨wm,wo,DR,DT,wu,wy,DU,DV⟩:=iC Pg.out;obtain ⟨pM,pO,rJ,rM,u6,u7,ve,wH,wI,pQ,pR,rO,rP,vg,vk,vo,wJ,wK⟩:=iI qh.out))
    go_ret
    exact ⟨lJ,gM⟩
  ·rw [if_neg c4] at H
   have rW:decide (aQ≤(wrap64 (aj*ax))) = false:=decide_eq_false c4
   clear c4
   obtain rfl:=Option.some.inj H
   go_enter Try.func71,Try.ntmps71
   go_wp2_with (first|((with_reducible refine aA (N:=2) rfl ?_);refine az (by rfl) (N:=2) (by rfl) (cs:=#[.int .i64 aj,.int .i64 ak,.int .i64 ax,.int .i64 ay,.int .i64 aJ,.int .i64 aC,.int .i64 aG,.slice dH aN.length dD,.slice dG av.length dE]) (t:=25) gQ ?_;intro aeb hg w16 hbox hb;have qh:=ae.mk (hbox);have aec:=dn HB hg;have aed:=dn HB hg;replace HB:=dF HB hb;clear hb hbox hg)|((with_reducible refine aA (N:=3) rfl ?_);refine az (by rfl) (N:=3) (by rfl) (cs:=#[.int .i64 aU,.int .i64 aQ,.int .i64 aZ,.int .i64 bf]) (t:=31) gQ ?_;intro aee hg Ac hbox hb;have Pg:=ae.mk (hbox);have aef:=dn HB hg;have aeg:=dn HB hg;have uB:=iE qh hg;have uC:=iF qh hg;replace qh:=bC qh hb;replace HB:=dF HB hb;clear hb hbox hg;have aeh:=uC.out;have aei:=uB.out;obtain ⟨yx,yz,BR,BS,yA,yB,BU,BV⟩:=iC Pg.out;obtain ⟨yM,yN,Ca,Cb,Es,Et,Eu,MX,MZ,yO,yP,Cc,Ce,Ev,Ew,Ex,M0,M3⟩:=iI qh.out))
   go_ret
   exact ⟨lJ,gM⟩
 ·rw [if_neg c3] at H
  have Db:decide (0≤aU) = false:=decide_eq_false c3
  clear c3
  obtain rfl:=Option.some.inj H
  go_enter Try.func71,Try.ntmps71
  go_wp2_with (first|((with_reducible refine aA (N:=2) rfl ?_);refine az (by rfl) (N:=2) (by rfl) (cs:=#[.int .i64 aj,.int .i64 ak,.int .i64 ax,.int .i64 ay,.int .i64 aJ,.int .i64 aC,.int .i64 aG,.slice dH aN.length dD,.slice dG av.length dE]) (t:=25) gQ ?_;intro aeb hg w21 hbox hb;have qh:=ae.mk (hbox);have aec:=dn HB hg;have aed:=dn HB hg;replace HB:=dF HB hb;clear hb hbox hg)|((with_reducible refine aA (N:=3) rfl ?_);refine az (by rfl) (N:=3) (by rfl) (cs:=#[.int .i64 aU,.int .i64 aQ,.int .i64 aZ,.int .i64 bf]) (t:=31) gQ ?_;intro aee hg w22 hbox hb;have Pg:=ae.mk (hbox);have aef:=dn HB hg;have aeg:=dn HB hg;have uB:=iE qh hg;have uC:=iF qh hg;replace qh:=bC qh hb;replace HB:=dF HB hb;clear hb hbox hg;have YK:=uC.out;have YL:=uB.out;obtain ⟨wC,wD,yh,yj,wE,wF,yl,ym⟩:=iC Pg.out))
  go_ret
  exact ⟨lJ,gM⟩
end Go.Proofs.Ytmhaiihjfgfaoaa.Pr
end
section
namespace Go.Proofs.Ytmhaiihjfgfaoaa.Pr
open Go.RowKit Go.Proofs.YtmhaiihjfgfaoaaW.PrintWords Go.Proofs.YtmhaiihjfgfaoaaW.PrintLast Go.Proofs.YtmhaiihjfgfaoaaW.PrintMore
attribute [local go_sem] cz cB dK dL cK
set_option linter.unusedVariables false
set_option linter.unusedSimpArgs false
def iw.f (aj:Int) (ak:Int) (ax:Int) (ay:Int) (aJ:Int) (aC:Int) (aG:Int) (aN:List Bool) (av:List (nU)) (a1:Int) (a2:Int):Option (Bool):=if a1 ≥ 0 then (some (decide (a2≤(wrap64 (aJ*ay))))) else (some false)
set_option maxHeartbeats 8000000 in
set_option maxRecDepth 100000 in
theorem iw.calls (aj:Int) (ak:Int) (ax:Int) (ay:Int) (aJ:Int) (aC:Int) (aG:Int) (dH:Option Addr) (dD:Nat) (aN:List Bool) (dG:Option Addr) (dE:Nat) (av:List (nU)) (a1:Int) (a2:Int) (r:Bool) (w:World) (iW:Kd.C Kd.bool w dH aN.length aN) (iX:aN.length≤dD) (iY:Kd.C CY w dG av.length av) (iZ:av.length≤dE) (h:iw.f aj ak ax ay aJ aC aG aN av a1 a2 = some r):
 Calls Try.prog 72 #[.agg #[.int .i64 aj,.int .i64 ak,.int .i64 ax,.int .i64 ay,.int .i64 aJ,.int .i64 aC,.int .i64 aG,.slice dH aN.length dD,.slice dG av.length dE],.int .i64 a1,.int .i64 a2] w fun e w'=>e = .returned (.bool r)∧Below w.heap.size w w':=by
 have xE:=Try.underlying25
 have gq:=ae.mk iW
 have gG:=ae.mk iX
 clear iW iX
 have fF:=ae.mk iY
 have gH:=ae.mk iZ
 clear iY iZ
 have HB:=ae.mk (Below.refl w.heap.size w)
 have H:(if a1 ≥ 0 then (some (decide (a2≤(wrap64 (aJ*ay))))) else (some false)) = some r:=h
 clear h
 by_cases c4:a1 ≥ 0
 ·rw [if_pos c4] at H
  have rW:decide (0≤a1) = true:=decide_eq_true c4
  clear c4
  obtain rfl:=Option.some.inj H
  go_enter Try.func72,Try.ntmps72
  go_wp2_with (first|((with_reducible refine aA (N:=3) rfl ?_);refine az (by rfl) (N:=3) (by rfl) (cs:=#[.int .i64 aj,.int .i64 ak,.int .i64 ax,.int .i64 ay,.int .i64 aJ,.int .i64 aC,.int .i64 aG,.slice dH aN.length dD,.slice dG av.length dE]) (t:=25) gQ ?_;intro apB hg w5 hbox hb;have akQ:=ae.mk (hbox);have apC:=dn HB hg;have apD:=dn HB hg;replace HB:=dF HB hb;clear hb hbox hg;obtain ⟨amS,amT,amU,amV,amW,amX,amY,amZ,am0,am1,am2,am3,am4,am5,am6,am7,am8,am9⟩:=iI akQ.out))
  go_ret
  exact ⟨lJ,gM⟩
 ·rw [if_neg c4] at H
  have rW:decide (0≤a1) = false:=decide_eq_false c4
  clear c4
  obtain rfl:=Option.some.inj H
  go_enter Try.func72,Try.ntmps72
  go_wp2_with (first|((with_reducible refine aA (N:=3) rfl ?_);refine az (by rfl) (N:=3) (by rfl) (cs:=#[.int .i64 aj,.int .i64 ak,.int .i64 ax,.int .i64 ay,.int .i64 aJ,.int .i64 aC,.int .i64 aG,.slice dH aN.length dD,.slice dG av.length dE]) (t:=25) gQ ?_;intro apB hg w7 hbox hb;have akQ:=ae.mk (hbox);have apC:=dn HB hg;have apD:=dn HB hg;replace HB:=dF HB hb;clear hb hbox hg))
  go_ret
  exact ⟨lJ,gM⟩
end Go.Proofs.Ytmhaiihjfgfaoaa.Pr
end
