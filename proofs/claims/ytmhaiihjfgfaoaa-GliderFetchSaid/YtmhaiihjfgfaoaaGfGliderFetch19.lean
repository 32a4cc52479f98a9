import Derived.Test.YtmhaiihjfgfaoaaGfGliderFetch3
import Derived.Test.YtmhaiihjfgfaoaaGfGliderFetch6
set_option linter.unusedVariables false
set_option linter.unusedSimpArgs false
open Go.Value renaming int → U
open Go.IntKind renaming i64 → Z
open Bool renaming true → ab, false → ac
section
namespace Go.Proofs.Ytmhaiihjfgfaoaa.Pr
open Go.RowKit Go.Proofs.YtmhaiihjfgfaoaaW.PrintWords Go.Proofs.YtmhaiihjfgfaoaaW.PrintLast Go.Proofs.YtmhaiihjfgfaoaaW.PrintMore
attribute [local go_sem] gp gq iA iB gu
set_option linter.unusedVariables false
set_option linter.unusedSimpArgs false
def ic.f (ai:Int) (aj:Int) (aC:Int) (aD:Int) (aJ:Int) (aH:Int):Option (Bool):=(dB.f ai aj aC aD).bind fun aj7=>(if aj7 = true then (if aJ ≥ 0 then (if aJ≤aH then (some (decide (aH≤1073741824))) else (some false)) else (some false)) else (some false))
set_option maxHeartbeats 8000000 in
set_option maxRecDepth 100000 in
theorem ic.calls (ai:Int) (aj:Int) (aC:Int) (aD:Int) (aJ:Int) (aH:Int) (r:Bool) (w:World) (h:ic.f ai aj aC aD aJ aH = some r):
 Calls Try.prog 95 #[.agg #[U Z ai,U Z aj,U Z aC,U Z aD,U Z aJ,U Z aH]] w fun e w'=>e = .returned (.bool r)∧Below w.heap.size w w':=by
 have aed:=Try.underlying81
 have rO:=Try.underlying31
 have HB:=aa.mk (Below.refl w.heap.size w)
 have H:((dB.f ai aj aC aD).bind fun aj7=>(if aj7 = true then (if aJ ≥ 0 then (if aJ≤aH then (some (decide (aH≤1073741824))) else (some false)) else (some false)) else (some false))) = some r:=h
 clear h
 replace H:=Option.bind_eq_some_iff.mp H
 obtain ⟨aj7,VR,H⟩:=H
 replace H:(if aj7 = true then (if aJ ≥ 0 then (if aJ≤aH then (some (decide (aH≤1073741824))) else (some false)) else (some false)) else (some false)) = some r:=H
 have A2:=aa.mk VR
 clear VR
 by_cases c3:aj7 = true
 ·subst c3
  have H1:(if aJ ≥ 0 then (if aJ≤aH then (some (decide (aH≤1073741824))) else (some false)) else (some false)) = some r:=by rw [if_pos rfl] at H;exact H
  clear H
  have H:=H1
  clear H1
  by_cases c4:aJ ≥ 0
  ·rw [if_pos c4] at H
   have tN:decide (0≤aJ) = true:=decide_eq_true c4
   clear c4
   by_cases c5:aJ≤aH
   ·rw [if_pos c5] at H
    have DI:decide (aJ≤aH) = true:=decide_eq_true c5
    clear c5
    obtain rfl:=Option.some.inj H
    go_enter Try.func95,Try.ntmps95
    go_wp2_with (first|((with_reducible refine aA (N:=1) rfl ?_);refine au (by rfl) (N:=1) (by rfl) (cs:=#[U Z ai,U Z aj,U Z aC,U Z aD,U Z aJ,U Z aH]) (t:=81) fG ?_;intro amP hg w6 hbox hb;have zf:=aa.mk (hbox);have amQ:=bS HB hg;have amR:=bS HB hg;replace HB:=cO HB hb;clear hb hbox hg;obtain ⟨zA,zB,Fg,Fh,Hm,Ho,zC,zD,Fj,Fp,Hq,Hr⟩:=wT zf.out)|((with_reducible refine aQ (f:=63) rfl ?_);refine dn (some 5) rfl rfl Try.func63 aM rfl #[.agg #[U Z ai,U Z aj,U Z aC,U Z aD]] rfl ji ?_;(with_reducible refine (dB.calls ai aj aC aD true _ A2.out).mono ?_);rintro e w8 ⟨rfl,hb⟩;refine ⟨_,rfl,?_⟩;replace zf:=aX zf hb;replace HB:=cO HB hb;(try clear hb);(try clear hb2);(try clear hk);(try clear hi);obtain ⟨zu,zw,G8,G9,Pw,Px,zx,zy,Ha,Hd,Py,Pz⟩:=wT zf.out))
    go_ret
    exact ⟨lW,gL⟩
   ·rw [if_neg c5] at H
    have DI:decide (aJ≤aH) = false:=decide_eq_false c5
    clear c5
    obtain rfl:=Option.some.inj H
    go_enter Try.func95,Try.ntmps95
    go_wp2_with (first|((with_reducible refine aA (N:=1) rfl ?_);refine au (by rfl) (N:=1) (by rfl) (cs:=#[U Z ai,U Z aj,U Z aC,U Z aD,U Z aJ,U Z aH]) (t:=81) fG ?_;intro amP hg w10 hbox hb;have zf:=aa.mk (hbox);have amQ:=bS HB hg;have amR:=bS HB hg;replace HB:=cO HB hb;clear hb hbox hg;obtain ⟨uk,um,xJ,xK,Ci,Cj,uo,uq,xL,xM,Ck,Cm⟩:=wT zf.out)|((with_reducible refine aQ (f:=63) rfl ?_);refine dn (some 5) rfl rfl Try.func63 aM rfl #[.agg #[U Z ai,U Z aj,U Z aC,U Z aD]] rfl ji ?_;(with_reducible refine (dB.calls ai aj aC aD true _ A2.out).mono ?_);rintro e O3 ⟨rfl,hb⟩;refine ⟨_,rfl,?_⟩;replace zf:=aX zf hb;replace HB:=cO HB hb;(try clear hb);(try clear hb2);(try clear hk);(try clear hi);obtain ⟨ug,uh,Aw,Ay,Ht,Hu,ui,uj,Az,AA,Hw,Hy⟩:=wT zf.out))
    go_ret
    exact ⟨lW,gL⟩
  ·rw [if_neg c4] at H
   have tN:decide (0≤aJ) = false:=decide_eq_false c4
   clear c4
   obtain rfl:=Option.some.inj H
   go_enter Try.func95,Try.ntmps95
   go_wp2_with (first|((with_reducible refine aA (N:=1) rfl ?_);refine au (by rfl) (N:=1) (by rfl) (cs:=#[U Z ai,U Z aj,U Z aC,U Z aD,U Z aJ,U Z aH]) (t:=81) fG ?_;intro amP hg w14 hbox hb;have zf:=aa.mk (hbox);have amQ:=bS HB hg;have amR:=bS HB hg;replace HB:=cO HB hb;clear hb hbox hg;obtain ⟨oL,oM,sP,sQ,uC,uD,oN,oO,sS,sU,uE,uF⟩:=wT zf.out)|((with_reducible refine aQ (f:=63) rfl ?_);refine dn (some 5) rfl rfl Try.func63 aM rfl #[.agg #[U Z ai,U Z aj,U Z aC,U Z aD]] rfl ji ?_;(with_reducible refine (dB.calls ai aj aC aD true _ A2.out).mono ?_);rintro e w16 ⟨rfl,hb⟩;refine ⟨_,rfl,?_⟩;replace zf:=aX zf hb;replace HB:=cO HB hb;(try clear hb);(try clear hb2);(try clear hk);(try clear hi);obtain ⟨uy,uz,xY,xZ,Ei,Ej,uA,uB,yc,yf,El,Em⟩:=wT zf.out))
   go_ret
   exact ⟨lW,gL⟩
 ·replace c3:=Bool.eq_false_iff.mpr c3
  subst c3
  have H1:(some false) = some r:=by rw [if_neg (show ¬ (false = true) by decide)] at H;exact H
  clear H
  have H:=H1
  clear H1
  obtain rfl:=Option.some.inj H
  go_enter Try.func95,Try.ntmps95
  go_wp2_with (first|((with_reducible refine aA (N:=1) rfl ?_);refine au (by rfl) (N:=1) (by rfl) (cs:=#[U Z ai,U Z aj,U Z aC,U Z aD,U Z aJ,U Z aH]) (t:=81) fG ?_;intro amP hg w18 hbox hb;have zf:=aa.mk (hbox);have amQ:=bS HB hg;have amR:=bS HB hg;replace HB:=cO HB hb;clear hb hbox hg;obtain ⟨vU,vV,yg,yh,Cs,Ct,vW,vX,yj,yl,Cu,Cv⟩:=wT zf.out)|((with_reducible refine aQ (f:=63) rfl ?_);refine dn (some 5) rfl rfl Try.func63 aM rfl #[.agg #[U Z ai,U Z aj,U Z aC,U Z aD]] rfl ji ?_;(with_reducible refine (dB.calls ai aj aC aD false _ A2.out).mono ?_);rintro e I4 ⟨rfl,hb⟩;refine ⟨_,rfl,?_⟩;replace zf:=aX zf hb;replace HB:=cO HB hb;(try clear hb);(try clear hb2);(try clear hk);(try clear hi)))
  go_ret
  exact ⟨lW,gL⟩
def gW.f:Nat→Int→Int→Option (Int)
 |0,_,_=>none
 |k+1,a0,a1=>if a1 < 0 then ((gW.f k (wrap64 (-a0)) (wrap64 (-a1))).bind fun aj8=>(some aj8)) else (if a1 = 0 then (none) else (if (Int.tmod a0 a1) < 0 then (some (wrap64 ((wrap64 (Int.tdiv a0 a1)) - 1))) else (some (wrap64 (Int.tdiv a0 a1)))))
set_option maxHeartbeats 8000000 in
set_option maxRecDepth 100000 in
theorem gW.calls (k:Nat):∀ (a0:Int) (a1:Int) (r:Int) (w:World) (h:gW.f k a0 a1 = some r),
 Calls Try.prog 140 #[U Z a0,U Z a1] w fun e w'=>e = .returned (U Z r)∧vo w w':=by
 induction k using Nat.strongRecOn with
 |_ k ih =>
 intro a0 a1 r w h
 cases k with
 |zero=>exact absurd h (by simp [gW.f])
 |succ k =>
 simp only [gW.f] at h
 have H:(if a1 < 0 then ((gW.f k (wrap64 (-a0)) (wrap64 (-a1))).bind fun aj8=>(some aj8)) else (if a1 = 0 then (none) else (if (Int.tmod a0 a1) < 0 then (some (wrap64 ((wrap64 (Int.tdiv a0 a1)) - 1))) else (some (wrap64 (Int.tdiv a0 a1)))))) = some r:=h
 clear h
 by_cases c3:a1 < 0
 ·rw [if_pos c3] at H
  have Cc:decide (a1 < 0) = true:=decide_eq_true c3
  clear c3
  replace H:=Option.bind_eq_some_iff.mp H
  obtain ⟨aj8,M0,H⟩:=H
  replace H:(some aj8) = some r:=H
  have A4:=aa.mk M0
  clear M0
  obtain rfl:=Option.some.inj H
  go_enter Try.func140,Try.ntmps140
  go_wp2_with (first|((with_reducible refine aQ (f:=140) rfl ?_);refine dn (some 12) rfl rfl Try.func140 aM rfl #[U Z (wrap64 (-a0)),U Z (wrap64 (-a1))] rfl ji ?_;(with_reducible refine (ih k (by omega) (wrap64 (-a0)) (wrap64 (-a1)) aj8 _ A4.out).mono ?_);rintro e w' ⟨rfl,⟨nd,rfl⟩⟩;refine ⟨_,rfl,?_⟩))
  go_ret
  exact ⟨nM,Xo⟩
 ·rw [if_neg c3] at H
  have Cc:decide (a1 < 0) = false:=decide_eq_false c3
  clear c3
  by_cases c5:a1 = 0
  ·rw [if_pos c5] at H
   exact absurd H (by simp)
  ·rw [if_neg c5] at H
   have DI:(a1 == 0) = false:=beq_eq_false_iff_ne.mpr c5
   have aj4:(a1 != 0) = true:=bne_iff_ne.mpr c5
   by_cases c6:(Int.tmod a0 a1) < 0
   ·rw [if_pos c6] at H
    have GX:decide ((Int.tmod a0 a1) < 0) = true:=decide_eq_true c6
    clear c6
    obtain rfl:=Option.some.inj H
    go_enter Try.func140,Try.ntmps140
    go_wp2
    go_ret
    exact ⟨nM,Xo⟩
   ·rw [if_neg c6] at H
    have GX:decide ((Int.tmod a0 a1) < 0) = false:=decide_eq_false c6
    clear c6
    obtain rfl:=Option.some.inj H
    go_enter Try.func140,Try.ntmps140
    go_wp2
    go_ret
    exact ⟨nM,Xo⟩
def jG.f (k:Nat) (a0:Int) (a1:Int):Option (Int):=(gW.f k (wrap64 (-a0)) a1).bind fun aj9=>(some (wrap64 (-aj9)))
set_option maxHeartbeats 8000000 in
set_option maxRecDepth 100000 in
theorem jG.calls (k:Nat) (a0:Int) (a1:Int) (r:Int) (w:World) (h:jG.f k a0 a1 = some r):
 Calls Try.prog 139 #[U Z a0,U Z a1] w fun e w'=>e = .returned (U Z r)∧vo w w':=by
 have H:((gW.f k (wrap64 (-a0)) a1).bind fun aj9=>(some (wrap64 (-aj9)))) = some r:=h
 clear h
 replace H:=Option.bind_eq_some_iff.mp H
 obtain ⟨aj9,QH,H⟩:=H
 replace H:(some (wrap64 (-aj9))) = some r:=H
 have A3:=aa.mk QH
 clear QH
 obtain rfl:=Option.some.inj H
 go_enter Try.func139,Try.ntmps139
 go_wp2_with (first|((with_reducible refine aQ (f:=140) rfl ?_);refine dn (some 8) rfl rfl Try.func140 aM rfl #[U Z (wrap64 (-a0)),U Z a1] rfl ji ?_;(with_reducible refine (gW.calls k (wrap64 (-a0)) a1 aj9 _ A3.out).mono ?_);rintro e w' ⟨rfl,⟨nd,rfl⟩⟩;refine ⟨_,rfl,?_⟩))
 go_ret
 exact ⟨nM,Xo⟩
def fC.f (k:Nat) (ai:Int) (aj:Int) (aC:Int) (aD:Int) (aJ:Int) (aH:Int) (aK:Int) (aT:List Bool) (ak:List (rq)) (aI:Int) (aG:Int) (bn:Int) (bq:Int) (bH:Int) (bI:Int) (bG:Int) (bZ:Int) (cz:Int) (dw:Int) (dx:Int):Option (Int × Int × Int × Int):=(jG.f k (wrap64 ((wrap64 (aI+aK))*aG)) 1000).bind fun BL=>(some (wrap64 (bZ - BL),wrap64 (cz+BL),wrap64 (dw - BL),wrap64 (dx+BL)))
set_option maxHeartbeats 8000000 in
set_option maxRecDepth 100000 in
theorem fC.calls (k:Nat) (ai:Int) (aj:Int) (aC:Int) (aD:Int) (aJ:Int) (aH:Int) (aK:Int) (dW:Option Addr) (dN:Nat) (aT:List Bool) (dZ:Option Addr) (dO:Nat) (ak:List (rq)) (aI:Int) (aG:Int) (bn:Int) (bq:Int) (bH:Int) (bI:Int) (bG:Int) (bZ:Int) (cz:Int) (dw:Int) (dx:Int) (r1:Int) (r2:Int) (r3:Int) (r4:Int) (w:World) (jT:Kd.C Kd.bool w dW aT.length aT) (jU:aT.length≤dN) (jV:Kd.C GI w dZ ak.length ak) (jW:ak.length≤dO) (h:fC.f k ai aj aC aD aJ aH aK aT ak aI aG bn bq bH bI bG bZ cz dw dx = some (r1,r2,r3,r4)):
 Calls Try.prog 133 #[.agg #[U Z ai,U Z aj,U Z aC,U Z aD,U Z aJ,U Z aH,U Z aK,.slice dW aT.length dN,.slice dZ ak.length dO],.agg #[U Z aI,U Z aG,U Z bn,U Z bq,U Z bH,U Z bI,U Z bG],.agg #[U Z bZ,U Z cz,U Z dw,U Z dx]] w fun e w'=>e = .returned (.agg #[U Z r1,U Z r2,U Z r3,U Z r4])∧Below w.heap.size w w':=by
 have BV:=Try.underlying25
 have Br:=Try.underlying29
 have rO:=Try.underlying31
 have pz:=Try.underlying27
 have ik:=aa.mk jT
 have iC:=aa.mk jU
 clear jT jU
 have gN:=aa.mk jV
 have iD:=aa.mk jW
 clear jV jW
 have HB:=aa.mk (Below.refl w.heap.size w)
 have H:((jG.f k (wrap64 ((wrap64 (aI+aK))*aG)) 1000).bind fun BL=>(some (wrap64 (bZ - BL),wrap64 (cz+BL),wrap64 (dw - BL),wrap64 (dx+BL)))) = some (r1,r2,r3,r4):=h
 clear h
 replace H:=Option.bind_eq_some_iff.mp H
 obtain ⟨BL,M0,H⟩:=H
 replace H:(some (wrap64 (bZ - BL),wrap64 (cz+BL),wrap64 (dw - BL),wrap64 (dx+BL))) = some (r1,r2,r3,r4):=H
 have A4:=aa.mk M0
 clear M0
 simp only [Option.some.injEq,Prod.mk.injEq] at H
 obtain ⟨rfl,rfl,rfl,rfl⟩:=H
 go_enter Try.func133,Try.ntmps133
 go_wp2_with (first|((with_reducible refine aA (N:=3) rfl ?_);refine au (by rfl) (N:=3) (by rfl) (cs:=#[U Z ai,U Z aj,U Z aC,U Z aD,U Z aJ,U Z aH,U Z aK,.slice dW aT.length dN,.slice dZ ak.length dO]) (t:=25) fG ?_;intro aB9 hg w5 hbox hb;have Dx:=aa.mk (hbox);have a1V:=bS HB hg;have a1W:=bS HB hg;replace HB:=cO HB hb;clear hb hbox hg)|((with_reducible refine aA (N:=4) rfl ?_);refine au (by rfl) (N:=4) (by rfl) (cs:=#[U Z aI,U Z aG,U Z bn,U Z bq,U Z bH,U Z bI,U Z bG]) (t:=29) fG ?_;intro aCa hg w6 hbox hb;have Jr:=aa.mk (hbox);have a1X:=bS HB hg;have a1Y:=bS HB hg;have aka:=eQ Dx hg;have akb:=eT Dx hg;replace Dx:=aX Dx hb;replace HB:=cO HB hb;clear hb hbox hg)|((with_reducible refine aA (N:=5) rfl ?_);refine au (by rfl) (N:=5) (by rfl) (cs:=#[U Z bZ,U Z cz,U Z dw,U Z dx]) (t:=31) fG ?_;intro aCb hg w7 hbox hb;have Un:=aa.mk (hbox);have a1Z:=bS HB hg;have a10:=bS HB hg;have akc:=eQ Dx hg;have akd:=eT Dx hg;have ake:=eQ Jr hg;have akf:=eT Jr hg;replace Dx:=aX Dx hb;replace Jr:=aX Jr hb;replace HB:=cO HB hb;clear hb hbox hg)|((with_reducible refine aA (N:=6) rfl ?_);refine au (by rfl) (N:=6) (by rfl) (cs:=#[U Z 0,U Z 0,U Z 0,U Z 0]) (t:=31) fG ?_;intro aww hg w8 hbox hb;have afL:=aa.mk (hbox);have a11:=bS HB hg;have a13:=bS HB hg;have akg:=eQ Dx hg;have akh:=eT Dx hg;have aki:=eQ Jr hg;have akj:=eT Jr hg;have akk:=eQ Un hg;have akl:=eT Un hg;replace Dx:=aX Dx hb;replace Jr:=aX Jr hb;replace Un:=aX Un hb;replace HB:=cO HB hb;clear hb hbox hg;have aqJ:=akb.out;have aqK:=aka.out;have VL:=ake.out;have VM:=akf.out;have VN:=aki.out;have VO:=akj.out;obtain ⟨o6,o7,JD,JE,afM,afN,afO,o8,o9,JF,JG,afP,afQ,afR⟩:=jF Jr.out;have aaP:=akc.out;have aaQ:=akd.out;have afS:=akg.out;have afT:=akh.out;obtain ⟨oL,oM,sP,sQ,uC,uD,AV,Cw,Cx,oN,oO,sS,sU,uE,uF,AX,Cy,Cz⟩:=jA Dx.out)|((with_reducible refine aQ (f:=139) rfl ?_);refine dn (some 16) rfl rfl Try.func139 aM rfl #[U Z (wrap64 ((wrap64 (aI+aK))*aG)),U Z 1000] rfl ji ?_;(with_reducible refine (jG.calls k (wrap64 ((wrap64 (aI+aK))*aG)) 1000 BL _ A4.out).mono ?_);rintro e w' ⟨rfl,⟨nd,rfl⟩⟩;refine ⟨_,rfl,?_⟩;(try (rw [aee w8];generalize QZ:World.drewN w8 _ = w8;have vD:aa (w8.heap[aB9]? = some (.cells #[U Z ai,U Z aj,U Z aC,U Z aD,U Z aJ,U Z aH,U Z aK,.slice dW aT.length dN,.slice dZ ak.length dO] 25 (0,0))):=⟨by rw [← QZ];exact gB⟩;have vE:aa (w8.heap[aCa]? = some (.cells #[U Z aI,U Z aG,U Z bn,U Z bq,U Z bH,U Z bI,U Z bG] 29 (0,0))):=⟨by rw [← QZ];exact gB⟩;have vF:aa (w8.heap[aCb]? = some (.cells #[U Z bZ,U Z cz,U Z dw,U Z dx] 31 (0,0))):=⟨by rw [← QZ];exact gB⟩;have vG:aa (w8.heap[aww]? = some (.cells #[U Z 0,U Z 0,U Z 0,U Z 0] 31 (0,0))):=⟨by rw [← QZ];exact gB⟩;have vY:aa (Below w.heap.size w w8):=⟨by rw [← QZ];exact gL⟩;clear Dx Jr Un afL HB QZ;have Dx:=vD;have Jr:=vE;have Un:=vF;have afL:=vG;have HB:=vY;clear vD vE vF vG vY));have Na:=akk.out;have Nb:=akl.out;obtain ⟨uy,uz,xY,xZ,uA,uB,yc,yf⟩:=jc Un.out;obtain ⟨Ee,Ef,RD,RF,Eg,Eh,RG,RH⟩:=jc afL.out))
 refine bodyPost_ret (results_cell_row rfl _ _ aww 31 #[U Z (wrap64 (bZ - BL)),U Z (wrap64 (cz+BL)),U Z (wrap64 (dw - BL)),U Z (wrap64 (dx+BL))] (0,0) _ rfl (by (with_reducible repeat (first|refine av ?_ _|refine ag ?_|refine af ?_ _));refine aN (cs:=#[U Z (wrap64 (bZ - BL)),U Z (wrap64 (cz+BL)),U Z (wrap64 (dw - BL)),U Z 0]) ?_ 3 _ rfl;(with_reducible repeat (first|refine av ?_ _|refine ag ?_|refine af ?_ _));refine aN (cs:=#[U Z (wrap64 (bZ - BL)),U Z (wrap64 (cz+BL)),U Z 0,U Z 0]) ?_ 2 _ rfl;(with_reducible repeat (first|refine av ?_ _|refine ag ?_|refine af ?_ _));refine aN (cs:=#[U Z (wrap64 (bZ - BL)),U Z 0,U Z 0,U Z 0]) ?_ 1 _ rfl;(with_reducible repeat (first|refine av ?_ _|refine ag ?_|refine af ?_ _));refine aN (cs:=#[U Z 0,U Z 0,U Z 0,U Z 0]) ?_ 0 _ rfl;(with_reducible repeat (first|refine av ?_ _|refine ag ?_|refine af ?_ _));exact afL.out) Try.underlying31 rfl aM) rfl ?_
 exact ⟨lW,gL⟩
def ko.f (ai:Int) (aj:Int) (aC:Int) (aD:Int) (aJ:Int) (aH:Int) (aK:Int) (aT:List Bool) (ak:List (rq)) (aI:Int) (aG:Int) (bn:Int) (bq:Int):Option (Bool):=if aI ≥ 0 then (if aG≤(wrap64 (ai*aC)) then (if bn ≥ 0 then (some (decide (bq≤(wrap64 (aj*aC))))) else (some false)) else (some false)) else (some false)
set_option maxHeartbeats 8000000 in
set_option maxRecDepth 100000 in
theorem ko.calls (ai:Int) (aj:Int) (aC:Int) (aD:Int) (aJ:Int) (aH:Int) (aK:Int) (dW:Option Addr) (dN:Nat) (aT:List Bool) (dZ:Option Addr) (dO:Nat) (ak:List (rq)) (aI:Int) (aG:Int) (bn:Int) (bq:Int) (r:Bool) (w:World) (jT:Kd.C Kd.bool w dW aT.length aT) (jU:aT.length≤dN) (jV:Kd.C GI w dZ ak.length ak) (jW:ak.length≤dO) (h:ko.f ai aj aC aD aJ aH aK aT ak aI aG bn bq = some r):
 Calls Try.prog 71 #[.agg #[U Z ai,U Z aj,U Z aC,U Z aD,U Z aJ,U Z aH,U Z aK,.slice dW aT.length dN,.slice dZ ak.length dO],.agg #[U Z aI,U Z aG,U Z bn,U Z bq]] w fun e w'=>e = .returned (.bool r)∧Below w.heap.size w w':=by
 have BV:=Try.underlying25
 have rO:=Try.underlying31
 have ik:=aa.mk jT
 have iC:=aa.mk jU
 clear jT jU
 have gN:=aa.mk jV
 have iD:=aa.mk jW
 clear jV jW
 have HB:=aa.mk (Below.refl w.heap.size w)
 have H:(if aI ≥ 0 then (if aG≤(wrap64 (ai*aC)) then (if bn ≥ 0 then (some (decide (bq≤(wrap64 (aj*aC))))) else (some false)) else (some false)) else (some false)) = some r:=h
 clear h
 by_cases c3:aI ≥ 0
 ·rw [if_pos c3] at H
  have Cc:decide (0≤aI) = true:=decide_eq_true c3
  clear c3
  by_cases c4:aG≤(wrap64 (ai*aC))
  ·rw [if_pos c4] at H
   have tN:decide (aG≤(wrap64 (ai*aC))) = true:=decide_eq_true c4
   clear c4
   by_cases c5:bn ≥ 0
   ·rw [if_pos c5] at H
    have DI:decide (0≤bn) = true:=decide_eq_true c5
    clear c5
    obtain rfl:=Option.some.inj H
    go_enter Try.func71,Try.ntmps71
    go_wp2_with (first|((with_reducible refine aA (N:=2) rfl ?_);refine au (by rfl) (N:=2) (by rfl) (cs:=#[U Z ai,U Z aj,U Z aC,U Z aD,U Z aJ,U Z aH,U Z aK,.slice dW aT.length dN,.slice dZ ak.length dO]) (t:=25) fG ?_;intro amS hg w6 hbox hb;have vg:=aa.mk (hbox);have amT:=bS HB hg;have amU:=bS HB hg;replace HB:=cO HB hb;clear hb hbox hg)|((with_reducible refine aA (N:=3) rfl ?_);refine au (by rfl) (N:=3) (by rfl) (cs:=#[U Z aI,U Z aG,U Z bn,U Z bq]) (t:=31) fG ?_;intro amV hg w7 hbox hb;have Uo:=aa.mk (hbox);have amW:=bS HB hg;have amX:=bS HB hg;have zF:=eQ vg hg;have zG:=eT vg hg;replace vg:=aX vg hb;replace HB:=cO HB hb;clear hb hbox hg;have abB:=zG.out;have abC:=zF.out;obtain ⟨zu,zw,G8,G9,zx,zy,Ha,Hd⟩:=jc Uo.out;obtain ⟨sV,sW,JQ,JR,Xz,XA,XB,afU,afV,sZ,tq,JS,JU,XC,XD,XE,afW,afX⟩:=jA vg.out))
    go_ret
    exact ⟨lW,gL⟩
   ·rw [if_neg c5] at H
    have DI:decide (0≤bn) = false:=decide_eq_false c5
    clear c5
    obtain rfl:=Option.some.inj H
    go_enter Try.func71,Try.ntmps71
    go_wp2_with (first|((with_reducible refine aA (N:=2) rfl ?_);refine au (by rfl) (N:=2) (by rfl) (cs:=#[U Z ai,U Z aj,U Z aC,U Z aD,U Z aJ,U Z aH,U Z aK,.slice dW aT.length dN,.slice dZ ak.length dO]) (t:=25) fG ?_;intro amS hg w11 hbox hb;have vg:=aa.mk (hbox);have amT:=bS HB hg;have amU:=bS HB hg;replace HB:=cO HB hb;clear hb hbox hg)|((with_reducible refine aA (N:=3) rfl ?_);refine au (by rfl) (N:=3) (by rfl) (cs:=#[U Z aI,U Z aG,U Z bn,U Z bq]) (t:=31) fG ?_;intro amV hg O3 hbox hb;have Uo:=aa.mk (hbox);have amW:=bS HB hg;have amX:=bS HB hg;have zF:=eQ vg hg;have zG:=eT vg hg;replace vg:=aX vg hb;replace HB:=cO HB hb;clear hb hbox hg;have aaP:=zG.out;have aaQ:=zF.out;obtain ⟨Aq,Ar,GL,GM,Au,Av,GN,GQ⟩:=jc Uo.out;obtain ⟨oL,oM,sP,sQ,uC,uD,AV,Cw,Cx,oN,oO,sS,sU,uE,uF,AX,Cy,Cz⟩:=jA vg.out))
    go_ret
    exact ⟨lW,gL⟩
  ·rw [if_neg c4] at H
   have tN:decide (aG≤(wrap64 (ai*aC))) = false:=decide_eq_false c4
   clear c4
   obtain rfl:=Option.some.inj H
   go_enter Try.func71,Try.ntmps71
   go_wp2_with (first|((with_reducible refine aA (N:=2) rfl ?_);refine au (by rfl) (N:=2) (by rfl) (cs:=#[U Z ai,U Z aj,U Z aC,U Z aD,U Z aJ,U Z aH,U Z aK,.slice dW aT.length dN,.slice dZ ak.length dO]) (t:=25) fG ?_;intro amS hg w16 hbox hb;have vg:=aa.mk (hbox);have amT:=bS HB hg;have amU:=bS HB hg;replace HB:=cO HB hb;clear hb hbox hg)|((with_reducible refine aA (N:=3) rfl ?_);refine au (by rfl) (N:=3) (by rfl) (cs:=#[U Z aI,U Z aG,U Z bn,U Z bq]) (t:=31) fG ?_;intro amV hg Fb hbox hb;have Uo:=aa.mk (hbox);have amW:=bS HB hg;have amX:=bS HB hg;have zF:=eQ vg hg;have zG:=eT vg hg;replace vg:=aX vg hb;replace HB:=cO HB hb;clear hb hbox hg;have abF:=zG.out;have abG:=zF.out;obtain ⟨vU,vV,yg,yh,vW,vX,yj,yl⟩:=jc Uo.out;obtain ⟨wu,wy,AP,AQ,Cn,Co,G6,RI,RJ,wz,wB,AR,AU,Cq,Cr,G7,RL,RN⟩:=jA vg.out))
   go_ret
   exact ⟨lW,gL⟩
 ·rw [if_neg c3] at H
  have Cc:decide (0≤aI) = false:=decide_eq_false c3
  clear c3
  obtain rfl:=Option.some.inj H
  go_enter Try.func71,Try.ntmps71
  go_wp2_with (first|((with_reducible refine aA (N:=2) rfl ?_);refine au (by rfl) (N:=2) (by rfl) (cs:=#[U Z ai,U Z aj,U Z aC,U Z aD,U Z aJ,U Z aH,U Z aK,.slice dW aT.length dN,.slice dZ ak.length dO]) (t:=25) fG ?_;intro amS hg w21 hbox hb;have vg:=aa.mk (hbox);have amT:=bS HB hg;have amU:=bS HB hg;replace HB:=cO HB hb;clear hb hbox hg)|((with_reducible refine aA (N:=3) rfl ?_);refine au (by rfl) (N:=3) (by rfl) (cs:=#[U Z aI,U Z aG,U Z bn,U Z bq]) (t:=31) fG ?_;intro amV hg w22 hbox hb;have Uo:=aa.mk (hbox);have amW:=bS HB hg;have amX:=bS HB hg;have zF:=eQ vg hg;have zG:=eT vg hg;replace vg:=aX vg hb;replace HB:=cO HB hb;clear hb hbox hg;have Uq:=zG.out;have Ur:=zF.out;obtain ⟨rC,rD,xE,xG,rE,rF,xH,xI⟩:=jc Uo.out))
  go_ret
  exact ⟨lW,gL⟩
def jB.f (ai:Int) (aj:Int) (aC:Int) (aD:Int) (aJ:Int) (aH:Int) (aK:Int) (aT:List Bool) (ak:List (rq)) (a1:Int) (a2:Int):Option (Bool):=if a1 ≥ 0 then (some (decide (a2≤(wrap64 (aJ*aD))))) else (some false)
set_option maxHeartbeats 8000000 in
set_option maxRecDepth 100000 in
theorem jB.calls (ai:Int) (aj:Int) (aC:Int) (aD:Int) (aJ:Int) (aH:Int) (aK:Int) (dW:Option Addr) (dN:Nat) (aT:List Bool) (dZ:Option Addr) (dO:Nat) (ak:List (rq)) (a1:Int) (a2:Int) (r:Bool) (w:World) (jT:Kd.C Kd.bool w dW aT.length aT) (jU:aT.length≤dN) (jV:Kd.C GI w dZ ak.length ak) (jW:ak.length≤dO) (h:jB.f ai aj aC aD aJ aH aK aT ak a1 a2 = some r):
 Calls Try.prog 72 #[.agg #[U Z ai,U Z aj,U Z aC,U Z aD,U Z aJ,U Z aH,U Z aK,.slice dW aT.length dN,.slice dZ ak.length dO],U Z a1,U Z a2] w fun e w'=>e = .returned (.bool r)∧Below w.heap.size w w':=by
 have BV:=Try.underlying25
 have ik:=aa.mk jT
 have iC:=aa.mk jU
 clear jT jU
 have gN:=aa.mk jV
 have iD:=aa.mk jW
 clear jV jW
 have HB:=aa.mk (Below.refl w.heap.size w)
 have H:(if a1 ≥ 0 then (some (decide (a2≤(wrap64 (aJ*aD))))) else (some false)) = some r:=h
 clear h
 by_cases c4:a1 ≥ 0
 ·rw [if_pos c4] at H
  have tN:decide (0≤a1) = true:=decide_eq_true c4
  clear c4
  obtain rfl:=Option.some.inj H
  go_enter Try.func72,Try.ntmps72
  go_wp2_with (first|((with_reducible refine aA (N:=3) rfl ?_);refine au (by rfl) (N:=3) (by rfl) (cs:=#[U Z ai,U Z aj,U Z aC,U Z aD,U Z aJ,U Z aH,U Z aK,.slice dW aT.length dN,.slice dZ ak.length dO]) (t:=25) fG ?_;intro aCc hg w5 hbox hb;have awx:=aa.mk (hbox);have aCd:=bS HB hg;have aCe:=bS HB hg;replace HB:=cO HB hb;clear hb hbox hg;obtain ⟨ayW,ayX,ayY,ayZ,ay0,ay1,ay2,ay3,ay4,ay5,ay6,ay7,ay8,ay9,aza,azb,azc,azd⟩:=jA awx.out))
  go_ret
  exact ⟨lW,gL⟩
 ·rw [if_neg c4] at H
  have tN:decide (0≤a1) = false:=decide_eq_false c4
  clear c4
  obtain rfl:=Option.some.inj H
  go_enter Try.func72,Try.ntmps72
  go_wp2_with (first|((with_reducible refine aA (N:=3) rfl ?_);refine au (by rfl) (N:=3) (by rfl) (cs:=#[U Z ai,U Z aj,U Z aC,U Z aD,U Z aJ,U Z aH,U Z aK,.slice dW aT.length dN,.slice dZ ak.length dO]) (t:=25) fG ?_;intro aCc hg w7 hbox hb;have awx:=aa.mk (hbox);have aCd:=bS HB hg;have aCe:=bS HB hg;replace HB:=cO HB hb;clear hb hbox hg))
  go_ret
  exact ⟨lW,gL⟩
end Go.Proofs.Ytmhaiihjfgfaoaa.Pr
end
