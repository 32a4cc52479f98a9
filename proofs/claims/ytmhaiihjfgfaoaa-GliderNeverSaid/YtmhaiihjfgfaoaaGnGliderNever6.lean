import Derived.Test.YtmhaiihjfgfaoaaGnGliderNever3
import Derived.Test.YtmhaiihjfgfaoaaGnGliderNever4
import Derived.Test.YtmhaiihjfgfaoaaGnGliderNever5
open Go.Value renaming int → Z
open Go.IntKind renaming i64 → ab
open Bool renaming true → ac, false → al
section
namespace Go.Proofs.Ytmhaiihjfgfaoaa.Pr
open Go.RowKit Go.Proofs.YtmhaiihjfgfaoaaW.PrintWords Go.Proofs.YtmhaiihjfgfaoaaW.PrintLast Go.Proofs.YtmhaiihjfgfaoaaW.PrintMore
attribute [local go_sem] dw dx dM dN dz
set_option linter.unusedVariables false
set_option linter.unusedSimpArgs false
def ek.f (k:Nat) (ax:Int) (av:Int) (aH:Int) (aG:Int) (aQ:Int) (aN:Int) (aM:Int) (bn:List Bool) (aW:List (qW)) (bq:Int) (bz:Int) (bY:Int) (bX:Int) (dB:Int) (dC:Int) (dD:Int) (dh:Int) (di:Int) (dm:Int) (dn:Int) (a3:Int):Option (Bool):=(dK.f ax av aH aG aQ aN aM bn aW).bind fun t125=>(if t125 = true then (some false) else ((aj.f k ax av aH aG aQ aN aM bn aW).bind fun t126=>(if t126 = 0 then ((bL.f bq bz bY bX dB dC dD).bind fun t127=>(if t127 = 0 then ((bZ.f dh di dm dn).bind fun t128=>(if t128 = true then (if a3 ≥ 0 then (some (decide (a3≤1073741824))) else (some false)) else (some false))) else (some false))) else (some false))))
set_option maxHeartbeats 8000000 in
set_option maxRecDepth 100000 in
theorem ek.calls (k:Nat) (ax:Int) (av:Int) (aH:Int) (aG:Int) (aQ:Int) (aN:Int) (aM:Int) (fJ:Option Addr) (fK:Nat) (bn:List Bool) (fU:Option Addr) (fM:Nat) (aW:List (qW)) (bq:Int) (bz:Int) (bY:Int) (bX:Int) (dB:Int) (dC:Int) (dD:Int) (dh:Int) (di:Int) (dm:Int) (dn:Int) (a3:Int) (r:Bool) (w:World) (nP:Kd.C Kd.bool w fJ bn.length bn) (nQ:bn.length≤fK) (nR:Kd.C Cm w fU aW.length aW) (nS:aW.length≤fM) (h:ek.f k ax av aH aG aQ aN aM bn aW bq bz bY bX dB dC dD dh di dm dn a3 = some r):
 Calls Try.prog 18 #[.agg #[Z ab ax,Z ab av,Z ab aH,Z ab aG,Z ab aQ,Z ab aN,Z ab aM,.slice fJ bn.length fK,.slice fU aW.length fM],.agg #[Z ab bq,Z ab bz,Z ab bY,Z ab bX,Z ab dB,Z ab dC,Z ab dD],.agg #[Z ab dh,Z ab di,Z ab dm,Z ab dn],Z ab a3] w fun e w'=>e = .returned (.bool r)∧Below w.heap.size w w':=by
 have Cn:=Try.underlying25
 have xX:=Try.underlying29
 have pG:=Try.underlying31
 have mi:=ag.mk nP
 have mo:=ag.mk nQ
 clear nP nQ
 have jH:=ag.mk nR
 have mq:=ag.mk nS
 clear nR nS
 have HB:=ag.mk (Below.refl w.heap.size w)
 have H:((dK.f ax av aH aG aQ aN aM bn aW).bind fun t125=>(if t125 = true then (some false) else ((aj.f k ax av aH aG aQ aN aM bn aW).bind fun t126=>(if t126 = 0 then ((bL.f bq bz bY bX dB dC dD).bind fun t127=>(if t127 = 0 then ((bZ.f dh di dm dn).bind fun t128=>(if t128 = true then (if a3 ≥ 0 then (some (decide (a3≤1073741824))) else (some false)) else (some false))) else (some false))) else (some false))))) = some r:=h
 clear h
 replace H:=Option.bind_eq_some_iff.mp H
 obtain ⟨t125,A50,H⟩:=H
 replace H:(if t125 = true then (some false) else ((aj.f k ax av aH aG aQ aN aM bn aW).bind fun t126=>(if t126 = 0 then ((bL.f bq bz bY bX dB dC dD).bind fun t127=>(if t127 = 0 then ((bZ.f dh di dm dn).bind fun t128=>(if t128 = true then (if a3 ≥ 0 then (some (decide (a3≤1073741824))) else (some false)) else (some false))) else (some false))) else (some false)))) = some r:=H
 have A5:=ag.mk A50
 clear A50
 by_cases c6:t125 = true
 ·subst c6
  have H1:(some false) = some r:=by rw [if_pos rfl] at H;exact H
  clear H
  have H:=H1
  clear H1
  obtain rfl:=Option.some.inj H
  go_enter Try.func18,Try.ntmps18
  go_wp2_with (first|((with_reducible refine aI (N:=4) rfl ?_);refine aC (by rfl) (N:=4) (by rfl) (cs:=#[Z ab ax,Z ab av,Z ab aH,Z ab aG,Z ab aQ,Z ab aN,Z ab aM,.slice fJ bn.length fK,.slice fU aW.length fM]) (t:=25) gu ?_;intro aaQ hg w7 hbox hb;have bO:=ag.mk (hbox);have aaR:=cB HB hg;have aaS:=cB HB hg;replace HB:=cK HB hb;clear hb hbox hg)|((with_reducible refine aI (N:=5) rfl ?_);refine aC (by rfl) (N:=5) (by rfl) (cs:=#[Z ab bq,Z ab bz,Z ab bY,Z ab bX,Z ab dB,Z ab dC,Z ab dD]) (t:=29) gu ?_;intro aaT hg w8 hbox hb;have dI:=ag.mk (hbox);have aaU:=cB HB hg;have aaV:=cB HB hg;have lV:=l6 bO hg;have lW:=l9 bO hg;replace bO:=bJ bO hb;replace HB:=cK HB hb;clear hb hbox hg)|((with_reducible refine aI (N:=6) rfl ?_);refine aC (by rfl) (N:=6) (by rfl) (cs:=#[Z ab dh,Z ab di,Z ab dm,Z ab dn]) (t:=31) gu ?_;intro aaW hg w9 hbox hb;have gJ:=ag.mk (hbox);have aaX:=cB HB hg;have aaY:=cB HB hg;have lX:=l6 bO hg;have lY:=l9 bO hg;have oV:=l6 dI hg;have oW:=l9 dI hg;replace bO:=bJ bO hb;replace dI:=bJ dI hb;replace HB:=cK HB hb;clear hb hbox hg;have ac9:=lV.out;have ada:=lW.out;have agK:=lX.out;have agL:=lY.out;obtain ⟨vK,vL,adb,ade,anc,ane,anf,ayK,ayL,vM,vN,adf,adg,ang,anh,ani,ayM,ayN⟩:=ji bO.out)|((with_reducible refine aR (f:=22) rfl ?_);refine bU (some 10) rfl rfl Try.func22 aT rfl #[.agg #[Z ab ax,Z ab av,Z ab aH,Z ab aG,Z ab aQ,Z ab aN,Z ab aM,.slice fJ bn.length fK,.slice fU aW.length fM]] rfl jQ ?_;(with_reducible refine (dK.calls ax av aH aG aQ aN aM _ _ bn _ _ aW true _ ?dP ?dQ ?fF ?fG A5.out).mono ?_);(case dP=>repeat (first|exact (Kd.bD mi.out HB.out)|(with_reducible refine Kd.bR ?_ _)|(with_reducible refine Kd.bS ?_ _)|(with_reducible refine Kd.dA ?_)));(case dQ=>exact mo.out);(case fF=>repeat (first|exact (Kd.bD jH.out HB.out)|(with_reducible refine Kd.bR ?_ _)|(with_reducible refine Kd.bS ?_ _)|(with_reducible refine Kd.dA ?_)));(case fG=>exact mq.out);rintro e Yq ⟨rfl,hb⟩;refine ⟨_,rfl,?_⟩;replace bO:=bJ bO hb;replace dI:=bJ dI hb;replace gJ:=bJ gJ hb;replace HB:=cK HB hb;(try clear hb);(try clear hb2);(try clear hk);(try clear hi)))
  go_ret
  exact ⟨mf,eZ⟩
 ·replace c6:=Bool.eq_false_iff.mpr c6
  subst c6
  have H1:((aj.f k ax av aH aG aQ aN aM bn aW).bind fun t126=>(if t126 = 0 then ((bL.f bq bz bY bX dB dC dD).bind fun t127=>(if t127 = 0 then ((bZ.f dh di dm dn).bind fun t128=>(if t128 = true then (if a3 ≥ 0 then (some (decide (a3≤1073741824))) else (some false)) else (some false))) else (some false))) else (some false))) = some r:=by rw [if_neg (show ¬ (false = true) by decide)] at H;exact H
  clear H
  have H:=H1
  clear H1
  replace H:=Option.bind_eq_some_iff.mp H
  obtain ⟨t126,akd,H⟩:=H
  replace H:(if t126 = 0 then ((bL.f bq bz bY bX dB dC dD).bind fun t127=>(if t127 = 0 then ((bZ.f dh di dm dn).bind fun t128=>(if t128 = true then (if a3 ≥ 0 then (some (decide (a3≤1073741824))) else (some false)) else (some false))) else (some false))) else (some false)) = some r:=H
  have A14:=ag.mk akd
  clear akd
  by_cases c15:t126 = 0
  ·rw [if_pos c15] at H
   have avG:(t126 == 0) = true:=beq_iff_eq.mpr c15
   have avH:(t126 != 0) = false:=bne_eq_false_iff_eq.mpr c15
   clear c15
   replace H:=Option.bind_eq_some_iff.mp H
   obtain ⟨t127,akf,H⟩:=H
   replace H:(if t127 = 0 then ((bZ.f dh di dm dn).bind fun t128=>(if t128 = true then (if a3 ≥ 0 then (some (decide (a3≤1073741824))) else (some false)) else (some false))) else (some false)) = some r:=H
   have A16:=ag.mk akf
   clear akf
   by_cases c17:t127 = 0
   ·rw [if_pos c17] at H
    have yA:(t127 == 0) = true:=beq_iff_eq.mpr c17
    have avI:(t127 != 0) = false:=bne_eq_false_iff_eq.mpr c17
    clear c17
    replace H:=Option.bind_eq_some_iff.mp H
    obtain ⟨t128,avJ,H⟩:=H
    replace H:(if t128 = true then (if a3 ≥ 0 then (some (decide (a3≤1073741824))) else (some false)) else (some false)) = some r:=H
    have A18:=ag.mk avJ
    clear avJ
    by_cases c19:t128 = true
    ·subst c19
     have H1:(if a3 ≥ 0 then (some (decide (a3≤1073741824))) else (some false)) = some r:=by rw [if_pos rfl] at H;exact H
     clear H
     have H:=H1
     clear H1
     by_cases c20:a3 ≥ 0
     ·rw [if_pos c20] at H
      have Ta:decide (0≤a3) = true:=decide_eq_true c20
      clear c20
      obtain rfl:=Option.some.inj H
      go_enter Try.func18,Try.ntmps18
      go_wp2_with (first|((with_reducible refine aI (N:=4) rfl ?_);refine aC (by rfl) (N:=4) (by rfl) (cs:=#[Z ab ax,Z ab av,Z ab aH,Z ab aG,Z ab aQ,Z ab aN,Z ab aM,.slice fJ bn.length fK,.slice fU aW.length fM]) (t:=25) gu ?_;intro aaQ hg w21 hbox hb;have bO:=ag.mk (hbox);have aaR:=cB HB hg;have aaS:=cB HB hg;replace HB:=cK HB hb;clear hb hbox hg)|((with_reducible refine aI (N:=5) rfl ?_);refine aC (by rfl) (N:=5) (by rfl) (cs:=#[Z ab bq,Z ab bz,Z ab bY,Z ab bX,Z ab dB,Z ab dC,Z ab dD]) (t:=29) gu ?_;intro aaT hg w22 hbox hb;have dI:=ag.mk (hbox);have aaU:=cB HB hg;have aaV:=cB HB hg;have lV:=l6 bO hg;have lW:=l9 bO hg;replace bO:=bJ bO hb;replace HB:=cK HB hb;clear hb hbox hg)|((with_reducible refine aI (N:=6) rfl ?_);refine aC (by rfl) (N:=6) (by rfl) (cs:=#[Z ab dh,Z ab di,Z ab dm,Z ab dn]) (t:=31) gu ?_;intro aaW hg w23 hbox hb;have gJ:=ag.mk (hbox);have aaX:=cB HB hg;have aaY:=cB HB hg;have lX:=l6 bO hg;have lY:=l9 bO hg;have oV:=l6 dI hg;have oW:=l9 dI hg;replace bO:=bJ bO hb;replace dI:=bJ dI hb;replace HB:=cK HB hb;clear hb hbox hg;have ahR:=lV.out;have ahS:=lW.out;have anJ:=lX.out;have anK:=lY.out;obtain ⟨wC,wD,Ai,Aj,DC,DD,DF,ayO,ayP,wE,wF,Ak,Al,DI,DJ,DK,ayQ,ayR⟩:=ji bO.out)|((with_reducible refine aR (f:=22) rfl ?_);refine bU (some 10) rfl rfl Try.func22 aT rfl #[.agg #[Z ab ax,Z ab av,Z ab aH,Z ab aG,Z ab aQ,Z ab aN,Z ab aM,.slice fJ bn.length fK,.slice fU aW.length fM]] rfl jQ ?_;(with_reducible refine (dK.calls ax av aH aG aQ aN aM _ _ bn _ _ aW false _ ?dP ?dQ ?fF ?fG A5.out).mono ?_);(case dP=>repeat (first|exact (Kd.bD mi.out HB.out)|(with_reducible refine Kd.bR ?_ _)|(with_reducible refine Kd.bS ?_ _)|(with_reducible refine Kd.dA ?_)));(case dQ=>exact mo.out);(case fF=>repeat (first|exact (Kd.bD jH.out HB.out)|(with_reducible refine Kd.bR ?_ _)|(with_reducible refine Kd.bS ?_ _)|(with_reducible refine Kd.dA ?_)));(case fG=>exact mq.out);rintro e w27 ⟨rfl,hb⟩;refine ⟨_,rfl,?_⟩;replace bO:=bJ bO hb;replace dI:=bJ dI hb;replace gJ:=bJ gJ hb;replace HB:=cK HB hb;(try clear hb);(try clear hb2);(try clear hk);(try clear hi);obtain ⟨L9,Ma,U6,U7,adU,adV,ayS,ayT,ayU,Mc,Md,U8,U9,adW,adX,ayV,ayW,ayX⟩:=ji bO.out)|(go_at_call 26;(with_reducible refine (aj.calls k ax av aH aG aQ aN aM _ _ bn _ _ aW t126 _ ?dP ?dQ ?fF ?fG A14.out).mono ?_);(case dP=>repeat (first|exact (Kd.bD mi.out HB.out)|(with_reducible refine Kd.bR ?_ _)|(with_reducible refine Kd.bS ?_ _)|(with_reducible refine Kd.dA ?_)));(case dQ=>exact mo.out);(case fF=>repeat (first|exact (Kd.bD jH.out HB.out)|(with_reducible refine Kd.bR ?_ _)|(with_reducible refine Kd.bS ?_ _)|(with_reducible refine Kd.dA ?_)));(case fG=>exact mq.out);rintro e w29 ⟨rfl,hb⟩;replace bO:=bJ bO hb;replace dI:=bJ dI hb;replace gJ:=bJ gJ hb;replace HB:=cK HB hb;(try clear hb);(try clear hb2);(try clear hk);(try clear hi);have avK:=oV.out;have avL:=oW.out;obtain ⟨afc,afd,afe,aff,afg,afh,afi,afj,afk,afl,afm,afn,afo,afp⟩:=iH dI.out)|(go_at_call 28;(with_reducible refine (bL.calls bq bz bY bX dB dC dD t127 _ A16.out).mono ?_);rintro e w32 ⟨rfl,hb⟩;replace bO:=bJ bO hb;replace dI:=bJ dI hb;replace gJ:=bJ gJ hb;replace HB:=cK HB hb;(try clear hb);(try clear hb2);(try clear hk);(try clear hi);obtain ⟨Mw,Mx,Vh,Vi,MB,MC,Vj,Vk⟩:=jr gJ.out)|(go_at_call 63;(with_reducible refine (bZ.calls dh di dm dn true _ A18.out).mono ?_);rintro e w34 ⟨rfl,hb⟩;replace bO:=bJ bO hb;replace dI:=bJ dI hb;replace gJ:=bJ gJ hb;replace HB:=cK HB hb;(try clear hb);(try clear hb2);(try clear hk);(try clear hi)))
      go_ret
      exact ⟨mf,eZ⟩
     ·rw [if_neg c20] at H
      have Ta:decide (0≤a3) = false:=decide_eq_false c20
      clear c20
      obtain rfl:=Option.some.inj H
      go_enter Try.func18,Try.ntmps18
      go_wp2_with (first|((with_reducible refine aI (N:=4) rfl ?_);refine aC (by rfl) (N:=4) (by rfl) (cs:=#[Z ab ax,Z ab av,Z ab aH,Z ab aG,Z ab aQ,Z ab aN,Z ab aM,.slice fJ bn.length fK,.slice fU aW.length fM]) (t:=25) gu ?_;intro aaQ hg w35 hbox hb;have bO:=ag.mk (hbox);have aaR:=cB HB hg;have aaS:=cB HB hg;replace HB:=cK HB hb;clear hb hbox hg)|((with_reducible refine aI (N:=5) rfl ?_);refine aC (by rfl) (N:=5) (by rfl) (cs:=#[Z ab bq,Z ab bz,Z ab bY,Z ab bX,Z ab dB,Z ab dC,Z ab dD]) (t:=29) gu ?_;intro aaT hg w36 hbox hb;have dI:=ag.mk (hbox);have aaU:=cB HB hg;have aaV:=cB HB hg;have lV:=l6 bO hg;have lW:=l9 bO hg;replace bO:=bJ bO hb;replace HB:=cK HB hb;clear hb hbox hg)|((with_reducible refine aI (N:=6) rfl ?_);refine aC (by rfl) (N:=6) (by rfl) (cs:=#[Z ab dh,Z ab di,Z ab dm,Z ab dn]) (t:=31) gu ?_;intro aaW hg w37 hbox hb;have gJ:=ag.mk (hbox);have aaX:=cB HB hg;have aaY:=cB HB hg;have lX:=l6 bO hg;have lY:=l9 bO hg;have oV:=l6 dI hg;have oW:=l9 dI hg;replace bO:=bJ bO hb;replace dI:=bJ dI hb;replace HB:=cK HB hb;clear hb hbox hg;have anT:=lV.out;have anU:=lW.out;have ahz:=lX.out;have ahA:=lY.out;obtain ⟨wJ,wK,Bz,BA,EA,EB,EC,ayY,ayZ,wL,wM,BC,BD,ED,EF,EG,ay0,ay1⟩:=ji bO.out)|((with_reducible refine aR (f:=22) rfl ?_);refine bU (some 10) rfl rfl Try.func22 aT rfl #[.agg #[Z ab ax,Z ab av,Z ab aH,Z ab aG,Z ab aQ,Z ab aN,Z ab aM,.slice fJ bn.length fK,.slice fU aW.length fM]] rfl jQ ?_;(with_reducible refine (dK.calls ax av aH aG aQ aN aM _ _ bn _ _ aW false _ ?dP ?dQ ?fF ?fG A5.out).mono ?_);(case dP=>repeat (first|exact (Kd.bD mi.out HB.out)|(with_reducible refine Kd.bR ?_ _)|(with_reducible refine Kd.bS ?_ _)|(with_reducible refine Kd.dA ?_)));(case dQ=>exact mo.out);(case fF=>repeat (first|exact (Kd.bD jH.out HB.out)|(with_reducible refine Kd.bR ?_ _)|(with_reducible refine Kd.bS ?_ _)|(with_reducible refine Kd.dA ?_)));(case fG=>exact mq.out);rintro e w41 ⟨rfl,hb⟩;refine ⟨_,rfl,?_⟩;replace bO:=bJ bO hb;replace dI:=bJ dI hb;replace gJ:=bJ gJ hb;replace HB:=cK HB hb;(try clear hb);(try clear hb2);(try clear hk);(try clear hi);obtain ⟨anj,ank,ay2,ay3,ay4,ay5,ay6,ay7,ay8,anl,anm,ay9,aza,azb,azc,azd,aze,azf⟩:=ji bO.out)|(go_at_call 26;(with_reducible refine (aj.calls k ax av aH aG aQ aN aM _ _ bn _ _ aW t126 _ ?dP ?dQ ?fF ?fG A14.out).mono ?_);(case dP=>repeat (first|exact (Kd.bD mi.out HB.out)|(with_reducible refine Kd.bR ?_ _)|(with_reducible refine Kd.bS ?_ _)|(with_reducible refine Kd.dA ?_)));(case dQ=>exact mo.out);(case fF=>repeat (first|exact (Kd.bD jH.out HB.out)|(with_reducible refine Kd.bR ?_ _)|(with_reducible refine Kd.bS ?_ _)|(with_reducible refine Kd.dA ?_)));(case fG=>exact mq.out);rintro e w43 ⟨rfl,hb⟩;replace bO:=bJ bO hb;replace dI:=bJ dI hb;replace gJ:=bJ gJ hb;replace HB:=cK HB hb;(try clear hb);(try clear hb2);(try clear hk);(try clear hi);have arQ:=oV.out;have arR:=oW.out;obtain ⟨ak8,ak9,azg,azh,azi,azj,azk,ala,alb,azl,azm,azn,azo,azp⟩:=iH dI.out)|(go_at_call 28;(with_reducible refine (bL.calls bq bz bY bX dB dC dD t127 _ A16.out).mono ?_);rintro e w46 ⟨rfl,hb⟩;replace bO:=bJ bO hb;replace dI:=bJ dI hb;replace gJ:=bJ gJ hb;replace HB:=cK HB hb;(try clear hb);(try clear hb2);(try clear hk);(try clear hi);obtain ⟨aeU,aeV,aeW,aeX,aeY,aeZ,ae0,ae1⟩:=jr gJ.out)|(go_at_call 63;(with_reducible refine (bZ.calls dh di dm dn true _ A18.out).mono ?_);rintro e w48 ⟨rfl,hb⟩;replace bO:=bJ bO hb;replace dI:=bJ dI hb;replace gJ:=bJ gJ hb;replace HB:=cK HB hb;(try clear hb);(try clear hb2);(try clear hk);(try clear hi)))
      go_ret
      exact ⟨mf,eZ⟩
    ·replace c19:=Bool.eq_false_iff.mpr c19
     subst c19
     have H1:(some false) = some r:=by rw [if_neg (show ¬ (false = true) by decide)] at H;exact H
     clear H
     have H:=H1
     clear H1
     obtain rfl:=Option.some.inj H
     go_enter Try.func18,Try.ntmps18
     go_wp2_with (first|((with_reducible refine aI (N:=4) rfl ?_);refine aC (by rfl) (N:=4) (by rfl) (cs:=#[Z ab ax,Z ab av,Z ab aH,Z ab aG,Z ab aQ,Z ab aN,Z ab aM,.slice fJ bn.length fK,.slice fU aW.length fM]) (t:=25) gu ?_;intro aaQ hg w49 hbox hb;have bO:=ag.mk (hbox);have aaR:=cB HB hg;have aaS:=cB HB hg;replace HB:=cK HB hb;clear hb hbox hg)|((with_reducible refine aI (N:=5) rfl ?_);refine aC (by rfl) (N:=5) (by rfl) (cs:=#[Z ab bq,Z ab bz,Z ab bY,Z ab bX,Z ab dB,Z ab dC,Z ab dD]) (t:=29) gu ?_;intro aaT hg w50 hbox hb;have dI:=ag.mk (hbox);have aaU:=cB HB hg;have aaV:=cB HB hg;have lV:=l6 bO hg;have lW:=l9 bO hg;replace bO:=bJ bO hb;replace HB:=cK HB hb;clear hb hbox hg)|((with_reducible refine aI (N:=6) rfl ?_);refine aC (by rfl) (N:=6) (by rfl) (cs:=#[Z ab dh,Z ab di,Z ab dm,Z ab dn]) (t:=31) gu ?_;intro aaW hg w51 hbox hb;have gJ:=ag.mk (hbox);have aaX:=cB HB hg;have aaY:=cB HB hg;have lX:=l6 bO hg;have lY:=l9 bO hg;have oV:=l6 dI hg;have oW:=l9 dI hg;replace bO:=bJ bO hb;replace dI:=bJ dI hb;replace HB:=cK HB hb;clear hb hbox hg;have as9:=lV.out;have ata:=lW.out;have aJn:=lX.out;have aJo:=lY.out;obtain ⟨amJ,amK,amL,amM,amN,amO,amP,amQ,amR,amS,amT,amU,amV,amW,amX,amY,amZ,am0⟩:=ji bO.out)|((with_reducible refine aR (f:=22) rfl ?_);refine bU (some 10) rfl rfl Try.func22 aT rfl #[.agg #[Z ab ax,Z ab av,Z ab aH,Z ab aG,Z ab aQ,Z ab aN,Z ab aM,.slice fJ bn.length fK,.slice fU aW.length fM]] rfl jQ ?_;(with_reducible refine (dK.calls ax av aH aG aQ aN aM _ _ bn _ _ aW false _ ?dP ?dQ ?fF ?fG A5.out).mono ?_);(case dP=>repeat (first|exact (Kd.bD mi.out HB.out)|(with_reducible refine Kd.bR ?_ _)|(with_reducible refine Kd.bS ?_ _)|(with_reducible refine Kd.dA ?_)));(case dQ=>exact mo.out);(case fF=>repeat (first|exact (Kd.bD jH.out HB.out)|(with_reducible refine Kd.bR ?_ _)|(with_reducible refine Kd.bS ?_ _)|(with_reducible refine Kd.dA ?_)));(case fG=>exact mq.out);rintro e w55 ⟨rfl,hb⟩;refine ⟨_,rfl,?_⟩;replace bO:=bJ bO hb;replace dI:=bJ dI hb;replace gJ:=bJ gJ hb;replace HB:=cK HB hb;(try clear hb);(try clear hb2);(try clear hk);(try clear hi);obtain ⟨IK,IL,IM,IP,azq,azr,azs,azt,azu,IQ,IU,IV,IW,azv,azw,azx,azy,azz⟩:=ji bO.out)|(go_at_call 26;(with_reducible refine (aj.calls k ax av aH aG aQ aN aM _ _ bn _ _ aW t126 _ ?dP ?dQ ?fF ?fG A14.out).mono ?_);(case dP=>repeat (first|exact (Kd.bD mi.out HB.out)|(with_reducible refine Kd.bR ?_ _)|(with_reducible refine Kd.bS ?_ _)|(with_reducible refine Kd.dA ?_)));(case dQ=>exact mo.out);(case fF=>repeat (first|exact (Kd.bD jH.out HB.out)|(with_reducible refine Kd.bR ?_ _)|(with_reducible refine Kd.bS ?_ _)|(with_reducible refine Kd.dA ?_)));(case fG=>exact mq.out);rintro e w57 ⟨rfl,hb⟩;replace bO:=bJ bO hb;replace dI:=bJ dI hb;replace gJ:=bJ gJ hb;replace HB:=cK HB hb;(try clear hb);(try clear hb2);(try clear hk);(try clear hi);have atb:=oV.out;have atc:=oW.out;obtain ⟨azA,azB,azC,azD,azE,azF,azG,azH,azI,azJ,azK,azL,azM,azN⟩:=iH dI.out)|(go_at_call 28;(with_reducible refine (bL.calls bq bz bY bX dB dC dD t127 _ A16.out).mono ?_);rintro e w60 ⟨rfl,hb⟩;replace bO:=bJ bO hb;replace dI:=bJ dI hb;replace gJ:=bJ gJ hb;replace HB:=cK HB hb;(try clear hb);(try clear hb2);(try clear hk);(try clear hi);obtain ⟨alg,alh,azO,azP,ali,alj,azQ,azR⟩:=jr gJ.out)|(go_at_call 63;(with_reducible refine (bZ.calls dh di dm dn false _ A18.out).mono ?_);rintro e w62 ⟨rfl,hb⟩;replace bO:=bJ bO hb;replace dI:=bJ dI hb;replace gJ:=bJ gJ hb;replace HB:=cK HB hb;(try clear hb);(try clear hb2);(try clear hk);(try clear hi)))
     go_ret
     exact ⟨mf,eZ⟩
   ·rw [if_neg c17] at H
    have yA:(t127 == 0) = false:=beq_eq_false_iff_ne.mpr c17
    have avI:(t127 != 0) = true:=bne_iff_ne.mpr c17
    obtain rfl:=Option.some.inj H
    go_enter Try.func18,Try.ntmps18
    go_wp2_with (first|((with_reducible refine aI (N:=4) rfl ?_);refine aC (by rfl) (N:=4) (by rfl) (cs:=#[Z ab ax,Z ab av,Z ab aH,Z ab aG,Z ab aQ,Z ab aN,Z ab aM,.slice fJ bn.length fK,.slice fU aW.length fM]) (t:=25) gu ?_;intro aaQ hg w63 hbox hb;have bO:=ag.mk (hbox);have aaR:=cB HB hg;have aaS:=cB HB hg;replace HB:=cK HB hb;clear hb hbox hg)|((with_reducible refine aI (N:=5) rfl ?_);refine aC (by rfl) (N:=5) (by rfl) (cs:=#[Z ab bq,Z ab bz,Z ab bY,Z ab bX,Z ab dB,Z ab dC,Z ab dD]) (t:=29) gu ?_;intro aaT hg w64 hbox hb;have dI:=ag.mk (hbox);have aaU:=cB HB hg;have aaV:=cB HB hg;have lV:=l6 bO hg;have lW:=l9 bO hg;replace bO:=bJ bO hb;replace HB:=cK HB hb;clear hb hbox hg)|((with_reducible refine aI (N:=6) rfl ?_);refine aC (by rfl) (N:=6) (by rfl) (cs:=#[Z ab dh,Z ab di,Z ab dm,Z ab dn]) (t:=31) gu ?_;intro aaW hg w65 hbox hb;have gJ:=ag.mk (hbox);have aaX:=cB HB hg;have aaY:=cB HB hg;have lX:=l6 bO hg;have lY:=l9 bO hg;have oV:=l6 dI hg;have oW:=l9 dI hg;replace bO:=bJ bO hb;replace dI:=bJ dI hb;replace HB:=cK HB hb;clear hb hbox hg;have aJp:=lV.out;have aJq:=lW.out;have atd:=lX.out;have ate:=lY.out;obtain ⟨azS,azT,azU,azV,azW,azX,azY,azZ,az0,az1,az2,az3,az4,az5,az6,az7,az8,az9⟩:=ji bO.out)|((with_reducible refine aR (f:=22) rfl ?_);refine bU (some 10) rfl rfl Try.func22 aT rfl #[.agg #[Z ab ax,Z ab av,Z ab aH,Z ab aG,Z ab aQ,Z ab aN,Z ab aM,.slice fJ bn.length fK,.slice fU aW.length fM]] rfl jQ ?_;(with_reducible refine (dK.calls ax av aH aG aQ aN aM _ _ bn _ _ aW false _ ?dP ?dQ ?fF ?fG A5.out).mono ?_);(case dP=>repeat (first|exact (Kd.bD mi.out HB.out)|(with_reducible refine Kd.bR ?_ _)|(with_reducible refine Kd.bS ?_ _)|(with_reducible refine Kd.dA ?_)));(case dQ=>exact mo.out);(case fF=>repeat (first|exact (Kd.bD jH.out HB.out)|(with_reducible refine Kd.bR ?_ _)|(with_reducible refine Kd.bS ?_ _)|(with_reducible refine Kd.dA ?_)));(case fG=>exact mq.out);rintro e w69 ⟨rfl,hb⟩;refine ⟨_,rfl,?_⟩;replace bO:=bJ bO hb;replace dI:=bJ dI hb;replace gJ:=bJ gJ hb;replace HB:=cK HB hb;(try clear hb);(try clear hb2);(try clear hk);(try clear hi);obtain ⟨aAa,aAb,aAc,aAd,aAe,aAf,aAg,aAh,aAi,aAj,aAk,aAl,aAm,aAn,aAo,aAp,aAq,aAr⟩:=ji bO.out)|(go_at_call 26;(with_reducible refine (aj.calls k ax av aH aG aQ aN aM _ _ bn _ _ aW t126 _ ?dP ?dQ ?fF ?fG A14.out).mono ?_);(case dP=>repeat (first|exact (Kd.bD mi.out HB.out)|(with_reducible refine Kd.bR ?_ _)|(with_reducible refine Kd.bS ?_ _)|(with_reducible refine Kd.dA ?_)));(case dQ=>exact mo.out);(case fF=>repeat (first|exact (Kd.bD jH.out HB.out)|(with_reducible refine Kd.bR ?_ _)|(with_reducible refine Kd.bS ?_ _)|(with_reducible refine Kd.dA ?_)));(case fG=>exact mq.out);rintro e w71 ⟨rfl,hb⟩;replace bO:=bJ bO hb;replace dI:=bJ dI hb;replace gJ:=bJ gJ hb;replace HB:=cK HB hb;(try clear hb);(try clear hb2);(try clear hk);(try clear hi);have aJr:=oV.out;have aJs:=oW.out;obtain ⟨aAs,aAt,aAu,aAv,aAw,aAx,aAy,aAz,aAA,aAB,aAC,aAD,aAE,aAF⟩:=iH dI.out)|(go_at_call 28;(with_reducible refine (bL.calls bq bz bY bX dB dC dD t127 _ A16.out).mono ?_);rintro e w74 ⟨rfl,hb⟩;replace bO:=bJ bO hb;replace dI:=bJ dI hb;replace gJ:=bJ gJ hb;replace HB:=cK HB hb;(try clear hb);(try clear hb2);(try clear hk);(try clear hi)))
    go_ret
    exact ⟨mf,eZ⟩
  ·rw [if_neg c15] at H
   have avG:(t126 == 0) = false:=beq_eq_false_iff_ne.mpr c15
   have avH:(t126 != 0) = true:=bne_iff_ne.mpr c15
   obtain rfl:=Option.some.inj H
   go_enter Try.func18,Try.ntmps18
   go_wp2_with (first|((with_reducible refine aI (N:=4) rfl ?_);refine aC (by rfl) (N:=4) (by rfl) (cs:=#[Z ab ax,Z ab av,Z ab aH,Z ab aG,Z ab aQ,Z ab aN,Z ab aM,.slice fJ bn.length fK,.slice fU aW.length fM]) (t:=25) gu ?_;intro aaQ hg w75 hbox hb;have bO:=ag.mk (hbox);have aaR:=cB HB hg;have aaS:=cB HB hg;replace HB:=cK HB hb;clear hb hbox hg)|((with_reducible refine aI (N:=5) rfl ?_);refine aC (by rfl) (N:=5) (by rfl) (cs:=#[Z ab bq,Z ab bz,Z ab bY,Z ab bX,Z ab dB,Z ab dC,Z ab dD]) (t:=29) gu ?_;intro aaT hg w76 hbox hb;have dI:=ag.mk (hbox);have aaU:=cB HB hg;have aaV:=cB HB hg;have lV:=l6 bO hg;have lW:=l9 bO hg;replace bO:=bJ bO hb;replace HB:=cK HB hb;clear hb hbox hg)|((with_reducible refine aI (N:=6) rfl ?_);refine aC (by rfl) (N:=6) (by rfl) (cs:=#[Z ab dh,Z ab di,Z ab dm,Z ab dn]) (t:=31) gu ?_;intro aaW hg w77 hbox hb;have gJ:=ag.mk (hbox);have aaX:=cB HB hg;have aaY:=cB HB hg;have lX:=l6 bO hg;have lY:=l9 bO hg;have oV:=l6 dI hg;have oW:=l9 dI hg;replace bO:=bJ bO hb;replace dI:=bJ dI hb;replace HB:=cK HB hb;clear hb hbox hg;have ath:=lV.out;have ati:=lW.out;have atj:=lX.out;have atl:=lY.out;obtain ⟨aAG,aAH,aAI,aAJ,aAK,aAL,aAM,aAN,aAO,aAP,aAQ,aAR,aAS,aAT,aAU,aAV,aAW,aAX⟩:=ji bO.out)|((with_reducible refine aR (f:=22) rfl ?_);refine bU (some 10) rfl rfl Try.func22 aT rfl #[.agg #[Z ab ax,Z ab av,Z ab aH,Z ab aG,Z ab aQ,Z ab aN,Z ab aM,.slice fJ bn.length fK,.slice fU aW.length fM]] rfl jQ ?_;(with_reducible refine (dK.calls ax av aH aG aQ aN aM _ _ bn _ _ aW false _ ?dP ?dQ ?fF ?fG A5.out).mono ?_);(case dP=>repeat (first|exact (Kd.bD mi.out HB.out)|(with_reducible refine Kd.bR ?_ _)|(with_reducible refine Kd.bS ?_ _)|(with_reducible refine Kd.dA ?_)));(case dQ=>exact mo.out);(case fF=>repeat (first|exact (Kd.bD jH.out HB.out)|(with_reducible refine Kd.bR ?_ _)|(with_reducible refine Kd.bS ?_ _)|(with_reducible refine Kd.dA ?_)));(case fG=>exact mq.out);rintro e w81 ⟨rfl,hb⟩;refine ⟨_,rfl,?_⟩;replace bO:=bJ bO hb;replace dI:=bJ dI hb;replace gJ:=bJ gJ hb;replace HB:=cK HB hb;(try clear hb);(try clear hb2);(try clear hk);(try clear hi);obtain ⟨aAY,aAZ,aA0,aA1,aA2,aA3,aA4,aA5,aA6,aA7,aA8,aA9,aBa,aBb,aBc,aBd,aBe,aBf⟩:=ji bO.out)|(go_at_call 26;(with_reducible refine (aj.calls k ax av aH aG aQ aN aM _ _ bn _ _ aW t126 _ ?dP ?dQ ?fF ?fG A14.out).mono ?_);(case dP=>repeat (first|exact (Kd.bD mi.out HB.out)|(with_reducible refine Kd.bR ?_ _)|(with_reducible refine Kd.bS ?_ _)|(with_reducible refine Kd.dA ?_)));(case dQ=>exact mo.out);(case fF=>repeat (first|exact (Kd.bD jH.out HB.out)|(with_reducible refine Kd.bR ?_ _)|(with_reducible refine Kd.bS ?_ _)|(with_reducible refine Kd.dA ?_)));(case fG=>exact mq.out);rintro e w83 ⟨rfl,hb⟩;replace bO:=bJ bO hb;replace dI:=bJ dI hb;replace gJ:=bJ gJ hb;replace HB:=cK HB hb;(try clear hb);(try clear hb2);(try clear hk);(try clear hi)))
   go_ret
   exact ⟨mf,eZ⟩
theorem ahs (d:Nat) (w:World) (x0 y0:Int) (x1 y1:Int):
 (Op.equalIn (d+2) 27 (.agg #[Z ab x0,Z ab x1]) (.agg #[Z ab y0,Z ab y1])).run Try.prog w = .ok (x0 == y0 && (x1 == y1)) w:=by
 refine ahF Try.underlying27 aT ?_
 refine YY (by rfl) (by go_simp;rfl) (by go_simp;rfl) (by go_simp) ?_
 exact YX (by rfl) (by go_simp;rfl) (by go_simp;rfl) (by go_simp)
theorem aro (d:Nat) (w:World) (x0 y0:Int) (x1 y1:Int) (x2 y2:Int) (x3 y3:Int):
 (Op.equalIn (d+3) 31 (.agg #[Z ab x0,Z ab x1,Z ab x2,Z ab x3]) (.agg #[Z ab y0,Z ab y1,Z ab y2,Z ab y3])).run Try.prog w = .ok ((x0 == y0 && (x1 == y1)) && ((x2 == y2 && (x3 == y3)))) w:=by
 refine ahF Try.underlying31 aT ?_
 refine YY (by rfl) (by go_simp) (by go_simp) (ahs (d+0) w _ _ _ _) ?_
 exact YX (by rfl) (by go_simp) (by go_simp) (ahs (d+0) w _ _ _ _)
def aV.f (a0:Int) (a1:Int) (a2:Int):Option (Bool):=if a0 ≥ a1 then (some (decide (a0≤a2))) else (some false)
set_option maxHeartbeats 8000000 in
set_option maxRecDepth 100000 in
theorem aV.calls (a0:Int) (a1:Int) (a2:Int) (r:Bool) (w:World) (h:aV.f a0 a1 a2 = some r):
 Calls Try.prog 74 #[Z ab a0,Z ab a1,Z ab a2] w fun e w'=>e = .returned (.bool r)∧uQ w w':=by
 have H:(if a0 ≥ a1 then (some (decide (a0≤a2))) else (some false)) = some r:=h
 clear h
 by_cases c4:a0 ≥ a1
 ·rw [if_pos c4] at H
  have xW:decide (a1≤a0) = true:=decide_eq_true c4
  clear c4
  obtain rfl:=Option.some.inj H
  go_enter Try.func74,Try.ntmps74
  go_wp2
  go_ret
  exact ⟨sG,zq4⟩
 ·rw [if_neg c4] at H
  have xW:decide (a1≤a0) = false:=decide_eq_false c4
  clear c4
  obtain rfl:=Option.some.inj H
  go_enter Try.func74,Try.ntmps74
  go_wp2
  go_ret
  exact ⟨sG,zq4⟩
def bA.l0:Nat→List (gm)→Int→Int→Option (Int)
 |0,_,_,_=>none
 |k+1,x5,x6,x7=>if x7 < x6 then (if 0≤x7 then (if x7 < (x5.length:Int) then (if ((lq x5 x7).f0) > ((lq x5 x7).f1) then (some 2) else (if ((lq x5 x7).f0) < (-1073741824) then (some 2) else (if ((lq x5 x7).f1) > 1073741824 then (some 2) else (bA.l0 k x5 x6 (wrap64 (x7+1)))))) else (none)) else (none)) else (some 0)
def bA.f (k:Nat) (l0:List (gm)):Option (Int):=bA.l0 k l0 (l0.length:Int) 0
theorem bA.Ru:∀ k,(∀ y0 y1 y2,jK (bA.l0 k y0 y1 y2) (bA.l0 (k+1) y0 y1 y2))
 |0=>fun _ _ _ r h=>by simp [bA.l0] at h
 |k+1=>by
  have ih0:=bA.Ru k
  ·intro y0 y1 y2
   unfold bA.l0
   repeat' first
   |(with_reducible exact ih0 _ _ _)
   |(with_reducible exact jK.refl _)
   |(with_reducible exact jK.none _)
   |(with_reducible refine jK.ite ?_ ?_)
   |(with_reducible refine jK.bind ?_ (fun _=>?_))
   |exact ih0 _ _ _
   |exact jK.none _
   |refine jK.ite ?_ ?_
   |refine jK.bind ?_ (fun _=>?_)
theorem bA.mono:∀ a0 k,jK (bA.f k a0) (bA.f (k+1) a0):=by
 intro a0 k
 have ih0:=bA.Ru k
 unfold bA.f
 repeat' first
  |(with_reducible exact ih0 _ _ _)
  |(with_reducible exact jK.refl _)
  |(with_reducible exact jK.none _)
  |(with_reducible refine jK.ite ?_ ?_)
  |(with_reducible refine jK.bind ?_ (fun _=>?_))
  |exact ih0 _ _ _
  |exact jK.none _
  |refine jK.ite ?_ ?_
  |refine jK.bind ?_ (fun _=>?_)
set_option maxHeartbeats 8000000 in
set_option maxRecDepth 100000 in
theorem bA.calls (k:Nat) (A0:Option Addr) (c0:Nat) (l0:List (gm)) (r:Int) (w:World) (hr0:Kd.C k27 w A0 l0.length l0) (hc0:l0.length≤c0) (h:bA.f k l0 = some r):
 Calls Try.prog 116 #[.slice A0 l0.length c0] w fun e w'=>e = .returned (Z ab r)∧Below w.heap.size w w':=by
 have mE:=Try.underlying27
 have HR0:=ag.mk hr0
 have HC0:=ag.mk hc0
 clear hr0 hc0
 have HB:=ag.mk (Below.refl w.heap.size w)
 have H:(bA.l0 k l0 (l0.length:Int) 0) = some r:=h
 clear h
 have H':=ag.mk H
 clear H
 go_enter Try.func116,Try.ntmps116
 go_wp2
 go_loopg [7] k (fun kq v7 w'=>∃ (oL:Int),v7 = Z ab oL∧ag (bA.l0 kq l0 (l0.length:Int) oL = some r)∧ag (kq≤k)∧ag (Below w.heap.size w w'))
 case atStart=>exact ⟨(0),sG,H',⟨Nat.le_refl _⟩,⟨eZ⟩⟩
 case round =>
  clear H'
  try clear c1
  obtain ⟨oL,rfl,HA,HK1,HB⟩:=hrel
  cases gk with
  |zero=>exact absurd HA.out (by simp [bA.l0])
  |succ k1 =>
   have H:=HA.out
   clear HA
   simp only [bA.l0] at H
   by_cases c2:oL < (l0.length:Int)
   ·rw [if_pos c2] at H
    have acQ:decide (oL < (l0.length:Int)) = true:=decide_eq_true c2
    clear c2
    by_cases c3:0≤oL
    ·rw [if_pos c3] at H
     have PY:decide (0≤oL) = true:=decide_eq_true c3
     clear c3
     by_cases c4:oL < (l0.length:Int)
     ·rw [if_pos c4] at H
      have xW:decide (oL < (l0.length:Int)) = true:=decide_eq_true c4
      clear c4
      by_cases c5:((lq l0 oL).f0) > ((lq l0 oL).f1)
      ·rw [if_pos c5] at H
       have Ls:decide (((lq l0 oL).f1) < ((lq l0 oL).f0)) = true:=decide_eq_true c5
       clear c5
       obtain rfl:=Option.some.inj H
       have FH:0≤(oL:Int):=of_decide_eq_true zx
       have FI:oL < (l0.length:Int):=of_decide_eq_true zx
       obtain ⟨akh,e129,mR,mU⟩:=Xp HR0.out oL FH FI
       cases e129
       replace mR:=(HB.out.cell (World.block_lt_of_cell? w _ mR)).trans mR
       replace mU:=(HB.out.cell (World.block_lt_of_cell? w _ mU)).trans mU
       replace FH:=eq_true FH
       replace FI:=eq_true FI
       go_wp2_with (first|((with_reducible refine aI (N:=4) rfl ?_);refine aC (by rfl) (N:=4) (by rfl) (cs:=#[Z ab 0,Z ab 0]) (t:=27) gu ?_;intro aki hg w6 hbox hb;have Rv:=ag.mk (hbox);have akj:=cB HB hg;have akk:=cB HB hg;replace HB:=cK HB hb;clear hb hbox hg;obtain ⟨Cs,Ct,Cu,Cv⟩:=iq Rv.out))
       go_ret
       exact ⟨mf,eZ⟩
      ·rw [if_neg c5] at H
       have Ls:decide (((lq l0 oL).f1) < ((lq l0 oL).f0)) = false:=decide_eq_false c5
       clear c5
       by_cases c8:((lq l0 oL).f0) < (-1073741824)
       ·rw [if_pos c8] at H
        have LF:decide (((lq l0 oL).f0) < (-1073741824)) = true:=decide_eq_true c8
        clear c8
        obtain rfl:=Option.some.inj H
        have FH:0≤(oL:Int):=of_decide_eq_true zx
        have FI:oL < (l0.length:Int):=of_decide_eq_true zx
        obtain ⟨akh,e129,mR,mU⟩:=Xp HR0.out oL FH FI
        cases e129
        replace mR:=(HB.out.cell (World.block_lt_of_cell? w _ mR)).trans mR
        replace mU:=(HB.out.cell (World.block_lt_of_cell? w _ mU)).trans mU
        replace FH:=eq_true FH
        replace FI:=eq_true FI
        go_wp2_with (first|((with_reducible refine aI (N:=4) rfl ?_);refine aC (by rfl) (N:=4) (by rfl) (cs:=#[Z ab 0,Z ab 0]) (t:=27) gu ?_;intro aki hg w9 hbox hb;have Rv:=ag.mk (hbox);have akj:=cB HB hg;have akk:=cB HB hg;replace HB:=cK HB hb;clear hb hbox hg;obtain ⟨DL,DN,DR,DT⟩:=iq Rv.out))
        go_ret
        exact ⟨mf,eZ⟩
       ·rw [if_neg c8] at H
        have LF:decide (((lq l0 oL).f0) < (-1073741824)) = false:=decide_eq_false c8
        clear c8
        by_cases c11:((lq l0 oL).f1) > 1073741824
        ·rw [if_pos c11] at H
         have PZ:decide (1073741824 < ((lq l0 oL).f1)) = true:=decide_eq_true c11
         clear c11
         obtain rfl:=Option.some.inj H
         have FH:0≤(oL:Int):=of_decide_eq_true zx
         have FI:oL < (l0.length:Int):=of_decide_eq_true zx
         obtain ⟨akh,e129,mR,mU⟩:=Xp HR0.out oL FH FI
         cases e129
         replace mR:=(HB.out.cell (World.block_lt_of_cell? w _ mR)).trans mR
         replace mU:=(HB.out.cell (World.block_lt_of_cell? w _ mU)).trans mU
         replace FH:=eq_true FH
         replace FI:=eq_true FI
         go_wp2_with (first|((with_reducible refine aI (N:=4) rfl ?_);refine aC (by rfl) (N:=4) (by rfl) (cs:=#[Z ab 0,Z ab 0]) (t:=27) gu ?_;intro aki hg F6 hbox hb;have Rv:=ag.mk (hbox);have akj:=cB HB hg;have akk:=cB HB hg;replace HB:=cK HB hb;clear hb hbox hg;obtain ⟨vS,vT,vU,vV⟩:=iq Rv.out))
         go_ret
         exact ⟨mf,eZ⟩
        ·rw [if_neg c11] at H
         have PZ:decide (1073741824 < ((lq l0 oL).f1)) = false:=decide_eq_false c11
         clear c11
         have H':=ag.mk H
         clear H
         have FH:0≤(oL:Int):=of_decide_eq_true zx
         have FI:oL < (l0.length:Int):=of_decide_eq_true zx
         obtain ⟨akh,e129,mR,mU⟩:=Xp HR0.out oL FH FI
         cases e129
         replace mR:=(HB.out.cell (World.block_lt_of_cell? w _ mR)).trans mR
         replace mU:=(HB.out.cell (World.block_lt_of_cell? w _ mU)).trans mU
         replace FH:=eq_true FH
         replace FI:=eq_true FI
         go_wp2_with (first|((with_reducible refine aI (N:=4) rfl ?_);refine aC (by rfl) (N:=4) (by rfl) (cs:=#[Z ab 0,Z ab 0]) (t:=27) gu ?_;intro aki hg w14 hbox hb;have Rv:=ag.mk (hbox);have akj:=cB HB hg;have akk:=cB HB hg;replace HB:=cK HB hb;clear hb hbox hg;obtain ⟨uA,uB,uC,uD⟩:=iq Rv.out))
         go_roundg k1
         case measure=>have:=HK1.out;omega
         case rel=>exact ⟨(wrap64 (oL+1)),sG,H',⟨YA⟩,⟨eZ⟩⟩
     ·rw [if_neg c4] at H
      exact absurd H (by simp)
    ·rw [if_neg c3] at H
     exact absurd H (by simp)
   ·rw [if_neg c2] at H
    have acQ:decide (oL < (l0.length:Int)) = false:=decide_eq_false c2
    clear c2
    obtain rfl:=Option.some.inj H
    go_wp2
    go_ret
    exact ⟨mf,eZ⟩
def fQ.f (k:Nat) (ax:Int) (av:Int):Option (Int):=(bA.f k (([(⟨ax,av⟩:gm)]:List (gm)))).bind fun t135=>(some t135)
theorem fQ.mono:∀ a0 a1 k,jK (fQ.f k a0 a1) (fQ.f (k+1) a0 a1):=by
 intro a0 a1 k
 unfold fQ.f
 repeat' first
  |(with_reducible exact bA.mono _ _)
  |(with_reducible exact jK.refl _)
  |(with_reducible exact jK.none _)
  |(with_reducible refine jK.ite ?_ ?_)
  |(with_reducible refine jK.bind ?_ (fun _=>?_))
  |exact bA.mono _ _
  |exact jK.none _
  |refine jK.ite ?_ ?_
  |refine jK.bind ?_ (fun _=>?_)
set_option maxHeartbeats 8000000 in
set_option maxRecDepth 100000 in
theorem fQ.calls (k:Nat) (ax:Int) (av:Int) (r:Int) (w:World) (h:fQ.f k ax av = some r):
 Calls Try.prog 122 #[.agg #[Z ab ax,Z ab av]] w fun e w'=>e = .returned (Z ab r)∧Below w.heap.size w w':=by
 have mE:=Try.underlying27
 have HB:=ag.mk (Below.refl w.heap.size w)
 have H:((bA.f k (([(⟨ax,av⟩:gm)]:List (gm)))).bind fun t135=>(some t135)) = some r:=h
 clear h
 obtain ⟨aqs,aaZ⟩:∃ y_:List (gm),y_ = (([(⟨ax,av⟩:gm)]:List (gm))):=⟨_,rfl⟩
 replace H:((bA.f k aqs).bind fun t135=>(some t135)) = some r:=by first|(rw [aaZ];with_reducible exact H)|(have TL:=(Option.bind_some _ _).symm.trans H;rw [aaZ];with_reducible exact TL)|(have TL:=(Option.bind_some _ _).symm.trans H;with_reducible exact TL)|with_reducible exact H|(rw [aaZ];exact H)|exact H
 have aoC:=ag.mk aaZ
 clear aaZ
 replace H:=Option.bind_eq_some_iff.mp H
 obtain ⟨t135,Yt,H⟩:=H
 replace H:(some t135) = some r:=H
 have A2:=ag.mk Yt
 clear Yt
 obtain rfl:=Option.some.inj H
 go_enter Try.func122,Try.ntmps122
 go_wp2_with (first|((with_reducible refine aI (N:=1) rfl ?_);refine aC (by rfl) (N:=1) (by rfl) (cs:=#[Z ab ax,Z ab av]) (t:=27) gu ?_;intro avM hg w3 hbox hb;have aa0:=ag.mk (hbox);have aJt:=cB HB hg;have aJu:=cB HB hg;replace HB:=cK HB hb;clear hb hbox hg;obtain ⟨acR,acS,acT,acU⟩:=iq aa0.out)|((with_reducible refine aI (N:=4) rfl ?_);refine Kd.FT k27 _ 27 (by rfl) (N:=4) (by rfl) (xs:=([(⟨ax,av⟩:gm)]:List (gm))) (inner:=[Z ab ax,Z ab av]) (ok:=fun _=>True) (okp:=fun _=>True) gu (by exact (oM.c2 (show Kd.M k27 _ _ _ (⟨ax,av⟩:gm) [Z ab ax,Z ab av] from (rY _ _ _ (⟨ax,av⟩:gm))) (oM.none _ _))) (fun _ hk=>hk) trivial (Below.refl _ _) (Nat.le_refl _) (by simp) ?_;intro aKX w5 ho6 hb Yv sF;clear Yv sF;(first|rw [← aoC.out] at ho6|(simp only [Int.reduceToNat] at ho6;rw [← aoC.out] at ho6));have aa1:=ag.mk (Kd.jS (Kd.uS ho6 (g:=avM) (o:=.cells #[Z ab ax,Z ab av] 27 (0,0)) iU) (gz eZ));replace aa0:=bJ aa0 hb;replace HB:=cK HB hb;clear hb ho6;obtain ⟨Ao7,co7,eo7⟩:=Kd.jT aa1.out;subst eo7)|((with_reducible refine aR (f:=116) rfl ?_);refine bU (some 5) rfl rfl Try.func116 aT rfl #[.slice Ao7 aqs.length co7] rfl jQ ?_;(with_reducible refine (bA.calls k _ _ aqs t135 _ ?dP ?dQ A2.out).mono ?_);(case dP=>repeat (first|exact (Kd.dO aa1.out).2.2|(with_reducible refine Kd.bR ?_ _)|(with_reducible refine Kd.bS ?_ _)|(with_reducible refine Kd.dA ?_)));(case dQ=>exact (Kd.dO aa1.out).2.1);rintro e w8 ⟨rfl,hb⟩;refine ⟨_,rfl,?_⟩;replace aa1:=xV aa1 hb;replace aa0:=bJ aa0 hb;replace HB:=cK HB hb;(try clear hb);(try clear hb2);(try clear hk);(try clear hi)))
 go_ret
 exact ⟨mf,eZ⟩
def aY.f (k:Nat) (ax:Int) (av:Int) (a1:Int) (a2:Int):Option (Bool):=(fQ.f k ax av).bind fun t137=>(if t137 = 0 then (if ax ≥ a1 then (some (decide (av≤a2))) else (some false)) else (some false))
theorem aY.mono:∀ a0 a1 a2 a3 k,jK (aY.f k a0 a1 a2 a3) (aY.f (k+1) a0 a1 a2 a3):=by
 intro a0 a1 a2 a3 k
 unfold aY.f
 repeat' first
  |(with_reducible exact fQ.mono _ _ _)
  |(with_reducible exact jK.refl _)
  |(with_reducible exact jK.none _)
  |(with_reducible refine jK.ite ?_ ?_)
  |(with_reducible refine jK.bind ?_ (fun _=>?_))
  |exact fQ.mono _ _ _
  |exact jK.none _
  |refine jK.ite ?_ ?_
  |refine jK.bind ?_ (fun _=>?_)
set_option maxHeartbeats 8000000 in
set_option maxRecDepth 100000 in
theorem aY.calls (k:Nat) (ax:Int) (av:Int) (a1:Int) (a2:Int) (r:Bool) (w:World) (h:aY.f k ax av a1 a2 = some r):
 Calls Try.prog 77 #[.agg #[Z ab ax,Z ab av],Z ab a1,Z ab a2] w fun e w'=>e = .returned (.bool r)∧Below w.heap.size w w':=by
 have mE:=Try.underlying27
 have HB:=ag.mk (Below.refl w.heap.size w)
 have H:((fQ.f k ax av).bind fun t137=>(if t137 = 0 then (if ax ≥ a1 then (some (decide (av≤a2))) else (some false)) else (some false))) = some r:=h
 clear h
 replace H:=Option.bind_eq_some_iff.mp H
 obtain ⟨t137,Sc,H⟩:=H
 replace H:(if t137 = 0 then (if ax ≥ a1 then (some (decide (av≤a2))) else (some false)) else (some false)) = some r:=H
 have A4:=ag.mk Sc
 clear Sc
 by_cases c5:t137 = 0
 ·rw [if_pos c5] at H
  have Ls:(t137 == 0) = true:=beq_iff_eq.mpr c5
  have ahj:(t137 != 0) = false:=bne_eq_false_iff_eq.mpr c5
  clear c5
  by_cases c6:ax ≥ a1
  ·rw [if_pos c6] at H
   have P5:decide (a1≤ax) = true:=decide_eq_true c6
   clear c6
   obtain rfl:=Option.some.inj H
   go_enter Try.func77,Try.ntmps77
   go_wp2_with (first|((with_reducible refine aI (N:=3) rfl ?_);refine aC (by rfl) (N:=3) (by rfl) (cs:=#[Z ab ax,Z ab av]) (t:=27) gu ?_;intro aoD hg w7 hbox hb;have zq:=ag.mk (hbox);have aoE:=cB HB hg;have aoF:=cB HB hg;replace HB:=cK HB hb;clear hb hbox hg;obtain ⟨ag7,ag8,ag9,aha⟩:=iq zq.out)|((with_reducible refine aR (f:=122) rfl ?_);refine bU (some 8) rfl rfl Try.func122 aT rfl #[.agg #[Z ab ax,Z ab av]] rfl jQ ?_;(with_reducible refine (fQ.calls k ax av t137 _ A4.out).mono ?_);rintro e w9 ⟨rfl,hb⟩;refine ⟨_,rfl,?_⟩;replace zq:=bJ zq hb;replace HB:=cK HB hb;(try clear hb);(try clear hb2);(try clear hk);(try clear hi);obtain ⟨DL,DN,DR,DT⟩:=iq zq.out))
   go_ret
   exact ⟨mf,eZ⟩
  ·rw [if_neg c6] at H
   have P5:decide (a1≤ax) = false:=decide_eq_false c6
   clear c6
   obtain rfl:=Option.some.inj H
   go_enter Try.func77,Try.ntmps77
   go_wp2_with (first|((with_reducible refine aI (N:=3) rfl ?_);refine aC (by rfl) (N:=3) (by rfl) (cs:=#[Z ab ax,Z ab av]) (t:=27) gu ?_;intro aoD hg w11 hbox hb;have zq:=ag.mk (hbox);have aoE:=cB HB hg;have aoF:=cB HB hg;replace HB:=cK HB hb;clear hb hbox hg;obtain ⟨vK,vL,vM,vN⟩:=iq zq.out)|((with_reducible refine aR (f:=122) rfl ?_);refine bU (some 8) rfl rfl Try.func122 aT rfl #[.agg #[Z ab ax,Z ab av]] rfl jQ ?_;(with_reducible refine (fQ.calls k ax av t137 _ A4.out).mono ?_);rintro e Yq ⟨rfl,hb⟩;refine ⟨_,rfl,?_⟩;replace zq:=bJ zq hb;replace HB:=cK HB hb;(try clear hb);(try clear hb2);(try clear hk);(try clear hi);obtain ⟨Dk,Dl,Dm,Dn⟩:=iq zq.out))
   go_ret
   exact ⟨mf,eZ⟩
 ·rw [if_neg c5] at H
  have Ls:(t137 == 0) = false:=beq_eq_false_iff_ne.mpr c5
  have ahj:(t137 != 0) = true:=bne_iff_ne.mpr c5
  obtain rfl:=Option.some.inj H
  go_enter Try.func77,Try.ntmps77
  go_wp2_with (first|((with_reducible refine aI (N:=3) rfl ?_);refine aC (by rfl) (N:=3) (by rfl) (cs:=#[Z ab ax,Z ab av]) (t:=27) gu ?_;intro aoD hg w15 hbox hb;have zq:=ag.mk (hbox);have aoE:=cB HB hg;have aoF:=cB HB hg;replace HB:=cK HB hb;clear hb hbox hg;obtain ⟨Xq,Xr,Xt,Xu⟩:=iq zq.out)|((with_reducible refine aR (f:=122) rfl ?_);refine bU (some 8) rfl rfl Try.func122 aT rfl #[.agg #[Z ab ax,Z ab av]] rfl jQ ?_;(with_reducible refine (fQ.calls k ax av t137 _ A4.out).mono ?_);rintro e w17 ⟨rfl,hb⟩;refine ⟨_,rfl,?_⟩;replace zq:=bJ zq hb;replace HB:=cK HB hb;(try clear hb);(try clear hb2);(try clear hk);(try clear hi)))
  go_ret
  exact ⟨mf,eZ⟩
end Go.Proofs.Ytmhaiihjfgfaoaa.Pr
end
