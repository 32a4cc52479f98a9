import Derived.Test.YtmhaiihjfgfaoaaGfGliderFetch3
import Derived.Test.YtmhaiihjfgfaoaaGfGliderFetch5
import Derived.Test.YtmhaiihjfgfaoaaGfGliderFetch6
set_option linter.unusedVariables false
set_option linter.unusedSimpArgs false
open Go.Value renaming int → U
open Go.IntKind renaming i64 → Z
open Bool renaming true → ab, false → ac
section
namespace Go.Proofs.Ytmhaiihjfgfaoaa.Pr
open Go.RowKit Go.Proofs.YtmhaiihjfgfaoaaW.PrintWords Go.Proofs.YtmhaiihjfgfaoaaW.PrintLast Go.Proofs.YtmhaiihjfgfaoaaW.PrintMore
attribute [local go_sem] gp gq iA iB gu
set_option linter.unusedVariables false
set_option linter.unusedSimpArgs false
def lG.f (k:Nat) (ai:Int) (aj:Int) (aC:Int) (aD:Int) (aJ:Int) (aH:Int) (aK:Int) (aT:List Bool) (ak:List (rq)) (aI:Int) (aG:Int) (bn:Int) (bq:Int) (bH:Int) (bI:Int) (bG:Int) (bZ:Int) (cz:Int) (dw:Int) (dx:Int) (a3:Int):Option (Bool):=(iW.f ai aj aC aD aJ aH aK aT ak).bind fun t125=>(if t125 = true then (some false) else ((az.f k ai aj aC aD aJ aH aK aT ak).bind fun t126=>(if t126 = 0 then ((dP.f aI aG bn bq bH bI bG).bind fun t127=>(if t127 = 0 then ((dB.f bZ cz dw dx).bind fun t128=>(if t128 = true then (if a3 ≥ 0 then (some (decide (a3≤1073741824))) else (some false)) else (some false))) else (some false))) else (some false))))
set_option maxHeartbeats 8000000 in
set_option maxRecDepth 100000 in
theorem lG.calls (k:Nat) (ai:Int) (aj:Int) (aC:Int) (aD:Int) (aJ:Int) (aH:Int) (aK:Int) (dW:Option Addr) (dN:Nat) (aT:List Bool) (dZ:Option Addr) (dO:Nat) (ak:List (rq)) (aI:Int) (aG:Int) (bn:Int) (bq:Int) (bH:Int) (bI:Int) (bG:Int) (bZ:Int) (cz:Int) (dw:Int) (dx:Int) (a3:Int) (r:Bool) (w:World) (jT:Kd.C Kd.bool w dW aT.length aT) (jU:aT.length≤dN) (jV:Kd.C GI w dZ ak.length ak) (jW:ak.length≤dO) (h:lG.f k ai aj aC aD aJ aH aK aT ak aI aG bn bq bH bI bG bZ cz dw dx a3 = some r):
 Calls Try.prog 18 #[.agg #[U Z ai,U Z aj,U Z aC,U Z aD,U Z aJ,U Z aH,U Z aK,.slice dW aT.length dN,.slice dZ ak.length dO],.agg #[U Z aI,U Z aG,U Z bn,U Z bq,U Z bH,U Z bI,U Z bG],.agg #[U Z bZ,U Z cz,U Z dw,U Z dx],U Z a3] w fun e w'=>e = .returned (.bool r)∧Below w.heap.size w w':=by
 have BV:=Try.underlying25
 have Br:=Try.underlying29
 have rO:=Try.underlying31
 have ik:=aa.mk jT
 have iC:=aa.mk jU
 clear jT jU
 have gN:=aa.mk jV
 have iD:=aa.mk jW
 clear jV jW
 have HB:=aa.mk (Below.refl w.heap.size w)
 have H:((iW.f ai aj aC aD aJ aH aK aT ak).bind fun t125=>(if t125 = true then (some false) else ((az.f k ai aj aC aD aJ aH aK aT ak).bind fun t126=>(if t126 = 0 then ((dP.f aI aG bn bq bH bI bG).bind fun t127=>(if t127 = 0 then ((dB.f bZ cz dw dx).bind fun t128=>(if t128 = true then (if a3 ≥ 0 then (some (decide (a3≤1073741824))) else (some false)) else (some false))) else (some false))) else (some false))))) = some r:=h
 clear h
 replace H:=Option.bind_eq_some_iff.mp H
 obtain ⟨t125,QF,H⟩:=H
 replace H:(if t125 = true then (some false) else ((az.f k ai aj aC aD aJ aH aK aT ak).bind fun t126=>(if t126 = 0 then ((dP.f aI aG bn bq bH bI bG).bind fun t127=>(if t127 = 0 then ((dB.f bZ cz dw dx).bind fun t128=>(if t128 = true then (if a3 ≥ 0 then (some (decide (a3≤1073741824))) else (some false)) else (some false))) else (some false))) else (some false)))) = some r:=H
 have A5:=aa.mk QF
 clear QF
 by_cases c6:t125 = true
 ·subst c6
  have H1:(some false) = some r:=by rw [if_pos rfl] at H;exact H
  clear H
  have H:=H1
  clear H1
  obtain rfl:=Option.some.inj H
  go_enter Try.func18,Try.ntmps18
  go_wp2_with (first|((with_reducible refine aA (N:=4) rfl ?_);refine au (by rfl) (N:=4) (by rfl) (cs:=#[U Z ai,U Z aj,U Z aC,U Z aD,U Z aJ,U Z aH,U Z aK,.slice dW aT.length dN,.slice dZ ak.length dO]) (t:=25) fG ?_;intro ac6 hg w7 hbox hb;have fE:=aa.mk (hbox);have ac7:=bS HB hg;have ac8:=bS HB hg;replace HB:=cO HB hb;clear hb hbox hg)|((with_reducible refine aA (N:=5) rfl ?_);refine au (by rfl) (N:=5) (by rfl) (cs:=#[U Z aI,U Z aG,U Z bn,U Z bq,U Z bH,U Z bI,U Z bG]) (t:=29) fG ?_;intro ac9 hg w8 hbox hb;have iV:=aa.mk (hbox);have ada:=bS HB hg;have adb:=bS HB hg;have qY:=eQ fE hg;have qZ:=eT fE hg;replace fE:=aX fE hb;replace HB:=cO HB hb;clear hb hbox hg)|((with_reducible refine aA (N:=6) rfl ?_);refine au (by rfl) (N:=6) (by rfl) (cs:=#[U Z bZ,U Z cz,U Z dw,U Z dx]) (t:=31) fG ?_;intro ade hg w9 hbox hb;have l6:=aa.mk (hbox);have adf:=bS HB hg;have adg:=bS HB hg;have q9:=eQ fE hg;have rf:=eT fE hg;have uX:=eQ iV hg;have uY:=eT iV hg;replace fE:=aX fE hb;replace iV:=aX iV hb;replace HB:=cO HB hb;clear hb hbox hg;have VL:=qY.out;have VM:=qZ.out;have VN:=q9.out;have VO:=rf.out;obtain ⟨o6,o7,JD,JE,afM,afN,afO,aVj,aVk,o8,o9,JF,JG,afP,afQ,afR,aVl,aVm⟩:=jA fE.out)|((with_reducible refine aQ (f:=22) rfl ?_);refine dn (some 10) rfl rfl Try.func22 aM rfl #[.agg #[U Z ai,U Z aj,U Z aC,U Z aD,U Z aJ,U Z aH,U Z aK,.slice dW aT.length dN,.slice dZ ak.length dO]] rfl ji ?_;(with_reducible refine (iW.calls ai aj aC aD aJ aH aK _ _ aT _ _ ak true _ ?cZ ?df ?eu ?eB A5.out).mono ?_);(case cZ=>repeat (first|exact (Kd.bB ik.out HB.out)|(with_reducible refine Kd.bC ?_ _)|(with_reducible refine Kd.bD ?_ _)|(with_reducible refine Kd.bN ?_)));(case df=>exact iC.out);(case eu=>repeat (first|exact (Kd.bB gN.out HB.out)|(with_reducible refine Kd.bC ?_ _)|(with_reducible refine Kd.bD ?_ _)|(with_reducible refine Kd.bN ?_)));(case eB=>exact iD.out);rintro e FD ⟨rfl,hb⟩;refine ⟨_,rfl,?_⟩;replace fE:=aX fE hb;replace iV:=aX iV hb;replace l6:=aX l6 hb;replace HB:=cO HB hb;(try clear hb);(try clear hb2);(try clear hk);(try clear hi)))
  go_ret
  exact ⟨lW,gL⟩
 ·replace c6:=Bool.eq_false_iff.mpr c6
  subst c6
  have H1:((az.f k ai aj aC aD aJ aH aK aT ak).bind fun t126=>(if t126 = 0 then ((dP.f aI aG bn bq bH bI bG).bind fun t127=>(if t127 = 0 then ((dB.f bZ cz dw dx).bind fun t128=>(if t128 = true then (if a3 ≥ 0 then (some (decide (a3≤1073741824))) else (some false)) else (some false))) else (some false))) else (some false))) = some r:=by rw [if_neg (show ¬ (false = true) by decide)] at H;exact H
  clear H
  have H:=H1
  clear H1
  replace H:=Option.bind_eq_some_iff.mp H
  obtain ⟨t126,Uw,H⟩:=H
  replace H:(if t126 = 0 then ((dP.f aI aG bn bq bH bI bG).bind fun t127=>(if t127 = 0 then ((dB.f bZ cz dw dx).bind fun t128=>(if t128 = true then (if a3 ≥ 0 then (some (decide (a3≤1073741824))) else (some false)) else (some false))) else (some false))) else (some false)) = some r:=H
  have A14:=aa.mk Uw
  clear Uw
  by_cases c15:t126 = 0
  ·rw [if_pos c15] at H
   have anT:(t126 == 0) = true:=beq_iff_eq.mpr c15
   have anU:(t126 != 0) = false:=bne_eq_false_iff_eq.mpr c15
   clear c15
   replace H:=Option.bind_eq_some_iff.mp H
   obtain ⟨t127,acg,H⟩:=H
   replace H:(if t127 = 0 then ((dB.f bZ cz dw dx).bind fun t128=>(if t128 = true then (if a3 ≥ 0 then (some (decide (a3≤1073741824))) else (some false)) else (some false))) else (some false)) = some r:=H
   have A16:=aa.mk acg
   clear acg
   by_cases c17:t127 = 0
   ·rw [if_pos c17] at H
    have amj:(t127 == 0) = true:=beq_iff_eq.mpr c17
    have aOp:(t127 != 0) = false:=bne_eq_false_iff_eq.mpr c17
    clear c17
    replace H:=Option.bind_eq_some_iff.mp H
    obtain ⟨t128,anV,H⟩:=H
    replace H:(if t128 = true then (if a3 ≥ 0 then (some (decide (a3≤1073741824))) else (some false)) else (some false)) = some r:=H
    have A18:=aa.mk anV
    clear anV
    by_cases c19:t128 = true
    ·subst c19
     have H1:(if a3 ≥ 0 then (some (decide (a3≤1073741824))) else (some false)) = some r:=by rw [if_pos rfl] at H;exact H
     clear H
     have H:=H1
     clear H1
     by_cases c20:a3 ≥ 0
     ·rw [if_pos c20] at H
      have WJ:decide (0≤a3) = true:=decide_eq_true c20
      clear c20
      obtain rfl:=Option.some.inj H
      go_enter Try.func18,Try.ntmps18
      go_wp2_with (first|((with_reducible refine aA (N:=4) rfl ?_);refine au (by rfl) (N:=4) (by rfl) (cs:=#[U Z ai,U Z aj,U Z aC,U Z aD,U Z aJ,U Z aH,U Z aK,.slice dW aT.length dN,.slice dZ ak.length dO]) (t:=25) fG ?_;intro ac6 hg w21 hbox hb;have fE:=aa.mk (hbox);have ac7:=bS HB hg;have ac8:=bS HB hg;replace HB:=cO HB hb;clear hb hbox hg)|((with_reducible refine aA (N:=5) rfl ?_);refine au (by rfl) (N:=5) (by rfl) (cs:=#[U Z aI,U Z aG,U Z bn,U Z bq,U Z bH,U Z bI,U Z bG]) (t:=29) fG ?_;intro ac9 hg w22 hbox hb;have iV:=aa.mk (hbox);have ada:=bS HB hg;have adb:=bS HB hg;have qY:=eQ fE hg;have qZ:=eT fE hg;replace fE:=aX fE hb;replace HB:=cO HB hb;clear hb hbox hg)|((with_reducible refine aA (N:=6) rfl ?_);refine au (by rfl) (N:=6) (by rfl) (cs:=#[U Z bZ,U Z cz,U Z dw,U Z dx]) (t:=31) fG ?_;intro ade hg w23 hbox hb;have l6:=aa.mk (hbox);have adf:=bS HB hg;have adg:=bS HB hg;have q9:=eQ fE hg;have rf:=eT fE hg;have uX:=eQ iV hg;have uY:=eT iV hg;replace fE:=aX fE hb;replace iV:=aX iV hb;replace HB:=cO HB hb;clear hb hbox hg;have abX:=qY.out;have abY:=qZ.out;have abu:=q9.out;have abv:=rf.out;obtain ⟨Xg,Xh,afF,afG,aqB,aqC,aqD,aVn,aVo,Xi,Xj,afH,afI,aqE,aqF,aqG,aVp,aVq⟩:=jA fE.out)|((with_reducible refine aQ (f:=22) rfl ?_);refine dn (some 10) rfl rfl Try.func22 aM rfl #[.agg #[U Z ai,U Z aj,U Z aC,U Z aD,U Z aJ,U Z aH,U Z aK,.slice dW aT.length dN,.slice dZ ak.length dO]] rfl ji ?_;(with_reducible refine (iW.calls ai aj aC aD aJ aH aK _ _ aT _ _ ak false _ ?cZ ?df ?eu ?eB A5.out).mono ?_);(case cZ=>repeat (first|exact (Kd.bB ik.out HB.out)|(with_reducible refine Kd.bC ?_ _)|(with_reducible refine Kd.bD ?_ _)|(with_reducible refine Kd.bN ?_)));(case df=>exact iC.out);(case eu=>repeat (first|exact (Kd.bB gN.out HB.out)|(with_reducible refine Kd.bC ?_ _)|(with_reducible refine Kd.bD ?_ _)|(with_reducible refine Kd.bN ?_)));(case eB=>exact iD.out);rintro e w27 ⟨rfl,hb⟩;refine ⟨_,rfl,?_⟩;replace fE:=aX fE hb;replace iV:=aX iV hb;replace l6:=aX l6 hb;replace HB:=cO HB hb;(try clear hb);(try clear hb2);(try clear hk);(try clear hi);obtain ⟨NU,NV,SE,SF,ah4,ah5,atW,atX,atY,NW,NY,SG,SH,ah6,ah7,atZ,at0,at1⟩:=jA fE.out)|(go_at_call 26;(with_reducible refine (az.calls k ai aj aC aD aJ aH aK _ _ aT _ _ ak t126 _ ?cZ ?df ?eu ?eB A14.out).mono ?_);(case cZ=>repeat (first|exact (Kd.bB ik.out HB.out)|(with_reducible refine Kd.bC ?_ _)|(with_reducible refine Kd.bD ?_ _)|(with_reducible refine Kd.bN ?_)));(case df=>exact iC.out);(case eu=>repeat (first|exact (Kd.bB gN.out HB.out)|(with_reducible refine Kd.bC ?_ _)|(with_reducible refine Kd.bD ?_ _)|(with_reducible refine Kd.bN ?_)));(case eB=>exact iD.out);rintro e w29 ⟨rfl,hb⟩;replace fE:=aX fE hb;replace iV:=aX iV hb;replace l6:=aX l6 hb;replace HB:=cO HB hb;(try clear hb);(try clear hb2);(try clear hk);(try clear hi);have abZ:=uX.out;have ab0:=uY.out;obtain ⟨Sq,Sr,Yw,Yx,ajr,ajs,ajt,Su,Sv,Yy,Yz,aju,ajv,ajw⟩:=jF iV.out)|(go_at_call 28;(with_reducible refine (dP.calls aI aG bn bq bH bI bG t127 _ A16.out).mono ?_);rintro e w32 ⟨rfl,hb⟩;replace fE:=aX fE hb;replace iV:=aX iV hb;replace l6:=aX l6 hb;replace HB:=cO HB hb;(try clear hb);(try clear hb2);(try clear hk);(try clear hi);obtain ⟨Bg,Bh,Ik,Il,Bi,Bj,Im,Io⟩:=jc l6.out)|(go_at_call 63;(with_reducible refine (dB.calls bZ cz dw dx true _ A18.out).mono ?_);rintro e w34 ⟨rfl,hb⟩;replace fE:=aX fE hb;replace iV:=aX iV hb;replace l6:=aX l6 hb;replace HB:=cO HB hb;(try clear hb);(try clear hb2);(try clear hk);(try clear hi)))
      go_ret
      exact ⟨lW,gL⟩
     ·rw [if_neg c20] at H
      have WJ:decide (0≤a3) = false:=decide_eq_false c20
      clear c20
      obtain rfl:=Option.some.inj H
      go_enter Try.func18,Try.ntmps18
      go_wp2_with (first|((with_reducible refine aA (N:=4) rfl ?_);refine au (by rfl) (N:=4) (by rfl) (cs:=#[U Z ai,U Z aj,U Z aC,U Z aD,U Z aJ,U Z aH,U Z aK,.slice dW aT.length dN,.slice dZ ak.length dO]) (t:=25) fG ?_;intro ac6 hg w35 hbox hb;have fE:=aa.mk (hbox);have ac7:=bS HB hg;have ac8:=bS HB hg;replace HB:=cO HB hb;clear hb hbox hg)|((with_reducible refine aA (N:=5) rfl ?_);refine au (by rfl) (N:=5) (by rfl) (cs:=#[U Z aI,U Z aG,U Z bn,U Z bq,U Z bH,U Z bI,U Z bG]) (t:=29) fG ?_;intro ac9 hg w36 hbox hb;have iV:=aa.mk (hbox);have ada:=bS HB hg;have adb:=bS HB hg;have qY:=eQ fE hg;have qZ:=eT fE hg;replace fE:=aX fE hb;replace HB:=cO HB hb;clear hb hbox hg)|((with_reducible refine aA (N:=6) rfl ?_);refine au (by rfl) (N:=6) (by rfl) (cs:=#[U Z bZ,U Z cz,U Z dw,U Z dx]) (t:=31) fG ?_;intro ade hg w37 hbox hb;have l6:=aa.mk (hbox);have adf:=bS HB hg;have adg:=bS HB hg;have q9:=eQ fE hg;have rf:=eT fE hg;have uX:=eQ iV hg;have uY:=eT iV hg;replace fE:=aX fE hb;replace iV:=aX iV hb;replace HB:=cO HB hb;clear hb hbox hg;have af2:=qY.out;have af3:=qZ.out;have aoh:=q9.out;have aoi:=rf.out;obtain ⟨IB,IC,KV,KW,OO,OP,OQ,Ta,Tc,IE,IG,KX,KY,OT,OU,OV,Td,Te⟩:=jA fE.out)|((with_reducible refine aQ (f:=22) rfl ?_);refine dn (some 10) rfl rfl Try.func22 aM rfl #[.agg #[U Z ai,U Z aj,U Z aC,U Z aD,U Z aJ,U Z aH,U Z aK,.slice dW aT.length dN,.slice dZ ak.length dO]] rfl ji ?_;(with_reducible refine (iW.calls ai aj aC aD aJ aH aK _ _ aT _ _ ak false _ ?cZ ?df ?eu ?eB A5.out).mono ?_);(case cZ=>repeat (first|exact (Kd.bB ik.out HB.out)|(with_reducible refine Kd.bC ?_ _)|(with_reducible refine Kd.bD ?_ _)|(with_reducible refine Kd.bN ?_)));(case df=>exact iC.out);(case eu=>repeat (first|exact (Kd.bB gN.out HB.out)|(with_reducible refine Kd.bC ?_ _)|(with_reducible refine Kd.bD ?_ _)|(with_reducible refine Kd.bN ?_)));(case eB=>exact iD.out);rintro e w41 ⟨rfl,hb⟩;refine ⟨_,rfl,?_⟩;replace fE:=aX fE hb;replace iV:=aX iV hb;replace l6:=aX l6 hb;replace HB:=cO HB hb;(try clear hb);(try clear hb2);(try clear hk);(try clear hi);obtain ⟨aic,aid,auh,aui,auj,auk,aVr,aVs,aVt,aie,aif,aul,aum,aun,auo,aVu,aVv,aVw⟩:=jA fE.out)|(go_at_call 26;(with_reducible refine (az.calls k ai aj aC aD aJ aH aK _ _ aT _ _ ak t126 _ ?cZ ?df ?eu ?eB A14.out).mono ?_);(case cZ=>repeat (first|exact (Kd.bB ik.out HB.out)|(with_reducible refine Kd.bC ?_ _)|(with_reducible refine Kd.bD ?_ _)|(with_reducible refine Kd.bN ?_)));(case df=>exact iC.out);(case eu=>repeat (first|exact (Kd.bB gN.out HB.out)|(with_reducible refine Kd.bC ?_ _)|(with_reducible refine Kd.bD ?_ _)|(with_reducible refine Kd.bN ?_)));(case eB=>exact iD.out);rintro e w43 ⟨rfl,hb⟩;replace fE:=aX fE hb;replace iV:=aX iV hb;replace l6:=aX l6 hb;replace HB:=cO HB hb;(try clear hb);(try clear hb2);(try clear hk);(try clear hi);have axC:=uX.out;have axD:=uY.out;obtain ⟨KN,KO,Ou,Ov,Ow,Ox,Oy,KP,KQ,Oz,OA,OB,OC,OD⟩:=jF iV.out)|(go_at_call 28;(with_reducible refine (dP.calls aI aG bn bq bH bI bG t127 _ A16.out).mono ?_);rintro e w46 ⟨rfl,hb⟩;replace fE:=aX fE hb;replace iV:=aX iV hb;replace l6:=aX l6 hb;replace HB:=cO HB hb;(try clear hb);(try clear hb2);(try clear hk);(try clear hi);obtain ⟨Zk,Zl,ajn,ajo,Zm,Zn,ajp,ajq⟩:=jc l6.out)|(go_at_call 63;(with_reducible refine (dB.calls bZ cz dw dx true _ A18.out).mono ?_);rintro e w48 ⟨rfl,hb⟩;replace fE:=aX fE hb;replace iV:=aX iV hb;replace l6:=aX l6 hb;replace HB:=cO HB hb;(try clear hb);(try clear hb2);(try clear hk);(try clear hi)))
      go_ret
      exact ⟨lW,gL⟩
    ·replace c19:=Bool.eq_false_iff.mpr c19
     subst c19
     have H1:(some false) = some r:=by rw [if_neg (show ¬ (false = true) by decide)] at H;exact H
     clear H
     have H:=H1
     clear H1
     obtain rfl:=Option.some.inj H
     go_enter Try.func18,Try.ntmps18
     go_wp2_with (first|((with_reducible refine aA (N:=4) rfl ?_);refine au (by rfl) (N:=4) (by rfl) (cs:=#[U Z ai,U Z aj,U Z aC,U Z aD,U Z aJ,U Z aH,U Z aK,.slice dW aT.length dN,.slice dZ ak.length dO]) (t:=25) fG ?_;intro ac6 hg w49 hbox hb;have fE:=aa.mk (hbox);have ac7:=bS HB hg;have ac8:=bS HB hg;replace HB:=cO HB hb;clear hb hbox hg)|((with_reducible refine aA (N:=5) rfl ?_);refine au (by rfl) (N:=5) (by rfl) (cs:=#[U Z aI,U Z aG,U Z bn,U Z bq,U Z bH,U Z bI,U Z bG]) (t:=29) fG ?_;intro ac9 hg w50 hbox hb;have iV:=aa.mk (hbox);have ada:=bS HB hg;have adb:=bS HB hg;have qY:=eQ fE hg;have qZ:=eT fE hg;replace fE:=aX fE hb;replace HB:=cO HB hb;clear hb hbox hg)|((with_reducible refine aA (N:=6) rfl ?_);refine au (by rfl) (N:=6) (by rfl) (cs:=#[U Z bZ,U Z cz,U Z dw,U Z dx]) (t:=31) fG ?_;intro ade hg w51 hbox hb;have l6:=aa.mk (hbox);have adf:=bS HB hg;have adg:=bS HB hg;have q9:=eQ fE hg;have rf:=eT fE hg;have uX:=eQ iV hg;have uY:=eT iV hg;replace fE:=aX fE hb;replace iV:=aX iV hb;replace HB:=cO HB hb;clear hb hbox hg;have axi:=qY.out;have axj:=qZ.out;have a5Q:=q9.out;have a5R:=rf.out;obtain ⟨avV,avW,avX,avY,avZ,av0,av1,av2,av3,av4,av5,av6,av7,av8,av9,awc,awd,awe⟩:=jA fE.out)|((with_reducible refine aQ (f:=22) rfl ?_);refine dn (some 10) rfl rfl Try.func22 aM rfl #[.agg #[U Z ai,U Z aj,U Z aC,U Z aD,U Z aJ,U Z aH,U Z aK,.slice dW aT.length dN,.slice dZ ak.length dO]] rfl ji ?_;(with_reducible refine (iW.calls ai aj aC aD aJ aH aK _ _ aT _ _ ak false _ ?cZ ?df ?eu ?eB A5.out).mono ?_);(case cZ=>repeat (first|exact (Kd.bB ik.out HB.out)|(with_reducible refine Kd.bC ?_ _)|(with_reducible refine Kd.bD ?_ _)|(with_reducible refine Kd.bN ?_)));(case df=>exact iC.out);(case eu=>repeat (first|exact (Kd.bB gN.out HB.out)|(with_reducible refine Kd.bC ?_ _)|(with_reducible refine Kd.bD ?_ _)|(with_reducible refine Kd.bN ?_)));(case eB=>exact iD.out);rintro e w55 ⟨rfl,hb⟩;refine ⟨_,rfl,?_⟩;replace fE:=aX fE hb;replace iV:=aX iV hb;replace l6:=aX l6 hb;replace HB:=cO HB hb;(try clear hb);(try clear hb2);(try clear hk);(try clear hi);obtain ⟨agQ,agR,agS,agT,aVx,aVy,aVz,aVA,aVB,agU,agV,agW,agX,aVC,aVD,aVE,aVF,aVG⟩:=jA fE.out)|(go_at_call 26;(with_reducible refine (az.calls k ai aj aC aD aJ aH aK _ _ aT _ _ ak t126 _ ?cZ ?df ?eu ?eB A14.out).mono ?_);(case cZ=>repeat (first|exact (Kd.bB ik.out HB.out)|(with_reducible refine Kd.bC ?_ _)|(with_reducible refine Kd.bD ?_ _)|(with_reducible refine Kd.bN ?_)));(case df=>exact iC.out);(case eu=>repeat (first|exact (Kd.bB gN.out HB.out)|(with_reducible refine Kd.bC ?_ _)|(with_reducible refine Kd.bD ?_ _)|(with_reducible refine Kd.bN ?_)));(case eB=>exact iD.out);rintro e w57 ⟨rfl,hb⟩;replace fE:=aX fE hb;replace iV:=aX iV hb;replace l6:=aX l6 hb;replace HB:=cO HB hb;(try clear hb);(try clear hb2);(try clear hk);(try clear hi);have aEk:=uX.out;have aEl:=uY.out;obtain ⟨agY,agZ,ag0,ag1,ag2,ag3,ag4,ag5,ag6,ag7,ag8,ag9,aha,ahb⟩:=jF iV.out)|(go_at_call 28;(with_reducible refine (dP.calls aI aG bn bq bH bI bG t127 _ A16.out).mono ?_);rintro e w60 ⟨rfl,hb⟩;replace fE:=aX fE hb;replace iV:=aX iV hb;replace l6:=aX l6 hb;replace HB:=cO HB hb;(try clear hb);(try clear hb2);(try clear hk);(try clear hi);obtain ⟨ags,agt,aq6,aq7,agu,agv,aq8,aq9⟩:=jc l6.out)|(go_at_call 63;(with_reducible refine (dB.calls bZ cz dw dx false _ A18.out).mono ?_);rintro e w62 ⟨rfl,hb⟩;replace fE:=aX fE hb;replace iV:=aX iV hb;replace l6:=aX l6 hb;replace HB:=cO HB hb;(try clear hb);(try clear hb2);(try clear hk);(try clear hi)))
     go_ret
     exact ⟨lW,gL⟩
   ·rw [if_neg c17] at H
    have amj:(t127 == 0) = false:=beq_eq_false_iff_ne.mpr c17
    have aOp:(t127 != 0) = true:=bne_iff_ne.mpr c17
    obtain rfl:=Option.some.inj H
    go_enter Try.func18,Try.ntmps18
    go_wp2_with (first|((with_reducible refine aA (N:=4) rfl ?_);refine au (by rfl) (N:=4) (by rfl) (cs:=#[U Z ai,U Z aj,U Z aC,U Z aD,U Z aJ,U Z aH,U Z aK,.slice dW aT.length dN,.slice dZ ak.length dO]) (t:=25) fG ?_;intro ac6 hg w63 hbox hb;have fE:=aa.mk (hbox);have ac7:=bS HB hg;have ac8:=bS HB hg;replace HB:=cO HB hb;clear hb hbox hg)|((with_reducible refine aA (N:=5) rfl ?_);refine au (by rfl) (N:=5) (by rfl) (cs:=#[U Z aI,U Z aG,U Z bn,U Z bq,U Z bH,U Z bI,U Z bG]) (t:=29) fG ?_;intro ac9 hg w64 hbox hb;have iV:=aa.mk (hbox);have ada:=bS HB hg;have adb:=bS HB hg;have qY:=eQ fE hg;have qZ:=eT fE hg;replace fE:=aX fE hb;replace HB:=cO HB hb;clear hb hbox hg)|((with_reducible refine aA (N:=6) rfl ?_);refine au (by rfl) (N:=6) (by rfl) (cs:=#[U Z bZ,U Z cz,U Z dw,U Z dx]) (t:=31) fG ?_;intro ade hg w65 hbox hb;have l6:=aa.mk (hbox);have adf:=bS HB hg;have adg:=bS HB hg;have q9:=eQ fE hg;have rf:=eT fE hg;have uX:=eQ iV hg;have uY:=eT iV hg;replace fE:=aX fE hb;replace iV:=aX iV hb;replace HB:=cO HB hb;clear hb hbox hg;have axs:=qY.out;have axt:=qZ.out;have aHr:=q9.out;have aHs:=rf.out;obtain ⟨aVH,aVI,aVJ,aVK,aVL,aVM,aVN,aVO,aVP,aVQ,aVR,aVS,aVT,aVU,aVV,aVW,aVX,aVY⟩:=jA fE.out)|((with_reducible refine aQ (f:=22) rfl ?_);refine dn (some 10) rfl rfl Try.func22 aM rfl #[.agg #[U Z ai,U Z aj,U Z aC,U Z aD,U Z aJ,U Z aH,U Z aK,.slice dW aT.length dN,.slice dZ ak.length dO]] rfl ji ?_;(with_reducible refine (iW.calls ai aj aC aD aJ aH aK _ _ aT _ _ ak false _ ?cZ ?df ?eu ?eB A5.out).mono ?_);(case cZ=>repeat (first|exact (Kd.bB ik.out HB.out)|(with_reducible refine Kd.bC ?_ _)|(with_reducible refine Kd.bD ?_ _)|(with_reducible refine Kd.bN ?_)));(case df=>exact iC.out);(case eu=>repeat (first|exact (Kd.bB gN.out HB.out)|(with_reducible refine Kd.bC ?_ _)|(with_reducible refine Kd.bD ?_ _)|(with_reducible refine Kd.bN ?_)));(case eB=>exact iD.out);rintro e w69 ⟨rfl,hb⟩;refine ⟨_,rfl,?_⟩;replace fE:=aX fE hb;replace iV:=aX iV hb;replace l6:=aX l6 hb;replace HB:=cO HB hb;(try clear hb);(try clear hb2);(try clear hk);(try clear hi);obtain ⟨SV,SX,ZX,ZY,ZZ,Z0,Z4,aVZ,aV0,SY,S9,Z5,Z6,Z7,Z8,Z9,aV1,aV2⟩:=jA fE.out)|(go_at_call 26;(with_reducible refine (az.calls k ai aj aC aD aJ aH aK _ _ aT _ _ ak t126 _ ?cZ ?df ?eu ?eB A14.out).mono ?_);(case cZ=>repeat (first|exact (Kd.bB ik.out HB.out)|(with_reducible refine Kd.bC ?_ _)|(with_reducible refine Kd.bD ?_ _)|(with_reducible refine Kd.bN ?_)));(case df=>exact iC.out);(case eu=>repeat (first|exact (Kd.bB gN.out HB.out)|(with_reducible refine Kd.bC ?_ _)|(with_reducible refine Kd.bD ?_ _)|(with_reducible refine Kd.bN ?_)));(case eB=>exact iD.out);rintro e w71 ⟨rfl,hb⟩;replace fE:=aX fE hb;replace iV:=aX iV hb;replace l6:=aX l6 hb;replace HB:=cO HB hb;(try clear hb);(try clear hb2);(try clear hk);(try clear hi);have agw:=uX.out;have agx:=uY.out;obtain ⟨ahk,ahl,ahm,ahn,aho,ahp,atd,ahq,ahr,ahs,aht,ahu,ahv,ate⟩:=jF iV.out)|(go_at_call 28;(with_reducible refine (dP.calls aI aG bn bq bH bI bG t127 _ A16.out).mono ?_);rintro e w74 ⟨rfl,hb⟩;replace fE:=aX fE hb;replace iV:=aX iV hb;replace l6:=aX l6 hb;replace HB:=cO HB hb;(try clear hb);(try clear hb2);(try clear hk);(try clear hi)))
    go_ret
    exact ⟨lW,gL⟩
  ·rw [if_neg c15] at H
   have anT:(t126 == 0) = false:=beq_eq_false_iff_ne.mpr c15
   have anU:(t126 != 0) = true:=bne_iff_ne.mpr c15
   obtain rfl:=Option.some.inj H
   go_enter Try.func18,Try.ntmps18
   go_wp2_with (first|((with_reducible refine aA (N:=4) rfl ?_);refine au (by rfl) (N:=4) (by rfl) (cs:=#[U Z ai,U Z aj,U Z aC,U Z aD,U Z aJ,U Z aH,U Z aK,.slice dW aT.length dN,.slice dZ ak.length dO]) (t:=25) fG ?_;intro ac6 hg w75 hbox hb;have fE:=aa.mk (hbox);have ac7:=bS HB hg;have ac8:=bS HB hg;replace HB:=cO HB hb;clear hb hbox hg)|((with_reducible refine aA (N:=5) rfl ?_);refine au (by rfl) (N:=5) (by rfl) (cs:=#[U Z aI,U Z aG,U Z bn,U Z bq,U Z bH,U Z bI,U Z bG]) (t:=29) fG ?_;intro ac9 hg w76 hbox hb;have iV:=aa.mk (hbox);have ada:=bS HB hg;have adb:=bS HB hg;have qY:=eQ fE hg;have qZ:=eT fE hg;replace fE:=aX fE hb;replace HB:=cO HB hb;clear hb hbox hg)|((with_reducible refine aA (N:=6) rfl ?_);refine au (by rfl) (N:=6) (by rfl) (cs:=#[U Z bZ,U Z cz,U Z dw,U Z dx]) (t:=31) fG ?_;intro ade hg w77 hbox hb;have l6:=aa.mk (hbox);have adf:=bS HB hg;have adg:=bS HB hg;have q9:=eQ fE hg;have rf:=eT fE hg;have uX:=eQ iV hg;have uY:=eT iV hg;replace fE:=aX fE hb;replace iV:=aX iV hb;replace HB:=cO HB hb;clear hb hbox hg;have anq:=qY.out;have anr:=qZ.out;have awW:=q9.out;have awX:=rf.out;obtain ⟨atf,atg,ath,ati,aV3,aV4,aV5,aV6,aV7,atj,atl,atm,atn,aV8,aV9,aWa,aWb,aWc⟩:=jA fE.out)|((with_reducible refine aQ (f:=22) rfl ?_);refine dn (some 10) rfl rfl Try.func22 aM rfl #[.agg #[U Z ai,U Z aj,U Z aC,U Z aD,U Z aJ,U Z aH,U Z aK,.slice dW aT.length dN,.slice dZ ak.length dO]] rfl ji ?_;(with_reducible refine (iW.calls ai aj aC aD aJ aH aK _ _ aT _ _ ak false _ ?cZ ?df ?eu ?eB A5.out).mono ?_);(case cZ=>repeat (first|exact (Kd.bB ik.out HB.out)|(with_reducible refine Kd.bC ?_ _)|(with_reducible refine Kd.bD ?_ _)|(with_reducible refine Kd.bN ?_)));(case df=>exact iC.out);(case eu=>repeat (first|exact (Kd.bB gN.out HB.out)|(with_reducible refine Kd.bC ?_ _)|(with_reducible refine Kd.bD ?_ _)|(with_reducible refine Kd.bN ?_)));(case eB=>exact iD.out);rintro e w81 ⟨rfl,hb⟩;refine ⟨_,rfl,?_⟩;replace fE:=aX fE hb;replace iV:=aX iV hb;replace l6:=aX l6 hb;replace HB:=cO HB hb;(try clear hb);(try clear hb2);(try clear hk);(try clear hi);obtain ⟨Nq,Nr,Ns,Nt,RQ,RS,RU,arl,arn,Nu,Nv,Nw,Ny,RV,RX,RY,aro,arp⟩:=jA fE.out)|(go_at_call 26;(with_reducible refine (az.calls k ai aj aC aD aJ aH aK _ _ aT _ _ ak t126 _ ?cZ ?df ?eu ?eB A14.out).mono ?_);(case cZ=>repeat (first|exact (Kd.bB ik.out HB.out)|(with_reducible refine Kd.bC ?_ _)|(with_reducible refine Kd.bD ?_ _)|(with_reducible refine Kd.bN ?_)));(case df=>exact iC.out);(case eu=>repeat (first|exact (Kd.bB gN.out HB.out)|(with_reducible refine Kd.bC ?_ _)|(with_reducible refine Kd.bD ?_ _)|(with_reducible refine Kd.bN ?_)));(case eB=>exact iD.out);rintro e w83 ⟨rfl,hb⟩;replace fE:=aX fE hb;replace iV:=aX iV hb;replace l6:=aX l6 hb;replace HB:=cO HB hb;(try clear hb);(try clear hb2);(try clear hk);(try clear hi)))
   go_ret
   exact ⟨lW,gL⟩
theorem aoa (d:Nat) (w:World) (x0 y0:Int) (x1 y1:Int):
 (Op.equalIn (d+2) 27 (.agg #[U Z x0,U Z x1]) (.agg #[U Z y0,U Z y1])).run Try.prog w = .ok (x0 == y0 && (x1 == y1)) w:=by
 refine am0 Try.underlying27 aM ?_
 refine abK (by rfl) (by go_simp;rfl) (by go_simp;rfl) (by go_simp) ?_
 exact abJ (by rfl) (by go_simp;rfl) (by go_simp;rfl) (by go_simp)
theorem awr (d:Nat) (w:World) (x0 y0:Int) (x1 y1:Int) (x2 y2:Int) (x3 y3:Int):
 (Op.equalIn (d+3) 31 (.agg #[U Z x0,U Z x1,U Z x2,U Z x3]) (.agg #[U Z y0,U Z y1,U Z y2,U Z y3])).run Try.prog w = .ok ((x0 == y0 && (x1 == y1)) && ((x2 == y2 && (x3 == y3)))) w:=by
 refine am0 Try.underlying31 aM ?_
 refine abK (by rfl) (by go_simp) (by go_simp) (aoa (d+0) w _ _ _ _) ?_
 exact abJ (by rfl) (by go_simp) (by go_simp) (aoa (d+0) w _ _ _ _)
def cB.f (a0:Int) (a1:Int) (a2:Int):Option (Bool):=if a0 ≥ a1 then (some (decide (a0≤a2))) else (some false)
set_option maxHeartbeats 8000000 in
set_option maxRecDepth 100000 in
theorem cB.calls (a0:Int) (a1:Int) (a2:Int) (r:Bool) (w:World) (h:cB.f a0 a1 a2 = some r):
 Calls Try.prog 74 #[U Z a0,U Z a1,U Z a2] w fun e w'=>e = .returned (.bool r)∧vo w w':=by
 have H:(if a0 ≥ a1 then (some (decide (a0≤a2))) else (some false)) = some r:=h
 clear h
 by_cases c4:a0 ≥ a1
 ·rw [if_pos c4] at H
  have tN:decide (a1≤a0) = true:=decide_eq_true c4
  clear c4
  obtain rfl:=Option.some.inj H
  go_enter Try.func74,Try.ntmps74
  go_wp2
  go_ret
  exact ⟨nM,Xo⟩
 ·rw [if_neg c4] at H
  have tN:decide (a1≤a0) = false:=decide_eq_false c4
  clear c4
  obtain rfl:=Option.some.inj H
  go_enter Try.func74,Try.ntmps74
  go_wp2
  go_ret
  exact ⟨nM,Xo⟩
def dU.l0:Nat→List (ky)→Int→Int→Option (Int)
 |0,_,_,_=>none
 |k+1,x5,x6,x7=>if x7 < x6 then (if 0≤x7 then (if x7 < (x5.length:Int) then (if ((ql x5 x7).f0) > ((ql x5 x7).f1) then (some 2) else (if ((ql x5 x7).f0) < (-1073741824) then (some 2) else (if ((ql x5 x7).f1) > 1073741824 then (some 2) else (dU.l0 k x5 x6 (wrap64 (x7+1)))))) else (none)) else (none)) else (some 0)
def dU.f (k:Nat) (l0:List (ky)):Option (Int):=dU.l0 k l0 (l0.length:Int) 0
theorem dU.UZ:∀ k,(∀ y0 y1 y2,pE (dU.l0 k y0 y1 y2) (dU.l0 (k+1) y0 y1 y2))
 |0=>fun _ _ _ r h=>by simp [dU.l0] at h
 |k+1=>by
  have ih0:=dU.UZ k
  ·intro y0 y1 y2
   unfold dU.l0
   repeat' first
   |(with_reducible exact ih0 _ _ _)
   |(with_reducible exact pE.refl _)
   |(with_reducible exact pE.none _)
   |(with_reducible refine pE.ite ?_ ?_)
   |(with_reducible refine pE.bind ?_ (fun _=>?_))
   |exact ih0 _ _ _
   |exact pE.none _
   |refine pE.ite ?_ ?_
   |refine pE.bind ?_ (fun _=>?_)
theorem dU.mono:∀ a0 k,pE (dU.f k a0) (dU.f (k+1) a0):=by
 intro a0 k
 have ih0:=dU.UZ k
 unfold dU.f
 repeat' first
  |(with_reducible exact ih0 _ _ _)
  |(with_reducible exact pE.refl _)
  |(with_reducible exact pE.none _)
  |(with_reducible refine pE.ite ?_ ?_)
  |(with_reducible refine pE.bind ?_ (fun _=>?_))
  |exact ih0 _ _ _
  |exact pE.none _
  |refine pE.ite ?_ ?_
  |refine pE.bind ?_ (fun _=>?_)
set_option maxHeartbeats 8000000 in
set_option maxRecDepth 100000 in
theorem dU.calls (k:Nat) (A0:Option Addr) (c0:Nat) (l0:List (ky)) (r:Int) (w:World) (hr0:Kd.C k27 w A0 l0.length l0) (hc0:l0.length≤c0) (h:dU.f k l0 = some r):
 Calls Try.prog 116 #[.slice A0 l0.length c0] w fun e w'=>e = .returned (U Z r)∧Below w.heap.size w w':=by
 have pz:=Try.underlying27
 have Mh:=aa.mk hr0
 have HC0:=aa.mk hc0
 clear hr0 hc0
 have HB:=aa.mk (Below.refl w.heap.size w)
 have H:(dU.l0 k l0 (l0.length:Int) 0) = some r:=h
 clear h
 have H':=aa.mk H
 clear H
 go_enter Try.func116,Try.ntmps116
 go_wp2
 go_loopg [7] k (fun kq v7 w'=>∃ (kG:Int),v7 = U Z kG∧aa (dU.l0 kq l0 (l0.length:Int) kG = some r)∧aa (kq≤k)∧aa (Below w.heap.size w w'))
 case atStart=>exact ⟨(0),nM,H',⟨Nat.le_refl _⟩,⟨gL⟩⟩
 case round =>
  clear H'
  try clear c1
  obtain ⟨kG,rfl,HA,JP,HB⟩:=hrel
  cases gk with
  |zero=>exact absurd HA.out (by simp [dU.l0])
  |succ k1 =>
   have H:=HA.out
   clear HA
   simp only [dU.l0] at H
   by_cases c2:kG < (l0.length:Int)
   ·rw [if_pos c2] at H
    have abz:decide (kG < (l0.length:Int)) = true:=decide_eq_true c2
    clear c2
    by_cases c3:0≤kG
    ·rw [if_pos c3] at H
     have Cc:decide (0≤kG) = true:=decide_eq_true c3
     clear c3
     by_cases c4:kG < (l0.length:Int)
     ·rw [if_pos c4] at H
      have tN:decide (kG < (l0.length:Int)) = true:=decide_eq_true c4
      clear c4
      by_cases c5:((ql l0 kG).f0) > ((ql l0 kG).f1)
      ·rw [if_pos c5] at H
       have DI:decide (((ql l0 kG).f1) < ((ql l0 kG).f0)) = true:=decide_eq_true c5
       clear c5
       obtain rfl:=Option.some.inj H
       have MH:0≤(kG:Int):=of_decide_eq_true mq
       have MI:kG < (l0.length:Int):=of_decide_eq_true mq
       obtain ⟨apx,e129,rJ,rM⟩:=ZC Mh.out kG MH MI
       cases e129
       replace rJ:=(HB.out.cell (World.block_lt_of_cell? w _ rJ)).trans rJ
       replace rM:=(HB.out.cell (World.block_lt_of_cell? w _ rM)).trans rM
       replace MH:=eq_true MH
       replace MI:=eq_true MI
       go_wp2_with (first|((with_reducible refine aA (N:=4) rfl ?_);refine au (by rfl) (N:=4) (by rfl) (cs:=#[U Z 0,U Z 0]) (t:=27) fG ?_;intro apy hg w6 hbox hb;have U0:=aa.mk (hbox);have apz:=bS HB hg;have apA:=bS HB hg;replace HB:=cO HB hb;clear hb hbox hg;obtain ⟨zA,zB,zC,zD⟩:=iZ U0.out))
       go_ret
       exact ⟨lW,gL⟩
      ·rw [if_neg c5] at H
       have DI:decide (((ql l0 kG).f1) < ((ql l0 kG).f0)) = false:=decide_eq_false c5
       clear c5
       by_cases c8:((ql l0 kG).f0) < (-1073741824)
       ·rw [if_pos c8] at H
        have Lf:decide (((ql l0 kG).f0) < (-1073741824)) = true:=decide_eq_true c8
        clear c8
        obtain rfl:=Option.some.inj H
        have MH:0≤(kG:Int):=of_decide_eq_true mq
        have MI:kG < (l0.length:Int):=of_decide_eq_true mq
        obtain ⟨apx,e129,rJ,rM⟩:=ZC Mh.out kG MH MI
        cases e129
        replace rJ:=(HB.out.cell (World.block_lt_of_cell? w _ rJ)).trans rJ
        replace rM:=(HB.out.cell (World.block_lt_of_cell? w _ rM)).trans rM
        replace MH:=eq_true MH
        replace MI:=eq_true MI
        go_wp2_with (first|((with_reducible refine aA (N:=4) rfl ?_);refine au (by rfl) (N:=4) (by rfl) (cs:=#[U Z 0,U Z 0]) (t:=27) fG ?_;intro apy hg w9 hbox hb;have U0:=aa.mk (hbox);have apz:=bS HB hg;have apA:=bS HB hg;replace HB:=cO HB hb;clear hb hbox hg;obtain ⟨sV,sW,sZ,tq⟩:=iZ U0.out))
        go_ret
        exact ⟨lW,gL⟩
       ·rw [if_neg c8] at H
        have Lf:decide (((ql l0 kG).f0) < (-1073741824)) = false:=decide_eq_false c8
        clear c8
        by_cases c11:((ql l0 kG).f1) > 1073741824
        ·rw [if_pos c11] at H
         have Jj:decide (1073741824 < ((ql l0 kG).f1)) = true:=decide_eq_true c11
         clear c11
         obtain rfl:=Option.some.inj H
         have MH:0≤(kG:Int):=of_decide_eq_true mq
         have MI:kG < (l0.length:Int):=of_decide_eq_true mq
         obtain ⟨apx,e129,rJ,rM⟩:=ZC Mh.out kG MH MI
         cases e129
         replace rJ:=(HB.out.cell (World.block_lt_of_cell? w _ rJ)).trans rJ
         replace rM:=(HB.out.cell (World.block_lt_of_cell? w _ rM)).trans rM
         replace MH:=eq_true MH
         replace MI:=eq_true MI
         go_wp2_with (first|((with_reducible refine aA (N:=4) rfl ?_);refine au (by rfl) (N:=4) (by rfl) (cs:=#[U Z 0,U Z 0]) (t:=27) fG ?_;intro apy hg O3 hbox hb;have U0:=aa.mk (hbox);have apz:=bS HB hg;have apA:=bS HB hg;replace HB:=cO HB hb;clear hb hbox hg;obtain ⟨ug,uh,ui,uj⟩:=iZ U0.out))
         go_ret
         exact ⟨lW,gL⟩
        ·rw [if_neg c11] at H
         have Jj:decide (1073741824 < ((ql l0 kG).f1)) = false:=decide_eq_false c11
         clear c11
         have H':=aa.mk H
         clear H
         have MH:0≤(kG:Int):=of_decide_eq_true mq
         have MI:kG < (l0.length:Int):=of_decide_eq_true mq
         obtain ⟨apx,e129,rJ,rM⟩:=ZC Mh.out kG MH MI
         cases e129
         replace rJ:=(HB.out.cell (World.block_lt_of_cell? w _ rJ)).trans rJ
         replace rM:=(HB.out.cell (World.block_lt_of_cell? w _ rM)).trans rM
         replace MH:=eq_true MH
         replace MI:=eq_true MI
         go_wp2_with (first|((with_reducible refine aA (N:=4) rfl ?_);refine au (by rfl) (N:=4) (by rfl) (cs:=#[U Z 0,U Z 0]) (t:=27) fG ?_;intro apy hg w14 hbox hb;have U0:=aa.mk (hbox);have apz:=bS HB hg;have apA:=bS HB hg;replace HB:=cO HB hb;clear hb hbox hg;obtain ⟨oL,oM,oN,oO⟩:=iZ U0.out))
         go_roundg k1
         case measure=>have:=JP.out;omega
         case rel=>exact ⟨(wrap64 (kG+1)),nM,H',⟨Mi⟩,⟨gL⟩⟩
     ·rw [if_neg c4] at H
      exact absurd H (by simp)
    ·rw [if_neg c3] at H
     exact absurd H (by simp)
   ·rw [if_neg c2] at H
    have abz:decide (kG < (l0.length:Int)) = false:=decide_eq_false c2
    clear c2
    obtain rfl:=Option.some.inj H
    go_wp2
    go_ret
    exact ⟨lW,gL⟩
def lq.f (k:Nat) (ai:Int) (aj:Int):Option (Int):=(dU.f k (([(⟨ai,aj⟩:ky)]:List (ky)))).bind fun t135=>(some t135)
theorem lq.mono:∀ a0 a1 k,pE (lq.f k a0 a1) (lq.f (k+1) a0 a1):=by
 intro a0 a1 k
 unfold lq.f
 repeat' first
  |(with_reducible exact dU.mono _ _)
  |(with_reducible exact pE.refl _)
  |(with_reducible exact pE.none _)
  |(with_reducible refine pE.ite ?_ ?_)
  |(with_reducible refine pE.bind ?_ (fun _=>?_))
  |exact dU.mono _ _
  |exact pE.none _
  |refine pE.ite ?_ ?_
  |refine pE.bind ?_ (fun _=>?_)
set_option maxHeartbeats 8000000 in
set_option maxRecDepth 100000 in
theorem lq.calls (k:Nat) (ai:Int) (aj:Int) (r:Int) (w:World) (h:lq.f k ai aj = some r):
 Calls Try.prog 122 #[.agg #[U Z ai,U Z aj]] w fun e w'=>e = .returned (U Z r)∧Below w.heap.size w w':=by
 have pz:=Try.underlying27
 have HB:=aa.mk (Below.refl w.heap.size w)
 have H:((dU.f k (([(⟨ai,aj⟩:ky)]:List (ky)))).bind fun t135=>(some t135)) = some r:=h
 clear h
 obtain ⟨aAB,adh⟩:∃ y_:List (ky),y_ = (([(⟨ai,aj⟩:ky)]:List (ky))):=⟨_,rfl⟩
 replace H:((dU.f k aAB).bind fun t135=>(some t135)) = some r:=by first|(rw [adh];with_reducible exact H)|(have Ji:=(Option.bind_some _ _).symm.trans H;rw [adh];with_reducible exact Ji)|(have Ji:=(Option.bind_some _ _).symm.trans H;with_reducible exact Ji)|with_reducible exact H|(rw [adh];exact H)|exact H
 have axW:=aa.mk adh
 clear adh
 replace H:=Option.bind_eq_some_iff.mp H
 obtain ⟨t135,VR,H⟩:=H
 replace H:(some t135) = some r:=H
 have A2:=aa.mk VR
 clear VR
 obtain rfl:=Option.some.inj H
 go_enter Try.func122,Try.ntmps122
 go_wp2_with (first|((with_reducible refine aA (N:=1) rfl ?_);refine au (by rfl) (N:=1) (by rfl) (cs:=#[U Z ai,U Z aj]) (t:=27) fG ?_;intro aOq hg w3 hbox hb;have adi:=aa.mk (hbox);have a5S:=bS HB hg;have a5T:=bS HB hg;replace HB:=cO HB hb;clear hb hbox hg;obtain ⟨Xk,Xl,Xm,Xn⟩:=iZ adi.out)|((with_reducible refine aA (N:=4) rfl ?_);refine Kd.Dk k27 _ 27 (by rfl) (N:=4) (by rfl) (xs:=([(⟨ai,aj⟩:ky)]:List (ky))) (inner:=[U Z ai,U Z aj]) (ok:=fun _=>True) (okp:=fun _=>True) fG (by exact (oq.c2 (show Kd.M k27 _ _ _ (⟨ai,aj⟩:ky) [U Z ai,U Z aj] from (yL _ _ _ (⟨ai,aj⟩:ky))) (oq.none _ _))) (fun _ hk=>hk) trivial (Below.refl _ _) (Nat.le_refl _) (by simp) ?_;intro a88 w5 Ud hb M4 pW;clear M4 pW;(first|rw [← axW.out] at Ud|(simp only [Int.reduceToNat] at Ud;rw [← axW.out] at Ud));have adj:=aa.mk (Kd.lX (Kd.vw Ud (g:=aOq) (o:=.cells #[U Z ai,U Z aj] 27 (0,0)) gB) (iq gL));replace adi:=aX adi hb;replace HB:=cO HB hb;clear hb Ud;obtain ⟨Ao7,co7,eo7⟩:=Kd.nR adj.out;subst eo7)|((with_reducible refine aQ (f:=116) rfl ?_);refine dn (some 5) rfl rfl Try.func116 aM rfl #[.slice Ao7 aAB.length co7] rfl ji ?_;(with_reducible refine (dU.calls k _ _ aAB t135 _ ?cZ ?df A2.out).mono ?_);(case cZ=>repeat (first|exact (Kd.gZ adj.out).2.2|(with_reducible refine Kd.bC ?_ _)|(with_reducible refine Kd.bD ?_ _)|(with_reducible refine Kd.bN ?_)));(case df=>exact (Kd.gZ adj.out).2.1);rintro e w8 ⟨rfl,hb⟩;refine ⟨_,rfl,?_⟩;replace adj:=zt adj hb;replace adi:=aX adi hb;replace HB:=cO HB hb;(try clear hb);(try clear hb2);(try clear hk);(try clear hi)))
 go_ret
 exact ⟨lW,gL⟩
def di.f (k:Nat) (ai:Int) (aj:Int) (a1:Int) (a2:Int):Option (Bool):=(lq.f k ai aj).bind fun t137=>(if t137 = 0 then (if ai ≥ a1 then (some (decide (aj≤a2))) else (some false)) else (some false))
theorem di.mono:∀ a0 a1 a2 a3 k,pE (di.f k a0 a1 a2 a3) (di.f (k+1) a0 a1 a2 a3):=by
 intro a0 a1 a2 a3 k
 unfold di.f
 repeat' first
  |(with_reducible exact lq.mono _ _ _)
  |(with_reducible exact pE.refl _)
  |(with_reducible exact pE.none _)
  |(with_reducible refine pE.ite ?_ ?_)
  |(with_reducible refine pE.bind ?_ (fun _=>?_))
  |exact lq.mono _ _ _
  |exact pE.none _
  |refine pE.ite ?_ ?_
  |refine pE.bind ?_ (fun _=>?_)
set_option maxHeartbeats 8000000 in
set_option maxRecDepth 100000 in
theorem di.calls (k:Nat) (ai:Int) (aj:Int) (a1:Int) (a2:Int) (r:Bool) (w:World) (h:di.f k ai aj a1 a2 = some r):
 Calls Try.prog 77 #[.agg #[U Z ai,U Z aj],U Z a1,U Z a2] w fun e w'=>e = .returned (.bool r)∧Below w.heap.size w w':=by
 have pz:=Try.underlying27
 have HB:=aa.mk (Below.refl w.heap.size w)
 have H:((lq.f k ai aj).bind fun t137=>(if t137 = 0 then (if ai ≥ a1 then (some (decide (aj≤a2))) else (some false)) else (some false))) = some r:=h
 clear h
 replace H:=Option.bind_eq_some_iff.mp H
 obtain ⟨t137,M0,H⟩:=H
 replace H:(if t137 = 0 then (if ai ≥ a1 then (some (decide (aj≤a2))) else (some false)) else (some false)) = some r:=H
 have A4:=aa.mk M0
 clear M0
 by_cases c5:t137 = 0
 ·rw [if_pos c5] at H
  have DI:(t137 == 0) = true:=beq_iff_eq.mpr c5
  have aj4:(t137 != 0) = false:=bne_eq_false_iff_eq.mpr c5
  clear c5
  by_cases c6:ai ≥ a1
  ·rw [if_pos c6] at H
   have GX:decide (a1≤ai) = true:=decide_eq_true c6
   clear c6
   obtain rfl:=Option.some.inj H
   go_enter Try.func77,Try.ntmps77
   go_wp2_with (first|((with_reducible refine aA (N:=3) rfl ?_);refine au (by rfl) (N:=3) (by rfl) (cs:=#[U Z ai,U Z aj]) (t:=27) fG ?_;intro axX hg w7 hbox hb;have Gy:=aa.mk (hbox);have axY:=bS HB hg;have axZ:=bS HB hg;replace HB:=cO HB hb;clear hb hbox hg;obtain ⟨Md,Me,Mf,Mg⟩:=iZ Gy.out)|((with_reducible refine aQ (f:=122) rfl ?_);refine dn (some 8) rfl rfl Try.func122 aM rfl #[.agg #[U Z ai,U Z aj]] rfl ji ?_;(with_reducible refine (lq.calls k ai aj t137 _ A4.out).mono ?_);rintro e w9 ⟨rfl,hb⟩;refine ⟨_,rfl,?_⟩;replace Gy:=aX Gy hb;replace HB:=cO HB hb;(try clear hb);(try clear hb2);(try clear hk);(try clear hi);obtain ⟨sV,sW,sZ,tq⟩:=iZ Gy.out))
   go_ret
   exact ⟨lW,gL⟩
  ·rw [if_neg c6] at H
   have GX:decide (a1≤ai) = false:=decide_eq_false c6
   clear c6
   obtain rfl:=Option.some.inj H
   go_enter Try.func77,Try.ntmps77
   go_wp2_with (first|((with_reducible refine aA (N:=3) rfl ?_);refine au (by rfl) (N:=3) (by rfl) (cs:=#[U Z ai,U Z aj]) (t:=27) fG ?_;intro axX hg w11 hbox hb;have Gy:=aa.mk (hbox);have axY:=bS HB hg;have axZ:=bS HB hg;replace HB:=cO HB hb;clear hb hbox hg;obtain ⟨o6,o7,o8,o9⟩:=iZ Gy.out)|((with_reducible refine aQ (f:=122) rfl ?_);refine dn (some 8) rfl rfl Try.func122 aM rfl #[.agg #[U Z ai,U Z aj]] rfl ji ?_;(with_reducible refine (lq.calls k ai aj t137 _ A4.out).mono ?_);rintro e FD ⟨rfl,hb⟩;refine ⟨_,rfl,?_⟩;replace Gy:=aX Gy hb;replace HB:=cO HB hb;(try clear hb);(try clear hb2);(try clear hk);(try clear hi);obtain ⟨Aq,Ar,Au,Av⟩:=iZ Gy.out))
   go_ret
   exact ⟨lW,gL⟩
 ·rw [if_neg c5] at H
  have DI:(t137 == 0) = false:=beq_eq_false_iff_ne.mpr c5
  have aj4:(t137 != 0) = true:=bne_iff_ne.mpr c5
  obtain rfl:=Option.some.inj H
  go_enter Try.func77,Try.ntmps77
  go_wp2_with (first|((with_reducible refine aA (N:=3) rfl ?_);refine au (by rfl) (N:=3) (by rfl) (cs:=#[U Z ai,U Z aj]) (t:=27) fG ?_;intro axX hg w15 hbox hb;have Gy:=aa.mk (hbox);have axY:=bS HB hg;have axZ:=bS HB hg;replace HB:=cO HB hb;clear hb hbox hg;obtain ⟨aae,aaf,aag,aah⟩:=iZ Gy.out)|((with_reducible refine aQ (f:=122) rfl ?_);refine dn (some 8) rfl rfl Try.func122 aM rfl #[.agg #[U Z ai,U Z aj]] rfl ji ?_;(with_reducible refine (lq.calls k ai aj t137 _ A4.out).mono ?_);rintro e Fb ⟨rfl,hb⟩;refine ⟨_,rfl,?_⟩;replace Gy:=aX Gy hb;replace HB:=cO HB hb;(try clear hb);(try clear hb2);(try clear hk);(try clear hi)))
  go_ret
  exact ⟨lW,gL⟩
end Go.Proofs.Ytmhaiihjfgfaoaa.Pr
end
