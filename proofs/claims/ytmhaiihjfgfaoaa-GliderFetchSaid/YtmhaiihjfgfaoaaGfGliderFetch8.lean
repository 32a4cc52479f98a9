import Derived.Test.YtmhaiihjfgfaoaaGfGliderFetch3
import Derived.Test.YtmhaiihjfgfaoaaGfGliderFetch7
set_option linter.unusedVariables false
set_option linter.unusedSimpArgs false
open Go.Value renaming int → U
open Go.IntKind renaming i64 → Z
open Bool renaming true → ab, false → ac
section
namespace Go.Proofs.Ytmhaiihjfgfaoaa.Pr
open Go.RowKit Go.Proofs.YtmhaiihjfgfaoaaW.PrintWords Go.Proofs.YtmhaiihjfgfaoaaW.PrintLast Go.Proofs.YtmhaiihjfgfaoaaW.PrintMore
attribute [local go_sem] gp gq iA iB gu
set_option linter.unusedVariables false
set_option linter.unusedSimpArgs false
def eP.f (k:Nat) (ai:Int) (aj:Int) (aC:Int) (aD:Int) (aJ:Int) (aH:Int) (aK:Int):Option (Int):=(cB.f ai 0 5000).bind fun t139=>(if t139 = true then ((cB.f aj 1 131072).bind fun t140=>(if t140 = true then ((di.f k aC aD 0 1073741824).bind fun t141=>(if t141 = true then ((di.f k aJ aH 0 1073741824).bind fun t142=>(if t142 = true then ((cB.f aK 0 1073741824).bind fun t143=>(if t143 = true then (some 0) else (some 2))) else (some 2))) else (some 2))) else (some 2))) else (some 2))
theorem eP.mono:∀ a0 a1 a2 a3 a4 a5 a6 k,pE (eP.f k a0 a1 a2 a3 a4 a5 a6) (eP.f (k+1) a0 a1 a2 a3 a4 a5 a6):=by
 intro a0 a1 a2 a3 a4 a5 a6 k
 unfold eP.f
 repeat' first
  |(with_reducible exact di.mono _ _ _ _ _)
  |(with_reducible exact pE.refl _)
  |(with_reducible exact pE.none _)
  |(with_reducible refine pE.ite ?_ ?_)
  |(with_reducible refine pE.bind ?_ (fun _=>?_))
  |exact di.mono _ _ _ _ _
  |exact pE.none _
  |refine pE.ite ?_ ?_
  |refine pE.bind ?_ (fun _=>?_)
set_option maxHeartbeats 8000000 in
set_option maxRecDepth 100000 in
theorem eP.calls (k:Nat) (ai:Int) (aj:Int) (aC:Int) (aD:Int) (aJ:Int) (aH:Int) (aK:Int) (r:Int) (w:World) (h:eP.f k ai aj aC aD aJ aH aK = some r):
 Calls Try.prog 27 #[.agg #[U Z ai,U Z aj,U Z aC,U Z aD,U Z aJ,U Z aH,U Z aK]] w fun e w'=>e = .returned (U Z r)∧Below w.heap.size w w':=by
 have Br:=Try.underlying29
 have pz:=Try.underlying27
 have HB:=aa.mk (Below.refl w.heap.size w)
 have H:((cB.f ai 0 5000).bind fun t139=>(if t139 = true then ((cB.f aj 1 131072).bind fun t140=>(if t140 = true then ((di.f k aC aD 0 1073741824).bind fun t141=>(if t141 = true then ((di.f k aJ aH 0 1073741824).bind fun t142=>(if t142 = true then ((cB.f aK 0 1073741824).bind fun t143=>(if t143 = true then (some 0) else (some 2))) else (some 2))) else (some 2))) else (some 2))) else (some 2))) = some r:=h
 clear h
 replace H:=Option.bind_eq_some_iff.mp H
 obtain ⟨t139,VR,H⟩:=H
 replace H:(if t139 = true then ((cB.f aj 1 131072).bind fun t140=>(if t140 = true then ((di.f k aC aD 0 1073741824).bind fun t141=>(if t141 = true then ((di.f k aJ aH 0 1073741824).bind fun t142=>(if t142 = true then ((cB.f aK 0 1073741824).bind fun t143=>(if t143 = true then (some 0) else (some 2))) else (some 2))) else (some 2))) else (some 2))) else (some 2)) = some r:=H
 have A2:=aa.mk VR
 clear VR
 by_cases c3:t139 = true
 ·subst c3
  have H1:((cB.f aj 1 131072).bind fun t140=>(if t140 = true then ((di.f k aC aD 0 1073741824).bind fun t141=>(if t141 = true then ((di.f k aJ aH 0 1073741824).bind fun t142=>(if t142 = true then ((cB.f aK 0 1073741824).bind fun t143=>(if t143 = true then (some 0) else (some 2))) else (some 2))) else (some 2))) else (some 2))) = some r:=by rw [if_pos rfl] at H;exact H
  clear H
  have H:=H1
  clear H1
  replace H:=Option.bind_eq_some_iff.mp H
  obtain ⟨t140,M0,H⟩:=H
  replace H:(if t140 = true then ((di.f k aC aD 0 1073741824).bind fun t141=>(if t141 = true then ((di.f k aJ aH 0 1073741824).bind fun t142=>(if t142 = true then ((cB.f aK 0 1073741824).bind fun t143=>(if t143 = true then (some 0) else (some 2))) else (some 2))) else (some 2))) else (some 2)) = some r:=H
  have A4:=aa.mk M0
  clear M0
  by_cases c5:t140 = true
  ·subst c5
   have H1:((di.f k aC aD 0 1073741824).bind fun t141=>(if t141 = true then ((di.f k aJ aH 0 1073741824).bind fun t142=>(if t142 = true then ((cB.f aK 0 1073741824).bind fun t143=>(if t143 = true then (some 0) else (some 2))) else (some 2))) else (some 2))) = some r:=by rw [if_pos rfl] at H;exact H
   clear H
   have H:=H1
   clear H1
   replace H:=Option.bind_eq_some_iff.mp H
   obtain ⟨t141,QG,H⟩:=H
   replace H:(if t141 = true then ((di.f k aJ aH 0 1073741824).bind fun t142=>(if t142 = true then ((cB.f aK 0 1073741824).bind fun t143=>(if t143 = true then (some 0) else (some 2))) else (some 2))) else (some 2)) = some r:=H
   have A6:=aa.mk QG
   clear QG
   by_cases c7:t141 = true
   ·subst c7
    have H1:((di.f k aJ aH 0 1073741824).bind fun t142=>(if t142 = true then ((cB.f aK 0 1073741824).bind fun t143=>(if t143 = true then (some 0) else (some 2))) else (some 2))) = some r:=by rw [if_pos rfl] at H;exact H
    clear H
    have H:=H1
    clear H1
    replace H:=Option.bind_eq_some_iff.mp H
    obtain ⟨t142,QO,H⟩:=H
    replace H:(if t142 = true then ((cB.f aK 0 1073741824).bind fun t143=>(if t143 = true then (some 0) else (some 2))) else (some 2)) = some r:=H
    have A8:=aa.mk QO
    clear QO
    by_cases c9:t142 = true
    ·subst c9
     have H1:((cB.f aK 0 1073741824).bind fun t143=>(if t143 = true then (some 0) else (some 2))) = some r:=by rw [if_pos rfl] at H;exact H
     clear H
     have H:=H1
     clear H1
     replace H:=Option.bind_eq_some_iff.mp H
     obtain ⟨t143,FP,H⟩:=H
     replace H:(if t143 = true then (some 0) else (some 2)) = some r:=H
     have QJ:=aa.mk FP
     clear FP
     by_cases c11:t143 = true
     ·subst c11
      have H1:(some 0) = some r:=by rw [if_pos rfl] at H;exact H
      clear H
      have H:=H1
      clear H1
      obtain rfl:=Option.some.inj H
      go_enter Try.func27,Try.ntmps27
      go_wp2_with (first|((with_reducible refine aA (N:=1) rfl ?_);refine au (by rfl) (N:=1) (by rfl) (cs:=#[U Z ai,U Z aj,U Z aC,U Z aD,U Z aJ,U Z aH,U Z aK]) (t:=29) fG ?_;intro adk hg O3 hbox hb;have pJ:=aa.mk (hbox);have adl:=bS HB hg;have adm:=bS HB hg;replace HB:=cO HB hb;clear hb hbox hg;obtain ⟨ug,uh,Aw,Ay,Ht,Hu,OZ,ui,uj,Az,AA,Hw,Hy,O0⟩:=jF pJ.out)|((with_reducible refine aQ (f:=74) rfl ?_);refine dn (some 5) rfl rfl Try.func74 aM rfl #[U Z ai,U Z 0,U Z 5000] rfl ji ?_;(with_reducible refine (cB.calls ai 0 5000 true _ A2.out).mono ?_);rintro e w' ⟨rfl,⟨nd,rfl⟩⟩;refine ⟨_,rfl,?_⟩)|(go_at_call 74;(with_reducible refine (cB.calls aj 1 131072 true _ A4.out).mono ?_);rintro e w' ⟨rfl,⟨nd,rfl⟩⟩)|(go_at_call 77;(with_reducible refine (di.calls k aC aD 0 1073741824 true _ A6.out).mono ?_);rintro e w14 ⟨rfl,hb⟩;replace pJ:=aX pJ hb;replace HB:=cO HB hb;(try clear hb);(try clear hb2);(try clear hk);(try clear hi);obtain ⟨oL,oM,sP,sQ,uC,uD,AV,oN,oO,sS,sU,uE,uF,AX⟩:=jF pJ.out)|(go_at_call 77;(with_reducible refine (di.calls k aJ aH 0 1073741824 true _ A8.out).mono ?_);rintro e w16 ⟨rfl,hb⟩;replace pJ:=aX pJ hb;replace HB:=cO HB hb;(try clear hb);(try clear hb2);(try clear hk);(try clear hi);obtain ⟨uy,uz,xY,xZ,Ei,Ej,JV,uA,uB,yc,yf,El,Em,JW⟩:=jF pJ.out)|(go_at_call 74;(with_reducible refine (cB.calls aK 0 1073741824 true _ QJ.out).mono ?_);rintro e w' ⟨rfl,⟨nd,rfl⟩⟩))
      go_ret
      exact ⟨lW,gL⟩
     ·replace c11:=Bool.eq_false_iff.mpr c11
      subst c11
      have H1:(some 2) = some r:=by rw [if_neg (show ¬ (false = true) by decide)] at H;exact H
      clear H
      have H:=H1
      clear H1
      obtain rfl:=Option.some.inj H
      go_enter Try.func27,Try.ntmps27
      go_wp2_with (first|((with_reducible refine aA (N:=1) rfl ?_);refine au (by rfl) (N:=1) (by rfl) (cs:=#[U Z ai,U Z aj,U Z aC,U Z aD,U Z aJ,U Z aH,U Z aK]) (t:=29) fG ?_;intro adk hg w18 hbox hb;have pJ:=aa.mk (hbox);have adl:=bS HB hg;have adm:=bS HB hg;replace HB:=cO HB hb;clear hb hbox hg;obtain ⟨vU,vV,yg,yh,Cs,Ct,He,vW,vX,yj,yl,Cu,Cv,Hf⟩:=jF pJ.out)|((with_reducible refine aQ (f:=74) rfl ?_);refine dn (some 5) rfl rfl Try.func74 aM rfl #[U Z ai,U Z 0,U Z 5000] rfl ji ?_;(with_reducible refine (cB.calls ai 0 5000 true _ A2.out).mono ?_);rintro e w' ⟨rfl,⟨nd,rfl⟩⟩;refine ⟨_,rfl,?_⟩)|(go_at_call 74;(with_reducible refine (cB.calls aj 1 131072 true _ A4.out).mono ?_);rintro e w' ⟨rfl,⟨nd,rfl⟩⟩)|(go_at_call 77;(with_reducible refine (di.calls k aC aD 0 1073741824 true _ A6.out).mono ?_);rintro e I4 ⟨rfl,hb⟩;replace pJ:=aX pJ hb;replace HB:=cO HB hb;(try clear hb);(try clear hb2);(try clear hk);(try clear hi);obtain ⟨xO,xP,Kz,KA,KC,KD,KE,xQ,xR,KF,KG,KH,KI,KJ⟩:=jF pJ.out)|(go_at_call 77;(with_reducible refine (di.calls k aJ aH 0 1073741824 true _ A8.out).mono ?_);rintro e w22 ⟨rfl,hb⟩;replace pJ:=aX pJ hb;replace HB:=cO HB hb;(try clear hb);(try clear hb2);(try clear hk);(try clear hi);obtain ⟨Ce,Cf,Ip,Iq,Ir,Iu,KL,Cg,Ch,Iw,Iy,Iz,IA,KM⟩:=jF pJ.out)|(go_at_call 74;(with_reducible refine (cB.calls aK 0 1073741824 false _ QJ.out).mono ?_);rintro e w' ⟨rfl,⟨nd,rfl⟩⟩))
      go_ret
      exact ⟨lW,gL⟩
    ·replace c9:=Bool.eq_false_iff.mpr c9
     subst c9
     have H1:(some 2) = some r:=by rw [if_neg (show ¬ (false = true) by decide)] at H;exact H
     clear H
     have H:=H1
     clear H1
     obtain rfl:=Option.some.inj H
     go_enter Try.func27,Try.ntmps27
     go_wp2_with (first|((with_reducible refine aA (N:=1) rfl ?_);refine au (by rfl) (N:=1) (by rfl) (cs:=#[U Z ai,U Z aj,U Z aC,U Z aD,U Z aJ,U Z aH,U Z aK]) (t:=29) fG ?_;intro adk hg w24 hbox hb;have pJ:=aa.mk (hbox);have adl:=bS HB hg;have adm:=bS HB hg;replace HB:=cO HB hb;clear hb hbox hg;obtain ⟨Bc,Bd,Ez,EA,Kr,Kt,Ku,Be,Bf,EB,EC,Kv,Kw,Ky⟩:=jF pJ.out)|((with_reducible refine aQ (f:=74) rfl ?_);refine dn (some 5) rfl rfl Try.func74 aM rfl #[U Z ai,U Z 0,U Z 5000] rfl ji ?_;(with_reducible refine (cB.calls ai 0 5000 true _ A2.out).mono ?_);rintro e w' ⟨rfl,⟨nd,rfl⟩⟩;refine ⟨_,rfl,?_⟩)|(go_at_call 74;(with_reducible refine (cB.calls aj 1 131072 true _ A4.out).mono ?_);rintro e w' ⟨rfl,⟨nd,rfl⟩⟩)|(go_at_call 77;(with_reducible refine (di.calls k aC aD 0 1073741824 true _ A6.out).mono ?_);rintro e xk ⟨rfl,hb⟩;replace pJ:=aX pJ hb;replace HB:=cO HB hb;(try clear hb);(try clear hb2);(try clear hk);(try clear hi);obtain ⟨CB,CE,CF,CG,EM,EN,EO,CJ,CK,CL,CO,EP,ER,ES⟩:=jF pJ.out)|(go_at_call 77;(with_reducible refine (di.calls k aJ aH 0 1073741824 false _ A8.out).mono ?_);rintro e w28 ⟨rfl,hb⟩;replace pJ:=aX pJ hb;replace HB:=cO HB hb;(try clear hb);(try clear hb2);(try clear hk);(try clear hi)))
     go_ret
     exact ⟨lW,gL⟩
   ·replace c7:=Bool.eq_false_iff.mpr c7
    subst c7
    have H1:(some 2) = some r:=by rw [if_neg (show ¬ (false = true) by decide)] at H;exact H
    clear H
    have H:=H1
    clear H1
    obtain rfl:=Option.some.inj H
    go_enter Try.func27,Try.ntmps27
    go_wp2_with (first|((with_reducible refine aA (N:=1) rfl ?_);refine au (by rfl) (N:=1) (by rfl) (cs:=#[U Z ai,U Z aj,U Z aC,U Z aD,U Z aJ,U Z aH,U Z aK]) (t:=29) fG ?_;intro adk hg w29 hbox hb;have pJ:=aa.mk (hbox);have adl:=bS HB hg;have adm:=bS HB hg;replace HB:=cO HB hb;clear hb hbox hg;obtain ⟨ED,EE,Ig,Ih,NI,NJ,NK,EF,EG,Ii,Ij,NL,NM,NN⟩:=jF pJ.out)|((with_reducible refine aQ (f:=74) rfl ?_);refine dn (some 5) rfl rfl Try.func74 aM rfl #[U Z ai,U Z 0,U Z 5000] rfl ji ?_;(with_reducible refine (cB.calls ai 0 5000 true _ A2.out).mono ?_);rintro e w' ⟨rfl,⟨nd,rfl⟩⟩;refine ⟨_,rfl,?_⟩)|(go_at_call 74;(with_reducible refine (cB.calls aj 1 131072 true _ A4.out).mono ?_);rintro e w' ⟨rfl,⟨nd,rfl⟩⟩)|(go_at_call 77;(with_reducible refine (di.calls k aC aD 0 1073741824 false _ A6.out).mono ?_);rintro e w31 ⟨rfl,hb⟩;replace pJ:=aX pJ hb;replace HB:=cO HB hb;(try clear hb);(try clear hb2);(try clear hk);(try clear hi)))
    go_ret
    exact ⟨lW,gL⟩
  ·replace c5:=Bool.eq_false_iff.mpr c5
   subst c5
   have H1:(some 2) = some r:=by rw [if_neg (show ¬ (false = true) by decide)] at H;exact H
   clear H
   have H:=H1
   clear H1
   obtain rfl:=Option.some.inj H
   go_enter Try.func27,Try.ntmps27
   go_wp2_with (first|((with_reducible refine aA (N:=1) rfl ?_);refine au (by rfl) (N:=1) (by rfl) (cs:=#[U Z ai,U Z aj,U Z aC,U Z aD,U Z aJ,U Z aH,U Z aK]) (t:=29) fG ?_;intro adk hg w32 hbox hb;have pJ:=aa.mk (hbox);have adl:=bS HB hg;have adm:=bS HB hg;replace HB:=cO HB hb;clear hb hbox hg;obtain ⟨Bg,Bh,Ik,Il,agK,agL,agM,Bi,Bj,Im,Io,agN,agO,agP⟩:=jF pJ.out)|((with_reducible refine aQ (f:=74) rfl ?_);refine dn (some 5) rfl rfl Try.func74 aM rfl #[U Z ai,U Z 0,U Z 5000] rfl ji ?_;(with_reducible refine (cB.calls ai 0 5000 true _ A2.out).mono ?_);rintro e w' ⟨rfl,⟨nd,rfl⟩⟩;refine ⟨_,rfl,?_⟩)|(go_at_call 74;(with_reducible refine (cB.calls aj 1 131072 false _ A4.out).mono ?_);rintro e w' ⟨rfl,⟨nd,rfl⟩⟩))
   go_ret
   exact ⟨lW,gL⟩
 ·replace c3:=Bool.eq_false_iff.mpr c3
  subst c3
  have H1:(some 2) = some r:=by rw [if_neg (show ¬ (false = true) by decide)] at H;exact H
  clear H
  have H:=H1
  clear H1
  obtain rfl:=Option.some.inj H
  go_enter Try.func27,Try.ntmps27
  go_wp2_with (first|((with_reducible refine aA (N:=1) rfl ?_);refine au (by rfl) (N:=1) (by rfl) (cs:=#[U Z ai,U Z aj,U Z aC,U Z aD,U Z aJ,U Z aH,U Z aK]) (t:=29) fG ?_;intro adk hg w34 hbox hb;have pJ:=aa.mk (hbox);have adl:=bS HB hg;have adm:=bS HB hg;replace HB:=cO HB hb;clear hb hbox hg;obtain ⟨D6,D7,JL,JM,Tu,Tv,Tw,D8,D9,JN,JO,Tx,Ty,Tz⟩:=jF pJ.out)|((with_reducible refine aQ (f:=74) rfl ?_);refine dn (some 5) rfl rfl Try.func74 aM rfl #[U Z ai,U Z 0,U Z 5000] rfl ji ?_;(with_reducible refine (cB.calls ai 0 5000 false _ A2.out).mono ?_);rintro e w' ⟨rfl,⟨nd,rfl⟩⟩;refine ⟨_,rfl,?_⟩))
  go_ret
  exact ⟨lW,gL⟩
def kP.f (k:Nat) (ai:Int) (aj:Int) (aC:Int) (aD:Int) (aJ:Int) (aH:Int) (aK:Int) (aI:Int) (aG:Int):Option (Int × Int):=(eP.f k ai aj aC aD aJ aH aK).bind fun Fw=>(if Fw = 0 then ((di.f k aI aG 0 1073741824).bind fun VC=>(if VC = true then (if aI < aK then (some (0,19)) else (if (mx aD aH) = 0 then (some (0,4)) else (some (wrap64 (Int.tdiv (wrap64 (aI - aK)) (mx aD aH)),0)))) else (some (0,2)))) else (some (0,Fw)))
theorem kP.mono:∀ a0 a1 a2 a3 a4 a5 a6 a7 a8 k,pE (kP.f k a0 a1 a2 a3 a4 a5 a6 a7 a8) (kP.f (k+1) a0 a1 a2 a3 a4 a5 a6 a7 a8):=by
 intro a0 a1 a2 a3 a4 a5 a6 a7 a8 k
 unfold kP.f
 repeat' first
  |(with_reducible exact eP.mono _ _ _ _ _ _ _ _)
  |(with_reducible exact di.mono _ _ _ _ _)
  |(with_reducible exact pE.refl _)
  |(with_reducible exact pE.none _)
  |(with_reducible refine pE.ite ?_ ?_)
  |(with_reducible refine pE.bind ?_ (fun _=>?_))
  |exact eP.mono _ _ _ _ _ _ _ _
  |exact di.mono _ _ _ _ _
  |exact pE.none _
  |refine pE.ite ?_ ?_
  |refine pE.bind ?_ (fun _=>?_)
set_option maxHeartbeats 8000000 in
set_option maxRecDepth 100000 in
theorem kP.calls (k:Nat) (ai:Int) (aj:Int) (aC:Int) (aD:Int) (aJ:Int) (aH:Int) (aK:Int) (aI:Int) (aG:Int) (r1:Int) (r2:Int) (w:World) (h:kP.f k ai aj aC aD aJ aH aK aI aG = some (r1,r2)):
 Calls Try.prog 37 #[.agg #[U Z ai,U Z aj,U Z aC,U Z aD,U Z aJ,U Z aH,U Z aK],.agg #[U Z aI,U Z aG]] w fun e w'=>e = .returned (.tuple #[U Z r1,U Z r2])∧Below w.heap.size w w':=by
 have Br:=Try.underlying29
 have pz:=Try.underlying27
 have HB:=aa.mk (Below.refl w.heap.size w)
 have H:((eP.f k ai aj aC aD aJ aH aK).bind fun Fw=>(if Fw = 0 then ((di.f k aI aG 0 1073741824).bind fun VC=>(if VC = true then (if aI < aK then (some (0,19)) else (if (mx aD aH) = 0 then (some (0,4)) else (some (wrap64 (Int.tdiv (wrap64 (aI - aK)) (mx aD aH)),0)))) else (some (0,2)))) else (some (0,Fw)))) = some (r1,r2):=h
 clear h
 obtain ⟨Dn,Jb⟩:∃ j_:Int,(mx aD aH) = j_:=⟨_,rfl⟩
 replace H:((eP.f k ai aj aC aD aJ aH aK).bind fun Fw=>(if Fw = 0 then ((di.f k aI aG 0 1073741824).bind fun VC=>(if VC = true then (if aI < aK then (some (0,19)) else (if (Dn) = 0 then (some (0,4)) else (some (wrap64 (Int.tdiv (wrap64 (aI - aK)) (Dn)),0)))) else (some (0,2)))) else (some (0,Fw)))) = some (r1,r2):=by first|(rw [Jb] at H;exact H)|(simp only [Jb] at H ⊢;exact H)
 have alN:(if aD < aH then aH else aD) = Dn:=Jb
 replace H:=Option.bind_eq_some_iff.mp H
 obtain ⟨Fw,M0,H⟩:=H
 replace H:(if Fw = 0 then ((di.f k aI aG 0 1073741824).bind fun VC=>(if VC = true then (if aI < aK then (some (0,19)) else (if (Dn) = 0 then (some (0,4)) else (some (wrap64 (Int.tdiv (wrap64 (aI - aK)) (Dn)),0)))) else (some (0,2)))) else (some (0,Fw))) = some (r1,r2):=H
 have A4:=aa.mk M0
 clear M0
 by_cases c5:Fw = 0
 ·rw [if_pos c5] at H
  have DI:(Fw == 0) = true:=beq_iff_eq.mpr c5
  have aj4:(Fw != 0) = false:=bne_eq_false_iff_eq.mpr c5
  clear c5
  replace H:=Option.bind_eq_some_iff.mp H
  obtain ⟨VC,QG,H⟩:=H
  replace H:(if VC = true then (if aI < aK then (some (0,19)) else (if (Dn) = 0 then (some (0,4)) else (some (wrap64 (Int.tdiv (wrap64 (aI - aK)) (Dn)),0)))) else (some (0,2))) = some (r1,r2):=H
  have A6:=aa.mk QG
  clear QG
  by_cases c7:VC = true
  ·subst c7
   have H1:(if aI < aK then (some (0,19)) else (if (Dn) = 0 then (some (0,4)) else (some (wrap64 (Int.tdiv (wrap64 (aI - aK)) (Dn)),0)))) = some (r1,r2):=by rw [if_pos rfl] at H;exact H
   clear H
   have H:=H1
   clear H1
   by_cases c8:aI < aK
   ·rw [if_pos c8] at H
    have Lf:decide (aI < aK) = true:=decide_eq_true c8
    clear c8
    simp only [Option.some.injEq,Prod.mk.injEq] at H
    obtain ⟨rfl,rfl⟩:=H
    go_enter Try.func37,Try.ntmps37
    go_wp2_with (first|((with_reducible refine aA (N:=2) rfl ?_);refine au (by rfl) (N:=2) (by rfl) (cs:=#[U Z ai,U Z aj,U Z aC,U Z aD,U Z aJ,U Z aH,U Z aK]) (t:=29) fG ?_;intro ajx hg w9 hbox hb;have kK:=aa.mk (hbox);have ajy:=bS HB hg;have ajz:=bS HB hg;replace HB:=cO HB hb;clear hb hbox hg)|((with_reducible refine aA (N:=3) rfl ?_);refine au (by rfl) (N:=3) (by rfl) (cs:=#[U Z aI,U Z aG]) (t:=27) fG ?_;intro ajA hg w10 hbox hb;have qj:=aa.mk (hbox);have ajB:=bS HB hg;have ajC:=bS HB hg;have uZ:=eQ kK hg;have u6:=eT kK hg;replace kK:=aX kK hb;replace HB:=cO HB hb;clear hb hbox hg;have VN:=uZ.out;have VO:=u6.out;obtain ⟨o6,o7,JD,JE,afM,afN,afO,o8,o9,JF,JG,afP,afQ,afR⟩:=jF kK.out)|((with_reducible refine aQ (f:=27) rfl ?_);refine dn (some 16) rfl rfl Try.func27 aM rfl #[.agg #[U Z ai,U Z aj,U Z aC,U Z aD,U Z aJ,U Z aH,U Z aK]] rfl ji ?_;(with_reducible refine (eP.calls k ai aj aC aD aJ aH aK Fw _ A4.out).mono ?_);rintro e FD ⟨rfl,hb⟩;refine ⟨_,rfl,?_⟩;replace kK:=aX kK hb;replace qj:=aX qj hb;replace HB:=cO HB hb;(try clear hb);(try clear hb2);(try clear hk);(try clear hi);obtain ⟨Aq,Ar,Au,Av⟩:=iZ qj.out)|((with_reducible refine aQ (f:=77) rfl ?_);refine dn (some 23) rfl rfl Try.func77 aM rfl #[.agg #[U Z aI,U Z aG],U Z 0,U Z 1073741824] rfl ji ?_;(with_reducible refine (di.calls k aI aG 0 1073741824 true _ A6.out).mono ?_);rintro e w15 ⟨rfl,hb⟩;refine ⟨_,rfl,?_⟩;replace kK:=aX kK hb;replace qj:=aX qj hb;replace HB:=cO HB hb;(try clear hb);(try clear hb2);(try clear hk);(try clear hi);obtain ⟨aae,aaf,aag,aah⟩:=iZ qj.out;obtain ⟨uy,uz,xY,xZ,Ei,Ej,JV,uA,uB,yc,yf,El,Em,JW⟩:=jF kK.out))
    go_ret2
    exact ⟨anW,gL⟩
   ·rw [if_neg c8] at H
    have Lf:decide (aI < aK) = false:=decide_eq_false c8
    clear c8
    by_cases c18:(Dn) = 0
    ·rw [if_pos c18] at H
     have QV:((Dn) == 0) = true:=beq_iff_eq.mpr c18
     have aOr:((Dn) != 0) = false:=bne_eq_false_iff_eq.mpr c18
     clear c18
     simp only [Option.some.injEq,Prod.mk.injEq] at H
     obtain ⟨rfl,rfl⟩:=H
     go_enter Try.func37,Try.ntmps37
     go_wp2_with (first|((with_reducible refine aA (N:=2) rfl ?_);refine au (by rfl) (N:=2) (by rfl) (cs:=#[U Z ai,U Z aj,U Z aC,U Z aD,U Z aJ,U Z aH,U Z aK]) (t:=29) fG ?_;intro ajx hg w19 hbox hb;have kK:=aa.mk (hbox);have ajy:=bS HB hg;have ajz:=bS HB hg;replace HB:=cO HB hb;clear hb hbox hg)|((with_reducible refine aA (N:=3) rfl ?_);refine au (by rfl) (N:=3) (by rfl) (cs:=#[U Z aI,U Z aG]) (t:=27) fG ?_;intro ajA hg I4 hbox hb;have qj:=aa.mk (hbox);have ajB:=bS HB hg;have ajC:=bS HB hg;have uZ:=eQ kK hg;have u6:=eT kK hg;replace kK:=aX kK hb;replace HB:=cO HB hb;clear hb hbox hg;have V7:=uZ.out;have V8:=u6.out;obtain ⟨Ob,Oc,Y0,Y1,ahY,ahZ,ah0,Od,Oe,Y2,Y3,ah1,ah2,ah3⟩:=jF kK.out)|((with_reducible refine aQ (f:=27) rfl ?_);refine dn (some 16) rfl rfl Try.func27 aM rfl #[.agg #[U Z ai,U Z aj,U Z aC,U Z aD,U Z aJ,U Z aH,U Z aK]] rfl ji ?_;(with_reducible refine (eP.calls k ai aj aC aD aJ aH aK Fw _ A4.out).mono ?_);rintro e w23 ⟨rfl,hb⟩;refine ⟨_,rfl,?_⟩;replace kK:=aX kK hb;replace qj:=aX qj hb;replace HB:=cO HB hb;(try clear hb);(try clear hb2);(try clear hk);(try clear hi);obtain ⟨rC,rD,rE,rF⟩:=iZ qj.out)|((with_reducible refine aQ (f:=77) rfl ?_);refine dn (some 23) rfl rfl Try.func77 aM rfl #[.agg #[U Z aI,U Z aG],U Z 0,U Z 1073741824] rfl ji ?_;(with_reducible refine (di.calls k aI aG 0 1073741824 true _ A6.out).mono ?_);rintro e w25 ⟨rfl,hb⟩;refine ⟨_,rfl,?_⟩;replace kK:=aX kK hb;replace qj:=aX qj hb;replace HB:=cO HB hb;(try clear hb);(try clear hb2);(try clear hk);(try clear hi);obtain ⟨Xg,Xh,Xi,Xj⟩:=iZ qj.out;obtain ⟨CB,CE,CF,CG,EM,EN,EO,CJ,CK,CL,CO,EP,ER,ES⟩:=jF kK.out))
     go_ret2
     exact ⟨anW,gL⟩
    ·rw [if_neg c18] at H
     have QV:((Dn) == 0) = false:=beq_eq_false_iff_ne.mpr c18
     have aOr:((Dn) != 0) = true:=bne_iff_ne.mpr c18
     simp only [Option.some.injEq,Prod.mk.injEq] at H
     obtain ⟨rfl,rfl⟩:=H
     go_enter Try.func37,Try.ntmps37
     go_wp2_with (first|((with_reducible refine aA (N:=2) rfl ?_);refine au (by rfl) (N:=2) (by rfl) (cs:=#[U Z ai,U Z aj,U Z aC,U Z aD,U Z aJ,U Z aH,U Z aK]) (t:=29) fG ?_;intro ajx hg w28 hbox hb;have kK:=aa.mk (hbox);have ajy:=bS HB hg;have ajz:=bS HB hg;replace HB:=cO HB hb;clear hb hbox hg)|((with_reducible refine aA (N:=3) rfl ?_);refine au (by rfl) (N:=3) (by rfl) (cs:=#[U Z aI,U Z aG]) (t:=27) fG ?_;intro ajA hg w29 hbox hb;have qj:=aa.mk (hbox);have ajB:=bS HB hg;have ajC:=bS HB hg;have uZ:=eQ kK hg;have u6:=eT kK hg;replace kK:=aX kK hb;replace HB:=cO HB hb;clear hb hbox hg;have abZ:=uZ.out;have ab0:=u6.out;obtain ⟨Sq,Sr,Yw,Yx,ajr,ajs,ajt,Su,Sv,Yy,Yz,aju,ajv,ajw⟩:=jF kK.out)|((with_reducible refine aQ (f:=27) rfl ?_);refine dn (some 16) rfl rfl Try.func27 aM rfl #[.agg #[U Z ai,U Z aj,U Z aC,U Z aD,U Z aJ,U Z aH,U Z aK]] rfl ji ?_;(with_reducible refine (eP.calls k ai aj aC aD aJ aH aK Fw _ A4.out).mono ?_);rintro e w32 ⟨rfl,hb⟩;refine ⟨_,rfl,?_⟩;replace kK:=aX kK hb;replace qj:=aX qj hb;replace HB:=cO HB hb;(try clear hb);(try clear hb2);(try clear hk);(try clear hi);obtain ⟨Bg,Bh,Bi,Bj⟩:=iZ qj.out)|((with_reducible refine aQ (f:=77) rfl ?_);refine dn (some 23) rfl rfl Try.func77 aM rfl #[.agg #[U Z aI,U Z aG],U Z 0,U Z 1073741824] rfl ji ?_;(with_reducible refine (di.calls k aI aG 0 1073741824 true _ A6.out).mono ?_);rintro e w34 ⟨rfl,hb⟩;refine ⟨_,rfl,?_⟩;replace kK:=aX kK hb;replace qj:=aX qj hb;replace HB:=cO HB hb;(try clear hb);(try clear hb2);(try clear hk);(try clear hi);obtain ⟨D6,D7,D8,D9⟩:=iZ qj.out;obtain ⟨ND,NF,Sd,Sg,agE,agF,agG,NG,NH,Si,Sj,agH,agI,agJ⟩:=jF kK.out))
     go_ret2
     exact ⟨anW,gL⟩
  ·replace c7:=Bool.eq_false_iff.mpr c7
   subst c7
   have H1:(some (0,2)) = some (r1,r2):=by rw [if_neg (show ¬ (false = true) by decide)] at H;exact H
   clear H
   have H:=H1
   clear H1
   simp only [Option.some.injEq,Prod.mk.injEq] at H
   obtain ⟨rfl,rfl⟩:=H
   go_enter Try.func37,Try.ntmps37
   go_wp2_with (first|((with_reducible refine aA (N:=2) rfl ?_);refine au (by rfl) (N:=2) (by rfl) (cs:=#[U Z ai,U Z aj,U Z aC,U Z aD,U Z aJ,U Z aH,U Z aK]) (t:=29) fG ?_;intro ajx hg w37 hbox hb;have kK:=aa.mk (hbox);have ajy:=bS HB hg;have ajz:=bS HB hg;replace HB:=cO HB hb;clear hb hbox hg)|((with_reducible refine aA (N:=3) rfl ?_);refine au (by rfl) (N:=3) (by rfl) (cs:=#[U Z aI,U Z aG]) (t:=27) fG ?_;intro ajA hg w38 hbox hb;have qj:=aa.mk (hbox);have ajB:=bS HB hg;have ajC:=bS HB hg;have uZ:=eQ kK hg;have u6:=eT kK hg;replace kK:=aX kK hb;replace HB:=cO HB hb;clear hb hbox hg;have aoh:=uZ.out;have aoi:=u6.out;obtain ⟨IB,IC,KV,KW,OO,OP,OQ,IE,IG,KX,KY,OT,OU,OV⟩:=jF kK.out)|((with_reducible refine aQ (f:=27) rfl ?_);refine dn (some 16) rfl rfl Try.func27 aM rfl #[.agg #[U Z ai,U Z aj,U Z aC,U Z aD,U Z aJ,U Z aH,U Z aK]] rfl ji ?_;(with_reducible refine (eP.calls k ai aj aC aD aJ aH aK Fw _ A4.out).mono ?_);rintro e w41 ⟨rfl,hb⟩;refine ⟨_,rfl,?_⟩;replace kK:=aX kK hb;replace qj:=aX qj hb;replace HB:=cO HB hb;(try clear hb);(try clear hb2);(try clear hk);(try clear hi);obtain ⟨aic,aid,aie,aif⟩:=iZ qj.out)|((with_reducible refine aQ (f:=77) rfl ?_);refine dn (some 23) rfl rfl Try.func77 aM rfl #[.agg #[U Z aI,U Z aG],U Z 0,U Z 1073741824] rfl ji ?_;(with_reducible refine (di.calls k aI aG 0 1073741824 false _ A6.out).mono ?_);rintro e w43 ⟨rfl,hb⟩;refine ⟨_,rfl,?_⟩;replace kK:=aX kK hb;replace qj:=aX qj hb;replace HB:=cO HB hb;(try clear hb);(try clear hb2);(try clear hk);(try clear hi)))
   go_ret2
   exact ⟨anW,gL⟩
 ·rw [if_neg c5] at H
  have DI:(Fw == 0) = false:=beq_eq_false_iff_ne.mpr c5
  have aj4:(Fw != 0) = true:=bne_iff_ne.mpr c5
  simp only [Option.some.injEq,Prod.mk.injEq] at H
  obtain ⟨rfl,rfl⟩:=H
  go_enter Try.func37,Try.ntmps37
  go_wp2_with (first|((with_reducible refine aA (N:=2) rfl ?_);refine au (by rfl) (N:=2) (by rfl) (cs:=#[U Z ai,U Z aj,U Z aC,U Z aD,U Z aJ,U Z aH,U Z aK]) (t:=29) fG ?_;intro ajx hg w44 hbox hb;have kK:=aa.mk (hbox);have ajy:=bS HB hg;have ajz:=bS HB hg;replace HB:=cO HB hb;clear hb hbox hg)|((with_reducible refine aA (N:=3) rfl ?_);refine au (by rfl) (N:=3) (by rfl) (cs:=#[U Z aI,U Z aG]) (t:=27) fG ?_;intro ajA hg w45 hbox hb;have qj:=aa.mk (hbox);have ajB:=bS HB hg;have ajC:=bS HB hg;have uZ:=eQ kK hg;have u6:=eT kK hg;replace kK:=aX kK hb;replace HB:=cO HB hb;clear hb hbox hg;have agh:=uZ.out;have agi:=u6.out;obtain ⟨Zk,Zl,ajn,ajo,avP,avQ,avR,Zm,Zn,ajp,ajq,avS,avT,avU⟩:=jF kK.out)|((with_reducible refine aQ (f:=27) rfl ?_);refine dn (some 16) rfl rfl Try.func27 aM rfl #[.agg #[U Z ai,U Z aj,U Z aC,U Z aD,U Z aJ,U Z aH,U Z aK]] rfl ji ?_;(with_reducible refine (eP.calls k ai aj aC aD aJ aH aK Fw _ A4.out).mono ?_);rintro e w48 ⟨rfl,hb⟩;refine ⟨_,rfl,?_⟩;replace kK:=aX kK hb;replace qj:=aX qj hb;replace HB:=cO HB hb;(try clear hb);(try clear hb2);(try clear hk);(try clear hi)))
  go_ret2
  exact ⟨anW,gL⟩
end Go.Proofs.Ytmhaiihjfgfaoaa.Pr
end
