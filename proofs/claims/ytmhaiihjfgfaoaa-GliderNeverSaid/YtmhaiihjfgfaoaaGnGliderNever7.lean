import Derived.Test.YtmhaiihjfgfaoaaGnGliderNever3
import Derived.Test.YtmhaiihjfgfaoaaGnGliderNever6
open Go.Value renaming int → Z
open Go.IntKind renaming i64 → ab
open Bool renaming true → ac, false → al
section
namespace Go.Proofs.Ytmhaiihjfgfaoaa.Pr
open Go.RowKit Go.Proofs.YtmhaiihjfgfaoaaW.PrintWords Go.Proofs.YtmhaiihjfgfaoaaW.PrintLast Go.Proofs.YtmhaiihjfgfaoaaW.PrintMore
attribute [local go_sem] dw dx dM dN dz
set_option linter.unusedVariables false
set_option linter.unusedSimpArgs false
def bG.f (k:Nat) (ax:Int) (av:Int) (aH:Int) (aG:Int) (aQ:Int) (aN:Int) (aM:Int):Option (Int):=(aV.f ax 0 5000).bind fun t139=>(if t139 = true then ((aV.f av 1 131072).bind fun t140=>(if t140 = true then ((aY.f k aH aG 0 1073741824).bind fun t141=>(if t141 = true then ((aY.f k aQ aN 0 1073741824).bind fun t142=>(if t142 = true then ((aV.f aM 0 1073741824).bind fun t143=>(if t143 = true then (some 0) else (some 2))) else (some 2))) else (some 2))) else (some 2))) else (some 2))
theorem bG.mono:∀ a0 a1 a2 a3 a4 a5 a6 k,jK (bG.f k a0 a1 a2 a3 a4 a5 a6) (bG.f (k+1) a0 a1 a2 a3 a4 a5 a6):=by
 intro a0 a1 a2 a3 a4 a5 a6 k
 unfold bG.f
 repeat' first
  |(with_reducible exact aY.mono _ _ _ _ _)
  |(with_reducible exact jK.refl _)
  |(with_reducible exact jK.none _)
  |(with_reducible refine jK.ite ?_ ?_)
  |(with_reducible refine jK.bind ?_ (fun _=>?_))
  |exact aY.mono _ _ _ _ _
  |exact jK.none _
  |refine jK.ite ?_ ?_
  |refine jK.bind ?_ (fun _=>?_)
set_option maxHeartbeats 8000000 in
set_option maxRecDepth 100000 in
theorem bG.calls (k:Nat) (ax:Int) (av:Int) (aH:Int) (aG:Int) (aQ:Int) (aN:Int) (aM:Int) (r:Int) (w:World) (h:bG.f k ax av aH aG aQ aN aM = some r):
 Calls Try.prog 27 #[.agg #[Z ab ax,Z ab av,Z ab aH,Z ab aG,Z ab aQ,Z ab aN,Z ab aM]] w fun e w'=>e = .returned (Z ab r)∧Below w.heap.size w w':=by
 have xX:=Try.underlying29
 have mE:=Try.underlying27
 have HB:=ag.mk (Below.refl w.heap.size w)
 have H:((aV.f ax 0 5000).bind fun t139=>(if t139 = true then ((aV.f av 1 131072).bind fun t140=>(if t140 = true then ((aY.f k aH aG 0 1073741824).bind fun t141=>(if t141 = true then ((aY.f k aQ aN 0 1073741824).bind fun t142=>(if t142 = true then ((aV.f aM 0 1073741824).bind fun t143=>(if t143 = true then (some 0) else (some 2))) else (some 2))) else (some 2))) else (some 2))) else (some 2))) = some r:=h
 clear h
 replace H:=Option.bind_eq_some_iff.mp H
 obtain ⟨t139,Yt,H⟩:=H
 replace H:(if t139 = true then ((aV.f av 1 131072).bind fun t140=>(if t140 = true then ((aY.f k aH aG 0 1073741824).bind fun t141=>(if t141 = true then ((aY.f k aQ aN 0 1073741824).bind fun t142=>(if t142 = true then ((aV.f aM 0 1073741824).bind fun t143=>(if t143 = true then (some 0) else (some 2))) else (some 2))) else (some 2))) else (some 2))) else (some 2)) = some r:=H
 have A2:=ag.mk Yt
 clear Yt
 by_cases c3:t139 = true
 ·subst c3
  have H1:((aV.f av 1 131072).bind fun t140=>(if t140 = true then ((aY.f k aH aG 0 1073741824).bind fun t141=>(if t141 = true then ((aY.f k aQ aN 0 1073741824).bind fun t142=>(if t142 = true then ((aV.f aM 0 1073741824).bind fun t143=>(if t143 = true then (some 0) else (some 2))) else (some 2))) else (some 2))) else (some 2))) = some r:=by rw [if_pos rfl] at H;exact H
  clear H
  have H:=H1
  clear H1
  replace H:=Option.bind_eq_some_iff.mp H
  obtain ⟨t140,Sc,H⟩:=H
  replace H:(if t140 = true then ((aY.f k aH aG 0 1073741824).bind fun t141=>(if t141 = true then ((aY.f k aQ aN 0 1073741824).bind fun t142=>(if t142 = true then ((aV.f aM 0 1073741824).bind fun t143=>(if t143 = true then (some 0) else (some 2))) else (some 2))) else (some 2))) else (some 2)) = some r:=H
  have A4:=ag.mk Sc
  clear Sc
  by_cases c5:t140 = true
  ·subst c5
   have H1:((aY.f k aH aG 0 1073741824).bind fun t141=>(if t141 = true then ((aY.f k aQ aN 0 1073741824).bind fun t142=>(if t142 = true then ((aV.f aM 0 1073741824).bind fun t143=>(if t143 = true then (some 0) else (some 2))) else (some 2))) else (some 2))) = some r:=by rw [if_pos rfl] at H;exact H
   clear H
   have H:=H1
   clear H1
   replace H:=Option.bind_eq_some_iff.mp H
   obtain ⟨t141,A60,H⟩:=H
   replace H:(if t141 = true then ((aY.f k aQ aN 0 1073741824).bind fun t142=>(if t142 = true then ((aV.f aM 0 1073741824).bind fun t143=>(if t143 = true then (some 0) else (some 2))) else (some 2))) else (some 2)) = some r:=H
   have A6:=ag.mk A60
   clear A60
   by_cases c7:t141 = true
   ·subst c7
    have H1:((aY.f k aQ aN 0 1073741824).bind fun t142=>(if t142 = true then ((aV.f aM 0 1073741824).bind fun t143=>(if t143 = true then (some 0) else (some 2))) else (some 2))) = some r:=by rw [if_pos rfl] at H;exact H
    clear H
    have H:=H1
    clear H1
    replace H:=Option.bind_eq_some_iff.mp H
    obtain ⟨t142,A80,H⟩:=H
    replace H:(if t142 = true then ((aV.f aM 0 1073741824).bind fun t143=>(if t143 = true then (some 0) else (some 2))) else (some 2)) = some r:=H
    have A8:=ag.mk A80
    clear A80
    by_cases c9:t142 = true
    ·subst c9
     have H1:((aV.f aM 0 1073741824).bind fun t143=>(if t143 = true then (some 0) else (some 2))) = some r:=by rw [if_pos rfl] at H;exact H
     clear H
     have H:=H1
     clear H1
     replace H:=Option.bind_eq_some_iff.mp H
     obtain ⟨t143,Qr,H⟩:=H
     replace H:(if t143 = true then (some 0) else (some 2)) = some r:=H
     have A10:=ag.mk Qr
     clear Qr
     by_cases c11:t143 = true
     ·subst c11
      have H1:(some 0) = some r:=by rw [if_pos rfl] at H;exact H
      clear H
      have H:=H1
      clear H1
      obtain rfl:=Option.some.inj H
      go_enter Try.func27,Try.ntmps27
      go_wp2_with (first|((with_reducible refine aI (N:=1) rfl ?_);refine aC (by rfl) (N:=1) (by rfl) (cs:=#[Z ab ax,Z ab av,Z ab aH,Z ab aG,Z ab aQ,Z ab aN,Z ab aM]) (t:=29) gu ?_;intro aa2 hg F6 hbox hb;have jN:=ag.mk (hbox);have aa3:=cB HB hg;have aa4:=cB HB hg;replace HB:=cK HB hb;clear hb hbox hg;obtain ⟨vS,vT,zR,zS,DZ,D5,IZ,vU,vV,zT,zU,D6,D7,I1⟩:=iH jN.out)|((with_reducible refine aR (f:=74) rfl ?_);refine bU (some 5) rfl rfl Try.func74 aT rfl #[Z ab ax,Z ab 0,Z ab 5000] rfl jQ ?_;(with_reducible refine (aV.calls ax 0 5000 true _ A2.out).mono ?_);rintro e w' ⟨rfl,⟨nd,rfl⟩⟩;refine ⟨_,rfl,?_⟩)|(go_at_call 74;(with_reducible refine (aV.calls av 1 131072 true _ A4.out).mono ?_);rintro e w' ⟨rfl,⟨nd,rfl⟩⟩)|(go_at_call 77;(with_reducible refine (aY.calls k aH aG 0 1073741824 true _ A6.out).mono ?_);rintro e w14 ⟨rfl,hb⟩;replace jN:=bJ jN hb;replace HB:=cK HB hb;(try clear hb);(try clear hb2);(try clear hk);(try clear hi);obtain ⟨uA,uB,zy,zz,D8,D9,I4,uC,uD,zA,zB,Ea,Eb,I5⟩:=iH jN.out)|(go_at_call 77;(with_reducible refine (aY.calls k aQ aN 0 1073741824 true _ A8.out).mono ?_);rintro e w16 ⟨rfl,hb⟩;replace jN:=bJ jN hb;replace HB:=cK HB hb;(try clear hb);(try clear hb2);(try clear hk);(try clear hi);obtain ⟨rU,rV,wT,wU,Ec,Ed,I6,rW,rX,wV,wW,Ee,Ef,I7⟩:=iH jN.out)|(go_at_call 74;(with_reducible refine (aV.calls aM 0 1073741824 true _ A10.out).mono ?_);rintro e w' ⟨rfl,⟨nd,rfl⟩⟩))
      go_ret
      exact ⟨mf,eZ⟩
     ·replace c11:=Bool.eq_false_iff.mpr c11
      subst c11
      have H1:(some 2) = some r:=by rw [if_neg (show ¬ (false = true) by decide)] at H;exact H
      clear H
      have H:=H1
      clear H1
      obtain rfl:=Option.some.inj H
      go_enter Try.func27,Try.ntmps27
      go_wp2_with (first|((with_reducible refine aI (N:=1) rfl ?_);refine aC (by rfl) (N:=1) (by rfl) (cs:=#[Z ab ax,Z ab av,Z ab aH,Z ab aG,Z ab aQ,Z ab aN,Z ab aM]) (t:=29) gu ?_;intro aa2 hg w18 hbox hb;have jN:=ag.mk (hbox);have aa3:=cB HB hg;have aa4:=cB HB hg;replace HB:=cK HB hb;clear hb hbox hg;obtain ⟨wh,wm,Ar,Au,Av,Aw,Eg,wo,wu,Ay,Az,AA,AB,Eh⟩:=iH jN.out)|((with_reducible refine aR (f:=74) rfl ?_);refine bU (some 5) rfl rfl Try.func74 aT rfl #[Z ab ax,Z ab 0,Z ab 5000] rfl jQ ?_;(with_reducible refine (aV.calls ax 0 5000 true _ A2.out).mono ?_);rintro e w' ⟨rfl,⟨nd,rfl⟩⟩;refine ⟨_,rfl,?_⟩)|(go_at_call 74;(with_reducible refine (aV.calls av 1 131072 true _ A4.out).mono ?_);rintro e w' ⟨rfl,⟨nd,rfl⟩⟩)|(go_at_call 77;(with_reducible refine (aY.calls k aH aG 0 1073741824 true _ A6.out).mono ?_);rintro e Fa ⟨rfl,hb⟩;replace jN:=bJ jN hb;replace HB:=cK HB hb;(try clear hb);(try clear hb2);(try clear hk);(try clear hi);obtain ⟨Aa,Ab,I8,I9,Ja,Jb,Jc,Ac,Ad,Jd,Je,Jf,Jg,Jh⟩:=iH jN.out)|(go_at_call 77;(with_reducible refine (aY.calls k aQ aN 0 1073741824 true _ A8.out).mono ?_);rintro e w22 ⟨rfl,hb⟩;replace jN:=bJ jN hb;replace HB:=cK HB hb;(try clear hb);(try clear hb2);(try clear hk);(try clear hi);obtain ⟨Ae,Af,Ji,Jj,Jk,Jl,Jm,Ag,Ah,Jn,Jo,Jp,Jq,Jr⟩:=iH jN.out)|(go_at_call 74;(with_reducible refine (aV.calls aM 0 1073741824 false _ A10.out).mono ?_);rintro e w' ⟨rfl,⟨nd,rfl⟩⟩))
      go_ret
      exact ⟨mf,eZ⟩
    ·replace c9:=Bool.eq_false_iff.mpr c9
     subst c9
     have H1:(some 2) = some r:=by rw [if_neg (show ¬ (false = true) by decide)] at H;exact H
     clear H
     have H:=H1
     clear H1
     obtain rfl:=Option.some.inj H
     go_enter Try.func27,Try.ntmps27
     go_wp2_with (first|((with_reducible refine aI (N:=1) rfl ?_);refine aC (by rfl) (N:=1) (by rfl) (cs:=#[Z ab ax,Z ab av,Z ab aH,Z ab aG,Z ab aQ,Z ab aN,Z ab aM]) (t:=29) gu ?_;intro aa2 hg w24 hbox hb;have jN:=ag.mk (hbox);have aa3:=cB HB hg;have aa4:=cB HB hg;replace HB:=cK HB hb;clear hb hbox hg;obtain ⟨AQ,AR,AU,AV,Js,Jt,Ju,AX,AY,AZ,A9,Jv,Jw,Jy⟩:=iH jN.out)|((with_reducible refine aR (f:=74) rfl ?_);refine bU (some 5) rfl rfl Try.func74 aT rfl #[Z ab ax,Z ab 0,Z ab 5000] rfl jQ ?_;(with_reducible refine (aV.calls ax 0 5000 true _ A2.out).mono ?_);rintro e w' ⟨rfl,⟨nd,rfl⟩⟩;refine ⟨_,rfl,?_⟩)|(go_at_call 74;(with_reducible refine (aV.calls av 1 131072 true _ A4.out).mono ?_);rintro e w' ⟨rfl,⟨nd,rfl⟩⟩)|(go_at_call 77;(with_reducible refine (aY.calls k aH aG 0 1073741824 true _ A6.out).mono ?_);rintro e w26 ⟨rfl,hb⟩;replace jN:=bJ jN hb;replace HB:=cK HB hb;(try clear hb);(try clear hb2);(try clear hk);(try clear hi);obtain ⟨wY,wZ,xc,xe,xg,xh,xk,xm,xn,xq,xu,xw,xx,xy⟩:=iH jN.out)|(go_at_call 77;(with_reducible refine (aY.calls k aQ aN 0 1073741824 false _ A8.out).mono ?_);rintro e w28 ⟨rfl,hb⟩;replace jN:=bJ jN hb;replace HB:=cK HB hb;(try clear hb);(try clear hb2);(try clear hk);(try clear hi)))
     go_ret
     exact ⟨mf,eZ⟩
   ·replace c7:=Bool.eq_false_iff.mpr c7
    subst c7
    have H1:(some 2) = some r:=by rw [if_neg (show ¬ (false = true) by decide)] at H;exact H
    clear H
    have H:=H1
    clear H1
    obtain rfl:=Option.some.inj H
    go_enter Try.func27,Try.ntmps27
    go_wp2_with (first|((with_reducible refine aI (N:=1) rfl ?_);refine aC (by rfl) (N:=1) (by rfl) (cs:=#[Z ab ax,Z ab av,Z ab aH,Z ab aG,Z ab aQ,Z ab aN,Z ab aM]) (t:=29) gu ?_;intro aa2 hg w29 hbox hb;have jN:=ag.mk (hbox);have aa3:=cB HB hg;have aa4:=cB HB hg;replace HB:=cK HB hb;clear hb hbox hg;obtain ⟨Jz,JA,JB,JC,Pk,Pm,Pn,JD,JE,JF,JG,Po,Pp,Pq⟩:=iH jN.out)|((with_reducible refine aR (f:=74) rfl ?_);refine bU (some 5) rfl rfl Try.func74 aT rfl #[Z ab ax,Z ab 0,Z ab 5000] rfl jQ ?_;(with_reducible refine (aV.calls ax 0 5000 true _ A2.out).mono ?_);rintro e w' ⟨rfl,⟨nd,rfl⟩⟩;refine ⟨_,rfl,?_⟩)|(go_at_call 74;(with_reducible refine (aV.calls av 1 131072 true _ A4.out).mono ?_);rintro e w' ⟨rfl,⟨nd,rfl⟩⟩)|(go_at_call 77;(with_reducible refine (aY.calls k aH aG 0 1073741824 false _ A6.out).mono ?_);rintro e w31 ⟨rfl,hb⟩;replace jN:=bJ jN hb;replace HB:=cK HB hb;(try clear hb);(try clear hb2);(try clear hk);(try clear hi)))
    go_ret
    exact ⟨mf,eZ⟩
  ·replace c5:=Bool.eq_false_iff.mpr c5
   subst c5
   have H1:(some 2) = some r:=by rw [if_neg (show ¬ (false = true) by decide)] at H;exact H
   clear H
   have H:=H1
   clear H1
   obtain rfl:=Option.some.inj H
   go_enter Try.func27,Try.ntmps27
   go_wp2_with (first|((with_reducible refine aI (N:=1) rfl ?_);refine aC (by rfl) (N:=1) (by rfl) (cs:=#[Z ab ax,Z ab av,Z ab aH,Z ab aG,Z ab aQ,Z ab aN,Z ab aM]) (t:=29) gu ?_;intro aa2 hg w32 hbox hb;have jN:=ag.mk (hbox);have aa3:=cB HB hg;have aa4:=cB HB hg;replace HB:=cK HB hb;clear hb hbox hg;obtain ⟨Mw,Mx,Vh,Vi,am2,am3,am4,MB,MC,Vj,Vk,am5,am6,am7⟩:=iH jN.out)|((with_reducible refine aR (f:=74) rfl ?_);refine bU (some 5) rfl rfl Try.func74 aT rfl #[Z ab ax,Z ab 0,Z ab 5000] rfl jQ ?_;(with_reducible refine (aV.calls ax 0 5000 true _ A2.out).mono ?_);rintro e w' ⟨rfl,⟨nd,rfl⟩⟩;refine ⟨_,rfl,?_⟩)|(go_at_call 74;(with_reducible refine (aV.calls av 1 131072 false _ A4.out).mono ?_);rintro e w' ⟨rfl,⟨nd,rfl⟩⟩))
   go_ret
   exact ⟨mf,eZ⟩
 ·replace c3:=Bool.eq_false_iff.mpr c3
  subst c3
  have H1:(some 2) = some r:=by rw [if_neg (show ¬ (false = true) by decide)] at H;exact H
  clear H
  have H:=H1
  clear H1
  obtain rfl:=Option.some.inj H
  go_enter Try.func27,Try.ntmps27
  go_wp2_with (first|((with_reducible refine aI (N:=1) rfl ?_);refine aC (by rfl) (N:=1) (by rfl) (cs:=#[Z ab ax,Z ab av,Z ab aH,Z ab aG,Z ab aQ,Z ab aN,Z ab aM]) (t:=29) gu ?_;intro aa2 hg w34 hbox hb;have jN:=ag.mk (hbox);have aa3:=cB HB hg;have aa4:=cB HB hg;replace HB:=cK HB hb;clear hb hbox hg;obtain ⟨vW,vX,Dr,Dt,GM,GN,GQ,vY,vZ,Du,Dv,GR,GU,GV⟩:=iH jN.out)|((with_reducible refine aR (f:=74) rfl ?_);refine bU (some 5) rfl rfl Try.func74 aT rfl #[Z ab ax,Z ab 0,Z ab 5000] rfl jQ ?_;(with_reducible refine (aV.calls ax 0 5000 false _ A2.out).mono ?_);rintro e w' ⟨rfl,⟨nd,rfl⟩⟩;refine ⟨_,rfl,?_⟩))
  go_ret
  exact ⟨mf,eZ⟩
def fD.f (k:Nat) (ax:Int) (av:Int) (aH:Int) (aG:Int) (aQ:Int) (aN:Int) (aM:Int) (bq:Int) (bz:Int):Option (Int × Int):=(bG.f k ax av aH aG aQ aN aM).bind fun yg=>(if yg = 0 then ((aY.f k bq bz 0 1073741824).bind fun RZ=>(if RZ = true then (if bq < aM then (some (0,19)) else (if (mx aG aN) = 0 then (some (0,4)) else (some (wrap64 (Int.tdiv (wrap64 (bq - aM)) (mx aG aN)),0)))) else (some (0,2)))) else (some (0,yg)))
theorem fD.mono:∀ a0 a1 a2 a3 a4 a5 a6 a7 a8 k,jK (fD.f k a0 a1 a2 a3 a4 a5 a6 a7 a8) (fD.f (k+1) a0 a1 a2 a3 a4 a5 a6 a7 a8):=by
 intro a0 a1 a2 a3 a4 a5 a6 a7 a8 k
 unfold fD.f
 repeat' first
  |(with_reducible exact bG.mono _ _ _ _ _ _ _ _)
  |(with_reducible exact aY.mono _ _ _ _ _)
  |(with_reducible exact jK.refl _)
  |(with_reducible exact jK.none _)
  |(with_reducible refine jK.ite ?_ ?_)
  |(with_reducible refine jK.bind ?_ (fun _=>?_))
  |exact bG.mono _ _ _ _ _ _ _ _
  |exact aY.mono _ _ _ _ _
  |exact jK.none _
  |refine jK.ite ?_ ?_
  |refine jK.bind ?_ (fun _=>?_)
set_option maxHeartbeats 8000000 in
set_option maxRecDepth 100000 in
theorem fD.calls (k:Nat) (ax:Int) (av:Int) (aH:Int) (aG:Int) (aQ:Int) (aN:Int) (aM:Int) (bq:Int) (bz:Int) (r1:Int) (r2:Int) (w:World) (h:fD.f k ax av aH aG aQ aN aM bq bz = some (r1,r2)):
 Calls Try.prog 37 #[.agg #[Z ab ax,Z ab av,Z ab aH,Z ab aG,Z ab aQ,Z ab aN,Z ab aM],.agg #[Z ab bq,Z ab bz]] w fun e w'=>e = .returned (.tuple #[Z ab r1,Z ab r2])∧Below w.heap.size w w':=by
 have xX:=Try.underlying29
 have mE:=Try.underlying27
 have HB:=ag.mk (Below.refl w.heap.size w)
 have H:((bG.f k ax av aH aG aQ aN aM).bind fun yg=>(if yg = 0 then ((aY.f k bq bz 0 1073741824).bind fun RZ=>(if RZ = true then (if bq < aM then (some (0,19)) else (if (mx aG aN) = 0 then (some (0,4)) else (some (wrap64 (Int.tdiv (wrap64 (bq - aM)) (mx aG aN)),0)))) else (some (0,2)))) else (some (0,yg)))) = some (r1,r2):=h
 clear h
 obtain ⟨ym,FU⟩:∃ j_:Int,(mx aG aN) = j_:=⟨_,rfl⟩
 replace H:((bG.f k ax av aH aG aQ aN aM).bind fun yg=>(if yg = 0 then ((aY.f k bq bz 0 1073741824).bind fun RZ=>(if RZ = true then (if bq < aM then (some (0,19)) else (if (ym) = 0 then (some (0,4)) else (some (wrap64 (Int.tdiv (wrap64 (bq - aM)) (ym)),0)))) else (some (0,2)))) else (some (0,yg)))) = some (r1,r2):=by first|(rw [FU] at H;exact H)|(simp only [FU] at H ⊢;exact H)
 have anv:(if aG < aN then aN else aG) = ym:=FU
 replace H:=Option.bind_eq_some_iff.mp H
 obtain ⟨yg,Sc,H⟩:=H
 replace H:(if yg = 0 then ((aY.f k bq bz 0 1073741824).bind fun RZ=>(if RZ = true then (if bq < aM then (some (0,19)) else (if (ym) = 0 then (some (0,4)) else (some (wrap64 (Int.tdiv (wrap64 (bq - aM)) (ym)),0)))) else (some (0,2)))) else (some (0,yg))) = some (r1,r2):=H
 have A4:=ag.mk Sc
 clear Sc
 by_cases c5:yg = 0
 ·rw [if_pos c5] at H
  have Ls:(yg == 0) = true:=beq_iff_eq.mpr c5
  have ahj:(yg != 0) = false:=bne_eq_false_iff_eq.mpr c5
  clear c5
  replace H:=Option.bind_eq_some_iff.mp H
  obtain ⟨RZ,A60,H⟩:=H
  replace H:(if RZ = true then (if bq < aM then (some (0,19)) else (if (ym) = 0 then (some (0,4)) else (some (wrap64 (Int.tdiv (wrap64 (bq - aM)) (ym)),0)))) else (some (0,2))) = some (r1,r2):=H
  have A6:=ag.mk A60
  clear A60
  by_cases c7:RZ = true
  ·subst c7
   have H1:(if bq < aM then (some (0,19)) else (if (ym) = 0 then (some (0,4)) else (some (wrap64 (Int.tdiv (wrap64 (bq - aM)) (ym)),0)))) = some (r1,r2):=by rw [if_pos rfl] at H;exact H
   clear H
   have H:=H1
   clear H1
   by_cases c8:bq < aM
   ·rw [if_pos c8] at H
    have LF:decide (bq < aM) = true:=decide_eq_true c8
    clear c8
    simp only [Option.some.injEq,Prod.mk.injEq] at H
    obtain ⟨rfl,rfl⟩:=H
    go_enter Try.func37,Try.ntmps37
    go_wp2_with (first|((with_reducible refine aI (N:=2) rfl ?_);refine aC (by rfl) (N:=2) (by rfl) (cs:=#[Z ab ax,Z ab av,Z ab aH,Z ab aG,Z ab aQ,Z ab aN,Z ab aM]) (t:=29) gu ?_;intro afq hg w9 hbox hb;have fw:=ag.mk (hbox);have afr:=cB HB hg;have afs:=cB HB hg;replace HB:=cK HB hb;clear hb hbox hg)|((with_reducible refine aI (N:=3) rfl ?_);refine aC (by rfl) (N:=3) (by rfl) (cs:=#[Z ab bq,Z ab bz]) (t:=27) gu ?_;intro aft hg w10 hbox hb;have kY:=ag.mk (hbox);have afu:=cB HB hg;have afv:=cB HB hg;have oZ:=l6 fw hg;have o5:=l9 fw hg;replace fw:=bJ fw hb;replace HB:=cK HB hb;clear hb hbox hg;have agK:=oZ.out;have agL:=o5.out;obtain ⟨vK,vL,adb,ade,anc,ane,anf,vM,vN,adf,adg,ang,anh,ani⟩:=iH fw.out)|((with_reducible refine aR (f:=27) rfl ?_);refine bU (some 16) rfl rfl Try.func27 aT rfl #[.agg #[Z ab ax,Z ab av,Z ab aH,Z ab aG,Z ab aQ,Z ab aN,Z ab aM]] rfl jQ ?_;(with_reducible refine (bG.calls k ax av aH aG aQ aN aM yg _ A4.out).mono ?_);rintro e Yq ⟨rfl,hb⟩;refine ⟨_,rfl,?_⟩;replace fw:=bJ fw hb;replace kY:=bJ kY hb;replace HB:=cK HB hb;(try clear hb);(try clear hb2);(try clear hk);(try clear hi);obtain ⟨Dk,Dl,Dm,Dn⟩:=iq kY.out)|((with_reducible refine aR (f:=77) rfl ?_);refine bU (some 23) rfl rfl Try.func77 aT rfl #[.agg #[Z ab bq,Z ab bz],Z ab 0,Z ab 1073741824] rfl jQ ?_;(with_reducible refine (aY.calls k bq bz 0 1073741824 true _ A6.out).mono ?_);rintro e w15 ⟨rfl,hb⟩;refine ⟨_,rfl,?_⟩;replace fw:=bJ fw hb;replace kY:=bJ kY hb;replace HB:=cK HB hb;(try clear hb);(try clear hb2);(try clear hk);(try clear hi);obtain ⟨Xq,Xr,Xt,Xu⟩:=iq kY.out;obtain ⟨rU,rV,wT,wU,Ec,Ed,I6,rW,rX,wV,wW,Ee,Ef,I7⟩:=iH fw.out))
    go_ret2
    exact ⟨ajZ,eZ⟩
   ·rw [if_neg c8] at H
    have LF:decide (bq < aM) = false:=decide_eq_false c8
    clear c8
    by_cases c18:(ym) = 0
    ·rw [if_pos c18] at H
     have Li:((ym) == 0) = true:=beq_iff_eq.mpr c18
     have avO:((ym) != 0) = false:=bne_eq_false_iff_eq.mpr c18
     clear c18
     simp only [Option.some.injEq,Prod.mk.injEq] at H
     obtain ⟨rfl,rfl⟩:=H
     go_enter Try.func37,Try.ntmps37
     go_wp2_with (first|((with_reducible refine aI (N:=2) rfl ?_);refine aC (by rfl) (N:=2) (by rfl) (cs:=#[Z ab ax,Z ab av,Z ab aH,Z ab aG,Z ab aQ,Z ab aN,Z ab aM]) (t:=29) gu ?_;intro afq hg w19 hbox hb;have fw:=ag.mk (hbox);have afr:=cB HB hg;have afs:=cB HB hg;replace HB:=cK HB hb;clear hb hbox hg)|((with_reducible refine aI (N:=3) rfl ?_);refine aC (by rfl) (N:=3) (by rfl) (cs:=#[Z ab bq,Z ab bz]) (t:=27) gu ?_;intro aft hg Fa hbox hb;have kY:=ag.mk (hbox);have afu:=cB HB hg;have afv:=cB HB hg;have oZ:=l6 fw hg;have o5:=l9 fw hg;replace fw:=bJ fw hb;replace HB:=cK HB hb;clear hb hbox hg;have anR:=oZ.out;have anS:=o5.out;obtain ⟨Bo,Bp,Bq,Br,Eu,Ev,Ew,Bt,Bu,Bv,Bw,Ex,Ey,Ez⟩:=iH fw.out)|((with_reducible refine aR (f:=27) rfl ?_);refine bU (some 16) rfl rfl Try.func27 aT rfl #[.agg #[Z ab ax,Z ab av,Z ab aH,Z ab aG,Z ab aQ,Z ab aN,Z ab aM]] rfl jQ ?_;(with_reducible refine (bG.calls k ax av aH aG aQ aN aM yg _ A4.out).mono ?_);rintro e w23 ⟨rfl,hb⟩;refine ⟨_,rfl,?_⟩;replace fw:=bJ fw hb;replace kY:=bJ kY hb;replace HB:=cK HB hb;(try clear hb);(try clear hb2);(try clear hk);(try clear hi);obtain ⟨LQ,LU,LV,LW⟩:=iq kY.out)|((with_reducible refine aR (f:=77) rfl ?_);refine bU (some 23) rfl rfl Try.func77 aT rfl #[.agg #[Z ab bq,Z ab bz],Z ab 0,Z ab 1073741824] rfl jQ ?_;(with_reducible refine (aY.calls k bq bz 0 1073741824 true _ A6.out).mono ?_);rintro e w25 ⟨rfl,hb⟩;refine ⟨_,rfl,?_⟩;replace fw:=bJ fw hb;replace kY:=bJ kY hb;replace HB:=cK HB hb;(try clear hb);(try clear hb2);(try clear hk);(try clear hi);obtain ⟨wC,wD,wE,wF⟩:=iq kY.out;obtain ⟨wY,wZ,xc,xe,xg,xh,xk,xm,xn,xq,xu,xw,xx,xy⟩:=iH fw.out))
     go_ret2
     exact ⟨ajZ,eZ⟩
    ·rw [if_neg c18] at H
     have Li:((ym) == 0) = false:=beq_eq_false_iff_ne.mpr c18
     have avO:((ym) != 0) = true:=bne_iff_ne.mpr c18
     simp only [Option.some.injEq,Prod.mk.injEq] at H
     obtain ⟨rfl,rfl⟩:=H
     go_enter Try.func37,Try.ntmps37
     go_wp2_with (first|((with_reducible refine aI (N:=2) rfl ?_);refine aC (by rfl) (N:=2) (by rfl) (cs:=#[Z ab ax,Z ab av,Z ab aH,Z ab aG,Z ab aQ,Z ab aN,Z ab aM]) (t:=29) gu ?_;intro afq hg w28 hbox hb;have fw:=ag.mk (hbox);have afr:=cB HB hg;have afs:=cB HB hg;replace HB:=cK HB hb;clear hb hbox hg)|((with_reducible refine aI (N:=3) rfl ?_);refine aC (by rfl) (N:=3) (by rfl) (cs:=#[Z ab bq,Z ab bz]) (t:=27) gu ?_;intro aft hg w29 hbox hb;have kY:=ag.mk (hbox);have afu:=cB HB hg;have afv:=cB HB hg;have oZ:=l6 fw hg;have o5:=l9 fw hg;replace fw:=bJ fw hb;replace HB:=cK HB hb;clear hb hbox hg;have avK:=oZ.out;have avL:=o5.out;obtain ⟨afc,afd,afe,aff,afg,afh,afi,afj,afk,afl,afm,afn,afo,afp⟩:=iH fw.out)|((with_reducible refine aR (f:=27) rfl ?_);refine bU (some 16) rfl rfl Try.func27 aT rfl #[.agg #[Z ab ax,Z ab av,Z ab aH,Z ab aG,Z ab aQ,Z ab aN,Z ab aM]] rfl jQ ?_;(with_reducible refine (bG.calls k ax av aH aG aQ aN aM yg _ A4.out).mono ?_);rintro e w32 ⟨rfl,hb⟩;refine ⟨_,rfl,?_⟩;replace fw:=bJ fw hb;replace kY:=bJ kY hb;replace HB:=cK HB hb;(try clear hb);(try clear hb2);(try clear hk);(try clear hi);obtain ⟨Mw,Mx,MB,MC⟩:=iq kY.out)|((with_reducible refine aR (f:=77) rfl ?_);refine bU (some 23) rfl rfl Try.func77 aT rfl #[.agg #[Z ab bq,Z ab bz],Z ab 0,Z ab 1073741824] rfl jQ ?_;(with_reducible refine (aY.calls k bq bz 0 1073741824 true _ A6.out).mono ?_);rintro e w34 ⟨rfl,hb⟩;refine ⟨_,rfl,?_⟩;replace fw:=bJ fw hb;replace kY:=bJ kY hb;replace HB:=cK HB hb;(try clear hb);(try clear hb2);(try clear hk);(try clear hi);obtain ⟨vW,vX,vY,vZ⟩:=iq kY.out;obtain ⟨Ba,Bb,Bc,Bd,Ei,Ej,II,Be,Bf,Bg,Bh,El,Em,IJ⟩:=iH fw.out))
     go_ret2
     exact ⟨ajZ,eZ⟩
  ·replace c7:=Bool.eq_false_iff.mpr c7
   subst c7
   have H1:(some (0,2)) = some (r1,r2):=by rw [if_neg (show ¬ (false = true) by decide)] at H;exact H
   clear H
   have H:=H1
   clear H1
   simp only [Option.some.injEq,Prod.mk.injEq] at H
   obtain ⟨rfl,rfl⟩:=H
   go_enter Try.func37,Try.ntmps37
   go_wp2_with (first|((with_reducible refine aI (N:=2) rfl ?_);refine aC (by rfl) (N:=2) (by rfl) (cs:=#[Z ab ax,Z ab av,Z ab aH,Z ab aG,Z ab aQ,Z ab aN,Z ab aM]) (t:=29) gu ?_;intro afq hg w37 hbox hb;have fw:=ag.mk (hbox);have afr:=cB HB hg;have afs:=cB HB hg;replace HB:=cK HB hb;clear hb hbox hg)|((with_reducible refine aI (N:=3) rfl ?_);refine aC (by rfl) (N:=3) (by rfl) (cs:=#[Z ab bq,Z ab bz]) (t:=27) gu ?_;intro aft hg w38 hbox hb;have kY:=ag.mk (hbox);have afu:=cB HB hg;have afv:=cB HB hg;have oZ:=l6 fw hg;have o5:=l9 fw hg;replace fw:=bJ fw hb;replace HB:=cK HB hb;clear hb hbox hg;have ahz:=oZ.out;have ahA:=o5.out;obtain ⟨wJ,wK,Bz,BA,EA,EB,EC,wL,wM,BC,BD,ED,EF,EG⟩:=iH fw.out)|((with_reducible refine aR (f:=27) rfl ?_);refine bU (some 16) rfl rfl Try.func27 aT rfl #[.agg #[Z ab ax,Z ab av,Z ab aH,Z ab aG,Z ab aQ,Z ab aN,Z ab aM]] rfl jQ ?_;(with_reducible refine (bG.calls k ax av aH aG aQ aN aM yg _ A4.out).mono ?_);rintro e w41 ⟨rfl,hb⟩;refine ⟨_,rfl,?_⟩;replace fw:=bJ fw hb;replace kY:=bJ kY hb;replace HB:=cK HB hb;(try clear hb);(try clear hb2);(try clear hk);(try clear hi);obtain ⟨anj,ank,anl,anm⟩:=iq kY.out)|((with_reducible refine aR (f:=77) rfl ?_);refine bU (some 23) rfl rfl Try.func77 aT rfl #[.agg #[Z ab bq,Z ab bz],Z ab 0,Z ab 1073741824] rfl jQ ?_;(with_reducible refine (aY.calls k bq bz 0 1073741824 false _ A6.out).mono ?_);rintro e w43 ⟨rfl,hb⟩;refine ⟨_,rfl,?_⟩;replace fw:=bJ fw hb;replace kY:=bJ kY hb;replace HB:=cK HB hb;(try clear hb);(try clear hb2);(try clear hk);(try clear hi)))
   go_ret2
   exact ⟨ajZ,eZ⟩
 ·rw [if_neg c5] at H
  have Ls:(yg == 0) = false:=beq_eq_false_iff_ne.mpr c5
  have ahj:(yg != 0) = true:=bne_iff_ne.mpr c5
  simp only [Option.some.injEq,Prod.mk.injEq] at H
  obtain ⟨rfl,rfl⟩:=H
  go_enter Try.func37,Try.ntmps37
  go_wp2_with (first|((with_reducible refine aI (N:=2) rfl ?_);refine aC (by rfl) (N:=2) (by rfl) (cs:=#[Z ab ax,Z ab av,Z ab aH,Z ab aG,Z ab aQ,Z ab aN,Z ab aM]) (t:=29) gu ?_;intro afq hg w44 hbox hb;have fw:=ag.mk (hbox);have afr:=cB HB hg;have afs:=cB HB hg;replace HB:=cK HB hb;clear hb hbox hg)|((with_reducible refine aI (N:=3) rfl ?_);refine aC (by rfl) (N:=3) (by rfl) (cs:=#[Z ab bq,Z ab bz]) (t:=27) gu ?_;intro aft hg w45 hbox hb;have kY:=ag.mk (hbox);have afu:=cB HB hg;have afv:=cB HB hg;have oZ:=l6 fw hg;have o5:=l9 fw hg;replace fw:=bJ fw hb;replace HB:=cK HB hb;clear hb hbox hg;have as7:=oZ.out;have as8:=o5.out;obtain ⟨aeU,aeV,aeW,aeX,amD,amE,amF,aeY,aeZ,ae0,ae1,amG,amH,amI⟩:=iH fw.out)|((with_reducible refine aR (f:=27) rfl ?_);refine bU (some 16) rfl rfl Try.func27 aT rfl #[.agg #[Z ab ax,Z ab av,Z ab aH,Z ab aG,Z ab aQ,Z ab aN,Z ab aM]] rfl jQ ?_;(with_reducible refine (bG.calls k ax av aH aG aQ aN aM yg _ A4.out).mono ?_);rintro e w48 ⟨rfl,hb⟩;refine ⟨_,rfl,?_⟩;replace fw:=bJ fw hb;replace kY:=bJ kY hb;replace HB:=cK HB hb;(try clear hb);(try clear hb2);(try clear hk);(try clear hi)))
  go_ret2
  exact ⟨ajZ,eZ⟩
end Go.Proofs.Ytmhaiihjfgfaoaa.Pr
end
