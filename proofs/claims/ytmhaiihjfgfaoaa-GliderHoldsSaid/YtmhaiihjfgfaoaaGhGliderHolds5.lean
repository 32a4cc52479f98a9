import Derived.Test.YtmhaiihjfgfaoaaGhGliderHolds3
section
namespace Go.Proofs.Ytmhaiihjfgfaoaa.Pr
open Go.RowKit Go.Proofs.YtmhaiihjfgfaoaaW.PrintWords Go.Proofs.YtmhaiihjfgfaoaaW.PrintLast Go.Proofs.YtmhaiihjfgfaoaaW.PrintMore
attribute [local go_sem] cz cB dK dL cK
set_option linter.unusedVariables false
set_option linter.unusedSimpArgs false
def cO.f (aj:Int) (ak:Int) (ax:Int) (ay:Int) (aJ:Int) (aC:Int) (aG:Int):Option (Int):=if aj < 0 then (some 2) else (if aj > 5000 then (some 2) else (if ak < 1 then (some 2) else (if ak > 131072 then (some 2) else ((bI.f ax ay 0 1073741824).bind fun t113=>(if t113 = true then ((bI.f aJ aC 0 1073741824).bind fun t114=>(if t114 = true then (if aG < 0 then (some 2) else (if aG > 1073741824 then (some 2) else (some 0))) else (some 2))) else (some 2))))))
set_option maxHeartbeats 8000000 in
set_option maxRecDepth 100000 in
theorem cO.calls (aj:Int) (ak:Int) (ax:Int) (ay:Int) (aJ:Int) (aC:Int) (aG:Int) (r:Int) (w:World) (h:cO.f aj ak ax ay aJ aC aG = some r):
 Calls Try.prog 28 #[.agg #[.int .i64 aj,.int .i64 ak,.int .i64 ax,.int .i64 ay,.int .i64 aJ,.int .i64 aC,.int .i64 aG]] w fun e w'=>e = .returned (.int .i64 r)∧Below w.heap.size w w':=by
 have BL:=Try.underlying29
 have pK:=Try.underlying27
 have HB:=ae.mk (Below.refl w.heap.size w)
 have H:(if aj < 0 then (some 2) else (if aj > 5000 then (some 2) else (if ak < 1 then (some 2) else (if ak > 131072 then (some 2) else ((bI.f ax ay 0 1073741824).bind fun t113=>(if t113 = true then ((bI.f aJ aC 0 1073741824).bind fun t114=>(if t114 = true then (if aG < 0 then (some 2) else (if aG > 1073741824 then (some 2) else (some 0))) else (some 2))) else (some 2))))))) = some r:=h
 clear h
 by_cases c2:aj < 0
 ·rw [if_pos c2] at H
  have U9:decide (aj < 0) = true:=decide_eq_true c2
  clear c2
  obtain rfl:=Option.some.inj H
  go_enter Try.func28,Try.ntmps28
  go_wp2_with (first|((with_reducible refine aA (N:=1) rfl ?_);refine az (by rfl) (N:=1) (by rfl) (cs:=#[.int .i64 aj,.int .i64 ak,.int .i64 ax,.int .i64 ay,.int .i64 aJ,.int .i64 aC,.int .i64 aG]) (t:=29) gQ ?_;intro Md hg w3 hbox hb;have j5:=ae.mk (hbox);have Me:=dn HB hg;have Mf:=dn HB hg;replace HB:=dF HB hb;clear hb hbox hg;obtain ⟨TH,TI,afh,afi,anX,anY,anZ,TJ,TK,afj,afk,an0,an1,an2⟩:=ko j5.out))
  go_ret
  exact ⟨lJ,gM⟩
 ·rw [if_neg c2] at H
  have U9:decide (aj < 0) = false:=decide_eq_false c2
  clear c2
  by_cases c5:aj > 5000
  ·rw [if_pos c5] at H
   have Dc:decide (5000 < aj) = true:=decide_eq_true c5
   clear c5
   obtain rfl:=Option.some.inj H
   go_enter Try.func28,Try.ntmps28
   go_wp2_with (first|((with_reducible refine aA (N:=1) rfl ?_);refine az (by rfl) (N:=1) (by rfl) (cs:=#[.int .i64 aj,.int .i64 ak,.int .i64 ax,.int .i64 ay,.int .i64 aJ,.int .i64 aC,.int .i64 aG]) (t:=29) gQ ?_;intro Md hg w6 hbox hb;have j5:=ae.mk (hbox);have Me:=dn HB hg;have Mf:=dn HB hg;replace HB:=dF HB hb;clear hb hbox hg;obtain ⟨xI,xJ,Dx,Dy,G6,G7,G8,xK,xL,Dz,DC,G9,Ha,Hd⟩:=ko j5.out))
   go_ret
   exact ⟨lJ,gM⟩
  ·rw [if_neg c5] at H
   have Dc:decide (5000 < aj) = false:=decide_eq_false c5
   clear c5
   by_cases c8:ak < 1
   ·rw [if_pos c8] at H
    have Lb:decide (ak < 1) = true:=decide_eq_true c8
    clear c8
    obtain rfl:=Option.some.inj H
    go_enter Try.func28,Try.ntmps28
    go_wp2_with (first|((with_reducible refine aA (N:=1) rfl ?_);refine az (by rfl) (N:=1) (by rfl) (cs:=#[.int .i64 aj,.int .i64 ak,.int .i64 ax,.int .i64 ay,.int .i64 aJ,.int .i64 aC,.int .i64 aG]) (t:=29) gQ ?_;intro Md hg w9 hbox hb;have j5:=ae.mk (hbox);have Me:=dn HB hg;have Mf:=dn HB hg;replace HB:=dF HB hb;clear hb hbox hg;obtain ⟨wL,wM,Jc,Jd,R8,R9,Sa,wN,wO,Je,Jf,Sb,Sc,Sd⟩:=ko j5.out))
    go_ret
    exact ⟨lJ,gM⟩
   ·rw [if_neg c8] at H
    have Lb:decide (ak < 1) = false:=decide_eq_false c8
    clear c8
    by_cases c11:ak > 131072
    ·rw [if_pos c11] at H
     have IK:decide (131072 < ak) = true:=decide_eq_true c11
     clear c11
     obtain rfl:=Option.some.inj H
     go_enter Try.func28,Try.ntmps28
     go_wp2_with (first|((with_reducible refine aA (N:=1) rfl ?_);refine az (by rfl) (N:=1) (by rfl) (cs:=#[.int .i64 aj,.int .i64 ak,.int .i64 ax,.int .i64 ay,.int .i64 aJ,.int .i64 aC,.int .i64 aG]) (t:=29) gQ ?_;intro Md hg MC hbox hb;have j5:=ae.mk (hbox);have Me:=dn HB hg;have Mf:=dn HB hg;replace HB:=dF HB hb;clear hb hbox hg;obtain ⟨uW,uX,Bt,Bu,Kt,Ku,Kv,uY,uZ,Bv,Bw,Kw,Ky,Kz⟩:=ko j5.out))
     go_ret
     exact ⟨lJ,gM⟩
    ·rw [if_neg c11] at H
     have IK:decide (131072 < ak) = false:=decide_eq_false c11
     clear c11
     replace H:=Option.bind_eq_some_iff.mp H
     obtain ⟨t113,Vv,H⟩:=H
     replace H:(if t113 = true then ((bI.f aJ aC 0 1073741824).bind fun t114=>(if t114 = true then (if aG < 0 then (some 2) else (if aG > 1073741824 then (some 2) else (some 0))) else (some 2))) else (some 2)) = some r:=H
     have ZL:=ae.mk Vv
     clear Vv
     by_cases c15:t113 = true
     ·subst c15
      have H1:((bI.f aJ aC 0 1073741824).bind fun t114=>(if t114 = true then (if aG < 0 then (some 2) else (if aG > 1073741824 then (some 2) else (some 0))) else (some 2))) = some r:=by rw [if_pos rfl] at H;exact H
      clear H
      have H:=H1
      clear H1
      replace H:=Option.bind_eq_some_iff.mp H
      obtain ⟨t114,afo,H⟩:=H
      replace H:(if t114 = true then (if aG < 0 then (some 2) else (if aG > 1073741824 then (some 2) else (some 0))) else (some 2)) = some r:=H
      have A16:=ae.mk afo
      clear afo
      by_cases c17:t114 = true
      ·subst c17
       have H1:(if aG < 0 then (some 2) else (if aG > 1073741824 then (some 2) else (some 0))) = some r:=by rw [if_pos rfl] at H;exact H
       clear H
       have H:=H1
       clear H1
       by_cases c18:aG < 0
       ·rw [if_pos c18] at H
        have Mc:decide (aG < 0) = true:=decide_eq_true c18
        clear c18
        obtain rfl:=Option.some.inj H
        go_enter Try.func28,Try.ntmps28
        go_wp2_with (first|((with_reducible refine aA (N:=1) rfl ?_);refine az (by rfl) (N:=1) (by rfl) (cs:=#[.int .i64 aj,.int .i64 ak,.int .i64 ax,.int .i64 ay,.int .i64 aJ,.int .i64 aC,.int .i64 aG]) (t:=29) gQ ?_;intro Md hg w19 hbox hb;have j5:=ae.mk (hbox);have Me:=dn HB hg;have Mf:=dn HB hg;replace HB:=dF HB hb;clear hb hbox hg;obtain ⟨yM,yN,Ca,Cb,Es,Et,Eu,yO,yP,Cc,Ce,Ev,Ew,Ex⟩:=ko j5.out)|(go_at_call 78;(with_reducible refine (bI.calls ax ay 0 1073741824 true _ ZL.out).mono ?_);rintro e w21 ⟨rfl,hb⟩;replace j5:=bC j5 hb;replace HB:=dF HB hb;(try clear hb);(try clear hb2);(try clear hk);(try clear hi);obtain ⟨S9,Ta,Tc,Td,akq,akr,aks,Te,Tf,Tg,Ti,akt,aku,akv⟩:=ko j5.out)|(go_at_call 78;(with_reducible refine (bI.calls aJ aC 0 1073741824 true _ A16.out).mono ?_);rintro e w23 ⟨rfl,hb⟩;replace j5:=bC j5 hb;replace HB:=dF HB hb;(try clear hb);(try clear hb2);(try clear hk);(try clear hi);obtain ⟨wC,wD,yh,yj,Jl,Jm,Jn,wE,wF,yl,ym,Jo,Jp,Jq⟩:=ko j5.out))
        go_ret
        exact ⟨lJ,gM⟩
       ·rw [if_neg c18] at H
        have Mc:decide (aG < 0) = false:=decide_eq_false c18
        clear c18
        by_cases Vj:aG > 1073741824
        ·rw [if_pos Vj] at H
         have aui:decide (1073741824 < aG) = true:=decide_eq_true Vj
         clear Vj
         obtain rfl:=Option.some.inj H
         go_enter Try.func28,Try.ntmps28
         go_wp2_with (first|((with_reducible refine aA (N:=1) rfl ?_);refine az (by rfl) (N:=1) (by rfl) (cs:=#[.int .i64 aj,.int .i64 ak,.int .i64 ax,.int .i64 ay,.int .i64 aJ,.int .i64 aC,.int .i64 aG]) (t:=29) gQ ?_;intro Md hg yU hbox hb;have j5:=ae.mk (hbox);have Me:=dn HB hg;have Mf:=dn HB hg;replace HB:=dF HB hb;clear hb hbox hg;obtain ⟨CE,CF,CG,CJ,Gn,Gp,Gq,CK,CL,CO,CP,Gr,Gs,Gt⟩:=ko j5.out)|(go_at_call 78;(with_reducible refine (bI.calls ax ay 0 1073741824 true _ ZL.out).mono ?_);rintro e w28 ⟨rfl,hb⟩;replace j5:=bC j5 hb;replace HB:=dF HB hb;(try clear hb);(try clear hb2);(try clear hk);(try clear hi);obtain ⟨Ec,Ed,Ee,Ef,Jv,Jw,Jy,Eg,Eh,Ei,Ej,Jz,JA,JB⟩:=ko j5.out)|(go_at_call 78;(with_reducible refine (bI.calls aJ aC 0 1073741824 true _ A16.out).mono ?_);rintro e w30 ⟨rfl,hb⟩;replace j5:=bC j5 hb;replace HB:=dF HB hb;(try clear hb);(try clear hb2);(try clear hk);(try clear hi);obtain ⟨wP,wQ,wS,wT,zF,zG,zH,wU,wV,wW,wX,zI,zJ,zK⟩:=ko j5.out))
         go_ret
         exact ⟨lJ,gM⟩
        ·rw [if_neg Vj] at H
         have aui:decide (1073741824 < aG) = false:=decide_eq_false Vj
         clear Vj
         obtain rfl:=Option.some.inj H
         go_enter Try.func28,Try.ntmps28
         go_wp2_with (first|((with_reducible refine aA (N:=1) rfl ?_);refine az (by rfl) (N:=1) (by rfl) (cs:=#[.int .i64 aj,.int .i64 ak,.int .i64 ax,.int .i64 ay,.int .i64 aJ,.int .i64 aC,.int .i64 aG]) (t:=29) gQ ?_;intro Md hg w32 hbox hb;have j5:=ae.mk (hbox);have Me:=dn HB hg;have Mf:=dn HB hg;replace HB:=dF HB hb;clear hb hbox hg;obtain ⟨vC,vD,wY,wZ,ZT,ZU,ZV,vE,vF,xc,xe,ZW,ZX,ZY⟩:=ko j5.out)|(go_at_call 78;(with_reducible refine (bI.calls ax ay 0 1073741824 true _ ZL.out).mono ?_);rintro e w34 ⟨rfl,hb⟩;replace j5:=bC j5 hb;replace HB:=dF HB hb;(try clear hb);(try clear hb2);(try clear hk);(try clear hi);obtain ⟨Bz,BA,D8,D9,Ou,Ov,Ow,BC,BD,Ea,Eb,Ox,Oy,Oz⟩:=ko j5.out)|(go_at_call 78;(with_reducible refine (bI.calls aJ aC 0 1073741824 true _ A16.out).mono ?_);rintro e w36 ⟨rfl,hb⟩;replace j5:=bC j5 hb;replace HB:=dF HB hb;(try clear hb);(try clear hb2);(try clear hk);(try clear hi);obtain ⟨aic,aid,aAa,aAb,aAc,aAd,aAe,aie,aif,aAf,aAg,aAh,aAi,aAj⟩:=ko j5.out))
         go_ret
         exact ⟨lJ,gM⟩
      ·replace c17:=Bool.eq_false_iff.mpr c17
       subst c17
       have H1:(some 2) = some r:=by rw [if_neg (show ¬ (false = true) by decide)] at H;exact H
       clear H
       have H:=H1
       clear H1
       obtain rfl:=Option.some.inj H
       go_enter Try.func28,Try.ntmps28
       go_wp2_with (first|((with_reducible refine aA (N:=1) rfl ?_);refine az (by rfl) (N:=1) (by rfl) (cs:=#[.int .i64 aj,.int .i64 ak,.int .i64 ax,.int .i64 ay,.int .i64 aJ,.int .i64 aC,.int .i64 aG]) (t:=29) gQ ?_;intro Md hg w38 hbox hb;have j5:=ae.mk (hbox);have Me:=dn HB hg;have Mf:=dn HB hg;replace HB:=dF HB hb;clear hb hbox hg;obtain ⟨YV,YW,YX,YY,agL,agM,agN,YZ,Y0,Y1,Y2,agO,agP,agQ⟩:=ko j5.out)|(go_at_call 78;(with_reducible refine (bI.calls ax ay 0 1073741824 true _ ZL.out).mono ?_);rintro e w40 ⟨rfl,hb⟩;replace j5:=bC j5 hb;replace HB:=dF HB hb;(try clear hb);(try clear hb2);(try clear hk);(try clear hi);obtain ⟨aAk,aAl,aAm,aAn,aAo,aAp,aAq,aAr,aAs,aAt,aAu,aAv,aAw,aAx⟩:=ko j5.out)|(go_at_call 78;(with_reducible refine (bI.calls aJ aC 0 1073741824 false _ A16.out).mono ?_);rintro e w42 ⟨rfl,hb⟩;replace j5:=bC j5 hb;replace HB:=dF HB hb;(try clear hb);(try clear hb2);(try clear hk);(try clear hi)))
       go_ret
       exact ⟨lJ,gM⟩
     ·replace c15:=Bool.eq_false_iff.mpr c15
      subst c15
      have H1:(some 2) = some r:=by rw [if_neg (show ¬ (false = true) by decide)] at H;exact H
      clear H
      have H:=H1
      clear H1
      obtain rfl:=Option.some.inj H
      go_enter Try.func28,Try.ntmps28
      go_wp2_with (first|((with_reducible refine aA (N:=1) rfl ?_);refine az (by rfl) (N:=1) (by rfl) (cs:=#[.int .i64 aj,.int .i64 ak,.int .i64 ax,.int .i64 ay,.int .i64 aJ,.int .i64 aC,.int .i64 aG]) (t:=29) gQ ?_;intro Md hg w43 hbox hb;have j5:=ae.mk (hbox);have Me:=dn HB hg;have Mf:=dn HB hg;replace HB:=dF HB hb;clear hb hbox hg;obtain ⟨aAy,aAz,aAA,aAB,aAC,aAD,aAE,aAF,aAG,aAH,aAI,aAJ,aAK,aAL⟩:=ko j5.out)|(go_at_call 78;(with_reducible refine (bI.calls ax ay 0 1073741824 false _ ZL.out).mono ?_);rintro e w45 ⟨rfl,hb⟩;replace j5:=bC j5 hb;replace HB:=dF HB hb;(try clear hb);(try clear hb2);(try clear hk);(try clear hi)))
      go_ret
      exact ⟨lJ,gM⟩
end Go.Proofs.Ytmhaiihjfgfaoaa.Pr
end
section
namespace Go.Proofs.Ytmhaiihjfgfaoaa.Pr
open Go.RowKit Go.Proofs.YtmhaiihjfgfaoaaW.PrintWords Go.Proofs.YtmhaiihjfgfaoaaW.PrintLast Go.Proofs.YtmhaiihjfgfaoaaW.PrintMore
attribute [local go_sem] cz cB dK dL cK
set_option linter.unusedVariables false
set_option linter.unusedSimpArgs false
def dC.f (aj:Int) (ak:Int) (ax:Int) (ay:Int):Option (Bool):=(bZ.f aj ak).bind fun t116=>(if t116 = true then ((bZ.f ax ay).bind fun t117=>(if t117 = true then ((aK.f aj (-268435456) 268435456).bind fun t118=>(if t118 = true then ((aK.f ak (-268435456) 268435456).bind fun t119=>(if t119 = true then ((aK.f ax (-268435456) 268435456).bind fun t120=>(if t120 = true then ((aK.f ay (-268435456) 268435456).bind fun t121=>(some t121)) else (some false))) else (some false))) else (some false))) else (some false))) else (some false))
set_option maxHeartbeats 8000000 in
set_option maxRecDepth 100000 in
theorem dC.calls (aj:Int) (ak:Int) (ax:Int) (ay:Int) (r:Bool) (w:World) (h:dC.f aj ak ax ay = some r):
 Calls Try.prog 63 #[.agg #[.int .i64 aj,.int .i64 ak,.int .i64 ax,.int .i64 ay]] w fun e w'=>e = .returned (.bool r)∧Below w.heap.size w w':=by
 have qP:=Try.underlying31
 have pK:=Try.underlying27
 have HB:=ae.mk (Below.refl w.heap.size w)
 have H:((bZ.f aj ak).bind fun t116=>(if t116 = true then ((bZ.f ax ay).bind fun t117=>(if t117 = true then ((aK.f aj (-268435456) 268435456).bind fun t118=>(if t118 = true then ((aK.f ak (-268435456) 268435456).bind fun t119=>(if t119 = true then ((aK.f ax (-268435456) 268435456).bind fun t120=>(if t120 = true then ((aK.f ay (-268435456) 268435456).bind fun t121=>(some t121)) else (some false))) else (some false))) else (some false))) else (some false))) else (some false))) = some r:=h
 clear h
 replace H:=Option.bind_eq_some_iff.mp H
 obtain ⟨t116,Yu,H⟩:=H
 replace H:(if t116 = true then ((bZ.f ax ay).bind fun t117=>(if t117 = true then ((aK.f aj (-268435456) 268435456).bind fun t118=>(if t118 = true then ((aK.f ak (-268435456) 268435456).bind fun t119=>(if t119 = true then ((aK.f ax (-268435456) 268435456).bind fun t120=>(if t120 = true then ((aK.f ay (-268435456) 268435456).bind fun t121=>(some t121)) else (some false))) else (some false))) else (some false))) else (some false))) else (some false)) = some r:=H
 have A2:=ae.mk Yu
 clear Yu
 by_cases c3:t116 = true
 ·subst c3
  have H1:((bZ.f ax ay).bind fun t117=>(if t117 = true then ((aK.f aj (-268435456) 268435456).bind fun t118=>(if t118 = true then ((aK.f ak (-268435456) 268435456).bind fun t119=>(if t119 = true then ((aK.f ax (-268435456) 268435456).bind fun t120=>(if t120 = true then ((aK.f ay (-268435456) 268435456).bind fun t121=>(some t121)) else (some false))) else (some false))) else (some false))) else (some false))) = some r:=by rw [if_pos rfl] at H;exact H
  clear H
  have H:=H1
  clear H1
  replace H:=Option.bind_eq_some_iff.mp H
  obtain ⟨t117,LX,H⟩:=H
  replace H:(if t117 = true then ((aK.f aj (-268435456) 268435456).bind fun t118=>(if t118 = true then ((aK.f ak (-268435456) 268435456).bind fun t119=>(if t119 = true then ((aK.f ax (-268435456) 268435456).bind fun t120=>(if t120 = true then ((aK.f ay (-268435456) 268435456).bind fun t121=>(some t121)) else (some false))) else (some false))) else (some false))) else (some false)) = some r:=H
  have A4:=ae.mk LX
  clear LX
  by_cases c5:t117 = true
  ·subst c5
   have H1:((aK.f aj (-268435456) 268435456).bind fun t118=>(if t118 = true then ((aK.f ak (-268435456) 268435456).bind fun t119=>(if t119 = true then ((aK.f ax (-268435456) 268435456).bind fun t120=>(if t120 = true then ((aK.f ay (-268435456) 268435456).bind fun t121=>(some t121)) else (some false))) else (some false))) else (some false))) = some r:=by rw [if_pos rfl] at H;exact H
   clear H
   have H:=H1
   clear H1
   replace H:=Option.bind_eq_some_iff.mp H
   obtain ⟨t118,KI,H⟩:=H
   replace H:(if t118 = true then ((aK.f ak (-268435456) 268435456).bind fun t119=>(if t119 = true then ((aK.f ax (-268435456) 268435456).bind fun t120=>(if t120 = true then ((aK.f ay (-268435456) 268435456).bind fun t121=>(some t121)) else (some false))) else (some false))) else (some false)) = some r:=H
   have A6:=ae.mk KI
   clear KI
   by_cases c7:t118 = true
   ·subst c7
    have H1:((aK.f ak (-268435456) 268435456).bind fun t119=>(if t119 = true then ((aK.f ax (-268435456) 268435456).bind fun t120=>(if t120 = true then ((aK.f ay (-268435456) 268435456).bind fun t121=>(some t121)) else (some false))) else (some false))) = some r:=by rw [if_pos rfl] at H;exact H
    clear H
    have H:=H1
    clear H1
    replace H:=Option.bind_eq_some_iff.mp H
    obtain ⟨t119,U6,H⟩:=H
    replace H:(if t119 = true then ((aK.f ax (-268435456) 268435456).bind fun t120=>(if t120 = true then ((aK.f ay (-268435456) 268435456).bind fun t121=>(some t121)) else (some false))) else (some false)) = some r:=H
    have A8:=ae.mk U6
    clear U6
    by_cases c9:t119 = true
    ·subst c9
     have H1:((aK.f ax (-268435456) 268435456).bind fun t120=>(if t120 = true then ((aK.f ay (-268435456) 268435456).bind fun t121=>(some t121)) else (some false))) = some r:=by rw [if_pos rfl] at H;exact H
     clear H
     have H:=H1
     clear H1
     replace H:=Option.bind_eq_some_iff.mp H
     obtain ⟨t120,Jr,H⟩:=H
     replace H:(if t120 = true then ((aK.f ay (-268435456) 268435456).bind fun t121=>(some t121)) else (some false)) = some r:=H
     have W9:=ae.mk Jr
     clear Jr
     by_cases c11:t120 = true
     ·subst c11
      have H1:((aK.f ay (-268435456) 268435456).bind fun t121=>(some t121)) = some r:=by rw [if_pos rfl] at H;exact H
      clear H
      have H:=H1
      clear H1
      replace H:=Option.bind_eq_some_iff.mp H
      obtain ⟨t121,Vu,H⟩:=H
      replace H:(some t121) = some r:=H
      have A12:=ae.mk Vu
      clear Vu
      obtain rfl:=Option.some.inj H
      go_enter Try.func63,Try.ntmps63
      go_wp2_with (first|((with_reducible refine aA (N:=1) rfl ?_);refine az (by rfl) (N:=1) (by rfl) (cs:=#[.int .i64 aj,.int .i64 ak,.int .i64 ax,.int .i64 ay]) (t:=31) gQ ?_;intro VY hg w13 hbox hb;have j6:=ae.mk (hbox);have VZ:=dn HB hg;have V3:=dn HB hg;replace HB:=dF HB hb;clear hb hbox hg;obtain ⟨wm,wo,DR,DT,wu,wy,DU,DV⟩:=iC j6.out)|((with_reducible refine aW (f:=111) rfl ?_);refine dM (some 5) rfl rfl Try.func111 aR rfl #[.agg #[.int .i64 aj,.int .i64 ak]] rfl jJ ?_;(with_reducible refine (bZ.calls aj ak true _ A2.out).mono ?_);rintro e WW ⟨rfl,hb⟩;refine ⟨_,rfl,?_⟩;replace j6:=bC j6 hb;replace HB:=dF HB hb;(try clear hb);(try clear hb2);(try clear hk);(try clear hi);obtain ⟨TU,TV,aAM,aAN,TW,TY,aAO,aAP⟩:=iC j6.out)|(go_at_call 111;(with_reducible refine (bZ.calls ax ay true _ A4.out).mono ?_);rintro e Ac ⟨rfl,hb⟩;replace j6:=bC j6 hb;replace HB:=dF HB hb;(try clear hb);(try clear hb2);(try clear hk);(try clear hi);obtain ⟨si,sj,su,sw,sD,sF,sG,sH⟩:=iC j6.out)|(go_at_call 112;(with_reducible refine (aK.calls aj (-268435456) 268435456 true _ A6.out).mono ?_);rintro e w' ⟨rfl,⟨nd,rfl⟩⟩)|(go_at_call 112;(with_reducible refine (aK.calls ak (-268435456) 268435456 true _ A8.out).mono ?_);rintro e w' ⟨rfl,⟨nd,rfl⟩⟩)|(go_at_call 112;(with_reducible refine (aK.calls ax (-268435456) 268435456 true _ W9.out).mono ?_);rintro e w' ⟨rfl,⟨nd,rfl⟩⟩)|(go_at_call 112;(with_reducible refine (aK.calls ay (-268435456) 268435456 t121 _ A12.out).mono ?_);rintro e w' ⟨rfl,⟨nd,rfl⟩⟩))
      go_ret
      exact ⟨lJ,gM⟩
     ·replace c11:=Bool.eq_false_iff.mpr c11
      subst c11
      have H1:(some false) = some r:=by rw [if_neg (show ¬ (false = true) by decide)] at H;exact H
      clear H
      have H:=H1
      clear H1
      obtain rfl:=Option.some.inj H
      go_enter Try.func63,Try.ntmps63
      go_wp2_with (first|((with_reducible refine aA (N:=1) rfl ?_);refine az (by rfl) (N:=1) (by rfl) (cs:=#[.int .i64 aj,.int .i64 ak,.int .i64 ax,.int .i64 ay]) (t:=31) gQ ?_;intro VY hg w19 hbox hb;have j6:=ae.mk (hbox);have VZ:=dn HB hg;have V3:=dn HB hg;replace HB:=dF HB hb;clear hb hbox hg;obtain ⟨yM,yN,Ca,Cb,yO,yP,Cc,Ce⟩:=iC j6.out)|((with_reducible refine aW (f:=111) rfl ?_);refine dM (some 5) rfl rfl Try.func111 aR rfl #[.agg #[.int .i64 aj,.int .i64 ak]] rfl jJ ?_;(with_reducible refine (bZ.calls aj ak true _ A2.out).mono ?_);rintro e w21 ⟨rfl,hb⟩;refine ⟨_,rfl,?_⟩;replace j6:=bC j6 hb;replace HB:=dF HB hb;(try clear hb);(try clear hb2);(try clear hk);(try clear hi);obtain ⟨S9,Ta,Tc,Td,Te,Tf,Tg,Ti⟩:=iC j6.out)|(go_at_call 111;(with_reducible refine (bZ.calls ax ay true _ A4.out).mono ?_);rintro e w23 ⟨rfl,hb⟩;replace j6:=bC j6 hb;replace HB:=dF HB hb;(try clear hb);(try clear hb2);(try clear hk);(try clear hi);obtain ⟨wC,wD,yh,yj,wE,wF,yl,ym⟩:=iC j6.out)|(go_at_call 112;(with_reducible refine (aK.calls aj (-268435456) 268435456 true _ A6.out).mono ?_);rintro e w' ⟨rfl,⟨nd,rfl⟩⟩)|(go_at_call 112;(with_reducible refine (aK.calls ak (-268435456) 268435456 true _ A8.out).mono ?_);rintro e w' ⟨rfl,⟨nd,rfl⟩⟩)|(go_at_call 112;(with_reducible refine (aK.calls ax (-268435456) 268435456 false _ W9.out).mono ?_);rintro e w' ⟨rfl,⟨nd,rfl⟩⟩))
      go_ret
      exact ⟨lJ,gM⟩
    ·replace c9:=Bool.eq_false_iff.mpr c9
     subst c9
     have H1:(some false) = some r:=by rw [if_neg (show ¬ (false = true) by decide)] at H;exact H
     clear H
     have H:=H1
     clear H1
     obtain rfl:=Option.some.inj H
     go_enter Try.func63,Try.ntmps63
     go_wp2_with (first|((with_reducible refine aA (N:=1) rfl ?_);refine az (by rfl) (N:=1) (by rfl) (cs:=#[.int .i64 aj,.int .i64 ak,.int .i64 ax,.int .i64 ay]) (t:=31) gQ ?_;intro VY hg w25 hbox hb;have j6:=ae.mk (hbox);have VZ:=dn HB hg;have V3:=dn HB hg;replace HB:=dF HB hb;clear hb hbox hg;obtain ⟨MI,MJ,RI,RJ,MK,ML,RL,RN⟩:=iC j6.out)|((with_reducible refine aW (f:=111) rfl ?_);refine dM (some 5) rfl rfl Try.func111 aR rfl #[.agg #[.int .i64 aj,.int .i64 ak]] rfl jJ ?_;(with_reducible refine (bZ.calls aj ak true _ A2.out).mono ?_);rintro e w27 ⟨rfl,hb⟩;refine ⟨_,rfl,?_⟩;replace j6:=bC j6 hb;replace HB:=dF HB hb;(try clear hb);(try clear hb2);(try clear hk);(try clear hi);obtain ⟨zw,zx,zy,zz,zA,zB,zC,zD⟩:=iC j6.out)|(go_at_call 111;(with_reducible refine (bZ.calls ax ay true _ A4.out).mono ?_);rintro e w29 ⟨rfl,hb⟩;replace j6:=bC j6 hb;replace HB:=dF HB hb;(try clear hb);(try clear hb2);(try clear hk);(try clear hi);obtain ⟨EK,EL,EM,EN,EO,EP,ER,ES⟩:=iC j6.out)|(go_at_call 112;(with_reducible refine (aK.calls aj (-268435456) 268435456 true _ A6.out).mono ?_);rintro e w' ⟨rfl,⟨nd,rfl⟩⟩)|(go_at_call 112;(with_reducible refine (aK.calls ak (-268435456) 268435456 false _ A8.out).mono ?_);rintro e w' ⟨rfl,⟨nd,rfl⟩⟩))
     go_ret
     exact ⟨lJ,gM⟩
   ·replace c7:=Bool.eq_false_iff.mpr c7
    subst c7
    have H1:(some false) = some r:=by rw [if_neg (show ¬ (false = true) by decide)] at H;exact H
    clear H
    have H:=H1
    clear H1
    obtain rfl:=Option.some.inj H
    go_enter Try.func63,Try.ntmps63
    go_wp2_with (first|((with_reducible refine aA (N:=1) rfl ?_);refine az (by rfl) (N:=1) (by rfl) (cs:=#[.int .i64 aj,.int .i64 ak,.int .i64 ax,.int .i64 ay]) (t:=31) gQ ?_;intro VY hg w31 hbox hb;have j6:=ae.mk (hbox);have VZ:=dn HB hg;have V3:=dn HB hg;replace HB:=dF HB hb;clear hb hbox hg;obtain ⟨ah3,ah4,ah5,ah6,ah7,ah8,ah9,aia⟩:=iC j6.out)|((with_reducible refine aW (f:=111) rfl ?_);refine dM (some 5) rfl rfl Try.func111 aR rfl #[.agg #[.int .i64 aj,.int .i64 ak]] rfl jJ ?_;(with_reducible refine (bZ.calls aj ak true _ A2.out).mono ?_);rintro e Df ⟨rfl,hb⟩;refine ⟨_,rfl,?_⟩;replace j6:=bC j6 hb;replace HB:=dF HB hb;(try clear hb);(try clear hb2);(try clear hk);(try clear hi);obtain ⟨JI,JJ,JK,JL,JM,JN,JO,JP⟩:=iC j6.out)|(go_at_call 111;(with_reducible refine (bZ.calls ax ay true _ A4.out).mono ?_);rintro e w35 ⟨rfl,hb⟩;replace j6:=bC j6 hb;replace HB:=dF HB hb;(try clear hb);(try clear hb2);(try clear hk);(try clear hi);obtain ⟨SI,SK,SL,SN,SQ,SS,SV,SX⟩:=iC j6.out)|(go_at_call 112;(with_reducible refine (aK.calls aj (-268435456) 268435456 false _ A6.out).mono ?_);rintro e w' ⟨rfl,⟨nd,rfl⟩⟩))
    go_ret
    exact ⟨lJ,gM⟩
  ·replace c5:=Bool.eq_false_iff.mpr c5
   subst c5
   have H1:(some false) = some r:=by rw [if_neg (show ¬ (false = true) by decide)] at H;exact H
   clear H
   have H:=H1
   clear H1
   obtain rfl:=Option.some.inj H
   go_enter Try.func63,Try.ntmps63
   go_wp2_with (first|((with_reducible refine aA (N:=1) rfl ?_);refine az (by rfl) (N:=1) (by rfl) (cs:=#[.int .i64 aj,.int .i64 ak,.int .i64 ax,.int .i64 ay]) (t:=31) gQ ?_;intro VY hg w37 hbox hb;have j6:=ae.mk (hbox);have VZ:=dn HB hg;have V3:=dn HB hg;replace HB:=dF HB hb;clear hb hbox hg;obtain ⟨ajd,aje,ajf,ajg,ajh,aji,ajj,ajk⟩:=iC j6.out)|((with_reducible refine aW (f:=111) rfl ?_);refine dM (some 5) rfl rfl Try.func111 aR rfl #[.agg #[.int .i64 aj,.int .i64 ak]] rfl jJ ?_;(with_reducible refine (bZ.calls aj ak true _ A2.out).mono ?_);rintro e w39 ⟨rfl,hb⟩;refine ⟨_,rfl,?_⟩;replace j6:=bC j6 hb;replace HB:=dF HB hb;(try clear hb);(try clear hb2);(try clear hk);(try clear hi);obtain ⟨Tp,Tq,Tt,Tu,Tv,Tw,Tx,Ty⟩:=iC j6.out)|(go_at_call 111;(with_reducible refine (bZ.calls ax ay false _ A4.out).mono ?_);rintro e w41 ⟨rfl,hb⟩;replace j6:=bC j6 hb;replace HB:=dF HB hb;(try clear hb);(try clear hb2);(try clear hk);(try clear hi)))
   go_ret
   exact ⟨lJ,gM⟩
 ·replace c3:=Bool.eq_false_iff.mpr c3
  subst c3
  have H1:(some false) = some r:=by rw [if_neg (show ¬ (false = true) by decide)] at H;exact H
  clear H
  have H:=H1
  clear H1
  obtain rfl:=Option.some.inj H
  go_enter Try.func63,Try.ntmps63
  go_wp2_with (first|((with_reducible refine aA (N:=1) rfl ?_);refine az (by rfl) (N:=1) (by rfl) (cs:=#[.int .i64 aj,.int .i64 ak,.int .i64 ax,.int .i64 ay]) (t:=31) gQ ?_;intro VY hg w42 hbox hb;have j6:=ae.mk (hbox);have VZ:=dn HB hg;have V3:=dn HB hg;replace HB:=dF HB hb;clear hb hbox hg;obtain ⟨Y3,Y4,Y5,Y6,Y7,Y8,Y9,Za⟩:=iC j6.out)|((with_reducible refine aW (f:=111) rfl ?_);refine dM (some 5) rfl rfl Try.func111 aR rfl #[.agg #[.int .i64 aj,.int .i64 ak]] rfl jJ ?_;(with_reducible refine (bZ.calls aj ak false _ A2.out).mono ?_);rintro e w44 ⟨rfl,hb⟩;refine ⟨_,rfl,?_⟩;replace j6:=bC j6 hb;replace HB:=dF HB hb;(try clear hb);(try clear hb2);(try clear hk);(try clear hi)))
  go_ret
  exact ⟨lJ,gM⟩
end Go.Proofs.Ytmhaiihjfgfaoaa.Pr
end
