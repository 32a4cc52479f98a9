import Derived.Test.YtmhaiihjfgfaoaaGfGliderFetch3
import Derived.Test.YtmhaiihjfgfaoaaGfGliderFetch4
set_option linter.unusedVariables false
set_option linter.unusedSimpArgs false
open Go.Value renaming int → U
open Go.IntKind renaming i64 → Z
open Bool renaming true → ab, false → ac
section
namespace Go.Proofs.Ytmhaiihjfgfaoaa.Pr
open Go.RowKit Go.Proofs.YtmhaiihjfgfaoaaW.PrintWords Go.Proofs.YtmhaiihjfgfaoaaW.PrintLast Go.Proofs.YtmhaiihjfgfaoaaW.PrintMore
attribute [local go_sem] gp gq iA iB gu
set_option linter.unusedVariables false
set_option linter.unusedSimpArgs false
def dP.f (ai:Int) (aj:Int) (aC:Int) (aD:Int) (aJ:Int) (aH:Int) (aK:Int):Option (Int):=if ai < 0 then (some 2) else (if ai > 5000 then (some 2) else (if aj < 1 then (some 2) else (if aj > 131072 then (some 2) else ((bK.f aC aD 0 1073741824).bind fun t113=>(if t113 = true then ((bK.f aJ aH 0 1073741824).bind fun t114=>(if t114 = true then (if aK < 0 then (some 2) else (if aK > 1073741824 then (some 2) else (some 0))) else (some 2))) else (some 2))))))
set_option maxHeartbeats 8000000 in
set_option maxRecDepth 100000 in
theorem dP.calls (ai:Int) (aj:Int) (aC:Int) (aD:Int) (aJ:Int) (aH:Int) (aK:Int) (r:Int) (w:World) (h:dP.f ai aj aC aD aJ aH aK = some r):
 Calls Try.prog 28 #[.agg #[U Z ai,U Z aj,U Z aC,U Z aD,U Z aJ,U Z aH,U Z aK]] w fun e w'=>e = .returned (U Z r)∧Below w.heap.size w w':=by
 have Br:=Try.underlying29
 have pz:=Try.underlying27
 have HB:=aa.mk (Below.refl w.heap.size w)
 have H:(if ai < 0 then (some 2) else (if ai > 5000 then (some 2) else (if aj < 1 then (some 2) else (if aj > 131072 then (some 2) else ((bK.f aC aD 0 1073741824).bind fun t113=>(if t113 = true then ((bK.f aJ aH 0 1073741824).bind fun t114=>(if t114 = true then (if aK < 0 then (some 2) else (if aK > 1073741824 then (some 2) else (some 0))) else (some 2))) else (some 2))))))) = some r:=h
 clear h
 by_cases c2:ai < 0
 ·rw [if_pos c2] at H
  have abz:decide (ai < 0) = true:=decide_eq_true c2
  clear c2
  obtain rfl:=Option.some.inj H
  go_enter Try.func28,Try.ntmps28
  go_wp2_with (first|((with_reducible refine aA (N:=1) rfl ?_);refine au (by rfl) (N:=1) (by rfl) (cs:=#[U Z ai,U Z aj,U Z aC,U Z aD,U Z aJ,U Z aH,U Z aK]) (t:=29) fG ?_;intro QW hg w3 hbox hb;have mD:=aa.mk (hbox);have QX:=bS HB hg;have QY:=bS HB hg;replace HB:=cO HB hb;clear hb hbox hg;obtain ⟨Xk,Xl,an4,an5,az2,az3,az4,Xm,Xn,an6,an7,az5,az6,az7⟩:=jF mD.out))
  go_ret
  exact ⟨lW,gL⟩
 ·rw [if_neg c2] at H
  have abz:decide (ai < 0) = false:=decide_eq_false c2
  clear c2
  by_cases c5:ai > 5000
  ·rw [if_pos c5] at H
   have DI:decide (5000 < ai) = true:=decide_eq_true c5
   clear c5
   obtain rfl:=Option.some.inj H
   go_enter Try.func28,Try.ntmps28
   go_wp2_with (first|((with_reducible refine aA (N:=1) rfl ?_);refine au (by rfl) (N:=1) (by rfl) (cs:=#[U Z ai,U Z aj,U Z aC,U Z aD,U Z aJ,U Z aH,U Z aK]) (t:=29) fG ?_;intro QW hg w6 hbox hb;have mD:=aa.mk (hbox);have QX:=bS HB hg;have QY:=bS HB hg;replace HB:=cO HB hb;clear hb hbox hg;obtain ⟨zA,zB,Fg,Fh,Hm,Ho,Mr,zC,zD,Fj,Fp,Hq,Hr,Ms⟩:=jF mD.out))
   go_ret
   exact ⟨lW,gL⟩
  ·rw [if_neg c5] at H
   have DI:decide (5000 < ai) = false:=decide_eq_false c5
   clear c5
   by_cases c8:aj < 1
   ·rw [if_pos c8] at H
    have Lf:decide (aj < 1) = true:=decide_eq_true c8
    clear c8
    obtain rfl:=Option.some.inj H
    go_enter Try.func28,Try.ntmps28
    go_wp2_with (first|((with_reducible refine aA (N:=1) rfl ?_);refine au (by rfl) (N:=1) (by rfl) (cs:=#[U Z ai,U Z aj,U Z aC,U Z aD,U Z aJ,U Z aH,U Z aK]) (t:=29) fG ?_;intro QW hg w9 hbox hb;have mD:=aa.mk (hbox);have QX:=bS HB hg;have QY:=bS HB hg;replace HB:=cO HB hb;clear hb hbox hg;obtain ⟨sV,sW,JQ,JR,Xz,XA,XB,sZ,tq,JS,JU,XC,XD,XE⟩:=jF mD.out))
    go_ret
    exact ⟨lW,gL⟩
   ·rw [if_neg c8] at H
    have Lf:decide (aj < 1) = false:=decide_eq_false c8
    clear c8
    by_cases c11:aj > 131072
    ·rw [if_pos c11] at H
     have Jj:decide (131072 < aj) = true:=decide_eq_true c11
     clear c11
     obtain rfl:=Option.some.inj H
     go_enter Try.func28,Try.ntmps28
     go_wp2_with (first|((with_reducible refine aA (N:=1) rfl ?_);refine au (by rfl) (N:=1) (by rfl) (cs:=#[U Z ai,U Z aj,U Z aC,U Z aD,U Z aJ,U Z aH,U Z aK]) (t:=29) fG ?_;intro QW hg O3 hbox hb;have mD:=aa.mk (hbox);have QX:=bS HB hg;have QY:=bS HB hg;replace HB:=cO HB hb;clear hb hbox hg;obtain ⟨ug,uh,Aw,Ay,Ht,Hu,OZ,ui,uj,Az,AA,Hw,Hy,O0⟩:=jF mD.out))
     go_ret
     exact ⟨lW,gL⟩
    ·rw [if_neg c11] at H
     have Jj:decide (131072 < aj) = false:=decide_eq_false c11
     clear c11
     replace H:=Option.bind_eq_some_iff.mp H
     obtain ⟨t113,Uw,H⟩:=H
     replace H:(if t113 = true then ((bK.f aJ aH 0 1073741824).bind fun t114=>(if t114 = true then (if aK < 0 then (some 2) else (if aK > 1073741824 then (some 2) else (some 0))) else (some 2))) else (some 2)) = some r:=H
     have A14:=aa.mk Uw
     clear Uw
     by_cases c15:t113 = true
     ·subst c15
      have H1:((bK.f aJ aH 0 1073741824).bind fun t114=>(if t114 = true then (if aK < 0 then (some 2) else (if aK > 1073741824 then (some 2) else (some 0))) else (some 2))) = some r:=by rw [if_pos rfl] at H;exact H
      clear H
      have H:=H1
      clear H1
      replace H:=Option.bind_eq_some_iff.mp H
      obtain ⟨t114,acg,H⟩:=H
      replace H:(if t114 = true then (if aK < 0 then (some 2) else (if aK > 1073741824 then (some 2) else (some 0))) else (some 2)) = some r:=H
      have A16:=aa.mk acg
      clear acg
      by_cases c17:t114 = true
      ·subst c17
       have H1:(if aK < 0 then (some 2) else (if aK > 1073741824 then (some 2) else (some 0))) = some r:=by rw [if_pos rfl] at H;exact H
       clear H
       have H:=H1
       clear H1
       by_cases c18:aK < 0
       ·rw [if_pos c18] at H
        have QV:decide (aK < 0) = true:=decide_eq_true c18
        clear c18
        obtain rfl:=Option.some.inj H
        go_enter Try.func28,Try.ntmps28
        go_wp2_with (first|((with_reducible refine aA (N:=1) rfl ?_);refine au (by rfl) (N:=1) (by rfl) (cs:=#[U Z ai,U Z aj,U Z aC,U Z aD,U Z aJ,U Z aH,U Z aK]) (t:=29) fG ?_;intro QW hg w19 hbox hb;have mD:=aa.mk (hbox);have QX:=bS HB hg;have QY:=bS HB hg;replace HB:=cO HB hb;clear hb hbox hg;obtain ⟨wu,wy,AP,AQ,Cn,Co,G6,wz,wB,AR,AU,Cq,Cr,G7⟩:=jF mD.out)|(go_at_call 78;(with_reducible refine (bK.calls aC aD 0 1073741824 true _ A14.out).mono ?_);rintro e w21 ⟨rfl,hb⟩;replace mD:=aX mD hb;replace HB:=cO HB hb;(try clear hb);(try clear hb2);(try clear hk);(try clear hi);obtain ⟨Ob,Oc,Y0,Y1,ahY,ahZ,ah0,Od,Oe,Y2,Y3,ah1,ah2,ah3⟩:=jF mD.out)|(go_at_call 78;(with_reducible refine (bK.calls aJ aH 0 1073741824 true _ A16.out).mono ?_);rintro e w23 ⟨rfl,hb⟩;replace mD:=aX mD hb;replace HB:=cO HB hb;(try clear hb);(try clear hb2);(try clear hk);(try clear hi);obtain ⟨rC,rD,xE,xG,Ep,Er,Es,rE,rF,xH,xI,Et,Eu,Ev⟩:=jF mD.out))
        go_ret
        exact ⟨lW,gL⟩
       ·rw [if_neg c18] at H
        have QV:decide (aK < 0) = false:=decide_eq_false c18
        clear c18
        by_cases c25:aK > 1073741824
        ·rw [if_pos c25] at H
         have aOo:decide (1073741824 < aK) = true:=decide_eq_true c25
         clear c25
         obtain rfl:=Option.some.inj H
         go_enter Try.func28,Try.ntmps28
         go_wp2_with (first|((with_reducible refine aA (N:=1) rfl ?_);refine au (by rfl) (N:=1) (by rfl) (cs:=#[U Z ai,U Z aj,U Z aC,U Z aD,U Z aJ,U Z aH,U Z aK]) (t:=29) fG ?_;intro QW hg xk hbox hb;have mD:=aa.mk (hbox);have QX:=bS HB hg;have QY:=bS HB hg;replace HB:=cO HB hb;clear hb hbox hg;obtain ⟨CB,CE,CF,CG,EM,EN,EO,CJ,CK,CL,CO,EP,ER,ES⟩:=jF mD.out)|(go_at_call 78;(with_reducible refine (bK.calls aC aD 0 1073741824 true _ A14.out).mono ?_);rintro e w28 ⟨rfl,hb⟩;replace mD:=aX mD hb;replace HB:=cO HB hb;(try clear hb);(try clear hb2);(try clear hk);(try clear hi);obtain ⟨vZ,wh,AB,AJ,CP,CQ,CR,wm,wo,AL,AO,CS,CU,CV⟩:=jF mD.out)|(go_at_call 78;(with_reducible refine (bK.calls aJ aH 0 1073741824 true _ A16.out).mono ?_);rintro e w30 ⟨rfl,hb⟩;replace mD:=aX mD hb;replace HB:=cO HB hb;(try clear hb);(try clear hb2);(try clear hk);(try clear hi);obtain ⟨Sq,Sr,Yw,Yx,ajr,ajs,ajt,Su,Sv,Yy,Yz,aju,ajv,ajw⟩:=jF mD.out))
         go_ret
         exact ⟨lW,gL⟩
        ·rw [if_neg c25] at H
         have aOo:decide (1073741824 < aK) = false:=decide_eq_false c25
         clear c25
         obtain rfl:=Option.some.inj H
         go_enter Try.func28,Try.ntmps28
         go_wp2_with (first|((with_reducible refine aA (N:=1) rfl ?_);refine au (by rfl) (N:=1) (by rfl) (cs:=#[U Z ai,U Z aj,U Z aC,U Z aD,U Z aJ,U Z aH,U Z aK]) (t:=29) fG ?_;intro QW hg w32 hbox hb;have mD:=aa.mk (hbox);have QX:=bS HB hg;have QY:=bS HB hg;replace HB:=cO HB hb;clear hb hbox hg;obtain ⟨Bg,Bh,Ik,Il,agK,agL,agM,Bi,Bj,Im,Io,agN,agO,agP⟩:=jF mD.out)|(go_at_call 78;(with_reducible refine (bK.calls aC aD 0 1073741824 true _ A14.out).mono ?_);rintro e w34 ⟨rfl,hb⟩;replace mD:=aX mD hb;replace HB:=cO HB hb;(try clear hb);(try clear hb2);(try clear hk);(try clear hi);obtain ⟨D6,D7,JL,JM,Tu,Tv,Tw,D8,D9,JN,JO,Tx,Ty,Tz⟩:=jF mD.out)|(go_at_call 78;(with_reducible refine (bK.calls aJ aH 0 1073741824 true _ A16.out).mono ?_);rintro e w36 ⟨rfl,hb⟩;replace mD:=aX mD hb;replace HB:=cO HB hb;(try clear hb);(try clear hb2);(try clear hk);(try clear hi);obtain ⟨YA,YB,atE,atF,atG,atH,aU5,YC,YD,atJ,atK,atL,atM,aU6⟩:=jF mD.out))
         go_ret
         exact ⟨lW,gL⟩
      ·replace c17:=Bool.eq_false_iff.mpr c17
       subst c17
       have H1:(some 2) = some r:=by rw [if_neg (show ¬ (false = true) by decide)] at H;exact H
       clear H
       have H:=H1
       clear H1
       obtain rfl:=Option.some.inj H
       go_enter Try.func28,Try.ntmps28
       go_wp2_with (first|((with_reducible refine aA (N:=1) rfl ?_);refine au (by rfl) (N:=1) (by rfl) (cs:=#[U Z ai,U Z aj,U Z aC,U Z aD,U Z aJ,U Z aH,U Z aK]) (t:=29) fG ?_;intro QW hg w38 hbox hb;have mD:=aa.mk (hbox);have QX:=bS HB hg;have QY:=bS HB hg;replace HB:=cO HB hb;clear hb hbox hg;obtain ⟨XM,XN,af4,af5,aqQ,aqR,aqS,XO,XP,af6,af7,aqT,aqU,aqV⟩:=jF mD.out)|(go_at_call 78;(with_reducible refine (bK.calls aC aD 0 1073741824 true _ A14.out).mono ?_);rintro e w40 ⟨rfl,hb⟩;replace mD:=aX mD hb;replace HB:=cO HB hb;(try clear hb);(try clear hb2);(try clear hk);(try clear hi);obtain ⟨ah8,ah9,at5,at6,at7,aua,aub,aia,aib,auc,aud,aue,auf,aug⟩:=jF mD.out)|(go_at_call 78;(with_reducible refine (bK.calls aJ aH 0 1073741824 false _ A16.out).mono ?_);rintro e w42 ⟨rfl,hb⟩;replace mD:=aX mD hb;replace HB:=cO HB hb;(try clear hb);(try clear hb2);(try clear hk);(try clear hi)))
       go_ret
       exact ⟨lW,gL⟩
     ·replace c15:=Bool.eq_false_iff.mpr c15
      subst c15
      have H1:(some 2) = some r:=by rw [if_neg (show ¬ (false = true) by decide)] at H;exact H
      clear H
      have H:=H1
      clear H1
      obtain rfl:=Option.some.inj H
      go_enter Try.func28,Try.ntmps28
      go_wp2_with (first|((with_reducible refine aA (N:=1) rfl ?_);refine au (by rfl) (N:=1) (by rfl) (cs:=#[U Z ai,U Z aj,U Z aC,U Z aD,U Z aJ,U Z aH,U Z aK]) (t:=29) fG ?_;intro QW hg w43 hbox hb;have mD:=aa.mk (hbox);have QX:=bS HB hg;have QY:=bS HB hg;replace HB:=cO HB hb;clear hb hbox hg;obtain ⟨aup,auq,aur,aus,aut,auu,auv,auw,auy,auz,auA,auB,auC,auD⟩:=jF mD.out)|(go_at_call 78;(with_reducible refine (bK.calls aC aD 0 1073741824 false _ A14.out).mono ?_);rintro e w45 ⟨rfl,hb⟩;replace mD:=aX mD hb;replace HB:=cO HB hb;(try clear hb);(try clear hb2);(try clear hk);(try clear hi)))
      go_ret
      exact ⟨lW,gL⟩
def dB.f (ai:Int) (aj:Int) (aC:Int) (aD:Int):Option (Bool):=(bU.f ai aj).bind fun t116=>(if t116 = true then ((bU.f aC aD).bind fun t117=>(if t117 = true then ((aW.f ai (-268435456) 268435456).bind fun t118=>(if t118 = true then ((aW.f aj (-268435456) 268435456).bind fun t119=>(if t119 = true then ((aW.f aC (-268435456) 268435456).bind fun t120=>(if t120 = true then ((aW.f aD (-268435456) 268435456).bind fun t121=>(some t121)) else (some false))) else (some false))) else (some false))) else (some false))) else (some false))
set_option maxHeartbeats 8000000 in
set_option maxRecDepth 100000 in
theorem dB.calls (ai:Int) (aj:Int) (aC:Int) (aD:Int) (r:Bool) (w:World) (h:dB.f ai aj aC aD = some r):
 Calls Try.prog 63 #[.agg #[U Z ai,U Z aj,U Z aC,U Z aD]] w fun e w'=>e = .returned (.bool r)∧Below w.heap.size w w':=by
 have rO:=Try.underlying31
 have pz:=Try.underlying27
 have HB:=aa.mk (Below.refl w.heap.size w)
 have H:((bU.f ai aj).bind fun t116=>(if t116 = true then ((bU.f aC aD).bind fun t117=>(if t117 = true then ((aW.f ai (-268435456) 268435456).bind fun t118=>(if t118 = true then ((aW.f aj (-268435456) 268435456).bind fun t119=>(if t119 = true then ((aW.f aC (-268435456) 268435456).bind fun t120=>(if t120 = true then ((aW.f aD (-268435456) 268435456).bind fun t121=>(some t121)) else (some false))) else (some false))) else (some false))) else (some false))) else (some false))) = some r:=h
 clear h
 replace H:=Option.bind_eq_some_iff.mp H
 obtain ⟨t116,VR,H⟩:=H
 replace H:(if t116 = true then ((bU.f aC aD).bind fun t117=>(if t117 = true then ((aW.f ai (-268435456) 268435456).bind fun t118=>(if t118 = true then ((aW.f aj (-268435456) 268435456).bind fun t119=>(if t119 = true then ((aW.f aC (-268435456) 268435456).bind fun t120=>(if t120 = true then ((aW.f aD (-268435456) 268435456).bind fun t121=>(some t121)) else (some false))) else (some false))) else (some false))) else (some false))) else (some false)) = some r:=H
 have A2:=aa.mk VR
 clear VR
 by_cases c3:t116 = true
 ·subst c3
  have H1:((bU.f aC aD).bind fun t117=>(if t117 = true then ((aW.f ai (-268435456) 268435456).bind fun t118=>(if t118 = true then ((aW.f aj (-268435456) 268435456).bind fun t119=>(if t119 = true then ((aW.f aC (-268435456) 268435456).bind fun t120=>(if t120 = true then ((aW.f aD (-268435456) 268435456).bind fun t121=>(some t121)) else (some false))) else (some false))) else (some false))) else (some false))) = some r:=by rw [if_pos rfl] at H;exact H
  clear H
  have H:=H1
  clear H1
  replace H:=Option.bind_eq_some_iff.mp H
  obtain ⟨t117,M0,H⟩:=H
  replace H:(if t117 = true then ((aW.f ai (-268435456) 268435456).bind fun t118=>(if t118 = true then ((aW.f aj (-268435456) 268435456).bind fun t119=>(if t119 = true then ((aW.f aC (-268435456) 268435456).bind fun t120=>(if t120 = true then ((aW.f aD (-268435456) 268435456).bind fun t121=>(some t121)) else (some false))) else (some false))) else (some false))) else (some false)) = some r:=H
  have A4:=aa.mk M0
  clear M0
  by_cases c5:t117 = true
  ·subst c5
   have H1:((aW.f ai (-268435456) 268435456).bind fun t118=>(if t118 = true then ((aW.f aj (-268435456) 268435456).bind fun t119=>(if t119 = true then ((aW.f aC (-268435456) 268435456).bind fun t120=>(if t120 = true then ((aW.f aD (-268435456) 268435456).bind fun t121=>(some t121)) else (some false))) else (some false))) else (some false))) = some r:=by rw [if_pos rfl] at H;exact H
   clear H
   have H:=H1
   clear H1
   replace H:=Option.bind_eq_some_iff.mp H
   obtain ⟨t118,QG,H⟩:=H
   replace H:(if t118 = true then ((aW.f aj (-268435456) 268435456).bind fun t119=>(if t119 = true then ((aW.f aC (-268435456) 268435456).bind fun t120=>(if t120 = true then ((aW.f aD (-268435456) 268435456).bind fun t121=>(some t121)) else (some false))) else (some false))) else (some false)) = some r:=H
   have A6:=aa.mk QG
   clear QG
   by_cases c7:t118 = true
   ·subst c7
    have H1:((aW.f aj (-268435456) 268435456).bind fun t119=>(if t119 = true then ((aW.f aC (-268435456) 268435456).bind fun t120=>(if t120 = true then ((aW.f aD (-268435456) 268435456).bind fun t121=>(some t121)) else (some false))) else (some false))) = some r:=by rw [if_pos rfl] at H;exact H
    clear H
    have H:=H1
    clear H1
    replace H:=Option.bind_eq_some_iff.mp H
    obtain ⟨t119,QO,H⟩:=H
    replace H:(if t119 = true then ((aW.f aC (-268435456) 268435456).bind fun t120=>(if t120 = true then ((aW.f aD (-268435456) 268435456).bind fun t121=>(some t121)) else (some false))) else (some false)) = some r:=H
    have A8:=aa.mk QO
    clear QO
    by_cases c9:t119 = true
    ·subst c9
     have H1:((aW.f aC (-268435456) 268435456).bind fun t120=>(if t120 = true then ((aW.f aD (-268435456) 268435456).bind fun t121=>(some t121)) else (some false))) = some r:=by rw [if_pos rfl] at H;exact H
     clear H
     have H:=H1
     clear H1
     replace H:=Option.bind_eq_some_iff.mp H
     obtain ⟨t120,FP,H⟩:=H
     replace H:(if t120 = true then ((aW.f aD (-268435456) 268435456).bind fun t121=>(some t121)) else (some false)) = some r:=H
     have QJ:=aa.mk FP
     clear FP
     by_cases c11:t120 = true
     ·subst c11
      have H1:((aW.f aD (-268435456) 268435456).bind fun t121=>(some t121)) = some r:=by rw [if_pos rfl] at H;exact H
      clear H
      have H:=H1
      clear H1
      replace H:=Option.bind_eq_some_iff.mp H
      obtain ⟨t121,NC,H⟩:=H
      replace H:(some t121) = some r:=H
      have A12:=aa.mk NC
      clear NC
      obtain rfl:=Option.some.inj H
      go_enter Try.func63,Try.ntmps63
      go_wp2_with (first|((with_reducible refine aA (N:=1) rfl ?_);refine au (by rfl) (N:=1) (by rfl) (cs:=#[U Z ai,U Z aj,U Z aC,U Z aD]) (t:=31) fG ?_;intro ac3 hg FD hbox hb;have mE:=aa.mk (hbox);have ac4:=bS HB hg;have ac5:=bS HB hg;replace HB:=cO HB hb;clear hb hbox hg;obtain ⟨Aq,Ar,GL,GM,Au,Av,GN,GQ⟩:=jc mE.out)|((with_reducible refine aQ (f:=111) rfl ?_);refine dn (some 5) rfl rfl Try.func111 aM rfl #[.agg #[U Z ai,U Z aj]] rfl ji ?_;(with_reducible refine (bU.calls ai aj true _ A2.out).mono ?_);rintro e w15 ⟨rfl,hb⟩;refine ⟨_,rfl,?_⟩;replace mE:=aX mE hb;replace HB:=cO HB hb;(try clear hb);(try clear hb2);(try clear hk);(try clear hi);obtain ⟨aae,aaf,aU7,aU8,aag,aah,aU9,aVa⟩:=jc mE.out)|(go_at_call 111;(with_reducible refine (bU.calls aC aD true _ A4.out).mono ?_);rintro e Fb ⟨rfl,hb⟩;replace mE:=aX mE hb;replace HB:=cO HB hb;(try clear hb);(try clear hb2);(try clear hk);(try clear hi);obtain ⟨Ee,Ef,RD,RF,Eg,Eh,RG,RH⟩:=jc mE.out)|(go_at_call 112;(with_reducible refine (aW.calls ai (-268435456) 268435456 true _ A6.out).mono ?_);rintro e w' ⟨rfl,⟨nd,rfl⟩⟩)|(go_at_call 112;(with_reducible refine (aW.calls aj (-268435456) 268435456 true _ A8.out).mono ?_);rintro e w' ⟨rfl,⟨nd,rfl⟩⟩)|(go_at_call 112;(with_reducible refine (aW.calls aC (-268435456) 268435456 true _ QJ.out).mono ?_);rintro e w' ⟨rfl,⟨nd,rfl⟩⟩)|(go_at_call 112;(with_reducible refine (aW.calls aD (-268435456) 268435456 t121 _ A12.out).mono ?_);rintro e w' ⟨rfl,⟨nd,rfl⟩⟩))
      go_ret
      exact ⟨lW,gL⟩
     ·replace c11:=Bool.eq_false_iff.mpr c11
      subst c11
      have H1:(some false) = some r:=by rw [if_neg (show ¬ (false = true) by decide)] at H;exact H
      clear H
      have H:=H1
      clear H1
      obtain rfl:=Option.some.inj H
      go_enter Try.func63,Try.ntmps63
      go_wp2_with (first|((with_reducible refine aA (N:=1) rfl ?_);refine au (by rfl) (N:=1) (by rfl) (cs:=#[U Z ai,U Z aj,U Z aC,U Z aD]) (t:=31) fG ?_;intro ac3 hg w19 hbox hb;have mE:=aa.mk (hbox);have ac4:=bS HB hg;have ac5:=bS HB hg;replace HB:=cO HB hb;clear hb hbox hg;obtain ⟨wu,wy,AP,AQ,wz,wB,AR,AU⟩:=jc mE.out)|((with_reducible refine aQ (f:=111) rfl ?_);refine dn (some 5) rfl rfl Try.func111 aM rfl #[.agg #[U Z ai,U Z aj]] rfl ji ?_;(with_reducible refine (bU.calls ai aj true _ A2.out).mono ?_);rintro e w21 ⟨rfl,hb⟩;refine ⟨_,rfl,?_⟩;replace mE:=aX mE hb;replace HB:=cO HB hb;(try clear hb);(try clear hb2);(try clear hk);(try clear hi);obtain ⟨Ob,Oc,Y0,Y1,Od,Oe,Y2,Y3⟩:=jc mE.out)|(go_at_call 111;(with_reducible refine (bU.calls aC aD true _ A4.out).mono ?_);rintro e w23 ⟨rfl,hb⟩;replace mE:=aX mE hb;replace HB:=cO HB hb;(try clear hb);(try clear hb2);(try clear hk);(try clear hi);obtain ⟨rC,rD,xE,xG,rE,rF,xH,xI⟩:=jc mE.out)|(go_at_call 112;(with_reducible refine (aW.calls ai (-268435456) 268435456 true _ A6.out).mono ?_);rintro e w' ⟨rfl,⟨nd,rfl⟩⟩)|(go_at_call 112;(with_reducible refine (aW.calls aj (-268435456) 268435456 true _ A8.out).mono ?_);rintro e w' ⟨rfl,⟨nd,rfl⟩⟩)|(go_at_call 112;(with_reducible refine (aW.calls aC (-268435456) 268435456 false _ QJ.out).mono ?_);rintro e w' ⟨rfl,⟨nd,rfl⟩⟩))
      go_ret
      exact ⟨lW,gL⟩
    ·replace c9:=Bool.eq_false_iff.mpr c9
     subst c9
     have H1:(some false) = some r:=by rw [if_neg (show ¬ (false = true) by decide)] at H;exact H
     clear H
     have H:=H1
     clear H1
     obtain rfl:=Option.some.inj H
     go_enter Try.func63,Try.ntmps63
     go_wp2_with (first|((with_reducible refine aA (N:=1) rfl ?_);refine au (by rfl) (N:=1) (by rfl) (cs:=#[U Z ai,U Z aj,U Z aC,U Z aD]) (t:=31) fG ?_;intro ac3 hg w25 hbox hb;have mE:=aa.mk (hbox);have ac4:=bS HB hg;have ac5:=bS HB hg;replace HB:=cO HB hb;clear hb hbox hg;obtain ⟨Xg,Xh,afF,afG,Xi,Xj,afH,afI⟩:=jc mE.out)|((with_reducible refine aQ (f:=111) rfl ?_);refine dn (some 5) rfl rfl Try.func111 aM rfl #[.agg #[U Z ai,U Z aj]] rfl ji ?_;(with_reducible refine (bU.calls ai aj true _ A2.out).mono ?_);rintro e w27 ⟨rfl,hb⟩;refine ⟨_,rfl,?_⟩;replace mE:=aX mE hb;replace HB:=cO HB hb;(try clear hb);(try clear hb2);(try clear hk);(try clear hi);obtain ⟨NU,NV,SE,SF,NW,NY,SG,SH⟩:=jc mE.out)|(go_at_call 111;(with_reducible refine (bU.calls aC aD true _ A4.out).mono ?_);rintro e w29 ⟨rfl,hb⟩;replace mE:=aX mE hb;replace HB:=cO HB hb;(try clear hb);(try clear hb2);(try clear hk);(try clear hi);obtain ⟨ED,EE,Ig,Ih,EF,EG,Ii,Ij⟩:=jc mE.out)|(go_at_call 112;(with_reducible refine (aW.calls ai (-268435456) 268435456 true _ A6.out).mono ?_);rintro e w' ⟨rfl,⟨nd,rfl⟩⟩)|(go_at_call 112;(with_reducible refine (aW.calls aj (-268435456) 268435456 false _ A8.out).mono ?_);rintro e w' ⟨rfl,⟨nd,rfl⟩⟩))
     go_ret
     exact ⟨lW,gL⟩
   ·replace c7:=Bool.eq_false_iff.mpr c7
    subst c7
    have H1:(some false) = some r:=by rw [if_neg (show ¬ (false = true) by decide)] at H;exact H
    clear H
    have H:=H1
    clear H1
    obtain rfl:=Option.some.inj H
    go_enter Try.func63,Try.ntmps63
    go_wp2_with (first|((with_reducible refine aA (N:=1) rfl ?_);refine au (by rfl) (N:=1) (by rfl) (cs:=#[U Z ai,U Z aj,U Z aC,U Z aD]) (t:=31) fG ?_;intro ac3 hg w31 hbox hb;have mE:=aa.mk (hbox);have ac4:=bS HB hg;have ac5:=bS HB hg;replace HB:=cO HB hb;clear hb hbox hg;obtain ⟨Yn,Yo,Yp,Yq,Yr,Yt,Yu,Yv⟩:=jc mE.out)|((with_reducible refine aQ (f:=111) rfl ?_);refine dn (some 5) rfl rfl Try.func111 aM rfl #[.agg #[U Z ai,U Z aj]] rfl ji ?_;(with_reducible refine (bU.calls ai aj true _ A2.out).mono ?_);rintro e I5 ⟨rfl,hb⟩;refine ⟨_,rfl,?_⟩;replace mE:=aX mE hb;replace HB:=cO HB hb;(try clear hb);(try clear hb2);(try clear hk);(try clear hi);obtain ⟨EH,EI,NP,NQ,EJ,EK,NR,NS⟩:=jc mE.out)|(go_at_call 111;(with_reducible refine (bU.calls aC aD true _ A4.out).mono ?_);rintro e w35 ⟨rfl,hb⟩;replace mE:=aX mE hb;replace HB:=cO HB hb;(try clear hb);(try clear hb2);(try clear hk);(try clear hi);obtain ⟨ND,NF,Sd,Sg,NG,NH,Si,Sj⟩:=jc mE.out)|(go_at_call 112;(with_reducible refine (aW.calls ai (-268435456) 268435456 false _ A6.out).mono ?_);rintro e w' ⟨rfl,⟨nd,rfl⟩⟩))
    go_ret
    exact ⟨lW,gL⟩
  ·replace c5:=Bool.eq_false_iff.mpr c5
   subst c5
   have H1:(some false) = some r:=by rw [if_neg (show ¬ (false = true) by decide)] at H;exact H
   clear H
   have H:=H1
   clear H1
   obtain rfl:=Option.some.inj H
   go_enter Try.func63,Try.ntmps63
   go_wp2_with (first|((with_reducible refine aA (N:=1) rfl ?_);refine au (by rfl) (N:=1) (by rfl) (cs:=#[U Z ai,U Z aj,U Z aC,U Z aD]) (t:=31) fG ?_;intro ac3 hg w37 hbox hb;have mE:=aa.mk (hbox);have ac4:=bS HB hg;have ac5:=bS HB hg;replace HB:=cO HB hb;clear hb hbox hg;obtain ⟨aVb,aVc,aVd,aVe,aVf,aVg,aVh,aVi⟩:=jc mE.out)|((with_reducible refine aQ (f:=111) rfl ?_);refine dn (some 5) rfl rfl Try.func111 aM rfl #[.agg #[U Z ai,U Z aj]] rfl ji ?_;(with_reducible refine (bU.calls ai aj true _ A2.out).mono ?_);rintro e w39 ⟨rfl,hb⟩;refine ⟨_,rfl,?_⟩;replace mE:=aX mE hb;replace HB:=cO HB hb;(try clear hb);(try clear hb2);(try clear hk);(try clear hi);obtain ⟨IB,IC,KV,KW,IE,IG,KX,KY⟩:=jc mE.out)|(go_at_call 111;(with_reducible refine (bU.calls aC aD false _ A4.out).mono ?_);rintro e w41 ⟨rfl,hb⟩;replace mE:=aX mE hb;replace HB:=cO HB hb;(try clear hb);(try clear hb2);(try clear hk);(try clear hi)))
   go_ret
   exact ⟨lW,gL⟩
 ·replace c3:=Bool.eq_false_iff.mpr c3
  subst c3
  have H1:(some false) = some r:=by rw [if_neg (show ¬ (false = true) by decide)] at H;exact H
  clear H
  have H:=H1
  clear H1
  obtain rfl:=Option.some.inj H
  go_enter Try.func63,Try.ntmps63
  go_wp2_with (first|((with_reducible refine aA (N:=1) rfl ?_);refine au (by rfl) (N:=1) (by rfl) (cs:=#[U Z ai,U Z aj,U Z aC,U Z aD]) (t:=31) fG ?_;intro ac3 hg w42 hbox hb;have mE:=aa.mk (hbox);have ac4:=bS HB hg;have ac5:=bS HB hg;replace HB:=cO HB hb;clear hb hbox hg;obtain ⟨af8,af9,aga,agb,agc,agd,age,agf⟩:=jc mE.out)|((with_reducible refine aQ (f:=111) rfl ?_);refine dn (some 5) rfl rfl Try.func111 aM rfl #[.agg #[U Z ai,U Z aj]] rfl ji ?_;(with_reducible refine (bU.calls ai aj false _ A2.out).mono ?_);rintro e w44 ⟨rfl,hb⟩;refine ⟨_,rfl,?_⟩;replace mE:=aX mE hb;replace HB:=cO HB hb;(try clear hb);(try clear hb2);(try clear hk);(try clear hi)))
  go_ret
  exact ⟨lW,gL⟩
end Go.Proofs.Ytmhaiihjfgfaoaa.Pr
end
