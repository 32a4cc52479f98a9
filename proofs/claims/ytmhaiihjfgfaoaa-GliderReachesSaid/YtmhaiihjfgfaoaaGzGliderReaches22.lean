import Derived.Test.YtmhaiihjfgfaoaaGzGliderReaches3
import Derived.Test.YtmhaiihjfgfaoaaGzGliderReaches20
import Derived.Test.YtmhaiihjfgfaoaaGzGliderReaches21
open Go.Value renaming int → U
open Go.IntKind renaming i64 → Z
open Bool renaming true → ab, false → ac
section
namespace Go.Proofs.Ytmhaiihjfgfaoaa.Pr
open Go.RowKit Go.Proofs.YtmhaiihjfgfaoaaW.PrintWords Go.Proofs.YtmhaiihjfgfaoaaW.PrintLast Go.Proofs.YtmhaiihjfgfaoaaW.PrintMore
attribute [local go_sem] eD eF fD fE eG
set_option linter.unusedVariables false
set_option linter.unusedSimpArgs false
def gF.f (ah:Int) (ai:Int) (ax:Int) (ay:Int) (aK:Int) (aH:Int) (aJ:Int):Option (Int):=if ah < 0 then (some 2) else (if ah > 5000 then (some 2) else (if ai < 1 then (some 2) else (if ai > 131072 then (some 2) else ((bV.f ax ay 0 1073741824).bind fun t113=>(if t113 = true then ((bV.f aK aH 0 1073741824).bind fun t114=>(if t114 = true then (if aJ < 0 then (some 2) else (if aJ > 1073741824 then (some 2) else (some 0))) else (some 2))) else (some 2))))))
set_option maxHeartbeats 8000000 in
set_option maxRecDepth 100000 in
theorem gF.calls (ah:Int) (ai:Int) (ax:Int) (ay:Int) (aK:Int) (aH:Int) (aJ:Int) (r:Int) (w:World) (h:gF.f ah ai ax ay aK aH aJ = some r):
 Calls Try.prog 28 #[.agg #[U Z ah,U Z ai,U Z ax,U Z ay,U Z aK,U Z aH,U Z aJ]] w fun e w'=>e = .returned (U Z r)∧Below w.heap.size w w':=by
 have Cb:=Try.underlying29
 have oo:=Try.underlying27
 have HB:=aa.mk (Below.refl w.heap.size w)
 have H:(if ah < 0 then (some 2) else (if ah > 5000 then (some 2) else (if ai < 1 then (some 2) else (if ai > 131072 then (some 2) else ((bV.f ax ay 0 1073741824).bind fun t113=>(if t113 = true then ((bV.f aK aH 0 1073741824).bind fun t114=>(if t114 = true then (if aJ < 0 then (some 2) else (if aJ > 1073741824 then (some 2) else (some 0))) else (some 2))) else (some 2))))))) = some r:=h
 clear h
 by_cases c2:ah < 0
 ·rw [if_pos c2] at H
  have Rs:decide (ah < 0) = true:=decide_eq_true c2
  clear c2
  obtain rfl:=Option.some.inj H
  go_enter Try.func28,Try.ntmps28
  go_wp2_with (first|((with_reducible refine aG (N:=1) rfl ?_);refine az (by rfl) (N:=1) (by rfl) (cs:=#[U Z ah,U Z ai,U Z ax,U Z ay,U Z aK,U Z aH,U Z aJ]) (t:=29) fM ?_;intro Pj hg w3 hbox hb;have ku:=aa.mk (hbox);have Pk:=dn HB hg;have Pm:=dn HB hg;replace HB:=dw HB hb;clear hb hbox hg;obtain ⟨Z0,Z4,ahV,ahW,au3,au4,au5,Z5,Z6,ahX,ahY,au6,au7,au8⟩:=jb ku.out))
  go_ret
  exact ⟨kL,fu⟩
 ·rw [if_neg c2] at H
  have Rs:decide (ah < 0) = false:=decide_eq_false c2
  clear c2
  by_cases c5:ah > 5000
  ·rw [if_pos c5] at H
   have Ea:decide (5000 < ah) = true:=decide_eq_true c5
   clear c5
   obtain rfl:=Option.some.inj H
   go_enter Try.func28,Try.ntmps28
   go_wp2_with (first|((with_reducible refine aG (N:=1) rfl ?_);refine az (by rfl) (N:=1) (by rfl) (cs:=#[U Z ah,U Z ai,U Z ax,U Z ay,U Z aK,U Z aH,U Z aJ]) (t:=29) fM ?_;intro Pj hg w6 hbox hb;have ku:=aa.mk (hbox);have Pk:=dn HB hg;have Pm:=dn HB hg;replace HB:=dw HB hb;clear hb hbox hg;obtain ⟨wX,wY,DK,DL,Fv,Fw,KG,wZ,xc,DN,DR,Fx,Fy,KH⟩:=jb ku.out))
   go_ret
   exact ⟨kL,fu⟩
  ·rw [if_neg c5] at H
   have Ea:decide (5000 < ah) = false:=decide_eq_false c5
   clear c5
   by_cases c8:ai < 1
   ·rw [if_pos c8] at H
    have KI:decide (ai < 1) = true:=decide_eq_true c8
    clear c8
    obtain rfl:=Option.some.inj H
    go_enter Try.func28,Try.ntmps28
    go_wp2_with (first|((with_reducible refine aG (N:=1) rfl ?_);refine az (by rfl) (N:=1) (by rfl) (cs:=#[U Z ah,U Z ai,U Z ax,U Z ay,U Z aK,U Z aH,U Z aJ]) (t:=29) fM ?_;intro Pj hg w9 hbox hb;have ku:=aa.mk (hbox);have Pk:=dn HB hg;have Pm:=dn HB hg;replace HB:=dw HB hb;clear hb hbox hg;obtain ⟨rG,rH,Lj,Ll,U1,U2,U3,rJ,rM,Lm,Lp,U4,U5,U6⟩:=jb ku.out))
    go_ret
    exact ⟨kL,fu⟩
   ·rw [if_neg c8] at H
    have KI:decide (ai < 1) = false:=decide_eq_false c8
    clear c8
    by_cases c11:ai > 131072
    ·rw [if_pos c11] at H
     have GN:decide (131072 < ai) = true:=decide_eq_true c11
     clear c11
     obtain rfl:=Option.some.inj H
     go_enter Try.func28,Try.ntmps28
     go_wp2_with (first|((with_reducible refine aG (N:=1) rfl ?_);refine az (by rfl) (N:=1) (by rfl) (cs:=#[U Z ah,U Z ai,U Z ax,U Z ay,U Z aK,U Z aH,U Z aJ]) (t:=29) fM ?_;intro Pj hg Nv hbox hb;have ku:=aa.mk (hbox);have Pk:=dn HB hg;have Pm:=dn HB hg;replace HB:=dw HB hb;clear hb hbox hg;obtain ⟨qY,qZ,xW,xX,FU,FV,LY,q9,rf,xY,xZ,FW,FX,LZ⟩:=jb ku.out))
     go_ret
     exact ⟨kL,fu⟩
    ·rw [if_neg c11] at H
     have GN:decide (131072 < ai) = false:=decide_eq_false c11
     clear c11
     replace H:=Option.bind_eq_some_iff.mp H
     obtain ⟨t113,azx,H⟩:=H
     replace H:(if t113 = true then ((bV.f aK aH 0 1073741824).bind fun t114=>(if t114 = true then (if aJ < 0 then (some 2) else (if aJ > 1073741824 then (some 2) else (some 0))) else (some 2))) else (some 2)) = some r:=H
     have A14:=aa.mk azx
     clear azx
     by_cases c15:t113 = true
     ·subst c15
      have H1:((bV.f aK aH 0 1073741824).bind fun t114=>(if t114 = true then (if aJ < 0 then (some 2) else (if aJ > 1073741824 then (some 2) else (some 0))) else (some 2))) = some r:=by rw [if_pos rfl] at H;exact H
      clear H
      have H:=H1
      clear H1
      replace H:=Option.bind_eq_some_iff.mp H
      obtain ⟨t114,azz,H⟩:=H
      replace H:(if t114 = true then (if aJ < 0 then (some 2) else (if aJ > 1073741824 then (some 2) else (some 0))) else (some 2)) = some r:=H
      have A16:=aa.mk azz
      clear azz
      by_cases c17:t114 = true
      ·subst c17
       have H1:(if aJ < 0 then (some 2) else (if aJ > 1073741824 then (some 2) else (some 0))) = some r:=by rw [if_pos rfl] at H;exact H
       clear H
       have H:=H1
       clear H1
       by_cases c18:aJ < 0
       ·rw [if_pos c18] at H
        have Pg:decide (aJ < 0) = true:=decide_eq_true c18
        clear c18
        obtain rfl:=Option.some.inj H
        go_enter Try.func28,Try.ntmps28
        go_wp2_with (first|((with_reducible refine aG (N:=1) rfl ?_);refine az (by rfl) (N:=1) (by rfl) (cs:=#[U Z ah,U Z ai,U Z ax,U Z ay,U Z aK,U Z aH,U Z aJ]) (t:=29) fM ?_;intro Pj hg w19 hbox hb;have ku:=aa.mk (hbox);have Pk:=dn HB hg;have Pm:=dn HB hg;replace HB:=dw HB hb;clear hb hbox hg;obtain ⟨AB,AJ,Cx,Cy,Lr,Ls,Qd,AL,AO,Cz,CB,Lt,Lu,Qe⟩:=jb ku.out)|(go_at_call 78;(with_reducible refine (bV.calls ax ay 0 1073741824 true _ A14.out).mono ?_);rintro e w21 ⟨rfl,hb⟩;replace ku:=bC ku hb;replace HB:=dw HB hb;(try clear hb);(try clear hb2);(try clear hk);(try clear hi);obtain ⟨QD,QE,ac9,ada,aoB,aoC,aoD,QF,QG,adb,ade,aoE,aoF,aoG⟩:=jb ku.out)|(go_at_call 78;(with_reducible refine (bV.calls aK aH 0 1073741824 true _ A16.out).mono ?_);rintro e w23 ⟨rfl,hb⟩;replace ku:=bC ku hb;replace HB:=dw HB hb;(try clear hb);(try clear hb2);(try clear hk);(try clear hi);obtain ⟨rq,ru,Ah,Ai,Iz,IA,IB,ry,rz,Aj,Ak,IC,IE,IG⟩:=jb ku.out))
        go_ret
        exact ⟨kL,fu⟩
       ·rw [if_neg c18] at H
        have Pg:decide (aJ < 0) = false:=decide_eq_false c18
        clear c18
        by_cases Yc:aJ > 1073741824
        ·rw [if_pos Yc] at H
         have azA:decide (1073741824 < aJ) = true:=decide_eq_true Yc
         clear Yc
         obtain rfl:=Option.some.inj H
         go_enter Try.func28,Try.ntmps28
         go_wp2_with (first|((with_reducible refine aG (N:=1) rfl ?_);refine az (by rfl) (N:=1) (by rfl) (cs:=#[U Z ah,U Z ai,U Z ax,U Z ay,U Z aK,U Z aH,U Z aJ]) (t:=29) fM ?_;intro Pj hg Cc hbox hb;have ku:=aa.mk (hbox);have Pk:=dn HB hg;have Pm:=dn HB hg;replace HB:=dw HB hb;clear hb hbox hg;obtain ⟨yS,yT,yU,yV,Gb,Gc,Gd,yX,yY,yZ,za,Gf,Gg,Gh⟩:=jb ku.out)|(go_at_call 78;(with_reducible refine (bV.calls ax ay 0 1073741824 true _ A14.out).mono ?_);rintro e w28 ⟨rfl,hb⟩;replace ku:=bC ku hb;replace HB:=dw HB hb;(try clear hb);(try clear hb2);(try clear hk);(try clear hi);obtain ⟨qB,qC,sV,sW,vN,vO,CP,qD,qE,sZ,tq,vP,vQ,CQ⟩:=jb ku.out)|(go_at_call 78;(with_reducible refine (bV.calls aK aH 0 1073741824 true _ A16.out).mono ?_);rintro e w30 ⟨rfl,hb⟩;replace ku:=bC ku hb;replace HB:=dw HB hb;(try clear hb);(try clear hb2);(try clear hk);(try clear hi);obtain ⟨Mv,Mw,Mx,MB,QH,QI,QJ,MC,ME,MF,MG,QK,QL,QM⟩:=jb ku.out))
         go_ret
         exact ⟨kL,fu⟩
        ·rw [if_neg Yc] at H
         have azA:decide (1073741824 < aJ) = false:=decide_eq_false Yc
         clear Yc
         obtain rfl:=Option.some.inj H
         go_enter Try.func28,Try.ntmps28
         go_wp2_with (first|((with_reducible refine aG (N:=1) rfl ?_);refine az (by rfl) (N:=1) (by rfl) (cs:=#[U Z ah,U Z ai,U Z ax,U Z ay,U Z aK,U Z aH,U Z aJ]) (t:=29) fM ?_;intro Pj hg w32 hbox hb;have ku:=aa.mk (hbox);have Pk:=dn HB hg;have Pm:=dn HB hg;replace HB:=dw HB hb;clear hb hbox hg;obtain ⟨QN,QO,adf,adg,aoH,aoI,aoJ,QP,QQ,adh,adi,aoK,aoL,aoM⟩:=jb ku.out)|(go_at_call 78;(with_reducible refine (bV.calls ax ay 0 1073741824 true _ A14.out).mono ?_);rintro e w34 ⟨rfl,hb⟩;replace ku:=bC ku hb;replace HB:=dw HB hb;(try clear hb);(try clear hb2);(try clear hk);(try clear hi);obtain ⟨Al,Am,ET,EU,Jl,Jm,Jn,Ao,Ap,EW,EX,Jo,Jp,Jq⟩:=jb ku.out)|(go_at_call 78;(with_reducible refine (bV.calls aK aH 0 1073741824 true _ A16.out).mono ?_);rintro e w36 ⟨rfl,hb⟩;replace ku:=bC ku hb;replace HB:=dw HB hb;(try clear hb);(try clear hb2);(try clear hk);(try clear hi);obtain ⟨QR,QS,VT,VU,VV,VW,VX,QT,QU,VY,VZ,V3,V4,V5⟩:=jb ku.out))
         go_ret
         exact ⟨kL,fu⟩
      ·replace c17:=Bool.eq_false_iff.mpr c17
       subst c17
       have H1:(some 2) = some r:=by rw [if_neg (show ¬ (false = true) by decide)] at H;exact H
       clear H
       have H:=H1
       clear H1
       obtain rfl:=Option.some.inj H
       go_enter Try.func28,Try.ntmps28
       go_wp2_with (first|((with_reducible refine aG (N:=1) rfl ?_);refine az (by rfl) (N:=1) (by rfl) (cs:=#[U Z ah,U Z ai,U Z ax,U Z ay,U Z aK,U Z aH,U Z aJ]) (t:=29) fM ?_;intro Pj hg w38 hbox hb;have ku:=aa.mk (hbox);have Pk:=dn HB hg;have Pm:=dn HB hg;replace HB:=dw HB hb;clear hb hbox hg;obtain ⟨ale,alf,alg,alh,ali,alj,alk,alm,aln,alo,alp,alq,alr,als⟩:=jb ku.out)|(go_at_call 78;(with_reducible refine (bV.calls ax ay 0 1073741824 true _ A14.out).mono ?_);rintro e w40 ⟨rfl,hb⟩;replace ku:=bC ku hb;replace HB:=dw HB hb;(try clear hb);(try clear hb2);(try clear hk);(try clear hi);obtain ⟨Qq,Qr,Vq,Vr,adj,adk,adl,Qs,Qt,Vs,Vt,adm,adn,ado⟩:=jb ku.out)|(go_at_call 78;(with_reducible refine (bV.calls aK aH 0 1073741824 false _ A16.out).mono ?_);rintro e w42 ⟨rfl,hb⟩;replace ku:=bC ku hb;replace HB:=dw HB hb;(try clear hb);(try clear hb2);(try clear hk);(try clear hi)))
       go_ret
       exact ⟨kL,fu⟩
     ·replace c15:=Bool.eq_false_iff.mpr c15
      subst c15
      have H1:(some 2) = some r:=by rw [if_neg (show ¬ (false = true) by decide)] at H;exact H
      clear H
      have H:=H1
      clear H1
      obtain rfl:=Option.some.inj H
      go_enter Try.func28,Try.ntmps28
      go_wp2_with (first|((with_reducible refine aG (N:=1) rfl ?_);refine az (by rfl) (N:=1) (by rfl) (cs:=#[U Z ah,U Z ai,U Z ax,U Z ay,U Z aK,U Z aH,U Z aJ]) (t:=29) fM ?_;intro Pj hg w43 hbox hb;have ku:=aa.mk (hbox);have Pk:=dn HB hg;have Pm:=dn HB hg;replace HB:=dw HB hb;clear hb hbox hg;obtain ⟨aKb,aKc,aKd,aKe,aKf,aKg,aKh,aKi,aKj,aKk,aKl,aKm,aKn,aKo⟩:=jb ku.out)|(go_at_call 78;(with_reducible refine (bV.calls ax ay 0 1073741824 false _ A14.out).mono ?_);rintro e w45 ⟨rfl,hb⟩;replace ku:=bC ku hb;replace HB:=dw HB hb;(try clear hb);(try clear hb2);(try clear hk);(try clear hi)))
      go_ret
      exact ⟨kL,fu⟩
def bX.f (k:Nat) (ah:Int) (ai:Int) (ax:Int) (ay:Int) (aK:Int) (aH:Int) (aJ:Int) (aR:List Bool) (aC:List (oV)) (aQ:Int) (aM:Int) (bf:Int) (bg:Int) (bD:Int) (bE:Int) (bF:Int):Option (Int):=(ak.f k ah ai ax ay aK aH aJ aR aC).bind fun PS=>(if PS = 0 then ((gF.f aQ aM bf bg bD bE bF).bind fun Yy=>(some Yy)) else ((ak.f k ah ai ax ay aK aH aJ aR aC).bind fun Yz=>(some Yz)))
set_option maxHeartbeats 8000000 in
set_option maxRecDepth 100000 in
theorem bX.calls (k:Nat) (ah:Int) (ai:Int) (ax:Int) (ay:Int) (aK:Int) (aH:Int) (aJ:Int) (dG:Option Addr) (dH:Nat) (aR:List Bool) (dJ:Option Addr) (dI:Nat) (aC:List (oV)) (aQ:Int) (aM:Int) (bf:Int) (bg:Int) (bD:Int) (bE:Int) (bF:Int) (r:Int) (w:World) (iU:Kd.C Kd.bool w dG aR.length aR) (iV:aR.length≤dH) (iW:Kd.C DD w dJ aC.length aC) (iX:aC.length≤dI) (h:bX.f k ah ai ax ay aK aH aJ aR aC aQ aM bf bg bD bE bF = some r):
 Calls Try.prog 79 #[.agg #[U Z ah,U Z ai,U Z ax,U Z ay,U Z aK,U Z aH,U Z aJ,.slice dG aR.length dH,.slice dJ aC.length dI],.agg #[U Z aQ,U Z aM,U Z bf,U Z bg,U Z bD,U Z bE,U Z bF]] w fun e w'=>e = .returned (U Z r)∧Below w.heap.size w w':=by
 have zR:=Try.underlying25
 have Cb:=Try.underlying29
 have gq:=aa.mk iU
 have gu:=aa.mk iV
 clear iU iV
 have fH:=aa.mk iW
 have gz:=aa.mk iX
 clear iW iX
 have HB:=aa.mk (Below.refl w.heap.size w)
 have H:((ak.f k ah ai ax ay aK aH aJ aR aC).bind fun PS=>(if PS = 0 then ((gF.f aQ aM bf bg bD bE bF).bind fun Yy=>(some Yy)) else ((ak.f k ah ai ax ay aK aH aJ aR aC).bind fun Yz=>(some Yz)))) = some r:=h
 clear h
 replace H:=Option.bind_eq_some_iff.mp H
 obtain ⟨PS,O5,H⟩:=H
 replace H:(if PS = 0 then ((gF.f aQ aM bf bg bD bE bF).bind fun Yy=>(some Yy)) else ((ak.f k ah ai ax ay aK aH aJ aR aC).bind fun Yz=>(some Yz))) = some r:=H
 have A3:=aa.mk O5
 clear O5
 by_cases c4:PS = 0
 ·rw [if_pos c4] at H
  have sK:(PS == 0) = true:=beq_iff_eq.mpr c4
  have aho:(PS != 0) = false:=bne_eq_false_iff_eq.mpr c4
  clear c4
  replace H:=Option.bind_eq_some_iff.mp H
  obtain ⟨Yy,O4,H⟩:=H
  replace H:(some Yy) = some r:=H
  have A5:=aa.mk O4
  clear O4
  obtain rfl:=Option.some.inj H
  go_enter Try.func79,Try.ntmps79
  go_wp2_with (first|((with_reducible refine aG (N:=2) rfl ?_);refine az (by rfl) (N:=2) (by rfl) (cs:=#[U Z ah,U Z ai,U Z ax,U Z ay,U Z aK,U Z aH,U Z aJ,.slice dG aR.length dH,.slice dJ aC.length dI]) (t:=25) fM ?_;intro azB hg w6 hbox hb;have uM:=aa.mk (hbox);have azC:=dn HB hg;have azD:=dn HB hg;replace HB:=dw HB hb;clear hb hbox hg)|((with_reducible refine aG (N:=3) rfl ?_);refine az (by rfl) (N:=3) (by rfl) (cs:=#[U Z aQ,U Z aM,U Z bf,U Z bg,U Z bD,U Z bE,U Z bF]) (t:=29) fM ?_;intro azE hg w7 hbox hb;have Km:=aa.mk (hbox);have azF:=dn HB hg;have azG:=dn HB hg;have Oo:=iq uM hg;have Oq:=iw uM hg;replace uM:=bC uM hb;replace HB:=dw HB hb;clear hb hbox hg;have afx:=Oo.out;have afy:=Oq.out;obtain ⟨Bw,Bz,Fp,Fq,Oi,Oj,Vw,Vx,Vy,BA,BC,Fs,Fu,Ol,Om,Vz,VA,VB⟩:=iH uM.out)|((with_reducible refine aN (f:=26) rfl ?_);refine bT (some 6) rfl rfl Try.func26 aY rfl #[.agg #[U Z ah,U Z ai,U Z ax,U Z ay,U Z aK,U Z aH,U Z aJ,.slice dG aR.length dH,.slice dJ aC.length dI]] rfl iG ?_;(with_reducible refine (ak.calls k ah ai ax ay aK aH aJ _ _ aR _ _ aC PS _ ?df ?dh ?dK ?dL A3.out).mono ?_);(case df=>repeat (first|exact (Kd.bz gq.out HB.out)|(with_reducible refine Kd.bA ?_ _)|(with_reducible refine Kd.bB ?_ _)|(with_reducible refine Kd.bQ ?_)));(case dh=>exact gu.out);(case dK=>repeat (first|exact (Kd.bz fH.out HB.out)|(with_reducible refine Kd.bA ?_ _)|(with_reducible refine Kd.bB ?_ _)|(with_reducible refine Kd.bQ ?_)));(case dL=>exact gz.out);rintro e w10 ⟨rfl,hb⟩;refine ⟨_,rfl,?_⟩;replace uM:=bC uM hb;replace Km:=bC Km hb;replace HB:=dw HB hb;(try clear hb);(try clear hb2);(try clear hk);(try clear hi);obtain ⟨uZ,u6,Aq,Ar,E9,Fa,Lg,u7,ve,Au,Av,Fb,Fe,Lh⟩:=jb Km.out)|((with_reducible refine aN (f:=28) rfl ?_);refine bT (some 11) rfl rfl Try.func28 aY rfl #[.agg #[U Z aQ,U Z aM,U Z bf,U Z bg,U Z bD,U Z bE,U Z bF]] rfl iG ?_;(with_reducible refine (gF.calls aQ aM bf bg bD bE bF Yy _ A5.out).mono ?_);rintro e Nv ⟨rfl,hb⟩;refine ⟨_,rfl,?_⟩;replace uM:=bC uM hb;replace Km:=bC Km hb;replace HB:=dw HB hb;(try clear hb);(try clear hb2);(try clear hk);(try clear hi)))
  go_ret
  exact ⟨kL,fu⟩
 ·rw [if_neg c4] at H
  have sK:(PS == 0) = false:=beq_eq_false_iff_ne.mpr c4
  have aho:(PS != 0) = true:=bne_iff_ne.mpr c4
  replace H:=Option.bind_eq_some_iff.mp H
  obtain ⟨Yz,aiK,H⟩:=H
  replace H:(some Yz) = some r:=H
  have A13:=aa.mk aiK
  clear aiK
  obtain rfl:=Option.some.inj H
  go_enter Try.func79,Try.ntmps79
  go_wp2_with (first|((with_reducible refine aG (N:=2) rfl ?_);refine az (by rfl) (N:=2) (by rfl) (cs:=#[U Z ah,U Z ai,U Z ax,U Z ay,U Z aK,U Z aH,U Z aJ,.slice dG aR.length dH,.slice dJ aC.length dI]) (t:=25) fM ?_;intro azB hg w14 hbox hb;have uM:=aa.mk (hbox);have azC:=dn HB hg;have azD:=dn HB hg;replace HB:=dw HB hb;clear hb hbox hg)|((with_reducible refine aG (N:=3) rfl ?_);refine az (by rfl) (N:=3) (by rfl) (cs:=#[U Z aQ,U Z aM,U Z bf,U Z bg,U Z bD,U Z bE,U Z bF]) (t:=29) fM ?_;intro azE hg w15 hbox hb;have Km:=aa.mk (hbox);have azF:=dn HB hg;have azG:=dn HB hg;have Oo:=iq uM hg;have Oq:=iw uM hg;replace uM:=bC uM hb;replace HB:=dw HB hb;clear hb hbox hg;have TL:=Oo.out;have TM:=Oq.out;obtain ⟨lW,lX,nM,nN,tN,tO,yK,CW,CX,lY,lZ,nO,nP,tQ,tT,yL,CY,CZ⟩:=iH uM.out)|((with_reducible refine aN (f:=26) rfl ?_);refine bT (some 6) rfl rfl Try.func26 aY rfl #[.agg #[U Z ah,U Z ai,U Z ax,U Z ay,U Z aK,U Z aH,U Z aJ,.slice dG aR.length dH,.slice dJ aC.length dI]] rfl iG ?_;(with_reducible refine (ak.calls k ah ai ax ay aK aH aJ _ _ aR _ _ aC PS _ ?df ?dh ?dK ?dL A3.out).mono ?_);(case df=>repeat (first|exact (Kd.bz gq.out HB.out)|(with_reducible refine Kd.bA ?_ _)|(with_reducible refine Kd.bB ?_ _)|(with_reducible refine Kd.bQ ?_)));(case dh=>exact gu.out);(case dK=>repeat (first|exact (Kd.bz fH.out HB.out)|(with_reducible refine Kd.bA ?_ _)|(with_reducible refine Kd.bB ?_ _)|(with_reducible refine Kd.bQ ?_)));(case dL=>exact gz.out);rintro e w18 ⟨rfl,hb⟩;refine ⟨_,rfl,?_⟩;replace uM:=bC uM hb;replace Km:=bC Km hb;replace HB:=dw HB hb;(try clear hb);(try clear hb2);(try clear hk);(try clear hi);obtain ⟨pI,pJ,qF,qG,tV,tX,yM,Qv,Qw,pK,pM,qH,qI,tY,tZ,yN,Qx,Qy⟩:=iH uM.out)|((with_reducible refine aN (f:=26) rfl ?_);refine bT (some 9) rfl rfl Try.func26 aY rfl #[.agg #[U Z ah,U Z ai,U Z ax,U Z ay,U Z aK,U Z aH,U Z aJ,.slice dG aR.length dH,.slice dJ aC.length dI]] rfl iG ?_;(with_reducible refine (ak.calls k ah ai ax ay aK aH aJ _ _ aR _ _ aC Yz _ ?df ?dh ?dK ?dL A13.out).mono ?_);(case df=>repeat (first|exact (Kd.bz gq.out HB.out)|(with_reducible refine Kd.bA ?_ _)|(with_reducible refine Kd.bB ?_ _)|(with_reducible refine Kd.bQ ?_)));(case dh=>exact gu.out);(case dK=>repeat (first|exact (Kd.bz fH.out HB.out)|(with_reducible refine Kd.bA ?_ _)|(with_reducible refine Kd.bB ?_ _)|(with_reducible refine Kd.bQ ?_)));(case dL=>exact gz.out);rintro e GZ ⟨rfl,hb⟩;refine ⟨_,rfl,?_⟩;replace uM:=bC uM hb;replace Km:=bC Km hb;replace HB:=dw HB hb;(try clear hb);(try clear hb2);(try clear hk);(try clear hi)))
  go_ret
  exact ⟨kL,fu⟩
def dF.f (ah:Int) (ai:Int) (ax:Int) (ay:Int):Option (Bool):=(bL.f ah ai).bind fun t116=>(if t116 = true then ((bL.f ax ay).bind fun t117=>(if t117 = true then ((aV.f ah (-268435456) 268435456).bind fun t118=>(if t118 = true then ((aV.f ai (-268435456) 268435456).bind fun t119=>(if t119 = true then ((aV.f ax (-268435456) 268435456).bind fun t120=>(if t120 = true then ((aV.f ay (-268435456) 268435456).bind fun t121=>(some t121)) else (some false))) else (some false))) else (some false))) else (some false))) else (some false))
set_option maxHeartbeats 8000000 in
set_option maxRecDepth 100000 in
theorem dF.calls (ah:Int) (ai:Int) (ax:Int) (ay:Int) (r:Bool) (w:World) (h:dF.f ah ai ax ay = some r):
 Calls Try.prog 63 #[.agg #[U Z ah,U Z ai,U Z ax,U Z ay]] w fun e w'=>e = .returned (.bool r)∧Below w.heap.size w w':=by
 have oP:=Try.underlying31
 have oo:=Try.underlying27
 have HB:=aa.mk (Below.refl w.heap.size w)
 have H:((bL.f ah ai).bind fun t116=>(if t116 = true then ((bL.f ax ay).bind fun t117=>(if t117 = true then ((aV.f ah (-268435456) 268435456).bind fun t118=>(if t118 = true then ((aV.f ai (-268435456) 268435456).bind fun t119=>(if t119 = true then ((aV.f ax (-268435456) 268435456).bind fun t120=>(if t120 = true then ((aV.f ay (-268435456) 268435456).bind fun t121=>(some t121)) else (some false))) else (some false))) else (some false))) else (some false))) else (some false))) = some r:=h
 clear h
 replace H:=Option.bind_eq_some_iff.mp H
 obtain ⟨t116,TC,H⟩:=H
 replace H:(if t116 = true then ((bL.f ax ay).bind fun t117=>(if t117 = true then ((aV.f ah (-268435456) 268435456).bind fun t118=>(if t118 = true then ((aV.f ai (-268435456) 268435456).bind fun t119=>(if t119 = true then ((aV.f ax (-268435456) 268435456).bind fun t120=>(if t120 = true then ((aV.f ay (-268435456) 268435456).bind fun t121=>(some t121)) else (some false))) else (some false))) else (some false))) else (some false))) else (some false)) = some r:=H
 have A2:=aa.mk TC
 clear TC
 by_cases c3:t116 = true
 ·subst c3
  have H1:((bL.f ax ay).bind fun t117=>(if t117 = true then ((aV.f ah (-268435456) 268435456).bind fun t118=>(if t118 = true then ((aV.f ai (-268435456) 268435456).bind fun t119=>(if t119 = true then ((aV.f ax (-268435456) 268435456).bind fun t120=>(if t120 = true then ((aV.f ay (-268435456) 268435456).bind fun t121=>(some t121)) else (some false))) else (some false))) else (some false))) else (some false))) = some r:=by rw [if_pos rfl] at H;exact H
  clear H
  have H:=H1
  clear H1
  replace H:=Option.bind_eq_some_iff.mp H
  obtain ⟨t117,Kv,H⟩:=H
  replace H:(if t117 = true then ((aV.f ah (-268435456) 268435456).bind fun t118=>(if t118 = true then ((aV.f ai (-268435456) 268435456).bind fun t119=>(if t119 = true then ((aV.f ax (-268435456) 268435456).bind fun t120=>(if t120 = true then ((aV.f ay (-268435456) 268435456).bind fun t121=>(some t121)) else (some false))) else (some false))) else (some false))) else (some false)) = some r:=H
  have A4:=aa.mk Kv
  clear Kv
  by_cases c5:t117 = true
  ·subst c5
   have H1:((aV.f ah (-268435456) 268435456).bind fun t118=>(if t118 = true then ((aV.f ai (-268435456) 268435456).bind fun t119=>(if t119 = true then ((aV.f ax (-268435456) 268435456).bind fun t120=>(if t120 = true then ((aV.f ay (-268435456) 268435456).bind fun t121=>(some t121)) else (some false))) else (some false))) else (some false))) = some r:=by rw [if_pos rfl] at H;exact H
   clear H
   have H:=H1
   clear H1
   replace H:=Option.bind_eq_some_iff.mp H
   obtain ⟨t118,La,H⟩:=H
   replace H:(if t118 = true then ((aV.f ai (-268435456) 268435456).bind fun t119=>(if t119 = true then ((aV.f ax (-268435456) 268435456).bind fun t120=>(if t120 = true then ((aV.f ay (-268435456) 268435456).bind fun t121=>(some t121)) else (some false))) else (some false))) else (some false)) = some r:=H
   have A6:=aa.mk La
   clear La
   by_cases c7:t118 = true
   ·subst c7
    have H1:((aV.f ai (-268435456) 268435456).bind fun t119=>(if t119 = true then ((aV.f ax (-268435456) 268435456).bind fun t120=>(if t120 = true then ((aV.f ay (-268435456) 268435456).bind fun t121=>(some t121)) else (some false))) else (some false))) = some r:=by rw [if_pos rfl] at H;exact H
    clear H
    have H:=H1
    clear H1
    replace H:=Option.bind_eq_some_iff.mp H
    obtain ⟨t119,TN,H⟩:=H
    replace H:(if t119 = true then ((aV.f ax (-268435456) 268435456).bind fun t120=>(if t120 = true then ((aV.f ay (-268435456) 268435456).bind fun t121=>(some t121)) else (some false))) else (some false)) = some r:=H
    have A8:=aa.mk TN
    clear TN
    by_cases c9:t119 = true
    ·subst c9
     have H1:((aV.f ax (-268435456) 268435456).bind fun t120=>(if t120 = true then ((aV.f ay (-268435456) 268435456).bind fun t121=>(some t121)) else (some false))) = some r:=by rw [if_pos rfl] at H;exact H
     clear H
     have H:=H1
     clear H1
     replace H:=Option.bind_eq_some_iff.mp H
     obtain ⟨t120,FJ,H⟩:=H
     replace H:(if t120 = true then ((aV.f ay (-268435456) 268435456).bind fun t121=>(some t121)) else (some false)) = some r:=H
     have TH:=aa.mk FJ
     clear FJ
     by_cases c11:t120 = true
     ·subst c11
      have H1:((aV.f ay (-268435456) 268435456).bind fun t121=>(some t121)) = some r:=by rw [if_pos rfl] at H;exact H
      clear H
      have H:=H1
      clear H1
      replace H:=Option.bind_eq_some_iff.mp H
      obtain ⟨t121,aiL,H⟩:=H
      replace H:(some t121) = some r:=H
      have A12:=aa.mk aiL
      clear aiL
      obtain rfl:=Option.some.inj H
      go_enter Try.func63,Try.ntmps63
      go_wp2_with (first|((with_reducible refine aG (N:=1) rfl ?_);refine az (by rfl) (N:=1) (by rfl) (cs:=#[U Z ah,U Z ai,U Z ax,U Z ay]) (t:=31) fM ?_;intro YA hg TA hbox hb;have kv:=aa.mk (hbox);have YB:=dn HB hg;have YC:=dn HB hg;replace HB:=dw HB hb;clear hb hbox hg;obtain ⟨vg,vk,Ci,Cj,vo,vv,Ck,Cm⟩:=gD kv.out)|((with_reducible refine aN (f:=111) rfl ?_);refine bT (some 5) rfl rfl Try.func111 aY rfl #[.agg #[U Z ah,U Z ai]] rfl iG ?_;(with_reducible refine (bL.calls ah ai true _ A2.out).mono ?_);rintro e w15 ⟨rfl,hb⟩;refine ⟨_,rfl,?_⟩;replace kv:=bC kv hb;replace HB:=dw HB hb;(try clear hb);(try clear hb2);(try clear hk);(try clear hi);obtain ⟨CG,CJ,LP,LQ,CK,CL,LU,LV⟩:=gD kv.out)|(go_at_call 111;(with_reducible refine (bL.calls ax ay true _ A4.out).mono ?_);rintro e w17 ⟨rfl,hb⟩;replace kv:=bC kv hb;replace HB:=dw HB hb;(try clear hb);(try clear hb2);(try clear hk);(try clear hi);obtain ⟨Ct,Cu,Ff,Fg,Cv,Cw,Fh,Fj⟩:=gD kv.out)|(go_at_call 112;(with_reducible refine (aV.calls ah (-268435456) 268435456 true _ A6.out).mono ?_);rintro e w' ⟨rfl,⟨nd,rfl⟩⟩)|(go_at_call 112;(with_reducible refine (aV.calls ai (-268435456) 268435456 true _ A8.out).mono ?_);rintro e w' ⟨rfl,⟨nd,rfl⟩⟩)|(go_at_call 112;(with_reducible refine (aV.calls ax (-268435456) 268435456 true _ TH.out).mono ?_);rintro e w' ⟨rfl,⟨nd,rfl⟩⟩)|(go_at_call 112;(with_reducible refine (aV.calls ay (-268435456) 268435456 t121 _ A12.out).mono ?_);rintro e w' ⟨rfl,⟨nd,rfl⟩⟩))
      go_ret
      exact ⟨kL,fu⟩
     ·replace c11:=Bool.eq_false_iff.mpr c11
      subst c11
      have H1:(some false) = some r:=by rw [if_neg (show ¬ (false = true) by decide)] at H;exact H
      clear H
      have H:=H1
      clear H1
      obtain rfl:=Option.some.inj H
      go_enter Try.func63,Try.ntmps63
      go_wp2_with (first|((with_reducible refine aG (N:=1) rfl ?_);refine az (by rfl) (N:=1) (by rfl) (cs:=#[U Z ah,U Z ai,U Z ax,U Z ay]) (t:=31) fM ?_;intro YA hg w19 hbox hb;have kv:=aa.mk (hbox);have YB:=dn HB hg;have YC:=dn HB hg;replace HB:=dw HB hb;clear hb hbox hg;obtain ⟨AB,AJ,Cx,Cy,AL,AO,Cz,CB⟩:=gD kv.out)|((with_reducible refine aN (f:=111) rfl ?_);refine bT (some 5) rfl rfl Try.func111 aY rfl #[.agg #[U Z ah,U Z ai]] rfl iG ?_;(with_reducible refine (bL.calls ah ai true _ A2.out).mono ?_);rintro e w21 ⟨rfl,hb⟩;refine ⟨_,rfl,?_⟩;replace kv:=bC kv hb;replace HB:=dw HB hb;(try clear hb);(try clear hb2);(try clear hk);(try clear hi);obtain ⟨QD,QE,ac9,ada,QF,QG,adb,ade⟩:=gD kv.out)|(go_at_call 111;(with_reducible refine (bL.calls ax ay true _ A4.out).mono ?_);rintro e w23 ⟨rfl,hb⟩;replace kv:=bC kv hb;replace HB:=dw HB hb;(try clear hb);(try clear hb2);(try clear hk);(try clear hi);obtain ⟨rq,ru,Ah,Ai,ry,rz,Aj,Ak⟩:=gD kv.out)|(go_at_call 112;(with_reducible refine (aV.calls ah (-268435456) 268435456 true _ A6.out).mono ?_);rintro e w' ⟨rfl,⟨nd,rfl⟩⟩)|(go_at_call 112;(with_reducible refine (aV.calls ai (-268435456) 268435456 true _ A8.out).mono ?_);rintro e w' ⟨rfl,⟨nd,rfl⟩⟩)|(go_at_call 112;(with_reducible refine (aV.calls ax (-268435456) 268435456 false _ TH.out).mono ?_);rintro e w' ⟨rfl,⟨nd,rfl⟩⟩))
      go_ret
      exact ⟨kL,fu⟩
    ·replace c9:=Bool.eq_false_iff.mpr c9
     subst c9
     have H1:(some false) = some r:=by rw [if_neg (show ¬ (false = true) by decide)] at H;exact H
     clear H
     have H:=H1
     clear H1
     obtain rfl:=Option.some.inj H
     go_enter Try.func63,Try.ntmps63
     go_wp2_with (first|((with_reducible refine aG (N:=1) rfl ?_);refine az (by rfl) (N:=1) (by rfl) (cs:=#[U Z ah,U Z ai,U Z ax,U Z ay]) (t:=31) fM ?_;intro YA hg w25 hbox hb;have kv:=aa.mk (hbox);have YB:=dn HB hg;have YC:=dn HB hg;replace HB:=dw HB hb;clear hb hbox hg;obtain ⟨abf,abg,akQ,akR,abh,abj,akS,akT⟩:=gD kv.out)|((with_reducible refine aN (f:=111) rfl ?_);refine bT (some 5) rfl rfl Try.func111 aY rfl #[.agg #[U Z ah,U Z ai]] rfl iG ?_;(with_reducible refine (bL.calls ah ai true _ A2.out).mono ?_);rintro e w27 ⟨rfl,hb⟩;refine ⟨_,rfl,?_⟩;replace kv:=bC kv hb;replace HB:=dw HB hb;(try clear hb);(try clear hb2);(try clear hk);(try clear hi);obtain ⟨V6,V7,adp,adq,V8,V9,adr,ads⟩:=gD kv.out)|(go_at_call 111;(with_reducible refine (bL.calls ax ay true _ A4.out).mono ?_);rintro e w29 ⟨rfl,hb⟩;replace kv:=bC kv hb;replace HB:=dw HB hb;(try clear hb);(try clear hb2);(try clear hk);(try clear hi);obtain ⟨Gi,Gj,Jh,Ji,Gm,Gn,Jj,Jk⟩:=gD kv.out)|(go_at_call 112;(with_reducible refine (aV.calls ah (-268435456) 268435456 true _ A6.out).mono ?_);rintro e w' ⟨rfl,⟨nd,rfl⟩⟩)|(go_at_call 112;(with_reducible refine (aV.calls ai (-268435456) 268435456 false _ A8.out).mono ?_);rintro e w' ⟨rfl,⟨nd,rfl⟩⟩))
     go_ret
     exact ⟨kL,fu⟩
   ·replace c7:=Bool.eq_false_iff.mpr c7
    subst c7
    have H1:(some false) = some r:=by rw [if_neg (show ¬ (false = true) by decide)] at H;exact H
    clear H
    have H:=H1
    clear H1
    obtain rfl:=Option.some.inj H
    go_enter Try.func63,Try.ntmps63
    go_wp2_with (first|((with_reducible refine aG (N:=1) rfl ?_);refine az (by rfl) (N:=1) (by rfl) (cs:=#[U Z ah,U Z ai,U Z ax,U Z ay]) (t:=31) fM ?_;intro YA hg w31 hbox hb;have kv:=aa.mk (hbox);have YB:=dn HB hg;have YC:=dn HB hg;replace HB:=dw HB hb;clear hb hbox hg;obtain ⟨IX,IY,IZ,I1,I4,I5,I6,I7⟩:=gD kv.out)|((with_reducible refine aN (f:=111) rfl ?_);refine bT (some 5) rfl rfl Try.func111 aY rfl #[.agg #[U Z ah,U Z ai]] rfl iG ?_;(with_reducible refine (bL.calls ah ai true _ A2.out).mono ?_);rintro e w33 ⟨rfl,hb⟩;refine ⟨_,rfl,?_⟩;replace kv:=bC kv hb;replace HB:=dw HB hb;(try clear hb);(try clear hb2);(try clear hk);(try clear hi);obtain ⟨I8,I9,Qm,Qn,Ja,Jb,Qo,Qp⟩:=gD kv.out)|(go_at_call 111;(with_reducible refine (bL.calls ax ay true _ A4.out).mono ?_);rintro e w35 ⟨rfl,hb⟩;replace kv:=bC kv hb;replace HB:=dw HB hb;(try clear hb);(try clear hb2);(try clear hk);(try clear hi);obtain ⟨Wd,We,adt,adu,Wh,Wi,adv,adw⟩:=gD kv.out)|(go_at_call 112;(with_reducible refine (aV.calls ah (-268435456) 268435456 false _ A6.out).mono ?_);rintro e w' ⟨rfl,⟨nd,rfl⟩⟩))
    go_ret
    exact ⟨kL,fu⟩
  ·replace c5:=Bool.eq_false_iff.mpr c5
   subst c5
   have H1:(some false) = some r:=by rw [if_neg (show ¬ (false = true) by decide)] at H;exact H
   clear H
   have H:=H1
   clear H1
   obtain rfl:=Option.some.inj H
   go_enter Try.func63,Try.ntmps63
   go_wp2_with (first|((with_reducible refine aG (N:=1) rfl ?_);refine az (by rfl) (N:=1) (by rfl) (cs:=#[U Z ah,U Z ai,U Z ax,U Z ay]) (t:=31) fM ?_;intro YA hg w37 hbox hb;have kv:=aa.mk (hbox);have YB:=dn HB hg;have YC:=dn HB hg;replace HB:=dw HB hb;clear hb hbox hg;obtain ⟨Wj,Wl,Wm,Wn,Wo,Wp,Wq,Ws⟩:=gD kv.out)|((with_reducible refine aN (f:=111) rfl ?_);refine bT (some 5) rfl rfl Try.func111 aY rfl #[.agg #[U Z ah,U Z ai]] rfl iG ?_;(with_reducible refine (bL.calls ah ai true _ A2.out).mono ?_);rintro e w39 ⟨rfl,hb⟩;refine ⟨_,rfl,?_⟩;replace kv:=bC kv hb;replace HB:=dw HB hb;(try clear hb);(try clear hb2);(try clear hk);(try clear hi);obtain ⟨Wt,Wu,adx,ady,Wv,Ww,adz,adA⟩:=gD kv.out)|(go_at_call 111;(with_reducible refine (bL.calls ax ay false _ A4.out).mono ?_);rintro e w41 ⟨rfl,hb⟩;replace kv:=bC kv hb;replace HB:=dw HB hb;(try clear hb);(try clear hb2);(try clear hk);(try clear hi)))
   go_ret
   exact ⟨kL,fu⟩
 ·replace c3:=Bool.eq_false_iff.mpr c3
  subst c3
  have H1:(some false) = some r:=by rw [if_neg (show ¬ (false = true) by decide)] at H;exact H
  clear H
  have H:=H1
  clear H1
  obtain rfl:=Option.some.inj H
  go_enter Try.func63,Try.ntmps63
  go_wp2_with (first|((with_reducible refine aG (N:=1) rfl ?_);refine az (by rfl) (N:=1) (by rfl) (cs:=#[U Z ah,U Z ai,U Z ax,U Z ay]) (t:=31) fM ?_;intro YA hg w42 hbox hb;have kv:=aa.mk (hbox);have YB:=dn HB hg;have YC:=dn HB hg;replace HB:=dw HB hb;clear hb hbox hg;obtain ⟨LB,LC,LD,LF,LG,LH,LJ,LK⟩:=gD kv.out)|((with_reducible refine aN (f:=111) rfl ?_);refine bT (some 5) rfl rfl Try.func111 aY rfl #[.agg #[U Z ah,U Z ai]] rfl iG ?_;(with_reducible refine (bL.calls ah ai false _ A2.out).mono ?_);rintro e w44 ⟨rfl,hb⟩;refine ⟨_,rfl,?_⟩;replace kv:=bC kv hb;replace HB:=dw HB hb;(try clear hb);(try clear hb2);(try clear hk);(try clear hi)))
  go_ret
  exact ⟨kL,fu⟩
def bI.f (ah:Int) (ai:Int) (ax:Int) (ay:Int) (a1:Int):Option (Int):=(dF.f ah ai ax ay).bind fun af6=>(if af6 = true then (if a1 < 0 then (some 3) else (if a1 > 1073741824 then (some 3) else (some 0))) else (some 2))
set_option maxHeartbeats 8000000 in
set_option maxRecDepth 100000 in
theorem bI.calls (ah:Int) (ai:Int) (ax:Int) (ay:Int) (a1:Int) (r:Int) (w:World) (h:bI.f ah ai ax ay a1 = some r):
 Calls Try.prog 80 #[.agg #[U Z ah,U Z ai,U Z ax,U Z ay],U Z a1] w fun e w'=>e = .returned (U Z r)∧Below w.heap.size w w':=by
 have oP:=Try.underlying31
 have HB:=aa.mk (Below.refl w.heap.size w)
 have H:((dF.f ah ai ax ay).bind fun af6=>(if af6 = true then (if a1 < 0 then (some 3) else (if a1 > 1073741824 then (some 3) else (some 0))) else (some 2))) = some r:=h
 clear h
 replace H:=Option.bind_eq_some_iff.mp H
 obtain ⟨af6,O5,H⟩:=H
 replace H:(if af6 = true then (if a1 < 0 then (some 3) else (if a1 > 1073741824 then (some 3) else (some 0))) else (some 2)) = some r:=H
 have A3:=aa.mk O5
 clear O5
 by_cases c4:af6 = true
 ·subst c4
  have H1:(if a1 < 0 then (some 3) else (if a1 > 1073741824 then (some 3) else (some 0))) = some r:=by rw [if_pos rfl] at H;exact H
  clear H
  have H:=H1
  clear H1
  by_cases c5:a1 < 0
  ·rw [if_pos c5] at H
   have Ea:decide (a1 < 0) = true:=decide_eq_true c5
   clear c5
   obtain rfl:=Option.some.inj H
   go_enter Try.func80,Try.ntmps80
   go_wp2_with (first|((with_reducible refine aG (N:=2) rfl ?_);refine az (by rfl) (N:=2) (by rfl) (cs:=#[U Z ah,U Z ai,U Z ax,U Z ay]) (t:=31) fM ?_;intro aiM hg w6 hbox hb;have BM:=aa.mk (hbox);have aiN:=dn HB hg;have aiO:=dn HB hg;replace HB:=dw HB hb;clear hb hbox hg;obtain ⟨wX,wY,DK,DL,wZ,xc,DN,DR⟩:=gD BM.out)|((with_reducible refine aN (f:=63) rfl ?_);refine bT (some 6) rfl rfl Try.func63 aY rfl #[.agg #[U Z ah,U Z ai,U Z ax,U Z ay]] rfl iG ?_;(with_reducible refine (dF.calls ah ai ax ay true _ A3.out).mono ?_);rintro e w8 ⟨rfl,hb⟩;refine ⟨_,rfl,?_⟩;replace BM:=bC BM hb;replace HB:=dw HB hb;(try clear hb);(try clear hb2);(try clear hk);(try clear hi)))
   go_ret
   exact ⟨kL,fu⟩
  ·rw [if_neg c5] at H
   have Ea:decide (a1 < 0) = false:=decide_eq_false c5
   clear c5
   by_cases c9:a1 > 1073741824
   ·rw [if_pos c9] at H
    have LM:decide (1073741824 < a1) = true:=decide_eq_true c9
    clear c9
    obtain rfl:=Option.some.inj H
    go_enter Try.func80,Try.ntmps80
    go_wp2_with (first|((with_reducible refine aG (N:=2) rfl ?_);refine az (by rfl) (N:=2) (by rfl) (cs:=#[U Z ah,U Z ai,U Z ax,U Z ay]) (t:=31) fM ?_;intro aiM hg w10 hbox hb;have BM:=aa.mk (hbox);have aiN:=dn HB hg;have aiO:=dn HB hg;replace HB:=dw HB hb;clear hb hbox hg;obtain ⟨uZ,u6,Aq,Ar,u7,ve,Au,Av⟩:=gD BM.out)|((with_reducible refine aN (f:=63) rfl ?_);refine bT (some 6) rfl rfl Try.func63 aY rfl #[.agg #[U Z ah,U Z ai,U Z ax,U Z ay]] rfl iG ?_;(with_reducible refine (dF.calls ah ai ax ay true _ A3.out).mono ?_);rintro e Nv ⟨rfl,hb⟩;refine ⟨_,rfl,?_⟩;replace BM:=bC BM hb;replace HB:=dw HB hb;(try clear hb);(try clear hb2);(try clear hk);(try clear hi)))
    go_ret
    exact ⟨kL,fu⟩
   ·rw [if_neg c9] at H
    have LM:decide (1073741824 < a1) = false:=decide_eq_false c9
    clear c9
    obtain rfl:=Option.some.inj H
    go_enter Try.func80,Try.ntmps80
    go_wp2_with (first|((with_reducible refine aG (N:=2) rfl ?_);refine az (by rfl) (N:=2) (by rfl) (cs:=#[U Z ah,U Z ai,U Z ax,U Z ay]) (t:=31) fM ?_;intro aiM hg TA hbox hb;have BM:=aa.mk (hbox);have aiN:=dn HB hg;have aiO:=dn HB hg;replace HB:=dw HB hb;clear hb hbox hg;obtain ⟨vg,vk,Ci,Cj,vo,vv,Ck,Cm⟩:=gD BM.out)|((with_reducible refine aN (f:=63) rfl ?_);refine bT (some 6) rfl rfl Try.func63 aY rfl #[.agg #[U Z ah,U Z ai,U Z ax,U Z ay]] rfl iG ?_;(with_reducible refine (dF.calls ah ai ax ay true _ A3.out).mono ?_);rintro e w15 ⟨rfl,hb⟩;refine ⟨_,rfl,?_⟩;replace BM:=bC BM hb;replace HB:=dw HB hb;(try clear hb);(try clear hb2);(try clear hk);(try clear hi)))
    go_ret
    exact ⟨kL,fu⟩
 ·replace c4:=Bool.eq_false_iff.mpr c4
  subst c4
  have H1:(some 2) = some r:=by rw [if_neg (show ¬ (false = true) by decide)] at H;exact H
  clear H
  have H:=H1
  clear H1
  obtain rfl:=Option.some.inj H
  go_enter Try.func80,Try.ntmps80
  go_wp2_with (first|((with_reducible refine aG (N:=2) rfl ?_);refine az (by rfl) (N:=2) (by rfl) (cs:=#[U Z ah,U Z ai,U Z ax,U Z ay]) (t:=31) fM ?_;intro aiM hg w16 hbox hb;have BM:=aa.mk (hbox);have aiN:=dn HB hg;have aiO:=dn HB hg;replace HB:=dw HB hb;clear hb hbox hg;obtain ⟨lW,lX,nM,nN,lY,lZ,nO,nP⟩:=gD BM.out)|((with_reducible refine aN (f:=63) rfl ?_);refine bT (some 6) rfl rfl Try.func63 aY rfl #[.agg #[U Z ah,U Z ai,U Z ax,U Z ay]] rfl iG ?_;(with_reducible refine (dF.calls ah ai ax ay false _ A3.out).mono ?_);rintro e w18 ⟨rfl,hb⟩;refine ⟨_,rfl,?_⟩;replace BM:=bC BM hb;replace HB:=dw HB hb;(try clear hb);(try clear hb2);(try clear hk);(try clear hi)))
  go_ret
  exact ⟨kL,fu⟩
end Go.Proofs.Ytmhaiihjfgfaoaa.Pr
end
