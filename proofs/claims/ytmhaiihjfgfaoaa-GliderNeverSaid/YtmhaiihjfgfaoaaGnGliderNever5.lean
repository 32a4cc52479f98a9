import Derived.Test.YtmhaiihjfgfaoaaGnGliderNever3
open Go.Value renaming int → Z
open Go.IntKind renaming i64 → ab
open Bool renaming true → ac, false → al
section
namespace Go.Proofs.Ytmhaiihjfgfaoaa.Pr
open Go.RowKit Go.Proofs.YtmhaiihjfgfaoaaW.PrintWords Go.Proofs.YtmhaiihjfgfaoaaW.PrintLast Go.Proofs.YtmhaiihjfgfaoaaW.PrintMore
attribute [local go_sem] dw dx dM dN dz
set_option linter.unusedVariables false
set_option linter.unusedSimpArgs false
def bL.f (ax:Int) (av:Int) (aH:Int) (aG:Int) (aQ:Int) (aN:Int) (aM:Int):Option (Int):=if ax < 0 then (some 2) else (if ax > 5000 then (some 2) else (if av < 1 then (some 2) else (if av > 131072 then (some 2) else ((aX.f aH aG 0 1073741824).bind fun t113=>(if t113 = true then ((aX.f aQ aN 0 1073741824).bind fun t114=>(if t114 = true then (if aM < 0 then (some 2) else (if aM > 1073741824 then (some 2) else (some 0))) else (some 2))) else (some 2))))))
set_option maxHeartbeats 8000000 in
set_option maxRecDepth 100000 in
theorem bL.calls (ax:Int) (av:Int) (aH:Int) (aG:Int) (aQ:Int) (aN:Int) (aM:Int) (r:Int) (w:World) (h:bL.f ax av aH aG aQ aN aM = some r):
 Calls Try.prog 28 #[.agg #[Z ab ax,Z ab av,Z ab aH,Z ab aG,Z ab aQ,Z ab aN,Z ab aM]] w fun e w'=>e = .returned (Z ab r)∧Below w.heap.size w w':=by
 have xX:=Try.underlying29
 have mE:=Try.underlying27
 have HB:=ag.mk (Below.refl w.heap.size w)
 have H:(if ax < 0 then (some 2) else (if ax > 5000 then (some 2) else (if av < 1 then (some 2) else (if av > 131072 then (some 2) else ((aX.f aH aG 0 1073741824).bind fun t113=>(if t113 = true then ((aX.f aQ aN 0 1073741824).bind fun t114=>(if t114 = true then (if aM < 0 then (some 2) else (if aM > 1073741824 then (some 2) else (some 0))) else (some 2))) else (some 2))))))) = some r:=h
 clear h
 by_cases c2:ax < 0
 ·rw [if_pos c2] at H
  have acQ:decide (ax < 0) = true:=decide_eq_true c2
  clear c2
  obtain rfl:=Option.some.inj H
  go_enter Try.func28,Try.ntmps28
  go_wp2_with (first|((with_reducible refine aI (N:=1) rfl ?_);refine aC (by rfl) (N:=1) (by rfl) (cs:=#[Z ab ax,Z ab av,Z ab aH,Z ab aG,Z ab aQ,Z ab aN,Z ab aM]) (t:=29) gu ?_;intro Lj hg w3 hbox hb;have gW:=ag.mk (hbox);have Ll:=cB HB hg;have Lm:=cB HB hg;replace HB:=cK HB hb;clear hb hbox hg;obtain ⟨acR,acS,aj6,aj7,aqh,aqi,aqj,acT,acU,aj8,aj9,aqk,aql,aqm⟩:=iH gW.out))
  go_ret
  exact ⟨mf,eZ⟩
 ·rw [if_neg c2] at H
  have acQ:decide (ax < 0) = false:=decide_eq_false c2
  clear c2
  by_cases c5:ax > 5000
  ·rw [if_pos c5] at H
   have Ls:decide (5000 < ax) = true:=decide_eq_true c5
   clear c5
   obtain rfl:=Option.some.inj H
   go_enter Try.func28,Try.ntmps28
   go_wp2_with (first|((with_reducible refine aI (N:=1) rfl ?_);refine aC (by rfl) (N:=1) (by rfl) (cs:=#[Z ab ax,Z ab av,Z ab aH,Z ab aG,Z ab aQ,Z ab aN,Z ab aM]) (t:=29) gu ?_;intro Lj hg w6 hbox hb;have gW:=ag.mk (hbox);have Ll:=cB HB hg;have Lm:=cB HB hg;replace HB:=cK HB hb;clear hb hbox hg;obtain ⟨Cs,Ct,J6,J7,J8,J9,Qb,Cu,Cv,Ka,Kb,Ke,Kg,Qc⟩:=iH gW.out))
   go_ret
   exact ⟨mf,eZ⟩
  ·rw [if_neg c5] at H
   have Ls:decide (5000 < ax) = false:=decide_eq_false c5
   clear c5
   by_cases c8:av < 1
   ·rw [if_pos c8] at H
    have LF:decide (av < 1) = true:=decide_eq_true c8
    clear c8
    obtain rfl:=Option.some.inj H
    go_enter Try.func28,Try.ntmps28
    go_wp2_with (first|((with_reducible refine aI (N:=1) rfl ?_);refine aC (by rfl) (N:=1) (by rfl) (cs:=#[Z ab ax,Z ab av,Z ab aH,Z ab aG,Z ab aQ,Z ab aN,Z ab aM]) (t:=29) gu ?_;intro Lj hg w9 hbox hb;have gW:=ag.mk (hbox);have Ll:=cB HB hg;have Lm:=cB HB hg;replace HB:=cK HB hb;clear hb hbox hg;obtain ⟨DL,DN,ae2,ae3,ae4,ae5,ae6,DR,DT,ae7,ae8,ae9,afa,afb⟩:=iH gW.out))
    go_ret
    exact ⟨mf,eZ⟩
   ·rw [if_neg c8] at H
    have LF:decide (av < 1) = false:=decide_eq_false c8
    clear c8
    by_cases c11:av > 131072
    ·rw [if_pos c11] at H
     have PZ:decide (131072 < av) = true:=decide_eq_true c11
     clear c11
     obtain rfl:=Option.some.inj H
     go_enter Try.func28,Try.ntmps28
     go_wp2_with (first|((with_reducible refine aI (N:=1) rfl ?_);refine aC (by rfl) (N:=1) (by rfl) (cs:=#[Z ab ax,Z ab av,Z ab aH,Z ab aG,Z ab aQ,Z ab aN,Z ab aM]) (t:=29) gu ?_;intro Lj hg F6 hbox hb;have gW:=ag.mk (hbox);have Ll:=cB HB hg;have Lm:=cB HB hg;replace HB:=cK HB hb;clear hb hbox hg;obtain ⟨vS,vT,zR,zS,DZ,D5,IZ,vU,vV,zT,zU,D6,D7,I1⟩:=iH gW.out))
     go_ret
     exact ⟨mf,eZ⟩
    ·rw [if_neg c11] at H
     have PZ:decide (131072 < av) = false:=decide_eq_false c11
     clear c11
     replace H:=Option.bind_eq_some_iff.mp H
     obtain ⟨t113,akd,H⟩:=H
     replace H:(if t113 = true then ((aX.f aQ aN 0 1073741824).bind fun t114=>(if t114 = true then (if aM < 0 then (some 2) else (if aM > 1073741824 then (some 2) else (some 0))) else (some 2))) else (some 2)) = some r:=H
     have A14:=ag.mk akd
     clear akd
     by_cases c15:t113 = true
     ·subst c15
      have H1:((aX.f aQ aN 0 1073741824).bind fun t114=>(if t114 = true then (if aM < 0 then (some 2) else (if aM > 1073741824 then (some 2) else (some 0))) else (some 2))) = some r:=by rw [if_pos rfl] at H;exact H
      clear H
      have H:=H1
      clear H1
      replace H:=Option.bind_eq_some_iff.mp H
      obtain ⟨t114,akf,H⟩:=H
      replace H:(if t114 = true then (if aM < 0 then (some 2) else (if aM > 1073741824 then (some 2) else (some 0))) else (some 2)) = some r:=H
      have A16:=ag.mk akf
      clear akf
      by_cases c17:t114 = true
      ·subst c17
       have H1:(if aM < 0 then (some 2) else (if aM > 1073741824 then (some 2) else (some 0))) = some r:=by rw [if_pos rfl] at H;exact H
       clear H
       have H:=H1
       clear H1
       by_cases c18:aM < 0
       ·rw [if_pos c18] at H
        have Li:decide (aM < 0) = true:=decide_eq_true c18
        clear c18
        obtain rfl:=Option.some.inj H
        go_enter Try.func28,Try.ntmps28
        go_wp2_with (first|((with_reducible refine aI (N:=1) rfl ?_);refine aC (by rfl) (N:=1) (by rfl) (cs:=#[Z ab ax,Z ab av,Z ab aH,Z ab aG,Z ab aQ,Z ab aN,Z ab aM]) (t:=29) gu ?_;intro Lj hg w19 hbox hb;have gW:=ag.mk (hbox);have Ll:=cB HB hg;have Lm:=cB HB hg;replace HB:=cK HB hb;clear hb hbox hg;obtain ⟨Ml,Mm,Mo,Mq,U2,U3,alA,Mr,Ms,Mt,Mv,U4,U5,alB⟩:=iH gW.out)|(go_at_call 78;(with_reducible refine (aX.calls aH aG 0 1073741824 true _ A14.out).mono ?_);rintro e w21 ⟨rfl,hb⟩;replace gW:=bJ gW hb;replace HB:=cK HB hb;(try clear hb);(try clear hb2);(try clear hk);(try clear hi);obtain ⟨Bo,Bp,Bq,Br,Eu,Ev,Ew,Bt,Bu,Bv,Bw,Ex,Ey,Ez⟩:=iH gW.out)|(go_at_call 78;(with_reducible refine (aX.calls aQ aN 0 1073741824 true _ A16.out).mono ?_);rintro e w23 ⟨rfl,hb⟩;replace gW:=bJ gW hb;replace HB:=cK HB hb;(try clear hb);(try clear hb2);(try clear hk);(try clear hi);obtain ⟨LQ,LU,adr,ads,axu,axv,axw,LV,LW,adt,adu,axx,axy,axz⟩:=iH gW.out))
        go_ret
        exact ⟨mf,eZ⟩
       ·rw [if_neg c18] at H
        have Li:decide (aM < 0) = false:=decide_eq_false c18
        clear c18
        by_cases c25:aM > 1073741824
        ·rw [if_pos c25] at H
         have avE:decide (1073741824 < aM) = true:=decide_eq_true c25
         clear c25
         obtain rfl:=Option.some.inj H
         go_enter Try.func28,Try.ntmps28
         go_wp2_with (first|((with_reducible refine aI (N:=1) rfl ?_);refine aC (by rfl) (N:=1) (by rfl) (cs:=#[Z ab ax,Z ab av,Z ab aH,Z ab aG,Z ab aQ,Z ab aN,Z ab aM]) (t:=29) gu ?_;intro Lj hg w26 hbox hb;have gW:=ag.mk (hbox);have Ll:=cB HB hg;have Lm:=cB HB hg;replace HB:=cK HB hb;clear hb hbox hg;obtain ⟨wY,wZ,xc,xe,xg,xh,xk,xm,xn,xq,xu,xw,xx,xy⟩:=iH gW.out)|(go_at_call 78;(with_reducible refine (aX.calls aH aG 0 1073741824 true _ A14.out).mono ?_);rintro e w28 ⟨rfl,hb⟩;replace gW:=bJ gW hb;replace HB:=cK HB hb;(try clear hb);(try clear hb2);(try clear hk);(try clear hi);obtain ⟨qE,qF,rP,rQ,O9,Pb,Pf,qG,qH,rR,rT,Pg,Ph,Pj⟩:=iH gW.out)|(go_at_call 78;(with_reducible refine (aX.calls aQ aN 0 1073741824 true _ A16.out).mono ?_);rintro e w30 ⟨rfl,hb⟩;replace gW:=bJ gW hb;replace HB:=cK HB hb;(try clear hb);(try clear hb2);(try clear hk);(try clear hi);obtain ⟨afc,afd,afe,aff,afg,afh,afi,afj,afk,afl,afm,afn,afo,afp⟩:=iH gW.out))
         go_ret
         exact ⟨mf,eZ⟩
        ·rw [if_neg c25] at H
         have avE:decide (1073741824 < aM) = false:=decide_eq_false c25
         clear c25
         obtain rfl:=Option.some.inj H
         go_enter Try.func28,Try.ntmps28
         go_wp2_with (first|((with_reducible refine aI (N:=1) rfl ?_);refine aC (by rfl) (N:=1) (by rfl) (cs:=#[Z ab ax,Z ab av,Z ab aH,Z ab aG,Z ab aQ,Z ab aN,Z ab aM]) (t:=29) gu ?_;intro Lj hg w32 hbox hb;have gW:=ag.mk (hbox);have Ll:=cB HB hg;have Lm:=cB HB hg;replace HB:=cK HB hb;clear hb hbox hg;obtain ⟨Mw,Mx,Vh,Vi,am2,am3,am4,MB,MC,Vj,Vk,am5,am6,am7⟩:=iH gW.out)|(go_at_call 78;(with_reducible refine (aX.calls aH aG 0 1073741824 true _ A14.out).mono ?_);rintro e w34 ⟨rfl,hb⟩;replace gW:=bJ gW hb;replace HB:=cK HB hb;(try clear hb);(try clear hb2);(try clear hk);(try clear hi);obtain ⟨vW,vX,Dr,Dt,GM,GN,GQ,vY,vZ,Du,Dv,GR,GU,GV⟩:=iH gW.out)|(go_at_call 78;(with_reducible refine (aX.calls aQ aN 0 1073741824 true _ A16.out).mono ?_);rintro e w36 ⟨rfl,hb⟩;replace gW:=bJ gW hb;replace HB:=cK HB hb;(try clear hb);(try clear hb2);(try clear hk);(try clear hi);obtain ⟨axA,axB,axC,axD,axE,axF,axG,axH,axI,axJ,axK,axL,axM,axN⟩:=iH gW.out))
         go_ret
         exact ⟨mf,eZ⟩
      ·replace c17:=Bool.eq_false_iff.mpr c17
       subst c17
       have H1:(some 2) = some r:=by rw [if_neg (show ¬ (false = true) by decide)] at H;exact H
       clear H
       have H:=H1
       clear H1
       obtain rfl:=Option.some.inj H
       go_enter Try.func28,Try.ntmps28
       go_wp2_with (first|((with_reducible refine aI (N:=1) rfl ?_);refine aC (by rfl) (N:=1) (by rfl) (cs:=#[Z ab ax,Z ab av,Z ab aH,Z ab aG,Z ab aQ,Z ab aN,Z ab aM]) (t:=29) gu ?_;intro Lj hg w38 hbox hb;have gW:=ag.mk (hbox);have Ll:=cB HB hg;have Lm:=cB HB hg;replace HB:=cK HB hb;clear hb hbox hg;obtain ⟨axO,axP,axQ,axR,axS,axT,axU,axV,axW,axX,axY,axZ,ax0,ax1⟩:=iH gW.out)|(go_at_call 78;(with_reducible refine (aX.calls aH aG 0 1073741824 true _ A14.out).mono ?_);rintro e w40 ⟨rfl,hb⟩;replace gW:=bJ gW hb;replace HB:=cK HB hb;(try clear hb);(try clear hb2);(try clear hk);(try clear hi);obtain ⟨ak4,ak5,ax2,ax3,ax4,ax5,ax6,ak6,ak7,ax7,ax8,ax9,aya,ayb⟩:=iH gW.out)|(go_at_call 78;(with_reducible refine (aX.calls aQ aN 0 1073741824 false _ A16.out).mono ?_);rintro e w42 ⟨rfl,hb⟩;replace gW:=bJ gW hb;replace HB:=cK HB hb;(try clear hb);(try clear hb2);(try clear hk);(try clear hi)))
       go_ret
       exact ⟨mf,eZ⟩
     ·replace c15:=Bool.eq_false_iff.mpr c15
      subst c15
      have H1:(some 2) = some r:=by rw [if_neg (show ¬ (false = true) by decide)] at H;exact H
      clear H
      have H:=H1
      clear H1
      obtain rfl:=Option.some.inj H
      go_enter Try.func28,Try.ntmps28
      go_wp2_with (first|((with_reducible refine aI (N:=1) rfl ?_);refine aC (by rfl) (N:=1) (by rfl) (cs:=#[Z ab ax,Z ab av,Z ab aH,Z ab aG,Z ab aQ,Z ab aN,Z ab aM]) (t:=29) gu ?_;intro Lj hg w43 hbox hb;have gW:=ag.mk (hbox);have Ll:=cB HB hg;have Lm:=cB HB hg;replace HB:=cK HB hb;clear hb hbox hg;obtain ⟨ayc,ayd,aye,ayf,ayg,ayh,ayi,ayj,ayk,ayl,aym,ayn,ayo,ayp⟩:=iH gW.out)|(go_at_call 78;(with_reducible refine (aX.calls aH aG 0 1073741824 false _ A14.out).mono ?_);rintro e w45 ⟨rfl,hb⟩;replace gW:=bJ gW hb;replace HB:=cK HB hb;(try clear hb);(try clear hb2);(try clear hk);(try clear hi)))
      go_ret
      exact ⟨mf,eZ⟩
def bZ.f (ax:Int) (av:Int) (aH:Int) (aG:Int):Option (Bool):=(bu.f ax av).bind fun t116=>(if t116 = true then ((bu.f aH aG).bind fun t117=>(if t117 = true then ((ay.f ax (-268435456) 268435456).bind fun t118=>(if t118 = true then ((ay.f av (-268435456) 268435456).bind fun t119=>(if t119 = true then ((ay.f aH (-268435456) 268435456).bind fun t120=>(if t120 = true then ((ay.f aG (-268435456) 268435456).bind fun t121=>(some t121)) else (some false))) else (some false))) else (some false))) else (some false))) else (some false))
set_option maxHeartbeats 8000000 in
set_option maxRecDepth 100000 in
theorem bZ.calls (ax:Int) (av:Int) (aH:Int) (aG:Int) (r:Bool) (w:World) (h:bZ.f ax av aH aG = some r):
 Calls Try.prog 63 #[.agg #[Z ab ax,Z ab av,Z ab aH,Z ab aG]] w fun e w'=>e = .returned (.bool r)∧Below w.heap.size w w':=by
 have pG:=Try.underlying31
 have mE:=Try.underlying27
 have HB:=ag.mk (Below.refl w.heap.size w)
 have H:((bu.f ax av).bind fun t116=>(if t116 = true then ((bu.f aH aG).bind fun t117=>(if t117 = true then ((ay.f ax (-268435456) 268435456).bind fun t118=>(if t118 = true then ((ay.f av (-268435456) 268435456).bind fun t119=>(if t119 = true then ((ay.f aH (-268435456) 268435456).bind fun t120=>(if t120 = true then ((ay.f aG (-268435456) 268435456).bind fun t121=>(some t121)) else (some false))) else (some false))) else (some false))) else (some false))) else (some false))) = some r:=h
 clear h
 replace H:=Option.bind_eq_some_iff.mp H
 obtain ⟨t116,Yt,H⟩:=H
 replace H:(if t116 = true then ((bu.f aH aG).bind fun t117=>(if t117 = true then ((ay.f ax (-268435456) 268435456).bind fun t118=>(if t118 = true then ((ay.f av (-268435456) 268435456).bind fun t119=>(if t119 = true then ((ay.f aH (-268435456) 268435456).bind fun t120=>(if t120 = true then ((ay.f aG (-268435456) 268435456).bind fun t121=>(some t121)) else (some false))) else (some false))) else (some false))) else (some false))) else (some false)) = some r:=H
 have A2:=ag.mk Yt
 clear Yt
 by_cases c3:t116 = true
 ·subst c3
  have H1:((bu.f aH aG).bind fun t117=>(if t117 = true then ((ay.f ax (-268435456) 268435456).bind fun t118=>(if t118 = true then ((ay.f av (-268435456) 268435456).bind fun t119=>(if t119 = true then ((ay.f aH (-268435456) 268435456).bind fun t120=>(if t120 = true then ((ay.f aG (-268435456) 268435456).bind fun t121=>(some t121)) else (some false))) else (some false))) else (some false))) else (some false))) = some r:=by rw [if_pos rfl] at H;exact H
  clear H
  have H:=H1
  clear H1
  replace H:=Option.bind_eq_some_iff.mp H
  obtain ⟨t117,Sc,H⟩:=H
  replace H:(if t117 = true then ((ay.f ax (-268435456) 268435456).bind fun t118=>(if t118 = true then ((ay.f av (-268435456) 268435456).bind fun t119=>(if t119 = true then ((ay.f aH (-268435456) 268435456).bind fun t120=>(if t120 = true then ((ay.f aG (-268435456) 268435456).bind fun t121=>(some t121)) else (some false))) else (some false))) else (some false))) else (some false)) = some r:=H
  have A4:=ag.mk Sc
  clear Sc
  by_cases c5:t117 = true
  ·subst c5
   have H1:((ay.f ax (-268435456) 268435456).bind fun t118=>(if t118 = true then ((ay.f av (-268435456) 268435456).bind fun t119=>(if t119 = true then ((ay.f aH (-268435456) 268435456).bind fun t120=>(if t120 = true then ((ay.f aG (-268435456) 268435456).bind fun t121=>(some t121)) else (some false))) else (some false))) else (some false))) = some r:=by rw [if_pos rfl] at H;exact H
   clear H
   have H:=H1
   clear H1
   replace H:=Option.bind_eq_some_iff.mp H
   obtain ⟨t118,A60,H⟩:=H
   replace H:(if t118 = true then ((ay.f av (-268435456) 268435456).bind fun t119=>(if t119 = true then ((ay.f aH (-268435456) 268435456).bind fun t120=>(if t120 = true then ((ay.f aG (-268435456) 268435456).bind fun t121=>(some t121)) else (some false))) else (some false))) else (some false)) = some r:=H
   have A6:=ag.mk A60
   clear A60
   by_cases c7:t118 = true
   ·subst c7
    have H1:((ay.f av (-268435456) 268435456).bind fun t119=>(if t119 = true then ((ay.f aH (-268435456) 268435456).bind fun t120=>(if t120 = true then ((ay.f aG (-268435456) 268435456).bind fun t121=>(some t121)) else (some false))) else (some false))) = some r:=by rw [if_pos rfl] at H;exact H
    clear H
    have H:=H1
    clear H1
    replace H:=Option.bind_eq_some_iff.mp H
    obtain ⟨t119,A80,H⟩:=H
    replace H:(if t119 = true then ((ay.f aH (-268435456) 268435456).bind fun t120=>(if t120 = true then ((ay.f aG (-268435456) 268435456).bind fun t121=>(some t121)) else (some false))) else (some false)) = some r:=H
    have A8:=ag.mk A80
    clear A80
    by_cases c9:t119 = true
    ·subst c9
     have H1:((ay.f aH (-268435456) 268435456).bind fun t120=>(if t120 = true then ((ay.f aG (-268435456) 268435456).bind fun t121=>(some t121)) else (some false))) = some r:=by rw [if_pos rfl] at H;exact H
     clear H
     have H:=H1
     clear H1
     replace H:=Option.bind_eq_some_iff.mp H
     obtain ⟨t120,Qr,H⟩:=H
     replace H:(if t120 = true then ((ay.f aG (-268435456) 268435456).bind fun t121=>(some t121)) else (some false)) = some r:=H
     have A10:=ag.mk Qr
     clear Qr
     by_cases c11:t120 = true
     ·subst c11
      have H1:((ay.f aG (-268435456) 268435456).bind fun t121=>(some t121)) = some r:=by rw [if_pos rfl] at H;exact H
      clear H
      have H:=H1
      clear H1
      replace H:=Option.bind_eq_some_iff.mp H
      obtain ⟨t121,Y2,H⟩:=H
      replace H:(some t121) = some r:=H
      have A12:=ag.mk Y2
      clear Y2
      obtain rfl:=Option.some.inj H
      go_enter Try.func63,Try.ntmps63
      go_wp2_with (first|((with_reducible refine aI (N:=1) rfl ?_);refine aC (by rfl) (N:=1) (by rfl) (cs:=#[Z ab ax,Z ab av,Z ab aH,Z ab aG]) (t:=31) gu ?_;intro aaN hg Yq hbox hb;have gY:=ag.mk (hbox);have aaO:=cB HB hg;have aaP:=cB HB hg;replace HB:=cK HB hb;clear hb hbox hg;obtain ⟨Dk,Dl,Tj,Tk,Dm,Dn,Tm,Tn⟩:=jr gY.out)|((with_reducible refine aR (f:=111) rfl ?_);refine bU (some 5) rfl rfl Try.func111 aT rfl #[.agg #[Z ab ax,Z ab av]] rfl jQ ?_;(with_reducible refine (bu.calls ax av true _ A2.out).mono ?_);rintro e w15 ⟨rfl,hb⟩;refine ⟨_,rfl,?_⟩;replace gY:=bJ gY hb;replace HB:=cK HB hb;(try clear hb);(try clear hb2);(try clear hk);(try clear hi);obtain ⟨Xq,Xr,ayq,ayr,Xt,Xu,ays,ayt⟩:=jr gY.out)|(go_at_call 111;(with_reducible refine (bu.calls aH aG true _ A4.out).mono ?_);rintro e w17 ⟨rfl,hb⟩;replace gY:=bJ gY hb;replace HB:=cK HB hb;(try clear hb);(try clear hb2);(try clear hk);(try clear hi);obtain ⟨Uz,UA,am8,am9,UB,UC,ana,anb⟩:=jr gY.out)|(go_at_call 112;(with_reducible refine (ay.calls ax (-268435456) 268435456 true _ A6.out).mono ?_);rintro e w' ⟨rfl,⟨nd,rfl⟩⟩)|(go_at_call 112;(with_reducible refine (ay.calls av (-268435456) 268435456 true _ A8.out).mono ?_);rintro e w' ⟨rfl,⟨nd,rfl⟩⟩)|(go_at_call 112;(with_reducible refine (ay.calls aH (-268435456) 268435456 true _ A10.out).mono ?_);rintro e w' ⟨rfl,⟨nd,rfl⟩⟩)|(go_at_call 112;(with_reducible refine (ay.calls aG (-268435456) 268435456 t121 _ A12.out).mono ?_);rintro e w' ⟨rfl,⟨nd,rfl⟩⟩))
      go_ret
      exact ⟨mf,eZ⟩
     ·replace c11:=Bool.eq_false_iff.mpr c11
      subst c11
      have H1:(some false) = some r:=by rw [if_neg (show ¬ (false = true) by decide)] at H;exact H
      clear H
      have H:=H1
      clear H1
      obtain rfl:=Option.some.inj H
      go_enter Try.func63,Try.ntmps63
      go_wp2_with (first|((with_reducible refine aI (N:=1) rfl ?_);refine aC (by rfl) (N:=1) (by rfl) (cs:=#[Z ab ax,Z ab av,Z ab aH,Z ab aG]) (t:=31) gu ?_;intro aaN hg w19 hbox hb;have gY:=ag.mk (hbox);have aaO:=cB HB hg;have aaP:=cB HB hg;replace HB:=cK HB hb;clear hb hbox hg;obtain ⟨Ml,Mm,Mo,Mq,Mr,Ms,Mt,Mv⟩:=jr gY.out)|((with_reducible refine aR (f:=111) rfl ?_);refine bU (some 5) rfl rfl Try.func111 aT rfl #[.agg #[Z ab ax,Z ab av]] rfl jQ ?_;(with_reducible refine (bu.calls ax av true _ A2.out).mono ?_);rintro e w21 ⟨rfl,hb⟩;refine ⟨_,rfl,?_⟩;replace gY:=bJ gY hb;replace HB:=cK HB hb;(try clear hb);(try clear hb2);(try clear hk);(try clear hi);obtain ⟨Bo,Bp,Bq,Br,Bt,Bu,Bv,Bw⟩:=jr gY.out)|(go_at_call 111;(with_reducible refine (bu.calls aH aG true _ A4.out).mono ?_);rintro e w23 ⟨rfl,hb⟩;replace gY:=bJ gY hb;replace HB:=cK HB hb;(try clear hb);(try clear hb2);(try clear hk);(try clear hi);obtain ⟨LQ,LU,adr,ads,LV,LW,adt,adu⟩:=jr gY.out)|(go_at_call 112;(with_reducible refine (ay.calls ax (-268435456) 268435456 true _ A6.out).mono ?_);rintro e w' ⟨rfl,⟨nd,rfl⟩⟩)|(go_at_call 112;(with_reducible refine (ay.calls av (-268435456) 268435456 true _ A8.out).mono ?_);rintro e w' ⟨rfl,⟨nd,rfl⟩⟩)|(go_at_call 112;(with_reducible refine (ay.calls aH (-268435456) 268435456 false _ A10.out).mono ?_);rintro e w' ⟨rfl,⟨nd,rfl⟩⟩))
      go_ret
      exact ⟨mf,eZ⟩
    ·replace c9:=Bool.eq_false_iff.mpr c9
     subst c9
     have H1:(some false) = some r:=by rw [if_neg (show ¬ (false = true) by decide)] at H;exact H
     clear H
     have H:=H1
     clear H1
     obtain rfl:=Option.some.inj H
     go_enter Try.func63,Try.ntmps63
     go_wp2_with (first|((with_reducible refine aI (N:=1) rfl ?_);refine aC (by rfl) (N:=1) (by rfl) (cs:=#[Z ab ax,Z ab av,Z ab aH,Z ab aG]) (t:=31) gu ?_;intro aaN hg w25 hbox hb;have gY:=ag.mk (hbox);have aaO:=cB HB hg;have aaP:=cB HB hg;replace HB:=cK HB hb;clear hb hbox hg;obtain ⟨wC,wD,Ai,Aj,wE,wF,Ak,Al⟩:=jr gY.out)|((with_reducible refine aR (f:=111) rfl ?_);refine bU (some 5) rfl rfl Try.func111 aT rfl #[.agg #[Z ab ax,Z ab av]] rfl jQ ?_;(with_reducible refine (bu.calls ax av true _ A2.out).mono ?_);rintro e w27 ⟨rfl,hb⟩;refine ⟨_,rfl,?_⟩;replace gY:=bJ gY hb;replace HB:=cK HB hb;(try clear hb);(try clear hb2);(try clear hk);(try clear hi);obtain ⟨L9,Ma,U6,U7,Mc,Md,U8,U9⟩:=jr gY.out)|(go_at_call 111;(with_reducible refine (bu.calls aH aG true _ A4.out).mono ?_);rintro e w29 ⟨rfl,hb⟩;replace gY:=bJ gY hb;replace HB:=cK HB hb;(try clear hb);(try clear hb2);(try clear hk);(try clear hi);obtain ⟨Jz,JA,JB,JC,JD,JE,JF,JG⟩:=jr gY.out)|(go_at_call 112;(with_reducible refine (ay.calls ax (-268435456) 268435456 true _ A6.out).mono ?_);rintro e w' ⟨rfl,⟨nd,rfl⟩⟩)|(go_at_call 112;(with_reducible refine (ay.calls av (-268435456) 268435456 false _ A8.out).mono ?_);rintro e w' ⟨rfl,⟨nd,rfl⟩⟩))
     go_ret
     exact ⟨mf,eZ⟩
   ·replace c7:=Bool.eq_false_iff.mpr c7
    subst c7
    have H1:(some false) = some r:=by rw [if_neg (show ¬ (false = true) by decide)] at H;exact H
    clear H
    have H:=H1
    clear H1
    obtain rfl:=Option.some.inj H
    go_enter Try.func63,Try.ntmps63
    go_wp2_with (first|((with_reducible refine aI (N:=1) rfl ?_);refine aC (by rfl) (N:=1) (by rfl) (cs:=#[Z ab ax,Z ab av,Z ab aH,Z ab aG]) (t:=31) gu ?_;intro aaN hg w31 hbox hb;have gY:=ag.mk (hbox);have aaO:=cB HB hg;have aaP:=cB HB hg;replace HB:=cK HB hb;clear hb hbox hg;obtain ⟨ayu,ayv,ayw,ayx,ayy,ayz,ayA,ayB⟩:=jr gY.out)|((with_reducible refine aR (f:=111) rfl ?_);refine bU (some 5) rfl rfl Try.func111 aT rfl #[.agg #[Z ab ax,Z ab av]] rfl jQ ?_;(with_reducible refine (bu.calls ax av true _ A2.out).mono ?_);rintro e w33 ⟨rfl,hb⟩;refine ⟨_,rfl,?_⟩;replace gY:=bJ gY hb;replace HB:=cK HB hb;(try clear hb);(try clear hb2);(try clear hk);(try clear hi);obtain ⟨Me,Mf,XZ,X0,Mg,Mh,X3,X4⟩:=jr gY.out)|(go_at_call 111;(with_reducible refine (bu.calls aH aG true _ A4.out).mono ?_);rintro e w35 ⟨rfl,hb⟩;replace gY:=bJ gY hb;replace HB:=cK HB hb;(try clear hb);(try clear hb2);(try clear hk);(try clear hi);obtain ⟨Ba,Bb,Bc,Bd,Be,Bf,Bg,Bh⟩:=jr gY.out)|(go_at_call 112;(with_reducible refine (ay.calls ax (-268435456) 268435456 false _ A6.out).mono ?_);rintro e w' ⟨rfl,⟨nd,rfl⟩⟩))
    go_ret
    exact ⟨mf,eZ⟩
  ·replace c5:=Bool.eq_false_iff.mpr c5
   subst c5
   have H1:(some false) = some r:=by rw [if_neg (show ¬ (false = true) by decide)] at H;exact H
   clear H
   have H:=H1
   clear H1
   obtain rfl:=Option.some.inj H
   go_enter Try.func63,Try.ntmps63
   go_wp2_with (first|((with_reducible refine aI (N:=1) rfl ?_);refine aC (by rfl) (N:=1) (by rfl) (cs:=#[Z ab ax,Z ab av,Z ab aH,Z ab aG]) (t:=31) gu ?_;intro aaN hg w37 hbox hb;have gY:=ag.mk (hbox);have aaO:=cB HB hg;have aaP:=cB HB hg;replace HB:=cK HB hb;clear hb hbox hg;obtain ⟨ayC,ayD,ayE,ayF,ayG,ayH,ayI,ayJ⟩:=jr gY.out)|((with_reducible refine aR (f:=111) rfl ?_);refine bU (some 5) rfl rfl Try.func111 aT rfl #[.agg #[Z ab ax,Z ab av]] rfl jQ ?_;(with_reducible refine (bu.calls ax av true _ A2.out).mono ?_);rintro e w39 ⟨rfl,hb⟩;refine ⟨_,rfl,?_⟩;replace gY:=bJ gY hb;replace HB:=cK HB hb;(try clear hb);(try clear hb2);(try clear hk);(try clear hi);obtain ⟨wJ,wK,Bz,BA,wL,wM,BC,BD⟩:=jr gY.out)|(go_at_call 111;(with_reducible refine (bu.calls aH aG false _ A4.out).mono ?_);rintro e w41 ⟨rfl,hb⟩;replace gY:=bJ gY hb;replace HB:=cK HB hb;(try clear hb);(try clear hb2);(try clear hk);(try clear hi)))
   go_ret
   exact ⟨mf,eZ⟩
 ·replace c3:=Bool.eq_false_iff.mpr c3
  subst c3
  have H1:(some false) = some r:=by rw [if_neg (show ¬ (false = true) by decide)] at H;exact H
  clear H
  have H:=H1
  clear H1
  obtain rfl:=Option.some.inj H
  go_enter Try.func63,Try.ntmps63
  go_wp2_with (first|((with_reducible refine aI (N:=1) rfl ?_);refine aC (by rfl) (N:=1) (by rfl) (cs:=#[Z ab ax,Z ab av,Z ab aH,Z ab aG]) (t:=31) gu ?_;intro aaN hg w42 hbox hb;have gY:=ag.mk (hbox);have aaO:=cB HB hg;have aaP:=cB HB hg;replace HB:=cK HB hb;clear hb hbox hg;obtain ⟨EH,EI,EJ,EK,EL,EM,EN,EO⟩:=jr gY.out)|((with_reducible refine aR (f:=111) rfl ?_);refine bU (some 5) rfl rfl Try.func111 aT rfl #[.agg #[Z ab ax,Z ab av]] rfl jQ ?_;(with_reducible refine (bu.calls ax av false _ A2.out).mono ?_);rintro e w44 ⟨rfl,hb⟩;refine ⟨_,rfl,?_⟩;replace gY:=bJ gY hb;replace HB:=cK HB hb;(try clear hb);(try clear hb2);(try clear hk);(try clear hi)))
  go_ret
  exact ⟨mf,eZ⟩
end Go.Proofs.Ytmhaiihjfgfaoaa.Pr
end
