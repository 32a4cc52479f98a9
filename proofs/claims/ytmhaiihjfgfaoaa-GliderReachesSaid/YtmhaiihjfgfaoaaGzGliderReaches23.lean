import Derived.Test.YtmhaiihjfgfaoaaGzGliderReaches3
import Derived.Test.YtmhaiihjfgfaoaaGzGliderReaches19
import Derived.Test.YtmhaiihjfgfaoaaGzGliderReaches22
open Go.Value renaming int → U
open Go.IntKind renaming i64 → Z
open Bool renaming true → ab, false → ac
section
namespace Go.Proofs.Ytmhaiihjfgfaoaa.Pr
open Go.RowKit Go.Proofs.YtmhaiihjfgfaoaaW.PrintWords Go.Proofs.YtmhaiihjfgfaoaaW.PrintLast Go.Proofs.YtmhaiihjfgfaoaaW.PrintMore
attribute [local go_sem] eD eF fD fE eG
set_option linter.unusedVariables false
set_option linter.unusedSimpArgs false
def dE.j0:Nat→Int→Int→Bool→Int→Int→Int→Int→Int→Int→Int→List Bool→List (oV)→Int→Int→Int→Int→Int→Int→Int→Int→Int→Int→Int→Option ((List (dO)) × Int)
 |0,_,_,_,_,_,_,_,_,_,_,_,_,_,_,_,_,_,_,_,_,_,_,_=>none
 |k+1,x3,x4,x33,aoN,aoO,aoP,aoQ,aoR,aoS,aoT,aoU,aoV,aoW,aoX,aoY,aoZ,ao0,ao1,ao2,ao3,ao4,ao5,ao6=>if x33 = true then (some (([]:List (dO)),3)) else ((aX.f k aoN aoO aoP aoQ aoR aoS aoT aoU aoV aoW aoX aoY aoZ ao0 ao1 ao2 ao3 ao4 ao5 ao6 x3 x4).bind fun YD=>(if YD.2 = true then (some (YD.1,0)) else (some (([]:List (dO)),5))))
def dE.f (k:Nat) (ah:Int) (ai:Int) (ax:Int) (ay:Int) (aK:Int) (aH:Int) (aJ:Int) (aR:List Bool) (aC:List (oV)) (aQ:Int) (aM:Int) (bf:Int) (bg:Int) (bD:Int) (bE:Int) (bF:Int) (bJ:Int) (bK:Int) (bM:Int) (bN:Int) (a3:Int) (a4:Int):Option ((List (dO)) × Int):=(bX.f k ah ai ax ay aK aH aJ aR aC aQ aM bf bg bD bE bF).bind fun Ot=>(if Ot = 0 then ((bI.f bJ bK bM bN a3).bind fun MH=>(if MH = 0 then (if a4 < 0 then (dE.j0 k a3 a4 true ah ai ax ay aK aH aJ aR aC aQ aM bf bg bD bE bF bJ bK bM bN) else (dE.j0 k a3 a4 (decide (a4 > 64)) ah ai ax ay aK aH aJ aR aC aQ aM bf bg bD bE bF bJ bK bM bN)) else ((bI.f bJ bK bM bN a3).bind fun Tk=>(some (([]:List (dO)),Tk))))) else ((bX.f k ah ai ax ay aK aH aJ aR aC aQ aM bf bg bD bE bF).bind fun YE=>(some (([]:List (dO)),YE))))
set_option maxHeartbeats 8000000 in
set_option maxRecDepth 100000 in
theorem dE.calls (k:Nat) (ah:Int) (ai:Int) (ax:Int) (ay:Int) (aK:Int) (aH:Int) (aJ:Int) (dG:Option Addr) (dH:Nat) (aR:List Bool) (dJ:Option Addr) (dI:Nat) (aC:List (oV)) (aQ:Int) (aM:Int) (bf:Int) (bg:Int) (bD:Int) (bE:Int) (bF:Int) (bJ:Int) (bK:Int) (bM:Int) (bN:Int) (a3:Int) (a4:Int) (r1:List (dO)) (r2:Int) (w:World) (iU:Kd.C Kd.bool w dG aR.length aR) (iV:aR.length≤dH) (iW:Kd.C DD w dJ aC.length aC) (iX:aC.length≤dI) (h:dE.f k ah ai ax ay aK aH aJ aR aC aQ aM bf bg bD bE bF bJ bK bM bN a3 a4 = some (r1,r2)):
 Calls Try.prog 52 #[.agg #[U Z ah,U Z ai,U Z ax,U Z ay,U Z aK,U Z aH,U Z aJ,.slice dG aR.length dH,.slice dJ aC.length dI],.agg #[U Z aQ,U Z aM,U Z bf,U Z bg,U Z bD,U Z bE,U Z bF],.agg #[U Z bJ,U Z bK,U Z bM,U Z bN],U Z a3,U Z a4] w fun e w'=>∃ Vn:Value,e = .returned (.tuple #[Vn,U Z r2])∧Kd.R Iy 31 w' w.heap.size (fun _=>True) Vn r1∧Below w.heap.size w w':=by
 have zR:=Try.underlying25
 have Cb:=Try.underlying29
 have oP:=Try.underlying31
 have gq:=aa.mk iU
 have gu:=aa.mk iV
 clear iU iV
 have fH:=aa.mk iW
 have gz:=aa.mk iX
 clear iW iX
 have HB:=aa.mk (Below.refl w.heap.size w)
 have H:((bX.f k ah ai ax ay aK aH aJ aR aC aQ aM bf bg bD bE bF).bind fun Ot=>(if Ot = 0 then ((bI.f bJ bK bM bN a3).bind fun MH=>(if MH = 0 then (if a4 < 0 then (dE.j0 k a3 a4 true ah ai ax ay aK aH aJ aR aC aQ aM bf bg bD bE bF bJ bK bM bN) else (dE.j0 k a3 a4 (decide (a4 > 64)) ah ai ax ay aK aH aJ aR aC aQ aM bf bg bD bE bF bJ bK bM bN)) else ((bI.f bJ bK bM bN a3).bind fun Tk=>(some (([]:List (dO)),Tk))))) else ((bX.f k ah ai ax ay aK aH aJ aR aC aQ aM bf bg bD bE bF).bind fun YE=>(some (([]:List (dO)),YE))))) = some (r1,r2):=h
 clear h
 replace H:=Option.bind_eq_some_iff.mp H
 obtain ⟨Ot,La,H⟩:=H
 replace H:(if Ot = 0 then ((bI.f bJ bK bM bN a3).bind fun MH=>(if MH = 0 then (if a4 < 0 then (dE.j0 k a3 a4 true ah ai ax ay aK aH aJ aR aC aQ aM bf bg bD bE bF bJ bK bM bN) else (dE.j0 k a3 a4 (decide (a4 > 64)) ah ai ax ay aK aH aJ aR aC aQ aM bf bg bD bE bF bJ bK bM bN)) else ((bI.f bJ bK bM bN a3).bind fun Tk=>(some (([]:List (dO)),Tk))))) else ((bX.f k ah ai ax ay aK aH aJ aR aC aQ aM bf bg bD bE bF).bind fun YE=>(some (([]:List (dO)),YE)))) = some (r1,r2):=H
 have A6:=aa.mk La
 clear La
 by_cases c7:Ot = 0
 ·rw [if_pos c7] at H
  have Kw:(Ot == 0) = true:=beq_iff_eq.mpr c7
  have Wy:(Ot != 0) = false:=bne_eq_false_iff_eq.mpr c7
  clear c7
  replace H:=Option.bind_eq_some_iff.mp H
  obtain ⟨MH,TN,H⟩:=H
  replace H:(if MH = 0 then (if a4 < 0 then (dE.j0 k a3 a4 true ah ai ax ay aK aH aJ aR aC aQ aM bf bg bD bE bF bJ bK bM bN) else (dE.j0 k a3 a4 (decide (a4 > 64)) ah ai ax ay aK aH aJ aR aC aQ aM bf bg bD bE bF bJ bK bM bN)) else ((bI.f bJ bK bM bN a3).bind fun Tk=>(some (([]:List (dO)),Tk)))) = some (r1,r2):=H
  have A8:=aa.mk TN
  clear TN
  by_cases c9:MH = 0
  ·rw [if_pos c9] at H
   have LM:(MH == 0) = true:=beq_iff_eq.mpr c9
   have aaH:(MH != 0) = false:=bne_eq_false_iff_eq.mpr c9
   clear c9
   have avO:=aa.mk H
   clear H
   go_enter Try.func52,Try.ntmps52
   go_upto_region 5 with (first|((with_reducible refine aG (N:=5) rfl ?_);refine az (by rfl) (N:=5) (by rfl) (cs:=#[U Z ah,U Z ai,U Z ax,U Z ay,U Z aK,U Z aH,U Z aJ,.slice dG aR.length dH,.slice dJ aC.length dI]) (t:=25) fM ?_;intro aiP hg w11 hbox hb;have jc:=aa.mk (hbox);have atF:=dn HB hg;have atG:=dn HB hg;replace HB:=dw HB hb;clear hb hbox hg)|((with_reducible refine aG (N:=6) rfl ?_);refine az (by rfl) (N:=6) (by rfl) (cs:=#[U Z aQ,U Z aM,U Z bf,U Z bg,U Z bD,U Z bE,U Z bF]) (t:=29) fM ?_;intro aiQ hg Nv hbox hb;have kZ:=aa.mk (hbox);have atH:=dn HB hg;have atJ:=dn HB hg;have xE:=iq jc hg;have xG:=iw jc hg;replace jc:=bC jc hb;replace HB:=dw HB hb;clear hb hbox hg)|((with_reducible refine aG (N:=7) rfl ?_);refine az (by rfl) (N:=7) (by rfl) (cs:=#[U Z bJ,U Z bK,U Z bM,U Z bN]) (t:=31) fM ?_;intro YF hg TA hbox hb;have pF:=aa.mk (hbox);have atK:=dn HB hg;have atL:=dn HB hg;have xH:=iq jc hg;have xI:=iw jc hg;have xJ:=iq kZ hg;have xK:=iw kZ hg;replace jc:=bC jc hb;replace kZ:=bC kZ hb;replace HB:=dw HB hb;clear hb hbox hg;have XZ:=xE.out;have X0:=xG.out;have Yk:=xH.out;have Yl:=xI.out;obtain ⟨CG,CJ,LP,LQ,Qg,Qh,Qi,ao7,ao8,CK,CL,LU,LV,Qj,Qk,Ql,ao9,apa⟩:=iH jc.out;have abt:=xJ.out;have abu:=xK.out;obtain ⟨Ct,Cu,Ff,Fg,QV,QW,QX,Cv,Cw,Fh,Fj,QY,QZ,Q0⟩:=jb kZ.out)|((with_reducible refine aN (f:=79) rfl ?_);refine bT (some 16) rfl rfl Try.func79 aY rfl #[.agg #[U Z ah,U Z ai,U Z ax,U Z ay,U Z aK,U Z aH,U Z aJ,.slice dG aR.length dH,.slice dJ aC.length dI],.agg #[U Z aQ,U Z aM,U Z bf,U Z bg,U Z bD,U Z bE,U Z bF]] rfl iG ?_;(with_reducible refine (bX.calls k ah ai ax ay aK aH aJ _ _ aR _ _ aC aQ aM bf bg bD bE bF Ot _ ?df ?dh ?dK ?dL A6.out).mono ?_);(case df=>repeat (first|exact (Kd.bz gq.out HB.out)|(with_reducible refine Kd.bA ?_ _)|(with_reducible refine Kd.bB ?_ _)|(with_reducible refine Kd.bQ ?_)));(case dh=>exact gu.out);(case dK=>repeat (first|exact (Kd.bz fH.out HB.out)|(with_reducible refine Kd.bA ?_ _)|(with_reducible refine Kd.bB ?_ _)|(with_reducible refine Kd.bQ ?_)));(case dL=>exact gz.out);rintro e w19 ⟨rfl,hb⟩;refine ⟨_,rfl,?_⟩;replace jc:=bC jc hb;replace kZ:=bC kZ hb;replace pF:=bC pF hb;replace HB:=dw HB hb;(try clear hb);(try clear hb2);(try clear hk);(try clear hi);obtain ⟨AB,AJ,Cx,Cy,AL,AO,Cz,CB⟩:=gD pF.out)|((with_reducible refine aN (f:=80) rfl ?_);refine bT (some 23) rfl rfl Try.func80 aY rfl #[.agg #[U Z bJ,U Z bK,U Z bM,U Z bN],U Z a3] rfl iG ?_;(with_reducible refine (bI.calls bJ bK bM bN a3 MH _ A8.out).mono ?_);rintro e w21 ⟨rfl,hb⟩;refine ⟨_,rfl,?_⟩;replace jc:=bC jc hb;replace kZ:=bC kZ hb;replace pF:=bC pF hb;replace HB:=dw HB hb;(try clear hb);(try clear hb2);(try clear hk);(try clear hi)))
   (try simp only [Act.put,List.setIfInBounds_toArray,List.set_cons_zero,List.set_cons_succ])
   go_cut [33] (fun v33 wc=>∃ (kq:Nat) (adB:Bool),v33 = .bool adB∧aa (dE.j0 kq a3 a4 adB ah ai ax ay aK aH aJ aR aC aQ aM bf bg bD bE bF bJ bK bM bN = some (r1,r2))∧aa (kq≤k)∧aa (wc.heap[aiP]? = some (.cells #[U Z ah,U Z ai,U Z ax,U Z ay,U Z aK,U Z aH,U Z aJ,(.slice dG aR.length dH),(.slice dJ aC.length dI)] 25 (0,0)))∧aa (wc.heap[aiQ]? = some (.cells #[U Z aQ,U Z aM,U Z bf,U Z bg,U Z bD,U Z bE,U Z bF] 29 (0,0)))∧aa (wc.heap[YF]? = some (.cells #[U Z bJ,U Z bK,U Z bM,U Z bN] 31 (0,0)))∧aa (Below w.heap.size w wc))
   case first =>
    have H:=avO.out
    clear avO
    by_cases SE:a4 < 0
    ·rw [if_pos SE] at H
     have Hw:decide (a4 < 0) = true:=decide_eq_true SE
     clear SE
     (first|rw [Hw]|(simp only [eB,eH];rw [Hw])|skip)
     have H':=aa.mk H
     clear H
     go_wp2
     go_meet
     case rel=>exact ⟨_,(true),mg,H',⟨wE⟩,⟨fB⟩,⟨fB⟩,⟨fB⟩,⟨fu⟩⟩
    ·rw [if_neg SE] at H
     have Hw:decide (a4 < 0) = false:=decide_eq_false SE
     clear SE
     (first|rw [Hw]|(simp only [eB,eH];rw [Hw])|skip)
     have H':=aa.mk H
     clear H
     go_wp2
     go_meet
     case rel=>exact ⟨_,(decide (a4 > 64)),mg,H',⟨wE⟩,⟨fB⟩,⟨fB⟩,⟨fB⟩,⟨fu⟩⟩
   case rest =>
    clear avO
    try clear c1
    try clear c2
    try clear p2
    try clear c5
    try clear c7
    try clear Kw
    try clear Wy
    try clear c8
    try clear c9
    try clear LM
    try clear aaH
    try clear c14
    try clear c15
    try clear c17
    try clear SE
    try clear Hw
    try clear CG CJ LP LQ Qg Qh Qi ao7 ao8
    try clear Ct Cu Ff Fg QV QW QX
    try clear AB AJ Cx Cy
    try clear CK CL LU LV Qj Qk Ql ao9 apa
    try clear Cv Cw Fh Fj QY QZ Q0
    try clear AL AO Cz CB
    obtain ⟨kq,adB,rfl,HA,HJ9,jc,kZ,pF,HB⟩:=hcut
    cases kq with
    |zero=>exact absurd HA.out (by simp [dE.j0])
    |succ kj9 =>
     have H:=HA.out
     clear HA
     simp only [dE.j0] at H
     by_cases c23:adB = true
     ·subst c23
      have H1:(some (([]:List (dO)),3)) = some (r1,r2):=by rw [if_pos rfl] at H;exact H
      clear H
      have H:=H1
      clear H1
      simp only [Option.some.injEq,Prod.mk.injEq] at H
      obtain ⟨rfl,rfl⟩:=H
      go_wp2
      go_ret2
      exact ⟨_,kL,N9,fu⟩
     ·replace c23:=Bool.eq_false_iff.mpr c23
      subst c23
      have H1:((aX.f kj9 ah ai ax ay aK aH aJ aR aC aQ aM bf bg bD bE bF bJ bK bM bN a3 a4).bind fun YD=>(if YD.2 = true then (some (YD.1,0)) else (some (([]:List (dO)),5)))) = some (r1,r2):=by rw [if_neg (show ¬ (false = true) by decide)] at H;exact H
      clear H
      have H:=H1
      clear H1
      replace H:=Option.bind_eq_some_iff.mp H
      obtain ⟨⟨apb,azH⟩,aiq,H⟩:=H
      replace H:(if azH = true then (some (apb,0)) else (some (([]:List (dO)),5))) = some (r1,r2):=H
      have A24:=aa.mk aiq
      clear aiq
      by_cases Yc:azH = true
      ·subst Yc
       have H1:(some (apb,0)) = some (r1,r2):=by rw [if_pos rfl] at H;exact H
       clear H
       have H:=H1
       clear H1
       simp only [Option.some.injEq,Prod.mk.injEq] at H
       obtain ⟨rfl,rfl⟩:=H
       have ait:=xE.out
       have aiu:=xG.out
       have aiv:=xH.out
       have aiw:=xI.out
       obtain ⟨V6,V7,adp,adq,apc,apd,aKq,aKr,aKs,V8,V9,adr,ads,ape,apf,aKt,aKu,aKv⟩:=iH jc.out
       have azI:=xJ.out
       have azJ:=xK.out
       obtain ⟨Gi,Gj,Jh,Ji,Mm,Mo,Mq,Gm,Gn,Jj,Jk,Mr,Ms,Mt⟩:=jb kZ.out
       obtain ⟨Mv,Mw,Mx,MB,MC,ME,MF,MG⟩:=gD pF.out
       go_wp2_with (first|((with_reducible refine aN (f:=102) rfl ?_);refine bT (some 40) rfl rfl Try.func102 aY rfl #[.agg #[U Z ah,U Z ai,U Z ax,U Z ay,U Z aK,U Z aH,U Z aJ,.slice dG aR.length dH,.slice dJ aC.length dI],.agg #[U Z aQ,U Z aM,U Z bf,U Z bg,U Z bD,U Z bE,U Z bF],.agg #[U Z bJ,U Z bK,U Z bM,U Z bN],U Z a3,U Z a4] rfl iG ?_;(with_reducible refine (aX.calls kj9 ah ai ax ay aK aH aJ _ _ aR _ _ aC aQ aM bf bg bD bE bF bJ bK bM bN a3 a4 apb true _ ?df ?dh ?dK ?dL A24.out).mono ?_);(case df=>repeat (first|exact (Kd.bz gq.out HB.out)|(with_reducible refine Kd.bA ?_ _)|(with_reducible refine Kd.bB ?_ _)|(with_reducible refine Kd.bQ ?_)));(case dh=>exact gu.out);(case dK=>repeat (first|exact (Kd.bz fH.out HB.out)|(with_reducible refine Kd.bA ?_ _)|(with_reducible refine Kd.bB ?_ _)|(with_reducible refine Kd.bQ ?_)));(case dL=>exact gz.out);rintro e w32 ⟨aOu,rfl,ho0,hb⟩;refine ⟨_,rfl,?_⟩;have atM:=aa.mk (Kd.jH (Kd.qP ho0 (g:=YF) (o:=.cells #[U Z bJ,U Z bK,U Z bM,U Z bN] 31 (0,0)) fB) (fJ fu));replace jc:=bC jc hb;replace kZ:=bC kZ hb;replace pF:=bC pF hb;replace HB:=dw HB hb;(try clear hb);(try clear hb2);(try clear hk);(try clear hi);(try clear ho0)))
       go_ret2
       exact ⟨_,kL,by (with_reducible repeat (first|apply Kd.jf|apply Kd.iQ|apply Kd.iE));exact Kd.jC atM.out (fun _ hk=>trivial),fu⟩
      ·replace Yc:=Bool.eq_false_iff.mpr Yc
       subst Yc
       have H1:(some (([]:List (dO)),5)) = some (r1,r2):=by rw [if_neg (show ¬ (false = true) by decide)] at H;exact H
       clear H
       have H:=H1
       clear H1
       simp only [Option.some.injEq,Prod.mk.injEq] at H
       obtain ⟨rfl,rfl⟩:=H
       have ay4:=xE.out
       have ay5:=xG.out
       have atN:=xH.out
       have atO:=xI.out
       obtain ⟨Al,Am,ET,EU,Jl,Jm,Jn,VP,VQ,Ao,Ap,EW,EX,Jo,Jp,Jq,VR,VS⟩:=iH jc.out
       have aif:=xJ.out
       have aih:=xK.out
       obtain ⟨QR,QS,VT,VU,VV,VW,VX,QT,QU,VY,VZ,V3,V4,V5⟩:=jb kZ.out
       obtain ⟨Wj,Wl,Wm,Wn,Wo,Wp,Wq,Ws⟩:=gD pF.out
       go_wp2_with (first|((with_reducible refine aN (f:=102) rfl ?_);refine bT (some 40) rfl rfl Try.func102 aY rfl #[.agg #[U Z ah,U Z ai,U Z ax,U Z ay,U Z aK,U Z aH,U Z aJ,.slice dG aR.length dH,.slice dJ aC.length dI],.agg #[U Z aQ,U Z aM,U Z bf,U Z bg,U Z bD,U Z bE,U Z bF],.agg #[U Z bJ,U Z bK,U Z bM,U Z bN],U Z a3,U Z a4] rfl iG ?_;(with_reducible refine (aX.calls kj9 ah ai ax ay aK aH aJ _ _ aR _ _ aC aQ aM bf bg bD bE bF bJ bK bM bN a3 a4 apb false _ ?df ?dh ?dK ?dL A24.out).mono ?_);(case df=>repeat (first|exact (Kd.bz gq.out HB.out)|(with_reducible refine Kd.bA ?_ _)|(with_reducible refine Kd.bB ?_ _)|(with_reducible refine Kd.bQ ?_)));(case dh=>exact gu.out);(case dK=>repeat (first|exact (Kd.bz fH.out HB.out)|(with_reducible refine Kd.bA ?_ _)|(with_reducible refine Kd.bB ?_ _)|(with_reducible refine Kd.bQ ?_)));(case dL=>exact gz.out);rintro e w39 ⟨aOu,rfl,ho0,hb⟩;refine ⟨_,rfl,?_⟩;have atM:=aa.mk (Kd.jH (Kd.qP ho0 (g:=YF) (o:=.cells #[U Z bJ,U Z bK,U Z bM,U Z bN] 31 (0,0)) fB) (fJ fu));replace jc:=bC jc hb;replace kZ:=bC kZ hb;replace pF:=bC pF hb;replace HB:=dw HB hb;(try clear hb);(try clear hb2);(try clear hk);(try clear hi);(try clear ho0)))
       go_ret2
       exact ⟨_,kL,N9,fu⟩
  ·rw [if_neg c9] at H
   have LM:(MH == 0) = false:=beq_eq_false_iff_ne.mpr c9
   have aaH:(MH != 0) = true:=bne_iff_ne.mpr c9
   replace H:=Option.bind_eq_some_iff.mp H
   obtain ⟨Tk,azK,H⟩:=H
   replace H:(some (([]:List (dO)),Tk)) = some (r1,r2):=H
   have Kv:=aa.mk azK
   clear azK
   simp only [Option.some.injEq,Prod.mk.injEq] at H
   obtain ⟨rfl,rfl⟩:=H
   go_enter Try.func52,Try.ntmps52
   go_wp2_with (first|((with_reducible refine aG (N:=5) rfl ?_);refine az (by rfl) (N:=5) (by rfl) (cs:=#[U Z ah,U Z ai,U Z ax,U Z ay,U Z aK,U Z aH,U Z aJ,.slice dG aR.length dH,.slice dJ aC.length dI]) (t:=25) fM ?_;intro aiP hg w41 hbox hb;have jc:=aa.mk (hbox);have atF:=dn HB hg;have atG:=dn HB hg;replace HB:=dw HB hb;clear hb hbox hg)|((with_reducible refine aG (N:=6) rfl ?_);refine az (by rfl) (N:=6) (by rfl) (cs:=#[U Z aQ,U Z aM,U Z bf,U Z bg,U Z bD,U Z bE,U Z bF]) (t:=29) fM ?_;intro aiQ hg w42 hbox hb;have kZ:=aa.mk (hbox);have atH:=dn HB hg;have atJ:=dn HB hg;have xE:=iq jc hg;have xG:=iw jc hg;replace jc:=bC jc hb;replace HB:=dw HB hb;clear hb hbox hg)|((with_reducible refine aG (N:=7) rfl ?_);refine az (by rfl) (N:=7) (by rfl) (cs:=#[U Z bJ,U Z bK,U Z bM,U Z bN]) (t:=31) fM ?_;intro YF hg w43 hbox hb;have pF:=aa.mk (hbox);have atK:=dn HB hg;have atL:=dn HB hg;have xH:=iq jc hg;have xI:=iw jc hg;have xJ:=iq kZ hg;have xK:=iw kZ hg;replace jc:=bC jc hb;replace kZ:=bC kZ hb;replace HB:=dw HB hb;clear hb hbox hg;have azL:=xE.out;have azM:=xG.out;have ays:=xH.out;have ayt:=xI.out;obtain ⟨apg,aph,aKw,aKx,aKy,aKz,aKA,aKB,aKC,api,apj,aKD,aKE,aKF,aKG,aKH,aKI,aKJ⟩:=iH jc.out;have aim:=xJ.out;have ain:=xK.out;obtain ⟨aKK,aKL,aKM,aKN,aKO,aKP,aKQ,aKR,aKS,aKT,aKU,aKV,aKW,aKX⟩:=jb kZ.out)|((with_reducible refine aN (f:=79) rfl ?_);refine bT (some 16) rfl rfl Try.func79 aY rfl #[.agg #[U Z ah,U Z ai,U Z ax,U Z ay,U Z aK,U Z aH,U Z aJ,.slice dG aR.length dH,.slice dJ aC.length dI],.agg #[U Z aQ,U Z aM,U Z bf,U Z bg,U Z bD,U Z bE,U Z bF]] rfl iG ?_;(with_reducible refine (bX.calls k ah ai ax ay aK aH aJ _ _ aR _ _ aC aQ aM bf bg bD bE bF Ot _ ?df ?dh ?dK ?dL A6.out).mono ?_);(case df=>repeat (first|exact (Kd.bz gq.out HB.out)|(with_reducible refine Kd.bA ?_ _)|(with_reducible refine Kd.bB ?_ _)|(with_reducible refine Kd.bQ ?_)));(case dh=>exact gu.out);(case dK=>repeat (first|exact (Kd.bz fH.out HB.out)|(with_reducible refine Kd.bA ?_ _)|(with_reducible refine Kd.bB ?_ _)|(with_reducible refine Kd.bQ ?_)));(case dL=>exact gz.out);rintro e w49 ⟨rfl,hb⟩;refine ⟨_,rfl,?_⟩;replace jc:=bC jc hb;replace kZ:=bC kZ hb;replace pF:=bC pF hb;replace HB:=dw HB hb;(try clear hb);(try clear hb2);(try clear hk);(try clear hi);obtain ⟨ank,anl,anm,ann,ano,anp,anq,anr⟩:=gD pF.out)|((with_reducible refine aN (f:=80) rfl ?_);refine bT (some 23) rfl rfl Try.func80 aY rfl #[.agg #[U Z bJ,U Z bK,U Z bM,U Z bN],U Z a3] rfl iG ?_;(with_reducible refine (bI.calls bJ bK bM bN a3 MH _ A8.out).mono ?_);rintro e w51 ⟨rfl,hb⟩;refine ⟨_,rfl,?_⟩;replace jc:=bC jc hb;replace kZ:=bC kZ hb;replace pF:=bC pF hb;replace HB:=dw HB hb;(try clear hb);(try clear hb2);(try clear hk);(try clear hi);obtain ⟨apk,apl,aKY,aKZ,apm,apn,aK0,aK1⟩:=gD pF.out)|((with_reducible refine aN (f:=80) rfl ?_);refine bT (some 27) rfl rfl Try.func80 aY rfl #[.agg #[U Z bJ,U Z bK,U Z bM,U Z bN],U Z a3] rfl iG ?_;(with_reducible refine (bI.calls bJ bK bM bN a3 Tk _ Kv.out).mono ?_);rintro e w53 ⟨rfl,hb⟩;refine ⟨_,rfl,?_⟩;replace jc:=bC jc hb;replace kZ:=bC kZ hb;replace pF:=bC pF hb;replace HB:=dw HB hb;(try clear hb);(try clear hb2);(try clear hk);(try clear hi)))
   go_ret2
   exact ⟨_,kL,N9,fu⟩
 ·rw [if_neg c7] at H
  have Kw:(Ot == 0) = false:=beq_eq_false_iff_ne.mpr c7
  have Wy:(Ot != 0) = true:=bne_iff_ne.mpr c7
  replace H:=Option.bind_eq_some_iff.mp H
  obtain ⟨YE,aiR,H⟩:=H
  replace H:(some (([]:List (dO)),YE)) = some (r1,r2):=H
  have A54:=aa.mk aiR
  clear aiR
  simp only [Option.some.injEq,Prod.mk.injEq] at H
  obtain ⟨rfl,rfl⟩:=H
  go_enter Try.func52,Try.ntmps52
  go_wp2_with (first|((with_reducible refine aG (N:=5) rfl ?_);refine az (by rfl) (N:=5) (by rfl) (cs:=#[U Z ah,U Z ai,U Z ax,U Z ay,U Z aK,U Z aH,U Z aJ,.slice dG aR.length dH,.slice dJ aC.length dI]) (t:=25) fM ?_;intro aiP hg w55 hbox hb;have jc:=aa.mk (hbox);have atF:=dn HB hg;have atG:=dn HB hg;replace HB:=dw HB hb;clear hb hbox hg)|((with_reducible refine aG (N:=6) rfl ?_);refine az (by rfl) (N:=6) (by rfl) (cs:=#[U Z aQ,U Z aM,U Z bf,U Z bg,U Z bD,U Z bE,U Z bF]) (t:=29) fM ?_;intro aiQ hg w56 hbox hb;have kZ:=aa.mk (hbox);have atH:=dn HB hg;have atJ:=dn HB hg;have xE:=iq jc hg;have xG:=iw jc hg;replace jc:=bC jc hb;replace HB:=dw HB hb;clear hb hbox hg)|((with_reducible refine aG (N:=7) rfl ?_);refine az (by rfl) (N:=7) (by rfl) (cs:=#[U Z bJ,U Z bK,U Z bM,U Z bN]) (t:=31) fM ?_;intro YF hg w57 hbox hb;have pF:=aa.mk (hbox);have atK:=dn HB hg;have atL:=dn HB hg;have xH:=iq jc hg;have xI:=iw jc hg;have xJ:=iq kZ hg;have xK:=iw kZ hg;replace jc:=bC jc hb;replace kZ:=bC kZ hb;replace HB:=dw HB hb;clear hb hbox hg;have atP:=xE.out;have atQ:=xG.out;have aio:=xH.out;have aip:=xI.out;obtain ⟨ab3,ab4,ab5,ab6,aK2,aK3,aK4,aK5,aK6,ab7,ab8,ab9,aca,aK7,aK8,aK9,aLa,aLb⟩:=iH jc.out;have azN:=xJ.out;have azO:=xK.out;obtain ⟨adC,adD,apo,apq,apr,aps,apt,adE,adF,apu,apv,apw,apx,apy⟩:=jb kZ.out)|((with_reducible refine aN (f:=79) rfl ?_);refine bT (some 16) rfl rfl Try.func79 aY rfl #[.agg #[U Z ah,U Z ai,U Z ax,U Z ay,U Z aK,U Z aH,U Z aJ,.slice dG aR.length dH,.slice dJ aC.length dI],.agg #[U Z aQ,U Z aM,U Z bf,U Z bg,U Z bD,U Z bE,U Z bF]] rfl iG ?_;(with_reducible refine (bX.calls k ah ai ax ay aK aH aJ _ _ aR _ _ aC aQ aM bf bg bD bE bF Ot _ ?df ?dh ?dK ?dL A6.out).mono ?_);(case df=>repeat (first|exact (Kd.bz gq.out HB.out)|(with_reducible refine Kd.bA ?_ _)|(with_reducible refine Kd.bB ?_ _)|(with_reducible refine Kd.bQ ?_)));(case dh=>exact gu.out);(case dK=>repeat (first|exact (Kd.bz fH.out HB.out)|(with_reducible refine Kd.bA ?_ _)|(with_reducible refine Kd.bB ?_ _)|(with_reducible refine Kd.bQ ?_)));(case dL=>exact gz.out);rintro e w63 ⟨rfl,hb⟩;refine ⟨_,rfl,?_⟩;replace jc:=bC jc hb;replace kZ:=bC kZ hb;replace pF:=bC pF hb;replace HB:=dw HB hb;(try clear hb);(try clear hb2);(try clear hk);(try clear hi);obtain ⟨aLc,aLd,aLe,aLf,aLg,aLh,aLi,aLj,aLk,aLl,aLm,aLn,aLo,aLp,aLq,aLr,aLs,aLt⟩:=iH jc.out;obtain ⟨alS,alT,alU,alV,alW,alX,alY,alZ,al0,al1,al2,al3,al4,al5⟩:=jb kZ.out)|((with_reducible refine aN (f:=79) rfl ?_);refine bT (some 20) rfl rfl Try.func79 aY rfl #[.agg #[U Z ah,U Z ai,U Z ax,U Z ay,U Z aK,U Z aH,U Z aJ,.slice dG aR.length dH,.slice dJ aC.length dI],.agg #[U Z aQ,U Z aM,U Z bf,U Z bg,U Z bD,U Z bE,U Z bF]] rfl iG ?_;(with_reducible refine (bX.calls k ah ai ax ay aK aH aJ _ _ aR _ _ aC aQ aM bf bg bD bE bF YE _ ?df ?dh ?dK ?dL A54.out).mono ?_);(case df=>repeat (first|exact (Kd.bz gq.out HB.out)|(with_reducible refine Kd.bA ?_ _)|(with_reducible refine Kd.bB ?_ _)|(with_reducible refine Kd.bQ ?_)));(case dh=>exact gu.out);(case dK=>repeat (first|exact (Kd.bz fH.out HB.out)|(with_reducible refine Kd.bA ?_ _)|(with_reducible refine Kd.bB ?_ _)|(with_reducible refine Kd.bQ ?_)));(case dL=>exact gz.out);rintro e w66 ⟨rfl,hb⟩;refine ⟨_,rfl,?_⟩;replace jc:=bC jc hb;replace kZ:=bC kZ hb;replace pF:=bC pF hb;replace HB:=dw HB hb;(try clear hb);(try clear hb2);(try clear hk);(try clear hi)))
  go_ret2
  exact ⟨_,kL,N9,fu⟩
def il.f (ah:Int) (ai:Int) (ax:Int) (ay:Int) (aK:Int) (aH:Int):Option (Bool):=(dF.f ah ai ax ay).bind fun af7=>(if af7 = true then (if aK ≥ 0 then (if aK≤aH then (some (decide (aH≤1073741824))) else (some false)) else (some false)) else (some false))
set_option maxHeartbeats 8000000 in
set_option maxRecDepth 100000 in
theorem il.calls (ah:Int) (ai:Int) (ax:Int) (ay:Int) (aK:Int) (aH:Int) (r:Bool) (w:World) (h:il.f ah ai ax ay aK aH = some r):
 Calls Try.prog 95 #[.agg #[U Z ah,U Z ai,U Z ax,U Z ay,U Z aK,U Z aH]] w fun e w'=>e = .returned (.bool r)∧Below w.heap.size w w':=by
 have aiS:=Try.underlying81
 have oP:=Try.underlying31
 have HB:=aa.mk (Below.refl w.heap.size w)
 have H:((dF.f ah ai ax ay).bind fun af7=>(if af7 = true then (if aK ≥ 0 then (if aK≤aH then (some (decide (aH≤1073741824))) else (some false)) else (some false)) else (some false))) = some r:=h
 clear h
 replace H:=Option.bind_eq_some_iff.mp H
 obtain ⟨af7,TC,H⟩:=H
 replace H:(if af7 = true then (if aK ≥ 0 then (if aK≤aH then (some (decide (aH≤1073741824))) else (some false)) else (some false)) else (some false)) = some r:=H
 have A2:=aa.mk TC
 clear TC
 by_cases c3:af7 = true
 ·subst c3
  have H1:(if aK ≥ 0 then (if aK≤aH then (some (decide (aH≤1073741824))) else (some false)) else (some false)) = some r:=by rw [if_pos rfl] at H;exact H
  clear H
  have H:=H1
  clear H1
  by_cases c4:aK ≥ 0
  ·rw [if_pos c4] at H
   have sK:decide (0≤aK) = true:=decide_eq_true c4
   clear c4
   by_cases c5:aK≤aH
   ·rw [if_pos c5] at H
    have Ea:decide (aK≤aH) = true:=decide_eq_true c5
    clear c5
    obtain rfl:=Option.some.inj H
    go_enter Try.func95,Try.ntmps95
    go_wp2_with (first|((with_reducible refine aG (N:=1) rfl ?_);refine az (by rfl) (N:=1) (by rfl) (cs:=#[U Z ah,U Z ai,U Z ax,U Z ay,U Z aK,U Z aH]) (t:=81) fM ?_;intro aiT hg w6 hbox hb;have wI:=aa.mk (hbox);have aiU:=dn HB hg;have aiV:=dn HB hg;replace HB:=dw HB hb;clear hb hbox hg;obtain ⟨wX,wY,DK,DL,Fv,Fw,wZ,xc,DN,DR,Fx,Fy⟩:=DU wI.out)|((with_reducible refine aN (f:=63) rfl ?_);refine bT (some 5) rfl rfl Try.func63 aY rfl #[.agg #[U Z ah,U Z ai,U Z ax,U Z ay]] rfl iG ?_;(with_reducible refine (dF.calls ah ai ax ay true _ A2.out).mono ?_);rintro e w8 ⟨rfl,hb⟩;refine ⟨_,rfl,?_⟩;replace wI:=bC wI hb;replace HB:=dw HB hb;(try clear hb);(try clear hb2);(try clear hk);(try clear hi);obtain ⟨Bw,Bz,Fp,Fq,Oi,Oj,BA,BC,Fs,Fu,Ol,Om⟩:=DU wI.out))
    go_ret
    exact ⟨kL,fu⟩
   ·rw [if_neg c5] at H
    have Ea:decide (aK≤aH) = false:=decide_eq_false c5
    clear c5
    obtain rfl:=Option.some.inj H
    go_enter Try.func95,Try.ntmps95
    go_wp2_with (first|((with_reducible refine aG (N:=1) rfl ?_);refine az (by rfl) (N:=1) (by rfl) (cs:=#[U Z ah,U Z ai,U Z ax,U Z ay,U Z aK,U Z aH]) (t:=81) fM ?_;intro aiT hg w10 hbox hb;have wI:=aa.mk (hbox);have aiU:=dn HB hg;have aiV:=dn HB hg;replace HB:=dw HB hb;clear hb hbox hg;obtain ⟨uZ,u6,Aq,Ar,E9,Fa,u7,ve,Au,Av,Fb,Fe⟩:=DU wI.out)|((with_reducible refine aN (f:=63) rfl ?_);refine bT (some 5) rfl rfl Try.func63 aY rfl #[.agg #[U Z ah,U Z ai,U Z ax,U Z ay]] rfl iG ?_;(with_reducible refine (dF.calls ah ai ax ay true _ A2.out).mono ?_);rintro e Nv ⟨rfl,hb⟩;refine ⟨_,rfl,?_⟩;replace wI:=bC wI hb;replace HB:=dw HB hb;(try clear hb);(try clear hb2);(try clear hk);(try clear hi);obtain ⟨qY,qZ,xW,xX,FU,FV,q9,rf,xY,xZ,FW,FX⟩:=DU wI.out))
    go_ret
    exact ⟨kL,fu⟩
  ·rw [if_neg c4] at H
   have sK:decide (0≤aK) = false:=decide_eq_false c4
   clear c4
   obtain rfl:=Option.some.inj H
   go_enter Try.func95,Try.ntmps95
   go_wp2_with (first|((with_reducible refine aG (N:=1) rfl ?_);refine az (by rfl) (N:=1) (by rfl) (cs:=#[U Z ah,U Z ai,U Z ax,U Z ay,U Z aK,U Z aH]) (t:=81) fM ?_;intro aiT hg w14 hbox hb;have wI:=aa.mk (hbox);have aiU:=dn HB hg;have aiV:=dn HB hg;replace HB:=dw HB hb;clear hb hbox hg;obtain ⟨nI,nJ,rC,rD,tu,tC,nK,nL,rE,rF,tF,tH⟩:=DU wI.out)|((with_reducible refine aN (f:=63) rfl ?_);refine bT (some 5) rfl rfl Try.func63 aY rfl #[.agg #[U Z ah,U Z ai,U Z ax,U Z ay]] rfl iG ?_;(with_reducible refine (dF.calls ah ai ax ay true _ A2.out).mono ?_);rintro e w16 ⟨rfl,hb⟩;refine ⟨_,rfl,?_⟩;replace wI:=bC wI hb;replace HB:=dw HB hb;(try clear hb);(try clear hb2);(try clear hk);(try clear hi);obtain ⟨lW,lX,nM,nN,tN,tO,lY,lZ,nO,nP,tQ,tT⟩:=DU wI.out))
   go_ret
   exact ⟨kL,fu⟩
 ·replace c3:=Bool.eq_false_iff.mpr c3
  subst c3
  have H1:(some false) = some r:=by rw [if_neg (show ¬ (false = true) by decide)] at H;exact H
  clear H
  have H:=H1
  clear H1
  obtain rfl:=Option.some.inj H
  go_enter Try.func95,Try.ntmps95
  go_wp2_with (first|((with_reducible refine aG (N:=1) rfl ?_);refine az (by rfl) (N:=1) (by rfl) (cs:=#[U Z ah,U Z ai,U Z ax,U Z ay,U Z aK,U Z aH]) (t:=81) fM ?_;intro aiT hg w18 hbox hb;have wI:=aa.mk (hbox);have aiU:=dn HB hg;have aiV:=dn HB hg;replace HB:=dw HB hb;clear hb hbox hg;obtain ⟨pI,pJ,qF,qG,tV,tX,pK,pM,qH,qI,tY,tZ⟩:=DU wI.out)|((with_reducible refine aN (f:=63) rfl ?_);refine bT (some 5) rfl rfl Try.func63 aY rfl #[.agg #[U Z ah,U Z ai,U Z ax,U Z ay]] rfl iG ?_;(with_reducible refine (dF.calls ah ai ax ay false _ A2.out).mono ?_);rintro e GZ ⟨rfl,hb⟩;refine ⟨_,rfl,?_⟩;replace wI:=bC wI hb;replace HB:=dw HB hb;(try clear hb);(try clear hb2);(try clear hk);(try clear hi)))
  go_ret
  exact ⟨kL,fu⟩
end Go.Proofs.Ytmhaiihjfgfaoaa.Pr
end
