import Derived.Test.YtmhaiihjfgfaoaaGnGliderNever3
import Derived.Test.YtmhaiihjfgfaoaaGnGliderNever6
import Derived.Test.YtmhaiihjfgfaoaaGnGliderNever7
import Derived.Test.YtmhaiihjfgfaoaaGnGliderNever8
import Derived.Test.YtmhaiihjfgfaoaaGnGliderNever15
set_option linter.unusedSimpArgs false
set_option linter.unusedVariables false
open Go.Value renaming int → Z
open Go.IntKind renaming i64 → ab
open Bool renaming true → ac, false → al
section
namespace Go.Proofs.Ytmhaiihjfgfaoaa.Pr
open Go.RowKit Go.Proofs.YtmhaiihjfgfaoaaW.PrintWords Go.Proofs.YtmhaiihjfgfaoaaW.PrintLast Go.Proofs.YtmhaiihjfgfaoaaW.PrintMore
attribute [local go_sem] dw dx dM dN dz
set_option linter.unusedVariables false
set_option linter.unusedSimpArgs false
attribute [local go_sem high] aro
def aU.f (k:Nat):Option (Bool):=(bg.f k).bind fun fP=>((gZ.f 2000 2000).bind fun wz=>((jX.f fP.1 fP.2.1 fP.2.2.1 fP.2.2.2.1 fP.2.2.2.2.1 fP.2.2.2.2.2.1 fP.2.2.2.2.2.2.1 fP.2.2.2.2.2.2.2.1 fP.2.2.2.2.2.2.2.2.1 fP.2.2.2.2.2.2.2.2.2.1 fP.2.2.2.2.2.2.2.2.2.2.1 fP.2.2.2.2.2.2.2.2.2.2.2.1 fP.2.2.2.2.2.2.2.2.2.2.2.2.1 fP.2.2.2.2.2.2.2.2.2.2.2.2.2.1 fP.2.2.2.2.2.2.2.2.2.2.2.2.2.2.1 fP.2.2.2.2.2.2.2.2.2.2.2.2.2.2.2 wz.1 wz.2.1 wz.2.2.1 wz.2.2.2 0 2 0).bind fun oz=>((fD.f k fP.2.2.2.2.2.2.2.2.2.1 fP.2.2.2.2.2.2.2.2.2.2.1 fP.2.2.2.2.2.2.2.2.2.2.2.1 fP.2.2.2.2.2.2.2.2.2.2.2.2.1 fP.2.2.2.2.2.2.2.2.2.2.2.2.2.1 fP.2.2.2.2.2.2.2.2.2.2.2.2.2.2.1 fP.2.2.2.2.2.2.2.2.2.2.2.2.2.2.2 300 310).bind fun wB=>(if (wrap64 (oz.2.2.2.2+wB.2)) = 0 then (if wB.1 = 3 then (some ((oz.1 == 2200 && (oz.2.1 == 2400)) && ((oz.2.2.1 == 2000 && (oz.2.2.2.1 == 2000))))) else (some false)) else (some false)))))
theorem aU.mono:∀ k,jK (aU.f k) (aU.f (k+1)):=by
 intro k
 unfold aU.f
 repeat' first
  |(with_reducible exact fD.mono _ _ _ _ _ _ _ _ _ _)
  |(with_reducible exact bg.mono _)
  |(with_reducible exact jK.refl _)
  |(with_reducible exact jK.none _)
  |(with_reducible refine jK.ite ?_ ?_)
  |(with_reducible refine jK.bind ?_ (fun _=>?_))
  |exact fD.mono _ _ _ _ _ _ _ _ _ _
  |exact bg.mono _
  |exact jK.none _
  |refine jK.ite ?_ ?_
  |refine jK.bind ?_ (fun _=>?_)
def aU.T2:Bool × List (List Nat × List Nat):=(true,[([],[]),([],[]),([],[]),([],[]),([0,1,2,3,2],[0,1,2,3]),([4],[4]),([5],[5]),([5],[5]),([],[]),([8,6,4,0,1,2,3,4,5,6,8],[6,8]),([7,9,0,1,2,3,4,5,6,7,8,9],[7])])
def aU.B2:List Nat:=[0,0,0,0,15,31,63,63,0,383,1023]
theorem aU.apm:uo .any (opsOf Try.f19 2) = aU.T2:=by kernel_rfl
theorem aU.ahi:vR aU.T2.2 aU.B2 = true:=by kernel_rfl
set_option maxRecDepth 100000 in
theorem aU.anH:aU.f 60 = some true:=by kernel_rfl
set_option maxHeartbeats 8000000 in
set_option maxRecDepth 100000 in
theorem aU.calls (k:Nat) (r:Bool) (w:World) (h:aU.f k = some r):
 Calls Try.prog 19 #[] w fun e w'=>e = .returned (.bool r)∧Below w.heap.size w w':=by
 have hr_:ag (r = true):=⟨Option.some.inj ((JI aU.mono (Nat.le_max_left k 60) h).symm.trans (JI aU.mono (Nat.le_max_right k 60) aU.anH))⟩
 have Cn:=Try.underlying25
 have xX:=Try.underlying29
 have F5:=Try.underlying33
 have pG:=Try.underlying31
 have mE:=Try.underlying27
 have HB:=ag.mk (Below.refl w.heap.size w)
 have H:((bg.f k).bind fun fP=>((gZ.f 2000 2000).bind fun wz=>((jX.f fP.1 fP.2.1 fP.2.2.1 fP.2.2.2.1 fP.2.2.2.2.1 fP.2.2.2.2.2.1 fP.2.2.2.2.2.2.1 fP.2.2.2.2.2.2.2.1 fP.2.2.2.2.2.2.2.2.1 fP.2.2.2.2.2.2.2.2.2.1 fP.2.2.2.2.2.2.2.2.2.2.1 fP.2.2.2.2.2.2.2.2.2.2.2.1 fP.2.2.2.2.2.2.2.2.2.2.2.2.1 fP.2.2.2.2.2.2.2.2.2.2.2.2.2.1 fP.2.2.2.2.2.2.2.2.2.2.2.2.2.2.1 fP.2.2.2.2.2.2.2.2.2.2.2.2.2.2.2 wz.1 wz.2.1 wz.2.2.1 wz.2.2.2 0 2 0).bind fun oz=>((fD.f k fP.2.2.2.2.2.2.2.2.2.1 fP.2.2.2.2.2.2.2.2.2.2.1 fP.2.2.2.2.2.2.2.2.2.2.2.1 fP.2.2.2.2.2.2.2.2.2.2.2.2.1 fP.2.2.2.2.2.2.2.2.2.2.2.2.2.1 fP.2.2.2.2.2.2.2.2.2.2.2.2.2.2.1 fP.2.2.2.2.2.2.2.2.2.2.2.2.2.2.2 300 310).bind fun wB=>(if (wrap64 (oz.2.2.2.2+wB.2)) = 0 then (if wB.1 = 3 then (some ((oz.1 == 2200 && (oz.2.1 == 2400)) && ((oz.2.2.1 == 2000 && (oz.2.2.2.1 == 2000))))) else (some false)) else (some false)))))) = some r:=h
 clear h
 replace H:=Option.bind_eq_some_iff.mp H
 obtain ⟨⟨p8,qi,qB,qX,rF,sH,uu,qj,qC,oO,pz,pJ,p9,ql,qD,qY⟩,A10,H⟩:=H
 replace H:((gZ.f 2000 2000).bind fun wz=>((jX.f p8 qi qB qX rF sH uu qj qC oO pz pJ p9 ql qD qY wz.1 wz.2.1 wz.2.2.1 wz.2.2.2 0 2 0).bind fun oz=>((fD.f k oO pz pJ p9 ql qD qY 300 310).bind fun wB=>(if (wrap64 (oz.2.2.2.2+wB.2)) = 0 then (if wB.1 = 3 then (some ((oz.1 == 2200 && (oz.2.1 == 2400)) && ((oz.2.2.1 == 2000 && (oz.2.2.2.1 == 2000))))) else (some false)) else (some false))))) = some r:=H
 have A1:=ag.mk A10
 clear A10
 replace H:=Option.bind_eq_some_iff.mp H
 obtain ⟨⟨RJ,RL,RN,RO⟩,Yt,H⟩:=H
 replace H:((jX.f p8 qi qB qX rF sH uu qj qC oO pz pJ p9 ql qD qY RJ RL RN RO 0 2 0).bind fun oz=>((fD.f k oO pz pJ p9 ql qD qY 300 310).bind fun wB=>(if (wrap64 (oz.2.2.2.2+wB.2)) = 0 then (if wB.1 = 3 then (some ((oz.1 == 2200 && (oz.2.1 == 2400)) && ((oz.2.2.1 == 2000 && (oz.2.2.2.1 == 2000))))) else (some false)) else (some false)))) = some r:=H
 have A2:=ag.mk Yt
 clear Yt
 replace H:=Option.bind_eq_some_iff.mp H
 obtain ⟨⟨Gd,J4,Lt,Qa,J5⟩,A30,H⟩:=H
 replace H:((fD.f k oO pz pJ p9 ql qD qY 300 310).bind fun wB=>(if (wrap64 (J5+wB.2)) = 0 then (if wB.1 = 3 then (some ((Gd == 2200 && (J4 == 2400)) && ((Lt == 2000 && (Qa == 2000))))) else (some false)) else (some false))) = some r:=H
 have A3:=ag.mk A30
 clear A30
 replace H:=Option.bind_eq_some_iff.mp H
 obtain ⟨⟨abB,abC⟩,Sc,H⟩:=H
 replace H:(if (wrap64 (J5+abC)) = 0 then (if abB = 3 then (some ((Gd == 2200 && (J4 == 2400)) && ((Lt == 2000 && (Qa == 2000))))) else (some false)) else (some false)) = some r:=H
 have A4:=ag.mk Sc
 clear Sc
 by_cases c5:(wrap64 (J5+abC)) = 0
 ·rw [if_pos c5] at H
  have Ls:((wrap64 (J5+abC)) == 0) = true:=beq_iff_eq.mpr c5
  have ahj:((wrap64 (J5+abC)) != 0) = false:=bne_eq_false_iff_eq.mpr c5
  clear c5
  by_cases c6:abB = 3
  ·rw [if_pos c6] at H
   have P5:(abB == 3) = true:=beq_iff_eq.mpr c6
   have aB9:(abB != 3) = false:=bne_eq_false_iff_eq.mpr c6
   clear c6
   obtain rfl:=Option.some.inj H
   go_enter Try.func19,Try.ntmps19
   try go_wp2_with (first|((with_reducible refine aR (f:=61) rfl ?_);refine bU (some 8) rfl rfl Try.func61 aT rfl #[] rfl jQ ?_;(with_reducible refine (bg.calls k p8 qi qB qX rF sH uu qj qC oO pz pJ p9 ql qD qY _ A1.out).mono ?_);rintro e w7 ⟨aJ6,aJ7,rfl,ho0,ho1,hb⟩;refine ⟨_,rfl,?_⟩;have iE:=ag.mk (Kd.jS ho0 (gz eZ));have iF:=ag.mk (Kd.jS ho1 (gz eZ));replace HB:=cK HB hb;(try clear hb);(try clear hb2);(try clear hk);(try clear hi);(try clear ho0);(try clear ho1))|((with_reducible refine aI (N:=1) rfl ?_);refine aC (by rfl) (N:=1) (by rfl) (cs:=#[Z ab 0,Z ab 0,Z ab 0,Z ab 0,Z ab 0,Z ab 0,Z ab 0,.slice none 0 0,.slice none 0 0]) (t:=25) gu ?_;intro bM hg w8 hbox hb;have fE:=ag.mk (hbox);have aF7:=cB HB hg;have aF8:=cB HB hg;replace iE:=xV iE hb;replace iF:=xV iF hb;replace HB:=cK HB hb;clear hb hbox hg)|((with_reducible refine aI (N:=2) rfl ?_);refine aC (by rfl) (N:=2) (by rfl) (cs:=#[Z ab 0,Z ab 0,Z ab 0,Z ab 0,Z ab 0,Z ab 0,Z ab 0]) (t:=29) gu ?_;intro cO hg w9 hbox hb;have fV:=ag.mk (hbox);have aF9:=cB HB hg;have aGa:=cB HB hg;have qb:=l6 fE hg;have nG:=l9 fE hg;replace iE:=xV iE hb;replace iF:=xV iF hb;replace fE:=bJ fE hb;replace HB:=cK HB hb;clear hb hbox hg;have ac9:=qb.out;have ada:=nG.out;obtain ⟨uG,uH,zX,zY,Dw,Dx,Gf,LX,LY,uI,uJ,zZ,z8,Dy,Dz,Gg,LZ,L6⟩:=ji fE.out;obtain ⟨xY,xZ,aCa⟩:=Kd.jT iE.out;subst aCa;obtain ⟨yC,yD,aCb⟩:=Kd.jT iF.out;subst aCb;obtain ⟨Dk,Dl,Tj,Tk,av8,av9,awc,Dm,Dn,Tm,Tn,awd,awe,awf⟩:=iH fV.out))
   have Lu:ag (Kd.R Kd.bool 4 ((((((((((((((((w9.setCell ⟨bM,0,none⟩ (Z ab p8)).setCell ⟨bM,1,none⟩ (Z ab qi)).setCell ⟨bM,2,none⟩ (Z ab qB)).setCell ⟨bM,3,none⟩ (Z ab qX)).setCell ⟨bM,4,none⟩ (Z ab rF)).setCell ⟨bM,5,none⟩ (Z ab sH)).setCell ⟨bM,6,none⟩ (Z ab uu)).setCell ⟨bM,7,none⟩ (.slice xY qj.length xZ)).setCell ⟨bM,8,none⟩ (.slice yC qC.length yD)).setCell ⟨cO,0,none⟩ (Z ab oO)).setCell ⟨cO,1,none⟩ (Z ab pz)).setCell ⟨cO,2,none⟩ (Z ab pJ)).setCell ⟨cO,3,none⟩ (Z ab p9)).setCell ⟨cO,4,none⟩ (Z ab ql)).setCell ⟨cO,5,none⟩ (Z ab qD)).setCell ⟨cO,6,none⟩ (Z ab qY)) w.heap.size (fun _=>True) (.slice xY qj.length xZ) qj):=⟨by (with_reducible repeat (first|apply Kd.nU|apply Kd.nV|apply Kd.mD));exact Kd.lg (Kd.bT (p:=⟨cO,6,none⟩) (Kd.bT (p:=⟨cO,5,none⟩) (Kd.bT (p:=⟨cO,4,none⟩) (Kd.bT (p:=⟨cO,3,none⟩) (Kd.bT (p:=⟨cO,2,none⟩) (Kd.bT (p:=⟨cO,1,none⟩) (Kd.bT (p:=⟨cO,0,none⟩) (Kd.bT (p:=⟨bM,8,none⟩) (Kd.bT (p:=⟨bM,7,none⟩) (Kd.bT (p:=⟨bM,6,none⟩) (Kd.bT (p:=⟨bM,5,none⟩) (Kd.bT (p:=⟨bM,4,none⟩) (Kd.bT (p:=⟨bM,3,none⟩) (Kd.bT (p:=⟨bM,2,none⟩) (Kd.bT (p:=⟨bM,1,none⟩) (Kd.bT (p:=⟨bM,0,none⟩) (Kd.nL (Kd.nL iE.out fE.out (by decide)) fV.out (by decide)) (fun _ hk=>hk.1.2) (Z ab p8)) (fun _ hk=>hk.1.2) (Z ab qi)) (fun _ hk=>hk.1.2) (Z ab qB)) (fun _ hk=>hk.1.2) (Z ab qX)) (fun _ hk=>hk.1.2) (Z ab rF)) (fun _ hk=>hk.1.2) (Z ab sH)) (fun _ hk=>hk.1.2) (Z ab uu)) (fun _ hk=>hk.1.2) (.slice xY qj.length xZ)) (fun _ hk=>hk.1.2) (.slice yC qC.length yD)) (fun _ hk=>hk.2) (Z ab oO)) (fun _ hk=>hk.2) (Z ab pz)) (fun _ hk=>hk.2) (Z ab pJ)) (fun _ hk=>hk.2) (Z ab p9)) (fun _ hk=>hk.2) (Z ab ql)) (fun _ hk=>hk.2) (Z ab qD)) (fun _ hk=>hk.2) (Z ab qY)) (fun _ hk=>trivial)⟩
   have Lv:ag (Kd.R Cm 40 ((((((((((((((((w9.setCell ⟨bM,0,none⟩ (Z ab p8)).setCell ⟨bM,1,none⟩ (Z ab qi)).setCell ⟨bM,2,none⟩ (Z ab qB)).setCell ⟨bM,3,none⟩ (Z ab qX)).setCell ⟨bM,4,none⟩ (Z ab rF)).setCell ⟨bM,5,none⟩ (Z ab sH)).setCell ⟨bM,6,none⟩ (Z ab uu)).setCell ⟨bM,7,none⟩ (.slice xY qj.length xZ)).setCell ⟨bM,8,none⟩ (.slice yC qC.length yD)).setCell ⟨cO,0,none⟩ (Z ab oO)).setCell ⟨cO,1,none⟩ (Z ab pz)).setCell ⟨cO,2,none⟩ (Z ab pJ)).setCell ⟨cO,3,none⟩ (Z ab p9)).setCell ⟨cO,4,none⟩ (Z ab ql)).setCell ⟨cO,5,none⟩ (Z ab qD)).setCell ⟨cO,6,none⟩ (Z ab qY)) w.heap.size (fun _=>True) (.slice yC qC.length yD) qC):=⟨by (with_reducible repeat (first|apply Kd.nU|apply Kd.nV|apply Kd.mD));exact Kd.lg (Kd.bT (p:=⟨cO,6,none⟩) (Kd.bT (p:=⟨cO,5,none⟩) (Kd.bT (p:=⟨cO,4,none⟩) (Kd.bT (p:=⟨cO,3,none⟩) (Kd.bT (p:=⟨cO,2,none⟩) (Kd.bT (p:=⟨cO,1,none⟩) (Kd.bT (p:=⟨cO,0,none⟩) (Kd.bT (p:=⟨bM,8,none⟩) (Kd.bT (p:=⟨bM,7,none⟩) (Kd.bT (p:=⟨bM,6,none⟩) (Kd.bT (p:=⟨bM,5,none⟩) (Kd.bT (p:=⟨bM,4,none⟩) (Kd.bT (p:=⟨bM,3,none⟩) (Kd.bT (p:=⟨bM,2,none⟩) (Kd.bT (p:=⟨bM,1,none⟩) (Kd.bT (p:=⟨bM,0,none⟩) (Kd.nL (Kd.nL iF.out fE.out (by decide)) fV.out (by decide)) (fun _ hk=>hk.1.2) (Z ab p8)) (fun _ hk=>hk.1.2) (Z ab qi)) (fun _ hk=>hk.1.2) (Z ab qB)) (fun _ hk=>hk.1.2) (Z ab qX)) (fun _ hk=>hk.1.2) (Z ab rF)) (fun _ hk=>hk.1.2) (Z ab sH)) (fun _ hk=>hk.1.2) (Z ab uu)) (fun _ hk=>hk.1.2) (.slice xY qj.length xZ)) (fun _ hk=>hk.1.2) (.slice yC qC.length yD)) (fun _ hk=>hk.2) (Z ab oO)) (fun _ hk=>hk.2) (Z ab pz)) (fun _ hk=>hk.2) (Z ab pJ)) (fun _ hk=>hk.2) (Z ab p9)) (fun _ hk=>hk.2) (Z ab ql)) (fun _ hk=>hk.2) (Z ab qD)) (fun _ hk=>hk.2) (Z ab qY)) (fun _ hk=>trivial)⟩
   have Lx:ag (((((((((((((((((w9.setCell ⟨bM,0,none⟩ (Z ab p8)).setCell ⟨bM,1,none⟩ (Z ab qi)).setCell ⟨bM,2,none⟩ (Z ab qB)).setCell ⟨bM,3,none⟩ (Z ab qX)).setCell ⟨bM,4,none⟩ (Z ab rF)).setCell ⟨bM,5,none⟩ (Z ab sH)).setCell ⟨bM,6,none⟩ (Z ab uu)).setCell ⟨bM,7,none⟩ (.slice xY qj.length xZ)).setCell ⟨bM,8,none⟩ (.slice yC qC.length yD)).setCell ⟨cO,0,none⟩ (Z ab oO)).setCell ⟨cO,1,none⟩ (Z ab pz)).setCell ⟨cO,2,none⟩ (Z ab pJ)).setCell ⟨cO,3,none⟩ (Z ab p9)).setCell ⟨cO,4,none⟩ (Z ab ql)).setCell ⟨cO,5,none⟩ (Z ab qD)).setCell ⟨cO,6,none⟩ (Z ab qY)).heap[bM]? = some (.cells #[Z ab p8,Z ab qi,Z ab qB,Z ab qX,Z ab rF,Z ab sH,Z ab uu,.slice xY qj.length xZ,.slice yC qC.length yD] 25 (0,0))):=⟨by (with_reducible repeat (first|refine aA ?_ _|refine au ?_|refine aa ?_ _));refine ah ?_ qb.out _;(with_reducible repeat (first|refine aA ?_ _|refine au ?_|refine aa ?_ _));refine ah ?_ qb.out _;(with_reducible repeat (first|refine aA ?_ _|refine au ?_|refine aa ?_ _));refine ah ?_ qb.out _;(with_reducible repeat (first|refine aA ?_ _|refine au ?_|refine aa ?_ _));refine ah ?_ qb.out _;(with_reducible repeat (first|refine aA ?_ _|refine au ?_|refine aa ?_ _));refine ah ?_ qb.out _;(with_reducible repeat (first|refine aA ?_ _|refine au ?_|refine aa ?_ _));refine ah ?_ qb.out _;(with_reducible repeat (first|refine aA ?_ _|refine au ?_|refine aa ?_ _));refine ah ?_ qb.out _;(with_reducible repeat (first|refine aA ?_ _|refine au ?_|refine aa ?_ _));refine az (cs:=#[Z ab p8,Z ab qi,Z ab qB,Z ab qX,Z ab rF,Z ab sH,Z ab uu,.slice xY qj.length xZ,.slice none 0 0]) ?_ 8 _ rfl;(with_reducible repeat (first|refine aA ?_ _|refine au ?_|refine aa ?_ _));refine az (cs:=#[Z ab p8,Z ab qi,Z ab qB,Z ab qX,Z ab rF,Z ab sH,Z ab uu,.slice none 0 0,.slice none 0 0]) ?_ 7 _ rfl;(with_reducible repeat (first|refine aA ?_ _|refine au ?_|refine aa ?_ _));refine az (cs:=#[Z ab p8,Z ab qi,Z ab qB,Z ab qX,Z ab rF,Z ab sH,Z ab 0,.slice none 0 0,.slice none 0 0]) ?_ 6 _ rfl;(with_reducible repeat (first|refine aA ?_ _|refine au ?_|refine aa ?_ _));refine az (cs:=#[Z ab p8,Z ab qi,Z ab qB,Z ab qX,Z ab rF,Z ab 0,Z ab 0,.slice none 0 0,.slice none 0 0]) ?_ 5 _ rfl;(with_reducible repeat (first|refine aA ?_ _|refine au ?_|refine aa ?_ _));refine az (cs:=#[Z ab p8,Z ab qi,Z ab qB,Z ab qX,Z ab 0,Z ab 0,Z ab 0,.slice none 0 0,.slice none 0 0]) ?_ 4 _ rfl;(with_reducible repeat (first|refine aA ?_ _|refine au ?_|refine aa ?_ _));refine az (cs:=#[Z ab p8,Z ab qi,Z ab qB,Z ab 0,Z ab 0,Z ab 0,Z ab 0,.slice none 0 0,.slice none 0 0]) ?_ 3 _ rfl;(with_reducible repeat (first|refine aA ?_ _|refine au ?_|refine aa ?_ _));refine az (cs:=#[Z ab p8,Z ab qi,Z ab 0,Z ab 0,Z ab 0,Z ab 0,Z ab 0,.slice none 0 0,.slice none 0 0]) ?_ 2 _ rfl;(with_reducible repeat (first|refine aA ?_ _|refine au ?_|refine aa ?_ _));refine az (cs:=#[Z ab p8,Z ab 0,Z ab 0,Z ab 0,Z ab 0,Z ab 0,Z ab 0,.slice none 0 0,.slice none 0 0]) ?_ 1 _ rfl;(with_reducible repeat (first|refine aA ?_ _|refine au ?_|refine aa ?_ _));refine az (cs:=#[Z ab 0,Z ab 0,Z ab 0,Z ab 0,Z ab 0,Z ab 0,Z ab 0,.slice none 0 0,.slice none 0 0]) ?_ 0 _ rfl;(with_reducible repeat (first|refine aA ?_ _|refine au ?_|refine aa ?_ _));exact fE.out⟩
   have LA:ag (((((((((((((((((w9.setCell ⟨bM,0,none⟩ (Z ab p8)).setCell ⟨bM,1,none⟩ (Z ab qi)).setCell ⟨bM,2,none⟩ (Z ab qB)).setCell ⟨bM,3,none⟩ (Z ab qX)).setCell ⟨bM,4,none⟩ (Z ab rF)).setCell ⟨bM,5,none⟩ (Z ab sH)).setCell ⟨bM,6,none⟩ (Z ab uu)).setCell ⟨bM,7,none⟩ (.slice xY qj.length xZ)).setCell ⟨bM,8,none⟩ (.slice yC qC.length yD)).setCell ⟨cO,0,none⟩ (Z ab oO)).setCell ⟨cO,1,none⟩ (Z ab pz)).setCell ⟨cO,2,none⟩ (Z ab pJ)).setCell ⟨cO,3,none⟩ (Z ab p9)).setCell ⟨cO,4,none⟩ (Z ab ql)).setCell ⟨cO,5,none⟩ (Z ab qD)).setCell ⟨cO,6,none⟩ (Z ab qY)).heap[cO]? = some (.cells #[Z ab oO,Z ab pz,Z ab pJ,Z ab p9,Z ab ql,Z ab qD,Z ab qY] 29 (0,0))):=⟨by (with_reducible repeat (first|refine aA ?_ _|refine au ?_|refine aa ?_ _));refine az (cs:=#[Z ab oO,Z ab pz,Z ab pJ,Z ab p9,Z ab ql,Z ab qD,Z ab 0]) ?_ 6 _ rfl;(with_reducible repeat (first|refine aA ?_ _|refine au ?_|refine aa ?_ _));refine az (cs:=#[Z ab oO,Z ab pz,Z ab pJ,Z ab p9,Z ab ql,Z ab 0,Z ab 0]) ?_ 5 _ rfl;(with_reducible repeat (first|refine aA ?_ _|refine au ?_|refine aa ?_ _));refine az (cs:=#[Z ab oO,Z ab pz,Z ab pJ,Z ab p9,Z ab 0,Z ab 0,Z ab 0]) ?_ 4 _ rfl;(with_reducible repeat (first|refine aA ?_ _|refine au ?_|refine aa ?_ _));refine az (cs:=#[Z ab oO,Z ab pz,Z ab pJ,Z ab 0,Z ab 0,Z ab 0,Z ab 0]) ?_ 3 _ rfl;(with_reducible repeat (first|refine aA ?_ _|refine au ?_|refine aa ?_ _));refine az (cs:=#[Z ab oO,Z ab pz,Z ab 0,Z ab 0,Z ab 0,Z ab 0,Z ab 0]) ?_ 2 _ rfl;(with_reducible repeat (first|refine aA ?_ _|refine au ?_|refine aa ?_ _));refine az (cs:=#[Z ab oO,Z ab 0,Z ab 0,Z ab 0,Z ab 0,Z ab 0,Z ab 0]) ?_ 1 _ rfl;(with_reducible repeat (first|refine aA ?_ _|refine au ?_|refine aa ?_ _));refine az (cs:=#[Z ab 0,Z ab 0,Z ab 0,Z ab 0,Z ab 0,Z ab 0,Z ab 0]) ?_ 0 _ rfl;(with_reducible repeat (first|refine aA ?_ _|refine au ?_|refine aa ?_ _));refine ah ?_ nG.out _;(with_reducible repeat (first|refine aA ?_ _|refine au ?_|refine aa ?_ _));refine ah ?_ nG.out _;(with_reducible repeat (first|refine aA ?_ _|refine au ?_|refine aa ?_ _));refine ah ?_ nG.out _;(with_reducible repeat (first|refine aA ?_ _|refine au ?_|refine aa ?_ _));refine ah ?_ nG.out _;(with_reducible repeat (first|refine aA ?_ _|refine au ?_|refine aa ?_ _));refine ah ?_ nG.out _;(with_reducible repeat (first|refine aA ?_ _|refine au ?_|refine aa ?_ _));refine ah ?_ nG.out _;(with_reducible repeat (first|refine aA ?_ _|refine au ?_|refine aa ?_ _));refine ah ?_ nG.out _;(with_reducible repeat (first|refine aA ?_ _|refine au ?_|refine aa ?_ _));refine ah ?_ nG.out _;(with_reducible repeat (first|refine aA ?_ _|refine au ?_|refine aa ?_ _));refine ah ?_ nG.out _;(with_reducible repeat (first|refine aA ?_ _|refine au ?_|refine aa ?_ _));exact fV.out⟩
   have n4_:ag (Below w.heap.size w ((((((((((((((((w9.setCell ⟨bM,0,none⟩ (Z ab p8)).setCell ⟨bM,1,none⟩ (Z ab qi)).setCell ⟨bM,2,none⟩ (Z ab qB)).setCell ⟨bM,3,none⟩ (Z ab qX)).setCell ⟨bM,4,none⟩ (Z ab rF)).setCell ⟨bM,5,none⟩ (Z ab sH)).setCell ⟨bM,6,none⟩ (Z ab uu)).setCell ⟨bM,7,none⟩ (.slice xY qj.length xZ)).setCell ⟨bM,8,none⟩ (.slice yC qC.length yD)).setCell ⟨cO,0,none⟩ (Z ab oO)).setCell ⟨cO,1,none⟩ (Z ab pz)).setCell ⟨cO,2,none⟩ (Z ab pJ)).setCell ⟨cO,3,none⟩ (Z ab p9)).setCell ⟨cO,4,none⟩ (Z ab ql)).setCell ⟨cO,5,none⟩ (Z ab qD)).setCell ⟨cO,6,none⟩ (Z ab qY))):=⟨eZ⟩
   (try clear iE)
   (try clear iF)
   (try clear fE)
   (try clear fV)
   (try clear HB)
   generalize ((((((((((((((((w9.setCell ⟨bM,0,none⟩ (Z ab p8)).setCell ⟨bM,1,none⟩ (Z ab qi)).setCell ⟨bM,2,none⟩ (Z ab qB)).setCell ⟨bM,3,none⟩ (Z ab qX)).setCell ⟨bM,4,none⟩ (Z ab rF)).setCell ⟨bM,5,none⟩ (Z ab sH)).setCell ⟨bM,6,none⟩ (Z ab uu)).setCell ⟨bM,7,none⟩ (.slice xY qj.length xZ)).setCell ⟨bM,8,none⟩ (.slice yC qC.length yD)).setCell ⟨cO,0,none⟩ (Z ab oO)).setCell ⟨cO,1,none⟩ (Z ab pz)).setCell ⟨cO,2,none⟩ (Z ab pJ)).setCell ⟨cO,3,none⟩ (Z ab p9)).setCell ⟨cO,4,none⟩ (Z ab ql)).setCell ⟨cO,5,none⟩ (Z ab qD)).setCell ⟨cO,6,none⟩ (Z ab qY)) = w15 at Lu Lv Lx LA n4_ ⊢
   have iE:=Lu
   have iF:=Lv
   have fE:=Lx
   have fV:=LA
   have HB:=n4_
   clear Lu Lv Lx LA n4_
   replace iE:=ag.mk (Kd.mD iE.out)
   replace iF:=ag.mk (Kd.mD iF.out)
   replace fE:=ag.mk (au fE.out)
   replace fV:=ag.mk (au fV.out)
   replace HB:=ag.mk (bf HB.out)
   refine lh (n:=11) (S:=fun w'=>w'.cell? ⟨bM,0,none⟩ = some (Z ab p8)∧w'.cell? ⟨bM,1,none⟩ = some (Z ab qi)∧w'.cell? ⟨bM,2,none⟩ = some (Z ab qB)∧w'.cell? ⟨bM,3,none⟩ = some (Z ab qX)∧w'.cell? ⟨bM,4,none⟩ = some (Z ab rF)∧w'.cell? ⟨bM,5,none⟩ = some (Z ab sH)∧w'.cell? ⟨bM,6,none⟩ = some (Z ab uu)∧w'.cell? ⟨bM,7,none⟩ = some (.slice xY qj.length xZ)∧w'.cell? ⟨bM,8,none⟩ = some (.slice yC qC.length yD)∧w'.cell? ⟨cO,0,none⟩ = some (Z ab oO)∧w'.cell? ⟨cO,1,none⟩ = some (Z ab pz)∧w'.cell? ⟨cO,2,none⟩ = some (Z ab pJ)∧w'.cell? ⟨cO,3,none⟩ = some (Z ab p9)∧w'.cell? ⟨cO,4,none⟩ = some (Z ab ql)∧w'.cell? ⟨cO,5,none⟩ = some (Z ab qD)∧w'.cell? ⟨cO,6,none⟩ = some (Z ab qY)) (ds:=[]) #[al,al,al,al,al,al,al,al,al,al,al] aT rfl rfl (Cr fE.out (vg fV.out)) (fun hHeld=>?_);refine rD aU.apm aU.ahi (fun eH zV=>?_)
   generalize w15.drew = w16 at iE iF fE fV HB hHeld ⊢
   refine dG (i:=3) (N:=some 15) (bC eH.out aT) ?_
   refine iy (i:=0) (N:=some 12) (dL eH.out zV.out aT) hHeld ?_
   refine iy (i:=1) (N:=some 13) (dL eH.out zV.out aT) hHeld ?_
   refine agY (σ:=Nat) 2 #[ac,ac,ac,ac,ac,ac,ac,ac,ac,al,al] (fun s_=>[(14,.agg #[Z ab RJ,Z ab RL,Z ab RN,Z ab RO]),(16,.tuple #[.agg #[Z ab Gd,Z ab J4,Z ab Lt,Z ab Qa],Z ab J5]),(3,.pointer (some ⟨s_,0,none⟩)),(11,.tuple #[.agg #[Z ab Gd,Z ab J4,Z ab Lt,Z ab Qa],Z ab J5]),(17,.agg #[Z ab Gd,Z ab J4,Z ab Lt,Z ab Qa]),(18,Z ab J5)]) (fun s_ w'=>(w'.cell? ⟨bM,0,none⟩ = some (Z ab p8)∧w'.cell? ⟨bM,1,none⟩ = some (Z ab qi)∧w'.cell? ⟨bM,2,none⟩ = some (Z ab qB)∧w'.cell? ⟨bM,3,none⟩ = some (Z ab qX)∧w'.cell? ⟨bM,4,none⟩ = some (Z ab rF)∧w'.cell? ⟨bM,5,none⟩ = some (Z ab sH)∧w'.cell? ⟨bM,6,none⟩ = some (Z ab uu)∧w'.cell? ⟨bM,7,none⟩ = some (.slice xY qj.length xZ)∧w'.cell? ⟨bM,8,none⟩ = some (.slice yC qC.length yD)∧w'.cell? ⟨cO,0,none⟩ = some (Z ab oO)∧w'.cell? ⟨cO,1,none⟩ = some (Z ab pz)∧w'.cell? ⟨cO,2,none⟩ = some (Z ab pJ)∧w'.cell? ⟨cO,3,none⟩ = some (Z ab p9)∧w'.cell? ⟨cO,4,none⟩ = some (Z ab ql)∧w'.cell? ⟨cO,5,none⟩ = some (Z ab qD)∧w'.cell? ⟨cO,6,none⟩ = some (Z ab qY))∧(Kd.R Kd.bool 4 w' w.heap.size (fun _=>True) (.slice xY qj.length xZ) qj)∧(Kd.R Cm 40 w' w.heap.size (fun _=>True) (.slice yC qC.length yD) qC)∧(w'.heap[bM]? = some (.cells #[Z ab p8,Z ab qi,Z ab qB,Z ab qX,Z ab rF,Z ab sH,Z ab uu,.slice xY qj.length xZ,.slice yC qC.length yD] 25 (0,0)))∧(w'.heap[cO]? = some (.cells #[Z ab oO,Z ab pz,Z ab pJ,Z ab p9,Z ab ql,Z ab qD,Z ab qY] 29 (0,0)))∧(w'.heap[s_]? = some (.cells #[Z ab 0,Z ab 0,Z ab 0,Z ab 0] 31 (0,0)))∧(w.heap.size≤s_)∧(w.heap.size≤s_)∧(bM≠s_)∧(s_≠bM)∧(cO≠s_)∧(s_≠cO)∧(Below w.heap.size w w')) ?_ ?_
   rotate_left
   ·intro hCont
    refine akH (i:=2) (j:=8) (Ni:=some 14) (Nj:=some 3) #[ac,ac,ac,ac,al,al,al,al,al,al,al] #[ac,ac,al,ac,al,al,al,al,ac,al,al] rfl rfl rfl rfl (ahk eH.out aT) (by decide) (by decide) (fun K hK=>?_) (fun K hK=>?_)
    ·skip
     refine jm Try.func62 aT rfl #[Z ab 2000,Z ab 2000] (by rfl) rfl rfl jQ ?_
     with_reducible refine (gZ.calls 2000 2000 RJ RL RN RO _ A2.out).mono ?_
     rintro e w17 ⟨rfl,hb⟩
     refine ⟨_,rfl,?_⟩
     replace iE:=xV iE hb
     replace iF:=xV iF hb
     replace fE:=bJ fE hb
     replace fV:=bJ fV hb
     replace HB:=cK HB hb
     (try clear hb)
     (try clear hb2)
     (try clear hk)
     (try clear hi)
     refine hK.out _ _ (Cr fE.out (vg fV.out)) (fun hHeld=>?_)
     clear hK K
     refine dY apo ?_
     refine akH (i:=4) (j:=8) (Ni:=some 16) (Nj:=some 3) #[ac,ac,ac,ac,ac,al,al,al,al,al,al] #[ac,ac,ac,ac,al,al,al,al,ac,al,al] rfl rfl rfl rfl (ahk eH.out aT) (by decide) (by decide) (fun K hK=>?_) (fun K hK=>?_)
     ·skip
      refine jm Try.func20 aT rfl #[.agg #[Z ab p8,Z ab qi,Z ab qB,Z ab qX,Z ab rF,Z ab sH,Z ab uu,.slice xY qj.length xZ,.slice yC qC.length yD],.agg #[Z ab oO,Z ab pz,Z ab pJ,Z ab p9,Z ab ql,Z ab qD,Z ab qY],.agg #[Z ab RJ,Z ab RL,Z ab RN,Z ab RO],Z ab 0,.agg #[Z ab 2,Z ab 0]] (by rfl) rfl rfl jQ ?_
      with_reducible refine (jX.calls p8 qi qB qX rF sH uu _ _ qj _ _ qC oO pz pJ p9 ql qD qY RJ RL RN RO 0 2 0 Gd J4 Lt Qa J5 _ ?dP ?dQ ?fF ?fG A3.out).mono ?_
      (case dP=>repeat (first|exact (Kd.dO iE.out).2.2|(with_reducible refine Kd.bR ?_ _)|(with_reducible refine Kd.bS ?_ _)|(with_reducible refine Kd.dA ?_)))
      (case dQ=>exact (Kd.dO iE.out).2.1)
      (case fF=>repeat (first|exact (Kd.dO iF.out).2.2|(with_reducible refine Kd.bR ?_ _)|(with_reducible refine Kd.bS ?_ _)|(with_reducible refine Kd.dA ?_)))
      (case fG=>exact (Kd.dO iF.out).2.1)
      rintro e w18 ⟨rfl,hb⟩
      refine ⟨_,rfl,?_⟩
      replace iE:=xV iE hb
      replace iF:=xV iF hb
      replace fE:=bJ fE hb
      replace fV:=bJ fV hb
      replace HB:=cK HB hb
      (try clear hb)
      (try clear hb2)
      (try clear hk)
      (try clear hi)
      refine hK.out _ _ (Cr fE.out (vg fV.out)) (fun hHeld=>?_)
      clear hK K
      refine dY afP ?_
      refine dG (i:=5) (N:=some 11) (bC eH.out aT) ?_
      refine dG (i:=6) (N:=some 17) (bC eH.out aT) ?_
      refine dG (i:=7) (N:=some 18) (bC eH.out aT) ?_
      refine jC (i:=8) (N:=some 3) #[ac,ac,ac,ac,ac,ac,ac,ac,ac,al,al] rfl rfl (mI eH.out aT) (by decide) (fun K hK=>?_)
      refine Px ?hg (N:=3) ?hd (cs:=#[Z ab 0,Z ab 0,Z ab 0,Z ab 0]) (t:=31) ?hr ?_;(case hd=>rfl);(case hg=>rfl);(case hr=>first|(go_simp;done)|(go_simp;rfl))
      intro mh hg w19 hbox hb
      have oC:=ag.mk (hbox)
      have Sl:=cB HB hg
      have Sn:=cB HB hg
      have bI:=l6 fE hg
      have lF:=l9 fE hg
      have bW:=l6 fV hg
      have lG:=l9 fV hg
      replace iE:=xV iE hb
      replace iF:=xV iF hb
      replace fE:=bJ fE hb
      replace fV:=bJ fV hb
      replace HB:=cK HB hb
      clear hb hbox hg
      refine hK.out _ _ (Cr fE.out (vg fV.out)) (fun hHeld=>?_)
      clear hK K
      refine dY apq ?_
      exact dY apr (hCont (mh) _ ⟨hHeld,aps,apt,iU,iU,iU,Sl.out,Sn.out,bI.out,lF.out,bW.out,lG.out,eZ⟩)
     ·skip
      refine Px ?hg (N:=3) ?hd (cs:=#[Z ab 0,Z ab 0,Z ab 0,Z ab 0]) (t:=31) ?hr ?_;(case hd=>rfl);(case hg=>rfl);(case hr=>first|(go_simp;done)|(go_simp;rfl))
      intro mh hg w18 hbox hb
      have oC:=ag.mk (hbox)
      have Sl:=cB HB hg
      have Sn:=cB HB hg
      have bI:=l6 fE hg
      have lF:=l9 fE hg
      have bW:=l6 fV hg
      have lG:=l9 fV hg
      replace iE:=xV iE hb
      replace iF:=xV iF hb
      replace fE:=bJ fE hb
      replace fV:=bJ fV hb
      replace HB:=cK HB hb
      clear hb hbox hg
      refine hK.out _ _ (Cr fE.out (vg fV.out)) (fun hHeld=>?_)
      clear hK K
      refine dY apq ?_
      refine jC (i:=4) (N:=some 16) #[ac,ac,ac,ac,ac,al,al,al,ac,al,al] rfl rfl (mI eH.out aT) (by decide) (fun K hK=>?_)
      refine jm Try.func20 aT rfl #[.agg #[Z ab p8,Z ab qi,Z ab qB,Z ab qX,Z ab rF,Z ab sH,Z ab uu,.slice xY qj.length xZ,.slice yC qC.length yD],.agg #[Z ab oO,Z ab pz,Z ab pJ,Z ab p9,Z ab ql,Z ab qD,Z ab qY],.agg #[Z ab RJ,Z ab RL,Z ab RN,Z ab RO],Z ab 0,.agg #[Z ab 2,Z ab 0]] (by rfl) rfl rfl jQ ?_
      with_reducible refine (jX.calls p8 qi qB qX rF sH uu _ _ qj _ _ qC oO pz pJ p9 ql qD qY RJ RL RN RO 0 2 0 Gd J4 Lt Qa J5 _ ?dP ?dQ ?fF ?fG A3.out).mono ?_
      (case dP=>repeat (first|exact (Kd.dO iE.out).2.2|(with_reducible refine Kd.bR ?_ _)|(with_reducible refine Kd.bS ?_ _)|(with_reducible refine Kd.dA ?_)))
      (case dQ=>exact (Kd.dO iE.out).2.1)
      (case fF=>repeat (first|exact (Kd.dO iF.out).2.2|(with_reducible refine Kd.bR ?_ _)|(with_reducible refine Kd.bS ?_ _)|(with_reducible refine Kd.dA ?_)))
      (case fG=>exact (Kd.dO iF.out).2.1)
      rintro e w19 ⟨rfl,hb⟩
      refine ⟨_,rfl,?_⟩
      replace iE:=xV iE hb
      replace iF:=xV iF hb
      replace fE:=bJ fE hb
      replace fV:=bJ fV hb
      replace oC:=bJ oC hb
      replace HB:=cK HB hb
      (try clear hb)
      (try clear hb2)
      (try clear hk)
      (try clear hi)
      refine hK.out _ _ (Cr fE.out (vg fV.out)) (fun hHeld=>?_)
      clear hK K
      refine dY afP ?_
      refine dG (i:=5) (N:=some 11) (bC eH.out aT) ?_
      refine dG (i:=6) (N:=some 17) (bC eH.out aT) ?_
      refine dG (i:=7) (N:=some 18) (bC eH.out aT) ?_
      exact dY apr (hCont (mh) _ ⟨hHeld,aps,apt,iU,iU,iU,Sl.out,Sn.out,bI.out,lF.out,bW.out,lG.out,eZ⟩)
    ·skip
     refine Px ?hg (N:=3) ?hd (cs:=#[Z ab 0,Z ab 0,Z ab 0,Z ab 0]) (t:=31) ?hr ?_;(case hd=>rfl);(case hg=>rfl);(case hr=>first|(go_simp;done)|(go_simp;rfl))
     intro mh hg w17 hbox hb
     have oC:=ag.mk (hbox)
     have Sl:=cB HB hg
     have Sn:=cB HB hg
     have bI:=l6 fE hg
     have lF:=l9 fE hg
     have bW:=l6 fV hg
     have lG:=l9 fV hg
     replace iE:=xV iE hb
     replace iF:=xV iF hb
     replace fE:=bJ fE hb
     replace fV:=bJ fV hb
     replace HB:=cK HB hb
     clear hb hbox hg
     refine hK.out _ _ (Cr fE.out (vg fV.out)) (fun hHeld=>?_)
     clear hK K
     refine dY apq ?_
     refine jC (i:=2) (N:=some 14) #[ac,ac,ac,ac,al,al,al,al,ac,al,al] rfl rfl (mI eH.out aT) (by decide) (fun K hK=>?_)
     refine jm Try.func62 aT rfl #[Z ab 2000,Z ab 2000] (by rfl) rfl rfl jQ ?_
     with_reducible refine (gZ.calls 2000 2000 RJ RL RN RO _ A2.out).mono ?_
     rintro e w18 ⟨rfl,hb⟩
     refine ⟨_,rfl,?_⟩
     replace iE:=xV iE hb
     replace iF:=xV iF hb
     replace fE:=bJ fE hb
     replace fV:=bJ fV hb
     replace oC:=bJ oC hb
     replace HB:=cK HB hb
     (try clear hb)
     (try clear hb2)
     (try clear hk)
     (try clear hi)
     refine hK.out _ _ (Cr fE.out (vg fV.out)) (fun hHeld=>?_)
     clear hK K
     refine dY apo ?_
     refine jC (i:=4) (N:=some 16) #[ac,ac,ac,ac,ac,al,al,al,ac,al,al] rfl rfl (mI eH.out aT) (by decide) (fun K hK=>?_)
     refine jm Try.func20 aT rfl #[.agg #[Z ab p8,Z ab qi,Z ab qB,Z ab qX,Z ab rF,Z ab sH,Z ab uu,.slice xY qj.length xZ,.slice yC qC.length yD],.agg #[Z ab oO,Z ab pz,Z ab pJ,Z ab p9,Z ab ql,Z ab qD,Z ab qY],.agg #[Z ab RJ,Z ab RL,Z ab RN,Z ab RO],Z ab 0,.agg #[Z ab 2,Z ab 0]] (by rfl) rfl rfl jQ ?_
     with_reducible refine (jX.calls p8 qi qB qX rF sH uu _ _ qj _ _ qC oO pz pJ p9 ql qD qY RJ RL RN RO 0 2 0 Gd J4 Lt Qa J5 _ ?dP ?dQ ?fF ?fG A3.out).mono ?_
     (case dP=>repeat (first|exact (Kd.dO iE.out).2.2|(with_reducible refine Kd.bR ?_ _)|(with_reducible refine Kd.bS ?_ _)|(with_reducible refine Kd.dA ?_)))
     (case dQ=>exact (Kd.dO iE.out).2.1)
     (case fF=>repeat (first|exact (Kd.dO iF.out).2.2|(with_reducible refine Kd.bR ?_ _)|(with_reducible refine Kd.bS ?_ _)|(with_reducible refine Kd.dA ?_)))
     (case fG=>exact (Kd.dO iF.out).2.1)
     rintro e w19 ⟨rfl,hb⟩
     refine ⟨_,rfl,?_⟩
     replace iE:=xV iE hb
     replace iF:=xV iF hb
     replace fE:=bJ fE hb
     replace fV:=bJ fV hb
     replace oC:=bJ oC hb
     replace HB:=cK HB hb
     (try clear hb)
     (try clear hb2)
     (try clear hk)
     (try clear hi)
     refine hK.out _ _ (Cr fE.out (vg fV.out)) (fun hHeld=>?_)
     clear hK K
     refine dY afP ?_
     refine dG (i:=5) (N:=some 11) (bC eH.out aT) ?_
     refine dG (i:=6) (N:=some 17) (bC eH.out aT) ?_
     refine dG (i:=7) (N:=some 18) (bC eH.out aT) ?_
     exact dY apr (hCont (mh) _ ⟨hHeld,aps,apt,iU,iU,iU,Sl.out,Sn.out,bI.out,lF.out,bW.out,lG.out,eZ⟩)
   rintro mh Fa ⟨hS_,h0_,h1_,h2_,h3_,h4_,h5_,h6_,h7_,h8_,h9_,arq,ars⟩
   have Lu:ag (Kd.R Kd.bool 4 Fa w.heap.size (fun _=>True) (.slice xY qj.length xZ) qj):=⟨h0_⟩
   have Lv:ag (Kd.R Cm 40 Fa w.heap.size (fun _=>True) (.slice yC qC.length yD) qC):=⟨h1_⟩
   have Lx:ag (Fa.heap[bM]? = some (.cells #[Z ab p8,Z ab qi,Z ab qB,Z ab qX,Z ab rF,Z ab sH,Z ab uu,.slice xY qj.length xZ,.slice yC qC.length yD] 25 (0,0))):=⟨h2_⟩
   have LA:ag (Fa.heap[cO]? = some (.cells #[Z ab oO,Z ab pz,Z ab pJ,Z ab p9,Z ab ql,Z ab qD,Z ab qY] 29 (0,0))):=⟨h3_⟩
   have n4_:ag (Fa.heap[mh]? = some (.cells #[Z ab 0,Z ab 0,Z ab 0,Z ab 0] 31 (0,0))):=⟨h4_⟩
   have n5_:ag (w.heap.size≤mh):=⟨h5_⟩
   have n6_:ag (w.heap.size≤mh):=⟨h6_⟩
   have n7_:ag (bM≠mh):=⟨h7_⟩
   have n8_:ag (mh≠bM):=⟨h8_⟩
   have n9_:ag (cO≠mh):=⟨h9_⟩
   have art:ag (mh≠cO):=⟨arq⟩
   have aru:ag (Below w.heap.size w Fa):=⟨ars⟩
   clear iE iF fE fV HB
   clear h0_ h1_ h2_ h3_ h4_ h5_ h6_ h7_ h8_ h9_ arq ars
   have iE:=Lu
   have iF:=Lv
   have fE:=Lx
   have fV:=LA
   have oC:=n4_
   have Sl:=n5_
   have Sn:=n6_
   have bI:=n7_
   have lF:=n8_
   have bW:=n9_
   have lG:=art
   have HB:=aru
   clear Lu Lv Lx LA n4_ n5_ n6_ n7_ n8_ n9_ art aru
   have hHeld:Fa.cell? ⟨bM,0,none⟩ = some (Z ab p8)∧Fa.cell? ⟨bM,1,none⟩ = some (Z ab qi)∧Fa.cell? ⟨bM,2,none⟩ = some (Z ab qB)∧Fa.cell? ⟨bM,3,none⟩ = some (Z ab qX)∧Fa.cell? ⟨bM,4,none⟩ = some (Z ab rF)∧Fa.cell? ⟨bM,5,none⟩ = some (Z ab sH)∧Fa.cell? ⟨bM,6,none⟩ = some (Z ab uu)∧Fa.cell? ⟨bM,7,none⟩ = some (.slice xY qj.length xZ)∧Fa.cell? ⟨bM,8,none⟩ = some (.slice yC qC.length yD)∧Fa.cell? ⟨cO,0,none⟩ = some (Z ab oO)∧Fa.cell? ⟨cO,1,none⟩ = some (Z ab pz)∧Fa.cell? ⟨cO,2,none⟩ = some (Z ab pJ)∧Fa.cell? ⟨cO,3,none⟩ = some (Z ab p9)∧Fa.cell? ⟨cO,4,none⟩ = some (Z ab ql)∧Fa.cell? ⟨cO,5,none⟩ = some (Z ab qD)∧Fa.cell? ⟨cO,6,none⟩ = some (Z ab qY):=hS_
   refine dY (a':=?_) ?_ ?_
   rotate_left
   ·simp only [zO,Act.put,List.setIfInBounds_toArray,List.set_cons_zero,List.set_cons_succ]
    rfl
   refine jC (i:=9) (N:=none) #[ac,ac,ac,ac,ac,ac,ac,ac,ac,ac,al] rfl rfl (mI eH.out aT) (by decide) (fun K hK=>?_)
   have aCc:Fa.cell? ⟨mh,0,none⟩ = some (Z ab 0):=(ae oC.out 0).trans rfl
   have arv:=aK oC.out 0
   have akR:=bI.out
   have akS:=bW.out
   have akT:=lF.out
   have akU:=lG.out
   have aJ9:Fa.cell? ⟨mh,1,none⟩ = some (Z ab 0):=(ae oC.out 1).trans rfl
   have aGo:=aK oC.out 1
   have awg:=bI.out
   have awh:=bW.out
   have awi:=lF.out
   have awj:=lG.out
   have aKa:Fa.cell? ⟨mh,2,none⟩ = some (Z ab 0):=(ae oC.out 2).trans rfl
   have aGp:=aK oC.out 2
   have awk:=bI.out
   have awl:=bW.out
   have awm:=lF.out
   have awn:=lG.out
   have aKb:Fa.cell? ⟨mh,3,none⟩ = some (Z ab 0):=(ae oC.out 3).trans rfl
   have aGq:=aK oC.out 3
   have awo:=bI.out
   have awp:=bW.out
   have awq:=lF.out
   have awr:=lG.out
   refine qp (w1:=?_) (by rfl) rfl ?_ ?_
   rotate_left
   ·go_simp
    rfl
   refine hK.out _ _ ⟨(o7 bI ((o7 bI ((o7 bI ((o7 bI (hHeld.1)))))))),(o7 bI ((o7 bI ((o7 bI ((o7 bI (hHeld.2.1)))))))),(o7 bI ((o7 bI ((o7 bI ((o7 bI (hHeld.2.2.1)))))))),(o7 bI ((o7 bI ((o7 bI ((o7 bI (hHeld.2.2.2.1)))))))),(o7 bI ((o7 bI ((o7 bI ((o7 bI (hHeld.2.2.2.2.1)))))))),(o7 bI ((o7 bI ((o7 bI ((o7 bI (hHeld.2.2.2.2.2.1)))))))),(o7 bI ((o7 bI ((o7 bI ((o7 bI (hHeld.2.2.2.2.2.2.1)))))))),(o7 bI ((o7 bI ((o7 bI ((o7 bI (hHeld.2.2.2.2.2.2.2.1)))))))),(o7 bI ((o7 bI ((o7 bI ((o7 bI (hHeld.2.2.2.2.2.2.2.2.1)))))))),(o7 bW ((o7 bW ((o7 bW ((o7 bW (hHeld.2.2.2.2.2.2.2.2.2.1)))))))),(o7 bW ((o7 bW ((o7 bW ((o7 bW (hHeld.2.2.2.2.2.2.2.2.2.2.1)))))))),(o7 bW ((o7 bW ((o7 bW ((o7 bW (hHeld.2.2.2.2.2.2.2.2.2.2.2.1)))))))),(o7 bW ((o7 bW ((o7 bW ((o7 bW (hHeld.2.2.2.2.2.2.2.2.2.2.2.2.1)))))))),(o7 bW ((o7 bW ((o7 bW ((o7 bW (hHeld.2.2.2.2.2.2.2.2.2.2.2.2.2.1)))))))),(o7 bW ((o7 bW ((o7 bW ((o7 bW (hHeld.2.2.2.2.2.2.2.2.2.2.2.2.2.2.1)))))))),(o7 bW ((o7 bW ((o7 bW ((o7 bW (hHeld.2.2.2.2.2.2.2.2.2.2.2.2.2.2.2))))))))⟩ (fun hHeld=>?_)
   clear hK K
   refine dG (i:=10) (N:=some 4) (bC eH.out aT) ?_
   refine ma (zW eH.out aT) ?_
   have anJ:=bW.out
   have anK:=lG.out
   obtain ⟨wC,wD,Ai,Aj,DC,DD,DF,wE,wF,Ak,Al,DI,DJ,DK⟩:=iH fV.out
   try go_wp2_with (first|((with_reducible refine aR (f:=37) rfl ?_);refine bU (some 22) rfl rfl Try.func37 aT rfl #[.agg #[Z ab oO,Z ab pz,Z ab pJ,Z ab p9,Z ab ql,Z ab qD,Z ab qY],.agg #[Z ab 300,Z ab 310]] rfl jQ ?_;(with_reducible refine (fD.calls k oO pz pJ p9 ql qD qY 300 310 abB abC _ A4.out).mono ?_);rintro e w27 ⟨rfl,hb⟩;refine ⟨_,rfl,?_⟩;have Lu:=ag.mk (Kd.fZ (by (with_reducible repeat (first|apply Kd.nU|apply Kd.nV|apply Kd.mD));exact (Kd.lg (Kd.bT (p:=⟨mh,3,none⟩) (Kd.bT (p:=⟨mh,2,none⟩) (Kd.bT (p:=⟨mh,1,none⟩) (Kd.bT (p:=⟨mh,0,none⟩) (Kd.nL iE.out oC.out (by decide)) (fun _ hk=>hk.2) (Z ab Gd)) (fun _ hk=>hk.2) (Z ab J4)) (fun _ hk=>hk.2) (Z ab Lt)) (fun _ hk=>hk.2) (Z ab Qa)) (fun _ h_=>h_.1))) hb);have Lv:=ag.mk (Kd.fZ (by (with_reducible repeat (first|apply Kd.nU|apply Kd.nV|apply Kd.mD));exact (Kd.lg (Kd.bT (p:=⟨mh,3,none⟩) (Kd.bT (p:=⟨mh,2,none⟩) (Kd.bT (p:=⟨mh,1,none⟩) (Kd.bT (p:=⟨mh,0,none⟩) (Kd.nL iF.out oC.out (by decide)) (fun _ hk=>hk.2) (Z ab Gd)) (fun _ hk=>hk.2) (Z ab J4)) (fun _ hk=>hk.2) (Z ab Lt)) (fun _ hk=>hk.2) (Z ab Qa)) (fun _ h_=>h_.1))) hb);have Lx:=bJ fE hb;have LA:=bJ fV hb;have n4_:=ag.mk (af (g:=mh) (o:=.cells #[Z ab Gd,Z ab J4,Z ab Lt,Z ab Qa] 31 (0,0)) (by (with_reducible repeat (first|refine aA ?_ _|refine au ?_|refine aa ?_ _));refine az (cs:=#[Z ab Gd,Z ab J4,Z ab Lt,Z ab 0]) ?_ 3 _ rfl;(with_reducible repeat (first|refine aA ?_ _|refine au ?_|refine aa ?_ _));refine az (cs:=#[Z ab Gd,Z ab J4,Z ab 0,Z ab 0]) ?_ 2 _ rfl;(with_reducible repeat (first|refine aA ?_ _|refine au ?_|refine aa ?_ _));refine az (cs:=#[Z ab Gd,Z ab 0,Z ab 0,Z ab 0]) ?_ 1 _ rfl;(with_reducible repeat (first|refine aA ?_ _|refine au ?_|refine aa ?_ _));refine az (cs:=#[Z ab 0,Z ab 0,Z ab 0,Z ab 0]) ?_ 0 _ rfl;(with_reducible repeat (first|refine aA ?_ _|refine au ?_|refine aa ?_ _));exact oC.out) hb);have n5_:=cK HB hb;clear iE;clear iF;clear fE;clear fV;clear oC;clear HB;have iE:=Lu;have iF:=Lv;have fE:=Lx;have fV:=LA;have oC:=n4_;have HB:=n5_;clear Lu Lv Lx LA n4_ n5_;(try clear hb);(try clear hb2);(try clear hk);(try clear hi);have arw:=lF.out;have arx:=bI.out;obtain ⟨qE,qF,rP,rQ,qG,qH,rR,rT⟩:=jr oC.out))
   go_ret
   exact ⟨mf,eZ⟩
  ·rw [if_neg c6] at H
   have P5:(abB == 3) = false:=beq_eq_false_iff_ne.mpr c6
   have aB9:(abB != 3) = true:=bne_iff_ne.mpr c6
   have YL:=Option.some.inj H
   rw [hr_.out] at YL
   cases YL
 ·rw [if_neg c5] at H
  have Ls:((wrap64 (J5+abC)) == 0) = false:=beq_eq_false_iff_ne.mpr c5
  have ahj:((wrap64 (J5+abC)) != 0) = true:=bne_iff_ne.mpr c5
  have YL:=Option.some.inj H
  rw [hr_.out] at YL
  cases YL
def gD.f (ax:Int) (av:Int) (aH:Int) (aG:Int) (aQ:Int) (aN:Int) (aM:Int) (bn:List Bool) (aW:List (qW)) (a1:Int):Option (Bool):=if aN > 1 then (some (a1 == 3)) else (some false)
set_option maxHeartbeats 8000000 in
set_option maxRecDepth 100000 in
theorem gD.calls (ax:Int) (av:Int) (aH:Int) (aG:Int) (aQ:Int) (aN:Int) (aM:Int) (fJ:Option Addr) (fK:Nat) (bn:List Bool) (fU:Option Addr) (fM:Nat) (aW:List (qW)) (a1:Int) (r:Bool) (w:World) (nP:Kd.C Kd.bool w fJ bn.length bn) (nQ:bn.length≤fK) (nR:Kd.C Cm w fU aW.length aW) (nS:aW.length≤fM) (h:gD.f ax av aH aG aQ aN aM bn aW a1 = some r):
 Calls Try.prog 56 #[.agg #[Z ab ax,Z ab av,Z ab aH,Z ab aG,Z ab aQ,Z ab aN,Z ab aM,.slice fJ bn.length fK,.slice fU aW.length fM],Z ab a1] w fun e w'=>e = .returned (.bool r)∧Below w.heap.size w w':=by
 have Cn:=Try.underlying25
 have mi:=ag.mk nP
 have mo:=ag.mk nQ
 clear nP nQ
 have jH:=ag.mk nR
 have mq:=ag.mk nS
 clear nR nS
 have HB:=ag.mk (Below.refl w.heap.size w)
 have H:(if aN > 1 then (some (a1 == 3)) else (some false)) = some r:=h
 clear h
 by_cases c3:aN > 1
 ·rw [if_pos c3] at H
  have PY:decide (1 < aN) = true:=decide_eq_true c3
  clear c3
  obtain rfl:=Option.some.inj H
  go_enter Try.func56,Try.ntmps56
  go_wp2_with (first|((with_reducible refine aI (N:=2) rfl ?_);refine aC (by rfl) (N:=2) (by rfl) (cs:=#[Z ab ax,Z ab av,Z ab aH,Z ab aG,Z ab aQ,Z ab aN,Z ab aM,.slice fJ bn.length fK,.slice fU aW.length fM]) (t:=25) gu ?_;intro ary hg w4 hbox hb;have ahl:=ag.mk (hbox);have arz:=cB HB hg;have arA:=cB HB hg;replace HB:=cK HB hb;clear hb hbox hg;obtain ⟨TU,TV,TW,TY,TZ,T9,Ua,Ub,Uc,Ud,Ue,Uf,Ug,Uh,Ui,Uj,Uk,Ul⟩:=ji ahl.out))
  go_ret
  exact ⟨mf,eZ⟩
 ·rw [if_neg c3] at H
  have PY:decide (1 < aN) = false:=decide_eq_false c3
  clear c3
  obtain rfl:=Option.some.inj H
  go_enter Try.func56,Try.ntmps56
  go_wp2_with (first|((with_reducible refine aI (N:=2) rfl ?_);refine aC (by rfl) (N:=2) (by rfl) (cs:=#[Z ab ax,Z ab av,Z ab aH,Z ab aG,Z ab aQ,Z ab aN,Z ab aM,.slice fJ bn.length fK,.slice fU aW.length fM]) (t:=25) gu ?_;intro ary hg w6 hbox hb;have ahl:=ag.mk (hbox);have arz:=cB HB hg;have arA:=cB HB hg;replace HB:=cK HB hb;clear hb hbox hg;obtain ⟨Cs,Ct,J6,J7,J8,J9,Qb,Um,Un,Cu,Cv,Ka,Kb,Ke,Kg,Qc,Uo,Uq⟩:=ji ahl.out))
  go_ret
  exact ⟨mf,eZ⟩
end Go.Proofs.Ytmhaiihjfgfaoaa.Pr
end
