import Derived.Test.YtmhaiihjfgfaoaaGzGliderReaches3
import Derived.Test.YtmhaiihjfgfaoaaGzGliderReaches15
import Derived.Test.YtmhaiihjfgfaoaaGzGliderReaches16
open Go.Value renaming int → U
open Go.IntKind renaming i64 → Z
open Bool renaming true → ab, false → ac
section
namespace Go.Proofs.Ytmhaiihjfgfaoaa.Pr
open Go.RowKit Go.Proofs.YtmhaiihjfgfaoaaW.PrintWords Go.Proofs.YtmhaiihjfgfaoaaW.PrintLast Go.Proofs.YtmhaiihjfgfaoaaW.PrintMore
attribute [local go_sem] eD eF fD fE eG
set_option linter.unusedVariables false
set_option linter.unusedSimpArgs false
mutual
def aZ.l0:Nat→Int→Int→Int→Bool→Int→Int→Int→Int→Int→Int→Int→Int→List Bool→List (oV)→Int→Int→Int→Int→Int→Int→Int→Int→Option (Int × Int × Int × Int)
 |0,_,_,_,_,_,_,_,_,_,_,_,_,_,_,_,_,_,_,_,_,_,_=>none
 |k+1,x2,x3,x4,wB,xe,lF,lG,vE,rO,tJ,lQ,vF,vG,l6,vH,vI,vJ,vK,yl,ym,yn,yo=>if xe < tJ then (if (wrap64 (xe*rO)) ≥ x4 then (aZ.j1 k x2 x3 x4 wB xe true lF lG vE rO tJ lQ vF vG l6 vH vI vJ vK yl ym yn yo) else (aZ.j1 k x2 x3 x4 wB xe (decide ((wrap64 ((wrap64 (xe+1))*rO))≤x3)) lF lG vE rO tJ lQ vF vG l6 vH vI vJ vK yl ym yn yo)) else (some (yl,ym,yn,yo))
def aZ.j1:Nat→Int→Int→Int→Bool→Int→Bool→Int→Int→Int→Int→Int→Int→Int→List Bool→List (oV)→Int→Int→Int→Int→Int→Int→Int→Int→Option (Int × Int × Int × Int)
 |0,_,_,_,_,_,_,_,_,_,_,_,_,_,_,_,_,_,_,_,_,_,_,_=>none
 |k+1,x2,x3,x4,wB,xe,x36,lF,lG,vE,rO,tJ,lQ,vF,vG,l6,vH,vI,vJ,vK,yl,ym,yn,yo=>if x36 = true then (aZ.l0 k x2 x3 x4 wB (wrap64 (xe+1)) lF lG vE rO tJ lQ vF vG l6 vH vI vJ vK yl ym yn yo) else (aZ.l1 k x2 x3 x4 wB xe 0 lF lG vE rO tJ lQ vF vG l6 vH vI vJ vK yl ym yn yo)
def aZ.l1:Nat→Int→Int→Int→Bool→Int→Int→Int→Int→Int→Int→Int→Int→Int→List Bool→List (oV)→Int→Int→Int→Int→Int→Int→Int→Int→Option (Int × Int × Int × Int)
 |0,_,_,_,_,_,_,_,_,_,_,_,_,_,_,_,_,_,_,_,_,_,_,_=>none
 |k+1,x2,x3,x4,wB,xe,KZ,lF,lG,vE,rO,tJ,lQ,vF,vG,l6,vH,vI,vJ,vK,yl,ym,yn,yo=>if KZ < (wrap64 (lF*lG)) then ((jY.f lF lG vE rO tJ lQ vF vG l6 KZ).bind fun abv=>((fI.f vH vI vJ vK abv.1 abv.2.1 abv.2.2.1 abv.2.2.2).bind fun afN=>(if afN = true then (if 0≤(wrap64 ((wrap64 ((wrap64 ((wrap64 ((wrap64 (xe*lQ))+x2))*lF))*lG))+KZ)) then (if (wrap64 ((wrap64 ((wrap64 ((wrap64 ((wrap64 (xe*lQ))+x2))*lF))*lG))+KZ)) < (l6.length:Int) then (if wB = true then ((dC.f yl ym ((bu l6 (wrap64 ((wrap64 ((wrap64 ((wrap64 ((wrap64 (xe*lQ))+x2))*lF))*lG))+KZ))).f0.f0) ((bu l6 (wrap64 ((wrap64 ((wrap64 ((wrap64 ((wrap64 (xe*lQ))+x2))*lF))*lG))+KZ))).f0.f1)).bind fun zK=>((dC.f yn yo ((bu l6 (wrap64 ((wrap64 ((wrap64 ((wrap64 ((wrap64 (xe*lQ))+x2))*lF))*lG))+KZ))).f1.f0) ((bu l6 (wrap64 ((wrap64 ((wrap64 ((wrap64 ((wrap64 (xe*lQ))+x2))*lF))*lG))+KZ))).f1.f1)).bind fun uD=>(aZ.l1 k x2 x3 x4 true xe (wrap64 (KZ+1)) lF lG vE rO tJ lQ vF vG l6 vH vI vJ vK zK.1 zK.2 uD.1 uD.2))) else (aZ.l1 k x2 x3 x4 true xe (wrap64 (KZ+1)) lF lG vE rO tJ lQ vF vG l6 vH vI vJ vK ((bu l6 (wrap64 ((wrap64 ((wrap64 ((wrap64 ((wrap64 (xe*lQ))+x2))*lF))*lG))+KZ))).f0.f0) ((bu l6 (wrap64 ((wrap64 ((wrap64 ((wrap64 ((wrap64 (xe*lQ))+x2))*lF))*lG))+KZ))).f0.f1) ((bu l6 (wrap64 ((wrap64 ((wrap64 ((wrap64 ((wrap64 (xe*lQ))+x2))*lF))*lG))+KZ))).f1.f0) ((bu l6 (wrap64 ((wrap64 ((wrap64 ((wrap64 ((wrap64 (xe*lQ))+x2))*lF))*lG))+KZ))).f1.f1))) else (none)) else (none)) else (aZ.l1 k x2 x3 x4 wB xe (wrap64 (KZ+1)) lF lG vE rO tJ lQ vF vG l6 vH vI vJ vK yl ym yn yo)))) else (aZ.l0 k x2 x3 x4 wB (wrap64 (xe+1)) lF lG vE rO tJ lQ vF vG l6 vH vI vJ vK yl ym yn yo)
end
def aZ.f (k:Nat) (ah:Int) (ai:Int) (ax:Int) (ay:Int) (aK:Int) (aH:Int) (aJ:Int) (aR:List Bool) (aC:List (oV)) (aQ:Int) (aM:Int) (bf:Int) (bg:Int) (a2:Int) (a3:Int) (a4:Int):Option (Int × Int × Int × Int):=aZ.l0 k a2 a3 a4 false 0 ah ai ax ay aK aH aJ aR aC aQ aM bf bg 0 0 0 0
def aZ.T13:Bool × List (List Nat × List Nat):=(true,[([],[]),([0],[0]),([],[]),([2],[2]),([1,3],[1,3]),([],[]),([5],[5]),([],[]),([7],[7]),([6,8,4],[6,8]),([4,9],[4,9]),([10,9,0,1,2,3,4,5,6,7,8,9,10],[10])])
def aZ.B13:List Nat:=[0,1,0,4,15,0,32,0,128,511,1023,2047]
theorem aZ.ayi:qX .any (opsOf Try.f73 13) = aZ.T13:=by kernel_rfl
theorem aZ.avx:ou aZ.T13.2 aZ.B13 = true:=by kernel_rfl
set_option maxHeartbeats 8000000 in
set_option maxRecDepth 100000 in
theorem aZ.calls (k:Nat) (ah:Int) (ai:Int) (ax:Int) (ay:Int) (aK:Int) (aH:Int) (aJ:Int) (dG:Option Addr) (dH:Nat) (aR:List Bool) (dJ:Option Addr) (dI:Nat) (aC:List (oV)) (aQ:Int) (aM:Int) (bf:Int) (bg:Int) (a2:Int) (a3:Int) (a4:Int) (r1:Int) (r2:Int) (r3:Int) (r4:Int) (w:World) (iU:Kd.C Kd.bool w dG aR.length aR) (iV:aR.length≤dH) (iW:Kd.C DD w dJ aC.length aC) (iX:aC.length≤dI) (h:aZ.f k ah ai ax ay aK aH aJ aR aC aQ aM bf bg a2 a3 a4 = some (r1,r2,r3,r4)):
 Calls Try.prog 73 #[.agg #[U Z ah,U Z ai,U Z ax,U Z ay,U Z aK,U Z aH,U Z aJ,.slice dG aR.length dH,.slice dJ aC.length dI],.agg #[U Z aQ,U Z aM,U Z bf,U Z bg],U Z a2,U Z a3,U Z a4] w fun e w'=>e = .returned (.agg #[U Z r1,U Z r2,U Z r3,U Z r4])∧Below w.heap.size w w':=by
 have zR:=Try.underlying25
 have oP:=Try.underlying31
 have alc:=Try.underlying40
 have oo:=Try.underlying27
 have gq:=aa.mk iU
 have gu:=aa.mk iV
 clear iU iV
 have fH:=aa.mk iW
 have gz:=aa.mk iX
 clear iW iX
 have HB:=aa.mk (Below.refl w.heap.size w)
 have H:(aZ.l0 k a2 a3 a4 false 0 ah ai ax ay aK aH aJ aR aC aQ aM bf bg 0 0 0 0) = some (r1,r2,r3,r4):=h
 clear h
 have H':=aa.mk H
 clear H
 go_enter Try.func73,Try.ntmps73
 go_wp2_with (first|((with_reducible refine aG (N:=5) rfl ?_);refine az (by rfl) (N:=5) (by rfl) (cs:=#[U Z ah,U Z ai,U Z ax,U Z ay,U Z aK,U Z aH,U Z aJ,.slice dG aR.length dH,.slice dJ aC.length dI]) (t:=25) fM ?_;intro nG hg w6 hbox hb;have fV:=aa.mk (hbox);have aQO:=dn HB hg;have aQP:=dn HB hg;replace HB:=dw HB hb;clear hb hbox hg)|((with_reducible refine aG (N:=6) rfl ?_);refine az (by rfl) (N:=6) (by rfl) (cs:=#[U Z aQ,U Z aM,U Z bf,U Z bg]) (t:=31) fM ?_;intro Ab hg w7 hbox hb;have fq:=aa.mk (hbox);have aQQ:=dn HB hg;have aQR:=dn HB hg;have uE:=iq fV hg;have uF:=iw fV hg;replace fV:=bC fV hb;replace HB:=dw HB hb;clear hb hbox hg)|((with_reducible refine aG (N:=10) rfl ?_);refine az (by rfl) (N:=10) (by rfl) (cs:=#[U Z 0,U Z 0,U Z 0,U Z 0]) (t:=40) fM ?_;intro Yb hg w8 hbox hb;have jM:=aa.mk (hbox);have aQS:=dn HB hg;have aQT:=dn HB hg;have uG:=iq fV hg;have uH:=iw fV hg;have afO:=iq fq hg;have afP:=iw fq hg;replace fV:=bC fV hb;replace fq:=bC fq hb;replace HB:=dw HB hb;clear hb hbox hg)|((with_reducible refine aG (N:=11) rfl ?_);refine az (by rfl) (N:=11) (by rfl) (cs:=#[U Z 0,U Z 0,U Z 0,U Z 0]) (t:=40) fM ?_;intro O8 hg w9 hbox hb;have jA:=aa.mk (hbox);have aQU:=dn HB hg;have aQV:=dn HB hg;have uI:=iq fV hg;have uJ:=iw fV hg;have NW:=iq fq hg;have NY:=iw fq hg;have NZ:=iq jM hg;have N7:=iw jM hg;replace fV:=bC fV hb;replace fq:=bC fq hb;replace jM:=bC jM hb;replace HB:=dw HB hb;clear hb hbox hg))
 go_loopg [12,13] k (fun kq v12 v13 w'=>∃ (cK:Bool) (cB:Int) (mR:Int) (nW:Int) (pg:Int) (qf:Int),v12 = .bool cK∧v13 = U Z cB∧aa (aZ.l0 kq a2 a3 a4 cK cB ah ai ax ay aK aH aJ aR aC aQ aM bf bg mR nW pg qf = some (r1,r2,r3,r4))∧aa (kq≤k)∧aa (w'.heap[nG]? = some (.cells #[U Z ah,U Z ai,U Z ax,U Z ay,U Z aK,U Z aH,U Z aJ,(.slice dG aR.length dH),(.slice dJ aC.length dI)] 25 (0,0)))∧aa (w'.heap[Ab]? = some (.cells #[U Z aQ,U Z aM,U Z bf,U Z bg] 31 (0,0)))∧aa (w'.heap[Yb]? = some (.cells #[U Z 0,U Z 0,U Z 0,U Z 0] 40 (0,0)))∧aa (w'.heap[O8]? = some (.cells #[U Z mR,U Z nW,U Z pg,U Z qf] 40 (0,0)))∧aa (Below w.heap.size w w'))
 case atStart=>exact ⟨(false),(0),(0),(0),(0),(0),mg,mg,H',⟨Nat.le_refl _⟩,⟨fB⟩,⟨fB⟩,⟨fB⟩,⟨fB⟩,⟨fu⟩⟩
 case round =>
  clear H'
  try clear p2
  try clear c7
  obtain ⟨cK,cB,mR,nW,pg,qf,rfl,rfl,HA,G5,fV,fq,jM,jA,HB⟩:=hrel
  cases gk with
  |zero=>exact absurd HA.out (by simp [aZ.l0])
  |succ k1 =>
   have H:=HA.out
   clear HA
   simp only [aZ.l0] at H
   by_cases c10:cB < aK
   ·rw [if_pos c10] at H
    have Cn:decide (cB < aK) = true:=decide_eq_true c10
    clear c10
    have avy:=aa.mk H
    clear H
    have ayj:=uE.out
    have ayk:=uF.out
    have XX:=uG.out
    have XY:=uH.out
    have XZ:=uI.out
    have X0:=uJ.out
    obtain ⟨nI,nJ,rC,rD,tu,tC,yh,Aw,Ay,nK,nL,rE,rF,tF,tH,yj,Az,AA⟩:=iH fV.out
    go_upto_region 6 with (fail)
    go_cut [36] (fun v36 wc=>∃ (kq:Nat) (Ve:Bool),v36 = .bool Ve∧aa (aZ.j1 kq a2 a3 a4 cK cB Ve ah ai ax ay aK aH aJ aR aC aQ aM bf bg mR nW pg qf = some (r1,r2,r3,r4))∧aa (kq≤k1)∧aa (wc.heap[nG]? = some (.cells #[U Z ah,U Z ai,U Z ax,U Z ay,U Z aK,U Z aH,U Z aJ,(.slice dG aR.length dH),(.slice dJ aC.length dI)] 25 (0,0)))∧aa (wc.heap[Ab]? = some (.cells #[U Z aQ,U Z aM,U Z bf,U Z bg] 31 (0,0)))∧aa (wc.heap[Yb]? = some (.cells #[U Z 0,U Z 0,U Z 0,U Z 0] 40 (0,0)))∧aa (wc.heap[O8]? = some (.cells #[U Z mR,U Z nW,U Z pg,U Z qf] 40 (0,0)))∧aa (Below w.heap.size w wc))
    case first =>
     have H:=avy.out
     clear avy
     by_cases c16:(wrap64 (cB*ay)) ≥ a4
     ·rw [if_pos c16] at H
      have Co:decide (a4≤(wrap64 (cB*ay))) = true:=decide_eq_true c16
      clear c16
      (first|rw [Co]|(simp only [eB,eH];rw [Co])|skip)
      have H':=aa.mk H
      clear H
      have abt:=uE.out
      have abu:=uF.out
      have X3:=uG.out
      have X4:=uH.out
      have aic:=uI.out
      have aid:=uJ.out
      obtain ⟨AB,AJ,Cx,Cy,Lr,Ls,Qd,U7,U8,AL,AO,Cz,CB,Lt,Lu,Qe,U9,Va⟩:=iH fV.out
      go_wp2
      go_meet
      case rel=>exact ⟨_,(true),mg,H',⟨by have:=G5.out;first|omega|exact Nat.le_refl _⟩,⟨fB⟩,⟨fB⟩,⟨fB⟩,⟨fB⟩,⟨fu⟩⟩
     ·rw [if_neg c16] at H
      have Co:decide (a4≤(wrap64 (cB*ay))) = false:=decide_eq_false c16
      clear c16
      (first|rw [Co]|(simp only [eB,eH];rw [Co])|skip)
      have H':=aa.mk H
      clear H
      have asV:=uE.out
      have asW:=uF.out
      have abw:=uG.out
      have abx:=uH.out
      have X5:=uI.out
      have X6:=uJ.out
      obtain ⟨rq,ru,Ah,Ai,Iz,IA,IB,aby,abz,ry,rz,Aj,Ak,IC,IE,IG,abA,abB⟩:=iH fV.out
      go_wp2
      go_meet
      case rel=>exact ⟨_,(decide ((wrap64 ((wrap64 (cB+1))*ay))≤a3)),mg,H',⟨by have:=G5.out;first|omega|exact Nat.le_refl _⟩,⟨fB⟩,⟨fB⟩,⟨fB⟩,⟨fB⟩,⟨fu⟩⟩
    case rest =>
     clear avy
     try clear c1
     try clear c2
     try clear p2
     try clear p6
     try clear c7
     try clear c10
     try clear Cn
     try clear c12
     try clear c13
     try clear c14
     try clear c16
     try clear Co
     try clear c17
     try clear c18
     try clear c19
     try clear c21
     try clear SE
     try clear c23
     try clear nI nJ rC rD tu tC yh Aw Ay
     try clear AB AJ Cx Cy Lr Ls Qd U7 U8
     try clear rq ru Ah Ai Iz IA IB aby abz
     try clear nK nL rE rF tF tH yj Az AA
     try clear AL AO Cz CB Lt Lu Qe U9 Va
     try clear ry rz Aj Ak IC IE IG abA abB
     try clear p2
     obtain ⟨kq,Ve,rfl,HA,aag,fV,fq,jM,jA,HB⟩:=hcut
     cases kq with
     |zero=>exact absurd HA.out (by simp [aZ.j1])
     |succ aie =>
      have H:=HA.out
      clear HA
      simp only [aZ.j1] at H
      by_cases Yc:Ve = true
      ·subst Yc
       have H1:(aZ.l0 aie a2 a3 a4 cK (wrap64 (cB+1)) ah ai ax ay aK aH aJ aR aC aQ aM bf bg mR nW pg qf) = some (r1,r2,r3,r4):=by rw [if_pos rfl] at H;exact H
       clear H
       have H:=H1
       clear H1
       have H':=aa.mk H
       clear H
       go_wp2
       go_roundg aie
       case measure=>have:=G5.out;have:=aag.out;omega
       case rel=>exact ⟨(cK),(wrap64 (cB+1)),(mR),(nW),(pg),(qf),mg,mg,H',⟨by have:=G5.out;have:=aag.out;omega⟩,⟨fB⟩,⟨fB⟩,⟨fB⟩,⟨fB⟩,⟨fu⟩⟩
      ·replace Yc:=Bool.eq_false_iff.mpr Yc
       subst Yc
       have H1:(aZ.l1 aie a2 a3 a4 cK cB 0 ah ai ax ay aK aH aJ aR aC aQ aM bf bg mR nW pg qf) = some (r1,r2,r3,r4):=by rw [if_neg (show ¬ (false = true) by decide)] at H;exact H
       clear H
       have H:=H1
       clear H1
       have H':=aa.mk H
       clear H
       go_wp2
       go_loopg [12,14] aie (fun kq v12 v14 w'=>∃ (Eg:Bool) (fF:Int) (jV:Int) (jh:Int) (iJ:Int) (gV:Int),v12 = .bool Eg∧v14 = U Z fF∧aa (aZ.l1 kq a2 a3 a4 Eg cB fF ah ai ax ay aK aH aJ aR aC aQ aM bf bg jV jh iJ gV = some (r1,r2,r3,r4))∧aa (kq≤aie)∧aa (w'.heap[nG]? = some (.cells #[U Z ah,U Z ai,U Z ax,U Z ay,U Z aK,U Z aH,U Z aJ,(.slice dG aR.length dH),(.slice dJ aC.length dI)] 25 (0,0)))∧aa (w'.heap[Ab]? = some (.cells #[U Z aQ,U Z aM,U Z bf,U Z bg] 31 (0,0)))∧aa (w'.heap[Yb]? = some (.cells #[U Z 0,U Z 0,U Z 0,U Z 0] 40 (0,0)))∧aa (w'.heap[O8]? = some (.cells #[U Z jV,U Z jh,U Z iJ,U Z gV] 40 (0,0)))∧aa (Below w.heap.size w w'))
       case atStart=>exact ⟨(cK),(0),(mR),(nW),(pg),(qf),mg,mg,H',⟨Nat.le_refl _⟩,⟨fB⟩,⟨fB⟩,⟨fB⟩,⟨fB⟩,⟨fu⟩⟩
       case round =>
        clear H'
        try clear c1
        try clear c2
        try clear p2
        try clear p6
        try clear c7
        try clear c10
        try clear Cn
        try clear c12
        try clear c13
        try clear c14
        try clear c16
        try clear Co
        try clear c17
        try clear c18
        try clear c19
        try clear c21
        try clear SE
        try clear c23
        try clear Yc
        try clear nI nJ rC rD tu tC yh Aw Ay
        try clear AB AJ Cx Cy Lr Ls Qd U7 U8
        try clear rq ru Ah Ai Iz IA IB aby abz
        try clear nK nL rE rF tF tH yj Az AA
        try clear AL AO Cz CB Lt Lu Qe U9 Va
        try clear ry rz Aj Ak IC IE IG abA abB
        try clear p2
        try clear p6
        obtain ⟨Eg,fF,jV,jh,iJ,gV,rfl,rfl,HA,Yd,fV,fq,jM,jA,HB⟩:=hrel
        cases gk with
        |zero=>exact absurd HA.out (by simp [aZ.l1])
        |succ k3 =>
         have H:=HA.out
         clear HA
         simp only [aZ.l1] at H
         by_cases K3:fF < (wrap64 (ah*ai))
         ·rw [if_pos K3] at H
          have TV:decide (fF < (wrap64 (ah*ai))) = true:=decide_eq_true K3
          clear K3
          replace H:=Option.bind_eq_some_iff.mp H
          obtain ⟨⟨SY,S9,Ta,Tc⟩,ayl,H⟩:=H
          replace H:((fI.f aQ aM bf bg SY S9 Ta Tc).bind fun afN=>(if afN = true then (if 0≤(wrap64 ((wrap64 ((wrap64 ((wrap64 ((wrap64 (cB*aH))+a2))*ah))*ai))+fF)) then (if (wrap64 ((wrap64 ((wrap64 ((wrap64 ((wrap64 (cB*aH))+a2))*ah))*ai))+fF)) < (aC.length:Int) then (if Eg = true then ((dC.f jV jh ((bu aC (wrap64 ((wrap64 ((wrap64 ((wrap64 ((wrap64 (cB*aH))+a2))*ah))*ai))+fF))).f0.f0) ((bu aC (wrap64 ((wrap64 ((wrap64 ((wrap64 ((wrap64 (cB*aH))+a2))*ah))*ai))+fF))).f0.f1)).bind fun zK=>((dC.f iJ gV ((bu aC (wrap64 ((wrap64 ((wrap64 ((wrap64 ((wrap64 (cB*aH))+a2))*ah))*ai))+fF))).f1.f0) ((bu aC (wrap64 ((wrap64 ((wrap64 ((wrap64 ((wrap64 (cB*aH))+a2))*ah))*ai))+fF))).f1.f1)).bind fun uD=>(aZ.l1 k3 a2 a3 a4 true cB (wrap64 (fF+1)) ah ai ax ay aK aH aJ aR aC aQ aM bf bg zK.1 zK.2 uD.1 uD.2))) else (aZ.l1 k3 a2 a3 a4 true cB (wrap64 (fF+1)) ah ai ax ay aK aH aJ aR aC aQ aM bf bg ((bu aC (wrap64 ((wrap64 ((wrap64 ((wrap64 ((wrap64 (cB*aH))+a2))*ah))*ai))+fF))).f0.f0) ((bu aC (wrap64 ((wrap64 ((wrap64 ((wrap64 ((wrap64 (cB*aH))+a2))*ah))*ai))+fF))).f0.f1) ((bu aC (wrap64 ((wrap64 ((wrap64 ((wrap64 ((wrap64 (cB*aH))+a2))*ah))*ai))+fF))).f1.f0) ((bu aC (wrap64 ((wrap64 ((wrap64 ((wrap64 ((wrap64 (cB*aH))+a2))*ah))*ai))+fF))).f1.f1))) else (none)) else (none)) else (aZ.l1 k3 a2 a3 a4 Eg cB (wrap64 (fF+1)) ah ai ax ay aK aH aJ aR aC aQ aM bf bg jV jh iJ gV))) = some (r1,r2,r3,r4):=H
          have A27:=aa.mk ayl
          clear ayl
          replace H:=Option.bind_eq_some_iff.mp H
          obtain ⟨afN,aym,H⟩:=H
          replace H:(if afN = true then (if 0≤(wrap64 ((wrap64 ((wrap64 ((wrap64 ((wrap64 (cB*aH))+a2))*ah))*ai))+fF)) then (if (wrap64 ((wrap64 ((wrap64 ((wrap64 ((wrap64 (cB*aH))+a2))*ah))*ai))+fF)) < (aC.length:Int) then (if Eg = true then ((dC.f jV jh ((bu aC (wrap64 ((wrap64 ((wrap64 ((wrap64 ((wrap64 (cB*aH))+a2))*ah))*ai))+fF))).f0.f0) ((bu aC (wrap64 ((wrap64 ((wrap64 ((wrap64 ((wrap64 (cB*aH))+a2))*ah))*ai))+fF))).f0.f1)).bind fun zK=>((dC.f iJ gV ((bu aC (wrap64 ((wrap64 ((wrap64 ((wrap64 ((wrap64 (cB*aH))+a2))*ah))*ai))+fF))).f1.f0) ((bu aC (wrap64 ((wrap64 ((wrap64 ((wrap64 ((wrap64 (cB*aH))+a2))*ah))*ai))+fF))).f1.f1)).bind fun uD=>(aZ.l1 k3 a2 a3 a4 true cB (wrap64 (fF+1)) ah ai ax ay aK aH aJ aR aC aQ aM bf bg zK.1 zK.2 uD.1 uD.2))) else (aZ.l1 k3 a2 a3 a4 true cB (wrap64 (fF+1)) ah ai ax ay aK aH aJ aR aC aQ aM bf bg ((bu aC (wrap64 ((wrap64 ((wrap64 ((wrap64 ((wrap64 (cB*aH))+a2))*ah))*ai))+fF))).f0.f0) ((bu aC (wrap64 ((wrap64 ((wrap64 ((wrap64 ((wrap64 (cB*aH))+a2))*ah))*ai))+fF))).f0.f1) ((bu aC (wrap64 ((wrap64 ((wrap64 ((wrap64 ((wrap64 (cB*aH))+a2))*ah))*ai))+fF))).f1.f0) ((bu aC (wrap64 ((wrap64 ((wrap64 ((wrap64 ((wrap64 (cB*aH))+a2))*ah))*ai))+fF))).f1.f1))) else (none)) else (none)) else (aZ.l1 k3 a2 a3 a4 Eg cB (wrap64 (fF+1)) ah ai ax ay aK aH aJ aR aC aQ aM bf bg jV jh iJ gV)) = some (r1,r2,r3,r4):=H
          have A28:=aa.mk aym
          clear aym
          by_cases c29:afN = true
          ·subst c29
           have H1:(if 0≤(wrap64 ((wrap64 ((wrap64 ((wrap64 ((wrap64 (cB*aH))+a2))*ah))*ai))+fF)) then (if (wrap64 ((wrap64 ((wrap64 ((wrap64 ((wrap64 (cB*aH))+a2))*ah))*ai))+fF)) < (aC.length:Int) then (if Eg = true then ((dC.f jV jh ((bu aC (wrap64 ((wrap64 ((wrap64 ((wrap64 ((wrap64 (cB*aH))+a2))*ah))*ai))+fF))).f0.f0) ((bu aC (wrap64 ((wrap64 ((wrap64 ((wrap64 ((wrap64 (cB*aH))+a2))*ah))*ai))+fF))).f0.f1)).bind fun zK=>((dC.f iJ gV ((bu aC (wrap64 ((wrap64 ((wrap64 ((wrap64 ((wrap64 (cB*aH))+a2))*ah))*ai))+fF))).f1.f0) ((bu aC (wrap64 ((wrap64 ((wrap64 ((wrap64 ((wrap64 (cB*aH))+a2))*ah))*ai))+fF))).f1.f1)).bind fun uD=>(aZ.l1 k3 a2 a3 a4 true cB (wrap64 (fF+1)) ah ai ax ay aK aH aJ aR aC aQ aM bf bg zK.1 zK.2 uD.1 uD.2))) else (aZ.l1 k3 a2 a3 a4 true cB (wrap64 (fF+1)) ah ai ax ay aK aH aJ aR aC aQ aM bf bg ((bu aC (wrap64 ((wrap64 ((wrap64 ((wrap64 ((wrap64 (cB*aH))+a2))*ah))*ai))+fF))).f0.f0) ((bu aC (wrap64 ((wrap64 ((wrap64 ((wrap64 ((wrap64 (cB*aH))+a2))*ah))*ai))+fF))).f0.f1) ((bu aC (wrap64 ((wrap64 ((wrap64 ((wrap64 ((wrap64 (cB*aH))+a2))*ah))*ai))+fF))).f1.f0) ((bu aC (wrap64 ((wrap64 ((wrap64 ((wrap64 ((wrap64 (cB*aH))+a2))*ah))*ai))+fF))).f1.f1))) else (none)) else (none)) = some (r1,r2,r3,r4):=by rw [if_pos rfl] at H;exact H
           clear H
           have H:=H1
           clear H1
           obtain ⟨gT,TW⟩:∃ j_:Int,(wrap64 ((wrap64 ((wrap64 ((wrap64 ((wrap64 (cB*aH))+a2))*ah))*ai))+fF)) = j_:=⟨_,rfl⟩
           replace H:(if 0≤(gT) then (if (gT) < (aC.length:Int) then (if Eg = true then ((dC.f jV jh ((bu aC (gT)).f0.f0) ((bu aC (gT)).f0.f1)).bind fun zK=>((dC.f iJ gV ((bu aC (gT)).f1.f0) ((bu aC (gT)).f1.f1)).bind fun uD=>(aZ.l1 k3 a2 a3 a4 true cB (wrap64 (fF+1)) ah ai ax ay aK aH aJ aR aC aQ aM bf bg zK.1 zK.2 uD.1 uD.2))) else (aZ.l1 k3 a2 a3 a4 true cB (wrap64 (fF+1)) ah ai ax ay aK aH aJ aR aC aQ aM bf bg ((bu aC (gT)).f0.f0) ((bu aC (gT)).f0.f1) ((bu aC (gT)).f1.f0) ((bu aC (gT)).f1.f1))) else (none)) else (none)) = some (r1,r2,r3,r4):=by first|(rw [TW] at H;exact H)|(simp only [TW] at H ⊢;exact H)
           (try rw [TW] at A27)
           (try rw [TW] at A28)
           have aOl:(IntKind.i64.wrap ((wrap64 ((wrap64 ((wrap64 ((wrap64 (cB*aH))+a2))*ah))*ai))+fF)) = gT:=(eB _).trans TW
           by_cases c31:0≤(gT)
           ·rw [if_pos c31] at H
            have Kk:decide (0≤(gT)) = true:=decide_eq_true c31
            clear c31
            by_cases c32:(gT) < (aC.length:Int)
            ·rw [if_pos c32] at H
             have aQW:decide ((gT) < (aC.length:Int)) = true:=decide_eq_true c32
             clear c32
             by_cases c33:Eg = true
             ·subst c33
              have H1:((dC.f jV jh ((bu aC (gT)).f0.f0) ((bu aC (gT)).f0.f1)).bind fun zK=>((dC.f iJ gV ((bu aC (gT)).f1.f0) ((bu aC (gT)).f1.f1)).bind fun uD=>(aZ.l1 k3 a2 a3 a4 true cB (wrap64 (fF+1)) ah ai ax ay aK aH aJ aR aC aQ aM bf bg zK.1 zK.2 uD.1 uD.2))) = some (r1,r2,r3,r4):=by rw [if_pos rfl] at H;exact H
              clear H
              have H:=H1
              clear H1
              replace H:=Option.bind_eq_some_iff.mp H
              obtain ⟨⟨aah,afQ⟩,ayo,H⟩:=H
              replace H:((dC.f iJ gV ((bu aC (gT)).f1.f0) ((bu aC (gT)).f1.f1)).bind fun uD=>(aZ.l1 k3 a2 a3 a4 true cB (wrap64 (fF+1)) ah ai ax ay aK aH aJ aR aC aQ aM bf bg aah afQ uD.1 uD.2)) = some (r1,r2,r3,r4):=H
              have A34:=aa.mk ayo
              clear ayo
              replace H:=Option.bind_eq_some_iff.mp H
              obtain ⟨⟨ald,avz⟩,ayp,H⟩:=H
              replace H:(aZ.l1 k3 a2 a3 a4 true cB (wrap64 (fF+1)) ah ai ax ay aK aH aJ aR aC aQ aM bf bg aah afQ ald avz) = some (r1,r2,r3,r4):=H
              have A35:=aa.mk ayp
              clear ayp
              have H':=aa.mk H
              clear H
              have aif:=uE.out
              have aih:=uF.out
              have asX:=uG.out
              have asY:=uH.out
              have aii:=uI.out
              have aij:=uJ.out
              obtain ⟨ale,alf,alg,alh,ali,alj,alk,aGf,aGg,alm,aln,alo,alp,alq,alr,als,aGh,aGi⟩:=iH fV.out
              try go_wp2
              replace fV:=aa.mk (ag fV.out)
              replace fq:=aa.mk (ag fq.out)
              replace jM:=aa.mk (ag jM.out)
              replace jA:=aa.mk (ag jA.out)
              replace HB:=aa.mk (bU HB.out)
              refine jT (n:=6) (S:=fun w'=>w'.cell? ⟨Ab,0,none⟩ = some (U Z aQ)∧w'.cell? ⟨Ab,1,none⟩ = some (U Z aM)∧w'.cell? ⟨Ab,2,none⟩ = some (U Z bf)∧w'.cell? ⟨Ab,3,none⟩ = some (U Z bg)∧w'.cell? ⟨nG,0,none⟩ = some (U Z ah)∧w'.cell? ⟨nG,1,none⟩ = some (U Z ai)∧w'.cell? ⟨nG,2,none⟩ = some (U Z ax)∧w'.cell? ⟨nG,3,none⟩ = some (U Z ay)∧w'.cell? ⟨nG,4,none⟩ = some (U Z aK)∧w'.cell? ⟨nG,5,none⟩ = some (U Z aH)∧w'.cell? ⟨nG,6,none⟩ = some (U Z aJ)∧w'.cell? ⟨nG,7,none⟩ = some (.slice dG aR.length dH)∧w'.cell? ⟨nG,8,none⟩ = some (.slice dJ aC.length dI)) (ds:=[]) #[ac,ac,ac,ac,ac,ac] aY rfl rfl ⟨dz fq 0,dz fq 1,dz fq 2,dz fq 3,BG fV.out⟩ (fun hHeld=>?_)
              generalize wr.drew = w40 at fV fq jM jA HB hHeld ⊢
              refine dW (i:=2) (N:=some 48) aY ?_
              refine ja (i:=0) (N:=some 46) aY hHeld ?_
              refine ja (i:=1) (N:=some 47) aY hHeld ?_
              refine jJ (i:=3) (N:=some 49) #[ab,ab,ab,ab,ac,ac] rfl rfl aY (by decide) (fun K hK=>?_)
              refine gQ Try.func42 aY rfl #[.agg #[U Z ah,U Z ai,U Z ax,U Z ay,U Z aK,U Z aH,U Z aJ,.slice dG aR.length dH,.slice dJ aC.length dI],U Z fF] (by rfl) rfl rfl iG ?_
              with_reducible refine (jY.calls ah ai ax ay aK aH aJ _ _ aR _ _ aC fF SY S9 Ta Tc _ ?df ?dh ?dK ?dL A27.out).mono ?_
              (case df=>repeat (first|exact (Kd.bz gq.out HB.out)|(with_reducible refine Kd.bA ?_ _)|(with_reducible refine Kd.bB ?_ _)|(with_reducible refine Kd.bQ ?_)))
              (case dh=>exact gu.out)
              (case dK=>repeat (first|exact (Kd.bz fH.out HB.out)|(with_reducible refine Kd.bA ?_ _)|(with_reducible refine Kd.bB ?_ _)|(with_reducible refine Kd.bQ ?_)))
              (case dL=>exact gz.out)
              rintro e w41 ⟨rfl,hb⟩
              refine ⟨_,rfl,?_⟩
              replace fV:=bC fV hb
              replace fq:=bC fq hb
              replace jM:=bC jM hb
              replace jA:=bC jA hb
              replace HB:=dw HB hb
              (try clear hb)
              (try clear hb2)
              (try clear hk)
              (try clear hi)
              refine hK.out _ _ ⟨dz fq 0,dz fq 1,dz fq 2,dz fq 3,BG fV.out⟩ (fun hHeld=>?_)
              clear hK K
              refine eY avA ?_
              refine jJ (i:=4) (N:=some 50) #[ab,ab,ab,ab,ab,ac] rfl rfl aY (by decide) (fun K hK=>?_)
              refine gQ Try.func104 aY rfl #[.agg #[U Z aQ,U Z aM,U Z bf,U Z bg],.agg #[U Z SY,U Z S9,U Z Ta,U Z Tc]] (by rfl) rfl rfl iG ?_
              with_reducible refine (fI.calls aQ aM bf bg SY S9 Ta Tc true _ A28.out).mono ?_
              rintro e w42 ⟨rfl,hb⟩
              refine ⟨_,rfl,?_⟩
              replace fV:=bC fV hb
              replace fq:=bC fq hb
              replace jM:=bC jM hb
              replace jA:=bC jA hb
              replace HB:=dw HB hb
              (try clear hb)
              (try clear hb2)
              (try clear hk)
              (try clear hi)
              refine hK.out _ _ ⟨dz fq 0,dz fq 1,dz fq 2,dz fq 3,BG fV.out⟩ (fun hHeld=>?_)
              clear hK K
              refine eY avB ?_
              refine dW (i:=5) (N:=some 51) aY ?_
              refine lI aY ?_
              obtain ⟨LB,LC,LD,LF,alu,alv,alx,aly,alz,LG,LH,LJ,LK,alA,alB,alC,alD,alE⟩:=iH fV.out
              have aai:0≤((gT):Int):=of_decide_eq_true qN
              have aaj:(gT) < (aC.length:Int):=of_decide_eq_true qN
              obtain ⟨asZ,avC,Fz,FB,FC,FD⟩:=FE fH.out (gT) aai aaj
              cases avC
              replace Fz:=(HB.out.cell (World.block_lt_of_cell? w _ Fz)).trans Fz
              replace FB:=(HB.out.cell (World.block_lt_of_cell? w _ FB)).trans FB
              replace FC:=(HB.out.cell (World.block_lt_of_cell? w _ FC)).trans FC
              replace FD:=(HB.out.cell (World.block_lt_of_cell? w _ FD)).trans FD
              replace aai:=eq_true aai
              replace aaj:=eq_true aaj
              try go_wp2_with (first|((with_reducible refine aG (N:=15) rfl ?_);refine az (by rfl) (N:=15) (by rfl) (cs:=#[U Z 0,U Z 0,U Z 0,U Z 0]) (t:=40) fM ?_;intro lv hg w44 hbox hb;have p8:=aa.mk (hbox);have ayq:=dn HB hg;have ayr:=dn HB hg;have xg:=iq fV hg;have xh:=iw fV hg;have xk:=iq fq hg;have xm:=iw fq hg;have xn:=iq jM hg;have xq:=iw jM hg;have lK:=iq jA hg;have xu:=iw jA hg;replace fV:=bC fV hb;replace fq:=bC fq hb;replace jM:=bC jM hb;replace jA:=bC jA hb;replace HB:=dw HB hb;clear hb hbox hg;have ays:=xh.out;have ayt:=xg.out;have aik:=xm.out;have ail:=xk.out;have aim:=xq.out;have ain:=xn.out;have as0:=xu.out;have as1:=lK.out;obtain ⟨Vf,Vg,Vh,Vi,Vj,Vk,Vl,Vm⟩:=gD p8.out))
              have x9:aa (((((w44.setCell ⟨lv,0,none⟩ (U Z ((bu aC (gT)).f0.f0))).setCell ⟨lv,1,none⟩ (U Z ((bu aC (gT)).f0.f1))).setCell ⟨lv,2,none⟩ (U Z ((bu aC (gT)).f1.f0))).setCell ⟨lv,3,none⟩ (U Z ((bu aC (gT)).f1.f1))).heap[nG]? = some (.cells #[U Z ah,U Z ai,U Z ax,U Z ay,U Z aK,U Z aH,U Z aJ,.slice dG aR.length dH,.slice (some asZ) aC.length dI] 25 (0,0))):=⟨fB⟩
              have yc:aa (((((w44.setCell ⟨lv,0,none⟩ (U Z ((bu aC (gT)).f0.f0))).setCell ⟨lv,1,none⟩ (U Z ((bu aC (gT)).f0.f1))).setCell ⟨lv,2,none⟩ (U Z ((bu aC (gT)).f1.f0))).setCell ⟨lv,3,none⟩ (U Z ((bu aC (gT)).f1.f1))).heap[Ab]? = some (.cells #[U Z aQ,U Z aM,U Z bf,U Z bg] 31 (0,0))):=⟨fB⟩
              have yf:aa (((((w44.setCell ⟨lv,0,none⟩ (U Z ((bu aC (gT)).f0.f0))).setCell ⟨lv,1,none⟩ (U Z ((bu aC (gT)).f0.f1))).setCell ⟨lv,2,none⟩ (U Z ((bu aC (gT)).f1.f0))).setCell ⟨lv,3,none⟩ (U Z ((bu aC (gT)).f1.f1))).heap[Yb]? = some (.cells #[U Z 0,U Z 0,U Z 0,U Z 0] 40 (0,0))):=⟨fB⟩
              have yg:aa (((((w44.setCell ⟨lv,0,none⟩ (U Z ((bu aC (gT)).f0.f0))).setCell ⟨lv,1,none⟩ (U Z ((bu aC (gT)).f0.f1))).setCell ⟨lv,2,none⟩ (U Z ((bu aC (gT)).f1.f0))).setCell ⟨lv,3,none⟩ (U Z ((bu aC (gT)).f1.f1))).heap[O8]? = some (.cells #[U Z jV,U Z jh,U Z iJ,U Z gV] 40 (0,0))):=⟨fB⟩
              have Bf:aa (((((w44.setCell ⟨lv,0,none⟩ (U Z ((bu aC (gT)).f0.f0))).setCell ⟨lv,1,none⟩ (U Z ((bu aC (gT)).f0.f1))).setCell ⟨lv,2,none⟩ (U Z ((bu aC (gT)).f1.f0))).setCell ⟨lv,3,none⟩ (U Z ((bu aC (gT)).f1.f1))).heap[lv]? = some (.cells #[U Z ((bu aC (gT)).f0.f0),U Z ((bu aC (gT)).f0.f1),U Z ((bu aC (gT)).f1.f0),U Z ((bu aC (gT)).f1.f1)] 40 (0,0))):=⟨by (with_reducible repeat (first|refine au ?_ _|refine ag ?_|refine ae ?_ _));refine aI (cs:=#[U Z ((bu aC (gT)).f0.f0),U Z ((bu aC (gT)).f0.f1),U Z ((bu aC (gT)).f1.f0),U Z 0]) ?_ 3 _ rfl;(with_reducible repeat (first|refine au ?_ _|refine ag ?_|refine ae ?_ _));refine aI (cs:=#[U Z ((bu aC (gT)).f0.f0),U Z ((bu aC (gT)).f0.f1),U Z 0,U Z 0]) ?_ 2 _ rfl;(with_reducible repeat (first|refine au ?_ _|refine ag ?_|refine ae ?_ _));refine aI (cs:=#[U Z ((bu aC (gT)).f0.f0),U Z 0,U Z 0,U Z 0]) ?_ 1 _ rfl;(with_reducible repeat (first|refine au ?_ _|refine ag ?_|refine ae ?_ _));refine aI (cs:=#[U Z 0,U Z 0,U Z 0,U Z 0]) ?_ 0 _ rfl;(with_reducible repeat (first|refine au ?_ _|refine ag ?_|refine ae ?_ _));exact p8.out⟩
              have Li:aa (Below w.heap.size w ((((w44.setCell ⟨lv,0,none⟩ (U Z ((bu aC (gT)).f0.f0))).setCell ⟨lv,1,none⟩ (U Z ((bu aC (gT)).f0.f1))).setCell ⟨lv,2,none⟩ (U Z ((bu aC (gT)).f1.f0))).setCell ⟨lv,3,none⟩ (U Z ((bu aC (gT)).f1.f1)))):=⟨fu⟩
              (try clear fV)
              (try clear fq)
              (try clear jM)
              (try clear jA)
              (try clear p8)
              (try clear HB)
              generalize ((((w44.setCell ⟨lv,0,none⟩ (U Z ((bu aC (gT)).f0.f0))).setCell ⟨lv,1,none⟩ (U Z ((bu aC (gT)).f0.f1))).setCell ⟨lv,2,none⟩ (U Z ((bu aC (gT)).f1.f0))).setCell ⟨lv,3,none⟩ (U Z ((bu aC (gT)).f1.f1))) = w50 at x9 yc yf yg Bf Li ⊢
              have fV:=x9
              have fq:=yc
              have jM:=yf
              have jA:=yg
              have p8:=Bf
              have HB:=Li
              clear x9 yc yf yg Bf Li
              replace fV:=aa.mk (ag fV.out)
              replace fq:=aa.mk (ag fq.out)
              replace jM:=aa.mk (ag jM.out)
              replace jA:=aa.mk (ag jA.out)
              replace p8:=aa.mk (ag p8.out)
              replace HB:=aa.mk (bU HB.out)
              refine jT (n:=12) (S:=fun w'=>w'.cell? ⟨O8,0,none⟩ = some (U Z jV)∧w'.cell? ⟨O8,1,none⟩ = some (U Z jh)∧w'.cell? ⟨O8,2,none⟩ = some (U Z iJ)∧w'.cell? ⟨O8,3,none⟩ = some (U Z gV)∧w'.cell? ⟨lv,0,none⟩ = some (U Z ((bu aC (gT)).f0.f0))∧w'.cell? ⟨lv,1,none⟩ = some (U Z ((bu aC (gT)).f0.f1))∧w'.cell? ⟨lv,2,none⟩ = some (U Z ((bu aC (gT)).f1.f0))∧w'.cell? ⟨lv,3,none⟩ = some (U Z ((bu aC (gT)).f1.f1))) (ds:=[11]) #[ac,ac,ac,ac,ac,ac,ac,ac,ac,ac,ac,ac] aY rfl rfl (Ye jA.out (nV p8.out)) (fun hHeld=>?_);refine jg aZ.ayi aZ.avx (fun cO lS=>?_)
              generalize w50.drew = w51 at fV fq jM jA p8 HB hHeld ⊢
              refine dW (i:=0) (N:=some 71) (aU cO.out aY) ?_
              refine dW (i:=2) (N:=some 73) (aU cO.out aY) ?_
              refine dW (i:=5) (N:=some 76) (aU cO.out aY) ?_
              refine dW (i:=7) (N:=some 78) (aU cO.out aY) ?_
              refine ja (i:=1) (N:=some 72) (bS cO.out lS.out aY) hHeld ?_
              refine ja (i:=3) (N:=some 74) (bS cO.out lS.out aY) hHeld ?_
              refine ja (i:=6) (N:=some 77) (bS cO.out lS.out aY) hHeld ?_
              refine ja (i:=8) (N:=some 79) (bS cO.out lS.out aY) hHeld ?_
              refine jJ (i:=4) (N:=some 75) #[ab,ab,ab,ab,ab,ab,ab,ab,ab,ac,ac,ac] rfl rfl (gM cO.out aY) (by decide) (fun K hK=>?_)
              refine gQ Try.func120 aY rfl #[.agg #[U Z jV,U Z jh],.agg #[U Z ((bu aC (gT)).f0.f0),U Z ((bu aC (gT)).f0.f1)]] (by rfl) rfl rfl ayu ?_
              with_reducible refine (dC.calls jV jh ((bu aC (gT)).f0.f0) ((bu aC (gT)).f0.f1) aah afQ _ A34.out).mono ?_
              rintro e w52 ⟨rfl,hb⟩
              refine ⟨_,rfl,?_⟩
              replace fV:=bC fV hb
              replace fq:=bC fq hb
              replace jM:=bC jM hb
              replace jA:=bC jA hb
              replace p8:=bC p8 hb
              replace HB:=dw HB hb
              (try clear hb)
              (try clear hb2)
              (try clear hk)
              (try clear hi)
              refine hK.out _ _ (Ye jA.out (nV p8.out)) (fun hHeld=>?_)
              clear hK K
              refine eY (by show Act.put _ (some 75) _ = _;simp only [Act.put,List.setIfInBounds_toArray,List.set_cons_zero,List.set_cons_succ,eB,eH];rfl) ?_
              refine jJ (i:=9) (N:=some 80) #[ab,ab,ab,ab,ab,ab,ab,ab,ab,ab,ac,ac] rfl rfl (gM cO.out aY) (by decide) (fun K hK=>?_)
              refine gQ Try.func120 aY rfl #[.agg #[U Z iJ,U Z gV],.agg #[U Z ((bu aC (gT)).f1.f0),U Z ((bu aC (gT)).f1.f1)]] (by rfl) rfl rfl ayu ?_
              with_reducible refine (dC.calls iJ gV ((bu aC (gT)).f1.f0) ((bu aC (gT)).f1.f1) ald avz _ A35.out).mono ?_
              rintro e w53 ⟨rfl,hb⟩
              refine ⟨_,rfl,?_⟩
              replace fV:=bC fV hb
              replace fq:=bC fq hb
              replace jM:=bC jM hb
              replace jA:=bC jA hb
              replace p8:=bC p8 hb
              replace HB:=dw HB hb
              (try clear hb)
              (try clear hb2)
              (try clear hk)
              (try clear hi)
              refine hK.out _ _ (Ye jA.out (nV p8.out)) (fun hHeld=>?_)
              clear hK K
              refine eY (by show Act.put _ (some 80) _ = _;simp only [Act.put,List.setIfInBounds_toArray,List.set_cons_zero,List.set_cons_succ,eB,eH];rfl) ?_
              refine dW (i:=10) (N:=some 81) (aU cO.out aY) ?_
              refine Kg (i:=11) (N:=none) #[ab,ab,ab,ab,ab,ab,ab,ab,ab,ab,ab,ab] rfl rfl (gM cO.out aY) (by decide) (fun K hK=>?_)
              have aTU:w53.cell? ⟨lv,0,none⟩ = some (U Z ((bu aC (gT)).f0.f0)):=(af p8.out 0).trans rfl
              have aQY:=bn p8.out 0
              have aGj:=xg.out
              have aGk:=xk.out
              have aGl:=xn.out
              have aGm:=lK.out
              have aGn:=xh.out
              have aGo:=xm.out
              have aGp:=xq.out
              have aGq:=xu.out
              have aTV:w53.cell? ⟨lv,1,none⟩ = some (U Z ((bu aC (gT)).f0.f1)):=(af p8.out 1).trans rfl
              have aQZ:=bn p8.out 1
              have aGr:=xg.out
              have aGs:=xk.out
              have aGt:=xn.out
              have aGu:=lK.out
              have aGv:=xh.out
              have aGw:=xm.out
              have aGx:=xq.out
              have aGy:=xu.out
              have aTW:w53.cell? ⟨lv,2,none⟩ = some (U Z ((bu aC (gT)).f1.f0)):=(af p8.out 2).trans rfl
              have aQ0:=bn p8.out 2
              have aGz:=xg.out
              have aGA:=xk.out
              have aGB:=xn.out
              have aGC:=lK.out
              have aGD:=xh.out
              have aGE:=xm.out
              have aGF:=xq.out
              have aGG:=xu.out
              have aTX:w53.cell? ⟨lv,3,none⟩ = some (U Z ((bu aC (gT)).f1.f1)):=(af p8.out 3).trans rfl
              have aQ1:=bn p8.out 3
              have aGH:=xg.out
              have aGI:=xk.out
              have aGJ:=xn.out
              have aGK:=lK.out
              have aGL:=xh.out
              have aGM:=xm.out
              have aGN:=xq.out
              have aGO:=xu.out
              refine zD (w1:=?_) (by rfl) rfl ?_ ?_
              rotate_left
              ·go_simp
               rfl
              refine hK.out _ _ ?_
              clear hK K
              refine lI (lN cO.out aY) ?_
              obtain ⟨alF,alG,alH,alI,alJ,alK,alL,alM⟩:=gD p8.out
              have aio:=NY.out
              have aip:=NW.out
              have as2:=N7.out
              have as3:=NZ.out
              obtain ⟨alN,alO,aGP,aGQ,alP,alQ,aGR,aGS⟩:=gD jA.out
              try go_wp2
              go_roundg k3
              case measure=>have:=G5.out;have:=aag.out;have:=Yd.out;omega
              case rel=>exact ⟨(true),(wrap64 (fF+1)),(aah),(afQ),(ald),(avz),mg,mg,H',⟨alR⟩,⟨fB⟩,⟨fB⟩,⟨fB⟩,⟨by (with_reducible repeat (first|refine au ?_ _|refine ag ?_|refine ae ?_ _));refine aI (cs:=#[U Z aah,U Z afQ,U Z ald,U Z gV]) ?_ 3 _ rfl;(with_reducible repeat (first|refine au ?_ _|refine ag ?_|refine ae ?_ _));refine aI (cs:=#[U Z aah,U Z afQ,U Z iJ,U Z gV]) ?_ 2 _ rfl;(with_reducible repeat (first|refine au ?_ _|refine ag ?_|refine ae ?_ _));refine aI (cs:=#[U Z aah,U Z jh,U Z iJ,U Z gV]) ?_ 1 _ rfl;(with_reducible repeat (first|refine au ?_ _|refine ag ?_|refine ae ?_ _));refine aI (cs:=#[U Z jV,U Z jh,U Z iJ,U Z gV]) ?_ 0 _ rfl;(with_reducible repeat (first|refine au ?_ _|refine ag ?_|refine ae ?_ _));refine aj ?_ lK.out _;(with_reducible repeat (first|refine au ?_ _|refine ag ?_|refine ae ?_ _));refine aj ?_ lK.out _;(with_reducible repeat (first|refine au ?_ _|refine ag ?_|refine ae ?_ _));refine aj ?_ lK.out _;(with_reducible repeat (first|refine au ?_ _|refine ag ?_|refine ae ?_ _));refine aj ?_ lK.out _;(with_reducible repeat (first|refine au ?_ _|refine ag ?_|refine ae ?_ _));exact jA.out⟩,⟨fu⟩⟩
             ·replace c33:=Bool.eq_false_iff.mpr c33
              subst c33
              have H1:(aZ.l1 k3 a2 a3 a4 true cB (wrap64 (fF+1)) ah ai ax ay aK aH aJ aR aC aQ aM bf bg ((bu aC (gT)).f0.f0) ((bu aC (gT)).f0.f1) ((bu aC (gT)).f1.f0) ((bu aC (gT)).f1.f1)) = some (r1,r2,r3,r4):=by rw [if_neg (show ¬ (false = true) by decide)] at H;exact H
              clear H
              have H:=H1
              clear H1
              have H':=aa.mk H
              clear H
              have aQ2:=uE.out
              have aQ3:=uF.out
              have as4:=uG.out
              have as5:=uH.out
              have as6:=uI.out
              have as7:=uJ.out
              obtain ⟨alS,alT,alU,alV,alW,alX,alY,aGT,aGU,alZ,al0,al1,al2,al3,al4,al5,aGV,aGW⟩:=iH fV.out
              try go_wp2
              replace fV:=aa.mk (ag fV.out)
              replace fq:=aa.mk (ag fq.out)
              replace jM:=aa.mk (ag jM.out)
              replace jA:=aa.mk (ag jA.out)
              replace HB:=aa.mk (bU HB.out)
              refine jT (n:=6) (S:=fun w'=>w'.cell? ⟨Ab,0,none⟩ = some (U Z aQ)∧w'.cell? ⟨Ab,1,none⟩ = some (U Z aM)∧w'.cell? ⟨Ab,2,none⟩ = some (U Z bf)∧w'.cell? ⟨Ab,3,none⟩ = some (U Z bg)∧w'.cell? ⟨nG,0,none⟩ = some (U Z ah)∧w'.cell? ⟨nG,1,none⟩ = some (U Z ai)∧w'.cell? ⟨nG,2,none⟩ = some (U Z ax)∧w'.cell? ⟨nG,3,none⟩ = some (U Z ay)∧w'.cell? ⟨nG,4,none⟩ = some (U Z aK)∧w'.cell? ⟨nG,5,none⟩ = some (U Z aH)∧w'.cell? ⟨nG,6,none⟩ = some (U Z aJ)∧w'.cell? ⟨nG,7,none⟩ = some (.slice dG aR.length dH)∧w'.cell? ⟨nG,8,none⟩ = some (.slice dJ aC.length dI)) (ds:=[]) #[ac,ac,ac,ac,ac,ac] aY rfl rfl ⟨dz fq 0,dz fq 1,dz fq 2,dz fq 3,BG fV.out⟩ (fun hHeld=>?_)
              generalize wr.drew = w66 at fV fq jM jA HB hHeld ⊢
              refine dW (i:=2) (N:=some 48) aY ?_
              refine ja (i:=0) (N:=some 46) aY hHeld ?_
              refine ja (i:=1) (N:=some 47) aY hHeld ?_
              refine jJ (i:=3) (N:=some 49) #[ab,ab,ab,ab,ac,ac] rfl rfl aY (by decide) (fun K hK=>?_)
              refine gQ Try.func42 aY rfl #[.agg #[U Z ah,U Z ai,U Z ax,U Z ay,U Z aK,U Z aH,U Z aJ,.slice dG aR.length dH,.slice dJ aC.length dI],U Z fF] (by rfl) rfl rfl iG ?_
              with_reducible refine (jY.calls ah ai ax ay aK aH aJ _ _ aR _ _ aC fF SY S9 Ta Tc _ ?df ?dh ?dK ?dL A27.out).mono ?_
              (case df=>repeat (first|exact (Kd.bz gq.out HB.out)|(with_reducible refine Kd.bA ?_ _)|(with_reducible refine Kd.bB ?_ _)|(with_reducible refine Kd.bQ ?_)))
              (case dh=>exact gu.out)
              (case dK=>repeat (first|exact (Kd.bz fH.out HB.out)|(with_reducible refine Kd.bA ?_ _)|(with_reducible refine Kd.bB ?_ _)|(with_reducible refine Kd.bQ ?_)))
              (case dL=>exact gz.out)
              rintro e w67 ⟨rfl,hb⟩
              refine ⟨_,rfl,?_⟩
              replace fV:=bC fV hb
              replace fq:=bC fq hb
              replace jM:=bC jM hb
              replace jA:=bC jA hb
              replace HB:=dw HB hb
              (try clear hb)
              (try clear hb2)
              (try clear hk)
              (try clear hi)
              refine hK.out _ _ ⟨dz fq 0,dz fq 1,dz fq 2,dz fq 3,BG fV.out⟩ (fun hHeld=>?_)
              clear hK K
              refine eY avA ?_
              refine jJ (i:=4) (N:=some 50) #[ab,ab,ab,ab,ab,ac] rfl rfl aY (by decide) (fun K hK=>?_)
              refine gQ Try.func104 aY rfl #[.agg #[U Z aQ,U Z aM,U Z bf,U Z bg],.agg #[U Z SY,U Z S9,U Z Ta,U Z Tc]] (by rfl) rfl rfl iG ?_
              with_reducible refine (fI.calls aQ aM bf bg SY S9 Ta Tc true _ A28.out).mono ?_
              rintro e w68 ⟨rfl,hb⟩
              refine ⟨_,rfl,?_⟩
              replace fV:=bC fV hb
              replace fq:=bC fq hb
              replace jM:=bC jM hb
              replace jA:=bC jA hb
              replace HB:=dw HB hb
              (try clear hb)
              (try clear hb2)
              (try clear hk)
              (try clear hi)
              refine hK.out _ _ ⟨dz fq 0,dz fq 1,dz fq 2,dz fq 3,BG fV.out⟩ (fun hHeld=>?_)
              clear hK K
              refine eY avB ?_
              refine dW (i:=5) (N:=some 51) aY ?_
              refine lI aY ?_
              obtain ⟨al6,al7,al8,al9,ama,amb,amc,aGX,aGY,amd,ame,amf,amg,amh,ami,amj,aGZ,aG0⟩:=iH fV.out
              have aai:0≤((gT):Int):=of_decide_eq_true qN
              have aaj:(gT) < (aC.length:Int):=of_decide_eq_true qN
              obtain ⟨asZ,avC,Fz,FB,FC,FD⟩:=FE fH.out (gT) aai aaj
              cases avC
              replace Fz:=(HB.out.cell (World.block_lt_of_cell? w _ Fz)).trans Fz
              replace FB:=(HB.out.cell (World.block_lt_of_cell? w _ FB)).trans FB
              replace FC:=(HB.out.cell (World.block_lt_of_cell? w _ FC)).trans FC
              replace FD:=(HB.out.cell (World.block_lt_of_cell? w _ FD)).trans FD
              replace aai:=eq_true aai
              replace aaj:=eq_true aaj
              try go_wp2_with (first|((with_reducible refine aG (N:=15) rfl ?_);refine az (by rfl) (N:=15) (by rfl) (cs:=#[U Z 0,U Z 0,U Z 0,U Z 0]) (t:=40) fM ?_;intro lv hg w70 hbox hb;have p8:=aa.mk (hbox);have ayq:=dn HB hg;have ayr:=dn HB hg;have xg:=iq fV hg;have xh:=iw fV hg;have xk:=iq fq hg;have xm:=iw fq hg;have xn:=iq jM hg;have xq:=iw jM hg;have lK:=iq jA hg;have xu:=iw jA hg;replace fV:=bC fV hb;replace fq:=bC fq hb;replace jM:=bC jM hb;replace jA:=bC jA hb;replace HB:=dw HB hb;clear hb hbox hg;have as8:=xh.out;have as9:=xg.out;have ayv:=xm.out;have ayw:=xk.out;have ayx:=xq.out;have ayy:=xn.out;have ata:=xu.out;have atb:=lK.out;obtain ⟨amk,aml,amm,amn,amo,amq,amr,ams⟩:=gD p8.out;have atc:=NY.out;have atd:=NW.out;have aQ6:=N7.out;have aQ7:=NZ.out;obtain ⟨aG1,aG2,aG3,aG4,aG5,aG6,aG7,aG8⟩:=gD jA.out))
              go_roundg k3
              case measure=>have:=G5.out;have:=aag.out;have:=Yd.out;omega
              case rel=>exact ⟨(true),(wrap64 (fF+1)),((bu aC (gT)).f0.f0),((bu aC (gT)).f0.f1),((bu aC (gT)).f1.f0),((bu aC (gT)).f1.f1),mg,mg,H',⟨alR⟩,⟨fB⟩,⟨fB⟩,⟨fB⟩,⟨by (with_reducible repeat (first|refine au ?_ _|refine ag ?_|refine ae ?_ _));refine aI (cs:=#[U Z ((bu aC (gT)).f0.f0),U Z ((bu aC (gT)).f0.f1),U Z ((bu aC (gT)).f1.f0),U Z gV]) ?_ 3 _ rfl;(with_reducible repeat (first|refine au ?_ _|refine ag ?_|refine ae ?_ _));refine aI (cs:=#[U Z ((bu aC (gT)).f0.f0),U Z ((bu aC (gT)).f0.f1),U Z iJ,U Z gV]) ?_ 2 _ rfl;(with_reducible repeat (first|refine au ?_ _|refine ag ?_|refine ae ?_ _));refine aI (cs:=#[U Z ((bu aC (gT)).f0.f0),U Z jh,U Z iJ,U Z gV]) ?_ 1 _ rfl;(with_reducible repeat (first|refine au ?_ _|refine ag ?_|refine ae ?_ _));refine aI (cs:=#[U Z jV,U Z jh,U Z iJ,U Z gV]) ?_ 0 _ rfl;(with_reducible repeat (first|refine au ?_ _|refine ag ?_|refine ae ?_ _));refine aj ?_ lK.out _;(with_reducible repeat (first|refine au ?_ _|refine ag ?_|refine ae ?_ _));refine aj ?_ lK.out _;(with_reducible repeat (first|refine au ?_ _|refine ag ?_|refine ae ?_ _));refine aj ?_ lK.out _;(with_reducible repeat (first|refine au ?_ _|refine ag ?_|refine ae ?_ _));refine aj ?_ lK.out _;(with_reducible repeat (first|refine au ?_ _|refine ag ?_|refine ae ?_ _));exact jA.out⟩,⟨fu⟩⟩
            ·rw [if_neg c32] at H
             exact absurd H (by simp)
           ·rw [if_neg c31] at H
            exact absurd H (by simp)
          ·replace c29:=Bool.eq_false_iff.mpr c29
           subst c29
           have H1:(aZ.l1 k3 a2 a3 a4 Eg cB (wrap64 (fF+1)) ah ai ax ay aK aH aJ aR aC aQ aM bf bg jV jh iJ gV) = some (r1,r2,r3,r4):=by rw [if_neg (show ¬ (false = true) by decide)] at H;exact H
           clear H
           have H:=H1
           clear H1
           have H':=aa.mk H
           clear H
           have abD:=uE.out
           have abE:=uF.out
           have ate:=uG.out
           have atf:=uH.out
           have ayz:=uI.out
           have ayA:=uJ.out
           obtain ⟨amt,amu,amv,amw,amx,amy,amz,aG9,aHa,amA,amB,amC,amD,amE,amF,amG,aHb,aHc⟩:=iH fV.out
           try go_wp2
           replace fV:=aa.mk (ag fV.out)
           replace fq:=aa.mk (ag fq.out)
           replace jM:=aa.mk (ag jM.out)
           replace jA:=aa.mk (ag jA.out)
           replace HB:=aa.mk (bU HB.out)
           refine jT (n:=6) (S:=fun w'=>w'.cell? ⟨Ab,0,none⟩ = some (U Z aQ)∧w'.cell? ⟨Ab,1,none⟩ = some (U Z aM)∧w'.cell? ⟨Ab,2,none⟩ = some (U Z bf)∧w'.cell? ⟨Ab,3,none⟩ = some (U Z bg)∧w'.cell? ⟨nG,0,none⟩ = some (U Z ah)∧w'.cell? ⟨nG,1,none⟩ = some (U Z ai)∧w'.cell? ⟨nG,2,none⟩ = some (U Z ax)∧w'.cell? ⟨nG,3,none⟩ = some (U Z ay)∧w'.cell? ⟨nG,4,none⟩ = some (U Z aK)∧w'.cell? ⟨nG,5,none⟩ = some (U Z aH)∧w'.cell? ⟨nG,6,none⟩ = some (U Z aJ)∧w'.cell? ⟨nG,7,none⟩ = some (.slice dG aR.length dH)∧w'.cell? ⟨nG,8,none⟩ = some (.slice dJ aC.length dI)) (ds:=[]) #[ac,ac,ac,ac,ac,ac] aY rfl rfl ⟨dz fq 0,dz fq 1,dz fq 2,dz fq 3,BG fV.out⟩ (fun hHeld=>?_)
           generalize wr.drew = w83 at fV fq jM jA HB hHeld ⊢
           refine dW (i:=2) (N:=some 48) aY ?_
           refine ja (i:=0) (N:=some 46) aY hHeld ?_
           refine ja (i:=1) (N:=some 47) aY hHeld ?_
           refine jJ (i:=3) (N:=some 49) #[ab,ab,ab,ab,ac,ac] rfl rfl aY (by decide) (fun K hK=>?_)
           refine gQ Try.func42 aY rfl #[.agg #[U Z ah,U Z ai,U Z ax,U Z ay,U Z aK,U Z aH,U Z aJ,.slice dG aR.length dH,.slice dJ aC.length dI],U Z fF] (by rfl) rfl rfl iG ?_
           with_reducible refine (jY.calls ah ai ax ay aK aH aJ _ _ aR _ _ aC fF SY S9 Ta Tc _ ?df ?dh ?dK ?dL A27.out).mono ?_
           (case df=>repeat (first|exact (Kd.bz gq.out HB.out)|(with_reducible refine Kd.bA ?_ _)|(with_reducible refine Kd.bB ?_ _)|(with_reducible refine Kd.bQ ?_)))
           (case dh=>exact gu.out)
           (case dK=>repeat (first|exact (Kd.bz fH.out HB.out)|(with_reducible refine Kd.bA ?_ _)|(with_reducible refine Kd.bB ?_ _)|(with_reducible refine Kd.bQ ?_)))
           (case dL=>exact gz.out)
           rintro e w84 ⟨rfl,hb⟩
           refine ⟨_,rfl,?_⟩
           replace fV:=bC fV hb
           replace fq:=bC fq hb
           replace jM:=bC jM hb
           replace jA:=bC jA hb
           replace HB:=dw HB hb
           (try clear hb)
           (try clear hb2)
           (try clear hk)
           (try clear hi)
           refine hK.out _ _ ⟨dz fq 0,dz fq 1,dz fq 2,dz fq 3,BG fV.out⟩ (fun hHeld=>?_)
           clear hK K
           refine eY avA ?_
           refine jJ (i:=4) (N:=some 50) #[ab,ab,ab,ab,ab,ac] rfl rfl aY (by decide) (fun K hK=>?_)
           refine gQ Try.func104 aY rfl #[.agg #[U Z aQ,U Z aM,U Z bf,U Z bg],.agg #[U Z SY,U Z S9,U Z Ta,U Z Tc]] (by rfl) rfl rfl iG ?_
           with_reducible refine (fI.calls aQ aM bf bg SY S9 Ta Tc false _ A28.out).mono ?_
           rintro e w85 ⟨rfl,hb⟩
           refine ⟨_,rfl,?_⟩
           replace fV:=bC fV hb
           replace fq:=bC fq hb
           replace jM:=bC jM hb
           replace jA:=bC jA hb
           replace HB:=dw HB hb
           (try clear hb)
           (try clear hb2)
           (try clear hk)
           (try clear hi)
           refine hK.out _ _ ⟨dz fq 0,dz fq 1,dz fq 2,dz fq 3,BG fV.out⟩ (fun hHeld=>?_)
           clear hK K
           refine eY avB ?_
           refine dW (i:=5) (N:=some 51) aY ?_
           refine lI aY ?_
           try go_wp2
           go_roundg k3
           case measure=>have:=G5.out;have:=aag.out;have:=Yd.out;omega
           case rel=>exact ⟨(Eg),(wrap64 (fF+1)),(jV),(jh),(iJ),(gV),mg,mg,H',⟨alR⟩,⟨fB⟩,⟨fB⟩,⟨fB⟩,⟨fB⟩,⟨fu⟩⟩
         ·rw [if_neg K3] at H
          have TV:decide (fF < (wrap64 (ah*ai))) = false:=decide_eq_false K3
          clear K3
          have H':=aa.mk H
          clear H
          have aQ8:=uE.out
          have aQ9:=uF.out
          have aRa:=uG.out
          have aRb:=uH.out
          have aRc:=uI.out
          have aRd:=uJ.out
          obtain ⟨amH,amI,amJ,amK,amL,amM,amN,aHd,aHe,amO,amP,amQ,amR,amS,amT,amU,aHf,aHg⟩:=iH fV.out
          go_wp2
          go_roundg k3
          case measure=>have:=G5.out;have:=aag.out;have:=Yd.out;omega
          case rel=>exact ⟨(Eg),(wrap64 (cB+1)),(jV),(jh),(iJ),(gV),mg,mg,H',⟨alR⟩,⟨fB⟩,⟨fB⟩,⟨fB⟩,⟨fB⟩,⟨fu⟩⟩
   ·rw [if_neg c10] at H
    have Cn:decide (cB < aK) = false:=decide_eq_false c10
    clear c10
    simp only [Option.some.injEq,Prod.mk.injEq] at H
    obtain ⟨rfl,rfl,rfl,rfl⟩:=H
    have ayB:=uE.out
    have ayC:=uF.out
    have ayD:=uG.out
    have ayE:=uH.out
    have ayF:=uI.out
    have ayG:=uJ.out
    obtain ⟨amV,amW,amX,amY,amZ,am0,am1,aHh,aHi,am2,am3,am4,am5,am6,am7,am8,aHj,aHk⟩:=iH fV.out
    have ayH:=NY.out
    have ayI:=NW.out
    have aRe:=N7.out
    have aRf:=NZ.out
    obtain ⟨am9,ana,anb,anc,ane,anf,ang,anh⟩:=gD jA.out
    have ayJ:=afP.out
    have ayK:=afO.out
    obtain ⟨abF,abG,abH,abI,abJ,abK,abL,abM⟩:=gD jM.out
    go_wp2
    refine bodyPost_ret (results_cell_row rfl _ _ Yb 40 #[U Z mR,U Z nW,U Z pg,U Z qf] (0,0) _ rfl (by (with_reducible repeat (first|refine au ?_ _|refine ag ?_|refine ae ?_ _));refine aI (cs:=#[U Z mR,U Z nW,U Z pg,U Z 0]) ?_ 3 _ rfl;(with_reducible repeat (first|refine au ?_ _|refine ag ?_|refine ae ?_ _));refine aI (cs:=#[U Z mR,U Z nW,U Z 0,U Z 0]) ?_ 2 _ rfl;(with_reducible repeat (first|refine au ?_ _|refine ag ?_|refine ae ?_ _));refine aI (cs:=#[U Z mR,U Z 0,U Z 0,U Z 0]) ?_ 1 _ rfl;(with_reducible repeat (first|refine au ?_ _|refine ag ?_|refine ae ?_ _));refine aI (cs:=#[U Z 0,U Z 0,U Z 0,U Z 0]) ?_ 0 _ rfl;(with_reducible repeat (first|refine au ?_ _|refine ag ?_|refine ae ?_ _));exact jM.out) Try.underlying40 rfl aY) rfl ?_
    exact ⟨kL,fu⟩
end Go.Proofs.Ytmhaiihjfgfaoaa.Pr
end
