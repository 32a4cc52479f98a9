import Derived.Test.YtmhaiihjfgfaoaaGzGliderReaches3
import Derived.Test.YtmhaiihjfgfaoaaGzGliderReaches15
import Derived.Test.YtmhaiihjfgfaoaaGzGliderReaches18
import Derived.Test.YtmhaiihjfgfaoaaGzGliderReaches16
open Go.Value renaming int → U
open Go.IntKind renaming i64 → Z
open Bool renaming true → ab, false → ac
section
namespace Go.Proofs.Ytmhaiihjfgfaoaa.Pr
open Go.RowKit Go.Proofs.YtmhaiihjfgfaoaaW.PrintWords Go.Proofs.YtmhaiihjfgfaoaaW.PrintLast Go.Proofs.YtmhaiihjfgfaoaaW.PrintMore
attribute [local go_sem] eD eF fD fE eG
set_option linter.unusedVariables false
set_option linter.unusedSimpArgs false
mutual
def aX.l0:Nat→Int→Int→List (dO)→Int→Int→Int→Int→Int→Int→Int→Int→List Bool→List (oV)→Int→Int→Int→Int→Int→Int→Int→Int→Int→Int→Int→Option ((List (dO)) × Bool)
 |0,_,_,_,_,_,_,_,_,_,_,_,_,_,_,_,_,_,_,_,_,_,_,_,_=>none
 |k+1,x3,x4,wB,xe,yt,yu,yw,yx,yz,vM,yA,yB,yC,yD,tK,yE,yF,yG,yH,yI,AP,AQ,AR,AU=>if xe < x4 then ((dx.f k yt yu yw yx yz vM yA yB yC yD tK yE yF yG yH yI AP AQ AR AU (wrap64 (x3+(wrap64 (xe*tK))))).bind fun anj=>(if anj = true then (aX.l1 k x3 x4 wB xe 0 yt yu yw yx yz vM yA yB yC yD tK yE yF yG yH yI AP AQ AR AU 0 0 0 0) else (some (([]:List (dO)),false)))) else (some (wB,true))
def aX.l1:Nat→Int→Int→List (dO)→Int→Int→Int→Int→Int→Int→Int→Int→Int→List Bool→List (oV)→Int→Int→Int→Int→Int→Int→Int→Int→Int→Int→Int→Int→Int→Int→Int→Option ((List (dO)) × Bool)
 |0,_,_,_,_,_,_,_,_,_,_,_,_,_,_,_,_,_,_,_,_,_,_,_,_,_,_,_,_,_=>none
 |k+1,x3,x4,wB,xe,x15,yt,yu,yw,yx,yz,vM,yA,yB,yC,yD,tK,yE,yF,yG,yH,yI,AP,AQ,AR,AU,IM,IP,IQ,IU=>if x15 < 9 then (aX.l2 k x3 x4 wB xe x15 0 yt yu yw yx yz vM yA yB yC yD tK yE yF yG yH yI AP AQ AR AU IM IP IQ IU) else (if wB.length < 4398046511104 then (aX.l0 k x3 x4 (wB++[(⟨(⟨IM,IP⟩:lu),(⟨IQ,IU⟩:lu)⟩:dO)]) (wrap64 (xe+1)) yt yu yw yx yz vM yA yB yC yD tK yE yF yG yH yI IM IP IQ IU) else (none))
def aX.l2:Nat→Int→Int→List (dO)→Int→Int→Int→Int→Int→Int→Int→Int→Int→Int→List Bool→List (oV)→Int→Int→Int→Int→Int→Int→Int→Int→Int→Int→Int→Int→Int→Int→Int→Option ((List (dO)) × Bool)
 |0,_,_,_,_,_,_,_,_,_,_,_,_,_,_,_,_,_,_,_,_,_,_,_,_,_,_,_,_,_,_=>none
 |k+1,x3,x4,wB,xe,x15,Yg,yt,yu,yw,yx,yz,vM,yA,yB,yC,yD,tK,yE,yF,yG,yH,yI,AP,AQ,AR,AU,IM,IP,IQ,IU=>if Yg < vM then ((cZ.f k yt yu yw yx yz vM yA yB yC yD tK yE yF yG yH yI AP AQ AR AU (wrap64 (x3+(wrap64 (xe*tK)))) x15 Yg).bind fun O9=>(if (wrap64 (x15+Yg)) > 0 then ((dC.f IM IP O9.1 O9.2.1).bind fun Yh=>((dC.f IQ IU O9.2.2.1 O9.2.2.2).bind fun Pb=>(aX.l2 k x3 x4 wB xe x15 (wrap64 (Yg+1)) yt yu yw yx yz vM yA yB yC yD tK yE yF yG yH yI AP AQ AR AU Yh.1 Yh.2 Pb.1 Pb.2))) else (aX.l2 k x3 x4 wB xe x15 (wrap64 (Yg+1)) yt yu yw yx yz vM yA yB yC yD tK yE yF yG yH yI AP AQ AR AU O9.1 O9.2.1 O9.2.2.1 O9.2.2.2))) else (aX.l1 k x3 x4 wB xe (wrap64 (x15+1)) yt yu yw yx yz vM yA yB yC yD tK yE yF yG yH yI AP AQ AR AU IM IP IQ IU)
end
def aX.f (k:Nat) (ah:Int) (ai:Int) (ax:Int) (ay:Int) (aK:Int) (aH:Int) (aJ:Int) (aR:List Bool) (aC:List (oV)) (aQ:Int) (aM:Int) (bf:Int) (bg:Int) (bD:Int) (bE:Int) (bF:Int) (bJ:Int) (bK:Int) (bM:Int) (bN:Int) (a3:Int) (a4:Int):Option ((List (dO)) × Bool):=aX.l0 k a3 a4 ([]:List (dO)) 0 ah ai ax ay aK aH aJ aR aC aQ aM bf bg bD bE bF bJ bK bM bN
def aX.T16:Bool × List (List Nat × List Nat):=(true,[([],[]),([0],[0]),([],[]),([2],[2]),([1,3],[1,3]),([],[]),([5],[5]),([],[]),([7],[7]),([6,8,4],[6,8]),([4,9],[4,9]),([10,9,0,1,2,3,4,5,6,7,8,9,10],[10])])
def aX.B16:List Nat:=[0,1,0,4,15,0,32,0,128,511,1023,2047]
theorem aX.T9:qX .any (opsOf Try.f102 16) = aX.T16:=by kernel_rfl
theorem aX.N8:ou aX.T16.2 aX.B16 = true:=by kernel_rfl
set_option maxHeartbeats 8000000 in
set_option maxRecDepth 100000 in
theorem aX.calls (k:Nat) (ah:Int) (ai:Int) (ax:Int) (ay:Int) (aK:Int) (aH:Int) (aJ:Int) (dG:Option Addr) (dH:Nat) (aR:List Bool) (dJ:Option Addr) (dI:Nat) (aC:List (oV)) (aQ:Int) (aM:Int) (bf:Int) (bg:Int) (bD:Int) (bE:Int) (bF:Int) (bJ:Int) (bK:Int) (bM:Int) (bN:Int) (a3:Int) (a4:Int) (r1:List (dO)) (r2:Bool) (w:World) (iU:Kd.C Kd.bool w dG aR.length aR) (iV:aR.length≤dH) (iW:Kd.C DD w dJ aC.length aC) (iX:aC.length≤dI) (h:aX.f k ah ai ax ay aK aH aJ aR aC aQ aM bf bg bD bE bF bJ bK bM bN a3 a4 = some (r1,r2)):
 Calls Try.prog 102 #[.agg #[U Z ah,U Z ai,U Z ax,U Z ay,U Z aK,U Z aH,U Z aJ,.slice dG aR.length dH,.slice dJ aC.length dI],.agg #[U Z aQ,U Z aM,U Z bf,U Z bg,U Z bD,U Z bE,U Z bF],.agg #[U Z bJ,U Z bK,U Z bM,U Z bN],U Z a3,U Z a4] w fun e w'=>∃ Vn:Value,e = .returned (.tuple #[Vn,.bool r2])∧Kd.R Iy 31 w' w.heap.size (fun _=>True) Vn r1∧Below w.heap.size w w':=by
 have zR:=Try.underlying25
 have Cb:=Try.underlying29
 have oP:=Try.underlying31
 have SH:=Try.underlying33
 have oo:=Try.underlying27
 have gq:=aa.mk iU
 have gu:=aa.mk iV
 clear iU iV
 have fH:=aa.mk iW
 have gz:=aa.mk iX
 clear iW iX
 have HB:=aa.mk (Below.refl w.heap.size w)
 have H:(aX.l0 k a3 a4 ([]:List (dO)) 0 ah ai ax ay aK aH aJ aR aC aQ aM bf bg bD bE bF bJ bK bM bN) = some (r1,r2):=h
 clear h
 have H':=aa.mk H
 clear H
 go_enter Try.func102,Try.ntmps102
 go_wp2_with (first|((with_reducible refine aG (N:=5) rfl ?_);refine az (by rfl) (N:=5) (by rfl) (cs:=#[U Z ah,U Z ai,U Z ax,U Z ay,U Z aK,U Z aH,U Z aJ,.slice dG aR.length dH,.slice dJ aC.length dI]) (t:=25) fM ?_;intro Yi hg w6 hbox hb;have jG:=aa.mk (hbox);have aRy:=dn HB hg;have aRz:=dn HB hg;replace HB:=dw HB hb;clear hb hbox hg)|((with_reducible refine aG (N:=6) rfl ?_);refine az (by rfl) (N:=6) (by rfl) (cs:=#[U Z aQ,U Z aM,U Z bf,U Z bg,U Z bD,U Z bE,U Z bF]) (t:=29) fM ?_;intro Yj hg w7 hbox hb;have j6:=aa.mk (hbox);have aRA:=dn HB hg;have aRB:=dn HB hg;have Em:=iq jG hg;have Eo:=iw jG hg;replace jG:=bC jG hb;replace HB:=dw HB hb;clear hb hbox hg)|((with_reducible refine aG (N:=7) rfl ?_);refine az (by rfl) (N:=7) (by rfl) (cs:=#[U Z bJ,U Z bK,U Z bM,U Z bN]) (t:=31) fM ?_;intro Ac hg w8 hbox hb;have kJ:=aa.mk (hbox);have aRC:=dn HB hg;have aRD:=dn HB hg;have Bi:=iq jG hg;have Bj:=iw jG hg;have Ep:=iq j6 hg;have Er:=iw j6 hg;replace jG:=bC jG hb;replace j6:=bC j6 hb;replace HB:=dw HB hb;clear hb hbox hg))
 go_loopg [12,13] k (fun kq v12 v13 w'=>∃ (cK:List (dO)) (cB:Int) (iK:Int) (gY:Int) (gJ:Int) (gm:Int),v13 = U Z cB∧aa (aX.l0 kq a3 a4 cK cB ah ai ax ay aK aH aJ aR aC aQ aM bf bg bD bE bF iK gY gJ gm = some (r1,r2))∧aa (kq≤k)∧aa (Kd.R Iy 31 w' w.heap.size (fun k_=>k_≠Ac) v12 cK)∧aa (w'.heap[Yi]? = some (.cells #[U Z ah,U Z ai,U Z ax,U Z ay,U Z aK,U Z aH,U Z aJ,(.slice dG aR.length dH),(.slice dJ aC.length dI)] 25 (0,0)))∧aa (w'.heap[Yj]? = some (.cells #[U Z aQ,U Z aM,U Z bf,U Z bg,U Z bD,U Z bE,U Z bF] 29 (0,0)))∧aa (w'.heap[Ac]? = some (.cells #[U Z iK,U Z gY,U Z gJ,U Z gm] 31 (0,0)))∧aa (Below w.heap.size w w'))
 case atStart=>exact ⟨(([]:List (dO))),(0),(bJ),(bK),(bM),(bN),mg,H',⟨Nat.le_refl _⟩,⟨N9⟩,⟨fB⟩,⟨fB⟩,⟨fB⟩,⟨fu⟩⟩
 case round =>
  clear H'
  try clear c1
  try clear p2
  obtain ⟨cK,cB,iK,gY,gJ,gm,rfl,HA,G5,mi,jG,j6,kJ,HB⟩:=hrel
  cases gk with
  |zero=>exact absurd HA.out (by simp [aX.l0])
  |succ k1 =>
   have H:=HA.out
   clear HA
   simp only [aX.l0] at H
   by_cases c9:cB < a4
   ·rw [if_pos c9] at H
    have LM:decide (cB < a4) = true:=decide_eq_true c9
    clear c9
    replace H:=Option.bind_eq_some_iff.mp H
    obtain ⟨anj,FJ,H⟩:=H
    replace H:(if anj = true then (aX.l1 k1 a3 a4 cK cB 0 ah ai ax ay aK aH aJ aR aC aQ aM bf bg bD bE bF iK gY gJ gm 0 0 0 0) else (some (([]:List (dO)),false))) = some (r1,r2):=H
    have TH:=aa.mk FJ
    clear FJ
    by_cases c11:anj = true
    ·subst c11
     have H1:(aX.l1 k1 a3 a4 cK cB 0 ah ai ax ay aK aH aJ aR aC aQ aM bf bg bD bE bF iK gY gJ gm 0 0 0 0) = some (r1,r2):=by rw [if_pos rfl] at H;exact H
     clear H
     have H:=H1
     clear H1
     have H':=aa.mk H
     clear H
     have ayj:=Em.out
     have ayk:=Eo.out
     have XX:=Bi.out
     have XY:=Bj.out
     obtain ⟨vg,vk,Ci,Cj,UT,UU,UW,abN,abO,vo,vv,Ck,Cm,UX,UY,UZ,abP,abQ⟩:=iH jG.out
     have Yk:=Ep.out
     have Yl:=Er.out
     obtain ⟨CG,CJ,LP,LQ,Qg,Qh,Qi,CK,CL,LU,LV,Qj,Qk,Ql⟩:=jb j6.out
     obtain ⟨lW,lX,nM,nN,lY,lZ,nO,nP⟩:=gD kJ.out
     go_wp2_with (first|((with_reducible refine aN (f:=105) rfl ?_);refine bT (some 32) rfl rfl Try.func105 aY rfl #[.agg #[U Z ah,U Z ai,U Z ax,U Z ay,U Z aK,U Z aH,U Z aJ,.slice dG aR.length dH,.slice dJ aC.length dI],.agg #[U Z aQ,U Z aM,U Z bf,U Z bg,U Z bD,U Z bE,U Z bF],.agg #[U Z iK,U Z gY,U Z gJ,U Z gm],U Z (wrap64 (a3+(wrap64 (cB*aM))))] rfl iG ?_;(with_reducible refine (dx.calls k1 ah ai ax ay aK aH aJ _ _ aR _ _ aC aQ aM bf bg bD bE bF iK gY gJ gm (wrap64 (a3+(wrap64 (cB*aM)))) true _ ?df ?dh ?dK ?dL TH.out).mono ?_);(case df=>repeat (first|exact (Kd.bz gq.out HB.out)|(with_reducible refine Kd.bA ?_ _)|(with_reducible refine Kd.bB ?_ _)|(with_reducible refine Kd.bQ ?_)));(case dh=>exact gu.out);(case dK=>repeat (first|exact (Kd.bz fH.out HB.out)|(with_reducible refine Kd.bA ?_ _)|(with_reducible refine Kd.bB ?_ _)|(with_reducible refine Kd.bQ ?_)));(case dL=>exact gz.out);rintro e w18 ⟨rfl,hb⟩;refine ⟨_,rfl,?_⟩;replace mi:=uW mi hb;replace jG:=bC jG hb;replace j6:=bC j6 hb;replace kJ:=bC kJ hb;replace HB:=dw HB hb;(try clear hb);(try clear hb2);(try clear hk);(try clear hi))|((with_reducible refine aG (N:=14) rfl ?_);refine az (by rfl) (N:=14) (by rfl) (cs:=#[U Z 0,U Z 0,U Z 0,U Z 0]) (t:=31) fM ?_;intro qJ hg w19 hbox hb;have mo:=aa.mk (hbox);have aRE:=dn HB hg;have aRF:=dn HB hg;have IV:=iq jG hg;have IW:=iw jG hg;have Oa:=iq j6 hg;have Ob:=iw j6 hg;have Oc:=iq kJ hg;have Od:=iw kJ hg;replace mi:=aa.mk (Kd.lD (Kd.DZ af0 qJ (Nat.le_of_eq hg.symm)) hb);replace jG:=bC jG hb;replace j6:=bC j6 hb;replace kJ:=bC kJ hb;replace HB:=dw HB hb;clear hb hbox hg))
     go_loopg [15] k1 (fun kq v15 w'=>∃ (uK:Int) (ji:Int) (jW:Int) (kK:Int) (lL:Int),v15 = U Z uK∧aa (aX.l1 kq a3 a4 cK cB uK ah ai ax ay aK aH aJ aR aC aQ aM bf bg bD bE bF iK gY gJ gm ji jW kK lL = some (r1,r2))∧aa (kq≤k1)∧aa (Kd.R Iy 31 w' w.heap.size (fun k_=>k_≠Ac∧k_≠qJ) u12 cK)∧aa (w'.heap[Yi]? = some (.cells #[U Z ah,U Z ai,U Z ax,U Z ay,U Z aK,U Z aH,U Z aJ,(.slice dG aR.length dH),(.slice dJ aC.length dI)] 25 (0,0)))∧aa (w'.heap[Yj]? = some (.cells #[U Z aQ,U Z aM,U Z bf,U Z bg,U Z bD,U Z bE,U Z bF] 29 (0,0)))∧aa (w'.heap[Ac]? = some (.cells #[U Z iK,U Z gY,U Z gJ,U Z gm] 31 (0,0)))∧aa (w'.heap[qJ]? = some (.cells #[U Z ji,U Z jW,U Z kK,U Z lL] 31 (0,0)))∧aa (Below w.heap.size w w'))
     case atStart=>exact ⟨(0),(0),(0),(0),(0),mg,H',⟨Nat.le_refl _⟩,⟨af0⟩,⟨fB⟩,⟨fB⟩,⟨fB⟩,⟨fB⟩,⟨fu⟩⟩
     case round =>
      clear H'
      try clear c1
      try clear p2
      try clear p6
      try clear c9
      try clear LM
      try clear c10
      try clear c11
      try clear c12
      try clear c13
      try clear c15
      try clear vg vk Ci Cj UT UU UW abN abO
      try clear CG CJ LP LQ Qg Qh Qi
      try clear lW lX nM nN
      try clear vo vv Ck Cm UX UY UZ abP abQ
      try clear CK CL LU LV Qj Qk Ql
      try clear lY lZ nO nP
      try clear p2
      obtain ⟨uK,ji,jW,kK,lL,rfl,HA,Vo,mi,jG,j6,kJ,mo,HB⟩:=hrel
      cases gk with
      |zero=>exact absurd HA.out (by simp [aX.l1])
      |succ k2 =>
       have H:=HA.out
       clear HA
       simp only [aX.l1] at H
       by_cases c20:uK < 9
       ·rw [if_pos c20] at H
        have CO:decide (uK < 9) = true:=decide_eq_true c20
        clear c20
        have H':=aa.mk H
        clear H
        go_wp2
        go_loopg [16] k2 (fun kq v16 w'=>∃ (uL:Int) (pq:Int) (mU:Int) (lh:Int) (j5:Int),v16 = U Z uL∧aa (aX.l2 kq a3 a4 cK cB uK uL ah ai ax ay aK aH aJ aR aC aQ aM bf bg bD bE bF iK gY gJ gm pq mU lh j5 = some (r1,r2))∧aa (kq≤k2)∧aa (Kd.R Iy 31 w' w.heap.size (fun k_=>k_≠Ac∧k_≠qJ) u12 cK)∧aa (w'.heap[Yi]? = some (.cells #[U Z ah,U Z ai,U Z ax,U Z ay,U Z aK,U Z aH,U Z aJ,(.slice dG aR.length dH),(.slice dJ aC.length dI)] 25 (0,0)))∧aa (w'.heap[Yj]? = some (.cells #[U Z aQ,U Z aM,U Z bf,U Z bg,U Z bD,U Z bE,U Z bF] 29 (0,0)))∧aa (w'.heap[Ac]? = some (.cells #[U Z iK,U Z gY,U Z gJ,U Z gm] 31 (0,0)))∧aa (w'.heap[qJ]? = some (.cells #[U Z pq,U Z mU,U Z lh,U Z j5] 31 (0,0)))∧aa (Below w.heap.size w w'))
        case atStart=>exact ⟨(0),(ji),(jW),(kK),(lL),mg,H',⟨Nat.le_refl _⟩,⟨af0⟩,⟨fB⟩,⟨fB⟩,⟨fB⟩,⟨fB⟩,⟨fu⟩⟩
        case round =>
         clear H'
         try clear c1
         try clear c2
         try clear p2
         try clear p6
         try clear c9
         try clear LM
         try clear c10
         try clear c11
         try clear c12
         try clear c13
         try clear c15
         try clear c20
         try clear CO
         try clear vg vk Ci Cj UT UU UW abN abO
         try clear CG CJ LP LQ Qg Qh Qi
         try clear lW lX nM nN
         try clear vo vv Ck Cm UX UY UZ abP abQ
         try clear CK CL LU LV Qj Qk Ql
         try clear lY lZ nO nP
         try clear p2
         try clear p6
         obtain ⟨uL,pq,mU,lh,j5,rfl,HA,Yd,mi,jG,j6,kJ,mo,HB⟩:=hrel
         cases gk with
         |zero=>exact absurd HA.out (by simp [aX.l2])
         |succ k3 =>
          have H:=HA.out
          clear HA
          simp only [aX.l2] at H
          by_cases c21:uL < aH
          ·rw [if_pos c21] at H
           have abR:decide (uL < aH) = true:=decide_eq_true c21
           clear c21
           replace H:=Option.bind_eq_some_iff.mp H
           obtain ⟨⟨xw,zV,AV,Ce⟩,ay2,H⟩:=H
           replace H:(if (wrap64 (uK+uL)) > 0 then ((dC.f pq mU xw zV).bind fun Yh=>((dC.f lh j5 AV Ce).bind fun Pb=>(aX.l2 k3 a3 a4 cK cB uK (wrap64 (uL+1)) ah ai ax ay aK aH aJ aR aC aQ aM bf bg bD bE bF iK gY gJ gm Yh.1 Yh.2 Pb.1 Pb.2))) else (aX.l2 k3 a3 a4 cK cB uK (wrap64 (uL+1)) ah ai ax ay aK aH aJ aR aC aQ aM bf bg bD bE bF iK gY gJ gm xw zV AV Ce)) = some (r1,r2):=H
           have A22:=aa.mk ay2
           clear ay2
           by_cases c23:(wrap64 (uK+uL)) > 0
           ·rw [if_pos c23] at H
            have ay3:decide (0 < (wrap64 (uK+uL))) = true:=decide_eq_true c23
            clear c23
            replace H:=Option.bind_eq_some_iff.mp H
            obtain ⟨⟨Vp,Ym⟩,aiq,H⟩:=H
            replace H:((dC.f lh j5 AV Ce).bind fun Pb=>(aX.l2 k3 a3 a4 cK cB uK (wrap64 (uL+1)) ah ai ax ay aK aH aJ aR aC aQ aM bf bg bD bE bF iK gY gJ gm Vp Ym Pb.1 Pb.2)) = some (r1,r2):=H
            have A24:=aa.mk aiq
            clear aiq
            replace H:=Option.bind_eq_some_iff.mp H
            obtain ⟨⟨af1,air⟩,ais,H⟩:=H
            replace H:(aX.l2 k3 a3 a4 cK cB uK (wrap64 (uL+1)) ah ai ax ay aK aH aJ aR aC aQ aM bf bg bD bE bF iK gY gJ gm Vp Ym af1 air) = some (r1,r2):=H
            have A25:=aa.mk ais
            clear ais
            have H':=aa.mk H
            clear H
            have ait:=Em.out
            have aiu:=Eo.out
            have aiv:=Bi.out
            have aiw:=Bj.out
            have ahS:=IV.out
            have ahT:=IW.out
            obtain ⟨qB,qC,sV,sW,vN,vO,CP,FL,FM,qD,qE,sZ,tq,vP,vQ,CQ,FN,FO⟩:=iH jG.out
            have aix:=Ep.out
            have aiy:=Er.out
            have ath:=Oa.out
            have ati:=Ob.out
            obtain ⟨IX,IY,IZ,I1,abS,abT,abU,I4,I5,I6,I7,abV,abW,abX⟩:=jb j6.out
            have ay4:=Oc.out
            have ay5:=Od.out
            obtain ⟨I8,I9,Qm,Qn,Ja,Jb,Qo,Qp⟩:=gD kJ.out
            try go_wp2_with (first|((with_reducible refine aN (f:=106) rfl ?_);refine bT (some 56) rfl rfl Try.func106 aY rfl #[.agg #[U Z ah,U Z ai,U Z ax,U Z ay,U Z aK,U Z aH,U Z aJ,.slice dG aR.length dH,.slice dJ aC.length dI],.agg #[U Z aQ,U Z aM,U Z bf,U Z bg,U Z bD,U Z bE,U Z bF],.agg #[U Z iK,U Z gY,U Z gJ,U Z gm],U Z (wrap64 (a3+(wrap64 (cB*aM)))),.agg #[U Z uK,U Z uL]] rfl iG ?_;(with_reducible refine (cZ.calls k3 ah ai ax ay aK aH aJ _ _ aR _ _ aC aQ aM bf bg bD bE bF iK gY gJ gm (wrap64 (a3+(wrap64 (cB*aM)))) uK uL xw zV AV Ce _ ?df ?dh ?dK ?dL A22.out).mono ?_);(case df=>repeat (first|exact (Kd.bz gq.out HB.out)|(with_reducible refine Kd.bA ?_ _)|(with_reducible refine Kd.bB ?_ _)|(with_reducible refine Kd.bQ ?_)));(case dh=>exact gu.out);(case dK=>repeat (first|exact (Kd.bz fH.out HB.out)|(with_reducible refine Kd.bA ?_ _)|(with_reducible refine Kd.bB ?_ _)|(with_reducible refine Kd.bQ ?_)));(case dL=>exact gz.out);rintro e w35 ⟨rfl,hb⟩;refine ⟨_,rfl,?_⟩;replace mi:=uW mi hb;replace jG:=bC jG hb;replace j6:=bC j6 hb;replace kJ:=bC kJ hb;replace mo:=bC mo hb;replace HB:=dw HB hb;(try clear hb);(try clear hb2);(try clear hk);(try clear hi))|((with_reducible refine aG (N:=17) rfl ?_);refine az (by rfl) (N:=17) (by rfl) (cs:=#[U Z 0,U Z 0,U Z 0,U Z 0]) (t:=31) fM ?_;intro iB hg w36 hbox hb;have p9:=aa.mk (hbox);have ay6:=dn HB hg;have ay7:=dn HB hg;have xx:=iq jG hg;have xy:=iw jG hg;have xz:=iq j6 hg;have xA:=iw j6 hg;have xB:=iq kJ hg;have xC:=iw kJ hg;have lM:=iq mo hg;have xD:=iw mo hg;replace mi:=aa.mk (Kd.lD (Kd.DZ af0 iB (Nat.le_of_eq hg.symm)) hb);replace jG:=bC jG hb;replace j6:=bC j6 hb;replace kJ:=bC kJ hb;replace mo:=bC mo hb;replace HB:=dw HB hb;clear hb hbox hg;have asX:=xy.out;have asY:=xx.out;have aii:=xA.out;have aij:=xz.out;have Yn:=xC.out;have Yo:=xB.out;have atj:=xD.out;have atl:=lM.out;obtain ⟨Qq,Qr,Vq,Vr,Qs,Qt,Vs,Vt⟩:=gD p9.out))
            have x9:aa (Kd.R Iy 31 ((((w36.setCell ⟨iB,0,none⟩ (U Z xw)).setCell ⟨iB,1,none⟩ (U Z zV)).setCell ⟨iB,2,none⟩ (U Z AV)).setCell ⟨iB,3,none⟩ (U Z Ce)) w.heap.size (fun k_=>k_≠Ac∧k_≠qJ∧k_≠iB) u12 cK):=⟨by (with_reducible repeat (first|apply Kd.jf|apply Kd.iQ|apply Kd.iE));exact Kd.jC (Kd.dM (p:=⟨iB,3,none⟩) (Kd.dM (p:=⟨iB,2,none⟩) (Kd.dM (p:=⟨iB,1,none⟩) (Kd.dM (p:=⟨iB,0,none⟩) (Kd.jC mi.out (fun k_ hk=>(⟨hk,hk.2⟩:_∧k_≠iB))) (fun _ hk=>hk.2) (U Z xw)) (fun _ hk=>hk.2) (U Z zV)) (fun _ hk=>hk.2) (U Z AV)) (fun _ hk=>hk.2) (U Z Ce)) (fun _ hk=>⟨hk.1.1.1,⟨hk.1.1.2,hk.1.2⟩⟩)⟩
            have yc:aa (((((w36.setCell ⟨iB,0,none⟩ (U Z xw)).setCell ⟨iB,1,none⟩ (U Z zV)).setCell ⟨iB,2,none⟩ (U Z AV)).setCell ⟨iB,3,none⟩ (U Z Ce)).heap[Yi]? = some (.cells #[U Z ah,U Z ai,U Z ax,U Z ay,U Z aK,U Z aH,U Z aJ,.slice dG aR.length dH,.slice dJ aC.length dI] 25 (0,0))):=⟨fB⟩
            have yf:aa (((((w36.setCell ⟨iB,0,none⟩ (U Z xw)).setCell ⟨iB,1,none⟩ (U Z zV)).setCell ⟨iB,2,none⟩ (U Z AV)).setCell ⟨iB,3,none⟩ (U Z Ce)).heap[Yj]? = some (.cells #[U Z aQ,U Z aM,U Z bf,U Z bg,U Z bD,U Z bE,U Z bF] 29 (0,0))):=⟨fB⟩
            have yg:aa (((((w36.setCell ⟨iB,0,none⟩ (U Z xw)).setCell ⟨iB,1,none⟩ (U Z zV)).setCell ⟨iB,2,none⟩ (U Z AV)).setCell ⟨iB,3,none⟩ (U Z Ce)).heap[Ac]? = some (.cells #[U Z iK,U Z gY,U Z gJ,U Z gm] 31 (0,0))):=⟨fB⟩
            have Bf:aa (((((w36.setCell ⟨iB,0,none⟩ (U Z xw)).setCell ⟨iB,1,none⟩ (U Z zV)).setCell ⟨iB,2,none⟩ (U Z AV)).setCell ⟨iB,3,none⟩ (U Z Ce)).heap[qJ]? = some (.cells #[U Z pq,U Z mU,U Z lh,U Z j5] 31 (0,0))):=⟨fB⟩
            have Li:aa (((((w36.setCell ⟨iB,0,none⟩ (U Z xw)).setCell ⟨iB,1,none⟩ (U Z zV)).setCell ⟨iB,2,none⟩ (U Z AV)).setCell ⟨iB,3,none⟩ (U Z Ce)).heap[iB]? = some (.cells #[U Z xw,U Z zV,U Z AV,U Z Ce] 31 (0,0))):=⟨by (with_reducible repeat (first|refine au ?_ _|refine ag ?_|refine ae ?_ _));refine aI (cs:=#[U Z xw,U Z zV,U Z AV,U Z 0]) ?_ 3 _ rfl;(with_reducible repeat (first|refine au ?_ _|refine ag ?_|refine ae ?_ _));refine aI (cs:=#[U Z xw,U Z zV,U Z 0,U Z 0]) ?_ 2 _ rfl;(with_reducible repeat (first|refine au ?_ _|refine ag ?_|refine ae ?_ _));refine aI (cs:=#[U Z xw,U Z 0,U Z 0,U Z 0]) ?_ 1 _ rfl;(with_reducible repeat (first|refine au ?_ _|refine ag ?_|refine ae ?_ _));refine aI (cs:=#[U Z 0,U Z 0,U Z 0,U Z 0]) ?_ 0 _ rfl;(with_reducible repeat (first|refine au ?_ _|refine ag ?_|refine ae ?_ _));exact p9.out⟩
            have Zw:aa (Below w.heap.size w ((((w36.setCell ⟨iB,0,none⟩ (U Z xw)).setCell ⟨iB,1,none⟩ (U Z zV)).setCell ⟨iB,2,none⟩ (U Z AV)).setCell ⟨iB,3,none⟩ (U Z Ce))):=⟨fu⟩
            (try clear mi)
            (try clear jG)
            (try clear j6)
            (try clear kJ)
            (try clear mo)
            (try clear p9)
            (try clear HB)
            generalize ((((w36.setCell ⟨iB,0,none⟩ (U Z xw)).setCell ⟨iB,1,none⟩ (U Z zV)).setCell ⟨iB,2,none⟩ (U Z AV)).setCell ⟨iB,3,none⟩ (U Z Ce)) = w42 at x9 yc yf yg Bf Li Zw ⊢
            have mi:=x9
            have jG:=yc
            have j6:=yf
            have kJ:=yg
            have mo:=Bf
            have p9:=Li
            have HB:=Zw
            clear x9 yc yf yg Bf Li Zw
            replace mi:=aa.mk (Kd.iE mi.out)
            replace jG:=aa.mk (ag jG.out)
            replace j6:=aa.mk (ag j6.out)
            replace kJ:=aa.mk (ag kJ.out)
            replace mo:=aa.mk (ag mo.out)
            replace p9:=aa.mk (ag p9.out)
            replace HB:=aa.mk (bU HB.out)
            refine jT (n:=12) (S:=fun w'=>w'.cell? ⟨qJ,0,none⟩ = some (U Z pq)∧w'.cell? ⟨qJ,1,none⟩ = some (U Z mU)∧w'.cell? ⟨qJ,2,none⟩ = some (U Z lh)∧w'.cell? ⟨qJ,3,none⟩ = some (U Z j5)∧w'.cell? ⟨iB,0,none⟩ = some (U Z xw)∧w'.cell? ⟨iB,1,none⟩ = some (U Z zV)∧w'.cell? ⟨iB,2,none⟩ = some (U Z AV)∧w'.cell? ⟨iB,3,none⟩ = some (U Z Ce)) (ds:=[11]) #[ac,ac,ac,ac,ac,ac,ac,ac,ac,ac,ac,ac] aY rfl rfl (Ye mo.out (nV p9.out)) (fun hHeld=>?_);refine jg aX.T9 aX.N8 (fun cO lS=>?_)
            generalize w42.drew = w43 at mi jG j6 kJ mo p9 HB hHeld ⊢
            refine dW (i:=0) (N:=some 61) (aU cO.out aY) ?_
            refine dW (i:=2) (N:=some 63) (aU cO.out aY) ?_
            refine dW (i:=5) (N:=some 66) (aU cO.out aY) ?_
            refine dW (i:=7) (N:=some 68) (aU cO.out aY) ?_
            refine ja (i:=1) (N:=some 62) (bS cO.out lS.out aY) hHeld ?_
            refine ja (i:=3) (N:=some 64) (bS cO.out lS.out aY) hHeld ?_
            refine ja (i:=6) (N:=some 67) (bS cO.out lS.out aY) hHeld ?_
            refine ja (i:=8) (N:=some 69) (bS cO.out lS.out aY) hHeld ?_
            refine jJ (i:=4) (N:=some 65) #[ab,ab,ab,ab,ab,ab,ab,ab,ab,ac,ac,ac] rfl rfl (gM cO.out aY) (by decide) (fun K hK=>?_)
            refine gQ Try.func120 aY rfl #[.agg #[U Z pq,U Z mU],.agg #[U Z xw,U Z zV]] (by rfl) rfl rfl iG ?_
            with_reducible refine (dC.calls pq mU xw zV Vp Ym _ A24.out).mono ?_
            rintro e w44 ⟨rfl,hb⟩
            refine ⟨_,rfl,?_⟩
            replace mi:=uW mi hb
            replace jG:=bC jG hb
            replace j6:=bC j6 hb
            replace kJ:=bC kJ hb
            replace mo:=bC mo hb
            replace p9:=bC p9 hb
            replace HB:=dw HB hb
            (try clear hb)
            (try clear hb2)
            (try clear hk)
            (try clear hi)
            refine hK.out _ _ (Ye mo.out (nV p9.out)) (fun hHeld=>?_)
            clear hK K
            refine eY (by show Act.put _ (some 65) _ = _;simp only [Act.put,List.setIfInBounds_toArray,List.set_cons_zero,List.set_cons_succ,eB,eH];rfl) ?_
            refine jJ (i:=9) (N:=some 70) #[ab,ab,ab,ab,ab,ab,ab,ab,ab,ab,ac,ac] rfl rfl (gM cO.out aY) (by decide) (fun K hK=>?_)
            refine gQ Try.func120 aY rfl #[.agg #[U Z lh,U Z j5],.agg #[U Z AV,U Z Ce]] (by rfl) rfl rfl iG ?_
            with_reducible refine (dC.calls lh j5 AV Ce af1 air _ A25.out).mono ?_
            rintro e w45 ⟨rfl,hb⟩
            refine ⟨_,rfl,?_⟩
            replace mi:=uW mi hb
            replace jG:=bC jG hb
            replace j6:=bC j6 hb
            replace kJ:=bC kJ hb
            replace mo:=bC mo hb
            replace p9:=bC p9 hb
            replace HB:=dw HB hb
            (try clear hb)
            (try clear hb2)
            (try clear hk)
            (try clear hi)
            refine hK.out _ _ (Ye mo.out (nV p9.out)) (fun hHeld=>?_)
            clear hK K
            refine eY (by show Act.put _ (some 70) _ = _;simp only [Act.put,List.setIfInBounds_toArray,List.set_cons_zero,List.set_cons_succ,eB,eH];rfl) ?_
            refine dW (i:=10) (N:=some 71) (aU cO.out aY) ?_
            refine Kg (i:=11) (N:=none) #[ab,ab,ab,ab,ab,ab,ab,ab,ab,ab,ab,ab] rfl rfl (gM cO.out aY) (by decide) (fun K hK=>?_)
            have aUa:w45.cell? ⟨iB,0,none⟩ = some (U Z xw):=(af p9.out 0).trans rfl
            have aRH:=bn p9.out 0
            have aIF:=xx.out
            have aIG:=xz.out
            have aIH:=xB.out
            have aII:=lM.out
            have aIJ:=xy.out
            have aIK:=xA.out
            have aIL:=xC.out
            have aIM:=xD.out
            have aUb:w45.cell? ⟨iB,1,none⟩ = some (U Z zV):=(af p9.out 1).trans rfl
            have aRI:=bn p9.out 1
            have aIN:=xx.out
            have aIO:=xz.out
            have aIP:=xB.out
            have aIQ:=lM.out
            have aIR:=xy.out
            have aIS:=xA.out
            have aIT:=xC.out
            have aIU:=xD.out
            have aUc:w45.cell? ⟨iB,2,none⟩ = some (U Z AV):=(af p9.out 2).trans rfl
            have aRJ:=bn p9.out 2
            have aIV:=xx.out
            have aIW:=xz.out
            have aIX:=xB.out
            have aIY:=lM.out
            have aIZ:=xy.out
            have aI0:=xA.out
            have aI1:=xC.out
            have aI2:=xD.out
            have aUd:w45.cell? ⟨iB,3,none⟩ = some (U Z Ce):=(af p9.out 3).trans rfl
            have aRK:=bn p9.out 3
            have aI3:=xx.out
            have aI4:=xz.out
            have aI5:=xB.out
            have aI6:=lM.out
            have aI7:=xy.out
            have aI8:=xA.out
            have aI9:=xC.out
            have aJa:=xD.out
            refine zD (w1:=?_) (by rfl) rfl ?_ ?_
            rotate_left
            ·go_simp
             rfl
            refine hK.out _ _ ?_
            clear hK K
            refine lI (lN cO.out aY) ?_
            obtain ⟨ank,anl,anm,ann,ano,anp,anq,anr⟩:=gD p9.out
            obtain ⟨abZ,ab0,ant,anu,ab1,ab2,anv,anw⟩:=gD mo.out
            try go_wp2
            go_roundg k3
            case measure=>have:=G5.out;have:=Vo.out;have:=Yd.out;omega
            case rel=>exact ⟨(wrap64 (uL+1)),(Vp),(Ym),(af1),(air),mg,H',⟨af2⟩,⟨by (with_reducible repeat (first|apply Kd.jf|apply Kd.iQ|apply Kd.iE));exact Kd.jC (Kd.dM (p:=⟨qJ,3,none⟩) (Kd.dM (p:=⟨qJ,2,none⟩) (Kd.dM (p:=⟨qJ,1,none⟩) (Kd.dM (p:=⟨qJ,0,none⟩) (Kd.dM (p:=⟨iB,3,none⟩) (Kd.dM (p:=⟨iB,2,none⟩) (Kd.dM (p:=⟨iB,1,none⟩) (Kd.dM (p:=⟨iB,0,none⟩) (Kd.jC (Kd.jC mi.out (fun k_ hk=>(⟨hk,hk.2.2⟩:_∧k_≠iB))) (fun k_ hk=>(⟨hk,hk.1.2.1⟩:_∧k_≠qJ))) (fun _ hk=>hk.1.2) (U Z Vp)) (fun _ hk=>hk.1.2) (U Z Ym)) (fun _ hk=>hk.1.2) (U Z af1)) (fun _ hk=>hk.1.2) (U Z air)) (fun _ hk=>hk.2) (U Z Vp)) (fun _ hk=>hk.2) (U Z Ym)) (fun _ hk=>hk.2) (U Z af1)) (fun _ hk=>hk.2) (U Z air)) (fun _ hk=>⟨hk.1.1.1,hk.1.1.2.1⟩)⟩,⟨fB⟩,⟨fB⟩,⟨fB⟩,⟨by (with_reducible repeat (first|refine au ?_ _|refine ag ?_|refine ae ?_ _));refine aI (cs:=#[U Z Vp,U Z Ym,U Z af1,U Z j5]) ?_ 3 _ rfl;(with_reducible repeat (first|refine au ?_ _|refine ag ?_|refine ae ?_ _));refine aI (cs:=#[U Z Vp,U Z Ym,U Z lh,U Z j5]) ?_ 2 _ rfl;(with_reducible repeat (first|refine au ?_ _|refine ag ?_|refine ae ?_ _));refine aI (cs:=#[U Z Vp,U Z mU,U Z lh,U Z j5]) ?_ 1 _ rfl;(with_reducible repeat (first|refine au ?_ _|refine ag ?_|refine ae ?_ _));refine aI (cs:=#[U Z pq,U Z mU,U Z lh,U Z j5]) ?_ 0 _ rfl;(with_reducible repeat (first|refine au ?_ _|refine ag ?_|refine ae ?_ _));refine aj ?_ lM.out _;(with_reducible repeat (first|refine au ?_ _|refine ag ?_|refine ae ?_ _));refine aj ?_ lM.out _;(with_reducible repeat (first|refine au ?_ _|refine ag ?_|refine ae ?_ _));refine aj ?_ lM.out _;(with_reducible repeat (first|refine au ?_ _|refine ag ?_|refine ae ?_ _));refine aj ?_ lM.out _;(with_reducible repeat (first|refine au ?_ _|refine ag ?_|refine ae ?_ _));exact mo.out⟩,⟨fu⟩⟩
           ·rw [if_neg c23] at H
            have ay3:decide (0 < (wrap64 (uK+uL))) = false:=decide_eq_false c23
            clear c23
            have H':=aa.mk H
            clear H
            have atm:=Em.out
            have atn:=Eo.out
            have ato:=Bi.out
            have atp:=Bj.out
            have ay9:=IV.out
            have aza:=IW.out
            obtain ⟨anx,anz,anA,anB,anC,anD,anE,aJb,aJc,anF,anG,anH,anI,anJ,anK,anL,aJd,aJe⟩:=iH jG.out
            have aiz:=Ep.out
            have aiA:=Er.out
            have azb:=Oa.out
            have azc:=Ob.out
            obtain ⟨alF,alG,alH,alI,aJf,aJg,aJh,alJ,alK,alL,alM,aJi,aJj,aJk⟩:=jb j6.out
            have aio:=Oc.out
            have aip:=Od.out
            obtain ⟨ab3,ab4,ab5,ab6,ab7,ab8,ab9,aca⟩:=gD kJ.out
            go_wp2_with (first|((with_reducible refine aN (f:=106) rfl ?_);refine bT (some 56) rfl rfl Try.func106 aY rfl #[.agg #[U Z ah,U Z ai,U Z ax,U Z ay,U Z aK,U Z aH,U Z aJ,.slice dG aR.length dH,.slice dJ aC.length dI],.agg #[U Z aQ,U Z aM,U Z bf,U Z bg,U Z bD,U Z bE,U Z bF],.agg #[U Z iK,U Z gY,U Z gJ,U Z gm],U Z (wrap64 (a3+(wrap64 (cB*aM)))),.agg #[U Z uK,U Z uL]] rfl iG ?_;(with_reducible refine (cZ.calls k3 ah ai ax ay aK aH aJ _ _ aR _ _ aC aQ aM bf bg bD bE bF iK gY gJ gm (wrap64 (a3+(wrap64 (cB*aM)))) uK uL xw zV AV Ce _ ?df ?dh ?dK ?dL A22.out).mono ?_);(case df=>repeat (first|exact (Kd.bz gq.out HB.out)|(with_reducible refine Kd.bA ?_ _)|(with_reducible refine Kd.bB ?_ _)|(with_reducible refine Kd.bQ ?_)));(case dh=>exact gu.out);(case dK=>repeat (first|exact (Kd.bz fH.out HB.out)|(with_reducible refine Kd.bA ?_ _)|(with_reducible refine Kd.bB ?_ _)|(with_reducible refine Kd.bQ ?_)));(case dL=>exact gz.out);rintro e w61 ⟨rfl,hb⟩;refine ⟨_,rfl,?_⟩;replace mi:=uW mi hb;replace jG:=bC jG hb;replace j6:=bC j6 hb;replace kJ:=bC kJ hb;replace mo:=bC mo hb;replace HB:=dw HB hb;(try clear hb);(try clear hb2);(try clear hk);(try clear hi))|((with_reducible refine aG (N:=17) rfl ?_);refine az (by rfl) (N:=17) (by rfl) (cs:=#[U Z 0,U Z 0,U Z 0,U Z 0]) (t:=31) fM ?_;intro iB hg w62 hbox hb;have p9:=aa.mk (hbox);have ay6:=dn HB hg;have ay7:=dn HB hg;have xx:=iq jG hg;have xy:=iw jG hg;have xz:=iq j6 hg;have xA:=iw j6 hg;have xB:=iq kJ hg;have xC:=iw kJ hg;have lM:=iq mo hg;have xD:=iw mo hg;replace mi:=aa.mk (Kd.lD (Kd.DZ af0 iB (Nat.le_of_eq hg.symm)) hb);replace jG:=bC jG hb;replace j6:=bC j6 hb;replace kJ:=bC kJ hb;replace mo:=bC mo hb;replace HB:=dw HB hb;clear hb hbox hg;have as4:=xy.out;have as5:=xx.out;have as6:=xA.out;have as7:=xz.out;have azd:=xC.out;have aze:=xB.out;have azf:=xD.out;have azg:=lM.out;obtain ⟨aJl,aJm,aJn,aJo,aJp,aJq,aJr,aJs⟩:=gD p9.out;obtain ⟨aJt,aJu,aJv,aJw,aJx,aJy,aJz,aJA⟩:=gD mo.out))
            go_roundg k3
            case measure=>have:=G5.out;have:=Vo.out;have:=Yd.out;omega
            case rel=>exact ⟨(wrap64 (uL+1)),(xw),(zV),(AV),(Ce),mg,H',⟨af2⟩,⟨by (with_reducible repeat (first|apply Kd.jf|apply Kd.iQ|apply Kd.iE));exact Kd.jC (Kd.dM (p:=⟨qJ,3,none⟩) (Kd.dM (p:=⟨qJ,2,none⟩) (Kd.dM (p:=⟨qJ,1,none⟩) (Kd.dM (p:=⟨qJ,0,none⟩) (Kd.dM (p:=⟨iB,3,none⟩) (Kd.dM (p:=⟨iB,2,none⟩) (Kd.dM (p:=⟨iB,1,none⟩) (Kd.dM (p:=⟨iB,0,none⟩) (Kd.jC (Kd.jC mi.out (fun k_ hk=>(⟨hk,hk.2⟩:_∧k_≠iB))) (fun k_ hk=>(⟨hk,hk.1.1.2⟩:_∧k_≠qJ))) (fun _ hk=>hk.1.2) (U Z xw)) (fun _ hk=>hk.1.2) (U Z zV)) (fun _ hk=>hk.1.2) (U Z AV)) (fun _ hk=>hk.1.2) (U Z Ce)) (fun _ hk=>hk.2) (U Z xw)) (fun _ hk=>hk.2) (U Z zV)) (fun _ hk=>hk.2) (U Z AV)) (fun _ hk=>hk.2) (U Z Ce)) (fun _ hk=>⟨hk.1.1.1.1,hk.1.1.1.2⟩)⟩,⟨fB⟩,⟨fB⟩,⟨fB⟩,⟨by (with_reducible repeat (first|refine au ?_ _|refine ag ?_|refine ae ?_ _));refine aI (cs:=#[U Z xw,U Z zV,U Z AV,U Z j5]) ?_ 3 _ rfl;(with_reducible repeat (first|refine au ?_ _|refine ag ?_|refine ae ?_ _));refine aI (cs:=#[U Z xw,U Z zV,U Z lh,U Z j5]) ?_ 2 _ rfl;(with_reducible repeat (first|refine au ?_ _|refine ag ?_|refine ae ?_ _));refine aI (cs:=#[U Z xw,U Z mU,U Z lh,U Z j5]) ?_ 1 _ rfl;(with_reducible repeat (first|refine au ?_ _|refine ag ?_|refine ae ?_ _));refine aI (cs:=#[U Z pq,U Z mU,U Z lh,U Z j5]) ?_ 0 _ rfl;(with_reducible repeat (first|refine au ?_ _|refine ag ?_|refine ae ?_ _));refine aj ?_ lM.out _;(with_reducible repeat (first|refine au ?_ _|refine ag ?_|refine ae ?_ _));refine aj ?_ lM.out _;(with_reducible repeat (first|refine au ?_ _|refine ag ?_|refine ae ?_ _));refine aj ?_ lM.out _;(with_reducible repeat (first|refine au ?_ _|refine ag ?_|refine ae ?_ _));refine aj ?_ lM.out _;(with_reducible repeat (first|refine au ?_ _|refine ag ?_|refine ae ?_ _));exact mo.out⟩,⟨fu⟩⟩
          ·rw [if_neg c21] at H
           have abR:decide (uL < aH) = false:=decide_eq_false c21
           clear c21
           have H':=aa.mk H
           clear H
           have aRL:=Em.out
           have aRM:=Eo.out
           have azh:=Bi.out
           have azi:=Bj.out
           have as8:=IV.out
           have as9:=IW.out
           obtain ⟨anM,anN,anO,anP,anQ,anR,anS,anT,anU,anV,anW,anX,anY,anZ,an0,an1,an2,an3⟩:=iH jG.out
           go_wp2
           go_roundg k3
           case measure=>have:=G5.out;have:=Vo.out;have:=Yd.out;omega
           case rel=>exact ⟨(wrap64 (uK+1)),(pq),(mU),(lh),(j5),mg,H',⟨af2⟩,⟨af0⟩,⟨fB⟩,⟨fB⟩,⟨fB⟩,⟨fB⟩,⟨fu⟩⟩
       ·rw [if_neg c20] at H
        have CO:decide (uK < 9) = false:=decide_eq_false c20
        clear c20
        by_cases Yp:cK.length < 4398046511104
        ·rw [if_pos Yp] at H
         have azj:=aa.mk Yp
         clear Yp
         obtain ⟨azk,Yq⟩:∃ y_:List (dO),y_ = (cK++[(⟨(⟨ji,jW⟩:lu),(⟨kK,lL⟩:lu)⟩:dO)]):=⟨_,rfl⟩
         replace H:(aX.l0 k2 a3 a4 azk (wrap64 (cB+1)) ah ai ax ay aK aH aJ aR aC aQ aM bf bg bD bE bF ji jW kK lL) = some (r1,r2):=by first|(rw [Yq];with_reducible exact H)|(have Ku:=(Option.bind_some _ _).symm.trans H;rw [Yq];with_reducible exact Ku)|(have Ku:=(Option.bind_some _ _).symm.trans H;with_reducible exact Ku)|with_reducible exact H|(rw [Yq];exact H)|exact H
         have azl:=aa.mk Yq
         clear Yq
         have H':=aa.mk H
         clear H
         have ata:=IW.out
         have atb:=IV.out
         have azm:=Ob.out
         have azn:=Oa.out
         have atc:=Od.out
         have atd:=Oc.out
         obtain ⟨an4,an5,an6,an7,an8,an9,aoa,aob⟩:=gD mo.out
         have aiB:=Bj.out
         have aiC:=Bi.out
         have abD:=Er.out
         have abE:=Ep.out
         obtain ⟨aoc,aod,aoe,aof,aog,aoh,aoi,aoj⟩:=gD kJ.out
         go_wp2_with (first|((with_reducible refine FP (b:=.append) (xs:=#[.tmp 74,.tmp 76]) rfl ?_);at_builtin;refine Kd.Q8 Iy (w0:=w) w.heap.size rfl (.tmp 74) (.tmp 76) 50 31 (.agg #[(U Z 0),(U Z 0),(U Z 0),(U Z 0)]) 32 rfl Try.underlying50 aiD rfl (by decide) (by omega) u12 cK (⟨(⟨ji,jW⟩:lu),(⟨kK,lL⟩:lu)⟩:dO) [U Z ji,U Z jW,U Z kK,U Z lL] (fun k_=>k_≠Ac∧k_≠qJ) (fun _=>False) rfl fM ?aP (fun _ hk=>hk.elim) ?aF ?aO ?aB ?aS ?aL ?_;(case aP=>exact acb _ _ _ (⟨(⟨ji,jW⟩:lu),(⟨kK,lL⟩:lu)⟩:dO));(case aB=>exact fu);(case aF=>exact (fun k_ hk=>⟨Kd.ag8 (g:=Ac) (o:=.cells #[U Z ji,U Z jW,U Z kK,U Z lL] 31 (0,0)) (by (with_reducible repeat (first|refine au ?_ _|refine ag ?_|refine ae ?_ _));refine aI (cs:=#[U Z ji,U Z jW,U Z kK,U Z gm]) ?_ 3 _ rfl;(with_reducible repeat (first|refine au ?_ _|refine ag ?_|refine ae ?_ _));refine aI (cs:=#[U Z ji,U Z jW,U Z gJ,U Z gm]) ?_ 2 _ rfl;(with_reducible repeat (first|refine au ?_ _|refine ag ?_|refine ae ?_ _));refine aI (cs:=#[U Z ji,U Z gY,U Z gJ,U Z gm]) ?_ 1 _ rfl;(with_reducible repeat (first|refine au ?_ _|refine ag ?_|refine ae ?_ _));refine aI (cs:=#[U Z iK,U Z gY,U Z gJ,U Z gm]) ?_ 0 _ rfl;(with_reducible repeat (first|refine au ?_ _|refine ag ?_|refine ae ?_ _));exact kJ.out) k_ hk,Kd.ag8 (g:=qJ) (o:=.cells #[U Z ji,U Z jW,U Z kK,U Z lL] 31 (0,0)) fB k_ hk⟩));(case aO=>exact (by (with_reducible repeat (first|apply Kd.jf|apply Kd.iQ|apply Kd.iE));exact Kd.jC (Kd.dM (p:=⟨Ac,3,none⟩) (Kd.dM (p:=⟨Ac,2,none⟩) (Kd.dM (p:=⟨Ac,1,none⟩) (Kd.dM (p:=⟨Ac,0,none⟩) (Kd.jC mi.out (fun k_ hk=>(⟨hk,hk.1⟩:_∧k_≠Ac))) (fun _ hk=>hk.2) (U Z ji)) (fun _ hk=>hk.2) (U Z jW)) (fun _ hk=>hk.2) (U Z kK)) (fun _ hk=>hk.2) (U Z lL)) (fun _ hk=>⟨hk.1.1,hk.1.2⟩)));(case aS=>exact (fJ fu));(case aL=>have:=azj.out;omega);intro aUf w81 ho hb hg hat;rw [← azl.out] at ho;have x9:=aa.mk (oW (g:=Yi) (o:=.cells #[U Z ah,U Z ai,U Z ax,U Z ay,U Z aK,U Z aH,U Z aJ,.slice dG aR.length dH,.slice dJ aC.length dI] 25 (0,0)) fB hg (Kd.ZG mi.out jG.out (by decide)));have yc:=aa.mk (oW (g:=Yj) (o:=.cells #[U Z aQ,U Z aM,U Z bf,U Z bg,U Z bD,U Z bE,U Z bF] 29 (0,0)) fB hg (Kd.ZG mi.out j6.out (by decide)));have yf:=aa.mk (oW (g:=Ac) (o:=.cells #[U Z ji,U Z jW,U Z kK,U Z lL] 31 (0,0)) (by (with_reducible repeat (first|refine au ?_ _|refine ag ?_|refine ae ?_ _));refine aI (cs:=#[U Z ji,U Z jW,U Z kK,U Z gm]) ?_ 3 _ rfl;(with_reducible repeat (first|refine au ?_ _|refine ag ?_|refine ae ?_ _));refine aI (cs:=#[U Z ji,U Z jW,U Z gJ,U Z gm]) ?_ 2 _ rfl;(with_reducible repeat (first|refine au ?_ _|refine ag ?_|refine ae ?_ _));refine aI (cs:=#[U Z ji,U Z gY,U Z gJ,U Z gm]) ?_ 1 _ rfl;(with_reducible repeat (first|refine au ?_ _|refine ag ?_|refine ae ?_ _));refine aI (cs:=#[U Z iK,U Z gY,U Z gJ,U Z gm]) ?_ 0 _ rfl;(with_reducible repeat (first|refine au ?_ _|refine ag ?_|refine ae ?_ _));exact kJ.out) hg (Kd.ag7 mi.out (fun _ hk=>hk.1)));have yg:=aa.mk (oW (g:=qJ) (o:=.cells #[U Z ji,U Z jW,U Z kK,U Z lL] 31 (0,0)) fB hg (Kd.ag7 mi.out (fun _ hk=>hk.2)));have Bf:=aa.mk (hb);have Li:=aa.mk (ho);clear jG;clear j6;clear kJ;clear mo;clear HB;clear mi;have jG:=x9;have j6:=yc;have kJ:=yf;have mo:=yg;have HB:=Bf;have azo:=Li;clear x9 yc yf yg Bf Li;clear ho hb hg hat))
         go_roundg k2
         case measure=>have:=G5.out;have:=Vo.out;omega
         case rel=>exact ⟨(azk),(wrap64 (cB+1)),(ji),(jW),(kK),(lL),mg,H',⟨by have:=G5.out;have:=Vo.out;omega⟩,⟨by (with_reducible repeat (first|apply Kd.jf|apply Kd.iQ|apply Kd.iE));exact Kd.jC azo.out (fun _ hk=>hk.1)⟩,⟨fB⟩,⟨fB⟩,⟨fB⟩,⟨fu⟩⟩
        ·rw [if_neg Yp] at H
         exact absurd H (by simp)
    ·replace c11:=Bool.eq_false_iff.mpr c11
     subst c11
     have H1:(some (([]:List (dO)),false)) = some (r1,r2):=by rw [if_neg (show ¬ (false = true) by decide)] at H;exact H
     clear H
     have H:=H1
     clear H1
     simp only [Option.some.injEq,Prod.mk.injEq] at H
     obtain ⟨rfl,rfl⟩:=H
     have atq:=Em.out
     have atr:=Eo.out
     have att:=Bi.out
     have atu:=Bj.out
     obtain ⟨acd,ace,acf,acg,ach,aci,acj,aJB,aJC,ack,acm,acn,aco,acp,acr,acs,aJD,aJE⟩:=iH jG.out
     have atv:=Ep.out
     have atw:=Er.out
     obtain ⟨acu,acv,acw,acx,aJF,aJG,aJH,acy,acz,acA,acB,aJI,aJJ,aJK⟩:=jb j6.out
     obtain ⟨aJL,aJM,aJN,aJO,aJP,aJQ,aJR,aJS⟩:=gD kJ.out
     go_wp2_with (first|((with_reducible refine aN (f:=105) rfl ?_);refine bT (some 32) rfl rfl Try.func105 aY rfl #[.agg #[U Z ah,U Z ai,U Z ax,U Z ay,U Z aK,U Z aH,U Z aJ,.slice dG aR.length dH,.slice dJ aC.length dI],.agg #[U Z aQ,U Z aM,U Z bf,U Z bg,U Z bD,U Z bE,U Z bF],.agg #[U Z iK,U Z gY,U Z gJ,U Z gm],U Z (wrap64 (a3+(wrap64 (cB*aM))))] rfl iG ?_;(with_reducible refine (dx.calls k1 ah ai ax ay aK aH aJ _ _ aR _ _ aC aQ aM bf bg bD bE bF iK gY gJ gm (wrap64 (a3+(wrap64 (cB*aM)))) false _ ?df ?dh ?dK ?dL TH.out).mono ?_);(case df=>repeat (first|exact (Kd.bz gq.out HB.out)|(with_reducible refine Kd.bA ?_ _)|(with_reducible refine Kd.bB ?_ _)|(with_reducible refine Kd.bQ ?_)));(case dh=>exact gu.out);(case dK=>repeat (first|exact (Kd.bz fH.out HB.out)|(with_reducible refine Kd.bA ?_ _)|(with_reducible refine Kd.bB ?_ _)|(with_reducible refine Kd.bQ ?_)));(case dL=>exact gz.out);rintro e w88 ⟨rfl,hb⟩;refine ⟨_,rfl,?_⟩;replace mi:=uW mi hb;replace jG:=bC jG hb;replace j6:=bC j6 hb;replace kJ:=bC kJ hb;replace HB:=dw HB hb;(try clear hb);(try clear hb2);(try clear hk);(try clear hi)))
     go_ret2
     exact ⟨_,kL,N9,fu⟩
   ·rw [if_neg c9] at H
    have LM:decide (cB < a4) = false:=decide_eq_false c9
    clear c9
    simp only [Option.some.injEq,Prod.mk.injEq] at H
    obtain ⟨rfl,rfl⟩:=H
    go_wp2
    go_ret2
    exact ⟨_,kL,by (with_reducible repeat (first|apply Kd.jf|apply Kd.iQ|apply Kd.iE));exact Kd.jC mi.out (fun _ hk=>trivial),fu⟩
end Go.Proofs.Ytmhaiihjfgfaoaa.Pr
end
