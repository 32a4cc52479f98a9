import Derived.Test.YtmhaiihjfgfaoaaGpGliderPlans1
import Derived.Test.YtmhaiihjfgfaoaaGpGliderPlans4
set_option linter.unusedVariables false
set_option linter.unusedSimpArgs false
open Option.some renaming inj → bh
open Option renaming bind_some → aE
open List renaming setIfInBounds_toArray → ap, set_cons_zero → aq, set_cons_succ → ar
open Go.World renaming block_lt_of_cell? → bd
set_option maxRecDepth 100000
set_option maxHeartbeats 80000000
open Go.Value renaming int → Z
open Go.IntKind renaming i64 → ab
open Bool renaming true → ac, false → al
open Go.RowKit renaming wrap64 → an
open Go renaming World → ao
section
namespace Go.Proofs.Ytmhaiihjfgfaoaa.Pr
open Go.RowKit Go.Proofs.YtmhaiihjfgfaoaaW.bu Go.Proofs.YtmhaiihjfgfaoaaW.dB Go.Proofs.YtmhaiihjfgfaoaaW.ek
attribute [local go_sem] iq iw jq jr iy
mutual
def aZ.l0:Nat→Int→Int→Int→Bool→Int→Int→Int→Int→Int→Int→Int→Int→List Bool→List (qK)→Int→Int→Int→Int→Int→Int→Int→Int→Option (Int × Int × Int × Int)
 |0,_,_,_,_,_,_,_,_,_,_,_,_,_,_,_,_,_,_,_,_,_,_=>none
 |k+1,x2,x3,x4,Qq,L6,nK,nL,xu,uk,vg,nV,xw,xx,oo,xy,xz,xA,xB,zU,zV,zW,zX=>if L6 < vg then (if (an (L6*uk)) ≥ x4 then (aZ.j1 k x2 x3 x4 Qq L6 true nK nL xu uk vg nV xw xx oo xy xz xA xB zU zV zW zX) else (aZ.j1 k x2 x3 x4 Qq L6 (decide ((an ((an (L6+1))*uk))≤x3)) nK nL xu uk vg nV xw xx oo xy xz xA xB zU zV zW zX)) else (some (zU,zV,zW,zX))
def aZ.j1:Nat→Int→Int→Int→Bool→Int→Bool→Int→Int→Int→Int→Int→Int→Int→List Bool→List (qK)→Int→Int→Int→Int→Int→Int→Int→Int→Option (Int × Int × Int × Int)
 |0,_,_,_,_,_,_,_,_,_,_,_,_,_,_,_,_,_,_,_,_,_,_,_=>none
 |k+1,x2,x3,x4,Qq,L6,x36,nK,nL,xu,uk,vg,nV,xw,xx,oo,xy,xz,xA,xB,zU,zV,zW,zX=>if x36 = true then (aZ.l0 k x2 x3 x4 Qq (an (L6+1)) nK nL xu uk vg nV xw xx oo xy xz xA xB zU zV zW zX) else (aZ.l1 k x2 x3 x4 Qq L6 0 nK nL xu uk vg nV xw xx oo xy xz xA xB zU zV zW zX)
def aZ.l1:Nat→Int→Int→Int→Bool→Int→Int→Int→Int→Int→Int→Int→Int→Int→List Bool→List (qK)→Int→Int→Int→Int→Int→Int→Int→Int→Option (Int × Int × Int × Int)
 |0,_,_,_,_,_,_,_,_,_,_,_,_,_,_,_,_,_,_,_,_,_,_,_=>none
 |k+1,x2,x3,x4,Qq,L6,L8,nK,nL,xu,uk,vg,nV,xw,xx,oo,xy,xz,xA,xB,zU,zV,zW,zX=>if L8 < (an (nK*nL)) then ((ig.f nK nL xu uk vg nV xw xx oo L8).bind fun ajD=>((fw.f xy xz xA xB ajD.1 ajD.2.1 ajD.2.2.1 ajD.2.2.2).bind fun amY=>(if amY = true then (if 0≤(an ((an ((an ((an ((an (L6*nV))+x2))*nK))*nL))+L8)) then (if (an ((an ((an ((an ((an (L6*nV))+x2))*nK))*nL))+L8)) < (oo.length:Int) then (if Qq = true then ((fP.f zU zV ((bE oo (an ((an ((an ((an ((an (L6*nV))+x2))*nK))*nL))+L8))).f0.f0) ((bE oo (an ((an ((an ((an ((an (L6*nV))+x2))*nK))*nL))+L8))).f0.f1)).bind fun Aj=>((fP.f zW zX ((bE oo (an ((an ((an ((an ((an (L6*nV))+x2))*nK))*nL))+L8))).f1.f0) ((bE oo (an ((an ((an ((an ((an (L6*nV))+x2))*nK))*nL))+L8))).f1.f1)).bind fun vN=>(aZ.l1 k x2 x3 x4 true L6 (an (L8+1)) nK nL xu uk vg nV xw xx oo xy xz xA xB Aj.1 Aj.2 vN.1 vN.2))) else (aZ.l1 k x2 x3 x4 true L6 (an (L8+1)) nK nL xu uk vg nV xw xx oo xy xz xA xB ((bE oo (an ((an ((an ((an ((an (L6*nV))+x2))*nK))*nL))+L8))).f0.f0) ((bE oo (an ((an ((an ((an ((an (L6*nV))+x2))*nK))*nL))+L8))).f0.f1) ((bE oo (an ((an ((an ((an ((an (L6*nV))+x2))*nK))*nL))+L8))).f1.f0) ((bE oo (an ((an ((an ((an ((an (L6*nV))+x2))*nK))*nL))+L8))).f1.f1))) else (none)) else (none)) else (aZ.l1 k x2 x3 x4 Qq L6 (an (L8+1)) nK nL xu uk vg nV xw xx oo xy xz xA xB zU zV zW zX)))) else (aZ.l0 k x2 x3 x4 Qq (an (L6+1)) nK nL xu uk vg nV xw xx oo xy xz xA xB zU zV zW zX)
end
def aZ.f (k:Nat) (ai:Int) (aj:Int) (az:Int) (aA:Int) (aI:Int) (aD:Int) (aJ:Int) (aX:List Bool) (aG:List (qK)) (aQ:Int) (aN:Int) (bC:Int) (bD:Int) (a2:Int) (a3:Int) (a4:Int):Option (Int × Int × Int × Int):=aZ.l0 k a2 a3 a4 false 0 ai aj az aA aI aD aJ aX aG aQ aN bC bD 0 0 0 0
def aZ.T13:Bool × List (List Nat × List Nat):=(true,[([],[]),([0],[0]),([],[]),([2],[2]),([1,3],[1,3]),([],[]),([5],[5]),([],[]),([7],[7]),([6,8,4],[6,8]),([4,9],[4,9]),([10,9,0,1,2,3,4,5,6,7,8,9,10],[10])])
def aZ.B13:List Nat:=[0,1,0,4,15,0,32,0,128,511,1023,2047]
theorem aZ.aG0:rX .any (opsOf Try.f73 13) = aZ.T13:=by kernel_rfl
theorem aZ.aDp:oF aZ.T13.2 aZ.B13 = true:=by kernel_rfl
theorem aZ.calls (k:Nat) (ai:Int) (aj:Int) (az:Int) (aA:Int) (aI:Int) (aD:Int) (aJ:Int) (dY:Option Addr) (dS:Nat) (aX:List Bool) (dV:Option Addr) (dU:Nat) (aG:List (qK)) (aQ:Int) (aN:Int) (bC:Int) (bD:Int) (a2:Int) (a3:Int) (a4:Int) (r1:Int) (r2:Int) (r3:Int) (r4:Int) (w:ao) (jC:Kd.C Kd.bool w dY aX.length aX) (jD:aX.length≤dS) (jE:Kd.C Dt w dV aG.length aG) (jF:aG.length≤dU) (h:aZ.f k ai aj az aA aI aD aJ aX aG aQ aN bC bD a2 a3 a4 = some (r1,r2,r3,r4)):
 Calls Try.prog 73 #[.agg #[Z ab ai,Z ab aj,Z ab az,Z ab aA,Z ab aI,Z ab aD,Z ab aJ,.slice dY aX.length dS,.slice dV aG.length dU],.agg #[Z ab aQ,Z ab aN,Z ab bC,Z ab bD],Z ab a2,Z ab a3,Z ab a4] w fun e w'=>e = .returned (.agg #[Z ab r1,Z ab r2,Z ab r3,Z ab r4])∧Below w.heap.size w w':=by
 have xS:=Try.underlying25
 have qj:=Try.underlying31
 have atm:=Try.underlying40
 have oO:=Try.underlying27
 have iI:=af.mk jC
 have iO:=af.mk jD
 clear jC jD
 have iB:=af.mk jE
 have iP:=af.mk jF
 clear jE jF
 have HB:=af.mk (Below.refl w.heap.size w)
 have H:(aZ.l0 k a2 a3 a4 false 0 ai aj az aA aI aD aJ aX aG aQ aN bC bD 0 0 0 0) = some (r1,r2,r3,r4):=h
 clear h
 have H':=af.mk H
 clear H
 go_enter Try.func73,Try.ntmps73
 go_wp2_with (first|((with_reducible refine av (N:=5) rfl ?_);refine ak (by rfl) (N:=5) (by rfl) (cs:=#[Z ab ai,Z ab aj,Z ab az,Z ab aA,Z ab aI,Z ab aD,Z ab aJ,.slice dY aX.length dS,.slice dV aG.length dU]) (t:=25) fU ?_;intro oQ hg w6 ay hb;have iE:=af.mk (ay);have a1i:=bY HB hg;have a1j:=bY HB hg;replace HB:=dz HB hb;clear hb ay hg)|((with_reducible refine av (N:=6) rfl ?_);refine ak (by rfl) (N:=6) (by rfl) (cs:=#[Z ab aQ,Z ab aN,Z ab bC,Z ab bD]) (t:=31) fU ?_;intro AQ hg w7 ay hb;have gu:=af.mk (ay);have a1k:=bY HB hg;have a1l:=bY HB hg;have vO:=fG iE hg;have vQ:=fH iE hg;replace iE:=bn iE hb;replace HB:=dz HB hb;clear hb ay hg)|((with_reducible refine av (N:=10) rfl ?_);refine ak (by rfl) (N:=10) (by rfl) (cs:=#[Z ab 0,Z ab 0,Z ab 0,Z ab 0]) (t:=40) fU ?_;intro aex hg w8 ay hb;have lH:=af.mk (ay);have a1m:=bY HB hg;have a1n:=bY HB hg;have vR:=fG iE hg;have vS:=fH iE hg;have amZ:=fG gu hg;have am0:=fH gu hg;replace iE:=bn iE hb;replace gu:=bn gu hb;replace HB:=dz HB hb;clear hb ay hg)|((with_reducible refine av (N:=11) rfl ?_);refine ak (by rfl) (N:=11) (by rfl) (cs:=#[Z ab 0,Z ab 0,Z ab 0,Z ab 0]) (t:=40) fU ?_;intro RJ hg w9 ay hb;have kV:=af.mk (ay);have a1o:=bY HB hg;have a1p:=bY HB hg;have vT:=fG iE hg;have vU:=fH iE hg;have QD:=fG gu hg;have QE:=fH gu hg;have QF:=fG lH hg;have QG:=fH lH hg;replace iE:=bn iE hb;replace gu:=bn gu hb;replace lH:=bn lH hb;replace HB:=dz HB hb;clear hb ay hg))
 go_loopg [12,13] k (fun kq v12 v13 w'=>∃ (ku:Bool) (gZ:Int) (oP:Int) (o8:Int) (qo:Int) (rf:Int),v12 = .bool ku∧v13 = Z ab gZ∧af (aZ.l0 kq a2 a3 a4 ku gZ ai aj az aA aI aD aJ aX aG aQ aN bC bD oP o8 qo rf = some (r1,r2,r3,r4))∧af (kq≤k)∧af (w'.heap[oQ]? = some (.cells #[Z ab ai,Z ab aj,Z ab az,Z ab aA,Z ab aI,Z ab aD,Z ab aJ,(.slice dY aX.length dS),(.slice dV aG.length dU)] 25 (0,0)))∧af (w'.heap[AQ]? = some (.cells #[Z ab aQ,Z ab aN,Z ab bC,Z ab bD] 31 (0,0)))∧af (w'.heap[aex]? = some (.cells #[Z ab 0,Z ab 0,Z ab 0,Z ab 0] 40 (0,0)))∧af (w'.heap[RJ]? = some (.cells #[Z ab oP,Z ab o8,Z ab qo,Z ab rf] 40 (0,0)))∧af (Below w.heap.size w w'))
 case atStart=>exact ⟨(false),(0),(0),(0),(0),(0),om,om,H',⟨Nat.le_refl _⟩,⟨iK⟩,⟨iK⟩,⟨iK⟩,⟨iK⟩,⟨gp⟩⟩
 case round =>
  clear H'
  try clear p2
  try clear c7
  obtain ⟨ku,gZ,oP,o8,qo,rf,rfl,rfl,HA,Cj,iE,gu,lH,kV,HB⟩:=hrel
  cases gk with
  |zero=>exact absurd HA.out (by simp [aZ.l0])
  |succ k1 =>
   have H:=HA.out
   clear HA
   simp only [aZ.l0] at H
   by_cases c10:gZ < aI
   ·rw [if_pos c10] at H
    have Cs:decide (gZ < aI) = true:=decide_eq_true c10
    clear c10
    have aDq:=af.mk H
    clear H
    have a1q:=vO.out
    have a1r:=vQ.out
    have adt:=vR.out
    have adu:=vS.out
    have aiJ:=vT.out
    have aiK:=vU.out
    obtain ⟨oG,oH,rH,rJ,tu,tC,zA,Bv,Bw,oI,oJ,rM,rO,tF,tH,zB,Bz,BA⟩:=jS iE.out
    go_upto_region 6 with (fail)
    go_cut [36] (fun v36 wc=>∃ (kq:Nat) (abb:Bool),v36 = .bool abb∧af (aZ.j1 kq a2 a3 a4 ku gZ abb ai aj az aA aI aD aJ aX aG aQ aN bC bD oP o8 qo rf = some (r1,r2,r3,r4))∧af (kq≤k1)∧af (wc.heap[oQ]? = some (.cells #[Z ab ai,Z ab aj,Z ab az,Z ab aA,Z ab aI,Z ab aD,Z ab aJ,(.slice dY aX.length dS),(.slice dV aG.length dU)] 25 (0,0)))∧af (wc.heap[AQ]? = some (.cells #[Z ab aQ,Z ab aN,Z ab bC,Z ab bD] 31 (0,0)))∧af (wc.heap[aex]? = some (.cells #[Z ab 0,Z ab 0,Z ab 0,Z ab 0] 40 (0,0)))∧af (wc.heap[RJ]? = some (.cells #[Z ab oP,Z ab o8,Z ab qo,Z ab rf] 40 (0,0)))∧af (Below w.heap.size w wc))
    case first =>
     have H:=aDq.out
     clear aDq
     by_cases c16:(an (gZ*aA)) ≥ a4
     ·rw [if_pos c16] at H
      have EB:decide (a4≤(an (gZ*aA))) = true:=decide_eq_true c16
      clear c16
      (first|rw [EB]|(simp only [eY,fo];rw [EB])|skip)
      have H':=af.mk H
      clear H
      have RH:=vO.out
      have RI:=vQ.out
      have Yw:=vR.out
      have Yx:=vS.out
      have Ru:=vT.out
      have Rv:=vU.out
      obtain ⟨uY,uZ,zQ,zR,BM,BN,Im,TJ,TK,u6,ve,zS,zT,BO,BP,Io,TL,TM⟩:=jS iE.out
      go_wp2
      go_meet
      case rel=>exact ⟨_,(true),om,H',⟨by have:=Cj.out;first|omega|exact Nat.le_refl _⟩,⟨iK⟩,⟨iK⟩,⟨iK⟩,⟨iK⟩,⟨gp⟩⟩
     ·rw [if_neg c16] at H
      have EB:decide (a4≤(an (gZ*aA))) = false:=decide_eq_false c16
      clear c16
      (first|rw [EB]|(simp only [eY,fo];rw [EB])|skip)
      have H':=af.mk H
      clear H
      have adm:=vO.out
      have adn:=vQ.out
      have adv:=vR.out
      have adw:=vS.out
      have Yy:=vT.out
      have Yz:=vU.out
      obtain ⟨wP,wQ,Hr,Ht,TB,TC,TD,ajE,ajF,wS,wT,Hu,Hw,TE,TF,TG,ajG,ajH⟩:=jS iE.out
      go_wp2
      go_meet
      case rel=>exact ⟨_,(decide ((an ((an (gZ+1))*aA))≤a3)),om,H',⟨by have:=Cj.out;first|omega|exact Nat.le_refl _⟩,⟨iK⟩,⟨iK⟩,⟨iK⟩,⟨iK⟩,⟨gp⟩⟩
    case rest =>
     clear aDq
     try clear c1
     try clear c2
     try clear p2
     try clear p6
     try clear c7
     try clear c10
     try clear Cs
     try clear c12
     try clear c13
     try clear c14
     try clear c16
     try clear EB
     try clear c17
     try clear c18
     try clear c19
     try clear c21
     try clear c22
     try clear c23
     try clear oG oH rH rJ tu tC zA Bv Bw
     try clear uY uZ zQ zR BM BN Im TJ TK
     try clear wP wQ Hr Ht TB TC TD ajE ajF
     try clear oI oJ rM rO tF tH zB Bz BA
     try clear u6 ve zS zT BO BP Io TL TM
     try clear wS wT Hu Hw TE TF TG ajG ajH
     try clear p2
     obtain ⟨kq,abb,rfl,HA,agh,iE,gu,lH,kV,HB⟩:=hcut
     cases kq with
     |zero=>exact absurd HA.out (by simp [aZ.j1])
     |succ apP =>
      have H:=HA.out
      clear HA
      simp only [aZ.j1] at H
      by_cases c25:abb = true
      ·subst c25
       have H1:(aZ.l0 apP a2 a3 a4 ku (an (gZ+1)) ai aj az aA aI aD aJ aX aG aQ aN bC bD oP o8 qo rf) = some (r1,r2,r3,r4):=by rw [if_pos rfl] at H;exact H
       clear H
       have H:=H1
       clear H1
       have H':=af.mk H
       clear H
       go_wp2
       go_roundg apP
       case measure=>have:=Cj.out;have:=agh.out;omega
       case rel=>exact ⟨(ku),(an (gZ+1)),(oP),(o8),(qo),(rf),om,om,H',⟨by have:=Cj.out;have:=agh.out;omega⟩,⟨iK⟩,⟨iK⟩,⟨iK⟩,⟨iK⟩,⟨gp⟩⟩
      ·replace c25:=Bool.eq_false_iff.mpr c25
       subst c25
       have H1:(aZ.l1 apP a2 a3 a4 ku gZ 0 ai aj az aA aI aD aJ aX aG aQ aN bC bD oP o8 qo rf) = some (r1,r2,r3,r4):=by rw [if_neg (show ¬ (false = true) by decide)] at H;exact H
       clear H
       have H:=H1
       clear H1
       have H':=af.mk H
       clear H
       go_wp2
       go_loopg [12,14] apP (fun kq v12 v14 w'=>∃ (FQ:Bool) (iY:Int) (lS:Int) (kF:Int) (jH:Int) (iZ:Int),v12 = .bool FQ∧v14 = Z ab iY∧af (aZ.l1 kq a2 a3 a4 FQ gZ iY ai aj az aA aI aD aJ aX aG aQ aN bC bD lS kF jH iZ = some (r1,r2,r3,r4))∧af (kq≤apP)∧af (w'.heap[oQ]? = some (.cells #[Z ab ai,Z ab aj,Z ab az,Z ab aA,Z ab aI,Z ab aD,Z ab aJ,(.slice dY aX.length dS),(.slice dV aG.length dU)] 25 (0,0)))∧af (w'.heap[AQ]? = some (.cells #[Z ab aQ,Z ab aN,Z ab bC,Z ab bD] 31 (0,0)))∧af (w'.heap[aex]? = some (.cells #[Z ab 0,Z ab 0,Z ab 0,Z ab 0] 40 (0,0)))∧af (w'.heap[RJ]? = some (.cells #[Z ab lS,Z ab kF,Z ab jH,Z ab iZ] 40 (0,0)))∧af (Below w.heap.size w w'))
       case atStart=>exact ⟨(ku),(0),(oP),(o8),(qo),(rf),om,om,H',⟨Nat.le_refl _⟩,⟨iK⟩,⟨iK⟩,⟨iK⟩,⟨iK⟩,⟨gp⟩⟩
       case round =>
        clear H'
        try clear c1
        try clear c2
        try clear p2
        try clear p6
        try clear c7
        try clear c10
        try clear Cs
        try clear c12
        try clear c13
        try clear c14
        try clear c16
        try clear EB
        try clear c17
        try clear c18
        try clear c19
        try clear c21
        try clear c22
        try clear c23
        try clear c25
        try clear oG oH rH rJ tu tC zA Bv Bw
        try clear uY uZ zQ zR BM BN Im TJ TK
        try clear wP wQ Hr Ht TB TC TD ajE ajF
        try clear oI oJ rM rO tF tH zB Bz BA
        try clear u6 ve zS zT BO BP Io TL TM
        try clear wS wT Hu Hw TE TF TG ajG ajH
        try clear p2
        try clear p6
        obtain ⟨FQ,iY,lS,kF,jH,iZ,rfl,rfl,HA,HK3,iE,gu,lH,kV,HB⟩:=hrel
        cases gk with
        |zero=>exact absurd HA.out (by simp [aZ.l1])
        |succ k3 =>
         have H:=HA.out
         clear HA
         simp only [aZ.l1] at H
         by_cases Xr:iY < (an (ai*aj))
         ·rw [if_pos Xr] at H
          have Yv:decide (iY < (an (ai*aj))) = true:=decide_eq_true Xr
          clear Xr
          replace H:=Option.bind_eq_some_iff.mp H
          obtain ⟨⟨XR,XT,XU,XV⟩,aG1,H⟩:=H
          replace H:((fw.f aQ aN bC bD XR XT XU XV).bind fun amY=>(if amY = true then (if 0≤(an ((an ((an ((an ((an (gZ*aD))+a2))*ai))*aj))+iY)) then (if (an ((an ((an ((an ((an (gZ*aD))+a2))*ai))*aj))+iY)) < (aG.length:Int) then (if FQ = true then ((fP.f lS kF ((bE aG (an ((an ((an ((an ((an (gZ*aD))+a2))*ai))*aj))+iY))).f0.f0) ((bE aG (an ((an ((an ((an ((an (gZ*aD))+a2))*ai))*aj))+iY))).f0.f1)).bind fun Aj=>((fP.f jH iZ ((bE aG (an ((an ((an ((an ((an (gZ*aD))+a2))*ai))*aj))+iY))).f1.f0) ((bE aG (an ((an ((an ((an ((an (gZ*aD))+a2))*ai))*aj))+iY))).f1.f1)).bind fun vN=>(aZ.l1 k3 a2 a3 a4 true gZ (an (iY+1)) ai aj az aA aI aD aJ aX aG aQ aN bC bD Aj.1 Aj.2 vN.1 vN.2))) else (aZ.l1 k3 a2 a3 a4 true gZ (an (iY+1)) ai aj az aA aI aD aJ aX aG aQ aN bC bD ((bE aG (an ((an ((an ((an ((an (gZ*aD))+a2))*ai))*aj))+iY))).f0.f0) ((bE aG (an ((an ((an ((an ((an (gZ*aD))+a2))*ai))*aj))+iY))).f0.f1) ((bE aG (an ((an ((an ((an ((an (gZ*aD))+a2))*ai))*aj))+iY))).f1.f0) ((bE aG (an ((an ((an ((an ((an (gZ*aD))+a2))*ai))*aj))+iY))).f1.f1))) else (none)) else (none)) else (aZ.l1 k3 a2 a3 a4 FQ gZ (an (iY+1)) ai aj az aA aI aD aJ aX aG aQ aN bC bD lS kF jH iZ))) = some (r1,r2,r3,r4):=H
          have A27:=af.mk aG1
          clear aG1
          replace H:=Option.bind_eq_some_iff.mp H
          obtain ⟨amY,aG2,H⟩:=H
          replace H:(if amY = true then (if 0≤(an ((an ((an ((an ((an (gZ*aD))+a2))*ai))*aj))+iY)) then (if (an ((an ((an ((an ((an (gZ*aD))+a2))*ai))*aj))+iY)) < (aG.length:Int) then (if FQ = true then ((fP.f lS kF ((bE aG (an ((an ((an ((an ((an (gZ*aD))+a2))*ai))*aj))+iY))).f0.f0) ((bE aG (an ((an ((an ((an ((an (gZ*aD))+a2))*ai))*aj))+iY))).f0.f1)).bind fun Aj=>((fP.f jH iZ ((bE aG (an ((an ((an ((an ((an (gZ*aD))+a2))*ai))*aj))+iY))).f1.f0) ((bE aG (an ((an ((an ((an ((an (gZ*aD))+a2))*ai))*aj))+iY))).f1.f1)).bind fun vN=>(aZ.l1 k3 a2 a3 a4 true gZ (an (iY+1)) ai aj az aA aI aD aJ aX aG aQ aN bC bD Aj.1 Aj.2 vN.1 vN.2))) else (aZ.l1 k3 a2 a3 a4 true gZ (an (iY+1)) ai aj az aA aI aD aJ aX aG aQ aN bC bD ((bE aG (an ((an ((an ((an ((an (gZ*aD))+a2))*ai))*aj))+iY))).f0.f0) ((bE aG (an ((an ((an ((an ((an (gZ*aD))+a2))*ai))*aj))+iY))).f0.f1) ((bE aG (an ((an ((an ((an ((an (gZ*aD))+a2))*ai))*aj))+iY))).f1.f0) ((bE aG (an ((an ((an ((an ((an (gZ*aD))+a2))*ai))*aj))+iY))).f1.f1))) else (none)) else (none)) else (aZ.l1 k3 a2 a3 a4 FQ gZ (an (iY+1)) ai aj az aA aI aD aJ aX aG aQ aN bC bD lS kF jH iZ)) = some (r1,r2,r3,r4):=H
          have A28:=af.mk aG2
          clear aG2
          by_cases c29:amY = true
          ·subst c29
           have H1:(if 0≤(an ((an ((an ((an ((an (gZ*aD))+a2))*ai))*aj))+iY)) then (if (an ((an ((an ((an ((an (gZ*aD))+a2))*ai))*aj))+iY)) < (aG.length:Int) then (if FQ = true then ((fP.f lS kF ((bE aG (an ((an ((an ((an ((an (gZ*aD))+a2))*ai))*aj))+iY))).f0.f0) ((bE aG (an ((an ((an ((an ((an (gZ*aD))+a2))*ai))*aj))+iY))).f0.f1)).bind fun Aj=>((fP.f jH iZ ((bE aG (an ((an ((an ((an ((an (gZ*aD))+a2))*ai))*aj))+iY))).f1.f0) ((bE aG (an ((an ((an ((an ((an (gZ*aD))+a2))*ai))*aj))+iY))).f1.f1)).bind fun vN=>(aZ.l1 k3 a2 a3 a4 true gZ (an (iY+1)) ai aj az aA aI aD aJ aX aG aQ aN bC bD Aj.1 Aj.2 vN.1 vN.2))) else (aZ.l1 k3 a2 a3 a4 true gZ (an (iY+1)) ai aj az aA aI aD aJ aX aG aQ aN bC bD ((bE aG (an ((an ((an ((an ((an (gZ*aD))+a2))*ai))*aj))+iY))).f0.f0) ((bE aG (an ((an ((an ((an ((an (gZ*aD))+a2))*ai))*aj))+iY))).f0.f1) ((bE aG (an ((an ((an ((an ((an (gZ*aD))+a2))*ai))*aj))+iY))).f1.f0) ((bE aG (an ((an ((an ((an ((an (gZ*aD))+a2))*ai))*aj))+iY))).f1.f1))) else (none)) else (none)) = some (r1,r2,r3,r4):=by rw [if_pos rfl] at H;exact H
           clear H
           have H:=H1
           clear H1
           obtain ⟨iV,Yf⟩:∃ j_:Int,(an ((an ((an ((an ((an (gZ*aD))+a2))*ai))*aj))+iY)) = j_:=⟨_,rfl⟩
           replace H:(if 0≤(iV) then (if (iV) < (aG.length:Int) then (if FQ = true then ((fP.f lS kF ((bE aG (iV)).f0.f0) ((bE aG (iV)).f0.f1)).bind fun Aj=>((fP.f jH iZ ((bE aG (iV)).f1.f0) ((bE aG (iV)).f1.f1)).bind fun vN=>(aZ.l1 k3 a2 a3 a4 true gZ (an (iY+1)) ai aj az aA aI aD aJ aX aG aQ aN bC bD Aj.1 Aj.2 vN.1 vN.2))) else (aZ.l1 k3 a2 a3 a4 true gZ (an (iY+1)) ai aj az aA aI aD aJ aX aG aQ aN bC bD ((bE aG (iV)).f0.f0) ((bE aG (iV)).f0.f1) ((bE aG (iV)).f1.f0) ((bE aG (iV)).f1.f1))) else (none)) else (none)) = some (r1,r2,r3,r4):=by first|(rw [Yf] at H;exact H)|(simp only [Yf] at H ⊢;exact H)
           (try rw [Yf] at A27)
           (try rw [Yf] at A28)
           have aXp:(IntKind.i64.wrap ((an ((an ((an ((an (gZ*aD))+a2))*ai))*aj))+iY)) = iV:=(eY _).trans Yf
           by_cases c31:0≤(iV)
           ·rw [if_pos c31] at H
            have aAk:decide (0≤(iV)) = true:=decide_eq_true c31
            clear c31
            by_cases c32:(iV) < (aG.length:Int)
            ·rw [if_pos c32] at H
             have a1s:decide ((iV) < (aG.length:Int)) = true:=decide_eq_true c32
             clear c32
             by_cases c33:FQ = true
             ·subst c33
              have H1:((fP.f lS kF ((bE aG (iV)).f0.f0) ((bE aG (iV)).f0.f1)).bind fun Aj=>((fP.f jH iZ ((bE aG (iV)).f1.f0) ((bE aG (iV)).f1.f1)).bind fun vN=>(aZ.l1 k3 a2 a3 a4 true gZ (an (iY+1)) ai aj az aA aI aD aJ aX aG aQ aN bC bD Aj.1 Aj.2 vN.1 vN.2))) = some (r1,r2,r3,r4):=by rw [if_pos rfl] at H;exact H
              clear H
              have H:=H1
              clear H1
              replace H:=Option.bind_eq_some_iff.mp H
              obtain ⟨⟨ag2,am1⟩,aG3,H⟩:=H
              replace H:((fP.f jH iZ ((bE aG (iV)).f1.f0) ((bE aG (iV)).f1.f1)).bind fun vN=>(aZ.l1 k3 a2 a3 a4 true gZ (an (iY+1)) ai aj az aA aI aD aJ aX aG aQ aN bC bD ag2 am1 vN.1 vN.2)) = some (r1,r2,r3,r4):=H
              have A34:=af.mk aG3
              clear aG3
              replace H:=Option.bind_eq_some_iff.mp H
              obtain ⟨⟨au4,aDr⟩,aG4,H⟩:=H
              replace H:(aZ.l1 k3 a2 a3 a4 true gZ (an (iY+1)) ai aj az aA aI aD aJ aX aG aQ aN bC bD ag2 am1 au4 aDr) = some (r1,r2,r3,r4):=H
              have A35:=af.mk aG4
              clear aG4
              have H':=af.mk H
              clear H
              have aG5:=vO.out
              have aG6:=vQ.out
              have a1t:=vR.out
              have a1u:=vS.out
              have aAl:=vT.out
              have aAm:=vU.out
              obtain ⟨aaU,aaV,ajr,ajs,auw,auy,auz,aOx,aOy,aaW,aaX,ajt,aju,auA,auB,auC,aOz,aOA⟩:=jS iE.out
              try go_wp2
              replace iE:=af.mk (ag iE.out)
              replace gu:=af.mk (ag gu.out)
              replace lH:=af.mk (ag lH.out)
              replace kV:=af.mk (ag kV.out)
              replace HB:=af.mk (bF HB.out)
              refine jV (n:=6) (S:=fun w'=>w'.cell? ⟨AQ,0,none⟩ = some (Z ab aQ)∧w'.cell? ⟨AQ,1,none⟩ = some (Z ab aN)∧w'.cell? ⟨AQ,2,none⟩ = some (Z ab bC)∧w'.cell? ⟨AQ,3,none⟩ = some (Z ab bD)∧w'.cell? ⟨oQ,0,none⟩ = some (Z ab ai)∧w'.cell? ⟨oQ,1,none⟩ = some (Z ab aj)∧w'.cell? ⟨oQ,2,none⟩ = some (Z ab az)∧w'.cell? ⟨oQ,3,none⟩ = some (Z ab aA)∧w'.cell? ⟨oQ,4,none⟩ = some (Z ab aI)∧w'.cell? ⟨oQ,5,none⟩ = some (Z ab aD)∧w'.cell? ⟨oQ,6,none⟩ = some (Z ab aJ)∧w'.cell? ⟨oQ,7,none⟩ = some (.slice dY aX.length dS)∧w'.cell? ⟨oQ,8,none⟩ = some (.slice dV aG.length dU)) (ds:=[]) #[al,al,al,al,al,al] aT rfl rfl ⟨bH gu 0,bH gu 1,bH gu 2,bH gu 3,Ay iE.out⟩ (fun hHeld=>?_)
              generalize wr.drew = w40 at iE gu lH kV HB hHeld ⊢
              refine dR (i:=2) (N:=some 48) aT ?_
              refine iT (i:=0) (N:=some 46) aT hHeld ?_
              refine iT (i:=1) (N:=some 47) aT hHeld ?_
              refine iW (i:=3) (N:=some 49) #[ac,ac,ac,ac,al,al] rfl rfl aT (by decide) (fun K hK=>?_)
              refine gY Try.func42 aT rfl #[.agg #[Z ab ai,Z ab aj,Z ab az,Z ab aA,Z ab aI,Z ab aD,Z ab aJ,.slice dY aX.length dS,.slice dV aG.length dU],Z ab iY] (by rfl) rfl rfl jB ?_
              with_reducible refine (ig.calls ai aj az aA aI aD aJ _ _ aX _ _ aG iY XR XT XU XV _ ?dG ?dH ?eP ?eQ A27.out).mono ?_
              (case dG=>repeat (first|exact (Kd.bz iI.out HB.out)|(with_reducible refine Kd.bJ ?_ _)|(with_reducible refine Kd.bK ?_ _)|(with_reducible refine Kd.bZ ?_)))
              (case dH=>exact iO.out)
              (case eP=>repeat (first|exact (Kd.bz iB.out HB.out)|(with_reducible refine Kd.bJ ?_ _)|(with_reducible refine Kd.bK ?_ _)|(with_reducible refine Kd.bZ ?_)))
              (case eQ=>exact iP.out)
              rintro e w41 ⟨rfl,hb⟩
              refine ⟨_,rfl,?_⟩
              replace iE:=bn iE hb
              replace gu:=bn gu hb
              replace lH:=bn lH hb
              replace kV:=bn kV hb
              replace HB:=dz HB hb
              (try clear hb)
              (try clear hb2)
              (try clear hk)
              (try clear hi)
              refine hK.out _ _ ⟨bH gu 0,bH gu 1,bH gu 2,bH gu 3,Ay iE.out⟩ (fun hHeld=>?_)
              clear hK K
              refine dQ aBY ?_
              refine iW (i:=4) (N:=some 50) #[ac,ac,ac,ac,ac,al] rfl rfl aT (by decide) (fun K hK=>?_)
              refine gY Try.func104 aT rfl #[.agg #[Z ab aQ,Z ab aN,Z ab bC,Z ab bD],.agg #[Z ab XR,Z ab XT,Z ab XU,Z ab XV]] (by rfl) rfl rfl jB ?_
              with_reducible refine (fw.calls aQ aN bC bD XR XT XU XV true _ A28.out).mono ?_
              rintro e w42 ⟨rfl,hb⟩
              refine ⟨_,rfl,?_⟩
              replace iE:=bn iE hb
              replace gu:=bn gu hb
              replace lH:=bn lH hb
              replace kV:=bn kV hb
              replace HB:=dz HB hb
              (try clear hb)
              (try clear hb2)
              (try clear hk)
              (try clear hi)
              refine hK.out _ _ ⟨bH gu 0,bH gu 1,bH gu 2,bH gu 3,Ay iE.out⟩ (fun hHeld=>?_)
              clear hK K
              refine dQ aBZ ?_
              refine dR (i:=5) (N:=some 51) aT ?_
              refine mi aT ?_
              obtain ⟨ajh,aji,ajj,ajk,aui,auj,auk,aul,aum,ajl,ajm,ajn,ajo,aun,auo,aup,auq,aur⟩:=jS iE.out
              have ag3:0≤((iV):Int):=of_decide_eq_true nM
              have ag4:(iV) < (aG.length:Int):=of_decide_eq_true nM
              obtain ⟨aAn,aDs,Ir,Iu,Iw,Iy⟩:=GI iB.out (iV) ag3 ag4
              cases aDs
              replace Ir:=(HB.out.cell (bd w _ Ir)).trans Ir
              replace Iu:=(HB.out.cell (bd w _ Iu)).trans Iu
              replace Iw:=(HB.out.cell (bd w _ Iw)).trans Iw
              replace Iy:=(HB.out.cell (bd w _ Iy)).trans Iy
              replace ag3:=eq_true ag3
              replace ag4:=eq_true ag4
              try go_wp2_with (first|((with_reducible refine av (N:=15) rfl ?_);refine ak (by rfl) (N:=15) (by rfl) (cs:=#[Z ab 0,Z ab 0,Z ab 0,Z ab 0]) (t:=40) fU ?_;intro nJ hg w44 ay hb;have qX:=af.mk (ay);have aG7:=bY HB hg;have aG8:=bY HB hg;have yI:=fG iE hg;have yJ:=fH iE hg;have yK:=fG gu hg;have yL:=fH gu hg;have yM:=fG lH hg;have yN:=fH lH hg;have nP:=fG kV hg;have yO:=fH kV hg;replace iE:=bn iE hb;replace gu:=bn gu hb;replace lH:=bn lH hb;replace kV:=bn kV hb;replace HB:=dz HB hb;clear hb ay hg;have aAo:=yJ.out;have aAp:=yI.out;have aoz:=yL.out;have aoA:=yK.out;have aAq:=yN.out;have aAr:=yM.out;have aAs:=yO.out;have aAt:=nP.out;obtain ⟨ajI,ajJ,ajK,ajL,ajM,ajN,ajO,ajP⟩:=jA qX.out))
              have vv:af (((((w44.setCell ⟨nJ,0,none⟩ (Z ab ((bE aG (iV)).f0.f0))).setCell ⟨nJ,1,none⟩ (Z ab ((bE aG (iV)).f0.f1))).setCell ⟨nJ,2,none⟩ (Z ab ((bE aG (iV)).f1.f0))).setCell ⟨nJ,3,none⟩ (Z ab ((bE aG (iV)).f1.f1))).heap[oQ]? = some (.cells #[Z ab ai,Z ab aj,Z ab az,Z ab aA,Z ab aI,Z ab aD,Z ab aJ,.slice dY aX.length dS,.slice (some aAn) aG.length dU] 25 (0,0))):=⟨iK⟩
              have vw:af (((((w44.setCell ⟨nJ,0,none⟩ (Z ab ((bE aG (iV)).f0.f0))).setCell ⟨nJ,1,none⟩ (Z ab ((bE aG (iV)).f0.f1))).setCell ⟨nJ,2,none⟩ (Z ab ((bE aG (iV)).f1.f0))).setCell ⟨nJ,3,none⟩ (Z ab ((bE aG (iV)).f1.f1))).heap[AQ]? = some (.cells #[Z ab aQ,Z ab aN,Z ab bC,Z ab bD] 31 (0,0))):=⟨iK⟩
              have vz:af (((((w44.setCell ⟨nJ,0,none⟩ (Z ab ((bE aG (iV)).f0.f0))).setCell ⟨nJ,1,none⟩ (Z ab ((bE aG (iV)).f0.f1))).setCell ⟨nJ,2,none⟩ (Z ab ((bE aG (iV)).f1.f0))).setCell ⟨nJ,3,none⟩ (Z ab ((bE aG (iV)).f1.f1))).heap[aex]? = some (.cells #[Z ab 0,Z ab 0,Z ab 0,Z ab 0] 40 (0,0))):=⟨iK⟩
              have vB:af (((((w44.setCell ⟨nJ,0,none⟩ (Z ab ((bE aG (iV)).f0.f0))).setCell ⟨nJ,1,none⟩ (Z ab ((bE aG (iV)).f0.f1))).setCell ⟨nJ,2,none⟩ (Z ab ((bE aG (iV)).f1.f0))).setCell ⟨nJ,3,none⟩ (Z ab ((bE aG (iV)).f1.f1))).heap[RJ]? = some (.cells #[Z ab lS,Z ab kF,Z ab jH,Z ab iZ] 40 (0,0))):=⟨iK⟩
              have xU:af (((((w44.setCell ⟨nJ,0,none⟩ (Z ab ((bE aG (iV)).f0.f0))).setCell ⟨nJ,1,none⟩ (Z ab ((bE aG (iV)).f0.f1))).setCell ⟨nJ,2,none⟩ (Z ab ((bE aG (iV)).f1.f0))).setCell ⟨nJ,3,none⟩ (Z ab ((bE aG (iV)).f1.f1))).heap[nJ]? = some (.cells #[Z ab ((bE aG (iV)).f0.f0),Z ab ((bE aG (iV)).f0.f1),Z ab ((bE aG (iV)).f1.f0),Z ab ((bE aG (iV)).f1.f1)] 40 (0,0))):=⟨by (with_reducible repeat (first|refine au ?_ _|refine ag ?_|refine aa ?_ _));refine aK (cs:=#[Z ab ((bE aG (iV)).f0.f0),Z ab ((bE aG (iV)).f0.f1),Z ab ((bE aG (iV)).f1.f0),Z ab 0]) ?_ 3 _ rfl;(with_reducible repeat (first|refine au ?_ _|refine ag ?_|refine aa ?_ _));refine aK (cs:=#[Z ab ((bE aG (iV)).f0.f0),Z ab ((bE aG (iV)).f0.f1),Z ab 0,Z ab 0]) ?_ 2 _ rfl;(with_reducible repeat (first|refine au ?_ _|refine ag ?_|refine aa ?_ _));refine aK (cs:=#[Z ab ((bE aG (iV)).f0.f0),Z ab 0,Z ab 0,Z ab 0]) ?_ 1 _ rfl;(with_reducible repeat (first|refine au ?_ _|refine ag ?_|refine aa ?_ _));refine aK (cs:=#[Z ab 0,Z ab 0,Z ab 0,Z ab 0]) ?_ 0 _ rfl;(with_reducible repeat (first|refine au ?_ _|refine ag ?_|refine aa ?_ _));exact qX.out⟩
              have Jo:af (Below w.heap.size w ((((w44.setCell ⟨nJ,0,none⟩ (Z ab ((bE aG (iV)).f0.f0))).setCell ⟨nJ,1,none⟩ (Z ab ((bE aG (iV)).f0.f1))).setCell ⟨nJ,2,none⟩ (Z ab ((bE aG (iV)).f1.f0))).setCell ⟨nJ,3,none⟩ (Z ab ((bE aG (iV)).f1.f1)))):=⟨gp⟩
              (try clear iE)
              (try clear gu)
              (try clear lH)
              (try clear kV)
              (try clear qX)
              (try clear HB)
              generalize ((((w44.setCell ⟨nJ,0,none⟩ (Z ab ((bE aG (iV)).f0.f0))).setCell ⟨nJ,1,none⟩ (Z ab ((bE aG (iV)).f0.f1))).setCell ⟨nJ,2,none⟩ (Z ab ((bE aG (iV)).f1.f0))).setCell ⟨nJ,3,none⟩ (Z ab ((bE aG (iV)).f1.f1))) = w50 at vv vw vz vB xU Jo ⊢
              have iE:=vv
              have gu:=vw
              have lH:=vz
              have kV:=vB
              have qX:=xU
              have HB:=Jo
              clear vv vw vz vB xU Jo
              replace iE:=af.mk (ag iE.out)
              replace gu:=af.mk (ag gu.out)
              replace lH:=af.mk (ag lH.out)
              replace kV:=af.mk (ag kV.out)
              replace qX:=af.mk (ag qX.out)
              replace HB:=af.mk (bF HB.out)
              refine jV (n:=12) (S:=fun w'=>w'.cell? ⟨RJ,0,none⟩ = some (Z ab lS)∧w'.cell? ⟨RJ,1,none⟩ = some (Z ab kF)∧w'.cell? ⟨RJ,2,none⟩ = some (Z ab jH)∧w'.cell? ⟨RJ,3,none⟩ = some (Z ab iZ)∧w'.cell? ⟨nJ,0,none⟩ = some (Z ab ((bE aG (iV)).f0.f0))∧w'.cell? ⟨nJ,1,none⟩ = some (Z ab ((bE aG (iV)).f0.f1))∧w'.cell? ⟨nJ,2,none⟩ = some (Z ab ((bE aG (iV)).f1.f0))∧w'.cell? ⟨nJ,3,none⟩ = some (Z ab ((bE aG (iV)).f1.f1))) (ds:=[11]) #[al,al,al,al,al,al,al,al,al,al,al,al] aT rfl rfl (Jk kV.out (rY qX.out)) (fun hHeld=>?_);refine jQ aZ.aG0 aZ.aDp (fun dx mD=>?_)
              generalize w50.drew = w51 at iE gu lH kV qX HB hHeld ⊢
              refine dR (i:=0) (N:=some 71) (aY dx.out aT) ?_
              refine dR (i:=2) (N:=some 73) (aY dx.out aT) ?_
              refine dR (i:=5) (N:=some 76) (aY dx.out aT) ?_
              refine dR (i:=7) (N:=some 78) (aY dx.out aT) ?_
              refine iT (i:=1) (N:=some 72) (bL dx.out mD.out aT) hHeld ?_
              refine iT (i:=3) (N:=some 74) (bL dx.out mD.out aT) hHeld ?_
              refine iT (i:=6) (N:=some 77) (bL dx.out mD.out aT) hHeld ?_
              refine iT (i:=8) (N:=some 79) (bL dx.out mD.out aT) hHeld ?_
              refine iW (i:=4) (N:=some 75) #[ac,ac,ac,ac,ac,ac,ac,ac,ac,al,al,al] rfl rfl (gJ dx.out aT) (by decide) (fun K hK=>?_)
              refine gY Try.func120 aT rfl #[.agg #[Z ab lS,Z ab kF],.agg #[Z ab ((bE aG (iV)).f0.f0),Z ab ((bE aG (iV)).f0.f1)]] (by rfl) rfl rfl aFm ?_
              with_reducible refine (fP.calls lS kF ((bE aG (iV)).f0.f0) ((bE aG (iV)).f0.f1) ag2 am1 _ A34.out).mono ?_
              rintro e w52 ⟨rfl,hb⟩
              refine ⟨_,rfl,?_⟩
              replace iE:=bn iE hb
              replace gu:=bn gu hb
              replace lH:=bn lH hb
              replace kV:=bn kV hb
              replace qX:=bn qX hb
              replace HB:=dz HB hb
              (try clear hb)
              (try clear hb2)
              (try clear hk)
              (try clear hi)
              refine hK.out _ _ (Jk kV.out (rY qX.out)) (fun hHeld=>?_)
              clear hK K
              refine dQ asE ?_
              refine iW (i:=9) (N:=some 80) #[ac,ac,ac,ac,ac,ac,ac,ac,ac,ac,al,al] rfl rfl (gJ dx.out aT) (by decide) (fun K hK=>?_)
              refine gY Try.func120 aT rfl #[.agg #[Z ab jH,Z ab iZ],.agg #[Z ab ((bE aG (iV)).f1.f0),Z ab ((bE aG (iV)).f1.f1)]] (by rfl) rfl rfl aFm ?_
              with_reducible refine (fP.calls jH iZ ((bE aG (iV)).f1.f0) ((bE aG (iV)).f1.f1) au4 aDr _ A35.out).mono ?_
              rintro e w53 ⟨rfl,hb⟩
              refine ⟨_,rfl,?_⟩
              replace iE:=bn iE hb
              replace gu:=bn gu hb
              replace lH:=bn lH hb
              replace kV:=bn kV hb
              replace qX:=bn qX hb
              replace HB:=dz HB hb
              (try clear hb)
              (try clear hb2)
              (try clear hk)
              (try clear hi)
              refine hK.out _ _ (Jk kV.out (rY qX.out)) (fun hHeld=>?_)
              clear hK K
              refine dQ aFn ?_
              refine dR (i:=10) (N:=some 81) (aY dx.out aT) ?_
              refine Mf (i:=11) (N:=none) #[ac,ac,ac,ac,ac,ac,ac,ac,ac,ac,ac,ac] rfl rfl (gJ dx.out aT) (by decide) (fun K hK=>?_)
              have a5F:w53.cell? ⟨nJ,0,none⟩ = some (Z ab ((bE aG (iV)).f0.f0)):=(ae qX.out 0).trans rfl
              have a1v:=bg qX.out 0
              have aOB:=yI.out
              have aOC:=yK.out
              have aOD:=yM.out
              have aOE:=nP.out
              have aOF:=yJ.out
              have aOG:=yL.out
              have aOH:=yN.out
              have aOI:=yO.out
              have a5G:w53.cell? ⟨nJ,1,none⟩ = some (Z ab ((bE aG (iV)).f0.f1)):=(ae qX.out 1).trans rfl
              have a1w:=bg qX.out 1
              have aOJ:=yI.out
              have aOK:=yK.out
              have aOL:=yM.out
              have aOM:=nP.out
              have aON:=yJ.out
              have aOO:=yL.out
              have aOP:=yN.out
              have aOQ:=yO.out
              have a5H:w53.cell? ⟨nJ,2,none⟩ = some (Z ab ((bE aG (iV)).f1.f0)):=(ae qX.out 2).trans rfl
              have a1x:=bg qX.out 2
              have aOR:=yI.out
              have aOS:=yK.out
              have aOT:=yM.out
              have aOU:=nP.out
              have aOV:=yJ.out
              have aOW:=yL.out
              have aOX:=yN.out
              have aOY:=yO.out
              have a5I:w53.cell? ⟨nJ,3,none⟩ = some (Z ab ((bE aG (iV)).f1.f1)):=(ae qX.out 3).trans rfl
              have a1y:=bg qX.out 3
              have aOZ:=yI.out
              have aO0:=yK.out
              have aO1:=yM.out
              have aO2:=nP.out
              have aO3:=yJ.out
              have aO4:=yL.out
              have aO5:=yN.out
              have aO6:=yO.out
              refine vF (w1:=?_) (by rfl) rfl ?_ ?_
              rotate_left
              ·go_simp
               rfl
              refine hK.out _ _ ?_
              clear hK K
              refine mi (ni dx.out aT) ?_
              obtain ⟨ajQ,ajR,ajS,ajT,ajU,ajV,ajW,ajX⟩:=jA qX.out
              have aAu:=QE.out
              have aAv:=QD.out
              have aAw:=QG.out
              have aAx:=QF.out
              obtain ⟨au5,au6,aO7,aO8,au7,au8,aO9,aPa⟩:=jA kV.out
              try go_wp2
              go_roundg k3
              case measure=>have:=Cj.out;have:=agh.out;have:=HK3.out;omega
              case rel=>exact ⟨(true),(an (iY+1)),(ag2),(am1),(au4),(aDr),om,om,H',⟨asF⟩,⟨iK⟩,⟨iK⟩,⟨iK⟩,⟨by (with_reducible repeat (first|refine au ?_ _|refine ag ?_|refine aa ?_ _));refine aK (cs:=#[Z ab ag2,Z ab am1,Z ab au4,Z ab iZ]) ?_ 3 _ rfl;(with_reducible repeat (first|refine au ?_ _|refine ag ?_|refine aa ?_ _));refine aK (cs:=#[Z ab ag2,Z ab am1,Z ab jH,Z ab iZ]) ?_ 2 _ rfl;(with_reducible repeat (first|refine au ?_ _|refine ag ?_|refine aa ?_ _));refine aK (cs:=#[Z ab ag2,Z ab kF,Z ab jH,Z ab iZ]) ?_ 1 _ rfl;(with_reducible repeat (first|refine au ?_ _|refine ag ?_|refine aa ?_ _));refine aK (cs:=#[Z ab lS,Z ab kF,Z ab jH,Z ab iZ]) ?_ 0 _ rfl;(with_reducible repeat (first|refine au ?_ _|refine ag ?_|refine aa ?_ _));refine aM ?_ nP.out _;(with_reducible repeat (first|refine au ?_ _|refine ag ?_|refine aa ?_ _));refine aM ?_ nP.out _;(with_reducible repeat (first|refine au ?_ _|refine ag ?_|refine aa ?_ _));refine aM ?_ nP.out _;(with_reducible repeat (first|refine au ?_ _|refine ag ?_|refine aa ?_ _));refine aM ?_ nP.out _;(with_reducible repeat (first|refine au ?_ _|refine ag ?_|refine aa ?_ _));exact kV.out⟩,⟨gp⟩⟩
             ·replace c33:=Bool.eq_false_iff.mpr c33
              subst c33
              have H1:(aZ.l1 k3 a2 a3 a4 true gZ (an (iY+1)) ai aj az aA aI aD aJ aX aG aQ aN bC bD ((bE aG (iV)).f0.f0) ((bE aG (iV)).f0.f1) ((bE aG (iV)).f1.f0) ((bE aG (iV)).f1.f1)) = some (r1,r2,r3,r4):=by rw [if_neg (show ¬ (false = true) by decide)] at H;exact H
              clear H
              have H:=H1
              clear H1
              have H':=af.mk H
              clear H
              have apQ:=vO.out
              have apR:=vQ.out
              have a1z:=vR.out
              have a1A:=vS.out
              have aG9:=vT.out
              have aHa:=vU.out
              obtain ⟨au9,ava,aPb,aPc,aPd,aPe,aPf,aPg,aPh,avb,avc,aPi,aPj,aPk,aPl,aPm,aPn,aPo⟩:=jS iE.out
              try go_wp2
              replace iE:=af.mk (ag iE.out)
              replace gu:=af.mk (ag gu.out)
              replace lH:=af.mk (ag lH.out)
              replace kV:=af.mk (ag kV.out)
              replace HB:=af.mk (bF HB.out)
              refine jV (n:=6) (S:=fun w'=>w'.cell? ⟨AQ,0,none⟩ = some (Z ab aQ)∧w'.cell? ⟨AQ,1,none⟩ = some (Z ab aN)∧w'.cell? ⟨AQ,2,none⟩ = some (Z ab bC)∧w'.cell? ⟨AQ,3,none⟩ = some (Z ab bD)∧w'.cell? ⟨oQ,0,none⟩ = some (Z ab ai)∧w'.cell? ⟨oQ,1,none⟩ = some (Z ab aj)∧w'.cell? ⟨oQ,2,none⟩ = some (Z ab az)∧w'.cell? ⟨oQ,3,none⟩ = some (Z ab aA)∧w'.cell? ⟨oQ,4,none⟩ = some (Z ab aI)∧w'.cell? ⟨oQ,5,none⟩ = some (Z ab aD)∧w'.cell? ⟨oQ,6,none⟩ = some (Z ab aJ)∧w'.cell? ⟨oQ,7,none⟩ = some (.slice dY aX.length dS)∧w'.cell? ⟨oQ,8,none⟩ = some (.slice dV aG.length dU)) (ds:=[]) #[al,al,al,al,al,al] aT rfl rfl ⟨bH gu 0,bH gu 1,bH gu 2,bH gu 3,Ay iE.out⟩ (fun hHeld=>?_)
              generalize wr.drew = w66 at iE gu lH kV HB hHeld ⊢
              refine dR (i:=2) (N:=some 48) aT ?_
              refine iT (i:=0) (N:=some 46) aT hHeld ?_
              refine iT (i:=1) (N:=some 47) aT hHeld ?_
              refine iW (i:=3) (N:=some 49) #[ac,ac,ac,ac,al,al] rfl rfl aT (by decide) (fun K hK=>?_)
              refine gY Try.func42 aT rfl #[.agg #[Z ab ai,Z ab aj,Z ab az,Z ab aA,Z ab aI,Z ab aD,Z ab aJ,.slice dY aX.length dS,.slice dV aG.length dU],Z ab iY] (by rfl) rfl rfl jB ?_
              with_reducible refine (ig.calls ai aj az aA aI aD aJ _ _ aX _ _ aG iY XR XT XU XV _ ?dG ?dH ?eP ?eQ A27.out).mono ?_
              (case dG=>repeat (first|exact (Kd.bz iI.out HB.out)|(with_reducible refine Kd.bJ ?_ _)|(with_reducible refine Kd.bK ?_ _)|(with_reducible refine Kd.bZ ?_)))
              (case dH=>exact iO.out)
              (case eP=>repeat (first|exact (Kd.bz iB.out HB.out)|(with_reducible refine Kd.bJ ?_ _)|(with_reducible refine Kd.bK ?_ _)|(with_reducible refine Kd.bZ ?_)))
              (case eQ=>exact iP.out)
              rintro e w67 ⟨rfl,hb⟩
              refine ⟨_,rfl,?_⟩
              replace iE:=bn iE hb
              replace gu:=bn gu hb
              replace lH:=bn lH hb
              replace kV:=bn kV hb
              replace HB:=dz HB hb
              (try clear hb)
              (try clear hb2)
              (try clear hk)
              (try clear hi)
              refine hK.out _ _ ⟨bH gu 0,bH gu 1,bH gu 2,bH gu 3,Ay iE.out⟩ (fun hHeld=>?_)
              clear hK K
              refine dQ aBY ?_
              refine iW (i:=4) (N:=some 50) #[ac,ac,ac,ac,ac,al] rfl rfl aT (by decide) (fun K hK=>?_)
              refine gY Try.func104 aT rfl #[.agg #[Z ab aQ,Z ab aN,Z ab bC,Z ab bD],.agg #[Z ab XR,Z ab XT,Z ab XU,Z ab XV]] (by rfl) rfl rfl jB ?_
              with_reducible refine (fw.calls aQ aN bC bD XR XT XU XV true _ A28.out).mono ?_
              rintro e w68 ⟨rfl,hb⟩
              refine ⟨_,rfl,?_⟩
              replace iE:=bn iE hb
              replace gu:=bn gu hb
              replace lH:=bn lH hb
              replace kV:=bn kV hb
              replace HB:=dz HB hb
              (try clear hb)
              (try clear hb2)
              (try clear hk)
              (try clear hi)
              refine hK.out _ _ ⟨bH gu 0,bH gu 1,bH gu 2,bH gu 3,Ay iE.out⟩ (fun hHeld=>?_)
              clear hK K
              refine dQ aBZ ?_
              refine dR (i:=5) (N:=some 51) aT ?_
              refine mi aT ?_
              obtain ⟨avd,ave,avf,avg,avh,avi,avj,aPp,aPq,avk,avl,avm,avn,avo,avp,avq,aPr,aPs⟩:=jS iE.out
              have ag3:0≤((iV):Int):=of_decide_eq_true nM
              have ag4:(iV) < (aG.length:Int):=of_decide_eq_true nM
              obtain ⟨aAn,aDs,Ir,Iu,Iw,Iy⟩:=GI iB.out (iV) ag3 ag4
              cases aDs
              replace Ir:=(HB.out.cell (bd w _ Ir)).trans Ir
              replace Iu:=(HB.out.cell (bd w _ Iu)).trans Iu
              replace Iw:=(HB.out.cell (bd w _ Iw)).trans Iw
              replace Iy:=(HB.out.cell (bd w _ Iy)).trans Iy
              replace ag3:=eq_true ag3
              replace ag4:=eq_true ag4
              try go_wp2_with (first|((with_reducible refine av (N:=15) rfl ?_);refine ak (by rfl) (N:=15) (by rfl) (cs:=#[Z ab 0,Z ab 0,Z ab 0,Z ab 0]) (t:=40) fU ?_;intro nJ hg w70 ay hb;have qX:=af.mk (ay);have aG7:=bY HB hg;have aG8:=bY HB hg;have yI:=fG iE hg;have yJ:=fH iE hg;have yK:=fG gu hg;have yL:=fH gu hg;have yM:=fG lH hg;have yN:=fH lH hg;have nP:=fG kV hg;have yO:=fH kV hg;replace iE:=bn iE hb;replace gu:=bn gu hb;replace lH:=bn lH hb;replace kV:=bn kV hb;replace HB:=dz HB hb;clear hb ay hg;have aAy:=yJ.out;have aAz:=yI.out;have aAA:=yL.out;have aAB:=yK.out;have aHb:=yN.out;have aHc:=yM.out;have aAC:=yO.out;have aAD:=nP.out;obtain ⟨avr,avs,avt,avu,avv,avw,avx,avy⟩:=jA qX.out;have aAE:=QE.out;have aAF:=QD.out;have aHd:=QG.out;have aHe:=QF.out;obtain ⟨aPt,aPu,aPv,aPw,aPx,aPy,aPz,aPA⟩:=jA kV.out))
              go_roundg k3
              case measure=>have:=Cj.out;have:=agh.out;have:=HK3.out;omega
              case rel=>exact ⟨(true),(an (iY+1)),((bE aG (iV)).f0.f0),((bE aG (iV)).f0.f1),((bE aG (iV)).f1.f0),((bE aG (iV)).f1.f1),om,om,H',⟨asF⟩,⟨iK⟩,⟨iK⟩,⟨iK⟩,⟨by (with_reducible repeat (first|refine au ?_ _|refine ag ?_|refine aa ?_ _));refine aK (cs:=#[Z ab ((bE aG (iV)).f0.f0),Z ab ((bE aG (iV)).f0.f1),Z ab ((bE aG (iV)).f1.f0),Z ab iZ]) ?_ 3 _ rfl;(with_reducible repeat (first|refine au ?_ _|refine ag ?_|refine aa ?_ _));refine aK (cs:=#[Z ab ((bE aG (iV)).f0.f0),Z ab ((bE aG (iV)).f0.f1),Z ab jH,Z ab iZ]) ?_ 2 _ rfl;(with_reducible repeat (first|refine au ?_ _|refine ag ?_|refine aa ?_ _));refine aK (cs:=#[Z ab ((bE aG (iV)).f0.f0),Z ab kF,Z ab jH,Z ab iZ]) ?_ 1 _ rfl;(with_reducible repeat (first|refine au ?_ _|refine ag ?_|refine aa ?_ _));refine aK (cs:=#[Z ab lS,Z ab kF,Z ab jH,Z ab iZ]) ?_ 0 _ rfl;(with_reducible repeat (first|refine au ?_ _|refine ag ?_|refine aa ?_ _));refine aM ?_ nP.out _;(with_reducible repeat (first|refine au ?_ _|refine ag ?_|refine aa ?_ _));refine aM ?_ nP.out _;(with_reducible repeat (first|refine au ?_ _|refine ag ?_|refine aa ?_ _));refine aM ?_ nP.out _;(with_reducible repeat (first|refine au ?_ _|refine ag ?_|refine aa ?_ _));refine aM ?_ nP.out _;(with_reducible repeat (first|refine au ?_ _|refine ag ?_|refine aa ?_ _));exact kV.out⟩,⟨gp⟩⟩
            ·rw [if_neg c32] at H
             exact absurd H (by simp)
           ·rw [if_neg c31] at H
            exact absurd H (by simp)
          ·replace c29:=Bool.eq_false_iff.mpr c29
           subst c29
           have H1:(aZ.l1 k3 a2 a3 a4 FQ gZ (an (iY+1)) ai aj az aA aI aD aJ aX aG aQ aN bC bD lS kF jH iZ) = some (r1,r2,r3,r4):=by rw [if_neg (show ¬ (false = true) by decide)] at H;exact H
           clear H
           have H:=H1
           clear H1
           have H':=af.mk H
           clear H
           have aHf:=vO.out
           have aHg:=vQ.out
           have aHh:=vR.out
           have aHi:=vS.out
           have aAG:=vT.out
           have aAH:=vU.out
           obtain ⟨avz,avA,avB,avC,aPB,aPC,aPD,aPE,aPF,avD,avE,avF,avG,aPG,aPH,aPI,aPJ,aPK⟩:=jS iE.out
           try go_wp2
           replace iE:=af.mk (ag iE.out)
           replace gu:=af.mk (ag gu.out)
           replace lH:=af.mk (ag lH.out)
           replace kV:=af.mk (ag kV.out)
           replace HB:=af.mk (bF HB.out)
           refine jV (n:=6) (S:=fun w'=>w'.cell? ⟨AQ,0,none⟩ = some (Z ab aQ)∧w'.cell? ⟨AQ,1,none⟩ = some (Z ab aN)∧w'.cell? ⟨AQ,2,none⟩ = some (Z ab bC)∧w'.cell? ⟨AQ,3,none⟩ = some (Z ab bD)∧w'.cell? ⟨oQ,0,none⟩ = some (Z ab ai)∧w'.cell? ⟨oQ,1,none⟩ = some (Z ab aj)∧w'.cell? ⟨oQ,2,none⟩ = some (Z ab az)∧w'.cell? ⟨oQ,3,none⟩ = some (Z ab aA)∧w'.cell? ⟨oQ,4,none⟩ = some (Z ab aI)∧w'.cell? ⟨oQ,5,none⟩ = some (Z ab aD)∧w'.cell? ⟨oQ,6,none⟩ = some (Z ab aJ)∧w'.cell? ⟨oQ,7,none⟩ = some (.slice dY aX.length dS)∧w'.cell? ⟨oQ,8,none⟩ = some (.slice dV aG.length dU)) (ds:=[]) #[al,al,al,al,al,al] aT rfl rfl ⟨bH gu 0,bH gu 1,bH gu 2,bH gu 3,Ay iE.out⟩ (fun hHeld=>?_)
           generalize wr.drew = w83 at iE gu lH kV HB hHeld ⊢
           refine dR (i:=2) (N:=some 48) aT ?_
           refine iT (i:=0) (N:=some 46) aT hHeld ?_
           refine iT (i:=1) (N:=some 47) aT hHeld ?_
           refine iW (i:=3) (N:=some 49) #[ac,ac,ac,ac,al,al] rfl rfl aT (by decide) (fun K hK=>?_)
           refine gY Try.func42 aT rfl #[.agg #[Z ab ai,Z ab aj,Z ab az,Z ab aA,Z ab aI,Z ab aD,Z ab aJ,.slice dY aX.length dS,.slice dV aG.length dU],Z ab iY] (by rfl) rfl rfl jB ?_
           with_reducible refine (ig.calls ai aj az aA aI aD aJ _ _ aX _ _ aG iY XR XT XU XV _ ?dG ?dH ?eP ?eQ A27.out).mono ?_
           (case dG=>repeat (first|exact (Kd.bz iI.out HB.out)|(with_reducible refine Kd.bJ ?_ _)|(with_reducible refine Kd.bK ?_ _)|(with_reducible refine Kd.bZ ?_)))
           (case dH=>exact iO.out)
           (case eP=>repeat (first|exact (Kd.bz iB.out HB.out)|(with_reducible refine Kd.bJ ?_ _)|(with_reducible refine Kd.bK ?_ _)|(with_reducible refine Kd.bZ ?_)))
           (case eQ=>exact iP.out)
           rintro e w84 ⟨rfl,hb⟩
           refine ⟨_,rfl,?_⟩
           replace iE:=bn iE hb
           replace gu:=bn gu hb
           replace lH:=bn lH hb
           replace kV:=bn kV hb
           replace HB:=dz HB hb
           (try clear hb)
           (try clear hb2)
           (try clear hk)
           (try clear hi)
           refine hK.out _ _ ⟨bH gu 0,bH gu 1,bH gu 2,bH gu 3,Ay iE.out⟩ (fun hHeld=>?_)
           clear hK K
           refine dQ aBY ?_
           refine iW (i:=4) (N:=some 50) #[ac,ac,ac,ac,ac,al] rfl rfl aT (by decide) (fun K hK=>?_)
           refine gY Try.func104 aT rfl #[.agg #[Z ab aQ,Z ab aN,Z ab bC,Z ab bD],.agg #[Z ab XR,Z ab XT,Z ab XU,Z ab XV]] (by rfl) rfl rfl jB ?_
           with_reducible refine (fw.calls aQ aN bC bD XR XT XU XV false _ A28.out).mono ?_
           rintro e w85 ⟨rfl,hb⟩
           refine ⟨_,rfl,?_⟩
           replace iE:=bn iE hb
           replace gu:=bn gu hb
           replace lH:=bn lH hb
           replace kV:=bn kV hb
           replace HB:=dz HB hb
           (try clear hb)
           (try clear hb2)
           (try clear hk)
           (try clear hi)
           refine hK.out _ _ ⟨bH gu 0,bH gu 1,bH gu 2,bH gu 3,Ay iE.out⟩ (fun hHeld=>?_)
           clear hK K
           refine dQ aBZ ?_
           refine dR (i:=5) (N:=some 51) aT ?_
           refine mi aT ?_
           try go_wp2
           go_roundg k3
           case measure=>have:=Cj.out;have:=agh.out;have:=HK3.out;omega
           case rel=>exact ⟨(FQ),(an (iY+1)),(lS),(kF),(jH),(iZ),om,om,H',⟨asF⟩,⟨iK⟩,⟨iK⟩,⟨iK⟩,⟨iK⟩,⟨gp⟩⟩
         ·rw [if_neg Xr] at H
          have Yv:decide (iY < (an (ai*aj))) = false:=decide_eq_false Xr
          clear Xr
          have H':=af.mk H
          clear H
          have aHj:=vO.out
          have aHk:=vQ.out
          have aHl:=vR.out
          have aHm:=vS.out
          have aHn:=vT.out
          have aHo:=vU.out
          obtain ⟨avH,avI,avJ,avK,avL,avM,avN,aPL,aPM,avO,avP,avQ,avR,avS,avT,avU,aPN,aPO⟩:=jS iE.out
          go_wp2
          go_roundg k3
          case measure=>have:=Cj.out;have:=agh.out;have:=HK3.out;omega
          case rel=>exact ⟨(FQ),(an (gZ+1)),(lS),(kF),(jH),(iZ),om,om,H',⟨asF⟩,⟨iK⟩,⟨iK⟩,⟨iK⟩,⟨iK⟩,⟨gp⟩⟩
   ·rw [if_neg c10] at H
    have Cs:decide (gZ < aI) = false:=decide_eq_false c10
    clear c10
    simp only [Option.some.injEq,Prod.mk.injEq] at H
    obtain ⟨rfl,rfl,rfl,rfl⟩:=H
    have a1B:=vO.out
    have a1C:=vQ.out
    have aHp:=vR.out
    have aHq:=vS.out
    have aHr:=vT.out
    have aHs:=vU.out
    obtain ⟨avV,avW,avX,avY,aPP,aPQ,aPR,aPS,aPT,avZ,av0,av1,av2,aPU,aPV,aPW,aPX,aPY⟩:=jS iE.out
    have aHt:=QE.out
    have aHu:=QD.out
    have aAI:=QG.out
    have aAJ:=QF.out
    obtain ⟨av3,av4,aPZ,aP0,av5,av6,aP1,aP2⟩:=jA kV.out
    have a1D:=am0.out
    have a1E:=amZ.out
    obtain ⟨av7,av8,av9,awc,awd,awe,awf,awg⟩:=jA lH.out
    go_wp2
    refine bodyPost_ret (results_cell_row rfl _ _ aex 40 #[Z ab oP,Z ab o8,Z ab qo,Z ab rf] (0,0) _ rfl (by (with_reducible repeat (first|refine au ?_ _|refine ag ?_|refine aa ?_ _));refine aK (cs:=#[Z ab oP,Z ab o8,Z ab qo,Z ab 0]) ?_ 3 _ rfl;(with_reducible repeat (first|refine au ?_ _|refine ag ?_|refine aa ?_ _));refine aK (cs:=#[Z ab oP,Z ab o8,Z ab 0,Z ab 0]) ?_ 2 _ rfl;(with_reducible repeat (first|refine au ?_ _|refine ag ?_|refine aa ?_ _));refine aK (cs:=#[Z ab oP,Z ab 0,Z ab 0,Z ab 0]) ?_ 1 _ rfl;(with_reducible repeat (first|refine au ?_ _|refine ag ?_|refine aa ?_ _));refine aK (cs:=#[Z ab 0,Z ab 0,Z ab 0,Z ab 0]) ?_ 0 _ rfl;(with_reducible repeat (first|refine au ?_ _|refine ag ?_|refine aa ?_ _));exact lH.out) Try.underlying40 rfl aT) rfl ?_
    exact ⟨mJ,gp⟩
def dD.f (k:Nat) (ai:Int) (aj:Int) (az:Int) (aA:Int) (aI:Int) (aD:Int) (aJ:Int) (aX:List Bool) (aG:List (qK)) (aQ:Int) (aN:Int) (bC:Int) (bD:Int) (bU:Int) (bV:Int) (bW:Int) (cO:Int) (cZ:Int) (dh:Int) (di:Int) (a3:Int) (fE:Int) (eZ:Int):Option (Int × Int × Int × Int):=(lQ.f fE).bind fun aey=>((fB.f k ai aj az aA aI aD aJ aX aG aQ aN bC bD bU bV bW cO cZ dh di).bind fun EP=>((aZ.f k ai aj az aA aI aD aJ aX aG EP.1 EP.2.1 EP.2.2.1 EP.2.2.2 eZ a3 (an (a3+aN))).bind fun xC=>((dF.f k cO cZ (an (aey.1*aQ)) xC.1 xC.2.1 aN).bind fun ER=>((dF.f k dh di (an (aey.2*aQ)) xC.2.2.1 xC.2.2.2 aN).bind fun Ak=>(some (ER.1,ER.2,Ak.1,Ak.2))))))
def dD.T2:Bool × List (List Nat × List Nat):=(true,[([],[]),([],[]),([],[]),([],[]),([1,2,3],[1,2,3]),([],[]),([5],[5]),([],[]),([],[]),([],[]),([9],[9]),([8,10],[8,10]),([0,4,6,7,11,4],[0,4,6,7,11]),([],[]),([13,12,12,0,1,2,3,4,5,6,7,8,9,10,11,12,13],[12,13])])
def dD.B2:List Nat:=[0,0,0,0,14,0,32,0,0,0,512,1792,4095,0,16383]
theorem dD.apn:rX .any (opsOf Try.f106 2) = dD.T2:=by kernel_rfl
theorem dD.ad8:oF dD.T2.2 dD.B2 = true:=by kernel_rfl
def dD.T3:Bool × List (List Nat × List Nat):=(true,[([],[]),([0],[0]),([],[]),([],[]),([3],[3]),([2,4],[2,4]),([],[]),([6],[6]),([],[]),([8],[8]),([1,5,7,9],[1,5,7,9]),([],[]),([11],[11]),([],[]),([],[]),([14],[14]),([13,15],[13,15]),([],[]),([17],[17]),([],[]),([19],[19]),([12,16,18,20,10],[12,16,18,20]),([10,21],[10,21]),([22,21,0,1,2,3,4,5,6,7,8,9,10,11,12,13,14,15,16,17,18,19,20,21,22],[22])])
def dD.B3:List Nat:=[0,1,0,0,8,28,0,64,0,256,1023,0,2048,0,0,16384,57344,0,131072,0,524288,2097151,4194303,8388607]
theorem dD.aXt:rX .any (opsOf Try.f106 3) = dD.T3:=by kernel_rfl
theorem dD.aHv:oF dD.T3.2 dD.B3 = true:=by kernel_rfl
theorem dD.calls (k:Nat) (ai:Int) (aj:Int) (az:Int) (aA:Int) (aI:Int) (aD:Int) (aJ:Int) (dY:Option Addr) (dS:Nat) (aX:List Bool) (dV:Option Addr) (dU:Nat) (aG:List (qK)) (aQ:Int) (aN:Int) (bC:Int) (bD:Int) (bU:Int) (bV:Int) (bW:Int) (cO:Int) (cZ:Int) (dh:Int) (di:Int) (a3:Int) (fE:Int) (eZ:Int) (r1:Int) (r2:Int) (r3:Int) (r4:Int) (w:ao) (jC:Kd.C Kd.bool w dY aX.length aX) (jD:aX.length≤dS) (jE:Kd.C Dt w dV aG.length aG) (jF:aG.length≤dU) (h:dD.f k ai aj az aA aI aD aJ aX aG aQ aN bC bD bU bV bW cO cZ dh di a3 fE eZ = some (r1,r2,r3,r4)):
 Calls Try.prog 106 #[.agg #[Z ab ai,Z ab aj,Z ab az,Z ab aA,Z ab aI,Z ab aD,Z ab aJ,.slice dY aX.length dS,.slice dV aG.length dU],.agg #[Z ab aQ,Z ab aN,Z ab bC,Z ab bD,Z ab bU,Z ab bV,Z ab bW],.agg #[Z ab cO,Z ab cZ,Z ab dh,Z ab di],Z ab a3,.agg #[Z ab fE,Z ab eZ]] w fun e w'=>e = .returned (.agg #[Z ab r1,Z ab r2,Z ab r3,Z ab r4])∧Below w.heap.size w w':=by
 have xS:=Try.underlying25
 have vo:=Try.underlying29
 have qj:=Try.underlying31
 have E9:=Try.underlying33
 have atm:=Try.underlying40
 have oO:=Try.underlying27
 have iI:=af.mk jC
 have iO:=af.mk jD
 clear jC jD
 have iB:=af.mk jE
 have iP:=af.mk jF
 clear jE jF
 have HB:=af.mk (Below.refl w.heap.size w)
 have H:((lQ.f fE).bind fun aey=>((fB.f k ai aj az aA aI aD aJ aX aG aQ aN bC bD bU bV bW cO cZ dh di).bind fun EP=>((aZ.f k ai aj az aA aI aD aJ aX aG EP.1 EP.2.1 EP.2.2.1 EP.2.2.2 eZ a3 (an (a3+aN))).bind fun xC=>((dF.f k cO cZ (an (aey.1*aQ)) xC.1 xC.2.1 aN).bind fun ER=>((dF.f k dh di (an (aey.2*aQ)) xC.2.2.1 xC.2.2.2 aN).bind fun Ak=>(some (ER.1,ER.2,Ak.1,Ak.2))))))) = some (r1,r2,r3,r4):=h
 clear h
 replace H:=Option.bind_eq_some_iff.mp H
 obtain ⟨⟨am2,ag5⟩,Nn,H⟩:=H
 replace H:((fB.f k ai aj az aA aI aD aJ aX aG aQ aN bC bD bU bV bW cO cZ dh di).bind fun EP=>((aZ.f k ai aj az aA aI aD aJ aX aG EP.1 EP.2.1 EP.2.2.1 EP.2.2.2 eZ a3 (an (a3+aN))).bind fun xC=>((dF.f k cO cZ (an (am2*aQ)) xC.1 xC.2.1 aN).bind fun ER=>((dF.f k dh di (an (ag5*aQ)) xC.2.2.1 xC.2.2.2 aN).bind fun Ak=>(some (ER.1,ER.2,Ak.1,Ak.2)))))) = some (r1,r2,r3,r4):=H
 have A6:=af.mk Nn
 clear Nn
 replace H:=Option.bind_eq_some_iff.mp H
 obtain ⟨⟨XW,XX,XY,XZ⟩,A70,H⟩:=H
 replace H:((aZ.f k ai aj az aA aI aD aJ aX aG XW XX XY XZ eZ a3 (an (a3+aN))).bind fun xC=>((dF.f k cO cZ (an (am2*aQ)) xC.1 xC.2.1 aN).bind fun ER=>((dF.f k dh di (an (ag5*aQ)) xC.2.2.1 xC.2.2.2 aN).bind fun Ak=>(some (ER.1,ER.2,Ak.1,Ak.2))))) = some (r1,r2,r3,r4):=H
 have A7:=af.mk A70
 clear A70
 replace H:=Option.bind_eq_some_iff.mp H
 obtain ⟨⟨FR,Iz,IA,Jp⟩,Rq,H⟩:=H
 replace H:((dF.f k cO cZ (an (am2*aQ)) FR Iz aN).bind fun ER=>((dF.f k dh di (an (ag5*aQ)) IA Jp aN).bind fun Ak=>(some (ER.1,ER.2,Ak.1,Ak.2)))) = some (r1,r2,r3,r4):=H
 have A8:=af.mk Rq
 clear Rq
 replace H:=Option.bind_eq_some_iff.mp H
 obtain ⟨⟨ag6,am3⟩,A90,H⟩:=H
 replace H:((dF.f k dh di (an (ag5*aQ)) IA Jp aN).bind fun Ak=>(some (ag6,am3,Ak.1,Ak.2))) = some (r1,r2,r3,r4):=H
 have A9:=af.mk A90
 clear A90
 replace H:=Option.bind_eq_some_iff.mp H
 obtain ⟨⟨awh,aDt⟩,Fu,H⟩:=H
 replace H:(some (ag6,am3,awh,aDt)) = some (r1,r2,r3,r4):=H
 have Rs:=af.mk Fu
 clear Fu
 simp only [Option.some.injEq,Prod.mk.injEq] at H
 obtain ⟨rfl,rfl,rfl,rfl⟩:=H
 go_enter Try.func106,Try.ntmps106
 try go_wp2_with (first|((with_reducible refine av (N:=5) rfl ?_);refine ak (by rfl) (N:=5) (by rfl) (cs:=#[Z ab ai,Z ab aj,Z ab az,Z ab aA,Z ab aI,Z ab aD,Z ab aJ,.slice dY aX.length dS,.slice dV aG.length dU]) (t:=25) fU ?_;intro oq hg w11 ay hb;have dL:=af.mk (ay);have a1G:=bY HB hg;have a1H:=bY HB hg;replace HB:=dz HB hb;clear hb ay hg)|((with_reducible refine av (N:=6) rfl ?_);refine ak (by rfl) (N:=6) (by rfl) (cs:=#[Z ab aQ,Z ab aN,Z ab bC,Z ab bD,Z ab bU,Z ab bV,Z ab bW]) (t:=29) fU ?_;intro nZ hg Ja ay hb;have dN:=af.mk (ay);have a1I:=bY HB hg;have a1J:=bY HB hg;have aEK:=fG dL hg;have aEL:=fH dL hg;replace dL:=bn dL hb;replace HB:=dz HB hb;clear hb ay hg)|((with_reducible refine av (N:=7) rfl ?_);refine ak (by rfl) (N:=7) (by rfl) (cs:=#[Z ab cO,Z ab cZ,Z ab dh,Z ab di]) (t:=31) fU ?_;intro sJ hg GK ay hb;have fQ:=af.mk (ay);have a1K:=bY HB hg;have a1L:=bY HB hg;have aEM:=fG dL hg;have aEN:=fH dL hg;have aEO:=fG dN hg;have aEP:=fH dN hg;replace dL:=bn dL hb;replace dN:=bn dN hb;replace HB:=dz HB hb;clear hb ay hg)|((with_reducible refine av (N:=9) rfl ?_);refine ak (by rfl) (N:=9) (by rfl) (cs:=#[Z ab fE,Z ab eZ]) (t:=33) fU ?_;intro FT hg w14 ay hb;have kg:=af.mk (ay);have a1M:=bY HB hg;have a1N:=bY HB hg;have am4:=fG dL hg;have am5:=fH dL hg;have am6:=fG dN hg;have am7:=fH dN hg;have am8:=fG fQ hg;have am9:=fH fQ hg;replace dL:=bn dL hb;replace dN:=bn dN hb;replace fQ:=bn fQ hb;replace HB:=dz HB hb;clear hb ay hg)|((with_reducible refine av (N:=10) rfl ?_);refine ak (by rfl) (N:=10) (by rfl) (cs:=#[Z ab 0,Z ab 0,Z ab 0,Z ab 0]) (t:=31) fU ?_;intro Jf hg w15 ay hb;have lI:=af.mk (ay);have a1O:=bY HB hg;have a1P:=bY HB hg;have Lm:=fG dL hg;have Lp:=fH dL hg;have ib:=fG dN hg;have Lr:=fH dN hg;have lq:=fG fQ hg;have Ls:=fH fQ hg;have FU:=fG kg hg;have FV:=fH kg hg;replace dL:=bn dL hb;replace dN:=bn dN hb;replace fQ:=bn fQ hb;replace kg:=bn kg hb;replace HB:=dz HB hb;clear hb ay hg;have OD:=am5.out;have OE:=am4.out;have RH:=am7.out;have RI:=am6.out;have Yw:=am9.out;have Yx:=am8.out;have Ru:=FU.out;have Rv:=FV.out;obtain ⟨uY,uZ,u6,ve⟩:=iQ kg.out)|((with_reducible refine aU (f:=34) rfl ?_);refine dn (some 17) rfl rfl Try.func34 aT rfl #[Z ab fE] rfl jB ?_;(with_reducible refine (lQ.calls fE am2 ag5 _ A6.out).mono ?_);rintro e w21 ⟨rfl,hb⟩;refine ⟨_,rfl,?_⟩;replace dL:=bn dL hb;replace dN:=bn dN hb;replace fQ:=bn fQ hb;replace kg:=bn kg hb;replace lI:=bn lI hb;replace HB:=dz HB hb;(try clear hb);(try clear hb2);(try clear hk);(try clear hi)))
 replace dL:=af.mk (ag dL.out)
 replace dN:=af.mk (ag dN.out)
 replace fQ:=af.mk (ag fQ.out)
 replace kg:=af.mk (ag kg.out)
 replace lI:=af.mk (ag lI.out)
 replace HB:=af.mk (bF HB.out)
 refine jV (n:=15) (S:=fun w'=>w'.cell? ⟨oq,0,none⟩ = some (Z ab ai)∧w'.cell? ⟨oq,1,none⟩ = some (Z ab aj)∧w'.cell? ⟨oq,2,none⟩ = some (Z ab az)∧w'.cell? ⟨oq,3,none⟩ = some (Z ab aA)∧w'.cell? ⟨oq,4,none⟩ = some (Z ab aI)∧w'.cell? ⟨oq,5,none⟩ = some (Z ab aD)∧w'.cell? ⟨oq,6,none⟩ = some (Z ab aJ)∧w'.cell? ⟨oq,7,none⟩ = some (.slice dY aX.length dS)∧w'.cell? ⟨oq,8,none⟩ = some (.slice dV aG.length dU)∧w'.cell? ⟨nZ,0,none⟩ = some (Z ab aQ)∧w'.cell? ⟨nZ,1,none⟩ = some (Z ab aN)∧w'.cell? ⟨nZ,2,none⟩ = some (Z ab bC)∧w'.cell? ⟨nZ,3,none⟩ = some (Z ab bD)∧w'.cell? ⟨nZ,4,none⟩ = some (Z ab bU)∧w'.cell? ⟨nZ,5,none⟩ = some (Z ab bV)∧w'.cell? ⟨nZ,6,none⟩ = some (Z ab bW)∧w'.cell? ⟨sJ,0,none⟩ = some (Z ab cO)∧w'.cell? ⟨sJ,1,none⟩ = some (Z ab cZ)∧w'.cell? ⟨sJ,2,none⟩ = some (Z ab dh)∧w'.cell? ⟨sJ,3,none⟩ = some (Z ab di)∧w'.cell? ⟨FT,0,none⟩ = some (Z ab fE)∧w'.cell? ⟨FT,1,none⟩ = some (Z ab eZ)) (ds:=[]) #[al,al,al,al,al,al,al,al,al,al,al,al,al,al,al] aT rfl rfl ⟨bH dL 0,bH dL 1,bH dL 2,bH dL 3,bH dL 4,bH dL 5,bH dL 6,bH dL 7,bH dL 8,bH dN 0,bH dN 1,bH dN 2,bH dN 3,bH dN 4,bH dN 5,bH dN 6,bH fQ 0,bH fQ 1,bH fQ 2,bH fQ 3,Ch kg.out⟩ (fun hHeld=>?_);refine jQ dD.apn dD.ad8 (fun dx mD=>?_)
 generalize w21.drew = w22 at dL dN fQ kg lI HB hHeld ⊢
 refine dR (i:=5) (N:=some 25) (aY dx.out aT) ?_
 refine dR (i:=7) (N:=some 27) (aY dx.out aT) ?_
 refine dR (i:=8) (N:=some 28) (aY dx.out aT) ?_
 refine dR (i:=9) (N:=some 29) (aY dx.out aT) ?_
 refine iT (i:=0) (N:=some 20) (bL dx.out mD.out aT) hHeld ?_
 refine iT (i:=1) (N:=some 21) (bL dx.out mD.out aT) hHeld ?_
 refine iT (i:=2) (N:=some 22) (bL dx.out mD.out aT) hHeld ?_
 refine iT (i:=3) (N:=some 23) (bL dx.out mD.out aT) hHeld ?_
 refine iT (i:=6) (N:=some 26) (bL dx.out mD.out aT) hHeld ?_
 refine iT (i:=10) (N:=some 30) (bL dx.out mD.out aT) hHeld ?_
 refine dR (i:=11) (N:=some 31) (aY dx.out aT) ?_
 refine Ro (σ:=Nat) 1 #[ac,ac,ac,ac,ac,ac,ac,ac,ac,ac,ac,ac,ac,ac,al] (fun s_=>[(24,.agg #[Z ab XW,Z ab XX,Z ab XY,Z ab XZ]),(32,.agg #[Z ab FR,Z ab Iz,Z ab IA,Z ab Jp]),(13,.pointer (some ⟨s_,0,none⟩))]) (fun s_ w'=>(w'.cell? ⟨oq,0,none⟩ = some (Z ab ai)∧w'.cell? ⟨oq,1,none⟩ = some (Z ab aj)∧w'.cell? ⟨oq,2,none⟩ = some (Z ab az)∧w'.cell? ⟨oq,3,none⟩ = some (Z ab aA)∧w'.cell? ⟨oq,4,none⟩ = some (Z ab aI)∧w'.cell? ⟨oq,5,none⟩ = some (Z ab aD)∧w'.cell? ⟨oq,6,none⟩ = some (Z ab aJ)∧w'.cell? ⟨oq,7,none⟩ = some (.slice dY aX.length dS)∧w'.cell? ⟨oq,8,none⟩ = some (.slice dV aG.length dU)∧w'.cell? ⟨nZ,0,none⟩ = some (Z ab aQ)∧w'.cell? ⟨nZ,1,none⟩ = some (Z ab aN)∧w'.cell? ⟨nZ,2,none⟩ = some (Z ab bC)∧w'.cell? ⟨nZ,3,none⟩ = some (Z ab bD)∧w'.cell? ⟨nZ,4,none⟩ = some (Z ab bU)∧w'.cell? ⟨nZ,5,none⟩ = some (Z ab bV)∧w'.cell? ⟨nZ,6,none⟩ = some (Z ab bW)∧w'.cell? ⟨sJ,0,none⟩ = some (Z ab cO)∧w'.cell? ⟨sJ,1,none⟩ = some (Z ab cZ)∧w'.cell? ⟨sJ,2,none⟩ = some (Z ab dh)∧w'.cell? ⟨sJ,3,none⟩ = some (Z ab di)∧w'.cell? ⟨FT,0,none⟩ = some (Z ab fE)∧w'.cell? ⟨FT,1,none⟩ = some (Z ab eZ))∧(w'.heap[oq]? = some (.cells #[Z ab ai,Z ab aj,Z ab az,Z ab aA,Z ab aI,Z ab aD,Z ab aJ,.slice dY aX.length dS,.slice dV aG.length dU] 25 (0,0)))∧(w'.heap[nZ]? = some (.cells #[Z ab aQ,Z ab aN,Z ab bC,Z ab bD,Z ab bU,Z ab bV,Z ab bW] 29 (0,0)))∧(w'.heap[sJ]? = some (.cells #[Z ab cO,Z ab cZ,Z ab dh,Z ab di] 31 (0,0)))∧(w'.heap[FT]? = some (.cells #[Z ab fE,Z ab eZ] 33 (0,0)))∧(w'.heap[Jf]? = some (.cells #[Z ab 0,Z ab 0,Z ab 0,Z ab 0] 31 (0,0)))∧(w'.heap[s_]? = some (.cells #[Z ab 0,Z ab 0,Z ab 0,Z ab 0] 40 (0,0)))∧(w.heap.size≤s_)∧(w.heap.size≤s_)∧(oq≠s_)∧(s_≠oq)∧(nZ≠s_)∧(s_≠nZ)∧(sJ≠s_)∧(s_≠sJ)∧(FT≠s_)∧(s_≠FT)∧(Jf≠s_)∧(s_≠Jf)∧(Below w.heap.size w w')) ?_ ?_
 rotate_left
 ·intro qW
  refine Xy (i:=4) (j:=13) (Ni:=some 24) (Nj:=some 13) #[ac,ac,ac,ac,ac,ac,ac,ac,ac,ac,ac,ac,al,al,al] #[ac,ac,ac,ac,al,ac,ac,ac,ac,ac,ac,ac,al,ac,al] rfl rfl rfl rfl (Jt dx.out aT) (by decide) (by decide) (fun K hK=>?_) (fun K hK=>?_)
  ·skip
   refine gY Try.func133 aT rfl #[.agg #[Z ab ai,Z ab aj,Z ab az,Z ab aA,Z ab aI,Z ab aD,Z ab aJ,.slice dY aX.length dS,.slice dV aG.length dU],.agg #[Z ab aQ,Z ab aN,Z ab bC,Z ab bD,Z ab bU,Z ab bV,Z ab bW],.agg #[Z ab cO,Z ab cZ,Z ab dh,Z ab di]] (by rfl) rfl rfl jB ?_
   with_reducible refine (fB.calls k ai aj az aA aI aD aJ _ _ aX _ _ aG aQ aN bC bD bU bV bW cO cZ dh di XW XX XY XZ _ ?dG ?dH ?eP ?eQ A7.out).mono ?_
   (case dG=>repeat (first|exact (Kd.bz iI.out HB.out)|(with_reducible refine Kd.bJ ?_ _)|(with_reducible refine Kd.bK ?_ _)|(with_reducible refine Kd.bZ ?_)))
   (case dH=>exact iO.out)
   (case eP=>repeat (first|exact (Kd.bz iB.out HB.out)|(with_reducible refine Kd.bJ ?_ _)|(with_reducible refine Kd.bK ?_ _)|(with_reducible refine Kd.bZ ?_)))
   (case eQ=>exact iP.out)
   rintro e w23 ⟨rfl,hb⟩
   refine ⟨_,rfl,?_⟩
   replace dL:=bn dL hb
   replace dN:=bn dN hb
   replace fQ:=bn fQ hb
   replace kg:=bn kg hb
   replace lI:=bn lI hb
   replace HB:=dz HB hb
   (try clear hb)
   (try clear hb2)
   (try clear hk)
   (try clear hi)
   refine hK.out _ _ ⟨bH dL 0,bH dL 1,bH dL 2,bH dL 3,bH dL 4,bH dL 5,bH dL 6,bH dL 7,bH dL 8,bH dN 0,bH dN 1,bH dN 2,bH dN 3,bH dN 4,bH dN 5,bH dN 6,bH fQ 0,bH fQ 1,bH fQ 2,bH fQ 3,Ch kg.out⟩ (fun hHeld=>?_)
   clear hK K
   refine dQ aoh ?_
   refine Xy (i:=12) (j:=13) (Ni:=some 32) (Nj:=some 13) #[ac,ac,ac,ac,ac,ac,ac,ac,ac,ac,ac,ac,ac,al,al] #[ac,ac,ac,ac,ac,ac,ac,ac,ac,ac,ac,ac,al,ac,al] rfl rfl rfl rfl (Jt dx.out aT) (by decide) (by decide) (fun K hK=>?_) (fun K hK=>?_)
   ·skip
    refine gY Try.func73 aT rfl #[.agg #[Z ab ai,Z ab aj,Z ab az,Z ab aA,Z ab aI,Z ab aD,Z ab aJ,.slice dY aX.length dS,.slice dV aG.length dU],.agg #[Z ab XW,Z ab XX,Z ab XY,Z ab XZ],Z ab eZ,Z ab a3,Z ab (an (a3+aN))] (by rfl) rfl rfl jB ?_
    with_reducible refine (aZ.calls k ai aj az aA aI aD aJ _ _ aX _ _ aG XW XX XY XZ eZ a3 (an (a3+aN)) FR Iz IA Jp _ ?dG ?dH ?eP ?eQ A8.out).mono ?_
    (case dG=>repeat (first|exact (Kd.bz iI.out HB.out)|(with_reducible refine Kd.bJ ?_ _)|(with_reducible refine Kd.bK ?_ _)|(with_reducible refine Kd.bZ ?_)))
    (case dH=>exact iO.out)
    (case eP=>repeat (first|exact (Kd.bz iB.out HB.out)|(with_reducible refine Kd.bJ ?_ _)|(with_reducible refine Kd.bK ?_ _)|(with_reducible refine Kd.bZ ?_)))
    (case eQ=>exact iP.out)
    rintro e w24 ⟨rfl,hb⟩
    refine ⟨_,rfl,?_⟩
    replace dL:=bn dL hb
    replace dN:=bn dN hb
    replace fQ:=bn fQ hb
    replace kg:=bn kg hb
    replace lI:=bn lI hb
    replace HB:=dz HB hb
    (try clear hb)
    (try clear hb2)
    (try clear hk)
    (try clear hi)
    refine hK.out _ _ ⟨bH dL 0,bH dL 1,bH dL 2,bH dL 3,bH dL 4,bH dL 5,bH dL 6,bH dL 7,bH dL 8,bH dN 0,bH dN 1,bH dN 2,bH dN 3,bH dN 4,bH dN 5,bH dN 6,bH fQ 0,bH fQ 1,bH fQ 2,bH fQ 3,Ch kg.out⟩ (fun hHeld=>?_)
    clear hK K
    refine dQ aB0 ?_
    refine iW (i:=13) (N:=some 13) #[ac,ac,ac,ac,ac,ac,ac,ac,ac,ac,ac,ac,ac,ac,al] rfl rfl (gJ dx.out aT) (by decide) (fun K hK=>?_)
    refine pq ?hg (N:=13) ?hd (cs:=#[Z ab 0,Z ab 0,Z ab 0,Z ab 0]) (t:=40) ?hr ?_;(case hd=>rfl);(case hg=>rfl);(case hr=>first|(go_simp;done)|(go_simp;rfl))
    intro jv hg w25 ay hb
    have nE:=af.mk (ay)
    have YG:=bY HB hg
    have YH:=bY HB hg
    have eH:=fG dL hg
    have rq:=fH dL hg
    have fV:=fG dN hg
    have ru:=fH dN hg
    have ja:=fG fQ hg
    have ry:=fH fQ hg
    have mf:=fG kg hg
    have rz:=fH kg hg
    have ou:=fG lI hg
    have iG:=fH lI hg
    replace dL:=bn dL hb
    replace dN:=bn dN hb
    replace fQ:=bn fQ hb
    replace kg:=bn kg hb
    replace lI:=bn lI hb
    replace HB:=dz HB hb
    clear hb ay hg
    refine hK.out _ _ ⟨bH dL 0,bH dL 1,bH dL 2,bH dL 3,bH dL 4,bH dL 5,bH dL 6,bH dL 7,bH dL 8,bH dN 0,bH dN 1,bH dN 2,bH dN 3,bH dN 4,bH dN 5,bH dN 6,bH fQ 0,bH fQ 1,bH fQ 2,bH fQ 3,Ch kg.out⟩ (fun hHeld=>?_)
    clear hK K
    refine dQ agf ?_
    exact dQ Nk (qW (jv) _ ⟨hHeld,iK,iK,iK,iK,iK,iK,YG.out,YH.out,eH.out,rq.out,fV.out,ru.out,ja.out,ry.out,mf.out,rz.out,ou.out,iG.out,gp⟩)
   ·skip
    refine pq ?hg (N:=13) ?hd (cs:=#[Z ab 0,Z ab 0,Z ab 0,Z ab 0]) (t:=40) ?hr ?_;(case hd=>rfl);(case hg=>rfl);(case hr=>first|(go_simp;done)|(go_simp;rfl))
    intro jv hg w24 ay hb
    have nE:=af.mk (ay)
    have YG:=bY HB hg
    have YH:=bY HB hg
    have eH:=fG dL hg
    have rq:=fH dL hg
    have fV:=fG dN hg
    have ru:=fH dN hg
    have ja:=fG fQ hg
    have ry:=fH fQ hg
    have mf:=fG kg hg
    have rz:=fH kg hg
    have ou:=fG lI hg
    have iG:=fH lI hg
    replace dL:=bn dL hb
    replace dN:=bn dN hb
    replace fQ:=bn fQ hb
    replace kg:=bn kg hb
    replace lI:=bn lI hb
    replace HB:=dz HB hb
    clear hb ay hg
    refine hK.out _ _ ⟨bH dL 0,bH dL 1,bH dL 2,bH dL 3,bH dL 4,bH dL 5,bH dL 6,bH dL 7,bH dL 8,bH dN 0,bH dN 1,bH dN 2,bH dN 3,bH dN 4,bH dN 5,bH dN 6,bH fQ 0,bH fQ 1,bH fQ 2,bH fQ 3,Ch kg.out⟩ (fun hHeld=>?_)
    clear hK K
    refine dQ agf ?_
    refine iW (i:=12) (N:=some 32) #[ac,ac,ac,ac,ac,ac,ac,ac,ac,ac,ac,ac,ac,ac,al] rfl rfl (gJ dx.out aT) (by decide) (fun K hK=>?_)
    refine gY Try.func73 aT rfl #[.agg #[Z ab ai,Z ab aj,Z ab az,Z ab aA,Z ab aI,Z ab aD,Z ab aJ,.slice dY aX.length dS,.slice dV aG.length dU],.agg #[Z ab XW,Z ab XX,Z ab XY,Z ab XZ],Z ab eZ,Z ab a3,Z ab (an (a3+aN))] (by rfl) rfl rfl jB ?_
    with_reducible refine (aZ.calls k ai aj az aA aI aD aJ _ _ aX _ _ aG XW XX XY XZ eZ a3 (an (a3+aN)) FR Iz IA Jp _ ?dG ?dH ?eP ?eQ A8.out).mono ?_
    (case dG=>repeat (first|exact (Kd.bz iI.out HB.out)|(with_reducible refine Kd.bJ ?_ _)|(with_reducible refine Kd.bK ?_ _)|(with_reducible refine Kd.bZ ?_)))
    (case dH=>exact iO.out)
    (case eP=>repeat (first|exact (Kd.bz iB.out HB.out)|(with_reducible refine Kd.bJ ?_ _)|(with_reducible refine Kd.bK ?_ _)|(with_reducible refine Kd.bZ ?_)))
    (case eQ=>exact iP.out)
    rintro e w25 ⟨rfl,hb⟩
    refine ⟨_,rfl,?_⟩
    replace dL:=bn dL hb
    replace dN:=bn dN hb
    replace fQ:=bn fQ hb
    replace kg:=bn kg hb
    replace lI:=bn lI hb
    replace nE:=bn nE hb
    replace HB:=dz HB hb
    (try clear hb)
    (try clear hb2)
    (try clear hk)
    (try clear hi)
    refine hK.out _ _ ⟨bH dL 0,bH dL 1,bH dL 2,bH dL 3,bH dL 4,bH dL 5,bH dL 6,bH dL 7,bH dL 8,bH dN 0,bH dN 1,bH dN 2,bH dN 3,bH dN 4,bH dN 5,bH dN 6,bH fQ 0,bH fQ 1,bH fQ 2,bH fQ 3,Ch kg.out⟩ (fun hHeld=>?_)
    clear hK K
    refine dQ aB0 ?_
    exact dQ Nk (qW (jv) _ ⟨hHeld,iK,iK,iK,iK,iK,iK,YG.out,YH.out,eH.out,rq.out,fV.out,ru.out,ja.out,ry.out,mf.out,rz.out,ou.out,iG.out,gp⟩)
  ·skip
   refine pq ?hg (N:=13) ?hd (cs:=#[Z ab 0,Z ab 0,Z ab 0,Z ab 0]) (t:=40) ?hr ?_;(case hd=>rfl);(case hg=>rfl);(case hr=>first|(go_simp;done)|(go_simp;rfl))
   intro jv hg w23 ay hb
   have nE:=af.mk (ay)
   have YG:=bY HB hg
   have YH:=bY HB hg
   have eH:=fG dL hg
   have rq:=fH dL hg
   have fV:=fG dN hg
   have ru:=fH dN hg
   have ja:=fG fQ hg
   have ry:=fH fQ hg
   have mf:=fG kg hg
   have rz:=fH kg hg
   have ou:=fG lI hg
   have iG:=fH lI hg
   replace dL:=bn dL hb
   replace dN:=bn dN hb
   replace fQ:=bn fQ hb
   replace kg:=bn kg hb
   replace lI:=bn lI hb
   replace HB:=dz HB hb
   clear hb ay hg
   refine hK.out _ _ ⟨bH dL 0,bH dL 1,bH dL 2,bH dL 3,bH dL 4,bH dL 5,bH dL 6,bH dL 7,bH dL 8,bH dN 0,bH dN 1,bH dN 2,bH dN 3,bH dN 4,bH dN 5,bH dN 6,bH fQ 0,bH fQ 1,bH fQ 2,bH fQ 3,Ch kg.out⟩ (fun hHeld=>?_)
   clear hK K
   refine dQ agf ?_
   refine iW (i:=4) (N:=some 24) #[ac,ac,ac,ac,ac,ac,ac,ac,ac,ac,ac,ac,al,ac,al] rfl rfl (gJ dx.out aT) (by decide) (fun K hK=>?_)
   refine gY Try.func133 aT rfl #[.agg #[Z ab ai,Z ab aj,Z ab az,Z ab aA,Z ab aI,Z ab aD,Z ab aJ,.slice dY aX.length dS,.slice dV aG.length dU],.agg #[Z ab aQ,Z ab aN,Z ab bC,Z ab bD,Z ab bU,Z ab bV,Z ab bW],.agg #[Z ab cO,Z ab cZ,Z ab dh,Z ab di]] (by rfl) rfl rfl jB ?_
   with_reducible refine (fB.calls k ai aj az aA aI aD aJ _ _ aX _ _ aG aQ aN bC bD bU bV bW cO cZ dh di XW XX XY XZ _ ?dG ?dH ?eP ?eQ A7.out).mono ?_
   (case dG=>repeat (first|exact (Kd.bz iI.out HB.out)|(with_reducible refine Kd.bJ ?_ _)|(with_reducible refine Kd.bK ?_ _)|(with_reducible refine Kd.bZ ?_)))
   (case dH=>exact iO.out)
   (case eP=>repeat (first|exact (Kd.bz iB.out HB.out)|(with_reducible refine Kd.bJ ?_ _)|(with_reducible refine Kd.bK ?_ _)|(with_reducible refine Kd.bZ ?_)))
   (case eQ=>exact iP.out)
   rintro e w24 ⟨rfl,hb⟩
   refine ⟨_,rfl,?_⟩
   replace dL:=bn dL hb
   replace dN:=bn dN hb
   replace fQ:=bn fQ hb
   replace kg:=bn kg hb
   replace lI:=bn lI hb
   replace nE:=bn nE hb
   replace HB:=dz HB hb
   (try clear hb)
   (try clear hb2)
   (try clear hk)
   (try clear hi)
   refine hK.out _ _ ⟨bH dL 0,bH dL 1,bH dL 2,bH dL 3,bH dL 4,bH dL 5,bH dL 6,bH dL 7,bH dL 8,bH dN 0,bH dN 1,bH dN 2,bH dN 3,bH dN 4,bH dN 5,bH dN 6,bH fQ 0,bH fQ 1,bH fQ 2,bH fQ 3,Ch kg.out⟩ (fun hHeld=>?_)
   clear hK K
   refine dQ aoh ?_
   refine iW (i:=12) (N:=some 32) #[ac,ac,ac,ac,ac,ac,ac,ac,ac,ac,ac,ac,ac,ac,al] rfl rfl (gJ dx.out aT) (by decide) (fun K hK=>?_)
   refine gY Try.func73 aT rfl #[.agg #[Z ab ai,Z ab aj,Z ab az,Z ab aA,Z ab aI,Z ab aD,Z ab aJ,.slice dY aX.length dS,.slice dV aG.length dU],.agg #[Z ab XW,Z ab XX,Z ab XY,Z ab XZ],Z ab eZ,Z ab a3,Z ab (an (a3+aN))] (by rfl) rfl rfl jB ?_
   with_reducible refine (aZ.calls k ai aj az aA aI aD aJ _ _ aX _ _ aG XW XX XY XZ eZ a3 (an (a3+aN)) FR Iz IA Jp _ ?dG ?dH ?eP ?eQ A8.out).mono ?_
   (case dG=>repeat (first|exact (Kd.bz iI.out HB.out)|(with_reducible refine Kd.bJ ?_ _)|(with_reducible refine Kd.bK ?_ _)|(with_reducible refine Kd.bZ ?_)))
   (case dH=>exact iO.out)
   (case eP=>repeat (first|exact (Kd.bz iB.out HB.out)|(with_reducible refine Kd.bJ ?_ _)|(with_reducible refine Kd.bK ?_ _)|(with_reducible refine Kd.bZ ?_)))
   (case eQ=>exact iP.out)
   rintro e w25 ⟨rfl,hb⟩
   refine ⟨_,rfl,?_⟩
   replace dL:=bn dL hb
   replace dN:=bn dN hb
   replace fQ:=bn fQ hb
   replace kg:=bn kg hb
   replace lI:=bn lI hb
   replace nE:=bn nE hb
   replace HB:=dz HB hb
   (try clear hb)
   (try clear hb2)
   (try clear hk)
   (try clear hi)
   refine hK.out _ _ ⟨bH dL 0,bH dL 1,bH dL 2,bH dL 3,bH dL 4,bH dL 5,bH dL 6,bH dL 7,bH dL 8,bH dN 0,bH dN 1,bH dN 2,bH dN 3,bH dN 4,bH dN 5,bH dN 6,bH fQ 0,bH fQ 1,bH fQ 2,bH fQ 3,Ch kg.out⟩ (fun hHeld=>?_)
   clear hK K
   refine dQ aB0 ?_
   exact dQ Nk (qW (jv) _ ⟨hHeld,iK,iK,iK,iK,iK,iK,YG.out,YH.out,eH.out,rq.out,fV.out,ru.out,ja.out,ry.out,mf.out,rz.out,ou.out,iG.out,gp⟩)
 rintro jv vG ⟨hS_,h0_,h1_,h2_,h3_,h4_,h5_,h6_,h7_,h8_,h9_,JI,V7,aez,aeA,aHw,aHx,aHy,aHz,aHA⟩
 have vv:af (vG.heap[oq]? = some (.cells #[Z ab ai,Z ab aj,Z ab az,Z ab aA,Z ab aI,Z ab aD,Z ab aJ,.slice dY aX.length dS,.slice dV aG.length dU] 25 (0,0))):=⟨h0_⟩
 have vw:af (vG.heap[nZ]? = some (.cells #[Z ab aQ,Z ab aN,Z ab bC,Z ab bD,Z ab bU,Z ab bV,Z ab bW] 29 (0,0))):=⟨h1_⟩
 have vz:af (vG.heap[sJ]? = some (.cells #[Z ab cO,Z ab cZ,Z ab dh,Z ab di] 31 (0,0))):=⟨h2_⟩
 have vB:af (vG.heap[FT]? = some (.cells #[Z ab fE,Z ab eZ] 33 (0,0))):=⟨h3_⟩
 have xU:af (vG.heap[Jf]? = some (.cells #[Z ab 0,Z ab 0,Z ab 0,Z ab 0] 31 (0,0))):=⟨h4_⟩
 have Jo:af (vG.heap[jv]? = some (.cells #[Z ab 0,Z ab 0,Z ab 0,Z ab 0] 40 (0,0))):=⟨h5_⟩
 have SQ:af (w.heap.size≤jv):=⟨h6_⟩
 have Yt:af (w.heap.size≤jv):=⟨h7_⟩
 have n8_:af (oq≠jv):=⟨h8_⟩
 have n9_:af (jv≠oq):=⟨h9_⟩
 have JJ:af (nZ≠jv):=⟨JI⟩
 have V8:af (jv≠nZ):=⟨V7⟩
 have aeB:af (sJ≠jv):=⟨aez⟩
 have aeC:af (jv≠sJ):=⟨aeA⟩
 have aHB:af (FT≠jv):=⟨aHw⟩
 have aHC:af (jv≠FT):=⟨aHx⟩
 have aHD:af (Jf≠jv):=⟨aHy⟩
 have aHE:af (jv≠Jf):=⟨aHz⟩
 have aHF:af (Below w.heap.size w vG):=⟨aHA⟩
 clear dL dN fQ kg lI HB
 clear h0_ h1_ h2_ h3_ h4_ h5_ h6_ h7_ h8_ h9_ JI V7 aez aeA aHw aHx aHy aHz aHA
 have dL:=vv
 have dN:=vw
 have fQ:=vz
 have kg:=vB
 have lI:=xU
 have nE:=Jo
 have YG:=SQ
 have YH:=Yt
 have eH:=n8_
 have rq:=n9_
 have fV:=JJ
 have ru:=V8
 have ja:=aeB
 have ry:=aeC
 have mf:=aHB
 have rz:=aHC
 have ou:=aHD
 have iG:=aHE
 have HB:=aHF
 clear vv vw vz vB xU Jo SQ Yt n8_ n9_ JJ V8 aeB aeC aHB aHC aHD aHE aHF
 have hHeld:vG.cell? ⟨oq,0,none⟩ = some (Z ab ai)∧vG.cell? ⟨oq,1,none⟩ = some (Z ab aj)∧vG.cell? ⟨oq,2,none⟩ = some (Z ab az)∧vG.cell? ⟨oq,3,none⟩ = some (Z ab aA)∧vG.cell? ⟨oq,4,none⟩ = some (Z ab aI)∧vG.cell? ⟨oq,5,none⟩ = some (Z ab aD)∧vG.cell? ⟨oq,6,none⟩ = some (Z ab aJ)∧vG.cell? ⟨oq,7,none⟩ = some (.slice dY aX.length dS)∧vG.cell? ⟨oq,8,none⟩ = some (.slice dV aG.length dU)∧vG.cell? ⟨nZ,0,none⟩ = some (Z ab aQ)∧vG.cell? ⟨nZ,1,none⟩ = some (Z ab aN)∧vG.cell? ⟨nZ,2,none⟩ = some (Z ab bC)∧vG.cell? ⟨nZ,3,none⟩ = some (Z ab bD)∧vG.cell? ⟨nZ,4,none⟩ = some (Z ab bU)∧vG.cell? ⟨nZ,5,none⟩ = some (Z ab bV)∧vG.cell? ⟨nZ,6,none⟩ = some (Z ab bW)∧vG.cell? ⟨sJ,0,none⟩ = some (Z ab cO)∧vG.cell? ⟨sJ,1,none⟩ = some (Z ab cZ)∧vG.cell? ⟨sJ,2,none⟩ = some (Z ab dh)∧vG.cell? ⟨sJ,3,none⟩ = some (Z ab di)∧vG.cell? ⟨FT,0,none⟩ = some (Z ab fE)∧vG.cell? ⟨FT,1,none⟩ = some (Z ab eZ):=hS_
 refine dQ (a':=?_) ?_ ?_
 rotate_left
 ·simp only [wy,Act.put,ap,aq,ar]
  rfl
 refine iW (i:=14) (N:=none) #[ac,ac,ac,ac,ac,ac,ac,ac,ac,ac,ac,ac,ac,ac,ac] rfl rfl (gJ dx.out aT) (by decide) (fun K hK=>?_)
 have aXu:vG.cell? ⟨jv,0,none⟩ = some (Z ab 0):=(ae nE.out 0).trans rfl
 have aHG:=bg nE.out 0
 have awi:=eH.out
 have awj:=fV.out
 have aP3:=ja.out
 have aP4:=mf.out
 have aP5:=ou.out
 have awk:=rq.out
 have awl:=ru.out
 have aP6:=ry.out
 have aP7:=rz.out
 have aP8:=iG.out
 have aXv:vG.cell? ⟨jv,1,none⟩ = some (Z ab 0):=(ae nE.out 1).trans rfl
 have aHH:=bg nE.out 1
 have awm:=eH.out
 have awn:=fV.out
 have aP9:=ja.out
 have aQa:=mf.out
 have aQb:=ou.out
 have awo:=rq.out
 have awp:=ru.out
 have aQc:=ry.out
 have aQd:=rz.out
 have aQe:=iG.out
 have a5L:vG.cell? ⟨jv,2,none⟩ = some (Z ab 0):=(ae nE.out 2).trans rfl
 have a1Q:=bg nE.out 2
 have aQf:=eH.out
 have aQg:=fV.out
 have aQh:=ja.out
 have aQi:=mf.out
 have aQj:=ou.out
 have aQk:=rq.out
 have aQl:=ru.out
 have aQm:=ry.out
 have aQn:=rz.out
 have aQo:=iG.out
 have a5M:vG.cell? ⟨jv,3,none⟩ = some (Z ab 0):=(ae nE.out 3).trans rfl
 have a1R:=bg nE.out 3
 have aQp:=eH.out
 have aQq:=fV.out
 have aQr:=ja.out
 have aQs:=mf.out
 have aQt:=ou.out
 have aQu:=rq.out
 have aQv:=ru.out
 have aQw:=ry.out
 have aQx:=rz.out
 have aQy:=iG.out
 refine vF (w1:=?_) (by rfl) rfl ?_ ?_
 rotate_left
 ·go_simp
  rfl
 refine hK.out _ _ ⟨(dI eH ((dI eH ((dI eH ((dI eH (hHeld.1)))))))),(dI eH ((dI eH ((dI eH ((dI eH (hHeld.2.1)))))))),(dI eH ((dI eH ((dI eH ((dI eH (hHeld.2.2.1)))))))),(dI eH ((dI eH ((dI eH ((dI eH (hHeld.2.2.2.1)))))))),(dI eH ((dI eH ((dI eH ((dI eH (hHeld.2.2.2.2.1)))))))),(dI eH ((dI eH ((dI eH ((dI eH (hHeld.2.2.2.2.2.1)))))))),(dI eH ((dI eH ((dI eH ((dI eH (hHeld.2.2.2.2.2.2.1)))))))),(dI eH ((dI eH ((dI eH ((dI eH (hHeld.2.2.2.2.2.2.2.1)))))))),(dI eH ((dI eH ((dI eH ((dI eH (hHeld.2.2.2.2.2.2.2.2.1)))))))),(dI fV ((dI fV ((dI fV ((dI fV (hHeld.2.2.2.2.2.2.2.2.2.1)))))))),(dI fV ((dI fV ((dI fV ((dI fV (hHeld.2.2.2.2.2.2.2.2.2.2.1)))))))),(dI fV ((dI fV ((dI fV ((dI fV (hHeld.2.2.2.2.2.2.2.2.2.2.2.1)))))))),(dI fV ((dI fV ((dI fV ((dI fV (hHeld.2.2.2.2.2.2.2.2.2.2.2.2.1)))))))),(dI fV ((dI fV ((dI fV ((dI fV (hHeld.2.2.2.2.2.2.2.2.2.2.2.2.2.1)))))))),(dI fV ((dI fV ((dI fV ((dI fV (hHeld.2.2.2.2.2.2.2.2.2.2.2.2.2.2.1)))))))),(dI fV ((dI fV ((dI fV ((dI fV (hHeld.2.2.2.2.2.2.2.2.2.2.2.2.2.2.2.1)))))))),(dI ja ((dI ja ((dI ja ((dI ja (hHeld.2.2.2.2.2.2.2.2.2.2.2.2.2.2.2.2.1)))))))),(dI ja ((dI ja ((dI ja ((dI ja (hHeld.2.2.2.2.2.2.2.2.2.2.2.2.2.2.2.2.2.1)))))))),(dI ja ((dI ja ((dI ja ((dI ja (hHeld.2.2.2.2.2.2.2.2.2.2.2.2.2.2.2.2.2.2.1)))))))),(dI ja ((dI ja ((dI ja ((dI ja (hHeld.2.2.2.2.2.2.2.2.2.2.2.2.2.2.2.2.2.2.2.1)))))))),(dI mf ((dI mf ((dI mf ((dI mf (hHeld.2.2.2.2.2.2.2.2.2.2.2.2.2.2.2.2.2.2.2.2.1)))))))),(dI mf ((dI mf ((dI mf ((dI mf (hHeld.2.2.2.2.2.2.2.2.2.2.2.2.2.2.2.2.2.2.2.2.2))))))))⟩ (fun hHeld=>?_)
 clear hK K
 refine mi (ni dx.out aT) ?_
 try go_wp2
 have vv:af (((((vG.setCell ⟨jv,0,none⟩ (Z ab FR)).setCell ⟨jv,1,none⟩ (Z ab Iz)).setCell ⟨jv,2,none⟩ (Z ab IA)).setCell ⟨jv,3,none⟩ (Z ab Jp)).heap[oq]? = some (.cells #[Z ab ai,Z ab aj,Z ab az,Z ab aA,Z ab aI,Z ab aD,Z ab aJ,.slice dY aX.length dS,.slice dV aG.length dU] 25 (0,0))):=⟨iK⟩
 have vw:af (((((vG.setCell ⟨jv,0,none⟩ (Z ab FR)).setCell ⟨jv,1,none⟩ (Z ab Iz)).setCell ⟨jv,2,none⟩ (Z ab IA)).setCell ⟨jv,3,none⟩ (Z ab Jp)).heap[nZ]? = some (.cells #[Z ab aQ,Z ab aN,Z ab bC,Z ab bD,Z ab bU,Z ab bV,Z ab bW] 29 (0,0))):=⟨iK⟩
 have vz:af (((((vG.setCell ⟨jv,0,none⟩ (Z ab FR)).setCell ⟨jv,1,none⟩ (Z ab Iz)).setCell ⟨jv,2,none⟩ (Z ab IA)).setCell ⟨jv,3,none⟩ (Z ab Jp)).heap[sJ]? = some (.cells #[Z ab cO,Z ab cZ,Z ab dh,Z ab di] 31 (0,0))):=⟨iK⟩
 have vB:af (((((vG.setCell ⟨jv,0,none⟩ (Z ab FR)).setCell ⟨jv,1,none⟩ (Z ab Iz)).setCell ⟨jv,2,none⟩ (Z ab IA)).setCell ⟨jv,3,none⟩ (Z ab Jp)).heap[FT]? = some (.cells #[Z ab fE,Z ab eZ] 33 (0,0))):=⟨iK⟩
 have xU:af (((((vG.setCell ⟨jv,0,none⟩ (Z ab FR)).setCell ⟨jv,1,none⟩ (Z ab Iz)).setCell ⟨jv,2,none⟩ (Z ab IA)).setCell ⟨jv,3,none⟩ (Z ab Jp)).heap[Jf]? = some (.cells #[Z ab 0,Z ab 0,Z ab 0,Z ab 0] 31 (0,0))):=⟨iK⟩
 have Jo:af (((((vG.setCell ⟨jv,0,none⟩ (Z ab FR)).setCell ⟨jv,1,none⟩ (Z ab Iz)).setCell ⟨jv,2,none⟩ (Z ab IA)).setCell ⟨jv,3,none⟩ (Z ab Jp)).heap[jv]? = some (.cells #[Z ab FR,Z ab Iz,Z ab IA,Z ab Jp] 40 (0,0))):=⟨by (with_reducible repeat (first|refine au ?_ _|refine ag ?_|refine aa ?_ _));refine aK (cs:=#[Z ab FR,Z ab Iz,Z ab IA,Z ab 0]) ?_ 3 _ rfl;(with_reducible repeat (first|refine au ?_ _|refine ag ?_|refine aa ?_ _));refine aK (cs:=#[Z ab FR,Z ab Iz,Z ab 0,Z ab 0]) ?_ 2 _ rfl;(with_reducible repeat (first|refine au ?_ _|refine ag ?_|refine aa ?_ _));refine aK (cs:=#[Z ab FR,Z ab 0,Z ab 0,Z ab 0]) ?_ 1 _ rfl;(with_reducible repeat (first|refine au ?_ _|refine ag ?_|refine aa ?_ _));refine aK (cs:=#[Z ab 0,Z ab 0,Z ab 0,Z ab 0]) ?_ 0 _ rfl;(with_reducible repeat (first|refine au ?_ _|refine ag ?_|refine aa ?_ _));exact nE.out⟩
 have SQ:af (Below w.heap.size w ((((vG.setCell ⟨jv,0,none⟩ (Z ab FR)).setCell ⟨jv,1,none⟩ (Z ab Iz)).setCell ⟨jv,2,none⟩ (Z ab IA)).setCell ⟨jv,3,none⟩ (Z ab Jp))):=⟨gp⟩
 (try clear dL)
 (try clear dN)
 (try clear fQ)
 (try clear kg)
 (try clear lI)
 (try clear nE)
 (try clear HB)
 generalize ((((vG.setCell ⟨jv,0,none⟩ (Z ab FR)).setCell ⟨jv,1,none⟩ (Z ab Iz)).setCell ⟨jv,2,none⟩ (Z ab IA)).setCell ⟨jv,3,none⟩ (Z ab Jp)) = w31 at vv vw vz vB xU Jo SQ ⊢
 have dL:=vv
 have dN:=vw
 have fQ:=vz
 have kg:=vB
 have lI:=xU
 have nE:=Jo
 have HB:=SQ
 clear vv vw vz vB xU Jo SQ
 replace dL:=af.mk (ag dL.out)
 replace dN:=af.mk (ag dN.out)
 replace fQ:=af.mk (ag fQ.out)
 replace kg:=af.mk (ag kg.out)
 replace lI:=af.mk (ag lI.out)
 replace nE:=af.mk (ag nE.out)
 replace HB:=af.mk (bF HB.out)
 refine jV (n:=24) (S:=fun w'=>w'.cell? ⟨sJ,0,none⟩ = some (Z ab cO)∧w'.cell? ⟨sJ,1,none⟩ = some (Z ab cZ)∧w'.cell? ⟨sJ,2,none⟩ = some (Z ab dh)∧w'.cell? ⟨sJ,3,none⟩ = some (Z ab di)∧w'.cell? ⟨nZ,0,none⟩ = some (Z ab aQ)∧w'.cell? ⟨nZ,1,none⟩ = some (Z ab aN)∧w'.cell? ⟨nZ,2,none⟩ = some (Z ab bC)∧w'.cell? ⟨nZ,3,none⟩ = some (Z ab bD)∧w'.cell? ⟨nZ,4,none⟩ = some (Z ab bU)∧w'.cell? ⟨nZ,5,none⟩ = some (Z ab bV)∧w'.cell? ⟨nZ,6,none⟩ = some (Z ab bW)∧w'.cell? ⟨jv,0,none⟩ = some (Z ab FR)∧w'.cell? ⟨jv,1,none⟩ = some (Z ab Iz)∧w'.cell? ⟨jv,2,none⟩ = some (Z ab IA)∧w'.cell? ⟨jv,3,none⟩ = some (Z ab Jp)) (ds:=[]) #[al,al,al,al,al,al,al,al,al,al,al,al,al,al,al,al,al,al,al,al,al,al,al,al] aT rfl rfl ⟨bH fQ 0,bH fQ 1,bH fQ 2,bH fQ 3,bH dN 0,bH dN 1,bH dN 2,bH dN 3,bH dN 4,bH dN 5,bH dN 6,bH nE 0,bH nE 1,bH nE 2,bH nE 3⟩ (fun hHeld=>?_);refine jQ dD.aXt dD.aHv (fun dx mD=>?_)
 generalize w31.drew = w32 at dL dN fQ kg lI nE HB hHeld ⊢
 refine dR (i:=0) (N:=some 33) (aY dx.out aT) ?_
 refine dR (i:=2) (N:=some 35) (aY dx.out aT) ?_
 refine dR (i:=3) (N:=some 36) (aY dx.out aT) ?_
 refine dR (i:=6) (N:=some 39) (aY dx.out aT) ?_
 refine dR (i:=8) (N:=some 41) (aY dx.out aT) ?_
 refine dR (i:=11) (N:=some 44) (aY dx.out aT) ?_
 refine dR (i:=13) (N:=some 46) (aY dx.out aT) ?_
 refine dR (i:=14) (N:=some 47) (aY dx.out aT) ?_
 refine dR (i:=17) (N:=some 50) (aY dx.out aT) ?_
 refine dR (i:=19) (N:=some 52) (aY dx.out aT) ?_
 refine iT (i:=1) (N:=some 34) (bL dx.out mD.out aT) hHeld ?_
 refine iT (i:=4) (N:=some 37) (bL dx.out mD.out aT) hHeld ?_
 refine dR (i:=5) (N:=some 38) (aY dx.out aT) ?_
 refine iT (i:=7) (N:=some 40) (bL dx.out mD.out aT) hHeld ?_
 refine iT (i:=9) (N:=some 42) (bL dx.out mD.out aT) hHeld ?_
 refine iT (i:=12) (N:=some 45) (bL dx.out mD.out aT) hHeld ?_
 refine iT (i:=15) (N:=some 48) (bL dx.out mD.out aT) hHeld ?_
 refine dR (i:=16) (N:=some 49) (aY dx.out aT) ?_
 refine iT (i:=18) (N:=some 51) (bL dx.out mD.out aT) hHeld ?_
 refine iT (i:=20) (N:=some 53) (bL dx.out mD.out aT) hHeld ?_
 refine iW (i:=10) (N:=some 43) #[ac,ac,ac,ac,ac,ac,ac,ac,ac,ac,ac,ac,ac,ac,ac,ac,ac,ac,ac,ac,ac,al,al,al] rfl rfl (gJ dx.out aT) (by decide) (fun K hK=>?_)
 refine gY Try.func134 aT rfl #[.agg #[Z ab cO,Z ab cZ],Z ab (an (am2*aQ)),.agg #[Z ab FR,Z ab Iz],Z ab aN] (by rfl) rfl rfl jB ?_
 with_reducible refine (dF.calls k cO cZ (an (am2*aQ)) FR Iz aN ag6 am3 _ A9.out).mono ?_
 rintro e Jd ⟨rfl,hb⟩
 refine ⟨_,rfl,?_⟩
 replace dL:=bn dL hb
 replace dN:=bn dN hb
 replace fQ:=bn fQ hb
 replace kg:=bn kg hb
 replace lI:=bn lI hb
 replace nE:=bn nE hb
 replace HB:=dz HB hb
 (try clear hb)
 (try clear hb2)
 (try clear hk)
 (try clear hi)
 refine hK.out _ _ ⟨bH fQ 0,bH fQ 1,bH fQ 2,bH fQ 3,bH dN 0,bH dN 1,bH dN 2,bH dN 3,bH dN 4,bH dN 5,bH dN 6,bH nE 0,bH nE 1,bH nE 2,bH nE 3⟩ (fun hHeld=>?_)
 clear hK K
 refine dQ aFg ?_
 refine iW (i:=21) (N:=some 54) #[ac,ac,ac,ac,ac,ac,ac,ac,ac,ac,ac,ac,ac,ac,ac,ac,ac,ac,ac,ac,ac,ac,al,al] rfl rfl (gJ dx.out aT) (by decide) (fun K hK=>?_)
 refine gY Try.func134 aT rfl #[.agg #[Z ab dh,Z ab di],Z ab (an (ag5*aQ)),.agg #[Z ab IA,Z ab Jp],Z ab aN] (by rfl) rfl rfl jB ?_
 with_reducible refine (dF.calls k dh di (an (ag5*aQ)) IA Jp aN awh aDt _ Rs.out).mono ?_
 rintro e w34 ⟨rfl,hb⟩
 refine ⟨_,rfl,?_⟩
 replace dL:=bn dL hb
 replace dN:=bn dN hb
 replace fQ:=bn fQ hb
 replace kg:=bn kg hb
 replace lI:=bn lI hb
 replace nE:=bn nE hb
 replace HB:=dz HB hb
 (try clear hb)
 (try clear hb2)
 (try clear hk)
 (try clear hi)
 refine hK.out _ _ ⟨bH fQ 0,bH fQ 1,bH fQ 2,bH fQ 3,bH dN 0,bH dN 1,bH dN 2,bH dN 3,bH dN 4,bH dN 5,bH dN 6,bH nE 0,bH nE 1,bH nE 2,bH nE 3⟩ (fun hHeld=>?_)
 clear hK K
 refine dQ (by show Act.put _ (some 54) _ = _;simp only [Act.put,ap,aq,ar,eY,fo];rfl) ?_
 refine dR (i:=22) (N:=some 55) (aY dx.out aT) ?_
 refine iW (i:=23) (N:=none) #[ac,ac,ac,ac,ac,ac,ac,ac,ac,ac,ac,ac,ac,ac,ac,ac,ac,ac,ac,ac,ac,ac,ac,ac] rfl rfl (gJ dx.out aT) (by decide) (fun K hK=>?_)
 have aXw:w34.cell? ⟨Jf,0,none⟩ = some (Z ab 0):=(ae lI.out 0).trans rfl
 have aHI:=bg lI.out 0
 have awq:=Lm.out
 have awr:=ib.out
 have aws:=lq.out
 have aQz:=FU.out
 have aQA:=iG.out
 have awt:=Lp.out
 have awu:=Lr.out
 have awv:=Ls.out
 have aQB:=FV.out
 have aQC:=ou.out
 have aXx:w34.cell? ⟨Jf,1,none⟩ = some (Z ab 0):=(ae lI.out 1).trans rfl
 have aHJ:=bg lI.out 1
 have aww:=Lm.out
 have awx:=ib.out
 have awy:=lq.out
 have aQD:=FU.out
 have aQE:=iG.out
 have awz:=Lp.out
 have awC:=Lr.out
 have awD:=Ls.out
 have aQF:=FV.out
 have aQG:=ou.out
 have aXy:w34.cell? ⟨Jf,2,none⟩ = some (Z ab 0):=(ae lI.out 2).trans rfl
 have aHK:=bg lI.out 2
 have awE:=Lm.out
 have awF:=ib.out
 have awG:=lq.out
 have aQH:=FU.out
 have aQI:=iG.out
 have awH:=Lp.out
 have awI:=Lr.out
 have awJ:=Ls.out
 have aQJ:=FV.out
 have aQK:=ou.out
 have a5N:w34.cell? ⟨Jf,3,none⟩ = some (Z ab 0):=(ae lI.out 3).trans rfl
 have a1S:=bg lI.out 3
 have aQL:=Lm.out
 have aQM:=ib.out
 have aQN:=lq.out
 have aQO:=FU.out
 have aQP:=iG.out
 have aQQ:=Lp.out
 have aQR:=Lr.out
 have aQS:=Ls.out
 have aQT:=FV.out
 have aQU:=ou.out
 refine vF (w1:=?_) (by rfl) rfl ?_ ?_
 rotate_left
 ·go_simp
  rfl
 refine hK.out _ _ ⟨(dI lq ((dI lq ((dI lq ((dI lq (hHeld.1)))))))),(dI lq ((dI lq ((dI lq ((dI lq (hHeld.2.1)))))))),(dI lq ((dI lq ((dI lq ((dI lq (hHeld.2.2.1)))))))),(dI lq ((dI lq ((dI lq ((dI lq (hHeld.2.2.2.1)))))))),(dI ib ((dI ib ((dI ib ((dI ib (hHeld.2.2.2.2.1)))))))),(dI ib ((dI ib ((dI ib ((dI ib (hHeld.2.2.2.2.2.1)))))))),(dI ib ((dI ib ((dI ib ((dI ib (hHeld.2.2.2.2.2.2.1)))))))),(dI ib ((dI ib ((dI ib ((dI ib (hHeld.2.2.2.2.2.2.2.1)))))))),(dI ib ((dI ib ((dI ib ((dI ib (hHeld.2.2.2.2.2.2.2.2.1)))))))),(dI ib ((dI ib ((dI ib ((dI ib (hHeld.2.2.2.2.2.2.2.2.2.1)))))))),(dI ib ((dI ib ((dI ib ((dI ib (hHeld.2.2.2.2.2.2.2.2.2.2.1)))))))),(dI iG ((dI iG ((dI iG ((dI iG (hHeld.2.2.2.2.2.2.2.2.2.2.2.1)))))))),(dI iG ((dI iG ((dI iG ((dI iG (hHeld.2.2.2.2.2.2.2.2.2.2.2.2.1)))))))),(dI iG ((dI iG ((dI iG ((dI iG (hHeld.2.2.2.2.2.2.2.2.2.2.2.2.2.1)))))))),(dI iG ((dI iG ((dI iG ((dI iG (hHeld.2.2.2.2.2.2.2.2.2.2.2.2.2.2))))))))⟩ (fun hHeld=>?_)
 clear hK K
 refine mi (ni dx.out aT) ?_
 try go_wp2
 refine bodyPost_ret (results_cell_row rfl _ _ Jf 31 #[Z ab ag6,Z ab am3,Z ab awh,Z ab aDt] (0,0) _ rfl (by (with_reducible repeat (first|refine au ?_ _|refine ag ?_|refine aa ?_ _));refine aK (cs:=#[Z ab ag6,Z ab am3,Z ab awh,Z ab 0]) ?_ 3 _ rfl;(with_reducible repeat (first|refine au ?_ _|refine ag ?_|refine aa ?_ _));refine aK (cs:=#[Z ab ag6,Z ab am3,Z ab 0,Z ab 0]) ?_ 2 _ rfl;(with_reducible repeat (first|refine au ?_ _|refine ag ?_|refine aa ?_ _));refine aK (cs:=#[Z ab ag6,Z ab 0,Z ab 0,Z ab 0]) ?_ 1 _ rfl;(with_reducible repeat (first|refine au ?_ _|refine ag ?_|refine aa ?_ _));refine aK (cs:=#[Z ab 0,Z ab 0,Z ab 0,Z ab 0]) ?_ 0 _ rfl;(with_reducible repeat (first|refine au ?_ _|refine ag ?_|refine aa ?_ _));exact lI.out) Try.underlying31 rfl aT) rfl ?_
 exact ⟨mJ,gp⟩
def bM.l0:Nat→Int→Int→Int→Int→Int→Int→Int→Int→List Bool→List (qK)→Int→Int→Int→Int→Int→Int→Int→Int→Int→Int→Int→Option (Bool)
 |0,_,_,_,_,_,_,_,_,_,_,_,_,_,_,_,_,_,_,_,_,_=>none
 |k+1,x7,OV,OW,TN,TP,TQ,TR,TS,Lt,TT,abd,abe,abf,abg,abh,abj,abk,abl,abm,abn,abo=>if x7 < (an (OV*OW)) then (if 0≤x7 then (if x7 < (Lt.length:Int) then (if GD false Lt x7 = true then ((fB.f k OV OW TN TP TQ TR TS Lt TT abd abe abf abg abh abj abk abl abm abn abo).bind fun ES=>((ig.f OV OW TN TP TQ TR TS Lt TT x7).bind fun xD=>((fw.f ES.1 ES.2.1 ES.2.2.1 ES.2.2.2 xD.1 xD.2.1 xD.2.2.1 xD.2.2.2).bind fun Sb=>(if Sb = true then (some false) else (bM.l0 k (an (x7+1)) OV OW TN TP TQ TR TS Lt TT abd abe abf abg abh abj abk abl abm abn abo))))) else (bM.l0 k (an (x7+1)) OV OW TN TP TQ TR TS Lt TT abd abe abf abg abh abj abk abl abm abn abo)) else (none)) else (none)) else (some true)
def bM.f (k:Nat) (ai:Int) (aj:Int) (az:Int) (aA:Int) (aI:Int) (aD:Int) (aJ:Int) (aX:List Bool) (aG:List (qK)) (aQ:Int) (aN:Int) (bC:Int) (bD:Int) (bU:Int) (bV:Int) (bW:Int) (cO:Int) (cZ:Int) (dh:Int) (di:Int):Option (Bool):=bM.l0 k 0 ai aj az aA aI aD aJ aX aG aQ aN bC bD bU bV bW cO cZ dh di
def bM.T4:Bool × List (List Nat × List Nat):=(true,[([],[]),([0],[0]),([],[]),([1,2],[1,2]),([3],[3]),([4],[4]),([5],[5]),([5],[5]),([5],[5]),([6,7,8,5,5],[5,6,7,8]),([5],[5]),([5],[5]),([10,11,9,5],[5,10,11]),([9,12,12,5],[5,9,12]),([5,13],[5,13])])
def bM.B4:List Nat:=[0,1,0,7,15,31,63,63,63,511,63,63,4095,8191,16383]
theorem bM.amt:rX .any (opsOf Try.f123 4) = bM.T4:=by kernel_rfl
theorem bM.Yl:oF bM.T4.2 bM.B4 = true:=by kernel_rfl
theorem bM.calls (k:Nat) (ai:Int) (aj:Int) (az:Int) (aA:Int) (aI:Int) (aD:Int) (aJ:Int) (dY:Option Addr) (dS:Nat) (aX:List Bool) (dV:Option Addr) (dU:Nat) (aG:List (qK)) (aQ:Int) (aN:Int) (bC:Int) (bD:Int) (bU:Int) (bV:Int) (bW:Int) (cO:Int) (cZ:Int) (dh:Int) (di:Int) (r:Bool) (w:ao) (jC:Kd.C Kd.bool w dY aX.length aX) (jD:aX.length≤dS) (jE:Kd.C Dt w dV aG.length aG) (jF:aG.length≤dU) (h:bM.f k ai aj az aA aI aD aJ aX aG aQ aN bC bD bU bV bW cO cZ dh di = some r):
 Calls Try.prog 123 #[.agg #[Z ab ai,Z ab aj,Z ab az,Z ab aA,Z ab aI,Z ab aD,Z ab aJ,.slice dY aX.length dS,.slice dV aG.length dU],.agg #[Z ab aQ,Z ab aN,Z ab bC,Z ab bD,Z ab bU,Z ab bV,Z ab bW],.agg #[Z ab cO,Z ab cZ,Z ab dh,Z ab di]] w fun e w'=>e = .returned (.bool r)∧Below w.heap.size w w':=by
 have xS:=Try.underlying25
 have vo:=Try.underlying29
 have qj:=Try.underlying31
 have iI:=af.mk jC
 have iO:=af.mk jD
 clear jC jD
 have iB:=af.mk jE
 have iP:=af.mk jF
 clear jE jF
 have HB:=af.mk (Below.refl w.heap.size w)
 have H:(bM.l0 k 0 ai aj az aA aI aD aJ aX aG aQ aN bC bD bU bV bW cO cZ dh di) = some r:=h
 clear h
 have H':=af.mk H
 clear H
 go_enter Try.func123,Try.ntmps123
 go_wp2_with (first|((with_reducible refine av (N:=3) rfl ?_);refine ak (by rfl) (N:=3) (by rfl) (cs:=#[Z ab ai,Z ab aj,Z ab az,Z ab aA,Z ab aI,Z ab aD,Z ab aJ,.slice dY aX.length dS,.slice dV aG.length dU]) (t:=25) fU ?_;intro pY hg w4 ay hb;have mr:=af.mk (ay);have a1T:=bY HB hg;have a1U:=bY HB hg;replace HB:=dz HB hb;clear hb ay hg)|((with_reducible refine av (N:=4) rfl ?_);refine ak (by rfl) (N:=4) (by rfl) (cs:=#[Z ab aQ,Z ab aN,Z ab bC,Z ab bD,Z ab bU,Z ab bV,Z ab bW]) (t:=29) fU ?_;intro CG hg w5 ay hb;have gN:=af.mk (ay);have a1V:=bY HB hg;have a1W:=bY HB hg;have Lu:=fG mr hg;have Lv:=fH mr hg;replace mr:=bn mr hb;replace HB:=dz HB hb;clear hb ay hg)|((with_reducible refine av (N:=5) rfl ?_);refine ak (by rfl) (N:=5) (by rfl) (cs:=#[Z ab cO,Z ab cZ,Z ab dh,Z ab di]) (t:=31) fU ?_;intro OX hg w6 ay hb;have jT:=af.mk (ay);have a1X:=bY HB hg;have a1Y:=bY HB hg;have Lx:=fG mr hg;have LA:=fH mr hg;have aEQ:=fG gN hg;have aER:=fH gN hg;replace mr:=bn mr hb;replace gN:=bn gN hb;replace HB:=dz HB hb;clear hb ay hg))
 go_loopg [7] k (fun kq v7 w'=>∃ (kE:Int),v7 = Z ab kE∧af (bM.l0 kq kE ai aj az aA aI aD aJ aX aG aQ aN bC bD bU bV bW cO cZ dh di = some r)∧af (kq≤k)∧af (w'.heap[pY]? = some (.cells #[Z ab ai,Z ab aj,Z ab az,Z ab aA,Z ab aI,Z ab aD,Z ab aJ,(.slice dY aX.length dS),(.slice dV aG.length dU)] 25 (0,0)))∧af (w'.heap[CG]? = some (.cells #[Z ab aQ,Z ab aN,Z ab bC,Z ab bD,Z ab bU,Z ab bV,Z ab bW] 29 (0,0)))∧af (w'.heap[OX]? = some (.cells #[Z ab cO,Z ab cZ,Z ab dh,Z ab di] 31 (0,0)))∧af (Below w.heap.size w w'))
 case atStart=>exact ⟨(0),om,H',⟨Nat.le_refl _⟩,⟨iK⟩,⟨iK⟩,⟨iK⟩,⟨gp⟩⟩
 case round =>
  clear H'
  try clear c1
  try clear p2
  obtain ⟨kE,rfl,HA,Cj,mr,gN,jT,HB⟩:=hrel
  cases gk with
  |zero=>exact absurd HA.out (by simp [bM.l0])
  |succ k1 =>
   have H:=HA.out
   clear HA
   simp only [bM.l0] at H
   by_cases c7:kE < (an (ai*aj))
   ·rw [if_pos c7] at H
    have Oh:decide (kE < (an (ai*aj))) = true:=decide_eq_true c7
    clear c7
    by_cases c8:0≤kE
    ·rw [if_pos c8] at H
     have GJ:decide (0≤kE) = true:=decide_eq_true c8
     clear c8
     by_cases c9:kE < (aX.length:Int)
     ·rw [if_pos c9] at H
      have JM:decide (kE < (aX.length:Int)) = true:=decide_eq_true c9
      clear c9
      obtain ⟨aHL,apS⟩:∃ b_:Bool,b_ = (GD false aX kE):=⟨_,rfl⟩
      replace H:(if aHL = true then ((fB.f k1 ai aj az aA aI aD aJ aX aG aQ aN bC bD bU bV bW cO cZ dh di).bind fun ES=>((ig.f ai aj az aA aI aD aJ aX aG kE).bind fun xD=>((fw.f ES.1 ES.2.1 ES.2.2.1 ES.2.2.2 xD.1 xD.2.1 xD.2.2.1 xD.2.2.2).bind fun Sb=>(if Sb = true then (some false) else (bM.l0 k1 (an (kE+1)) ai aj az aA aI aD aJ aX aG aQ aN bC bD bU bV bW cO cZ dh di))))) else (bM.l0 k1 (an (kE+1)) ai aj az aA aI aD aJ aX aG aQ aN bC bD bU bV bW cO cZ dh di)) = some r:=by rw [← apS] at H;exact H
      have apT:=af.mk apS
      clear apS
      by_cases c11:aHL = true
      ·subst c11
       have H1:((fB.f k1 ai aj az aA aI aD aJ aX aG aQ aN bC bD bU bV bW cO cZ dh di).bind fun ES=>((ig.f ai aj az aA aI aD aJ aX aG kE).bind fun xD=>((fw.f ES.1 ES.2.1 ES.2.2.1 ES.2.2.2 xD.1 xD.2.1 xD.2.2.1 xD.2.2.2).bind fun Sb=>(if Sb = true then (some false) else (bM.l0 k1 (an (kE+1)) ai aj az aA aI aD aJ aX aG aQ aN bC bD bU bV bW cO cZ dh di))))) = some r:=by rw [if_pos rfl] at H;exact H
       clear H
       have H:=H1
       clear H1
       replace H:=Option.bind_eq_some_iff.mp H
       obtain ⟨⟨aeD,aeE,aeF,aeG⟩,OG,H⟩:=H
       replace H:((ig.f ai aj az aA aI aD aJ aX aG kE).bind fun xD=>((fw.f aeD aeE aeF aeG xD.1 xD.2.1 xD.2.2.1 xD.2.2.2).bind fun Sb=>(if Sb = true then (some false) else (bM.l0 k1 (an (kE+1)) ai aj az aA aI aD aJ aX aG aQ aN bC bD bU bV bW cO cZ dh di)))) = some r:=H
       have A12:=af.mk OG
       clear OG
       replace H:=Option.bind_eq_some_iff.mp H
       obtain ⟨⟨ag7,ag8,ag9,aha⟩,apv,H⟩:=H
       replace H:((fw.f aeD aeE aeF aeG ag7 ag8 ag9 aha).bind fun Sb=>(if Sb = true then (some false) else (bM.l0 k1 (an (kE+1)) ai aj az aA aI aD aJ aX aG aQ aN bC bD bU bV bW cO cZ dh di))) = some r:=H
       have A13:=af.mk apv
       clear apv
       replace H:=Option.bind_eq_some_iff.mp H
       obtain ⟨Sb,aen,H⟩:=H
       replace H:(if Sb = true then (some false) else (bM.l0 k1 (an (kE+1)) ai aj az aA aI aD aJ aX aG aQ aN bC bD bU bV bW cO cZ dh di)) = some r:=H
       have A14:=af.mk aen
       clear aen
       by_cases c15:Sb = true
       ·subst c15
        have H1:(some false) = some r:=by rw [if_pos rfl] at H;exact H
        clear H
        have H:=H1
        clear H1
        obtain rfl:=bh H
        have OD:=Lu.out
        have OE:=Lv.out
        have RH:=Lx.out
        have RI:=LA.out
        obtain ⟨Ep,Er,Sz,SA,atp,atq,atr,att,atu,Es,Et,SB,SC,atv,atw,atx,aty,atz⟩:=jS mr.out
        try go_wp2
        replace mr:=af.mk (ag mr.out)
        replace gN:=af.mk (ag gN.out)
        replace jT:=af.mk (ag jT.out)
        replace HB:=af.mk (bF HB.out)
        have Wt:0≤(kE:Int):=of_decide_eq_true nM
        have Wu:kE < (aX.length:Int):=of_decide_eq_true nM
        obtain ⟨Jg,apU,ow⟩:=Kd.Sj iI.out kE Wt Wu
        (try rw [← apT.out] at ow)
        have xE:=ow
        cases apU
        replace ow:=(HB.out.cell (bd w _ ow)).trans ow
        replace Wt:=eq_true Wt
        replace Wu:=eq_true Wu
        refine jV (n:=15) (S:=fun w'=>w'.cell? ⟨pY,0,none⟩ = some (Z ab ai)∧w'.cell? ⟨pY,1,none⟩ = some (Z ab aj)∧w'.cell? ⟨pY,2,none⟩ = some (Z ab az)∧w'.cell? ⟨pY,3,none⟩ = some (Z ab aA)∧w'.cell? ⟨pY,4,none⟩ = some (Z ab aI)∧w'.cell? ⟨pY,5,none⟩ = some (Z ab aD)∧w'.cell? ⟨pY,6,none⟩ = some (Z ab aJ)∧w'.cell? ⟨pY,7,none⟩ = some (.slice (some Jg) aX.length dS)∧w'.cell? ⟨pY,8,none⟩ = some (.slice dV aG.length dU)∧w'.cell? ⟨CG,0,none⟩ = some (Z ab aQ)∧w'.cell? ⟨CG,1,none⟩ = some (Z ab aN)∧w'.cell? ⟨CG,2,none⟩ = some (Z ab bC)∧w'.cell? ⟨CG,3,none⟩ = some (Z ab bD)∧w'.cell? ⟨CG,4,none⟩ = some (Z ab bU)∧w'.cell? ⟨CG,5,none⟩ = some (Z ab bV)∧w'.cell? ⟨CG,6,none⟩ = some (Z ab bW)∧w'.cell? ⟨OX,0,none⟩ = some (Z ab cO)∧w'.cell? ⟨OX,1,none⟩ = some (Z ab cZ)∧w'.cell? ⟨OX,2,none⟩ = some (Z ab dh)∧w'.cell? ⟨OX,3,none⟩ = some (Z ab di)∧w'.cell? (Jg.add (kE).toNat) = some (.bool true)) (ds:=[]) #[al,al,al,al,al,al,al,al,al,al,al,al,al,al,al] aT rfl rfl (vk mr.out ⟨bH gN 0,bH gN 1,bH gN 2,bH gN 3,bH gN 4,bH gN 5,bH gN 6,bH jT 0,bH jT 1,bH jT 2,bH jT 3,(nI HB xE)⟩) (fun hHeld=>?_);refine jQ bM.amt bM.Yl (fun dx mD=>?_)
        generalize wr.drew = w19 at mr gN jT HB ow hHeld ⊢
        refine dR (i:=0) (N:=some 17) (aY dx.out aT) ?_
        refine dR (i:=2) (N:=some 19) (aY dx.out aT) ?_
        refine iT (i:=1) (N:=some 18) (bL dx.out mD.out aT) hHeld ?_
        refine dR (i:=3) (N:=some 20) (aY dx.out aT) ?_
        refine iT (i:=4) (N:=some 21) (bL dx.out mD.out aT) hHeld ?_
        refine dR (i:=5) (N:=some 22) (aY dx.out aT) ?_
        refine dR (i:=11) (N:=some 28) (aY dx.out aT) ?_
        refine iT (i:=6) (N:=some 23) (bL dx.out mD.out aT) hHeld ?_
        refine iT (i:=7) (N:=some 24) (bL dx.out mD.out aT) hHeld ?_
        refine iT (i:=8) (N:=some 25) (bL dx.out mD.out aT) hHeld ?_
        refine iT (i:=10) (N:=some 27) (bL dx.out mD.out aT) hHeld ?_
        refine iW (i:=9) (N:=some 26) #[ac,ac,ac,ac,ac,ac,ac,ac,ac,ac,ac,ac,al,al,al] rfl rfl (gJ dx.out aT) (by decide) (fun K hK=>?_)
        refine gY Try.func133 aT rfl #[.agg #[Z ab ai,Z ab aj,Z ab az,Z ab aA,Z ab aI,Z ab aD,Z ab aJ,.slice (some Jg) aX.length dS,.slice dV aG.length dU],.agg #[Z ab aQ,Z ab aN,Z ab bC,Z ab bD,Z ab bU,Z ab bV,Z ab bW],.agg #[Z ab cO,Z ab cZ,Z ab dh,Z ab di]] (by rfl) rfl rfl jB ?_
        with_reducible refine (fB.calls k1 ai aj az aA aI aD aJ _ _ aX _ _ aG aQ aN bC bD bU bV bW cO cZ dh di aeD aeE aeF aeG _ ?dG ?dH ?eP ?eQ A12.out).mono ?_
        (case dG=>repeat (first|exact (Kd.bz iI.out HB.out)|(with_reducible refine Kd.bJ ?_ _)|(with_reducible refine Kd.bK ?_ _)|(with_reducible refine Kd.bZ ?_)))
        (case dH=>exact iO.out)
        (case eP=>repeat (first|exact (Kd.bz iB.out HB.out)|(with_reducible refine Kd.bJ ?_ _)|(with_reducible refine Kd.bK ?_ _)|(with_reducible refine Kd.bZ ?_)))
        (case eQ=>exact iP.out)
        rintro e Jb ⟨rfl,hb⟩
        refine ⟨_,rfl,?_⟩
        replace mr:=bn mr hb
        replace gN:=bn gN hb
        replace jT:=bn jT hb
        replace HB:=dz HB hb
        (try clear hb)
        (try clear hb2)
        (try clear hk)
        (try clear hi)
        refine hK.out _ _ (vk mr.out ⟨bH gN 0,bH gN 1,bH gN 2,bH gN 3,bH gN 4,bH gN 5,bH gN 6,bH jT 0,bH jT 1,bH jT 2,bH jT 3,(nI HB xE)⟩) (fun hHeld=>?_)
        clear hK K
        refine dQ aFo ?_
        refine iW (i:=12) (N:=some 29) #[ac,ac,ac,ac,ac,ac,ac,ac,ac,ac,ac,ac,ac,al,al] rfl rfl (gJ dx.out aT) (by decide) (fun K hK=>?_)
        refine gY Try.func42 aT rfl #[.agg #[Z ab ai,Z ab aj,Z ab az,Z ab aA,Z ab aI,Z ab aD,Z ab aJ,.slice (some Jg) aX.length dS,.slice dV aG.length dU],Z ab kE] (by rfl) rfl rfl jB ?_
        with_reducible refine (ig.calls ai aj az aA aI aD aJ _ _ aX _ _ aG kE ag7 ag8 ag9 aha _ ?dG ?dH ?eP ?eQ A13.out).mono ?_
        (case dG=>repeat (first|exact (Kd.bz iI.out HB.out)|(with_reducible refine Kd.bJ ?_ _)|(with_reducible refine Kd.bK ?_ _)|(with_reducible refine Kd.bZ ?_)))
        (case dH=>exact iO.out)
        (case eP=>repeat (first|exact (Kd.bz iB.out HB.out)|(with_reducible refine Kd.bJ ?_ _)|(with_reducible refine Kd.bK ?_ _)|(with_reducible refine Kd.bZ ?_)))
        (case eQ=>exact iP.out)
        rintro e w21 ⟨rfl,hb⟩
        refine ⟨_,rfl,?_⟩
        replace mr:=bn mr hb
        replace gN:=bn gN hb
        replace jT:=bn jT hb
        replace HB:=dz HB hb
        (try clear hb)
        (try clear hb2)
        (try clear hk)
        (try clear hi)
        refine hK.out _ _ (vk mr.out ⟨bH gN 0,bH gN 1,bH gN 2,bH gN 3,bH gN 4,bH gN 5,bH gN 6,bH jT 0,bH jT 1,bH jT 2,bH jT 3,(nI HB xE)⟩) (fun hHeld=>?_)
        clear hK K
        refine dQ aog ?_
        refine iW (i:=13) (N:=some 30) #[ac,ac,ac,ac,ac,ac,ac,ac,ac,ac,ac,ac,ac,ac,al] rfl rfl (gJ dx.out aT) (by decide) (fun K hK=>?_)
        refine gY Try.func104 aT rfl #[.agg #[Z ab aeD,Z ab aeE,Z ab aeF,Z ab aeG],.agg #[Z ab ag7,Z ab ag8,Z ab ag9,Z ab aha]] (by rfl) rfl rfl jB ?_
        with_reducible refine (fw.calls aeD aeE aeF aeG ag7 ag8 ag9 aha true _ A14.out).mono ?_
        rintro e w22 ⟨rfl,hb⟩
        refine ⟨_,rfl,?_⟩
        replace mr:=bn mr hb
        replace gN:=bn gN hb
        replace jT:=bn jT hb
        replace HB:=dz HB hb
        (try clear hb)
        (try clear hb2)
        (try clear hk)
        (try clear hi)
        refine hK.out _ _ (vk mr.out ⟨bH gN 0,bH gN 1,bH gN 2,bH gN 3,bH gN 4,bH gN 5,bH gN 6,bH jT 0,bH jT 1,bH jT 2,bH jT 3,(nI HB xE)⟩) (fun hHeld=>?_)
        clear hK K
        refine dQ aFp ?_
        refine dR (i:=14) (N:=some 31) (aY dx.out aT) ?_
        refine mi (ni dx.out aT) ?_
        try go_wp2
        go_ret
        exact ⟨mJ,gp⟩
       ·replace c15:=Bool.eq_false_iff.mpr c15
        subst c15
        have H1:(bM.l0 k1 (an (kE+1)) ai aj az aA aI aD aJ aX aG aQ aN bC bD bU bV bW cO cZ dh di) = some r:=by rw [if_neg (show ¬ (false = true) by decide)] at H;exact H
        clear H
        have H:=H1
        clear H1
        have H':=af.mk H
        clear H
        have Yy:=Lu.out
        have Yz:=Lv.out
        have aeH:=Lx.out
        have aeI:=LA.out
        obtain ⟨zC,zD,DZ,D5,KE,KF,KG,Te,Tf,zF,zG,D6,D7,KH,KI,KJ,Tg,Ti⟩:=jS mr.out
        try go_wp2
        replace mr:=af.mk (ag mr.out)
        replace gN:=af.mk (ag gN.out)
        replace jT:=af.mk (ag jT.out)
        replace HB:=af.mk (bF HB.out)
        have Wt:0≤(kE:Int):=of_decide_eq_true nM
        have Wu:kE < (aX.length:Int):=of_decide_eq_true nM
        obtain ⟨Jg,apU,ow⟩:=Kd.Sj iI.out kE Wt Wu
        (try rw [← apT.out] at ow)
        have xE:=ow
        cases apU
        replace ow:=(HB.out.cell (bd w _ ow)).trans ow
        replace Wt:=eq_true Wt
        replace Wu:=eq_true Wu
        refine jV (n:=15) (S:=fun w'=>w'.cell? ⟨pY,0,none⟩ = some (Z ab ai)∧w'.cell? ⟨pY,1,none⟩ = some (Z ab aj)∧w'.cell? ⟨pY,2,none⟩ = some (Z ab az)∧w'.cell? ⟨pY,3,none⟩ = some (Z ab aA)∧w'.cell? ⟨pY,4,none⟩ = some (Z ab aI)∧w'.cell? ⟨pY,5,none⟩ = some (Z ab aD)∧w'.cell? ⟨pY,6,none⟩ = some (Z ab aJ)∧w'.cell? ⟨pY,7,none⟩ = some (.slice (some Jg) aX.length dS)∧w'.cell? ⟨pY,8,none⟩ = some (.slice dV aG.length dU)∧w'.cell? ⟨CG,0,none⟩ = some (Z ab aQ)∧w'.cell? ⟨CG,1,none⟩ = some (Z ab aN)∧w'.cell? ⟨CG,2,none⟩ = some (Z ab bC)∧w'.cell? ⟨CG,3,none⟩ = some (Z ab bD)∧w'.cell? ⟨CG,4,none⟩ = some (Z ab bU)∧w'.cell? ⟨CG,5,none⟩ = some (Z ab bV)∧w'.cell? ⟨CG,6,none⟩ = some (Z ab bW)∧w'.cell? ⟨OX,0,none⟩ = some (Z ab cO)∧w'.cell? ⟨OX,1,none⟩ = some (Z ab cZ)∧w'.cell? ⟨OX,2,none⟩ = some (Z ab dh)∧w'.cell? ⟨OX,3,none⟩ = some (Z ab di)∧w'.cell? (Jg.add (kE).toNat) = some (.bool true)) (ds:=[]) #[al,al,al,al,al,al,al,al,al,al,al,al,al,al,al] aT rfl rfl (vk mr.out ⟨bH gN 0,bH gN 1,bH gN 2,bH gN 3,bH gN 4,bH gN 5,bH gN 6,bH jT 0,bH jT 1,bH jT 2,bH jT 3,(nI HB xE)⟩) (fun hHeld=>?_);refine jQ bM.amt bM.Yl (fun dx mD=>?_)
        generalize wr.drew = vG at mr gN jT HB ow hHeld ⊢
        refine dR (i:=0) (N:=some 17) (aY dx.out aT) ?_
        refine dR (i:=2) (N:=some 19) (aY dx.out aT) ?_
        refine iT (i:=1) (N:=some 18) (bL dx.out mD.out aT) hHeld ?_
        refine dR (i:=3) (N:=some 20) (aY dx.out aT) ?_
        refine iT (i:=4) (N:=some 21) (bL dx.out mD.out aT) hHeld ?_
        refine dR (i:=5) (N:=some 22) (aY dx.out aT) ?_
        refine dR (i:=11) (N:=some 28) (aY dx.out aT) ?_
        refine iT (i:=6) (N:=some 23) (bL dx.out mD.out aT) hHeld ?_
        refine iT (i:=7) (N:=some 24) (bL dx.out mD.out aT) hHeld ?_
        refine iT (i:=8) (N:=some 25) (bL dx.out mD.out aT) hHeld ?_
        refine iT (i:=10) (N:=some 27) (bL dx.out mD.out aT) hHeld ?_
        refine iW (i:=9) (N:=some 26) #[ac,ac,ac,ac,ac,ac,ac,ac,ac,ac,ac,ac,al,al,al] rfl rfl (gJ dx.out aT) (by decide) (fun K hK=>?_)
        refine gY Try.func133 aT rfl #[.agg #[Z ab ai,Z ab aj,Z ab az,Z ab aA,Z ab aI,Z ab aD,Z ab aJ,.slice (some Jg) aX.length dS,.slice dV aG.length dU],.agg #[Z ab aQ,Z ab aN,Z ab bC,Z ab bD,Z ab bU,Z ab bV,Z ab bW],.agg #[Z ab cO,Z ab cZ,Z ab dh,Z ab di]] (by rfl) rfl rfl jB ?_
        with_reducible refine (fB.calls k1 ai aj az aA aI aD aJ _ _ aX _ _ aG aQ aN bC bD bU bV bW cO cZ dh di aeD aeE aeF aeG _ ?dG ?dH ?eP ?eQ A12.out).mono ?_
        (case dG=>repeat (first|exact (Kd.bz iI.out HB.out)|(with_reducible refine Kd.bJ ?_ _)|(with_reducible refine Kd.bK ?_ _)|(with_reducible refine Kd.bZ ?_)))
        (case dH=>exact iO.out)
        (case eP=>repeat (first|exact (Kd.bz iB.out HB.out)|(with_reducible refine Kd.bJ ?_ _)|(with_reducible refine Kd.bK ?_ _)|(with_reducible refine Kd.bZ ?_)))
        (case eQ=>exact iP.out)
        rintro e w27 ⟨rfl,hb⟩
        refine ⟨_,rfl,?_⟩
        replace mr:=bn mr hb
        replace gN:=bn gN hb
        replace jT:=bn jT hb
        replace HB:=dz HB hb
        (try clear hb)
        (try clear hb2)
        (try clear hk)
        (try clear hi)
        refine hK.out _ _ (vk mr.out ⟨bH gN 0,bH gN 1,bH gN 2,bH gN 3,bH gN 4,bH gN 5,bH gN 6,bH jT 0,bH jT 1,bH jT 2,bH jT 3,(nI HB xE)⟩) (fun hHeld=>?_)
        clear hK K
        refine dQ aFo ?_
        refine iW (i:=12) (N:=some 29) #[ac,ac,ac,ac,ac,ac,ac,ac,ac,ac,ac,ac,ac,al,al] rfl rfl (gJ dx.out aT) (by decide) (fun K hK=>?_)
        refine gY Try.func42 aT rfl #[.agg #[Z ab ai,Z ab aj,Z ab az,Z ab aA,Z ab aI,Z ab aD,Z ab aJ,.slice (some Jg) aX.length dS,.slice dV aG.length dU],Z ab kE] (by rfl) rfl rfl jB ?_
        with_reducible refine (ig.calls ai aj az aA aI aD aJ _ _ aX _ _ aG kE ag7 ag8 ag9 aha _ ?dG ?dH ?eP ?eQ A13.out).mono ?_
        (case dG=>repeat (first|exact (Kd.bz iI.out HB.out)|(with_reducible refine Kd.bJ ?_ _)|(with_reducible refine Kd.bK ?_ _)|(with_reducible refine Kd.bZ ?_)))
        (case dH=>exact iO.out)
        (case eP=>repeat (first|exact (Kd.bz iB.out HB.out)|(with_reducible refine Kd.bJ ?_ _)|(with_reducible refine Kd.bK ?_ _)|(with_reducible refine Kd.bZ ?_)))
        (case eQ=>exact iP.out)
        rintro e w28 ⟨rfl,hb⟩
        refine ⟨_,rfl,?_⟩
        replace mr:=bn mr hb
        replace gN:=bn gN hb
        replace jT:=bn jT hb
        replace HB:=dz HB hb
        (try clear hb)
        (try clear hb2)
        (try clear hk)
        (try clear hi)
        refine hK.out _ _ (vk mr.out ⟨bH gN 0,bH gN 1,bH gN 2,bH gN 3,bH gN 4,bH gN 5,bH gN 6,bH jT 0,bH jT 1,bH jT 2,bH jT 3,(nI HB xE)⟩) (fun hHeld=>?_)
        clear hK K
        refine dQ aog ?_
        refine iW (i:=13) (N:=some 30) #[ac,ac,ac,ac,ac,ac,ac,ac,ac,ac,ac,ac,ac,ac,al] rfl rfl (gJ dx.out aT) (by decide) (fun K hK=>?_)
        refine gY Try.func104 aT rfl #[.agg #[Z ab aeD,Z ab aeE,Z ab aeF,Z ab aeG],.agg #[Z ab ag7,Z ab ag8,Z ab ag9,Z ab aha]] (by rfl) rfl rfl jB ?_
        with_reducible refine (fw.calls aeD aeE aeF aeG ag7 ag8 ag9 aha false _ A14.out).mono ?_
        rintro e w29 ⟨rfl,hb⟩
        refine ⟨_,rfl,?_⟩
        replace mr:=bn mr hb
        replace gN:=bn gN hb
        replace jT:=bn jT hb
        replace HB:=dz HB hb
        (try clear hb)
        (try clear hb2)
        (try clear hk)
        (try clear hi)
        refine hK.out _ _ (vk mr.out ⟨bH gN 0,bH gN 1,bH gN 2,bH gN 3,bH gN 4,bH gN 5,bH gN 6,bH jT 0,bH jT 1,bH jT 2,bH jT 3,(nI HB xE)⟩) (fun hHeld=>?_)
        clear hK K
        refine dQ aFp ?_
        refine dR (i:=14) (N:=some 31) (aY dx.out aT) ?_
        refine mi (ni dx.out aT) ?_
        try go_wp2
        go_roundg k1
        case measure=>have:=Cj.out;omega
        case rel=>exact ⟨(an (kE+1)),om,H',⟨zq7⟩,⟨iK⟩,⟨iK⟩,⟨iK⟩,⟨gp⟩⟩
      ·replace c11:=Bool.eq_false_iff.mpr c11
       subst c11
       have H1:(bM.l0 k1 (an (kE+1)) ai aj az aA aI aD aJ aX aG aQ aN bC bD bU bV bW cO cZ dh di) = some r:=by rw [if_neg (show ¬ (false = true) by decide)] at H;exact H
       clear H
       have H:=H1
       clear H1
       have H':=af.mk H
       clear H
       have aox:=Lu.out
       have aoy:=Lv.out
       have aAK:=Lx.out
       have aAL:=LA.out
       obtain ⟨aaY,aaZ,aa0,aa1,ajY,ajZ,aj0,aQV,aQW,aa2,aa3,aa4,aa5,aj1,aj2,aj3,aQX,aQY⟩:=jS mr.out
       try go_wp2
       replace mr:=af.mk (ag mr.out)
       replace gN:=af.mk (ag gN.out)
       replace jT:=af.mk (ag jT.out)
       replace HB:=af.mk (bF HB.out)
       have Wt:0≤(kE:Int):=of_decide_eq_true nM
       have Wu:kE < (aX.length:Int):=of_decide_eq_true nM
       obtain ⟨Jg,apU,ow⟩:=Kd.Sj iI.out kE Wt Wu
       (try rw [← apT.out] at ow)
       have xE:=ow
       cases apU
       replace ow:=(HB.out.cell (bd w _ ow)).trans ow
       replace Wt:=eq_true Wt
       replace Wu:=eq_true Wu
       refine jV (n:=15) (S:=fun w'=>w'.cell? ⟨pY,0,none⟩ = some (Z ab ai)∧w'.cell? ⟨pY,1,none⟩ = some (Z ab aj)∧w'.cell? ⟨pY,2,none⟩ = some (Z ab az)∧w'.cell? ⟨pY,3,none⟩ = some (Z ab aA)∧w'.cell? ⟨pY,4,none⟩ = some (Z ab aI)∧w'.cell? ⟨pY,5,none⟩ = some (Z ab aD)∧w'.cell? ⟨pY,6,none⟩ = some (Z ab aJ)∧w'.cell? ⟨pY,7,none⟩ = some (.slice (some Jg) aX.length dS)∧w'.cell? ⟨pY,8,none⟩ = some (.slice dV aG.length dU)∧w'.cell? (Jg.add (kE).toNat) = some (.bool false)) (ds:=[]) #[al,al,al,al,al,al,al,al,al,al,al,al,al,al,al] aT rfl rfl (vk mr.out (nI HB xE)) (fun hHeld=>?_);refine jQ bM.amt bM.Yl (fun dx mD=>?_)
       generalize wr.drew = Jd at mr gN jT HB ow hHeld ⊢
       refine dR (i:=0) (N:=some 17) (aY dx.out aT) ?_
       refine dR (i:=2) (N:=some 19) (aY dx.out aT) ?_
       refine iT (i:=1) (N:=some 18) (bL dx.out mD.out aT) hHeld ?_
       refine dR (i:=3) (N:=some 20) (aY dx.out aT) ?_
       refine iT (i:=4) (N:=some 21) (bL dx.out mD.out aT) hHeld ?_
       refine dR (i:=5) (N:=some 22) (aY dx.out aT) ?_
       refine j6 (i:=6) (N:=some 23) (v:=undef) (a':=?_) #[ac,ac,ac,ac,ac,ac,ac,al,al,al,al,al,al,al,al] rfl rfl (aY dx.out aT) (fun _ _ _ h=>h) (Or.inr ⟨by rfl,rfl⟩) ?_ ?_
       rotate_left
       ·simp only [Act.put,ap,aq,ar,eY,fo]
        rfl
       refine j6 (i:=7) (N:=some 24) (v:=undef) (a':=?_) #[ac,ac,ac,ac,ac,ac,ac,ac,al,al,al,al,al,al,al] rfl rfl (aY dx.out aT) (fun _ _ _ h=>h) (Or.inr ⟨by rfl,rfl⟩) ?_ ?_
       rotate_left
       ·simp only [Act.put,ap,aq,ar,eY,fo]
        rfl
       refine j6 (i:=8) (N:=some 25) (v:=undef) (a':=?_) #[ac,ac,ac,ac,ac,ac,ac,ac,ac,al,al,al,al,al,al] rfl rfl (aY dx.out aT) (fun _ _ _ h=>h) (Or.inr ⟨by rfl,rfl⟩) ?_ ?_
       rotate_left
       ·simp only [Act.put,ap,aq,ar,eY,fo]
        rfl
       refine j6 (i:=9) (N:=some 26) (v:=undef) (a':=?_) #[ac,ac,ac,ac,ac,ac,ac,ac,ac,ac,al,al,al,al,al] rfl rfl (aY dx.out aT) (fun _ _ _ h=>h) (Or.inr ⟨by rfl,rfl⟩) ?_ ?_
       rotate_left
       ·simp only [Act.put,ap,aq,ar,eY,fo]
        rfl
       refine j6 (i:=10) (N:=some 27) (v:=undef) (a':=?_) #[ac,ac,ac,ac,ac,ac,ac,ac,ac,ac,ac,al,al,al,al] rfl rfl (aY dx.out aT) (fun _ _ _ h=>h) (Or.inr ⟨by rfl,rfl⟩) ?_ ?_
       rotate_left
       ·simp only [Act.put,ap,aq,ar,eY,fo]
        rfl
       refine j6 (i:=11) (N:=some 28) (v:=undef) (a':=?_) #[ac,ac,ac,ac,ac,ac,ac,ac,ac,ac,ac,ac,al,al,al] rfl rfl (aY dx.out aT) (fun _ _ _ h=>h) (Or.inr ⟨by rfl,rfl⟩) ?_ ?_
       rotate_left
       ·simp only [Act.put,ap,aq,ar,eY,fo]
        rfl
       refine j6 (i:=12) (N:=some 29) (v:=undef) (a':=?_) #[ac,ac,ac,ac,ac,ac,ac,ac,ac,ac,ac,ac,ac,al,al] rfl rfl (aY dx.out aT) (fun _ _ _ h=>h) (Or.inr ⟨by rfl,rfl⟩) ?_ ?_
       rotate_left
       ·simp only [Act.put,ap,aq,ar,eY,fo]
        rfl
       refine j6 (i:=13) (N:=some 30) (v:=undef) (a':=?_) #[ac,ac,ac,ac,ac,ac,ac,ac,ac,ac,ac,ac,ac,ac,al] rfl rfl (aY dx.out aT) (fun _ _ _ h=>h) (Or.inr ⟨by rfl,rfl⟩) ?_ ?_
       rotate_left
       ·simp only [Act.put,ap,aq,ar,eY,fo]
        rfl
       refine dR (i:=14) (N:=some 31) (aY dx.out aT) ?_
       refine mi (ni dx.out aT) ?_
       try go_wp2
       go_roundg k1
       case measure=>have:=Cj.out;omega
       case rel=>exact ⟨(an (kE+1)),om,H',⟨zq7⟩,⟨iK⟩,⟨iK⟩,⟨iK⟩,⟨gp⟩⟩
     ·rw [if_neg c9] at H
      exact absurd H (by simp)
    ·rw [if_neg c8] at H
     exact absurd H (by simp)
   ·rw [if_neg c7] at H
    have Oh:decide (kE < (an (ai*aj))) = false:=decide_eq_false c7
    clear c7
    obtain rfl:=bh H
    have aAM:=Lu.out
    have aAN:=Lv.out
    have aAO:=Lx.out
    have aAP:=LA.out
    obtain ⟨NH,NI,Su,Sv,aii,aij,aik,aQZ,aQ0,NJ,NK,Sw,Sy,ail,aim,ain,aQ1,aQ2⟩:=jS mr.out
    go_wp2
    go_ret
    exact ⟨mJ,gp⟩
def kW.f (k:Nat) (ai:Int) (aj:Int) (az:Int) (aA:Int) (aI:Int) (aD:Int) (aJ:Int) (aX:List Bool) (aG:List (qK)) (aQ:Int) (aN:Int) (bC:Int) (bD:Int) (bU:Int) (bV:Int) (bW:Int) (cO:Int) (cZ:Int) (dh:Int) (di:Int) (a3:Int) (fE:Int) (eZ:Int):Option (Int × Int × Int × Int × Int):=(dP.f k ai aj az aA aI aD aJ aX aG aQ aN bC bD bU bV bW cO cZ dh di a3).bind fun ana=>(if ana = true then ((bM.f k ai aj az aA aI aD aJ aX aG aQ aN bC bD bU bV bW cO cZ dh di).bind fun X0=>(if X0 = true then ((dD.f k ai aj az aA aI aD aJ aX aG aQ aN bC bD bU bV bW cO cZ dh di a3 fE eZ).bind fun pR=>(some (pR.1,pR.2.1,pR.2.2.1,pR.2.2.2,0))) else (some (0,0,0,0,21)))) else (some (0,0,0,0,5)))
theorem kW.calls (k:Nat) (ai:Int) (aj:Int) (az:Int) (aA:Int) (aI:Int) (aD:Int) (aJ:Int) (dY:Option Addr) (dS:Nat) (aX:List Bool) (dV:Option Addr) (dU:Nat) (aG:List (qK)) (aQ:Int) (aN:Int) (bC:Int) (bD:Int) (bU:Int) (bV:Int) (bW:Int) (cO:Int) (cZ:Int) (dh:Int) (di:Int) (a3:Int) (fE:Int) (eZ:Int) (r1:Int) (r2:Int) (r3:Int) (r4:Int) (r5:Int) (w:ao) (jC:Kd.C Kd.bool w dY aX.length aX) (jD:aX.length≤dS) (jE:Kd.C Dt w dV aG.length aG) (jF:aG.length≤dU) (h:kW.f k ai aj az aA aI aD aJ aX aG aQ aN bC bD bU bV bW cO cZ dh di a3 fE eZ = some (r1,r2,r3,r4,r5)):
 Calls Try.prog 82 #[.agg #[Z ab ai,Z ab aj,Z ab az,Z ab aA,Z ab aI,Z ab aD,Z ab aJ,.slice dY aX.length dS,.slice dV aG.length dU],.agg #[Z ab aQ,Z ab aN,Z ab bC,Z ab bD,Z ab bU,Z ab bV,Z ab bW],.agg #[Z ab cO,Z ab cZ,Z ab dh,Z ab di],Z ab a3,.agg #[Z ab fE,Z ab eZ]] w fun e w'=>e = .returned (.tuple #[.agg #[Z ab r1,Z ab r2,Z ab r3,Z ab r4],Z ab r5])∧Below w.heap.size w w':=by
 have xS:=Try.underlying25
 have vo:=Try.underlying29
 have qj:=Try.underlying31
 have E9:=Try.underlying33
 have iI:=af.mk jC
 have iO:=af.mk jD
 clear jC jD
 have iB:=af.mk jE
 have iP:=af.mk jF
 clear jE jF
 have HB:=af.mk (Below.refl w.heap.size w)
 have H:((dP.f k ai aj az aA aI aD aJ aX aG aQ aN bC bD bU bV bW cO cZ dh di a3).bind fun ana=>(if ana = true then ((bM.f k ai aj az aA aI aD aJ aX aG aQ aN bC bD bU bV bW cO cZ dh di).bind fun X0=>(if X0 = true then ((dD.f k ai aj az aA aI aD aJ aX aG aQ aN bC bD bU bV bW cO cZ dh di a3 fE eZ).bind fun pR=>(some (pR.1,pR.2.1,pR.2.2.1,pR.2.2.2,0))) else (some (0,0,0,0,21)))) else (some (0,0,0,0,5)))) = some (r1,r2,r3,r4,r5):=h
 clear h
 replace H:=Option.bind_eq_some_iff.mp H
 obtain ⟨ana,Nn,H⟩:=H
 replace H:(if ana = true then ((bM.f k ai aj az aA aI aD aJ aX aG aQ aN bC bD bU bV bW cO cZ dh di).bind fun X0=>(if X0 = true then ((dD.f k ai aj az aA aI aD aJ aX aG aQ aN bC bD bU bV bW cO cZ dh di a3 fE eZ).bind fun pR=>(some (pR.1,pR.2.1,pR.2.2.1,pR.2.2.2,0))) else (some (0,0,0,0,21)))) else (some (0,0,0,0,5))) = some (r1,r2,r3,r4,r5):=H
 have A6:=af.mk Nn
 clear Nn
 by_cases c7:ana = true
 ·subst c7
  have H1:((bM.f k ai aj az aA aI aD aJ aX aG aQ aN bC bD bU bV bW cO cZ dh di).bind fun X0=>(if X0 = true then ((dD.f k ai aj az aA aI aD aJ aX aG aQ aN bC bD bU bV bW cO cZ dh di a3 fE eZ).bind fun pR=>(some (pR.1,pR.2.1,pR.2.2.1,pR.2.2.2,0))) else (some (0,0,0,0,21)))) = some (r1,r2,r3,r4,r5):=by rw [if_pos rfl] at H;exact H
  clear H
  have H:=H1
  clear H1
  replace H:=Option.bind_eq_some_iff.mp H
  obtain ⟨X0,Rq,H⟩:=H
  replace H:(if X0 = true then ((dD.f k ai aj az aA aI aD aJ aX aG aQ aN bC bD bU bV bW cO cZ dh di a3 fE eZ).bind fun pR=>(some (pR.1,pR.2.1,pR.2.2.1,pR.2.2.2,0))) else (some (0,0,0,0,21))) = some (r1,r2,r3,r4,r5):=H
  have A8:=af.mk Rq
  clear Rq
  by_cases c9:X0 = true
  ·subst c9
   have H1:((dD.f k ai aj az aA aI aD aJ aX aG aQ aN bC bD bU bV bW cO cZ dh di a3 fE eZ).bind fun pR=>(some (pR.1,pR.2.1,pR.2.2.1,pR.2.2.2,0))) = some (r1,r2,r3,r4,r5):=by rw [if_pos rfl] at H;exact H
   clear H
   have H:=H1
   clear H1
   replace H:=Option.bind_eq_some_iff.mp H
   obtain ⟨⟨anb,apV,awK,aDu⟩,Fu,H⟩:=H
   replace H:(some (anb,apV,awK,aDu,0)) = some (r1,r2,r3,r4,r5):=H
   have Rs:=af.mk Fu
   clear Fu
   simp only [Option.some.injEq,Prod.mk.injEq] at H
   obtain ⟨rfl,rfl,rfl,rfl,rfl⟩:=H
   go_enter Try.func82,Try.ntmps82
   go_wp2_with (first|((with_reducible refine av (N:=5) rfl ?_);refine ak (by rfl) (N:=5) (by rfl) (cs:=#[Z ab ai,Z ab aj,Z ab az,Z ab aA,Z ab aI,Z ab aD,Z ab aJ,.slice dY aX.length dS,.slice dV aG.length dU]) (t:=25) fU ?_;intro aAQ hg w11 ay hb;have iM:=af.mk (ay);have aAR:=bY HB hg;have aAS:=bY HB hg;replace HB:=dz HB hb;clear hb ay hg)|((with_reducible refine av (N:=6) rfl ?_);refine ak (by rfl) (N:=6) (by rfl) (cs:=#[Z ab aQ,Z ab aN,Z ab bC,Z ab bD,Z ab bU,Z ab bV,Z ab bW]) (t:=29) fU ?_;intro aAT hg Ja ay hb;have jM:=af.mk (ay);have aAU:=bY HB hg;have aAV:=bY HB hg;have FW:=fG iM hg;have FX:=fH iM hg;replace iM:=bn iM hb;replace HB:=dz HB hb;clear hb ay hg)|((with_reducible refine av (N:=7) rfl ?_);refine ak (by rfl) (N:=7) (by rfl) (cs:=#[Z ab cO,Z ab cZ,Z ab dh,Z ab di]) (t:=31) fU ?_;intro aAW hg GK ay hb;have l6:=af.mk (ay);have aAX:=bY HB hg;have aAY:=bY HB hg;have FY:=fG iM hg;have FZ:=fH iM hg;have F3:=fG jM hg;have F4:=fH jM hg;replace iM:=bn iM hb;replace jM:=bn jM hb;replace HB:=dz HB hb;clear hb ay hg)|((with_reducible refine av (N:=9) rfl ?_);refine ak (by rfl) (N:=9) (by rfl) (cs:=#[Z ab fE,Z ab eZ]) (t:=33) fU ?_;intro aAZ hg w14 ay hb;have qp:=af.mk (ay);have aA0:=bY HB hg;have aA1:=bY HB hg;have F5:=fG iM hg;have F6:=fH iM hg;have F7:=fG jM hg;have F8:=fH jM hg;have F9:=fG l6 hg;have Ga:=fH l6 hg;replace iM:=bn iM hb;replace jM:=bn jM hb;replace l6:=bn l6 hb;replace HB:=dz HB hb;clear hb ay hg)|((with_reducible refine av (N:=10) rfl ?_);refine ak (by rfl) (N:=10) (by rfl) (cs:=#[Z ab 0,Z ab 0,Z ab 0,Z ab 0]) (t:=31) fU ?_;intro aeJ hg w15 ay hb;have vV:=af.mk (ay);have aA2:=bY HB hg;have aA3:=bY HB hg;have Gb:=fG iM hg;have Gc:=fH iM hg;have Gd:=fG jM hg;have Gf:=fH jM hg;have Gg:=fG l6 hg;have Gh:=fH l6 hg;have Gi:=fG qp hg;have Gj:=fH qp hg;replace iM:=bn iM hb;replace jM:=bn jM hb;replace l6:=bn l6 hb;replace qp:=bn qp hb;replace HB:=dz HB hb;clear hb ay hg;have OD:=FW.out;have OE:=FX.out;have RH:=FY.out;have RI:=FZ.out;have Yw:=F5.out;have Yx:=F6.out;have Ru:=Gb.out;have Rv:=Gc.out;obtain ⟨uY,uZ,zQ,zR,BM,BN,Im,TJ,TK,u6,ve,zS,zT,BO,BP,Io,TL,TM⟩:=jS iM.out;have adm:=F3.out;have adn:=F4.out;have adv:=F7.out;have adw:=F8.out;have Yy:=Gd.out;have Yz:=Gf.out;obtain ⟨wP,wQ,Hr,Ht,TB,TC,TD,wS,wT,Hu,Hw,TE,TF,TG⟩:=kz jM.out;have ai5:=F9.out;have ai6:=Ga.out;have aeK:=Gg.out;have aeL:=Gh.out;obtain ⟨Bl,Bn,Bo,Bp,Bq,Br,Bt,Bu⟩:=jA l6.out)|((with_reducible refine aU (f:=105) rfl ?_);refine dn (some 16) rfl rfl Try.func105 aT rfl #[.agg #[Z ab ai,Z ab aj,Z ab az,Z ab aA,Z ab aI,Z ab aD,Z ab aJ,.slice dY aX.length dS,.slice dV aG.length dU],.agg #[Z ab aQ,Z ab aN,Z ab bC,Z ab bD,Z ab bU,Z ab bV,Z ab bW],.agg #[Z ab cO,Z ab cZ,Z ab dh,Z ab di],Z ab a3] rfl jB ?_;(with_reducible refine (dP.calls k ai aj az aA aI aD aJ _ _ aX _ _ aG aQ aN bC bD bU bV bW cO cZ dh di a3 true _ ?dG ?dH ?eP ?eQ A6.out).mono ?_);(case dG=>repeat (first|exact (Kd.bz iI.out HB.out)|(with_reducible refine Kd.bJ ?_ _)|(with_reducible refine Kd.bK ?_ _)|(with_reducible refine Kd.bZ ?_)));(case dH=>exact iO.out);(case eP=>repeat (first|exact (Kd.bz iB.out HB.out)|(with_reducible refine Kd.bJ ?_ _)|(with_reducible refine Kd.bK ?_ _)|(with_reducible refine Kd.bZ ?_)));(case eQ=>exact iP.out);rintro e w28 ⟨rfl,hb⟩;refine ⟨_,rfl,?_⟩;replace iM:=bn iM hb;replace jM:=bn jM hb;replace l6:=bn l6 hb;replace qp:=bn qp hb;replace vV:=bn vV hb;replace HB:=dz HB hb;(try clear hb);(try clear hb2);(try clear hk);(try clear hi);obtain ⟨EF,EG,Lb,Lc,Ol,Om,Oo,Tj,Tk,EH,EI,Ld,Le,Oq,Ot,Ou,Tm,Tn⟩:=jS iM.out;obtain ⟨Ee,Ef,G9,Ha,Nr,Ns,Nt,Eg,Eh,Hd,He,Nu,Nv,Nw⟩:=kz jM.out;obtain ⟨Zw,Zx,aid,aie,Zy,Zz,aif,aih⟩:=jA l6.out)|((with_reducible refine aU (f:=123) rfl ?_);refine dn (some 22) rfl rfl Try.func123 aT rfl #[.agg #[Z ab ai,Z ab aj,Z ab az,Z ab aA,Z ab aI,Z ab aD,Z ab aJ,.slice dY aX.length dS,.slice dV aG.length dU],.agg #[Z ab aQ,Z ab aN,Z ab bC,Z ab bD,Z ab bU,Z ab bV,Z ab bW],.agg #[Z ab cO,Z ab cZ,Z ab dh,Z ab di]] rfl jB ?_;(with_reducible refine (bM.calls k ai aj az aA aI aD aJ _ _ aX _ _ aG aQ aN bC bD bU bV bW cO cZ dh di true _ ?dG ?dH ?eP ?eQ A8.out).mono ?_);(case dG=>repeat (first|exact (Kd.bz iI.out HB.out)|(with_reducible refine Kd.bJ ?_ _)|(with_reducible refine Kd.bK ?_ _)|(with_reducible refine Kd.bZ ?_)));(case dH=>exact iO.out);(case eP=>repeat (first|exact (Kd.bz iB.out HB.out)|(with_reducible refine Kd.bJ ?_ _)|(with_reducible refine Kd.bK ?_ _)|(with_reducible refine Kd.bZ ?_)));(case eQ=>exact iP.out);rintro e w32 ⟨rfl,hb⟩;refine ⟨_,rfl,?_⟩;replace iM:=bn iM hb;replace jM:=bn jM hb;replace l6:=bn l6 hb;replace qp:=bn qp hb;replace vV:=bn vV hb;replace HB:=dz HB hb;(try clear hb);(try clear hb2);(try clear hk);(try clear hi);obtain ⟨Ny,Nz,ahN,ahO,ahP,ahQ,ahR,aQ3,aQ4,NA,NB,ahS,ahT,ahU,ahV,ahW,aQ5,aQ6⟩:=jS iM.out;obtain ⟨EL,EM,Ov,Ow,Tp,Tq,Tt,EN,EO,Ox,Oy,Tu,Tv,Tw⟩:=kz jM.out;obtain ⟨zH,zI,Ei,Ej,zJ,zK,El,Em⟩:=jA l6.out;have aG5:=Gi.out;have aG6:=Gj.out;obtain ⟨Oz,OA,OB,OC⟩:=iQ qp.out)|((with_reducible refine aU (f:=106) rfl ?_);refine dn (some 30) rfl rfl Try.func106 aT rfl #[.agg #[Z ab ai,Z ab aj,Z ab az,Z ab aA,Z ab aI,Z ab aD,Z ab aJ,.slice dY aX.length dS,.slice dV aG.length dU],.agg #[Z ab aQ,Z ab aN,Z ab bC,Z ab bD,Z ab bU,Z ab bV,Z ab bW],.agg #[Z ab cO,Z ab cZ,Z ab dh,Z ab di],Z ab a3,.agg #[Z ab fE,Z ab eZ]] rfl jB ?_;(with_reducible refine (dD.calls k ai aj az aA aI aD aJ _ _ aX _ _ aG aQ aN bC bD bU bV bW cO cZ dh di a3 fE eZ anb apV awK aDu _ ?dG ?dH ?eP ?eQ Rs.out).mono ?_);(case dG=>repeat (first|exact (Kd.bz iI.out HB.out)|(with_reducible refine Kd.bJ ?_ _)|(with_reducible refine Kd.bK ?_ _)|(with_reducible refine Kd.bZ ?_)));(case dH=>exact iO.out);(case eP=>repeat (first|exact (Kd.bz iB.out HB.out)|(with_reducible refine Kd.bJ ?_ _)|(with_reducible refine Kd.bK ?_ _)|(with_reducible refine Kd.bZ ?_)));(case eQ=>exact iP.out);rintro e w38 ⟨rfl,hb⟩;refine ⟨_,rfl,?_⟩;replace iM:=bn iM hb;replace jM:=bn jM hb;replace l6:=bn l6 hb;replace qp:=bn qp hb;replace vV:=bn vV hb;replace HB:=dz HB hb;(try clear hb);(try clear hb2);(try clear hk);(try clear hi);obtain ⟨aaU,aaV,ajr,ajs,aaW,aaX,ajt,aju⟩:=jA vV.out))
   refine bodyPost_ret (nN rfl _ _ aeJ 31 #[Z ab anb,Z ab apV,Z ab awK,Z ab aDu] (0,0) _ rfl (by (with_reducible repeat (first|refine au ?_ _|refine ag ?_|refine aa ?_ _));refine aK (cs:=#[Z ab anb,Z ab apV,Z ab awK,Z ab 0]) ?_ 3 _ rfl;(with_reducible repeat (first|refine au ?_ _|refine ag ?_|refine aa ?_ _));refine aK (cs:=#[Z ab anb,Z ab apV,Z ab 0,Z ab 0]) ?_ 2 _ rfl;(with_reducible repeat (first|refine au ?_ _|refine ag ?_|refine aa ?_ _));refine aK (cs:=#[Z ab anb,Z ab 0,Z ab 0,Z ab 0]) ?_ 1 _ rfl;(with_reducible repeat (first|refine au ?_ _|refine ag ?_|refine aa ?_ _));refine aK (cs:=#[Z ab 0,Z ab 0,Z ab 0,Z ab 0]) ?_ 0 _ rfl;(with_reducible repeat (first|refine au ?_ _|refine ag ?_|refine aa ?_ _));exact vV.out) Try.underlying31 rfl aT) rfl ?_
   exact ⟨mJ,gp⟩
  ·replace c9:=Bool.eq_false_iff.mpr c9
   subst c9
   have H1:(some (0,0,0,0,21)) = some (r1,r2,r3,r4,r5):=by rw [if_neg (show ¬ (false = true) by decide)] at H;exact H
   clear H
   have H:=H1
   clear H1
   simp only [Option.some.injEq,Prod.mk.injEq] at H
   obtain ⟨rfl,rfl,rfl,rfl,rfl⟩:=H
   go_enter Try.func82,Try.ntmps82
   go_wp2_with (first|((with_reducible refine av (N:=5) rfl ?_);refine ak (by rfl) (N:=5) (by rfl) (cs:=#[Z ab ai,Z ab aj,Z ab az,Z ab aA,Z ab aI,Z ab aD,Z ab aJ,.slice dY aX.length dS,.slice dV aG.length dU]) (t:=25) fU ?_;intro aAQ hg w40 ay hb;have iM:=af.mk (ay);have aAR:=bY HB hg;have aAS:=bY HB hg;replace HB:=dz HB hb;clear hb ay hg)|((with_reducible refine av (N:=6) rfl ?_);refine ak (by rfl) (N:=6) (by rfl) (cs:=#[Z ab aQ,Z ab aN,Z ab bC,Z ab bD,Z ab bU,Z ab bV,Z ab bW]) (t:=29) fU ?_;intro aAT hg w41 ay hb;have jM:=af.mk (ay);have aAU:=bY HB hg;have aAV:=bY HB hg;have FW:=fG iM hg;have FX:=fH iM hg;replace iM:=bn iM hb;replace HB:=dz HB hb;clear hb ay hg)|((with_reducible refine av (N:=7) rfl ?_);refine ak (by rfl) (N:=7) (by rfl) (cs:=#[Z ab cO,Z ab cZ,Z ab dh,Z ab di]) (t:=31) fU ?_;intro aAW hg w42 ay hb;have l6:=af.mk (ay);have aAX:=bY HB hg;have aAY:=bY HB hg;have FY:=fG iM hg;have FZ:=fH iM hg;have F3:=fG jM hg;have F4:=fH jM hg;replace iM:=bn iM hb;replace jM:=bn jM hb;replace HB:=dz HB hb;clear hb ay hg)|((with_reducible refine av (N:=9) rfl ?_);refine ak (by rfl) (N:=9) (by rfl) (cs:=#[Z ab fE,Z ab eZ]) (t:=33) fU ?_;intro aAZ hg w43 ay hb;have qp:=af.mk (ay);have aA0:=bY HB hg;have aA1:=bY HB hg;have F5:=fG iM hg;have F6:=fH iM hg;have F7:=fG jM hg;have F8:=fH jM hg;have F9:=fG l6 hg;have Ga:=fH l6 hg;replace iM:=bn iM hb;replace jM:=bn jM hb;replace l6:=bn l6 hb;replace HB:=dz HB hb;clear hb ay hg)|((with_reducible refine av (N:=10) rfl ?_);refine ak (by rfl) (N:=10) (by rfl) (cs:=#[Z ab 0,Z ab 0,Z ab 0,Z ab 0]) (t:=31) fU ?_;intro aeJ hg w44 ay hb;have vV:=af.mk (ay);have aA2:=bY HB hg;have aA3:=bY HB hg;have Gb:=fG iM hg;have Gc:=fH iM hg;have Gd:=fG jM hg;have Gf:=fH jM hg;have Gg:=fG l6 hg;have Gh:=fH l6 hg;have Gi:=fG qp hg;have Gj:=fH qp hg;replace iM:=bn iM hb;replace jM:=bn jM hb;replace l6:=bn l6 hb;replace qp:=bn qp hb;replace HB:=dz HB hb;clear hb ay hg;have aAo:=FW.out;have aAp:=FX.out;have aoz:=FY.out;have aoA:=FZ.out;have aAq:=F5.out;have aAr:=F6.out;have aAs:=Gb.out;have aAt:=Gc.out;obtain ⟨ajI,ajJ,ajK,ajL,awL,awM,awN,awO,awP,ajM,ajN,ajO,ajP,awQ,awR,awS,awT,awU⟩:=jS iM.out;have aHM:=F3.out;have aHN:=F4.out;have aHO:=F7.out;have aHP:=F8.out;have aA4:=Gd.out;have aA5:=Gf.out;obtain ⟨awV,awW,awX,awY,awZ,aw0,aw1,aw2,aw3,aw4,aw5,aw6,aw7,aw8⟩:=kz jM.out;have aA6:=F9.out;have aA7:=Ga.out;have aj4:=Gg.out;have aj5:=Gh.out;obtain ⟨aj6,aj7,aj8,aj9,aka,akb,akc,akd⟩:=jA l6.out)|((with_reducible refine aU (f:=105) rfl ?_);refine dn (some 16) rfl rfl Try.func105 aT rfl #[.agg #[Z ab ai,Z ab aj,Z ab az,Z ab aA,Z ab aI,Z ab aD,Z ab aJ,.slice dY aX.length dS,.slice dV aG.length dU],.agg #[Z ab aQ,Z ab aN,Z ab bC,Z ab bD,Z ab bU,Z ab bV,Z ab bW],.agg #[Z ab cO,Z ab cZ,Z ab dh,Z ab di],Z ab a3] rfl jB ?_;(with_reducible refine (dP.calls k ai aj az aA aI aD aJ _ _ aX _ _ aG aQ aN bC bD bU bV bW cO cZ dh di a3 true _ ?dG ?dH ?eP ?eQ A6.out).mono ?_);(case dG=>repeat (first|exact (Kd.bz iI.out HB.out)|(with_reducible refine Kd.bJ ?_ _)|(with_reducible refine Kd.bK ?_ _)|(with_reducible refine Kd.bZ ?_)));(case dH=>exact iO.out);(case eP=>repeat (first|exact (Kd.bz iB.out HB.out)|(with_reducible refine Kd.bJ ?_ _)|(with_reducible refine Kd.bK ?_ _)|(with_reducible refine Kd.bZ ?_)));(case eQ=>exact iP.out);rintro e w57 ⟨rfl,hb⟩;refine ⟨_,rfl,?_⟩;replace iM:=bn iM hb;replace jM:=bn jM hb;replace l6:=bn l6 hb;replace qp:=bn qp hb;replace vV:=bn vV hb;replace HB:=dz HB hb;(try clear hb);(try clear hb2);(try clear hk);(try clear hi);obtain ⟨ajQ,ajR,ajS,ajT,aw9,axa,axb,aQ7,aQ8,ajU,ajV,ajW,ajX,axc,axd,axe,aQ9,aRa⟩:=jS iM.out;obtain ⟨axf,axg,axh,axi,axj,axk,axl,axm,axn,axo,axp,axq,axr,axs⟩:=kz jM.out;obtain ⟨ake,akf,axt,axu,akg,akh,axv,axw⟩:=jA l6.out)|((with_reducible refine aU (f:=123) rfl ?_);refine dn (some 22) rfl rfl Try.func123 aT rfl #[.agg #[Z ab ai,Z ab aj,Z ab az,Z ab aA,Z ab aI,Z ab aD,Z ab aJ,.slice dY aX.length dS,.slice dV aG.length dU],.agg #[Z ab aQ,Z ab aN,Z ab bC,Z ab bD,Z ab bU,Z ab bV,Z ab bW],.agg #[Z ab cO,Z ab cZ,Z ab dh,Z ab di]] rfl jB ?_;(with_reducible refine (bM.calls k ai aj az aA aI aD aJ _ _ aX _ _ aG aQ aN bC bD bU bV bW cO cZ dh di false _ ?dG ?dH ?eP ?eQ A8.out).mono ?_);(case dG=>repeat (first|exact (Kd.bz iI.out HB.out)|(with_reducible refine Kd.bJ ?_ _)|(with_reducible refine Kd.bK ?_ _)|(with_reducible refine Kd.bZ ?_)));(case dH=>exact iO.out);(case eP=>repeat (first|exact (Kd.bz iB.out HB.out)|(with_reducible refine Kd.bJ ?_ _)|(with_reducible refine Kd.bK ?_ _)|(with_reducible refine Kd.bZ ?_)));(case eQ=>exact iP.out);rintro e w61 ⟨rfl,hb⟩;refine ⟨_,rfl,?_⟩;replace iM:=bn iM hb;replace jM:=bn jM hb;replace l6:=bn l6 hb;replace qp:=bn qp hb;replace vV:=bn vV hb;replace HB:=dz HB hb;(try clear hb);(try clear hb2);(try clear hk);(try clear hi);have apQ:=Gj.out;have apR:=Gi.out;obtain ⟨abp,abq,abr,abt,abu,abv,abw,abx⟩:=jA vV.out))
   refine bodyPost_ret (nN rfl _ _ aeJ 31 #[Z ab 0,Z ab 0,Z ab 0,Z ab 0] (0,0) _ rfl (by (with_reducible repeat (first|refine au ?_ _|refine ag ?_|refine aa ?_ _));refine aK (cs:=#[Z ab 0,Z ab 0,Z ab 0,Z ab 0]) ?_ 3 _ rfl;(with_reducible repeat (first|refine au ?_ _|refine ag ?_|refine aa ?_ _));refine aK (cs:=#[Z ab 0,Z ab 0,Z ab 0,Z ab 0]) ?_ 2 _ rfl;(with_reducible repeat (first|refine au ?_ _|refine ag ?_|refine aa ?_ _));refine aK (cs:=#[Z ab 0,Z ab 0,Z ab 0,Z ab 0]) ?_ 1 _ rfl;(with_reducible repeat (first|refine au ?_ _|refine ag ?_|refine aa ?_ _));refine aK (cs:=#[Z ab 0,Z ab 0,Z ab 0,Z ab 0]) ?_ 0 _ rfl;(with_reducible repeat (first|refine au ?_ _|refine ag ?_|refine aa ?_ _));exact vV.out) Try.underlying31 rfl aT) rfl ?_
   exact ⟨mJ,gp⟩
 ·replace c7:=Bool.eq_false_iff.mpr c7
  subst c7
  have H1:(some (0,0,0,0,5)) = some (r1,r2,r3,r4,r5):=by rw [if_neg (show ¬ (false = true) by decide)] at H;exact H
  clear H
  have H:=H1
  clear H1
  simp only [Option.some.injEq,Prod.mk.injEq] at H
  obtain ⟨rfl,rfl,rfl,rfl,rfl⟩:=H
  go_enter Try.func82,Try.ntmps82
  go_wp2_with (first|((with_reducible refine av (N:=5) rfl ?_);refine ak (by rfl) (N:=5) (by rfl) (cs:=#[Z ab ai,Z ab aj,Z ab az,Z ab aA,Z ab aI,Z ab aD,Z ab aJ,.slice dY aX.length dS,.slice dV aG.length dU]) (t:=25) fU ?_;intro aAQ hg w64 ay hb;have iM:=af.mk (ay);have aAR:=bY HB hg;have aAS:=bY HB hg;replace HB:=dz HB hb;clear hb ay hg)|((with_reducible refine av (N:=6) rfl ?_);refine ak (by rfl) (N:=6) (by rfl) (cs:=#[Z ab aQ,Z ab aN,Z ab bC,Z ab bD,Z ab bU,Z ab bV,Z ab bW]) (t:=29) fU ?_;intro aAT hg w65 ay hb;have jM:=af.mk (ay);have aAU:=bY HB hg;have aAV:=bY HB hg;have FW:=fG iM hg;have FX:=fH iM hg;replace iM:=bn iM hb;replace HB:=dz HB hb;clear hb ay hg)|((with_reducible refine av (N:=7) rfl ?_);refine ak (by rfl) (N:=7) (by rfl) (cs:=#[Z ab cO,Z ab cZ,Z ab dh,Z ab di]) (t:=31) fU ?_;intro aAW hg w66 ay hb;have l6:=af.mk (ay);have aAX:=bY HB hg;have aAY:=bY HB hg;have FY:=fG iM hg;have FZ:=fH iM hg;have F3:=fG jM hg;have F4:=fH jM hg;replace iM:=bn iM hb;replace jM:=bn jM hb;replace HB:=dz HB hb;clear hb ay hg)|((with_reducible refine av (N:=9) rfl ?_);refine ak (by rfl) (N:=9) (by rfl) (cs:=#[Z ab fE,Z ab eZ]) (t:=33) fU ?_;intro aAZ hg w67 ay hb;have qp:=af.mk (ay);have aA0:=bY HB hg;have aA1:=bY HB hg;have F5:=fG iM hg;have F6:=fH iM hg;have F7:=fG jM hg;have F8:=fH jM hg;have F9:=fG l6 hg;have Ga:=fH l6 hg;replace iM:=bn iM hb;replace jM:=bn jM hb;replace l6:=bn l6 hb;replace HB:=dz HB hb;clear hb ay hg)|((with_reducible refine av (N:=10) rfl ?_);refine ak (by rfl) (N:=10) (by rfl) (cs:=#[Z ab 0,Z ab 0,Z ab 0,Z ab 0]) (t:=31) fU ?_;intro aeJ hg w68 ay hb;have vV:=af.mk (ay);have aA2:=bY HB hg;have aA3:=bY HB hg;have Gb:=fG iM hg;have Gc:=fH iM hg;have Gd:=fG jM hg;have Gf:=fH jM hg;have Gg:=fG l6 hg;have Gh:=fH l6 hg;have Gi:=fG qp hg;have Gj:=fH qp hg;replace iM:=bn iM hb;replace jM:=bn jM hb;replace l6:=bn l6 hb;replace qp:=bn qp hb;replace HB:=dz HB hb;clear hb ay hg;have aHQ:=FW.out;have aHR:=FX.out;have a1Z:=FY.out;have a10:=FZ.out;have aAy:=F5.out;have aAz:=F6.out;have aAA:=Gb.out;have aAB:=Gc.out;obtain ⟨axx,axy,axz,axA,axB,axC,aRb,aRc,aRd,axD,axE,axF,axG,axH,axI,aRe,aRf,aRg⟩:=jS iM.out;have aAC:=F3.out;have aAD:=F4.out;have a11:=F7.out;have a13:=F8.out;have aAE:=Gd.out;have aAF:=Gf.out;obtain ⟨aRh,aRi,aRj,aRk,aRl,aRm,aRn,aRo,aRp,aRq,aRr,aRs,aRt,aRu⟩:=kz jM.out;have aHS:=F9.out;have aHT:=Ga.out;have aHf:=Gg.out;have aHg:=Gh.out;obtain ⟨aRv,aRw,aRx,aRy,aRz,aRA,aRB,aRC⟩:=jA l6.out)|((with_reducible refine aU (f:=105) rfl ?_);refine dn (some 16) rfl rfl Try.func105 aT rfl #[.agg #[Z ab ai,Z ab aj,Z ab az,Z ab aA,Z ab aI,Z ab aD,Z ab aJ,.slice dY aX.length dS,.slice dV aG.length dU],.agg #[Z ab aQ,Z ab aN,Z ab bC,Z ab bD,Z ab bU,Z ab bV,Z ab bW],.agg #[Z ab cO,Z ab cZ,Z ab dh,Z ab di],Z ab a3] rfl jB ?_;(with_reducible refine (dP.calls k ai aj az aA aI aD aJ _ _ aX _ _ aG aQ aN bC bD bU bV bW cO cZ dh di a3 false _ ?dG ?dH ?eP ?eQ A6.out).mono ?_);(case dG=>repeat (first|exact (Kd.bz iI.out HB.out)|(with_reducible refine Kd.bJ ?_ _)|(with_reducible refine Kd.bK ?_ _)|(with_reducible refine Kd.bZ ?_)));(case dH=>exact iO.out);(case eP=>repeat (first|exact (Kd.bz iB.out HB.out)|(with_reducible refine Kd.bJ ?_ _)|(with_reducible refine Kd.bK ?_ _)|(with_reducible refine Kd.bZ ?_)));(case eQ=>exact iP.out);rintro e w81 ⟨rfl,hb⟩;refine ⟨_,rfl,?_⟩;replace iM:=bn iM hb;replace jM:=bn jM hb;replace l6:=bn l6 hb;replace qp:=bn qp hb;replace vV:=bn vV hb;replace HB:=dz HB hb;(try clear hb);(try clear hb2);(try clear hk);(try clear hi);have aHU:=Gj.out;have aHV:=Gi.out;obtain ⟨aRD,aRE,aRF,aRG,aRH,aRI,aRJ,aRK⟩:=jA vV.out))
  refine bodyPost_ret (nN rfl _ _ aeJ 31 #[Z ab 0,Z ab 0,Z ab 0,Z ab 0] (0,0) _ rfl (by (with_reducible repeat (first|refine au ?_ _|refine ag ?_|refine aa ?_ _));refine aK (cs:=#[Z ab 0,Z ab 0,Z ab 0,Z ab 0]) ?_ 3 _ rfl;(with_reducible repeat (first|refine au ?_ _|refine ag ?_|refine aa ?_ _));refine aK (cs:=#[Z ab 0,Z ab 0,Z ab 0,Z ab 0]) ?_ 2 _ rfl;(with_reducible repeat (first|refine au ?_ _|refine ag ?_|refine aa ?_ _));refine aK (cs:=#[Z ab 0,Z ab 0,Z ab 0,Z ab 0]) ?_ 1 _ rfl;(with_reducible repeat (first|refine au ?_ _|refine ag ?_|refine aa ?_ _));refine aK (cs:=#[Z ab 0,Z ab 0,Z ab 0,Z ab 0]) ?_ 0 _ rfl;(with_reducible repeat (first|refine au ?_ _|refine ag ?_|refine aa ?_ _));exact vV.out) Try.underlying31 rfl aT) rfl ?_
  exact ⟨mJ,gp⟩
end Go.Proofs.Ytmhaiihjfgfaoaa.Pr
end
