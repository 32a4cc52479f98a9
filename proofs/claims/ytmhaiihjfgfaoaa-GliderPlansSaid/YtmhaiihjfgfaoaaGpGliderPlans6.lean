import Derived.Test.YtmhaiihjfgfaoaaGpGliderPlans1
import Derived.Test.YtmhaiihjfgfaoaaGpGliderPlans5
import Derived.Test.YtmhaiihjfgfaoaaGpGliderPlans3
set_option linter.unusedVariables false
set_option linter.unusedSimpArgs false
open Option.some renaming inj → bh
open Option renaming bind_some → aE
open List renaming setIfInBounds_toArray → ap, set_cons_zero → aq, set_cons_succ → ar
open Go.World renaming block_lt_of_cell? → bd
set_option maxRecDepth 100000
set_option maxHeartbeats 80000000
open Go.Value renaming int → Z
open Go.IntKind renaming i64 → ab
open Bool renaming true → ac, false → al
open Go.RowKit renaming wrap64 → an
open Go renaming World → ao
section
namespace Go.Proofs.Ytmhaiihjfgfaoaa.Pr
open Go.RowKit Go.Proofs.YtmhaiihjfgfaoaaW.bu Go.Proofs.YtmhaiihjfgfaoaaW.dB Go.Proofs.YtmhaiihjfgfaoaaW.ek
attribute [local go_sem] iq iw jq jr iy
def dw.l0:Nat→Int→List (gU)→List (iA)→Int→Int→Int→Int→Int→Int→Int→Int→List Bool→List (qK)→Int→Int→Int→Int→Int→Int→Int→Int→Int→Int→Int→Option ((List (iA)) × Int × Int)
 |0,_,_,_,_,_,_,_,_,_,_,_,_,_,_,_,_,_,_,_,_,_,_,_,_=>none
 |k+1,x3,x4,L6,L8,aki,akj,akk,akl,akm,akn,ako,akp,akq,akr,aby,aks,akt,aku,akv,akw,axJ,axK,axL,axM=>if L8 < (x4.length:Int) then (if 0≤L8 then ((kW.f k aki akj akk akl akm akn ako akp akq akr aby aks akt aku akv akw axJ axK axL axM (an (x3+(an (L8*aby)))) ((bX x4 L8).f0) ((bX x4 L8).f1)).bind fun Mo=>(if Mo.2.2.2.2 = 0 then (if L6.length < 4398046511104 then (dw.l0 k x3 x4 (L6++[(⟨(⟨Mo.1,Mo.2.1⟩:jK),(⟨Mo.2.2.1,Mo.2.2.2.1⟩:jK)⟩:iA)]) (an (L8+1)) aki akj akk akl akm akn ako akp akq akr aby aks akt aku akv akw Mo.1 Mo.2.1 Mo.2.2.1 Mo.2.2.2.1) else (none)) else (some (([]:List (iA)),L8,Mo.2.2.2.2)))) else (none)) else (some (L6,(x4.length:Int),0))
def dw.f (k:Nat) (ai:Int) (aj:Int) (az:Int) (aA:Int) (aI:Int) (aD:Int) (aJ:Int) (aX:List Bool) (aG:List (qK)) (aQ:Int) (aN:Int) (bC:Int) (bD:Int) (bU:Int) (bV:Int) (bW:Int) (cO:Int) (cZ:Int) (dh:Int) (di:Int) (a3:Int) (l4:List (gU)):Option ((List (iA)) × Int × Int):=dw.l0 k a3 l4 ([]:List (iA)) 0 ai aj az aA aI aD aJ aX aG aQ aN bC bD bU bV bW cO cZ dh di
def dw.T5:Bool × List (List Nat × List Nat):=(true,[([],[]),([],[]),([],[]),([],[]),([],[]),([],[]),([5],[5]),([4,6],[4,6]),([3,7],[3,7]),([],[]),([],[]),([9,10],[9,10]),([11],[11]),([0,1,2,8,12],[0,1,2,8,12]),([13],[13]),([14],[14]),([14],[14]),([],[]),([17,15,13,0,1,2,3,4,5,6,7,8,9,10,11,12,13,14,15,17],[15,17]),([16,18,0,1,2,3,4,5,6,7,8,9,10,11,12,13,14,15,16,17,18],[16])])
def dw.B5:List Nat:=[0,0,0,0,0,0,32,112,248,0,0,1536,3584,8191,16383,32767,32767,0,196607,524287]
theorem dw.abz:rX .any (opsOf Try.f84 5) = dw.T5:=by kernel_rfl
theorem dw.OY:oF dw.T5.2 dw.B5 = true:=by kernel_rfl
theorem dw.calls (k:Nat) (ai:Int) (aj:Int) (az:Int) (aA:Int) (aI:Int) (aD:Int) (aJ:Int) (dY:Option Addr) (dS:Nat) (aX:List Bool) (dV:Option Addr) (dU:Nat) (aG:List (qK)) (aQ:Int) (aN:Int) (bC:Int) (bD:Int) (bU:Int) (bV:Int) (bW:Int) (cO:Int) (cZ:Int) (dh:Int) (di:Int) (a3:Int) (A4:Option Addr) (c4:Nat) (l4:List (gU)) (r1:List (iA)) (r2:Int) (r3:Int) (w:ao) (jC:Kd.C Kd.bool w dY aX.length aX) (jD:aX.length≤dS) (jE:Kd.C Dt w dV aG.length aG) (jF:aG.length≤dU) (hr4:Kd.C yn w A4 l4.length l4) (hc4:l4.length≤c4) (h:dw.f k ai aj az aA aI aD aJ aX aG aQ aN bC bD bU bV bW cO cZ dh di a3 l4 = some (r1,r2,r3)):
 Calls Try.prog 84 #[.agg #[Z ab ai,Z ab aj,Z ab az,Z ab aA,Z ab aI,Z ab aD,Z ab aJ,.slice dY aX.length dS,.slice dV aG.length dU],.agg #[Z ab aQ,Z ab aN,Z ab bC,Z ab bD,Z ab bU,Z ab bV,Z ab bW],.agg #[Z ab cO,Z ab cZ,Z ab dh,Z ab di],Z ab a3,.slice A4 l4.length c4] w fun e w'=>∃ QH:Value,e = .returned (.tuple #[QH,Z ab r2,Z ab r3])∧Kd.R k31 31 w' w.heap.size (fun _=>True) QH r1∧Below w.heap.size w w':=by
 have xS:=Try.underlying25
 have vo:=Try.underlying29
 have qj:=Try.underlying31
 have E9:=Try.underlying33
 have iI:=af.mk jC
 have iO:=af.mk jD
 clear jC jD
 have iB:=af.mk jE
 have iP:=af.mk jF
 clear jE jF
 have HR4:=af.mk hr4
 have HC4:=af.mk hc4
 clear hr4 hc4
 have HB:=af.mk (Below.refl w.heap.size w)
 have H:(dw.l0 k a3 l4 ([]:List (iA)) 0 ai aj az aA aI aD aJ aX aG aQ aN bC bD bU bV bW cO cZ dh di) = some (r1,r2,r3):=h
 clear h
 have H':=af.mk H
 clear H
 go_enter Try.func84,Try.ntmps84
 go_wp2_with (first|((with_reducible refine av (N:=5) rfl ?_);refine ak (by rfl) (N:=5) (by rfl) (cs:=#[Z ab ai,Z ab aj,Z ab az,Z ab aA,Z ab aI,Z ab aD,Z ab aJ,.slice dY aX.length dS,.slice dV aG.length dU]) (t:=25) fU ?_;intro iN hg w6 ay hb;have dK:=af.mk (ay);have a14:=bY HB hg;have a15:=bY HB hg;replace HB:=dz HB hb;clear hb ay hg)|((with_reducible refine av (N:=6) rfl ?_);refine ak (by rfl) (N:=6) (by rfl) (cs:=#[Z ab aQ,Z ab aN,Z ab bC,Z ab bD,Z ab bU,Z ab bV,Z ab bW]) (t:=29) fU ?_;intro jN hg w7 ay hb;have eF:=af.mk (ay);have a18:=bY HB hg;have a19:=bY HB hg;have aES:=fG dK hg;have aET:=fH dK hg;replace dK:=bn dK hb;replace HB:=dz HB hb;clear hb ay hg)|((with_reducible refine av (N:=7) rfl ?_);refine ak (by rfl) (N:=7) (by rfl) (cs:=#[Z ab cO,Z ab cZ,Z ab dh,Z ab di]) (t:=31) fU ?_;intro kJ hg w8 ay hb;have kK:=af.mk (ay);have a2a:=bY HB hg;have a2b:=bY HB hg;have anc:=fG dK hg;have ane:=fH dK hg;have anf:=fG eF hg;have ang:=fH eF hg;replace dK:=bn dK hb;replace eF:=bn eF hb;replace HB:=dz HB hb;clear hb ay hg))
 go_loopg [13,14] k (fun kq v13 v14 w'=>∃ (gZ:List (iA)) (dZ:Int) (jR:Int) (jy:Int) (iU:Int) (iJ:Int),v14 = Z ab dZ∧af (dw.l0 kq a3 l4 gZ dZ ai aj az aA aI aD aJ aX aG aQ aN bC bD bU bV bW jR jy iU iJ = some (r1,r2,r3))∧af (kq≤k)∧af (Kd.R k31 31 w' w.heap.size (fun k_=>k_≠kJ) v13 gZ)∧af (w'.heap[iN]? = some (.cells #[Z ab ai,Z ab aj,Z ab az,Z ab aA,Z ab aI,Z ab aD,Z ab aJ,(.slice dY aX.length dS),(.slice dV aG.length dU)] 25 (0,0)))∧af (w'.heap[jN]? = some (.cells #[Z ab aQ,Z ab aN,Z ab bC,Z ab bD,Z ab bU,Z ab bV,Z ab bW] 29 (0,0)))∧af (w'.heap[kJ]? = some (.cells #[Z ab jR,Z ab jy,Z ab iU,Z ab iJ] 31 (0,0)))∧af (Below w.heap.size w w'))
 case atStart=>exact ⟨(([]:List (iA))),(0),(cO),(cZ),(dh),(di),om,H',⟨Nat.le_refl _⟩,⟨aod⟩,⟨iK⟩,⟨iK⟩,⟨iK⟩,⟨gp⟩⟩
 case round =>
  clear H'
  try clear p2
  try clear c4
  try clear c8
  obtain ⟨gZ,dZ,jR,jy,iU,iJ,rfl,HA,Cj,oW,dK,eF,kK,HB⟩:=hrel
  cases gk with
  |zero=>exact absurd HA.out (by simp [dw.l0])
  |succ k1 =>
   have H:=HA.out
   clear HA
   simp only [dw.l0] at H
   by_cases c9:dZ < (l4.length:Int)
   ·rw [if_pos c9] at H
    have JM:decide (dZ < (l4.length:Int)) = true:=decide_eq_true c9
    clear c9
    by_cases c10:0≤dZ
    ·rw [if_pos c10] at H
     have Cs:decide (0≤dZ) = true:=decide_eq_true c10
     clear c10
     replace H:=Option.bind_eq_some_iff.mp H
     obtain ⟨⟨sj,uF,xX,BQ,JP⟩,apW,H⟩:=H
     replace H:(if JP = 0 then (if gZ.length < 4398046511104 then (dw.l0 k1 a3 l4 (gZ++[(⟨(⟨sj,uF⟩:jK),(⟨xX,BQ⟩:jK)⟩:iA)]) (an (dZ+1)) ai aj az aA aI aD aJ aX aG aQ aN bC bD bU bV bW sj uF xX BQ) else (none)) else (some (([]:List (iA)),dZ,JP))) = some (r1,r2,r3):=H
     have A11:=af.mk apW
     clear apW
     by_cases c12:JP = 0
     ·rw [if_pos c12] at H
      have Yu:(JP == 0) = true:=beq_iff_eq.mpr c12
      have aHW:(JP != 0) = false:=bne_eq_false_iff_eq.mpr c12
      clear c12
      by_cases c13:gZ.length < 4398046511104
      ·rw [if_pos c13] at H
       have apX:=af.mk c13
       clear c13
       obtain ⟨aHX,aeM⟩:∃ y_:List (iA),y_ = (gZ++[(⟨(⟨sj,uF⟩:jK),(⟨xX,BQ⟩:jK)⟩:iA)]):=⟨_,rfl⟩
       replace H:(dw.l0 k1 a3 l4 aHX (an (dZ+1)) ai aj az aA aI aD aJ aX aG aQ aN bC bD bU bV bW sj uF xX BQ) = some (r1,r2,r3):=by first|(rw [aeM];with_reducible exact H)|(have yu:=(aE _ _).symm.trans H;rw [aeM];with_reducible exact yu)|(have yu:=(aE _ _).symm.trans H;with_reducible exact yu)|with_reducible exact H|(rw [aeM];exact H)|exact H
       have aHY:=af.mk aeM
       clear aeM
       have H':=af.mk H
       clear H
       try go_wp2
       replace oW:=af.mk (Kd.jP oW.out)
       replace dK:=af.mk (ag dK.out)
       replace eF:=af.mk (ag eF.out)
       replace kK:=af.mk (ag kK.out)
       replace HB:=af.mk (bF HB.out)
       have ahb:0≤(dZ:Int):=of_decide_eq_true nM
       have ahc:dZ < (l4.length:Int):=of_decide_eq_true nM
       obtain ⟨xG,aDw,xH,xI⟩:=lN HR4.out dZ ahb ahc
       have uO:=xI
       have uN:=xH
       cases aDw
       replace xH:=(HB.out.cell (bd w _ xH)).trans xH
       replace xI:=(HB.out.cell (bd w _ xI)).trans xI
       replace ahb:=eq_true ahb
       replace ahc:=eq_true ahc
       refine jV (n:=20) (S:=fun w'=>w'.cell? ⟨iN,0,none⟩ = some (Z ab ai)∧w'.cell? ⟨iN,1,none⟩ = some (Z ab aj)∧w'.cell? ⟨iN,2,none⟩ = some (Z ab az)∧w'.cell? ⟨iN,3,none⟩ = some (Z ab aA)∧w'.cell? ⟨iN,4,none⟩ = some (Z ab aI)∧w'.cell? ⟨iN,5,none⟩ = some (Z ab aD)∧w'.cell? ⟨iN,6,none⟩ = some (Z ab aJ)∧w'.cell? ⟨iN,7,none⟩ = some (.slice dY aX.length dS)∧w'.cell? ⟨iN,8,none⟩ = some (.slice dV aG.length dU)∧w'.cell? ⟨jN,0,none⟩ = some (Z ab aQ)∧w'.cell? ⟨jN,1,none⟩ = some (Z ab aN)∧w'.cell? ⟨jN,2,none⟩ = some (Z ab bC)∧w'.cell? ⟨jN,3,none⟩ = some (Z ab bD)∧w'.cell? ⟨jN,4,none⟩ = some (Z ab bU)∧w'.cell? ⟨jN,5,none⟩ = some (Z ab bV)∧w'.cell? ⟨jN,6,none⟩ = some (Z ab bW)∧w'.cell? ⟨kJ,0,none⟩ = some (Z ab jR)∧w'.cell? ⟨kJ,1,none⟩ = some (Z ab jy)∧w'.cell? ⟨kJ,2,none⟩ = some (Z ab iU)∧w'.cell? ⟨kJ,3,none⟩ = some (Z ab iJ)∧w'.cell? (xG.add ((dZ).toNat*2)) = some (Z ab ((bX l4 dZ).f0))∧w'.cell? ⟨(xG.add ((dZ).toNat*2)).block,(xG.add ((dZ).toNat*2)).off+1,none⟩ = some (Z ab ((bX l4 dZ).f1))) (ds:=[]) #[al,al,al,al,al,al,al,al,al,al,al,al,al,al,al,al,al,al,al,al] aT rfl rfl ⟨bH dK 0,bH dK 1,bH dK 2,bH dK 3,bH dK 4,bH dK 5,bH dK 6,bH dK 7,bH dK 8,bH eF 0,bH eF 1,bH eF 2,bH eF 3,bH eF 4,bH eF 5,bH eF 6,Jk kK.out ⟨(nI HB uN),(nI HB uO)⟩⟩ (fun hHeld=>?_);refine jQ dw.abz dw.OY (fun dx mD=>?_)
       generalize wr.drew = w14 at oW dK eF kK HB xH xI hHeld ⊢
       refine dR (i:=3) (N:=some 27) (aY dx.out aT) ?_
       refine dR (i:=4) (N:=some 28) (aY dx.out aT) ?_
       refine dR (i:=5) (N:=some 29) (aY dx.out aT) ?_
       refine dR (i:=9) (N:=some 33) (aY dx.out aT) ?_
       refine dR (i:=10) (N:=some 34) (aY dx.out aT) ?_
       refine dR (i:=11) (N:=some 35) (aY dx.out aT) ?_
       refine iT (i:=0) (N:=some 24) (bL dx.out mD.out aT) hHeld ?_
       refine iT (i:=1) (N:=some 25) (bL dx.out mD.out aT) hHeld ?_
       refine iT (i:=2) (N:=some 26) (bL dx.out mD.out aT) hHeld ?_
       refine iT (i:=6) (N:=some 30) (bL dx.out mD.out aT) hHeld ?_
       refine dR (i:=7) (N:=some 31) (aY dx.out aT) ?_
       refine dR (i:=8) (N:=some 32) (aY dx.out aT) ?_
       refine iT (i:=12) (N:=some 36) (bL dx.out mD.out aT) hHeld ?_
       refine Ro (σ:=Nat) 2 #[ac,ac,ac,ac,ac,ac,ac,ac,ac,ac,ac,ac,ac,ac,ac,ac,ac,ac,al,al] (fun s_=>[(37,.tuple #[.agg #[Z ab sj,Z ab uF,Z ab xX,Z ab BQ],Z ab JP]),(15,.pointer (some ⟨s_,0,none⟩)),(23,.tuple #[.agg #[Z ab sj,Z ab uF,Z ab xX,Z ab BQ],Z ab JP]),(38,.agg #[Z ab sj,Z ab uF,Z ab xX,Z ab BQ]),(39,Z ab JP)]) (fun s_ w'=>(w'.cell? ⟨iN,0,none⟩ = some (Z ab ai)∧w'.cell? ⟨iN,1,none⟩ = some (Z ab aj)∧w'.cell? ⟨iN,2,none⟩ = some (Z ab az)∧w'.cell? ⟨iN,3,none⟩ = some (Z ab aA)∧w'.cell? ⟨iN,4,none⟩ = some (Z ab aI)∧w'.cell? ⟨iN,5,none⟩ = some (Z ab aD)∧w'.cell? ⟨iN,6,none⟩ = some (Z ab aJ)∧w'.cell? ⟨iN,7,none⟩ = some (.slice dY aX.length dS)∧w'.cell? ⟨iN,8,none⟩ = some (.slice dV aG.length dU)∧w'.cell? ⟨jN,0,none⟩ = some (Z ab aQ)∧w'.cell? ⟨jN,1,none⟩ = some (Z ab aN)∧w'.cell? ⟨jN,2,none⟩ = some (Z ab bC)∧w'.cell? ⟨jN,3,none⟩ = some (Z ab bD)∧w'.cell? ⟨jN,4,none⟩ = some (Z ab bU)∧w'.cell? ⟨jN,5,none⟩ = some (Z ab bV)∧w'.cell? ⟨jN,6,none⟩ = some (Z ab bW)∧w'.cell? ⟨kJ,0,none⟩ = some (Z ab jR)∧w'.cell? ⟨kJ,1,none⟩ = some (Z ab jy)∧w'.cell? ⟨kJ,2,none⟩ = some (Z ab iU)∧w'.cell? ⟨kJ,3,none⟩ = some (Z ab iJ)∧w'.cell? (xG.add ((dZ).toNat*2)) = some (Z ab ((bX l4 dZ).f0))∧w'.cell? ⟨(xG.add ((dZ).toNat*2)).block,(xG.add ((dZ).toNat*2)).off+1,none⟩ = some (Z ab ((bX l4 dZ).f1)))∧(Kd.R k31 31 w' w.heap.size (fun k_=>k_≠kJ∧k_≠s_) u13 gZ)∧(w'.heap[iN]? = some (.cells #[Z ab ai,Z ab aj,Z ab az,Z ab aA,Z ab aI,Z ab aD,Z ab aJ,.slice dY aX.length dS,.slice dV aG.length dU] 25 (0,0)))∧(w'.heap[jN]? = some (.cells #[Z ab aQ,Z ab aN,Z ab bC,Z ab bD,Z ab bU,Z ab bV,Z ab bW] 29 (0,0)))∧(w'.heap[kJ]? = some (.cells #[Z ab jR,Z ab jy,Z ab iU,Z ab iJ] 31 (0,0)))∧(w'.heap[s_]? = some (.cells #[Z ab 0,Z ab 0,Z ab 0,Z ab 0] 31 (0,0)))∧(w.heap.size≤s_)∧(w.heap.size≤s_)∧(iN≠s_)∧(s_≠iN)∧(jN≠s_)∧(s_≠jN)∧(kJ≠s_)∧(s_≠kJ)∧(Below w.heap.size w w')) ?_ ?_
       rotate_left
       ·intro qW
        refine Xy (i:=13) (j:=17) (Ni:=some 37) (Nj:=some 15) #[ac,ac,ac,ac,ac,ac,ac,ac,ac,ac,ac,ac,ac,ac,al,al,al,al,al,al] #[ac,ac,ac,ac,ac,ac,ac,ac,ac,ac,ac,ac,ac,al,al,al,al,ac,al,al] rfl rfl rfl rfl (Jt dx.out aT) (by decide) (by decide) (fun K hK=>?_) (fun K hK=>?_)
        ·skip
         refine gY Try.func82 aT rfl #[.agg #[Z ab ai,Z ab aj,Z ab az,Z ab aA,Z ab aI,Z ab aD,Z ab aJ,.slice dY aX.length dS,.slice dV aG.length dU],.agg #[Z ab aQ,Z ab aN,Z ab bC,Z ab bD,Z ab bU,Z ab bV,Z ab bW],.agg #[Z ab jR,Z ab jy,Z ab iU,Z ab iJ],Z ab (an (a3+(an (dZ*aN)))),.agg #[Z ab ((bX l4 dZ).f0),Z ab ((bX l4 dZ).f1)]] (by rfl) rfl rfl jB ?_
         with_reducible refine (kW.calls k1 ai aj az aA aI aD aJ _ _ aX _ _ aG aQ aN bC bD bU bV bW jR jy iU iJ (an (a3+(an (dZ*aN)))) ((bX l4 dZ).f0) ((bX l4 dZ).f1) sj uF xX BQ JP _ ?dG ?dH ?eP ?eQ A11.out).mono ?_
         (case dG=>repeat (first|exact (Kd.bz iI.out HB.out)|(with_reducible refine Kd.bJ ?_ _)|(with_reducible refine Kd.bK ?_ _)|(with_reducible refine Kd.bZ ?_)))
         (case dH=>exact iO.out)
         (case eP=>repeat (first|exact (Kd.bz iB.out HB.out)|(with_reducible refine Kd.bJ ?_ _)|(with_reducible refine Kd.bK ?_ _)|(with_reducible refine Kd.bZ ?_)))
         (case eQ=>exact iP.out)
         rintro e w15 ⟨rfl,hb⟩
         refine ⟨_,rfl,?_⟩
         replace oW:=wh oW hb
         replace dK:=bn dK hb
         replace eF:=bn eF hb
         replace kK:=bn kK hb
         replace HB:=dz HB hb
         (try clear hb)
         (try clear hb2)
         (try clear hk)
         (try clear hi)
         refine hK.out _ _ ⟨bH dK 0,bH dK 1,bH dK 2,bH dK 3,bH dK 4,bH dK 5,bH dK 6,bH dK 7,bH dK 8,bH eF 0,bH eF 1,bH eF 2,bH eF 3,bH eF 4,bH eF 5,bH eF 6,Jk kK.out ⟨(nI HB uN),(nI HB uO)⟩⟩ (fun hHeld=>?_)
         clear hK K
         refine dQ asG ?_
         refine dR (i:=14) (N:=some 23) (aY dx.out aT) ?_
         refine dR (i:=15) (N:=some 38) (aY dx.out aT) ?_
         refine dR (i:=16) (N:=some 39) (aY dx.out aT) ?_
         refine iW (i:=17) (N:=some 15) #[ac,ac,ac,ac,ac,ac,ac,ac,ac,ac,ac,ac,ac,ac,ac,ac,ac,ac,al,al] rfl rfl (gJ dx.out aT) (by decide) (fun K hK=>?_)
         refine pq ?hg (N:=15) ?hd (cs:=#[Z ab 0,Z ab 0,Z ab 0,Z ab 0]) (t:=31) ?hr ?_;(case hd=>rfl);(case hg=>rfl);(case hr=>first|(go_simp;done)|(go_simp;rfl))
         intro iR hg w16 ay hb
         have o6:=af.mk (ay)
         have Ab:=bY HB hg
         have OZ:=bY HB hg
         have bN:=fG dK hg
         have mg:=fH dK hg
         have cB:=fG eF hg
         have mh:=fH eF hg
         have dJ:=fG kK hg
         have jb:=fH kK hg
         replace oW:=af.mk (Kd.lZ (Kd.sw ac3 iR (Nat.le_of_eq hg.symm)) hb)
         replace dK:=bn dK hb
         replace eF:=bn eF hb
         replace kK:=bn kK hb
         replace HB:=dz HB hb
         clear hb ay hg
         refine hK.out _ _ ⟨bH dK 0,bH dK 1,bH dK 2,bH dK 3,bH dK 4,bH dK 5,bH dK 6,bH dK 7,bH dK 8,bH eF 0,bH eF 1,bH eF 2,bH eF 3,bH eF 4,bH eF 5,bH eF 6,Jk kK.out ⟨(nI HB uN),(nI HB uO)⟩⟩ (fun hHeld=>?_)
         clear hK K
         refine dQ asH ?_
         exact dQ Nk (qW (iR) _ ⟨hHeld,ac3,iK,iK,iK,iK,Ab.out,OZ.out,bN.out,mg.out,cB.out,mh.out,dJ.out,jb.out,gp⟩)
        ·skip
         refine pq ?hg (N:=15) ?hd (cs:=#[Z ab 0,Z ab 0,Z ab 0,Z ab 0]) (t:=31) ?hr ?_;(case hd=>rfl);(case hg=>rfl);(case hr=>first|(go_simp;done)|(go_simp;rfl))
         intro iR hg w15 ay hb
         have o6:=af.mk (ay)
         have Ab:=bY HB hg
         have OZ:=bY HB hg
         have bN:=fG dK hg
         have mg:=fH dK hg
         have cB:=fG eF hg
         have mh:=fH eF hg
         have dJ:=fG kK hg
         have jb:=fH kK hg
         replace oW:=af.mk (Kd.lZ (Kd.sw ac3 iR (Nat.le_of_eq hg.symm)) hb)
         replace dK:=bn dK hb
         replace eF:=bn eF hb
         replace kK:=bn kK hb
         replace HB:=dz HB hb
         clear hb ay hg
         refine hK.out _ _ ⟨bH dK 0,bH dK 1,bH dK 2,bH dK 3,bH dK 4,bH dK 5,bH dK 6,bH dK 7,bH dK 8,bH eF 0,bH eF 1,bH eF 2,bH eF 3,bH eF 4,bH eF 5,bH eF 6,Jk kK.out ⟨(nI HB uN),(nI HB uO)⟩⟩ (fun hHeld=>?_)
         clear hK K
         refine dQ asH ?_
         refine iW (i:=13) (N:=some 37) #[ac,ac,ac,ac,ac,ac,ac,ac,ac,ac,ac,ac,ac,ac,al,al,al,ac,al,al] rfl rfl (gJ dx.out aT) (by decide) (fun K hK=>?_)
         refine gY Try.func82 aT rfl #[.agg #[Z ab ai,Z ab aj,Z ab az,Z ab aA,Z ab aI,Z ab aD,Z ab aJ,.slice dY aX.length dS,.slice dV aG.length dU],.agg #[Z ab aQ,Z ab aN,Z ab bC,Z ab bD,Z ab bU,Z ab bV,Z ab bW],.agg #[Z ab jR,Z ab jy,Z ab iU,Z ab iJ],Z ab (an (a3+(an (dZ*aN)))),.agg #[Z ab ((bX l4 dZ).f0),Z ab ((bX l4 dZ).f1)]] (by rfl) rfl rfl jB ?_
         with_reducible refine (kW.calls k1 ai aj az aA aI aD aJ _ _ aX _ _ aG aQ aN bC bD bU bV bW jR jy iU iJ (an (a3+(an (dZ*aN)))) ((bX l4 dZ).f0) ((bX l4 dZ).f1) sj uF xX BQ JP _ ?dG ?dH ?eP ?eQ A11.out).mono ?_
         (case dG=>repeat (first|exact (Kd.bz iI.out HB.out)|(with_reducible refine Kd.bJ ?_ _)|(with_reducible refine Kd.bK ?_ _)|(with_reducible refine Kd.bZ ?_)))
         (case dH=>exact iO.out)
         (case eP=>repeat (first|exact (Kd.bz iB.out HB.out)|(with_reducible refine Kd.bJ ?_ _)|(with_reducible refine Kd.bK ?_ _)|(with_reducible refine Kd.bZ ?_)))
         (case eQ=>exact iP.out)
         rintro e w16 ⟨rfl,hb⟩
         refine ⟨_,rfl,?_⟩
         replace oW:=wh oW hb
         replace dK:=bn dK hb
         replace eF:=bn eF hb
         replace kK:=bn kK hb
         replace o6:=bn o6 hb
         replace HB:=dz HB hb
         (try clear hb)
         (try clear hb2)
         (try clear hk)
         (try clear hi)
         refine hK.out _ _ ⟨bH dK 0,bH dK 1,bH dK 2,bH dK 3,bH dK 4,bH dK 5,bH dK 6,bH dK 7,bH dK 8,bH eF 0,bH eF 1,bH eF 2,bH eF 3,bH eF 4,bH eF 5,bH eF 6,Jk kK.out ⟨(nI HB uN),(nI HB uO)⟩⟩ (fun hHeld=>?_)
         clear hK K
         refine dQ asG ?_
         refine dR (i:=14) (N:=some 23) (aY dx.out aT) ?_
         refine dR (i:=15) (N:=some 38) (aY dx.out aT) ?_
         refine dR (i:=16) (N:=some 39) (aY dx.out aT) ?_
         exact dQ Nk (qW (iR) _ ⟨hHeld,ac3,iK,iK,iK,iK,Ab.out,OZ.out,bN.out,mg.out,cB.out,mh.out,dJ.out,jb.out,gp⟩)
       rintro iR DC ⟨hS_,h0_,h1_,h2_,h3_,h4_,h5_,h6_,h7_,h8_,h9_,JI,V7,aez,aeA⟩
       have vv:af (Kd.R k31 31 DC w.heap.size (fun k_=>k_≠kJ∧k_≠iR) u13 gZ):=⟨h0_⟩
       have vw:af (DC.heap[iN]? = some (.cells #[Z ab ai,Z ab aj,Z ab az,Z ab aA,Z ab aI,Z ab aD,Z ab aJ,.slice dY aX.length dS,.slice dV aG.length dU] 25 (0,0))):=⟨h1_⟩
       have vz:af (DC.heap[jN]? = some (.cells #[Z ab aQ,Z ab aN,Z ab bC,Z ab bD,Z ab bU,Z ab bV,Z ab bW] 29 (0,0))):=⟨h2_⟩
       have vB:af (DC.heap[kJ]? = some (.cells #[Z ab jR,Z ab jy,Z ab iU,Z ab iJ] 31 (0,0))):=⟨h3_⟩
       have xU:af (DC.heap[iR]? = some (.cells #[Z ab 0,Z ab 0,Z ab 0,Z ab 0] 31 (0,0))):=⟨h4_⟩
       have Jo:af (w.heap.size≤iR):=⟨h5_⟩
       have SQ:af (w.heap.size≤iR):=⟨h6_⟩
       have Yt:af (iN≠iR):=⟨h7_⟩
       have n8_:af (iR≠iN):=⟨h8_⟩
       have n9_:af (jN≠iR):=⟨h9_⟩
       have JJ:af (iR≠jN):=⟨JI⟩
       have V8:af (kJ≠iR):=⟨V7⟩
       have aeB:af (iR≠kJ):=⟨aez⟩
       have aeC:af (Below w.heap.size w DC):=⟨aeA⟩
       clear oW dK eF kK HB
       clear h0_ h1_ h2_ h3_ h4_ h5_ h6_ h7_ h8_ h9_ JI V7 aez aeA
       have oW:=vv
       have dK:=vw
       have eF:=vz
       have kK:=vB
       have o6:=xU
       have Ab:=Jo
       have OZ:=SQ
       have bN:=Yt
       have mg:=n8_
       have cB:=n9_
       have mh:=JJ
       have dJ:=V8
       have jb:=aeB
       have HB:=aeC
       clear vv vw vz vB xU Jo SQ Yt n8_ n9_ JJ V8 aeB aeC
       have hHeld:DC.cell? ⟨iN,0,none⟩ = some (Z ab ai)∧DC.cell? ⟨iN,1,none⟩ = some (Z ab aj)∧DC.cell? ⟨iN,2,none⟩ = some (Z ab az)∧DC.cell? ⟨iN,3,none⟩ = some (Z ab aA)∧DC.cell? ⟨iN,4,none⟩ = some (Z ab aI)∧DC.cell? ⟨iN,5,none⟩ = some (Z ab aD)∧DC.cell? ⟨iN,6,none⟩ = some (Z ab aJ)∧DC.cell? ⟨iN,7,none⟩ = some (.slice dY aX.length dS)∧DC.cell? ⟨iN,8,none⟩ = some (.slice dV aG.length dU)∧DC.cell? ⟨jN,0,none⟩ = some (Z ab aQ)∧DC.cell? ⟨jN,1,none⟩ = some (Z ab aN)∧DC.cell? ⟨jN,2,none⟩ = some (Z ab bC)∧DC.cell? ⟨jN,3,none⟩ = some (Z ab bD)∧DC.cell? ⟨jN,4,none⟩ = some (Z ab bU)∧DC.cell? ⟨jN,5,none⟩ = some (Z ab bV)∧DC.cell? ⟨jN,6,none⟩ = some (Z ab bW)∧DC.cell? ⟨kJ,0,none⟩ = some (Z ab jR)∧DC.cell? ⟨kJ,1,none⟩ = some (Z ab jy)∧DC.cell? ⟨kJ,2,none⟩ = some (Z ab iU)∧DC.cell? ⟨kJ,3,none⟩ = some (Z ab iJ)∧DC.cell? (xG.add ((dZ).toNat*2)) = some (Z ab ((bX l4 dZ).f0))∧DC.cell? ⟨(xG.add ((dZ).toNat*2)).block,(xG.add ((dZ).toNat*2)).off+1,none⟩ = some (Z ab ((bX l4 dZ).f1)):=hS_
       refine dQ (a':=?_) ?_ ?_
       rotate_left
       ·simp only [wy,Act.put,ap,aq,ar]
        rfl
       refine iW (i:=18) (N:=none) #[ac,ac,ac,ac,ac,ac,ac,ac,ac,ac,ac,ac,ac,ac,ac,ac,ac,ac,ac,al] rfl rfl (gJ dx.out aT) (by decide) (fun K hK=>?_)
       have a5S:DC.cell? ⟨iR,0,none⟩ = some (Z ab 0):=(ae o6.out 0).trans rfl
       have a2c:=bg o6.out 0
       have aRM:=bN.out
       have aRN:=cB.out
       have aRO:=dJ.out
       have aRP:=mg.out
       have aRQ:=mh.out
       have aRR:=jb.out
       have a5T:DC.cell? ⟨iR,1,none⟩ = some (Z ab 0):=(ae o6.out 1).trans rfl
       have a2d:=bg o6.out 1
       have aRS:=bN.out
       have aRT:=cB.out
       have aRU:=dJ.out
       have aRV:=mg.out
       have aRW:=mh.out
       have aRX:=jb.out
       have aXz:DC.cell? ⟨iR,2,none⟩ = some (Z ab 0):=(ae o6.out 2).trans rfl
       have aHZ:=bg o6.out 2
       have axN:=bN.out
       have axO:=cB.out
       have aRY:=dJ.out
       have axP:=mg.out
       have axQ:=mh.out
       have aRZ:=jb.out
       have aGf:DC.cell? ⟨iR,3,none⟩ = some (Z ab 0):=(ae o6.out 3).trans rfl
       have azZ:=bg o6.out 3
       have ai1:=bN.out
       have ai2:=cB.out
       have aR0:=dJ.out
       have ai3:=mg.out
       have ai4:=mh.out
       have aR1:=jb.out
       refine vF (w1:=?_) (by rfl) rfl ?_ ?_
       rotate_left
       ·go_simp
        rfl
       refine hK.out _ _ ⟨(dI bN ((dI bN ((dI bN ((dI bN (hHeld.1)))))))),(dI bN ((dI bN ((dI bN ((dI bN (hHeld.2.1)))))))),(dI bN ((dI bN ((dI bN ((dI bN (hHeld.2.2.1)))))))),(dI bN ((dI bN ((dI bN ((dI bN (hHeld.2.2.2.1)))))))),(dI bN ((dI bN ((dI bN ((dI bN (hHeld.2.2.2.2.1)))))))),(dI bN ((dI bN ((dI bN ((dI bN (hHeld.2.2.2.2.2.1)))))))),(dI bN ((dI bN ((dI bN ((dI bN (hHeld.2.2.2.2.2.2.1)))))))),(dI bN ((dI bN ((dI bN ((dI bN (hHeld.2.2.2.2.2.2.2.1)))))))),(dI bN ((dI bN ((dI bN ((dI bN (hHeld.2.2.2.2.2.2.2.2.1)))))))),(dI cB ((dI cB ((dI cB ((dI cB (hHeld.2.2.2.2.2.2.2.2.2.1)))))))),(dI cB ((dI cB ((dI cB ((dI cB (hHeld.2.2.2.2.2.2.2.2.2.2.1)))))))),(dI cB ((dI cB ((dI cB ((dI cB (hHeld.2.2.2.2.2.2.2.2.2.2.2.1)))))))),(dI cB ((dI cB ((dI cB ((dI cB (hHeld.2.2.2.2.2.2.2.2.2.2.2.2.1)))))))),(dI cB ((dI cB ((dI cB ((dI cB (hHeld.2.2.2.2.2.2.2.2.2.2.2.2.2.1)))))))),(dI cB ((dI cB ((dI cB ((dI cB (hHeld.2.2.2.2.2.2.2.2.2.2.2.2.2.2.1)))))))),(dI cB ((dI cB ((dI cB ((dI cB (hHeld.2.2.2.2.2.2.2.2.2.2.2.2.2.2.2.1)))))))),(dI dJ ((dI dJ ((dI dJ ((dI dJ (hHeld.2.2.2.2.2.2.2.2.2.2.2.2.2.2.2.2.1)))))))),(dI dJ ((dI dJ ((dI dJ ((dI dJ (hHeld.2.2.2.2.2.2.2.2.2.2.2.2.2.2.2.2.2.1)))))))),(dI dJ ((dI dJ ((dI dJ ((dI dJ (hHeld.2.2.2.2.2.2.2.2.2.2.2.2.2.2.2.2.2.2.1)))))))),(dI dJ ((dI dJ ((dI dJ ((dI dJ (hHeld.2.2.2.2.2.2.2.2.2.2.2.2.2.2.2.2.2.2.2.1)))))))),((cell_far (p:=⟨iR,_,none⟩) ac4 _).trans (((cell_far (p:=⟨iR,_,none⟩) ac4 _).trans (((cell_far (p:=⟨iR,_,none⟩) ac4 _).trans (((cell_far (p:=⟨iR,_,none⟩) ac4 _).trans (hHeld.2.2.2.2.2.2.2.2.2.2.2.2.2.2.2.2.2.2.2.2.1)))))))),((cell_far (p:=⟨iR,_,none⟩) ac5 _).trans (((cell_far (p:=⟨iR,_,none⟩) ac5 _).trans (((cell_far (p:=⟨iR,_,none⟩) ac5 _).trans (((cell_far (p:=⟨iR,_,none⟩) ac5 _).trans (hHeld.2.2.2.2.2.2.2.2.2.2.2.2.2.2.2.2.2.2.2.2.2))))))))⟩ (fun hHeld=>?_)
       clear hK K
       refine dR (i:=19) (N:=some 16) (aY dx.out aT) ?_
       refine mi (ni dx.out aT) ?_
       have adv:=mg.out
       have adw:=bN.out
       have Yy:=mh.out
       have Yz:=cB.out
       have aeH:=jb.out
       have aeI:=dJ.out
       obtain ⟨zC,zD,DZ,D5,zF,zG,D6,D7⟩:=jA o6.out
       have aeK:=ane.out
       have aeL:=anc.out
       have apY:=ang.out
       have apZ:=anf.out
       obtain ⟨Lh,Li,OH,OI,Lj,Ll,OJ,OL⟩:=jA kK.out
       try go_wp2_with (first|((with_reducible refine pz (b:=.append) (xs:=#[.tmp 45,.tmp 47]) rfl ?_);at_builtin;refine Kd.Cg k31 (w0:=w) w.heap.size rfl (.tmp 45) (.tmp 47) 50 31 (.agg #[(Z ab 0),(Z ab 0),(Z ab 0),(Z ab 0)]) 32 rfl Try.underlying50 aok rfl (by decide) (by omega) u13 gZ (⟨(⟨sj,uF⟩:jK),(⟨xX,BQ⟩:jK)⟩:iA) [Z ab sj,Z ab uF,Z ab xX,Z ab BQ] (fun k_=>k_≠kJ∧k_≠iR) (fun _=>False) rfl fU ?aP (fun _ hk=>hk.elim) ?aF ?aO ?aB ?aS ?aL ?_;(case aP=>exact ahL _ _ _ (⟨(⟨sj,uF⟩:jK),(⟨xX,BQ⟩:jK)⟩:iA));(case aB=>exact gp);(case aF=>exact (fun k_ hk=>⟨Kd.Zc (g:=kJ) (o:=.cells #[Z ab sj,Z ab uF,Z ab xX,Z ab BQ] 31 (0,0)) (by (with_reducible repeat (first|refine au ?_ _|refine ag ?_|refine aa ?_ _));refine aK (cs:=#[Z ab sj,Z ab uF,Z ab xX,Z ab iJ]) ?_ 3 _ rfl;(with_reducible repeat (first|refine au ?_ _|refine ag ?_|refine aa ?_ _));refine aK (cs:=#[Z ab sj,Z ab uF,Z ab iU,Z ab iJ]) ?_ 2 _ rfl;(with_reducible repeat (first|refine au ?_ _|refine ag ?_|refine aa ?_ _));refine aK (cs:=#[Z ab sj,Z ab jy,Z ab iU,Z ab iJ]) ?_ 1 _ rfl;(with_reducible repeat (first|refine au ?_ _|refine ag ?_|refine aa ?_ _));refine aK (cs:=#[Z ab jR,Z ab jy,Z ab iU,Z ab iJ]) ?_ 0 _ rfl;(with_reducible repeat (first|refine au ?_ _|refine ag ?_|refine aa ?_ _));refine aM ?_ dJ.out _;(with_reducible repeat (first|refine au ?_ _|refine ag ?_|refine aa ?_ _));refine aM ?_ dJ.out _;(with_reducible repeat (first|refine au ?_ _|refine ag ?_|refine aa ?_ _));refine aM ?_ dJ.out _;(with_reducible repeat (first|refine au ?_ _|refine ag ?_|refine aa ?_ _));refine aM ?_ dJ.out _;(with_reducible repeat (first|refine au ?_ _|refine ag ?_|refine aa ?_ _));exact kK.out) k_ hk,Kd.Zc (g:=iR) (o:=.cells #[Z ab sj,Z ab uF,Z ab xX,Z ab BQ] 31 (0,0)) (by (with_reducible repeat (first|refine au ?_ _|refine ag ?_|refine aa ?_ _));refine aM ?_ jb.out _;(with_reducible repeat (first|refine au ?_ _|refine ag ?_|refine aa ?_ _));refine aM ?_ jb.out _;(with_reducible repeat (first|refine au ?_ _|refine ag ?_|refine aa ?_ _));refine aM ?_ jb.out _;(with_reducible repeat (first|refine au ?_ _|refine ag ?_|refine aa ?_ _));refine aM ?_ jb.out _;(with_reducible repeat (first|refine au ?_ _|refine ag ?_|refine aa ?_ _));refine aK (cs:=#[Z ab sj,Z ab uF,Z ab xX,Z ab 0]) ?_ 3 _ rfl;(with_reducible repeat (first|refine au ?_ _|refine ag ?_|refine aa ?_ _));refine aK (cs:=#[Z ab sj,Z ab uF,Z ab 0,Z ab 0]) ?_ 2 _ rfl;(with_reducible repeat (first|refine au ?_ _|refine ag ?_|refine aa ?_ _));refine aK (cs:=#[Z ab sj,Z ab 0,Z ab 0,Z ab 0]) ?_ 1 _ rfl;(with_reducible repeat (first|refine au ?_ _|refine ag ?_|refine aa ?_ _));refine aK (cs:=#[Z ab 0,Z ab 0,Z ab 0,Z ab 0]) ?_ 0 _ rfl;(with_reducible repeat (first|refine au ?_ _|refine ag ?_|refine aa ?_ _));exact o6.out) k_ hk⟩));(case aO=>exact (by (with_reducible repeat (first|apply Kd.ky|apply Kd.jY|apply Kd.jP));exact Kd.jX (Kd.fu (p:=⟨kJ,3,none⟩) (Kd.fu (p:=⟨kJ,2,none⟩) (Kd.fu (p:=⟨kJ,1,none⟩) (Kd.fu (p:=⟨kJ,0,none⟩) (Kd.fu (p:=⟨iR,3,none⟩) (Kd.fu (p:=⟨iR,2,none⟩) (Kd.fu (p:=⟨iR,1,none⟩) (Kd.fu (p:=⟨iR,0,none⟩) (Kd.jX (Kd.jX oW.out (fun k_ hk=>(⟨hk,hk.2⟩:_∧k_≠iR))) (fun k_ hk=>(⟨hk,hk.1.1⟩:_∧k_≠kJ))) (fun _ hk=>hk.1.2) (Z ab sj)) (fun _ hk=>hk.1.2) (Z ab uF)) (fun _ hk=>hk.1.2) (Z ab xX)) (fun _ hk=>hk.1.2) (Z ab BQ)) (fun _ hk=>hk.2) (Z ab sj)) (fun _ hk=>hk.2) (Z ab uF)) (fun _ hk=>hk.2) (Z ab xX)) (fun _ hk=>hk.2) (Z ab BQ)) (fun _ hk=>⟨hk.1.1.1,hk.1.1.2⟩)));(case aS=>exact (fM gp));(case aL=>have:=apX.out;omega);intro a5U w29 ho hb hg hat;rw [← aHY.out] at ho;have vv:=af.mk (iF (g:=iN) (o:=.cells #[Z ab ai,Z ab aj,Z ab az,Z ab aA,Z ab aI,Z ab aD,Z ab aJ,.slice dY aX.length dS,.slice dV aG.length dU] 25 (0,0)) iK hg (Kd.af6 oW.out dK.out (by decide)));have vw:=af.mk (iF (g:=jN) (o:=.cells #[Z ab aQ,Z ab aN,Z ab bC,Z ab bD,Z ab bU,Z ab bV,Z ab bW] 29 (0,0)) iK hg (Kd.af6 oW.out eF.out (by decide)));have vz:=af.mk (iF (g:=kJ) (o:=.cells #[Z ab sj,Z ab uF,Z ab xX,Z ab BQ] 31 (0,0)) (by (with_reducible repeat (first|refine au ?_ _|refine ag ?_|refine aa ?_ _));refine aK (cs:=#[Z ab sj,Z ab uF,Z ab xX,Z ab iJ]) ?_ 3 _ rfl;(with_reducible repeat (first|refine au ?_ _|refine ag ?_|refine aa ?_ _));refine aK (cs:=#[Z ab sj,Z ab uF,Z ab iU,Z ab iJ]) ?_ 2 _ rfl;(with_reducible repeat (first|refine au ?_ _|refine ag ?_|refine aa ?_ _));refine aK (cs:=#[Z ab sj,Z ab jy,Z ab iU,Z ab iJ]) ?_ 1 _ rfl;(with_reducible repeat (first|refine au ?_ _|refine ag ?_|refine aa ?_ _));refine aK (cs:=#[Z ab jR,Z ab jy,Z ab iU,Z ab iJ]) ?_ 0 _ rfl;(with_reducible repeat (first|refine au ?_ _|refine ag ?_|refine aa ?_ _));refine aM ?_ dJ.out _;(with_reducible repeat (first|refine au ?_ _|refine ag ?_|refine aa ?_ _));refine aM ?_ dJ.out _;(with_reducible repeat (first|refine au ?_ _|refine ag ?_|refine aa ?_ _));refine aM ?_ dJ.out _;(with_reducible repeat (first|refine au ?_ _|refine ag ?_|refine aa ?_ _));refine aM ?_ dJ.out _;(with_reducible repeat (first|refine au ?_ _|refine ag ?_|refine aa ?_ _));exact kK.out) hg (Kd.Za oW.out (fun _ hk=>hk.1)));have vB:=af.mk (iF (g:=iR) (o:=.cells #[Z ab sj,Z ab uF,Z ab xX,Z ab BQ] 31 (0,0)) (by (with_reducible repeat (first|refine au ?_ _|refine ag ?_|refine aa ?_ _));refine aM ?_ jb.out _;(with_reducible repeat (first|refine au ?_ _|refine ag ?_|refine aa ?_ _));refine aM ?_ jb.out _;(with_reducible repeat (first|refine au ?_ _|refine ag ?_|refine aa ?_ _));refine aM ?_ jb.out _;(with_reducible repeat (first|refine au ?_ _|refine ag ?_|refine aa ?_ _));refine aM ?_ jb.out _;(with_reducible repeat (first|refine au ?_ _|refine ag ?_|refine aa ?_ _));refine aK (cs:=#[Z ab sj,Z ab uF,Z ab xX,Z ab 0]) ?_ 3 _ rfl;(with_reducible repeat (first|refine au ?_ _|refine ag ?_|refine aa ?_ _));refine aK (cs:=#[Z ab sj,Z ab uF,Z ab 0,Z ab 0]) ?_ 2 _ rfl;(with_reducible repeat (first|refine au ?_ _|refine ag ?_|refine aa ?_ _));refine aK (cs:=#[Z ab sj,Z ab 0,Z ab 0,Z ab 0]) ?_ 1 _ rfl;(with_reducible repeat (first|refine au ?_ _|refine ag ?_|refine aa ?_ _));refine aK (cs:=#[Z ab 0,Z ab 0,Z ab 0,Z ab 0]) ?_ 0 _ rfl;(with_reducible repeat (first|refine au ?_ _|refine ag ?_|refine aa ?_ _));exact o6.out) hg (Kd.Za oW.out (fun _ hk=>hk.2)));have xU:=af.mk (hb);have Jo:=af.mk (ho);clear dK;clear eF;clear kK;clear o6;clear HB;clear oW;have dK:=vv;have eF:=vw;have kK:=vz;have o6:=vB;have HB:=xU;have aH0:=Jo;clear vv vw vz vB xU Jo;clear ho hb hg hat))
       go_roundg k1
       case measure=>have:=Cj.out;omega
       case rel=>exact ⟨(aHX),(an (dZ+1)),(sj),(uF),(xX),(BQ),om,H',⟨zq7⟩,⟨by (with_reducible repeat (first|apply Kd.ky|apply Kd.jY|apply Kd.jP));exact Kd.jX aH0.out (fun _ hk=>hk.1)⟩,⟨iK⟩,⟨iK⟩,⟨iK⟩,⟨gp⟩⟩
      ·rw [if_neg c13] at H
       exact absurd H (by simp)
     ·rw [if_neg c12] at H
      have Yu:(JP == 0) = false:=beq_eq_false_iff_ne.mpr c12
      have aHW:(JP != 0) = true:=bne_iff_ne.mpr c12
      simp only [Option.some.injEq,Prod.mk.injEq] at H
      obtain ⟨rfl,rfl,rfl⟩:=H
      try go_wp2
      replace oW:=af.mk (Kd.jP oW.out)
      replace dK:=af.mk (ag dK.out)
      replace eF:=af.mk (ag eF.out)
      replace kK:=af.mk (ag kK.out)
      replace HB:=af.mk (bF HB.out)
      have ahb:0≤(dZ:Int):=of_decide_eq_true nM
      have ahc:dZ < (l4.length:Int):=of_decide_eq_true nM
      obtain ⟨xG,aDw,xH,xI⟩:=lN HR4.out dZ ahb ahc
      have uO:=xI
      have uN:=xH
      cases aDw
      replace xH:=(HB.out.cell (bd w _ xH)).trans xH
      replace xI:=(HB.out.cell (bd w _ xI)).trans xI
      replace ahb:=eq_true ahb
      replace ahc:=eq_true ahc
      refine jV (n:=20) (S:=fun w'=>w'.cell? ⟨iN,0,none⟩ = some (Z ab ai)∧w'.cell? ⟨iN,1,none⟩ = some (Z ab aj)∧w'.cell? ⟨iN,2,none⟩ = some (Z ab az)∧w'.cell? ⟨iN,3,none⟩ = some (Z ab aA)∧w'.cell? ⟨iN,4,none⟩ = some (Z ab aI)∧w'.cell? ⟨iN,5,none⟩ = some (Z ab aD)∧w'.cell? ⟨iN,6,none⟩ = some (Z ab aJ)∧w'.cell? ⟨iN,7,none⟩ = some (.slice dY aX.length dS)∧w'.cell? ⟨iN,8,none⟩ = some (.slice dV aG.length dU)∧w'.cell? ⟨jN,0,none⟩ = some (Z ab aQ)∧w'.cell? ⟨jN,1,none⟩ = some (Z ab aN)∧w'.cell? ⟨jN,2,none⟩ = some (Z ab bC)∧w'.cell? ⟨jN,3,none⟩ = some (Z ab bD)∧w'.cell? ⟨jN,4,none⟩ = some (Z ab bU)∧w'.cell? ⟨jN,5,none⟩ = some (Z ab bV)∧w'.cell? ⟨jN,6,none⟩ = some (Z ab bW)∧w'.cell? ⟨kJ,0,none⟩ = some (Z ab jR)∧w'.cell? ⟨kJ,1,none⟩ = some (Z ab jy)∧w'.cell? ⟨kJ,2,none⟩ = some (Z ab iU)∧w'.cell? ⟨kJ,3,none⟩ = some (Z ab iJ)∧w'.cell? (xG.add ((dZ).toNat*2)) = some (Z ab ((bX l4 dZ).f0))∧w'.cell? ⟨(xG.add ((dZ).toNat*2)).block,(xG.add ((dZ).toNat*2)).off+1,none⟩ = some (Z ab ((bX l4 dZ).f1))) (ds:=[]) #[al,al,al,al,al,al,al,al,al,al,al,al,al,al,al,al,al,al,al,al] aT rfl rfl ⟨bH dK 0,bH dK 1,bH dK 2,bH dK 3,bH dK 4,bH dK 5,bH dK 6,bH dK 7,bH dK 8,bH eF 0,bH eF 1,bH eF 2,bH eF 3,bH eF 4,bH eF 5,bH eF 6,Jk kK.out ⟨(nI HB uN),(nI HB uO)⟩⟩ (fun hHeld=>?_);refine jQ dw.abz dw.OY (fun dx mD=>?_)
      generalize wr.drew = w30 at oW dK eF kK HB xH xI hHeld ⊢
      refine dR (i:=3) (N:=some 27) (aY dx.out aT) ?_
      refine dR (i:=4) (N:=some 28) (aY dx.out aT) ?_
      refine dR (i:=5) (N:=some 29) (aY dx.out aT) ?_
      refine dR (i:=9) (N:=some 33) (aY dx.out aT) ?_
      refine dR (i:=10) (N:=some 34) (aY dx.out aT) ?_
      refine dR (i:=11) (N:=some 35) (aY dx.out aT) ?_
      refine iT (i:=0) (N:=some 24) (bL dx.out mD.out aT) hHeld ?_
      refine iT (i:=1) (N:=some 25) (bL dx.out mD.out aT) hHeld ?_
      refine iT (i:=2) (N:=some 26) (bL dx.out mD.out aT) hHeld ?_
      refine iT (i:=6) (N:=some 30) (bL dx.out mD.out aT) hHeld ?_
      refine dR (i:=7) (N:=some 31) (aY dx.out aT) ?_
      refine dR (i:=8) (N:=some 32) (aY dx.out aT) ?_
      refine iT (i:=12) (N:=some 36) (bL dx.out mD.out aT) hHeld ?_
      refine Ro (σ:=Nat) 2 #[ac,ac,ac,ac,ac,ac,ac,ac,ac,ac,ac,ac,ac,ac,ac,ac,ac,ac,al,al] (fun s_=>[(37,.tuple #[.agg #[Z ab sj,Z ab uF,Z ab xX,Z ab BQ],Z ab JP]),(15,.pointer (some ⟨s_,0,none⟩)),(23,.tuple #[.agg #[Z ab sj,Z ab uF,Z ab xX,Z ab BQ],Z ab JP]),(38,.agg #[Z ab sj,Z ab uF,Z ab xX,Z ab BQ]),(39,Z ab JP)]) (fun s_ w'=>(w'.cell? ⟨iN,0,none⟩ = some (Z ab ai)∧w'.cell? ⟨iN,1,none⟩ = some (Z ab aj)∧w'.cell? ⟨iN,2,none⟩ = some (Z ab az)∧w'.cell? ⟨iN,3,none⟩ = some (Z ab aA)∧w'.cell? ⟨iN,4,none⟩ = some (Z ab aI)∧w'.cell? ⟨iN,5,none⟩ = some (Z ab aD)∧w'.cell? ⟨iN,6,none⟩ = some (Z ab aJ)∧w'.cell? ⟨iN,7,none⟩ = some (.slice dY aX.length dS)∧w'.cell? ⟨iN,8,none⟩ = some (.slice dV aG.length dU)∧w'.cell? ⟨jN,0,none⟩ = some (Z ab aQ)∧w'.cell? ⟨jN,1,none⟩ = some (Z ab aN)∧w'.cell? ⟨jN,2,none⟩ = some (Z ab bC)∧w'.cell? ⟨jN,3,none⟩ = some (Z ab bD)∧w'.cell? ⟨jN,4,none⟩ = some (Z ab bU)∧w'.cell? ⟨jN,5,none⟩ = some (Z ab bV)∧w'.cell? ⟨jN,6,none⟩ = some (Z ab bW)∧w'.cell? ⟨kJ,0,none⟩ = some (Z ab jR)∧w'.cell? ⟨kJ,1,none⟩ = some (Z ab jy)∧w'.cell? ⟨kJ,2,none⟩ = some (Z ab iU)∧w'.cell? ⟨kJ,3,none⟩ = some (Z ab iJ)∧w'.cell? (xG.add ((dZ).toNat*2)) = some (Z ab ((bX l4 dZ).f0))∧w'.cell? ⟨(xG.add ((dZ).toNat*2)).block,(xG.add ((dZ).toNat*2)).off+1,none⟩ = some (Z ab ((bX l4 dZ).f1)))∧(Kd.R k31 31 w' w.heap.size (fun k_=>k_≠kJ∧k_≠s_) u13 gZ)∧(w'.heap[iN]? = some (.cells #[Z ab ai,Z ab aj,Z ab az,Z ab aA,Z ab aI,Z ab aD,Z ab aJ,.slice dY aX.length dS,.slice dV aG.length dU] 25 (0,0)))∧(w'.heap[jN]? = some (.cells #[Z ab aQ,Z ab aN,Z ab bC,Z ab bD,Z ab bU,Z ab bV,Z ab bW] 29 (0,0)))∧(w'.heap[kJ]? = some (.cells #[Z ab jR,Z ab jy,Z ab iU,Z ab iJ] 31 (0,0)))∧(w'.heap[s_]? = some (.cells #[Z ab 0,Z ab 0,Z ab 0,Z ab 0] 31 (0,0)))∧(w.heap.size≤s_)∧(w.heap.size≤s_)∧(iN≠s_)∧(s_≠iN)∧(jN≠s_)∧(s_≠jN)∧(kJ≠s_)∧(s_≠kJ)∧(Below w.heap.size w w')) ?_ ?_
      rotate_left
      ·intro qW
       refine Xy (i:=13) (j:=17) (Ni:=some 37) (Nj:=some 15) #[ac,ac,ac,ac,ac,ac,ac,ac,ac,ac,ac,ac,ac,ac,al,al,al,al,al,al] #[ac,ac,ac,ac,ac,ac,ac,ac,ac,ac,ac,ac,ac,al,al,al,al,ac,al,al] rfl rfl rfl rfl (Jt dx.out aT) (by decide) (by decide) (fun K hK=>?_) (fun K hK=>?_)
       ·skip
        refine gY Try.func82 aT rfl #[.agg #[Z ab ai,Z ab aj,Z ab az,Z ab aA,Z ab aI,Z ab aD,Z ab aJ,.slice dY aX.length dS,.slice dV aG.length dU],.agg #[Z ab aQ,Z ab aN,Z ab bC,Z ab bD,Z ab bU,Z ab bV,Z ab bW],.agg #[Z ab jR,Z ab jy,Z ab iU,Z ab iJ],Z ab (an (a3+(an (dZ*aN)))),.agg #[Z ab ((bX l4 dZ).f0),Z ab ((bX l4 dZ).f1)]] (by rfl) rfl rfl jB ?_
        with_reducible refine (kW.calls k1 ai aj az aA aI aD aJ _ _ aX _ _ aG aQ aN bC bD bU bV bW jR jy iU iJ (an (a3+(an (dZ*aN)))) ((bX l4 dZ).f0) ((bX l4 dZ).f1) sj uF xX BQ JP _ ?dG ?dH ?eP ?eQ A11.out).mono ?_
        (case dG=>repeat (first|exact (Kd.bz iI.out HB.out)|(with_reducible refine Kd.bJ ?_ _)|(with_reducible refine Kd.bK ?_ _)|(with_reducible refine Kd.bZ ?_)))
        (case dH=>exact iO.out)
        (case eP=>repeat (first|exact (Kd.bz iB.out HB.out)|(with_reducible refine Kd.bJ ?_ _)|(with_reducible refine Kd.bK ?_ _)|(with_reducible refine Kd.bZ ?_)))
        (case eQ=>exact iP.out)
        rintro e w31 ⟨rfl,hb⟩
        refine ⟨_,rfl,?_⟩
        replace oW:=wh oW hb
        replace dK:=bn dK hb
        replace eF:=bn eF hb
        replace kK:=bn kK hb
        replace HB:=dz HB hb
        (try clear hb)
        (try clear hb2)
        (try clear hk)
        (try clear hi)
        refine hK.out _ _ ⟨bH dK 0,bH dK 1,bH dK 2,bH dK 3,bH dK 4,bH dK 5,bH dK 6,bH dK 7,bH dK 8,bH eF 0,bH eF 1,bH eF 2,bH eF 3,bH eF 4,bH eF 5,bH eF 6,Jk kK.out ⟨(nI HB uN),(nI HB uO)⟩⟩ (fun hHeld=>?_)
        clear hK K
        refine dQ asG ?_
        refine dR (i:=14) (N:=some 23) (aY dx.out aT) ?_
        refine dR (i:=15) (N:=some 38) (aY dx.out aT) ?_
        refine dR (i:=16) (N:=some 39) (aY dx.out aT) ?_
        refine iW (i:=17) (N:=some 15) #[ac,ac,ac,ac,ac,ac,ac,ac,ac,ac,ac,ac,ac,ac,ac,ac,ac,ac,al,al] rfl rfl (gJ dx.out aT) (by decide) (fun K hK=>?_)
        refine pq ?hg (N:=15) ?hd (cs:=#[Z ab 0,Z ab 0,Z ab 0,Z ab 0]) (t:=31) ?hr ?_;(case hd=>rfl);(case hg=>rfl);(case hr=>first|(go_simp;done)|(go_simp;rfl))
        intro iR hg w32 ay hb
        have o6:=af.mk (ay)
        have Ab:=bY HB hg
        have OZ:=bY HB hg
        have bN:=fG dK hg
        have mg:=fH dK hg
        have cB:=fG eF hg
        have mh:=fH eF hg
        have dJ:=fG kK hg
        have jb:=fH kK hg
        replace oW:=af.mk (Kd.lZ (Kd.sw ac3 iR (Nat.le_of_eq hg.symm)) hb)
        replace dK:=bn dK hb
        replace eF:=bn eF hb
        replace kK:=bn kK hb
        replace HB:=dz HB hb
        clear hb ay hg
        refine hK.out _ _ ⟨bH dK 0,bH dK 1,bH dK 2,bH dK 3,bH dK 4,bH dK 5,bH dK 6,bH dK 7,bH dK 8,bH eF 0,bH eF 1,bH eF 2,bH eF 3,bH eF 4,bH eF 5,bH eF 6,Jk kK.out ⟨(nI HB uN),(nI HB uO)⟩⟩ (fun hHeld=>?_)
        clear hK K
        refine dQ asH ?_
        exact dQ Nk (qW (iR) _ ⟨hHeld,ac3,iK,iK,iK,iK,Ab.out,OZ.out,bN.out,mg.out,cB.out,mh.out,dJ.out,jb.out,gp⟩)
       ·skip
        refine pq ?hg (N:=15) ?hd (cs:=#[Z ab 0,Z ab 0,Z ab 0,Z ab 0]) (t:=31) ?hr ?_;(case hd=>rfl);(case hg=>rfl);(case hr=>first|(go_simp;done)|(go_simp;rfl))
        intro iR hg w31 ay hb
        have o6:=af.mk (ay)
        have Ab:=bY HB hg
        have OZ:=bY HB hg
        have bN:=fG dK hg
        have mg:=fH dK hg
        have cB:=fG eF hg
        have mh:=fH eF hg
        have dJ:=fG kK hg
        have jb:=fH kK hg
        replace oW:=af.mk (Kd.lZ (Kd.sw ac3 iR (Nat.le_of_eq hg.symm)) hb)
        replace dK:=bn dK hb
        replace eF:=bn eF hb
        replace kK:=bn kK hb
        replace HB:=dz HB hb
        clear hb ay hg
        refine hK.out _ _ ⟨bH dK 0,bH dK 1,bH dK 2,bH dK 3,bH dK 4,bH dK 5,bH dK 6,bH dK 7,bH dK 8,bH eF 0,bH eF 1,bH eF 2,bH eF 3,bH eF 4,bH eF 5,bH eF 6,Jk kK.out ⟨(nI HB uN),(nI HB uO)⟩⟩ (fun hHeld=>?_)
        clear hK K
        refine dQ asH ?_
        refine iW (i:=13) (N:=some 37) #[ac,ac,ac,ac,ac,ac,ac,ac,ac,ac,ac,ac,ac,ac,al,al,al,ac,al,al] rfl rfl (gJ dx.out aT) (by decide) (fun K hK=>?_)
        refine gY Try.func82 aT rfl #[.agg #[Z ab ai,Z ab aj,Z ab az,Z ab aA,Z ab aI,Z ab aD,Z ab aJ,.slice dY aX.length dS,.slice dV aG.length dU],.agg #[Z ab aQ,Z ab aN,Z ab bC,Z ab bD,Z ab bU,Z ab bV,Z ab bW],.agg #[Z ab jR,Z ab jy,Z ab iU,Z ab iJ],Z ab (an (a3+(an (dZ*aN)))),.agg #[Z ab ((bX l4 dZ).f0),Z ab ((bX l4 dZ).f1)]] (by rfl) rfl rfl jB ?_
        with_reducible refine (kW.calls k1 ai aj az aA aI aD aJ _ _ aX _ _ aG aQ aN bC bD bU bV bW jR jy iU iJ (an (a3+(an (dZ*aN)))) ((bX l4 dZ).f0) ((bX l4 dZ).f1) sj uF xX BQ JP _ ?dG ?dH ?eP ?eQ A11.out).mono ?_
        (case dG=>repeat (first|exact (Kd.bz iI.out HB.out)|(with_reducible refine Kd.bJ ?_ _)|(with_reducible refine Kd.bK ?_ _)|(with_reducible refine Kd.bZ ?_)))
        (case dH=>exact iO.out)
        (case eP=>repeat (first|exact (Kd.bz iB.out HB.out)|(with_reducible refine Kd.bJ ?_ _)|(with_reducible refine Kd.bK ?_ _)|(with_reducible refine Kd.bZ ?_)))
        (case eQ=>exact iP.out)
        rintro e w32 ⟨rfl,hb⟩
        refine ⟨_,rfl,?_⟩
        replace oW:=wh oW hb
        replace dK:=bn dK hb
        replace eF:=bn eF hb
        replace kK:=bn kK hb
        replace o6:=bn o6 hb
        replace HB:=dz HB hb
        (try clear hb)
        (try clear hb2)
        (try clear hk)
        (try clear hi)
        refine hK.out _ _ ⟨bH dK 0,bH dK 1,bH dK 2,bH dK 3,bH dK 4,bH dK 5,bH dK 6,bH dK 7,bH dK 8,bH eF 0,bH eF 1,bH eF 2,bH eF 3,bH eF 4,bH eF 5,bH eF 6,Jk kK.out ⟨(nI HB uN),(nI HB uO)⟩⟩ (fun hHeld=>?_)
        clear hK K
        refine dQ asG ?_
        refine dR (i:=14) (N:=some 23) (aY dx.out aT) ?_
        refine dR (i:=15) (N:=some 38) (aY dx.out aT) ?_
        refine dR (i:=16) (N:=some 39) (aY dx.out aT) ?_
        exact dQ Nk (qW (iR) _ ⟨hHeld,ac3,iK,iK,iK,iK,Ab.out,OZ.out,bN.out,mg.out,cB.out,mh.out,dJ.out,jb.out,gp⟩)
      rintro iR Jd ⟨hS_,h0_,h1_,h2_,h3_,h4_,h5_,h6_,h7_,h8_,h9_,JI,V7,aez,aeA⟩
      have vv:af (Kd.R k31 31 Jd w.heap.size (fun k_=>k_≠kJ∧k_≠iR) u13 gZ):=⟨h0_⟩
      have vw:af (Jd.heap[iN]? = some (.cells #[Z ab ai,Z ab aj,Z ab az,Z ab aA,Z ab aI,Z ab aD,Z ab aJ,.slice dY aX.length dS,.slice dV aG.length dU] 25 (0,0))):=⟨h1_⟩
      have vz:af (Jd.heap[jN]? = some (.cells #[Z ab aQ,Z ab aN,Z ab bC,Z ab bD,Z ab bU,Z ab bV,Z ab bW] 29 (0,0))):=⟨h2_⟩
      have vB:af (Jd.heap[kJ]? = some (.cells #[Z ab jR,Z ab jy,Z ab iU,Z ab iJ] 31 (0,0))):=⟨h3_⟩
      have xU:af (Jd.heap[iR]? = some (.cells #[Z ab 0,Z ab 0,Z ab 0,Z ab 0] 31 (0,0))):=⟨h4_⟩
      have Jo:af (w.heap.size≤iR):=⟨h5_⟩
      have SQ:af (w.heap.size≤iR):=⟨h6_⟩
      have Yt:af (iN≠iR):=⟨h7_⟩
      have n8_:af (iR≠iN):=⟨h8_⟩
      have n9_:af (jN≠iR):=⟨h9_⟩
      have JJ:af (iR≠jN):=⟨JI⟩
      have V8:af (kJ≠iR):=⟨V7⟩
      have aeB:af (iR≠kJ):=⟨aez⟩
      have aeC:af (Below w.heap.size w Jd):=⟨aeA⟩
      clear oW dK eF kK HB
      clear h0_ h1_ h2_ h3_ h4_ h5_ h6_ h7_ h8_ h9_ JI V7 aez aeA
      have oW:=vv
      have dK:=vw
      have eF:=vz
      have kK:=vB
      have o6:=xU
      have Ab:=Jo
      have OZ:=SQ
      have bN:=Yt
      have mg:=n8_
      have cB:=n9_
      have mh:=JJ
      have dJ:=V8
      have jb:=aeB
      have HB:=aeC
      clear vv vw vz vB xU Jo SQ Yt n8_ n9_ JJ V8 aeB aeC
      have hHeld:Jd.cell? ⟨iN,0,none⟩ = some (Z ab ai)∧Jd.cell? ⟨iN,1,none⟩ = some (Z ab aj)∧Jd.cell? ⟨iN,2,none⟩ = some (Z ab az)∧Jd.cell? ⟨iN,3,none⟩ = some (Z ab aA)∧Jd.cell? ⟨iN,4,none⟩ = some (Z ab aI)∧Jd.cell? ⟨iN,5,none⟩ = some (Z ab aD)∧Jd.cell? ⟨iN,6,none⟩ = some (Z ab aJ)∧Jd.cell? ⟨iN,7,none⟩ = some (.slice dY aX.length dS)∧Jd.cell? ⟨iN,8,none⟩ = some (.slice dV aG.length dU)∧Jd.cell? ⟨jN,0,none⟩ = some (Z ab aQ)∧Jd.cell? ⟨jN,1,none⟩ = some (Z ab aN)∧Jd.cell? ⟨jN,2,none⟩ = some (Z ab bC)∧Jd.cell? ⟨jN,3,none⟩ = some (Z ab bD)∧Jd.cell? ⟨jN,4,none⟩ = some (Z ab bU)∧Jd.cell? ⟨jN,5,none⟩ = some (Z ab bV)∧Jd.cell? ⟨jN,6,none⟩ = some (Z ab bW)∧Jd.cell? ⟨kJ,0,none⟩ = some (Z ab jR)∧Jd.cell? ⟨kJ,1,none⟩ = some (Z ab jy)∧Jd.cell? ⟨kJ,2,none⟩ = some (Z ab iU)∧Jd.cell? ⟨kJ,3,none⟩ = some (Z ab iJ)∧Jd.cell? (xG.add ((dZ).toNat*2)) = some (Z ab ((bX l4 dZ).f0))∧Jd.cell? ⟨(xG.add ((dZ).toNat*2)).block,(xG.add ((dZ).toNat*2)).off+1,none⟩ = some (Z ab ((bX l4 dZ).f1)):=hS_
      refine dQ (a':=?_) ?_ ?_
      rotate_left
      ·simp only [wy,Act.put,ap,aq,ar]
       rfl
      refine iW (i:=18) (N:=none) #[ac,ac,ac,ac,ac,ac,ac,ac,ac,ac,ac,ac,ac,ac,ac,ac,ac,ac,ac,al] rfl rfl (gJ dx.out aT) (by decide) (fun K hK=>?_)
      have a5V:Jd.cell? ⟨iR,0,none⟩ = some (Z ab 0):=(ae o6.out 0).trans rfl
      have a2e:=bg o6.out 0
      have aR2:=bN.out
      have aR3:=cB.out
      have aR4:=dJ.out
      have aR5:=mg.out
      have aR6:=mh.out
      have aR7:=jb.out
      have aXw:Jd.cell? ⟨iR,1,none⟩ = some (Z ab 0):=(ae o6.out 1).trans rfl
      have aHI:=bg o6.out 1
      have awq:=bN.out
      have awr:=cB.out
      have aws:=dJ.out
      have awt:=mg.out
      have awu:=mh.out
      have awv:=jb.out
      have aXx:Jd.cell? ⟨iR,2,none⟩ = some (Z ab 0):=(ae o6.out 2).trans rfl
      have aHJ:=bg o6.out 2
      have aww:=bN.out
      have awx:=cB.out
      have awy:=dJ.out
      have awz:=mg.out
      have awC:=mh.out
      have awD:=jb.out
      have aXy:Jd.cell? ⟨iR,3,none⟩ = some (Z ab 0):=(ae o6.out 3).trans rfl
      have aHK:=bg o6.out 3
      have awE:=bN.out
      have awF:=cB.out
      have awG:=dJ.out
      have awH:=mg.out
      have awI:=mh.out
      have awJ:=jb.out
      refine vF (w1:=?_) (by rfl) rfl ?_ ?_
      rotate_left
      ·go_simp
       rfl
      refine hK.out _ _ ⟨(dI bN ((dI bN ((dI bN ((dI bN (hHeld.1)))))))),(dI bN ((dI bN ((dI bN ((dI bN (hHeld.2.1)))))))),(dI bN ((dI bN ((dI bN ((dI bN (hHeld.2.2.1)))))))),(dI bN ((dI bN ((dI bN ((dI bN (hHeld.2.2.2.1)))))))),(dI bN ((dI bN ((dI bN ((dI bN (hHeld.2.2.2.2.1)))))))),(dI bN ((dI bN ((dI bN ((dI bN (hHeld.2.2.2.2.2.1)))))))),(dI bN ((dI bN ((dI bN ((dI bN (hHeld.2.2.2.2.2.2.1)))))))),(dI bN ((dI bN ((dI bN ((dI bN (hHeld.2.2.2.2.2.2.2.1)))))))),(dI bN ((dI bN ((dI bN ((dI bN (hHeld.2.2.2.2.2.2.2.2.1)))))))),(dI cB ((dI cB ((dI cB ((dI cB (hHeld.2.2.2.2.2.2.2.2.2.1)))))))),(dI cB ((dI cB ((dI cB ((dI cB (hHeld.2.2.2.2.2.2.2.2.2.2.1)))))))),(dI cB ((dI cB ((dI cB ((dI cB (hHeld.2.2.2.2.2.2.2.2.2.2.2.1)))))))),(dI cB ((dI cB ((dI cB ((dI cB (hHeld.2.2.2.2.2.2.2.2.2.2.2.2.1)))))))),(dI cB ((dI cB ((dI cB ((dI cB (hHeld.2.2.2.2.2.2.2.2.2.2.2.2.2.1)))))))),(dI cB ((dI cB ((dI cB ((dI cB (hHeld.2.2.2.2.2.2.2.2.2.2.2.2.2.2.1)))))))),(dI cB ((dI cB ((dI cB ((dI cB (hHeld.2.2.2.2.2.2.2.2.2.2.2.2.2.2.2.1)))))))),(dI dJ ((dI dJ ((dI dJ ((dI dJ (hHeld.2.2.2.2.2.2.2.2.2.2.2.2.2.2.2.2.1)))))))),(dI dJ ((dI dJ ((dI dJ ((dI dJ (hHeld.2.2.2.2.2.2.2.2.2.2.2.2.2.2.2.2.2.1)))))))),(dI dJ ((dI dJ ((dI dJ ((dI dJ (hHeld.2.2.2.2.2.2.2.2.2.2.2.2.2.2.2.2.2.2.1)))))))),(dI dJ ((dI dJ ((dI dJ ((dI dJ (hHeld.2.2.2.2.2.2.2.2.2.2.2.2.2.2.2.2.2.2.2.1)))))))),((cell_far (p:=⟨iR,_,none⟩) ac4 _).trans (((cell_far (p:=⟨iR,_,none⟩) ac4 _).trans (((cell_far (p:=⟨iR,_,none⟩) ac4 _).trans (((cell_far (p:=⟨iR,_,none⟩) ac4 _).trans (hHeld.2.2.2.2.2.2.2.2.2.2.2.2.2.2.2.2.2.2.2.2.1)))))))),((cell_far (p:=⟨iR,_,none⟩) ac5 _).trans (((cell_far (p:=⟨iR,_,none⟩) ac5 _).trans (((cell_far (p:=⟨iR,_,none⟩) ac5 _).trans (((cell_far (p:=⟨iR,_,none⟩) ac5 _).trans (hHeld.2.2.2.2.2.2.2.2.2.2.2.2.2.2.2.2.2.2.2.2.2))))))))⟩ (fun hHeld=>?_)
      clear hK K
      refine dR (i:=19) (N:=some 16) (aY dx.out aT) ?_
      refine mi (ni dx.out aT) ?_
      try go_wp2
      go_ret3
      exact ⟨_,mJ,aod,gp⟩
    ·rw [if_neg c10] at H
     exact absurd H (by simp)
   ·rw [if_neg c9] at H
    have JM:decide (dZ < (l4.length:Int)) = false:=decide_eq_false c9
    clear c9
    simp only [Option.some.injEq,Prod.mk.injEq] at H
    obtain ⟨rfl,rfl,rfl⟩:=H
    go_wp2
    go_ret3
    exact ⟨_,mJ,by (with_reducible repeat (first|apply Kd.ky|apply Kd.jY|apply Kd.jP));exact Kd.jX oW.out (fun _ hk=>trivial),gp⟩
def il.f (ai:Int) (aj:Int) (az:Int) (aA:Int) (aI:Int) (aD:Int) (aJ:Int) (aQ:Int) (aN:Int):Option (Int × Int):=if aQ = 8 then (some (aI,aD)) else (some (az,aA))
theorem il.calls (ai:Int) (aj:Int) (az:Int) (aA:Int) (aI:Int) (aD:Int) (aJ:Int) (aQ:Int) (aN:Int) (r1:Int) (r2:Int) (w:ao) (h:il.f ai aj az aA aI aD aJ aQ aN = some (r1,r2)):
 Calls Try.prog 39 #[.agg #[Z ab ai,Z ab aj,Z ab az,Z ab aA,Z ab aI,Z ab aD,Z ab aJ],.agg #[Z ab aQ,Z ab aN]] w fun e w'=>e = .returned (.agg #[Z ab r1,Z ab r2])∧Below w.heap.size w w':=by
 have vo:=Try.underlying29
 have E9:=Try.underlying33
 have oO:=Try.underlying27
 have HB:=af.mk (Below.refl w.heap.size w)
 have H:(if aQ = 8 then (some (aI,aD)) else (some (az,aA))) = some (r1,r2):=h
 clear h
 by_cases c3:aQ = 8
 ·rw [if_pos c3] at H
  have yo:(aQ == 8) = true:=beq_iff_eq.mpr c3
  have JD:(aQ != 8) = false:=bne_eq_false_iff_eq.mpr c3
  clear c3
  simp only [Option.some.injEq,Prod.mk.injEq] at H
  obtain ⟨rfl,rfl⟩:=H
  go_enter Try.func39,Try.ntmps39
  go_wp2_with (first|((with_reducible refine av (N:=2) rfl ?_);refine ak (by rfl) (N:=2) (by rfl) (cs:=#[Z ab ai,Z ab aj,Z ab az,Z ab aA,Z ab aI,Z ab aD,Z ab aJ]) (t:=29) fU ?_;intro aH1 hg w4 ay hb;have xJ:=af.mk (ay);have aH2:=bY HB hg;have aH3:=bY HB hg;replace HB:=dz HB hb;clear hb ay hg)|((with_reducible refine av (N:=3) rfl ?_);refine ak (by rfl) (N:=3) (by rfl) (cs:=#[Z ab aQ,Z ab aN]) (t:=33) fU ?_;intro aH4 hg w5 ay hb;have JQ:=af.mk (ay);have aH5:=bY HB hg;have aH6:=bY HB hg;have QI:=fG xJ hg;have QJ:=fH xJ hg;replace xJ:=bn xJ hb;replace HB:=dz HB hb;clear hb ay hg)|((with_reducible refine av (N:=4) rfl ?_);refine ak (by rfl) (N:=4) (by rfl) (cs:=#[Z ab 0,Z ab 0]) (t:=27) fU ?_;intro ap0 hg w6 ay hb;have aeN:=af.mk (ay);have aH7:=bY HB hg;have aH8:=bY HB hg;have QK:=fG xJ hg;have QL:=fH xJ hg;have QM:=fG JQ hg;have QN:=fH JQ hg;replace xJ:=bn xJ hb;replace JQ:=bn JQ hb;replace HB:=dz HB hb;clear hb ay hg;have aXA:=QJ.out;have aXB:=QI.out;have adp:=QM.out;have adq:=QN.out;obtain ⟨yB,yC,yD,yE⟩:=iQ JQ.out;have adD:=QK.out;have adE:=QL.out;obtain ⟨uf,ug,wV,wW,BI,BJ,Hy,uh,ui,wX,wY,BK,BL,Hz⟩:=kz xJ.out;obtain ⟨qa,qb,qc,qd⟩:=iQ aeN.out))
  refine bodyPost_ret (results_cell_row rfl _ _ ap0 27 #[Z ab aI,Z ab aD] (0,0) _ rfl (by (with_reducible repeat (first|refine au ?_ _|refine ag ?_|refine aa ?_ _));refine aK (cs:=#[Z ab aI,Z ab 0]) ?_ 1 _ rfl;(with_reducible repeat (first|refine au ?_ _|refine ag ?_|refine aa ?_ _));refine aK (cs:=#[Z ab 0,Z ab 0]) ?_ 0 _ rfl;(with_reducible repeat (first|refine au ?_ _|refine ag ?_|refine aa ?_ _));exact aeN.out) Try.underlying27 rfl aT) rfl ?_
  exact ⟨mJ,gp⟩
 ·rw [if_neg c3] at H
  have yo:(aQ == 8) = false:=beq_eq_false_iff_ne.mpr c3
  have JD:(aQ != 8) = true:=bne_iff_ne.mpr c3
  simp only [Option.some.injEq,Prod.mk.injEq] at H
  obtain ⟨rfl,rfl⟩:=H
  go_enter Try.func39,Try.ntmps39
  go_wp2_with (first|((with_reducible refine av (N:=2) rfl ?_);refine ak (by rfl) (N:=2) (by rfl) (cs:=#[Z ab ai,Z ab aj,Z ab az,Z ab aA,Z ab aI,Z ab aD,Z ab aJ]) (t:=29) fU ?_;intro aH1 hg GK ay hb;have xJ:=af.mk (ay);have aH2:=bY HB hg;have aH3:=bY HB hg;replace HB:=dz HB hb;clear hb ay hg)|((with_reducible refine av (N:=3) rfl ?_);refine ak (by rfl) (N:=3) (by rfl) (cs:=#[Z ab aQ,Z ab aN]) (t:=33) fU ?_;intro aH4 hg w14 ay hb;have JQ:=af.mk (ay);have aH5:=bY HB hg;have aH6:=bY HB hg;have QI:=fG xJ hg;have QJ:=fH xJ hg;replace xJ:=bn xJ hb;replace HB:=dz HB hb;clear hb ay hg)|((with_reducible refine av (N:=4) rfl ?_);refine ak (by rfl) (N:=4) (by rfl) (cs:=#[Z ab 0,Z ab 0]) (t:=27) fU ?_;intro ap0 hg w15 ay hb;have aeN:=af.mk (ay);have aH7:=bY HB hg;have aH8:=bY HB hg;have QK:=fG xJ hg;have QL:=fH xJ hg;have QM:=fG JQ hg;have QN:=fH JQ hg;replace xJ:=bn xJ hb;replace JQ:=bn JQ hb;replace HB:=dz HB hb;clear hb ay hg;have OD:=QJ.out;have OE:=QI.out;have RH:=QM.out;have RI:=QN.out;obtain ⟨Ep,Er,Es,Et⟩:=iQ JQ.out;have Ru:=QK.out;have Rv:=QL.out;obtain ⟨uY,uZ,zQ,zR,BM,BN,Im,u6,ve,zS,zT,BO,BP,Io⟩:=kz xJ.out;obtain ⟨tO,tQ,tT,tV⟩:=iQ aeN.out))
  refine bodyPost_ret (results_cell_row rfl _ _ ap0 27 #[Z ab az,Z ab aA] (0,0) _ rfl (by (with_reducible repeat (first|refine au ?_ _|refine ag ?_|refine aa ?_ _));refine aK (cs:=#[Z ab az,Z ab 0]) ?_ 1 _ rfl;(with_reducible repeat (first|refine au ?_ _|refine ag ?_|refine aa ?_ _));refine aK (cs:=#[Z ab 0,Z ab 0]) ?_ 0 _ rfl;(with_reducible repeat (first|refine au ?_ _|refine ag ?_|refine aa ?_ _));exact aeN.out) Try.underlying27 rfl aT) rfl ?_
  exact ⟨mJ,gp⟩
def bR.l0:Nat→List (gU)→List (jK)→Int→Int→Int→Int→Int→Int→Int→Int→Int→Int→Option ((List (jK)) × Int × Int)
 |0,_,_,_,_,_,_,_,_,_,_,_,_=>none
 |k+1,x2,x9,M8,akx,aky,akz,akA,akB,akC,abA,abB,akD=>if M8 < (x2.length:Int) then (if 0≤M8 then ((il.f akx aky akz akA akB akC abA ((bX x2 M8).f0) ((bX x2 M8).f1)).bind fun aeO=>(if (an (abB - aeO.2)) < abA then (some (([]:List (jK)),M8,19)) else (if x9.length < 8796093022208 then (bR.l0 k x2 (x9++[(⟨an (abB - aeO.2),an (akD - aeO.1)⟩:jK)]) (an (M8+1)) akx aky akz akA akB akC abA (an (abB - aeO.2)) (an (akD - aeO.1))) else (none)))) else (none)) else (some (x9,(x2.length:Int),0))
def bR.f (k:Nat) (ai:Int) (aj:Int) (az:Int) (aA:Int) (aI:Int) (aD:Int) (aJ:Int) (aQ:Int) (aN:Int) (l2:List (gU)):Option ((List (jK)) × Int × Int):=bR.l0 k l2 ([]:List (jK)) 0 ai aj az aA aI aD aJ aQ aN
def bR.T5:Bool × List (List Nat × List Nat):=(true,[([],[]),([],[]),([],[]),([1,2],[1,2]),([3],[3]),([0,4],[0,4]),([],[]),([6,5,5,0,1,2,3,4,5,6],[5,6])])
def bR.B5:List Nat:=[0,0,0,6,14,31,0,127]
theorem bR.abz:rX .any (opsOf Try.f92 5) = bR.T5:=by kernel_rfl
theorem bR.OY:oF bR.T5.2 bR.B5 = true:=by kernel_rfl
theorem bR.calls (k:Nat) (ai:Int) (aj:Int) (az:Int) (aA:Int) (aI:Int) (aD:Int) (aJ:Int) (aQ:Int) (aN:Int) (A2:Option Addr) (c2:Nat) (l2:List (gU)) (r1:List (jK)) (r2:Int) (r3:Int) (w:ao) (hr2:Kd.C yn w A2 l2.length l2) (hc2:l2.length≤c2) (h:bR.f k ai aj az aA aI aD aJ aQ aN l2 = some (r1,r2,r3)):
 Calls Try.prog 92 #[.agg #[Z ab ai,Z ab aj,Z ab az,Z ab aA,Z ab aI,Z ab aD,Z ab aJ],.agg #[Z ab aQ,Z ab aN],.slice A2 l2.length c2] w fun e w'=>∃ QH:Value,e = .returned (.tuple #[QH,Z ab r2,Z ab r3])∧Kd.R k27 27 w' w.heap.size (fun _=>True) QH r1∧Below w.heap.size w w':=by
 have vo:=Try.underlying29
 have oO:=Try.underlying27
 have E9:=Try.underlying33
 have HR2:=af.mk hr2
 have HC2:=af.mk hc2
 clear hr2 hc2
 have HB:=af.mk (Below.refl w.heap.size w)
 have H:(bR.l0 k l2 ([]:List (jK)) 0 ai aj az aA aI aD aJ aQ aN) = some (r1,r2,r3):=h
 clear h
 have H':=af.mk H
 clear H
 go_enter Try.func92,Try.ntmps92
 go_wp2_with (first|((with_reducible refine av (N:=3) rfl ?_);refine ak (by rfl) (N:=3) (by rfl) (cs:=#[Z ab ai,Z ab aj,Z ab az,Z ab aA,Z ab aI,Z ab aD,Z ab aJ]) (t:=29) fU ?_;intro jO hg w4 ay hb;have jU:=af.mk (ay);have a2f:=bY HB hg;have a2g:=bY HB hg;replace HB:=dz HB hb;clear hb ay hg)|((with_reducible refine av (N:=4) rfl ?_);refine ak (by rfl) (N:=4) (by rfl) (cs:=#[Z ab aQ,Z ab aN]) (t:=27) fU ?_;intro rW hg w5 ay hb;have mO:=af.mk (ay);have a2h:=bY HB hg;have a2i:=bY HB hg;have YI:=fG jU hg;have YJ:=fH jU hg;replace jU:=bn jU hb;replace HB:=dz HB hb;clear hb ay hg))
 go_loopg [9,10] k (fun kq v9 v10 w'=>∃ (sK:List (jK)) (eX:Int) (jc:Int) (jW:Int),v10 = Z ab eX∧af (bR.l0 kq l2 sK eX ai aj az aA aI aD aJ jc jW = some (r1,r2,r3))∧af (kq≤k)∧af (Kd.R k27 27 w' w.heap.size (fun k_=>k_≠rW) v9 sK)∧af (w'.heap[jO]? = some (.cells #[Z ab ai,Z ab aj,Z ab az,Z ab aA,Z ab aI,Z ab aD,Z ab aJ] 29 (0,0)))∧af (w'.heap[rW]? = some (.cells #[Z ab jc,Z ab jW] 27 (0,0)))∧af (Below w.heap.size w w'))
 case atStart=>exact ⟨(([]:List (jK))),(0),(aQ),(aN),om,H',⟨Nat.le_refl _⟩,⟨aod⟩,⟨iK⟩,⟨iK⟩,⟨gp⟩⟩
 case round =>
  clear H'
  try clear c2
  try clear p2
  obtain ⟨sK,eX,jc,jW,rfl,HA,Cj,wB,jU,mO,HB⟩:=hrel
  cases gk with
  |zero=>exact absurd HA.out (by simp [bR.l0])
  |succ k1 =>
   have H:=HA.out
   clear HA
   simp only [bR.l0] at H
   by_cases c6:eX < (l2.length:Int)
   ·rw [if_pos c6] at H
    have Du:decide (eX < (l2.length:Int)) = true:=decide_eq_true c6
    clear c6
    by_cases c7:0≤eX
    ·rw [if_pos c7] at H
     have Oh:decide (0≤eX) = true:=decide_eq_true c7
     clear c7
     replace H:=Option.bind_eq_some_iff.mp H
     obtain ⟨⟨Dv,Al⟩,Rq,H⟩:=H
     replace H:(if (an (jc - Al)) < aJ then (some (([]:List (jK)),eX,19)) else (if sK.length < 8796093022208 then (bR.l0 k1 l2 (sK++[(⟨an (jc - Al),an (jW - Dv)⟩:jK)]) (an (eX+1)) ai aj az aA aI aD aJ (an (jc - Al)) (an (jW - Dv))) else (none))) = some (r1,r2,r3):=H
     have A8:=af.mk Rq
     clear Rq
     by_cases c9:(an (jc - Al)) < aJ
     ·rw [if_pos c9] at H
      have JM:decide ((an (jc - Al)) < aJ) = true:=decide_eq_true c9
      clear c9
      simp only [Option.some.injEq,Prod.mk.injEq] at H
      obtain ⟨rfl,rfl,rfl⟩:=H
      try go_wp2
      replace wB:=af.mk (Kd.jP wB.out)
      replace jU:=af.mk (ag jU.out)
      replace mO:=af.mk (ag mO.out)
      replace HB:=af.mk (bF HB.out)
      have ahd:0≤(eX:Int):=of_decide_eq_true nM
      have ahe:eX < (l2.length:Int):=of_decide_eq_true nM
      obtain ⟨xK,aDx,xL,xM⟩:=lN HR2.out eX ahd ahe
      have uQ:=xM
      have uP:=xL
      cases aDx
      replace xL:=(HB.out.cell (bd w _ xL)).trans xL
      replace xM:=(HB.out.cell (bd w _ xM)).trans xM
      replace ahd:=eq_true ahd
      replace ahe:=eq_true ahe
      refine jV (n:=8) (S:=fun w'=>w'.cell? ⟨jO,0,none⟩ = some (Z ab ai)∧w'.cell? ⟨jO,1,none⟩ = some (Z ab aj)∧w'.cell? ⟨jO,2,none⟩ = some (Z ab az)∧w'.cell? ⟨jO,3,none⟩ = some (Z ab aA)∧w'.cell? ⟨jO,4,none⟩ = some (Z ab aI)∧w'.cell? ⟨jO,5,none⟩ = some (Z ab aD)∧w'.cell? ⟨jO,6,none⟩ = some (Z ab aJ)∧w'.cell? (xK.add ((eX).toNat*2)) = some (Z ab ((bX l2 eX).f0))∧w'.cell? ⟨(xK.add ((eX).toNat*2)).block,(xK.add ((eX).toNat*2)).off+1,none⟩ = some (Z ab ((bX l2 eX).f1))) (ds:=[]) #[al,al,al,al,al,al,al,al] aT rfl rfl (Mx jU.out ⟨(nI HB uP),(nI HB uQ)⟩) (fun hHeld=>?_);refine jQ bR.abz bR.OY (fun dx mD=>?_)
      generalize wr.drew = w10 at wB jU mO HB xL xM hHeld ⊢
      refine dR (i:=1) (N:=some 19) (aY dx.out aT) ?_
      refine dR (i:=2) (N:=some 20) (aY dx.out aT) ?_
      refine dR (i:=3) (N:=some 21) (aY dx.out aT) ?_
      refine iT (i:=0) (N:=some 18) (bL dx.out mD.out aT) hHeld ?_
      refine iT (i:=4) (N:=some 22) (bL dx.out mD.out aT) hHeld ?_
      refine Ro (σ:=Nat) 1 #[ac,ac,ac,ac,ac,ac,ac,al] (fun s_=>[(23,.agg #[Z ab Dv,Z ab Al]),(11,.pointer (some ⟨s_,0,none⟩))]) (fun s_ w'=>(w'.cell? ⟨jO,0,none⟩ = some (Z ab ai)∧w'.cell? ⟨jO,1,none⟩ = some (Z ab aj)∧w'.cell? ⟨jO,2,none⟩ = some (Z ab az)∧w'.cell? ⟨jO,3,none⟩ = some (Z ab aA)∧w'.cell? ⟨jO,4,none⟩ = some (Z ab aI)∧w'.cell? ⟨jO,5,none⟩ = some (Z ab aD)∧w'.cell? ⟨jO,6,none⟩ = some (Z ab aJ)∧w'.cell? (xK.add ((eX).toNat*2)) = some (Z ab ((bX l2 eX).f0))∧w'.cell? ⟨(xK.add ((eX).toNat*2)).block,(xK.add ((eX).toNat*2)).off+1,none⟩ = some (Z ab ((bX l2 eX).f1)))∧(Kd.R k27 27 w' w.heap.size (fun k_=>k_≠rW∧k_≠s_) u9 sK)∧(w'.heap[jO]? = some (.cells #[Z ab ai,Z ab aj,Z ab az,Z ab aA,Z ab aI,Z ab aD,Z ab aJ] 29 (0,0)))∧(w'.heap[rW]? = some (.cells #[Z ab jc,Z ab jW] 27 (0,0)))∧(w'.heap[s_]? = some (.cells #[Z ab 0,Z ab 0] 27 (0,0)))∧(w.heap.size≤s_)∧(w.heap.size≤s_)∧(jO≠s_)∧(s_≠jO)∧(rW≠s_)∧(s_≠rW)∧(Below w.heap.size w w')) ?_ ?_
      rotate_left
      ·intro qW
       refine Xy (i:=5) (j:=6) (Ni:=some 23) (Nj:=some 11) #[ac,ac,ac,ac,ac,ac,al,al] #[ac,ac,ac,ac,ac,al,ac,al] rfl rfl rfl rfl (Jt dx.out aT) (by decide) (by decide) (fun K hK=>?_) (fun K hK=>?_)
       ·skip
        refine gY Try.func39 aT rfl #[.agg #[Z ab ai,Z ab aj,Z ab az,Z ab aA,Z ab aI,Z ab aD,Z ab aJ],.agg #[Z ab ((bX l2 eX).f0),Z ab ((bX l2 eX).f1)]] (by rfl) rfl rfl jB ?_
        with_reducible refine (il.calls ai aj az aA aI aD aJ ((bX l2 eX).f0) ((bX l2 eX).f1) Dv Al _ A8.out).mono ?_
        rintro e w11 ⟨rfl,hb⟩
        refine ⟨_,rfl,?_⟩
        replace wB:=wh wB hb
        replace jU:=bn jU hb
        replace mO:=bn mO hb
        replace HB:=dz HB hb
        (try clear hb)
        (try clear hb2)
        (try clear hk)
        (try clear hi)
        refine hK.out _ _ (Mx jU.out ⟨(nI HB uP),(nI HB uQ)⟩) (fun hHeld=>?_)
        clear hK K
        refine dQ asK ?_
        refine iW (i:=6) (N:=some 11) #[ac,ac,ac,ac,ac,ac,ac,al] rfl rfl (gJ dx.out aT) (by decide) (fun K hK=>?_)
        refine pq ?hg (N:=11) ?hd (cs:=#[Z ab 0,Z ab 0]) (t:=27) ?hr ?_;(case hd=>rfl);(case hg=>rfl);(case hr=>first|(go_simp;done)|(go_simp;rfl))
        intro lJ hg Ja ay hb
        have sM:=af.mk (ay)
        have Ac:=bY HB hg
        have O0:=bY HB hg
        have fq:=fG jU hg
        have nQ:=fH jU hg
        have lT:=fG mO hg
        have lU:=fH mO hg
        replace wB:=af.mk (Kd.lZ (Kd.sw ac6 lJ (Nat.le_of_eq hg.symm)) hb)
        replace jU:=bn jU hb
        replace mO:=bn mO hb
        replace HB:=dz HB hb
        clear hb ay hg
        refine hK.out _ _ (Mx jU.out ⟨(nI HB uP),(nI HB uQ)⟩) (fun hHeld=>?_)
        clear hK K
        refine dQ al9 ?_
        exact dQ Nk (qW (lJ) _ ⟨hHeld,ac6,iK,iK,iK,Ac.out,O0.out,fq.out,nQ.out,lT.out,lU.out,gp⟩)
       ·skip
        refine pq ?hg (N:=11) ?hd (cs:=#[Z ab 0,Z ab 0]) (t:=27) ?hr ?_;(case hd=>rfl);(case hg=>rfl);(case hr=>first|(go_simp;done)|(go_simp;rfl))
        intro lJ hg w11 ay hb
        have sM:=af.mk (ay)
        have Ac:=bY HB hg
        have O0:=bY HB hg
        have fq:=fG jU hg
        have nQ:=fH jU hg
        have lT:=fG mO hg
        have lU:=fH mO hg
        replace wB:=af.mk (Kd.lZ (Kd.sw ac6 lJ (Nat.le_of_eq hg.symm)) hb)
        replace jU:=bn jU hb
        replace mO:=bn mO hb
        replace HB:=dz HB hb
        clear hb ay hg
        refine hK.out _ _ (Mx jU.out ⟨(nI HB uP),(nI HB uQ)⟩) (fun hHeld=>?_)
        clear hK K
        refine dQ al9 ?_
        refine iW (i:=5) (N:=some 23) #[ac,ac,ac,ac,ac,ac,ac,al] rfl rfl (gJ dx.out aT) (by decide) (fun K hK=>?_)
        refine gY Try.func39 aT rfl #[.agg #[Z ab ai,Z ab aj,Z ab az,Z ab aA,Z ab aI,Z ab aD,Z ab aJ],.agg #[Z ab ((bX l2 eX).f0),Z ab ((bX l2 eX).f1)]] (by rfl) rfl rfl jB ?_
        with_reducible refine (il.calls ai aj az aA aI aD aJ ((bX l2 eX).f0) ((bX l2 eX).f1) Dv Al _ A8.out).mono ?_
        rintro e Ja ⟨rfl,hb⟩
        refine ⟨_,rfl,?_⟩
        replace wB:=wh wB hb
        replace jU:=bn jU hb
        replace mO:=bn mO hb
        replace sM:=bn sM hb
        replace HB:=dz HB hb
        (try clear hb)
        (try clear hb2)
        (try clear hk)
        (try clear hi)
        refine hK.out _ _ (Mx jU.out ⟨(nI HB uP),(nI HB uQ)⟩) (fun hHeld=>?_)
        clear hK K
        refine dQ asK ?_
        exact dQ Nk (qW (lJ) _ ⟨hHeld,ac6,iK,iK,iK,Ac.out,O0.out,fq.out,nQ.out,lT.out,lU.out,gp⟩)
      rintro lJ GK ⟨hS_,h0_,h1_,h2_,h3_,h4_,h5_,h6_,h7_,h8_,h9_,JI⟩
      have vv:af (Kd.R k27 27 GK w.heap.size (fun k_=>k_≠rW∧k_≠lJ) u9 sK):=⟨h0_⟩
      have vw:af (GK.heap[jO]? = some (.cells #[Z ab ai,Z ab aj,Z ab az,Z ab aA,Z ab aI,Z ab aD,Z ab aJ] 29 (0,0))):=⟨h1_⟩
      have vz:af (GK.heap[rW]? = some (.cells #[Z ab jc,Z ab jW] 27 (0,0))):=⟨h2_⟩
      have vB:af (GK.heap[lJ]? = some (.cells #[Z ab 0,Z ab 0] 27 (0,0))):=⟨h3_⟩
      have xU:af (w.heap.size≤lJ):=⟨h4_⟩
      have Jo:af (w.heap.size≤lJ):=⟨h5_⟩
      have SQ:af (jO≠lJ):=⟨h6_⟩
      have Yt:af (lJ≠jO):=⟨h7_⟩
      have n8_:af (rW≠lJ):=⟨h8_⟩
      have n9_:af (lJ≠rW):=⟨h9_⟩
      have JJ:af (Below w.heap.size w GK):=⟨JI⟩
      clear wB jU mO HB
      clear h0_ h1_ h2_ h3_ h4_ h5_ h6_ h7_ h8_ h9_ JI
      have wB:=vv
      have jU:=vw
      have mO:=vz
      have sM:=vB
      have Ac:=xU
      have O0:=Jo
      have fq:=SQ
      have nQ:=Yt
      have lT:=n8_
      have lU:=n9_
      have HB:=JJ
      clear vv vw vz vB xU Jo SQ Yt n8_ n9_ JJ
      have hHeld:GK.cell? ⟨jO,0,none⟩ = some (Z ab ai)∧GK.cell? ⟨jO,1,none⟩ = some (Z ab aj)∧GK.cell? ⟨jO,2,none⟩ = some (Z ab az)∧GK.cell? ⟨jO,3,none⟩ = some (Z ab aA)∧GK.cell? ⟨jO,4,none⟩ = some (Z ab aI)∧GK.cell? ⟨jO,5,none⟩ = some (Z ab aD)∧GK.cell? ⟨jO,6,none⟩ = some (Z ab aJ)∧GK.cell? (xK.add ((eX).toNat*2)) = some (Z ab ((bX l2 eX).f0))∧GK.cell? ⟨(xK.add ((eX).toNat*2)).block,(xK.add ((eX).toNat*2)).off+1,none⟩ = some (Z ab ((bX l2 eX).f1)):=hS_
      refine dQ (a':=?_) ?_ ?_
      rotate_left
      ·simp only [wy,Act.put,ap,aq,ar]
       rfl
      refine iW (i:=7) (N:=none) #[ac,ac,ac,ac,ac,ac,ac,ac] rfl rfl (gJ dx.out aT) (by decide) (fun K hK=>?_)
      have a5W:GK.cell? ⟨lJ,0,none⟩ = some (Z ab 0):=(ae sM.out 0).trans rfl
      have a2j:=bg sM.out 0
      have aR8:=fq.out
      have aR9:=lT.out
      have aSa:=nQ.out
      have aSb:=lU.out
      have a5X:GK.cell? ⟨lJ,1,none⟩ = some (Z ab 0):=(ae sM.out 1).trans rfl
      have a2k:=bg sM.out 1
      have aSc:=fq.out
      have aSd:=lT.out
      have aSe:=nQ.out
      have aSf:=lU.out
      refine vF (w1:=?_) (by rfl) rfl ?_ ?_
      rotate_left
      ·go_simp
       rfl
      refine hK.out _ _ ⟨(dI fq ((dI fq (hHeld.1)))),(dI fq ((dI fq (hHeld.2.1)))),(dI fq ((dI fq (hHeld.2.2.1)))),(dI fq ((dI fq (hHeld.2.2.2.1)))),(dI fq ((dI fq (hHeld.2.2.2.2.1)))),(dI fq ((dI fq (hHeld.2.2.2.2.2.1)))),(dI fq ((dI fq (hHeld.2.2.2.2.2.2.1)))),((cell_far (p:=⟨lJ,_,none⟩) asM _).trans (((cell_far (p:=⟨lJ,_,none⟩) asM _).trans (hHeld.2.2.2.2.2.2.2.1)))),((cell_far (p:=⟨lJ,_,none⟩) asO _).trans (((cell_far (p:=⟨lJ,_,none⟩) asO _).trans (hHeld.2.2.2.2.2.2.2.2))))⟩ (fun hHeld=>?_)
      clear hK K
      refine mi (ni dx.out aT) ?_
      have OD:=YJ.out
      have OE:=YI.out
      have RH:=lT.out
      have RI:=lU.out
      obtain ⟨Ep,Er,Es,Et⟩:=iQ mO.out
      have Ru:=nQ.out
      have Rv:=fq.out
      obtain ⟨uY,uZ,u6,ve⟩:=iQ sM.out
      obtain ⟨tO,tQ,DK,DL,DN,DR,DT,tT,tV,DU,DV,DW,DX,DY⟩:=kz jU.out
      try go_wp2
      go_ret3
      exact ⟨_,mJ,aod,gp⟩
     ·rw [if_neg c9] at H
      have JM:decide ((an (jc - Al)) < aJ) = false:=decide_eq_false c9
      clear c9
      by_cases c22:sK.length < 8796093022208
      ·rw [if_pos c22] at H
       have aH9:=af.mk c22
       clear c22
       obtain ⟨aIa,aeP⟩:∃ y_:List (jK),y_ = (sK++[(⟨an (jc - Al),an (jW - Dv)⟩:jK)]):=⟨_,rfl⟩
       replace H:(bR.l0 k1 l2 aIa (an (eX+1)) ai aj az aA aI aD aJ (an (jc - Al)) (an (jW - Dv))) = some (r1,r2,r3):=by first|(rw [aeP];with_reducible exact H)|(have yu:=(aE _ _).symm.trans H;rw [aeP];with_reducible exact yu)|(have yu:=(aE _ _).symm.trans H;with_reducible exact yu)|with_reducible exact H|(rw [aeP];exact H)|exact H
       have aIb:=af.mk aeP
       clear aeP
       have H':=af.mk H
       clear H
       try go_wp2
       replace wB:=af.mk (Kd.jP wB.out)
       replace jU:=af.mk (ag jU.out)
       replace mO:=af.mk (ag mO.out)
       replace HB:=af.mk (bF HB.out)
       have ahd:0≤(eX:Int):=of_decide_eq_true nM
       have ahe:eX < (l2.length:Int):=of_decide_eq_true nM
       obtain ⟨xK,aDx,xL,xM⟩:=lN HR2.out eX ahd ahe
       have uQ:=xM
       have uP:=xL
       cases aDx
       replace xL:=(HB.out.cell (bd w _ xL)).trans xL
       replace xM:=(HB.out.cell (bd w _ xM)).trans xM
       replace ahd:=eq_true ahd
       replace ahe:=eq_true ahe
       refine jV (n:=8) (S:=fun w'=>w'.cell? ⟨jO,0,none⟩ = some (Z ab ai)∧w'.cell? ⟨jO,1,none⟩ = some (Z ab aj)∧w'.cell? ⟨jO,2,none⟩ = some (Z ab az)∧w'.cell? ⟨jO,3,none⟩ = some (Z ab aA)∧w'.cell? ⟨jO,4,none⟩ = some (Z ab aI)∧w'.cell? ⟨jO,5,none⟩ = some (Z ab aD)∧w'.cell? ⟨jO,6,none⟩ = some (Z ab aJ)∧w'.cell? (xK.add ((eX).toNat*2)) = some (Z ab ((bX l2 eX).f0))∧w'.cell? ⟨(xK.add ((eX).toNat*2)).block,(xK.add ((eX).toNat*2)).off+1,none⟩ = some (Z ab ((bX l2 eX).f1))) (ds:=[]) #[al,al,al,al,al,al,al,al] aT rfl rfl (Mx jU.out ⟨(nI HB uP),(nI HB uQ)⟩) (fun hHeld=>?_);refine jQ bR.abz bR.OY (fun dx mD=>?_)
       generalize wr.drew = w23 at wB jU mO HB xL xM hHeld ⊢
       refine dR (i:=1) (N:=some 19) (aY dx.out aT) ?_
       refine dR (i:=2) (N:=some 20) (aY dx.out aT) ?_
       refine dR (i:=3) (N:=some 21) (aY dx.out aT) ?_
       refine iT (i:=0) (N:=some 18) (bL dx.out mD.out aT) hHeld ?_
       refine iT (i:=4) (N:=some 22) (bL dx.out mD.out aT) hHeld ?_
       refine Ro (σ:=Nat) 1 #[ac,ac,ac,ac,ac,ac,ac,al] (fun s_=>[(23,.agg #[Z ab Dv,Z ab Al]),(11,.pointer (some ⟨s_,0,none⟩))]) (fun s_ w'=>(w'.cell? ⟨jO,0,none⟩ = some (Z ab ai)∧w'.cell? ⟨jO,1,none⟩ = some (Z ab aj)∧w'.cell? ⟨jO,2,none⟩ = some (Z ab az)∧w'.cell? ⟨jO,3,none⟩ = some (Z ab aA)∧w'.cell? ⟨jO,4,none⟩ = some (Z ab aI)∧w'.cell? ⟨jO,5,none⟩ = some (Z ab aD)∧w'.cell? ⟨jO,6,none⟩ = some (Z ab aJ)∧w'.cell? (xK.add ((eX).toNat*2)) = some (Z ab ((bX l2 eX).f0))∧w'.cell? ⟨(xK.add ((eX).toNat*2)).block,(xK.add ((eX).toNat*2)).off+1,none⟩ = some (Z ab ((bX l2 eX).f1)))∧(Kd.R k27 27 w' w.heap.size (fun k_=>k_≠rW∧k_≠s_) u9 sK)∧(w'.heap[jO]? = some (.cells #[Z ab ai,Z ab aj,Z ab az,Z ab aA,Z ab aI,Z ab aD,Z ab aJ] 29 (0,0)))∧(w'.heap[rW]? = some (.cells #[Z ab jc,Z ab jW] 27 (0,0)))∧(w'.heap[s_]? = some (.cells #[Z ab 0,Z ab 0] 27 (0,0)))∧(w.heap.size≤s_)∧(w.heap.size≤s_)∧(jO≠s_)∧(s_≠jO)∧(rW≠s_)∧(s_≠rW)∧(Below w.heap.size w w')) ?_ ?_
       rotate_left
       ·intro qW
        refine Xy (i:=5) (j:=6) (Ni:=some 23) (Nj:=some 11) #[ac,ac,ac,ac,ac,ac,al,al] #[ac,ac,ac,ac,ac,al,ac,al] rfl rfl rfl rfl (Jt dx.out aT) (by decide) (by decide) (fun K hK=>?_) (fun K hK=>?_)
        ·skip
         refine gY Try.func39 aT rfl #[.agg #[Z ab ai,Z ab aj,Z ab az,Z ab aA,Z ab aI,Z ab aD,Z ab aJ],.agg #[Z ab ((bX l2 eX).f0),Z ab ((bX l2 eX).f1)]] (by rfl) rfl rfl jB ?_
         with_reducible refine (il.calls ai aj az aA aI aD aJ ((bX l2 eX).f0) ((bX l2 eX).f1) Dv Al _ A8.out).mono ?_
         rintro e w24 ⟨rfl,hb⟩
         refine ⟨_,rfl,?_⟩
         replace wB:=wh wB hb
         replace jU:=bn jU hb
         replace mO:=bn mO hb
         replace HB:=dz HB hb
         (try clear hb)
         (try clear hb2)
         (try clear hk)
         (try clear hi)
         refine hK.out _ _ (Mx jU.out ⟨(nI HB uP),(nI HB uQ)⟩) (fun hHeld=>?_)
         clear hK K
         refine dQ asK ?_
         refine iW (i:=6) (N:=some 11) #[ac,ac,ac,ac,ac,ac,ac,al] rfl rfl (gJ dx.out aT) (by decide) (fun K hK=>?_)
         refine pq ?hg (N:=11) ?hd (cs:=#[Z ab 0,Z ab 0]) (t:=27) ?hr ?_;(case hd=>rfl);(case hg=>rfl);(case hr=>first|(go_simp;done)|(go_simp;rfl))
         intro lJ hg w25 ay hb
         have sM:=af.mk (ay)
         have Ac:=bY HB hg
         have O0:=bY HB hg
         have fq:=fG jU hg
         have nQ:=fH jU hg
         have lT:=fG mO hg
         have lU:=fH mO hg
         replace wB:=af.mk (Kd.lZ (Kd.sw ac6 lJ (Nat.le_of_eq hg.symm)) hb)
         replace jU:=bn jU hb
         replace mO:=bn mO hb
         replace HB:=dz HB hb
         clear hb ay hg
         refine hK.out _ _ (Mx jU.out ⟨(nI HB uP),(nI HB uQ)⟩) (fun hHeld=>?_)
         clear hK K
         refine dQ al9 ?_
         exact dQ Nk (qW (lJ) _ ⟨hHeld,ac6,iK,iK,iK,Ac.out,O0.out,fq.out,nQ.out,lT.out,lU.out,gp⟩)
        ·skip
         refine pq ?hg (N:=11) ?hd (cs:=#[Z ab 0,Z ab 0]) (t:=27) ?hr ?_;(case hd=>rfl);(case hg=>rfl);(case hr=>first|(go_simp;done)|(go_simp;rfl))
         intro lJ hg w24 ay hb
         have sM:=af.mk (ay)
         have Ac:=bY HB hg
         have O0:=bY HB hg
         have fq:=fG jU hg
         have nQ:=fH jU hg
         have lT:=fG mO hg
         have lU:=fH mO hg
         replace wB:=af.mk (Kd.lZ (Kd.sw ac6 lJ (Nat.le_of_eq hg.symm)) hb)
         replace jU:=bn jU hb
         replace mO:=bn mO hb
         replace HB:=dz HB hb
         clear hb ay hg
         refine hK.out _ _ (Mx jU.out ⟨(nI HB uP),(nI HB uQ)⟩) (fun hHeld=>?_)
         clear hK K
         refine dQ al9 ?_
         refine iW (i:=5) (N:=some 23) #[ac,ac,ac,ac,ac,ac,ac,al] rfl rfl (gJ dx.out aT) (by decide) (fun K hK=>?_)
         refine gY Try.func39 aT rfl #[.agg #[Z ab ai,Z ab aj,Z ab az,Z ab aA,Z ab aI,Z ab aD,Z ab aJ],.agg #[Z ab ((bX l2 eX).f0),Z ab ((bX l2 eX).f1)]] (by rfl) rfl rfl jB ?_
         with_reducible refine (il.calls ai aj az aA aI aD aJ ((bX l2 eX).f0) ((bX l2 eX).f1) Dv Al _ A8.out).mono ?_
         rintro e w25 ⟨rfl,hb⟩
         refine ⟨_,rfl,?_⟩
         replace wB:=wh wB hb
         replace jU:=bn jU hb
         replace mO:=bn mO hb
         replace sM:=bn sM hb
         replace HB:=dz HB hb
         (try clear hb)
         (try clear hb2)
         (try clear hk)
         (try clear hi)
         refine hK.out _ _ (Mx jU.out ⟨(nI HB uP),(nI HB uQ)⟩) (fun hHeld=>?_)
         clear hK K
         refine dQ asK ?_
         exact dQ Nk (qW (lJ) _ ⟨hHeld,ac6,iK,iK,iK,Ac.out,O0.out,fq.out,nQ.out,lT.out,lU.out,gp⟩)
       rintro lJ vG ⟨hS_,h0_,h1_,h2_,h3_,h4_,h5_,h6_,h7_,h8_,h9_,JI⟩
       have vv:af (Kd.R k27 27 vG w.heap.size (fun k_=>k_≠rW∧k_≠lJ) u9 sK):=⟨h0_⟩
       have vw:af (vG.heap[jO]? = some (.cells #[Z ab ai,Z ab aj,Z ab az,Z ab aA,Z ab aI,Z ab aD,Z ab aJ] 29 (0,0))):=⟨h1_⟩
       have vz:af (vG.heap[rW]? = some (.cells #[Z ab jc,Z ab jW] 27 (0,0))):=⟨h2_⟩
       have vB:af (vG.heap[lJ]? = some (.cells #[Z ab 0,Z ab 0] 27 (0,0))):=⟨h3_⟩
       have xU:af (w.heap.size≤lJ):=⟨h4_⟩
       have Jo:af (w.heap.size≤lJ):=⟨h5_⟩
       have SQ:af (jO≠lJ):=⟨h6_⟩
       have Yt:af (lJ≠jO):=⟨h7_⟩
       have n8_:af (rW≠lJ):=⟨h8_⟩
       have n9_:af (lJ≠rW):=⟨h9_⟩
       have JJ:af (Below w.heap.size w vG):=⟨JI⟩
       clear wB jU mO HB
       clear h0_ h1_ h2_ h3_ h4_ h5_ h6_ h7_ h8_ h9_ JI
       have wB:=vv
       have jU:=vw
       have mO:=vz
       have sM:=vB
       have Ac:=xU
       have O0:=Jo
       have fq:=SQ
       have nQ:=Yt
       have lT:=n8_
       have lU:=n9_
       have HB:=JJ
       clear vv vw vz vB xU Jo SQ Yt n8_ n9_ JJ
       have hHeld:vG.cell? ⟨jO,0,none⟩ = some (Z ab ai)∧vG.cell? ⟨jO,1,none⟩ = some (Z ab aj)∧vG.cell? ⟨jO,2,none⟩ = some (Z ab az)∧vG.cell? ⟨jO,3,none⟩ = some (Z ab aA)∧vG.cell? ⟨jO,4,none⟩ = some (Z ab aI)∧vG.cell? ⟨jO,5,none⟩ = some (Z ab aD)∧vG.cell? ⟨jO,6,none⟩ = some (Z ab aJ)∧vG.cell? (xK.add ((eX).toNat*2)) = some (Z ab ((bX l2 eX).f0))∧vG.cell? ⟨(xK.add ((eX).toNat*2)).block,(xK.add ((eX).toNat*2)).off+1,none⟩ = some (Z ab ((bX l2 eX).f1)):=hS_
       refine dQ (a':=?_) ?_ ?_
       rotate_left
       ·simp only [wy,Act.put,ap,aq,ar]
        rfl
       refine iW (i:=7) (N:=none) #[ac,ac,ac,ac,ac,ac,ac,ac] rfl rfl (gJ dx.out aT) (by decide) (fun K hK=>?_)
       have aXu:vG.cell? ⟨lJ,0,none⟩ = some (Z ab 0):=(ae sM.out 0).trans rfl
       have aHG:=bg sM.out 0
       have awi:=fq.out
       have awj:=lT.out
       have awk:=nQ.out
       have awl:=lU.out
       have aXv:vG.cell? ⟨lJ,1,none⟩ = some (Z ab 0):=(ae sM.out 1).trans rfl
       have aHH:=bg sM.out 1
       have awm:=fq.out
       have awn:=lT.out
       have awo:=nQ.out
       have awp:=lU.out
       refine vF (w1:=?_) (by rfl) rfl ?_ ?_
       rotate_left
       ·go_simp
        rfl
       refine hK.out _ _ ⟨(dI fq ((dI fq (hHeld.1)))),(dI fq ((dI fq (hHeld.2.1)))),(dI fq ((dI fq (hHeld.2.2.1)))),(dI fq ((dI fq (hHeld.2.2.2.1)))),(dI fq ((dI fq (hHeld.2.2.2.2.1)))),(dI fq ((dI fq (hHeld.2.2.2.2.2.1)))),(dI fq ((dI fq (hHeld.2.2.2.2.2.2.1)))),((cell_far (p:=⟨lJ,_,none⟩) asM _).trans (((cell_far (p:=⟨lJ,_,none⟩) asM _).trans (hHeld.2.2.2.2.2.2.2.1)))),((cell_far (p:=⟨lJ,_,none⟩) asO _).trans (((cell_far (p:=⟨lJ,_,none⟩) asO _).trans (hHeld.2.2.2.2.2.2.2.2))))⟩ (fun hHeld=>?_)
       clear hK K
       refine mi (ni dx.out aT) ?_
       have aA8:=YJ.out
       have aA9:=YI.out
       have aox:=lT.out
       have aoy:=lU.out
       obtain ⟨Zw,Zx,Zy,Zz⟩:=iQ mO.out
       have aBa:=nQ.out
       have aBb:=fq.out
       obtain ⟨Ny,Nz,NA,NB⟩:=iQ sM.out
       obtain ⟨EL,EM,Ov,Ow,Tp,Tq,Tt,EN,EO,Ox,Oy,Tu,Tv,Tw⟩:=kz jU.out
       try go_wp2_with (first|((with_reducible refine pz (b:=.append) (xs:=#[.tmp 41,.tmp 43]) rfl ?_);at_builtin;refine Kd.Cg k27 (w0:=w) w.heap.size rfl (.tmp 41) (.tmp 43) 66 27 (.agg #[(Z ab 0),(Z ab 0)]) 16 rfl Try.underlying66 aoj rfl (by decide) (by omega) u9 sK (⟨an (jc - Al),an (jW - Dv)⟩:jK) [Z ab (an (jc - Al)),Z ab (an (jW - Dv))] (fun k_=>k_≠rW∧k_≠lJ) (fun _=>False) rfl fU ?aP (fun _ hk=>hk.elim) ?aF ?aO ?aB ?aS ?aL ?_;(case aP=>exact wz _ _ _ (⟨an (jc - Al),an (jW - Dv)⟩:jK));(case aB=>exact gp);(case aF=>exact (fun k_ hk=>⟨Kd.Zc (g:=rW) (o:=.cells #[Z ab (an (jc - Al)),Z ab (an (jW - Dv))] 27 (0,0)) (by (with_reducible repeat (first|refine au ?_ _|refine ag ?_|refine aa ?_ _));refine aK (cs:=#[Z ab (an (jc - Al)),Z ab jW]) ?_ 1 _ rfl;(with_reducible repeat (first|refine au ?_ _|refine ag ?_|refine aa ?_ _));refine aK (cs:=#[Z ab jc,Z ab jW]) ?_ 0 _ rfl;(with_reducible repeat (first|refine au ?_ _|refine ag ?_|refine aa ?_ _));refine aM ?_ lT.out _;(with_reducible repeat (first|refine au ?_ _|refine ag ?_|refine aa ?_ _));refine aM ?_ lT.out _;(with_reducible repeat (first|refine au ?_ _|refine ag ?_|refine aa ?_ _));exact mO.out) k_ hk,Kd.Zc (g:=lJ) (o:=.cells #[Z ab Dv,Z ab Al] 27 (0,0)) (by (with_reducible repeat (first|refine au ?_ _|refine ag ?_|refine aa ?_ _));refine aM ?_ lU.out _;(with_reducible repeat (first|refine au ?_ _|refine ag ?_|refine aa ?_ _));refine aM ?_ lU.out _;(with_reducible repeat (first|refine au ?_ _|refine ag ?_|refine aa ?_ _));refine aK (cs:=#[Z ab Dv,Z ab 0]) ?_ 1 _ rfl;(with_reducible repeat (first|refine au ?_ _|refine ag ?_|refine aa ?_ _));refine aK (cs:=#[Z ab 0,Z ab 0]) ?_ 0 _ rfl;(with_reducible repeat (first|refine au ?_ _|refine ag ?_|refine aa ?_ _));exact sM.out) k_ hk⟩));(case aO=>exact (by (with_reducible repeat (first|apply Kd.ky|apply Kd.jY|apply Kd.jP));exact Kd.jX (Kd.fu (p:=⟨rW,1,none⟩) (Kd.fu (p:=⟨rW,0,none⟩) (Kd.fu (p:=⟨lJ,1,none⟩) (Kd.fu (p:=⟨lJ,0,none⟩) (Kd.jX (Kd.jX wB.out (fun k_ hk=>(⟨hk,hk.2⟩:_∧k_≠lJ))) (fun k_ hk=>(⟨hk,hk.1.1⟩:_∧k_≠rW))) (fun _ hk=>hk.1.2) (Z ab Dv)) (fun _ hk=>hk.1.2) (Z ab Al)) (fun _ hk=>hk.2) (Z ab (an (jc - Al)))) (fun _ hk=>hk.2) (Z ab (an (jW - Dv)))) (fun _ hk=>⟨hk.1.1.1,hk.1.1.2⟩)));(case aS=>exact (fM gp));(case aL=>have:=aH9.out;omega);intro a5Y w35 ho hb hg hat;rw [← aIb.out] at ho;have vv:=af.mk (iF (g:=jO) (o:=.cells #[Z ab ai,Z ab aj,Z ab az,Z ab aA,Z ab aI,Z ab aD,Z ab aJ] 29 (0,0)) iK hg (Kd.af6 wB.out jU.out (by decide)));have vw:=af.mk (iF (g:=rW) (o:=.cells #[Z ab (an (jc - Al)),Z ab (an (jW - Dv))] 27 (0,0)) (by (with_reducible repeat (first|refine au ?_ _|refine ag ?_|refine aa ?_ _));refine aK (cs:=#[Z ab (an (jc - Al)),Z ab jW]) ?_ 1 _ rfl;(with_reducible repeat (first|refine au ?_ _|refine ag ?_|refine aa ?_ _));refine aK (cs:=#[Z ab jc,Z ab jW]) ?_ 0 _ rfl;(with_reducible repeat (first|refine au ?_ _|refine ag ?_|refine aa ?_ _));refine aM ?_ lT.out _;(with_reducible repeat (first|refine au ?_ _|refine ag ?_|refine aa ?_ _));refine aM ?_ lT.out _;(with_reducible repeat (first|refine au ?_ _|refine ag ?_|refine aa ?_ _));exact mO.out) hg (Kd.Za wB.out (fun _ hk=>hk.1)));have vz:=af.mk (iF (g:=lJ) (o:=.cells #[Z ab Dv,Z ab Al] 27 (0,0)) (by (with_reducible repeat (first|refine au ?_ _|refine ag ?_|refine aa ?_ _));refine aM ?_ lU.out _;(with_reducible repeat (first|refine au ?_ _|refine ag ?_|refine aa ?_ _));refine aM ?_ lU.out _;(with_reducible repeat (first|refine au ?_ _|refine ag ?_|refine aa ?_ _));refine aK (cs:=#[Z ab Dv,Z ab 0]) ?_ 1 _ rfl;(with_reducible repeat (first|refine au ?_ _|refine ag ?_|refine aa ?_ _));refine aK (cs:=#[Z ab 0,Z ab 0]) ?_ 0 _ rfl;(with_reducible repeat (first|refine au ?_ _|refine ag ?_|refine aa ?_ _));exact sM.out) hg (Kd.Za wB.out (fun _ hk=>hk.2)));have vB:=af.mk (hb);have xU:=af.mk (ho);clear jU;clear mO;clear sM;clear HB;clear wB;have jU:=vv;have mO:=vw;have sM:=vz;have HB:=vB;have aIc:=xU;clear vv vw vz vB xU;clear ho hb hg hat))
       go_roundg k1
       case measure=>have:=Cj.out;omega
       case rel=>exact ⟨(aIa),(an (eX+1)),(an (jc - Al)),(an (jW - Dv)),om,H',⟨zq7⟩,⟨by (with_reducible repeat (first|apply Kd.ky|apply Kd.jY|apply Kd.jP));exact Kd.jX aIc.out (fun _ hk=>hk.1)⟩,⟨iK⟩,⟨iK⟩,⟨gp⟩⟩
      ·rw [if_neg c22] at H
       exact absurd H (by simp)
    ·rw [if_neg c7] at H
     exact absurd H (by simp)
   ·rw [if_neg c6] at H
    have Du:decide (eX < (l2.length:Int)) = false:=decide_eq_false c6
    clear c6
    simp only [Option.some.injEq,Prod.mk.injEq] at H
    obtain ⟨rfl,rfl,rfl⟩:=H
    go_wp2
    go_ret3
    exact ⟨_,mJ,by (with_reducible repeat (first|apply Kd.ky|apply Kd.jY|apply Kd.jP));exact Kd.jX wB.out (fun _ hk=>trivial),gp⟩
mutual
def dA.j0:Nat→Bool→Int→Int→Int→Int→Option (Int × Int)
 |0,_,_,_,_,_=>none
 |k+1,L6,O1,O3,O4,O5=>if L6 = true then (some (0,2)) else (if O1 ≥ O4 then (dA.j1 k (decide (O3≤O5)) O1 O3 O4 O5) else (dA.j1 k false O1 O3 O4 O5))
def dA.j1:Nat→Bool→Int→Int→Int→Int→Option (Int × Int)
 |0,_,_,_,_,_=>none
 |k+1,x25,O1,O3,O4,O5=>if x25 = true then (some (2,0)) else (if O3 < O4 then (some (0,0)) else (if O1 > O5 then (some (0,0)) else (some (1,0))))
end
def dA.f (k:Nat) (ai:Int) (aj:Int) (aQ:Int) (aN:Int):Option (Int × Int):=(bT.f ai aj).bind fun anh=>(if anh = true then ((bT.f aQ aN).bind fun Wv=>(dA.j0 k (!Wv) ai aj aQ aN)) else (dA.j0 k true ai aj aQ aN))
theorem dA.calls (k:Nat) (ai:Int) (aj:Int) (aQ:Int) (aN:Int) (r1:Int) (r2:Int) (w:ao) (h:dA.f k ai aj aQ aN = some (r1,r2)):
 Calls Try.prog 91 #[.agg #[Z ab ai,Z ab aj],.agg #[Z ab aQ,Z ab aN]] w fun e w'=>e = .returned (.tuple #[Z ab r1,Z ab r2])∧Below w.heap.size w w':=by
 have oO:=Try.underlying27
 have HB:=af.mk (Below.refl w.heap.size w)
 have H:((bT.f ai aj).bind fun anh=>(if anh = true then ((bT.f aQ aN).bind fun Wv=>(dA.j0 k (!Wv) ai aj aQ aN)) else (dA.j0 k true ai aj aQ aN))) = some (r1,r2):=h
 clear h
 have HC3:=af.mk H
 clear H
 go_enter Try.func91,Try.ntmps91
 go_upto_region 1 with (first|((with_reducible refine av (N:=2) rfl ?_);refine ak (by rfl) (N:=2) (by rfl) (cs:=#[Z ab ai,Z ab aj]) (t:=27) fU ?_;intro aBc hg w4 ay hb;have xN:=af.mk (ay);have a2l:=bY HB hg;have a2m:=bY HB hg;replace HB:=dz HB hb;clear hb ay hg)|((with_reducible refine av (N:=3) rfl ?_);refine ak (by rfl) (N:=3) (by rfl) (cs:=#[Z ab aQ,Z ab aN]) (t:=27) fU ?_;intro aBd hg w5 ay hb;have ET:=af.mk (ay);have a2n:=bY HB hg;have a2o:=bY HB hg;have yP:=fG xN hg;have yQ:=fH xN hg;replace xN:=bn xN hb;replace HB:=dz HB hb;clear hb ay hg))
 (try simp only [Act.put,ap,aq,ar])
 go_cut [13] (fun v13 wc=>∃ (kq:Nat) (akE:Bool),v13 = .bool akE∧af (dA.j0 kq akE ai aj aQ aN = some (r1,r2))∧af (kq≤k)∧af (wc.heap[aBc]? = some (.cells #[Z ab ai,Z ab aj] 27 (0,0)))∧af (wc.heap[aBd]? = some (.cells #[Z ab aQ,Z ab aN] 27 (0,0)))∧af (Below w.heap.size w wc))
 case first =>
  have H:=HC3.out
  clear HC3
  replace H:=Option.bind_eq_some_iff.mp H
  obtain ⟨anh,Nn,H⟩:=H
  replace H:(if anh = true then ((bT.f aQ aN).bind fun Wv=>(dA.j0 k (!Wv) ai aj aQ aN)) else (dA.j0 k true ai aj aQ aN)) = some (r1,r2):=H
  have A6:=af.mk Nn
  clear Nn
  by_cases c7:anh = true
  ·subst c7
   have H1:((bT.f aQ aN).bind fun Wv=>(dA.j0 k (!Wv) ai aj aQ aN)) = some (r1,r2):=by rw [if_pos rfl] at H;exact H
   clear H
   have H:=H1
   clear H1
   replace H:=Option.bind_eq_some_iff.mp H
   obtain ⟨Wv,Rq,H⟩:=H
   replace H:(dA.j0 k (!Wv) ai aj aQ aN) = some (r1,r2):=H
   have A8:=af.mk Rq
   clear Rq
   have H':=af.mk H
   clear H
   have atn:=yP.out
   have ato:=yQ.out
   obtain ⟨sP,sQ,sS,sU⟩:=iQ xN.out
   go_wp2_with (first|((with_reducible refine aU (f:=111) rfl ?_);refine dn (some 7) rfl rfl Try.func111 aT rfl #[.agg #[Z ab ai,Z ab aj]] rfl jB ?_;(with_reducible refine (bT.calls ai aj true _ A6.out).mono ?_);rintro e w11 ⟨rfl,hb⟩;refine ⟨_,rfl,?_⟩;replace xN:=bn xN hb;replace ET:=bn ET hb;replace HB:=dz HB hb;(try clear hb);(try clear hb2);(try clear hk);(try clear hi);obtain ⟨qa,qb,qc,qd⟩:=iQ ET.out)|(go_at_call 111;(with_reducible refine (bT.calls aQ aN Wv _ A8.out).mono ?_);rintro e GK ⟨rfl,hb⟩;replace xN:=bn xN hb;replace ET:=bn ET hb;replace HB:=dz HB hb;(try clear hb);(try clear hb2);(try clear hk);(try clear hi)))
   go_meet
   case rel=>exact ⟨_,(!Wv),om,H',⟨GH⟩,⟨iK⟩,⟨iK⟩,⟨gp⟩⟩
  ·replace c7:=Bool.eq_false_iff.mpr c7
   subst c7
   have H1:(dA.j0 k true ai aj aQ aN) = some (r1,r2):=by rw [if_neg (show ¬ (false = true) by decide)] at H;exact H
   clear H
   have H:=H1
   clear H1
   have H':=af.mk H
   clear H
   have aiJ:=yP.out
   have aiK:=yQ.out
   obtain ⟨oG,oH,oI,oJ⟩:=iQ xN.out
   go_wp2_with (first|((with_reducible refine aU (f:=111) rfl ?_);refine dn (some 7) rfl rfl Try.func111 aT rfl #[.agg #[Z ab ai,Z ab aj]] rfl jB ?_;(with_reducible refine (bT.calls ai aj false _ A6.out).mono ?_);rintro e w16 ⟨rfl,hb⟩;refine ⟨_,rfl,?_⟩;replace xN:=bn xN hb;replace ET:=bn ET hb;replace HB:=dz HB hb;(try clear hb);(try clear hb2);(try clear hk);(try clear hi)))
   go_meet
   case rel=>exact ⟨_,(true),om,H',⟨GH⟩,⟨iK⟩,⟨iK⟩,⟨gp⟩⟩
 case rest =>
  clear HC3
  try clear c1
  try clear p2
  try clear c7
  try clear c9
  try clear c11
  try clear c14
  try clear sP sQ
  try clear qa qb
  try clear oG oH
  try clear sS sU
  try clear qc qd
  try clear oI oJ
  obtain ⟨kq,akE,rfl,HA,HJ2,xN,ET,HB⟩:=hcut
  cases kq with
  |zero=>exact absurd HA.out (by simp [dA.j0])
  |succ kj2 =>
   have H:=HA.out
   clear HA
   simp only [dA.j0] at H
   by_cases c17:akE = true
   ·subst c17
    have H1:(some (0,2)) = some (r1,r2):=by rw [if_pos rfl] at H;exact H
    clear H
    have H:=H1
    clear H1
    simp only [Option.some.injEq,Prod.mk.injEq] at H
    obtain ⟨rfl,rfl⟩:=H
    go_wp2
    go_ret2
    exact ⟨mJ,gp⟩
   ·replace c17:=Bool.eq_false_iff.mpr c17
    subst c17
    have H1:(if ai ≥ aQ then (dA.j1 kj2 (decide (aj≤aN)) ai aj aQ aN) else (dA.j1 kj2 false ai aj aQ aN)) = some (r1,r2):=by rw [if_neg (show ¬ (false = true) by decide)] at H;exact H
    clear H
    have H:=H1
    clear H1
    have aDy:=af.mk H
    clear H
    go_upto_region 3 with (fail)
    go_cut [25] (fun v25 wc=>∃ (kq:Nat) (abC:Bool),v25 = .bool abC∧af (dA.j1 kq abC ai aj aQ aN = some (r1,r2))∧af (kq≤kj2)∧af (wc.heap[aBc]? = some (.cells #[Z ab ai,Z ab aj] 27 (0,0)))∧af (wc.heap[aBd]? = some (.cells #[Z ab aQ,Z ab aN] 27 (0,0)))∧af (Below w.heap.size w wc))
    case first =>
     have H:=aDy.out
     clear aDy
     by_cases c19:ai ≥ aQ
     ·rw [if_pos c19] at H
      have YK:decide (aQ≤ai) = true:=decide_eq_true c19
      clear c19
      (first|rw [YK]|(simp only [eY,fo];rw [YK])|skip)
      have H':=af.mk H
      clear H
      have aoD:=yP.out
      have aoE:=yQ.out
      obtain ⟨tO,tQ,tT,tV⟩:=iQ xN.out
      obtain ⟨NC,ND,NF,NG⟩:=iQ ET.out
      go_wp2
      go_meet
      case rel=>exact ⟨_,(decide (aj≤aN)),om,H',⟨by have:=HJ2.out;first|omega|exact Nat.le_refl _⟩,⟨iK⟩,⟨iK⟩,⟨gp⟩⟩
     ·rw [if_neg c19] at H
      have YK:decide (aQ≤ai) = false:=decide_eq_false c19
      clear c19
      (first|rw [YK]|(simp only [eY,fo];rw [YK])|skip)
      have H':=af.mk H
      clear H
      have Yy:=yP.out
      have Yz:=yQ.out
      obtain ⟨wP,wQ,wS,wT⟩:=iQ xN.out
      obtain ⟨zC,zD,zF,zG⟩:=iQ ET.out
      go_wp2
      go_meet
      case rel=>exact ⟨_,(false),om,H',⟨by have:=HJ2.out;first|omega|exact Nat.le_refl _⟩,⟨iK⟩,⟨iK⟩,⟨gp⟩⟩
    case rest =>
     clear aDy
     try clear c1
     try clear c2
     try clear p2
     try clear c7
     try clear c9
     try clear c11
     try clear c14
     try clear c17
     try clear c19
     try clear YK
     try clear c20
     try clear c23
     try clear sP sQ
     try clear qa qb
     try clear oG oH
     try clear tO tQ
     try clear NC ND
     try clear wP wQ
     try clear zC zD
     try clear sS sU
     try clear qc qd
     try clear oI oJ
     try clear tT tV
     try clear NF NG
     try clear wS wT
     try clear zF zG
     try clear p2
     obtain ⟨kq,abC,rfl,HA,a5Z,xN,ET,HB⟩:=hcut
     cases kq with
     |zero=>exact absurd HA.out (by simp [dA.j1])
     |succ a6a =>
      have H:=HA.out
      clear HA
      simp only [dA.j1] at H
      by_cases Xr:abC = true
      ·subst Xr
       have H1:(some (2,0)) = some (r1,r2):=by rw [if_pos rfl] at H;exact H
       clear H
       have H:=H1
       clear H1
       simp only [Option.some.injEq,Prod.mk.injEq] at H
       obtain ⟨rfl,rfl⟩:=H
       go_wp2
       go_ret2
       exact ⟨mJ,gp⟩
      ·replace Xr:=Bool.eq_false_iff.mpr Xr
       subst Xr
       have H1:(if aj < aQ then (some (0,0)) else (if ai > aN then (some (0,0)) else (some (1,0)))) = some (r1,r2):=by rw [if_neg (show ¬ (false = true) by decide)] at H;exact H
       clear H
       have H:=H1
       clear H1
       by_cases c27:aj < aQ
       ·rw [if_pos c27] at H
        have aId:decide (aj < aQ) = true:=decide_eq_true c27
        clear c27
        simp only [Option.some.injEq,Prod.mk.injEq] at H
        obtain ⟨rfl,rfl⟩:=H
        have az0:=yP.out
        have az1:=yQ.out
        obtain ⟨EF,EG,EH,EI⟩:=iQ xN.out
        obtain ⟨Ee,Ef,Eg,Eh⟩:=iQ ET.out
        go_wp2
        go_ret2
        exact ⟨mJ,gp⟩
       ·rw [if_neg c27] at H
        have aId:decide (aj < aQ) = false:=decide_eq_false c27
        clear c27
        by_cases c31:ai > aN
        ·rw [if_pos c31] at H
         have aAk:decide (aN < ai) = true:=decide_eq_true c31
         clear c31
         simp only [Option.some.injEq,Prod.mk.injEq] at H
         obtain ⟨rfl,rfl⟩:=H
         have aBa:=yP.out
         have aBb:=yQ.out
         obtain ⟨Ny,Nz,NA,NB⟩:=iQ xN.out
         obtain ⟨EL,EM,EN,EO⟩:=iQ ET.out
         go_wp2
         go_ret2
         exact ⟨mJ,gp⟩
        ·rw [if_neg c31] at H
         have aAk:decide (aN < ai) = false:=decide_eq_false c31
         clear c31
         simp only [Option.some.injEq,Prod.mk.injEq] at H
         obtain ⟨rfl,rfl⟩:=H
         have aAO:=yP.out
         have aAP:=yQ.out
         obtain ⟨NH,NI,NJ,NK⟩:=iQ xN.out
         obtain ⟨Oz,OA,OB,OC⟩:=iQ ET.out
         go_wp2
         go_ret2
         exact ⟨mJ,gp⟩
def nH.f (k:Nat) (ai:Int) (aj:Int) (az:Int) (aA:Int) (aQ:Int) (aN:Int) (bC:Int) (bD:Int):Option (Int):=(dA.f k ai aj aQ aN).bind fun ap1=>((dA.f k az aA bC bD).bind fun aeQ=>(some (mn ap1.1 aeQ.1)))
theorem nH.calls (k:Nat) (ai:Int) (aj:Int) (az:Int) (aA:Int) (aQ:Int) (aN:Int) (bC:Int) (bD:Int) (r:Int) (w:ao) (h:nH.f k ai aj az aA aQ aN bC bD = some r):
 Calls Try.prog 43 #[.agg #[Z ab ai,Z ab aj,Z ab az,Z ab aA],.agg #[Z ab aQ,Z ab aN,Z ab bC,Z ab bD]] w fun e w'=>e = .returned (Z ab r)∧Below w.heap.size w w':=by
 have qj:=Try.underlying31
 have oO:=Try.underlying27
 have HB:=af.mk (Below.refl w.heap.size w)
 have H:((dA.f k ai aj aQ aN).bind fun ap1=>((dA.f k az aA bC bD).bind fun aeQ=>(some (mn ap1.1 aeQ.1)))) = some r:=h
 clear h
 replace H:=Option.bind_eq_some_iff.mp H
 obtain ⟨⟨ani,aXE⟩,PS,H⟩:=H
 replace H:((dA.f k az aA bC bD).bind fun aeQ=>(some (mn ani aeQ.1))) = some r:=H
 have A3:=af.mk PS
 clear PS
 replace H:=Option.bind_eq_some_iff.mp H
 obtain ⟨⟨ap2,aXF⟩,ME,H⟩:=H
 replace H:(some (mn ani ap2)) = some r:=H
 have A4:=af.mk ME
 clear ME
 obtain ⟨ji5,VH⟩:∃ j_:Int,(mn ani ap2) = j_:=⟨_,rfl⟩
 replace H:(some ji5) = some r:=by first|(rw [VH] at H;exact H)|(simp only [VH] at H ⊢;exact H)
 (try rw [VH] at A3)
 (try rw [VH] at A4)
 have aFY:(if ap2 < ani then ap2 else ani) = ji5:=VH
 obtain rfl:=bh H
 go_enter Try.func43,Try.ntmps43
 go_wp2_with (first|((with_reducible refine av (N:=2) rfl ?_);refine ak (by rfl) (N:=2) (by rfl) (cs:=#[Z ab ai,Z ab aj,Z ab az,Z ab aA]) (t:=31) fU ?_;intro a2p hg w6 ay hb;have Mq:=af.mk (ay);have a2q:=bY HB hg;have a2r:=bY HB hg;replace HB:=dz HB hb;clear hb ay hg)|((with_reducible refine av (N:=3) rfl ?_);refine ak (by rfl) (N:=3) (by rfl) (cs:=#[Z ab aQ,Z ab aN,Z ab bC,Z ab bD]) (t:=31) fU ?_;intro a2s hg w7 ay hb;have YL:=af.mk (ay);have a2t:=bY HB hg;have a2u:=bY HB hg;have anj:=fG Mq hg;have ank:=fH Mq hg;replace Mq:=bn Mq hb;replace HB:=dz HB hb;clear hb ay hg;have adp:=anj.out;have adq:=ank.out;obtain ⟨yB,yC,Ic,Ie,yD,yE,Ig,Ih⟩:=jA Mq.out;obtain ⟨sP,sQ,NM,NN,sS,sU,NP,NQ⟩:=jA YL.out)|((with_reducible refine aU (f:=91) rfl ?_);refine dn (some 14) rfl rfl Try.func91 aT rfl #[.agg #[Z ab ai,Z ab aj],.agg #[Z ab aQ,Z ab aN]] rfl jB ?_;(with_reducible refine (dA.calls k ai aj aQ aN ani aXE _ A3.out).mono ?_);rintro e w11 ⟨rfl,hb⟩;refine ⟨_,rfl,?_⟩;replace Mq:=bn Mq hb;replace YL:=bn YL hb;replace HB:=dz HB hb;(try clear hb);(try clear hb2);(try clear hk);(try clear hi);obtain ⟨qa,qb,Sm,Sn,qc,qd,Sq,Sr⟩:=jA Mq.out;obtain ⟨sV,sW,zw,zx,sZ,tq,zy,zz⟩:=jA YL.out)|((with_reducible refine aU (f:=91) rfl ?_);refine dn (some 22) rfl rfl Try.func91 aT rfl #[.agg #[Z ab az,Z ab aA],.agg #[Z ab bC,Z ab bD]] rfl jB ?_;(with_reducible refine (dA.calls k az aA bC bD ap2 aXF _ A4.out).mono ?_);rintro e w14 ⟨rfl,hb⟩;refine ⟨_,rfl,?_⟩;replace Mq:=bn Mq hb;replace YL:=bn YL hb;replace HB:=dz HB hb;(try clear hb);(try clear hb2);(try clear hk);(try clear hi)))
 go_ret
 exact ⟨by first|rfl|(simp [lg,lh] <;> rfl)|(simp only [← VH];first|rfl|(simp [lg,lh] <;> rfl))|(simp [*,lg,lh] <;> rfl),gp⟩
def bP.l0:Nat→Int→List (iA)→Int→Int→Int→Int→Int→Int→Int→Int→Int→Int→Int→Int→Int→Int→Int→Option (Int)
 |0,_,_,_,_,_,_,_,_,_,_,_,_,_,_,_,_,_=>none
 |k+1,x1,x2,x9,M8,abD,O6,abE,abF,abG,abH,abI,TU,TV,TW,TY,TZ,T9=>if M8 < (x2.length:Int) then (if (an (x1+(an ((an (M8+1))*O6)))) ≥ TZ then (if (an (x1+(an ((an (M8+1))*O6))))≤T9 then (if 0≤M8 then ((nH.f k ((gM x2 M8).f0.f0) ((gM x2 M8).f0.f1) ((gM x2 M8).f1.f0) ((gM x2 M8).f1.f1) TU TV TW TY).bind fun ahf=>(bP.l0 k x1 x2 (mx x9 ahf) (an (M8+1)) abD O6 abE abF abG abH abI TU TV TW TY TZ T9)) else (none)) else (bP.l0 k x1 x2 x9 (an (M8+1)) abD O6 abE abF abG abH abI TU TV TW TY TZ T9)) else (bP.l0 k x1 x2 x9 (an (M8+1)) abD O6 abE abF abG abH abI TU TV TW TY TZ T9)) else (some x9)
def bP.f (k:Nat) (ai:Int) (aj:Int) (az:Int) (aA:Int) (aI:Int) (aD:Int) (aJ:Int) (a1:Int) (l2:List (iA)) (uG:Int) (uH:Int) (uI:Int) (uJ:Int) (uA:Int) (uB:Int):Option (Int):=bP.l0 k a1 l2 0 0 ai aj az aA aI aD aJ uG uH uI uJ uA uB
def bP.T7:Bool × List (List Nat × List Nat):=(true,[([],[]),([],[]),([],[]),([1,2],[1,2]),([3],[3]),([],[]),([5],[5]),([4,6],[4,6]),([0,7],[0,7]),([8,7,0,1,2,3,4,5,6,7,8],[0,8])])
def bP.B7:List Nat:=[0,0,0,6,14,0,32,126,255,511]
theorem bP.aXG:rX .any (opsOf Try.f96 7) = bP.T7:=by kernel_rfl
theorem bP.aIe:oF bP.T7.2 bP.B7 = true:=by kernel_rfl
theorem bP.calls (k:Nat) (ai:Int) (aj:Int) (az:Int) (aA:Int) (aI:Int) (aD:Int) (aJ:Int) (a1:Int) (A2:Option Addr) (c2:Nat) (l2:List (iA)) (uG:Int) (uH:Int) (uI:Int) (uJ:Int) (uA:Int) (uB:Int) (r:Int) (w:ao) (hr2:Kd.C k31 w A2 l2.length l2) (hc2:l2.length≤c2) (h:bP.f k ai aj az aA aI aD aJ a1 l2 uG uH uI uJ uA uB = some r):
 Calls Try.prog 96 #[.agg #[Z ab ai,Z ab aj,Z ab az,Z ab aA,Z ab aI,Z ab aD,Z ab aJ],Z ab a1,.slice A2 l2.length c2,.agg #[Z ab uG,Z ab uH,Z ab uI,Z ab uJ,Z ab uA,Z ab uB]] w fun e w'=>e = .returned (Z ab r)∧Below w.heap.size w w':=by
 have vo:=Try.underlying29
 have XP:=Try.underlying81
 have qj:=Try.underlying31
 have HR2:=af.mk hr2
 have HC2:=af.mk hc2
 clear hr2 hc2
 have HB:=af.mk (Below.refl w.heap.size w)
 have H:(bP.l0 k a1 l2 0 0 ai aj az aA aI aD aJ uG uH uI uJ uA uB) = some r:=h
 clear h
 have H':=af.mk H
 clear H
 go_enter Try.func96,Try.ntmps96
 go_wp2_with (first|((with_reducible refine av (N:=4) rfl ?_);refine ak (by rfl) (N:=4) (by rfl) (cs:=#[Z ab ai,Z ab aj,Z ab az,Z ab aA,Z ab aI,Z ab aD,Z ab aJ]) (t:=29) fU ?_;intro aIf hg w5 ay hb;have Gm:=af.mk (ay);have a2v:=bY HB hg;have a2w:=bY HB hg;replace HB:=dz HB hb;clear hb ay hg)|((with_reducible refine av (N:=7) rfl ?_);refine ak (by rfl) (N:=7) (by rfl) (cs:=#[Z ab uG,Z ab uH,Z ab uI,Z ab uJ,Z ab uA,Z ab uB]) (t:=81) fU ?_;intro Ww hg w6 ay hb;have JR:=af.mk (ay);have a2x:=bY HB hg;have a2y:=bY HB hg;have QO:=fG Gm hg;have QP:=fH Gm hg;replace Gm:=bn Gm hb;replace HB:=dz HB hb;clear hb ay hg))
 go_loopg [9,10] k (fun kq v9 v10 w'=>∃ (sK:Int) (eX:Int),v9 = Z ab sK∧v10 = Z ab eX∧af (bP.l0 kq a1 l2 sK eX ai aj az aA aI aD aJ uG uH uI uJ uA uB = some r)∧af (kq≤k)∧af (w'.heap[aIf]? = some (.cells #[Z ab ai,Z ab aj,Z ab az,Z ab aA,Z ab aI,Z ab aD,Z ab aJ] 29 (0,0)))∧af (w'.heap[Ww]? = some (.cells #[Z ab uG,Z ab uH,Z ab uI,Z ab uJ,Z ab uA,Z ab uB] 81 (0,0)))∧af (Below w.heap.size w w'))
 case atStart=>exact ⟨(0),(0),om,om,H',⟨Nat.le_refl _⟩,⟨iK⟩,⟨iK⟩,⟨gp⟩⟩
 case round =>
  clear H'
  try clear c2
  try clear p2
  obtain ⟨sK,eX,rfl,rfl,HA,Cj,Gm,JR,HB⟩:=hrel
  cases gk with
  |zero=>exact absurd HA.out (by simp [bP.l0])
  |succ k1 =>
   have H:=HA.out
   clear HA
   simp only [bP.l0] at H
   by_cases c7:eX < (l2.length:Int)
   ·rw [if_pos c7] at H
    have Oh:decide (eX < (l2.length:Int)) = true:=decide_eq_true c7
    clear c7
    by_cases c8:(an (a1+(an ((an (eX+1))*aj)))) ≥ uA
    ·rw [if_pos c8] at H
     have GJ:decide (uA≤(an (a1+(an ((an (eX+1))*aj))))) = true:=decide_eq_true c8
     clear c8
     by_cases c9:(an (a1+(an ((an (eX+1))*aj))))≤uB
     ·rw [if_pos c9] at H
      have JM:decide ((an (a1+(an ((an (eX+1))*aj))))≤uB) = true:=decide_eq_true c9
      clear c9
      by_cases c10:0≤eX
      ·rw [if_pos c10] at H
       have Cs:decide (0≤eX) = true:=decide_eq_true c10
       clear c10
       replace H:=Option.bind_eq_some_iff.mp H
       obtain ⟨ahf,apW,H⟩:=H
       replace H:(bP.l0 k1 a1 l2 (mx sK ahf) (an (eX+1)) ai aj az aA aI aD aJ uG uH uI uJ uA uB) = some r:=H
       have A11:=af.mk apW
       clear apW
       obtain ⟨aDA,aeR⟩:∃ j_:Int,(mx sK ahf) = j_:=⟨_,rfl⟩
       replace H:(bP.l0 k1 a1 l2 aDA (an (eX+1)) ai aj az aA aI aD aJ uG uH uI uJ uA uB) = some r:=by first|(rw [aeR] at H;exact H)|(simp only [aeR] at H ⊢;exact H)
       (try rw [aeR] at A11)
       have aXH:(if sK < ahf then ahf else sK) = aDA:=aeR
       have H':=af.mk H
       clear H
       have adt:=QO.out
       have adu:=QP.out
       obtain ⟨AY,AZ,KW,KX,at6,at7,aua,Ba,Bb,KY,KZ,aub,auc,aud⟩:=kz Gm.out
       obtain ⟨oG,oH,rH,rJ,tu,tC,oI,oJ,rM,rO,tF,tH⟩:=Aa JR.out
       try go_wp2
       replace Gm:=af.mk (ag Gm.out)
       replace JR:=af.mk (ag JR.out)
       replace HB:=af.mk (bF HB.out)
       have aDB:0≤(eX:Int):=of_decide_eq_true nM
       have aDC:eX < (l2.length:Int):=of_decide_eq_true nM
       obtain ⟨Wy,aXI,O7,O8,O9,Pb⟩:=agk HR2.out eX aDB aDC
       have akF:=Pb
       have akG:=O9
       have akH:=O8
       have akI:=O7
       cases aXI
       replace O7:=(HB.out.cell (bd w _ O7)).trans O7
       replace O8:=(HB.out.cell (bd w _ O8)).trans O8
       replace O9:=(HB.out.cell (bd w _ O9)).trans O9
       replace Pb:=(HB.out.cell (bd w _ Pb)).trans Pb
       replace aDB:=eq_true aDB
       replace aDC:=eq_true aDC
       refine jV (n:=10) (S:=fun w'=>w'.cell? ⟨Ww,0,none⟩ = some (Z ab uG)∧w'.cell? ⟨Ww,1,none⟩ = some (Z ab uH)∧w'.cell? ⟨Ww,2,none⟩ = some (Z ab uI)∧w'.cell? ⟨Ww,3,none⟩ = some (Z ab uJ)∧w'.cell? ⟨Ww,4,none⟩ = some (Z ab uA)∧w'.cell? ⟨Ww,5,none⟩ = some (Z ab uB)∧w'.cell? (Wy.add ((eX).toNat*4)) = some (Z ab ((gM l2 eX).f0.f0))∧w'.cell? ⟨(Wy.add ((eX).toNat*4)).block,(Wy.add ((eX).toNat*4)).off+1,none⟩ = some (Z ab ((gM l2 eX).f0.f1))∧w'.cell? ⟨(Wy.add ((eX).toNat*4)).block,(Wy.add ((eX).toNat*4)).off+2,none⟩ = some (Z ab ((gM l2 eX).f1.f0))∧w'.cell? ⟨(Wy.add ((eX).toNat*4)).block,(Wy.add ((eX).toNat*4)).off+3,none⟩ = some (Z ab ((gM l2 eX).f1.f1))) (ds:=[]) #[al,al,al,al,al,al,al,al,al,al] aT rfl rfl (aE4 JR.out ⟨(nI HB akI),(nI HB akH),(nI HB akG),(nI HB akF)⟩) (fun hHeld=>?_);refine jQ bP.aXG bP.aIe (fun dx mD=>?_)
       generalize wr.drew = w16 at Gm JR HB O7 O8 O9 Pb hHeld ⊢
       refine dR (i:=0) (N:=some 35) (aY dx.out aT) ?_
       refine dR (i:=1) (N:=some 36) (aY dx.out aT) ?_
       refine dR (i:=2) (N:=some 37) (aY dx.out aT) ?_
       refine dR (i:=3) (N:=some 38) (aY dx.out aT) ?_
       refine dR (i:=5) (N:=some 40) (aY dx.out aT) ?_
       refine iT (i:=4) (N:=some 39) (bL dx.out mD.out aT) hHeld ?_
       refine iT (i:=6) (N:=some 41) (bL dx.out mD.out aT) hHeld ?_
       refine iW (i:=7) (N:=some 42) #[ac,ac,ac,ac,ac,ac,ac,ac,al,al] rfl rfl (gJ dx.out aT) (by decide) (fun K hK=>?_)
       refine gY Try.func43 aT rfl #[.agg #[Z ab ((gM l2 eX).f0.f0),Z ab ((gM l2 eX).f0.f1),Z ab ((gM l2 eX).f1.f0),Z ab ((gM l2 eX).f1.f1)],.agg #[Z ab uG,Z ab uH,Z ab uI,Z ab uJ]] (by rfl) rfl rfl jB ?_
       with_reducible refine (nH.calls k1 ((gM l2 eX).f0.f0) ((gM l2 eX).f0.f1) ((gM l2 eX).f1.f0) ((gM l2 eX).f1.f1) uG uH uI uJ ahf _ A11.out).mono ?_
       rintro e DC ⟨rfl,hb⟩
       refine ⟨_,rfl,?_⟩
       replace Gm:=bn Gm hb
       replace JR:=bn JR hb
       replace HB:=dz HB hb
       (try clear hb)
       (try clear hb2)
       (try clear hk)
       (try clear hi)
       refine hK.out _ _ (aE4 JR.out ⟨(nI HB akI),(nI HB akH),(nI HB akG),(nI HB akF)⟩) (fun hHeld=>?_)
       clear hK K
       refine dQ (by show Act.put _ (some 42) _ = _;simp only [Act.put,ap,aq,ar,eY,fo];rfl) ?_
       refine dR (i:=8) (N:=some 43) (aY dx.out aT) ?_
       refine dR (i:=9) (N:=some 9) (aY dx.out aT) ?_
       refine mi (ni dx.out aT) ?_
       try go_wp2
       go_roundg k1
       case measure=>have:=Cj.out;omega
       case rel=>exact ⟨(aDA),(an (eX+1)),(by first|rfl|(simp;done)|(simp only [← aeR] <;> (first|rfl|simp))|(simp [*];done)),om,H',⟨zq7⟩,⟨iK⟩,⟨iK⟩,⟨gp⟩⟩
      ·rw [if_neg c10] at H
       exact absurd H (by simp)
     ·rw [if_neg c9] at H
      have JM:decide ((an (a1+(an ((an (eX+1))*aj))))≤uB) = false:=decide_eq_false c9
      clear c9
      have H':=af.mk H
      clear H
      have Yw:=QO.out
      have Yx:=QP.out
      obtain ⟨uR,uS,wL,wM,Bc,Bd,GR,uT,uU,wN,wO,Be,Bf,GU⟩:=kz Gm.out
      obtain ⟨uY,uZ,zQ,zR,BM,BN,u6,ve,zS,zT,BO,BP⟩:=Aa JR.out
      go_wp2
      go_roundg k1
      case measure=>have:=Cj.out;omega
      case rel=>exact ⟨(sK),(an (eX+1)),om,om,H',⟨zq7⟩,⟨iK⟩,⟨iK⟩,⟨gp⟩⟩
    ·rw [if_neg c8] at H
     have GJ:decide (uA≤(an (a1+(an ((an (eX+1))*aj))))) = false:=decide_eq_false c8
     clear c8
     have H':=af.mk H
     clear H
     have adm:=QO.out
     have adn:=QP.out
     obtain ⟨NC,ND,Zr,Zt,ah3,ah4,ah5,NF,NG,Zu,Zv,ah6,ah7,ah8⟩:=kz Gm.out
     obtain ⟨Bg,Bh,GV,GX,GY,GZ,Bi,Bj,G5,G6,G7,G8⟩:=Aa JR.out
     go_wp2
     go_roundg k1
     case measure=>have:=Cj.out;omega
     case rel=>exact ⟨(sK),(an (eX+1)),om,om,H',⟨zq7⟩,⟨iK⟩,⟨iK⟩,⟨gp⟩⟩
   ·rw [if_neg c7] at H
    have Oh:decide (eX < (l2.length:Int)) = false:=decide_eq_false c7
    clear c7
    obtain rfl:=bh H
    go_wp2
    go_ret
    exact ⟨mJ,gp⟩
def gH.f (k:Nat) (ai:Int) (aj:Int) (az:Int) (aA:Int) (aI:Int) (aD:Int) (aJ:Int) (aX:List Bool) (aG:List (qK)) (aQ:Int) (aN:Int) (bC:Int) (bD:Int) (bU:Int) (bV:Int) (bW:Int) (cO:Int) (cZ:Int) (dh:Int) (di:Int) (a3:Int) (fE:Int) (eZ:Int) (l5:List (gU)) (jh:Int) (ji:Int) (jk:Int) (jl:Int) (jm:Int) (jo:Int):Option (Int):=(dw.f k ai aj az aA aI aD aJ aX aG aQ aN bC bD bU bV bW cO cZ dh di a3 l5).bind fun Wz=>(if Wz.2.2 = 0 then ((bR.f k aQ aN bC bD bU bV bW fE eZ l5).bind fun RL=>(if RL.2.2 = 0 then ((bP.f k aQ aN bC bD bU bV bW a3 Wz.1 jh ji jk jl jm jo).bind fun L9=>(if L9 = 2 then (some 0) else (some 20))) else (some RL.2.2))) else (some Wz.2.2))
theorem gH.calls (k:Nat) (ai:Int) (aj:Int) (az:Int) (aA:Int) (aI:Int) (aD:Int) (aJ:Int) (dY:Option Addr) (dS:Nat) (aX:List Bool) (dV:Option Addr) (dU:Nat) (aG:List (qK)) (aQ:Int) (aN:Int) (bC:Int) (bD:Int) (bU:Int) (bV:Int) (bW:Int) (cO:Int) (cZ:Int) (dh:Int) (di:Int) (a3:Int) (fE:Int) (eZ:Int) (A5:Option Addr) (c5:Nat) (l5:List (gU)) (jh:Int) (ji:Int) (jk:Int) (jl:Int) (jm:Int) (jo:Int) (r:Int) (w:ao) (jC:Kd.C Kd.bool w dY aX.length aX) (jD:aX.length≤dS) (jE:Kd.C Dt w dV aG.length aG) (jF:aG.length≤dU) (hr5:Kd.C yn w A5 l5.length l5) (hc5:l5.length≤c5) (h:gH.f k ai aj az aA aI aD aJ aX aG aQ aN bC bD bU bV bW cO cZ dh di a3 fE eZ l5 jh ji jk jl jm jo = some r):
 Calls Try.prog 97 #[.agg #[Z ab ai,Z ab aj,Z ab az,Z ab aA,Z ab aI,Z ab aD,Z ab aJ,.slice dY aX.length dS,.slice dV aG.length dU],.agg #[Z ab aQ,Z ab aN,Z ab bC,Z ab bD,Z ab bU,Z ab bV,Z ab bW],.agg #[Z ab cO,Z ab cZ,Z ab dh,Z ab di],Z ab a3,.agg #[Z ab fE,Z ab eZ],.slice A5 l5.length c5,.agg #[Z ab jh,Z ab ji,Z ab jk,Z ab jl,Z ab jm,Z ab jo]] w fun e w'=>e = .returned (Z ab r)∧Below w.heap.size w w':=by
 have xS:=Try.underlying25
 have vo:=Try.underlying29
 have qj:=Try.underlying31
 have oO:=Try.underlying27
 have XP:=Try.underlying81
 have iI:=af.mk jC
 have iO:=af.mk jD
 clear jC jD
 have iB:=af.mk jE
 have iP:=af.mk jF
 clear jE jF
 have HR5:=af.mk hr5
 have HC5:=af.mk hc5
 clear hr5 hc5
 have HB:=af.mk (Below.refl w.heap.size w)
 have H:((dw.f k ai aj az aA aI aD aJ aX aG aQ aN bC bD bU bV bW cO cZ dh di a3 l5).bind fun Wz=>(if Wz.2.2 = 0 then ((bR.f k aQ aN bC bD bU bV bW fE eZ l5).bind fun RL=>(if RL.2.2 = 0 then ((bP.f k aQ aN bC bD bU bV bW a3 Wz.1 jh ji jk jl jm jo).bind fun L9=>(if L9 = 2 then (some 0) else (some 20))) else (some RL.2.2))) else (some Wz.2.2))) = some r:=h
 clear h
 replace H:=Option.bind_eq_some_iff.mp H
 obtain ⟨⟨X3,axR,WA⟩,Rq,H⟩:=H
 replace H:(if WA = 0 then ((bR.f k aQ aN bC bD bU bV bW fE eZ l5).bind fun RL=>(if RL.2.2 = 0 then ((bP.f k aQ aN bC bD bU bV bW a3 X3 jh ji jk jl jm jo).bind fun L9=>(if L9 = 2 then (some 0) else (some 20))) else (some RL.2.2))) else (some WA)) = some r:=H
 have A8:=af.mk Rq
 clear Rq
 by_cases c9:WA = 0
 ·rw [if_pos c9] at H
  have JM:(WA == 0) = true:=beq_iff_eq.mpr c9
  have aDD:(WA != 0) = false:=bne_eq_false_iff_eq.mpr c9
  clear c9
  replace H:=Option.bind_eq_some_iff.mp H
  obtain ⟨⟨aDE,aDF,X4⟩,Fu,H⟩:=H
  replace H:(if X4 = 0 then ((bP.f k aQ aN bC bD bU bV bW a3 X3 jh ji jk jl jm jo).bind fun L9=>(if L9 = 2 then (some 0) else (some 20))) else (some X4)) = some r:=H
  have Rs:=af.mk Fu
  clear Fu
  by_cases c11:X4 = 0
  ·rw [if_pos c11] at H
   have I9:(X4 == 0) = true:=beq_iff_eq.mpr c11
   have ap3:(X4 != 0) = false:=bne_eq_false_iff_eq.mpr c11
   clear c11
   replace H:=Option.bind_eq_some_iff.mp H
   obtain ⟨L9,OG,H⟩:=H
   replace H:(if L9 = 2 then (some 0) else (some 20)) = some r:=H
   have A12:=af.mk OG
   clear OG
   by_cases c13:L9 = 2
   ·rw [if_pos c13] at H
    have aph:(L9 == 2) = true:=beq_iff_eq.mpr c13
    have aIg:(L9 != 2) = false:=bne_eq_false_iff_eq.mpr c13
    clear c13
    obtain rfl:=bh H
    go_enter Try.func97,Try.ntmps97
    go_wp2_with (first|((with_reducible refine av (N:=7) rfl ?_);refine ak (by rfl) (N:=7) (by rfl) (cs:=#[Z ab ai,Z ab aj,Z ab az,Z ab aA,Z ab aI,Z ab aD,Z ab aJ,.slice dY aX.length dS,.slice dV aG.length dU]) (t:=25) fU ?_;intro ap4 hg w14 ay hb;have gm:=af.mk (ay);have ap5:=bY HB hg;have ap6:=bY HB hg;replace HB:=dz HB hb;clear hb ay hg)|((with_reducible refine av (N:=8) rfl ?_);refine ak (by rfl) (N:=8) (by rfl) (cs:=#[Z ab aQ,Z ab aN,Z ab bC,Z ab bD,Z ab bU,Z ab bV,Z ab bW]) (t:=29) fU ?_;intro ap7 hg w15 ay hb;have gW:=af.mk (ay);have ap8:=bY HB hg;have ap9:=bY HB hg;have yR:=fG gm hg;have yS:=fH gm hg;replace gm:=bn gm hb;replace HB:=dz HB hb;clear hb ay hg)|((with_reducible refine av (N:=9) rfl ?_);refine ak (by rfl) (N:=9) (by rfl) (cs:=#[Z ab cO,Z ab cZ,Z ab dh,Z ab di]) (t:=31) fU ?_;intro WB hg w16 ay hb;have jI:=af.mk (ay);have aqa:=bY HB hg;have aqb:=bY HB hg;have yT:=fG gm hg;have yU:=fH gm hg;have yV:=fG gW hg;have yX:=fH gW hg;replace gm:=bn gm hb;replace gW:=bn gW hb;replace HB:=dz HB hb;clear hb ay hg)|((with_reducible refine av (N:=11) rfl ?_);refine ak (by rfl) (N:=11) (by rfl) (cs:=#[Z ab fE,Z ab eZ]) (t:=27) fU ?_;intro YM hg DC ay hb;have mY:=af.mk (ay);have aqc:=bY HB hg;have aqd:=bY HB hg;have yY:=fG gm hg;have yZ:=fH gm hg;have za:=fG gW hg;have zb:=fH gW hg;have ze:=fG jI hg;have zf:=fH jI hg;replace gm:=bn gm hb;replace gW:=bn gW hb;replace jI:=bn jI hb;replace HB:=dz HB hb;clear hb ay hg)|((with_reducible refine av (N:=13) rfl ?_);refine ak (by rfl) (N:=13) (by rfl) (cs:=#[Z ab jh,Z ab ji,Z ab jk,Z ab jl,Z ab jm,Z ab jo]) (t:=81) fU ?_;intro aqe hg w18 ay hb;have sN:=af.mk (ay);have aqf:=bY HB hg;have aqg:=bY HB hg;have zg:=fG gm hg;have zh:=fH gm hg;have zi:=fG gW hg;have zk:=fH gW hg;have zl:=fG jI hg;have zm:=fH jI hg;have Cb:=fG mY hg;have Cc:=fH mY hg;replace gm:=bn gm hb;replace gW:=bn gW hb;replace jI:=bn jI hb;replace mY:=bn mY hb;replace HB:=dz HB hb;clear hb ay hg;have Ru:=yR.out;have Rv:=yS.out;have aoD:=yT.out;have aoE:=yU.out;have adm:=yY.out;have adn:=yZ.out;have adv:=zg.out;have adw:=zh.out;obtain ⟨Bg,Bh,GV,GX,GY,GZ,KC,NR,NS,Bi,Bj,G5,G6,G7,G8,KD,NT,NU⟩:=jS gm.out;have aeH:=yV.out;have aeI:=yX.out;have ai5:=za.out;have ai6:=zb.out;have aeK:=zi.out;have aeL:=zk.out;obtain ⟨Bl,Bn,Bo,Bp,D8,D9,Ea,Bq,Br,Bt,Bu,Eb,Ec,Ed⟩:=kz gW.out;have az0:=ze.out;have az1:=zf.out;have aA8:=zl.out;have aA9:=zm.out;obtain ⟨Ee,Ef,G9,Ha,Eg,Eh,Hd,He⟩:=jA jI.out)|((with_reducible refine aU (f:=84) rfl ?_);refine dn (some 24) rfl rfl Try.func84 aT rfl #[.agg #[Z ab ai,Z ab aj,Z ab az,Z ab aA,Z ab aI,Z ab aD,Z ab aJ,.slice dY aX.length dS,.slice dV aG.length dU],.agg #[Z ab aQ,Z ab aN,Z ab bC,Z ab bD,Z ab bU,Z ab bV,Z ab bW],.agg #[Z ab cO,Z ab cZ,Z ab dh,Z ab di],Z ab a3,.slice A5 l5.length c5] rfl jB ?_;(with_reducible refine (dw.calls k ai aj az aA aI aD aJ _ _ aX _ _ aG aQ aN bC bD bU bV bW cO cZ dh di a3 _ _ l5 X3 axR WA _ ?dG ?dH ?eP ?eQ ?Gn ?Gp A8.out).mono ?_);(case dG=>repeat (first|exact (Kd.bz iI.out HB.out)|(with_reducible refine Kd.bJ ?_ _)|(with_reducible refine Kd.bK ?_ _)|(with_reducible refine Kd.bZ ?_)));(case dH=>exact iO.out);(case eP=>repeat (first|exact (Kd.bz iB.out HB.out)|(with_reducible refine Kd.bJ ?_ _)|(with_reducible refine Kd.bK ?_ _)|(with_reducible refine Kd.bZ ?_)));(case eQ=>exact iP.out);(case Gn=>repeat (first|exact (Kd.bz HR5.out HB.out)|(with_reducible refine Kd.bJ ?_ _)|(with_reducible refine Kd.bK ?_ _)|(with_reducible refine Kd.bZ ?_)));(case Gp=>exact HC5.out);rintro e w31 ⟨aDG,rfl,ho0,hb⟩;refine ⟨_,rfl,?_⟩;have xO:=af.mk (Kd.kv (Kd.uw ho0 (g:=WB) (o:=.cells #[Z ab cO,Z ab cZ,Z ab dh,Z ab di] 31 (0,0)) iK) (fM gp));replace gm:=bn gm hb;replace gW:=bn gW hb;replace jI:=bn jI hb;replace mY:=bn mY hb;replace sN:=bn sN hb;replace HB:=dz HB hb;(try clear hb);(try clear hb2);(try clear hk);(try clear hi);(try clear ho0);obtain ⟨aaY,aaZ,aa0,aa1,ajY,ajZ,aj0,aa2,aa3,aa4,aa5,aj1,aj2,aj3⟩:=kz gW.out;have aIh:=Cb.out;have aIi:=Cc.out;obtain ⟨EL,EM,EN,EO⟩:=iQ mY.out)|((with_reducible refine aU (f:=92) rfl ?_);refine dn (some 35) rfl rfl Try.func92 aT rfl #[.agg #[Z ab aQ,Z ab aN,Z ab bC,Z ab bD,Z ab bU,Z ab bV,Z ab bW],.agg #[Z ab fE,Z ab eZ],.slice A5 l5.length c5] rfl jB ?_;(with_reducible refine (bR.calls k aQ aN bC bD bU bV bW fE eZ _ _ l5 aDE aDF X4 _ ?dG ?dH Rs.out).mono ?_);(case dG=>repeat (first|exact (Kd.bz HR5.out HB.out)|(with_reducible refine Kd.bJ ?_ _)|(with_reducible refine Kd.bK ?_ _)|(with_reducible refine Kd.bZ ?_)));(case dH=>exact HC5.out);rintro e w35 ⟨aIj,rfl,ho0,hb⟩;refine ⟨_,rfl,?_⟩;have YN:=af.mk (Kd.kv (Kd.uw ho0 (g:=YM) (o:=.cells #[Z ab fE,Z ab eZ] 27 (0,0)) iK) (fM gp));replace xO:=wh xO hb;replace gm:=bn gm hb;replace gW:=bn gW hb;replace jI:=bn jI hb;replace mY:=bn mY hb;replace sN:=bn sN hb;replace HB:=dz HB hb;(try clear hb);(try clear hb2);(try clear hk);(try clear hi);(try clear ho0);obtain ⟨NH,NI,Su,Sv,aii,aij,aik,NJ,NK,Sw,Sy,ail,aim,ain⟩:=kz gW.out;obtain ⟨Oz,OA,aaM,aaN,aaO,aaP,OB,OC,aaQ,aaR,aaS,aaT⟩:=Aa sN.out;obtain ⟨aCK,aCL,aCM⟩:=Kd.lM xO.out;subst aCM)|((with_reducible refine aU (f:=96) rfl ?_);refine dn (some 46) rfl rfl Try.func96 aT rfl #[.agg #[Z ab aQ,Z ab aN,Z ab bC,Z ab bD,Z ab bU,Z ab bV,Z ab bW],Z ab a3,.slice aCK X3.length aCL,.agg #[Z ab jh,Z ab ji,Z ab jk,Z ab jl,Z ab jm,Z ab jo]] rfl jB ?_;(with_reducible refine (bP.calls k aQ aN bC bD bU bV bW a3 _ _ X3 jh ji jk jl jm jo L9 _ ?dG ?dH A12.out).mono ?_);(case dG=>repeat (first|exact (Kd.fK xO.out).2.2|(with_reducible refine Kd.bJ ?_ _)|(with_reducible refine Kd.bK ?_ _)|(with_reducible refine Kd.bZ ?_)));(case dH=>exact (Kd.fK xO.out).2.1);rintro e w39 ⟨rfl,hb⟩;refine ⟨_,rfl,?_⟩;replace xO:=wh xO hb;replace YN:=wh YN hb;replace gm:=bn gm hb;replace gW:=bn gW hb;replace jI:=bn jI hb;replace mY:=bn mY hb;replace sN:=bn sN hb;replace HB:=dz HB hb;(try clear hb);(try clear hb2);(try clear hk);(try clear hi)))
    go_ret
    exact ⟨mJ,gp⟩
   ·rw [if_neg c13] at H
    have aph:(L9 == 2) = false:=beq_eq_false_iff_ne.mpr c13
    have aIg:(L9 != 2) = true:=bne_iff_ne.mpr c13
    obtain rfl:=bh H
    go_enter Try.func97,Try.ntmps97
    go_wp2_with (first|((with_reducible refine av (N:=7) rfl ?_);refine ak (by rfl) (N:=7) (by rfl) (cs:=#[Z ab ai,Z ab aj,Z ab az,Z ab aA,Z ab aI,Z ab aD,Z ab aJ,.slice dY aX.length dS,.slice dV aG.length dU]) (t:=25) fU ?_;intro ap4 hg w40 ay hb;have gm:=af.mk (ay);have ap5:=bY HB hg;have ap6:=bY HB hg;replace HB:=dz HB hb;clear hb ay hg)|((with_reducible refine av (N:=8) rfl ?_);refine ak (by rfl) (N:=8) (by rfl) (cs:=#[Z ab aQ,Z ab aN,Z ab bC,Z ab bD,Z ab bU,Z ab bV,Z ab bW]) (t:=29) fU ?_;intro ap7 hg w41 ay hb;have gW:=af.mk (ay);have ap8:=bY HB hg;have ap9:=bY HB hg;have yR:=fG gm hg;have yS:=fH gm hg;replace gm:=bn gm hb;replace HB:=dz HB hb;clear hb ay hg)|((with_reducible refine av (N:=9) rfl ?_);refine ak (by rfl) (N:=9) (by rfl) (cs:=#[Z ab cO,Z ab cZ,Z ab dh,Z ab di]) (t:=31) fU ?_;intro WB hg w42 ay hb;have jI:=af.mk (ay);have aqa:=bY HB hg;have aqb:=bY HB hg;have yT:=fG gm hg;have yU:=fH gm hg;have yV:=fG gW hg;have yX:=fH gW hg;replace gm:=bn gm hb;replace gW:=bn gW hb;replace HB:=dz HB hb;clear hb ay hg)|((with_reducible refine av (N:=11) rfl ?_);refine ak (by rfl) (N:=11) (by rfl) (cs:=#[Z ab fE,Z ab eZ]) (t:=27) fU ?_;intro YM hg w43 ay hb;have mY:=af.mk (ay);have aqc:=bY HB hg;have aqd:=bY HB hg;have yY:=fG gm hg;have yZ:=fH gm hg;have za:=fG gW hg;have zb:=fH gW hg;have ze:=fG jI hg;have zf:=fH jI hg;replace gm:=bn gm hb;replace gW:=bn gW hb;replace jI:=bn jI hb;replace HB:=dz HB hb;clear hb ay hg)|((with_reducible refine av (N:=13) rfl ?_);refine ak (by rfl) (N:=13) (by rfl) (cs:=#[Z ab jh,Z ab ji,Z ab jk,Z ab jl,Z ab jm,Z ab jo]) (t:=81) fU ?_;intro aqe hg w44 ay hb;have sN:=af.mk (ay);have aqf:=bY HB hg;have aqg:=bY HB hg;have zg:=fG gm hg;have zh:=fH gm hg;have zi:=fG gW hg;have zk:=fH gW hg;have zl:=fG jI hg;have zm:=fH jI hg;have Cb:=fG mY hg;have Cc:=fH mY hg;replace gm:=bn gm hb;replace gW:=bn gW hb;replace jI:=bn jI hb;replace mY:=bn mY hb;replace HB:=dz HB hb;clear hb ay hg;have aAo:=yR.out;have aAp:=yS.out;have aoz:=yT.out;have aoA:=yU.out;have aAq:=yY.out;have aAr:=yZ.out;have aAs:=zg.out;have aAt:=zh.out;obtain ⟨ajI,ajJ,ajK,ajL,awL,awM,awN,awO,awP,ajM,ajN,ajO,ajP,awQ,awR,awS,awT,awU⟩:=jS gm.out;have aHM:=yV.out;have aHN:=yX.out;have aHO:=za.out;have aHP:=zb.out;have aA4:=zi.out;have aA5:=zk.out;obtain ⟨awV,awW,awX,awY,awZ,aw0,aw1,aw2,aw3,aw4,aw5,aw6,aw7,aw8⟩:=kz gW.out;have aA6:=ze.out;have aA7:=zf.out;have aj4:=zl.out;have aj5:=zm.out;obtain ⟨aj6,aj7,aj8,aj9,aka,akb,akc,akd⟩:=jA jI.out)|((with_reducible refine aU (f:=84) rfl ?_);refine dn (some 24) rfl rfl Try.func84 aT rfl #[.agg #[Z ab ai,Z ab aj,Z ab az,Z ab aA,Z ab aI,Z ab aD,Z ab aJ,.slice dY aX.length dS,.slice dV aG.length dU],.agg #[Z ab aQ,Z ab aN,Z ab bC,Z ab bD,Z ab bU,Z ab bV,Z ab bW],.agg #[Z ab cO,Z ab cZ,Z ab dh,Z ab di],Z ab a3,.slice A5 l5.length c5] rfl jB ?_;(with_reducible refine (dw.calls k ai aj az aA aI aD aJ _ _ aX _ _ aG aQ aN bC bD bU bV bW cO cZ dh di a3 _ _ l5 X3 axR WA _ ?dG ?dH ?eP ?eQ ?Gn ?Gp A8.out).mono ?_);(case dG=>repeat (first|exact (Kd.bz iI.out HB.out)|(with_reducible refine Kd.bJ ?_ _)|(with_reducible refine Kd.bK ?_ _)|(with_reducible refine Kd.bZ ?_)));(case dH=>exact iO.out);(case eP=>repeat (first|exact (Kd.bz iB.out HB.out)|(with_reducible refine Kd.bJ ?_ _)|(with_reducible refine Kd.bK ?_ _)|(with_reducible refine Kd.bZ ?_)));(case eQ=>exact iP.out);(case Gn=>repeat (first|exact (Kd.bz HR5.out HB.out)|(with_reducible refine Kd.bJ ?_ _)|(with_reducible refine Kd.bK ?_ _)|(with_reducible refine Kd.bZ ?_)));(case Gp=>exact HC5.out);rintro e w57 ⟨aDG,rfl,ho0,hb⟩;refine ⟨_,rfl,?_⟩;have xO:=af.mk (Kd.kv (Kd.uw ho0 (g:=WB) (o:=.cells #[Z ab cO,Z ab cZ,Z ab dh,Z ab di] 31 (0,0)) iK) (fM gp));replace gm:=bn gm hb;replace gW:=bn gW hb;replace jI:=bn jI hb;replace mY:=bn mY hb;replace sN:=bn sN hb;replace HB:=dz HB hb;(try clear hb);(try clear hb2);(try clear hk);(try clear hi);(try clear ho0);obtain ⟨ajQ,ajR,ajS,ajT,aw9,axa,axb,ajU,ajV,ajW,ajX,axc,axd,axe⟩:=kz gW.out;have aAu:=Cb.out;have aAv:=Cc.out;obtain ⟨ake,akf,akg,akh⟩:=iQ mY.out)|((with_reducible refine aU (f:=92) rfl ?_);refine dn (some 35) rfl rfl Try.func92 aT rfl #[.agg #[Z ab aQ,Z ab aN,Z ab bC,Z ab bD,Z ab bU,Z ab bV,Z ab bW],.agg #[Z ab fE,Z ab eZ],.slice A5 l5.length c5] rfl jB ?_;(with_reducible refine (bR.calls k aQ aN bC bD bU bV bW fE eZ _ _ l5 aDE aDF X4 _ ?dG ?dH Rs.out).mono ?_);(case dG=>repeat (first|exact (Kd.bz HR5.out HB.out)|(with_reducible refine Kd.bJ ?_ _)|(with_reducible refine Kd.bK ?_ _)|(with_reducible refine Kd.bZ ?_)));(case dH=>exact HC5.out);rintro e w61 ⟨aIj,rfl,ho0,hb⟩;refine ⟨_,rfl,?_⟩;have YN:=af.mk (Kd.kv (Kd.uw ho0 (g:=YM) (o:=.cells #[Z ab fE,Z ab eZ] 27 (0,0)) iK) (fM gp));replace xO:=wh xO hb;replace gm:=bn gm hb;replace gW:=bn gW hb;replace jI:=bn jI hb;replace mY:=bn mY hb;replace sN:=bn sN hb;replace HB:=dz HB hb;(try clear hb);(try clear hb2);(try clear hk);(try clear hi);(try clear ho0);obtain ⟨axS,axT,aSg,aSh,aSi,aSj,aSk,axU,axV,aSl,aSm,aSn,aSo,aSp⟩:=kz gW.out;obtain ⟨abp,abq,abr,abt,axW,axX,abu,abv,abw,abx,axY,axZ⟩:=Aa sN.out;obtain ⟨aXJ,aXK,aXL⟩:=Kd.lM xO.out;subst aXL)|((with_reducible refine aU (f:=96) rfl ?_);refine dn (some 46) rfl rfl Try.func96 aT rfl #[.agg #[Z ab aQ,Z ab aN,Z ab bC,Z ab bD,Z ab bU,Z ab bV,Z ab bW],Z ab a3,.slice aXJ X3.length aXK,.agg #[Z ab jh,Z ab ji,Z ab jk,Z ab jl,Z ab jm,Z ab jo]] rfl jB ?_;(with_reducible refine (bP.calls k aQ aN bC bD bU bV bW a3 _ _ X3 jh ji jk jl jm jo L9 _ ?dG ?dH A12.out).mono ?_);(case dG=>repeat (first|exact (Kd.fK xO.out).2.2|(with_reducible refine Kd.bJ ?_ _)|(with_reducible refine Kd.bK ?_ _)|(with_reducible refine Kd.bZ ?_)));(case dH=>exact (Kd.fK xO.out).2.1);rintro e w65 ⟨rfl,hb⟩;refine ⟨_,rfl,?_⟩;replace xO:=wh xO hb;replace YN:=wh YN hb;replace gm:=bn gm hb;replace gW:=bn gW hb;replace jI:=bn jI hb;replace mY:=bn mY hb;replace sN:=bn sN hb;replace HB:=dz HB hb;(try clear hb);(try clear hb2);(try clear hk);(try clear hi)))
    go_ret
    exact ⟨mJ,gp⟩
  ·rw [if_neg c11] at H
   have I9:(X4 == 0) = false:=beq_eq_false_iff_ne.mpr c11
   have ap3:(X4 != 0) = true:=bne_iff_ne.mpr c11
   obtain rfl:=bh H
   go_enter Try.func97,Try.ntmps97
   go_wp2_with (first|((with_reducible refine av (N:=7) rfl ?_);refine ak (by rfl) (N:=7) (by rfl) (cs:=#[Z ab ai,Z ab aj,Z ab az,Z ab aA,Z ab aI,Z ab aD,Z ab aJ,.slice dY aX.length dS,.slice dV aG.length dU]) (t:=25) fU ?_;intro ap4 hg w66 ay hb;have gm:=af.mk (ay);have ap5:=bY HB hg;have ap6:=bY HB hg;replace HB:=dz HB hb;clear hb ay hg)|((with_reducible refine av (N:=8) rfl ?_);refine ak (by rfl) (N:=8) (by rfl) (cs:=#[Z ab aQ,Z ab aN,Z ab bC,Z ab bD,Z ab bU,Z ab bV,Z ab bW]) (t:=29) fU ?_;intro ap7 hg w67 ay hb;have gW:=af.mk (ay);have ap8:=bY HB hg;have ap9:=bY HB hg;have yR:=fG gm hg;have yS:=fH gm hg;replace gm:=bn gm hb;replace HB:=dz HB hb;clear hb ay hg)|((with_reducible refine av (N:=9) rfl ?_);refine ak (by rfl) (N:=9) (by rfl) (cs:=#[Z ab cO,Z ab cZ,Z ab dh,Z ab di]) (t:=31) fU ?_;intro WB hg w68 ay hb;have jI:=af.mk (ay);have aqa:=bY HB hg;have aqb:=bY HB hg;have yT:=fG gm hg;have yU:=fH gm hg;have yV:=fG gW hg;have yX:=fH gW hg;replace gm:=bn gm hb;replace gW:=bn gW hb;replace HB:=dz HB hb;clear hb ay hg)|((with_reducible refine av (N:=11) rfl ?_);refine ak (by rfl) (N:=11) (by rfl) (cs:=#[Z ab fE,Z ab eZ]) (t:=27) fU ?_;intro YM hg w69 ay hb;have mY:=af.mk (ay);have aqc:=bY HB hg;have aqd:=bY HB hg;have yY:=fG gm hg;have yZ:=fH gm hg;have za:=fG gW hg;have zb:=fH gW hg;have ze:=fG jI hg;have zf:=fH jI hg;replace gm:=bn gm hb;replace gW:=bn gW hb;replace jI:=bn jI hb;replace HB:=dz HB hb;clear hb ay hg)|((with_reducible refine av (N:=13) rfl ?_);refine ak (by rfl) (N:=13) (by rfl) (cs:=#[Z ab jh,Z ab ji,Z ab jk,Z ab jl,Z ab jm,Z ab jo]) (t:=81) fU ?_;intro aqe hg w70 ay hb;have sN:=af.mk (ay);have aqf:=bY HB hg;have aqg:=bY HB hg;have zg:=fG gm hg;have zh:=fH gm hg;have zi:=fG gW hg;have zk:=fH gW hg;have zl:=fG jI hg;have zm:=fH jI hg;have Cb:=fG mY hg;have Cc:=fH mY hg;replace gm:=bn gm hb;replace gW:=bn gW hb;replace jI:=bn jI hb;replace mY:=bn mY hb;replace HB:=dz HB hb;clear hb ay hg;have aAy:=yR.out;have aAz:=yS.out;have aAA:=yT.out;have aAB:=yU.out;have aHb:=yY.out;have aHc:=yZ.out;have aAC:=zg.out;have aAD:=zh.out;obtain ⟨avr,avs,avt,avu,aSq,aSr,aSs,aSt,aSu,avv,avw,avx,avy,aSv,aSw,aSx,aSy,aSz⟩:=jS gm.out;have aAE:=yV.out;have aAF:=yX.out;have aHd:=za.out;have aHe:=zb.out;have aHS:=zi.out;have aHT:=zk.out;obtain ⟨aSA,aSB,aSC,aSD,aSE,aSF,aSG,aSH,aSI,aSJ,aSK,aSL,aSM,aSN⟩:=kz gW.out;have aHh:=ze.out;have aHi:=zf.out;have aAG:=zl.out;have aAH:=zm.out;obtain ⟨avz,avA,avB,avC,avD,avE,avF,avG⟩:=jA jI.out)|((with_reducible refine aU (f:=84) rfl ?_);refine dn (some 24) rfl rfl Try.func84 aT rfl #[.agg #[Z ab ai,Z ab aj,Z ab az,Z ab aA,Z ab aI,Z ab aD,Z ab aJ,.slice dY aX.length dS,.slice dV aG.length dU],.agg #[Z ab aQ,Z ab aN,Z ab bC,Z ab bD,Z ab bU,Z ab bV,Z ab bW],.agg #[Z ab cO,Z ab cZ,Z ab dh,Z ab di],Z ab a3,.slice A5 l5.length c5] rfl jB ?_;(with_reducible refine (dw.calls k ai aj az aA aI aD aJ _ _ aX _ _ aG aQ aN bC bD bU bV bW cO cZ dh di a3 _ _ l5 X3 axR WA _ ?dG ?dH ?eP ?eQ ?Gn ?Gp A8.out).mono ?_);(case dG=>repeat (first|exact (Kd.bz iI.out HB.out)|(with_reducible refine Kd.bJ ?_ _)|(with_reducible refine Kd.bK ?_ _)|(with_reducible refine Kd.bZ ?_)));(case dH=>exact iO.out);(case eP=>repeat (first|exact (Kd.bz iB.out HB.out)|(with_reducible refine Kd.bJ ?_ _)|(with_reducible refine Kd.bK ?_ _)|(with_reducible refine Kd.bZ ?_)));(case eQ=>exact iP.out);(case Gn=>repeat (first|exact (Kd.bz HR5.out HB.out)|(with_reducible refine Kd.bJ ?_ _)|(with_reducible refine Kd.bK ?_ _)|(with_reducible refine Kd.bZ ?_)));(case Gp=>exact HC5.out);rintro e w83 ⟨aDG,rfl,ho0,hb⟩;refine ⟨_,rfl,?_⟩;have xO:=af.mk (Kd.kv (Kd.uw ho0 (g:=WB) (o:=.cells #[Z ab cO,Z ab cZ,Z ab dh,Z ab di] 31 (0,0)) iK) (fM gp));replace gm:=bn gm hb;replace gW:=bn gW hb;replace jI:=bn jI hb;replace mY:=bn mY hb;replace sN:=bn sN hb;replace HB:=dz HB hb;(try clear hb);(try clear hb2);(try clear hk);(try clear hi);(try clear ho0);obtain ⟨aSO,aSP,aSQ,aSR,aSS,aST,aSU,aSV,aSW,aSX,aSY,aSZ,aS0,aS1⟩:=kz gW.out;have a2z:=Cb.out;have a2A:=Cc.out;obtain ⟨aS2,aS3,aS4,aS5⟩:=iQ mY.out)|((with_reducible refine aU (f:=92) rfl ?_);refine dn (some 35) rfl rfl Try.func92 aT rfl #[.agg #[Z ab aQ,Z ab aN,Z ab bC,Z ab bD,Z ab bU,Z ab bV,Z ab bW],.agg #[Z ab fE,Z ab eZ],.slice A5 l5.length c5] rfl jB ?_;(with_reducible refine (bR.calls k aQ aN bC bD bU bV bW fE eZ _ _ l5 aDE aDF X4 _ ?dG ?dH Rs.out).mono ?_);(case dG=>repeat (first|exact (Kd.bz HR5.out HB.out)|(with_reducible refine Kd.bJ ?_ _)|(with_reducible refine Kd.bK ?_ _)|(with_reducible refine Kd.bZ ?_)));(case dH=>exact HC5.out);rintro e w87 ⟨aIj,rfl,ho0,hb⟩;refine ⟨_,rfl,?_⟩;have YN:=af.mk (Kd.kv (Kd.uw ho0 (g:=YM) (o:=.cells #[Z ab fE,Z ab eZ] 27 (0,0)) iK) (fM gp));replace xO:=wh xO hb;replace gm:=bn gm hb;replace gW:=bn gW hb;replace jI:=bn jI hb;replace mY:=bn mY hb;replace sN:=bn sN hb;replace HB:=dz HB hb;(try clear hb);(try clear hb2);(try clear hk);(try clear hi);(try clear ho0)))
   go_ret
   exact ⟨mJ,gp⟩
 ·rw [if_neg c9] at H
  have JM:(WA == 0) = false:=beq_eq_false_iff_ne.mpr c9
  have aDD:(WA != 0) = true:=bne_iff_ne.mpr c9
  obtain rfl:=bh H
  go_enter Try.func97,Try.ntmps97
  go_wp2_with (first|((with_reducible refine av (N:=7) rfl ?_);refine ak (by rfl) (N:=7) (by rfl) (cs:=#[Z ab ai,Z ab aj,Z ab az,Z ab aA,Z ab aI,Z ab aD,Z ab aJ,.slice dY aX.length dS,.slice dV aG.length dU]) (t:=25) fU ?_;intro ap4 hg w88 ay hb;have gm:=af.mk (ay);have ap5:=bY HB hg;have ap6:=bY HB hg;replace HB:=dz HB hb;clear hb ay hg)|((with_reducible refine av (N:=8) rfl ?_);refine ak (by rfl) (N:=8) (by rfl) (cs:=#[Z ab aQ,Z ab aN,Z ab bC,Z ab bD,Z ab bU,Z ab bV,Z ab bW]) (t:=29) fU ?_;intro ap7 hg w89 ay hb;have gW:=af.mk (ay);have ap8:=bY HB hg;have ap9:=bY HB hg;have yR:=fG gm hg;have yS:=fH gm hg;replace gm:=bn gm hb;replace HB:=dz HB hb;clear hb ay hg)|((with_reducible refine av (N:=9) rfl ?_);refine ak (by rfl) (N:=9) (by rfl) (cs:=#[Z ab cO,Z ab cZ,Z ab dh,Z ab di]) (t:=31) fU ?_;intro WB hg w90 ay hb;have jI:=af.mk (ay);have aqa:=bY HB hg;have aqb:=bY HB hg;have yT:=fG gm hg;have yU:=fH gm hg;have yV:=fG gW hg;have yX:=fH gW hg;replace gm:=bn gm hb;replace gW:=bn gW hb;replace HB:=dz HB hb;clear hb ay hg)|((with_reducible refine av (N:=11) rfl ?_);refine ak (by rfl) (N:=11) (by rfl) (cs:=#[Z ab fE,Z ab eZ]) (t:=27) fU ?_;intro YM hg w91 ay hb;have mY:=af.mk (ay);have aqc:=bY HB hg;have aqd:=bY HB hg;have yY:=fG gm hg;have yZ:=fH gm hg;have za:=fG gW hg;have zb:=fH gW hg;have ze:=fG jI hg;have zf:=fH jI hg;replace gm:=bn gm hb;replace gW:=bn gW hb;replace jI:=bn jI hb;replace HB:=dz HB hb;clear hb ay hg)|((with_reducible refine av (N:=13) rfl ?_);refine ak (by rfl) (N:=13) (by rfl) (cs:=#[Z ab jh,Z ab ji,Z ab jk,Z ab jl,Z ab jm,Z ab jo]) (t:=81) fU ?_;intro aqe hg w92 ay hb;have sN:=af.mk (ay);have aqf:=bY HB hg;have aqg:=bY HB hg;have zg:=fG gm hg;have zh:=fH gm hg;have zi:=fG gW hg;have zk:=fH gW hg;have zl:=fG jI hg;have zm:=fH jI hg;have Cb:=fG mY hg;have Cc:=fH mY hg;replace gm:=bn gm hb;replace gW:=bn gW hb;replace jI:=bn jI hb;replace mY:=bn mY hb;replace HB:=dz HB hb;clear hb ay hg;have a2B:=yR.out;have a2C:=yS.out;have aHt:=yT.out;have aHu:=yU.out;have aAI:=yY.out;have aAJ:=yZ.out;have a2D:=zg.out;have a2E:=zh.out;obtain ⟨aS6,aS7,aS8,aS9,aTa,aTb,aTc,aTd,aTe,aTf,aTg,aTh,aTi,aTj,aTk,aTl,aTm,aTn⟩:=jS gm.out;have a2F:=yV.out;have a2G:=yX.out;have a2H:=za.out;have a2I:=zb.out;have aXM:=zi.out;have aXN:=zk.out;obtain ⟨aIk,aIl,aIm,aIn,aIo,aIp,aIq,aIr,aIs,aIt,aIu,aIv,aIw,aIx⟩:=kz gW.out;have aXO:=ze.out;have aXP:=zf.out;have aXQ:=zl.out;have aXR:=zm.out;obtain ⟨aIy,aIz,aIA,aIB,aIC,aID,aIE,aIF⟩:=jA jI.out)|((with_reducible refine aU (f:=84) rfl ?_);refine dn (some 24) rfl rfl Try.func84 aT rfl #[.agg #[Z ab ai,Z ab aj,Z ab az,Z ab aA,Z ab aI,Z ab aD,Z ab aJ,.slice dY aX.length dS,.slice dV aG.length dU],.agg #[Z ab aQ,Z ab aN,Z ab bC,Z ab bD,Z ab bU,Z ab bV,Z ab bW],.agg #[Z ab cO,Z ab cZ,Z ab dh,Z ab di],Z ab a3,.slice A5 l5.length c5] rfl jB ?_;(with_reducible refine (dw.calls k ai aj az aA aI aD aJ _ _ aX _ _ aG aQ aN bC bD bU bV bW cO cZ dh di a3 _ _ l5 X3 axR WA _ ?dG ?dH ?eP ?eQ ?Gn ?Gp A8.out).mono ?_);(case dG=>repeat (first|exact (Kd.bz iI.out HB.out)|(with_reducible refine Kd.bJ ?_ _)|(with_reducible refine Kd.bK ?_ _)|(with_reducible refine Kd.bZ ?_)));(case dH=>exact iO.out);(case eP=>repeat (first|exact (Kd.bz iB.out HB.out)|(with_reducible refine Kd.bJ ?_ _)|(with_reducible refine Kd.bK ?_ _)|(with_reducible refine Kd.bZ ?_)));(case eQ=>exact iP.out);(case Gn=>repeat (first|exact (Kd.bz HR5.out HB.out)|(with_reducible refine Kd.bJ ?_ _)|(with_reducible refine Kd.bK ?_ _)|(with_reducible refine Kd.bZ ?_)));(case Gp=>exact HC5.out);rintro e a6c ⟨aDG,rfl,ho0,hb⟩;refine ⟨_,rfl,?_⟩;have xO:=af.mk (Kd.kv (Kd.uw ho0 (g:=WB) (o:=.cells #[Z ab cO,Z ab cZ,Z ab dh,Z ab di] 31 (0,0)) iK) (fM gp));replace gm:=bn gm hb;replace gW:=bn gW hb;replace jI:=bn jI hb;replace mY:=bn mY hb;replace sN:=bn sN hb;replace HB:=dz HB hb;(try clear hb);(try clear hb2);(try clear hk);(try clear hi);(try clear ho0)))
  go_ret
  exact ⟨mJ,gp⟩
end Go.Proofs.Ytmhaiihjfgfaoaa.Pr
end
