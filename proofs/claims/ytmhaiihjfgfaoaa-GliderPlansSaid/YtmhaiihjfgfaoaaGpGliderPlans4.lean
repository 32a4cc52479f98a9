import Derived.Test.YtmhaiihjfgfaoaaGpGliderPlans1
import Derived.Test.YtmhaiihjfgfaoaaGpGliderPlans3
set_option linter.unusedVariables false
set_option linter.unusedSimpArgs false
open Option.some renaming inj → bh
open Option renaming bind_some → aE
open List renaming setIfInBounds_toArray → ap, set_cons_zero → aq, set_cons_succ → ar
open Go.World renaming block_lt_of_cell? → bd
set_option maxRecDepth 100000
set_option maxHeartbeats 80000000
open Go.Value renaming int → Z
open Go.IntKind renaming i64 → ab
open Bool renaming true → ac, false → al
open Go.RowKit renaming wrap64 → an
open Go renaming World → ao
section
namespace Go.Proofs.Ytmhaiihjfgfaoaa.Pr
open Go.RowKit Go.Proofs.YtmhaiihjfgfaoaaW.bu Go.Proofs.YtmhaiihjfgfaoaaW.dB Go.Proofs.YtmhaiihjfgfaoaaW.ek
attribute [local go_sem] iq iw jq jr iy
mutual
def ax.j0:Nat→Bool→Int→Int→Int→Int→Int→Int→Int→List Bool→List (qK)→Option (Int)
 |0,_,_,_,_,_,_,_,_,_,_=>none
 |k+1,x71,EJ,EK,Lf,Lg,H9,Ia,zL,Ib,uX=>if x71 = true then (some 2) else (if (Ib.length:Int) = (an (EJ*EK)) then (ax.j1 k ((uX.length:Int) != (an ((an ((an (H9*Ia))*EJ))*EK))) EJ EK Lf Lg H9 Ia zL Ib uX) else (ax.j1 k true EJ EK Lf Lg H9 Ia zL Ib uX))
def ax.j1:Nat→Bool→Int→Int→Int→Int→Int→Int→Int→List Bool→List (qK)→Option (Int)
 |0,_,_,_,_,_,_,_,_,_,_=>none
 |k+1,x97,EJ,EK,Lf,Lg,H9,Ia,zL,Ib,uX=>if x97 = true then (some 2) else (ax.l0 k 0 EJ EK Lf Lg H9 Ia zL Ib uX)
def ax.l0:Nat→Int→Int→Int→Int→Int→Int→Int→Int→List Bool→List (qK)→Option (Int)
 |0,_,_,_,_,_,_,_,_,_,_=>none
 |k+1,x3,EJ,EK,Lf,Lg,H9,Ia,zL,Ib,uX=>if x3 < (uX.length:Int) then (if 0≤x3 then ((bG.f ((bE uX x3).f0.f0) ((bE uX x3).f0.f1) (an (-zL)) zL).bind fun t109=>(if t109 = true then ((bG.f ((bE uX x3).f1.f0) ((bE uX x3).f1.f1) (an (-zL)) zL).bind fun t111=>(if t111 = true then (ax.l0 k (an (x3+1)) EJ EK Lf Lg H9 Ia zL Ib uX) else (some 2))) else (some 2))) else (none)) else (some 0)
end
def ax.f (k:Nat) (ai:Int) (aj:Int) (az:Int) (aA:Int) (aI:Int) (aD:Int) (aJ:Int) (aX:List Bool) (aG:List (qK)):Option (Int):=if ai < 1 then (ax.j0 k true ai aj az aA aI aD aJ aX aG) else (if ai > 12 then (ax.j0 k true ai aj az aA aI aD aJ aX aG) else (if aj < 1 then (ax.j0 k true ai aj az aA aI aD aJ aX aG) else (if aj > 12 then (ax.j0 k true ai aj az aA aI aD aJ aX aG) else (if az < 100 then (ax.j0 k true ai aj az aA aI aD aJ aX aG) else (if az > 65536 then (ax.j0 k true ai aj az aA aI aD aJ aX aG) else (if aA < 1 then (ax.j0 k true ai aj az aA aI aD aJ aX aG) else (if aA > 1048576 then (ax.j0 k true ai aj az aA aI aD aJ aX aG) else (if aI < 1 then (ax.j0 k true ai aj az aA aI aD aJ aX aG) else (if aI > 16 then (ax.j0 k true ai aj az aA aI aD aJ aX aG) else (if aD < 1 then (ax.j0 k true ai aj az aA aI aD aJ aX aG) else (if aD > 3 then (ax.j0 k true ai aj az aA aI aD aJ aX aG) else (if aJ < 0 then (ax.j0 k true ai aj az aA aI aD aJ aX aG) else (ax.j0 k (decide (aJ > 5000)) ai aj az aA aI aD aJ aX aG)))))))))))))
def ax.T8:Bool × List (List Nat × List Nat):=(true,[([],[]),([0],[0]),([],[]),([1,2],[1,2]),([3],[3]),([4],[4]),([],[]),([6],[6]),([7],[7]),([],[]),([9],[9]),([5,8,10],[5,8,10]),([11],[11]),([12,11],[12]),([13],[13]),([14,13],[13,14]),([13],[13]),([15,16,13],[13,15,16]),([17,13],[13,17]),([18,13],[13,18]),([13],[13]),([20,13],[13,20]),([21,13],[13,21]),([13],[13]),([23,13],[13,23]),([19,22,24,13,13],[13,19,22,24]),([25,13],[13,25]),([13,26],[13,26])])
def ax.B8:List Nat:=[0,1,0,7,15,31,0,64,192,0,512,2047,4095,8191,16383,32767,16383,131071,262143,524287,16383,1064959,3162111,16383,8404991,33554431,67108863,134217727]
theorem ax.aDg:rX .any (opsOf Try.f26 8) = ax.T8:=by kernel_rfl
theorem ax.apr:oF ax.T8.2 ax.B8 = true:=by kernel_rfl
theorem ax.calls (k:Nat) (ai:Int) (aj:Int) (az:Int) (aA:Int) (aI:Int) (aD:Int) (aJ:Int) (dY:Option Addr) (dS:Nat) (aX:List Bool) (dV:Option Addr) (dU:Nat) (aG:List (qK)) (r:Int) (w:ao) (jC:Kd.C Kd.bool w dY aX.length aX) (jD:aX.length≤dS) (jE:Kd.C Dt w dV aG.length aG) (jF:aG.length≤dU) (h:ax.f k ai aj az aA aI aD aJ aX aG = some r):
 Calls Try.prog 26 #[.agg #[Z ab ai,Z ab aj,Z ab az,Z ab aA,Z ab aI,Z ab aD,Z ab aJ,.slice dY aX.length dS,.slice dV aG.length dU]] w fun e w'=>e = .returned (Z ab r)∧Below w.heap.size w w':=by
 have xS:=Try.underlying25
 have oO:=Try.underlying27
 have iI:=af.mk jC
 have iO:=af.mk jD
 clear jC jD
 have iB:=af.mk jE
 have iP:=af.mk jF
 clear jE jF
 have HB:=af.mk (Below.refl w.heap.size w)
 have H:(if ai < 1 then (ax.j0 k true ai aj az aA aI aD aJ aX aG) else (if ai > 12 then (ax.j0 k true ai aj az aA aI aD aJ aX aG) else (if aj < 1 then (ax.j0 k true ai aj az aA aI aD aJ aX aG) else (if aj > 12 then (ax.j0 k true ai aj az aA aI aD aJ aX aG) else (if az < 100 then (ax.j0 k true ai aj az aA aI aD aJ aX aG) else (if az > 65536 then (ax.j0 k true ai aj az aA aI aD aJ aX aG) else (if aA < 1 then (ax.j0 k true ai aj az aA aI aD aJ aX aG) else (if aA > 1048576 then (ax.j0 k true ai aj az aA aI aD aJ aX aG) else (if aI < 1 then (ax.j0 k true ai aj az aA aI aD aJ aX aG) else (if aI > 16 then (ax.j0 k true ai aj az aA aI aD aJ aX aG) else (if aD < 1 then (ax.j0 k true ai aj az aA aI aD aJ aX aG) else (if aD > 3 then (ax.j0 k true ai aj az aA aI aD aJ aX aG) else (if aJ < 0 then (ax.j0 k true ai aj az aA aI aD aJ aX aG) else (ax.j0 k (decide (aJ > 5000)) ai aj az aA aI aD aJ aX aG)))))))))))))) = some r:=h
 clear h
 have HC2:=af.mk H
 clear H
 go_enter Try.func26,Try.ntmps26
 go_upto_region 1 with (first|((with_reducible refine av (N:=1) rfl ?_);(try (refine pU (by rfl) ?_;dsimp only));refine ak (by rfl) (N:=1) (by rfl) (cs:=#[Z ab ai,Z ab aj,Z ab az,Z ab aA,Z ab aI,Z ab aD,Z ab aJ,.slice dY aX.length dS,.slice dV aG.length dU]) (t:=25) fU ?_;intro o5 hg w3 ay hb;have kI:=af.mk (ay);have a0L:=bY HB hg;have a0M:=bY HB hg;replace HB:=dz HB hb;clear hb ay hg))
 (try simp only [Act.put,ap,aq,ar])
 go_cut [71] (fun v71 wc=>∃ (kq:Nat) (ai7:Bool),v71 = .bool ai7∧af (ax.j0 kq ai7 ai aj az aA aI aD aJ aX aG = some r)∧af (kq≤k)∧af (wc.heap[o5]? = some (.cells #[Z ab ai,Z ab aj,Z ab az,Z ab aA,Z ab aI,Z ab aD,Z ab aJ,(.slice dY aX.length dS),(.slice dV aG.length dU)] 25 (0,0)))∧af (Below w.heap.size w wc))
 case first =>
  have H:=HC2.out
  clear HC2
  by_cases c4:ai < 1
  ·rw [if_pos c4] at H
   have rZ:decide (ai < 1) = true:=decide_eq_true c4
   clear c4
   (first|rw [rZ]|(simp only [eY,fo];rw [rZ])|skip)
   have H':=af.mk H
   clear H
   obtain ⟨aab,aac,aad,aae,aaf,aag,aah,aai,aaj,aak,aal,aam,aan,aao,aap,aaq,aar,aas⟩:=jS kI.out
   go_wp2
   go_meet
   case rel=>exact ⟨_,(true),om,H',⟨GH⟩,⟨iK⟩,⟨gp⟩⟩
  ·rw [if_neg c4] at H
   have rZ:decide (ai < 1) = false:=decide_eq_false c4
   clear c4
   (first|rw [rZ]|(simp only [eY,fo];rw [rZ])|skip)
   by_cases c6:ai > 12
   ·rw [if_pos c6] at H
    have Du:decide (12 < ai) = true:=decide_eq_true c6
    clear c6
    have H':=af.mk H
    clear H
    obtain ⟨wD,wE,Cu,Cv,Fe,Ff,JK,MV,MW,wF,wG,Cw,Cx,Fg,Fh,JL,MX,MZ⟩:=jS kI.out
    go_wp2
    go_meet
    case rel=>exact ⟨_,(true),om,H',⟨GH⟩,⟨iK⟩,⟨gp⟩⟩
   ·rw [if_neg c6] at H
    have Du:decide (12 < ai) = false:=decide_eq_false c6
    clear c6
    by_cases c8:aj < 1
    ·rw [if_pos c8] at H
     have GJ:decide (aj < 1) = true:=decide_eq_true c8
     clear c8
     have H':=af.mk H
     clear H
     obtain ⟨yB,yC,Ic,Ie,Qt,Qu,aat,aau,aav,yD,yE,Ig,Ih,Qv,Qw,aaw,aax,aay⟩:=jS kI.out
     go_wp2
     go_meet
     case rel=>exact ⟨_,(true),om,H',⟨GH⟩,⟨iK⟩,⟨gp⟩⟩
    ·rw [if_neg c8] at H
     have GJ:decide (aj < 1) = false:=decide_eq_false c8
     clear c8
     by_cases c10:aj > 12
     ·rw [if_pos c10] at H
      have Cs:decide (12 < aj) = true:=decide_eq_true c10
      clear c10
      have H':=af.mk H
      clear H
      obtain ⟨uf,ug,wV,wW,BI,BJ,Hy,SI,SK,uh,ui,wX,wY,BK,BL,Hz,SL,SN⟩:=jS kI.out
      go_wp2
      go_meet
      case rel=>exact ⟨_,(true),om,H',⟨GH⟩,⟨iK⟩,⟨gp⟩⟩
     ·rw [if_neg c10] at H
      have Cs:decide (12 < aj) = false:=decide_eq_false c10
      clear c10
      by_cases c12:az < 100
      ·rw [if_pos c12] at H
       have Yu:decide (az < 100) = true:=decide_eq_true c12
       clear c12
       have H':=af.mk H
       clear H
       obtain ⟨sV,sW,zw,zx,GL,GM,Np,aaz,aaA,sZ,tq,zy,zz,GN,GQ,Nq,aaB,aaC⟩:=jS kI.out
       go_wp2
       go_meet
       case rel=>exact ⟨_,(true),om,H',⟨GH⟩,⟨iK⟩,⟨gp⟩⟩
      ·rw [if_neg c12] at H
       have Yu:decide (az < 100) = false:=decide_eq_false c12
       clear c12
       by_cases c14:az > 65536
       ·rw [if_pos c14] at H
        have ai8:decide (65536 < az) = true:=decide_eq_true c14
        clear c14
        have H':=af.mk H
        clear H
        obtain ⟨oG,oH,rH,rJ,tu,tC,zA,Bv,Bw,oI,oJ,rM,rO,tF,tH,zB,Bz,BA⟩:=jS kI.out
        go_wp2
        go_meet
        case rel=>exact ⟨_,(true),om,H',⟨GH⟩,⟨iK⟩,⟨gp⟩⟩
       ·rw [if_neg c14] at H
        have ai8:decide (65536 < az) = false:=decide_eq_false c14
        clear c14
        by_cases c16:aA < 1
        ·rw [if_pos c16] at H
         have EB:decide (aA < 1) = true:=decide_eq_true c16
         clear c16
         have H':=af.mk H
         clear H
         obtain ⟨tJ,tK,wH,wI,DD,DF,Kz,SS,SV,tL,tN,wJ,wK,DI,DJ,KA,SX,SY⟩:=jS kI.out
         go_wp2
         go_meet
         case rel=>exact ⟨_,(true),om,H',⟨GH⟩,⟨iK⟩,⟨gp⟩⟩
        ·rw [if_neg c16] at H
         have EB:decide (aA < 1) = false:=decide_eq_false c16
         clear c16
         by_cases c18:aA > 1048576
         ·rw [if_pos c18] at H
          have Rt:decide (1048576 < aA) = true:=decide_eq_true c18
          clear c18
          have H':=af.mk H
          clear H
          obtain ⟨uR,uS,wL,wM,Bc,Bd,GR,S9,Ta,uT,uU,wN,wO,Be,Bf,GU,Tc,Td⟩:=jS kI.out
          go_wp2
          go_meet
          case rel=>exact ⟨_,(true),om,H',⟨GH⟩,⟨iK⟩,⟨gp⟩⟩
         ·rw [if_neg c18] at H
          have Rt:decide (1048576 < aA) = false:=decide_eq_false c18
          clear c18
          by_cases c20:aI < 1
          ·rw [if_pos c20] at H
           have ai9:decide (aI < 1) = true:=decide_eq_true c20
           clear c20
           have H':=af.mk H
           clear H
           obtain ⟨tO,tQ,DK,DL,DN,DR,DT,KS,KT,tT,tV,DU,DV,DW,DX,DY,KU,KV⟩:=jS kI.out
           go_wp2
           go_meet
           case rel=>exact ⟨_,(true),om,H',⟨GH⟩,⟨iK⟩,⟨gp⟩⟩
          ·rw [if_neg c20] at H
           have ai9:decide (aI < 1) = false:=decide_eq_false c20
           clear c20
           by_cases c22:aI > 16
           ·rw [if_pos c22] at H
            have aja:decide (16 < aI) = true:=decide_eq_true c22
            clear c22
            have H':=af.mk H
            clear H
            obtain ⟨Bg,Bh,GV,GX,GY,GZ,KC,NR,NS,Bi,Bj,G5,G6,G7,G8,KD,NT,NU⟩:=jS kI.out
            go_wp2
            go_meet
            case rel=>exact ⟨_,(true),om,H',⟨GH⟩,⟨iK⟩,⟨gp⟩⟩
           ·rw [if_neg c22] at H
            have aja:decide (16 < aI) = false:=decide_eq_false c22
            clear c22
            by_cases c24:aD < 1
            ·rw [if_pos c24] at H
             have ajb:decide (aD < 1) = true:=decide_eq_true c24
             clear c24
             have H':=af.mk H
             clear H
             obtain ⟨zC,zD,DZ,D5,KE,KF,KG,Te,Tf,zF,zG,D6,D7,KH,KI,KJ,Tg,Ti⟩:=jS kI.out
             go_wp2
             go_meet
             case rel=>exact ⟨_,(true),om,H',⟨GH⟩,⟨iK⟩,⟨gp⟩⟩
            ·rw [if_neg c24] at H
             have ajb:decide (aD < 1) = false:=decide_eq_false c24
             clear c24
             by_cases Xr:aD > 3
             ·rw [if_pos Xr] at H
              have Yv:decide (3 < aD) = true:=decide_eq_true Xr
              clear Xr
              have H':=af.mk H
              clear H
              obtain ⟨Bl,Bn,Bo,Bp,D8,D9,Ea,aaD,aaE,Bq,Br,Bt,Bu,Eb,Ec,Ed,aaF,aaG⟩:=jS kI.out
              go_wp2
              go_meet
              case rel=>exact ⟨_,(true),om,H',⟨GH⟩,⟨iK⟩,⟨gp⟩⟩
             ·rw [if_neg Xr] at H
              have Yv:decide (3 < aD) = false:=decide_eq_false Xr
              clear Xr
              by_cases c28:aJ < 0
              ·rw [if_pos c28] at H
               have ajc:decide (aJ < 0) = true:=decide_eq_true c28
               clear c28
               have H':=af.mk H
               clear H
               obtain ⟨EF,EG,Lb,Lc,Ol,Om,Oo,Tj,Tk,EH,EI,Ld,Le,Oq,Ot,Ou,Tm,Tn⟩:=jS kI.out
               go_wp2
               go_meet
               case rel=>exact ⟨_,(true),om,H',⟨GH⟩,⟨iK⟩,⟨gp⟩⟩
              ·rw [if_neg c28] at H
               have ajc:decide (aJ < 0) = false:=decide_eq_false c28
               clear c28
               have H':=af.mk H
               clear H
               obtain ⟨Ee,Ef,G9,Ha,Nr,Ns,Nt,aaH,aaI,Eg,Eh,Hd,He,Nu,Nv,Nw,aaJ,aaK⟩:=jS kI.out
               go_wp2
               go_meet
               case rel=>exact ⟨_,(decide (aJ > 5000)),om,H',⟨GH⟩,⟨iK⟩,⟨gp⟩⟩
 case rest =>
  clear HC2
  try clear c1
  try clear c2
  try clear p2
  try clear c4
  try clear rZ
  try clear c6
  try clear Du
  try clear c8
  try clear GJ
  try clear c10
  try clear Cs
  try clear c12
  try clear Yu
  try clear c14
  try clear ai8
  try clear c16
  try clear EB
  try clear c18
  try clear Rt
  try clear c20
  try clear ai9
  try clear c22
  try clear aja
  try clear c24
  try clear ajb
  try clear Xr
  try clear Yv
  try clear c28
  try clear ajc
  try clear uf ug wV wW BI BJ Hy SI SK
  try clear sV sW zw zx GL GM Np aaz aaA
  try clear oG oH rH rJ tu tC zA Bv Bw
  try clear tJ tK wH wI DD DF Kz SS SV
  try clear uR uS wL wM Bc Bd GR S9 Ta
  try clear tO tQ DK DL DN DR DT KS KT
  try clear Bg Bh GV GX GY GZ KC NR NS
  try clear zC zD DZ D5 KE KF KG Te Tf
  try clear Bl Bn Bo Bp D8 D9 Ea aaD aaE
  try clear EF EG Lb Lc Ol Om Oo Tj Tk
  try clear Ee Ef G9 Ha Nr Ns Nt aaH aaI
  try clear aab aac aad aae aaf aag aah aai aaj
  try clear wD wE Cu Cv Fe Ff JK MV MW
  try clear yB yC Ic Ie Qt Qu aat aau aav
  try clear uh ui wX wY BK BL Hz SL SN
  try clear sZ tq zy zz GN GQ Nq aaB aaC
  try clear oI oJ rM rO tF tH zB Bz BA
  try clear tL tN wJ wK DI DJ KA SX SY
  try clear uT uU wN wO Be Bf GU Tc Td
  try clear tT tV DU DV DW DX DY KU KV
  try clear Bi Bj G5 G6 G7 G8 KD NT NU
  try clear zF zG D6 D7 KH KI KJ Tg Ti
  try clear Bq Br Bt Bu Eb Ec Ed aaF aaG
  try clear EH EI Ld Le Oq Ot Ou Tm Tn
  try clear Eg Eh Hd He Nu Nv Nw aaJ aaK
  try clear aak aal aam aan aao aap aaq aar aas
  try clear wF wG Cw Cx Fg Fh JL MX MZ
  try clear yD yE Ig Ih Qv Qw aaw aax aay
  obtain ⟨kq,ai7,rfl,HA,HJ1,kI,HB⟩:=hcut
  cases kq with
  |zero=>exact absurd HA.out (by simp [ax.j0])
  |succ kj1 =>
   have H:=HA.out
   clear HA
   simp only [ax.j0] at H
   by_cases c31:ai7 = true
   ·subst c31
    have H1:(some 2) = some r:=by rw [if_pos rfl] at H;exact H
    clear H
    have H:=H1
    clear H1
    obtain rfl:=bh H
    go_wp2
    go_ret
    exact ⟨mJ,gp⟩
   ·replace c31:=Bool.eq_false_iff.mpr c31
    subst c31
    have H1:(if (aX.length:Int) = (an (ai*aj)) then (ax.j1 kj1 ((aG.length:Int) != (an ((an ((an (aI*aD))*ai))*aj))) ai aj az aA aI aD aJ aX aG) else (ax.j1 kj1 true ai aj az aA aI aD aJ aX aG)) = some r:=by rw [if_neg (show ¬ (false = true) by decide)] at H;exact H
    clear H
    have H:=H1
    clear H1
    have aDh:=af.mk H
    clear H
    go_upto_region 3 with (fail)
    go_cut [97] (fun v97 wc=>∃ (kq:Nat) (aaL:Bool),v97 = .bool aaL∧af (ax.j1 kq aaL ai aj az aA aI aD aJ aX aG = some r)∧af (kq≤kj1)∧af (wc.heap[o5]? = some (.cells #[Z ab ai,Z ab aj,Z ab az,Z ab aA,Z ab aI,Z ab aD,Z ab aJ,(.slice dY aX.length dS),(.slice dV aG.length dU)] 25 (0,0)))∧af (Below w.heap.size w wc))
    case first =>
     have H:=aDh.out
     clear aDh
     by_cases c33:(aX.length:Int) = (an (ai*aj))
     ·rw [if_pos c33] at H
      have V9:((aX.length:Int) == (an (ai*aj))) = true:=beq_iff_eq.mpr c33
      have aps:((aX.length:Int) != (an (ai*aj))) = false:=bne_eq_false_iff_eq.mpr c33
      clear c33
      (first|rw [V9]|(simp only [eY,fo];rw [V9])|skip)
      have H':=af.mk H
      clear H
      obtain ⟨EL,EM,Ov,Ow,Tp,Tq,Tt,ajd,aje,EN,EO,Ox,Oy,Tu,Tv,Tw,ajf,ajg⟩:=jS kI.out
      go_wp2
      go_meet
      case rel=>exact ⟨_,(((aG.length:Int) != (an ((an ((an (aI*aD))*ai))*aj)))),om,H',⟨by have:=HJ1.out;first|omega|exact Nat.le_refl _⟩,⟨iK⟩,⟨gp⟩⟩
     ·rw [if_neg c33] at H
      have V9:((aX.length:Int) == (an (ai*aj))) = false:=beq_eq_false_iff_ne.mpr c33
      have aps:((aX.length:Int) != (an (ai*aj))) = true:=bne_iff_ne.mpr c33
      (first|rw [V9]|(simp only [eY,fo];rw [V9])|skip)
      have H':=af.mk H
      clear H
      obtain ⟨zH,zI,Ei,Ej,KL,KM,KN,Tx,Ty,zJ,zK,El,Em,KO,KP,KQ,Tz,TA⟩:=jS kI.out
      go_wp2
      go_meet
      case rel=>exact ⟨_,(true),om,H',⟨by have:=HJ1.out;first|omega|exact Nat.le_refl _⟩,⟨iK⟩,⟨gp⟩⟩
    case rest =>
     clear aDh
     try clear c1
     try clear c2
     try clear p2
     try clear c3
     try clear c4
     try clear rZ
     try clear c6
     try clear Du
     try clear p6
     try clear c8
     try clear GJ
     try clear c10
     try clear Cs
     try clear c12
     try clear Yu
     try clear c14
     try clear ai8
     try clear c16
     try clear EB
     try clear c18
     try clear Rt
     try clear c20
     try clear ai9
     try clear c22
     try clear aja
     try clear c24
     try clear ajb
     try clear Xr
     try clear Yv
     try clear c28
     try clear ajc
     try clear c31
     try clear c33
     try clear V9
     try clear aps
     try clear uf ug wV wW BI BJ Hy SI SK
     try clear sV sW zw zx GL GM Np aaz aaA
     try clear oG oH rH rJ tu tC zA Bv Bw
     try clear tJ tK wH wI DD DF Kz SS SV
     try clear uR uS wL wM Bc Bd GR S9 Ta
     try clear tO tQ DK DL DN DR DT KS KT
     try clear Bg Bh GV GX GY GZ KC NR NS
     try clear zC zD DZ D5 KE KF KG Te Tf
     try clear Bl Bn Bo Bp D8 D9 Ea aaD aaE
     try clear EF EG Lb Lc Ol Om Oo Tj Tk
     try clear Ee Ef G9 Ha Nr Ns Nt aaH aaI
     try clear EL EM Ov Ow Tp Tq Tt ajd aje
     try clear zH zI Ei Ej KL KM KN Tx Ty
     try clear aab aac aad aae aaf aag aah aai aaj
     try clear wD wE Cu Cv Fe Ff JK MV MW
     try clear yB yC Ic Ie Qt Qu aat aau aav
     try clear uh ui wX wY BK BL Hz SL SN
     try clear sZ tq zy zz GN GQ Nq aaB aaC
     try clear oI oJ rM rO tF tH zB Bz BA
     try clear tL tN wJ wK DI DJ KA SX SY
     try clear uT uU wN wO Be Bf GU Tc Td
     try clear tT tV DU DV DW DX DY KU KV
     try clear Bi Bj G5 G6 G7 G8 KD NT NU
     try clear zF zG D6 D7 KH KI KJ Tg Ti
     try clear Bq Br Bt Bu Eb Ec Ed aaF aaG
     try clear EH EI Ld Le Oq Ot Ou Tm Tn
     try clear Eg Eh Hd He Nu Nv Nw aaJ aaK
     try clear EN EO Ox Oy Tu Tv Tw ajf ajg
     try clear zJ zK El Em KO KP KQ Tz TA
     try clear aak aal aam aan aao aap aaq aar aas
     try clear wF wG Cw Cx Fg Fh JL MX MZ
     try clear yD yE Ig Ih Qv Qw aaw aax aay
     try clear p2
     obtain ⟨kq,aaL,rfl,HA,aGj,kI,HB⟩:=hcut
     cases kq with
     |zero=>exact absurd HA.out (by simp [ax.j1])
     |succ aDi =>
      have H:=HA.out
      clear HA
      simp only [ax.j1] at H
      by_cases c36:aaL = true
      ·subst c36
       have H1:(some 2) = some r:=by rw [if_pos rfl] at H;exact H
       clear H
       have H:=H1
       clear H1
       obtain rfl:=bh H
       go_wp2
       go_ret
       exact ⟨mJ,gp⟩
      ·replace c36:=Bool.eq_false_iff.mpr c36
       subst c36
       have H1:(ax.l0 aDi 0 ai aj az aA aI aD aJ aX aG) = some r:=by rw [if_neg (show ¬ (false = true) by decide)] at H;exact H
       clear H
       have H:=H1
       clear H1
       have H':=af.mk H
       clear H
       go_wp2
       go_loopg [3] aDi (fun kq v3 w'=>∃ (iH:Int),v3 = Z ab iH∧af (ax.l0 kq iH ai aj az aA aI aD aJ aX aG = some r)∧af (kq≤aDi)∧af (w'.heap[o5]? = some (.cells #[Z ab ai,Z ab aj,Z ab az,Z ab aA,Z ab aI,Z ab aD,Z ab aJ,(.slice dY aX.length dS),(.slice dV aG.length dU)] 25 (0,0)))∧af (Below w.heap.size w w'))
       case atStart=>exact ⟨(0),om,H',⟨Nat.le_refl _⟩,⟨iK⟩,⟨gp⟩⟩
       case round =>
        clear H'
        try clear c1
        try clear c2
        try clear p2
        try clear c3
        try clear c4
        try clear rZ
        try clear c6
        try clear Du
        try clear p6
        try clear c8
        try clear GJ
        try clear c10
        try clear Cs
        try clear c12
        try clear Yu
        try clear c14
        try clear ai8
        try clear c16
        try clear EB
        try clear c18
        try clear Rt
        try clear c20
        try clear ai9
        try clear c22
        try clear aja
        try clear c24
        try clear ajb
        try clear Xr
        try clear Yv
        try clear c28
        try clear ajc
        try clear c31
        try clear c33
        try clear V9
        try clear aps
        try clear c36
        try clear uf ug wV wW BI BJ Hy SI SK
        try clear sV sW zw zx GL GM Np aaz aaA
        try clear oG oH rH rJ tu tC zA Bv Bw
        try clear tJ tK wH wI DD DF Kz SS SV
        try clear uR uS wL wM Bc Bd GR S9 Ta
        try clear tO tQ DK DL DN DR DT KS KT
        try clear Bg Bh GV GX GY GZ KC NR NS
        try clear zC zD DZ D5 KE KF KG Te Tf
        try clear Bl Bn Bo Bp D8 D9 Ea aaD aaE
        try clear EF EG Lb Lc Ol Om Oo Tj Tk
        try clear Ee Ef G9 Ha Nr Ns Nt aaH aaI
        try clear EL EM Ov Ow Tp Tq Tt ajd aje
        try clear zH zI Ei Ej KL KM KN Tx Ty
        try clear aab aac aad aae aaf aag aah aai aaj
        try clear wD wE Cu Cv Fe Ff JK MV MW
        try clear yB yC Ic Ie Qt Qu aat aau aav
        try clear uh ui wX wY BK BL Hz SL SN
        try clear sZ tq zy zz GN GQ Nq aaB aaC
        try clear oI oJ rM rO tF tH zB Bz BA
        try clear tL tN wJ wK DI DJ KA SX SY
        try clear uT uU wN wO Be Bf GU Tc Td
        try clear tT tV DU DV DW DX DY KU KV
        try clear Bi Bj G5 G6 G7 G8 KD NT NU
        try clear zF zG D6 D7 KH KI KJ Tg Ti
        try clear Bq Br Bt Bu Eb Ec Ed aaF aaG
        try clear EH EI Ld Le Oq Ot Ou Tm Tn
        try clear Eg Eh Hd He Nu Nv Nw aaJ aaK
        try clear EN EO Ox Oy Tu Tv Tw ajf ajg
        try clear zJ zK El Em KO KP KQ Tz TA
        try clear aak aal aam aan aao aap aaq aar aas
        try clear wF wG Cw Cx Fg Fh JL MX MZ
        try clear yD yE Ig Ih Qv Qw aaw aax aay
        try clear p2
        try clear p6
        obtain ⟨iH,rfl,HA,HK3,kI,HB⟩:=hrel
        cases gk with
        |zero=>exact absurd HA.out (by simp [ax.l0])
        |succ k3 =>
         have H:=HA.out
         clear HA
         simp only [ax.l0] at H
         by_cases c37:iH < (aG.length:Int)
         ·rw [if_pos c37] at H
          have aGl:decide (iH < (aG.length:Int)) = true:=decide_eq_true c37
          clear c37
          by_cases c38:0≤iH
          ·rw [if_pos c38] at H
           have a0N:decide (0≤iH) = true:=decide_eq_true c38
           clear c38
           replace H:=Option.bind_eq_some_iff.mp H
           obtain ⟨t109,aGm,H⟩:=H
           replace H:(if t109 = true then ((bG.f ((bE aG iH).f1.f0) ((bE aG iH).f1.f1) (an (-aJ)) aJ).bind fun t111=>(if t111 = true then (ax.l0 k3 (an (iH+1)) ai aj az aA aI aD aJ aX aG) else (some 2))) else (some 2)) = some r:=H
           have A39:=af.mk aGm
           clear aGm
           by_cases c40:t109 = true
           ·subst c40
            have H1:((bG.f ((bE aG iH).f1.f0) ((bE aG iH).f1.f1) (an (-aJ)) aJ).bind fun t111=>(if t111 = true then (ax.l0 k3 (an (iH+1)) ai aj az aA aI aD aJ aX aG) else (some 2))) = some r:=by rw [if_pos rfl] at H;exact H
            clear H
            have H:=H1
            clear H1
            replace H:=Option.bind_eq_some_iff.mp H
            obtain ⟨t111,aGn,H⟩:=H
            replace H:(if t111 = true then (ax.l0 k3 (an (iH+1)) ai aj az aA aI aD aJ aX aG) else (some 2)) = some r:=H
            have A41:=af.mk aGn
            clear aGn
            by_cases c42:t111 = true
            ·subst c42
             have H1:(ax.l0 k3 (an (iH+1)) ai aj az aA aI aD aJ aX aG) = some r:=by rw [if_pos rfl] at H;exact H
             clear H
             have H:=H1
             clear H1
             have H':=af.mk H
             clear H
             obtain ⟨ajh,aji,ajj,ajk,aui,auj,auk,aul,aum,ajl,ajm,ajn,ajo,aun,auo,aup,auq,aur⟩:=jS kI.out
             try go_wp2
             replace kI:=af.mk (ag kI.out)
             replace HB:=af.mk (bF HB.out)
             have Wh:0≤(iH:Int):=of_decide_eq_true nM
             have Wi:iH < (aG.length:Int):=of_decide_eq_true nM
             obtain ⟨mE,e108,pK,pM,pO,pQ⟩:=GI iB.out iH Wh Wi
             have zM:=pQ
             have zN:=pO
             have zO:=pM
             have zP:=pK
             cases e108
             replace pK:=(HB.out.cell (bd w _ pK)).trans pK
             replace pM:=(HB.out.cell (bd w _ pM)).trans pM
             replace pO:=(HB.out.cell (bd w _ pO)).trans pO
             replace pQ:=(HB.out.cell (bd w _ pQ)).trans pQ
             replace Wh:=eq_true Wh
             replace Wi:=eq_true Wi
             have agS:0≤(iH:Int):=of_decide_eq_true nM
             have agT:iH < (aG.length:Int):=of_decide_eq_true nM
             obtain ⟨apt,aDj,xh,xk,xm,xn⟩:=GI iB.out iH agS agT
             have Ii:=xn
             have Ij:=xm
             have Ik:=xk
             have Il:=xh
             obtain rfl:mE = apt:=(by injection aDj)
             replace xh:=(HB.out.cell (bd w _ xh)).trans xh
             replace xk:=(HB.out.cell (bd w _ xk)).trans xk
             replace xm:=(HB.out.cell (bd w _ xm)).trans xm
             replace xn:=(HB.out.cell (bd w _ xn)).trans xn
             replace agS:=eq_true agS
             replace agT:=eq_true agT
             refine jV (n:=28) (S:=fun w'=>w'.cell? ⟨o5,0,none⟩ = some (Z ab ai)∧w'.cell? ⟨o5,1,none⟩ = some (Z ab aj)∧w'.cell? ⟨o5,2,none⟩ = some (Z ab az)∧w'.cell? ⟨o5,3,none⟩ = some (Z ab aA)∧w'.cell? ⟨o5,4,none⟩ = some (Z ab aI)∧w'.cell? ⟨o5,5,none⟩ = some (Z ab aD)∧w'.cell? ⟨o5,6,none⟩ = some (Z ab aJ)∧w'.cell? ⟨o5,7,none⟩ = some (.slice dY aX.length dS)∧w'.cell? ⟨o5,8,none⟩ = some (.slice (some mE) aG.length dU)∧w'.cell? (mE.add ((iH).toNat*4)) = some (Z ab ((bE aG iH).f0.f0))∧w'.cell? ⟨(mE.add ((iH).toNat*4)).block,(mE.add ((iH).toNat*4)).off+1,none⟩ = some (Z ab ((bE aG iH).f0.f1))∧w'.cell? ⟨(mE.add ((iH).toNat*4)).block,(mE.add ((iH).toNat*4)).off+2,none⟩ = some (Z ab ((bE aG iH).f1.f0))∧w'.cell? ⟨(mE.add ((iH).toNat*4)).block,(mE.add ((iH).toNat*4)).off+3,none⟩ = some (Z ab ((bE aG iH).f1.f1))∧w'.cell? (mE.add ((iH).toNat*4)) = some (Z ab ((bE aG iH).f0.f0))∧w'.cell? ⟨(mE.add ((iH).toNat*4)).block,(mE.add ((iH).toNat*4)).off+1,none⟩ = some (Z ab ((bE aG iH).f0.f1))∧w'.cell? ⟨(mE.add ((iH).toNat*4)).block,(mE.add ((iH).toNat*4)).off+2,none⟩ = some (Z ab ((bE aG iH).f1.f0))∧w'.cell? ⟨(mE.add ((iH).toNat*4)).block,(mE.add ((iH).toNat*4)).off+3,none⟩ = some (Z ab ((bE aG iH).f1.f1))) (ds:=[]) #[al,al,al,al,al,al,al,al,al,al,al,al,al,al,al,al,al,al,al,al,al,al,al,al,al,al,al,al] aT rfl rfl (vk kI.out ⟨(nI HB zP),(nI HB zO),(nI HB zN),(nI HB zM),(nI HB Il),(nI HB Ik),(nI HB Ij),(nI HB Ii)⟩) (fun hHeld=>?_);refine jQ ax.aDg ax.apr (fun dx mD=>?_)
             generalize wr.drew = w44 at kI HB pK pM pO pQ xh xk xm xn hHeld ⊢
             refine dR (i:=0) (N:=some 105) (aY dx.out aT) ?_
             refine dR (i:=2) (N:=some 107) (aY dx.out aT) ?_
             refine dR (i:=6) (N:=some 111) (aY dx.out aT) ?_
             refine dR (i:=9) (N:=some 114) (aY dx.out aT) ?_
             refine iT (i:=1) (N:=some 106) (bL dx.out mD.out aT) hHeld ?_
             refine dR (i:=3) (N:=some 108) (aY dx.out aT) ?_
             refine dR (i:=4) (N:=some 109) (aY dx.out aT) ?_
             refine iT (i:=5) (N:=some 110) (bL dx.out mD.out aT) hHeld ?_
             refine iT (i:=7) (N:=some 112) (bL dx.out mD.out aT) hHeld ?_
             refine dR (i:=8) (N:=some 113) (aY dx.out aT) ?_
             refine iT (i:=10) (N:=some 115) (bL dx.out mD.out aT) hHeld ?_
             refine iW (i:=11) (N:=some 116) #[ac,ac,ac,ac,ac,ac,ac,ac,ac,ac,ac,ac,al,al,al,al,al,al,al,al,al,al,al,al,al,al,al,al] rfl rfl (gJ dx.out aT) (by decide) (fun K hK=>?_)
             refine gY Try.func78 aT rfl #[.agg #[Z ab ((bE aG iH).f0.f0),Z ab ((bE aG iH).f0.f1)],Z ab (an (-aJ)),Z ab aJ] (by rfl) rfl rfl jB ?_
             with_reducible refine (bG.calls ((bE aG iH).f0.f0) ((bE aG iH).f0.f1) (an (-aJ)) aJ true _ A39.out).mono ?_
             rintro e w45 ⟨rfl,hb⟩
             refine ⟨_,rfl,?_⟩
             replace kI:=bn kI hb
             replace HB:=dz HB hb
             (try clear hb)
             (try clear hb2)
             (try clear hk)
             (try clear hi)
             refine hK.out _ _ (vk kI.out ⟨(nI HB zP),(nI HB zO),(nI HB zN),(nI HB zM),(nI HB Il),(nI HB Ik),(nI HB Ij),(nI HB Ii)⟩) (fun hHeld=>?_)
             clear hK K
             refine dQ aBV ?_
             refine dR (i:=12) (N:=some 117) (aY dx.out aT) ?_
             refine dR (i:=13) (N:=some 118) (aY dx.out aT) ?_
             refine dR (i:=14) (N:=some 119) (aY dx.out aT) ?_
             refine dR (i:=16) (N:=some 121) (aY dx.out aT) ?_
             refine dR (i:=20) (N:=some 125) (aY dx.out aT) ?_
             refine dR (i:=23) (N:=some 128) (aY dx.out aT) ?_
             refine iT (i:=15) (N:=some 120) (bL dx.out mD.out aT) hHeld ?_
             refine dR (i:=17) (N:=some 122) (aY dx.out aT) ?_
             refine dR (i:=18) (N:=some 123) (aY dx.out aT) ?_
             refine iT (i:=19) (N:=some 124) (bL dx.out mD.out aT) hHeld ?_
             refine iT (i:=21) (N:=some 126) (bL dx.out mD.out aT) hHeld ?_
             refine dR (i:=22) (N:=some 127) (aY dx.out aT) ?_
             refine iT (i:=24) (N:=some 129) (bL dx.out mD.out aT) hHeld ?_
             refine iW (i:=25) (N:=some 130) #[ac,ac,ac,ac,ac,ac,ac,ac,ac,ac,ac,ac,ac,ac,ac,ac,ac,ac,ac,ac,ac,ac,ac,ac,ac,ac,al,al] rfl rfl (gJ dx.out aT) (by decide) (fun K hK=>?_)
             refine gY Try.func78 aT rfl #[.agg #[Z ab ((bE aG iH).f1.f0),Z ab ((bE aG iH).f1.f1)],Z ab (an (-aJ)),Z ab aJ] (by rfl) rfl rfl jB ?_
             with_reducible refine (bG.calls ((bE aG iH).f1.f0) ((bE aG iH).f1.f1) (an (-aJ)) aJ true _ A41.out).mono ?_
             rintro e w46 ⟨rfl,hb⟩
             refine ⟨_,rfl,?_⟩
             replace kI:=bn kI hb
             replace HB:=dz HB hb
             (try clear hb)
             (try clear hb2)
             (try clear hk)
             (try clear hi)
             refine hK.out _ _ (vk kI.out ⟨(nI HB zP),(nI HB zO),(nI HB zN),(nI HB zM),(nI HB Il),(nI HB Ik),(nI HB Ij),(nI HB Ii)⟩) (fun hHeld=>?_)
             clear hK K
             refine dQ aFk ?_
             refine dR (i:=26) (N:=some 131) (aY dx.out aT) ?_
             refine dR (i:=27) (N:=some 132) (aY dx.out aT) ?_
             refine mi (ni dx.out aT) ?_
             try go_wp2
             go_roundg k3
             case measure=>have:=HJ1.out;have:=aGj.out;have:=HK3.out;omega
             case rel=>exact ⟨(an (iH+1)),om,H',⟨by have:=HJ1.out;have:=aGj.out;have:=HK3.out;omega⟩,⟨iK⟩,⟨gp⟩⟩
            ·replace c42:=Bool.eq_false_iff.mpr c42
             subst c42
             have H1:(some 2) = some r:=by rw [if_neg (show ¬ (false = true) by decide)] at H;exact H
             clear H
             have H:=H1
             clear H1
             obtain rfl:=bh H
             obtain ⟨ais,ait,atb,atc,atd,ate,atf,aNx,aNy,aiu,aiv,atg,ath,ati,atj,atl,aNz,aNA⟩:=jS kI.out
             try go_wp2
             replace kI:=af.mk (ag kI.out)
             replace HB:=af.mk (bF HB.out)
             have Wh:0≤(iH:Int):=of_decide_eq_true nM
             have Wi:iH < (aG.length:Int):=of_decide_eq_true nM
             obtain ⟨mE,e108,pK,pM,pO,pQ⟩:=GI iB.out iH Wh Wi
             have zM:=pQ
             have zN:=pO
             have zO:=pM
             have zP:=pK
             cases e108
             replace pK:=(HB.out.cell (bd w _ pK)).trans pK
             replace pM:=(HB.out.cell (bd w _ pM)).trans pM
             replace pO:=(HB.out.cell (bd w _ pO)).trans pO
             replace pQ:=(HB.out.cell (bd w _ pQ)).trans pQ
             replace Wh:=eq_true Wh
             replace Wi:=eq_true Wi
             have agS:0≤(iH:Int):=of_decide_eq_true nM
             have agT:iH < (aG.length:Int):=of_decide_eq_true nM
             obtain ⟨apt,aDj,xh,xk,xm,xn⟩:=GI iB.out iH agS agT
             have Ii:=xn
             have Ij:=xm
             have Ik:=xk
             have Il:=xh
             obtain rfl:mE = apt:=(by injection aDj)
             replace xh:=(HB.out.cell (bd w _ xh)).trans xh
             replace xk:=(HB.out.cell (bd w _ xk)).trans xk
             replace xm:=(HB.out.cell (bd w _ xm)).trans xm
             replace xn:=(HB.out.cell (bd w _ xn)).trans xn
             replace agS:=eq_true agS
             replace agT:=eq_true agT
             refine jV (n:=28) (S:=fun w'=>w'.cell? ⟨o5,0,none⟩ = some (Z ab ai)∧w'.cell? ⟨o5,1,none⟩ = some (Z ab aj)∧w'.cell? ⟨o5,2,none⟩ = some (Z ab az)∧w'.cell? ⟨o5,3,none⟩ = some (Z ab aA)∧w'.cell? ⟨o5,4,none⟩ = some (Z ab aI)∧w'.cell? ⟨o5,5,none⟩ = some (Z ab aD)∧w'.cell? ⟨o5,6,none⟩ = some (Z ab aJ)∧w'.cell? ⟨o5,7,none⟩ = some (.slice dY aX.length dS)∧w'.cell? ⟨o5,8,none⟩ = some (.slice (some mE) aG.length dU)∧w'.cell? (mE.add ((iH).toNat*4)) = some (Z ab ((bE aG iH).f0.f0))∧w'.cell? ⟨(mE.add ((iH).toNat*4)).block,(mE.add ((iH).toNat*4)).off+1,none⟩ = some (Z ab ((bE aG iH).f0.f1))∧w'.cell? ⟨(mE.add ((iH).toNat*4)).block,(mE.add ((iH).toNat*4)).off+2,none⟩ = some (Z ab ((bE aG iH).f1.f0))∧w'.cell? ⟨(mE.add ((iH).toNat*4)).block,(mE.add ((iH).toNat*4)).off+3,none⟩ = some (Z ab ((bE aG iH).f1.f1))∧w'.cell? (mE.add ((iH).toNat*4)) = some (Z ab ((bE aG iH).f0.f0))∧w'.cell? ⟨(mE.add ((iH).toNat*4)).block,(mE.add ((iH).toNat*4)).off+1,none⟩ = some (Z ab ((bE aG iH).f0.f1))∧w'.cell? ⟨(mE.add ((iH).toNat*4)).block,(mE.add ((iH).toNat*4)).off+2,none⟩ = some (Z ab ((bE aG iH).f1.f0))∧w'.cell? ⟨(mE.add ((iH).toNat*4)).block,(mE.add ((iH).toNat*4)).off+3,none⟩ = some (Z ab ((bE aG iH).f1.f1))) (ds:=[]) #[al,al,al,al,al,al,al,al,al,al,al,al,al,al,al,al,al,al,al,al,al,al,al,al,al,al,al,al] aT rfl rfl (vk kI.out ⟨(nI HB zP),(nI HB zO),(nI HB zN),(nI HB zM),(nI HB Il),(nI HB Ik),(nI HB Ij),(nI HB Ii)⟩) (fun hHeld=>?_);refine jQ ax.aDg ax.apr (fun dx mD=>?_)
             generalize wr.drew = w48 at kI HB pK pM pO pQ xh xk xm xn hHeld ⊢
             refine dR (i:=0) (N:=some 105) (aY dx.out aT) ?_
             refine dR (i:=2) (N:=some 107) (aY dx.out aT) ?_
             refine dR (i:=6) (N:=some 111) (aY dx.out aT) ?_
             refine dR (i:=9) (N:=some 114) (aY dx.out aT) ?_
             refine iT (i:=1) (N:=some 106) (bL dx.out mD.out aT) hHeld ?_
             refine dR (i:=3) (N:=some 108) (aY dx.out aT) ?_
             refine dR (i:=4) (N:=some 109) (aY dx.out aT) ?_
             refine iT (i:=5) (N:=some 110) (bL dx.out mD.out aT) hHeld ?_
             refine iT (i:=7) (N:=some 112) (bL dx.out mD.out aT) hHeld ?_
             refine dR (i:=8) (N:=some 113) (aY dx.out aT) ?_
             refine iT (i:=10) (N:=some 115) (bL dx.out mD.out aT) hHeld ?_
             refine iW (i:=11) (N:=some 116) #[ac,ac,ac,ac,ac,ac,ac,ac,ac,ac,ac,ac,al,al,al,al,al,al,al,al,al,al,al,al,al,al,al,al] rfl rfl (gJ dx.out aT) (by decide) (fun K hK=>?_)
             refine gY Try.func78 aT rfl #[.agg #[Z ab ((bE aG iH).f0.f0),Z ab ((bE aG iH).f0.f1)],Z ab (an (-aJ)),Z ab aJ] (by rfl) rfl rfl jB ?_
             with_reducible refine (bG.calls ((bE aG iH).f0.f0) ((bE aG iH).f0.f1) (an (-aJ)) aJ true _ A39.out).mono ?_
             rintro e w49 ⟨rfl,hb⟩
             refine ⟨_,rfl,?_⟩
             replace kI:=bn kI hb
             replace HB:=dz HB hb
             (try clear hb)
             (try clear hb2)
             (try clear hk)
             (try clear hi)
             refine hK.out _ _ (vk kI.out ⟨(nI HB zP),(nI HB zO),(nI HB zN),(nI HB zM),(nI HB Il),(nI HB Ik),(nI HB Ij),(nI HB Ii)⟩) (fun hHeld=>?_)
             clear hK K
             refine dQ aBV ?_
             refine dR (i:=12) (N:=some 117) (aY dx.out aT) ?_
             refine dR (i:=13) (N:=some 118) (aY dx.out aT) ?_
             refine dR (i:=14) (N:=some 119) (aY dx.out aT) ?_
             refine dR (i:=16) (N:=some 121) (aY dx.out aT) ?_
             refine dR (i:=20) (N:=some 125) (aY dx.out aT) ?_
             refine dR (i:=23) (N:=some 128) (aY dx.out aT) ?_
             refine iT (i:=15) (N:=some 120) (bL dx.out mD.out aT) hHeld ?_
             refine dR (i:=17) (N:=some 122) (aY dx.out aT) ?_
             refine dR (i:=18) (N:=some 123) (aY dx.out aT) ?_
             refine iT (i:=19) (N:=some 124) (bL dx.out mD.out aT) hHeld ?_
             refine iT (i:=21) (N:=some 126) (bL dx.out mD.out aT) hHeld ?_
             refine dR (i:=22) (N:=some 127) (aY dx.out aT) ?_
             refine iT (i:=24) (N:=some 129) (bL dx.out mD.out aT) hHeld ?_
             refine iW (i:=25) (N:=some 130) #[ac,ac,ac,ac,ac,ac,ac,ac,ac,ac,ac,ac,ac,ac,ac,ac,ac,ac,ac,ac,ac,ac,ac,ac,ac,ac,al,al] rfl rfl (gJ dx.out aT) (by decide) (fun K hK=>?_)
             refine gY Try.func78 aT rfl #[.agg #[Z ab ((bE aG iH).f1.f0),Z ab ((bE aG iH).f1.f1)],Z ab (an (-aJ)),Z ab aJ] (by rfl) rfl rfl jB ?_
             with_reducible refine (bG.calls ((bE aG iH).f1.f0) ((bE aG iH).f1.f1) (an (-aJ)) aJ false _ A41.out).mono ?_
             rintro e w50 ⟨rfl,hb⟩
             refine ⟨_,rfl,?_⟩
             replace kI:=bn kI hb
             replace HB:=dz HB hb
             (try clear hb)
             (try clear hb2)
             (try clear hk)
             (try clear hi)
             refine hK.out _ _ (vk kI.out ⟨(nI HB zP),(nI HB zO),(nI HB zN),(nI HB zM),(nI HB Il),(nI HB Ik),(nI HB Ij),(nI HB Ii)⟩) (fun hHeld=>?_)
             clear hK K
             refine dQ aFk ?_
             refine dR (i:=26) (N:=some 131) (aY dx.out aT) ?_
             refine dR (i:=27) (N:=some 132) (aY dx.out aT) ?_
             refine mi (ni dx.out aT) ?_
             try go_wp2
             go_ret
             exact ⟨mJ,gp⟩
           ·replace c40:=Bool.eq_false_iff.mpr c40
            subst c40
            have H1:(some 2) = some r:=by rw [if_neg (show ¬ (false = true) by decide)] at H;exact H
            clear H
            have H:=H1
            clear H1
            obtain rfl:=bh H
            obtain ⟨aus,aut,aNC,aND,aNE,aNF,aNG,aNH,aNI,auu,auv,aNJ,aNK,aNL,aNM,aNN,aNO,aNP⟩:=jS kI.out
            try go_wp2
            replace kI:=af.mk (ag kI.out)
            replace HB:=af.mk (bF HB.out)
            have Wh:0≤(iH:Int):=of_decide_eq_true nM
            have Wi:iH < (aG.length:Int):=of_decide_eq_true nM
            obtain ⟨mE,e108,pK,pM,pO,pQ⟩:=GI iB.out iH Wh Wi
            have zM:=pQ
            have zN:=pO
            have zO:=pM
            have zP:=pK
            cases e108
            replace pK:=(HB.out.cell (bd w _ pK)).trans pK
            replace pM:=(HB.out.cell (bd w _ pM)).trans pM
            replace pO:=(HB.out.cell (bd w _ pO)).trans pO
            replace pQ:=(HB.out.cell (bd w _ pQ)).trans pQ
            replace Wh:=eq_true Wh
            replace Wi:=eq_true Wi
            refine jV (n:=28) (S:=fun w'=>w'.cell? ⟨o5,0,none⟩ = some (Z ab ai)∧w'.cell? ⟨o5,1,none⟩ = some (Z ab aj)∧w'.cell? ⟨o5,2,none⟩ = some (Z ab az)∧w'.cell? ⟨o5,3,none⟩ = some (Z ab aA)∧w'.cell? ⟨o5,4,none⟩ = some (Z ab aI)∧w'.cell? ⟨o5,5,none⟩ = some (Z ab aD)∧w'.cell? ⟨o5,6,none⟩ = some (Z ab aJ)∧w'.cell? ⟨o5,7,none⟩ = some (.slice dY aX.length dS)∧w'.cell? ⟨o5,8,none⟩ = some (.slice (some mE) aG.length dU)∧w'.cell? (mE.add ((iH).toNat*4)) = some (Z ab ((bE aG iH).f0.f0))∧w'.cell? ⟨(mE.add ((iH).toNat*4)).block,(mE.add ((iH).toNat*4)).off+1,none⟩ = some (Z ab ((bE aG iH).f0.f1))∧w'.cell? ⟨(mE.add ((iH).toNat*4)).block,(mE.add ((iH).toNat*4)).off+2,none⟩ = some (Z ab ((bE aG iH).f1.f0))∧w'.cell? ⟨(mE.add ((iH).toNat*4)).block,(mE.add ((iH).toNat*4)).off+3,none⟩ = some (Z ab ((bE aG iH).f1.f1))) (ds:=[]) #[al,al,al,al,al,al,al,al,al,al,al,al,al,al,al,al,al,al,al,al,al,al,al,al,al,al,al,al] aT rfl rfl (vk kI.out ⟨(nI HB zP),(nI HB zO),(nI HB zN),(nI HB zM)⟩) (fun hHeld=>?_);refine jQ ax.aDg ax.apr (fun dx mD=>?_)
            generalize wr.drew = w52 at kI HB pK pM pO pQ hHeld ⊢
            refine dR (i:=0) (N:=some 105) (aY dx.out aT) ?_
            refine dR (i:=2) (N:=some 107) (aY dx.out aT) ?_
            refine dR (i:=6) (N:=some 111) (aY dx.out aT) ?_
            refine dR (i:=9) (N:=some 114) (aY dx.out aT) ?_
            refine iT (i:=1) (N:=some 106) (bL dx.out mD.out aT) hHeld ?_
            refine dR (i:=3) (N:=some 108) (aY dx.out aT) ?_
            refine dR (i:=4) (N:=some 109) (aY dx.out aT) ?_
            refine iT (i:=5) (N:=some 110) (bL dx.out mD.out aT) hHeld ?_
            refine iT (i:=7) (N:=some 112) (bL dx.out mD.out aT) hHeld ?_
            refine dR (i:=8) (N:=some 113) (aY dx.out aT) ?_
            refine iT (i:=10) (N:=some 115) (bL dx.out mD.out aT) hHeld ?_
            refine iW (i:=11) (N:=some 116) #[ac,ac,ac,ac,ac,ac,ac,ac,ac,ac,ac,ac,al,al,al,al,al,al,al,al,al,al,al,al,al,al,al,al] rfl rfl (gJ dx.out aT) (by decide) (fun K hK=>?_)
            refine gY Try.func78 aT rfl #[.agg #[Z ab ((bE aG iH).f0.f0),Z ab ((bE aG iH).f0.f1)],Z ab (an (-aJ)),Z ab aJ] (by rfl) rfl rfl jB ?_
            with_reducible refine (bG.calls ((bE aG iH).f0.f0) ((bE aG iH).f0.f1) (an (-aJ)) aJ false _ A39.out).mono ?_
            rintro e w53 ⟨rfl,hb⟩
            refine ⟨_,rfl,?_⟩
            replace kI:=bn kI hb
            replace HB:=dz HB hb
            (try clear hb)
            (try clear hb2)
            (try clear hk)
            (try clear hi)
            refine hK.out _ _ (vk kI.out ⟨(nI HB zP),(nI HB zO),(nI HB zN),(nI HB zM)⟩) (fun hHeld=>?_)
            clear hK K
            refine dQ aBV ?_
            refine dR (i:=12) (N:=some 117) (aY dx.out aT) ?_
            refine dR (i:=13) (N:=some 118) (aY dx.out aT) ?_
            refine j6 (i:=14) (N:=some 119) (v:=undef) (a':=?_) #[ac,ac,ac,ac,ac,ac,ac,ac,ac,ac,ac,ac,ac,ac,ac,al,al,al,al,al,al,al,al,al,al,al,al,al] rfl rfl (aY dx.out aT) (fun _ _ _ h=>h) (Or.inr ⟨by rfl,rfl⟩) ?_ ?_
            rotate_left
            ·simp only [Act.put,ap,aq,ar,eY,fo]
             rfl
            refine j6 (i:=15) (N:=some 120) (v:=undef) (a':=?_) #[ac,ac,ac,ac,ac,ac,ac,ac,ac,ac,ac,ac,ac,ac,ac,ac,al,al,al,al,al,al,al,al,al,al,al,al] rfl rfl (aY dx.out aT) (fun _ _ _ h=>h) (Or.inr ⟨by rfl,rfl⟩) ?_ ?_
            rotate_left
            ·simp only [Act.put,ap,aq,ar,eY,fo]
             rfl
            refine j6 (i:=16) (N:=some 121) (v:=undef) (a':=?_) #[ac,ac,ac,ac,ac,ac,ac,ac,ac,ac,ac,ac,ac,ac,ac,ac,ac,al,al,al,al,al,al,al,al,al,al,al] rfl rfl (aY dx.out aT) (fun _ _ _ h=>h) (Or.inr ⟨by rfl,rfl⟩) ?_ ?_
            rotate_left
            ·simp only [Act.put,ap,aq,ar,eY,fo]
             rfl
            refine j6 (i:=17) (N:=some 122) (v:=undef) (a':=?_) #[ac,ac,ac,ac,ac,ac,ac,ac,ac,ac,ac,ac,ac,ac,ac,ac,ac,ac,al,al,al,al,al,al,al,al,al,al] rfl rfl (aY dx.out aT) (fun _ _ _ h=>h) (Or.inr ⟨by rfl,rfl⟩) ?_ ?_
            rotate_left
            ·simp only [Act.put,ap,aq,ar,eY,fo]
             rfl
            refine j6 (i:=18) (N:=some 123) (v:=undef) (a':=?_) #[ac,ac,ac,ac,ac,ac,ac,ac,ac,ac,ac,ac,ac,ac,ac,ac,ac,ac,ac,al,al,al,al,al,al,al,al,al] rfl rfl (aY dx.out aT) (fun _ _ _ h=>h) (Or.inr ⟨by rfl,rfl⟩) ?_ ?_
            rotate_left
            ·simp only [Act.put,ap,aq,ar,eY,fo]
             rfl
            refine j6 (i:=19) (N:=some 124) (v:=undef) (a':=?_) #[ac,ac,ac,ac,ac,ac,ac,ac,ac,ac,ac,ac,ac,ac,ac,ac,ac,ac,ac,ac,al,al,al,al,al,al,al,al] rfl rfl (aY dx.out aT) (fun _ _ _ h=>h) (Or.inr ⟨by rfl,rfl⟩) ?_ ?_
            rotate_left
            ·simp only [Act.put,ap,aq,ar,eY,fo]
             rfl
            refine j6 (i:=20) (N:=some 125) (v:=undef) (a':=?_) #[ac,ac,ac,ac,ac,ac,ac,ac,ac,ac,ac,ac,ac,ac,ac,ac,ac,ac,ac,ac,ac,al,al,al,al,al,al,al] rfl rfl (aY dx.out aT) (fun _ _ _ h=>h) (Or.inr ⟨by rfl,rfl⟩) ?_ ?_
            rotate_left
            ·simp only [Act.put,ap,aq,ar,eY,fo]
             rfl
            refine j6 (i:=21) (N:=some 126) (v:=undef) (a':=?_) #[ac,ac,ac,ac,ac,ac,ac,ac,ac,ac,ac,ac,ac,ac,ac,ac,ac,ac,ac,ac,ac,ac,al,al,al,al,al,al] rfl rfl (aY dx.out aT) (fun _ _ _ h=>h) (Or.inr ⟨by rfl,rfl⟩) ?_ ?_
            rotate_left
            ·simp only [Act.put,ap,aq,ar,eY,fo]
             rfl
            refine j6 (i:=22) (N:=some 127) (v:=undef) (a':=?_) #[ac,ac,ac,ac,ac,ac,ac,ac,ac,ac,ac,ac,ac,ac,ac,ac,ac,ac,ac,ac,ac,ac,ac,al,al,al,al,al] rfl rfl (aY dx.out aT) (fun _ _ _ h=>h) (Or.inr ⟨by rfl,rfl⟩) ?_ ?_
            rotate_left
            ·simp only [Act.put,ap,aq,ar,eY,fo]
             rfl
            refine j6 (i:=23) (N:=some 128) (v:=undef) (a':=?_) #[ac,ac,ac,ac,ac,ac,ac,ac,ac,ac,ac,ac,ac,ac,ac,ac,ac,ac,ac,ac,ac,ac,ac,ac,al,al,al,al] rfl rfl (aY dx.out aT) (fun _ _ _ h=>h) (Or.inr ⟨by rfl,rfl⟩) ?_ ?_
            rotate_left
            ·simp only [Act.put,ap,aq,ar,eY,fo]
             rfl
            refine j6 (i:=24) (N:=some 129) (v:=undef) (a':=?_) #[ac,ac,ac,ac,ac,ac,ac,ac,ac,ac,ac,ac,ac,ac,ac,ac,ac,ac,ac,ac,ac,ac,ac,ac,ac,al,al,al] rfl rfl (aY dx.out aT) (fun _ _ _ h=>h) (Or.inr ⟨by rfl,rfl⟩) ?_ ?_
            rotate_left
            ·simp only [Act.put,ap,aq,ar,eY,fo]
             rfl
            refine j6 (i:=25) (N:=some 130) (v:=undef) (a':=?_) #[ac,ac,ac,ac,ac,ac,ac,ac,ac,ac,ac,ac,ac,ac,ac,ac,ac,ac,ac,ac,ac,ac,ac,ac,ac,ac,al,al] rfl rfl (aY dx.out aT) (fun _ _ _ h=>h) (Or.inr ⟨by rfl,rfl⟩) ?_ ?_
            rotate_left
            ·simp only [Act.put,ap,aq,ar,eY,fo]
             rfl
            refine j6 (i:=26) (N:=some 131) (v:=undef) (a':=?_) #[ac,ac,ac,ac,ac,ac,ac,ac,ac,ac,ac,ac,ac,ac,ac,ac,ac,ac,ac,ac,ac,ac,ac,ac,ac,ac,ac,al] rfl rfl (aY dx.out aT) (fun _ _ _ h=>h) (Or.inr ⟨by rfl,rfl⟩) ?_ ?_
            rotate_left
            ·simp only [Act.put,ap,aq,ar,eY,fo]
             rfl
            refine dR (i:=27) (N:=some 132) (aY dx.out aT) ?_
            refine mi (ni dx.out aT) ?_
            try go_wp2
            go_ret
            exact ⟨mJ,gp⟩
          ·rw [if_neg c38] at H
           exact absurd H (by simp)
         ·rw [if_neg c37] at H
          have aGl:decide (iH < (aG.length:Int)) = false:=decide_eq_false c37
          clear c37
          obtain rfl:=bh H
          obtain ⟨aNQ,aNR,aNS,aNT,aNU,aNV,aNW,aNX,aNY,aNZ,aN0,aN1,aN2,aN3,aN4,aN5,aN6,aN7⟩:=jS kI.out
          go_wp2
          go_ret
          exact ⟨mJ,gp⟩
def iL.f (ai:Int) (aj:Int) (az:Int) (aA:Int) (aI:Int) (aD:Int) (aJ:Int):Option (Int):=if ai < 0 then (some 2) else (if ai > 5000 then (some 2) else (if aj < 1 then (some 2) else (if aj > 131072 then (some 2) else ((bG.f az aA 0 1073741824).bind fun t113=>(if t113 = true then ((bG.f aI aD 0 1073741824).bind fun t114=>(if t114 = true then (if aJ < 0 then (some 2) else (if aJ > 1073741824 then (some 2) else (some 0))) else (some 2))) else (some 2))))))
theorem iL.calls (ai:Int) (aj:Int) (az:Int) (aA:Int) (aI:Int) (aD:Int) (aJ:Int) (r:Int) (w:ao) (h:iL.f ai aj az aA aI aD aJ = some r):
 Calls Try.prog 28 #[.agg #[Z ab ai,Z ab aj,Z ab az,Z ab aA,Z ab aI,Z ab aD,Z ab aJ]] w fun e w'=>e = .returned (Z ab r)∧Below w.heap.size w w':=by
 have vo:=Try.underlying29
 have oO:=Try.underlying27
 have HB:=af.mk (Below.refl w.heap.size w)
 have H:(if ai < 0 then (some 2) else (if ai > 5000 then (some 2) else (if aj < 1 then (some 2) else (if aj > 131072 then (some 2) else ((bG.f az aA 0 1073741824).bind fun t113=>(if t113 = true then ((bG.f aI aD 0 1073741824).bind fun t114=>(if t114 = true then (if aJ < 0 then (some 2) else (if aJ > 1073741824 then (some 2) else (some 0))) else (some 2))) else (some 2))))))) = some r:=h
 clear h
 by_cases c2:ai < 0
 ·rw [if_pos c2] at H
  have ac8:decide (ai < 0) = true:=decide_eq_true c2
  clear c2
  obtain rfl:=bh H
  go_enter Try.func28,Try.ntmps28
  go_wp2_with (first|((with_reducible refine av (N:=1) rfl ?_);refine ak (by rfl) (N:=1) (by rfl) (cs:=#[Z ab ai,Z ab aj,Z ab az,Z ab aA,Z ab aI,Z ab aD,Z ab aJ]) (t:=29) fU ?_;intro RA hg w3 ay hb;have mF:=af.mk (ay);have RB:=bY HB hg;have RD:=bY HB hg;replace HB:=dz HB hb;clear hb ay hg;obtain ⟨agl,agm,aoF,aoG,aCS,aCT,aCU,agn,agp,aoH,aoI,aCV,aCW,aCX⟩:=kz mF.out))
  go_ret
  exact ⟨mJ,gp⟩
 ·rw [if_neg c2] at H
  have ac8:decide (ai < 0) = false:=decide_eq_false c2
  clear c2
  by_cases c5:ai > 5000
  ·rw [if_pos c5] at H
   have yt:decide (5000 < ai) = true:=decide_eq_true c5
   clear c5
   obtain rfl:=bh H
   go_enter Try.func28,Try.ntmps28
   go_wp2_with (first|((with_reducible refine av (N:=1) rfl ?_);refine ak (by rfl) (N:=1) (by rfl) (cs:=#[Z ab ai,Z ab aj,Z ab az,Z ab aA,Z ab aI,Z ab aD,Z ab aJ]) (t:=29) fU ?_;intro RA hg w6 ay hb;have mF:=af.mk (ay);have RB:=bY HB hg;have RD:=bY HB hg;replace HB:=dz HB hb;clear hb ay hg;obtain ⟨wD,wE,Cu,Cv,Fe,Ff,JK,wF,wG,Cw,Cx,Fg,Fh,JL⟩:=kz mF.out))
   go_ret
   exact ⟨mJ,gp⟩
  ·rw [if_neg c5] at H
   have yt:decide (5000 < ai) = false:=decide_eq_false c5
   clear c5
   by_cases c8:aj < 1
   ·rw [if_pos c8] at H
    have GJ:decide (aj < 1) = true:=decide_eq_true c8
    clear c8
    obtain rfl:=bh H
    go_enter Try.func28,Try.ntmps28
    go_wp2_with (first|((with_reducible refine av (N:=1) rfl ?_);refine ak (by rfl) (N:=1) (by rfl) (cs:=#[Z ab ai,Z ab aj,Z ab az,Z ab aA,Z ab aI,Z ab aD,Z ab aJ]) (t:=29) fU ?_;intro RA hg w9 ay hb;have mF:=af.mk (ay);have RB:=bY HB hg;have RD:=bY HB hg;replace HB:=dz HB hb;clear hb ay hg;obtain ⟨sP,sQ,NM,NN,ZB,ZC,ZE,sS,sU,NP,NQ,ZF,ZG,ZH⟩:=kz mF.out))
    go_ret
    exact ⟨mJ,gp⟩
   ·rw [if_neg c8] at H
    have GJ:decide (aj < 1) = false:=decide_eq_false c8
    clear c8
    by_cases c11:aj > 131072
    ·rw [if_pos c11] at H
     have I9:decide (131072 < aj) = true:=decide_eq_true c11
     clear c11
     obtain rfl:=bh H
     go_enter Try.func28,Try.ntmps28
     go_wp2_with (first|((with_reducible refine av (N:=1) rfl ?_);refine ak (by rfl) (N:=1) (by rfl) (cs:=#[Z ab ai,Z ab aj,Z ab az,Z ab aA,Z ab aI,Z ab aD,Z ab aJ]) (t:=29) fU ?_;intro RA hg Ja ay hb;have mF:=af.mk (ay);have RB:=bY HB hg;have RD:=bY HB hg;replace HB:=dz HB hb;clear hb ay hg;obtain ⟨sV,sW,zw,zx,GL,GM,Np,sZ,tq,zy,zz,GN,GQ,Nq⟩:=kz mF.out))
     go_ret
     exact ⟨mJ,gp⟩
    ·rw [if_neg c11] at H
     have I9:decide (131072 < aj) = false:=decide_eq_false c11
     clear c11
     replace H:=Option.bind_eq_some_iff.mp H
     obtain ⟨t113,aen,H⟩:=H
     replace H:(if t113 = true then ((bG.f aI aD 0 1073741824).bind fun t114=>(if t114 = true then (if aJ < 0 then (some 2) else (if aJ > 1073741824 then (some 2) else (some 0))) else (some 2))) else (some 2)) = some r:=H
     have A14:=af.mk aen
     clear aen
     by_cases c15:t113 = true
     ·subst c15
      have H1:((bG.f aI aD 0 1073741824).bind fun t114=>(if t114 = true then (if aJ < 0 then (some 2) else (if aJ > 1073741824 then (some 2) else (some 0))) else (some 2))) = some r:=by rw [if_pos rfl] at H;exact H
      clear H
      have H:=H1
      clear H1
      replace H:=Option.bind_eq_some_iff.mp H
      obtain ⟨t114,apu,H⟩:=H
      replace H:(if t114 = true then (if aJ < 0 then (some 2) else (if aJ > 1073741824 then (some 2) else (some 0))) else (some 2)) = some r:=H
      have A16:=af.mk apu
      clear apu
      by_cases c17:t114 = true
      ·subst c17
       have H1:(if aJ < 0 then (some 2) else (if aJ > 1073741824 then (some 2) else (some 0))) = some r:=by rw [if_pos rfl] at H;exact H
       clear H
       have H:=H1
       clear H1
       by_cases c18:aJ < 0
       ·rw [if_pos c18] at H
        have Rt:decide (aJ < 0) = true:=decide_eq_true c18
        clear c18
        obtain rfl:=bh H
        go_enter Try.func28,Try.ntmps28
        go_wp2_with (first|((with_reducible refine av (N:=1) rfl ?_);refine ak (by rfl) (N:=1) (by rfl) (cs:=#[Z ab ai,Z ab aj,Z ab az,Z ab aA,Z ab aI,Z ab aD,Z ab aJ]) (t:=29) fU ?_;intro RA hg w19 ay hb;have mF:=af.mk (ay);have RB:=bY HB hg;have RD:=bY HB hg;replace HB:=dz HB hb;clear hb ay hg;obtain ⟨uY,uZ,zQ,zR,BM,BN,Im,u6,ve,zS,zT,BO,BP,Io⟩:=kz mF.out)|(go_at_call 78;(with_reducible refine (bG.calls az aA 0 1073741824 true _ A14.out).mono ?_);rintro e w21 ⟨rfl,hb⟩;replace mF:=bn mF hb;replace HB:=dz HB hb;(try clear hb);(try clear hb2);(try clear hk);(try clear hi);obtain ⟨NC,ND,Zr,Zt,ah3,ah4,ah5,NF,NG,Zu,Zv,ah6,ah7,ah8⟩:=kz mF.out)|(go_at_call 78;(with_reducible refine (bG.calls aI aD 0 1073741824 true _ A16.out).mono ?_);rintro e w23 ⟨rfl,hb⟩;replace mF:=bn mF hb;replace HB:=dz HB hb;(try clear hb);(try clear hb2);(try clear hk);(try clear hi);obtain ⟨wP,wQ,Hr,Ht,TB,TC,TD,wS,wT,Hu,Hw,TE,TF,TG⟩:=kz mF.out))
        go_ret
        exact ⟨mJ,gp⟩
       ·rw [if_neg c18] at H
        have Rt:decide (aJ < 0) = false:=decide_eq_false c18
        clear c18
        by_cases c25:aJ > 1073741824
        ·rw [if_pos c25] at H
         have aGo:decide (1073741824 < aJ) = true:=decide_eq_true c25
         clear c25
         obtain rfl:=bh H
         go_enter Try.func28,Try.ntmps28
         go_wp2_with (first|((with_reducible refine av (N:=1) rfl ?_);refine ak (by rfl) (N:=1) (by rfl) (cs:=#[Z ab ai,Z ab aj,Z ab az,Z ab aA,Z ab aI,Z ab aD,Z ab aJ]) (t:=29) fU ?_;intro RA hg vG ay hb;have mF:=af.mk (ay);have RB:=bY HB hg;have RD:=bY HB hg;replace HB:=dz HB hb;clear hb ay hg;obtain ⟨Bl,Bn,Bo,Bp,D8,D9,Ea,Bq,Br,Bt,Bu,Eb,Ec,Ed⟩:=kz mF.out)|(go_at_call 78;(with_reducible refine (bG.calls az aA 0 1073741824 true _ A14.out).mono ?_);rintro e w28 ⟨rfl,hb⟩;replace mF:=bn mF hb;replace HB:=dz HB hb;(try clear hb);(try clear hb2);(try clear hk);(try clear hi);obtain ⟨EF,EG,Lb,Lc,Ol,Om,Oo,EH,EI,Ld,Le,Oq,Ot,Ou⟩:=kz mF.out)|(go_at_call 78;(with_reducible refine (bG.calls aI aD 0 1073741824 true _ A16.out).mono ?_);rintro e w30 ⟨rfl,hb⟩;replace mF:=bn mF hb;replace HB:=dz HB hb;(try clear hb);(try clear hb2);(try clear hk);(try clear hi);obtain ⟨Zw,Zx,aid,aie,asX,asY,asZ,Zy,Zz,aif,aih,as0,as1,as2⟩:=kz mF.out))
         go_ret
         exact ⟨mJ,gp⟩
        ·rw [if_neg c25] at H
         have aGo:decide (1073741824 < aJ) = false:=decide_eq_false c25
         clear c25
         obtain rfl:=bh H
         go_enter Try.func28,Try.ntmps28
         go_wp2_with (first|((with_reducible refine av (N:=1) rfl ?_);refine ak (by rfl) (N:=1) (by rfl) (cs:=#[Z ab ai,Z ab aj,Z ab az,Z ab aA,Z ab aI,Z ab aD,Z ab aJ]) (t:=29) fU ?_;intro RA hg w32 ay hb;have mF:=af.mk (ay);have RB:=bY HB hg;have RD:=bY HB hg;replace HB:=dz HB hb;clear hb ay hg;obtain ⟨Ny,Nz,ahN,ahO,ahP,ahQ,ahR,NA,NB,ahS,ahT,ahU,ahV,ahW⟩:=kz mF.out)|(go_at_call 78;(with_reducible refine (bG.calls az aA 0 1073741824 true _ A14.out).mono ?_);rintro e w34 ⟨rfl,hb⟩;replace mF:=bn mF hb;replace HB:=dz HB hb;(try clear hb);(try clear hb2);(try clear hk);(try clear hi);obtain ⟨zH,zI,Ei,Ej,KL,KM,KN,zJ,zK,El,Em,KO,KP,KQ⟩:=kz mF.out)|(go_at_call 78;(with_reducible refine (bG.calls aI aD 0 1073741824 true _ A16.out).mono ?_);rintro e w36 ⟨rfl,hb⟩;replace mF:=bn mF hb;replace HB:=dz HB hb;(try clear hb);(try clear hb2);(try clear hk);(try clear hi);obtain ⟨Oz,OA,aaM,aaN,aaO,aaP,ajp,OB,OC,aaQ,aaR,aaS,aaT,ajq⟩:=kz mF.out))
         go_ret
         exact ⟨mJ,gp⟩
      ·replace c17:=Bool.eq_false_iff.mpr c17
       subst c17
       have H1:(some 2) = some r:=by rw [if_neg (show ¬ (false = true) by decide)] at H;exact H
       clear H
       have H:=H1
       clear H1
       obtain rfl:=bh H
       go_enter Try.func28,Try.ntmps28
       go_wp2_with (first|((with_reducible refine av (N:=1) rfl ?_);refine ak (by rfl) (N:=1) (by rfl) (cs:=#[Z ab ai,Z ab aj,Z ab az,Z ab aA,Z ab aI,Z ab aD,Z ab aJ]) (t:=29) fU ?_;intro RA hg w38 ay hb;have mF:=af.mk (ay);have RB:=bY HB hg;have RD:=bY HB hg;replace HB:=dz HB hb;clear hb ay hg;obtain ⟨aaU,aaV,ajr,ajs,auw,auy,auz,aaW,aaX,ajt,aju,auA,auB,auC⟩:=kz mF.out)|(go_at_call 78;(with_reducible refine (bG.calls az aA 0 1073741824 true _ A14.out).mono ?_);rintro e w40 ⟨rfl,hb⟩;replace mF:=bn mF hb;replace HB:=dz HB hb;(try clear hb);(try clear hb2);(try clear hk);(try clear hi);obtain ⟨ajv,ajw,auD,auE,auF,auG,auH,ajx,ajy,auI,auJ,auK,auL,auM⟩:=kz mF.out)|(go_at_call 78;(with_reducible refine (bG.calls aI aD 0 1073741824 false _ A16.out).mono ?_);rintro e w42 ⟨rfl,hb⟩;replace mF:=bn mF hb;replace HB:=dz HB hb;(try clear hb);(try clear hb2);(try clear hk);(try clear hi)))
       go_ret
       exact ⟨mJ,gp⟩
     ·replace c15:=Bool.eq_false_iff.mpr c15
      subst c15
      have H1:(some 2) = some r:=by rw [if_neg (show ¬ (false = true) by decide)] at H;exact H
      clear H
      have H:=H1
      clear H1
      obtain rfl:=bh H
      go_enter Try.func28,Try.ntmps28
      go_wp2_with (first|((with_reducible refine av (N:=1) rfl ?_);refine ak (by rfl) (N:=1) (by rfl) (cs:=#[Z ab ai,Z ab aj,Z ab az,Z ab aA,Z ab aI,Z ab aD,Z ab aJ]) (t:=29) fU ?_;intro RA hg w43 ay hb;have mF:=af.mk (ay);have RB:=bY HB hg;have RD:=bY HB hg;replace HB:=dz HB hb;clear hb ay hg;obtain ⟨auN,auO,auP,auQ,auR,auS,auT,auU,auV,auW,auX,auY,auZ,au0⟩:=kz mF.out)|(go_at_call 78;(with_reducible refine (bG.calls az aA 0 1073741824 false _ A14.out).mono ?_);rintro e w45 ⟨rfl,hb⟩;replace mF:=bn mF hb;replace HB:=dz HB hb;(try clear hb);(try clear hb2);(try clear hk);(try clear hi)))
      go_ret
      exact ⟨mJ,gp⟩
def fZ.f (k:Nat) (ai:Int) (aj:Int) (az:Int) (aA:Int) (aI:Int) (aD:Int) (aJ:Int) (aX:List Bool) (aG:List (qK)) (aQ:Int) (aN:Int) (bC:Int) (bD:Int) (bU:Int) (bV:Int) (bW:Int):Option (Int):=(ax.f k ai aj az aA aI aD aJ aX aG).bind fun R9=>(if R9 = 0 then ((iL.f aQ aN bC bD bU bV bW).bind fun aeo=>(some aeo)) else ((ax.f k ai aj az aA aI aD aJ aX aG).bind fun aep=>(some aep)))
theorem fZ.calls (k:Nat) (ai:Int) (aj:Int) (az:Int) (aA:Int) (aI:Int) (aD:Int) (aJ:Int) (dY:Option Addr) (dS:Nat) (aX:List Bool) (dV:Option Addr) (dU:Nat) (aG:List (qK)) (aQ:Int) (aN:Int) (bC:Int) (bD:Int) (bU:Int) (bV:Int) (bW:Int) (r:Int) (w:ao) (jC:Kd.C Kd.bool w dY aX.length aX) (jD:aX.length≤dS) (jE:Kd.C Dt w dV aG.length aG) (jF:aG.length≤dU) (h:fZ.f k ai aj az aA aI aD aJ aX aG aQ aN bC bD bU bV bW = some r):
 Calls Try.prog 79 #[.agg #[Z ab ai,Z ab aj,Z ab az,Z ab aA,Z ab aI,Z ab aD,Z ab aJ,.slice dY aX.length dS,.slice dV aG.length dU],.agg #[Z ab aQ,Z ab aN,Z ab bC,Z ab bD,Z ab bU,Z ab bV,Z ab bW]] w fun e w'=>e = .returned (Z ab r)∧Below w.heap.size w w':=by
 have xS:=Try.underlying25
 have vo:=Try.underlying29
 have iI:=af.mk jC
 have iO:=af.mk jD
 clear jC jD
 have iB:=af.mk jE
 have iP:=af.mk jF
 clear jE jF
 have HB:=af.mk (Below.refl w.heap.size w)
 have H:((ax.f k ai aj az aA aI aD aJ aX aG).bind fun R9=>(if R9 = 0 then ((iL.f aQ aN bC bD bU bV bW).bind fun aeo=>(some aeo)) else ((ax.f k ai aj az aA aI aD aJ aX aG).bind fun aep=>(some aep)))) = some r:=h
 clear h
 replace H:=Option.bind_eq_some_iff.mp H
 obtain ⟨R9,PS,H⟩:=H
 replace H:(if R9 = 0 then ((iL.f aQ aN bC bD bU bV bW).bind fun aeo=>(some aeo)) else ((ax.f k ai aj az aA aI aD aJ aX aG).bind fun aep=>(some aep))) = some r:=H
 have A3:=af.mk PS
 clear PS
 by_cases c4:R9 = 0
 ·rw [if_pos c4] at H
  have rZ:(R9 == 0) = true:=beq_iff_eq.mpr c4
  have apg:(R9 != 0) = false:=bne_eq_false_iff_eq.mpr c4
  clear c4
  replace H:=Option.bind_eq_some_iff.mp H
  obtain ⟨aeo,VW,H⟩:=H
  replace H:(some aeo) = some r:=H
  have A5:=af.mk VW
  clear VW
  obtain rfl:=bh H
  go_enter Try.func79,Try.ntmps79
  go_wp2_with (first|((with_reducible refine av (N:=2) rfl ?_);refine ak (by rfl) (N:=2) (by rfl) (cs:=#[Z ab ai,Z ab aj,Z ab az,Z ab aA,Z ab aI,Z ab aD,Z ab aJ,.slice dY aX.length dS,.slice dV aG.length dU]) (t:=25) fU ?_;intro aGq hg w6 ay hb;have vM:=af.mk (ay);have aGr:=bY HB hg;have aGs:=bY HB hg;replace HB:=dz HB hb;clear hb ay hg)|((with_reducible refine av (N:=3) rfl ?_);refine ak (by rfl) (N:=3) (by rfl) (cs:=#[Z ab aQ,Z ab aN,Z ab bC,Z ab bD,Z ab bU,Z ab bV,Z ab bW]) (t:=29) fU ?_;intro aGt hg w7 ay hb;have Ml:=af.mk (ay);have aGu:=bY HB hg;have aGv:=bY HB hg;have Qx:=fG vM hg;have Qy:=fH vM hg;replace vM:=bn vM hb;replace HB:=dz HB hb;clear hb ay hg;have adp:=Qx.out;have adq:=Qy.out;obtain ⟨yB,yC,Ic,Ie,Qt,Qu,aat,aau,aav,yD,yE,Ig,Ih,Qv,Qw,aaw,aax,aay⟩:=jS vM.out)|((with_reducible refine aU (f:=26) rfl ?_);refine dn (some 6) rfl rfl Try.func26 aT rfl #[.agg #[Z ab ai,Z ab aj,Z ab az,Z ab aA,Z ab aI,Z ab aD,Z ab aJ,.slice dY aX.length dS,.slice dV aG.length dU]] rfl jB ?_;(with_reducible refine (ax.calls k ai aj az aA aI aD aJ _ _ aX _ _ aG R9 _ ?dG ?dH ?eP ?eQ A3.out).mono ?_);(case dG=>repeat (first|exact (Kd.bz iI.out HB.out)|(with_reducible refine Kd.bJ ?_ _)|(with_reducible refine Kd.bK ?_ _)|(with_reducible refine Kd.bZ ?_)));(case dH=>exact iO.out);(case eP=>repeat (first|exact (Kd.bz iB.out HB.out)|(with_reducible refine Kd.bJ ?_ _)|(with_reducible refine Kd.bK ?_ _)|(with_reducible refine Kd.bZ ?_)));(case eQ=>exact iP.out);rintro e w10 ⟨rfl,hb⟩;refine ⟨_,rfl,?_⟩;replace vM:=bn vM hb;replace Ml:=bn Ml hb;replace HB:=dz HB hb;(try clear hb);(try clear hb2);(try clear hk);(try clear hi);obtain ⟨uf,ug,wV,wW,BI,BJ,Hy,uh,ui,wX,wY,BK,BL,Hz⟩:=kz Ml.out)|((with_reducible refine aU (f:=28) rfl ?_);refine dn (some 11) rfl rfl Try.func28 aT rfl #[.agg #[Z ab aQ,Z ab aN,Z ab bC,Z ab bD,Z ab bU,Z ab bV,Z ab bW]] rfl jB ?_;(with_reducible refine (iL.calls aQ aN bC bD bU bV bW aeo _ A5.out).mono ?_);rintro e Ja ⟨rfl,hb⟩;refine ⟨_,rfl,?_⟩;replace vM:=bn vM hb;replace Ml:=bn Ml hb;replace HB:=dz HB hb;(try clear hb);(try clear hb2);(try clear hk);(try clear hi)))
  go_ret
  exact ⟨mJ,gp⟩
 ·rw [if_neg c4] at H
  have rZ:(R9 == 0) = false:=beq_eq_false_iff_ne.mpr c4
  have apg:(R9 != 0) = true:=bne_iff_ne.mpr c4
  replace H:=Option.bind_eq_some_iff.mp H
  obtain ⟨aep,apv,H⟩:=H
  replace H:(some aep) = some r:=H
  have A13:=af.mk apv
  clear apv
  obtain rfl:=bh H
  go_enter Try.func79,Try.ntmps79
  go_wp2_with (first|((with_reducible refine av (N:=2) rfl ?_);refine ak (by rfl) (N:=2) (by rfl) (cs:=#[Z ab ai,Z ab aj,Z ab az,Z ab aA,Z ab aI,Z ab aD,Z ab aJ,.slice dY aX.length dS,.slice dV aG.length dU]) (t:=25) fU ?_;intro aGq hg w14 ay hb;have vM:=af.mk (ay);have aGr:=bY HB hg;have aGs:=bY HB hg;replace HB:=dz HB hb;clear hb ay hg)|((with_reducible refine av (N:=3) rfl ?_);refine ak (by rfl) (N:=3) (by rfl) (cs:=#[Z ab aQ,Z ab aN,Z ab bC,Z ab bD,Z ab bU,Z ab bV,Z ab bW]) (t:=29) fU ?_;intro aGt hg w15 ay hb;have Ml:=af.mk (ay);have aGu:=bY HB hg;have aGv:=bY HB hg;have Qx:=fG vM hg;have Qy:=fH vM hg;replace vM:=bn vM hb;replace HB:=dz HB hb;clear hb ay hg;have OD:=Qx.out;have OE:=Qy.out;obtain ⟨tJ,tK,wH,wI,DD,DF,Kz,SS,SV,tL,tN,wJ,wK,DI,DJ,KA,SX,SY⟩:=jS vM.out)|((with_reducible refine aU (f:=26) rfl ?_);refine dn (some 6) rfl rfl Try.func26 aT rfl #[.agg #[Z ab ai,Z ab aj,Z ab az,Z ab aA,Z ab aI,Z ab aD,Z ab aJ,.slice dY aX.length dS,.slice dV aG.length dU]] rfl jB ?_;(with_reducible refine (ax.calls k ai aj az aA aI aD aJ _ _ aX _ _ aG R9 _ ?dG ?dH ?eP ?eQ A3.out).mono ?_);(case dG=>repeat (first|exact (Kd.bz iI.out HB.out)|(with_reducible refine Kd.bJ ?_ _)|(with_reducible refine Kd.bK ?_ _)|(with_reducible refine Kd.bZ ?_)));(case dH=>exact iO.out);(case eP=>repeat (first|exact (Kd.bz iB.out HB.out)|(with_reducible refine Kd.bJ ?_ _)|(with_reducible refine Kd.bK ?_ _)|(with_reducible refine Kd.bZ ?_)));(case eQ=>exact iP.out);rintro e w18 ⟨rfl,hb⟩;refine ⟨_,rfl,?_⟩;replace vM:=bn vM hb;replace Ml:=bn Ml hb;replace HB:=dz HB hb;(try clear hb);(try clear hb2);(try clear hk);(try clear hi);obtain ⟨uR,uS,wL,wM,Bc,Bd,GR,S9,Ta,uT,uU,wN,wO,Be,Bf,GU,Tc,Td⟩:=jS vM.out)|((with_reducible refine aU (f:=26) rfl ?_);refine dn (some 9) rfl rfl Try.func26 aT rfl #[.agg #[Z ab ai,Z ab aj,Z ab az,Z ab aA,Z ab aI,Z ab aD,Z ab aJ,.slice dY aX.length dS,.slice dV aG.length dU]] rfl jB ?_;(with_reducible refine (ax.calls k ai aj az aA aI aD aJ _ _ aX _ _ aG aep _ ?dG ?dH ?eP ?eQ A13.out).mono ?_);(case dG=>repeat (first|exact (Kd.bz iI.out HB.out)|(with_reducible refine Kd.bJ ?_ _)|(with_reducible refine Kd.bK ?_ _)|(with_reducible refine Kd.bZ ?_)));(case dH=>exact iO.out);(case eP=>repeat (first|exact (Kd.bz iB.out HB.out)|(with_reducible refine Kd.bJ ?_ _)|(with_reducible refine Kd.bK ?_ _)|(with_reducible refine Kd.bZ ?_)));(case eQ=>exact iP.out);rintro e Jb ⟨rfl,hb⟩;refine ⟨_,rfl,?_⟩;replace vM:=bn vM hb;replace Ml:=bn Ml hb;replace HB:=dz HB hb;(try clear hb);(try clear hb2);(try clear hk);(try clear hi)))
  go_ret
  exact ⟨mJ,gp⟩
def eT.f (ai:Int) (aj:Int) (az:Int) (aA:Int):Option (Bool):=(bT.f ai aj).bind fun t116=>(if t116 = true then ((bT.f az aA).bind fun t117=>(if t117 = true then ((aW.f ai (-268435456) 268435456).bind fun t118=>(if t118 = true then ((aW.f aj (-268435456) 268435456).bind fun t119=>(if t119 = true then ((aW.f az (-268435456) 268435456).bind fun t120=>(if t120 = true then ((aW.f aA (-268435456) 268435456).bind fun t121=>(some t121)) else (some false))) else (some false))) else (some false))) else (some false))) else (some false))
theorem eT.calls (ai:Int) (aj:Int) (az:Int) (aA:Int) (r:Bool) (w:ao) (h:eT.f ai aj az aA = some r):
 Calls Try.prog 63 #[.agg #[Z ab ai,Z ab aj,Z ab az,Z ab aA]] w fun e w'=>e = .returned (.bool r)∧Below w.heap.size w w':=by
 have qj:=Try.underlying31
 have oO:=Try.underlying27
 have HB:=af.mk (Below.refl w.heap.size w)
 have H:((bT.f ai aj).bind fun t116=>(if t116 = true then ((bT.f az aA).bind fun t117=>(if t117 = true then ((aW.f ai (-268435456) 268435456).bind fun t118=>(if t118 = true then ((aW.f aj (-268435456) 268435456).bind fun t119=>(if t119 = true then ((aW.f az (-268435456) 268435456).bind fun t120=>(if t120 = true then ((aW.f aA (-268435456) 268435456).bind fun t121=>(some t121)) else (some false))) else (some false))) else (some false))) else (some false))) else (some false))) = some r:=h
 clear h
 replace H:=Option.bind_eq_some_iff.mp H
 obtain ⟨t116,Yg,H⟩:=H
 replace H:(if t116 = true then ((bT.f az aA).bind fun t117=>(if t117 = true then ((aW.f ai (-268435456) 268435456).bind fun t118=>(if t118 = true then ((aW.f aj (-268435456) 268435456).bind fun t119=>(if t119 = true then ((aW.f az (-268435456) 268435456).bind fun t120=>(if t120 = true then ((aW.f aA (-268435456) 268435456).bind fun t121=>(some t121)) else (some false))) else (some false))) else (some false))) else (some false))) else (some false)) = some r:=H
 have A2:=af.mk Yg
 clear Yg
 by_cases c3:t116 = true
 ·subst c3
  have H1:((bT.f az aA).bind fun t117=>(if t117 = true then ((aW.f ai (-268435456) 268435456).bind fun t118=>(if t118 = true then ((aW.f aj (-268435456) 268435456).bind fun t119=>(if t119 = true then ((aW.f az (-268435456) 268435456).bind fun t120=>(if t120 = true then ((aW.f aA (-268435456) 268435456).bind fun t121=>(some t121)) else (some false))) else (some false))) else (some false))) else (some false))) = some r:=by rw [if_pos rfl] at H;exact H
  clear H
  have H:=H1
  clear H1
  replace H:=Option.bind_eq_some_iff.mp H
  obtain ⟨t117,ME,H⟩:=H
  replace H:(if t117 = true then ((aW.f ai (-268435456) 268435456).bind fun t118=>(if t118 = true then ((aW.f aj (-268435456) 268435456).bind fun t119=>(if t119 = true then ((aW.f az (-268435456) 268435456).bind fun t120=>(if t120 = true then ((aW.f aA (-268435456) 268435456).bind fun t121=>(some t121)) else (some false))) else (some false))) else (some false))) else (some false)) = some r:=H
  have A4:=af.mk ME
  clear ME
  by_cases c5:t117 = true
  ·subst c5
   have H1:((aW.f ai (-268435456) 268435456).bind fun t118=>(if t118 = true then ((aW.f aj (-268435456) 268435456).bind fun t119=>(if t119 = true then ((aW.f az (-268435456) 268435456).bind fun t120=>(if t120 = true then ((aW.f aA (-268435456) 268435456).bind fun t121=>(some t121)) else (some false))) else (some false))) else (some false))) = some r:=by rw [if_pos rfl] at H;exact H
   clear H
   have H:=H1
   clear H1
   replace H:=Option.bind_eq_some_iff.mp H
   obtain ⟨t118,Nn,H⟩:=H
   replace H:(if t118 = true then ((aW.f aj (-268435456) 268435456).bind fun t119=>(if t119 = true then ((aW.f az (-268435456) 268435456).bind fun t120=>(if t120 = true then ((aW.f aA (-268435456) 268435456).bind fun t121=>(some t121)) else (some false))) else (some false))) else (some false)) = some r:=H
   have A6:=af.mk Nn
   clear Nn
   by_cases c7:t118 = true
   ·subst c7
    have H1:((aW.f aj (-268435456) 268435456).bind fun t119=>(if t119 = true then ((aW.f az (-268435456) 268435456).bind fun t120=>(if t120 = true then ((aW.f aA (-268435456) 268435456).bind fun t121=>(some t121)) else (some false))) else (some false))) = some r:=by rw [if_pos rfl] at H;exact H
    clear H
    have H:=H1
    clear H1
    replace H:=Option.bind_eq_some_iff.mp H
    obtain ⟨t119,Rq,H⟩:=H
    replace H:(if t119 = true then ((aW.f az (-268435456) 268435456).bind fun t120=>(if t120 = true then ((aW.f aA (-268435456) 268435456).bind fun t121=>(some t121)) else (some false))) else (some false)) = some r:=H
    have A8:=af.mk Rq
    clear Rq
    by_cases c9:t119 = true
    ·subst c9
     have H1:((aW.f az (-268435456) 268435456).bind fun t120=>(if t120 = true then ((aW.f aA (-268435456) 268435456).bind fun t121=>(some t121)) else (some false))) = some r:=by rw [if_pos rfl] at H;exact H
     clear H
     have H:=H1
     clear H1
     replace H:=Option.bind_eq_some_iff.mp H
     obtain ⟨t120,Fu,H⟩:=H
     replace H:(if t120 = true then ((aW.f aA (-268435456) 268435456).bind fun t121=>(some t121)) else (some false)) = some r:=H
     have Rs:=af.mk Fu
     clear Fu
     by_cases c11:t120 = true
     ·subst c11
      have H1:((aW.f aA (-268435456) 268435456).bind fun t121=>(some t121)) = some r:=by rw [if_pos rfl] at H;exact H
      clear H
      have H:=H1
      clear H1
      replace H:=Option.bind_eq_some_iff.mp H
      obtain ⟨t121,OG,H⟩:=H
      replace H:(some t121) = some r:=H
      have A12:=af.mk OG
      clear OG
      obtain rfl:=bh H
      go_enter Try.func63,Try.ntmps63
      go_wp2_with (first|((with_reducible refine av (N:=1) rfl ?_);refine ak (by rfl) (N:=1) (by rfl) (cs:=#[Z ab ai,Z ab aj,Z ab az,Z ab aA]) (t:=31) fU ?_;intro aeq hg GK ay hb;have mH:=af.mk (ay);have aer:=bY HB hg;have aes:=bY HB hg;replace HB:=dz HB hb;clear hb ay hg;obtain ⟨AY,AZ,KW,KX,Ba,Bb,KY,KZ⟩:=jA mH.out)|((with_reducible refine aU (f:=111) rfl ?_);refine dn (some 5) rfl rfl Try.func111 aT rfl #[.agg #[Z ab ai,Z ab aj]] rfl jB ?_;(with_reducible refine (bT.calls ai aj true _ A2.out).mono ?_);rintro e w15 ⟨rfl,hb⟩;refine ⟨_,rfl,?_⟩;replace mH:=bn mH hb;replace HB:=dz HB hb;(try clear hb);(try clear hb2);(try clear hk);(try clear hi);obtain ⟨Zn,Zo,aOa,aOb,Zp,Zq,aOc,aOd⟩:=jA mH.out)|(go_at_call 111;(with_reducible refine (bT.calls az aA true _ A4.out).mono ?_);rintro e DC ⟨rfl,hb⟩;replace mH:=bn mH hb;replace HB:=dz HB hb;(try clear hb);(try clear hb2);(try clear hk);(try clear hi);obtain ⟨Ep,Er,Sz,SA,Es,Et,SB,SC⟩:=jA mH.out)|(go_at_call 112;(with_reducible refine (aW.calls ai (-268435456) 268435456 true _ A6.out).mono ?_);rintro e w' ⟨rfl,⟨nd,rfl⟩⟩)|(go_at_call 112;(with_reducible refine (aW.calls aj (-268435456) 268435456 true _ A8.out).mono ?_);rintro e w' ⟨rfl,⟨nd,rfl⟩⟩)|(go_at_call 112;(with_reducible refine (aW.calls az (-268435456) 268435456 true _ Rs.out).mono ?_);rintro e w' ⟨rfl,⟨nd,rfl⟩⟩)|(go_at_call 112;(with_reducible refine (aW.calls aA (-268435456) 268435456 t121 _ A12.out).mono ?_);rintro e w' ⟨rfl,⟨nd,rfl⟩⟩))
      go_ret
      exact ⟨mJ,gp⟩
     ·replace c11:=Bool.eq_false_iff.mpr c11
      subst c11
      have H1:(some false) = some r:=by rw [if_neg (show ¬ (false = true) by decide)] at H;exact H
      clear H
      have H:=H1
      clear H1
      obtain rfl:=bh H
      go_enter Try.func63,Try.ntmps63
      go_wp2_with (first|((with_reducible refine av (N:=1) rfl ?_);refine ak (by rfl) (N:=1) (by rfl) (cs:=#[Z ab ai,Z ab aj,Z ab az,Z ab aA]) (t:=31) fU ?_;intro aeq hg w19 ay hb;have mH:=af.mk (ay);have aer:=bY HB hg;have aes:=bY HB hg;replace HB:=dz HB hb;clear hb ay hg;obtain ⟨uY,uZ,zQ,zR,u6,ve,zS,zT⟩:=jA mH.out)|((with_reducible refine aU (f:=111) rfl ?_);refine dn (some 5) rfl rfl Try.func111 aT rfl #[.agg #[Z ab ai,Z ab aj]] rfl jB ?_;(with_reducible refine (bT.calls ai aj true _ A2.out).mono ?_);rintro e w21 ⟨rfl,hb⟩;refine ⟨_,rfl,?_⟩;replace mH:=bn mH hb;replace HB:=dz HB hb;(try clear hb);(try clear hb2);(try clear hk);(try clear hi);obtain ⟨NC,ND,Zr,Zt,NF,NG,Zu,Zv⟩:=jA mH.out)|(go_at_call 111;(with_reducible refine (bT.calls az aA true _ A4.out).mono ?_);rintro e w23 ⟨rfl,hb⟩;replace mH:=bn mH hb;replace HB:=dz HB hb;(try clear hb);(try clear hb2);(try clear hk);(try clear hi);obtain ⟨wP,wQ,Hr,Ht,wS,wT,Hu,Hw⟩:=jA mH.out)|(go_at_call 112;(with_reducible refine (aW.calls ai (-268435456) 268435456 true _ A6.out).mono ?_);rintro e w' ⟨rfl,⟨nd,rfl⟩⟩)|(go_at_call 112;(with_reducible refine (aW.calls aj (-268435456) 268435456 true _ A8.out).mono ?_);rintro e w' ⟨rfl,⟨nd,rfl⟩⟩)|(go_at_call 112;(with_reducible refine (aW.calls az (-268435456) 268435456 false _ Rs.out).mono ?_);rintro e w' ⟨rfl,⟨nd,rfl⟩⟩))
      go_ret
      exact ⟨mJ,gp⟩
    ·replace c9:=Bool.eq_false_iff.mpr c9
     subst c9
     have H1:(some false) = some r:=by rw [if_neg (show ¬ (false = true) by decide)] at H;exact H
     clear H
     have H:=H1
     clear H1
     obtain rfl:=bh H
     go_enter Try.func63,Try.ntmps63
     go_wp2_with (first|((with_reducible refine av (N:=1) rfl ?_);refine ak (by rfl) (N:=1) (by rfl) (cs:=#[Z ab ai,Z ab aj,Z ab az,Z ab aA]) (t:=31) fU ?_;intro aeq hg w25 ay hb;have mH:=af.mk (ay);have aer:=bY HB hg;have aes:=bY HB hg;replace HB:=dz HB hb;clear hb ay hg;obtain ⟨ah9,aia,aue,auf,aib,aic,aug,auh⟩:=jA mH.out)|((with_reducible refine aU (f:=111) rfl ?_);refine dn (some 5) rfl rfl Try.func111 aT rfl #[.agg #[Z ab ai,Z ab aj]] rfl jB ?_;(with_reducible refine (bT.calls ai aj true _ A2.out).mono ?_);rintro e w27 ⟨rfl,hb⟩;refine ⟨_,rfl,?_⟩;replace mH:=bn mH hb;replace HB:=dz HB hb;(try clear hb);(try clear hb2);(try clear hk);(try clear hi);obtain ⟨Lh,Li,OH,OI,Lj,Ll,OJ,OL⟩:=jA mH.out)|(go_at_call 111;(with_reducible refine (bT.calls az aA true _ A4.out).mono ?_);rintro e w29 ⟨rfl,hb⟩;replace mH:=bn mH hb;replace HB:=dz HB hb;(try clear hb);(try clear hb2);(try clear hk);(try clear hi);obtain ⟨Ee,Ef,G9,Ha,Eg,Eh,Hd,He⟩:=jA mH.out)|(go_at_call 112;(with_reducible refine (aW.calls ai (-268435456) 268435456 true _ A6.out).mono ?_);rintro e w' ⟨rfl,⟨nd,rfl⟩⟩)|(go_at_call 112;(with_reducible refine (aW.calls aj (-268435456) 268435456 false _ A8.out).mono ?_);rintro e w' ⟨rfl,⟨nd,rfl⟩⟩))
     go_ret
     exact ⟨mJ,gp⟩
   ·replace c7:=Bool.eq_false_iff.mpr c7
    subst c7
    have H1:(some false) = some r:=by rw [if_neg (show ¬ (false = true) by decide)] at H;exact H
    clear H
    have H:=H1
    clear H1
    obtain rfl:=bh H
    go_enter Try.func63,Try.ntmps63
    go_wp2_with (first|((with_reducible refine av (N:=1) rfl ?_);refine ak (by rfl) (N:=1) (by rfl) (cs:=#[Z ab ai,Z ab aj,Z ab az,Z ab aA]) (t:=31) fU ?_;intro aeq hg w31 ay hb;have mH:=af.mk (ay);have aer:=bY HB hg;have aes:=bY HB hg;replace HB:=dz HB hb;clear hb ay hg;obtain ⟨aaY,aaZ,aa0,aa1,aa2,aa3,aa4,aa5⟩:=jA mH.out)|((with_reducible refine aU (f:=111) rfl ?_);refine dn (some 5) rfl rfl Try.func111 aT rfl #[.agg #[Z ab ai,Z ab aj]] rfl jB ?_;(with_reducible refine (bT.calls ai aj true _ A2.out).mono ?_);rintro e Jd ⟨rfl,hb⟩;refine ⟨_,rfl,?_⟩;replace mH:=bn mH hb;replace HB:=dz HB hb;(try clear hb);(try clear hb2);(try clear hk);(try clear hi);obtain ⟨EL,EM,Ov,Ow,EN,EO,Ox,Oy⟩:=jA mH.out)|(go_at_call 111;(with_reducible refine (bT.calls az aA true _ A4.out).mono ?_);rintro e w35 ⟨rfl,hb⟩;replace mH:=bn mH hb;replace HB:=dz HB hb;(try clear hb);(try clear hb2);(try clear hk);(try clear hi);obtain ⟨NH,NI,Su,Sv,NJ,NK,Sw,Sy⟩:=jA mH.out)|(go_at_call 112;(with_reducible refine (aW.calls ai (-268435456) 268435456 false _ A6.out).mono ?_);rintro e w' ⟨rfl,⟨nd,rfl⟩⟩))
    go_ret
    exact ⟨mJ,gp⟩
  ·replace c5:=Bool.eq_false_iff.mpr c5
   subst c5
   have H1:(some false) = some r:=by rw [if_neg (show ¬ (false = true) by decide)] at H;exact H
   clear H
   have H:=H1
   clear H1
   obtain rfl:=bh H
   go_enter Try.func63,Try.ntmps63
   go_wp2_with (first|((with_reducible refine av (N:=1) rfl ?_);refine ak (by rfl) (N:=1) (by rfl) (cs:=#[Z ab ai,Z ab aj,Z ab az,Z ab aA]) (t:=31) fU ?_;intro aeq hg w37 ay hb;have mH:=af.mk (ay);have aer:=bY HB hg;have aes:=bY HB hg;replace HB:=dz HB hb;clear hb ay hg;obtain ⟨aOe,aOf,aOg,aOh,aOi,aOj,aOk,aOl⟩:=jA mH.out)|((with_reducible refine aU (f:=111) rfl ?_);refine dn (some 5) rfl rfl Try.func111 aT rfl #[.agg #[Z ab ai,Z ab aj]] rfl jB ?_;(with_reducible refine (bT.calls ai aj true _ A2.out).mono ?_);rintro e w39 ⟨rfl,hb⟩;refine ⟨_,rfl,?_⟩;replace mH:=bn mH hb;replace HB:=dz HB hb;(try clear hb);(try clear hb2);(try clear hk);(try clear hi);obtain ⟨aio,aip,as3,as4,aiq,air,as5,as6⟩:=jA mH.out)|(go_at_call 111;(with_reducible refine (bT.calls az aA false _ A4.out).mono ?_);rintro e w41 ⟨rfl,hb⟩;replace mH:=bn mH hb;replace HB:=dz HB hb;(try clear hb);(try clear hb2);(try clear hk);(try clear hi)))
   go_ret
   exact ⟨mJ,gp⟩
 ·replace c3:=Bool.eq_false_iff.mpr c3
  subst c3
  have H1:(some false) = some r:=by rw [if_neg (show ¬ (false = true) by decide)] at H;exact H
  clear H
  have H:=H1
  clear H1
  obtain rfl:=bh H
  go_enter Try.func63,Try.ntmps63
  go_wp2_with (first|((with_reducible refine av (N:=1) rfl ?_);refine ak (by rfl) (N:=1) (by rfl) (cs:=#[Z ab ai,Z ab aj,Z ab az,Z ab aA]) (t:=31) fU ?_;intro aeq hg w42 ay hb;have mH:=af.mk (ay);have aer:=bY HB hg;have aes:=bY HB hg;replace HB:=dz HB hb;clear hb ay hg;obtain ⟨ajh,aji,ajj,ajk,ajl,ajm,ajn,ajo⟩:=jA mH.out)|((with_reducible refine aU (f:=111) rfl ?_);refine dn (some 5) rfl rfl Try.func111 aT rfl #[.agg #[Z ab ai,Z ab aj]] rfl jB ?_;(with_reducible refine (bT.calls ai aj false _ A2.out).mono ?_);rintro e w44 ⟨rfl,hb⟩;refine ⟨_,rfl,?_⟩;replace mH:=bn mH hb;replace HB:=dz HB hb;(try clear hb);(try clear hb2);(try clear hk);(try clear hi)))
  go_ret
  exact ⟨mJ,gp⟩
def fA.f (ai:Int) (aj:Int) (az:Int) (aA:Int) (a1:Int):Option (Int):=(eT.f ai aj az aA).bind fun amv=>(if amv = true then (if a1 < 0 then (some 3) else (if a1 > 1073741824 then (some 3) else (some 0))) else (some 2))
theorem fA.calls (ai:Int) (aj:Int) (az:Int) (aA:Int) (a1:Int) (r:Int) (w:ao) (h:fA.f ai aj az aA a1 = some r):
 Calls Try.prog 80 #[.agg #[Z ab ai,Z ab aj,Z ab az,Z ab aA],Z ab a1] w fun e w'=>e = .returned (Z ab r)∧Below w.heap.size w w':=by
 have qj:=Try.underlying31
 have HB:=af.mk (Below.refl w.heap.size w)
 have H:((eT.f ai aj az aA).bind fun amv=>(if amv = true then (if a1 < 0 then (some 3) else (if a1 > 1073741824 then (some 3) else (some 0))) else (some 2))) = some r:=h
 clear h
 replace H:=Option.bind_eq_some_iff.mp H
 obtain ⟨amv,PS,H⟩:=H
 replace H:(if amv = true then (if a1 < 0 then (some 3) else (if a1 > 1073741824 then (some 3) else (some 0))) else (some 2)) = some r:=H
 have A3:=af.mk PS
 clear PS
 by_cases c4:amv = true
 ·subst c4
  have H1:(if a1 < 0 then (some 3) else (if a1 > 1073741824 then (some 3) else (some 0))) = some r:=by rw [if_pos rfl] at H;exact H
  clear H
  have H:=H1
  clear H1
  by_cases c5:a1 < 0
  ·rw [if_pos c5] at H
   have yt:decide (a1 < 0) = true:=decide_eq_true c5
   clear c5
   obtain rfl:=bh H
   go_enter Try.func80,Try.ntmps80
   go_wp2_with (first|((with_reducible refine av (N:=2) rfl ?_);refine ak (by rfl) (N:=2) (by rfl) (cs:=#[Z ab ai,Z ab aj,Z ab az,Z ab aA]) (t:=31) fU ?_;intro apw hg w6 ay hb;have Cy:=af.mk (ay);have apx:=bY HB hg;have apy:=bY HB hg;replace HB:=dz HB hb;clear hb ay hg;obtain ⟨wD,wE,Cu,Cv,wF,wG,Cw,Cx⟩:=jA Cy.out)|((with_reducible refine aU (f:=63) rfl ?_);refine dn (some 6) rfl rfl Try.func63 aT rfl #[.agg #[Z ab ai,Z ab aj,Z ab az,Z ab aA]] rfl jB ?_;(with_reducible refine (eT.calls ai aj az aA true _ A3.out).mono ?_);rintro e w8 ⟨rfl,hb⟩;refine ⟨_,rfl,?_⟩;replace Cy:=bn Cy hb;replace HB:=dz HB hb;(try clear hb);(try clear hb2);(try clear hk);(try clear hi)))
   go_ret
   exact ⟨mJ,gp⟩
  ·rw [if_neg c5] at H
   have yt:decide (a1 < 0) = false:=decide_eq_false c5
   clear c5
   by_cases c9:a1 > 1073741824
   ·rw [if_pos c9] at H
    have JM:decide (1073741824 < a1) = true:=decide_eq_true c9
    clear c9
    obtain rfl:=bh H
    go_enter Try.func80,Try.ntmps80
    go_wp2_with (first|((with_reducible refine av (N:=2) rfl ?_);refine ak (by rfl) (N:=2) (by rfl) (cs:=#[Z ab ai,Z ab aj,Z ab az,Z ab aA]) (t:=31) fU ?_;intro apw hg w10 ay hb;have Cy:=af.mk (ay);have apx:=bY HB hg;have apy:=bY HB hg;replace HB:=dz HB hb;clear hb ay hg;obtain ⟨uf,ug,wV,wW,uh,ui,wX,wY⟩:=jA Cy.out)|((with_reducible refine aU (f:=63) rfl ?_);refine dn (some 6) rfl rfl Try.func63 aT rfl #[.agg #[Z ab ai,Z ab aj,Z ab az,Z ab aA]] rfl jB ?_;(with_reducible refine (eT.calls ai aj az aA true _ A3.out).mono ?_);rintro e Ja ⟨rfl,hb⟩;refine ⟨_,rfl,?_⟩;replace Cy:=bn Cy hb;replace HB:=dz HB hb;(try clear hb);(try clear hb2);(try clear hk);(try clear hi)))
    go_ret
    exact ⟨mJ,gp⟩
   ·rw [if_neg c9] at H
    have JM:decide (1073741824 < a1) = false:=decide_eq_false c9
    clear c9
    obtain rfl:=bh H
    go_enter Try.func80,Try.ntmps80
    go_wp2_with (first|((with_reducible refine av (N:=2) rfl ?_);refine ak (by rfl) (N:=2) (by rfl) (cs:=#[Z ab ai,Z ab aj,Z ab az,Z ab aA]) (t:=31) fU ?_;intro apw hg GK ay hb;have Cy:=af.mk (ay);have apx:=bY HB hg;have apy:=bY HB hg;replace HB:=dz HB hb;clear hb ay hg;obtain ⟨AY,AZ,KW,KX,Ba,Bb,KY,KZ⟩:=jA Cy.out)|((with_reducible refine aU (f:=63) rfl ?_);refine dn (some 6) rfl rfl Try.func63 aT rfl #[.agg #[Z ab ai,Z ab aj,Z ab az,Z ab aA]] rfl jB ?_;(with_reducible refine (eT.calls ai aj az aA true _ A3.out).mono ?_);rintro e w15 ⟨rfl,hb⟩;refine ⟨_,rfl,?_⟩;replace Cy:=bn Cy hb;replace HB:=dz HB hb;(try clear hb);(try clear hb2);(try clear hk);(try clear hi)))
    go_ret
    exact ⟨mJ,gp⟩
 ·replace c4:=Bool.eq_false_iff.mpr c4
  subst c4
  have H1:(some 2) = some r:=by rw [if_neg (show ¬ (false = true) by decide)] at H;exact H
  clear H
  have H:=H1
  clear H1
  obtain rfl:=bh H
  go_enter Try.func80,Try.ntmps80
  go_wp2_with (first|((with_reducible refine av (N:=2) rfl ?_);refine ak (by rfl) (N:=2) (by rfl) (cs:=#[Z ab ai,Z ab aj,Z ab az,Z ab aA]) (t:=31) fU ?_;intro apw hg w16 ay hb;have Cy:=af.mk (ay);have apx:=bY HB hg;have apy:=bY HB hg;replace HB:=dz HB hb;clear hb ay hg;obtain ⟨tJ,tK,wH,wI,tL,tN,wJ,wK⟩:=jA Cy.out)|((with_reducible refine aU (f:=63) rfl ?_);refine dn (some 6) rfl rfl Try.func63 aT rfl #[.agg #[Z ab ai,Z ab aj,Z ab az,Z ab aA]] rfl jB ?_;(with_reducible refine (eT.calls ai aj az aA false _ A3.out).mono ?_);rintro e w18 ⟨rfl,hb⟩;refine ⟨_,rfl,?_⟩;replace Cy:=bn Cy hb;replace HB:=dz HB hb;(try clear hb);(try clear hb2);(try clear hk);(try clear hi)))
  go_ret
  exact ⟨mJ,gp⟩
def bQ.l0:Nat→List (gU)→Int→Int→Option (Int)
 |0,_,_,_=>none
 |k+1,x0,x1,x5=>if x5 < (x0.length:Int) then (if 0≤x5 then (if ((bX x0 x5).f0) < 0 then (some 2) else (if ((bX x0 x5).f0) > 8 then (some 2) else (if ((bX x0 x5).f1) < 0 then (some 2) else (if x1 ≥ 0 then (if ((bX x0 x5).f1) ≥ x1 then (some 2) else (bQ.l0 k x0 x1 (an (x5+1)))) else (bQ.l0 k x0 x1 (an (x5+1))))))) else (none)) else (some 0)
def bQ.f (k:Nat) (l0:List (gU)) (a1:Int):Option (Int):=if (l0.length:Int) > 64 then (some 6) else (bQ.l0 k l0 a1 0)
theorem bQ.calls (k:Nat) (A0:Option Addr) (c0:Nat) (l0:List (gU)) (a1:Int) (r:Int) (w:ao) (hr0:Kd.C yn w A0 l0.length l0) (hc0:l0.length≤c0) (h:bQ.f k l0 a1 = some r):
 Calls Try.prog 81 #[.slice A0 l0.length c0,Z ab a1] w fun e w'=>e = .returned (Z ab r)∧su w w':=by
 have Mh:=af.mk hr0
 have HC0:=af.mk hc0
 clear hr0 hc0
 have H:(if (l0.length:Int) > 64 then (some 6) else (bQ.l0 k l0 a1 0)) = some r:=h
 clear h
 by_cases c3:(l0.length:Int) > 64
 ·rw [if_pos c3] at H
  have yo:decide (64 < (l0.length:Int)) = true:=decide_eq_true c3
  have JD:decide (64 < l0.length) = true:=decide_eq_true (by omega)
  clear c3
  obtain rfl:=bh H
  go_enter Try.func81,Try.ntmps81
  go_wp2
  go_ret
  exact ⟨om,Xq⟩
 ·rw [if_neg c3] at H
  have yo:decide (64 < (l0.length:Int)) = false:=decide_eq_false c3
  have JD:decide (64 < l0.length) = false:=decide_eq_false (by omega)
  clear c3
  have H':=af.mk H
  clear H
  go_enter Try.func81,Try.ntmps81
  go_wp2
  go_loopg [5] k (fun kq v5 w'=>∃ (fe:Int),v5 = Z ab fe∧af (bQ.l0 kq l0 a1 fe = some r)∧af (kq≤k)∧su w w')
  case atStart=>exact ⟨(0),om,H',⟨Nat.le_refl _⟩,Xq⟩
  case round =>
   clear H'
   try clear p2
   try clear c3
   try clear yo
   try clear JD
   obtain ⟨fe,rfl,HA,Cj,⟨m1,rfl⟩⟩:=hrel
   cases gk with
   |zero=>exact absurd HA.out (by simp [bQ.l0])
   |succ k1 =>
    have H:=HA.out
    clear HA
    simp only [bQ.l0] at H
    by_cases c4:fe < (l0.length:Int)
    ·rw [if_pos c4] at H
     have rZ:decide (fe < (l0.length:Int)) = true:=decide_eq_true c4
     clear c4
     by_cases c5:0≤fe
     ·rw [if_pos c5] at H
      have yt:decide (0≤fe) = true:=decide_eq_true c5
      clear c5
      by_cases c6:((bX l0 fe).f0) < 0
      ·rw [if_pos c6] at H
       have Du:decide (((bX l0 fe).f0) < 0) = true:=decide_eq_true c6
       clear c6
       obtain rfl:=bh H
       have Cz:0≤(fe:Int):=of_decide_eq_true nM
       have CB:fe < (l0.length:Int):=of_decide_eq_true nM
       obtain ⟨AO,Wj,OM,OO⟩:=lN Mh.out fe Cz CB
       cases Wj
       replace Cz:=eq_true Cz
       replace CB:=eq_true CB
       go_wp2
       go_ret
       exact ⟨om,Xq⟩
      ·rw [if_neg c6] at H
       have Du:decide (((bX l0 fe).f0) < 0) = false:=decide_eq_false c6
       clear c6
       by_cases c7:((bX l0 fe).f0) > 8
       ·rw [if_pos c7] at H
        have Oh:decide (8 < ((bX l0 fe).f0)) = true:=decide_eq_true c7
        clear c7
        obtain rfl:=bh H
        have Cz:0≤(fe:Int):=of_decide_eq_true nM
        have CB:fe < (l0.length:Int):=of_decide_eq_true nM
        obtain ⟨AO,Wj,OM,OO⟩:=lN Mh.out fe Cz CB
        cases Wj
        replace Cz:=eq_true Cz
        replace CB:=eq_true CB
        have Ip:0≤(fe:Int):=of_decide_eq_true nM
        have Iq:fe < (l0.length:Int):=of_decide_eq_true nM
        obtain ⟨OP,aa6,TH,TI⟩:=lN Mh.out fe Ip Iq
        obtain rfl:AO = OP:=(by injection aa6)
        replace Ip:=eq_true Ip
        replace Iq:=eq_true Iq
        go_wp2
        go_ret
        exact ⟨om,Xq⟩
       ·rw [if_neg c7] at H
        have Oh:decide (8 < ((bX l0 fe).f0)) = false:=decide_eq_false c7
        clear c7
        by_cases c8:((bX l0 fe).f1) < 0
        ·rw [if_pos c8] at H
         have GJ:decide (((bX l0 fe).f1) < 0) = true:=decide_eq_true c8
         clear c8
         obtain rfl:=bh H
         have Cz:0≤(fe:Int):=of_decide_eq_true nM
         have CB:fe < (l0.length:Int):=of_decide_eq_true nM
         obtain ⟨AO,Wj,OM,OO⟩:=lN Mh.out fe Cz CB
         cases Wj
         replace Cz:=eq_true Cz
         replace CB:=eq_true CB
         have Ip:0≤(fe:Int):=of_decide_eq_true nM
         have Iq:fe < (l0.length:Int):=of_decide_eq_true nM
         obtain ⟨OP,aa6,TH,TI⟩:=lN Mh.out fe Ip Iq
         obtain rfl:AO = OP:=(by injection aa6)
         replace Ip:=eq_true Ip
         replace Iq:=eq_true Iq
         have M0:0≤(fe:Int):=of_decide_eq_true nM
         have M3:fe < (l0.length:Int):=of_decide_eq_true nM
         obtain ⟨Wl,agV,aa7,aa8⟩:=lN Mh.out fe M0 M3
         obtain rfl:AO = Wl:=(by injection agV)
         replace M0:=eq_true M0
         replace M3:=eq_true M3
         go_wp2
         go_ret
         exact ⟨om,Xq⟩
        ·rw [if_neg c8] at H
         have GJ:decide (((bX l0 fe).f1) < 0) = false:=decide_eq_false c8
         clear c8
         by_cases c9:a1 ≥ 0
         ·rw [if_pos c9] at H
          have JM:decide (0≤a1) = true:=decide_eq_true c9
          clear c9
          by_cases c10:((bX l0 fe).f1) ≥ a1
          ·rw [if_pos c10] at H
           have Cs:decide (a1≤((bX l0 fe).f1)) = true:=decide_eq_true c10
           clear c10
           obtain rfl:=bh H
           have Cz:0≤(fe:Int):=of_decide_eq_true nM
           have CB:fe < (l0.length:Int):=of_decide_eq_true nM
           obtain ⟨AO,Wj,OM,OO⟩:=lN Mh.out fe Cz CB
           cases Wj
           replace Cz:=eq_true Cz
           replace CB:=eq_true CB
           have Ip:0≤(fe:Int):=of_decide_eq_true nM
           have Iq:fe < (l0.length:Int):=of_decide_eq_true nM
           obtain ⟨OP,aa6,TH,TI⟩:=lN Mh.out fe Ip Iq
           obtain rfl:AO = OP:=(by injection aa6)
           replace Ip:=eq_true Ip
           replace Iq:=eq_true Iq
           have M0:0≤(fe:Int):=of_decide_eq_true nM
           have M3:fe < (l0.length:Int):=of_decide_eq_true nM
           obtain ⟨Wl,agV,aa7,aa8⟩:=lN Mh.out fe M0 M3
           obtain rfl:AO = Wl:=(by injection agV)
           replace M0:=eq_true M0
           replace M3:=eq_true M3
           have agW:0≤(fe:Int):=of_decide_eq_true nM
           have agX:fe < (l0.length:Int):=of_decide_eq_true nM
           obtain ⟨apz,aDm,au1,au2⟩:=lN Mh.out fe agW agX
           obtain rfl:AO = apz:=(by injection aDm)
           replace agW:=eq_true agW
           replace agX:=eq_true agX
           go_wp2
           go_ret
           exact ⟨om,Xq⟩
          ·rw [if_neg c10] at H
           have Cs:decide (a1≤((bX l0 fe).f1)) = false:=decide_eq_false c10
           clear c10
           have H':=af.mk H
           clear H
           have Cz:0≤(fe:Int):=of_decide_eq_true nM
           have CB:fe < (l0.length:Int):=of_decide_eq_true nM
           obtain ⟨AO,Wj,OM,OO⟩:=lN Mh.out fe Cz CB
           cases Wj
           replace Cz:=eq_true Cz
           replace CB:=eq_true CB
           have Ip:0≤(fe:Int):=of_decide_eq_true nM
           have Iq:fe < (l0.length:Int):=of_decide_eq_true nM
           obtain ⟨OP,aa6,TH,TI⟩:=lN Mh.out fe Ip Iq
           obtain rfl:AO = OP:=(by injection aa6)
           replace Ip:=eq_true Ip
           replace Iq:=eq_true Iq
           have M0:0≤(fe:Int):=of_decide_eq_true nM
           have M3:fe < (l0.length:Int):=of_decide_eq_true nM
           obtain ⟨Wl,agV,aa7,aa8⟩:=lN Mh.out fe M0 M3
           obtain rfl:AO = Wl:=(by injection agV)
           replace M0:=eq_true M0
           replace M3:=eq_true M3
           have agW:0≤(fe:Int):=of_decide_eq_true nM
           have agX:fe < (l0.length:Int):=of_decide_eq_true nM
           obtain ⟨apz,aDm,au1,au2⟩:=lN Mh.out fe agW agX
           obtain rfl:AO = apz:=(by injection aDm)
           replace agW:=eq_true agW
           replace agX:=eq_true agX
           go_wp2
           go_roundg k1
           case measure=>have:=Cj.out;omega
           case rel=>exact ⟨(an (fe+1)),om,H',⟨zq7⟩,Xq⟩
         ·rw [if_neg c9] at H
          have JM:decide (0≤a1) = false:=decide_eq_false c9
          clear c9
          have H':=af.mk H
          clear H
          have Cz:0≤(fe:Int):=of_decide_eq_true nM
          have CB:fe < (l0.length:Int):=of_decide_eq_true nM
          obtain ⟨AO,Wj,OM,OO⟩:=lN Mh.out fe Cz CB
          cases Wj
          replace Cz:=eq_true Cz
          replace CB:=eq_true CB
          have Ip:0≤(fe:Int):=of_decide_eq_true nM
          have Iq:fe < (l0.length:Int):=of_decide_eq_true nM
          obtain ⟨OP,aa6,TH,TI⟩:=lN Mh.out fe Ip Iq
          obtain rfl:AO = OP:=(by injection aa6)
          replace Ip:=eq_true Ip
          replace Iq:=eq_true Iq
          have M0:0≤(fe:Int):=of_decide_eq_true nM
          have M3:fe < (l0.length:Int):=of_decide_eq_true nM
          obtain ⟨Wl,agV,aa7,aa8⟩:=lN Mh.out fe M0 M3
          obtain rfl:AO = Wl:=(by injection agV)
          replace M0:=eq_true M0
          replace M3:=eq_true M3
          go_wp2
          go_roundg k1
          case measure=>have:=Cj.out;omega
          case rel=>exact ⟨(an (fe+1)),om,H',⟨zq7⟩,Xq⟩
     ·rw [if_neg c5] at H
      exact absurd H (by simp)
    ·rw [if_neg c4] at H
     have rZ:decide (fe < (l0.length:Int)) = false:=decide_eq_false c4
     clear c4
     obtain rfl:=bh H
     go_wp2
     go_ret
     exact ⟨om,Xq⟩
def gD.f (ai:Int) (aj:Int) (az:Int) (aA:Int) (aI:Int) (aD:Int):Option (Bool):=(eT.f ai aj az aA).bind fun amw=>(if amw = true then (if aI ≥ 0 then (if aI≤aD then (some (decide (aD≤1073741824))) else (some false)) else (some false)) else (some false))
theorem gD.calls (ai:Int) (aj:Int) (az:Int) (aA:Int) (aI:Int) (aD:Int) (r:Bool) (w:ao) (h:gD.f ai aj az aA aI aD = some r):
 Calls Try.prog 95 #[.agg #[Z ab ai,Z ab aj,Z ab az,Z ab aA,Z ab aI,Z ab aD]] w fun e w'=>e = .returned (.bool r)∧Below w.heap.size w w':=by
 have XP:=Try.underlying81
 have qj:=Try.underlying31
 have HB:=af.mk (Below.refl w.heap.size w)
 have H:((eT.f ai aj az aA).bind fun amw=>(if amw = true then (if aI ≥ 0 then (if aI≤aD then (some (decide (aD≤1073741824))) else (some false)) else (some false)) else (some false))) = some r:=h
 clear h
 replace H:=Option.bind_eq_some_iff.mp H
 obtain ⟨amw,Yg,H⟩:=H
 replace H:(if amw = true then (if aI ≥ 0 then (if aI≤aD then (some (decide (aD≤1073741824))) else (some false)) else (some false)) else (some false)) = some r:=H
 have A2:=af.mk Yg
 clear Yg
 by_cases c3:amw = true
 ·subst c3
  have H1:(if aI ≥ 0 then (if aI≤aD then (some (decide (aD≤1073741824))) else (some false)) else (some false)) = some r:=by rw [if_pos rfl] at H;exact H
  clear H
  have H:=H1
  clear H1
  by_cases c4:aI ≥ 0
  ·rw [if_pos c4] at H
   have rZ:decide (0≤aI) = true:=decide_eq_true c4
   clear c4
   by_cases c5:aI≤aD
   ·rw [if_pos c5] at H
    have yt:decide (aI≤aD) = true:=decide_eq_true c5
    clear c5
    obtain rfl:=bh H
    go_enter Try.func95,Try.ntmps95
    go_wp2_with (first|((with_reducible refine av (N:=1) rfl ?_);refine ak (by rfl) (N:=1) (by rfl) (cs:=#[Z ab ai,Z ab aj,Z ab az,Z ab aA,Z ab aI,Z ab aD]) (t:=81) fU ?_;intro apA hg w6 ay hb;have xZ:=af.mk (ay);have apB:=bY HB hg;have apC:=bY HB hg;replace HB:=dz HB hb;clear hb ay hg;obtain ⟨wD,wE,Cu,Cv,Fe,Ff,wF,wG,Cw,Cx,Fg,Fh⟩:=Aa xZ.out)|((with_reducible refine aU (f:=63) rfl ?_);refine dn (some 5) rfl rfl Try.func63 aT rfl #[.agg #[Z ab ai,Z ab aj,Z ab az,Z ab aA]] rfl jB ?_;(with_reducible refine (eT.calls ai aj az aA true _ A2.out).mono ?_);rintro e w8 ⟨rfl,hb⟩;refine ⟨_,rfl,?_⟩;replace xZ:=bn xZ hb;replace HB:=dz HB hb;(try clear hb);(try clear hb2);(try clear hk);(try clear hi);obtain ⟨yB,yC,Ic,Ie,Qt,Qu,yD,yE,Ig,Ih,Qv,Qw⟩:=Aa xZ.out))
    go_ret
    exact ⟨mJ,gp⟩
   ·rw [if_neg c5] at H
    have yt:decide (aI≤aD) = false:=decide_eq_false c5
    clear c5
    obtain rfl:=bh H
    go_enter Try.func95,Try.ntmps95
    go_wp2_with (first|((with_reducible refine av (N:=1) rfl ?_);refine ak (by rfl) (N:=1) (by rfl) (cs:=#[Z ab ai,Z ab aj,Z ab az,Z ab aA,Z ab aI,Z ab aD]) (t:=81) fU ?_;intro apA hg w10 ay hb;have xZ:=af.mk (ay);have apB:=bY HB hg;have apC:=bY HB hg;replace HB:=dz HB hb;clear hb ay hg;obtain ⟨uf,ug,wV,wW,BI,BJ,uh,ui,wX,wY,BK,BL⟩:=Aa xZ.out)|((with_reducible refine aU (f:=63) rfl ?_);refine dn (some 5) rfl rfl Try.func63 aT rfl #[.agg #[Z ab ai,Z ab aj,Z ab az,Z ab aA]] rfl jB ?_;(with_reducible refine (eT.calls ai aj az aA true _ A2.out).mono ?_);rintro e Ja ⟨rfl,hb⟩;refine ⟨_,rfl,?_⟩;replace xZ:=bn xZ hb;replace HB:=dz HB hb;(try clear hb);(try clear hb2);(try clear hk);(try clear hi);obtain ⟨sV,sW,zw,zx,GL,GM,sZ,tq,zy,zz,GN,GQ⟩:=Aa xZ.out))
    go_ret
    exact ⟨mJ,gp⟩
  ·rw [if_neg c4] at H
   have rZ:decide (0≤aI) = false:=decide_eq_false c4
   clear c4
   obtain rfl:=bh H
   go_enter Try.func95,Try.ntmps95
   go_wp2_with (first|((with_reducible refine av (N:=1) rfl ?_);refine ak (by rfl) (N:=1) (by rfl) (cs:=#[Z ab ai,Z ab aj,Z ab az,Z ab aA,Z ab aI,Z ab aD]) (t:=81) fU ?_;intro apA hg w14 ay hb;have xZ:=af.mk (ay);have apB:=bY HB hg;have apC:=bY HB hg;replace HB:=dz HB hb;clear hb ay hg;obtain ⟨oG,oH,rH,rJ,tu,tC,oI,oJ,rM,rO,tF,tH⟩:=Aa xZ.out)|((with_reducible refine aU (f:=63) rfl ?_);refine dn (some 5) rfl rfl Try.func63 aT rfl #[.agg #[Z ab ai,Z ab aj,Z ab az,Z ab aA]] rfl jB ?_;(with_reducible refine (eT.calls ai aj az aA true _ A2.out).mono ?_);rintro e w16 ⟨rfl,hb⟩;refine ⟨_,rfl,?_⟩;replace xZ:=bn xZ hb;replace HB:=dz HB hb;(try clear hb);(try clear hb2);(try clear hk);(try clear hi);obtain ⟨tJ,tK,wH,wI,DD,DF,tL,tN,wJ,wK,DI,DJ⟩:=Aa xZ.out))
   go_ret
   exact ⟨mJ,gp⟩
 ·replace c3:=Bool.eq_false_iff.mpr c3
  subst c3
  have H1:(some false) = some r:=by rw [if_neg (show ¬ (false = true) by decide)] at H;exact H
  clear H
  have H:=H1
  clear H1
  obtain rfl:=bh H
  go_enter Try.func95,Try.ntmps95
  go_wp2_with (first|((with_reducible refine av (N:=1) rfl ?_);refine ak (by rfl) (N:=1) (by rfl) (cs:=#[Z ab ai,Z ab aj,Z ab az,Z ab aA,Z ab aI,Z ab aD]) (t:=81) fU ?_;intro apA hg w18 ay hb;have xZ:=af.mk (ay);have apB:=bY HB hg;have apC:=bY HB hg;replace HB:=dz HB hb;clear hb ay hg;obtain ⟨uR,uS,wL,wM,Bc,Bd,uT,uU,wN,wO,Be,Bf⟩:=Aa xZ.out)|((with_reducible refine aU (f:=63) rfl ?_);refine dn (some 5) rfl rfl Try.func63 aT rfl #[.agg #[Z ab ai,Z ab aj,Z ab az,Z ab aA]] rfl jB ?_;(with_reducible refine (eT.calls ai aj az aA false _ A2.out).mono ?_);rintro e Jb ⟨rfl,hb⟩;refine ⟨_,rfl,?_⟩;replace xZ:=bn xZ hb;replace HB:=dz HB hb;(try clear hb);(try clear hb2);(try clear hk);(try clear hi)))
  go_ret
  exact ⟨mJ,gp⟩
def gF.f:Nat→Int→Int→Option (Int)
 |0,_,_=>none
 |k+1,a0,a1=>if a1 < 0 then ((gF.f k (an (-a0)) (an (-a1))).bind fun amx=>(some amx)) else (if a1 = 0 then (none) else (if (Int.tmod a0 a1) < 0 then (some (an ((an (Int.tdiv a0 a1)) - 1))) else (some (an (Int.tdiv a0 a1)))))
theorem gF.calls (k:Nat):∀ (a0:Int) (a1:Int) (r:Int) (w:ao) (h:gF.f k a0 a1 = some r),
 Calls Try.prog 140 #[Z ab a0,Z ab a1] w fun e w'=>e = .returned (Z ab r)∧su w w':=by
 induction k using Nat.strongRecOn with
 |_ k ih =>
 intro a0 a1 r w h
 cases k with
 |zero=>exact absurd h (by simp [gF.f])
 |succ k =>
 simp only [gF.f] at h
 have H:(if a1 < 0 then ((gF.f k (an (-a0)) (an (-a1))).bind fun amx=>(some amx)) else (if a1 = 0 then (none) else (if (Int.tmod a0 a1) < 0 then (some (an ((an (Int.tdiv a0 a1)) - 1))) else (some (an (Int.tdiv a0 a1)))))) = some r:=h
 clear h
 by_cases c3:a1 < 0
 ·rw [if_pos c3] at H
  have yo:decide (a1 < 0) = true:=decide_eq_true c3
  clear c3
  replace H:=Option.bind_eq_some_iff.mp H
  obtain ⟨amx,ME,H⟩:=H
  replace H:(some amx) = some r:=H
  have A4:=af.mk ME
  clear ME
  obtain rfl:=bh H
  go_enter Try.func140,Try.ntmps140
  go_wp2_with (first|((with_reducible refine aU (f:=140) rfl ?_);refine dn (some 12) rfl rfl Try.func140 aT rfl #[Z ab (an (-a0)),Z ab (an (-a1))] rfl jB ?_;(with_reducible refine (ih k (by omega) (an (-a0)) (an (-a1)) amx _ A4.out).mono ?_);rintro e w' ⟨rfl,⟨nd,rfl⟩⟩;refine ⟨_,rfl,?_⟩))
  go_ret
  exact ⟨om,Xq⟩
 ·rw [if_neg c3] at H
  have yo:decide (a1 < 0) = false:=decide_eq_false c3
  clear c3
  by_cases c5:a1 = 0
  ·rw [if_pos c5] at H
   exact absurd H (by simp)
  ·rw [if_neg c5] at H
   have yt:(a1 == 0) = false:=beq_eq_false_iff_ne.mpr c5
   have amd:(a1 != 0) = true:=bne_iff_ne.mpr c5
   by_cases c6:(Int.tmod a0 a1) < 0
   ·rw [if_pos c6] at H
    have Du:decide ((Int.tmod a0 a1) < 0) = true:=decide_eq_true c6
    clear c6
    obtain rfl:=bh H
    go_enter Try.func140,Try.ntmps140
    go_wp2
    go_ret
    exact ⟨om,Xq⟩
   ·rw [if_neg c6] at H
    have Du:decide ((Int.tmod a0 a1) < 0) = false:=decide_eq_false c6
    clear c6
    obtain rfl:=bh H
    go_enter Try.func140,Try.ntmps140
    go_wp2
    go_ret
    exact ⟨om,Xq⟩
def jw.f (k:Nat) (a0:Int) (a1:Int):Option (Int):=(gF.f k (an (-a0)) a1).bind fun amy=>(some (an (-amy)))
theorem jw.calls (k:Nat) (a0:Int) (a1:Int) (r:Int) (w:ao) (h:jw.f k a0 a1 = some r):
 Calls Try.prog 139 #[Z ab a0,Z ab a1] w fun e w'=>e = .returned (Z ab r)∧su w w':=by
 have H:((gF.f k (an (-a0)) a1).bind fun amy=>(some (an (-amy)))) = some r:=h
 clear h
 replace H:=Option.bind_eq_some_iff.mp H
 obtain ⟨amy,PS,H⟩:=H
 replace H:(some (an (-amy))) = some r:=H
 have A3:=af.mk PS
 clear PS
 obtain rfl:=bh H
 go_enter Try.func139,Try.ntmps139
 go_wp2_with (first|((with_reducible refine aU (f:=140) rfl ?_);refine dn (some 8) rfl rfl Try.func140 aT rfl #[Z ab (an (-a0)),Z ab a1] rfl jB ?_;(with_reducible refine (gF.calls k (an (-a0)) a1 amy _ A3.out).mono ?_);rintro e w' ⟨rfl,⟨nd,rfl⟩⟩;refine ⟨_,rfl,?_⟩))
 go_ret
 exact ⟨om,Xq⟩
def fB.f (k:Nat) (ai:Int) (aj:Int) (az:Int) (aA:Int) (aI:Int) (aD:Int) (aJ:Int) (aX:List Bool) (aG:List (qK)) (aQ:Int) (aN:Int) (bC:Int) (bD:Int) (bU:Int) (bV:Int) (bW:Int) (cO:Int) (cZ:Int) (dh:Int) (di:Int):Option (Int × Int × Int × Int):=(jw.f k (an ((an (aQ+aJ))*aN)) 1000).bind fun AJ=>(some (an (cO - AJ),an (cZ+AJ),an (dh - AJ),an (di+AJ)))
theorem fB.calls (k:Nat) (ai:Int) (aj:Int) (az:Int) (aA:Int) (aI:Int) (aD:Int) (aJ:Int) (dY:Option Addr) (dS:Nat) (aX:List Bool) (dV:Option Addr) (dU:Nat) (aG:List (qK)) (aQ:Int) (aN:Int) (bC:Int) (bD:Int) (bU:Int) (bV:Int) (bW:Int) (cO:Int) (cZ:Int) (dh:Int) (di:Int) (r1:Int) (r2:Int) (r3:Int) (r4:Int) (w:ao) (jC:Kd.C Kd.bool w dY aX.length aX) (jD:aX.length≤dS) (jE:Kd.C Dt w dV aG.length aG) (jF:aG.length≤dU) (h:fB.f k ai aj az aA aI aD aJ aX aG aQ aN bC bD bU bV bW cO cZ dh di = some (r1,r2,r3,r4)):
 Calls Try.prog 133 #[.agg #[Z ab ai,Z ab aj,Z ab az,Z ab aA,Z ab aI,Z ab aD,Z ab aJ,.slice dY aX.length dS,.slice dV aG.length dU],.agg #[Z ab aQ,Z ab aN,Z ab bC,Z ab bD,Z ab bU,Z ab bV,Z ab bW],.agg #[Z ab cO,Z ab cZ,Z ab dh,Z ab di]] w fun e w'=>e = .returned (.agg #[Z ab r1,Z ab r2,Z ab r3,Z ab r4])∧Below w.heap.size w w':=by
 have xS:=Try.underlying25
 have vo:=Try.underlying29
 have qj:=Try.underlying31
 have oO:=Try.underlying27
 have iI:=af.mk jC
 have iO:=af.mk jD
 clear jC jD
 have iB:=af.mk jE
 have iP:=af.mk jF
 clear jE jF
 have HB:=af.mk (Below.refl w.heap.size w)
 have H:((jw.f k (an ((an (aQ+aJ))*aN)) 1000).bind fun AJ=>(some (an (cO - AJ),an (cZ+AJ),an (dh - AJ),an (di+AJ)))) = some (r1,r2,r3,r4):=h
 clear h
 replace H:=Option.bind_eq_some_iff.mp H
 obtain ⟨AJ,ME,H⟩:=H
 replace H:(some (an (cO - AJ),an (cZ+AJ),an (dh - AJ),an (di+AJ))) = some (r1,r2,r3,r4):=H
 have A4:=af.mk ME
 clear ME
 simp only [Option.some.injEq,Prod.mk.injEq] at H
 obtain ⟨rfl,rfl,rfl,rfl⟩:=H
 go_enter Try.func133,Try.ntmps133
 go_wp2_with (first|((with_reducible refine av (N:=3) rfl ?_);refine ak (by rfl) (N:=3) (by rfl) (cs:=#[Z ab ai,Z ab aj,Z ab az,Z ab aA,Z ab aI,Z ab aD,Z ab aJ,.slice dY aX.length dS,.slice dV aG.length dU]) (t:=25) fU ?_;intro aGw hg w5 ay hb;have CE:=af.mk (ay);have a0R:=bY HB hg;have a0S:=bY HB hg;replace HB:=dz HB hb;clear hb ay hg)|((with_reducible refine av (N:=4) rfl ?_);refine ak (by rfl) (N:=4) (by rfl) (cs:=#[Z ab aQ,Z ab aN,Z ab bC,Z ab bD,Z ab bU,Z ab bV,Z ab bW]) (t:=29) fU ?_;intro aGx hg w6 ay hb;have JN:=af.mk (ay);have a0T:=bY HB hg;have a0U:=bY HB hg;have amz:=fG CE hg;have amA:=fH CE hg;replace CE:=bn CE hb;replace HB:=dz HB hb;clear hb ay hg)|((with_reducible refine av (N:=5) rfl ?_);refine ak (by rfl) (N:=5) (by rfl) (cs:=#[Z ab cO,Z ab cZ,Z ab dh,Z ab di]) (t:=31) fU ?_;intro aGy hg w7 ay hb;have Wm:=af.mk (ay);have a0V:=bY HB hg;have a0W:=bY HB hg;have amB:=fG CE hg;have amC:=fH CE hg;have amD:=fG JN hg;have amE:=fH JN hg;replace CE:=bn CE hb;replace JN:=bn JN hb;replace HB:=dz HB hb;clear hb ay hg)|((with_reducible refine av (N:=6) rfl ?_);refine ak (by rfl) (N:=6) (by rfl) (cs:=#[Z ab 0,Z ab 0,Z ab 0,Z ab 0]) (t:=31) fU ?_;intro az8 hg w8 ay hb;have ajz:=af.mk (ay);have a0X:=bY HB hg;have a0Y:=bY HB hg;have amF:=fG CE hg;have amG:=fH CE hg;have amH:=fG JN hg;have amI:=fH JN hg;have amJ:=fG Wm hg;have amK:=fH Wm hg;replace CE:=bn CE hb;replace JN:=bn JN hb;replace Wm:=bn Wm hb;replace HB:=dz HB hb;clear hb ay hg;have atn:=amA.out;have ato:=amz.out;have adD:=amD.out;have adE:=amE.out;have adj:=amH.out;have adk:=amI.out;obtain ⟨qa,qb,Sm,Sn,asR,asS,asT,qc,qd,Sq,Sr,asU,asV,asW⟩:=kz JN.out;have adt:=amB.out;have adu:=amC.out;have aiJ:=amF.out;have aiK:=amG.out;obtain ⟨oG,oH,rH,rJ,tu,tC,zA,Bv,Bw,oI,oJ,rM,rO,tF,tH,zB,Bz,BA⟩:=jS CE.out)|((with_reducible refine aU (f:=139) rfl ?_);refine dn (some 16) rfl rfl Try.func139 aT rfl #[Z ab (an ((an (aQ+aJ))*aN)),Z ab 1000] rfl jB ?_;(with_reducible refine (jw.calls k (an ((an (aQ+aJ))*aN)) 1000 AJ _ A4.out).mono ?_);rintro e w' ⟨rfl,⟨nd,rfl⟩⟩;refine ⟨_,rfl,?_⟩;(try (rw [agd w8];generalize PR:World.drewN w8 _ = w8;have vv:af (w8.heap[aGw]? = some (.cells #[Z ab ai,Z ab aj,Z ab az,Z ab aA,Z ab aI,Z ab aD,Z ab aJ,.slice dY aX.length dS,.slice dV aG.length dU] 25 (0,0))):=⟨by rw [← PR];exact iK⟩;have vw:af (w8.heap[aGx]? = some (.cells #[Z ab aQ,Z ab aN,Z ab bC,Z ab bD,Z ab bU,Z ab bV,Z ab bW] 29 (0,0))):=⟨by rw [← PR];exact iK⟩;have vz:af (w8.heap[aGy]? = some (.cells #[Z ab cO,Z ab cZ,Z ab dh,Z ab di] 31 (0,0))):=⟨by rw [← PR];exact iK⟩;have vB:af (w8.heap[az8]? = some (.cells #[Z ab 0,Z ab 0,Z ab 0,Z ab 0] 31 (0,0))):=⟨by rw [← PR];exact iK⟩;have xU:af (Below w.heap.size w w8):=⟨by rw [← PR];exact gp⟩;clear CE JN Wm ajz HB PR;have CE:=vv;have JN:=vw;have Wm:=vz;have ajz:=vB;have HB:=xU;clear vv vw vz vB xU));have OD:=amJ.out;have OE:=amK.out;obtain ⟨tJ,tK,wH,wI,tL,tN,wJ,wK⟩:=jA Wm.out;obtain ⟨Ep,Er,Sz,SA,Es,Et,SB,SC⟩:=jA ajz.out))
 refine bodyPost_ret (results_cell_row rfl _ _ az8 31 #[Z ab (an (cO - AJ)),Z ab (an (cZ+AJ)),Z ab (an (dh - AJ)),Z ab (an (di+AJ))] (0,0) _ rfl (by (with_reducible repeat (first|refine au ?_ _|refine ag ?_|refine aa ?_ _));refine aK (cs:=#[Z ab (an (cO - AJ)),Z ab (an (cZ+AJ)),Z ab (an (dh - AJ)),Z ab 0]) ?_ 3 _ rfl;(with_reducible repeat (first|refine au ?_ _|refine ag ?_|refine aa ?_ _));refine aK (cs:=#[Z ab (an (cO - AJ)),Z ab (an (cZ+AJ)),Z ab 0,Z ab 0]) ?_ 2 _ rfl;(with_reducible repeat (first|refine au ?_ _|refine ag ?_|refine aa ?_ _));refine aK (cs:=#[Z ab (an (cO - AJ)),Z ab 0,Z ab 0,Z ab 0]) ?_ 1 _ rfl;(with_reducible repeat (first|refine au ?_ _|refine ag ?_|refine aa ?_ _));refine aK (cs:=#[Z ab 0,Z ab 0,Z ab 0,Z ab 0]) ?_ 0 _ rfl;(with_reducible repeat (first|refine au ?_ _|refine ag ?_|refine aa ?_ _));exact ajz.out) Try.underlying31 rfl aT) rfl ?_
 exact ⟨mJ,gp⟩
def j3.f (ai:Int) (aj:Int) (az:Int) (aA:Int) (aI:Int) (aD:Int) (aJ:Int) (aX:List Bool) (aG:List (qK)) (aQ:Int) (aN:Int) (bC:Int) (bD:Int):Option (Bool):=if aQ ≥ 0 then (if aN≤(an (ai*az)) then (if bC ≥ 0 then (some (decide (bD≤(an (aj*az))))) else (some false)) else (some false)) else (some false)
theorem j3.calls (ai:Int) (aj:Int) (az:Int) (aA:Int) (aI:Int) (aD:Int) (aJ:Int) (dY:Option Addr) (dS:Nat) (aX:List Bool) (dV:Option Addr) (dU:Nat) (aG:List (qK)) (aQ:Int) (aN:Int) (bC:Int) (bD:Int) (r:Bool) (w:ao) (jC:Kd.C Kd.bool w dY aX.length aX) (jD:aX.length≤dS) (jE:Kd.C Dt w dV aG.length aG) (jF:aG.length≤dU) (h:j3.f ai aj az aA aI aD aJ aX aG aQ aN bC bD = some r):
 Calls Try.prog 71 #[.agg #[Z ab ai,Z ab aj,Z ab az,Z ab aA,Z ab aI,Z ab aD,Z ab aJ,.slice dY aX.length dS,.slice dV aG.length dU],.agg #[Z ab aQ,Z ab aN,Z ab bC,Z ab bD]] w fun e w'=>e = .returned (.bool r)∧Below w.heap.size w w':=by
 have xS:=Try.underlying25
 have qj:=Try.underlying31
 have iI:=af.mk jC
 have iO:=af.mk jD
 clear jC jD
 have iB:=af.mk jE
 have iP:=af.mk jF
 clear jE jF
 have HB:=af.mk (Below.refl w.heap.size w)
 have H:(if aQ ≥ 0 then (if aN≤(an (ai*az)) then (if bC ≥ 0 then (some (decide (bD≤(an (aj*az))))) else (some false)) else (some false)) else (some false)) = some r:=h
 clear h
 by_cases c3:aQ ≥ 0
 ·rw [if_pos c3] at H
  have yo:decide (0≤aQ) = true:=decide_eq_true c3
  clear c3
  by_cases c4:aN≤(an (ai*az))
  ·rw [if_pos c4] at H
   have rZ:decide (aN≤(an (ai*az))) = true:=decide_eq_true c4
   clear c4
   by_cases c5:bC ≥ 0
   ·rw [if_pos c5] at H
    have yt:decide (0≤bC) = true:=decide_eq_true c5
    clear c5
    obtain rfl:=bh H
    go_enter Try.func71,Try.ntmps71
    go_wp2_with (first|((with_reducible refine av (N:=2) rfl ?_);refine ak (by rfl) (N:=2) (by rfl) (cs:=#[Z ab ai,Z ab aj,Z ab az,Z ab aA,Z ab aI,Z ab aD,Z ab aJ,.slice dY aX.length dS,.slice dV aG.length dU]) (t:=25) fU ?_;intro apD hg w6 ay hb;have uu:=af.mk (ay);have apE:=bY HB hg;have apF:=bY HB hg;replace HB:=dz HB hb;clear hb ay hg)|((with_reducible refine av (N:=3) rfl ?_);refine ak (by rfl) (N:=3) (by rfl) (cs:=#[Z ab aQ,Z ab aN,Z ab bC,Z ab bD]) (t:=31) fU ?_;intro apG hg w7 ay hb;have Wn:=af.mk (ay);have apH:=bY HB hg;have apI:=bY HB hg;have yG:=fG uu hg;have yH:=fH uu hg;replace uu:=bn uu hb;replace HB:=dz HB hb;clear hb ay hg;have adp:=yH.out;have adq:=yG.out;obtain ⟨yB,yC,Ic,Ie,yD,yE,Ig,Ih⟩:=jA Wn.out;obtain ⟨sP,sQ,NM,NN,ZB,ZC,ZE,aiF,aiG,sS,sU,NP,NQ,ZF,ZG,ZH,aiH,aiI⟩:=jS uu.out))
    go_ret
    exact ⟨mJ,gp⟩
   ·rw [if_neg c5] at H
    have yt:decide (0≤bC) = false:=decide_eq_false c5
    clear c5
    obtain rfl:=bh H
    go_enter Try.func71,Try.ntmps71
    go_wp2_with (first|((with_reducible refine av (N:=2) rfl ?_);refine ak (by rfl) (N:=2) (by rfl) (cs:=#[Z ab ai,Z ab aj,Z ab az,Z ab aA,Z ab aI,Z ab aD,Z ab aJ,.slice dY aX.length dS,.slice dV aG.length dU]) (t:=25) fU ?_;intro apD hg w11 ay hb;have uu:=af.mk (ay);have apE:=bY HB hg;have apF:=bY HB hg;replace HB:=dz HB hb;clear hb ay hg)|((with_reducible refine av (N:=3) rfl ?_);refine ak (by rfl) (N:=3) (by rfl) (cs:=#[Z ab aQ,Z ab aN,Z ab bC,Z ab bD]) (t:=31) fU ?_;intro apG hg Ja ay hb;have Wn:=af.mk (ay);have apH:=bY HB hg;have apI:=bY HB hg;have yG:=fG uu hg;have yH:=fH uu hg;replace uu:=bn uu hb;replace HB:=dz HB hb;clear hb ay hg;have adt:=yH.out;have adu:=yG.out;obtain ⟨AY,AZ,KW,KX,Ba,Bb,KY,KZ⟩:=jA Wn.out;obtain ⟨oG,oH,rH,rJ,tu,tC,zA,Bv,Bw,oI,oJ,rM,rO,tF,tH,zB,Bz,BA⟩:=jS uu.out))
    go_ret
    exact ⟨mJ,gp⟩
  ·rw [if_neg c4] at H
   have rZ:decide (aN≤(an (ai*az))) = false:=decide_eq_false c4
   clear c4
   obtain rfl:=bh H
   go_enter Try.func71,Try.ntmps71
   go_wp2_with (first|((with_reducible refine av (N:=2) rfl ?_);refine ak (by rfl) (N:=2) (by rfl) (cs:=#[Z ab ai,Z ab aj,Z ab az,Z ab aA,Z ab aI,Z ab aD,Z ab aJ,.slice dY aX.length dS,.slice dV aG.length dU]) (t:=25) fU ?_;intro apD hg w16 ay hb;have uu:=af.mk (ay);have apE:=bY HB hg;have apF:=bY HB hg;replace HB:=dz HB hb;clear hb ay hg)|((with_reducible refine av (N:=3) rfl ?_);refine ak (by rfl) (N:=3) (by rfl) (cs:=#[Z ab aQ,Z ab aN,Z ab bC,Z ab bD]) (t:=31) fU ?_;intro apG hg DC ay hb;have Wn:=af.mk (ay);have apH:=bY HB hg;have apI:=bY HB hg;have yG:=fG uu hg;have yH:=fH uu hg;replace uu:=bn uu hb;replace HB:=dz HB hb;clear hb ay hg;have Yw:=yH.out;have Yx:=yG.out;obtain ⟨uR,uS,wL,wM,uT,uU,wN,wO⟩:=jA Wn.out;obtain ⟨uY,uZ,zQ,zR,BM,BN,Im,TJ,TK,u6,ve,zS,zT,BO,BP,Io,TL,TM⟩:=jS uu.out))
   go_ret
   exact ⟨mJ,gp⟩
 ·rw [if_neg c3] at H
  have yo:decide (0≤aQ) = false:=decide_eq_false c3
  clear c3
  obtain rfl:=bh H
  go_enter Try.func71,Try.ntmps71
  go_wp2_with (first|((with_reducible refine av (N:=2) rfl ?_);refine ak (by rfl) (N:=2) (by rfl) (cs:=#[Z ab ai,Z ab aj,Z ab az,Z ab aA,Z ab aI,Z ab aD,Z ab aJ,.slice dY aX.length dS,.slice dV aG.length dU]) (t:=25) fU ?_;intro apD hg w21 ay hb;have uu:=af.mk (ay);have apE:=bY HB hg;have apF:=bY HB hg;replace HB:=dz HB hb;clear hb ay hg)|((with_reducible refine av (N:=3) rfl ?_);refine ak (by rfl) (N:=3) (by rfl) (cs:=#[Z ab aQ,Z ab aN,Z ab bC,Z ab bD]) (t:=31) fU ?_;intro apG hg w22 ay hb;have Wn:=af.mk (ay);have apH:=bY HB hg;have apI:=bY HB hg;have yG:=fG uu hg;have yH:=fH uu hg;replace uu:=bn uu hb;replace HB:=dz HB hb;clear hb ay hg;have Yy:=yH.out;have Yz:=yG.out;obtain ⟨wP,wQ,Hr,Ht,wS,wT,Hu,Hw⟩:=jA Wn.out))
  go_ret
  exact ⟨mJ,gp⟩
def jf.f (ai:Int) (aj:Int) (az:Int) (aA:Int) (aI:Int) (aD:Int) (aJ:Int) (aX:List Bool) (aG:List (qK)) (a1:Int) (a2:Int):Option (Bool):=if a1 ≥ 0 then (some (decide (a2≤(an (aI*aA))))) else (some false)
theorem jf.calls (ai:Int) (aj:Int) (az:Int) (aA:Int) (aI:Int) (aD:Int) (aJ:Int) (dY:Option Addr) (dS:Nat) (aX:List Bool) (dV:Option Addr) (dU:Nat) (aG:List (qK)) (a1:Int) (a2:Int) (r:Bool) (w:ao) (jC:Kd.C Kd.bool w dY aX.length aX) (jD:aX.length≤dS) (jE:Kd.C Dt w dV aG.length aG) (jF:aG.length≤dU) (h:jf.f ai aj az aA aI aD aJ aX aG a1 a2 = some r):
 Calls Try.prog 72 #[.agg #[Z ab ai,Z ab aj,Z ab az,Z ab aA,Z ab aI,Z ab aD,Z ab aJ,.slice dY aX.length dS,.slice dV aG.length dU],Z ab a1,Z ab a2] w fun e w'=>e = .returned (.bool r)∧Below w.heap.size w w':=by
 have xS:=Try.underlying25
 have iI:=af.mk jC
 have iO:=af.mk jD
 clear jC jD
 have iB:=af.mk jE
 have iP:=af.mk jF
 clear jE jF
 have HB:=af.mk (Below.refl w.heap.size w)
 have H:(if a1 ≥ 0 then (some (decide (a2≤(an (aI*aA))))) else (some false)) = some r:=h
 clear h
 by_cases c4:a1 ≥ 0
 ·rw [if_pos c4] at H
  have rZ:decide (0≤a1) = true:=decide_eq_true c4
  clear c4
  obtain rfl:=bh H
  go_enter Try.func72,Try.ntmps72
  go_wp2_with (first|((with_reducible refine av (N:=3) rfl ?_);refine ak (by rfl) (N:=3) (by rfl) (cs:=#[Z ab ai,Z ab aj,Z ab az,Z ab aA,Z ab aI,Z ab aD,Z ab aJ,.slice dY aX.length dS,.slice dV aG.length dU]) (t:=25) fU ?_;intro aGz hg w5 ay hb;have az9:=af.mk (ay);have aGA:=bY HB hg;have aGB:=bY HB hg;replace HB:=dz HB hb;clear hb ay hg;obtain ⟨aCY,aCZ,aC0,aC1,aC2,aC3,aC4,aC5,aC6,aC7,aC8,aC9,aDa,aDb,aDc,aDd,aDe,aDf⟩:=jS az9.out))
  go_ret
  exact ⟨mJ,gp⟩
 ·rw [if_neg c4] at H
  have rZ:decide (0≤a1) = false:=decide_eq_false c4
  clear c4
  obtain rfl:=bh H
  go_enter Try.func72,Try.ntmps72
  go_wp2_with (first|((with_reducible refine av (N:=3) rfl ?_);refine ak (by rfl) (N:=3) (by rfl) (cs:=#[Z ab ai,Z ab aj,Z ab az,Z ab aA,Z ab aI,Z ab aD,Z ab aJ,.slice dY aX.length dS,.slice dV aG.length dU]) (t:=25) fU ?_;intro aGz hg w7 ay hb;have az9:=af.mk (ay);have aGA:=bY HB hg;have aGB:=bY HB hg;replace HB:=dz HB hb;clear hb ay hg))
  go_ret
  exact ⟨mJ,gp⟩
def dP.f (k:Nat) (ai:Int) (aj:Int) (az:Int) (aA:Int) (aI:Int) (aD:Int) (aJ:Int) (aX:List Bool) (aG:List (qK)) (aQ:Int) (aN:Int) (bC:Int) (bD:Int) (bU:Int) (bV:Int) (bW:Int) (cO:Int) (cZ:Int) (dh:Int) (di:Int) (a3:Int):Option (Bool):=(fB.f k ai aj az aA aI aD aJ aX aG aQ aN bC bD bU bV bW cO cZ dh di).bind fun OQ=>((j3.f ai aj az aA aI aD aJ aX aG OQ.1 OQ.2.1 OQ.2.2.1 OQ.2.2.2).bind fun aet=>(if aet = true then ((jf.f ai aj az aA aI aD aJ aX aG a3 (an (a3+aN))).bind fun Sa=>(some Sa)) else (some false)))
def dP.T1:Bool × List (List Nat × List Nat):=(true,[([],[]),([],[]),([],[]),([],[]),([1,2,3],[1,2,3]),([0,4,4],[0,4]),([5,5],[5]),([6],[6]),([6],[6]),([6],[6]),([6],[6]),([10,6],[6,10]),([9,11,6],[6,9,11]),([7,8,12,6,6],[6,7,8,12]),([6,13],[6,13]),([14,13,0,1,2,3,4,5,6,7,8,9,10,11,12,13,14],[14])])
def dP.B1:List Nat:=[0,0,0,0,14,31,63,127,127,127,127,1151,3711,8191,16383,32767]
theorem dP.au3:rX .any (opsOf Try.f105 1) = dP.T1:=by kernel_rfl
theorem dP.ajA:oF dP.T1.2 dP.B1 = true:=by kernel_rfl
theorem dP.calls (k:Nat) (ai:Int) (aj:Int) (az:Int) (aA:Int) (aI:Int) (aD:Int) (aJ:Int) (dY:Option Addr) (dS:Nat) (aX:List Bool) (dV:Option Addr) (dU:Nat) (aG:List (qK)) (aQ:Int) (aN:Int) (bC:Int) (bD:Int) (bU:Int) (bV:Int) (bW:Int) (cO:Int) (cZ:Int) (dh:Int) (di:Int) (a3:Int) (r:Bool) (w:ao) (jC:Kd.C Kd.bool w dY aX.length aX) (jD:aX.length≤dS) (jE:Kd.C Dt w dV aG.length aG) (jF:aG.length≤dU) (h:dP.f k ai aj az aA aI aD aJ aX aG aQ aN bC bD bU bV bW cO cZ dh di a3 = some r):
 Calls Try.prog 105 #[.agg #[Z ab ai,Z ab aj,Z ab az,Z ab aA,Z ab aI,Z ab aD,Z ab aJ,.slice dY aX.length dS,.slice dV aG.length dU],.agg #[Z ab aQ,Z ab aN,Z ab bC,Z ab bD,Z ab bU,Z ab bV,Z ab bW],.agg #[Z ab cO,Z ab cZ,Z ab dh,Z ab di],Z ab a3] w fun e w'=>e = .returned (.bool r)∧Below w.heap.size w w':=by
 have xS:=Try.underlying25
 have vo:=Try.underlying29
 have qj:=Try.underlying31
 have iI:=af.mk jC
 have iO:=af.mk jD
 clear jC jD
 have iB:=af.mk jE
 have iP:=af.mk jF
 clear jE jF
 have HB:=af.mk (Below.refl w.heap.size w)
 have H:((fB.f k ai aj az aA aI aD aJ aX aG aQ aN bC bD bU bV bW cO cZ dh di).bind fun OQ=>((j3.f ai aj az aA aI aD aJ aX aG OQ.1 OQ.2.1 OQ.2.2.1 OQ.2.2.2).bind fun aet=>(if aet = true then ((jf.f ai aj az aA aI aD aJ aX aG a3 (an (a3+aN))).bind fun Sa=>(some Sa)) else (some false)))) = some r:=h
 clear h
 replace H:=Option.bind_eq_some_iff.mp H
 obtain ⟨⟨agY,agZ,ag0,ag1⟩,VW,H⟩:=H
 replace H:((j3.f ai aj az aA aI aD aJ aX aG agY agZ ag0 ag1).bind fun aet=>(if aet = true then ((jf.f ai aj az aA aI aD aJ aX aG a3 (an (a3+aN))).bind fun Sa=>(some Sa)) else (some false))) = some r:=H
 have A5:=af.mk VW
 clear VW
 replace H:=Option.bind_eq_some_iff.mp H
 obtain ⟨aet,Nn,H⟩:=H
 replace H:(if aet = true then ((jf.f ai aj az aA aI aD aJ aX aG a3 (an (a3+aN))).bind fun Sa=>(some Sa)) else (some false)) = some r:=H
 have A6:=af.mk Nn
 clear Nn
 by_cases c7:aet = true
 ·subst c7
  have H1:((jf.f ai aj az aA aI aD aJ aX aG a3 (an (a3+aN))).bind fun Sa=>(some Sa)) = some r:=by rw [if_pos rfl] at H;exact H
  clear H
  have H:=H1
  clear H1
  replace H:=Option.bind_eq_some_iff.mp H
  obtain ⟨Sa,Rq,H⟩:=H
  replace H:(some Sa) = some r:=H
  have A8:=af.mk Rq
  clear Rq
  obtain rfl:=bh H
  go_enter Try.func105,Try.ntmps105
  try go_wp2_with (first|((with_reducible refine av (N:=4) rfl ?_);refine ak (by rfl) (N:=4) (by rfl) (cs:=#[Z ab ai,Z ab aj,Z ab az,Z ab aA,Z ab aI,Z ab aD,Z ab aJ,.slice dY aX.length dS,.slice dV aG.length dU]) (t:=25) fU ?_;intro xq hg w9 ay hb;have fI:=af.mk (ay);have aGC:=bY HB hg;have aGD:=bY HB hg;replace HB:=dz HB hb;clear hb ay hg)|((with_reducible refine av (N:=5) rfl ?_);refine ak (by rfl) (N:=5) (by rfl) (cs:=#[Z ab aQ,Z ab aN,Z ab bC,Z ab bD,Z ab bU,Z ab bV,Z ab bW]) (t:=29) fU ?_;intro CF hg w10 ay hb;have ic:=af.mk (ay);have aGE:=bY HB hg;have aGF:=bY HB hg;have amL:=fG fI hg;have amM:=fH fI hg;replace fI:=bn fI hb;replace HB:=dz HB hb;clear hb ay hg)|((with_reducible refine av (N:=6) rfl ?_);refine ak (by rfl) (N:=6) (by rfl) (cs:=#[Z ab cO,Z ab cZ,Z ab dh,Z ab di]) (t:=31) fU ?_;intro OT hg w11 ay hb;have lX:=af.mk (ay);have aGG:=bY HB hg;have aGH:=bY HB hg;have amN:=fG fI hg;have amO:=fH fI hg;have amP:=fG ic hg;have amQ:=fH ic hg;replace fI:=bn fI hb;replace ic:=bn ic hb;replace HB:=dz HB hb;clear hb ay hg))
  replace fI:=af.mk (ag fI.out)
  replace ic:=af.mk (ag ic.out)
  replace lX:=af.mk (ag lX.out)
  replace HB:=af.mk (bF HB.out)
  refine jV (n:=16) (S:=fun w'=>w'.cell? ⟨xq,0,none⟩ = some (Z ab ai)∧w'.cell? ⟨xq,1,none⟩ = some (Z ab aj)∧w'.cell? ⟨xq,2,none⟩ = some (Z ab az)∧w'.cell? ⟨xq,3,none⟩ = some (Z ab aA)∧w'.cell? ⟨xq,4,none⟩ = some (Z ab aI)∧w'.cell? ⟨xq,5,none⟩ = some (Z ab aD)∧w'.cell? ⟨xq,6,none⟩ = some (Z ab aJ)∧w'.cell? ⟨xq,7,none⟩ = some (.slice dY aX.length dS)∧w'.cell? ⟨xq,8,none⟩ = some (.slice dV aG.length dU)∧w'.cell? ⟨CF,0,none⟩ = some (Z ab aQ)∧w'.cell? ⟨CF,1,none⟩ = some (Z ab aN)∧w'.cell? ⟨CF,2,none⟩ = some (Z ab bC)∧w'.cell? ⟨CF,3,none⟩ = some (Z ab bD)∧w'.cell? ⟨CF,4,none⟩ = some (Z ab bU)∧w'.cell? ⟨CF,5,none⟩ = some (Z ab bV)∧w'.cell? ⟨CF,6,none⟩ = some (Z ab bW)∧w'.cell? ⟨OT,0,none⟩ = some (Z ab cO)∧w'.cell? ⟨OT,1,none⟩ = some (Z ab cZ)∧w'.cell? ⟨OT,2,none⟩ = some (Z ab dh)∧w'.cell? ⟨OT,3,none⟩ = some (Z ab di)) (ds:=[]) #[al,al,al,al,al,al,al,al,al,al,al,al,al,al,al,al] aT rfl rfl ⟨bH fI 0,bH fI 1,bH fI 2,bH fI 3,bH fI 4,bH fI 5,bH fI 6,bH fI 7,bH fI 8,bH ic 0,bH ic 1,bH ic 2,bH ic 3,bH ic 4,bH ic 5,bH ic 6,bH lX 0,bH lX 1,bH lX 2,bH lX 3⟩ (fun hHeld=>?_);refine jQ dP.au3 dP.ajA (fun dx mD=>?_)
  generalize w11.drew = Ja at fI ic lX HB hHeld ⊢
  refine iT (i:=0) (N:=some 9) (bL dx.out mD.out aT) hHeld ?_
  refine iT (i:=1) (N:=some 10) (bL dx.out mD.out aT) hHeld ?_
  refine iT (i:=2) (N:=some 11) (bL dx.out mD.out aT) hHeld ?_
  refine iT (i:=3) (N:=some 12) (bL dx.out mD.out aT) hHeld ?_
  refine iW (i:=4) (N:=some 13) #[ac,ac,ac,ac,ac,al,al,al,al,al,al,al,al,al,al,al] rfl rfl (gJ dx.out aT) (by decide) (fun K hK=>?_)
  refine gY Try.func133 aT rfl #[.agg #[Z ab ai,Z ab aj,Z ab az,Z ab aA,Z ab aI,Z ab aD,Z ab aJ,.slice dY aX.length dS,.slice dV aG.length dU],.agg #[Z ab aQ,Z ab aN,Z ab bC,Z ab bD,Z ab bU,Z ab bV,Z ab bW],.agg #[Z ab cO,Z ab cZ,Z ab dh,Z ab di]] (by rfl) rfl rfl jB ?_
  with_reducible refine (fB.calls k ai aj az aA aI aD aJ _ _ aX _ _ aG aQ aN bC bD bU bV bW cO cZ dh di agY agZ ag0 ag1 _ ?dG ?dH ?eP ?eQ A5.out).mono ?_
  (case dG=>repeat (first|exact (Kd.bz iI.out HB.out)|(with_reducible refine Kd.bJ ?_ _)|(with_reducible refine Kd.bK ?_ _)|(with_reducible refine Kd.bZ ?_)))
  (case dH=>exact iO.out)
  (case eP=>repeat (first|exact (Kd.bz iB.out HB.out)|(with_reducible refine Kd.bJ ?_ _)|(with_reducible refine Kd.bK ?_ _)|(with_reducible refine Kd.bZ ?_)))
  (case eQ=>exact iP.out)
  rintro e GK ⟨rfl,hb⟩
  refine ⟨_,rfl,?_⟩
  replace fI:=bn fI hb
  replace ic:=bn ic hb
  replace lX:=bn lX hb
  replace HB:=dz HB hb
  (try clear hb)
  (try clear hb2)
  (try clear hk)
  (try clear hi)
  refine hK.out _ _ ⟨bH fI 0,bH fI 1,bH fI 2,bH fI 3,bH fI 4,bH fI 5,bH fI 6,bH fI 7,bH fI 8,bH ic 0,bH ic 1,bH ic 2,bH ic 3,bH ic 4,bH ic 5,bH ic 6,bH lX 0,bH lX 1,bH lX 2,bH lX 3⟩ (fun hHeld=>?_)
  clear hK K
  refine dQ agf ?_
  refine iW (i:=5) (N:=some 14) #[ac,ac,ac,ac,ac,ac,al,al,al,al,al,al,al,al,al,al] rfl rfl (gJ dx.out aT) (by decide) (fun K hK=>?_)
  refine gY Try.func71 aT rfl #[.agg #[Z ab ai,Z ab aj,Z ab az,Z ab aA,Z ab aI,Z ab aD,Z ab aJ,.slice dY aX.length dS,.slice dV aG.length dU],.agg #[Z ab agY,Z ab agZ,Z ab ag0,Z ab ag1]] (by rfl) rfl rfl jB ?_
  with_reducible refine (j3.calls ai aj az aA aI aD aJ _ _ aX _ _ aG agY agZ ag0 ag1 true _ ?dG ?dH ?eP ?eQ A6.out).mono ?_
  (case dG=>repeat (first|exact (Kd.bz iI.out HB.out)|(with_reducible refine Kd.bJ ?_ _)|(with_reducible refine Kd.bK ?_ _)|(with_reducible refine Kd.bZ ?_)))
  (case dH=>exact iO.out)
  (case eP=>repeat (first|exact (Kd.bz iB.out HB.out)|(with_reducible refine Kd.bJ ?_ _)|(with_reducible refine Kd.bK ?_ _)|(with_reducible refine Kd.bZ ?_)))
  (case eQ=>exact iP.out)
  rintro e w14 ⟨rfl,hb⟩
  refine ⟨_,rfl,?_⟩
  replace fI:=bn fI hb
  replace ic:=bn ic hb
  replace lX:=bn lX hb
  replace HB:=dz HB hb
  (try clear hb)
  (try clear hb2)
  (try clear hk)
  (try clear hi)
  refine hK.out _ _ ⟨bH fI 0,bH fI 1,bH fI 2,bH fI 3,bH fI 4,bH fI 5,bH fI 6,bH fI 7,bH fI 8,bH ic 0,bH ic 1,bH ic 2,bH ic 3,bH ic 4,bH ic 5,bH ic 6,bH lX 0,bH lX 1,bH lX 2,bH lX 3⟩ (fun hHeld=>?_)
  clear hK K
  refine dQ aoi ?_
  refine dR (i:=6) (N:=some 15) (aY dx.out aT) ?_
  refine dR (i:=8) (N:=some 17) (aY dx.out aT) ?_
  refine dR (i:=9) (N:=some 18) (aY dx.out aT) ?_
  refine dR (i:=10) (N:=some 19) (aY dx.out aT) ?_
  refine iT (i:=7) (N:=some 16) (bL dx.out mD.out aT) hHeld ?_
  refine iT (i:=11) (N:=some 20) (bL dx.out mD.out aT) hHeld ?_
  refine dR (i:=12) (N:=some 21) (aY dx.out aT) ?_
  refine iW (i:=13) (N:=some 22) #[ac,ac,ac,ac,ac,ac,ac,ac,ac,ac,ac,ac,ac,ac,al,al] rfl rfl (gJ dx.out aT) (by decide) (fun K hK=>?_)
  refine gY Try.func72 aT rfl #[.agg #[Z ab ai,Z ab aj,Z ab az,Z ab aA,Z ab aI,Z ab aD,Z ab aJ,.slice dY aX.length dS,.slice dV aG.length dU],Z ab a3,Z ab (an (a3+aN))] (by rfl) rfl rfl jB ?_
  with_reducible refine (jf.calls ai aj az aA aI aD aJ _ _ aX _ _ aG a3 (an (a3+aN)) Sa _ ?dG ?dH ?eP ?eQ A8.out).mono ?_
  (case dG=>repeat (first|exact (Kd.bz iI.out HB.out)|(with_reducible refine Kd.bJ ?_ _)|(with_reducible refine Kd.bK ?_ _)|(with_reducible refine Kd.bZ ?_)))
  (case dH=>exact iO.out)
  (case eP=>repeat (first|exact (Kd.bz iB.out HB.out)|(with_reducible refine Kd.bJ ?_ _)|(with_reducible refine Kd.bK ?_ _)|(with_reducible refine Kd.bZ ?_)))
  (case eQ=>exact iP.out)
  rintro e w15 ⟨rfl,hb⟩
  refine ⟨_,rfl,?_⟩
  replace fI:=bn fI hb
  replace ic:=bn ic hb
  replace lX:=bn lX hb
  replace HB:=dz HB hb
  (try clear hb)
  (try clear hb2)
  (try clear hk)
  (try clear hi)
  refine hK.out _ _ ⟨bH fI 0,bH fI 1,bH fI 2,bH fI 3,bH fI 4,bH fI 5,bH fI 6,bH fI 7,bH fI 8,bH ic 0,bH ic 1,bH ic 2,bH ic 3,bH ic 4,bH ic 5,bH ic 6,bH lX 0,bH lX 1,bH lX 2,bH lX 3⟩ (fun hHeld=>?_)
  clear hK K
  refine dQ (by show Act.put _ (some 22) _ = _;simp only [Act.put,ap,aq,ar,eY,fo];rfl) ?_
  refine dR (i:=14) (N:=some 23) (aY dx.out aT) ?_
  refine dR (i:=15) (N:=some 8) (aY dx.out aT) ?_
  refine mi (ni dx.out aT) ?_
  try go_wp2
  go_ret
  exact ⟨mJ,gp⟩
 ·replace c7:=Bool.eq_false_iff.mpr c7
  subst c7
  have H1:(some false) = some r:=by rw [if_neg (show ¬ (false = true) by decide)] at H;exact H
  clear H
  have H:=H1
  clear H1
  obtain rfl:=bh H
  go_enter Try.func105,Try.ntmps105
  try go_wp2_with (first|((with_reducible refine av (N:=4) rfl ?_);refine ak (by rfl) (N:=4) (by rfl) (cs:=#[Z ab ai,Z ab aj,Z ab az,Z ab aA,Z ab aI,Z ab aD,Z ab aJ,.slice dY aX.length dS,.slice dV aG.length dU]) (t:=25) fU ?_;intro xq hg w16 ay hb;have fI:=af.mk (ay);have aGC:=bY HB hg;have aGD:=bY HB hg;replace HB:=dz HB hb;clear hb ay hg)|((with_reducible refine av (N:=5) rfl ?_);refine ak (by rfl) (N:=5) (by rfl) (cs:=#[Z ab aQ,Z ab aN,Z ab bC,Z ab bD,Z ab bU,Z ab bV,Z ab bW]) (t:=29) fU ?_;intro CF hg DC ay hb;have ic:=af.mk (ay);have aGE:=bY HB hg;have aGF:=bY HB hg;have amL:=fG fI hg;have amM:=fH fI hg;replace fI:=bn fI hb;replace HB:=dz HB hb;clear hb ay hg)|((with_reducible refine av (N:=6) rfl ?_);refine ak (by rfl) (N:=6) (by rfl) (cs:=#[Z ab cO,Z ab cZ,Z ab dh,Z ab di]) (t:=31) fU ?_;intro OT hg w18 ay hb;have lX:=af.mk (ay);have aGG:=bY HB hg;have aGH:=bY HB hg;have amN:=fG fI hg;have amO:=fH fI hg;have amP:=fG ic hg;have amQ:=fH ic hg;replace fI:=bn fI hb;replace ic:=bn ic hb;replace HB:=dz HB hb;clear hb ay hg))
  replace fI:=af.mk (ag fI.out)
  replace ic:=af.mk (ag ic.out)
  replace lX:=af.mk (ag lX.out)
  replace HB:=af.mk (bF HB.out)
  refine jV (n:=16) (S:=fun w'=>w'.cell? ⟨xq,0,none⟩ = some (Z ab ai)∧w'.cell? ⟨xq,1,none⟩ = some (Z ab aj)∧w'.cell? ⟨xq,2,none⟩ = some (Z ab az)∧w'.cell? ⟨xq,3,none⟩ = some (Z ab aA)∧w'.cell? ⟨xq,4,none⟩ = some (Z ab aI)∧w'.cell? ⟨xq,5,none⟩ = some (Z ab aD)∧w'.cell? ⟨xq,6,none⟩ = some (Z ab aJ)∧w'.cell? ⟨xq,7,none⟩ = some (.slice dY aX.length dS)∧w'.cell? ⟨xq,8,none⟩ = some (.slice dV aG.length dU)∧w'.cell? ⟨CF,0,none⟩ = some (Z ab aQ)∧w'.cell? ⟨CF,1,none⟩ = some (Z ab aN)∧w'.cell? ⟨CF,2,none⟩ = some (Z ab bC)∧w'.cell? ⟨CF,3,none⟩ = some (Z ab bD)∧w'.cell? ⟨CF,4,none⟩ = some (Z ab bU)∧w'.cell? ⟨CF,5,none⟩ = some (Z ab bV)∧w'.cell? ⟨CF,6,none⟩ = some (Z ab bW)∧w'.cell? ⟨OT,0,none⟩ = some (Z ab cO)∧w'.cell? ⟨OT,1,none⟩ = some (Z ab cZ)∧w'.cell? ⟨OT,2,none⟩ = some (Z ab dh)∧w'.cell? ⟨OT,3,none⟩ = some (Z ab di)) (ds:=[]) #[al,al,al,al,al,al,al,al,al,al,al,al,al,al,al,al] aT rfl rfl ⟨bH fI 0,bH fI 1,bH fI 2,bH fI 3,bH fI 4,bH fI 5,bH fI 6,bH fI 7,bH fI 8,bH ic 0,bH ic 1,bH ic 2,bH ic 3,bH ic 4,bH ic 5,bH ic 6,bH lX 0,bH lX 1,bH lX 2,bH lX 3⟩ (fun hHeld=>?_);refine jQ dP.au3 dP.ajA (fun dx mD=>?_)
  generalize w18.drew = w19 at fI ic lX HB hHeld ⊢
  refine iT (i:=0) (N:=some 9) (bL dx.out mD.out aT) hHeld ?_
  refine iT (i:=1) (N:=some 10) (bL dx.out mD.out aT) hHeld ?_
  refine iT (i:=2) (N:=some 11) (bL dx.out mD.out aT) hHeld ?_
  refine iT (i:=3) (N:=some 12) (bL dx.out mD.out aT) hHeld ?_
  refine iW (i:=4) (N:=some 13) #[ac,ac,ac,ac,ac,al,al,al,al,al,al,al,al,al,al,al] rfl rfl (gJ dx.out aT) (by decide) (fun K hK=>?_)
  refine gY Try.func133 aT rfl #[.agg #[Z ab ai,Z ab aj,Z ab az,Z ab aA,Z ab aI,Z ab aD,Z ab aJ,.slice dY aX.length dS,.slice dV aG.length dU],.agg #[Z ab aQ,Z ab aN,Z ab bC,Z ab bD,Z ab bU,Z ab bV,Z ab bW],.agg #[Z ab cO,Z ab cZ,Z ab dh,Z ab di]] (by rfl) rfl rfl jB ?_
  with_reducible refine (fB.calls k ai aj az aA aI aD aJ _ _ aX _ _ aG aQ aN bC bD bU bV bW cO cZ dh di agY agZ ag0 ag1 _ ?dG ?dH ?eP ?eQ A5.out).mono ?_
  (case dG=>repeat (first|exact (Kd.bz iI.out HB.out)|(with_reducible refine Kd.bJ ?_ _)|(with_reducible refine Kd.bK ?_ _)|(with_reducible refine Kd.bZ ?_)))
  (case dH=>exact iO.out)
  (case eP=>repeat (first|exact (Kd.bz iB.out HB.out)|(with_reducible refine Kd.bJ ?_ _)|(with_reducible refine Kd.bK ?_ _)|(with_reducible refine Kd.bZ ?_)))
  (case eQ=>exact iP.out)
  rintro e Jb ⟨rfl,hb⟩
  refine ⟨_,rfl,?_⟩
  replace fI:=bn fI hb
  replace ic:=bn ic hb
  replace lX:=bn lX hb
  replace HB:=dz HB hb
  (try clear hb)
  (try clear hb2)
  (try clear hk)
  (try clear hi)
  refine hK.out _ _ ⟨bH fI 0,bH fI 1,bH fI 2,bH fI 3,bH fI 4,bH fI 5,bH fI 6,bH fI 7,bH fI 8,bH ic 0,bH ic 1,bH ic 2,bH ic 3,bH ic 4,bH ic 5,bH ic 6,bH lX 0,bH lX 1,bH lX 2,bH lX 3⟩ (fun hHeld=>?_)
  clear hK K
  refine dQ agf ?_
  refine iW (i:=5) (N:=some 14) #[ac,ac,ac,ac,ac,ac,al,al,al,al,al,al,al,al,al,al] rfl rfl (gJ dx.out aT) (by decide) (fun K hK=>?_)
  refine gY Try.func71 aT rfl #[.agg #[Z ab ai,Z ab aj,Z ab az,Z ab aA,Z ab aI,Z ab aD,Z ab aJ,.slice dY aX.length dS,.slice dV aG.length dU],.agg #[Z ab agY,Z ab agZ,Z ab ag0,Z ab ag1]] (by rfl) rfl rfl jB ?_
  with_reducible refine (j3.calls ai aj az aA aI aD aJ _ _ aX _ _ aG agY agZ ag0 ag1 false _ ?dG ?dH ?eP ?eQ A6.out).mono ?_
  (case dG=>repeat (first|exact (Kd.bz iI.out HB.out)|(with_reducible refine Kd.bJ ?_ _)|(with_reducible refine Kd.bK ?_ _)|(with_reducible refine Kd.bZ ?_)))
  (case dH=>exact iO.out)
  (case eP=>repeat (first|exact (Kd.bz iB.out HB.out)|(with_reducible refine Kd.bJ ?_ _)|(with_reducible refine Kd.bK ?_ _)|(with_reducible refine Kd.bZ ?_)))
  (case eQ=>exact iP.out)
  rintro e w21 ⟨rfl,hb⟩
  refine ⟨_,rfl,?_⟩
  replace fI:=bn fI hb
  replace ic:=bn ic hb
  replace lX:=bn lX hb
  replace HB:=dz HB hb
  (try clear hb)
  (try clear hb2)
  (try clear hk)
  (try clear hi)
  refine hK.out _ _ ⟨bH fI 0,bH fI 1,bH fI 2,bH fI 3,bH fI 4,bH fI 5,bH fI 6,bH fI 7,bH fI 8,bH ic 0,bH ic 1,bH ic 2,bH ic 3,bH ic 4,bH ic 5,bH ic 6,bH lX 0,bH lX 1,bH lX 2,bH lX 3⟩ (fun hHeld=>?_)
  clear hK K
  refine dQ aoi ?_
  refine dR (i:=6) (N:=some 15) (aY dx.out aT) ?_
  refine j6 (i:=7) (N:=some 16) (v:=undef) (a':=?_) #[ac,ac,ac,ac,ac,ac,ac,ac,al,al,al,al,al,al,al,al] rfl rfl (aY dx.out aT) (fun _ _ _ h=>h) (Or.inr ⟨by rfl,rfl⟩) ?_ ?_
  rotate_left
  ·simp only [Act.put,ap,aq,ar,eY,fo]
   rfl
  refine j6 (i:=8) (N:=some 17) (v:=undef) (a':=?_) #[ac,ac,ac,ac,ac,ac,ac,ac,ac,al,al,al,al,al,al,al] rfl rfl (aY dx.out aT) (fun _ _ _ h=>h) (Or.inr ⟨by rfl,rfl⟩) ?_ ?_
  rotate_left
  ·simp only [Act.put,ap,aq,ar,eY,fo]
   rfl
  refine j6 (i:=9) (N:=some 18) (v:=undef) (a':=?_) #[ac,ac,ac,ac,ac,ac,ac,ac,ac,ac,al,al,al,al,al,al] rfl rfl (aY dx.out aT) (fun _ _ _ h=>h) (Or.inr ⟨by rfl,rfl⟩) ?_ ?_
  rotate_left
  ·simp only [Act.put,ap,aq,ar,eY,fo]
   rfl
  refine j6 (i:=10) (N:=some 19) (v:=undef) (a':=?_) #[ac,ac,ac,ac,ac,ac,ac,ac,ac,ac,ac,al,al,al,al,al] rfl rfl (aY dx.out aT) (fun _ _ _ h=>h) (Or.inr ⟨by rfl,rfl⟩) ?_ ?_
  rotate_left
  ·simp only [Act.put,ap,aq,ar,eY,fo]
   rfl
  refine j6 (i:=11) (N:=some 20) (v:=undef) (a':=?_) #[ac,ac,ac,ac,ac,ac,ac,ac,ac,ac,ac,ac,al,al,al,al] rfl rfl (aY dx.out aT) (fun _ _ _ h=>h) (Or.inr ⟨by rfl,rfl⟩) ?_ ?_
  rotate_left
  ·simp only [Act.put,ap,aq,ar,eY,fo]
   rfl
  refine j6 (i:=12) (N:=some 21) (v:=undef) (a':=?_) #[ac,ac,ac,ac,ac,ac,ac,ac,ac,ac,ac,ac,ac,al,al,al] rfl rfl (aY dx.out aT) (fun _ _ _ h=>h) (Or.inr ⟨by rfl,rfl⟩) ?_ ?_
  rotate_left
  ·simp only [Act.put,ap,aq,ar,eY,fo]
   rfl
  refine j6 (i:=13) (N:=some 22) (v:=undef) (a':=?_) #[ac,ac,ac,ac,ac,ac,ac,ac,ac,ac,ac,ac,ac,ac,al,al] rfl rfl (aY dx.out aT) (fun _ _ _ h=>h) (Or.inr ⟨by rfl,rfl⟩) ?_ ?_
  rotate_left
  ·simp only [Act.put,ap,aq,ar,eY,fo]
   rfl
  refine dR (i:=14) (N:=some 23) (aY dx.out aT) ?_
  refine dR (i:=15) (N:=some 8) (aY dx.out aT) ?_
  refine mi (ni dx.out aT) ?_
  try go_wp2
  go_ret
  exact ⟨mJ,gp⟩
def dF.f (k:Nat) (ai:Int) (aj:Int) (a1:Int) (cO:Int) (cZ:Int) (a3:Int):Option (Int × Int):=(gF.f k (an ((an (a1+(an (1000*cO))))*a3)) 1000000).bind fun aa9=>((jw.f k (an ((an (a1+(an (1000*cZ))))*a3)) 1000000).bind fun aba=>(some (an (ai+aa9),an (aj+aba))))
def dF.T1:Bool × List (List Nat × List Nat):=(true,[([],[]),([0],[0]),([],[]),([],[]),([3],[3]),([4],[4]),([2,5],[2,5]),([],[]),([6,7],[6,7]),([8],[8]),([1,9],[1,9]),([],[]),([11],[11]),([],[]),([],[]),([14],[14]),([15],[15]),([13,16],[13,16]),([],[]),([17,18],[17,18]),([19,9],[19]),([12,20],[12,20]),([10,21],[10,21]),([22,20,0,1,2,3,4,5,6,7,8,9,10,11,12,13,14,15,16,17,18,19,20,21,22],[22])])
def dF.B1:List Nat:=[0,1,0,0,8,24,60,0,252,508,1023,0,2048,0,0,16384,49152,122880,0,516096,1041404,2096124,4194303,8388607]
theorem dF.au3:rX .any (opsOf Try.f134 1) = dF.T1:=by kernel_rfl
theorem dF.ajA:oF dF.T1.2 dF.B1 = true:=by kernel_rfl
theorem dF.calls (k:Nat) (ai:Int) (aj:Int) (a1:Int) (cO:Int) (cZ:Int) (a3:Int) (r1:Int) (r2:Int) (w:ao) (h:dF.f k ai aj a1 cO cZ a3 = some (r1,r2)):
 Calls Try.prog 134 #[.agg #[Z ab ai,Z ab aj],Z ab a1,.agg #[Z ab cO,Z ab cZ],Z ab a3] w fun e w'=>e = .returned (.agg #[Z ab r1,Z ab r2])∧Below w.heap.size w w':=by
 have oO:=Try.underlying27
 have HB:=af.mk (Below.refl w.heap.size w)
 have H:((gF.f k (an ((an (a1+(an (1000*cO))))*a3)) 1000000).bind fun aa9=>((jw.f k (an ((an (a1+(an (1000*cZ))))*a3)) 1000000).bind fun aba=>(some (an (ai+aa9),an (aj+aba))))) = some (r1,r2):=h
 clear h
 replace H:=Option.bind_eq_some_iff.mp H
 obtain ⟨aa9,VW,H⟩:=H
 replace H:((jw.f k (an ((an (a1+(an (1000*cZ))))*a3)) 1000000).bind fun aba=>(some (an (ai+aa9),an (aj+aba)))) = some (r1,r2):=H
 have A5:=af.mk VW
 clear VW
 replace H:=Option.bind_eq_some_iff.mp H
 obtain ⟨aba,Nn,H⟩:=H
 replace H:(some (an (ai+aa9),an (aj+aba))) = some (r1,r2):=H
 have A6:=af.mk Nn
 clear Nn
 simp only [Option.some.injEq,Prod.mk.injEq] at H
 obtain ⟨rfl,rfl⟩:=H
 go_enter Try.func134,Try.ntmps134
 try go_wp2_with (first|((with_reducible refine av (N:=4) rfl ?_);refine ak (by rfl) (N:=4) (by rfl) (cs:=#[Z ab ai,Z ab aj]) (t:=27) fU ?_;intro aAa hg w7 ay hb;have Ah:=af.mk (ay);have a0Z:=bY HB hg;have a00:=bY HB hg;replace HB:=dz HB hb;clear hb ay hg)|((with_reducible refine av (N:=6) rfl ?_);refine ak (by rfl) (N:=6) (by rfl) (cs:=#[Z ab cO,Z ab cZ]) (t:=27) fU ?_;intro aAb hg w8 ay hb;have FN:=af.mk (ay);have a01:=bY HB hg;have a02:=bY HB hg;have aEI:=fG Ah hg;have aEJ:=fH Ah hg;replace Ah:=bn Ah hb;replace HB:=dz HB hb;clear hb ay hg)|((with_reducible refine av (N:=8) rfl ?_);refine ak (by rfl) (N:=8) (by rfl) (cs:=#[Z ab 0,Z ab 0]) (t:=27) fU ?_;intro apJ hg w9 ay hb;have RF:=af.mk (ay);have a03:=bY HB hg;have a04:=bY HB hg;have BZ:=fG Ah hg;have YA:=fH Ah hg;have Ca:=fG FN hg;have YB:=fH FN hg;replace Ah:=bn Ah hb;replace FN:=bn FN hb;replace HB:=dz HB hb;clear hb ay hg))
 replace Ah:=af.mk (ag Ah.out)
 replace FN:=af.mk (ag FN.out)
 replace RF:=af.mk (ag RF.out)
 replace HB:=af.mk (bF HB.out)
 refine jV (n:=24) (S:=fun w'=>w'.cell? ⟨aAa,0,none⟩ = some (Z ab ai)∧w'.cell? ⟨aAa,1,none⟩ = some (Z ab aj)∧w'.cell? ⟨aAb,0,none⟩ = some (Z ab cO)∧w'.cell? ⟨aAb,1,none⟩ = some (Z ab cZ)) (ds:=[]) #[al,al,al,al,al,al,al,al,al,al,al,al,al,al,al,al,al,al,al,al,al,al,al,al] aT rfl rfl ⟨bH Ah 0,bH Ah 1,bH FN 0,bH FN 1⟩ (fun hHeld=>?_);refine jQ dF.au3 dF.ajA (fun dx mD=>?_)
 generalize w9.drew = w10 at Ah FN RF HB hHeld ⊢
 refine dR (i:=0) (N:=some 9) (aY dx.out aT) ?_
 refine dR (i:=2) (N:=some 11) (aY dx.out aT) ?_
 refine dR (i:=3) (N:=some 12) (aY dx.out aT) ?_
 refine dR (i:=7) (N:=some 16) (aY dx.out aT) ?_
 refine dR (i:=11) (N:=some 20) (aY dx.out aT) ?_
 refine dR (i:=13) (N:=some 22) (aY dx.out aT) ?_
 refine dR (i:=14) (N:=some 23) (aY dx.out aT) ?_
 refine dR (i:=18) (N:=some 27) (aY dx.out aT) ?_
 refine iT (i:=1) (N:=some 10) (bL dx.out mD.out aT) hHeld ?_
 refine iT (i:=4) (N:=some 13) (bL dx.out mD.out aT) hHeld ?_
 refine dR (i:=5) (N:=some 14) (aY dx.out aT) ?_
 refine dR (i:=6) (N:=some 15) (aY dx.out aT) ?_
 refine dR (i:=8) (N:=some 17) (aY dx.out aT) ?_
 refine iT (i:=12) (N:=some 21) (bL dx.out mD.out aT) hHeld ?_
 refine iT (i:=15) (N:=some 24) (bL dx.out mD.out aT) hHeld ?_
 refine dR (i:=16) (N:=some 25) (aY dx.out aT) ?_
 refine dR (i:=17) (N:=some 26) (aY dx.out aT) ?_
 refine dR (i:=19) (N:=some 28) (aY dx.out aT) ?_
 refine iW (i:=9) (N:=some 18) #[ac,ac,ac,ac,ac,ac,ac,ac,ac,ac,al,ac,ac,ac,ac,ac,ac,ac,ac,ac,al,al,al,al] rfl rfl (gJ dx.out aT) (by decide) (fun K hK=>?_)
 refine gY Try.func140 aT rfl #[Z ab (an ((an (a1+(an (1000*cO))))*a3)),Z ab 1000000] (by rfl) rfl rfl jB ?_
 with_reducible refine (gF.calls k (an ((an (a1+(an (1000*cO))))*a3)) 1000000 aa9 _ A5.out).mono ?_
 rintro e w' ⟨rfl,⟨nd,rfl⟩⟩
 refine ⟨_,rfl,?_⟩
 refine hK.out _ _ ⟨bH Ah 0,bH Ah 1,bH FN 0,bH FN 1⟩ (fun hHeld=>?_)
 clear hK K
 refine dQ (by show Act.put _ (some 18) _ = _;simp only [Act.put,ap,aq,ar,eY,fo];rfl) ?_
 refine dR (i:=10) (N:=some 19) (aY dx.out aT) ?_
 refine iW (i:=20) (N:=some 29) #[ac,ac,ac,ac,ac,ac,ac,ac,ac,ac,ac,ac,ac,ac,ac,ac,ac,ac,ac,ac,ac,al,al,al] rfl rfl (gJ dx.out aT) (by decide) (fun K hK=>?_)
 refine gY Try.func139 aT rfl #[Z ab (an ((an (a1+(an (1000*cZ))))*a3)),Z ab 1000000] (by rfl) rfl rfl jB ?_
 with_reducible refine (jw.calls k (an ((an (a1+(an (1000*cZ))))*a3)) 1000000 aba _ A6.out).mono ?_
 rintro e w' ⟨rfl,⟨nd,rfl⟩⟩
 refine ⟨_,rfl,?_⟩
 refine hK.out _ _ ⟨bH Ah 0,bH Ah 1,bH FN 0,bH FN 1⟩ (fun hHeld=>?_)
 clear hK K
 refine dQ aog ?_
 refine dR (i:=21) (N:=some 30) (aY dx.out aT) ?_
 refine dR (i:=22) (N:=some 31) (aY dx.out aT) ?_
 refine iW (i:=23) (N:=none) #[ac,ac,ac,ac,ac,ac,ac,ac,ac,ac,ac,ac,ac,ac,ac,ac,ac,ac,ac,ac,ac,ac,ac,ac] rfl rfl (gJ dx.out aT) (by decide) (fun K hK=>?_)
 have a5y:w10.cell? ⟨apJ,0,none⟩ = some (Z ab 0):=(ae RF.out 0).trans rfl
 have a05:=bg RF.out 0
 have aOm:=BZ.out
 have aOn:=Ca.out
 have aOo:=YA.out
 have aOp:=YB.out
 have a5z:w10.cell? ⟨apJ,1,none⟩ = some (Z ab 0):=(ae RF.out 1).trans rfl
 have a06:=bg RF.out 1
 have aOq:=BZ.out
 have aOr:=Ca.out
 have aOs:=YA.out
 have aOt:=YB.out
 refine vF (w1:=?_) (by rfl) rfl ?_ ?_
 rotate_left
 ·go_simp
  rfl
 refine hK.out _ _ ⟨(dI BZ ((dI BZ (hHeld.1)))),(dI BZ ((dI BZ (hHeld.2.1)))),(dI Ca ((dI Ca (hHeld.2.2.1)))),(dI Ca ((dI Ca (hHeld.2.2.2))))⟩ (fun hHeld=>?_)
 clear hK K
 refine mi (ni dx.out aT) ?_
 try go_wp2
 refine bodyPost_ret (results_cell_row rfl _ _ apJ 27 #[Z ab (an (ai+aa9)),Z ab (an (aj+aba))] (0,0) _ rfl (by (with_reducible repeat (first|refine au ?_ _|refine ag ?_|refine aa ?_ _));refine aK (cs:=#[Z ab (an (ai+aa9)),Z ab 0]) ?_ 1 _ rfl;(with_reducible repeat (first|refine au ?_ _|refine ag ?_|refine aa ?_ _));refine aK (cs:=#[Z ab 0,Z ab 0]) ?_ 0 _ rfl;(with_reducible repeat (first|refine au ?_ _|refine ag ?_|refine aa ?_ _));exact RF.out) Try.underlying27 rfl aT) rfl ?_
 exact ⟨mJ,gp⟩
def lQ.f (a0:Int):Option (Int × Int):=(some (([0,707,1000,707,0,(-707),(-1000),(-707),0]:List Int):List Int)).bind fun M4=>((some (([1000,707,0,(-707),(-1000),(-707),0,707,0]:List Int):List Int)).bind fun LZ=>(if 0≤a0 then (if a0 < (M4.length:Int) then (if a0 < (LZ.length:Int) then (some (rd M4 a0,rd LZ a0)) else (none)) else (none)) else (none)))
theorem lQ.calls (a0:Int) (r1:Int) (r2:Int) (w:ao) (h:lQ.f a0 = some (r1,r2)):
 Calls Try.prog 34 #[Z ab a0] w fun e w'=>e = .returned (.tuple #[Z ab r1,Z ab r2])∧Below w.heap.size w w':=by
 have HB:=af.mk (Below.refl w.heap.size w)
 have H:((some (([0,707,1000,707,0,(-707),(-1000),(-707),0]:List Int):List Int)).bind fun M4=>((some (([1000,707,0,(-707),(-1000),(-707),0,707,0]:List Int):List Int)).bind fun LZ=>(if 0≤a0 then (if a0 < (M4.length:Int) then (if a0 < (LZ.length:Int) then (some (rd M4 a0,rd LZ a0)) else (none)) else (none)) else (none)))) = some (r1,r2):=h
 clear h
 obtain ⟨M4,aeu⟩:∃ y_:List Int,y_ = (([0,707,1000,707,0,(-707),(-1000),(-707),0]:List Int)):=⟨_,rfl⟩
 replace H:((some (([1000,707,0,(-707),(-1000),(-707),0,707,0]:List Int):List Int)).bind fun LZ=>(if 0≤a0 then (if a0 < (M4.length:Int) then (if a0 < (LZ.length:Int) then (some (rd M4 a0,rd LZ a0)) else (none)) else (none)) else (none))) = some (r1,r2):=by first|(rw [aeu];with_reducible exact H)|(have yu:=(aE _ _).symm.trans H;rw [aeu];with_reducible exact yu)|(have yu:=(aE _ _).symm.trans H;with_reducible exact yu)|with_reducible exact H|(rw [aeu];exact H)|exact H
 have YC:=af.mk aeu
 clear aeu
 obtain ⟨LZ,aev⟩:∃ y_:List Int,y_ = (([1000,707,0,(-707),(-1000),(-707),0,707,0]:List Int)):=⟨_,rfl⟩
 replace H:(if 0≤a0 then (if a0 < (M4.length:Int) then (if a0 < (LZ.length:Int) then (some (rd M4 a0,rd LZ a0)) else (none)) else (none)) else (none)) = some (r1,r2):=by first|(rw [aev];with_reducible exact H)|(have yu:=(aE _ _).symm.trans H;rw [aev];with_reducible exact yu)|(have yu:=(aE _ _).symm.trans H;with_reducible exact yu)|with_reducible exact H|(rw [aev];exact H)|exact H
 have YD:=af.mk aev
 clear aev
 by_cases c2:0≤a0
 ·rw [if_pos c2] at H
  have ac8:decide (0≤a0) = true:=decide_eq_true c2
  clear c2
  by_cases c3:a0 < (M4.length:Int)
  ·rw [if_pos c3] at H
   have yo:decide (a0 < (M4.length:Int)) = true:=decide_eq_true c3
   clear c3
   by_cases c4:a0 < (LZ.length:Int)
   ·rw [if_pos c4] at H
    have rZ:decide (a0 < (LZ.length:Int)) = true:=decide_eq_true c4
    clear c4
    simp only [Option.some.injEq,Prod.mk.injEq] at H
    obtain ⟨rfl,rfl⟩:=H
    go_enter Try.func34,Try.ntmps34
    go_wp2_with (first|((with_reducible refine av (N:=6) rfl ?_);refine Kd.z8 (Kd.int .i64) _ 2 (by rfl) (N:=6) (by rfl) (xs:=([0,707,1000,707,0,(-707),(-1000),(-707),0]:List Int)) (inner:=[Z ab 0,Z ab 707,Z ab 1000,Z ab 707,Z ab 0,Z ab (-707),Z ab (-1000),Z ab (-707),Z ab 0]) (ok:=fun _=>True) (okp:=fun _=>True) fU aBW (fun _ hk=>hk) trivial (Below.refl _ _) (Nat.le_refl _) (by simp) ?_;intro aGI w5 Vx hb Jn oC;clear Jn oC;(first|rw [← YC.out] at Vx|(simp only [Int.reduceToNat] at Vx;rw [← YC.out] at Vx));have I8:=af.mk (Kd.kv Vx (fM gp));replace HB:=dz HB hb;clear hb Vx)|((with_reducible refine av (N:=7) rfl ?_);refine Kd.z8 (Kd.int .i64) _ 2 (by rfl) (N:=7) (by rfl) (xs:=([1000,707,0,(-707),(-1000),(-707),0,707,0]:List Int)) (inner:=[Z ab 1000,Z ab 707,Z ab 0,Z ab (-707),Z ab (-1000),Z ab (-707),Z ab 0,Z ab 707,Z ab 0]) (ok:=fun _=>True) (okp:=fun _=>True) fU aBX (fun _ hk=>hk) trivial (Below.refl _ _) (Nat.le_refl _) (by simp) ?_;intro aGJ w7 YE hb Jn oC;clear Jn oC;(first|rw [← YD.out] at YE|(simp only [Int.reduceToNat] at YE;rw [← YD.out] at YE));have RG:=af.mk (Kd.kv (Kd.Zb YE (Kd.af9 amb)) (fM gp));replace I8:=af.mk (Kd.Js amb (Kd.PV YE) hb);replace HB:=dz HB hb;clear hb YE;obtain ⟨Ao9,co9,eo9⟩:=Kd.lM I8.out;subst eo9;have Wo:0≤(a0:Int):=of_decide_eq_true nM;have Wp:a0 < (M4.length:Int):=of_decide_eq_true nM;obtain ⟨aAc,apK,ajB⟩:=Kd.PW (Kd.fK I8.out).2.2 a0 Wo Wp;cases apK;replace Wo:=eq_true Wo;replace Wp:=eq_true Wp;obtain ⟨aGL,aGM,apL⟩:=Kd.lM RG.out;subst apL;have Wq:0≤(a0:Int):=of_decide_eq_true nM;have Ws:a0 < (LZ.length:Int):=of_decide_eq_true nM;obtain ⟨aAd,apM,ajC⟩:=Kd.PW (Kd.fK RG.out).2.2 a0 Wq Ws;cases apM;replace Wq:=eq_true Wq;replace Ws:=eq_true Ws))
    repeat (go_quiet (first|((with_reducible refine av (N:=6) rfl ?_);refine Kd.z8 (Kd.int .i64) _ 2 (by rfl) (N:=6) (by rfl) (xs:=([0,707,1000,707,0,(-707),(-1000),(-707),0]:List Int)) (inner:=[Z ab 0,Z ab 707,Z ab 1000,Z ab 707,Z ab 0,Z ab (-707),Z ab (-1000),Z ab (-707),Z ab 0]) (ok:=fun _=>True) (okp:=fun _=>True) fU aBW (fun _ hk=>hk) trivial (Below.refl _ _) (Nat.le_refl _) (by simp) ?_;intro aGI w5 Vx hb Jn oC;clear Jn oC;(first|rw [← YC.out] at Vx|(simp only [Int.reduceToNat] at Vx;rw [← YC.out] at Vx));have I8:=af.mk (Kd.kv Vx (fM gp));replace HB:=dz HB hb;clear hb Vx)|((with_reducible refine av (N:=7) rfl ?_);refine Kd.z8 (Kd.int .i64) _ 2 (by rfl) (N:=7) (by rfl) (xs:=([1000,707,0,(-707),(-1000),(-707),0,707,0]:List Int)) (inner:=[Z ab 1000,Z ab 707,Z ab 0,Z ab (-707),Z ab (-1000),Z ab (-707),Z ab 0,Z ab 707,Z ab 0]) (ok:=fun _=>True) (okp:=fun _=>True) fU aBX (fun _ hk=>hk) trivial (Below.refl _ _) (Nat.le_refl _) (by simp) ?_;intro aGJ w7 YE hb Jn oC;clear Jn oC;(first|rw [← YD.out] at YE|(simp only [Int.reduceToNat] at YE;rw [← YD.out] at YE));have RG:=af.mk (Kd.kv (Kd.Zb YE (Kd.af9 amb)) (fM gp));replace I8:=af.mk (Kd.Js amb (Kd.PV YE) hb);replace HB:=dz HB hb;clear hb YE;obtain ⟨Ao9,co9,eo9⟩:=Kd.lM I8.out;subst eo9;have Wo:0≤(a0:Int):=of_decide_eq_true nM;have Wp:a0 < (M4.length:Int):=of_decide_eq_true nM;obtain ⟨aAc,apK,ajB⟩:=Kd.PW (Kd.fK I8.out).2.2 a0 Wo Wp;cases apK;replace Wo:=eq_true Wo;replace Wp:=eq_true Wp;obtain ⟨aGL,aGM,apL⟩:=Kd.lM RG.out;subst apL;have Wq:0≤(a0:Int):=of_decide_eq_true nM;have Ws:a0 < (LZ.length:Int):=of_decide_eq_true nM;obtain ⟨aAd,apM,ajC⟩:=Kd.PW (Kd.fK RG.out).2.2 a0 Wq Ws;cases apM;replace Wq:=eq_true Wq;replace Ws:=eq_true Ws));try go_wp2_with (first|((with_reducible refine av (N:=6) rfl ?_);refine Kd.z8 (Kd.int .i64) _ 2 (by rfl) (N:=6) (by rfl) (xs:=([0,707,1000,707,0,(-707),(-1000),(-707),0]:List Int)) (inner:=[Z ab 0,Z ab 707,Z ab 1000,Z ab 707,Z ab 0,Z ab (-707),Z ab (-1000),Z ab (-707),Z ab 0]) (ok:=fun _=>True) (okp:=fun _=>True) fU aBW (fun _ hk=>hk) trivial (Below.refl _ _) (Nat.le_refl _) (by simp) ?_;intro aGI w5 Vx hb Jn oC;clear Jn oC;(first|rw [← YC.out] at Vx|(simp only [Int.reduceToNat] at Vx;rw [← YC.out] at Vx));have I8:=af.mk (Kd.kv Vx (fM gp));replace HB:=dz HB hb;clear hb Vx)|((with_reducible refine av (N:=7) rfl ?_);refine Kd.z8 (Kd.int .i64) _ 2 (by rfl) (N:=7) (by rfl) (xs:=([1000,707,0,(-707),(-1000),(-707),0,707,0]:List Int)) (inner:=[Z ab 1000,Z ab 707,Z ab 0,Z ab (-707),Z ab (-1000),Z ab (-707),Z ab 0,Z ab 707,Z ab 0]) (ok:=fun _=>True) (okp:=fun _=>True) fU aBX (fun _ hk=>hk) trivial (Below.refl _ _) (Nat.le_refl _) (by simp) ?_;intro aGJ w7 YE hb Jn oC;clear Jn oC;(first|rw [← YD.out] at YE|(simp only [Int.reduceToNat] at YE;rw [← YD.out] at YE));have RG:=af.mk (Kd.kv (Kd.Zb YE (Kd.af9 amb)) (fM gp));replace I8:=af.mk (Kd.Js amb (Kd.PV YE) hb);replace HB:=dz HB hb;clear hb YE;obtain ⟨Ao9,co9,eo9⟩:=Kd.lM I8.out;subst eo9;have Wo:0≤(a0:Int):=of_decide_eq_true nM;have Wp:a0 < (M4.length:Int):=of_decide_eq_true nM;obtain ⟨aAc,apK,ajB⟩:=Kd.PW (Kd.fK I8.out).2.2 a0 Wo Wp;cases apK;replace Wo:=eq_true Wo;replace Wp:=eq_true Wp;obtain ⟨aGL,aGM,apL⟩:=Kd.lM RG.out;subst apL;have Wq:0≤(a0:Int):=of_decide_eq_true nM;have Ws:a0 < (LZ.length:Int):=of_decide_eq_true nM;obtain ⟨aAd,apM,ajC⟩:=Kd.PW (Kd.fK RG.out).2.2 a0 Wq Ws;cases apM;replace Wq:=eq_true Wq;replace Ws:=eq_true Ws)))
    go_ret2
    exact ⟨mJ,gp⟩
   ·rw [if_neg c4] at H
    exact absurd H (by simp)
  ·rw [if_neg c3] at H
   exact absurd H (by simp)
 ·rw [if_neg c2] at H
  exact absurd H (by simp)
def iC.f (ai:Int) (aj:Int) (aQ:Int) (aN:Int):Option (Bool):=if ai≤aN then (some (decide (aQ≤aj))) else (some false)
theorem iC.calls (ai:Int) (aj:Int) (aQ:Int) (aN:Int) (r:Bool) (w:ao) (h:iC.f ai aj aQ aN = some r):
 Calls Try.prog 132 #[.agg #[Z ab ai,Z ab aj],.agg #[Z ab aQ,Z ab aN]] w fun e w'=>e = .returned (.bool r)∧Below w.heap.size w w':=by
 have oO:=Try.underlying27
 have HB:=af.mk (Below.refl w.heap.size w)
 have H:(if ai≤aN then (some (decide (aQ≤aj))) else (some false)) = some r:=h
 clear h
 by_cases c3:ai≤aN
 ·rw [if_pos c3] at H
  have yo:decide (ai≤aN) = true:=decide_eq_true c3
  clear c3
  obtain rfl:=bh H
  go_enter Try.func132,Try.ntmps132
  go_wp2_with (first|((with_reducible refine av (N:=2) rfl ?_);refine ak (by rfl) (N:=2) (by rfl) (cs:=#[Z ab ai,Z ab aj]) (t:=27) fU ?_;intro aGN hg w4 ay hb;have JO:=af.mk (ay);have aGO:=bY HB hg;have aGP:=bY HB hg;replace HB:=dz HB hb;clear hb ay hg)|((with_reducible refine av (N:=3) rfl ?_);refine ak (by rfl) (N:=3) (by rfl) (cs:=#[Z ab aQ,Z ab aN]) (t:=27) fU ?_;intro aGQ hg w5 ay hb;have apN:=af.mk (ay);have aGR:=bY HB hg;have aGS:=bY HB hg;have Qz:=fG JO hg;have QA:=fH JO hg;replace JO:=bn JO hb;replace HB:=dz HB hb;clear hb ay hg;have aDn:=Qz.out;have aDo:=QA.out;obtain ⟨wD,wE,wF,wG⟩:=iQ JO.out;obtain ⟨P9,Qa,Qb,Qc⟩:=iQ apN.out))
  go_ret
  exact ⟨mJ,gp⟩
 ·rw [if_neg c3] at H
  have yo:decide (ai≤aN) = false:=decide_eq_false c3
  clear c3
  obtain rfl:=bh H
  go_enter Try.func132,Try.ntmps132
  go_wp2_with (first|((with_reducible refine av (N:=2) rfl ?_);refine ak (by rfl) (N:=2) (by rfl) (cs:=#[Z ab ai,Z ab aj]) (t:=27) fU ?_;intro aGN hg w9 ay hb;have JO:=af.mk (ay);have aGO:=bY HB hg;have aGP:=bY HB hg;replace HB:=dz HB hb;clear hb ay hg)|((with_reducible refine av (N:=3) rfl ?_);refine ak (by rfl) (N:=3) (by rfl) (cs:=#[Z ab aQ,Z ab aN]) (t:=27) fU ?_;intro aGQ hg w10 ay hb;have apN:=af.mk (ay);have aGR:=bY HB hg;have aGS:=bY HB hg;have Qz:=fG JO hg;have QA:=fH JO hg;replace JO:=bn JO hb;replace HB:=dz HB hb;clear hb ay hg;have adj:=Qz.out;have adk:=QA.out;obtain ⟨qa,qb,qc,qd⟩:=iQ JO.out;obtain ⟨sV,sW,sZ,tq⟩:=iQ apN.out))
  go_ret
  exact ⟨mJ,gp⟩
def fw.f (ai:Int) (aj:Int) (az:Int) (aA:Int) (aQ:Int) (aN:Int) (bC:Int) (bD:Int):Option (Bool):=(iC.f ai aj aQ aN).bind fun amR=>(if amR = true then ((iC.f az aA bC bD).bind fun XQ=>(some XQ)) else (some false))
theorem fw.calls (ai:Int) (aj:Int) (az:Int) (aA:Int) (aQ:Int) (aN:Int) (bC:Int) (bD:Int) (r:Bool) (w:ao) (h:fw.f ai aj az aA aQ aN bC bD = some r):
 Calls Try.prog 104 #[.agg #[Z ab ai,Z ab aj,Z ab az,Z ab aA],.agg #[Z ab aQ,Z ab aN,Z ab bC,Z ab bD]] w fun e w'=>e = .returned (.bool r)∧Below w.heap.size w w':=by
 have qj:=Try.underlying31
 have oO:=Try.underlying27
 have HB:=af.mk (Below.refl w.heap.size w)
 have H:((iC.f ai aj aQ aN).bind fun amR=>(if amR = true then ((iC.f az aA bC bD).bind fun XQ=>(some XQ)) else (some false))) = some r:=h
 clear h
 replace H:=Option.bind_eq_some_iff.mp H
 obtain ⟨amR,PS,H⟩:=H
 replace H:(if amR = true then ((iC.f az aA bC bD).bind fun XQ=>(some XQ)) else (some false)) = some r:=H
 have A3:=af.mk PS
 clear PS
 by_cases c4:amR = true
 ·subst c4
  have H1:((iC.f az aA bC bD).bind fun XQ=>(some XQ)) = some r:=by rw [if_pos rfl] at H;exact H
  clear H
  have H:=H1
  clear H1
  replace H:=Option.bind_eq_some_iff.mp H
  obtain ⟨XQ,VW,H⟩:=H
  replace H:(some XQ) = some r:=H
  have A5:=af.mk VW
  clear VW
  obtain rfl:=bh H
  go_enter Try.func104,Try.ntmps104
  go_wp2_with (first|((with_reducible refine av (N:=2) rfl ?_);refine ak (by rfl) (N:=2) (by rfl) (cs:=#[Z ab ai,Z ab aj,Z ab az,Z ab aA]) (t:=31) fU ?_;intro aGT hg w6 ay hb;have yc:=af.mk (ay);have aGU:=bY HB hg;have aGV:=bY HB hg;replace HB:=dz HB hb;clear hb ay hg)|((with_reducible refine av (N:=3) rfl ?_);refine ak (by rfl) (N:=3) (by rfl) (cs:=#[Z ab aQ,Z ab aN,Z ab bC,Z ab bD]) (t:=31) fU ?_;intro aGW hg w7 ay hb;have Mm:=af.mk (ay);have aGX:=bY HB hg;have aGY:=bY HB hg;have QB:=fG yc hg;have QC:=fH yc hg;replace yc:=bn yc hb;replace HB:=dz HB hb;clear hb ay hg;have adp:=QB.out;have adq:=QC.out;obtain ⟨yB,yC,Ic,Ie,yD,yE,Ig,Ih⟩:=jA yc.out;obtain ⟨sP,sQ,NM,NN,sS,sU,NP,NQ⟩:=jA Mm.out)|((with_reducible refine aU (f:=132) rfl ?_);refine dn (some 9) rfl rfl Try.func132 aT rfl #[.agg #[Z ab ai,Z ab aj],.agg #[Z ab aQ,Z ab aN]] rfl jB ?_;(with_reducible refine (iC.calls ai aj aQ aN true _ A3.out).mono ?_);rintro e w11 ⟨rfl,hb⟩;refine ⟨_,rfl,?_⟩;replace yc:=bn yc hb;replace Mm:=bn Mm hb;replace HB:=dz HB hb;(try clear hb);(try clear hb2);(try clear hk);(try clear hi);obtain ⟨qa,qb,Sm,Sn,qc,qd,Sq,Sr⟩:=jA yc.out;obtain ⟨sV,sW,zw,zx,sZ,tq,zy,zz⟩:=jA Mm.out)|(go_at_call 132;(with_reducible refine (iC.calls az aA bC bD XQ _ A5.out).mono ?_);rintro e w14 ⟨rfl,hb⟩;replace yc:=bn yc hb;replace Mm:=bn Mm hb;replace HB:=dz HB hb;(try clear hb);(try clear hb2);(try clear hk);(try clear hi)))
  go_ret
  exact ⟨mJ,gp⟩
 ·replace c4:=Bool.eq_false_iff.mpr c4
  subst c4
  have H1:(some false) = some r:=by rw [if_neg (show ¬ (false = true) by decide)] at H;exact H
  clear H
  have H:=H1
  clear H1
  obtain rfl:=bh H
  go_enter Try.func104,Try.ntmps104
  go_wp2_with (first|((with_reducible refine av (N:=2) rfl ?_);refine ak (by rfl) (N:=2) (by rfl) (cs:=#[Z ab ai,Z ab aj,Z ab az,Z ab aA]) (t:=31) fU ?_;intro aGT hg w15 ay hb;have yc:=af.mk (ay);have aGU:=bY HB hg;have aGV:=bY HB hg;replace HB:=dz HB hb;clear hb ay hg)|((with_reducible refine av (N:=3) rfl ?_);refine ak (by rfl) (N:=3) (by rfl) (cs:=#[Z ab aQ,Z ab aN,Z ab bC,Z ab bD]) (t:=31) fU ?_;intro aGW hg w16 ay hb;have Mm:=af.mk (ay);have aGX:=bY HB hg;have aGY:=bY HB hg;have QB:=fG yc hg;have QC:=fH yc hg;replace yc:=bn yc hb;replace HB:=dz HB hb;clear hb ay hg;have RH:=QB.out;have RI:=QC.out;obtain ⟨Ep,Er,Sz,SA,Es,Et,SB,SC⟩:=jA yc.out;obtain ⟨uR,uS,wL,wM,uT,uU,wN,wO⟩:=jA Mm.out)|((with_reducible refine aU (f:=132) rfl ?_);refine dn (some 9) rfl rfl Try.func132 aT rfl #[.agg #[Z ab ai,Z ab aj],.agg #[Z ab aQ,Z ab aN]] rfl jB ?_;(with_reducible refine (iC.calls ai aj aQ aN false _ A3.out).mono ?_);rintro e Jb ⟨rfl,hb⟩;refine ⟨_,rfl,?_⟩;replace yc:=bn yc hb;replace Mm:=bn Mm hb;replace HB:=dz HB hb;(try clear hb);(try clear hb2);(try clear hk);(try clear hi)))
  go_ret
  exact ⟨mJ,gp⟩
def fP.f (ai:Int) (aj:Int) (aQ:Int) (aN:Int):Option (Int × Int):=some (mn ai aQ,mx aj aN)
theorem fP.calls (ai:Int) (aj:Int) (aQ:Int) (aN:Int) (r1:Int) (r2:Int) (w:ao) (h:fP.f ai aj aQ aN = some (r1,r2)):
 Calls Try.prog 120 #[.agg #[Z ab ai,Z ab aj],.agg #[Z ab aQ,Z ab aN]] w fun e w'=>e = .returned (.agg #[Z ab r1,Z ab r2])∧Below w.heap.size w w':=by
 have oO:=Try.underlying27
 have HB:=af.mk (Below.refl w.heap.size w)
 have H:(some (mn ai aQ,mx aj aN)) = some (r1,r2):=h
 clear h
 obtain ⟨Ck,Jl⟩:∃ j_:Int,(mn ai aQ) = j_:=⟨_,rfl⟩
 replace H:(some (Ck,mx aj aN)) = some (r1,r2):=by first|(rw [Jl] at H;exact H)|(simp only [Jl] at H ⊢;exact H)
 have aow:(if aQ < ai then aQ else ai) = Ck:=Jl
 obtain ⟨SG,P7⟩:∃ j_:Int,(mx aj aN) = j_:=⟨_,rfl⟩
 replace H:(some (Ck,SG)) = some (r1,r2):=by first|(rw [P7] at H;exact H)|(simp only [P7] at H ⊢;exact H)
 have azP:(if aj < aN then aN else aj) = SG:=P7
 simp only [Option.some.injEq,Prod.mk.injEq] at H
 obtain ⟨rfl,rfl⟩:=H
 go_enter Try.func120,Try.ntmps120
 go_wp2_with (first|((with_reducible refine av (N:=2) rfl ?_);refine ak (by rfl) (N:=2) (by rfl) (cs:=#[Z ab ai,Z ab aj]) (t:=27) fU ?_;intro a09 hg w5 ay hb;have OU:=af.mk (ay);have a1a:=bY HB hg;have a1b:=bY HB hg;replace HB:=dz HB hb;clear hb ay hg)|((with_reducible refine av (N:=3) rfl ?_);refine ak (by rfl) (N:=3) (by rfl) (cs:=#[Z ab aQ,Z ab aN]) (t:=27) fU ?_;intro a1c hg w6 ay hb;have aew:=af.mk (ay);have a1d:=bY HB hg;have a1e:=bY HB hg;have amS:=fG OU hg;have amT:=fH OU hg;replace OU:=bn OU hb;replace HB:=dz HB hb;clear hb ay hg)|((with_reducible refine av (N:=4) rfl ?_);refine ak (by rfl) (N:=4) (by rfl) (cs:=#[Z ab 0,Z ab 0]) (t:=27) fU ?_;intro aGZ hg w7 ay hb;have aAe:=af.mk (ay);have a1f:=bY HB hg;have a1g:=bY HB hg;have amU:=fG OU hg;have amV:=fH OU hg;have amW:=fG aew hg;have amX:=fH aew hg;replace OU:=bn OU hb;replace aew:=bn aew hb;replace HB:=dz HB hb;clear hb ay hg;have adp:=amS.out;have adq:=amT.out;have atn:=amU.out;have ato:=amV.out;obtain ⟨sP,sQ,sS,sU⟩:=iQ OU.out;have adj:=amW.out;have adk:=amX.out;obtain ⟨qa,qb,qc,qd⟩:=iQ aew.out;obtain ⟨sV,sW,sZ,tq⟩:=iQ aAe.out))
 refine bodyPost_ret (results_cell_row rfl _ _ aGZ 27 #[Z ab Ck,Z ab SG] (0,0) _ rfl (by (with_reducible repeat (first|refine au ?_ _|refine ag ?_|refine aa ?_ _));refine aK (cs:=#[Z ab Ck,Z ab 0]) ?_ 1 _ rfl;(with_reducible repeat (first|refine au ?_ _|refine ag ?_|refine aa ?_ _));refine aK (cs:=#[Z ab 0,Z ab 0]) ?_ 0 _ rfl;(with_reducible repeat (first|refine au ?_ _|refine ag ?_|refine aa ?_ _));exact aAe.out) Try.underlying27 rfl aT) rfl ?_
 exact ⟨aFl,gp⟩
def ig.f (ai:Int) (aj:Int) (az:Int) (aA:Int) (aI:Int) (aD:Int) (aJ:Int) (aX:List Bool) (aG:List (qK)) (a1:Int):Option (Int × Int × Int × Int):=if ai = 0 then (none) else (some (an ((Int.tmod a1 ai)*az),an ((an ((Int.tmod a1 ai)+1))*az),an ((an (Int.tdiv a1 ai))*az),an ((an ((an (Int.tdiv a1 ai))+1))*az)))
theorem ig.calls (ai:Int) (aj:Int) (az:Int) (aA:Int) (aI:Int) (aD:Int) (aJ:Int) (dY:Option Addr) (dS:Nat) (aX:List Bool) (dV:Option Addr) (dU:Nat) (aG:List (qK)) (a1:Int) (r1:Int) (r2:Int) (r3:Int) (r4:Int) (w:ao) (jC:Kd.C Kd.bool w dY aX.length aX) (jD:aX.length≤dS) (jE:Kd.C Dt w dV aG.length aG) (jF:aG.length≤dU) (h:ig.f ai aj az aA aI aD aJ aX aG a1 = some (r1,r2,r3,r4)):
 Calls Try.prog 42 #[.agg #[Z ab ai,Z ab aj,Z ab az,Z ab aA,Z ab aI,Z ab aD,Z ab aJ,.slice dY aX.length dS,.slice dV aG.length dU],Z ab a1] w fun e w'=>e = .returned (.agg #[Z ab r1,Z ab r2,Z ab r3,Z ab r4])∧Below w.heap.size w w':=by
 have xS:=Try.underlying25
 have qj:=Try.underlying31
 have oO:=Try.underlying27
 have iI:=af.mk jC
 have iO:=af.mk jD
 clear jC jD
 have iB:=af.mk jE
 have iP:=af.mk jF
 clear jE jF
 have HB:=af.mk (Below.refl w.heap.size w)
 have H:(if ai = 0 then (none) else (some (an ((Int.tmod a1 ai)*az),an ((an ((Int.tmod a1 ai)+1))*az),an ((an (Int.tdiv a1 ai))*az),an ((an ((an (Int.tdiv a1 ai))+1))*az)))) = some (r1,r2,r3,r4):=h
 clear h
 by_cases c3:ai = 0
 ·rw [if_pos c3] at H
  exact absurd H (by simp)
 ·rw [if_neg c3] at H
  have yo:(ai == 0) = false:=beq_eq_false_iff_ne.mpr c3
  have JD:(ai != 0) = true:=bne_iff_ne.mpr c3
  simp only [Option.some.injEq,Prod.mk.injEq] at H
  obtain ⟨rfl,rfl,rfl,rfl⟩:=H
  go_enter Try.func42,Try.ntmps42
  go_wp2_with (first|((with_reducible refine av (N:=2) rfl ?_);refine ak (by rfl) (N:=2) (by rfl) (cs:=#[Z ab ai,Z ab aj,Z ab az,Z ab aA,Z ab aI,Z ab aD,Z ab aJ,.slice dY aX.length dS,.slice dV aG.length dU]) (t:=25) fU ?_;intro aAf hg w4 ay hb;have Ai:=af.mk (ay);have aAg:=bY HB hg;have aAh:=bY HB hg;replace HB:=dz HB hb;clear hb ay hg)|((with_reducible refine av (N:=4) rfl ?_);refine ak (by rfl) (N:=4) (by rfl) (cs:=#[Z ab 0,Z ab 0,Z ab 0,Z ab 0]) (t:=31) fU ?_;intro apO hg w5 ay hb;have YF:=af.mk (ay);have aAi:=bY HB hg;have aAj:=bY HB hg;have FO:=fG Ai hg;have FP:=fH Ai hg;replace Ai:=bn Ai hb;replace HB:=dz HB hb;clear hb ay hg;have aDn:=FO.out;have aDo:=FP.out;obtain ⟨wD,wE,Cu,Cv,Fe,Ff,JK,MV,MW,wF,wG,Cw,Cx,Fg,Fh,JL,MX,MZ⟩:=jS Ai.out;obtain ⟨P9,Qa,agJ,agK,Qb,Qc,agL,agM⟩:=jA YF.out))
  repeat (go_quiet (first|((with_reducible refine av (N:=2) rfl ?_);refine ak (by rfl) (N:=2) (by rfl) (cs:=#[Z ab ai,Z ab aj,Z ab az,Z ab aA,Z ab aI,Z ab aD,Z ab aJ,.slice dY aX.length dS,.slice dV aG.length dU]) (t:=25) fU ?_;intro aAf hg w4 ay hb;have Ai:=af.mk (ay);have aAg:=bY HB hg;have aAh:=bY HB hg;replace HB:=dz HB hb;clear hb ay hg)|((with_reducible refine av (N:=4) rfl ?_);refine ak (by rfl) (N:=4) (by rfl) (cs:=#[Z ab 0,Z ab 0,Z ab 0,Z ab 0]) (t:=31) fU ?_;intro apO hg w5 ay hb;have YF:=af.mk (ay);have aAi:=bY HB hg;have aAj:=bY HB hg;have FO:=fG Ai hg;have FP:=fH Ai hg;replace Ai:=bn Ai hb;replace HB:=dz HB hb;clear hb ay hg;have aDn:=FO.out;have aDo:=FP.out;obtain ⟨wD,wE,Cu,Cv,Fe,Ff,JK,MV,MW,wF,wG,Cw,Cx,Fg,Fh,JL,MX,MZ⟩:=jS Ai.out;obtain ⟨P9,Qa,agJ,agK,Qb,Qc,agL,agM⟩:=jA YF.out));try go_wp2_with (first|((with_reducible refine av (N:=2) rfl ?_);refine ak (by rfl) (N:=2) (by rfl) (cs:=#[Z ab ai,Z ab aj,Z ab az,Z ab aA,Z ab aI,Z ab aD,Z ab aJ,.slice dY aX.length dS,.slice dV aG.length dU]) (t:=25) fU ?_;intro aAf hg w4 ay hb;have Ai:=af.mk (ay);have aAg:=bY HB hg;have aAh:=bY HB hg;replace HB:=dz HB hb;clear hb ay hg)|((with_reducible refine av (N:=4) rfl ?_);refine ak (by rfl) (N:=4) (by rfl) (cs:=#[Z ab 0,Z ab 0,Z ab 0,Z ab 0]) (t:=31) fU ?_;intro apO hg w5 ay hb;have YF:=af.mk (ay);have aAi:=bY HB hg;have aAj:=bY HB hg;have FO:=fG Ai hg;have FP:=fH Ai hg;replace Ai:=bn Ai hb;replace HB:=dz HB hb;clear hb ay hg;have aDn:=FO.out;have aDo:=FP.out;obtain ⟨wD,wE,Cu,Cv,Fe,Ff,JK,MV,MW,wF,wG,Cw,Cx,Fg,Fh,JL,MX,MZ⟩:=jS Ai.out;obtain ⟨P9,Qa,agJ,agK,Qb,Qc,agL,agM⟩:=jA YF.out)))
  refine bodyPost_ret (results_cell_row rfl _ _ apO 31 #[Z ab (an ((Int.tmod a1 ai)*az)),Z ab (an ((an ((Int.tmod a1 ai)+1))*az)),Z ab (an ((an (Int.tdiv a1 ai))*az)),Z ab (an ((an ((an (Int.tdiv a1 ai))+1))*az))] (0,0) _ rfl (by (with_reducible repeat (first|refine au ?_ _|refine ag ?_|refine aa ?_ _));refine aK (cs:=#[Z ab (an ((Int.tmod a1 ai)*az)),Z ab (an ((an ((Int.tmod a1 ai)+1))*az)),Z ab (an ((an (Int.tdiv a1 ai))*az)),Z ab 0]) ?_ 3 _ rfl;(with_reducible repeat (first|refine au ?_ _|refine ag ?_|refine aa ?_ _));refine aK (cs:=#[Z ab (an ((Int.tmod a1 ai)*az)),Z ab (an ((an ((Int.tmod a1 ai)+1))*az)),Z ab 0,Z ab 0]) ?_ 2 _ rfl;(with_reducible repeat (first|refine au ?_ _|refine ag ?_|refine aa ?_ _));refine aK (cs:=#[Z ab (an ((Int.tmod a1 ai)*az)),Z ab 0,Z ab 0,Z ab 0]) ?_ 1 _ rfl;(with_reducible repeat (first|refine au ?_ _|refine ag ?_|refine aa ?_ _));refine aK (cs:=#[Z ab 0,Z ab 0,Z ab 0,Z ab 0]) ?_ 0 _ rfl;(with_reducible repeat (first|refine au ?_ _|refine ag ?_|refine aa ?_ _));exact YF.out) Try.underlying31 rfl aT) rfl ?_
  exact ⟨mJ,gp⟩
end Go.Proofs.Ytmhaiihjfgfaoaa.Pr
end
