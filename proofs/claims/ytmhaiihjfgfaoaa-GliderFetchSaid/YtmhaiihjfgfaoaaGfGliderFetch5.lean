import Derived.Test.YtmhaiihjfgfaoaaGfGliderFetch3
import Derived.Test.YtmhaiihjfgfaoaaGfGliderFetch4
set_option linter.unusedVariables false
set_option linter.unusedSimpArgs false
open Go.Value renaming int → U
open Go.IntKind renaming i64 → Z
open Bool renaming true → ab, false → ac
section
namespace Go.Proofs.Ytmhaiihjfgfaoaa.Pr
open Go.RowKit Go.Proofs.YtmhaiihjfgfaoaaW.PrintWords Go.Proofs.YtmhaiihjfgfaoaaW.PrintLast Go.Proofs.YtmhaiihjfgfaoaaW.PrintMore
attribute [local go_sem] gp gq iA iB gu
set_option linter.unusedVariables false
set_option linter.unusedSimpArgs false
mutual
def az.j0:Nat→Bool→Int→Int→Int→Int→Int→Int→Int→List Bool→List (rq)→Option (Int)
 |0,_,_,_,_,_,_,_,_,_,_=>none
 |k+1,x71,EZ,E5,La,Lb,IQ,IU,Bl,IV,wP=>if x71 = true then (some 2) else (if (IV.length:Int) = (wrap64 (EZ*E5)) then (az.j1 k ((wP.length:Int) != (wrap64 ((wrap64 ((wrap64 (IQ*IU))*EZ))*E5))) EZ E5 La Lb IQ IU Bl IV wP) else (az.j1 k true EZ E5 La Lb IQ IU Bl IV wP))
def az.j1:Nat→Bool→Int→Int→Int→Int→Int→Int→Int→List Bool→List (rq)→Option (Int)
 |0,_,_,_,_,_,_,_,_,_,_=>none
 |k+1,x97,EZ,E5,La,Lb,IQ,IU,Bl,IV,wP=>if x97 = true then (some 2) else (az.l0 k 0 EZ E5 La Lb IQ IU Bl IV wP)
def az.l0:Nat→Int→Int→Int→Int→Int→Int→Int→Int→List Bool→List (rq)→Option (Int)
 |0,_,_,_,_,_,_,_,_,_,_=>none
 |k+1,x3,EZ,E5,La,Lb,IQ,IU,Bl,IV,wP=>if x3 < (wP.length:Int) then (if 0≤x3 then ((bK.f ((ay wP x3).f0.f0) ((ay wP x3).f0.f1) (wrap64 (-Bl)) Bl).bind fun t109=>(if t109 = true then ((bK.f ((ay wP x3).f1.f0) ((ay wP x3).f1.f1) (wrap64 (-Bl)) Bl).bind fun t111=>(if t111 = true then (az.l0 k (wrap64 (x3+1)) EZ E5 La Lb IQ IU Bl IV wP) else (some 2))) else (some 2))) else (none)) else (some 0)
end
def az.f (k:Nat) (ai:Int) (aj:Int) (aC:Int) (aD:Int) (aJ:Int) (aH:Int) (aK:Int) (aT:List Bool) (ak:List (rq)):Option (Int):=if ai < 1 then (az.j0 k true ai aj aC aD aJ aH aK aT ak) else (if ai > 12 then (az.j0 k true ai aj aC aD aJ aH aK aT ak) else (if aj < 1 then (az.j0 k true ai aj aC aD aJ aH aK aT ak) else (if aj > 12 then (az.j0 k true ai aj aC aD aJ aH aK aT ak) else (if aC < 100 then (az.j0 k true ai aj aC aD aJ aH aK aT ak) else (if aC > 65536 then (az.j0 k true ai aj aC aD aJ aH aK aT ak) else (if aD < 1 then (az.j0 k true ai aj aC aD aJ aH aK aT ak) else (if aD > 1048576 then (az.j0 k true ai aj aC aD aJ aH aK aT ak) else (if aJ < 1 then (az.j0 k true ai aj aC aD aJ aH aK aT ak) else (if aJ > 16 then (az.j0 k true ai aj aC aD aJ aH aK aT ak) else (if aH < 1 then (az.j0 k true ai aj aC aD aJ aH aK aT ak) else (if aH > 3 then (az.j0 k true ai aj aC aD aJ aH aK aT ak) else (if aK < 0 then (az.j0 k true ai aj aC aD aJ aH aK aT ak) else (az.j0 k (decide (aK > 5000)) ai aj aC aD aJ aH aK aT ak)))))))))))))
def az.T8:Bool × List (List Nat × List Nat):=(true,[([],[]),([0],[0]),([],[]),([1,2],[1,2]),([3],[3]),([4],[4]),([],[]),([6],[6]),([7],[7]),([],[]),([9],[9]),([5,8,10],[5,8,10]),([11],[11]),([12,11],[12]),([13],[13]),([14,13],[13,14]),([13],[13]),([15,16,13],[13,15,16]),([17,13],[13,17]),([18,13],[13,18]),([13],[13]),([20,13],[13,20]),([21,13],[13,21]),([13],[13]),([23,13],[13,23]),([19,22,24,13,13],[13,19,22,24]),([25,13],[13,25]),([13,26],[13,26])])
def az.B8:List Nat:=[0,1,0,7,15,31,0,64,192,0,512,2047,4095,8191,16383,32767,16383,131071,262143,524287,16383,1064959,3162111,16383,8404991,33554431,67108863,134217727]
theorem az.aoC:qA .any (opsOf Try.f26 8) = az.T8:=by kernel_rfl
theorem az.acU:mI az.T8.2 az.B8 = true:=by kernel_rfl
set_option maxHeartbeats 8000000 in
set_option maxRecDepth 100000 in
theorem az.calls (k:Nat) (ai:Int) (aj:Int) (aC:Int) (aD:Int) (aJ:Int) (aH:Int) (aK:Int) (dW:Option Addr) (dN:Nat) (aT:List Bool) (dZ:Option Addr) (dO:Nat) (ak:List (rq)) (r:Int) (w:World) (jT:Kd.C Kd.bool w dW aT.length aT) (jU:aT.length≤dN) (jV:Kd.C GI w dZ ak.length ak) (jW:ak.length≤dO) (h:az.f k ai aj aC aD aJ aH aK aT ak = some r):
 Calls Try.prog 26 #[.agg #[U Z ai,U Z aj,U Z aC,U Z aD,U Z aJ,U Z aH,U Z aK,.slice dW aT.length dN,.slice dZ ak.length dO]] w fun e w'=>e = .returned (U Z r)∧Below w.heap.size w w':=by
 have BV:=Try.underlying25
 have pz:=Try.underlying27
 have ik:=aa.mk jT
 have iC:=aa.mk jU
 clear jT jU
 have gN:=aa.mk jV
 have iD:=aa.mk jW
 clear jV jW
 have HB:=aa.mk (Below.refl w.heap.size w)
 have H:(if ai < 1 then (az.j0 k true ai aj aC aD aJ aH aK aT ak) else (if ai > 12 then (az.j0 k true ai aj aC aD aJ aH aK aT ak) else (if aj < 1 then (az.j0 k true ai aj aC aD aJ aH aK aT ak) else (if aj > 12 then (az.j0 k true ai aj aC aD aJ aH aK aT ak) else (if aC < 100 then (az.j0 k true ai aj aC aD aJ aH aK aT ak) else (if aC > 65536 then (az.j0 k true ai aj aC aD aJ aH aK aT ak) else (if aD < 1 then (az.j0 k true ai aj aC aD aJ aH aK aT ak) else (if aD > 1048576 then (az.j0 k true ai aj aC aD aJ aH aK aT ak) else (if aJ < 1 then (az.j0 k true ai aj aC aD aJ aH aK aT ak) else (if aJ > 16 then (az.j0 k true ai aj aC aD aJ aH aK aT ak) else (if aH < 1 then (az.j0 k true ai aj aC aD aJ aH aK aT ak) else (if aH > 3 then (az.j0 k true ai aj aC aD aJ aH aK aT ak) else (if aK < 0 then (az.j0 k true ai aj aC aD aJ aH aK aT ak) else (az.j0 k (decide (aK > 5000)) ai aj aC aD aJ aH aK aT ak)))))))))))))) = some r:=h
 clear h
 have HC2:=aa.mk H
 clear H
 go_enter Try.func26,Try.ntmps26
 go_upto_region 1 with (first|((with_reducible refine aA (N:=1) rfl ?_);(try (refine oW (by rfl) ?_;dsimp only));refine au (by rfl) (N:=1) (by rfl) (cs:=#[U Z ai,U Z aj,U Z aC,U Z aD,U Z aJ,U Z aH,U Z aK,.slice dW aT.length dN,.slice dZ ak.length dO]) (t:=25) fG ?_;intro pI hg w3 hbox hb;have kJ:=aa.mk (hbox);have a5K:=bS HB hg;have a5L:=bS HB hg;replace HB:=cO HB hb;clear hb hbox hg))
 (try simp only [Act.put,List.setIfInBounds_toArray,List.set_cons_zero,List.set_cons_succ])
 go_cut [71] (fun v71 wc=>∃ (kq:Nat) (aja:Bool),v71 = .bool aja∧aa (az.j0 kq aja ai aj aC aD aJ aH aK aT ak = some r)∧aa (kq≤k)∧aa (wc.heap[pI]? = some (.cells #[U Z ai,U Z aj,U Z aC,U Z aD,U Z aJ,U Z aH,U Z aK,(.slice dW aT.length dN),(.slice dZ ak.length dO)] 25 (0,0)))∧aa (Below w.heap.size w wc))
 case first =>
  have H:=HC2.out
  clear HC2
  by_cases c4:ai < 1
  ·rw [if_pos c4] at H
   have tN:decide (ai < 1) = true:=decide_eq_true c4
   clear c4
   (first|rw [tN]|(simp only [ib,ig];rw [tN])|skip)
   have H':=aa.mk H
   clear H
   obtain ⟨aeW,aeX,aeY,aeZ,ae0,ae1,ae2,ae3,ae4,ae5,ae6,ae7,ae8,ae9,afa,afb,afc,afd⟩:=jA kJ.out
   go_wp2
   go_meet
   case rel=>exact ⟨_,(true),nM,H',⟨zq7⟩,⟨gB⟩,⟨gL⟩⟩
  ·rw [if_neg c4] at H
   have tN:decide (ai < 1) = false:=decide_eq_false c4
   clear c4
   (first|rw [tN]|(simp only [ib,ig];rw [tN])|skip)
   by_cases c6:ai > 12
   ·rw [if_pos c6] at H
    have GX:decide (12 < ai) = true:=decide_eq_true c6
    clear c6
    have H':=aa.mk H
    clear H
    obtain ⟨zA,zB,Fg,Fh,Hm,Ho,Mr,PM,PN,zC,zD,Fj,Fp,Hq,Hr,Ms,PO,PQ⟩:=jA kJ.out
    go_wp2
    go_meet
    case rel=>exact ⟨_,(true),nM,H',⟨zq7⟩,⟨gB⟩,⟨gL⟩⟩
   ·rw [if_neg c6] at H
    have GX:decide (12 < ai) = false:=decide_eq_false c6
    clear c6
    by_cases c8:aj < 1
    ·rw [if_pos c8] at H
     have Lf:decide (aj < 1) = true:=decide_eq_true c8
     clear c8
     have H':=aa.mk H
     clear H
     obtain ⟨zu,zw,G8,G9,Pw,Px,Xp,Xq,Xr,zx,zy,Ha,Hd,Py,Pz,Xt,Xu,Xv⟩:=jA kJ.out
     go_wp2
     go_meet
     case rel=>exact ⟨_,(true),nM,H',⟨zq7⟩,⟨gB⟩,⟨gL⟩⟩
    ·rw [if_neg c8] at H
     have Lf:decide (aj < 1) = false:=decide_eq_false c8
     clear c8
     by_cases c10:aj > 12
     ·rw [if_pos c10] at H
      have Ea:decide (12 < aj) = true:=decide_eq_true c10
      clear c10
      have H':=aa.mk H
      clear H
      obtain ⟨uk,um,xJ,xK,Ci,Cj,GZ,Rn,Ro,uo,uq,xL,xM,Ck,Cm,G5,Rp,Rq⟩:=jA kJ.out
      go_wp2
      go_meet
      case rel=>exact ⟨_,(true),nM,H',⟨zq7⟩,⟨gB⟩,⟨gL⟩⟩
     ·rw [if_neg c10] at H
      have Ea:decide (12 < aj) = false:=decide_eq_false c10
      clear c10
      by_cases c12:aC < 100
      ·rw [if_pos c12] at H
       have Wl:decide (aC < 100) = true:=decide_eq_true c12
       clear c12
       have H':=aa.mk H
       clear H
       obtain ⟨ug,uh,Aw,Ay,Ht,Hu,OZ,aai,aaj,ui,uj,Az,AA,Hw,Hy,O0,aak,aal⟩:=jA kJ.out
       go_wp2
       go_meet
       case rel=>exact ⟨_,(true),nM,H',⟨zq7⟩,⟨gB⟩,⟨gL⟩⟩
      ·rw [if_neg c12] at H
       have Wl:decide (aC < 100) = false:=decide_eq_false c12
       clear c12
       by_cases c14:aC > 65536
       ·rw [if_pos c14] at H
        have ajb:decide (65536 < aC) = true:=decide_eq_true c14
        clear c14
        have H':=aa.mk H
        clear H
        obtain ⟨oL,oM,sP,sQ,uC,uD,AV,Cw,Cx,oN,oO,sS,sU,uE,uF,AX,Cy,Cz⟩:=jA kJ.out
        go_wp2
        go_meet
        case rel=>exact ⟨_,(true),nM,H',⟨zq7⟩,⟨gB⟩,⟨gL⟩⟩
       ·rw [if_neg c14] at H
        have ajb:decide (65536 < aC) = false:=decide_eq_false c14
        clear c14
        by_cases c16:aD < 1
        ·rw [if_pos c16] at H
         have Eb:decide (aD < 1) = true:=decide_eq_true c16
         clear c16
         have H':=aa.mk H
         clear H
         obtain ⟨uy,uz,xY,xZ,Ei,Ej,JV,Rs,Rt,uA,uB,yc,yf,El,Em,JW,Ru,Rv⟩:=jA kJ.out
         go_wp2
         go_meet
         case rel=>exact ⟨_,(true),nM,H',⟨zq7⟩,⟨gB⟩,⟨gL⟩⟩
        ·rw [if_neg c16] at H
         have Eb:decide (aD < 1) = false:=decide_eq_false c16
         clear c16
         by_cases c18:aD > 1048576
         ·rw [if_pos c18] at H
          have QV:decide (1048576 < aD) = true:=decide_eq_true c18
          clear c18
          have H':=aa.mk H
          clear H
          obtain ⟨vU,vV,yg,yh,Cs,Ct,He,Rw,Rx,vW,vX,yj,yl,Cu,Cv,Hf,Ry,Rz⟩:=jA kJ.out
          go_wp2
          go_meet
          case rel=>exact ⟨_,(true),nM,H',⟨zq7⟩,⟨gB⟩,⟨gL⟩⟩
         ·rw [if_neg c18] at H
          have QV:decide (1048576 < aD) = false:=decide_eq_false c18
          clear c18
          by_cases c20:aJ < 1
          ·rw [if_pos c20] at H
           have WJ:decide (aJ < 1) = true:=decide_eq_true c20
           clear c20
           have H':=aa.mk H
           clear H
           obtain ⟨xO,xP,Kz,KA,KC,KD,KE,Tn,Tp,xQ,xR,KF,KG,KH,KI,KJ,Tq,Tt⟩:=jA kJ.out
           go_wp2
           go_meet
           case rel=>exact ⟨_,(true),nM,H',⟨zq7⟩,⟨gB⟩,⟨gL⟩⟩
          ·rw [if_neg c20] at H
           have WJ:decide (aJ < 1) = false:=decide_eq_false c20
           clear c20
           by_cases XL:aJ > 16
           ·rw [if_pos XL] at H
            have ajc:decide (16 < aJ) = true:=decide_eq_true XL
            clear XL
            have H':=aa.mk H
            clear H
            obtain ⟨Ce,Cf,Ip,Iq,Ir,Iu,KL,Om,Oo,Cg,Ch,Iw,Iy,Iz,IA,KM,Oq,Ot⟩:=jA kJ.out
            go_wp2
            go_meet
            case rel=>exact ⟨_,(true),nM,H',⟨zq7⟩,⟨gB⟩,⟨gL⟩⟩
           ·rw [if_neg XL] at H
            have ajc:decide (16 < aJ) = false:=decide_eq_false XL
            clear XL
            by_cases c24:aH < 1
            ·rw [if_pos c24] at H
             have ajd:decide (aH < 1) = true:=decide_eq_true c24
             clear c24
             have H':=aa.mk H
             clear H
             obtain ⟨Bc,Bd,Ez,EA,Kr,Kt,Ku,R9,Sa,Be,Bf,EB,EC,Kv,Kw,Ky,Sb,Sc⟩:=jA kJ.out
             go_wp2
             go_meet
             case rel=>exact ⟨_,(true),nM,H',⟨zq7⟩,⟨gB⟩,⟨gL⟩⟩
            ·rw [if_neg c24] at H
             have ajd:decide (aH < 1) = false:=decide_eq_false c24
             clear c24
             by_cases RP:aH > 3
             ·rw [if_pos RP] at H
              have We:decide (3 < aH) = true:=decide_eq_true RP
              clear RP
              have H':=aa.mk H
              clear H
              obtain ⟨CB,CE,CF,CG,EM,EN,EO,aam,aan,CJ,CK,CL,CO,EP,ER,ES,aao,aap⟩:=jA kJ.out
              go_wp2
              go_meet
              case rel=>exact ⟨_,(true),nM,H',⟨zq7⟩,⟨gB⟩,⟨gL⟩⟩
             ·rw [if_neg RP] at H
              have We:decide (3 < aH) = false:=decide_eq_false RP
              clear RP
              by_cases c28:aK < 0
              ·rw [if_pos c28] at H
               have aje:decide (aK < 0) = true:=decide_eq_true c28
               clear c28
               have H':=aa.mk H
               clear H
               obtain ⟨vZ,wh,AB,AJ,CP,CQ,CR,Sk,Sl,wm,wo,AL,AO,CS,CU,CV,Sm,Sn⟩:=jA kJ.out
               go_wp2
               go_meet
               case rel=>exact ⟨_,(true),nM,H',⟨zq7⟩,⟨gB⟩,⟨gL⟩⟩
              ·rw [if_neg c28] at H
               have aje:decide (aK < 0) = false:=decide_eq_false c28
               clear c28
               have H':=aa.mk H
               clear H
               obtain ⟨ED,EE,Ig,Ih,NI,NJ,NK,aaq,aar,EF,EG,Ii,Ij,NL,NM,NN,aas,aat⟩:=jA kJ.out
               go_wp2
               go_meet
               case rel=>exact ⟨_,(decide (aK > 5000)),nM,H',⟨zq7⟩,⟨gB⟩,⟨gL⟩⟩
 case rest =>
  clear HC2
  try clear c1
  try clear c2
  try clear p2
  try clear c4
  try clear tN
  try clear c6
  try clear GX
  try clear c8
  try clear Lf
  try clear c10
  try clear Ea
  try clear c12
  try clear Wl
  try clear c14
  try clear ajb
  try clear c16
  try clear Eb
  try clear c18
  try clear QV
  try clear c20
  try clear WJ
  try clear XL
  try clear ajc
  try clear c24
  try clear ajd
  try clear RP
  try clear We
  try clear c28
  try clear aje
  try clear uk um xJ xK Ci Cj GZ Rn Ro
  try clear ug uh Aw Ay Ht Hu OZ aai aaj
  try clear oL oM sP sQ uC uD AV Cw Cx
  try clear uy uz xY xZ Ei Ej JV Rs Rt
  try clear vU vV yg yh Cs Ct He Rw Rx
  try clear xO xP Kz KA KC KD KE Tn Tp
  try clear Ce Cf Ip Iq Ir Iu KL Om Oo
  try clear Bc Bd Ez EA Kr Kt Ku R9 Sa
  try clear CB CE CF CG EM EN EO aam aan
  try clear vZ wh AB AJ CP CQ CR Sk Sl
  try clear ED EE Ig Ih NI NJ NK aaq aar
  try clear aeW aeX aeY aeZ ae0 ae1 ae2 ae3 ae4
  try clear zA zB Fg Fh Hm Ho Mr PM PN
  try clear zu zw G8 G9 Pw Px Xp Xq Xr
  try clear uo uq xL xM Ck Cm G5 Rp Rq
  try clear ui uj Az AA Hw Hy O0 aak aal
  try clear oN oO sS sU uE uF AX Cy Cz
  try clear uA uB yc yf El Em JW Ru Rv
  try clear vW vX yj yl Cu Cv Hf Ry Rz
  try clear xQ xR KF KG KH KI KJ Tq Tt
  try clear Cg Ch Iw Iy Iz IA KM Oq Ot
  try clear Be Bf EB EC Kv Kw Ky Sb Sc
  try clear CJ CK CL CO EP ER ES aao aap
  try clear wm wo AL AO CS CU CV Sm Sn
  try clear EF EG Ii Ij NL NM NN aas aat
  try clear ae5 ae6 ae7 ae8 ae9 afa afb afc afd
  try clear zC zD Fj Fp Hq Hr Ms PO PQ
  try clear zx zy Ha Hd Py Pz Xt Xu Xv
  obtain ⟨kq,aja,rfl,HA,HJ1,kJ,HB⟩:=hcut
  cases kq with
  |zero=>exact absurd HA.out (by simp [az.j0])
  |succ kj1 =>
   have H:=HA.out
   clear HA
   simp only [az.j0] at H
   by_cases c31:aja = true
   ·subst c31
    have H1:(some 2) = some r:=by rw [if_pos rfl] at H;exact H
    clear H
    have H:=H1
    clear H1
    obtain rfl:=Option.some.inj H
    go_wp2
    go_ret
    exact ⟨lW,gL⟩
   ·replace c31:=Bool.eq_false_iff.mpr c31
    subst c31
    have H1:(if (aT.length:Int) = (wrap64 (ai*aj)) then (az.j1 kj1 ((ak.length:Int) != (wrap64 ((wrap64 ((wrap64 (aJ*aH))*ai))*aj))) ai aj aC aD aJ aH aK aT ak) else (az.j1 kj1 true ai aj aC aD aJ aH aK aT ak)) = some r:=by rw [if_neg (show ¬ (false = true) by decide)] at H;exact H
    clear H
    have H:=H1
    clear H1
    have aAy:=aa.mk H
    clear H
    go_upto_region 3 with (fail)
    go_cut [97] (fun v97 wc=>∃ (kq:Nat) (aau:Bool),v97 = .bool aau∧aa (az.j1 kq aau ai aj aC aD aJ aH aK aT ak = some r)∧aa (kq≤kj1)∧aa (wc.heap[pI]? = some (.cells #[U Z ai,U Z aj,U Z aC,U Z aD,U Z aJ,U Z aH,U Z aK,(.slice dW aT.length dN),(.slice dZ ak.length dO)] 25 (0,0)))∧aa (Below w.heap.size w wc))
    case first =>
     have H:=aAy.out
     clear aAy
     by_cases c33:(aT.length:Int) = (wrap64 (ai*aj))
     ·rw [if_pos c33] at H
      have UW:((aT.length:Int) == (wrap64 (ai*aj))) = true:=beq_iff_eq.mpr c33
      have apu:((aT.length:Int) != (wrap64 (ai*aj))) = false:=bne_eq_false_iff_eq.mpr c33
      clear c33
      (first|rw [UW]|(simp only [ib,ig];rw [UW])|skip)
      have H':=aa.mk H
      clear H
      obtain ⟨EH,EI,NP,NQ,Sw,Sy,Sz,ajf,ajg,EJ,EK,NR,NS,SA,SB,SC,ajh,aji⟩:=jA kJ.out
      go_wp2
      go_meet
      case rel=>exact ⟨_,(((ak.length:Int) != (wrap64 ((wrap64 ((wrap64 (aJ*aH))*ai))*aj)))),nM,H',⟨by have:=HJ1.out;first|omega|exact Nat.le_refl _⟩,⟨gB⟩,⟨gL⟩⟩
     ·rw [if_neg c33] at H
      have UW:((aT.length:Int) == (wrap64 (ai*aj))) = false:=beq_eq_false_iff_ne.mpr c33
      have apu:((aT.length:Int) != (wrap64 (ai*aj))) = true:=bne_iff_ne.mpr c33
      (first|rw [UW]|(simp only [ib,ig];rw [UW])|skip)
      have H':=aa.mk H
      clear H
      obtain ⟨D6,D7,JL,JM,Tu,Tv,Tw,ajj,ajk,D8,D9,JN,JO,Tx,Ty,Tz,ajl,ajm⟩:=jA kJ.out
      go_wp2
      go_meet
      case rel=>exact ⟨_,(true),nM,H',⟨by have:=HJ1.out;first|omega|exact Nat.le_refl _⟩,⟨gB⟩,⟨gL⟩⟩
    case rest =>
     clear aAy
     try clear c1
     try clear c2
     try clear p2
     try clear c3
     try clear c4
     try clear tN
     try clear c6
     try clear GX
     try clear p6
     try clear c8
     try clear Lf
     try clear c10
     try clear Ea
     try clear c12
     try clear Wl
     try clear c14
     try clear ajb
     try clear c16
     try clear Eb
     try clear c18
     try clear QV
     try clear c20
     try clear WJ
     try clear XL
     try clear ajc
     try clear c24
     try clear ajd
     try clear RP
     try clear We
     try clear c28
     try clear aje
     try clear c31
     try clear c33
     try clear UW
     try clear apu
     try clear uk um xJ xK Ci Cj GZ Rn Ro
     try clear ug uh Aw Ay Ht Hu OZ aai aaj
     try clear oL oM sP sQ uC uD AV Cw Cx
     try clear uy uz xY xZ Ei Ej JV Rs Rt
     try clear vU vV yg yh Cs Ct He Rw Rx
     try clear xO xP Kz KA KC KD KE Tn Tp
     try clear Ce Cf Ip Iq Ir Iu KL Om Oo
     try clear Bc Bd Ez EA Kr Kt Ku R9 Sa
     try clear CB CE CF CG EM EN EO aam aan
     try clear vZ wh AB AJ CP CQ CR Sk Sl
     try clear ED EE Ig Ih NI NJ NK aaq aar
     try clear EH EI NP NQ Sw Sy Sz ajf ajg
     try clear D6 D7 JL JM Tu Tv Tw ajj ajk
     try clear aeW aeX aeY aeZ ae0 ae1 ae2 ae3 ae4
     try clear zA zB Fg Fh Hm Ho Mr PM PN
     try clear zu zw G8 G9 Pw Px Xp Xq Xr
     try clear uo uq xL xM Ck Cm G5 Rp Rq
     try clear ui uj Az AA Hw Hy O0 aak aal
     try clear oN oO sS sU uE uF AX Cy Cz
     try clear uA uB yc yf El Em JW Ru Rv
     try clear vW vX yj yl Cu Cv Hf Ry Rz
     try clear xQ xR KF KG KH KI KJ Tq Tt
     try clear Cg Ch Iw Iy Iz IA KM Oq Ot
     try clear Be Bf EB EC Kv Kw Ky Sb Sc
     try clear CJ CK CL CO EP ER ES aao aap
     try clear wm wo AL AO CS CU CV Sm Sn
     try clear EF EG Ii Ij NL NM NN aas aat
     try clear EJ EK NR NS SA SB SC ajh aji
     try clear D8 D9 JN JO Tx Ty Tz ajl ajm
     try clear ae5 ae6 ae7 ae8 ae9 afa afb afc afd
     try clear zC zD Fj Fp Hq Hr Ms PO PQ
     try clear zx zy Ha Hd Py Pz Xt Xu Xv
     try clear p2
     obtain ⟨kq,aau,rfl,HA,aOk,kJ,HB⟩:=hcut
     cases kq with
     |zero=>exact absurd HA.out (by simp [az.j1])
     |succ aAz =>
      have H:=HA.out
      clear HA
      simp only [az.j1] at H
      by_cases c36:aau = true
      ·subst c36
       have H1:(some 2) = some r:=by rw [if_pos rfl] at H;exact H
       clear H
       have H:=H1
       clear H1
       obtain rfl:=Option.some.inj H
       go_wp2
       go_ret
       exact ⟨lW,gL⟩
      ·replace c36:=Bool.eq_false_iff.mpr c36
       subst c36
       have H1:(az.l0 aAz 0 ai aj aC aD aJ aH aK aT ak) = some r:=by rw [if_neg (show ¬ (false = true) by decide)] at H;exact H
       clear H
       have H:=H1
       clear H1
       have H':=aa.mk H
       clear H
       go_wp2
       go_loopg [3] aAz (fun kq v3 w'=>∃ (iP:Int),v3 = U Z iP∧aa (az.l0 kq iP ai aj aC aD aJ aH aK aT ak = some r)∧aa (kq≤aAz)∧aa (w'.heap[pI]? = some (.cells #[U Z ai,U Z aj,U Z aC,U Z aD,U Z aJ,U Z aH,U Z aK,(.slice dW aT.length dN),(.slice dZ ak.length dO)] 25 (0,0)))∧aa (Below w.heap.size w w'))
       case atStart=>exact ⟨(0),nM,H',⟨Nat.le_refl _⟩,⟨gB⟩,⟨gL⟩⟩
       case round =>
        clear H'
        try clear c1
        try clear c2
        try clear p2
        try clear c3
        try clear c4
        try clear tN
        try clear c6
        try clear GX
        try clear p6
        try clear c8
        try clear Lf
        try clear c10
        try clear Ea
        try clear c12
        try clear Wl
        try clear c14
        try clear ajb
        try clear c16
        try clear Eb
        try clear c18
        try clear QV
        try clear c20
        try clear WJ
        try clear XL
        try clear ajc
        try clear c24
        try clear ajd
        try clear RP
        try clear We
        try clear c28
        try clear aje
        try clear c31
        try clear c33
        try clear UW
        try clear apu
        try clear c36
        try clear uk um xJ xK Ci Cj GZ Rn Ro
        try clear ug uh Aw Ay Ht Hu OZ aai aaj
        try clear oL oM sP sQ uC uD AV Cw Cx
        try clear uy uz xY xZ Ei Ej JV Rs Rt
        try clear vU vV yg yh Cs Ct He Rw Rx
        try clear xO xP Kz KA KC KD KE Tn Tp
        try clear Ce Cf Ip Iq Ir Iu KL Om Oo
        try clear Bc Bd Ez EA Kr Kt Ku R9 Sa
        try clear CB CE CF CG EM EN EO aam aan
        try clear vZ wh AB AJ CP CQ CR Sk Sl
        try clear ED EE Ig Ih NI NJ NK aaq aar
        try clear EH EI NP NQ Sw Sy Sz ajf ajg
        try clear D6 D7 JL JM Tu Tv Tw ajj ajk
        try clear aeW aeX aeY aeZ ae0 ae1 ae2 ae3 ae4
        try clear zA zB Fg Fh Hm Ho Mr PM PN
        try clear zu zw G8 G9 Pw Px Xp Xq Xr
        try clear uo uq xL xM Ck Cm G5 Rp Rq
        try clear ui uj Az AA Hw Hy O0 aak aal
        try clear oN oO sS sU uE uF AX Cy Cz
        try clear uA uB yc yf El Em JW Ru Rv
        try clear vW vX yj yl Cu Cv Hf Ry Rz
        try clear xQ xR KF KG KH KI KJ Tq Tt
        try clear Cg Ch Iw Iy Iz IA KM Oq Ot
        try clear Be Bf EB EC Kv Kw Ky Sb Sc
        try clear CJ CK CL CO EP ER ES aao aap
        try clear wm wo AL AO CS CU CV Sm Sn
        try clear EF EG Ii Ij NL NM NN aas aat
        try clear EJ EK NR NS SA SB SC ajh aji
        try clear D8 D9 JN JO Tx Ty Tz ajl ajm
        try clear ae5 ae6 ae7 ae8 ae9 afa afb afc afd
        try clear zC zD Fj Fp Hq Hr Ms PO PQ
        try clear zx zy Ha Hd Py Pz Xt Xu Xv
        try clear p2
        try clear p6
        obtain ⟨iP,rfl,HA,HK3,kJ,HB⟩:=hrel
        cases gk with
        |zero=>exact absurd HA.out (by simp [az.l0])
        |succ k3 =>
         have H:=HA.out
         clear HA
         simp only [az.l0] at H
         by_cases c37:iP < (ak.length:Int)
         ·rw [if_pos c37] at H
          have aOl:decide (iP < (ak.length:Int)) = true:=decide_eq_true c37
          clear c37
          by_cases c38:0≤iP
          ·rw [if_pos c38] at H
           have a5M:decide (0≤iP) = true:=decide_eq_true c38
           clear c38
           replace H:=Option.bind_eq_some_iff.mp H
           obtain ⟨t109,aOm,H⟩:=H
           replace H:(if t109 = true then ((bK.f ((ay ak iP).f1.f0) ((ay ak iP).f1.f1) (wrap64 (-aK)) aK).bind fun t111=>(if t111 = true then (az.l0 k3 (wrap64 (iP+1)) ai aj aC aD aJ aH aK aT ak) else (some 2))) else (some 2)) = some r:=H
           have A39:=aa.mk aOm
           clear aOm
           by_cases c40:t109 = true
           ·subst c40
            have H1:((bK.f ((ay ak iP).f1.f0) ((ay ak iP).f1.f1) (wrap64 (-aK)) aK).bind fun t111=>(if t111 = true then (az.l0 k3 (wrap64 (iP+1)) ai aj aC aD aJ aH aK aT ak) else (some 2))) = some r:=by rw [if_pos rfl] at H;exact H
            clear H
            have H:=H1
            clear H1
            replace H:=Option.bind_eq_some_iff.mp H
            obtain ⟨t111,aOn,H⟩:=H
            replace H:(if t111 = true then (az.l0 k3 (wrap64 (iP+1)) ai aj aC aD aJ aH aK aT ak) else (some 2)) = some r:=H
            have A41:=aa.mk aOn
            clear aOn
            by_cases c42:t111 = true
            ·subst c42
             have H1:(az.l0 k3 (wrap64 (iP+1)) ai aj aC aD aJ aH aK aT ak) = some r:=by rw [if_pos rfl] at H;exact H
             clear H
             have H:=H1
             clear H1
             have H':=aa.mk H
             clear H
             obtain ⟨af8,af9,aga,agb,aqW,aqX,aqY,aqZ,aq0,agc,agd,age,agf,aq1,aq2,aq3,aq4,aq5⟩:=jA kJ.out
             try go_wp2
             replace kJ:=aa.mk (ag kJ.out)
             replace HB:=aa.mk (bO HB.out)
             have UX:0≤(iP:Int):=of_decide_eq_true mq
             have UY:iP < (ak.length:Int):=of_decide_eq_true mq
             obtain ⟨mr,e108,qf,qg,qh,qi⟩:=zo gN.out iP UX UY
             have Bn:=qi
             have Bo:=qh
             have Bp:=qg
             have Bq:=qf
             cases e108
             replace qf:=(HB.out.cell (World.block_lt_of_cell? w _ qf)).trans qf
             replace qg:=(HB.out.cell (World.block_lt_of_cell? w _ qg)).trans qg
             replace qh:=(HB.out.cell (World.block_lt_of_cell? w _ qh)).trans qh
             replace qi:=(HB.out.cell (World.block_lt_of_cell? w _ qi)).trans qi
             replace UX:=eq_true UX
             replace UY:=eq_true UY
             have afe:0≤(iP:Int):=of_decide_eq_true mq
             have aff:iP < (ak.length:Int):=of_decide_eq_true mq
             obtain ⟨apv,aAA,yS,yT,yU,yV⟩:=zo gN.out iP afe aff
             have IW:=yV
             have IX:=yU
             have IY:=yT
             have IZ:=yS
             obtain rfl:mr = apv:=(by injection aAA)
             replace yS:=(HB.out.cell (World.block_lt_of_cell? w _ yS)).trans yS
             replace yT:=(HB.out.cell (World.block_lt_of_cell? w _ yT)).trans yT
             replace yU:=(HB.out.cell (World.block_lt_of_cell? w _ yU)).trans yU
             replace yV:=(HB.out.cell (World.block_lt_of_cell? w _ yV)).trans yV
             replace afe:=eq_true afe
             replace aff:=eq_true aff
             refine iN (n:=28) (S:=fun w'=>w'.cell? ⟨pI,0,none⟩ = some (U Z ai)∧w'.cell? ⟨pI,1,none⟩ = some (U Z aj)∧w'.cell? ⟨pI,2,none⟩ = some (U Z aC)∧w'.cell? ⟨pI,3,none⟩ = some (U Z aD)∧w'.cell? ⟨pI,4,none⟩ = some (U Z aJ)∧w'.cell? ⟨pI,5,none⟩ = some (U Z aH)∧w'.cell? ⟨pI,6,none⟩ = some (U Z aK)∧w'.cell? ⟨pI,7,none⟩ = some (.slice dW aT.length dN)∧w'.cell? ⟨pI,8,none⟩ = some (.slice (some mr) ak.length dO)∧w'.cell? (mr.add ((iP).toNat*4)) = some (U Z ((ay ak iP).f0.f0))∧w'.cell? ⟨(mr.add ((iP).toNat*4)).block,(mr.add ((iP).toNat*4)).off+1,none⟩ = some (U Z ((ay ak iP).f0.f1))∧w'.cell? ⟨(mr.add ((iP).toNat*4)).block,(mr.add ((iP).toNat*4)).off+2,none⟩ = some (U Z ((ay ak iP).f1.f0))∧w'.cell? ⟨(mr.add ((iP).toNat*4)).block,(mr.add ((iP).toNat*4)).off+3,none⟩ = some (U Z ((ay ak iP).f1.f1))∧w'.cell? (mr.add ((iP).toNat*4)) = some (U Z ((ay ak iP).f0.f0))∧w'.cell? ⟨(mr.add ((iP).toNat*4)).block,(mr.add ((iP).toNat*4)).off+1,none⟩ = some (U Z ((ay ak iP).f0.f1))∧w'.cell? ⟨(mr.add ((iP).toNat*4)).block,(mr.add ((iP).toNat*4)).off+2,none⟩ = some (U Z ((ay ak iP).f1.f0))∧w'.cell? ⟨(mr.add ((iP).toNat*4)).block,(mr.add ((iP).toNat*4)).off+3,none⟩ = some (U Z ((ay ak iP).f1.f1))) (ds:=[]) #[ac,ac,ac,ac,ac,ac,ac,ac,ac,ac,ac,ac,ac,ac,ac,ac,ac,ac,ac,ac,ac,ac,ac,ac,ac,ac,ac,ac] aM rfl rfl (uw kJ.out ⟨(jJ HB Bq),(jJ HB Bp),(jJ HB Bo),(jJ HB Bn),(jJ HB IZ),(jJ HB IY),(jJ HB IX),(jJ HB IW)⟩) (fun hHeld=>?_);refine fU az.aoC az.acU (fun bz jb=>?_)
             generalize wr.drew = w44 at kJ HB qf qg qh qi yS yT yU yV hHeld ⊢
             refine bV (i:=0) (N:=some 105) (ax bz.out aM) ?_
             refine bV (i:=2) (N:=some 107) (ax bz.out aM) ?_
             refine bV (i:=6) (N:=some 111) (ax bz.out aM) ?_
             refine bV (i:=9) (N:=some 114) (ax bz.out aM) ?_
             refine iL (i:=1) (N:=some 106) (aY bz.out jb.out aM) hHeld ?_
             refine bV (i:=3) (N:=some 108) (ax bz.out aM) ?_
             refine bV (i:=4) (N:=some 109) (ax bz.out aM) ?_
             refine iL (i:=5) (N:=some 110) (aY bz.out jb.out aM) hHeld ?_
             refine iL (i:=7) (N:=some 112) (aY bz.out jb.out aM) hHeld ?_
             refine bV (i:=8) (N:=some 113) (ax bz.out aM) ?_
             refine iL (i:=10) (N:=some 115) (aY bz.out jb.out aM) hHeld ?_
             refine iO (i:=11) (N:=some 116) #[ab,ab,ab,ab,ab,ab,ab,ab,ab,ab,ab,ab,ac,ac,ac,ac,ac,ac,ac,ac,ac,ac,ac,ac,ac,ac,ac,ac] rfl rfl (eH bz.out aM) (by decide) (fun K hK=>?_)
             refine gJ Try.func78 aM rfl #[.agg #[U Z ((ay ak iP).f0.f0),U Z ((ay ak iP).f0.f1)],U Z (wrap64 (-aK)),U Z aK] (by rfl) rfl rfl ji ?_
             with_reducible refine (bK.calls ((ay ak iP).f0.f0) ((ay ak iP).f0.f1) (wrap64 (-aK)) aK true _ A39.out).mono ?_
             rintro e w45 ⟨rfl,hb⟩
             refine ⟨_,rfl,?_⟩
             replace kJ:=aX kJ hb
             replace HB:=cO HB hb
             (try clear hb)
             (try clear hb2)
             (try clear hk)
             (try clear hi)
             refine hK.out _ _ (uw kJ.out ⟨(jJ HB Bq),(jJ HB Bp),(jJ HB Bo),(jJ HB Bn),(jJ HB IZ),(jJ HB IY),(jJ HB IX),(jJ HB IW)⟩) (fun hHeld=>?_)
             clear hK K
             refine dM zq9 ?_
             refine bV (i:=12) (N:=some 117) (ax bz.out aM) ?_
             refine bV (i:=13) (N:=some 118) (ax bz.out aM) ?_
             refine bV (i:=14) (N:=some 119) (ax bz.out aM) ?_
             refine bV (i:=16) (N:=some 121) (ax bz.out aM) ?_
             refine bV (i:=20) (N:=some 125) (ax bz.out aM) ?_
             refine bV (i:=23) (N:=some 128) (ax bz.out aM) ?_
             refine iL (i:=15) (N:=some 120) (aY bz.out jb.out aM) hHeld ?_
             refine bV (i:=17) (N:=some 122) (ax bz.out aM) ?_
             refine bV (i:=18) (N:=some 123) (ax bz.out aM) ?_
             refine iL (i:=19) (N:=some 124) (aY bz.out jb.out aM) hHeld ?_
             refine iL (i:=21) (N:=some 126) (aY bz.out jb.out aM) hHeld ?_
             refine bV (i:=22) (N:=some 127) (ax bz.out aM) ?_
             refine iL (i:=24) (N:=some 129) (aY bz.out jb.out aM) hHeld ?_
             refine iO (i:=25) (N:=some 130) #[ab,ab,ab,ab,ab,ab,ab,ab,ab,ab,ab,ab,ab,ab,ab,ab,ab,ab,ab,ab,ab,ab,ab,ab,ab,ab,ac,ac] rfl rfl (eH bz.out aM) (by decide) (fun K hK=>?_)
             refine gJ Try.func78 aM rfl #[.agg #[U Z ((ay ak iP).f1.f0),U Z ((ay ak iP).f1.f1)],U Z (wrap64 (-aK)),U Z aK] (by rfl) rfl rfl ji ?_
             with_reducible refine (bK.calls ((ay ak iP).f1.f0) ((ay ak iP).f1.f1) (wrap64 (-aK)) aK true _ A41.out).mono ?_
             rintro e w46 ⟨rfl,hb⟩
             refine ⟨_,rfl,?_⟩
             replace kJ:=aX kJ hb
             replace HB:=cO HB hb
             (try clear hb)
             (try clear hb2)
             (try clear hk)
             (try clear hi)
             refine hK.out _ _ (uw kJ.out ⟨(jJ HB Bq),(jJ HB Bp),(jJ HB Bo),(jJ HB Bn),(jJ HB IZ),(jJ HB IY),(jJ HB IX),(jJ HB IW)⟩) (fun hHeld=>?_)
             clear hK K
             refine dM aGI ?_
             refine bV (i:=26) (N:=some 131) (ax bz.out aM) ?_
             refine bV (i:=27) (N:=some 132) (ax bz.out aM) ?_
             refine jS (ja bz.out aM) ?_
             try go_wp2
             go_roundg k3
             case measure=>have:=HJ1.out;have:=aOk.out;have:=HK3.out;omega
             case rel=>exact ⟨(wrap64 (iP+1)),nM,H',⟨by have:=HJ1.out;have:=aOk.out;have:=HK3.out;omega⟩,⟨gB⟩,⟨gL⟩⟩
            ·replace c42:=Bool.eq_false_iff.mpr c42
             subst c42
             have H1:(some 2) = some r:=by rw [if_neg (show ¬ (false = true) by decide)] at H;exact H
             clear H
             have H:=H1
             clear H1
             obtain rfl:=Option.some.inj H
             obtain ⟨Zk,Zl,ajn,ajo,avP,avQ,avR,aUN,aUO,Zm,Zn,ajp,ajq,avS,avT,avU,aUP,aUQ⟩:=jA kJ.out
             try go_wp2
             replace kJ:=aa.mk (ag kJ.out)
             replace HB:=aa.mk (bO HB.out)
             have UX:0≤(iP:Int):=of_decide_eq_true mq
             have UY:iP < (ak.length:Int):=of_decide_eq_true mq
             obtain ⟨mr,e108,qf,qg,qh,qi⟩:=zo gN.out iP UX UY
             have Bn:=qi
             have Bo:=qh
             have Bp:=qg
             have Bq:=qf
             cases e108
             replace qf:=(HB.out.cell (World.block_lt_of_cell? w _ qf)).trans qf
             replace qg:=(HB.out.cell (World.block_lt_of_cell? w _ qg)).trans qg
             replace qh:=(HB.out.cell (World.block_lt_of_cell? w _ qh)).trans qh
             replace qi:=(HB.out.cell (World.block_lt_of_cell? w _ qi)).trans qi
             replace UX:=eq_true UX
             replace UY:=eq_true UY
             have afe:0≤(iP:Int):=of_decide_eq_true mq
             have aff:iP < (ak.length:Int):=of_decide_eq_true mq
             obtain ⟨apv,aAA,yS,yT,yU,yV⟩:=zo gN.out iP afe aff
             have IW:=yV
             have IX:=yU
             have IY:=yT
             have IZ:=yS
             obtain rfl:mr = apv:=(by injection aAA)
             replace yS:=(HB.out.cell (World.block_lt_of_cell? w _ yS)).trans yS
             replace yT:=(HB.out.cell (World.block_lt_of_cell? w _ yT)).trans yT
             replace yU:=(HB.out.cell (World.block_lt_of_cell? w _ yU)).trans yU
             replace yV:=(HB.out.cell (World.block_lt_of_cell? w _ yV)).trans yV
             replace afe:=eq_true afe
             replace aff:=eq_true aff
             refine iN (n:=28) (S:=fun w'=>w'.cell? ⟨pI,0,none⟩ = some (U Z ai)∧w'.cell? ⟨pI,1,none⟩ = some (U Z aj)∧w'.cell? ⟨pI,2,none⟩ = some (U Z aC)∧w'.cell? ⟨pI,3,none⟩ = some (U Z aD)∧w'.cell? ⟨pI,4,none⟩ = some (U Z aJ)∧w'.cell? ⟨pI,5,none⟩ = some (U Z aH)∧w'.cell? ⟨pI,6,none⟩ = some (U Z aK)∧w'.cell? ⟨pI,7,none⟩ = some (.slice dW aT.length dN)∧w'.cell? ⟨pI,8,none⟩ = some (.slice (some mr) ak.length dO)∧w'.cell? (mr.add ((iP).toNat*4)) = some (U Z ((ay ak iP).f0.f0))∧w'.cell? ⟨(mr.add ((iP).toNat*4)).block,(mr.add ((iP).toNat*4)).off+1,none⟩ = some (U Z ((ay ak iP).f0.f1))∧w'.cell? ⟨(mr.add ((iP).toNat*4)).block,(mr.add ((iP).toNat*4)).off+2,none⟩ = some (U Z ((ay ak iP).f1.f0))∧w'.cell? ⟨(mr.add ((iP).toNat*4)).block,(mr.add ((iP).toNat*4)).off+3,none⟩ = some (U Z ((ay ak iP).f1.f1))∧w'.cell? (mr.add ((iP).toNat*4)) = some (U Z ((ay ak iP).f0.f0))∧w'.cell? ⟨(mr.add ((iP).toNat*4)).block,(mr.add ((iP).toNat*4)).off+1,none⟩ = some (U Z ((ay ak iP).f0.f1))∧w'.cell? ⟨(mr.add ((iP).toNat*4)).block,(mr.add ((iP).toNat*4)).off+2,none⟩ = some (U Z ((ay ak iP).f1.f0))∧w'.cell? ⟨(mr.add ((iP).toNat*4)).block,(mr.add ((iP).toNat*4)).off+3,none⟩ = some (U Z ((ay ak iP).f1.f1))) (ds:=[]) #[ac,ac,ac,ac,ac,ac,ac,ac,ac,ac,ac,ac,ac,ac,ac,ac,ac,ac,ac,ac,ac,ac,ac,ac,ac,ac,ac,ac] aM rfl rfl (uw kJ.out ⟨(jJ HB Bq),(jJ HB Bp),(jJ HB Bo),(jJ HB Bn),(jJ HB IZ),(jJ HB IY),(jJ HB IX),(jJ HB IW)⟩) (fun hHeld=>?_);refine fU az.aoC az.acU (fun bz jb=>?_)
             generalize wr.drew = w48 at kJ HB qf qg qh qi yS yT yU yV hHeld ⊢
             refine bV (i:=0) (N:=some 105) (ax bz.out aM) ?_
             refine bV (i:=2) (N:=some 107) (ax bz.out aM) ?_
             refine bV (i:=6) (N:=some 111) (ax bz.out aM) ?_
             refine bV (i:=9) (N:=some 114) (ax bz.out aM) ?_
             refine iL (i:=1) (N:=some 106) (aY bz.out jb.out aM) hHeld ?_
             refine bV (i:=3) (N:=some 108) (ax bz.out aM) ?_
             refine bV (i:=4) (N:=some 109) (ax bz.out aM) ?_
             refine iL (i:=5) (N:=some 110) (aY bz.out jb.out aM) hHeld ?_
             refine iL (i:=7) (N:=some 112) (aY bz.out jb.out aM) hHeld ?_
             refine bV (i:=8) (N:=some 113) (ax bz.out aM) ?_
             refine iL (i:=10) (N:=some 115) (aY bz.out jb.out aM) hHeld ?_
             refine iO (i:=11) (N:=some 116) #[ab,ab,ab,ab,ab,ab,ab,ab,ab,ab,ab,ab,ac,ac,ac,ac,ac,ac,ac,ac,ac,ac,ac,ac,ac,ac,ac,ac] rfl rfl (eH bz.out aM) (by decide) (fun K hK=>?_)
             refine gJ Try.func78 aM rfl #[.agg #[U Z ((ay ak iP).f0.f0),U Z ((ay ak iP).f0.f1)],U Z (wrap64 (-aK)),U Z aK] (by rfl) rfl rfl ji ?_
             with_reducible refine (bK.calls ((ay ak iP).f0.f0) ((ay ak iP).f0.f1) (wrap64 (-aK)) aK true _ A39.out).mono ?_
             rintro e w49 ⟨rfl,hb⟩
             refine ⟨_,rfl,?_⟩
             replace kJ:=aX kJ hb
             replace HB:=cO HB hb
             (try clear hb)
             (try clear hb2)
             (try clear hk)
             (try clear hi)
             refine hK.out _ _ (uw kJ.out ⟨(jJ HB Bq),(jJ HB Bp),(jJ HB Bo),(jJ HB Bn),(jJ HB IZ),(jJ HB IY),(jJ HB IX),(jJ HB IW)⟩) (fun hHeld=>?_)
             clear hK K
             refine dM zq9 ?_
             refine bV (i:=12) (N:=some 117) (ax bz.out aM) ?_
             refine bV (i:=13) (N:=some 118) (ax bz.out aM) ?_
             refine bV (i:=14) (N:=some 119) (ax bz.out aM) ?_
             refine bV (i:=16) (N:=some 121) (ax bz.out aM) ?_
             refine bV (i:=20) (N:=some 125) (ax bz.out aM) ?_
             refine bV (i:=23) (N:=some 128) (ax bz.out aM) ?_
             refine iL (i:=15) (N:=some 120) (aY bz.out jb.out aM) hHeld ?_
             refine bV (i:=17) (N:=some 122) (ax bz.out aM) ?_
             refine bV (i:=18) (N:=some 123) (ax bz.out aM) ?_
             refine iL (i:=19) (N:=some 124) (aY bz.out jb.out aM) hHeld ?_
             refine iL (i:=21) (N:=some 126) (aY bz.out jb.out aM) hHeld ?_
             refine bV (i:=22) (N:=some 127) (ax bz.out aM) ?_
             refine iL (i:=24) (N:=some 129) (aY bz.out jb.out aM) hHeld ?_
             refine iO (i:=25) (N:=some 130) #[ab,ab,ab,ab,ab,ab,ab,ab,ab,ab,ab,ab,ab,ab,ab,ab,ab,ab,ab,ab,ab,ab,ab,ab,ab,ab,ac,ac] rfl rfl (eH bz.out aM) (by decide) (fun K hK=>?_)
             refine gJ Try.func78 aM rfl #[.agg #[U Z ((ay ak iP).f1.f0),U Z ((ay ak iP).f1.f1)],U Z (wrap64 (-aK)),U Z aK] (by rfl) rfl rfl ji ?_
             with_reducible refine (bK.calls ((ay ak iP).f1.f0) ((ay ak iP).f1.f1) (wrap64 (-aK)) aK false _ A41.out).mono ?_
             rintro e w50 ⟨rfl,hb⟩
             refine ⟨_,rfl,?_⟩
             replace kJ:=aX kJ hb
             replace HB:=cO HB hb
             (try clear hb)
             (try clear hb2)
             (try clear hk)
             (try clear hi)
             refine hK.out _ _ (uw kJ.out ⟨(jJ HB Bq),(jJ HB Bp),(jJ HB Bo),(jJ HB Bn),(jJ HB IZ),(jJ HB IY),(jJ HB IX),(jJ HB IW)⟩) (fun hHeld=>?_)
             clear hK K
             refine dM aGI ?_
             refine bV (i:=26) (N:=some 131) (ax bz.out aM) ?_
             refine bV (i:=27) (N:=some 132) (ax bz.out aM) ?_
             refine jS (ja bz.out aM) ?_
             try go_wp2
             go_ret
             exact ⟨lW,gL⟩
           ·replace c40:=Bool.eq_false_iff.mpr c40
            subst c40
            have H1:(some 2) = some r:=by rw [if_neg (show ¬ (false = true) by decide)] at H;exact H
            clear H
            have H:=H1
            clear H1
            obtain rfl:=Option.some.inj H
            obtain ⟨au9,ava,aUR,aUS,aUT,aUU,aUV,aUW,aUX,avb,avc,aUY,aUZ,aU0,aU1,aU2,aU3,aU4⟩:=jA kJ.out
            try go_wp2
            replace kJ:=aa.mk (ag kJ.out)
            replace HB:=aa.mk (bO HB.out)
            have UX:0≤(iP:Int):=of_decide_eq_true mq
            have UY:iP < (ak.length:Int):=of_decide_eq_true mq
            obtain ⟨mr,e108,qf,qg,qh,qi⟩:=zo gN.out iP UX UY
            have Bn:=qi
            have Bo:=qh
            have Bp:=qg
            have Bq:=qf
            cases e108
            replace qf:=(HB.out.cell (World.block_lt_of_cell? w _ qf)).trans qf
            replace qg:=(HB.out.cell (World.block_lt_of_cell? w _ qg)).trans qg
            replace qh:=(HB.out.cell (World.block_lt_of_cell? w _ qh)).trans qh
            replace qi:=(HB.out.cell (World.block_lt_of_cell? w _ qi)).trans qi
            replace UX:=eq_true UX
            replace UY:=eq_true UY
            refine iN (n:=28) (S:=fun w'=>w'.cell? ⟨pI,0,none⟩ = some (U Z ai)∧w'.cell? ⟨pI,1,none⟩ = some (U Z aj)∧w'.cell? ⟨pI,2,none⟩ = some (U Z aC)∧w'.cell? ⟨pI,3,none⟩ = some (U Z aD)∧w'.cell? ⟨pI,4,none⟩ = some (U Z aJ)∧w'.cell? ⟨pI,5,none⟩ = some (U Z aH)∧w'.cell? ⟨pI,6,none⟩ = some (U Z aK)∧w'.cell? ⟨pI,7,none⟩ = some (.slice dW aT.length dN)∧w'.cell? ⟨pI,8,none⟩ = some (.slice (some mr) ak.length dO)∧w'.cell? (mr.add ((iP).toNat*4)) = some (U Z ((ay ak iP).f0.f0))∧w'.cell? ⟨(mr.add ((iP).toNat*4)).block,(mr.add ((iP).toNat*4)).off+1,none⟩ = some (U Z ((ay ak iP).f0.f1))∧w'.cell? ⟨(mr.add ((iP).toNat*4)).block,(mr.add ((iP).toNat*4)).off+2,none⟩ = some (U Z ((ay ak iP).f1.f0))∧w'.cell? ⟨(mr.add ((iP).toNat*4)).block,(mr.add ((iP).toNat*4)).off+3,none⟩ = some (U Z ((ay ak iP).f1.f1))) (ds:=[]) #[ac,ac,ac,ac,ac,ac,ac,ac,ac,ac,ac,ac,ac,ac,ac,ac,ac,ac,ac,ac,ac,ac,ac,ac,ac,ac,ac,ac] aM rfl rfl (uw kJ.out ⟨(jJ HB Bq),(jJ HB Bp),(jJ HB Bo),(jJ HB Bn)⟩) (fun hHeld=>?_);refine fU az.aoC az.acU (fun bz jb=>?_)
            generalize wr.drew = w52 at kJ HB qf qg qh qi hHeld ⊢
            refine bV (i:=0) (N:=some 105) (ax bz.out aM) ?_
            refine bV (i:=2) (N:=some 107) (ax bz.out aM) ?_
            refine bV (i:=6) (N:=some 111) (ax bz.out aM) ?_
            refine bV (i:=9) (N:=some 114) (ax bz.out aM) ?_
            refine iL (i:=1) (N:=some 106) (aY bz.out jb.out aM) hHeld ?_
            refine bV (i:=3) (N:=some 108) (ax bz.out aM) ?_
            refine bV (i:=4) (N:=some 109) (ax bz.out aM) ?_
            refine iL (i:=5) (N:=some 110) (aY bz.out jb.out aM) hHeld ?_
            refine iL (i:=7) (N:=some 112) (aY bz.out jb.out aM) hHeld ?_
            refine bV (i:=8) (N:=some 113) (ax bz.out aM) ?_
            refine iL (i:=10) (N:=some 115) (aY bz.out jb.out aM) hHeld ?_
            refine iO (i:=11) (N:=some 116) #[ab,ab,ab,ab,ab,ab,ab,ab,ab,ab,ab,ab,ac,ac,ac,ac,ac,ac,ac,ac,ac,ac,ac,ac,ac,ac,ac,ac] rfl rfl (eH bz.out aM) (by decide) (fun K hK=>?_)
            refine gJ Try.func78 aM rfl #[.agg #[U Z ((ay ak iP).f0.f0),U Z ((ay ak iP).f0.f1)],U Z (wrap64 (-aK)),U Z aK] (by rfl) rfl rfl ji ?_
            with_reducible refine (bK.calls ((ay ak iP).f0.f0) ((ay ak iP).f0.f1) (wrap64 (-aK)) aK false _ A39.out).mono ?_
            rintro e w53 ⟨rfl,hb⟩
            refine ⟨_,rfl,?_⟩
            replace kJ:=aX kJ hb
            replace HB:=cO HB hb
            (try clear hb)
            (try clear hb2)
            (try clear hk)
            (try clear hi)
            refine hK.out _ _ (uw kJ.out ⟨(jJ HB Bq),(jJ HB Bp),(jJ HB Bo),(jJ HB Bn)⟩) (fun hHeld=>?_)
            clear hK K
            refine dM zq9 ?_
            refine bV (i:=12) (N:=some 117) (ax bz.out aM) ?_
            refine bV (i:=13) (N:=some 118) (ax bz.out aM) ?_
            refine qa (i:=14) (N:=some 119) (v:=undef) (a':=?_) #[ab,ab,ab,ab,ab,ab,ab,ab,ab,ab,ab,ab,ab,ab,ab,ac,ac,ac,ac,ac,ac,ac,ac,ac,ac,ac,ac,ac] rfl rfl (ax bz.out aM) (fun _ _ _ h=>h) (Or.inr ⟨by rfl,rfl⟩) ?_ ?_
            rotate_left
            ·simp only [Act.put,List.setIfInBounds_toArray,List.set_cons_zero,List.set_cons_succ,ib,ig]
             rfl
            refine qa (i:=15) (N:=some 120) (v:=undef) (a':=?_) #[ab,ab,ab,ab,ab,ab,ab,ab,ab,ab,ab,ab,ab,ab,ab,ab,ac,ac,ac,ac,ac,ac,ac,ac,ac,ac,ac,ac] rfl rfl (ax bz.out aM) (fun _ _ _ h=>h) (Or.inr ⟨by rfl,rfl⟩) ?_ ?_
            rotate_left
            ·simp only [Act.put,List.setIfInBounds_toArray,List.set_cons_zero,List.set_cons_succ,ib,ig]
             rfl
            refine qa (i:=16) (N:=some 121) (v:=undef) (a':=?_) #[ab,ab,ab,ab,ab,ab,ab,ab,ab,ab,ab,ab,ab,ab,ab,ab,ab,ac,ac,ac,ac,ac,ac,ac,ac,ac,ac,ac] rfl rfl (ax bz.out aM) (fun _ _ _ h=>h) (Or.inr ⟨by rfl,rfl⟩) ?_ ?_
            rotate_left
            ·simp only [Act.put,List.setIfInBounds_toArray,List.set_cons_zero,List.set_cons_succ,ib,ig]
             rfl
            refine qa (i:=17) (N:=some 122) (v:=undef) (a':=?_) #[ab,ab,ab,ab,ab,ab,ab,ab,ab,ab,ab,ab,ab,ab,ab,ab,ab,ab,ac,ac,ac,ac,ac,ac,ac,ac,ac,ac] rfl rfl (ax bz.out aM) (fun _ _ _ h=>h) (Or.inr ⟨by rfl,rfl⟩) ?_ ?_
            rotate_left
            ·simp only [Act.put,List.setIfInBounds_toArray,List.set_cons_zero,List.set_cons_succ,ib,ig]
             rfl
            refine qa (i:=18) (N:=some 123) (v:=undef) (a':=?_) #[ab,ab,ab,ab,ab,ab,ab,ab,ab,ab,ab,ab,ab,ab,ab,ab,ab,ab,ab,ac,ac,ac,ac,ac,ac,ac,ac,ac] rfl rfl (ax bz.out aM) (fun _ _ _ h=>h) (Or.inr ⟨by rfl,rfl⟩) ?_ ?_
            rotate_left
            ·simp only [Act.put,List.setIfInBounds_toArray,List.set_cons_zero,List.set_cons_succ,ib,ig]
             rfl
            refine qa (i:=19) (N:=some 124) (v:=undef) (a':=?_) #[ab,ab,ab,ab,ab,ab,ab,ab,ab,ab,ab,ab,ab,ab,ab,ab,ab,ab,ab,ab,ac,ac,ac,ac,ac,ac,ac,ac] rfl rfl (ax bz.out aM) (fun _ _ _ h=>h) (Or.inr ⟨by rfl,rfl⟩) ?_ ?_
            rotate_left
            ·simp only [Act.put,List.setIfInBounds_toArray,List.set_cons_zero,List.set_cons_succ,ib,ig]
             rfl
            refine qa (i:=20) (N:=some 125) (v:=undef) (a':=?_) #[ab,ab,ab,ab,ab,ab,ab,ab,ab,ab,ab,ab,ab,ab,ab,ab,ab,ab,ab,ab,ab,ac,ac,ac,ac,ac,ac,ac] rfl rfl (ax bz.out aM) (fun _ _ _ h=>h) (Or.inr ⟨by rfl,rfl⟩) ?_ ?_
            rotate_left
            ·simp only [Act.put,List.setIfInBounds_toArray,List.set_cons_zero,List.set_cons_succ,ib,ig]
             rfl
            refine qa (i:=21) (N:=some 126) (v:=undef) (a':=?_) #[ab,ab,ab,ab,ab,ab,ab,ab,ab,ab,ab,ab,ab,ab,ab,ab,ab,ab,ab,ab,ab,ab,ac,ac,ac,ac,ac,ac] rfl rfl (ax bz.out aM) (fun _ _ _ h=>h) (Or.inr ⟨by rfl,rfl⟩) ?_ ?_
            rotate_left
            ·simp only [Act.put,List.setIfInBounds_toArray,List.set_cons_zero,List.set_cons_succ,ib,ig]
             rfl
            refine qa (i:=22) (N:=some 127) (v:=undef) (a':=?_) #[ab,ab,ab,ab,ab,ab,ab,ab,ab,ab,ab,ab,ab,ab,ab,ab,ab,ab,ab,ab,ab,ab,ab,ac,ac,ac,ac,ac] rfl rfl (ax bz.out aM) (fun _ _ _ h=>h) (Or.inr ⟨by rfl,rfl⟩) ?_ ?_
            rotate_left
            ·simp only [Act.put,List.setIfInBounds_toArray,List.set_cons_zero,List.set_cons_succ,ib,ig]
             rfl
            refine qa (i:=23) (N:=some 128) (v:=undef) (a':=?_) #[ab,ab,ab,ab,ab,ab,ab,ab,ab,ab,ab,ab,ab,ab,ab,ab,ab,ab,ab,ab,ab,ab,ab,ab,ac,ac,ac,ac] rfl rfl (ax bz.out aM) (fun _ _ _ h=>h) (Or.inr ⟨by rfl,rfl⟩) ?_ ?_
            rotate_left
            ·simp only [Act.put,List.setIfInBounds_toArray,List.set_cons_zero,List.set_cons_succ,ib,ig]
             rfl
            refine qa (i:=24) (N:=some 129) (v:=undef) (a':=?_) #[ab,ab,ab,ab,ab,ab,ab,ab,ab,ab,ab,ab,ab,ab,ab,ab,ab,ab,ab,ab,ab,ab,ab,ab,ab,ac,ac,ac] rfl rfl (ax bz.out aM) (fun _ _ _ h=>h) (Or.inr ⟨by rfl,rfl⟩) ?_ ?_
            rotate_left
            ·simp only [Act.put,List.setIfInBounds_toArray,List.set_cons_zero,List.set_cons_succ,ib,ig]
             rfl
            refine qa (i:=25) (N:=some 130) (v:=undef) (a':=?_) #[ab,ab,ab,ab,ab,ab,ab,ab,ab,ab,ab,ab,ab,ab,ab,ab,ab,ab,ab,ab,ab,ab,ab,ab,ab,ab,ac,ac] rfl rfl (ax bz.out aM) (fun _ _ _ h=>h) (Or.inr ⟨by rfl,rfl⟩) ?_ ?_
            rotate_left
            ·simp only [Act.put,List.setIfInBounds_toArray,List.set_cons_zero,List.set_cons_succ,ib,ig]
             rfl
            refine qa (i:=26) (N:=some 131) (v:=undef) (a':=?_) #[ab,ab,ab,ab,ab,ab,ab,ab,ab,ab,ab,ab,ab,ab,ab,ab,ab,ab,ab,ab,ab,ab,ab,ab,ab,ab,ab,ac] rfl rfl (ax bz.out aM) (fun _ _ _ h=>h) (Or.inr ⟨by rfl,rfl⟩) ?_ ?_
            rotate_left
            ·simp only [Act.put,List.setIfInBounds_toArray,List.set_cons_zero,List.set_cons_succ,ib,ig]
             rfl
            refine bV (i:=27) (N:=some 132) (ax bz.out aM) ?_
            refine jS (ja bz.out aM) ?_
            try go_wp2
            go_ret
            exact ⟨lW,gL⟩
          ·rw [if_neg c38] at H
           exact absurd H (by simp)
         ·rw [if_neg c37] at H
          have aOl:decide (iP < (ak.length:Int)) = false:=decide_eq_false c37
          clear c37
          obtain rfl:=Option.some.inj H
          obtain ⟨avV,avW,avX,avY,avZ,av0,av1,av2,av3,av4,av5,av6,av7,av8,av9,awc,awd,awe⟩:=jA kJ.out
          go_wp2
          go_ret
          exact ⟨lW,gL⟩
end Go.Proofs.Ytmhaiihjfgfaoaa.Pr
end
