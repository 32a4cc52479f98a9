import Derived.Test.YtmhaiihjfgfaoaaGhGliderHolds3
section
namespace Go.Proofs.Ytmhaiihjfgfaoaa.Pr
open Go.RowKit Go.Proofs.YtmhaiihjfgfaoaaW.PrintWords Go.Proofs.YtmhaiihjfgfaoaaW.PrintLast Go.Proofs.YtmhaiihjfgfaoaaW.PrintMore
attribute [local go_sem] cz cB dK dL cK
set_option linter.unusedVariables false
set_option linter.unusedSimpArgs false
mutual
def ai.j0:Nat→Bool→Int→Int→Int→Int→Int→Int→Int→List Bool→List (nU)→Option (Int)
 |0,_,_,_,_,_,_,_,_,_,_=>none
 |k+1,x71,zM,zN,Gj,Gm,CS,CU,vG,CV,qN=>if x71 = true then (some 2) else (if (CV.length:Int) = (wrap64 (zM*zN)) then (ai.j1 k ((qN.length:Int) != (wrap64 ((wrap64 ((wrap64 (CS*CU))*zM))*zN))) zM zN Gj Gm CS CU vG CV qN) else (ai.j1 k true zM zN Gj Gm CS CU vG CV qN))
def ai.j1:Nat→Bool→Int→Int→Int→Int→Int→Int→Int→List Bool→List (nU)→Option (Int)
 |0,_,_,_,_,_,_,_,_,_,_=>none
 |k+1,x97,zM,zN,Gj,Gm,CS,CU,vG,CV,qN=>if x97 = true then (some 2) else (ai.l0 k 0 zM zN Gj Gm CS CU vG CV qN)
def ai.l0:Nat→Int→Int→Int→Int→Int→Int→Int→Int→List Bool→List (nU)→Option (Int)
 |0,_,_,_,_,_,_,_,_,_,_=>none
 |k+1,x3,zM,zN,Gj,Gm,CS,CU,vG,CV,qN=>if x3 < (qN.length:Int) then (if 0≤x3 then ((bI.f ((aH qN x3).f0.f0) ((aH qN x3).f0.f1) (wrap64 (-vG)) vG).bind fun t109=>(if t109 = true then ((bI.f ((aH qN x3).f1.f0) ((aH qN x3).f1.f1) (wrap64 (-vG)) vG).bind fun t111=>(if t111 = true then (ai.l0 k (wrap64 (x3+1)) zM zN Gj Gm CS CU vG CV qN) else (some 2))) else (some 2))) else (none)) else (some 0)
end
def ai.f (k:Nat) (aj:Int) (ak:Int) (ax:Int) (ay:Int) (aJ:Int) (aC:Int) (aG:Int) (aN:List Bool) (av:List (nU)):Option (Int):=if aj < 1 then (ai.j0 k true aj ak ax ay aJ aC aG aN av) else (if aj > 12 then (ai.j0 k true aj ak ax ay aJ aC aG aN av) else (if ak < 1 then (ai.j0 k true aj ak ax ay aJ aC aG aN av) else (if ak > 12 then (ai.j0 k true aj ak ax ay aJ aC aG aN av) else (if ax < 100 then (ai.j0 k true aj ak ax ay aJ aC aG aN av) else (if ax > 65536 then (ai.j0 k true aj ak ax ay aJ aC aG aN av) else (if ay < 1 then (ai.j0 k true aj ak ax ay aJ aC aG aN av) else (if ay > 1048576 then (ai.j0 k true aj ak ax ay aJ aC aG aN av) else (if aJ < 1 then (ai.j0 k true aj ak ax ay aJ aC aG aN av) else (if aJ > 16 then (ai.j0 k true aj ak ax ay aJ aC aG aN av) else (if aC < 1 then (ai.j0 k true aj ak ax ay aJ aC aG aN av) else (if aC > 3 then (ai.j0 k true aj ak ax ay aJ aC aG aN av) else (if aG < 0 then (ai.j0 k true aj ak ax ay aJ aC aG aN av) else (ai.j0 k (decide (aG > 5000)) aj ak ax ay aJ aC aG aN av)))))))))))))
def ai.T8:Bool × List (List Nat × List Nat):=(true,[([],[]),([0],[0]),([],[]),([1,2],[1,2]),([3],[3]),([4],[4]),([],[]),([6],[6]),([7],[7]),([],[]),([9],[9]),([5,8,10],[5,8,10]),([11],[11]),([12,11],[12]),([13],[13]),([14,13],[13,14]),([13],[13]),([15,16,13],[13,15,16]),([17,13],[13,17]),([18,13],[13,18]),([13],[13]),([20,13],[13,20]),([21,13],[13,21]),([13],[13]),([23,13],[13,23]),([19,22,24,13,13],[13,19,22,24]),([25,13],[13,25]),([13,26],[13,26])])
def ai.B8:List Nat:=[0,1,0,7,15,31,0,64,192,0,512,2047,4095,8191,16383,32767,16383,131071,262143,524287,16383,1064959,3162111,16383,8404991,33554431,67108863,134217727]
theorem ai.an3:oQ .any (opsOf Try.f26 8) = ai.T8:=by kernel_rfl
theorem ai.afl:lI ai.T8.2 ai.B8 = true:=by kernel_rfl
set_option maxHeartbeats 8000000 in
set_option maxRecDepth 100000 in
theorem ai.calls (k:Nat) (aj:Int) (ak:Int) (ax:Int) (ay:Int) (aJ:Int) (aC:Int) (aG:Int) (dH:Option Addr) (dD:Nat) (aN:List Bool) (dG:Option Addr) (dE:Nat) (av:List (nU)) (r:Int) (w:World) (iW:Kd.C Kd.bool w dH aN.length aN) (iX:aN.length≤dD) (iY:Kd.C CY w dG av.length av) (iZ:av.length≤dE) (h:ai.f k aj ak ax ay aJ aC aG aN av = some r):
 Calls Try.prog 26 #[.agg #[.int .i64 aj,.int .i64 ak,.int .i64 ax,.int .i64 ay,.int .i64 aJ,.int .i64 aC,.int .i64 aG,.slice dH aN.length dD,.slice dG av.length dE]] w fun e w'=>e = .returned (.int .i64 r)∧Below w.heap.size w w':=by
 have xE:=Try.underlying25
 have pK:=Try.underlying27
 have gq:=ae.mk iW
 have gG:=ae.mk iX
 clear iW iX
 have fF:=ae.mk iY
 have gH:=ae.mk iZ
 clear iY iZ
 have HB:=ae.mk (Below.refl w.heap.size w)
 have H:(if aj < 1 then (ai.j0 k true aj ak ax ay aJ aC aG aN av) else (if aj > 12 then (ai.j0 k true aj ak ax ay aJ aC aG aN av) else (if ak < 1 then (ai.j0 k true aj ak ax ay aJ aC aG aN av) else (if ak > 12 then (ai.j0 k true aj ak ax ay aJ aC aG aN av) else (if ax < 100 then (ai.j0 k true aj ak ax ay aJ aC aG aN av) else (if ax > 65536 then (ai.j0 k true aj ak ax ay aJ aC aG aN av) else (if ay < 1 then (ai.j0 k true aj ak ax ay aJ aC aG aN av) else (if ay > 1048576 then (ai.j0 k true aj ak ax ay aJ aC aG aN av) else (if aJ < 1 then (ai.j0 k true aj ak ax ay aJ aC aG aN av) else (if aJ > 16 then (ai.j0 k true aj ak ax ay aJ aC aG aN av) else (if aC < 1 then (ai.j0 k true aj ak ax ay aJ aC aG aN av) else (if aC > 3 then (ai.j0 k true aj ak ax ay aJ aC aG aN av) else (if aG < 0 then (ai.j0 k true aj ak ax ay aJ aC aG aN av) else (ai.j0 k (decide (aG > 5000)) aj ak ax ay aJ aC aG aN av)))))))))))))) = some r:=h
 clear h
 have HC2:=ae.mk H
 clear H
 go_enter Try.func26,Try.ntmps26
 go_upto_region 1 with (first|((with_reducible refine aA (N:=1) rfl ?_);(try (refine pF (by rfl) ?_;dsimp only));refine az (by rfl) (N:=1) (by rfl) (cs:=#[.int .i64 aj,.int .i64 ak,.int .i64 ax,.int .i64 ay,.int .i64 aJ,.int .i64 aC,.int .i64 aG,.slice dH aN.length dD,.slice dG av.length dE]) (t:=25) gQ ?_;intro mE hg w3 hbox hb;have jf:=ae.mk (hbox);have aHV:=dn HB hg;have aHW:=dn HB hg;replace HB:=dF HB hb;clear hb hbox hg))
 (try simp only [Act.put,List.setIfInBounds_toArray,List.set_cons_zero,List.set_cons_succ])
 go_cut [71] (fun v71 wc=>∃ (kq:Nat) (aaP:Bool),v71 = .bool aaP∧ae (ai.j0 kq aaP aj ak ax ay aJ aC aG aN av = some r)∧ae (kq≤k)∧ae (wc.heap[mE]? = some (.cells #[.int .i64 aj,.int .i64 ak,.int .i64 ax,.int .i64 ay,.int .i64 aJ,.int .i64 aC,.int .i64 aG,(.slice dH aN.length dD),(.slice dG av.length dE)] 25 (0,0)))∧ae (Below w.heap.size w wc))
 case first =>
  have H:=HC2.out
  clear HC2
  by_cases c4:aj < 1
  ·rw [if_pos c4] at H
   have rW:decide (aj < 1) = true:=decide_eq_true c4
   clear c4
   (first|rw [rW]|(simp only [fD,fJ];rw [rW])|skip)
   have H':=ae.mk H
   clear H
   obtain ⟨XK,XL,XM,XN,XO,XP,XQ,XR,XT,XU,XV,XW,XX,XY,XZ,X0,X3,X4⟩:=iI jf.out
   go_wp2
   go_meet
   case rel=>exact ⟨_,(true),nI,H',⟨Ww⟩,⟨iq⟩,⟨gM⟩⟩
  ·rw [if_neg c4] at H
   have rW:decide (aj < 1) = false:=decide_eq_false c4
   clear c4
   (first|rw [rW]|(simp only [fD,fJ];rw [rW])|skip)
   by_cases c6:aj > 12
   ·rw [if_pos c6] at H
    have Dp:decide (12 < aj) = true:=decide_eq_true c6
    clear c6
    have H':=ae.mk H
    clear H
    obtain ⟨xI,xJ,Dx,Dy,G6,G7,G8,Lg,Lh,xK,xL,Dz,DC,G9,Ha,Hd,Li,Lj⟩:=iI jf.out
    go_wp2
    go_meet
    case rel=>exact ⟨_,(true),nI,H',⟨Ww⟩,⟨iq⟩,⟨gM⟩⟩
   ·rw [if_neg c6] at H
    have Dp:decide (12 < aj) = false:=decide_eq_false c6
    clear c6
    by_cases c8:ak < 1
    ·rw [if_pos c8] at H
     have Lb:decide (ak < 1) = true:=decide_eq_true c8
     clear c8
     have H':=ae.mk H
     clear H
     obtain ⟨Dr,Dt,K7,K8,RO,RP,RQ,RS,RU,Du,Dv,K9,La,RV,RX,RY,RZ,R3⟩:=iI jf.out
     go_wp2
     go_meet
     case rel=>exact ⟨_,(true),nI,H',⟨Ww⟩,⟨iq⟩,⟨gM⟩⟩
    ·rw [if_neg c8] at H
     have Lb:decide (ak < 1) = false:=decide_eq_false c8
     clear c8
     by_cases c10:ak > 12
     ·rw [if_pos c10] at H
      have Ad:decide (12 < ak) = true:=decide_eq_true c10
      clear c10
      have H':=ae.mk H
      clear H
      obtain ⟨yn,yo,BF,BG,IU,IV,IW,ME,MF,yt,yu,BH,BI,IX,IY,IZ,MG,MH⟩:=iI jf.out
      go_wp2
      go_meet
      case rel=>exact ⟨_,(true),nI,H',⟨Ww⟩,⟨iq⟩,⟨gM⟩⟩
     ·rw [if_neg c10] at H
      have Ad:decide (12 < ak) = false:=decide_eq_false c10
      clear c10
      by_cases c12:ax < 100
      ·rw [if_pos c12] at H
       have QV:decide (ax < 100) = true:=decide_eq_true c12
       clear c12
       have H':=ae.mk H
       clear H
       obtain ⟨uW,uX,Bt,Bu,Kt,Ku,Kv,TZ,T9,uY,uZ,Bv,Bw,Kw,Ky,Kz,Ua,Ub⟩:=iI jf.out
       go_wp2
       go_meet
       case rel=>exact ⟨_,(true),nI,H',⟨Ww⟩,⟨iq⟩,⟨gM⟩⟩
      ·rw [if_neg c12] at H
       have QV:decide (ax < 100) = false:=decide_eq_false c12
       clear c12
       by_cases c14:ax > 65536
       ·rw [if_pos c14] at H
        have aaQ:decide (65536 < ax) = true:=decide_eq_true c14
        clear c14
        have H':=ae.mk H
        clear H
        obtain ⟨pM,pO,rJ,rM,u6,u7,ve,wH,wI,pQ,pR,rO,rP,vg,vk,vo,wJ,wK⟩:=iI jf.out
        go_wp2
        go_meet
        case rel=>exact ⟨_,(true),nI,H',⟨Ww⟩,⟨iq⟩,⟨gM⟩⟩
       ·rw [if_neg c14] at H
        have aaQ:decide (65536 < ax) = false:=decide_eq_false c14
        clear c14
        by_cases c16:ay < 1
        ·rw [if_pos c16] at H
         have yw:decide (ay < 1) = true:=decide_eq_true c16
         clear c16
         have H':=ae.mk H
         clear H
         obtain ⟨yE,yF,yG,yH,El,Em,En,MM,MN,yI,yJ,yK,yL,Eo,Ep,Er,MO,MP⟩:=iI jf.out
         go_wp2
         go_meet
         case rel=>exact ⟨_,(true),nI,H',⟨Ww⟩,⟨iq⟩,⟨gM⟩⟩
        ·rw [if_neg c16] at H
         have yw:decide (ay < 1) = false:=decide_eq_false c16
         clear c16
         by_cases c18:ay > 1048576
         ·rw [if_pos c18] at H
          have Mc:decide (1048576 < ay) = true:=decide_eq_true c18
          clear c18
          have H':=ae.mk H
          clear H
          obtain ⟨yx,yz,BR,BS,I1,I4,I5,MQ,MR,yA,yB,BU,BV,I6,I7,I8,MS,MU⟩:=iI jf.out
          go_wp2
          go_meet
          case rel=>exact ⟨_,(true),nI,H',⟨Ww⟩,⟨iq⟩,⟨gM⟩⟩
         ·rw [if_neg c18] at H
          have Mc:decide (1048576 < ay) = false:=decide_eq_false c18
          clear c18
          by_cases c20:aJ < 1
          ·rw [if_pos c20] at H
           have Q6:decide (aJ < 1) = true:=decide_eq_true c20
           clear c20
           have H':=ae.mk H
           clear H
           obtain ⟨qE,qF,tC,tF,tH,tJ,tK,Oh,Oi,qG,qH,tL,tN,tO,tQ,tT,Oj,Ol⟩:=iI jf.out
           go_wp2
           go_meet
           case rel=>exact ⟨_,(true),nI,H',⟨Ww⟩,⟨iq⟩,⟨gM⟩⟩
          ·rw [if_neg c20] at H
           have Q6:decide (aJ < 1) = false:=decide_eq_false c20
           clear c20
           by_cases Wv:aJ > 16
           ·rw [if_pos Wv] at H
            have aaR:decide (16 < aJ) = true:=decide_eq_true Wv
            clear Wv
            have H':=ae.mk H
            clear H
            obtain ⟨qI,qJ,tV,tX,KA,KC,KD,Om,Oo,qK,qL,tY,tZ,KE,KF,KG,Oq,Ot⟩:=iI jf.out
            go_wp2
            go_meet
            case rel=>exact ⟨_,(true),nI,H',⟨Ww⟩,⟨iq⟩,⟨gM⟩⟩
           ·rw [if_neg Wv] at H
            have aaR:decide (16 < aJ) = false:=decide_eq_false Wv
            clear Wv
            by_cases c24:aC < 1
            ·rw [if_pos c24] at H
             have aaS:decide (aC < 1) = true:=decide_eq_true c24
             clear c24
             have H':=ae.mk H
             clear H
             obtain ⟨zk,zl,zm,zn,Cv,Cw,Cx,Nb,Nc,zo,zq,zt,zu,Cy,Cz,CB,Nf,Ng⟩:=iI jf.out
             go_wp2
             go_meet
             case rel=>exact ⟨_,(true),nI,H',⟨Ww⟩,⟨iq⟩,⟨gM⟩⟩
            ·rw [if_neg c24] at H
             have aaS:decide (aC < 1) = false:=decide_eq_false c24
             clear c24
             by_cases Qb:aC > 3
             ·rw [if_pos Qb] at H
              have QR:decide (3 < aC) = true:=decide_eq_true Qb
              clear Qb
              have H':=ae.mk H
              clear H
              obtain ⟨CE,CF,CG,CJ,Gn,Gp,Gq,Uc,Ud,CK,CL,CO,CP,Gr,Gs,Gt,Ue,Uf⟩:=iI jf.out
              go_wp2
              go_meet
              case rel=>exact ⟨_,(true),nI,H',⟨Ww⟩,⟨iq⟩,⟨gM⟩⟩
             ·rw [if_neg Qb] at H
              have QR:decide (3 < aC) = false:=decide_eq_false Qb
              clear Qb
              by_cases c28:aG < 0
              ·rw [if_pos c28] at H
               have aaT:decide (aG < 0) = true:=decide_eq_true c28
               clear c28
               have H':=ae.mk H
               clear H
               obtain ⟨Ec,Ed,Ee,Ef,Jv,Jw,Jy,Nh,Nk,Eg,Eh,Ei,Ej,Jz,JA,JB,Nl,Nn⟩:=iI jf.out
               go_wp2
               go_meet
               case rel=>exact ⟨_,(true),nI,H',⟨Ww⟩,⟨iq⟩,⟨gM⟩⟩
              ·rw [if_neg c28] at H
               have aaT:decide (aG < 0) = false:=decide_eq_false c28
               clear c28
               have H':=ae.mk H
               clear H
               obtain ⟨EK,EL,EM,EN,JC,JD,JE,Ug,Uh,EO,EP,ER,ES,JF,JG,JH,Ui,Uj⟩:=iI jf.out
               go_wp2
               go_meet
               case rel=>exact ⟨_,(decide (aG > 5000)),nI,H',⟨Ww⟩,⟨iq⟩,⟨gM⟩⟩
 case rest =>
  clear HC2
  try clear c1
  try clear c2
  try clear p2
  try clear c4
  try clear rW
  try clear c6
  try clear Dp
  try clear c8
  try clear Lb
  try clear c10
  try clear Ad
  try clear c12
  try clear QV
  try clear c14
  try clear aaQ
  try clear c16
  try clear yw
  try clear c18
  try clear Mc
  try clear c20
  try clear Q6
  try clear Wv
  try clear aaR
  try clear c24
  try clear aaS
  try clear Qb
  try clear QR
  try clear c28
  try clear aaT
  try clear yn yo BF BG IU IV IW ME MF
  try clear uW uX Bt Bu Kt Ku Kv TZ T9
  try clear pM pO rJ rM u6 u7 ve wH wI
  try clear yE yF yG yH El Em En MM MN
  try clear yx yz BR BS I1 I4 I5 MQ MR
  try clear qE qF tC tF tH tJ tK Oh Oi
  try clear qI qJ tV tX KA KC KD Om Oo
  try clear zk zl zm zn Cv Cw Cx Nb Nc
  try clear CE CF CG CJ Gn Gp Gq Uc Ud
  try clear Ec Ed Ee Ef Jv Jw Jy Nh Nk
  try clear EK EL EM EN JC JD JE Ug Uh
  try clear XK XL XM XN XO XP XQ XR XT
  try clear xI xJ Dx Dy G6 G7 G8 Lg Lh
  try clear Dr Dt K7 K8 RO RP RQ RS RU
  try clear yt yu BH BI IX IY IZ MG MH
  try clear uY uZ Bv Bw Kw Ky Kz Ua Ub
  try clear pQ pR rO rP vg vk vo wJ wK
  try clear yI yJ yK yL Eo Ep Er MO MP
  try clear yA yB BU BV I6 I7 I8 MS MU
  try clear qG qH tL tN tO tQ tT Oj Ol
  try clear qK qL tY tZ KE KF KG Oq Ot
  try clear zo zq zt zu Cy Cz CB Nf Ng
  try clear CK CL CO CP Gr Gs Gt Ue Uf
  try clear Eg Eh Ei Ej Jz JA JB Nl Nn
  try clear EO EP ER ES JF JG JH Ui Uj
  try clear XU XV XW XX XY XZ X0 X3 X4
  try clear xK xL Dz DC G9 Ha Hd Li Lj
  try clear Du Dv K9 La RV RX RY RZ R3
  obtain ⟨kq,aaP,rfl,HA,HJ1,jf,HB⟩:=hcut
  cases kq with
  |zero=>exact absurd HA.out (by simp [ai.j0])
  |succ kj1 =>
   have H:=HA.out
   clear HA
   simp only [ai.j0] at H
   by_cases c31:aaP = true
   ·subst c31
    have H1:(some 2) = some r:=by rw [if_pos rfl] at H;exact H
    clear H
    have H:=H1
    clear H1
    obtain rfl:=Option.some.inj H
    go_wp2
    go_ret
    exact ⟨lJ,gM⟩
   ·replace c31:=Bool.eq_false_iff.mpr c31
    subst c31
    have H1:(if (aN.length:Int) = (wrap64 (aj*ak)) then (ai.j1 kj1 ((av.length:Int) != (wrap64 ((wrap64 ((wrap64 (aJ*aC))*aj))*ak))) aj ak ax ay aJ aC aG aN av) else (ai.j1 kj1 true aj ak ax ay aJ aC aG aN av)) = some r:=by rw [if_neg (show ¬ (false = true) by decide)] at H;exact H
    clear H
    have H:=H1
    clear H1
    have an4:=ae.mk H
    clear H
    go_upto_region 3 with (fail)
    go_cut [97] (fun v97 wc=>∃ (kq:Nat) (Uk:Bool),v97 = .bool Uk∧ae (ai.j1 kq Uk aj ak ax ay aJ aC aG aN av = some r)∧ae (kq≤kj1)∧ae (wc.heap[mE]? = some (.cells #[.int .i64 aj,.int .i64 ak,.int .i64 ax,.int .i64 ay,.int .i64 aJ,.int .i64 aC,.int .i64 aG,(.slice dH aN.length dD),(.slice dG av.length dE)] 25 (0,0)))∧ae (Below w.heap.size w wc))
    case first =>
     have H:=an4.out
     clear an4
     by_cases Vk:(aN.length:Int) = (wrap64 (aj*ak))
     ·rw [if_pos Vk] at H
      have PH:((aN.length:Int) == (wrap64 (aj*ak))) = true:=beq_iff_eq.mpr Vk
      have afm:((aN.length:Int) != (wrap64 (aj*ak))) = false:=bne_eq_false_iff_eq.mpr Vk
      clear Vk
      (first|rw [PH]|(simp only [fD,fJ];rw [PH])|skip)
      have H':=ae.mk H
      clear H
      obtain ⟨JI,JJ,JK,JL,Np,Nq,Nr,Tj,Tk,JM,JN,JO,JP,Ns,Nt,Nu,Tm,Tn⟩:=iI jf.out
      go_wp2
      go_meet
      case rel=>exact ⟨_,(((av.length:Int) != (wrap64 ((wrap64 ((wrap64 (aJ*aC))*aj))*ak)))),nI,H',⟨by have:=HJ1.out;first|omega|exact Nat.le_refl _⟩,⟨iq⟩,⟨gM⟩⟩
     ·rw [if_neg Vk] at H
      have PH:((aN.length:Int) == (wrap64 (aj*ak))) = false:=beq_eq_false_iff_ne.mpr Vk
      have afm:((aN.length:Int) != (wrap64 (aj*ak))) = true:=bne_iff_ne.mpr Vk
      (first|rw [PH]|(simp only [fD,fJ];rw [PH])|skip)
      have H':=ae.mk H
      clear H
      obtain ⟨Bz,BA,D8,D9,Ou,Ov,Ow,aaU,aaV,BC,BD,Ea,Eb,Ox,Oy,Oz,aaW,aaX⟩:=iI jf.out
      go_wp2
      go_meet
      case rel=>exact ⟨_,(true),nI,H',⟨by have:=HJ1.out;first|omega|exact Nat.le_refl _⟩,⟨iq⟩,⟨gM⟩⟩
    case rest =>
     clear an4
     try clear c1
     try clear c2
     try clear p2
     try clear c3
     try clear c4
     try clear rW
     try clear c6
     try clear Dp
     try clear p6
     try clear c8
     try clear Lb
     try clear c10
     try clear Ad
     try clear c12
     try clear QV
     try clear c14
     try clear aaQ
     try clear c16
     try clear yw
     try clear c18
     try clear Mc
     try clear c20
     try clear Q6
     try clear Wv
     try clear aaR
     try clear c24
     try clear aaS
     try clear Qb
     try clear QR
     try clear c28
     try clear aaT
     try clear c31
     try clear Vk
     try clear PH
     try clear afm
     try clear yn yo BF BG IU IV IW ME MF
     try clear uW uX Bt Bu Kt Ku Kv TZ T9
     try clear pM pO rJ rM u6 u7 ve wH wI
     try clear yE yF yG yH El Em En MM MN
     try clear yx yz BR BS I1 I4 I5 MQ MR
     try clear qE qF tC tF tH tJ tK Oh Oi
     try clear qI qJ tV tX KA KC KD Om Oo
     try clear zk zl zm zn Cv Cw Cx Nb Nc
     try clear CE CF CG CJ Gn Gp Gq Uc Ud
     try clear Ec Ed Ee Ef Jv Jw Jy Nh Nk
     try clear EK EL EM EN JC JD JE Ug Uh
     try clear JI JJ JK JL Np Nq Nr Tj Tk
     try clear Bz BA D8 D9 Ou Ov Ow aaU aaV
     try clear XK XL XM XN XO XP XQ XR XT
     try clear xI xJ Dx Dy G6 G7 G8 Lg Lh
     try clear Dr Dt K7 K8 RO RP RQ RS RU
     try clear yt yu BH BI IX IY IZ MG MH
     try clear uY uZ Bv Bw Kw Ky Kz Ua Ub
     try clear pQ pR rO rP vg vk vo wJ wK
     try clear yI yJ yK yL Eo Ep Er MO MP
     try clear yA yB BU BV I6 I7 I8 MS MU
     try clear qG qH tL tN tO tQ tT Oj Ol
     try clear qK qL tY tZ KE KF KG Oq Ot
     try clear zo zq zt zu Cy Cz CB Nf Ng
     try clear CK CL CO CP Gr Gs Gt Ue Uf
     try clear Eg Eh Ei Ej Jz JA JB Nl Nn
     try clear EO EP ER ES JF JG JH Ui Uj
     try clear JM JN JO JP Ns Nt Nu Tm Tn
     try clear BC BD Ea Eb Ox Oy Oz aaW aaX
     try clear XU XV XW XX XY XZ X0 X3 X4
     try clear xK xL Dz DC G9 Ha Hd Li Lj
     try clear Du Dv K9 La RV RX RY RZ R3
     try clear p2
     obtain ⟨kq,Uk,rfl,HA,auf,jf,HB⟩:=hcut
     cases kq with
     |zero=>exact absurd HA.out (by simp [ai.j1])
     |succ an5 =>
      have H:=HA.out
      clear HA
      simp only [ai.j1] at H
      by_cases c36:Uk = true
      ·subst c36
       have H1:(some 2) = some r:=by rw [if_pos rfl] at H;exact H
       clear H
       have H:=H1
       clear H1
       obtain rfl:=Option.some.inj H
       go_wp2
       go_ret
       exact ⟨lJ,gM⟩
      ·replace c36:=Bool.eq_false_iff.mpr c36
       subst c36
       have H1:(ai.l0 an5 0 aj ak ax ay aJ aC aG aN av) = some r:=by rw [if_neg (show ¬ (false = true) by decide)] at H;exact H
       clear H
       have H:=H1
       clear H1
       have H':=ae.mk H
       clear H
       go_wp2
       go_loopg [3] an5 (fun kq v3 w'=>∃ (gu:Int),v3 = .int .i64 gu∧ae (ai.l0 kq gu aj ak ax ay aJ aC aG aN av = some r)∧ae (kq≤an5)∧ae (w'.heap[mE]? = some (.cells #[.int .i64 aj,.int .i64 ak,.int .i64 ax,.int .i64 ay,.int .i64 aJ,.int .i64 aC,.int .i64 aG,(.slice dH aN.length dD),(.slice dG av.length dE)] 25 (0,0)))∧ae (Below w.heap.size w w'))
       case atStart=>exact ⟨(0),nI,H',⟨Nat.le_refl _⟩,⟨iq⟩,⟨gM⟩⟩
       case round =>
        clear H'
        try clear c1
        try clear c2
        try clear p2
        try clear c3
        try clear c4
        try clear rW
        try clear c6
        try clear Dp
        try clear p6
        try clear c8
        try clear Lb
        try clear c10
        try clear Ad
        try clear c12
        try clear QV
        try clear c14
        try clear aaQ
        try clear c16
        try clear yw
        try clear c18
        try clear Mc
        try clear c20
        try clear Q6
        try clear Wv
        try clear aaR
        try clear c24
        try clear aaS
        try clear Qb
        try clear QR
        try clear c28
        try clear aaT
        try clear c31
        try clear Vk
        try clear PH
        try clear afm
        try clear c36
        try clear yn yo BF BG IU IV IW ME MF
        try clear uW uX Bt Bu Kt Ku Kv TZ T9
        try clear pM pO rJ rM u6 u7 ve wH wI
        try clear yE yF yG yH El Em En MM MN
        try clear yx yz BR BS I1 I4 I5 MQ MR
        try clear qE qF tC tF tH tJ tK Oh Oi
        try clear qI qJ tV tX KA KC KD Om Oo
        try clear zk zl zm zn Cv Cw Cx Nb Nc
        try clear CE CF CG CJ Gn Gp Gq Uc Ud
        try clear Ec Ed Ee Ef Jv Jw Jy Nh Nk
        try clear EK EL EM EN JC JD JE Ug Uh
        try clear JI JJ JK JL Np Nq Nr Tj Tk
        try clear Bz BA D8 D9 Ou Ov Ow aaU aaV
        try clear XK XL XM XN XO XP XQ XR XT
        try clear xI xJ Dx Dy G6 G7 G8 Lg Lh
        try clear Dr Dt K7 K8 RO RP RQ RS RU
        try clear yt yu BH BI IX IY IZ MG MH
        try clear uY uZ Bv Bw Kw Ky Kz Ua Ub
        try clear pQ pR rO rP vg vk vo wJ wK
        try clear yI yJ yK yL Eo Ep Er MO MP
        try clear yA yB BU BV I6 I7 I8 MS MU
        try clear qG qH tL tN tO tQ tT Oj Ol
        try clear qK qL tY tZ KE KF KG Oq Ot
        try clear zo zq zt zu Cy Cz CB Nf Ng
        try clear CK CL CO CP Gr Gs Gt Ue Uf
        try clear Eg Eh Ei Ej Jz JA JB Nl Nn
        try clear EO EP ER ES JF JG JH Ui Uj
        try clear JM JN JO JP Ns Nt Nu Tm Tn
        try clear BC BD Ea Eb Ox Oy Oz aaW aaX
        try clear XU XV XW XX XY XZ X0 X3 X4
        try clear xK xL Dz DC G9 Ha Hd Li Lj
        try clear Du Dv K9 La RV RX RY RZ R3
        try clear p2
        try clear p6
        obtain ⟨gu,rfl,HA,YU,jf,HB⟩:=hrel
        cases gk with
        |zero=>exact absurd HA.out (by simp [ai.l0])
        |succ k3 =>
         have H:=HA.out
         clear HA
         simp only [ai.l0] at H
         by_cases c37:gu < (av.length:Int)
         ·rw [if_pos c37] at H
          have auh:decide (gu < (av.length:Int)) = true:=decide_eq_true c37
          clear c37
          by_cases c38:0≤gu
          ·rw [if_pos c38] at H
           have aHX:decide (0≤gu) = true:=decide_eq_true c38
           clear c38
           replace H:=Option.bind_eq_some_iff.mp H
           obtain ⟨t109,aeT,H⟩:=H
           replace H:(if t109 = true then ((bI.f ((aH av gu).f1.f0) ((aH av gu).f1.f1) (wrap64 (-aG)) aG).bind fun t111=>(if t111 = true then (ai.l0 k3 (wrap64 (gu+1)) aj ak ax ay aJ aC aG aN av) else (some 2))) else (some 2)) = some r:=H
           have A39:=ae.mk aeT
           clear aeT
           by_cases c40:t109 = true
           ·subst c40
            have H1:((bI.f ((aH av gu).f1.f0) ((aH av gu).f1.f1) (wrap64 (-aG)) aG).bind fun t111=>(if t111 = true then (ai.l0 k3 (wrap64 (gu+1)) aj ak ax ay aJ aC aG aN av) else (some 2))) = some r:=by rw [if_pos rfl] at H;exact H
            clear H
            have H:=H1
            clear H1
            replace H:=Option.bind_eq_some_iff.mp H
            obtain ⟨t111,aeP,H⟩:=H
            replace H:(if t111 = true then (ai.l0 k3 (wrap64 (gu+1)) aj ak ax ay aJ aC aG aN av) else (some 2)) = some r:=H
            have A41:=ae.mk aeP
            clear aeP
            by_cases c42:t111 = true
            ·subst c42
             have H1:(ai.l0 k3 (wrap64 (gu+1)) aj ak ax ay aJ aC aG aN av) = some r:=by rw [if_pos rfl] at H;exact H
             clear H
             have H:=H1
             clear H1
             have H':=ae.mk H
             clear H
             obtain ⟨Y3,Y4,Y5,Y6,agR,agS,agT,agU,agV,Y7,Y8,Y9,Za,agW,agX,agY,agZ,ag0⟩:=iI jf.out
             try go_wp2
             replace jf:=ae.mk (ah jf.out)
             replace HB:=ae.mk (bW HB.out)
             have PI:0≤(gu:Int):=of_decide_eq_true lX
             have PK:gu < (av.length:Int):=of_decide_eq_true lX
             obtain ⟨j3,e108,mZ,ng,ni,nk⟩:=zR fF.out gu PI PK
             have mg:=nk
             have mh:=ni
             have mi:=ng
             have mo:=mZ
             cases e108
             replace mZ:=(HB.out.cell (World.block_lt_of_cell? w _ mZ)).trans mZ
             replace ng:=(HB.out.cell (World.block_lt_of_cell? w _ ng)).trans ng
             replace ni:=(HB.out.cell (World.block_lt_of_cell? w _ ni)).trans ni
             replace nk:=(HB.out.cell (World.block_lt_of_cell? w _ nk)).trans nk
             replace PI:=eq_true PI
             replace PK:=eq_true PK
             have X5:0≤(gu:Int):=of_decide_eq_true lX
             have X6:gu < (av.length:Int):=of_decide_eq_true lX
             obtain ⟨afn,an6,ug,uh,ui,uj⟩:=zR fF.out gu X5 X6
             have pY:=uj
             have p8:=ui
             have p9:=uh
             have qa:=ug
             obtain rfl:j3 = afn:=(by injection an6)
             replace ug:=(HB.out.cell (World.block_lt_of_cell? w _ ug)).trans ug
             replace uh:=(HB.out.cell (World.block_lt_of_cell? w _ uh)).trans uh
             replace ui:=(HB.out.cell (World.block_lt_of_cell? w _ ui)).trans ui
             replace uj:=(HB.out.cell (World.block_lt_of_cell? w _ uj)).trans uj
             replace X5:=eq_true X5
             replace X6:=eq_true X6
             refine jI (n:=28) (S:=fun w'=>w'.cell? ⟨mE,0,none⟩ = some (.int .i64 aj)∧w'.cell? ⟨mE,1,none⟩ = some (.int .i64 ak)∧w'.cell? ⟨mE,2,none⟩ = some (.int .i64 ax)∧w'.cell? ⟨mE,3,none⟩ = some (.int .i64 ay)∧w'.cell? ⟨mE,4,none⟩ = some (.int .i64 aJ)∧w'.cell? ⟨mE,5,none⟩ = some (.int .i64 aC)∧w'.cell? ⟨mE,6,none⟩ = some (.int .i64 aG)∧w'.cell? ⟨mE,7,none⟩ = some (.slice dH aN.length dD)∧w'.cell? ⟨mE,8,none⟩ = some (.slice (some j3) av.length dE)∧w'.cell? (j3.add ((gu).toNat*4)) = some (.int .i64 ((aH av gu).f0.f0))∧w'.cell? ⟨(j3.add ((gu).toNat*4)).block,(j3.add ((gu).toNat*4)).off+1,none⟩ = some (.int .i64 ((aH av gu).f0.f1))∧w'.cell? ⟨(j3.add ((gu).toNat*4)).block,(j3.add ((gu).toNat*4)).off+2,none⟩ = some (.int .i64 ((aH av gu).f1.f0))∧w'.cell? ⟨(j3.add ((gu).toNat*4)).block,(j3.add ((gu).toNat*4)).off+3,none⟩ = some (.int .i64 ((aH av gu).f1.f1))∧w'.cell? (j3.add ((gu).toNat*4)) = some (.int .i64 ((aH av gu).f0.f0))∧w'.cell? ⟨(j3.add ((gu).toNat*4)).block,(j3.add ((gu).toNat*4)).off+1,none⟩ = some (.int .i64 ((aH av gu).f0.f1))∧w'.cell? ⟨(j3.add ((gu).toNat*4)).block,(j3.add ((gu).toNat*4)).off+2,none⟩ = some (.int .i64 ((aH av gu).f1.f0))∧w'.cell? ⟨(j3.add ((gu).toNat*4)).block,(j3.add ((gu).toNat*4)).off+3,none⟩ = some (.int .i64 ((aH av gu).f1.f1))) (ds:=[]) #[false,false,false,false,false,false,false,false,false,false,false,false,false,false,false,false,false,false,false,false,false,false,false,false,false,false,false,false] aR rfl rfl (uq jf.out ⟨((HB.out.cell (World.block_lt_of_cell? w _ mo)).trans mo),((HB.out.cell (World.block_lt_of_cell? w _ mi)).trans mi),((HB.out.cell (World.block_lt_of_cell? w _ mh)).trans mh),((HB.out.cell (World.block_lt_of_cell? w _ mg)).trans mg),((HB.out.cell (World.block_lt_of_cell? w _ qa)).trans qa),((HB.out.cell (World.block_lt_of_cell? w _ p9)).trans p9),((HB.out.cell (World.block_lt_of_cell? w _ p8)).trans p8),((HB.out.cell (World.block_lt_of_cell? w _ pY)).trans pY)⟩) (fun hHeld=>?_);refine iM ai.an3 ai.afl (fun bN jX=>?_)
             generalize wr.drew = w44 at jf HB mZ ng ni nk ug uh ui uj hHeld ⊢
             refine dJ (i:=0) (N:=some 105) (aD bN.out aR) ?_
             refine dJ (i:=2) (N:=some 107) (aD bN.out aR) ?_
             refine dJ (i:=6) (N:=some 111) (aD bN.out aR) ?_
             refine dJ (i:=9) (N:=some 114) (aD bN.out aR) ?_
             refine ja (i:=1) (N:=some 106) (bq bN.out jX.out aR) hHeld ?_
             refine dJ (i:=3) (N:=some 108) (aD bN.out aR) ?_
             refine dJ (i:=4) (N:=some 109) (aD bN.out aR) ?_
             refine ja (i:=5) (N:=some 110) (bq bN.out jX.out aR) hHeld ?_
             refine ja (i:=7) (N:=some 112) (bq bN.out jX.out aR) hHeld ?_
             refine dJ (i:=8) (N:=some 113) (aD bN.out aR) ?_
             refine ja (i:=10) (N:=some 115) (bq bN.out jX.out aR) hHeld ?_
             refine jq (i:=11) (N:=some 116) #[true,true,true,true,true,true,true,true,true,true,true,true,false,false,false,false,false,false,false,false,false,false,false,false,false,false,false,false] rfl rfl (fE bN.out aR) (by decide) (fun K hK=>?_)
             refine gV Try.func78 aR rfl #[.agg #[.int .i64 ((aH av gu).f0.f0),.int .i64 ((aH av gu).f0.f1)],.int .i64 (wrap64 (-aG)),.int .i64 aG] (by rfl) rfl rfl jJ ?_
             with_reducible refine (bI.calls ((aH av gu).f0.f0) ((aH av gu).f0.f1) (wrap64 (-aG)) aG true _ A39.out).mono ?_
             rintro e w45 ⟨rfl,hb⟩
             refine ⟨_,rfl,?_⟩
             replace jf:=bC jf hb
             replace HB:=dF HB hb
             (try clear hb)
             (try clear hb2)
             (try clear hk)
             (try clear hi)
             refine hK.out _ _ (uq jf.out ⟨((HB.out.cell (World.block_lt_of_cell? w _ mo)).trans mo),((HB.out.cell (World.block_lt_of_cell? w _ mi)).trans mi),((HB.out.cell (World.block_lt_of_cell? w _ mh)).trans mh),((HB.out.cell (World.block_lt_of_cell? w _ mg)).trans mg),((HB.out.cell (World.block_lt_of_cell? w _ qa)).trans qa),((HB.out.cell (World.block_lt_of_cell? w _ p9)).trans p9),((HB.out.cell (World.block_lt_of_cell? w _ p8)).trans p8),((HB.out.cell (World.block_lt_of_cell? w _ pY)).trans pY)⟩) (fun hHeld=>?_)
             clear hK K
             refine ek zq9 ?_
             refine dJ (i:=12) (N:=some 117) (aD bN.out aR) ?_
             refine dJ (i:=13) (N:=some 118) (aD bN.out aR) ?_
             refine dJ (i:=14) (N:=some 119) (aD bN.out aR) ?_
             refine dJ (i:=16) (N:=some 121) (aD bN.out aR) ?_
             refine dJ (i:=20) (N:=some 125) (aD bN.out aR) ?_
             refine dJ (i:=23) (N:=some 128) (aD bN.out aR) ?_
             refine ja (i:=15) (N:=some 120) (bq bN.out jX.out aR) hHeld ?_
             refine dJ (i:=17) (N:=some 122) (aD bN.out aR) ?_
             refine dJ (i:=18) (N:=some 123) (aD bN.out aR) ?_
             refine ja (i:=19) (N:=some 124) (bq bN.out jX.out aR) hHeld ?_
             refine ja (i:=21) (N:=some 126) (bq bN.out jX.out aR) hHeld ?_
             refine dJ (i:=22) (N:=some 127) (aD bN.out aR) ?_
             refine ja (i:=24) (N:=some 129) (bq bN.out jX.out aR) hHeld ?_
             refine jq (i:=25) (N:=some 130) #[true,true,true,true,true,true,true,true,true,true,true,true,true,true,true,true,true,true,true,true,true,true,true,true,true,true,false,false] rfl rfl (fE bN.out aR) (by decide) (fun K hK=>?_)
             refine gV Try.func78 aR rfl #[.agg #[.int .i64 ((aH av gu).f1.f0),.int .i64 ((aH av gu).f1.f1)],.int .i64 (wrap64 (-aG)),.int .i64 aG] (by rfl) rfl rfl jJ ?_
             with_reducible refine (bI.calls ((aH av gu).f1.f0) ((aH av gu).f1.f1) (wrap64 (-aG)) aG true _ A41.out).mono ?_
             rintro e w46 ⟨rfl,hb⟩
             refine ⟨_,rfl,?_⟩
             replace jf:=bC jf hb
             replace HB:=dF HB hb
             (try clear hb)
             (try clear hb2)
             (try clear hk)
             (try clear hi)
             refine hK.out _ _ (uq jf.out ⟨((HB.out.cell (World.block_lt_of_cell? w _ mo)).trans mo),((HB.out.cell (World.block_lt_of_cell? w _ mi)).trans mi),((HB.out.cell (World.block_lt_of_cell? w _ mh)).trans mh),((HB.out.cell (World.block_lt_of_cell? w _ mg)).trans mg),((HB.out.cell (World.block_lt_of_cell? w _ qa)).trans qa),((HB.out.cell (World.block_lt_of_cell? w _ p9)).trans p9),((HB.out.cell (World.block_lt_of_cell? w _ p8)).trans p8),((HB.out.cell (World.block_lt_of_cell? w _ pY)).trans pY)⟩) (fun hHeld=>?_)
             clear hK K
             refine ek at6 ?_
             refine dJ (i:=26) (N:=some 131) (aD bN.out aR) ?_
             refine dJ (i:=27) (N:=some 132) (aD bN.out aR) ?_
             refine lC (kF bN.out aR) ?_
             try go_wp2
             go_roundg k3
             case measure=>have:=HJ1.out;have:=auf.out;have:=YU.out;omega
             case rel=>exact ⟨(wrap64 (gu+1)),nI,H',⟨by have:=HJ1.out;have:=auf.out;have:=YU.out;omega⟩,⟨iq⟩,⟨gM⟩⟩
            ·replace c42:=Bool.eq_false_iff.mpr c42
             subst c42
             have H1:(some 2) = some r:=by rw [if_neg (show ¬ (false = true) by decide)] at H;exact H
             clear H
             have H:=H1
             clear H1
             obtain rfl:=Option.some.inj H
             obtain ⟨Tz,TA,TB,TC,aax,aay,aaz,ajp,ajq,TD,TE,TF,TG,aaA,aaB,aaC,ajr,ajs⟩:=iI jf.out
             try go_wp2
             replace jf:=ae.mk (ah jf.out)
             replace HB:=ae.mk (bW HB.out)
             have PI:0≤(gu:Int):=of_decide_eq_true lX
             have PK:gu < (av.length:Int):=of_decide_eq_true lX
             obtain ⟨j3,e108,mZ,ng,ni,nk⟩:=zR fF.out gu PI PK
             have mg:=nk
             have mh:=ni
             have mi:=ng
             have mo:=mZ
             cases e108
             replace mZ:=(HB.out.cell (World.block_lt_of_cell? w _ mZ)).trans mZ
             replace ng:=(HB.out.cell (World.block_lt_of_cell? w _ ng)).trans ng
             replace ni:=(HB.out.cell (World.block_lt_of_cell? w _ ni)).trans ni
             replace nk:=(HB.out.cell (World.block_lt_of_cell? w _ nk)).trans nk
             replace PI:=eq_true PI
             replace PK:=eq_true PK
             have X5:0≤(gu:Int):=of_decide_eq_true lX
             have X6:gu < (av.length:Int):=of_decide_eq_true lX
             obtain ⟨afn,an6,ug,uh,ui,uj⟩:=zR fF.out gu X5 X6
             have pY:=uj
             have p8:=ui
             have p9:=uh
             have qa:=ug
             obtain rfl:j3 = afn:=(by injection an6)
             replace ug:=(HB.out.cell (World.block_lt_of_cell? w _ ug)).trans ug
             replace uh:=(HB.out.cell (World.block_lt_of_cell? w _ uh)).trans uh
             replace ui:=(HB.out.cell (World.block_lt_of_cell? w _ ui)).trans ui
             replace uj:=(HB.out.cell (World.block_lt_of_cell? w _ uj)).trans uj
             replace X5:=eq_true X5
             replace X6:=eq_true X6
             refine jI (n:=28) (S:=fun w'=>w'.cell? ⟨mE,0,none⟩ = some (.int .i64 aj)∧w'.cell? ⟨mE,1,none⟩ = some (.int .i64 ak)∧w'.cell? ⟨mE,2,none⟩ = some (.int .i64 ax)∧w'.cell? ⟨mE,3,none⟩ = some (.int .i64 ay)∧w'.cell? ⟨mE,4,none⟩ = some (.int .i64 aJ)∧w'.cell? ⟨mE,5,none⟩ = some (.int .i64 aC)∧w'.cell? ⟨mE,6,none⟩ = some (.int .i64 aG)∧w'.cell? ⟨mE,7,none⟩ = some (.slice dH aN.length dD)∧w'.cell? ⟨mE,8,none⟩ = some (.slice (some j3) av.length dE)∧w'.cell? (j3.add ((gu).toNat*4)) = some (.int .i64 ((aH av gu).f0.f0))∧w'.cell? ⟨(j3.add ((gu).toNat*4)).block,(j3.add ((gu).toNat*4)).off+1,none⟩ = some (.int .i64 ((aH av gu).f0.f1))∧w'.cell? ⟨(j3.add ((gu).toNat*4)).block,(j3.add ((gu).toNat*4)).off+2,none⟩ = some (.int .i64 ((aH av gu).f1.f0))∧w'.cell? ⟨(j3.add ((gu).toNat*4)).block,(j3.add ((gu).toNat*4)).off+3,none⟩ = some (.int .i64 ((aH av gu).f1.f1))∧w'.cell? (j3.add ((gu).toNat*4)) = some (.int .i64 ((aH av gu).f0.f0))∧w'.cell? ⟨(j3.add ((gu).toNat*4)).block,(j3.add ((gu).toNat*4)).off+1,none⟩ = some (.int .i64 ((aH av gu).f0.f1))∧w'.cell? ⟨(j3.add ((gu).toNat*4)).block,(j3.add ((gu).toNat*4)).off+2,none⟩ = some (.int .i64 ((aH av gu).f1.f0))∧w'.cell? ⟨(j3.add ((gu).toNat*4)).block,(j3.add ((gu).toNat*4)).off+3,none⟩ = some (.int .i64 ((aH av gu).f1.f1))) (ds:=[]) #[false,false,false,false,false,false,false,false,false,false,false,false,false,false,false,false,false,false,false,false,false,false,false,false,false,false,false,false] aR rfl rfl (uq jf.out ⟨((HB.out.cell (World.block_lt_of_cell? w _ mo)).trans mo),((HB.out.cell (World.block_lt_of_cell? w _ mi)).trans mi),((HB.out.cell (World.block_lt_of_cell? w _ mh)).trans mh),((HB.out.cell (World.block_lt_of_cell? w _ mg)).trans mg),((HB.out.cell (World.block_lt_of_cell? w _ qa)).trans qa),((HB.out.cell (World.block_lt_of_cell? w _ p9)).trans p9),((HB.out.cell (World.block_lt_of_cell? w _ p8)).trans p8),((HB.out.cell (World.block_lt_of_cell? w _ pY)).trans pY)⟩) (fun hHeld=>?_);refine iM ai.an3 ai.afl (fun bN jX=>?_)
             generalize wr.drew = w48 at jf HB mZ ng ni nk ug uh ui uj hHeld ⊢
             refine dJ (i:=0) (N:=some 105) (aD bN.out aR) ?_
             refine dJ (i:=2) (N:=some 107) (aD bN.out aR) ?_
             refine dJ (i:=6) (N:=some 111) (aD bN.out aR) ?_
             refine dJ (i:=9) (N:=some 114) (aD bN.out aR) ?_
             refine ja (i:=1) (N:=some 106) (bq bN.out jX.out aR) hHeld ?_
             refine dJ (i:=3) (N:=some 108) (aD bN.out aR) ?_
             refine dJ (i:=4) (N:=some 109) (aD bN.out aR) ?_
             refine ja (i:=5) (N:=some 110) (bq bN.out jX.out aR) hHeld ?_
             refine ja (i:=7) (N:=some 112) (bq bN.out jX.out aR) hHeld ?_
             refine dJ (i:=8) (N:=some 113) (aD bN.out aR) ?_
             refine ja (i:=10) (N:=some 115) (bq bN.out jX.out aR) hHeld ?_
             refine jq (i:=11) (N:=some 116) #[true,true,true,true,true,true,true,true,true,true,true,true,false,false,false,false,false,false,false,false,false,false,false,false,false,false,false,false] rfl rfl (fE bN.out aR) (by decide) (fun K hK=>?_)
             refine gV Try.func78 aR rfl #[.agg #[.int .i64 ((aH av gu).f0.f0),.int .i64 ((aH av gu).f0.f1)],.int .i64 (wrap64 (-aG)),.int .i64 aG] (by rfl) rfl rfl jJ ?_
             with_reducible refine (bI.calls ((aH av gu).f0.f0) ((aH av gu).f0.f1) (wrap64 (-aG)) aG true _ A39.out).mono ?_
             rintro e w49 ⟨rfl,hb⟩
             refine ⟨_,rfl,?_⟩
             replace jf:=bC jf hb
             replace HB:=dF HB hb
             (try clear hb)
             (try clear hb2)
             (try clear hk)
             (try clear hi)
             refine hK.out _ _ (uq jf.out ⟨((HB.out.cell (World.block_lt_of_cell? w _ mo)).trans mo),((HB.out.cell (World.block_lt_of_cell? w _ mi)).trans mi),((HB.out.cell (World.block_lt_of_cell? w _ mh)).trans mh),((HB.out.cell (World.block_lt_of_cell? w _ mg)).trans mg),((HB.out.cell (World.block_lt_of_cell? w _ qa)).trans qa),((HB.out.cell (World.block_lt_of_cell? w _ p9)).trans p9),((HB.out.cell (World.block_lt_of_cell? w _ p8)).trans p8),((HB.out.cell (World.block_lt_of_cell? w _ pY)).trans pY)⟩) (fun hHeld=>?_)
             clear hK K
             refine ek zq9 ?_
             refine dJ (i:=12) (N:=some 117) (aD bN.out aR) ?_
             refine dJ (i:=13) (N:=some 118) (aD bN.out aR) ?_
             refine dJ (i:=14) (N:=some 119) (aD bN.out aR) ?_
             refine dJ (i:=16) (N:=some 121) (aD bN.out aR) ?_
             refine dJ (i:=20) (N:=some 125) (aD bN.out aR) ?_
             refine dJ (i:=23) (N:=some 128) (aD bN.out aR) ?_
             refine ja (i:=15) (N:=some 120) (bq bN.out jX.out aR) hHeld ?_
             refine dJ (i:=17) (N:=some 122) (aD bN.out aR) ?_
             refine dJ (i:=18) (N:=some 123) (aD bN.out aR) ?_
             refine ja (i:=19) (N:=some 124) (bq bN.out jX.out aR) hHeld ?_
             refine ja (i:=21) (N:=some 126) (bq bN.out jX.out aR) hHeld ?_
             refine dJ (i:=22) (N:=some 127) (aD bN.out aR) ?_
             refine ja (i:=24) (N:=some 129) (bq bN.out jX.out aR) hHeld ?_
             refine jq (i:=25) (N:=some 130) #[true,true,true,true,true,true,true,true,true,true,true,true,true,true,true,true,true,true,true,true,true,true,true,true,true,true,false,false] rfl rfl (fE bN.out aR) (by decide) (fun K hK=>?_)
             refine gV Try.func78 aR rfl #[.agg #[.int .i64 ((aH av gu).f1.f0),.int .i64 ((aH av gu).f1.f1)],.int .i64 (wrap64 (-aG)),.int .i64 aG] (by rfl) rfl rfl jJ ?_
             with_reducible refine (bI.calls ((aH av gu).f1.f0) ((aH av gu).f1.f1) (wrap64 (-aG)) aG false _ A41.out).mono ?_
             rintro e w50 ⟨rfl,hb⟩
             refine ⟨_,rfl,?_⟩
             replace jf:=bC jf hb
             replace HB:=dF HB hb
             (try clear hb)
             (try clear hb2)
             (try clear hk)
             (try clear hi)
             refine hK.out _ _ (uq jf.out ⟨((HB.out.cell (World.block_lt_of_cell? w _ mo)).trans mo),((HB.out.cell (World.block_lt_of_cell? w _ mi)).trans mi),((HB.out.cell (World.block_lt_of_cell? w _ mh)).trans mh),((HB.out.cell (World.block_lt_of_cell? w _ mg)).trans mg),((HB.out.cell (World.block_lt_of_cell? w _ qa)).trans qa),((HB.out.cell (World.block_lt_of_cell? w _ p9)).trans p9),((HB.out.cell (World.block_lt_of_cell? w _ p8)).trans p8),((HB.out.cell (World.block_lt_of_cell? w _ pY)).trans pY)⟩) (fun hHeld=>?_)
             clear hK K
             refine ek at6 ?_
             refine dJ (i:=26) (N:=some 131) (aD bN.out aR) ?_
             refine dJ (i:=27) (N:=some 132) (aD bN.out aR) ?_
             refine lC (kF bN.out aR) ?_
             try go_wp2
             go_ret
             exact ⟨lJ,gM⟩
           ·replace c40:=Bool.eq_false_iff.mpr c40
            subst c40
            have H1:(some 2) = some r:=by rw [if_neg (show ¬ (false = true) by decide)] at H;exact H
            clear H
            have H:=H1
            clear H1
            obtain rfl:=Option.some.inj H
            obtain ⟨Fh,Fj,Fp,Fq,az0,az1,az2,az3,az4,Fs,Fu,Fv,Fw,az5,az6,az7,az8,az9⟩:=iI jf.out
            try go_wp2
            replace jf:=ae.mk (ah jf.out)
            replace HB:=ae.mk (bW HB.out)
            have PI:0≤(gu:Int):=of_decide_eq_true lX
            have PK:gu < (av.length:Int):=of_decide_eq_true lX
            obtain ⟨j3,e108,mZ,ng,ni,nk⟩:=zR fF.out gu PI PK
            have mg:=nk
            have mh:=ni
            have mi:=ng
            have mo:=mZ
            cases e108
            replace mZ:=(HB.out.cell (World.block_lt_of_cell? w _ mZ)).trans mZ
            replace ng:=(HB.out.cell (World.block_lt_of_cell? w _ ng)).trans ng
            replace ni:=(HB.out.cell (World.block_lt_of_cell? w _ ni)).trans ni
            replace nk:=(HB.out.cell (World.block_lt_of_cell? w _ nk)).trans nk
            replace PI:=eq_true PI
            replace PK:=eq_true PK
            refine jI (n:=28) (S:=fun w'=>w'.cell? ⟨mE,0,none⟩ = some (.int .i64 aj)∧w'.cell? ⟨mE,1,none⟩ = some (.int .i64 ak)∧w'.cell? ⟨mE,2,none⟩ = some (.int .i64 ax)∧w'.cell? ⟨mE,3,none⟩ = some (.int .i64 ay)∧w'.cell? ⟨mE,4,none⟩ = some (.int .i64 aJ)∧w'.cell? ⟨mE,5,none⟩ = some (.int .i64 aC)∧w'.cell? ⟨mE,6,none⟩ = some (.int .i64 aG)∧w'.cell? ⟨mE,7,none⟩ = some (.slice dH aN.length dD)∧w'.cell? ⟨mE,8,none⟩ = some (.slice (some j3) av.length dE)∧w'.cell? (j3.add ((gu).toNat*4)) = some (.int .i64 ((aH av gu).f0.f0))∧w'.cell? ⟨(j3.add ((gu).toNat*4)).block,(j3.add ((gu).toNat*4)).off+1,none⟩ = some (.int .i64 ((aH av gu).f0.f1))∧w'.cell? ⟨(j3.add ((gu).toNat*4)).block,(j3.add ((gu).toNat*4)).off+2,none⟩ = some (.int .i64 ((aH av gu).f1.f0))∧w'.cell? ⟨(j3.add ((gu).toNat*4)).block,(j3.add ((gu).toNat*4)).off+3,none⟩ = some (.int .i64 ((aH av gu).f1.f1))) (ds:=[]) #[false,false,false,false,false,false,false,false,false,false,false,false,false,false,false,false,false,false,false,false,false,false,false,false,false,false,false,false] aR rfl rfl (uq jf.out ⟨((HB.out.cell (World.block_lt_of_cell? w _ mo)).trans mo),((HB.out.cell (World.block_lt_of_cell? w _ mi)).trans mi),((HB.out.cell (World.block_lt_of_cell? w _ mh)).trans mh),((HB.out.cell (World.block_lt_of_cell? w _ mg)).trans mg)⟩) (fun hHeld=>?_);refine iM ai.an3 ai.afl (fun bN jX=>?_)
            generalize wr.drew = w52 at jf HB mZ ng ni nk hHeld ⊢
            refine dJ (i:=0) (N:=some 105) (aD bN.out aR) ?_
            refine dJ (i:=2) (N:=some 107) (aD bN.out aR) ?_
            refine dJ (i:=6) (N:=some 111) (aD bN.out aR) ?_
            refine dJ (i:=9) (N:=some 114) (aD bN.out aR) ?_
            refine ja (i:=1) (N:=some 106) (bq bN.out jX.out aR) hHeld ?_
            refine dJ (i:=3) (N:=some 108) (aD bN.out aR) ?_
            refine dJ (i:=4) (N:=some 109) (aD bN.out aR) ?_
            refine ja (i:=5) (N:=some 110) (bq bN.out jX.out aR) hHeld ?_
            refine ja (i:=7) (N:=some 112) (bq bN.out jX.out aR) hHeld ?_
            refine dJ (i:=8) (N:=some 113) (aD bN.out aR) ?_
            refine ja (i:=10) (N:=some 115) (bq bN.out jX.out aR) hHeld ?_
            refine jq (i:=11) (N:=some 116) #[true,true,true,true,true,true,true,true,true,true,true,true,false,false,false,false,false,false,false,false,false,false,false,false,false,false,false,false] rfl rfl (fE bN.out aR) (by decide) (fun K hK=>?_)
            refine gV Try.func78 aR rfl #[.agg #[.int .i64 ((aH av gu).f0.f0),.int .i64 ((aH av gu).f0.f1)],.int .i64 (wrap64 (-aG)),.int .i64 aG] (by rfl) rfl rfl jJ ?_
            with_reducible refine (bI.calls ((aH av gu).f0.f0) ((aH av gu).f0.f1) (wrap64 (-aG)) aG false _ A39.out).mono ?_
            rintro e w53 ⟨rfl,hb⟩
            refine ⟨_,rfl,?_⟩
            replace jf:=bC jf hb
            replace HB:=dF HB hb
            (try clear hb)
            (try clear hb2)
            (try clear hk)
            (try clear hi)
            refine hK.out _ _ (uq jf.out ⟨((HB.out.cell (World.block_lt_of_cell? w _ mo)).trans mo),((HB.out.cell (World.block_lt_of_cell? w _ mi)).trans mi),((HB.out.cell (World.block_lt_of_cell? w _ mh)).trans mh),((HB.out.cell (World.block_lt_of_cell? w _ mg)).trans mg)⟩) (fun hHeld=>?_)
            clear hK K
            refine ek zq9 ?_
            refine dJ (i:=12) (N:=some 117) (aD bN.out aR) ?_
            refine dJ (i:=13) (N:=some 118) (aD bN.out aR) ?_
            refine mU (i:=14) (N:=some 119) (v:=undef) (a':=?_) #[true,true,true,true,true,true,true,true,true,true,true,true,true,true,true,false,false,false,false,false,false,false,false,false,false,false,false,false] rfl rfl (aD bN.out aR) (fun _ _ _ h=>h) (Or.inr ⟨by rfl,rfl⟩) ?_ ?_
            rotate_left
            ·simp only [Act.put,List.setIfInBounds_toArray,List.set_cons_zero,List.set_cons_succ,fD,fJ]
             rfl
            refine mU (i:=15) (N:=some 120) (v:=undef) (a':=?_) #[true,true,true,true,true,true,true,true,true,true,true,true,true,true,true,true,false,false,false,false,false,false,false,false,false,false,false,false] rfl rfl (aD bN.out aR) (fun _ _ _ h=>h) (Or.inr ⟨by rfl,rfl⟩) ?_ ?_
            rotate_left
            ·simp only [Act.put,List.setIfInBounds_toArray,List.set_cons_zero,List.set_cons_succ,fD,fJ]
             rfl
            refine mU (i:=16) (N:=some 121) (v:=undef) (a':=?_) #[true,true,true,true,true,true,true,true,true,true,true,true,true,true,true,true,true,false,false,false,false,false,false,false,false,false,false,false] rfl rfl (aD bN.out aR) (fun _ _ _ h=>h) (Or.inr ⟨by rfl,rfl⟩) ?_ ?_
            rotate_left
            ·simp only [Act.put,List.setIfInBounds_toArray,List.set_cons_zero,List.set_cons_succ,fD,fJ]
             rfl
            refine mU (i:=17) (N:=some 122) (v:=undef) (a':=?_) #[true,true,true,true,true,true,true,true,true,true,true,true,true,true,true,true,true,true,false,false,false,false,false,false,false,false,false,false] rfl rfl (aD bN.out aR) (fun _ _ _ h=>h) (Or.inr ⟨by rfl,rfl⟩) ?_ ?_
            rotate_left
            ·simp only [Act.put,List.setIfInBounds_toArray,List.set_cons_zero,List.set_cons_succ,fD,fJ]
             rfl
            refine mU (i:=18) (N:=some 123) (v:=undef) (a':=?_) #[true,true,true,true,true,true,true,true,true,true,true,true,true,true,true,true,true,true,true,false,false,false,false,false,false,false,false,false] rfl rfl (aD bN.out aR) (fun _ _ _ h=>h) (Or.inr ⟨by rfl,rfl⟩) ?_ ?_
            rotate_left
            ·simp only [Act.put,List.setIfInBounds_toArray,List.set_cons_zero,List.set_cons_succ,fD,fJ]
             rfl
            refine mU (i:=19) (N:=some 124) (v:=undef) (a':=?_) #[true,true,true,true,true,true,true,true,true,true,true,true,true,true,true,true,true,true,true,true,false,false,false,false,false,false,false,false] rfl rfl (aD bN.out aR) (fun _ _ _ h=>h) (Or.inr ⟨by rfl,rfl⟩) ?_ ?_
            rotate_left
            ·simp only [Act.put,List.setIfInBounds_toArray,List.set_cons_zero,List.set_cons_succ,fD,fJ]
             rfl
            refine mU (i:=20) (N:=some 125) (v:=undef) (a':=?_) #[true,true,true,true,true,true,true,true,true,true,true,true,true,true,true,true,true,true,true,true,true,false,false,false,false,false,false,false] rfl rfl (aD bN.out aR) (fun _ _ _ h=>h) (Or.inr ⟨by rfl,rfl⟩) ?_ ?_
            rotate_left
            ·simp only [Act.put,List.setIfInBounds_toArray,List.set_cons_zero,List.set_cons_succ,fD,fJ]
             rfl
            refine mU (i:=21) (N:=some 126) (v:=undef) (a':=?_) #[true,true,true,true,true,true,true,true,true,true,true,true,true,true,true,true,true,true,true,true,true,true,false,false,false,false,false,false] rfl rfl (aD bN.out aR) (fun _ _ _ h=>h) (Or.inr ⟨by rfl,rfl⟩) ?_ ?_
            rotate_left
            ·simp only [Act.put,List.setIfInBounds_toArray,List.set_cons_zero,List.set_cons_succ,fD,fJ]
             rfl
            refine mU (i:=22) (N:=some 127) (v:=undef) (a':=?_) #[true,true,true,true,true,true,true,true,true,true,true,true,true,true,true,true,true,true,true,true,true,true,true,false,false,false,false,false] rfl rfl (aD bN.out aR) (fun _ _ _ h=>h) (Or.inr ⟨by rfl,rfl⟩) ?_ ?_
            rotate_left
            ·simp only [Act.put,List.setIfInBounds_toArray,List.set_cons_zero,List.set_cons_succ,fD,fJ]
             rfl
            refine mU (i:=23) (N:=some 128) (v:=undef) (a':=?_) #[true,true,true,true,true,true,true,true,true,true,true,true,true,true,true,true,true,true,true,true,true,true,true,true,false,false,false,false] rfl rfl (aD bN.out aR) (fun _ _ _ h=>h) (Or.inr ⟨by rfl,rfl⟩) ?_ ?_
            rotate_left
            ·simp only [Act.put,List.setIfInBounds_toArray,List.set_cons_zero,List.set_cons_succ,fD,fJ]
             rfl
            refine mU (i:=24) (N:=some 129) (v:=undef) (a':=?_) #[true,true,true,true,true,true,true,true,true,true,true,true,true,true,true,true,true,true,true,true,true,true,true,true,true,false,false,false] rfl rfl (aD bN.out aR) (fun _ _ _ h=>h) (Or.inr ⟨by rfl,rfl⟩) ?_ ?_
            rotate_left
            ·simp only [Act.put,List.setIfInBounds_toArray,List.set_cons_zero,List.set_cons_succ,fD,fJ]
             rfl
            refine mU (i:=25) (N:=some 130) (v:=undef) (a':=?_) #[true,true,true,true,true,true,true,true,true,true,true,true,true,true,true,true,true,true,true,true,true,true,true,true,true,true,false,false] rfl rfl (aD bN.out aR) (fun _ _ _ h=>h) (Or.inr ⟨by rfl,rfl⟩) ?_ ?_
            rotate_left
            ·simp only [Act.put,List.setIfInBounds_toArray,List.set_cons_zero,List.set_cons_succ,fD,fJ]
             rfl
            refine mU (i:=26) (N:=some 131) (v:=undef) (a':=?_) #[true,true,true,true,true,true,true,true,true,true,true,true,true,true,true,true,true,true,true,true,true,true,true,true,true,true,true,false] rfl rfl (aD bN.out aR) (fun _ _ _ h=>h) (Or.inr ⟨by rfl,rfl⟩) ?_ ?_
            rotate_left
            ·simp only [Act.put,List.setIfInBounds_toArray,List.set_cons_zero,List.set_cons_succ,fD,fJ]
             rfl
            refine dJ (i:=27) (N:=some 132) (aD bN.out aR) ?_
            refine lC (kF bN.out aR) ?_
            try go_wp2
            go_ret
            exact ⟨lJ,gM⟩
          ·rw [if_neg c38] at H
           exact absurd H (by simp)
         ·rw [if_neg c37] at H
          have auh:decide (gu < (av.length:Int)) = false:=decide_eq_false c37
          clear c37
          obtain rfl:=Option.some.inj H
          obtain ⟨FR,FT,FU,FV,FW,FX,FY,akl,akm,FZ,F3,F4,F5,F6,F7,F8,akn,ako⟩:=iI jf.out
          go_wp2
          go_ret
          exact ⟨lJ,gM⟩
end Go.Proofs.Ytmhaiihjfgfaoaa.Pr
end
