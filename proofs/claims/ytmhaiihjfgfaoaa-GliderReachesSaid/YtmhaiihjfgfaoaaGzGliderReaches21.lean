import Derived.Test.YtmhaiihjfgfaoaaGzGliderReaches3
import Derived.Test.YtmhaiihjfgfaoaaGzGliderReaches20
open Go.Value renaming int → U
open Go.IntKind renaming i64 → Z
open Bool renaming true → ab, false → ac
section
namespace Go.Proofs.Ytmhaiihjfgfaoaa.Pr
open Go.RowKit Go.Proofs.YtmhaiihjfgfaoaaW.PrintWords Go.Proofs.YtmhaiihjfgfaoaaW.PrintLast Go.Proofs.YtmhaiihjfgfaoaaW.PrintMore
attribute [local go_sem] eD eF fD fE eG
set_option linter.unusedVariables false
set_option linter.unusedSimpArgs false
mutual
def ak.j0:Nat→Bool→Int→Int→Int→Int→Int→Int→Int→List Bool→List (oV)→Option (Int)
 |0,_,_,_,_,_,_,_,_,_,_=>none
 |k+1,x71,CU,CV,Jf,Jg,FQ,FR,yJ,FT,tL=>if x71 = true then (some 2) else (if (FT.length:Int) = (wrap64 (CU*CV)) then (ak.j1 k ((tL.length:Int) != (wrap64 ((wrap64 ((wrap64 (FQ*FR))*CU))*CV))) CU CV Jf Jg FQ FR yJ FT tL) else (ak.j1 k true CU CV Jf Jg FQ FR yJ FT tL))
def ak.j1:Nat→Bool→Int→Int→Int→Int→Int→Int→Int→List Bool→List (oV)→Option (Int)
 |0,_,_,_,_,_,_,_,_,_,_=>none
 |k+1,x97,CU,CV,Jf,Jg,FQ,FR,yJ,FT,tL=>if x97 = true then (some 2) else (ak.l0 k 0 CU CV Jf Jg FQ FR yJ FT tL)
def ak.l0:Nat→Int→Int→Int→Int→Int→Int→Int→Int→List Bool→List (oV)→Option (Int)
 |0,_,_,_,_,_,_,_,_,_,_=>none
 |k+1,x3,CU,CV,Jf,Jg,FQ,FR,yJ,FT,tL=>if x3 < (tL.length:Int) then (if 0≤x3 then ((bV.f ((bu tL x3).f0.f0) ((bu tL x3).f0.f1) (wrap64 (-yJ)) yJ).bind fun t109=>(if t109 = true then ((bV.f ((bu tL x3).f1.f0) ((bu tL x3).f1.f1) (wrap64 (-yJ)) yJ).bind fun t111=>(if t111 = true then (ak.l0 k (wrap64 (x3+1)) CU CV Jf Jg FQ FR yJ FT tL) else (some 2))) else (some 2))) else (none)) else (some 0)
end
def ak.f (k:Nat) (ah:Int) (ai:Int) (ax:Int) (ay:Int) (aK:Int) (aH:Int) (aJ:Int) (aR:List Bool) (aC:List (oV)):Option (Int):=if ah < 1 then (ak.j0 k true ah ai ax ay aK aH aJ aR aC) else (if ah > 12 then (ak.j0 k true ah ai ax ay aK aH aJ aR aC) else (if ai < 1 then (ak.j0 k true ah ai ax ay aK aH aJ aR aC) else (if ai > 12 then (ak.j0 k true ah ai ax ay aK aH aJ aR aC) else (if ax < 100 then (ak.j0 k true ah ai ax ay aK aH aJ aR aC) else (if ax > 65536 then (ak.j0 k true ah ai ax ay aK aH aJ aR aC) else (if ay < 1 then (ak.j0 k true ah ai ax ay aK aH aJ aR aC) else (if ay > 1048576 then (ak.j0 k true ah ai ax ay aK aH aJ aR aC) else (if aK < 1 then (ak.j0 k true ah ai ax ay aK aH aJ aR aC) else (if aK > 16 then (ak.j0 k true ah ai ax ay aK aH aJ aR aC) else (if aH < 1 then (ak.j0 k true ah ai ax ay aK aH aJ aR aC) else (if aH > 3 then (ak.j0 k true ah ai ax ay aK aH aJ aR aC) else (if aJ < 0 then (ak.j0 k true ah ai ax ay aK aH aJ aR aC) else (ak.j0 k (decide (aJ > 5000)) ah ai ax ay aK aH aJ aR aC)))))))))))))
def ak.T8:Bool × List (List Nat × List Nat):=(true,[([],[]),([0],[0]),([],[]),([1,2],[1,2]),([3],[3]),([4],[4]),([],[]),([6],[6]),([7],[7]),([],[]),([9],[9]),([5,8,10],[5,8,10]),([11],[11]),([12,11],[12]),([13],[13]),([14,13],[13,14]),([13],[13]),([15,16,13],[13,15,16]),([17,13],[13,17]),([18,13],[13,18]),([13],[13]),([20,13],[13,20]),([21,13],[13,21]),([13],[13]),([23,13],[13,23]),([19,22,24,13,13],[13,19,22,24]),([25,13],[13,25]),([13,26],[13,26])])
def ak.B8:List Nat:=[0,1,0,7,15,31,0,64,192,0,512,2047,4095,8191,16383,32767,16383,131071,262143,524287,16383,1064959,3162111,16383,8404991,33554431,67108863,134217727]
theorem ak.avI:qX .any (opsOf Try.f26 8) = ak.T8:=by kernel_rfl
theorem ak.aiH:ou ak.T8.2 ak.B8 = true:=by kernel_rfl
set_option maxHeartbeats 8000000 in
set_option maxRecDepth 100000 in
theorem ak.calls (k:Nat) (ah:Int) (ai:Int) (ax:Int) (ay:Int) (aK:Int) (aH:Int) (aJ:Int) (dG:Option Addr) (dH:Nat) (aR:List Bool) (dJ:Option Addr) (dI:Nat) (aC:List (oV)) (r:Int) (w:World) (iU:Kd.C Kd.bool w dG aR.length aR) (iV:aR.length≤dH) (iW:Kd.C DD w dJ aC.length aC) (iX:aC.length≤dI) (h:ak.f k ah ai ax ay aK aH aJ aR aC = some r):
 Calls Try.prog 26 #[.agg #[U Z ah,U Z ai,U Z ax,U Z ay,U Z aK,U Z aH,U Z aJ,.slice dG aR.length dH,.slice dJ aC.length dI]] w fun e w'=>e = .returned (U Z r)∧Below w.heap.size w w':=by
 have zR:=Try.underlying25
 have oo:=Try.underlying27
 have gq:=aa.mk iU
 have gu:=aa.mk iV
 clear iU iV
 have fH:=aa.mk iW
 have gz:=aa.mk iX
 clear iW iX
 have HB:=aa.mk (Below.refl w.heap.size w)
 have H:(if ah < 1 then (ak.j0 k true ah ai ax ay aK aH aJ aR aC) else (if ah > 12 then (ak.j0 k true ah ai ax ay aK aH aJ aR aC) else (if ai < 1 then (ak.j0 k true ah ai ax ay aK aH aJ aR aC) else (if ai > 12 then (ak.j0 k true ah ai ax ay aK aH aJ aR aC) else (if ax < 100 then (ak.j0 k true ah ai ax ay aK aH aJ aR aC) else (if ax > 65536 then (ak.j0 k true ah ai ax ay aK aH aJ aR aC) else (if ay < 1 then (ak.j0 k true ah ai ax ay aK aH aJ aR aC) else (if ay > 1048576 then (ak.j0 k true ah ai ax ay aK aH aJ aR aC) else (if aK < 1 then (ak.j0 k true ah ai ax ay aK aH aJ aR aC) else (if aK > 16 then (ak.j0 k true ah ai ax ay aK aH aJ aR aC) else (if aH < 1 then (ak.j0 k true ah ai ax ay aK aH aJ aR aC) else (if aH > 3 then (ak.j0 k true ah ai ax ay aK aH aJ aR aC) else (if aJ < 0 then (ak.j0 k true ah ai ax ay aK aH aJ aR aC) else (ak.j0 k (decide (aJ > 5000)) ah ai ax ay aK aH aJ aR aC)))))))))))))) = some r:=h
 clear h
 have HC2:=aa.mk H
 clear H
 go_enter Try.func26,Try.ntmps26
 go_upto_region 1 with (first|((with_reducible refine aG (N:=1) rfl ?_);(try (refine qU (by rfl) ?_;dsimp only));refine az (by rfl) (N:=1) (by rfl) (cs:=#[U Z ah,U Z ai,U Z ax,U Z ay,U Z aK,U Z aH,U Z aJ,.slice dG aR.length dH,.slice dJ aC.length dI]) (t:=25) fM ?_;intro nS hg w3 hbox hb;have jk:=aa.mk (hbox);have aRO:=dn HB hg;have aRP:=dn HB hg;replace HB:=dw HB hb;clear hb hbox hg))
 (try simp only [Act.put,List.setIfInBounds_toArray,List.set_cons_zero,List.set_cons_succ])
 go_cut [71] (fun v71 wc=>∃ (kq:Nat) (acE:Bool),v71 = .bool acE∧aa (ak.j0 kq acE ah ai ax ay aK aH aJ aR aC = some r)∧aa (kq≤k)∧aa (wc.heap[nS]? = some (.cells #[U Z ah,U Z ai,U Z ax,U Z ay,U Z aK,U Z aH,U Z aJ,(.slice dG aR.length dH),(.slice dJ aC.length dI)] 25 (0,0)))∧aa (Below w.heap.size w wc))
 case first =>
  have H:=HC2.out
  clear HC2
  by_cases c4:ah < 1
  ·rw [if_pos c4] at H
   have sK:decide (ah < 1) = true:=decide_eq_true c4
   clear c4
   (first|rw [sK]|(simp only [eB,eH];rw [sK])|skip)
   have H':=aa.mk H
   clear H
   obtain ⟨aan,aao,aap,aaq,aar,aas,aat,aau,aav,aaw,aax,aay,aaz,aaA,aaB,aaC,aaD,aaE⟩:=iH jk.out
   go_wp2
   go_meet
   case rel=>exact ⟨_,(true),mg,H',⟨wE⟩,⟨fB⟩,⟨fu⟩⟩
  ·rw [if_neg c4] at H
   have sK:decide (ah < 1) = false:=decide_eq_false c4
   clear c4
   (first|rw [sK]|(simp only [eB,eH];rw [sK])|skip)
   by_cases c6:ah > 12
   ·rw [if_pos c6] at H
    have Ld:decide (12 < ah) = true:=decide_eq_true c6
    clear c6
    have H':=aa.mk H
    clear H
    obtain ⟨wX,wY,DK,DL,Fv,Fw,KG,NS,NT,wZ,xc,DN,DR,Fx,Fy,KH,NU,NV⟩:=iH jk.out
    go_wp2
    go_meet
    case rel=>exact ⟨_,(true),mg,H',⟨wE⟩,⟨fB⟩,⟨fu⟩⟩
   ·rw [if_neg c6] at H
    have Ld:decide (12 < ah) = false:=decide_eq_false c6
    clear c6
    by_cases c8:ai < 1
    ·rw [if_pos c8] at H
     have KI:decide (ai < 1) = true:=decide_eq_true c8
     clear c8
     have H':=aa.mk H
     clear H
     obtain ⟨Bw,Bz,Fp,Fq,Oi,Oj,Vw,Vx,Vy,BA,BC,Fs,Fu,Ol,Om,Vz,VA,VB⟩:=iH jk.out
     go_wp2
     go_meet
     case rel=>exact ⟨_,(true),mg,H',⟨wE⟩,⟨fB⟩,⟨fu⟩⟩
    ·rw [if_neg c8] at H
     have KI:decide (ai < 1) = false:=decide_eq_false c8
     clear c8
     by_cases c10:ai > 12
     ·rw [if_pos c10] at H
      have Cn:decide (12 < ai) = true:=decide_eq_true c10
      clear c10
      have H':=aa.mk H
      clear H
      obtain ⟨uZ,u6,Aq,Ar,E9,Fa,Lg,P5,P6,u7,ve,Au,Av,Fb,Fe,Lh,P7,P8⟩:=iH jk.out
      go_wp2
      go_meet
      case rel=>exact ⟨_,(true),mg,H',⟨wE⟩,⟨fB⟩,⟨fu⟩⟩
     ·rw [if_neg c10] at H
      have Cn:decide (12 < ai) = false:=decide_eq_false c10
      clear c10
      by_cases c12:ax < 100
      ·rw [if_pos c12] at H
       have acF:decide (ax < 100) = true:=decide_eq_true c12
       clear c12
       have H':=aa.mk H
       clear H
       obtain ⟨qY,qZ,xW,xX,FU,FV,LY,VC,VD,q9,rf,xY,xZ,FW,FX,LZ,VE,VF⟩:=iH jk.out
       go_wp2
       go_meet
       case rel=>exact ⟨_,(true),mg,H',⟨wE⟩,⟨fB⟩,⟨fu⟩⟩
      ·rw [if_neg c12] at H
       have acF:decide (ax < 100) = false:=decide_eq_false c12
       clear c12
       by_cases c14:ax > 65536
       ·rw [if_pos c14] at H
        have acG:decide (65536 < ax) = true:=decide_eq_true c14
        clear c14
        have H':=aa.mk H
        clear H
        obtain ⟨nI,nJ,rC,rD,tu,tC,yh,Aw,Ay,nK,nL,rE,rF,tF,tH,yj,Az,AA⟩:=iH jk.out
        go_wp2
        go_meet
        case rel=>exact ⟨_,(true),mg,H',⟨wE⟩,⟨fB⟩,⟨fu⟩⟩
       ·rw [if_neg c14] at H
        have acG:decide (65536 < ax) = false:=decide_eq_false c14
        clear c14
        by_cases c16:ay < 1
        ·rw [if_pos c16] at H
         have Co:decide (ay < 1) = true:=decide_eq_true c16
         clear c16
         have H':=aa.mk H
         clear H
         obtain ⟨lW,lX,nM,nN,tN,tO,yK,CW,CX,lY,lZ,nO,nP,tQ,tT,yL,CY,CZ⟩:=iH jk.out
         go_wp2
         go_meet
         case rel=>exact ⟨_,(true),mg,H',⟨wE⟩,⟨fB⟩,⟨fu⟩⟩
        ·rw [if_neg c16] at H
         have Co:decide (ay < 1) = false:=decide_eq_false c16
         clear c16
         by_cases c18:ay > 1048576
         ·rw [if_pos c18] at H
          have Pg:decide (1048576 < ay) = true:=decide_eq_true c18
          clear c18
          have H':=aa.mk H
          clear H
          obtain ⟨pI,pJ,qF,qG,tV,tX,yM,Qv,Qw,pK,pM,qH,qI,tY,tZ,yN,Qx,Qy⟩:=iH jk.out
          go_wp2
          go_meet
          case rel=>exact ⟨_,(true),mg,H',⟨wE⟩,⟨fB⟩,⟨fu⟩⟩
         ·rw [if_neg c18] at H
          have Pg:decide (1048576 < ay) = false:=decide_eq_false c18
          clear c18
          by_cases c20:aK < 1
          ·rw [if_pos c20] at H
           have CO:decide (aK < 1) = true:=decide_eq_true c20
           clear c20
           have H':=aa.mk H
           clear H
           obtain ⟨pO,pQ,uf,ug,C8,C9,Da,FY,FZ,pR,pU,uh,ui,Db,Dc,De,F3,F4⟩:=iH jk.out
           go_wp2
           go_meet
           case rel=>exact ⟨_,(true),mg,H',⟨wE⟩,⟨fB⟩,⟨fu⟩⟩
          ·rw [if_neg c20] at H
           have CO:decide (aK < 1) = false:=decide_eq_false c20
           clear c20
           by_cases SE:aK > 16
           ·rw [if_pos SE] at H
            have Hw:decide (16 < aK) = true:=decide_eq_true SE
            clear SE
            have H':=aa.mk H
            clear H
            obtain ⟨EY,EZ,L6,L8,L9,Ma,Mc,Qz,QA,E5,E8,Md,Me,Mf,Mg,Mh,QB,QC⟩:=iH jk.out
            go_wp2
            go_meet
            case rel=>exact ⟨_,(true),mg,H',⟨wE⟩,⟨fB⟩,⟨fu⟩⟩
           ·rw [if_neg SE] at H
            have Hw:decide (16 < aK) = false:=decide_eq_false SE
            clear SE
            by_cases c24:aH < 1
            ·rw [if_pos c24] at H
             have Ph:decide (aH < 1) = true:=decide_eq_true c24
             clear c24
             have H':=aa.mk H
             clear H
             obtain ⟨yO,yP,Df,Dh,F5,F6,F7,Mi,Mj,yQ,yR,Di,Dj,F8,F9,Ga,Mk,Ml⟩:=iH jk.out
             go_wp2
             go_meet
             case rel=>exact ⟨_,(true),mg,H',⟨wE⟩,⟨fB⟩,⟨fu⟩⟩
            ·rw [if_neg c24] at H
             have Ph:decide (aH < 1) = false:=decide_eq_false c24
             clear c24
             by_cases K3:aH > 3
             ·rw [if_pos K3] at H
              have TV:decide (3 < aH) = true:=decide_eq_true K3
              clear K3
              have H':=aa.mk H
              clear H
              obtain ⟨yS,yT,yU,yV,Gb,Gc,Gd,VG,VH,yX,yY,yZ,za,Gf,Gg,Gh,VI,VJ⟩:=iH jk.out
              go_wp2
              go_meet
              case rel=>exact ⟨_,(true),mg,H',⟨wE⟩,⟨fB⟩,⟨fu⟩⟩
             ·rw [if_neg K3] at H
              have TV:decide (3 < aH) = false:=decide_eq_false K3
              clear K3
              by_cases c28:aJ < 0
              ·rw [if_pos c28] at H
               have RG:decide (aJ < 0) = true:=decide_eq_true c28
               clear c28
               have H':=aa.mk H
               clear H
               obtain ⟨qB,qC,sV,sW,vN,vO,CP,FL,FM,qD,qE,sZ,tq,vP,vQ,CQ,FN,FO⟩:=iH jk.out
               go_wp2
               go_meet
               case rel=>exact ⟨_,(true),mg,H',⟨wE⟩,⟨fB⟩,⟨fu⟩⟩
              ·rw [if_neg c28] at H
               have RG:decide (aJ < 0) = false:=decide_eq_false c28
               clear c28
               have H':=aa.mk H
               clear H
               obtain ⟨Gi,Gj,Jh,Ji,Mm,Mo,Mq,VK,VL,Gm,Gn,Jj,Jk,Mr,Ms,Mt,VM,VN⟩:=iH jk.out
               go_wp2
               go_meet
               case rel=>exact ⟨_,(decide (aJ > 5000)),mg,H',⟨wE⟩,⟨fB⟩,⟨fu⟩⟩
 case rest =>
  clear HC2
  try clear c1
  try clear c2
  try clear p2
  try clear c4
  try clear sK
  try clear c6
  try clear Ld
  try clear c8
  try clear KI
  try clear c10
  try clear Cn
  try clear c12
  try clear acF
  try clear c14
  try clear acG
  try clear c16
  try clear Co
  try clear c18
  try clear Pg
  try clear c20
  try clear CO
  try clear SE
  try clear Hw
  try clear c24
  try clear Ph
  try clear K3
  try clear TV
  try clear c28
  try clear RG
  try clear uZ u6 Aq Ar E9 Fa Lg P5 P6
  try clear qY qZ xW xX FU FV LY VC VD
  try clear nI nJ rC rD tu tC yh Aw Ay
  try clear lW lX nM nN tN tO yK CW CX
  try clear pI pJ qF qG tV tX yM Qv Qw
  try clear pO pQ uf ug C8 C9 Da FY FZ
  try clear EY EZ L6 L8 L9 Ma Mc Qz QA
  try clear yO yP Df Dh F5 F6 F7 Mi Mj
  try clear yS yT yU yV Gb Gc Gd VG VH
  try clear qB qC sV sW vN vO CP FL FM
  try clear Gi Gj Jh Ji Mm Mo Mq VK VL
  try clear aan aao aap aaq aar aas aat aau aav
  try clear wX wY DK DL Fv Fw KG NS NT
  try clear Bw Bz Fp Fq Oi Oj Vw Vx Vy
  try clear u7 ve Au Av Fb Fe Lh P7 P8
  try clear q9 rf xY xZ FW FX LZ VE VF
  try clear nK nL rE rF tF tH yj Az AA
  try clear lY lZ nO nP tQ tT yL CY CZ
  try clear pK pM qH qI tY tZ yN Qx Qy
  try clear pR pU uh ui Db Dc De F3 F4
  try clear E5 E8 Md Me Mf Mg Mh QB QC
  try clear yQ yR Di Dj F8 F9 Ga Mk Ml
  try clear yX yY yZ za Gf Gg Gh VI VJ
  try clear qD qE sZ tq vP vQ CQ FN FO
  try clear Gm Gn Jj Jk Mr Ms Mt VM VN
  try clear aaw aax aay aaz aaA aaB aaC aaD aaE
  try clear wZ xc DN DR Fx Fy KH NU NV
  try clear BA BC Fs Fu Ol Om Vz VA VB
  obtain ⟨kq,acE,rfl,HA,HJ1,jk,HB⟩:=hcut
  cases kq with
  |zero=>exact absurd HA.out (by simp [ak.j0])
  |succ kj1 =>
   have H:=HA.out
   clear HA
   simp only [ak.j0] at H
   by_cases c31:acE = true
   ·subst c31
    have H1:(some 2) = some r:=by rw [if_pos rfl] at H;exact H
    clear H
    have H:=H1
    clear H1
    obtain rfl:=Option.some.inj H
    go_wp2
    go_ret
    exact ⟨kL,fu⟩
   ·replace c31:=Bool.eq_false_iff.mpr c31
    subst c31
    have H1:(if (aR.length:Int) = (wrap64 (ah*ai)) then (ak.j1 kj1 ((aC.length:Int) != (wrap64 ((wrap64 ((wrap64 (aK*aH))*ah))*ai))) ah ai ax ay aK aH aJ aR aC) else (ak.j1 kj1 true ah ai ax ay aK aH aJ aR aC)) = some r:=by rw [if_neg (show ¬ (false = true) by decide)] at H;exact H
    clear H
    have H:=H1
    clear H1
    have avJ:=aa.mk H
    clear H
    go_upto_region 3 with (fail)
    go_cut [97] (fun v97 wc=>∃ (kq:Nat) (VO:Bool),v97 = .bool VO∧aa (ak.j1 kq VO ah ai ax ay aK aH aJ aR aC = some r)∧aa (kq≤kj1)∧aa (wc.heap[nS]? = some (.cells #[U Z ah,U Z ai,U Z ax,U Z ay,U Z aK,U Z aH,U Z aJ,(.slice dG aR.length dH),(.slice dJ aC.length dI)] 25 (0,0)))∧aa (Below w.heap.size w wc))
    case first =>
     have H:=avJ.out
     clear avJ
     by_cases c33:(aR.length:Int) = (wrap64 (ah*ai))
     ·rw [if_pos c33] at H
      have RH:((aR.length:Int) == (wrap64 (ah*ai))) = true:=beq_iff_eq.mpr c33
      have aiI:((aR.length:Int) != (wrap64 (ah*ai))) = false:=bne_eq_false_iff_eq.mpr c33
      clear c33
      (first|rw [RH]|(simp only [eB,eH];rw [RH])|skip)
      have H':=aa.mk H
      clear H
      obtain ⟨I8,I9,Qm,Qn,acH,acI,acJ,acK,acL,Ja,Jb,Qo,Qp,acM,acN,acO,acP,acQ⟩:=iH jk.out
      go_wp2
      go_meet
      case rel=>exact ⟨_,(((aC.length:Int) != (wrap64 ((wrap64 ((wrap64 (aK*aH))*ah))*ai)))),mg,H',⟨by have:=HJ1.out;first|omega|exact Nat.le_refl _⟩,⟨fB⟩,⟨fu⟩⟩
     ·rw [if_neg c33] at H
      have RH:((aR.length:Int) == (wrap64 (ah*ai))) = false:=beq_eq_false_iff_ne.mpr c33
      have aiI:((aR.length:Int) != (wrap64 (ah*ai))) = true:=bne_iff_ne.mpr c33
      (first|rw [RH]|(simp only [eB,eH];rw [RH])|skip)
      have H':=aa.mk H
      clear H
      obtain ⟨Al,Am,ET,EU,Jl,Jm,Jn,VP,VQ,Ao,Ap,EW,EX,Jo,Jp,Jq,VR,VS⟩:=iH jk.out
      go_wp2
      go_meet
      case rel=>exact ⟨_,(true),mg,H',⟨by have:=HJ1.out;first|omega|exact Nat.le_refl _⟩,⟨fB⟩,⟨fu⟩⟩
    case rest =>
     clear avJ
     try clear c1
     try clear c2
     try clear p2
     try clear c3
     try clear c4
     try clear sK
     try clear c6
     try clear Ld
     try clear p6
     try clear c8
     try clear KI
     try clear c10
     try clear Cn
     try clear c12
     try clear acF
     try clear c14
     try clear acG
     try clear c16
     try clear Co
     try clear c18
     try clear Pg
     try clear c20
     try clear CO
     try clear SE
     try clear Hw
     try clear c24
     try clear Ph
     try clear K3
     try clear TV
     try clear c28
     try clear RG
     try clear c31
     try clear c33
     try clear RH
     try clear aiI
     try clear uZ u6 Aq Ar E9 Fa Lg P5 P6
     try clear qY qZ xW xX FU FV LY VC VD
     try clear nI nJ rC rD tu tC yh Aw Ay
     try clear lW lX nM nN tN tO yK CW CX
     try clear pI pJ qF qG tV tX yM Qv Qw
     try clear pO pQ uf ug C8 C9 Da FY FZ
     try clear EY EZ L6 L8 L9 Ma Mc Qz QA
     try clear yO yP Df Dh F5 F6 F7 Mi Mj
     try clear yS yT yU yV Gb Gc Gd VG VH
     try clear qB qC sV sW vN vO CP FL FM
     try clear Gi Gj Jh Ji Mm Mo Mq VK VL
     try clear I8 I9 Qm Qn acH acI acJ acK acL
     try clear Al Am ET EU Jl Jm Jn VP VQ
     try clear aan aao aap aaq aar aas aat aau aav
     try clear wX wY DK DL Fv Fw KG NS NT
     try clear Bw Bz Fp Fq Oi Oj Vw Vx Vy
     try clear u7 ve Au Av Fb Fe Lh P7 P8
     try clear q9 rf xY xZ FW FX LZ VE VF
     try clear nK nL rE rF tF tH yj Az AA
     try clear lY lZ nO nP tQ tT yL CY CZ
     try clear pK pM qH qI tY tZ yN Qx Qy
     try clear pR pU uh ui Db Dc De F3 F4
     try clear E5 E8 Md Me Mf Mg Mh QB QC
     try clear yQ yR Di Dj F8 F9 Ga Mk Ml
     try clear yX yY yZ za Gf Gg Gh VI VJ
     try clear qD qE sZ tq vP vQ CQ FN FO
     try clear Gm Gn Jj Jk Mr Ms Mt VM VN
     try clear Ja Jb Qo Qp acM acN acO acP acQ
     try clear Ao Ap EW EX Jo Jp Jq VR VS
     try clear aaw aax aay aaz aaA aaB aaC aaD aaE
     try clear wZ xc DN DR Fx Fy KH NU NV
     try clear BA BC Fs Fu Ol Om Vz VA VB
     try clear p2
     obtain ⟨kq,VO,rfl,HA,azr,jk,HB⟩:=hcut
     cases kq with
     |zero=>exact absurd HA.out (by simp [ak.j1])
     |succ avK =>
      have H:=HA.out
      clear HA
      simp only [ak.j1] at H
      by_cases c36:VO = true
      ·subst c36
       have H1:(some 2) = some r:=by rw [if_pos rfl] at H;exact H
       clear H
       have H:=H1
       clear H1
       obtain rfl:=Option.some.inj H
       go_wp2
       go_ret
       exact ⟨kL,fu⟩
      ·replace c36:=Bool.eq_false_iff.mpr c36
       subst c36
       have H1:(ak.l0 avK 0 ah ai ax ay aK aH aJ aR aC) = some r:=by rw [if_neg (show ¬ (false = true) by decide)] at H;exact H
       clear H
       have H:=H1
       clear H1
       have H':=aa.mk H
       clear H
       go_wp2
       go_loopg [3] avK (fun kq v3 w'=>∃ (gp:Int),v3 = U Z gp∧aa (ak.l0 kq gp ah ai ax ay aK aH aJ aR aC = some r)∧aa (kq≤avK)∧aa (w'.heap[nS]? = some (.cells #[U Z ah,U Z ai,U Z ax,U Z ay,U Z aK,U Z aH,U Z aJ,(.slice dG aR.length dH),(.slice dJ aC.length dI)] 25 (0,0)))∧aa (Below w.heap.size w w'))
       case atStart=>exact ⟨(0),mg,H',⟨Nat.le_refl _⟩,⟨fB⟩,⟨fu⟩⟩
       case round =>
        clear H'
        try clear c1
        try clear c2
        try clear p2
        try clear c3
        try clear c4
        try clear sK
        try clear c6
        try clear Ld
        try clear p6
        try clear c8
        try clear KI
        try clear c10
        try clear Cn
        try clear c12
        try clear acF
        try clear c14
        try clear acG
        try clear c16
        try clear Co
        try clear c18
        try clear Pg
        try clear c20
        try clear CO
        try clear SE
        try clear Hw
        try clear c24
        try clear Ph
        try clear K3
        try clear TV
        try clear c28
        try clear RG
        try clear c31
        try clear c33
        try clear RH
        try clear aiI
        try clear c36
        try clear uZ u6 Aq Ar E9 Fa Lg P5 P6
        try clear qY qZ xW xX FU FV LY VC VD
        try clear nI nJ rC rD tu tC yh Aw Ay
        try clear lW lX nM nN tN tO yK CW CX
        try clear pI pJ qF qG tV tX yM Qv Qw
        try clear pO pQ uf ug C8 C9 Da FY FZ
        try clear EY EZ L6 L8 L9 Ma Mc Qz QA
        try clear yO yP Df Dh F5 F6 F7 Mi Mj
        try clear yS yT yU yV Gb Gc Gd VG VH
        try clear qB qC sV sW vN vO CP FL FM
        try clear Gi Gj Jh Ji Mm Mo Mq VK VL
        try clear I8 I9 Qm Qn acH acI acJ acK acL
        try clear Al Am ET EU Jl Jm Jn VP VQ
        try clear aan aao aap aaq aar aas aat aau aav
        try clear wX wY DK DL Fv Fw KG NS NT
        try clear Bw Bz Fp Fq Oi Oj Vw Vx Vy
        try clear u7 ve Au Av Fb Fe Lh P7 P8
        try clear q9 rf xY xZ FW FX LZ VE VF
        try clear nK nL rE rF tF tH yj Az AA
        try clear lY lZ nO nP tQ tT yL CY CZ
        try clear pK pM qH qI tY tZ yN Qx Qy
        try clear pR pU uh ui Db Dc De F3 F4
        try clear E5 E8 Md Me Mf Mg Mh QB QC
        try clear yQ yR Di Dj F8 F9 Ga Mk Ml
        try clear yX yY yZ za Gf Gg Gh VI VJ
        try clear qD qE sZ tq vP vQ CQ FN FO
        try clear Gm Gn Jj Jk Mr Ms Mt VM VN
        try clear Ja Jb Qo Qp acM acN acO acP acQ
        try clear Ao Ap EW EX Jo Jp Jq VR VS
        try clear aaw aax aay aaz aaA aaB aaC aaD aaE
        try clear wZ xc DN DR Fx Fy KH NU NV
        try clear BA BC Fs Fu Ol Om Vz VA VB
        try clear p2
        try clear p6
        obtain ⟨gp,rfl,HA,Yd,jk,HB⟩:=hrel
        cases gk with
        |zero=>exact absurd HA.out (by simp [ak.l0])
        |succ k3 =>
         have H:=HA.out
         clear HA
         simp only [ak.l0] at H
         by_cases c37:gp < (aC.length:Int)
         ·rw [if_pos c37] at H
          have azs:decide (gp < (aC.length:Int)) = true:=decide_eq_true c37
          clear c37
          by_cases c38:0≤gp
          ·rw [if_pos c38] at H
           have aRQ:decide (0≤gp) = true:=decide_eq_true c38
           clear c38
           replace H:=Option.bind_eq_some_iff.mp H
           obtain ⟨t109,azt,H⟩:=H
           replace H:(if t109 = true then ((bV.f ((bu aC gp).f1.f0) ((bu aC gp).f1.f1) (wrap64 (-aJ)) aJ).bind fun t111=>(if t111 = true then (ak.l0 k3 (wrap64 (gp+1)) ah ai ax ay aK aH aJ aR aC) else (some 2))) else (some 2)) = some r:=H
           have A39:=aa.mk azt
           clear azt
           by_cases c40:t109 = true
           ·subst c40
            have H1:((bV.f ((bu aC gp).f1.f0) ((bu aC gp).f1.f1) (wrap64 (-aJ)) aJ).bind fun t111=>(if t111 = true then (ak.l0 k3 (wrap64 (gp+1)) ah ai ax ay aK aH aJ aR aC) else (some 2))) = some r:=by rw [if_pos rfl] at H;exact H
            clear H
            have H:=H1
            clear H1
            replace H:=Option.bind_eq_some_iff.mp H
            obtain ⟨t111,azu,H⟩:=H
            replace H:(if t111 = true then (ak.l0 k3 (wrap64 (gp+1)) ah ai ax ay aK aH aJ aR aC) else (some 2)) = some r:=H
            have A41:=aa.mk azu
            clear azu
            by_cases c42:t111 = true
            ·subst c42
             have H1:(ak.l0 k3 (wrap64 (gp+1)) ah ai ax ay aK aH aJ aR aC) = some r:=by rw [if_pos rfl] at H;exact H
             clear H
             have H:=H1
             clear H1
             have H':=aa.mk H
             clear H
             obtain ⟨LB,LC,LD,LF,alu,alv,alx,aly,alz,LG,LH,LJ,LK,alA,alB,alC,alD,alE⟩:=iH jk.out
             try go_wp2
             replace jk:=aa.mk (ag jk.out)
             replace HB:=aa.mk (bU HB.out)
             have RI:0≤(gp:Int):=of_decide_eq_true qN
             have RJ:gp < (aC.length:Int):=of_decide_eq_true qN
             obtain ⟨kr,e108,oD,oF,oG,oH⟩:=FE fH.out gp RI RJ
             have zb:=oH
             have ze:=oG
             have zf:=oF
             have zg:=oD
             cases e108
             replace oD:=(HB.out.cell (World.block_lt_of_cell? w _ oD)).trans oD
             replace oF:=(HB.out.cell (World.block_lt_of_cell? w _ oF)).trans oF
             replace oG:=(HB.out.cell (World.block_lt_of_cell? w _ oG)).trans oG
             replace oH:=(HB.out.cell (World.block_lt_of_cell? w _ oH)).trans oH
             replace RI:=eq_true RI
             replace RJ:=eq_true RJ
             have aaF:0≤(gp:Int):=of_decide_eq_true qN
             have aaG:gp < (aC.length:Int):=of_decide_eq_true qN
             obtain ⟨aiJ,avM,vR,vS,vT,vU⟩:=FE fH.out gp aaF aaG
             have Gp:=vU
             have Gq:=vT
             have Gr:=vS
             have Gs:=vR
             obtain rfl:kr = aiJ:=(by injection avM)
             replace vR:=(HB.out.cell (World.block_lt_of_cell? w _ vR)).trans vR
             replace vS:=(HB.out.cell (World.block_lt_of_cell? w _ vS)).trans vS
             replace vT:=(HB.out.cell (World.block_lt_of_cell? w _ vT)).trans vT
             replace vU:=(HB.out.cell (World.block_lt_of_cell? w _ vU)).trans vU
             replace aaF:=eq_true aaF
             replace aaG:=eq_true aaG
             refine jT (n:=28) (S:=fun w'=>w'.cell? ⟨nS,0,none⟩ = some (U Z ah)∧w'.cell? ⟨nS,1,none⟩ = some (U Z ai)∧w'.cell? ⟨nS,2,none⟩ = some (U Z ax)∧w'.cell? ⟨nS,3,none⟩ = some (U Z ay)∧w'.cell? ⟨nS,4,none⟩ = some (U Z aK)∧w'.cell? ⟨nS,5,none⟩ = some (U Z aH)∧w'.cell? ⟨nS,6,none⟩ = some (U Z aJ)∧w'.cell? ⟨nS,7,none⟩ = some (.slice dG aR.length dH)∧w'.cell? ⟨nS,8,none⟩ = some (.slice (some kr) aC.length dI)∧w'.cell? (kr.add ((gp).toNat*4)) = some (U Z ((bu aC gp).f0.f0))∧w'.cell? ⟨(kr.add ((gp).toNat*4)).block,(kr.add ((gp).toNat*4)).off+1,none⟩ = some (U Z ((bu aC gp).f0.f1))∧w'.cell? ⟨(kr.add ((gp).toNat*4)).block,(kr.add ((gp).toNat*4)).off+2,none⟩ = some (U Z ((bu aC gp).f1.f0))∧w'.cell? ⟨(kr.add ((gp).toNat*4)).block,(kr.add ((gp).toNat*4)).off+3,none⟩ = some (U Z ((bu aC gp).f1.f1))∧w'.cell? (kr.add ((gp).toNat*4)) = some (U Z ((bu aC gp).f0.f0))∧w'.cell? ⟨(kr.add ((gp).toNat*4)).block,(kr.add ((gp).toNat*4)).off+1,none⟩ = some (U Z ((bu aC gp).f0.f1))∧w'.cell? ⟨(kr.add ((gp).toNat*4)).block,(kr.add ((gp).toNat*4)).off+2,none⟩ = some (U Z ((bu aC gp).f1.f0))∧w'.cell? ⟨(kr.add ((gp).toNat*4)).block,(kr.add ((gp).toNat*4)).off+3,none⟩ = some (U Z ((bu aC gp).f1.f1))) (ds:=[]) #[ac,ac,ac,ac,ac,ac,ac,ac,ac,ac,ac,ac,ac,ac,ac,ac,ac,ac,ac,ac,ac,ac,ac,ac,ac,ac,ac,ac] aY rfl rfl (BI jk.out ⟨(uj HB zg),(uj HB zf),(uj HB ze),(uj HB zb),(uj HB Gs),(uj HB Gr),(uj HB Gq),(uj HB Gp)⟩) (fun hHeld=>?_);refine jg ak.avI ak.aiH (fun cO lS=>?_)
             generalize wr.drew = w44 at jk HB oD oF oG oH vR vS vT vU hHeld ⊢
             refine dW (i:=0) (N:=some 105) (aU cO.out aY) ?_
             refine dW (i:=2) (N:=some 107) (aU cO.out aY) ?_
             refine dW (i:=6) (N:=some 111) (aU cO.out aY) ?_
             refine dW (i:=9) (N:=some 114) (aU cO.out aY) ?_
             refine ja (i:=1) (N:=some 106) (bS cO.out lS.out aY) hHeld ?_
             refine dW (i:=3) (N:=some 108) (aU cO.out aY) ?_
             refine dW (i:=4) (N:=some 109) (aU cO.out aY) ?_
             refine ja (i:=5) (N:=some 110) (bS cO.out lS.out aY) hHeld ?_
             refine ja (i:=7) (N:=some 112) (bS cO.out lS.out aY) hHeld ?_
             refine dW (i:=8) (N:=some 113) (aU cO.out aY) ?_
             refine ja (i:=10) (N:=some 115) (bS cO.out lS.out aY) hHeld ?_
             refine jJ (i:=11) (N:=some 116) #[ab,ab,ab,ab,ab,ab,ab,ab,ab,ab,ab,ab,ac,ac,ac,ac,ac,ac,ac,ac,ac,ac,ac,ac,ac,ac,ac,ac] rfl rfl (gM cO.out aY) (by decide) (fun K hK=>?_)
             refine gQ Try.func78 aY rfl #[.agg #[U Z ((bu aC gp).f0.f0),U Z ((bu aC gp).f0.f1)],U Z (wrap64 (-aJ)),U Z aJ] (by rfl) rfl rfl iG ?_
             with_reducible refine (bV.calls ((bu aC gp).f0.f0) ((bu aC gp).f0.f1) (wrap64 (-aJ)) aJ true _ A39.out).mono ?_
             rintro e w45 ⟨rfl,hb⟩
             refine ⟨_,rfl,?_⟩
             replace jk:=bC jk hb
             replace HB:=dw HB hb
             (try clear hb)
             (try clear hb2)
             (try clear hk)
             (try clear hi)
             refine hK.out _ _ (BI jk.out ⟨(uj HB zg),(uj HB zf),(uj HB ze),(uj HB zb),(uj HB Gs),(uj HB Gr),(uj HB Gq),(uj HB Gp)⟩) (fun hHeld=>?_)
             clear hK K
             refine eY avN ?_
             refine dW (i:=12) (N:=some 117) (aU cO.out aY) ?_
             refine dW (i:=13) (N:=some 118) (aU cO.out aY) ?_
             refine dW (i:=14) (N:=some 119) (aU cO.out aY) ?_
             refine dW (i:=16) (N:=some 121) (aU cO.out aY) ?_
             refine dW (i:=20) (N:=some 125) (aU cO.out aY) ?_
             refine dW (i:=23) (N:=some 128) (aU cO.out aY) ?_
             refine ja (i:=15) (N:=some 120) (bS cO.out lS.out aY) hHeld ?_
             refine dW (i:=17) (N:=some 122) (aU cO.out aY) ?_
             refine dW (i:=18) (N:=some 123) (aU cO.out aY) ?_
             refine ja (i:=19) (N:=some 124) (bS cO.out lS.out aY) hHeld ?_
             refine ja (i:=21) (N:=some 126) (bS cO.out lS.out aY) hHeld ?_
             refine dW (i:=22) (N:=some 127) (aU cO.out aY) ?_
             refine ja (i:=24) (N:=some 129) (bS cO.out lS.out aY) hHeld ?_
             refine jJ (i:=25) (N:=some 130) #[ab,ab,ab,ab,ab,ab,ab,ab,ab,ab,ab,ab,ab,ab,ab,ab,ab,ab,ab,ab,ab,ab,ab,ab,ab,ab,ac,ac] rfl rfl (gM cO.out aY) (by decide) (fun K hK=>?_)
             refine gQ Try.func78 aY rfl #[.agg #[U Z ((bu aC gp).f1.f0),U Z ((bu aC gp).f1.f1)],U Z (wrap64 (-aJ)),U Z aJ] (by rfl) rfl rfl iG ?_
             with_reducible refine (bV.calls ((bu aC gp).f1.f0) ((bu aC gp).f1.f1) (wrap64 (-aJ)) aJ true _ A41.out).mono ?_
             rintro e w46 ⟨rfl,hb⟩
             refine ⟨_,rfl,?_⟩
             replace jk:=bC jk hb
             replace HB:=dw HB hb
             (try clear hb)
             (try clear hb2)
             (try clear hk)
             (try clear hi)
             refine hK.out _ _ (BI jk.out ⟨(uj HB zg),(uj HB zf),(uj HB ze),(uj HB zb),(uj HB Gs),(uj HB Gr),(uj HB Gq),(uj HB Gp)⟩) (fun hHeld=>?_)
             clear hK K
             refine eY azw ?_
             refine dW (i:=26) (N:=some 131) (aU cO.out aY) ?_
             refine dW (i:=27) (N:=some 132) (aU cO.out aY) ?_
             refine lI (lN cO.out aY) ?_
             try go_wp2
             go_roundg k3
             case measure=>have:=HJ1.out;have:=azr.out;have:=Yd.out;omega
             case rel=>exact ⟨(wrap64 (gp+1)),mg,H',⟨by have:=HJ1.out;have:=azr.out;have:=Yd.out;omega⟩,⟨fB⟩,⟨fu⟩⟩
            ·replace c42:=Bool.eq_false_iff.mpr c42
             subst c42
             have H1:(some 2) = some r:=by rw [if_neg (show ¬ (false = true) by decide)] at H;exact H
             clear H
             have H:=H1
             clear H1
             obtain rfl:=Option.some.inj H
             obtain ⟨aon,aoo,aop,aoq,aor,aos,aot,aJW,aJX,aou,aov,aow,aox,aoy,aoz,aoA,aJY,aJZ⟩:=iH jk.out
             try go_wp2
             replace jk:=aa.mk (ag jk.out)
             replace HB:=aa.mk (bU HB.out)
             have RI:0≤(gp:Int):=of_decide_eq_true qN
             have RJ:gp < (aC.length:Int):=of_decide_eq_true qN
             obtain ⟨kr,e108,oD,oF,oG,oH⟩:=FE fH.out gp RI RJ
             have zb:=oH
             have ze:=oG
             have zf:=oF
             have zg:=oD
             cases e108
             replace oD:=(HB.out.cell (World.block_lt_of_cell? w _ oD)).trans oD
             replace oF:=(HB.out.cell (World.block_lt_of_cell? w _ oF)).trans oF
             replace oG:=(HB.out.cell (World.block_lt_of_cell? w _ oG)).trans oG
             replace oH:=(HB.out.cell (World.block_lt_of_cell? w _ oH)).trans oH
             replace RI:=eq_true RI
             replace RJ:=eq_true RJ
             have aaF:0≤(gp:Int):=of_decide_eq_true qN
             have aaG:gp < (aC.length:Int):=of_decide_eq_true qN
             obtain ⟨aiJ,avM,vR,vS,vT,vU⟩:=FE fH.out gp aaF aaG
             have Gp:=vU
             have Gq:=vT
             have Gr:=vS
             have Gs:=vR
             obtain rfl:kr = aiJ:=(by injection avM)
             replace vR:=(HB.out.cell (World.block_lt_of_cell? w _ vR)).trans vR
             replace vS:=(HB.out.cell (World.block_lt_of_cell? w _ vS)).trans vS
             replace vT:=(HB.out.cell (World.block_lt_of_cell? w _ vT)).trans vT
             replace vU:=(HB.out.cell (World.block_lt_of_cell? w _ vU)).trans vU
             replace aaF:=eq_true aaF
             replace aaG:=eq_true aaG
             refine jT (n:=28) (S:=fun w'=>w'.cell? ⟨nS,0,none⟩ = some (U Z ah)∧w'.cell? ⟨nS,1,none⟩ = some (U Z ai)∧w'.cell? ⟨nS,2,none⟩ = some (U Z ax)∧w'.cell? ⟨nS,3,none⟩ = some (U Z ay)∧w'.cell? ⟨nS,4,none⟩ = some (U Z aK)∧w'.cell? ⟨nS,5,none⟩ = some (U Z aH)∧w'.cell? ⟨nS,6,none⟩ = some (U Z aJ)∧w'.cell? ⟨nS,7,none⟩ = some (.slice dG aR.length dH)∧w'.cell? ⟨nS,8,none⟩ = some (.slice (some kr) aC.length dI)∧w'.cell? (kr.add ((gp).toNat*4)) = some (U Z ((bu aC gp).f0.f0))∧w'.cell? ⟨(kr.add ((gp).toNat*4)).block,(kr.add ((gp).toNat*4)).off+1,none⟩ = some (U Z ((bu aC gp).f0.f1))∧w'.cell? ⟨(kr.add ((gp).toNat*4)).block,(kr.add ((gp).toNat*4)).off+2,none⟩ = some (U Z ((bu aC gp).f1.f0))∧w'.cell? ⟨(kr.add ((gp).toNat*4)).block,(kr.add ((gp).toNat*4)).off+3,none⟩ = some (U Z ((bu aC gp).f1.f1))∧w'.cell? (kr.add ((gp).toNat*4)) = some (U Z ((bu aC gp).f0.f0))∧w'.cell? ⟨(kr.add ((gp).toNat*4)).block,(kr.add ((gp).toNat*4)).off+1,none⟩ = some (U Z ((bu aC gp).f0.f1))∧w'.cell? ⟨(kr.add ((gp).toNat*4)).block,(kr.add ((gp).toNat*4)).off+2,none⟩ = some (U Z ((bu aC gp).f1.f0))∧w'.cell? ⟨(kr.add ((gp).toNat*4)).block,(kr.add ((gp).toNat*4)).off+3,none⟩ = some (U Z ((bu aC gp).f1.f1))) (ds:=[]) #[ac,ac,ac,ac,ac,ac,ac,ac,ac,ac,ac,ac,ac,ac,ac,ac,ac,ac,ac,ac,ac,ac,ac,ac,ac,ac,ac,ac] aY rfl rfl (BI jk.out ⟨(uj HB zg),(uj HB zf),(uj HB ze),(uj HB zb),(uj HB Gs),(uj HB Gr),(uj HB Gq),(uj HB Gp)⟩) (fun hHeld=>?_);refine jg ak.avI ak.aiH (fun cO lS=>?_)
             generalize wr.drew = w48 at jk HB oD oF oG oH vR vS vT vU hHeld ⊢
             refine dW (i:=0) (N:=some 105) (aU cO.out aY) ?_
             refine dW (i:=2) (N:=some 107) (aU cO.out aY) ?_
             refine dW (i:=6) (N:=some 111) (aU cO.out aY) ?_
             refine dW (i:=9) (N:=some 114) (aU cO.out aY) ?_
             refine ja (i:=1) (N:=some 106) (bS cO.out lS.out aY) hHeld ?_
             refine dW (i:=3) (N:=some 108) (aU cO.out aY) ?_
             refine dW (i:=4) (N:=some 109) (aU cO.out aY) ?_
             refine ja (i:=5) (N:=some 110) (bS cO.out lS.out aY) hHeld ?_
             refine ja (i:=7) (N:=some 112) (bS cO.out lS.out aY) hHeld ?_
             refine dW (i:=8) (N:=some 113) (aU cO.out aY) ?_
             refine ja (i:=10) (N:=some 115) (bS cO.out lS.out aY) hHeld ?_
             refine jJ (i:=11) (N:=some 116) #[ab,ab,ab,ab,ab,ab,ab,ab,ab,ab,ab,ab,ac,ac,ac,ac,ac,ac,ac,ac,ac,ac,ac,ac,ac,ac,ac,ac] rfl rfl (gM cO.out aY) (by decide) (fun K hK=>?_)
             refine gQ Try.func78 aY rfl #[.agg #[U Z ((bu aC gp).f0.f0),U Z ((bu aC gp).f0.f1)],U Z (wrap64 (-aJ)),U Z aJ] (by rfl) rfl rfl iG ?_
             with_reducible refine (bV.calls ((bu aC gp).f0.f0) ((bu aC gp).f0.f1) (wrap64 (-aJ)) aJ true _ A39.out).mono ?_
             rintro e w49 ⟨rfl,hb⟩
             refine ⟨_,rfl,?_⟩
             replace jk:=bC jk hb
             replace HB:=dw HB hb
             (try clear hb)
             (try clear hb2)
             (try clear hk)
             (try clear hi)
             refine hK.out _ _ (BI jk.out ⟨(uj HB zg),(uj HB zf),(uj HB ze),(uj HB zb),(uj HB Gs),(uj HB Gr),(uj HB Gq),(uj HB Gp)⟩) (fun hHeld=>?_)
             clear hK K
             refine eY avN ?_
             refine dW (i:=12) (N:=some 117) (aU cO.out aY) ?_
             refine dW (i:=13) (N:=some 118) (aU cO.out aY) ?_
             refine dW (i:=14) (N:=some 119) (aU cO.out aY) ?_
             refine dW (i:=16) (N:=some 121) (aU cO.out aY) ?_
             refine dW (i:=20) (N:=some 125) (aU cO.out aY) ?_
             refine dW (i:=23) (N:=some 128) (aU cO.out aY) ?_
             refine ja (i:=15) (N:=some 120) (bS cO.out lS.out aY) hHeld ?_
             refine dW (i:=17) (N:=some 122) (aU cO.out aY) ?_
             refine dW (i:=18) (N:=some 123) (aU cO.out aY) ?_
             refine ja (i:=19) (N:=some 124) (bS cO.out lS.out aY) hHeld ?_
             refine ja (i:=21) (N:=some 126) (bS cO.out lS.out aY) hHeld ?_
             refine dW (i:=22) (N:=some 127) (aU cO.out aY) ?_
             refine ja (i:=24) (N:=some 129) (bS cO.out lS.out aY) hHeld ?_
             refine jJ (i:=25) (N:=some 130) #[ab,ab,ab,ab,ab,ab,ab,ab,ab,ab,ab,ab,ab,ab,ab,ab,ab,ab,ab,ab,ab,ab,ab,ab,ab,ab,ac,ac] rfl rfl (gM cO.out aY) (by decide) (fun K hK=>?_)
             refine gQ Try.func78 aY rfl #[.agg #[U Z ((bu aC gp).f1.f0),U Z ((bu aC gp).f1.f1)],U Z (wrap64 (-aJ)),U Z aJ] (by rfl) rfl rfl iG ?_
             with_reducible refine (bV.calls ((bu aC gp).f1.f0) ((bu aC gp).f1.f1) (wrap64 (-aJ)) aJ false _ A41.out).mono ?_
             rintro e w50 ⟨rfl,hb⟩
             refine ⟨_,rfl,?_⟩
             replace jk:=bC jk hb
             replace HB:=dw HB hb
             (try clear hb)
             (try clear hb2)
             (try clear hk)
             (try clear hi)
             refine hK.out _ _ (BI jk.out ⟨(uj HB zg),(uj HB zf),(uj HB ze),(uj HB zb),(uj HB Gs),(uj HB Gr),(uj HB Gq),(uj HB Gp)⟩) (fun hHeld=>?_)
             clear hK K
             refine eY azw ?_
             refine dW (i:=26) (N:=some 131) (aU cO.out aY) ?_
             refine dW (i:=27) (N:=some 132) (aU cO.out aY) ?_
             refine lI (lN cO.out aY) ?_
             try go_wp2
             go_ret
             exact ⟨kL,fu⟩
           ·replace c40:=Bool.eq_false_iff.mpr c40
            subst c40
            have H1:(some 2) = some r:=by rw [if_neg (show ¬ (false = true) by decide)] at H;exact H
            clear H
            have H:=H1
            clear H1
            obtain rfl:=Option.some.inj H
            obtain ⟨abZ,ab0,ant,anu,aJ0,aJ1,aJ2,aJ3,aJ4,ab1,ab2,anv,anw,aJ5,aJ6,aJ7,aJ8,aJ9⟩:=iH jk.out
            try go_wp2
            replace jk:=aa.mk (ag jk.out)
            replace HB:=aa.mk (bU HB.out)
            have RI:0≤(gp:Int):=of_decide_eq_true qN
            have RJ:gp < (aC.length:Int):=of_decide_eq_true qN
            obtain ⟨kr,e108,oD,oF,oG,oH⟩:=FE fH.out gp RI RJ
            have zb:=oH
            have ze:=oG
            have zf:=oF
            have zg:=oD
            cases e108
            replace oD:=(HB.out.cell (World.block_lt_of_cell? w _ oD)).trans oD
            replace oF:=(HB.out.cell (World.block_lt_of_cell? w _ oF)).trans oF
            replace oG:=(HB.out.cell (World.block_lt_of_cell? w _ oG)).trans oG
            replace oH:=(HB.out.cell (World.block_lt_of_cell? w _ oH)).trans oH
            replace RI:=eq_true RI
            replace RJ:=eq_true RJ
            refine jT (n:=28) (S:=fun w'=>w'.cell? ⟨nS,0,none⟩ = some (U Z ah)∧w'.cell? ⟨nS,1,none⟩ = some (U Z ai)∧w'.cell? ⟨nS,2,none⟩ = some (U Z ax)∧w'.cell? ⟨nS,3,none⟩ = some (U Z ay)∧w'.cell? ⟨nS,4,none⟩ = some (U Z aK)∧w'.cell? ⟨nS,5,none⟩ = some (U Z aH)∧w'.cell? ⟨nS,6,none⟩ = some (U Z aJ)∧w'.cell? ⟨nS,7,none⟩ = some (.slice dG aR.length dH)∧w'.cell? ⟨nS,8,none⟩ = some (.slice (some kr) aC.length dI)∧w'.cell? (kr.add ((gp).toNat*4)) = some (U Z ((bu aC gp).f0.f0))∧w'.cell? ⟨(kr.add ((gp).toNat*4)).block,(kr.add ((gp).toNat*4)).off+1,none⟩ = some (U Z ((bu aC gp).f0.f1))∧w'.cell? ⟨(kr.add ((gp).toNat*4)).block,(kr.add ((gp).toNat*4)).off+2,none⟩ = some (U Z ((bu aC gp).f1.f0))∧w'.cell? ⟨(kr.add ((gp).toNat*4)).block,(kr.add ((gp).toNat*4)).off+3,none⟩ = some (U Z ((bu aC gp).f1.f1))) (ds:=[]) #[ac,ac,ac,ac,ac,ac,ac,ac,ac,ac,ac,ac,ac,ac,ac,ac,ac,ac,ac,ac,ac,ac,ac,ac,ac,ac,ac,ac] aY rfl rfl (BI jk.out ⟨(uj HB zg),(uj HB zf),(uj HB ze),(uj HB zb)⟩) (fun hHeld=>?_);refine jg ak.avI ak.aiH (fun cO lS=>?_)
            generalize wr.drew = w52 at jk HB oD oF oG oH hHeld ⊢
            refine dW (i:=0) (N:=some 105) (aU cO.out aY) ?_
            refine dW (i:=2) (N:=some 107) (aU cO.out aY) ?_
            refine dW (i:=6) (N:=some 111) (aU cO.out aY) ?_
            refine dW (i:=9) (N:=some 114) (aU cO.out aY) ?_
            refine ja (i:=1) (N:=some 106) (bS cO.out lS.out aY) hHeld ?_
            refine dW (i:=3) (N:=some 108) (aU cO.out aY) ?_
            refine dW (i:=4) (N:=some 109) (aU cO.out aY) ?_
            refine ja (i:=5) (N:=some 110) (bS cO.out lS.out aY) hHeld ?_
            refine ja (i:=7) (N:=some 112) (bS cO.out lS.out aY) hHeld ?_
            refine dW (i:=8) (N:=some 113) (aU cO.out aY) ?_
            refine ja (i:=10) (N:=some 115) (bS cO.out lS.out aY) hHeld ?_
            refine jJ (i:=11) (N:=some 116) #[ab,ab,ab,ab,ab,ab,ab,ab,ab,ab,ab,ab,ac,ac,ac,ac,ac,ac,ac,ac,ac,ac,ac,ac,ac,ac,ac,ac] rfl rfl (gM cO.out aY) (by decide) (fun K hK=>?_)
            refine gQ Try.func78 aY rfl #[.agg #[U Z ((bu aC gp).f0.f0),U Z ((bu aC gp).f0.f1)],U Z (wrap64 (-aJ)),U Z aJ] (by rfl) rfl rfl iG ?_
            with_reducible refine (bV.calls ((bu aC gp).f0.f0) ((bu aC gp).f0.f1) (wrap64 (-aJ)) aJ false _ A39.out).mono ?_
            rintro e w53 ⟨rfl,hb⟩
            refine ⟨_,rfl,?_⟩
            replace jk:=bC jk hb
            replace HB:=dw HB hb
            (try clear hb)
            (try clear hb2)
            (try clear hk)
            (try clear hi)
            refine hK.out _ _ (BI jk.out ⟨(uj HB zg),(uj HB zf),(uj HB ze),(uj HB zb)⟩) (fun hHeld=>?_)
            clear hK K
            refine eY avN ?_
            refine dW (i:=12) (N:=some 117) (aU cO.out aY) ?_
            refine dW (i:=13) (N:=some 118) (aU cO.out aY) ?_
            refine jR (i:=14) (N:=some 119) (v:=undef) (a':=?_) #[ab,ab,ab,ab,ab,ab,ab,ab,ab,ab,ab,ab,ab,ab,ab,ac,ac,ac,ac,ac,ac,ac,ac,ac,ac,ac,ac,ac] rfl rfl (aU cO.out aY) (fun _ _ _ h=>h) (Or.inr ⟨by rfl,rfl⟩) ?_ ?_
            rotate_left
            ·simp only [Act.put,List.setIfInBounds_toArray,List.set_cons_zero,List.set_cons_succ,eB,eH]
             rfl
            refine jR (i:=15) (N:=some 120) (v:=undef) (a':=?_) #[ab,ab,ab,ab,ab,ab,ab,ab,ab,ab,ab,ab,ab,ab,ab,ab,ac,ac,ac,ac,ac,ac,ac,ac,ac,ac,ac,ac] rfl rfl (aU cO.out aY) (fun _ _ _ h=>h) (Or.inr ⟨by rfl,rfl⟩) ?_ ?_
            rotate_left
            ·simp only [Act.put,List.setIfInBounds_toArray,List.set_cons_zero,List.set_cons_succ,eB,eH]
             rfl
            refine jR (i:=16) (N:=some 121) (v:=undef) (a':=?_) #[ab,ab,ab,ab,ab,ab,ab,ab,ab,ab,ab,ab,ab,ab,ab,ab,ab,ac,ac,ac,ac,ac,ac,ac,ac,ac,ac,ac] rfl rfl (aU cO.out aY) (fun _ _ _ h=>h) (Or.inr ⟨by rfl,rfl⟩) ?_ ?_
            rotate_left
            ·simp only [Act.put,List.setIfInBounds_toArray,List.set_cons_zero,List.set_cons_succ,eB,eH]
             rfl
            refine jR (i:=17) (N:=some 122) (v:=undef) (a':=?_) #[ab,ab,ab,ab,ab,ab,ab,ab,ab,ab,ab,ab,ab,ab,ab,ab,ab,ab,ac,ac,ac,ac,ac,ac,ac,ac,ac,ac] rfl rfl (aU cO.out aY) (fun _ _ _ h=>h) (Or.inr ⟨by rfl,rfl⟩) ?_ ?_
            rotate_left
            ·simp only [Act.put,List.setIfInBounds_toArray,List.set_cons_zero,List.set_cons_succ,eB,eH]
             rfl
            refine jR (i:=18) (N:=some 123) (v:=undef) (a':=?_) #[ab,ab,ab,ab,ab,ab,ab,ab,ab,ab,ab,ab,ab,ab,ab,ab,ab,ab,ab,ac,ac,ac,ac,ac,ac,ac,ac,ac] rfl rfl (aU cO.out aY) (fun _ _ _ h=>h) (Or.inr ⟨by rfl,rfl⟩) ?_ ?_
            rotate_left
            ·simp only [Act.put,List.setIfInBounds_toArray,List.set_cons_zero,List.set_cons_succ,eB,eH]
             rfl
            refine jR (i:=19) (N:=some 124) (v:=undef) (a':=?_) #[ab,ab,ab,ab,ab,ab,ab,ab,ab,ab,ab,ab,ab,ab,ab,ab,ab,ab,ab,ab,ac,ac,ac,ac,ac,ac,ac,ac] rfl rfl (aU cO.out aY) (fun _ _ _ h=>h) (Or.inr ⟨by rfl,rfl⟩) ?_ ?_
            rotate_left
            ·simp only [Act.put,List.setIfInBounds_toArray,List.set_cons_zero,List.set_cons_succ,eB,eH]
             rfl
            refine jR (i:=20) (N:=some 125) (v:=undef) (a':=?_) #[ab,ab,ab,ab,ab,ab,ab,ab,ab,ab,ab,ab,ab,ab,ab,ab,ab,ab,ab,ab,ab,ac,ac,ac,ac,ac,ac,ac] rfl rfl (aU cO.out aY) (fun _ _ _ h=>h) (Or.inr ⟨by rfl,rfl⟩) ?_ ?_
            rotate_left
            ·simp only [Act.put,List.setIfInBounds_toArray,List.set_cons_zero,List.set_cons_succ,eB,eH]
             rfl
            refine jR (i:=21) (N:=some 126) (v:=undef) (a':=?_) #[ab,ab,ab,ab,ab,ab,ab,ab,ab,ab,ab,ab,ab,ab,ab,ab,ab,ab,ab,ab,ab,ab,ac,ac,ac,ac,ac,ac] rfl rfl (aU cO.out aY) (fun _ _ _ h=>h) (Or.inr ⟨by rfl,rfl⟩) ?_ ?_
            rotate_left
            ·simp only [Act.put,List.setIfInBounds_toArray,List.set_cons_zero,List.set_cons_succ,eB,eH]
             rfl
            refine jR (i:=22) (N:=some 127) (v:=undef) (a':=?_) #[ab,ab,ab,ab,ab,ab,ab,ab,ab,ab,ab,ab,ab,ab,ab,ab,ab,ab,ab,ab,ab,ab,ab,ac,ac,ac,ac,ac] rfl rfl (aU cO.out aY) (fun _ _ _ h=>h) (Or.inr ⟨by rfl,rfl⟩) ?_ ?_
            rotate_left
            ·simp only [Act.put,List.setIfInBounds_toArray,List.set_cons_zero,List.set_cons_succ,eB,eH]
             rfl
            refine jR (i:=23) (N:=some 128) (v:=undef) (a':=?_) #[ab,ab,ab,ab,ab,ab,ab,ab,ab,ab,ab,ab,ab,ab,ab,ab,ab,ab,ab,ab,ab,ab,ab,ab,ac,ac,ac,ac] rfl rfl (aU cO.out aY) (fun _ _ _ h=>h) (Or.inr ⟨by rfl,rfl⟩) ?_ ?_
            rotate_left
            ·simp only [Act.put,List.setIfInBounds_toArray,List.set_cons_zero,List.set_cons_succ,eB,eH]
             rfl
            refine jR (i:=24) (N:=some 129) (v:=undef) (a':=?_) #[ab,ab,ab,ab,ab,ab,ab,ab,ab,ab,ab,ab,ab,ab,ab,ab,ab,ab,ab,ab,ab,ab,ab,ab,ab,ac,ac,ac] rfl rfl (aU cO.out aY) (fun _ _ _ h=>h) (Or.inr ⟨by rfl,rfl⟩) ?_ ?_
            rotate_left
            ·simp only [Act.put,List.setIfInBounds_toArray,List.set_cons_zero,List.set_cons_succ,eB,eH]
             rfl
            refine jR (i:=25) (N:=some 130) (v:=undef) (a':=?_) #[ab,ab,ab,ab,ab,ab,ab,ab,ab,ab,ab,ab,ab,ab,ab,ab,ab,ab,ab,ab,ab,ab,ab,ab,ab,ab,ac,ac] rfl rfl (aU cO.out aY) (fun _ _ _ h=>h) (Or.inr ⟨by rfl,rfl⟩) ?_ ?_
            rotate_left
            ·simp only [Act.put,List.setIfInBounds_toArray,List.set_cons_zero,List.set_cons_succ,eB,eH]
             rfl
            refine jR (i:=26) (N:=some 131) (v:=undef) (a':=?_) #[ab,ab,ab,ab,ab,ab,ab,ab,ab,ab,ab,ab,ab,ab,ab,ab,ab,ab,ab,ab,ab,ab,ab,ab,ab,ab,ab,ac] rfl rfl (aU cO.out aY) (fun _ _ _ h=>h) (Or.inr ⟨by rfl,rfl⟩) ?_ ?_
            rotate_left
            ·simp only [Act.put,List.setIfInBounds_toArray,List.set_cons_zero,List.set_cons_succ,eB,eH]
             rfl
            refine dW (i:=27) (N:=some 132) (aU cO.out aY) ?_
            refine lI (lN cO.out aY) ?_
            try go_wp2
            go_ret
            exact ⟨kL,fu⟩
          ·rw [if_neg c38] at H
           exact absurd H (by simp)
         ·rw [if_neg c37] at H
          have azs:decide (gp < (aC.length:Int)) = false:=decide_eq_false c37
          clear c37
          obtain rfl:=Option.some.inj H
          obtain ⟨acR,acS,acT,acU,acV,acW,acX,acY,acZ,ac0,ac1,ac2,ac3,ac4,ac5,ac6,ac7,ac8⟩:=iH jk.out
          go_wp2
          go_ret
          exact ⟨kL,fu⟩
end Go.Proofs.Ytmhaiihjfgfaoaa.Pr
end
