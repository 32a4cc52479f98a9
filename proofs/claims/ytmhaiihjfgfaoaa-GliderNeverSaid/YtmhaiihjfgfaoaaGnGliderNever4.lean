import Derived.Test.YtmhaiihjfgfaoaaGnGliderNever3
open Go.Value renaming int → Z
open Go.IntKind renaming i64 → ab
open Bool renaming true → ac, false → al
section
namespace Go.Proofs.Ytmhaiihjfgfaoaa.Pr
open Go.RowKit Go.Proofs.YtmhaiihjfgfaoaaW.PrintWords Go.Proofs.YtmhaiihjfgfaoaaW.PrintLast Go.Proofs.YtmhaiihjfgfaoaaW.PrintMore
attribute [local go_sem] dw dx dM dN dz
set_option linter.unusedVariables false
set_option linter.unusedSimpArgs false
mutual
def aj.j0:Nat→Bool→Int→Int→Int→Int→Int→Int→Int→List Bool→List (qW)→Option (Int)
 |0,_,_,_,_,_,_,_,_,_,_=>none
 |k+1,x71,xM,xN,EP,ER,BG,BH,si,BI,pY=>if x71 = true then (some 2) else (if (BI.length:Int) = (wrap64 (xM*xN)) then (aj.j1 k ((pY.length:Int) != (wrap64 ((wrap64 ((wrap64 (BG*BH))*xM))*xN))) xM xN EP ER BG BH si BI pY) else (aj.j1 k true xM xN EP ER BG BH si BI pY))
def aj.j1:Nat→Bool→Int→Int→Int→Int→Int→Int→Int→List Bool→List (qW)→Option (Int)
 |0,_,_,_,_,_,_,_,_,_,_=>none
 |k+1,x97,xM,xN,EP,ER,BG,BH,si,BI,pY=>if x97 = true then (some 2) else (aj.l0 k 0 xM xN EP ER BG BH si BI pY)
def aj.l0:Nat→Int→Int→Int→Int→Int→Int→Int→Int→List Bool→List (qW)→Option (Int)
 |0,_,_,_,_,_,_,_,_,_,_=>none
 |k+1,x3,xM,xN,EP,ER,BG,BH,si,BI,pY=>if x3 < (pY.length:Int) then (if 0≤x3 then ((aX.f ((bQ pY x3).f0.f0) ((bQ pY x3).f0.f1) (wrap64 (-si)) si).bind fun t109=>(if t109 = true then ((aX.f ((bQ pY x3).f1.f0) ((bQ pY x3).f1.f1) (wrap64 (-si)) si).bind fun t111=>(if t111 = true then (aj.l0 k (wrap64 (x3+1)) xM xN EP ER BG BH si BI pY) else (some 2))) else (some 2))) else (none)) else (some 0)
end
def aj.f (k:Nat) (ax:Int) (av:Int) (aH:Int) (aG:Int) (aQ:Int) (aN:Int) (aM:Int) (bn:List Bool) (aW:List (qW)):Option (Int):=if ax < 1 then (aj.j0 k true ax av aH aG aQ aN aM bn aW) else (if ax > 12 then (aj.j0 k true ax av aH aG aQ aN aM bn aW) else (if av < 1 then (aj.j0 k true ax av aH aG aQ aN aM bn aW) else (if av > 12 then (aj.j0 k true ax av aH aG aQ aN aM bn aW) else (if aH < 100 then (aj.j0 k true ax av aH aG aQ aN aM bn aW) else (if aH > 65536 then (aj.j0 k true ax av aH aG aQ aN aM bn aW) else (if aG < 1 then (aj.j0 k true ax av aH aG aQ aN aM bn aW) else (if aG > 1048576 then (aj.j0 k true ax av aH aG aQ aN aM bn aW) else (if aQ < 1 then (aj.j0 k true ax av aH aG aQ aN aM bn aW) else (if aQ > 16 then (aj.j0 k true ax av aH aG aQ aN aM bn aW) else (if aN < 1 then (aj.j0 k true ax av aH aG aQ aN aM bn aW) else (if aN > 3 then (aj.j0 k true ax av aH aG aQ aN aM bn aW) else (if aM < 0 then (aj.j0 k true ax av aH aG aQ aN aM bn aW) else (aj.j0 k (decide (aM > 5000)) ax av aH aG aQ aN aM bn aW)))))))))))))
def aj.T8:Bool × List (List Nat × List Nat):=(true,[([],[]),([0],[0]),([],[]),([1,2],[1,2]),([3],[3]),([4],[4]),([],[]),([6],[6]),([7],[7]),([],[]),([9],[9]),([5,8,10],[5,8,10]),([11],[11]),([12,11],[12]),([13],[13]),([14,13],[13,14]),([13],[13]),([15,16,13],[13,15,16]),([17,13],[13,17]),([18,13],[13,18]),([13],[13]),([20,13],[13,20]),([21,13],[13,21]),([13],[13]),([23,13],[13,23]),([19,22,24,13,13],[13,19,22,24]),([25,13],[13,25]),([13,26],[13,26])])
def aj.B8:List Nat:=[0,1,0,7,15,31,0,64,192,0,512,2047,4095,8191,16383,32767,16383,131071,262143,524287,16383,1064959,3162111,16383,8404991,33554431,67108863,134217727]
theorem aj.aqn:uo .any (opsOf Try.f26 8) = aj.T8:=by kernel_rfl
theorem aj.aka:vR aj.T8.2 aj.B8 = true:=by kernel_rfl
set_option maxHeartbeats 8000000 in
set_option maxRecDepth 100000 in
theorem aj.calls (k:Nat) (ax:Int) (av:Int) (aH:Int) (aG:Int) (aQ:Int) (aN:Int) (aM:Int) (fJ:Option Addr) (fK:Nat) (bn:List Bool) (fU:Option Addr) (fM:Nat) (aW:List (qW)) (r:Int) (w:World) (nP:Kd.C Kd.bool w fJ bn.length bn) (nQ:bn.length≤fK) (nR:Kd.C Cm w fU aW.length aW) (nS:aW.length≤fM) (h:aj.f k ax av aH aG aQ aN aM bn aW = some r):
 Calls Try.prog 26 #[.agg #[Z ab ax,Z ab av,Z ab aH,Z ab aG,Z ab aQ,Z ab aN,Z ab aM,.slice fJ bn.length fK,.slice fU aW.length fM]] w fun e w'=>e = .returned (Z ab r)∧Below w.heap.size w w':=by
 have Cn:=Try.underlying25
 have mE:=Try.underlying27
 have mi:=ag.mk nP
 have mo:=ag.mk nQ
 clear nP nQ
 have jH:=ag.mk nR
 have mq:=ag.mk nS
 clear nR nS
 have HB:=ag.mk (Below.refl w.heap.size w)
 have H:(if ax < 1 then (aj.j0 k true ax av aH aG aQ aN aM bn aW) else (if ax > 12 then (aj.j0 k true ax av aH aG aQ aN aM bn aW) else (if av < 1 then (aj.j0 k true ax av aH aG aQ aN aM bn aW) else (if av > 12 then (aj.j0 k true ax av aH aG aQ aN aM bn aW) else (if aH < 100 then (aj.j0 k true ax av aH aG aQ aN aM bn aW) else (if aH > 65536 then (aj.j0 k true ax av aH aG aQ aN aM bn aW) else (if aG < 1 then (aj.j0 k true ax av aH aG aQ aN aM bn aW) else (if aG > 1048576 then (aj.j0 k true ax av aH aG aQ aN aM bn aW) else (if aQ < 1 then (aj.j0 k true ax av aH aG aQ aN aM bn aW) else (if aQ > 16 then (aj.j0 k true ax av aH aG aQ aN aM bn aW) else (if aN < 1 then (aj.j0 k true ax av aH aG aQ aN aM bn aW) else (if aN > 3 then (aj.j0 k true ax av aH aG aQ aN aM bn aW) else (if aM < 0 then (aj.j0 k true ax av aH aG aQ aN aM bn aW) else (aj.j0 k (decide (aM > 5000)) ax av aH aG aQ aN aM bn aW)))))))))))))) = some r:=h
 clear h
 have HC2:=ag.mk H
 clear H
 go_enter Try.func26,Try.ntmps26
 go_upto_region 1 with (first|((with_reducible refine aI (N:=1) rfl ?_);(try (refine jI (by rfl) ?_;dsimp only));refine aC (by rfl) (N:=1) (by rfl) (cs:=#[Z ab ax,Z ab av,Z ab aH,Z ab aG,Z ab aQ,Z ab aN,Z ab aM,.slice fJ bn.length fK,.slice fU aW.length fM]) (t:=25) gu ?_;intro jM hg w3 hbox hb;have fu:=ag.mk (hbox);have aJf:=cB HB hg;have aJg:=cB HB hg;replace HB:=cK HB hb;clear hb hbox hg))
 (try simp only [Act.put,List.setIfInBounds_toArray,List.set_cons_zero,List.set_cons_succ])
 go_cut [71] (fun v71 wc=>∃ (kq:Nat) (aez:Bool),v71 = .bool aez∧ag (aj.j0 kq aez ax av aH aG aQ aN aM bn aW = some r)∧ag (kq≤k)∧ag (wc.heap[jM]? = some (.cells #[Z ab ax,Z ab av,Z ab aH,Z ab aG,Z ab aQ,Z ab aN,Z ab aM,(.slice fJ bn.length fK),(.slice fU aW.length fM)] 25 (0,0)))∧ag (Below w.heap.size w wc))
 case first =>
  have H:=HC2.out
  clear HC2
  by_cases c4:ax < 1
  ·rw [if_pos c4] at H
   have xW:decide (ax < 1) = true:=decide_eq_true c4
   clear c4
   (first|rw [xW]|(simp only [fe,fo];rw [xW])|skip)
   have H':=ag.mk H
   clear H
   obtain ⟨TU,TV,TW,TY,TZ,T9,Ua,Ub,Uc,Ud,Ue,Uf,Ug,Uh,Ui,Uj,Uk,Ul⟩:=ji fu.out
   go_wp2
   go_meet
   case rel=>exact ⟨_,(true),sG,H',⟨X7⟩,⟨iU⟩,⟨eZ⟩⟩
  ·rw [if_neg c4] at H
   have xW:decide (ax < 1) = false:=decide_eq_false c4
   clear c4
   (first|rw [xW]|(simp only [fe,fo];rw [xW])|skip)
   by_cases c6:ax > 12
   ·rw [if_pos c6] at H
    have P5:decide (12 < ax) = true:=decide_eq_true c6
    clear c6
    have H':=ag.mk H
    clear H
    obtain ⟨Cs,Ct,J6,J7,J8,J9,Qb,Um,Un,Cu,Cv,Ka,Kb,Ke,Kg,Qc,Uo,Uq⟩:=ji fu.out
    go_wp2
    go_meet
    case rel=>exact ⟨_,(true),sG,H',⟨X7⟩,⟨iU⟩,⟨eZ⟩⟩
   ·rw [if_neg c6] at H
    have P5:decide (12 < ax) = false:=decide_eq_false c6
    clear c6
    by_cases c8:av < 1
    ·rw [if_pos c8] at H
     have LF:decide (av < 1) = true:=decide_eq_true c8
     clear c8
     have H':=ag.mk H
     clear H
     obtain ⟨Fv,Fw,UL,UM,UN,UO,acV,acW,acX,Fx,Fy,UQ,UR,UT,UU,acY,acZ,ac0⟩:=ji fu.out
     go_wp2
     go_meet
     case rel=>exact ⟨_,(true),sG,H',⟨X7⟩,⟨iU⟩,⟨eZ⟩⟩
    ·rw [if_neg c8] at H
     have LF:decide (av < 1) = false:=decide_eq_false c8
     clear c8
     by_cases c10:av > 12
     ·rw [if_pos c10] at H
      have Sd:decide (12 < av) = true:=decide_eq_true c10
      clear c10
      have H':=ag.mk H
      clear H
      obtain ⟨uG,uH,zX,zY,Dw,Dx,Gf,LX,LY,uI,uJ,zZ,z8,Dy,Dz,Gg,LZ,L6⟩:=ji fu.out
      go_wp2
      go_meet
      case rel=>exact ⟨_,(true),sG,H',⟨X7⟩,⟨iU⟩,⟨eZ⟩⟩
     ·rw [if_neg c10] at H
      have Sd:decide (12 < av) = false:=decide_eq_false c10
      clear c10
      by_cases c12:aH < 100
      ·rw [if_pos c12] at H
       have aeA:decide (aH < 100) = true:=decide_eq_true c12
       clear c12
       have H':=ag.mk H
       clear H
       obtain ⟨vS,vT,zR,zS,DZ,D5,IZ,Xv,Xw,vU,vV,zT,zU,D6,D7,I1,Xx,Xy⟩:=ji fu.out
       go_wp2
       go_meet
       case rel=>exact ⟨_,(true),sG,H',⟨X7⟩,⟨iU⟩,⟨eZ⟩⟩
      ·rw [if_neg c12] at H
       have aeA:decide (aH < 100) = false:=decide_eq_false c12
       clear c12
       by_cases c14:aH > 65536
       ·rw [if_pos c14] at H
        have aeB:decide (65536 < aH) = true:=decide_eq_true c14
        clear c14
        have H':=ag.mk H
        clear H
        obtain ⟨uA,uB,zy,zz,D8,D9,I4,OW,OX,uC,uD,zA,zB,Ea,Eb,I5,OY,OZ⟩:=ji fu.out
        go_wp2
        go_meet
        case rel=>exact ⟨_,(true),sG,H',⟨X7⟩,⟨iU⟩,⟨eZ⟩⟩
       ·rw [if_neg c14] at H
        have aeB:decide (65536 < aH) = false:=decide_eq_false c14
        clear c14
        by_cases c16:aG < 1
        ·rw [if_pos c16] at H
         have Sg:decide (aG < 1) = true:=decide_eq_true c16
         clear c16
         have H':=ag.mk H
         clear H
         obtain ⟨rU,rV,wT,wU,Ec,Ed,I6,Xz,XA,rW,rX,wV,wW,Ee,Ef,I7,XB,XC⟩:=ji fu.out
         go_wp2
         go_meet
         case rel=>exact ⟨_,(true),sG,H',⟨X7⟩,⟨iU⟩,⟨eZ⟩⟩
        ·rw [if_neg c16] at H
         have Sg:decide (aG < 1) = false:=decide_eq_false c16
         clear c16
         by_cases c18:aG > 1048576
         ·rw [if_pos c18] at H
          have Li:decide (1048576 < aG) = true:=decide_eq_true c18
          clear c18
          have H':=ag.mk H
          clear H
          obtain ⟨wh,wm,Ar,Au,Av,Aw,Eg,XD,XE,wo,wu,Ay,Az,AA,AB,Eh,XF,XG⟩:=ji fu.out
          go_wp2
          go_meet
          case rel=>exact ⟨_,(true),sG,H',⟨X7⟩,⟨iU⟩,⟨eZ⟩⟩
         ·rw [if_neg c18] at H
          have Li:decide (1048576 < aG) = false:=decide_eq_false c18
          clear c18
          by_cases c20:aQ < 1
          ·rw [if_pos c20] at H
           have Ta:decide (aQ < 1) = true:=decide_eq_true c20
           clear c20
           have H':=ag.mk H
           clear H
           obtain ⟨Aa,Ab,I8,I9,Ja,Jb,Jc,O0,O1,Ac,Ad,Jd,Je,Jf,Jg,Jh,O3,O4⟩:=ji fu.out
           go_wp2
           go_meet
           case rel=>exact ⟨_,(true),sG,H',⟨X7⟩,⟨iU⟩,⟨eZ⟩⟩
          ·rw [if_neg c20] at H
           have Ta:decide (aQ < 1) = false:=decide_eq_false c20
           clear c20
           by_cases c22:aQ > 16
           ·rw [if_pos c22] at H
            have aeC:decide (16 < aQ) = true:=decide_eq_true c22
            clear c22
            have H':=ag.mk H
            clear H
            obtain ⟨Ae,Af,Ji,Jj,Jk,Jl,Jm,O5,O6,Ag,Ah,Jn,Jo,Jp,Jq,Jr,O7,O8⟩:=ji fu.out
            go_wp2
            go_meet
            case rel=>exact ⟨_,(true),sG,H',⟨X7⟩,⟨iU⟩,⟨eZ⟩⟩
           ·rw [if_neg c22] at H
            have aeC:decide (16 < aQ) = false:=decide_eq_false c22
            clear c22
            by_cases c24:aN < 1
            ·rw [if_pos c24] at H
             have aeD:decide (aN < 1) = true:=decide_eq_true c24
             clear c24
             have H':=ag.mk H
             clear H
             obtain ⟨AQ,AR,AU,AV,Js,Jt,Ju,XH,XI,AX,AY,AZ,A9,Jv,Jw,Jy,XJ,XK⟩:=ji fu.out
             go_wp2
             go_meet
             case rel=>exact ⟨_,(true),sG,H',⟨X7⟩,⟨iU⟩,⟨eZ⟩⟩
            ·rw [if_neg c24] at H
             have aeD:decide (aN < 1) = false:=decide_eq_false c24
             clear c24
             by_cases c26:aN > 3
             ·rw [if_pos c26] at H
              have aeE:decide (3 < aN) = true:=decide_eq_true c26
              clear c26
              have H':=ag.mk H
              clear H
              obtain ⟨wY,wZ,xc,xe,xg,xh,xk,XL,XM,xm,xn,xq,xu,xw,xx,xy,XN,XO⟩:=ji fu.out
              go_wp2
              go_meet
              case rel=>exact ⟨_,(true),sG,H',⟨X7⟩,⟨iU⟩,⟨eZ⟩⟩
             ·rw [if_neg c26] at H
              have aeE:decide (3 < aN) = false:=decide_eq_false c26
              clear c26
              by_cases c28:aM < 0
              ·rw [if_pos c28] at H
               have aeF:decide (aM < 0) = true:=decide_eq_true c28
               clear c28
               have H':=ag.mk H
               clear H
               obtain ⟨qE,qF,rP,rQ,O9,Pb,Pf,XP,XQ,qG,qH,rR,rT,Pg,Ph,Pj,XR,XT⟩:=ji fu.out
               go_wp2
               go_meet
               case rel=>exact ⟨_,(true),sG,H',⟨X7⟩,⟨iU⟩,⟨eZ⟩⟩
              ·rw [if_neg c28] at H
               have aeF:decide (aM < 0) = false:=decide_eq_false c28
               clear c28
               have H':=ag.mk H
               clear H
               obtain ⟨Jz,JA,JB,JC,Pk,Pm,Pn,XU,XV,JD,JE,JF,JG,Po,Pp,Pq,XW,XX⟩:=ji fu.out
               go_wp2
               go_meet
               case rel=>exact ⟨_,(decide (aM > 5000)),sG,H',⟨X7⟩,⟨iU⟩,⟨eZ⟩⟩
 case rest =>
  clear HC2
  try clear c1
  try clear c2
  try clear p2
  try clear c4
  try clear xW
  try clear c6
  try clear P5
  try clear c8
  try clear LF
  try clear c10
  try clear Sd
  try clear c12
  try clear aeA
  try clear c14
  try clear aeB
  try clear c16
  try clear Sg
  try clear c18
  try clear Li
  try clear c20
  try clear Ta
  try clear c22
  try clear aeC
  try clear c24
  try clear aeD
  try clear c26
  try clear aeE
  try clear c28
  try clear aeF
  try clear uG uH zX zY Dw Dx Gf LX LY
  try clear vS vT zR zS DZ D5 IZ Xv Xw
  try clear uA uB zy zz D8 D9 I4 OW OX
  try clear rU rV wT wU Ec Ed I6 Xz XA
  try clear wh wm Ar Au Av Aw Eg XD XE
  try clear Aa Ab I8 I9 Ja Jb Jc O0 O1
  try clear Ae Af Ji Jj Jk Jl Jm O5 O6
  try clear AQ AR AU AV Js Jt Ju XH XI
  try clear wY wZ xc xe xg xh xk XL XM
  try clear qE qF rP rQ O9 Pb Pf XP XQ
  try clear Jz JA JB JC Pk Pm Pn XU XV
  try clear TU TV TW TY TZ T9 Ua Ub Uc
  try clear Cs Ct J6 J7 J8 J9 Qb Um Un
  try clear Fv Fw UL UM UN UO acV acW acX
  try clear uI uJ zZ z8 Dy Dz Gg LZ L6
  try clear vU vV zT zU D6 D7 I1 Xx Xy
  try clear uC uD zA zB Ea Eb I5 OY OZ
  try clear rW rX wV wW Ee Ef I7 XB XC
  try clear wo wu Ay Az AA AB Eh XF XG
  try clear Ac Ad Jd Je Jf Jg Jh O3 O4
  try clear Ag Ah Jn Jo Jp Jq Jr O7 O8
  try clear AX AY AZ A9 Jv Jw Jy XJ XK
  try clear xm xn xq xu xw xx xy XN XO
  try clear qG qH rR rT Pg Ph Pj XR XT
  try clear JD JE JF JG Po Pp Pq XW XX
  try clear Ud Ue Uf Ug Uh Ui Uj Uk Ul
  try clear Cu Cv Ka Kb Ke Kg Qc Uo Uq
  try clear Fx Fy UQ UR UT UU acY acZ ac0
  obtain ⟨kq,aez,rfl,HA,HJ1,fu,HB⟩:=hcut
  cases kq with
  |zero=>exact absurd HA.out (by simp [aj.j0])
  |succ kj1 =>
   have H:=HA.out
   clear HA
   simp only [aj.j0] at H
   by_cases c31:aez = true
   ·subst c31
    have H1:(some 2) = some r:=by rw [if_pos rfl] at H;exact H
    clear H
    have H:=H1
    clear H1
    obtain rfl:=Option.some.inj H
    go_wp2
    go_ret
    exact ⟨mf,eZ⟩
   ·replace c31:=Bool.eq_false_iff.mpr c31
    subst c31
    have H1:(if (bn.length:Int) = (wrap64 (ax*av)) then (aj.j1 kj1 ((aW.length:Int) != (wrap64 ((wrap64 ((wrap64 (aQ*aN))*ax))*av))) ax av aH aG aQ aN aM bn aW) else (aj.j1 kj1 true ax av aH aG aQ aN aM bn aW)) = some r:=by rw [if_neg (show ¬ (false = true) by decide)] at H;exact H
    clear H
    have H:=H1
    clear H1
    have aqo:=ag.mk H
    clear H
    go_upto_region 3 with (fail)
    go_cut [97] (fun v97 wc=>∃ (kq:Nat) (XY:Bool),v97 = .bool XY∧ag (aj.j1 kq XY ax av aH aG aQ aN aM bn aW = some r)∧ag (kq≤kj1)∧ag (wc.heap[jM]? = some (.cells #[Z ab ax,Z ab av,Z ab aH,Z ab aG,Z ab aQ,Z ab aN,Z ab aM,(.slice fJ bn.length fK),(.slice fU aW.length fM)] 25 (0,0)))∧ag (Below w.heap.size w wc))
    case first =>
     have H:=aqo.out
     clear aqo
     by_cases c33:(bn.length:Int) = (wrap64 (ax*av))
     ·rw [if_pos c33] at H
      have Rq:((bn.length:Int) == (wrap64 (ax*av))) = true:=beq_iff_eq.mpr c33
      have akb:((bn.length:Int) != (wrap64 (ax*av))) = false:=bne_eq_false_iff_eq.mpr c33
      clear c33
      (first|rw [Rq]|(simp only [fe,fo];rw [Rq])|skip)
      have H':=ag.mk H
      clear H
      obtain ⟨Me,Mf,XZ,X0,aeG,aeH,aeI,aeJ,aeK,Mg,Mh,X3,X4,aeL,aeM,aeN,aeO,aeP⟩:=ji fu.out
      go_wp2
      go_meet
      case rel=>exact ⟨_,(((aW.length:Int) != (wrap64 ((wrap64 ((wrap64 (aQ*aN))*ax))*av)))),sG,H',⟨by have:=HJ1.out;first|omega|exact Nat.le_refl _⟩,⟨iU⟩,⟨eZ⟩⟩
     ·rw [if_neg c33] at H
      have Rq:((bn.length:Int) == (wrap64 (ax*av))) = false:=beq_eq_false_iff_ne.mpr c33
      have akb:((bn.length:Int) != (wrap64 (ax*av))) = true:=bne_iff_ne.mpr c33
      (first|rw [Rq]|(simp only [fe,fo];rw [Rq])|skip)
      have H':=ag.mk H
      clear H
      obtain ⟨vW,vX,Dr,Dt,GM,GN,GQ,aeQ,aeR,vY,vZ,Du,Dv,GR,GU,GV,aeS,aeT⟩:=ji fu.out
      go_wp2
      go_meet
      case rel=>exact ⟨_,(true),sG,H',⟨by have:=HJ1.out;first|omega|exact Nat.le_refl _⟩,⟨iU⟩,⟨eZ⟩⟩
    case rest =>
     clear aqo
     try clear c1
     try clear c2
     try clear p2
     try clear c3
     try clear c4
     try clear xW
     try clear c6
     try clear P5
     try clear p6
     try clear c8
     try clear LF
     try clear c10
     try clear Sd
     try clear c12
     try clear aeA
     try clear c14
     try clear aeB
     try clear c16
     try clear Sg
     try clear c18
     try clear Li
     try clear c20
     try clear Ta
     try clear c22
     try clear aeC
     try clear c24
     try clear aeD
     try clear c26
     try clear aeE
     try clear c28
     try clear aeF
     try clear c31
     try clear c33
     try clear Rq
     try clear akb
     try clear uG uH zX zY Dw Dx Gf LX LY
     try clear vS vT zR zS DZ D5 IZ Xv Xw
     try clear uA uB zy zz D8 D9 I4 OW OX
     try clear rU rV wT wU Ec Ed I6 Xz XA
     try clear wh wm Ar Au Av Aw Eg XD XE
     try clear Aa Ab I8 I9 Ja Jb Jc O0 O1
     try clear Ae Af Ji Jj Jk Jl Jm O5 O6
     try clear AQ AR AU AV Js Jt Ju XH XI
     try clear wY wZ xc xe xg xh xk XL XM
     try clear qE qF rP rQ O9 Pb Pf XP XQ
     try clear Jz JA JB JC Pk Pm Pn XU XV
     try clear Me Mf XZ X0 aeG aeH aeI aeJ aeK
     try clear vW vX Dr Dt GM GN GQ aeQ aeR
     try clear TU TV TW TY TZ T9 Ua Ub Uc
     try clear Cs Ct J6 J7 J8 J9 Qb Um Un
     try clear Fv Fw UL UM UN UO acV acW acX
     try clear uI uJ zZ z8 Dy Dz Gg LZ L6
     try clear vU vV zT zU D6 D7 I1 Xx Xy
     try clear uC uD zA zB Ea Eb I5 OY OZ
     try clear rW rX wV wW Ee Ef I7 XB XC
     try clear wo wu Ay Az AA AB Eh XF XG
     try clear Ac Ad Jd Je Jf Jg Jh O3 O4
     try clear Ag Ah Jn Jo Jp Jq Jr O7 O8
     try clear AX AY AZ A9 Jv Jw Jy XJ XK
     try clear xm xn xq xu xw xx xy XN XO
     try clear qG qH rR rT Pg Ph Pj XR XT
     try clear JD JE JF JG Po Pp Pq XW XX
     try clear Mg Mh X3 X4 aeL aeM aeN aeO aeP
     try clear vY vZ Du Dv GR GU GV aeS aeT
     try clear Ud Ue Uf Ug Uh Ui Uj Uk Ul
     try clear Cu Cv Ka Kb Ke Kg Qc Uo Uq
     try clear Fx Fy UQ UR UT UU acY acZ ac0
     try clear p2
     obtain ⟨kq,XY,rfl,HA,avz,fu,HB⟩:=hcut
     cases kq with
     |zero=>exact absurd HA.out (by simp [aj.j1])
     |succ aqp =>
      have H:=HA.out
      clear HA
      simp only [aj.j1] at H
      by_cases c36:XY = true
      ·subst c36
       have H1:(some 2) = some r:=by rw [if_pos rfl] at H;exact H
       clear H
       have H:=H1
       clear H1
       obtain rfl:=Option.some.inj H
       go_wp2
       go_ret
       exact ⟨mf,eZ⟩
      ·replace c36:=Bool.eq_false_iff.mpr c36
       subst c36
       have H1:(aj.l0 aqp 0 ax av aH aG aQ aN aM bn aW) = some r:=by rw [if_neg (show ¬ (false = true) by decide)] at H;exact H
       clear H
       have H:=H1
       clear H1
       have H':=ag.mk H
       clear H
       go_wp2
       go_loopg [3] aqp (fun kq v3 w'=>∃ (dH:Int),v3 = Z ab dH∧ag (aj.l0 kq dH ax av aH aG aQ aN aM bn aW = some r)∧ag (kq≤aqp)∧ag (w'.heap[jM]? = some (.cells #[Z ab ax,Z ab av,Z ab aH,Z ab aG,Z ab aQ,Z ab aN,Z ab aM,(.slice fJ bn.length fK),(.slice fU aW.length fM)] 25 (0,0)))∧ag (Below w.heap.size w w'))
       case atStart=>exact ⟨(0),sG,H',⟨Nat.le_refl _⟩,⟨iU⟩,⟨eZ⟩⟩
       case round =>
        clear H'
        try clear c1
        try clear c2
        try clear p2
        try clear c3
        try clear c4
        try clear xW
        try clear c6
        try clear P5
        try clear p6
        try clear c8
        try clear LF
        try clear c10
        try clear Sd
        try clear c12
        try clear aeA
        try clear c14
        try clear aeB
        try clear c16
        try clear Sg
        try clear c18
        try clear Li
        try clear c20
        try clear Ta
        try clear c22
        try clear aeC
        try clear c24
        try clear aeD
        try clear c26
        try clear aeE
        try clear c28
        try clear aeF
        try clear c31
        try clear c33
        try clear Rq
        try clear akb
        try clear c36
        try clear uG uH zX zY Dw Dx Gf LX LY
        try clear vS vT zR zS DZ D5 IZ Xv Xw
        try clear uA uB zy zz D8 D9 I4 OW OX
        try clear rU rV wT wU Ec Ed I6 Xz XA
        try clear wh wm Ar Au Av Aw Eg XD XE
        try clear Aa Ab I8 I9 Ja Jb Jc O0 O1
        try clear Ae Af Ji Jj Jk Jl Jm O5 O6
        try clear AQ AR AU AV Js Jt Ju XH XI
        try clear wY wZ xc xe xg xh xk XL XM
        try clear qE qF rP rQ O9 Pb Pf XP XQ
        try clear Jz JA JB JC Pk Pm Pn XU XV
        try clear Me Mf XZ X0 aeG aeH aeI aeJ aeK
        try clear vW vX Dr Dt GM GN GQ aeQ aeR
        try clear TU TV TW TY TZ T9 Ua Ub Uc
        try clear Cs Ct J6 J7 J8 J9 Qb Um Un
        try clear Fv Fw UL UM UN UO acV acW acX
        try clear uI uJ zZ z8 Dy Dz Gg LZ L6
        try clear vU vV zT zU D6 D7 I1 Xx Xy
        try clear uC uD zA zB Ea Eb I5 OY OZ
        try clear rW rX wV wW Ee Ef I7 XB XC
        try clear wo wu Ay Az AA AB Eh XF XG
        try clear Ac Ad Jd Je Jf Jg Jh O3 O4
        try clear Ag Ah Jn Jo Jp Jq Jr O7 O8
        try clear AX AY AZ A9 Jv Jw Jy XJ XK
        try clear xm xn xq xu xw xx xy XN XO
        try clear qG qH rR rT Pg Ph Pj XR XT
        try clear JD JE JF JG Po Pp Pq XW XX
        try clear Mg Mh X3 X4 aeL aeM aeN aeO aeP
        try clear vY vZ Du Dv GR GU GV aeS aeT
        try clear Ud Ue Uf Ug Uh Ui Uj Uk Ul
        try clear Cu Cv Ka Kb Ke Kg Qc Uo Uq
        try clear Fx Fy UQ UR UT UU acY acZ ac0
        try clear p2
        try clear p6
        obtain ⟨dH,rfl,HA,HK3,fu,HB⟩:=hrel
        cases gk with
        |zero=>exact absurd HA.out (by simp [aj.l0])
        |succ k3 =>
         have H:=HA.out
         clear HA
         simp only [aj.l0] at H
         by_cases c37:dH < (aW.length:Int)
         ·rw [if_pos c37] at H
          have avB:decide (dH < (aW.length:Int)) = true:=decide_eq_true c37
          clear c37
          by_cases c38:0≤dH
          ·rw [if_pos c38] at H
           have aJi:decide (0≤dH) = true:=decide_eq_true c38
           clear c38
           replace H:=Option.bind_eq_some_iff.mp H
           obtain ⟨t109,avC,H⟩:=H
           replace H:(if t109 = true then ((aX.f ((bQ aW dH).f1.f0) ((bQ aW dH).f1.f1) (wrap64 (-aM)) aM).bind fun t111=>(if t111 = true then (aj.l0 k3 (wrap64 (dH+1)) ax av aH aG aQ aN aM bn aW) else (some 2))) else (some 2)) = some r:=H
           have A39:=ag.mk avC
           clear avC
           by_cases c40:t109 = true
           ·subst c40
            have H1:((aX.f ((bQ aW dH).f1.f0) ((bQ aW dH).f1.f1) (wrap64 (-aM)) aM).bind fun t111=>(if t111 = true then (aj.l0 k3 (wrap64 (dH+1)) ax av aH aG aQ aN aM bn aW) else (some 2))) = some r:=by rw [if_pos rfl] at H;exact H
            clear H
            have H:=H1
            clear H1
            replace H:=Option.bind_eq_some_iff.mp H
            obtain ⟨t111,avD,H⟩:=H
            replace H:(if t111 = true then (aj.l0 k3 (wrap64 (dH+1)) ax av aH aG aQ aN aM bn aW) else (some 2)) = some r:=H
            have A41:=ag.mk avD
            clear avD
            by_cases c42:t111 = true
            ·subst c42
             have H1:(aj.l0 k3 (wrap64 (dH+1)) ax av aH aG aQ aN aM bn aW) = some r:=by rw [if_pos rfl] at H;exact H
             clear H
             have H:=H1
             clear H1
             have H':=ag.mk H
             clear H
             obtain ⟨EH,EI,EJ,EK,aw2,aw3,aw4,aw5,aw6,EL,EM,EN,EO,aw7,aw8,aw9,axa,axb⟩:=ji fu.out
             try go_wp2
             replace fu:=ag.mk (au fu.out)
             replace HB:=ag.mk (bf HB.out)
             have Rs:0≤(dH:Int):=of_decide_eq_true zx
             have Rt:dH < (aW.length:Int):=of_decide_eq_true zx
             obtain ⟨gU,e108,kU,kV,kW,kX⟩:=Fq jH.out dH Rs Rt
             have sj:=kX
             have su:=kW
             have sw:=kV
             have sD:=kU
             cases e108
             replace kU:=(HB.out.cell (World.block_lt_of_cell? w _ kU)).trans kU
             replace kV:=(HB.out.cell (World.block_lt_of_cell? w _ kV)).trans kV
             replace kW:=(HB.out.cell (World.block_lt_of_cell? w _ kW)).trans kW
             replace kX:=(HB.out.cell (World.block_lt_of_cell? w _ kX)).trans kX
             replace Rs:=eq_true Rs
             replace Rt:=eq_true Rt
             have ac1:0≤(dH:Int):=of_decide_eq_true zx
             have ac2:dH < (aW.length:Int):=of_decide_eq_true zx
             obtain ⟨akc,aqr,qQ,qR,qU,qV⟩:=Fq jH.out dH ac1 ac2
             have BJ:=qV
             have BK:=qU
             have BL:=qR
             have BM:=qQ
             obtain rfl:gU = akc:=(by injection aqr)
             replace qQ:=(HB.out.cell (World.block_lt_of_cell? w _ qQ)).trans qQ
             replace qR:=(HB.out.cell (World.block_lt_of_cell? w _ qR)).trans qR
             replace qU:=(HB.out.cell (World.block_lt_of_cell? w _ qU)).trans qU
             replace qV:=(HB.out.cell (World.block_lt_of_cell? w _ qV)).trans qV
             replace ac1:=eq_true ac1
             replace ac2:=eq_true ac2
             refine lh (n:=28) (S:=fun w'=>w'.cell? ⟨jM,0,none⟩ = some (Z ab ax)∧w'.cell? ⟨jM,1,none⟩ = some (Z ab av)∧w'.cell? ⟨jM,2,none⟩ = some (Z ab aH)∧w'.cell? ⟨jM,3,none⟩ = some (Z ab aG)∧w'.cell? ⟨jM,4,none⟩ = some (Z ab aQ)∧w'.cell? ⟨jM,5,none⟩ = some (Z ab aN)∧w'.cell? ⟨jM,6,none⟩ = some (Z ab aM)∧w'.cell? ⟨jM,7,none⟩ = some (.slice fJ bn.length fK)∧w'.cell? ⟨jM,8,none⟩ = some (.slice (some gU) aW.length fM)∧w'.cell? (gU.add ((dH).toNat*4)) = some (Z ab ((bQ aW dH).f0.f0))∧w'.cell? ⟨(gU.add ((dH).toNat*4)).block,(gU.add ((dH).toNat*4)).off+1,none⟩ = some (Z ab ((bQ aW dH).f0.f1))∧w'.cell? ⟨(gU.add ((dH).toNat*4)).block,(gU.add ((dH).toNat*4)).off+2,none⟩ = some (Z ab ((bQ aW dH).f1.f0))∧w'.cell? ⟨(gU.add ((dH).toNat*4)).block,(gU.add ((dH).toNat*4)).off+3,none⟩ = some (Z ab ((bQ aW dH).f1.f1))∧w'.cell? (gU.add ((dH).toNat*4)) = some (Z ab ((bQ aW dH).f0.f0))∧w'.cell? ⟨(gU.add ((dH).toNat*4)).block,(gU.add ((dH).toNat*4)).off+1,none⟩ = some (Z ab ((bQ aW dH).f0.f1))∧w'.cell? ⟨(gU.add ((dH).toNat*4)).block,(gU.add ((dH).toNat*4)).off+2,none⟩ = some (Z ab ((bQ aW dH).f1.f0))∧w'.cell? ⟨(gU.add ((dH).toNat*4)).block,(gU.add ((dH).toNat*4)).off+3,none⟩ = some (Z ab ((bQ aW dH).f1.f1))) (ds:=[]) #[al,al,al,al,al,al,al,al,al,al,al,al,al,al,al,al,al,al,al,al,al,al,al,al,al,al,al,al] aT rfl rfl (Cr fu.out ⟨(rq HB sD),(rq HB sw),(rq HB su),(rq HB sj),(rq HB BM),(rq HB BL),(rq HB BK),(rq HB BJ)⟩) (fun hHeld=>?_);refine rD aj.aqn aj.aka (fun eH zV=>?_)
             generalize wr.drew = w44 at fu HB kU kV kW kX qQ qR qU qV hHeld ⊢
             refine dG (i:=0) (N:=some 105) (bC eH.out aT) ?_
             refine dG (i:=2) (N:=some 107) (bC eH.out aT) ?_
             refine dG (i:=6) (N:=some 111) (bC eH.out aT) ?_
             refine dG (i:=9) (N:=some 114) (bC eH.out aT) ?_
             refine iy (i:=1) (N:=some 106) (dL eH.out zV.out aT) hHeld ?_
             refine dG (i:=3) (N:=some 108) (bC eH.out aT) ?_
             refine dG (i:=4) (N:=some 109) (bC eH.out aT) ?_
             refine iy (i:=5) (N:=some 110) (dL eH.out zV.out aT) hHeld ?_
             refine iy (i:=7) (N:=some 112) (dL eH.out zV.out aT) hHeld ?_
             refine dG (i:=8) (N:=some 113) (bC eH.out aT) ?_
             refine iy (i:=10) (N:=some 115) (dL eH.out zV.out aT) hHeld ?_
             refine jC (i:=11) (N:=some 116) #[ac,ac,ac,ac,ac,ac,ac,ac,ac,ac,ac,ac,al,al,al,al,al,al,al,al,al,al,al,al,al,al,al,al] rfl rfl (mI eH.out aT) (by decide) (fun K hK=>?_)
             refine jm Try.func78 aT rfl #[.agg #[Z ab ((bQ aW dH).f0.f0),Z ab ((bQ aW dH).f0.f1)],Z ab (wrap64 (-aM)),Z ab aM] (by rfl) rfl rfl jQ ?_
             with_reducible refine (aX.calls ((bQ aW dH).f0.f0) ((bQ aW dH).f0.f1) (wrap64 (-aM)) aM true _ A39.out).mono ?_
             rintro e w45 ⟨rfl,hb⟩
             refine ⟨_,rfl,?_⟩
             replace fu:=bJ fu hb
             replace HB:=cK HB hb
             (try clear hb)
             (try clear hb2)
             (try clear hk)
             (try clear hi)
             refine hK.out _ _ (Cr fu.out ⟨(rq HB sD),(rq HB sw),(rq HB su),(rq HB sj),(rq HB BM),(rq HB BL),(rq HB BK),(rq HB BJ)⟩) (fun hHeld=>?_)
             clear hK K
             refine dY zq9 ?_
             refine dG (i:=12) (N:=some 117) (bC eH.out aT) ?_
             refine dG (i:=13) (N:=some 118) (bC eH.out aT) ?_
             refine dG (i:=14) (N:=some 119) (bC eH.out aT) ?_
             refine dG (i:=16) (N:=some 121) (bC eH.out aT) ?_
             refine dG (i:=20) (N:=some 125) (bC eH.out aT) ?_
             refine dG (i:=23) (N:=some 128) (bC eH.out aT) ?_
             refine iy (i:=15) (N:=some 120) (dL eH.out zV.out aT) hHeld ?_
             refine dG (i:=17) (N:=some 122) (bC eH.out aT) ?_
             refine dG (i:=18) (N:=some 123) (bC eH.out aT) ?_
             refine iy (i:=19) (N:=some 124) (dL eH.out zV.out aT) hHeld ?_
             refine iy (i:=21) (N:=some 126) (dL eH.out zV.out aT) hHeld ?_
             refine dG (i:=22) (N:=some 127) (bC eH.out aT) ?_
             refine iy (i:=24) (N:=some 129) (dL eH.out zV.out aT) hHeld ?_
             refine jC (i:=25) (N:=some 130) #[ac,ac,ac,ac,ac,ac,ac,ac,ac,ac,ac,ac,ac,ac,ac,ac,ac,ac,ac,ac,ac,ac,ac,ac,ac,ac,al,al] rfl rfl (mI eH.out aT) (by decide) (fun K hK=>?_)
             refine jm Try.func78 aT rfl #[.agg #[Z ab ((bQ aW dH).f1.f0),Z ab ((bQ aW dH).f1.f1)],Z ab (wrap64 (-aM)),Z ab aM] (by rfl) rfl rfl jQ ?_
             with_reducible refine (aX.calls ((bQ aW dH).f1.f0) ((bQ aW dH).f1.f1) (wrap64 (-aM)) aM true _ A41.out).mono ?_
             rintro e w46 ⟨rfl,hb⟩
             refine ⟨_,rfl,?_⟩
             replace fu:=bJ fu hb
             replace HB:=cK HB hb
             (try clear hb)
             (try clear hb2)
             (try clear hk)
             (try clear hi)
             refine hK.out _ _ (Cr fu.out ⟨(rq HB sD),(rq HB sw),(rq HB su),(rq HB sj),(rq HB BM),(rq HB BL),(rq HB BK),(rq HB BJ)⟩) (fun hHeld=>?_)
             clear hK K
             refine dY avs ?_
             refine dG (i:=26) (N:=some 131) (bC eH.out aT) ?_
             refine dG (i:=27) (N:=some 132) (bC eH.out aT) ?_
             refine ma (zW eH.out aT) ?_
             try go_wp2
             go_roundg k3
             case measure=>have:=HJ1.out;have:=avz.out;have:=HK3.out;omega
             case rel=>exact ⟨(wrap64 (dH+1)),sG,H',⟨by have:=HJ1.out;have:=avz.out;have:=HK3.out;omega⟩,⟨iU⟩,⟨eZ⟩⟩
            ·replace c42:=Bool.eq_false_iff.mpr c42
             subst c42
             have H1:(some 2) = some r:=by rw [if_neg (show ¬ (false = true) by decide)] at H;exact H
             clear H
             have H:=H1
             clear H1
             obtain rfl:=Option.some.inj H
             obtain ⟨aeU,aeV,aeW,aeX,amD,amE,amF,axc,axd,aeY,aeZ,ae0,ae1,amG,amH,amI,axe,axf⟩:=ji fu.out
             try go_wp2
             replace fu:=ag.mk (au fu.out)
             replace HB:=ag.mk (bf HB.out)
             have Rs:0≤(dH:Int):=of_decide_eq_true zx
             have Rt:dH < (aW.length:Int):=of_decide_eq_true zx
             obtain ⟨gU,e108,kU,kV,kW,kX⟩:=Fq jH.out dH Rs Rt
             have sj:=kX
             have su:=kW
             have sw:=kV
             have sD:=kU
             cases e108
             replace kU:=(HB.out.cell (World.block_lt_of_cell? w _ kU)).trans kU
             replace kV:=(HB.out.cell (World.block_lt_of_cell? w _ kV)).trans kV
             replace kW:=(HB.out.cell (World.block_lt_of_cell? w _ kW)).trans kW
             replace kX:=(HB.out.cell (World.block_lt_of_cell? w _ kX)).trans kX
             replace Rs:=eq_true Rs
             replace Rt:=eq_true Rt
             have ac1:0≤(dH:Int):=of_decide_eq_true zx
             have ac2:dH < (aW.length:Int):=of_decide_eq_true zx
             obtain ⟨akc,aqr,qQ,qR,qU,qV⟩:=Fq jH.out dH ac1 ac2
             have BJ:=qV
             have BK:=qU
             have BL:=qR
             have BM:=qQ
             obtain rfl:gU = akc:=(by injection aqr)
             replace qQ:=(HB.out.cell (World.block_lt_of_cell? w _ qQ)).trans qQ
             replace qR:=(HB.out.cell (World.block_lt_of_cell? w _ qR)).trans qR
             replace qU:=(HB.out.cell (World.block_lt_of_cell? w _ qU)).trans qU
             replace qV:=(HB.out.cell (World.block_lt_of_cell? w _ qV)).trans qV
             replace ac1:=eq_true ac1
             replace ac2:=eq_true ac2
             refine lh (n:=28) (S:=fun w'=>w'.cell? ⟨jM,0,none⟩ = some (Z ab ax)∧w'.cell? ⟨jM,1,none⟩ = some (Z ab av)∧w'.cell? ⟨jM,2,none⟩ = some (Z ab aH)∧w'.cell? ⟨jM,3,none⟩ = some (Z ab aG)∧w'.cell? ⟨jM,4,none⟩ = some (Z ab aQ)∧w'.cell? ⟨jM,5,none⟩ = some (Z ab aN)∧w'.cell? ⟨jM,6,none⟩ = some (Z ab aM)∧w'.cell? ⟨jM,7,none⟩ = some (.slice fJ bn.length fK)∧w'.cell? ⟨jM,8,none⟩ = some (.slice (some gU) aW.length fM)∧w'.cell? (gU.add ((dH).toNat*4)) = some (Z ab ((bQ aW dH).f0.f0))∧w'.cell? ⟨(gU.add ((dH).toNat*4)).block,(gU.add ((dH).toNat*4)).off+1,none⟩ = some (Z ab ((bQ aW dH).f0.f1))∧w'.cell? ⟨(gU.add ((dH).toNat*4)).block,(gU.add ((dH).toNat*4)).off+2,none⟩ = some (Z ab ((bQ aW dH).f1.f0))∧w'.cell? ⟨(gU.add ((dH).toNat*4)).block,(gU.add ((dH).toNat*4)).off+3,none⟩ = some (Z ab ((bQ aW dH).f1.f1))∧w'.cell? (gU.add ((dH).toNat*4)) = some (Z ab ((bQ aW dH).f0.f0))∧w'.cell? ⟨(gU.add ((dH).toNat*4)).block,(gU.add ((dH).toNat*4)).off+1,none⟩ = some (Z ab ((bQ aW dH).f0.f1))∧w'.cell? ⟨(gU.add ((dH).toNat*4)).block,(gU.add ((dH).toNat*4)).off+2,none⟩ = some (Z ab ((bQ aW dH).f1.f0))∧w'.cell? ⟨(gU.add ((dH).toNat*4)).block,(gU.add ((dH).toNat*4)).off+3,none⟩ = some (Z ab ((bQ aW dH).f1.f1))) (ds:=[]) #[al,al,al,al,al,al,al,al,al,al,al,al,al,al,al,al,al,al,al,al,al,al,al,al,al,al,al,al] aT rfl rfl (Cr fu.out ⟨(rq HB sD),(rq HB sw),(rq HB su),(rq HB sj),(rq HB BM),(rq HB BL),(rq HB BK),(rq HB BJ)⟩) (fun hHeld=>?_);refine rD aj.aqn aj.aka (fun eH zV=>?_)
             generalize wr.drew = w48 at fu HB kU kV kW kX qQ qR qU qV hHeld ⊢
             refine dG (i:=0) (N:=some 105) (bC eH.out aT) ?_
             refine dG (i:=2) (N:=some 107) (bC eH.out aT) ?_
             refine dG (i:=6) (N:=some 111) (bC eH.out aT) ?_
             refine dG (i:=9) (N:=some 114) (bC eH.out aT) ?_
             refine iy (i:=1) (N:=some 106) (dL eH.out zV.out aT) hHeld ?_
             refine dG (i:=3) (N:=some 108) (bC eH.out aT) ?_
             refine dG (i:=4) (N:=some 109) (bC eH.out aT) ?_
             refine iy (i:=5) (N:=some 110) (dL eH.out zV.out aT) hHeld ?_
             refine iy (i:=7) (N:=some 112) (dL eH.out zV.out aT) hHeld ?_
             refine dG (i:=8) (N:=some 113) (bC eH.out aT) ?_
             refine iy (i:=10) (N:=some 115) (dL eH.out zV.out aT) hHeld ?_
             refine jC (i:=11) (N:=some 116) #[ac,ac,ac,ac,ac,ac,ac,ac,ac,ac,ac,ac,al,al,al,al,al,al,al,al,al,al,al,al,al,al,al,al] rfl rfl (mI eH.out aT) (by decide) (fun K hK=>?_)
             refine jm Try.func78 aT rfl #[.agg #[Z ab ((bQ aW dH).f0.f0),Z ab ((bQ aW dH).f0.f1)],Z ab (wrap64 (-aM)),Z ab aM] (by rfl) rfl rfl jQ ?_
             with_reducible refine (aX.calls ((bQ aW dH).f0.f0) ((bQ aW dH).f0.f1) (wrap64 (-aM)) aM true _ A39.out).mono ?_
             rintro e w49 ⟨rfl,hb⟩
             refine ⟨_,rfl,?_⟩
             replace fu:=bJ fu hb
             replace HB:=cK HB hb
             (try clear hb)
             (try clear hb2)
             (try clear hk)
             (try clear hi)
             refine hK.out _ _ (Cr fu.out ⟨(rq HB sD),(rq HB sw),(rq HB su),(rq HB sj),(rq HB BM),(rq HB BL),(rq HB BK),(rq HB BJ)⟩) (fun hHeld=>?_)
             clear hK K
             refine dY zq9 ?_
             refine dG (i:=12) (N:=some 117) (bC eH.out aT) ?_
             refine dG (i:=13) (N:=some 118) (bC eH.out aT) ?_
             refine dG (i:=14) (N:=some 119) (bC eH.out aT) ?_
             refine dG (i:=16) (N:=some 121) (bC eH.out aT) ?_
             refine dG (i:=20) (N:=some 125) (bC eH.out aT) ?_
             refine dG (i:=23) (N:=some 128) (bC eH.out aT) ?_
             refine iy (i:=15) (N:=some 120) (dL eH.out zV.out aT) hHeld ?_
             refine dG (i:=17) (N:=some 122) (bC eH.out aT) ?_
             refine dG (i:=18) (N:=some 123) (bC eH.out aT) ?_
             refine iy (i:=19) (N:=some 124) (dL eH.out zV.out aT) hHeld ?_
             refine iy (i:=21) (N:=some 126) (dL eH.out zV.out aT) hHeld ?_
             refine dG (i:=22) (N:=some 127) (bC eH.out aT) ?_
             refine iy (i:=24) (N:=some 129) (dL eH.out zV.out aT) hHeld ?_
             refine jC (i:=25) (N:=some 130) #[ac,ac,ac,ac,ac,ac,ac,ac,ac,ac,ac,ac,ac,ac,ac,ac,ac,ac,ac,ac,ac,ac,ac,ac,ac,ac,al,al] rfl rfl (mI eH.out aT) (by decide) (fun K hK=>?_)
             refine jm Try.func78 aT rfl #[.agg #[Z ab ((bQ aW dH).f1.f0),Z ab ((bQ aW dH).f1.f1)],Z ab (wrap64 (-aM)),Z ab aM] (by rfl) rfl rfl jQ ?_
             with_reducible refine (aX.calls ((bQ aW dH).f1.f0) ((bQ aW dH).f1.f1) (wrap64 (-aM)) aM false _ A41.out).mono ?_
             rintro e w50 ⟨rfl,hb⟩
             refine ⟨_,rfl,?_⟩
             replace fu:=bJ fu hb
             replace HB:=cK HB hb
             (try clear hb)
             (try clear hb2)
             (try clear hk)
             (try clear hi)
             refine hK.out _ _ (Cr fu.out ⟨(rq HB sD),(rq HB sw),(rq HB su),(rq HB sj),(rq HB BM),(rq HB BL),(rq HB BK),(rq HB BJ)⟩) (fun hHeld=>?_)
             clear hK K
             refine dY avs ?_
             refine dG (i:=26) (N:=some 131) (bC eH.out aT) ?_
             refine dG (i:=27) (N:=some 132) (bC eH.out aT) ?_
             refine ma (zW eH.out aT) ?_
             try go_wp2
             go_ret
             exact ⟨mf,eZ⟩
           ·replace c40:=Bool.eq_false_iff.mpr c40
            subst c40
            have H1:(some 2) = some r:=by rw [if_neg (show ¬ (false = true) by decide)] at H;exact H
            clear H
            have H:=H1
            clear H1
            obtain rfl:=Option.some.inj H
            obtain ⟨alc,ald,axg,axh,axi,axj,axk,axl,axm,ale,alf,axn,axo,axp,axq,axr,axs,axt⟩:=ji fu.out
            try go_wp2
            replace fu:=ag.mk (au fu.out)
            replace HB:=ag.mk (bf HB.out)
            have Rs:0≤(dH:Int):=of_decide_eq_true zx
            have Rt:dH < (aW.length:Int):=of_decide_eq_true zx
            obtain ⟨gU,e108,kU,kV,kW,kX⟩:=Fq jH.out dH Rs Rt
            have sj:=kX
            have su:=kW
            have sw:=kV
            have sD:=kU
            cases e108
            replace kU:=(HB.out.cell (World.block_lt_of_cell? w _ kU)).trans kU
            replace kV:=(HB.out.cell (World.block_lt_of_cell? w _ kV)).trans kV
            replace kW:=(HB.out.cell (World.block_lt_of_cell? w _ kW)).trans kW
            replace kX:=(HB.out.cell (World.block_lt_of_cell? w _ kX)).trans kX
            replace Rs:=eq_true Rs
            replace Rt:=eq_true Rt
            refine lh (n:=28) (S:=fun w'=>w'.cell? ⟨jM,0,none⟩ = some (Z ab ax)∧w'.cell? ⟨jM,1,none⟩ = some (Z ab av)∧w'.cell? ⟨jM,2,none⟩ = some (Z ab aH)∧w'.cell? ⟨jM,3,none⟩ = some (Z ab aG)∧w'.cell? ⟨jM,4,none⟩ = some (Z ab aQ)∧w'.cell? ⟨jM,5,none⟩ = some (Z ab aN)∧w'.cell? ⟨jM,6,none⟩ = some (Z ab aM)∧w'.cell? ⟨jM,7,none⟩ = some (.slice fJ bn.length fK)∧w'.cell? ⟨jM,8,none⟩ = some (.slice (some gU) aW.length fM)∧w'.cell? (gU.add ((dH).toNat*4)) = some (Z ab ((bQ aW dH).f0.f0))∧w'.cell? ⟨(gU.add ((dH).toNat*4)).block,(gU.add ((dH).toNat*4)).off+1,none⟩ = some (Z ab ((bQ aW dH).f0.f1))∧w'.cell? ⟨(gU.add ((dH).toNat*4)).block,(gU.add ((dH).toNat*4)).off+2,none⟩ = some (Z ab ((bQ aW dH).f1.f0))∧w'.cell? ⟨(gU.add ((dH).toNat*4)).block,(gU.add ((dH).toNat*4)).off+3,none⟩ = some (Z ab ((bQ aW dH).f1.f1))) (ds:=[]) #[al,al,al,al,al,al,al,al,al,al,al,al,al,al,al,al,al,al,al,al,al,al,al,al,al,al,al,al] aT rfl rfl (Cr fu.out ⟨(rq HB sD),(rq HB sw),(rq HB su),(rq HB sj)⟩) (fun hHeld=>?_);refine rD aj.aqn aj.aka (fun eH zV=>?_)
            generalize wr.drew = w52 at fu HB kU kV kW kX hHeld ⊢
            refine dG (i:=0) (N:=some 105) (bC eH.out aT) ?_
            refine dG (i:=2) (N:=some 107) (bC eH.out aT) ?_
            refine dG (i:=6) (N:=some 111) (bC eH.out aT) ?_
            refine dG (i:=9) (N:=some 114) (bC eH.out aT) ?_
            refine iy (i:=1) (N:=some 106) (dL eH.out zV.out aT) hHeld ?_
            refine dG (i:=3) (N:=some 108) (bC eH.out aT) ?_
            refine dG (i:=4) (N:=some 109) (bC eH.out aT) ?_
            refine iy (i:=5) (N:=some 110) (dL eH.out zV.out aT) hHeld ?_
            refine iy (i:=7) (N:=some 112) (dL eH.out zV.out aT) hHeld ?_
            refine dG (i:=8) (N:=some 113) (bC eH.out aT) ?_
            refine iy (i:=10) (N:=some 115) (dL eH.out zV.out aT) hHeld ?_
            refine jC (i:=11) (N:=some 116) #[ac,ac,ac,ac,ac,ac,ac,ac,ac,ac,ac,ac,al,al,al,al,al,al,al,al,al,al,al,al,al,al,al,al] rfl rfl (mI eH.out aT) (by decide) (fun K hK=>?_)
            refine jm Try.func78 aT rfl #[.agg #[Z ab ((bQ aW dH).f0.f0),Z ab ((bQ aW dH).f0.f1)],Z ab (wrap64 (-aM)),Z ab aM] (by rfl) rfl rfl jQ ?_
            with_reducible refine (aX.calls ((bQ aW dH).f0.f0) ((bQ aW dH).f0.f1) (wrap64 (-aM)) aM false _ A39.out).mono ?_
            rintro e w53 ⟨rfl,hb⟩
            refine ⟨_,rfl,?_⟩
            replace fu:=bJ fu hb
            replace HB:=cK HB hb
            (try clear hb)
            (try clear hb2)
            (try clear hk)
            (try clear hi)
            refine hK.out _ _ (Cr fu.out ⟨(rq HB sD),(rq HB sw),(rq HB su),(rq HB sj)⟩) (fun hHeld=>?_)
            clear hK K
            refine dY zq9 ?_
            refine dG (i:=12) (N:=some 117) (bC eH.out aT) ?_
            refine dG (i:=13) (N:=some 118) (bC eH.out aT) ?_
            refine vw (i:=14) (N:=some 119) (v:=undef) (a':=?_) #[ac,ac,ac,ac,ac,ac,ac,ac,ac,ac,ac,ac,ac,ac,ac,al,al,al,al,al,al,al,al,al,al,al,al,al] rfl rfl (bC eH.out aT) (fun _ _ _ h=>h) (Or.inr ⟨by rfl,rfl⟩) ?_ ?_
            rotate_left
            ·simp only [Act.put,List.setIfInBounds_toArray,List.set_cons_zero,List.set_cons_succ,fe,fo]
             rfl
            refine vw (i:=15) (N:=some 120) (v:=undef) (a':=?_) #[ac,ac,ac,ac,ac,ac,ac,ac,ac,ac,ac,ac,ac,ac,ac,ac,al,al,al,al,al,al,al,al,al,al,al,al] rfl rfl (bC eH.out aT) (fun _ _ _ h=>h) (Or.inr ⟨by rfl,rfl⟩) ?_ ?_
            rotate_left
            ·simp only [Act.put,List.setIfInBounds_toArray,List.set_cons_zero,List.set_cons_succ,fe,fo]
             rfl
            refine vw (i:=16) (N:=some 121) (v:=undef) (a':=?_) #[ac,ac,ac,ac,ac,ac,ac,ac,ac,ac,ac,ac,ac,ac,ac,ac,ac,al,al,al,al,al,al,al,al,al,al,al] rfl rfl (bC eH.out aT) (fun _ _ _ h=>h) (Or.inr ⟨by rfl,rfl⟩) ?_ ?_
            rotate_left
            ·simp only [Act.put,List.setIfInBounds_toArray,List.set_cons_zero,List.set_cons_succ,fe,fo]
             rfl
            refine vw (i:=17) (N:=some 122) (v:=undef) (a':=?_) #[ac,ac,ac,ac,ac,ac,ac,ac,ac,ac,ac,ac,ac,ac,ac,ac,ac,ac,al,al,al,al,al,al,al,al,al,al] rfl rfl (bC eH.out aT) (fun _ _ _ h=>h) (Or.inr ⟨by rfl,rfl⟩) ?_ ?_
            rotate_left
            ·simp only [Act.put,List.setIfInBounds_toArray,List.set_cons_zero,List.set_cons_succ,fe,fo]
             rfl
            refine vw (i:=18) (N:=some 123) (v:=undef) (a':=?_) #[ac,ac,ac,ac,ac,ac,ac,ac,ac,ac,ac,ac,ac,ac,ac,ac,ac,ac,ac,al,al,al,al,al,al,al,al,al] rfl rfl (bC eH.out aT) (fun _ _ _ h=>h) (Or.inr ⟨by rfl,rfl⟩) ?_ ?_
            rotate_left
            ·simp only [Act.put,List.setIfInBounds_toArray,List.set_cons_zero,List.set_cons_succ,fe,fo]
             rfl
            refine vw (i:=19) (N:=some 124) (v:=undef) (a':=?_) #[ac,ac,ac,ac,ac,ac,ac,ac,ac,ac,ac,ac,ac,ac,ac,ac,ac,ac,ac,ac,al,al,al,al,al,al,al,al] rfl rfl (bC eH.out aT) (fun _ _ _ h=>h) (Or.inr ⟨by rfl,rfl⟩) ?_ ?_
            rotate_left
            ·simp only [Act.put,List.setIfInBounds_toArray,List.set_cons_zero,List.set_cons_succ,fe,fo]
             rfl
            refine vw (i:=20) (N:=some 125) (v:=undef) (a':=?_) #[ac,ac,ac,ac,ac,ac,ac,ac,ac,ac,ac,ac,ac,ac,ac,ac,ac,ac,ac,ac,ac,al,al,al,al,al,al,al] rfl rfl (bC eH.out aT) (fun _ _ _ h=>h) (Or.inr ⟨by rfl,rfl⟩) ?_ ?_
            rotate_left
            ·simp only [Act.put,List.setIfInBounds_toArray,List.set_cons_zero,List.set_cons_succ,fe,fo]
             rfl
            refine vw (i:=21) (N:=some 126) (v:=undef) (a':=?_) #[ac,ac,ac,ac,ac,ac,ac,ac,ac,ac,ac,ac,ac,ac,ac,ac,ac,ac,ac,ac,ac,ac,al,al,al,al,al,al] rfl rfl (bC eH.out aT) (fun _ _ _ h=>h) (Or.inr ⟨by rfl,rfl⟩) ?_ ?_
            rotate_left
            ·simp only [Act.put,List.setIfInBounds_toArray,List.set_cons_zero,List.set_cons_succ,fe,fo]
             rfl
            refine vw (i:=22) (N:=some 127) (v:=undef) (a':=?_) #[ac,ac,ac,ac,ac,ac,ac,ac,ac,ac,ac,ac,ac,ac,ac,ac,ac,ac,ac,ac,ac,ac,ac,al,al,al,al,al] rfl rfl (bC eH.out aT) (fun _ _ _ h=>h) (Or.inr ⟨by rfl,rfl⟩) ?_ ?_
            rotate_left
            ·simp only [Act.put,List.setIfInBounds_toArray,List.set_cons_zero,List.set_cons_succ,fe,fo]
             rfl
            refine vw (i:=23) (N:=some 128) (v:=undef) (a':=?_) #[ac,ac,ac,ac,ac,ac,ac,ac,ac,ac,ac,ac,ac,ac,ac,ac,ac,ac,ac,ac,ac,ac,ac,ac,al,al,al,al] rfl rfl (bC eH.out aT) (fun _ _ _ h=>h) (Or.inr ⟨by rfl,rfl⟩) ?_ ?_
            rotate_left
            ·simp only [Act.put,List.setIfInBounds_toArray,List.set_cons_zero,List.set_cons_succ,fe,fo]
             rfl
            refine vw (i:=24) (N:=some 129) (v:=undef) (a':=?_) #[ac,ac,ac,ac,ac,ac,ac,ac,ac,ac,ac,ac,ac,ac,ac,ac,ac,ac,ac,ac,ac,ac,ac,ac,ac,al,al,al] rfl rfl (bC eH.out aT) (fun _ _ _ h=>h) (Or.inr ⟨by rfl,rfl⟩) ?_ ?_
            rotate_left
            ·simp only [Act.put,List.setIfInBounds_toArray,List.set_cons_zero,List.set_cons_succ,fe,fo]
             rfl
            refine vw (i:=25) (N:=some 130) (v:=undef) (a':=?_) #[ac,ac,ac,ac,ac,ac,ac,ac,ac,ac,ac,ac,ac,ac,ac,ac,ac,ac,ac,ac,ac,ac,ac,ac,ac,ac,al,al] rfl rfl (bC eH.out aT) (fun _ _ _ h=>h) (Or.inr ⟨by rfl,rfl⟩) ?_ ?_
            rotate_left
            ·simp only [Act.put,List.setIfInBounds_toArray,List.set_cons_zero,List.set_cons_succ,fe,fo]
             rfl
            refine vw (i:=26) (N:=some 131) (v:=undef) (a':=?_) #[ac,ac,ac,ac,ac,ac,ac,ac,ac,ac,ac,ac,ac,ac,ac,ac,ac,ac,ac,ac,ac,ac,ac,ac,ac,ac,ac,al] rfl rfl (bC eH.out aT) (fun _ _ _ h=>h) (Or.inr ⟨by rfl,rfl⟩) ?_ ?_
            rotate_left
            ·simp only [Act.put,List.setIfInBounds_toArray,List.set_cons_zero,List.set_cons_succ,fe,fo]
             rfl
            refine dG (i:=27) (N:=some 132) (bC eH.out aT) ?_
            refine ma (zW eH.out aT) ?_
            try go_wp2
            go_ret
            exact ⟨mf,eZ⟩
          ·rw [if_neg c38] at H
           exact absurd H (by simp)
         ·rw [if_neg c37] at H
          have avB:decide (dH < (aW.length:Int)) = false:=decide_eq_false c37
          clear c37
          obtain rfl:=Option.some.inj H
          obtain ⟨amJ,amK,amL,amM,amN,amO,amP,amQ,amR,amS,amT,amU,amV,amW,amX,amY,amZ,am0⟩:=ji fu.out
          go_wp2
          go_ret
          exact ⟨mf,eZ⟩
end Go.Proofs.Ytmhaiihjfgfaoaa.Pr
end
