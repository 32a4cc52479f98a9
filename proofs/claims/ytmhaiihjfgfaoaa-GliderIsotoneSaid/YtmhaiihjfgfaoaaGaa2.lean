import Derived.Test.YtmhaiihjfgfaoaaGaa1
section
namespace Go.Proofs.Ytmhaiihjfgfaoaa.Pr
open Go.RowKit Go.Proofs.YtmhaiihjfgfaoaaW.PrintWords Go.Proofs.YtmhaiihjfgfaoaaW.PrintLast Go.Proofs.YtmhaiihjfgfaoaaW.PrintMore
attribute [local go_sem] fo fq gu gz fu
set_option linter.unusedVariables false
set_option linter.unusedSimpArgs false
mutual
def aI.j0:Nat→Bool→Int→Int→Int→Int→Int→Int→Int→List Bool→List (mQ)→Option (Int)
 |0,_,_,_,_,_,_,_,_,_,_=>none
 |k+1,x71,yo,yt,CU,CV,Au,Av,vw,Aw,rQ=>if x71 = true then (some 2) else (if (Aw.length:Int) = (wrap64 (yo*yt)) then (aI.j1 k ((rQ.length:Int) != (wrap64 ((wrap64 ((wrap64 (Au*Av))*yo))*yt))) yo yt CU CV Au Av vw Aw rQ) else (aI.j1 k true yo yt CU CV Au Av vw Aw rQ))
def aI.j1:Nat→Bool→Int→Int→Int→Int→Int→Int→Int→List Bool→List (mQ)→Option (Int)
 |0,_,_,_,_,_,_,_,_,_,_=>none
 |k+1,x97,yo,yt,CU,CV,Au,Av,vw,Aw,rQ=>if x97 = true then (some 2) else (aI.l0 k 0 yo yt CU CV Au Av vw Aw rQ)
def aI.l0:Nat→Int→Int→Int→Int→Int→Int→Int→Int→List Bool→List (mQ)→Option (Int)
 |0,_,_,_,_,_,_,_,_,_,_=>none
 |k+1,x3,yo,yt,CU,CV,Au,Av,vw,Aw,rQ=>if x3 < (rQ.length:Int) then (if 0≤x3 then ((cK.f ((bn rQ x3).f0.f0) ((bn rQ x3).f0.f1) (wrap64 (-vw)) vw).bind fun t109=>(if t109 = true then ((cK.f ((bn rQ x3).f1.f0) ((bn rQ x3).f1.f1) (wrap64 (-vw)) vw).bind fun t111=>(if t111 = true then (aI.l0 k (wrap64 (x3+1)) yo yt CU CV Au Av vw Aw rQ) else (some 2))) else (some 2))) else (none)) else (some 0)
end
def aI.f (k:Nat) (aC:Int) (aD:Int) (aG:Int) (aH:Int) (aN:Int) (aK:Int) (aJ:Int) (aX:List Bool) (aM:List (mQ)):Option (Int):=if aC < 1 then (aI.j0 k true aC aD aG aH aN aK aJ aX aM) else (if aC > 12 then (aI.j0 k true aC aD aG aH aN aK aJ aX aM) else (if aD < 1 then (aI.j0 k true aC aD aG aH aN aK aJ aX aM) else (if aD > 12 then (aI.j0 k true aC aD aG aH aN aK aJ aX aM) else (if aG < 100 then (aI.j0 k true aC aD aG aH aN aK aJ aX aM) else (if aG > 65536 then (aI.j0 k true aC aD aG aH aN aK aJ aX aM) else (if aH < 1 then (aI.j0 k true aC aD aG aH aN aK aJ aX aM) else (if aH > 1048576 then (aI.j0 k true aC aD aG aH aN aK aJ aX aM) else (if aN < 1 then (aI.j0 k true aC aD aG aH aN aK aJ aX aM) else (if aN > 16 then (aI.j0 k true aC aD aG aH aN aK aJ aX aM) else (if aK < 1 then (aI.j0 k true aC aD aG aH aN aK aJ aX aM) else (if aK > 3 then (aI.j0 k true aC aD aG aH aN aK aJ aX aM) else (if aJ < 0 then (aI.j0 k true aC aD aG aH aN aK aJ aX aM) else (aI.j0 k (decide (aJ > 5000)) aC aD aG aH aN aK aJ aX aM)))))))))))))
def aI.T8:Bool × List (List Nat × List Nat):=(true,[([],[]),([0],[0]),([],[]),([1,2],[1,2]),([3],[3]),([4],[4]),([],[]),([6],[6]),([7],[7]),([],[]),([9],[9]),([5,8,10],[5,8,10]),([11],[11]),([12,11],[12]),([13],[13]),([14,13],[13,14]),([13],[13]),([15,16,13],[13,15,16]),([17,13],[13,17]),([18,13],[13,18]),([13],[13]),([20,13],[13,20]),([21,13],[13,21]),([13],[13]),([23,13],[13,23]),([19,22,24,13,13],[13,19,22,24]),([25,13],[13,25]),([13,26],[13,26])])
def aI.B8:List Nat:=[0,1,0,7,15,31,0,64,192,0,512,2047,4095,8191,16383,32767,16383,131071,262143,524287,16383,1064959,3162111,16383,8404991,33554431,67108863,134217727]
theorem aI.ahI:vC .any (opsOf Try.f26 8) = aI.T8:=by kernel_rfl
theorem aI.aaa:wu aI.T8.2 aI.B8 = true:=by kernel_rfl
set_option maxHeartbeats 8000000 in
set_option maxRecDepth 100000 in
theorem aI.calls (k:Nat) (aC:Int) (aD:Int) (aG:Int) (aH:Int) (aN:Int) (aK:Int) (aJ:Int) (bG:Option Addr) (bH:Nat) (aX:List Bool) (bO:Option Addr) (bM:Nat) (aM:List (mQ)) (r:Int) (w:World) (lV:Kd.C Kd.bool w bG aX.length aX) (lW:aX.length≤bH) (lX:Kd.C xK w bO aM.length aM) (lY:aM.length≤bM) (h:aI.f k aC aD aG aH aN aK aJ aX aM = some r):
 Calls Try.prog 26 #[.agg #[.int .i64 aC,.int .i64 aD,.int .i64 aG,.int .i64 aH,.int .i64 aN,.int .i64 aK,.int .i64 aJ,.slice bG aX.length bH,.slice bO aM.length bM]] w fun e w'=>e = .returned (.int .i64 r)∧Below w.heap.size w w':=by
 have Dx:=Try.underlying25
 have sU:=Try.underlying27
 have jR:=aj.mk lV
 have jS:=aj.mk lW
 clear lV lW
 have jm:=aj.mk lX
 have kg:=aj.mk lY
 clear lX lY
 have HB:=aj.mk (Below.refl w.heap.size w)
 have H:(if aC < 1 then (aI.j0 k true aC aD aG aH aN aK aJ aX aM) else (if aC > 12 then (aI.j0 k true aC aD aG aH aN aK aJ aX aM) else (if aD < 1 then (aI.j0 k true aC aD aG aH aN aK aJ aX aM) else (if aD > 12 then (aI.j0 k true aC aD aG aH aN aK aJ aX aM) else (if aG < 100 then (aI.j0 k true aC aD aG aH aN aK aJ aX aM) else (if aG > 65536 then (aI.j0 k true aC aD aG aH aN aK aJ aX aM) else (if aH < 1 then (aI.j0 k true aC aD aG aH aN aK aJ aX aM) else (if aH > 1048576 then (aI.j0 k true aC aD aG aH aN aK aJ aX aM) else (if aN < 1 then (aI.j0 k true aC aD aG aH aN aK aJ aX aM) else (if aN > 16 then (aI.j0 k true aC aD aG aH aN aK aJ aX aM) else (if aK < 1 then (aI.j0 k true aC aD aG aH aN aK aJ aX aM) else (if aK > 3 then (aI.j0 k true aC aD aG aH aN aK aJ aX aM) else (if aJ < 0 then (aI.j0 k true aC aD aG aH aN aK aJ aX aM) else (aI.j0 k (decide (aJ > 5000)) aC aD aG aH aN aK aJ aX aM)))))))))))))) = some r:=h
 clear h
 have HC2:=aj.mk H
 clear H
 go_enter Try.func26,Try.ntmps26
 go_upto_region 1 with (first|((with_reducible refine bu (N:=1) rfl ?_);(try (refine Ed (by rfl) ?_;dsimp only));refine aY ?hg (N:=1) ?hd (cs:=#[.int .i64 aC,.int .i64 aD,.int .i64 aG,.int .i64 aH,.int .i64 aN,.int .i64 aK,.int .i64 aJ,.slice bG aX.length bH,.slice bO aM.length bM]) (t:=25) ?hr ?_;(case hd=>rfl);(case hg=>rfl);(case hr=>first|(go_simp;done)|(go_simp;rfl));intro bR hg w3 hbox hb;have bB:=aj.mk (ay (by repeat (first|(with_reducible first|exact HB.out|apply au|apply ah|apply av)|exact HB.out)) hb);have bC:=aj.mk (hbox);have bK:=aj.mk ((by rw [hg];exact (aA (by repeat (first|(with_reducible first|exact HB.out|apply au|apply ah|apply av)|exact HB.out))):w.heap.size≤bR));have bP:=aj.mk ((by rw [hg];exact (aA (by repeat (first|(with_reducible first|exact HB.out|apply au|apply ah|apply av)|exact HB.out))):w.heap.size≤bR));clear HB;have HB:=bB;have aV:=bC;have aDJ:=bK;have oO:=bP;clear bB bC bK bP;clear hb hbox hg))
 (try simp only [Act.put,List.setIfInBounds_toArray,List.set_cons_zero,List.set_cons_succ])
 go_cut [71] (fun v71 wc=>∃ (kq:Nat) (WX:Bool),v71 = .bool WX∧aj (aI.j0 kq WX aC aD aG aH aN aK aJ aX aM = some r)∧aj (kq≤k)∧aj (wc.heap[bR]? = some (.cells #[.int .i64 aC,.int .i64 aD,.int .i64 aG,.int .i64 aH,.int .i64 aN,.int .i64 aK,.int .i64 aJ,(.slice bG aX.length bH),(.slice bO aM.length bM)] 25 (0,0)))∧aj (Below w.heap.size w wc))
 case first =>
  have H:=HC2.out
  clear HC2
  by_cases c4:aC < 1
  ·rw [if_pos c4] at H
   have wV:decide (aC < 1) = true:=decide_eq_true c4
   clear c4
   (first|rw [wV]|(simp only [aZ,bf];rw [wV])|skip)
   have H':=aj.mk H
   clear H
   have SG:w3.cell? ⟨bR,0,none⟩ = some (.int .i64 aC):=(aa aV.out 0).trans rfl
   have SH:w3.cell? ⟨bR,1,none⟩ = some (.int .i64 aD):=(aa aV.out 1).trans rfl
   have SI:w3.cell? ⟨bR,2,none⟩ = some (.int .i64 aG):=(aa aV.out 2).trans rfl
   have SK:w3.cell? ⟨bR,3,none⟩ = some (.int .i64 aH):=(aa aV.out 3).trans rfl
   have SL:w3.cell? ⟨bR,4,none⟩ = some (.int .i64 aN):=(aa aV.out 4).trans rfl
   have SN:w3.cell? ⟨bR,5,none⟩ = some (.int .i64 aK):=(aa aV.out 5).trans rfl
   have SQ:w3.cell? ⟨bR,6,none⟩ = some (.int .i64 aJ):=(aa aV.out 6).trans rfl
   have SS:w3.cell? ⟨bR,7,none⟩ = some (.slice bG aX.length bH):=(aa aV.out 7).trans rfl
   have SV:w3.cell? ⟨bR,8,none⟩ = some (.slice bO aM.length bM):=(aa aV.out 8).trans rfl
   have SX:=ae aV.out 0
   have SY:=ae aV.out 1
   have S9:=ae aV.out 2
   have Ta:=ae aV.out 3
   have Tc:=ae aV.out 4
   have Td:=ae aV.out 5
   have Te:=ae aV.out 6
   have Tf:=ae aV.out 7
   have Tg:=ae aV.out 8
   go_wp2
   go_meet
   case rel=>exact ⟨_,(true),(by first|rfl|(simp;done)|(simp [*];done)),H',⟨by first|omega|exact Nat.le_refl _⟩,⟨by (with_reducible repeat (first|refine ag ?_ _|refine ai ?_|refine af ?_ _));exact aV.out⟩,⟨by repeat (first|(with_reducible first|exact HB.out|apply au|apply ah|apply av|refine ak ?_ oO.out)|exact HB.out)⟩⟩
  ·rw [if_neg c4] at H
   have wV:decide (aC < 1) = false:=decide_eq_false c4
   clear c4
   (first|rw [wV]|(simp only [aZ,bf];rw [wV])|skip)
   by_cases c6:aC > 12
   ·rw [if_pos c6] at H
    have Lu:decide (12 < aC) = true:=decide_eq_true c6
    clear c6
    have H':=aj.mk H
    clear H
    have yG:w3.cell? ⟨bR,0,none⟩ = some (.int .i64 aC):=(aa aV.out 0).trans rfl
    have yH:w3.cell? ⟨bR,1,none⟩ = some (.int .i64 aD):=(aa aV.out 1).trans rfl
    have DU:w3.cell? ⟨bR,2,none⟩ = some (.int .i64 aG):=(aa aV.out 2).trans rfl
    have DV:w3.cell? ⟨bR,3,none⟩ = some (.int .i64 aH):=(aa aV.out 3).trans rfl
    have DW:w3.cell? ⟨bR,4,none⟩ = some (.int .i64 aN):=(aa aV.out 4).trans rfl
    have DX:w3.cell? ⟨bR,5,none⟩ = some (.int .i64 aK):=(aa aV.out 5).trans rfl
    have DY:w3.cell? ⟨bR,6,none⟩ = some (.int .i64 aJ):=(aa aV.out 6).trans rfl
    have H9:w3.cell? ⟨bR,7,none⟩ = some (.slice bG aX.length bH):=(aa aV.out 7).trans rfl
    have Ia:w3.cell? ⟨bR,8,none⟩ = some (.slice bO aM.length bM):=(aa aV.out 8).trans rfl
    have yI:=ae aV.out 0
    have yJ:=ae aV.out 1
    have DZ:=ae aV.out 2
    have D5:=ae aV.out 3
    have D6:=ae aV.out 4
    have D7:=ae aV.out 5
    have D8:=ae aV.out 6
    have Ib:=ae aV.out 7
    have Ic:=ae aV.out 8
    go_wp2
    go_meet
    case rel=>exact ⟨_,(true),(by first|rfl|(simp;done)|(simp [*];done)),H',⟨by first|omega|exact Nat.le_refl _⟩,⟨by (with_reducible repeat (first|refine ag ?_ _|refine ai ?_|refine af ?_ _));exact aV.out⟩,⟨by repeat (first|(with_reducible first|exact HB.out|apply au|apply ah|apply av|refine ak ?_ oO.out)|exact HB.out)⟩⟩
   ·rw [if_neg c6] at H
    have Lu:decide (12 < aC) = false:=decide_eq_false c6
    clear c6
    by_cases c8:aD < 1
    ·rw [if_pos c8] at H
     have ME:decide (aD < 1) = true:=decide_eq_true c8
     clear c8
     have H':=aj.mk H
     clear H
     have AX:w3.cell? ⟨bR,0,none⟩ = some (.int .i64 aC):=(aa aV.out 0).trans rfl
     have AY:w3.cell? ⟨bR,1,none⟩ = some (.int .i64 aD):=(aa aV.out 1).trans rfl
     have GY:w3.cell? ⟨bR,2,none⟩ = some (.int .i64 aG):=(aa aV.out 2).trans rfl
     have GZ:w3.cell? ⟨bR,3,none⟩ = some (.int .i64 aH):=(aa aV.out 3).trans rfl
     have Ti:w3.cell? ⟨bR,4,none⟩ = some (.int .i64 aN):=(aa aV.out 4).trans rfl
     have Tj:w3.cell? ⟨bR,5,none⟩ = some (.int .i64 aK):=(aa aV.out 5).trans rfl
     have Tk:w3.cell? ⟨bR,6,none⟩ = some (.int .i64 aJ):=(aa aV.out 6).trans rfl
     have Tm:w3.cell? ⟨bR,7,none⟩ = some (.slice bG aX.length bH):=(aa aV.out 7).trans rfl
     have Tn:w3.cell? ⟨bR,8,none⟩ = some (.slice bO aM.length bM):=(aa aV.out 8).trans rfl
     have AZ:=ae aV.out 0
     have Ba:=ae aV.out 1
     have G5:=ae aV.out 2
     have G6:=ae aV.out 3
     have Tp:=ae aV.out 4
     have Tq:=ae aV.out 5
     have Tt:=ae aV.out 6
     have Tu:=ae aV.out 7
     have Tv:=ae aV.out 8
     go_wp2
     go_meet
     case rel=>exact ⟨_,(true),(by first|rfl|(simp;done)|(simp [*];done)),H',⟨by first|omega|exact Nat.le_refl _⟩,⟨by (with_reducible repeat (first|refine ag ?_ _|refine ai ?_|refine af ?_ _));exact aV.out⟩,⟨by repeat (first|(with_reducible first|exact HB.out|apply au|apply ah|apply av|refine ak ?_ oO.out)|exact HB.out)⟩⟩
    ·rw [if_neg c8] at H
     have ME:decide (aD < 1) = false:=decide_eq_false c8
     clear c8
     by_cases c10:aD > 12
     ·rw [if_pos c10] at H
      have Dz:decide (12 < aD) = true:=decide_eq_true c10
      clear c10
      have H':=aj.mk H
      clear H
      have CP:w3.cell? ⟨bR,0,none⟩ = some (.int .i64 aC):=(aa aV.out 0).trans rfl
      have CQ:w3.cell? ⟨bR,1,none⟩ = some (.int .i64 aD):=(aa aV.out 1).trans rfl
      have FB:w3.cell? ⟨bR,2,none⟩ = some (.int .i64 aG):=(aa aV.out 2).trans rfl
      have FC:w3.cell? ⟨bR,3,none⟩ = some (.int .i64 aH):=(aa aV.out 3).trans rfl
      have Ke:w3.cell? ⟨bR,4,none⟩ = some (.int .i64 aN):=(aa aV.out 4).trans rfl
      have Kg:w3.cell? ⟨bR,5,none⟩ = some (.int .i64 aK):=(aa aV.out 5).trans rfl
      have Kh:w3.cell? ⟨bR,6,none⟩ = some (.int .i64 aJ):=(aa aV.out 6).trans rfl
      have Ki:w3.cell? ⟨bR,7,none⟩ = some (.slice bG aX.length bH):=(aa aV.out 7).trans rfl
      have Kj:w3.cell? ⟨bR,8,none⟩ = some (.slice bO aM.length bM):=(aa aV.out 8).trans rfl
      have CR:=ae aV.out 0
      have CS:=ae aV.out 1
      have FD:=ae aV.out 2
      have FE:=ae aV.out 3
      have Kk:=ae aV.out 4
      have Kl:=ae aV.out 5
      have Km:=ae aV.out 6
      have Kn:=ae aV.out 7
      have Ko:=ae aV.out 8
      go_wp2
      go_meet
      case rel=>exact ⟨_,(true),(by first|rfl|(simp;done)|(simp [*];done)),H',⟨by first|omega|exact Nat.le_refl _⟩,⟨by (with_reducible repeat (first|refine ag ?_ _|refine ai ?_|refine af ?_ _));exact aV.out⟩,⟨by repeat (first|(with_reducible first|exact HB.out|apply au|apply ah|apply av|refine ak ?_ oO.out)|exact HB.out)⟩⟩
     ·rw [if_neg c10] at H
      have Dz:decide (12 < aD) = false:=decide_eq_false c10
      clear c10
      by_cases c12:aG < 100
      ·rw [if_pos c12] at H
       have WY:decide (aG < 100) = true:=decide_eq_true c12
       clear c12
       have H':=aj.mk H
       clear H
       have uX:w3.cell? ⟨bR,0,none⟩ = some (.int .i64 aC):=(aa aV.out 0).trans rfl
       have uY:w3.cell? ⟨bR,1,none⟩ = some (.int .i64 aD):=(aa aV.out 1).trans rfl
       have Ai:w3.cell? ⟨bR,2,none⟩ = some (.int .i64 aG):=(aa aV.out 2).trans rfl
       have Aj:w3.cell? ⟨bR,3,none⟩ = some (.int .i64 aH):=(aa aV.out 3).trans rfl
       have FH:w3.cell? ⟨bR,4,none⟩ = some (.int .i64 aN):=(aa aV.out 4).trans rfl
       have FI:w3.cell? ⟨bR,5,none⟩ = some (.int .i64 aK):=(aa aV.out 5).trans rfl
       have FJ:w3.cell? ⟨bR,6,none⟩ = some (.int .i64 aJ):=(aa aV.out 6).trans rfl
       have PL:w3.cell? ⟨bR,7,none⟩ = some (.slice bG aX.length bH):=(aa aV.out 7).trans rfl
       have PM:w3.cell? ⟨bR,8,none⟩ = some (.slice bO aM.length bM):=(aa aV.out 8).trans rfl
       have uZ:=ae aV.out 0
       have ve:=ae aV.out 1
       have Ak:=ae aV.out 2
       have Al:=ae aV.out 3
       have FL:=ae aV.out 4
       have FM:=ae aV.out 5
       have FN:=ae aV.out 6
       have PN:=ae aV.out 7
       have PO:=ae aV.out 8
       go_wp2
       go_meet
       case rel=>exact ⟨_,(true),(by first|rfl|(simp;done)|(simp [*];done)),H',⟨by first|omega|exact Nat.le_refl _⟩,⟨by (with_reducible repeat (first|refine ag ?_ _|refine ai ?_|refine af ?_ _));exact aV.out⟩,⟨by repeat (first|(with_reducible first|exact HB.out|apply au|apply ah|apply av|refine ak ?_ oO.out)|exact HB.out)⟩⟩
      ·rw [if_neg c12] at H
       have WY:decide (aG < 100) = false:=decide_eq_false c12
       clear c12
       by_cases c14:aG > 65536
       ·rw [if_pos c14] at H
        have WZ:decide (65536 < aG) = true:=decide_eq_true c14
        clear c14
        have H':=aj.mk H
        clear H
        have qj:w3.cell? ⟨bR,0,none⟩ = some (.int .i64 aC):=(aa aV.out 0).trans rfl
        have ql:w3.cell? ⟨bR,1,none⟩ = some (.int .i64 aD):=(aa aV.out 1).trans rfl
        have rG:w3.cell? ⟨bR,2,none⟩ = some (.int .i64 aG):=(aa aV.out 2).trans rfl
        have rH:w3.cell? ⟨bR,3,none⟩ = some (.int .i64 aH):=(aa aV.out 3).trans rfl
        have uR:w3.cell? ⟨bR,4,none⟩ = some (.int .i64 aN):=(aa aV.out 4).trans rfl
        have uS:w3.cell? ⟨bR,5,none⟩ = some (.int .i64 aK):=(aa aV.out 5).trans rfl
        have uT:w3.cell? ⟨bR,6,none⟩ = some (.int .i64 aJ):=(aa aV.out 6).trans rfl
        have vZ:w3.cell? ⟨bR,7,none⟩ = some (.slice bG aX.length bH):=(aa aV.out 7).trans rfl
        have wh:w3.cell? ⟨bR,8,none⟩ = some (.slice bO aM.length bM):=(aa aV.out 8).trans rfl
        have qm:=ae aV.out 0
        have qo:=ae aV.out 1
        have rJ:=ae aV.out 2
        have rM:=ae aV.out 3
        have uU:=ae aV.out 4
        have uV:=ae aV.out 5
        have uW:=ae aV.out 6
        have wm:=ae aV.out 7
        have wo:=ae aV.out 8
        go_wp2
        go_meet
        case rel=>exact ⟨_,(true),(by first|rfl|(simp;done)|(simp [*];done)),H',⟨by first|omega|exact Nat.le_refl _⟩,⟨by (with_reducible repeat (first|refine ag ?_ _|refine ai ?_|refine af ?_ _));exact aV.out⟩,⟨by repeat (first|(with_reducible first|exact HB.out|apply au|apply ah|apply av|refine ak ?_ oO.out)|exact HB.out)⟩⟩
       ·rw [if_neg c14] at H
        have WZ:decide (65536 < aG) = false:=decide_eq_false c14
        clear c14
        by_cases c16:aH < 1
        ·rw [if_pos c16] at H
         have yg:decide (aH < 1) = true:=decide_eq_true c16
         clear c16
         have H':=aj.mk H
         clear H
         have FO:w3.cell? ⟨bR,0,none⟩ = some (.int .i64 aC):=(aa aV.out 0).trans rfl
         have FP:w3.cell? ⟨bR,1,none⟩ = some (.int .i64 aD):=(aa aV.out 1).trans rfl
         have FQ:w3.cell? ⟨bR,2,none⟩ = some (.int .i64 aG):=(aa aV.out 2).trans rfl
         have FR:w3.cell? ⟨bR,3,none⟩ = some (.int .i64 aH):=(aa aV.out 3).trans rfl
         have FT:w3.cell? ⟨bR,4,none⟩ = some (.int .i64 aN):=(aa aV.out 4).trans rfl
         have FU:w3.cell? ⟨bR,5,none⟩ = some (.int .i64 aK):=(aa aV.out 5).trans rfl
         have FV:w3.cell? ⟨bR,6,none⟩ = some (.int .i64 aJ):=(aa aV.out 6).trans rfl
         have PQ:w3.cell? ⟨bR,7,none⟩ = some (.slice bG aX.length bH):=(aa aV.out 7).trans rfl
         have PR:w3.cell? ⟨bR,8,none⟩ = some (.slice bO aM.length bM):=(aa aV.out 8).trans rfl
         have FW:=ae aV.out 0
         have FX:=ae aV.out 1
         have FY:=ae aV.out 2
         have FZ:=ae aV.out 3
         have F3:=ae aV.out 4
         have F4:=ae aV.out 5
         have F5:=ae aV.out 6
         have PS:=ae aV.out 7
         have PT:=ae aV.out 8
         go_wp2
         go_meet
         case rel=>exact ⟨_,(true),(by first|rfl|(simp;done)|(simp [*];done)),H',⟨by first|omega|exact Nat.le_refl _⟩,⟨by (with_reducible repeat (first|refine ag ?_ _|refine ai ?_|refine af ?_ _));exact aV.out⟩,⟨by repeat (first|(with_reducible first|exact HB.out|apply au|apply ah|apply av|refine ak ?_ oO.out)|exact HB.out)⟩⟩
        ·rw [if_neg c16] at H
         have yg:decide (aH < 1) = false:=decide_eq_false c16
         clear c16
         by_cases c18:aH > 1048576
         ·rw [if_pos c18] at H
          have I8:decide (1048576 < aH) = true:=decide_eq_true c18
          clear c18
          have H':=aj.mk H
          clear H
          have sJ:w3.cell? ⟨bR,0,none⟩ = some (.int .i64 aC):=(aa aV.out 0).trans rfl
          have sK:w3.cell? ⟨bR,1,none⟩ = some (.int .i64 aD):=(aa aV.out 1).trans rfl
          have uJ:w3.cell? ⟨bR,2,none⟩ = some (.int .i64 aG):=(aa aV.out 2).trans rfl
          have uK:w3.cell? ⟨bR,3,none⟩ = some (.int .i64 aH):=(aa aV.out 3).trans rfl
          have Kq:w3.cell? ⟨bR,4,none⟩ = some (.int .i64 aN):=(aa aV.out 4).trans rfl
          have Kr:w3.cell? ⟨bR,5,none⟩ = some (.int .i64 aK):=(aa aV.out 5).trans rfl
          have Kt:w3.cell? ⟨bR,6,none⟩ = some (.int .i64 aJ):=(aa aV.out 6).trans rfl
          have PU:w3.cell? ⟨bR,7,none⟩ = some (.slice bG aX.length bH):=(aa aV.out 7).trans rfl
          have PV:w3.cell? ⟨bR,8,none⟩ = some (.slice bO aM.length bM):=(aa aV.out 8).trans rfl
          have sM:=ae aV.out 0
          have sN:=ae aV.out 1
          have uL:=ae aV.out 2
          have uM:=ae aV.out 3
          have Ku:=ae aV.out 4
          have Kv:=ae aV.out 5
          have Kw:=ae aV.out 6
          have PW:=ae aV.out 7
          have PX:=ae aV.out 8
          go_wp2
          go_meet
          case rel=>exact ⟨_,(true),(by first|rfl|(simp;done)|(simp [*];done)),H',⟨by first|omega|exact Nat.le_refl _⟩,⟨by (with_reducible repeat (first|refine ag ?_ _|refine ai ?_|refine af ?_ _));exact aV.out⟩,⟨by repeat (first|(with_reducible first|exact HB.out|apply au|apply ah|apply av|refine ak ?_ oO.out)|exact HB.out)⟩⟩
         ·rw [if_neg c18] at H
          have I8:decide (1048576 < aH) = false:=decide_eq_false c18
          clear c18
          by_cases c20:aN < 1
          ·rw [if_pos c20] at H
           have Nn:decide (aN < 1) = true:=decide_eq_true c20
           clear c20
           have H':=aj.mk H
           clear H
           have CW:w3.cell? ⟨bR,0,none⟩ = some (.int .i64 aC):=(aa aV.out 0).trans rfl
           have CX:w3.cell? ⟨bR,1,none⟩ = some (.int .i64 aD):=(aa aV.out 1).trans rfl
           have F6:w3.cell? ⟨bR,2,none⟩ = some (.int .i64 aG):=(aa aV.out 2).trans rfl
           have F7:w3.cell? ⟨bR,3,none⟩ = some (.int .i64 aH):=(aa aV.out 3).trans rfl
           have F8:w3.cell? ⟨bR,4,none⟩ = some (.int .i64 aN):=(aa aV.out 4).trans rfl
           have F9:w3.cell? ⟨bR,5,none⟩ = some (.int .i64 aK):=(aa aV.out 5).trans rfl
           have Ga:w3.cell? ⟨bR,6,none⟩ = some (.int .i64 aJ):=(aa aV.out 6).trans rfl
           have Ky:w3.cell? ⟨bR,7,none⟩ = some (.slice bG aX.length bH):=(aa aV.out 7).trans rfl
           have Kz:w3.cell? ⟨bR,8,none⟩ = some (.slice bO aM.length bM):=(aa aV.out 8).trans rfl
           have CY:=ae aV.out 0
           have CZ:=ae aV.out 1
           have Gb:=ae aV.out 2
           have Gc:=ae aV.out 3
           have Gd:=ae aV.out 4
           have Gf:=ae aV.out 5
           have Gg:=ae aV.out 6
           have KA:=ae aV.out 7
           have KC:=ae aV.out 8
           go_wp2
           go_meet
           case rel=>exact ⟨_,(true),(by first|rfl|(simp;done)|(simp [*];done)),H',⟨by first|omega|exact Nat.le_refl _⟩,⟨by (with_reducible repeat (first|refine ag ?_ _|refine ai ?_|refine af ?_ _));exact aV.out⟩,⟨by repeat (first|(with_reducible first|exact HB.out|apply au|apply ah|apply av|refine ak ?_ oO.out)|exact HB.out)⟩⟩
          ·rw [if_neg c20] at H
           have Nn:decide (aN < 1) = false:=decide_eq_false c20
           clear c20
           by_cases Mk:aN > 16
           ·rw [if_pos Mk] at H
            have M9:decide (16 < aN) = true:=decide_eq_true Mk
            clear Mk
            have H':=aj.mk H
            clear H
            have C8:w3.cell? ⟨bR,0,none⟩ = some (.int .i64 aC):=(aa aV.out 0).trans rfl
            have C9:w3.cell? ⟨bR,1,none⟩ = some (.int .i64 aD):=(aa aV.out 1).trans rfl
            have Gh:w3.cell? ⟨bR,2,none⟩ = some (.int .i64 aG):=(aa aV.out 2).trans rfl
            have Gi:w3.cell? ⟨bR,3,none⟩ = some (.int .i64 aH):=(aa aV.out 3).trans rfl
            have Gj:w3.cell? ⟨bR,4,none⟩ = some (.int .i64 aN):=(aa aV.out 4).trans rfl
            have Gm:w3.cell? ⟨bR,5,none⟩ = some (.int .i64 aK):=(aa aV.out 5).trans rfl
            have Gn:w3.cell? ⟨bR,6,none⟩ = some (.int .i64 aJ):=(aa aV.out 6).trans rfl
            have KD:w3.cell? ⟨bR,7,none⟩ = some (.slice bG aX.length bH):=(aa aV.out 7).trans rfl
            have KE:w3.cell? ⟨bR,8,none⟩ = some (.slice bO aM.length bM):=(aa aV.out 8).trans rfl
            have Da:=ae aV.out 0
            have Db:=ae aV.out 1
            have Gp:=ae aV.out 2
            have Gq:=ae aV.out 3
            have Gr:=ae aV.out 4
            have Gs:=ae aV.out 5
            have Gt:=ae aV.out 6
            have KF:=ae aV.out 7
            have KG:=ae aV.out 8
            go_wp2
            go_meet
            case rel=>exact ⟨_,(true),(by first|rfl|(simp;done)|(simp [*];done)),H',⟨by first|omega|exact Nat.le_refl _⟩,⟨by (with_reducible repeat (first|refine ag ?_ _|refine ai ?_|refine af ?_ _));exact aV.out⟩,⟨by repeat (first|(with_reducible first|exact HB.out|apply au|apply ah|apply av|refine ak ?_ oO.out)|exact HB.out)⟩⟩
           ·rw [if_neg Mk] at H
            have M9:decide (16 < aN) = false:=decide_eq_false Mk
            clear Mk
            by_cases c24:aK < 1
            ·rw [if_pos c24] at H
             have W9:decide (aK < 1) = true:=decide_eq_true c24
             clear c24
             have H':=aj.mk H
             clear H
             have xA:w3.cell? ⟨bR,0,none⟩ = some (.int .i64 aC):=(aa aV.out 0).trans rfl
             have xB:w3.cell? ⟨bR,1,none⟩ = some (.int .i64 aD):=(aa aV.out 1).trans rfl
             have xC:w3.cell? ⟨bR,2,none⟩ = some (.int .i64 aG):=(aa aV.out 2).trans rfl
             have xD:w3.cell? ⟨bR,3,none⟩ = some (.int .i64 aH):=(aa aV.out 3).trans rfl
             have zM:w3.cell? ⟨bR,4,none⟩ = some (.int .i64 aN):=(aa aV.out 4).trans rfl
             have zN:w3.cell? ⟨bR,5,none⟩ = some (.int .i64 aK):=(aa aV.out 5).trans rfl
             have zO:w3.cell? ⟨bR,6,none⟩ = some (.int .i64 aJ):=(aa aV.out 6).trans rfl
             have PY:w3.cell? ⟨bR,7,none⟩ = some (.slice bG aX.length bH):=(aa aV.out 7).trans rfl
             have PZ:w3.cell? ⟨bR,8,none⟩ = some (.slice bO aM.length bM):=(aa aV.out 8).trans rfl
             have xE:=ae aV.out 0
             have xG:=ae aV.out 1
             have xH:=ae aV.out 2
             have xI:=ae aV.out 3
             have zP:=ae aV.out 4
             have zQ:=ae aV.out 5
             have zR:=ae aV.out 6
             have P5:=ae aV.out 7
             have P6:=ae aV.out 8
             go_wp2
             go_meet
             case rel=>exact ⟨_,(true),(by first|rfl|(simp;done)|(simp [*];done)),H',⟨by first|omega|exact Nat.le_refl _⟩,⟨by (with_reducible repeat (first|refine ag ?_ _|refine ai ?_|refine af ?_ _));exact aV.out⟩,⟨by repeat (first|(with_reducible first|exact HB.out|apply au|apply ah|apply av|refine ak ?_ oO.out)|exact HB.out)⟩⟩
            ·rw [if_neg c24] at H
             have W9:decide (aK < 1) = false:=decide_eq_false c24
             clear c24
             by_cases Jj:aK > 3
             ·rw [if_pos Jj] at H
              have I1:decide (3 < aK) = true:=decide_eq_true Jj
              clear Jj
              have H':=aj.mk H
              clear H
              have xL:w3.cell? ⟨bR,0,none⟩ = some (.int .i64 aC):=(aa aV.out 0).trans rfl
              have xM:w3.cell? ⟨bR,1,none⟩ = some (.int .i64 aD):=(aa aV.out 1).trans rfl
              have xN:w3.cell? ⟨bR,2,none⟩ = some (.int .i64 aG):=(aa aV.out 2).trans rfl
              have xO:w3.cell? ⟨bR,3,none⟩ = some (.int .i64 aH):=(aa aV.out 3).trans rfl
              have Dc:w3.cell? ⟨bR,4,none⟩ = some (.int .i64 aN):=(aa aV.out 4).trans rfl
              have De:w3.cell? ⟨bR,5,none⟩ = some (.int .i64 aK):=(aa aV.out 5).trans rfl
              have Df:w3.cell? ⟨bR,6,none⟩ = some (.int .i64 aJ):=(aa aV.out 6).trans rfl
              have P7:w3.cell? ⟨bR,7,none⟩ = some (.slice bG aX.length bH):=(aa aV.out 7).trans rfl
              have P8:w3.cell? ⟨bR,8,none⟩ = some (.slice bO aM.length bM):=(aa aV.out 8).trans rfl
              have xP:=ae aV.out 0
              have xQ:=ae aV.out 1
              have xR:=ae aV.out 2
              have xS:=ae aV.out 3
              have Dh:=ae aV.out 4
              have Di:=ae aV.out 5
              have Dj:=ae aV.out 6
              have P9:=ae aV.out 7
              have Qa:=ae aV.out 8
              go_wp2
              go_meet
              case rel=>exact ⟨_,(true),(by first|rfl|(simp;done)|(simp [*];done)),H',⟨by first|omega|exact Nat.le_refl _⟩,⟨by (with_reducible repeat (first|refine ag ?_ _|refine ai ?_|refine af ?_ _));exact aV.out⟩,⟨by repeat (first|(with_reducible first|exact HB.out|apply au|apply ah|apply av|refine ak ?_ oO.out)|exact HB.out)⟩⟩
             ·rw [if_neg Jj] at H
              have I1:decide (3 < aK) = false:=decide_eq_false Jj
              clear Jj
              by_cases c28:aJ < 0
              ·rw [if_pos c28] at H
               have Xa:decide (aJ < 0) = true:=decide_eq_true c28
               clear c28
               have H':=aj.mk H
               clear H
               have zS:w3.cell? ⟨bR,0,none⟩ = some (.int .i64 aC):=(aa aV.out 0).trans rfl
               have zT:w3.cell? ⟨bR,1,none⟩ = some (.int .i64 aD):=(aa aV.out 1).trans rfl
               have zU:w3.cell? ⟨bR,2,none⟩ = some (.int .i64 aG):=(aa aV.out 2).trans rfl
               have zV:w3.cell? ⟨bR,3,none⟩ = some (.int .i64 aH):=(aa aV.out 3).trans rfl
               have BM:w3.cell? ⟨bR,4,none⟩ = some (.int .i64 aN):=(aa aV.out 4).trans rfl
               have BN:w3.cell? ⟨bR,5,none⟩ = some (.int .i64 aK):=(aa aV.out 5).trans rfl
               have BO:w3.cell? ⟨bR,6,none⟩ = some (.int .i64 aJ):=(aa aV.out 6).trans rfl
               have EF:w3.cell? ⟨bR,7,none⟩ = some (.slice bG aX.length bH):=(aa aV.out 7).trans rfl
               have EG:w3.cell? ⟨bR,8,none⟩ = some (.slice bO aM.length bM):=(aa aV.out 8).trans rfl
               have zW:=ae aV.out 0
               have zX:=ae aV.out 1
               have zY:=ae aV.out 2
               have zZ:=ae aV.out 3
               have BP:=ae aV.out 4
               have BQ:=ae aV.out 5
               have BR:=ae aV.out 6
               have EH:=ae aV.out 7
               have EI:=ae aV.out 8
               go_wp2
               go_meet
               case rel=>exact ⟨_,(true),(by first|rfl|(simp;done)|(simp [*];done)),H',⟨by first|omega|exact Nat.le_refl _⟩,⟨by (with_reducible repeat (first|refine ag ?_ _|refine ai ?_|refine af ?_ _));exact aV.out⟩,⟨by repeat (first|(with_reducible first|exact HB.out|apply au|apply ah|apply av|refine ak ?_ oO.out)|exact HB.out)⟩⟩
              ·rw [if_neg c28] at H
               have Xa:decide (aJ < 0) = false:=decide_eq_false c28
               clear c28
               have H':=aj.mk H
               clear H
               have z8:w3.cell? ⟨bR,0,none⟩ = some (.int .i64 aC):=(aa aV.out 0).trans rfl
               have Aa:w3.cell? ⟨bR,1,none⟩ = some (.int .i64 aD):=(aa aV.out 1).trans rfl
               have Ab:w3.cell? ⟨bR,2,none⟩ = some (.int .i64 aG):=(aa aV.out 2).trans rfl
               have Ac:w3.cell? ⟨bR,3,none⟩ = some (.int .i64 aH):=(aa aV.out 3).trans rfl
               have BS:w3.cell? ⟨bR,4,none⟩ = some (.int .i64 aN):=(aa aV.out 4).trans rfl
               have BU:w3.cell? ⟨bR,5,none⟩ = some (.int .i64 aK):=(aa aV.out 5).trans rfl
               have BV:w3.cell? ⟨bR,6,none⟩ = some (.int .i64 aJ):=(aa aV.out 6).trans rfl
               have Qb:w3.cell? ⟨bR,7,none⟩ = some (.slice bG aX.length bH):=(aa aV.out 7).trans rfl
               have Qc:w3.cell? ⟨bR,8,none⟩ = some (.slice bO aM.length bM):=(aa aV.out 8).trans rfl
               have Ad:=ae aV.out 0
               have Ae:=ae aV.out 1
               have Af:=ae aV.out 2
               have Ag:=ae aV.out 3
               have BX:=ae aV.out 4
               have BZ:=ae aV.out 5
               have Ca:=ae aV.out 6
               have Qd:=ae aV.out 7
               have Qe:=ae aV.out 8
               go_wp2
               go_meet
               case rel=>exact ⟨_,(decide (aJ > 5000)),(by first|rfl|(simp;done)|(simp [*];done)),H',⟨by first|omega|exact Nat.le_refl _⟩,⟨by (with_reducible repeat (first|refine ag ?_ _|refine ai ?_|refine af ?_ _));exact aV.out⟩,⟨by repeat (first|(with_reducible first|exact HB.out|apply au|apply ah|apply av|refine ak ?_ oO.out)|exact HB.out)⟩⟩
 case rest =>
  clear HC2
  try clear c1
  try clear c2
  try clear p2
  try clear c4
  try clear wV
  try clear c6
  try clear Lu
  try clear c8
  try clear ME
  try clear c10
  try clear Dz
  try clear c12
  try clear WY
  try clear c14
  try clear WZ
  try clear c16
  try clear yg
  try clear c18
  try clear I8
  try clear c20
  try clear Nn
  try clear Mk
  try clear M9
  try clear c24
  try clear W9
  try clear Jj
  try clear I1
  try clear c28
  try clear Xa
  try clear CP
  try clear CQ
  try clear FB
  try clear FC
  try clear Ke
  try clear Kg
  try clear Kh
  try clear Ki
  try clear Kj
  try clear uX
  try clear uY
  try clear Ai
  try clear Aj
  try clear FH
  try clear FI
  try clear FJ
  try clear PL
  try clear PM
  try clear qj
  try clear ql
  try clear rG
  try clear rH
  try clear uR
  try clear uS
  try clear uT
  try clear vZ
  try clear wh
  try clear FO
  try clear FP
  try clear FQ
  try clear FR
  try clear FT
  try clear FU
  try clear FV
  try clear PQ
  try clear PR
  try clear sJ
  try clear sK
  try clear uJ
  try clear uK
  try clear Kq
  try clear Kr
  try clear Kt
  try clear PU
  try clear PV
  try clear CW
  try clear CX
  try clear F6
  try clear F7
  try clear F8
  try clear F9
  try clear Ga
  try clear Ky
  try clear Kz
  try clear C8
  try clear C9
  try clear Gh
  try clear Gi
  try clear Gj
  try clear Gm
  try clear Gn
  try clear KD
  try clear KE
  try clear xA
  try clear xB
  try clear xC
  try clear xD
  try clear zM
  try clear zN
  try clear zO
  try clear PY
  try clear PZ
  try clear xL
  try clear xM
  try clear xN
  try clear xO
  try clear Dc
  try clear De
  try clear Df
  try clear P7
  try clear P8
  try clear zS
  try clear zT
  try clear zU
  try clear zV
  try clear BM
  try clear BN
  try clear BO
  try clear EF
  try clear EG
  try clear z8
  try clear Aa
  try clear Ab
  try clear Ac
  try clear BS
  try clear BU
  try clear BV
  try clear Qb
  try clear Qc
  try clear SG
  try clear SH
  try clear SI
  try clear SK
  try clear SL
  try clear SN
  try clear SQ
  try clear SS
  try clear SV
  try clear yG
  try clear yH
  try clear DU
  try clear DV
  try clear DW
  try clear DX
  try clear DY
  try clear H9
  try clear Ia
  try clear AX
  try clear AY
  try clear GY
  try clear GZ
  try clear Ti
  try clear Tj
  try clear Tk
  try clear Tm
  try clear Tn
  try clear CR
  try clear CS
  try clear FD
  try clear FE
  try clear Kk
  try clear Kl
  try clear Km
  try clear Kn
  try clear Ko
  try clear uZ
  try clear ve
  try clear Ak
  try clear Al
  try clear FL
  try clear FM
  try clear FN
  try clear PN
  try clear PO
  try clear qm
  try clear qo
  try clear rJ
  try clear rM
  try clear uU
  try clear uV
  try clear uW
  try clear wm
  try clear wo
  try clear FW
  try clear FX
  try clear FY
  try clear FZ
  try clear F3
  try clear F4
  try clear F5
  try clear PS
  try clear PT
  try clear sM
  try clear sN
  try clear uL
  try clear uM
  try clear Ku
  try clear Kv
  try clear Kw
  try clear PW
  try clear PX
  try clear CY
  try clear CZ
  try clear Gb
  try clear Gc
  try clear Gd
  try clear Gf
  try clear Gg
  try clear KA
  try clear KC
  try clear Da
  try clear Db
  try clear Gp
  try clear Gq
  try clear Gr
  try clear Gs
  try clear Gt
  try clear KF
  try clear KG
  try clear xE
  try clear xG
  try clear xH
  try clear xI
  try clear zP
  try clear zQ
  try clear zR
  try clear P5
  try clear P6
  try clear xP
  try clear xQ
  try clear xR
  try clear xS
  try clear Dh
  try clear Di
  try clear Dj
  try clear P9
  try clear Qa
  try clear zW
  try clear zX
  try clear zY
  try clear zZ
  try clear BP
  try clear BQ
  try clear BR
  try clear EH
  try clear EI
  try clear Ad
  try clear Ae
  try clear Af
  try clear Ag
  try clear BX
  try clear BZ
  try clear Ca
  try clear Qd
  try clear Qe
  try clear SX
  try clear SY
  try clear S9
  try clear Ta
  try clear Tc
  try clear Td
  try clear Te
  try clear Tf
  try clear Tg
  try clear yI
  try clear yJ
  try clear DZ
  try clear D5
  try clear D6
  try clear D7
  try clear D8
  try clear Ib
  try clear Ic
  try clear AZ
  try clear Ba
  try clear G5
  try clear G6
  try clear Tp
  try clear Tq
  try clear Tt
  try clear Tu
  try clear Tv
  obtain ⟨kq,WX,rfl,HA,HJ1,aV,HB⟩:=hcut
  cases kq with
  |zero=>exact absurd HA.out (by simp [aI.j0])
  |succ kj1 =>
   have H:=HA.out
   clear HA
   simp only [aI.j0] at H
   by_cases c31:WX = true
   ·subst c31
    have H1:(some 2) = some r:=by rw [if_pos rfl] at H;exact H
    clear H
    have H:=H1
    clear H1
    obtain rfl:=Option.some.inj H
    go_wp2
    go_ret
    exact ⟨by first|rfl|(simp [aQ,aT] <;> rfl)|(simp [*,aQ,aT] <;> rfl),by repeat (first|(with_reducible first|exact HB.out|apply au|apply ah|apply av|refine ak ?_ oO.out)|exact HB.out)⟩
   ·replace c31:=Bool.eq_false_iff.mpr c31
    subst c31
    have H1:(if (aX.length:Int) = (wrap64 (aC*aD)) then (aI.j1 kj1 ((aM.length:Int) != (wrap64 ((wrap64 ((wrap64 (aN*aK))*aC))*aD))) aC aD aG aH aN aK aJ aX aM) else (aI.j1 kj1 true aC aD aG aH aN aK aJ aX aM)) = some r:=by rw [if_neg (show ¬ (false = true) by decide)] at H;exact H
    clear H
    have H:=H1
    clear H1
    have ahJ:=aj.mk H
    clear H
    go_upto_region 3 with (fail)
    go_cut [97] (fun v97 wc=>∃ (kq:Nat) (Qf:Bool),v97 = .bool Qf∧aj (aI.j1 kq Qf aC aD aG aH aN aK aJ aX aM = some r)∧aj (kq≤kj1)∧aj (wc.heap[bR]? = some (.cells #[.int .i64 aC,.int .i64 aD,.int .i64 aG,.int .i64 aH,.int .i64 aN,.int .i64 aK,.int .i64 aJ,(.slice bG aX.length bH),(.slice bO aM.length bM)] 25 (0,0)))∧aj (Below w.heap.size w wc))
    case first =>
     have H:=ahJ.out
     clear ahJ
     by_cases VD:(aX.length:Int) = (wrap64 (aC*aD))
     ·rw [if_pos VD] at H
      have Lv:((aX.length:Int) == (wrap64 (aC*aD))) = true:=beq_iff_eq.mpr VD
      have aab:((aX.length:Int) != (wrap64 (aC*aD))) = false:=bne_eq_false_iff_eq.mpr VD
      clear VD
      (first|rw [Lv]|(simp only [aZ,bf];rw [Lv])|skip)
      have H':=aj.mk H
      clear H
      have Fb:wc.cell? ⟨bR,0,none⟩ = some (.int .i64 aC):=(aa aV.out 0).trans rfl
      have Fe:wc.cell? ⟨bR,1,none⟩ = some (.int .i64 aD):=(aa aV.out 1).trans rfl
      have Ff:wc.cell? ⟨bR,2,none⟩ = some (.int .i64 aG):=(aa aV.out 2).trans rfl
      have Fg:wc.cell? ⟨bR,3,none⟩ = some (.int .i64 aH):=(aa aV.out 3).trans rfl
      have Pj:wc.cell? ⟨bR,4,none⟩ = some (.int .i64 aN):=(aa aV.out 4).trans rfl
      have Pk:wc.cell? ⟨bR,5,none⟩ = some (.int .i64 aK):=(aa aV.out 5).trans rfl
      have Pm:wc.cell? ⟨bR,6,none⟩ = some (.int .i64 aJ):=(aa aV.out 6).trans rfl
      have Pn:wc.cell? ⟨bR,7,none⟩ = some (.slice bG aX.length bH):=(aa aV.out 7).trans rfl
      have Po:wc.cell? ⟨bR,8,none⟩ = some (.slice bO aM.length bM):=(aa aV.out 8).trans rfl
      have Fh:=ae aV.out 0
      have Fj:=ae aV.out 1
      have Fp:=ae aV.out 2
      have Fq:=ae aV.out 3
      have Pp:=ae aV.out 4
      have Pq:=ae aV.out 5
      have Ps:=ae aV.out 6
      have Pt:=ae aV.out 7
      have Pv:=ae aV.out 8
      go_wp2
      go_meet
      case rel=>exact ⟨_,(((aM.length:Int) != (wrap64 ((wrap64 ((wrap64 (aN*aK))*aC))*aD)))),(by first|rfl|(simp;done)|(simp [*];done)),H',⟨by have:=HJ1.out;first|omega|exact Nat.le_refl _⟩,⟨by (with_reducible repeat (first|refine ag ?_ _|refine ai ?_|refine af ?_ _));exact aV.out⟩,⟨by repeat (first|(with_reducible first|exact HB.out|apply au|apply ah|apply av|refine ak ?_ oO.out)|exact HB.out)⟩⟩
     ·rw [if_neg VD] at H
      have Lv:((aX.length:Int) == (wrap64 (aC*aD))) = false:=beq_eq_false_iff_ne.mpr VD
      have aab:((aX.length:Int) != (wrap64 (aC*aD))) = true:=bne_iff_ne.mpr VD
      (first|rw [Lv]|(simp only [aZ,bf];rw [Lv])|skip)
      have H':=aj.mk H
      clear H
      have Dk:wc.cell? ⟨bR,0,none⟩ = some (.int .i64 aC):=(aa aV.out 0).trans rfl
      have Dl:wc.cell? ⟨bR,1,none⟩ = some (.int .i64 aD):=(aa aV.out 1).trans rfl
      have Gu:wc.cell? ⟨bR,2,none⟩ = some (.int .i64 aG):=(aa aV.out 2).trans rfl
      have Gv:wc.cell? ⟨bR,3,none⟩ = some (.int .i64 aH):=(aa aV.out 3).trans rfl
      have KH:wc.cell? ⟨bR,4,none⟩ = some (.int .i64 aN):=(aa aV.out 4).trans rfl
      have KI:wc.cell? ⟨bR,5,none⟩ = some (.int .i64 aK):=(aa aV.out 5).trans rfl
      have KJ:wc.cell? ⟨bR,6,none⟩ = some (.int .i64 aJ):=(aa aV.out 6).trans rfl
      have Xb:wc.cell? ⟨bR,7,none⟩ = some (.slice bG aX.length bH):=(aa aV.out 7).trans rfl
      have Xc:wc.cell? ⟨bR,8,none⟩ = some (.slice bO aM.length bM):=(aa aV.out 8).trans rfl
      have Dm:=ae aV.out 0
      have Dn:=ae aV.out 1
      have Gw:=ae aV.out 2
      have Gx:=ae aV.out 3
      have KL:=ae aV.out 4
      have KM:=ae aV.out 5
      have KN:=ae aV.out 6
      have Xd:=ae aV.out 7
      have Xe:=ae aV.out 8
      go_wp2
      go_meet
      case rel=>exact ⟨_,(true),(by first|rfl|(simp;done)|(simp [*];done)),H',⟨by have:=HJ1.out;first|omega|exact Nat.le_refl _⟩,⟨by (with_reducible repeat (first|refine ag ?_ _|refine ai ?_|refine af ?_ _));exact aV.out⟩,⟨by repeat (first|(with_reducible first|exact HB.out|apply au|apply ah|apply av|refine ak ?_ oO.out)|exact HB.out)⟩⟩
    case rest =>
     clear ahJ
     try clear c1
     try clear c2
     try clear p2
     try clear c3
     try clear c4
     try clear wV
     try clear c6
     try clear Lu
     try clear p6
     try clear c8
     try clear ME
     try clear c10
     try clear Dz
     try clear c12
     try clear WY
     try clear c14
     try clear WZ
     try clear c16
     try clear yg
     try clear c18
     try clear I8
     try clear c20
     try clear Nn
     try clear Mk
     try clear M9
     try clear c24
     try clear W9
     try clear Jj
     try clear I1
     try clear c28
     try clear Xa
     try clear c31
     try clear VD
     try clear Lv
     try clear aab
     try clear CP
     try clear CQ
     try clear FB
     try clear FC
     try clear Ke
     try clear Kg
     try clear Kh
     try clear Ki
     try clear Kj
     try clear uX
     try clear uY
     try clear Ai
     try clear Aj
     try clear FH
     try clear FI
     try clear FJ
     try clear PL
     try clear PM
     try clear qj
     try clear ql
     try clear rG
     try clear rH
     try clear uR
     try clear uS
     try clear uT
     try clear vZ
     try clear wh
     try clear FO
     try clear FP
     try clear FQ
     try clear FR
     try clear FT
     try clear FU
     try clear FV
     try clear PQ
     try clear PR
     try clear sJ
     try clear sK
     try clear uJ
     try clear uK
     try clear Kq
     try clear Kr
     try clear Kt
     try clear PU
     try clear PV
     try clear CW
     try clear CX
     try clear F6
     try clear F7
     try clear F8
     try clear F9
     try clear Ga
     try clear Ky
     try clear Kz
     try clear C8
     try clear C9
     try clear Gh
     try clear Gi
     try clear Gj
     try clear Gm
     try clear Gn
     try clear KD
     try clear KE
     try clear xA
     try clear xB
     try clear xC
     try clear xD
     try clear zM
     try clear zN
     try clear zO
     try clear PY
     try clear PZ
     try clear xL
     try clear xM
     try clear xN
     try clear xO
     try clear Dc
     try clear De
     try clear Df
     try clear P7
     try clear P8
     try clear zS
     try clear zT
     try clear zU
     try clear zV
     try clear BM
     try clear BN
     try clear BO
     try clear EF
     try clear EG
     try clear z8
     try clear Aa
     try clear Ab
     try clear Ac
     try clear BS
     try clear BU
     try clear BV
     try clear Qb
     try clear Qc
     try clear Fb
     try clear Fe
     try clear Ff
     try clear Fg
     try clear Pj
     try clear Pk
     try clear Pm
     try clear Pn
     try clear Po
     try clear Dk
     try clear Dl
     try clear Gu
     try clear Gv
     try clear KH
     try clear KI
     try clear KJ
     try clear Xb
     try clear Xc
     try clear SG
     try clear SH
     try clear SI
     try clear SK
     try clear SL
     try clear SN
     try clear SQ
     try clear SS
     try clear SV
     try clear yG
     try clear yH
     try clear DU
     try clear DV
     try clear DW
     try clear DX
     try clear DY
     try clear H9
     try clear Ia
     try clear AX
     try clear AY
     try clear GY
     try clear GZ
     try clear Ti
     try clear Tj
     try clear Tk
     try clear Tm
     try clear Tn
     try clear CR
     try clear CS
     try clear FD
     try clear FE
     try clear Kk
     try clear Kl
     try clear Km
     try clear Kn
     try clear Ko
     try clear uZ
     try clear ve
     try clear Ak
     try clear Al
     try clear FL
     try clear FM
     try clear FN
     try clear PN
     try clear PO
     try clear qm
     try clear qo
     try clear rJ
     try clear rM
     try clear uU
     try clear uV
     try clear uW
     try clear wm
     try clear wo
     try clear FW
     try clear FX
     try clear FY
     try clear FZ
     try clear F3
     try clear F4
     try clear F5
     try clear PS
     try clear PT
     try clear sM
     try clear sN
     try clear uL
     try clear uM
     try clear Ku
     try clear Kv
     try clear Kw
     try clear PW
     try clear PX
     try clear CY
     try clear CZ
     try clear Gb
     try clear Gc
     try clear Gd
     try clear Gf
     try clear Gg
     try clear KA
     try clear KC
     try clear Da
     try clear Db
     try clear Gp
     try clear Gq
     try clear Gr
     try clear Gs
     try clear Gt
     try clear KF
     try clear KG
     try clear xE
     try clear xG
     try clear xH
     try clear xI
     try clear zP
     try clear zQ
     try clear zR
     try clear P5
     try clear P6
     try clear xP
     try clear xQ
     try clear xR
     try clear xS
     try clear Dh
     try clear Di
     try clear Dj
     try clear P9
     try clear Qa
     try clear zW
     try clear zX
     try clear zY
     try clear zZ
     try clear BP
     try clear BQ
     try clear BR
     try clear EH
     try clear EI
     try clear Ad
     try clear Ae
     try clear Af
     try clear Ag
     try clear BX
     try clear BZ
     try clear Ca
     try clear Qd
     try clear Qe
     try clear Fh
     try clear Fj
     try clear Fp
     try clear Fq
     try clear Pp
     try clear Pq
     try clear Ps
     try clear Pt
     try clear Pv
     try clear Dm
     try clear Dn
     try clear Gw
     try clear Gx
     try clear KL
     try clear KM
     try clear KN
     try clear Xd
     try clear Xe
     try clear SX
     try clear SY
     try clear S9
     try clear Ta
     try clear Tc
     try clear Td
     try clear Te
     try clear Tf
     try clear Tg
     try clear yI
     try clear yJ
     try clear DZ
     try clear D5
     try clear D6
     try clear D7
     try clear D8
     try clear Ib
     try clear Ic
     try clear AZ
     try clear Ba
     try clear G5
     try clear G6
     try clear Tp
     try clear Tq
     try clear Tt
     try clear Tu
     try clear Tv
     try clear p2
     obtain ⟨kq,Qf,rfl,HA,aoH,aV,HB⟩:=hcut
     cases kq with
     |zero=>exact absurd HA.out (by simp [aI.j1])
     |succ ahK =>
      have H:=HA.out
      clear HA
      simp only [aI.j1] at H
      by_cases Zl:Qf = true
      ·subst Zl
       have H1:(some 2) = some r:=by rw [if_pos rfl] at H;exact H
       clear H
       have H:=H1
       clear H1
       obtain rfl:=Option.some.inj H
       go_wp2
       go_ret
       exact ⟨by first|rfl|(simp [aQ,aT] <;> rfl)|(simp [*,aQ,aT] <;> rfl),by repeat (first|(with_reducible first|exact HB.out|apply au|apply ah|apply av|refine ak ?_ oO.out)|exact HB.out)⟩
      ·replace Zl:=Bool.eq_false_iff.mpr Zl
       subst Zl
       have H1:(aI.l0 ahK 0 aC aD aG aH aN aK aJ aX aM) = some r:=by rw [if_neg (show ¬ (false = true) by decide)] at H;exact H
       clear H
       have H:=H1
       clear H1
       have H':=aj.mk H
       clear H
       go_wp2
       go_loopg [3] ahK (fun kq v3 w'=>∃ (ik:Int),v3 = .int .i64 ik∧aj (aI.l0 kq ik aC aD aG aH aN aK aJ aX aM = some r)∧aj (kq≤ahK)∧aj (w'.heap[bR]? = some (.cells #[.int .i64 aC,.int .i64 aD,.int .i64 aG,.int .i64 aH,.int .i64 aN,.int .i64 aK,.int .i64 aJ,(.slice bG aX.length bH),(.slice bO aM.length bM)] 25 (0,0)))∧aj (Below w.heap.size w w'))
       case atStart=>exact ⟨(0),(by first|rfl|(simp;done)|(simp [*];done)),H',⟨Nat.le_refl _⟩,⟨by (with_reducible repeat (first|refine ag ?_ _|refine ai ?_|refine af ?_ _));exact aV.out⟩,⟨by repeat (first|(with_reducible first|exact HB.out|apply au|apply ah|apply av|refine ak ?_ oO.out)|exact HB.out)⟩⟩
       case round =>
        clear H'
        try clear c1
        try clear c2
        try clear p2
        try clear c3
        try clear c4
        try clear wV
        try clear c6
        try clear Lu
        try clear p6
        try clear c8
        try clear ME
        try clear c10
        try clear Dz
        try clear c12
        try clear WY
        try clear c14
        try clear WZ
        try clear c16
        try clear yg
        try clear c18
        try clear I8
        try clear c20
        try clear Nn
        try clear Mk
        try clear M9
        try clear c24
        try clear W9
        try clear Jj
        try clear I1
        try clear c28
        try clear Xa
        try clear c31
        try clear VD
        try clear Lv
        try clear aab
        try clear Zl
        try clear CP
        try clear CQ
        try clear FB
        try clear FC
        try clear Ke
        try clear Kg
        try clear Kh
        try clear Ki
        try clear Kj
        try clear uX
        try clear uY
        try clear Ai
        try clear Aj
        try clear FH
        try clear FI
        try clear FJ
        try clear PL
        try clear PM
        try clear qj
        try clear ql
        try clear rG
        try clear rH
        try clear uR
        try clear uS
        try clear uT
        try clear vZ
        try clear wh
        try clear FO
        try clear FP
        try clear FQ
        try clear FR
        try clear FT
        try clear FU
        try clear FV
        try clear PQ
        try clear PR
        try clear sJ
        try clear sK
        try clear uJ
        try clear uK
        try clear Kq
        try clear Kr
        try clear Kt
        try clear PU
        try clear PV
        try clear CW
        try clear CX
        try clear F6
        try clear F7
        try clear F8
        try clear F9
        try clear Ga
        try clear Ky
        try clear Kz
        try clear C8
        try clear C9
        try clear Gh
        try clear Gi
        try clear Gj
        try clear Gm
        try clear Gn
        try clear KD
        try clear KE
        try clear xA
        try clear xB
        try clear xC
        try clear xD
        try clear zM
        try clear zN
        try clear zO
        try clear PY
        try clear PZ
        try clear xL
        try clear xM
        try clear xN
        try clear xO
        try clear Dc
        try clear De
        try clear Df
        try clear P7
        try clear P8
        try clear zS
        try clear zT
        try clear zU
        try clear zV
        try clear BM
        try clear BN
        try clear BO
        try clear EF
        try clear EG
        try clear z8
        try clear Aa
        try clear Ab
        try clear Ac
        try clear BS
        try clear BU
        try clear BV
        try clear Qb
        try clear Qc
        try clear Fb
        try clear Fe
        try clear Ff
        try clear Fg
        try clear Pj
        try clear Pk
        try clear Pm
        try clear Pn
        try clear Po
        try clear Dk
        try clear Dl
        try clear Gu
        try clear Gv
        try clear KH
        try clear KI
        try clear KJ
        try clear Xb
        try clear Xc
        try clear SG
        try clear SH
        try clear SI
        try clear SK
        try clear SL
        try clear SN
        try clear SQ
        try clear SS
        try clear SV
        try clear yG
        try clear yH
        try clear DU
        try clear DV
        try clear DW
        try clear DX
        try clear DY
        try clear H9
        try clear Ia
        try clear AX
        try clear AY
        try clear GY
        try clear GZ
        try clear Ti
        try clear Tj
        try clear Tk
        try clear Tm
        try clear Tn
        try clear CR
        try clear CS
        try clear FD
        try clear FE
        try clear Kk
        try clear Kl
        try clear Km
        try clear Kn
        try clear Ko
        try clear uZ
        try clear ve
        try clear Ak
        try clear Al
        try clear FL
        try clear FM
        try clear FN
        try clear PN
        try clear PO
        try clear qm
        try clear qo
        try clear rJ
        try clear rM
        try clear uU
        try clear uV
        try clear uW
        try clear wm
        try clear wo
        try clear FW
        try clear FX
        try clear FY
        try clear FZ
        try clear F3
        try clear F4
        try clear F5
        try clear PS
        try clear PT
        try clear sM
        try clear sN
        try clear uL
        try clear uM
        try clear Ku
        try clear Kv
        try clear Kw
        try clear PW
        try clear PX
        try clear CY
        try clear CZ
        try clear Gb
        try clear Gc
        try clear Gd
        try clear Gf
        try clear Gg
        try clear KA
        try clear KC
        try clear Da
        try clear Db
        try clear Gp
        try clear Gq
        try clear Gr
        try clear Gs
        try clear Gt
        try clear KF
        try clear KG
        try clear xE
        try clear xG
        try clear xH
        try clear xI
        try clear zP
        try clear zQ
        try clear zR
        try clear P5
        try clear P6
        try clear xP
        try clear xQ
        try clear xR
        try clear xS
        try clear Dh
        try clear Di
        try clear Dj
        try clear P9
        try clear Qa
        try clear zW
        try clear zX
        try clear zY
        try clear zZ
        try clear BP
        try clear BQ
        try clear BR
        try clear EH
        try clear EI
        try clear Ad
        try clear Ae
        try clear Af
        try clear Ag
        try clear BX
        try clear BZ
        try clear Ca
        try clear Qd
        try clear Qe
        try clear Fh
        try clear Fj
        try clear Fp
        try clear Fq
        try clear Pp
        try clear Pq
        try clear Ps
        try clear Pt
        try clear Pv
        try clear Dm
        try clear Dn
        try clear Gw
        try clear Gx
        try clear KL
        try clear KM
        try clear KN
        try clear Xd
        try clear Xe
        try clear SX
        try clear SY
        try clear S9
        try clear Ta
        try clear Tc
        try clear Td
        try clear Te
        try clear Tf
        try clear Tg
        try clear yI
        try clear yJ
        try clear DZ
        try clear D5
        try clear D6
        try clear D7
        try clear D8
        try clear Ib
        try clear Ic
        try clear AZ
        try clear Ba
        try clear G5
        try clear G6
        try clear Tp
        try clear Tq
        try clear Tt
        try clear Tu
        try clear Tv
        try clear p2
        try clear p6
        obtain ⟨ik,rfl,HA,ZI,aV,HB⟩:=hrel
        cases gk with
        |zero=>exact absurd HA.out (by simp [aI.l0])
        |succ k3 =>
         have H:=HA.out
         clear HA
         simp only [aI.l0] at H
         by_cases c37:ik < (aM.length:Int)
         ·rw [if_pos c37] at H
          have aoI:decide (ik < (aM.length:Int)) = true:=decide_eq_true c37
          clear c37
          by_cases c38:0≤ik
          ·rw [if_pos c38] at H
           have aDK:decide (0≤ik) = true:=decide_eq_true c38
           clear c38
           replace H:=Option.bind_eq_some_iff.mp H
           obtain ⟨t109,ZN,H⟩:=H
           replace H:(if t109 = true then ((cK.f ((bn aM ik).f1.f0) ((bn aM ik).f1.f1) (wrap64 (-aJ)) aJ).bind fun t111=>(if t111 = true then (aI.l0 k3 (wrap64 (ik+1)) aC aD aG aH aN aK aJ aX aM) else (some 2))) else (some 2)) = some r:=H
           have A39:=aj.mk ZN
           clear ZN
           by_cases c40:t109 = true
           ·subst c40
            have H1:((cK.f ((bn aM ik).f1.f0) ((bn aM ik).f1.f1) (wrap64 (-aJ)) aJ).bind fun t111=>(if t111 = true then (aI.l0 k3 (wrap64 (ik+1)) aC aD aG aH aN aK aJ aX aM) else (some 2))) = some r:=by rw [if_pos rfl] at H;exact H
            clear H
            have H:=H1
            clear H1
            replace H:=Option.bind_eq_some_iff.mp H
            obtain ⟨t111,aoJ,H⟩:=H
            replace H:(if t111 = true then (aI.l0 k3 (wrap64 (ik+1)) aC aD aG aH aN aK aJ aX aM) else (some 2)) = some r:=H
            have A41:=aj.mk aoJ
            clear aoJ
            by_cases c42:t111 = true
            ·subst c42
             have H1:(aI.l0 k3 (wrap64 (ik+1)) aC aD aG aH aN aK aJ aX aM) = some r:=by rw [if_pos rfl] at H;exact H
             clear H
             have H:=H1
             clear H1
             have H':=aj.mk H
             clear H
             have VE:wr.cell? ⟨bR,0,none⟩ = some (.int .i64 aC):=(aa aV.out 0).trans rfl
             have VF:wr.cell? ⟨bR,1,none⟩ = some (.int .i64 aD):=(aa aV.out 1).trans rfl
             have VG:wr.cell? ⟨bR,2,none⟩ = some (.int .i64 aG):=(aa aV.out 2).trans rfl
             have VH:wr.cell? ⟨bR,3,none⟩ = some (.int .i64 aH):=(aa aV.out 3).trans rfl
             have acb:wr.cell? ⟨bR,4,none⟩ = some (.int .i64 aN):=(aa aV.out 4).trans rfl
             have acd:wr.cell? ⟨bR,5,none⟩ = some (.int .i64 aK):=(aa aV.out 5).trans rfl
             have ace:wr.cell? ⟨bR,6,none⟩ = some (.int .i64 aJ):=(aa aV.out 6).trans rfl
             have acf:wr.cell? ⟨bR,7,none⟩ = some (.slice bG aX.length bH):=(aa aV.out 7).trans rfl
             have acg:wr.cell? ⟨bR,8,none⟩ = some (.slice bO aM.length bM):=(aa aV.out 8).trans rfl
             have VI:=ae aV.out 0
             have VJ:=ae aV.out 1
             have VK:=ae aV.out 2
             have VL:=ae aV.out 3
             have ach:=ae aV.out 4
             have aci:=ae aV.out 5
             have acj:=ae aV.out 6
             have ack:=ae aV.out 7
             have acm:=ae aV.out 8
             try go_wp2
             have bB:=aj.mk (ai aV.out)
             have bC:=aj.mk (av HB.out)
             clear aV
             clear HB
             have aV:=bB
             have HB:=bC
             clear bB bC
             have Lx:0≤(ik:Int):=of_decide_eq_true (by first|(with_reducible assumption)|assumption)
             have LA:ik < (aM.length:Int):=of_decide_eq_true (by first|(with_reducible assumption)|assumption)
             obtain ⟨jD,e108,oh,om,oo,oq⟩:=yE jm.out ik Lx LA
             have nI:=oq
             have nJ:=oo
             have nK:=om
             have nL:=oh
             cases e108
             replace oh:=(HB.out.cell (World.block_lt_of_cell? w _ oh)).trans oh
             replace om:=(HB.out.cell (World.block_lt_of_cell? w _ om)).trans om
             replace oo:=(HB.out.cell (World.block_lt_of_cell? w _ oo)).trans oo
             replace oq:=(HB.out.cell (World.block_lt_of_cell? w _ oq)).trans oq
             replace Lx:=eq_true Lx
             replace LA:=eq_true LA
             have Tw:0≤(ik:Int):=of_decide_eq_true (by first|(with_reducible assumption)|assumption)
             have Tx:ik < (aM.length:Int):=of_decide_eq_true (by first|(with_reducible assumption)|assumption)
             obtain ⟨aac,ahL,tV,tX,tY,tZ⟩:=yE jm.out ik Tw Tx
             have qX:=tZ
             have qY:=tY
             have qZ:=tX
             have q9:=tV
             obtain rfl:jD = aac:=(by injection ahL)
             replace tV:=(HB.out.cell (World.block_lt_of_cell? w _ tV)).trans tV
             replace tX:=(HB.out.cell (World.block_lt_of_cell? w _ tX)).trans tX
             replace tY:=(HB.out.cell (World.block_lt_of_cell? w _ tY)).trans tY
             replace tZ:=(HB.out.cell (World.block_lt_of_cell? w _ tZ)).trans tZ
             replace Tw:=eq_true Tw
             replace Tx:=eq_true Tx
             refine qg (n:=28) (S:=fun w'=>w'.cell? ⟨bR,0,none⟩ = some (.int .i64 aC)∧w'.cell? ⟨bR,1,none⟩ = some (.int .i64 aD)∧w'.cell? ⟨bR,2,none⟩ = some (.int .i64 aG)∧w'.cell? ⟨bR,3,none⟩ = some (.int .i64 aH)∧w'.cell? ⟨bR,4,none⟩ = some (.int .i64 aN)∧w'.cell? ⟨bR,5,none⟩ = some (.int .i64 aK)∧w'.cell? ⟨bR,6,none⟩ = some (.int .i64 aJ)∧w'.cell? ⟨bR,7,none⟩ = some (.slice bG aX.length bH)∧w'.cell? ⟨bR,8,none⟩ = some (.slice (some jD) aM.length bM)∧w'.cell? (jD.add ((ik).toNat*4)) = some (.int .i64 ((bn aM ik).f0.f0))∧w'.cell? ⟨(jD.add ((ik).toNat*4)).block,(jD.add ((ik).toNat*4)).off+1,none⟩ = some (.int .i64 ((bn aM ik).f0.f1))∧w'.cell? ⟨(jD.add ((ik).toNat*4)).block,(jD.add ((ik).toNat*4)).off+2,none⟩ = some (.int .i64 ((bn aM ik).f1.f0))∧w'.cell? ⟨(jD.add ((ik).toNat*4)).block,(jD.add ((ik).toNat*4)).off+3,none⟩ = some (.int .i64 ((bn aM ik).f1.f1))∧w'.cell? (jD.add ((ik).toNat*4)) = some (.int .i64 ((bn aM ik).f0.f0))∧w'.cell? ⟨(jD.add ((ik).toNat*4)).block,(jD.add ((ik).toNat*4)).off+1,none⟩ = some (.int .i64 ((bn aM ik).f0.f1))∧w'.cell? ⟨(jD.add ((ik).toNat*4)).block,(jD.add ((ik).toNat*4)).off+2,none⟩ = some (.int .i64 ((bn aM ik).f1.f0))∧w'.cell? ⟨(jD.add ((ik).toNat*4)).block,(jD.add ((ik).toNat*4)).off+3,none⟩ = some (.int .i64 ((bn aM ik).f1.f1))) (ds:=[]) #[false,false,false,false,false,false,false,false,false,false,false,false,false,false,false,false,false,false,false,false,false,false,false,false,false,false,false,false] (by kernel_rfl) rfl rfl ⟨(aa aV.out 0).trans rfl,(aa aV.out 1).trans rfl,(aa aV.out 2).trans rfl,(aa aV.out 3).trans rfl,(aa aV.out 4).trans rfl,(aa aV.out 5).trans rfl,(aa aV.out 6).trans rfl,(aa aV.out 7).trans rfl,(aa aV.out 8).trans rfl,((HB.out.cell (World.block_lt_of_cell? w _ nL)).trans nL),((HB.out.cell (World.block_lt_of_cell? w _ nK)).trans nK),((HB.out.cell (World.block_lt_of_cell? w _ nJ)).trans nJ),((HB.out.cell (World.block_lt_of_cell? w _ nI)).trans nI),((HB.out.cell (World.block_lt_of_cell? w _ q9)).trans q9),((HB.out.cell (World.block_lt_of_cell? w _ qZ)).trans qZ),((HB.out.cell (World.block_lt_of_cell? w _ qY)).trans qY),((HB.out.cell (World.block_lt_of_cell? w _ qX)).trans qX)⟩ (fun hHeld=>?_);refine si aI.ahI aI.aaa (fun iD wX=>?_)
             generalize wr.drew = VM at aV HB oh om oo oq tV tX tY tZ hHeld ⊢
             refine bU (i:=0) (N:=some 105) (v:=?_) (a':=?_) #[true,false,false,false,false,false,false,false,false,false,false,false,false,false,false,false,false,false,false,false,false,false,false,false,false,false,false,false] rfl rfl (dC iD.out (by kernel_rfl)) (fun _ _ _ h=>h) (Or.inl ⟨by rfl,?_⟩) ?_ ?_
             rotate_left
             ·intro w'
              go_simp
              with_reducible rfl
             rotate_left
             ·simp only [Act.put,List.setIfInBounds_toArray,List.set_cons_zero,List.set_cons_succ,aZ,bf]
              rfl
             refine bU (i:=2) (N:=some 107) (v:=?_) (a':=?_) #[true,false,true,false,false,false,false,false,false,false,false,false,false,false,false,false,false,false,false,false,false,false,false,false,false,false,false,false] rfl rfl (dC iD.out (by kernel_rfl)) (fun _ _ _ h=>h) (Or.inl ⟨by rfl,?_⟩) ?_ ?_
             rotate_left
             ·intro w'
              go_simp
              with_reducible rfl
             rotate_left
             ·simp only [Act.put,List.setIfInBounds_toArray,List.set_cons_zero,List.set_cons_succ,aZ,bf]
              rfl
             refine bU (i:=6) (N:=some 111) (v:=?_) (a':=?_) #[true,false,true,false,false,false,true,false,false,false,false,false,false,false,false,false,false,false,false,false,false,false,false,false,false,false,false,false] rfl rfl (dC iD.out (by kernel_rfl)) (fun _ _ _ h=>h) (Or.inl ⟨by rfl,?_⟩) ?_ ?_
             rotate_left
             ·intro w'
              go_simp
              with_reducible rfl
             rotate_left
             ·simp only [Act.put,List.setIfInBounds_toArray,List.set_cons_zero,List.set_cons_succ,aZ,bf]
              rfl
             refine bU (i:=9) (N:=some 114) (v:=?_) (a':=?_) #[true,false,true,false,false,false,true,false,false,true,false,false,false,false,false,false,false,false,false,false,false,false,false,false,false,false,false,false] rfl rfl (dC iD.out (by kernel_rfl)) (fun _ _ _ h=>h) (Or.inl ⟨by rfl,?_⟩) ?_ ?_
             rotate_left
             ·intro w'
              go_simp
              with_reducible rfl
             rotate_left
             ·simp only [Act.put,List.setIfInBounds_toArray,List.set_cons_zero,List.set_cons_succ,aZ,bf]
              rfl
             refine gB (i:=1) (N:=some 106) (v:=?_) (a':=?_) #[true,true,true,false,false,false,true,false,false,true,false,false,false,false,false,false,false,false,false,false,false,false,false,false,false,false,false,false] rfl rfl (gJ iD.out wX.out (by kernel_rfl)) (fun _ _ _ h=>h) (Or.inl ⟨by rfl,?_⟩) hHeld ?_ ?_
             rotate_left
             ·rintro w' ⟨s0,s1,s2,s3,s4,s5,s6,s7,s8,s9,s10,s11,s12,s13,Lh,s15,s16⟩
              go_simp
              with_reducible rfl
             rotate_left
             ·simp only [Act.put,List.setIfInBounds_toArray,List.set_cons_zero,List.set_cons_succ,aZ,bf]
              rfl
             refine bU (i:=3) (N:=some 108) (v:=?_) (a':=?_) #[true,true,true,true,false,false,true,false,false,true,false,false,false,false,false,false,false,false,false,false,false,false,false,false,false,false,false,false] rfl rfl (dC iD.out (by kernel_rfl)) (fun _ _ _ h=>h) (Or.inl ⟨by rfl,?_⟩) ?_ ?_
             rotate_left
             ·intro w'
              go_simp
              with_reducible rfl
             rotate_left
             ·simp only [Act.put,List.setIfInBounds_toArray,List.set_cons_zero,List.set_cons_succ,aZ,bf]
              rfl
             refine bU (i:=4) (N:=some 109) (v:=?_) (a':=?_) #[true,true,true,true,true,false,true,false,false,true,false,false,false,false,false,false,false,false,false,false,false,false,false,false,false,false,false,false] rfl rfl (dC iD.out (by kernel_rfl)) (fun _ _ _ h=>h) (Or.inl ⟨by rfl,?_⟩) ?_ ?_
             rotate_left
             ·intro w'
              go_simp
              with_reducible rfl
             rotate_left
             ·simp only [Act.put,List.setIfInBounds_toArray,List.set_cons_zero,List.set_cons_succ,aZ,bf]
              rfl
             refine gB (i:=5) (N:=some 110) (v:=?_) (a':=?_) #[true,true,true,true,true,true,true,false,false,true,false,false,false,false,false,false,false,false,false,false,false,false,false,false,false,false,false,false] rfl rfl (gJ iD.out wX.out (by kernel_rfl)) (fun _ _ _ h=>h) (Or.inl ⟨by rfl,?_⟩) hHeld ?_ ?_
             rotate_left
             ·rintro w' ⟨s0,s1,s2,s3,s4,s5,s6,s7,s8,s9,s10,s11,s12,s13,Lh,s15,s16⟩
              go_simp
              with_reducible rfl
             rotate_left
             ·simp only [Act.put,List.setIfInBounds_toArray,List.set_cons_zero,List.set_cons_succ,aZ,bf]
              rfl
             refine gB (i:=7) (N:=some 112) (v:=?_) (a':=?_) #[true,true,true,true,true,true,true,true,false,true,false,false,false,false,false,false,false,false,false,false,false,false,false,false,false,false,false,false] rfl rfl (gJ iD.out wX.out (by kernel_rfl)) (fun _ _ _ h=>h) (Or.inl ⟨by rfl,?_⟩) hHeld ?_ ?_
             rotate_left
             ·rintro w' ⟨s0,s1,s2,s3,s4,s5,s6,s7,s8,s9,s10,s11,s12,s13,Lh,s15,s16⟩
              go_simp
              with_reducible rfl
             rotate_left
             ·simp only [Act.put,List.setIfInBounds_toArray,List.set_cons_zero,List.set_cons_succ,aZ,bf]
              rfl
             refine bU (i:=8) (N:=some 113) (v:=?_) (a':=?_) #[true,true,true,true,true,true,true,true,true,true,false,false,false,false,false,false,false,false,false,false,false,false,false,false,false,false,false,false] rfl rfl (dC iD.out (by kernel_rfl)) (fun _ _ _ h=>h) (Or.inl ⟨by rfl,?_⟩) ?_ ?_
             rotate_left
             ·intro w'
              go_simp
              with_reducible rfl
             rotate_left
             ·simp only [Act.put,List.setIfInBounds_toArray,List.set_cons_zero,List.set_cons_succ,aZ,bf]
              rfl
             refine gB (i:=10) (N:=some 115) (v:=?_) (a':=?_) #[true,true,true,true,true,true,true,true,true,true,true,false,false,false,false,false,false,false,false,false,false,false,false,false,false,false,false,false] rfl rfl (gJ iD.out wX.out (by kernel_rfl)) (fun _ _ _ h=>h) (Or.inl ⟨by rfl,?_⟩) hHeld ?_ ?_
             rotate_left
             ·rintro w' ⟨s0,s1,s2,s3,s4,s5,s6,s7,s8,s9,s10,s11,s12,s13,Lh,s15,s16⟩
              go_simp
              with_reducible rfl
             rotate_left
             ·simp only [Act.put,List.setIfInBounds_toArray,List.set_cons_zero,List.set_cons_succ,aZ,bf]
              rfl
             refine o7 (i:=11) (N:=some 116) #[true,true,true,true,true,true,true,true,true,true,true,true,false,false,false,false,false,false,false,false,false,false,false,false,false,false,false,false] rfl rfl (l9 iD.out (by kernel_rfl)) (by decide) (fun K hK=>?_)
             refine kP Try.func78 (by kernel_rfl) rfl #[.agg #[.int .i64 ((bn aM ik).f0.f0),.int .i64 ((bn aM ik).f0.f1)],.int .i64 (wrap64 (-aJ)),.int .i64 aJ] (by rfl) rfl rfl (by (try simp only [List.map_toArray,List.map_cons,List.map_nil]);first|done|rfl|(simp only [List.length_drop,List.length_take];rfl)) ?_
             with_reducible refine (cK.calls ((bn aM ik).f0.f0) ((bn aM ik).f0.f1) (wrap64 (-aJ)) aJ true _ A39.out).mono ?_
             rintro e Ph ⟨rfl,hb⟩
             refine ⟨_,rfl,?_⟩
             have bB:=aj.mk (ax (g:=bR) (o:=.cells #[.int .i64 aC,.int .i64 aD,.int .i64 aG,.int .i64 aH,.int .i64 aN,.int .i64 aK,.int .i64 aJ,.slice bG aX.length bH,.slice (some jD) aM.length bM] 25 (0,0)) (by (with_reducible repeat (first|refine ag ?_ _|refine ai ?_|refine af ?_ _));exact aV.out) hb)
             have bC:=aj.mk (ay (by repeat (first|(with_reducible first|exact HB.out|apply au|apply ah|apply av|refine ak ?_ oO.out)|exact HB.out)) hb)
             clear aV
             clear HB
             have aV:=bB
             have HB:=bC
             clear bB bC
             (try clear hb)
             (try clear hb2)
             (try clear hk)
             (try clear hi)
             refine hK.out _ _ ⟨(aa aV.out 0).trans rfl,(aa aV.out 1).trans rfl,(aa aV.out 2).trans rfl,(aa aV.out 3).trans rfl,(aa aV.out 4).trans rfl,(aa aV.out 5).trans rfl,(aa aV.out 6).trans rfl,(aa aV.out 7).trans rfl,(aa aV.out 8).trans rfl,((HB.out.cell (World.block_lt_of_cell? w _ nL)).trans nL),((HB.out.cell (World.block_lt_of_cell? w _ nK)).trans nK),((HB.out.cell (World.block_lt_of_cell? w _ nJ)).trans nJ),((HB.out.cell (World.block_lt_of_cell? w _ nI)).trans nI),((HB.out.cell (World.block_lt_of_cell? w _ q9)).trans q9),((HB.out.cell (World.block_lt_of_cell? w _ qZ)).trans qZ),((HB.out.cell (World.block_lt_of_cell? w _ qY)).trans qY),((HB.out.cell (World.block_lt_of_cell? w _ qX)).trans qX)⟩ (fun hHeld=>?_)
             clear hK K
             refine iP (a':=?_) ?_ ?_
             rotate_left
             ·show Act.put _ (some 116) _ = _
              simp only [Act.put,List.setIfInBounds_toArray,List.set_cons_zero,List.set_cons_succ,aZ,bf]
              rfl
             refine bU (i:=12) (N:=some 117) (v:=?_) (a':=?_) #[true,true,true,true,true,true,true,true,true,true,true,true,true,false,false,false,false,false,false,false,false,false,false,false,false,false,false,false] rfl rfl (dC iD.out (by kernel_rfl)) (fun _ _ _ h=>h) (Or.inl ⟨by rfl,?_⟩) ?_ ?_
             rotate_left
             ·intro w'
              go_simp
              with_reducible rfl
             rotate_left
             ·simp only [Act.put,List.setIfInBounds_toArray,List.set_cons_zero,List.set_cons_succ,aZ,bf]
              rfl
             refine bU (i:=13) (N:=some 118) (v:=?_) (a':=?_) #[true,true,true,true,true,true,true,true,true,true,true,true,true,true,false,false,false,false,false,false,false,false,false,false,false,false,false,false] rfl rfl (dC iD.out (by kernel_rfl)) (fun _ _ _ h=>h) (Or.inl ⟨by rfl,?_⟩) ?_ ?_
             rotate_left
             ·intro w'
              go_simp
              with_reducible rfl
             rotate_left
             ·simp only [Act.put,List.setIfInBounds_toArray,List.set_cons_zero,List.set_cons_succ,aZ,bf]
              rfl
             refine bU (i:=14) (N:=some 119) (v:=?_) (a':=?_) #[true,true,true,true,true,true,true,true,true,true,true,true,true,true,true,false,false,false,false,false,false,false,false,false,false,false,false,false] rfl rfl (dC iD.out (by kernel_rfl)) (fun _ _ _ h=>h) (Or.inl ⟨by rfl,?_⟩) ?_ ?_
             rotate_left
             ·intro w'
              go_simp
              with_reducible rfl
             rotate_left
             ·simp only [Act.put,List.setIfInBounds_toArray,List.set_cons_zero,List.set_cons_succ,aZ,bf]
              rfl
             refine bU (i:=16) (N:=some 121) (v:=?_) (a':=?_) #[true,true,true,true,true,true,true,true,true,true,true,true,true,true,true,false,true,false,false,false,false,false,false,false,false,false,false,false] rfl rfl (dC iD.out (by kernel_rfl)) (fun _ _ _ h=>h) (Or.inl ⟨by rfl,?_⟩) ?_ ?_
             rotate_left
             ·intro w'
              go_simp
              with_reducible rfl
             rotate_left
             ·simp only [Act.put,List.setIfInBounds_toArray,List.set_cons_zero,List.set_cons_succ,aZ,bf]
              rfl
             refine bU (i:=20) (N:=some 125) (v:=?_) (a':=?_) #[true,true,true,true,true,true,true,true,true,true,true,true,true,true,true,false,true,false,false,false,true,false,false,false,false,false,false,false] rfl rfl (dC iD.out (by kernel_rfl)) (fun _ _ _ h=>h) (Or.inl ⟨by rfl,?_⟩) ?_ ?_
             rotate_left
             ·intro w'
              go_simp
              with_reducible rfl
             rotate_left
             ·simp only [Act.put,List.setIfInBounds_toArray,List.set_cons_zero,List.set_cons_succ,aZ,bf]
              rfl
             refine bU (i:=23) (N:=some 128) (v:=?_) (a':=?_) #[true,true,true,true,true,true,true,true,true,true,true,true,true,true,true,false,true,false,false,false,true,false,false,true,false,false,false,false] rfl rfl (dC iD.out (by kernel_rfl)) (fun _ _ _ h=>h) (Or.inl ⟨by rfl,?_⟩) ?_ ?_
             rotate_left
             ·intro w'
              go_simp
              with_reducible rfl
             rotate_left
             ·simp only [Act.put,List.setIfInBounds_toArray,List.set_cons_zero,List.set_cons_succ,aZ,bf]
              rfl
             refine gB (i:=15) (N:=some 120) (v:=?_) (a':=?_) #[true,true,true,true,true,true,true,true,true,true,true,true,true,true,true,true,true,false,false,false,true,false,false,true,false,false,false,false] rfl rfl (gJ iD.out wX.out (by kernel_rfl)) (fun _ _ _ h=>h) (Or.inl ⟨by rfl,?_⟩) hHeld ?_ ?_
             rotate_left
             ·rintro w' ⟨s0,s1,s2,s3,s4,s5,s6,s7,s8,s9,s10,s11,s12,s13,Lh,s15,s16⟩
              go_simp
              with_reducible rfl
             rotate_left
             ·simp only [Act.put,List.setIfInBounds_toArray,List.set_cons_zero,List.set_cons_succ,aZ,bf]
              rfl
             refine bU (i:=17) (N:=some 122) (v:=?_) (a':=?_) #[true,true,true,true,true,true,true,true,true,true,true,true,true,true,true,true,true,true,false,false,true,false,false,true,false,false,false,false] rfl rfl (dC iD.out (by kernel_rfl)) (fun _ _ _ h=>h) (Or.inl ⟨by rfl,?_⟩) ?_ ?_
             rotate_left
             ·intro w'
              go_simp
              with_reducible rfl
             rotate_left
             ·simp only [Act.put,List.setIfInBounds_toArray,List.set_cons_zero,List.set_cons_succ,aZ,bf]
              rfl
             refine bU (i:=18) (N:=some 123) (v:=?_) (a':=?_) #[true,true,true,true,true,true,true,true,true,true,true,true,true,true,true,true,true,true,true,false,true,false,false,true,false,false,false,false] rfl rfl (dC iD.out (by kernel_rfl)) (fun _ _ _ h=>h) (Or.inl ⟨by rfl,?_⟩) ?_ ?_
             rotate_left
             ·intro w'
              go_simp
              with_reducible rfl
             rotate_left
             ·simp only [Act.put,List.setIfInBounds_toArray,List.set_cons_zero,List.set_cons_succ,aZ,bf]
              rfl
             refine gB (i:=19) (N:=some 124) (v:=?_) (a':=?_) #[true,true,true,true,true,true,true,true,true,true,true,true,true,true,true,true,true,true,true,true,true,false,false,true,false,false,false,false] rfl rfl (gJ iD.out wX.out (by kernel_rfl)) (fun _ _ _ h=>h) (Or.inl ⟨by rfl,?_⟩) hHeld ?_ ?_
             rotate_left
             ·rintro w' ⟨s0,s1,s2,s3,s4,s5,s6,s7,s8,s9,s10,s11,s12,s13,Lh,s15,s16⟩
              go_simp
              with_reducible rfl
             rotate_left
             ·simp only [Act.put,List.setIfInBounds_toArray,List.set_cons_zero,List.set_cons_succ,aZ,bf]
              rfl
             refine gB (i:=21) (N:=some 126) (v:=?_) (a':=?_) #[true,true,true,true,true,true,true,true,true,true,true,true,true,true,true,true,true,true,true,true,true,true,false,true,false,false,false,false] rfl rfl (gJ iD.out wX.out (by kernel_rfl)) (fun _ _ _ h=>h) (Or.inl ⟨by rfl,?_⟩) hHeld ?_ ?_
             rotate_left
             ·rintro w' ⟨s0,s1,s2,s3,s4,s5,s6,s7,s8,s9,s10,s11,s12,s13,Lh,s15,s16⟩
              go_simp
              with_reducible rfl
             rotate_left
             ·simp only [Act.put,List.setIfInBounds_toArray,List.set_cons_zero,List.set_cons_succ,aZ,bf]
              rfl
             refine bU (i:=22) (N:=some 127) (v:=?_) (a':=?_) #[true,true,true,true,true,true,true,true,true,true,true,true,true,true,true,true,true,true,true,true,true,true,true,true,false,false,false,false] rfl rfl (dC iD.out (by kernel_rfl)) (fun _ _ _ h=>h) (Or.inl ⟨by rfl,?_⟩) ?_ ?_
             rotate_left
             ·intro w'
              go_simp
              with_reducible rfl
             rotate_left
             ·simp only [Act.put,List.setIfInBounds_toArray,List.set_cons_zero,List.set_cons_succ,aZ,bf]
              rfl
             refine gB (i:=24) (N:=some 129) (v:=?_) (a':=?_) #[true,true,true,true,true,true,true,true,true,true,true,true,true,true,true,true,true,true,true,true,true,true,true,true,true,false,false,false] rfl rfl (gJ iD.out wX.out (by kernel_rfl)) (fun _ _ _ h=>h) (Or.inl ⟨by rfl,?_⟩) hHeld ?_ ?_
             rotate_left
             ·rintro w' ⟨s0,s1,s2,s3,s4,s5,s6,s7,s8,s9,s10,s11,s12,s13,Lh,s15,s16⟩
              go_simp
              with_reducible rfl
             rotate_left
             ·simp only [Act.put,List.setIfInBounds_toArray,List.set_cons_zero,List.set_cons_succ,aZ,bf]
              rfl
             refine o7 (i:=25) (N:=some 130) #[true,true,true,true,true,true,true,true,true,true,true,true,true,true,true,true,true,true,true,true,true,true,true,true,true,true,false,false] rfl rfl (l9 iD.out (by kernel_rfl)) (by decide) (fun K hK=>?_)
             refine kP Try.func78 (by kernel_rfl) rfl #[.agg #[.int .i64 ((bn aM ik).f1.f0),.int .i64 ((bn aM ik).f1.f1)],.int .i64 (wrap64 (-aJ)),.int .i64 aJ] (by rfl) rfl rfl (by (try simp only [List.map_toArray,List.map_cons,List.map_nil]);first|done|rfl|(simp only [List.length_drop,List.length_take];rfl)) ?_
             with_reducible refine (cK.calls ((bn aM ik).f1.f0) ((bn aM ik).f1.f1) (wrap64 (-aJ)) aJ true _ A41.out).mono ?_
             rintro e w46 ⟨rfl,hb⟩
             refine ⟨_,rfl,?_⟩
             have bB:=aj.mk (ax (g:=bR) (o:=.cells #[.int .i64 aC,.int .i64 aD,.int .i64 aG,.int .i64 aH,.int .i64 aN,.int .i64 aK,.int .i64 aJ,.slice bG aX.length bH,.slice (some jD) aM.length bM] 25 (0,0)) (by (with_reducible repeat (first|refine ag ?_ _|refine ai ?_|refine af ?_ _));exact aV.out) hb)
             have bC:=aj.mk (ay (by repeat (first|(with_reducible first|exact HB.out|apply au|apply ah|apply av|refine ak ?_ oO.out)|exact HB.out)) hb)
             clear aV
             clear HB
             have aV:=bB
             have HB:=bC
             clear bB bC
             (try clear hb)
             (try clear hb2)
             (try clear hk)
             (try clear hi)
             refine hK.out _ _ ⟨(aa aV.out 0).trans rfl,(aa aV.out 1).trans rfl,(aa aV.out 2).trans rfl,(aa aV.out 3).trans rfl,(aa aV.out 4).trans rfl,(aa aV.out 5).trans rfl,(aa aV.out 6).trans rfl,(aa aV.out 7).trans rfl,(aa aV.out 8).trans rfl,((HB.out.cell (World.block_lt_of_cell? w _ nL)).trans nL),((HB.out.cell (World.block_lt_of_cell? w _ nK)).trans nK),((HB.out.cell (World.block_lt_of_cell? w _ nJ)).trans nJ),((HB.out.cell (World.block_lt_of_cell? w _ nI)).trans nI),((HB.out.cell (World.block_lt_of_cell? w _ q9)).trans q9),((HB.out.cell (World.block_lt_of_cell? w _ qZ)).trans qZ),((HB.out.cell (World.block_lt_of_cell? w _ qY)).trans qY),((HB.out.cell (World.block_lt_of_cell? w _ qX)).trans qX)⟩ (fun hHeld=>?_)
             clear hK K
             refine iP (a':=?_) ?_ ?_
             rotate_left
             ·show Act.put _ (some 130) _ = _
              simp only [Act.put,List.setIfInBounds_toArray,List.set_cons_zero,List.set_cons_succ,aZ,bf]
              rfl
             refine bU (i:=26) (N:=some 131) (v:=?_) (a':=?_) #[true,true,true,true,true,true,true,true,true,true,true,true,true,true,true,true,true,true,true,true,true,true,true,true,true,true,true,false] rfl rfl (dC iD.out (by kernel_rfl)) (fun _ _ _ h=>h) (Or.inl ⟨by rfl,?_⟩) ?_ ?_
             rotate_left
             ·intro w'
              go_simp
              with_reducible rfl
             rotate_left
             ·simp only [Act.put,List.setIfInBounds_toArray,List.set_cons_zero,List.set_cons_succ,aZ,bf]
              rfl
             refine bU (i:=27) (N:=some 132) (v:=?_) (a':=?_) #[true,true,true,true,true,true,true,true,true,true,true,true,true,true,true,true,true,true,true,true,true,true,true,true,true,true,true,true] rfl rfl (dC iD.out (by kernel_rfl)) (fun _ _ _ h=>h) (Or.inl ⟨by rfl,?_⟩) ?_ ?_
             rotate_left
             ·intro w'
              go_simp
              with_reducible rfl
             rotate_left
             ·simp only [Act.put,List.setIfInBounds_toArray,List.set_cons_zero,List.set_cons_succ,aZ,bf]
              rfl
             refine tT (yh iD.out (by kernel_rfl)) ?_
             try go_wp2
             go_roundg k3
             case measure=>have:=HJ1.out;have:=aoH.out;have:=ZI.out;omega
             case rel=>exact ⟨(wrap64 (ik+1)),(by first|rfl|(simp;done)|(simp [*];done)),H',⟨by have:=HJ1.out;have:=aoH.out;have:=ZI.out;omega⟩,⟨by (with_reducible repeat (first|refine ag ?_ _|refine ai ?_|refine af ?_ _));exact aV.out⟩,⟨by repeat (first|(with_reducible first|exact HB.out|apply au|apply ah|apply av|refine ak ?_ oO.out)|exact HB.out)⟩⟩
            ·replace c42:=Bool.eq_false_iff.mpr c42
             subst c42
             have H1:(some 2) = some r:=by rw [if_neg (show ¬ (false = true) by decide)] at H;exact H
             clear H
             have H:=H1
             clear H1
             obtain rfl:=Option.some.inj H
             have JR:wr.cell? ⟨bR,0,none⟩ = some (.int .i64 aC):=(aa aV.out 0).trans rfl
             have JS:wr.cell? ⟨bR,1,none⟩ = some (.int .i64 aD):=(aa aV.out 1).trans rfl
             have JU:wr.cell? ⟨bR,2,none⟩ = some (.int .i64 aG):=(aa aV.out 2).trans rfl
             have JV:wr.cell? ⟨bR,3,none⟩ = some (.int .i64 aH):=(aa aV.out 3).trans rfl
             have aeM:wr.cell? ⟨bR,4,none⟩ = some (.int .i64 aN):=(aa aV.out 4).trans rfl
             have aeN:wr.cell? ⟨bR,5,none⟩ = some (.int .i64 aK):=(aa aV.out 5).trans rfl
             have aeO:wr.cell? ⟨bR,6,none⟩ = some (.int .i64 aJ):=(aa aV.out 6).trans rfl
             have au2:wr.cell? ⟨bR,7,none⟩ = some (.slice bG aX.length bH):=(aa aV.out 7).trans rfl
             have au3:wr.cell? ⟨bR,8,none⟩ = some (.slice bO aM.length bM):=(aa aV.out 8).trans rfl
             have JW:=ae aV.out 0
             have JX:=ae aV.out 1
             have JY:=ae aV.out 2
             have JZ:=ae aV.out 3
             have aeP:=ae aV.out 4
             have aeQ:=ae aV.out 5
             have aeR:=ae aV.out 6
             have au4:=ae aV.out 7
             have au5:=ae aV.out 8
             try go_wp2
             have bB:=aj.mk (ai aV.out)
             have bC:=aj.mk (av HB.out)
             clear aV
             clear HB
             have aV:=bB
             have HB:=bC
             clear bB bC
             have Lx:0≤(ik:Int):=of_decide_eq_true (by first|(with_reducible assumption)|assumption)
             have LA:ik < (aM.length:Int):=of_decide_eq_true (by first|(with_reducible assumption)|assumption)
             obtain ⟨jD,e108,oh,om,oo,oq⟩:=yE jm.out ik Lx LA
             have nI:=oq
             have nJ:=oo
             have nK:=om
             have nL:=oh
             cases e108
             replace oh:=(HB.out.cell (World.block_lt_of_cell? w _ oh)).trans oh
             replace om:=(HB.out.cell (World.block_lt_of_cell? w _ om)).trans om
             replace oo:=(HB.out.cell (World.block_lt_of_cell? w _ oo)).trans oo
             replace oq:=(HB.out.cell (World.block_lt_of_cell? w _ oq)).trans oq
             replace Lx:=eq_true Lx
             replace LA:=eq_true LA
             have Tw:0≤(ik:Int):=of_decide_eq_true (by first|(with_reducible assumption)|assumption)
             have Tx:ik < (aM.length:Int):=of_decide_eq_true (by first|(with_reducible assumption)|assumption)
             obtain ⟨aac,ahL,tV,tX,tY,tZ⟩:=yE jm.out ik Tw Tx
             have qX:=tZ
             have qY:=tY
             have qZ:=tX
             have q9:=tV
             obtain rfl:jD = aac:=(by injection ahL)
             replace tV:=(HB.out.cell (World.block_lt_of_cell? w _ tV)).trans tV
             replace tX:=(HB.out.cell (World.block_lt_of_cell? w _ tX)).trans tX
             replace tY:=(HB.out.cell (World.block_lt_of_cell? w _ tY)).trans tY
             replace tZ:=(HB.out.cell (World.block_lt_of_cell? w _ tZ)).trans tZ
             replace Tw:=eq_true Tw
             replace Tx:=eq_true Tx
             refine qg (n:=28) (S:=fun w'=>w'.cell? ⟨bR,0,none⟩ = some (.int .i64 aC)∧w'.cell? ⟨bR,1,none⟩ = some (.int .i64 aD)∧w'.cell? ⟨bR,2,none⟩ = some (.int .i64 aG)∧w'.cell? ⟨bR,3,none⟩ = some (.int .i64 aH)∧w'.cell? ⟨bR,4,none⟩ = some (.int .i64 aN)∧w'.cell? ⟨bR,5,none⟩ = some (.int .i64 aK)∧w'.cell? ⟨bR,6,none⟩ = some (.int .i64 aJ)∧w'.cell? ⟨bR,7,none⟩ = some (.slice bG aX.length bH)∧w'.cell? ⟨bR,8,none⟩ = some (.slice (some jD) aM.length bM)∧w'.cell? (jD.add ((ik).toNat*4)) = some (.int .i64 ((bn aM ik).f0.f0))∧w'.cell? ⟨(jD.add ((ik).toNat*4)).block,(jD.add ((ik).toNat*4)).off+1,none⟩ = some (.int .i64 ((bn aM ik).f0.f1))∧w'.cell? ⟨(jD.add ((ik).toNat*4)).block,(jD.add ((ik).toNat*4)).off+2,none⟩ = some (.int .i64 ((bn aM ik).f1.f0))∧w'.cell? ⟨(jD.add ((ik).toNat*4)).block,(jD.add ((ik).toNat*4)).off+3,none⟩ = some (.int .i64 ((bn aM ik).f1.f1))∧w'.cell? (jD.add ((ik).toNat*4)) = some (.int .i64 ((bn aM ik).f0.f0))∧w'.cell? ⟨(jD.add ((ik).toNat*4)).block,(jD.add ((ik).toNat*4)).off+1,none⟩ = some (.int .i64 ((bn aM ik).f0.f1))∧w'.cell? ⟨(jD.add ((ik).toNat*4)).block,(jD.add ((ik).toNat*4)).off+2,none⟩ = some (.int .i64 ((bn aM ik).f1.f0))∧w'.cell? ⟨(jD.add ((ik).toNat*4)).block,(jD.add ((ik).toNat*4)).off+3,none⟩ = some (.int .i64 ((bn aM ik).f1.f1))) (ds:=[]) #[false,false,false,false,false,false,false,false,false,false,false,false,false,false,false,false,false,false,false,false,false,false,false,false,false,false,false,false] (by kernel_rfl) rfl rfl ⟨(aa aV.out 0).trans rfl,(aa aV.out 1).trans rfl,(aa aV.out 2).trans rfl,(aa aV.out 3).trans rfl,(aa aV.out 4).trans rfl,(aa aV.out 5).trans rfl,(aa aV.out 6).trans rfl,(aa aV.out 7).trans rfl,(aa aV.out 8).trans rfl,((HB.out.cell (World.block_lt_of_cell? w _ nL)).trans nL),((HB.out.cell (World.block_lt_of_cell? w _ nK)).trans nK),((HB.out.cell (World.block_lt_of_cell? w _ nJ)).trans nJ),((HB.out.cell (World.block_lt_of_cell? w _ nI)).trans nI),((HB.out.cell (World.block_lt_of_cell? w _ q9)).trans q9),((HB.out.cell (World.block_lt_of_cell? w _ qZ)).trans qZ),((HB.out.cell (World.block_lt_of_cell? w _ qY)).trans qY),((HB.out.cell (World.block_lt_of_cell? w _ qX)).trans qX)⟩ (fun hHeld=>?_);refine si aI.ahI aI.aaa (fun iD wX=>?_)
             generalize wr.drew = WR at aV HB oh om oo oq tV tX tY tZ hHeld ⊢
             refine bU (i:=0) (N:=some 105) (v:=?_) (a':=?_) #[true,false,false,false,false,false,false,false,false,false,false,false,false,false,false,false,false,false,false,false,false,false,false,false,false,false,false,false] rfl rfl (dC iD.out (by kernel_rfl)) (fun _ _ _ h=>h) (Or.inl ⟨by rfl,?_⟩) ?_ ?_
             rotate_left
             ·intro w'
              go_simp
              with_reducible rfl
             rotate_left
             ·simp only [Act.put,List.setIfInBounds_toArray,List.set_cons_zero,List.set_cons_succ,aZ,bf]
              rfl
             refine bU (i:=2) (N:=some 107) (v:=?_) (a':=?_) #[true,false,true,false,false,false,false,false,false,false,false,false,false,false,false,false,false,false,false,false,false,false,false,false,false,false,false,false] rfl rfl (dC iD.out (by kernel_rfl)) (fun _ _ _ h=>h) (Or.inl ⟨by rfl,?_⟩) ?_ ?_
             rotate_left
             ·intro w'
              go_simp
              with_reducible rfl
             rotate_left
             ·simp only [Act.put,List.setIfInBounds_toArray,List.set_cons_zero,List.set_cons_succ,aZ,bf]
              rfl
             refine bU (i:=6) (N:=some 111) (v:=?_) (a':=?_) #[true,false,true,false,false,false,true,false,false,false,false,false,false,false,false,false,false,false,false,false,false,false,false,false,false,false,false,false] rfl rfl (dC iD.out (by kernel_rfl)) (fun _ _ _ h=>h) (Or.inl ⟨by rfl,?_⟩) ?_ ?_
             rotate_left
             ·intro w'
              go_simp
              with_reducible rfl
             rotate_left
             ·simp only [Act.put,List.setIfInBounds_toArray,List.set_cons_zero,List.set_cons_succ,aZ,bf]
              rfl
             refine bU (i:=9) (N:=some 114) (v:=?_) (a':=?_) #[true,false,true,false,false,false,true,false,false,true,false,false,false,false,false,false,false,false,false,false,false,false,false,false,false,false,false,false] rfl rfl (dC iD.out (by kernel_rfl)) (fun _ _ _ h=>h) (Or.inl ⟨by rfl,?_⟩) ?_ ?_
             rotate_left
             ·intro w'
              go_simp
              with_reducible rfl
             rotate_left
             ·simp only [Act.put,List.setIfInBounds_toArray,List.set_cons_zero,List.set_cons_succ,aZ,bf]
              rfl
             refine gB (i:=1) (N:=some 106) (v:=?_) (a':=?_) #[true,true,true,false,false,false,true,false,false,true,false,false,false,false,false,false,false,false,false,false,false,false,false,false,false,false,false,false] rfl rfl (gJ iD.out wX.out (by kernel_rfl)) (fun _ _ _ h=>h) (Or.inl ⟨by rfl,?_⟩) hHeld ?_ ?_
             rotate_left
             ·rintro w' ⟨s0,s1,s2,s3,s4,s5,s6,s7,s8,s9,s10,s11,s12,s13,Lh,s15,s16⟩
              go_simp
              with_reducible rfl
             rotate_left
             ·simp only [Act.put,List.setIfInBounds_toArray,List.set_cons_zero,List.set_cons_succ,aZ,bf]
              rfl
             refine bU (i:=3) (N:=some 108) (v:=?_) (a':=?_) #[true,true,true,true,false,false,true,false,false,true,false,false,false,false,false,false,false,false,false,false,false,false,false,false,false,false,false,false] rfl rfl (dC iD.out (by kernel_rfl)) (fun _ _ _ h=>h) (Or.inl ⟨by rfl,?_⟩) ?_ ?_
             rotate_left
             ·intro w'
              go_simp
              with_reducible rfl
             rotate_left
             ·simp only [Act.put,List.setIfInBounds_toArray,List.set_cons_zero,List.set_cons_succ,aZ,bf]
              rfl
             refine bU (i:=4) (N:=some 109) (v:=?_) (a':=?_) #[true,true,true,true,true,false,true,false,false,true,false,false,false,false,false,false,false,false,false,false,false,false,false,false,false,false,false,false] rfl rfl (dC iD.out (by kernel_rfl)) (fun _ _ _ h=>h) (Or.inl ⟨by rfl,?_⟩) ?_ ?_
             rotate_left
             ·intro w'
              go_simp
              with_reducible rfl
             rotate_left
             ·simp only [Act.put,List.setIfInBounds_toArray,List.set_cons_zero,List.set_cons_succ,aZ,bf]
              rfl
             refine gB (i:=5) (N:=some 110) (v:=?_) (a':=?_) #[true,true,true,true,true,true,true,false,false,true,false,false,false,false,false,false,false,false,false,false,false,false,false,false,false,false,false,false] rfl rfl (gJ iD.out wX.out (by kernel_rfl)) (fun _ _ _ h=>h) (Or.inl ⟨by rfl,?_⟩) hHeld ?_ ?_
             rotate_left
             ·rintro w' ⟨s0,s1,s2,s3,s4,s5,s6,s7,s8,s9,s10,s11,s12,s13,Lh,s15,s16⟩
              go_simp
              with_reducible rfl
             rotate_left
             ·simp only [Act.put,List.setIfInBounds_toArray,List.set_cons_zero,List.set_cons_succ,aZ,bf]
              rfl
             refine gB (i:=7) (N:=some 112) (v:=?_) (a':=?_) #[true,true,true,true,true,true,true,true,false,true,false,false,false,false,false,false,false,false,false,false,false,false,false,false,false,false,false,false] rfl rfl (gJ iD.out wX.out (by kernel_rfl)) (fun _ _ _ h=>h) (Or.inl ⟨by rfl,?_⟩) hHeld ?_ ?_
             rotate_left
             ·rintro w' ⟨s0,s1,s2,s3,s4,s5,s6,s7,s8,s9,s10,s11,s12,s13,Lh,s15,s16⟩
              go_simp
              with_reducible rfl
             rotate_left
             ·simp only [Act.put,List.setIfInBounds_toArray,List.set_cons_zero,List.set_cons_succ,aZ,bf]
              rfl
             refine bU (i:=8) (N:=some 113) (v:=?_) (a':=?_) #[true,true,true,true,true,true,true,true,true,true,false,false,false,false,false,false,false,false,false,false,false,false,false,false,false,false,false,false] rfl rfl (dC iD.out (by kernel_rfl)) (fun _ _ _ h=>h) (Or.inl ⟨by rfl,?_⟩) ?_ ?_
             rotate_left
             ·intro w'
              go_simp
              with_reducible rfl
             rotate_left
             ·simp only [Act.put,List.setIfInBounds_toArray,List.set_cons_zero,List.set_cons_succ,aZ,bf]
              rfl
             refine gB (i:=10) (N:=some 115) (v:=?_) (a':=?_) #[true,true,true,true,true,true,true,true,true,true,true,false,false,false,false,false,false,false,false,false,false,false,false,false,false,false,false,false] rfl rfl (gJ iD.out wX.out (by kernel_rfl)) (fun _ _ _ h=>h) (Or.inl ⟨by rfl,?_⟩) hHeld ?_ ?_
             rotate_left
             ·rintro w' ⟨s0,s1,s2,s3,s4,s5,s6,s7,s8,s9,s10,s11,s12,s13,Lh,s15,s16⟩
              go_simp
              with_reducible rfl
             rotate_left
             ·simp only [Act.put,List.setIfInBounds_toArray,List.set_cons_zero,List.set_cons_succ,aZ,bf]
              rfl
             refine o7 (i:=11) (N:=some 116) #[true,true,true,true,true,true,true,true,true,true,true,true,false,false,false,false,false,false,false,false,false,false,false,false,false,false,false,false] rfl rfl (l9 iD.out (by kernel_rfl)) (by decide) (fun K hK=>?_)
             refine kP Try.func78 (by kernel_rfl) rfl #[.agg #[.int .i64 ((bn aM ik).f0.f0),.int .i64 ((bn aM ik).f0.f1)],.int .i64 (wrap64 (-aJ)),.int .i64 aJ] (by rfl) rfl rfl (by (try simp only [List.map_toArray,List.map_cons,List.map_nil]);first|done|rfl|(simp only [List.length_drop,List.length_take];rfl)) ?_
             with_reducible refine (cK.calls ((bn aM ik).f0.f0) ((bn aM ik).f0.f1) (wrap64 (-aJ)) aJ true _ A39.out).mono ?_
             rintro e Zf ⟨rfl,hb⟩
             refine ⟨_,rfl,?_⟩
             have bB:=aj.mk (ax (g:=bR) (o:=.cells #[.int .i64 aC,.int .i64 aD,.int .i64 aG,.int .i64 aH,.int .i64 aN,.int .i64 aK,.int .i64 aJ,.slice bG aX.length bH,.slice (some jD) aM.length bM] 25 (0,0)) (by (with_reducible repeat (first|refine ag ?_ _|refine ai ?_|refine af ?_ _));exact aV.out) hb)
             have bC:=aj.mk (ay (by repeat (first|(with_reducible first|exact HB.out|apply au|apply ah|apply av|refine ak ?_ oO.out)|exact HB.out)) hb)
             clear aV
             clear HB
             have aV:=bB
             have HB:=bC
             clear bB bC
             (try clear hb)
             (try clear hb2)
             (try clear hk)
             (try clear hi)
             refine hK.out _ _ ⟨(aa aV.out 0).trans rfl,(aa aV.out 1).trans rfl,(aa aV.out 2).trans rfl,(aa aV.out 3).trans rfl,(aa aV.out 4).trans rfl,(aa aV.out 5).trans rfl,(aa aV.out 6).trans rfl,(aa aV.out 7).trans rfl,(aa aV.out 8).trans rfl,((HB.out.cell (World.block_lt_of_cell? w _ nL)).trans nL),((HB.out.cell (World.block_lt_of_cell? w _ nK)).trans nK),((HB.out.cell (World.block_lt_of_cell? w _ nJ)).trans nJ),((HB.out.cell (World.block_lt_of_cell? w _ nI)).trans nI),((HB.out.cell (World.block_lt_of_cell? w _ q9)).trans q9),((HB.out.cell (World.block_lt_of_cell? w _ qZ)).trans qZ),((HB.out.cell (World.block_lt_of_cell? w _ qY)).trans qY),((HB.out.cell (World.block_lt_of_cell? w _ qX)).trans qX)⟩ (fun hHeld=>?_)
             clear hK K
             refine iP (a':=?_) ?_ ?_
             rotate_left
             ·show Act.put _ (some 116) _ = _
              simp only [Act.put,List.setIfInBounds_toArray,List.set_cons_zero,List.set_cons_succ,aZ,bf]
              rfl
             refine bU (i:=12) (N:=some 117) (v:=?_) (a':=?_) #[true,true,true,true,true,true,true,true,true,true,true,true,true,false,false,false,false,false,false,false,false,false,false,false,false,false,false,false] rfl rfl (dC iD.out (by kernel_rfl)) (fun _ _ _ h=>h) (Or.inl ⟨by rfl,?_⟩) ?_ ?_
             rotate_left
             ·intro w'
              go_simp
              with_reducible rfl
             rotate_left
             ·simp only [Act.put,List.setIfInBounds_toArray,List.set_cons_zero,List.set_cons_succ,aZ,bf]
              rfl
             refine bU (i:=13) (N:=some 118) (v:=?_) (a':=?_) #[true,true,true,true,true,true,true,true,true,true,true,true,true,true,false,false,false,false,false,false,false,false,false,false,false,false,false,false] rfl rfl (dC iD.out (by kernel_rfl)) (fun _ _ _ h=>h) (Or.inl ⟨by rfl,?_⟩) ?_ ?_
             rotate_left
             ·intro w'
              go_simp
              with_reducible rfl
             rotate_left
             ·simp only [Act.put,List.setIfInBounds_toArray,List.set_cons_zero,List.set_cons_succ,aZ,bf]
              rfl
             refine bU (i:=14) (N:=some 119) (v:=?_) (a':=?_) #[true,true,true,true,true,true,true,true,true,true,true,true,true,true,true,false,false,false,false,false,false,false,false,false,false,false,false,false] rfl rfl (dC iD.out (by kernel_rfl)) (fun _ _ _ h=>h) (Or.inl ⟨by rfl,?_⟩) ?_ ?_
             rotate_left
             ·intro w'
              go_simp
              with_reducible rfl
             rotate_left
             ·simp only [Act.put,List.setIfInBounds_toArray,List.set_cons_zero,List.set_cons_succ,aZ,bf]
              rfl
             refine bU (i:=16) (N:=some 121) (v:=?_) (a':=?_) #[true,true,true,true,true,true,true,true,true,true,true,true,true,true,true,false,true,false,false,false,false,false,false,false,false,false,false,false] rfl rfl (dC iD.out (by kernel_rfl)) (fun _ _ _ h=>h) (Or.inl ⟨by rfl,?_⟩) ?_ ?_
             rotate_left
             ·intro w'
              go_simp
              with_reducible rfl
             rotate_left
             ·simp only [Act.put,List.setIfInBounds_toArray,List.set_cons_zero,List.set_cons_succ,aZ,bf]
              rfl
             refine bU (i:=20) (N:=some 125) (v:=?_) (a':=?_) #[true,true,true,true,true,true,true,true,true,true,true,true,true,true,true,false,true,false,false,false,true,false,false,false,false,false,false,false] rfl rfl (dC iD.out (by kernel_rfl)) (fun _ _ _ h=>h) (Or.inl ⟨by rfl,?_⟩) ?_ ?_
             rotate_left
             ·intro w'
              go_simp
              with_reducible rfl
             rotate_left
             ·simp only [Act.put,List.setIfInBounds_toArray,List.set_cons_zero,List.set_cons_succ,aZ,bf]
              rfl
             refine bU (i:=23) (N:=some 128) (v:=?_) (a':=?_) #[true,true,true,true,true,true,true,true,true,true,true,true,true,true,true,false,true,false,false,false,true,false,false,true,false,false,false,false] rfl rfl (dC iD.out (by kernel_rfl)) (fun _ _ _ h=>h) (Or.inl ⟨by rfl,?_⟩) ?_ ?_
             rotate_left
             ·intro w'
              go_simp
              with_reducible rfl
             rotate_left
             ·simp only [Act.put,List.setIfInBounds_toArray,List.set_cons_zero,List.set_cons_succ,aZ,bf]
              rfl
             refine gB (i:=15) (N:=some 120) (v:=?_) (a':=?_) #[true,true,true,true,true,true,true,true,true,true,true,true,true,true,true,true,true,false,false,false,true,false,false,true,false,false,false,false] rfl rfl (gJ iD.out wX.out (by kernel_rfl)) (fun _ _ _ h=>h) (Or.inl ⟨by rfl,?_⟩) hHeld ?_ ?_
             rotate_left
             ·rintro w' ⟨s0,s1,s2,s3,s4,s5,s6,s7,s8,s9,s10,s11,s12,s13,Lh,s15,s16⟩
              go_simp
              with_reducible rfl
             rotate_left
             ·simp only [Act.put,List.setIfInBounds_toArray,List.set_cons_zero,List.set_cons_succ,aZ,bf]
              rfl
             refine bU (i:=17) (N:=some 122) (v:=?_) (a':=?_) #[true,true,true,true,true,true,true,true,true,true,true,true,true,true,true,true,true,true,false,false,true,false,false,true,false,false,false,false] rfl rfl (dC iD.out (by kernel_rfl)) (fun _ _ _ h=>h) (Or.inl ⟨by rfl,?_⟩) ?_ ?_
             rotate_left
             ·intro w'
              go_simp
              with_reducible rfl
             rotate_left
             ·simp only [Act.put,List.setIfInBounds_toArray,List.set_cons_zero,List.set_cons_succ,aZ,bf]
              rfl
             refine bU (i:=18) (N:=some 123) (v:=?_) (a':=?_) #[true,true,true,true,true,true,true,true,true,true,true,true,true,true,true,true,true,true,true,false,true,false,false,true,false,false,false,false] rfl rfl (dC iD.out (by kernel_rfl)) (fun _ _ _ h=>h) (Or.inl ⟨by rfl,?_⟩) ?_ ?_
             rotate_left
             ·intro w'
              go_simp
              with_reducible rfl
             rotate_left
             ·simp only [Act.put,List.setIfInBounds_toArray,List.set_cons_zero,List.set_cons_succ,aZ,bf]
              rfl
             refine gB (i:=19) (N:=some 124) (v:=?_) (a':=?_) #[true,true,true,true,true,true,true,true,true,true,true,true,true,true,true,true,true,true,true,true,true,false,false,true,false,false,false,false] rfl rfl (gJ iD.out wX.out (by kernel_rfl)) (fun _ _ _ h=>h) (Or.inl ⟨by rfl,?_⟩) hHeld ?_ ?_
             rotate_left
             ·rintro w' ⟨s0,s1,s2,s3,s4,s5,s6,s7,s8,s9,s10,s11,s12,s13,Lh,s15,s16⟩
              go_simp
              with_reducible rfl
             rotate_left
             ·simp only [Act.put,List.setIfInBounds_toArray,List.set_cons_zero,List.set_cons_succ,aZ,bf]
              rfl
             refine gB (i:=21) (N:=some 126) (v:=?_) (a':=?_) #[true,true,true,true,true,true,true,true,true,true,true,true,true,true,true,true,true,true,true,true,true,true,false,true,false,false,false,false] rfl rfl (gJ iD.out wX.out (by kernel_rfl)) (fun _ _ _ h=>h) (Or.inl ⟨by rfl,?_⟩) hHeld ?_ ?_
             rotate_left
             ·rintro w' ⟨s0,s1,s2,s3,s4,s5,s6,s7,s8,s9,s10,s11,s12,s13,Lh,s15,s16⟩
              go_simp
              with_reducible rfl
             rotate_left
             ·simp only [Act.put,List.setIfInBounds_toArray,List.set_cons_zero,List.set_cons_succ,aZ,bf]
              rfl
             refine bU (i:=22) (N:=some 127) (v:=?_) (a':=?_) #[true,true,true,true,true,true,true,true,true,true,true,true,true,true,true,true,true,true,true,true,true,true,true,true,false,false,false,false] rfl rfl (dC iD.out (by kernel_rfl)) (fun _ _ _ h=>h) (Or.inl ⟨by rfl,?_⟩) ?_ ?_
             rotate_left
             ·intro w'
              go_simp
              with_reducible rfl
             rotate_left
             ·simp only [Act.put,List.setIfInBounds_toArray,List.set_cons_zero,List.set_cons_succ,aZ,bf]
              rfl
             refine gB (i:=24) (N:=some 129) (v:=?_) (a':=?_) #[true,true,true,true,true,true,true,true,true,true,true,true,true,true,true,true,true,true,true,true,true,true,true,true,true,false,false,false] rfl rfl (gJ iD.out wX.out (by kernel_rfl)) (fun _ _ _ h=>h) (Or.inl ⟨by rfl,?_⟩) hHeld ?_ ?_
             rotate_left
             ·rintro w' ⟨s0,s1,s2,s3,s4,s5,s6,s7,s8,s9,s10,s11,s12,s13,Lh,s15,s16⟩
              go_simp
              with_reducible rfl
             rotate_left
             ·simp only [Act.put,List.setIfInBounds_toArray,List.set_cons_zero,List.set_cons_succ,aZ,bf]
              rfl
             refine o7 (i:=25) (N:=some 130) #[true,true,true,true,true,true,true,true,true,true,true,true,true,true,true,true,true,true,true,true,true,true,true,true,true,true,false,false] rfl rfl (l9 iD.out (by kernel_rfl)) (by decide) (fun K hK=>?_)
             refine kP Try.func78 (by kernel_rfl) rfl #[.agg #[.int .i64 ((bn aM ik).f1.f0),.int .i64 ((bn aM ik).f1.f1)],.int .i64 (wrap64 (-aJ)),.int .i64 aJ] (by rfl) rfl rfl (by (try simp only [List.map_toArray,List.map_cons,List.map_nil]);first|done|rfl|(simp only [List.length_drop,List.length_take];rfl)) ?_
             with_reducible refine (cK.calls ((bn aM ik).f1.f0) ((bn aM ik).f1.f1) (wrap64 (-aJ)) aJ false _ A41.out).mono ?_
             rintro e w50 ⟨rfl,hb⟩
             refine ⟨_,rfl,?_⟩
             have bB:=aj.mk (ax (g:=bR) (o:=.cells #[.int .i64 aC,.int .i64 aD,.int .i64 aG,.int .i64 aH,.int .i64 aN,.int .i64 aK,.int .i64 aJ,.slice bG aX.length bH,.slice (some jD) aM.length bM] 25 (0,0)) (by (with_reducible repeat (first|refine ag ?_ _|refine ai ?_|refine af ?_ _));exact aV.out) hb)
             have bC:=aj.mk (ay (by repeat (first|(with_reducible first|exact HB.out|apply au|apply ah|apply av|refine ak ?_ oO.out)|exact HB.out)) hb)
             clear aV
             clear HB
             have aV:=bB
             have HB:=bC
             clear bB bC
             (try clear hb)
             (try clear hb2)
             (try clear hk)
             (try clear hi)
             refine hK.out _ _ ⟨(aa aV.out 0).trans rfl,(aa aV.out 1).trans rfl,(aa aV.out 2).trans rfl,(aa aV.out 3).trans rfl,(aa aV.out 4).trans rfl,(aa aV.out 5).trans rfl,(aa aV.out 6).trans rfl,(aa aV.out 7).trans rfl,(aa aV.out 8).trans rfl,((HB.out.cell (World.block_lt_of_cell? w _ nL)).trans nL),((HB.out.cell (World.block_lt_of_cell? w _ nK)).trans nK),((HB.out.cell (World.block_lt_of_cell? w _ nJ)).trans nJ),((HB.out.cell (World.block_lt_of_cell? w _ nI)).trans nI),((HB.out.cell (World.block_lt_of_cell? w _ q9)).trans q9),((HB.out.cell (World.block_lt_of_cell? w _ qZ)).trans qZ),((HB.out.cell (World.block_lt_of_cell? w _ qY)).trans qY),((HB.out.cell (World.block_lt_of_cell? w _ qX)).trans qX)⟩ (fun hHeld=>?_)
             clear hK K
             refine iP (a':=?_) ?_ ?_
             rotate_left
             ·show Act.put _ (some 130) _ = _
              simp only [Act.put,List.setIfInBounds_toArray,List.set_cons_zero,List.set_cons_succ,aZ,bf]
              rfl
             refine bU (i:=26) (N:=some 131) (v:=?_) (a':=?_) #[true,true,true,true,true,true,true,true,true,true,true,true,true,true,true,true,true,true,true,true,true,true,true,true,true,true,true,false] rfl rfl (dC iD.out (by kernel_rfl)) (fun _ _ _ h=>h) (Or.inl ⟨by rfl,?_⟩) ?_ ?_
             rotate_left
             ·intro w'
              go_simp
              with_reducible rfl
             rotate_left
             ·simp only [Act.put,List.setIfInBounds_toArray,List.set_cons_zero,List.set_cons_succ,aZ,bf]
              rfl
             refine bU (i:=27) (N:=some 132) (v:=?_) (a':=?_) #[true,true,true,true,true,true,true,true,true,true,true,true,true,true,true,true,true,true,true,true,true,true,true,true,true,true,true,true] rfl rfl (dC iD.out (by kernel_rfl)) (fun _ _ _ h=>h) (Or.inl ⟨by rfl,?_⟩) ?_ ?_
             rotate_left
             ·intro w'
              go_simp
              with_reducible rfl
             rotate_left
             ·simp only [Act.put,List.setIfInBounds_toArray,List.set_cons_zero,List.set_cons_succ,aZ,bf]
              rfl
             refine tT (yh iD.out (by kernel_rfl)) ?_
             try go_wp2
             go_ret
             exact ⟨by first|rfl|(simp [aQ,aT] <;> rfl)|(simp [*,aQ,aT] <;> rfl),by repeat (first|(with_reducible first|exact HB.out|apply au|apply ah|apply av|refine ak ?_ oO.out)|exact HB.out)⟩
           ·replace c40:=Bool.eq_false_iff.mpr c40
            subst c40
            have H1:(some 2) = some r:=by rw [if_neg (show ¬ (false = true) by decide)] at H;exact H
            clear H
            have H:=H1
            clear H1
            obtain rfl:=Option.some.inj H
            have adK:wr.cell? ⟨bR,0,none⟩ = some (.int .i64 aC):=(aa aV.out 0).trans rfl
            have adL:wr.cell? ⟨bR,1,none⟩ = some (.int .i64 aD):=(aa aV.out 1).trans rfl
            have adM:wr.cell? ⟨bR,2,none⟩ = some (.int .i64 aG):=(aa aV.out 2).trans rfl
            have adN:wr.cell? ⟨bR,3,none⟩ = some (.int .i64 aH):=(aa aV.out 3).trans rfl
            have au6:wr.cell? ⟨bR,4,none⟩ = some (.int .i64 aN):=(aa aV.out 4).trans rfl
            have au7:wr.cell? ⟨bR,5,none⟩ = some (.int .i64 aK):=(aa aV.out 5).trans rfl
            have au8:wr.cell? ⟨bR,6,none⟩ = some (.int .i64 aJ):=(aa aV.out 6).trans rfl
            have au9:wr.cell? ⟨bR,7,none⟩ = some (.slice bG aX.length bH):=(aa aV.out 7).trans rfl
            have ava:wr.cell? ⟨bR,8,none⟩ = some (.slice bO aM.length bM):=(aa aV.out 8).trans rfl
            have adO:=ae aV.out 0
            have adP:=ae aV.out 1
            have adQ:=ae aV.out 2
            have adR:=ae aV.out 3
            have avb:=ae aV.out 4
            have avc:=ae aV.out 5
            have avd:=ae aV.out 6
            have ave:=ae aV.out 7
            have avf:=ae aV.out 8
            try go_wp2
            have bB:=aj.mk (ai aV.out)
            have bC:=aj.mk (av HB.out)
            clear aV
            clear HB
            have aV:=bB
            have HB:=bC
            clear bB bC
            have Lx:0≤(ik:Int):=of_decide_eq_true (by first|(with_reducible assumption)|assumption)
            have LA:ik < (aM.length:Int):=of_decide_eq_true (by first|(with_reducible assumption)|assumption)
            obtain ⟨jD,e108,oh,om,oo,oq⟩:=yE jm.out ik Lx LA
            have nI:=oq
            have nJ:=oo
            have nK:=om
            have nL:=oh
            cases e108
            replace oh:=(HB.out.cell (World.block_lt_of_cell? w _ oh)).trans oh
            replace om:=(HB.out.cell (World.block_lt_of_cell? w _ om)).trans om
            replace oo:=(HB.out.cell (World.block_lt_of_cell? w _ oo)).trans oo
            replace oq:=(HB.out.cell (World.block_lt_of_cell? w _ oq)).trans oq
            replace Lx:=eq_true Lx
            replace LA:=eq_true LA
            refine qg (n:=28) (S:=fun w'=>w'.cell? ⟨bR,0,none⟩ = some (.int .i64 aC)∧w'.cell? ⟨bR,1,none⟩ = some (.int .i64 aD)∧w'.cell? ⟨bR,2,none⟩ = some (.int .i64 aG)∧w'.cell? ⟨bR,3,none⟩ = some (.int .i64 aH)∧w'.cell? ⟨bR,4,none⟩ = some (.int .i64 aN)∧w'.cell? ⟨bR,5,none⟩ = some (.int .i64 aK)∧w'.cell? ⟨bR,6,none⟩ = some (.int .i64 aJ)∧w'.cell? ⟨bR,7,none⟩ = some (.slice bG aX.length bH)∧w'.cell? ⟨bR,8,none⟩ = some (.slice (some jD) aM.length bM)∧w'.cell? (jD.add ((ik).toNat*4)) = some (.int .i64 ((bn aM ik).f0.f0))∧w'.cell? ⟨(jD.add ((ik).toNat*4)).block,(jD.add ((ik).toNat*4)).off+1,none⟩ = some (.int .i64 ((bn aM ik).f0.f1))∧w'.cell? ⟨(jD.add ((ik).toNat*4)).block,(jD.add ((ik).toNat*4)).off+2,none⟩ = some (.int .i64 ((bn aM ik).f1.f0))∧w'.cell? ⟨(jD.add ((ik).toNat*4)).block,(jD.add ((ik).toNat*4)).off+3,none⟩ = some (.int .i64 ((bn aM ik).f1.f1))) (ds:=[]) #[false,false,false,false,false,false,false,false,false,false,false,false,false,false,false,false,false,false,false,false,false,false,false,false,false,false,false,false] (by kernel_rfl) rfl rfl ⟨(aa aV.out 0).trans rfl,(aa aV.out 1).trans rfl,(aa aV.out 2).trans rfl,(aa aV.out 3).trans rfl,(aa aV.out 4).trans rfl,(aa aV.out 5).trans rfl,(aa aV.out 6).trans rfl,(aa aV.out 7).trans rfl,(aa aV.out 8).trans rfl,((HB.out.cell (World.block_lt_of_cell? w _ nL)).trans nL),((HB.out.cell (World.block_lt_of_cell? w _ nK)).trans nK),((HB.out.cell (World.block_lt_of_cell? w _ nJ)).trans nJ),((HB.out.cell (World.block_lt_of_cell? w _ nI)).trans nI)⟩ (fun hHeld=>?_);refine si aI.ahI aI.aaa (fun iD wX=>?_)
            generalize wr.drew = w52 at aV HB oh om oo oq hHeld ⊢
            refine bU (i:=0) (N:=some 105) (v:=?_) (a':=?_) #[true,false,false,false,false,false,false,false,false,false,false,false,false,false,false,false,false,false,false,false,false,false,false,false,false,false,false,false] rfl rfl (dC iD.out (by kernel_rfl)) (fun _ _ _ h=>h) (Or.inl ⟨by rfl,?_⟩) ?_ ?_
            rotate_left
            ·intro w'
             go_simp
             with_reducible rfl
            rotate_left
            ·simp only [Act.put,List.setIfInBounds_toArray,List.set_cons_zero,List.set_cons_succ,aZ,bf]
             rfl
            refine bU (i:=2) (N:=some 107) (v:=?_) (a':=?_) #[true,false,true,false,false,false,false,false,false,false,false,false,false,false,false,false,false,false,false,false,false,false,false,false,false,false,false,false] rfl rfl (dC iD.out (by kernel_rfl)) (fun _ _ _ h=>h) (Or.inl ⟨by rfl,?_⟩) ?_ ?_
            rotate_left
            ·intro w'
             go_simp
             with_reducible rfl
            rotate_left
            ·simp only [Act.put,List.setIfInBounds_toArray,List.set_cons_zero,List.set_cons_succ,aZ,bf]
             rfl
            refine bU (i:=6) (N:=some 111) (v:=?_) (a':=?_) #[true,false,true,false,false,false,true,false,false,false,false,false,false,false,false,false,false,false,false,false,false,false,false,false,false,false,false,false] rfl rfl (dC iD.out (by kernel_rfl)) (fun _ _ _ h=>h) (Or.inl ⟨by rfl,?_⟩) ?_ ?_
            rotate_left
            ·intro w'
             go_simp
             with_reducible rfl
            rotate_left
            ·simp only [Act.put,List.setIfInBounds_toArray,List.set_cons_zero,List.set_cons_succ,aZ,bf]
             rfl
            refine bU (i:=9) (N:=some 114) (v:=?_) (a':=?_) #[true,false,true,false,false,false,true,false,false,true,false,false,false,false,false,false,false,false,false,false,false,false,false,false,false,false,false,false] rfl rfl (dC iD.out (by kernel_rfl)) (fun _ _ _ h=>h) (Or.inl ⟨by rfl,?_⟩) ?_ ?_
            rotate_left
            ·intro w'
             go_simp
             with_reducible rfl
            rotate_left
            ·simp only [Act.put,List.setIfInBounds_toArray,List.set_cons_zero,List.set_cons_succ,aZ,bf]
             rfl
            refine gB (i:=1) (N:=some 106) (v:=?_) (a':=?_) #[true,true,true,false,false,false,true,false,false,true,false,false,false,false,false,false,false,false,false,false,false,false,false,false,false,false,false,false] rfl rfl (gJ iD.out wX.out (by kernel_rfl)) (fun _ _ _ h=>h) (Or.inl ⟨by rfl,?_⟩) hHeld ?_ ?_
            rotate_left
            ·rintro w' ⟨s0,s1,s2,s3,s4,s5,s6,s7,s8,s9,s10,s11,s12⟩
             go_simp
             with_reducible rfl
            rotate_left
            ·simp only [Act.put,List.setIfInBounds_toArray,List.set_cons_zero,List.set_cons_succ,aZ,bf]
             rfl
            refine bU (i:=3) (N:=some 108) (v:=?_) (a':=?_) #[true,true,true,true,false,false,true,false,false,true,false,false,false,false,false,false,false,false,false,false,false,false,false,false,false,false,false,false] rfl rfl (dC iD.out (by kernel_rfl)) (fun _ _ _ h=>h) (Or.inl ⟨by rfl,?_⟩) ?_ ?_
            rotate_left
            ·intro w'
             go_simp
             with_reducible rfl
            rotate_left
            ·simp only [Act.put,List.setIfInBounds_toArray,List.set_cons_zero,List.set_cons_succ,aZ,bf]
             rfl
            refine bU (i:=4) (N:=some 109) (v:=?_) (a':=?_) #[true,true,true,true,true,false,true,false,false,true,false,false,false,false,false,false,false,false,false,false,false,false,false,false,false,false,false,false] rfl rfl (dC iD.out (by kernel_rfl)) (fun _ _ _ h=>h) (Or.inl ⟨by rfl,?_⟩) ?_ ?_
            rotate_left
            ·intro w'
             go_simp
             with_reducible rfl
            rotate_left
            ·simp only [Act.put,List.setIfInBounds_toArray,List.set_cons_zero,List.set_cons_succ,aZ,bf]
             rfl
            refine gB (i:=5) (N:=some 110) (v:=?_) (a':=?_) #[true,true,true,true,true,true,true,false,false,true,false,false,false,false,false,false,false,false,false,false,false,false,false,false,false,false,false,false] rfl rfl (gJ iD.out wX.out (by kernel_rfl)) (fun _ _ _ h=>h) (Or.inl ⟨by rfl,?_⟩) hHeld ?_ ?_
            rotate_left
            ·rintro w' ⟨s0,s1,s2,s3,s4,s5,s6,s7,s8,s9,s10,s11,s12⟩
             go_simp
             with_reducible rfl
            rotate_left
            ·simp only [Act.put,List.setIfInBounds_toArray,List.set_cons_zero,List.set_cons_succ,aZ,bf]
             rfl
            refine gB (i:=7) (N:=some 112) (v:=?_) (a':=?_) #[true,true,true,true,true,true,true,true,false,true,false,false,false,false,false,false,false,false,false,false,false,false,false,false,false,false,false,false] rfl rfl (gJ iD.out wX.out (by kernel_rfl)) (fun _ _ _ h=>h) (Or.inl ⟨by rfl,?_⟩) hHeld ?_ ?_
            rotate_left
            ·rintro w' ⟨s0,s1,s2,s3,s4,s5,s6,s7,s8,s9,s10,s11,s12⟩
             go_simp
             with_reducible rfl
            rotate_left
            ·simp only [Act.put,List.setIfInBounds_toArray,List.set_cons_zero,List.set_cons_succ,aZ,bf]
             rfl
            refine bU (i:=8) (N:=some 113) (v:=?_) (a':=?_) #[true,true,true,true,true,true,true,true,true,true,false,false,false,false,false,false,false,false,false,false,false,false,false,false,false,false,false,false] rfl rfl (dC iD.out (by kernel_rfl)) (fun _ _ _ h=>h) (Or.inl ⟨by rfl,?_⟩) ?_ ?_
            rotate_left
            ·intro w'
             go_simp
             with_reducible rfl
            rotate_left
            ·simp only [Act.put,List.setIfInBounds_toArray,List.set_cons_zero,List.set_cons_succ,aZ,bf]
             rfl
            refine gB (i:=10) (N:=some 115) (v:=?_) (a':=?_) #[true,true,true,true,true,true,true,true,true,true,true,false,false,false,false,false,false,false,false,false,false,false,false,false,false,false,false,false] rfl rfl (gJ iD.out wX.out (by kernel_rfl)) (fun _ _ _ h=>h) (Or.inl ⟨by rfl,?_⟩) hHeld ?_ ?_
            rotate_left
            ·rintro w' ⟨s0,s1,s2,s3,s4,s5,s6,s7,s8,s9,s10,s11,s12⟩
             go_simp
             with_reducible rfl
            rotate_left
            ·simp only [Act.put,List.setIfInBounds_toArray,List.set_cons_zero,List.set_cons_succ,aZ,bf]
             rfl
            refine o7 (i:=11) (N:=some 116) #[true,true,true,true,true,true,true,true,true,true,true,true,false,false,false,false,false,false,false,false,false,false,false,false,false,false,false,false] rfl rfl (l9 iD.out (by kernel_rfl)) (by decide) (fun K hK=>?_)
            refine kP Try.func78 (by kernel_rfl) rfl #[.agg #[.int .i64 ((bn aM ik).f0.f0),.int .i64 ((bn aM ik).f0.f1)],.int .i64 (wrap64 (-aJ)),.int .i64 aJ] (by rfl) rfl rfl (by (try simp only [List.map_toArray,List.map_cons,List.map_nil]);first|done|rfl|(simp only [List.length_drop,List.length_take];rfl)) ?_
            with_reducible refine (cK.calls ((bn aM ik).f0.f0) ((bn aM ik).f0.f1) (wrap64 (-aJ)) aJ false _ A39.out).mono ?_
            rintro e Yx ⟨rfl,hb⟩
            refine ⟨_,rfl,?_⟩
            have bB:=aj.mk (ax (g:=bR) (o:=.cells #[.int .i64 aC,.int .i64 aD,.int .i64 aG,.int .i64 aH,.int .i64 aN,.int .i64 aK,.int .i64 aJ,.slice bG aX.length bH,.slice (some jD) aM.length bM] 25 (0,0)) (by (with_reducible repeat (first|refine ag ?_ _|refine ai ?_|refine af ?_ _));exact aV.out) hb)
            have bC:=aj.mk (ay (by repeat (first|(with_reducible first|exact HB.out|apply au|apply ah|apply av|refine ak ?_ oO.out)|exact HB.out)) hb)
            clear aV
            clear HB
            have aV:=bB
            have HB:=bC
            clear bB bC
            (try clear hb)
            (try clear hb2)
            (try clear hk)
            (try clear hi)
            refine hK.out _ _ ⟨(aa aV.out 0).trans rfl,(aa aV.out 1).trans rfl,(aa aV.out 2).trans rfl,(aa aV.out 3).trans rfl,(aa aV.out 4).trans rfl,(aa aV.out 5).trans rfl,(aa aV.out 6).trans rfl,(aa aV.out 7).trans rfl,(aa aV.out 8).trans rfl,((HB.out.cell (World.block_lt_of_cell? w _ nL)).trans nL),((HB.out.cell (World.block_lt_of_cell? w _ nK)).trans nK),((HB.out.cell (World.block_lt_of_cell? w _ nJ)).trans nJ),((HB.out.cell (World.block_lt_of_cell? w _ nI)).trans nI)⟩ (fun hHeld=>?_)
            clear hK K
            refine iP (a':=?_) ?_ ?_
            rotate_left
            ·show Act.put _ (some 116) _ = _
             simp only [Act.put,List.setIfInBounds_toArray,List.set_cons_zero,List.set_cons_succ,aZ,bf]
             rfl
            refine bU (i:=12) (N:=some 117) (v:=?_) (a':=?_) #[true,true,true,true,true,true,true,true,true,true,true,true,true,false,false,false,false,false,false,false,false,false,false,false,false,false,false,false] rfl rfl (dC iD.out (by kernel_rfl)) (fun _ _ _ h=>h) (Or.inl ⟨by rfl,?_⟩) ?_ ?_
            rotate_left
            ·intro w'
             go_simp
             with_reducible rfl
            rotate_left
            ·simp only [Act.put,List.setIfInBounds_toArray,List.set_cons_zero,List.set_cons_succ,aZ,bf]
             rfl
            refine bU (i:=13) (N:=some 118) (v:=?_) (a':=?_) #[true,true,true,true,true,true,true,true,true,true,true,true,true,true,false,false,false,false,false,false,false,false,false,false,false,false,false,false] rfl rfl (dC iD.out (by kernel_rfl)) (fun _ _ _ h=>h) (Or.inl ⟨by rfl,?_⟩) ?_ ?_
            rotate_left
            ·intro w'
             go_simp
             with_reducible rfl
            rotate_left
            ·simp only [Act.put,List.setIfInBounds_toArray,List.set_cons_zero,List.set_cons_succ,aZ,bf]
             rfl
            refine bU (i:=14) (N:=some 119) (v:=undef) (a':=?_) #[true,true,true,true,true,true,true,true,true,true,true,true,true,true,true,false,false,false,false,false,false,false,false,false,false,false,false,false] rfl rfl (dC iD.out (by kernel_rfl)) (fun _ _ _ h=>h) (Or.inr ⟨by rfl,rfl⟩) ?_ ?_
            rotate_left
            ·simp only [Act.put,List.setIfInBounds_toArray,List.set_cons_zero,List.set_cons_succ,aZ,bf]
             rfl
            refine bU (i:=15) (N:=some 120) (v:=undef) (a':=?_) #[true,true,true,true,true,true,true,true,true,true,true,true,true,true,true,true,false,false,false,false,false,false,false,false,false,false,false,false] rfl rfl (dC iD.out (by kernel_rfl)) (fun _ _ _ h=>h) (Or.inr ⟨by rfl,rfl⟩) ?_ ?_
            rotate_left
            ·simp only [Act.put,List.setIfInBounds_toArray,List.set_cons_zero,List.set_cons_succ,aZ,bf]
             rfl
            refine bU (i:=16) (N:=some 121) (v:=undef) (a':=?_) #[true,true,true,true,true,true,true,true,true,true,true,true,true,true,true,true,true,false,false,false,false,false,false,false,false,false,false,false] rfl rfl (dC iD.out (by kernel_rfl)) (fun _ _ _ h=>h) (Or.inr ⟨by rfl,rfl⟩) ?_ ?_
            rotate_left
            ·simp only [Act.put,List.setIfInBounds_toArray,List.set_cons_zero,List.set_cons_succ,aZ,bf]
             rfl
            refine bU (i:=17) (N:=some 122) (v:=undef) (a':=?_) #[true,true,true,true,true,true,true,true,true,true,true,true,true,true,true,true,true,true,false,false,false,false,false,false,false,false,false,false] rfl rfl (dC iD.out (by kernel_rfl)) (fun _ _ _ h=>h) (Or.inr ⟨by rfl,rfl⟩) ?_ ?_
            rotate_left
            ·simp only [Act.put,List.setIfInBounds_toArray,List.set_cons_zero,List.set_cons_succ,aZ,bf]
             rfl
            refine bU (i:=18) (N:=some 123) (v:=undef) (a':=?_) #[true,true,true,true,true,true,true,true,true,true,true,true,true,true,true,true,true,true,true,false,false,false,false,false,false,false,false,false] rfl rfl (dC iD.out (by kernel_rfl)) (fun _ _ _ h=>h) (Or.inr ⟨by rfl,rfl⟩) ?_ ?_
            rotate_left
            ·simp only [Act.put,List.setIfInBounds_toArray,List.set_cons_zero,List.set_cons_succ,aZ,bf]
             rfl
            refine bU (i:=19) (N:=some 124) (v:=undef) (a':=?_) #[true,true,true,true,true,true,true,true,true,true,true,true,true,true,true,true,true,true,true,true,false,false,false,false,false,false,false,false] rfl rfl (dC iD.out (by kernel_rfl)) (fun _ _ _ h=>h) (Or.inr ⟨by rfl,rfl⟩) ?_ ?_
            rotate_left
            ·simp only [Act.put,List.setIfInBounds_toArray,List.set_cons_zero,List.set_cons_succ,aZ,bf]
             rfl
            refine bU (i:=20) (N:=some 125) (v:=undef) (a':=?_) #[true,true,true,true,true,true,true,true,true,true,true,true,true,true,true,true,true,true,true,true,true,false,false,false,false,false,false,false] rfl rfl (dC iD.out (by kernel_rfl)) (fun _ _ _ h=>h) (Or.inr ⟨by rfl,rfl⟩) ?_ ?_
            rotate_left
            ·simp only [Act.put,List.setIfInBounds_toArray,List.set_cons_zero,List.set_cons_succ,aZ,bf]
             rfl
            refine bU (i:=21) (N:=some 126) (v:=undef) (a':=?_) #[true,true,true,true,true,true,true,true,true,true,true,true,true,true,true,true,true,true,true,true,true,true,false,false,false,false,false,false] rfl rfl (dC iD.out (by kernel_rfl)) (fun _ _ _ h=>h) (Or.inr ⟨by rfl,rfl⟩) ?_ ?_
            rotate_left
            ·simp only [Act.put,List.setIfInBounds_toArray,List.set_cons_zero,List.set_cons_succ,aZ,bf]
             rfl
            refine bU (i:=22) (N:=some 127) (v:=undef) (a':=?_) #[true,true,true,true,true,true,true,true,true,true,true,true,true,true,true,true,true,true,true,true,true,true,true,false,false,false,false,false] rfl rfl (dC iD.out (by kernel_rfl)) (fun _ _ _ h=>h) (Or.inr ⟨by rfl,rfl⟩) ?_ ?_
            rotate_left
            ·simp only [Act.put,List.setIfInBounds_toArray,List.set_cons_zero,List.set_cons_succ,aZ,bf]
             rfl
            refine bU (i:=23) (N:=some 128) (v:=undef) (a':=?_) #[true,true,true,true,true,true,true,true,true,true,true,true,true,true,true,true,true,true,true,true,true,true,true,true,false,false,false,false] rfl rfl (dC iD.out (by kernel_rfl)) (fun _ _ _ h=>h) (Or.inr ⟨by rfl,rfl⟩) ?_ ?_
            rotate_left
            ·simp only [Act.put,List.setIfInBounds_toArray,List.set_cons_zero,List.set_cons_succ,aZ,bf]
             rfl
            refine bU (i:=24) (N:=some 129) (v:=undef) (a':=?_) #[true,true,true,true,true,true,true,true,true,true,true,true,true,true,true,true,true,true,true,true,true,true,true,true,true,false,false,false] rfl rfl (dC iD.out (by kernel_rfl)) (fun _ _ _ h=>h) (Or.inr ⟨by rfl,rfl⟩) ?_ ?_
            rotate_left
            ·simp only [Act.put,List.setIfInBounds_toArray,List.set_cons_zero,List.set_cons_succ,aZ,bf]
             rfl
            refine bU (i:=25) (N:=some 130) (v:=undef) (a':=?_) #[true,true,true,true,true,true,true,true,true,true,true,true,true,true,true,true,true,true,true,true,true,true,true,true,true,true,false,false] rfl rfl (dC iD.out (by kernel_rfl)) (fun _ _ _ h=>h) (Or.inr ⟨by rfl,rfl⟩) ?_ ?_
            rotate_left
            ·simp only [Act.put,List.setIfInBounds_toArray,List.set_cons_zero,List.set_cons_succ,aZ,bf]
             rfl
            refine bU (i:=26) (N:=some 131) (v:=undef) (a':=?_) #[true,true,true,true,true,true,true,true,true,true,true,true,true,true,true,true,true,true,true,true,true,true,true,true,true,true,true,false] rfl rfl (dC iD.out (by kernel_rfl)) (fun _ _ _ h=>h) (Or.inr ⟨by rfl,rfl⟩) ?_ ?_
            rotate_left
            ·simp only [Act.put,List.setIfInBounds_toArray,List.set_cons_zero,List.set_cons_succ,aZ,bf]
             rfl
            refine bU (i:=27) (N:=some 132) (v:=?_) (a':=?_) #[true,true,true,true,true,true,true,true,true,true,true,true,true,true,true,true,true,true,true,true,true,true,true,true,true,true,true,true] rfl rfl (dC iD.out (by kernel_rfl)) (fun _ _ _ h=>h) (Or.inl ⟨by rfl,?_⟩) ?_ ?_
            rotate_left
            ·intro w'
             go_simp
             with_reducible rfl
            rotate_left
            ·simp only [Act.put,List.setIfInBounds_toArray,List.set_cons_zero,List.set_cons_succ,aZ,bf]
             rfl
            refine tT (yh iD.out (by kernel_rfl)) ?_
            try go_wp2
            go_ret
            exact ⟨by first|rfl|(simp [aQ,aT] <;> rfl)|(simp [*,aQ,aT] <;> rfl),by repeat (first|(with_reducible first|exact HB.out|apply au|apply ah|apply av|refine ak ?_ oO.out)|exact HB.out)⟩
          ·rw [if_neg c38] at H
           exact absurd H (by simp)
         ·rw [if_neg c37] at H
          have aoI:decide (ik < (aM.length:Int)) = false:=decide_eq_false c37
          clear c37
          obtain rfl:=Option.some.inj H
          have Wl:wr.cell? ⟨bR,0,none⟩ = some (.int .i64 aC):=(aa aV.out 0).trans rfl
          have Wm:wr.cell? ⟨bR,1,none⟩ = some (.int .i64 aD):=(aa aV.out 1).trans rfl
          have Wn:wr.cell? ⟨bR,2,none⟩ = some (.int .i64 aG):=(aa aV.out 2).trans rfl
          have Wo:wr.cell? ⟨bR,3,none⟩ = some (.int .i64 aH):=(aa aV.out 3).trans rfl
          have Wp:wr.cell? ⟨bR,4,none⟩ = some (.int .i64 aN):=(aa aV.out 4).trans rfl
          have Wq:wr.cell? ⟨bR,5,none⟩ = some (.int .i64 aK):=(aa aV.out 5).trans rfl
          have Ws:wr.cell? ⟨bR,6,none⟩ = some (.int .i64 aJ):=(aa aV.out 6).trans rfl
          have Wt:wr.cell? ⟨bR,7,none⟩ = some (.slice bG aX.length bH):=(aa aV.out 7).trans rfl
          have Wu:wr.cell? ⟨bR,8,none⟩ = some (.slice bO aM.length bM):=(aa aV.out 8).trans rfl
          have Wv:=ae aV.out 0
          have Ww:=ae aV.out 1
          have Wy:=ae aV.out 2
          have Wz:=ae aV.out 3
          have WA:=ae aV.out 4
          have WB:=ae aV.out 5
          have WC:=ae aV.out 6
          have WE:=ae aV.out 7
          have WG:=ae aV.out 8
          go_wp2
          go_ret
          exact ⟨by first|rfl|(simp [aQ,aT] <;> rfl)|(simp [*,aQ,aT] <;> rfl),by repeat (first|(with_reducible first|exact HB.out|apply au|apply ah|apply av|refine ak ?_ oO.out)|exact HB.out)⟩
end Go.Proofs.Ytmhaiihjfgfaoaa.Pr
end
