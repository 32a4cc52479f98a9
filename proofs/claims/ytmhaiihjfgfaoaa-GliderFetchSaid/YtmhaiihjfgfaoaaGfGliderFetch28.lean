import Derived.Test.YtmhaiihjfgfaoaaGfGliderFetch3
import Derived.Test.YtmhaiihjfgfaoaaGfGliderFetch27
import Derived.Test.YtmhaiihjfgfaoaaGfGliderFetch26
set_option linter.unusedVariables false
set_option linter.unusedSimpArgs false
open Go.Value renaming int → U
open Go.IntKind renaming i64 → Z
open Bool renaming true → ab, false → ac
section
namespace Go.Proofs.Ytmhaiihjfgfaoaa.Pr
open Go.RowKit Go.Proofs.YtmhaiihjfgfaoaaW.PrintWords Go.Proofs.YtmhaiihjfgfaoaaW.PrintLast Go.Proofs.YtmhaiihjfgfaoaaW.PrintMore
attribute [local go_sem] gp gq iA iB gu
set_option linter.unusedVariables false
set_option linter.unusedSimpArgs false
def bR.l0:Nat→Int→List (jf)→Int→Int→Int→Int→Int→Int→Int→Int→Int→Int→Int→Int→Int→Int→Int→Option (Int)
 |0,_,_,_,_,_,_,_,_,_,_,_,_,_,_,_,_,_=>none
 |k+1,x1,x2,x9,QI,YU,Og,YV,YW,YX,YY,YZ,SI,SK,SL,SN,SQ,SS=>if QI < (x2.length:Int) then (if (wrap64 (x1+(wrap64 ((wrap64 (QI+1))*Og)))) ≥ SQ then (if (wrap64 (x1+(wrap64 ((wrap64 (QI+1))*Og))))≤SS then (if 0≤QI then ((nL.f k ((iJ x2 QI).f0.f0) ((iJ x2 QI).f0.f1) ((iJ x2 QI).f1.f0) ((iJ x2 QI).f1.f1) SI SK SL SN).bind fun aeA=>(bR.l0 k x1 x2 (mx x9 aeA) (wrap64 (QI+1)) YU Og YV YW YX YY YZ SI SK SL SN SQ SS)) else (none)) else (bR.l0 k x1 x2 x9 (wrap64 (QI+1)) YU Og YV YW YX YY YZ SI SK SL SN SQ SS)) else (bR.l0 k x1 x2 x9 (wrap64 (QI+1)) YU Og YV YW YX YY YZ SI SK SL SN SQ SS)) else (some x9)
def bR.f (k:Nat) (ai:Int) (aj:Int) (aC:Int) (aD:Int) (aJ:Int) (aH:Int) (aK:Int) (a1:Int) (l2:List (jf)) (vN:Int) (vO:Int) (vP:Int) (vQ:Int) (vH:Int) (vI:Int):Option (Int):=bR.l0 k a1 l2 0 0 ai aj aC aD aJ aH aK vN vO vP vQ vH vI
def bR.T7:Bool × List (List Nat × List Nat):=(true,[([],[]),([],[]),([],[]),([1,2],[1,2]),([3],[3]),([],[]),([5],[5]),([4,6],[4,6]),([0,7],[0,7]),([8,7,0,1,2,3,4,5,6,7,8],[0,8])])
def bR.B7:List Nat:=[0,0,0,6,14,0,32,126,255,511]
theorem bR.aXh:qA .any (opsOf Try.f96 7) = bR.T7:=by kernel_rfl
theorem bR.aDQ:mI bR.T7.2 bR.B7 = true:=by kernel_rfl
set_option maxHeartbeats 8000000 in
set_option maxRecDepth 100000 in
theorem bR.calls (k:Nat) (ai:Int) (aj:Int) (aC:Int) (aD:Int) (aJ:Int) (aH:Int) (aK:Int) (a1:Int) (A2:Option Addr) (c2:Nat) (l2:List (jf)) (vN:Int) (vO:Int) (vP:Int) (vQ:Int) (vH:Int) (vI:Int) (r:Int) (w:World) (hr2:Kd.C k31 w A2 l2.length l2) (hc2:l2.length≤c2) (h:bR.f k ai aj aC aD aJ aH aK a1 l2 vN vO vP vQ vH vI = some r):
 Calls Try.prog 96 #[.agg #[U Z ai,U Z aj,U Z aC,U Z aD,U Z aJ,U Z aH,U Z aK],U Z a1,.slice A2 l2.length c2,.agg #[U Z vN,U Z vO,U Z vP,U Z vQ,U Z vH,U Z vI]] w fun e w'=>e = .returned (U Z r)∧Below w.heap.size w w':=by
 have Br:=Try.underlying29
 have aed:=Try.underlying81
 have rO:=Try.underlying31
 have HR2:=aa.mk hr2
 have HC2:=aa.mk hc2
 clear hr2 hc2
 have HB:=aa.mk (Below.refl w.heap.size w)
 have H:(bR.l0 k a1 l2 0 0 ai aj aC aD aJ aH aK vN vO vP vQ vH vI) = some r:=h
 clear h
 have H':=aa.mk H
 clear H
 go_enter Try.func96,Try.ntmps96
 go_wp2_with (first|((with_reducible refine aA (N:=4) rfl ?_);refine au (by rfl) (N:=4) (by rfl) (cs:=#[U Z ai,U Z aj,U Z aC,U Z aD,U Z aJ,U Z aH,U Z aK]) (t:=29) fG ?_;intro aDR hg w5 hbox hb;have Gi:=aa.mk (hbox);have a3J:=bS HB hg;have a3K:=bS HB hg;replace HB:=cO HB hb;clear hb hbox hg)|((with_reducible refine aA (N:=7) rfl ?_);refine au (by rfl) (N:=7) (by rfl) (cs:=#[U Z vN,U Z vO,U Z vP,U Z vQ,U Z vH,U Z vI]) (t:=81) fG ?_;intro UA hg w6 hbox hb;have Ju:=aa.mk (hbox);have a3L:=bS HB hg;have a3M:=bS HB hg;have PV:=eQ Gi hg;have PW:=eT Gi hg;replace Gi:=aX Gi hb;replace HB:=cO HB hb;clear hb hbox hg))
 go_loopg [9,10] k (fun kq v9 v10 w'=>∃ (tV:Int) (fo:Int),v9 = U Z tV∧v10 = U Z fo∧aa (bR.l0 kq a1 l2 tV fo ai aj aC aD aJ aH aK vN vO vP vQ vH vI = some r)∧aa (kq≤k)∧aa (w'.heap[aDR]? = some (.cells #[U Z ai,U Z aj,U Z aC,U Z aD,U Z aJ,U Z aH,U Z aK] 29 (0,0)))∧aa (w'.heap[UA]? = some (.cells #[U Z vN,U Z vO,U Z vP,U Z vQ,U Z vH,U Z vI] 81 (0,0)))∧aa (Below w.heap.size w w'))
 case atStart=>exact ⟨(0),(0),nM,nM,H',⟨Nat.le_refl _⟩,⟨gB⟩,⟨gB⟩,⟨gL⟩⟩
 case round =>
  clear H'
  try clear c2
  try clear p2
  obtain ⟨tV,fo,rfl,rfl,HA,JP,Gi,Ju,HB⟩:=hrel
  cases gk with
  |zero=>exact absurd HA.out (by simp [bR.l0])
  |succ k1 =>
   have H:=HA.out
   clear HA
   simp only [bR.l0] at H
   by_cases c7:fo < (l2.length:Int)
   ·rw [if_pos c7] at H
    have Q7:decide (fo < (l2.length:Int)) = true:=decide_eq_true c7
    clear c7
    by_cases c8:(wrap64 (a1+(wrap64 ((wrap64 (fo+1))*aj)))) ≥ vH
    ·rw [if_pos c8] at H
     have Lf:decide (vH≤(wrap64 (a1+(wrap64 ((wrap64 (fo+1))*aj))))) = true:=decide_eq_true c8
     clear c8
     by_cases c9:(wrap64 (a1+(wrap64 ((wrap64 (fo+1))*aj))))≤vI
     ·rw [if_pos c9] at H
      have Mm:decide ((wrap64 (a1+(wrap64 ((wrap64 (fo+1))*aj))))≤vI) = true:=decide_eq_true c9
      clear c9
      by_cases c10:0≤fo
      ·rw [if_pos c10] at H
       have Ea:decide (0≤fo) = true:=decide_eq_true c10
       clear c10
       replace H:=Option.bind_eq_some_iff.mp H
       obtain ⟨aeA,anv,H⟩:=H
       replace H:(bR.l0 k1 a1 l2 (mx tV aeA) (wrap64 (fo+1)) ai aj aC aD aJ aH aK vN vO vP vQ vH vI) = some r:=H
       have A11:=aa.mk anv
       clear anv
       obtain ⟨azu,ace⟩:∃ j_:Int,(mx tV aeA) = j_:=⟨_,rfl⟩
       replace H:(bR.l0 k1 a1 l2 azu (wrap64 (fo+1)) ai aj aC aD aJ aH aK vN vO vP vQ vH vI) = some r:=by first|(rw [ace] at H;exact H)|(simp only [ace] at H ⊢;exact H)
       (try rw [ace] at A11)
       have aXi:(if tV < aeA then aeA else tV) = azu:=ace
       have H':=aa.mk H
       clear H
       have aaP:=PV.out
       have aaQ:=PW.out
       obtain ⟨Aq,Ar,GL,GM,aqv,aqw,aqx,Au,Av,GN,GQ,aqy,aqz,aqA⟩:=jF Gi.out
       obtain ⟨oL,oM,sP,sQ,uC,uD,oN,oO,sS,sU,uE,uF⟩:=wT Ju.out
       try go_wp2
       replace Gi:=aa.mk (ag Gi.out)
       replace Ju:=aa.mk (ag Ju.out)
       replace HB:=aa.mk (bO HB.out)
       have azv:0≤(fo:Int):=of_decide_eq_true mq
       have azw:fo < (l2.length:Int):=of_decide_eq_true mq
       obtain ⟨UB,aXj,Oh,Oi,Oj,Ol⟩:=aeB HR2.out fo azv azw
       have ahU:=Ol
       have ahV:=Oj
       have ahW:=Oi
       have ahX:=Oh
       cases aXj
       replace Oh:=(HB.out.cell (World.block_lt_of_cell? w _ Oh)).trans Oh
       replace Oi:=(HB.out.cell (World.block_lt_of_cell? w _ Oi)).trans Oi
       replace Oj:=(HB.out.cell (World.block_lt_of_cell? w _ Oj)).trans Oj
       replace Ol:=(HB.out.cell (World.block_lt_of_cell? w _ Ol)).trans Ol
       replace azv:=eq_true azv
       replace azw:=eq_true azw
       refine iN (n:=10) (S:=fun w'=>w'.cell? ⟨UA,0,none⟩ = some (U Z vN)∧w'.cell? ⟨UA,1,none⟩ = some (U Z vO)∧w'.cell? ⟨UA,2,none⟩ = some (U Z vP)∧w'.cell? ⟨UA,3,none⟩ = some (U Z vQ)∧w'.cell? ⟨UA,4,none⟩ = some (U Z vH)∧w'.cell? ⟨UA,5,none⟩ = some (U Z vI)∧w'.cell? (UB.add ((fo).toNat*4)) = some (U Z ((iJ l2 fo).f0.f0))∧w'.cell? ⟨(UB.add ((fo).toNat*4)).block,(UB.add ((fo).toNat*4)).off+1,none⟩ = some (U Z ((iJ l2 fo).f0.f1))∧w'.cell? ⟨(UB.add ((fo).toNat*4)).block,(UB.add ((fo).toNat*4)).off+2,none⟩ = some (U Z ((iJ l2 fo).f1.f0))∧w'.cell? ⟨(UB.add ((fo).toNat*4)).block,(UB.add ((fo).toNat*4)).off+3,none⟩ = some (U Z ((iJ l2 fo).f1.f1))) (ds:=[]) #[ac,ac,ac,ac,ac,ac,ac,ac,ac,ac] aM rfl rfl (aDS Ju.out ⟨(jJ HB ahX),(jJ HB ahW),(jJ HB ahV),(jJ HB ahU)⟩) (fun hHeld=>?_);refine fU bR.aXh bR.aDQ (fun bz jb=>?_)
       generalize wr.drew = w16 at Gi Ju HB Oh Oi Oj Ol hHeld ⊢
       refine bV (i:=0) (N:=some 35) (ax bz.out aM) ?_
       refine bV (i:=1) (N:=some 36) (ax bz.out aM) ?_
       refine bV (i:=2) (N:=some 37) (ax bz.out aM) ?_
       refine bV (i:=3) (N:=some 38) (ax bz.out aM) ?_
       refine bV (i:=5) (N:=some 40) (ax bz.out aM) ?_
       refine iL (i:=4) (N:=some 39) (aY bz.out jb.out aM) hHeld ?_
       refine iL (i:=6) (N:=some 41) (aY bz.out jb.out aM) hHeld ?_
       refine iO (i:=7) (N:=some 42) #[ab,ab,ab,ab,ab,ab,ab,ab,ac,ac] rfl rfl (eH bz.out aM) (by decide) (fun K hK=>?_)
       refine gJ Try.func43 aM rfl #[.agg #[U Z ((iJ l2 fo).f0.f0),U Z ((iJ l2 fo).f0.f1),U Z ((iJ l2 fo).f1.f0),U Z ((iJ l2 fo).f1.f1)],.agg #[U Z vN,U Z vO,U Z vP,U Z vQ]] (by rfl) rfl rfl ji ?_
       with_reducible refine (nL.calls k1 ((iJ l2 fo).f0.f0) ((iJ l2 fo).f0.f1) ((iJ l2 fo).f1.f0) ((iJ l2 fo).f1.f1) vN vO vP vQ aeA _ A11.out).mono ?_
       rintro e Fb ⟨rfl,hb⟩
       refine ⟨_,rfl,?_⟩
       replace Gi:=aX Gi hb
       replace Ju:=aX Ju hb
       replace HB:=cO HB hb
       (try clear hb)
       (try clear hb2)
       (try clear hk)
       (try clear hi)
       refine hK.out _ _ (aDS Ju.out ⟨(jJ HB ahX),(jJ HB ahW),(jJ HB ahV),(jJ HB ahU)⟩) (fun hHeld=>?_)
       clear hK K
       refine dM (by show Act.put _ (some 42) _ = _;simp only [Act.put,List.setIfInBounds_toArray,List.set_cons_zero,List.set_cons_succ,ib,ig];rfl) ?_
       refine bV (i:=8) (N:=some 43) (ax bz.out aM) ?_
       refine bV (i:=9) (N:=some 9) (ax bz.out aM) ?_
       refine jS (ja bz.out aM) ?_
       try go_wp2
       go_roundg k1
       case measure=>have:=JP.out;omega
       case rel=>exact ⟨(azu),(wrap64 (fo+1)),(by first|rfl|(simp;done)|(simp only [← ace] <;> (first|rfl|simp))|(simp [*];done)),nM,H',⟨Mi⟩,⟨gB⟩,⟨gB⟩,⟨gL⟩⟩
      ·rw [if_neg c10] at H
       exact absurd H (by simp)
     ·rw [if_neg c9] at H
      have Mm:decide ((wrap64 (a1+(wrap64 ((wrap64 (fo+1))*aj))))≤vI) = false:=decide_eq_false c9
      clear c9
      have H':=aa.mk H
      clear H
      have abF:=PV.out
      have abG:=PW.out
      obtain ⟨vU,vV,yg,yh,Cs,Ct,He,vW,vX,yj,yl,Cu,Cv,Hf⟩:=jF Gi.out
      obtain ⟨wu,wy,AP,AQ,Cn,Co,wz,wB,AR,AU,Cq,Cr⟩:=wT Ju.out
      go_wp2
      go_roundg k1
      case measure=>have:=JP.out;omega
      case rel=>exact ⟨(tV),(wrap64 (fo+1)),nM,nM,H',⟨Mi⟩,⟨gB⟩,⟨gB⟩,⟨gL⟩⟩
    ·rw [if_neg c8] at H
     have Lf:decide (vH≤(wrap64 (a1+(wrap64 ((wrap64 (fo+1))*aj))))) = false:=decide_eq_false c8
     clear c8
     have H':=aa.mk H
     clear H
     have V7:=PV.out
     have V8:=PW.out
     obtain ⟨Ob,Oc,Y0,Y1,ahY,ahZ,ah0,Od,Oe,Y2,Y3,ah1,ah2,ah3⟩:=jF Gi.out
     obtain ⟨Ce,Cf,Ip,Iq,Ir,Iu,Cg,Ch,Iw,Iy,Iz,IA⟩:=wT Ju.out
     go_wp2
     go_roundg k1
     case measure=>have:=JP.out;omega
     case rel=>exact ⟨(tV),(wrap64 (fo+1)),nM,nM,H',⟨Mi⟩,⟨gB⟩,⟨gB⟩,⟨gL⟩⟩
   ·rw [if_neg c7] at H
    have Q7:decide (fo < (l2.length:Int)) = false:=decide_eq_false c7
    clear c7
    obtain rfl:=Option.some.inj H
    go_wp2
    go_ret
    exact ⟨lW,gL⟩
def iT.f (k:Nat) (ai:Int) (aj:Int) (aC:Int) (aD:Int) (aJ:Int) (aH:Int) (aK:Int) (aT:List Bool) (ak:List (rq)) (aI:Int) (aG:Int) (bn:Int) (bq:Int) (bH:Int) (bI:Int) (bG:Int) (bZ:Int) (cz:Int) (dw:Int) (dx:Int) (a3:Int) (gD:Int) (gF:Int) (l5:List (xN)) (fO:Int) (fP:Int) (fQ:Int) (fT:Int) (fH:Int) (fI:Int):Option (Int):=(dE.f k ai aj aC aD aJ aH aK aT ak aI aG bn bq bH bI bG bZ cz dw dx a3 l5).bind fun UC=>(if UC.2.2 = 0 then ((bW.f k aI aG bn bq bH bI bG gD gF l5).bind fun QR=>(if QR.2.2 = 0 then ((bR.f k aI aG bn bq bH bI bG a3 UC.1 fO fP fQ fT fH fI).bind fun Lj=>(if Lj = 2 then (some 0) else (some 20))) else (some QR.2.2))) else (some UC.2.2))
set_option maxHeartbeats 8000000 in
set_option maxRecDepth 100000 in
theorem iT.calls (k:Nat) (ai:Int) (aj:Int) (aC:Int) (aD:Int) (aJ:Int) (aH:Int) (aK:Int) (dW:Option Addr) (dN:Nat) (aT:List Bool) (dZ:Option Addr) (dO:Nat) (ak:List (rq)) (aI:Int) (aG:Int) (bn:Int) (bq:Int) (bH:Int) (bI:Int) (bG:Int) (bZ:Int) (cz:Int) (dw:Int) (dx:Int) (a3:Int) (gD:Int) (gF:Int) (A5:Option Addr) (c5:Nat) (l5:List (xN)) (fO:Int) (fP:Int) (fQ:Int) (fT:Int) (fH:Int) (fI:Int) (r:Int) (w:World) (jT:Kd.C Kd.bool w dW aT.length aT) (jU:aT.length≤dN) (jV:Kd.C GI w dZ ak.length ak) (jW:ak.length≤dO) (hr5:Kd.C k33 w A5 l5.length l5) (hc5:l5.length≤c5) (h:iT.f k ai aj aC aD aJ aH aK aT ak aI aG bn bq bH bI bG bZ cz dw dx a3 gD gF l5 fO fP fQ fT fH fI = some r):
 Calls Try.prog 97 #[.agg #[U Z ai,U Z aj,U Z aC,U Z aD,U Z aJ,U Z aH,U Z aK,.slice dW aT.length dN,.slice dZ ak.length dO],.agg #[U Z aI,U Z aG,U Z bn,U Z bq,U Z bH,U Z bI,U Z bG],.agg #[U Z bZ,U Z cz,U Z dw,U Z dx],U Z a3,.agg #[U Z gD,U Z gF],.slice A5 l5.length c5,.agg #[U Z fO,U Z fP,U Z fQ,U Z fT,U Z fH,U Z fI]] w fun e w'=>e = .returned (U Z r)∧Below w.heap.size w w':=by
 have BV:=Try.underlying25
 have Br:=Try.underlying29
 have rO:=Try.underlying31
 have pz:=Try.underlying27
 have aed:=Try.underlying81
 have ik:=aa.mk jT
 have iC:=aa.mk jU
 clear jT jU
 have gN:=aa.mk jV
 have iD:=aa.mk jW
 clear jV jW
 have PX:=aa.mk hr5
 have HC5:=aa.mk hc5
 clear hr5 hc5
 have HB:=aa.mk (Below.refl w.heap.size w)
 have H:((dE.f k ai aj aC aD aJ aH aK aT ak aI aG bn bq bH bI bG bZ cz dw dx a3 l5).bind fun UC=>(if UC.2.2 = 0 then ((bW.f k aI aG bn bq bH bI bG gD gF l5).bind fun QR=>(if QR.2.2 = 0 then ((bR.f k aI aG bn bq bH bI bG a3 UC.1 fO fP fQ fT fH fI).bind fun Lj=>(if Lj = 2 then (some 0) else (some 20))) else (some QR.2.2))) else (some UC.2.2))) = some r:=h
 clear h
 replace H:=Option.bind_eq_some_iff.mp H
 obtain ⟨⟨Vu,atD,UD⟩,QO,H⟩:=H
 replace H:(if UD = 0 then ((bW.f k aI aG bn bq bH bI bG gD gF l5).bind fun QR=>(if QR.2.2 = 0 then ((bR.f k aI aG bn bq bH bI bG a3 Vu fO fP fQ fT fH fI).bind fun Lj=>(if Lj = 2 then (some 0) else (some 20))) else (some QR.2.2))) else (some UD)) = some r:=H
 have A8:=aa.mk QO
 clear QO
 by_cases c9:UD = 0
 ·rw [if_pos c9] at H
  have Mm:(UD == 0) = true:=beq_iff_eq.mpr c9
  have azx:(UD != 0) = false:=bne_eq_false_iff_eq.mpr c9
  clear c9
  replace H:=Option.bind_eq_some_iff.mp H
  obtain ⟨⟨azy,azz,Vv⟩,FP,H⟩:=H
  replace H:(if Vv = 0 then ((bR.f k aI aG bn bq bH bI bG a3 Vu fO fP fQ fT fH fI).bind fun Lj=>(if Lj = 2 then (some 0) else (some 20))) else (some Vv)) = some r:=H
  have QJ:=aa.mk FP
  clear FP
  by_cases c11:Vv = 0
  ·rw [if_pos c11] at H
   have Jj:(Vv == 0) = true:=beq_iff_eq.mpr c11
   have anF:(Vv != 0) = false:=bne_eq_false_iff_eq.mpr c11
   clear c11
   replace H:=Option.bind_eq_some_iff.mp H
   obtain ⟨Lj,NC,H⟩:=H
   replace H:(if Lj = 2 then (some 0) else (some 20)) = some r:=H
   have A12:=aa.mk NC
   clear NC
   by_cases c13:Lj = 2
   ·rw [if_pos c13] at H
    have ami:(Lj == 2) = true:=beq_iff_eq.mpr c13
    have aDT:(Lj != 2) = false:=bne_eq_false_iff_eq.mpr c13
    clear c13
    obtain rfl:=Option.some.inj H
    go_enter Try.func97,Try.ntmps97
    go_wp2_with (first|((with_reducible refine aA (N:=7) rfl ?_);refine au (by rfl) (N:=7) (by rfl) (cs:=#[U Z ai,U Z aj,U Z aC,U Z aD,U Z aJ,U Z aH,U Z aK,.slice dW aT.length dN,.slice dZ ak.length dO]) (t:=25) fG ?_;intro anG hg w14 hbox hb;have gH:=aa.mk (hbox);have anH:=bS HB hg;have anI:=bS HB hg;replace HB:=cO HB hb;clear hb hbox hg)|((with_reducible refine aA (N:=8) rfl ?_);refine au (by rfl) (N:=8) (by rfl) (cs:=#[U Z aI,U Z aG,U Z bn,U Z bq,U Z bH,U Z bI,U Z bG]) (t:=29) fG ?_;intro anJ hg w15 hbox hb;have il:=aa.mk (hbox);have anK:=bS HB hg;have anL:=bS HB hg;have zQ:=eQ gH hg;have zR:=eT gH hg;replace gH:=aX gH hb;replace HB:=cO HB hb;clear hb hbox hg)|((with_reducible refine aA (N:=9) rfl ?_);refine au (by rfl) (N:=9) (by rfl) (cs:=#[U Z bZ,U Z cz,U Z dw,U Z dx]) (t:=31) fG ?_;intro UE hg w16 hbox hb;have jL:=aa.mk (hbox);have anM:=bS HB hg;have anN:=bS HB hg;have zS:=eQ gH hg;have zT:=eT gH hg;have zU:=eQ il hg;have zV:=eT il hg;replace gH:=aX gH hb;replace il:=aX il hb;replace HB:=cO HB hb;clear hb hbox hg)|((with_reducible refine aA (N:=11) rfl ?_);refine au (by rfl) (N:=11) (by rfl) (cs:=#[U Z gD,U Z gF]) (t:=27) fG ?_;intro Wq hg Fb hbox hb;have mK:=aa.mk (hbox);have anO:=bS HB hg;have anP:=bS HB hg;have zW:=eQ gH hg;have zX:=eT gH hg;have zY:=eQ il hg;have zZ:=eT il hg;have z8:=eQ jL hg;have Aa:=eT jL hg;replace gH:=aX gH hb;replace il:=aX il hb;replace jL:=aX jL hb;replace HB:=cO HB hb;clear hb hbox hg)|((with_reducible refine aA (N:=13) rfl ?_);refine au (by rfl) (N:=13) (by rfl) (cs:=#[U Z fO,U Z fP,U Z fQ,U Z fT,U Z fH,U Z fI]) (t:=81) fG ?_;intro anQ hg w18 hbox hb;have tY:=aa.mk (hbox);have anR:=bS HB hg;have anS:=bS HB hg;have Ab:=eQ gH hg;have Ac:=eT gH hg;have Ad:=eQ il hg;have Ae:=eT il hg;have Af:=eQ jL hg;have Ag:=eT jL hg;have C9:=eQ mK hg;have Da:=eT mK hg;replace gH:=aX gH hb;replace il:=aX il hb;replace jL:=aX jL hb;replace mK:=aX mK hb;replace HB:=cO HB hb;clear hb hbox hg;have QL:=zQ.out;have QM:=zR.out;have anB:=zS.out;have anC:=zT.out;have V7:=zW.out;have V8:=zX.out;have V9:=Ab.out;have Wd:=Ac.out;obtain ⟨Ce,Cf,Ip,Iq,Ir,Iu,KL,Om,Oo,Cg,Ch,Iw,Iy,Iz,IA,KM,Oq,Ot⟩:=jA gH.out;have abX:=zU.out;have abY:=zV.out;have abu:=zY.out;have abv:=zZ.out;have ab2:=Ad.out;have ab3:=Ae.out;obtain ⟨CB,CE,CF,CG,EM,EN,EO,CJ,CK,CL,CO,EP,ER,ES⟩:=jF il.out;have amC:=z8.out;have amD:=Aa.out;have axm:=Af.out;have axn:=Ag.out;obtain ⟨ED,EE,Ig,Ih,EF,EG,Ii,Ij⟩:=jc jL.out)|((with_reducible refine aQ (f:=84) rfl ?_);refine dn (some 24) rfl rfl Try.func84 aM rfl #[.agg #[U Z ai,U Z aj,U Z aC,U Z aD,U Z aJ,U Z aH,U Z aK,.slice dW aT.length dN,.slice dZ ak.length dO],.agg #[U Z aI,U Z aG,U Z bn,U Z bq,U Z bH,U Z bI,U Z bG],.agg #[U Z bZ,U Z cz,U Z dw,U Z dx],U Z a3,.slice A5 l5.length c5] rfl ji ?_;(with_reducible refine (dE.calls k ai aj aC aD aJ aH aK _ _ aT _ _ ak aI aG bn bq bH bI bG bZ cz dw dx a3 _ _ l5 Vu atD UD _ ?cZ ?df ?eu ?eB ?BF ?BG A8.out).mono ?_);(case cZ=>repeat (first|exact (Kd.bB ik.out HB.out)|(with_reducible refine Kd.bC ?_ _)|(with_reducible refine Kd.bD ?_ _)|(with_reducible refine Kd.bN ?_)));(case df=>exact iC.out);(case eu=>repeat (first|exact (Kd.bB gN.out HB.out)|(with_reducible refine Kd.bC ?_ _)|(with_reducible refine Kd.bD ?_ _)|(with_reducible refine Kd.bN ?_)));(case eB=>exact iD.out);(case BF=>repeat (first|exact (Kd.bB PX.out HB.out)|(with_reducible refine Kd.bC ?_ _)|(with_reducible refine Kd.bD ?_ _)|(with_reducible refine Kd.bN ?_)));(case BG=>exact HC5.out);rintro e w31 ⟨azA,rfl,ho0,hb⟩;refine ⟨_,rfl,?_⟩;have yN:=aa.mk (Kd.lX (Kd.vw ho0 (g:=UE) (o:=.cells #[U Z bZ,U Z cz,U Z dw,U Z dx] 31 (0,0)) gB) (iq gL));replace gH:=aX gH hb;replace il:=aX il hb;replace jL:=aX jL hb;replace mK:=aX mK hb;replace tY:=aX tY hb;replace HB:=cO HB hb;(try clear hb);(try clear hb2);(try clear hk);(try clear hi);(try clear ho0);obtain ⟨Yn,Yo,Yp,Yq,agy,agz,agA,Yr,Yt,Yu,Yv,agB,agC,agD⟩:=jF il.out;have a3N:=C9.out;have a3O:=Da.out;obtain ⟨EH,EI,EJ,EK⟩:=iZ mK.out)|((with_reducible refine aQ (f:=92) rfl ?_);refine dn (some 35) rfl rfl Try.func92 aM rfl #[.agg #[U Z aI,U Z aG,U Z bn,U Z bq,U Z bH,U Z bI,U Z bG],.agg #[U Z gD,U Z gF],.slice A5 l5.length c5] rfl ji ?_;(with_reducible refine (bW.calls k aI aG bn bq bH bI bG gD gF _ _ l5 azy azz Vv _ ?cZ ?df QJ.out).mono ?_);(case cZ=>repeat (first|exact (Kd.bB PX.out HB.out)|(with_reducible refine Kd.bC ?_ _)|(with_reducible refine Kd.bD ?_ _)|(with_reducible refine Kd.bN ?_)));(case df=>exact HC5.out);rintro e w35 ⟨aDU,rfl,ho0,hb⟩;refine ⟨_,rfl,?_⟩;have Ws:=aa.mk (Kd.lX (Kd.vw ho0 (g:=Wq) (o:=.cells #[U Z gD,U Z gF] 27 (0,0)) gB) (iq gL));replace yN:=zt yN hb;replace gH:=aX gH hb;replace il:=aX il hb;replace jL:=aX jL hb;replace mK:=aX mK hb;replace tY:=aX tY hb;replace HB:=cO HB hb;(try clear hb);(try clear hb2);(try clear hk);(try clear hi);(try clear ho0);obtain ⟨ND,NF,Sd,Sg,agE,agF,agG,NG,NH,Si,Sj,agH,agI,agJ⟩:=jF il.out;obtain ⟨YA,YB,atE,atF,atG,atH,YC,YD,atJ,atK,atL,atM⟩:=wT tY.out;obtain ⟨ayD,ayE,ayF⟩:=Kd.nR yN.out;subst ayF)|((with_reducible refine aQ (f:=96) rfl ?_);refine dn (some 46) rfl rfl Try.func96 aM rfl #[.agg #[U Z aI,U Z aG,U Z bn,U Z bq,U Z bH,U Z bI,U Z bG],U Z a3,.slice ayD Vu.length ayE,.agg #[U Z fO,U Z fP,U Z fQ,U Z fT,U Z fH,U Z fI]] rfl ji ?_;(with_reducible refine (bR.calls k aI aG bn bq bH bI bG a3 _ _ Vu fO fP fQ fT fH fI Lj _ ?cZ ?df A12.out).mono ?_);(case cZ=>repeat (first|exact (Kd.gZ yN.out).2.2|(with_reducible refine Kd.bC ?_ _)|(with_reducible refine Kd.bD ?_ _)|(with_reducible refine Kd.bN ?_)));(case df=>exact (Kd.gZ yN.out).2.1);rintro e w39 ⟨rfl,hb⟩;refine ⟨_,rfl,?_⟩;replace yN:=zt yN hb;replace Ws:=zt Ws hb;replace gH:=aX gH hb;replace il:=aX il hb;replace jL:=aX jL hb;replace mK:=aX mK hb;replace tY:=aX tY hb;replace HB:=cO HB hb;(try clear hb);(try clear hb2);(try clear hk);(try clear hi)))
    go_ret
    exact ⟨lW,gL⟩
   ·rw [if_neg c13] at H
    have ami:(Lj == 2) = false:=beq_eq_false_iff_ne.mpr c13
    have aDT:(Lj != 2) = true:=bne_iff_ne.mpr c13
    obtain rfl:=Option.some.inj H
    go_enter Try.func97,Try.ntmps97
    go_wp2_with (first|((with_reducible refine aA (N:=7) rfl ?_);refine au (by rfl) (N:=7) (by rfl) (cs:=#[U Z ai,U Z aj,U Z aC,U Z aD,U Z aJ,U Z aH,U Z aK,.slice dW aT.length dN,.slice dZ ak.length dO]) (t:=25) fG ?_;intro anG hg w40 hbox hb;have gH:=aa.mk (hbox);have anH:=bS HB hg;have anI:=bS HB hg;replace HB:=cO HB hb;clear hb hbox hg)|((with_reducible refine aA (N:=8) rfl ?_);refine au (by rfl) (N:=8) (by rfl) (cs:=#[U Z aI,U Z aG,U Z bn,U Z bq,U Z bH,U Z bI,U Z bG]) (t:=29) fG ?_;intro anJ hg w41 hbox hb;have il:=aa.mk (hbox);have anK:=bS HB hg;have anL:=bS HB hg;have zQ:=eQ gH hg;have zR:=eT gH hg;replace gH:=aX gH hb;replace HB:=cO HB hb;clear hb hbox hg)|((with_reducible refine aA (N:=9) rfl ?_);refine au (by rfl) (N:=9) (by rfl) (cs:=#[U Z bZ,U Z cz,U Z dw,U Z dx]) (t:=31) fG ?_;intro UE hg w42 hbox hb;have jL:=aa.mk (hbox);have anM:=bS HB hg;have anN:=bS HB hg;have zS:=eQ gH hg;have zT:=eT gH hg;have zU:=eQ il hg;have zV:=eT il hg;replace gH:=aX gH hb;replace il:=aX il hb;replace HB:=cO HB hb;clear hb hbox hg)|((with_reducible refine aA (N:=11) rfl ?_);refine au (by rfl) (N:=11) (by rfl) (cs:=#[U Z gD,U Z gF]) (t:=27) fG ?_;intro Wq hg w43 hbox hb;have mK:=aa.mk (hbox);have anO:=bS HB hg;have anP:=bS HB hg;have zW:=eQ gH hg;have zX:=eT gH hg;have zY:=eQ il hg;have zZ:=eT il hg;have z8:=eQ jL hg;have Aa:=eT jL hg;replace gH:=aX gH hb;replace il:=aX il hb;replace jL:=aX jL hb;replace HB:=cO HB hb;clear hb hbox hg)|((with_reducible refine aA (N:=13) rfl ?_);refine au (by rfl) (N:=13) (by rfl) (cs:=#[U Z fO,U Z fP,U Z fQ,U Z fT,U Z fH,U Z fI]) (t:=81) fG ?_;intro anQ hg w44 hbox hb;have tY:=aa.mk (hbox);have anR:=bS HB hg;have anS:=bS HB hg;have Ab:=eQ gH hg;have Ac:=eT gH hg;have Ad:=eQ il hg;have Ae:=eT il hg;have Af:=eQ jL hg;have Ag:=eT jL hg;have C9:=eQ mK hg;have Da:=eT mK hg;replace gH:=aX gH hb;replace il:=aX il hb;replace jL:=aX jL hb;replace mK:=aX mK hb;replace HB:=cO HB hb;clear hb hbox hg;have awP:=zQ.out;have awQ:=zR.out;have agh:=zS.out;have agi:=zT.out;have am5:=zW.out;have am6:=zX.out;have am7:=Ab.out;have am8:=Ac.out;obtain ⟨J6,J7,J8,J9,asF,asG,asH,asI,asJ,Ka,Kb,Ke,Kg,asK,asL,asM,asN,asO⟩:=jA gH.out;have aDv:=zU.out;have aDw:=zV.out;have aDx:=zY.out;have aDy:=zZ.out;have axi:=Ad.out;have axj:=Ae.out;obtain ⟨asP,asQ,asR,asS,asT,asU,asV,asW,asX,asY,asZ,as0,as1,as2⟩:=jF il.out;have aDz:=z8.out;have aDA:=Aa.out;have ano:=Af.out;have anp:=Ag.out;obtain ⟨agQ,agR,agS,agT,agU,agV,agW,agX⟩:=jc jL.out)|((with_reducible refine aQ (f:=84) rfl ?_);refine dn (some 24) rfl rfl Try.func84 aM rfl #[.agg #[U Z ai,U Z aj,U Z aC,U Z aD,U Z aJ,U Z aH,U Z aK,.slice dW aT.length dN,.slice dZ ak.length dO],.agg #[U Z aI,U Z aG,U Z bn,U Z bq,U Z bH,U Z bI,U Z bG],.agg #[U Z bZ,U Z cz,U Z dw,U Z dx],U Z a3,.slice A5 l5.length c5] rfl ji ?_;(with_reducible refine (dE.calls k ai aj aC aD aJ aH aK _ _ aT _ _ ak aI aG bn bq bH bI bG bZ cz dw dx a3 _ _ l5 Vu atD UD _ ?cZ ?df ?eu ?eB ?BF ?BG A8.out).mono ?_);(case cZ=>repeat (first|exact (Kd.bB ik.out HB.out)|(with_reducible refine Kd.bC ?_ _)|(with_reducible refine Kd.bD ?_ _)|(with_reducible refine Kd.bN ?_)));(case df=>exact iC.out);(case eu=>repeat (first|exact (Kd.bB gN.out HB.out)|(with_reducible refine Kd.bC ?_ _)|(with_reducible refine Kd.bD ?_ _)|(with_reducible refine Kd.bN ?_)));(case eB=>exact iD.out);(case BF=>repeat (first|exact (Kd.bB PX.out HB.out)|(with_reducible refine Kd.bC ?_ _)|(with_reducible refine Kd.bD ?_ _)|(with_reducible refine Kd.bN ?_)));(case BG=>exact HC5.out);rintro e w57 ⟨azA,rfl,ho0,hb⟩;refine ⟨_,rfl,?_⟩;have yN:=aa.mk (Kd.lX (Kd.vw ho0 (g:=UE) (o:=.cells #[U Z bZ,U Z cz,U Z dw,U Z dx] 31 (0,0)) gB) (iq gL));replace gH:=aX gH hb;replace il:=aX il hb;replace jL:=aX jL hb;replace mK:=aX mK hb;replace tY:=aX tY hb;replace HB:=cO HB hb;(try clear hb);(try clear hb2);(try clear hk);(try clear hi);(try clear ho0);obtain ⟨agj,agk,agl,agm,as3,as4,as5,agn,agp,agq,agr,as6,as7,as8⟩:=jF il.out;have aCN:=C9.out;have aCO:=Da.out;obtain ⟨as9,ata,atb,atc⟩:=iZ mK.out)|((with_reducible refine aQ (f:=92) rfl ?_);refine dn (some 35) rfl rfl Try.func92 aM rfl #[.agg #[U Z aI,U Z aG,U Z bn,U Z bq,U Z bH,U Z bI,U Z bG],.agg #[U Z gD,U Z gF],.slice A5 l5.length c5] rfl ji ?_;(with_reducible refine (bW.calls k aI aG bn bq bH bI bG gD gF _ _ l5 azy azz Vv _ ?cZ ?df QJ.out).mono ?_);(case cZ=>repeat (first|exact (Kd.bB PX.out HB.out)|(with_reducible refine Kd.bC ?_ _)|(with_reducible refine Kd.bD ?_ _)|(with_reducible refine Kd.bN ?_)));(case df=>exact HC5.out);rintro e w61 ⟨aDU,rfl,ho0,hb⟩;refine ⟨_,rfl,?_⟩;have Ws:=aa.mk (Kd.lX (Kd.vw ho0 (g:=Wq) (o:=.cells #[U Z gD,U Z gF] 27 (0,0)) gB) (iq gL));replace yN:=zt yN hb;replace gH:=aX gH hb;replace il:=aX il hb;replace jL:=aX jL hb;replace mK:=aX mK hb;replace tY:=aX tY hb;replace HB:=cO HB hb;(try clear hb);(try clear hb2);(try clear hk);(try clear hi);(try clear ho0);obtain ⟨atN,atO,aSf,aSg,aSh,aSi,aSj,atP,atQ,aSk,aSl,aSm,aSn,aSo⟩:=jF il.out;obtain ⟨ahc,ahd,ahe,ahf,atS,atT,ahg,ahh,ahi,ahj,atU,atV⟩:=wT tY.out;obtain ⟨aXk,aXl,aXm⟩:=Kd.nR yN.out;subst aXm)|((with_reducible refine aQ (f:=96) rfl ?_);refine dn (some 46) rfl rfl Try.func96 aM rfl #[.agg #[U Z aI,U Z aG,U Z bn,U Z bq,U Z bH,U Z bI,U Z bG],U Z a3,.slice aXk Vu.length aXl,.agg #[U Z fO,U Z fP,U Z fQ,U Z fT,U Z fH,U Z fI]] rfl ji ?_;(with_reducible refine (bR.calls k aI aG bn bq bH bI bG a3 _ _ Vu fO fP fQ fT fH fI Lj _ ?cZ ?df A12.out).mono ?_);(case cZ=>repeat (first|exact (Kd.gZ yN.out).2.2|(with_reducible refine Kd.bC ?_ _)|(with_reducible refine Kd.bD ?_ _)|(with_reducible refine Kd.bN ?_)));(case df=>exact (Kd.gZ yN.out).2.1);rintro e w65 ⟨rfl,hb⟩;refine ⟨_,rfl,?_⟩;replace yN:=zt yN hb;replace Ws:=zt Ws hb;replace gH:=aX gH hb;replace il:=aX il hb;replace jL:=aX jL hb;replace mK:=aX mK hb;replace tY:=aX tY hb;replace HB:=cO HB hb;(try clear hb);(try clear hb2);(try clear hk);(try clear hi)))
    go_ret
    exact ⟨lW,gL⟩
  ·rw [if_neg c11] at H
   have Jj:(Vv == 0) = false:=beq_eq_false_iff_ne.mpr c11
   have anF:(Vv != 0) = true:=bne_iff_ne.mpr c11
   obtain rfl:=Option.some.inj H
   go_enter Try.func97,Try.ntmps97
   go_wp2_with (first|((with_reducible refine aA (N:=7) rfl ?_);refine au (by rfl) (N:=7) (by rfl) (cs:=#[U Z ai,U Z aj,U Z aC,U Z aD,U Z aJ,U Z aH,U Z aK,.slice dW aT.length dN,.slice dZ ak.length dO]) (t:=25) fG ?_;intro anG hg w66 hbox hb;have gH:=aa.mk (hbox);have anH:=bS HB hg;have anI:=bS HB hg;replace HB:=cO HB hb;clear hb hbox hg)|((with_reducible refine aA (N:=8) rfl ?_);refine au (by rfl) (N:=8) (by rfl) (cs:=#[U Z aI,U Z aG,U Z bn,U Z bq,U Z bH,U Z bI,U Z bG]) (t:=29) fG ?_;intro anJ hg w67 hbox hb;have il:=aa.mk (hbox);have anK:=bS HB hg;have anL:=bS HB hg;have zQ:=eQ gH hg;have zR:=eT gH hg;replace gH:=aX gH hb;replace HB:=cO HB hb;clear hb hbox hg)|((with_reducible refine aA (N:=9) rfl ?_);refine au (by rfl) (N:=9) (by rfl) (cs:=#[U Z bZ,U Z cz,U Z dw,U Z dx]) (t:=31) fG ?_;intro UE hg w68 hbox hb;have jL:=aa.mk (hbox);have anM:=bS HB hg;have anN:=bS HB hg;have zS:=eQ gH hg;have zT:=eT gH hg;have zU:=eQ il hg;have zV:=eT il hg;replace gH:=aX gH hb;replace il:=aX il hb;replace HB:=cO HB hb;clear hb hbox hg)|((with_reducible refine aA (N:=11) rfl ?_);refine au (by rfl) (N:=11) (by rfl) (cs:=#[U Z gD,U Z gF]) (t:=27) fG ?_;intro Wq hg w69 hbox hb;have mK:=aa.mk (hbox);have anO:=bS HB hg;have anP:=bS HB hg;have zW:=eQ gH hg;have zX:=eT gH hg;have zY:=eQ il hg;have zZ:=eT il hg;have z8:=eQ jL hg;have Aa:=eT jL hg;replace gH:=aX gH hb;replace il:=aX il hb;replace jL:=aX jL hb;replace HB:=cO HB hb;clear hb hbox hg)|((with_reducible refine aA (N:=13) rfl ?_);refine au (by rfl) (N:=13) (by rfl) (cs:=#[U Z fO,U Z fP,U Z fQ,U Z fT,U Z fH,U Z fI]) (t:=81) fG ?_;intro anQ hg w70 hbox hb;have tY:=aa.mk (hbox);have anR:=bS HB hg;have anS:=bS HB hg;have Ab:=eQ gH hg;have Ac:=eT gH hg;have Ad:=eQ il hg;have Ae:=eT il hg;have Af:=eQ jL hg;have Ag:=eT jL hg;have C9:=eQ mK hg;have Da:=eT mK hg;replace gH:=aX gH hb;replace il:=aX il hb;replace jL:=aX jL hb;replace mK:=aX mK hb;replace HB:=cO HB hb;clear hb hbox hg;have ane:=zQ.out;have anf:=zR.out;have agw:=zS.out;have agx:=zT.out;have awS:=zW.out;have awT:=zX.out;have awU:=Ab.out;have awV:=Ac.out;obtain ⟨arb,arc,ard,arf,aSp,aSq,aSr,aSs,aSt,arh,ari,arj,ark,aSu,aSv,aSw,aSx,aSy⟩:=jA gH.out;have ang:=zU.out;have anh:=zV.out;have aCT:=zY.out;have aCU:=zZ.out;have anq:=Ad.out;have anr:=Ae.out;obtain ⟨Y4,Y5,Y6,Y7,Y8,Y9,aSz,Za,Zb,Zc,Zd,Ze,Zf,aSA⟩:=jF il.out;have aCV:=z8.out;have aCW:=Aa.out;have awY:=Af.out;have awZ:=Ag.out;obtain ⟨Nq,Nr,Ns,Nt,Nu,Nv,Nw,Ny⟩:=jc jL.out)|((with_reducible refine aQ (f:=84) rfl ?_);refine dn (some 24) rfl rfl Try.func84 aM rfl #[.agg #[U Z ai,U Z aj,U Z aC,U Z aD,U Z aJ,U Z aH,U Z aK,.slice dW aT.length dN,.slice dZ ak.length dO],.agg #[U Z aI,U Z aG,U Z bn,U Z bq,U Z bH,U Z bI,U Z bG],.agg #[U Z bZ,U Z cz,U Z dw,U Z dx],U Z a3,.slice A5 l5.length c5] rfl ji ?_;(with_reducible refine (dE.calls k ai aj aC aD aJ aH aK _ _ aT _ _ ak aI aG bn bq bH bI bG bZ cz dw dx a3 _ _ l5 Vu atD UD _ ?cZ ?df ?eu ?eB ?BF ?BG A8.out).mono ?_);(case cZ=>repeat (first|exact (Kd.bB ik.out HB.out)|(with_reducible refine Kd.bC ?_ _)|(with_reducible refine Kd.bD ?_ _)|(with_reducible refine Kd.bN ?_)));(case df=>exact iC.out);(case eu=>repeat (first|exact (Kd.bB gN.out HB.out)|(with_reducible refine Kd.bC ?_ _)|(with_reducible refine Kd.bD ?_ _)|(with_reducible refine Kd.bN ?_)));(case eB=>exact iD.out);(case BF=>repeat (first|exact (Kd.bB PX.out HB.out)|(with_reducible refine Kd.bC ?_ _)|(with_reducible refine Kd.bD ?_ _)|(with_reducible refine Kd.bN ?_)));(case BG=>exact HC5.out);rintro e w83 ⟨azA,rfl,ho0,hb⟩;refine ⟨_,rfl,?_⟩;have yN:=aa.mk (Kd.lX (Kd.vw ho0 (g:=UE) (o:=.cells #[U Z bZ,U Z cz,U Z dw,U Z dx] 31 (0,0)) gB) (iq gL));replace gH:=aX gH hb;replace il:=aX il hb;replace jL:=aX jL hb;replace mK:=aX mK hb;replace tY:=aX tY hb;replace HB:=cO HB hb;(try clear hb);(try clear hb2);(try clear hk);(try clear hi);(try clear ho0);obtain ⟨Zg,Zh,aSB,aSC,aSD,aSE,aSF,Zi,Zj,aSG,aSH,aSI,aSJ,aSK⟩:=jF il.out;have a3P:=C9.out;have a3Q:=Da.out;obtain ⟨aSL,aSM,aSN,aSO⟩:=iZ mK.out)|((with_reducible refine aQ (f:=92) rfl ?_);refine dn (some 35) rfl rfl Try.func92 aM rfl #[.agg #[U Z aI,U Z aG,U Z bn,U Z bq,U Z bH,U Z bI,U Z bG],.agg #[U Z gD,U Z gF],.slice A5 l5.length c5] rfl ji ?_;(with_reducible refine (bW.calls k aI aG bn bq bH bI bG gD gF _ _ l5 azy azz Vv _ ?cZ ?df QJ.out).mono ?_);(case cZ=>repeat (first|exact (Kd.bB PX.out HB.out)|(with_reducible refine Kd.bC ?_ _)|(with_reducible refine Kd.bD ?_ _)|(with_reducible refine Kd.bN ?_)));(case df=>exact HC5.out);rintro e w87 ⟨aDU,rfl,ho0,hb⟩;refine ⟨_,rfl,?_⟩;have Ws:=aa.mk (Kd.lX (Kd.vw ho0 (g:=Wq) (o:=.cells #[U Z gD,U Z gF] 27 (0,0)) gB) (iq gL));replace yN:=zt yN hb;replace gH:=aX gH hb;replace il:=aX il hb;replace jL:=aX jL hb;replace mK:=aX mK hb;replace tY:=aX tY hb;replace HB:=cO HB hb;(try clear hb);(try clear hb2);(try clear hk);(try clear hi);(try clear ho0)))
   go_ret
   exact ⟨lW,gL⟩
 ·rw [if_neg c9] at H
  have Mm:(UD == 0) = false:=beq_eq_false_iff_ne.mpr c9
  have azx:(UD != 0) = true:=bne_iff_ne.mpr c9
  obtain rfl:=Option.some.inj H
  go_enter Try.func97,Try.ntmps97
  go_wp2_with (first|((with_reducible refine aA (N:=7) rfl ?_);refine au (by rfl) (N:=7) (by rfl) (cs:=#[U Z ai,U Z aj,U Z aC,U Z aD,U Z aJ,U Z aH,U Z aK,.slice dW aT.length dN,.slice dZ ak.length dO]) (t:=25) fG ?_;intro anG hg w88 hbox hb;have gH:=aa.mk (hbox);have anH:=bS HB hg;have anI:=bS HB hg;replace HB:=cO HB hb;clear hb hbox hg)|((with_reducible refine aA (N:=8) rfl ?_);refine au (by rfl) (N:=8) (by rfl) (cs:=#[U Z aI,U Z aG,U Z bn,U Z bq,U Z bH,U Z bI,U Z bG]) (t:=29) fG ?_;intro anJ hg w89 hbox hb;have il:=aa.mk (hbox);have anK:=bS HB hg;have anL:=bS HB hg;have zQ:=eQ gH hg;have zR:=eT gH hg;replace gH:=aX gH hb;replace HB:=cO HB hb;clear hb hbox hg)|((with_reducible refine aA (N:=9) rfl ?_);refine au (by rfl) (N:=9) (by rfl) (cs:=#[U Z bZ,U Z cz,U Z dw,U Z dx]) (t:=31) fG ?_;intro UE hg w90 hbox hb;have jL:=aa.mk (hbox);have anM:=bS HB hg;have anN:=bS HB hg;have zS:=eQ gH hg;have zT:=eT gH hg;have zU:=eQ il hg;have zV:=eT il hg;replace gH:=aX gH hb;replace il:=aX il hb;replace HB:=cO HB hb;clear hb hbox hg)|((with_reducible refine aA (N:=11) rfl ?_);refine au (by rfl) (N:=11) (by rfl) (cs:=#[U Z gD,U Z gF]) (t:=27) fG ?_;intro Wq hg w91 hbox hb;have mK:=aa.mk (hbox);have anO:=bS HB hg;have anP:=bS HB hg;have zW:=eQ gH hg;have zX:=eT gH hg;have zY:=eQ il hg;have zZ:=eT il hg;have z8:=eQ jL hg;have Aa:=eT jL hg;replace gH:=aX gH hb;replace il:=aX il hb;replace jL:=aX jL hb;replace HB:=cO HB hb;clear hb hbox hg)|((with_reducible refine aA (N:=13) rfl ?_);refine au (by rfl) (N:=13) (by rfl) (cs:=#[U Z fO,U Z fP,U Z fQ,U Z fT,U Z fH,U Z fI]) (t:=81) fG ?_;intro anQ hg w92 hbox hb;have tY:=aa.mk (hbox);have anR:=bS HB hg;have anS:=bS HB hg;have Ab:=eQ gH hg;have Ac:=eT gH hg;have Ad:=eQ il hg;have Ae:=eT il hg;have Af:=eQ jL hg;have Ag:=eT jL hg;have C9:=eQ mK hg;have Da:=eT mK hg;replace gH:=aX gH hb;replace il:=aX il hb;replace jL:=aX jL hb;replace mK:=aX mK hb;replace HB:=cO HB hb;clear hb hbox hg;have a3R:=zQ.out;have a3S:=zR.out;have aC7:=zS.out;have aC8:=zT.out;have aw0:=zW.out;have aw1:=zX.out;have a3T:=Ab.out;have a3U:=Ac.out;obtain ⟨aSP,aSQ,aSR,aSS,aST,aSU,aSV,aSW,aSX,aSY,aSZ,aS0,aS1,aS2,aS3,aS4,aS5,aS6⟩:=jA gH.out;have a3V:=zU.out;have a3W:=zV.out;have a3X:=zY.out;have a3Y:=zZ.out;have azB:=Ad.out;have azC:=Ae.out;obtain ⟨aDV,aDW,aDX,aDY,aDZ,aD0,aD1,aD2,aD3,aD4,aD5,aD6,aD7,aD8⟩:=jF il.out;have azD:=z8.out;have azE:=Aa.out;have azF:=Af.out;have azG:=Ag.out;obtain ⟨aD9,aEa,aEb,aEc,aEd,aEe,aEf,aEg⟩:=jc jL.out)|((with_reducible refine aQ (f:=84) rfl ?_);refine dn (some 24) rfl rfl Try.func84 aM rfl #[.agg #[U Z ai,U Z aj,U Z aC,U Z aD,U Z aJ,U Z aH,U Z aK,.slice dW aT.length dN,.slice dZ ak.length dO],.agg #[U Z aI,U Z aG,U Z bn,U Z bq,U Z bH,U Z bI,U Z bG],.agg #[U Z bZ,U Z cz,U Z dw,U Z dx],U Z a3,.slice A5 l5.length c5] rfl ji ?_;(with_reducible refine (dE.calls k ai aj aC aD aJ aH aK _ _ aT _ _ ak aI aG bn bq bH bI bG bZ cz dw dx a3 _ _ l5 Vu atD UD _ ?cZ ?df ?eu ?eB ?BF ?BG A8.out).mono ?_);(case cZ=>repeat (first|exact (Kd.bB ik.out HB.out)|(with_reducible refine Kd.bC ?_ _)|(with_reducible refine Kd.bD ?_ _)|(with_reducible refine Kd.bN ?_)));(case df=>exact iC.out);(case eu=>repeat (first|exact (Kd.bB gN.out HB.out)|(with_reducible refine Kd.bC ?_ _)|(with_reducible refine Kd.bD ?_ _)|(with_reducible refine Kd.bN ?_)));(case eB=>exact iD.out);(case BF=>repeat (first|exact (Kd.bB PX.out HB.out)|(with_reducible refine Kd.bC ?_ _)|(with_reducible refine Kd.bD ?_ _)|(with_reducible refine Kd.bN ?_)));(case BG=>exact HC5.out);rintro e a7p ⟨azA,rfl,ho0,hb⟩;refine ⟨_,rfl,?_⟩;have yN:=aa.mk (Kd.lX (Kd.vw ho0 (g:=UE) (o:=.cells #[U Z bZ,U Z cz,U Z dw,U Z dx] 31 (0,0)) gB) (iq gL));replace gH:=aX gH hb;replace il:=aX il hb;replace jL:=aX jL hb;replace mK:=aX mK hb;replace tY:=aX tY hb;replace HB:=cO HB hb;(try clear hb);(try clear hb2);(try clear hk);(try clear hi);(try clear ho0)))
  go_ret
  exact ⟨lW,gL⟩
end Go.Proofs.Ytmhaiihjfgfaoaa.Pr
end
