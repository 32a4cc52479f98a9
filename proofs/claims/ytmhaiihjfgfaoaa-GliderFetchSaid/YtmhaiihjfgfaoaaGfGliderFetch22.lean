import Derived.Test.YtmhaiihjfgfaoaaGfGliderFetch3
import Derived.Test.YtmhaiihjfgfaoaaGfGliderFetch20
import Derived.Test.YtmhaiihjfgfaoaaGfGliderFetch21
set_option linter.unusedVariables false
set_option linter.unusedSimpArgs false
open Go.Value renaming int → U
open Go.IntKind renaming i64 → Z
open Bool renaming true → ab, false → ac
section
namespace Go.Proofs.Ytmhaiihjfgfaoaa.Pr
open Go.RowKit Go.Proofs.YtmhaiihjfgfaoaaW.PrintWords Go.Proofs.YtmhaiihjfgfaoaaW.PrintLast Go.Proofs.YtmhaiihjfgfaoaaW.PrintMore
attribute [local go_sem] gp gq iA iB gu
set_option linter.unusedVariables false
set_option linter.unusedSimpArgs false
mutual
def bg.l0:Nat→Int→Int→Int→Bool→Int→Int→Int→Int→Int→Int→Int→Int→List Bool→List (rq)→Int→Int→Int→Int→Int→Int→Int→Int→Option (Int × Int × Int × Int)
 |0,_,_,_,_,_,_,_,_,_,_,_,_,_,_,_,_,_,_,_,_,_,_=>none
 |k+1,x2,x3,x4,Ph,Lg,nS,nT,yn,uG,wC,om,yo,yt,oC,yu,yw,yx,yz,AY,AZ,Ba,Bb=>if Lg < wC then (if (wrap64 (Lg*uG)) ≥ x4 then (bg.j1 k x2 x3 x4 Ph Lg true nS nT yn uG wC om yo yt oC yu yw yx yz AY AZ Ba Bb) else (bg.j1 k x2 x3 x4 Ph Lg (decide ((wrap64 ((wrap64 (Lg+1))*uG))≤x3)) nS nT yn uG wC om yo yt oC yu yw yx yz AY AZ Ba Bb)) else (some (AY,AZ,Ba,Bb))
def bg.j1:Nat→Int→Int→Int→Bool→Int→Bool→Int→Int→Int→Int→Int→Int→Int→List Bool→List (rq)→Int→Int→Int→Int→Int→Int→Int→Int→Option (Int × Int × Int × Int)
 |0,_,_,_,_,_,_,_,_,_,_,_,_,_,_,_,_,_,_,_,_,_,_,_=>none
 |k+1,x2,x3,x4,Ph,Lg,x36,nS,nT,yn,uG,wC,om,yo,yt,oC,yu,yw,yx,yz,AY,AZ,Ba,Bb=>if x36 = true then (bg.l0 k x2 x3 x4 Ph (wrap64 (Lg+1)) nS nT yn uG wC om yo yt oC yu yw yx yz AY AZ Ba Bb) else (bg.l1 k x2 x3 x4 Ph Lg 0 nS nT yn uG wC om yo yt oC yu yw yx yz AY AZ Ba Bb)
def bg.l1:Nat→Int→Int→Int→Bool→Int→Int→Int→Int→Int→Int→Int→Int→Int→List Bool→List (rq)→Int→Int→Int→Int→Int→Int→Int→Int→Option (Int × Int × Int × Int)
 |0,_,_,_,_,_,_,_,_,_,_,_,_,_,_,_,_,_,_,_,_,_,_,_=>none
 |k+1,x2,x3,x4,Ph,Lg,Lh,nS,nT,yn,uG,wC,om,yo,yt,oC,yu,yw,yx,yz,AY,AZ,Ba,Bb=>if Lh < (wrap64 (nS*nT)) then ((iF.f nS nT yn uG wC om yo yt oC Lh).bind fun af1=>((fB.f yu yw yx yz af1.1 af1.2.1 af1.2.2.1 af1.2.2.2).bind fun akC=>(if akC = true then (if 0≤(wrap64 ((wrap64 ((wrap64 ((wrap64 ((wrap64 (Lg*om))+x2))*nS))*nT))+Lh)) then (if (wrap64 ((wrap64 ((wrap64 ((wrap64 ((wrap64 (Lg*om))+x2))*nS))*nT))+Lh)) < (oC.length:Int) then (if Ph = true then ((fV.f AY AZ ((ay oC (wrap64 ((wrap64 ((wrap64 ((wrap64 ((wrap64 (Lg*om))+x2))*nS))*nT))+Lh))).f0.f0) ((ay oC (wrap64 ((wrap64 ((wrap64 ((wrap64 ((wrap64 (Lg*om))+x2))*nS))*nT))+Lh))).f0.f1)).bind fun Bw=>((fV.f Ba Bb ((ay oC (wrap64 ((wrap64 ((wrap64 ((wrap64 ((wrap64 (Lg*om))+x2))*nS))*nT))+Lh))).f1.f0) ((ay oC (wrap64 ((wrap64 ((wrap64 ((wrap64 ((wrap64 (Lg*om))+x2))*nS))*nT))+Lh))).f1.f1)).bind fun wX=>(bg.l1 k x2 x3 x4 true Lg (wrap64 (Lh+1)) nS nT yn uG wC om yo yt oC yu yw yx yz Bw.1 Bw.2 wX.1 wX.2))) else (bg.l1 k x2 x3 x4 true Lg (wrap64 (Lh+1)) nS nT yn uG wC om yo yt oC yu yw yx yz ((ay oC (wrap64 ((wrap64 ((wrap64 ((wrap64 ((wrap64 (Lg*om))+x2))*nS))*nT))+Lh))).f0.f0) ((ay oC (wrap64 ((wrap64 ((wrap64 ((wrap64 ((wrap64 (Lg*om))+x2))*nS))*nT))+Lh))).f0.f1) ((ay oC (wrap64 ((wrap64 ((wrap64 ((wrap64 ((wrap64 (Lg*om))+x2))*nS))*nT))+Lh))).f1.f0) ((ay oC (wrap64 ((wrap64 ((wrap64 ((wrap64 ((wrap64 (Lg*om))+x2))*nS))*nT))+Lh))).f1.f1))) else (none)) else (none)) else (bg.l1 k x2 x3 x4 Ph Lg (wrap64 (Lh+1)) nS nT yn uG wC om yo yt oC yu yw yx yz AY AZ Ba Bb)))) else (bg.l0 k x2 x3 x4 Ph (wrap64 (Lg+1)) nS nT yn uG wC om yo yt oC yu yw yx yz AY AZ Ba Bb)
end
def bg.f (k:Nat) (ai:Int) (aj:Int) (aC:Int) (aD:Int) (aJ:Int) (aH:Int) (aK:Int) (aT:List Bool) (ak:List (rq)) (aI:Int) (aG:Int) (bn:Int) (bq:Int) (a2:Int) (a3:Int) (a4:Int):Option (Int × Int × Int × Int):=bg.l0 k a2 a3 a4 false 0 ai aj aC aD aJ aH aK aT ak aI aG bn bq 0 0 0 0
def bg.T13:Bool × List (List Nat × List Nat):=(true,[([],[]),([0],[0]),([],[]),([2],[2]),([1,3],[1,3]),([],[]),([5],[5]),([],[]),([7],[7]),([6,8,4],[6,8]),([4,9],[4,9]),([10,9,0,1,2,3,4,5,6,7,8,9,10],[10])])
def bg.B13:List Nat:=[0,1,0,4,15,0,32,0,128,511,1023,2047]
theorem bg.aCB:qA .any (opsOf Try.f73 13) = bg.T13:=by kernel_rfl
theorem bg.azh:mI bg.T13.2 bg.B13 = true:=by kernel_rfl
set_option maxHeartbeats 8000000 in
set_option maxRecDepth 100000 in
theorem bg.calls (k:Nat) (ai:Int) (aj:Int) (aC:Int) (aD:Int) (aJ:Int) (aH:Int) (aK:Int) (dW:Option Addr) (dN:Nat) (aT:List Bool) (dZ:Option Addr) (dO:Nat) (ak:List (rq)) (aI:Int) (aG:Int) (bn:Int) (bq:Int) (a2:Int) (a3:Int) (a4:Int) (r1:Int) (r2:Int) (r3:Int) (r4:Int) (w:World) (jT:Kd.C Kd.bool w dW aT.length aT) (jU:aT.length≤dN) (jV:Kd.C GI w dZ ak.length ak) (jW:ak.length≤dO) (h:bg.f k ai aj aC aD aJ aH aK aT ak aI aG bn bq a2 a3 a4 = some (r1,r2,r3,r4)):
 Calls Try.prog 73 #[.agg #[U Z ai,U Z aj,U Z aC,U Z aD,U Z aJ,U Z aH,U Z aK,.slice dW aT.length dN,.slice dZ ak.length dO],.agg #[U Z aI,U Z aG,U Z bn,U Z bq],U Z a2,U Z a3,U Z a4] w fun e w'=>e = .returned (.agg #[U Z r1,U Z r2,U Z r3,U Z r4])∧Below w.heap.size w w':=by
 have BV:=Try.underlying25
 have rO:=Try.underlying31
 have alz:=Try.underlying40
 have pz:=Try.underlying27
 have ik:=aa.mk jT
 have iC:=aa.mk jU
 clear jT jU
 have gN:=aa.mk jV
 have iD:=aa.mk jW
 clear jV jW
 have HB:=aa.mk (Below.refl w.heap.size w)
 have H:(bg.l0 k a2 a3 a4 false 0 ai aj aC aD aJ aH aK aT ak aI aG bn bq 0 0 0 0) = some (r1,r2,r3,r4):=h
 clear h
 have H':=aa.mk H
 clear H
 go_enter Try.func73,Try.ntmps73
 go_wp2_with (first|((with_reducible refine aA (N:=5) rfl ?_);refine au (by rfl) (N:=5) (by rfl) (cs:=#[U Z ai,U Z aj,U Z aC,U Z aD,U Z aJ,U Z aH,U Z aK,.slice dW aT.length dN,.slice dZ ak.length dO]) (t:=25) fG ?_;intro oZ hg w6 hbox hb;have iK:=aa.mk (hbox);have a2n:=bS HB hg;have a2o:=bS HB hg;replace HB:=cO HB hb;clear hb hbox hg)|((with_reducible refine aA (N:=6) rfl ?_);refine au (by rfl) (N:=6) (by rfl) (cs:=#[U Z aI,U Z aG,U Z bn,U Z bq]) (t:=31) fG ?_;intro BR hg w7 hbox hb;have gQ:=aa.mk (hbox);have a2p:=bS HB hg;have a2q:=bS HB hg;have wY:=eQ iK hg;have wZ:=eT iK hg;replace iK:=aX iK hb;replace HB:=cO HB hb;clear hb hbox hg)|((with_reducible refine aA (N:=10) rfl ?_);refine au (by rfl) (N:=10) (by rfl) (cs:=#[U Z 0,U Z 0,U Z 0,U Z 0]) (t:=40) fG ?_;intro abN hg w8 hbox hb;have lC:=aa.mk (hbox);have a2r:=bS HB hg;have a2s:=bS HB hg;have xc:=eQ iK hg;have xe:=eT iK hg;have akD:=eQ gQ hg;have akE:=eT gQ hg;replace iK:=aX iK hb;replace gQ:=aX gQ hb;replace HB:=cO HB hb;clear hb hbox hg)|((with_reducible refine aA (N:=11) rfl ?_);refine au (by rfl) (N:=11) (by rfl) (cs:=#[U Z 0,U Z 0,U Z 0,U Z 0]) (t:=40) fG ?_;intro QQ hg w9 hbox hb;have kU:=aa.mk (hbox);have a2t:=bS HB hg;have a2u:=bS HB hg;have xg:=eQ iK hg;have xh:=eT iK hg;have PR:=eQ gQ hg;have PS:=eT gQ hg;have PT:=eQ lC hg;have PU:=eT lC hg;replace iK:=aX iK hb;replace gQ:=aX gQ hb;replace lC:=aX lC hb;replace HB:=cO HB hb;clear hb hbox hg))
 go_loopg [12,13] k (fun kq v12 v13 w'=>∃ (kz:Bool) (iw:Int) (oU:Int) (pO:Int) (qD:Int) (rT:Int),v12 = .bool kz∧v13 = U Z iw∧aa (bg.l0 kq a2 a3 a4 kz iw ai aj aC aD aJ aH aK aT ak aI aG bn bq oU pO qD rT = some (r1,r2,r3,r4))∧aa (kq≤k)∧aa (w'.heap[oZ]? = some (.cells #[U Z ai,U Z aj,U Z aC,U Z aD,U Z aJ,U Z aH,U Z aK,(.slice dW aT.length dN),(.slice dZ ak.length dO)] 25 (0,0)))∧aa (w'.heap[BR]? = some (.cells #[U Z aI,U Z aG,U Z bn,U Z bq] 31 (0,0)))∧aa (w'.heap[abN]? = some (.cells #[U Z 0,U Z 0,U Z 0,U Z 0] 40 (0,0)))∧aa (w'.heap[QQ]? = some (.cells #[U Z oU,U Z pO,U Z qD,U Z rT] 40 (0,0)))∧aa (Below w.heap.size w w'))
 case atStart=>exact ⟨(false),(0),(0),(0),(0),(0),nM,nM,H',⟨Nat.le_refl _⟩,⟨gB⟩,⟨gB⟩,⟨gB⟩,⟨gB⟩,⟨gL⟩⟩
 case round =>
  clear H'
  try clear p2
  try clear c7
  obtain ⟨kz,iw,oU,pO,qD,rT,rfl,rfl,HA,JP,iK,gQ,lC,kU,HB⟩:=hrel
  cases gk with
  |zero=>exact absurd HA.out (by simp [bg.l0])
  |succ k1 =>
   have H:=HA.out
   clear HA
   simp only [bg.l0] at H
   by_cases c10:iw < aJ
   ·rw [if_pos c10] at H
    have Ea:decide (iw < aJ) = true:=decide_eq_true c10
    clear c10
    have azi:=aa.mk H
    clear H
    have a2v:=wY.out
    have a2w:=wZ.out
    have aaP:=xc.out
    have aaQ:=xe.out
    have afS:=xg.out
    have afT:=xh.out
    obtain ⟨oL,oM,sP,sQ,uC,uD,AV,Cw,Cx,oN,oO,sS,sU,uE,uF,AX,Cy,Cz⟩:=jA iK.out
    go_upto_region 6 with (fail)
    go_cut [36] (fun v36 wc=>∃ (kq:Nat) (XK:Bool),v36 = .bool XK∧aa (bg.j1 kq a2 a3 a4 kz iw XK ai aj aC aD aJ aH aK aT ak aI aG bn bq oU pO qD rT = some (r1,r2,r3,r4))∧aa (kq≤k1)∧aa (wc.heap[oZ]? = some (.cells #[U Z ai,U Z aj,U Z aC,U Z aD,U Z aJ,U Z aH,U Z aK,(.slice dW aT.length dN),(.slice dZ ak.length dO)] 25 (0,0)))∧aa (wc.heap[BR]? = some (.cells #[U Z aI,U Z aG,U Z bn,U Z bq] 31 (0,0)))∧aa (wc.heap[abN]? = some (.cells #[U Z 0,U Z 0,U Z 0,U Z 0] 40 (0,0)))∧aa (wc.heap[QQ]? = some (.cells #[U Z oU,U Z pO,U Z qD,U Z rT] 40 (0,0)))∧aa (Below w.heap.size w wc))
    case first =>
     have H:=azi.out
     clear azi
     by_cases c16:(wrap64 (iw*aD)) ≥ a4
     ·rw [if_pos c16] at H
      have Eb:decide (a4≤(wrap64 (iw*aD))) = true:=decide_eq_true c16
      clear c16
      (first|rw [Eb]|(simp only [ib,ig];rw [Eb])|skip)
      have H':=aa.mk H
      clear H
      have Uj:=wY.out
      have Uk:=wZ.out
      have abF:=xc.out
      have abG:=xe.out
      have QL:=xg.out
      have QM:=xh.out
      obtain ⟨wu,wy,AP,AQ,Cn,Co,G6,RI,RJ,wz,wB,AR,AU,Cq,Cr,G7,RL,RN⟩:=jA iK.out
      go_wp2
      go_meet
      case rel=>exact ⟨_,(true),nM,H',⟨by have:=JP.out;first|omega|exact Nat.le_refl _⟩,⟨gB⟩,⟨gB⟩,⟨gB⟩,⟨gB⟩,⟨gL⟩⟩
     ·rw [if_neg c16] at H
      have Eb:decide (a4≤(wrap64 (iw*aD))) = false:=decide_eq_false c16
      clear c16
      (first|rw [Eb]|(simp only [ib,ig];rw [Eb])|skip)
      have H':=aa.mk H
      clear H
      have V7:=wY.out
      have V8:=wZ.out
      have V9:=xc.out
      have Wd:=xe.out
      have Uq:=xg.out
      have Ur:=xh.out
      obtain ⟨rC,rD,xE,xG,Ep,Er,Es,J2,J3,rE,rF,xH,xI,Et,Eu,Ev,J4,J5⟩:=jA iK.out
      go_wp2
      go_meet
      case rel=>exact ⟨_,(decide ((wrap64 ((wrap64 (iw+1))*aD))≤a3)),nM,H',⟨by have:=JP.out;first|omega|exact Nat.le_refl _⟩,⟨gB⟩,⟨gB⟩,⟨gB⟩,⟨gB⟩,⟨gL⟩⟩
    case rest =>
     clear azi
     try clear c1
     try clear c2
     try clear p2
     try clear p6
     try clear c7
     try clear c10
     try clear Ea
     try clear c12
     try clear c13
     try clear c14
     try clear c16
     try clear Eb
     try clear c17
     try clear c18
     try clear c19
     try clear c21
     try clear XL
     try clear c23
     try clear oL oM sP sQ uC uD AV Cw Cx
     try clear wu wy AP AQ Cn Co G6 RI RJ
     try clear rC rD xE xG Ep Er Es J2 J3
     try clear oN oO sS sU uE uF AX Cy Cz
     try clear wz wB AR AU Cq Cr G7 RL RN
     try clear rE rF xH xI Et Eu Ev J4 J5
     try clear p2
     obtain ⟨kq,XK,rfl,HA,aek,iK,gQ,lC,kU,HB⟩:=hcut
     cases kq with
     |zero=>exact absurd HA.out (by simp [bg.j1])
     |succ am4 =>
      have H:=HA.out
      clear HA
      simp only [bg.j1] at H
      by_cases c25:XK = true
      ·subst c25
       have H1:(bg.l0 am4 a2 a3 a4 kz (wrap64 (iw+1)) ai aj aC aD aJ aH aK aT ak aI aG bn bq oU pO qD rT) = some (r1,r2,r3,r4):=by rw [if_pos rfl] at H;exact H
       clear H
       have H:=H1
       clear H1
       have H':=aa.mk H
       clear H
       go_wp2
       go_roundg am4
       case measure=>have:=JP.out;have:=aek.out;omega
       case rel=>exact ⟨(kz),(wrap64 (iw+1)),(oU),(pO),(qD),(rT),nM,nM,H',⟨by have:=JP.out;have:=aek.out;omega⟩,⟨gB⟩,⟨gB⟩,⟨gB⟩,⟨gB⟩,⟨gL⟩⟩
      ·replace c25:=Bool.eq_false_iff.mpr c25
       subst c25
       have H1:(bg.l1 am4 a2 a3 a4 kz iw 0 ai aj aC aD aJ aH aK aT ak aI aG bn bq oU pO qD rT) = some (r1,r2,r3,r4):=by rw [if_neg (show ¬ (false = true) by decide)] at H;exact H
       clear H
       have H:=H1
       clear H1
       have H':=aa.mk H
       clear H
       go_wp2
       go_loopg [12,14] am4 (fun kq v12 v14 w'=>∃ (FN:Bool) (jo:Int) (lI:Int) (kF:Int) (jK:Int) (jq:Int),v12 = .bool FN∧v14 = U Z jo∧aa (bg.l1 kq a2 a3 a4 FN iw jo ai aj aC aD aJ aH aK aT ak aI aG bn bq lI kF jK jq = some (r1,r2,r3,r4))∧aa (kq≤am4)∧aa (w'.heap[oZ]? = some (.cells #[U Z ai,U Z aj,U Z aC,U Z aD,U Z aJ,U Z aH,U Z aK,(.slice dW aT.length dN),(.slice dZ ak.length dO)] 25 (0,0)))∧aa (w'.heap[BR]? = some (.cells #[U Z aI,U Z aG,U Z bn,U Z bq] 31 (0,0)))∧aa (w'.heap[abN]? = some (.cells #[U Z 0,U Z 0,U Z 0,U Z 0] 40 (0,0)))∧aa (w'.heap[QQ]? = some (.cells #[U Z lI,U Z kF,U Z jK,U Z jq] 40 (0,0)))∧aa (Below w.heap.size w w'))
       case atStart=>exact ⟨(kz),(0),(oU),(pO),(qD),(rT),nM,nM,H',⟨Nat.le_refl _⟩,⟨gB⟩,⟨gB⟩,⟨gB⟩,⟨gB⟩,⟨gL⟩⟩
       case round =>
        clear H'
        try clear c1
        try clear c2
        try clear p2
        try clear p6
        try clear c7
        try clear c10
        try clear Ea
        try clear c12
        try clear c13
        try clear c14
        try clear c16
        try clear Eb
        try clear c17
        try clear c18
        try clear c19
        try clear c21
        try clear XL
        try clear c23
        try clear c25
        try clear oL oM sP sQ uC uD AV Cw Cx
        try clear wu wy AP AQ Cn Co G6 RI RJ
        try clear rC rD xE xG Ep Er Es J2 J3
        try clear oN oO sS sU uE uF AX Cy Cz
        try clear wz wB AR AU Cq Cr G7 RL RN
        try clear rE rF xH xI Et Eu Ev J4 J5
        try clear p2
        try clear p6
        obtain ⟨FN,jo,lI,kF,jK,jq,rfl,rfl,HA,HK3,iK,gQ,lC,kU,HB⟩:=hrel
        cases gk with
        |zero=>exact absurd HA.out (by simp [bg.l1])
        |succ k3 =>
         have H:=HA.out
         clear HA
         simp only [bg.l1] at H
         by_cases RP:jo < (wrap64 (ai*aj))
         ·rw [if_pos RP] at H
          have We:decide (jo < (wrap64 (ai*aj))) = true:=decide_eq_true RP
          clear RP
          replace H:=Option.bind_eq_some_iff.mp H
          obtain ⟨⟨Vl,Vm,Vn,Vo⟩,aCC,H⟩:=H
          replace H:((fB.f aI aG bn bq Vl Vm Vn Vo).bind fun akC=>(if akC = true then (if 0≤(wrap64 ((wrap64 ((wrap64 ((wrap64 ((wrap64 (iw*aH))+a2))*ai))*aj))+jo)) then (if (wrap64 ((wrap64 ((wrap64 ((wrap64 ((wrap64 (iw*aH))+a2))*ai))*aj))+jo)) < (ak.length:Int) then (if FN = true then ((fV.f lI kF ((ay ak (wrap64 ((wrap64 ((wrap64 ((wrap64 ((wrap64 (iw*aH))+a2))*ai))*aj))+jo))).f0.f0) ((ay ak (wrap64 ((wrap64 ((wrap64 ((wrap64 ((wrap64 (iw*aH))+a2))*ai))*aj))+jo))).f0.f1)).bind fun Bw=>((fV.f jK jq ((ay ak (wrap64 ((wrap64 ((wrap64 ((wrap64 ((wrap64 (iw*aH))+a2))*ai))*aj))+jo))).f1.f0) ((ay ak (wrap64 ((wrap64 ((wrap64 ((wrap64 ((wrap64 (iw*aH))+a2))*ai))*aj))+jo))).f1.f1)).bind fun wX=>(bg.l1 k3 a2 a3 a4 true iw (wrap64 (jo+1)) ai aj aC aD aJ aH aK aT ak aI aG bn bq Bw.1 Bw.2 wX.1 wX.2))) else (bg.l1 k3 a2 a3 a4 true iw (wrap64 (jo+1)) ai aj aC aD aJ aH aK aT ak aI aG bn bq ((ay ak (wrap64 ((wrap64 ((wrap64 ((wrap64 ((wrap64 (iw*aH))+a2))*ai))*aj))+jo))).f0.f0) ((ay ak (wrap64 ((wrap64 ((wrap64 ((wrap64 ((wrap64 (iw*aH))+a2))*ai))*aj))+jo))).f0.f1) ((ay ak (wrap64 ((wrap64 ((wrap64 ((wrap64 ((wrap64 (iw*aH))+a2))*ai))*aj))+jo))).f1.f0) ((ay ak (wrap64 ((wrap64 ((wrap64 ((wrap64 ((wrap64 (iw*aH))+a2))*ai))*aj))+jo))).f1.f1))) else (none)) else (none)) else (bg.l1 k3 a2 a3 a4 FN iw (wrap64 (jo+1)) ai aj aC aD aJ aH aK aT ak aI aG bn bq lI kF jK jq))) = some (r1,r2,r3,r4):=H
          have A27:=aa.mk aCC
          clear aCC
          replace H:=Option.bind_eq_some_iff.mp H
          obtain ⟨akC,aCD,H⟩:=H
          replace H:(if akC = true then (if 0≤(wrap64 ((wrap64 ((wrap64 ((wrap64 ((wrap64 (iw*aH))+a2))*ai))*aj))+jo)) then (if (wrap64 ((wrap64 ((wrap64 ((wrap64 ((wrap64 (iw*aH))+a2))*ai))*aj))+jo)) < (ak.length:Int) then (if FN = true then ((fV.f lI kF ((ay ak (wrap64 ((wrap64 ((wrap64 ((wrap64 ((wrap64 (iw*aH))+a2))*ai))*aj))+jo))).f0.f0) ((ay ak (wrap64 ((wrap64 ((wrap64 ((wrap64 ((wrap64 (iw*aH))+a2))*ai))*aj))+jo))).f0.f1)).bind fun Bw=>((fV.f jK jq ((ay ak (wrap64 ((wrap64 ((wrap64 ((wrap64 ((wrap64 (iw*aH))+a2))*ai))*aj))+jo))).f1.f0) ((ay ak (wrap64 ((wrap64 ((wrap64 ((wrap64 ((wrap64 (iw*aH))+a2))*ai))*aj))+jo))).f1.f1)).bind fun wX=>(bg.l1 k3 a2 a3 a4 true iw (wrap64 (jo+1)) ai aj aC aD aJ aH aK aT ak aI aG bn bq Bw.1 Bw.2 wX.1 wX.2))) else (bg.l1 k3 a2 a3 a4 true iw (wrap64 (jo+1)) ai aj aC aD aJ aH aK aT ak aI aG bn bq ((ay ak (wrap64 ((wrap64 ((wrap64 ((wrap64 ((wrap64 (iw*aH))+a2))*ai))*aj))+jo))).f0.f0) ((ay ak (wrap64 ((wrap64 ((wrap64 ((wrap64 ((wrap64 (iw*aH))+a2))*ai))*aj))+jo))).f0.f1) ((ay ak (wrap64 ((wrap64 ((wrap64 ((wrap64 ((wrap64 (iw*aH))+a2))*ai))*aj))+jo))).f1.f0) ((ay ak (wrap64 ((wrap64 ((wrap64 ((wrap64 ((wrap64 (iw*aH))+a2))*ai))*aj))+jo))).f1.f1))) else (none)) else (none)) else (bg.l1 k3 a2 a3 a4 FN iw (wrap64 (jo+1)) ai aj aC aD aJ aH aK aT ak aI aG bn bq lI kF jK jq)) = some (r1,r2,r3,r4):=H
          have A28:=aa.mk aCD
          clear aCD
          by_cases c29:akC = true
          ·subst c29
           have H1:(if 0≤(wrap64 ((wrap64 ((wrap64 ((wrap64 ((wrap64 (iw*aH))+a2))*ai))*aj))+jo)) then (if (wrap64 ((wrap64 ((wrap64 ((wrap64 ((wrap64 (iw*aH))+a2))*ai))*aj))+jo)) < (ak.length:Int) then (if FN = true then ((fV.f lI kF ((ay ak (wrap64 ((wrap64 ((wrap64 ((wrap64 ((wrap64 (iw*aH))+a2))*ai))*aj))+jo))).f0.f0) ((ay ak (wrap64 ((wrap64 ((wrap64 ((wrap64 ((wrap64 (iw*aH))+a2))*ai))*aj))+jo))).f0.f1)).bind fun Bw=>((fV.f jK jq ((ay ak (wrap64 ((wrap64 ((wrap64 ((wrap64 ((wrap64 (iw*aH))+a2))*ai))*aj))+jo))).f1.f0) ((ay ak (wrap64 ((wrap64 ((wrap64 ((wrap64 ((wrap64 (iw*aH))+a2))*ai))*aj))+jo))).f1.f1)).bind fun wX=>(bg.l1 k3 a2 a3 a4 true iw (wrap64 (jo+1)) ai aj aC aD aJ aH aK aT ak aI aG bn bq Bw.1 Bw.2 wX.1 wX.2))) else (bg.l1 k3 a2 a3 a4 true iw (wrap64 (jo+1)) ai aj aC aD aJ aH aK aT ak aI aG bn bq ((ay ak (wrap64 ((wrap64 ((wrap64 ((wrap64 ((wrap64 (iw*aH))+a2))*ai))*aj))+jo))).f0.f0) ((ay ak (wrap64 ((wrap64 ((wrap64 ((wrap64 ((wrap64 (iw*aH))+a2))*ai))*aj))+jo))).f0.f1) ((ay ak (wrap64 ((wrap64 ((wrap64 ((wrap64 ((wrap64 (iw*aH))+a2))*ai))*aj))+jo))).f1.f0) ((ay ak (wrap64 ((wrap64 ((wrap64 ((wrap64 ((wrap64 (iw*aH))+a2))*ai))*aj))+jo))).f1.f1))) else (none)) else (none)) = some (r1,r2,r3,r4):=by rw [if_pos rfl] at H;exact H
           clear H
           have H:=H1
           clear H1
           obtain ⟨jl,Wh⟩:∃ j_:Int,(wrap64 ((wrap64 ((wrap64 ((wrap64 ((wrap64 (iw*aH))+a2))*ai))*aj))+jo)) = j_:=⟨_,rfl⟩
           replace H:(if 0≤(jl) then (if (jl) < (ak.length:Int) then (if FN = true then ((fV.f lI kF ((ay ak (jl)).f0.f0) ((ay ak (jl)).f0.f1)).bind fun Bw=>((fV.f jK jq ((ay ak (jl)).f1.f0) ((ay ak (jl)).f1.f1)).bind fun wX=>(bg.l1 k3 a2 a3 a4 true iw (wrap64 (jo+1)) ai aj aC aD aJ aH aK aT ak aI aG bn bq Bw.1 Bw.2 wX.1 wX.2))) else (bg.l1 k3 a2 a3 a4 true iw (wrap64 (jo+1)) ai aj aC aD aJ aH aK aT ak aI aG bn bq ((ay ak (jl)).f0.f0) ((ay ak (jl)).f0.f1) ((ay ak (jl)).f1.f0) ((ay ak (jl)).f1.f1))) else (none)) else (none)) = some (r1,r2,r3,r4):=by first|(rw [Wh] at H;exact H)|(simp only [Wh] at H ⊢;exact H)
           (try rw [Wh] at A27)
           (try rw [Wh] at A28)
           have aW2:(IntKind.i64.wrap ((wrap64 ((wrap64 ((wrap64 ((wrap64 (iw*aH))+a2))*ai))*aj))+jo)) = jl:=(ib _).trans Wh
           by_cases c31:0≤(jl)
           ·rw [if_pos c31] at H
            have awL:decide (0≤(jl)) = true:=decide_eq_true c31
            clear c31
            by_cases c32:(jl) < (ak.length:Int)
            ·rw [if_pos c32] at H
             have a2x:decide ((jl) < (ak.length:Int)) = true:=decide_eq_true c32
             clear c32
             by_cases c33:FN = true
             ·subst c33
              have H1:((fV.f lI kF ((ay ak (jl)).f0.f0) ((ay ak (jl)).f0.f1)).bind fun Bw=>((fV.f jK jq ((ay ak (jl)).f1.f0) ((ay ak (jl)).f1.f1)).bind fun wX=>(bg.l1 k3 a2 a3 a4 true iw (wrap64 (jo+1)) ai aj aC aD aJ aH aK aT ak aI aG bn bq Bw.1 Bw.2 wX.1 wX.2))) = some (r1,r2,r3,r4):=by rw [if_pos rfl] at H;exact H
              clear H
              have H:=H1
              clear H1
              replace H:=Option.bind_eq_some_iff.mp H
              obtain ⟨⟨aem,akF⟩,aCE,H⟩:=H
              replace H:((fV.f jK jq ((ay ak (jl)).f1.f0) ((ay ak (jl)).f1.f1)).bind fun wX=>(bg.l1 k3 a2 a3 a4 true iw (wrap64 (jo+1)) ai aj aC aD aJ aH aK aT ak aI aG bn bq aem akF wX.1 wX.2)) = some (r1,r2,r3,r4):=H
              have A34:=aa.mk aCE
              clear aCE
              replace H:=Option.bind_eq_some_iff.mp H
              obtain ⟨⟨aqP,azj⟩,aCF,H⟩:=H
              replace H:(bg.l1 k3 a2 a3 a4 true iw (wrap64 (jo+1)) ai aj aC aD aJ aH aK aT ak aI aG bn bq aem akF aqP azj) = some (r1,r2,r3,r4):=H
              have A35:=aa.mk aCF
              clear aCF
              have H':=aa.mk H
              clear H
              have awM:=wY.out
              have awN:=wZ.out
              have aCG:=xc.out
              have aCH:=xe.out
              have af2:=xg.out
              have af3:=xh.out
              obtain ⟨XM,XN,af4,af5,aqQ,aqR,aqS,aO1,aO2,XO,XP,af6,af7,aqT,aqU,aqV,aO3,aO4⟩:=jA iK.out
              try go_wp2
              replace iK:=aa.mk (ag iK.out)
              replace gQ:=aa.mk (ag gQ.out)
              replace lC:=aa.mk (ag lC.out)
              replace kU:=aa.mk (ag kU.out)
              replace HB:=aa.mk (bO HB.out)
              refine iN (n:=6) (S:=fun w'=>w'.cell? ⟨BR,0,none⟩ = some (U Z aI)∧w'.cell? ⟨BR,1,none⟩ = some (U Z aG)∧w'.cell? ⟨BR,2,none⟩ = some (U Z bn)∧w'.cell? ⟨BR,3,none⟩ = some (U Z bq)∧w'.cell? ⟨oZ,0,none⟩ = some (U Z ai)∧w'.cell? ⟨oZ,1,none⟩ = some (U Z aj)∧w'.cell? ⟨oZ,2,none⟩ = some (U Z aC)∧w'.cell? ⟨oZ,3,none⟩ = some (U Z aD)∧w'.cell? ⟨oZ,4,none⟩ = some (U Z aJ)∧w'.cell? ⟨oZ,5,none⟩ = some (U Z aH)∧w'.cell? ⟨oZ,6,none⟩ = some (U Z aK)∧w'.cell? ⟨oZ,7,none⟩ = some (.slice dW aT.length dN)∧w'.cell? ⟨oZ,8,none⟩ = some (.slice dZ ak.length dO)) (ds:=[]) #[ac,ac,ac,ac,ac,ac] aM rfl rfl ⟨bE gQ 0,bE gQ 1,bE gQ 2,bE gQ 3,Dm iK.out⟩ (fun hHeld=>?_)
              generalize wr.drew = w40 at iK gQ lC kU HB hHeld ⊢
              refine bV (i:=2) (N:=some 48) aM ?_
              refine iL (i:=0) (N:=some 46) aM hHeld ?_
              refine iL (i:=1) (N:=some 47) aM hHeld ?_
              refine iO (i:=3) (N:=some 49) #[ab,ab,ab,ab,ac,ac] rfl rfl aM (by decide) (fun K hK=>?_)
              refine gJ Try.func42 aM rfl #[.agg #[U Z ai,U Z aj,U Z aC,U Z aD,U Z aJ,U Z aH,U Z aK,.slice dW aT.length dN,.slice dZ ak.length dO],U Z jo] (by rfl) rfl rfl ji ?_
              with_reducible refine (iF.calls ai aj aC aD aJ aH aK _ _ aT _ _ ak jo Vl Vm Vn Vo _ ?cZ ?df ?eu ?eB A27.out).mono ?_
              (case cZ=>repeat (first|exact (Kd.bB ik.out HB.out)|(with_reducible refine Kd.bC ?_ _)|(with_reducible refine Kd.bD ?_ _)|(with_reducible refine Kd.bN ?_)))
              (case df=>exact iC.out)
              (case eu=>repeat (first|exact (Kd.bB gN.out HB.out)|(with_reducible refine Kd.bC ?_ _)|(with_reducible refine Kd.bD ?_ _)|(with_reducible refine Kd.bN ?_)))
              (case eB=>exact iD.out)
              rintro e w41 ⟨rfl,hb⟩
              refine ⟨_,rfl,?_⟩
              replace iK:=aX iK hb
              replace gQ:=aX gQ hb
              replace lC:=aX lC hb
              replace kU:=aX kU hb
              replace HB:=cO HB hb
              (try clear hb)
              (try clear hb2)
              (try clear hk)
              (try clear hi)
              refine hK.out _ _ ⟨bE gQ 0,bE gQ 1,bE gQ 2,bE gQ 3,Dm iK.out⟩ (fun hHeld=>?_)
              clear hK K
              refine dM azk ?_
              refine iO (i:=4) (N:=some 50) #[ab,ab,ab,ab,ab,ac] rfl rfl aM (by decide) (fun K hK=>?_)
              refine gJ Try.func104 aM rfl #[.agg #[U Z aI,U Z aG,U Z bn,U Z bq],.agg #[U Z Vl,U Z Vm,U Z Vn,U Z Vo]] (by rfl) rfl rfl ji ?_
              with_reducible refine (fB.calls aI aG bn bq Vl Vm Vn Vo true _ A28.out).mono ?_
              rintro e w42 ⟨rfl,hb⟩
              refine ⟨_,rfl,?_⟩
              replace iK:=aX iK hb
              replace gQ:=aX gQ hb
              replace lC:=aX lC hb
              replace kU:=aX kU hb
              replace HB:=cO HB hb
              (try clear hb)
              (try clear hb2)
              (try clear hk)
              (try clear hi)
              refine hK.out _ _ ⟨bE gQ 0,bE gQ 1,bE gQ 2,bE gQ 3,Dm iK.out⟩ (fun hHeld=>?_)
              clear hK K
              refine dM azl ?_
              refine bV (i:=5) (N:=some 51) aM ?_
              refine jS aM ?_
              obtain ⟨af8,af9,aga,agb,aqW,aqX,aqY,aqZ,aq0,agc,agd,age,agf,aq1,aq2,aq3,aq4,aq5⟩:=jA iK.out
              have aen:0≤((jl):Int):=of_decide_eq_true mq
              have aeo:(jl) < (ak.length:Int):=of_decide_eq_true mq
              obtain ⟨awO,azm,Hz,H9,Ia,Ib⟩:=zo gN.out (jl) aen aeo
              cases azm
              replace Hz:=(HB.out.cell (World.block_lt_of_cell? w _ Hz)).trans Hz
              replace H9:=(HB.out.cell (World.block_lt_of_cell? w _ H9)).trans H9
              replace Ia:=(HB.out.cell (World.block_lt_of_cell? w _ Ia)).trans Ia
              replace Ib:=(HB.out.cell (World.block_lt_of_cell? w _ Ib)).trans Ib
              replace aen:=eq_true aen
              replace aeo:=eq_true aeo
              try go_wp2_with (first|((with_reducible refine aA (N:=15) rfl ?_);refine au (by rfl) (N:=15) (by rfl) (cs:=#[U Z 0,U Z 0,U Z 0,U Z 0]) (t:=40) fG ?_;intro nN hg w44 hbox hb;have rQ:=aa.mk (hbox);have aCK:=bS HB hg;have aCL:=bS HB hg;have zH:=eQ iK hg;have zI:=eT iK hg;have zJ:=eQ gQ hg;have zK:=eT gQ hg;have zL:=eQ lC hg;have zM:=eT lC hg;have nY:=eQ kU hg;have zN:=eT kU hg;replace iK:=aX iK hb;replace gQ:=aX gQ hb;replace lC:=aX lC hb;replace kU:=aX kU hb;replace HB:=cO HB hb;clear hb hbox hg;have awP:=zI.out;have awQ:=zH.out;have agh:=zK.out;have agi:=zJ.out;have am5:=zM.out;have am6:=zL.out;have am7:=zN.out;have am8:=nY.out;obtain ⟨J6,J7,J8,J9,Ka,Kb,Ke,Kg⟩:=jc rQ.out))
              have vD:aa (((((w44.setCell ⟨nN,0,none⟩ (U Z ((ay ak (jl)).f0.f0))).setCell ⟨nN,1,none⟩ (U Z ((ay ak (jl)).f0.f1))).setCell ⟨nN,2,none⟩ (U Z ((ay ak (jl)).f1.f0))).setCell ⟨nN,3,none⟩ (U Z ((ay ak (jl)).f1.f1))).heap[oZ]? = some (.cells #[U Z ai,U Z aj,U Z aC,U Z aD,U Z aJ,U Z aH,U Z aK,.slice dW aT.length dN,.slice (some awO) ak.length dO] 25 (0,0))):=⟨gB⟩
              have vE:aa (((((w44.setCell ⟨nN,0,none⟩ (U Z ((ay ak (jl)).f0.f0))).setCell ⟨nN,1,none⟩ (U Z ((ay ak (jl)).f0.f1))).setCell ⟨nN,2,none⟩ (U Z ((ay ak (jl)).f1.f0))).setCell ⟨nN,3,none⟩ (U Z ((ay ak (jl)).f1.f1))).heap[BR]? = some (.cells #[U Z aI,U Z aG,U Z bn,U Z bq] 31 (0,0))):=⟨gB⟩
              have vF:aa (((((w44.setCell ⟨nN,0,none⟩ (U Z ((ay ak (jl)).f0.f0))).setCell ⟨nN,1,none⟩ (U Z ((ay ak (jl)).f0.f1))).setCell ⟨nN,2,none⟩ (U Z ((ay ak (jl)).f1.f0))).setCell ⟨nN,3,none⟩ (U Z ((ay ak (jl)).f1.f1))).heap[abN]? = some (.cells #[U Z 0,U Z 0,U Z 0,U Z 0] 40 (0,0))):=⟨gB⟩
              have vG:aa (((((w44.setCell ⟨nN,0,none⟩ (U Z ((ay ak (jl)).f0.f0))).setCell ⟨nN,1,none⟩ (U Z ((ay ak (jl)).f0.f1))).setCell ⟨nN,2,none⟩ (U Z ((ay ak (jl)).f1.f0))).setCell ⟨nN,3,none⟩ (U Z ((ay ak (jl)).f1.f1))).heap[QQ]? = some (.cells #[U Z lI,U Z kF,U Z jK,U Z jq] 40 (0,0))):=⟨gB⟩
              have vY:aa (((((w44.setCell ⟨nN,0,none⟩ (U Z ((ay ak (jl)).f0.f0))).setCell ⟨nN,1,none⟩ (U Z ((ay ak (jl)).f0.f1))).setCell ⟨nN,2,none⟩ (U Z ((ay ak (jl)).f1.f0))).setCell ⟨nN,3,none⟩ (U Z ((ay ak (jl)).f1.f1))).heap[nN]? = some (.cells #[U Z ((ay ak (jl)).f0.f0),U Z ((ay ak (jl)).f0.f1),U Z ((ay ak (jl)).f1.f0),U Z ((ay ak (jl)).f1.f1)] 40 (0,0))):=⟨by (with_reducible repeat (first|refine av ?_ _|refine ag ?_|refine af ?_ _));refine aN (cs:=#[U Z ((ay ak (jl)).f0.f0),U Z ((ay ak (jl)).f0.f1),U Z ((ay ak (jl)).f1.f0),U Z 0]) ?_ 3 _ rfl;(with_reducible repeat (first|refine av ?_ _|refine ag ?_|refine af ?_ _));refine aN (cs:=#[U Z ((ay ak (jl)).f0.f0),U Z ((ay ak (jl)).f0.f1),U Z 0,U Z 0]) ?_ 2 _ rfl;(with_reducible repeat (first|refine av ?_ _|refine ag ?_|refine af ?_ _));refine aN (cs:=#[U Z ((ay ak (jl)).f0.f0),U Z 0,U Z 0,U Z 0]) ?_ 1 _ rfl;(with_reducible repeat (first|refine av ?_ _|refine ag ?_|refine af ?_ _));refine aN (cs:=#[U Z 0,U Z 0,U Z 0,U Z 0]) ?_ 0 _ rfl;(with_reducible repeat (first|refine av ?_ _|refine ag ?_|refine af ?_ _));exact rQ.out⟩
              have BP:aa (Below w.heap.size w ((((w44.setCell ⟨nN,0,none⟩ (U Z ((ay ak (jl)).f0.f0))).setCell ⟨nN,1,none⟩ (U Z ((ay ak (jl)).f0.f1))).setCell ⟨nN,2,none⟩ (U Z ((ay ak (jl)).f1.f0))).setCell ⟨nN,3,none⟩ (U Z ((ay ak (jl)).f1.f1)))):=⟨gL⟩
              (try clear iK)
              (try clear gQ)
              (try clear lC)
              (try clear kU)
              (try clear rQ)
              (try clear HB)
              generalize ((((w44.setCell ⟨nN,0,none⟩ (U Z ((ay ak (jl)).f0.f0))).setCell ⟨nN,1,none⟩ (U Z ((ay ak (jl)).f0.f1))).setCell ⟨nN,2,none⟩ (U Z ((ay ak (jl)).f1.f0))).setCell ⟨nN,3,none⟩ (U Z ((ay ak (jl)).f1.f1))) = w50 at vD vE vF vG vY BP ⊢
              have iK:=vD
              have gQ:=vE
              have lC:=vF
              have kU:=vG
              have rQ:=vY
              have HB:=BP
              clear vD vE vF vG vY BP
              replace iK:=aa.mk (ag iK.out)
              replace gQ:=aa.mk (ag gQ.out)
              replace lC:=aa.mk (ag lC.out)
              replace kU:=aa.mk (ag kU.out)
              replace rQ:=aa.mk (ag rQ.out)
              replace HB:=aa.mk (bO HB.out)
              refine iN (n:=12) (S:=fun w'=>w'.cell? ⟨QQ,0,none⟩ = some (U Z lI)∧w'.cell? ⟨QQ,1,none⟩ = some (U Z kF)∧w'.cell? ⟨QQ,2,none⟩ = some (U Z jK)∧w'.cell? ⟨QQ,3,none⟩ = some (U Z jq)∧w'.cell? ⟨nN,0,none⟩ = some (U Z ((ay ak (jl)).f0.f0))∧w'.cell? ⟨nN,1,none⟩ = some (U Z ((ay ak (jl)).f0.f1))∧w'.cell? ⟨nN,2,none⟩ = some (U Z ((ay ak (jl)).f1.f0))∧w'.cell? ⟨nN,3,none⟩ = some (U Z ((ay ak (jl)).f1.f1))) (ds:=[11]) #[ac,ac,ac,ac,ac,ac,ac,ac,ac,ac,ac,ac] aM rfl rfl (Li kU.out (xy rQ.out)) (fun hHeld=>?_);refine fU bg.aCB bg.azh (fun bz jb=>?_)
              generalize w50.drew = w51 at iK gQ lC kU rQ HB hHeld ⊢
              refine bV (i:=0) (N:=some 71) (ax bz.out aM) ?_
              refine bV (i:=2) (N:=some 73) (ax bz.out aM) ?_
              refine bV (i:=5) (N:=some 76) (ax bz.out aM) ?_
              refine bV (i:=7) (N:=some 78) (ax bz.out aM) ?_
              refine iL (i:=1) (N:=some 72) (aY bz.out jb.out aM) hHeld ?_
              refine iL (i:=3) (N:=some 74) (aY bz.out jb.out aM) hHeld ?_
              refine iL (i:=6) (N:=some 77) (aY bz.out jb.out aM) hHeld ?_
              refine iL (i:=8) (N:=some 79) (aY bz.out jb.out aM) hHeld ?_
              refine iO (i:=4) (N:=some 75) #[ab,ab,ab,ab,ab,ab,ab,ab,ab,ac,ac,ac] rfl rfl (eH bz.out aM) (by decide) (fun K hK=>?_)
              refine gJ Try.func120 aM rfl #[.agg #[U Z lI,U Z kF],.agg #[U Z ((ay ak (jl)).f0.f0),U Z ((ay ak (jl)).f0.f1)]] (by rfl) rfl rfl aCM ?_
              with_reducible refine (fV.calls lI kF ((ay ak (jl)).f0.f0) ((ay ak (jl)).f0.f1) aem akF _ A34.out).mono ?_
              rintro e w52 ⟨rfl,hb⟩
              refine ⟨_,rfl,?_⟩
              replace iK:=aX iK hb
              replace gQ:=aX gQ hb
              replace lC:=aX lC hb
              replace kU:=aX kU hb
              replace rQ:=aX rQ hb
              replace HB:=cO HB hb
              (try clear hb)
              (try clear hb2)
              (try clear hk)
              (try clear hi)
              refine hK.out _ _ (Li kU.out (xy rQ.out)) (fun hHeld=>?_)
              clear hK K
              refine dM (by show Act.put _ (some 75) _ = _;simp only [Act.put,List.setIfInBounds_toArray,List.set_cons_zero,List.set_cons_succ,ib,ig];rfl) ?_
              refine iO (i:=9) (N:=some 80) #[ab,ab,ab,ab,ab,ab,ab,ab,ab,ab,ac,ac] rfl rfl (eH bz.out aM) (by decide) (fun K hK=>?_)
              refine gJ Try.func120 aM rfl #[.agg #[U Z jK,U Z jq],.agg #[U Z ((ay ak (jl)).f1.f0),U Z ((ay ak (jl)).f1.f1)]] (by rfl) rfl rfl aCM ?_
              with_reducible refine (fV.calls jK jq ((ay ak (jl)).f1.f0) ((ay ak (jl)).f1.f1) aqP azj _ A35.out).mono ?_
              rintro e w53 ⟨rfl,hb⟩
              refine ⟨_,rfl,?_⟩
              replace iK:=aX iK hb
              replace gQ:=aX gQ hb
              replace lC:=aX lC hb
              replace kU:=aX kU hb
              replace rQ:=aX rQ hb
              replace HB:=cO HB hb
              (try clear hb)
              (try clear hb2)
              (try clear hk)
              (try clear hi)
              refine hK.out _ _ (Li kU.out (xy rQ.out)) (fun hHeld=>?_)
              clear hK K
              refine dM (by show Act.put _ (some 80) _ = _;simp only [Act.put,List.setIfInBounds_toArray,List.set_cons_zero,List.set_cons_succ,ib,ig];rfl) ?_
              refine bV (i:=10) (N:=some 81) (ax bz.out aM) ?_
              refine TI (i:=11) (N:=none) #[ab,ab,ab,ab,ab,ab,ab,ab,ab,ab,ab,ab] rfl rfl (eH bz.out aM) (by decide) (fun K hK=>?_)
              have a6R:w53.cell? ⟨nN,0,none⟩ = some (U Z ((ay ak (jl)).f0.f0)):=(ah rQ.out 0).trans rfl
              have a2A:=bf rQ.out 0
              have aO6:=zH.out
              have aO7:=zJ.out
              have aO8:=zL.out
              have aO9:=nY.out
              have aPa:=zI.out
              have aPb:=zK.out
              have aPc:=zM.out
              have aPd:=zN.out
              have a6S:w53.cell? ⟨nN,1,none⟩ = some (U Z ((ay ak (jl)).f0.f1)):=(ah rQ.out 1).trans rfl
              have a2B:=bf rQ.out 1
              have aPe:=zH.out
              have aPf:=zJ.out
              have aPg:=zL.out
              have aPh:=nY.out
              have aPi:=zI.out
              have aPj:=zK.out
              have aPk:=zM.out
              have aPl:=zN.out
              have a6T:w53.cell? ⟨nN,2,none⟩ = some (U Z ((ay ak (jl)).f1.f0)):=(ah rQ.out 2).trans rfl
              have a2C:=bf rQ.out 2
              have aPm:=zH.out
              have aPn:=zJ.out
              have aPo:=zL.out
              have aPp:=nY.out
              have aPq:=zI.out
              have aPr:=zK.out
              have aPs:=zM.out
              have aPt:=zN.out
              have a6U:w53.cell? ⟨nN,3,none⟩ = some (U Z ((ay ak (jl)).f1.f1)):=(ah rQ.out 3).trans rfl
              have a2D:=bf rQ.out 3
              have aPu:=zH.out
              have aPv:=zJ.out
              have aPw:=zL.out
              have aPx:=nY.out
              have aPy:=zI.out
              have aPz:=zK.out
              have aPA:=zM.out
              have aPB:=zN.out
              refine ve (w1:=?_) (by rfl) rfl ?_ ?_
              rotate_left
              ·go_simp
               rfl
              refine hK.out _ _ ?_
              clear hK K
              refine jS (ja bz.out aM) ?_
              obtain ⟨agj,agk,agl,agm,agn,agp,agq,agr⟩:=jc rQ.out
              have aCN:=PS.out
              have aCO:=PR.out
              have am9:=PU.out
              have ana:=PT.out
              obtain ⟨ags,agt,aq6,aq7,agu,agv,aq8,aq9⟩:=jc kU.out
              try go_wp2
              go_roundg k3
              case measure=>have:=JP.out;have:=aek.out;have:=HK3.out;omega
              case rel=>exact ⟨(true),(wrap64 (jo+1)),(aem),(akF),(aqP),(azj),nM,nM,H',⟨ara⟩,⟨gB⟩,⟨gB⟩,⟨gB⟩,⟨by (with_reducible repeat (first|refine av ?_ _|refine ag ?_|refine af ?_ _));refine aN (cs:=#[U Z aem,U Z akF,U Z aqP,U Z jq]) ?_ 3 _ rfl;(with_reducible repeat (first|refine av ?_ _|refine ag ?_|refine af ?_ _));refine aN (cs:=#[U Z aem,U Z akF,U Z jK,U Z jq]) ?_ 2 _ rfl;(with_reducible repeat (first|refine av ?_ _|refine ag ?_|refine af ?_ _));refine aN (cs:=#[U Z aem,U Z kF,U Z jK,U Z jq]) ?_ 1 _ rfl;(with_reducible repeat (first|refine av ?_ _|refine ag ?_|refine af ?_ _));refine aN (cs:=#[U Z lI,U Z kF,U Z jK,U Z jq]) ?_ 0 _ rfl;(with_reducible repeat (first|refine av ?_ _|refine ag ?_|refine af ?_ _));refine aV ?_ nY.out _;(with_reducible repeat (first|refine av ?_ _|refine ag ?_|refine af ?_ _));refine aV ?_ nY.out _;(with_reducible repeat (first|refine av ?_ _|refine ag ?_|refine af ?_ _));refine aV ?_ nY.out _;(with_reducible repeat (first|refine av ?_ _|refine ag ?_|refine af ?_ _));refine aV ?_ nY.out _;(with_reducible repeat (first|refine av ?_ _|refine ag ?_|refine af ?_ _));exact kU.out⟩,⟨gL⟩⟩
             ·replace c33:=Bool.eq_false_iff.mpr c33
              subst c33
              have H1:(bg.l1 k3 a2 a3 a4 true iw (wrap64 (jo+1)) ai aj aC aD aJ aH aK aT ak aI aG bn bq ((ay ak (jl)).f0.f0) ((ay ak (jl)).f0.f1) ((ay ak (jl)).f1.f0) ((ay ak (jl)).f1.f1)) = some (r1,r2,r3,r4):=by rw [if_neg (show ¬ (false = true) by decide)] at H;exact H
              clear H
              have H:=H1
              clear H1
              have H':=aa.mk H
              clear H
              have anb:=wY.out
              have anc:=wZ.out
              have aCP:=xc.out
              have aCQ:=xe.out
              have aCR:=xg.out
              have aCS:=xh.out
              obtain ⟨XQ,XR,XT,XU,XV,XW,XX,XY,XZ,X3,X4,X5,X6,X7,X8,X9,Ya,Yb⟩:=jA iK.out
              try go_wp2
              replace iK:=aa.mk (ag iK.out)
              replace gQ:=aa.mk (ag gQ.out)
              replace lC:=aa.mk (ag lC.out)
              replace kU:=aa.mk (ag kU.out)
              replace HB:=aa.mk (bO HB.out)
              refine iN (n:=6) (S:=fun w'=>w'.cell? ⟨BR,0,none⟩ = some (U Z aI)∧w'.cell? ⟨BR,1,none⟩ = some (U Z aG)∧w'.cell? ⟨BR,2,none⟩ = some (U Z bn)∧w'.cell? ⟨BR,3,none⟩ = some (U Z bq)∧w'.cell? ⟨oZ,0,none⟩ = some (U Z ai)∧w'.cell? ⟨oZ,1,none⟩ = some (U Z aj)∧w'.cell? ⟨oZ,2,none⟩ = some (U Z aC)∧w'.cell? ⟨oZ,3,none⟩ = some (U Z aD)∧w'.cell? ⟨oZ,4,none⟩ = some (U Z aJ)∧w'.cell? ⟨oZ,5,none⟩ = some (U Z aH)∧w'.cell? ⟨oZ,6,none⟩ = some (U Z aK)∧w'.cell? ⟨oZ,7,none⟩ = some (.slice dW aT.length dN)∧w'.cell? ⟨oZ,8,none⟩ = some (.slice dZ ak.length dO)) (ds:=[]) #[ac,ac,ac,ac,ac,ac] aM rfl rfl ⟨bE gQ 0,bE gQ 1,bE gQ 2,bE gQ 3,Dm iK.out⟩ (fun hHeld=>?_)
              generalize wr.drew = w66 at iK gQ lC kU HB hHeld ⊢
              refine bV (i:=2) (N:=some 48) aM ?_
              refine iL (i:=0) (N:=some 46) aM hHeld ?_
              refine iL (i:=1) (N:=some 47) aM hHeld ?_
              refine iO (i:=3) (N:=some 49) #[ab,ab,ab,ab,ac,ac] rfl rfl aM (by decide) (fun K hK=>?_)
              refine gJ Try.func42 aM rfl #[.agg #[U Z ai,U Z aj,U Z aC,U Z aD,U Z aJ,U Z aH,U Z aK,.slice dW aT.length dN,.slice dZ ak.length dO],U Z jo] (by rfl) rfl rfl ji ?_
              with_reducible refine (iF.calls ai aj aC aD aJ aH aK _ _ aT _ _ ak jo Vl Vm Vn Vo _ ?cZ ?df ?eu ?eB A27.out).mono ?_
              (case cZ=>repeat (first|exact (Kd.bB ik.out HB.out)|(with_reducible refine Kd.bC ?_ _)|(with_reducible refine Kd.bD ?_ _)|(with_reducible refine Kd.bN ?_)))
              (case df=>exact iC.out)
              (case eu=>repeat (first|exact (Kd.bB gN.out HB.out)|(with_reducible refine Kd.bC ?_ _)|(with_reducible refine Kd.bD ?_ _)|(with_reducible refine Kd.bN ?_)))
              (case eB=>exact iD.out)
              rintro e w67 ⟨rfl,hb⟩
              refine ⟨_,rfl,?_⟩
              replace iK:=aX iK hb
              replace gQ:=aX gQ hb
              replace lC:=aX lC hb
              replace kU:=aX kU hb
              replace HB:=cO HB hb
              (try clear hb)
              (try clear hb2)
              (try clear hk)
              (try clear hi)
              refine hK.out _ _ ⟨bE gQ 0,bE gQ 1,bE gQ 2,bE gQ 3,Dm iK.out⟩ (fun hHeld=>?_)
              clear hK K
              refine dM azk ?_
              refine iO (i:=4) (N:=some 50) #[ab,ab,ab,ab,ab,ac] rfl rfl aM (by decide) (fun K hK=>?_)
              refine gJ Try.func104 aM rfl #[.agg #[U Z aI,U Z aG,U Z bn,U Z bq],.agg #[U Z Vl,U Z Vm,U Z Vn,U Z Vo]] (by rfl) rfl rfl ji ?_
              with_reducible refine (fB.calls aI aG bn bq Vl Vm Vn Vo true _ A28.out).mono ?_
              rintro e w68 ⟨rfl,hb⟩
              refine ⟨_,rfl,?_⟩
              replace iK:=aX iK hb
              replace gQ:=aX gQ hb
              replace lC:=aX lC hb
              replace kU:=aX kU hb
              replace HB:=cO HB hb
              (try clear hb)
              (try clear hb2)
              (try clear hk)
              (try clear hi)
              refine hK.out _ _ ⟨bE gQ 0,bE gQ 1,bE gQ 2,bE gQ 3,Dm iK.out⟩ (fun hHeld=>?_)
              clear hK K
              refine dM azl ?_
              refine bV (i:=5) (N:=some 51) aM ?_
              refine jS aM ?_
              obtain ⟨aPC,aPD,aPE,aPF,aPG,aPH,aPI,aPJ,aPK,aPL,aPM,aPN,aPO,aPP,aPQ,aPR,aPS,aPT⟩:=jA iK.out
              have aen:0≤((jl):Int):=of_decide_eq_true mq
              have aeo:(jl) < (ak.length:Int):=of_decide_eq_true mq
              obtain ⟨awO,azm,Hz,H9,Ia,Ib⟩:=zo gN.out (jl) aen aeo
              cases azm
              replace Hz:=(HB.out.cell (World.block_lt_of_cell? w _ Hz)).trans Hz
              replace H9:=(HB.out.cell (World.block_lt_of_cell? w _ H9)).trans H9
              replace Ia:=(HB.out.cell (World.block_lt_of_cell? w _ Ia)).trans Ia
              replace Ib:=(HB.out.cell (World.block_lt_of_cell? w _ Ib)).trans Ib
              replace aen:=eq_true aen
              replace aeo:=eq_true aeo
              try go_wp2_with (first|((with_reducible refine aA (N:=15) rfl ?_);refine au (by rfl) (N:=15) (by rfl) (cs:=#[U Z 0,U Z 0,U Z 0,U Z 0]) (t:=40) fG ?_;intro nN hg w70 hbox hb;have rQ:=aa.mk (hbox);have aCK:=bS HB hg;have aCL:=bS HB hg;have zH:=eQ iK hg;have zI:=eT iK hg;have zJ:=eQ gQ hg;have zK:=eT gQ hg;have zL:=eQ lC hg;have zM:=eT lC hg;have nY:=eQ kU hg;have zN:=eT kU hg;replace iK:=aX iK hb;replace gQ:=aX gQ hb;replace lC:=aX lC hb;replace kU:=aX kU hb;replace HB:=cO HB hb;clear hb hbox hg;have ane:=zI.out;have anf:=zH.out;have agw:=zK.out;have agx:=zJ.out;have awS:=zM.out;have awT:=zL.out;have awU:=zN.out;have awV:=nY.out;obtain ⟨arb,arc,ard,arf,arh,ari,arj,ark⟩:=jc rQ.out;have ang:=PS.out;have anh:=PR.out;have aCT:=PU.out;have aCU:=PT.out;obtain ⟨aPU,aPV,aPW,aPX,aPY,aPZ,aP0,aP1⟩:=jc kU.out))
              go_roundg k3
              case measure=>have:=JP.out;have:=aek.out;have:=HK3.out;omega
              case rel=>exact ⟨(true),(wrap64 (jo+1)),((ay ak (jl)).f0.f0),((ay ak (jl)).f0.f1),((ay ak (jl)).f1.f0),((ay ak (jl)).f1.f1),nM,nM,H',⟨ara⟩,⟨gB⟩,⟨gB⟩,⟨gB⟩,⟨by (with_reducible repeat (first|refine av ?_ _|refine ag ?_|refine af ?_ _));refine aN (cs:=#[U Z ((ay ak (jl)).f0.f0),U Z ((ay ak (jl)).f0.f1),U Z ((ay ak (jl)).f1.f0),U Z jq]) ?_ 3 _ rfl;(with_reducible repeat (first|refine av ?_ _|refine ag ?_|refine af ?_ _));refine aN (cs:=#[U Z ((ay ak (jl)).f0.f0),U Z ((ay ak (jl)).f0.f1),U Z jK,U Z jq]) ?_ 2 _ rfl;(with_reducible repeat (first|refine av ?_ _|refine ag ?_|refine af ?_ _));refine aN (cs:=#[U Z ((ay ak (jl)).f0.f0),U Z kF,U Z jK,U Z jq]) ?_ 1 _ rfl;(with_reducible repeat (first|refine av ?_ _|refine ag ?_|refine af ?_ _));refine aN (cs:=#[U Z lI,U Z kF,U Z jK,U Z jq]) ?_ 0 _ rfl;(with_reducible repeat (first|refine av ?_ _|refine ag ?_|refine af ?_ _));refine aV ?_ nY.out _;(with_reducible repeat (first|refine av ?_ _|refine ag ?_|refine af ?_ _));refine aV ?_ nY.out _;(with_reducible repeat (first|refine av ?_ _|refine ag ?_|refine af ?_ _));refine aV ?_ nY.out _;(with_reducible repeat (first|refine av ?_ _|refine ag ?_|refine af ?_ _));refine aV ?_ nY.out _;(with_reducible repeat (first|refine av ?_ _|refine ag ?_|refine af ?_ _));exact kU.out⟩,⟨gL⟩⟩
            ·rw [if_neg c32] at H
             exact absurd H (by simp)
           ·rw [if_neg c31] at H
            exact absurd H (by simp)
          ·replace c29:=Bool.eq_false_iff.mpr c29
           subst c29
           have H1:(bg.l1 k3 a2 a3 a4 FN iw (wrap64 (jo+1)) ai aj aC aD aJ aH aK aT ak aI aG bn bq lI kF jK jq) = some (r1,r2,r3,r4):=by rw [if_neg (show ¬ (false = true) by decide)] at H;exact H
           clear H
           have H:=H1
           clear H1
           have H':=aa.mk H
           clear H
           have awW:=wY.out
           have awX:=wZ.out
           have aCV:=xc.out
           have aCW:=xe.out
           have awY:=xg.out
           have awZ:=xh.out
           obtain ⟨Nq,Nr,Ns,Nt,RQ,RS,RU,arl,arn,Nu,Nv,Nw,Ny,RV,RX,RY,aro,arp⟩:=jA iK.out
           try go_wp2
           replace iK:=aa.mk (ag iK.out)
           replace gQ:=aa.mk (ag gQ.out)
           replace lC:=aa.mk (ag lC.out)
           replace kU:=aa.mk (ag kU.out)
           replace HB:=aa.mk (bO HB.out)
           refine iN (n:=6) (S:=fun w'=>w'.cell? ⟨BR,0,none⟩ = some (U Z aI)∧w'.cell? ⟨BR,1,none⟩ = some (U Z aG)∧w'.cell? ⟨BR,2,none⟩ = some (U Z bn)∧w'.cell? ⟨BR,3,none⟩ = some (U Z bq)∧w'.cell? ⟨oZ,0,none⟩ = some (U Z ai)∧w'.cell? ⟨oZ,1,none⟩ = some (U Z aj)∧w'.cell? ⟨oZ,2,none⟩ = some (U Z aC)∧w'.cell? ⟨oZ,3,none⟩ = some (U Z aD)∧w'.cell? ⟨oZ,4,none⟩ = some (U Z aJ)∧w'.cell? ⟨oZ,5,none⟩ = some (U Z aH)∧w'.cell? ⟨oZ,6,none⟩ = some (U Z aK)∧w'.cell? ⟨oZ,7,none⟩ = some (.slice dW aT.length dN)∧w'.cell? ⟨oZ,8,none⟩ = some (.slice dZ ak.length dO)) (ds:=[]) #[ac,ac,ac,ac,ac,ac] aM rfl rfl ⟨bE gQ 0,bE gQ 1,bE gQ 2,bE gQ 3,Dm iK.out⟩ (fun hHeld=>?_)
           generalize wr.drew = w83 at iK gQ lC kU HB hHeld ⊢
           refine bV (i:=2) (N:=some 48) aM ?_
           refine iL (i:=0) (N:=some 46) aM hHeld ?_
           refine iL (i:=1) (N:=some 47) aM hHeld ?_
           refine iO (i:=3) (N:=some 49) #[ab,ab,ab,ab,ac,ac] rfl rfl aM (by decide) (fun K hK=>?_)
           refine gJ Try.func42 aM rfl #[.agg #[U Z ai,U Z aj,U Z aC,U Z aD,U Z aJ,U Z aH,U Z aK,.slice dW aT.length dN,.slice dZ ak.length dO],U Z jo] (by rfl) rfl rfl ji ?_
           with_reducible refine (iF.calls ai aj aC aD aJ aH aK _ _ aT _ _ ak jo Vl Vm Vn Vo _ ?cZ ?df ?eu ?eB A27.out).mono ?_
           (case cZ=>repeat (first|exact (Kd.bB ik.out HB.out)|(with_reducible refine Kd.bC ?_ _)|(with_reducible refine Kd.bD ?_ _)|(with_reducible refine Kd.bN ?_)))
           (case df=>exact iC.out)
           (case eu=>repeat (first|exact (Kd.bB gN.out HB.out)|(with_reducible refine Kd.bC ?_ _)|(with_reducible refine Kd.bD ?_ _)|(with_reducible refine Kd.bN ?_)))
           (case eB=>exact iD.out)
           rintro e w84 ⟨rfl,hb⟩
           refine ⟨_,rfl,?_⟩
           replace iK:=aX iK hb
           replace gQ:=aX gQ hb
           replace lC:=aX lC hb
           replace kU:=aX kU hb
           replace HB:=cO HB hb
           (try clear hb)
           (try clear hb2)
           (try clear hk)
           (try clear hi)
           refine hK.out _ _ ⟨bE gQ 0,bE gQ 1,bE gQ 2,bE gQ 3,Dm iK.out⟩ (fun hHeld=>?_)
           clear hK K
           refine dM azk ?_
           refine iO (i:=4) (N:=some 50) #[ab,ab,ab,ab,ab,ac] rfl rfl aM (by decide) (fun K hK=>?_)
           refine gJ Try.func104 aM rfl #[.agg #[U Z aI,U Z aG,U Z bn,U Z bq],.agg #[U Z Vl,U Z Vm,U Z Vn,U Z Vo]] (by rfl) rfl rfl ji ?_
           with_reducible refine (fB.calls aI aG bn bq Vl Vm Vn Vo false _ A28.out).mono ?_
           rintro e w85 ⟨rfl,hb⟩
           refine ⟨_,rfl,?_⟩
           replace iK:=aX iK hb
           replace gQ:=aX gQ hb
           replace lC:=aX lC hb
           replace kU:=aX kU hb
           replace HB:=cO HB hb
           (try clear hb)
           (try clear hb2)
           (try clear hk)
           (try clear hi)
           refine hK.out _ _ ⟨bE gQ 0,bE gQ 1,bE gQ 2,bE gQ 3,Dm iK.out⟩ (fun hHeld=>?_)
           clear hK K
           refine dM azl ?_
           refine bV (i:=5) (N:=some 51) aM ?_
           refine jS aM ?_
           try go_wp2
           go_roundg k3
           case measure=>have:=JP.out;have:=aek.out;have:=HK3.out;omega
           case rel=>exact ⟨(FN),(wrap64 (jo+1)),(lI),(kF),(jK),(jq),nM,nM,H',⟨ara⟩,⟨gB⟩,⟨gB⟩,⟨gB⟩,⟨gB⟩,⟨gL⟩⟩
         ·rw [if_neg RP] at H
          have We:decide (jo < (wrap64 (ai*aj))) = false:=decide_eq_false RP
          clear RP
          have H':=aa.mk H
          clear H
          have aCX:=wY.out
          have aCY:=wZ.out
          have aCZ:=xc.out
          have aC0:=xe.out
          have aC1:=xg.out
          have aC2:=xh.out
          obtain ⟨arq,ars,art,aru,arv,arw,arx,aP2,aP3,ary,arz,arA,arB,arC,arD,arE,aP4,aP5⟩:=jA iK.out
          go_wp2
          go_roundg k3
          case measure=>have:=JP.out;have:=aek.out;have:=HK3.out;omega
          case rel=>exact ⟨(FN),(wrap64 (iw+1)),(lI),(kF),(jK),(jq),nM,nM,H',⟨ara⟩,⟨gB⟩,⟨gB⟩,⟨gB⟩,⟨gB⟩,⟨gL⟩⟩
   ·rw [if_neg c10] at H
    have Ea:decide (iw < aJ) = false:=decide_eq_false c10
    clear c10
    simp only [Option.some.injEq,Prod.mk.injEq] at H
    obtain ⟨rfl,rfl,rfl,rfl⟩:=H
    have a2G:=wY.out
    have a2H:=wZ.out
    have aC3:=xc.out
    have aC4:=xe.out
    have aC5:=xg.out
    have aC6:=xh.out
    obtain ⟨arF,arG,arH,arI,aP6,aP7,aP8,aP9,aQa,arJ,arK,arL,arM,aQb,aQc,aQd,aQe,aQf⟩:=jA iK.out
    have aC7:=PS.out
    have aC8:=PR.out
    have aw0:=PU.out
    have aw1:=PT.out
    obtain ⟨arN,arO,aQg,aQh,arP,arQ,aQi,aQj⟩:=jc kU.out
    have a2I:=akE.out
    have a2J:=akD.out
    obtain ⟨arR,arS,arT,arU,arV,arW,arX,arY⟩:=jc lC.out
    go_wp2
    refine bodyPost_ret (results_cell_row rfl _ _ abN 40 #[U Z oU,U Z pO,U Z qD,U Z rT] (0,0) _ rfl (by (with_reducible repeat (first|refine av ?_ _|refine ag ?_|refine af ?_ _));refine aN (cs:=#[U Z oU,U Z pO,U Z qD,U Z 0]) ?_ 3 _ rfl;(with_reducible repeat (first|refine av ?_ _|refine ag ?_|refine af ?_ _));refine aN (cs:=#[U Z oU,U Z pO,U Z 0,U Z 0]) ?_ 2 _ rfl;(with_reducible repeat (first|refine av ?_ _|refine ag ?_|refine af ?_ _));refine aN (cs:=#[U Z oU,U Z 0,U Z 0,U Z 0]) ?_ 1 _ rfl;(with_reducible repeat (first|refine av ?_ _|refine ag ?_|refine af ?_ _));refine aN (cs:=#[U Z 0,U Z 0,U Z 0,U Z 0]) ?_ 0 _ rfl;(with_reducible repeat (first|refine av ?_ _|refine ag ?_|refine af ?_ _));exact lC.out) Try.underlying40 rfl aM) rfl ?_
    exact ⟨lW,gL⟩
end Go.Proofs.Ytmhaiihjfgfaoaa.Pr
end
