import Derived.Test.YtmhaiihjfgfaoaaGhGliderHolds3
import Derived.Test.YtmhaiihjfgfaoaaGhGliderHolds18
import Derived.Test.YtmhaiihjfgfaoaaGhGliderHolds19
section
namespace Go.Proofs.Ytmhaiihjfgfaoaa.Pr
open Go.RowKit Go.Proofs.YtmhaiihjfgfaoaaW.PrintWords Go.Proofs.YtmhaiihjfgfaoaaW.PrintLast Go.Proofs.YtmhaiihjfgfaoaaW.PrintMore
attribute [local go_sem] cz cB dK dL cK
set_option linter.unusedVariables false
set_option linter.unusedSimpArgs false
mutual
def aT.l0:Nat→Int→Int→Int→Bool→Int→Int→Int→Int→Int→Int→Int→Int→List Bool→List (nU)→Int→Int→Int→Int→Int→Int→Int→Int→Option (Int × Int × Int × Int)
 |0,_,_,_,_,_,_,_,_,_,_,_,_,_,_,_,_,_,_,_,_,_,_=>none
 |k+1,x2,x3,x4,RD,Lr,kU,kV,sJ,pW,qM,lq,sK,sM,lK,sN,sO,sP,sQ,vv,vw,vz,vB=>if Lr < qM then (if (wrap64 (Lr*pW)) ≥ x4 then (aT.j1 k x2 x3 x4 RD Lr true kU kV sJ pW qM lq sK sM lK sN sO sP sQ vv vw vz vB) else (aT.j1 k x2 x3 x4 RD Lr (decide ((wrap64 ((wrap64 (Lr+1))*pW))≤x3)) kU kV sJ pW qM lq sK sM lK sN sO sP sQ vv vw vz vB)) else (some (vv,vw,vz,vB))
def aT.j1:Nat→Int→Int→Int→Bool→Int→Bool→Int→Int→Int→Int→Int→Int→Int→List Bool→List (nU)→Int→Int→Int→Int→Int→Int→Int→Int→Option (Int × Int × Int × Int)
 |0,_,_,_,_,_,_,_,_,_,_,_,_,_,_,_,_,_,_,_,_,_,_,_=>none
 |k+1,x2,x3,x4,RD,Lr,x36,kU,kV,sJ,pW,qM,lq,sK,sM,lK,sN,sO,sP,sQ,vv,vw,vz,vB=>if x36 = true then (aT.l0 k x2 x3 x4 RD (wrap64 (Lr+1)) kU kV sJ pW qM lq sK sM lK sN sO sP sQ vv vw vz vB) else (aT.l1 k x2 x3 x4 RD Lr 0 kU kV sJ pW qM lq sK sM lK sN sO sP sQ vv vw vz vB)
def aT.l1:Nat→Int→Int→Int→Bool→Int→Int→Int→Int→Int→Int→Int→Int→Int→List Bool→List (nU)→Int→Int→Int→Int→Int→Int→Int→Int→Option (Int × Int × Int × Int)
 |0,_,_,_,_,_,_,_,_,_,_,_,_,_,_,_,_,_,_,_,_,_,_,_=>none
 |k+1,x2,x3,x4,RD,Lr,Pt,kU,kV,sJ,pW,qM,lq,sK,sM,lK,sN,sO,sP,sQ,vv,vw,vz,vB=>if Pt < (wrap64 (kU*kV)) then ((fO.f kU kV sJ pW qM lq sK sM lK Pt).bind fun YR=>((eu.f sN sO sP sQ YR.1 YR.2.1 YR.2.2.1 YR.2.2.2).bind fun ab6=>(if ab6 = true then (if 0≤(wrap64 ((wrap64 ((wrap64 ((wrap64 ((wrap64 (Lr*lq))+x2))*kU))*kV))+Pt)) then (if (wrap64 ((wrap64 ((wrap64 ((wrap64 ((wrap64 (Lr*lq))+x2))*kU))*kV))+Pt)) < (lK.length:Int) then (if RD = true then ((eT.f vv vw ((aH lK (wrap64 ((wrap64 ((wrap64 ((wrap64 ((wrap64 (Lr*lq))+x2))*kU))*kV))+Pt))).f0.f0) ((aH lK (wrap64 ((wrap64 ((wrap64 ((wrap64 ((wrap64 (Lr*lq))+x2))*kU))*kV))+Pt))).f0.f1)).bind fun vL=>((eT.f vz vB ((aH lK (wrap64 ((wrap64 ((wrap64 ((wrap64 ((wrap64 (Lr*lq))+x2))*kU))*kV))+Pt))).f1.f0) ((aH lK (wrap64 ((wrap64 ((wrap64 ((wrap64 ((wrap64 (Lr*lq))+x2))*kU))*kV))+Pt))).f1.f1)).bind fun qY=>(aT.l1 k x2 x3 x4 true Lr (wrap64 (Pt+1)) kU kV sJ pW qM lq sK sM lK sN sO sP sQ vL.1 vL.2 qY.1 qY.2))) else (aT.l1 k x2 x3 x4 true Lr (wrap64 (Pt+1)) kU kV sJ pW qM lq sK sM lK sN sO sP sQ ((aH lK (wrap64 ((wrap64 ((wrap64 ((wrap64 ((wrap64 (Lr*lq))+x2))*kU))*kV))+Pt))).f0.f0) ((aH lK (wrap64 ((wrap64 ((wrap64 ((wrap64 ((wrap64 (Lr*lq))+x2))*kU))*kV))+Pt))).f0.f1) ((aH lK (wrap64 ((wrap64 ((wrap64 ((wrap64 ((wrap64 (Lr*lq))+x2))*kU))*kV))+Pt))).f1.f0) ((aH lK (wrap64 ((wrap64 ((wrap64 ((wrap64 ((wrap64 (Lr*lq))+x2))*kU))*kV))+Pt))).f1.f1))) else (none)) else (none)) else (aT.l1 k x2 x3 x4 RD Lr (wrap64 (Pt+1)) kU kV sJ pW qM lq sK sM lK sN sO sP sQ vv vw vz vB)))) else (aT.l0 k x2 x3 x4 RD (wrap64 (Lr+1)) kU kV sJ pW qM lq sK sM lK sN sO sP sQ vv vw vz vB)
end
def aT.f (k:Nat) (aj:Int) (ak:Int) (ax:Int) (ay:Int) (aJ:Int) (aC:Int) (aG:Int) (aN:List Bool) (av:List (nU)) (aU:Int) (aQ:Int) (aZ:Int) (bf:Int) (a2:Int) (a3:Int) (a4:Int):Option (Int × Int × Int × Int):=aT.l0 k a2 a3 a4 false 0 aj ak ax ay aJ aC aG aN av aU aQ aZ bf 0 0 0 0
def aT.T13:Bool × List (List Nat × List Nat):=(true,[([],[]),([0],[0]),([],[]),([2],[2]),([1,3],[1,3]),([],[]),([5],[5]),([],[]),([7],[7]),([6,8,4],[6,8]),([4,9],[4,9]),([10,9,0,1,2,3,4,5,6,7,8,9,10],[10])])
def aT.B13:List Nat:=[0,1,0,4,15,0,32,0,128,511,1023,2047]
theorem aT.ap4:oQ .any (opsOf Try.f73 13) = aT.T13:=by kernel_rfl
theorem aT.ang:lI aT.T13.2 aT.B13 = true:=by kernel_rfl
set_option maxHeartbeats 8000000 in
set_option maxRecDepth 100000 in
theorem aT.calls (k:Nat) (aj:Int) (ak:Int) (ax:Int) (ay:Int) (aJ:Int) (aC:Int) (aG:Int) (dH:Option Addr) (dD:Nat) (aN:List Bool) (dG:Option Addr) (dE:Nat) (av:List (nU)) (aU:Int) (aQ:Int) (aZ:Int) (bf:Int) (a2:Int) (a3:Int) (a4:Int) (r1:Int) (r2:Int) (r3:Int) (r4:Int) (w:World) (iW:Kd.C Kd.bool w dH aN.length aN) (iX:aN.length≤dD) (iY:Kd.C CY w dG av.length av) (iZ:av.length≤dE) (h:aT.f k aj ak ax ay aJ aC aG aN av aU aQ aZ bf a2 a3 a4 = some (r1,r2,r3,r4)):
 Calls Try.prog 73 #[.agg #[.int .i64 aj,.int .i64 ak,.int .i64 ax,.int .i64 ay,.int .i64 aJ,.int .i64 aC,.int .i64 aG,.slice dH aN.length dD,.slice dG av.length dE],.agg #[.int .i64 aU,.int .i64 aQ,.int .i64 aZ,.int .i64 bf],.int .i64 a2,.int .i64 a3,.int .i64 a4] w fun e w'=>e = .returned (.agg #[.int .i64 r1,.int .i64 r2,.int .i64 r3,.int .i64 r4])∧Below w.heap.size w w':=by
 have xE:=Try.underlying25
 have qP:=Try.underlying31
 have aer:=Try.underlying40
 have pK:=Try.underlying27
 have gq:=ae.mk iW
 have gG:=ae.mk iX
 clear iW iX
 have fF:=ae.mk iY
 have gH:=ae.mk iZ
 clear iY iZ
 have HB:=ae.mk (Below.refl w.heap.size w)
 have H:(aT.l0 k a2 a3 a4 false 0 aj ak ax ay aJ aC aG aN av aU aQ aZ bf 0 0 0 0) = some (r1,r2,r3,r4):=h
 clear h
 have H':=ae.mk H
 clear H
 go_enter Try.func73,Try.ntmps73
 go_wp2_with (first|((with_reducible refine aA (N:=5) rfl ?_);refine az (by rfl) (N:=5) (by rfl) (cs:=#[.int .i64 aj,.int .i64 ak,.int .i64 ax,.int .i64 ay,.int .i64 aJ,.int .i64 aC,.int .i64 aG,.slice dH aN.length dD,.slice dG av.length dE]) (t:=25) gQ ?_;intro l9 hg w6 hbox hb;have fU:=ae.mk (hbox);have aFu:=dn HB hg;have aFv:=dn HB hg;replace HB:=dF HB hb;clear hb hbox hg)|((with_reducible refine aA (N:=6) rfl ?_);refine az (by rfl) (N:=6) (by rfl) (cs:=#[.int .i64 aU,.int .i64 aQ,.int .i64 aZ,.int .i64 bf]) (t:=31) gQ ?_;intro wh hg w7 hbox hb;have fe:=ae.mk (hbox);have aFw:=dn HB hg;have aFx:=dn HB hg;have qZ:=iE fU hg;have q9:=iF fU hg;replace fU:=bC fU hb;replace HB:=dF HB hb;clear hb hbox hg)|((with_reducible refine aA (N:=10) rfl ?_);refine az (by rfl) (N:=10) (by rfl) (cs:=#[.int .i64 0,.int .i64 0,.int .i64 0,.int .i64 0]) (t:=40) gQ ?_;intro Vg hg w8 hbox hb;have jC:=ae.mk (hbox);have aFy:=dn HB hg;have aFz:=dn HB hg;have rf:=iE fU hg;have rq:=iF fU hg;have ab7:=iE fe hg;have ab8:=iF fe hg;replace fU:=bC fU hb;replace fe:=bC fe hb;replace HB:=dF HB hb;clear hb hbox hg)|((with_reducible refine aA (N:=11) rfl ?_);refine az (by rfl) (N:=11) (by rfl) (cs:=#[.int .i64 0,.int .i64 0,.int .i64 0,.int .i64 0]) (t:=40) gQ ?_;intro L8 hg w9 hbox hb;have jl:=ae.mk (hbox);have aFA:=dn HB hg;have aFB:=dn HB hg;have ru:=iE fU hg;have ry:=iF fU hg;have Ls:=iE fe hg;have Lt:=iF fe hg;have Lu:=iE jC hg;have Lv:=iF jC hg;replace fU:=bC fU hb;replace fe:=bC fe hb;replace jC:=bC jC hb;replace HB:=dF HB hb;clear hb hbox hg))
 go_loopg [12,13] k (fun kq v12 v13 w'=>∃ (iU:Bool) (fG:Int) (lZ:Int) (mI:Int) (nO:Int) (oK:Int),v12 = .bool iU∧v13 = .int .i64 fG∧ae (aT.l0 kq a2 a3 a4 iU fG aj ak ax ay aJ aC aG aN av aU aQ aZ bf lZ mI nO oK = some (r1,r2,r3,r4))∧ae (kq≤k)∧ae (w'.heap[l9]? = some (.cells #[.int .i64 aj,.int .i64 ak,.int .i64 ax,.int .i64 ay,.int .i64 aJ,.int .i64 aC,.int .i64 aG,(.slice dH aN.length dD),(.slice dG av.length dE)] 25 (0,0)))∧ae (w'.heap[wh]? = some (.cells #[.int .i64 aU,.int .i64 aQ,.int .i64 aZ,.int .i64 bf] 31 (0,0)))∧ae (w'.heap[Vg]? = some (.cells #[.int .i64 0,.int .i64 0,.int .i64 0,.int .i64 0] 40 (0,0)))∧ae (w'.heap[L8]? = some (.cells #[.int .i64 lZ,.int .i64 mI,.int .i64 nO,.int .i64 oK] 40 (0,0)))∧ae (Below w.heap.size w w'))
 case atStart=>exact ⟨(false),(0),(0),(0),(0),(0),nI,nI,H',⟨Nat.le_refl _⟩,⟨iq⟩,⟨iq⟩,⟨iq⟩,⟨iq⟩,⟨gM⟩⟩
 case round =>
  clear H'
  try clear p2
  try clear c7
  obtain ⟨iU,fG,lZ,mI,nO,oK,rfl,rfl,HA,Mi,fU,fe,jC,jl,HB⟩:=hrel
  cases gk with
  |zero=>exact absurd HA.out (by simp [aT.l0])
  |succ k1 =>
   have H:=HA.out
   clear HA
   simp only [aT.l0] at H
   by_cases c10:fG < aJ
   ·rw [if_pos c10] at H
    have Ad:decide (fG < aJ) = true:=decide_eq_true c10
    clear c10
    have anh:=ae.mk H
    clear H
    have aFC:=qZ.out
    have aFD:=q9.out
    have Ye:=rf.out
    have Yf:=rq.out
    have akO:=ru.out
    have akP:=ry.out
    obtain ⟨pM,pO,rJ,rM,u6,u7,ve,wH,wI,pQ,pR,rO,rP,vg,vk,vo,wJ,wK⟩:=iI fU.out
    go_upto_region 6 with (fail)
    go_cut [36] (fun v36 wc=>∃ (kq:Nat) (Sm:Bool),v36 = .bool Sm∧ae (aT.j1 kq a2 a3 a4 iU fG Sm aj ak ax ay aJ aC aG aN av aU aQ aZ bf lZ mI nO oK = some (r1,r2,r3,r4))∧ae (kq≤k1)∧ae (wc.heap[l9]? = some (.cells #[.int .i64 aj,.int .i64 ak,.int .i64 ax,.int .i64 ay,.int .i64 aJ,.int .i64 aC,.int .i64 aG,(.slice dH aN.length dD),(.slice dG av.length dE)] 25 (0,0)))∧ae (wc.heap[wh]? = some (.cells #[.int .i64 aU,.int .i64 aQ,.int .i64 aZ,.int .i64 bf] 31 (0,0)))∧ae (wc.heap[Vg]? = some (.cells #[.int .i64 0,.int .i64 0,.int .i64 0,.int .i64 0] 40 (0,0)))∧ae (wc.heap[L8]? = some (.cells #[.int .i64 lZ,.int .i64 mI,.int .i64 nO,.int .i64 oK] 40 (0,0)))∧ae (Below w.heap.size w wc))
    case first =>
     have H:=anh.out
     clear anh
     by_cases c16:(wrap64 (fG*ay)) ≥ a4
     ·rw [if_pos c16] at H
      have yw:decide (a4≤(wrap64 (fG*ay))) = true:=decide_eq_true c16
      clear c16
      (first|rw [yw]|(simp only [fD,fJ];rw [yw])|skip)
      have H':=ae.mk H
      clear H
      have QM:=qZ.out
      have QN:=q9.out
      have aeh:=rf.out
      have aei:=rq.out
      have Vh:=ru.out
      have Vi:=ry.out
      obtain ⟨yM,yN,Ca,Cb,Es,Et,Eu,MX,MZ,yO,yP,Cc,Ce,Ev,Ew,Ex,M0,M3⟩:=iI fU.out
      go_wp2
      go_meet
      case rel=>exact ⟨_,(true),nI,H',⟨by have:=Mi.out;first|omega|exact Nat.le_refl _⟩,⟨iq⟩,⟨iq⟩,⟨iq⟩,⟨iq⟩,⟨gM⟩⟩
     ·rw [if_neg c16] at H
      have yw:decide (a4≤(wrap64 (fG*ay))) = false:=decide_eq_false c16
      clear c16
      (first|rw [yw]|(simp only [fD,fJ];rw [yw])|skip)
      have H':=ae.mk H
      clear H
      have ak3:=qZ.out
      have ak4:=q9.out
      have YS:=rf.out
      have YT:=rq.out
      have YK:=ru.out
      have YL:=ry.out
      obtain ⟨wC,wD,yh,yj,Jl,Jm,Jn,Sn,Sq,wE,wF,yl,ym,Jo,Jp,Jq,Sr,Su⟩:=iI fU.out
      go_wp2
      go_meet
      case rel=>exact ⟨_,(decide ((wrap64 ((wrap64 (fG+1))*ay))≤a3)),nI,H',⟨by have:=Mi.out;first|omega|exact Nat.le_refl _⟩,⟨iq⟩,⟨iq⟩,⟨iq⟩,⟨iq⟩,⟨gM⟩⟩
    case rest =>
     clear anh
     try clear c1
     try clear c2
     try clear p2
     try clear p6
     try clear c7
     try clear c10
     try clear Ad
     try clear c12
     try clear c13
     try clear c14
     try clear c16
     try clear yw
     try clear c17
     try clear c18
     try clear c19
     try clear c21
     try clear Wv
     try clear c23
     try clear pM pO rJ rM u6 u7 ve wH wI
     try clear yM yN Ca Cb Es Et Eu MX MZ
     try clear wC wD yh yj Jl Jm Jn Sn Sq
     try clear pQ pR rO rP vg vk vo wJ wK
     try clear yO yP Cc Ce Ev Ew Ex M0 M3
     try clear wE wF yl ym Jo Jp Jq Sr Su
     try clear p2
     obtain ⟨kq,Sm,rfl,HA,Xl,fU,fe,jC,jl,HB⟩:=hcut
     cases kq with
     |zero=>exact absurd HA.out (by simp [aT.j1])
     |succ aes =>
      have H:=HA.out
      clear HA
      simp only [aT.j1] at H
      by_cases Vj:Sm = true
      ·subst Vj
       have H1:(aT.l0 aes a2 a3 a4 iU (wrap64 (fG+1)) aj ak ax ay aJ aC aG aN av aU aQ aZ bf lZ mI nO oK) = some (r1,r2,r3,r4):=by rw [if_pos rfl] at H;exact H
       clear H
       have H:=H1
       clear H1
       have H':=ae.mk H
       clear H
       go_wp2
       go_roundg aes
       case measure=>have:=Mi.out;have:=Xl.out;omega
       case rel=>exact ⟨(iU),(wrap64 (fG+1)),(lZ),(mI),(nO),(oK),nI,nI,H',⟨by have:=Mi.out;have:=Xl.out;omega⟩,⟨iq⟩,⟨iq⟩,⟨iq⟩,⟨iq⟩,⟨gM⟩⟩
      ·replace Vj:=Bool.eq_false_iff.mpr Vj
       subst Vj
       have H1:(aT.l1 aes a2 a3 a4 iU fG 0 aj ak ax ay aJ aC aG aN av aU aQ aZ bf lZ mI nO oK) = some (r1,r2,r3,r4):=by rw [if_neg (show ¬ (false = true) by decide)] at H;exact H
       clear H
       have H:=H1
       clear H1
       have H':=ae.mk H
       clear H
       go_wp2
       go_loopg [12,14] aes (fun kq v12 v14 w'=>∃ (Aj:Bool) (ib:Int) (jK:Int) (jb:Int) (iH:Int) (ic:Int),v12 = .bool Aj∧v14 = .int .i64 ib∧ae (aT.l1 kq a2 a3 a4 Aj fG ib aj ak ax ay aJ aC aG aN av aU aQ aZ bf jK jb iH ic = some (r1,r2,r3,r4))∧ae (kq≤aes)∧ae (w'.heap[l9]? = some (.cells #[.int .i64 aj,.int .i64 ak,.int .i64 ax,.int .i64 ay,.int .i64 aJ,.int .i64 aC,.int .i64 aG,(.slice dH aN.length dD),(.slice dG av.length dE)] 25 (0,0)))∧ae (w'.heap[wh]? = some (.cells #[.int .i64 aU,.int .i64 aQ,.int .i64 aZ,.int .i64 bf] 31 (0,0)))∧ae (w'.heap[Vg]? = some (.cells #[.int .i64 0,.int .i64 0,.int .i64 0,.int .i64 0] 40 (0,0)))∧ae (w'.heap[L8]? = some (.cells #[.int .i64 jK,.int .i64 jb,.int .i64 iH,.int .i64 ic] 40 (0,0)))∧ae (Below w.heap.size w w'))
       case atStart=>exact ⟨(iU),(0),(lZ),(mI),(nO),(oK),nI,nI,H',⟨Nat.le_refl _⟩,⟨iq⟩,⟨iq⟩,⟨iq⟩,⟨iq⟩,⟨gM⟩⟩
       case round =>
        clear H'
        try clear c1
        try clear c2
        try clear p2
        try clear p6
        try clear c7
        try clear c10
        try clear Ad
        try clear c12
        try clear c13
        try clear c14
        try clear c16
        try clear yw
        try clear c17
        try clear c18
        try clear c19
        try clear c21
        try clear Wv
        try clear c23
        try clear Vj
        try clear pM pO rJ rM u6 u7 ve wH wI
        try clear yM yN Ca Cb Es Et Eu MX MZ
        try clear wC wD yh yj Jl Jm Jn Sn Sq
        try clear pQ pR rO rP vg vk vo wJ wK
        try clear yO yP Cc Ce Ev Ew Ex M0 M3
        try clear wE wF yl ym Jo Jp Jq Sr Su
        try clear p2
        try clear p6
        obtain ⟨Aj,ib,jK,jb,iH,ic,rfl,rfl,HA,YU,fU,fe,jC,jl,HB⟩:=hrel
        cases gk with
        |zero=>exact absurd HA.out (by simp [aT.l1])
        |succ k3 =>
         have H:=HA.out
         clear HA
         simp only [aT.l1] at H
         by_cases Qb:ib < (wrap64 (aj*ak))
         ·rw [if_pos Qb] at H
          have QR:decide (ib < (wrap64 (aj*ak))) = true:=decide_eq_true Qb
          clear Qb
          replace H:=Option.bind_eq_some_iff.mp H
          obtain ⟨⟨Qc,Qd,Qe,Qf⟩,ap5,H⟩:=H
          replace H:((eu.f aU aQ aZ bf Qc Qd Qe Qf).bind fun ab6=>(if ab6 = true then (if 0≤(wrap64 ((wrap64 ((wrap64 ((wrap64 ((wrap64 (fG*aC))+a2))*aj))*ak))+ib)) then (if (wrap64 ((wrap64 ((wrap64 ((wrap64 ((wrap64 (fG*aC))+a2))*aj))*ak))+ib)) < (av.length:Int) then (if Aj = true then ((eT.f jK jb ((aH av (wrap64 ((wrap64 ((wrap64 ((wrap64 ((wrap64 (fG*aC))+a2))*aj))*ak))+ib))).f0.f0) ((aH av (wrap64 ((wrap64 ((wrap64 ((wrap64 ((wrap64 (fG*aC))+a2))*aj))*ak))+ib))).f0.f1)).bind fun vL=>((eT.f iH ic ((aH av (wrap64 ((wrap64 ((wrap64 ((wrap64 ((wrap64 (fG*aC))+a2))*aj))*ak))+ib))).f1.f0) ((aH av (wrap64 ((wrap64 ((wrap64 ((wrap64 ((wrap64 (fG*aC))+a2))*aj))*ak))+ib))).f1.f1)).bind fun qY=>(aT.l1 k3 a2 a3 a4 true fG (wrap64 (ib+1)) aj ak ax ay aJ aC aG aN av aU aQ aZ bf vL.1 vL.2 qY.1 qY.2))) else (aT.l1 k3 a2 a3 a4 true fG (wrap64 (ib+1)) aj ak ax ay aJ aC aG aN av aU aQ aZ bf ((aH av (wrap64 ((wrap64 ((wrap64 ((wrap64 ((wrap64 (fG*aC))+a2))*aj))*ak))+ib))).f0.f0) ((aH av (wrap64 ((wrap64 ((wrap64 ((wrap64 ((wrap64 (fG*aC))+a2))*aj))*ak))+ib))).f0.f1) ((aH av (wrap64 ((wrap64 ((wrap64 ((wrap64 ((wrap64 (fG*aC))+a2))*aj))*ak))+ib))).f1.f0) ((aH av (wrap64 ((wrap64 ((wrap64 ((wrap64 ((wrap64 (fG*aC))+a2))*aj))*ak))+ib))).f1.f1))) else (none)) else (none)) else (aT.l1 k3 a2 a3 a4 Aj fG (wrap64 (ib+1)) aj ak ax ay aJ aC aG aN av aU aQ aZ bf jK jb iH ic))) = some (r1,r2,r3,r4):=H
          have A27:=ae.mk ap5
          clear ap5
          replace H:=Option.bind_eq_some_iff.mp H
          obtain ⟨ab6,aet,H⟩:=H
          replace H:(if ab6 = true then (if 0≤(wrap64 ((wrap64 ((wrap64 ((wrap64 ((wrap64 (fG*aC))+a2))*aj))*ak))+ib)) then (if (wrap64 ((wrap64 ((wrap64 ((wrap64 ((wrap64 (fG*aC))+a2))*aj))*ak))+ib)) < (av.length:Int) then (if Aj = true then ((eT.f jK jb ((aH av (wrap64 ((wrap64 ((wrap64 ((wrap64 ((wrap64 (fG*aC))+a2))*aj))*ak))+ib))).f0.f0) ((aH av (wrap64 ((wrap64 ((wrap64 ((wrap64 ((wrap64 (fG*aC))+a2))*aj))*ak))+ib))).f0.f1)).bind fun vL=>((eT.f iH ic ((aH av (wrap64 ((wrap64 ((wrap64 ((wrap64 ((wrap64 (fG*aC))+a2))*aj))*ak))+ib))).f1.f0) ((aH av (wrap64 ((wrap64 ((wrap64 ((wrap64 ((wrap64 (fG*aC))+a2))*aj))*ak))+ib))).f1.f1)).bind fun qY=>(aT.l1 k3 a2 a3 a4 true fG (wrap64 (ib+1)) aj ak ax ay aJ aC aG aN av aU aQ aZ bf vL.1 vL.2 qY.1 qY.2))) else (aT.l1 k3 a2 a3 a4 true fG (wrap64 (ib+1)) aj ak ax ay aJ aC aG aN av aU aQ aZ bf ((aH av (wrap64 ((wrap64 ((wrap64 ((wrap64 ((wrap64 (fG*aC))+a2))*aj))*ak))+ib))).f0.f0) ((aH av (wrap64 ((wrap64 ((wrap64 ((wrap64 ((wrap64 (fG*aC))+a2))*aj))*ak))+ib))).f0.f1) ((aH av (wrap64 ((wrap64 ((wrap64 ((wrap64 ((wrap64 (fG*aC))+a2))*aj))*ak))+ib))).f1.f0) ((aH av (wrap64 ((wrap64 ((wrap64 ((wrap64 ((wrap64 (fG*aC))+a2))*aj))*ak))+ib))).f1.f1))) else (none)) else (none)) else (aT.l1 k3 a2 a3 a4 Aj fG (wrap64 (ib+1)) aj ak ax ay aJ aC aG aN av aU aQ aZ bf jK jb iH ic)) = some (r1,r2,r3,r4):=H
          have A28:=ae.mk aet
          clear aet
          by_cases c29:ab6 = true
          ·subst c29
           have H1:(if 0≤(wrap64 ((wrap64 ((wrap64 ((wrap64 ((wrap64 (fG*aC))+a2))*aj))*ak))+ib)) then (if (wrap64 ((wrap64 ((wrap64 ((wrap64 ((wrap64 (fG*aC))+a2))*aj))*ak))+ib)) < (av.length:Int) then (if Aj = true then ((eT.f jK jb ((aH av (wrap64 ((wrap64 ((wrap64 ((wrap64 ((wrap64 (fG*aC))+a2))*aj))*ak))+ib))).f0.f0) ((aH av (wrap64 ((wrap64 ((wrap64 ((wrap64 ((wrap64 (fG*aC))+a2))*aj))*ak))+ib))).f0.f1)).bind fun vL=>((eT.f iH ic ((aH av (wrap64 ((wrap64 ((wrap64 ((wrap64 ((wrap64 (fG*aC))+a2))*aj))*ak))+ib))).f1.f0) ((aH av (wrap64 ((wrap64 ((wrap64 ((wrap64 ((wrap64 (fG*aC))+a2))*aj))*ak))+ib))).f1.f1)).bind fun qY=>(aT.l1 k3 a2 a3 a4 true fG (wrap64 (ib+1)) aj ak ax ay aJ aC aG aN av aU aQ aZ bf vL.1 vL.2 qY.1 qY.2))) else (aT.l1 k3 a2 a3 a4 true fG (wrap64 (ib+1)) aj ak ax ay aJ aC aG aN av aU aQ aZ bf ((aH av (wrap64 ((wrap64 ((wrap64 ((wrap64 ((wrap64 (fG*aC))+a2))*aj))*ak))+ib))).f0.f0) ((aH av (wrap64 ((wrap64 ((wrap64 ((wrap64 ((wrap64 (fG*aC))+a2))*aj))*ak))+ib))).f0.f1) ((aH av (wrap64 ((wrap64 ((wrap64 ((wrap64 ((wrap64 (fG*aC))+a2))*aj))*ak))+ib))).f1.f0) ((aH av (wrap64 ((wrap64 ((wrap64 ((wrap64 ((wrap64 (fG*aC))+a2))*aj))*ak))+ib))).f1.f1))) else (none)) else (none)) = some (r1,r2,r3,r4):=by rw [if_pos rfl] at H;exact H
           clear H
           have H:=H1
           clear H1
           obtain ⟨gW,QS⟩:∃ j_:Int,(wrap64 ((wrap64 ((wrap64 ((wrap64 ((wrap64 (fG*aC))+a2))*aj))*ak))+ib)) = j_:=⟨_,rfl⟩
           replace H:(if 0≤(gW) then (if (gW) < (av.length:Int) then (if Aj = true then ((eT.f jK jb ((aH av (gW)).f0.f0) ((aH av (gW)).f0.f1)).bind fun vL=>((eT.f iH ic ((aH av (gW)).f1.f0) ((aH av (gW)).f1.f1)).bind fun qY=>(aT.l1 k3 a2 a3 a4 true fG (wrap64 (ib+1)) aj ak ax ay aJ aC aG aN av aU aQ aZ bf vL.1 vL.2 qY.1 qY.2))) else (aT.l1 k3 a2 a3 a4 true fG (wrap64 (ib+1)) aj ak ax ay aJ aC aG aN av aU aQ aZ bf ((aH av (gW)).f0.f0) ((aH av (gW)).f0.f1) ((aH av (gW)).f1.f0) ((aH av (gW)).f1.f1))) else (none)) else (none)) = some (r1,r2,r3,r4):=by first|(rw [QS] at H;exact H)|(simp only [QS] at H ⊢;exact H)
           (try rw [QS] at A27)
           (try rw [QS] at A28)
           have aDc:(IntKind.i64.wrap ((wrap64 ((wrap64 ((wrap64 ((wrap64 (fG*aC))+a2))*aj))*ak))+ib)) = gW:=(fD _).trans QS
           by_cases c31:0≤(gW)
           ·rw [if_pos c31] at H
            have aFE:decide (0≤(gW)) = true:=decide_eq_true c31
            clear c31
            by_cases c32:(gW) < (av.length:Int)
            ·rw [if_pos c32] at H
             have aFF:decide ((gW) < (av.length:Int)) = true:=decide_eq_true c32
             clear c32
             by_cases Vk:Aj = true
             ·subst Vk
              have H1:((eT.f jK jb ((aH av (gW)).f0.f0) ((aH av (gW)).f0.f1)).bind fun vL=>((eT.f iH ic ((aH av (gW)).f1.f0) ((aH av (gW)).f1.f1)).bind fun qY=>(aT.l1 k3 a2 a3 a4 true fG (wrap64 (ib+1)) aj ak ax ay aJ aC aG aN av aU aQ aZ bf vL.1 vL.2 qY.1 qY.2))) = some (r1,r2,r3,r4):=by rw [if_pos rfl] at H;exact H
              clear H
              have H:=H1
              clear H1
              replace H:=Option.bind_eq_some_iff.mp H
              obtain ⟨⟨Xm,ab9⟩,ap6,H⟩:=H
              replace H:((eT.f iH ic ((aH av (gW)).f1.f0) ((aH av (gW)).f1.f1)).bind fun qY=>(aT.l1 k3 a2 a3 a4 true fG (wrap64 (ib+1)) aj ak ax ay aJ aC aG aN av aU aQ aZ bf Xm ab9 qY.1 qY.2)) = some (r1,r2,r3,r4):=H
              have A34:=ae.mk ap6
              clear ap6
              replace H:=Option.bind_eq_some_iff.mp H
              obtain ⟨⟨agK,ani⟩,ap7,H⟩:=H
              replace H:(aT.l1 k3 a2 a3 a4 true fG (wrap64 (ib+1)) aj ak ax ay aJ aC aG aN av aU aQ aZ bf Xm ab9 agK ani) = some (r1,r2,r3,r4):=H
              have A35:=ae.mk ap7
              clear ap7
              have H':=ae.mk H
              clear H
              have ap8:=qZ.out
              have ap9:=q9.out
              have aFG:=rf.out
              have aFH:=rq.out
              have aqa:=ru.out
              have aqb:=ry.out
              obtain ⟨YV,YW,YX,YY,agL,agM,agN,au7,au8,YZ,Y0,Y1,Y2,agO,agP,agQ,au9,ava⟩:=iI fU.out
              try go_wp2
              replace fU:=ae.mk (ah fU.out)
              replace fe:=ae.mk (ah fe.out)
              replace jC:=ae.mk (ah jC.out)
              replace jl:=ae.mk (ah jl.out)
              replace HB:=ae.mk (bW HB.out)
              refine jI (n:=6) (S:=fun w'=>w'.cell? ⟨wh,0,none⟩ = some (.int .i64 aU)∧w'.cell? ⟨wh,1,none⟩ = some (.int .i64 aQ)∧w'.cell? ⟨wh,2,none⟩ = some (.int .i64 aZ)∧w'.cell? ⟨wh,3,none⟩ = some (.int .i64 bf)∧w'.cell? ⟨l9,0,none⟩ = some (.int .i64 aj)∧w'.cell? ⟨l9,1,none⟩ = some (.int .i64 ak)∧w'.cell? ⟨l9,2,none⟩ = some (.int .i64 ax)∧w'.cell? ⟨l9,3,none⟩ = some (.int .i64 ay)∧w'.cell? ⟨l9,4,none⟩ = some (.int .i64 aJ)∧w'.cell? ⟨l9,5,none⟩ = some (.int .i64 aC)∧w'.cell? ⟨l9,6,none⟩ = some (.int .i64 aG)∧w'.cell? ⟨l9,7,none⟩ = some (.slice dH aN.length dD)∧w'.cell? ⟨l9,8,none⟩ = some (.slice dG av.length dE)) (ds:=[]) #[false,false,false,false,false,false] aR rfl rfl ⟨(aa fe.out 0).trans rfl,(aa fe.out 1).trans rfl,(aa fe.out 2).trans rfl,(aa fe.out 3).trans rfl,xG fU.out⟩ (fun hHeld=>?_)
              generalize wr.drew = w40 at fU fe jC jl HB hHeld ⊢
              refine dJ (i:=2) (N:=some 48) aR ?_
              refine ja (i:=0) (N:=some 46) aR hHeld ?_
              refine ja (i:=1) (N:=some 47) aR hHeld ?_
              refine jq (i:=3) (N:=some 49) #[true,true,true,true,false,false] rfl rfl aR (by decide) (fun K hK=>?_)
              refine gV Try.func42 aR rfl #[.agg #[.int .i64 aj,.int .i64 ak,.int .i64 ax,.int .i64 ay,.int .i64 aJ,.int .i64 aC,.int .i64 aG,.slice dH aN.length dD,.slice dG av.length dE],.int .i64 ib] (by rfl) rfl rfl jJ ?_
              with_reducible refine (fO.calls aj ak ax ay aJ aC aG _ _ aN _ _ av ib Qc Qd Qe Qf _ ?dz ?dA ?dR ?dS A27.out).mono ?_
              (case dz=>repeat (first|exact (Kd.bn gq.out HB.out)|(with_reducible refine Kd.bA ?_ _)|(with_reducible refine Kd.bB ?_ _)|(with_reducible refine Kd.bK ?_)))
              (case dA=>exact gG.out)
              (case dR=>repeat (first|exact (Kd.bn fF.out HB.out)|(with_reducible refine Kd.bA ?_ _)|(with_reducible refine Kd.bB ?_ _)|(with_reducible refine Kd.bK ?_)))
              (case dS=>exact gH.out)
              rintro e w41 ⟨rfl,hb⟩
              refine ⟨_,rfl,?_⟩
              replace fU:=bC fU hb
              replace fe:=bC fe hb
              replace jC:=bC jC hb
              replace jl:=bC jl hb
              replace HB:=dF HB hb
              (try clear hb)
              (try clear hb2)
              (try clear hk)
              (try clear hi)
              refine hK.out _ _ ⟨(aa fe.out 0).trans rfl,(aa fe.out 1).trans rfl,(aa fe.out 2).trans rfl,(aa fe.out 3).trans rfl,xG fU.out⟩ (fun hHeld=>?_)
              clear hK K
              refine ek anj ?_
              refine jq (i:=4) (N:=some 50) #[true,true,true,true,true,false] rfl rfl aR (by decide) (fun K hK=>?_)
              refine gV Try.func104 aR rfl #[.agg #[.int .i64 aU,.int .i64 aQ,.int .i64 aZ,.int .i64 bf],.agg #[.int .i64 Qc,.int .i64 Qd,.int .i64 Qe,.int .i64 Qf]] (by rfl) rfl rfl jJ ?_
              with_reducible refine (eu.calls aU aQ aZ bf Qc Qd Qe Qf true _ A28.out).mono ?_
              rintro e w42 ⟨rfl,hb⟩
              refine ⟨_,rfl,?_⟩
              replace fU:=bC fU hb
              replace fe:=bC fe hb
              replace jC:=bC jC hb
              replace jl:=bC jl hb
              replace HB:=dF HB hb
              (try clear hb)
              (try clear hb2)
              (try clear hk)
              (try clear hi)
              refine hK.out _ _ ⟨(aa fe.out 0).trans rfl,(aa fe.out 1).trans rfl,(aa fe.out 2).trans rfl,(aa fe.out 3).trans rfl,xG fU.out⟩ (fun hHeld=>?_)
              clear hK K
              refine ek ank ?_
              refine dJ (i:=5) (N:=some 51) aR ?_
              refine lC aR ?_
              obtain ⟨Y3,Y4,Y5,Y6,agR,agS,agT,agU,agV,Y7,Y8,Y9,Za,agW,agX,agY,agZ,ag0⟩:=iI fU.out
              have Xn:0≤((gW):Int):=of_decide_eq_true lX
              have Xo:(gW) < (av.length:Int):=of_decide_eq_true lX
              obtain ⟨ak5,anl,Cf,Cg,Ch,Ci⟩:=zR fF.out (gW) Xn Xo
              cases anl
              replace Cf:=(HB.out.cell (World.block_lt_of_cell? w _ Cf)).trans Cf
              replace Cg:=(HB.out.cell (World.block_lt_of_cell? w _ Cg)).trans Cg
              replace Ch:=(HB.out.cell (World.block_lt_of_cell? w _ Ch)).trans Ch
              replace Ci:=(HB.out.cell (World.block_lt_of_cell? w _ Ci)).trans Ci
              replace Xn:=eq_true Xn
              replace Xo:=eq_true Xo
              try go_wp2_with (first|((with_reducible refine aA (N:=15) rfl ?_);refine az (by rfl) (N:=15) (by rfl) (cs:=#[.int .i64 0,.int .i64 0,.int .i64 0,.int .i64 0]) (t:=40) gQ ?_;intro kQ hg w44 hbox hb;have oG:=ae.mk (hbox);have aqc:=dn HB hg;have aqd:=dn HB hg;have uD:=iE fU hg;have uE:=iF fU hg;have uF:=iE fe hg;have uG:=iF fe hg;have uH:=iE jC hg;have uI:=iF jC hg;have lg:=iE jl hg;have uJ:=iF jl hg;replace fU:=bC fU hb;replace fe:=bC fe hb;replace jC:=bC jC hb;replace jl:=bC jl hb;replace HB:=dF HB hb;clear hb hbox hg;have aeu:=uE.out;have aev:=uD.out;have aew:=uG.out;have aex:=uF.out;have ak6:=uI.out;have ak7:=uH.out;have aey:=uJ.out;have aez:=lg.out;obtain ⟨Cj,Ck,Cm,Cn,Co,Cq,Cr,Cs⟩:=iC oG.out))
              have BM:ae (((((w44.setCell ⟨kQ,0,none⟩ (.int .i64 ((aH av (gW)).f0.f0))).setCell ⟨kQ,1,none⟩ (.int .i64 ((aH av (gW)).f0.f1))).setCell ⟨kQ,2,none⟩ (.int .i64 ((aH av (gW)).f1.f0))).setCell ⟨kQ,3,none⟩ (.int .i64 ((aH av (gW)).f1.f1))).heap[l9]? = some (.cells #[.int .i64 aj,.int .i64 ak,.int .i64 ax,.int .i64 ay,.int .i64 aJ,.int .i64 aC,.int .i64 aG,.slice dH aN.length dD,.slice (some ak5) av.length dE] 25 (0,0))):=⟨iq⟩
              have BN:ae (((((w44.setCell ⟨kQ,0,none⟩ (.int .i64 ((aH av (gW)).f0.f0))).setCell ⟨kQ,1,none⟩ (.int .i64 ((aH av (gW)).f0.f1))).setCell ⟨kQ,2,none⟩ (.int .i64 ((aH av (gW)).f1.f0))).setCell ⟨kQ,3,none⟩ (.int .i64 ((aH av (gW)).f1.f1))).heap[wh]? = some (.cells #[.int .i64 aU,.int .i64 aQ,.int .i64 aZ,.int .i64 bf] 31 (0,0))):=⟨iq⟩
              have BO:ae (((((w44.setCell ⟨kQ,0,none⟩ (.int .i64 ((aH av (gW)).f0.f0))).setCell ⟨kQ,1,none⟩ (.int .i64 ((aH av (gW)).f0.f1))).setCell ⟨kQ,2,none⟩ (.int .i64 ((aH av (gW)).f1.f0))).setCell ⟨kQ,3,none⟩ (.int .i64 ((aH av (gW)).f1.f1))).heap[Vg]? = some (.cells #[.int .i64 0,.int .i64 0,.int .i64 0,.int .i64 0] 40 (0,0))):=⟨iq⟩
              have BP:ae (((((w44.setCell ⟨kQ,0,none⟩ (.int .i64 ((aH av (gW)).f0.f0))).setCell ⟨kQ,1,none⟩ (.int .i64 ((aH av (gW)).f0.f1))).setCell ⟨kQ,2,none⟩ (.int .i64 ((aH av (gW)).f1.f0))).setCell ⟨kQ,3,none⟩ (.int .i64 ((aH av (gW)).f1.f1))).heap[L8]? = some (.cells #[.int .i64 jK,.int .i64 jb,.int .i64 iH,.int .i64 ic] 40 (0,0))):=⟨iq⟩
              have BQ:ae (((((w44.setCell ⟨kQ,0,none⟩ (.int .i64 ((aH av (gW)).f0.f0))).setCell ⟨kQ,1,none⟩ (.int .i64 ((aH av (gW)).f0.f1))).setCell ⟨kQ,2,none⟩ (.int .i64 ((aH av (gW)).f1.f0))).setCell ⟨kQ,3,none⟩ (.int .i64 ((aH av (gW)).f1.f1))).heap[kQ]? = some (.cells #[.int .i64 ((aH av (gW)).f0.f0),.int .i64 ((aH av (gW)).f0.f1),.int .i64 ((aH av (gW)).f1.f0),.int .i64 ((aH av (gW)).f1.f1)] 40 (0,0))):=⟨by (with_reducible repeat (first|refine au ?_ _|refine ah ?_|refine ag ?_ _));refine aI (cs:=#[.int .i64 ((aH av (gW)).f0.f0),.int .i64 ((aH av (gW)).f0.f1),.int .i64 ((aH av (gW)).f1.f0),.int .i64 0]) ?_ 3 _ rfl;(with_reducible repeat (first|refine au ?_ _|refine ah ?_|refine ag ?_ _));refine aI (cs:=#[.int .i64 ((aH av (gW)).f0.f0),.int .i64 ((aH av (gW)).f0.f1),.int .i64 0,.int .i64 0]) ?_ 2 _ rfl;(with_reducible repeat (first|refine au ?_ _|refine ah ?_|refine ag ?_ _));refine aI (cs:=#[.int .i64 ((aH av (gW)).f0.f0),.int .i64 0,.int .i64 0,.int .i64 0]) ?_ 1 _ rfl;(with_reducible repeat (first|refine au ?_ _|refine ah ?_|refine ag ?_ _));refine aI (cs:=#[.int .i64 0,.int .i64 0,.int .i64 0,.int .i64 0]) ?_ 0 _ rfl;(with_reducible repeat (first|refine au ?_ _|refine ah ?_|refine ag ?_ _));exact oG.out⟩
              have GD:ae (Below w.heap.size w ((((w44.setCell ⟨kQ,0,none⟩ (.int .i64 ((aH av (gW)).f0.f0))).setCell ⟨kQ,1,none⟩ (.int .i64 ((aH av (gW)).f0.f1))).setCell ⟨kQ,2,none⟩ (.int .i64 ((aH av (gW)).f1.f0))).setCell ⟨kQ,3,none⟩ (.int .i64 ((aH av (gW)).f1.f1)))):=⟨gM⟩
              (try clear fU)
              (try clear fe)
              (try clear jC)
              (try clear jl)
              (try clear oG)
              (try clear HB)
              generalize ((((w44.setCell ⟨kQ,0,none⟩ (.int .i64 ((aH av (gW)).f0.f0))).setCell ⟨kQ,1,none⟩ (.int .i64 ((aH av (gW)).f0.f1))).setCell ⟨kQ,2,none⟩ (.int .i64 ((aH av (gW)).f1.f0))).setCell ⟨kQ,3,none⟩ (.int .i64 ((aH av (gW)).f1.f1))) = w50 at BM BN BO BP BQ GD ⊢
              have fU:=BM
              have fe:=BN
              have jC:=BO
              have jl:=BP
              have oG:=BQ
              have HB:=GD
              clear BM BN BO BP BQ GD
              replace fU:=ae.mk (ah fU.out)
              replace fe:=ae.mk (ah fe.out)
              replace jC:=ae.mk (ah jC.out)
              replace jl:=ae.mk (ah jl.out)
              replace oG:=ae.mk (ah oG.out)
              replace HB:=ae.mk (bW HB.out)
              refine jI (n:=12) (S:=fun w'=>w'.cell? ⟨L8,0,none⟩ = some (.int .i64 jK)∧w'.cell? ⟨L8,1,none⟩ = some (.int .i64 jb)∧w'.cell? ⟨L8,2,none⟩ = some (.int .i64 iH)∧w'.cell? ⟨L8,3,none⟩ = some (.int .i64 ic)∧w'.cell? ⟨kQ,0,none⟩ = some (.int .i64 ((aH av (gW)).f0.f0))∧w'.cell? ⟨kQ,1,none⟩ = some (.int .i64 ((aH av (gW)).f0.f1))∧w'.cell? ⟨kQ,2,none⟩ = some (.int .i64 ((aH av (gW)).f1.f0))∧w'.cell? ⟨kQ,3,none⟩ = some (.int .i64 ((aH av (gW)).f1.f1))) (ds:=[11]) #[false,false,false,false,false,false,false,false,false,false,false,false] aR rfl rfl (Gw jl.out (rV oG.out)) (fun hHeld=>?_);refine iM aT.ap4 aT.ang (fun bN jX=>?_)
              generalize w50.drew = w51 at fU fe jC jl oG HB hHeld ⊢
              refine dJ (i:=0) (N:=some 71) (aD bN.out aR) ?_
              refine dJ (i:=2) (N:=some 73) (aD bN.out aR) ?_
              refine dJ (i:=5) (N:=some 76) (aD bN.out aR) ?_
              refine dJ (i:=7) (N:=some 78) (aD bN.out aR) ?_
              refine ja (i:=1) (N:=some 72) (bq bN.out jX.out aR) hHeld ?_
              refine ja (i:=3) (N:=some 74) (bq bN.out jX.out aR) hHeld ?_
              refine ja (i:=6) (N:=some 77) (bq bN.out jX.out aR) hHeld ?_
              refine ja (i:=8) (N:=some 79) (bq bN.out jX.out aR) hHeld ?_
              refine jq (i:=4) (N:=some 75) #[true,true,true,true,true,true,true,true,true,false,false,false] rfl rfl (fE bN.out aR) (by decide) (fun K hK=>?_)
              refine gV Try.func120 aR rfl #[.agg #[.int .i64 jK,.int .i64 jb],.agg #[.int .i64 ((aH av (gW)).f0.f0),.int .i64 ((aH av (gW)).f0.f1)]] (by rfl) rfl rfl aqe ?_
              with_reducible refine (eT.calls jK jb ((aH av (gW)).f0.f0) ((aH av (gW)).f0.f1) Xm ab9 _ A34.out).mono ?_
              rintro e w52 ⟨rfl,hb⟩
              refine ⟨_,rfl,?_⟩
              replace fU:=bC fU hb
              replace fe:=bC fe hb
              replace jC:=bC jC hb
              replace jl:=bC jl hb
              replace oG:=bC oG hb
              replace HB:=dF HB hb
              (try clear hb)
              (try clear hb2)
              (try clear hk)
              (try clear hi)
              refine hK.out _ _ (Gw jl.out (rV oG.out)) (fun hHeld=>?_)
              clear hK K
              refine ek (by show Act.put _ (some 75) _ = _;simp only [Act.put,List.setIfInBounds_toArray,List.set_cons_zero,List.set_cons_succ,fD,fJ];rfl) ?_
              refine jq (i:=9) (N:=some 80) #[true,true,true,true,true,true,true,true,true,true,false,false] rfl rfl (fE bN.out aR) (by decide) (fun K hK=>?_)
              refine gV Try.func120 aR rfl #[.agg #[.int .i64 iH,.int .i64 ic],.agg #[.int .i64 ((aH av (gW)).f1.f0),.int .i64 ((aH av (gW)).f1.f1)]] (by rfl) rfl rfl aqe ?_
              with_reducible refine (eT.calls iH ic ((aH av (gW)).f1.f0) ((aH av (gW)).f1.f1) agK ani _ A35.out).mono ?_
              rintro e w53 ⟨rfl,hb⟩
              refine ⟨_,rfl,?_⟩
              replace fU:=bC fU hb
              replace fe:=bC fe hb
              replace jC:=bC jC hb
              replace jl:=bC jl hb
              replace oG:=bC oG hb
              replace HB:=dF HB hb
              (try clear hb)
              (try clear hb2)
              (try clear hk)
              (try clear hi)
              refine hK.out _ _ (Gw jl.out (rV oG.out)) (fun hHeld=>?_)
              clear hK K
              refine ek (by show Act.put _ (some 80) _ = _;simp only [Act.put,List.setIfInBounds_toArray,List.set_cons_zero,List.set_cons_succ,fD,fJ];rfl) ?_
              refine dJ (i:=10) (N:=some 81) (aD bN.out aR) ?_
              refine Qv (i:=11) (N:=none) #[true,true,true,true,true,true,true,true,true,true,true,true] rfl rfl (fE bN.out aR) (by decide) (fun K hK=>?_)
              have aI0:w53.cell? ⟨kQ,0,none⟩ = some (.int .i64 ((aH av (gW)).f0.f0)):=(aa oG.out 0).trans rfl
              have aFJ:=aX oG.out 0
              have ave:=uD.out
              have avf:=uF.out
              have avg:=uH.out
              have avh:=lg.out
              have avi:=uE.out
              have avj:=uG.out
              have avk:=uI.out
              have avl:=uJ.out
              have aI1:w53.cell? ⟨kQ,1,none⟩ = some (.int .i64 ((aH av (gW)).f0.f1)):=(aa oG.out 1).trans rfl
              have aFK:=aX oG.out 1
              have avm:=uD.out
              have avn:=uF.out
              have avo:=uH.out
              have avp:=lg.out
              have avq:=uE.out
              have avr:=uG.out
              have avs:=uI.out
              have avt:=uJ.out
              have aI2:w53.cell? ⟨kQ,2,none⟩ = some (.int .i64 ((aH av (gW)).f1.f0)):=(aa oG.out 2).trans rfl
              have aFL:=aX oG.out 2
              have avu:=uD.out
              have avv:=uF.out
              have avw:=uH.out
              have avx:=lg.out
              have avy:=uE.out
              have avz:=uG.out
              have avA:=uI.out
              have avB:=uJ.out
              have aI3:w53.cell? ⟨kQ,3,none⟩ = some (.int .i64 ((aH av (gW)).f1.f1)):=(aa oG.out 3).trans rfl
              have aFM:=aX oG.out 3
              have avC:=uD.out
              have avD:=uF.out
              have avE:=uH.out
              have avF:=lg.out
              have avG:=uE.out
              have avH:=uG.out
              have avI:=uI.out
              have avJ:=uJ.out
              refine yc (w1:=?_) (by rfl) rfl ?_ ?_
              rotate_left
              ·go_simp
               rfl
              refine hK.out _ _ ?_
              clear hK K
              refine lC (kF bN.out aR) ?_
              obtain ⟨ag1,ag2,ag3,ag4,ag5,ag6,ag7,ag8⟩:=iC oG.out
              have aqg:=Lt.out
              have aqh:=Ls.out
              have aqi:=Lv.out
              have aqj:=Lu.out
              obtain ⟨Zb,Zc,Zd,Ze,Zf,Zg,Zh,Zi⟩:=iC jl.out
              try go_wp2
              go_roundg k3
              case measure=>have:=Mi.out;have:=Xl.out;have:=YU.out;omega
              case rel=>exact ⟨(true),(wrap64 (ib+1)),(Xm),(ab9),(agK),(ani),nI,nI,H',⟨ag9⟩,⟨iq⟩,⟨iq⟩,⟨iq⟩,⟨by (with_reducible repeat (first|refine au ?_ _|refine ah ?_|refine ag ?_ _));refine aI (cs:=#[.int .i64 Xm,.int .i64 ab9,.int .i64 agK,.int .i64 ic]) ?_ 3 _ rfl;(with_reducible repeat (first|refine au ?_ _|refine ah ?_|refine ag ?_ _));refine aI (cs:=#[.int .i64 Xm,.int .i64 ab9,.int .i64 iH,.int .i64 ic]) ?_ 2 _ rfl;(with_reducible repeat (first|refine au ?_ _|refine ah ?_|refine ag ?_ _));refine aI (cs:=#[.int .i64 Xm,.int .i64 jb,.int .i64 iH,.int .i64 ic]) ?_ 1 _ rfl;(with_reducible repeat (first|refine au ?_ _|refine ah ?_|refine ag ?_ _));refine aI (cs:=#[.int .i64 jK,.int .i64 jb,.int .i64 iH,.int .i64 ic]) ?_ 0 _ rfl;(with_reducible repeat (first|refine au ?_ _|refine ah ?_|refine ag ?_ _));refine aM ?_ lg.out _;(with_reducible repeat (first|refine au ?_ _|refine ah ?_|refine ag ?_ _));refine aM ?_ lg.out _;(with_reducible repeat (first|refine au ?_ _|refine ah ?_|refine ag ?_ _));refine aM ?_ lg.out _;(with_reducible repeat (first|refine au ?_ _|refine ah ?_|refine ag ?_ _));refine aM ?_ lg.out _;(with_reducible repeat (first|refine au ?_ _|refine ah ?_|refine ag ?_ _));exact jl.out⟩,⟨gM⟩⟩
             ·replace Vk:=Bool.eq_false_iff.mpr Vk
              subst Vk
              have H1:(aT.l1 k3 a2 a3 a4 true fG (wrap64 (ib+1)) aj ak ax ay aJ aC aG aN av aU aQ aZ bf ((aH av (gW)).f0.f0) ((aH av (gW)).f0.f1) ((aH av (gW)).f1.f0) ((aH av (gW)).f1.f1)) = some (r1,r2,r3,r4):=by rw [if_neg (show ¬ (false = true) by decide)] at H;exact H
              clear H
              have H:=H1
              clear H1
              have H':=ae.mk H
              clear H
              have ak8:=qZ.out
              have ak9:=q9.out
              have aFN:=rf.out
              have aFO:=rq.out
              have aFP:=ru.out
              have aFQ:=ry.out
              obtain ⟨aha,ahb,ahc,ahd,ahe,ahf,ahg,ahh,ahi,ahj,ahk,ahl,ahm,ahn,aho,ahp,ahq,ahr⟩:=iI fU.out
              try go_wp2
              replace fU:=ae.mk (ah fU.out)
              replace fe:=ae.mk (ah fe.out)
              replace jC:=ae.mk (ah jC.out)
              replace jl:=ae.mk (ah jl.out)
              replace HB:=ae.mk (bW HB.out)
              refine jI (n:=6) (S:=fun w'=>w'.cell? ⟨wh,0,none⟩ = some (.int .i64 aU)∧w'.cell? ⟨wh,1,none⟩ = some (.int .i64 aQ)∧w'.cell? ⟨wh,2,none⟩ = some (.int .i64 aZ)∧w'.cell? ⟨wh,3,none⟩ = some (.int .i64 bf)∧w'.cell? ⟨l9,0,none⟩ = some (.int .i64 aj)∧w'.cell? ⟨l9,1,none⟩ = some (.int .i64 ak)∧w'.cell? ⟨l9,2,none⟩ = some (.int .i64 ax)∧w'.cell? ⟨l9,3,none⟩ = some (.int .i64 ay)∧w'.cell? ⟨l9,4,none⟩ = some (.int .i64 aJ)∧w'.cell? ⟨l9,5,none⟩ = some (.int .i64 aC)∧w'.cell? ⟨l9,6,none⟩ = some (.int .i64 aG)∧w'.cell? ⟨l9,7,none⟩ = some (.slice dH aN.length dD)∧w'.cell? ⟨l9,8,none⟩ = some (.slice dG av.length dE)) (ds:=[]) #[false,false,false,false,false,false] aR rfl rfl ⟨(aa fe.out 0).trans rfl,(aa fe.out 1).trans rfl,(aa fe.out 2).trans rfl,(aa fe.out 3).trans rfl,xG fU.out⟩ (fun hHeld=>?_)
              generalize wr.drew = w66 at fU fe jC jl HB hHeld ⊢
              refine dJ (i:=2) (N:=some 48) aR ?_
              refine ja (i:=0) (N:=some 46) aR hHeld ?_
              refine ja (i:=1) (N:=some 47) aR hHeld ?_
              refine jq (i:=3) (N:=some 49) #[true,true,true,true,false,false] rfl rfl aR (by decide) (fun K hK=>?_)
              refine gV Try.func42 aR rfl #[.agg #[.int .i64 aj,.int .i64 ak,.int .i64 ax,.int .i64 ay,.int .i64 aJ,.int .i64 aC,.int .i64 aG,.slice dH aN.length dD,.slice dG av.length dE],.int .i64 ib] (by rfl) rfl rfl jJ ?_
              with_reducible refine (fO.calls aj ak ax ay aJ aC aG _ _ aN _ _ av ib Qc Qd Qe Qf _ ?dz ?dA ?dR ?dS A27.out).mono ?_
              (case dz=>repeat (first|exact (Kd.bn gq.out HB.out)|(with_reducible refine Kd.bA ?_ _)|(with_reducible refine Kd.bB ?_ _)|(with_reducible refine Kd.bK ?_)))
              (case dA=>exact gG.out)
              (case dR=>repeat (first|exact (Kd.bn fF.out HB.out)|(with_reducible refine Kd.bA ?_ _)|(with_reducible refine Kd.bB ?_ _)|(with_reducible refine Kd.bK ?_)))
              (case dS=>exact gH.out)
              rintro e w67 ⟨rfl,hb⟩
              refine ⟨_,rfl,?_⟩
              replace fU:=bC fU hb
              replace fe:=bC fe hb
              replace jC:=bC jC hb
              replace jl:=bC jl hb
              replace HB:=dF HB hb
              (try clear hb)
              (try clear hb2)
              (try clear hk)
              (try clear hi)
              refine hK.out _ _ ⟨(aa fe.out 0).trans rfl,(aa fe.out 1).trans rfl,(aa fe.out 2).trans rfl,(aa fe.out 3).trans rfl,xG fU.out⟩ (fun hHeld=>?_)
              clear hK K
              refine ek anj ?_
              refine jq (i:=4) (N:=some 50) #[true,true,true,true,true,false] rfl rfl aR (by decide) (fun K hK=>?_)
              refine gV Try.func104 aR rfl #[.agg #[.int .i64 aU,.int .i64 aQ,.int .i64 aZ,.int .i64 bf],.agg #[.int .i64 Qc,.int .i64 Qd,.int .i64 Qe,.int .i64 Qf]] (by rfl) rfl rfl jJ ?_
              with_reducible refine (eu.calls aU aQ aZ bf Qc Qd Qe Qf true _ A28.out).mono ?_
              rintro e w68 ⟨rfl,hb⟩
              refine ⟨_,rfl,?_⟩
              replace fU:=bC fU hb
              replace fe:=bC fe hb
              replace jC:=bC jC hb
              replace jl:=bC jl hb
              replace HB:=dF HB hb
              (try clear hb)
              (try clear hb2)
              (try clear hk)
              (try clear hi)
              refine hK.out _ _ ⟨(aa fe.out 0).trans rfl,(aa fe.out 1).trans rfl,(aa fe.out 2).trans rfl,(aa fe.out 3).trans rfl,xG fU.out⟩ (fun hHeld=>?_)
              clear hK K
              refine ek ank ?_
              refine dJ (i:=5) (N:=some 51) aR ?_
              refine lC aR ?_
              obtain ⟨avK,avL,avM,avN,avO,avP,avQ,avR,avS,avT,avU,avV,avW,avX,avY,avZ,av0,av1⟩:=iI fU.out
              have Xn:0≤((gW):Int):=of_decide_eq_true lX
              have Xo:(gW) < (av.length:Int):=of_decide_eq_true lX
              obtain ⟨ak5,anl,Cf,Cg,Ch,Ci⟩:=zR fF.out (gW) Xn Xo
              cases anl
              replace Cf:=(HB.out.cell (World.block_lt_of_cell? w _ Cf)).trans Cf
              replace Cg:=(HB.out.cell (World.block_lt_of_cell? w _ Cg)).trans Cg
              replace Ch:=(HB.out.cell (World.block_lt_of_cell? w _ Ch)).trans Ch
              replace Ci:=(HB.out.cell (World.block_lt_of_cell? w _ Ci)).trans Ci
              replace Xn:=eq_true Xn
              replace Xo:=eq_true Xo
              try go_wp2_with (first|((with_reducible refine aA (N:=15) rfl ?_);refine az (by rfl) (N:=15) (by rfl) (cs:=#[.int .i64 0,.int .i64 0,.int .i64 0,.int .i64 0]) (t:=40) gQ ?_;intro kQ hg w70 hbox hb;have oG:=ae.mk (hbox);have aqc:=dn HB hg;have aqd:=dn HB hg;have uD:=iE fU hg;have uE:=iF fU hg;have uF:=iE fe hg;have uG:=iF fe hg;have uH:=iE jC hg;have uI:=iF jC hg;have lg:=iE jl hg;have uJ:=iF jl hg;replace fU:=bC fU hb;replace fe:=bC fe hb;replace jC:=bC jC hb;replace jl:=bC jl hb;replace HB:=dF HB hb;clear hb hbox hg;have aqk:=uE.out;have aql:=uD.out;have ala:=uG.out;have alb:=uF.out;have aFT:=uI.out;have aFU:=uH.out;have aqm:=uJ.out;have aqn:=lg.out;obtain ⟨av2,av3,av4,av5,av6,av7,av8,av9⟩:=iC oG.out;have alc:=Lt.out;have ald:=Ls.out;have aqo:=Lv.out;have aqp:=Lu.out;obtain ⟨Zj,Zk,Zl,Zm,Zn,Zo,Zp,Zq⟩:=iC jl.out))
              go_roundg k3
              case measure=>have:=Mi.out;have:=Xl.out;have:=YU.out;omega
              case rel=>exact ⟨(true),(wrap64 (ib+1)),((aH av (gW)).f0.f0),((aH av (gW)).f0.f1),((aH av (gW)).f1.f0),((aH av (gW)).f1.f1),nI,nI,H',⟨ag9⟩,⟨iq⟩,⟨iq⟩,⟨iq⟩,⟨by (with_reducible repeat (first|refine au ?_ _|refine ah ?_|refine ag ?_ _));refine aI (cs:=#[.int .i64 ((aH av (gW)).f0.f0),.int .i64 ((aH av (gW)).f0.f1),.int .i64 ((aH av (gW)).f1.f0),.int .i64 ic]) ?_ 3 _ rfl;(with_reducible repeat (first|refine au ?_ _|refine ah ?_|refine ag ?_ _));refine aI (cs:=#[.int .i64 ((aH av (gW)).f0.f0),.int .i64 ((aH av (gW)).f0.f1),.int .i64 iH,.int .i64 ic]) ?_ 2 _ rfl;(with_reducible repeat (first|refine au ?_ _|refine ah ?_|refine ag ?_ _));refine aI (cs:=#[.int .i64 ((aH av (gW)).f0.f0),.int .i64 jb,.int .i64 iH,.int .i64 ic]) ?_ 1 _ rfl;(with_reducible repeat (first|refine au ?_ _|refine ah ?_|refine ag ?_ _));refine aI (cs:=#[.int .i64 jK,.int .i64 jb,.int .i64 iH,.int .i64 ic]) ?_ 0 _ rfl;(with_reducible repeat (first|refine au ?_ _|refine ah ?_|refine ag ?_ _));refine aM ?_ lg.out _;(with_reducible repeat (first|refine au ?_ _|refine ah ?_|refine ag ?_ _));refine aM ?_ lg.out _;(with_reducible repeat (first|refine au ?_ _|refine ah ?_|refine ag ?_ _));refine aM ?_ lg.out _;(with_reducible repeat (first|refine au ?_ _|refine ah ?_|refine ag ?_ _));refine aM ?_ lg.out _;(with_reducible repeat (first|refine au ?_ _|refine ah ?_|refine ag ?_ _));exact jl.out⟩,⟨gM⟩⟩
            ·rw [if_neg c32] at H
             exact absurd H (by simp)
           ·rw [if_neg c31] at H
            exact absurd H (by simp)
          ·replace c29:=Bool.eq_false_iff.mpr c29
           subst c29
           have H1:(aT.l1 k3 a2 a3 a4 Aj fG (wrap64 (ib+1)) aj ak ax ay aJ aC aG aN av aU aQ aZ bf jK jb iH ic) = some (r1,r2,r3,r4):=by rw [if_neg (show ¬ (false = true) by decide)] at H;exact H
           clear H
           have H:=H1
           clear H1
           have H':=ae.mk H
           clear H
           have ale:=qZ.out
           have alf:=q9.out
           have aFV:=rf.out
           have aFW:=rq.out
           have aqr:=ru.out
           have aqs:=ry.out
           obtain ⟨ahs,aht,ahu,ahv,ahw,ahx,ahy,ahz,ahA,ahB,ahC,ahD,ahE,ahF,ahG,ahH,ahI,ahJ⟩:=iI fU.out
           try go_wp2
           replace fU:=ae.mk (ah fU.out)
           replace fe:=ae.mk (ah fe.out)
           replace jC:=ae.mk (ah jC.out)
           replace jl:=ae.mk (ah jl.out)
           replace HB:=ae.mk (bW HB.out)
           refine jI (n:=6) (S:=fun w'=>w'.cell? ⟨wh,0,none⟩ = some (.int .i64 aU)∧w'.cell? ⟨wh,1,none⟩ = some (.int .i64 aQ)∧w'.cell? ⟨wh,2,none⟩ = some (.int .i64 aZ)∧w'.cell? ⟨wh,3,none⟩ = some (.int .i64 bf)∧w'.cell? ⟨l9,0,none⟩ = some (.int .i64 aj)∧w'.cell? ⟨l9,1,none⟩ = some (.int .i64 ak)∧w'.cell? ⟨l9,2,none⟩ = some (.int .i64 ax)∧w'.cell? ⟨l9,3,none⟩ = some (.int .i64 ay)∧w'.cell? ⟨l9,4,none⟩ = some (.int .i64 aJ)∧w'.cell? ⟨l9,5,none⟩ = some (.int .i64 aC)∧w'.cell? ⟨l9,6,none⟩ = some (.int .i64 aG)∧w'.cell? ⟨l9,7,none⟩ = some (.slice dH aN.length dD)∧w'.cell? ⟨l9,8,none⟩ = some (.slice dG av.length dE)) (ds:=[]) #[false,false,false,false,false,false] aR rfl rfl ⟨(aa fe.out 0).trans rfl,(aa fe.out 1).trans rfl,(aa fe.out 2).trans rfl,(aa fe.out 3).trans rfl,xG fU.out⟩ (fun hHeld=>?_)
           generalize wr.drew = w83 at fU fe jC jl HB hHeld ⊢
           refine dJ (i:=2) (N:=some 48) aR ?_
           refine ja (i:=0) (N:=some 46) aR hHeld ?_
           refine ja (i:=1) (N:=some 47) aR hHeld ?_
           refine jq (i:=3) (N:=some 49) #[true,true,true,true,false,false] rfl rfl aR (by decide) (fun K hK=>?_)
           refine gV Try.func42 aR rfl #[.agg #[.int .i64 aj,.int .i64 ak,.int .i64 ax,.int .i64 ay,.int .i64 aJ,.int .i64 aC,.int .i64 aG,.slice dH aN.length dD,.slice dG av.length dE],.int .i64 ib] (by rfl) rfl rfl jJ ?_
           with_reducible refine (fO.calls aj ak ax ay aJ aC aG _ _ aN _ _ av ib Qc Qd Qe Qf _ ?dz ?dA ?dR ?dS A27.out).mono ?_
           (case dz=>repeat (first|exact (Kd.bn gq.out HB.out)|(with_reducible refine Kd.bA ?_ _)|(with_reducible refine Kd.bB ?_ _)|(with_reducible refine Kd.bK ?_)))
           (case dA=>exact gG.out)
           (case dR=>repeat (first|exact (Kd.bn fF.out HB.out)|(with_reducible refine Kd.bA ?_ _)|(with_reducible refine Kd.bB ?_ _)|(with_reducible refine Kd.bK ?_)))
           (case dS=>exact gH.out)
           rintro e w84 ⟨rfl,hb⟩
           refine ⟨_,rfl,?_⟩
           replace fU:=bC fU hb
           replace fe:=bC fe hb
           replace jC:=bC jC hb
           replace jl:=bC jl hb
           replace HB:=dF HB hb
           (try clear hb)
           (try clear hb2)
           (try clear hk)
           (try clear hi)
           refine hK.out _ _ ⟨(aa fe.out 0).trans rfl,(aa fe.out 1).trans rfl,(aa fe.out 2).trans rfl,(aa fe.out 3).trans rfl,xG fU.out⟩ (fun hHeld=>?_)
           clear hK K
           refine ek anj ?_
           refine jq (i:=4) (N:=some 50) #[true,true,true,true,true,false] rfl rfl aR (by decide) (fun K hK=>?_)
           refine gV Try.func104 aR rfl #[.agg #[.int .i64 aU,.int .i64 aQ,.int .i64 aZ,.int .i64 bf],.agg #[.int .i64 Qc,.int .i64 Qd,.int .i64 Qe,.int .i64 Qf]] (by rfl) rfl rfl jJ ?_
           with_reducible refine (eu.calls aU aQ aZ bf Qc Qd Qe Qf false _ A28.out).mono ?_
           rintro e w85 ⟨rfl,hb⟩
           refine ⟨_,rfl,?_⟩
           replace fU:=bC fU hb
           replace fe:=bC fe hb
           replace jC:=bC jC hb
           replace jl:=bC jl hb
           replace HB:=dF HB hb
           (try clear hb)
           (try clear hb2)
           (try clear hk)
           (try clear hi)
           refine hK.out _ _ ⟨(aa fe.out 0).trans rfl,(aa fe.out 1).trans rfl,(aa fe.out 2).trans rfl,(aa fe.out 3).trans rfl,xG fU.out⟩ (fun hHeld=>?_)
           clear hK K
           refine ek ank ?_
           refine dJ (i:=5) (N:=some 51) aR ?_
           refine lC aR ?_
           try go_wp2
           go_roundg k3
           case measure=>have:=Mi.out;have:=Xl.out;have:=YU.out;omega
           case rel=>exact ⟨(Aj),(wrap64 (ib+1)),(jK),(jb),(iH),(ic),nI,nI,H',⟨ag9⟩,⟨iq⟩,⟨iq⟩,⟨iq⟩,⟨iq⟩,⟨gM⟩⟩
         ·rw [if_neg Qb] at H
          have QR:decide (ib < (wrap64 (aj*ak))) = false:=decide_eq_false Qb
          clear Qb
          have H':=ae.mk H
          clear H
          have aqt:=qZ.out
          have aqu:=q9.out
          have aqv:=rf.out
          have aqw:=rq.out
          have aqx:=ru.out
          have aqy:=ry.out
          obtain ⟨Zr,Zt,Zu,Zv,Zw,Zx,Zy,Zz,ZA,ZB,ZC,ZE,ZF,ZG,ZH,ZI,ZJ,ZK⟩:=iI fU.out
          go_wp2
          go_roundg k3
          case measure=>have:=Mi.out;have:=Xl.out;have:=YU.out;omega
          case rel=>exact ⟨(Aj),(wrap64 (fG+1)),(jK),(jb),(iH),(ic),nI,nI,H',⟨ag9⟩,⟨iq⟩,⟨iq⟩,⟨iq⟩,⟨iq⟩,⟨gM⟩⟩
   ·rw [if_neg c10] at H
    have Ad:decide (fG < aJ) = false:=decide_eq_false c10
    clear c10
    simp only [Option.some.injEq,Prod.mk.injEq] at H
    obtain ⟨rfl,rfl,rfl,rfl⟩:=H
    have aFX:=qZ.out
    have aFY:=q9.out
    have aFZ:=rf.out
    have aF0:=rq.out
    have aF1:=ru.out
    have aF2:=ry.out
    obtain ⟨awc,awd,awe,awf,awg,awh,awi,awj,awk,awl,awm,awn,awo,awp,awq,awr,aws,awt⟩:=iI fU.out
    have aF3:=Lt.out
    have aF4:=Ls.out
    have aF5:=Lv.out
    have aF6:=Lu.out
    obtain ⟨awu,awv,aww,awx,awy,awz,awC,awD⟩:=iC jl.out
    have aF7:=ab8.out
    have aF8:=ab7.out
    obtain ⟨awE,awF,awG,awH,awI,awJ,awK,awL⟩:=iC jC.out
    go_wp2
    refine bodyPost_ret (results_cell_row rfl _ _ Vg 40 #[.int .i64 lZ,.int .i64 mI,.int .i64 nO,.int .i64 oK] (0,0) _ rfl (by (with_reducible repeat (first|refine au ?_ _|refine ah ?_|refine ag ?_ _));refine aI (cs:=#[.int .i64 lZ,.int .i64 mI,.int .i64 nO,.int .i64 0]) ?_ 3 _ rfl;(with_reducible repeat (first|refine au ?_ _|refine ah ?_|refine ag ?_ _));refine aI (cs:=#[.int .i64 lZ,.int .i64 mI,.int .i64 0,.int .i64 0]) ?_ 2 _ rfl;(with_reducible repeat (first|refine au ?_ _|refine ah ?_|refine ag ?_ _));refine aI (cs:=#[.int .i64 lZ,.int .i64 0,.int .i64 0,.int .i64 0]) ?_ 1 _ rfl;(with_reducible repeat (first|refine au ?_ _|refine ah ?_|refine ag ?_ _));refine aI (cs:=#[.int .i64 0,.int .i64 0,.int .i64 0,.int .i64 0]) ?_ 0 _ rfl;(with_reducible repeat (first|refine au ?_ _|refine ah ?_|refine ag ?_ _));exact jC.out) Try.underlying40 rfl aR) rfl ?_
    exact ⟨lJ,gM⟩
end Go.Proofs.Ytmhaiihjfgfaoaa.Pr
end
