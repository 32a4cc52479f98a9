import Derived.Test.YtmhaiihjfgfaoaaGhGliderHolds3
import Derived.Test.YtmhaiihjfgfaoaaGhGliderHolds23
section
namespace Go.Proofs.Ytmhaiihjfgfaoaa.Pr
open Go.RowKit Go.Proofs.YtmhaiihjfgfaoaaW.PrintWords Go.Proofs.YtmhaiihjfgfaoaaW.PrintLast Go.Proofs.YtmhaiihjfgfaoaaW.PrintMore
attribute [local go_sem] cz cB dK dL cK
set_option linter.unusedVariables false
set_option linter.unusedSimpArgs false
def bT.l0:Nat→Int→List (vY)→List (gz)→Int→Int→Int→Int→Int→Int→Int→Int→List Bool→List (nU)→Int→Int→Int→Int→Int→Int→Int→Int→Int→Int→Int→Option ((List (gz)) × Int × Int)
 |0,_,_,_,_,_,_,_,_,_,_,_,_,_,_,_,_,_,_,_,_,_,_,_,_=>none
 |k+1,x3,x4,Lr,Pt,aaa,aab,aac,aad,aae,aaf,aag,aah,aai,aaj,SY,aak,aal,aam,aan,aao,ai7,ai8,ai9,aja=>if Pt < (x4.length:Int) then (if 0≤Pt then ((jm.f k aaa aab aac aad aae aaf aag aah aai aaj SY aak aal aam aan aao ai7 ai8 ai9 aja (wrap64 (x3+(wrap64 (Pt*SY)))) ((dx x4 Pt).f0) ((dx x4 Pt).f1)).bind fun GJ=>(if GJ.2.2.2.2 = 0 then (if Lr.length < 4398046511104 then (bT.l0 k x3 x4 (Lr++[(⟨(⟨GJ.1,GJ.2.1⟩:nD),(⟨GJ.2.2.1,GJ.2.2.2.1⟩:nD)⟩:gz)]) (wrap64 (Pt+1)) aaa aab aac aad aae aaf aag aah aai aaj SY aak aal aam aan aao GJ.1 GJ.2.1 GJ.2.2.1 GJ.2.2.2.1) else (none)) else (some (([]:List (gz)),Pt,GJ.2.2.2.2)))) else (none)) else (some (Lr,(x4.length:Int),0))
def bT.f (k:Nat) (aj:Int) (ak:Int) (ax:Int) (ay:Int) (aJ:Int) (aC:Int) (aG:Int) (aN:List Bool) (av:List (nU)) (aU:Int) (aQ:Int) (aZ:Int) (bf:Int) (bE:Int) (bF:Int) (bG:Int) (bP:Int) (bQ:Int) (bR:Int) (bS:Int) (a3:Int) (l4:List (vY)):Option ((List (gz)) × Int × Int):=bT.l0 k a3 l4 ([]:List (gz)) 0 aj ak ax ay aJ aC aG aN av aU aQ aZ bf bE bF bG bP bQ bR bS
def bT.T5:Bool × List (List Nat × List Nat):=(true,[([],[]),([],[]),([],[]),([],[]),([],[]),([],[]),([5],[5]),([4,6],[4,6]),([3,7],[3,7]),([],[]),([],[]),([9,10],[9,10]),([11],[11]),([0,1,2,8,12],[0,1,2,8,12]),([13],[13]),([14],[14]),([14],[14]),([],[]),([17,15,13,0,1,2,3,4,5,6,7,8,9,10,11,12,13,14,15,17],[15,17]),([16,18,0,1,2,3,4,5,6,7,8,9,10,11,12,13,14,15,16,17,18],[16])])
def bT.B5:List Nat:=[0,0,0,0,0,0,32,112,248,0,0,1536,3584,8191,16383,32767,32767,0,196607,524287]
theorem bT.aq2:oQ .any (opsOf Try.f84 5) = bT.T5:=by kernel_rfl
theorem bT.alB:lI bT.T5.2 bT.B5 = true:=by kernel_rfl
set_option maxHeartbeats 8000000 in
set_option maxRecDepth 100000 in
theorem bT.calls (k:Nat) (aj:Int) (ak:Int) (ax:Int) (ay:Int) (aJ:Int) (aC:Int) (aG:Int) (dH:Option Addr) (dD:Nat) (aN:List Bool) (dG:Option Addr) (dE:Nat) (av:List (nU)) (aU:Int) (aQ:Int) (aZ:Int) (bf:Int) (bE:Int) (bF:Int) (bG:Int) (bP:Int) (bQ:Int) (bR:Int) (bS:Int) (a3:Int) (A4:Option Addr) (c4:Nat) (l4:List (vY)) (r1:List (gz)) (r2:Int) (r3:Int) (w:World) (iW:Kd.C Kd.bool w dH aN.length aN) (iX:aN.length≤dD) (iY:Kd.C CY w dG av.length av) (iZ:av.length≤dE) (hr4:Kd.C Yv w A4 l4.length l4) (hc4:l4.length≤c4) (h:bT.f k aj ak ax ay aJ aC aG aN av aU aQ aZ bf bE bF bG bP bQ bR bS a3 l4 = some (r1,r2,r3)):
 Calls Try.prog 84 #[.agg #[.int .i64 aj,.int .i64 ak,.int .i64 ax,.int .i64 ay,.int .i64 aJ,.int .i64 aC,.int .i64 aG,.slice dH aN.length dD,.slice dG av.length dE],.agg #[.int .i64 aU,.int .i64 aQ,.int .i64 aZ,.int .i64 bf,.int .i64 bE,.int .i64 bF,.int .i64 bG],.agg #[.int .i64 bP,.int .i64 bQ,.int .i64 bR,.int .i64 bS],.int .i64 a3,.slice A4 l4.length c4] w fun e w'=>∃ v0_:Value,e = .returned (.tuple #[v0_,.int .i64 r2,.int .i64 r3])∧Kd.R PN 31 w' w.heap.size (fun _=>True) v0_ r1∧Below w.heap.size w w':=by
 have xE:=Try.underlying25
 have BL:=Try.underlying29
 have qP:=Try.underlying31
 have Rs:=Try.underlying33
 have gq:=ae.mk iW
 have gG:=ae.mk iX
 clear iW iX
 have fF:=ae.mk iY
 have gH:=ae.mk iZ
 clear iY iZ
 have HR4:=ae.mk hr4
 have HC4:=ae.mk hc4
 clear hr4 hc4
 have HB:=ae.mk (Below.refl w.heap.size w)
 have H:(bT.l0 k a3 l4 ([]:List (gz)) 0 aj ak ax ay aJ aC aG aN av aU aQ aZ bf bE bF bG bP bQ bR bS) = some (r1,r2,r3):=h
 clear h
 have H':=ae.mk H
 clear H
 go_enter Try.func84,Try.ntmps84
 go_wp2_with (first|((with_reducible refine aA (N:=5) rfl ?_);refine az (by rfl) (N:=5) (by rfl) (cs:=#[.int .i64 aj,.int .i64 ak,.int .i64 ax,.int .i64 ay,.int .i64 aJ,.int .i64 aC,.int .i64 aG,.slice dH aN.length dD,.slice dG av.length dE]) (t:=25) gQ ?_;intro gL hg w6 hbox hb;have df:=ae.mk (hbox);have aGL:=dn HB hg;have aGM:=dn HB hg;replace HB:=dF HB hb;clear hb hbox hg)|((with_reducible refine aA (N:=6) rfl ?_);refine az (by rfl) (N:=6) (by rfl) (cs:=#[.int .i64 aU,.int .i64 aQ,.int .i64 aZ,.int .i64 bf,.int .i64 bE,.int .i64 bF,.int .i64 bG]) (t:=29) gQ ?_;intro iK hg w7 hbox hb;have dQ:=ae.mk (hbox);have aGN:=dn HB hg;have aGO:=dn HB hg;have aou:=iE df hg;have aov:=iF df hg;replace df:=bC df hb;replace HB:=dF HB hb;clear hb hbox hg)|((with_reducible refine aA (N:=7) rfl ?_);refine az (by rfl) (N:=7) (by rfl) (cs:=#[.int .i64 bP,.int .i64 bQ,.int .i64 bR,.int .i64 bS]) (t:=31) gQ ?_;intro jd hg w8 hbox hb;have je:=ae.mk (hbox);have aGP:=dn HB hg;have aGQ:=dn HB hg;have acm:=iE df hg;have acn:=iF df hg;have aco:=iE dQ hg;have acp:=iF dQ hg;replace df:=bC df hb;replace dQ:=bC dQ hb;replace HB:=dF HB hb;clear hb hbox hg))
 go_loopg [13,14] k (fun kq v13 v14 w'=>∃ (fG:List (gz)) (fZ:Int) (iN:Int) (iA:Int) (gU:Int) (gB:Int),v14 = .int .i64 fZ∧ae (bT.l0 kq a3 l4 fG fZ aj ak ax ay aJ aC aG aN av aU aQ aZ bf bE bF bG iN iA gU gB = some (r1,r2,r3))∧ae (kq≤k)∧ae (Kd.R PN 31 w' w.heap.size (fun k_=>k_≠jd) v13 fG)∧ae (w'.heap[gL]? = some (.cells #[.int .i64 aj,.int .i64 ak,.int .i64 ax,.int .i64 ay,.int .i64 aJ,.int .i64 aC,.int .i64 aG,(.slice dH aN.length dD),(.slice dG av.length dE)] 25 (0,0)))∧ae (w'.heap[iK]? = some (.cells #[.int .i64 aU,.int .i64 aQ,.int .i64 aZ,.int .i64 bf,.int .i64 bE,.int .i64 bF,.int .i64 bG] 29 (0,0)))∧ae (w'.heap[jd]? = some (.cells #[.int .i64 iN,.int .i64 iA,.int .i64 gU,.int .i64 gB] 31 (0,0)))∧ae (Below w.heap.size w w'))
 case atStart=>exact ⟨(([]:List (gz))),(0),(bP),(bQ),(bR),(bS),nI,H',⟨Nat.le_refl _⟩,⟨acr⟩,⟨iq⟩,⟨iq⟩,⟨iq⟩,⟨gM⟩⟩
 case round =>
  clear H'
  try clear p2
  try clear c4
  try clear c8
  obtain ⟨fG,fZ,iN,iA,gU,gB,rfl,HA,Mi,mr,df,dQ,je,HB⟩:=hrel
  cases gk with
  |zero=>exact absurd HA.out (by simp [bT.l0])
  |succ k1 =>
   have H:=HA.out
   clear HA
   simp only [bT.l0] at H
   by_cases c9:fZ < (l4.length:Int)
   ·rw [if_pos c9] at H
    have U4:decide (fZ < (l4.length:Int)) = true:=decide_eq_true c9
    clear c9
    by_cases c10:0≤fZ
    ·rw [if_pos c10] at H
     have Ad:decide (0≤fZ) = true:=decide_eq_true c10
     clear c10
     replace H:=Option.bind_eq_some_iff.mp H
     obtain ⟨⟨o6,qA,uu,xg,DJ⟩,aq3,H⟩:=H
     replace H:(if DJ = 0 then (if fG.length < 4398046511104 then (bT.l0 k1 a3 l4 (fG++[(⟨(⟨o6,qA⟩:nD),(⟨uu,xg⟩:nD)⟩:gz)]) (wrap64 (fZ+1)) aj ak ax ay aJ aC aG aN av aU aQ aZ bf bE bF bG o6 qA uu xg) else (none)) else (some (([]:List (gz)),fZ,DJ))) = some (r1,r2,r3):=H
     have A11:=ae.mk aq3
     clear aq3
     by_cases c12:DJ = 0
     ·rw [if_pos c12] at H
      have QV:(DJ == 0) = true:=beq_iff_eq.mpr c12
      have aq4:(DJ != 0) = false:=bne_eq_false_iff_eq.mpr c12
      clear c12
      by_cases c13:fG.length < 4398046511104
      ·rw [if_pos c13] at H
       have aq5:=ae.mk c13
       clear c13
       obtain ⟨aq6,Vx⟩:∃ y_:List (gz),y_ = (fG++[(⟨(⟨o6,qA⟩:nD),(⟨uu,xg⟩:nD)⟩:gz)]):=⟨_,rfl⟩
       replace H:(bT.l0 k1 a3 l4 aq6 (wrap64 (fZ+1)) aj ak ax ay aJ aC aG aN av aU aQ aZ bf bE bF bG o6 qA uu xg) = some (r1,r2,r3):=by first|(rw [Vx];with_reducible exact H)|(have KU:=(Option.bind_some _ _).symm.trans H;rw [Vx];with_reducible exact KU)|(have KU:=(Option.bind_some _ _).symm.trans H;with_reducible exact KU)|with_reducible exact H|(rw [Vx];exact H)|exact H
       have aq7:=ae.mk Vx
       clear Vx
       have H':=ae.mk H
       clear H
       try go_wp2
       replace mr:=ae.mk (Kd.jo mr.out)
       replace df:=ae.mk (ah df.out)
       replace dQ:=ae.mk (ah dQ.out)
       replace je:=ae.mk (ah je.out)
       replace HB:=ae.mk (bW HB.out)
       have Xw:0≤(fZ:Int):=of_decide_eq_true lX
       have Xx:fZ < (l4.length:Int):=of_decide_eq_true lX
       obtain ⟨sV,anp,sW,sZ⟩:=kT HR4.out fZ Xw Xx
       have kW:=sZ
       have kX:=sW
       cases anp
       replace sW:=(HB.out.cell (World.block_lt_of_cell? w _ sW)).trans sW
       replace sZ:=(HB.out.cell (World.block_lt_of_cell? w _ sZ)).trans sZ
       replace Xw:=eq_true Xw
       replace Xx:=eq_true Xx
       refine jI (n:=20) (S:=fun w'=>w'.cell? ⟨gL,0,none⟩ = some (.int .i64 aj)∧w'.cell? ⟨gL,1,none⟩ = some (.int .i64 ak)∧w'.cell? ⟨gL,2,none⟩ = some (.int .i64 ax)∧w'.cell? ⟨gL,3,none⟩ = some (.int .i64 ay)∧w'.cell? ⟨gL,4,none⟩ = some (.int .i64 aJ)∧w'.cell? ⟨gL,5,none⟩ = some (.int .i64 aC)∧w'.cell? ⟨gL,6,none⟩ = some (.int .i64 aG)∧w'.cell? ⟨gL,7,none⟩ = some (.slice dH aN.length dD)∧w'.cell? ⟨gL,8,none⟩ = some (.slice dG av.length dE)∧w'.cell? ⟨iK,0,none⟩ = some (.int .i64 aU)∧w'.cell? ⟨iK,1,none⟩ = some (.int .i64 aQ)∧w'.cell? ⟨iK,2,none⟩ = some (.int .i64 aZ)∧w'.cell? ⟨iK,3,none⟩ = some (.int .i64 bf)∧w'.cell? ⟨iK,4,none⟩ = some (.int .i64 bE)∧w'.cell? ⟨iK,5,none⟩ = some (.int .i64 bF)∧w'.cell? ⟨iK,6,none⟩ = some (.int .i64 bG)∧w'.cell? ⟨jd,0,none⟩ = some (.int .i64 iN)∧w'.cell? ⟨jd,1,none⟩ = some (.int .i64 iA)∧w'.cell? ⟨jd,2,none⟩ = some (.int .i64 gU)∧w'.cell? ⟨jd,3,none⟩ = some (.int .i64 gB)∧w'.cell? (sV.add ((fZ).toNat*2)) = some (.int .i64 ((dx l4 fZ).f0))∧w'.cell? ⟨(sV.add ((fZ).toNat*2)).block,(sV.add ((fZ).toNat*2)).off+1,none⟩ = some (.int .i64 ((dx l4 fZ).f1))) (ds:=[]) #[false,false,false,false,false,false,false,false,false,false,false,false,false,false,false,false,false,false,false,false] aR rfl rfl ⟨(aa df.out 0).trans rfl,(aa df.out 1).trans rfl,(aa df.out 2).trans rfl,(aa df.out 3).trans rfl,(aa df.out 4).trans rfl,(aa df.out 5).trans rfl,(aa df.out 6).trans rfl,(aa df.out 7).trans rfl,(aa df.out 8).trans rfl,(aa dQ.out 0).trans rfl,(aa dQ.out 1).trans rfl,(aa dQ.out 2).trans rfl,(aa dQ.out 3).trans rfl,(aa dQ.out 4).trans rfl,(aa dQ.out 5).trans rfl,(aa dQ.out 6).trans rfl,Gw je.out ⟨((HB.out.cell (World.block_lt_of_cell? w _ kX)).trans kX),((HB.out.cell (World.block_lt_of_cell? w _ kW)).trans kW)⟩⟩ (fun hHeld=>?_);refine iM bT.aq2 bT.alB (fun bN jX=>?_)
       generalize wr.drew = w14 at mr df dQ je HB sW sZ hHeld ⊢
       refine dJ (i:=3) (N:=some 27) (aD bN.out aR) ?_
       refine dJ (i:=4) (N:=some 28) (aD bN.out aR) ?_
       refine dJ (i:=5) (N:=some 29) (aD bN.out aR) ?_
       refine dJ (i:=9) (N:=some 33) (aD bN.out aR) ?_
       refine dJ (i:=10) (N:=some 34) (aD bN.out aR) ?_
       refine dJ (i:=11) (N:=some 35) (aD bN.out aR) ?_
       refine ja (i:=0) (N:=some 24) (bq bN.out jX.out aR) hHeld ?_
       refine ja (i:=1) (N:=some 25) (bq bN.out jX.out aR) hHeld ?_
       refine ja (i:=2) (N:=some 26) (bq bN.out jX.out aR) hHeld ?_
       refine ja (i:=6) (N:=some 30) (bq bN.out jX.out aR) hHeld ?_
       refine dJ (i:=7) (N:=some 31) (aD bN.out aR) ?_
       refine dJ (i:=8) (N:=some 32) (aD bN.out aR) ?_
       refine ja (i:=12) (N:=some 36) (bq bN.out jX.out aR) hHeld ?_
       refine Qx (σ:=Nat) 2 #[true,true,true,true,true,true,true,true,true,true,true,true,true,true,true,true,true,true,false,false] (fun s_=>[(37,.tuple #[.agg #[.int .i64 o6,.int .i64 qA,.int .i64 uu,.int .i64 xg],.int .i64 DJ]),(15,.pointer (some ⟨s_,0,none⟩)),(23,.tuple #[.agg #[.int .i64 o6,.int .i64 qA,.int .i64 uu,.int .i64 xg],.int .i64 DJ]),(38,.agg #[.int .i64 o6,.int .i64 qA,.int .i64 uu,.int .i64 xg]),(39,.int .i64 DJ)]) (fun s_ w'=>(w'.cell? ⟨gL,0,none⟩ = some (.int .i64 aj)∧w'.cell? ⟨gL,1,none⟩ = some (.int .i64 ak)∧w'.cell? ⟨gL,2,none⟩ = some (.int .i64 ax)∧w'.cell? ⟨gL,3,none⟩ = some (.int .i64 ay)∧w'.cell? ⟨gL,4,none⟩ = some (.int .i64 aJ)∧w'.cell? ⟨gL,5,none⟩ = some (.int .i64 aC)∧w'.cell? ⟨gL,6,none⟩ = some (.int .i64 aG)∧w'.cell? ⟨gL,7,none⟩ = some (.slice dH aN.length dD)∧w'.cell? ⟨gL,8,none⟩ = some (.slice dG av.length dE)∧w'.cell? ⟨iK,0,none⟩ = some (.int .i64 aU)∧w'.cell? ⟨iK,1,none⟩ = some (.int .i64 aQ)∧w'.cell? ⟨iK,2,none⟩ = some (.int .i64 aZ)∧w'.cell? ⟨iK,3,none⟩ = some (.int .i64 bf)∧w'.cell? ⟨iK,4,none⟩ = some (.int .i64 bE)∧w'.cell? ⟨iK,5,none⟩ = some (.int .i64 bF)∧w'.cell? ⟨iK,6,none⟩ = some (.int .i64 bG)∧w'.cell? ⟨jd,0,none⟩ = some (.int .i64 iN)∧w'.cell? ⟨jd,1,none⟩ = some (.int .i64 iA)∧w'.cell? ⟨jd,2,none⟩ = some (.int .i64 gU)∧w'.cell? ⟨jd,3,none⟩ = some (.int .i64 gB)∧w'.cell? (sV.add ((fZ).toNat*2)) = some (.int .i64 ((dx l4 fZ).f0))∧w'.cell? ⟨(sV.add ((fZ).toNat*2)).block,(sV.add ((fZ).toNat*2)).off+1,none⟩ = some (.int .i64 ((dx l4 fZ).f1)))∧(Kd.R PN 31 w' w.heap.size (fun k_=>k_≠jd∧k_≠s_) u13 fG)∧(w'.heap[gL]? = some (.cells #[.int .i64 aj,.int .i64 ak,.int .i64 ax,.int .i64 ay,.int .i64 aJ,.int .i64 aC,.int .i64 aG,.slice dH aN.length dD,.slice dG av.length dE] 25 (0,0)))∧(w'.heap[iK]? = some (.cells #[.int .i64 aU,.int .i64 aQ,.int .i64 aZ,.int .i64 bf,.int .i64 bE,.int .i64 bF,.int .i64 bG] 29 (0,0)))∧(w'.heap[jd]? = some (.cells #[.int .i64 iN,.int .i64 iA,.int .i64 gU,.int .i64 gB] 31 (0,0)))∧(w'.heap[s_]? = some (.cells #[.int .i64 0,.int .i64 0,.int .i64 0,.int .i64 0] 31 (0,0)))∧(w.heap.size≤s_)∧(w.heap.size≤s_)∧(gL≠s_)∧(s_≠gL)∧(iK≠s_)∧(s_≠iK)∧(jd≠s_)∧(s_≠jd)∧(Below w.heap.size w w')) ?_ ?_
       rotate_left
       ·intro hCont
        refine UL (i:=13) (j:=17) (Ni:=some 37) (Nj:=some 15) #[true,true,true,true,true,true,true,true,true,true,true,true,true,true,false,false,false,false,false,false] #[true,true,true,true,true,true,true,true,true,true,true,true,true,false,false,false,false,true,false,false] rfl rfl rfl rfl (KY bN.out aR) (by decide) (by decide) (fun K hK=>?_) (fun K hK=>?_)
        ·skip
         refine gV Try.func82 aR rfl #[.agg #[.int .i64 aj,.int .i64 ak,.int .i64 ax,.int .i64 ay,.int .i64 aJ,.int .i64 aC,.int .i64 aG,.slice dH aN.length dD,.slice dG av.length dE],.agg #[.int .i64 aU,.int .i64 aQ,.int .i64 aZ,.int .i64 bf,.int .i64 bE,.int .i64 bF,.int .i64 bG],.agg #[.int .i64 iN,.int .i64 iA,.int .i64 gU,.int .i64 gB],.int .i64 (wrap64 (a3+(wrap64 (fZ*aQ)))),.agg #[.int .i64 ((dx l4 fZ).f0),.int .i64 ((dx l4 fZ).f1)]] (by rfl) rfl rfl jJ ?_
         with_reducible refine (jm.calls k1 aj ak ax ay aJ aC aG _ _ aN _ _ av aU aQ aZ bf bE bF bG iN iA gU gB (wrap64 (a3+(wrap64 (fZ*aQ)))) ((dx l4 fZ).f0) ((dx l4 fZ).f1) o6 qA uu xg DJ _ ?dz ?dA ?dR ?dS A11.out).mono ?_
         (case dz=>repeat (first|exact (Kd.bn gq.out HB.out)|(with_reducible refine Kd.bA ?_ _)|(with_reducible refine Kd.bB ?_ _)|(with_reducible refine Kd.bK ?_)))
         (case dA=>exact gG.out)
         (case dR=>repeat (first|exact (Kd.bn fF.out HB.out)|(with_reducible refine Kd.bA ?_ _)|(with_reducible refine Kd.bB ?_ _)|(with_reducible refine Kd.bK ?_)))
         (case dS=>exact gH.out)
         rintro e WW ⟨rfl,hb⟩
         refine ⟨_,rfl,?_⟩
         replace mr:=xB mr hb
         replace df:=bC df hb
         replace dQ:=bC dQ hb
         replace je:=bC je hb
         replace HB:=dF HB hb
         (try clear hb)
         (try clear hb2)
         (try clear hk)
         (try clear hi)
         refine hK.out _ _ ⟨(aa df.out 0).trans rfl,(aa df.out 1).trans rfl,(aa df.out 2).trans rfl,(aa df.out 3).trans rfl,(aa df.out 4).trans rfl,(aa df.out 5).trans rfl,(aa df.out 6).trans rfl,(aa df.out 7).trans rfl,(aa df.out 8).trans rfl,(aa dQ.out 0).trans rfl,(aa dQ.out 1).trans rfl,(aa dQ.out 2).trans rfl,(aa dQ.out 3).trans rfl,(aa dQ.out 4).trans rfl,(aa dQ.out 5).trans rfl,(aa dQ.out 6).trans rfl,Gw je.out ⟨((HB.out.cell (World.block_lt_of_cell? w _ kX)).trans kX),((HB.out.cell (World.block_lt_of_cell? w _ kW)).trans kW)⟩⟩ (fun hHeld=>?_)
         clear hK K
         refine ek ajb ?_
         refine dJ (i:=14) (N:=some 23) (aD bN.out aR) ?_
         refine dJ (i:=15) (N:=some 38) (aD bN.out aR) ?_
         refine dJ (i:=16) (N:=some 39) (aD bN.out aR) ?_
         refine jq (i:=17) (N:=some 15) #[true,true,true,true,true,true,true,true,true,true,true,true,true,true,true,true,true,true,false,false] rfl rfl (fE bN.out aR) (by decide) (fun K hK=>?_)
         refine o8 ?hg (N:=15) ?hd (cs:=#[.int .i64 0,.int .i64 0,.int .i64 0,.int .i64 0]) (t:=31) ?hr ?_;(case hd=>rfl);(case hg=>rfl);(case hr=>first|(go_simp;done)|(go_simp;rfl))
         intro bg hg w16 hbox hb
         have mD:=ae.mk (hbox)
         have vN:=dn HB hg
         have JX:=dn HB hg
         have bz:=iE df hg
         have jR:=iF df hg
         have bH:=iE dQ hg
         have jS:=iF dQ hg
         have cZ:=iE je hg
         have ik:=iF je hg
         replace mr:=ae.mk (Kd.pJ (Kd.Ig Vy bg (Nat.le_of_eq hg.symm)) hb)
         replace df:=bC df hb
         replace dQ:=bC dQ hb
         replace je:=bC je hb
         replace HB:=dF HB hb
         clear hb hbox hg
         refine hK.out _ _ ⟨(aa df.out 0).trans rfl,(aa df.out 1).trans rfl,(aa df.out 2).trans rfl,(aa df.out 3).trans rfl,(aa df.out 4).trans rfl,(aa df.out 5).trans rfl,(aa df.out 6).trans rfl,(aa df.out 7).trans rfl,(aa df.out 8).trans rfl,(aa dQ.out 0).trans rfl,(aa dQ.out 1).trans rfl,(aa dQ.out 2).trans rfl,(aa dQ.out 3).trans rfl,(aa dQ.out 4).trans rfl,(aa dQ.out 5).trans rfl,(aa dQ.out 6).trans rfl,Gw je.out ⟨((HB.out.cell (World.block_lt_of_cell? w _ kX)).trans kX),((HB.out.cell (World.block_lt_of_cell? w _ kW)).trans kW)⟩⟩ (fun hHeld=>?_)
         clear hK K
         refine ek ajc ?_
         exact ek P7 (hCont (bg) _ ⟨hHeld,Vy,iq,iq,iq,iq,vN.out,JX.out,bz.out,jR.out,bH.out,jS.out,cZ.out,ik.out,gM⟩)
        ·skip
         refine o8 ?hg (N:=15) ?hd (cs:=#[.int .i64 0,.int .i64 0,.int .i64 0,.int .i64 0]) (t:=31) ?hr ?_;(case hd=>rfl);(case hg=>rfl);(case hr=>first|(go_simp;done)|(go_simp;rfl))
         intro bg hg WW hbox hb
         have mD:=ae.mk (hbox)
         have vN:=dn HB hg
         have JX:=dn HB hg
         have bz:=iE df hg
         have jR:=iF df hg
         have bH:=iE dQ hg
         have jS:=iF dQ hg
         have cZ:=iE je hg
         have ik:=iF je hg
         replace mr:=ae.mk (Kd.pJ (Kd.Ig Vy bg (Nat.le_of_eq hg.symm)) hb)
         replace df:=bC df hb
         replace dQ:=bC dQ hb
         replace je:=bC je hb
         replace HB:=dF HB hb
         clear hb hbox hg
         refine hK.out _ _ ⟨(aa df.out 0).trans rfl,(aa df.out 1).trans rfl,(aa df.out 2).trans rfl,(aa df.out 3).trans rfl,(aa df.out 4).trans rfl,(aa df.out 5).trans rfl,(aa df.out 6).trans rfl,(aa df.out 7).trans rfl,(aa df.out 8).trans rfl,(aa dQ.out 0).trans rfl,(aa dQ.out 1).trans rfl,(aa dQ.out 2).trans rfl,(aa dQ.out 3).trans rfl,(aa dQ.out 4).trans rfl,(aa dQ.out 5).trans rfl,(aa dQ.out 6).trans rfl,Gw je.out ⟨((HB.out.cell (World.block_lt_of_cell? w _ kX)).trans kX),((HB.out.cell (World.block_lt_of_cell? w _ kW)).trans kW)⟩⟩ (fun hHeld=>?_)
         clear hK K
         refine ek ajc ?_
         refine jq (i:=13) (N:=some 37) #[true,true,true,true,true,true,true,true,true,true,true,true,true,true,false,false,false,true,false,false] rfl rfl (fE bN.out aR) (by decide) (fun K hK=>?_)
         refine gV Try.func82 aR rfl #[.agg #[.int .i64 aj,.int .i64 ak,.int .i64 ax,.int .i64 ay,.int .i64 aJ,.int .i64 aC,.int .i64 aG,.slice dH aN.length dD,.slice dG av.length dE],.agg #[.int .i64 aU,.int .i64 aQ,.int .i64 aZ,.int .i64 bf,.int .i64 bE,.int .i64 bF,.int .i64 bG],.agg #[.int .i64 iN,.int .i64 iA,.int .i64 gU,.int .i64 gB],.int .i64 (wrap64 (a3+(wrap64 (fZ*aQ)))),.agg #[.int .i64 ((dx l4 fZ).f0),.int .i64 ((dx l4 fZ).f1)]] (by rfl) rfl rfl jJ ?_
         with_reducible refine (jm.calls k1 aj ak ax ay aJ aC aG _ _ aN _ _ av aU aQ aZ bf bE bF bG iN iA gU gB (wrap64 (a3+(wrap64 (fZ*aQ)))) ((dx l4 fZ).f0) ((dx l4 fZ).f1) o6 qA uu xg DJ _ ?dz ?dA ?dR ?dS A11.out).mono ?_
         (case dz=>repeat (first|exact (Kd.bn gq.out HB.out)|(with_reducible refine Kd.bA ?_ _)|(with_reducible refine Kd.bB ?_ _)|(with_reducible refine Kd.bK ?_)))
         (case dA=>exact gG.out)
         (case dR=>repeat (first|exact (Kd.bn fF.out HB.out)|(with_reducible refine Kd.bA ?_ _)|(with_reducible refine Kd.bB ?_ _)|(with_reducible refine Kd.bK ?_)))
         (case dS=>exact gH.out)
         rintro e w16 ⟨rfl,hb⟩
         refine ⟨_,rfl,?_⟩
         replace mr:=xB mr hb
         replace df:=bC df hb
         replace dQ:=bC dQ hb
         replace je:=bC je hb
         replace mD:=bC mD hb
         replace HB:=dF HB hb
         (try clear hb)
         (try clear hb2)
         (try clear hk)
         (try clear hi)
         refine hK.out _ _ ⟨(aa df.out 0).trans rfl,(aa df.out 1).trans rfl,(aa df.out 2).trans rfl,(aa df.out 3).trans rfl,(aa df.out 4).trans rfl,(aa df.out 5).trans rfl,(aa df.out 6).trans rfl,(aa df.out 7).trans rfl,(aa df.out 8).trans rfl,(aa dQ.out 0).trans rfl,(aa dQ.out 1).trans rfl,(aa dQ.out 2).trans rfl,(aa dQ.out 3).trans rfl,(aa dQ.out 4).trans rfl,(aa dQ.out 5).trans rfl,(aa dQ.out 6).trans rfl,Gw je.out ⟨((HB.out.cell (World.block_lt_of_cell? w _ kX)).trans kX),((HB.out.cell (World.block_lt_of_cell? w _ kW)).trans kW)⟩⟩ (fun hHeld=>?_)
         clear hK K
         refine ek ajb ?_
         refine dJ (i:=14) (N:=some 23) (aD bN.out aR) ?_
         refine dJ (i:=15) (N:=some 38) (aD bN.out aR) ?_
         refine dJ (i:=16) (N:=some 39) (aD bN.out aR) ?_
         exact ek P7 (hCont (bg) _ ⟨hHeld,Vy,iq,iq,iq,iq,vN.out,JX.out,bz.out,jR.out,bH.out,jS.out,cZ.out,ik.out,gM⟩)
       rintro bg Ac ⟨hS_,h0_,h1_,h2_,h3_,h4_,h5_,h6_,h7_,h8_,h9_,O5,O6,Vm,Vn⟩
       have BM:ae (Kd.R PN 31 Ac w.heap.size (fun k_=>k_≠jd∧k_≠bg) u13 fG):=⟨h0_⟩
       have BN:ae (Ac.heap[gL]? = some (.cells #[.int .i64 aj,.int .i64 ak,.int .i64 ax,.int .i64 ay,.int .i64 aJ,.int .i64 aC,.int .i64 aG,.slice dH aN.length dD,.slice dG av.length dE] 25 (0,0))):=⟨h1_⟩
       have BO:ae (Ac.heap[iK]? = some (.cells #[.int .i64 aU,.int .i64 aQ,.int .i64 aZ,.int .i64 bf,.int .i64 bE,.int .i64 bF,.int .i64 bG] 29 (0,0))):=⟨h2_⟩
       have BP:ae (Ac.heap[jd]? = some (.cells #[.int .i64 iN,.int .i64 iA,.int .i64 gU,.int .i64 gB] 31 (0,0))):=⟨h3_⟩
       have BQ:ae (Ac.heap[bg]? = some (.cells #[.int .i64 0,.int .i64 0,.int .i64 0,.int .i64 0] 31 (0,0))):=⟨h4_⟩
       have GD:ae (w.heap.size≤bg):=⟨h5_⟩
       have RH:ae (w.heap.size≤bg):=⟨h6_⟩
       have n7_:ae (gL≠bg):=⟨h7_⟩
       have n8_:ae (bg≠gL):=⟨h8_⟩
       have n9_:ae (iK≠bg):=⟨h9_⟩
       have O7:ae (bg≠iK):=⟨O5⟩
       have O8:ae (jd≠bg):=⟨O6⟩
       have Vo:ae (bg≠jd):=⟨Vm⟩
       have Vp:ae (Below w.heap.size w Ac):=⟨Vn⟩
       clear mr df dQ je HB
       clear h0_ h1_ h2_ h3_ h4_ h5_ h6_ h7_ h8_ h9_ O5 O6 Vm Vn
       have mr:=BM
       have df:=BN
       have dQ:=BO
       have je:=BP
       have mD:=BQ
       have vN:=GD
       have JX:=RH
       have bz:=n7_
       have jR:=n8_
       have bH:=n9_
       have jS:=O7
       have cZ:=O8
       have ik:=Vo
       have HB:=Vp
       clear BM BN BO BP BQ GD RH n7_ n8_ n9_ O7 O8 Vo Vp
       have hHeld:Ac.cell? ⟨gL,0,none⟩ = some (.int .i64 aj)∧Ac.cell? ⟨gL,1,none⟩ = some (.int .i64 ak)∧Ac.cell? ⟨gL,2,none⟩ = some (.int .i64 ax)∧Ac.cell? ⟨gL,3,none⟩ = some (.int .i64 ay)∧Ac.cell? ⟨gL,4,none⟩ = some (.int .i64 aJ)∧Ac.cell? ⟨gL,5,none⟩ = some (.int .i64 aC)∧Ac.cell? ⟨gL,6,none⟩ = some (.int .i64 aG)∧Ac.cell? ⟨gL,7,none⟩ = some (.slice dH aN.length dD)∧Ac.cell? ⟨gL,8,none⟩ = some (.slice dG av.length dE)∧Ac.cell? ⟨iK,0,none⟩ = some (.int .i64 aU)∧Ac.cell? ⟨iK,1,none⟩ = some (.int .i64 aQ)∧Ac.cell? ⟨iK,2,none⟩ = some (.int .i64 aZ)∧Ac.cell? ⟨iK,3,none⟩ = some (.int .i64 bf)∧Ac.cell? ⟨iK,4,none⟩ = some (.int .i64 bE)∧Ac.cell? ⟨iK,5,none⟩ = some (.int .i64 bF)∧Ac.cell? ⟨iK,6,none⟩ = some (.int .i64 bG)∧Ac.cell? ⟨jd,0,none⟩ = some (.int .i64 iN)∧Ac.cell? ⟨jd,1,none⟩ = some (.int .i64 iA)∧Ac.cell? ⟨jd,2,none⟩ = some (.int .i64 gU)∧Ac.cell? ⟨jd,3,none⟩ = some (.int .i64 gB)∧Ac.cell? (sV.add ((fZ).toNat*2)) = some (.int .i64 ((dx l4 fZ).f0))∧Ac.cell? ⟨(sV.add ((fZ).toNat*2)).block,(sV.add ((fZ).toNat*2)).off+1,none⟩ = some (.int .i64 ((dx l4 fZ).f1)):=hS_
       refine ek (a':=?_) ?_ ?_
       rotate_left
       ·simp only [vQ,Act.put,List.setIfInBounds_toArray,List.set_cons_zero,List.set_cons_succ]
        rfl
       refine jq (i:=18) (N:=none) #[true,true,true,true,true,true,true,true,true,true,true,true,true,true,true,true,true,true,true,false] rfl rfl (fE bN.out aR) (by decide) (fun K hK=>?_)
       have aJd:Ac.cell? ⟨bg,0,none⟩ = some (.int .i64 0):=(aa mD.out 0).trans rfl
       have aGR:=aX mD.out 0
       have ayM:=bz.out
       have ayN:=bH.out
       have ayO:=cZ.out
       have ayP:=jR.out
       have ayQ:=jS.out
       have ayR:=ik.out
       have aJe:Ac.cell? ⟨bg,1,none⟩ = some (.int .i64 0):=(aa mD.out 1).trans rfl
       have aGS:=aX mD.out 1
       have ayS:=bz.out
       have ayT:=bH.out
       have ayU:=cZ.out
       have ayV:=jR.out
       have ayW:=jS.out
       have ayX:=ik.out
       have aJf:Ac.cell? ⟨bg,2,none⟩ = some (.int .i64 0):=(aa mD.out 2).trans rfl
       have aGT:=aX mD.out 2
       have ayY:=bz.out
       have ayZ:=bH.out
       have ay0:=cZ.out
       have ay1:=jR.out
       have ay2:=jS.out
       have ay3:=ik.out
       have aDb:Ac.cell? ⟨bg,3,none⟩ = some (.int .i64 0):=(aa mD.out 3).trans rfl
       have apo:=aX mD.out 3
       have agr:=bz.out
       have ags:=bH.out
       have ay4:=cZ.out
       have agt:=jR.out
       have agu:=jS.out
       have ay5:=ik.out
       refine yc (w1:=?_) (by rfl) rfl ?_ ?_
       rotate_left
       ·go_simp
        rfl
       refine hK.out _ _ ⟨((cell_far (p:=⟨bg,_,none⟩) bz.out _).trans (((cell_far (p:=⟨bg,_,none⟩) bz.out _).trans (((cell_far (p:=⟨bg,_,none⟩) bz.out _).trans (((cell_far (p:=⟨bg,_,none⟩) bz.out _).trans (hHeld.1)))))))),((cell_far (p:=⟨bg,_,none⟩) bz.out _).trans (((cell_far (p:=⟨bg,_,none⟩) bz.out _).trans (((cell_far (p:=⟨bg,_,none⟩) bz.out _).trans (((cell_far (p:=⟨bg,_,none⟩) bz.out _).trans (hHeld.2.1)))))))),((cell_far (p:=⟨bg,_,none⟩) bz.out _).trans (((cell_far (p:=⟨bg,_,none⟩) bz.out _).trans (((cell_far (p:=⟨bg,_,none⟩) bz.out _).trans (((cell_far (p:=⟨bg,_,none⟩) bz.out _).trans (hHeld.2.2.1)))))))),((cell_far (p:=⟨bg,_,none⟩) bz.out _).trans (((cell_far (p:=⟨bg,_,none⟩) bz.out _).trans (((cell_far (p:=⟨bg,_,none⟩) bz.out _).trans (((cell_far (p:=⟨bg,_,none⟩) bz.out _).trans (hHeld.2.2.2.1)))))))),((cell_far (p:=⟨bg,_,none⟩) bz.out _).trans (((cell_far (p:=⟨bg,_,none⟩) bz.out _).trans (((cell_far (p:=⟨bg,_,none⟩) bz.out _).trans (((cell_far (p:=⟨bg,_,none⟩) bz.out _).trans (hHeld.2.2.2.2.1)))))))),((cell_far (p:=⟨bg,_,none⟩) bz.out _).trans (((cell_far (p:=⟨bg,_,none⟩) bz.out _).trans (((cell_far (p:=⟨bg,_,none⟩) bz.out _).trans (((cell_far (p:=⟨bg,_,none⟩) bz.out _).trans (hHeld.2.2.2.2.2.1)))))))),((cell_far (p:=⟨bg,_,none⟩) bz.out _).trans (((cell_far (p:=⟨bg,_,none⟩) bz.out _).trans (((cell_far (p:=⟨bg,_,none⟩) bz.out _).trans (((cell_far (p:=⟨bg,_,none⟩) bz.out _).trans (hHeld.2.2.2.2.2.2.1)))))))),((cell_far (p:=⟨bg,_,none⟩) bz.out _).trans (((cell_far (p:=⟨bg,_,none⟩) bz.out _).trans (((cell_far (p:=⟨bg,_,none⟩) bz.out _).trans (((cell_far (p:=⟨bg,_,none⟩) bz.out _).trans (hHeld.2.2.2.2.2.2.2.1)))))))),((cell_far (p:=⟨bg,_,none⟩) bz.out _).trans (((cell_far (p:=⟨bg,_,none⟩) bz.out _).trans (((cell_far (p:=⟨bg,_,none⟩) bz.out _).trans (((cell_far (p:=⟨bg,_,none⟩) bz.out _).trans (hHeld.2.2.2.2.2.2.2.2.1)))))))),((cell_far (p:=⟨bg,_,none⟩) bH.out _).trans (((cell_far (p:=⟨bg,_,none⟩) bH.out _).trans (((cell_far (p:=⟨bg,_,none⟩) bH.out _).trans (((cell_far (p:=⟨bg,_,none⟩) bH.out _).trans (hHeld.2.2.2.2.2.2.2.2.2.1)))))))),((cell_far (p:=⟨bg,_,none⟩) bH.out _).trans (((cell_far (p:=⟨bg,_,none⟩) bH.out _).trans (((cell_far (p:=⟨bg,_,none⟩) bH.out _).trans (((cell_far (p:=⟨bg,_,none⟩) bH.out _).trans (hHeld.2.2.2.2.2.2.2.2.2.2.1)))))))),((cell_far (p:=⟨bg,_,none⟩) bH.out _).trans (((cell_far (p:=⟨bg,_,none⟩) bH.out _).trans (((cell_far (p:=⟨bg,_,none⟩) bH.out _).trans (((cell_far (p:=⟨bg,_,none⟩) bH.out _).trans (hHeld.2.2.2.2.2.2.2.2.2.2.2.1)))))))),((cell_far (p:=⟨bg,_,none⟩) bH.out _).trans (((cell_far (p:=⟨bg,_,none⟩) bH.out _).trans (((cell_far (p:=⟨bg,_,none⟩) bH.out _).trans (((cell_far (p:=⟨bg,_,none⟩) bH.out _).trans (hHeld.2.2.2.2.2.2.2.2.2.2.2.2.1)))))))),((cell_far (p:=⟨bg,_,none⟩) bH.out _).trans (((cell_far (p:=⟨bg,_,none⟩) bH.out _).trans (((cell_far (p:=⟨bg,_,none⟩) bH.out _).trans (((cell_far (p:=⟨bg,_,none⟩) bH.out _).trans (hHeld.2.2.2.2.2.2.2.2.2.2.2.2.2.1)))))))),((cell_far (p:=⟨bg,_,none⟩) bH.out _).trans (((cell_far (p:=⟨bg,_,none⟩) bH.out _).trans (((cell_far (p:=⟨bg,_,none⟩) bH.out _).trans (((cell_far (p:=⟨bg,_,none⟩) bH.out _).trans (hHeld.2.2.2.2.2.2.2.2.2.2.2.2.2.2.1)))))))),((cell_far (p:=⟨bg,_,none⟩) bH.out _).trans (((cell_far (p:=⟨bg,_,none⟩) bH.out _).trans (((cell_far (p:=⟨bg,_,none⟩) bH.out _).trans (((cell_far (p:=⟨bg,_,none⟩) bH.out _).trans (hHeld.2.2.2.2.2.2.2.2.2.2.2.2.2.2.2.1)))))))),((cell_far (p:=⟨bg,_,none⟩) cZ.out _).trans (((cell_far (p:=⟨bg,_,none⟩) cZ.out _).trans (((cell_far (p:=⟨bg,_,none⟩) cZ.out _).trans (((cell_far (p:=⟨bg,_,none⟩) cZ.out _).trans (hHeld.2.2.2.2.2.2.2.2.2.2.2.2.2.2.2.2.1)))))))),((cell_far (p:=⟨bg,_,none⟩) cZ.out _).trans (((cell_far (p:=⟨bg,_,none⟩) cZ.out _).trans (((cell_far (p:=⟨bg,_,none⟩) cZ.out _).trans (((cell_far (p:=⟨bg,_,none⟩) cZ.out _).trans (hHeld.2.2.2.2.2.2.2.2.2.2.2.2.2.2.2.2.2.1)))))))),((cell_far (p:=⟨bg,_,none⟩) cZ.out _).trans (((cell_far (p:=⟨bg,_,none⟩) cZ.out _).trans (((cell_far (p:=⟨bg,_,none⟩) cZ.out _).trans (((cell_far (p:=⟨bg,_,none⟩) cZ.out _).trans (hHeld.2.2.2.2.2.2.2.2.2.2.2.2.2.2.2.2.2.2.1)))))))),((cell_far (p:=⟨bg,_,none⟩) cZ.out _).trans (((cell_far (p:=⟨bg,_,none⟩) cZ.out _).trans (((cell_far (p:=⟨bg,_,none⟩) cZ.out _).trans (((cell_far (p:=⟨bg,_,none⟩) cZ.out _).trans (hHeld.2.2.2.2.2.2.2.2.2.2.2.2.2.2.2.2.2.2.2.1)))))))),((cell_far (p:=⟨bg,_,none⟩) Vz _).trans (((cell_far (p:=⟨bg,_,none⟩) Vz _).trans (((cell_far (p:=⟨bg,_,none⟩) Vz _).trans (((cell_far (p:=⟨bg,_,none⟩) Vz _).trans (hHeld.2.2.2.2.2.2.2.2.2.2.2.2.2.2.2.2.2.2.2.2.1)))))))),((cell_far (p:=⟨bg,_,none⟩) VA _).trans (((cell_far (p:=⟨bg,_,none⟩) VA _).trans (((cell_far (p:=⟨bg,_,none⟩) VA _).trans (((cell_far (p:=⟨bg,_,none⟩) VA _).trans (hHeld.2.2.2.2.2.2.2.2.2.2.2.2.2.2.2.2.2.2.2.2.2))))))))⟩ (fun hHeld=>?_)
       clear hK K
       refine dJ (i:=19) (N:=some 16) (aD bN.out aR) ?_
       refine lC (kF bN.out aR) ?_
       have YS:=jR.out
       have YT:=bz.out
       have YK:=jS.out
       have YL:=bH.out
       have alg:=ik.out
       have alh:=cZ.out
       obtain ⟨zk,zl,zm,zn,zo,zq,zt,zu⟩:=iC mD.out
       have alz:=acn.out
       have alA:=acm.out
       have aq8:=acp.out
       have aq9:=aco.out
       obtain ⟨zw,zx,zy,zz,zA,zB,zC,zD⟩:=iC je.out
       try go_wp2_with (first|((with_reducible refine CQ (b:=.append) (xs:=#[.tmp 45,.tmp 47]) rfl ?_);at_builtin;refine Kd.OD PN (w0:=w) w.heap.size rfl (.tmp 45) (.tmp 47) 50 31 (.agg #[(.int .i64 0),(.int .i64 0),(.int .i64 0),(.int .i64 0)]) 32 rfl Try.underlying50 aeG rfl (by decide) (by omega) u13 fG (⟨(⟨o6,qA⟩:nD),(⟨uu,xg⟩:nD)⟩:gz) [.int .i64 o6,.int .i64 qA,.int .i64 uu,.int .i64 xg] (fun k_=>k_≠jd∧k_≠bg) (fun _=>False) rfl gQ ?aP (fun _ hk=>hk.elim) ?aF ?aO ?aB ?aS ?aL ?_;(case aP=>exact aap _ _ _ (⟨(⟨o6,qA⟩:nD),(⟨uu,xg⟩:nD)⟩:gz));(case aB=>exact gM);(case aF=>exact (fun k_ hk=>⟨Kd.acX (g:=jd) (o:=.cells #[.int .i64 o6,.int .i64 qA,.int .i64 uu,.int .i64 xg] 31 (0,0)) (by (with_reducible repeat (first|refine au ?_ _|refine ah ?_|refine ag ?_ _));refine aI (cs:=#[.int .i64 o6,.int .i64 qA,.int .i64 uu,.int .i64 gB]) ?_ 3 _ rfl;(with_reducible repeat (first|refine au ?_ _|refine ah ?_|refine ag ?_ _));refine aI (cs:=#[.int .i64 o6,.int .i64 qA,.int .i64 gU,.int .i64 gB]) ?_ 2 _ rfl;(with_reducible repeat (first|refine au ?_ _|refine ah ?_|refine ag ?_ _));refine aI (cs:=#[.int .i64 o6,.int .i64 iA,.int .i64 gU,.int .i64 gB]) ?_ 1 _ rfl;(with_reducible repeat (first|refine au ?_ _|refine ah ?_|refine ag ?_ _));refine aI (cs:=#[.int .i64 iN,.int .i64 iA,.int .i64 gU,.int .i64 gB]) ?_ 0 _ rfl;(with_reducible repeat (first|refine au ?_ _|refine ah ?_|refine ag ?_ _));refine aM ?_ cZ.out _;(with_reducible repeat (first|refine au ?_ _|refine ah ?_|refine ag ?_ _));refine aM ?_ cZ.out _;(with_reducible repeat (first|refine au ?_ _|refine ah ?_|refine ag ?_ _));refine aM ?_ cZ.out _;(with_reducible repeat (first|refine au ?_ _|refine ah ?_|refine ag ?_ _));refine aM ?_ cZ.out _;(with_reducible repeat (first|refine au ?_ _|refine ah ?_|refine ag ?_ _));exact je.out) k_ hk,Kd.acX (g:=bg) (o:=.cells #[.int .i64 o6,.int .i64 qA,.int .i64 uu,.int .i64 xg] 31 (0,0)) (by (with_reducible repeat (first|refine au ?_ _|refine ah ?_|refine ag ?_ _));refine aM ?_ ik.out _;(with_reducible repeat (first|refine au ?_ _|refine ah ?_|refine ag ?_ _));refine aM ?_ ik.out _;(with_reducible repeat (first|refine au ?_ _|refine ah ?_|refine ag ?_ _));refine aM ?_ ik.out _;(with_reducible repeat (first|refine au ?_ _|refine ah ?_|refine ag ?_ _));refine aM ?_ ik.out _;(with_reducible repeat (first|refine au ?_ _|refine ah ?_|refine ag ?_ _));refine aI (cs:=#[.int .i64 o6,.int .i64 qA,.int .i64 uu,.int .i64 0]) ?_ 3 _ rfl;(with_reducible repeat (first|refine au ?_ _|refine ah ?_|refine ag ?_ _));refine aI (cs:=#[.int .i64 o6,.int .i64 qA,.int .i64 0,.int .i64 0]) ?_ 2 _ rfl;(with_reducible repeat (first|refine au ?_ _|refine ah ?_|refine ag ?_ _));refine aI (cs:=#[.int .i64 o6,.int .i64 0,.int .i64 0,.int .i64 0]) ?_ 1 _ rfl;(with_reducible repeat (first|refine au ?_ _|refine ah ?_|refine ag ?_ _));refine aI (cs:=#[.int .i64 0,.int .i64 0,.int .i64 0,.int .i64 0]) ?_ 0 _ rfl;(with_reducible repeat (first|refine au ?_ _|refine ah ?_|refine ag ?_ _));exact mD.out) k_ hk⟩));(case aO=>exact (by (with_reducible repeat (first|apply Kd.kK|apply Kd.kv|apply Kd.jo));exact Kd.lv (Kd.eG (p:=⟨jd,3,none⟩) (Kd.eG (p:=⟨jd,2,none⟩) (Kd.eG (p:=⟨jd,1,none⟩) (Kd.eG (p:=⟨jd,0,none⟩) (Kd.eG (p:=⟨bg,3,none⟩) (Kd.eG (p:=⟨bg,2,none⟩) (Kd.eG (p:=⟨bg,1,none⟩) (Kd.eG (p:=⟨bg,0,none⟩) (Kd.lv (Kd.lv mr.out (fun k_ hk=>(⟨hk,hk.2⟩:_∧k_≠bg))) (fun k_ hk=>(⟨hk,hk.1.1⟩:_∧k_≠jd))) (fun _ hk=>hk.1.2) (.int .i64 o6)) (fun _ hk=>hk.1.2) (.int .i64 qA)) (fun _ hk=>hk.1.2) (.int .i64 uu)) (fun _ hk=>hk.1.2) (.int .i64 xg)) (fun _ hk=>hk.2) (.int .i64 o6)) (fun _ hk=>hk.2) (.int .i64 qA)) (fun _ hk=>hk.2) (.int .i64 uu)) (fun _ hk=>hk.2) (.int .i64 xg)) (fun _ hk=>⟨hk.1.1.1,hk.1.1.2⟩)));(case aS=>exact (iG gM));(case aL=>have:=aq5.out;omega);intro aJg w29 ho hb hg hat;rw [← aq7.out] at ho;have BM:=ae.mk (pI (g:=gL) (o:=.cells #[.int .i64 aj,.int .i64 ak,.int .i64 ax,.int .i64 ay,.int .i64 aJ,.int .i64 aC,.int .i64 aG,.slice dH aN.length dD,.slice dG av.length dE] 25 (0,0)) iq hg (Kd.acV mr.out df.out (by decide)));have BN:=ae.mk (pI (g:=iK) (o:=.cells #[.int .i64 aU,.int .i64 aQ,.int .i64 aZ,.int .i64 bf,.int .i64 bE,.int .i64 bF,.int .i64 bG] 29 (0,0)) iq hg (Kd.acV mr.out dQ.out (by decide)));have BO:=ae.mk (pI (g:=jd) (o:=.cells #[.int .i64 o6,.int .i64 qA,.int .i64 uu,.int .i64 xg] 31 (0,0)) (by (with_reducible repeat (first|refine au ?_ _|refine ah ?_|refine ag ?_ _));refine aI (cs:=#[.int .i64 o6,.int .i64 qA,.int .i64 uu,.int .i64 gB]) ?_ 3 _ rfl;(with_reducible repeat (first|refine au ?_ _|refine ah ?_|refine ag ?_ _));refine aI (cs:=#[.int .i64 o6,.int .i64 qA,.int .i64 gU,.int .i64 gB]) ?_ 2 _ rfl;(with_reducible repeat (first|refine au ?_ _|refine ah ?_|refine ag ?_ _));refine aI (cs:=#[.int .i64 o6,.int .i64 iA,.int .i64 gU,.int .i64 gB]) ?_ 1 _ rfl;(with_reducible repeat (first|refine au ?_ _|refine ah ?_|refine ag ?_ _));refine aI (cs:=#[.int .i64 iN,.int .i64 iA,.int .i64 gU,.int .i64 gB]) ?_ 0 _ rfl;(with_reducible repeat (first|refine au ?_ _|refine ah ?_|refine ag ?_ _));refine aM ?_ cZ.out _;(with_reducible repeat (first|refine au ?_ _|refine ah ?_|refine ag ?_ _));refine aM ?_ cZ.out _;(with_reducible repeat (first|refine au ?_ _|refine ah ?_|refine ag ?_ _));refine aM ?_ cZ.out _;(with_reducible repeat (first|refine au ?_ _|refine ah ?_|refine ag ?_ _));refine aM ?_ cZ.out _;(with_reducible repeat (first|refine au ?_ _|refine ah ?_|refine ag ?_ _));exact je.out) hg (Kd.acW mr.out (fun _ hk=>hk.1)));have BP:=ae.mk (pI (g:=bg) (o:=.cells #[.int .i64 o6,.int .i64 qA,.int .i64 uu,.int .i64 xg] 31 (0,0)) (by (with_reducible repeat (first|refine au ?_ _|refine ah ?_|refine ag ?_ _));refine aM ?_ ik.out _;(with_reducible repeat (first|refine au ?_ _|refine ah ?_|refine ag ?_ _));refine aM ?_ ik.out _;(with_reducible repeat (first|refine au ?_ _|refine ah ?_|refine ag ?_ _));refine aM ?_ ik.out _;(with_reducible repeat (first|refine au ?_ _|refine ah ?_|refine ag ?_ _));refine aM ?_ ik.out _;(with_reducible repeat (first|refine au ?_ _|refine ah ?_|refine ag ?_ _));refine aI (cs:=#[.int .i64 o6,.int .i64 qA,.int .i64 uu,.int .i64 0]) ?_ 3 _ rfl;(with_reducible repeat (first|refine au ?_ _|refine ah ?_|refine ag ?_ _));refine aI (cs:=#[.int .i64 o6,.int .i64 qA,.int .i64 0,.int .i64 0]) ?_ 2 _ rfl;(with_reducible repeat (first|refine au ?_ _|refine ah ?_|refine ag ?_ _));refine aI (cs:=#[.int .i64 o6,.int .i64 0,.int .i64 0,.int .i64 0]) ?_ 1 _ rfl;(with_reducible repeat (first|refine au ?_ _|refine ah ?_|refine ag ?_ _));refine aI (cs:=#[.int .i64 0,.int .i64 0,.int .i64 0,.int .i64 0]) ?_ 0 _ rfl;(with_reducible repeat (first|refine au ?_ _|refine ah ?_|refine ag ?_ _));exact mD.out) hg (Kd.acW mr.out (fun _ hk=>hk.2)));have BQ:=ae.mk (hb);have GD:=ae.mk (ho);clear df;clear dQ;clear je;clear mD;clear HB;clear mr;have df:=BM;have dQ:=BN;have je:=BO;have mD:=BP;have HB:=BQ;have ara:=GD;clear BM BN BO BP BQ GD;clear ho hb hg hat))
       go_roundg k1
       case measure=>have:=Mi.out;omega
       case rel=>exact ⟨(aq6),(wrap64 (fZ+1)),(o6),(qA),(uu),(xg),nI,H',⟨RF⟩,⟨by (with_reducible repeat (first|apply Kd.kK|apply Kd.kv|apply Kd.jo));exact Kd.lv ara.out (fun _ hk=>hk.1)⟩,⟨iq⟩,⟨iq⟩,⟨iq⟩,⟨gM⟩⟩
      ·rw [if_neg c13] at H
       exact absurd H (by simp)
     ·rw [if_neg c12] at H
      have QV:(DJ == 0) = false:=beq_eq_false_iff_ne.mpr c12
      have aq4:(DJ != 0) = true:=bne_iff_ne.mpr c12
      simp only [Option.some.injEq,Prod.mk.injEq] at H
      obtain ⟨rfl,rfl,rfl⟩:=H
      try go_wp2
      replace mr:=ae.mk (Kd.jo mr.out)
      replace df:=ae.mk (ah df.out)
      replace dQ:=ae.mk (ah dQ.out)
      replace je:=ae.mk (ah je.out)
      replace HB:=ae.mk (bW HB.out)
      have Xw:0≤(fZ:Int):=of_decide_eq_true lX
      have Xx:fZ < (l4.length:Int):=of_decide_eq_true lX
      obtain ⟨sV,anp,sW,sZ⟩:=kT HR4.out fZ Xw Xx
      have kW:=sZ
      have kX:=sW
      cases anp
      replace sW:=(HB.out.cell (World.block_lt_of_cell? w _ sW)).trans sW
      replace sZ:=(HB.out.cell (World.block_lt_of_cell? w _ sZ)).trans sZ
      replace Xw:=eq_true Xw
      replace Xx:=eq_true Xx
      refine jI (n:=20) (S:=fun w'=>w'.cell? ⟨gL,0,none⟩ = some (.int .i64 aj)∧w'.cell? ⟨gL,1,none⟩ = some (.int .i64 ak)∧w'.cell? ⟨gL,2,none⟩ = some (.int .i64 ax)∧w'.cell? ⟨gL,3,none⟩ = some (.int .i64 ay)∧w'.cell? ⟨gL,4,none⟩ = some (.int .i64 aJ)∧w'.cell? ⟨gL,5,none⟩ = some (.int .i64 aC)∧w'.cell? ⟨gL,6,none⟩ = some (.int .i64 aG)∧w'.cell? ⟨gL,7,none⟩ = some (.slice dH aN.length dD)∧w'.cell? ⟨gL,8,none⟩ = some (.slice dG av.length dE)∧w'.cell? ⟨iK,0,none⟩ = some (.int .i64 aU)∧w'.cell? ⟨iK,1,none⟩ = some (.int .i64 aQ)∧w'.cell? ⟨iK,2,none⟩ = some (.int .i64 aZ)∧w'.cell? ⟨iK,3,none⟩ = some (.int .i64 bf)∧w'.cell? ⟨iK,4,none⟩ = some (.int .i64 bE)∧w'.cell? ⟨iK,5,none⟩ = some (.int .i64 bF)∧w'.cell? ⟨iK,6,none⟩ = some (.int .i64 bG)∧w'.cell? ⟨jd,0,none⟩ = some (.int .i64 iN)∧w'.cell? ⟨jd,1,none⟩ = some (.int .i64 iA)∧w'.cell? ⟨jd,2,none⟩ = some (.int .i64 gU)∧w'.cell? ⟨jd,3,none⟩ = some (.int .i64 gB)∧w'.cell? (sV.add ((fZ).toNat*2)) = some (.int .i64 ((dx l4 fZ).f0))∧w'.cell? ⟨(sV.add ((fZ).toNat*2)).block,(sV.add ((fZ).toNat*2)).off+1,none⟩ = some (.int .i64 ((dx l4 fZ).f1))) (ds:=[]) #[false,false,false,false,false,false,false,false,false,false,false,false,false,false,false,false,false,false,false,false] aR rfl rfl ⟨(aa df.out 0).trans rfl,(aa df.out 1).trans rfl,(aa df.out 2).trans rfl,(aa df.out 3).trans rfl,(aa df.out 4).trans rfl,(aa df.out 5).trans rfl,(aa df.out 6).trans rfl,(aa df.out 7).trans rfl,(aa df.out 8).trans rfl,(aa dQ.out 0).trans rfl,(aa dQ.out 1).trans rfl,(aa dQ.out 2).trans rfl,(aa dQ.out 3).trans rfl,(aa dQ.out 4).trans rfl,(aa dQ.out 5).trans rfl,(aa dQ.out 6).trans rfl,Gw je.out ⟨((HB.out.cell (World.block_lt_of_cell? w _ kX)).trans kX),((HB.out.cell (World.block_lt_of_cell? w _ kW)).trans kW)⟩⟩ (fun hHeld=>?_);refine iM bT.aq2 bT.alB (fun bN jX=>?_)
      generalize wr.drew = w30 at mr df dQ je HB sW sZ hHeld ⊢
      refine dJ (i:=3) (N:=some 27) (aD bN.out aR) ?_
      refine dJ (i:=4) (N:=some 28) (aD bN.out aR) ?_
      refine dJ (i:=5) (N:=some 29) (aD bN.out aR) ?_
      refine dJ (i:=9) (N:=some 33) (aD bN.out aR) ?_
      refine dJ (i:=10) (N:=some 34) (aD bN.out aR) ?_
      refine dJ (i:=11) (N:=some 35) (aD bN.out aR) ?_
      refine ja (i:=0) (N:=some 24) (bq bN.out jX.out aR) hHeld ?_
      refine ja (i:=1) (N:=some 25) (bq bN.out jX.out aR) hHeld ?_
      refine ja (i:=2) (N:=some 26) (bq bN.out jX.out aR) hHeld ?_
      refine ja (i:=6) (N:=some 30) (bq bN.out jX.out aR) hHeld ?_
      refine dJ (i:=7) (N:=some 31) (aD bN.out aR) ?_
      refine dJ (i:=8) (N:=some 32) (aD bN.out aR) ?_
      refine ja (i:=12) (N:=some 36) (bq bN.out jX.out aR) hHeld ?_
      refine Qx (σ:=Nat) 2 #[true,true,true,true,true,true,true,true,true,true,true,true,true,true,true,true,true,true,false,false] (fun s_=>[(37,.tuple #[.agg #[.int .i64 o6,.int .i64 qA,.int .i64 uu,.int .i64 xg],.int .i64 DJ]),(15,.pointer (some ⟨s_,0,none⟩)),(23,.tuple #[.agg #[.int .i64 o6,.int .i64 qA,.int .i64 uu,.int .i64 xg],.int .i64 DJ]),(38,.agg #[.int .i64 o6,.int .i64 qA,.int .i64 uu,.int .i64 xg]),(39,.int .i64 DJ)]) (fun s_ w'=>(w'.cell? ⟨gL,0,none⟩ = some (.int .i64 aj)∧w'.cell? ⟨gL,1,none⟩ = some (.int .i64 ak)∧w'.cell? ⟨gL,2,none⟩ = some (.int .i64 ax)∧w'.cell? ⟨gL,3,none⟩ = some (.int .i64 ay)∧w'.cell? ⟨gL,4,none⟩ = some (.int .i64 aJ)∧w'.cell? ⟨gL,5,none⟩ = some (.int .i64 aC)∧w'.cell? ⟨gL,6,none⟩ = some (.int .i64 aG)∧w'.cell? ⟨gL,7,none⟩ = some (.slice dH aN.length dD)∧w'.cell? ⟨gL,8,none⟩ = some (.slice dG av.length dE)∧w'.cell? ⟨iK,0,none⟩ = some (.int .i64 aU)∧w'.cell? ⟨iK,1,none⟩ = some (.int .i64 aQ)∧w'.cell? ⟨iK,2,none⟩ = some (.int .i64 aZ)∧w'.cell? ⟨iK,3,none⟩ = some (.int .i64 bf)∧w'.cell? ⟨iK,4,none⟩ = some (.int .i64 bE)∧w'.cell? ⟨iK,5,none⟩ = some (.int .i64 bF)∧w'.cell? ⟨iK,6,none⟩ = some (.int .i64 bG)∧w'.cell? ⟨jd,0,none⟩ = some (.int .i64 iN)∧w'.cell? ⟨jd,1,none⟩ = some (.int .i64 iA)∧w'.cell? ⟨jd,2,none⟩ = some (.int .i64 gU)∧w'.cell? ⟨jd,3,none⟩ = some (.int .i64 gB)∧w'.cell? (sV.add ((fZ).toNat*2)) = some (.int .i64 ((dx l4 fZ).f0))∧w'.cell? ⟨(sV.add ((fZ).toNat*2)).block,(sV.add ((fZ).toNat*2)).off+1,none⟩ = some (.int .i64 ((dx l4 fZ).f1)))∧(Kd.R PN 31 w' w.heap.size (fun k_=>k_≠jd∧k_≠s_) u13 fG)∧(w'.heap[gL]? = some (.cells #[.int .i64 aj,.int .i64 ak,.int .i64 ax,.int .i64 ay,.int .i64 aJ,.int .i64 aC,.int .i64 aG,.slice dH aN.length dD,.slice dG av.length dE] 25 (0,0)))∧(w'.heap[iK]? = some (.cells #[.int .i64 aU,.int .i64 aQ,.int .i64 aZ,.int .i64 bf,.int .i64 bE,.int .i64 bF,.int .i64 bG] 29 (0,0)))∧(w'.heap[jd]? = some (.cells #[.int .i64 iN,.int .i64 iA,.int .i64 gU,.int .i64 gB] 31 (0,0)))∧(w'.heap[s_]? = some (.cells #[.int .i64 0,.int .i64 0,.int .i64 0,.int .i64 0] 31 (0,0)))∧(w.heap.size≤s_)∧(w.heap.size≤s_)∧(gL≠s_)∧(s_≠gL)∧(iK≠s_)∧(s_≠iK)∧(jd≠s_)∧(s_≠jd)∧(Below w.heap.size w w')) ?_ ?_
      rotate_left
      ·intro hCont
       refine UL (i:=13) (j:=17) (Ni:=some 37) (Nj:=some 15) #[true,true,true,true,true,true,true,true,true,true,true,true,true,true,false,false,false,false,false,false] #[true,true,true,true,true,true,true,true,true,true,true,true,true,false,false,false,false,true,false,false] rfl rfl rfl rfl (KY bN.out aR) (by decide) (by decide) (fun K hK=>?_) (fun K hK=>?_)
       ·skip
        refine gV Try.func82 aR rfl #[.agg #[.int .i64 aj,.int .i64 ak,.int .i64 ax,.int .i64 ay,.int .i64 aJ,.int .i64 aC,.int .i64 aG,.slice dH aN.length dD,.slice dG av.length dE],.agg #[.int .i64 aU,.int .i64 aQ,.int .i64 aZ,.int .i64 bf,.int .i64 bE,.int .i64 bF,.int .i64 bG],.agg #[.int .i64 iN,.int .i64 iA,.int .i64 gU,.int .i64 gB],.int .i64 (wrap64 (a3+(wrap64 (fZ*aQ)))),.agg #[.int .i64 ((dx l4 fZ).f0),.int .i64 ((dx l4 fZ).f1)]] (by rfl) rfl rfl jJ ?_
        with_reducible refine (jm.calls k1 aj ak ax ay aJ aC aG _ _ aN _ _ av aU aQ aZ bf bE bF bG iN iA gU gB (wrap64 (a3+(wrap64 (fZ*aQ)))) ((dx l4 fZ).f0) ((dx l4 fZ).f1) o6 qA uu xg DJ _ ?dz ?dA ?dR ?dS A11.out).mono ?_
        (case dz=>repeat (first|exact (Kd.bn gq.out HB.out)|(with_reducible refine Kd.bA ?_ _)|(with_reducible refine Kd.bB ?_ _)|(with_reducible refine Kd.bK ?_)))
        (case dA=>exact gG.out)
        (case dR=>repeat (first|exact (Kd.bn fF.out HB.out)|(with_reducible refine Kd.bA ?_ _)|(with_reducible refine Kd.bB ?_ _)|(with_reducible refine Kd.bK ?_)))
        (case dS=>exact gH.out)
        rintro e w31 ⟨rfl,hb⟩
        refine ⟨_,rfl,?_⟩
        replace mr:=xB mr hb
        replace df:=bC df hb
        replace dQ:=bC dQ hb
        replace je:=bC je hb
        replace HB:=dF HB hb
        (try clear hb)
        (try clear hb2)
        (try clear hk)
        (try clear hi)
        refine hK.out _ _ ⟨(aa df.out 0).trans rfl,(aa df.out 1).trans rfl,(aa df.out 2).trans rfl,(aa df.out 3).trans rfl,(aa df.out 4).trans rfl,(aa df.out 5).trans rfl,(aa df.out 6).trans rfl,(aa df.out 7).trans rfl,(aa df.out 8).trans rfl,(aa dQ.out 0).trans rfl,(aa dQ.out 1).trans rfl,(aa dQ.out 2).trans rfl,(aa dQ.out 3).trans rfl,(aa dQ.out 4).trans rfl,(aa dQ.out 5).trans rfl,(aa dQ.out 6).trans rfl,Gw je.out ⟨((HB.out.cell (World.block_lt_of_cell? w _ kX)).trans kX),((HB.out.cell (World.block_lt_of_cell? w _ kW)).trans kW)⟩⟩ (fun hHeld=>?_)
        clear hK K
        refine ek ajb ?_
        refine dJ (i:=14) (N:=some 23) (aD bN.out aR) ?_
        refine dJ (i:=15) (N:=some 38) (aD bN.out aR) ?_
        refine dJ (i:=16) (N:=some 39) (aD bN.out aR) ?_
        refine jq (i:=17) (N:=some 15) #[true,true,true,true,true,true,true,true,true,true,true,true,true,true,true,true,true,true,false,false] rfl rfl (fE bN.out aR) (by decide) (fun K hK=>?_)
        refine o8 ?hg (N:=15) ?hd (cs:=#[.int .i64 0,.int .i64 0,.int .i64 0,.int .i64 0]) (t:=31) ?hr ?_;(case hd=>rfl);(case hg=>rfl);(case hr=>first|(go_simp;done)|(go_simp;rfl))
        intro bg hg w32 hbox hb
        have mD:=ae.mk (hbox)
        have vN:=dn HB hg
        have JX:=dn HB hg
        have bz:=iE df hg
        have jR:=iF df hg
        have bH:=iE dQ hg
        have jS:=iF dQ hg
        have cZ:=iE je hg
        have ik:=iF je hg
        replace mr:=ae.mk (Kd.pJ (Kd.Ig Vy bg (Nat.le_of_eq hg.symm)) hb)
        replace df:=bC df hb
        replace dQ:=bC dQ hb
        replace je:=bC je hb
        replace HB:=dF HB hb
        clear hb hbox hg
        refine hK.out _ _ ⟨(aa df.out 0).trans rfl,(aa df.out 1).trans rfl,(aa df.out 2).trans rfl,(aa df.out 3).trans rfl,(aa df.out 4).trans rfl,(aa df.out 5).trans rfl,(aa df.out 6).trans rfl,(aa df.out 7).trans rfl,(aa df.out 8).trans rfl,(aa dQ.out 0).trans rfl,(aa dQ.out 1).trans rfl,(aa dQ.out 2).trans rfl,(aa dQ.out 3).trans rfl,(aa dQ.out 4).trans rfl,(aa dQ.out 5).trans rfl,(aa dQ.out 6).trans rfl,Gw je.out ⟨((HB.out.cell (World.block_lt_of_cell? w _ kX)).trans kX),((HB.out.cell (World.block_lt_of_cell? w _ kW)).trans kW)⟩⟩ (fun hHeld=>?_)
        clear hK K
        refine ek ajc ?_
        exact ek P7 (hCont (bg) _ ⟨hHeld,Vy,iq,iq,iq,iq,vN.out,JX.out,bz.out,jR.out,bH.out,jS.out,cZ.out,ik.out,gM⟩)
       ·skip
        refine o8 ?hg (N:=15) ?hd (cs:=#[.int .i64 0,.int .i64 0,.int .i64 0,.int .i64 0]) (t:=31) ?hr ?_;(case hd=>rfl);(case hg=>rfl);(case hr=>first|(go_simp;done)|(go_simp;rfl))
        intro bg hg w31 hbox hb
        have mD:=ae.mk (hbox)
        have vN:=dn HB hg
        have JX:=dn HB hg
        have bz:=iE df hg
        have jR:=iF df hg
        have bH:=iE dQ hg
        have jS:=iF dQ hg
        have cZ:=iE je hg
        have ik:=iF je hg
        replace mr:=ae.mk (Kd.pJ (Kd.Ig Vy bg (Nat.le_of_eq hg.symm)) hb)
        replace df:=bC df hb
        replace dQ:=bC dQ hb
        replace je:=bC je hb
        replace HB:=dF HB hb
        clear hb hbox hg
        refine hK.out _ _ ⟨(aa df.out 0).trans rfl,(aa df.out 1).trans rfl,(aa df.out 2).trans rfl,(aa df.out 3).trans rfl,(aa df.out 4).trans rfl,(aa df.out 5).trans rfl,(aa df.out 6).trans rfl,(aa df.out 7).trans rfl,(aa df.out 8).trans rfl,(aa dQ.out 0).trans rfl,(aa dQ.out 1).trans rfl,(aa dQ.out 2).trans rfl,(aa dQ.out 3).trans rfl,(aa dQ.out 4).trans rfl,(aa dQ.out 5).trans rfl,(aa dQ.out 6).trans rfl,Gw je.out ⟨((HB.out.cell (World.block_lt_of_cell? w _ kX)).trans kX),((HB.out.cell (World.block_lt_of_cell? w _ kW)).trans kW)⟩⟩ (fun hHeld=>?_)
        clear hK K
        refine ek ajc ?_
        refine jq (i:=13) (N:=some 37) #[true,true,true,true,true,true,true,true,true,true,true,true,true,true,false,false,false,true,false,false] rfl rfl (fE bN.out aR) (by decide) (fun K hK=>?_)
        refine gV Try.func82 aR rfl #[.agg #[.int .i64 aj,.int .i64 ak,.int .i64 ax,.int .i64 ay,.int .i64 aJ,.int .i64 aC,.int .i64 aG,.slice dH aN.length dD,.slice dG av.length dE],.agg #[.int .i64 aU,.int .i64 aQ,.int .i64 aZ,.int .i64 bf,.int .i64 bE,.int .i64 bF,.int .i64 bG],.agg #[.int .i64 iN,.int .i64 iA,.int .i64 gU,.int .i64 gB],.int .i64 (wrap64 (a3+(wrap64 (fZ*aQ)))),.agg #[.int .i64 ((dx l4 fZ).f0),.int .i64 ((dx l4 fZ).f1)]] (by rfl) rfl rfl jJ ?_
        with_reducible refine (jm.calls k1 aj ak ax ay aJ aC aG _ _ aN _ _ av aU aQ aZ bf bE bF bG iN iA gU gB (wrap64 (a3+(wrap64 (fZ*aQ)))) ((dx l4 fZ).f0) ((dx l4 fZ).f1) o6 qA uu xg DJ _ ?dz ?dA ?dR ?dS A11.out).mono ?_
        (case dz=>repeat (first|exact (Kd.bn gq.out HB.out)|(with_reducible refine Kd.bA ?_ _)|(with_reducible refine Kd.bB ?_ _)|(with_reducible refine Kd.bK ?_)))
        (case dA=>exact gG.out)
        (case dR=>repeat (first|exact (Kd.bn fF.out HB.out)|(with_reducible refine Kd.bA ?_ _)|(with_reducible refine Kd.bB ?_ _)|(with_reducible refine Kd.bK ?_)))
        (case dS=>exact gH.out)
        rintro e w32 ⟨rfl,hb⟩
        refine ⟨_,rfl,?_⟩
        replace mr:=xB mr hb
        replace df:=bC df hb
        replace dQ:=bC dQ hb
        replace je:=bC je hb
        replace mD:=bC mD hb
        replace HB:=dF HB hb
        (try clear hb)
        (try clear hb2)
        (try clear hk)
        (try clear hi)
        refine hK.out _ _ ⟨(aa df.out 0).trans rfl,(aa df.out 1).trans rfl,(aa df.out 2).trans rfl,(aa df.out 3).trans rfl,(aa df.out 4).trans rfl,(aa df.out 5).trans rfl,(aa df.out 6).trans rfl,(aa df.out 7).trans rfl,(aa df.out 8).trans rfl,(aa dQ.out 0).trans rfl,(aa dQ.out 1).trans rfl,(aa dQ.out 2).trans rfl,(aa dQ.out 3).trans rfl,(aa dQ.out 4).trans rfl,(aa dQ.out 5).trans rfl,(aa dQ.out 6).trans rfl,Gw je.out ⟨((HB.out.cell (World.block_lt_of_cell? w _ kX)).trans kX),((HB.out.cell (World.block_lt_of_cell? w _ kW)).trans kW)⟩⟩ (fun hHeld=>?_)
        clear hK K
        refine ek ajb ?_
        refine dJ (i:=14) (N:=some 23) (aD bN.out aR) ?_
        refine dJ (i:=15) (N:=some 38) (aD bN.out aR) ?_
        refine dJ (i:=16) (N:=some 39) (aD bN.out aR) ?_
        exact ek P7 (hCont (bg) _ ⟨hHeld,Vy,iq,iq,iq,iq,vN.out,JX.out,bz.out,jR.out,bH.out,jS.out,cZ.out,ik.out,gM⟩)
      rintro bg Df ⟨hS_,h0_,h1_,h2_,h3_,h4_,h5_,h6_,h7_,h8_,h9_,O5,O6,Vm,Vn⟩
      have BM:ae (Kd.R PN 31 Df w.heap.size (fun k_=>k_≠jd∧k_≠bg) u13 fG):=⟨h0_⟩
      have BN:ae (Df.heap[gL]? = some (.cells #[.int .i64 aj,.int .i64 ak,.int .i64 ax,.int .i64 ay,.int .i64 aJ,.int .i64 aC,.int .i64 aG,.slice dH aN.length dD,.slice dG av.length dE] 25 (0,0))):=⟨h1_⟩
      have BO:ae (Df.heap[iK]? = some (.cells #[.int .i64 aU,.int .i64 aQ,.int .i64 aZ,.int .i64 bf,.int .i64 bE,.int .i64 bF,.int .i64 bG] 29 (0,0))):=⟨h2_⟩
      have BP:ae (Df.heap[jd]? = some (.cells #[.int .i64 iN,.int .i64 iA,.int .i64 gU,.int .i64 gB] 31 (0,0))):=⟨h3_⟩
      have BQ:ae (Df.heap[bg]? = some (.cells #[.int .i64 0,.int .i64 0,.int .i64 0,.int .i64 0] 31 (0,0))):=⟨h4_⟩
      have GD:ae (w.heap.size≤bg):=⟨h5_⟩
      have RH:ae (w.heap.size≤bg):=⟨h6_⟩
      have n7_:ae (gL≠bg):=⟨h7_⟩
      have n8_:ae (bg≠gL):=⟨h8_⟩
      have n9_:ae (iK≠bg):=⟨h9_⟩
      have O7:ae (bg≠iK):=⟨O5⟩
      have O8:ae (jd≠bg):=⟨O6⟩
      have Vo:ae (bg≠jd):=⟨Vm⟩
      have Vp:ae (Below w.heap.size w Df):=⟨Vn⟩
      clear mr df dQ je HB
      clear h0_ h1_ h2_ h3_ h4_ h5_ h6_ h7_ h8_ h9_ O5 O6 Vm Vn
      have mr:=BM
      have df:=BN
      have dQ:=BO
      have je:=BP
      have mD:=BQ
      have vN:=GD
      have JX:=RH
      have bz:=n7_
      have jR:=n8_
      have bH:=n9_
      have jS:=O7
      have cZ:=O8
      have ik:=Vo
      have HB:=Vp
      clear BM BN BO BP BQ GD RH n7_ n8_ n9_ O7 O8 Vo Vp
      have hHeld:Df.cell? ⟨gL,0,none⟩ = some (.int .i64 aj)∧Df.cell? ⟨gL,1,none⟩ = some (.int .i64 ak)∧Df.cell? ⟨gL,2,none⟩ = some (.int .i64 ax)∧Df.cell? ⟨gL,3,none⟩ = some (.int .i64 ay)∧Df.cell? ⟨gL,4,none⟩ = some (.int .i64 aJ)∧Df.cell? ⟨gL,5,none⟩ = some (.int .i64 aC)∧Df.cell? ⟨gL,6,none⟩ = some (.int .i64 aG)∧Df.cell? ⟨gL,7,none⟩ = some (.slice dH aN.length dD)∧Df.cell? ⟨gL,8,none⟩ = some (.slice dG av.length dE)∧Df.cell? ⟨iK,0,none⟩ = some (.int .i64 aU)∧Df.cell? ⟨iK,1,none⟩ = some (.int .i64 aQ)∧Df.cell? ⟨iK,2,none⟩ = some (.int .i64 aZ)∧Df.cell? ⟨iK,3,none⟩ = some (.int .i64 bf)∧Df.cell? ⟨iK,4,none⟩ = some (.int .i64 bE)∧Df.cell? ⟨iK,5,none⟩ = some (.int .i64 bF)∧Df.cell? ⟨iK,6,none⟩ = some (.int .i64 bG)∧Df.cell? ⟨jd,0,none⟩ = some (.int .i64 iN)∧Df.cell? ⟨jd,1,none⟩ = some (.int .i64 iA)∧Df.cell? ⟨jd,2,none⟩ = some (.int .i64 gU)∧Df.cell? ⟨jd,3,none⟩ = some (.int .i64 gB)∧Df.cell? (sV.add ((fZ).toNat*2)) = some (.int .i64 ((dx l4 fZ).f0))∧Df.cell? ⟨(sV.add ((fZ).toNat*2)).block,(sV.add ((fZ).toNat*2)).off+1,none⟩ = some (.int .i64 ((dx l4 fZ).f1)):=hS_
      refine ek (a':=?_) ?_ ?_
      rotate_left
      ·simp only [vQ,Act.put,List.setIfInBounds_toArray,List.set_cons_zero,List.set_cons_succ]
       rfl
      refine jq (i:=18) (N:=none) #[true,true,true,true,true,true,true,true,true,true,true,true,true,true,true,true,true,true,true,false] rfl rfl (fE bN.out aR) (by decide) (fun K hK=>?_)
      have aJh:Df.cell? ⟨bg,0,none⟩ = some (.int .i64 0):=(aa mD.out 0).trans rfl
      have aGU:=aX mD.out 0
      have ay6:=bz.out
      have ay7:=bH.out
      have ay8:=cZ.out
      have ay9:=jR.out
      have aza:=jS.out
      have azb:=ik.out
      have aDf:Df.cell? ⟨bg,1,none⟩ = some (.int .i64 0):=(aa mD.out 1).trans rfl
      have aqK:=aX mD.out 1
      have ahL:=bz.out
      have ahM:=bH.out
      have ahN:=cZ.out
      have ahO:=jR.out
      have ahP:=jS.out
      have ahQ:=ik.out
      have aDg:Df.cell? ⟨bg,2,none⟩ = some (.int .i64 0):=(aa mD.out 2).trans rfl
      have aqL:=aX mD.out 2
      have ahR:=bz.out
      have ahS:=bH.out
      have ahT:=cZ.out
      have ahU:=jR.out
      have ahV:=jS.out
      have ahW:=ik.out
      have aDh:Df.cell? ⟨bg,3,none⟩ = some (.int .i64 0):=(aa mD.out 3).trans rfl
      have aqM:=aX mD.out 3
      have ahX:=bz.out
      have ahY:=bH.out
      have ahZ:=cZ.out
      have ah0:=jR.out
      have ah1:=jS.out
      have ah2:=ik.out
      refine yc (w1:=?_) (by rfl) rfl ?_ ?_
      rotate_left
      ·go_simp
       rfl
      refine hK.out _ _ ⟨((cell_far (p:=⟨bg,_,none⟩) bz.out _).trans (((cell_far (p:=⟨bg,_,none⟩) bz.out _).trans (((cell_far (p:=⟨bg,_,none⟩) bz.out _).trans (((cell_far (p:=⟨bg,_,none⟩) bz.out _).trans (hHeld.1)))))))),((cell_far (p:=⟨bg,_,none⟩) bz.out _).trans (((cell_far (p:=⟨bg,_,none⟩) bz.out _).trans (((cell_far (p:=⟨bg,_,none⟩) bz.out _).trans (((cell_far (p:=⟨bg,_,none⟩) bz.out _).trans (hHeld.2.1)))))))),((cell_far (p:=⟨bg,_,none⟩) bz.out _).trans (((cell_far (p:=⟨bg,_,none⟩) bz.out _).trans (((cell_far (p:=⟨bg,_,none⟩) bz.out _).trans (((cell_far (p:=⟨bg,_,none⟩) bz.out _).trans (hHeld.2.2.1)))))))),((cell_far (p:=⟨bg,_,none⟩) bz.out _).trans (((cell_far (p:=⟨bg,_,none⟩) bz.out _).trans (((cell_far (p:=⟨bg,_,none⟩) bz.out _).trans (((cell_far (p:=⟨bg,_,none⟩) bz.out _).trans (hHeld.2.2.2.1)))))))),((cell_far (p:=⟨bg,_,none⟩) bz.out _).trans (((cell_far (p:=⟨bg,_,none⟩) bz.out _).trans (((cell_far (p:=⟨bg,_,none⟩) bz.out _).trans (((cell_far (p:=⟨bg,_,none⟩) bz.out _).trans (hHeld.2.2.2.2.1)))))))),((cell_far (p:=⟨bg,_,none⟩) bz.out _).trans (((cell_far (p:=⟨bg,_,none⟩) bz.out _).trans (((cell_far (p:=⟨bg,_,none⟩) bz.out _).trans (((cell_far (p:=⟨bg,_,none⟩) bz.out _).trans (hHeld.2.2.2.2.2.1)))))))),((cell_far (p:=⟨bg,_,none⟩) bz.out _).trans (((cell_far (p:=⟨bg,_,none⟩) bz.out _).trans (((cell_far (p:=⟨bg,_,none⟩) bz.out _).trans (((cell_far (p:=⟨bg,_,none⟩) bz.out _).trans (hHeld.2.2.2.2.2.2.1)))))))),((cell_far (p:=⟨bg,_,none⟩) bz.out _).trans (((cell_far (p:=⟨bg,_,none⟩) bz.out _).trans (((cell_far (p:=⟨bg,_,none⟩) bz.out _).trans (((cell_far (p:=⟨bg,_,none⟩) bz.out _).trans (hHeld.2.2.2.2.2.2.2.1)))))))),((cell_far (p:=⟨bg,_,none⟩) bz.out _).trans (((cell_far (p:=⟨bg,_,none⟩) bz.out _).trans (((cell_far (p:=⟨bg,_,none⟩) bz.out _).trans (((cell_far (p:=⟨bg,_,none⟩) bz.out _).trans (hHeld.2.2.2.2.2.2.2.2.1)))))))),((cell_far (p:=⟨bg,_,none⟩) bH.out _).trans (((cell_far (p:=⟨bg,_,none⟩) bH.out _).trans (((cell_far (p:=⟨bg,_,none⟩) bH.out _).trans (((cell_far (p:=⟨bg,_,none⟩) bH.out _).trans (hHeld.2.2.2.2.2.2.2.2.2.1)))))))),((cell_far (p:=⟨bg,_,none⟩) bH.out _).trans (((cell_far (p:=⟨bg,_,none⟩) bH.out _).trans (((cell_far (p:=⟨bg,_,none⟩) bH.out _).trans (((cell_far (p:=⟨bg,_,none⟩) bH.out _).trans (hHeld.2.2.2.2.2.2.2.2.2.2.1)))))))),((cell_far (p:=⟨bg,_,none⟩) bH.out _).trans (((cell_far (p:=⟨bg,_,none⟩) bH.out _).trans (((cell_far (p:=⟨bg,_,none⟩) bH.out _).trans (((cell_far (p:=⟨bg,_,none⟩) bH.out _).trans (hHeld.2.2.2.2.2.2.2.2.2.2.2.1)))))))),((cell_far (p:=⟨bg,_,none⟩) bH.out _).trans (((cell_far (p:=⟨bg,_,none⟩) bH.out _).trans (((cell_far (p:=⟨bg,_,none⟩) bH.out _).trans (((cell_far (p:=⟨bg,_,none⟩) bH.out _).trans (hHeld.2.2.2.2.2.2.2.2.2.2.2.2.1)))))))),((cell_far (p:=⟨bg,_,none⟩) bH.out _).trans (((cell_far (p:=⟨bg,_,none⟩) bH.out _).trans (((cell_far (p:=⟨bg,_,none⟩) bH.out _).trans (((cell_far (p:=⟨bg,_,none⟩) bH.out _).trans (hHeld.2.2.2.2.2.2.2.2.2.2.2.2.2.1)))))))),((cell_far (p:=⟨bg,_,none⟩) bH.out _).trans (((cell_far (p:=⟨bg,_,none⟩) bH.out _).trans (((cell_far (p:=⟨bg,_,none⟩) bH.out _).trans (((cell_far (p:=⟨bg,_,none⟩) bH.out _).trans (hHeld.2.2.2.2.2.2.2.2.2.2.2.2.2.2.1)))))))),((cell_far (p:=⟨bg,_,none⟩) bH.out _).trans (((cell_far (p:=⟨bg,_,none⟩) bH.out _).trans (((cell_far (p:=⟨bg,_,none⟩) bH.out _).trans (((cell_far (p:=⟨bg,_,none⟩) bH.out _).trans (hHeld.2.2.2.2.2.2.2.2.2.2.2.2.2.2.2.1)))))))),((cell_far (p:=⟨bg,_,none⟩) cZ.out _).trans (((cell_far (p:=⟨bg,_,none⟩) cZ.out _).trans (((cell_far (p:=⟨bg,_,none⟩) cZ.out _).trans (((cell_far (p:=⟨bg,_,none⟩) cZ.out _).trans (hHeld.2.2.2.2.2.2.2.2.2.2.2.2.2.2.2.2.1)))))))),((cell_far (p:=⟨bg,_,none⟩) cZ.out _).trans (((cell_far (p:=⟨bg,_,none⟩) cZ.out _).trans (((cell_far (p:=⟨bg,_,none⟩) cZ.out _).trans (((cell_far (p:=⟨bg,_,none⟩) cZ.out _).trans (hHeld.2.2.2.2.2.2.2.2.2.2.2.2.2.2.2.2.2.1)))))))),((cell_far (p:=⟨bg,_,none⟩) cZ.out _).trans (((cell_far (p:=⟨bg,_,none⟩) cZ.out _).trans (((cell_far (p:=⟨bg,_,none⟩) cZ.out _).trans (((cell_far (p:=⟨bg,_,none⟩) cZ.out _).trans (hHeld.2.2.2.2.2.2.2.2.2.2.2.2.2.2.2.2.2.2.1)))))))),((cell_far (p:=⟨bg,_,none⟩) cZ.out _).trans (((cell_far (p:=⟨bg,_,none⟩) cZ.out _).trans (((cell_far (p:=⟨bg,_,none⟩) cZ.out _).trans (((cell_far (p:=⟨bg,_,none⟩) cZ.out _).trans (hHeld.2.2.2.2.2.2.2.2.2.2.2.2.2.2.2.2.2.2.2.1)))))))),((cell_far (p:=⟨bg,_,none⟩) Vz _).trans (((cell_far (p:=⟨bg,_,none⟩) Vz _).trans (((cell_far (p:=⟨bg,_,none⟩) Vz _).trans (((cell_far (p:=⟨bg,_,none⟩) Vz _).trans (hHeld.2.2.2.2.2.2.2.2.2.2.2.2.2.2.2.2.2.2.2.2.1)))))))),((cell_far (p:=⟨bg,_,none⟩) VA _).trans (((cell_far (p:=⟨bg,_,none⟩) VA _).trans (((cell_far (p:=⟨bg,_,none⟩) VA _).trans (((cell_far (p:=⟨bg,_,none⟩) VA _).trans (hHeld.2.2.2.2.2.2.2.2.2.2.2.2.2.2.2.2.2.2.2.2.2))))))))⟩ (fun hHeld=>?_)
      clear hK K
      refine dJ (i:=19) (N:=some 16) (aD bN.out aR) ?_
      refine lC (kF bN.out aR) ?_
      try go_wp2
      go_ret3
      exact ⟨_,lJ,acr,gM⟩
    ·rw [if_neg c10] at H
     exact absurd H (by simp)
   ·rw [if_neg c9] at H
    have U4:decide (fZ < (l4.length:Int)) = false:=decide_eq_false c9
    clear c9
    simp only [Option.some.injEq,Prod.mk.injEq] at H
    obtain ⟨rfl,rfl,rfl⟩:=H
    go_wp2
    go_ret3
    exact ⟨_,lJ,by (with_reducible repeat (first|apply Kd.kK|apply Kd.kv|apply Kd.jo));exact Kd.lv mr.out (fun _ hk=>trivial),gM⟩
end Go.Proofs.Ytmhaiihjfgfaoaa.Pr
end
