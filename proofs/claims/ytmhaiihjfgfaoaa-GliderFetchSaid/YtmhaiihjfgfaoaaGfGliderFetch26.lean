import Derived.Test.YtmhaiihjfgfaoaaGfGliderFetch3
import Derived.Test.YtmhaiihjfgfaoaaGfGliderFetch25
set_option linter.unusedVariables false
set_option linter.unusedSimpArgs false
open Go.Value renaming int → U
open Go.IntKind renaming i64 → Z
open Bool renaming true → ab, false → ac
section
namespace Go.Proofs.Ytmhaiihjfgfaoaa.Pr
open Go.RowKit Go.Proofs.YtmhaiihjfgfaoaaW.PrintWords Go.Proofs.YtmhaiihjfgfaoaaW.PrintLast Go.Proofs.YtmhaiihjfgfaoaaW.PrintMore
attribute [local go_sem] gp gq iA iB gu
set_option linter.unusedVariables false
set_option linter.unusedSimpArgs false
def dE.l0:Nat→Int→List (xN)→List (jf)→Int→Int→Int→Int→Int→Int→Int→Int→List Bool→List (rq)→Int→Int→Int→Int→Int→Int→Int→Int→Int→Int→Int→Option ((List (jf)) × Int × Int)
 |0,_,_,_,_,_,_,_,_,_,_,_,_,_,_,_,_,_,_,_,_,_,_,_,_=>none
 |k+1,x3,x4,Lg,Lh,ahw,ahx,ahy,ahz,ahA,ahB,ahC,ahD,ahE,ahF,YQ,ahG,ahH,ahI,ahJ,ahK,ato,atp,atq,atr=>if Lh < (x4.length:Int) then (if 0≤Lh then ((kV.f k ahw ahx ahy ahz ahA ahB ahC ahD ahE ahF YQ ahG ahH ahI ahJ ahK ato atp atq atr (wrap64 (x3+(wrap64 (Lh*YQ)))) ((bJ x4 Lh).f0) ((bJ x4 Lh).f1)).bind fun LH=>(if LH.2.2.2.2 = 0 then (if Lg.length < 4398046511104 then (dE.l0 k x3 x4 (Lg++[(⟨(⟨LH.1,LH.2.1⟩:ky),(⟨LH.2.2.1,LH.2.2.2.1⟩:ky)⟩:jf)]) (wrap64 (Lh+1)) ahw ahx ahy ahz ahA ahB ahC ahD ahE ahF YQ ahG ahH ahI ahJ ahK LH.1 LH.2.1 LH.2.2.1 LH.2.2.2.1) else (none)) else (some (([]:List (jf)),Lh,LH.2.2.2.2)))) else (none)) else (some (Lg,(x4.length:Int),0))
def dE.f (k:Nat) (ai:Int) (aj:Int) (aC:Int) (aD:Int) (aJ:Int) (aH:Int) (aK:Int) (aT:List Bool) (ak:List (rq)) (aI:Int) (aG:Int) (bn:Int) (bq:Int) (bH:Int) (bI:Int) (bG:Int) (bZ:Int) (cz:Int) (dw:Int) (dx:Int) (a3:Int) (l4:List (xN)):Option ((List (jf)) × Int × Int):=dE.l0 k a3 l4 ([]:List (jf)) 0 ai aj aC aD aJ aH aK aT ak aI aG bn bq bH bI bG bZ cz dw dx
def dE.T5:Bool × List (List Nat × List Nat):=(true,[([],[]),([],[]),([],[]),([],[]),([],[]),([],[]),([5],[5]),([4,6],[4,6]),([3,7],[3,7]),([],[]),([],[]),([9,10],[9,10]),([11],[11]),([0,1,2,8,12],[0,1,2,8,12]),([13],[13]),([14],[14]),([14],[14]),([],[]),([17,15,13,0,1,2,3,4,5,6,7,8,9,10,11,12,13,14,15,17],[15,17]),([16,18,0,1,2,3,4,5,6,7,8,9,10,11,12,13,14,15,16,17,18],[16])])
def dE.B5:List Nat:=[0,0,0,0,0,0,32,112,248,0,0,1536,3584,8191,16383,32767,32767,0,196607,524287]
theorem dE.ant:qA .any (opsOf Try.f84 5) = dE.T5:=by kernel_rfl
theorem dE.ab4:mI dE.T5.2 dE.B5 = true:=by kernel_rfl
set_option maxHeartbeats 8000000 in
set_option maxRecDepth 100000 in
theorem dE.calls (k:Nat) (ai:Int) (aj:Int) (aC:Int) (aD:Int) (aJ:Int) (aH:Int) (aK:Int) (dW:Option Addr) (dN:Nat) (aT:List Bool) (dZ:Option Addr) (dO:Nat) (ak:List (rq)) (aI:Int) (aG:Int) (bn:Int) (bq:Int) (bH:Int) (bI:Int) (bG:Int) (bZ:Int) (cz:Int) (dw:Int) (dx:Int) (a3:Int) (A4:Option Addr) (c4:Nat) (l4:List (xN)) (r1:List (jf)) (r2:Int) (r3:Int) (w:World) (jT:Kd.C Kd.bool w dW aT.length aT) (jU:aT.length≤dN) (jV:Kd.C GI w dZ ak.length ak) (jW:ak.length≤dO) (hr4:Kd.C k33 w A4 l4.length l4) (hc4:l4.length≤c4) (h:dE.f k ai aj aC aD aJ aH aK aT ak aI aG bn bq bH bI bG bZ cz dw dx a3 l4 = some (r1,r2,r3)):
 Calls Try.prog 84 #[.agg #[U Z ai,U Z aj,U Z aC,U Z aD,U Z aJ,U Z aH,U Z aK,.slice dW aT.length dN,.slice dZ ak.length dO],.agg #[U Z aI,U Z aG,U Z bn,U Z bq,U Z bH,U Z bI,U Z bG],.agg #[U Z bZ,U Z cz,U Z dw,U Z dx],U Z a3,.slice A4 l4.length c4] w fun e w'=>∃ v0_:Value,e = .returned (.tuple #[v0_,U Z r2,U Z r3])∧Kd.R k31 31 w' w.heap.size (fun _=>True) v0_ r1∧Below w.heap.size w w':=by
 have BV:=Try.underlying25
 have Br:=Try.underlying29
 have rO:=Try.underlying31
 have MV:=Try.underlying33
 have ik:=aa.mk jT
 have iC:=aa.mk jU
 clear jT jU
 have gN:=aa.mk jV
 have iD:=aa.mk jW
 clear jV jW
 have HR4:=aa.mk hr4
 have HC4:=aa.mk hc4
 clear hr4 hc4
 have HB:=aa.mk (Below.refl w.heap.size w)
 have H:(dE.l0 k a3 l4 ([]:List (jf)) 0 ai aj aC aD aJ aH aK aT ak aI aG bn bq bH bI bG bZ cz dw dx) = some (r1,r2,r3):=h
 clear h
 have H':=aa.mk H
 clear H
 go_enter Try.func84,Try.ntmps84
 go_wp2_with (first|((with_reducible refine aA (N:=5) rfl ?_);refine au (by rfl) (N:=5) (by rfl) (cs:=#[U Z ai,U Z aj,U Z aC,U Z aD,U Z aJ,U Z aH,U Z aK,.slice dW aT.length dN,.slice dZ ak.length dO]) (t:=25) fG ?_;intro iY hg w6 hbox hb;have dR:=aa.mk (hbox);have a3k:=bS HB hg;have a3l:=bS HB hg;replace HB:=cO HB hb;clear hb hbox hg)|((with_reducible refine aA (N:=6) rfl ?_);refine au (by rfl) (N:=6) (by rfl) (cs:=#[U Z aI,U Z aG,U Z bn,U Z bq,U Z bH,U Z bI,U Z bG]) (t:=29) fG ?_;intro jN hg w7 hbox hb;have eU:=aa.mk (hbox);have a3m:=bS HB hg;have a3n:=bS HB hg;have aAW:=eQ dR hg;have aAX:=eT dR hg;replace dR:=aX dR hb;replace HB:=cO HB hb;clear hb hbox hg)|((with_reducible refine aA (N:=7) rfl ?_);refine au (by rfl) (N:=7) (by rfl) (cs:=#[U Z bZ,U Z cz,U Z dw,U Z dx]) (t:=31) fG ?_;intro kH hg w8 hbox hb;have kI:=aa.mk (hbox);have a3o:=bS HB hg;have a3p:=bS HB hg;have akQ:=eQ dR hg;have akR:=eT dR hg;have akS:=eQ eU hg;have akT:=eT eU hg;replace dR:=aX dR hb;replace eU:=aX eU hb;replace HB:=cO HB hb;clear hb hbox hg))
 go_loopg [13,14] k (fun kq v13 v14 w'=>∃ (iw:List (jf)) (eD:Int) (jP:Int) (jH:Int) (jk:Int) (iR:Int),v14 = U Z eD∧aa (dE.l0 kq a3 l4 iw eD ai aj aC aD aJ aH aK aT ak aI aG bn bq bH bI bG jP jH jk iR = some (r1,r2,r3))∧aa (kq≤k)∧aa (Kd.R k31 31 w' w.heap.size (fun k_=>k_≠kH) v13 iw)∧aa (w'.heap[iY]? = some (.cells #[U Z ai,U Z aj,U Z aC,U Z aD,U Z aJ,U Z aH,U Z aK,(.slice dW aT.length dN),(.slice dZ ak.length dO)] 25 (0,0)))∧aa (w'.heap[jN]? = some (.cells #[U Z aI,U Z aG,U Z bn,U Z bq,U Z bH,U Z bI,U Z bG] 29 (0,0)))∧aa (w'.heap[kH]? = some (.cells #[U Z jP,U Z jH,U Z jk,U Z iR] 31 (0,0)))∧aa (Below w.heap.size w w'))
 case atStart=>exact ⟨(([]:List (jf))),(0),(bZ),(cz),(dw),(dx),nM,H',⟨Nat.le_refl _⟩,⟨anu⟩,⟨gB⟩,⟨gB⟩,⟨gB⟩,⟨gL⟩⟩
 case round =>
  clear H'
  try clear p2
  try clear c4
  try clear c8
  obtain ⟨iw,eD,jP,jH,jk,iR,rfl,HA,JP,pF,dR,eU,kI,HB⟩:=hrel
  cases gk with
  |zero=>exact absurd HA.out (by simp [dE.l0])
  |succ k1 =>
   have H:=HA.out
   clear HA
   simp only [dE.l0] at H
   by_cases c9:eD < (l4.length:Int)
   ·rw [if_pos c9] at H
    have Mm:decide (eD < (l4.length:Int)) = true:=decide_eq_true c9
    clear c9
    by_cases c10:0≤eD
    ·rw [if_pos c10] at H
     have Ea:decide (0≤eD) = true:=decide_eq_true c10
     clear c10
     replace H:=Option.bind_eq_some_iff.mp H
     obtain ⟨⟨tH,vM,ze,CW,Jt⟩,anv,H⟩:=H
     replace H:(if Jt = 0 then (if iw.length < 4398046511104 then (dE.l0 k1 a3 l4 (iw++[(⟨(⟨tH,vM⟩:ky),(⟨ze,CW⟩:ky)⟩:jf)]) (wrap64 (eD+1)) ai aj aC aD aJ aH aK aT ak aI aG bn bq bH bI bG tH vM ze CW) else (none)) else (some (([]:List (jf)),eD,Jt))) = some (r1,r2,r3):=H
     have A11:=aa.mk anv
     clear anv
     by_cases c12:Jt = 0
     ·rw [if_pos c12] at H
      have Wl:(Jt == 0) = true:=beq_iff_eq.mpr c12
      have aDF:(Jt != 0) = false:=bne_eq_false_iff_eq.mpr c12
      clear c12
      by_cases c13:iw.length < 4398046511104
      ·rw [if_pos c13] at H
       have aDG:=aa.mk c13
       clear c13
       obtain ⟨aDH,ab5⟩:∃ y_:List (jf),y_ = (iw++[(⟨(⟨tH,vM⟩:ky),(⟨ze,CW⟩:ky)⟩:jf)]):=⟨_,rfl⟩
       replace H:(dE.l0 k1 a3 l4 aDH (wrap64 (eD+1)) ai aj aC aD aJ aH aK aT ak aI aG bn bq bH bI bG tH vM ze CW) = some (r1,r2,r3):=by first|(rw [ab5];with_reducible exact H)|(have Ji:=(Option.bind_some _ _).symm.trans H;rw [ab5];with_reducible exact Ji)|(have Ji:=(Option.bind_some _ _).symm.trans H;with_reducible exact Ji)|with_reducible exact H|(rw [ab5];exact H)|exact H
       have aDI:=aa.mk ab5
       clear ab5
       have H':=aa.mk H
       clear H
       try go_wp2
       replace pF:=aa.mk (Kd.mg pF.out)
       replace dR:=aa.mk (ag dR.out)
       replace eU:=aa.mk (ag eU.out)
       replace kI:=aa.mk (ag kI.out)
       replace HB:=aa.mk (bO HB.out)
       have aew:0≤(eD:Int):=of_decide_eq_true mq
       have aex:eD < (l4.length:Int):=of_decide_eq_true mq
       obtain ⟨yD,azr,yE,yF⟩:=kE HR4.out eD aew aex
       have wD:=yF
       have wE:=yE
       cases azr
       replace yE:=(HB.out.cell (World.block_lt_of_cell? w _ yE)).trans yE
       replace yF:=(HB.out.cell (World.block_lt_of_cell? w _ yF)).trans yF
       replace aew:=eq_true aew
       replace aex:=eq_true aex
       refine iN (n:=20) (S:=fun w'=>w'.cell? ⟨iY,0,none⟩ = some (U Z ai)∧w'.cell? ⟨iY,1,none⟩ = some (U Z aj)∧w'.cell? ⟨iY,2,none⟩ = some (U Z aC)∧w'.cell? ⟨iY,3,none⟩ = some (U Z aD)∧w'.cell? ⟨iY,4,none⟩ = some (U Z aJ)∧w'.cell? ⟨iY,5,none⟩ = some (U Z aH)∧w'.cell? ⟨iY,6,none⟩ = some (U Z aK)∧w'.cell? ⟨iY,7,none⟩ = some (.slice dW aT.length dN)∧w'.cell? ⟨iY,8,none⟩ = some (.slice dZ ak.length dO)∧w'.cell? ⟨jN,0,none⟩ = some (U Z aI)∧w'.cell? ⟨jN,1,none⟩ = some (U Z aG)∧w'.cell? ⟨jN,2,none⟩ = some (U Z bn)∧w'.cell? ⟨jN,3,none⟩ = some (U Z bq)∧w'.cell? ⟨jN,4,none⟩ = some (U Z bH)∧w'.cell? ⟨jN,5,none⟩ = some (U Z bI)∧w'.cell? ⟨jN,6,none⟩ = some (U Z bG)∧w'.cell? ⟨kH,0,none⟩ = some (U Z jP)∧w'.cell? ⟨kH,1,none⟩ = some (U Z jH)∧w'.cell? ⟨kH,2,none⟩ = some (U Z jk)∧w'.cell? ⟨kH,3,none⟩ = some (U Z iR)∧w'.cell? (yD.add ((eD).toNat*2)) = some (U Z ((bJ l4 eD).f0))∧w'.cell? ⟨(yD.add ((eD).toNat*2)).block,(yD.add ((eD).toNat*2)).off+1,none⟩ = some (U Z ((bJ l4 eD).f1))) (ds:=[]) #[ac,ac,ac,ac,ac,ac,ac,ac,ac,ac,ac,ac,ac,ac,ac,ac,ac,ac,ac,ac] aM rfl rfl ⟨bE dR 0,bE dR 1,bE dR 2,bE dR 3,bE dR 4,bE dR 5,bE dR 6,bE dR 7,bE dR 8,bE eU 0,bE eU 1,bE eU 2,bE eU 3,bE eU 4,bE eU 5,bE eU 6,Li kI.out ⟨(jJ HB wE),(jJ HB wD)⟩⟩ (fun hHeld=>?_);refine fU dE.ant dE.ab4 (fun bz jb=>?_)
       generalize wr.drew = w14 at pF dR eU kI HB yE yF hHeld ⊢
       refine bV (i:=3) (N:=some 27) (ax bz.out aM) ?_
       refine bV (i:=4) (N:=some 28) (ax bz.out aM) ?_
       refine bV (i:=5) (N:=some 29) (ax bz.out aM) ?_
       refine bV (i:=9) (N:=some 33) (ax bz.out aM) ?_
       refine bV (i:=10) (N:=some 34) (ax bz.out aM) ?_
       refine bV (i:=11) (N:=some 35) (ax bz.out aM) ?_
       refine iL (i:=0) (N:=some 24) (aY bz.out jb.out aM) hHeld ?_
       refine iL (i:=1) (N:=some 25) (aY bz.out jb.out aM) hHeld ?_
       refine iL (i:=2) (N:=some 26) (aY bz.out jb.out aM) hHeld ?_
       refine iL (i:=6) (N:=some 30) (aY bz.out jb.out aM) hHeld ?_
       refine bV (i:=7) (N:=some 31) (ax bz.out aM) ?_
       refine bV (i:=8) (N:=some 32) (ax bz.out aM) ?_
       refine iL (i:=12) (N:=some 36) (aY bz.out jb.out aM) hHeld ?_
       refine QE (σ:=Nat) 2 #[ab,ab,ab,ab,ab,ab,ab,ab,ab,ab,ab,ab,ab,ab,ab,ab,ab,ab,ac,ac] (fun s_=>[(37,.tuple #[.agg #[U Z tH,U Z vM,U Z ze,U Z CW],U Z Jt]),(15,.pointer (some ⟨s_,0,none⟩)),(23,.tuple #[.agg #[U Z tH,U Z vM,U Z ze,U Z CW],U Z Jt]),(38,.agg #[U Z tH,U Z vM,U Z ze,U Z CW]),(39,U Z Jt)]) (fun s_ w'=>(w'.cell? ⟨iY,0,none⟩ = some (U Z ai)∧w'.cell? ⟨iY,1,none⟩ = some (U Z aj)∧w'.cell? ⟨iY,2,none⟩ = some (U Z aC)∧w'.cell? ⟨iY,3,none⟩ = some (U Z aD)∧w'.cell? ⟨iY,4,none⟩ = some (U Z aJ)∧w'.cell? ⟨iY,5,none⟩ = some (U Z aH)∧w'.cell? ⟨iY,6,none⟩ = some (U Z aK)∧w'.cell? ⟨iY,7,none⟩ = some (.slice dW aT.length dN)∧w'.cell? ⟨iY,8,none⟩ = some (.slice dZ ak.length dO)∧w'.cell? ⟨jN,0,none⟩ = some (U Z aI)∧w'.cell? ⟨jN,1,none⟩ = some (U Z aG)∧w'.cell? ⟨jN,2,none⟩ = some (U Z bn)∧w'.cell? ⟨jN,3,none⟩ = some (U Z bq)∧w'.cell? ⟨jN,4,none⟩ = some (U Z bH)∧w'.cell? ⟨jN,5,none⟩ = some (U Z bI)∧w'.cell? ⟨jN,6,none⟩ = some (U Z bG)∧w'.cell? ⟨kH,0,none⟩ = some (U Z jP)∧w'.cell? ⟨kH,1,none⟩ = some (U Z jH)∧w'.cell? ⟨kH,2,none⟩ = some (U Z jk)∧w'.cell? ⟨kH,3,none⟩ = some (U Z iR)∧w'.cell? (yD.add ((eD).toNat*2)) = some (U Z ((bJ l4 eD).f0))∧w'.cell? ⟨(yD.add ((eD).toNat*2)).block,(yD.add ((eD).toNat*2)).off+1,none⟩ = some (U Z ((bJ l4 eD).f1)))∧(Kd.R k31 31 w' w.heap.size (fun k_=>k_≠kH∧k_≠s_) u13 iw)∧(w'.heap[iY]? = some (.cells #[U Z ai,U Z aj,U Z aC,U Z aD,U Z aJ,U Z aH,U Z aK,.slice dW aT.length dN,.slice dZ ak.length dO] 25 (0,0)))∧(w'.heap[jN]? = some (.cells #[U Z aI,U Z aG,U Z bn,U Z bq,U Z bH,U Z bI,U Z bG] 29 (0,0)))∧(w'.heap[kH]? = some (.cells #[U Z jP,U Z jH,U Z jk,U Z iR] 31 (0,0)))∧(w'.heap[s_]? = some (.cells #[U Z 0,U Z 0,U Z 0,U Z 0] 31 (0,0)))∧(w.heap.size≤s_)∧(w.heap.size≤s_)∧(iY≠s_)∧(s_≠iY)∧(jN≠s_)∧(s_≠jN)∧(kH≠s_)∧(s_≠kH)∧(Below w.heap.size w w')) ?_ ?_
       rotate_left
       ·intro hCont
        refine U9 (i:=13) (j:=17) (Ni:=some 37) (Nj:=some 15) #[ab,ab,ab,ab,ab,ab,ab,ab,ab,ab,ab,ab,ab,ab,ac,ac,ac,ac,ac,ac] #[ab,ab,ab,ab,ab,ab,ab,ab,ab,ab,ab,ab,ab,ac,ac,ac,ac,ab,ac,ac] rfl rfl rfl rfl (Jn bz.out aM) (by decide) (by decide) (fun K hK=>?_) (fun K hK=>?_)
        ·skip
         refine gJ Try.func82 aM rfl #[.agg #[U Z ai,U Z aj,U Z aC,U Z aD,U Z aJ,U Z aH,U Z aK,.slice dW aT.length dN,.slice dZ ak.length dO],.agg #[U Z aI,U Z aG,U Z bn,U Z bq,U Z bH,U Z bI,U Z bG],.agg #[U Z jP,U Z jH,U Z jk,U Z iR],U Z (wrap64 (a3+(wrap64 (eD*aG)))),.agg #[U Z ((bJ l4 eD).f0),U Z ((bJ l4 eD).f1)]] (by rfl) rfl rfl ji ?_
         with_reducible refine (kV.calls k1 ai aj aC aD aJ aH aK _ _ aT _ _ ak aI aG bn bq bH bI bG jP jH jk iR (wrap64 (a3+(wrap64 (eD*aG)))) ((bJ l4 eD).f0) ((bJ l4 eD).f1) tH vM ze CW Jt _ ?cZ ?df ?eu ?eB A11.out).mono ?_
         (case cZ=>repeat (first|exact (Kd.bB ik.out HB.out)|(with_reducible refine Kd.bC ?_ _)|(with_reducible refine Kd.bD ?_ _)|(with_reducible refine Kd.bN ?_)))
         (case df=>exact iC.out)
         (case eu=>repeat (first|exact (Kd.bB gN.out HB.out)|(with_reducible refine Kd.bC ?_ _)|(with_reducible refine Kd.bD ?_ _)|(with_reducible refine Kd.bN ?_)))
         (case eB=>exact iD.out)
         rintro e w15 ⟨rfl,hb⟩
         refine ⟨_,rfl,?_⟩
         replace pF:=zt pF hb
         replace dR:=aX dR hb
         replace eU:=aX eU hb
         replace kI:=aX kI hb
         replace HB:=cO HB hb
         (try clear hb)
         (try clear hb2)
         (try clear hk)
         (try clear hi)
         refine hK.out _ _ ⟨bE dR 0,bE dR 1,bE dR 2,bE dR 3,bE dR 4,bE dR 5,bE dR 6,bE dR 7,bE dR 8,bE eU 0,bE eU 1,bE eU 2,bE eU 3,bE eU 4,bE eU 5,bE eU 6,Li kI.out ⟨(jJ HB wE),(jJ HB wD)⟩⟩ (fun hHeld=>?_)
         clear hK K
         refine dM att ?_
         refine bV (i:=14) (N:=some 23) (ax bz.out aM) ?_
         refine bV (i:=15) (N:=some 38) (ax bz.out aM) ?_
         refine bV (i:=16) (N:=some 39) (ax bz.out aM) ?_
         refine iO (i:=17) (N:=some 15) #[ab,ab,ab,ab,ab,ab,ab,ab,ab,ab,ab,ab,ab,ab,ab,ab,ab,ab,ac,ac] rfl rfl (eH bz.out aM) (by decide) (fun K hK=>?_)
         refine nV ?hg (N:=15) ?hd (cs:=#[U Z 0,U Z 0,U Z 0,U Z 0]) (t:=31) ?hr ?_;(case hd=>rfl);(case hg=>rfl);(case hr=>first|(go_simp;done)|(go_simp;rfl))
         intro jg hg w16 hbox hb
         have pG:=aa.mk (hbox)
         have BA:=bS HB hg
         have NT:=bS HB hg
         have bM:=eQ dR hg
         have ma:=eT dR hg
         have cK:=eQ eU hg
         have mf:=eT eU hg
         have dQ:=eQ kI hg
         have jv:=eT kI hg
         replace pF:=aa.mk (Kd.mH (Kd.tK ab6 jg (Nat.le_of_eq hg.symm)) hb)
         replace dR:=aX dR hb
         replace eU:=aX eU hb
         replace kI:=aX kI hb
         replace HB:=cO HB hb
         clear hb hbox hg
         refine hK.out _ _ ⟨bE dR 0,bE dR 1,bE dR 2,bE dR 3,bE dR 4,bE dR 5,bE dR 6,bE dR 7,bE dR 8,bE eU 0,bE eU 1,bE eU 2,bE eU 3,bE eU 4,bE eU 5,bE eU 6,Li kI.out ⟨(jJ HB wE),(jJ HB wD)⟩⟩ (fun hHeld=>?_)
         clear hK K
         refine dM atu ?_
         exact dM M9 (hCont (jg) _ ⟨hHeld,ab6,gB,gB,gB,gB,BA.out,NT.out,bM.out,ma.out,cK.out,mf.out,dQ.out,jv.out,gL⟩)
        ·skip
         refine nV ?hg (N:=15) ?hd (cs:=#[U Z 0,U Z 0,U Z 0,U Z 0]) (t:=31) ?hr ?_;(case hd=>rfl);(case hg=>rfl);(case hr=>first|(go_simp;done)|(go_simp;rfl))
         intro jg hg w15 hbox hb
         have pG:=aa.mk (hbox)
         have BA:=bS HB hg
         have NT:=bS HB hg
         have bM:=eQ dR hg
         have ma:=eT dR hg
         have cK:=eQ eU hg
         have mf:=eT eU hg
         have dQ:=eQ kI hg
         have jv:=eT kI hg
         replace pF:=aa.mk (Kd.mH (Kd.tK ab6 jg (Nat.le_of_eq hg.symm)) hb)
         replace dR:=aX dR hb
         replace eU:=aX eU hb
         replace kI:=aX kI hb
         replace HB:=cO HB hb
         clear hb hbox hg
         refine hK.out _ _ ⟨bE dR 0,bE dR 1,bE dR 2,bE dR 3,bE dR 4,bE dR 5,bE dR 6,bE dR 7,bE dR 8,bE eU 0,bE eU 1,bE eU 2,bE eU 3,bE eU 4,bE eU 5,bE eU 6,Li kI.out ⟨(jJ HB wE),(jJ HB wD)⟩⟩ (fun hHeld=>?_)
         clear hK K
         refine dM atu ?_
         refine iO (i:=13) (N:=some 37) #[ab,ab,ab,ab,ab,ab,ab,ab,ab,ab,ab,ab,ab,ab,ac,ac,ac,ab,ac,ac] rfl rfl (eH bz.out aM) (by decide) (fun K hK=>?_)
         refine gJ Try.func82 aM rfl #[.agg #[U Z ai,U Z aj,U Z aC,U Z aD,U Z aJ,U Z aH,U Z aK,.slice dW aT.length dN,.slice dZ ak.length dO],.agg #[U Z aI,U Z aG,U Z bn,U Z bq,U Z bH,U Z bI,U Z bG],.agg #[U Z jP,U Z jH,U Z jk,U Z iR],U Z (wrap64 (a3+(wrap64 (eD*aG)))),.agg #[U Z ((bJ l4 eD).f0),U Z ((bJ l4 eD).f1)]] (by rfl) rfl rfl ji ?_
         with_reducible refine (kV.calls k1 ai aj aC aD aJ aH aK _ _ aT _ _ ak aI aG bn bq bH bI bG jP jH jk iR (wrap64 (a3+(wrap64 (eD*aG)))) ((bJ l4 eD).f0) ((bJ l4 eD).f1) tH vM ze CW Jt _ ?cZ ?df ?eu ?eB A11.out).mono ?_
         (case cZ=>repeat (first|exact (Kd.bB ik.out HB.out)|(with_reducible refine Kd.bC ?_ _)|(with_reducible refine Kd.bD ?_ _)|(with_reducible refine Kd.bN ?_)))
         (case df=>exact iC.out)
         (case eu=>repeat (first|exact (Kd.bB gN.out HB.out)|(with_reducible refine Kd.bC ?_ _)|(with_reducible refine Kd.bD ?_ _)|(with_reducible refine Kd.bN ?_)))
         (case eB=>exact iD.out)
         rintro e w16 ⟨rfl,hb⟩
         refine ⟨_,rfl,?_⟩
         replace pF:=zt pF hb
         replace dR:=aX dR hb
         replace eU:=aX eU hb
         replace kI:=aX kI hb
         replace pG:=aX pG hb
         replace HB:=cO HB hb
         (try clear hb)
         (try clear hb2)
         (try clear hk)
         (try clear hi)
         refine hK.out _ _ ⟨bE dR 0,bE dR 1,bE dR 2,bE dR 3,bE dR 4,bE dR 5,bE dR 6,bE dR 7,bE dR 8,bE eU 0,bE eU 1,bE eU 2,bE eU 3,bE eU 4,bE eU 5,bE eU 6,Li kI.out ⟨(jJ HB wE),(jJ HB wD)⟩⟩ (fun hHeld=>?_)
         clear hK K
         refine dM att ?_
         refine bV (i:=14) (N:=some 23) (ax bz.out aM) ?_
         refine bV (i:=15) (N:=some 38) (ax bz.out aM) ?_
         refine bV (i:=16) (N:=some 39) (ax bz.out aM) ?_
         exact dM M9 (hCont (jg) _ ⟨hHeld,ab6,gB,gB,gB,gB,BA.out,NT.out,bM.out,ma.out,cK.out,mf.out,dQ.out,jv.out,gL⟩)
       rintro jg Fb ⟨hS_,h0_,h1_,h2_,h3_,h4_,h5_,h6_,h7_,h8_,h9_,Jo,Ub,abP,abQ⟩
       have vD:aa (Kd.R k31 31 Fb w.heap.size (fun k_=>k_≠kH∧k_≠jg) u13 iw):=⟨h0_⟩
       have vE:aa (Fb.heap[iY]? = some (.cells #[U Z ai,U Z aj,U Z aC,U Z aD,U Z aJ,U Z aH,U Z aK,.slice dW aT.length dN,.slice dZ ak.length dO] 25 (0,0))):=⟨h1_⟩
       have vF:aa (Fb.heap[jN]? = some (.cells #[U Z aI,U Z aG,U Z bn,U Z bq,U Z bH,U Z bI,U Z bG] 29 (0,0))):=⟨h2_⟩
       have vG:aa (Fb.heap[kH]? = some (.cells #[U Z jP,U Z jH,U Z jk,U Z iR] 31 (0,0))):=⟨h3_⟩
       have vY:aa (Fb.heap[jg]? = some (.cells #[U Z 0,U Z 0,U Z 0,U Z 0] 31 (0,0))):=⟨h4_⟩
       have BP:aa (w.heap.size≤jg):=⟨h5_⟩
       have Jc:aa (w.heap.size≤jg):=⟨h6_⟩
       have Ld:aa (iY≠jg):=⟨h7_⟩
       have n8_:aa (jg≠iY):=⟨h8_⟩
       have n9_:aa (jN≠jg):=⟨h9_⟩
       have Jp:aa (jg≠jN):=⟨Jo⟩
       have Uc:aa (kH≠jg):=⟨Ub⟩
       have abR:aa (jg≠kH):=⟨abP⟩
       have abS:aa (Below w.heap.size w Fb):=⟨abQ⟩
       clear pF dR eU kI HB
       clear h0_ h1_ h2_ h3_ h4_ h5_ h6_ h7_ h8_ h9_ Jo Ub abP abQ
       have pF:=vD
       have dR:=vE
       have eU:=vF
       have kI:=vG
       have pG:=vY
       have BA:=BP
       have NT:=Jc
       have bM:=Ld
       have ma:=n8_
       have cK:=n9_
       have mf:=Jp
       have dQ:=Uc
       have jv:=abR
       have HB:=abS
       clear vD vE vF vG vY BP Jc Ld n8_ n9_ Jp Uc abR abS
       have hHeld:Fb.cell? ⟨iY,0,none⟩ = some (U Z ai)∧Fb.cell? ⟨iY,1,none⟩ = some (U Z aj)∧Fb.cell? ⟨iY,2,none⟩ = some (U Z aC)∧Fb.cell? ⟨iY,3,none⟩ = some (U Z aD)∧Fb.cell? ⟨iY,4,none⟩ = some (U Z aJ)∧Fb.cell? ⟨iY,5,none⟩ = some (U Z aH)∧Fb.cell? ⟨iY,6,none⟩ = some (U Z aK)∧Fb.cell? ⟨iY,7,none⟩ = some (.slice dW aT.length dN)∧Fb.cell? ⟨iY,8,none⟩ = some (.slice dZ ak.length dO)∧Fb.cell? ⟨jN,0,none⟩ = some (U Z aI)∧Fb.cell? ⟨jN,1,none⟩ = some (U Z aG)∧Fb.cell? ⟨jN,2,none⟩ = some (U Z bn)∧Fb.cell? ⟨jN,3,none⟩ = some (U Z bq)∧Fb.cell? ⟨jN,4,none⟩ = some (U Z bH)∧Fb.cell? ⟨jN,5,none⟩ = some (U Z bI)∧Fb.cell? ⟨jN,6,none⟩ = some (U Z bG)∧Fb.cell? ⟨kH,0,none⟩ = some (U Z jP)∧Fb.cell? ⟨kH,1,none⟩ = some (U Z jH)∧Fb.cell? ⟨kH,2,none⟩ = some (U Z jk)∧Fb.cell? ⟨kH,3,none⟩ = some (U Z iR)∧Fb.cell? (yD.add ((eD).toNat*2)) = some (U Z ((bJ l4 eD).f0))∧Fb.cell? ⟨(yD.add ((eD).toNat*2)).block,(yD.add ((eD).toNat*2)).off+1,none⟩ = some (U Z ((bJ l4 eD).f1)):=hS_
       refine dM (a':=?_) ?_ ?_
       rotate_left
       ·simp only [xC,Act.put,List.setIfInBounds_toArray,List.set_cons_zero,List.set_cons_succ]
        rfl
       refine iO (i:=18) (N:=none) #[ab,ab,ab,ab,ab,ab,ab,ab,ab,ab,ab,ab,ab,ab,ab,ab,ab,ab,ab,ac] rfl rfl (eH bz.out aM) (by decide) (fun K hK=>?_)
       have a7b:Fb.cell? ⟨jg,0,none⟩ = some (U Z 0):=(ah pG.out 0).trans rfl
       have a3q:=bf pG.out 0
       have aRL:=bM.out
       have aRM:=cK.out
       have aRN:=dQ.out
       have aRO:=ma.out
       have aRP:=mf.out
       have aRQ:=jv.out
       have a7c:Fb.cell? ⟨jg,1,none⟩ = some (U Z 0):=(ah pG.out 1).trans rfl
       have a3r:=bf pG.out 1
       have aRR:=bM.out
       have aRS:=cK.out
       have aRT:=dQ.out
       have aRU:=ma.out
       have aRV:=mf.out
       have aRW:=jv.out
       have aXb:Fb.cell? ⟨jg,2,none⟩ = some (U Z 0):=(ah pG.out 2).trans rfl
       have aDJ:=bf pG.out 2
       have atv:=bM.out
       have atw:=cK.out
       have aRX:=dQ.out
       have atx:=ma.out
       have aty:=mf.out
       have aRY:=jv.out
       have aBO:Fb.cell? ⟨jg,3,none⟩ = some (U Z 0):=(ah pG.out 3).trans rfl
       have awt:=bf pG.out 3
       have afB:=bM.out
       have afC:=cK.out
       have aRZ:=dQ.out
       have afD:=ma.out
       have afE:=mf.out
       have aR0:=jv.out
       refine ve (w1:=?_) (by rfl) rfl ?_ ?_
       rotate_left
       ·go_simp
        rfl
       refine hK.out _ _ ⟨(bY bM ((bY bM ((bY bM ((bY bM (hHeld.1)))))))),(bY bM ((bY bM ((bY bM ((bY bM (hHeld.2.1)))))))),(bY bM ((bY bM ((bY bM ((bY bM (hHeld.2.2.1)))))))),(bY bM ((bY bM ((bY bM ((bY bM (hHeld.2.2.2.1)))))))),(bY bM ((bY bM ((bY bM ((bY bM (hHeld.2.2.2.2.1)))))))),(bY bM ((bY bM ((bY bM ((bY bM (hHeld.2.2.2.2.2.1)))))))),(bY bM ((bY bM ((bY bM ((bY bM (hHeld.2.2.2.2.2.2.1)))))))),(bY bM ((bY bM ((bY bM ((bY bM (hHeld.2.2.2.2.2.2.2.1)))))))),(bY bM ((bY bM ((bY bM ((bY bM (hHeld.2.2.2.2.2.2.2.2.1)))))))),(bY cK ((bY cK ((bY cK ((bY cK (hHeld.2.2.2.2.2.2.2.2.2.1)))))))),(bY cK ((bY cK ((bY cK ((bY cK (hHeld.2.2.2.2.2.2.2.2.2.2.1)))))))),(bY cK ((bY cK ((bY cK ((bY cK (hHeld.2.2.2.2.2.2.2.2.2.2.2.1)))))))),(bY cK ((bY cK ((bY cK ((bY cK (hHeld.2.2.2.2.2.2.2.2.2.2.2.2.1)))))))),(bY cK ((bY cK ((bY cK ((bY cK (hHeld.2.2.2.2.2.2.2.2.2.2.2.2.2.1)))))))),(bY cK ((bY cK ((bY cK ((bY cK (hHeld.2.2.2.2.2.2.2.2.2.2.2.2.2.2.1)))))))),(bY cK ((bY cK ((bY cK ((bY cK (hHeld.2.2.2.2.2.2.2.2.2.2.2.2.2.2.2.1)))))))),(bY dQ ((bY dQ ((bY dQ ((bY dQ (hHeld.2.2.2.2.2.2.2.2.2.2.2.2.2.2.2.2.1)))))))),(bY dQ ((bY dQ ((bY dQ ((bY dQ (hHeld.2.2.2.2.2.2.2.2.2.2.2.2.2.2.2.2.2.1)))))))),(bY dQ ((bY dQ ((bY dQ ((bY dQ (hHeld.2.2.2.2.2.2.2.2.2.2.2.2.2.2.2.2.2.2.1)))))))),(bY dQ ((bY dQ ((bY dQ ((bY dQ (hHeld.2.2.2.2.2.2.2.2.2.2.2.2.2.2.2.2.2.2.2.1)))))))),((cell_far (p:=⟨jg,_,none⟩) ab7 _).trans (((cell_far (p:=⟨jg,_,none⟩) ab7 _).trans (((cell_far (p:=⟨jg,_,none⟩) ab7 _).trans (((cell_far (p:=⟨jg,_,none⟩) ab7 _).trans (hHeld.2.2.2.2.2.2.2.2.2.2.2.2.2.2.2.2.2.2.2.2.1)))))))),((cell_far (p:=⟨jg,_,none⟩) ab8 _).trans (((cell_far (p:=⟨jg,_,none⟩) ab8 _).trans (((cell_far (p:=⟨jg,_,none⟩) ab8 _).trans (((cell_far (p:=⟨jg,_,none⟩) ab8 _).trans (hHeld.2.2.2.2.2.2.2.2.2.2.2.2.2.2.2.2.2.2.2.2.2))))))))⟩ (fun hHeld=>?_)
       clear hK K
       refine bV (i:=19) (N:=some 16) (ax bz.out aM) ?_
       refine jS (ja bz.out aM) ?_
       have V9:=ma.out
       have Wd:=bM.out
       have Uq:=mf.out
       have Ur:=cK.out
       have abX:=jv.out
       have abY:=dQ.out
       obtain ⟨Bc,Bd,Ez,EA,Be,Bf,EB,EC⟩:=jc pG.out
       have ab2:=akR.out
       have ab3:=akQ.out
       have anw:=akT.out
       have anx:=akS.out
       obtain ⟨NU,NV,SE,SF,NW,NY,SG,SH⟩:=jc kI.out
       try go_wp2_with (first|((with_reducible refine yG (b:=.append) (xs:=#[.tmp 45,.tmp 47]) rfl ?_);at_builtin;refine Kd.Je k31 (w0:=w) w.heap.size rfl (.tmp 45) (.tmp 47) 50 31 (.agg #[(U Z 0),(U Z 0),(U Z 0),(U Z 0)]) 32 rfl Try.underlying50 anz rfl (by decide) (by omega) u13 iw (⟨(⟨tH,vM⟩:ky),(⟨ze,CW⟩:ky)⟩:jf) [U Z tH,U Z vM,U Z ze,U Z CW] (fun k_=>k_≠kH∧k_≠jg) (fun _=>False) rfl fG ?aP (fun _ hk=>hk.elim) ?aF ?aO ?aB ?aS ?aL ?_;(case aP=>exact ahL _ _ _ (⟨(⟨tH,vM⟩:ky),(⟨ze,CW⟩:ky)⟩:jf));(case aB=>exact gL);(case aF=>exact (fun k_ hk=>⟨Kd.WN (g:=kH) (o:=.cells #[U Z tH,U Z vM,U Z ze,U Z CW] 31 (0,0)) (by (with_reducible repeat (first|refine av ?_ _|refine ag ?_|refine af ?_ _));refine aN (cs:=#[U Z tH,U Z vM,U Z ze,U Z iR]) ?_ 3 _ rfl;(with_reducible repeat (first|refine av ?_ _|refine ag ?_|refine af ?_ _));refine aN (cs:=#[U Z tH,U Z vM,U Z jk,U Z iR]) ?_ 2 _ rfl;(with_reducible repeat (first|refine av ?_ _|refine ag ?_|refine af ?_ _));refine aN (cs:=#[U Z tH,U Z jH,U Z jk,U Z iR]) ?_ 1 _ rfl;(with_reducible repeat (first|refine av ?_ _|refine ag ?_|refine af ?_ _));refine aN (cs:=#[U Z jP,U Z jH,U Z jk,U Z iR]) ?_ 0 _ rfl;(with_reducible repeat (first|refine av ?_ _|refine ag ?_|refine af ?_ _));refine aV ?_ dQ.out _;(with_reducible repeat (first|refine av ?_ _|refine ag ?_|refine af ?_ _));refine aV ?_ dQ.out _;(with_reducible repeat (first|refine av ?_ _|refine ag ?_|refine af ?_ _));refine aV ?_ dQ.out _;(with_reducible repeat (first|refine av ?_ _|refine ag ?_|refine af ?_ _));refine aV ?_ dQ.out _;(with_reducible repeat (first|refine av ?_ _|refine ag ?_|refine af ?_ _));exact kI.out) k_ hk,Kd.WN (g:=jg) (o:=.cells #[U Z tH,U Z vM,U Z ze,U Z CW] 31 (0,0)) (by (with_reducible repeat (first|refine av ?_ _|refine ag ?_|refine af ?_ _));refine aV ?_ jv.out _;(with_reducible repeat (first|refine av ?_ _|refine ag ?_|refine af ?_ _));refine aV ?_ jv.out _;(with_reducible repeat (first|refine av ?_ _|refine ag ?_|refine af ?_ _));refine aV ?_ jv.out _;(with_reducible repeat (first|refine av ?_ _|refine ag ?_|refine af ?_ _));refine aV ?_ jv.out _;(with_reducible repeat (first|refine av ?_ _|refine ag ?_|refine af ?_ _));refine aN (cs:=#[U Z tH,U Z vM,U Z ze,U Z 0]) ?_ 3 _ rfl;(with_reducible repeat (first|refine av ?_ _|refine ag ?_|refine af ?_ _));refine aN (cs:=#[U Z tH,U Z vM,U Z 0,U Z 0]) ?_ 2 _ rfl;(with_reducible repeat (first|refine av ?_ _|refine ag ?_|refine af ?_ _));refine aN (cs:=#[U Z tH,U Z 0,U Z 0,U Z 0]) ?_ 1 _ rfl;(with_reducible repeat (first|refine av ?_ _|refine ag ?_|refine af ?_ _));refine aN (cs:=#[U Z 0,U Z 0,U Z 0,U Z 0]) ?_ 0 _ rfl;(with_reducible repeat (first|refine av ?_ _|refine ag ?_|refine af ?_ _));exact pG.out) k_ hk⟩));(case aO=>exact (by (with_reducible repeat (first|apply Kd.mY|apply Kd.mZ|apply Kd.mg));exact Kd.mM (Kd.fA (p:=⟨kH,3,none⟩) (Kd.fA (p:=⟨kH,2,none⟩) (Kd.fA (p:=⟨kH,1,none⟩) (Kd.fA (p:=⟨kH,0,none⟩) (Kd.fA (p:=⟨jg,3,none⟩) (Kd.fA (p:=⟨jg,2,none⟩) (Kd.fA (p:=⟨jg,1,none⟩) (Kd.fA (p:=⟨jg,0,none⟩) (Kd.mM (Kd.mM pF.out (fun k_ hk=>(⟨hk,hk.2⟩:_∧k_≠jg))) (fun k_ hk=>(⟨hk,hk.1.1⟩:_∧k_≠kH))) (fun _ hk=>hk.1.2) (U Z tH)) (fun _ hk=>hk.1.2) (U Z vM)) (fun _ hk=>hk.1.2) (U Z ze)) (fun _ hk=>hk.1.2) (U Z CW)) (fun _ hk=>hk.2) (U Z tH)) (fun _ hk=>hk.2) (U Z vM)) (fun _ hk=>hk.2) (U Z ze)) (fun _ hk=>hk.2) (U Z CW)) (fun _ hk=>⟨hk.1.1.1,hk.1.1.2⟩)));(case aS=>exact (iq gL));(case aL=>have:=aDG.out;omega);intro a7d w29 ho hb hg hat;rw [← aDI.out] at ho;have vD:=aa.mk (oz (g:=iY) (o:=.cells #[U Z ai,U Z aj,U Z aC,U Z aD,U Z aJ,U Z aH,U Z aK,.slice dW aT.length dN,.slice dZ ak.length dO] 25 (0,0)) gB hg (Kd.adz pF.out dR.out (by decide)));have vE:=aa.mk (oz (g:=jN) (o:=.cells #[U Z aI,U Z aG,U Z bn,U Z bq,U Z bH,U Z bI,U Z bG] 29 (0,0)) gB hg (Kd.adz pF.out eU.out (by decide)));have vF:=aa.mk (oz (g:=kH) (o:=.cells #[U Z tH,U Z vM,U Z ze,U Z CW] 31 (0,0)) (by (with_reducible repeat (first|refine av ?_ _|refine ag ?_|refine af ?_ _));refine aN (cs:=#[U Z tH,U Z vM,U Z ze,U Z iR]) ?_ 3 _ rfl;(with_reducible repeat (first|refine av ?_ _|refine ag ?_|refine af ?_ _));refine aN (cs:=#[U Z tH,U Z vM,U Z jk,U Z iR]) ?_ 2 _ rfl;(with_reducible repeat (first|refine av ?_ _|refine ag ?_|refine af ?_ _));refine aN (cs:=#[U Z tH,U Z jH,U Z jk,U Z iR]) ?_ 1 _ rfl;(with_reducible repeat (first|refine av ?_ _|refine ag ?_|refine af ?_ _));refine aN (cs:=#[U Z jP,U Z jH,U Z jk,U Z iR]) ?_ 0 _ rfl;(with_reducible repeat (first|refine av ?_ _|refine ag ?_|refine af ?_ _));refine aV ?_ dQ.out _;(with_reducible repeat (first|refine av ?_ _|refine ag ?_|refine af ?_ _));refine aV ?_ dQ.out _;(with_reducible repeat (first|refine av ?_ _|refine ag ?_|refine af ?_ _));refine aV ?_ dQ.out _;(with_reducible repeat (first|refine av ?_ _|refine ag ?_|refine af ?_ _));refine aV ?_ dQ.out _;(with_reducible repeat (first|refine av ?_ _|refine ag ?_|refine af ?_ _));exact kI.out) hg (Kd.WM pF.out (fun _ hk=>hk.1)));have vG:=aa.mk (oz (g:=jg) (o:=.cells #[U Z tH,U Z vM,U Z ze,U Z CW] 31 (0,0)) (by (with_reducible repeat (first|refine av ?_ _|refine ag ?_|refine af ?_ _));refine aV ?_ jv.out _;(with_reducible repeat (first|refine av ?_ _|refine ag ?_|refine af ?_ _));refine aV ?_ jv.out _;(with_reducible repeat (first|refine av ?_ _|refine ag ?_|refine af ?_ _));refine aV ?_ jv.out _;(with_reducible repeat (first|refine av ?_ _|refine ag ?_|refine af ?_ _));refine aV ?_ jv.out _;(with_reducible repeat (first|refine av ?_ _|refine ag ?_|refine af ?_ _));refine aN (cs:=#[U Z tH,U Z vM,U Z ze,U Z 0]) ?_ 3 _ rfl;(with_reducible repeat (first|refine av ?_ _|refine ag ?_|refine af ?_ _));refine aN (cs:=#[U Z tH,U Z vM,U Z 0,U Z 0]) ?_ 2 _ rfl;(with_reducible repeat (first|refine av ?_ _|refine ag ?_|refine af ?_ _));refine aN (cs:=#[U Z tH,U Z 0,U Z 0,U Z 0]) ?_ 1 _ rfl;(with_reducible repeat (first|refine av ?_ _|refine ag ?_|refine af ?_ _));refine aN (cs:=#[U Z 0,U Z 0,U Z 0,U Z 0]) ?_ 0 _ rfl;(with_reducible repeat (first|refine av ?_ _|refine ag ?_|refine af ?_ _));exact pG.out) hg (Kd.WM pF.out (fun _ hk=>hk.2)));have vY:=aa.mk (hb);have BP:=aa.mk (ho);clear dR;clear eU;clear kI;clear pG;clear HB;clear pF;have dR:=vD;have eU:=vE;have kI:=vF;have pG:=vG;have HB:=vY;have aDK:=BP;clear vD vE vF vG vY BP;clear ho hb hg hat))
       go_roundg k1
       case measure=>have:=JP.out;omega
       case rel=>exact ⟨(aDH),(wrap64 (eD+1)),(tH),(vM),(ze),(CW),nM,H',⟨Mi⟩,⟨by (with_reducible repeat (first|apply Kd.mY|apply Kd.mZ|apply Kd.mg));exact Kd.mM aDK.out (fun _ hk=>hk.1)⟩,⟨gB⟩,⟨gB⟩,⟨gB⟩,⟨gL⟩⟩
      ·rw [if_neg c13] at H
       exact absurd H (by simp)
     ·rw [if_neg c12] at H
      have Wl:(Jt == 0) = false:=beq_eq_false_iff_ne.mpr c12
      have aDF:(Jt != 0) = true:=bne_iff_ne.mpr c12
      simp only [Option.some.injEq,Prod.mk.injEq] at H
      obtain ⟨rfl,rfl,rfl⟩:=H
      try go_wp2
      replace pF:=aa.mk (Kd.mg pF.out)
      replace dR:=aa.mk (ag dR.out)
      replace eU:=aa.mk (ag eU.out)
      replace kI:=aa.mk (ag kI.out)
      replace HB:=aa.mk (bO HB.out)
      have aew:0≤(eD:Int):=of_decide_eq_true mq
      have aex:eD < (l4.length:Int):=of_decide_eq_true mq
      obtain ⟨yD,azr,yE,yF⟩:=kE HR4.out eD aew aex
      have wD:=yF
      have wE:=yE
      cases azr
      replace yE:=(HB.out.cell (World.block_lt_of_cell? w _ yE)).trans yE
      replace yF:=(HB.out.cell (World.block_lt_of_cell? w _ yF)).trans yF
      replace aew:=eq_true aew
      replace aex:=eq_true aex
      refine iN (n:=20) (S:=fun w'=>w'.cell? ⟨iY,0,none⟩ = some (U Z ai)∧w'.cell? ⟨iY,1,none⟩ = some (U Z aj)∧w'.cell? ⟨iY,2,none⟩ = some (U Z aC)∧w'.cell? ⟨iY,3,none⟩ = some (U Z aD)∧w'.cell? ⟨iY,4,none⟩ = some (U Z aJ)∧w'.cell? ⟨iY,5,none⟩ = some (U Z aH)∧w'.cell? ⟨iY,6,none⟩ = some (U Z aK)∧w'.cell? ⟨iY,7,none⟩ = some (.slice dW aT.length dN)∧w'.cell? ⟨iY,8,none⟩ = some (.slice dZ ak.length dO)∧w'.cell? ⟨jN,0,none⟩ = some (U Z aI)∧w'.cell? ⟨jN,1,none⟩ = some (U Z aG)∧w'.cell? ⟨jN,2,none⟩ = some (U Z bn)∧w'.cell? ⟨jN,3,none⟩ = some (U Z bq)∧w'.cell? ⟨jN,4,none⟩ = some (U Z bH)∧w'.cell? ⟨jN,5,none⟩ = some (U Z bI)∧w'.cell? ⟨jN,6,none⟩ = some (U Z bG)∧w'.cell? ⟨kH,0,none⟩ = some (U Z jP)∧w'.cell? ⟨kH,1,none⟩ = some (U Z jH)∧w'.cell? ⟨kH,2,none⟩ = some (U Z jk)∧w'.cell? ⟨kH,3,none⟩ = some (U Z iR)∧w'.cell? (yD.add ((eD).toNat*2)) = some (U Z ((bJ l4 eD).f0))∧w'.cell? ⟨(yD.add ((eD).toNat*2)).block,(yD.add ((eD).toNat*2)).off+1,none⟩ = some (U Z ((bJ l4 eD).f1))) (ds:=[]) #[ac,ac,ac,ac,ac,ac,ac,ac,ac,ac,ac,ac,ac,ac,ac,ac,ac,ac,ac,ac] aM rfl rfl ⟨bE dR 0,bE dR 1,bE dR 2,bE dR 3,bE dR 4,bE dR 5,bE dR 6,bE dR 7,bE dR 8,bE eU 0,bE eU 1,bE eU 2,bE eU 3,bE eU 4,bE eU 5,bE eU 6,Li kI.out ⟨(jJ HB wE),(jJ HB wD)⟩⟩ (fun hHeld=>?_);refine fU dE.ant dE.ab4 (fun bz jb=>?_)
      generalize wr.drew = w30 at pF dR eU kI HB yE yF hHeld ⊢
      refine bV (i:=3) (N:=some 27) (ax bz.out aM) ?_
      refine bV (i:=4) (N:=some 28) (ax bz.out aM) ?_
      refine bV (i:=5) (N:=some 29) (ax bz.out aM) ?_
      refine bV (i:=9) (N:=some 33) (ax bz.out aM) ?_
      refine bV (i:=10) (N:=some 34) (ax bz.out aM) ?_
      refine bV (i:=11) (N:=some 35) (ax bz.out aM) ?_
      refine iL (i:=0) (N:=some 24) (aY bz.out jb.out aM) hHeld ?_
      refine iL (i:=1) (N:=some 25) (aY bz.out jb.out aM) hHeld ?_
      refine iL (i:=2) (N:=some 26) (aY bz.out jb.out aM) hHeld ?_
      refine iL (i:=6) (N:=some 30) (aY bz.out jb.out aM) hHeld ?_
      refine bV (i:=7) (N:=some 31) (ax bz.out aM) ?_
      refine bV (i:=8) (N:=some 32) (ax bz.out aM) ?_
      refine iL (i:=12) (N:=some 36) (aY bz.out jb.out aM) hHeld ?_
      refine QE (σ:=Nat) 2 #[ab,ab,ab,ab,ab,ab,ab,ab,ab,ab,ab,ab,ab,ab,ab,ab,ab,ab,ac,ac] (fun s_=>[(37,.tuple #[.agg #[U Z tH,U Z vM,U Z ze,U Z CW],U Z Jt]),(15,.pointer (some ⟨s_,0,none⟩)),(23,.tuple #[.agg #[U Z tH,U Z vM,U Z ze,U Z CW],U Z Jt]),(38,.agg #[U Z tH,U Z vM,U Z ze,U Z CW]),(39,U Z Jt)]) (fun s_ w'=>(w'.cell? ⟨iY,0,none⟩ = some (U Z ai)∧w'.cell? ⟨iY,1,none⟩ = some (U Z aj)∧w'.cell? ⟨iY,2,none⟩ = some (U Z aC)∧w'.cell? ⟨iY,3,none⟩ = some (U Z aD)∧w'.cell? ⟨iY,4,none⟩ = some (U Z aJ)∧w'.cell? ⟨iY,5,none⟩ = some (U Z aH)∧w'.cell? ⟨iY,6,none⟩ = some (U Z aK)∧w'.cell? ⟨iY,7,none⟩ = some (.slice dW aT.length dN)∧w'.cell? ⟨iY,8,none⟩ = some (.slice dZ ak.length dO)∧w'.cell? ⟨jN,0,none⟩ = some (U Z aI)∧w'.cell? ⟨jN,1,none⟩ = some (U Z aG)∧w'.cell? ⟨jN,2,none⟩ = some (U Z bn)∧w'.cell? ⟨jN,3,none⟩ = some (U Z bq)∧w'.cell? ⟨jN,4,none⟩ = some (U Z bH)∧w'.cell? ⟨jN,5,none⟩ = some (U Z bI)∧w'.cell? ⟨jN,6,none⟩ = some (U Z bG)∧w'.cell? ⟨kH,0,none⟩ = some (U Z jP)∧w'.cell? ⟨kH,1,none⟩ = some (U Z jH)∧w'.cell? ⟨kH,2,none⟩ = some (U Z jk)∧w'.cell? ⟨kH,3,none⟩ = some (U Z iR)∧w'.cell? (yD.add ((eD).toNat*2)) = some (U Z ((bJ l4 eD).f0))∧w'.cell? ⟨(yD.add ((eD).toNat*2)).block,(yD.add ((eD).toNat*2)).off+1,none⟩ = some (U Z ((bJ l4 eD).f1)))∧(Kd.R k31 31 w' w.heap.size (fun k_=>k_≠kH∧k_≠s_) u13 iw)∧(w'.heap[iY]? = some (.cells #[U Z ai,U Z aj,U Z aC,U Z aD,U Z aJ,U Z aH,U Z aK,.slice dW aT.length dN,.slice dZ ak.length dO] 25 (0,0)))∧(w'.heap[jN]? = some (.cells #[U Z aI,U Z aG,U Z bn,U Z bq,U Z bH,U Z bI,U Z bG] 29 (0,0)))∧(w'.heap[kH]? = some (.cells #[U Z jP,U Z jH,U Z jk,U Z iR] 31 (0,0)))∧(w'.heap[s_]? = some (.cells #[U Z 0,U Z 0,U Z 0,U Z 0] 31 (0,0)))∧(w.heap.size≤s_)∧(w.heap.size≤s_)∧(iY≠s_)∧(s_≠iY)∧(jN≠s_)∧(s_≠jN)∧(kH≠s_)∧(s_≠kH)∧(Below w.heap.size w w')) ?_ ?_
      rotate_left
      ·intro hCont
       refine U9 (i:=13) (j:=17) (Ni:=some 37) (Nj:=some 15) #[ab,ab,ab,ab,ab,ab,ab,ab,ab,ab,ab,ab,ab,ab,ac,ac,ac,ac,ac,ac] #[ab,ab,ab,ab,ab,ab,ab,ab,ab,ab,ab,ab,ab,ac,ac,ac,ac,ab,ac,ac] rfl rfl rfl rfl (Jn bz.out aM) (by decide) (by decide) (fun K hK=>?_) (fun K hK=>?_)
       ·skip
        refine gJ Try.func82 aM rfl #[.agg #[U Z ai,U Z aj,U Z aC,U Z aD,U Z aJ,U Z aH,U Z aK,.slice dW aT.length dN,.slice dZ ak.length dO],.agg #[U Z aI,U Z aG,U Z bn,U Z bq,U Z bH,U Z bI,U Z bG],.agg #[U Z jP,U Z jH,U Z jk,U Z iR],U Z (wrap64 (a3+(wrap64 (eD*aG)))),.agg #[U Z ((bJ l4 eD).f0),U Z ((bJ l4 eD).f1)]] (by rfl) rfl rfl ji ?_
        with_reducible refine (kV.calls k1 ai aj aC aD aJ aH aK _ _ aT _ _ ak aI aG bn bq bH bI bG jP jH jk iR (wrap64 (a3+(wrap64 (eD*aG)))) ((bJ l4 eD).f0) ((bJ l4 eD).f1) tH vM ze CW Jt _ ?cZ ?df ?eu ?eB A11.out).mono ?_
        (case cZ=>repeat (first|exact (Kd.bB ik.out HB.out)|(with_reducible refine Kd.bC ?_ _)|(with_reducible refine Kd.bD ?_ _)|(with_reducible refine Kd.bN ?_)))
        (case df=>exact iC.out)
        (case eu=>repeat (first|exact (Kd.bB gN.out HB.out)|(with_reducible refine Kd.bC ?_ _)|(with_reducible refine Kd.bD ?_ _)|(with_reducible refine Kd.bN ?_)))
        (case eB=>exact iD.out)
        rintro e w31 ⟨rfl,hb⟩
        refine ⟨_,rfl,?_⟩
        replace pF:=zt pF hb
        replace dR:=aX dR hb
        replace eU:=aX eU hb
        replace kI:=aX kI hb
        replace HB:=cO HB hb
        (try clear hb)
        (try clear hb2)
        (try clear hk)
        (try clear hi)
        refine hK.out _ _ ⟨bE dR 0,bE dR 1,bE dR 2,bE dR 3,bE dR 4,bE dR 5,bE dR 6,bE dR 7,bE dR 8,bE eU 0,bE eU 1,bE eU 2,bE eU 3,bE eU 4,bE eU 5,bE eU 6,Li kI.out ⟨(jJ HB wE),(jJ HB wD)⟩⟩ (fun hHeld=>?_)
        clear hK K
        refine dM att ?_
        refine bV (i:=14) (N:=some 23) (ax bz.out aM) ?_
        refine bV (i:=15) (N:=some 38) (ax bz.out aM) ?_
        refine bV (i:=16) (N:=some 39) (ax bz.out aM) ?_
        refine iO (i:=17) (N:=some 15) #[ab,ab,ab,ab,ab,ab,ab,ab,ab,ab,ab,ab,ab,ab,ab,ab,ab,ab,ac,ac] rfl rfl (eH bz.out aM) (by decide) (fun K hK=>?_)
        refine nV ?hg (N:=15) ?hd (cs:=#[U Z 0,U Z 0,U Z 0,U Z 0]) (t:=31) ?hr ?_;(case hd=>rfl);(case hg=>rfl);(case hr=>first|(go_simp;done)|(go_simp;rfl))
        intro jg hg w32 hbox hb
        have pG:=aa.mk (hbox)
        have BA:=bS HB hg
        have NT:=bS HB hg
        have bM:=eQ dR hg
        have ma:=eT dR hg
        have cK:=eQ eU hg
        have mf:=eT eU hg
        have dQ:=eQ kI hg
        have jv:=eT kI hg
        replace pF:=aa.mk (Kd.mH (Kd.tK ab6 jg (Nat.le_of_eq hg.symm)) hb)
        replace dR:=aX dR hb
        replace eU:=aX eU hb
        replace kI:=aX kI hb
        replace HB:=cO HB hb
        clear hb hbox hg
        refine hK.out _ _ ⟨bE dR 0,bE dR 1,bE dR 2,bE dR 3,bE dR 4,bE dR 5,bE dR 6,bE dR 7,bE dR 8,bE eU 0,bE eU 1,bE eU 2,bE eU 3,bE eU 4,bE eU 5,bE eU 6,Li kI.out ⟨(jJ HB wE),(jJ HB wD)⟩⟩ (fun hHeld=>?_)
        clear hK K
        refine dM atu ?_
        exact dM M9 (hCont (jg) _ ⟨hHeld,ab6,gB,gB,gB,gB,BA.out,NT.out,bM.out,ma.out,cK.out,mf.out,dQ.out,jv.out,gL⟩)
       ·skip
        refine nV ?hg (N:=15) ?hd (cs:=#[U Z 0,U Z 0,U Z 0,U Z 0]) (t:=31) ?hr ?_;(case hd=>rfl);(case hg=>rfl);(case hr=>first|(go_simp;done)|(go_simp;rfl))
        intro jg hg w31 hbox hb
        have pG:=aa.mk (hbox)
        have BA:=bS HB hg
        have NT:=bS HB hg
        have bM:=eQ dR hg
        have ma:=eT dR hg
        have cK:=eQ eU hg
        have mf:=eT eU hg
        have dQ:=eQ kI hg
        have jv:=eT kI hg
        replace pF:=aa.mk (Kd.mH (Kd.tK ab6 jg (Nat.le_of_eq hg.symm)) hb)
        replace dR:=aX dR hb
        replace eU:=aX eU hb
        replace kI:=aX kI hb
        replace HB:=cO HB hb
        clear hb hbox hg
        refine hK.out _ _ ⟨bE dR 0,bE dR 1,bE dR 2,bE dR 3,bE dR 4,bE dR 5,bE dR 6,bE dR 7,bE dR 8,bE eU 0,bE eU 1,bE eU 2,bE eU 3,bE eU 4,bE eU 5,bE eU 6,Li kI.out ⟨(jJ HB wE),(jJ HB wD)⟩⟩ (fun hHeld=>?_)
        clear hK K
        refine dM atu ?_
        refine iO (i:=13) (N:=some 37) #[ab,ab,ab,ab,ab,ab,ab,ab,ab,ab,ab,ab,ab,ab,ac,ac,ac,ab,ac,ac] rfl rfl (eH bz.out aM) (by decide) (fun K hK=>?_)
        refine gJ Try.func82 aM rfl #[.agg #[U Z ai,U Z aj,U Z aC,U Z aD,U Z aJ,U Z aH,U Z aK,.slice dW aT.length dN,.slice dZ ak.length dO],.agg #[U Z aI,U Z aG,U Z bn,U Z bq,U Z bH,U Z bI,U Z bG],.agg #[U Z jP,U Z jH,U Z jk,U Z iR],U Z (wrap64 (a3+(wrap64 (eD*aG)))),.agg #[U Z ((bJ l4 eD).f0),U Z ((bJ l4 eD).f1)]] (by rfl) rfl rfl ji ?_
        with_reducible refine (kV.calls k1 ai aj aC aD aJ aH aK _ _ aT _ _ ak aI aG bn bq bH bI bG jP jH jk iR (wrap64 (a3+(wrap64 (eD*aG)))) ((bJ l4 eD).f0) ((bJ l4 eD).f1) tH vM ze CW Jt _ ?cZ ?df ?eu ?eB A11.out).mono ?_
        (case cZ=>repeat (first|exact (Kd.bB ik.out HB.out)|(with_reducible refine Kd.bC ?_ _)|(with_reducible refine Kd.bD ?_ _)|(with_reducible refine Kd.bN ?_)))
        (case df=>exact iC.out)
        (case eu=>repeat (first|exact (Kd.bB gN.out HB.out)|(with_reducible refine Kd.bC ?_ _)|(with_reducible refine Kd.bD ?_ _)|(with_reducible refine Kd.bN ?_)))
        (case eB=>exact iD.out)
        rintro e w32 ⟨rfl,hb⟩
        refine ⟨_,rfl,?_⟩
        replace pF:=zt pF hb
        replace dR:=aX dR hb
        replace eU:=aX eU hb
        replace kI:=aX kI hb
        replace pG:=aX pG hb
        replace HB:=cO HB hb
        (try clear hb)
        (try clear hb2)
        (try clear hk)
        (try clear hi)
        refine hK.out _ _ ⟨bE dR 0,bE dR 1,bE dR 2,bE dR 3,bE dR 4,bE dR 5,bE dR 6,bE dR 7,bE dR 8,bE eU 0,bE eU 1,bE eU 2,bE eU 3,bE eU 4,bE eU 5,bE eU 6,Li kI.out ⟨(jJ HB wE),(jJ HB wD)⟩⟩ (fun hHeld=>?_)
        clear hK K
        refine dM att ?_
        refine bV (i:=14) (N:=some 23) (ax bz.out aM) ?_
        refine bV (i:=15) (N:=some 38) (ax bz.out aM) ?_
        refine bV (i:=16) (N:=some 39) (ax bz.out aM) ?_
        exact dM M9 (hCont (jg) _ ⟨hHeld,ab6,gB,gB,gB,gB,BA.out,NT.out,bM.out,ma.out,cK.out,mf.out,dQ.out,jv.out,gL⟩)
      rintro jg I5 ⟨hS_,h0_,h1_,h2_,h3_,h4_,h5_,h6_,h7_,h8_,h9_,Jo,Ub,abP,abQ⟩
      have vD:aa (Kd.R k31 31 I5 w.heap.size (fun k_=>k_≠kH∧k_≠jg) u13 iw):=⟨h0_⟩
      have vE:aa (I5.heap[iY]? = some (.cells #[U Z ai,U Z aj,U Z aC,U Z aD,U Z aJ,U Z aH,U Z aK,.slice dW aT.length dN,.slice dZ ak.length dO] 25 (0,0))):=⟨h1_⟩
      have vF:aa (I5.heap[jN]? = some (.cells #[U Z aI,U Z aG,U Z bn,U Z bq,U Z bH,U Z bI,U Z bG] 29 (0,0))):=⟨h2_⟩
      have vG:aa (I5.heap[kH]? = some (.cells #[U Z jP,U Z jH,U Z jk,U Z iR] 31 (0,0))):=⟨h3_⟩
      have vY:aa (I5.heap[jg]? = some (.cells #[U Z 0,U Z 0,U Z 0,U Z 0] 31 (0,0))):=⟨h4_⟩
      have BP:aa (w.heap.size≤jg):=⟨h5_⟩
      have Jc:aa (w.heap.size≤jg):=⟨h6_⟩
      have Ld:aa (iY≠jg):=⟨h7_⟩
      have n8_:aa (jg≠iY):=⟨h8_⟩
      have n9_:aa (jN≠jg):=⟨h9_⟩
      have Jp:aa (jg≠jN):=⟨Jo⟩
      have Uc:aa (kH≠jg):=⟨Ub⟩
      have abR:aa (jg≠kH):=⟨abP⟩
      have abS:aa (Below w.heap.size w I5):=⟨abQ⟩
      clear pF dR eU kI HB
      clear h0_ h1_ h2_ h3_ h4_ h5_ h6_ h7_ h8_ h9_ Jo Ub abP abQ
      have pF:=vD
      have dR:=vE
      have eU:=vF
      have kI:=vG
      have pG:=vY
      have BA:=BP
      have NT:=Jc
      have bM:=Ld
      have ma:=n8_
      have cK:=n9_
      have mf:=Jp
      have dQ:=Uc
      have jv:=abR
      have HB:=abS
      clear vD vE vF vG vY BP Jc Ld n8_ n9_ Jp Uc abR abS
      have hHeld:I5.cell? ⟨iY,0,none⟩ = some (U Z ai)∧I5.cell? ⟨iY,1,none⟩ = some (U Z aj)∧I5.cell? ⟨iY,2,none⟩ = some (U Z aC)∧I5.cell? ⟨iY,3,none⟩ = some (U Z aD)∧I5.cell? ⟨iY,4,none⟩ = some (U Z aJ)∧I5.cell? ⟨iY,5,none⟩ = some (U Z aH)∧I5.cell? ⟨iY,6,none⟩ = some (U Z aK)∧I5.cell? ⟨iY,7,none⟩ = some (.slice dW aT.length dN)∧I5.cell? ⟨iY,8,none⟩ = some (.slice dZ ak.length dO)∧I5.cell? ⟨jN,0,none⟩ = some (U Z aI)∧I5.cell? ⟨jN,1,none⟩ = some (U Z aG)∧I5.cell? ⟨jN,2,none⟩ = some (U Z bn)∧I5.cell? ⟨jN,3,none⟩ = some (U Z bq)∧I5.cell? ⟨jN,4,none⟩ = some (U Z bH)∧I5.cell? ⟨jN,5,none⟩ = some (U Z bI)∧I5.cell? ⟨jN,6,none⟩ = some (U Z bG)∧I5.cell? ⟨kH,0,none⟩ = some (U Z jP)∧I5.cell? ⟨kH,1,none⟩ = some (U Z jH)∧I5.cell? ⟨kH,2,none⟩ = some (U Z jk)∧I5.cell? ⟨kH,3,none⟩ = some (U Z iR)∧I5.cell? (yD.add ((eD).toNat*2)) = some (U Z ((bJ l4 eD).f0))∧I5.cell? ⟨(yD.add ((eD).toNat*2)).block,(yD.add ((eD).toNat*2)).off+1,none⟩ = some (U Z ((bJ l4 eD).f1)):=hS_
      refine dM (a':=?_) ?_ ?_
      rotate_left
      ·simp only [xC,Act.put,List.setIfInBounds_toArray,List.set_cons_zero,List.set_cons_succ]
       rfl
      refine iO (i:=18) (N:=none) #[ab,ab,ab,ab,ab,ab,ab,ab,ab,ab,ab,ab,ab,ab,ab,ab,ab,ab,ab,ac] rfl rfl (eH bz.out aM) (by decide) (fun K hK=>?_)
      have a7e:I5.cell? ⟨jg,0,none⟩ = some (U Z 0):=(ah pG.out 0).trans rfl
      have a3s:=bf pG.out 0
      have aR1:=bM.out
      have aR2:=cK.out
      have aR3:=dQ.out
      have aR4:=ma.out
      have aR5:=mf.out
      have aR6:=jv.out
      have aW8:I5.cell? ⟨jg,1,none⟩ = some (U Z 0):=(ah pG.out 1).trans rfl
      have aDn:=bf pG.out 1
      have ar8:=bM.out
      have ar9:=cK.out
      have asa:=dQ.out
      have asb:=ma.out
      have asc:=mf.out
      have ase:=jv.out
      have aW9:I5.cell? ⟨jg,2,none⟩ = some (U Z 0):=(ah pG.out 2).trans rfl
      have aDo:=bf pG.out 2
      have asf:=bM.out
      have asg:=cK.out
      have ash:=dQ.out
      have asi:=ma.out
      have asj:=mf.out
      have asl:=jv.out
      have aXa:I5.cell? ⟨jg,3,none⟩ = some (U Z 0):=(ah pG.out 3).trans rfl
      have aDp:=bf pG.out 3
      have asn:=bM.out
      have aso:=cK.out
      have asq:=dQ.out
      have asr:=ma.out
      have ass:=mf.out
      have ast:=jv.out
      refine ve (w1:=?_) (by rfl) rfl ?_ ?_
      rotate_left
      ·go_simp
       rfl
      refine hK.out _ _ ⟨(bY bM ((bY bM ((bY bM ((bY bM (hHeld.1)))))))),(bY bM ((bY bM ((bY bM ((bY bM (hHeld.2.1)))))))),(bY bM ((bY bM ((bY bM ((bY bM (hHeld.2.2.1)))))))),(bY bM ((bY bM ((bY bM ((bY bM (hHeld.2.2.2.1)))))))),(bY bM ((bY bM ((bY bM ((bY bM (hHeld.2.2.2.2.1)))))))),(bY bM ((bY bM ((bY bM ((bY bM (hHeld.2.2.2.2.2.1)))))))),(bY bM ((bY bM ((bY bM ((bY bM (hHeld.2.2.2.2.2.2.1)))))))),(bY bM ((bY bM ((bY bM ((bY bM (hHeld.2.2.2.2.2.2.2.1)))))))),(bY bM ((bY bM ((bY bM ((bY bM (hHeld.2.2.2.2.2.2.2.2.1)))))))),(bY cK ((bY cK ((bY cK ((bY cK (hHeld.2.2.2.2.2.2.2.2.2.1)))))))),(bY cK ((bY cK ((bY cK ((bY cK (hHeld.2.2.2.2.2.2.2.2.2.2.1)))))))),(bY cK ((bY cK ((bY cK ((bY cK (hHeld.2.2.2.2.2.2.2.2.2.2.2.1)))))))),(bY cK ((bY cK ((bY cK ((bY cK (hHeld.2.2.2.2.2.2.2.2.2.2.2.2.1)))))))),(bY cK ((bY cK ((bY cK ((bY cK (hHeld.2.2.2.2.2.2.2.2.2.2.2.2.2.1)))))))),(bY cK ((bY cK ((bY cK ((bY cK (hHeld.2.2.2.2.2.2.2.2.2.2.2.2.2.2.1)))))))),(bY cK ((bY cK ((bY cK ((bY cK (hHeld.2.2.2.2.2.2.2.2.2.2.2.2.2.2.2.1)))))))),(bY dQ ((bY dQ ((bY dQ ((bY dQ (hHeld.2.2.2.2.2.2.2.2.2.2.2.2.2.2.2.2.1)))))))),(bY dQ ((bY dQ ((bY dQ ((bY dQ (hHeld.2.2.2.2.2.2.2.2.2.2.2.2.2.2.2.2.2.1)))))))),(bY dQ ((bY dQ ((bY dQ ((bY dQ (hHeld.2.2.2.2.2.2.2.2.2.2.2.2.2.2.2.2.2.2.1)))))))),(bY dQ ((bY dQ ((bY dQ ((bY dQ (hHeld.2.2.2.2.2.2.2.2.2.2.2.2.2.2.2.2.2.2.2.1)))))))),((cell_far (p:=⟨jg,_,none⟩) ab7 _).trans (((cell_far (p:=⟨jg,_,none⟩) ab7 _).trans (((cell_far (p:=⟨jg,_,none⟩) ab7 _).trans (((cell_far (p:=⟨jg,_,none⟩) ab7 _).trans (hHeld.2.2.2.2.2.2.2.2.2.2.2.2.2.2.2.2.2.2.2.2.1)))))))),((cell_far (p:=⟨jg,_,none⟩) ab8 _).trans (((cell_far (p:=⟨jg,_,none⟩) ab8 _).trans (((cell_far (p:=⟨jg,_,none⟩) ab8 _).trans (((cell_far (p:=⟨jg,_,none⟩) ab8 _).trans (hHeld.2.2.2.2.2.2.2.2.2.2.2.2.2.2.2.2.2.2.2.2.2))))))))⟩ (fun hHeld=>?_)
      clear hK K
      refine bV (i:=19) (N:=some 16) (ax bz.out aM) ?_
      refine jS (ja bz.out aM) ?_
      try go_wp2
      go_ret3
      exact ⟨_,lW,anu,gL⟩
    ·rw [if_neg c10] at H
     exact absurd H (by simp)
   ·rw [if_neg c9] at H
    have Mm:decide (eD < (l4.length:Int)) = false:=decide_eq_false c9
    clear c9
    simp only [Option.some.injEq,Prod.mk.injEq] at H
    obtain ⟨rfl,rfl,rfl⟩:=H
    go_wp2
    go_ret3
    exact ⟨_,lW,by (with_reducible repeat (first|apply Kd.mY|apply Kd.mZ|apply Kd.mg));exact Kd.mM pF.out (fun _ hk=>trivial),gL⟩
end Go.Proofs.Ytmhaiihjfgfaoaa.Pr
end
