import Derived.Test.YtmhaiihjfgfaoaaGfGliderFetch3
import Derived.Test.YtmhaiihjfgfaoaaGfGliderFetch20
import Derived.Test.YtmhaiihjfgfaoaaGfGliderFetch19
import Derived.Test.YtmhaiihjfgfaoaaGfGliderFetch21
set_option linter.unusedVariables false
set_option linter.unusedSimpArgs false
open Go.Value renaming int → U
open Go.IntKind renaming i64 → Z
open Bool renaming true → ab, false → ac
section
namespace Go.Proofs.Ytmhaiihjfgfaoaa.Pr
open Go.RowKit Go.Proofs.YtmhaiihjfgfaoaaW.PrintWords Go.Proofs.YtmhaiihjfgfaoaaW.PrintLast Go.Proofs.YtmhaiihjfgfaoaaW.PrintMore
attribute [local go_sem] gp gq iA iB gu
set_option linter.unusedVariables false
set_option linter.unusedSimpArgs false
def bL.l0:Nat→Int→Int→Int→Int→Int→Int→Int→Int→List Bool→List (rq)→Int→Int→Int→Int→Int→Int→Int→Int→Int→Int→Int→Option (Bool)
 |0,_,_,_,_,_,_,_,_,_,_,_,_,_,_,_,_,_,_,_,_,_=>none
 |k+1,x7,Nz,NA,RZ,R4,R5,R6,R7,Kl,R8,Yc,Yd,Ye,Yf,Yg,Yh,Yi,Yj,Yk,Yl,Ym=>if x7 < (wrap64 (Nz*NA)) then (if 0≤x7 then (if x7 < (Kl.length:Int) then (if GG false Kl x7 = true then ((fC.f k Nz NA RZ R4 R5 R6 R7 Kl R8 Yc Yd Ye Yf Yg Yh Yi Yj Yk Yl Ym).bind fun Ey=>((iF.f Nz NA RZ R4 R5 R6 R7 Kl R8 x7).bind fun yB=>((fB.f Ey.1 Ey.2.1 Ey.2.2.1 Ey.2.2.2 yB.1 yB.2.1 yB.2.2.1 yB.2.2.2).bind fun Rf=>(if Rf = true then (some false) else (bL.l0 k (wrap64 (x7+1)) Nz NA RZ R4 R5 R6 R7 Kl R8 Yc Yd Ye Yf Yg Yh Yi Yj Yk Yl Ym))))) else (bL.l0 k (wrap64 (x7+1)) Nz NA RZ R4 R5 R6 R7 Kl R8 Yc Yd Ye Yf Yg Yh Yi Yj Yk Yl Ym)) else (none)) else (none)) else (some true)
def bL.f (k:Nat) (ai:Int) (aj:Int) (aC:Int) (aD:Int) (aJ:Int) (aH:Int) (aK:Int) (aT:List Bool) (ak:List (rq)) (aI:Int) (aG:Int) (bn:Int) (bq:Int) (bH:Int) (bI:Int) (bG:Int) (bZ:Int) (cz:Int) (dw:Int) (dx:Int):Option (Bool):=bL.l0 k 0 ai aj aC aD aJ aH aK aT ak aI aG bn bq bH bI bG bZ cz dw dx
def bL.T4:Bool × List (List Nat × List Nat):=(true,[([],[]),([0],[0]),([],[]),([1,2],[1,2]),([3],[3]),([4],[4]),([5],[5]),([5],[5]),([5],[5]),([6,7,8,5,5],[5,6,7,8]),([5],[5]),([5],[5]),([10,11,9,5],[5,10,11]),([9,12,12,5],[5,9,12]),([5,13],[5,13])])
def bL.B4:List Nat:=[0,1,0,7,15,31,63,63,63,511,63,63,4095,8191,16383]
theorem bL.aj0:qA .any (opsOf Try.f123 4) = bL.T4:=by kernel_rfl
theorem bL.VP:mI bL.T4.2 bL.B4 = true:=by kernel_rfl
set_option maxHeartbeats 8000000 in
set_option maxRecDepth 100000 in
theorem bL.calls (k:Nat) (ai:Int) (aj:Int) (aC:Int) (aD:Int) (aJ:Int) (aH:Int) (aK:Int) (dW:Option Addr) (dN:Nat) (aT:List Bool) (dZ:Option Addr) (dO:Nat) (ak:List (rq)) (aI:Int) (aG:Int) (bn:Int) (bq:Int) (bH:Int) (bI:Int) (bG:Int) (bZ:Int) (cz:Int) (dw:Int) (dx:Int) (r:Bool) (w:World) (jT:Kd.C Kd.bool w dW aT.length aT) (jU:aT.length≤dN) (jV:Kd.C GI w dZ ak.length ak) (jW:ak.length≤dO) (h:bL.f k ai aj aC aD aJ aH aK aT ak aI aG bn bq bH bI bG bZ cz dw dx = some r):
 Calls Try.prog 123 #[.agg #[U Z ai,U Z aj,U Z aC,U Z aD,U Z aJ,U Z aH,U Z aK,.slice dW aT.length dN,.slice dZ ak.length dO],.agg #[U Z aI,U Z aG,U Z bn,U Z bq,U Z bH,U Z bI,U Z bG],.agg #[U Z bZ,U Z cz,U Z dw,U Z dx]] w fun e w'=>e = .returned (.bool r)∧Below w.heap.size w w':=by
 have BV:=Try.underlying25
 have Br:=Try.underlying29
 have rO:=Try.underlying31
 have ik:=aa.mk jT
 have iC:=aa.mk jU
 clear jT jU
 have gN:=aa.mk jV
 have iD:=aa.mk jW
 clear jV jW
 have HB:=aa.mk (Below.refl w.heap.size w)
 have H:(bL.l0 k 0 ai aj aC aD aJ aH aK aT ak aI aG bn bq bH bI bG bZ cz dw dx) = some r:=h
 clear h
 have H':=aa.mk H
 clear H
 go_enter Try.func123,Try.ntmps123
 go_wp2_with (first|((with_reducible refine aA (N:=3) rfl ?_);refine au (by rfl) (N:=3) (by rfl) (cs:=#[U Z ai,U Z aj,U Z aC,U Z aD,U Z aJ,U Z aH,U Z aK,.slice dW aT.length dN,.slice dZ ak.length dO]) (t:=25) fG ?_;intro qo hg w4 hbox hb;have mo:=aa.mk (hbox);have a2Y:=bS HB hg;have a2Z:=bS HB hg;replace HB:=cO HB hb;clear hb hbox hg)|((with_reducible refine aA (N:=4) rfl ?_);refine au (by rfl) (N:=4) (by rfl) (cs:=#[U Z aI,U Z aG,U Z bn,U Z bq,U Z bH,U Z bI,U Z bG]) (t:=29) fG ?_;intro Dz hg w5 hbox hb;have gY:=aa.mk (hbox);have a3a:=bS HB hg;have a3b:=bS HB hg;have Km:=eQ mo hg;have Kn:=eT mo hg;replace mo:=aX mo hb;replace HB:=cO HB hb;clear hb hbox hg)|((with_reducible refine aA (N:=5) rfl ?_);refine au (by rfl) (N:=5) (by rfl) (cs:=#[U Z bZ,U Z cz,U Z dw,U Z dx]) (t:=31) fG ?_;intro NB hg w6 hbox hb;have jX:=aa.mk (hbox);have a3c:=bS HB hg;have a3d:=bS HB hg;have Ko:=eQ mo hg;have Kq:=eT mo hg;have aAT:=eQ gY hg;have aAU:=eT gY hg;replace mo:=aX mo hb;replace gY:=aX gY hb;replace HB:=cO HB hb;clear hb hbox hg))
 go_loopg [7] k (fun kq v7 w'=>∃ (kG:Int),v7 = U Z kG∧aa (bL.l0 kq kG ai aj aC aD aJ aH aK aT ak aI aG bn bq bH bI bG bZ cz dw dx = some r)∧aa (kq≤k)∧aa (w'.heap[qo]? = some (.cells #[U Z ai,U Z aj,U Z aC,U Z aD,U Z aJ,U Z aH,U Z aK,(.slice dW aT.length dN),(.slice dZ ak.length dO)] 25 (0,0)))∧aa (w'.heap[Dz]? = some (.cells #[U Z aI,U Z aG,U Z bn,U Z bq,U Z bH,U Z bI,U Z bG] 29 (0,0)))∧aa (w'.heap[NB]? = some (.cells #[U Z bZ,U Z cz,U Z dw,U Z dx] 31 (0,0)))∧aa (Below w.heap.size w w'))
 case atStart=>exact ⟨(0),nM,H',⟨Nat.le_refl _⟩,⟨gB⟩,⟨gB⟩,⟨gB⟩,⟨gL⟩⟩
 case round =>
  clear H'
  try clear c1
  try clear p2
  obtain ⟨kG,rfl,HA,JP,mo,gY,jX,HB⟩:=hrel
  cases gk with
  |zero=>exact absurd HA.out (by simp [bL.l0])
  |succ k1 =>
   have H:=HA.out
   clear HA
   simp only [bL.l0] at H
   by_cases c7:kG < (wrap64 (ai*aj))
   ·rw [if_pos c7] at H
    have Q7:decide (kG < (wrap64 (ai*aj))) = true:=decide_eq_true c7
    clear c7
    by_cases c8:0≤kG
    ·rw [if_pos c8] at H
     have Lf:decide (0≤kG) = true:=decide_eq_true c8
     clear c8
     by_cases c9:kG < (aT.length:Int)
     ·rw [if_pos c9] at H
      have Mm:decide (kG < (aT.length:Int)) = true:=decide_eq_true c9
      clear c9
      obtain ⟨aDq,ani⟩:∃ b_:Bool,b_ = (GG false aT kG):=⟨_,rfl⟩
      replace H:(if aDq = true then ((fC.f k1 ai aj aC aD aJ aH aK aT ak aI aG bn bq bH bI bG bZ cz dw dx).bind fun Ey=>((iF.f ai aj aC aD aJ aH aK aT ak kG).bind fun yB=>((fB.f Ey.1 Ey.2.1 Ey.2.2.1 Ey.2.2.2 yB.1 yB.2.1 yB.2.2.1 yB.2.2.2).bind fun Rf=>(if Rf = true then (some false) else (bL.l0 k1 (wrap64 (kG+1)) ai aj aC aD aJ aH aK aT ak aI aG bn bq bH bI bG bZ cz dw dx))))) else (bL.l0 k1 (wrap64 (kG+1)) ai aj aC aD aJ aH aK aT ak aI aG bn bq bH bI bG bZ cz dw dx)) = some r:=by rw [← ani] at H;exact H
      have anj:=aa.mk ani
      clear ani
      by_cases c11:aDq = true
      ·subst c11
       have H1:((fC.f k1 ai aj aC aD aJ aH aK aT ak aI aG bn bq bH bI bG bZ cz dw dx).bind fun Ey=>((iF.f ai aj aC aD aJ aH aK aT ak kG).bind fun yB=>((fB.f Ey.1 Ey.2.1 Ey.2.2.1 Ey.2.2.2 yB.1 yB.2.1 yB.2.2.1 yB.2.2.2).bind fun Rf=>(if Rf = true then (some false) else (bL.l0 k1 (wrap64 (kG+1)) ai aj aC aD aJ aH aK aT ak aI aG bn bq bH bI bG bZ cz dw dx))))) = some r:=by rw [if_pos rfl] at H;exact H
       clear H
       have H:=H1
       clear H1
       replace H:=Option.bind_eq_some_iff.mp H
       obtain ⟨⟨abT,abU,abV,abW⟩,NC,H⟩:=H
       replace H:((iF.f ai aj aC aD aJ aH aK aT ak kG).bind fun yB=>((fB.f abT abU abV abW yB.1 yB.2.1 yB.2.2.1 yB.2.2.2).bind fun Rf=>(if Rf = true then (some false) else (bL.l0 k1 (wrap64 (kG+1)) ai aj aC aD aJ aH aK aT ak aI aG bn bq bH bI bG bZ cz dw dx)))) = some r:=H
       have A12:=aa.mk NC
       clear NC
       replace H:=Option.bind_eq_some_iff.mp H
       obtain ⟨⟨aes,aet,aeu,aev⟩,Vh,H⟩:=H
       replace H:((fB.f abT abU abV abW aes aet aeu aev).bind fun Rf=>(if Rf = true then (some false) else (bL.l0 k1 (wrap64 (kG+1)) ai aj aC aD aJ aH aK aT ak aI aG bn bq bH bI bG bZ cz dw dx))) = some r:=H
       have A13:=aa.mk Vh
       clear Vh
       replace H:=Option.bind_eq_some_iff.mp H
       obtain ⟨Rf,Uw,H⟩:=H
       replace H:(if Rf = true then (some false) else (bL.l0 k1 (wrap64 (kG+1)) ai aj aC aD aJ aH aK aT ak aI aG bn bq bH bI bG bZ cz dw dx)) = some r:=H
       have A14:=aa.mk Uw
       clear Uw
       by_cases c15:Rf = true
       ·subst c15
        have H1:(some false) = some r:=by rw [if_pos rfl] at H;exact H
        clear H
        have H:=H1
        clear H1
        obtain rfl:=Option.some.inj H
        have Na:=Km.out
        have Nb:=Kn.out
        have Uj:=Ko.out
        have Uk:=Kq.out
        obtain ⟨Ee,Ef,RD,RF,asu,asv,asw,asx,asy,Eg,Eh,RG,RH,asz,asA,asB,asC,asD⟩:=jA mo.out
        try go_wp2
        replace mo:=aa.mk (ag mo.out)
        replace gY:=aa.mk (ag gY.out)
        replace jX:=aa.mk (ag jX.out)
        replace HB:=aa.mk (bO HB.out)
        have Ux:0≤(kG:Int):=of_decide_eq_true mq
        have Uy:kG < (aT.length:Int):=of_decide_eq_true mq
        obtain ⟨I9,ank,oG⟩:=Kd.Rj ik.out kG Ux Uy
        (try rw [← anj.out] at oG)
        have yC:=oG
        cases ank
        replace oG:=(HB.out.cell (World.block_lt_of_cell? w _ oG)).trans oG
        replace Ux:=eq_true Ux
        replace Uy:=eq_true Uy
        refine iN (n:=15) (S:=fun w'=>w'.cell? ⟨qo,0,none⟩ = some (U Z ai)∧w'.cell? ⟨qo,1,none⟩ = some (U Z aj)∧w'.cell? ⟨qo,2,none⟩ = some (U Z aC)∧w'.cell? ⟨qo,3,none⟩ = some (U Z aD)∧w'.cell? ⟨qo,4,none⟩ = some (U Z aJ)∧w'.cell? ⟨qo,5,none⟩ = some (U Z aH)∧w'.cell? ⟨qo,6,none⟩ = some (U Z aK)∧w'.cell? ⟨qo,7,none⟩ = some (.slice (some I9) aT.length dN)∧w'.cell? ⟨qo,8,none⟩ = some (.slice dZ ak.length dO)∧w'.cell? ⟨Dz,0,none⟩ = some (U Z aI)∧w'.cell? ⟨Dz,1,none⟩ = some (U Z aG)∧w'.cell? ⟨Dz,2,none⟩ = some (U Z bn)∧w'.cell? ⟨Dz,3,none⟩ = some (U Z bq)∧w'.cell? ⟨Dz,4,none⟩ = some (U Z bH)∧w'.cell? ⟨Dz,5,none⟩ = some (U Z bI)∧w'.cell? ⟨Dz,6,none⟩ = some (U Z bG)∧w'.cell? ⟨NB,0,none⟩ = some (U Z bZ)∧w'.cell? ⟨NB,1,none⟩ = some (U Z cz)∧w'.cell? ⟨NB,2,none⟩ = some (U Z dw)∧w'.cell? ⟨NB,3,none⟩ = some (U Z dx)∧w'.cell? (I9.add (kG).toNat) = some (.bool true)) (ds:=[]) #[ac,ac,ac,ac,ac,ac,ac,ac,ac,ac,ac,ac,ac,ac,ac] aM rfl rfl (uw mo.out ⟨bE gY 0,bE gY 1,bE gY 2,bE gY 3,bE gY 4,bE gY 5,bE gY 6,bE jX 0,bE jX 1,bE jX 2,bE jX 3,(jJ HB yC)⟩) (fun hHeld=>?_);refine fU bL.aj0 bL.VP (fun bz jb=>?_)
        generalize wr.drew = w19 at mo gY jX HB oG hHeld ⊢
        refine bV (i:=0) (N:=some 17) (ax bz.out aM) ?_
        refine bV (i:=2) (N:=some 19) (ax bz.out aM) ?_
        refine iL (i:=1) (N:=some 18) (aY bz.out jb.out aM) hHeld ?_
        refine bV (i:=3) (N:=some 20) (ax bz.out aM) ?_
        refine iL (i:=4) (N:=some 21) (aY bz.out jb.out aM) hHeld ?_
        refine bV (i:=5) (N:=some 22) (ax bz.out aM) ?_
        refine bV (i:=11) (N:=some 28) (ax bz.out aM) ?_
        refine iL (i:=6) (N:=some 23) (aY bz.out jb.out aM) hHeld ?_
        refine iL (i:=7) (N:=some 24) (aY bz.out jb.out aM) hHeld ?_
        refine iL (i:=8) (N:=some 25) (aY bz.out jb.out aM) hHeld ?_
        refine iL (i:=10) (N:=some 27) (aY bz.out jb.out aM) hHeld ?_
        refine iO (i:=9) (N:=some 26) #[ab,ab,ab,ab,ab,ab,ab,ab,ab,ab,ab,ab,ac,ac,ac] rfl rfl (eH bz.out aM) (by decide) (fun K hK=>?_)
        refine gJ Try.func133 aM rfl #[.agg #[U Z ai,U Z aj,U Z aC,U Z aD,U Z aJ,U Z aH,U Z aK,.slice (some I9) aT.length dN,.slice dZ ak.length dO],.agg #[U Z aI,U Z aG,U Z bn,U Z bq,U Z bH,U Z bI,U Z bG],.agg #[U Z bZ,U Z cz,U Z dw,U Z dx]] (by rfl) rfl rfl ji ?_
        with_reducible refine (fC.calls k1 ai aj aC aD aJ aH aK _ _ aT _ _ ak aI aG bn bq bH bI bG bZ cz dw dx abT abU abV abW _ ?cZ ?df ?eu ?eB A12.out).mono ?_
        (case cZ=>repeat (first|exact (Kd.bB ik.out HB.out)|(with_reducible refine Kd.bC ?_ _)|(with_reducible refine Kd.bD ?_ _)|(with_reducible refine Kd.bN ?_)))
        (case df=>exact iC.out)
        (case eu=>repeat (first|exact (Kd.bB gN.out HB.out)|(with_reducible refine Kd.bC ?_ _)|(with_reducible refine Kd.bD ?_ _)|(with_reducible refine Kd.bN ?_)))
        (case eB=>exact iD.out)
        rintro e I4 ⟨rfl,hb⟩
        refine ⟨_,rfl,?_⟩
        replace mo:=aX mo hb
        replace gY:=aX gY hb
        replace jX:=aX jX hb
        replace HB:=cO HB hb
        (try clear hb)
        (try clear hb2)
        (try clear hk)
        (try clear hi)
        refine hK.out _ _ (uw mo.out ⟨bE gY 0,bE gY 1,bE gY 2,bE gY 3,bE gY 4,bE gY 5,bE gY 6,bE jX 0,bE jX 1,bE jX 2,bE jX 3,(jJ HB yC)⟩) (fun hHeld=>?_)
        clear hK K
        refine dM aDr ?_
        refine iO (i:=12) (N:=some 29) #[ab,ab,ab,ab,ab,ab,ab,ab,ab,ab,ab,ab,ab,ac,ac] rfl rfl (eH bz.out aM) (by decide) (fun K hK=>?_)
        refine gJ Try.func42 aM rfl #[.agg #[U Z ai,U Z aj,U Z aC,U Z aD,U Z aJ,U Z aH,U Z aK,.slice (some I9) aT.length dN,.slice dZ ak.length dO],U Z kG] (by rfl) rfl rfl ji ?_
        with_reducible refine (iF.calls ai aj aC aD aJ aH aK _ _ aT _ _ ak kG aes aet aeu aev _ ?cZ ?df ?eu ?eB A13.out).mono ?_
        (case cZ=>repeat (first|exact (Kd.bB ik.out HB.out)|(with_reducible refine Kd.bC ?_ _)|(with_reducible refine Kd.bD ?_ _)|(with_reducible refine Kd.bN ?_)))
        (case df=>exact iC.out)
        (case eu=>repeat (first|exact (Kd.bB gN.out HB.out)|(with_reducible refine Kd.bC ?_ _)|(with_reducible refine Kd.bD ?_ _)|(with_reducible refine Kd.bN ?_)))
        (case eB=>exact iD.out)
        rintro e w21 ⟨rfl,hb⟩
        refine ⟨_,rfl,?_⟩
        replace mo:=aX mo hb
        replace gY:=aX gY hb
        replace jX:=aX jX hb
        replace HB:=cO HB hb
        (try clear hb)
        (try clear hb2)
        (try clear hk)
        (try clear hi)
        refine hK.out _ _ (uw mo.out ⟨bE gY 0,bE gY 1,bE gY 2,bE gY 3,bE gY 4,bE gY 5,bE gY 6,bE jX 0,bE jX 1,bE jX 2,bE jX 3,(jJ HB yC)⟩) (fun hHeld=>?_)
        clear hK K
        refine dM al9 ?_
        refine iO (i:=13) (N:=some 30) #[ab,ab,ab,ab,ab,ab,ab,ab,ab,ab,ab,ab,ab,ab,ac] rfl rfl (eH bz.out aM) (by decide) (fun K hK=>?_)
        refine gJ Try.func104 aM rfl #[.agg #[U Z abT,U Z abU,U Z abV,U Z abW],.agg #[U Z aes,U Z aet,U Z aeu,U Z aev]] (by rfl) rfl rfl ji ?_
        with_reducible refine (fB.calls abT abU abV abW aes aet aeu aev true _ A14.out).mono ?_
        rintro e w22 ⟨rfl,hb⟩
        refine ⟨_,rfl,?_⟩
        replace mo:=aX mo hb
        replace gY:=aX gY hb
        replace jX:=aX jX hb
        replace HB:=cO HB hb
        (try clear hb)
        (try clear hb2)
        (try clear hk)
        (try clear hi)
        refine hK.out _ _ (uw mo.out ⟨bE gY 0,bE gY 1,bE gY 2,bE gY 3,bE gY 4,bE gY 5,bE gY 6,bE jX 0,bE jX 1,bE jX 2,bE jX 3,(jJ HB yC)⟩) (fun hHeld=>?_)
        clear hK K
        refine dM aDs ?_
        refine bV (i:=14) (N:=some 31) (ax bz.out aM) ?_
        refine jS (ja bz.out aM) ?_
        try go_wp2
        go_ret
        exact ⟨lW,gL⟩
       ·replace c15:=Bool.eq_false_iff.mpr c15
        subst c15
        have H1:(bL.l0 k1 (wrap64 (kG+1)) ai aj aC aD aJ aH aK aT ak aI aG bn bq bH bI bG bZ cz dw dx) = some r:=by rw [if_neg (show ¬ (false = true) by decide)] at H;exact H
        clear H
        have H:=H1
        clear H1
        have H':=aa.mk H
        clear H
        have Uq:=Km.out
        have Ur:=Kn.out
        have abX:=Ko.out
        have abY:=Kq.out
        obtain ⟨Bc,Bd,Ez,EA,Kr,Kt,Ku,R9,Sa,Be,Bf,EB,EC,Kv,Kw,Ky,Sb,Sc⟩:=jA mo.out
        try go_wp2
        replace mo:=aa.mk (ag mo.out)
        replace gY:=aa.mk (ag gY.out)
        replace jX:=aa.mk (ag jX.out)
        replace HB:=aa.mk (bO HB.out)
        have Ux:0≤(kG:Int):=of_decide_eq_true mq
        have Uy:kG < (aT.length:Int):=of_decide_eq_true mq
        obtain ⟨I9,ank,oG⟩:=Kd.Rj ik.out kG Ux Uy
        (try rw [← anj.out] at oG)
        have yC:=oG
        cases ank
        replace oG:=(HB.out.cell (World.block_lt_of_cell? w _ oG)).trans oG
        replace Ux:=eq_true Ux
        replace Uy:=eq_true Uy
        refine iN (n:=15) (S:=fun w'=>w'.cell? ⟨qo,0,none⟩ = some (U Z ai)∧w'.cell? ⟨qo,1,none⟩ = some (U Z aj)∧w'.cell? ⟨qo,2,none⟩ = some (U Z aC)∧w'.cell? ⟨qo,3,none⟩ = some (U Z aD)∧w'.cell? ⟨qo,4,none⟩ = some (U Z aJ)∧w'.cell? ⟨qo,5,none⟩ = some (U Z aH)∧w'.cell? ⟨qo,6,none⟩ = some (U Z aK)∧w'.cell? ⟨qo,7,none⟩ = some (.slice (some I9) aT.length dN)∧w'.cell? ⟨qo,8,none⟩ = some (.slice dZ ak.length dO)∧w'.cell? ⟨Dz,0,none⟩ = some (U Z aI)∧w'.cell? ⟨Dz,1,none⟩ = some (U Z aG)∧w'.cell? ⟨Dz,2,none⟩ = some (U Z bn)∧w'.cell? ⟨Dz,3,none⟩ = some (U Z bq)∧w'.cell? ⟨Dz,4,none⟩ = some (U Z bH)∧w'.cell? ⟨Dz,5,none⟩ = some (U Z bI)∧w'.cell? ⟨Dz,6,none⟩ = some (U Z bG)∧w'.cell? ⟨NB,0,none⟩ = some (U Z bZ)∧w'.cell? ⟨NB,1,none⟩ = some (U Z cz)∧w'.cell? ⟨NB,2,none⟩ = some (U Z dw)∧w'.cell? ⟨NB,3,none⟩ = some (U Z dx)∧w'.cell? (I9.add (kG).toNat) = some (.bool true)) (ds:=[]) #[ac,ac,ac,ac,ac,ac,ac,ac,ac,ac,ac,ac,ac,ac,ac] aM rfl rfl (uw mo.out ⟨bE gY 0,bE gY 1,bE gY 2,bE gY 3,bE gY 4,bE gY 5,bE gY 6,bE jX 0,bE jX 1,bE jX 2,bE jX 3,(jJ HB yC)⟩) (fun hHeld=>?_);refine fU bL.aj0 bL.VP (fun bz jb=>?_)
        generalize wr.drew = xk at mo gY jX HB oG hHeld ⊢
        refine bV (i:=0) (N:=some 17) (ax bz.out aM) ?_
        refine bV (i:=2) (N:=some 19) (ax bz.out aM) ?_
        refine iL (i:=1) (N:=some 18) (aY bz.out jb.out aM) hHeld ?_
        refine bV (i:=3) (N:=some 20) (ax bz.out aM) ?_
        refine iL (i:=4) (N:=some 21) (aY bz.out jb.out aM) hHeld ?_
        refine bV (i:=5) (N:=some 22) (ax bz.out aM) ?_
        refine bV (i:=11) (N:=some 28) (ax bz.out aM) ?_
        refine iL (i:=6) (N:=some 23) (aY bz.out jb.out aM) hHeld ?_
        refine iL (i:=7) (N:=some 24) (aY bz.out jb.out aM) hHeld ?_
        refine iL (i:=8) (N:=some 25) (aY bz.out jb.out aM) hHeld ?_
        refine iL (i:=10) (N:=some 27) (aY bz.out jb.out aM) hHeld ?_
        refine iO (i:=9) (N:=some 26) #[ab,ab,ab,ab,ab,ab,ab,ab,ab,ab,ab,ab,ac,ac,ac] rfl rfl (eH bz.out aM) (by decide) (fun K hK=>?_)
        refine gJ Try.func133 aM rfl #[.agg #[U Z ai,U Z aj,U Z aC,U Z aD,U Z aJ,U Z aH,U Z aK,.slice (some I9) aT.length dN,.slice dZ ak.length dO],.agg #[U Z aI,U Z aG,U Z bn,U Z bq,U Z bH,U Z bI,U Z bG],.agg #[U Z bZ,U Z cz,U Z dw,U Z dx]] (by rfl) rfl rfl ji ?_
        with_reducible refine (fC.calls k1 ai aj aC aD aJ aH aK _ _ aT _ _ ak aI aG bn bq bH bI bG bZ cz dw dx abT abU abV abW _ ?cZ ?df ?eu ?eB A12.out).mono ?_
        (case cZ=>repeat (first|exact (Kd.bB ik.out HB.out)|(with_reducible refine Kd.bC ?_ _)|(with_reducible refine Kd.bD ?_ _)|(with_reducible refine Kd.bN ?_)))
        (case df=>exact iC.out)
        (case eu=>repeat (first|exact (Kd.bB gN.out HB.out)|(with_reducible refine Kd.bC ?_ _)|(with_reducible refine Kd.bD ?_ _)|(with_reducible refine Kd.bN ?_)))
        (case eB=>exact iD.out)
        rintro e w27 ⟨rfl,hb⟩
        refine ⟨_,rfl,?_⟩
        replace mo:=aX mo hb
        replace gY:=aX gY hb
        replace jX:=aX jX hb
        replace HB:=cO HB hb
        (try clear hb)
        (try clear hb2)
        (try clear hk)
        (try clear hi)
        refine hK.out _ _ (uw mo.out ⟨bE gY 0,bE gY 1,bE gY 2,bE gY 3,bE gY 4,bE gY 5,bE gY 6,bE jX 0,bE jX 1,bE jX 2,bE jX 3,(jJ HB yC)⟩) (fun hHeld=>?_)
        clear hK K
        refine dM aDr ?_
        refine iO (i:=12) (N:=some 29) #[ab,ab,ab,ab,ab,ab,ab,ab,ab,ab,ab,ab,ab,ac,ac] rfl rfl (eH bz.out aM) (by decide) (fun K hK=>?_)
        refine gJ Try.func42 aM rfl #[.agg #[U Z ai,U Z aj,U Z aC,U Z aD,U Z aJ,U Z aH,U Z aK,.slice (some I9) aT.length dN,.slice dZ ak.length dO],U Z kG] (by rfl) rfl rfl ji ?_
        with_reducible refine (iF.calls ai aj aC aD aJ aH aK _ _ aT _ _ ak kG aes aet aeu aev _ ?cZ ?df ?eu ?eB A13.out).mono ?_
        (case cZ=>repeat (first|exact (Kd.bB ik.out HB.out)|(with_reducible refine Kd.bC ?_ _)|(with_reducible refine Kd.bD ?_ _)|(with_reducible refine Kd.bN ?_)))
        (case df=>exact iC.out)
        (case eu=>repeat (first|exact (Kd.bB gN.out HB.out)|(with_reducible refine Kd.bC ?_ _)|(with_reducible refine Kd.bD ?_ _)|(with_reducible refine Kd.bN ?_)))
        (case eB=>exact iD.out)
        rintro e w28 ⟨rfl,hb⟩
        refine ⟨_,rfl,?_⟩
        replace mo:=aX mo hb
        replace gY:=aX gY hb
        replace jX:=aX jX hb
        replace HB:=cO HB hb
        (try clear hb)
        (try clear hb2)
        (try clear hk)
        (try clear hi)
        refine hK.out _ _ (uw mo.out ⟨bE gY 0,bE gY 1,bE gY 2,bE gY 3,bE gY 4,bE gY 5,bE gY 6,bE jX 0,bE jX 1,bE jX 2,bE jX 3,(jJ HB yC)⟩) (fun hHeld=>?_)
        clear hK K
        refine dM al9 ?_
        refine iO (i:=13) (N:=some 30) #[ab,ab,ab,ab,ab,ab,ab,ab,ab,ab,ab,ab,ab,ab,ac] rfl rfl (eH bz.out aM) (by decide) (fun K hK=>?_)
        refine gJ Try.func104 aM rfl #[.agg #[U Z abT,U Z abU,U Z abV,U Z abW],.agg #[U Z aes,U Z aet,U Z aeu,U Z aev]] (by rfl) rfl rfl ji ?_
        with_reducible refine (fB.calls abT abU abV abW aes aet aeu aev false _ A14.out).mono ?_
        rintro e w29 ⟨rfl,hb⟩
        refine ⟨_,rfl,?_⟩
        replace mo:=aX mo hb
        replace gY:=aX gY hb
        replace jX:=aX jX hb
        replace HB:=cO HB hb
        (try clear hb)
        (try clear hb2)
        (try clear hk)
        (try clear hi)
        refine hK.out _ _ (uw mo.out ⟨bE gY 0,bE gY 1,bE gY 2,bE gY 3,bE gY 4,bE gY 5,bE gY 6,bE jX 0,bE jX 1,bE jX 2,bE jX 3,(jJ HB yC)⟩) (fun hHeld=>?_)
        clear hK K
        refine dM aDs ?_
        refine bV (i:=14) (N:=some 31) (ax bz.out aM) ?_
        refine jS (ja bz.out aM) ?_
        try go_wp2
        go_roundg k1
        case measure=>have:=JP.out;omega
        case rel=>exact ⟨(wrap64 (kG+1)),nM,H',⟨Mi⟩,⟨gB⟩,⟨gB⟩,⟨gB⟩,⟨gL⟩⟩
      ·replace c11:=Bool.eq_false_iff.mpr c11
       subst c11
       have H1:(bL.l0 k1 (wrap64 (kG+1)) ai aj aC aD aJ aH aK aT ak aI aG bn bq bH bI bG bZ cz dw dx) = some r:=by rw [if_neg (show ¬ (false = true) by decide)] at H;exact H
       clear H
       have H:=H1
       clear H1
       have H':=aa.mk H
       clear H
       have abZ:=Km.out
       have ab0:=Kn.out
       have aw2:=Ko.out
       have aw3:=Kq.out
       obtain ⟨Yn,Yo,Yp,Yq,agy,agz,agA,aRc,aRd,Yr,Yt,Yu,Yv,agB,agC,agD,aRe,aRf⟩:=jA mo.out
       try go_wp2
       replace mo:=aa.mk (ag mo.out)
       replace gY:=aa.mk (ag gY.out)
       replace jX:=aa.mk (ag jX.out)
       replace HB:=aa.mk (bO HB.out)
       have Ux:0≤(kG:Int):=of_decide_eq_true mq
       have Uy:kG < (aT.length:Int):=of_decide_eq_true mq
       obtain ⟨I9,ank,oG⟩:=Kd.Rj ik.out kG Ux Uy
       (try rw [← anj.out] at oG)
       have yC:=oG
       cases ank
       replace oG:=(HB.out.cell (World.block_lt_of_cell? w _ oG)).trans oG
       replace Ux:=eq_true Ux
       replace Uy:=eq_true Uy
       refine iN (n:=15) (S:=fun w'=>w'.cell? ⟨qo,0,none⟩ = some (U Z ai)∧w'.cell? ⟨qo,1,none⟩ = some (U Z aj)∧w'.cell? ⟨qo,2,none⟩ = some (U Z aC)∧w'.cell? ⟨qo,3,none⟩ = some (U Z aD)∧w'.cell? ⟨qo,4,none⟩ = some (U Z aJ)∧w'.cell? ⟨qo,5,none⟩ = some (U Z aH)∧w'.cell? ⟨qo,6,none⟩ = some (U Z aK)∧w'.cell? ⟨qo,7,none⟩ = some (.slice (some I9) aT.length dN)∧w'.cell? ⟨qo,8,none⟩ = some (.slice dZ ak.length dO)∧w'.cell? (I9.add (kG).toNat) = some (.bool false)) (ds:=[]) #[ac,ac,ac,ac,ac,ac,ac,ac,ac,ac,ac,ac,ac,ac,ac] aM rfl rfl (uw mo.out (jJ HB yC)) (fun hHeld=>?_);refine fU bL.aj0 bL.VP (fun bz jb=>?_)
       generalize wr.drew = I5 at mo gY jX HB oG hHeld ⊢
       refine bV (i:=0) (N:=some 17) (ax bz.out aM) ?_
       refine bV (i:=2) (N:=some 19) (ax bz.out aM) ?_
       refine iL (i:=1) (N:=some 18) (aY bz.out jb.out aM) hHeld ?_
       refine bV (i:=3) (N:=some 20) (ax bz.out aM) ?_
       refine iL (i:=4) (N:=some 21) (aY bz.out jb.out aM) hHeld ?_
       refine bV (i:=5) (N:=some 22) (ax bz.out aM) ?_
       refine qa (i:=6) (N:=some 23) (v:=undef) (a':=?_) #[ab,ab,ab,ab,ab,ab,ab,ac,ac,ac,ac,ac,ac,ac,ac] rfl rfl (ax bz.out aM) (fun _ _ _ h=>h) (Or.inr ⟨by rfl,rfl⟩) ?_ ?_
       rotate_left
       ·simp only [Act.put,List.setIfInBounds_toArray,List.set_cons_zero,List.set_cons_succ,ib,ig]
        rfl
       refine qa (i:=7) (N:=some 24) (v:=undef) (a':=?_) #[ab,ab,ab,ab,ab,ab,ab,ab,ac,ac,ac,ac,ac,ac,ac] rfl rfl (ax bz.out aM) (fun _ _ _ h=>h) (Or.inr ⟨by rfl,rfl⟩) ?_ ?_
       rotate_left
       ·simp only [Act.put,List.setIfInBounds_toArray,List.set_cons_zero,List.set_cons_succ,ib,ig]
        rfl
       refine qa (i:=8) (N:=some 25) (v:=undef) (a':=?_) #[ab,ab,ab,ab,ab,ab,ab,ab,ab,ac,ac,ac,ac,ac,ac] rfl rfl (ax bz.out aM) (fun _ _ _ h=>h) (Or.inr ⟨by rfl,rfl⟩) ?_ ?_
       rotate_left
       ·simp only [Act.put,List.setIfInBounds_toArray,List.set_cons_zero,List.set_cons_succ,ib,ig]
        rfl
       refine qa (i:=9) (N:=some 26) (v:=undef) (a':=?_) #[ab,ab,ab,ab,ab,ab,ab,ab,ab,ab,ac,ac,ac,ac,ac] rfl rfl (ax bz.out aM) (fun _ _ _ h=>h) (Or.inr ⟨by rfl,rfl⟩) ?_ ?_
       rotate_left
       ·simp only [Act.put,List.setIfInBounds_toArray,List.set_cons_zero,List.set_cons_succ,ib,ig]
        rfl
       refine qa (i:=10) (N:=some 27) (v:=undef) (a':=?_) #[ab,ab,ab,ab,ab,ab,ab,ab,ab,ab,ab,ac,ac,ac,ac] rfl rfl (ax bz.out aM) (fun _ _ _ h=>h) (Or.inr ⟨by rfl,rfl⟩) ?_ ?_
       rotate_left
       ·simp only [Act.put,List.setIfInBounds_toArray,List.set_cons_zero,List.set_cons_succ,ib,ig]
        rfl
       refine qa (i:=11) (N:=some 28) (v:=undef) (a':=?_) #[ab,ab,ab,ab,ab,ab,ab,ab,ab,ab,ab,ab,ac,ac,ac] rfl rfl (ax bz.out aM) (fun _ _ _ h=>h) (Or.inr ⟨by rfl,rfl⟩) ?_ ?_
       rotate_left
       ·simp only [Act.put,List.setIfInBounds_toArray,List.set_cons_zero,List.set_cons_succ,ib,ig]
        rfl
       refine qa (i:=12) (N:=some 29) (v:=undef) (a':=?_) #[ab,ab,ab,ab,ab,ab,ab,ab,ab,ab,ab,ab,ab,ac,ac] rfl rfl (ax bz.out aM) (fun _ _ _ h=>h) (Or.inr ⟨by rfl,rfl⟩) ?_ ?_
       rotate_left
       ·simp only [Act.put,List.setIfInBounds_toArray,List.set_cons_zero,List.set_cons_succ,ib,ig]
        rfl
       refine qa (i:=13) (N:=some 30) (v:=undef) (a':=?_) #[ab,ab,ab,ab,ab,ab,ab,ab,ab,ab,ab,ab,ab,ab,ac] rfl rfl (ax bz.out aM) (fun _ _ _ h=>h) (Or.inr ⟨by rfl,rfl⟩) ?_ ?_
       rotate_left
       ·simp only [Act.put,List.setIfInBounds_toArray,List.set_cons_zero,List.set_cons_succ,ib,ig]
        rfl
       refine bV (i:=14) (N:=some 31) (ax bz.out aM) ?_
       refine jS (ja bz.out aM) ?_
       try go_wp2
       go_roundg k1
       case measure=>have:=JP.out;omega
       case rel=>exact ⟨(wrap64 (kG+1)),nM,H',⟨Mi⟩,⟨gB⟩,⟨gB⟩,⟨gB⟩,⟨gL⟩⟩
     ·rw [if_neg c9] at H
      exact absurd H (by simp)
    ·rw [if_neg c8] at H
     exact absurd H (by simp)
   ·rw [if_neg c7] at H
    have Q7:decide (kG < (wrap64 (ai*aj))) = false:=decide_eq_false c7
    clear c7
    obtain rfl:=Option.some.inj H
    have aDt:=Km.out
    have aDu:=Kn.out
    have anl:=Ko.out
    have anm:=Kq.out
    obtain ⟨ND,NF,Sd,Sg,agE,agF,agG,aRg,aRh,NG,NH,Si,Sj,agH,agI,agJ,aRi,aRj⟩:=jA mo.out
    go_wp2
    go_ret
    exact ⟨lW,gL⟩
end Go.Proofs.Ytmhaiihjfgfaoaa.Pr
end
