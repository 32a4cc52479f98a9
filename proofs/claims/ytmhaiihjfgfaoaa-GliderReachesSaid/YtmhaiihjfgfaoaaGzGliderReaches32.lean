import Derived.Test.YtmhaiihjfgfaoaaGzGliderReaches3
import Derived.Test.YtmhaiihjfgfaoaaGzGliderReaches13
import Derived.Test.YtmhaiihjfgfaoaaGzGliderReaches14
import Derived.Test.YtmhaiihjfgfaoaaGzGliderReaches23
import Derived.Test.YtmhaiihjfgfaoaaGzGliderReaches24
import Derived.Test.YtmhaiihjfgfaoaaGzGliderReaches26
import Derived.Test.YtmhaiihjfgfaoaaGzGliderReaches31
set_option linter.unusedSimpArgs false
open Go.Value renaming int → U
open Go.IntKind renaming i64 → Z
open Bool renaming true → ab, false → ac
section
namespace Go.Proofs.Ytmhaiihjfgfaoaa.Pr
open Go.RowKit Go.Proofs.YtmhaiihjfgfaoaaW.PrintWords Go.Proofs.YtmhaiihjfgfaoaaW.PrintLast Go.Proofs.YtmhaiihjfgfaoaaW.PrintMore
attribute [local go_sem] eD eF fD fE eG
set_option linter.unusedVariables false
set_option linter.unusedSimpArgs false
def aD.j0:Nat→Int→Int→List (dO)→Bool→Int→Int→Int→Int→Int→Int→Int→List Bool→List (oV)→Int→Int→Int→Int→Int→Int→Int→Int→Int→Int→Int→Int→Int→Int→Int→Int→Int→Option (Bool)
 |0,_,_,_,_,_,_,_,_,_,_,_,_,_,_,_,_,_,_,_,_,_,_,_,_,_,_,_,_,_,_=>none
 |k+1,x3,x4,x5,x47,JH,JI,JJ,JK,JL,JM,JN,JO,JP,JQ,JR,JS,JU,JV,JW,JX,JY,JZ,J2,J3,aeA,aeB,aeC,aeD,aeE,aeF=>if x47 = true then ((bG.f k).bind fun agu=>(some agu)) else ((rU.f JH JI JJ JK JL JM JN JO JP JQ JR JS JU JV JW JX JY JZ J2 J3 x3 x4).bind fun Y7=>((dE.f k JH JI JJ JK JL JM JN JO JP JQ JR JS JU JV JW JX JY JZ J2 J3 x3 x4).bind fun Pw=>((oL.f JH JI JJ JK JL JM JN JO JP JQ JR JS JU JV JW JX JY JZ J2 J3 x3 aeA aeB aeC aeD aeE aeF x4).bind fun Iq=>((aW.f k JH JI JJ JK JL JM JN JO JP JQ JR JS JU JV JW JX JY JZ J2 J3 x3 aeA aeB aeC aeD aeE aeF x4).bind fun Dt=>((bH.f k Y7.1 Pw.1).bind fun Ng=>(if Ng = true then (if Y7.2 = Pw.2 then ((bH.f k Iq.1 Dt.1).bind fun G8=>(if G8 = true then (if Iq.2 = Dt.2 then ((fQ.f JH JI JJ JK JL JM JN JO JP JQ JR JS JU JV JW JX JY JZ J2 J3 x3 x5).bind fun wF=>((aA.f k JH JI JJ JK JL JM JN JO JP JQ JR JS JU JV JW JX JY JZ J2 J3 x3 x5).bind fun wy=>(if wF = wy then ((bG.f k).bind fun zN=>(some zN)) else (some false)))) else (some false)) else (some false))) else (some false)) else (some false)))))))
def aD.f (k:Nat) (ah:Int) (ai:Int) (ax:Int) (ay:Int) (aK:Int) (aH:Int) (aJ:Int) (aR:List Bool) (aC:List (oV)) (aQ:Int) (aM:Int) (bf:Int) (bg:Int) (bD:Int) (bE:Int) (bF:Int) (bJ:Int) (bK:Int) (bM:Int) (bN:Int) (a3:Int) (a4:Int) (l5:List (dO)) (mH:Int) (mI:Int) (mJ:Int) (mK:Int) (mM:Int) (mO:Int):Option (Bool):=(fG.f ah ai ax ay aK aH aJ aR aC).bind fun agv=>(if agv = true then (aD.j0 k a3 a4 l5 true ah ai ax ay aK aH aJ aR aC aQ aM bf bg bD bE bF bJ bK bM bN mH mI mJ mK mM mO) else (if a4 > 8 then (if a4≤64 then (aD.j0 k a3 a4 l5 true ah ai ax ay aK aH aJ aR aC aQ aM bf bg bD bE bF bJ bK bM bN mH mI mJ mK mM mO) else (if (l5.length:Int) > 8 then (if (l5.length:Int)≤64 then (aD.j0 k a3 a4 l5 true ah ai ax ay aK aH aJ aR aC aQ aM bf bg bD bE bF bJ bK bM bN mH mI mJ mK mM mO) else (aD.j0 k a3 a4 l5 (decide ((l5.length:Int) > 70)) ah ai ax ay aK aH aJ aR aC aQ aM bf bg bD bE bF bJ bK bM bN mH mI mJ mK mM mO)) else (aD.j0 k a3 a4 l5 (decide ((l5.length:Int) > 70)) ah ai ax ay aK aH aJ aR aC aQ aM bf bg bD bE bF bJ bK bM bN mH mI mJ mK mM mO))) else (if (l5.length:Int) > 8 then (if (l5.length:Int)≤64 then (aD.j0 k a3 a4 l5 true ah ai ax ay aK aH aJ aR aC aQ aM bf bg bD bE bF bJ bK bM bN mH mI mJ mK mM mO) else (aD.j0 k a3 a4 l5 (decide ((l5.length:Int) > 70)) ah ai ax ay aK aH aJ aR aC aQ aM bf bg bD bE bF bJ bK bM bN mH mI mJ mK mM mO)) else (aD.j0 k a3 a4 l5 (decide ((l5.length:Int) > 70)) ah ai ax ay aK aH aJ aR aC aQ aM bf bg bD bE bF bJ bK bM bN mH mI mJ mK mM mO))))
def aD.T7:Bool × List (List Nat × List Nat):=(true,[([],[]),([],[]),([0,1],[0,1]),([2,2],[2]),([3],[3]),([3],[3]),([4,5,3],[3,4,5]),([3,6],[3,6]),([7,3],[7]),([8],[8]),([8],[8]),([9,10,8,8],[8,9,10]),([8,11],[8,11]),([12,11],[12]),([13],[13]),([13],[13]),([14,15,13],[13,14,15]),([13,16],[13,16]),([17,13],[17]),([18],[18]),([18],[18]),([18],[18]),([18],[18]),([18],[18]),([19,20,21,22,23,18,18],[18,19,20,21,22,23]),([18],[18]),([18],[18]),([18],[18]),([18],[18]),([18],[18]),([25,26,27,28,29,24,18],[18,25,26,27,28,29]),([24,30,18],[18,24,30]),([18,31],[18,31]),([32,30],[32]),([33,33],[33]),([33,34],[33,34]),([35,34,0,1,2,3,4,5,6,7,8,9,10,11,12,13,14,15,16,17,18,19,20,21,22,23,24,25,26,27,28,29,30,31,32,33,34,35],[35])])
def aD.B7:List Nat:=[0,0,3,7,15,15,63,127,255,511,511,2047,4095,8191,16383,16383,65535,131071,262143,524287,524287,524287,524287,524287,16777215,524287,524287,524287,524287,524287,1073741823,2147483647,4294967295,8589934591,17179869183,34359738367,68719476735]
theorem aD.aPG:qX .any (opsOf Try.f13 7) = aD.T7:=by kernel_rfl
theorem aD.aEK:ou aD.T7.2 aD.B7 = true:=by kernel_rfl
set_option maxHeartbeats 8000000 in
set_option maxRecDepth 100000 in
theorem aD.calls (k:Nat) (ah:Int) (ai:Int) (ax:Int) (ay:Int) (aK:Int) (aH:Int) (aJ:Int) (dG:Option Addr) (dH:Nat) (aR:List Bool) (dJ:Option Addr) (dI:Nat) (aC:List (oV)) (aQ:Int) (aM:Int) (bf:Int) (bg:Int) (bD:Int) (bE:Int) (bF:Int) (bJ:Int) (bK:Int) (bM:Int) (bN:Int) (a3:Int) (a4:Int) (A5:Option Addr) (c5:Nat) (l5:List (dO)) (mH:Int) (mI:Int) (mJ:Int) (mK:Int) (mM:Int) (mO:Int) (r:Bool) (w:World) (iU:Kd.C Kd.bool w dG aR.length aR) (iV:aR.length≤dH) (iW:Kd.C DD w dJ aC.length aC) (iX:aC.length≤dI) (hr5:Kd.C Iy w A5 l5.length l5) (hc5:l5.length≤c5) (h:aD.f k ah ai ax ay aK aH aJ aR aC aQ aM bf bg bD bE bF bJ bK bM bN a3 a4 l5 mH mI mJ mK mM mO = some r) (hr_:aa (r = true)):
 Calls Try.prog 13 #[.agg #[U Z ah,U Z ai,U Z ax,U Z ay,U Z aK,U Z aH,U Z aJ,.slice dG aR.length dH,.slice dJ aC.length dI],.agg #[U Z aQ,U Z aM,U Z bf,U Z bg,U Z bD,U Z bE,U Z bF],.agg #[U Z bJ,U Z bK,U Z bM,U Z bN],U Z a3,U Z a4,.slice A5 l5.length c5,.agg #[U Z mH,U Z mI,U Z mJ,U Z mK,U Z mM,U Z mO]] w fun e w'=>e = .returned (.bool r)∧Below w.heap.size w w':=by
 have zR:=Try.underlying25
 have Cb:=Try.underlying29
 have oP:=Try.underlying31
 have aiS:=Try.underlying81
 have gq:=aa.mk iU
 have gu:=aa.mk iV
 clear iU iV
 have fH:=aa.mk iW
 have gz:=aa.mk iX
 clear iW iX
 have HR5:=aa.mk hr5
 have HC5:=aa.mk hc5
 clear hr5 hc5
 have HB:=aa.mk (Below.refl w.heap.size w)
 have H:((fG.f ah ai ax ay aK aH aJ aR aC).bind fun agv=>(if agv = true then (aD.j0 k a3 a4 l5 true ah ai ax ay aK aH aJ aR aC aQ aM bf bg bD bE bF bJ bK bM bN mH mI mJ mK mM mO) else (if a4 > 8 then (if a4≤64 then (aD.j0 k a3 a4 l5 true ah ai ax ay aK aH aJ aR aC aQ aM bf bg bD bE bF bJ bK bM bN mH mI mJ mK mM mO) else (if (l5.length:Int) > 8 then (if (l5.length:Int)≤64 then (aD.j0 k a3 a4 l5 true ah ai ax ay aK aH aJ aR aC aQ aM bf bg bD bE bF bJ bK bM bN mH mI mJ mK mM mO) else (aD.j0 k a3 a4 l5 (decide ((l5.length:Int) > 70)) ah ai ax ay aK aH aJ aR aC aQ aM bf bg bD bE bF bJ bK bM bN mH mI mJ mK mM mO)) else (aD.j0 k a3 a4 l5 (decide ((l5.length:Int) > 70)) ah ai ax ay aK aH aJ aR aC aQ aM bf bg bD bE bF bJ bK bM bN mH mI mJ mK mM mO))) else (if (l5.length:Int) > 8 then (if (l5.length:Int)≤64 then (aD.j0 k a3 a4 l5 true ah ai ax ay aK aH aJ aR aC aQ aM bf bg bD bE bF bJ bK bM bN mH mI mJ mK mM mO) else (aD.j0 k a3 a4 l5 (decide ((l5.length:Int) > 70)) ah ai ax ay aK aH aJ aR aC aQ aM bf bg bD bE bF bJ bK bM bN mH mI mJ mK mM mO)) else (aD.j0 k a3 a4 l5 (decide ((l5.length:Int) > 70)) ah ai ax ay aK aH aJ aR aC aQ aM bf bg bD bE bF bJ bK bM bN mH mI mJ mK mM mO))))) = some r:=h
 clear h
 have HC8:=aa.mk H
 clear H
 go_enter Try.func13,Try.ntmps13
 go_upto_region 1 with (first|((with_reducible refine aG (N:=7) rfl ?_);(try (refine qU (by rfl) ?_;dsimp only));refine az (by rfl) (N:=7) (by rfl) (cs:=#[U Z ah,U Z ai,U Z ax,U Z ay,U Z aK,U Z aH,U Z aJ,.slice dG aR.length dH,.slice dJ aC.length dI]) (t:=25) fM ?_;intro Ko hg w9 hbox hb;have gH:=aa.mk (hbox);have aSM:=dn HB hg;have aSN:=dn HB hg;replace HB:=dw HB hb;clear hb hbox hg)|((with_reducible refine aG (N:=8) rfl ?_);(try (refine qU (by rfl) ?_;dsimp only));refine az (by rfl) (N:=8) (by rfl) (cs:=#[U Z aQ,U Z aM,U Z bf,U Z bg,U Z bD,U Z bE,U Z bF]) (t:=29) fM ?_;intro Px hg w10 hbox hb;have iN:=aa.mk (hbox);have aSO:=dn HB hg;have aSP:=dn HB hg;have rV:=iq gH hg;have rW:=iw gH hg;replace gH:=bC gH hb;replace HB:=dw HB hb;clear hb hbox hg)|((with_reducible refine aG (N:=9) rfl ?_);(try (refine qU (by rfl) ?_;dsimp only));refine az (by rfl) (N:=9) (by rfl) (cs:=#[U Z bJ,U Z bK,U Z bM,U Z bN]) (t:=31) fM ?_;intro Nh hg w11 hbox hb;have jd:=aa.mk (hbox);have aSQ:=dn HB hg;have aSR:=dn HB hg;have rX:=iq gH hg;have rY:=iw gH hg;have agw:=iq iN hg;have agx:=iw iN hg;replace gH:=bC gH hb;replace iN:=bC iN hb;replace HB:=dw HB hb;clear hb hbox hg)|((with_reducible refine aG (N:=13) rfl ?_);(try (refine qU (by rfl) ?_;dsimp only));refine az (by rfl) (N:=13) (by rfl) (cs:=#[U Z mH,U Z mI,U Z mJ,U Z mK,U Z mM,U Z mO]) (t:=81) fM ?_;intro aEL hg Nv hbox hb;have lg:=aa.mk (hbox);have aSS:=dn HB hg;have aST:=dn HB hg;have rZ:=iq gH hg;have si:=iw gH hg;have agy:=iq iN hg;have agz:=iw iN hg;have agA:=iq jd hg;have agB:=iw jd hg;replace gH:=bC gH hb;replace iN:=bC iN hb;replace jd:=bC jd hb;replace HB:=dw HB hb;clear hb hbox hg))
 (try simp only [Act.put,List.setIfInBounds_toArray,List.set_cons_zero,List.set_cons_succ])
 go_cut [47] (fun v47 wc=>∃ (kq:Nat) (aeG:Bool),v47 = .bool aeG∧aa (aD.j0 kq a3 a4 l5 aeG ah ai ax ay aK aH aJ aR aC aQ aM bf bg bD bE bF bJ bK bM bN mH mI mJ mK mM mO = some r)∧aa (kq≤k)∧aa (wc.heap[Ko]? = some (.cells #[U Z ah,U Z ai,U Z ax,U Z ay,U Z aK,U Z aH,U Z aJ,(.slice dG aR.length dH),(.slice dJ aC.length dI)] 25 (0,0)))∧aa (wc.heap[Px]? = some (.cells #[U Z aQ,U Z aM,U Z bf,U Z bg,U Z bD,U Z bE,U Z bF] 29 (0,0)))∧aa (wc.heap[Nh]? = some (.cells #[U Z bJ,U Z bK,U Z bM,U Z bN] 31 (0,0)))∧aa (wc.heap[aEL]? = some (.cells #[U Z mH,U Z mI,U Z mJ,U Z mK,U Z mM,U Z mO] 81 (0,0)))∧aa (Below w.heap.size w wc))
 case first =>
  have H:=HC8.out
  clear HC8
  replace H:=Option.bind_eq_some_iff.mp H
  obtain ⟨agv,aiK,H⟩:=H
  replace H:(if agv = true then (aD.j0 k a3 a4 l5 true ah ai ax ay aK aH aJ aR aC aQ aM bf bg bD bE bF bJ bK bM bN mH mI mJ mK mM mO) else (if a4 > 8 then (if a4≤64 then (aD.j0 k a3 a4 l5 true ah ai ax ay aK aH aJ aR aC aQ aM bf bg bD bE bF bJ bK bM bN mH mI mJ mK mM mO) else (if (l5.length:Int) > 8 then (if (l5.length:Int)≤64 then (aD.j0 k a3 a4 l5 true ah ai ax ay aK aH aJ aR aC aQ aM bf bg bD bE bF bJ bK bM bN mH mI mJ mK mM mO) else (aD.j0 k a3 a4 l5 (decide ((l5.length:Int) > 70)) ah ai ax ay aK aH aJ aR aC aQ aM bf bg bD bE bF bJ bK bM bN mH mI mJ mK mM mO)) else (aD.j0 k a3 a4 l5 (decide ((l5.length:Int) > 70)) ah ai ax ay aK aH aJ aR aC aQ aM bf bg bD bE bF bJ bK bM bN mH mI mJ mK mM mO))) else (if (l5.length:Int) > 8 then (if (l5.length:Int)≤64 then (aD.j0 k a3 a4 l5 true ah ai ax ay aK aH aJ aR aC aQ aM bf bg bD bE bF bJ bK bM bN mH mI mJ mK mM mO) else (aD.j0 k a3 a4 l5 (decide ((l5.length:Int) > 70)) ah ai ax ay aK aH aJ aR aC aQ aM bf bg bD bE bF bJ bK bM bN mH mI mJ mK mM mO)) else (aD.j0 k a3 a4 l5 (decide ((l5.length:Int) > 70)) ah ai ax ay aK aH aJ aR aC aQ aM bf bg bD bE bF bJ bK bM bN mH mI mJ mK mM mO)))) = some r:=H
  have A13:=aa.mk aiK
  clear aiK
  by_cases c14:agv = true
  ·subst c14
   have H1:(aD.j0 k a3 a4 l5 true ah ai ax ay aK aH aJ aR aC aQ aM bf bg bD bE bF bJ bK bM bN mH mI mJ mK mM mO) = some r:=by rw [if_pos rfl] at H;exact H
   clear H
   have H:=H1
   clear H1
   have H':=aa.mk H
   clear H
   have Yk:=rV.out
   have Yl:=rW.out
   have TL:=rX.out
   have TM:=rY.out
   have abt:=rZ.out
   have abu:=si.out
   obtain ⟨Ct,Cu,Ff,Fg,QV,QW,QX,aeH,aeI,Cv,Cw,Fh,Fj,QY,QZ,Q0,aeJ,aeK⟩:=iH gH.out
   go_wp2_with (first|((with_reducible refine aN (f:=22) rfl ?_);refine bT (some 24) rfl rfl Try.func22 aY rfl #[.agg #[U Z ah,U Z ai,U Z ax,U Z ay,U Z aK,U Z aH,U Z aJ,.slice dG aR.length dH,.slice dJ aC.length dI]] rfl iG ?_;(with_reducible refine (fG.calls ah ai ax ay aK aH aJ _ _ aR _ _ aC true _ ?df ?dh ?dK ?dL A13.out).mono ?_);(case df=>repeat (first|exact (Kd.bz gq.out HB.out)|(with_reducible refine Kd.bA ?_ _)|(with_reducible refine Kd.bB ?_ _)|(with_reducible refine Kd.bQ ?_)));(case dh=>exact gu.out);(case dK=>repeat (first|exact (Kd.bz fH.out HB.out)|(with_reducible refine Kd.bA ?_ _)|(with_reducible refine Kd.bB ?_ _)|(with_reducible refine Kd.bQ ?_)));(case dL=>exact gz.out);rintro e w19 ⟨rfl,hb⟩;refine ⟨_,rfl,?_⟩;replace gH:=bC gH hb;replace iN:=bC iN hb;replace jd:=bC jd hb;replace lg:=bC lg hb;replace HB:=dw HB hb;(try clear hb);(try clear hb2);(try clear hk);(try clear hi)))
   go_meet
   case rel=>exact ⟨_,(true),mg,H',⟨wE⟩,⟨fB⟩,⟨fB⟩,⟨fB⟩,⟨fB⟩,⟨fu⟩⟩
  ·replace c14:=Bool.eq_false_iff.mpr c14
   subst c14
   have H1:(if a4 > 8 then (if a4≤64 then (aD.j0 k a3 a4 l5 true ah ai ax ay aK aH aJ aR aC aQ aM bf bg bD bE bF bJ bK bM bN mH mI mJ mK mM mO) else (if (l5.length:Int) > 8 then (if (l5.length:Int)≤64 then (aD.j0 k a3 a4 l5 true ah ai ax ay aK aH aJ aR aC aQ aM bf bg bD bE bF bJ bK bM bN mH mI mJ mK mM mO) else (aD.j0 k a3 a4 l5 (decide ((l5.length:Int) > 70)) ah ai ax ay aK aH aJ aR aC aQ aM bf bg bD bE bF bJ bK bM bN mH mI mJ mK mM mO)) else (aD.j0 k a3 a4 l5 (decide ((l5.length:Int) > 70)) ah ai ax ay aK aH aJ aR aC aQ aM bf bg bD bE bF bJ bK bM bN mH mI mJ mK mM mO))) else (if (l5.length:Int) > 8 then (if (l5.length:Int)≤64 then (aD.j0 k a3 a4 l5 true ah ai ax ay aK aH aJ aR aC aQ aM bf bg bD bE bF bJ bK bM bN mH mI mJ mK mM mO) else (aD.j0 k a3 a4 l5 (decide ((l5.length:Int) > 70)) ah ai ax ay aK aH aJ aR aC aQ aM bf bg bD bE bF bJ bK bM bN mH mI mJ mK mM mO)) else (aD.j0 k a3 a4 l5 (decide ((l5.length:Int) > 70)) ah ai ax ay aK aH aJ aR aC aQ aM bf bg bD bE bF bJ bK bM bN mH mI mJ mK mM mO))) = some r:=by rw [if_neg (show ¬ (false = true) by decide)] at H;exact H
   clear H
   have H:=H1
   clear H1
   by_cases c20:a4 > 8
   ·rw [if_pos c20] at H
    have CO:decide (8 < a4) = true:=decide_eq_true c20
    clear c20
    (first|rw [CO]|(simp only [eB,eH];rw [CO])|skip)
    by_cases c21:a4≤64
    ·rw [if_pos c21] at H
     have abR:decide (a4≤64) = true:=decide_eq_true c21
     clear c21
     have H':=aa.mk H
     clear H
     have abw:=rV.out
     have abx:=rW.out
     have X5:=rX.out
     have X6:=rY.out
     have aEH:=rZ.out
     have aEI:=si.out
     obtain ⟨yO,yP,Df,Dh,F5,F6,F7,Mi,Mj,yQ,yR,Di,Dj,F8,F9,Ga,Mk,Ml⟩:=iH gH.out
     go_wp2_with (first|((with_reducible refine aN (f:=22) rfl ?_);refine bT (some 24) rfl rfl Try.func22 aY rfl #[.agg #[U Z ah,U Z ai,U Z ax,U Z ay,U Z aK,U Z aH,U Z aJ,.slice dG aR.length dH,.slice dJ aC.length dI]] rfl iG ?_;(with_reducible refine (fG.calls ah ai ax ay aK aH aJ _ _ aR _ _ aC false _ ?df ?dh ?dK ?dL A13.out).mono ?_);(case df=>repeat (first|exact (Kd.bz gq.out HB.out)|(with_reducible refine Kd.bA ?_ _)|(with_reducible refine Kd.bB ?_ _)|(with_reducible refine Kd.bQ ?_)));(case dh=>exact gu.out);(case dK=>repeat (first|exact (Kd.bz fH.out HB.out)|(with_reducible refine Kd.bA ?_ _)|(with_reducible refine Kd.bB ?_ _)|(with_reducible refine Kd.bQ ?_)));(case dL=>exact gz.out);rintro e Cc ⟨rfl,hb⟩;refine ⟨_,rfl,?_⟩;replace gH:=bC gH hb;replace iN:=bC iN hb;replace jd:=bC jd hb;replace lg:=bC lg hb;replace HB:=dw HB hb;(try clear hb);(try clear hb2);(try clear hk);(try clear hi)))
     go_meet
     case rel=>exact ⟨_,(true),mg,H',⟨wE⟩,⟨fB⟩,⟨fB⟩,⟨fB⟩,⟨fB⟩,⟨fu⟩⟩
    ·rw [if_neg c21] at H
     have abR:decide (a4≤64) = false:=decide_eq_false c21
     clear c21
     by_cases Zx:(l5.length:Int) > 8
     ·rw [if_pos Zx] at H
      have adI:decide (8 < (l5.length:Int)) = true:=decide_eq_true Zx
      have auk:decide (8 < l5.length) = true:=decide_eq_true (by omega)
      clear Zx
      by_cases c28:(l5.length:Int)≤64
      ·rw [if_pos c28] at H
       have RG:decide ((l5.length:Int)≤64) = true:=decide_eq_true c28
       have aul:decide (l5.length≤64) = true:=decide_eq_true (by omega)
       clear c28
       have H':=aa.mk H
       clear H
       have azI:=rV.out
       have azJ:=rW.out
       have aix:=rX.out
       have aiy:=rY.out
       have ath:=rZ.out
       have ati:=si.out
       obtain ⟨IX,IY,IZ,I1,abS,abT,abU,arG,arH,I4,I5,I6,I7,abV,abW,abX,arI,arJ⟩:=iH gH.out
       go_wp2_with (first|((with_reducible refine aN (f:=22) rfl ?_);refine bT (some 24) rfl rfl Try.func22 aY rfl #[.agg #[U Z ah,U Z ai,U Z ax,U Z ay,U Z aK,U Z aH,U Z aJ,.slice dG aR.length dH,.slice dJ aC.length dI]] rfl iG ?_;(with_reducible refine (fG.calls ah ai ax ay aK aH aJ _ _ aR _ _ aC false _ ?df ?dh ?dK ?dL A13.out).mono ?_);(case df=>repeat (first|exact (Kd.bz gq.out HB.out)|(with_reducible refine Kd.bA ?_ _)|(with_reducible refine Kd.bB ?_ _)|(with_reducible refine Kd.bQ ?_)));(case dh=>exact gu.out);(case dK=>repeat (first|exact (Kd.bz fH.out HB.out)|(with_reducible refine Kd.bA ?_ _)|(with_reducible refine Kd.bB ?_ _)|(with_reducible refine Kd.bQ ?_)));(case dL=>exact gz.out);rintro e w33 ⟨rfl,hb⟩;refine ⟨_,rfl,?_⟩;replace gH:=bC gH hb;replace iN:=bC iN hb;replace jd:=bC jd hb;replace lg:=bC lg hb;replace HB:=dw HB hb;(try clear hb);(try clear hb2);(try clear hk);(try clear hi)))
       go_meet
       case rel=>exact ⟨_,(true),mg,H',⟨wE⟩,⟨fB⟩,⟨fB⟩,⟨fB⟩,⟨fB⟩,⟨fu⟩⟩
      ·rw [if_neg c28] at H
       have RG:decide ((l5.length:Int)≤64) = false:=decide_eq_false c28
       have aul:decide (l5.length≤64) = false:=decide_eq_false (by omega)
       clear c28
       have H':=aa.mk H
       clear H
       have atN:=rV.out
       have atO:=rW.out
       have atU:=rX.out
       have atV:=rY.out
       have aif:=rZ.out
       have aih:=si.out
       obtain ⟨QR,QS,VT,VU,VV,VW,VX,arK,arL,QT,QU,VY,VZ,V3,V4,V5,arM,arN⟩:=iH gH.out
       go_wp2_with (first|((with_reducible refine aN (f:=22) rfl ?_);refine bT (some 24) rfl rfl Try.func22 aY rfl #[.agg #[U Z ah,U Z ai,U Z ax,U Z ay,U Z aK,U Z aH,U Z aJ,.slice dG aR.length dH,.slice dJ aC.length dI]] rfl iG ?_;(with_reducible refine (fG.calls ah ai ax ay aK aH aJ _ _ aR _ _ aC false _ ?df ?dh ?dK ?dL A13.out).mono ?_);(case df=>repeat (first|exact (Kd.bz gq.out HB.out)|(with_reducible refine Kd.bA ?_ _)|(with_reducible refine Kd.bB ?_ _)|(with_reducible refine Kd.bQ ?_)));(case dh=>exact gu.out);(case dK=>repeat (first|exact (Kd.bz fH.out HB.out)|(with_reducible refine Kd.bA ?_ _)|(with_reducible refine Kd.bB ?_ _)|(with_reducible refine Kd.bQ ?_)));(case dL=>exact gz.out);rintro e w38 ⟨rfl,hb⟩;refine ⟨_,rfl,?_⟩;replace gH:=bC gH hb;replace iN:=bC iN hb;replace jd:=bC jd hb;replace lg:=bC lg hb;replace HB:=dw HB hb;(try clear hb);(try clear hb2);(try clear hk);(try clear hi)))
       go_meet
       case rel=>exact ⟨_,(decide ((l5.length:Int) > 70)),mg,H',⟨wE⟩,⟨fB⟩,⟨fB⟩,⟨fB⟩,⟨fB⟩,⟨fu⟩⟩
     ·rw [if_neg Zx] at H
      have adI:decide (8 < (l5.length:Int)) = false:=decide_eq_false Zx
      have auk:decide (8 < l5.length) = false:=decide_eq_false (by omega)
      clear Zx
      have H':=aa.mk H
      clear H
      have Yn:=rV.out
      have Yo:=rW.out
      have atj:=rX.out
      have atl:=rY.out
      have aCh:=rZ.out
      have aCi:=si.out
      obtain ⟨WC,WE,adL,adM,adN,adO,adP,arO,arP,WG,WH,adQ,adR,adS,adT,adU,arQ,arR⟩:=iH gH.out
      go_wp2_with (first|((with_reducible refine aN (f:=22) rfl ?_);refine bT (some 24) rfl rfl Try.func22 aY rfl #[.agg #[U Z ah,U Z ai,U Z ax,U Z ay,U Z aK,U Z aH,U Z aJ,.slice dG aR.length dH,.slice dJ aC.length dI]] rfl iG ?_;(with_reducible refine (fG.calls ah ai ax ay aK aH aJ _ _ aR _ _ aC false _ ?df ?dh ?dK ?dL A13.out).mono ?_);(case df=>repeat (first|exact (Kd.bz gq.out HB.out)|(with_reducible refine Kd.bA ?_ _)|(with_reducible refine Kd.bB ?_ _)|(with_reducible refine Kd.bQ ?_)));(case dh=>exact gu.out);(case dK=>repeat (first|exact (Kd.bz fH.out HB.out)|(with_reducible refine Kd.bA ?_ _)|(with_reducible refine Kd.bB ?_ _)|(with_reducible refine Kd.bQ ?_)));(case dL=>exact gz.out);rintro e w43 ⟨rfl,hb⟩;refine ⟨_,rfl,?_⟩;replace gH:=bC gH hb;replace iN:=bC iN hb;replace jd:=bC jd hb;replace lg:=bC lg hb;replace HB:=dw HB hb;(try clear hb);(try clear hb2);(try clear hk);(try clear hi)))
      go_meet
      case rel=>exact ⟨_,(decide ((l5.length:Int) > 70)),mg,H',⟨wE⟩,⟨fB⟩,⟨fB⟩,⟨fB⟩,⟨fB⟩,⟨fu⟩⟩
   ·rw [if_neg c20] at H
    have CO:decide (8 < a4) = false:=decide_eq_false c20
    clear c20
    (first|rw [CO]|(simp only [eB,eH];rw [CO])|skip)
    by_cases c44:(l5.length:Int) > 8
    ·rw [if_pos c44] at H
     have aum:decide (8 < (l5.length:Int)) = true:=decide_eq_true c44
     have aun:decide (8 < l5.length) = true:=decide_eq_true (by omega)
     clear c44
     by_cases c45:(l5.length:Int)≤64
     ·rw [if_pos c45] at H
      have adH:decide ((l5.length:Int)≤64) = true:=decide_eq_true c45
      have auo:decide (l5.length≤64) = true:=decide_eq_true (by omega)
      clear c45
      have H':=aa.mk H
      clear H
      have aik:=rV.out
      have ail:=rW.out
      have aim:=rX.out
      have ain:=rY.out
      have as0:=rZ.out
      have as1:=si.out
      obtain ⟨Vf,Vg,Vh,Vi,arS,arT,arU,arV,arW,Vj,Vk,Vl,Vm,arX,arY,arZ,ar0,ar1⟩:=iH gH.out
      go_wp2_with (first|((with_reducible refine aN (f:=22) rfl ?_);refine bT (some 24) rfl rfl Try.func22 aY rfl #[.agg #[U Z ah,U Z ai,U Z ax,U Z ay,U Z aK,U Z aH,U Z aJ,.slice dG aR.length dH,.slice dJ aC.length dI]] rfl iG ?_;(with_reducible refine (fG.calls ah ai ax ay aK aH aJ _ _ aR _ _ aC false _ ?df ?dh ?dK ?dL A13.out).mono ?_);(case df=>repeat (first|exact (Kd.bz gq.out HB.out)|(with_reducible refine Kd.bA ?_ _)|(with_reducible refine Kd.bB ?_ _)|(with_reducible refine Kd.bQ ?_)));(case dh=>exact gu.out);(case dK=>repeat (first|exact (Kd.bz fH.out HB.out)|(with_reducible refine Kd.bA ?_ _)|(with_reducible refine Kd.bB ?_ _)|(with_reducible refine Kd.bQ ?_)));(case dL=>exact gz.out);rintro e w50 ⟨rfl,hb⟩;refine ⟨_,rfl,?_⟩;replace gH:=bC gH hb;replace iN:=bC iN hb;replace jd:=bC jd hb;replace lg:=bC lg hb;replace HB:=dw HB hb;(try clear hb);(try clear hb2);(try clear hk);(try clear hi)))
      go_meet
      case rel=>exact ⟨_,(true),mg,H',⟨wE⟩,⟨fB⟩,⟨fB⟩,⟨fB⟩,⟨fB⟩,⟨fu⟩⟩
     ·rw [if_neg c45] at H
      have adH:decide ((l5.length:Int)≤64) = false:=decide_eq_false c45
      have auo:decide (l5.length≤64) = false:=decide_eq_false (by omega)
      clear c45
      have H':=aa.mk H
      clear H
      have aSU:=rV.out
      have aSV:=rW.out
      have atm:=rX.out
      have atn:=rY.out
      have ato:=rZ.out
      have atp:=si.out
      obtain ⟨acR,acS,acT,acU,acV,acW,acX,acY,acZ,ac0,ac1,ac2,ac3,ac4,ac5,ac6,ac7,ac8⟩:=iH gH.out
      go_wp2_with (first|((with_reducible refine aN (f:=22) rfl ?_);refine bT (some 24) rfl rfl Try.func22 aY rfl #[.agg #[U Z ah,U Z ai,U Z ax,U Z ay,U Z aK,U Z aH,U Z aJ,.slice dG aR.length dH,.slice dJ aC.length dI]] rfl iG ?_;(with_reducible refine (fG.calls ah ai ax ay aK aH aJ _ _ aR _ _ aC false _ ?df ?dh ?dK ?dL A13.out).mono ?_);(case df=>repeat (first|exact (Kd.bz gq.out HB.out)|(with_reducible refine Kd.bA ?_ _)|(with_reducible refine Kd.bB ?_ _)|(with_reducible refine Kd.bQ ?_)));(case dh=>exact gu.out);(case dK=>repeat (first|exact (Kd.bz fH.out HB.out)|(with_reducible refine Kd.bA ?_ _)|(with_reducible refine Kd.bB ?_ _)|(with_reducible refine Kd.bQ ?_)));(case dL=>exact gz.out);rintro e w55 ⟨rfl,hb⟩;refine ⟨_,rfl,?_⟩;replace gH:=bC gH hb;replace iN:=bC iN hb;replace jd:=bC jd hb;replace lg:=bC lg hb;replace HB:=dw HB hb;(try clear hb);(try clear hb2);(try clear hk);(try clear hi)))
      go_meet
      case rel=>exact ⟨_,(decide ((l5.length:Int) > 70)),mg,H',⟨wE⟩,⟨fB⟩,⟨fB⟩,⟨fB⟩,⟨fB⟩,⟨fu⟩⟩
    ·rw [if_neg c44] at H
     have aum:decide (8 < (l5.length:Int)) = false:=decide_eq_false c44
     have aun:decide (8 < l5.length) = false:=decide_eq_false (by omega)
     clear c44
     have H':=aa.mk H
     clear H
     have aiz:=rV.out
     have aiA:=rW.out
     have azb:=rX.out
     have azc:=rY.out
     have atP:=rZ.out
     have atQ:=si.out
     obtain ⟨adV,adW,adX,adY,adZ,ad1,ad2,ar2,ar3,ad3,ad4,ad5,ad6,ad7,ad8,ad9,ar4,ar5⟩:=iH gH.out
     go_wp2_with (first|((with_reducible refine aN (f:=22) rfl ?_);refine bT (some 24) rfl rfl Try.func22 aY rfl #[.agg #[U Z ah,U Z ai,U Z ax,U Z ay,U Z aK,U Z aH,U Z aJ,.slice dG aR.length dH,.slice dJ aC.length dI]] rfl iG ?_;(with_reducible refine (fG.calls ah ai ax ay aK aH aJ _ _ aR _ _ aC false _ ?df ?dh ?dK ?dL A13.out).mono ?_);(case df=>repeat (first|exact (Kd.bz gq.out HB.out)|(with_reducible refine Kd.bA ?_ _)|(with_reducible refine Kd.bB ?_ _)|(with_reducible refine Kd.bQ ?_)));(case dh=>exact gu.out);(case dK=>repeat (first|exact (Kd.bz fH.out HB.out)|(with_reducible refine Kd.bA ?_ _)|(with_reducible refine Kd.bB ?_ _)|(with_reducible refine Kd.bQ ?_)));(case dL=>exact gz.out);rintro e w60 ⟨rfl,hb⟩;refine ⟨_,rfl,?_⟩;replace gH:=bC gH hb;replace iN:=bC iN hb;replace jd:=bC jd hb;replace lg:=bC lg hb;replace HB:=dw HB hb;(try clear hb);(try clear hb2);(try clear hk);(try clear hi)))
     go_meet
     case rel=>exact ⟨_,(decide ((l5.length:Int) > 70)),mg,H',⟨wE⟩,⟨fB⟩,⟨fB⟩,⟨fB⟩,⟨fB⟩,⟨fu⟩⟩
 case rest =>
  clear HC8
  try clear c1
  try clear c2
  try clear p2
  try clear c3
  try clear c4
  try clear c5
  try clear c13
  try clear c14
  try clear c15
  try clear c16
  try clear c17
  try clear c20
  try clear CO
  try clear c21
  try clear abR
  try clear SE
  try clear c23
  try clear c24
  try clear Zx
  try clear adI
  try clear auk
  try clear c28
  try clear RG
  try clear aul
  try clear c29
  try clear c30
  try clear c31
  try clear c34
  try clear c35
  try clear c36
  try clear c39
  try clear c40
  try clear c41
  try clear c44
  try clear aum
  try clear aun
  try clear c45
  try clear adH
  try clear auo
  try clear c46
  try clear c47
  try clear c48
  try clear c51
  try clear c52
  try clear c53
  try clear c56
  try clear c57
  try clear c58
  try clear Ct Cu Ff Fg QV QW QX aeH aeI
  try clear yO yP Df Dh F5 F6 F7 Mi Mj
  try clear IX IY IZ I1 abS abT abU arG arH
  try clear QR QS VT VU VV VW VX arK arL
  try clear WC WE adL adM adN adO adP arO arP
  try clear Vf Vg Vh Vi arS arT arU arV arW
  try clear acR acS acT acU acV acW acX acY acZ
  try clear adV adW adX adY adZ ad1 ad2 ar2 ar3
  try clear Cv Cw Fh Fj QY QZ Q0 aeJ aeK
  try clear yQ yR Di Dj F8 F9 Ga Mk Ml
  try clear I4 I5 I6 I7 abV abW abX arI arJ
  try clear QT QU VY VZ V3 V4 V5 arM arN
  try clear WG WH adQ adR adS adT adU arQ arR
  try clear Vj Vk Vl Vm arX arY arZ ar0 ar1
  try clear ac0 ac1 ac2 ac3 ac4 ac5 ac6 ac7 ac8
  try clear ad3 ad4 ad5 ad6 ad7 ad8 ad9 ar4 ar5
  obtain ⟨kq,aeG,rfl,HA,HJ7,gH,iN,jd,lg,HB⟩:=hcut
  cases kq with
  |zero=>exact absurd HA.out (by simp [aD.j0])
  |succ BZ =>
   have H:=HA.out
   clear HA
   simp only [aD.j0] at H
   by_cases c61:aeG = true
   ·subst c61
    have H1:((bG.f BZ).bind fun agu=>(some agu)) = some r:=by rw [if_pos rfl] at H;exact H
    clear H
    have H:=H1
    clear H1
    replace H:=Option.bind_eq_some_iff.mp H
    obtain ⟨agu,aEM,H⟩:=H
    replace H:(some agu) = some r:=H
    have A62:=aa.mk aEM
    clear aEM
    obtain rfl:=Option.some.inj H
    go_wp2_with (first|((with_reducible refine aN (f:=19) rfl ?_);refine bT (some 48) rfl rfl Try.func19 aY rfl #[] rfl iG ?_;(with_reducible refine (bG.calls BZ agu _ A62.out).mono ?_);rintro e w63 ⟨rfl,hb⟩;refine ⟨_,rfl,?_⟩;replace gH:=bC gH hb;replace iN:=bC iN hb;replace jd:=bC jd hb;replace lg:=bC lg hb;replace HB:=dw HB hb;(try clear hb);(try clear hb2);(try clear hk);(try clear hi)))
    go_ret
    exact ⟨kL,fu⟩
   ·replace c61:=Bool.eq_false_iff.mpr c61
    subst c61
    have H1:((rU.f ah ai ax ay aK aH aJ aR aC aQ aM bf bg bD bE bF bJ bK bM bN a3 a4).bind fun Y7=>((dE.f BZ ah ai ax ay aK aH aJ aR aC aQ aM bf bg bD bE bF bJ bK bM bN a3 a4).bind fun Pw=>((oL.f ah ai ax ay aK aH aJ aR aC aQ aM bf bg bD bE bF bJ bK bM bN a3 mH mI mJ mK mM mO a4).bind fun Iq=>((aW.f BZ ah ai ax ay aK aH aJ aR aC aQ aM bf bg bD bE bF bJ bK bM bN a3 mH mI mJ mK mM mO a4).bind fun Dt=>((bH.f BZ Y7.1 Pw.1).bind fun Ng=>(if Ng = true then (if Y7.2 = Pw.2 then ((bH.f BZ Iq.1 Dt.1).bind fun G8=>(if G8 = true then (if Iq.2 = Dt.2 then ((fQ.f ah ai ax ay aK aH aJ aR aC aQ aM bf bg bD bE bF bJ bK bM bN a3 l5).bind fun wF=>((aA.f BZ ah ai ax ay aK aH aJ aR aC aQ aM bf bg bD bE bF bJ bK bM bN a3 l5).bind fun wy=>(if wF = wy then ((bG.f BZ).bind fun zN=>(some zN)) else (some false)))) else (some false)) else (some false))) else (some false)) else (some false))))))) = some r:=by rw [if_neg (show ¬ (false = true) by decide)] at H;exact H
    clear H
    have H:=H1
    clear H1
    replace H:=Option.bind_eq_some_iff.mp H
    obtain ⟨⟨aaQ,PU⟩,aEN,H⟩:=H
    replace H:((dE.f BZ ah ai ax ay aK aH aJ aR aC aQ aM bf bg bD bE bF bJ bK bM bN a3 a4).bind fun Pw=>((oL.f ah ai ax ay aK aH aJ aR aC aQ aM bf bg bD bE bF bJ bK bM bN a3 mH mI mJ mK mM mO a4).bind fun Iq=>((aW.f BZ ah ai ax ay aK aH aJ aR aC aQ aM bf bg bD bE bF bJ bK bM bN a3 mH mI mJ mK mM mO a4).bind fun Dt=>((bH.f BZ aaQ Pw.1).bind fun Ng=>(if Ng = true then (if PU = Pw.2 then ((bH.f BZ Iq.1 Dt.1).bind fun G8=>(if G8 = true then (if Iq.2 = Dt.2 then ((fQ.f ah ai ax ay aK aH aJ aR aC aQ aM bf bg bD bE bF bJ bK bM bN a3 l5).bind fun wF=>((aA.f BZ ah ai ax ay aK aH aJ aR aC aQ aM bf bg bD bE bF bJ bK bM bN a3 l5).bind fun wy=>(if wF = wy then ((bG.f BZ).bind fun zN=>(some zN)) else (some false)))) else (some false)) else (some false))) else (some false)) else (some false)))))) = some r:=H
    have A64:=aa.mk aEN
    clear aEN
    replace H:=Option.bind_eq_some_iff.mp H
    obtain ⟨⟨agC,Sg⟩,aEO,H⟩:=H
    replace H:((oL.f ah ai ax ay aK aH aJ aR aC aQ aM bf bg bD bE bF bJ bK bM bN a3 mH mI mJ mK mM mO a4).bind fun Iq=>((aW.f BZ ah ai ax ay aK aH aJ aR aC aQ aM bf bg bD bE bF bJ bK bM bN a3 mH mI mJ mK mM mO a4).bind fun Dt=>((bH.f BZ aaQ agC).bind fun Ng=>(if Ng = true then (if PU = Sg then ((bH.f BZ Iq.1 Dt.1).bind fun G8=>(if G8 = true then (if Iq.2 = Dt.2 then ((fQ.f ah ai ax ay aK aH aJ aR aC aQ aM bf bg bD bE bF bJ bK bM bN a3 l5).bind fun wF=>((aA.f BZ ah ai ax ay aK aH aJ aR aC aQ aM bf bg bD bE bF bJ bK bM bN a3 l5).bind fun wy=>(if wF = wy then ((bG.f BZ).bind fun zN=>(some zN)) else (some false)))) else (some false)) else (some false))) else (some false)) else (some false))))) = some r:=H
    have A65:=aa.mk aEO
    clear aEO
    replace H:=Option.bind_eq_some_iff.mp H
    obtain ⟨⟨aaR,PV⟩,aEP,H⟩:=H
    replace H:((aW.f BZ ah ai ax ay aK aH aJ aR aC aQ aM bf bg bD bE bF bJ bK bM bN a3 mH mI mJ mK mM mO a4).bind fun Dt=>((bH.f BZ aaQ agC).bind fun Ng=>(if Ng = true then (if PU = Sg then ((bH.f BZ aaR Dt.1).bind fun G8=>(if G8 = true then (if PV = Dt.2 then ((fQ.f ah ai ax ay aK aH aJ aR aC aQ aM bf bg bD bE bF bJ bK bM bN a3 l5).bind fun wF=>((aA.f BZ ah ai ax ay aK aH aJ aR aC aQ aM bf bg bD bE bF bJ bK bM bN a3 l5).bind fun wy=>(if wF = wy then ((bG.f BZ).bind fun zN=>(some zN)) else (some false)))) else (some false)) else (some false))) else (some false)) else (some false)))) = some r:=H
    have A66:=aa.mk aEP
    clear aEP
    replace H:=Option.bind_eq_some_iff.mp H
    obtain ⟨⟨agD,Si⟩,aEQ,H⟩:=H
    replace H:((bH.f BZ aaQ agC).bind fun Ng=>(if Ng = true then (if PU = Sg then ((bH.f BZ aaR agD).bind fun G8=>(if G8 = true then (if PV = Si then ((fQ.f ah ai ax ay aK aH aJ aR aC aQ aM bf bg bD bE bF bJ bK bM bN a3 l5).bind fun wF=>((aA.f BZ ah ai ax ay aK aH aJ aR aC aQ aM bf bg bD bE bF bJ bK bM bN a3 l5).bind fun wy=>(if wF = wy then ((bG.f BZ).bind fun zN=>(some zN)) else (some false)))) else (some false)) else (some false))) else (some false)) else (some false))) = some r:=H
    have A67:=aa.mk aEQ
    clear aEQ
    replace H:=Option.bind_eq_some_iff.mp H
    obtain ⟨Ng,aER,H⟩:=H
    replace H:(if Ng = true then (if PU = Sg then ((bH.f BZ aaR agD).bind fun G8=>(if G8 = true then (if PV = Si then ((fQ.f ah ai ax ay aK aH aJ aR aC aQ aM bf bg bD bE bF bJ bK bM bN a3 l5).bind fun wF=>((aA.f BZ ah ai ax ay aK aH aJ aR aC aQ aM bf bg bD bE bF bJ bK bM bN a3 l5).bind fun wy=>(if wF = wy then ((bG.f BZ).bind fun zN=>(some zN)) else (some false)))) else (some false)) else (some false))) else (some false)) else (some false)) = some r:=H
    have A68:=aa.mk aER
    clear aER
    by_cases c69:Ng = true
    ·subst c69
     have H1:(if PU = Sg then ((bH.f BZ aaR agD).bind fun G8=>(if G8 = true then (if PV = Si then ((fQ.f ah ai ax ay aK aH aJ aR aC aQ aM bf bg bD bE bF bJ bK bM bN a3 l5).bind fun wF=>((aA.f BZ ah ai ax ay aK aH aJ aR aC aQ aM bf bg bD bE bF bJ bK bM bN a3 l5).bind fun wy=>(if wF = wy then ((bG.f BZ).bind fun zN=>(some zN)) else (some false)))) else (some false)) else (some false))) else (some false)) = some r:=by rw [if_pos rfl] at H;exact H
     clear H
     have H:=H1
     clear H1
     by_cases c70:PU = Sg
     ·rw [if_pos c70] at H
      have aES:(PU == Sg) = true:=beq_iff_eq.mpr c70
      have aET:(PU != Sg) = false:=bne_eq_false_iff_eq.mpr c70
      clear c70
      replace H:=Option.bind_eq_some_iff.mp H
      obtain ⟨G8,aEU,H⟩:=H
      replace H:(if G8 = true then (if PV = Si then ((fQ.f ah ai ax ay aK aH aJ aR aC aQ aM bf bg bD bE bF bJ bK bM bN a3 l5).bind fun wF=>((aA.f BZ ah ai ax ay aK aH aJ aR aC aQ aM bf bg bD bE bF bJ bK bM bN a3 l5).bind fun wy=>(if wF = wy then ((bG.f BZ).bind fun zN=>(some zN)) else (some false)))) else (some false)) else (some false)) = some r:=H
      have A71:=aa.mk aEU
      clear aEU
      by_cases c72:G8 = true
      ·subst c72
       have H1:(if PV = Si then ((fQ.f ah ai ax ay aK aH aJ aR aC aQ aM bf bg bD bE bF bJ bK bM bN a3 l5).bind fun wF=>((aA.f BZ ah ai ax ay aK aH aJ aR aC aQ aM bf bg bD bE bF bJ bK bM bN a3 l5).bind fun wy=>(if wF = wy then ((bG.f BZ).bind fun zN=>(some zN)) else (some false)))) else (some false)) = some r:=by rw [if_pos rfl] at H;exact H
       clear H
       have H:=H1
       clear H1
       by_cases Yp:PV = Si
       ·rw [if_pos Yp] at H
        have aua:(PV == Si) = true:=beq_iff_eq.mpr Yp
        have aEV:(PV != Si) = false:=bne_eq_false_iff_eq.mpr Yp
        clear Yp
        replace H:=Option.bind_eq_some_iff.mp H
        obtain ⟨wF,aEW,H⟩:=H
        replace H:((aA.f BZ ah ai ax ay aK aH aJ aR aC aQ aM bf bg bD bE bF bJ bK bM bN a3 l5).bind fun wy=>(if wF = wy then ((bG.f BZ).bind fun zN=>(some zN)) else (some false))) = some r:=H
        have A74:=aa.mk aEW
        clear aEW
        replace H:=Option.bind_eq_some_iff.mp H
        obtain ⟨wy,aEX,H⟩:=H
        replace H:(if wF = wy then ((bG.f BZ).bind fun zN=>(some zN)) else (some false)) = some r:=H
        have A75:=aa.mk aEX
        clear aEX
        by_cases c76:wF = wy
        ·rw [if_pos c76] at H
         have aEY:(wF == wy) = true:=beq_iff_eq.mpr c76
         have aEZ:(wF != wy) = false:=bne_eq_false_iff_eq.mpr c76
         clear c76
         replace H:=Option.bind_eq_some_iff.mp H
         obtain ⟨zN,aE0,H⟩:=H
         replace H:(some zN) = some r:=H
         have A77:=aa.mk aE0
         clear aE0
         obtain rfl:=Option.some.inj H
         have aiB:=rV.out
         have aiC:=rW.out
         have abD:=rX.out
         have abE:=rY.out
         have ate:=rZ.out
         have atf:=si.out
         obtain ⟨apY,apZ,ap0,ap1,ap2,ap3,ap4,ap5,ap6,ap7,ap8,ap9,aqa,aqb,aqc,aqd,aqe,aqf⟩:=iH gH.out
         have atq:=agw.out
         have atr:=agx.out
         have att:=agy.out
         have atu:=agz.out
         obtain ⟨acd,ace,acf,acg,ach,aci,acj,ack,acm,acn,aco,acp,acr,acs⟩:=jb iN.out
         have atv:=agA.out
         have atw:=agB.out
         obtain ⟨acu,acv,acw,acx,acy,acz,acA,acB⟩:=gD jd.out
         try go_wp2_with (first|((with_reducible refine aN (f:=50) rfl ?_);refine bT (some 55) rfl rfl Try.func50 aY rfl #[.agg #[U Z ah,U Z ai,U Z ax,U Z ay,U Z aK,U Z aH,U Z aJ,.slice dG aR.length dH,.slice dJ aC.length dI],.agg #[U Z aQ,U Z aM,U Z bf,U Z bg,U Z bD,U Z bE,U Z bF],.agg #[U Z bJ,U Z bK,U Z bM,U Z bN],U Z a3,U Z a4] rfl iG ?_;(with_reducible refine (rU.calls ah ai ax ay aK aH aJ _ _ aR _ _ aC aQ aM bf bg bD bE bF bJ bK bM bN a3 a4 aaQ PU _ ?df ?dh ?dK ?dL A64.out).mono ?_);(case df=>repeat (first|exact (Kd.bz gq.out HB.out)|(with_reducible refine Kd.bA ?_ _)|(with_reducible refine Kd.bB ?_ _)|(with_reducible refine Kd.bQ ?_)));(case dh=>exact gu.out);(case dK=>repeat (first|exact (Kd.bz fH.out HB.out)|(with_reducible refine Kd.bA ?_ _)|(with_reducible refine Kd.bB ?_ _)|(with_reducible refine Kd.bQ ?_)));(case dL=>exact gz.out);rintro e w87 ⟨aVf,rfl,ho0,hb⟩;refine ⟨_,rfl,?_⟩;have zM:=aa.mk (Kd.jH (Kd.qP ho0 (g:=Nh) (o:=.cells #[U Z bJ,U Z bK,U Z bM,U Z bN] 31 (0,0)) fB) (fJ fu));replace gH:=bC gH hb;replace iN:=bC iN hb;replace jd:=bC jd hb;replace lg:=bC lg hb;replace HB:=dw HB hb;(try clear hb);(try clear hb2);(try clear hk);(try clear hi);(try clear ho0);obtain ⟨aMP,aMQ,aMR,aMS,aMT,aMU,aMV,aMW,aMX,aMY,aMZ,aM0,aM1,aM2,aM3,aM4,aM5,aM6⟩:=iH gH.out;obtain ⟨amH,amI,amJ,amK,amL,amM,amN,amO,amP,amQ,amR,amS,amT,amU⟩:=jb iN.out;obtain ⟨aM7,aM8,aM9,aNa,aNb,aNc,aNd,aNe⟩:=gD jd.out)|((with_reducible refine aN (f:=52) rfl ?_);refine bT (some 64) rfl rfl Try.func52 aY rfl #[.agg #[U Z ah,U Z ai,U Z ax,U Z ay,U Z aK,U Z aH,U Z aJ,.slice dG aR.length dH,.slice dJ aC.length dI],.agg #[U Z aQ,U Z aM,U Z bf,U Z bg,U Z bD,U Z bE,U Z bF],.agg #[U Z bJ,U Z bK,U Z bM,U Z bN],U Z a3,U Z a4] rfl iG ?_;(with_reducible refine (dE.calls BZ ah ai ax ay aK aH aJ _ _ aR _ _ aC aQ aM bf bg bD bE bF bJ bK bM bN a3 a4 agC Sg _ ?df ?dh ?dK ?dL A65.out).mono ?_);(case df=>repeat (first|exact (Kd.bz gq.out HB.out)|(with_reducible refine Kd.bA ?_ _)|(with_reducible refine Kd.bB ?_ _)|(with_reducible refine Kd.bQ ?_)));(case dh=>exact gu.out);(case dK=>repeat (first|exact (Kd.bz fH.out HB.out)|(with_reducible refine Kd.bA ?_ _)|(with_reducible refine Kd.bB ?_ _)|(with_reducible refine Kd.bQ ?_)));(case dL=>exact gz.out);rintro e w91 ⟨aVg,rfl,ho0,hb⟩;refine ⟨_,rfl,?_⟩;have Ad:=aa.mk (Kd.jH (Kd.qP (Kd.EM ho0 (Kd.UB agp)) (g:=Nh) (o:=.cells #[U Z bJ,U Z bK,U Z bM,U Z bN] 31 (0,0)) fB) (fJ fu));replace zM:=aa.mk (Kd.uX agp (Kd.EL ho0) hb);replace gH:=bC gH hb;replace iN:=bC iN hb;replace jd:=bC jd hb;replace lg:=bC lg hb;replace HB:=dw HB hb;(try clear hb);(try clear hb2);(try clear hk);(try clear hi);(try clear ho0);obtain ⟨aqL,aqM,aqN,aqO,aqP,aqQ,aqR,aqS,aqT,aqU,aqV,aqW,aqX,aqY,aqZ,aq0,aq1,aq2⟩:=iH gH.out;obtain ⟨amV,amW,amX,amY,amZ,am0,am1,am2,am3,am4,am5,am6,am7,am8⟩:=jb iN.out;obtain ⟨aq3,aq4,aq5,aq6,aq7,aq8,aq9,ara⟩:=gD jd.out;obtain ⟨aqg,aqh,aqi,aqj,aqk,aql,aqm,aqn,aqo,aqp,aqr,aqs⟩:=DU lg.out)|((with_reducible refine aN (f:=53) rfl ?_);refine bT (some 74) rfl rfl Try.func53 aY rfl #[.agg #[U Z ah,U Z ai,U Z ax,U Z ay,U Z aK,U Z aH,U Z aJ,.slice dG aR.length dH,.slice dJ aC.length dI],.agg #[U Z aQ,U Z aM,U Z bf,U Z bg,U Z bD,U Z bE,U Z bF],.agg #[U Z bJ,U Z bK,U Z bM,U Z bN],U Z a3,.agg #[U Z mH,U Z mI,U Z mJ,U Z mK,U Z mM,U Z mO],U Z a4] rfl iG ?_;(with_reducible refine (oL.calls ah ai ax ay aK aH aJ _ _ aR _ _ aC aQ aM bf bg bD bE bF bJ bK bM bN a3 mH mI mJ mK mM mO a4 aaR PV _ ?df ?dh ?dK ?dL A66.out).mono ?_);(case df=>repeat (first|exact (Kd.bz gq.out HB.out)|(with_reducible refine Kd.bA ?_ _)|(with_reducible refine Kd.bB ?_ _)|(with_reducible refine Kd.bQ ?_)));(case dh=>exact gu.out);(case dK=>repeat (first|exact (Kd.bz fH.out HB.out)|(with_reducible refine Kd.bA ?_ _)|(with_reducible refine Kd.bB ?_ _)|(with_reducible refine Kd.bQ ?_)));(case dL=>exact gz.out);rintro e w96 ⟨aVh,rfl,ho0,hb⟩;refine ⟨_,rfl,?_⟩;have Ae:=aa.mk (Kd.jH (Kd.qP (Kd.EM (Kd.EM ho0 (Kd.UB agp)) (Kd.UB aro)) (g:=Nh) (o:=.cells #[U Z bJ,U Z bK,U Z bM,U Z bN] 31 (0,0)) fB) (fJ fu));replace zM:=aa.mk (Kd.uX agp (Kd.EL ho0) hb);replace Ad:=aa.mk (Kd.uX aro (Kd.EL ho0) hb);replace gH:=bC gH hb;replace iN:=bC iN hb;replace jd:=bC jd hb;replace lg:=bC lg hb;replace HB:=dw HB hb;(try clear hb);(try clear hb2);(try clear hk);(try clear hi);(try clear ho0);obtain ⟨aNf,aNg,aNh,aNi,aNj,aNk,aNl,aNm,aNn,aNo,aNp,aNq,aNr,aNs,aNt,aNu,aNv,aNw⟩:=iH gH.out;obtain ⟨abF,abG,abH,abI,aqt,aqu,aqv,abJ,abK,abL,abM,aqw,aqx,aqy⟩:=jb iN.out;obtain ⟨aNx,aNy,aNz,aNA,aNB,aNC,aND,aNE⟩:=gD jd.out;obtain ⟨aE1,aE2,aE3,aE4,aE5,aE6,aE7,aE8,aE9,aFa,aFb,aFc⟩:=DU lg.out)|((with_reducible refine aN (f:=54) rfl ?_);refine bT (some 84) rfl rfl Try.func54 aY rfl #[.agg #[U Z ah,U Z ai,U Z ax,U Z ay,U Z aK,U Z aH,U Z aJ,.slice dG aR.length dH,.slice dJ aC.length dI],.agg #[U Z aQ,U Z aM,U Z bf,U Z bg,U Z bD,U Z bE,U Z bF],.agg #[U Z bJ,U Z bK,U Z bM,U Z bN],U Z a3,.agg #[U Z mH,U Z mI,U Z mJ,U Z mK,U Z mM,U Z mO],U Z a4] rfl iG ?_;(with_reducible refine (aW.calls BZ ah ai ax ay aK aH aJ _ _ aR _ _ aC aQ aM bf bg bD bE bF bJ bK bM bN a3 mH mI mJ mK mM mO a4 agD Si _ ?df ?dh ?dK ?dL A67.out).mono ?_);(case df=>repeat (first|exact (Kd.bz gq.out HB.out)|(with_reducible refine Kd.bA ?_ _)|(with_reducible refine Kd.bB ?_ _)|(with_reducible refine Kd.bQ ?_)));(case dh=>exact gu.out);(case dK=>repeat (first|exact (Kd.bz fH.out HB.out)|(with_reducible refine Kd.bA ?_ _)|(with_reducible refine Kd.bB ?_ _)|(with_reducible refine Kd.bQ ?_)));(case dL=>exact gz.out);rintro e aCp ⟨aVi,rfl,ho0,hb⟩;refine ⟨_,rfl,?_⟩;have x9:=aa.mk (Kd.uX agp (Kd.EL ho0) hb);have yc:=aa.mk (Kd.uX aro (Kd.EL ho0) hb);have yf:=aa.mk (Kd.uX (by (with_reducible repeat (first|apply Kd.jf|apply Kd.iQ|apply Kd.iE));exact Ae.out) (Kd.EL ho0) hb);have yg:=aa.mk (Kd.jH (Kd.qP (Kd.EM (Kd.EM (Kd.EM ho0 (Kd.UB agp)) (Kd.UB aro)) (Kd.UB (by (with_reducible repeat (first|apply Kd.jf|apply Kd.iQ|apply Kd.iE));exact Ae.out))) (g:=Nh) (o:=.cells #[U Z bJ,U Z bK,U Z bM,U Z bN] 31 (0,0)) fB) (fJ fu));have Bf:=bC gH hb;have Li:=bC iN hb;have Zw:=bC jd hb;have n7_:=bC lg hb;have n8_:=dw HB hb;clear zM;clear Ad;clear Ae;clear gH;clear iN;clear jd;clear lg;clear HB;have zM:=x9;have Ad:=yc;have Ae:=yf;have GV:=yg;have gH:=Bf;have iN:=Li;have jd:=Zw;have lg:=n7_;have HB:=n8_;clear x9 yc yf yg Bf Li Zw n7_ n8_;(try clear hb);(try clear hb2);(try clear hk);(try clear hi);(try clear ho0)))
         replace zM:=aa.mk (Kd.iE zM.out)
         replace Ad:=aa.mk (Kd.iE Ad.out)
         replace Ae:=aa.mk (Kd.iE Ae.out)
         replace GV:=aa.mk (Kd.iE GV.out)
         replace gH:=aa.mk (ag gH.out)
         replace iN:=aa.mk (ag iN.out)
         replace jd:=aa.mk (ag jd.out)
         replace lg:=aa.mk (ag lg.out)
         replace HB:=aa.mk (bU HB.out)
         obtain ⟨aFd,aFe,aup⟩:=Kd.jI zM.out
         (first|subst aup|(injection aup with f1_ f2_ f3_;have f4_:=f1_.symm;have f5_:=f3_.symm;clear f1_ f2_ f3_;subst f4_;subst f5_))
         obtain ⟨aFf,aFg,auq⟩:=Kd.jI Ad.out
         (first|subst auq|(injection auq with f1_ f2_ f3_;have f4_:=f1_.symm;have f5_:=f3_.symm;clear f1_ f2_ f3_;subst f4_;subst f5_))
         refine jT (n:=37) (S:=fun w'=>w'.cell? ⟨Ko,0,none⟩ = some (U Z ah)∧w'.cell? ⟨Ko,1,none⟩ = some (U Z ai)∧w'.cell? ⟨Ko,2,none⟩ = some (U Z ax)∧w'.cell? ⟨Ko,3,none⟩ = some (U Z ay)∧w'.cell? ⟨Ko,4,none⟩ = some (U Z aK)∧w'.cell? ⟨Ko,5,none⟩ = some (U Z aH)∧w'.cell? ⟨Ko,6,none⟩ = some (U Z aJ)∧w'.cell? ⟨Ko,7,none⟩ = some (.slice dG aR.length dH)∧w'.cell? ⟨Ko,8,none⟩ = some (.slice dJ aC.length dI)∧w'.cell? ⟨Px,0,none⟩ = some (U Z aQ)∧w'.cell? ⟨Px,1,none⟩ = some (U Z aM)∧w'.cell? ⟨Px,2,none⟩ = some (U Z bf)∧w'.cell? ⟨Px,3,none⟩ = some (U Z bg)∧w'.cell? ⟨Px,4,none⟩ = some (U Z bD)∧w'.cell? ⟨Px,5,none⟩ = some (U Z bE)∧w'.cell? ⟨Px,6,none⟩ = some (U Z bF)∧w'.cell? ⟨Nh,0,none⟩ = some (U Z bJ)∧w'.cell? ⟨Nh,1,none⟩ = some (U Z bK)∧w'.cell? ⟨Nh,2,none⟩ = some (U Z bM)∧w'.cell? ⟨Nh,3,none⟩ = some (U Z bN)) (ds:=[]) #[ac,ac,ac,ac,ac,ac,ac,ac,ac,ac,ac,ac,ac,ac,ac,ac,ac,ac,ac,ac,ac,ac,ac,ac,ac,ac,ac,ac,ac,ac,ac,ac,ac,ac,ac,ac,ac] aY rfl rfl (BI gH.out (agn iN.out (nV jd.out))) (fun hHeld=>?_);refine jg aD.aPG aD.aEK (fun cO lS=>?_)
         generalize aCp.drew = az9 at zM Ad Ae GV gH iN jd lg HB hHeld ⊢
         refine dW (i:=0) (N:=some 87) (aU cO.out aY) ?_
         refine dW (i:=1) (N:=some 88) (aU cO.out aY) ?_
         refine jJ (i:=2) (N:=some 89) #[ab,ab,ab,ac,ac,ac,ac,ac,ac,ac,ac,ac,ac,ac,ac,ac,ac,ac,ac,ac,ac,ac,ac,ac,ac,ac,ac,ac,ac,ac,ac,ac,ac,ac,ac,ac,ac] rfl rfl (gM cO.out aY) (by decide) (fun K hK=>?_)
         refine gQ Try.func32 aY rfl #[.slice aFd aaQ.length aFe,.slice aFf agC.length aFg] (by rfl) rfl rfl iG ?_
         with_reducible refine (bH.calls BZ _ _ aaQ _ _ agC true _ ?df ?dh ?dK ?dL A68.out).mono ?_
         (case df=>repeat (first|exact (Kd.fo zM.out).2.2|(with_reducible refine Kd.bA ?_ _)|(with_reducible refine Kd.bB ?_ _)|(with_reducible refine Kd.bQ ?_)))
         (case dh=>exact (Kd.fo zM.out).2.1)
         (case dK=>repeat (first|exact (Kd.fo Ad.out).2.2|(with_reducible refine Kd.bA ?_ _)|(with_reducible refine Kd.bB ?_ _)|(with_reducible refine Kd.bQ ?_)))
         (case dL=>exact (Kd.fo Ad.out).2.1)
         rintro e w' ⟨rfl,⟨nd,rfl⟩⟩
         refine ⟨_,rfl,?_⟩
         obtain ⟨aFh,aFi,aur⟩:=Kd.jI Ae.out
         (first|subst aur|(injection aur with f1_ f2_ f3_;have f4_:=f1_.symm;have f5_:=f3_.symm;clear f1_ f2_ f3_;subst f4_;subst f5_))
         obtain ⟨aFj,aFk,aus⟩:=Kd.jI GV.out
         (first|subst aus|(injection aus with f1_ f2_ f3_;have f4_:=f1_.symm;have f5_:=f3_.symm;clear f1_ f2_ f3_;subst f4_;subst f5_))
         refine hK.out _ _ (BI gH.out (agn iN.out (nV jd.out))) (fun hHeld=>?_)
         clear hK K
         refine eY (by show Act.put _ (some 89) _ = _;simp only [Act.put,List.setIfInBounds_toArray,List.set_cons_zero,List.set_cons_succ,eB,eH];rfl) ?_
         refine dW (i:=3) (N:=some 90) (aU cO.out aY) ?_
         refine dW (i:=4) (N:=some 91) (aU cO.out aY) ?_
         refine dW (i:=5) (N:=some 92) (aU cO.out aY) ?_
         refine dW (i:=6) (N:=some 93) (aU cO.out aY) ?_
         refine dW (i:=7) (N:=some 94) (aU cO.out aY) ?_
         refine dW (i:=8) (N:=some 95) (aU cO.out aY) ?_
         refine dW (i:=9) (N:=some 96) (aU cO.out aY) ?_
         refine dW (i:=10) (N:=some 97) (aU cO.out aY) ?_
         refine jJ (i:=11) (N:=some 98) #[ab,ab,ab,ab,ab,ab,ab,ab,ab,ab,ab,ab,ac,ac,ac,ac,ac,ac,ac,ac,ac,ac,ac,ac,ac,ac,ac,ac,ac,ac,ac,ac,ac,ac,ac,ac,ac] rfl rfl (gM cO.out aY) (by decide) (fun K hK=>?_)
         refine gQ Try.func32 aY rfl #[.slice aFh aaR.length aFi,.slice aFj agD.length aFk] (by rfl) rfl rfl iG ?_
         with_reducible refine (bH.calls BZ _ _ aaR _ _ agD true _ ?df ?dh ?dK ?dL A71.out).mono ?_
         (case df=>repeat (first|exact (Kd.fo Ae.out).2.2|(with_reducible refine Kd.bA ?_ _)|(with_reducible refine Kd.bB ?_ _)|(with_reducible refine Kd.bQ ?_)))
         (case dh=>exact (Kd.fo Ae.out).2.1)
         (case dK=>repeat (first|exact (Kd.fo GV.out).2.2|(with_reducible refine Kd.bA ?_ _)|(with_reducible refine Kd.bB ?_ _)|(with_reducible refine Kd.bQ ?_)))
         (case dL=>exact (Kd.fo GV.out).2.1)
         rintro e w' ⟨rfl,⟨nd,rfl⟩⟩
         refine ⟨_,rfl,?_⟩
         refine hK.out _ _ (BI gH.out (agn iN.out (nV jd.out))) (fun hHeld=>?_)
         clear hK K
         refine eY (by show Act.put _ (some 98) _ = _;simp only [Act.put,List.setIfInBounds_toArray,List.set_cons_zero,List.set_cons_succ,eB,eH];rfl) ?_
         refine dW (i:=12) (N:=some 99) (aU cO.out aY) ?_
         refine dW (i:=13) (N:=some 100) (aU cO.out aY) ?_
         refine dW (i:=14) (N:=some 101) (aU cO.out aY) ?_
         refine dW (i:=15) (N:=some 102) (aU cO.out aY) ?_
         refine dW (i:=16) (N:=some 103) (aU cO.out aY) ?_
         refine dW (i:=17) (N:=some 104) (aU cO.out aY) ?_
         refine dW (i:=18) (N:=some 105) (aU cO.out aY) ?_
         refine dW (i:=22) (N:=some 109) (aU cO.out aY) ?_
         refine dW (i:=23) (N:=some 110) (aU cO.out aY) ?_
         refine dW (i:=28) (N:=some 115) (aU cO.out aY) ?_
         refine dW (i:=29) (N:=some 116) (aU cO.out aY) ?_
         refine ja (i:=19) (N:=some 106) (bS cO.out lS.out aY) hHeld ?_
         refine ja (i:=20) (N:=some 107) (bS cO.out lS.out aY) hHeld ?_
         refine ja (i:=21) (N:=some 108) (bS cO.out lS.out aY) hHeld ?_
         refine ja (i:=25) (N:=some 112) (bS cO.out lS.out aY) hHeld ?_
         refine ja (i:=26) (N:=some 113) (bS cO.out lS.out aY) hHeld ?_
         refine ja (i:=27) (N:=some 114) (bS cO.out lS.out aY) hHeld ?_
         refine jJ (i:=24) (N:=some 111) #[ab,ab,ab,ab,ab,ab,ab,ab,ab,ab,ab,ab,ab,ab,ab,ab,ab,ab,ab,ab,ab,ab,ab,ab,ab,ab,ab,ab,ab,ab,ac,ac,ac,ac,ac,ac,ac] rfl rfl (gM cO.out aY) (by decide) (fun K hK=>?_)
         refine gQ Try.func51 aY rfl #[.agg #[U Z ah,U Z ai,U Z ax,U Z ay,U Z aK,U Z aH,U Z aJ,.slice dG aR.length dH,.slice dJ aC.length dI],.agg #[U Z aQ,U Z aM,U Z bf,U Z bg,U Z bD,U Z bE,U Z bF],.agg #[U Z bJ,U Z bK,U Z bM,U Z bN],U Z a3,.slice A5 l5.length c5] (by rfl) rfl rfl iG ?_
         with_reducible refine (fQ.calls ah ai ax ay aK aH aJ _ _ aR _ _ aC aQ aM bf bg bD bE bF bJ bK bM bN a3 _ _ l5 wF _ ?df ?dh ?dK ?dL ?ajW ?ajX A74.out).mono ?_
         (case df=>repeat (first|exact (Kd.bz gq.out fu)|(with_reducible refine Kd.bA ?_ _)|(with_reducible refine Kd.bB ?_ _)|(with_reducible refine Kd.bQ ?_)))
         (case dh=>exact gu.out)
         (case dK=>repeat (first|exact (Kd.bz fH.out fu)|(with_reducible refine Kd.bA ?_ _)|(with_reducible refine Kd.bB ?_ _)|(with_reducible refine Kd.bQ ?_)))
         (case dL=>exact gz.out)
         (case ajW=>repeat (first|exact (Kd.bz HR5.out fu)|(with_reducible refine Kd.bA ?_ _)|(with_reducible refine Kd.bB ?_ _)|(with_reducible refine Kd.bQ ?_)))
         (case ajX=>exact HC5.out)
         rintro e aOE ⟨rfl,hb⟩
         refine ⟨_,rfl,?_⟩
         replace zM:=uW zM hb
         replace Ad:=uW Ad hb
         replace Ae:=uW Ae hb
         replace GV:=uW GV hb
         replace gH:=bC gH hb
         replace iN:=bC iN hb
         replace jd:=bC jd hb
         replace lg:=bC lg hb
         replace HB:=dw HB hb
         (try clear hb)
         (try clear hb2)
         (try clear hk)
         (try clear hi)
         refine hK.out _ _ (BI gH.out (agn iN.out (nV jd.out))) (fun hHeld=>?_)
         clear hK K
         refine eY (by show Act.put _ (some 111) _ = _;simp only [Act.put,List.setIfInBounds_toArray,List.set_cons_zero,List.set_cons_succ,eB,eH];rfl) ?_
         refine jJ (i:=30) (N:=some 117) #[ab,ab,ab,ab,ab,ab,ab,ab,ab,ab,ab,ab,ab,ab,ab,ab,ab,ab,ab,ab,ab,ab,ab,ab,ab,ab,ab,ab,ab,ab,ab,ac,ac,ac,ac,ac,ac] rfl rfl (gM cO.out aY) (by decide) (fun K hK=>?_)
         refine gQ Try.func55 aY rfl #[.agg #[U Z ah,U Z ai,U Z ax,U Z ay,U Z aK,U Z aH,U Z aJ,.slice dG aR.length dH,.slice dJ aC.length dI],.agg #[U Z aQ,U Z aM,U Z bf,U Z bg,U Z bD,U Z bE,U Z bF],.agg #[U Z bJ,U Z bK,U Z bM,U Z bN],U Z a3,.slice A5 l5.length c5] (by rfl) rfl rfl iG ?_
         with_reducible refine (aA.calls BZ ah ai ax ay aK aH aJ _ _ aR _ _ aC aQ aM bf bg bD bE bF bJ bK bM bN a3 _ _ l5 wy _ ?df ?dh ?dK ?dL ?ajW ?ajX A75.out).mono ?_
         (case df=>repeat (first|exact (Kd.bz gq.out HB.out)|(with_reducible refine Kd.bA ?_ _)|(with_reducible refine Kd.bB ?_ _)|(with_reducible refine Kd.bQ ?_)))
         (case dh=>exact gu.out)
         (case dK=>repeat (first|exact (Kd.bz fH.out HB.out)|(with_reducible refine Kd.bA ?_ _)|(with_reducible refine Kd.bB ?_ _)|(with_reducible refine Kd.bQ ?_)))
         (case dL=>exact gz.out)
         (case ajW=>repeat (first|exact (Kd.bz HR5.out HB.out)|(with_reducible refine Kd.bA ?_ _)|(with_reducible refine Kd.bB ?_ _)|(with_reducible refine Kd.bQ ?_)))
         (case ajX=>exact HC5.out)
         rintro e aOF ⟨rfl,hb⟩
         refine ⟨_,rfl,?_⟩
         replace zM:=uW zM hb
         replace Ad:=uW Ad hb
         replace Ae:=uW Ae hb
         replace GV:=uW GV hb
         replace gH:=bC gH hb
         replace iN:=bC iN hb
         replace jd:=bC jd hb
         replace lg:=bC lg hb
         replace HB:=dw HB hb
         (try clear hb)
         (try clear hb2)
         (try clear hk)
         (try clear hi)
         refine hK.out _ _ (BI gH.out (agn iN.out (nV jd.out))) (fun hHeld=>?_)
         clear hK K
         refine eY (by show Act.put _ (some 117) _ = _;simp only [Act.put,List.setIfInBounds_toArray,List.set_cons_zero,List.set_cons_succ,eB,eH];rfl) ?_
         refine dW (i:=31) (N:=some 118) (aU cO.out aY) ?_
         refine dW (i:=32) (N:=some 119) (aU cO.out aY) ?_
         refine dW (i:=33) (N:=some 120) (aU cO.out aY) ?_
         refine jJ (i:=34) (N:=some 121) #[ab,ab,ab,ab,ab,ab,ab,ab,ab,ab,ab,ab,ab,ab,ab,ab,ab,ab,ab,ab,ab,ab,ab,ab,ab,ab,ab,ab,ab,ab,ab,ab,ab,ab,ab,ac,ac] rfl rfl (gM cO.out aY) (by decide) (fun K hK=>?_)
         refine gQ Try.func19 aY rfl #[] (by rfl) rfl rfl iG ?_
         with_reducible refine (bG.calls BZ zN _ A77.out).mono ?_
         rintro e aAm ⟨rfl,hb⟩
         refine ⟨_,rfl,?_⟩
         replace zM:=uW zM hb
         replace Ad:=uW Ad hb
         replace Ae:=uW Ae hb
         replace GV:=uW GV hb
         replace gH:=bC gH hb
         replace iN:=bC iN hb
         replace jd:=bC jd hb
         replace lg:=bC lg hb
         replace HB:=dw HB hb
         (try clear hb)
         (try clear hb2)
         (try clear hk)
         (try clear hi)
         refine hK.out _ _ (BI gH.out (agn iN.out (nV jd.out))) (fun hHeld=>?_)
         clear hK K
         refine eY (by show Act.put _ (some 121) _ = _;simp only [Act.put,List.setIfInBounds_toArray,List.set_cons_zero,List.set_cons_succ,eB,eH];rfl) ?_
         refine dW (i:=35) (N:=some 122) (aU cO.out aY) ?_
         refine dW (i:=36) (N:=some 14) (aU cO.out aY) ?_
         refine lI (lN cO.out aY) ?_
         try go_wp2
         go_ret
         exact ⟨kL,fu⟩
        ·rw [if_neg c76] at H
         have aEY:(wF == wy) = false:=beq_eq_false_iff_ne.mpr c76
         have aEZ:(wF != wy) = true:=bne_iff_ne.mpr c76
         have TK:=Option.some.inj H
         rw [hr_.out] at TK
         cases TK
       ·rw [if_neg Yp] at H
        have aua:(PV == Si) = false:=beq_eq_false_iff_ne.mpr Yp
        have aEV:(PV != Si) = true:=bne_iff_ne.mpr Yp
        have TK:=Option.some.inj H
        rw [hr_.out] at TK
        cases TK
      ·replace c72:=Bool.eq_false_iff.mpr c72
       subst c72
       have H1:(some false) = some r:=by rw [if_neg (show ¬ (false = true) by decide)] at H;exact H
       clear H
       have H:=H1
       clear H1
       have TK:=Option.some.inj H
       rw [hr_.out] at TK
       cases TK
     ·rw [if_neg c70] at H
      have aES:(PU == Sg) = false:=beq_eq_false_iff_ne.mpr c70
      have aET:(PU != Sg) = true:=bne_iff_ne.mpr c70
      have TK:=Option.some.inj H
      rw [hr_.out] at TK
      cases TK
    ·replace c69:=Bool.eq_false_iff.mpr c69
     subst c69
     have H1:(some false) = some r:=by rw [if_neg (show ¬ (false = true) by decide)] at H;exact H
     clear H
     have H:=H1
     clear H1
     have TK:=Option.some.inj H
     rw [hr_.out] at TK
     cases TK
end Go.Proofs.Ytmhaiihjfgfaoaa.Pr
end
