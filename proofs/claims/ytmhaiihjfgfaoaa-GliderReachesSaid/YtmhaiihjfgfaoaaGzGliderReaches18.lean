import Derived.Test.YtmhaiihjfgfaoaaGzGliderReaches3
import Derived.Test.YtmhaiihjfgfaoaaGzGliderReaches14
import Derived.Test.YtmhaiihjfgfaoaaGzGliderReaches15
import Derived.Test.YtmhaiihjfgfaoaaGzGliderReaches17
open Go.Value renaming int → U
open Go.IntKind renaming i64 → Z
open Bool renaming true → ab, false → ac
section
namespace Go.Proofs.Ytmhaiihjfgfaoaa.Pr
open Go.RowKit Go.Proofs.YtmhaiihjfgfaoaaW.PrintWords Go.Proofs.YtmhaiihjfgfaoaaW.PrintLast Go.Proofs.YtmhaiihjfgfaoaaW.PrintMore
attribute [local go_sem] eD eF fD fE eG
set_option linter.unusedVariables false
set_option linter.unusedSimpArgs false
def cZ.f (k:Nat) (ah:Int) (ai:Int) (ax:Int) (ay:Int) (aK:Int) (aH:Int) (aJ:Int) (aR:List Bool) (aC:List (oV)) (aQ:Int) (aM:Int) (bf:Int) (bg:Int) (bD:Int) (bE:Int) (bF:Int) (bJ:Int) (bK:Int) (bM:Int) (bN:Int) (a3:Int) (jr:Int) (iO:Int):Option (Int × Int × Int × Int):=(jU.f jr).bind fun Yf=>((fT.f k ah ai ax ay aK aH aJ aR aC aQ aM bf bg bD bE bF bJ bK bM bN).bind fun CE=>((aZ.f k ah ai ax ay aK aH aJ aR aC CE.1 CE.2.1 CE.2.2.1 CE.2.2.2 iO a3 (wrap64 (a3+aM))).bind fun vL=>((di.f k bJ bK (wrap64 (Yf.1*aQ)) vL.1 vL.2.1 aM).bind fun CF=>((di.f k bM bN (wrap64 (Yf.2*aQ)) vL.2.2.1 vL.2.2.2 aM).bind fun zL=>(some (CF.1,CF.2,zL.1,zL.2))))))
def cZ.T2:Bool × List (List Nat × List Nat):=(true,[([],[]),([],[]),([],[]),([],[]),([1,2,3],[1,2,3]),([],[]),([5],[5]),([],[]),([],[]),([],[]),([9],[9]),([8,10],[8,10]),([0,4,6,7,11,4],[0,4,6,7,11]),([],[]),([13,12,12,0,1,2,3,4,5,6,7,8,9,10,11,12,13],[12,13])])
def cZ.B2:List Nat:=[0,0,0,0,14,0,32,0,0,0,512,1792,4095,0,16383]
theorem cZ.ahK:qX .any (opsOf Try.f106 2) = cZ.T2:=by kernel_rfl
theorem cZ.XU:ou cZ.T2.2 cZ.B2 = true:=by kernel_rfl
def cZ.T3:Bool × List (List Nat × List Nat):=(true,[([],[]),([0],[0]),([],[]),([],[]),([3],[3]),([2,4],[2,4]),([],[]),([6],[6]),([],[]),([8],[8]),([1,5,7,9],[1,5,7,9]),([],[]),([11],[11]),([],[]),([],[]),([14],[14]),([13,15],[13,15]),([],[]),([17],[17]),([],[]),([19],[19]),([12,16,18,20,10],[12,16,18,20]),([10,21],[10,21]),([22,21,0,1,2,3,4,5,6,7,8,9,10,11,12,13,14,15,16,17,18,19,20,21,22],[22])])
def cZ.B3:List Nat:=[0,1,0,0,8,28,0,64,0,256,1023,0,2048,0,0,16384,57344,0,131072,0,524288,2097151,4194303,8388607]
theorem cZ.aOn:qX .any (opsOf Try.f106 3) = cZ.T3:=by kernel_rfl
theorem cZ.ayL:ou cZ.T3.2 cZ.B3 = true:=by kernel_rfl
set_option maxHeartbeats 8000000 in
set_option maxRecDepth 100000 in
theorem cZ.calls (k:Nat) (ah:Int) (ai:Int) (ax:Int) (ay:Int) (aK:Int) (aH:Int) (aJ:Int) (dG:Option Addr) (dH:Nat) (aR:List Bool) (dJ:Option Addr) (dI:Nat) (aC:List (oV)) (aQ:Int) (aM:Int) (bf:Int) (bg:Int) (bD:Int) (bE:Int) (bF:Int) (bJ:Int) (bK:Int) (bM:Int) (bN:Int) (a3:Int) (jr:Int) (iO:Int) (r1:Int) (r2:Int) (r3:Int) (r4:Int) (w:World) (iU:Kd.C Kd.bool w dG aR.length aR) (iV:aR.length≤dH) (iW:Kd.C DD w dJ aC.length aC) (iX:aC.length≤dI) (h:cZ.f k ah ai ax ay aK aH aJ aR aC aQ aM bf bg bD bE bF bJ bK bM bN a3 jr iO = some (r1,r2,r3,r4)):
 Calls Try.prog 106 #[.agg #[U Z ah,U Z ai,U Z ax,U Z ay,U Z aK,U Z aH,U Z aJ,.slice dG aR.length dH,.slice dJ aC.length dI],.agg #[U Z aQ,U Z aM,U Z bf,U Z bg,U Z bD,U Z bE,U Z bF],.agg #[U Z bJ,U Z bK,U Z bM,U Z bN],U Z a3,.agg #[U Z jr,U Z iO]] w fun e w'=>e = .returned (.agg #[U Z r1,U Z r2,U Z r3,U Z r4])∧Below w.heap.size w w':=by
 have zR:=Try.underlying25
 have Cb:=Try.underlying29
 have oP:=Try.underlying31
 have SH:=Try.underlying33
 have alc:=Try.underlying40
 have oo:=Try.underlying27
 have gq:=aa.mk iU
 have gu:=aa.mk iV
 clear iU iV
 have fH:=aa.mk iW
 have gz:=aa.mk iX
 clear iW iX
 have HB:=aa.mk (Below.refl w.heap.size w)
 have H:((jU.f jr).bind fun Yf=>((fT.f k ah ai ax ay aK aH aJ aR aC aQ aM bf bg bD bE bF bJ bK bM bN).bind fun CE=>((aZ.f k ah ai ax ay aK aH aJ aR aC CE.1 CE.2.1 CE.2.2.1 CE.2.2.2 iO a3 (wrap64 (a3+aM))).bind fun vL=>((di.f k bJ bK (wrap64 (Yf.1*aQ)) vL.1 vL.2.1 aM).bind fun CF=>((di.f k bM bN (wrap64 (Yf.2*aQ)) vL.2.2.1 vL.2.2.2 aM).bind fun zL=>(some (CF.1,CF.2,zL.1,zL.2))))))) = some (r1,r2,r3,r4):=h
 clear h
 replace H:=Option.bind_eq_some_iff.mp H
 obtain ⟨⟨afS,aak⟩,La,H⟩:=H
 replace H:((fT.f k ah ai ax ay aK aH aJ aR aC aQ aM bf bg bD bE bF bJ bK bM bN).bind fun CE=>((aZ.f k ah ai ax ay aK aH aJ aR aC CE.1 CE.2.1 CE.2.2.1 CE.2.2.2 iO a3 (wrap64 (a3+aM))).bind fun vL=>((di.f k bJ bK (wrap64 (afS*aQ)) vL.1 vL.2.1 aM).bind fun CF=>((di.f k bM bN (wrap64 (aak*aQ)) vL.2.2.1 vL.2.2.2 aM).bind fun zL=>(some (CF.1,CF.2,zL.1,zL.2)))))) = some (r1,r2,r3,r4):=H
 have A6:=aa.mk La
 clear La
 replace H:=Option.bind_eq_some_iff.mp H
 obtain ⟨⟨Td,Te,Tf,Tg⟩,A70,H⟩:=H
 replace H:((aZ.f k ah ai ax ay aK aH aJ aR aC Td Te Tf Tg iO a3 (wrap64 (a3+aM))).bind fun vL=>((di.f k bJ bK (wrap64 (afS*aQ)) vL.1 vL.2.1 aM).bind fun CF=>((di.f k bM bN (wrap64 (aak*aQ)) vL.2.2.1 vL.2.2.2 aM).bind fun zL=>(some (CF.1,CF.2,zL.1,zL.2))))) = some (r1,r2,r3,r4):=H
 have A7:=aa.mk A70
 clear A70
 replace H:=Option.bind_eq_some_iff.mp H
 obtain ⟨⟨Eh,FH,FI,G7⟩,TN,H⟩:=H
 replace H:((di.f k bJ bK (wrap64 (afS*aQ)) Eh FH aM).bind fun CF=>((di.f k bM bN (wrap64 (aak*aQ)) FI G7 aM).bind fun zL=>(some (CF.1,CF.2,zL.1,zL.2)))) = some (r1,r2,r3,r4):=H
 have A8:=aa.mk TN
 clear TN
 replace H:=Option.bind_eq_some_iff.mp H
 obtain ⟨⟨aal,afT⟩,A90,H⟩:=H
 replace H:((di.f k bM bN (wrap64 (aak*aQ)) FI G7 aM).bind fun zL=>(some (aal,afT,zL.1,zL.2))) = some (r1,r2,r3,r4):=H
 have A9:=aa.mk A90
 clear A90
 replace H:=Option.bind_eq_some_iff.mp H
 obtain ⟨⟨ani,avE⟩,FJ,H⟩:=H
 replace H:(some (aal,afT,ani,avE)) = some (r1,r2,r3,r4):=H
 have TH:=aa.mk FJ
 clear FJ
 simp only [Option.some.injEq,Prod.mk.injEq] at H
 obtain ⟨rfl,rfl,rfl,rfl⟩:=H
 go_enter Try.func106,Try.ntmps106
 try go_wp2_with (first|((with_reducible refine aG (N:=5) rfl ?_);refine az (by rfl) (N:=5) (by rfl) (cs:=#[U Z ah,U Z ai,U Z ax,U Z ay,U Z aK,U Z aH,U Z aJ,.slice dG aR.length dH,.slice dJ aC.length dI]) (t:=25) fM ?_;intro l9 hg w11 hbox hb;have dA:=aa.mk (hbox);have aRg:=dn HB hg;have aRh:=dn HB hg;replace HB:=dw HB hb;clear hb hbox hg)|((with_reducible refine aG (N:=6) rfl ?_);refine az (by rfl) (N:=6) (by rfl) (cs:=#[U Z aQ,U Z aM,U Z bf,U Z bg,U Z bD,U Z bE,U Z bF]) (t:=29) fM ?_;intro lU hg Nv hbox hb;have dD:=aa.mk (hbox);have aRi:=dn HB hg;have aRj:=dn HB hg;have aw0:=iq dA hg;have aw1:=iw dA hg;replace dA:=bC dA hb;replace HB:=dw HB hb;clear hb hbox hg)|((with_reducible refine aG (N:=7) rfl ?_);refine az (by rfl) (N:=7) (by rfl) (cs:=#[U Z bJ,U Z bK,U Z bM,U Z bN]) (t:=31) fM ?_;intro qV hg TA hbox hb;have eU:=aa.mk (hbox);have aRk:=dn HB hg;have aRl:=dn HB hg;have aw2:=iq dA hg;have aw3:=iw dA hg;have aw4:=iq dD hg;have aw5:=iw dD hg;replace dA:=bC dA hb;replace dD:=bC dD hb;replace HB:=dw HB hb;clear hb hbox hg)|((with_reducible refine aG (N:=9) rfl ?_);refine az (by rfl) (N:=9) (by rfl) (cs:=#[U Z jr,U Z iO]) (t:=33) fM ?_;intro Ei hg w14 hbox hb;have iY:=aa.mk (hbox);have aRm:=dn HB hg;have aRn:=dn HB hg;have afU:=iq dA hg;have afV:=iw dA hg;have afW:=iq dD hg;have afX:=iw dD hg;have afY:=iq eU hg;have afZ:=iw eU hg;replace dA:=bC dA hb;replace dD:=bC dD hb;replace eU:=bC eU hb;replace HB:=dw HB hb;clear hb hbox hg)|((with_reducible refine aG (N:=10) rfl ?_);refine az (by rfl) (N:=10) (by rfl) (cs:=#[U Z 0,U Z 0,U Z 0,U Z 0]) (t:=31) fM ?_;intro GU hg w15 hbox hb;have jN:=aa.mk (hbox);have aRo:=dn HB hg;have aRp:=dn HB hg;have II:=iq dA hg;have IJ:=iw dA hg;have fK:=iq dD hg;have IK:=iw dD hg;have jF:=iq eU hg;have IL:=iw eU hg;have Ej:=iq iY hg;have El:=iw iY hg;replace dA:=bC dA hb;replace dD:=bC dD hb;replace eU:=bC eU hb;replace iY:=bC iY hb;replace HB:=dw HB hb;clear hb hbox hg;have TL:=afV.out;have TM:=afU.out;have abt:=afX.out;have abu:=afW.out;have X3:=afZ.out;have X4:=afY.out;have aic:=Ej.out;have aid:=El.out;obtain ⟨AB,AJ,AL,AO⟩:=jq iY.out)|((with_reducible refine aN (f:=34) rfl ?_);refine bT (some 17) rfl rfl Try.func34 aY rfl #[U Z jr] rfl iG ?_;(with_reducible refine (jU.calls jr afS aak _ A6.out).mono ?_);rintro e w21 ⟨rfl,hb⟩;refine ⟨_,rfl,?_⟩;replace dA:=bC dA hb;replace dD:=bC dD hb;replace eU:=bC eU hb;replace iY:=bC iY hb;replace jN:=bC jN hb;replace HB:=dw HB hb;(try clear hb);(try clear hb2);(try clear hk);(try clear hi)))
 replace dA:=aa.mk (ag dA.out)
 replace dD:=aa.mk (ag dD.out)
 replace eU:=aa.mk (ag eU.out)
 replace iY:=aa.mk (ag iY.out)
 replace jN:=aa.mk (ag jN.out)
 replace HB:=aa.mk (bU HB.out)
 refine jT (n:=15) (S:=fun w'=>w'.cell? ⟨l9,0,none⟩ = some (U Z ah)∧w'.cell? ⟨l9,1,none⟩ = some (U Z ai)∧w'.cell? ⟨l9,2,none⟩ = some (U Z ax)∧w'.cell? ⟨l9,3,none⟩ = some (U Z ay)∧w'.cell? ⟨l9,4,none⟩ = some (U Z aK)∧w'.cell? ⟨l9,5,none⟩ = some (U Z aH)∧w'.cell? ⟨l9,6,none⟩ = some (U Z aJ)∧w'.cell? ⟨l9,7,none⟩ = some (.slice dG aR.length dH)∧w'.cell? ⟨l9,8,none⟩ = some (.slice dJ aC.length dI)∧w'.cell? ⟨lU,0,none⟩ = some (U Z aQ)∧w'.cell? ⟨lU,1,none⟩ = some (U Z aM)∧w'.cell? ⟨lU,2,none⟩ = some (U Z bf)∧w'.cell? ⟨lU,3,none⟩ = some (U Z bg)∧w'.cell? ⟨lU,4,none⟩ = some (U Z bD)∧w'.cell? ⟨lU,5,none⟩ = some (U Z bE)∧w'.cell? ⟨lU,6,none⟩ = some (U Z bF)∧w'.cell? ⟨qV,0,none⟩ = some (U Z bJ)∧w'.cell? ⟨qV,1,none⟩ = some (U Z bK)∧w'.cell? ⟨qV,2,none⟩ = some (U Z bM)∧w'.cell? ⟨qV,3,none⟩ = some (U Z bN)∧w'.cell? ⟨Ei,0,none⟩ = some (U Z jr)∧w'.cell? ⟨Ei,1,none⟩ = some (U Z iO)) (ds:=[]) #[ac,ac,ac,ac,ac,ac,ac,ac,ac,ac,ac,ac,ac,ac,ac] aY rfl rfl ⟨dz dA 0,dz dA 1,dz dA 2,dz dA 3,dz dA 4,dz dA 5,dz dA 6,dz dA 7,dz dA 8,dz dD 0,dz dD 1,dz dD 2,dz dD 3,dz dD 4,dz dD 5,dz dD 6,dz eU 0,dz eU 1,dz eU 2,dz eU 3,J9 iY.out⟩ (fun hHeld=>?_);refine jg cZ.ahK cZ.XU (fun cO lS=>?_)
 generalize w21.drew = w22 at dA dD eU iY jN HB hHeld ⊢
 refine dW (i:=5) (N:=some 25) (aU cO.out aY) ?_
 refine dW (i:=7) (N:=some 27) (aU cO.out aY) ?_
 refine dW (i:=8) (N:=some 28) (aU cO.out aY) ?_
 refine dW (i:=9) (N:=some 29) (aU cO.out aY) ?_
 refine ja (i:=0) (N:=some 20) (bS cO.out lS.out aY) hHeld ?_
 refine ja (i:=1) (N:=some 21) (bS cO.out lS.out aY) hHeld ?_
 refine ja (i:=2) (N:=some 22) (bS cO.out lS.out aY) hHeld ?_
 refine ja (i:=3) (N:=some 23) (bS cO.out lS.out aY) hHeld ?_
 refine ja (i:=6) (N:=some 26) (bS cO.out lS.out aY) hHeld ?_
 refine ja (i:=10) (N:=some 30) (bS cO.out lS.out aY) hHeld ?_
 refine dW (i:=11) (N:=some 31) (aU cO.out aY) ?_
 refine aa8 (σ:=Nat) 1 #[ab,ab,ab,ab,ab,ab,ab,ab,ab,ab,ab,ab,ab,ab,ac] (fun s_=>[(24,.agg #[U Z Td,U Z Te,U Z Tf,U Z Tg]),(32,.agg #[U Z Eh,U Z FH,U Z FI,U Z G7]),(13,.pointer (some ⟨s_,0,none⟩))]) (fun s_ w'=>(w'.cell? ⟨l9,0,none⟩ = some (U Z ah)∧w'.cell? ⟨l9,1,none⟩ = some (U Z ai)∧w'.cell? ⟨l9,2,none⟩ = some (U Z ax)∧w'.cell? ⟨l9,3,none⟩ = some (U Z ay)∧w'.cell? ⟨l9,4,none⟩ = some (U Z aK)∧w'.cell? ⟨l9,5,none⟩ = some (U Z aH)∧w'.cell? ⟨l9,6,none⟩ = some (U Z aJ)∧w'.cell? ⟨l9,7,none⟩ = some (.slice dG aR.length dH)∧w'.cell? ⟨l9,8,none⟩ = some (.slice dJ aC.length dI)∧w'.cell? ⟨lU,0,none⟩ = some (U Z aQ)∧w'.cell? ⟨lU,1,none⟩ = some (U Z aM)∧w'.cell? ⟨lU,2,none⟩ = some (U Z bf)∧w'.cell? ⟨lU,3,none⟩ = some (U Z bg)∧w'.cell? ⟨lU,4,none⟩ = some (U Z bD)∧w'.cell? ⟨lU,5,none⟩ = some (U Z bE)∧w'.cell? ⟨lU,6,none⟩ = some (U Z bF)∧w'.cell? ⟨qV,0,none⟩ = some (U Z bJ)∧w'.cell? ⟨qV,1,none⟩ = some (U Z bK)∧w'.cell? ⟨qV,2,none⟩ = some (U Z bM)∧w'.cell? ⟨qV,3,none⟩ = some (U Z bN)∧w'.cell? ⟨Ei,0,none⟩ = some (U Z jr)∧w'.cell? ⟨Ei,1,none⟩ = some (U Z iO))∧(w'.heap[l9]? = some (.cells #[U Z ah,U Z ai,U Z ax,U Z ay,U Z aK,U Z aH,U Z aJ,.slice dG aR.length dH,.slice dJ aC.length dI] 25 (0,0)))∧(w'.heap[lU]? = some (.cells #[U Z aQ,U Z aM,U Z bf,U Z bg,U Z bD,U Z bE,U Z bF] 29 (0,0)))∧(w'.heap[qV]? = some (.cells #[U Z bJ,U Z bK,U Z bM,U Z bN] 31 (0,0)))∧(w'.heap[Ei]? = some (.cells #[U Z jr,U Z iO] 33 (0,0)))∧(w'.heap[GU]? = some (.cells #[U Z 0,U Z 0,U Z 0,U Z 0] 31 (0,0)))∧(w'.heap[s_]? = some (.cells #[U Z 0,U Z 0,U Z 0,U Z 0] 40 (0,0)))∧(w.heap.size≤s_)∧(w.heap.size≤s_)∧(l9≠s_)∧(s_≠l9)∧(lU≠s_)∧(s_≠lU)∧(qV≠s_)∧(s_≠qV)∧(Ei≠s_)∧(s_≠Ei)∧(GU≠s_)∧(s_≠GU)∧(Below w.heap.size w w')) ?_ ?_
 rotate_left
 ·intro hCont
  refine afa (i:=4) (j:=13) (Ni:=some 24) (Nj:=some 13) #[ab,ab,ab,ab,ab,ab,ab,ab,ab,ab,ab,ab,ac,ac,ac] #[ab,ab,ab,ab,ac,ab,ab,ab,ab,ab,ab,ab,ac,ab,ac] rfl rfl rfl rfl (U0 cO.out aY) (by decide) (by decide) (fun K hK=>?_) (fun K hK=>?_)
  ·skip
   refine gQ Try.func133 aY rfl #[.agg #[U Z ah,U Z ai,U Z ax,U Z ay,U Z aK,U Z aH,U Z aJ,.slice dG aR.length dH,.slice dJ aC.length dI],.agg #[U Z aQ,U Z aM,U Z bf,U Z bg,U Z bD,U Z bE,U Z bF],.agg #[U Z bJ,U Z bK,U Z bM,U Z bN]] (by rfl) rfl rfl iG ?_
   with_reducible refine (fT.calls k ah ai ax ay aK aH aJ _ _ aR _ _ aC aQ aM bf bg bD bE bF bJ bK bM bN Td Te Tf Tg _ ?df ?dh ?dK ?dL A7.out).mono ?_
   (case df=>repeat (first|exact (Kd.bz gq.out HB.out)|(with_reducible refine Kd.bA ?_ _)|(with_reducible refine Kd.bB ?_ _)|(with_reducible refine Kd.bQ ?_)))
   (case dh=>exact gu.out)
   (case dK=>repeat (first|exact (Kd.bz fH.out HB.out)|(with_reducible refine Kd.bA ?_ _)|(with_reducible refine Kd.bB ?_ _)|(with_reducible refine Kd.bQ ?_)))
   (case dL=>exact gz.out)
   rintro e w23 ⟨rfl,hb⟩
   refine ⟨_,rfl,?_⟩
   replace dA:=bC dA hb
   replace dD:=bC dD hb
   replace eU:=bC eU hb
   replace iY:=bC iY hb
   replace jN:=bC jN hb
   replace HB:=dw HB hb
   (try clear hb)
   (try clear hb2)
   (try clear hk)
   (try clear hi)
   refine hK.out _ _ ⟨dz dA 0,dz dA 1,dz dA 2,dz dA 3,dz dA 4,dz dA 5,dz dA 6,dz dA 7,dz dA 8,dz dD 0,dz dD 1,dz dD 2,dz dD 3,dz dD 4,dz dD 5,dz dD 6,dz eU 0,dz eU 1,dz eU 2,dz eU 3,J9 iY.out⟩ (fun hHeld=>?_)
   clear hK K
   refine eY akE ?_
   refine afa (i:=12) (j:=13) (Ni:=some 32) (Nj:=some 13) #[ab,ab,ab,ab,ab,ab,ab,ab,ab,ab,ab,ab,ab,ac,ac] #[ab,ab,ab,ab,ab,ab,ab,ab,ab,ab,ab,ab,ac,ab,ac] rfl rfl rfl rfl (U0 cO.out aY) (by decide) (by decide) (fun K hK=>?_) (fun K hK=>?_)
   ·skip
    refine gQ Try.func73 aY rfl #[.agg #[U Z ah,U Z ai,U Z ax,U Z ay,U Z aK,U Z aH,U Z aJ,.slice dG aR.length dH,.slice dJ aC.length dI],.agg #[U Z Td,U Z Te,U Z Tf,U Z Tg],U Z iO,U Z a3,U Z (wrap64 (a3+aM))] (by rfl) rfl rfl iG ?_
    with_reducible refine (aZ.calls k ah ai ax ay aK aH aJ _ _ aR _ _ aC Td Te Tf Tg iO a3 (wrap64 (a3+aM)) Eh FH FI G7 _ ?df ?dh ?dK ?dL A8.out).mono ?_
    (case df=>repeat (first|exact (Kd.bz gq.out HB.out)|(with_reducible refine Kd.bA ?_ _)|(with_reducible refine Kd.bB ?_ _)|(with_reducible refine Kd.bQ ?_)))
    (case dh=>exact gu.out)
    (case dK=>repeat (first|exact (Kd.bz fH.out HB.out)|(with_reducible refine Kd.bA ?_ _)|(with_reducible refine Kd.bB ?_ _)|(with_reducible refine Kd.bQ ?_)))
    (case dL=>exact gz.out)
    rintro e w24 ⟨rfl,hb⟩
    refine ⟨_,rfl,?_⟩
    replace dA:=bC dA hb
    replace dD:=bC dD hb
    replace eU:=bC eU hb
    replace iY:=bC iY hb
    replace jN:=bC jN hb
    replace HB:=dw HB hb
    (try clear hb)
    (try clear hb2)
    (try clear hk)
    (try clear hi)
    refine hK.out _ _ ⟨dz dA 0,dz dA 1,dz dA 2,dz dA 3,dz dA 4,dz dA 5,dz dA 6,dz dA 7,dz dA 8,dz dD 0,dz dD 1,dz dD 2,dz dD 3,dz dD 4,dz dD 5,dz dD 6,dz eU 0,dz eU 1,dz eU 2,dz eU 3,J9 iY.out⟩ (fun hHeld=>?_)
    clear hK K
    refine eY avF ?_
    refine jJ (i:=13) (N:=some 13) #[ab,ab,ab,ab,ab,ab,ab,ab,ab,ab,ab,ab,ab,ab,ac] rfl rfl (gM cO.out aY) (by decide) (fun K hK=>?_)
    refine D5 ?hg (N:=13) ?hd (cs:=#[U Z 0,U Z 0,U Z 0,U Z 0]) (t:=40) ?hr ?_;(case hd=>rfl);(case hg=>rfl);(case hr=>first|(go_simp;done)|(go_simp;rfl))
    intro iA hg w25 hbox hb
    have kY:=aa.mk (hbox)
    have TY:=dn HB hg
    have TZ:=dn HB hg
    have dV:=iq dA hg
    have qg:=iw dA hg
    have eZ:=iq dD hg
    have qh:=iw dD hg
    have gW:=iq eU hg
    have qi:=iw eU hg
    have j4:=iq iY hg
    have qj:=iw iY hg
    have ma:=iq jN hg
    have fZ:=iw jN hg
    replace dA:=bC dA hb
    replace dD:=bC dD hb
    replace eU:=bC eU hb
    replace iY:=bC iY hb
    replace jN:=bC jN hb
    replace HB:=dw HB hb
    clear hb hbox hg
    refine hK.out _ _ ⟨dz dA 0,dz dA 1,dz dA 2,dz dA 3,dz dA 4,dz dA 5,dz dA 6,dz dA 7,dz dA 8,dz dD 0,dz dD 1,dz dD 2,dz dD 3,dz dD 4,dz dD 5,dz dD 6,dz eU 0,dz eU 1,dz eU 2,dz eU 3,J9 iY.out⟩ (fun hHeld=>?_)
    clear hK K
    refine eY ZK ?_
    exact eY afh (hCont (iA) _ ⟨hHeld,fB,fB,fB,fB,fB,fB,TY.out,TZ.out,dV.out,qg.out,eZ.out,qh.out,gW.out,qi.out,j4.out,qj.out,ma.out,fZ.out,fu⟩)
   ·skip
    refine D5 ?hg (N:=13) ?hd (cs:=#[U Z 0,U Z 0,U Z 0,U Z 0]) (t:=40) ?hr ?_;(case hd=>rfl);(case hg=>rfl);(case hr=>first|(go_simp;done)|(go_simp;rfl))
    intro iA hg w24 hbox hb
    have kY:=aa.mk (hbox)
    have TY:=dn HB hg
    have TZ:=dn HB hg
    have dV:=iq dA hg
    have qg:=iw dA hg
    have eZ:=iq dD hg
    have qh:=iw dD hg
    have gW:=iq eU hg
    have qi:=iw eU hg
    have j4:=iq iY hg
    have qj:=iw iY hg
    have ma:=iq jN hg
    have fZ:=iw jN hg
    replace dA:=bC dA hb
    replace dD:=bC dD hb
    replace eU:=bC eU hb
    replace iY:=bC iY hb
    replace jN:=bC jN hb
    replace HB:=dw HB hb
    clear hb hbox hg
    refine hK.out _ _ ⟨dz dA 0,dz dA 1,dz dA 2,dz dA 3,dz dA 4,dz dA 5,dz dA 6,dz dA 7,dz dA 8,dz dD 0,dz dD 1,dz dD 2,dz dD 3,dz dD 4,dz dD 5,dz dD 6,dz eU 0,dz eU 1,dz eU 2,dz eU 3,J9 iY.out⟩ (fun hHeld=>?_)
    clear hK K
    refine eY ZK ?_
    refine jJ (i:=12) (N:=some 32) #[ab,ab,ab,ab,ab,ab,ab,ab,ab,ab,ab,ab,ab,ab,ac] rfl rfl (gM cO.out aY) (by decide) (fun K hK=>?_)
    refine gQ Try.func73 aY rfl #[.agg #[U Z ah,U Z ai,U Z ax,U Z ay,U Z aK,U Z aH,U Z aJ,.slice dG aR.length dH,.slice dJ aC.length dI],.agg #[U Z Td,U Z Te,U Z Tf,U Z Tg],U Z iO,U Z a3,U Z (wrap64 (a3+aM))] (by rfl) rfl rfl iG ?_
    with_reducible refine (aZ.calls k ah ai ax ay aK aH aJ _ _ aR _ _ aC Td Te Tf Tg iO a3 (wrap64 (a3+aM)) Eh FH FI G7 _ ?df ?dh ?dK ?dL A8.out).mono ?_
    (case df=>repeat (first|exact (Kd.bz gq.out HB.out)|(with_reducible refine Kd.bA ?_ _)|(with_reducible refine Kd.bB ?_ _)|(with_reducible refine Kd.bQ ?_)))
    (case dh=>exact gu.out)
    (case dK=>repeat (first|exact (Kd.bz fH.out HB.out)|(with_reducible refine Kd.bA ?_ _)|(with_reducible refine Kd.bB ?_ _)|(with_reducible refine Kd.bQ ?_)))
    (case dL=>exact gz.out)
    rintro e w25 ⟨rfl,hb⟩
    refine ⟨_,rfl,?_⟩
    replace dA:=bC dA hb
    replace dD:=bC dD hb
    replace eU:=bC eU hb
    replace iY:=bC iY hb
    replace jN:=bC jN hb
    replace kY:=bC kY hb
    replace HB:=dw HB hb
    (try clear hb)
    (try clear hb2)
    (try clear hk)
    (try clear hi)
    refine hK.out _ _ ⟨dz dA 0,dz dA 1,dz dA 2,dz dA 3,dz dA 4,dz dA 5,dz dA 6,dz dA 7,dz dA 8,dz dD 0,dz dD 1,dz dD 2,dz dD 3,dz dD 4,dz dD 5,dz dD 6,dz eU 0,dz eU 1,dz eU 2,dz eU 3,J9 iY.out⟩ (fun hHeld=>?_)
    clear hK K
    refine eY avF ?_
    exact eY afh (hCont (iA) _ ⟨hHeld,fB,fB,fB,fB,fB,fB,TY.out,TZ.out,dV.out,qg.out,eZ.out,qh.out,gW.out,qi.out,j4.out,qj.out,ma.out,fZ.out,fu⟩)
  ·skip
   refine D5 ?hg (N:=13) ?hd (cs:=#[U Z 0,U Z 0,U Z 0,U Z 0]) (t:=40) ?hr ?_;(case hd=>rfl);(case hg=>rfl);(case hr=>first|(go_simp;done)|(go_simp;rfl))
   intro iA hg w23 hbox hb
   have kY:=aa.mk (hbox)
   have TY:=dn HB hg
   have TZ:=dn HB hg
   have dV:=iq dA hg
   have qg:=iw dA hg
   have eZ:=iq dD hg
   have qh:=iw dD hg
   have gW:=iq eU hg
   have qi:=iw eU hg
   have j4:=iq iY hg
   have qj:=iw iY hg
   have ma:=iq jN hg
   have fZ:=iw jN hg
   replace dA:=bC dA hb
   replace dD:=bC dD hb
   replace eU:=bC eU hb
   replace iY:=bC iY hb
   replace jN:=bC jN hb
   replace HB:=dw HB hb
   clear hb hbox hg
   refine hK.out _ _ ⟨dz dA 0,dz dA 1,dz dA 2,dz dA 3,dz dA 4,dz dA 5,dz dA 6,dz dA 7,dz dA 8,dz dD 0,dz dD 1,dz dD 2,dz dD 3,dz dD 4,dz dD 5,dz dD 6,dz eU 0,dz eU 1,dz eU 2,dz eU 3,J9 iY.out⟩ (fun hHeld=>?_)
   clear hK K
   refine eY ZK ?_
   refine jJ (i:=4) (N:=some 24) #[ab,ab,ab,ab,ab,ab,ab,ab,ab,ab,ab,ab,ac,ab,ac] rfl rfl (gM cO.out aY) (by decide) (fun K hK=>?_)
   refine gQ Try.func133 aY rfl #[.agg #[U Z ah,U Z ai,U Z ax,U Z ay,U Z aK,U Z aH,U Z aJ,.slice dG aR.length dH,.slice dJ aC.length dI],.agg #[U Z aQ,U Z aM,U Z bf,U Z bg,U Z bD,U Z bE,U Z bF],.agg #[U Z bJ,U Z bK,U Z bM,U Z bN]] (by rfl) rfl rfl iG ?_
   with_reducible refine (fT.calls k ah ai ax ay aK aH aJ _ _ aR _ _ aC aQ aM bf bg bD bE bF bJ bK bM bN Td Te Tf Tg _ ?df ?dh ?dK ?dL A7.out).mono ?_
   (case df=>repeat (first|exact (Kd.bz gq.out HB.out)|(with_reducible refine Kd.bA ?_ _)|(with_reducible refine Kd.bB ?_ _)|(with_reducible refine Kd.bQ ?_)))
   (case dh=>exact gu.out)
   (case dK=>repeat (first|exact (Kd.bz fH.out HB.out)|(with_reducible refine Kd.bA ?_ _)|(with_reducible refine Kd.bB ?_ _)|(with_reducible refine Kd.bQ ?_)))
   (case dL=>exact gz.out)
   rintro e w24 ⟨rfl,hb⟩
   refine ⟨_,rfl,?_⟩
   replace dA:=bC dA hb
   replace dD:=bC dD hb
   replace eU:=bC eU hb
   replace iY:=bC iY hb
   replace jN:=bC jN hb
   replace kY:=bC kY hb
   replace HB:=dw HB hb
   (try clear hb)
   (try clear hb2)
   (try clear hk)
   (try clear hi)
   refine hK.out _ _ ⟨dz dA 0,dz dA 1,dz dA 2,dz dA 3,dz dA 4,dz dA 5,dz dA 6,dz dA 7,dz dA 8,dz dD 0,dz dD 1,dz dD 2,dz dD 3,dz dD 4,dz dD 5,dz dD 6,dz eU 0,dz eU 1,dz eU 2,dz eU 3,J9 iY.out⟩ (fun hHeld=>?_)
   clear hK K
   refine eY akE ?_
   refine jJ (i:=12) (N:=some 32) #[ab,ab,ab,ab,ab,ab,ab,ab,ab,ab,ab,ab,ab,ab,ac] rfl rfl (gM cO.out aY) (by decide) (fun K hK=>?_)
   refine gQ Try.func73 aY rfl #[.agg #[U Z ah,U Z ai,U Z ax,U Z ay,U Z aK,U Z aH,U Z aJ,.slice dG aR.length dH,.slice dJ aC.length dI],.agg #[U Z Td,U Z Te,U Z Tf,U Z Tg],U Z iO,U Z a3,U Z (wrap64 (a3+aM))] (by rfl) rfl rfl iG ?_
   with_reducible refine (aZ.calls k ah ai ax ay aK aH aJ _ _ aR _ _ aC Td Te Tf Tg iO a3 (wrap64 (a3+aM)) Eh FH FI G7 _ ?df ?dh ?dK ?dL A8.out).mono ?_
   (case df=>repeat (first|exact (Kd.bz gq.out HB.out)|(with_reducible refine Kd.bA ?_ _)|(with_reducible refine Kd.bB ?_ _)|(with_reducible refine Kd.bQ ?_)))
   (case dh=>exact gu.out)
   (case dK=>repeat (first|exact (Kd.bz fH.out HB.out)|(with_reducible refine Kd.bA ?_ _)|(with_reducible refine Kd.bB ?_ _)|(with_reducible refine Kd.bQ ?_)))
   (case dL=>exact gz.out)
   rintro e w25 ⟨rfl,hb⟩
   refine ⟨_,rfl,?_⟩
   replace dA:=bC dA hb
   replace dD:=bC dD hb
   replace eU:=bC eU hb
   replace iY:=bC iY hb
   replace jN:=bC jN hb
   replace kY:=bC kY hb
   replace HB:=dw HB hb
   (try clear hb)
   (try clear hb2)
   (try clear hk)
   (try clear hi)
   refine hK.out _ _ ⟨dz dA 0,dz dA 1,dz dA 2,dz dA 3,dz dA 4,dz dA 5,dz dA 6,dz dA 7,dz dA 8,dz dD 0,dz dD 1,dz dD 2,dz dD 3,dz dD 4,dz dD 5,dz dD 6,dz eU 0,dz eU 1,dz eU 2,dz eU 3,J9 iY.out⟩ (fun hHeld=>?_)
   clear hK K
   refine eY avF ?_
   exact eY afh (hCont (iA) _ ⟨hHeld,fB,fB,fB,fB,fB,fB,TY.out,TZ.out,dV.out,qg.out,eZ.out,qh.out,gW.out,qi.out,j4.out,qj.out,ma.out,fZ.out,fu⟩)
 rintro iA Cc ⟨hS_,h0_,h1_,h2_,h3_,h4_,h5_,h6_,h7_,h8_,h9_,ahO,ahP,ayN,ayO,ayP,ayQ,ayR,ayS,ayT⟩
 have x9:aa (Cc.heap[l9]? = some (.cells #[U Z ah,U Z ai,U Z ax,U Z ay,U Z aK,U Z aH,U Z aJ,.slice dG aR.length dH,.slice dJ aC.length dI] 25 (0,0))):=⟨h0_⟩
 have yc:aa (Cc.heap[lU]? = some (.cells #[U Z aQ,U Z aM,U Z bf,U Z bg,U Z bD,U Z bE,U Z bF] 29 (0,0))):=⟨h1_⟩
 have yf:aa (Cc.heap[qV]? = some (.cells #[U Z bJ,U Z bK,U Z bM,U Z bN] 31 (0,0))):=⟨h2_⟩
 have yg:aa (Cc.heap[Ei]? = some (.cells #[U Z jr,U Z iO] 33 (0,0))):=⟨h3_⟩
 have Bf:aa (Cc.heap[GU]? = some (.cells #[U Z 0,U Z 0,U Z 0,U Z 0] 31 (0,0))):=⟨h4_⟩
 have Li:aa (Cc.heap[iA]? = some (.cells #[U Z 0,U Z 0,U Z 0,U Z 0] 40 (0,0))):=⟨h5_⟩
 have Zw:aa (w.heap.size≤iA):=⟨h6_⟩
 have n7_:aa (w.heap.size≤iA):=⟨h7_⟩
 have n8_:aa (l9≠iA):=⟨h8_⟩
 have n9_:aa (iA≠l9):=⟨h9_⟩
 have ahQ:aa (lU≠iA):=⟨ahO⟩
 have ahR:aa (iA≠lU):=⟨ahP⟩
 have ayU:aa (qV≠iA):=⟨ayN⟩
 have ayV:aa (iA≠qV):=⟨ayO⟩
 have ayW:aa (Ei≠iA):=⟨ayP⟩
 have ayX:aa (iA≠Ei):=⟨ayQ⟩
 have ayY:aa (GU≠iA):=⟨ayR⟩
 have ayZ:aa (iA≠GU):=⟨ayS⟩
 have ay0:aa (Below w.heap.size w Cc):=⟨ayT⟩
 clear dA dD eU iY jN HB
 clear h0_ h1_ h2_ h3_ h4_ h5_ h6_ h7_ h8_ h9_ ahO ahP ayN ayO ayP ayQ ayR ayS ayT
 have dA:=x9
 have dD:=yc
 have eU:=yf
 have iY:=yg
 have jN:=Bf
 have kY:=Li
 have TY:=Zw
 have TZ:=n7_
 have dV:=n8_
 have qg:=n9_
 have eZ:=ahQ
 have qh:=ahR
 have gW:=ayU
 have qi:=ayV
 have j4:=ayW
 have qj:=ayX
 have ma:=ayY
 have fZ:=ayZ
 have HB:=ay0
 clear x9 yc yf yg Bf Li Zw n7_ n8_ n9_ ahQ ahR ayU ayV ayW ayX ayY ayZ ay0
 have hHeld:Cc.cell? ⟨l9,0,none⟩ = some (U Z ah)∧Cc.cell? ⟨l9,1,none⟩ = some (U Z ai)∧Cc.cell? ⟨l9,2,none⟩ = some (U Z ax)∧Cc.cell? ⟨l9,3,none⟩ = some (U Z ay)∧Cc.cell? ⟨l9,4,none⟩ = some (U Z aK)∧Cc.cell? ⟨l9,5,none⟩ = some (U Z aH)∧Cc.cell? ⟨l9,6,none⟩ = some (U Z aJ)∧Cc.cell? ⟨l9,7,none⟩ = some (.slice dG aR.length dH)∧Cc.cell? ⟨l9,8,none⟩ = some (.slice dJ aC.length dI)∧Cc.cell? ⟨lU,0,none⟩ = some (U Z aQ)∧Cc.cell? ⟨lU,1,none⟩ = some (U Z aM)∧Cc.cell? ⟨lU,2,none⟩ = some (U Z bf)∧Cc.cell? ⟨lU,3,none⟩ = some (U Z bg)∧Cc.cell? ⟨lU,4,none⟩ = some (U Z bD)∧Cc.cell? ⟨lU,5,none⟩ = some (U Z bE)∧Cc.cell? ⟨lU,6,none⟩ = some (U Z bF)∧Cc.cell? ⟨qV,0,none⟩ = some (U Z bJ)∧Cc.cell? ⟨qV,1,none⟩ = some (U Z bK)∧Cc.cell? ⟨qV,2,none⟩ = some (U Z bM)∧Cc.cell? ⟨qV,3,none⟩ = some (U Z bN)∧Cc.cell? ⟨Ei,0,none⟩ = some (U Z jr)∧Cc.cell? ⟨Ei,1,none⟩ = some (U Z iO):=hS_
 refine eY (a':=?_) ?_ ?_
 rotate_left
 ·simp only [Dz,Act.put,List.setIfInBounds_toArray,List.set_cons_zero,List.set_cons_succ]
  rfl
 refine jJ (i:=14) (N:=none) #[ab,ab,ab,ab,ab,ab,ab,ab,ab,ab,ab,ab,ab,ab,ab] rfl rfl (gM cO.out aY) (by decide) (fun K hK=>?_)
 have aT1:Cc.cell? ⟨iA,0,none⟩ = some (U Z 0):=(af kY.out 0).trans rfl
 have aRq:=bn kY.out 0
 have aHl:=dV.out
 have aHm:=eZ.out
 have aHn:=gW.out
 have aHo:=j4.out
 have aHp:=ma.out
 have aHq:=qg.out
 have aHr:=qh.out
 have aHs:=qi.out
 have aHt:=qj.out
 have aHu:=fZ.out
 have aT2:Cc.cell? ⟨iA,1,none⟩ = some (U Z 0):=(af kY.out 1).trans rfl
 have aRr:=bn kY.out 1
 have aHv:=dV.out
 have aHw:=eZ.out
 have aHx:=gW.out
 have aHy:=j4.out
 have aHz:=ma.out
 have aHA:=qg.out
 have aHB:=qh.out
 have aHC:=qi.out
 have aHD:=qj.out
 have aHE:=fZ.out
 have aT3:Cc.cell? ⟨iA,2,none⟩ = some (U Z 0):=(af kY.out 2).trans rfl
 have aRs:=bn kY.out 2
 have aHF:=dV.out
 have aHG:=eZ.out
 have aHH:=gW.out
 have aHI:=j4.out
 have aHJ:=ma.out
 have aHK:=qg.out
 have aHL:=qh.out
 have aHM:=qi.out
 have aHN:=qj.out
 have aHO:=fZ.out
 have aT4:Cc.cell? ⟨iA,3,none⟩ = some (U Z 0):=(af kY.out 3).trans rfl
 have aRt:=bn kY.out 3
 have aHP:=dV.out
 have aHQ:=eZ.out
 have aHR:=gW.out
 have aHS:=j4.out
 have aHT:=ma.out
 have aHU:=qg.out
 have aHV:=qh.out
 have aHW:=qi.out
 have aHX:=qj.out
 have aHY:=fZ.out
 refine zD (w1:=?_) (by rfl) rfl ?_ ?_
 rotate_left
 ·go_simp
  rfl
 refine hK.out _ _ ⟨(fO dV ((fO dV ((fO dV ((fO dV (hHeld.1)))))))),(fO dV ((fO dV ((fO dV ((fO dV (hHeld.2.1)))))))),(fO dV ((fO dV ((fO dV ((fO dV (hHeld.2.2.1)))))))),(fO dV ((fO dV ((fO dV ((fO dV (hHeld.2.2.2.1)))))))),(fO dV ((fO dV ((fO dV ((fO dV (hHeld.2.2.2.2.1)))))))),(fO dV ((fO dV ((fO dV ((fO dV (hHeld.2.2.2.2.2.1)))))))),(fO dV ((fO dV ((fO dV ((fO dV (hHeld.2.2.2.2.2.2.1)))))))),(fO dV ((fO dV ((fO dV ((fO dV (hHeld.2.2.2.2.2.2.2.1)))))))),(fO dV ((fO dV ((fO dV ((fO dV (hHeld.2.2.2.2.2.2.2.2.1)))))))),(fO eZ ((fO eZ ((fO eZ ((fO eZ (hHeld.2.2.2.2.2.2.2.2.2.1)))))))),(fO eZ ((fO eZ ((fO eZ ((fO eZ (hHeld.2.2.2.2.2.2.2.2.2.2.1)))))))),(fO eZ ((fO eZ ((fO eZ ((fO eZ (hHeld.2.2.2.2.2.2.2.2.2.2.2.1)))))))),(fO eZ ((fO eZ ((fO eZ ((fO eZ (hHeld.2.2.2.2.2.2.2.2.2.2.2.2.1)))))))),(fO eZ ((fO eZ ((fO eZ ((fO eZ (hHeld.2.2.2.2.2.2.2.2.2.2.2.2.2.1)))))))),(fO eZ ((fO eZ ((fO eZ ((fO eZ (hHeld.2.2.2.2.2.2.2.2.2.2.2.2.2.2.1)))))))),(fO eZ ((fO eZ ((fO eZ ((fO eZ (hHeld.2.2.2.2.2.2.2.2.2.2.2.2.2.2.2.1)))))))),(fO gW ((fO gW ((fO gW ((fO gW (hHeld.2.2.2.2.2.2.2.2.2.2.2.2.2.2.2.2.1)))))))),(fO gW ((fO gW ((fO gW ((fO gW (hHeld.2.2.2.2.2.2.2.2.2.2.2.2.2.2.2.2.2.1)))))))),(fO gW ((fO gW ((fO gW ((fO gW (hHeld.2.2.2.2.2.2.2.2.2.2.2.2.2.2.2.2.2.2.1)))))))),(fO gW ((fO gW ((fO gW ((fO gW (hHeld.2.2.2.2.2.2.2.2.2.2.2.2.2.2.2.2.2.2.2.1)))))))),(fO j4 ((fO j4 ((fO j4 ((fO j4 (hHeld.2.2.2.2.2.2.2.2.2.2.2.2.2.2.2.2.2.2.2.2.1)))))))),(fO j4 ((fO j4 ((fO j4 ((fO j4 (hHeld.2.2.2.2.2.2.2.2.2.2.2.2.2.2.2.2.2.2.2.2.2))))))))⟩ (fun hHeld=>?_)
 clear hK K
 refine lI (lN cO.out aY) ?_
 try go_wp2
 have x9:aa (((((Cc.setCell ⟨iA,0,none⟩ (U Z Eh)).setCell ⟨iA,1,none⟩ (U Z FH)).setCell ⟨iA,2,none⟩ (U Z FI)).setCell ⟨iA,3,none⟩ (U Z G7)).heap[l9]? = some (.cells #[U Z ah,U Z ai,U Z ax,U Z ay,U Z aK,U Z aH,U Z aJ,.slice dG aR.length dH,.slice dJ aC.length dI] 25 (0,0))):=⟨fB⟩
 have yc:aa (((((Cc.setCell ⟨iA,0,none⟩ (U Z Eh)).setCell ⟨iA,1,none⟩ (U Z FH)).setCell ⟨iA,2,none⟩ (U Z FI)).setCell ⟨iA,3,none⟩ (U Z G7)).heap[lU]? = some (.cells #[U Z aQ,U Z aM,U Z bf,U Z bg,U Z bD,U Z bE,U Z bF] 29 (0,0))):=⟨fB⟩
 have yf:aa (((((Cc.setCell ⟨iA,0,none⟩ (U Z Eh)).setCell ⟨iA,1,none⟩ (U Z FH)).setCell ⟨iA,2,none⟩ (U Z FI)).setCell ⟨iA,3,none⟩ (U Z G7)).heap[qV]? = some (.cells #[U Z bJ,U Z bK,U Z bM,U Z bN] 31 (0,0))):=⟨fB⟩
 have yg:aa (((((Cc.setCell ⟨iA,0,none⟩ (U Z Eh)).setCell ⟨iA,1,none⟩ (U Z FH)).setCell ⟨iA,2,none⟩ (U Z FI)).setCell ⟨iA,3,none⟩ (U Z G7)).heap[Ei]? = some (.cells #[U Z jr,U Z iO] 33 (0,0))):=⟨fB⟩
 have Bf:aa (((((Cc.setCell ⟨iA,0,none⟩ (U Z Eh)).setCell ⟨iA,1,none⟩ (U Z FH)).setCell ⟨iA,2,none⟩ (U Z FI)).setCell ⟨iA,3,none⟩ (U Z G7)).heap[GU]? = some (.cells #[U Z 0,U Z 0,U Z 0,U Z 0] 31 (0,0))):=⟨fB⟩
 have Li:aa (((((Cc.setCell ⟨iA,0,none⟩ (U Z Eh)).setCell ⟨iA,1,none⟩ (U Z FH)).setCell ⟨iA,2,none⟩ (U Z FI)).setCell ⟨iA,3,none⟩ (U Z G7)).heap[iA]? = some (.cells #[U Z Eh,U Z FH,U Z FI,U Z G7] 40 (0,0))):=⟨by (with_reducible repeat (first|refine au ?_ _|refine ag ?_|refine ae ?_ _));refine aI (cs:=#[U Z Eh,U Z FH,U Z FI,U Z 0]) ?_ 3 _ rfl;(with_reducible repeat (first|refine au ?_ _|refine ag ?_|refine ae ?_ _));refine aI (cs:=#[U Z Eh,U Z FH,U Z 0,U Z 0]) ?_ 2 _ rfl;(with_reducible repeat (first|refine au ?_ _|refine ag ?_|refine ae ?_ _));refine aI (cs:=#[U Z Eh,U Z 0,U Z 0,U Z 0]) ?_ 1 _ rfl;(with_reducible repeat (first|refine au ?_ _|refine ag ?_|refine ae ?_ _));refine aI (cs:=#[U Z 0,U Z 0,U Z 0,U Z 0]) ?_ 0 _ rfl;(with_reducible repeat (first|refine au ?_ _|refine ag ?_|refine ae ?_ _));exact kY.out⟩
 have Zw:aa (Below w.heap.size w ((((Cc.setCell ⟨iA,0,none⟩ (U Z Eh)).setCell ⟨iA,1,none⟩ (U Z FH)).setCell ⟨iA,2,none⟩ (U Z FI)).setCell ⟨iA,3,none⟩ (U Z G7))):=⟨fu⟩
 (try clear dA)
 (try clear dD)
 (try clear eU)
 (try clear iY)
 (try clear jN)
 (try clear kY)
 (try clear HB)
 generalize ((((Cc.setCell ⟨iA,0,none⟩ (U Z Eh)).setCell ⟨iA,1,none⟩ (U Z FH)).setCell ⟨iA,2,none⟩ (U Z FI)).setCell ⟨iA,3,none⟩ (U Z G7)) = w31 at x9 yc yf yg Bf Li Zw ⊢
 have dA:=x9
 have dD:=yc
 have eU:=yf
 have iY:=yg
 have jN:=Bf
 have kY:=Li
 have HB:=Zw
 clear x9 yc yf yg Bf Li Zw
 replace dA:=aa.mk (ag dA.out)
 replace dD:=aa.mk (ag dD.out)
 replace eU:=aa.mk (ag eU.out)
 replace iY:=aa.mk (ag iY.out)
 replace jN:=aa.mk (ag jN.out)
 replace kY:=aa.mk (ag kY.out)
 replace HB:=aa.mk (bU HB.out)
 refine jT (n:=24) (S:=fun w'=>w'.cell? ⟨qV,0,none⟩ = some (U Z bJ)∧w'.cell? ⟨qV,1,none⟩ = some (U Z bK)∧w'.cell? ⟨qV,2,none⟩ = some (U Z bM)∧w'.cell? ⟨qV,3,none⟩ = some (U Z bN)∧w'.cell? ⟨lU,0,none⟩ = some (U Z aQ)∧w'.cell? ⟨lU,1,none⟩ = some (U Z aM)∧w'.cell? ⟨lU,2,none⟩ = some (U Z bf)∧w'.cell? ⟨lU,3,none⟩ = some (U Z bg)∧w'.cell? ⟨lU,4,none⟩ = some (U Z bD)∧w'.cell? ⟨lU,5,none⟩ = some (U Z bE)∧w'.cell? ⟨lU,6,none⟩ = some (U Z bF)∧w'.cell? ⟨iA,0,none⟩ = some (U Z Eh)∧w'.cell? ⟨iA,1,none⟩ = some (U Z FH)∧w'.cell? ⟨iA,2,none⟩ = some (U Z FI)∧w'.cell? ⟨iA,3,none⟩ = some (U Z G7)) (ds:=[]) #[ac,ac,ac,ac,ac,ac,ac,ac,ac,ac,ac,ac,ac,ac,ac,ac,ac,ac,ac,ac,ac,ac,ac,ac] aY rfl rfl ⟨dz eU 0,dz eU 1,dz eU 2,dz eU 3,dz dD 0,dz dD 1,dz dD 2,dz dD 3,dz dD 4,dz dD 5,dz dD 6,dz kY 0,dz kY 1,dz kY 2,dz kY 3⟩ (fun hHeld=>?_);refine jg cZ.aOn cZ.ayL (fun cO lS=>?_)
 generalize w31.drew = w32 at dA dD eU iY jN kY HB hHeld ⊢
 refine dW (i:=0) (N:=some 33) (aU cO.out aY) ?_
 refine dW (i:=2) (N:=some 35) (aU cO.out aY) ?_
 refine dW (i:=3) (N:=some 36) (aU cO.out aY) ?_
 refine dW (i:=6) (N:=some 39) (aU cO.out aY) ?_
 refine dW (i:=8) (N:=some 41) (aU cO.out aY) ?_
 refine dW (i:=11) (N:=some 44) (aU cO.out aY) ?_
 refine dW (i:=13) (N:=some 46) (aU cO.out aY) ?_
 refine dW (i:=14) (N:=some 47) (aU cO.out aY) ?_
 refine dW (i:=17) (N:=some 50) (aU cO.out aY) ?_
 refine dW (i:=19) (N:=some 52) (aU cO.out aY) ?_
 refine ja (i:=1) (N:=some 34) (bS cO.out lS.out aY) hHeld ?_
 refine ja (i:=4) (N:=some 37) (bS cO.out lS.out aY) hHeld ?_
 refine dW (i:=5) (N:=some 38) (aU cO.out aY) ?_
 refine ja (i:=7) (N:=some 40) (bS cO.out lS.out aY) hHeld ?_
 refine ja (i:=9) (N:=some 42) (bS cO.out lS.out aY) hHeld ?_
 refine ja (i:=12) (N:=some 45) (bS cO.out lS.out aY) hHeld ?_
 refine ja (i:=15) (N:=some 48) (bS cO.out lS.out aY) hHeld ?_
 refine dW (i:=16) (N:=some 49) (aU cO.out aY) ?_
 refine ja (i:=18) (N:=some 51) (bS cO.out lS.out aY) hHeld ?_
 refine ja (i:=20) (N:=some 53) (bS cO.out lS.out aY) hHeld ?_
 refine jJ (i:=10) (N:=some 43) #[ab,ab,ab,ab,ab,ab,ab,ab,ab,ab,ab,ab,ab,ab,ab,ab,ab,ab,ab,ab,ab,ac,ac,ac] rfl rfl (gM cO.out aY) (by decide) (fun K hK=>?_)
 refine gQ Try.func134 aY rfl #[.agg #[U Z bJ,U Z bK],U Z (wrap64 (afS*aQ)),.agg #[U Z Eh,U Z FH],U Z aM] (by rfl) rfl rfl iG ?_
 with_reducible refine (di.calls k bJ bK (wrap64 (afS*aQ)) Eh FH aM aal afT _ A9.out).mono ?_
 rintro e w33 ⟨rfl,hb⟩
 refine ⟨_,rfl,?_⟩
 replace dA:=bC dA hb
 replace dD:=bC dD hb
 replace eU:=bC eU hb
 replace iY:=bC iY hb
 replace jN:=bC jN hb
 replace kY:=bC kY hb
 replace HB:=dw HB hb
 (try clear hb)
 (try clear hb2)
 (try clear hk)
 (try clear hi)
 refine hK.out _ _ ⟨dz eU 0,dz eU 1,dz eU 2,dz eU 3,dz dD 0,dz dD 1,dz dD 2,dz dD 3,dz dD 4,dz dD 5,dz dD 6,dz kY 0,dz kY 1,dz kY 2,dz kY 3⟩ (fun hHeld=>?_)
 clear hK K
 refine eY auK ?_
 refine jJ (i:=21) (N:=some 54) #[ab,ab,ab,ab,ab,ab,ab,ab,ab,ab,ab,ab,ab,ab,ab,ab,ab,ab,ab,ab,ab,ab,ac,ac] rfl rfl (gM cO.out aY) (by decide) (fun K hK=>?_)
 refine gQ Try.func134 aY rfl #[.agg #[U Z bM,U Z bN],U Z (wrap64 (aak*aQ)),.agg #[U Z FI,U Z G7],U Z aM] (by rfl) rfl rfl iG ?_
 with_reducible refine (di.calls k bM bN (wrap64 (aak*aQ)) FI G7 aM ani avE _ TH.out).mono ?_
 rintro e w34 ⟨rfl,hb⟩
 refine ⟨_,rfl,?_⟩
 replace dA:=bC dA hb
 replace dD:=bC dD hb
 replace eU:=bC eU hb
 replace iY:=bC iY hb
 replace jN:=bC jN hb
 replace kY:=bC kY hb
 replace HB:=dw HB hb
 (try clear hb)
 (try clear hb2)
 (try clear hk)
 (try clear hi)
 refine hK.out _ _ ⟨dz eU 0,dz eU 1,dz eU 2,dz eU 3,dz dD 0,dz dD 1,dz dD 2,dz dD 3,dz dD 4,dz dD 5,dz dD 6,dz kY 0,dz kY 1,dz kY 2,dz kY 3⟩ (fun hHeld=>?_)
 clear hK K
 refine eY (by show Act.put _ (some 54) _ = _;simp only [Act.put,List.setIfInBounds_toArray,List.set_cons_zero,List.set_cons_succ,eB,eH];rfl) ?_
 refine dW (i:=22) (N:=some 55) (aU cO.out aY) ?_
 refine jJ (i:=23) (N:=none) #[ab,ab,ab,ab,ab,ab,ab,ab,ab,ab,ab,ab,ab,ab,ab,ab,ab,ab,ab,ab,ab,ab,ab,ab] rfl rfl (gM cO.out aY) (by decide) (fun K hK=>?_)
 have aT5:w34.cell? ⟨GU,0,none⟩ = some (U Z 0):=(af jN.out 0).trans rfl
 have aRu:=bn jN.out 0
 have aHZ:=II.out
 have aH0:=fK.out
 have aH1:=jF.out
 have aH2:=Ej.out
 have aH3:=fZ.out
 have aH4:=IJ.out
 have aH5:=IK.out
 have aH6:=IL.out
 have aH7:=El.out
 have aH8:=ma.out
 have aT6:w34.cell? ⟨GU,1,none⟩ = some (U Z 0):=(af jN.out 1).trans rfl
 have aRv:=bn jN.out 1
 have aH9:=II.out
 have aIa:=fK.out
 have aIb:=jF.out
 have aIc:=Ej.out
 have aId:=fZ.out
 have aIe:=IJ.out
 have aIf:=IK.out
 have aIg:=IL.out
 have aIh:=El.out
 have aIi:=ma.out
 have aT7:w34.cell? ⟨GU,2,none⟩ = some (U Z 0):=(af jN.out 2).trans rfl
 have aRw:=bn jN.out 2
 have aIj:=II.out
 have aIk:=fK.out
 have aIl:=jF.out
 have aIm:=Ej.out
 have aIn:=fZ.out
 have aIo:=IJ.out
 have aIp:=IK.out
 have aIq:=IL.out
 have aIr:=El.out
 have aIs:=ma.out
 have aT8:w34.cell? ⟨GU,3,none⟩ = some (U Z 0):=(af jN.out 3).trans rfl
 have aRx:=bn jN.out 3
 have aIt:=II.out
 have aIu:=fK.out
 have aIv:=jF.out
 have aIw:=Ej.out
 have aIx:=fZ.out
 have aIy:=IJ.out
 have aIz:=IK.out
 have aIA:=IL.out
 have aIB:=El.out
 have aIC:=ma.out
 refine zD (w1:=?_) (by rfl) rfl ?_ ?_
 rotate_left
 ·go_simp
  rfl
 refine hK.out _ _ ⟨(fO jF ((fO jF ((fO jF ((fO jF (hHeld.1)))))))),(fO jF ((fO jF ((fO jF ((fO jF (hHeld.2.1)))))))),(fO jF ((fO jF ((fO jF ((fO jF (hHeld.2.2.1)))))))),(fO jF ((fO jF ((fO jF ((fO jF (hHeld.2.2.2.1)))))))),(fO fK ((fO fK ((fO fK ((fO fK (hHeld.2.2.2.2.1)))))))),(fO fK ((fO fK ((fO fK ((fO fK (hHeld.2.2.2.2.2.1)))))))),(fO fK ((fO fK ((fO fK ((fO fK (hHeld.2.2.2.2.2.2.1)))))))),(fO fK ((fO fK ((fO fK ((fO fK (hHeld.2.2.2.2.2.2.2.1)))))))),(fO fK ((fO fK ((fO fK ((fO fK (hHeld.2.2.2.2.2.2.2.2.1)))))))),(fO fK ((fO fK ((fO fK ((fO fK (hHeld.2.2.2.2.2.2.2.2.2.1)))))))),(fO fK ((fO fK ((fO fK ((fO fK (hHeld.2.2.2.2.2.2.2.2.2.2.1)))))))),(fO fZ ((fO fZ ((fO fZ ((fO fZ (hHeld.2.2.2.2.2.2.2.2.2.2.2.1)))))))),(fO fZ ((fO fZ ((fO fZ ((fO fZ (hHeld.2.2.2.2.2.2.2.2.2.2.2.2.1)))))))),(fO fZ ((fO fZ ((fO fZ ((fO fZ (hHeld.2.2.2.2.2.2.2.2.2.2.2.2.2.1)))))))),(fO fZ ((fO fZ ((fO fZ ((fO fZ (hHeld.2.2.2.2.2.2.2.2.2.2.2.2.2.2))))))))⟩ (fun hHeld=>?_)
 clear hK K
 refine lI (lN cO.out aY) ?_
 try go_wp2
 refine bodyPost_ret (results_cell_row rfl _ _ GU 31 #[U Z aal,U Z afT,U Z ani,U Z avE] (0,0) _ rfl (by (with_reducible repeat (first|refine au ?_ _|refine ag ?_|refine ae ?_ _));refine aI (cs:=#[U Z aal,U Z afT,U Z ani,U Z 0]) ?_ 3 _ rfl;(with_reducible repeat (first|refine au ?_ _|refine ag ?_|refine ae ?_ _));refine aI (cs:=#[U Z aal,U Z afT,U Z 0,U Z 0]) ?_ 2 _ rfl;(with_reducible repeat (first|refine au ?_ _|refine ag ?_|refine ae ?_ _));refine aI (cs:=#[U Z aal,U Z 0,U Z 0,U Z 0]) ?_ 1 _ rfl;(with_reducible repeat (first|refine au ?_ _|refine ag ?_|refine ae ?_ _));refine aI (cs:=#[U Z 0,U Z 0,U Z 0,U Z 0]) ?_ 0 _ rfl;(with_reducible repeat (first|refine au ?_ _|refine ag ?_|refine ae ?_ _));exact jN.out) Try.underlying31 rfl aY) rfl ?_
 exact ⟨kL,fu⟩
end Go.Proofs.Ytmhaiihjfgfaoaa.Pr
end
