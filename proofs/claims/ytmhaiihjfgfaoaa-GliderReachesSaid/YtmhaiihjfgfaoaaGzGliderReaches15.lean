import Derived.Test.YtmhaiihjfgfaoaaGzGliderReaches3
import Derived.Test.YtmhaiihjfgfaoaaGzGliderReaches14
open Go.Value renaming int → U
open Go.IntKind renaming i64 → Z
open Bool renaming true → ab, false → ac
section
namespace Go.Proofs.Ytmhaiihjfgfaoaa.Pr
open Go.RowKit Go.Proofs.YtmhaiihjfgfaoaaW.PrintWords Go.Proofs.YtmhaiihjfgfaoaaW.PrintLast Go.Proofs.YtmhaiihjfgfaoaaW.PrintMore
attribute [local go_sem] eD eF fD fE eG
set_option linter.unusedVariables false
set_option linter.unusedSimpArgs false
def dx.f (k:Nat) (ah:Int) (ai:Int) (ax:Int) (ay:Int) (aK:Int) (aH:Int) (aJ:Int) (aR:List Bool) (aC:List (oV)) (aQ:Int) (aM:Int) (bf:Int) (bg:Int) (bD:Int) (bE:Int) (bF:Int) (bJ:Int) (bK:Int) (bM:Int) (bN:Int) (a3:Int):Option (Bool):=(fT.f k ah ai ax ay aK aH aJ aR aC aQ aM bf bg bD bE bF bJ bK bM bN).bind fun Lv=>((iR.f ah ai ax ay aK aH aJ aR aC Lv.1 Lv.2.1 Lv.2.2.1 Lv.2.2.2).bind fun X7=>(if X7 = true then ((ik.f ah ai ax ay aK aH aJ aR aC a3 (wrap64 (a3+aM))).bind fun PO=>(some PO)) else (some false)))
def dx.T1:Bool × List (List Nat × List Nat):=(true,[([],[]),([],[]),([],[]),([],[]),([1,2,3],[1,2,3]),([0,4,4],[0,4]),([5,5],[5]),([6],[6]),([6],[6]),([6],[6]),([6],[6]),([10,6],[6,10]),([9,11,6],[6,9,11]),([7,8,12,6,6],[6,7,8,12]),([6,13],[6,13]),([14,13,0,1,2,3,4,5,6,7,8,9,10,11,12,13,14],[14])])
def dx.B1:List Nat:=[0,0,0,0,14,31,63,127,127,127,127,1151,3711,8191,16383,32767]
theorem dx.alb:qX .any (opsOf Try.f105 1) = dx.T1:=by kernel_rfl
theorem dx.abp:ou dx.T1.2 dx.B1 = true:=by kernel_rfl
set_option maxHeartbeats 8000000 in
set_option maxRecDepth 100000 in
theorem dx.calls (k:Nat) (ah:Int) (ai:Int) (ax:Int) (ay:Int) (aK:Int) (aH:Int) (aJ:Int) (dG:Option Addr) (dH:Nat) (aR:List Bool) (dJ:Option Addr) (dI:Nat) (aC:List (oV)) (aQ:Int) (aM:Int) (bf:Int) (bg:Int) (bD:Int) (bE:Int) (bF:Int) (bJ:Int) (bK:Int) (bM:Int) (bN:Int) (a3:Int) (r:Bool) (w:World) (iU:Kd.C Kd.bool w dG aR.length aR) (iV:aR.length≤dH) (iW:Kd.C DD w dJ aC.length aC) (iX:aC.length≤dI) (h:dx.f k ah ai ax ay aK aH aJ aR aC aQ aM bf bg bD bE bF bJ bK bM bN a3 = some r):
 Calls Try.prog 105 #[.agg #[U Z ah,U Z ai,U Z ax,U Z ay,U Z aK,U Z aH,U Z aJ,.slice dG aR.length dH,.slice dJ aC.length dI],.agg #[U Z aQ,U Z aM,U Z bf,U Z bg,U Z bD,U Z bE,U Z bF],.agg #[U Z bJ,U Z bK,U Z bM,U Z bN],U Z a3] w fun e w'=>e = .returned (.bool r)∧Below w.heap.size w w':=by
 have zR:=Try.underlying25
 have Cb:=Try.underlying29
 have oP:=Try.underlying31
 have gq:=aa.mk iU
 have gu:=aa.mk iV
 clear iU iV
 have fH:=aa.mk iW
 have gz:=aa.mk iX
 clear iW iX
 have HB:=aa.mk (Below.refl w.heap.size w)
 have H:((fT.f k ah ai ax ay aK aH aJ aR aC aQ aM bf bg bD bE bF bJ bK bM bN).bind fun Lv=>((iR.f ah ai ax ay aK aH aJ aR aC Lv.1 Lv.2.1 Lv.2.2.1 Lv.2.2.2).bind fun X7=>(if X7 = true then ((ik.f ah ai ax ay aK aH aJ aR aC a3 (wrap64 (a3+aM))).bind fun PO=>(some PO)) else (some false)))) = some r:=h
 clear h
 replace H:=Option.bind_eq_some_iff.mp H
 obtain ⟨⟨aac,aad,aae,aaf⟩,O4,H⟩:=H
 replace H:((iR.f ah ai ax ay aK aH aJ aR aC aac aad aae aaf).bind fun X7=>(if X7 = true then ((ik.f ah ai ax ay aK aH aJ aR aC a3 (wrap64 (a3+aM))).bind fun PO=>(some PO)) else (some false))) = some r:=H
 have A5:=aa.mk O4
 clear O4
 replace H:=Option.bind_eq_some_iff.mp H
 obtain ⟨X7,La,H⟩:=H
 replace H:(if X7 = true then ((ik.f ah ai ax ay aK aH aJ aR aC a3 (wrap64 (a3+aM))).bind fun PO=>(some PO)) else (some false)) = some r:=H
 have A6:=aa.mk La
 clear La
 by_cases c7:X7 = true
 ·subst c7
  have H1:((ik.f ah ai ax ay aK aH aJ aR aC a3 (wrap64 (a3+aM))).bind fun PO=>(some PO)) = some r:=by rw [if_pos rfl] at H;exact H
  clear H
  have H:=H1
  clear H1
  replace H:=Option.bind_eq_some_iff.mp H
  obtain ⟨PO,TN,H⟩:=H
  replace H:(some PO) = some r:=H
  have A8:=aa.mk TN
  clear TN
  obtain rfl:=Option.some.inj H
  go_enter Try.func105,Try.ntmps105
  try go_wp2_with (first|((with_reducible refine aG (N:=4) rfl ?_);refine az (by rfl) (N:=4) (by rfl) (cs:=#[U Z ah,U Z ai,U Z ax,U Z ay,U Z aK,U Z aH,U Z aJ,.slice dG aR.length dH,.slice dJ aC.length dI]) (t:=25) fM ?_;intro vD hg w9 hbox hb;have eO:=aa.mk (hbox);have axT:=dn HB hg;have axU:=dn HB hg;replace HB:=dw HB hb;clear hb hbox hg)|((with_reducible refine aG (N:=5) rfl ?_);refine az (by rfl) (N:=5) (by rfl) (cs:=#[U Z aQ,U Z aM,U Z bf,U Z bg,U Z bD,U Z bE,U Z bF]) (t:=29) fM ?_;intro BK hg w10 hbox hb;have fP:=aa.mk (hbox);have axV:=dn HB hg;have axW:=dn HB hg;have afz:=iq eO hg;have afA:=iw eO hg;replace eO:=bC eO hb;replace HB:=dw HB hb;clear hb hbox hg)|((with_reducible refine aG (N:=6) rfl ?_);refine az (by rfl) (N:=6) (by rfl) (cs:=#[U Z bJ,U Z bK,U Z bM,U Z bN]) (t:=31) fM ?_;intro Lx hg w11 hbox hb;have jX:=aa.mk (hbox);have axX:=dn HB hg;have axY:=dn HB hg;have afB:=iq eO hg;have afC:=iw eO hg;have afD:=iq fP hg;have afE:=iw fP hg;replace eO:=bC eO hb;replace fP:=bC fP hb;replace HB:=dw HB hb;clear hb hbox hg))
  replace eO:=aa.mk (ag eO.out)
  replace fP:=aa.mk (ag fP.out)
  replace jX:=aa.mk (ag jX.out)
  replace HB:=aa.mk (bU HB.out)
  refine jT (n:=16) (S:=fun w'=>w'.cell? ⟨vD,0,none⟩ = some (U Z ah)∧w'.cell? ⟨vD,1,none⟩ = some (U Z ai)∧w'.cell? ⟨vD,2,none⟩ = some (U Z ax)∧w'.cell? ⟨vD,3,none⟩ = some (U Z ay)∧w'.cell? ⟨vD,4,none⟩ = some (U Z aK)∧w'.cell? ⟨vD,5,none⟩ = some (U Z aH)∧w'.cell? ⟨vD,6,none⟩ = some (U Z aJ)∧w'.cell? ⟨vD,7,none⟩ = some (.slice dG aR.length dH)∧w'.cell? ⟨vD,8,none⟩ = some (.slice dJ aC.length dI)∧w'.cell? ⟨BK,0,none⟩ = some (U Z aQ)∧w'.cell? ⟨BK,1,none⟩ = some (U Z aM)∧w'.cell? ⟨BK,2,none⟩ = some (U Z bf)∧w'.cell? ⟨BK,3,none⟩ = some (U Z bg)∧w'.cell? ⟨BK,4,none⟩ = some (U Z bD)∧w'.cell? ⟨BK,5,none⟩ = some (U Z bE)∧w'.cell? ⟨BK,6,none⟩ = some (U Z bF)∧w'.cell? ⟨Lx,0,none⟩ = some (U Z bJ)∧w'.cell? ⟨Lx,1,none⟩ = some (U Z bK)∧w'.cell? ⟨Lx,2,none⟩ = some (U Z bM)∧w'.cell? ⟨Lx,3,none⟩ = some (U Z bN)) (ds:=[]) #[ac,ac,ac,ac,ac,ac,ac,ac,ac,ac,ac,ac,ac,ac,ac,ac] aY rfl rfl ⟨dz eO 0,dz eO 1,dz eO 2,dz eO 3,dz eO 4,dz eO 5,dz eO 6,dz eO 7,dz eO 8,dz fP 0,dz fP 1,dz fP 2,dz fP 3,dz fP 4,dz fP 5,dz fP 6,dz jX 0,dz jX 1,dz jX 2,dz jX 3⟩ (fun hHeld=>?_);refine jg dx.alb dx.abp (fun cO lS=>?_)
  generalize w11.drew = Nv at eO fP jX HB hHeld ⊢
  refine ja (i:=0) (N:=some 9) (bS cO.out lS.out aY) hHeld ?_
  refine ja (i:=1) (N:=some 10) (bS cO.out lS.out aY) hHeld ?_
  refine ja (i:=2) (N:=some 11) (bS cO.out lS.out aY) hHeld ?_
  refine ja (i:=3) (N:=some 12) (bS cO.out lS.out aY) hHeld ?_
  refine jJ (i:=4) (N:=some 13) #[ab,ab,ab,ab,ab,ac,ac,ac,ac,ac,ac,ac,ac,ac,ac,ac] rfl rfl (gM cO.out aY) (by decide) (fun K hK=>?_)
  refine gQ Try.func133 aY rfl #[.agg #[U Z ah,U Z ai,U Z ax,U Z ay,U Z aK,U Z aH,U Z aJ,.slice dG aR.length dH,.slice dJ aC.length dI],.agg #[U Z aQ,U Z aM,U Z bf,U Z bg,U Z bD,U Z bE,U Z bF],.agg #[U Z bJ,U Z bK,U Z bM,U Z bN]] (by rfl) rfl rfl iG ?_
  with_reducible refine (fT.calls k ah ai ax ay aK aH aJ _ _ aR _ _ aC aQ aM bf bg bD bE bF bJ bK bM bN aac aad aae aaf _ ?df ?dh ?dK ?dL A5.out).mono ?_
  (case df=>repeat (first|exact (Kd.bz gq.out HB.out)|(with_reducible refine Kd.bA ?_ _)|(with_reducible refine Kd.bB ?_ _)|(with_reducible refine Kd.bQ ?_)))
  (case dh=>exact gu.out)
  (case dK=>repeat (first|exact (Kd.bz fH.out HB.out)|(with_reducible refine Kd.bA ?_ _)|(with_reducible refine Kd.bB ?_ _)|(with_reducible refine Kd.bQ ?_)))
  (case dL=>exact gz.out)
  rintro e TA ⟨rfl,hb⟩
  refine ⟨_,rfl,?_⟩
  replace eO:=bC eO hb
  replace fP:=bC fP hb
  replace jX:=bC jX hb
  replace HB:=dw HB hb
  (try clear hb)
  (try clear hb2)
  (try clear hk)
  (try clear hi)
  refine hK.out _ _ ⟨dz eO 0,dz eO 1,dz eO 2,dz eO 3,dz eO 4,dz eO 5,dz eO 6,dz eO 7,dz eO 8,dz fP 0,dz fP 1,dz fP 2,dz fP 3,dz fP 4,dz fP 5,dz fP 6,dz jX 0,dz jX 1,dz jX 2,dz jX 3⟩ (fun hHeld=>?_)
  clear hK K
  refine eY ZK ?_
  refine jJ (i:=5) (N:=some 14) #[ab,ab,ab,ab,ab,ab,ac,ac,ac,ac,ac,ac,ac,ac,ac,ac] rfl rfl (gM cO.out aY) (by decide) (fun K hK=>?_)
  refine gQ Try.func71 aY rfl #[.agg #[U Z ah,U Z ai,U Z ax,U Z ay,U Z aK,U Z aH,U Z aJ,.slice dG aR.length dH,.slice dJ aC.length dI],.agg #[U Z aac,U Z aad,U Z aae,U Z aaf]] (by rfl) rfl rfl iG ?_
  with_reducible refine (iR.calls ah ai ax ay aK aH aJ _ _ aR _ _ aC aac aad aae aaf true _ ?df ?dh ?dK ?dL A6.out).mono ?_
  (case df=>repeat (first|exact (Kd.bz gq.out HB.out)|(with_reducible refine Kd.bA ?_ _)|(with_reducible refine Kd.bB ?_ _)|(with_reducible refine Kd.bQ ?_)))
  (case dh=>exact gu.out)
  (case dK=>repeat (first|exact (Kd.bz fH.out HB.out)|(with_reducible refine Kd.bA ?_ _)|(with_reducible refine Kd.bB ?_ _)|(with_reducible refine Kd.bQ ?_)))
  (case dL=>exact gz.out)
  rintro e w14 ⟨rfl,hb⟩
  refine ⟨_,rfl,?_⟩
  replace eO:=bC eO hb
  replace fP:=bC fP hb
  replace jX:=bC jX hb
  replace HB:=dw HB hb
  (try clear hb)
  (try clear hb2)
  (try clear hk)
  (try clear hi)
  refine hK.out _ _ ⟨dz eO 0,dz eO 1,dz eO 2,dz eO 3,dz eO 4,dz eO 5,dz eO 6,dz eO 7,dz eO 8,dz fP 0,dz fP 1,dz fP 2,dz fP 3,dz fP 4,dz fP 5,dz fP 6,dz jX 0,dz jX 1,dz jX 2,dz jX 3⟩ (fun hHeld=>?_)
  clear hK K
  refine eY ahN ?_
  refine dW (i:=6) (N:=some 15) (aU cO.out aY) ?_
  refine dW (i:=8) (N:=some 17) (aU cO.out aY) ?_
  refine dW (i:=9) (N:=some 18) (aU cO.out aY) ?_
  refine dW (i:=10) (N:=some 19) (aU cO.out aY) ?_
  refine ja (i:=7) (N:=some 16) (bS cO.out lS.out aY) hHeld ?_
  refine ja (i:=11) (N:=some 20) (bS cO.out lS.out aY) hHeld ?_
  refine dW (i:=12) (N:=some 21) (aU cO.out aY) ?_
  refine jJ (i:=13) (N:=some 22) #[ab,ab,ab,ab,ab,ab,ab,ab,ab,ab,ab,ab,ab,ab,ac,ac] rfl rfl (gM cO.out aY) (by decide) (fun K hK=>?_)
  refine gQ Try.func72 aY rfl #[.agg #[U Z ah,U Z ai,U Z ax,U Z ay,U Z aK,U Z aH,U Z aJ,.slice dG aR.length dH,.slice dJ aC.length dI],U Z a3,U Z (wrap64 (a3+aM))] (by rfl) rfl rfl iG ?_
  with_reducible refine (ik.calls ah ai ax ay aK aH aJ _ _ aR _ _ aC a3 (wrap64 (a3+aM)) PO _ ?df ?dh ?dK ?dL A8.out).mono ?_
  (case df=>repeat (first|exact (Kd.bz gq.out HB.out)|(with_reducible refine Kd.bA ?_ _)|(with_reducible refine Kd.bB ?_ _)|(with_reducible refine Kd.bQ ?_)))
  (case dh=>exact gu.out)
  (case dK=>repeat (first|exact (Kd.bz fH.out HB.out)|(with_reducible refine Kd.bA ?_ _)|(with_reducible refine Kd.bB ?_ _)|(with_reducible refine Kd.bQ ?_)))
  (case dL=>exact gz.out)
  rintro e w15 ⟨rfl,hb⟩
  refine ⟨_,rfl,?_⟩
  replace eO:=bC eO hb
  replace fP:=bC fP hb
  replace jX:=bC jX hb
  replace HB:=dw HB hb
  (try clear hb)
  (try clear hb2)
  (try clear hk)
  (try clear hi)
  refine hK.out _ _ ⟨dz eO 0,dz eO 1,dz eO 2,dz eO 3,dz eO 4,dz eO 5,dz eO 6,dz eO 7,dz eO 8,dz fP 0,dz fP 1,dz fP 2,dz fP 3,dz fP 4,dz fP 5,dz fP 6,dz jX 0,dz jX 1,dz jX 2,dz jX 3⟩ (fun hHeld=>?_)
  clear hK K
  refine eY (by show Act.put _ (some 22) _ = _;simp only [Act.put,List.setIfInBounds_toArray,List.set_cons_zero,List.set_cons_succ,eB,eH];rfl) ?_
  refine dW (i:=14) (N:=some 23) (aU cO.out aY) ?_
  refine dW (i:=15) (N:=some 8) (aU cO.out aY) ?_
  refine lI (lN cO.out aY) ?_
  try go_wp2
  go_ret
  exact ⟨kL,fu⟩
 ·replace c7:=Bool.eq_false_iff.mpr c7
  subst c7
  have H1:(some false) = some r:=by rw [if_neg (show ¬ (false = true) by decide)] at H;exact H
  clear H
  have H:=H1
  clear H1
  obtain rfl:=Option.some.inj H
  go_enter Try.func105,Try.ntmps105
  try go_wp2_with (first|((with_reducible refine aG (N:=4) rfl ?_);refine az (by rfl) (N:=4) (by rfl) (cs:=#[U Z ah,U Z ai,U Z ax,U Z ay,U Z aK,U Z aH,U Z aJ,.slice dG aR.length dH,.slice dJ aC.length dI]) (t:=25) fM ?_;intro vD hg w16 hbox hb;have eO:=aa.mk (hbox);have axT:=dn HB hg;have axU:=dn HB hg;replace HB:=dw HB hb;clear hb hbox hg)|((with_reducible refine aG (N:=5) rfl ?_);refine az (by rfl) (N:=5) (by rfl) (cs:=#[U Z aQ,U Z aM,U Z bf,U Z bg,U Z bD,U Z bE,U Z bF]) (t:=29) fM ?_;intro BK hg w17 hbox hb;have fP:=aa.mk (hbox);have axV:=dn HB hg;have axW:=dn HB hg;have afz:=iq eO hg;have afA:=iw eO hg;replace eO:=bC eO hb;replace HB:=dw HB hb;clear hb hbox hg)|((with_reducible refine aG (N:=6) rfl ?_);refine az (by rfl) (N:=6) (by rfl) (cs:=#[U Z bJ,U Z bK,U Z bM,U Z bN]) (t:=31) fM ?_;intro Lx hg w18 hbox hb;have jX:=aa.mk (hbox);have axX:=dn HB hg;have axY:=dn HB hg;have afB:=iq eO hg;have afC:=iw eO hg;have afD:=iq fP hg;have afE:=iw fP hg;replace eO:=bC eO hb;replace fP:=bC fP hb;replace HB:=dw HB hb;clear hb hbox hg))
  replace eO:=aa.mk (ag eO.out)
  replace fP:=aa.mk (ag fP.out)
  replace jX:=aa.mk (ag jX.out)
  replace HB:=aa.mk (bU HB.out)
  refine jT (n:=16) (S:=fun w'=>w'.cell? ⟨vD,0,none⟩ = some (U Z ah)∧w'.cell? ⟨vD,1,none⟩ = some (U Z ai)∧w'.cell? ⟨vD,2,none⟩ = some (U Z ax)∧w'.cell? ⟨vD,3,none⟩ = some (U Z ay)∧w'.cell? ⟨vD,4,none⟩ = some (U Z aK)∧w'.cell? ⟨vD,5,none⟩ = some (U Z aH)∧w'.cell? ⟨vD,6,none⟩ = some (U Z aJ)∧w'.cell? ⟨vD,7,none⟩ = some (.slice dG aR.length dH)∧w'.cell? ⟨vD,8,none⟩ = some (.slice dJ aC.length dI)∧w'.cell? ⟨BK,0,none⟩ = some (U Z aQ)∧w'.cell? ⟨BK,1,none⟩ = some (U Z aM)∧w'.cell? ⟨BK,2,none⟩ = some (U Z bf)∧w'.cell? ⟨BK,3,none⟩ = some (U Z bg)∧w'.cell? ⟨BK,4,none⟩ = some (U Z bD)∧w'.cell? ⟨BK,5,none⟩ = some (U Z bE)∧w'.cell? ⟨BK,6,none⟩ = some (U Z bF)∧w'.cell? ⟨Lx,0,none⟩ = some (U Z bJ)∧w'.cell? ⟨Lx,1,none⟩ = some (U Z bK)∧w'.cell? ⟨Lx,2,none⟩ = some (U Z bM)∧w'.cell? ⟨Lx,3,none⟩ = some (U Z bN)) (ds:=[]) #[ac,ac,ac,ac,ac,ac,ac,ac,ac,ac,ac,ac,ac,ac,ac,ac] aY rfl rfl ⟨dz eO 0,dz eO 1,dz eO 2,dz eO 3,dz eO 4,dz eO 5,dz eO 6,dz eO 7,dz eO 8,dz fP 0,dz fP 1,dz fP 2,dz fP 3,dz fP 4,dz fP 5,dz fP 6,dz jX 0,dz jX 1,dz jX 2,dz jX 3⟩ (fun hHeld=>?_);refine jg dx.alb dx.abp (fun cO lS=>?_)
  generalize w18.drew = w19 at eO fP jX HB hHeld ⊢
  refine ja (i:=0) (N:=some 9) (bS cO.out lS.out aY) hHeld ?_
  refine ja (i:=1) (N:=some 10) (bS cO.out lS.out aY) hHeld ?_
  refine ja (i:=2) (N:=some 11) (bS cO.out lS.out aY) hHeld ?_
  refine ja (i:=3) (N:=some 12) (bS cO.out lS.out aY) hHeld ?_
  refine jJ (i:=4) (N:=some 13) #[ab,ab,ab,ab,ab,ac,ac,ac,ac,ac,ac,ac,ac,ac,ac,ac] rfl rfl (gM cO.out aY) (by decide) (fun K hK=>?_)
  refine gQ Try.func133 aY rfl #[.agg #[U Z ah,U Z ai,U Z ax,U Z ay,U Z aK,U Z aH,U Z aJ,.slice dG aR.length dH,.slice dJ aC.length dI],.agg #[U Z aQ,U Z aM,U Z bf,U Z bg,U Z bD,U Z bE,U Z bF],.agg #[U Z bJ,U Z bK,U Z bM,U Z bN]] (by rfl) rfl rfl iG ?_
  with_reducible refine (fT.calls k ah ai ax ay aK aH aJ _ _ aR _ _ aC aQ aM bf bg bD bE bF bJ bK bM bN aac aad aae aaf _ ?df ?dh ?dK ?dL A5.out).mono ?_
  (case df=>repeat (first|exact (Kd.bz gq.out HB.out)|(with_reducible refine Kd.bA ?_ _)|(with_reducible refine Kd.bB ?_ _)|(with_reducible refine Kd.bQ ?_)))
  (case dh=>exact gu.out)
  (case dK=>repeat (first|exact (Kd.bz fH.out HB.out)|(with_reducible refine Kd.bA ?_ _)|(with_reducible refine Kd.bB ?_ _)|(with_reducible refine Kd.bQ ?_)))
  (case dL=>exact gz.out)
  rintro e GZ ⟨rfl,hb⟩
  refine ⟨_,rfl,?_⟩
  replace eO:=bC eO hb
  replace fP:=bC fP hb
  replace jX:=bC jX hb
  replace HB:=dw HB hb
  (try clear hb)
  (try clear hb2)
  (try clear hk)
  (try clear hi)
  refine hK.out _ _ ⟨dz eO 0,dz eO 1,dz eO 2,dz eO 3,dz eO 4,dz eO 5,dz eO 6,dz eO 7,dz eO 8,dz fP 0,dz fP 1,dz fP 2,dz fP 3,dz fP 4,dz fP 5,dz fP 6,dz jX 0,dz jX 1,dz jX 2,dz jX 3⟩ (fun hHeld=>?_)
  clear hK K
  refine eY ZK ?_
  refine jJ (i:=5) (N:=some 14) #[ab,ab,ab,ab,ab,ab,ac,ac,ac,ac,ac,ac,ac,ac,ac,ac] rfl rfl (gM cO.out aY) (by decide) (fun K hK=>?_)
  refine gQ Try.func71 aY rfl #[.agg #[U Z ah,U Z ai,U Z ax,U Z ay,U Z aK,U Z aH,U Z aJ,.slice dG aR.length dH,.slice dJ aC.length dI],.agg #[U Z aac,U Z aad,U Z aae,U Z aaf]] (by rfl) rfl rfl iG ?_
  with_reducible refine (iR.calls ah ai ax ay aK aH aJ _ _ aR _ _ aC aac aad aae aaf false _ ?df ?dh ?dK ?dL A6.out).mono ?_
  (case df=>repeat (first|exact (Kd.bz gq.out HB.out)|(with_reducible refine Kd.bA ?_ _)|(with_reducible refine Kd.bB ?_ _)|(with_reducible refine Kd.bQ ?_)))
  (case dh=>exact gu.out)
  (case dK=>repeat (first|exact (Kd.bz fH.out HB.out)|(with_reducible refine Kd.bA ?_ _)|(with_reducible refine Kd.bB ?_ _)|(with_reducible refine Kd.bQ ?_)))
  (case dL=>exact gz.out)
  rintro e w21 ⟨rfl,hb⟩
  refine ⟨_,rfl,?_⟩
  replace eO:=bC eO hb
  replace fP:=bC fP hb
  replace jX:=bC jX hb
  replace HB:=dw HB hb
  (try clear hb)
  (try clear hb2)
  (try clear hk)
  (try clear hi)
  refine hK.out _ _ ⟨dz eO 0,dz eO 1,dz eO 2,dz eO 3,dz eO 4,dz eO 5,dz eO 6,dz eO 7,dz eO 8,dz fP 0,dz fP 1,dz fP 2,dz fP 3,dz fP 4,dz fP 5,dz fP 6,dz jX 0,dz jX 1,dz jX 2,dz jX 3⟩ (fun hHeld=>?_)
  clear hK K
  refine eY ahN ?_
  refine dW (i:=6) (N:=some 15) (aU cO.out aY) ?_
  refine jR (i:=7) (N:=some 16) (v:=undef) (a':=?_) #[ab,ab,ab,ab,ab,ab,ab,ab,ac,ac,ac,ac,ac,ac,ac,ac] rfl rfl (aU cO.out aY) (fun _ _ _ h=>h) (Or.inr ⟨by rfl,rfl⟩) ?_ ?_
  rotate_left
  ·simp only [Act.put,List.setIfInBounds_toArray,List.set_cons_zero,List.set_cons_succ,eB,eH]
   rfl
  refine jR (i:=8) (N:=some 17) (v:=undef) (a':=?_) #[ab,ab,ab,ab,ab,ab,ab,ab,ab,ac,ac,ac,ac,ac,ac,ac] rfl rfl (aU cO.out aY) (fun _ _ _ h=>h) (Or.inr ⟨by rfl,rfl⟩) ?_ ?_
  rotate_left
  ·simp only [Act.put,List.setIfInBounds_toArray,List.set_cons_zero,List.set_cons_succ,eB,eH]
   rfl
  refine jR (i:=9) (N:=some 18) (v:=undef) (a':=?_) #[ab,ab,ab,ab,ab,ab,ab,ab,ab,ab,ac,ac,ac,ac,ac,ac] rfl rfl (aU cO.out aY) (fun _ _ _ h=>h) (Or.inr ⟨by rfl,rfl⟩) ?_ ?_
  rotate_left
  ·simp only [Act.put,List.setIfInBounds_toArray,List.set_cons_zero,List.set_cons_succ,eB,eH]
   rfl
  refine jR (i:=10) (N:=some 19) (v:=undef) (a':=?_) #[ab,ab,ab,ab,ab,ab,ab,ab,ab,ab,ab,ac,ac,ac,ac,ac] rfl rfl (aU cO.out aY) (fun _ _ _ h=>h) (Or.inr ⟨by rfl,rfl⟩) ?_ ?_
  rotate_left
  ·simp only [Act.put,List.setIfInBounds_toArray,List.set_cons_zero,List.set_cons_succ,eB,eH]
   rfl
  refine jR (i:=11) (N:=some 20) (v:=undef) (a':=?_) #[ab,ab,ab,ab,ab,ab,ab,ab,ab,ab,ab,ab,ac,ac,ac,ac] rfl rfl (aU cO.out aY) (fun _ _ _ h=>h) (Or.inr ⟨by rfl,rfl⟩) ?_ ?_
  rotate_left
  ·simp only [Act.put,List.setIfInBounds_toArray,List.set_cons_zero,List.set_cons_succ,eB,eH]
   rfl
  refine jR (i:=12) (N:=some 21) (v:=undef) (a':=?_) #[ab,ab,ab,ab,ab,ab,ab,ab,ab,ab,ab,ab,ab,ac,ac,ac] rfl rfl (aU cO.out aY) (fun _ _ _ h=>h) (Or.inr ⟨by rfl,rfl⟩) ?_ ?_
  rotate_left
  ·simp only [Act.put,List.setIfInBounds_toArray,List.set_cons_zero,List.set_cons_succ,eB,eH]
   rfl
  refine jR (i:=13) (N:=some 22) (v:=undef) (a':=?_) #[ab,ab,ab,ab,ab,ab,ab,ab,ab,ab,ab,ab,ab,ab,ac,ac] rfl rfl (aU cO.out aY) (fun _ _ _ h=>h) (Or.inr ⟨by rfl,rfl⟩) ?_ ?_
  rotate_left
  ·simp only [Act.put,List.setIfInBounds_toArray,List.set_cons_zero,List.set_cons_succ,eB,eH]
   rfl
  refine dW (i:=14) (N:=some 23) (aU cO.out aY) ?_
  refine dW (i:=15) (N:=some 8) (aU cO.out aY) ?_
  refine lI (lN cO.out aY) ?_
  try go_wp2
  go_ret
  exact ⟨kL,fu⟩
def di.f (k:Nat) (ah:Int) (ai:Int) (a1:Int) (bJ:Int) (bK:Int) (a3:Int):Option (Int × Int):=(fA.f k (wrap64 ((wrap64 (a1+(wrap64 (1000*bJ))))*a3)) 1000000).bind fun Vb=>((iC.f k (wrap64 ((wrap64 (a1+(wrap64 (1000*bK))))*a3)) 1000000).bind fun Vd=>(some (wrap64 (ah+Vb),wrap64 (ai+Vd))))
def di.T1:Bool × List (List Nat × List Nat):=(true,[([],[]),([0],[0]),([],[]),([],[]),([3],[3]),([4],[4]),([2,5],[2,5]),([],[]),([6,7],[6,7]),([8],[8]),([1,9],[1,9]),([],[]),([11],[11]),([],[]),([],[]),([14],[14]),([15],[15]),([13,16],[13,16]),([],[]),([17,18],[17,18]),([19,9],[19]),([12,20],[12,20]),([10,21],[10,21]),([22,20,0,1,2,3,4,5,6,7,8,9,10,11,12,13,14,15,16,17,18,19,20,21,22],[22])])
def di.B1:List Nat:=[0,1,0,0,8,24,60,0,252,508,1023,0,2048,0,0,16384,49152,122880,0,516096,1041404,2096124,4194303,8388607]
theorem di.alb:qX .any (opsOf Try.f134 1) = di.T1:=by kernel_rfl
theorem di.abp:ou di.T1.2 di.B1 = true:=by kernel_rfl
set_option maxHeartbeats 8000000 in
set_option maxRecDepth 100000 in
theorem di.calls (k:Nat) (ah:Int) (ai:Int) (a1:Int) (bJ:Int) (bK:Int) (a3:Int) (r1:Int) (r2:Int) (w:World) (h:di.f k ah ai a1 bJ bK a3 = some (r1,r2)):
 Calls Try.prog 134 #[.agg #[U Z ah,U Z ai],U Z a1,.agg #[U Z bJ,U Z bK],U Z a3] w fun e w'=>e = .returned (.agg #[U Z r1,U Z r2])∧Below w.heap.size w w':=by
 have oo:=Try.underlying27
 have HB:=aa.mk (Below.refl w.heap.size w)
 have H:((fA.f k (wrap64 ((wrap64 (a1+(wrap64 (1000*bJ))))*a3)) 1000000).bind fun Vb=>((iC.f k (wrap64 ((wrap64 (a1+(wrap64 (1000*bK))))*a3)) 1000000).bind fun Vd=>(some (wrap64 (ah+Vb),wrap64 (ai+Vd))))) = some (r1,r2):=h
 clear h
 replace H:=Option.bind_eq_some_iff.mp H
 obtain ⟨Vb,O4,H⟩:=H
 replace H:((iC.f k (wrap64 ((wrap64 (a1+(wrap64 (1000*bK))))*a3)) 1000000).bind fun Vd=>(some (wrap64 (ah+Vb),wrap64 (ai+Vd)))) = some (r1,r2):=H
 have A5:=aa.mk O4
 clear O4
 replace H:=Option.bind_eq_some_iff.mp H
 obtain ⟨Vd,La,H⟩:=H
 replace H:(some (wrap64 (ah+Vb),wrap64 (ai+Vd))) = some (r1,r2):=H
 have A6:=aa.mk La
 clear La
 simp only [Option.some.injEq,Prod.mk.injEq] at H
 obtain ⟨rfl,rfl⟩:=H
 go_enter Try.func134,Try.ntmps134
 try go_wp2_with (first|((with_reducible refine aG (N:=4) rfl ?_);refine az (by rfl) (N:=4) (by rfl) (cs:=#[U Z ah,U Z ai]) (t:=27) fM ?_;intro asK hg w7 hbox hb;have zI:=aa.mk (hbox);have aQv:=dn HB hg;have aQw:=dn HB hg;replace HB:=dw HB hb;clear hb hbox hg)|((with_reducible refine aG (N:=6) rfl ?_);refine az (by rfl) (N:=6) (by rfl) (cs:=#[U Z bJ,U Z bK]) (t:=27) fM ?_;intro asL hg w8 hbox hb;have Ed:=aa.mk (hbox);have aQx:=dn HB hg;have aQy:=dn HB hg;have awW:=iq zI hg;have awX:=iw zI hg;replace zI:=bC zI hb;replace HB:=dw HB hb;clear hb hbox hg)|((with_reducible refine aG (N:=8) rfl ?_);refine az (by rfl) (N:=8) (by rfl) (cs:=#[U Z 0,U Z 0]) (t:=27) fM ?_;intro ah5 hg w9 hbox hb;have O6:=aa.mk (hbox);have aQz:=dn HB hg;have aQA:=dn HB hg;have Bg:=iq zI hg;have TP:=iw zI hg;have Bh:=iq Ed hg;have TQ:=iw Ed hg;replace zI:=bC zI hb;replace Ed:=bC Ed hb;replace HB:=dw HB hb;clear hb hbox hg))
 replace zI:=aa.mk (ag zI.out)
 replace Ed:=aa.mk (ag Ed.out)
 replace O6:=aa.mk (ag O6.out)
 replace HB:=aa.mk (bU HB.out)
 refine jT (n:=24) (S:=fun w'=>w'.cell? ⟨asK,0,none⟩ = some (U Z ah)∧w'.cell? ⟨asK,1,none⟩ = some (U Z ai)∧w'.cell? ⟨asL,0,none⟩ = some (U Z bJ)∧w'.cell? ⟨asL,1,none⟩ = some (U Z bK)) (ds:=[]) #[ac,ac,ac,ac,ac,ac,ac,ac,ac,ac,ac,ac,ac,ac,ac,ac,ac,ac,ac,ac,ac,ac,ac,ac] aY rfl rfl ⟨dz zI 0,dz zI 1,dz Ed 0,dz Ed 1⟩ (fun hHeld=>?_);refine jg di.alb di.abp (fun cO lS=>?_)
 generalize w9.drew = w10 at zI Ed O6 HB hHeld ⊢
 refine dW (i:=0) (N:=some 9) (aU cO.out aY) ?_
 refine dW (i:=2) (N:=some 11) (aU cO.out aY) ?_
 refine dW (i:=3) (N:=some 12) (aU cO.out aY) ?_
 refine dW (i:=7) (N:=some 16) (aU cO.out aY) ?_
 refine dW (i:=11) (N:=some 20) (aU cO.out aY) ?_
 refine dW (i:=13) (N:=some 22) (aU cO.out aY) ?_
 refine dW (i:=14) (N:=some 23) (aU cO.out aY) ?_
 refine dW (i:=18) (N:=some 27) (aU cO.out aY) ?_
 refine ja (i:=1) (N:=some 10) (bS cO.out lS.out aY) hHeld ?_
 refine ja (i:=4) (N:=some 13) (bS cO.out lS.out aY) hHeld ?_
 refine dW (i:=5) (N:=some 14) (aU cO.out aY) ?_
 refine dW (i:=6) (N:=some 15) (aU cO.out aY) ?_
 refine dW (i:=8) (N:=some 17) (aU cO.out aY) ?_
 refine ja (i:=12) (N:=some 21) (bS cO.out lS.out aY) hHeld ?_
 refine ja (i:=15) (N:=some 24) (bS cO.out lS.out aY) hHeld ?_
 refine dW (i:=16) (N:=some 25) (aU cO.out aY) ?_
 refine dW (i:=17) (N:=some 26) (aU cO.out aY) ?_
 refine dW (i:=19) (N:=some 28) (aU cO.out aY) ?_
 refine jJ (i:=9) (N:=some 18) #[ab,ab,ab,ab,ab,ab,ab,ab,ab,ab,ac,ab,ab,ab,ab,ab,ab,ab,ab,ab,ac,ac,ac,ac] rfl rfl (gM cO.out aY) (by decide) (fun K hK=>?_)
 refine gQ Try.func140 aY rfl #[U Z (wrap64 ((wrap64 (a1+(wrap64 (1000*bJ))))*a3)),U Z 1000000] (by rfl) rfl rfl iG ?_
 with_reducible refine (fA.calls k (wrap64 ((wrap64 (a1+(wrap64 (1000*bJ))))*a3)) 1000000 Vb _ A5.out).mono ?_
 rintro e w' ⟨rfl,⟨nd,rfl⟩⟩
 refine ⟨_,rfl,?_⟩
 refine hK.out _ _ ⟨dz zI 0,dz zI 1,dz Ed 0,dz Ed 1⟩ (fun hHeld=>?_)
 clear hK K
 refine eY (by show Act.put _ (some 18) _ = _;simp only [Act.put,List.setIfInBounds_toArray,List.set_cons_zero,List.set_cons_succ,eB,eH];rfl) ?_
 refine dW (i:=10) (N:=some 19) (aU cO.out aY) ?_
 refine jJ (i:=20) (N:=some 29) #[ab,ab,ab,ab,ab,ab,ab,ab,ab,ab,ab,ab,ab,ab,ab,ab,ab,ab,ab,ab,ab,ac,ac,ac] rfl rfl (gM cO.out aY) (by decide) (fun K hK=>?_)
 refine gQ Try.func139 aY rfl #[U Z (wrap64 ((wrap64 (a1+(wrap64 (1000*bK))))*a3)),U Z 1000000] (by rfl) rfl rfl iG ?_
 with_reducible refine (iC.calls k (wrap64 ((wrap64 (a1+(wrap64 (1000*bK))))*a3)) 1000000 Vd _ A6.out).mono ?_
 rintro e w' ⟨rfl,⟨nd,rfl⟩⟩
 refine ⟨_,rfl,?_⟩
 refine hK.out _ _ ⟨dz zI 0,dz zI 1,dz Ed 0,dz Ed 1⟩ (fun hHeld=>?_)
 clear hK K
 refine eY auJ ?_
 refine dW (i:=21) (N:=some 30) (aU cO.out aY) ?_
 refine dW (i:=22) (N:=some 31) (aU cO.out aY) ?_
 refine jJ (i:=23) (N:=none) #[ab,ab,ab,ab,ab,ab,ab,ab,ab,ab,ab,ab,ab,ab,ab,ab,ab,ab,ab,ab,ab,ab,ab,ab] rfl rfl (gM cO.out aY) (by decide) (fun K hK=>?_)
 have aTM:w10.cell? ⟨ah5,0,none⟩ = some (U Z 0):=(af O6.out 0).trans rfl
 have aQB:=bn O6.out 0
 have aF5:=Bg.out
 have aF6:=Bh.out
 have aF7:=TP.out
 have aF8:=TQ.out
 have aTN:w10.cell? ⟨ah5,1,none⟩ = some (U Z 0):=(af O6.out 1).trans rfl
 have aQC:=bn O6.out 1
 have aF9:=Bg.out
 have aGa:=Bh.out
 have aGb:=TP.out
 have aGc:=TQ.out
 refine zD (w1:=?_) (by rfl) rfl ?_ ?_
 rotate_left
 ·go_simp
  rfl
 refine hK.out _ _ ⟨(fO Bg ((fO Bg (hHeld.1)))),(fO Bg ((fO Bg (hHeld.2.1)))),(fO Bh ((fO Bh (hHeld.2.2.1)))),(fO Bh ((fO Bh (hHeld.2.2.2))))⟩ (fun hHeld=>?_)
 clear hK K
 refine lI (lN cO.out aY) ?_
 try go_wp2
 refine bodyPost_ret (results_cell_row rfl _ _ ah5 27 #[U Z (wrap64 (ah+Vb)),U Z (wrap64 (ai+Vd))] (0,0) _ rfl (by (with_reducible repeat (first|refine au ?_ _|refine ag ?_|refine ae ?_ _));refine aI (cs:=#[U Z (wrap64 (ah+Vb)),U Z 0]) ?_ 1 _ rfl;(with_reducible repeat (first|refine au ?_ _|refine ag ?_|refine ae ?_ _));refine aI (cs:=#[U Z 0,U Z 0]) ?_ 0 _ rfl;(with_reducible repeat (first|refine au ?_ _|refine ag ?_|refine ae ?_ _));exact O6.out) Try.underlying27 rfl aY) rfl ?_
 exact ⟨kL,fu⟩
def jU.f (a0:Int):Option (Int × Int):=(some (([0,707,1000,707,0,(-707),(-1000),(-707),0]:List Int):List Int)).bind fun KF=>((some (([1000,707,0,(-707),(-1000),(-707),0,707,0]:List Int):List Int)).bind fun Ka=>(if 0≤a0 then (if a0 < (KF.length:Int) then (if a0 < (Ka.length:Int) then (some (rd KF a0,rd Ka a0)) else (none)) else (none)) else (none)))
set_option maxHeartbeats 8000000 in
set_option maxRecDepth 100000 in
theorem jU.calls (a0:Int) (r1:Int) (r2:Int) (w:World) (h:jU.f a0 = some (r1,r2)):
 Calls Try.prog 34 #[U Z a0] w fun e w'=>e = .returned (.tuple #[U Z r1,U Z r2])∧Below w.heap.size w w':=by
 have HB:=aa.mk (Below.refl w.heap.size w)
 have H:((some (([0,707,1000,707,0,(-707),(-1000),(-707),0]:List Int):List Int)).bind fun KF=>((some (([1000,707,0,(-707),(-1000),(-707),0,707,0]:List Int):List Int)).bind fun Ka=>(if 0≤a0 then (if a0 < (KF.length:Int) then (if a0 < (Ka.length:Int) then (some (rd KF a0,rd Ka a0)) else (none)) else (none)) else (none)))) = some (r1,r2):=h
 clear h
 obtain ⟨KF,X8⟩:∃ y_:List Int,y_ = (([0,707,1000,707,0,(-707),(-1000),(-707),0]:List Int)):=⟨_,rfl⟩
 replace H:((some (([1000,707,0,(-707),(-1000),(-707),0,707,0]:List Int):List Int)).bind fun Ka=>(if 0≤a0 then (if a0 < (KF.length:Int) then (if a0 < (Ka.length:Int) then (some (rd KF a0,rd Ka a0)) else (none)) else (none)) else (none))) = some (r1,r2):=by first|(rw [X8];with_reducible exact H)|(have Ku:=(Option.bind_some _ _).symm.trans H;rw [X8];with_reducible exact Ku)|(have Ku:=(Option.bind_some _ _).symm.trans H;with_reducible exact Ku)|with_reducible exact H|(rw [X8];exact H)|exact H
 have TR:=aa.mk X8
 clear X8
 obtain ⟨Ka,X9⟩:∃ y_:List Int,y_ = (([1000,707,0,(-707),(-1000),(-707),0,707,0]:List Int)):=⟨_,rfl⟩
 replace H:(if 0≤a0 then (if a0 < (KF.length:Int) then (if a0 < (Ka.length:Int) then (some (rd KF a0,rd Ka a0)) else (none)) else (none)) else (none)) = some (r1,r2):=by first|(rw [X9];with_reducible exact H)|(have Ku:=(Option.bind_some _ _).symm.trans H;rw [X9];with_reducible exact Ku)|(have Ku:=(Option.bind_some _ _).symm.trans H;with_reducible exact Ku)|with_reducible exact H|(rw [X9];exact H)|exact H
 have TS:=aa.mk X9
 clear X9
 by_cases c2:0≤a0
 ·rw [if_pos c2] at H
  have Rs:decide (0≤a0) = true:=decide_eq_true c2
  clear c2
  by_cases c3:a0 < (KF.length:Int)
  ·rw [if_pos c3] at H
   have D9:decide (a0 < (KF.length:Int)) = true:=decide_eq_true c3
   clear c3
   by_cases c4:a0 < (Ka.length:Int)
   ·rw [if_pos c4] at H
    have sK:decide (a0 < (Ka.length:Int)) = true:=decide_eq_true c4
    clear c4
    simp only [Option.some.injEq,Prod.mk.injEq] at H
    obtain ⟨rfl,rfl⟩:=H
    go_enter Try.func34,Try.ntmps34
    go_wp2_with (first|((with_reducible refine aG (N:=6) rfl ?_);refine Kd.Bn (Kd.int .i64) _ 2 (by rfl) (N:=6) (by rfl) (xs:=([0,707,1000,707,0,(-707),(-1000),(-707),0]:List Int)) (inner:=[U Z 0,U Z 707,U Z 1000,U Z 707,U Z 0,U Z (-707),U Z (-1000),U Z (-707),U Z 0]) (ok:=fun _=>True) (okp:=fun _=>True) fM avt (fun _ hk=>hk) trivial (Below.refl _ _) (Nat.le_refl _) (by simp) ?_;intro axZ w5 Rv hb Lc ow;clear Lc ow;(first|rw [← TR.out] at Rv|(simp only [Int.reduceToNat] at Rv;rw [← TR.out] at Rv));have GR:=aa.mk (Kd.jH Rv (fJ fu));replace HB:=dw HB hb;clear hb Rv)|((with_reducible refine aG (N:=7) rfl ?_);refine Kd.Bn (Kd.int .i64) _ 2 (by rfl) (N:=7) (by rfl) (xs:=([1000,707,0,(-707),(-1000),(-707),0,707,0]:List Int)) (inner:=[U Z 1000,U Z 707,U Z 0,U Z (-707),U Z (-1000),U Z (-707),U Z 0,U Z 707,U Z 0]) (ok:=fun _=>True) (okp:=fun _=>True) fM avu (fun _ hk=>hk) trivial (Below.refl _ _) (Nat.le_refl _) (by simp) ?_;intro ax0 w7 TT hb Lc ow;clear Lc ow;(first|rw [← TS.out] at TT|(simp only [Int.reduceToNat] at TT;rw [← TS.out] at TT));have O7:=aa.mk (Kd.jH (Kd.EM TT (Kd.UB afF)) (fJ fu));replace GR:=aa.mk (Kd.uX afF (Kd.EL TT) hb);replace HB:=dw HB hb;clear hb TT;obtain ⟨Ao9,co9,eo9⟩:=Kd.jI GR.out;subst eo9;have Rw:0≤(a0:Int):=of_decide_eq_true qN;have Rx:a0 < (KF.length:Int):=of_decide_eq_true qN;obtain ⟨asM,ah6,abq⟩:=Kd.Ns (Kd.fo GR.out).2.2 a0 Rw Rx;cases ah6;replace Rw:=eq_true Rw;replace Rx:=eq_true Rx;obtain ⟨ax2,ax3,ah7⟩:=Kd.jI O7.out;subst ah7;have Ry:0≤(a0:Int):=of_decide_eq_true qN;have Rz:a0 < (Ka.length:Int):=of_decide_eq_true qN;obtain ⟨asN,ah8,abr⟩:=Kd.Ns (Kd.fo O7.out).2.2 a0 Ry Rz;cases ah8;replace Ry:=eq_true Ry;replace Rz:=eq_true Rz))
    repeat (go_quiet (first|((with_reducible refine aG (N:=6) rfl ?_);refine Kd.Bn (Kd.int .i64) _ 2 (by rfl) (N:=6) (by rfl) (xs:=([0,707,1000,707,0,(-707),(-1000),(-707),0]:List Int)) (inner:=[U Z 0,U Z 707,U Z 1000,U Z 707,U Z 0,U Z (-707),U Z (-1000),U Z (-707),U Z 0]) (ok:=fun _=>True) (okp:=fun _=>True) fM avt (fun _ hk=>hk) trivial (Below.refl _ _) (Nat.le_refl _) (by simp) ?_;intro axZ w5 Rv hb Lc ow;clear Lc ow;(first|rw [← TR.out] at Rv|(simp only [Int.reduceToNat] at Rv;rw [← TR.out] at Rv));have GR:=aa.mk (Kd.jH Rv (fJ fu));replace HB:=dw HB hb;clear hb Rv)|((with_reducible refine aG (N:=7) rfl ?_);refine Kd.Bn (Kd.int .i64) _ 2 (by rfl) (N:=7) (by rfl) (xs:=([1000,707,0,(-707),(-1000),(-707),0,707,0]:List Int)) (inner:=[U Z 1000,U Z 707,U Z 0,U Z (-707),U Z (-1000),U Z (-707),U Z 0,U Z 707,U Z 0]) (ok:=fun _=>True) (okp:=fun _=>True) fM avu (fun _ hk=>hk) trivial (Below.refl _ _) (Nat.le_refl _) (by simp) ?_;intro ax0 w7 TT hb Lc ow;clear Lc ow;(first|rw [← TS.out] at TT|(simp only [Int.reduceToNat] at TT;rw [← TS.out] at TT));have O7:=aa.mk (Kd.jH (Kd.EM TT (Kd.UB afF)) (fJ fu));replace GR:=aa.mk (Kd.uX afF (Kd.EL TT) hb);replace HB:=dw HB hb;clear hb TT;obtain ⟨Ao9,co9,eo9⟩:=Kd.jI GR.out;subst eo9;have Rw:0≤(a0:Int):=of_decide_eq_true qN;have Rx:a0 < (KF.length:Int):=of_decide_eq_true qN;obtain ⟨asM,ah6,abq⟩:=Kd.Ns (Kd.fo GR.out).2.2 a0 Rw Rx;cases ah6;replace Rw:=eq_true Rw;replace Rx:=eq_true Rx;obtain ⟨ax2,ax3,ah7⟩:=Kd.jI O7.out;subst ah7;have Ry:0≤(a0:Int):=of_decide_eq_true qN;have Rz:a0 < (Ka.length:Int):=of_decide_eq_true qN;obtain ⟨asN,ah8,abr⟩:=Kd.Ns (Kd.fo O7.out).2.2 a0 Ry Rz;cases ah8;replace Ry:=eq_true Ry;replace Rz:=eq_true Rz));try go_wp2_with (first|((with_reducible refine aG (N:=6) rfl ?_);refine Kd.Bn (Kd.int .i64) _ 2 (by rfl) (N:=6) (by rfl) (xs:=([0,707,1000,707,0,(-707),(-1000),(-707),0]:List Int)) (inner:=[U Z 0,U Z 707,U Z 1000,U Z 707,U Z 0,U Z (-707),U Z (-1000),U Z (-707),U Z 0]) (ok:=fun _=>True) (okp:=fun _=>True) fM avt (fun _ hk=>hk) trivial (Below.refl _ _) (Nat.le_refl _) (by simp) ?_;intro axZ w5 Rv hb Lc ow;clear Lc ow;(first|rw [← TR.out] at Rv|(simp only [Int.reduceToNat] at Rv;rw [← TR.out] at Rv));have GR:=aa.mk (Kd.jH Rv (fJ fu));replace HB:=dw HB hb;clear hb Rv)|((with_reducible refine aG (N:=7) rfl ?_);refine Kd.Bn (Kd.int .i64) _ 2 (by rfl) (N:=7) (by rfl) (xs:=([1000,707,0,(-707),(-1000),(-707),0,707,0]:List Int)) (inner:=[U Z 1000,U Z 707,U Z 0,U Z (-707),U Z (-1000),U Z (-707),U Z 0,U Z 707,U Z 0]) (ok:=fun _=>True) (okp:=fun _=>True) fM avu (fun _ hk=>hk) trivial (Below.refl _ _) (Nat.le_refl _) (by simp) ?_;intro ax0 w7 TT hb Lc ow;clear Lc ow;(first|rw [← TS.out] at TT|(simp only [Int.reduceToNat] at TT;rw [← TS.out] at TT));have O7:=aa.mk (Kd.jH (Kd.EM TT (Kd.UB afF)) (fJ fu));replace GR:=aa.mk (Kd.uX afF (Kd.EL TT) hb);replace HB:=dw HB hb;clear hb TT;obtain ⟨Ao9,co9,eo9⟩:=Kd.jI GR.out;subst eo9;have Rw:0≤(a0:Int):=of_decide_eq_true qN;have Rx:a0 < (KF.length:Int):=of_decide_eq_true qN;obtain ⟨asM,ah6,abq⟩:=Kd.Ns (Kd.fo GR.out).2.2 a0 Rw Rx;cases ah6;replace Rw:=eq_true Rw;replace Rx:=eq_true Rx;obtain ⟨ax2,ax3,ah7⟩:=Kd.jI O7.out;subst ah7;have Ry:0≤(a0:Int):=of_decide_eq_true qN;have Rz:a0 < (Ka.length:Int):=of_decide_eq_true qN;obtain ⟨asN,ah8,abr⟩:=Kd.Ns (Kd.fo O7.out).2.2 a0 Ry Rz;cases ah8;replace Ry:=eq_true Ry;replace Rz:=eq_true Rz)))
    go_ret2
    exact ⟨kL,fu⟩
   ·rw [if_neg c4] at H
    exact absurd H (by simp)
  ·rw [if_neg c3] at H
   exact absurd H (by simp)
 ·rw [if_neg c2] at H
  exact absurd H (by simp)
def fU.f (ah:Int) (ai:Int) (aQ:Int) (aM:Int):Option (Bool):=if ah≤aM then (some (decide (aQ≤ai))) else (some false)
set_option maxHeartbeats 8000000 in
set_option maxRecDepth 100000 in
theorem fU.calls (ah:Int) (ai:Int) (aQ:Int) (aM:Int) (r:Bool) (w:World) (h:fU.f ah ai aQ aM = some r):
 Calls Try.prog 132 #[.agg #[U Z ah,U Z ai],.agg #[U Z aQ,U Z aM]] w fun e w'=>e = .returned (.bool r)∧Below w.heap.size w w':=by
 have oo:=Try.underlying27
 have HB:=aa.mk (Below.refl w.heap.size w)
 have H:(if ah≤aM then (some (decide (aQ≤ai))) else (some false)) = some r:=h
 clear h
 by_cases c3:ah≤aM
 ·rw [if_pos c3] at H
  have D9:decide (ah≤aM) = true:=decide_eq_true c3
  clear c3
  obtain rfl:=Option.some.inj H
  go_enter Try.func132,Try.ntmps132
  go_wp2_with (first|((with_reducible refine aG (N:=2) rfl ?_);refine az (by rfl) (N:=2) (by rfl) (cs:=#[U Z ah,U Z ai]) (t:=27) fM ?_;intro ax4 hg w4 hbox hb;have Hu:=aa.mk (hbox);have ax5:=dn HB hg;have ax6:=dn HB hg;replace HB:=dw HB hb;clear hb hbox hg)|((with_reducible refine aG (N:=3) rfl ?_);refine az (by rfl) (N:=3) (by rfl) (cs:=#[U Z aQ,U Z aM]) (t:=27) fM ?_;intro ax7 hg w5 hbox hb;have ah9:=aa.mk (hbox);have ax8:=dn HB hg;have ax9:=dn HB hg;have NM:=iq Hu hg;have NN:=iw Hu hg;replace Hu:=bC Hu hb;replace HB:=dw HB hb;clear hb hbox hg;have avv:=NM.out;have avw:=NN.out;obtain ⟨wX,wY,wZ,xc⟩:=jq Hu.out;obtain ⟨NC,ND,NF,NG⟩:=jq ah9.out))
  go_ret
  exact ⟨kL,fu⟩
 ·rw [if_neg c3] at H
  have D9:decide (ah≤aM) = false:=decide_eq_false c3
  clear c3
  obtain rfl:=Option.some.inj H
  go_enter Try.func132,Try.ntmps132
  go_wp2_with (first|((with_reducible refine aG (N:=2) rfl ?_);refine az (by rfl) (N:=2) (by rfl) (cs:=#[U Z ah,U Z ai]) (t:=27) fM ?_;intro ax4 hg w9 hbox hb;have Hu:=aa.mk (hbox);have ax5:=dn HB hg;have ax6:=dn HB hg;replace HB:=dw HB hb;clear hb hbox hg)|((with_reducible refine aG (N:=3) rfl ?_);refine az (by rfl) (N:=3) (by rfl) (cs:=#[U Z aQ,U Z aM]) (t:=27) fM ?_;intro ax7 hg w10 hbox hb;have ah9:=aa.mk (hbox);have ax8:=dn HB hg;have ax9:=dn HB hg;have NM:=iq Hu hg;have NN:=iw Hu hg;replace Hu:=bC Hu hb;replace HB:=dw HB hb;clear hb hbox hg;have XV:=NM.out;have XW:=NN.out;obtain ⟨qx,qy,qz,qA⟩:=jq Hu.out;obtain ⟨qY,qZ,q9,rf⟩:=jq ah9.out))
  go_ret
  exact ⟨kL,fu⟩
def fI.f (ah:Int) (ai:Int) (ax:Int) (ay:Int) (aQ:Int) (aM:Int) (bf:Int) (bg:Int):Option (Bool):=(fU.f ah ai aQ aM).bind fun afG=>(if afG = true then ((fU.f ax ay bf bg).bind fun SX=>(some SX)) else (some false))
set_option maxHeartbeats 8000000 in
set_option maxRecDepth 100000 in
theorem fI.calls (ah:Int) (ai:Int) (ax:Int) (ay:Int) (aQ:Int) (aM:Int) (bf:Int) (bg:Int) (r:Bool) (w:World) (h:fI.f ah ai ax ay aQ aM bf bg = some r):
 Calls Try.prog 104 #[.agg #[U Z ah,U Z ai,U Z ax,U Z ay],.agg #[U Z aQ,U Z aM,U Z bf,U Z bg]] w fun e w'=>e = .returned (.bool r)∧Below w.heap.size w w':=by
 have oP:=Try.underlying31
 have oo:=Try.underlying27
 have HB:=aa.mk (Below.refl w.heap.size w)
 have H:((fU.f ah ai aQ aM).bind fun afG=>(if afG = true then ((fU.f ax ay bf bg).bind fun SX=>(some SX)) else (some false))) = some r:=h
 clear h
 replace H:=Option.bind_eq_some_iff.mp H
 obtain ⟨afG,O5,H⟩:=H
 replace H:(if afG = true then ((fU.f ax ay bf bg).bind fun SX=>(some SX)) else (some false)) = some r:=H
 have A3:=aa.mk O5
 clear O5
 by_cases c4:afG = true
 ·subst c4
  have H1:((fU.f ax ay bf bg).bind fun SX=>(some SX)) = some r:=by rw [if_pos rfl] at H;exact H
  clear H
  have H:=H1
  clear H1
  replace H:=Option.bind_eq_some_iff.mp H
  obtain ⟨SX,O4,H⟩:=H
  replace H:(some SX) = some r:=H
  have A5:=aa.mk O4
  clear O4
  obtain rfl:=Option.some.inj H
  go_enter Try.func104,Try.ntmps104
  go_wp2_with (first|((with_reducible refine aG (N:=2) rfl ?_);refine az (by rfl) (N:=2) (by rfl) (cs:=#[U Z ah,U Z ai,U Z ax,U Z ay]) (t:=31) fM ?_;intro aya hg w6 hbox hb;have wH:=aa.mk (hbox);have ayb:=dn HB hg;have ayc:=dn HB hg;replace HB:=dw HB hb;clear hb hbox hg)|((with_reducible refine aG (N:=3) rfl ?_);refine az (by rfl) (N:=3) (by rfl) (cs:=#[U Z aQ,U Z aM,U Z bf,U Z bg]) (t:=31) fM ?_;intro ayd hg w7 hbox hb;have Kj:=aa.mk (hbox);have aye:=dn HB hg;have ayf:=dn HB hg;have NP:=iq wH hg;have NQ:=iw wH hg;replace wH:=bC wH hb;replace HB:=dw HB hb;clear hb hbox hg;have afx:=NP.out;have afy:=NQ.out;obtain ⟨Bw,Bz,Fp,Fq,BA,BC,Fs,Fu⟩:=gD wH.out;obtain ⟨rG,rH,Lj,Ll,rJ,rM,Lm,Lp⟩:=gD Kj.out)|((with_reducible refine aN (f:=132) rfl ?_);refine bT (some 9) rfl rfl Try.func132 aY rfl #[.agg #[U Z ah,U Z ai],.agg #[U Z aQ,U Z aM]] rfl iG ?_;(with_reducible refine (fU.calls ah ai aQ aM true _ A3.out).mono ?_);rintro e w11 ⟨rfl,hb⟩;refine ⟨_,rfl,?_⟩;replace wH:=bC wH hb;replace Kj:=bC Kj hb;replace HB:=dw HB hb;(try clear hb);(try clear hb2);(try clear hk);(try clear hi);obtain ⟨qx,qy,P9,Qa,qz,qA,Qb,Qc⟩:=gD wH.out;obtain ⟨qY,qZ,xW,xX,q9,rf,xY,xZ⟩:=gD Kj.out)|(go_at_call 132;(with_reducible refine (fU.calls ax ay bf bg SX _ A5.out).mono ?_);rintro e w14 ⟨rfl,hb⟩;replace wH:=bC wH hb;replace Kj:=bC Kj hb;replace HB:=dw HB hb;(try clear hb);(try clear hb2);(try clear hk);(try clear hi)))
  go_ret
  exact ⟨kL,fu⟩
 ·replace c4:=Bool.eq_false_iff.mpr c4
  subst c4
  have H1:(some false) = some r:=by rw [if_neg (show ¬ (false = true) by decide)] at H;exact H
  clear H
  have H:=H1
  clear H1
  obtain rfl:=Option.some.inj H
  go_enter Try.func104,Try.ntmps104
  go_wp2_with (first|((with_reducible refine aG (N:=2) rfl ?_);refine az (by rfl) (N:=2) (by rfl) (cs:=#[U Z ah,U Z ai,U Z ax,U Z ay]) (t:=31) fM ?_;intro aya hg w15 hbox hb;have wH:=aa.mk (hbox);have ayb:=dn HB hg;have ayc:=dn HB hg;replace HB:=dw HB hb;clear hb hbox hg)|((with_reducible refine aG (N:=3) rfl ?_);refine az (by rfl) (N:=3) (by rfl) (cs:=#[U Z aQ,U Z aM,U Z bf,U Z bg]) (t:=31) fM ?_;intro ayd hg w16 hbox hb;have Kj:=aa.mk (hbox);have aye:=dn HB hg;have ayf:=dn HB hg;have NP:=iq wH hg;have NQ:=iw wH hg;replace wH:=bC wH hb;replace HB:=dw HB hb;clear hb hbox hg;have abt:=NP.out;have abu:=NQ.out;obtain ⟨Ct,Cu,Ff,Fg,Cv,Cw,Fh,Fj⟩:=gD wH.out;obtain ⟨pI,pJ,qF,qG,pK,pM,qH,qI⟩:=gD Kj.out)|((with_reducible refine aN (f:=132) rfl ?_);refine bT (some 9) rfl rfl Try.func132 aY rfl #[.agg #[U Z ah,U Z ai],.agg #[U Z aQ,U Z aM]] rfl iG ?_;(with_reducible refine (fU.calls ah ai aQ aM false _ A3.out).mono ?_);rintro e GZ ⟨rfl,hb⟩;refine ⟨_,rfl,?_⟩;replace wH:=bC wH hb;replace Kj:=bC Kj hb;replace HB:=dw HB hb;(try clear hb);(try clear hb2);(try clear hk);(try clear hi)))
  go_ret
  exact ⟨kL,fu⟩
end Go.Proofs.Ytmhaiihjfgfaoaa.Pr
end
