import Derived.Test.YtmhaiihjfgfaoaaGzGliderReaches3
open Go.Value renaming int → U
open Go.IntKind renaming i64 → Z
open Bool renaming true → ab, false → ac
section
namespace Go.Proofs.Ytmhaiihjfgfaoaa.Pr
open Go.RowKit Go.Proofs.YtmhaiihjfgfaoaaW.PrintWords Go.Proofs.YtmhaiihjfgfaoaaW.PrintLast Go.Proofs.YtmhaiihjfgfaoaaW.PrintMore
attribute [local go_sem] eD eF fD fE eG
set_option linter.unusedVariables false
set_option linter.unusedSimpArgs false
def dC.f (ah:Int) (ai:Int) (aQ:Int) (aM:Int):Option (Int × Int):=some (mn ah aQ,mx ai aM)
set_option maxHeartbeats 8000000 in
set_option maxRecDepth 100000 in
theorem dC.calls (ah:Int) (ai:Int) (aQ:Int) (aM:Int) (r1:Int) (r2:Int) (w:World) (h:dC.f ah ai aQ aM = some (r1,r2)):
 Calls Try.prog 120 #[.agg #[U Z ah,U Z ai],.agg #[U Z aQ,U Z aM]] w fun e w'=>e = .returned (.agg #[U Z r1,U Z r2])∧Below w.heap.size w w':=by
 have oo:=Try.underlying27
 have HB:=aa.mk (Below.refl w.heap.size w)
 have H:(some (mn ah aQ,mx ai aM)) = some (r1,r2):=h
 clear h
 obtain ⟨BL,G6⟩:∃ j_:Int,(mn ah aQ) = j_:=⟨_,rfl⟩
 replace H:(some (BL,mx ai aM)) = some (r1,r2):=by first|(rw [G6] at H;exact H)|(simp only [G6] at H ⊢;exact H)
 have aia:(if aQ < ah then aQ else ah) = BL:=G6
 obtain ⟨Qf,NR⟩:∃ j_:Int,(mx ai aM) = j_:=⟨_,rfl⟩
 replace H:(some (BL,Qf)) = some (r1,r2):=by first|(rw [NR] at H;exact H)|(simp only [NR] at H ⊢;exact H)
 have asO:(if ai < aM then aM else ai) = Qf:=NR
 simp only [Option.some.injEq,Prod.mk.injEq] at H
 obtain ⟨rfl,rfl⟩:=H
 go_enter Try.func120,Try.ntmps120
 go_wp2_with (first|((with_reducible refine aG (N:=2) rfl ?_);refine az (by rfl) (N:=2) (by rfl) (cs:=#[U Z ah,U Z ai]) (t:=27) fM ?_;intro aQF hg w5 hbox hb;have LA:=aa.mk (hbox);have aQG:=dn HB hg;have aQH:=dn HB hg;replace HB:=dw HB hb;clear hb hbox hg)|((with_reducible refine aG (N:=3) rfl ?_);refine az (by rfl) (N:=3) (by rfl) (cs:=#[U Z aQ,U Z aM]) (t:=27) fM ?_;intro aQI hg w6 hbox hb;have Ya:=aa.mk (hbox);have aQJ:=dn HB hg;have aQK:=dn HB hg;have afH:=iq LA hg;have afI:=iw LA hg;replace LA:=bC LA hb;replace HB:=dw HB hb;clear hb hbox hg)|((with_reducible refine aG (N:=4) rfl ?_);refine az (by rfl) (N:=4) (by rfl) (cs:=#[U Z 0,U Z 0]) (t:=27) fM ?_;intro ayg hg w7 hbox hb;have asP:=aa.mk (hbox);have aQL:=dn HB hg;have aQM:=dn HB hg;have afJ:=iq LA hg;have afK:=iw LA hg;have afL:=iq Ya hg;have afM:=iw Ya hg;replace LA:=bC LA hb;replace Ya:=bC Ya hb;replace HB:=dw HB hb;clear hb hbox hg;have afx:=afH.out;have afy:=afI.out;have ak3:=afJ.out;have ak4:=afK.out;obtain ⟨rG,rH,rJ,rM⟩:=jq LA.out;have XV:=afL.out;have XW:=afM.out;obtain ⟨qx,qy,qz,qA⟩:=jq Ya.out;obtain ⟨qY,qZ,q9,rf⟩:=jq asP.out))
 refine bodyPost_ret (results_cell_row rfl _ _ ayg 27 #[U Z BL,U Z Qf] (0,0) _ rfl (by (with_reducible repeat (first|refine au ?_ _|refine ag ?_|refine ae ?_ _));refine aI (cs:=#[U Z BL,U Z 0]) ?_ 1 _ rfl;(with_reducible repeat (first|refine au ?_ _|refine ag ?_|refine ae ?_ _));refine aI (cs:=#[U Z 0,U Z 0]) ?_ 0 _ rfl;(with_reducible repeat (first|refine au ?_ _|refine ag ?_|refine ae ?_ _));exact asP.out) Try.underlying27 rfl aY) rfl ?_
 exact ⟨ayh,fu⟩
def jY.f (ah:Int) (ai:Int) (ax:Int) (ay:Int) (aK:Int) (aH:Int) (aJ:Int) (aR:List Bool) (aC:List (oV)) (a1:Int):Option (Int × Int × Int × Int):=if ah = 0 then (none) else (some (wrap64 ((Int.tmod a1 ah)*ax),wrap64 ((wrap64 ((Int.tmod a1 ah)+1))*ax),wrap64 ((wrap64 (Int.tdiv a1 ah))*ax),wrap64 ((wrap64 ((wrap64 (Int.tdiv a1 ah))+1))*ax)))
set_option maxHeartbeats 8000000 in
set_option maxRecDepth 100000 in
theorem jY.calls (ah:Int) (ai:Int) (ax:Int) (ay:Int) (aK:Int) (aH:Int) (aJ:Int) (dG:Option Addr) (dH:Nat) (aR:List Bool) (dJ:Option Addr) (dI:Nat) (aC:List (oV)) (a1:Int) (r1:Int) (r2:Int) (r3:Int) (r4:Int) (w:World) (iU:Kd.C Kd.bool w dG aR.length aR) (iV:aR.length≤dH) (iW:Kd.C DD w dJ aC.length aC) (iX:aC.length≤dI) (h:jY.f ah ai ax ay aK aH aJ aR aC a1 = some (r1,r2,r3,r4)):
 Calls Try.prog 42 #[.agg #[U Z ah,U Z ai,U Z ax,U Z ay,U Z aK,U Z aH,U Z aJ,.slice dG aR.length dH,.slice dJ aC.length dI],U Z a1] w fun e w'=>e = .returned (.agg #[U Z r1,U Z r2,U Z r3,U Z r4])∧Below w.heap.size w w':=by
 have zR:=Try.underlying25
 have oP:=Try.underlying31
 have oo:=Try.underlying27
 have gq:=aa.mk iU
 have gu:=aa.mk iV
 clear iU iV
 have fH:=aa.mk iW
 have gz:=aa.mk iX
 clear iW iX
 have HB:=aa.mk (Below.refl w.heap.size w)
 have H:(if ah = 0 then (none) else (some (wrap64 ((Int.tmod a1 ah)*ax),wrap64 ((wrap64 ((Int.tmod a1 ah)+1))*ax),wrap64 ((wrap64 (Int.tdiv a1 ah))*ax),wrap64 ((wrap64 ((wrap64 (Int.tdiv a1 ah))+1))*ax)))) = some (r1,r2,r3,r4):=h
 clear h
 by_cases c3:ah = 0
 ·rw [if_pos c3] at H
  exact absurd H (by simp)
 ·rw [if_neg c3] at H
  have D9:(ah == 0) = false:=beq_eq_false_iff_ne.mpr c3
  have SI:(ah != 0) = true:=bne_iff_ne.mpr c3
  simp only [Option.some.injEq,Prod.mk.injEq] at H
  obtain ⟨rfl,rfl,rfl,rfl⟩:=H
  go_enter Try.func42,Try.ntmps42
  go_wp2_with (first|((with_reducible refine aG (N:=2) rfl ?_);refine az (by rfl) (N:=2) (by rfl) (cs:=#[U Z ah,U Z ai,U Z ax,U Z ay,U Z aK,U Z aH,U Z aJ,.slice dG aR.length dH,.slice dJ aC.length dI]) (t:=25) fM ?_;intro asQ hg w4 hbox hb;have zJ:=aa.mk (hbox);have asR:=dn HB hg;have asS:=dn HB hg;replace HB:=dw HB hb;clear hb hbox hg)|((with_reducible refine aG (N:=4) rfl ?_);refine az (by rfl) (N:=4) (by rfl) (cs:=#[U Z 0,U Z 0,U Z 0,U Z 0]) (t:=31) fM ?_;intro aib hg w5 hbox hb;have TU:=aa.mk (hbox);have asT:=dn HB hg;have asU:=dn HB hg;have Ee:=iq zJ hg;have Ef:=iw zJ hg;replace zJ:=bC zJ hb;replace HB:=dw HB hb;clear hb hbox hg;have avv:=Ee.out;have avw:=Ef.out;obtain ⟨wX,wY,DK,DL,Fv,Fw,KG,NS,NT,wZ,xc,DN,DR,Fx,Fy,KH,NU,NV⟩:=iH zJ.out;obtain ⟨NC,ND,ZO,ZP,NF,NG,ZQ,ZR⟩:=gD TU.out))
  repeat (go_quiet (first|((with_reducible refine aG (N:=2) rfl ?_);refine az (by rfl) (N:=2) (by rfl) (cs:=#[U Z ah,U Z ai,U Z ax,U Z ay,U Z aK,U Z aH,U Z aJ,.slice dG aR.length dH,.slice dJ aC.length dI]) (t:=25) fM ?_;intro asQ hg w4 hbox hb;have zJ:=aa.mk (hbox);have asR:=dn HB hg;have asS:=dn HB hg;replace HB:=dw HB hb;clear hb hbox hg)|((with_reducible refine aG (N:=4) rfl ?_);refine az (by rfl) (N:=4) (by rfl) (cs:=#[U Z 0,U Z 0,U Z 0,U Z 0]) (t:=31) fM ?_;intro aib hg w5 hbox hb;have TU:=aa.mk (hbox);have asT:=dn HB hg;have asU:=dn HB hg;have Ee:=iq zJ hg;have Ef:=iw zJ hg;replace zJ:=bC zJ hb;replace HB:=dw HB hb;clear hb hbox hg;have avv:=Ee.out;have avw:=Ef.out;obtain ⟨wX,wY,DK,DL,Fv,Fw,KG,NS,NT,wZ,xc,DN,DR,Fx,Fy,KH,NU,NV⟩:=iH zJ.out;obtain ⟨NC,ND,ZO,ZP,NF,NG,ZQ,ZR⟩:=gD TU.out));try go_wp2_with (first|((with_reducible refine aG (N:=2) rfl ?_);refine az (by rfl) (N:=2) (by rfl) (cs:=#[U Z ah,U Z ai,U Z ax,U Z ay,U Z aK,U Z aH,U Z aJ,.slice dG aR.length dH,.slice dJ aC.length dI]) (t:=25) fM ?_;intro asQ hg w4 hbox hb;have zJ:=aa.mk (hbox);have asR:=dn HB hg;have asS:=dn HB hg;replace HB:=dw HB hb;clear hb hbox hg)|((with_reducible refine aG (N:=4) rfl ?_);refine az (by rfl) (N:=4) (by rfl) (cs:=#[U Z 0,U Z 0,U Z 0,U Z 0]) (t:=31) fM ?_;intro aib hg w5 hbox hb;have TU:=aa.mk (hbox);have asT:=dn HB hg;have asU:=dn HB hg;have Ee:=iq zJ hg;have Ef:=iw zJ hg;replace zJ:=bC zJ hb;replace HB:=dw HB hb;clear hb hbox hg;have avv:=Ee.out;have avw:=Ef.out;obtain ⟨wX,wY,DK,DL,Fv,Fw,KG,NS,NT,wZ,xc,DN,DR,Fx,Fy,KH,NU,NV⟩:=iH zJ.out;obtain ⟨NC,ND,ZO,ZP,NF,NG,ZQ,ZR⟩:=gD TU.out)))
  refine bodyPost_ret (results_cell_row rfl _ _ aib 31 #[U Z (wrap64 ((Int.tmod a1 ah)*ax)),U Z (wrap64 ((wrap64 ((Int.tmod a1 ah)+1))*ax)),U Z (wrap64 ((wrap64 (Int.tdiv a1 ah))*ax)),U Z (wrap64 ((wrap64 ((wrap64 (Int.tdiv a1 ah))+1))*ax))] (0,0) _ rfl (by (with_reducible repeat (first|refine au ?_ _|refine ag ?_|refine ae ?_ _));refine aI (cs:=#[U Z (wrap64 ((Int.tmod a1 ah)*ax)),U Z (wrap64 ((wrap64 ((Int.tmod a1 ah)+1))*ax)),U Z (wrap64 ((wrap64 (Int.tdiv a1 ah))*ax)),U Z 0]) ?_ 3 _ rfl;(with_reducible repeat (first|refine au ?_ _|refine ag ?_|refine ae ?_ _));refine aI (cs:=#[U Z (wrap64 ((Int.tmod a1 ah)*ax)),U Z (wrap64 ((wrap64 ((Int.tmod a1 ah)+1))*ax)),U Z 0,U Z 0]) ?_ 2 _ rfl;(with_reducible repeat (first|refine au ?_ _|refine ag ?_|refine ae ?_ _));refine aI (cs:=#[U Z (wrap64 ((Int.tmod a1 ah)*ax)),U Z 0,U Z 0,U Z 0]) ?_ 1 _ rfl;(with_reducible repeat (first|refine au ?_ _|refine ag ?_|refine ae ?_ _));refine aI (cs:=#[U Z 0,U Z 0,U Z 0,U Z 0]) ?_ 0 _ rfl;(with_reducible repeat (first|refine au ?_ _|refine ag ?_|refine ae ?_ _));exact TU.out) Try.underlying31 rfl aY) rfl ?_
  exact ⟨kL,fu⟩
end Go.Proofs.Ytmhaiihjfgfaoaa.Pr
end
