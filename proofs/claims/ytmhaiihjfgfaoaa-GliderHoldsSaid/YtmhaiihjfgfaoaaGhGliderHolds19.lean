import Derived.Test.YtmhaiihjfgfaoaaGhGliderHolds3
section
namespace Go.Proofs.Ytmhaiihjfgfaoaa.Pr
open Go.RowKit Go.Proofs.YtmhaiihjfgfaoaaW.PrintWords Go.Proofs.YtmhaiihjfgfaoaaW.PrintLast Go.Proofs.YtmhaiihjfgfaoaaW.PrintMore
attribute [local go_sem] cz cB dK dL cK
set_option linter.unusedVariables false
set_option linter.unusedSimpArgs false
def eT.f (aj:Int) (ak:Int) (aU:Int) (aQ:Int):Option (Int × Int):=some (mn aj aU,mx ak aQ)
set_option maxHeartbeats 8000000 in
set_option maxRecDepth 100000 in
theorem eT.calls (aj:Int) (ak:Int) (aU:Int) (aQ:Int) (r1:Int) (r2:Int) (w:World) (h:eT.f aj ak aU aQ = some (r1,r2)):
 Calls Try.prog 120 #[.agg #[.int .i64 aj,.int .i64 ak],.agg #[.int .i64 aU,.int .i64 aQ]] w fun e w'=>e = .returned (.agg #[.int .i64 r1,.int .i64 r2])∧Below w.heap.size w w':=by
 have pK:=Try.underlying27
 have HB:=ae.mk (Below.refl w.heap.size w)
 have H:(some (mn aj aU,mx ak aQ)) = some (r1,r2):=h
 clear h
 obtain ⟨Ic,Ih⟩:∃ j_:Int,(mn aj aU) = j_:=⟨_,rfl⟩
 replace H:(some (Ic,mx ak aQ)) = some (r1,r2):=by first|(rw [Ih] at H;exact H)|(simp only [Ih] at H ⊢;exact H)
 have akB:(if aU < aj then aU else aj) = Ic:=Ih
 obtain ⟨ji4,Rc⟩:∃ j_:Int,(mx ak aQ) = j_:=⟨_,rfl⟩
 replace H:(some (Ic,ji4)) = some (r1,r2):=by first|(rw [Rc] at H;exact H)|(simp only [Rc] at H ⊢;exact H)
 have aoG:(if ak < aQ then aQ else ak) = ji4:=Rc
 simp only [Option.some.injEq,Prod.mk.injEq] at H
 obtain ⟨rfl,rfl⟩:=H
 go_enter Try.func120,Try.ntmps120
 go_wp2_with (first|((with_reducible refine aA (N:=2) rfl ?_);refine az (by rfl) (N:=2) (by rfl) (cs:=#[.int .i64 aj,.int .i64 ak]) (t:=27) gQ ?_;intro aFl hg w5 hbox hb;have Ji:=ae.mk (hbox);have aFm:=dn HB hg;have aFn:=dn HB hg;replace HB:=dF HB hb;clear hb hbox hg)|((with_reducible refine aA (N:=3) rfl ?_);refine az (by rfl) (N:=3) (by rfl) (cs:=#[.int .i64 aU,.int .i64 aQ]) (t:=27) gQ ?_;intro aFo hg w6 hbox hb;have Va:=ae.mk (hbox);have aFp:=dn HB hg;have aFq:=dn HB hg;have abX:=iE Ji hg;have abY:=iF Ji hg;replace Ji:=bC Ji hb;replace HB:=dF HB hb;clear hb hbox hg)|((with_reducible refine aA (N:=4) rfl ?_);refine az (by rfl) (N:=4) (by rfl) (cs:=#[.int .i64 0,.int .i64 0]) (t:=27) gQ ?_;intro ap1 hg w7 hbox hb;have akV:=ae.mk (hbox);have aFr:=dn HB hg;have aFs:=dn HB hg;have abZ:=iE Ji hg;have ab0:=iF Ji hg;have ab1:=iE Va hg;have ab2:=iF Va hg;replace Ji:=bC Ji hb;replace Va:=bC Va hb;replace HB:=dF HB hb;clear hb hbox hg;have agB:=abX.out;have agC:=abY.out;have apz:=abZ.out;have apA:=ab0.out;obtain ⟨wL,wM,wN,wO⟩:=nE Ji.out;have Us:=ab1.out;have Ut:=ab2.out;obtain ⟨uS,uT,uU,uV⟩:=nE Va.out;obtain ⟨uW,uX,uY,uZ⟩:=nE akV.out))
 refine bodyPost_ret (results_cell_row rfl _ _ ap1 27 #[.int .i64 Ic,.int .i64 ji4] (0,0) _ rfl (by (with_reducible repeat (first|refine au ?_ _|refine ah ?_|refine ag ?_ _));refine aI (cs:=#[.int .i64 Ic,.int .i64 0]) ?_ 1 _ rfl;(with_reducible repeat (first|refine au ?_ _|refine ah ?_|refine ag ?_ _));refine aI (cs:=#[.int .i64 0,.int .i64 0]) ?_ 0 _ rfl;(with_reducible repeat (first|refine au ?_ _|refine ah ?_|refine ag ?_ _));exact akV.out) Try.underlying27 rfl aR) rfl ?_
 exact ⟨by first|rfl|(simp [kr,ku] <;> rfl)|(simp only [← Ih,← Rc];first|rfl|(simp [kr,ku] <;> rfl))|(simp [*,kr,ku] <;> rfl),gM⟩
end Go.Proofs.Ytmhaiihjfgfaoaa.Pr
end
section
namespace Go.Proofs.Ytmhaiihjfgfaoaa.Pr
open Go.RowKit Go.Proofs.YtmhaiihjfgfaoaaW.PrintWords Go.Proofs.YtmhaiihjfgfaoaaW.PrintLast Go.Proofs.YtmhaiihjfgfaoaaW.PrintMore
attribute [local go_sem] cz cB dK dL cK
set_option linter.unusedVariables false
set_option linter.unusedSimpArgs false
def fO.f (aj:Int) (ak:Int) (ax:Int) (ay:Int) (aJ:Int) (aC:Int) (aG:Int) (aN:List Bool) (av:List (nU)) (a1:Int):Option (Int × Int × Int × Int):=if aj = 0 then (none) else (some (wrap64 ((Int.tmod a1 aj)*ax),wrap64 ((wrap64 ((Int.tmod a1 aj)+1))*ax),wrap64 ((wrap64 (Int.tdiv a1 aj))*ax),wrap64 ((wrap64 ((wrap64 (Int.tdiv a1 aj))+1))*ax)))
set_option maxHeartbeats 8000000 in
set_option maxRecDepth 100000 in
theorem fO.calls (aj:Int) (ak:Int) (ax:Int) (ay:Int) (aJ:Int) (aC:Int) (aG:Int) (dH:Option Addr) (dD:Nat) (aN:List Bool) (dG:Option Addr) (dE:Nat) (av:List (nU)) (a1:Int) (r1:Int) (r2:Int) (r3:Int) (r4:Int) (w:World) (iW:Kd.C Kd.bool w dH aN.length aN) (iX:aN.length≤dD) (iY:Kd.C CY w dG av.length av) (iZ:av.length≤dE) (h:fO.f aj ak ax ay aJ aC aG aN av a1 = some (r1,r2,r3,r4)):
 Calls Try.prog 42 #[.agg #[.int .i64 aj,.int .i64 ak,.int .i64 ax,.int .i64 ay,.int .i64 aJ,.int .i64 aC,.int .i64 aG,.slice dH aN.length dD,.slice dG av.length dE],.int .i64 a1] w fun e w'=>e = .returned (.agg #[.int .i64 r1,.int .i64 r2,.int .i64 r3,.int .i64 r4])∧Below w.heap.size w w':=by
 have xE:=Try.underlying25
 have qP:=Try.underlying31
 have pK:=Try.underlying27
 have gq:=ae.mk iW
 have gG:=ae.mk iX
 clear iW iX
 have fF:=ae.mk iY
 have gH:=ae.mk iZ
 clear iY iZ
 have HB:=ae.mk (Below.refl w.heap.size w)
 have H:(if aj = 0 then (none) else (some (wrap64 ((Int.tmod a1 aj)*ax),wrap64 ((wrap64 ((Int.tmod a1 aj)+1))*ax),wrap64 ((wrap64 (Int.tdiv a1 aj))*ax),wrap64 ((wrap64 ((wrap64 (Int.tdiv a1 aj))+1))*ax)))) = some (r1,r2,r3,r4):=h
 clear h
 by_cases c3:aj = 0
 ·rw [if_pos c3] at H
  exact absurd H (by simp)
 ·rw [if_neg c3] at H
  have Db:(aj == 0) = false:=beq_eq_false_iff_ne.mpr c3
  have UQ:(aj != 0) = true:=bne_iff_ne.mpr c3
  simp only [Option.some.injEq,Prod.mk.injEq] at H
  obtain ⟨rfl,rfl,rfl,rfl⟩:=H
  go_enter Try.func42,Try.ntmps42
  go_wp2_with (first|((with_reducible refine aA (N:=2) rfl ?_);refine az (by rfl) (N:=2) (by rfl) (cs:=#[.int .i64 aj,.int .i64 ak,.int .i64 ax,.int .i64 ay,.int .i64 aJ,.int .i64 aC,.int .i64 aG,.slice dH aN.length dD,.slice dG av.length dE]) (t:=25) gQ ?_;intro akW hg w4 hbox hb;have vK:=ae.mk (hbox);have akX:=dn HB hg;have akY:=dn HB hg;replace HB:=dF HB hb;clear hb hbox hg)|((with_reducible refine aA (N:=4) rfl ?_);refine az (by rfl) (N:=4) (by rfl) (cs:=#[.int .i64 0,.int .i64 0,.int .i64 0,.int .i64 0]) (t:=31) gQ ?_;intro aen hg w5 hbox hb;have QO:=ae.mk (hbox);have akZ:=dn HB hg;have ak0:=dn HB hg;have Ah:=iE vK hg;have Ai:=iF vK hg;replace vK:=bC vK hb;replace HB:=dF HB hb;clear hb hbox hg;have anc:=Ah.out;have ane:=Ai.out;obtain ⟨xI,xJ,Dx,Dy,G6,G7,G8,Lg,Lh,xK,xL,Dz,DC,G9,Ha,Hd,Li,Lj⟩:=iI vK.out;obtain ⟨GQ,GR,Ry,Rz,GU,GV,RA,RB⟩:=iC QO.out))
  repeat (go_quiet (first|((with_reducible refine aA (N:=2) rfl ?_);refine az (by rfl) (N:=2) (by rfl) (cs:=#[.int .i64 aj,.int .i64 ak,.int .i64 ax,.int .i64 ay,.int .i64 aJ,.int .i64 aC,.int .i64 aG,.slice dH aN.length dD,.slice dG av.length dE]) (t:=25) gQ ?_;intro akW hg w4 hbox hb;have vK:=ae.mk (hbox);have akX:=dn HB hg;have akY:=dn HB hg;replace HB:=dF HB hb;clear hb hbox hg)|((with_reducible refine aA (N:=4) rfl ?_);refine az (by rfl) (N:=4) (by rfl) (cs:=#[.int .i64 0,.int .i64 0,.int .i64 0,.int .i64 0]) (t:=31) gQ ?_;intro aen hg w5 hbox hb;have QO:=ae.mk (hbox);have akZ:=dn HB hg;have ak0:=dn HB hg;have Ah:=iE vK hg;have Ai:=iF vK hg;replace vK:=bC vK hb;replace HB:=dF HB hb;clear hb hbox hg;have anc:=Ah.out;have ane:=Ai.out;obtain ⟨xI,xJ,Dx,Dy,G6,G7,G8,Lg,Lh,xK,xL,Dz,DC,G9,Ha,Hd,Li,Lj⟩:=iI vK.out;obtain ⟨GQ,GR,Ry,Rz,GU,GV,RA,RB⟩:=iC QO.out));try go_wp2_with (first|((with_reducible refine aA (N:=2) rfl ?_);refine az (by rfl) (N:=2) (by rfl) (cs:=#[.int .i64 aj,.int .i64 ak,.int .i64 ax,.int .i64 ay,.int .i64 aJ,.int .i64 aC,.int .i64 aG,.slice dH aN.length dD,.slice dG av.length dE]) (t:=25) gQ ?_;intro akW hg w4 hbox hb;have vK:=ae.mk (hbox);have akX:=dn HB hg;have akY:=dn HB hg;replace HB:=dF HB hb;clear hb hbox hg)|((with_reducible refine aA (N:=4) rfl ?_);refine az (by rfl) (N:=4) (by rfl) (cs:=#[.int .i64 0,.int .i64 0,.int .i64 0,.int .i64 0]) (t:=31) gQ ?_;intro aen hg w5 hbox hb;have QO:=ae.mk (hbox);have akZ:=dn HB hg;have ak0:=dn HB hg;have Ah:=iE vK hg;have Ai:=iF vK hg;replace vK:=bC vK hb;replace HB:=dF HB hb;clear hb hbox hg;have anc:=Ah.out;have ane:=Ai.out;obtain ⟨xI,xJ,Dx,Dy,G6,G7,G8,Lg,Lh,xK,xL,Dz,DC,G9,Ha,Hd,Li,Lj⟩:=iI vK.out;obtain ⟨GQ,GR,Ry,Rz,GU,GV,RA,RB⟩:=iC QO.out)))
  refine bodyPost_ret (results_cell_row rfl _ _ aen 31 #[.int .i64 (wrap64 ((Int.tmod a1 aj)*ax)),.int .i64 (wrap64 ((wrap64 ((Int.tmod a1 aj)+1))*ax)),.int .i64 (wrap64 ((wrap64 (Int.tdiv a1 aj))*ax)),.int .i64 (wrap64 ((wrap64 ((wrap64 (Int.tdiv a1 aj))+1))*ax))] (0,0) _ rfl (by (with_reducible repeat (first|refine au ?_ _|refine ah ?_|refine ag ?_ _));refine aI (cs:=#[.int .i64 (wrap64 ((Int.tmod a1 aj)*ax)),.int .i64 (wrap64 ((wrap64 ((Int.tmod a1 aj)+1))*ax)),.int .i64 (wrap64 ((wrap64 (Int.tdiv a1 aj))*ax)),.int .i64 0]) ?_ 3 _ rfl;(with_reducible repeat (first|refine au ?_ _|refine ah ?_|refine ag ?_ _));refine aI (cs:=#[.int .i64 (wrap64 ((Int.tmod a1 aj)*ax)),.int .i64 (wrap64 ((wrap64 ((Int.tmod a1 aj)+1))*ax)),.int .i64 0,.int .i64 0]) ?_ 2 _ rfl;(with_reducible repeat (first|refine au ?_ _|refine ah ?_|refine ag ?_ _));refine aI (cs:=#[.int .i64 (wrap64 ((Int.tmod a1 aj)*ax)),.int .i64 0,.int .i64 0,.int .i64 0]) ?_ 1 _ rfl;(with_reducible repeat (first|refine au ?_ _|refine ah ?_|refine ag ?_ _));refine aI (cs:=#[.int .i64 0,.int .i64 0,.int .i64 0,.int .i64 0]) ?_ 0 _ rfl;(with_reducible repeat (first|refine au ?_ _|refine ah ?_|refine ag ?_ _));exact QO.out) Try.underlying31 rfl aR) rfl ?_
  exact ⟨lJ,gM⟩
end Go.Proofs.Ytmhaiihjfgfaoaa.Pr
end
