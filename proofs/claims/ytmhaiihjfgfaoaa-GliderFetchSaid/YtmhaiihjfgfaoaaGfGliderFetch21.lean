import Derived.Test.YtmhaiihjfgfaoaaGfGliderFetch3
set_option linter.unusedVariables false
set_option linter.unusedSimpArgs false
open Go.Value renaming int → U
open Go.IntKind renaming i64 → Z
open Bool renaming true → ab, false → ac
section
namespace Go.Proofs.Ytmhaiihjfgfaoaa.Pr
open Go.RowKit Go.Proofs.YtmhaiihjfgfaoaaW.PrintWords Go.Proofs.YtmhaiihjfgfaoaaW.PrintLast Go.Proofs.YtmhaiihjfgfaoaaW.PrintMore
attribute [local go_sem] gp gq iA iB gu
set_option linter.unusedVariables false
set_option linter.unusedSimpArgs false
def iF.f (ai:Int) (aj:Int) (aC:Int) (aD:Int) (aJ:Int) (aH:Int) (aK:Int) (aT:List Bool) (ak:List (rq)) (a1:Int):Option (Int × Int × Int × Int):=if ai = 0 then (none) else (some (wrap64 ((Int.tmod a1 ai)*aC),wrap64 ((wrap64 ((Int.tmod a1 ai)+1))*aC),wrap64 ((wrap64 (Int.tdiv a1 ai))*aC),wrap64 ((wrap64 ((wrap64 (Int.tdiv a1 ai))+1))*aC)))
set_option maxHeartbeats 8000000 in
set_option maxRecDepth 100000 in
theorem iF.calls (ai:Int) (aj:Int) (aC:Int) (aD:Int) (aJ:Int) (aH:Int) (aK:Int) (dW:Option Addr) (dN:Nat) (aT:List Bool) (dZ:Option Addr) (dO:Nat) (ak:List (rq)) (a1:Int) (r1:Int) (r2:Int) (r3:Int) (r4:Int) (w:World) (jT:Kd.C Kd.bool w dW aT.length aT) (jU:aT.length≤dN) (jV:Kd.C GI w dZ ak.length ak) (jW:ak.length≤dO) (h:iF.f ai aj aC aD aJ aH aK aT ak a1 = some (r1,r2,r3,r4)):
 Calls Try.prog 42 #[.agg #[U Z ai,U Z aj,U Z aC,U Z aD,U Z aJ,U Z aH,U Z aK,.slice dW aT.length dN,.slice dZ ak.length dO],U Z a1] w fun e w'=>e = .returned (.agg #[U Z r1,U Z r2,U Z r3,U Z r4])∧Below w.heap.size w w':=by
 have BV:=Try.underlying25
 have rO:=Try.underlying31
 have pz:=Try.underlying27
 have ik:=aa.mk jT
 have iC:=aa.mk jU
 clear jT jU
 have gN:=aa.mk jV
 have iD:=aa.mk jW
 clear jV jW
 have HB:=aa.mk (Below.refl w.heap.size w)
 have H:(if ai = 0 then (none) else (some (wrap64 ((Int.tmod a1 ai)*aC),wrap64 ((wrap64 ((Int.tmod a1 ai)+1))*aC),wrap64 ((wrap64 (Int.tdiv a1 ai))*aC),wrap64 ((wrap64 ((wrap64 (Int.tdiv a1 ai))+1))*aC)))) = some (r1,r2,r3,r4):=h
 clear h
 by_cases c3:ai = 0
 ·rw [if_pos c3] at H
  exact absurd H (by simp)
 ·rw [if_neg c3] at H
  have Cc:(ai == 0) = false:=beq_eq_false_iff_ne.mpr c3
  have MZ:(ai != 0) = true:=bne_iff_ne.mpr c3
  simp only [Option.some.injEq,Prod.mk.injEq] at H
  obtain ⟨rfl,rfl,rfl,rfl⟩:=H
  go_enter Try.func42,Try.ntmps42
  go_wp2_with (first|((with_reducible refine aA (N:=2) rfl ?_);refine au (by rfl) (N:=2) (by rfl) (cs:=#[U Z ai,U Z aj,U Z aC,U Z aD,U Z aJ,U Z aH,U Z aK,.slice dW aT.length dN,.slice dZ ak.length dO]) (t:=25) fG ?_;intro awF hg w4 hbox hb;have Bv:=aa.mk (hbox);have awG:=bS HB hg;have awH:=bS HB hg;replace HB:=cO HB hb;clear hb hbox hg)|((with_reducible refine aA (N:=4) rfl ?_);refine au (by rfl) (N:=4) (by rfl) (cs:=#[U Z 0,U Z 0,U Z 0,U Z 0]) (t:=31) fG ?_;intro am3 hg w5 hbox hb;have V6:=aa.mk (hbox);have awI:=bS HB hg;have awJ:=bS HB hg;have FL:=eQ Bv hg;have FM:=eT Bv hg;replace Bv:=aX Bv hb;replace HB:=cO HB hb;clear hb hbox hg;have azf:=FL.out;have azg:=FM.out;obtain ⟨zA,zB,Fg,Fh,Hm,Ho,Mr,PM,PN,zC,zD,Fj,Fp,Hq,Hr,Ms,PO,PQ⟩:=jA Bv.out;obtain ⟨Md,Me,Xc,Xd,Mf,Mg,Xe,Xf⟩:=jc V6.out))
  repeat (go_quiet (first|((with_reducible refine aA (N:=2) rfl ?_);refine au (by rfl) (N:=2) (by rfl) (cs:=#[U Z ai,U Z aj,U Z aC,U Z aD,U Z aJ,U Z aH,U Z aK,.slice dW aT.length dN,.slice dZ ak.length dO]) (t:=25) fG ?_;intro awF hg w4 hbox hb;have Bv:=aa.mk (hbox);have awG:=bS HB hg;have awH:=bS HB hg;replace HB:=cO HB hb;clear hb hbox hg)|((with_reducible refine aA (N:=4) rfl ?_);refine au (by rfl) (N:=4) (by rfl) (cs:=#[U Z 0,U Z 0,U Z 0,U Z 0]) (t:=31) fG ?_;intro am3 hg w5 hbox hb;have V6:=aa.mk (hbox);have awI:=bS HB hg;have awJ:=bS HB hg;have FL:=eQ Bv hg;have FM:=eT Bv hg;replace Bv:=aX Bv hb;replace HB:=cO HB hb;clear hb hbox hg;have azf:=FL.out;have azg:=FM.out;obtain ⟨zA,zB,Fg,Fh,Hm,Ho,Mr,PM,PN,zC,zD,Fj,Fp,Hq,Hr,Ms,PO,PQ⟩:=jA Bv.out;obtain ⟨Md,Me,Xc,Xd,Mf,Mg,Xe,Xf⟩:=jc V6.out));try go_wp2_with (first|((with_reducible refine aA (N:=2) rfl ?_);refine au (by rfl) (N:=2) (by rfl) (cs:=#[U Z ai,U Z aj,U Z aC,U Z aD,U Z aJ,U Z aH,U Z aK,.slice dW aT.length dN,.slice dZ ak.length dO]) (t:=25) fG ?_;intro awF hg w4 hbox hb;have Bv:=aa.mk (hbox);have awG:=bS HB hg;have awH:=bS HB hg;replace HB:=cO HB hb;clear hb hbox hg)|((with_reducible refine aA (N:=4) rfl ?_);refine au (by rfl) (N:=4) (by rfl) (cs:=#[U Z 0,U Z 0,U Z 0,U Z 0]) (t:=31) fG ?_;intro am3 hg w5 hbox hb;have V6:=aa.mk (hbox);have awI:=bS HB hg;have awJ:=bS HB hg;have FL:=eQ Bv hg;have FM:=eT Bv hg;replace Bv:=aX Bv hb;replace HB:=cO HB hb;clear hb hbox hg;have azf:=FL.out;have azg:=FM.out;obtain ⟨zA,zB,Fg,Fh,Hm,Ho,Mr,PM,PN,zC,zD,Fj,Fp,Hq,Hr,Ms,PO,PQ⟩:=jA Bv.out;obtain ⟨Md,Me,Xc,Xd,Mf,Mg,Xe,Xf⟩:=jc V6.out)))
  refine bodyPost_ret (results_cell_row rfl _ _ am3 31 #[U Z (wrap64 ((Int.tmod a1 ai)*aC)),U Z (wrap64 ((wrap64 ((Int.tmod a1 ai)+1))*aC)),U Z (wrap64 ((wrap64 (Int.tdiv a1 ai))*aC)),U Z (wrap64 ((wrap64 ((wrap64 (Int.tdiv a1 ai))+1))*aC))] (0,0) _ rfl (by (with_reducible repeat (first|refine av ?_ _|refine ag ?_|refine af ?_ _));refine aN (cs:=#[U Z (wrap64 ((Int.tmod a1 ai)*aC)),U Z (wrap64 ((wrap64 ((Int.tmod a1 ai)+1))*aC)),U Z (wrap64 ((wrap64 (Int.tdiv a1 ai))*aC)),U Z 0]) ?_ 3 _ rfl;(with_reducible repeat (first|refine av ?_ _|refine ag ?_|refine af ?_ _));refine aN (cs:=#[U Z (wrap64 ((Int.tmod a1 ai)*aC)),U Z (wrap64 ((wrap64 ((Int.tmod a1 ai)+1))*aC)),U Z 0,U Z 0]) ?_ 2 _ rfl;(with_reducible repeat (first|refine av ?_ _|refine ag ?_|refine af ?_ _));refine aN (cs:=#[U Z (wrap64 ((Int.tmod a1 ai)*aC)),U Z 0,U Z 0,U Z 0]) ?_ 1 _ rfl;(with_reducible repeat (first|refine av ?_ _|refine ag ?_|refine af ?_ _));refine aN (cs:=#[U Z 0,U Z 0,U Z 0,U Z 0]) ?_ 0 _ rfl;(with_reducible repeat (first|refine av ?_ _|refine ag ?_|refine af ?_ _));exact V6.out) Try.underlying31 rfl aM) rfl ?_
  exact ⟨lW,gL⟩
end Go.Proofs.Ytmhaiihjfgfaoaa.Pr
end
