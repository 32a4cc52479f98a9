import Derived.Test.YtmhaiihjfgfaoaaGaa1
import Derived.Test.YtmhaiihjfgfaoaaGaGliderSeas1
import Derived.Test.YtmhaiihjfgfaoaaGaa7
import Derived.Test.YtmhaiihjfgfaoaaGaGliderSeas3
import Derived.Test.YtmhaiihjfgfaoaaGaa2
import Derived.Test.YtmhaiihjfgfaoaaGaa4
import Derived.Test.YtmhaiihjfgfaoaaGaa3
import Derived.Test.YtmhaiihjfgfaoaaGaa8
section
namespace Go.Proofs.Ytmhaiihjfgfaoaa.Pr
open Go.RowKit Go.Proofs.YtmhaiihjfgfaoaaW.PrintWords Go.Proofs.YtmhaiihjfgfaoaaW.PrintLast Go.Proofs.YtmhaiihjfgfaoaaW.PrintMore
attribute [local go_sem] fo fq gu gz fu
set_option linter.unusedVariables false
set_option linter.unusedSimpArgs false
attribute [local go_sem high] anL
def eX.f (k:Nat) (aC:Int) (aD:Int) (aG:Int) (aH:Int) (aN:Int) (aK:Int) (aJ:Int) (aX:List Bool) (aM:List (mQ)) (bz:Int) (bA:Int) (bI:Int) (bJ:Int) (dI:Int) (dJ:Int) (dK:Int) (eT:Int) (eH:Int) (dN:Int) (dQ:Int) (a3:Int) (a4:Int) (a5:Int):Option (Bool):=(fT.f aC aD aG aH aN aK aJ aX aM).bind fun YB=>(if YB = true then ((bE.f k).bind fun Mt=>(some Mt)) else ((sj.f aC aD aG aH aN aK aJ aX aM eT eH dN dQ a3 a4 a5).bind fun qD=>((df.f k aC aD aG aH aN aK aJ aX aM eT eH dN dQ a3 a4 a5).bind fun nY=>((jJ.f aC aD aG aH aN aK aJ aX aM).bind fun zg=>((aI.f k aC aD aG aH aN aK aJ aX aM).bind fun yK=>(if zg = yK then ((cZ.f k bz bA bI bJ dI dJ dK).bind fun wy=>((cz.f bz bA bI bJ dI dJ dK).bind fun vL=>(if wy = vL then (if ((qD.1 == nY.1 && (qD.2.1 == nY.2.1)) && ((qD.2.2.1 == nY.2.2.1 && (qD.2.2.2.1 == nY.2.2.2.1)))) = true then (if qD.2.2.2.2 = nY.2.2.2.2 then ((bE.f k).bind fun xq=>(some xq)) else (some false)) else (some false)) else (some false)))) else (some false)))))))
def eX.T5:Bool × List (List Nat × List Nat):=(true,[([],[]),([0],[0]),([],[]),([2,1],[2]),([1,3],[1,3]),([4,3],[4]),([5],[5]),([6,5,5],[5,6]),([5],[5]),([8,7,5],[5,8]),([7,9,5],[5,7,9]),([5,10],[5,10]),([11,9],[11]),([12],[12]),([12],[12]),([13,14,12],[12,13,14]),([12,15],[12,15]),([16,12],[16]),([17],[17]),([17],[17]),([18,19,17],[17,18,19]),([17,20],[17,20]),([21,17],[21]),([22,22],[22]),([22,23],[22,23]),([24,23,0,1,2,3,4,5,6,7,8,9,10,11,12,13,14,15,16,17,18,19,20,21,22,23,24],[24])])
def eX.B5:List Nat:=[0,1,0,7,15,31,63,127,63,511,1023,2047,4095,8191,8191,32767,65535,131071,262143,262143,1048575,2097151,4194303,8388607,16777215,33554431]
theorem eX.aBa:vC .any (opsOf Try.f4 5) = eX.T5:=by kernel_rfl
theorem eX.aog:wu eX.T5.2 eX.B5 = true:=by kernel_rfl
set_option maxHeartbeats 8000000 in
set_option maxRecDepth 100000 in
theorem eX.calls (k:Nat) (aC:Int) (aD:Int) (aG:Int) (aH:Int) (aN:Int) (aK:Int) (aJ:Int) (bG:Option Addr) (bH:Nat) (aX:List Bool) (bO:Option Addr) (bM:Nat) (aM:List (mQ)) (bz:Int) (bA:Int) (bI:Int) (bJ:Int) (dI:Int) (dJ:Int) (dK:Int) (eT:Int) (eH:Int) (dN:Int) (dQ:Int) (a3:Int) (a4:Int) (a5:Int) (r:Bool) (w:World) (lV:Kd.C Kd.bool w bG aX.length aX) (lW:aX.length≤bH) (lX:Kd.C xK w bO aM.length aM) (lY:aM.length≤bM) (h:eX.f k aC aD aG aH aN aK aJ aX aM bz bA bI bJ dI dJ dK eT eH dN dQ a3 a4 a5 = some r) (hr_:aj (r = true)):
 Calls Try.prog 4 #[.agg #[.int .i64 aC,.int .i64 aD,.int .i64 aG,.int .i64 aH,.int .i64 aN,.int .i64 aK,.int .i64 aJ,.slice bG aX.length bH,.slice bO aM.length bM],.agg #[.int .i64 bz,.int .i64 bA,.int .i64 bI,.int .i64 bJ,.int .i64 dI,.int .i64 dJ,.int .i64 dK],.agg #[.int .i64 eT,.int .i64 eH,.int .i64 dN,.int .i64 dQ],.int .i64 a3,.int .i64 a4,.int .i64 a5] w fun e w'=>e = .returned (.bool r)∧Below w.heap.size w w':=by
 have Dx:=Try.underlying25
 have KU:=Try.underlying29
 have vT:=Try.underlying31
 have Yt:=Try.underlying40
 have jR:=aj.mk lV
 have jS:=aj.mk lW
 clear lV lW
 have jm:=aj.mk lX
 have kg:=aj.mk lY
 clear lX lY
 have HB:=aj.mk (Below.refl w.heap.size w)
 have H:((fT.f aC aD aG aH aN aK aJ aX aM).bind fun YB=>(if YB = true then ((bE.f k).bind fun Mt=>(some Mt)) else ((sj.f aC aD aG aH aN aK aJ aX aM eT eH dN dQ a3 a4 a5).bind fun qD=>((df.f k aC aD aG aH aN aK aJ aX aM eT eH dN dQ a3 a4 a5).bind fun nY=>((jJ.f aC aD aG aH aN aK aJ aX aM).bind fun zg=>((aI.f k aC aD aG aH aN aK aJ aX aM).bind fun yK=>(if zg = yK then ((cZ.f k bz bA bI bJ dI dJ dK).bind fun wy=>((cz.f bz bA bI bJ dI dJ dK).bind fun vL=>(if wy = vL then (if ((qD.1 == nY.1 && (qD.2.1 == nY.2.1)) && ((qD.2.2.1 == nY.2.2.1 && (qD.2.2.2.1 == nY.2.2.2.1)))) = true then (if qD.2.2.2.2 = nY.2.2.2.2 then ((bE.f k).bind fun xq=>(some xq)) else (some false)) else (some false)) else (some false)))) else (some false)))))))) = some r:=h
 clear h
 replace H:=Option.bind_eq_some_iff.mp H
 obtain ⟨YB,A70,H⟩:=H
 replace H:(if YB = true then ((bE.f k).bind fun Mt=>(some Mt)) else ((sj.f aC aD aG aH aN aK aJ aX aM eT eH dN dQ a3 a4 a5).bind fun qD=>((df.f k aC aD aG aH aN aK aJ aX aM eT eH dN dQ a3 a4 a5).bind fun nY=>((jJ.f aC aD aG aH aN aK aJ aX aM).bind fun zg=>((aI.f k aC aD aG aH aN aK aJ aX aM).bind fun yK=>(if zg = yK then ((cZ.f k bz bA bI bJ dI dJ dK).bind fun wy=>((cz.f bz bA bI bJ dI dJ dK).bind fun vL=>(if wy = vL then (if ((qD.1 == nY.1 && (qD.2.1 == nY.2.1)) && ((qD.2.2.1 == nY.2.2.1 && (qD.2.2.2.1 == nY.2.2.2.1)))) = true then (if qD.2.2.2.2 = nY.2.2.2.2 then ((bE.f k).bind fun xq=>(some xq)) else (some false)) else (some false)) else (some false)))) else (some false))))))) = some r:=H
 have A7:=aj.mk A70
 clear A70
 by_cases c8:YB = true
 ·subst c8
  have H1:((bE.f k).bind fun Mt=>(some Mt)) = some r:=by rw [if_pos rfl] at H;exact H
  clear H
  have H:=H1
  clear H1
  replace H:=Option.bind_eq_some_iff.mp H
  obtain ⟨Mt,A90,H⟩:=H
  replace H:(some Mt) = some r:=H
  have A9:=aj.mk A90
  clear A90
  obtain rfl:=Option.some.inj H
  go_enter Try.func4,Try.ntmps4
  go_wp2_with (first|((with_reducible refine bu (N:=6) rfl ?_);refine aY ?hg (N:=6) ?hd (cs:=#[.int .i64 aC,.int .i64 aD,.int .i64 aG,.int .i64 aH,.int .i64 aN,.int .i64 aK,.int .i64 aJ,.slice bG aX.length bH,.slice bO aM.length bM]) (t:=25) ?hr ?_;(case hd=>rfl);(case hg=>rfl);(case hr=>first|(go_simp;done)|(go_simp;rfl));intro fO hg Mi hbox hb;have bB:=aj.mk (ay (by repeat (first|(with_reducible first|exact HB.out|apply au|apply ah|apply av)|exact HB.out)) hb);have bC:=aj.mk (hbox);have bK:=aj.mk ((by rw [hg];exact (aA (by repeat (first|(with_reducible first|exact HB.out|apply au|apply ah|apply av)|exact HB.out))):w.heap.size≤fO));have bP:=aj.mk ((by rw [hg];exact (aA (by repeat (first|(with_reducible first|exact HB.out|apply au|apply ah|apply av)|exact HB.out))):w.heap.size≤fO));clear HB;have HB:=bB;have bW:=bC;have aoi:=bK;have mF:=bP;clear bB bC bK bP;clear hb hbox hg)|((with_reducible refine bu (N:=7) rfl ?_);refine aY ?hg (N:=7) ?hd (cs:=#[.int .i64 bz,.int .i64 bA,.int .i64 bI,.int .i64 bJ,.int .i64 dI,.int .i64 dJ,.int .i64 dK]) (t:=29) ?hr ?_;(case hd=>rfl);(case hg=>rfl);(case hr=>first|(go_simp;done)|(go_simp;rfl));intro jC hg Md hbox hb;have bB:=aj.mk (ax (g:=fO) (o:=.cells #[.int .i64 aC,.int .i64 aD,.int .i64 aG,.int .i64 aH,.int .i64 aN,.int .i64 aK,.int .i64 aJ,.slice bG aX.length bH,.slice bO aM.length bM] 25 (0,0)) (by (with_reducible repeat (first|refine ag ?_ _|refine ai ?_|refine af ?_ _));exact bW.out) hb);have bC:=aj.mk (ay (by repeat (first|(with_reducible first|exact HB.out|apply au|apply ah|apply av|refine ak ?_ mF.out)|exact HB.out)) hb);have bK:=aj.mk (hbox);have bP:=aj.mk ((by rw [hg];exact (aA (by repeat (first|(with_reducible first|exact HB.out|apply au|apply ah|apply av|refine ak ?_ mF.out)|exact HB.out))):w.heap.size≤jC));have dX:=aj.mk ((by rw [hg];exact (aA (by repeat (first|(with_reducible first|exact HB.out|apply au|apply ah|apply av|refine ak ?_ mF.out)|exact HB.out))):w.heap.size≤jC));have fB:=aj.mk ((by rw [hg];exact Nat.ne_of_lt (aU (g:=fO) (o:=.cells #[.int .i64 aC,.int .i64 aD,.int .i64 aG,.int .i64 aH,.int .i64 aN,.int .i64 aK,.int .i64 aJ,.slice bG aX.length bH,.slice bO aM.length bM] 25 (0,0)) (by (with_reducible repeat (first|refine ag ?_ _|refine ai ?_|refine af ?_ _));exact bW.out)):fO≠jC));have gD:=aj.mk ((by rw [hg];exact Nat.ne_of_gt (aU (g:=fO) (o:=.cells #[.int .i64 aC,.int .i64 aD,.int .i64 aG,.int .i64 aH,.int .i64 aN,.int .i64 aK,.int .i64 aJ,.slice bG aX.length bH,.slice bO aM.length bM] 25 (0,0)) (by (with_reducible repeat (first|refine ag ?_ _|refine ai ?_|refine af ?_ _));exact bW.out)):jC≠fO));clear bW;clear HB;have bW:=bB;have HB:=bC;have fC:=bK;have aoj:=bP;have oM:=dX;have Ii:=fB;have Ij:=gD;clear bB bC bK bP dX fB gD;clear hb hbox hg)|((with_reducible refine bu (N:=8) rfl ?_);refine aY ?hg (N:=8) ?hd (cs:=#[.int .i64 eT,.int .i64 eH,.int .i64 dN,.int .i64 dQ]) (t:=31) ?hr ?_;(case hd=>rfl);(case hg=>rfl);(case hr=>first|(go_simp;done)|(go_simp;rfl));intro ko hg qB hbox hb;have bB:=aj.mk (ax (g:=fO) (o:=.cells #[.int .i64 aC,.int .i64 aD,.int .i64 aG,.int .i64 aH,.int .i64 aN,.int .i64 aK,.int .i64 aJ,.slice bG aX.length bH,.slice bO aM.length bM] 25 (0,0)) (by (with_reducible repeat (first|refine ag ?_ _|refine ai ?_|refine af ?_ _));exact bW.out) hb);have bC:=aj.mk (ax (g:=jC) (o:=.cells #[.int .i64 bz,.int .i64 bA,.int .i64 bI,.int .i64 bJ,.int .i64 dI,.int .i64 dJ,.int .i64 dK] 29 (0,0)) (by (with_reducible repeat (first|refine ag ?_ _|refine ai ?_|refine af ?_ _));exact fC.out) hb);have bK:=aj.mk (ay (by repeat (first|(with_reducible first|exact HB.out|apply au|apply ah|apply av|refine ak ?_ mF.out|refine ak ?_ oM.out)|exact HB.out)) hb);have bP:=aj.mk (hbox);have dX:=aj.mk ((by rw [hg];exact (aA (by repeat (first|(with_reducible first|exact HB.out|apply au|apply ah|apply av|refine ak ?_ mF.out|refine ak ?_ oM.out)|exact HB.out))):w.heap.size≤ko));have fB:=aj.mk ((by rw [hg];exact (aA (by repeat (first|(with_reducible first|exact HB.out|apply au|apply ah|apply av|refine ak ?_ mF.out|refine ak ?_ oM.out)|exact HB.out))):w.heap.size≤ko));have gD:=aj.mk ((by rw [hg];exact Nat.ne_of_lt (aU (g:=fO) (o:=.cells #[.int .i64 aC,.int .i64 aD,.int .i64 aG,.int .i64 aH,.int .i64 aN,.int .i64 aK,.int .i64 aJ,.slice bG aX.length bH,.slice bO aM.length bM] 25 (0,0)) (by (with_reducible repeat (first|refine ag ?_ _|refine ai ?_|refine af ?_ _));exact bW.out)):fO≠ko));have jK:=aj.mk ((by rw [hg];exact Nat.ne_of_gt (aU (g:=fO) (o:=.cells #[.int .i64 aC,.int .i64 aD,.int .i64 aG,.int .i64 aH,.int .i64 aN,.int .i64 aK,.int .i64 aJ,.slice bG aX.length bH,.slice bO aM.length bM] 25 (0,0)) (by (with_reducible repeat (first|refine ag ?_ _|refine ai ?_|refine af ?_ _));exact bW.out)):ko≠fO));have jL:=aj.mk ((by rw [hg];exact Nat.ne_of_lt (aU (g:=jC) (o:=.cells #[.int .i64 bz,.int .i64 bA,.int .i64 bI,.int .i64 bJ,.int .i64 dI,.int .i64 dJ,.int .i64 dK] 29 (0,0)) (by (with_reducible repeat (first|refine ag ?_ _|refine ai ?_|refine af ?_ _));exact fC.out)):jC≠ko));have kL:=aj.mk ((by rw [hg];exact Nat.ne_of_gt (aU (g:=jC) (o:=.cells #[.int .i64 bz,.int .i64 bA,.int .i64 bI,.int .i64 bJ,.int .i64 dI,.int .i64 dJ,.int .i64 dK] 29 (0,0)) (by (with_reducible repeat (first|refine ag ?_ _|refine ai ?_|refine af ?_ _));exact fC.out)):ko≠jC));clear bW;clear fC;clear HB;have bW:=bB;have fC:=bC;have HB:=bK;have iC:=bP;have aok:=dX;have rA:=fB;have Ik:=gD;have Il:=jK;have M7:=jL;have M8:=kL;clear bB bC bK bP dX fB gD jK jL kL;clear hb hbox hg;have QG:=Ii.out;have QH:=Ij.out;have ZF:=Ik.out;have ZG:=Il.out;have qj:qB.cell? ⟨fO,0,none⟩ = some (.int .i64 aC):=(aa bW.out 0).trans rfl;have ql:qB.cell? ⟨fO,1,none⟩ = some (.int .i64 aD):=(aa bW.out 1).trans rfl;have rG:qB.cell? ⟨fO,2,none⟩ = some (.int .i64 aG):=(aa bW.out 2).trans rfl;have rH:qB.cell? ⟨fO,3,none⟩ = some (.int .i64 aH):=(aa bW.out 3).trans rfl;have uR:qB.cell? ⟨fO,4,none⟩ = some (.int .i64 aN):=(aa bW.out 4).trans rfl;have uS:qB.cell? ⟨fO,5,none⟩ = some (.int .i64 aK):=(aa bW.out 5).trans rfl;have uT:qB.cell? ⟨fO,6,none⟩ = some (.int .i64 aJ):=(aa bW.out 6).trans rfl;have vZ:qB.cell? ⟨fO,7,none⟩ = some (.slice bG aX.length bH):=(aa bW.out 7).trans rfl;have wh:qB.cell? ⟨fO,8,none⟩ = some (.slice bO aM.length bM):=(aa bW.out 8).trans rfl;have qm:=ae bW.out 0;have qo:=ae bW.out 1;have rJ:=ae bW.out 2;have rM:=ae bW.out 3;have uU:=ae bW.out 4;have uV:=ae bW.out 5;have uW:=ae bW.out 6;have wm:=ae bW.out 7;have wo:=ae bW.out 8)|((with_reducible refine bT (f:=22) rfl ?_);refine fM (some 18) rfl rfl Try.func22 (by kernel_rfl) rfl #[.agg #[.int .i64 aC,.int .i64 aD,.int .i64 aG,.int .i64 aH,.int .i64 aN,.int .i64 aK,.int .i64 aJ,.slice bG aX.length bH,.slice bO aM.length bM]] rfl (by (try simp only [List.map_toArray,List.map_cons,List.map_nil]);first|done|rfl|(simp only [List.length_drop,List.length_take];rfl)) ?_;(with_reducible refine (fT.calls aC aD aG aH aN aK aJ _ _ aX _ _ aM true _ ?gm ?gp ?gQ ?gT A7.out).mono ?_);(case gm=>repeat (first|exact (Kd.dF jR.out HB.out)|(with_reducible refine Kd.dO ?_ _)|(with_reducible refine Kd.dP ?_ _)|(with_reducible refine Kd.eO ?_)));(case gp=>exact jS.out);(case gQ=>repeat (first|exact (Kd.dF jm.out HB.out)|(with_reducible refine Kd.dO ?_ _)|(with_reducible refine Kd.dP ?_ _)|(with_reducible refine Kd.eO ?_)));(case gT=>exact kg.out);rintro e w16 ⟨rfl,hb⟩;refine ⟨_,rfl,?_⟩;have bB:=aj.mk (ax (g:=fO) (o:=.cells #[.int .i64 aC,.int .i64 aD,.int .i64 aG,.int .i64 aH,.int .i64 aN,.int .i64 aK,.int .i64 aJ,.slice bG aX.length bH,.slice bO aM.length bM] 25 (0,0)) (by (with_reducible repeat (first|refine ag ?_ _|refine ai ?_|refine af ?_ _));exact bW.out) hb);have bC:=aj.mk (ax (g:=jC) (o:=.cells #[.int .i64 bz,.int .i64 bA,.int .i64 bI,.int .i64 bJ,.int .i64 dI,.int .i64 dJ,.int .i64 dK] 29 (0,0)) (by (with_reducible repeat (first|refine ag ?_ _|refine ai ?_|refine af ?_ _));exact fC.out) hb);have bK:=aj.mk (ax (g:=ko) (o:=.cells #[.int .i64 eT,.int .i64 eH,.int .i64 dN,.int .i64 dQ] 31 (0,0)) (by (with_reducible repeat (first|refine ag ?_ _|refine ai ?_|refine af ?_ _));exact iC.out) hb);have bP:=aj.mk (ay (by repeat (first|(with_reducible first|exact HB.out|apply au|apply ah|apply av|refine ak ?_ mF.out|refine ak ?_ oM.out|refine ak ?_ rA.out)|exact HB.out)) hb);clear bW;clear fC;clear iC;clear HB;have bW:=bB;have fC:=bC;have iC:=bK;have HB:=bP;clear bB bC bK bP;(try clear hb);(try clear hb2);(try clear hk);(try clear hi))|((with_reducible refine bT (f:=19) rfl ?_);refine fM (some 19) rfl rfl Try.func19 (by kernel_rfl) rfl #[] rfl (by (try simp only [List.map_toArray,List.map_cons,List.map_nil]);first|done|rfl|(simp only [List.length_drop,List.length_take];rfl)) ?_;(with_reducible refine (bE.calls k Mt _ A9.out).mono ?_);rintro e zK ⟨rfl,hb⟩;refine ⟨_,rfl,?_⟩;have bB:=aj.mk (ax (g:=fO) (o:=.cells #[.int .i64 aC,.int .i64 aD,.int .i64 aG,.int .i64 aH,.int .i64 aN,.int .i64 aK,.int .i64 aJ,.slice bG aX.length bH,.slice bO aM.length bM] 25 (0,0)) (by (with_reducible repeat (first|refine ag ?_ _|refine ai ?_|refine af ?_ _));exact bW.out) hb);have bC:=aj.mk (ax (g:=jC) (o:=.cells #[.int .i64 bz,.int .i64 bA,.int .i64 bI,.int .i64 bJ,.int .i64 dI,.int .i64 dJ,.int .i64 dK] 29 (0,0)) (by (with_reducible repeat (first|refine ag ?_ _|refine ai ?_|refine af ?_ _));exact fC.out) hb);have bK:=aj.mk (ax (g:=ko) (o:=.cells #[.int .i64 eT,.int .i64 eH,.int .i64 dN,.int .i64 dQ] 31 (0,0)) (by (with_reducible repeat (first|refine ag ?_ _|refine ai ?_|refine af ?_ _));exact iC.out) hb);have bP:=aj.mk (ay (by repeat (first|(with_reducible first|exact HB.out|apply au|apply ah|apply av|refine ak ?_ mF.out|refine ak ?_ oM.out|refine ak ?_ rA.out)|exact HB.out)) hb);clear bW;clear fC;clear iC;clear HB;have bW:=bB;have fC:=bC;have iC:=bK;have HB:=bP;clear bB bC bK bP;(try clear hb);(try clear hb2);(try clear hk);(try clear hi)))
  go_ret
  exact ⟨by first|rfl|(simp [aQ,aT] <;> rfl)|(simp [*,aQ,aT] <;> rfl),by repeat (first|(with_reducible first|exact HB.out|apply au|apply ah|apply av|refine ak ?_ mF.out|refine ak ?_ oM.out|refine ak ?_ rA.out)|exact HB.out)⟩
 ·replace c8:=Bool.eq_false_iff.mpr c8
  subst c8
  have H1:((sj.f aC aD aG aH aN aK aJ aX aM eT eH dN dQ a3 a4 a5).bind fun qD=>((df.f k aC aD aG aH aN aK aJ aX aM eT eH dN dQ a3 a4 a5).bind fun nY=>((jJ.f aC aD aG aH aN aK aJ aX aM).bind fun zg=>((aI.f k aC aD aG aH aN aK aJ aX aM).bind fun yK=>(if zg = yK then ((cZ.f k bz bA bI bJ dI dJ dK).bind fun wy=>((cz.f bz bA bI bJ dI dJ dK).bind fun vL=>(if wy = vL then (if ((qD.1 == nY.1 && (qD.2.1 == nY.2.1)) && ((qD.2.2.1 == nY.2.2.1 && (qD.2.2.2.1 == nY.2.2.2.1)))) = true then (if qD.2.2.2.2 = nY.2.2.2.2 then ((bE.f k).bind fun xq=>(some xq)) else (some false)) else (some false)) else (some false)))) else (some false)))))) = some r:=by rw [if_neg (show ¬ (false = true) by decide)] at H;exact H
  clear H
  have H:=H1
  clear H1
  replace H:=Option.bind_eq_some_iff.mp H
  obtain ⟨⟨wz,wY,xu,yL,Jm⟩,ZO,H⟩:=H
  replace H:((df.f k aC aD aG aH aN aK aJ aX aM eT eH dN dQ a3 a4 a5).bind fun nY=>((jJ.f aC aD aG aH aN aK aJ aX aM).bind fun zg=>((aI.f k aC aD aG aH aN aK aJ aX aM).bind fun yK=>(if zg = yK then ((cZ.f k bz bA bI bJ dI dJ dK).bind fun wy=>((cz.f bz bA bI bJ dI dJ dK).bind fun vL=>(if wy = vL then (if ((wz == nY.1 && (wY == nY.2.1)) && ((xu == nY.2.2.1 && (yL == nY.2.2.2.1)))) = true then (if Jm = nY.2.2.2.2 then ((bE.f k).bind fun xq=>(some xq)) else (some false)) else (some false)) else (some false)))) else (some false))))) = some r:=H
  have A18:=aj.mk ZO
  clear ZO
  replace H:=Option.bind_eq_some_iff.mp H
  obtain ⟨⟨vD,vM,wB,wZ,Lf⟩,aom,H⟩:=H
  replace H:((jJ.f aC aD aG aH aN aK aJ aX aM).bind fun zg=>((aI.f k aC aD aG aH aN aK aJ aX aM).bind fun yK=>(if zg = yK then ((cZ.f k bz bA bI bJ dI dJ dK).bind fun wy=>((cz.f bz bA bI bJ dI dJ dK).bind fun vL=>(if wy = vL then (if ((wz == vD && (wY == vM)) && ((xu == wB && (yL == wZ)))) = true then (if Jm = Lf then ((bE.f k).bind fun xq=>(some xq)) else (some false)) else (some false)) else (some false)))) else (some false)))) = some r:=H
  have A19:=aj.mk aom
  clear aom
  replace H:=Option.bind_eq_some_iff.mp H
  obtain ⟨zg,aon,H⟩:=H
  replace H:((aI.f k aC aD aG aH aN aK aJ aX aM).bind fun yK=>(if zg = yK then ((cZ.f k bz bA bI bJ dI dJ dK).bind fun wy=>((cz.f bz bA bI bJ dI dJ dK).bind fun vL=>(if wy = vL then (if ((wz == vD && (wY == vM)) && ((xu == wB && (yL == wZ)))) = true then (if Jm = Lf then ((bE.f k).bind fun xq=>(some xq)) else (some false)) else (some false)) else (some false)))) else (some false))) = some r:=H
  have RY:=aj.mk aon
  clear aon
  replace H:=Option.bind_eq_some_iff.mp H
  obtain ⟨yK,aoo,H⟩:=H
  replace H:(if zg = yK then ((cZ.f k bz bA bI bJ dI dJ dK).bind fun wy=>((cz.f bz bA bI bJ dI dJ dK).bind fun vL=>(if wy = vL then (if ((wz == vD && (wY == vM)) && ((xu == wB && (yL == wZ)))) = true then (if Jm = Lf then ((bE.f k).bind fun xq=>(some xq)) else (some false)) else (some false)) else (some false)))) else (some false)) = some r:=H
  have A21:=aj.mk aoo
  clear aoo
  by_cases Mk:zg = yK
  ·rw [if_pos Mk] at H
   have M9:(zg == yK) = true:=beq_iff_eq.mpr Mk
   have aop:(zg != yK) = false:=bne_eq_false_iff_eq.mpr Mk
   clear Mk
   replace H:=Option.bind_eq_some_iff.mp H
   obtain ⟨wy,aoq,H⟩:=H
   replace H:((cz.f bz bA bI bJ dI dJ dK).bind fun vL=>(if wy = vL then (if ((wz == vD && (wY == vM)) && ((xu == wB && (yL == wZ)))) = true then (if Jm = Lf then ((bE.f k).bind fun xq=>(some xq)) else (some false)) else (some false)) else (some false))) = some r:=H
   have A23:=aj.mk aoq
   clear aoq
   replace H:=Option.bind_eq_some_iff.mp H
   obtain ⟨vL,aor,H⟩:=H
   replace H:(if wy = vL then (if ((wz == vD && (wY == vM)) && ((xu == wB && (yL == wZ)))) = true then (if Jm = Lf then ((bE.f k).bind fun xq=>(some xq)) else (some false)) else (some false)) else (some false)) = some r:=H
   have A24:=aj.mk aor
   clear aor
   by_cases IZ:wy = vL
   ·rw [if_pos IZ] at H
    have ZP:(wy == vL) = true:=beq_iff_eq.mpr IZ
    have aos:(wy != vL) = false:=bne_eq_false_iff_eq.mpr IZ
    clear IZ
    by_cases Jj:((wz == vD && (wY == vM)) && ((xu == wB && (yL == wZ)))) = true
    ·rw [if_pos Jj] at H
     have I1:((wz == vD && (wY == vM)) && ((xu == wB && (yL == wZ)))) = true:=Jj
     clear Jj
     by_cases c27:Jm = Lf
     ·rw [if_pos c27] at H
      have aot:(Jm == Lf) = true:=beq_iff_eq.mpr c27
      have aou:(Jm != Lf) = false:=bne_eq_false_iff_eq.mpr c27
      clear c27
      replace H:=Option.bind_eq_some_iff.mp H
      obtain ⟨xq,ZJ,H⟩:=H
      replace H:(some xq) = some r:=H
      have A28:=aj.mk ZJ
      clear ZJ
      obtain rfl:=Option.some.inj H
      go_enter Try.func4,Try.ntmps4
      try go_wp2_with (first|((with_reducible refine bu (N:=6) rfl ?_);refine aY ?hg (N:=6) ?hd (cs:=#[.int .i64 aC,.int .i64 aD,.int .i64 aG,.int .i64 aH,.int .i64 aN,.int .i64 aK,.int .i64 aJ,.slice bG aX.length bH,.slice bO aM.length bM]) (t:=25) ?hr ?_;(case hd=>rfl);(case hg=>rfl);(case hr=>first|(go_simp;done)|(go_simp;rfl));intro fO hg Eu hbox hb;have bB:=aj.mk (ay (by repeat (first|(with_reducible first|exact HB.out|apply au|apply ah|apply av)|exact HB.out)) hb);have bC:=aj.mk (hbox);have bK:=aj.mk ((by rw [hg];exact (aA (by repeat (first|(with_reducible first|exact HB.out|apply au|apply ah|apply av)|exact HB.out))):w.heap.size≤fO));have bP:=aj.mk ((by rw [hg];exact (aA (by repeat (first|(with_reducible first|exact HB.out|apply au|apply ah|apply av)|exact HB.out))):w.heap.size≤fO));clear HB;have HB:=bB;have bW:=bC;have aoi:=bK;have mF:=bP;clear bB bC bK bP;clear hb hbox hg)|((with_reducible refine bu (N:=7) rfl ?_);refine aY ?hg (N:=7) ?hd (cs:=#[.int .i64 bz,.int .i64 bA,.int .i64 bI,.int .i64 bJ,.int .i64 dI,.int .i64 dJ,.int .i64 dK]) (t:=29) ?hr ?_;(case hd=>rfl);(case hg=>rfl);(case hr=>first|(go_simp;done)|(go_simp;rfl));intro jC hg w30 hbox hb;have bB:=aj.mk (ax (g:=fO) (o:=.cells #[.int .i64 aC,.int .i64 aD,.int .i64 aG,.int .i64 aH,.int .i64 aN,.int .i64 aK,.int .i64 aJ,.slice bG aX.length bH,.slice bO aM.length bM] 25 (0,0)) (by (with_reducible repeat (first|refine ag ?_ _|refine ai ?_|refine af ?_ _));exact bW.out) hb);have bC:=aj.mk (ay (by repeat (first|(with_reducible first|exact HB.out|apply au|apply ah|apply av|refine ak ?_ mF.out)|exact HB.out)) hb);have bK:=aj.mk (hbox);have bP:=aj.mk ((by rw [hg];exact (aA (by repeat (first|(with_reducible first|exact HB.out|apply au|apply ah|apply av|refine ak ?_ mF.out)|exact HB.out))):w.heap.size≤jC));have dX:=aj.mk ((by rw [hg];exact (aA (by repeat (first|(with_reducible first|exact HB.out|apply au|apply ah|apply av|refine ak ?_ mF.out)|exact HB.out))):w.heap.size≤jC));have fB:=aj.mk ((by rw [hg];exact Nat.ne_of_lt (aU (g:=fO) (o:=.cells #[.int .i64 aC,.int .i64 aD,.int .i64 aG,.int .i64 aH,.int .i64 aN,.int .i64 aK,.int .i64 aJ,.slice bG aX.length bH,.slice bO aM.length bM] 25 (0,0)) (by (with_reducible repeat (first|refine ag ?_ _|refine ai ?_|refine af ?_ _));exact bW.out)):fO≠jC));have gD:=aj.mk ((by rw [hg];exact Nat.ne_of_gt (aU (g:=fO) (o:=.cells #[.int .i64 aC,.int .i64 aD,.int .i64 aG,.int .i64 aH,.int .i64 aN,.int .i64 aK,.int .i64 aJ,.slice bG aX.length bH,.slice bO aM.length bM] 25 (0,0)) (by (with_reducible repeat (first|refine ag ?_ _|refine ai ?_|refine af ?_ _));exact bW.out)):jC≠fO));clear bW;clear HB;have bW:=bB;have HB:=bC;have fC:=bK;have aoj:=bP;have oM:=dX;have Ii:=fB;have Ij:=gD;clear bB bC bK bP dX fB gD;clear hb hbox hg)|((with_reducible refine bu (N:=8) rfl ?_);refine aY ?hg (N:=8) ?hd (cs:=#[.int .i64 eT,.int .i64 eH,.int .i64 dN,.int .i64 dQ]) (t:=31) ?hr ?_;(case hd=>rfl);(case hg=>rfl);(case hr=>first|(go_simp;done)|(go_simp;rfl));intro ko hg RZ hbox hb;have bB:=aj.mk (ax (g:=fO) (o:=.cells #[.int .i64 aC,.int .i64 aD,.int .i64 aG,.int .i64 aH,.int .i64 aN,.int .i64 aK,.int .i64 aJ,.slice bG aX.length bH,.slice bO aM.length bM] 25 (0,0)) (by (with_reducible repeat (first|refine ag ?_ _|refine ai ?_|refine af ?_ _));exact bW.out) hb);have bC:=aj.mk (ax (g:=jC) (o:=.cells #[.int .i64 bz,.int .i64 bA,.int .i64 bI,.int .i64 bJ,.int .i64 dI,.int .i64 dJ,.int .i64 dK] 29 (0,0)) (by (with_reducible repeat (first|refine ag ?_ _|refine ai ?_|refine af ?_ _));exact fC.out) hb);have bK:=aj.mk (ay (by repeat (first|(with_reducible first|exact HB.out|apply au|apply ah|apply av|refine ak ?_ mF.out|refine ak ?_ oM.out)|exact HB.out)) hb);have bP:=aj.mk (hbox);have dX:=aj.mk ((by rw [hg];exact (aA (by repeat (first|(with_reducible first|exact HB.out|apply au|apply ah|apply av|refine ak ?_ mF.out|refine ak ?_ oM.out)|exact HB.out))):w.heap.size≤ko));have fB:=aj.mk ((by rw [hg];exact (aA (by repeat (first|(with_reducible first|exact HB.out|apply au|apply ah|apply av|refine ak ?_ mF.out|refine ak ?_ oM.out)|exact HB.out))):w.heap.size≤ko));have gD:=aj.mk ((by rw [hg];exact Nat.ne_of_lt (aU (g:=fO) (o:=.cells #[.int .i64 aC,.int .i64 aD,.int .i64 aG,.int .i64 aH,.int .i64 aN,.int .i64 aK,.int .i64 aJ,.slice bG aX.length bH,.slice bO aM.length bM] 25 (0,0)) (by (with_reducible repeat (first|refine ag ?_ _|refine ai ?_|refine af ?_ _));exact bW.out)):fO≠ko));have jK:=aj.mk ((by rw [hg];exact Nat.ne_of_gt (aU (g:=fO) (o:=.cells #[.int .i64 aC,.int .i64 aD,.int .i64 aG,.int .i64 aH,.int .i64 aN,.int .i64 aK,.int .i64 aJ,.slice bG aX.length bH,.slice bO aM.length bM] 25 (0,0)) (by (with_reducible repeat (first|refine ag ?_ _|refine ai ?_|refine af ?_ _));exact bW.out)):ko≠fO));have jL:=aj.mk ((by rw [hg];exact Nat.ne_of_lt (aU (g:=jC) (o:=.cells #[.int .i64 bz,.int .i64 bA,.int .i64 bI,.int .i64 bJ,.int .i64 dI,.int .i64 dJ,.int .i64 dK] 29 (0,0)) (by (with_reducible repeat (first|refine ag ?_ _|refine ai ?_|refine af ?_ _));exact fC.out)):jC≠ko));have kL:=aj.mk ((by rw [hg];exact Nat.ne_of_gt (aU (g:=jC) (o:=.cells #[.int .i64 bz,.int .i64 bA,.int .i64 bI,.int .i64 bJ,.int .i64 dI,.int .i64 dJ,.int .i64 dK] 29 (0,0)) (by (with_reducible repeat (first|refine ag ?_ _|refine ai ?_|refine af ?_ _));exact fC.out)):ko≠jC));clear bW;clear fC;clear HB;have bW:=bB;have fC:=bC;have HB:=bK;have iC:=bP;have aok:=dX;have rA:=fB;have Ik:=gD;have Il:=jK;have M7:=jL;have M8:=kL;clear bB bC bK bP dX fB gD jK jL kL;clear hb hbox hg;have an5:=Ii.out;have an6:=Ij.out;have an7:=Ik.out;have an8:=Il.out;have Fb:RZ.cell? ⟨fO,0,none⟩ = some (.int .i64 aC):=(aa bW.out 0).trans rfl;have Fe:RZ.cell? ⟨fO,1,none⟩ = some (.int .i64 aD):=(aa bW.out 1).trans rfl;have Ff:RZ.cell? ⟨fO,2,none⟩ = some (.int .i64 aG):=(aa bW.out 2).trans rfl;have Fg:RZ.cell? ⟨fO,3,none⟩ = some (.int .i64 aH):=(aa bW.out 3).trans rfl;have Pj:RZ.cell? ⟨fO,4,none⟩ = some (.int .i64 aN):=(aa bW.out 4).trans rfl;have Pk:RZ.cell? ⟨fO,5,none⟩ = some (.int .i64 aK):=(aa bW.out 5).trans rfl;have Pm:RZ.cell? ⟨fO,6,none⟩ = some (.int .i64 aJ):=(aa bW.out 6).trans rfl;have Pn:RZ.cell? ⟨fO,7,none⟩ = some (.slice bG aX.length bH):=(aa bW.out 7).trans rfl;have Po:RZ.cell? ⟨fO,8,none⟩ = some (.slice bO aM.length bM):=(aa bW.out 8).trans rfl;have Fh:=ae bW.out 0;have Fj:=ae bW.out 1;have Fp:=ae bW.out 2;have Fq:=ae bW.out 3;have Pp:=ae bW.out 4;have Pq:=ae bW.out 5;have Ps:=ae bW.out 6;have Pt:=ae bW.out 7;have Pv:=ae bW.out 8)|((with_reducible refine bT (f:=22) rfl ?_);refine fM (some 18) rfl rfl Try.func22 (by kernel_rfl) rfl #[.agg #[.int .i64 aC,.int .i64 aD,.int .i64 aG,.int .i64 aH,.int .i64 aN,.int .i64 aK,.int .i64 aJ,.slice bG aX.length bH,.slice bO aM.length bM]] rfl (by (try simp only [List.map_toArray,List.map_cons,List.map_nil]);first|done|rfl|(simp only [List.length_drop,List.length_take];rfl)) ?_;(with_reducible refine (fT.calls aC aD aG aH aN aK aJ _ _ aX _ _ aM false _ ?gm ?gp ?gQ ?gT A7.out).mono ?_);(case gm=>repeat (first|exact (Kd.dF jR.out HB.out)|(with_reducible refine Kd.dO ?_ _)|(with_reducible refine Kd.dP ?_ _)|(with_reducible refine Kd.eO ?_)));(case gp=>exact jS.out);(case gQ=>repeat (first|exact (Kd.dF jm.out HB.out)|(with_reducible refine Kd.dO ?_ _)|(with_reducible refine Kd.dP ?_ _)|(with_reducible refine Kd.eO ?_)));(case gT=>exact kg.out);rintro e Pw ⟨rfl,hb⟩;refine ⟨_,rfl,?_⟩;have bB:=aj.mk (ax (g:=fO) (o:=.cells #[.int .i64 aC,.int .i64 aD,.int .i64 aG,.int .i64 aH,.int .i64 aN,.int .i64 aK,.int .i64 aJ,.slice bG aX.length bH,.slice bO aM.length bM] 25 (0,0)) (by (with_reducible repeat (first|refine ag ?_ _|refine ai ?_|refine af ?_ _));exact bW.out) hb);have bC:=aj.mk (ax (g:=jC) (o:=.cells #[.int .i64 bz,.int .i64 bA,.int .i64 bI,.int .i64 bJ,.int .i64 dI,.int .i64 dJ,.int .i64 dK] 29 (0,0)) (by (with_reducible repeat (first|refine ag ?_ _|refine ai ?_|refine af ?_ _));exact fC.out) hb);have bK:=aj.mk (ax (g:=ko) (o:=.cells #[.int .i64 eT,.int .i64 eH,.int .i64 dN,.int .i64 dQ] 31 (0,0)) (by (with_reducible repeat (first|refine ag ?_ _|refine ai ?_|refine af ?_ _));exact iC.out) hb);have bP:=aj.mk (ay (by repeat (first|(with_reducible first|exact HB.out|apply au|apply ah|apply av|refine ak ?_ mF.out|refine ak ?_ oM.out|refine ak ?_ rA.out)|exact HB.out)) hb);clear bW;clear fC;clear iC;clear HB;have bW:=bB;have fC:=bC;have iC:=bK;have HB:=bP;clear bB bC bK bP;(try clear hb);(try clear hb2);(try clear hk);(try clear hi);have WI:Pw.cell? ⟨fO,0,none⟩ = some (.int .i64 aC):=(aa bW.out 0).trans rfl;have WJ:Pw.cell? ⟨fO,1,none⟩ = some (.int .i64 aD):=(aa bW.out 1).trans rfl;have WK:Pw.cell? ⟨fO,2,none⟩ = some (.int .i64 aG):=(aa bW.out 2).trans rfl;have WL:Pw.cell? ⟨fO,3,none⟩ = some (.int .i64 aH):=(aa bW.out 3).trans rfl;have aea:Pw.cell? ⟨fO,4,none⟩ = some (.int .i64 aN):=(aa bW.out 4).trans rfl;have aeb:Pw.cell? ⟨fO,5,none⟩ = some (.int .i64 aK):=(aa bW.out 5).trans rfl;have aec:Pw.cell? ⟨fO,6,none⟩ = some (.int .i64 aJ):=(aa bW.out 6).trans rfl;have auJ:Pw.cell? ⟨fO,7,none⟩ = some (.slice bG aX.length bH):=(aa bW.out 7).trans rfl;have auK:Pw.cell? ⟨fO,8,none⟩ = some (.slice bO aM.length bM):=(aa bW.out 8).trans rfl;have WM:=ae bW.out 0;have WN:=ae bW.out 1;have WO:=ae bW.out 2;have WQ:=ae bW.out 3;have aed:=ae bW.out 4;have aee:=ae bW.out 5;have aef:=ae bW.out 6;have auL:=ae bW.out 7;have auM:=ae bW.out 8;have afS:=M8.out;have afT:=M7.out;have aeg:Pw.cell? ⟨ko,0,none⟩ = some (.int .i64 eT):=(aa iC.out 0).trans rfl;have aeh:Pw.cell? ⟨ko,1,none⟩ = some (.int .i64 eH):=(aa iC.out 1).trans rfl;have aei:Pw.cell? ⟨ko,2,none⟩ = some (.int .i64 dN):=(aa iC.out 2).trans rfl;have aej:Pw.cell? ⟨ko,3,none⟩ = some (.int .i64 dQ):=(aa iC.out 3).trans rfl;have aek:=ae iC.out 0;have ael:=ae iC.out 1;have aem:=ae iC.out 2;have aen:=ae iC.out 3)|((with_reducible refine bT (f:=23) rfl ?_);refine fM (some 26) rfl rfl Try.func23 (by kernel_rfl) rfl #[.agg #[.int .i64 aC,.int .i64 aD,.int .i64 aG,.int .i64 aH,.int .i64 aN,.int .i64 aK,.int .i64 aJ,.slice bG aX.length bH,.slice bO aM.length bM],.agg #[.int .i64 eT,.int .i64 eH,.int .i64 dN,.int .i64 dQ],.int .i64 a3,.int .i64 a4,.int .i64 a5] rfl (by (try simp only [List.map_toArray,List.map_cons,List.map_nil]);first|done|rfl|(simp only [List.length_drop,List.length_take];rfl)) ?_;(with_reducible refine (sj.calls aC aD aG aH aN aK aJ _ _ aX _ _ aM eT eH dN dQ a3 a4 a5 wz wY xu yL Jm _ ?gm ?gp ?gQ ?gT A18.out).mono ?_);(case gm=>repeat (first|exact (Kd.dF jR.out HB.out)|(with_reducible refine Kd.dO ?_ _)|(with_reducible refine Kd.dP ?_ _)|(with_reducible refine Kd.eO ?_)));(case gp=>exact jS.out);(case gQ=>repeat (first|exact (Kd.dF jm.out HB.out)|(with_reducible refine Kd.dO ?_ _)|(with_reducible refine Kd.dP ?_ _)|(with_reducible refine Kd.eO ?_)));(case gT=>exact kg.out);rintro e w39 ⟨rfl,hb⟩;refine ⟨_,rfl,?_⟩;have bB:=aj.mk (ax (g:=fO) (o:=.cells #[.int .i64 aC,.int .i64 aD,.int .i64 aG,.int .i64 aH,.int .i64 aN,.int .i64 aK,.int .i64 aJ,.slice bG aX.length bH,.slice bO aM.length bM] 25 (0,0)) (by (with_reducible repeat (first|refine ag ?_ _|refine ai ?_|refine af ?_ _));exact bW.out) hb);have bC:=aj.mk (ax (g:=jC) (o:=.cells #[.int .i64 bz,.int .i64 bA,.int .i64 bI,.int .i64 bJ,.int .i64 dI,.int .i64 dJ,.int .i64 dK] 29 (0,0)) (by (with_reducible repeat (first|refine ag ?_ _|refine ai ?_|refine af ?_ _));exact fC.out) hb);have bK:=aj.mk (ax (g:=ko) (o:=.cells #[.int .i64 eT,.int .i64 eH,.int .i64 dN,.int .i64 dQ] 31 (0,0)) (by (with_reducible repeat (first|refine ag ?_ _|refine ai ?_|refine af ?_ _));exact iC.out) hb);have bP:=aj.mk (ay (by repeat (first|(with_reducible first|exact HB.out|apply au|apply ah|apply av|refine ak ?_ mF.out|refine ak ?_ oM.out|refine ak ?_ rA.out)|exact HB.out)) hb);clear bW;clear fC;clear iC;clear HB;have bW:=bB;have fC:=bC;have iC:=bK;have HB:=bP;clear bB bC bK bP;(try clear hb);(try clear hb2);(try clear hk);(try clear hi))|((with_reducible refine bu (N:=13) rfl ?_);refine aY ?hg (N:=13) ?hd (cs:=#[.int .i64 0,.int .i64 0,.int .i64 0,.int .i64 0]) (t:=40) ?hr ?_;(case hd=>rfl);(case hg=>rfl);(case hr=>first|(go_simp;done)|(go_simp;rfl));intro oN hg I4 hbox hb;have bB:=aj.mk (ax (g:=fO) (o:=.cells #[.int .i64 aC,.int .i64 aD,.int .i64 aG,.int .i64 aH,.int .i64 aN,.int .i64 aK,.int .i64 aJ,.slice bG aX.length bH,.slice bO aM.length bM] 25 (0,0)) (by (with_reducible repeat (first|refine ag ?_ _|refine ai ?_|refine af ?_ _));exact bW.out) hb);have bC:=aj.mk (ax (g:=jC) (o:=.cells #[.int .i64 bz,.int .i64 bA,.int .i64 bI,.int .i64 bJ,.int .i64 dI,.int .i64 dJ,.int .i64 dK] 29 (0,0)) (by (with_reducible repeat (first|refine ag ?_ _|refine ai ?_|refine af ?_ _));exact fC.out) hb);have bK:=aj.mk (ax (g:=ko) (o:=.cells #[.int .i64 eT,.int .i64 eH,.int .i64 dN,.int .i64 dQ] 31 (0,0)) (by (with_reducible repeat (first|refine ag ?_ _|refine ai ?_|refine af ?_ _));exact iC.out) hb);have bP:=aj.mk (ay (by repeat (first|(with_reducible first|exact HB.out|apply au|apply ah|apply av|refine ak ?_ mF.out|refine ak ?_ oM.out|refine ak ?_ rA.out)|exact HB.out)) hb);have dX:=aj.mk (hbox);have fB:=aj.mk ((by rw [hg];exact (aA (by repeat (first|(with_reducible first|exact HB.out|apply au|apply ah|apply av|refine ak ?_ mF.out|refine ak ?_ oM.out|refine ak ?_ rA.out)|exact HB.out))):w.heap.size≤oN));have gD:=aj.mk ((by rw [hg];exact (aA (by repeat (first|(with_reducible first|exact HB.out|apply au|apply ah|apply av|refine ak ?_ mF.out|refine ak ?_ oM.out|refine ak ?_ rA.out)|exact HB.out))):w.heap.size≤oN));have jK:=aj.mk ((by rw [hg];exact Nat.ne_of_lt (aU (g:=fO) (o:=.cells #[.int .i64 aC,.int .i64 aD,.int .i64 aG,.int .i64 aH,.int .i64 aN,.int .i64 aK,.int .i64 aJ,.slice bG aX.length bH,.slice bO aM.length bM] 25 (0,0)) (by (with_reducible repeat (first|refine ag ?_ _|refine ai ?_|refine af ?_ _));exact bW.out)):fO≠oN));have jL:=aj.mk ((by rw [hg];exact Nat.ne_of_gt (aU (g:=fO) (o:=.cells #[.int .i64 aC,.int .i64 aD,.int .i64 aG,.int .i64 aH,.int .i64 aN,.int .i64 aK,.int .i64 aJ,.slice bG aX.length bH,.slice bO aM.length bM] 25 (0,0)) (by (with_reducible repeat (first|refine ag ?_ _|refine ai ?_|refine af ?_ _));exact bW.out)):oN≠fO));have kL:=aj.mk ((by rw [hg];exact Nat.ne_of_lt (aU (g:=jC) (o:=.cells #[.int .i64 bz,.int .i64 bA,.int .i64 bI,.int .i64 bJ,.int .i64 dI,.int .i64 dJ,.int .i64 dK] 29 (0,0)) (by (with_reducible repeat (first|refine ag ?_ _|refine ai ?_|refine af ?_ _));exact fC.out)):jC≠oN));have lJ:=aj.mk ((by rw [hg];exact Nat.ne_of_gt (aU (g:=jC) (o:=.cells #[.int .i64 bz,.int .i64 bA,.int .i64 bI,.int .i64 bJ,.int .i64 dI,.int .i64 dJ,.int .i64 dK] 29 (0,0)) (by (with_reducible repeat (first|refine ag ?_ _|refine ai ?_|refine af ?_ _));exact fC.out)):oN≠jC));have lZ:=aj.mk ((by rw [hg];exact Nat.ne_of_lt (aU (g:=ko) (o:=.cells #[.int .i64 eT,.int .i64 eH,.int .i64 dN,.int .i64 dQ] 31 (0,0)) (by (with_reducible repeat (first|refine ag ?_ _|refine ai ?_|refine af ?_ _));exact iC.out)):ko≠oN));have oQ:=aj.mk ((by rw [hg];exact Nat.ne_of_gt (aU (g:=ko) (o:=.cells #[.int .i64 eT,.int .i64 eH,.int .i64 dN,.int .i64 dQ] 31 (0,0)) (by (with_reducible repeat (first|refine ag ?_ _|refine ai ?_|refine af ?_ _));exact iC.out)):oN≠ko));clear bW;clear fC;clear iC;clear HB;have bW:=bB;have fC:=bC;have iC:=bK;have HB:=bP;have iJ:=dX;have aDF:=fB;have zh:=gD;have zi:=jK;have YC:=jL;have zk:=kL;have YD:=lJ;have zl:=lZ;have YE:=oQ;clear bB bC bK bP dX fB gD jK jL kL lJ lZ oQ;clear hb hbox hg;have aob:=YC.out;have aoc:=zi.out;have aja:=YD.out;have ajb:=zk.out;have afW:=YE.out;have afX:=zl.out;have V6:I4.cell? ⟨oN,0,none⟩ = some (.int .i64 0):=(aa iJ.out 0).trans rfl;have V7:I4.cell? ⟨oN,1,none⟩ = some (.int .i64 0):=(aa iJ.out 1).trans rfl;have V8:I4.cell? ⟨oN,2,none⟩ = some (.int .i64 0):=(aa iJ.out 2).trans rfl;have V9:I4.cell? ⟨oN,3,none⟩ = some (.int .i64 0):=(aa iJ.out 3).trans rfl;have Wd:=ae iJ.out 0;have We:=ae iJ.out 1;have Wh:=ae iJ.out 2;have Wi:=ae iJ.out 3;have aeo:I4.cell? ⟨fO,0,none⟩ = some (.int .i64 aC):=(aa bW.out 0).trans rfl;have aep:I4.cell? ⟨fO,1,none⟩ = some (.int .i64 aD):=(aa bW.out 1).trans rfl;have aeq:I4.cell? ⟨fO,2,none⟩ = some (.int .i64 aG):=(aa bW.out 2).trans rfl;have aer:I4.cell? ⟨fO,3,none⟩ = some (.int .i64 aH):=(aa bW.out 3).trans rfl;have aes:I4.cell? ⟨fO,4,none⟩ = some (.int .i64 aN):=(aa bW.out 4).trans rfl;have aet:I4.cell? ⟨fO,5,none⟩ = some (.int .i64 aK):=(aa bW.out 5).trans rfl;have aeu:I4.cell? ⟨fO,6,none⟩ = some (.int .i64 aJ):=(aa bW.out 6).trans rfl;have auN:I4.cell? ⟨fO,7,none⟩ = some (.slice bG aX.length bH):=(aa bW.out 7).trans rfl;have auO:I4.cell? ⟨fO,8,none⟩ = some (.slice bO aM.length bM):=(aa bW.out 8).trans rfl;have aev:=ae bW.out 0;have aew:=ae bW.out 1;have aex:=ae bW.out 2;have aey:=ae bW.out 3;have aez:=ae bW.out 4;have aeA:=ae bW.out 5;have aeB:=ae bW.out 6;have auP:=ae bW.out 7;have auQ:=ae bW.out 8;have adC:I4.cell? ⟨ko,0,none⟩ = some (.int .i64 eT):=(aa iC.out 0).trans rfl;have adD:I4.cell? ⟨ko,1,none⟩ = some (.int .i64 eH):=(aa iC.out 1).trans rfl;have adE:I4.cell? ⟨ko,2,none⟩ = some (.int .i64 dN):=(aa iC.out 2).trans rfl;have adF:I4.cell? ⟨ko,3,none⟩ = some (.int .i64 dQ):=(aa iC.out 3).trans rfl;have adG:=ae iC.out 0;have adH:=ae iC.out 1;have adI:=ae iC.out 2;have adJ:=ae iC.out 3)|((with_reducible refine bT (f:=24) rfl ?_);refine fM (some 35) rfl rfl Try.func24 (by kernel_rfl) rfl #[.agg #[.int .i64 aC,.int .i64 aD,.int .i64 aG,.int .i64 aH,.int .i64 aN,.int .i64 aK,.int .i64 aJ,.slice bG aX.length bH,.slice bO aM.length bM],.agg #[.int .i64 eT,.int .i64 eH,.int .i64 dN,.int .i64 dQ],.int .i64 a3,.int .i64 a4,.int .i64 a5] rfl (by (try simp only [List.map_toArray,List.map_cons,List.map_nil]);first|done|rfl|(simp only [List.length_drop,List.length_take];rfl)) ?_;(with_reducible refine (df.calls k aC aD aG aH aN aK aJ _ _ aX _ _ aM eT eH dN dQ a3 a4 a5 vD vM wB wZ Lf _ ?gm ?gp ?gQ ?gT A19.out).mono ?_);(case gm=>exact Kd.dF jR.out (by repeat (first|(with_reducible first|exact HB.out|apply au|apply ah|apply av|refine ak ?_ mF.out|refine ak ?_ oM.out|refine ak ?_ rA.out|refine ak ?_ zh.out)|exact HB.out)));(case gp=>exact jS.out);(case gQ=>exact Kd.dF jm.out (by repeat (first|(with_reducible first|exact HB.out|apply au|apply ah|apply av|refine ak ?_ mF.out|refine ak ?_ oM.out|refine ak ?_ rA.out|refine ak ?_ zh.out)|exact HB.out)));(case gT=>exact kg.out);rintro e Wj ⟨rfl,hb⟩;refine ⟨_,rfl,?_⟩;have bB:=aj.mk (ax (g:=fO) (o:=.cells #[.int .i64 aC,.int .i64 aD,.int .i64 aG,.int .i64 aH,.int .i64 aN,.int .i64 aK,.int .i64 aJ,.slice bG aX.length bH,.slice bO aM.length bM] 25 (0,0)) (by (with_reducible repeat (first|refine ag ?_ _|refine ai ?_|refine af ?_ _));refine az ?_ zi.out _;(with_reducible repeat (first|refine ag ?_ _|refine ai ?_|refine af ?_ _));refine az ?_ zi.out _;(with_reducible repeat (first|refine ag ?_ _|refine ai ?_|refine af ?_ _));refine az ?_ zi.out _;(with_reducible repeat (first|refine ag ?_ _|refine ai ?_|refine af ?_ _));refine az ?_ zi.out _;(with_reducible repeat (first|refine ag ?_ _|refine ai ?_|refine af ?_ _));exact bW.out) hb);have bC:=aj.mk (ax (g:=jC) (o:=.cells #[.int .i64 bz,.int .i64 bA,.int .i64 bI,.int .i64 bJ,.int .i64 dI,.int .i64 dJ,.int .i64 dK] 29 (0,0)) (by (with_reducible repeat (first|refine ag ?_ _|refine ai ?_|refine af ?_ _));refine az ?_ zk.out _;(with_reducible repeat (first|refine ag ?_ _|refine ai ?_|refine af ?_ _));refine az ?_ zk.out _;(with_reducible repeat (first|refine ag ?_ _|refine ai ?_|refine af ?_ _));refine az ?_ zk.out _;(with_reducible repeat (first|refine ag ?_ _|refine ai ?_|refine af ?_ _));refine az ?_ zk.out _;(with_reducible repeat (first|refine ag ?_ _|refine ai ?_|refine af ?_ _));exact fC.out) hb);have bK:=aj.mk (ax (g:=ko) (o:=.cells #[.int .i64 eT,.int .i64 eH,.int .i64 dN,.int .i64 dQ] 31 (0,0)) (by (with_reducible repeat (first|refine ag ?_ _|refine ai ?_|refine af ?_ _));refine az ?_ zl.out _;(with_reducible repeat (first|refine ag ?_ _|refine ai ?_|refine af ?_ _));refine az ?_ zl.out _;(with_reducible repeat (first|refine ag ?_ _|refine ai ?_|refine af ?_ _));refine az ?_ zl.out _;(with_reducible repeat (first|refine ag ?_ _|refine ai ?_|refine af ?_ _));refine az ?_ zl.out _;(with_reducible repeat (first|refine ag ?_ _|refine ai ?_|refine af ?_ _));exact iC.out) hb);have bP:=aj.mk (ax (g:=oN) (o:=.cells #[.int .i64 wz,.int .i64 wY,.int .i64 xu,.int .i64 yL] 40 (0,0)) (by (with_reducible repeat (first|refine ag ?_ _|refine ai ?_|refine af ?_ _));refine aW (cs:=#[.int .i64 wz,.int .i64 wY,.int .i64 xu,.int .i64 0]) ?_ 3 _ rfl;(with_reducible repeat (first|refine ag ?_ _|refine ai ?_|refine af ?_ _));refine aW (cs:=#[.int .i64 wz,.int .i64 wY,.int .i64 0,.int .i64 0]) ?_ 2 _ rfl;(with_reducible repeat (first|refine ag ?_ _|refine ai ?_|refine af ?_ _));refine aW (cs:=#[.int .i64 wz,.int .i64 0,.int .i64 0,.int .i64 0]) ?_ 1 _ rfl;(with_reducible repeat (first|refine ag ?_ _|refine ai ?_|refine af ?_ _));refine aW (cs:=#[.int .i64 0,.int .i64 0,.int .i64 0,.int .i64 0]) ?_ 0 _ rfl;(with_reducible repeat (first|refine ag ?_ _|refine ai ?_|refine af ?_ _));exact iJ.out) hb);have dX:=aj.mk (ay (by repeat (first|(with_reducible first|exact HB.out|apply au|apply ah|apply av|refine ak ?_ mF.out|refine ak ?_ oM.out|refine ak ?_ rA.out|refine ak ?_ zh.out)|exact HB.out)) hb);clear bW;clear fC;clear iC;clear iJ;clear HB;have bW:=bB;have fC:=bC;have iC:=bK;have iJ:=bP;have HB:=dX;clear bB bC bK bP dX;(try clear hb);(try clear hb2);(try clear hk);(try clear hi))|((with_reducible refine bu (N:=15) rfl ?_);refine aY ?hg (N:=15) ?hd (cs:=#[.int .i64 0,.int .i64 0,.int .i64 0,.int .i64 0]) (t:=40) ?hr ?_;(case hd=>rfl);(case hg=>rfl);(case hr=>first|(go_simp;done)|(go_simp;rfl));intro jd hg WR hbox hb;have bB:=aj.mk (ax (g:=fO) (o:=.cells #[.int .i64 aC,.int .i64 aD,.int .i64 aG,.int .i64 aH,.int .i64 aN,.int .i64 aK,.int .i64 aJ,.slice bG aX.length bH,.slice bO aM.length bM] 25 (0,0)) (by (with_reducible repeat (first|refine ag ?_ _|refine ai ?_|refine af ?_ _));exact bW.out) hb);have bC:=aj.mk (ax (g:=jC) (o:=.cells #[.int .i64 bz,.int .i64 bA,.int .i64 bI,.int .i64 bJ,.int .i64 dI,.int .i64 dJ,.int .i64 dK] 29 (0,0)) (by (with_reducible repeat (first|refine ag ?_ _|refine ai ?_|refine af ?_ _));exact fC.out) hb);have bK:=aj.mk (ax (g:=ko) (o:=.cells #[.int .i64 eT,.int .i64 eH,.int .i64 dN,.int .i64 dQ] 31 (0,0)) (by (with_reducible repeat (first|refine ag ?_ _|refine ai ?_|refine af ?_ _));exact iC.out) hb);have bP:=aj.mk (ax (g:=oN) (o:=.cells #[.int .i64 wz,.int .i64 wY,.int .i64 xu,.int .i64 yL] 40 (0,0)) (by (with_reducible repeat (first|refine ag ?_ _|refine ai ?_|refine af ?_ _));exact iJ.out) hb);have dX:=aj.mk (ay (by repeat (first|(with_reducible first|exact HB.out|apply au|apply ah|apply av|refine ak ?_ mF.out|refine ak ?_ oM.out|refine ak ?_ rA.out|refine ak ?_ zh.out)|exact HB.out)) hb);have fB:=aj.mk (hbox);have gD:=aj.mk ((by rw [hg];exact (aA (by repeat (first|(with_reducible first|exact HB.out|apply au|apply ah|apply av|refine ak ?_ mF.out|refine ak ?_ oM.out|refine ak ?_ rA.out|refine ak ?_ zh.out)|exact HB.out))):w.heap.size≤jd));have jK:=aj.mk ((by rw [hg];exact (aA (by repeat (first|(with_reducible first|exact HB.out|apply au|apply ah|apply av|refine ak ?_ mF.out|refine ak ?_ oM.out|refine ak ?_ rA.out|refine ak ?_ zh.out)|exact HB.out))):w.heap.size≤jd));have jL:=aj.mk ((by rw [hg];exact Nat.ne_of_lt (aU (g:=fO) (o:=.cells #[.int .i64 aC,.int .i64 aD,.int .i64 aG,.int .i64 aH,.int .i64 aN,.int .i64 aK,.int .i64 aJ,.slice bG aX.length bH,.slice bO aM.length bM] 25 (0,0)) (by (with_reducible repeat (first|refine ag ?_ _|refine ai ?_|refine af ?_ _));exact bW.out)):fO≠jd));have kL:=aj.mk ((by rw [hg];exact Nat.ne_of_gt (aU (g:=fO) (o:=.cells #[.int .i64 aC,.int .i64 aD,.int .i64 aG,.int .i64 aH,.int .i64 aN,.int .i64 aK,.int .i64 aJ,.slice bG aX.length bH,.slice bO aM.length bM] 25 (0,0)) (by (with_reducible repeat (first|refine ag ?_ _|refine ai ?_|refine af ?_ _));exact bW.out)):jd≠fO));have lJ:=aj.mk ((by rw [hg];exact Nat.ne_of_lt (aU (g:=jC) (o:=.cells #[.int .i64 bz,.int .i64 bA,.int .i64 bI,.int .i64 bJ,.int .i64 dI,.int .i64 dJ,.int .i64 dK] 29 (0,0)) (by (with_reducible repeat (first|refine ag ?_ _|refine ai ?_|refine af ?_ _));exact fC.out)):jC≠jd));have lZ:=aj.mk ((by rw [hg];exact Nat.ne_of_gt (aU (g:=jC) (o:=.cells #[.int .i64 bz,.int .i64 bA,.int .i64 bI,.int .i64 bJ,.int .i64 dI,.int .i64 dJ,.int .i64 dK] 29 (0,0)) (by (with_reducible repeat (first|refine ag ?_ _|refine ai ?_|refine af ?_ _));exact fC.out)):jd≠jC));have oQ:=aj.mk ((by rw [hg];exact Nat.ne_of_lt (aU (g:=ko) (o:=.cells #[.int .i64 eT,.int .i64 eH,.int .i64 dN,.int .i64 dQ] 31 (0,0)) (by (with_reducible repeat (first|refine ag ?_ _|refine ai ?_|refine af ?_ _));exact iC.out)):ko≠jd));have sV:=aj.mk ((by rw [hg];exact Nat.ne_of_gt (aU (g:=ko) (o:=.cells #[.int .i64 eT,.int .i64 eH,.int .i64 dN,.int .i64 dQ] 31 (0,0)) (by (with_reducible repeat (first|refine ag ?_ _|refine ai ?_|refine af ?_ _));exact iC.out)):jd≠ko));have sW:=aj.mk ((by rw [hg];exact Nat.ne_of_lt (aU (g:=oN) (o:=.cells #[.int .i64 wz,.int .i64 wY,.int .i64 xu,.int .i64 yL] 40 (0,0)) (by (with_reducible repeat (first|refine ag ?_ _|refine ai ?_|refine af ?_ _));exact iJ.out)):oN≠jd));have sZ:=aj.mk ((by rw [hg];exact Nat.ne_of_gt (aU (g:=oN) (o:=.cells #[.int .i64 wz,.int .i64 wY,.int .i64 xu,.int .i64 yL] 40 (0,0)) (by (with_reducible repeat (first|refine ag ?_ _|refine ai ?_|refine af ?_ _));exact iJ.out)):jd≠oN));clear bW;clear fC;clear iC;clear iJ;clear HB;have bW:=bB;have fC:=bC;have iC:=bK;have iJ:=bP;have HB:=dX;have iX:=fB;have aDG:=gD;have Lg:=jK;have zm:=jL;have YF:=kL;have zn:=lJ;have YG:=lZ;have zo:=oQ;have YH:=sV;have zq:=sW;have YI:=sZ;clear bB bC bK bP dX fB gD jK jL kL lJ lZ oQ sV sW sZ;clear hb hbox hg;have aDH:=YF.out;have aDI:=zm.out;have ajg:=YG.out;have ajh:=zn.out;have aji:=YH.out;have ajj:=zo.out;have Zg:=YI.out;have Zh:=zq.out;have auR:WR.cell? ⟨jd,0,none⟩ = some (.int .i64 0):=(aa iX.out 0).trans rfl;have auS:WR.cell? ⟨jd,1,none⟩ = some (.int .i64 0):=(aa iX.out 1).trans rfl;have auT:WR.cell? ⟨jd,2,none⟩ = some (.int .i64 0):=(aa iX.out 2).trans rfl;have auU:WR.cell? ⟨jd,3,none⟩ = some (.int .i64 0):=(aa iX.out 3).trans rfl;have auV:=ae iX.out 0;have auW:=ae iX.out 1;have auX:=ae iX.out 2;have auY:=ae iX.out 3))
      have bB:aj (((((WR.setCell ⟨jd,0,none⟩ (.int .i64 vD)).setCell ⟨jd,1,none⟩ (.int .i64 vM)).setCell ⟨jd,2,none⟩ (.int .i64 wB)).setCell ⟨jd,3,none⟩ (.int .i64 wZ)).heap[fO]? = some (.cells #[.int .i64 aC,.int .i64 aD,.int .i64 aG,.int .i64 aH,.int .i64 aN,.int .i64 aK,.int .i64 aJ,.slice bG aX.length bH,.slice bO aM.length bM] 25 (0,0))):=⟨by (with_reducible repeat (first|refine ag ?_ _|refine ai ?_|refine af ?_ _));refine az ?_ zm.out _;(with_reducible repeat (first|refine ag ?_ _|refine ai ?_|refine af ?_ _));refine az ?_ zm.out _;(with_reducible repeat (first|refine ag ?_ _|refine ai ?_|refine af ?_ _));refine az ?_ zm.out _;(with_reducible repeat (first|refine ag ?_ _|refine ai ?_|refine af ?_ _));refine az ?_ zm.out _;(with_reducible repeat (first|refine ag ?_ _|refine ai ?_|refine af ?_ _));exact bW.out⟩
      have bC:aj (((((WR.setCell ⟨jd,0,none⟩ (.int .i64 vD)).setCell ⟨jd,1,none⟩ (.int .i64 vM)).setCell ⟨jd,2,none⟩ (.int .i64 wB)).setCell ⟨jd,3,none⟩ (.int .i64 wZ)).heap[jC]? = some (.cells #[.int .i64 bz,.int .i64 bA,.int .i64 bI,.int .i64 bJ,.int .i64 dI,.int .i64 dJ,.int .i64 dK] 29 (0,0))):=⟨by (with_reducible repeat (first|refine ag ?_ _|refine ai ?_|refine af ?_ _));refine az ?_ zn.out _;(with_reducible repeat (first|refine ag ?_ _|refine ai ?_|refine af ?_ _));refine az ?_ zn.out _;(with_reducible repeat (first|refine ag ?_ _|refine ai ?_|refine af ?_ _));refine az ?_ zn.out _;(with_reducible repeat (first|refine ag ?_ _|refine ai ?_|refine af ?_ _));refine az ?_ zn.out _;(with_reducible repeat (first|refine ag ?_ _|refine ai ?_|refine af ?_ _));exact fC.out⟩
      have bK:aj (((((WR.setCell ⟨jd,0,none⟩ (.int .i64 vD)).setCell ⟨jd,1,none⟩ (.int .i64 vM)).setCell ⟨jd,2,none⟩ (.int .i64 wB)).setCell ⟨jd,3,none⟩ (.int .i64 wZ)).heap[ko]? = some (.cells #[.int .i64 eT,.int .i64 eH,.int .i64 dN,.int .i64 dQ] 31 (0,0))):=⟨by (with_reducible repeat (first|refine ag ?_ _|refine ai ?_|refine af ?_ _));refine az ?_ zo.out _;(with_reducible repeat (first|refine ag ?_ _|refine ai ?_|refine af ?_ _));refine az ?_ zo.out _;(with_reducible repeat (first|refine ag ?_ _|refine ai ?_|refine af ?_ _));refine az ?_ zo.out _;(with_reducible repeat (first|refine ag ?_ _|refine ai ?_|refine af ?_ _));refine az ?_ zo.out _;(with_reducible repeat (first|refine ag ?_ _|refine ai ?_|refine af ?_ _));exact iC.out⟩
      have bP:aj (((((WR.setCell ⟨jd,0,none⟩ (.int .i64 vD)).setCell ⟨jd,1,none⟩ (.int .i64 vM)).setCell ⟨jd,2,none⟩ (.int .i64 wB)).setCell ⟨jd,3,none⟩ (.int .i64 wZ)).heap[oN]? = some (.cells #[.int .i64 wz,.int .i64 wY,.int .i64 xu,.int .i64 yL] 40 (0,0))):=⟨by (with_reducible repeat (first|refine ag ?_ _|refine ai ?_|refine af ?_ _));refine az ?_ zq.out _;(with_reducible repeat (first|refine ag ?_ _|refine ai ?_|refine af ?_ _));refine az ?_ zq.out _;(with_reducible repeat (first|refine ag ?_ _|refine ai ?_|refine af ?_ _));refine az ?_ zq.out _;(with_reducible repeat (first|refine ag ?_ _|refine ai ?_|refine af ?_ _));refine az ?_ zq.out _;(with_reducible repeat (first|refine ag ?_ _|refine ai ?_|refine af ?_ _));exact iJ.out⟩
      have dX:aj (((((WR.setCell ⟨jd,0,none⟩ (.int .i64 vD)).setCell ⟨jd,1,none⟩ (.int .i64 vM)).setCell ⟨jd,2,none⟩ (.int .i64 wB)).setCell ⟨jd,3,none⟩ (.int .i64 wZ)).heap[jd]? = some (.cells #[.int .i64 vD,.int .i64 vM,.int .i64 wB,.int .i64 wZ] 40 (0,0))):=⟨by (with_reducible repeat (first|refine ag ?_ _|refine ai ?_|refine af ?_ _));refine aW (cs:=#[.int .i64 vD,.int .i64 vM,.int .i64 wB,.int .i64 0]) ?_ 3 _ rfl;(with_reducible repeat (first|refine ag ?_ _|refine ai ?_|refine af ?_ _));refine aW (cs:=#[.int .i64 vD,.int .i64 vM,.int .i64 0,.int .i64 0]) ?_ 2 _ rfl;(with_reducible repeat (first|refine ag ?_ _|refine ai ?_|refine af ?_ _));refine aW (cs:=#[.int .i64 vD,.int .i64 0,.int .i64 0,.int .i64 0]) ?_ 1 _ rfl;(with_reducible repeat (first|refine ag ?_ _|refine ai ?_|refine af ?_ _));refine aW (cs:=#[.int .i64 0,.int .i64 0,.int .i64 0,.int .i64 0]) ?_ 0 _ rfl;(with_reducible repeat (first|refine ag ?_ _|refine ai ?_|refine af ?_ _));exact iX.out⟩
      have fB:aj (Below w.heap.size w ((((WR.setCell ⟨jd,0,none⟩ (.int .i64 vD)).setCell ⟨jd,1,none⟩ (.int .i64 vM)).setCell ⟨jd,2,none⟩ (.int .i64 wB)).setCell ⟨jd,3,none⟩ (.int .i64 wZ))):=⟨by repeat (first|(with_reducible first|exact HB.out|apply au|apply ah|apply av|refine ak ?_ mF.out|refine ak ?_ oM.out|refine ak ?_ rA.out|refine ak ?_ zh.out|refine ak ?_ Lg.out)|exact HB.out)⟩
      (try clear bW)
      (try clear fC)
      (try clear iC)
      (try clear iJ)
      (try clear iX)
      (try clear HB)
      generalize ((((WR.setCell ⟨jd,0,none⟩ (.int .i64 vD)).setCell ⟨jd,1,none⟩ (.int .i64 vM)).setCell ⟨jd,2,none⟩ (.int .i64 wB)).setCell ⟨jd,3,none⟩ (.int .i64 wZ)) = w54 at bB bC bK bP dX fB ⊢
      have bW:=bB
      have fC:=bC
      have iC:=bK
      have iJ:=bP
      have iX:=dX
      have HB:=fB
      clear bB bC bK bP dX fB
      have bB:=aj.mk (ai bW.out)
      have bC:=aj.mk (ai fC.out)
      have bK:=aj.mk (ai iC.out)
      have bP:=aj.mk (ai iJ.out)
      have dX:=aj.mk (ai iX.out)
      have fB:=aj.mk (av HB.out)
      clear bW
      clear fC
      clear iC
      clear iJ
      clear iX
      clear HB
      have bW:=bB
      have fC:=bC
      have iC:=bK
      have iJ:=bP
      have iX:=dX
      have HB:=fB
      clear bB bC bK bP dX fB
      refine qg (n:=26) (S:=fun w'=>w'.cell? ⟨fO,0,none⟩ = some (.int .i64 aC)∧w'.cell? ⟨fO,1,none⟩ = some (.int .i64 aD)∧w'.cell? ⟨fO,2,none⟩ = some (.int .i64 aG)∧w'.cell? ⟨fO,3,none⟩ = some (.int .i64 aH)∧w'.cell? ⟨fO,4,none⟩ = some (.int .i64 aN)∧w'.cell? ⟨fO,5,none⟩ = some (.int .i64 aK)∧w'.cell? ⟨fO,6,none⟩ = some (.int .i64 aJ)∧w'.cell? ⟨fO,7,none⟩ = some (.slice bG aX.length bH)∧w'.cell? ⟨fO,8,none⟩ = some (.slice bO aM.length bM)∧w'.cell? ⟨jC,0,none⟩ = some (.int .i64 bz)∧w'.cell? ⟨jC,1,none⟩ = some (.int .i64 bA)∧w'.cell? ⟨jC,2,none⟩ = some (.int .i64 bI)∧w'.cell? ⟨jC,3,none⟩ = some (.int .i64 bJ)∧w'.cell? ⟨jC,4,none⟩ = some (.int .i64 dI)∧w'.cell? ⟨jC,5,none⟩ = some (.int .i64 dJ)∧w'.cell? ⟨jC,6,none⟩ = some (.int .i64 dK)∧w'.cell? ⟨oN,0,none⟩ = some (.int .i64 wz)∧w'.cell? ⟨oN,1,none⟩ = some (.int .i64 wY)∧w'.cell? ⟨oN,2,none⟩ = some (.int .i64 xu)∧w'.cell? ⟨oN,3,none⟩ = some (.int .i64 yL)∧w'.cell? ⟨jd,0,none⟩ = some (.int .i64 vD)∧w'.cell? ⟨jd,1,none⟩ = some (.int .i64 vM)∧w'.cell? ⟨jd,2,none⟩ = some (.int .i64 wB)∧w'.cell? ⟨jd,3,none⟩ = some (.int .i64 wZ)) (ds:=[]) #[false,false,false,false,false,false,false,false,false,false,false,false,false,false,false,false,false,false,false,false,false,false,false,false,false,false] (by kernel_rfl) rfl rfl ⟨(aa bW.out 0).trans rfl,(aa bW.out 1).trans rfl,(aa bW.out 2).trans rfl,(aa bW.out 3).trans rfl,(aa bW.out 4).trans rfl,(aa bW.out 5).trans rfl,(aa bW.out 6).trans rfl,(aa bW.out 7).trans rfl,(aa bW.out 8).trans rfl,(aa fC.out 0).trans rfl,(aa fC.out 1).trans rfl,(aa fC.out 2).trans rfl,(aa fC.out 3).trans rfl,(aa fC.out 4).trans rfl,(aa fC.out 5).trans rfl,(aa fC.out 6).trans rfl,(aa iJ.out 0).trans rfl,(aa iJ.out 1).trans rfl,(aa iJ.out 2).trans rfl,(aa iJ.out 3).trans rfl,(aa iX.out 0).trans rfl,(aa iX.out 1).trans rfl,(aa iX.out 2).trans rfl,(aa iX.out 3).trans rfl⟩ (fun hHeld=>?_);refine si eX.aBa eX.aog (fun iD wX=>?_)
      generalize w54.drew = w55 at bW fC iC iJ iX HB hHeld ⊢
      refine gB (i:=0) (N:=some 38) (v:=?_) (a':=?_) #[true,false,false,false,false,false,false,false,false,false,false,false,false,false,false,false,false,false,false,false,false,false,false,false,false,false] rfl rfl (gJ iD.out wX.out (by kernel_rfl)) (fun _ _ _ h=>h) (Or.inl ⟨by rfl,?_⟩) hHeld ?_ ?_
      rotate_left
      ·rintro w' ⟨s0,s1,s2,s3,s4,s5,s6,s7,s8,s9,s10,s11,s12,s13,Lh,s15,s16,s17,s18,s19,s20,s21,s22,s23⟩
       go_simp
       with_reducible rfl
      rotate_left
      ·simp only [Act.put,List.setIfInBounds_toArray,List.set_cons_zero,List.set_cons_succ,aZ,bf]
       rfl
      refine gB (i:=2) (N:=some 40) (v:=?_) (a':=?_) #[true,false,true,false,false,false,false,false,false,false,false,false,false,false,false,false,false,false,false,false,false,false,false,false,false,false] rfl rfl (gJ iD.out wX.out (by kernel_rfl)) (fun _ _ _ h=>h) (Or.inl ⟨by rfl,?_⟩) hHeld ?_ ?_
      rotate_left
      ·rintro w' ⟨s0,s1,s2,s3,s4,s5,s6,s7,s8,s9,s10,s11,s12,s13,Lh,s15,s16,s17,s18,s19,s20,s21,s22,s23⟩
       go_simp
       with_reducible rfl
      rotate_left
      ·simp only [Act.put,List.setIfInBounds_toArray,List.set_cons_zero,List.set_cons_succ,aZ,bf]
       rfl
      refine o7 (i:=1) (N:=some 39) #[true,true,true,false,false,false,false,false,false,false,false,false,false,false,false,false,false,false,false,false,false,false,false,false,false,false] rfl rfl (l9 iD.out (by kernel_rfl)) (by decide) (fun K hK=>?_)
      refine kP Try.func25 (by kernel_rfl) rfl #[.agg #[.int .i64 aC,.int .i64 aD,.int .i64 aG,.int .i64 aH,.int .i64 aN,.int .i64 aK,.int .i64 aJ,.slice bG aX.length bH,.slice bO aM.length bM]] (by rfl) rfl rfl (by (try simp only [List.map_toArray,List.map_cons,List.map_nil]);first|done|rfl|(simp only [List.length_drop,List.length_take];rfl)) ?_
      with_reducible refine (jJ.calls aC aD aG aH aN aK aJ _ _ aX _ _ aM zg _ ?gm ?gp ?gQ ?gT RY.out).mono ?_
      (case gm=>repeat (first|exact (Kd.dF jR.out HB.out)|(with_reducible refine Kd.dO ?_ _)|(with_reducible refine Kd.dP ?_ _)|(with_reducible refine Kd.eO ?_)))
      (case gp=>exact jS.out)
      (case gQ=>repeat (first|exact (Kd.dF jm.out HB.out)|(with_reducible refine Kd.dO ?_ _)|(with_reducible refine Kd.dP ?_ _)|(with_reducible refine Kd.eO ?_)))
      (case gT=>exact kg.out)
      rintro e w56 ⟨rfl,hb⟩
      refine ⟨_,rfl,?_⟩
      have bB:=aj.mk (ax (g:=fO) (o:=.cells #[.int .i64 aC,.int .i64 aD,.int .i64 aG,.int .i64 aH,.int .i64 aN,.int .i64 aK,.int .i64 aJ,.slice bG aX.length bH,.slice bO aM.length bM] 25 (0,0)) (by (with_reducible repeat (first|refine ag ?_ _|refine ai ?_|refine af ?_ _));exact bW.out) hb)
      have bC:=aj.mk (ax (g:=jC) (o:=.cells #[.int .i64 bz,.int .i64 bA,.int .i64 bI,.int .i64 bJ,.int .i64 dI,.int .i64 dJ,.int .i64 dK] 29 (0,0)) (by (with_reducible repeat (first|refine ag ?_ _|refine ai ?_|refine af ?_ _));exact fC.out) hb)
      have bK:=aj.mk (ax (g:=ko) (o:=.cells #[.int .i64 eT,.int .i64 eH,.int .i64 dN,.int .i64 dQ] 31 (0,0)) (by (with_reducible repeat (first|refine ag ?_ _|refine ai ?_|refine af ?_ _));exact iC.out) hb)
      have bP:=aj.mk (ax (g:=oN) (o:=.cells #[.int .i64 wz,.int .i64 wY,.int .i64 xu,.int .i64 yL] 40 (0,0)) (by (with_reducible repeat (first|refine ag ?_ _|refine ai ?_|refine af ?_ _));exact iJ.out) hb)
      have dX:=aj.mk (ax (g:=jd) (o:=.cells #[.int .i64 vD,.int .i64 vM,.int .i64 wB,.int .i64 wZ] 40 (0,0)) (by (with_reducible repeat (first|refine ag ?_ _|refine ai ?_|refine af ?_ _));exact iX.out) hb)
      have fB:=aj.mk (ay (by repeat (first|(with_reducible first|exact HB.out|apply au|apply ah|apply av|refine ak ?_ mF.out|refine ak ?_ oM.out|refine ak ?_ rA.out|refine ak ?_ zh.out|refine ak ?_ Lg.out)|exact HB.out)) hb)
      clear bW
      clear fC
      clear iC
      clear iJ
      clear iX
      clear HB
      have bW:=bB
      have fC:=bC
      have iC:=bK
      have iJ:=bP
      have iX:=dX
      have HB:=fB
      clear bB bC bK bP dX fB
      (try clear hb)
      (try clear hb2)
      (try clear hk)
      (try clear hi)
      refine hK.out _ _ ⟨(aa bW.out 0).trans rfl,(aa bW.out 1).trans rfl,(aa bW.out 2).trans rfl,(aa bW.out 3).trans rfl,(aa bW.out 4).trans rfl,(aa bW.out 5).trans rfl,(aa bW.out 6).trans rfl,(aa bW.out 7).trans rfl,(aa bW.out 8).trans rfl,(aa fC.out 0).trans rfl,(aa fC.out 1).trans rfl,(aa fC.out 2).trans rfl,(aa fC.out 3).trans rfl,(aa fC.out 4).trans rfl,(aa fC.out 5).trans rfl,(aa fC.out 6).trans rfl,(aa iJ.out 0).trans rfl,(aa iJ.out 1).trans rfl,(aa iJ.out 2).trans rfl,(aa iJ.out 3).trans rfl,(aa iX.out 0).trans rfl,(aa iX.out 1).trans rfl,(aa iX.out 2).trans rfl,(aa iX.out 3).trans rfl⟩ (fun hHeld=>?_)
      clear hK K
      refine iP (a':=?_) ?_ ?_
      rotate_left
      ·show Act.put _ (some 39) _ = _
       simp only [Act.put,List.setIfInBounds_toArray,List.set_cons_zero,List.set_cons_succ,aZ,bf]
       rfl
      refine o7 (i:=3) (N:=some 41) #[true,true,true,true,false,false,false,false,false,false,false,false,false,false,false,false,false,false,false,false,false,false,false,false,false,false] rfl rfl (l9 iD.out (by kernel_rfl)) (by decide) (fun K hK=>?_)
      refine kP Try.func26 (by kernel_rfl) rfl #[.agg #[.int .i64 aC,.int .i64 aD,.int .i64 aG,.int .i64 aH,.int .i64 aN,.int .i64 aK,.int .i64 aJ,.slice bG aX.length bH,.slice bO aM.length bM]] (by rfl) rfl rfl (by (try simp only [List.map_toArray,List.map_cons,List.map_nil]);first|done|rfl|(simp only [List.length_drop,List.length_take];rfl)) ?_
      with_reducible refine (aI.calls k aC aD aG aH aN aK aJ _ _ aX _ _ aM yK _ ?gm ?gp ?gQ ?gT A21.out).mono ?_
      (case gm=>repeat (first|exact (Kd.dF jR.out HB.out)|(with_reducible refine Kd.dO ?_ _)|(with_reducible refine Kd.dP ?_ _)|(with_reducible refine Kd.eO ?_)))
      (case gp=>exact jS.out)
      (case gQ=>repeat (first|exact (Kd.dF jm.out HB.out)|(with_reducible refine Kd.dO ?_ _)|(with_reducible refine Kd.dP ?_ _)|(with_reducible refine Kd.eO ?_)))
      (case gT=>exact kg.out)
      rintro e GU ⟨rfl,hb⟩
      refine ⟨_,rfl,?_⟩
      have bB:=aj.mk (ax (g:=fO) (o:=.cells #[.int .i64 aC,.int .i64 aD,.int .i64 aG,.int .i64 aH,.int .i64 aN,.int .i64 aK,.int .i64 aJ,.slice bG aX.length bH,.slice bO aM.length bM] 25 (0,0)) (by (with_reducible repeat (first|refine ag ?_ _|refine ai ?_|refine af ?_ _));exact bW.out) hb)
      have bC:=aj.mk (ax (g:=jC) (o:=.cells #[.int .i64 bz,.int .i64 bA,.int .i64 bI,.int .i64 bJ,.int .i64 dI,.int .i64 dJ,.int .i64 dK] 29 (0,0)) (by (with_reducible repeat (first|refine ag ?_ _|refine ai ?_|refine af ?_ _));exact fC.out) hb)
      have bK:=aj.mk (ax (g:=ko) (o:=.cells #[.int .i64 eT,.int .i64 eH,.int .i64 dN,.int .i64 dQ] 31 (0,0)) (by (with_reducible repeat (first|refine ag ?_ _|refine ai ?_|refine af ?_ _));exact iC.out) hb)
      have bP:=aj.mk (ax (g:=oN) (o:=.cells #[.int .i64 wz,.int .i64 wY,.int .i64 xu,.int .i64 yL] 40 (0,0)) (by (with_reducible repeat (first|refine ag ?_ _|refine ai ?_|refine af ?_ _));exact iJ.out) hb)
      have dX:=aj.mk (ax (g:=jd) (o:=.cells #[.int .i64 vD,.int .i64 vM,.int .i64 wB,.int .i64 wZ] 40 (0,0)) (by (with_reducible repeat (first|refine ag ?_ _|refine ai ?_|refine af ?_ _));exact iX.out) hb)
      have fB:=aj.mk (ay (by repeat (first|(with_reducible first|exact HB.out|apply au|apply ah|apply av|refine ak ?_ mF.out|refine ak ?_ oM.out|refine ak ?_ rA.out|refine ak ?_ zh.out|refine ak ?_ Lg.out)|exact HB.out)) hb)
      clear bW
      clear fC
      clear iC
      clear iJ
      clear iX
      clear HB
      have bW:=bB
      have fC:=bC
      have iC:=bK
      have iJ:=bP
      have iX:=dX
      have HB:=fB
      clear bB bC bK bP dX fB
      (try clear hb)
      (try clear hb2)
      (try clear hk)
      (try clear hi)
      refine hK.out _ _ ⟨(aa bW.out 0).trans rfl,(aa bW.out 1).trans rfl,(aa bW.out 2).trans rfl,(aa bW.out 3).trans rfl,(aa bW.out 4).trans rfl,(aa bW.out 5).trans rfl,(aa bW.out 6).trans rfl,(aa bW.out 7).trans rfl,(aa bW.out 8).trans rfl,(aa fC.out 0).trans rfl,(aa fC.out 1).trans rfl,(aa fC.out 2).trans rfl,(aa fC.out 3).trans rfl,(aa fC.out 4).trans rfl,(aa fC.out 5).trans rfl,(aa fC.out 6).trans rfl,(aa iJ.out 0).trans rfl,(aa iJ.out 1).trans rfl,(aa iJ.out 2).trans rfl,(aa iJ.out 3).trans rfl,(aa iX.out 0).trans rfl,(aa iX.out 1).trans rfl,(aa iX.out 2).trans rfl,(aa iX.out 3).trans rfl⟩ (fun hHeld=>?_)
      clear hK K
      refine iP (a':=?_) ?_ ?_
      rotate_left
      ·show Act.put _ (some 41) _ = _
       simp only [Act.put,List.setIfInBounds_toArray,List.set_cons_zero,List.set_cons_succ,aZ,bf]
       rfl
      refine bU (i:=4) (N:=some 42) (v:=?_) (a':=?_) #[true,true,true,true,true,false,false,false,false,false,false,false,false,false,false,false,false,false,false,false,false,false,false,false,false,false] rfl rfl (dC iD.out (by kernel_rfl)) (fun _ _ _ h=>h) (Or.inl ⟨by rfl,?_⟩) ?_ ?_
      rotate_left
      ·intro w'
       go_simp
       with_reducible rfl
      rotate_left
      ·simp only [Act.put,List.setIfInBounds_toArray,List.set_cons_zero,List.set_cons_succ,aZ,bf]
       rfl
      refine bU (i:=5) (N:=some 43) (v:=?_) (a':=?_) #[true,true,true,true,true,true,false,false,false,false,false,false,false,false,false,false,false,false,false,false,false,false,false,false,false,false] rfl rfl (dC iD.out (by kernel_rfl)) (fun _ _ _ h=>h) (Or.inl ⟨by rfl,?_⟩) ?_ ?_
      rotate_left
      ·intro w'
       go_simp
       with_reducible rfl
      rotate_left
      ·simp only [Act.put,List.setIfInBounds_toArray,List.set_cons_zero,List.set_cons_succ,aZ,bf]
       rfl
      refine gB (i:=6) (N:=some 44) (v:=?_) (a':=?_) #[true,true,true,true,true,true,true,false,false,false,false,false,false,false,false,false,false,false,false,false,false,false,false,false,false,false] rfl rfl (gJ iD.out wX.out (by kernel_rfl)) (fun _ _ _ h=>h) (Or.inl ⟨by rfl,?_⟩) hHeld ?_ ?_
      rotate_left
      ·rintro w' ⟨s0,s1,s2,s3,s4,s5,s6,s7,s8,s9,s10,s11,s12,s13,Lh,s15,s16,s17,s18,s19,s20,s21,s22,s23⟩
       go_simp
       with_reducible rfl
      rotate_left
      ·simp only [Act.put,List.setIfInBounds_toArray,List.set_cons_zero,List.set_cons_succ,aZ,bf]
       rfl
      refine gB (i:=8) (N:=some 46) (v:=?_) (a':=?_) #[true,true,true,true,true,true,true,false,true,false,false,false,false,false,false,false,false,false,false,false,false,false,false,false,false,false] rfl rfl (gJ iD.out wX.out (by kernel_rfl)) (fun _ _ _ h=>h) (Or.inl ⟨by rfl,?_⟩) hHeld ?_ ?_
      rotate_left
      ·rintro w' ⟨s0,s1,s2,s3,s4,s5,s6,s7,s8,s9,s10,s11,s12,s13,Lh,s15,s16,s17,s18,s19,s20,s21,s22,s23⟩
       go_simp
       with_reducible rfl
      rotate_left
      ·simp only [Act.put,List.setIfInBounds_toArray,List.set_cons_zero,List.set_cons_succ,aZ,bf]
       rfl
      refine o7 (i:=7) (N:=some 45) #[true,true,true,true,true,true,true,true,true,false,false,false,false,false,false,false,false,false,false,false,false,false,false,false,false,false] rfl rfl (l9 iD.out (by kernel_rfl)) (by decide) (fun K hK=>?_)
      refine kP Try.func27 (by kernel_rfl) rfl #[.agg #[.int .i64 bz,.int .i64 bA,.int .i64 bI,.int .i64 bJ,.int .i64 dI,.int .i64 dJ,.int .i64 dK]] (by rfl) rfl rfl (by (try simp only [List.map_toArray,List.map_cons,List.map_nil]);first|done|rfl|(simp only [List.length_drop,List.length_take];rfl)) ?_
      with_reducible refine (cZ.calls k bz bA bI bJ dI dJ dK wy _ A23.out).mono ?_
      rintro e w58 ⟨rfl,hb⟩
      refine ⟨_,rfl,?_⟩
      have bB:=aj.mk (ax (g:=fO) (o:=.cells #[.int .i64 aC,.int .i64 aD,.int .i64 aG,.int .i64 aH,.int .i64 aN,.int .i64 aK,.int .i64 aJ,.slice bG aX.length bH,.slice bO aM.length bM] 25 (0,0)) (by (with_reducible repeat (first|refine ag ?_ _|refine ai ?_|refine af ?_ _));exact bW.out) hb)
      have bC:=aj.mk (ax (g:=jC) (o:=.cells #[.int .i64 bz,.int .i64 bA,.int .i64 bI,.int .i64 bJ,.int .i64 dI,.int .i64 dJ,.int .i64 dK] 29 (0,0)) (by (with_reducible repeat (first|refine ag ?_ _|refine ai ?_|refine af ?_ _));exact fC.out) hb)
      have bK:=aj.mk (ax (g:=ko) (o:=.cells #[.int .i64 eT,.int .i64 eH,.int .i64 dN,.int .i64 dQ] 31 (0,0)) (by (with_reducible repeat (first|refine ag ?_ _|refine ai ?_|refine af ?_ _));exact iC.out) hb)
      have bP:=aj.mk (ax (g:=oN) (o:=.cells #[.int .i64 wz,.int .i64 wY,.int .i64 xu,.int .i64 yL] 40 (0,0)) (by (with_reducible repeat (first|refine ag ?_ _|refine ai ?_|refine af ?_ _));exact iJ.out) hb)
      have dX:=aj.mk (ax (g:=jd) (o:=.cells #[.int .i64 vD,.int .i64 vM,.int .i64 wB,.int .i64 wZ] 40 (0,0)) (by (with_reducible repeat (first|refine ag ?_ _|refine ai ?_|refine af ?_ _));exact iX.out) hb)
      have fB:=aj.mk (ay (by repeat (first|(with_reducible first|exact HB.out|apply au|apply ah|apply av|refine ak ?_ mF.out|refine ak ?_ oM.out|refine ak ?_ rA.out|refine ak ?_ zh.out|refine ak ?_ Lg.out)|exact HB.out)) hb)
      clear bW
      clear fC
      clear iC
      clear iJ
      clear iX
      clear HB
      have bW:=bB
      have fC:=bC
      have iC:=bK
      have iJ:=bP
      have iX:=dX
      have HB:=fB
      clear bB bC bK bP dX fB
      (try clear hb)
      (try clear hb2)
      (try clear hk)
      (try clear hi)
      refine hK.out _ _ ⟨(aa bW.out 0).trans rfl,(aa bW.out 1).trans rfl,(aa bW.out 2).trans rfl,(aa bW.out 3).trans rfl,(aa bW.out 4).trans rfl,(aa bW.out 5).trans rfl,(aa bW.out 6).trans rfl,(aa bW.out 7).trans rfl,(aa bW.out 8).trans rfl,(aa fC.out 0).trans rfl,(aa fC.out 1).trans rfl,(aa fC.out 2).trans rfl,(aa fC.out 3).trans rfl,(aa fC.out 4).trans rfl,(aa fC.out 5).trans rfl,(aa fC.out 6).trans rfl,(aa iJ.out 0).trans rfl,(aa iJ.out 1).trans rfl,(aa iJ.out 2).trans rfl,(aa iJ.out 3).trans rfl,(aa iX.out 0).trans rfl,(aa iX.out 1).trans rfl,(aa iX.out 2).trans rfl,(aa iX.out 3).trans rfl⟩ (fun hHeld=>?_)
      clear hK K
      refine iP (a':=?_) ?_ ?_
      rotate_left
      ·show Act.put _ (some 45) _ = _
       simp only [Act.put,List.setIfInBounds_toArray,List.set_cons_zero,List.set_cons_succ,aZ,bf]
       rfl
      refine o7 (i:=9) (N:=some 47) #[true,true,true,true,true,true,true,true,true,true,false,false,false,false,false,false,false,false,false,false,false,false,false,false,false,false] rfl rfl (l9 iD.out (by kernel_rfl)) (by decide) (fun K hK=>?_)
      refine kP Try.func28 (by kernel_rfl) rfl #[.agg #[.int .i64 bz,.int .i64 bA,.int .i64 bI,.int .i64 bJ,.int .i64 dI,.int .i64 dJ,.int .i64 dK]] (by rfl) rfl rfl (by (try simp only [List.map_toArray,List.map_cons,List.map_nil]);first|done|rfl|(simp only [List.length_drop,List.length_take];rfl)) ?_
      with_reducible refine (cz.calls bz bA bI bJ dI dJ dK vL _ A24.out).mono ?_
      rintro e w59 ⟨rfl,hb⟩
      refine ⟨_,rfl,?_⟩
      have bB:=aj.mk (ax (g:=fO) (o:=.cells #[.int .i64 aC,.int .i64 aD,.int .i64 aG,.int .i64 aH,.int .i64 aN,.int .i64 aK,.int .i64 aJ,.slice bG aX.length bH,.slice bO aM.length bM] 25 (0,0)) (by (with_reducible repeat (first|refine ag ?_ _|refine ai ?_|refine af ?_ _));exact bW.out) hb)
      have bC:=aj.mk (ax (g:=jC) (o:=.cells #[.int .i64 bz,.int .i64 bA,.int .i64 bI,.int .i64 bJ,.int .i64 dI,.int .i64 dJ,.int .i64 dK] 29 (0,0)) (by (with_reducible repeat (first|refine ag ?_ _|refine ai ?_|refine af ?_ _));exact fC.out) hb)
      have bK:=aj.mk (ax (g:=ko) (o:=.cells #[.int .i64 eT,.int .i64 eH,.int .i64 dN,.int .i64 dQ] 31 (0,0)) (by (with_reducible repeat (first|refine ag ?_ _|refine ai ?_|refine af ?_ _));exact iC.out) hb)
      have bP:=aj.mk (ax (g:=oN) (o:=.cells #[.int .i64 wz,.int .i64 wY,.int .i64 xu,.int .i64 yL] 40 (0,0)) (by (with_reducible repeat (first|refine ag ?_ _|refine ai ?_|refine af ?_ _));exact iJ.out) hb)
      have dX:=aj.mk (ax (g:=jd) (o:=.cells #[.int .i64 vD,.int .i64 vM,.int .i64 wB,.int .i64 wZ] 40 (0,0)) (by (with_reducible repeat (first|refine ag ?_ _|refine ai ?_|refine af ?_ _));exact iX.out) hb)
      have fB:=aj.mk (ay (by repeat (first|(with_reducible first|exact HB.out|apply au|apply ah|apply av|refine ak ?_ mF.out|refine ak ?_ oM.out|refine ak ?_ rA.out|refine ak ?_ zh.out|refine ak ?_ Lg.out)|exact HB.out)) hb)
      clear bW
      clear fC
      clear iC
      clear iJ
      clear iX
      clear HB
      have bW:=bB
      have fC:=bC
      have iC:=bK
      have iJ:=bP
      have iX:=dX
      have HB:=fB
      clear bB bC bK bP dX fB
      (try clear hb)
      (try clear hb2)
      (try clear hk)
      (try clear hi)
      refine hK.out _ _ ⟨(aa bW.out 0).trans rfl,(aa bW.out 1).trans rfl,(aa bW.out 2).trans rfl,(aa bW.out 3).trans rfl,(aa bW.out 4).trans rfl,(aa bW.out 5).trans rfl,(aa bW.out 6).trans rfl,(aa bW.out 7).trans rfl,(aa bW.out 8).trans rfl,(aa fC.out 0).trans rfl,(aa fC.out 1).trans rfl,(aa fC.out 2).trans rfl,(aa fC.out 3).trans rfl,(aa fC.out 4).trans rfl,(aa fC.out 5).trans rfl,(aa fC.out 6).trans rfl,(aa iJ.out 0).trans rfl,(aa iJ.out 1).trans rfl,(aa iJ.out 2).trans rfl,(aa iJ.out 3).trans rfl,(aa iX.out 0).trans rfl,(aa iX.out 1).trans rfl,(aa iX.out 2).trans rfl,(aa iX.out 3).trans rfl⟩ (fun hHeld=>?_)
      clear hK K
      refine iP (a':=?_) ?_ ?_
      rotate_left
      ·show Act.put _ (some 47) _ = _
       simp only [Act.put,List.setIfInBounds_toArray,List.set_cons_zero,List.set_cons_succ,aZ,bf]
       rfl
      refine bU (i:=10) (N:=some 48) (v:=?_) (a':=?_) #[true,true,true,true,true,true,true,true,true,true,true,false,false,false,false,false,false,false,false,false,false,false,false,false,false,false] rfl rfl (dC iD.out (by kernel_rfl)) (fun _ _ _ h=>h) (Or.inl ⟨by rfl,?_⟩) ?_ ?_
      rotate_left
      ·intro w'
       go_simp
       with_reducible rfl
      rotate_left
      ·simp only [Act.put,List.setIfInBounds_toArray,List.set_cons_zero,List.set_cons_succ,aZ,bf]
       rfl
      refine bU (i:=11) (N:=some 49) (v:=?_) (a':=?_) #[true,true,true,true,true,true,true,true,true,true,true,true,false,false,false,false,false,false,false,false,false,false,false,false,false,false] rfl rfl (dC iD.out (by kernel_rfl)) (fun _ _ _ h=>h) (Or.inl ⟨by rfl,?_⟩) ?_ ?_
      rotate_left
      ·intro w'
       go_simp
       with_reducible rfl
      rotate_left
      ·simp only [Act.put,List.setIfInBounds_toArray,List.set_cons_zero,List.set_cons_succ,aZ,bf]
       rfl
      refine bU (i:=12) (N:=some 50) (v:=?_) (a':=?_) #[true,true,true,true,true,true,true,true,true,true,true,true,true,false,false,false,false,false,false,false,false,false,false,false,false,false] rfl rfl (dC iD.out (by kernel_rfl)) (fun _ _ _ h=>h) (Or.inl ⟨by rfl,?_⟩) ?_ ?_
      rotate_left
      ·intro w'
       go_simp
       with_reducible rfl
      rotate_left
      ·simp only [Act.put,List.setIfInBounds_toArray,List.set_cons_zero,List.set_cons_succ,aZ,bf]
       rfl
      refine gB (i:=13) (N:=some 51) (v:=?_) (a':=?_) #[true,true,true,true,true,true,true,true,true,true,true,true,true,true,false,false,false,false,false,false,false,false,false,false,false,false] rfl rfl (gJ iD.out wX.out (by kernel_rfl)) (fun _ _ _ h=>h) (Or.inl ⟨by rfl,?_⟩) hHeld ?_ ?_
      rotate_left
      ·rintro w' ⟨s0,s1,s2,s3,s4,s5,s6,s7,s8,s9,s10,s11,s12,s13,Lh,s15,s16,s17,s18,s19,s20,s21,s22,s23⟩
       go_simp
       with_reducible rfl
      rotate_left
      ·simp only [Act.put,List.setIfInBounds_toArray,List.set_cons_zero,List.set_cons_succ,aZ,bf]
       rfl
      refine gB (i:=14) (N:=some 52) (v:=?_) (a':=?_) #[true,true,true,true,true,true,true,true,true,true,true,true,true,true,true,false,false,false,false,false,false,false,false,false,false,false] rfl rfl (gJ iD.out wX.out (by kernel_rfl)) (fun _ _ _ h=>h) (Or.inl ⟨by rfl,?_⟩) hHeld ?_ ?_
      rotate_left
      ·rintro w' ⟨s0,s1,s2,s3,s4,s5,s6,s7,s8,s9,s10,s11,s12,s13,Lh,s15,s16,s17,s18,s19,s20,s21,s22,s23⟩
       go_simp
       with_reducible rfl
      rotate_left
      ·simp only [Act.put,List.setIfInBounds_toArray,List.set_cons_zero,List.set_cons_succ,aZ,bf]
       rfl
      refine bU (i:=15) (N:=some 53) (v:=?_) (a':=?_) #[true,true,true,true,true,true,true,true,true,true,true,true,true,true,true,true,false,false,false,false,false,false,false,false,false,false] rfl rfl (dC iD.out (by kernel_rfl)) (fun _ _ _ h=>h) (Or.inl ⟨by rfl,?_⟩) ?_ ?_
      rotate_left
      ·intro w'
       go_simp
       with_reducible rfl
      rotate_left
      ·simp only [Act.put,List.setIfInBounds_toArray,List.set_cons_zero,List.set_cons_succ,aZ,bf]
       rfl
      refine bU (i:=16) (N:=some 54) (v:=?_) (a':=?_) #[true,true,true,true,true,true,true,true,true,true,true,true,true,true,true,true,true,false,false,false,false,false,false,false,false,false] rfl rfl (dC iD.out (by kernel_rfl)) (fun _ _ _ h=>h) (Or.inl ⟨by rfl,?_⟩) ?_ ?_
      rotate_left
      ·intro w'
       go_simp
       with_reducible rfl
      rotate_left
      ·simp only [Act.put,List.setIfInBounds_toArray,List.set_cons_zero,List.set_cons_succ,aZ,bf]
       rfl
      refine bU (i:=17) (N:=some 55) (v:=?_) (a':=?_) #[true,true,true,true,true,true,true,true,true,true,true,true,true,true,true,true,true,true,false,false,false,false,false,false,false,false] rfl rfl (dC iD.out (by kernel_rfl)) (fun _ _ _ h=>h) (Or.inl ⟨by rfl,?_⟩) ?_ ?_
      rotate_left
      ·intro w'
       go_simp
       with_reducible rfl
      rotate_left
      ·simp only [Act.put,List.setIfInBounds_toArray,List.set_cons_zero,List.set_cons_succ,aZ,bf]
       rfl
      refine bU (i:=18) (N:=some 56) (v:=?_) (a':=?_) #[true,true,true,true,true,true,true,true,true,true,true,true,true,true,true,true,true,true,true,false,false,false,false,false,false,false] rfl rfl (dC iD.out (by kernel_rfl)) (fun _ _ _ h=>h) (Or.inl ⟨by rfl,?_⟩) ?_ ?_
      rotate_left
      ·intro w'
       go_simp
       with_reducible rfl
      rotate_left
      ·simp only [Act.put,List.setIfInBounds_toArray,List.set_cons_zero,List.set_cons_succ,aZ,bf]
       rfl
      refine bU (i:=19) (N:=some 57) (v:=?_) (a':=?_) #[true,true,true,true,true,true,true,true,true,true,true,true,true,true,true,true,true,true,true,true,false,false,false,false,false,false] rfl rfl (dC iD.out (by kernel_rfl)) (fun _ _ _ h=>h) (Or.inl ⟨by rfl,?_⟩) ?_ ?_
      rotate_left
      ·intro w'
       go_simp
       with_reducible rfl
      rotate_left
      ·simp only [Act.put,List.setIfInBounds_toArray,List.set_cons_zero,List.set_cons_succ,aZ,bf]
       rfl
      refine bU (i:=20) (N:=some 58) (v:=?_) (a':=?_) #[true,true,true,true,true,true,true,true,true,true,true,true,true,true,true,true,true,true,true,true,true,false,false,false,false,false] rfl rfl (dC iD.out (by kernel_rfl)) (fun _ _ _ h=>h) (Or.inl ⟨by rfl,?_⟩) ?_ ?_
      rotate_left
      ·intro w'
       go_simp
       with_reducible rfl
      rotate_left
      ·simp only [Act.put,List.setIfInBounds_toArray,List.set_cons_zero,List.set_cons_succ,aZ,bf]
       rfl
      refine bU (i:=21) (N:=some 59) (v:=?_) (a':=?_) #[true,true,true,true,true,true,true,true,true,true,true,true,true,true,true,true,true,true,true,true,true,true,false,false,false,false] rfl rfl (dC iD.out (by kernel_rfl)) (fun _ _ _ h=>h) (Or.inl ⟨by rfl,?_⟩) ?_ ?_
      rotate_left
      ·intro w'
       go_simp
       with_reducible rfl
      rotate_left
      ·simp only [Act.put,List.setIfInBounds_toArray,List.set_cons_zero,List.set_cons_succ,aZ,bf]
       rfl
      refine bU (i:=22) (N:=some 60) (v:=?_) (a':=?_) #[true,true,true,true,true,true,true,true,true,true,true,true,true,true,true,true,true,true,true,true,true,true,true,false,false,false] rfl rfl (dC iD.out (by kernel_rfl)) (fun _ _ _ h=>h) (Or.inl ⟨by rfl,?_⟩) ?_ ?_
      rotate_left
      ·intro w'
       go_simp
       with_reducible rfl
      rotate_left
      ·simp only [Act.put,List.setIfInBounds_toArray,List.set_cons_zero,List.set_cons_succ,aZ,bf]
       rfl
      refine o7 (i:=23) (N:=some 61) #[true,true,true,true,true,true,true,true,true,true,true,true,true,true,true,true,true,true,true,true,true,true,true,true,false,false] rfl rfl (l9 iD.out (by kernel_rfl)) (by decide) (fun K hK=>?_)
      refine kP Try.func19 (by kernel_rfl) rfl #[] (by rfl) rfl rfl (by (try simp only [List.map_toArray,List.map_cons,List.map_nil]);first|done|rfl|(simp only [List.length_drop,List.length_take];rfl)) ?_
      with_reducible refine (bE.calls k xq _ A28.out).mono ?_
      rintro e R5 ⟨rfl,hb⟩
      refine ⟨_,rfl,?_⟩
      have bB:=aj.mk (ax (g:=fO) (o:=.cells #[.int .i64 aC,.int .i64 aD,.int .i64 aG,.int .i64 aH,.int .i64 aN,.int .i64 aK,.int .i64 aJ,.slice bG aX.length bH,.slice bO aM.length bM] 25 (0,0)) (by (with_reducible repeat (first|refine ag ?_ _|refine ai ?_|refine af ?_ _));exact bW.out) hb)
      have bC:=aj.mk (ax (g:=jC) (o:=.cells #[.int .i64 bz,.int .i64 bA,.int .i64 bI,.int .i64 bJ,.int .i64 dI,.int .i64 dJ,.int .i64 dK] 29 (0,0)) (by (with_reducible repeat (first|refine ag ?_ _|refine ai ?_|refine af ?_ _));exact fC.out) hb)
      have bK:=aj.mk (ax (g:=ko) (o:=.cells #[.int .i64 eT,.int .i64 eH,.int .i64 dN,.int .i64 dQ] 31 (0,0)) (by (with_reducible repeat (first|refine ag ?_ _|refine ai ?_|refine af ?_ _));exact iC.out) hb)
      have bP:=aj.mk (ax (g:=oN) (o:=.cells #[.int .i64 wz,.int .i64 wY,.int .i64 xu,.int .i64 yL] 40 (0,0)) (by (with_reducible repeat (first|refine ag ?_ _|refine ai ?_|refine af ?_ _));exact iJ.out) hb)
      have dX:=aj.mk (ax (g:=jd) (o:=.cells #[.int .i64 vD,.int .i64 vM,.int .i64 wB,.int .i64 wZ] 40 (0,0)) (by (with_reducible repeat (first|refine ag ?_ _|refine ai ?_|refine af ?_ _));exact iX.out) hb)
      have fB:=aj.mk (ay (by repeat (first|(with_reducible first|exact HB.out|apply au|apply ah|apply av|refine ak ?_ mF.out|refine ak ?_ oM.out|refine ak ?_ rA.out|refine ak ?_ zh.out|refine ak ?_ Lg.out)|exact HB.out)) hb)
      clear bW
      clear fC
      clear iC
      clear iJ
      clear iX
      clear HB
      have bW:=bB
      have fC:=bC
      have iC:=bK
      have iJ:=bP
      have iX:=dX
      have HB:=fB
      clear bB bC bK bP dX fB
      (try clear hb)
      (try clear hb2)
      (try clear hk)
      (try clear hi)
      refine hK.out _ _ ⟨(aa bW.out 0).trans rfl,(aa bW.out 1).trans rfl,(aa bW.out 2).trans rfl,(aa bW.out 3).trans rfl,(aa bW.out 4).trans rfl,(aa bW.out 5).trans rfl,(aa bW.out 6).trans rfl,(aa bW.out 7).trans rfl,(aa bW.out 8).trans rfl,(aa fC.out 0).trans rfl,(aa fC.out 1).trans rfl,(aa fC.out 2).trans rfl,(aa fC.out 3).trans rfl,(aa fC.out 4).trans rfl,(aa fC.out 5).trans rfl,(aa fC.out 6).trans rfl,(aa iJ.out 0).trans rfl,(aa iJ.out 1).trans rfl,(aa iJ.out 2).trans rfl,(aa iJ.out 3).trans rfl,(aa iX.out 0).trans rfl,(aa iX.out 1).trans rfl,(aa iX.out 2).trans rfl,(aa iX.out 3).trans rfl⟩ (fun hHeld=>?_)
      clear hK K
      refine iP (a':=?_) ?_ ?_
      rotate_left
      ·show Act.put _ (some 61) _ = _
       simp only [Act.put,List.setIfInBounds_toArray,List.set_cons_zero,List.set_cons_succ,aZ,bf]
       rfl
      refine bU (i:=24) (N:=some 62) (v:=?_) (a':=?_) #[true,true,true,true,true,true,true,true,true,true,true,true,true,true,true,true,true,true,true,true,true,true,true,true,true,false] rfl rfl (dC iD.out (by kernel_rfl)) (fun _ _ _ h=>h) (Or.inl ⟨by rfl,?_⟩) ?_ ?_
      rotate_left
      ·intro w'
       go_simp
       with_reducible rfl
      rotate_left
      ·simp only [Act.put,List.setIfInBounds_toArray,List.set_cons_zero,List.set_cons_succ,aZ,bf]
       rfl
      refine bU (i:=25) (N:=some 12) (v:=?_) (a':=?_) #[true,true,true,true,true,true,true,true,true,true,true,true,true,true,true,true,true,true,true,true,true,true,true,true,true,true] rfl rfl (dC iD.out (by kernel_rfl)) (fun _ _ _ h=>h) (Or.inl ⟨by rfl,?_⟩) ?_ ?_
      rotate_left
      ·intro w'
       go_simp
       with_reducible rfl
      rotate_left
      ·simp only [Act.put,List.setIfInBounds_toArray,List.set_cons_zero,List.set_cons_succ,aZ,bf]
       rfl
      refine tT (yh iD.out (by kernel_rfl)) ?_
      try go_wp2
      go_ret
      exact ⟨by first|rfl|(simp [aQ,aT] <;> rfl)|(simp [*,aQ,aT] <;> rfl),by repeat (first|(with_reducible first|exact HB.out|apply au|apply ah|apply av|refine ak ?_ mF.out|refine ak ?_ oM.out|refine ak ?_ rA.out|refine ak ?_ zh.out|refine ak ?_ Lg.out)|exact HB.out)⟩
     ·rw [if_neg c27] at H
      have aot:(Jm == Lf) = false:=beq_eq_false_iff_ne.mpr c27
      have aou:(Jm != Lf) = true:=bne_iff_ne.mpr c27
      have MU:=Option.some.inj H
      rw [hr_.out] at MU
      cases MU
    ·rw [if_neg Jj] at H
     have I1:((wz == vD && (wY == vM)) && ((xu == wB && (yL == wZ)))) = false:=by simpa using Jj
     clear Jj
     have MU:=Option.some.inj H
     rw [hr_.out] at MU
     cases MU
   ·rw [if_neg IZ] at H
    have ZP:(wy == vL) = false:=beq_eq_false_iff_ne.mpr IZ
    have aos:(wy != vL) = true:=bne_iff_ne.mpr IZ
    have MU:=Option.some.inj H
    rw [hr_.out] at MU
    cases MU
  ·rw [if_neg Mk] at H
   have M9:(zg == yK) = false:=beq_eq_false_iff_ne.mpr Mk
   have aop:(zg != yK) = true:=bne_iff_ne.mpr Mk
   have MU:=Option.some.inj H
   rw [hr_.out] at MU
   cases MU
end Go.Proofs.Ytmhaiihjfgfaoaa.Pr
end
section
namespace Go.Proofs.Ytmhaiihjfgfaoaa.Gl
open Go.RowKit Go.Proofs.YtmhaiihjfgfaoaaW.PrintWords Go.Proofs.YtmhaiihjfgfaoaaW.PrintLast Go.Proofs.YtmhaiihjfgfaoaaW.PrintMore Go.Proofs.Ytmhaiihjfgfaoaa.Pr
set_option linter.unusedVariables false
def Ea (s:oH) (x:jI) (c:Int):Bool:=(decide (x.f0.f0≤(c % s.nx+1)*s.cell) && decide (c % s.nx*s.cell≤x.f0.f1)) && (decide (x.f1.f0≤(c / s.nx+1)*s.cell) && decide (c / s.nx*s.cell≤x.f1.f1))
theorem J9 {c lo hi most i:Int} (hc:0 < c) (h0:0≤lo) (h1:lo≤hi) (h2:hi≤most*c) (hi0:0≤i) (hi1:i≤most - 1):
 (min (qE c lo) (most - 1)≤i∧i≤min (hi / c) (most - 1))↔(lo≤(i+1)*c∧i*c≤hi):=by
 have a:i≤hi / c↔i*c≤hi:=Int.le_ediv_iff_mul_le hc
 have q0:0≤lo / c:=Int.ediv_nonneg h0 (by omega)
 have dm:=Int.emod_add_mul_ediv lo c
 have m0:=Int.emod_nonneg lo (show c≠0 by omega)
 have b:qE c lo≤i↔lo≤(i+1)*c:=by
  have e:(i+1)*c = i*c+c:=by rw [Int.add_mul,Int.one_mul]
  unfold qE
  by_cases hz:lo % c = 0
  ·have hq:(lo / c≤i+1)↔lo≤(i+1)*c:=by
    constructor
    ·intro h
     have:=Int.mul_le_mul_of_nonneg_right h (show 0≤c by omega)
     rw [Int.mul_comm (lo / c) c] at this
     omega
    ·intro h
     have:=Int.ediv_le_ediv hc h
     rw [Int.mul_ediv_cancel _ (show c≠0 by omega)] at this
     exact this
   by_cases hp:0 < lo / c
   ·rw [if_pos ⟨hp,hz⟩,← hq];omega
   ·rw [if_neg (fun q=>hp q.1),← hq];omega
  ·rw [if_neg (fun q=>hz q.2)]
   constructor
   ·intro h
    have h':lo / c < i+1:=by omega
    have:=(Int.ediv_lt_iff_lt_mul hc).1 h'
    omega
   ·intro h
    have h':lo < (i+1)*c:=by
     rcases Int.lt_or_eq_of_le h with h|h
     ·exact h
     ·exfalso
      apply hz
      rw [h,Int.mul_emod_left]
    have:=(Int.ediv_lt_iff_lt_mul hc).2 h'
    omega
 have last:i = most - 1→lo≤(i+1)*c:=by
  intro e
  rw [e,Int.sub_add_cancel]
  omega
 rw [← a,← b]
 constructor
 ·rintro ⟨h,k⟩
  refine ⟨?_,by omega⟩
  by_cases e:i = most - 1
  ·exact b.2 (last e)
  ·omega
 ·rintro ⟨h,k⟩
  omega
theorem Na {s:oH} {x:jI} (hN:Ar s) (hx0:x.f0.f0≤x.f0.f1) (hx1:x.f1.f0≤x.f1.f1) (hc:ib s x = true) {c:Int}:c ∈ qF s x↔(0≤c∧c < s.nx*s.ny)∧Ea s x c = true:=by
 unfold ib at hc
 simp only [Bool.and_eq_true,decide_eq_true_eq] at hc
 obtain ⟨⟨⟨c0,c1⟩,c2⟩,c3⟩:=hc
 have pc:0 < s.cell:=by have:=hN.cell;omega
 have pn:0 < s.nx:=by have:=hN.nx;omega
 have pm:0 < s.ny:=by have:=hN.ny;omega
 rw [CG]
 unfold Ea
 simp only [Bool.and_eq_true,decide_eq_true_eq]
 have f0:∀ lo k:Int,0≤lo→0 < k→0≤(min (qE s.cell lo) (k - 1)):=by
  intro lo k h hk
  have q0:0≤lo / s.cell:=Int.ediv_nonneg h (by omega)
  have:0≤qE s.cell lo:=by unfold qE;split <;> omega
  omega
 constructor
 ·rintro ⟨r,i,hr,hi,e⟩
  have hi0:0≤i:=Int.le_trans (f0 _ _ c0 pn) hi.1
  have hr0:0≤r:=Int.le_trans (f0 _ _ c1 pm) hr.1
  have hi1:i≤s.nx - 1:=by have:=hi.2;unfold qy at this;dsimp only at this;omega
  have hr1:r≤s.ny - 1:=by have:=hr.2;unfold qy at this;dsimp only at this;omega
  have em:c % s.nx = i:=by rw [e,Int.add_comm,Int.add_mul_emod_self_right,Int.emod_eq_of_lt hi0 (by omega)]
  have ed:c / s.nx = r:=by rw [e,Int.add_comm,Int.add_mul_ediv_right _ _ (by omega),Int.ediv_eq_zero_of_lt hi0 (by omega),Int.zero_add]
  have p1:0≤r*s.nx:=Int.mul_nonneg hr0 (by omega)
  have p2:r*s.nx≤(s.ny - 1)*s.nx:=Int.mul_le_mul_of_nonneg_right hr1 (by omega)
  have p3:(s.ny - 1)*s.nx = s.nx*s.ny - s.nx:=by rw [Int.sub_mul,Int.mul_comm,Int.one_mul]
  rw [em,ed]
  exact ⟨⟨by omega,by omega⟩,(J9 pc c0 hx0 c2 hi0 hi1).1 hi,(J9 pc c1 hx1 c3 hr0 hr1).1 hr⟩
 ·rintro ⟨⟨k0,k1⟩,h0,h1⟩
  have hi0:0≤c % s.nx:=Int.emod_nonneg _ (by omega)
  have hi1:c % s.nx≤s.nx - 1:=by have:=Int.emod_lt_of_pos c pn;omega
  have hr0:0≤c / s.nx:=Int.ediv_nonneg k0 (by omega)
  have hr1:c / s.nx≤s.ny - 1:=by have:=(Int.ediv_lt_iff_lt_mul (a:=c) (b:=s.ny) pn).2 (by rw [Int.mul_comm];exact k1);omega
  refine ⟨c / s.nx,c % s.nx,(J9 pc c1 hx1 c3 hr0 hr1).2 h1,(J9 pc c0 hx0 c2 hi0 hi1).2 h0,?_⟩
  have:=Int.emod_add_mul_ediv c s.nx
  rw [Int.mul_comm] at this
  omega
def Im (s:oH) (x:jI) (layer j:Int):Nat→Int→List jI
 |0,_=>[]
 |m+1,c=>(if Ea s x c then [vE s layer j c] else [])++Im s x layer j m (c+1)
def Io (s:oH) (x:jI) (layer t u:Int):Nat→Int→List jI
 |0,_=>[]
 |q+1,j=>(if u≤j*s.slot∨(j+1)*s.slot≤t then [] else Im s x layer j (s.nx*s.ny).toNat 0)++Io s x layer t u q (j+1)
theorem Li {s:oH} {x:jI} {layer j:Int} {y:jI}:∀ (m:Nat) (c:Int),y ∈ Im s x layer j m c↔∃ k,(c≤k∧k < c+(m:Int))∧Ea s x k = true∧y = vE s layer j k
 |0,c=>by
  unfold Im
  constructor
  ·intro h;cases h
  ·rintro ⟨k,h,_⟩;omega
 |m+1,c=>by
  unfold Im
  rw [List.mem_append,Li m (c+1)]
  constructor
  ·rintro (h|⟨k,h,h1,h2⟩)
   ·by_cases ht:Ea s x c = true
    ·rw [if_pos ht,List.mem_singleton] at h
     exact ⟨c,by omega,ht,h⟩
    ·rw [if_neg ht] at h;cases h
   ·exact ⟨k,by omega,h1,h2⟩
  ·rintro ⟨k,h,h1,h2⟩
   by_cases e:k = c
   ·subst e
    left
    rw [if_pos h1,List.mem_singleton];exact h2
   ·exact Or.inr ⟨k,by omega,h1,h2⟩
theorem QU {s:oH} {x:jI} {layer t u:Int} {y:jI}:∀ (q:Nat) (j:Int),y ∈ Io s x layer t u q j↔∃ i,(j≤i∧i < j+(q:Int))∧(i*s.slot < u∧t < (i+1)*s.slot)∧y ∈ Im s x layer i (s.nx*s.ny).toNat 0
 |0,j=>by
  unfold Io
  constructor
  ·intro h;cases h
  ·rintro ⟨k,h,_⟩;omega
 |q+1,j=>by
  unfold Io
  rw [List.mem_append,QU q (j+1)]
  constructor
  ·rintro (h|⟨k,h,h1,h2⟩)
   ·by_cases ht:u≤j*s.slot∨(j+1)*s.slot≤t
    ·rw [if_pos ht] at h;cases h
    ·rw [if_neg ht] at h
     exact ⟨j,by omega,by omega,h⟩
   ·exact ⟨k,by omega,h1,h2⟩
  ·rintro ⟨k,h,h1,h2⟩
   by_cases e:k = j
   ·subst e
    left
    rw [if_neg (by omega)];exact h2
   ·exact Or.inr ⟨k,by omega,h1,h2⟩
theorem YJ {s:oH} {x:jI} {layer t u:Int} (hN:Ar s) (hx0:x.f0.f0≤x.f0.f1) (hx1:x.f1.f0≤x.f1.f1) (hc:ib s x = true) (ht0:0≤t) (htu:t < u) (hu:u≤s.slots*s.slot):
 j3 (Io s x layer t u s.slots.toNat 0) = Mc s x layer t u:=by
 have pd:0 < s.slot:=by have:=hN.slot;omega
 have ps:0 < s.slots:=by have:=hN.slots;omega
 have pnn:0≤s.nx*s.ny:=Int.mul_nonneg (by have:=hN.nx;omega) (by have:=hN.ny;omega)
 have pc:0 < s.cell:=by have:=hN.cell;omega
 have hm:∀ y,y ∈ Io s x layer t u s.slots.toNat 0↔y ∈ jk s x layer (t / s.slot) ((u - 1) / s.slot+1 - t / s.slot).toNat:=by
  intro y
  rw [QU,wU]
  constructor
  ·rintro ⟨i,hi,⟨h1,h2⟩,hy⟩
   obtain ⟨k,hk,hk1,e⟩:=(Li _ _).1 hy
   have a1:i≤(u - 1) / s.slot:=(Int.le_ediv_iff_mul_le pd).2 (by omega)
   have a2:t / s.slot < i+1:=(Int.ediv_lt_iff_lt_mul pd).2 h2
   refine ⟨(i - t / s.slot).toNat,by omega,k,(Na hN hx0 hx1 hc).2 ⟨by omega,hk1⟩,?_⟩
   rw [show t / s.slot+((i - t / s.slot).toNat:Int) = i from by omega];exact e
  ·rintro ⟨r,hr,c,hc',e⟩
   obtain ⟨h0,h1⟩:=(Na hN hx0 hx1 hc).1 hc'
   have t0:0≤t / s.slot:=Int.ediv_nonneg ht0 (by omega)
   have a1:(t / s.slot+(r:Int))*s.slot≤u - 1:=(Int.le_ediv_iff_mul_le pd).1 (by omega)
   have a2:t < (t / s.slot+(r:Int)+1)*s.slot:=(Int.ediv_lt_iff_lt_mul pd).1 (by omega)
   have a3:t / s.slot+(r:Int) < s.slots:=by
    by_cases h:t / s.slot+(r:Int) < s.slots
    ·exact h
    ·exfalso
     have:=Int.mul_le_mul_of_nonneg_right (show s.slots≤t / s.slot+(r:Int) by omega) (show 0≤s.slot by omega)
     omega
   exact ⟨t / s.slot+(r:Int),by omega,⟨by omega,a2⟩,(Li _ _).2 ⟨c,by omega,h1,e⟩⟩
 obtain ⟨k,hk⟩:=Lj (s:=s) pc hx0 hx1
 have hne:jk s x layer (t / s.slot) ((u - 1) / s.slot+1 - t / s.slot).toNat≠[]:=List.ne_nil_of_mem (wU.2 ⟨0,Ip pd htu,k,hk,rfl⟩)
 have hne':Io s x layer t u s.slots.toNat 0≠[]:=List.ne_nil_of_mem ((hm _).2 (wU.2 ⟨0,Ip pd htu,k,hk,rfl⟩))
 exact mH.antisymm (Iq hne' fun a ha=>⟨a,(hm a).1 ha,mH.rfl' a⟩) (Iq hne fun a ha=>⟨a,(hm a).2 ha,mH.rfl' a⟩)
theorem ZQ (s:oH) (hN:Ar s) (c:Int) (h0:0≤c) (h1:c < s.nx*s.ny):jX.f s.nx s.ny s.cell s.slot s.slots s.layers s.most s.shores s.currents c = some (c % s.nx*s.cell,(c % s.nx+1)*s.cell,c / s.nx*s.cell,(c / s.nx+1)*s.cell):=by
 have pn:0 < s.nx:=by have:=hN.nx;omega
 have hi0:0≤c % s.nx:=Int.emod_nonneg _ (by omega)
 have hi1:c % s.nx < s.nx:=Int.emod_lt_of_pos c pn
 have hr0:0≤c / s.nx:=Int.ediv_nonneg h0 (by omega)
 have hr1:c / s.nx < s.ny:=(Int.ediv_lt_iff_lt_mul (a:=c) (b:=s.ny) pn).2 (by rw [Int.mul_comm];exact h1)
 have n1:=hN.nx;have n2:=hN.ny;have n3:=hN.cell
 obtain ⟨a0,a1⟩:=iV (a:=c % s.nx) (b:=s.cell) (m:=12) (n:=65536) (by omega) (by omega) (by omega) (by omega)
 obtain ⟨b0,b1⟩:=iV (a:=c % s.nx+1) (b:=s.cell) (m:=12) (n:=65536) (by omega) (by omega) (by omega) (by omega)
 obtain ⟨d0,d1⟩:=iV (a:=c / s.nx) (b:=s.cell) (m:=12) (n:=65536) (by omega) (by omega) (by omega) (by omega)
 obtain ⟨e0,e1⟩:=iV (a:=c / s.nx+1) (b:=s.cell) (m:=12) (n:=65536) (by omega) (by omega) (by omega) (by omega)
 unfold jX.f
 rw [if_neg (by omega),Int.tmod_eq_emod_of_nonneg h0,Int.tdiv_eq_ediv_of_nonneg h0,jb (x:=c / s.nx) (by omega),jb (x:=c % s.nx+1) (by omega),jb (x:=c / s.nx+1) (by omega),jb (x:=c % s.nx*s.cell) (by omega),jb (x:=(c % s.nx+1)*s.cell) (by omega),jb (x:=c / s.nx*s.cell) (by omega),jb (x:=(c / s.nx+1)*s.cell) (by omega)]
theorem QV (x:jI) (a b c d:Int):iM.f x.f0.f0 x.f0.f1 x.f1.f0 x.f1.f1 a b c d = some ((decide (x.f0.f0≤b) && decide (a≤x.f0.f1)) && (decide (x.f1.f0≤d) && decide (c≤x.f1.f1))):=by
 unfold iM.f gY.f
 by_cases h1:x.f0.f0≤b <;> by_cases h2:a≤x.f0.f1 <;> by_cases h3:x.f1.f0≤d <;> simp [h1,h2,h3]
theorem Px (l:List jI) (y:jI):(!(l++[y]).isEmpty) = true:=by cases l <;> rfl
theorem YK (l:List jI) (y:jI):j3 (l++[y]) = if (!l.isEmpty) = true then vR (j3 l) y else y:=by
 unfold j3
 cases hl:l with
 |nil=>rfl
 |cons a r =>
  obtain ⟨z,e,_⟩:=Py (l:=a :: r) (by simp)
  rw [Eb,e];rfl
theorem Ir (s:oH) (x:jI) (layer t u j:Int) (hN:Ar s) (hcu:(s.currents.length:Int) = s.slots*s.layers*(s.nx*s.ny)) (hl0:0≤layer) (hl1:layer < s.layers) (hj0:0≤j) (hj1:j < s.slots):∀ (m:Nat) (c:Int) (k:Nat) (l:List jI),0≤c→c+(m:Int) = s.nx*s.ny→
 bF.l1 (m+1+k) layer t u (!l.isEmpty) j c s.nx s.ny s.cell s.slot s.slots s.layers s.most s.shores s.currents x.f0.f0 x.f0.f1 x.f1.f0 x.f1.f1 (j3 l).f0.f0 (j3 l).f0.f1 (j3 l).f1.f0 (j3 l).f1.f1
  = bF.l0 k layer t u (!(l++Im s x layer j m c).isEmpty) (j+1) s.nx s.ny s.cell s.slot s.slots s.layers s.most s.shores s.currents x.f0.f0 x.f0.f1 x.f1.f0 x.f1.f1 (j3 (l++Im s x layer j m c)).f0.f0 (j3 (l++Im s x layer j m c)).f0.f1 (j3 (l++Im s x layer j m c)).f1.f0 (j3 (l++Im s x layer j m c)).f1.f1
 |0,c,k,l,h0,h=>by
  have n1:=hN.nx;have n2:=hN.ny;have n5:=hN.slots
  obtain ⟨p0,p1⟩:=iV (a:=s.nx) (b:=s.ny) (m:=12) (n:=12) (by omega) (by omega) (by omega) (by omega)
  rw [show 0+1+k = k+1 from by omega,bF.l1,jb (x:=s.nx*s.ny) (by omega),if_neg (by omega),jb (x:=j+1) (by omega),Im,List.append_nil]
 |m+1,c,k,l,h0,h=>by
  have n1:=hN.nx;have n2:=hN.ny;have n5:=hN.slots;have n6:=hN.layers
  obtain ⟨p0,p1⟩:=iV (a:=s.nx) (b:=s.ny) (m:=12) (n:=12) (by omega) (by omega) (by omega) (by omega)
  obtain ⟨i0,i1⟩:=QW (q:=j) (l:=layer) (k:=s.nx*s.ny) (c:=c) (ll:=s.slots) (kk:=s.layers) hj0 hj1 hl0 hl1 h0 (by omega)
  obtain ⟨a0,a1⟩:=iV (a:=j) (b:=s.layers) (m:=16) (n:=3) (by omega) (by omega) (by omega) (by omega)
  obtain ⟨b0,b1⟩:=iV (a:=j*s.layers+layer) (b:=s.nx) (m:=51) (n:=12) (by omega) (by omega) (by omega) (by omega)
  obtain ⟨d0,d1⟩:=iV (a:=(j*s.layers+layer)*s.nx) (b:=s.ny) (m:=612) (n:=12) (by omega) (by omega) (by omega) (by omega)
  have hidx:wrap64 (wrap64 (wrap64 (wrap64 (wrap64 (j*s.layers)+layer)*s.nx)*s.ny)+c) = (j*s.layers+layer)*(s.nx*s.ny)+c:=by
   rw [jb (x:=j*s.layers) (by omega),jb (x:=j*s.layers+layer) (by omega),jb (x:=(j*s.layers+layer)*s.nx) (by omega),jb (x:=(j*s.layers+layer)*s.nx*s.ny) (by omega),Int.mul_assoc (j*s.layers+layer) s.nx s.ny]
   rw [Int.mul_assoc] at d0 d1
   exact jb (by omega)
  rw [show m+1+1+k = (m+1+k)+1 from by omega,bF.l1,jb (x:=s.nx*s.ny) (by omega),if_pos (by omega),ZQ s hN c h0 (by omega),Option.bind_some,QV,Option.bind_some,hidx,jb (x:=c+1) (by omega)]
  have et:((decide (x.f0.f0≤(c % s.nx+1)*s.cell) && decide (c % s.nx*s.cell≤x.f0.f1)) && (decide (x.f1.f0≤(c / s.nx+1)*s.cell) && decide (c / s.nx*s.cell≤x.f1.f1))) = Ea s x c:=rfl
  rw [et,Im]
  by_cases ht:Ea s x c = true
  ·rw [if_pos ht,if_pos ht,if_pos i0,if_pos (by omega),← List.append_assoc]
   have ih:=Ir s x layer t u j hN hcu hl0 hl1 hj0 hj1 m (c+1) k (l++[vE s layer j c]) (by omega) (by omega)
   rw [← ih,Px,YK]
   by_cases he:(!l.isEmpty) = true
   ·rw [if_pos he,if_pos he]
    unfold fJ.f
    rw [Option.bind_some,Option.bind_some,EP,Ah,EP,Ah]
    rfl
   ·rw [if_neg he,if_neg he]
    rfl
  ·rw [if_neg ht,if_neg ht,List.nil_append]
   exact Ir s x layer t u j hN hcu hl0 hl1 hj0 hj1 m (c+1) k l (by omega) (by omega)
theorem Nb (s:oH) (x:jI) (layer t u:Int) (hN:Ar s) (hcu:(s.currents.length:Int) = s.slots*s.layers*(s.nx*s.ny)) (hl0:0≤layer) (hl1:layer < s.layers):∀ (q:Nat) (j:Int) (k:Nat) (l:List jI),0≤j→j+(q:Int) = s.slots→q*147+1≤k→
 bF.l0 k layer t u (!l.isEmpty) j s.nx s.ny s.cell s.slot s.slots s.layers s.most s.shores s.currents x.f0.f0 x.f0.f1 x.f1.f0 x.f1.f1 (j3 l).f0.f0 (j3 l).f0.f1 (j3 l).f1.f0 (j3 l).f1.f1
  = some ((j3 (l++Io s x layer t u q j)).f0.f0,(j3 (l++Io s x layer t u q j)).f0.f1,(j3 (l++Io s x layer t u q j)).f1.f0,(j3 (l++Io s x layer t u q j)).f1.f1)
 |0,j,k+1,l,h0,h,hk=>by
  rw [bF.l0,if_neg (by omega),Io,List.append_nil]
 |q+1,j,k+1,l,h0,h,hk=>by
  obtain ⟨k,rfl⟩:∃ z,k = z+1:=⟨k - 1,by omega⟩
  have n1:=hN.nx;have n2:=hN.ny;have n5:=hN.slots;have n4:=hN.slot
  obtain ⟨p0,p1⟩:=iV (a:=s.nx) (b:=s.ny) (m:=12) (n:=12) (by omega) (by omega) (by omega) (by omega)
  obtain ⟨a0,a1⟩:=iV (a:=j) (b:=s.slot) (m:=16) (n:=1048576) (by omega) (by omega) (by omega) (by omega)
  obtain ⟨b0,b1⟩:=iV (a:=j+1) (b:=s.slot) (m:=17) (n:=1048576) (by omega) (by omega) (by omega) (by omega)
  rw [bF.l0,if_pos (by omega),jb (x:=j*s.slot) (by omega),jb (x:=j+1) (by omega),jb (x:=(j+1)*s.slot) (by omega),Io]
  have ih:=fun k l=>Nb s x layer t u hN hcu hl0 hl1 q (j+1) k l (by omega) (by omega)
  by_cases h1:j*s.slot ≥ u
  ·rw [if_pos h1,if_pos (Or.inl h1),bF.j1,if_pos rfl,jb (x:=j+1) (by omega),List.nil_append]
   exact ih k l (by omega)
  ·rw [if_neg h1]
   by_cases h2:(j+1)*s.slot≤t
   ·rw [decide_eq_true h2,if_pos (Or.inr h2),bF.j1,if_pos rfl,jb (x:=j+1) (by omega),List.nil_append]
    exact ih k l (by omega)
   ·rw [decide_eq_false h2,if_neg (by omega),bF.j1,if_neg (by decide),← List.append_assoc]
    obtain ⟨k2,e⟩:∃ z,k = (s.nx*s.ny).toNat+1+z:=⟨k - (s.nx*s.ny).toNat - 1,by omega⟩
    rw [e,Ir s x layer t u j hN hcu hl0 hl1 h0 (by omega) (s.nx*s.ny).toNat 0 k2 l (Int.le_refl _) (by omega)]
    exact ih k2 _ (by omega)
theorem ahs (s:oH) (x:jI) (layer t u:Int) (K:Nat) (hl:s.currents.length≤100000) (hk:s.currents.length+3≤K) (hk':2400≤K):
 df.f K s.nx s.ny s.cell s.slot s.slots s.layers s.most s.shores s.currents x.f0.f0 x.f0.f1 x.f1.f0 x.f1.f1 layer t u = some ((GX s x layer t u).f0.f0,(GX s x layer t u).f0.f1,(GX s x layer t u).f1.f0,(GX s x layer t u).f1.f1,Mv s x layer t u):=by
 obtain ⟨K,rfl⟩:∃ k,K = k+2:=⟨K - 2,by omega⟩
 unfold df.f
 rw [Pz s (K+2) hl hk,Option.bind_some,Option.bind_some,WS,Option.bind_some]
 have hno:∀ e:Int,e≠0→Mv s x layer t u = e→some (0,0,0,0,e) = some ((GX s x layer t u).f0.f0,(GX s x layer t u).f0.f1,(GX s x layer t u).f1.f0,(GX s x layer t u).f1.f1,Mv s x layer t u):=by
  intro e he h
  unfold GX
  rw [h,if_neg he];rfl
 by_cases h1:sH s = 0
 ·rw [if_pos h1]
  have hS:ZR s:=J2 (by unfold sH at h1;cases hb:Hm s with|true=>rfl|false=>rw [hb] at h1;cases h1)
  by_cases h2:K6 x = true
  ·rw [if_pos h2]
   have hbx:Bi x = 0:=by unfold Bi;rw [if_pos h2]
   have hx:=PD hbx
   have e0:Mv s x layer t u = if layer < 0∨layer ≥ s.layers then 3 else if t < 0∨t ≥ u then 2 else if (ib s x && nA s t u) = true then 0 else 5:=by
    unfold Mv
    rw [if_neg (by omega),if_neg (by omega)]
   have hj0:df.j0 (K+2) layer t u true s.nx s.ny s.cell s.slot s.slots s.layers s.most s.shores s.currents x.f0.f0 x.f0.f1 x.f1.f0 x.f1.f1 = some (0,0,0,0,3):=by rw [df.j0,if_pos rfl]
   rw [hj0]
   by_cases h3:layer < 0
   ·rw [if_pos h3]
    exact hno 3 (by decide) (by rw [e0,if_pos (Or.inl h3)])
   rw [if_neg h3]
   by_cases h4:layer ≥ s.layers
   ·rw [decide_eq_true h4,hj0]
    exact hno 3 (by decide) (by rw [e0,if_pos (Or.inr h4)])
   rw [decide_eq_false h4,df.j0,if_neg (by decide)]
   rw [if_neg (by omega)] at e0
   have hj1:df.j1 (K+1) layer t u true s.nx s.ny s.cell s.slot s.slots s.layers s.most s.shores s.currents x.f0.f0 x.f0.f1 x.f1.f0 x.f1.f1 = some (0,0,0,0,2):=by rw [df.j1,if_pos rfl]
   rw [hj1]
   by_cases h5:t < 0
   ·rw [if_pos h5]
    exact hno 2 (by decide) (by rw [e0,if_pos (Or.inl h5)])
   rw [if_neg h5]
   by_cases h6:t ≥ u
   ·rw [decide_eq_true h6,hj1]
    exact hno 2 (by decide) (by rw [e0,if_pos (Or.inr h6)])
   rw [decide_eq_false h6,df.j1,if_neg (by decide)]
   rw [if_neg (by omega)] at e0
   have n1:=hS.n.nx;have n2:=hS.n.ny;have n3:=hS.n.cell;have n4:=hS.n.slot;have n5:=hS.n.slots
   obtain ⟨a0,a1⟩:=iV (a:=s.nx) (b:=s.cell) (m:=12) (n:=65536) (by omega) (by omega) (by omega) (by omega)
   obtain ⟨b0,b1⟩:=iV (a:=s.ny) (b:=s.cell) (m:=12) (n:=65536) (by omega) (by omega) (by omega) (by omega)
   obtain ⟨d0,d1⟩:=iV (a:=s.slots) (b:=s.slot) (m:=16) (n:=1048576) (by omega) (by omega) (by omega) (by omega)
   have i1:jc.f s.nx s.ny s.cell s.slot s.slots s.layers s.most s.shores s.currents x.f0.f0 x.f0.f1 x.f1.f0 x.f1.f1 = some (ib s x):=by
    unfold jc.f ib
    rw [jb (x:=s.nx*s.cell) (by omega),jb (x:=s.ny*s.cell) (by omega)]
    by_cases g1:0≤x.f0.f0 <;> by_cases g2:x.f0.f1≤s.nx*s.cell <;> by_cases g3:0≤x.f1.f0 <;> simp [g1,g2,g3]
   have i2:iK.f s.nx s.ny s.cell s.slot s.slots s.layers s.most s.shores s.currents t u = some (nA s t u):=by
    unfold iK.f nA
    rw [jb (x:=s.slots*s.slot) (by omega)]
    by_cases g1:0≤t <;> simp [g1]
   rw [i1,Option.bind_some,i2,Option.bind_some]
   by_cases h7:ib s x = true
   ·rw [if_pos h7]
    by_cases h8:nA s t u = true
    ·rw [if_pos h8]
     rw [h7,h8,if_pos (by decide)] at e0
     have hku:=h8
     unfold nA at hku
     simp only [Bool.and_eq_true,decide_eq_true_eq] at hku
     have hv:GX s x layer t u = Mc s x layer t u:=by unfold GX;rw [if_pos e0]
     rw [hv,e0,← YJ hS.n hx.2.1 hx.2.2 h7 hku.1 (by omega) hku.2]
     unfold bF.f
     have:=Nb s x layer t u hS.n hS.cu (by omega) (by omega) s.slots.toNat 0 K [] (Int.le_refl _) (by omega) (by omega)
     refine Eq.trans (congrArg (fun o=>Option.bind o _) this) ?_
     rw [Option.bind_some,List.nil_append]
    ·rw [if_neg h8]
     rw [show (nA s t u) = false from by simpa using h8,Bool.and_false,if_neg (by decide)] at e0
     exact hno 5 (by decide) e0
   ·rw [if_neg h7]
    rw [show (ib s x) = false from by simpa using h7,Bool.false_and,if_neg (by decide)] at e0
    exact hno 5 (by decide) e0
  ·rw [if_neg h2]
   refine hno 2 (by decide) ?_
   unfold Mv Bi
   rw [if_neg (by omega),if_pos (by rw [if_neg h2];decide)]
 ·rw [if_neg h1]
  refine hno _ h1 ?_
  unfold Mv
  rw [if_pos h1]
end Go.Proofs.Ytmhaiihjfgfaoaa.Gl
end
section
namespace Go.Proofs.Ytmhaiihjfgfaoaa.Pure
open Go.RowKit Go.Proofs.YtmhaiihjfgfaoaaW.PrintWords Go.Proofs.YtmhaiihjfgfaoaaW.PrintLast Go.Proofs.Ytmhaiihjfgfaoaa.Pr Go.Proofs.Ytmhaiihjfgfaoaa.Good Go.Proofs.Ytmhaiihjfgfaoaa.Gl
namespace Seas
theorem works {k:Nat} (h:60≤k):bE.f k = some true:=yZ bE.mono h bE.Zt
end Seas
open Seas in
theorem GliderSeas:∀ (x0:S25) (x1:S29) (x2:jI) (x3:Int) (x4:Int) (x5:Int),W25 x0→W29 x1→W31 x2→(Lit.int .i64 x3).wf = true→(Lit.int .i64 x4).wf = true→(Lit.int .i64 x5).wf = true→∃ k,eX.f k (x0.f0) (x0.f1) (x0.f2) (x0.f3) (x0.f4) (x0.f5) (x0.f6) (x0.f7) (x0.f8) (x1.f0) (x1.f1) (x1.f2.f0) (x1.f2.f1) (x1.f3.f0) (x1.f3.f1) (x1.f4) (x2.f0.f0) (x2.f0.f1) (x2.f1.f0) (x2.f1.f1) x3 x4 x5 = some true:=by
 intro x0 x1 x2 x3 x4 x5 g0 g1 g2 g3 g4 g5
 let s:oH:=⟨x0.f0,x0.f1,x0.f2,x0.f3,x0.f4,x0.f5,x0.f6,x0.f7,x0.f8⟩
 let v:wW:=⟨x1.f0,x1.f1,⟨x1.f2.f0,x1.f2.f1⟩,⟨x1.f3.f0,x1.f3.f1⟩,x1.f4⟩
 refine ⟨3100,?_⟩
 unfold eX.f
 refine Eq.trans (congrArg (fun o=>Option.bind o _) (Nc s)) ?_
 rw [Option.bind_some]
 by_cases h1:(s.shores.length:Int) > 200
 ·rw [decide_eq_true h1,Bool.true_or,if_pos rfl,works (by omega)];rfl
 by_cases h2:(s.currents.length:Int) > 3000
 ·rw [decide_eq_true h2,Bool.or_true,if_pos rfl,works (by omega)];rfl
 rw [decide_eq_false h1,decide_eq_false h2,if_neg (by decide)]
 unfold sj.f jJ.f
 rw [Option.bind_some]
 refine Eq.trans (congrArg (fun o=>Option.bind o _) (ahs s x2 x3 x4 x5 3100 (by omega) (by omega) (by omega))) ?_
 rw [Option.bind_some,Option.bind_some]
 refine Eq.trans (congrArg (fun o=>Option.bind o _) (Pz s 3100 (by omega) (by omega))) ?_
 rw [Option.bind_some,if_pos rfl]
 refine Eq.trans (congrArg (fun o=>Option.bind o _) (yZ (cZ.mono _ _ _ _ _ _ _) (show 4≤3100 by omega) (QX v))) ?_
 rw [Option.bind_some]
 refine Eq.trans (congrArg (fun o=>Option.bind o _) (WT v)) ?_
 rw [Option.bind_some,if_pos rfl]
 refine Eq.trans (if_pos (by simp only [Bool.and_eq_true,beq_iff_eq];exact ⟨⟨rfl,rfl⟩,rfl,rfl⟩)) ?_
 refine Eq.trans (if_pos rfl) ?_
 rw [works (by omega)];rfl
end Go.Proofs.Ytmhaiihjfgfaoaa.Pure
end
