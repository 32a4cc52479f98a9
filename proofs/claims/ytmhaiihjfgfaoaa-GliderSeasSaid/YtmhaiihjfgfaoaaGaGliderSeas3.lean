import Derived.Test.YtmhaiihjfgfaoaaGaa1
import Derived.Test.YtmhaiihjfgfaoaaGaa2
import Derived.Test.YtmhaiihjfgfaoaaGaa3
import Derived.Test.YtmhaiihjfgfaoaaGaGliderSeas1
import Derived.Test.YtmhaiihjfgfaoaaGaGliderSeas2
section
namespace Go.Proofs.Ytmhaiihjfgfaoaa.Pr
open Go.RowKit Go.Proofs.YtmhaiihjfgfaoaaW.PrintWords Go.Proofs.YtmhaiihjfgfaoaaW.PrintLast Go.Proofs.YtmhaiihjfgfaoaaW.PrintMore
attribute [local go_sem] fo fq gu gz fu
set_option linter.unusedVariables false
set_option linter.unusedSimpArgs false
mutual
def df.j0:Nat→Int→Int→Int→Bool→Int→Int→Int→Int→Int→Int→Int→List Bool→List (mQ)→Int→Int→Int→Int→Option (Int × Int × Int × Int × Int)
 |0,_,_,_,_,_,_,_,_,_,_,_,_,_,_,_,_,_=>none
 |k+1,x2,x3,x4,x29,Cq,Cr,Cs,Ct,Cu,Cv,Cw,Cx,Cy,E5,E8,E9,Fa=>if x29 = true then (some (0,0,0,0,3)) else (if x3 < 0 then (df.j1 k x2 x3 x4 true Cq Cr Cs Ct Cu Cv Cw Cx Cy E5 E8 E9 Fa) else (df.j1 k x2 x3 x4 (decide (x3 ≥ x4)) Cq Cr Cs Ct Cu Cv Cw Cx Cy E5 E8 E9 Fa))
def df.j1:Nat→Int→Int→Int→Bool→Int→Int→Int→Int→Int→Int→Int→List Bool→List (mQ)→Int→Int→Int→Int→Option (Int × Int × Int × Int × Int)
 |0,_,_,_,_,_,_,_,_,_,_,_,_,_,_,_,_,_=>none
 |k+1,x2,x3,x4,x37,Cq,Cr,Cs,Ct,Cu,Cv,Cw,Cx,Cy,E5,E8,E9,Fa=>if x37 = true then (some (0,0,0,0,2)) else ((jc.f Cq Cr Cs Ct Cu Cv Cw Cx Cy E5 E8 E9 Fa).bind fun Yy=>(if Yy = true then ((iK.f Cq Cr Cs Ct Cu Cv Cw Cx Cy x3 x4).bind fun Ms=>(if Ms = true then ((bF.f k Cq Cr Cs Ct Cu Cv Cw Cx Cy E5 E8 E9 Fa x2 x3 x4).bind fun nX=>(some (nX.1,nX.2.1,nX.2.2.1,nX.2.2.2,0))) else (some (0,0,0,0,5)))) else (some (0,0,0,0,5))))
end
def df.f (k:Nat) (aC:Int) (aD:Int) (aG:Int) (aH:Int) (aN:Int) (aK:Int) (aJ:Int) (aX:List Bool) (aM:List (mQ)) (bz:Int) (bA:Int) (bI:Int) (bJ:Int) (a2:Int) (a3:Int) (a4:Int):Option (Int × Int × Int × Int × Int):=(aI.f k aC aD aG aH aN aK aJ aX aM).bind fun Ih=>(if Ih = 0 then ((dW.f bz bA bI bJ).bind fun QS=>(if QS = true then (if a2 < 0 then (df.j0 k a2 a3 a4 true aC aD aG aH aN aK aJ aX aM bz bA bI bJ) else (df.j0 k a2 a3 a4 (decide (a2 ≥ aK)) aC aD aG aH aN aK aJ aX aM bz bA bI bJ)) else (some (0,0,0,0,2)))) else ((aI.f k aC aD aG aH aN aK aJ aX aM).bind fun QT=>(some (0,0,0,0,QT))))
set_option maxHeartbeats 8000000 in
set_option maxRecDepth 100000 in
theorem df.calls (k:Nat) (aC:Int) (aD:Int) (aG:Int) (aH:Int) (aN:Int) (aK:Int) (aJ:Int) (bG:Option Addr) (bH:Nat) (aX:List Bool) (bO:Option Addr) (bM:Nat) (aM:List (mQ)) (bz:Int) (bA:Int) (bI:Int) (bJ:Int) (a2:Int) (a3:Int) (a4:Int) (r1:Int) (r2:Int) (r3:Int) (r4:Int) (r5:Int) (w:World) (lV:Kd.C Kd.bool w bG aX.length aX) (lW:aX.length≤bH) (lX:Kd.C xK w bO aM.length aM) (lY:aM.length≤bM) (h:df.f k aC aD aG aH aN aK aJ aX aM bz bA bI bJ a2 a3 a4 = some (r1,r2,r3,r4,r5)):
 Calls Try.prog 24 #[.agg #[.int .i64 aC,.int .i64 aD,.int .i64 aG,.int .i64 aH,.int .i64 aN,.int .i64 aK,.int .i64 aJ,.slice bG aX.length bH,.slice bO aM.length bM],.agg #[.int .i64 bz,.int .i64 bA,.int .i64 bI,.int .i64 bJ],.int .i64 a2,.int .i64 a3,.int .i64 a4] w fun e w'=>e = .returned (.tuple #[.agg #[.int .i64 r1,.int .i64 r2,.int .i64 r3,.int .i64 r4],.int .i64 r5])∧Below w.heap.size w w':=by
 have Dx:=Try.underlying25
 have vT:=Try.underlying31
 have Yt:=Try.underlying40
 have jR:=aj.mk lV
 have jS:=aj.mk lW
 clear lV lW
 have jm:=aj.mk lX
 have kg:=aj.mk lY
 clear lX lY
 have HB:=aj.mk (Below.refl w.heap.size w)
 have H:((aI.f k aC aD aG aH aN aK aJ aX aM).bind fun Ih=>(if Ih = 0 then ((dW.f bz bA bI bJ).bind fun QS=>(if QS = true then (if a2 < 0 then (df.j0 k a2 a3 a4 true aC aD aG aH aN aK aJ aX aM bz bA bI bJ) else (df.j0 k a2 a3 a4 (decide (a2 ≥ aK)) aC aD aG aH aN aK aJ aX aM bz bA bI bJ)) else (some (0,0,0,0,2)))) else ((aI.f k aC aD aG aH aN aK aJ aX aM).bind fun QT=>(some (0,0,0,0,QT))))) = some (r1,r2,r3,r4,r5):=h
 clear h
 replace H:=Option.bind_eq_some_iff.mp H
 obtain ⟨Ih,VN,H⟩:=H
 replace H:(if Ih = 0 then ((dW.f bz bA bI bJ).bind fun QS=>(if QS = true then (if a2 < 0 then (df.j0 k a2 a3 a4 true aC aD aG aH aN aK aJ aX aM bz bA bI bJ) else (df.j0 k a2 a3 a4 (decide (a2 ≥ aK)) aC aD aG aH aN aK aJ aX aM bz bA bI bJ)) else (some (0,0,0,0,2)))) else ((aI.f k aC aD aG aH aN aK aJ aX aM).bind fun QT=>(some (0,0,0,0,QT)))) = some (r1,r2,r3,r4,r5):=H
 have A6:=aj.mk VN
 clear VN
 by_cases c7:Ih = 0
 ·rw [if_pos c7] at H
  have ZL:(Ih == 0) = true:=beq_iff_eq.mpr c7
  have ahn:(Ih != 0) = false:=bne_eq_false_iff_eq.mpr c7
  clear c7
  replace H:=Option.bind_eq_some_iff.mp H
  obtain ⟨QS,A80,H⟩:=H
  replace H:(if QS = true then (if a2 < 0 then (df.j0 k a2 a3 a4 true aC aD aG aH aN aK aJ aX aM bz bA bI bJ) else (df.j0 k a2 a3 a4 (decide (a2 ≥ aK)) aC aD aG aH aN aK aJ aX aM bz bA bI bJ)) else (some (0,0,0,0,2))) = some (r1,r2,r3,r4,r5):=H
  have A8:=aj.mk A80
  clear A80
  by_cases c9:QS = true
  ·subst c9
   have H1:(if a2 < 0 then (df.j0 k a2 a3 a4 true aC aD aG aH aN aK aJ aX aM bz bA bI bJ) else (df.j0 k a2 a3 a4 (decide (a2 ≥ aK)) aC aD aG aH aN aK aJ aX aM bz bA bI bJ)) = some (r1,r2,r3,r4,r5):=by rw [if_pos rfl] at H;exact H
   clear H
   have H:=H1
   clear H1
   have aho:=aj.mk H
   clear H
   go_enter Try.func24,Try.ntmps24
   go_upto_region 5 with (first|((with_reducible refine bu (N:=5) rfl ?_);refine aY ?hg (N:=5) ?hd (cs:=#[.int .i64 aC,.int .i64 aD,.int .i64 aG,.int .i64 aH,.int .i64 aN,.int .i64 aK,.int .i64 aJ,.slice bG aX.length bH,.slice bO aM.length bM]) (t:=25) ?hr ?_;(case hd=>rfl);(case hg=>rfl);(case hr=>first|(go_simp;done)|(go_simp;rfl));intro dA hg Md hbox hb;have bB:=aj.mk (ay (by repeat (first|(with_reducible first|exact HB.out|apply au|apply ah|apply av)|exact HB.out)) hb);have bC:=aj.mk (hbox);have bK:=aj.mk ((by rw [hg];exact (aA (by repeat (first|(with_reducible first|exact HB.out|apply au|apply ah|apply av)|exact HB.out))):w.heap.size≤dA));have bP:=aj.mk ((by rw [hg];exact (aA (by repeat (first|(with_reducible first|exact HB.out|apply au|apply ah|apply av)|exact HB.out))):w.heap.size≤dA));clear HB;have HB:=bB;have bL:=bC;have agp:=bK;have jZ:=bP;clear bB bC bK bP;clear hb hbox hg)|((with_reducible refine bu (N:=6) rfl ?_);refine aY ?hg (N:=6) ?hd (cs:=#[.int .i64 bz,.int .i64 bA,.int .i64 bI,.int .i64 bJ]) (t:=31) ?hr ?_;(case hd=>rfl);(case hg=>rfl);(case hr=>first|(go_simp;done)|(go_simp;rfl));intro iy hg qB hbox hb;have bB:=aj.mk (ax (g:=dA) (o:=.cells #[.int .i64 aC,.int .i64 aD,.int .i64 aG,.int .i64 aH,.int .i64 aN,.int .i64 aK,.int .i64 aJ,.slice bG aX.length bH,.slice bO aM.length bM] 25 (0,0)) (by (with_reducible repeat (first|refine ag ?_ _|refine ai ?_|refine af ?_ _));exact bL.out) hb);have bC:=aj.mk (ay (by repeat (first|(with_reducible first|exact HB.out|apply au|apply ah|apply av|refine ak ?_ jZ.out)|exact HB.out)) hb);have bK:=aj.mk (hbox);have bP:=aj.mk ((by rw [hg];exact (aA (by repeat (first|(with_reducible first|exact HB.out|apply au|apply ah|apply av|refine ak ?_ jZ.out)|exact HB.out))):w.heap.size≤iy));have dX:=aj.mk ((by rw [hg];exact (aA (by repeat (first|(with_reducible first|exact HB.out|apply au|apply ah|apply av|refine ak ?_ jZ.out)|exact HB.out))):w.heap.size≤iy));have fB:=aj.mk ((by rw [hg];exact Nat.ne_of_lt (aU (g:=dA) (o:=.cells #[.int .i64 aC,.int .i64 aD,.int .i64 aG,.int .i64 aH,.int .i64 aN,.int .i64 aK,.int .i64 aJ,.slice bG aX.length bH,.slice bO aM.length bM] 25 (0,0)) (by (with_reducible repeat (first|refine ag ?_ _|refine ai ?_|refine af ?_ _));exact bL.out)):dA≠iy));have gD:=aj.mk ((by rw [hg];exact Nat.ne_of_gt (aU (g:=dA) (o:=.cells #[.int .i64 aC,.int .i64 aD,.int .i64 aG,.int .i64 aH,.int .i64 aN,.int .i64 aK,.int .i64 aJ,.slice bG aX.length bH,.slice bO aM.length bM] 25 (0,0)) (by (with_reducible repeat (first|refine ag ?_ _|refine ai ?_|refine af ?_ _));exact bL.out)):iy≠dA));clear bL;clear HB;have bL:=bB;have HB:=bC;have eP:=bK;have agq:=bP;have mE:=dX;have qV:=fB;have qW:=gD;clear bB bC bK bP dX fB gD;clear hb hbox hg)|((with_reducible refine bu (N:=10) rfl ?_);refine aY ?hg (N:=10) ?hd (cs:=#[.int .i64 0,.int .i64 0,.int .i64 0,.int .i64 0]) (t:=40) ?hr ?_;(case hd=>rfl);(case hg=>rfl);(case hr=>first|(go_simp;done)|(go_simp;rfl));intro iq hg D9 hbox hb;have bB:=aj.mk (ax (g:=dA) (o:=.cells #[.int .i64 aC,.int .i64 aD,.int .i64 aG,.int .i64 aH,.int .i64 aN,.int .i64 aK,.int .i64 aJ,.slice bG aX.length bH,.slice bO aM.length bM] 25 (0,0)) (by (with_reducible repeat (first|refine ag ?_ _|refine ai ?_|refine af ?_ _));exact bL.out) hb);have bC:=aj.mk (ax (g:=iy) (o:=.cells #[.int .i64 bz,.int .i64 bA,.int .i64 bI,.int .i64 bJ] 31 (0,0)) (by (with_reducible repeat (first|refine ag ?_ _|refine ai ?_|refine af ?_ _));exact eP.out) hb);have bK:=aj.mk (ay (by repeat (first|(with_reducible first|exact HB.out|apply au|apply ah|apply av|refine ak ?_ jZ.out|refine ak ?_ mE.out)|exact HB.out)) hb);have bP:=aj.mk (hbox);have dX:=aj.mk ((by rw [hg];exact (aA (by repeat (first|(with_reducible first|exact HB.out|apply au|apply ah|apply av|refine ak ?_ jZ.out|refine ak ?_ mE.out)|exact HB.out))):w.heap.size≤iq));have fB:=aj.mk ((by rw [hg];exact (aA (by repeat (first|(with_reducible first|exact HB.out|apply au|apply ah|apply av|refine ak ?_ jZ.out|refine ak ?_ mE.out)|exact HB.out))):w.heap.size≤iq));have gD:=aj.mk ((by rw [hg];exact Nat.ne_of_lt (aU (g:=dA) (o:=.cells #[.int .i64 aC,.int .i64 aD,.int .i64 aG,.int .i64 aH,.int .i64 aN,.int .i64 aK,.int .i64 aJ,.slice bG aX.length bH,.slice bO aM.length bM] 25 (0,0)) (by (with_reducible repeat (first|refine ag ?_ _|refine ai ?_|refine af ?_ _));exact bL.out)):dA≠iq));have jK:=aj.mk ((by rw [hg];exact Nat.ne_of_gt (aU (g:=dA) (o:=.cells #[.int .i64 aC,.int .i64 aD,.int .i64 aG,.int .i64 aH,.int .i64 aN,.int .i64 aK,.int .i64 aJ,.slice bG aX.length bH,.slice bO aM.length bM] 25 (0,0)) (by (with_reducible repeat (first|refine ag ?_ _|refine ai ?_|refine af ?_ _));exact bL.out)):iq≠dA));have jL:=aj.mk ((by rw [hg];exact Nat.ne_of_lt (aU (g:=iy) (o:=.cells #[.int .i64 bz,.int .i64 bA,.int .i64 bI,.int .i64 bJ] 31 (0,0)) (by (with_reducible repeat (first|refine ag ?_ _|refine ai ?_|refine af ?_ _));exact eP.out)):iy≠iq));have kL:=aj.mk ((by rw [hg];exact Nat.ne_of_gt (aU (g:=iy) (o:=.cells #[.int .i64 bz,.int .i64 bA,.int .i64 bI,.int .i64 bJ] 31 (0,0)) (by (with_reducible repeat (first|refine ag ?_ _|refine ai ?_|refine af ?_ _));exact eP.out)):iq≠iy));clear bL;clear eP;clear HB;have bL:=bB;have eP:=bC;have HB:=bK;have eQ:=bP;have agr:=dX;have p9:=fB;have o8:=gD;have o9:=jK;have qb:=jL;have qc:=kL;clear bB bC bK bP dX fB gD jK jL kL;clear hb hbox hg;have ZF:=qV.out;have ZG:=qW.out;have aDv:=o8.out;have aDw:=o9.out;have Cz:D9.cell? ⟨dA,0,none⟩ = some (.int .i64 aC):=(aa bL.out 0).trans rfl;have CB:D9.cell? ⟨dA,1,none⟩ = some (.int .i64 aD):=(aa bL.out 1).trans rfl;have OZ:D9.cell? ⟨dA,2,none⟩ = some (.int .i64 aG):=(aa bL.out 2).trans rfl;have O0:D9.cell? ⟨dA,3,none⟩ = some (.int .i64 aH):=(aa bL.out 3).trans rfl;have VO:D9.cell? ⟨dA,4,none⟩ = some (.int .i64 aN):=(aa bL.out 4).trans rfl;have VP:D9.cell? ⟨dA,5,none⟩ = some (.int .i64 aK):=(aa bL.out 5).trans rfl;have VQ:D9.cell? ⟨dA,6,none⟩ = some (.int .i64 aJ):=(aa bL.out 6).trans rfl;have VR:D9.cell? ⟨dA,7,none⟩ = some (.slice bG aX.length bH):=(aa bL.out 7).trans rfl;have VS:D9.cell? ⟨dA,8,none⟩ = some (.slice bO aM.length bM):=(aa bL.out 8).trans rfl;have CE:=ae bL.out 0;have CF:=ae bL.out 1;have O1:=ae bL.out 2;have O3:=ae bL.out 3;have VT:=ae bL.out 4;have VU:=ae bL.out 5;have VV:=ae bL.out 6;have VW:=ae bL.out 7;have VX:=ae bL.out 8)|((with_reducible refine bT (f:=26) rfl ?_);refine fM (some 13) rfl rfl Try.func26 (by kernel_rfl) rfl #[.agg #[.int .i64 aC,.int .i64 aD,.int .i64 aG,.int .i64 aH,.int .i64 aN,.int .i64 aK,.int .i64 aJ,.slice bG aX.length bH,.slice bO aM.length bM]] rfl (by (try simp only [List.map_toArray,List.map_cons,List.map_nil]);first|done|rfl|(simp only [List.length_drop,List.length_take];rfl)) ?_;(with_reducible refine (aI.calls k aC aD aG aH aN aK aJ _ _ aX _ _ aM Ih _ ?gm ?gp ?gQ ?gT A6.out).mono ?_);(case gm=>repeat (first|exact (Kd.dF jR.out HB.out)|(with_reducible refine Kd.dO ?_ _)|(with_reducible refine Kd.dP ?_ _)|(with_reducible refine Kd.eO ?_)));(case gp=>exact jS.out);(case gQ=>repeat (first|exact (Kd.dF jm.out HB.out)|(with_reducible refine Kd.dO ?_ _)|(with_reducible refine Kd.dP ?_ _)|(with_reducible refine Kd.eO ?_)));(case gT=>exact kg.out);rintro e zK ⟨rfl,hb⟩;refine ⟨_,rfl,?_⟩;have bB:=aj.mk (ax (g:=dA) (o:=.cells #[.int .i64 aC,.int .i64 aD,.int .i64 aG,.int .i64 aH,.int .i64 aN,.int .i64 aK,.int .i64 aJ,.slice bG aX.length bH,.slice bO aM.length bM] 25 (0,0)) (by (with_reducible repeat (first|refine ag ?_ _|refine ai ?_|refine af ?_ _));exact bL.out) hb);have bC:=aj.mk (ax (g:=iy) (o:=.cells #[.int .i64 bz,.int .i64 bA,.int .i64 bI,.int .i64 bJ] 31 (0,0)) (by (with_reducible repeat (first|refine ag ?_ _|refine ai ?_|refine af ?_ _));exact eP.out) hb);have bK:=aj.mk (ax (g:=iq) (o:=.cells #[.int .i64 0,.int .i64 0,.int .i64 0,.int .i64 0] 40 (0,0)) (by (with_reducible repeat (first|refine ag ?_ _|refine ai ?_|refine af ?_ _));exact eQ.out) hb);have bP:=aj.mk (ay (by repeat (first|(with_reducible first|exact HB.out|apply au|apply ah|apply av|refine ak ?_ jZ.out|refine ak ?_ mE.out|refine ak ?_ p9.out)|exact HB.out)) hb);clear bL;clear eP;clear eQ;clear HB;have bL:=bB;have eP:=bC;have eQ:=bK;have HB:=bP;clear bB bC bK bP;(try clear hb);(try clear hb2);(try clear hk);(try clear hi);have Zc:=qb.out;have Zd:=qc.out;have sJ:zK.cell? ⟨iy,0,none⟩ = some (.int .i64 bz):=(aa eP.out 0).trans rfl;have sK:zK.cell? ⟨iy,1,none⟩ = some (.int .i64 bA):=(aa eP.out 1).trans rfl;have uJ:zK.cell? ⟨iy,2,none⟩ = some (.int .i64 bI):=(aa eP.out 2).trans rfl;have uK:zK.cell? ⟨iy,3,none⟩ = some (.int .i64 bJ):=(aa eP.out 3).trans rfl;have sM:=ae eP.out 0;have sN:=ae eP.out 1;have uL:=ae eP.out 2;have uM:=ae eP.out 3)|((with_reducible refine bT (f:=63) rfl ?_);refine fM (some 19) rfl rfl Try.func63 (by kernel_rfl) rfl #[.agg #[.int .i64 bz,.int .i64 bA,.int .i64 bI,.int .i64 bJ]] rfl (by (try simp only [List.map_toArray,List.map_cons,List.map_nil]);first|done|rfl|(simp only [List.length_drop,List.length_take];rfl)) ?_;(with_reducible refine (dW.calls bz bA bI bJ true _ A8.out).mono ?_);rintro e rO ⟨rfl,hb⟩;refine ⟨_,rfl,?_⟩;have bB:=aj.mk (ax (g:=dA) (o:=.cells #[.int .i64 aC,.int .i64 aD,.int .i64 aG,.int .i64 aH,.int .i64 aN,.int .i64 aK,.int .i64 aJ,.slice bG aX.length bH,.slice bO aM.length bM] 25 (0,0)) (by (with_reducible repeat (first|refine ag ?_ _|refine ai ?_|refine af ?_ _));exact bL.out) hb);have bC:=aj.mk (ax (g:=iy) (o:=.cells #[.int .i64 bz,.int .i64 bA,.int .i64 bI,.int .i64 bJ] 31 (0,0)) (by (with_reducible repeat (first|refine ag ?_ _|refine ai ?_|refine af ?_ _));exact eP.out) hb);have bK:=aj.mk (ax (g:=iq) (o:=.cells #[.int .i64 0,.int .i64 0,.int .i64 0,.int .i64 0] 40 (0,0)) (by (with_reducible repeat (first|refine ag ?_ _|refine ai ?_|refine af ?_ _));exact eQ.out) hb);have bP:=aj.mk (ay (by repeat (first|(with_reducible first|exact HB.out|apply au|apply ah|apply av|refine ak ?_ jZ.out|refine ak ?_ mE.out|refine ak ?_ p9.out)|exact HB.out)) hb);clear bL;clear eP;clear eQ;clear HB;have bL:=bB;have eP:=bC;have eQ:=bK;have HB:=bP;clear bB bC bK bP;(try clear hb);(try clear hb2);(try clear hk);(try clear hi)))
   (try simp only [Act.put,List.setIfInBounds_toArray,List.set_cons_zero,List.set_cons_succ])
   go_cut [29] (fun v29 wc=>∃ (kq:Nat) (VY:Bool),v29 = .bool VY∧aj (df.j0 kq a2 a3 a4 VY aC aD aG aH aN aK aJ aX aM bz bA bI bJ = some (r1,r2,r3,r4,r5))∧aj (kq≤k)∧aj (wc.heap[dA]? = some (.cells #[.int .i64 aC,.int .i64 aD,.int .i64 aG,.int .i64 aH,.int .i64 aN,.int .i64 aK,.int .i64 aJ,(.slice bG aX.length bH),(.slice bO aM.length bM)] 25 (0,0)))∧aj (wc.heap[iy]? = some (.cells #[.int .i64 bz,.int .i64 bA,.int .i64 bI,.int .i64 bJ] 31 (0,0)))∧aj (wc.heap[iq]? = some (.cells #[.int .i64 0,.int .i64 0,.int .i64 0,.int .i64 0] 40 (0,0)))∧aj (Below w.heap.size w wc))
   case first =>
    have H:=aho.out
    clear aho
    by_cases c21:a2 < 0
    ·rw [if_pos c21] at H
     have Le:decide (a2 < 0) = true:=decide_eq_true c21
     clear c21
     (first|rw [Le]|(simp only [aZ,bf];rw [Le])|skip)
     have H':=aj.mk H
     clear H
     go_wp2
     go_meet
     case rel=>exact ⟨_,(true),(by first|rfl|(simp;done)|(simp [*];done)),H',⟨by first|omega|exact Nat.le_refl _⟩,⟨by (with_reducible repeat (first|refine ag ?_ _|refine ai ?_|refine af ?_ _));exact bL.out⟩,⟨by (with_reducible repeat (first|refine ag ?_ _|refine ai ?_|refine af ?_ _));exact eP.out⟩,⟨by (with_reducible repeat (first|refine ag ?_ _|refine ai ?_|refine af ?_ _));exact eQ.out⟩,⟨by repeat (first|(with_reducible first|exact HB.out|apply au|apply ah|apply av|refine ak ?_ jZ.out|refine ak ?_ mE.out|refine ak ?_ p9.out)|exact HB.out)⟩⟩
    ·rw [if_neg c21] at H
     have Le:decide (a2 < 0) = false:=decide_eq_false c21
     clear c21
     (first|rw [Le]|(simp only [aZ,bf];rw [Le])|skip)
     have H':=aj.mk H
     clear H
     have agk:=qV.out
     have agl:=qW.out
     have Uk:=o8.out
     have Ul:=o9.out
     have sO:rO.cell? ⟨dA,0,none⟩ = some (.int .i64 aC):=(aa bL.out 0).trans rfl
     have sP:rO.cell? ⟨dA,1,none⟩ = some (.int .i64 aD):=(aa bL.out 1).trans rfl
     have uN:rO.cell? ⟨dA,2,none⟩ = some (.int .i64 aG):=(aa bL.out 2).trans rfl
     have uO:rO.cell? ⟨dA,3,none⟩ = some (.int .i64 aH):=(aa bL.out 3).trans rfl
     have Ci:rO.cell? ⟨dA,4,none⟩ = some (.int .i64 aN):=(aa bL.out 4).trans rfl
     have Cj:rO.cell? ⟨dA,5,none⟩ = some (.int .i64 aK):=(aa bL.out 5).trans rfl
     have Ck:rO.cell? ⟨dA,6,none⟩ = some (.int .i64 aJ):=(aa bL.out 6).trans rfl
     have EW:rO.cell? ⟨dA,7,none⟩ = some (.slice bG aX.length bH):=(aa bL.out 7).trans rfl
     have EX:rO.cell? ⟨dA,8,none⟩ = some (.slice bO aM.length bM):=(aa bL.out 8).trans rfl
     have sQ:=ae bL.out 0
     have sS:=ae bL.out 1
     have uP:=ae bL.out 2
     have uQ:=ae bL.out 3
     have Cm:=ae bL.out 4
     have Cn:=ae bL.out 5
     have Co:=ae bL.out 6
     have EY:=ae bL.out 7
     have EZ:=ae bL.out 8
     go_wp2
     go_meet
     case rel=>exact ⟨_,(decide (a2 ≥ aK)),(by first|rfl|(simp;done)|(simp [*];done)),H',⟨by first|omega|exact Nat.le_refl _⟩,⟨by (with_reducible repeat (first|refine ag ?_ _|refine ai ?_|refine af ?_ _));exact bL.out⟩,⟨by (with_reducible repeat (first|refine ag ?_ _|refine ai ?_|refine af ?_ _));exact eP.out⟩,⟨by (with_reducible repeat (first|refine ag ?_ _|refine ai ?_|refine af ?_ _));exact eQ.out⟩,⟨by repeat (first|(with_reducible first|exact HB.out|apply au|apply ah|apply av|refine ak ?_ jZ.out|refine ak ?_ mE.out|refine ak ?_ p9.out)|exact HB.out)⟩⟩
   case rest =>
    clear aho
    try clear c1
    try clear c2
    try clear p2
    try clear c6
    try clear c7
    try clear ZL
    try clear ahn
    try clear c9
    try clear c14
    try clear c15
    try clear c18
    try clear c21
    try clear Le
    try clear Mk
    try clear c23
    try clear c24
    try clear Cz
    try clear CB
    try clear OZ
    try clear O0
    try clear VO
    try clear VP
    try clear VQ
    try clear VR
    try clear VS
    try clear sJ
    try clear sK
    try clear uJ
    try clear uK
    try clear sO
    try clear sP
    try clear uN
    try clear uO
    try clear Ci
    try clear Cj
    try clear Ck
    try clear EW
    try clear EX
    try clear CE
    try clear CF
    try clear O1
    try clear O3
    try clear VT
    try clear VU
    try clear VV
    try clear VW
    try clear VX
    try clear sM
    try clear sN
    try clear uL
    try clear uM
    try clear sQ
    try clear sS
    try clear uP
    try clear uQ
    try clear Cm
    try clear Cn
    try clear Co
    try clear EY
    try clear EZ
    obtain ⟨kq,VY,rfl,HA,HJ9,bL,eP,eQ,HB⟩:=hcut
    cases kq with
    |zero=>exact absurd HA.out (by simp [df.j0])
    |succ kj9 =>
     have H:=HA.out
     clear HA
     simp only [df.j0] at H
     by_cases IZ:VY = true
     ·subst IZ
      have H1:(some (0,0,0,0,3)) = some (r1,r2,r3,r4,r5):=by rw [if_pos rfl] at H;exact H
      clear H
      have H:=H1
      clear H1
      simp only [Option.some.injEq,Prod.mk.injEq] at H
      obtain ⟨rfl,rfl,rfl,rfl,rfl⟩:=H
      have ai6:=o9.out
      have ai7:=o8.out
      have aDy:=qc.out
      have aDz:=qb.out
      have O4:wc.cell? ⟨iq,0,none⟩ = some (.int .i64 0):=(aa eQ.out 0).trans rfl
      have O5:wc.cell? ⟨iq,1,none⟩ = some (.int .i64 0):=(aa eQ.out 1).trans rfl
      have O6:wc.cell? ⟨iq,2,none⟩ = some (.int .i64 0):=(aa eQ.out 2).trans rfl
      have O7:wc.cell? ⟨iq,3,none⟩ = some (.int .i64 0):=(aa eQ.out 3).trans rfl
      have O8:=ae eQ.out 0
      have O9:=ae eQ.out 1
      have Pb:=ae eQ.out 2
      have Pf:=ae eQ.out 3
      go_wp2
      refine bodyPost_ret (iw rfl _ _ iq 40 #[.int .i64 0,.int .i64 0,.int .i64 0,.int .i64 0] (0,0) _ rfl (by (with_reducible repeat (first|refine ag ?_ _|refine ai ?_|refine af ?_ _));refine aW (cs:=#[.int .i64 0,.int .i64 0,.int .i64 0,.int .i64 0]) ?_ 3 _ rfl;(with_reducible repeat (first|refine ag ?_ _|refine ai ?_|refine af ?_ _));refine aW (cs:=#[.int .i64 0,.int .i64 0,.int .i64 0,.int .i64 0]) ?_ 2 _ rfl;(with_reducible repeat (first|refine ag ?_ _|refine ai ?_|refine af ?_ _));refine aW (cs:=#[.int .i64 0,.int .i64 0,.int .i64 0,.int .i64 0]) ?_ 1 _ rfl;(with_reducible repeat (first|refine ag ?_ _|refine ai ?_|refine af ?_ _));refine aW (cs:=#[.int .i64 0,.int .i64 0,.int .i64 0,.int .i64 0]) ?_ 0 _ rfl;(with_reducible repeat (first|refine ag ?_ _|refine ai ?_|refine af ?_ _));exact eQ.out) Try.underlying40 rfl (by kernel_rfl)) rfl ?_
      exact ⟨by first|rfl|(simp [aQ,aT] <;> rfl)|(simp [*,aQ,aT] <;> rfl),by repeat (first|(with_reducible first|exact HB.out|apply au|apply ah|apply av|refine ak ?_ jZ.out|refine ak ?_ mE.out|refine ak ?_ p9.out)|exact HB.out)⟩
     ·replace IZ:=Bool.eq_false_iff.mpr IZ
      subst IZ
      have H1:(if a3 < 0 then (df.j1 kj9 a2 a3 a4 true aC aD aG aH aN aK aJ aX aM bz bA bI bJ) else (df.j1 kj9 a2 a3 a4 (decide (a3 ≥ a4)) aC aD aG aH aN aK aJ aX aM bz bA bI bJ)) = some (r1,r2,r3,r4,r5):=by rw [if_neg (show ¬ (false = true) by decide)] at H;exact H
      clear H
      have H:=H1
      clear H1
      have ahp:=aj.mk H
      clear H
      go_upto_region 7 with (fail)
      go_cut [37] (fun v37 wc=>∃ (kq:Nat) (Pg:Bool),v37 = .bool Pg∧aj (df.j1 kq a2 a3 a4 Pg aC aD aG aH aN aK aJ aX aM bz bA bI bJ = some (r1,r2,r3,r4,r5))∧aj (kq≤kj9)∧aj (wc.heap[dA]? = some (.cells #[.int .i64 aC,.int .i64 aD,.int .i64 aG,.int .i64 aH,.int .i64 aN,.int .i64 aK,.int .i64 aJ,(.slice bG aX.length bH),(.slice bO aM.length bM)] 25 (0,0)))∧aj (wc.heap[iy]? = some (.cells #[.int .i64 bz,.int .i64 bA,.int .i64 bI,.int .i64 bJ] 31 (0,0)))∧aj (wc.heap[iq]? = some (.cells #[.int .i64 0,.int .i64 0,.int .i64 0,.int .i64 0] 40 (0,0)))∧aj (Below w.heap.size w wc))
      case first =>
       have H:=ahp.out
       clear ahp
       by_cases c30:a3 < 0
       ·rw [if_pos c30] at H
        have M6:decide (a3 < 0) = true:=decide_eq_true c30
        clear c30
        (first|rw [M6]|(simp only [aZ,bf];rw [M6])|skip)
        have H':=aj.mk H
        clear H
        go_wp2
        go_meet
        case rel=>exact ⟨_,(true),(by first|rfl|(simp;done)|(simp [*];done)),H',⟨by have:=HJ9.out;first|omega|exact Nat.le_refl _⟩,⟨by (with_reducible repeat (first|refine ag ?_ _|refine ai ?_|refine af ?_ _));exact bL.out⟩,⟨by (with_reducible repeat (first|refine ag ?_ _|refine ai ?_|refine af ?_ _));exact eP.out⟩,⟨by (with_reducible repeat (first|refine ag ?_ _|refine ai ?_|refine af ?_ _));exact eQ.out⟩,⟨by repeat (first|(with_reducible first|exact HB.out|apply au|apply ah|apply av|refine ak ?_ jZ.out|refine ak ?_ mE.out|refine ak ?_ p9.out)|exact HB.out)⟩⟩
       ·rw [if_neg c30] at H
        have M6:decide (a3 < 0) = false:=decide_eq_false c30
        clear c30
        (first|rw [M6]|(simp only [aZ,bf];rw [M6])|skip)
        have H':=aj.mk H
        clear H
        go_wp2
        go_meet
        case rel=>exact ⟨_,(decide (a3 ≥ a4)),(by first|rfl|(simp;done)|(simp [*];done)),H',⟨by have:=HJ9.out;first|omega|exact Nat.le_refl _⟩,⟨by (with_reducible repeat (first|refine ag ?_ _|refine ai ?_|refine af ?_ _));exact bL.out⟩,⟨by (with_reducible repeat (first|refine ag ?_ _|refine ai ?_|refine af ?_ _));exact eP.out⟩,⟨by (with_reducible repeat (first|refine ag ?_ _|refine ai ?_|refine af ?_ _));exact eQ.out⟩,⟨by repeat (first|(with_reducible first|exact HB.out|apply au|apply ah|apply av|refine ak ?_ jZ.out|refine ak ?_ mE.out|refine ak ?_ p9.out)|exact HB.out)⟩⟩
      case rest =>
       clear ahp
       try clear c1
       try clear c2
       try clear p2
       try clear c3
       try clear c6
       try clear c7
       try clear ZL
       try clear ahn
       try clear c9
       try clear c14
       try clear c15
       try clear c18
       try clear c21
       try clear Le
       try clear Mk
       try clear c23
       try clear c24
       try clear IZ
       try clear Jj
       try clear c27
       try clear c30
       try clear M6
       try clear Cz
       try clear CB
       try clear OZ
       try clear O0
       try clear VO
       try clear VP
       try clear VQ
       try clear VR
       try clear VS
       try clear sJ
       try clear sK
       try clear uJ
       try clear uK
       try clear sO
       try clear sP
       try clear uN
       try clear uO
       try clear Ci
       try clear Cj
       try clear Ck
       try clear EW
       try clear EX
       try clear O4
       try clear O5
       try clear O6
       try clear O7
       try clear CE
       try clear CF
       try clear O1
       try clear O3
       try clear VT
       try clear VU
       try clear VV
       try clear VW
       try clear VX
       try clear sM
       try clear sN
       try clear uL
       try clear uM
       try clear sQ
       try clear sS
       try clear uP
       try clear uQ
       try clear Cm
       try clear Cn
       try clear Co
       try clear EY
       try clear EZ
       try clear O8
       try clear O9
       try clear Pb
       try clear Pf
       try clear p2
       obtain ⟨kq,Pg,rfl,HA,aFn,bL,eP,eQ,HB⟩:=hcut
       cases kq with
       |zero=>exact absurd HA.out (by simp [df.j1])
       |succ Yz =>
        have H:=HA.out
        clear HA
        simp only [df.j1] at H
        by_cases c31:Pg = true
        ·subst c31
         have H1:(some (0,0,0,0,2)) = some (r1,r2,r3,r4,r5):=by rw [if_pos rfl] at H;exact H
         clear H
         have H:=H1
         clear H1
         simp only [Option.some.injEq,Prod.mk.injEq] at H
         obtain ⟨rfl,rfl,rfl,rfl,rfl⟩:=H
         have an5:=o9.out
         have an6:=o8.out
         have an7:=qc.out
         have an8:=qb.out
         have Fb:wc.cell? ⟨iq,0,none⟩ = some (.int .i64 0):=(aa eQ.out 0).trans rfl
         have Fe:wc.cell? ⟨iq,1,none⟩ = some (.int .i64 0):=(aa eQ.out 1).trans rfl
         have Ff:wc.cell? ⟨iq,2,none⟩ = some (.int .i64 0):=(aa eQ.out 2).trans rfl
         have Fg:wc.cell? ⟨iq,3,none⟩ = some (.int .i64 0):=(aa eQ.out 3).trans rfl
         have Fh:=ae eQ.out 0
         have Fj:=ae eQ.out 1
         have Fp:=ae eQ.out 2
         have Fq:=ae eQ.out 3
         go_wp2
         refine bodyPost_ret (iw rfl _ _ iq 40 #[.int .i64 0,.int .i64 0,.int .i64 0,.int .i64 0] (0,0) _ rfl (by (with_reducible repeat (first|refine ag ?_ _|refine ai ?_|refine af ?_ _));refine aW (cs:=#[.int .i64 0,.int .i64 0,.int .i64 0,.int .i64 0]) ?_ 3 _ rfl;(with_reducible repeat (first|refine ag ?_ _|refine ai ?_|refine af ?_ _));refine aW (cs:=#[.int .i64 0,.int .i64 0,.int .i64 0,.int .i64 0]) ?_ 2 _ rfl;(with_reducible repeat (first|refine ag ?_ _|refine ai ?_|refine af ?_ _));refine aW (cs:=#[.int .i64 0,.int .i64 0,.int .i64 0,.int .i64 0]) ?_ 1 _ rfl;(with_reducible repeat (first|refine ag ?_ _|refine ai ?_|refine af ?_ _));refine aW (cs:=#[.int .i64 0,.int .i64 0,.int .i64 0,.int .i64 0]) ?_ 0 _ rfl;(with_reducible repeat (first|refine ag ?_ _|refine ai ?_|refine af ?_ _));exact eQ.out) Try.underlying40 rfl (by kernel_rfl)) rfl ?_
         exact ⟨by first|rfl|(simp [aQ,aT] <;> rfl)|(simp [*,aQ,aT] <;> rfl),by repeat (first|(with_reducible first|exact HB.out|apply au|apply ah|apply av|refine ak ?_ jZ.out|refine ak ?_ mE.out|refine ak ?_ p9.out)|exact HB.out)⟩
        ·replace c31:=Bool.eq_false_iff.mpr c31
         subst c31
         have H1:((jc.f aC aD aG aH aN aK aJ aX aM bz bA bI bJ).bind fun Yy=>(if Yy = true then ((iK.f aC aD aG aH aN aK aJ aX aM a3 a4).bind fun Ms=>(if Ms = true then ((bF.f Yz aC aD aG aH aN aK aJ aX aM bz bA bI bJ a2 a3 a4).bind fun nX=>(some (nX.1,nX.2.1,nX.2.2.1,nX.2.2.2,0))) else (some (0,0,0,0,5)))) else (some (0,0,0,0,5)))) = some (r1,r2,r3,r4,r5):=by rw [if_neg (show ¬ (false = true) by decide)] at H;exact H
         clear H
         have H:=H1
         clear H1
         replace H:=Option.bind_eq_some_iff.mp H
         obtain ⟨Yy,ZK,H⟩:=H
         replace H:(if Yy = true then ((iK.f aC aD aG aH aN aK aJ aX aM a3 a4).bind fun Ms=>(if Ms = true then ((bF.f Yz aC aD aG aH aN aK aJ aX aM bz bA bI bJ a2 a3 a4).bind fun nX=>(some (nX.1,nX.2.1,nX.2.2.1,nX.2.2.2,0))) else (some (0,0,0,0,5)))) else (some (0,0,0,0,5))) = some (r1,r2,r3,r4,r5):=H
         have A35:=aj.mk ZK
         clear ZK
         by_cases Zl:Yy = true
         ·subst Zl
          have H1:((iK.f aC aD aG aH aN aK aJ aX aM a3 a4).bind fun Ms=>(if Ms = true then ((bF.f Yz aC aD aG aH aN aK aJ aX aM bz bA bI bJ a2 a3 a4).bind fun nX=>(some (nX.1,nX.2.1,nX.2.2.1,nX.2.2.2,0))) else (some (0,0,0,0,5)))) = some (r1,r2,r3,r4,r5):=by rw [if_pos rfl] at H;exact H
          clear H
          have H:=H1
          clear H1
          replace H:=Option.bind_eq_some_iff.mp H
          obtain ⟨Ms,an9,H⟩:=H
          replace H:(if Ms = true then ((bF.f Yz aC aD aG aH aN aK aJ aX aM bz bA bI bJ a2 a3 a4).bind fun nX=>(some (nX.1,nX.2.1,nX.2.2.1,nX.2.2.2,0))) else (some (0,0,0,0,5))) = some (r1,r2,r3,r4,r5):=H
          have A37:=aj.mk an9
          clear an9
          by_cases c38:Ms = true
          ·subst c38
           have H1:((bF.f Yz aC aD aG aH aN aK aJ aX aM bz bA bI bJ a2 a3 a4).bind fun nX=>(some (nX.1,nX.2.1,nX.2.2.1,nX.2.2.2,0))) = some (r1,r2,r3,r4,r5):=by rw [if_pos rfl] at H;exact H
           clear H
           have H:=H1
           clear H1
           replace H:=Option.bind_eq_some_iff.mp H
           obtain ⟨⟨YA,ZM,adn,ahr⟩,ZN,H⟩:=H
           replace H:(some (YA,ZM,adn,ahr,0)) = some (r1,r2,r3,r4,r5):=H
           have A39:=aj.mk ZN
           clear ZN
           simp only [Option.some.injEq,Prod.mk.injEq] at H
           obtain ⟨rfl,rfl,rfl,rfl,rfl⟩:=H
           have aDB:=qV.out
           have aDC:=qW.out
           have aob:=o8.out
           have aoc:=o9.out
           have VZ:wc.cell? ⟨dA,0,none⟩ = some (.int .i64 aC):=(aa bL.out 0).trans rfl
           have V3:wc.cell? ⟨dA,1,none⟩ = some (.int .i64 aD):=(aa bL.out 1).trans rfl
           have ado:wc.cell? ⟨dA,2,none⟩ = some (.int .i64 aG):=(aa bL.out 2).trans rfl
           have adp:wc.cell? ⟨dA,3,none⟩ = some (.int .i64 aH):=(aa bL.out 3).trans rfl
           have adq:wc.cell? ⟨dA,4,none⟩ = some (.int .i64 aN):=(aa bL.out 4).trans rfl
           have adr:wc.cell? ⟨dA,5,none⟩ = some (.int .i64 aK):=(aa bL.out 5).trans rfl
           have ads:wc.cell? ⟨dA,6,none⟩ = some (.int .i64 aJ):=(aa bL.out 6).trans rfl
           have adt:wc.cell? ⟨dA,7,none⟩ = some (.slice bG aX.length bH):=(aa bL.out 7).trans rfl
           have adu:wc.cell? ⟨dA,8,none⟩ = some (.slice bO aM.length bM):=(aa bL.out 8).trans rfl
           have V4:=ae bL.out 0
           have V5:=ae bL.out 1
           have adv:=ae bL.out 2
           have adw:=ae bL.out 3
           have adx:=ae bL.out 4
           have ady:=ae bL.out 5
           have adz:=ae bL.out 6
           have adA:=ae bL.out 7
           have adB:=ae bL.out 8
           have afW:=qb.out
           have afX:=qc.out
           have V6:wc.cell? ⟨iy,0,none⟩ = some (.int .i64 bz):=(aa eP.out 0).trans rfl
           have V7:wc.cell? ⟨iy,1,none⟩ = some (.int .i64 bA):=(aa eP.out 1).trans rfl
           have V8:wc.cell? ⟨iy,2,none⟩ = some (.int .i64 bI):=(aa eP.out 2).trans rfl
           have V9:wc.cell? ⟨iy,3,none⟩ = some (.int .i64 bJ):=(aa eP.out 3).trans rfl
           have Wd:=ae eP.out 0
           have We:=ae eP.out 1
           have Wh:=ae eP.out 2
           have Wi:=ae eP.out 3
           go_wp2_with (first|((with_reducible refine bT (f:=71) rfl ?_);refine fM (some 41) rfl rfl Try.func71 (by kernel_rfl) rfl #[.agg #[.int .i64 aC,.int .i64 aD,.int .i64 aG,.int .i64 aH,.int .i64 aN,.int .i64 aK,.int .i64 aJ,.slice bG aX.length bH,.slice bO aM.length bM],.agg #[.int .i64 bz,.int .i64 bA,.int .i64 bI,.int .i64 bJ]] rfl (by (try simp only [List.map_toArray,List.map_cons,List.map_nil]);first|done|rfl|(simp only [List.length_drop,List.length_take];rfl)) ?_;(with_reducible refine (jc.calls aC aD aG aH aN aK aJ _ _ aX _ _ aM bz bA bI bJ true _ ?gm ?gp ?gQ ?gT A35.out).mono ?_);(case gm=>repeat (first|exact (Kd.dF jR.out HB.out)|(with_reducible refine Kd.dO ?_ _)|(with_reducible refine Kd.dP ?_ _)|(with_reducible refine Kd.eO ?_)));(case gp=>exact jS.out);(case gQ=>repeat (first|exact (Kd.dF jm.out HB.out)|(with_reducible refine Kd.dO ?_ _)|(with_reducible refine Kd.dP ?_ _)|(with_reducible refine Kd.eO ?_)));(case gT=>exact kg.out);rintro e Ph ⟨rfl,hb⟩;refine ⟨_,rfl,?_⟩;have bB:=aj.mk (ax (g:=dA) (o:=.cells #[.int .i64 aC,.int .i64 aD,.int .i64 aG,.int .i64 aH,.int .i64 aN,.int .i64 aK,.int .i64 aJ,.slice bG aX.length bH,.slice bO aM.length bM] 25 (0,0)) (by (with_reducible repeat (first|refine ag ?_ _|refine ai ?_|refine af ?_ _));exact bL.out) hb);have bC:=aj.mk (ax (g:=iy) (o:=.cells #[.int .i64 bz,.int .i64 bA,.int .i64 bI,.int .i64 bJ] 31 (0,0)) (by (with_reducible repeat (first|refine ag ?_ _|refine ai ?_|refine af ?_ _));exact eP.out) hb);have bK:=aj.mk (ax (g:=iq) (o:=.cells #[.int .i64 0,.int .i64 0,.int .i64 0,.int .i64 0] 40 (0,0)) (by (with_reducible repeat (first|refine ag ?_ _|refine ai ?_|refine af ?_ _));exact eQ.out) hb);have bP:=aj.mk (ay (by repeat (first|(with_reducible first|exact HB.out|apply au|apply ah|apply av|refine ak ?_ jZ.out|refine ak ?_ mE.out|refine ak ?_ p9.out)|exact HB.out)) hb);clear bL;clear eP;clear eQ;clear HB;have bL:=bB;have eP:=bC;have eQ:=bK;have HB:=bP;clear bB bC bK bP;(try clear hb);(try clear hb2);(try clear hk);(try clear hi);have adC:Ph.cell? ⟨dA,0,none⟩ = some (.int .i64 aC):=(aa bL.out 0).trans rfl;have adD:Ph.cell? ⟨dA,1,none⟩ = some (.int .i64 aD):=(aa bL.out 1).trans rfl;have adE:Ph.cell? ⟨dA,2,none⟩ = some (.int .i64 aG):=(aa bL.out 2).trans rfl;have adF:Ph.cell? ⟨dA,3,none⟩ = some (.int .i64 aH):=(aa bL.out 3).trans rfl;have asU:Ph.cell? ⟨dA,4,none⟩ = some (.int .i64 aN):=(aa bL.out 4).trans rfl;have asV:Ph.cell? ⟨dA,5,none⟩ = some (.int .i64 aK):=(aa bL.out 5).trans rfl;have asW:Ph.cell? ⟨dA,6,none⟩ = some (.int .i64 aJ):=(aa bL.out 6).trans rfl;have asX:Ph.cell? ⟨dA,7,none⟩ = some (.slice bG aX.length bH):=(aa bL.out 7).trans rfl;have asY:Ph.cell? ⟨dA,8,none⟩ = some (.slice bO aM.length bM):=(aa bL.out 8).trans rfl;have adG:=ae bL.out 0;have adH:=ae bL.out 1;have adI:=ae bL.out 2;have adJ:=ae bL.out 3;have asZ:=ae bL.out 4;have as0:=ae bL.out 5;have as1:=ae bL.out 6;have as2:=ae bL.out 7;have as3:=ae bL.out 8)|(go_at_call 72;(with_reducible refine (iK.calls aC aD aG aH aN aK aJ _ _ aX _ _ aM a3 a4 true _ ?gm ?gp ?gQ ?gT A37.out).mono ?_);(case gm=>repeat (first|exact (Kd.dF jR.out HB.out)|(with_reducible refine Kd.dO ?_ _)|(with_reducible refine Kd.dP ?_ _)|(with_reducible refine Kd.eO ?_)));(case gp=>exact jS.out);(case gQ=>repeat (first|exact (Kd.dF jm.out HB.out)|(with_reducible refine Kd.dO ?_ _)|(with_reducible refine Kd.dP ?_ _)|(with_reducible refine Kd.eO ?_)));(case gT=>exact kg.out);rintro e Wj ⟨rfl,hb⟩;have bB:=aj.mk (ax (g:=dA) (o:=.cells #[.int .i64 aC,.int .i64 aD,.int .i64 aG,.int .i64 aH,.int .i64 aN,.int .i64 aK,.int .i64 aJ,.slice bG aX.length bH,.slice bO aM.length bM] 25 (0,0)) (by (with_reducible repeat (first|refine ag ?_ _|refine ai ?_|refine af ?_ _));exact bL.out) hb);have bC:=aj.mk (ax (g:=iy) (o:=.cells #[.int .i64 bz,.int .i64 bA,.int .i64 bI,.int .i64 bJ] 31 (0,0)) (by (with_reducible repeat (first|refine ag ?_ _|refine ai ?_|refine af ?_ _));exact eP.out) hb);have bK:=aj.mk (ax (g:=iq) (o:=.cells #[.int .i64 0,.int .i64 0,.int .i64 0,.int .i64 0] 40 (0,0)) (by (with_reducible repeat (first|refine ag ?_ _|refine ai ?_|refine af ?_ _));exact eQ.out) hb);have bP:=aj.mk (ay (by repeat (first|(with_reducible first|exact HB.out|apply au|apply ah|apply av|refine ak ?_ jZ.out|refine ak ?_ mE.out|refine ak ?_ p9.out)|exact HB.out)) hb);clear bL;clear eP;clear eQ;clear HB;have bL:=bB;have eP:=bC;have eQ:=bK;have HB:=bP;clear bB bC bK bP;(try clear hb);(try clear hb2);(try clear hk);(try clear hi);have Uz:Wj.cell? ⟨dA,0,none⟩ = some (.int .i64 aC):=(aa bL.out 0).trans rfl;have UA:Wj.cell? ⟨dA,1,none⟩ = some (.int .i64 aD):=(aa bL.out 1).trans rfl;have UB:Wj.cell? ⟨dA,2,none⟩ = some (.int .i64 aG):=(aa bL.out 2).trans rfl;have UC:Wj.cell? ⟨dA,3,none⟩ = some (.int .i64 aH):=(aa bL.out 3).trans rfl;have UD:Wj.cell? ⟨dA,4,none⟩ = some (.int .i64 aN):=(aa bL.out 4).trans rfl;have UE:Wj.cell? ⟨dA,5,none⟩ = some (.int .i64 aK):=(aa bL.out 5).trans rfl;have UF:Wj.cell? ⟨dA,6,none⟩ = some (.int .i64 aJ):=(aa bL.out 6).trans rfl;have UG:Wj.cell? ⟨dA,7,none⟩ = some (.slice bG aX.length bH):=(aa bL.out 7).trans rfl;have UH:Wj.cell? ⟨dA,8,none⟩ = some (.slice bO aM.length bM):=(aa bL.out 8).trans rfl;have UI:=ae bL.out 0;have UJ:=ae bL.out 1;have UK:=ae bL.out 2;have UL:=ae bL.out 3;have UM:=ae bL.out 4;have UN:=ae bL.out 5;have UO:=ae bL.out 6;have UQ:=ae bL.out 7;have UR:=ae bL.out 8;have acn:Wj.cell? ⟨iy,0,none⟩ = some (.int .i64 bz):=(aa eP.out 0).trans rfl;have aco:Wj.cell? ⟨iy,1,none⟩ = some (.int .i64 bA):=(aa eP.out 1).trans rfl;have acp:Wj.cell? ⟨iy,2,none⟩ = some (.int .i64 bI):=(aa eP.out 2).trans rfl;have acr:Wj.cell? ⟨iy,3,none⟩ = some (.int .i64 bJ):=(aa eP.out 3).trans rfl;have acs:=ae eP.out 0;have acu:=ae eP.out 1;have acv:=ae eP.out 2;have acw:=ae eP.out 3)|((with_reducible refine bT (f:=73) rfl ?_);refine fM (some 56) rfl rfl Try.func73 (by kernel_rfl) rfl #[.agg #[.int .i64 aC,.int .i64 aD,.int .i64 aG,.int .i64 aH,.int .i64 aN,.int .i64 aK,.int .i64 aJ,.slice bG aX.length bH,.slice bO aM.length bM],.agg #[.int .i64 bz,.int .i64 bA,.int .i64 bI,.int .i64 bJ],.int .i64 a2,.int .i64 a3,.int .i64 a4] rfl (by (try simp only [List.map_toArray,List.map_cons,List.map_nil]);first|done|rfl|(simp only [List.length_drop,List.length_take];rfl)) ?_;(with_reducible refine (bF.calls Yz aC aD aG aH aN aK aJ _ _ aX _ _ aM bz bA bI bJ a2 a3 a4 YA ZM adn ahr _ ?gm ?gp ?gQ ?gT A39.out).mono ?_);(case gm=>repeat (first|exact (Kd.dF jR.out HB.out)|(with_reducible refine Kd.dO ?_ _)|(with_reducible refine Kd.dP ?_ _)|(with_reducible refine Kd.eO ?_)));(case gp=>exact jS.out);(case gQ=>repeat (first|exact (Kd.dF jm.out HB.out)|(with_reducible refine Kd.dO ?_ _)|(with_reducible refine Kd.dP ?_ _)|(with_reducible refine Kd.eO ?_)));(case gT=>exact kg.out);rintro e w50 ⟨rfl,hb⟩;refine ⟨_,rfl,?_⟩;have bB:=aj.mk (ax (g:=dA) (o:=.cells #[.int .i64 aC,.int .i64 aD,.int .i64 aG,.int .i64 aH,.int .i64 aN,.int .i64 aK,.int .i64 aJ,.slice bG aX.length bH,.slice bO aM.length bM] 25 (0,0)) (by (with_reducible repeat (first|refine ag ?_ _|refine ai ?_|refine af ?_ _));exact bL.out) hb);have bC:=aj.mk (ax (g:=iy) (o:=.cells #[.int .i64 bz,.int .i64 bA,.int .i64 bI,.int .i64 bJ] 31 (0,0)) (by (with_reducible repeat (first|refine ag ?_ _|refine ai ?_|refine af ?_ _));exact eP.out) hb);have bK:=aj.mk (ax (g:=iq) (o:=.cells #[.int .i64 0,.int .i64 0,.int .i64 0,.int .i64 0] 40 (0,0)) (by (with_reducible repeat (first|refine ag ?_ _|refine ai ?_|refine af ?_ _));exact eQ.out) hb);have bP:=aj.mk (ay (by repeat (first|(with_reducible first|exact HB.out|apply au|apply ah|apply av|refine ak ?_ jZ.out|refine ak ?_ mE.out|refine ak ?_ p9.out)|exact HB.out)) hb);clear bL;clear eP;clear eQ;clear HB;have bL:=bB;have eP:=bC;have eQ:=bK;have HB:=bP;clear bB bC bK bP;(try clear hb);(try clear hb2);(try clear hk);(try clear hi);have adK:w50.cell? ⟨iq,0,none⟩ = some (.int .i64 0):=(aa eQ.out 0).trans rfl;have adL:w50.cell? ⟨iq,1,none⟩ = some (.int .i64 0):=(aa eQ.out 1).trans rfl;have adM:w50.cell? ⟨iq,2,none⟩ = some (.int .i64 0):=(aa eQ.out 2).trans rfl;have adN:w50.cell? ⟨iq,3,none⟩ = some (.int .i64 0):=(aa eQ.out 3).trans rfl;have adO:=ae eQ.out 0;have adP:=ae eQ.out 1;have adQ:=ae eQ.out 2;have adR:=ae eQ.out 3))
           refine bodyPost_ret (iw rfl _ _ iq 40 #[.int .i64 YA,.int .i64 ZM,.int .i64 adn,.int .i64 ahr] (0,0) _ rfl (by (with_reducible repeat (first|refine ag ?_ _|refine ai ?_|refine af ?_ _));refine aW (cs:=#[.int .i64 YA,.int .i64 ZM,.int .i64 adn,.int .i64 0]) ?_ 3 _ rfl;(with_reducible repeat (first|refine ag ?_ _|refine ai ?_|refine af ?_ _));refine aW (cs:=#[.int .i64 YA,.int .i64 ZM,.int .i64 0,.int .i64 0]) ?_ 2 _ rfl;(with_reducible repeat (first|refine ag ?_ _|refine ai ?_|refine af ?_ _));refine aW (cs:=#[.int .i64 YA,.int .i64 0,.int .i64 0,.int .i64 0]) ?_ 1 _ rfl;(with_reducible repeat (first|refine ag ?_ _|refine ai ?_|refine af ?_ _));refine aW (cs:=#[.int .i64 0,.int .i64 0,.int .i64 0,.int .i64 0]) ?_ 0 _ rfl;(with_reducible repeat (first|refine ag ?_ _|refine ai ?_|refine af ?_ _));exact eQ.out) Try.underlying40 rfl (by kernel_rfl)) rfl ?_
           exact ⟨by first|rfl|(simp [aQ,aT] <;> rfl)|(simp [*,aQ,aT] <;> rfl),by repeat (first|(with_reducible first|exact HB.out|apply au|apply ah|apply av|refine ak ?_ jZ.out|refine ak ?_ mE.out|refine ak ?_ p9.out)|exact HB.out)⟩
          ·replace c38:=Bool.eq_false_iff.mpr c38
           subst c38
           have H1:(some (0,0,0,0,5)) = some (r1,r2,r3,r4,r5):=by rw [if_neg (show ¬ (false = true) by decide)] at H;exact H
           clear H
           have H:=H1
           clear H1
           simp only [Option.some.injEq,Prod.mk.injEq] at H
           obtain ⟨rfl,rfl,rfl,rfl,rfl⟩:=H
           have Zg:=qV.out
           have Zh:=qW.out
           have af0:=o8.out
           have af1:=o9.out
           have Wl:wc.cell? ⟨dA,0,none⟩ = some (.int .i64 aC):=(aa bL.out 0).trans rfl
           have Wm:wc.cell? ⟨dA,1,none⟩ = some (.int .i64 aD):=(aa bL.out 1).trans rfl
           have Wn:wc.cell? ⟨dA,2,none⟩ = some (.int .i64 aG):=(aa bL.out 2).trans rfl
           have Wo:wc.cell? ⟨dA,3,none⟩ = some (.int .i64 aH):=(aa bL.out 3).trans rfl
           have Wp:wc.cell? ⟨dA,4,none⟩ = some (.int .i64 aN):=(aa bL.out 4).trans rfl
           have Wq:wc.cell? ⟨dA,5,none⟩ = some (.int .i64 aK):=(aa bL.out 5).trans rfl
           have Ws:wc.cell? ⟨dA,6,none⟩ = some (.int .i64 aJ):=(aa bL.out 6).trans rfl
           have Wt:wc.cell? ⟨dA,7,none⟩ = some (.slice bG aX.length bH):=(aa bL.out 7).trans rfl
           have Wu:wc.cell? ⟨dA,8,none⟩ = some (.slice bO aM.length bM):=(aa bL.out 8).trans rfl
           have Wv:=ae bL.out 0
           have Ww:=ae bL.out 1
           have Wy:=ae bL.out 2
           have Wz:=ae bL.out 3
           have WA:=ae bL.out 4
           have WB:=ae bL.out 5
           have WC:=ae bL.out 6
           have WE:=ae bL.out 7
           have WG:=ae bL.out 8
           have ajk:=qb.out
           have ajl:=qc.out
           have Ou:wc.cell? ⟨iy,0,none⟩ = some (.int .i64 bz):=(aa eP.out 0).trans rfl
           have Ov:wc.cell? ⟨iy,1,none⟩ = some (.int .i64 bA):=(aa eP.out 1).trans rfl
           have Ow:wc.cell? ⟨iy,2,none⟩ = some (.int .i64 bI):=(aa eP.out 2).trans rfl
           have Ox:wc.cell? ⟨iy,3,none⟩ = some (.int .i64 bJ):=(aa eP.out 3).trans rfl
           have Oy:=ae eP.out 0
           have Oz:=ae eP.out 1
           have OA:=ae eP.out 2
           have OB:=ae eP.out 3
           go_wp2_with (first|((with_reducible refine bT (f:=71) rfl ?_);refine fM (some 41) rfl rfl Try.func71 (by kernel_rfl) rfl #[.agg #[.int .i64 aC,.int .i64 aD,.int .i64 aG,.int .i64 aH,.int .i64 aN,.int .i64 aK,.int .i64 aJ,.slice bG aX.length bH,.slice bO aM.length bM],.agg #[.int .i64 bz,.int .i64 bA,.int .i64 bI,.int .i64 bJ]] rfl (by (try simp only [List.map_toArray,List.map_cons,List.map_nil]);first|done|rfl|(simp only [List.length_drop,List.length_take];rfl)) ?_;(with_reducible refine (jc.calls aC aD aG aH aN aK aJ _ _ aX _ _ aM bz bA bI bJ true _ ?gm ?gp ?gQ ?gT A35.out).mono ?_);(case gm=>repeat (first|exact (Kd.dF jR.out HB.out)|(with_reducible refine Kd.dO ?_ _)|(with_reducible refine Kd.dP ?_ _)|(with_reducible refine Kd.eO ?_)));(case gp=>exact jS.out);(case gQ=>repeat (first|exact (Kd.dF jm.out HB.out)|(with_reducible refine Kd.dO ?_ _)|(with_reducible refine Kd.dP ?_ _)|(with_reducible refine Kd.eO ?_)));(case gT=>exact kg.out);rintro e GU ⟨rfl,hb⟩;refine ⟨_,rfl,?_⟩;have bB:=aj.mk (ax (g:=dA) (o:=.cells #[.int .i64 aC,.int .i64 aD,.int .i64 aG,.int .i64 aH,.int .i64 aN,.int .i64 aK,.int .i64 aJ,.slice bG aX.length bH,.slice bO aM.length bM] 25 (0,0)) (by (with_reducible repeat (first|refine ag ?_ _|refine ai ?_|refine af ?_ _));exact bL.out) hb);have bC:=aj.mk (ax (g:=iy) (o:=.cells #[.int .i64 bz,.int .i64 bA,.int .i64 bI,.int .i64 bJ] 31 (0,0)) (by (with_reducible repeat (first|refine ag ?_ _|refine ai ?_|refine af ?_ _));exact eP.out) hb);have bK:=aj.mk (ax (g:=iq) (o:=.cells #[.int .i64 0,.int .i64 0,.int .i64 0,.int .i64 0] 40 (0,0)) (by (with_reducible repeat (first|refine ag ?_ _|refine ai ?_|refine af ?_ _));exact eQ.out) hb);have bP:=aj.mk (ay (by repeat (first|(with_reducible first|exact HB.out|apply au|apply ah|apply av|refine ak ?_ jZ.out|refine ak ?_ mE.out|refine ak ?_ p9.out)|exact HB.out)) hb);clear bL;clear eP;clear eQ;clear HB;have bL:=bB;have eP:=bC;have eQ:=bK;have HB:=bP;clear bB bC bK bP;(try clear hb);(try clear hb2);(try clear hk);(try clear hi);have acx:GU.cell? ⟨dA,0,none⟩ = some (.int .i64 aC):=(aa bL.out 0).trans rfl;have acy:GU.cell? ⟨dA,1,none⟩ = some (.int .i64 aD):=(aa bL.out 1).trans rfl;have acz:GU.cell? ⟨dA,2,none⟩ = some (.int .i64 aG):=(aa bL.out 2).trans rfl;have acA:GU.cell? ⟨dA,3,none⟩ = some (.int .i64 aH):=(aa bL.out 3).trans rfl;have as4:GU.cell? ⟨dA,4,none⟩ = some (.int .i64 aN):=(aa bL.out 4).trans rfl;have as5:GU.cell? ⟨dA,5,none⟩ = some (.int .i64 aK):=(aa bL.out 5).trans rfl;have as6:GU.cell? ⟨dA,6,none⟩ = some (.int .i64 aJ):=(aa bL.out 6).trans rfl;have as7:GU.cell? ⟨dA,7,none⟩ = some (.slice bG aX.length bH):=(aa bL.out 7).trans rfl;have as8:GU.cell? ⟨dA,8,none⟩ = some (.slice bO aM.length bM):=(aa bL.out 8).trans rfl;have acB:=ae bL.out 0;have acC:=ae bL.out 1;have acD:=ae bL.out 2;have acE:=ae bL.out 3;have as9:=ae bL.out 4;have ata:=ae bL.out 5;have atb:=ae bL.out 6;have atc:=ae bL.out 7;have atd:=ae bL.out 8)|(go_at_call 72;(with_reducible refine (iK.calls aC aD aG aH aN aK aJ _ _ aX _ _ aM a3 a4 false _ ?gm ?gp ?gQ ?gT A37.out).mono ?_);(case gm=>repeat (first|exact (Kd.dF jR.out HB.out)|(with_reducible refine Kd.dO ?_ _)|(with_reducible refine Kd.dP ?_ _)|(with_reducible refine Kd.eO ?_)));(case gp=>exact jS.out);(case gQ=>repeat (first|exact (Kd.dF jm.out HB.out)|(with_reducible refine Kd.dO ?_ _)|(with_reducible refine Kd.dP ?_ _)|(with_reducible refine Kd.eO ?_)));(case gT=>exact kg.out);rintro e w59 ⟨rfl,hb⟩;have bB:=aj.mk (ax (g:=dA) (o:=.cells #[.int .i64 aC,.int .i64 aD,.int .i64 aG,.int .i64 aH,.int .i64 aN,.int .i64 aK,.int .i64 aJ,.slice bG aX.length bH,.slice bO aM.length bM] 25 (0,0)) (by (with_reducible repeat (first|refine ag ?_ _|refine ai ?_|refine af ?_ _));exact bL.out) hb);have bC:=aj.mk (ax (g:=iy) (o:=.cells #[.int .i64 bz,.int .i64 bA,.int .i64 bI,.int .i64 bJ] 31 (0,0)) (by (with_reducible repeat (first|refine ag ?_ _|refine ai ?_|refine af ?_ _));exact eP.out) hb);have bK:=aj.mk (ax (g:=iq) (o:=.cells #[.int .i64 0,.int .i64 0,.int .i64 0,.int .i64 0] 40 (0,0)) (by (with_reducible repeat (first|refine ag ?_ _|refine ai ?_|refine af ?_ _));exact eQ.out) hb);have bP:=aj.mk (ay (by repeat (first|(with_reducible first|exact HB.out|apply au|apply ah|apply av|refine ak ?_ jZ.out|refine ak ?_ mE.out|refine ak ?_ p9.out)|exact HB.out)) hb);clear bL;clear eP;clear eQ;clear HB;have bL:=bB;have eP:=bC;have eQ:=bK;have HB:=bP;clear bB bC bK bP;(try clear hb);(try clear hb2);(try clear hk);(try clear hi);have ate:w59.cell? ⟨iq,0,none⟩ = some (.int .i64 0):=(aa eQ.out 0).trans rfl;have atf:w59.cell? ⟨iq,1,none⟩ = some (.int .i64 0):=(aa eQ.out 1).trans rfl;have atg:w59.cell? ⟨iq,2,none⟩ = some (.int .i64 0):=(aa eQ.out 2).trans rfl;have ath:w59.cell? ⟨iq,3,none⟩ = some (.int .i64 0):=(aa eQ.out 3).trans rfl;have ati:=ae eQ.out 0;have atj:=ae eQ.out 1;have atl:=ae eQ.out 2;have atm:=ae eQ.out 3))
           refine bodyPost_ret (iw rfl _ _ iq 40 #[.int .i64 0,.int .i64 0,.int .i64 0,.int .i64 0] (0,0) _ rfl (by (with_reducible repeat (first|refine ag ?_ _|refine ai ?_|refine af ?_ _));refine aW (cs:=#[.int .i64 0,.int .i64 0,.int .i64 0,.int .i64 0]) ?_ 3 _ rfl;(with_reducible repeat (first|refine ag ?_ _|refine ai ?_|refine af ?_ _));refine aW (cs:=#[.int .i64 0,.int .i64 0,.int .i64 0,.int .i64 0]) ?_ 2 _ rfl;(with_reducible repeat (first|refine ag ?_ _|refine ai ?_|refine af ?_ _));refine aW (cs:=#[.int .i64 0,.int .i64 0,.int .i64 0,.int .i64 0]) ?_ 1 _ rfl;(with_reducible repeat (first|refine ag ?_ _|refine ai ?_|refine af ?_ _));refine aW (cs:=#[.int .i64 0,.int .i64 0,.int .i64 0,.int .i64 0]) ?_ 0 _ rfl;(with_reducible repeat (first|refine ag ?_ _|refine ai ?_|refine af ?_ _));exact eQ.out) Try.underlying40 rfl (by kernel_rfl)) rfl ?_
           exact ⟨by first|rfl|(simp [aQ,aT] <;> rfl)|(simp [*,aQ,aT] <;> rfl),by repeat (first|(with_reducible first|exact HB.out|apply au|apply ah|apply av|refine ak ?_ jZ.out|refine ak ?_ mE.out|refine ak ?_ p9.out)|exact HB.out)⟩
         ·replace Zl:=Bool.eq_false_iff.mpr Zl
          subst Zl
          have H1:(some (0,0,0,0,5)) = some (r1,r2,r3,r4,r5):=by rw [if_neg (show ¬ (false = true) by decide)] at H;exact H
          clear H
          have H:=H1
          clear H1
          simp only [Option.some.injEq,Prod.mk.injEq] at H
          obtain ⟨rfl,rfl,rfl,rfl,rfl⟩:=H
          have aDD:=qV.out
          have aDE:=qW.out
          have an0:=o8.out
          have an1:=o9.out
          have atn:wc.cell? ⟨dA,0,none⟩ = some (.int .i64 aC):=(aa bL.out 0).trans rfl
          have ato:wc.cell? ⟨dA,1,none⟩ = some (.int .i64 aD):=(aa bL.out 1).trans rfl
          have atp:wc.cell? ⟨dA,2,none⟩ = some (.int .i64 aG):=(aa bL.out 2).trans rfl
          have atq:wc.cell? ⟨dA,3,none⟩ = some (.int .i64 aH):=(aa bL.out 3).trans rfl
          have atr:wc.cell? ⟨dA,4,none⟩ = some (.int .i64 aN):=(aa bL.out 4).trans rfl
          have att:wc.cell? ⟨dA,5,none⟩ = some (.int .i64 aK):=(aa bL.out 5).trans rfl
          have atu:wc.cell? ⟨dA,6,none⟩ = some (.int .i64 aJ):=(aa bL.out 6).trans rfl
          have atv:wc.cell? ⟨dA,7,none⟩ = some (.slice bG aX.length bH):=(aa bL.out 7).trans rfl
          have atw:wc.cell? ⟨dA,8,none⟩ = some (.slice bO aM.length bM):=(aa bL.out 8).trans rfl
          have atx:=ae bL.out 0
          have aty:=ae bL.out 1
          have atz:=ae bL.out 2
          have atA:=ae bL.out 3
          have atB:=ae bL.out 4
          have atC:=ae bL.out 5
          have atD:=ae bL.out 6
          have atE:=ae bL.out 7
          have atF:=ae bL.out 8
          have an2:=qb.out
          have an3:=qc.out
          have acN:wc.cell? ⟨iy,0,none⟩ = some (.int .i64 bz):=(aa eP.out 0).trans rfl
          have acO:wc.cell? ⟨iy,1,none⟩ = some (.int .i64 bA):=(aa eP.out 1).trans rfl
          have acP:wc.cell? ⟨iy,2,none⟩ = some (.int .i64 bI):=(aa eP.out 2).trans rfl
          have acQ:wc.cell? ⟨iy,3,none⟩ = some (.int .i64 bJ):=(aa eP.out 3).trans rfl
          have acR:=ae eP.out 0
          have acS:=ae eP.out 1
          have acT:=ae eP.out 2
          have acU:=ae eP.out 3
          go_wp2_with (first|((with_reducible refine bT (f:=71) rfl ?_);refine fM (some 41) rfl rfl Try.func71 (by kernel_rfl) rfl #[.agg #[.int .i64 aC,.int .i64 aD,.int .i64 aG,.int .i64 aH,.int .i64 aN,.int .i64 aK,.int .i64 aJ,.slice bG aX.length bH,.slice bO aM.length bM],.agg #[.int .i64 bz,.int .i64 bA,.int .i64 bI,.int .i64 bJ]] rfl (by (try simp only [List.map_toArray,List.map_cons,List.map_nil]);first|done|rfl|(simp only [List.length_drop,List.length_take];rfl)) ?_;(with_reducible refine (jc.calls aC aD aG aH aN aK aJ _ _ aX _ _ aM bz bA bI bJ false _ ?gm ?gp ?gQ ?gT A35.out).mono ?_);(case gm=>repeat (first|exact (Kd.dF jR.out HB.out)|(with_reducible refine Kd.dO ?_ _)|(with_reducible refine Kd.dP ?_ _)|(with_reducible refine Kd.eO ?_)));(case gp=>exact jS.out);(case gQ=>repeat (first|exact (Kd.dF jm.out HB.out)|(with_reducible refine Kd.dO ?_ _)|(with_reducible refine Kd.dP ?_ _)|(with_reducible refine Kd.eO ?_)));(case gT=>exact kg.out);rintro e w66 ⟨rfl,hb⟩;refine ⟨_,rfl,?_⟩;have bB:=aj.mk (ax (g:=dA) (o:=.cells #[.int .i64 aC,.int .i64 aD,.int .i64 aG,.int .i64 aH,.int .i64 aN,.int .i64 aK,.int .i64 aJ,.slice bG aX.length bH,.slice bO aM.length bM] 25 (0,0)) (by (with_reducible repeat (first|refine ag ?_ _|refine ai ?_|refine af ?_ _));exact bL.out) hb);have bC:=aj.mk (ax (g:=iy) (o:=.cells #[.int .i64 bz,.int .i64 bA,.int .i64 bI,.int .i64 bJ] 31 (0,0)) (by (with_reducible repeat (first|refine ag ?_ _|refine ai ?_|refine af ?_ _));exact eP.out) hb);have bK:=aj.mk (ax (g:=iq) (o:=.cells #[.int .i64 0,.int .i64 0,.int .i64 0,.int .i64 0] 40 (0,0)) (by (with_reducible repeat (first|refine ag ?_ _|refine ai ?_|refine af ?_ _));exact eQ.out) hb);have bP:=aj.mk (ay (by repeat (first|(with_reducible first|exact HB.out|apply au|apply ah|apply av|refine ak ?_ jZ.out|refine ak ?_ mE.out|refine ak ?_ p9.out)|exact HB.out)) hb);clear bL;clear eP;clear eQ;clear HB;have bL:=bB;have eP:=bC;have eQ:=bK;have HB:=bP;clear bB bC bK bP;(try clear hb);(try clear hb2);(try clear hk);(try clear hi);have atG:w66.cell? ⟨iq,0,none⟩ = some (.int .i64 0):=(aa eQ.out 0).trans rfl;have atH:w66.cell? ⟨iq,1,none⟩ = some (.int .i64 0):=(aa eQ.out 1).trans rfl;have atJ:w66.cell? ⟨iq,2,none⟩ = some (.int .i64 0):=(aa eQ.out 2).trans rfl;have atK:w66.cell? ⟨iq,3,none⟩ = some (.int .i64 0):=(aa eQ.out 3).trans rfl;have atL:=ae eQ.out 0;have atM:=ae eQ.out 1;have atN:=ae eQ.out 2;have atO:=ae eQ.out 3))
          refine bodyPost_ret (iw rfl _ _ iq 40 #[.int .i64 0,.int .i64 0,.int .i64 0,.int .i64 0] (0,0) _ rfl (by (with_reducible repeat (first|refine ag ?_ _|refine ai ?_|refine af ?_ _));refine aW (cs:=#[.int .i64 0,.int .i64 0,.int .i64 0,.int .i64 0]) ?_ 3 _ rfl;(with_reducible repeat (first|refine ag ?_ _|refine ai ?_|refine af ?_ _));refine aW (cs:=#[.int .i64 0,.int .i64 0,.int .i64 0,.int .i64 0]) ?_ 2 _ rfl;(with_reducible repeat (first|refine ag ?_ _|refine ai ?_|refine af ?_ _));refine aW (cs:=#[.int .i64 0,.int .i64 0,.int .i64 0,.int .i64 0]) ?_ 1 _ rfl;(with_reducible repeat (first|refine ag ?_ _|refine ai ?_|refine af ?_ _));refine aW (cs:=#[.int .i64 0,.int .i64 0,.int .i64 0,.int .i64 0]) ?_ 0 _ rfl;(with_reducible repeat (first|refine ag ?_ _|refine ai ?_|refine af ?_ _));exact eQ.out) Try.underlying40 rfl (by kernel_rfl)) rfl ?_
          exact ⟨by first|rfl|(simp [aQ,aT] <;> rfl)|(simp [*,aQ,aT] <;> rfl),by repeat (first|(with_reducible first|exact HB.out|apply au|apply ah|apply av|refine ak ?_ jZ.out|refine ak ?_ mE.out|refine ak ?_ p9.out)|exact HB.out)⟩
  ·replace c9:=Bool.eq_false_iff.mpr c9
   subst c9
   have H1:(some (0,0,0,0,2)) = some (r1,r2,r3,r4,r5):=by rw [if_neg (show ¬ (false = true) by decide)] at H;exact H
   clear H
   have H:=H1
   clear H1
   simp only [Option.some.injEq,Prod.mk.injEq] at H
   obtain ⟨rfl,rfl,rfl,rfl,rfl⟩:=H
   go_enter Try.func24,Try.ntmps24
   go_wp2_with (first|((with_reducible refine bu (N:=5) rfl ?_);refine aY ?hg (N:=5) ?hd (cs:=#[.int .i64 aC,.int .i64 aD,.int .i64 aG,.int .i64 aH,.int .i64 aN,.int .i64 aK,.int .i64 aJ,.slice bG aX.length bH,.slice bO aM.length bM]) (t:=25) ?hr ?_;(case hd=>rfl);(case hg=>rfl);(case hr=>first|(go_simp;done)|(go_simp;rfl));intro dA hg w68 hbox hb;have bB:=aj.mk (ay (by repeat (first|(with_reducible first|exact HB.out|apply au|apply ah|apply av)|exact HB.out)) hb);have bC:=aj.mk (hbox);have bK:=aj.mk ((by rw [hg];exact (aA (by repeat (first|(with_reducible first|exact HB.out|apply au|apply ah|apply av)|exact HB.out))):w.heap.size≤dA));have bP:=aj.mk ((by rw [hg];exact (aA (by repeat (first|(with_reducible first|exact HB.out|apply au|apply ah|apply av)|exact HB.out))):w.heap.size≤dA));clear HB;have HB:=bB;have bL:=bC;have agp:=bK;have jZ:=bP;clear bB bC bK bP;clear hb hbox hg)|((with_reducible refine bu (N:=6) rfl ?_);refine aY ?hg (N:=6) ?hd (cs:=#[.int .i64 bz,.int .i64 bA,.int .i64 bI,.int .i64 bJ]) (t:=31) ?hr ?_;(case hd=>rfl);(case hg=>rfl);(case hr=>first|(go_simp;done)|(go_simp;rfl));intro iy hg w69 hbox hb;have bB:=aj.mk (ax (g:=dA) (o:=.cells #[.int .i64 aC,.int .i64 aD,.int .i64 aG,.int .i64 aH,.int .i64 aN,.int .i64 aK,.int .i64 aJ,.slice bG aX.length bH,.slice bO aM.length bM] 25 (0,0)) (by (with_reducible repeat (first|refine ag ?_ _|refine ai ?_|refine af ?_ _));exact bL.out) hb);have bC:=aj.mk (ay (by repeat (first|(with_reducible first|exact HB.out|apply au|apply ah|apply av|refine ak ?_ jZ.out)|exact HB.out)) hb);have bK:=aj.mk (hbox);have bP:=aj.mk ((by rw [hg];exact (aA (by repeat (first|(with_reducible first|exact HB.out|apply au|apply ah|apply av|refine ak ?_ jZ.out)|exact HB.out))):w.heap.size≤iy));have dX:=aj.mk ((by rw [hg];exact (aA (by repeat (first|(with_reducible first|exact HB.out|apply au|apply ah|apply av|refine ak ?_ jZ.out)|exact HB.out))):w.heap.size≤iy));have fB:=aj.mk ((by rw [hg];exact Nat.ne_of_lt (aU (g:=dA) (o:=.cells #[.int .i64 aC,.int .i64 aD,.int .i64 aG,.int .i64 aH,.int .i64 aN,.int .i64 aK,.int .i64 aJ,.slice bG aX.length bH,.slice bO aM.length bM] 25 (0,0)) (by (with_reducible repeat (first|refine ag ?_ _|refine ai ?_|refine af ?_ _));exact bL.out)):dA≠iy));have gD:=aj.mk ((by rw [hg];exact Nat.ne_of_gt (aU (g:=dA) (o:=.cells #[.int .i64 aC,.int .i64 aD,.int .i64 aG,.int .i64 aH,.int .i64 aN,.int .i64 aK,.int .i64 aJ,.slice bG aX.length bH,.slice bO aM.length bM] 25 (0,0)) (by (with_reducible repeat (first|refine ag ?_ _|refine ai ?_|refine af ?_ _));exact bL.out)):iy≠dA));clear bL;clear HB;have bL:=bB;have HB:=bC;have eP:=bK;have agq:=bP;have mE:=dX;have qV:=fB;have qW:=gD;clear bB bC bK bP dX fB gD;clear hb hbox hg)|((with_reducible refine bu (N:=10) rfl ?_);refine aY ?hg (N:=10) ?hd (cs:=#[.int .i64 0,.int .i64 0,.int .i64 0,.int .i64 0]) (t:=40) ?hr ?_;(case hd=>rfl);(case hg=>rfl);(case hr=>first|(go_simp;done)|(go_simp;rfl));intro iq hg QF hbox hb;have bB:=aj.mk (ax (g:=dA) (o:=.cells #[.int .i64 aC,.int .i64 aD,.int .i64 aG,.int .i64 aH,.int .i64 aN,.int .i64 aK,.int .i64 aJ,.slice bG aX.length bH,.slice bO aM.length bM] 25 (0,0)) (by (with_reducible repeat (first|refine ag ?_ _|refine ai ?_|refine af ?_ _));exact bL.out) hb);have bC:=aj.mk (ax (g:=iy) (o:=.cells #[.int .i64 bz,.int .i64 bA,.int .i64 bI,.int .i64 bJ] 31 (0,0)) (by (with_reducible repeat (first|refine ag ?_ _|refine ai ?_|refine af ?_ _));exact eP.out) hb);have bK:=aj.mk (ay (by repeat (first|(with_reducible first|exact HB.out|apply au|apply ah|apply av|refine ak ?_ jZ.out|refine ak ?_ mE.out)|exact HB.out)) hb);have bP:=aj.mk (hbox);have dX:=aj.mk ((by rw [hg];exact (aA (by repeat (first|(with_reducible first|exact HB.out|apply au|apply ah|apply av|refine ak ?_ jZ.out|refine ak ?_ mE.out)|exact HB.out))):w.heap.size≤iq));have fB:=aj.mk ((by rw [hg];exact (aA (by repeat (first|(with_reducible first|exact HB.out|apply au|apply ah|apply av|refine ak ?_ jZ.out|refine ak ?_ mE.out)|exact HB.out))):w.heap.size≤iq));have gD:=aj.mk ((by rw [hg];exact Nat.ne_of_lt (aU (g:=dA) (o:=.cells #[.int .i64 aC,.int .i64 aD,.int .i64 aG,.int .i64 aH,.int .i64 aN,.int .i64 aK,.int .i64 aJ,.slice bG aX.length bH,.slice bO aM.length bM] 25 (0,0)) (by (with_reducible repeat (first|refine ag ?_ _|refine ai ?_|refine af ?_ _));exact bL.out)):dA≠iq));have jK:=aj.mk ((by rw [hg];exact Nat.ne_of_gt (aU (g:=dA) (o:=.cells #[.int .i64 aC,.int .i64 aD,.int .i64 aG,.int .i64 aH,.int .i64 aN,.int .i64 aK,.int .i64 aJ,.slice bG aX.length bH,.slice bO aM.length bM] 25 (0,0)) (by (with_reducible repeat (first|refine ag ?_ _|refine ai ?_|refine af ?_ _));exact bL.out)):iq≠dA));have jL:=aj.mk ((by rw [hg];exact Nat.ne_of_lt (aU (g:=iy) (o:=.cells #[.int .i64 bz,.int .i64 bA,.int .i64 bI,.int .i64 bJ] 31 (0,0)) (by (with_reducible repeat (first|refine ag ?_ _|refine ai ?_|refine af ?_ _));exact eP.out)):iy≠iq));have kL:=aj.mk ((by rw [hg];exact Nat.ne_of_gt (aU (g:=iy) (o:=.cells #[.int .i64 bz,.int .i64 bA,.int .i64 bI,.int .i64 bJ] 31 (0,0)) (by (with_reducible repeat (first|refine ag ?_ _|refine ai ?_|refine af ?_ _));exact eP.out)):iq≠iy));clear bL;clear eP;clear HB;have bL:=bB;have eP:=bC;have HB:=bK;have eQ:=bP;have agr:=dX;have p9:=fB;have o8:=gD;have o9:=jK;have qb:=jL;have qc:=kL;clear bB bC bK bP dX fB gD jK jL kL;clear hb hbox hg;have af3:=qV.out;have af4:=qW.out;have Zo:=o8.out;have Zp:=o9.out;have adS:QF.cell? ⟨dA,0,none⟩ = some (.int .i64 aC):=(aa bL.out 0).trans rfl;have adT:QF.cell? ⟨dA,1,none⟩ = some (.int .i64 aD):=(aa bL.out 1).trans rfl;have adU:QF.cell? ⟨dA,2,none⟩ = some (.int .i64 aG):=(aa bL.out 2).trans rfl;have adV:QF.cell? ⟨dA,3,none⟩ = some (.int .i64 aH):=(aa bL.out 3).trans rfl;have adW:QF.cell? ⟨dA,4,none⟩ = some (.int .i64 aN):=(aa bL.out 4).trans rfl;have adX:QF.cell? ⟨dA,5,none⟩ = some (.int .i64 aK):=(aa bL.out 5).trans rfl;have adY:QF.cell? ⟨dA,6,none⟩ = some (.int .i64 aJ):=(aa bL.out 6).trans rfl;have atP:QF.cell? ⟨dA,7,none⟩ = some (.slice bG aX.length bH):=(aa bL.out 7).trans rfl;have atQ:QF.cell? ⟨dA,8,none⟩ = some (.slice bO aM.length bM):=(aa bL.out 8).trans rfl;have adZ:=ae bL.out 0;have ad1:=ae bL.out 1;have ad2:=ae bL.out 2;have ad3:=ae bL.out 3;have ad4:=ae bL.out 4;have ad5:=ae bL.out 5;have ad6:=ae bL.out 6;have atS:=ae bL.out 7;have atT:=ae bL.out 8)|((with_reducible refine bT (f:=26) rfl ?_);refine fM (some 13) rfl rfl Try.func26 (by kernel_rfl) rfl #[.agg #[.int .i64 aC,.int .i64 aD,.int .i64 aG,.int .i64 aH,.int .i64 aN,.int .i64 aK,.int .i64 aJ,.slice bG aX.length bH,.slice bO aM.length bM]] rfl (by (try simp only [List.map_toArray,List.map_cons,List.map_nil]);first|done|rfl|(simp only [List.length_drop,List.length_take];rfl)) ?_;(with_reducible refine (aI.calls k aC aD aG aH aN aK aJ _ _ aX _ _ aM Ih _ ?gm ?gp ?gQ ?gT A6.out).mono ?_);(case gm=>repeat (first|exact (Kd.dF jR.out HB.out)|(with_reducible refine Kd.dO ?_ _)|(with_reducible refine Kd.dP ?_ _)|(with_reducible refine Kd.eO ?_)));(case gp=>exact jS.out);(case gQ=>repeat (first|exact (Kd.dF jm.out HB.out)|(with_reducible refine Kd.dO ?_ _)|(with_reducible refine Kd.dP ?_ _)|(with_reducible refine Kd.eO ?_)));(case gT=>exact kg.out);rintro e w74 ⟨rfl,hb⟩;refine ⟨_,rfl,?_⟩;have bB:=aj.mk (ax (g:=dA) (o:=.cells #[.int .i64 aC,.int .i64 aD,.int .i64 aG,.int .i64 aH,.int .i64 aN,.int .i64 aK,.int .i64 aJ,.slice bG aX.length bH,.slice bO aM.length bM] 25 (0,0)) (by (with_reducible repeat (first|refine ag ?_ _|refine ai ?_|refine af ?_ _));exact bL.out) hb);have bC:=aj.mk (ax (g:=iy) (o:=.cells #[.int .i64 bz,.int .i64 bA,.int .i64 bI,.int .i64 bJ] 31 (0,0)) (by (with_reducible repeat (first|refine ag ?_ _|refine ai ?_|refine af ?_ _));exact eP.out) hb);have bK:=aj.mk (ax (g:=iq) (o:=.cells #[.int .i64 0,.int .i64 0,.int .i64 0,.int .i64 0] 40 (0,0)) (by (with_reducible repeat (first|refine ag ?_ _|refine ai ?_|refine af ?_ _));exact eQ.out) hb);have bP:=aj.mk (ay (by repeat (first|(with_reducible first|exact HB.out|apply au|apply ah|apply av|refine ak ?_ jZ.out|refine ak ?_ mE.out|refine ak ?_ p9.out)|exact HB.out)) hb);clear bL;clear eP;clear eQ;clear HB;have bL:=bB;have eP:=bC;have eQ:=bK;have HB:=bP;clear bB bC bK bP;(try clear hb);(try clear hb2);(try clear hk);(try clear hi);have ajx:=qb.out;have ajy:=qc.out;have abM:w74.cell? ⟨iy,0,none⟩ = some (.int .i64 bz):=(aa eP.out 0).trans rfl;have abN:w74.cell? ⟨iy,1,none⟩ = some (.int .i64 bA):=(aa eP.out 1).trans rfl;have abO:w74.cell? ⟨iy,2,none⟩ = some (.int .i64 bI):=(aa eP.out 2).trans rfl;have abP:w74.cell? ⟨iy,3,none⟩ = some (.int .i64 bJ):=(aa eP.out 3).trans rfl;have abQ:=ae eP.out 0;have abR:=ae eP.out 1;have abS:=ae eP.out 2;have abT:=ae eP.out 3)|((with_reducible refine bT (f:=63) rfl ?_);refine fM (some 19) rfl rfl Try.func63 (by kernel_rfl) rfl #[.agg #[.int .i64 bz,.int .i64 bA,.int .i64 bI,.int .i64 bJ]] rfl (by (try simp only [List.map_toArray,List.map_cons,List.map_nil]);first|done|rfl|(simp only [List.length_drop,List.length_take];rfl)) ?_;(with_reducible refine (dW.calls bz bA bI bJ false _ A8.out).mono ?_);rintro e WH ⟨rfl,hb⟩;refine ⟨_,rfl,?_⟩;have bB:=aj.mk (ax (g:=dA) (o:=.cells #[.int .i64 aC,.int .i64 aD,.int .i64 aG,.int .i64 aH,.int .i64 aN,.int .i64 aK,.int .i64 aJ,.slice bG aX.length bH,.slice bO aM.length bM] 25 (0,0)) (by (with_reducible repeat (first|refine ag ?_ _|refine ai ?_|refine af ?_ _));exact bL.out) hb);have bC:=aj.mk (ax (g:=iy) (o:=.cells #[.int .i64 bz,.int .i64 bA,.int .i64 bI,.int .i64 bJ] 31 (0,0)) (by (with_reducible repeat (first|refine ag ?_ _|refine ai ?_|refine af ?_ _));exact eP.out) hb);have bK:=aj.mk (ax (g:=iq) (o:=.cells #[.int .i64 0,.int .i64 0,.int .i64 0,.int .i64 0] 40 (0,0)) (by (with_reducible repeat (first|refine ag ?_ _|refine ai ?_|refine af ?_ _));exact eQ.out) hb);have bP:=aj.mk (ay (by repeat (first|(with_reducible first|exact HB.out|apply au|apply ah|apply av|refine ak ?_ jZ.out|refine ak ?_ mE.out|refine ak ?_ p9.out)|exact HB.out)) hb);clear bL;clear eP;clear eQ;clear HB;have bL:=bB;have eP:=bC;have eQ:=bK;have HB:=bP;clear bB bC bK bP;(try clear hb);(try clear hb2);(try clear hk);(try clear hi);have acV:WH.cell? ⟨iq,0,none⟩ = some (.int .i64 0):=(aa eQ.out 0).trans rfl;have acW:WH.cell? ⟨iq,1,none⟩ = some (.int .i64 0):=(aa eQ.out 1).trans rfl;have acX:WH.cell? ⟨iq,2,none⟩ = some (.int .i64 0):=(aa eQ.out 2).trans rfl;have acY:WH.cell? ⟨iq,3,none⟩ = some (.int .i64 0):=(aa eQ.out 3).trans rfl;have acZ:=ae eQ.out 0;have ac0:=ae eQ.out 1;have ac1:=ae eQ.out 2;have ac2:=ae eQ.out 3))
   refine bodyPost_ret (iw rfl _ _ iq 40 #[.int .i64 0,.int .i64 0,.int .i64 0,.int .i64 0] (0,0) _ rfl (by (with_reducible repeat (first|refine ag ?_ _|refine ai ?_|refine af ?_ _));refine aW (cs:=#[.int .i64 0,.int .i64 0,.int .i64 0,.int .i64 0]) ?_ 3 _ rfl;(with_reducible repeat (first|refine ag ?_ _|refine ai ?_|refine af ?_ _));refine aW (cs:=#[.int .i64 0,.int .i64 0,.int .i64 0,.int .i64 0]) ?_ 2 _ rfl;(with_reducible repeat (first|refine ag ?_ _|refine ai ?_|refine af ?_ _));refine aW (cs:=#[.int .i64 0,.int .i64 0,.int .i64 0,.int .i64 0]) ?_ 1 _ rfl;(with_reducible repeat (first|refine ag ?_ _|refine ai ?_|refine af ?_ _));refine aW (cs:=#[.int .i64 0,.int .i64 0,.int .i64 0,.int .i64 0]) ?_ 0 _ rfl;(with_reducible repeat (first|refine ag ?_ _|refine ai ?_|refine af ?_ _));exact eQ.out) Try.underlying40 rfl (by kernel_rfl)) rfl ?_
   exact ⟨by first|rfl|(simp [aQ,aT] <;> rfl)|(simp [*,aQ,aT] <;> rfl),by repeat (first|(with_reducible first|exact HB.out|apply au|apply ah|apply av|refine ak ?_ jZ.out|refine ak ?_ mE.out|refine ak ?_ p9.out)|exact HB.out)⟩
 ·rw [if_neg c7] at H
  have ZL:(Ih == 0) = false:=beq_eq_false_iff_ne.mpr c7
  have ahn:(Ih != 0) = true:=bne_iff_ne.mpr c7
  replace H:=Option.bind_eq_some_iff.mp H
  obtain ⟨QT,aof,H⟩:=H
  replace H:(some (0,0,0,0,QT)) = some (r1,r2,r3,r4,r5):=H
  have A79:=aj.mk aof
  clear aof
  simp only [Option.some.injEq,Prod.mk.injEq] at H
  obtain ⟨rfl,rfl,rfl,rfl,rfl⟩:=H
  go_enter Try.func24,Try.ntmps24
  go_wp2_with (first|((with_reducible refine bu (N:=5) rfl ?_);refine aY ?hg (N:=5) ?hd (cs:=#[.int .i64 aC,.int .i64 aD,.int .i64 aG,.int .i64 aH,.int .i64 aN,.int .i64 aK,.int .i64 aJ,.slice bG aX.length bH,.slice bO aM.length bM]) (t:=25) ?hr ?_;(case hd=>rfl);(case hg=>rfl);(case hr=>first|(go_simp;done)|(go_simp;rfl));intro dA hg w80 hbox hb;have bB:=aj.mk (ay (by repeat (first|(with_reducible first|exact HB.out|apply au|apply ah|apply av)|exact HB.out)) hb);have bC:=aj.mk (hbox);have bK:=aj.mk ((by rw [hg];exact (aA (by repeat (first|(with_reducible first|exact HB.out|apply au|apply ah|apply av)|exact HB.out))):w.heap.size≤dA));have bP:=aj.mk ((by rw [hg];exact (aA (by repeat (first|(with_reducible first|exact HB.out|apply au|apply ah|apply av)|exact HB.out))):w.heap.size≤dA));clear HB;have HB:=bB;have bL:=bC;have agp:=bK;have jZ:=bP;clear bB bC bK bP;clear hb hbox hg)|((with_reducible refine bu (N:=6) rfl ?_);refine aY ?hg (N:=6) ?hd (cs:=#[.int .i64 bz,.int .i64 bA,.int .i64 bI,.int .i64 bJ]) (t:=31) ?hr ?_;(case hd=>rfl);(case hg=>rfl);(case hr=>first|(go_simp;done)|(go_simp;rfl));intro iy hg w81 hbox hb;have bB:=aj.mk (ax (g:=dA) (o:=.cells #[.int .i64 aC,.int .i64 aD,.int .i64 aG,.int .i64 aH,.int .i64 aN,.int .i64 aK,.int .i64 aJ,.slice bG aX.length bH,.slice bO aM.length bM] 25 (0,0)) (by (with_reducible repeat (first|refine ag ?_ _|refine ai ?_|refine af ?_ _));exact bL.out) hb);have bC:=aj.mk (ay (by repeat (first|(with_reducible first|exact HB.out|apply au|apply ah|apply av|refine ak ?_ jZ.out)|exact HB.out)) hb);have bK:=aj.mk (hbox);have bP:=aj.mk ((by rw [hg];exact (aA (by repeat (first|(with_reducible first|exact HB.out|apply au|apply ah|apply av|refine ak ?_ jZ.out)|exact HB.out))):w.heap.size≤iy));have dX:=aj.mk ((by rw [hg];exact (aA (by repeat (first|(with_reducible first|exact HB.out|apply au|apply ah|apply av|refine ak ?_ jZ.out)|exact HB.out))):w.heap.size≤iy));have fB:=aj.mk ((by rw [hg];exact Nat.ne_of_lt (aU (g:=dA) (o:=.cells #[.int .i64 aC,.int .i64 aD,.int .i64 aG,.int .i64 aH,.int .i64 aN,.int .i64 aK,.int .i64 aJ,.slice bG aX.length bH,.slice bO aM.length bM] 25 (0,0)) (by (with_reducible repeat (first|refine ag ?_ _|refine ai ?_|refine af ?_ _));exact bL.out)):dA≠iy));have gD:=aj.mk ((by rw [hg];exact Nat.ne_of_gt (aU (g:=dA) (o:=.cells #[.int .i64 aC,.int .i64 aD,.int .i64 aG,.int .i64 aH,.int .i64 aN,.int .i64 aK,.int .i64 aJ,.slice bG aX.length bH,.slice bO aM.length bM] 25 (0,0)) (by (with_reducible repeat (first|refine ag ?_ _|refine ai ?_|refine af ?_ _));exact bL.out)):iy≠dA));clear bL;clear HB;have bL:=bB;have HB:=bC;have eP:=bK;have agq:=bP;have mE:=dX;have qV:=fB;have qW:=gD;clear bB bC bK bP dX fB gD;clear hb hbox hg)|((with_reducible refine bu (N:=10) rfl ?_);refine aY ?hg (N:=10) ?hd (cs:=#[.int .i64 0,.int .i64 0,.int .i64 0,.int .i64 0]) (t:=40) ?hr ?_;(case hd=>rfl);(case hg=>rfl);(case hr=>first|(go_simp;done)|(go_simp;rfl));intro iq hg w82 hbox hb;have bB:=aj.mk (ax (g:=dA) (o:=.cells #[.int .i64 aC,.int .i64 aD,.int .i64 aG,.int .i64 aH,.int .i64 aN,.int .i64 aK,.int .i64 aJ,.slice bG aX.length bH,.slice bO aM.length bM] 25 (0,0)) (by (with_reducible repeat (first|refine ag ?_ _|refine ai ?_|refine af ?_ _));exact bL.out) hb);have bC:=aj.mk (ax (g:=iy) (o:=.cells #[.int .i64 bz,.int .i64 bA,.int .i64 bI,.int .i64 bJ] 31 (0,0)) (by (with_reducible repeat (first|refine ag ?_ _|refine ai ?_|refine af ?_ _));exact eP.out) hb);have bK:=aj.mk (ay (by repeat (first|(with_reducible first|exact HB.out|apply au|apply ah|apply av|refine ak ?_ jZ.out|refine ak ?_ mE.out)|exact HB.out)) hb);have bP:=aj.mk (hbox);have dX:=aj.mk ((by rw [hg];exact (aA (by repeat (first|(with_reducible first|exact HB.out|apply au|apply ah|apply av|refine ak ?_ jZ.out|refine ak ?_ mE.out)|exact HB.out))):w.heap.size≤iq));have fB:=aj.mk ((by rw [hg];exact (aA (by repeat (first|(with_reducible first|exact HB.out|apply au|apply ah|apply av|refine ak ?_ jZ.out|refine ak ?_ mE.out)|exact HB.out))):w.heap.size≤iq));have gD:=aj.mk ((by rw [hg];exact Nat.ne_of_lt (aU (g:=dA) (o:=.cells #[.int .i64 aC,.int .i64 aD,.int .i64 aG,.int .i64 aH,.int .i64 aN,.int .i64 aK,.int .i64 aJ,.slice bG aX.length bH,.slice bO aM.length bM] 25 (0,0)) (by (with_reducible repeat (first|refine ag ?_ _|refine ai ?_|refine af ?_ _));exact bL.out)):dA≠iq));have jK:=aj.mk ((by rw [hg];exact Nat.ne_of_gt (aU (g:=dA) (o:=.cells #[.int .i64 aC,.int .i64 aD,.int .i64 aG,.int .i64 aH,.int .i64 aN,.int .i64 aK,.int .i64 aJ,.slice bG aX.length bH,.slice bO aM.length bM] 25 (0,0)) (by (with_reducible repeat (first|refine ag ?_ _|refine ai ?_|refine af ?_ _));exact bL.out)):iq≠dA));have jL:=aj.mk ((by rw [hg];exact Nat.ne_of_lt (aU (g:=iy) (o:=.cells #[.int .i64 bz,.int .i64 bA,.int .i64 bI,.int .i64 bJ] 31 (0,0)) (by (with_reducible repeat (first|refine ag ?_ _|refine ai ?_|refine af ?_ _));exact eP.out)):iy≠iq));have kL:=aj.mk ((by rw [hg];exact Nat.ne_of_gt (aU (g:=iy) (o:=.cells #[.int .i64 bz,.int .i64 bA,.int .i64 bI,.int .i64 bJ] 31 (0,0)) (by (with_reducible repeat (first|refine ag ?_ _|refine ai ?_|refine af ?_ _));exact eP.out)):iq≠iy));clear bL;clear eP;clear HB;have bL:=bB;have eP:=bC;have HB:=bK;have eQ:=bP;have agr:=dX;have p9:=fB;have o8:=gD;have o9:=jK;have qb:=jL;have qc:=kL;clear bB bC bK bP dX fB gD jK jL kL;clear hb hbox hg;have ajD:=qV.out;have ajE:=qW.out;have ajF:=o8.out;have ajG:=o9.out;have atU:w82.cell? ⟨dA,0,none⟩ = some (.int .i64 aC):=(aa bL.out 0).trans rfl;have atV:w82.cell? ⟨dA,1,none⟩ = some (.int .i64 aD):=(aa bL.out 1).trans rfl;have atW:w82.cell? ⟨dA,2,none⟩ = some (.int .i64 aG):=(aa bL.out 2).trans rfl;have atX:w82.cell? ⟨dA,3,none⟩ = some (.int .i64 aH):=(aa bL.out 3).trans rfl;have atY:w82.cell? ⟨dA,4,none⟩ = some (.int .i64 aN):=(aa bL.out 4).trans rfl;have atZ:w82.cell? ⟨dA,5,none⟩ = some (.int .i64 aK):=(aa bL.out 5).trans rfl;have at0:w82.cell? ⟨dA,6,none⟩ = some (.int .i64 aJ):=(aa bL.out 6).trans rfl;have at1:w82.cell? ⟨dA,7,none⟩ = some (.slice bG aX.length bH):=(aa bL.out 7).trans rfl;have at5:w82.cell? ⟨dA,8,none⟩ = some (.slice bO aM.length bM):=(aa bL.out 8).trans rfl;have at6:=ae bL.out 0;have at7:=ae bL.out 1;have aua:=ae bL.out 2;have aub:=ae bL.out 3;have auc:=ae bL.out 4;have aud:=ae bL.out 5;have aue:=ae bL.out 6;have auf:=ae bL.out 7;have aug:=ae bL.out 8)|((with_reducible refine bT (f:=26) rfl ?_);refine fM (some 13) rfl rfl Try.func26 (by kernel_rfl) rfl #[.agg #[.int .i64 aC,.int .i64 aD,.int .i64 aG,.int .i64 aH,.int .i64 aN,.int .i64 aK,.int .i64 aJ,.slice bG aX.length bH,.slice bO aM.length bM]] rfl (by (try simp only [List.map_toArray,List.map_cons,List.map_nil]);first|done|rfl|(simp only [List.length_drop,List.length_take];rfl)) ?_;(with_reducible refine (aI.calls k aC aD aG aH aN aK aJ _ _ aX _ _ aM Ih _ ?gm ?gp ?gQ ?gT A6.out).mono ?_);(case gm=>repeat (first|exact (Kd.dF jR.out HB.out)|(with_reducible refine Kd.dO ?_ _)|(with_reducible refine Kd.dP ?_ _)|(with_reducible refine Kd.eO ?_)));(case gp=>exact jS.out);(case gQ=>repeat (first|exact (Kd.dF jm.out HB.out)|(with_reducible refine Kd.dO ?_ _)|(with_reducible refine Kd.dP ?_ _)|(with_reducible refine Kd.eO ?_)));(case gT=>exact kg.out);rintro e w86 ⟨rfl,hb⟩;refine ⟨_,rfl,?_⟩;have bB:=aj.mk (ax (g:=dA) (o:=.cells #[.int .i64 aC,.int .i64 aD,.int .i64 aG,.int .i64 aH,.int .i64 aN,.int .i64 aK,.int .i64 aJ,.slice bG aX.length bH,.slice bO aM.length bM] 25 (0,0)) (by (with_reducible repeat (first|refine ag ?_ _|refine ai ?_|refine af ?_ _));exact bL.out) hb);have bC:=aj.mk (ax (g:=iy) (o:=.cells #[.int .i64 bz,.int .i64 bA,.int .i64 bI,.int .i64 bJ] 31 (0,0)) (by (with_reducible repeat (first|refine ag ?_ _|refine ai ?_|refine af ?_ _));exact eP.out) hb);have bK:=aj.mk (ax (g:=iq) (o:=.cells #[.int .i64 0,.int .i64 0,.int .i64 0,.int .i64 0] 40 (0,0)) (by (with_reducible repeat (first|refine ag ?_ _|refine ai ?_|refine af ?_ _));exact eQ.out) hb);have bP:=aj.mk (ay (by repeat (first|(with_reducible first|exact HB.out|apply au|apply ah|apply av|refine ak ?_ jZ.out|refine ak ?_ mE.out|refine ak ?_ p9.out)|exact HB.out)) hb);clear bL;clear eP;clear eQ;clear HB;have bL:=bB;have eP:=bC;have eQ:=bK;have HB:=bP;clear bB bC bK bP;(try clear hb);(try clear hb2);(try clear hk);(try clear hi);have auh:w86.cell? ⟨dA,0,none⟩ = some (.int .i64 aC):=(aa bL.out 0).trans rfl;have aui:w86.cell? ⟨dA,1,none⟩ = some (.int .i64 aD):=(aa bL.out 1).trans rfl;have auj:w86.cell? ⟨dA,2,none⟩ = some (.int .i64 aG):=(aa bL.out 2).trans rfl;have auk:w86.cell? ⟨dA,3,none⟩ = some (.int .i64 aH):=(aa bL.out 3).trans rfl;have aul:w86.cell? ⟨dA,4,none⟩ = some (.int .i64 aN):=(aa bL.out 4).trans rfl;have aum:w86.cell? ⟨dA,5,none⟩ = some (.int .i64 aK):=(aa bL.out 5).trans rfl;have aun:w86.cell? ⟨dA,6,none⟩ = some (.int .i64 aJ):=(aa bL.out 6).trans rfl;have auo:w86.cell? ⟨dA,7,none⟩ = some (.slice bG aX.length bH):=(aa bL.out 7).trans rfl;have aup:w86.cell? ⟨dA,8,none⟩ = some (.slice bO aM.length bM):=(aa bL.out 8).trans rfl;have auq:=ae bL.out 0;have aur:=ae bL.out 1;have aus:=ae bL.out 2;have aut:=ae bL.out 3;have auu:=ae bL.out 4;have auv:=ae bL.out 5;have auw:=ae bL.out 6;have auy:=ae bL.out 7;have auz:=ae bL.out 8)|((with_reducible refine bT (f:=26) rfl ?_);refine fM (some 17) rfl rfl Try.func26 (by kernel_rfl) rfl #[.agg #[.int .i64 aC,.int .i64 aD,.int .i64 aG,.int .i64 aH,.int .i64 aN,.int .i64 aK,.int .i64 aJ,.slice bG aX.length bH,.slice bO aM.length bM]] rfl (by (try simp only [List.map_toArray,List.map_cons,List.map_nil]);first|done|rfl|(simp only [List.length_drop,List.length_take];rfl)) ?_;(with_reducible refine (aI.calls k aC aD aG aH aN aK aJ _ _ aX _ _ aM QT _ ?gm ?gp ?gQ ?gT A79.out).mono ?_);(case gm=>repeat (first|exact (Kd.dF jR.out HB.out)|(with_reducible refine Kd.dO ?_ _)|(with_reducible refine Kd.dP ?_ _)|(with_reducible refine Kd.eO ?_)));(case gp=>exact jS.out);(case gQ=>repeat (first|exact (Kd.dF jm.out HB.out)|(with_reducible refine Kd.dO ?_ _)|(with_reducible refine Kd.dP ?_ _)|(with_reducible refine Kd.eO ?_)));(case gT=>exact kg.out);rintro e w88 ⟨rfl,hb⟩;refine ⟨_,rfl,?_⟩;have bB:=aj.mk (ax (g:=dA) (o:=.cells #[.int .i64 aC,.int .i64 aD,.int .i64 aG,.int .i64 aH,.int .i64 aN,.int .i64 aK,.int .i64 aJ,.slice bG aX.length bH,.slice bO aM.length bM] 25 (0,0)) (by (with_reducible repeat (first|refine ag ?_ _|refine ai ?_|refine af ?_ _));exact bL.out) hb);have bC:=aj.mk (ax (g:=iy) (o:=.cells #[.int .i64 bz,.int .i64 bA,.int .i64 bI,.int .i64 bJ] 31 (0,0)) (by (with_reducible repeat (first|refine ag ?_ _|refine ai ?_|refine af ?_ _));exact eP.out) hb);have bK:=aj.mk (ax (g:=iq) (o:=.cells #[.int .i64 0,.int .i64 0,.int .i64 0,.int .i64 0] 40 (0,0)) (by (with_reducible repeat (first|refine ag ?_ _|refine ai ?_|refine af ?_ _));exact eQ.out) hb);have bP:=aj.mk (ay (by repeat (first|(with_reducible first|exact HB.out|apply au|apply ah|apply av|refine ak ?_ jZ.out|refine ak ?_ mE.out|refine ak ?_ p9.out)|exact HB.out)) hb);clear bL;clear eP;clear eQ;clear HB;have bL:=bB;have eP:=bC;have eQ:=bK;have HB:=bP;clear bB bC bK bP;(try clear hb);(try clear hb2);(try clear hk);(try clear hi);have ajH:=qc.out;have ajI:=qb.out;have auB:w88.cell? ⟨iq,0,none⟩ = some (.int .i64 0):=(aa eQ.out 0).trans rfl;have auC:w88.cell? ⟨iq,1,none⟩ = some (.int .i64 0):=(aa eQ.out 1).trans rfl;have auD:w88.cell? ⟨iq,2,none⟩ = some (.int .i64 0):=(aa eQ.out 2).trans rfl;have auE:w88.cell? ⟨iq,3,none⟩ = some (.int .i64 0):=(aa eQ.out 3).trans rfl;have auF:=ae eQ.out 0;have auG:=ae eQ.out 1;have auH:=ae eQ.out 2;have auI:=ae eQ.out 3))
  refine bodyPost_ret (iw rfl _ _ iq 40 #[.int .i64 0,.int .i64 0,.int .i64 0,.int .i64 0] (0,0) _ rfl (by (with_reducible repeat (first|refine ag ?_ _|refine ai ?_|refine af ?_ _));refine aW (cs:=#[.int .i64 0,.int .i64 0,.int .i64 0,.int .i64 0]) ?_ 3 _ rfl;(with_reducible repeat (first|refine ag ?_ _|refine ai ?_|refine af ?_ _));refine aW (cs:=#[.int .i64 0,.int .i64 0,.int .i64 0,.int .i64 0]) ?_ 2 _ rfl;(with_reducible repeat (first|refine ag ?_ _|refine ai ?_|refine af ?_ _));refine aW (cs:=#[.int .i64 0,.int .i64 0,.int .i64 0,.int .i64 0]) ?_ 1 _ rfl;(with_reducible repeat (first|refine ag ?_ _|refine ai ?_|refine af ?_ _));refine aW (cs:=#[.int .i64 0,.int .i64 0,.int .i64 0,.int .i64 0]) ?_ 0 _ rfl;(with_reducible repeat (first|refine ag ?_ _|refine ai ?_|refine af ?_ _));exact eQ.out) Try.underlying40 rfl (by kernel_rfl)) rfl ?_
  exact ⟨by first|rfl|(simp [aQ,aT] <;> rfl)|(simp [*,aQ,aT] <;> rfl),by repeat (first|(with_reducible first|exact HB.out|apply au|apply ah|apply av|refine ak ?_ jZ.out|refine ak ?_ mE.out|refine ak ?_ p9.out)|exact HB.out)⟩
end Go.Proofs.Ytmhaiihjfgfaoaa.Pr
end
