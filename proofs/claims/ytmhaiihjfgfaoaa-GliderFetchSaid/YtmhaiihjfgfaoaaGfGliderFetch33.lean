import Derived.Test.YtmhaiihjfgfaoaaGfGliderFetch3
import Derived.Test.YtmhaiihjfgfaoaaGfGliderFetch7
import Derived.Test.YtmhaiihjfgfaoaaGfGliderFetch17
import Derived.Test.YtmhaiihjfgfaoaaGfGliderFetch18
import Derived.Test.YtmhaiihjfgfaoaaGfGliderFetch29
import Derived.Test.YtmhaiihjfgfaoaaGfGliderFetch32
set_option linter.unusedVariables false
set_option linter.unusedSimpArgs false
open Go.Value renaming int → U
open Go.IntKind renaming i64 → Z
open Bool renaming true → ab, false → ac
section
namespace Go.Proofs.Ytmhaiihjfgfaoaa.Pr
open Go.RowKit Go.Proofs.YtmhaiihjfgfaoaaW.PrintWords Go.Proofs.YtmhaiihjfgfaoaaW.PrintLast Go.Proofs.YtmhaiihjfgfaoaaW.PrintMore
attribute [local go_sem] gp gq iA iB gu
set_option linter.unusedVariables false
set_option linter.unusedSimpArgs false
mutual
def ae.j0:Nat→Int→List (xN)→List Int→Bool→Int→Int→Int→Int→Int→Int→Int→List Bool→List (rq)→Int→Int→Int→Int→Int→Int→Int→Int→Int→Int→Int→Int→Int→Int→Int→Int→Int→Int→Int→Int→Int→Option (Bool)
 |0,_,_,_,_,_,_,_,_,_,_,_,_,_,_,_,_,_,_,_,_,_,_,_,_,_,_,_,_,_,_,_,_,_,_=>none
 |k+1,x3,x5,x8,x43,lh,nU,oo,qc,uK,pq,wN,wO,qd,nk,jZ,uL,uM,uN,uO,tC,ZN,ZO,ZP,ZQ,ZR,aiq,uP,uQ,uR,uS,uT,uU,avk,avl=>if x43 = true then ((bX.f k).bind fun ak7=>(some ak7)) else ((oh.f lh nU oo qc uK pq wN wO qd nk jZ uL uM uN uO tC ZN ZO ZP ZQ x3 ZR aiq x5 uP uQ uR uS uT uU).bind fun DK=>((je.f k lh nU oo qc uK pq wN wO qd nk jZ uL uM uN uO tC ZN ZO ZP ZQ x3 ZR aiq x5 uP uQ uR uS uT uU).bind fun OL=>(if DK = OL then (if DK = 0 then ((dz.f ZN ZO avk).bind fun Rh=>((dz.f ZP ZQ avl).bind fun Ql=>(ae.l0 k x3 x5 x8 (wrap64 (Rh*4000000)) (wrap64 (Ql*4000000)) false ZR 0 lh nU oo qc uK pq wN wO qd nk jZ uL uM uN uO tC uP uQ uR uS uT uU))) else ((bX.f k).bind fun Vz=>(some Vz))) else (some false))))
def ae.l0:Nat→Int→List (xN)→List Int→Int→Int→Bool→Int→Int→Int→Int→Int→Int→Int→Int→Int→List Bool→List (rq)→Int→Int→Int→Int→Int→Int→Int→Int→Int→Int→Int→Int→Int→Option (Bool)
 |0,_,_,_,_,_,_,_,_,_,_,_,_,_,_,_,_,_,_,_,_,_,_,_,_,_,_,_,_,_,_=>none
 |k+1,x3,x5,x8,x20,x21,x22,x23,x24,lh,nU,oo,qc,uK,pq,wN,wO,qd,nk,jZ,uL,uM,uN,uO,tC,uP,uQ,uR,uS,uT,uU=>if x24 < (x5.length:Int) then (if 0≤x24 then ((jI.f ((bJ x5 x24).f0)).bind fun Wy=>(if oo = 0 then (none) else (if qc = 0 then (none) else (if (mn (wrap64 (Int.tdiv (wrap64 (Int.tdiv x20 4000000)) oo)) (wrap64 (lh - 1))) < 0 then (ae.j2 k x3 x5 x8 x20 x21 x22 x23 x24 Wy.1 Wy.2 (wrap64 (x3+(wrap64 (x24*jZ)))) (mn (wrap64 (Int.tdiv (wrap64 (Int.tdiv x20 4000000)) oo)) (wrap64 (lh - 1))) (mn (wrap64 (Int.tdiv (wrap64 (Int.tdiv x21 4000000)) oo)) (wrap64 (nU - 1))) (wrap64 (Int.tdiv (wrap64 (x3+(wrap64 (x24*jZ)))) qc)) true lh nU oo qc uK pq wN wO qd nk jZ uL uM uN uO tC uP uQ uR uS uT uU) else (if (mn (wrap64 (Int.tdiv (wrap64 (Int.tdiv x21 4000000)) oo)) (wrap64 (nU - 1))) < 0 then (ae.j2 k x3 x5 x8 x20 x21 x22 x23 x24 Wy.1 Wy.2 (wrap64 (x3+(wrap64 (x24*jZ)))) (mn (wrap64 (Int.tdiv (wrap64 (Int.tdiv x20 4000000)) oo)) (wrap64 (lh - 1))) (mn (wrap64 (Int.tdiv (wrap64 (Int.tdiv x21 4000000)) oo)) (wrap64 (nU - 1))) (wrap64 (Int.tdiv (wrap64 (x3+(wrap64 (x24*jZ)))) qc)) true lh nU oo qc uK pq wN wO qd nk jZ uL uM uN uO tC uP uQ uR uS uT uU) else (ae.j2 k x3 x5 x8 x20 x21 x22 x23 x24 Wy.1 Wy.2 (wrap64 (x3+(wrap64 (x24*jZ)))) (mn (wrap64 (Int.tdiv (wrap64 (Int.tdiv x20 4000000)) oo)) (wrap64 (lh - 1))) (mn (wrap64 (Int.tdiv (wrap64 (Int.tdiv x21 4000000)) oo)) (wrap64 (nU - 1))) (wrap64 (Int.tdiv (wrap64 (x3+(wrap64 (x24*jZ)))) qc)) (decide ((wrap64 (Int.tdiv (wrap64 (x3+(wrap64 (x24*jZ)))) qc)) ≥ uK)) lh nU oo qc uK pq wN wO qd nk jZ uL uM uN uO tC uP uQ uR uS uT uU)))))) else (none)) else (if x22 = true then (if x23 ≥ tC then ((bX.f k).bind fun ak9=>(some ak9)) else (some false)) else (some false))
def ae.j2:Nat→Int→List (xN)→List Int→Int→Int→Bool→Int→Int→Int→Int→Int→Int→Int→Int→Bool→Int→Int→Int→Int→Int→Int→Int→List Bool→List (rq)→Int→Int→Int→Int→Int→Int→Int→Int→Int→Int→Int→Int→Int→Option (Bool)
 |0,_,_,_,_,_,_,_,_,_,_,_,_,_,_,_,_,_,_,_,_,_,_,_,_,_,_,_,_,_,_,_,_,_,_,_,_,_=>none
 |k+1,x3,x5,x8,x20,x21,x22,x23,x24,x25,x26,x27,x28,x29,x30,aYr,lh,nU,oo,qc,uK,pq,wN,wO,qd,nk,jZ,uL,uM,uN,uO,tC,uP,uQ,uR,uS,uT,uU=>if aYr = true then (some false) else (if 0≤x24 then (if x24 < (x5.length:Int) then (if 0≤(wrap64 ((wrap64 ((wrap64 ((wrap64 ((wrap64 ((wrap64 (x30*pq))+((bJ x5 x24).f1)))*lh))*nU))+(wrap64 (x29*lh))))+x28)) then (if (wrap64 ((wrap64 ((wrap64 ((wrap64 ((wrap64 ((wrap64 (x30*pq))+((bJ x5 x24).f1)))*lh))*nU))+(wrap64 (x29*lh))))+x28)) < (qd.length:Int) then ((fq.f x8 (wrap64 (2*x24))).bind fun IM=>((dz.f ((ay qd (wrap64 ((wrap64 ((wrap64 ((wrap64 ((wrap64 ((wrap64 (x30*pq))+((bJ x5 x24).f1)))*lh))*nU))+(wrap64 (x29*lh))))+x28))).f0.f0) ((ay qd (wrap64 ((wrap64 ((wrap64 ((wrap64 ((wrap64 ((wrap64 (x30*pq))+((bJ x5 x24).f1)))*lh))*nU))+(wrap64 (x29*lh))))+x28))).f0.f1) IM).bind fun nu=>((fq.f x8 (wrap64 ((wrap64 (2*x24))+1))).bind fun DF=>((dz.f ((ay qd (wrap64 ((wrap64 ((wrap64 ((wrap64 ((wrap64 ((wrap64 (x30*pq))+((bJ x5 x24).f1)))*lh))*nU))+(wrap64 (x29*lh))))+x28))).f1.f0) ((ay qd (wrap64 ((wrap64 ((wrap64 ((wrap64 ((wrap64 ((wrap64 (x30*pq))+((bJ x5 x24).f1)))*lh))*nU))+(wrap64 (x29*lh))))+x28))).f1.f1) DF).bind fun mJ=>((eF.f nk jZ uL uM uN uO tC ((bJ x5 x24).f0) ((bJ x5 x24).f1)).bind fun oH=>(if x22 = true then (ae.l0 k x3 x5 x8 (wrap64 (x20+(wrap64 ((wrap64 (4*(wrap64 ((wrap64 (x25*nk))+(wrap64 (1000*nu))))))*jZ)))) (wrap64 (x21+(wrap64 ((wrap64 (4*(wrap64 ((wrap64 (x26*nk))+(wrap64 (1000*mJ))))))*jZ)))) true (wrap64 (x23 - oH.2)) (wrap64 (x24+1)) lh nU oo qc uK pq wN wO qd nk jZ uL uM uN uO tC uP uQ uR uS uT uU) else (if (wrap64 (x27+jZ)) ≥ uT then (if (wrap64 (x27+jZ))≤uU then ((isobathlaw03_holds.f uP uQ uR uS (wrap64 (x20+(wrap64 ((wrap64 (4*(wrap64 ((wrap64 (x25*nk))+(wrap64 (1000*nu))))))*jZ)))) (wrap64 (x21+(wrap64 ((wrap64 (4*(wrap64 ((wrap64 (x26*nk))+(wrap64 (1000*mJ))))))*jZ))))).bind fun Fu=>(ae.l0 k x3 x5 x8 (wrap64 (x20+(wrap64 ((wrap64 (4*(wrap64 ((wrap64 (x25*nk))+(wrap64 (1000*nu))))))*jZ)))) (wrap64 (x21+(wrap64 ((wrap64 (4*(wrap64 ((wrap64 (x26*nk))+(wrap64 (1000*mJ))))))*jZ)))) Fu (wrap64 (x23 - oH.2)) (wrap64 (x24+1)) lh nU oo qc uK pq wN wO qd nk jZ uL uM uN uO tC uP uQ uR uS uT uU)) else (ae.l0 k x3 x5 x8 (wrap64 (x20+(wrap64 ((wrap64 (4*(wrap64 ((wrap64 (x25*nk))+(wrap64 (1000*nu))))))*jZ)))) (wrap64 (x21+(wrap64 ((wrap64 (4*(wrap64 ((wrap64 (x26*nk))+(wrap64 (1000*mJ))))))*jZ)))) false (wrap64 (x23 - oH.2)) (wrap64 (x24+1)) lh nU oo qc uK pq wN wO qd nk jZ uL uM uN uO tC uP uQ uR uS uT uU)) else (ae.l0 k x3 x5 x8 (wrap64 (x20+(wrap64 ((wrap64 (4*(wrap64 ((wrap64 (x25*nk))+(wrap64 (1000*nu))))))*jZ)))) (wrap64 (x21+(wrap64 ((wrap64 (4*(wrap64 ((wrap64 (x26*nk))+(wrap64 (1000*mJ))))))*jZ)))) false (wrap64 (x23 - oH.2)) (wrap64 (x24+1)) lh nU oo qc uK pq wN wO qd nk jZ uL uM uN uO tC uP uQ uR uS uT uU)))))))) else (none)) else (none)) else (none)) else (none))
end
def ae.f (k:Nat) (ai:Int) (aj:Int) (aC:Int) (aD:Int) (aJ:Int) (aH:Int) (aK:Int) (aT:List Bool) (ak:List (rq)) (aI:Int) (aG:Int) (bn:Int) (bq:Int) (bH:Int) (bI:Int) (bG:Int) (bZ:Int) (cz:Int) (dw:Int) (dx:Int) (a3:Int) (gD:Int) (gF:Int) (l5:List (xN)) (fO:Int) (fP:Int) (fQ:Int) (fT:Int) (fH:Int) (fI:Int) (BI:Int) (Al:Int) (l8:List Int):Option (Bool):=(lG.f k ai aj aC aD aJ aH aK aT ak aI aG bn bq bH bI bG bZ cz dw dx a3).bind fun ala=>(if ala = true then (ae.j0 k a3 l5 l8 (decide ((l5.length:Int) > 6)) ai aj aC aD aJ aH aK aT ak aI aG bn bq bH bI bG bZ cz dw dx gD gF fO fP fQ fT fH fI BI Al) else (ae.j0 k a3 l5 l8 true ai aj aC aD aJ aH aK aT ak aI aG bn bq bH bI bG bZ cz dw dx gD gF fO fP fQ fT fH fI BI Al))
def ae.T8:Bool × List (List Nat × List Nat):=(true,[([],[]),([0],[0]),([],[]),([2],[2]),([1,3],[1,3]),([4],[4]),([],[]),([6],[6]),([],[]),([8],[8]),([7,9,4],[7,9]),([10],[10]),([5,10,0,1,2,3,4,5],[5]),([11,12,0,1,2,3,4,5,6,7,8,9,10,11,12],[11])])
def ae.B8:List Nat:=[0,1,0,4,15,31,0,64,0,256,991,2015,2047,8191]
theorem ae.aoC:qA .any (opsOf Try.f11 8) = ae.T8:=by kernel_rfl
theorem ae.acU:mI ae.T8.2 ae.B8 = true:=by kernel_rfl
def ae.T16:Bool × List (List Nat × List Nat):=(true,[([],[]),([0],[0]),([],[]),([2],[2]),([1,3],[1,3]),([],[]),([5],[5]),([6],[6]),([4,7],[4,7]),([8,0,1,2,3,4,5,6,7,8],[8])])
def ae.B16:List Nat:=[0,1,0,4,15,0,32,96,255,511]
theorem ae.aHj:qA .any (opsOf Try.f11 16) = ae.T16:=by kernel_rfl
theorem ae.aAl:mI ae.T16.2 ae.B16 = true:=by kernel_rfl
def ae.T17:Bool × List (List Nat × List Nat):=(true,[([],[]),([0],[0]),([],[]),([2],[2]),([1,3],[1,3]),([],[]),([5],[5]),([6],[6]),([4,7],[4,7]),([8,0,1,2,3,4,5,6,7,8],[8])])
def ae.B17:List Nat:=[0,1,0,4,15,0,32,96,255,511]
theorem ae.aHk:qA .any (opsOf Try.f11 17) = ae.T17:=by kernel_rfl
theorem ae.aAm:mI ae.T17.2 ae.B17 = true:=by kernel_rfl
def ae.T21:Bool × List (List Nat × List Nat):=(true,[([],[]),([0],[0]),([],[]),([],[]),([3],[3]),([2,4],[2,4]),([],[]),([],[]),([6,7],[6,7]),([8],[8]),([9],[9]),([5,10],[5,10]),([],[]),([12],[12]),([11,13],[11,13]),([],[]),([15],[15]),([14,16],[14,16]),([],[]),([],[]),([19],[19]),([18,20],[18,20]),([17,21],[17,21]),([],[]),([22,23],[22,23]),([1,24],[1,24]),([25],[25]),([],[]),([27,26,0,1,2,3,4,5,6,7,8,9,10,11,12,13,14,15,16,17,18,19,20,21,22,23,24,25,26,27],[26,27])])
def ae.B21:List Nat:=[0,1,0,0,8,28,0,0,192,448,960,2044,0,4096,16380,0,32768,131068,0,0,524288,1835008,4194300,0,16777212,33554431,67108863,0,268435455]
theorem ae.air:qA .any (opsOf Try.f11 21) = ae.T21:=by kernel_rfl
theorem ae.ZT:mI ae.T21.2 ae.B21 = true:=by kernel_rfl
def ae.T22:Bool × List (List Nat × List Nat):=(true,[([],[]),([],[]),([],[]),([2],[2]),([1,3],[1,3]),([],[]),([5],[5]),([],[]),([],[]),([8],[8]),([7,9],[7,9]),([6,10,10],[6,10]),([11],[11]),([4,12],[4,12]),([13],[13]),([],[]),([15],[15]),([14,16],[14,16]),([0,17],[0,17]),([18,11,0,1,2,3,4,5,6,7,8,9,10,11,12,13,14,15,16,17,18],[0,18])])
def ae.B22:List Nat:=[0,0,0,4,14,0,32,0,0,256,896,2016,4064,8190,16382,0,32768,131070,262143,524287]
theorem ae.ais:qA .any (opsOf Try.f11 22) = ae.T22:=by kernel_rfl
theorem ae.ZU:mI ae.T22.2 ae.B22 = true:=by kernel_rfl
def ae.T23:Bool × List (List Nat × List Nat):=(true,[([],[]),([],[]),([],[]),([2],[2]),([1,3],[1,3]),([],[]),([5],[5]),([],[]),([],[]),([8],[8]),([9],[9]),([7,10],[7,10]),([6,11,11],[6,11]),([12],[12]),([4,13],[4,13]),([14],[14]),([],[]),([16],[16]),([15,17],[15,17]),([0,18],[0,18]),([19,12,0,1,2,3,4,5,6,7,8,9,10,11,12,13,14,15,16,17,18,19],[0,19])])
def ae.B23:List Nat:=[0,0,0,4,14,0,32,0,0,256,768,1920,4064,8160,16382,32766,0,65536,262142,524287,1048575]
theorem ae.ait:qA .any (opsOf Try.f11 23) = ae.T23:=by kernel_rfl
theorem ae.ZV:mI ae.T23.2 ae.B23 = true:=by kernel_rfl
def ae.T24:Bool × List (List Nat × List Nat):=(true,[([],[]),([],[]),([],[]),([],[]),([2,3],[2,3]),([4],[4]),([1,5],[1,5]),([6],[6]),([0,7],[0,7]),([8,6,0,1,2,3,4,5,6,7,8],[0,8])])
def ae.B24:List Nat:=[0,0,0,0,12,28,62,126,255,511]
theorem ae.aiu:qA .any (opsOf Try.f11 24) = ae.T24:=by kernel_rfl
theorem ae.ZW:mI ae.T24.2 ae.B24 = true:=by kernel_rfl
set_option maxHeartbeats 80000000 in
set_option maxRecDepth 100000 in
theorem ae.calls (k:Nat) (ai:Int) (aj:Int) (aC:Int) (aD:Int) (aJ:Int) (aH:Int) (aK:Int) (dW:Option Addr) (dN:Nat) (aT:List Bool) (dZ:Option Addr) (dO:Nat) (ak:List (rq)) (aI:Int) (aG:Int) (bn:Int) (bq:Int) (bH:Int) (bI:Int) (bG:Int) (bZ:Int) (cz:Int) (dw:Int) (dx:Int) (a3:Int) (gD:Int) (gF:Int) (A5:Option Addr) (c5:Nat) (l5:List (xN)) (fO:Int) (fP:Int) (fQ:Int) (fT:Int) (fH:Int) (fI:Int) (BI:Int) (Al:Int) (A8:Option Addr) (c8:Nat) (l8:List Int) (r:Bool) (w:World) (jT:Kd.C Kd.bool w dW aT.length aT) (jU:aT.length≤dN) (jV:Kd.C GI w dZ ak.length ak) (jW:ak.length≤dO) (hr5:Kd.C k33 w A5 l5.length l5) (hc5:l5.length≤c5) (hr8:Kd.C (Kd.int .u16) w A8 l8.length l8) (hc8:l8.length≤c8) (h:ae.f k ai aj aC aD aJ aH aK aT ak aI aG bn bq bH bI bG bZ cz dw dx a3 gD gF l5 fO fP fQ fT fH fI BI Al l8 = some r) (hr_:aa (r = true)):
 Calls Try.prog 11 #[.agg #[U Z ai,U Z aj,U Z aC,U Z aD,U Z aJ,U Z aH,U Z aK,.slice dW aT.length dN,.slice dZ ak.length dO],.agg #[U Z aI,U Z aG,U Z bn,U Z bq,U Z bH,U Z bI,U Z bG],.agg #[U Z bZ,U Z cz,U Z dw,U Z dx],U Z a3,.agg #[U Z gD,U Z gF],.slice A5 l5.length c5,.agg #[U Z fO,U Z fP,U Z fQ,U Z fT,U Z fH,U Z fI],.agg #[.int .u16 BI,.int .u16 Al],.slice A8 l8.length c8] w fun e w'=>e = .returned (.bool r)∧Below w.heap.size w w':=by
 have BV:=Try.underlying25
 have Br:=Try.underlying29
 have rO:=Try.underlying31
 have pz:=Try.underlying27
 have aed:=Try.underlying81
 have a7Y:=Try.underlying56
 have alz:=Try.underlying40
 have MV:=Try.underlying33
 have aUJ:∀ (x0_ x1_:Value) (W_:World),(Instr.field 27 (.agg #[x0_,x1_]) 1).run Try.prog W_ = .ok (x1_) W_:=fun _ _ W_=>by kernel_rfl
 have ik:=aa.mk jT
 have iC:=aa.mk jU
 clear jT jU
 have gN:=aa.mk jV
 have iD:=aa.mk jW
 clear jV jW
 have PX:=aa.mk hr5
 have HC5:=aa.mk hc5
 clear hr5 hc5
 have HR8:=aa.mk hr8
 have HC8:=aa.mk hc8
 clear hr8 hc8
 have HB:=aa.mk (Below.refl w.heap.size w)
 have H:((lG.f k ai aj aC aD aJ aH aK aT ak aI aG bn bq bH bI bG bZ cz dw dx a3).bind fun ala=>(if ala = true then (ae.j0 k a3 l5 l8 (decide ((l5.length:Int) > 6)) ai aj aC aD aJ aH aK aT ak aI aG bn bq bH bI bG bZ cz dw dx gD gF fO fP fQ fT fH fI BI Al) else (ae.j0 k a3 l5 l8 true ai aj aC aD aJ aH aK aT ak aI aG bn bq bH bI bG bZ cz dw dx gD gF fO fP fQ fT fH fI BI Al))) = some r:=h
 clear h
 have aAn:=aa.mk H
 clear H
 go_enter Try.func11,Try.ntmps11
 go_upto_region 1 with (first|((with_reducible refine aA (N:=9) rfl ?_);(try (refine oW (by rfl) ?_;dsimp only));refine au (by rfl) (N:=9) (by rfl) (cs:=#[U Z ai,U Z aj,U Z aC,U Z aD,U Z aJ,U Z aH,U Z aK,.slice dW aT.length dN,.slice dZ ak.length dO]) (t:=25) fG ?_;intro jD hg w11 hbox hb;have dh:=aa.mk (hbox);have a4H:=bS HB hg;have a4I:=bS HB hg;replace HB:=cO HB hb;clear hb hbox hg)|((with_reducible refine aA (N:=10) rfl ?_);(try (refine oW (by rfl) ?_;dsimp only));refine au (by rfl) (N:=10) (by rfl) (cs:=#[U Z aI,U Z aG,U Z bn,U Z bq,U Z bH,U Z bI,U Z bG]) (t:=29) fG ?_;intro gz hg O3 hbox hb;have bT:=aa.mk (hbox);have a4J:=bS HB hg;have a4K:=bS HB hg;have qW:=eQ dh hg;have qX:=eT dh hg;replace dh:=aX dh hb;replace HB:=cO HB hb;clear hb hbox hg)|((with_reducible refine aA (N:=11) rfl ?_);(try (refine oW (by rfl) ?_;dsimp only));refine au (by rfl) (N:=11) (by rfl) (cs:=#[U Z bZ,U Z cz,U Z dw,U Z dx]) (t:=31) fG ?_;intro Jz hg FD hbox hb;have dD:=aa.mk (hbox);have a4L:=bS HB hg;have a4M:=bS HB hg;have Db:=eQ dh hg;have Dc:=eT dh hg;have su:=eQ bT hg;have sw:=eT bT hg;replace dh:=aX dh hb;replace bT:=aX bT hb;replace HB:=cO HB hb;clear hb hbox hg)|((with_reducible refine aA (N:=13) rfl ?_);(try (refine oW (by rfl) ?_;dsimp only));refine au (by rfl) (N:=13) (by rfl) (cs:=#[U Z gD,U Z gF]) (t:=27) fG ?_;intro UM hg w14 hbox hb;have dI:=aa.mk (hbox);have a4N:=bS HB hg;have a4O:=bS HB hg;have De:=eQ dh hg;have Df:=eT dh hg;have sD:=eQ bT hg;have sF:=eT bT hg;have KR:=eQ dD hg;have KS:=eT dD hg;replace dh:=aX dh hb;replace bT:=aX bT hb;replace dD:=aX dD hb;replace HB:=cO HB hb;clear hb hbox hg)|((with_reducible refine aA (N:=15) rfl ?_);(try (refine oW (by rfl) ?_;dsimp only));refine au (by rfl) (N:=15) (by rfl) (cs:=#[U Z fO,U Z fP,U Z fQ,U Z fT,U Z fH,U Z fI]) (t:=81) fG ?_;intro UN hg w15 hbox hb;have dJ:=aa.mk (hbox);have a4P:=bS HB hg;have a4Q:=bS HB hg;have uV:=eQ dh hg;have uW:=eT dh hg;have sG:=eQ bT hg;have sH:=eT bT hg;have Am:=eQ dD hg;have Ap:=eT dD hg;have Gt:=eQ dI hg;have Gu:=eT dI hg;replace dh:=aX dh hb;replace bT:=aX bT hb;replace dD:=aX dD hb;replace dI:=aX dI hb;replace HB:=cO HB hb;clear hb hbox hg)|((with_reducible refine aA (N:=16) rfl ?_);(try (refine oW (by rfl) ?_;dsimp only));refine au (by rfl) (N:=16) (by rfl) (cs:=#[.int .u16 BI,.int .u16 Al]) (t:=56) fG ?_;intro OM hg w16 hbox hb;have dL:=aa.mk (hbox);have a4R:=bS HB hg;have a4S:=bS HB hg;have Dh:=eQ dh hg;have Di:=eT dh hg;have sI:=eQ bT hg;have sJ:=eT bT hg;have KT:=eQ dD hg;have KU:=eT dD hg;have Wz:=eQ dI hg;have WA:=eT dI hg;have Gv:=eQ dJ hg;have Gw:=eT dJ hg;replace dh:=aX dh hb;replace bT:=aX bT hb;replace dD:=aX dD hb;replace dI:=aX dI hb;replace dJ:=aX dJ hb;replace HB:=cO HB hb;clear hb hbox hg))
 (try simp only [Act.put,List.setIfInBounds_toArray,List.set_cons_zero,List.set_cons_succ])
 go_cut [43] (fun v43 wc=>∃ (kq:Nat) (aiv:Bool),v43 = .bool aiv∧aa (ae.j0 kq a3 l5 l8 aiv ai aj aC aD aJ aH aK aT ak aI aG bn bq bH bI bG bZ cz dw dx gD gF fO fP fQ fT fH fI BI Al = some r)∧aa (kq≤k)∧aa (wc.heap[jD]? = some (.cells #[U Z ai,U Z aj,U Z aC,U Z aD,U Z aJ,U Z aH,U Z aK,(.slice dW aT.length dN),(.slice dZ ak.length dO)] 25 (0,0)))∧aa (wc.heap[gz]? = some (.cells #[U Z aI,U Z aG,U Z bn,U Z bq,U Z bH,U Z bI,U Z bG] 29 (0,0)))∧aa (wc.heap[Jz]? = some (.cells #[U Z bZ,U Z cz,U Z dw,U Z dx] 31 (0,0)))∧aa (wc.heap[UM]? = some (.cells #[U Z gD,U Z gF] 27 (0,0)))∧aa (wc.heap[UN]? = some (.cells #[U Z fO,U Z fP,U Z fQ,U Z fT,U Z fH,U Z fI] 81 (0,0)))∧aa (wc.heap[OM]? = some (.cells #[.int .u16 BI,.int .u16 Al] 56 (0,0)))∧aa (Below w.heap.size w wc))
 case first =>
  as_aux_lemma =>
   have H:=aAn.out
   clear aAn
   replace H:=Option.bind_eq_some_iff.mp H
   obtain ⟨ala,aHl,H⟩:=H
   replace H:(if ala = true then (ae.j0 k a3 l5 l8 (decide ((l5.length:Int) > 6)) ai aj aC aD aJ aH aK aT ak aI aG bn bq bH bI bG bZ cz dw dx gD gF fO fP fQ fT fH fI BI Al) else (ae.j0 k a3 l5 l8 true ai aj aC aD aJ aH aK aT ak aI aG bn bq bH bI bG bZ cz dw dx gD gF fO fP fQ fT fH fI BI Al)) = some r:=H
   have A17:=aa.mk aHl
   clear aHl
   by_cases c18:ala = true
   ·subst c18
    have H1:(ae.j0 k a3 l5 l8 (decide ((l5.length:Int) > 6)) ai aj aC aD aJ aH aK aT ak aI aG bn bq bH bI bG bZ cz dw dx gD gF fO fP fQ fT fH fI BI Al) = some r:=by rw [if_pos rfl] at H;exact H
    clear H
    have H:=H1
    clear H1
    have H':=aa.mk H
    clear H
    have QL:=qW.out
    have QM:=qX.out
    have anB:=Db.out
    have anC:=Dc.out
    have V7:=De.out
    have V8:=Df.out
    have V9:=uV.out
    have Wd:=uW.out
    have Uq:=Dh.out
    have Ur:=Di.out
    obtain ⟨rC,rD,xE,xG,Ep,Er,Es,J2,J3,rE,rF,xH,xI,Et,Eu,Ev,J4,J5⟩:=jA dh.out
    have abu:=su.out
    have abv:=sw.out
    have ab2:=sD.out
    have ab3:=sF.out
    have anw:=sG.out
    have anx:=sH.out
    have amC:=sI.out
    have amD:=sJ.out
    obtain ⟨vZ,wh,AB,AJ,CP,CQ,CR,wm,wo,AL,AO,CS,CU,CV⟩:=jF bT.out
    have abZ:=KR.out
    have ab0:=KS.out
    have aw2:=Am.out
    have aw3:=Ap.out
    have axo:=KT.out
    have axp:=KU.out
    obtain ⟨Bg,Bh,Ik,Il,Bi,Bj,Im,Io⟩:=jc dD.out
    go_wp2_with (first|((with_reducible refine aQ (f:=18) rfl ?_);refine dn (some 37) rfl rfl Try.func18 aM rfl #[.agg #[U Z ai,U Z aj,U Z aC,U Z aD,U Z aJ,U Z aH,U Z aK,.slice dW aT.length dN,.slice dZ ak.length dO],.agg #[U Z aI,U Z aG,U Z bn,U Z bq,U Z bH,U Z bI,U Z bG],.agg #[U Z bZ,U Z cz,U Z dw,U Z dx],U Z a3] rfl ji ?_;(with_reducible refine (lG.calls k ai aj aC aD aJ aH aK _ _ aT _ _ ak aI aG bn bq bH bI bG bZ cz dw dx a3 true _ ?cZ ?df ?eu ?eB A17.out).mono ?_);(case cZ=>repeat (first|exact (Kd.bB ik.out HB.out)|(with_reducible refine Kd.bC ?_ _)|(with_reducible refine Kd.bD ?_ _)|(with_reducible refine Kd.bN ?_)));(case df=>exact iC.out);(case eu=>repeat (first|exact (Kd.bB gN.out HB.out)|(with_reducible refine Kd.bC ?_ _)|(with_reducible refine Kd.bD ?_ _)|(with_reducible refine Kd.bN ?_)));(case eB=>exact iD.out);rintro e w34 ⟨rfl,hb⟩;refine ⟨_,rfl,?_⟩;replace dh:=aX dh hb;replace bT:=aX bT hb;replace dD:=aX dD hb;replace dI:=aX dI hb;replace dJ:=aX dJ hb;replace dL:=aX dL hb;replace HB:=cO HB hb;(try clear hb);(try clear hb2);(try clear hk);(try clear hi)))
    go_meet
    case rel=>exact ⟨_,(decide ((l5.length:Int) > 6)),nM,H',⟨zq7⟩,⟨gB⟩,⟨gB⟩,⟨gB⟩,⟨gB⟩,⟨gB⟩,⟨gB⟩,⟨gL⟩⟩
   ·replace c18:=Bool.eq_false_iff.mpr c18
    subst c18
    have H1:(ae.j0 k a3 l5 l8 true ai aj aC aD aJ aH aK aT ak aI aG bn bq bH bI bG bZ cz dw dx gD gF fO fP fQ fT fH fI BI Al) = some r:=by rw [if_neg (show ¬ (false = true) by decide)] at H;exact H
    clear H
    have H:=H1
    clear H1
    have H':=aa.mk H
    clear H
    have anl:=qW.out
    have anm:=qX.out
    have awM:=Db.out
    have awN:=Dc.out
    have aCG:=De.out
    have aCH:=Df.out
    have af2:=uV.out
    have af3:=uW.out
    have aoh:=Dh.out
    have aoi:=Di.out
    obtain ⟨IB,IC,KV,KW,OO,OP,OQ,Ta,Tc,IE,IG,KX,KY,OT,OU,OV,Td,Te⟩:=jA dh.out
    have a4U:=su.out
    have a4V:=sw.out
    have a4W:=sD.out
    have a4X:=sF.out
    have a4Y:=sG.out
    have a4Z:=sH.out
    have axC:=sI.out
    have axD:=sJ.out
    obtain ⟨KN,KO,Ou,Ov,Ow,Ox,Oy,KP,KQ,Oz,OA,OB,OC,OD⟩:=jF bT.out
    have agh:=KR.out
    have agi:=KS.out
    have am5:=Am.out
    have am6:=Ap.out
    have am7:=KT.out
    have am8:=KU.out
    obtain ⟨J6,J7,J8,J9,Ka,Kb,Ke,Kg⟩:=jc dD.out
    go_wp2_with (first|((with_reducible refine aQ (f:=18) rfl ?_);refine dn (some 37) rfl rfl Try.func18 aM rfl #[.agg #[U Z ai,U Z aj,U Z aC,U Z aD,U Z aJ,U Z aH,U Z aK,.slice dW aT.length dN,.slice dZ ak.length dO],.agg #[U Z aI,U Z aG,U Z bn,U Z bq,U Z bH,U Z bI,U Z bG],.agg #[U Z bZ,U Z cz,U Z dw,U Z dx],U Z a3] rfl ji ?_;(with_reducible refine (lG.calls k ai aj aC aD aJ aH aK _ _ aT _ _ ak aI aG bn bq bH bI bG bZ cz dw dx a3 false _ ?cZ ?df ?eu ?eB A17.out).mono ?_);(case cZ=>repeat (first|exact (Kd.bB ik.out HB.out)|(with_reducible refine Kd.bC ?_ _)|(with_reducible refine Kd.bD ?_ _)|(with_reducible refine Kd.bN ?_)));(case df=>exact iC.out);(case eu=>repeat (first|exact (Kd.bB gN.out HB.out)|(with_reducible refine Kd.bC ?_ _)|(with_reducible refine Kd.bD ?_ _)|(with_reducible refine Kd.bN ?_)));(case eB=>exact iD.out);rintro e w50 ⟨rfl,hb⟩;refine ⟨_,rfl,?_⟩;replace dh:=aX dh hb;replace bT:=aX bT hb;replace dD:=aX dD hb;replace dI:=aX dI hb;replace dJ:=aX dJ hb;replace dL:=aX dL hb;replace HB:=cO HB hb;(try clear hb);(try clear hb2);(try clear hk);(try clear hi)))
    go_meet
    case rel=>exact ⟨_,(true),nM,H',⟨zq7⟩,⟨gB⟩,⟨gB⟩,⟨gB⟩,⟨gB⟩,⟨gB⟩,⟨gB⟩,⟨gL⟩⟩
 case rest =>
  as_aux_lemma =>
   clear aAn
   try clear c1
   try clear c2
   try clear p2
   try clear c3
   try clear c4
   try clear c5
   try clear c8
   try clear c11
   try clear c18
   try clear c19
   try clear c20
   try clear c21
   try clear XL
   try clear c23
   try clear c25
   try clear RP
   try clear c27
   try clear c28
   try clear c30
   try clear c31
   try clear c32
   try clear c35
   try clear c36
   try clear c37
   try clear c38
   try clear c39
   try clear c41
   try clear c42
   try clear c43
   try clear c44
   try clear c46
   try clear c47
   try clear c48
   try clear rC rD xE xG Ep Er Es J2 J3
   try clear vZ wh AB AJ CP CQ CR
   try clear Bg Bh Ik Il
   try clear IB IC KV KW OO OP OQ Ta Tc
   try clear KN KO Ou Ov Ow Ox Oy
   try clear J6 J7 J8 J9
   try clear rE rF xH xI Et Eu Ev J4 J5
   try clear wm wo AL AO CS CU CV
   try clear Bi Bj Im Io
   try clear IE IG KX KY OT OU OV Td Te
   try clear KP KQ Oz OA OB OC OD
   try clear Ka Kb Ke Kg
   obtain ⟨kq,aiv,rfl,HA,HJ9,dh,bT,dD,dI,dJ,dL,HB⟩:=hcut
   cases kq with
   |zero=>exact absurd HA.out (by simp [ae.j0])
   |succ kj9 =>
    have H:=HA.out
    clear HA
    simp only [ae.j0] at H
    by_cases c51:aiv = true
    ·subst c51
     have H1:((bX.f kj9).bind fun ak7=>(some ak7)) = some r:=by rw [if_pos rfl] at H;exact H
     clear H
     have H:=H1
     clear H1
     replace H:=Option.bind_eq_some_iff.mp H
     obtain ⟨ak7,aHm,H⟩:=H
     replace H:(some ak7) = some r:=H
     have A52:=aa.mk aHm
     clear aHm
     obtain rfl:=Option.some.inj H
     go_wp2_with (first|((with_reducible refine aQ (f:=19) rfl ?_);refine dn (some 44) rfl rfl Try.func19 aM rfl #[] rfl ji ?_;(with_reducible refine (bX.calls kj9 ak7 _ A52.out).mono ?_);rintro e w53 ⟨rfl,hb⟩;refine ⟨_,rfl,?_⟩;replace dh:=aX dh hb;replace bT:=aX bT hb;replace dD:=aX dD hb;replace dI:=aX dI hb;replace dJ:=aX dJ hb;replace dL:=aX dL hb;replace HB:=cO HB hb;(try clear hb);(try clear hb2);(try clear hk);(try clear hi)))
     go_ret
     exact ⟨lW,gL⟩
    ·replace c51:=Bool.eq_false_iff.mpr c51
     subst c51
     have H1:((oh.f ai aj aC aD aJ aH aK aT ak aI aG bn bq bH bI bG bZ cz dw dx a3 gD gF l5 fO fP fQ fT fH fI).bind fun DK=>((je.f kj9 ai aj aC aD aJ aH aK aT ak aI aG bn bq bH bI bG bZ cz dw dx a3 gD gF l5 fO fP fQ fT fH fI).bind fun OL=>(if DK = OL then (if DK = 0 then ((dz.f bZ cz BI).bind fun Rh=>((dz.f dw dx Al).bind fun Ql=>(ae.l0 kj9 a3 l5 l8 (wrap64 (Rh*4000000)) (wrap64 (Ql*4000000)) false gD 0 ai aj aC aD aJ aH aK aT ak aI aG bn bq bH bI bG fO fP fQ fT fH fI))) else ((bX.f kj9).bind fun Vz=>(some Vz))) else (some false)))) = some r:=by rw [if_neg (show ¬ (false = true) by decide)] at H;exact H
     clear H
     have H:=H1
     clear H1
     replace H:=Option.bind_eq_some_iff.mp H
     obtain ⟨DK,aHn,H⟩:=H
     replace H:((je.f kj9 ai aj aC aD aJ aH aK aT ak aI aG bn bq bH bI bG bZ cz dw dx a3 gD gF l5 fO fP fQ fT fH fI).bind fun OL=>(if DK = OL then (if DK = 0 then ((dz.f bZ cz BI).bind fun Rh=>((dz.f dw dx Al).bind fun Ql=>(ae.l0 kj9 a3 l5 l8 (wrap64 (Rh*4000000)) (wrap64 (Ql*4000000)) false gD 0 ai aj aC aD aJ aH aK aT ak aI aG bn bq bH bI bG fO fP fQ fT fH fI))) else ((bX.f kj9).bind fun Vz=>(some Vz))) else (some false))) = some r:=H
     have A54:=aa.mk aHn
     clear aHn
     replace H:=Option.bind_eq_some_iff.mp H
     obtain ⟨OL,aHo,H⟩:=H
     replace H:(if DK = OL then (if DK = 0 then ((dz.f bZ cz BI).bind fun Rh=>((dz.f dw dx Al).bind fun Ql=>(ae.l0 kj9 a3 l5 l8 (wrap64 (Rh*4000000)) (wrap64 (Ql*4000000)) false gD 0 ai aj aC aD aJ aH aK aT ak aI aG bn bq bH bI bG fO fP fQ fT fH fI))) else ((bX.f kj9).bind fun Vz=>(some Vz))) else (some false)) = some r:=H
     have A55:=aa.mk aHo
     clear aHo
     by_cases c56:DK = OL
     ·rw [if_pos c56] at H
      have aoD:(DK == OL) = true:=beq_iff_eq.mpr c56
      have aoE:(DK != OL) = false:=bne_eq_false_iff_eq.mpr c56
      clear c56
      by_cases c57:DK = 0
      ·rw [if_pos c57] at H
       have aoF:(DK == 0) = true:=beq_iff_eq.mpr c57
       have aoG:(DK != 0) = false:=bne_eq_false_iff_eq.mpr c57
       clear c57
       replace H:=Option.bind_eq_some_iff.mp H
       obtain ⟨Rh,aHp,H⟩:=H
       replace H:((dz.f dw dx Al).bind fun Ql=>(ae.l0 kj9 a3 l5 l8 (wrap64 (Rh*4000000)) (wrap64 (Ql*4000000)) false gD 0 ai aj aC aD aJ aH aK aT ak aI aG bn bq bH bI bG fO fP fQ fT fH fI)) = some r:=H
       have A58:=aa.mk aHp
       clear aHp
       replace H:=Option.bind_eq_some_iff.mp H
       obtain ⟨Ql,aHq,H⟩:=H
       replace H:(ae.l0 kj9 a3 l5 l8 (wrap64 (Rh*4000000)) (wrap64 (Ql*4000000)) false gD 0 ai aj aC aD aJ aH aK aT ak aI aG bn bq bH bI bG fO fP fQ fT fH fI) = some r:=H
       have A59:=aa.mk aHq
       clear aHq
       have H':=aa.mk H
       clear H
       have am9:=qW.out
       have ana:=qX.out
       have aEm:=Db.out
       have aEn:=Dc.out
       have anb:=De.out
       have anc:=Df.out
       have aCP:=uV.out
       have aCQ:=uW.out
       have aCR:=Dh.out
       have aCS:=Di.out
       obtain ⟨XQ,XR,XT,XU,XV,XW,XX,XY,XZ,X3,X4,X5,X6,X7,X8,X9,Ya,Yb⟩:=jA dh.out
       have axs:=su.out
       have axt:=sw.out
       have aHr:=sD.out
       have aHs:=sF.out
       have a5k:=sG.out
       have a5l:=sH.out
       have axk:=sI.out
       have axl:=sJ.out
       obtain ⟨SV,SX,ZX,ZY,ZZ,Z0,Z4,SY,S9,Z5,Z6,Z7,Z8,Z9⟩:=jF bT.out
       have ane:=KR.out
       have anf:=KS.out
       have agw:=Am.out
       have agx:=Ap.out
       have awS:=KT.out
       have awT:=KU.out
       obtain ⟨aiw,aix,aiy,aiz,aiA,aiB,aiC,aiD⟩:=jc dD.out
       have aDB:=Gt.out
       have aDC:=Gu.out
       have ang:=Wz.out
       have anh:=WA.out
       obtain ⟨YE,YF,YG,YH⟩:=iZ dI.out
       have anq:=Gv.out
       have anr:=Gw.out
       obtain ⟨Y4,Y5,Y6,Y7,Y8,Y9,Za,Zb,Zc,Zd,Ze,Zf⟩:=wT dJ.out
       try go_wp2_with (first|((with_reducible refine aQ (f:=48) rfl ?_);refine dn (some 52) rfl rfl Try.func48 aM rfl #[.agg #[U Z ai,U Z aj,U Z aC,U Z aD,U Z aJ,U Z aH,U Z aK,.slice dW aT.length dN,.slice dZ ak.length dO],.agg #[U Z aI,U Z aG,U Z bn,U Z bq,U Z bH,U Z bI,U Z bG],.agg #[U Z bZ,U Z cz,U Z dw,U Z dx],U Z a3,.agg #[U Z gD,U Z gF],.slice A5 l5.length c5,.agg #[U Z fO,U Z fP,U Z fQ,U Z fT,U Z fH,U Z fI]] rfl ji ?_;(with_reducible refine (oh.calls ai aj aC aD aJ aH aK _ _ aT _ _ ak aI aG bn bq bH bI bG bZ cz dw dx a3 gD gF _ _ l5 fO fP fQ fT fH fI DK _ ?cZ ?df ?eu ?eB ?BF ?BG A54.out).mono ?_);(case cZ=>repeat (first|exact (Kd.bB ik.out HB.out)|(with_reducible refine Kd.bC ?_ _)|(with_reducible refine Kd.bD ?_ _)|(with_reducible refine Kd.bN ?_)));(case df=>exact iC.out);(case eu=>repeat (first|exact (Kd.bB gN.out HB.out)|(with_reducible refine Kd.bC ?_ _)|(with_reducible refine Kd.bD ?_ _)|(with_reducible refine Kd.bN ?_)));(case eB=>exact iD.out);(case BF=>repeat (first|exact (Kd.bB PX.out HB.out)|(with_reducible refine Kd.bC ?_ _)|(with_reducible refine Kd.bD ?_ _)|(with_reducible refine Kd.bN ?_)));(case BG=>exact HC5.out);rintro e w80 ⟨rfl,hb⟩;refine ⟨_,rfl,?_⟩;replace dh:=aX dh hb;replace bT:=aX bT hb;replace dD:=aX dD hb;replace dI:=aX dI hb;replace dJ:=aX dJ hb;replace dL:=aX dL hb;replace HB:=cO HB hb;(try clear hb);(try clear hb2);(try clear hk);(try clear hi);obtain ⟨aiE,aiF,aiG,aiH,aiI,aiJ,aiK,aiL,aiM,aiN,aiO,aiP,aiQ,aiR,aiS,aiT,aiU,aiV⟩:=jA dh.out;obtain ⟨Nq,Nr,Ns,Nt,RQ,RS,RU,Nu,Nv,Nw,Ny,RV,RX,RY⟩:=jF bT.out;obtain ⟨YI,YJ,YK,YL,YM,YN,YO,YP⟩:=jc dD.out;obtain ⟨Zg,Zh,Zi,Zj⟩:=iZ dI.out;obtain ⟨Zo,Zp,Zq,Zr,Zt,Zu,Zv,Zw,Zx,Zy,Zz,ZA⟩:=wT dJ.out)|((with_reducible refine aQ (f:=49) rfl ?_);refine dn (some 61) rfl rfl Try.func49 aM rfl #[.agg #[U Z ai,U Z aj,U Z aC,U Z aD,U Z aJ,U Z aH,U Z aK,.slice dW aT.length dN,.slice dZ ak.length dO],.agg #[U Z aI,U Z aG,U Z bn,U Z bq,U Z bH,U Z bI,U Z bG],.agg #[U Z bZ,U Z cz,U Z dw,U Z dx],U Z a3,.agg #[U Z gD,U Z gF],.slice A5 l5.length c5,.agg #[U Z fO,U Z fP,U Z fQ,U Z fT,U Z fH,U Z fI]] rfl ji ?_;(with_reducible refine (je.calls kj9 ai aj aC aD aJ aH aK _ _ aT _ _ ak aI aG bn bq bH bI bG bZ cz dw dx a3 gD gF _ _ l5 fO fP fQ fT fH fI OL _ ?cZ ?df ?eu ?eB ?BF ?BG A55.out).mono ?_);(case cZ=>repeat (first|exact (Kd.bB ik.out HB.out)|(with_reducible refine Kd.bC ?_ _)|(with_reducible refine Kd.bD ?_ _)|(with_reducible refine Kd.bN ?_)));(case df=>exact iC.out);(case eu=>repeat (first|exact (Kd.bB gN.out HB.out)|(with_reducible refine Kd.bC ?_ _)|(with_reducible refine Kd.bD ?_ _)|(with_reducible refine Kd.bN ?_)));(case eB=>exact iD.out);(case BF=>repeat (first|exact (Kd.bB PX.out HB.out)|(with_reducible refine Kd.bC ?_ _)|(with_reducible refine Kd.bD ?_ _)|(with_reducible refine Kd.bN ?_)));(case BG=>exact HC5.out);rintro e w86 ⟨rfl,hb⟩;refine ⟨_,rfl,?_⟩;replace dh:=aX dh hb;replace bT:=aX bT hb;replace dD:=aX dD hb;replace dI:=aX dI hb;replace dJ:=aX dJ hb;replace dL:=aX dL hb;replace HB:=cO HB hb;(try clear hb);(try clear hb2);(try clear hk);(try clear hi)))
       replace dh:=aa.mk (ag dh.out)
       replace bT:=aa.mk (ag bT.out)
       replace dD:=aa.mk (ag dD.out)
       replace dI:=aa.mk (ag dI.out)
       replace dJ:=aa.mk (ag dJ.out)
       replace dL:=aa.mk (ag dL.out)
       replace HB:=aa.mk (bO HB.out)
       refine iN (n:=14) (S:=fun w'=>w'.cell? ⟨Jz,0,none⟩ = some (U Z bZ)∧w'.cell? ⟨Jz,1,none⟩ = some (U Z cz)∧w'.cell? ⟨Jz,2,none⟩ = some (U Z dw)∧w'.cell? ⟨Jz,3,none⟩ = some (U Z dx)∧w'.cell? ⟨OM,0,none⟩ = some (.int .u16 BI)∧w'.cell? ⟨OM,1,none⟩ = some (.int .u16 Al)) (ds:=[]) #[ac,ac,ac,ac,ac,ac,ac,ac,ac,ac,ac,ac,ac,ac] aM rfl rfl (Li dD.out ⟨bE dL 0,bE dL 1⟩) (fun hHeld=>?_);refine fU ae.aoC ae.acU (fun bz jb=>?_)
       generalize w86.drew = w87 at dh bT dD dI dJ dL HB hHeld ⊢
       refine bV (i:=0) (N:=some 66) (ax bz.out aM) ?_
       refine bV (i:=2) (N:=some 68) (ax bz.out aM) ?_
       refine bV (i:=6) (N:=some 72) (ax bz.out aM) ?_
       refine bV (i:=8) (N:=some 74) (ax bz.out aM) ?_
       refine iL (i:=1) (N:=some 67) (aY bz.out jb.out aM) hHeld ?_
       refine iL (i:=3) (N:=some 69) (aY bz.out jb.out aM) hHeld ?_
       refine iL (i:=7) (N:=some 73) (aY bz.out jb.out aM) hHeld ?_
       refine iL (i:=9) (N:=some 75) (aY bz.out jb.out aM) hHeld ?_
       refine iO (i:=4) (N:=some 70) #[ab,ab,ab,ab,ab,ac,ab,ab,ab,ab,ac,ac,ac,ac] rfl rfl (eH bz.out aM) (by decide) (fun K hK=>?_)
       refine gJ Try.func33 aM rfl #[.agg #[U Z bZ,U Z cz],.int .u16 BI] (by rfl) rfl rfl ji ?_
       with_reducible refine (dz.calls bZ cz BI Rh _ A58.out).mono ?_
       rintro e w88 ⟨rfl,hb⟩
       refine ⟨_,rfl,?_⟩
       replace dh:=aX dh hb
       replace bT:=aX bT hb
       replace dD:=aX dD hb
       replace dI:=aX dI hb
       replace dJ:=aX dJ hb
       replace dL:=aX dL hb
       replace HB:=cO HB hb
       (try clear hb)
       (try clear hb2)
       (try clear hk)
       (try clear hi)
       refine hK.out _ _ (Li dD.out ⟨bE dL 0,bE dL 1⟩) (fun hHeld=>?_)
       clear hK K
       refine dM (by show Act.put _ (some 70) _ = _;simp only [Act.put,List.setIfInBounds_toArray,List.set_cons_zero,List.set_cons_succ,ib,ig];rfl) ?_
       refine bV (i:=5) (N:=some 71) (ax bz.out aM) ?_
       refine iO (i:=10) (N:=some 76) #[ab,ab,ab,ab,ab,ab,ab,ab,ab,ab,ab,ac,ac,ac] rfl rfl (eH bz.out aM) (by decide) (fun K hK=>?_)
       refine gJ Try.func33 aM rfl #[.agg #[U Z dw,U Z dx],.int .u16 Al] (by rfl) rfl rfl ji ?_
       with_reducible refine (dz.calls dw dx Al Ql _ A59.out).mono ?_
       rintro e w89 ⟨rfl,hb⟩
       refine ⟨_,rfl,?_⟩
       replace dh:=aX dh hb
       replace bT:=aX bT hb
       replace dD:=aX dD hb
       replace dI:=aX dI hb
       replace dJ:=aX dJ hb
       replace dL:=aX dL hb
       replace HB:=cO HB hb
       (try clear hb)
       (try clear hb2)
       (try clear hk)
       (try clear hi)
       refine hK.out _ _ (Li dD.out ⟨bE dL 0,bE dL 1⟩) (fun hHeld=>?_)
       clear hK K
       refine dM (by show Act.put _ (some 76) _ = _;simp only [Act.put,List.setIfInBounds_toArray,List.set_cons_zero,List.set_cons_succ,ib,ig];rfl) ?_
       refine bV (i:=11) (N:=some 77) (ax bz.out aM) ?_
       refine bV (i:=12) (N:=some 20) (ax bz.out aM) ?_
       refine bV (i:=13) (N:=some 21) (ax bz.out aM) ?_
       refine jS (ja bz.out aM) ?_
       obtain ⟨aiW,aiX,aiY,aiZ⟩:=iZ dI.out
       try go_wp2
       go_loopg [20,21,22,23,24] kj9 (fun kq v20 v21 v22 v23 v24 w'=>∃ (jd:Int) (iQ:Int) (vk:Bool) (j3:Int) (bF:Int),v20 = U Z jd∧v21 = U Z iQ∧v22 = .bool vk∧v23 = U Z j3∧v24 = U Z bF∧aa (ae.l0 kq a3 l5 l8 jd iQ vk j3 bF ai aj aC aD aJ aH aK aT ak aI aG bn bq bH bI bG fO fP fQ fT fH fI = some r)∧aa (kq≤kj9)∧aa (w'.heap[jD]? = some (.cells #[U Z ai,U Z aj,U Z aC,U Z aD,U Z aJ,U Z aH,U Z aK,(.slice dW aT.length dN),(.slice dZ ak.length dO)] 25 (0,0)))∧aa (w'.heap[gz]? = some (.cells #[U Z aI,U Z aG,U Z bn,U Z bq,U Z bH,U Z bI,U Z bG] 29 (0,0)))∧aa (w'.heap[Jz]? = some (.cells #[U Z bZ,U Z cz,U Z dw,U Z dx] 31 (0,0)))∧aa (w'.heap[UM]? = some (.cells #[U Z gD,U Z gF] 27 (0,0)))∧aa (w'.heap[UN]? = some (.cells #[U Z fO,U Z fP,U Z fQ,U Z fT,U Z fH,U Z fI] 81 (0,0)))∧aa (w'.heap[OM]? = some (.cells #[.int .u16 BI,.int .u16 Al] 56 (0,0)))∧aa (Below w.heap.size w w'))
       case atStart=>exact ⟨(wrap64 (Rh*4000000)),(wrap64 (Ql*4000000)),(false),(gD),(0),nM,nM,nM,nM,nM,H',⟨Nat.le_refl _⟩,⟨gB⟩,⟨gB⟩,⟨gB⟩,⟨gB⟩,⟨gB⟩,⟨gB⟩,⟨gL⟩⟩
       case round =>
        as_aux_lemma =>
         clear H'
         try clear c1
         try clear c2
         try clear p2
         try clear c3
         try clear c4
         try clear c5
         try clear c6
         try clear p6
         try clear c7
         try clear c8
         try clear c11
         try clear c18
         try clear c19
         try clear c20
         try clear c21
         try clear XL
         try clear c23
         try clear c25
         try clear RP
         try clear c27
         try clear c28
         try clear c30
         try clear c31
         try clear c32
         try clear c33
         try clear c35
         try clear c36
         try clear c37
         try clear c38
         try clear c39
         try clear c41
         try clear c42
         try clear c43
         try clear c44
         try clear c46
         try clear c47
         try clear c48
         try clear c49
         try clear c51
         try clear c56
         try clear aoD
         try clear aoE
         try clear c57
         try clear aoF
         try clear aoG
         try clear c60
         try clear c61
         try clear c62
         try clear c63
         try clear c64
         try clear p64
         try clear c66
         try clear c67
         try clear c68
         try clear c69
         try clear c71
         try clear c72
         try clear c73
         try clear c75
         try clear c76
         try clear c78
         try clear rC rD xE xG Ep Er Es J2 J3
         try clear vZ wh AB AJ CP CQ CR
         try clear Bg Bh Ik Il
         try clear IB IC KV KW OO OP OQ Ta Tc
         try clear KN KO Ou Ov Ow Ox Oy
         try clear J6 J7 J8 J9
         try clear XQ XR XT XU XV XW XX XY XZ
         try clear SV SX ZX ZY ZZ Z0 Z4
         try clear aiw aix aiy aiz
         try clear YE YF
         try clear Y4 Y5 Y6 Y7 Y8 Y9
         try clear aiE aiF aiG aiH aiI aiJ aiK aiL aiM
         try clear Nq Nr Ns Nt RQ RS RU
         try clear YI YJ YK YL
         try clear Zg Zh
         try clear Zo Zp Zq Zr Zt Zu
         try clear aiW aiX
         try clear rE rF xH xI Et Eu Ev J4 J5
         try clear wm wo AL AO CS CU CV
         try clear Bi Bj Im Io
         try clear IE IG KX KY OT OU OV Td Te
         try clear KP KQ Oz OA OB OC OD
         try clear Ka Kb Ke Kg
         try clear X3 X4 X5 X6 X7 X8 X9 Ya Yb
         try clear SY S9 Z5 Z6 Z7 Z8 Z9
         try clear aiA aiB aiC aiD
         try clear YG YH
         try clear Za Zb Zc Zd Ze Zf
         try clear aiN aiO aiP aiQ aiR aiS aiT aiU aiV
         try clear Nu Nv Nw Ny RV RX RY
         try clear YM YN YO YP
         try clear Zi Zj
         try clear Zv Zw Zx Zy Zz ZA
         try clear aiY aiZ
         try clear p2
         obtain ⟨jd,iQ,vk,j3,bF,rfl,rfl,rfl,rfl,rfl,HA,HK2,dh,bT,dD,dI,dJ,dL,HB⟩:=hrel
         cases gk with
         |zero=>exact absurd HA.out (by simp [ae.l0])
         |succ k2 =>
          have H:=HA.out
          clear HA
          simp only [ae.l0] at H
          by_cases c91:bF < (l5.length:Int)
          ·rw [if_pos c91] at H
           have axI:decide (bF < (l5.length:Int)) = true:=decide_eq_true c91
           clear c91
           by_cases c92:0≤bF
           ·rw [if_pos c92] at H
            have aHu:decide (0≤bF) = true:=decide_eq_true c92
            clear c92
            replace H:=Option.bind_eq_some_iff.mp H
            obtain ⟨⟨nP,nQ⟩,aHv,H⟩:=H
            replace H:(if aC = 0 then (none) else (if aD = 0 then (none) else (if (mn (wrap64 (Int.tdiv (wrap64 (Int.tdiv jd 4000000)) aC)) (wrap64 (ai - 1))) < 0 then (ae.j2 k2 a3 l5 l8 jd iQ vk j3 bF nP nQ (wrap64 (a3+(wrap64 (bF*aG)))) (mn (wrap64 (Int.tdiv (wrap64 (Int.tdiv jd 4000000)) aC)) (wrap64 (ai - 1))) (mn (wrap64 (Int.tdiv (wrap64 (Int.tdiv iQ 4000000)) aC)) (wrap64 (aj - 1))) (wrap64 (Int.tdiv (wrap64 (a3+(wrap64 (bF*aG)))) aD)) true ai aj aC aD aJ aH aK aT ak aI aG bn bq bH bI bG fO fP fQ fT fH fI) else (if (mn (wrap64 (Int.tdiv (wrap64 (Int.tdiv iQ 4000000)) aC)) (wrap64 (aj - 1))) < 0 then (ae.j2 k2 a3 l5 l8 jd iQ vk j3 bF nP nQ (wrap64 (a3+(wrap64 (bF*aG)))) (mn (wrap64 (Int.tdiv (wrap64 (Int.tdiv jd 4000000)) aC)) (wrap64 (ai - 1))) (mn (wrap64 (Int.tdiv (wrap64 (Int.tdiv iQ 4000000)) aC)) (wrap64 (aj - 1))) (wrap64 (Int.tdiv (wrap64 (a3+(wrap64 (bF*aG)))) aD)) true ai aj aC aD aJ aH aK aT ak aI aG bn bq bH bI bG fO fP fQ fT fH fI) else (ae.j2 k2 a3 l5 l8 jd iQ vk j3 bF nP nQ (wrap64 (a3+(wrap64 (bF*aG)))) (mn (wrap64 (Int.tdiv (wrap64 (Int.tdiv jd 4000000)) aC)) (wrap64 (ai - 1))) (mn (wrap64 (Int.tdiv (wrap64 (Int.tdiv iQ 4000000)) aC)) (wrap64 (aj - 1))) (wrap64 (Int.tdiv (wrap64 (a3+(wrap64 (bF*aG)))) aD)) (decide ((wrap64 (Int.tdiv (wrap64 (a3+(wrap64 (bF*aG)))) aD)) ≥ aJ)) ai aj aC aD aJ aH aK aT ak aI aG bn bq bH bI bG fO fP fQ fT fH fI))))) = some r:=H
            have A93:=aa.mk aHv
            clear aHv
            by_cases c94:aC = 0
            ·rw [if_pos c94] at H
             exact absurd H (by simp)
            ·rw [if_neg c94] at H
             have aHx:(aC == 0) = false:=beq_eq_false_iff_ne.mpr c94
             have aHy:(aC != 0) = true:=bne_iff_ne.mpr c94
             obtain ⟨Fv,ai0⟩:∃ j_:Int,(mn (wrap64 (Int.tdiv (wrap64 (Int.tdiv jd 4000000)) aC)) (wrap64 (ai - 1))) = j_:=⟨_,rfl⟩
             replace H:(if aD = 0 then (none) else (if (Fv) < 0 then (ae.j2 k2 a3 l5 l8 jd iQ vk j3 bF nP nQ (wrap64 (a3+(wrap64 (bF*aG)))) Fv (mn (wrap64 (Int.tdiv (wrap64 (Int.tdiv iQ 4000000)) aC)) (wrap64 (aj - 1))) (wrap64 (Int.tdiv (wrap64 (a3+(wrap64 (bF*aG)))) aD)) true ai aj aC aD aJ aH aK aT ak aI aG bn bq bH bI bG fO fP fQ fT fH fI) else (if (mn (wrap64 (Int.tdiv (wrap64 (Int.tdiv iQ 4000000)) aC)) (wrap64 (aj - 1))) < 0 then (ae.j2 k2 a3 l5 l8 jd iQ vk j3 bF nP nQ (wrap64 (a3+(wrap64 (bF*aG)))) Fv (mn (wrap64 (Int.tdiv (wrap64 (Int.tdiv iQ 4000000)) aC)) (wrap64 (aj - 1))) (wrap64 (Int.tdiv (wrap64 (a3+(wrap64 (bF*aG)))) aD)) true ai aj aC aD aJ aH aK aT ak aI aG bn bq bH bI bG fO fP fQ fT fH fI) else (ae.j2 k2 a3 l5 l8 jd iQ vk j3 bF nP nQ (wrap64 (a3+(wrap64 (bF*aG)))) Fv (mn (wrap64 (Int.tdiv (wrap64 (Int.tdiv iQ 4000000)) aC)) (wrap64 (aj - 1))) (wrap64 (Int.tdiv (wrap64 (a3+(wrap64 (bF*aG)))) aD)) (decide ((wrap64 (Int.tdiv (wrap64 (a3+(wrap64 (bF*aG)))) aD)) ≥ aJ)) ai aj aC aD aJ aH aK aT ak aI aG bn bq bH bI bG fO fP fQ fT fH fI)))) = some r:=by first|(rw [ai0] at H;exact H)|(simp only [ai0] at H ⊢;exact H)
             (try rw [ai0] at A93)
             have aYt:(if (wrap64 (ai - 1)) < (wrap64 (Int.tdiv (wrap64 (Int.tdiv jd 4000000)) aC)) then (wrap64 (ai - 1)) else (wrap64 (Int.tdiv (wrap64 (Int.tdiv jd 4000000)) aC))) = Fv:=ai0
             obtain ⟨JA,ai1⟩:∃ j_:Int,(mn (wrap64 (Int.tdiv (wrap64 (Int.tdiv iQ 4000000)) aC)) (wrap64 (aj - 1))) = j_:=⟨_,rfl⟩
             replace H:(if aD = 0 then (none) else (if (Fv) < 0 then (ae.j2 k2 a3 l5 l8 jd iQ vk j3 bF nP nQ (wrap64 (a3+(wrap64 (bF*aG)))) Fv JA (wrap64 (Int.tdiv (wrap64 (a3+(wrap64 (bF*aG)))) aD)) true ai aj aC aD aJ aH aK aT ak aI aG bn bq bH bI bG fO fP fQ fT fH fI) else (if (JA) < 0 then (ae.j2 k2 a3 l5 l8 jd iQ vk j3 bF nP nQ (wrap64 (a3+(wrap64 (bF*aG)))) Fv JA (wrap64 (Int.tdiv (wrap64 (a3+(wrap64 (bF*aG)))) aD)) true ai aj aC aD aJ aH aK aT ak aI aG bn bq bH bI bG fO fP fQ fT fH fI) else (ae.j2 k2 a3 l5 l8 jd iQ vk j3 bF nP nQ (wrap64 (a3+(wrap64 (bF*aG)))) Fv JA (wrap64 (Int.tdiv (wrap64 (a3+(wrap64 (bF*aG)))) aD)) (decide ((wrap64 (Int.tdiv (wrap64 (a3+(wrap64 (bF*aG)))) aD)) ≥ aJ)) ai aj aC aD aJ aH aK aT ak aI aG bn bq bH bI bG fO fP fQ fT fH fI)))) = some r:=by first|(rw [ai1] at H;exact H)|(simp only [ai1] at H ⊢;exact H)
             (try rw [ai1] at A93)
             have aYu:(if (wrap64 (aj - 1)) < (wrap64 (Int.tdiv (wrap64 (Int.tdiv iQ 4000000)) aC)) then (wrap64 (aj - 1)) else (wrap64 (Int.tdiv (wrap64 (Int.tdiv iQ 4000000)) aC))) = JA:=ai1
             by_cases c97:aD = 0
             ·rw [if_pos c97] at H
              exact absurd H (by simp)
             ·rw [if_neg c97] at H
              have aHA:(aD == 0) = false:=beq_eq_false_iff_ne.mpr c97
              have aHB:(aD != 0) = true:=bne_iff_ne.mpr c97
              have aAq:=aa.mk H
              clear H
              have avp:0≤(bF:Int):=of_decide_eq_true mq
              have avq:bF < (l5.length:Int):=of_decide_eq_true mq
              obtain ⟨oQ,aYv,Tf,Tg⟩:=kE PX.out bF avp avq
              cases aYv
              replace Tf:=(HB.out.cell (World.block_lt_of_cell? w _ Tf)).trans Tf
              replace Tg:=(HB.out.cell (World.block_lt_of_cell? w _ Tg)).trans Tg
              replace avp:=eq_true avp
              replace avq:=eq_true avq
              try go_wp2_with (first|((with_reducible refine aQ (f:=34) rfl ?_);refine dn (some 92) rfl rfl Try.func34 aM rfl #[U Z ((bJ l5 bF).f0)] rfl ji ?_;(with_reducible refine (jI.calls ((bJ l5 bF).f0) nP nQ _ A93.out).mono ?_);rintro e w99 ⟨rfl,hb⟩;refine ⟨_,rfl,?_⟩;replace dh:=aX dh hb;replace bT:=aX bT hb;replace dD:=aX dD hb;replace dI:=aX dI hb;replace dJ:=aX dJ hb;replace dL:=aX dL hb;replace HB:=cO HB hb;(try clear hb);(try clear hb2);(try clear hk);(try clear hi);have azB:=qX.out;have azC:=qW.out;have aYw:=su.out;have aYx:=sw.out;have azD:=sD.out;have azE:=sF.out;have azF:=sG.out;have azG:=sH.out;have azH:=sI.out;have azI:=sJ.out;obtain ⟨aoH,aoI,aoJ,aoK,aoL,aoM,aoN,aoO,aoP,aoQ,aoR,aoS,aoT,aoU⟩:=jF bT.out))
              replace dh:=aa.mk (ag dh.out)
              replace bT:=aa.mk (ag bT.out)
              replace dD:=aa.mk (ag dD.out)
              replace dI:=aa.mk (ag dI.out)
              replace dJ:=aa.mk (ag dJ.out)
              replace dL:=aa.mk (ag dL.out)
              replace HB:=aa.mk (bO HB.out)
              refine iN (n:=10) (S:=fun w'=>w'.cell? ⟨jD,0,none⟩ = some (U Z ai)∧w'.cell? ⟨jD,1,none⟩ = some (U Z aj)∧w'.cell? ⟨jD,2,none⟩ = some (U Z aC)∧w'.cell? ⟨jD,3,none⟩ = some (U Z aD)∧w'.cell? ⟨jD,4,none⟩ = some (U Z aJ)∧w'.cell? ⟨jD,5,none⟩ = some (U Z aH)∧w'.cell? ⟨jD,6,none⟩ = some (U Z aK)∧w'.cell? ⟨jD,7,none⟩ = some (.slice dW aT.length dN)∧w'.cell? ⟨jD,8,none⟩ = some (.slice dZ ak.length dO)) (ds:=[]) #[ac,ac,ac,ac,ac,ac,ac,ac,ac,ac] aM rfl rfl (Dm dh.out) (fun hHeld=>?_);refine fU ae.aHj ae.aAl (fun bz jb=>?_)
              generalize w99.drew = aYy at dh bT dD dI dJ dL HB hHeld ⊢
              refine bV (i:=0) (N:=some 101) (ax bz.out aM) ?_
              refine bV (i:=1) (N:=some 102) (ax bz.out aM) ?_
              refine bV (i:=2) (N:=some 103) (ax bz.out aM) ?_
              refine bV (i:=5) (N:=some 106) (ax bz.out aM) ?_
              refine iL (i:=3) (N:=some 104) (aY bz.out jb.out aM) hHeld ?_
              refine bV (i:=4) (N:=some 105) (ax bz.out aM) ?_
              refine iL (i:=6) (N:=some 107) (aY bz.out jb.out aM) hHeld ?_
              refine bV (i:=7) (N:=some 108) (ax bz.out aM) ?_
              refine bV (i:=8) (N:=some 109) (ax bz.out aM) ?_
              refine bV (i:=9) (N:=some 28) (ax bz.out aM) ?_
              refine jS (ja bz.out aM) ?_
              try go_wp2
              replace dh:=aa.mk (ag dh.out)
              replace bT:=aa.mk (ag bT.out)
              replace dD:=aa.mk (ag dD.out)
              replace dI:=aa.mk (ag dI.out)
              replace dJ:=aa.mk (ag dJ.out)
              replace dL:=aa.mk (ag dL.out)
              replace HB:=aa.mk (bO HB.out)
              refine iN (n:=10) (S:=fun w'=>w'.cell? ⟨jD,0,none⟩ = some (U Z ai)∧w'.cell? ⟨jD,1,none⟩ = some (U Z aj)∧w'.cell? ⟨jD,2,none⟩ = some (U Z aC)∧w'.cell? ⟨jD,3,none⟩ = some (U Z aD)∧w'.cell? ⟨jD,4,none⟩ = some (U Z aJ)∧w'.cell? ⟨jD,5,none⟩ = some (U Z aH)∧w'.cell? ⟨jD,6,none⟩ = some (U Z aK)∧w'.cell? ⟨jD,7,none⟩ = some (.slice dW aT.length dN)∧w'.cell? ⟨jD,8,none⟩ = some (.slice dZ ak.length dO)) (ds:=[]) #[ac,ac,ac,ac,ac,ac,ac,ac,ac,ac] aM rfl rfl (Dm dh.out) (fun hHeld=>?_);refine fU ae.aHk ae.aAm (fun bz jb=>?_)
              generalize aYy.drew = a8p at dh bT dD dI dJ dL HB hHeld ⊢
              refine bV (i:=0) (N:=some 110) (ax bz.out aM) ?_
              refine bV (i:=1) (N:=some 111) (ax bz.out aM) ?_
              refine bV (i:=2) (N:=some 112) (ax bz.out aM) ?_
              refine bV (i:=5) (N:=some 115) (ax bz.out aM) ?_
              refine iL (i:=3) (N:=some 113) (aY bz.out jb.out aM) hHeld ?_
              refine bV (i:=4) (N:=some 114) (ax bz.out aM) ?_
              refine iL (i:=6) (N:=some 116) (aY bz.out jb.out aM) hHeld ?_
              refine bV (i:=7) (N:=some 117) (ax bz.out aM) ?_
              refine bV (i:=8) (N:=some 118) (ax bz.out aM) ?_
              refine bV (i:=9) (N:=some 29) (ax bz.out aM) ?_
              refine jS (ja bz.out aM) ?_
              have aYz:=Db.out
              have aYA:=Dc.out
              have azJ:=De.out
              have azK:=Df.out
              have azL:=uV.out
              have azM:=uW.out
              have azN:=Dh.out
              have azO:=Di.out
              obtain ⟨acz,acA,acB,acC,acD,acE,acF,aoV,aoW,acG,acH,acI,acJ,acK,acL,acM,aoX,aoY⟩:=jA dh.out
              go_upto_region 19 with (fail)
              go_cut [134] (fun aYB wc=>∃ (kq:Nat) (Ti:Bool),aYB = .bool Ti∧aa (ae.j2 kq a3 l5 l8 jd iQ vk j3 bF nP nQ (wrap64 (a3+(wrap64 (bF*aG)))) Fv JA (wrap64 (Int.tdiv (wrap64 (a3+(wrap64 (bF*aG)))) aD)) Ti ai aj aC aD aJ aH aK aT ak aI aG bn bq bH bI bG fO fP fQ fT fH fI = some r)∧aa (kq≤k2)∧aa (wc.heap[jD]? = some (.cells #[U Z ai,U Z aj,U Z aC,U Z aD,U Z aJ,U Z aH,U Z aK,(.slice dW aT.length dN),(.slice dZ ak.length dO)] 25 (0,0)))∧aa (wc.heap[gz]? = some (.cells #[U Z aI,U Z aG,U Z bn,U Z bq,U Z bH,U Z bI,U Z bG] 29 (0,0)))∧aa (wc.heap[Jz]? = some (.cells #[U Z bZ,U Z cz,U Z dw,U Z dx] 31 (0,0)))∧aa (wc.heap[UM]? = some (.cells #[U Z gD,U Z gF] 27 (0,0)))∧aa (wc.heap[UN]? = some (.cells #[U Z fO,U Z fP,U Z fQ,U Z fT,U Z fH,U Z fI] 81 (0,0)))∧aa (wc.heap[OM]? = some (.cells #[.int .u16 BI,.int .u16 Al] 56 (0,0)))∧aa (Below w.heap.size w wc))
              case first =>
               as_aux_lemma =>
                have H:=aAq.out
                clear aAq
                by_cases aeH:(Fv) < 0
                ·rw [if_pos aeH] at H
                 have Qm:decide ((Fv) < 0) = true:=decide_eq_true aeH
                 clear aeH
                 (first|rw [Qm]|(simp only [ib,ig];rw [Qm])|skip)
                 have H':=aa.mk H
                 clear H
                 go_wp2
                 go_meet
                 case rel=>exact ⟨_,(true),nM,H',⟨az0⟩,⟨gB⟩,⟨gB⟩,⟨gB⟩,⟨gB⟩,⟨gB⟩,⟨gB⟩,⟨gL⟩⟩
                ·rw [if_neg aeH] at H
                 have Qm:decide ((Fv) < 0) = false:=decide_eq_false aeH
                 clear aeH
                 (first|rw [Qm]|(simp only [ib,ig];rw [Qm])|skip)
                 by_cases aeI:(JA) < 0
                 ·rw [if_pos aeI] at H
                  have aoZ:decide ((JA) < 0) = true:=decide_eq_true aeI
                  clear aeI
                  have H':=aa.mk H
                  clear H
                  go_wp2
                  go_meet
                  case rel=>exact ⟨_,(true),nM,H',⟨az0⟩,⟨gB⟩,⟨gB⟩,⟨gB⟩,⟨gB⟩,⟨gB⟩,⟨gB⟩,⟨gL⟩⟩
                 ·rw [if_neg aeI] at H
                  have aoZ:decide ((JA) < 0) = false:=decide_eq_false aeI
                  clear aeI
                  have H':=aa.mk H
                  clear H
                  have azP:=qW.out
                  have azQ:=qX.out
                  have aYC:=Db.out
                  have aYD:=Dc.out
                  have aYE:=De.out
                  have aYF:=Df.out
                  have azR:=uV.out
                  have azS:=uW.out
                  have aYG:=Dh.out
                  have aYH:=Di.out
                  obtain ⟨ao0,ao1,ao2,ao3,ao4,ao5,ao6,ao7,ao8,ao9,apa,apb,apc,apd,ape,apf,apg,aph⟩:=jA dh.out
                  go_wp2
                  go_meet
                  case rel=>exact ⟨_,(decide ((wrap64 (Int.tdiv (wrap64 (a3+(wrap64 (bF*aG)))) aD)) ≥ aJ)),nM,H',⟨az0⟩,⟨gB⟩,⟨gB⟩,⟨gB⟩,⟨gB⟩,⟨gB⟩,⟨gB⟩,⟨gL⟩⟩
              case rest =>
               as_aux_lemma =>
                clear aAq
                try clear c1
                try clear c2
                try clear p2
                try clear c3
                try clear c4
                try clear c5
                try clear c6
                try clear p6
                try clear c7
                try clear p8
                try clear q8
                try clear hx8
                try clear c9
                try clear c10
                try clear c11
                try clear c19
                try clear c20
                try clear c21
                try clear XL
                try clear c23
                try clear c25
                try clear RP
                try clear c27
                try clear c28
                try clear c30
                try clear c31
                try clear c32
                try clear c33
                try clear c34
                try clear c35
                try clear c36
                try clear c37
                try clear c38
                try clear c39
                try clear c41
                try clear c42
                try clear c43
                try clear c44
                try clear c46
                try clear c47
                try clear c48
                try clear c49
                try clear c51
                try clear c56
                try clear aoD
                try clear aoE
                try clear c57
                try clear aoF
                try clear aoG
                try clear c60
                try clear c61
                try clear c62
                try clear c63
                try clear c64
                try clear p64
                try clear c66
                try clear c67
                try clear c68
                try clear c69
                try clear c71
                try clear c72
                try clear c73
                try clear c75
                try clear c76
                try clear c78
                try clear p83
                try clear q83
                try clear a8q
                try clear c91
                try clear axI
                try clear c92
                try clear aHu
                try clear c94
                try clear aHx
                try clear aHy
                try clear c97
                try clear aHA
                try clear aHB
                try clear a8r
                try clear a8s
                try clear a8t
                try clear a8u
                try clear a8v
                try clear a8w
                try clear c109
                try clear a8x
                try clear a8y
                try clear aeH
                try clear Qm
                try clear aeI
                try clear aoZ
                try clear a8z
                try clear c116
                try clear c117
                try clear a8A
                try clear c119
                try clear aoH aoI aoJ aoK aoL aoM aoN
                try clear acz acA acB acC acD acE acF aoV aoW
                try clear ao0 ao1 ao2 ao3 ao4 ao5 ao6 ao7 ao8
                try clear rC rD xE xG Ep Er Es J2 J3
                try clear vZ wh AB AJ CP CQ CR
                try clear Bg Bh Ik Il
                try clear IB IC KV KW OO OP OQ Ta Tc
                try clear KN KO Ou Ov Ow Ox Oy
                try clear J6 J7 J8 J9
                try clear XQ XR XT XU XV XW XX XY XZ
                try clear SV SX ZX ZY ZZ Z0 Z4
                try clear aiw aix aiy aiz
                try clear YE YF
                try clear Y4 Y5 Y6 Y7 Y8 Y9
                try clear aiE aiF aiG aiH aiI aiJ aiK aiL aiM
                try clear Nq Nr Ns Nt RQ RS RU
                try clear YI YJ YK YL
                try clear Zg Zh
                try clear Zo Zp Zq Zr Zt Zu
                try clear aiW aiX
                try clear aoO aoP aoQ aoR aoS aoT aoU
                try clear acG acH acI acJ acK acL acM aoX aoY
                try clear ao9 apa apb apc apd ape apf apg aph
                try clear rE rF xH xI Et Eu Ev J4 J5
                try clear wm wo AL AO CS CU CV
                try clear Bi Bj Im Io
                try clear IE IG KX KY OT OU OV Td Te
                try clear KP KQ Oz OA OB OC OD
                try clear Ka Kb Ke Kg
                try clear X3 X4 X5 X6 X7 X8 X9 Ya Yb
                try clear SY S9 Z5 Z6 Z7 Z8 Z9
                try clear aiA aiB aiC aiD
                try clear YG YH
                try clear Za Zb Zc Zd Ze Zf
                try clear aiN aiO aiP aiQ aiR aiS aiT aiU aiV
                try clear Nu Nv Nw Ny RV RX RY
                try clear YM YN YO YP
                try clear Zi Zj
                try clear Zv Zw Zx Zy Zz ZA
                try clear aiY aiZ
                try clear Tf Tg
                try clear p2
                try clear p64
                try clear avp
                try clear avq
                obtain ⟨kq,Ti,rfl,HA,anX,dh,bT,dD,dI,dJ,dL,HB⟩:=hcut
                cases kq with
                |zero=>exact absurd HA.out (by simp [ae.j2])
                |succ sM =>
                 have H:=HA.out
                 clear HA
                 simp only [ae.j2] at H
                 by_cases avr:Ti = true
                 ·subst avr
                  have H1:(some false) = some r:=by rw [if_pos rfl] at H;exact H
                  clear H
                  have H:=H1
                  clear H1
                  have hh_:=Option.some.inj H
                  rw [hr_.out] at hh_
                  cases hh_
                 ·replace avr:=Bool.eq_false_iff.mpr avr
                  subst avr
                  have H1:(if 0≤bF then (if bF < (l5.length:Int) then (if 0≤(wrap64 ((wrap64 ((wrap64 ((wrap64 ((wrap64 ((wrap64 ((wrap64 (Int.tdiv (wrap64 (a3+(wrap64 (bF*aG)))) aD))*aH))+((bJ l5 bF).f1)))*ai))*aj))+(wrap64 (JA*ai))))+Fv)) then (if (wrap64 ((wrap64 ((wrap64 ((wrap64 ((wrap64 ((wrap64 ((wrap64 (Int.tdiv (wrap64 (a3+(wrap64 (bF*aG)))) aD))*aH))+((bJ l5 bF).f1)))*ai))*aj))+(wrap64 (JA*ai))))+Fv)) < (ak.length:Int) then ((fq.f l8 (wrap64 (2*bF))).bind fun IM=>((dz.f ((ay ak (wrap64 ((wrap64 ((wrap64 ((wrap64 ((wrap64 ((wrap64 ((wrap64 (Int.tdiv (wrap64 (a3+(wrap64 (bF*aG)))) aD))*aH))+((bJ l5 bF).f1)))*ai))*aj))+(wrap64 (JA*ai))))+Fv))).f0.f0) ((ay ak (wrap64 ((wrap64 ((wrap64 ((wrap64 ((wrap64 ((wrap64 ((wrap64 (Int.tdiv (wrap64 (a3+(wrap64 (bF*aG)))) aD))*aH))+((bJ l5 bF).f1)))*ai))*aj))+(wrap64 (JA*ai))))+Fv))).f0.f1) IM).bind fun nu=>((fq.f l8 (wrap64 ((wrap64 (2*bF))+1))).bind fun DF=>((dz.f ((ay ak (wrap64 ((wrap64 ((wrap64 ((wrap64 ((wrap64 ((wrap64 ((wrap64 (Int.tdiv (wrap64 (a3+(wrap64 (bF*aG)))) aD))*aH))+((bJ l5 bF).f1)))*ai))*aj))+(wrap64 (JA*ai))))+Fv))).f1.f0) ((ay ak (wrap64 ((wrap64 ((wrap64 ((wrap64 ((wrap64 ((wrap64 ((wrap64 (Int.tdiv (wrap64 (a3+(wrap64 (bF*aG)))) aD))*aH))+((bJ l5 bF).f1)))*ai))*aj))+(wrap64 (JA*ai))))+Fv))).f1.f1) DF).bind fun mJ=>((eF.f aI aG bn bq bH bI bG ((bJ l5 bF).f0) ((bJ l5 bF).f1)).bind fun oH=>(if vk = true then (ae.l0 sM a3 l5 l8 (wrap64 (jd+(wrap64 ((wrap64 (4*(wrap64 ((wrap64 (nP*aI))+(wrap64 (1000*nu))))))*aG)))) (wrap64 (iQ+(wrap64 ((wrap64 (4*(wrap64 ((wrap64 (nQ*aI))+(wrap64 (1000*mJ))))))*aG)))) true (wrap64 (j3 - oH.2)) (wrap64 (bF+1)) ai aj aC aD aJ aH aK aT ak aI aG bn bq bH bI bG fO fP fQ fT fH fI) else (if (wrap64 ((wrap64 (a3+(wrap64 (bF*aG))))+aG)) ≥ fH then (if (wrap64 ((wrap64 (a3+(wrap64 (bF*aG))))+aG))≤fI then ((isobathlaw03_holds.f fO fP fQ fT (wrap64 (jd+(wrap64 ((wrap64 (4*(wrap64 ((wrap64 (nP*aI))+(wrap64 (1000*nu))))))*aG)))) (wrap64 (iQ+(wrap64 ((wrap64 (4*(wrap64 ((wrap64 (nQ*aI))+(wrap64 (1000*mJ))))))*aG))))).bind fun Fu=>(ae.l0 sM a3 l5 l8 (wrap64 (jd+(wrap64 ((wrap64 (4*(wrap64 ((wrap64 (nP*aI))+(wrap64 (1000*nu))))))*aG)))) (wrap64 (iQ+(wrap64 ((wrap64 (4*(wrap64 ((wrap64 (nQ*aI))+(wrap64 (1000*mJ))))))*aG)))) Fu (wrap64 (j3 - oH.2)) (wrap64 (bF+1)) ai aj aC aD aJ aH aK aT ak aI aG bn bq bH bI bG fO fP fQ fT fH fI)) else (ae.l0 sM a3 l5 l8 (wrap64 (jd+(wrap64 ((wrap64 (4*(wrap64 ((wrap64 (nP*aI))+(wrap64 (1000*nu))))))*aG)))) (wrap64 (iQ+(wrap64 ((wrap64 (4*(wrap64 ((wrap64 (nQ*aI))+(wrap64 (1000*mJ))))))*aG)))) false (wrap64 (j3 - oH.2)) (wrap64 (bF+1)) ai aj aC aD aJ aH aK aT ak aI aG bn bq bH bI bG fO fP fQ fT fH fI)) else (ae.l0 sM a3 l5 l8 (wrap64 (jd+(wrap64 ((wrap64 (4*(wrap64 ((wrap64 (nP*aI))+(wrap64 (1000*nu))))))*aG)))) (wrap64 (iQ+(wrap64 ((wrap64 (4*(wrap64 ((wrap64 (nQ*aI))+(wrap64 (1000*mJ))))))*aG)))) false (wrap64 (j3 - oH.2)) (wrap64 (bF+1)) ai aj aC aD aJ aH aK aT ak aI aG bn bq bH bI bG fO fP fQ fT fH fI)))))))) else (none)) else (none)) else (none)) else (none)) = some r:=by rw [if_neg (show ¬ (false = true) by decide)] at H;exact H
                  clear H
                  have H:=H1
                  clear H1
                  by_cases avs:0≤bF
                  ·rw [if_pos avs] at H
                   have aYI:decide (0≤bF) = true:=decide_eq_true avs
                   clear avs
                   by_cases avt:bF < (l5.length:Int)
                   ·rw [if_pos avt] at H
                    have aYJ:decide (bF < (l5.length:Int)) = true:=decide_eq_true avt
                    clear avt
                    obtain ⟨aZ,ZB⟩:∃ j_:Int,(wrap64 ((wrap64 ((wrap64 ((wrap64 ((wrap64 ((wrap64 ((wrap64 (Int.tdiv (wrap64 (a3+(wrap64 (bF*aG)))) aD))*aH))+((bJ l5 bF).f1)))*ai))*aj))+(wrap64 (JA*ai))))+Fv)) = j_:=⟨_,rfl⟩
                    replace H:(if 0≤(aZ) then (if (aZ) < (ak.length:Int) then ((fq.f l8 (wrap64 (2*bF))).bind fun IM=>((dz.f ((ay ak (aZ)).f0.f0) ((ay ak (aZ)).f0.f1) IM).bind fun nu=>((fq.f l8 (wrap64 ((wrap64 (2*bF))+1))).bind fun DF=>((dz.f ((ay ak (aZ)).f1.f0) ((ay ak (aZ)).f1.f1) DF).bind fun mJ=>((eF.f aI aG bn bq bH bI bG ((bJ l5 bF).f0) ((bJ l5 bF).f1)).bind fun oH=>(if vk = true then (ae.l0 sM a3 l5 l8 (wrap64 (jd+(wrap64 ((wrap64 (4*(wrap64 ((wrap64 (nP*aI))+(wrap64 (1000*nu))))))*aG)))) (wrap64 (iQ+(wrap64 ((wrap64 (4*(wrap64 ((wrap64 (nQ*aI))+(wrap64 (1000*mJ))))))*aG)))) true (wrap64 (j3 - oH.2)) (wrap64 (bF+1)) ai aj aC aD aJ aH aK aT ak aI aG bn bq bH bI bG fO fP fQ fT fH fI) else (if (wrap64 ((wrap64 (a3+(wrap64 (bF*aG))))+aG)) ≥ fH then (if (wrap64 ((wrap64 (a3+(wrap64 (bF*aG))))+aG))≤fI then ((isobathlaw03_holds.f fO fP fQ fT (wrap64 (jd+(wrap64 ((wrap64 (4*(wrap64 ((wrap64 (nP*aI))+(wrap64 (1000*nu))))))*aG)))) (wrap64 (iQ+(wrap64 ((wrap64 (4*(wrap64 ((wrap64 (nQ*aI))+(wrap64 (1000*mJ))))))*aG))))).bind fun Fu=>(ae.l0 sM a3 l5 l8 (wrap64 (jd+(wrap64 ((wrap64 (4*(wrap64 ((wrap64 (nP*aI))+(wrap64 (1000*nu))))))*aG)))) (wrap64 (iQ+(wrap64 ((wrap64 (4*(wrap64 ((wrap64 (nQ*aI))+(wrap64 (1000*mJ))))))*aG)))) Fu (wrap64 (j3 - oH.2)) (wrap64 (bF+1)) ai aj aC aD aJ aH aK aT ak aI aG bn bq bH bI bG fO fP fQ fT fH fI)) else (ae.l0 sM a3 l5 l8 (wrap64 (jd+(wrap64 ((wrap64 (4*(wrap64 ((wrap64 (nP*aI))+(wrap64 (1000*nu))))))*aG)))) (wrap64 (iQ+(wrap64 ((wrap64 (4*(wrap64 ((wrap64 (nQ*aI))+(wrap64 (1000*mJ))))))*aG)))) false (wrap64 (j3 - oH.2)) (wrap64 (bF+1)) ai aj aC aD aJ aH aK aT ak aI aG bn bq bH bI bG fO fP fQ fT fH fI)) else (ae.l0 sM a3 l5 l8 (wrap64 (jd+(wrap64 ((wrap64 (4*(wrap64 ((wrap64 (nP*aI))+(wrap64 (1000*nu))))))*aG)))) (wrap64 (iQ+(wrap64 ((wrap64 (4*(wrap64 ((wrap64 (nQ*aI))+(wrap64 (1000*mJ))))))*aG)))) false (wrap64 (j3 - oH.2)) (wrap64 (bF+1)) ai aj aC aD aJ aH aK aT ak aI aG bn bq bH bI bG fO fP fQ fT fH fI)))))))) else (none)) else (none)) = some r:=by first|(rw [ZB] at H;exact H)|(simp only [ZB] at H ⊢;exact H)
                    have aUK:(IntKind.i64.wrap ((wrap64 ((wrap64 ((wrap64 ((wrap64 ((wrap64 ((wrap64 (Int.tdiv (wrap64 (a3+(wrap64 (bF*aG)))) aD))*aH))+((bJ l5 bF).f1)))*ai))*aj))+(wrap64 (JA*ai))))+Fv)) = aZ:=(ib _).trans ZB
                    by_cases avu:0≤(aZ)
                    ·rw [if_pos avu] at H
                     have aYK:decide (0≤(aZ)) = true:=decide_eq_true avu
                     clear avu
                     by_cases avv:(aZ) < (ak.length:Int)
                     ·rw [if_pos avv] at H
                      have aYL:decide ((aZ) < (ak.length:Int)) = true:=decide_eq_true avv
                      clear avv
                      replace H:=Option.bind_eq_some_iff.mp H
                      obtain ⟨IM,axJ,H⟩:=H
                      replace H:((dz.f ((ay ak (aZ)).f0.f0) ((ay ak (aZ)).f0.f1) IM).bind fun nu=>((fq.f l8 (wrap64 ((wrap64 (2*bF))+1))).bind fun DF=>((dz.f ((ay ak (aZ)).f1.f0) ((ay ak (aZ)).f1.f1) DF).bind fun mJ=>((eF.f aI aG bn bq bH bI bG ((bJ l5 bF).f0) ((bJ l5 bF).f1)).bind fun oH=>(if vk = true then (ae.l0 sM a3 l5 l8 (wrap64 (jd+(wrap64 ((wrap64 (4*(wrap64 ((wrap64 (nP*aI))+(wrap64 (1000*nu))))))*aG)))) (wrap64 (iQ+(wrap64 ((wrap64 (4*(wrap64 ((wrap64 (nQ*aI))+(wrap64 (1000*mJ))))))*aG)))) true (wrap64 (j3 - oH.2)) (wrap64 (bF+1)) ai aj aC aD aJ aH aK aT ak aI aG bn bq bH bI bG fO fP fQ fT fH fI) else (if (wrap64 ((wrap64 (a3+(wrap64 (bF*aG))))+aG)) ≥ fH then (if (wrap64 ((wrap64 (a3+(wrap64 (bF*aG))))+aG))≤fI then ((isobathlaw03_holds.f fO fP fQ fT (wrap64 (jd+(wrap64 ((wrap64 (4*(wrap64 ((wrap64 (nP*aI))+(wrap64 (1000*nu))))))*aG)))) (wrap64 (iQ+(wrap64 ((wrap64 (4*(wrap64 ((wrap64 (nQ*aI))+(wrap64 (1000*mJ))))))*aG))))).bind fun Fu=>(ae.l0 sM a3 l5 l8 (wrap64 (jd+(wrap64 ((wrap64 (4*(wrap64 ((wrap64 (nP*aI))+(wrap64 (1000*nu))))))*aG)))) (wrap64 (iQ+(wrap64 ((wrap64 (4*(wrap64 ((wrap64 (nQ*aI))+(wrap64 (1000*mJ))))))*aG)))) Fu (wrap64 (j3 - oH.2)) (wrap64 (bF+1)) ai aj aC aD aJ aH aK aT ak aI aG bn bq bH bI bG fO fP fQ fT fH fI)) else (ae.l0 sM a3 l5 l8 (wrap64 (jd+(wrap64 ((wrap64 (4*(wrap64 ((wrap64 (nP*aI))+(wrap64 (1000*nu))))))*aG)))) (wrap64 (iQ+(wrap64 ((wrap64 (4*(wrap64 ((wrap64 (nQ*aI))+(wrap64 (1000*mJ))))))*aG)))) false (wrap64 (j3 - oH.2)) (wrap64 (bF+1)) ai aj aC aD aJ aH aK aT ak aI aG bn bq bH bI bG fO fP fQ fT fH fI)) else (ae.l0 sM a3 l5 l8 (wrap64 (jd+(wrap64 ((wrap64 (4*(wrap64 ((wrap64 (nP*aI))+(wrap64 (1000*nu))))))*aG)))) (wrap64 (iQ+(wrap64 ((wrap64 (4*(wrap64 ((wrap64 (nQ*aI))+(wrap64 (1000*mJ))))))*aG)))) false (wrap64 (j3 - oH.2)) (wrap64 (bF+1)) ai aj aC aD aJ aH aK aT ak aI aG bn bq bH bI bG fO fP fQ fT fH fI))))))) = some r:=H
                      have avw:=aa.mk axJ
                      clear axJ
                      replace H:=Option.bind_eq_some_iff.mp H
                      obtain ⟨nu,axK,H⟩:=H
                      replace H:((fq.f l8 (wrap64 ((wrap64 (2*bF))+1))).bind fun DF=>((dz.f ((ay ak (aZ)).f1.f0) ((ay ak (aZ)).f1.f1) DF).bind fun mJ=>((eF.f aI aG bn bq bH bI bG ((bJ l5 bF).f0) ((bJ l5 bF).f1)).bind fun oH=>(if vk = true then (ae.l0 sM a3 l5 l8 (wrap64 (jd+(wrap64 ((wrap64 (4*(wrap64 ((wrap64 (nP*aI))+(wrap64 (1000*nu))))))*aG)))) (wrap64 (iQ+(wrap64 ((wrap64 (4*(wrap64 ((wrap64 (nQ*aI))+(wrap64 (1000*mJ))))))*aG)))) true (wrap64 (j3 - oH.2)) (wrap64 (bF+1)) ai aj aC aD aJ aH aK aT ak aI aG bn bq bH bI bG fO fP fQ fT fH fI) else (if (wrap64 ((wrap64 (a3+(wrap64 (bF*aG))))+aG)) ≥ fH then (if (wrap64 ((wrap64 (a3+(wrap64 (bF*aG))))+aG))≤fI then ((isobathlaw03_holds.f fO fP fQ fT (wrap64 (jd+(wrap64 ((wrap64 (4*(wrap64 ((wrap64 (nP*aI))+(wrap64 (1000*nu))))))*aG)))) (wrap64 (iQ+(wrap64 ((wrap64 (4*(wrap64 ((wrap64 (nQ*aI))+(wrap64 (1000*mJ))))))*aG))))).bind fun Fu=>(ae.l0 sM a3 l5 l8 (wrap64 (jd+(wrap64 ((wrap64 (4*(wrap64 ((wrap64 (nP*aI))+(wrap64 (1000*nu))))))*aG)))) (wrap64 (iQ+(wrap64 ((wrap64 (4*(wrap64 ((wrap64 (nQ*aI))+(wrap64 (1000*mJ))))))*aG)))) Fu (wrap64 (j3 - oH.2)) (wrap64 (bF+1)) ai aj aC aD aJ aH aK aT ak aI aG bn bq bH bI bG fO fP fQ fT fH fI)) else (ae.l0 sM a3 l5 l8 (wrap64 (jd+(wrap64 ((wrap64 (4*(wrap64 ((wrap64 (nP*aI))+(wrap64 (1000*nu))))))*aG)))) (wrap64 (iQ+(wrap64 ((wrap64 (4*(wrap64 ((wrap64 (nQ*aI))+(wrap64 (1000*mJ))))))*aG)))) false (wrap64 (j3 - oH.2)) (wrap64 (bF+1)) ai aj aC aD aJ aH aK aT ak aI aG bn bq bH bI bG fO fP fQ fT fH fI)) else (ae.l0 sM a3 l5 l8 (wrap64 (jd+(wrap64 ((wrap64 (4*(wrap64 ((wrap64 (nP*aI))+(wrap64 (1000*nu))))))*aG)))) (wrap64 (iQ+(wrap64 ((wrap64 (4*(wrap64 ((wrap64 (nQ*aI))+(wrap64 (1000*mJ))))))*aG)))) false (wrap64 (j3 - oH.2)) (wrap64 (bF+1)) ai aj aC aD aJ aH aK aT ak aI aG bn bq bH bI bG fO fP fQ fT fH fI)))))) = some r:=H
                      have avx:=aa.mk axK
                      clear axK
                      replace H:=Option.bind_eq_some_iff.mp H
                      obtain ⟨DF,axL,H⟩:=H
                      replace H:((dz.f ((ay ak (aZ)).f1.f0) ((ay ak (aZ)).f1.f1) DF).bind fun mJ=>((eF.f aI aG bn bq bH bI bG ((bJ l5 bF).f0) ((bJ l5 bF).f1)).bind fun oH=>(if vk = true then (ae.l0 sM a3 l5 l8 (wrap64 (jd+(wrap64 ((wrap64 (4*(wrap64 ((wrap64 (nP*aI))+(wrap64 (1000*nu))))))*aG)))) (wrap64 (iQ+(wrap64 ((wrap64 (4*(wrap64 ((wrap64 (nQ*aI))+(wrap64 (1000*mJ))))))*aG)))) true (wrap64 (j3 - oH.2)) (wrap64 (bF+1)) ai aj aC aD aJ aH aK aT ak aI aG bn bq bH bI bG fO fP fQ fT fH fI) else (if (wrap64 ((wrap64 (a3+(wrap64 (bF*aG))))+aG)) ≥ fH then (if (wrap64 ((wrap64 (a3+(wrap64 (bF*aG))))+aG))≤fI then ((isobathlaw03_holds.f fO fP fQ fT (wrap64 (jd+(wrap64 ((wrap64 (4*(wrap64 ((wrap64 (nP*aI))+(wrap64 (1000*nu))))))*aG)))) (wrap64 (iQ+(wrap64 ((wrap64 (4*(wrap64 ((wrap64 (nQ*aI))+(wrap64 (1000*mJ))))))*aG))))).bind fun Fu=>(ae.l0 sM a3 l5 l8 (wrap64 (jd+(wrap64 ((wrap64 (4*(wrap64 ((wrap64 (nP*aI))+(wrap64 (1000*nu))))))*aG)))) (wrap64 (iQ+(wrap64 ((wrap64 (4*(wrap64 ((wrap64 (nQ*aI))+(wrap64 (1000*mJ))))))*aG)))) Fu (wrap64 (j3 - oH.2)) (wrap64 (bF+1)) ai aj aC aD aJ aH aK aT ak aI aG bn bq bH bI bG fO fP fQ fT fH fI)) else (ae.l0 sM a3 l5 l8 (wrap64 (jd+(wrap64 ((wrap64 (4*(wrap64 ((wrap64 (nP*aI))+(wrap64 (1000*nu))))))*aG)))) (wrap64 (iQ+(wrap64 ((wrap64 (4*(wrap64 ((wrap64 (nQ*aI))+(wrap64 (1000*mJ))))))*aG)))) false (wrap64 (j3 - oH.2)) (wrap64 (bF+1)) ai aj aC aD aJ aH aK aT ak aI aG bn bq bH bI bG fO fP fQ fT fH fI)) else (ae.l0 sM a3 l5 l8 (wrap64 (jd+(wrap64 ((wrap64 (4*(wrap64 ((wrap64 (nP*aI))+(wrap64 (1000*nu))))))*aG)))) (wrap64 (iQ+(wrap64 ((wrap64 (4*(wrap64 ((wrap64 (nQ*aI))+(wrap64 (1000*mJ))))))*aG)))) false (wrap64 (j3 - oH.2)) (wrap64 (bF+1)) ai aj aC aD aJ aH aK aT ak aI aG bn bq bH bI bG fO fP fQ fT fH fI))))) = some r:=H
                      have avy:=aa.mk axL
                      clear axL
                      replace H:=Option.bind_eq_some_iff.mp H
                      obtain ⟨mJ,axM,H⟩:=H
                      replace H:((eF.f aI aG bn bq bH bI bG ((bJ l5 bF).f0) ((bJ l5 bF).f1)).bind fun oH=>(if vk = true then (ae.l0 sM a3 l5 l8 (wrap64 (jd+(wrap64 ((wrap64 (4*(wrap64 ((wrap64 (nP*aI))+(wrap64 (1000*nu))))))*aG)))) (wrap64 (iQ+(wrap64 ((wrap64 (4*(wrap64 ((wrap64 (nQ*aI))+(wrap64 (1000*mJ))))))*aG)))) true (wrap64 (j3 - oH.2)) (wrap64 (bF+1)) ai aj aC aD aJ aH aK aT ak aI aG bn bq bH bI bG fO fP fQ fT fH fI) else (if (wrap64 ((wrap64 (a3+(wrap64 (bF*aG))))+aG)) ≥ fH then (if (wrap64 ((wrap64 (a3+(wrap64 (bF*aG))))+aG))≤fI then ((isobathlaw03_holds.f fO fP fQ fT (wrap64 (jd+(wrap64 ((wrap64 (4*(wrap64 ((wrap64 (nP*aI))+(wrap64 (1000*nu))))))*aG)))) (wrap64 (iQ+(wrap64 ((wrap64 (4*(wrap64 ((wrap64 (nQ*aI))+(wrap64 (1000*mJ))))))*aG))))).bind fun Fu=>(ae.l0 sM a3 l5 l8 (wrap64 (jd+(wrap64 ((wrap64 (4*(wrap64 ((wrap64 (nP*aI))+(wrap64 (1000*nu))))))*aG)))) (wrap64 (iQ+(wrap64 ((wrap64 (4*(wrap64 ((wrap64 (nQ*aI))+(wrap64 (1000*mJ))))))*aG)))) Fu (wrap64 (j3 - oH.2)) (wrap64 (bF+1)) ai aj aC aD aJ aH aK aT ak aI aG bn bq bH bI bG fO fP fQ fT fH fI)) else (ae.l0 sM a3 l5 l8 (wrap64 (jd+(wrap64 ((wrap64 (4*(wrap64 ((wrap64 (nP*aI))+(wrap64 (1000*nu))))))*aG)))) (wrap64 (iQ+(wrap64 ((wrap64 (4*(wrap64 ((wrap64 (nQ*aI))+(wrap64 (1000*mJ))))))*aG)))) false (wrap64 (j3 - oH.2)) (wrap64 (bF+1)) ai aj aC aD aJ aH aK aT ak aI aG bn bq bH bI bG fO fP fQ fT fH fI)) else (ae.l0 sM a3 l5 l8 (wrap64 (jd+(wrap64 ((wrap64 (4*(wrap64 ((wrap64 (nP*aI))+(wrap64 (1000*nu))))))*aG)))) (wrap64 (iQ+(wrap64 ((wrap64 (4*(wrap64 ((wrap64 (nQ*aI))+(wrap64 (1000*mJ))))))*aG)))) false (wrap64 (j3 - oH.2)) (wrap64 (bF+1)) ai aj aC aD aJ aH aK aT ak aI aG bn bq bH bI bG fO fP fQ fT fH fI)))) = some r:=H
                      have Vh:=aa.mk axM
                      clear axM
                      replace H:=Option.bind_eq_some_iff.mp H
                      obtain ⟨⟨avz,JB⟩,axN,H⟩:=H
                      replace H:(if vk = true then (ae.l0 sM a3 l5 l8 (wrap64 (jd+(wrap64 ((wrap64 (4*(wrap64 ((wrap64 (nP*aI))+(wrap64 (1000*nu))))))*aG)))) (wrap64 (iQ+(wrap64 ((wrap64 (4*(wrap64 ((wrap64 (nQ*aI))+(wrap64 (1000*mJ))))))*aG)))) true (wrap64 (j3 - JB)) (wrap64 (bF+1)) ai aj aC aD aJ aH aK aT ak aI aG bn bq bH bI bG fO fP fQ fT fH fI) else (if (wrap64 ((wrap64 (a3+(wrap64 (bF*aG))))+aG)) ≥ fH then (if (wrap64 ((wrap64 (a3+(wrap64 (bF*aG))))+aG))≤fI then ((isobathlaw03_holds.f fO fP fQ fT (wrap64 (jd+(wrap64 ((wrap64 (4*(wrap64 ((wrap64 (nP*aI))+(wrap64 (1000*nu))))))*aG)))) (wrap64 (iQ+(wrap64 ((wrap64 (4*(wrap64 ((wrap64 (nQ*aI))+(wrap64 (1000*mJ))))))*aG))))).bind fun Fu=>(ae.l0 sM a3 l5 l8 (wrap64 (jd+(wrap64 ((wrap64 (4*(wrap64 ((wrap64 (nP*aI))+(wrap64 (1000*nu))))))*aG)))) (wrap64 (iQ+(wrap64 ((wrap64 (4*(wrap64 ((wrap64 (nQ*aI))+(wrap64 (1000*mJ))))))*aG)))) Fu (wrap64 (j3 - JB)) (wrap64 (bF+1)) ai aj aC aD aJ aH aK aT ak aI aG bn bq bH bI bG fO fP fQ fT fH fI)) else (ae.l0 sM a3 l5 l8 (wrap64 (jd+(wrap64 ((wrap64 (4*(wrap64 ((wrap64 (nP*aI))+(wrap64 (1000*nu))))))*aG)))) (wrap64 (iQ+(wrap64 ((wrap64 (4*(wrap64 ((wrap64 (nQ*aI))+(wrap64 (1000*mJ))))))*aG)))) false (wrap64 (j3 - JB)) (wrap64 (bF+1)) ai aj aC aD aJ aH aK aT ak aI aG bn bq bH bI bG fO fP fQ fT fH fI)) else (ae.l0 sM a3 l5 l8 (wrap64 (jd+(wrap64 ((wrap64 (4*(wrap64 ((wrap64 (nP*aI))+(wrap64 (1000*nu))))))*aG)))) (wrap64 (iQ+(wrap64 ((wrap64 (4*(wrap64 ((wrap64 (nQ*aI))+(wrap64 (1000*mJ))))))*aG)))) false (wrap64 (j3 - JB)) (wrap64 (bF+1)) ai aj aC aD aJ aH aK aT ak aI aG bn bq bH bI bG fO fP fQ fT fH fI))) = some r:=H
                      have avA:=aa.mk axN
                      clear axN
                      by_cases avB:vk = true
                      ·subst avB
                       have H1:(ae.l0 sM a3 l5 l8 (wrap64 (jd+(wrap64 ((wrap64 (4*(wrap64 ((wrap64 (nP*aI))+(wrap64 (1000*nu))))))*aG)))) (wrap64 (iQ+(wrap64 ((wrap64 (4*(wrap64 ((wrap64 (nQ*aI))+(wrap64 (1000*mJ))))))*aG)))) true (wrap64 (j3 - JB)) (wrap64 (bF+1)) ai aj aC aD aJ aH aK aT ak aI aG bn bq bH bI bG fO fP fQ fT fH fI) = some r:=by rw [if_pos rfl] at H;exact H
                       clear H
                       have H:=H1
                       clear H1
                       have H':=aa.mk H
                       clear H
                       try go_wp2
                       replace dh:=aa.mk (ag dh.out)
                       replace bT:=aa.mk (ag bT.out)
                       replace dD:=aa.mk (ag dD.out)
                       replace dI:=aa.mk (ag dI.out)
                       replace dJ:=aa.mk (ag dJ.out)
                       replace dL:=aa.mk (ag dL.out)
                       replace HB:=aa.mk (bO HB.out)
                       have Mw:0≤(bF:Int):=of_decide_eq_true mq
                       have Mx:bF < (l5.length:Int):=of_decide_eq_true mq
                       obtain ⟨UO,aeJ,nz,nA⟩:=kE PX.out bF Mw Mx
                       have wI:=nA
                       have wH:=nz
                       obtain rfl:oQ = UO:=(by injection aeJ)
                       replace nz:=(HB.out.cell (World.block_lt_of_cell? w _ nz)).trans nz
                       replace nA:=(HB.out.cell (World.block_lt_of_cell? w _ nA)).trans nA
                       replace Mw:=eq_true Mw
                       replace Mx:=eq_true Mx
                       have MB:0≤((aZ):Int):=of_decide_eq_true mq
                       have MC:(aZ) < (ak.length:Int):=of_decide_eq_true mq
                       obtain ⟨nC,aeK,nD,nE,nG,nH⟩:=zo gN.out (aZ) MB MC
                       have wM:=nH
                       have wL:=nG
                       have wK:=nE
                       have wJ:=nD
                       cases aeK
                       replace nD:=(HB.out.cell (World.block_lt_of_cell? w _ nD)).trans nD
                       replace nE:=(HB.out.cell (World.block_lt_of_cell? w _ nE)).trans nE
                       replace nG:=(HB.out.cell (World.block_lt_of_cell? w _ nG)).trans nG
                       replace nH:=(HB.out.cell (World.block_lt_of_cell? w _ nH)).trans nH
                       replace MB:=eq_true MB
                       replace MC:=eq_true MC
                       refine iN (n:=29) (S:=fun w'=>w'.cell? ⟨jD,0,none⟩ = some (U Z ai)∧w'.cell? ⟨jD,1,none⟩ = some (U Z aj)∧w'.cell? ⟨jD,2,none⟩ = some (U Z aC)∧w'.cell? ⟨jD,3,none⟩ = some (U Z aD)∧w'.cell? ⟨jD,4,none⟩ = some (U Z aJ)∧w'.cell? ⟨jD,5,none⟩ = some (U Z aH)∧w'.cell? ⟨jD,6,none⟩ = some (U Z aK)∧w'.cell? ⟨jD,7,none⟩ = some (.slice dW aT.length dN)∧w'.cell? ⟨jD,8,none⟩ = some (.slice (some nC) ak.length dO)∧w'.cell? (oQ.add ((bF).toNat*2)) = some (U Z ((bJ l5 bF).f0))∧w'.cell? ⟨(oQ.add ((bF).toNat*2)).block,(oQ.add ((bF).toNat*2)).off+1,none⟩ = some (U Z ((bJ l5 bF).f1))∧w'.cell? (nC.add (((aZ)).toNat*4)) = some (U Z ((ay ak (aZ)).f0.f0))∧w'.cell? ⟨(nC.add (((aZ)).toNat*4)).block,(nC.add (((aZ)).toNat*4)).off+1,none⟩ = some (U Z ((ay ak (aZ)).f0.f1))∧w'.cell? ⟨(nC.add (((aZ)).toNat*4)).block,(nC.add (((aZ)).toNat*4)).off+2,none⟩ = some (U Z ((ay ak (aZ)).f1.f0))∧w'.cell? ⟨(nC.add (((aZ)).toNat*4)).block,(nC.add (((aZ)).toNat*4)).off+3,none⟩ = some (U Z ((ay ak (aZ)).f1.f1))) (ds:=[]) #[ac,ac,ac,ac,ac,ac,ac,ac,ac,ac,ac,ac,ac,ac,ac,ac,ac,ac,ac,ac,ac,ac,ac,ac,ac,ac,ac,ac,ac] aM rfl rfl (uw dh.out ⟨(jJ HB wH),(jJ HB wI),(jJ HB wJ),(jJ HB wK),(jJ HB wL),(jJ HB wM)⟩) (fun hHeld=>?_);refine fU ae.air ae.ZT (fun bz jb=>?_)
                       generalize wc.drew = a8B at dh bT dD dI dJ dL HB nz nA nD nE nG nH hHeld ⊢
                       refine bV (i:=0) (N:=some 135) (ax bz.out aM) ?_
                       refine bV (i:=2) (N:=some 137) (ax bz.out aM) ?_
                       refine bV (i:=3) (N:=some 138) (ax bz.out aM) ?_
                       refine bV (i:=6) (N:=some 141) (ax bz.out aM) ?_
                       refine bV (i:=7) (N:=some 142) (ax bz.out aM) ?_
                       refine bV (i:=8) (N:=some 143) (ax bz.out aM) ?_
                       refine bV (i:=9) (N:=some 144) (ax bz.out aM) ?_
                       refine bV (i:=12) (N:=some 147) (ax bz.out aM) ?_
                       refine bV (i:=15) (N:=some 150) (ax bz.out aM) ?_
                       refine bV (i:=18) (N:=some 153) (ax bz.out aM) ?_
                       refine bV (i:=19) (N:=some 154) (ax bz.out aM) ?_
                       refine bV (i:=23) (N:=some 158) (ax bz.out aM) ?_
                       refine iL (i:=1) (N:=some 136) (aY bz.out jb.out aM) hHeld ?_
                       refine iL (i:=4) (N:=some 139) (aY bz.out jb.out aM) hHeld ?_
                       refine bV (i:=5) (N:=some 140) (ax bz.out aM) ?_
                       refine iL (i:=10) (N:=some 145) (aY bz.out jb.out aM) hHeld ?_
                       refine bV (i:=11) (N:=some 146) (ax bz.out aM) ?_
                       refine iL (i:=13) (N:=some 148) (aY bz.out jb.out aM) hHeld ?_
                       refine bV (i:=14) (N:=some 149) (ax bz.out aM) ?_
                       refine iL (i:=16) (N:=some 151) (aY bz.out jb.out aM) hHeld ?_
                       refine bV (i:=17) (N:=some 152) (ax bz.out aM) ?_
                       refine iL (i:=20) (N:=some 155) (aY bz.out jb.out aM) hHeld ?_
                       refine bV (i:=21) (N:=some 156) (ax bz.out aM) ?_
                       refine bV (i:=22) (N:=some 157) (ax bz.out aM) ?_
                       refine bV (i:=24) (N:=some 159) (ax bz.out aM) ?_
                       refine bV (i:=25) (N:=some 160) (ax bz.out aM) ?_
                       refine iL (i:=26) (N:=some 161) (aY bz.out jb.out aM) hHeld ?_
                       refine iO (i:=27) (N:=some 31) #[ab,ab,ab,ab,ab,ab,ab,ab,ab,ab,ab,ab,ab,ab,ab,ab,ab,ab,ab,ab,ab,ab,ab,ab,ab,ab,ab,ab,ac] rfl rfl (eH bz.out aM) (by decide) (fun K hK=>?_)
                       refine nV ?hg (N:=31) ?hd (cs:=#[U Z 0,U Z 0,U Z 0,U Z 0]) (t:=40) ?hr ?_;(case hd=>rfl);(case hg=>rfl);(case hr=>first|(go_simp;done)|(go_simp;rfl))
                       intro bu hg Qn hbox hb
                       have bP:=aa.mk (hbox)
                       have qV:=bS HB hg
                       have api:=bS HB hg
                       have aR:=eQ dh hg
                       have lL:=eT dh hg
                       have jQ:=eQ bT hg
                       have jR:=eT bT hg
                       have lM:=eQ dD hg
                       have lN:=eT dD hg
                       have lQ:=eQ dI hg
                       have lS:=eT dI hg
                       have j5:=eQ dJ hg
                       have j6:=eT dJ hg
                       have lT:=eQ dL hg
                       have lU:=eT dL hg
                       replace dh:=aX dh hb
                       replace bT:=aX bT hb
                       replace dD:=aX dD hb
                       replace dI:=aX dI hb
                       replace dJ:=aX dJ hb
                       replace dL:=aX dL hb
                       replace HB:=cO HB hb
                       clear hb hbox hg
                       refine hK.out _ _ (uw dh.out ⟨(jJ HB wH),(jJ HB wI),(jJ HB wJ),(jJ HB wK),(jJ HB wL),(jJ HB wM)⟩) (fun hHeld=>?_)
                       clear hK K
                       refine dM alI ?_
                       refine iO (i:=28) (N:=none) #[ab,ab,ab,ab,ab,ab,ab,ab,ab,ab,ab,ab,ab,ab,ab,ab,ab,ab,ab,ab,ab,ab,ab,ab,ab,ab,ab,ab,ab] rfl rfl (eH bz.out aM) (by decide) (fun K hK=>?_)
                       have a5m:Qn.cell? ⟨bu,0,none⟩ = some (U Z 0):=(ah bP.out 0).trans rfl
                       have aYM:=bf bP.out 0
                       have aHC:=aR.out
                       have aHD:=jQ.out
                       have aHE:=lM.out
                       have aHF:=lQ.out
                       have aHG:=j5.out
                       have aHH:=lT.out
                       have aHI:=lL.out
                       have aHJ:=jR.out
                       have aHK:=lN.out
                       have aHL:=lS.out
                       have aHM:=j6.out
                       have aHN:=lU.out
                       have a5n:Qn.cell? ⟨bu,1,none⟩ = some (U Z 0):=(ah bP.out 1).trans rfl
                       have aYN:=bf bP.out 1
                       have aHO:=aR.out
                       have aHP:=jQ.out
                       have aHQ:=lM.out
                       have aHR:=lQ.out
                       have aHS:=j5.out
                       have aHT:=lT.out
                       have aHU:=lL.out
                       have aHV:=jR.out
                       have aHW:=lN.out
                       have aHX:=lS.out
                       have aHY:=j6.out
                       have aHZ:=lU.out
                       have a5o:Qn.cell? ⟨bu,2,none⟩ = some (U Z 0):=(ah bP.out 2).trans rfl
                       have aYO:=bf bP.out 2
                       have aH0:=aR.out
                       have aH1:=jQ.out
                       have aH2:=lM.out
                       have aH3:=lQ.out
                       have aH4:=j5.out
                       have aH5:=lT.out
                       have aH6:=lL.out
                       have aH7:=jR.out
                       have aH8:=lN.out
                       have aH9:=lS.out
                       have aIa:=j6.out
                       have aIb:=lU.out
                       have a5p:Qn.cell? ⟨bu,3,none⟩ = some (U Z 0):=(ah bP.out 3).trans rfl
                       have aYP:=bf bP.out 3
                       have aIc:=aR.out
                       have aId:=jQ.out
                       have aIe:=lM.out
                       have aIf:=lQ.out
                       have aIg:=j5.out
                       have aIh:=lT.out
                       have aIi:=lL.out
                       have aIj:=jR.out
                       have aIk:=lN.out
                       have aIl:=lS.out
                       have aIm:=j6.out
                       have aIn:=lU.out
                       refine ve (w1:=?_) (by rfl) rfl ?_ ?_
                       rotate_left
                       ·go_simp
                        rfl
                       refine hK.out _ _ ⟨(bY aR ((bY aR ((bY aR ((bY aR (hHeld.1)))))))),(bY aR ((bY aR ((bY aR ((bY aR (hHeld.2.1)))))))),(bY aR ((bY aR ((bY aR ((bY aR (hHeld.2.2.1)))))))),(bY aR ((bY aR ((bY aR ((bY aR (hHeld.2.2.2.1)))))))),(bY aR ((bY aR ((bY aR ((bY aR (hHeld.2.2.2.2.1)))))))),(bY aR ((bY aR ((bY aR ((bY aR (hHeld.2.2.2.2.2.1)))))))),(bY aR ((bY aR ((bY aR ((bY aR (hHeld.2.2.2.2.2.2.1)))))))),(bY aR ((bY aR ((bY aR ((bY aR (hHeld.2.2.2.2.2.2.2.1)))))))),(bY aR ((bY aR ((bY aR ((bY aR (hHeld.2.2.2.2.2.2.2.2.1)))))))),((cell_far (p:=⟨bu,_,none⟩) Lr _).trans (((cell_far (p:=⟨bu,_,none⟩) Lr _).trans (((cell_far (p:=⟨bu,_,none⟩) Lr _).trans (((cell_far (p:=⟨bu,_,none⟩) Lr _).trans (hHeld.2.2.2.2.2.2.2.2.2.1)))))))),((cell_far (p:=⟨bu,_,none⟩) Ls _).trans (((cell_far (p:=⟨bu,_,none⟩) Ls _).trans (((cell_far (p:=⟨bu,_,none⟩) Ls _).trans (((cell_far (p:=⟨bu,_,none⟩) Ls _).trans (hHeld.2.2.2.2.2.2.2.2.2.2.1)))))))),((cell_far (p:=⟨bu,_,none⟩) Lt _).trans (((cell_far (p:=⟨bu,_,none⟩) Lt _).trans (((cell_far (p:=⟨bu,_,none⟩) Lt _).trans (((cell_far (p:=⟨bu,_,none⟩) Lt _).trans (hHeld.2.2.2.2.2.2.2.2.2.2.2.1)))))))),((cell_far (p:=⟨bu,_,none⟩) Lu _).trans (((cell_far (p:=⟨bu,_,none⟩) Lu _).trans (((cell_far (p:=⟨bu,_,none⟩) Lu _).trans (((cell_far (p:=⟨bu,_,none⟩) Lu _).trans (hHeld.2.2.2.2.2.2.2.2.2.2.2.2.1)))))))),((cell_far (p:=⟨bu,_,none⟩) Lv _).trans (((cell_far (p:=⟨bu,_,none⟩) Lv _).trans (((cell_far (p:=⟨bu,_,none⟩) Lv _).trans (((cell_far (p:=⟨bu,_,none⟩) Lv _).trans (hHeld.2.2.2.2.2.2.2.2.2.2.2.2.2.1)))))))),((cell_far (p:=⟨bu,_,none⟩) Lx _).trans (((cell_far (p:=⟨bu,_,none⟩) Lx _).trans (((cell_far (p:=⟨bu,_,none⟩) Lx _).trans (((cell_far (p:=⟨bu,_,none⟩) Lx _).trans (hHeld.2.2.2.2.2.2.2.2.2.2.2.2.2.2))))))))⟩ (fun hHeld=>?_)
                       clear hK K
                       refine jS (ja bz.out aM) ?_
                       try go_wp2
                       have vD:aa (((((Qn.setCell ⟨bu,0,none⟩ (U Z ((ay ak (aZ)).f0.f0))).setCell ⟨bu,1,none⟩ (U Z ((ay ak (aZ)).f0.f1))).setCell ⟨bu,2,none⟩ (U Z ((ay ak (aZ)).f1.f0))).setCell ⟨bu,3,none⟩ (U Z ((ay ak (aZ)).f1.f1))).heap[jD]? = some (.cells #[U Z ai,U Z aj,U Z aC,U Z aD,U Z aJ,U Z aH,U Z aK,.slice dW aT.length dN,.slice (some nC) ak.length dO] 25 (0,0))):=⟨gB⟩
                       have vE:aa (((((Qn.setCell ⟨bu,0,none⟩ (U Z ((ay ak (aZ)).f0.f0))).setCell ⟨bu,1,none⟩ (U Z ((ay ak (aZ)).f0.f1))).setCell ⟨bu,2,none⟩ (U Z ((ay ak (aZ)).f1.f0))).setCell ⟨bu,3,none⟩ (U Z ((ay ak (aZ)).f1.f1))).heap[gz]? = some (.cells #[U Z aI,U Z aG,U Z bn,U Z bq,U Z bH,U Z bI,U Z bG] 29 (0,0))):=⟨gB⟩
                       have vF:aa (((((Qn.setCell ⟨bu,0,none⟩ (U Z ((ay ak (aZ)).f0.f0))).setCell ⟨bu,1,none⟩ (U Z ((ay ak (aZ)).f0.f1))).setCell ⟨bu,2,none⟩ (U Z ((ay ak (aZ)).f1.f0))).setCell ⟨bu,3,none⟩ (U Z ((ay ak (aZ)).f1.f1))).heap[Jz]? = some (.cells #[U Z bZ,U Z cz,U Z dw,U Z dx] 31 (0,0))):=⟨gB⟩
                       have vG:aa (((((Qn.setCell ⟨bu,0,none⟩ (U Z ((ay ak (aZ)).f0.f0))).setCell ⟨bu,1,none⟩ (U Z ((ay ak (aZ)).f0.f1))).setCell ⟨bu,2,none⟩ (U Z ((ay ak (aZ)).f1.f0))).setCell ⟨bu,3,none⟩ (U Z ((ay ak (aZ)).f1.f1))).heap[UM]? = some (.cells #[U Z gD,U Z gF] 27 (0,0))):=⟨gB⟩
                       have vY:aa (((((Qn.setCell ⟨bu,0,none⟩ (U Z ((ay ak (aZ)).f0.f0))).setCell ⟨bu,1,none⟩ (U Z ((ay ak (aZ)).f0.f1))).setCell ⟨bu,2,none⟩ (U Z ((ay ak (aZ)).f1.f0))).setCell ⟨bu,3,none⟩ (U Z ((ay ak (aZ)).f1.f1))).heap[UN]? = some (.cells #[U Z fO,U Z fP,U Z fQ,U Z fT,U Z fH,U Z fI] 81 (0,0))):=⟨gB⟩
                       have BP:aa (((((Qn.setCell ⟨bu,0,none⟩ (U Z ((ay ak (aZ)).f0.f0))).setCell ⟨bu,1,none⟩ (U Z ((ay ak (aZ)).f0.f1))).setCell ⟨bu,2,none⟩ (U Z ((ay ak (aZ)).f1.f0))).setCell ⟨bu,3,none⟩ (U Z ((ay ak (aZ)).f1.f1))).heap[OM]? = some (.cells #[.int .u16 BI,.int .u16 Al] 56 (0,0))):=⟨gB⟩
                       have Jc:aa (((((Qn.setCell ⟨bu,0,none⟩ (U Z ((ay ak (aZ)).f0.f0))).setCell ⟨bu,1,none⟩ (U Z ((ay ak (aZ)).f0.f1))).setCell ⟨bu,2,none⟩ (U Z ((ay ak (aZ)).f1.f0))).setCell ⟨bu,3,none⟩ (U Z ((ay ak (aZ)).f1.f1))).heap[bu]? = some (.cells #[U Z ((ay ak (aZ)).f0.f0),U Z ((ay ak (aZ)).f0.f1),U Z ((ay ak (aZ)).f1.f0),U Z ((ay ak (aZ)).f1.f1)] 40 (0,0))):=⟨by (with_reducible repeat (first|refine av ?_ _|refine ag ?_|refine af ?_ _));refine aN (cs:=#[U Z ((ay ak (aZ)).f0.f0),U Z ((ay ak (aZ)).f0.f1),U Z ((ay ak (aZ)).f1.f0),U Z 0]) ?_ 3 _ rfl;(with_reducible repeat (first|refine av ?_ _|refine ag ?_|refine af ?_ _));refine aN (cs:=#[U Z ((ay ak (aZ)).f0.f0),U Z ((ay ak (aZ)).f0.f1),U Z 0,U Z 0]) ?_ 2 _ rfl;(with_reducible repeat (first|refine av ?_ _|refine ag ?_|refine af ?_ _));refine aN (cs:=#[U Z ((ay ak (aZ)).f0.f0),U Z 0,U Z 0,U Z 0]) ?_ 1 _ rfl;(with_reducible repeat (first|refine av ?_ _|refine ag ?_|refine af ?_ _));refine aN (cs:=#[U Z 0,U Z 0,U Z 0,U Z 0]) ?_ 0 _ rfl;(with_reducible repeat (first|refine av ?_ _|refine ag ?_|refine af ?_ _));exact bP.out⟩
                       have Ld:aa (Below w.heap.size w ((((Qn.setCell ⟨bu,0,none⟩ (U Z ((ay ak (aZ)).f0.f0))).setCell ⟨bu,1,none⟩ (U Z ((ay ak (aZ)).f0.f1))).setCell ⟨bu,2,none⟩ (U Z ((ay ak (aZ)).f1.f0))).setCell ⟨bu,3,none⟩ (U Z ((ay ak (aZ)).f1.f1)))):=⟨gL⟩
                       (try clear dh)
                       (try clear bT)
                       (try clear dD)
                       (try clear dI)
                       (try clear dJ)
                       (try clear dL)
                       (try clear bP)
                       (try clear HB)
                       generalize ((((Qn.setCell ⟨bu,0,none⟩ (U Z ((ay ak (aZ)).f0.f0))).setCell ⟨bu,1,none⟩ (U Z ((ay ak (aZ)).f0.f1))).setCell ⟨bu,2,none⟩ (U Z ((ay ak (aZ)).f1.f0))).setCell ⟨bu,3,none⟩ (U Z ((ay ak (aZ)).f1.f1))) = aYQ at vD vE vF vG vY BP Jc Ld ⊢
                       have dh:=vD
                       have bT:=vE
                       have dD:=vF
                       have dI:=vG
                       have dJ:=vY
                       have dL:=BP
                       have bP:=Jc
                       have HB:=Ld
                       clear vD vE vF vG vY BP Jc Ld
                       replace dh:=aa.mk (ag dh.out)
                       replace bT:=aa.mk (ag bT.out)
                       replace dD:=aa.mk (ag dD.out)
                       replace dI:=aa.mk (ag dI.out)
                       replace dJ:=aa.mk (ag dJ.out)
                       replace dL:=aa.mk (ag dL.out)
                       replace bP:=aa.mk (ag bP.out)
                       replace HB:=aa.mk (bO HB.out)
                       refine iN (n:=20) (S:=fun w'=>w'.cell? ⟨gz,0,none⟩ = some (U Z aI)∧w'.cell? ⟨gz,1,none⟩ = some (U Z aG)∧w'.cell? ⟨gz,2,none⟩ = some (U Z bn)∧w'.cell? ⟨gz,3,none⟩ = some (U Z bq)∧w'.cell? ⟨gz,4,none⟩ = some (U Z bH)∧w'.cell? ⟨gz,5,none⟩ = some (U Z bI)∧w'.cell? ⟨gz,6,none⟩ = some (U Z bG)∧w'.cell? ⟨bu,0,none⟩ = some (U Z ((ay ak (aZ)).f0.f0))∧w'.cell? ⟨bu,1,none⟩ = some (U Z ((ay ak (aZ)).f0.f1))∧w'.cell? ⟨bu,2,none⟩ = some (U Z ((ay ak (aZ)).f1.f0))∧w'.cell? ⟨bu,3,none⟩ = some (U Z ((ay ak (aZ)).f1.f1))) (ds:=[]) #[ac,ac,ac,ac,ac,ac,ac,ac,ac,ac,ac,ac,ac,ac,ac,ac,ac,ac,ac,ac] aM rfl rfl (qp bT.out ⟨bE bP 0,bE bP 1,bE bP 2,bE bP 3⟩) (fun hHeld=>?_);refine fU ae.ais ae.ZU (fun bz jb=>?_)
                       generalize aYQ.drew = aXO at dh bT dD dI dJ dL bP HB hHeld ⊢
                       refine bV (i:=0) (N:=some 162) (ax bz.out aM) ?_
                       refine bV (i:=1) (N:=some 163) (ax bz.out aM) ?_
                       refine bV (i:=2) (N:=some 164) (ax bz.out aM) ?_
                       refine bV (i:=5) (N:=some 167) (ax bz.out aM) ?_
                       refine bV (i:=7) (N:=some 169) (ax bz.out aM) ?_
                       refine bV (i:=8) (N:=some 170) (ax bz.out aM) ?_
                       refine bV (i:=9) (N:=some 171) (ax bz.out aM) ?_
                       refine bV (i:=15) (N:=some 177) (ax bz.out aM) ?_
                       refine iL (i:=3) (N:=some 165) (aY bz.out jb.out aM) hHeld ?_
                       refine bV (i:=4) (N:=some 166) (ax bz.out aM) ?_
                       refine iL (i:=6) (N:=some 168) (aY bz.out jb.out aM) hHeld ?_
                       refine iL (i:=16) (N:=some 178) (aY bz.out jb.out aM) hHeld ?_
                       refine iO (i:=10) (N:=some 172) #[ab,ab,ab,ab,ab,ab,ab,ab,ab,ab,ab,ac,ac,ac,ac,ab,ab,ac,ac,ac] rfl rfl (eH bz.out aM) (by decide) (fun K hK=>?_)
                       refine gJ Try.func35 aM rfl #[.slice A8 l8.length c8,U Z (wrap64 (2*bF))] (by rfl) rfl rfl ji ?_
                       with_reducible refine (fq.calls _ _ l8 (wrap64 (2*bF)) IM _ ?cZ ?df avw.out).mono ?_
                       (case cZ=>repeat (first|exact (Kd.bB HR8.out HB.out)|(with_reducible refine Kd.bC ?_ _)|(with_reducible refine Kd.bD ?_ _)|(with_reducible refine Kd.bN ?_)))
                       (case df=>exact HC8.out)
                       rintro e w' ⟨rfl,⟨nd,rfl⟩⟩
                       refine ⟨_,rfl,?_⟩
                       refine hK.out _ _ (qp bT.out ⟨bE bP 0,bE bP 1,bE bP 2,bE bP 3⟩) (fun hHeld=>?_)
                       clear hK K
                       refine dM auT ?_
                       refine iO (i:=11) (N:=some 173) #[ab,ab,ab,ab,ab,ab,ab,ab,ab,ab,ab,ab,ac,ac,ac,ab,ab,ac,ac,ac] rfl rfl (eH bz.out aM) (by decide) (fun K hK=>?_)
                       refine gJ Try.func33 aM rfl #[.agg #[U Z ((ay ak (aZ)).f0.f0),U Z ((ay ak (aZ)).f0.f1)],.int .u16 IM] (by rfl) rfl rfl acN ?_
                       with_reducible refine (dz.calls ((ay ak (aZ)).f0.f0) ((ay ak (aZ)).f0.f1) IM nu _ avx.out).mono ?_
                       rintro e aYR ⟨rfl,hb⟩
                       refine ⟨_,rfl,?_⟩
                       replace dh:=aX dh hb
                       replace bT:=aX bT hb
                       replace dD:=aX dD hb
                       replace dI:=aX dI hb
                       replace dJ:=aX dJ hb
                       replace dL:=aX dL hb
                       replace bP:=aX bP hb
                       replace HB:=cO HB hb
                       (try clear hb)
                       (try clear hb2)
                       (try clear hk)
                       (try clear hi)
                       refine hK.out _ _ (qp bT.out ⟨bE bP 0,bE bP 1,bE bP 2,bE bP 3⟩) (fun hHeld=>?_)
                       clear hK K
                       refine dM auU ?_
                       refine bV (i:=12) (N:=some 174) (ax bz.out aM) ?_
                       refine bV (i:=13) (N:=some 175) (ax bz.out aM) ?_
                       refine bV (i:=14) (N:=some 176) (ax bz.out aM) ?_
                       refine bV (i:=17) (N:=some 179) (ax bz.out aM) ?_
                       refine bV (i:=18) (N:=some 180) (ax bz.out aM) ?_
                       refine bV (i:=19) (N:=some 20) (ax bz.out aM) ?_
                       refine jS (ja bz.out aM) ?_
                       try go_wp2
                       replace dh:=aa.mk (ag dh.out)
                       replace bT:=aa.mk (ag bT.out)
                       replace dD:=aa.mk (ag dD.out)
                       replace dI:=aa.mk (ag dI.out)
                       replace dJ:=aa.mk (ag dJ.out)
                       replace dL:=aa.mk (ag dL.out)
                       replace bP:=aa.mk (ag bP.out)
                       replace HB:=aa.mk (bO HB.out)
                       refine iN (n:=21) (S:=fun w'=>w'.cell? ⟨gz,0,none⟩ = some (U Z aI)∧w'.cell? ⟨gz,1,none⟩ = some (U Z aG)∧w'.cell? ⟨gz,2,none⟩ = some (U Z bn)∧w'.cell? ⟨gz,3,none⟩ = some (U Z bq)∧w'.cell? ⟨gz,4,none⟩ = some (U Z bH)∧w'.cell? ⟨gz,5,none⟩ = some (U Z bI)∧w'.cell? ⟨gz,6,none⟩ = some (U Z bG)∧w'.cell? ⟨bu,0,none⟩ = some (U Z ((ay ak (aZ)).f0.f0))∧w'.cell? ⟨bu,1,none⟩ = some (U Z ((ay ak (aZ)).f0.f1))∧w'.cell? ⟨bu,2,none⟩ = some (U Z ((ay ak (aZ)).f1.f0))∧w'.cell? ⟨bu,3,none⟩ = some (U Z ((ay ak (aZ)).f1.f1))) (ds:=[]) #[ac,ac,ac,ac,ac,ac,ac,ac,ac,ac,ac,ac,ac,ac,ac,ac,ac,ac,ac,ac,ac] aM rfl rfl (qp bT.out ⟨bE bP 0,bE bP 1,bE bP 2,bE bP 3⟩) (fun hHeld=>?_);refine fU ae.ait ae.ZV (fun bz jb=>?_)
                       generalize aYR.drew = aXP at dh bT dD dI dJ dL bP HB hHeld ⊢
                       refine bV (i:=0) (N:=some 181) (ax bz.out aM) ?_
                       refine bV (i:=1) (N:=some 182) (ax bz.out aM) ?_
                       refine bV (i:=2) (N:=some 183) (ax bz.out aM) ?_
                       refine bV (i:=5) (N:=some 186) (ax bz.out aM) ?_
                       refine bV (i:=7) (N:=some 188) (ax bz.out aM) ?_
                       refine bV (i:=8) (N:=some 189) (ax bz.out aM) ?_
                       refine bV (i:=9) (N:=some 190) (ax bz.out aM) ?_
                       refine bV (i:=10) (N:=some 191) (ax bz.out aM) ?_
                       refine bV (i:=16) (N:=some 197) (ax bz.out aM) ?_
                       refine iL (i:=3) (N:=some 184) (aY bz.out jb.out aM) hHeld ?_
                       refine bV (i:=4) (N:=some 185) (ax bz.out aM) ?_
                       refine iL (i:=6) (N:=some 187) (aY bz.out jb.out aM) hHeld ?_
                       refine iL (i:=17) (N:=some 198) (aY bz.out jb.out aM) hHeld ?_
                       refine iO (i:=11) (N:=some 192) #[ab,ab,ab,ab,ab,ab,ab,ab,ab,ab,ab,ab,ac,ac,ac,ac,ab,ab,ac,ac,ac] rfl rfl (eH bz.out aM) (by decide) (fun K hK=>?_)
                       refine gJ Try.func35 aM rfl #[.slice A8 l8.length c8,U Z (wrap64 ((wrap64 (2*bF))+1))] (by rfl) rfl rfl ji ?_
                       with_reducible refine (fq.calls _ _ l8 (wrap64 ((wrap64 (2*bF))+1)) DF _ ?cZ ?df avy.out).mono ?_
                       (case cZ=>repeat (first|exact (Kd.bB HR8.out HB.out)|(with_reducible refine Kd.bC ?_ _)|(with_reducible refine Kd.bD ?_ _)|(with_reducible refine Kd.bN ?_)))
                       (case df=>exact HC8.out)
                       rintro e w' ⟨rfl,⟨nd,rfl⟩⟩
                       refine ⟨_,rfl,?_⟩
                       refine hK.out _ _ (qp bT.out ⟨bE bP 0,bE bP 1,bE bP 2,bE bP 3⟩) (fun hHeld=>?_)
                       clear hK K
                       refine dM auV ?_
                       refine iO (i:=12) (N:=some 193) #[ab,ab,ab,ab,ab,ab,ab,ab,ab,ab,ab,ab,ab,ac,ac,ac,ab,ab,ac,ac,ac] rfl rfl (eH bz.out aM) (by decide) (fun K hK=>?_)
                       refine gJ Try.func33 aM rfl #[.agg #[U Z ((ay ak (aZ)).f1.f0),U Z ((ay ak (aZ)).f1.f1)],.int .u16 DF] (by rfl) rfl rfl acN ?_
                       with_reducible refine (dz.calls ((ay ak (aZ)).f1.f0) ((ay ak (aZ)).f1.f1) DF mJ _ Vh.out).mono ?_
                       rintro e aYS ⟨rfl,hb⟩
                       refine ⟨_,rfl,?_⟩
                       replace dh:=aX dh hb
                       replace bT:=aX bT hb
                       replace dD:=aX dD hb
                       replace dI:=aX dI hb
                       replace dJ:=aX dJ hb
                       replace dL:=aX dL hb
                       replace bP:=aX bP hb
                       replace HB:=cO HB hb
                       (try clear hb)
                       (try clear hb2)
                       (try clear hk)
                       (try clear hi)
                       refine hK.out _ _ (qp bT.out ⟨bE bP 0,bE bP 1,bE bP 2,bE bP 3⟩) (fun hHeld=>?_)
                       clear hK K
                       refine dM auW ?_
                       refine bV (i:=13) (N:=some 194) (ax bz.out aM) ?_
                       refine bV (i:=14) (N:=some 195) (ax bz.out aM) ?_
                       refine bV (i:=15) (N:=some 196) (ax bz.out aM) ?_
                       refine bV (i:=18) (N:=some 199) (ax bz.out aM) ?_
                       refine bV (i:=19) (N:=some 200) (ax bz.out aM) ?_
                       refine bV (i:=20) (N:=some 21) (ax bz.out aM) ?_
                       refine jS (ja bz.out aM) ?_
                       try go_wp2
                       replace dh:=aa.mk (ag dh.out)
                       replace bT:=aa.mk (ag bT.out)
                       replace dD:=aa.mk (ag dD.out)
                       replace dI:=aa.mk (ag dI.out)
                       replace dJ:=aa.mk (ag dJ.out)
                       replace dL:=aa.mk (ag dL.out)
                       replace bP:=aa.mk (ag bP.out)
                       replace HB:=aa.mk (bO HB.out)
                       have ME:0≤(bF:Int):=of_decide_eq_true mq
                       have MF:bF < (l5.length:Int):=of_decide_eq_true mq
                       obtain ⟨UQ,aeL,nI,nJ⟩:=kE PX.out bF ME MF
                       have yP:=nJ
                       have yQ:=nI
                       obtain rfl:oQ = UQ:=(by injection aeL)
                       replace nI:=(HB.out.cell (World.block_lt_of_cell? w _ nI)).trans nI
                       replace nJ:=(HB.out.cell (World.block_lt_of_cell? w _ nJ)).trans nJ
                       replace ME:=eq_true ME
                       replace MF:=eq_true MF
                       refine iN (n:=10) (S:=fun w'=>w'.cell? ⟨gz,0,none⟩ = some (U Z aI)∧w'.cell? ⟨gz,1,none⟩ = some (U Z aG)∧w'.cell? ⟨gz,2,none⟩ = some (U Z bn)∧w'.cell? ⟨gz,3,none⟩ = some (U Z bq)∧w'.cell? ⟨gz,4,none⟩ = some (U Z bH)∧w'.cell? ⟨gz,5,none⟩ = some (U Z bI)∧w'.cell? ⟨gz,6,none⟩ = some (U Z bG)∧w'.cell? (oQ.add ((bF).toNat*2)) = some (U Z ((bJ l5 bF).f0))∧w'.cell? ⟨(oQ.add ((bF).toNat*2)).block,(oQ.add ((bF).toNat*2)).off+1,none⟩ = some (U Z ((bJ l5 bF).f1))) (ds:=[]) #[ac,ac,ac,ac,ac,ac,ac,ac,ac,ac] aM rfl rfl (qp bT.out ⟨(jJ HB yQ),(jJ HB yP)⟩) (fun hHeld=>?_);refine fU ae.aiu ae.ZW (fun bz jb=>?_)
                       generalize aYS.drew = aXR at dh bT dD dI dJ dL bP HB nI nJ hHeld ⊢
                       refine bV (i:=0) (N:=some 201) (ax bz.out aM) ?_
                       refine bV (i:=2) (N:=some 203) (ax bz.out aM) ?_
                       refine bV (i:=3) (N:=some 204) (ax bz.out aM) ?_
                       refine bV (i:=4) (N:=some 205) (ax bz.out aM) ?_
                       refine iL (i:=1) (N:=some 202) (aY bz.out jb.out aM) hHeld ?_
                       refine iL (i:=5) (N:=some 206) (aY bz.out jb.out aM) hHeld ?_
                       refine iO (i:=6) (N:=some 207) #[ab,ab,ab,ab,ab,ab,ab,ac,ac,ac] rfl rfl (eH bz.out aM) (by decide) (fun K hK=>?_)
                       refine gJ Try.func39 aM rfl #[.agg #[U Z aI,U Z aG,U Z bn,U Z bq,U Z bH,U Z bI,U Z bG],.agg #[U Z ((bJ l5 bF).f0),U Z ((bJ l5 bF).f1)]] (by rfl) rfl rfl ji ?_
                       with_reducible refine (eF.calls aI aG bn bq bH bI bG ((bJ l5 bF).f0) ((bJ l5 bF).f1) avz JB _ avA.out).mono ?_
                       rintro e aXS ⟨rfl,hb⟩
                       refine ⟨_,rfl,?_⟩
                       replace dh:=aX dh hb
                       replace bT:=aX bT hb
                       replace dD:=aX dD hb
                       replace dI:=aX dI hb
                       replace dJ:=aX dJ hb
                       replace dL:=aX dL hb
                       replace bP:=aX bP hb
                       replace HB:=cO HB hb
                       (try clear hb)
                       (try clear hb2)
                       (try clear hk)
                       (try clear hi)
                       refine hK.out _ _ (qp bT.out ⟨(jJ HB yQ),(jJ HB yP)⟩) (fun hHeld=>?_)
                       clear hK K
                       refine dM auX ?_
                       refine bV (i:=7) (N:=some 208) (ax bz.out aM) ?_
                       refine bV (i:=8) (N:=some 209) (ax bz.out aM) ?_
                       refine bV (i:=9) (N:=some 23) (ax bz.out aM) ?_
                       refine jS (ja bz.out aM) ?_
                       have aYT:=qX.out
                       have aYU:=qW.out
                       have aYV:=su.out
                       have aYW:=sw.out
                       have aYX:=sD.out
                       have aYY:=sF.out
                       have azT:=sG.out
                       have azU:=sH.out
                       have azV:=sI.out
                       have azW:=sJ.out
                       have azX:=jQ.out
                       have azY:=jR.out
                       obtain ⟨aIo,aIp,aIq,aIr,aIs,aIt,aIu,aIv,aIw,aIx,aIy,aIz,aIA,aIB⟩:=jF bT.out
                       try go_wp2
                       go_roundg sM
                       case measure=>have:=HJ9.out;have:=HK2.out;have:=anX.out;omega
                       case rel=>exact ⟨(wrap64 (jd+(wrap64 ((wrap64 (4*(wrap64 ((wrap64 (nP*aI))+(wrap64 (1000*nu))))))*aG)))),(wrap64 (iQ+(wrap64 ((wrap64 (4*(wrap64 ((wrap64 (nQ*aI))+(wrap64 (1000*mJ))))))*aG)))),(true),(wrap64 (j3 - JB)),(wrap64 (bF+1)),nM,nM,nM,nM,nM,H',⟨auY⟩,⟨gB⟩,⟨gB⟩,⟨gB⟩,⟨gB⟩,⟨gB⟩,⟨gB⟩,⟨gL⟩⟩
                      ·replace avB:=Bool.eq_false_iff.mpr avB
                       subst avB
                       have H1:(if (wrap64 ((wrap64 (a3+(wrap64 (bF*aG))))+aG)) ≥ fH then (if (wrap64 ((wrap64 (a3+(wrap64 (bF*aG))))+aG))≤fI then ((isobathlaw03_holds.f fO fP fQ fT (wrap64 (jd+(wrap64 ((wrap64 (4*(wrap64 ((wrap64 (nP*aI))+(wrap64 (1000*nu))))))*aG)))) (wrap64 (iQ+(wrap64 ((wrap64 (4*(wrap64 ((wrap64 (nQ*aI))+(wrap64 (1000*mJ))))))*aG))))).bind fun Fu=>(ae.l0 sM a3 l5 l8 (wrap64 (jd+(wrap64 ((wrap64 (4*(wrap64 ((wrap64 (nP*aI))+(wrap64 (1000*nu))))))*aG)))) (wrap64 (iQ+(wrap64 ((wrap64 (4*(wrap64 ((wrap64 (nQ*aI))+(wrap64 (1000*mJ))))))*aG)))) Fu (wrap64 (j3 - JB)) (wrap64 (bF+1)) ai aj aC aD aJ aH aK aT ak aI aG bn bq bH bI bG fO fP fQ fT fH fI)) else (ae.l0 sM a3 l5 l8 (wrap64 (jd+(wrap64 ((wrap64 (4*(wrap64 ((wrap64 (nP*aI))+(wrap64 (1000*nu))))))*aG)))) (wrap64 (iQ+(wrap64 ((wrap64 (4*(wrap64 ((wrap64 (nQ*aI))+(wrap64 (1000*mJ))))))*aG)))) false (wrap64 (j3 - JB)) (wrap64 (bF+1)) ai aj aC aD aJ aH aK aT ak aI aG bn bq bH bI bG fO fP fQ fT fH fI)) else (ae.l0 sM a3 l5 l8 (wrap64 (jd+(wrap64 ((wrap64 (4*(wrap64 ((wrap64 (nP*aI))+(wrap64 (1000*nu))))))*aG)))) (wrap64 (iQ+(wrap64 ((wrap64 (4*(wrap64 ((wrap64 (nQ*aI))+(wrap64 (1000*mJ))))))*aG)))) false (wrap64 (j3 - JB)) (wrap64 (bF+1)) ai aj aC aD aJ aH aK aT ak aI aG bn bq bH bI bG fO fP fQ fT fH fI)) = some r:=by rw [if_neg (show ¬ (false = true) by decide)] at H;exact H
                       clear H
                       have H:=H1
                       clear H1
                       by_cases alb:(wrap64 ((wrap64 (a3+(wrap64 (bF*aG))))+aG)) ≥ fH
                       ·rw [if_pos alb] at H
                        have aAr:decide (fH≤(wrap64 ((wrap64 (a3+(wrap64 (bF*aG))))+aG))) = true:=decide_eq_true alb
                        clear alb
                        by_cases c154:(wrap64 ((wrap64 (a3+(wrap64 (bF*aG))))+aG))≤fI
                        ·rw [if_pos c154] at H
                         have aAs:decide ((wrap64 ((wrap64 (a3+(wrap64 (bF*aG))))+aG))≤fI) = true:=decide_eq_true c154
                         clear c154
                         replace H:=Option.bind_eq_some_iff.mp H
                         obtain ⟨Fu,axO,H⟩:=H
                         replace H:(ae.l0 sM a3 l5 l8 (wrap64 (jd+(wrap64 ((wrap64 (4*(wrap64 ((wrap64 (nP*aI))+(wrap64 (1000*nu))))))*aG)))) (wrap64 (iQ+(wrap64 ((wrap64 (4*(wrap64 ((wrap64 (nQ*aI))+(wrap64 (1000*mJ))))))*aG)))) Fu (wrap64 (j3 - JB)) (wrap64 (bF+1)) ai aj aC aD aJ aH aK aT ak aI aG bn bq bH bI bG fO fP fQ fT fH fI) = some r:=H
                         have aYZ:=aa.mk axO
                         clear axO
                         have H':=aa.mk H
                         clear H
                         try go_wp2
                         replace dh:=aa.mk (ag dh.out)
                         replace bT:=aa.mk (ag bT.out)
                         replace dD:=aa.mk (ag dD.out)
                         replace dI:=aa.mk (ag dI.out)
                         replace dJ:=aa.mk (ag dJ.out)
                         replace dL:=aa.mk (ag dL.out)
                         replace HB:=aa.mk (bO HB.out)
                         have Mw:0≤(bF:Int):=of_decide_eq_true mq
                         have Mx:bF < (l5.length:Int):=of_decide_eq_true mq
                         obtain ⟨UO,aeJ,nz,nA⟩:=kE PX.out bF Mw Mx
                         have wI:=nA
                         have wH:=nz
                         obtain rfl:oQ = UO:=(by injection aeJ)
                         replace nz:=(HB.out.cell (World.block_lt_of_cell? w _ nz)).trans nz
                         replace nA:=(HB.out.cell (World.block_lt_of_cell? w _ nA)).trans nA
                         replace Mw:=eq_true Mw
                         replace Mx:=eq_true Mx
                         have MB:0≤((aZ):Int):=of_decide_eq_true mq
                         have MC:(aZ) < (ak.length:Int):=of_decide_eq_true mq
                         obtain ⟨nC,aeK,nD,nE,nG,nH⟩:=zo gN.out (aZ) MB MC
                         have wM:=nH
                         have wL:=nG
                         have wK:=nE
                         have wJ:=nD
                         cases aeK
                         replace nD:=(HB.out.cell (World.block_lt_of_cell? w _ nD)).trans nD
                         replace nE:=(HB.out.cell (World.block_lt_of_cell? w _ nE)).trans nE
                         replace nG:=(HB.out.cell (World.block_lt_of_cell? w _ nG)).trans nG
                         replace nH:=(HB.out.cell (World.block_lt_of_cell? w _ nH)).trans nH
                         replace MB:=eq_true MB
                         replace MC:=eq_true MC
                         refine iN (n:=29) (S:=fun w'=>w'.cell? ⟨jD,0,none⟩ = some (U Z ai)∧w'.cell? ⟨jD,1,none⟩ = some (U Z aj)∧w'.cell? ⟨jD,2,none⟩ = some (U Z aC)∧w'.cell? ⟨jD,3,none⟩ = some (U Z aD)∧w'.cell? ⟨jD,4,none⟩ = some (U Z aJ)∧w'.cell? ⟨jD,5,none⟩ = some (U Z aH)∧w'.cell? ⟨jD,6,none⟩ = some (U Z aK)∧w'.cell? ⟨jD,7,none⟩ = some (.slice dW aT.length dN)∧w'.cell? ⟨jD,8,none⟩ = some (.slice (some nC) ak.length dO)∧w'.cell? (oQ.add ((bF).toNat*2)) = some (U Z ((bJ l5 bF).f0))∧w'.cell? ⟨(oQ.add ((bF).toNat*2)).block,(oQ.add ((bF).toNat*2)).off+1,none⟩ = some (U Z ((bJ l5 bF).f1))∧w'.cell? (nC.add (((aZ)).toNat*4)) = some (U Z ((ay ak (aZ)).f0.f0))∧w'.cell? ⟨(nC.add (((aZ)).toNat*4)).block,(nC.add (((aZ)).toNat*4)).off+1,none⟩ = some (U Z ((ay ak (aZ)).f0.f1))∧w'.cell? ⟨(nC.add (((aZ)).toNat*4)).block,(nC.add (((aZ)).toNat*4)).off+2,none⟩ = some (U Z ((ay ak (aZ)).f1.f0))∧w'.cell? ⟨(nC.add (((aZ)).toNat*4)).block,(nC.add (((aZ)).toNat*4)).off+3,none⟩ = some (U Z ((ay ak (aZ)).f1.f1))) (ds:=[]) #[ac,ac,ac,ac,ac,ac,ac,ac,ac,ac,ac,ac,ac,ac,ac,ac,ac,ac,ac,ac,ac,ac,ac,ac,ac,ac,ac,ac,ac] aM rfl rfl (uw dh.out ⟨(jJ HB wH),(jJ HB wI),(jJ HB wJ),(jJ HB wK),(jJ HB wL),(jJ HB wM)⟩) (fun hHeld=>?_);refine fU ae.air ae.ZT (fun bz jb=>?_)
                         generalize wc.drew = a8C at dh bT dD dI dJ dL HB nz nA nD nE nG nH hHeld ⊢
                         refine bV (i:=0) (N:=some 135) (ax bz.out aM) ?_
                         refine bV (i:=2) (N:=some 137) (ax bz.out aM) ?_
                         refine bV (i:=3) (N:=some 138) (ax bz.out aM) ?_
                         refine bV (i:=6) (N:=some 141) (ax bz.out aM) ?_
                         refine bV (i:=7) (N:=some 142) (ax bz.out aM) ?_
                         refine bV (i:=8) (N:=some 143) (ax bz.out aM) ?_
                         refine bV (i:=9) (N:=some 144) (ax bz.out aM) ?_
                         refine bV (i:=12) (N:=some 147) (ax bz.out aM) ?_
                         refine bV (i:=15) (N:=some 150) (ax bz.out aM) ?_
                         refine bV (i:=18) (N:=some 153) (ax bz.out aM) ?_
                         refine bV (i:=19) (N:=some 154) (ax bz.out aM) ?_
                         refine bV (i:=23) (N:=some 158) (ax bz.out aM) ?_
                         refine iL (i:=1) (N:=some 136) (aY bz.out jb.out aM) hHeld ?_
                         refine iL (i:=4) (N:=some 139) (aY bz.out jb.out aM) hHeld ?_
                         refine bV (i:=5) (N:=some 140) (ax bz.out aM) ?_
                         refine iL (i:=10) (N:=some 145) (aY bz.out jb.out aM) hHeld ?_
                         refine bV (i:=11) (N:=some 146) (ax bz.out aM) ?_
                         refine iL (i:=13) (N:=some 148) (aY bz.out jb.out aM) hHeld ?_
                         refine bV (i:=14) (N:=some 149) (ax bz.out aM) ?_
                         refine iL (i:=16) (N:=some 151) (aY bz.out jb.out aM) hHeld ?_
                         refine bV (i:=17) (N:=some 152) (ax bz.out aM) ?_
                         refine iL (i:=20) (N:=some 155) (aY bz.out jb.out aM) hHeld ?_
                         refine bV (i:=21) (N:=some 156) (ax bz.out aM) ?_
                         refine bV (i:=22) (N:=some 157) (ax bz.out aM) ?_
                         refine bV (i:=24) (N:=some 159) (ax bz.out aM) ?_
                         refine bV (i:=25) (N:=some 160) (ax bz.out aM) ?_
                         refine iL (i:=26) (N:=some 161) (aY bz.out jb.out aM) hHeld ?_
                         refine iO (i:=27) (N:=some 31) #[ab,ab,ab,ab,ab,ab,ab,ab,ab,ab,ab,ab,ab,ab,ab,ab,ab,ab,ab,ab,ab,ab,ab,ab,ab,ab,ab,ab,ac] rfl rfl (eH bz.out aM) (by decide) (fun K hK=>?_)
                         refine nV ?hg (N:=31) ?hd (cs:=#[U Z 0,U Z 0,U Z 0,U Z 0]) (t:=40) ?hr ?_;(case hd=>rfl);(case hg=>rfl);(case hr=>first|(go_simp;done)|(go_simp;rfl))
                         intro bu hg Qo hbox hb
                         have bP:=aa.mk (hbox)
                         have qV:=bS HB hg
                         have api:=bS HB hg
                         have aR:=eQ dh hg
                         have lL:=eT dh hg
                         have jQ:=eQ bT hg
                         have jR:=eT bT hg
                         have lM:=eQ dD hg
                         have lN:=eT dD hg
                         have lQ:=eQ dI hg
                         have lS:=eT dI hg
                         have j5:=eQ dJ hg
                         have j6:=eT dJ hg
                         have lT:=eQ dL hg
                         have lU:=eT dL hg
                         replace dh:=aX dh hb
                         replace bT:=aX bT hb
                         replace dD:=aX dD hb
                         replace dI:=aX dI hb
                         replace dJ:=aX dJ hb
                         replace dL:=aX dL hb
                         replace HB:=cO HB hb
                         clear hb hbox hg
                         refine hK.out _ _ (uw dh.out ⟨(jJ HB wH),(jJ HB wI),(jJ HB wJ),(jJ HB wK),(jJ HB wL),(jJ HB wM)⟩) (fun hHeld=>?_)
                         clear hK K
                         refine dM alI ?_
                         refine iO (i:=28) (N:=none) #[ab,ab,ab,ab,ab,ab,ab,ab,ab,ab,ab,ab,ab,ab,ab,ab,ab,ab,ab,ab,ab,ab,ab,ab,ab,ab,ab,ab,ab] rfl rfl (eH bz.out aM) (by decide) (fun K hK=>?_)
                         have a5q:Qo.cell? ⟨bu,0,none⟩ = some (U Z 0):=(ah bP.out 0).trans rfl
                         have aY0:=bf bP.out 0
                         have aIC:=aR.out
                         have aID:=jQ.out
                         have aIE:=lM.out
                         have aIF:=lQ.out
                         have aIG:=j5.out
                         have aIH:=lT.out
                         have aII:=lL.out
                         have aIJ:=jR.out
                         have aIK:=lN.out
                         have aIL:=lS.out
                         have aIM:=j6.out
                         have aIN:=lU.out
                         have a5r:Qo.cell? ⟨bu,1,none⟩ = some (U Z 0):=(ah bP.out 1).trans rfl
                         have aY1:=bf bP.out 1
                         have aIO:=aR.out
                         have aIP:=jQ.out
                         have aIQ:=lM.out
                         have aIR:=lQ.out
                         have aIS:=j5.out
                         have aIT:=lT.out
                         have aIU:=lL.out
                         have aIV:=jR.out
                         have aIW:=lN.out
                         have aIX:=lS.out
                         have aIY:=j6.out
                         have aIZ:=lU.out
                         have a5s:Qo.cell? ⟨bu,2,none⟩ = some (U Z 0):=(ah bP.out 2).trans rfl
                         have aY2:=bf bP.out 2
                         have aI0:=aR.out
                         have aI1:=jQ.out
                         have aI2:=lM.out
                         have aI3:=lQ.out
                         have aI4:=j5.out
                         have aI5:=lT.out
                         have aI6:=lL.out
                         have aI7:=jR.out
                         have aI8:=lN.out
                         have aI9:=lS.out
                         have aJa:=j6.out
                         have aJb:=lU.out
                         have a5t:Qo.cell? ⟨bu,3,none⟩ = some (U Z 0):=(ah bP.out 3).trans rfl
                         have aY3:=bf bP.out 3
                         have aJc:=aR.out
                         have aJd:=jQ.out
                         have aJe:=lM.out
                         have aJf:=lQ.out
                         have aJg:=j5.out
                         have aJh:=lT.out
                         have aJi:=lL.out
                         have aJj:=jR.out
                         have aJk:=lN.out
                         have aJl:=lS.out
                         have aJm:=j6.out
                         have aJn:=lU.out
                         refine ve (w1:=?_) (by rfl) rfl ?_ ?_
                         rotate_left
                         ·go_simp
                          rfl
                         refine hK.out _ _ ⟨(bY aR ((bY aR ((bY aR ((bY aR (hHeld.1)))))))),(bY aR ((bY aR ((bY aR ((bY aR (hHeld.2.1)))))))),(bY aR ((bY aR ((bY aR ((bY aR (hHeld.2.2.1)))))))),(bY aR ((bY aR ((bY aR ((bY aR (hHeld.2.2.2.1)))))))),(bY aR ((bY aR ((bY aR ((bY aR (hHeld.2.2.2.2.1)))))))),(bY aR ((bY aR ((bY aR ((bY aR (hHeld.2.2.2.2.2.1)))))))),(bY aR ((bY aR ((bY aR ((bY aR (hHeld.2.2.2.2.2.2.1)))))))),(bY aR ((bY aR ((bY aR ((bY aR (hHeld.2.2.2.2.2.2.2.1)))))))),(bY aR ((bY aR ((bY aR ((bY aR (hHeld.2.2.2.2.2.2.2.2.1)))))))),((cell_far (p:=⟨bu,_,none⟩) Lr _).trans (((cell_far (p:=⟨bu,_,none⟩) Lr _).trans (((cell_far (p:=⟨bu,_,none⟩) Lr _).trans (((cell_far (p:=⟨bu,_,none⟩) Lr _).trans (hHeld.2.2.2.2.2.2.2.2.2.1)))))))),((cell_far (p:=⟨bu,_,none⟩) Ls _).trans (((cell_far (p:=⟨bu,_,none⟩) Ls _).trans (((cell_far (p:=⟨bu,_,none⟩) Ls _).trans (((cell_far (p:=⟨bu,_,none⟩) Ls _).trans (hHeld.2.2.2.2.2.2.2.2.2.2.1)))))))),((cell_far (p:=⟨bu,_,none⟩) Lt _).trans (((cell_far (p:=⟨bu,_,none⟩) Lt _).trans (((cell_far (p:=⟨bu,_,none⟩) Lt _).trans (((cell_far (p:=⟨bu,_,none⟩) Lt _).trans (hHeld.2.2.2.2.2.2.2.2.2.2.2.1)))))))),((cell_far (p:=⟨bu,_,none⟩) Lu _).trans (((cell_far (p:=⟨bu,_,none⟩) Lu _).trans (((cell_far (p:=⟨bu,_,none⟩) Lu _).trans (((cell_far (p:=⟨bu,_,none⟩) Lu _).trans (hHeld.2.2.2.2.2.2.2.2.2.2.2.2.1)))))))),((cell_far (p:=⟨bu,_,none⟩) Lv _).trans (((cell_far (p:=⟨bu,_,none⟩) Lv _).trans (((cell_far (p:=⟨bu,_,none⟩) Lv _).trans (((cell_far (p:=⟨bu,_,none⟩) Lv _).trans (hHeld.2.2.2.2.2.2.2.2.2.2.2.2.2.1)))))))),((cell_far (p:=⟨bu,_,none⟩) Lx _).trans (((cell_far (p:=⟨bu,_,none⟩) Lx _).trans (((cell_far (p:=⟨bu,_,none⟩) Lx _).trans (((cell_far (p:=⟨bu,_,none⟩) Lx _).trans (hHeld.2.2.2.2.2.2.2.2.2.2.2.2.2.2))))))))⟩ (fun hHeld=>?_)
                         clear hK K
                         refine jS (ja bz.out aM) ?_
                         try go_wp2
                         have vD:aa (((((Qo.setCell ⟨bu,0,none⟩ (U Z ((ay ak (aZ)).f0.f0))).setCell ⟨bu,1,none⟩ (U Z ((ay ak (aZ)).f0.f1))).setCell ⟨bu,2,none⟩ (U Z ((ay ak (aZ)).f1.f0))).setCell ⟨bu,3,none⟩ (U Z ((ay ak (aZ)).f1.f1))).heap[jD]? = some (.cells #[U Z ai,U Z aj,U Z aC,U Z aD,U Z aJ,U Z aH,U Z aK,.slice dW aT.length dN,.slice (some nC) ak.length dO] 25 (0,0))):=⟨gB⟩
                         have vE:aa (((((Qo.setCell ⟨bu,0,none⟩ (U Z ((ay ak (aZ)).f0.f0))).setCell ⟨bu,1,none⟩ (U Z ((ay ak (aZ)).f0.f1))).setCell ⟨bu,2,none⟩ (U Z ((ay ak (aZ)).f1.f0))).setCell ⟨bu,3,none⟩ (U Z ((ay ak (aZ)).f1.f1))).heap[gz]? = some (.cells #[U Z aI,U Z aG,U Z bn,U Z bq,U Z bH,U Z bI,U Z bG] 29 (0,0))):=⟨gB⟩
                         have vF:aa (((((Qo.setCell ⟨bu,0,none⟩ (U Z ((ay ak (aZ)).f0.f0))).setCell ⟨bu,1,none⟩ (U Z ((ay ak (aZ)).f0.f1))).setCell ⟨bu,2,none⟩ (U Z ((ay ak (aZ)).f1.f0))).setCell ⟨bu,3,none⟩ (U Z ((ay ak (aZ)).f1.f1))).heap[Jz]? = some (.cells #[U Z bZ,U Z cz,U Z dw,U Z dx] 31 (0,0))):=⟨gB⟩
                         have vG:aa (((((Qo.setCell ⟨bu,0,none⟩ (U Z ((ay ak (aZ)).f0.f0))).setCell ⟨bu,1,none⟩ (U Z ((ay ak (aZ)).f0.f1))).setCell ⟨bu,2,none⟩ (U Z ((ay ak (aZ)).f1.f0))).setCell ⟨bu,3,none⟩ (U Z ((ay ak (aZ)).f1.f1))).heap[UM]? = some (.cells #[U Z gD,U Z gF] 27 (0,0))):=⟨gB⟩
                         have vY:aa (((((Qo.setCell ⟨bu,0,none⟩ (U Z ((ay ak (aZ)).f0.f0))).setCell ⟨bu,1,none⟩ (U Z ((ay ak (aZ)).f0.f1))).setCell ⟨bu,2,none⟩ (U Z ((ay ak (aZ)).f1.f0))).setCell ⟨bu,3,none⟩ (U Z ((ay ak (aZ)).f1.f1))).heap[UN]? = some (.cells #[U Z fO,U Z fP,U Z fQ,U Z fT,U Z fH,U Z fI] 81 (0,0))):=⟨gB⟩
                         have BP:aa (((((Qo.setCell ⟨bu,0,none⟩ (U Z ((ay ak (aZ)).f0.f0))).setCell ⟨bu,1,none⟩ (U Z ((ay ak (aZ)).f0.f1))).setCell ⟨bu,2,none⟩ (U Z ((ay ak (aZ)).f1.f0))).setCell ⟨bu,3,none⟩ (U Z ((ay ak (aZ)).f1.f1))).heap[OM]? = some (.cells #[.int .u16 BI,.int .u16 Al] 56 (0,0))):=⟨gB⟩
                         have Jc:aa (((((Qo.setCell ⟨bu,0,none⟩ (U Z ((ay ak (aZ)).f0.f0))).setCell ⟨bu,1,none⟩ (U Z ((ay ak (aZ)).f0.f1))).setCell ⟨bu,2,none⟩ (U Z ((ay ak (aZ)).f1.f0))).setCell ⟨bu,3,none⟩ (U Z ((ay ak (aZ)).f1.f1))).heap[bu]? = some (.cells #[U Z ((ay ak (aZ)).f0.f0),U Z ((ay ak (aZ)).f0.f1),U Z ((ay ak (aZ)).f1.f0),U Z ((ay ak (aZ)).f1.f1)] 40 (0,0))):=⟨by (with_reducible repeat (first|refine av ?_ _|refine ag ?_|refine af ?_ _));refine aN (cs:=#[U Z ((ay ak (aZ)).f0.f0),U Z ((ay ak (aZ)).f0.f1),U Z ((ay ak (aZ)).f1.f0),U Z 0]) ?_ 3 _ rfl;(with_reducible repeat (first|refine av ?_ _|refine ag ?_|refine af ?_ _));refine aN (cs:=#[U Z ((ay ak (aZ)).f0.f0),U Z ((ay ak (aZ)).f0.f1),U Z 0,U Z 0]) ?_ 2 _ rfl;(with_reducible repeat (first|refine av ?_ _|refine ag ?_|refine af ?_ _));refine aN (cs:=#[U Z ((ay ak (aZ)).f0.f0),U Z 0,U Z 0,U Z 0]) ?_ 1 _ rfl;(with_reducible repeat (first|refine av ?_ _|refine ag ?_|refine af ?_ _));refine aN (cs:=#[U Z 0,U Z 0,U Z 0,U Z 0]) ?_ 0 _ rfl;(with_reducible repeat (first|refine av ?_ _|refine ag ?_|refine af ?_ _));exact bP.out⟩
                         have Ld:aa (Below w.heap.size w ((((Qo.setCell ⟨bu,0,none⟩ (U Z ((ay ak (aZ)).f0.f0))).setCell ⟨bu,1,none⟩ (U Z ((ay ak (aZ)).f0.f1))).setCell ⟨bu,2,none⟩ (U Z ((ay ak (aZ)).f1.f0))).setCell ⟨bu,3,none⟩ (U Z ((ay ak (aZ)).f1.f1)))):=⟨gL⟩
                         (try clear dh)
                         (try clear bT)
                         (try clear dD)
                         (try clear dI)
                         (try clear dJ)
                         (try clear dL)
                         (try clear bP)
                         (try clear HB)
                         generalize ((((Qo.setCell ⟨bu,0,none⟩ (U Z ((ay ak (aZ)).f0.f0))).setCell ⟨bu,1,none⟩ (U Z ((ay ak (aZ)).f0.f1))).setCell ⟨bu,2,none⟩ (U Z ((ay ak (aZ)).f1.f0))).setCell ⟨bu,3,none⟩ (U Z ((ay ak (aZ)).f1.f1))) = aY4 at vD vE vF vG vY BP Jc Ld ⊢
                         have dh:=vD
                         have bT:=vE
                         have dD:=vF
                         have dI:=vG
                         have dJ:=vY
                         have dL:=BP
                         have bP:=Jc
                         have HB:=Ld
                         clear vD vE vF vG vY BP Jc Ld
                         replace dh:=aa.mk (ag dh.out)
                         replace bT:=aa.mk (ag bT.out)
                         replace dD:=aa.mk (ag dD.out)
                         replace dI:=aa.mk (ag dI.out)
                         replace dJ:=aa.mk (ag dJ.out)
                         replace dL:=aa.mk (ag dL.out)
                         replace bP:=aa.mk (ag bP.out)
                         replace HB:=aa.mk (bO HB.out)
                         refine iN (n:=20) (S:=fun w'=>w'.cell? ⟨gz,0,none⟩ = some (U Z aI)∧w'.cell? ⟨gz,1,none⟩ = some (U Z aG)∧w'.cell? ⟨gz,2,none⟩ = some (U Z bn)∧w'.cell? ⟨gz,3,none⟩ = some (U Z bq)∧w'.cell? ⟨gz,4,none⟩ = some (U Z bH)∧w'.cell? ⟨gz,5,none⟩ = some (U Z bI)∧w'.cell? ⟨gz,6,none⟩ = some (U Z bG)∧w'.cell? ⟨bu,0,none⟩ = some (U Z ((ay ak (aZ)).f0.f0))∧w'.cell? ⟨bu,1,none⟩ = some (U Z ((ay ak (aZ)).f0.f1))∧w'.cell? ⟨bu,2,none⟩ = some (U Z ((ay ak (aZ)).f1.f0))∧w'.cell? ⟨bu,3,none⟩ = some (U Z ((ay ak (aZ)).f1.f1))) (ds:=[]) #[ac,ac,ac,ac,ac,ac,ac,ac,ac,ac,ac,ac,ac,ac,ac,ac,ac,ac,ac,ac] aM rfl rfl (qp bT.out ⟨bE bP 0,bE bP 1,bE bP 2,bE bP 3⟩) (fun hHeld=>?_);refine fU ae.ais ae.ZU (fun bz jb=>?_)
                         generalize aY4.drew = a8D at dh bT dD dI dJ dL bP HB hHeld ⊢
                         refine bV (i:=0) (N:=some 162) (ax bz.out aM) ?_
                         refine bV (i:=1) (N:=some 163) (ax bz.out aM) ?_
                         refine bV (i:=2) (N:=some 164) (ax bz.out aM) ?_
                         refine bV (i:=5) (N:=some 167) (ax bz.out aM) ?_
                         refine bV (i:=7) (N:=some 169) (ax bz.out aM) ?_
                         refine bV (i:=8) (N:=some 170) (ax bz.out aM) ?_
                         refine bV (i:=9) (N:=some 171) (ax bz.out aM) ?_
                         refine bV (i:=15) (N:=some 177) (ax bz.out aM) ?_
                         refine iL (i:=3) (N:=some 165) (aY bz.out jb.out aM) hHeld ?_
                         refine bV (i:=4) (N:=some 166) (ax bz.out aM) ?_
                         refine iL (i:=6) (N:=some 168) (aY bz.out jb.out aM) hHeld ?_
                         refine iL (i:=16) (N:=some 178) (aY bz.out jb.out aM) hHeld ?_
                         refine iO (i:=10) (N:=some 172) #[ab,ab,ab,ab,ab,ab,ab,ab,ab,ab,ab,ac,ac,ac,ac,ab,ab,ac,ac,ac] rfl rfl (eH bz.out aM) (by decide) (fun K hK=>?_)
                         refine gJ Try.func35 aM rfl #[.slice A8 l8.length c8,U Z (wrap64 (2*bF))] (by rfl) rfl rfl ji ?_
                         with_reducible refine (fq.calls _ _ l8 (wrap64 (2*bF)) IM _ ?cZ ?df avw.out).mono ?_
                         (case cZ=>repeat (first|exact (Kd.bB HR8.out HB.out)|(with_reducible refine Kd.bC ?_ _)|(with_reducible refine Kd.bD ?_ _)|(with_reducible refine Kd.bN ?_)))
                         (case df=>exact HC8.out)
                         rintro e w' ⟨rfl,⟨nd,rfl⟩⟩
                         refine ⟨_,rfl,?_⟩
                         refine hK.out _ _ (qp bT.out ⟨bE bP 0,bE bP 1,bE bP 2,bE bP 3⟩) (fun hHeld=>?_)
                         clear hK K
                         refine dM auT ?_
                         refine iO (i:=11) (N:=some 173) #[ab,ab,ab,ab,ab,ab,ab,ab,ab,ab,ab,ab,ac,ac,ac,ab,ab,ac,ac,ac] rfl rfl (eH bz.out aM) (by decide) (fun K hK=>?_)
                         refine gJ Try.func33 aM rfl #[.agg #[U Z ((ay ak (aZ)).f0.f0),U Z ((ay ak (aZ)).f0.f1)],.int .u16 IM] (by rfl) rfl rfl acN ?_
                         with_reducible refine (dz.calls ((ay ak (aZ)).f0.f0) ((ay ak (aZ)).f0.f1) IM nu _ avx.out).mono ?_
                         rintro e aY5 ⟨rfl,hb⟩
                         refine ⟨_,rfl,?_⟩
                         replace dh:=aX dh hb
                         replace bT:=aX bT hb
                         replace dD:=aX dD hb
                         replace dI:=aX dI hb
                         replace dJ:=aX dJ hb
                         replace dL:=aX dL hb
                         replace bP:=aX bP hb
                         replace HB:=cO HB hb
                         (try clear hb)
                         (try clear hb2)
                         (try clear hk)
                         (try clear hi)
                         refine hK.out _ _ (qp bT.out ⟨bE bP 0,bE bP 1,bE bP 2,bE bP 3⟩) (fun hHeld=>?_)
                         clear hK K
                         refine dM auU ?_
                         refine bV (i:=12) (N:=some 174) (ax bz.out aM) ?_
                         refine bV (i:=13) (N:=some 175) (ax bz.out aM) ?_
                         refine bV (i:=14) (N:=some 176) (ax bz.out aM) ?_
                         refine bV (i:=17) (N:=some 179) (ax bz.out aM) ?_
                         refine bV (i:=18) (N:=some 180) (ax bz.out aM) ?_
                         refine bV (i:=19) (N:=some 20) (ax bz.out aM) ?_
                         refine jS (ja bz.out aM) ?_
                         try go_wp2
                         replace dh:=aa.mk (ag dh.out)
                         replace bT:=aa.mk (ag bT.out)
                         replace dD:=aa.mk (ag dD.out)
                         replace dI:=aa.mk (ag dI.out)
                         replace dJ:=aa.mk (ag dJ.out)
                         replace dL:=aa.mk (ag dL.out)
                         replace bP:=aa.mk (ag bP.out)
                         replace HB:=aa.mk (bO HB.out)
                         refine iN (n:=21) (S:=fun w'=>w'.cell? ⟨gz,0,none⟩ = some (U Z aI)∧w'.cell? ⟨gz,1,none⟩ = some (U Z aG)∧w'.cell? ⟨gz,2,none⟩ = some (U Z bn)∧w'.cell? ⟨gz,3,none⟩ = some (U Z bq)∧w'.cell? ⟨gz,4,none⟩ = some (U Z bH)∧w'.cell? ⟨gz,5,none⟩ = some (U Z bI)∧w'.cell? ⟨gz,6,none⟩ = some (U Z bG)∧w'.cell? ⟨bu,0,none⟩ = some (U Z ((ay ak (aZ)).f0.f0))∧w'.cell? ⟨bu,1,none⟩ = some (U Z ((ay ak (aZ)).f0.f1))∧w'.cell? ⟨bu,2,none⟩ = some (U Z ((ay ak (aZ)).f1.f0))∧w'.cell? ⟨bu,3,none⟩ = some (U Z ((ay ak (aZ)).f1.f1))) (ds:=[]) #[ac,ac,ac,ac,ac,ac,ac,ac,ac,ac,ac,ac,ac,ac,ac,ac,ac,ac,ac,ac,ac] aM rfl rfl (qp bT.out ⟨bE bP 0,bE bP 1,bE bP 2,bE bP 3⟩) (fun hHeld=>?_);refine fU ae.ait ae.ZV (fun bz jb=>?_)
                         generalize aY5.drew = a8E at dh bT dD dI dJ dL bP HB hHeld ⊢
                         refine bV (i:=0) (N:=some 181) (ax bz.out aM) ?_
                         refine bV (i:=1) (N:=some 182) (ax bz.out aM) ?_
                         refine bV (i:=2) (N:=some 183) (ax bz.out aM) ?_
                         refine bV (i:=5) (N:=some 186) (ax bz.out aM) ?_
                         refine bV (i:=7) (N:=some 188) (ax bz.out aM) ?_
                         refine bV (i:=8) (N:=some 189) (ax bz.out aM) ?_
                         refine bV (i:=9) (N:=some 190) (ax bz.out aM) ?_
                         refine bV (i:=10) (N:=some 191) (ax bz.out aM) ?_
                         refine bV (i:=16) (N:=some 197) (ax bz.out aM) ?_
                         refine iL (i:=3) (N:=some 184) (aY bz.out jb.out aM) hHeld ?_
                         refine bV (i:=4) (N:=some 185) (ax bz.out aM) ?_
                         refine iL (i:=6) (N:=some 187) (aY bz.out jb.out aM) hHeld ?_
                         refine iL (i:=17) (N:=some 198) (aY bz.out jb.out aM) hHeld ?_
                         refine iO (i:=11) (N:=some 192) #[ab,ab,ab,ab,ab,ab,ab,ab,ab,ab,ab,ab,ac,ac,ac,ac,ab,ab,ac,ac,ac] rfl rfl (eH bz.out aM) (by decide) (fun K hK=>?_)
                         refine gJ Try.func35 aM rfl #[.slice A8 l8.length c8,U Z (wrap64 ((wrap64 (2*bF))+1))] (by rfl) rfl rfl ji ?_
                         with_reducible refine (fq.calls _ _ l8 (wrap64 ((wrap64 (2*bF))+1)) DF _ ?cZ ?df avy.out).mono ?_
                         (case cZ=>repeat (first|exact (Kd.bB HR8.out HB.out)|(with_reducible refine Kd.bC ?_ _)|(with_reducible refine Kd.bD ?_ _)|(with_reducible refine Kd.bN ?_)))
                         (case df=>exact HC8.out)
                         rintro e w' ⟨rfl,⟨nd,rfl⟩⟩
                         refine ⟨_,rfl,?_⟩
                         refine hK.out _ _ (qp bT.out ⟨bE bP 0,bE bP 1,bE bP 2,bE bP 3⟩) (fun hHeld=>?_)
                         clear hK K
                         refine dM auV ?_
                         refine iO (i:=12) (N:=some 193) #[ab,ab,ab,ab,ab,ab,ab,ab,ab,ab,ab,ab,ab,ac,ac,ac,ab,ab,ac,ac,ac] rfl rfl (eH bz.out aM) (by decide) (fun K hK=>?_)
                         refine gJ Try.func33 aM rfl #[.agg #[U Z ((ay ak (aZ)).f1.f0),U Z ((ay ak (aZ)).f1.f1)],.int .u16 DF] (by rfl) rfl rfl acN ?_
                         with_reducible refine (dz.calls ((ay ak (aZ)).f1.f0) ((ay ak (aZ)).f1.f1) DF mJ _ Vh.out).mono ?_
                         rintro e aY6 ⟨rfl,hb⟩
                         refine ⟨_,rfl,?_⟩
                         replace dh:=aX dh hb
                         replace bT:=aX bT hb
                         replace dD:=aX dD hb
                         replace dI:=aX dI hb
                         replace dJ:=aX dJ hb
                         replace dL:=aX dL hb
                         replace bP:=aX bP hb
                         replace HB:=cO HB hb
                         (try clear hb)
                         (try clear hb2)
                         (try clear hk)
                         (try clear hi)
                         refine hK.out _ _ (qp bT.out ⟨bE bP 0,bE bP 1,bE bP 2,bE bP 3⟩) (fun hHeld=>?_)
                         clear hK K
                         refine dM auW ?_
                         refine bV (i:=13) (N:=some 194) (ax bz.out aM) ?_
                         refine bV (i:=14) (N:=some 195) (ax bz.out aM) ?_
                         refine bV (i:=15) (N:=some 196) (ax bz.out aM) ?_
                         refine bV (i:=18) (N:=some 199) (ax bz.out aM) ?_
                         refine bV (i:=19) (N:=some 200) (ax bz.out aM) ?_
                         refine bV (i:=20) (N:=some 21) (ax bz.out aM) ?_
                         refine jS (ja bz.out aM) ?_
                         try go_wp2
                         replace dh:=aa.mk (ag dh.out)
                         replace bT:=aa.mk (ag bT.out)
                         replace dD:=aa.mk (ag dD.out)
                         replace dI:=aa.mk (ag dI.out)
                         replace dJ:=aa.mk (ag dJ.out)
                         replace dL:=aa.mk (ag dL.out)
                         replace bP:=aa.mk (ag bP.out)
                         replace HB:=aa.mk (bO HB.out)
                         have ME:0≤(bF:Int):=of_decide_eq_true mq
                         have MF:bF < (l5.length:Int):=of_decide_eq_true mq
                         obtain ⟨UQ,aeL,nI,nJ⟩:=kE PX.out bF ME MF
                         have yP:=nJ
                         have yQ:=nI
                         obtain rfl:oQ = UQ:=(by injection aeL)
                         replace nI:=(HB.out.cell (World.block_lt_of_cell? w _ nI)).trans nI
                         replace nJ:=(HB.out.cell (World.block_lt_of_cell? w _ nJ)).trans nJ
                         replace ME:=eq_true ME
                         replace MF:=eq_true MF
                         refine iN (n:=10) (S:=fun w'=>w'.cell? ⟨gz,0,none⟩ = some (U Z aI)∧w'.cell? ⟨gz,1,none⟩ = some (U Z aG)∧w'.cell? ⟨gz,2,none⟩ = some (U Z bn)∧w'.cell? ⟨gz,3,none⟩ = some (U Z bq)∧w'.cell? ⟨gz,4,none⟩ = some (U Z bH)∧w'.cell? ⟨gz,5,none⟩ = some (U Z bI)∧w'.cell? ⟨gz,6,none⟩ = some (U Z bG)∧w'.cell? (oQ.add ((bF).toNat*2)) = some (U Z ((bJ l5 bF).f0))∧w'.cell? ⟨(oQ.add ((bF).toNat*2)).block,(oQ.add ((bF).toNat*2)).off+1,none⟩ = some (U Z ((bJ l5 bF).f1))) (ds:=[]) #[ac,ac,ac,ac,ac,ac,ac,ac,ac,ac] aM rfl rfl (qp bT.out ⟨(jJ HB yQ),(jJ HB yP)⟩) (fun hHeld=>?_);refine fU ae.aiu ae.ZW (fun bz jb=>?_)
                         generalize aY6.drew = a8F at dh bT dD dI dJ dL bP HB nI nJ hHeld ⊢
                         refine bV (i:=0) (N:=some 201) (ax bz.out aM) ?_
                         refine bV (i:=2) (N:=some 203) (ax bz.out aM) ?_
                         refine bV (i:=3) (N:=some 204) (ax bz.out aM) ?_
                         refine bV (i:=4) (N:=some 205) (ax bz.out aM) ?_
                         refine iL (i:=1) (N:=some 202) (aY bz.out jb.out aM) hHeld ?_
                         refine iL (i:=5) (N:=some 206) (aY bz.out jb.out aM) hHeld ?_
                         refine iO (i:=6) (N:=some 207) #[ab,ab,ab,ab,ab,ab,ab,ac,ac,ac] rfl rfl (eH bz.out aM) (by decide) (fun K hK=>?_)
                         refine gJ Try.func39 aM rfl #[.agg #[U Z aI,U Z aG,U Z bn,U Z bq,U Z bH,U Z bI,U Z bG],.agg #[U Z ((bJ l5 bF).f0),U Z ((bJ l5 bF).f1)]] (by rfl) rfl rfl ji ?_
                         with_reducible refine (eF.calls aI aG bn bq bH bI bG ((bJ l5 bF).f0) ((bJ l5 bF).f1) avz JB _ avA.out).mono ?_
                         rintro e a8G ⟨rfl,hb⟩
                         refine ⟨_,rfl,?_⟩
                         replace dh:=aX dh hb
                         replace bT:=aX bT hb
                         replace dD:=aX dD hb
                         replace dI:=aX dI hb
                         replace dJ:=aX dJ hb
                         replace dL:=aX dL hb
                         replace bP:=aX bP hb
                         replace HB:=cO HB hb
                         (try clear hb)
                         (try clear hb2)
                         (try clear hk)
                         (try clear hi)
                         refine hK.out _ _ (qp bT.out ⟨(jJ HB yQ),(jJ HB yP)⟩) (fun hHeld=>?_)
                         clear hK K
                         refine dM auX ?_
                         refine bV (i:=7) (N:=some 208) (ax bz.out aM) ?_
                         refine bV (i:=8) (N:=some 209) (ax bz.out aM) ?_
                         refine bV (i:=9) (N:=some 23) (ax bz.out aM) ?_
                         refine jS (ja bz.out aM) ?_
                         have aY7:=qX.out
                         have aY8:=qW.out
                         have aY9:=su.out
                         have aZa:=sw.out
                         have aZb:=sD.out
                         have aZc:=sF.out
                         have aZd:=sG.out
                         have aZe:=sH.out
                         have aZf:=sI.out
                         have aZg:=sJ.out
                         have aZh:=jQ.out
                         have aZi:=jR.out
                         obtain ⟨aJo,aJp,aJq,aJr,aJs,aJt,aJu,aJv,aJw,aJx,aJy,aJz,aJA,aJB⟩:=jF bT.out
                         have aZj:=uW.out
                         have aZk:=uV.out
                         have aZl:=Ap.out
                         have aZm:=Am.out
                         have aZn:=Gu.out
                         have aZo:=Gt.out
                         have aZp:=Gv.out
                         have aZq:=Gw.out
                         have aZr:=j5.out
                         have aZs:=j6.out
                         obtain ⟨aJC,aJD,aJE,aJF,aJG,aJH,aJI,aJJ,aJK,aJL,aJM,aJN⟩:=wT dJ.out
                         try go_wp2_with (first|(go_at_call 36;(with_reducible refine (isobathlaw03_holds.calls fO fP fQ fT (wrap64 (jd+(wrap64 ((wrap64 (4*(wrap64 ((wrap64 (nP*aI))+(wrap64 (1000*nu))))))*aG)))) (wrap64 (iQ+(wrap64 ((wrap64 (4*(wrap64 ((wrap64 (nQ*aI))+(wrap64 (1000*mJ))))))*aG)))) Fu _ aYZ.out).mono ?_);rintro e a8H ⟨rfl,hb⟩;replace dh:=aX dh hb;replace bT:=aX bT hb;replace dD:=aX dD hb;replace dI:=aX dI hb;replace dJ:=aX dJ hb;replace dL:=aX dL hb;replace bP:=aX bP hb;replace HB:=cO HB hb;(try clear hb);(try clear hb2);(try clear hk);(try clear hi)))
                         go_roundg sM
                         case measure=>have:=HJ9.out;have:=HK2.out;have:=anX.out;omega
                         case rel=>exact ⟨(wrap64 (jd+(wrap64 ((wrap64 (4*(wrap64 ((wrap64 (nP*aI))+(wrap64 (1000*nu))))))*aG)))),(wrap64 (iQ+(wrap64 ((wrap64 (4*(wrap64 ((wrap64 (nQ*aI))+(wrap64 (1000*mJ))))))*aG)))),(Fu),(wrap64 (j3 - JB)),(wrap64 (bF+1)),nM,nM,nM,nM,nM,H',⟨auY⟩,⟨gB⟩,⟨gB⟩,⟨gB⟩,⟨gB⟩,⟨gB⟩,⟨gB⟩,⟨gL⟩⟩
                        ·rw [if_neg c154] at H
                         have aAs:decide ((wrap64 ((wrap64 (a3+(wrap64 (bF*aG))))+aG))≤fI) = false:=decide_eq_false c154
                         clear c154
                         have H':=aa.mk H
                         clear H
                         try go_wp2
                         replace dh:=aa.mk (ag dh.out)
                         replace bT:=aa.mk (ag bT.out)
                         replace dD:=aa.mk (ag dD.out)
                         replace dI:=aa.mk (ag dI.out)
                         replace dJ:=aa.mk (ag dJ.out)
                         replace dL:=aa.mk (ag dL.out)
                         replace HB:=aa.mk (bO HB.out)
                         have Mw:0≤(bF:Int):=of_decide_eq_true mq
                         have Mx:bF < (l5.length:Int):=of_decide_eq_true mq
                         obtain ⟨UO,aeJ,nz,nA⟩:=kE PX.out bF Mw Mx
                         have wI:=nA
                         have wH:=nz
                         obtain rfl:oQ = UO:=(by injection aeJ)
                         replace nz:=(HB.out.cell (World.block_lt_of_cell? w _ nz)).trans nz
                         replace nA:=(HB.out.cell (World.block_lt_of_cell? w _ nA)).trans nA
                         replace Mw:=eq_true Mw
                         replace Mx:=eq_true Mx
                         have MB:0≤((aZ):Int):=of_decide_eq_true mq
                         have MC:(aZ) < (ak.length:Int):=of_decide_eq_true mq
                         obtain ⟨nC,aeK,nD,nE,nG,nH⟩:=zo gN.out (aZ) MB MC
                         have wM:=nH
                         have wL:=nG
                         have wK:=nE
                         have wJ:=nD
                         cases aeK
                         replace nD:=(HB.out.cell (World.block_lt_of_cell? w _ nD)).trans nD
                         replace nE:=(HB.out.cell (World.block_lt_of_cell? w _ nE)).trans nE
                         replace nG:=(HB.out.cell (World.block_lt_of_cell? w _ nG)).trans nG
                         replace nH:=(HB.out.cell (World.block_lt_of_cell? w _ nH)).trans nH
                         replace MB:=eq_true MB
                         replace MC:=eq_true MC
                         refine iN (n:=29) (S:=fun w'=>w'.cell? ⟨jD,0,none⟩ = some (U Z ai)∧w'.cell? ⟨jD,1,none⟩ = some (U Z aj)∧w'.cell? ⟨jD,2,none⟩ = some (U Z aC)∧w'.cell? ⟨jD,3,none⟩ = some (U Z aD)∧w'.cell? ⟨jD,4,none⟩ = some (U Z aJ)∧w'.cell? ⟨jD,5,none⟩ = some (U Z aH)∧w'.cell? ⟨jD,6,none⟩ = some (U Z aK)∧w'.cell? ⟨jD,7,none⟩ = some (.slice dW aT.length dN)∧w'.cell? ⟨jD,8,none⟩ = some (.slice (some nC) ak.length dO)∧w'.cell? (oQ.add ((bF).toNat*2)) = some (U Z ((bJ l5 bF).f0))∧w'.cell? ⟨(oQ.add ((bF).toNat*2)).block,(oQ.add ((bF).toNat*2)).off+1,none⟩ = some (U Z ((bJ l5 bF).f1))∧w'.cell? (nC.add (((aZ)).toNat*4)) = some (U Z ((ay ak (aZ)).f0.f0))∧w'.cell? ⟨(nC.add (((aZ)).toNat*4)).block,(nC.add (((aZ)).toNat*4)).off+1,none⟩ = some (U Z ((ay ak (aZ)).f0.f1))∧w'.cell? ⟨(nC.add (((aZ)).toNat*4)).block,(nC.add (((aZ)).toNat*4)).off+2,none⟩ = some (U Z ((ay ak (aZ)).f1.f0))∧w'.cell? ⟨(nC.add (((aZ)).toNat*4)).block,(nC.add (((aZ)).toNat*4)).off+3,none⟩ = some (U Z ((ay ak (aZ)).f1.f1))) (ds:=[]) #[ac,ac,ac,ac,ac,ac,ac,ac,ac,ac,ac,ac,ac,ac,ac,ac,ac,ac,ac,ac,ac,ac,ac,ac,ac,ac,ac,ac,ac] aM rfl rfl (uw dh.out ⟨(jJ HB wH),(jJ HB wI),(jJ HB wJ),(jJ HB wK),(jJ HB wL),(jJ HB wM)⟩) (fun hHeld=>?_);refine fU ae.air ae.ZT (fun bz jb=>?_)
                         generalize wc.drew = a8I at dh bT dD dI dJ dL HB nz nA nD nE nG nH hHeld ⊢
                         refine bV (i:=0) (N:=some 135) (ax bz.out aM) ?_
                         refine bV (i:=2) (N:=some 137) (ax bz.out aM) ?_
                         refine bV (i:=3) (N:=some 138) (ax bz.out aM) ?_
                         refine bV (i:=6) (N:=some 141) (ax bz.out aM) ?_
                         refine bV (i:=7) (N:=some 142) (ax bz.out aM) ?_
                         refine bV (i:=8) (N:=some 143) (ax bz.out aM) ?_
                         refine bV (i:=9) (N:=some 144) (ax bz.out aM) ?_
                         refine bV (i:=12) (N:=some 147) (ax bz.out aM) ?_
                         refine bV (i:=15) (N:=some 150) (ax bz.out aM) ?_
                         refine bV (i:=18) (N:=some 153) (ax bz.out aM) ?_
                         refine bV (i:=19) (N:=some 154) (ax bz.out aM) ?_
                         refine bV (i:=23) (N:=some 158) (ax bz.out aM) ?_
                         refine iL (i:=1) (N:=some 136) (aY bz.out jb.out aM) hHeld ?_
                         refine iL (i:=4) (N:=some 139) (aY bz.out jb.out aM) hHeld ?_
                         refine bV (i:=5) (N:=some 140) (ax bz.out aM) ?_
                         refine iL (i:=10) (N:=some 145) (aY bz.out jb.out aM) hHeld ?_
                         refine bV (i:=11) (N:=some 146) (ax bz.out aM) ?_
                         refine iL (i:=13) (N:=some 148) (aY bz.out jb.out aM) hHeld ?_
                         refine bV (i:=14) (N:=some 149) (ax bz.out aM) ?_
                         refine iL (i:=16) (N:=some 151) (aY bz.out jb.out aM) hHeld ?_
                         refine bV (i:=17) (N:=some 152) (ax bz.out aM) ?_
                         refine iL (i:=20) (N:=some 155) (aY bz.out jb.out aM) hHeld ?_
                         refine bV (i:=21) (N:=some 156) (ax bz.out aM) ?_
                         refine bV (i:=22) (N:=some 157) (ax bz.out aM) ?_
                         refine bV (i:=24) (N:=some 159) (ax bz.out aM) ?_
                         refine bV (i:=25) (N:=some 160) (ax bz.out aM) ?_
                         refine iL (i:=26) (N:=some 161) (aY bz.out jb.out aM) hHeld ?_
                         refine iO (i:=27) (N:=some 31) #[ab,ab,ab,ab,ab,ab,ab,ab,ab,ab,ab,ab,ab,ab,ab,ab,ab,ab,ab,ab,ab,ab,ab,ab,ab,ab,ab,ab,ac] rfl rfl (eH bz.out aM) (by decide) (fun K hK=>?_)
                         refine nV ?hg (N:=31) ?hd (cs:=#[U Z 0,U Z 0,U Z 0,U Z 0]) (t:=40) ?hr ?_;(case hd=>rfl);(case hg=>rfl);(case hr=>first|(go_simp;done)|(go_simp;rfl))
                         intro bu hg Qp hbox hb
                         have bP:=aa.mk (hbox)
                         have qV:=bS HB hg
                         have api:=bS HB hg
                         have aR:=eQ dh hg
                         have lL:=eT dh hg
                         have jQ:=eQ bT hg
                         have jR:=eT bT hg
                         have lM:=eQ dD hg
                         have lN:=eT dD hg
                         have lQ:=eQ dI hg
                         have lS:=eT dI hg
                         have j5:=eQ dJ hg
                         have j6:=eT dJ hg
                         have lT:=eQ dL hg
                         have lU:=eT dL hg
                         replace dh:=aX dh hb
                         replace bT:=aX bT hb
                         replace dD:=aX dD hb
                         replace dI:=aX dI hb
                         replace dJ:=aX dJ hb
                         replace dL:=aX dL hb
                         replace HB:=cO HB hb
                         clear hb hbox hg
                         refine hK.out _ _ (uw dh.out ⟨(jJ HB wH),(jJ HB wI),(jJ HB wJ),(jJ HB wK),(jJ HB wL),(jJ HB wM)⟩) (fun hHeld=>?_)
                         clear hK K
                         refine dM alI ?_
                         refine iO (i:=28) (N:=none) #[ab,ab,ab,ab,ab,ab,ab,ab,ab,ab,ab,ab,ab,ab,ab,ab,ab,ab,ab,ab,ab,ab,ab,ab,ab,ab,ab,ab,ab] rfl rfl (eH bz.out aM) (by decide) (fun K hK=>?_)
                         have a5u:Qp.cell? ⟨bu,0,none⟩ = some (U Z 0):=(ah bP.out 0).trans rfl
                         have aZt:=bf bP.out 0
                         have aJO:=aR.out
                         have aJP:=jQ.out
                         have aJQ:=lM.out
                         have aJR:=lQ.out
                         have aJS:=j5.out
                         have aJT:=lT.out
                         have aJU:=lL.out
                         have aJV:=jR.out
                         have aJW:=lN.out
                         have aJX:=lS.out
                         have aJY:=j6.out
                         have aJZ:=lU.out
                         have a5v:Qp.cell? ⟨bu,1,none⟩ = some (U Z 0):=(ah bP.out 1).trans rfl
                         have aZu:=bf bP.out 1
                         have aJ0:=aR.out
                         have aJ1:=jQ.out
                         have aJ2:=lM.out
                         have aJ3:=lQ.out
                         have aJ4:=j5.out
                         have aJ5:=lT.out
                         have aJ6:=lL.out
                         have aJ7:=jR.out
                         have aJ8:=lN.out
                         have aJ9:=lS.out
                         have aKa:=j6.out
                         have aKb:=lU.out
                         have a5w:Qp.cell? ⟨bu,2,none⟩ = some (U Z 0):=(ah bP.out 2).trans rfl
                         have aZv:=bf bP.out 2
                         have aKc:=aR.out
                         have aKd:=jQ.out
                         have aKe:=lM.out
                         have aKf:=lQ.out
                         have aKg:=j5.out
                         have aKh:=lT.out
                         have aKi:=lL.out
                         have aKj:=jR.out
                         have aKk:=lN.out
                         have aKl:=lS.out
                         have aKm:=j6.out
                         have aKn:=lU.out
                         have a5x:Qp.cell? ⟨bu,3,none⟩ = some (U Z 0):=(ah bP.out 3).trans rfl
                         have aZw:=bf bP.out 3
                         have aKo:=aR.out
                         have aKp:=jQ.out
                         have aKq:=lM.out
                         have aKr:=lQ.out
                         have aKs:=j5.out
                         have aKt:=lT.out
                         have aKu:=lL.out
                         have aKv:=jR.out
                         have aKw:=lN.out
                         have aKx:=lS.out
                         have aKy:=j6.out
                         have aKz:=lU.out
                         refine ve (w1:=?_) (by rfl) rfl ?_ ?_
                         rotate_left
                         ·go_simp
                          rfl
                         refine hK.out _ _ ⟨(bY aR ((bY aR ((bY aR ((bY aR (hHeld.1)))))))),(bY aR ((bY aR ((bY aR ((bY aR (hHeld.2.1)))))))),(bY aR ((bY aR ((bY aR ((bY aR (hHeld.2.2.1)))))))),(bY aR ((bY aR ((bY aR ((bY aR (hHeld.2.2.2.1)))))))),(bY aR ((bY aR ((bY aR ((bY aR (hHeld.2.2.2.2.1)))))))),(bY aR ((bY aR ((bY aR ((bY aR (hHeld.2.2.2.2.2.1)))))))),(bY aR ((bY aR ((bY aR ((bY aR (hHeld.2.2.2.2.2.2.1)))))))),(bY aR ((bY aR ((bY aR ((bY aR (hHeld.2.2.2.2.2.2.2.1)))))))),(bY aR ((bY aR ((bY aR ((bY aR (hHeld.2.2.2.2.2.2.2.2.1)))))))),((cell_far (p:=⟨bu,_,none⟩) Lr _).trans (((cell_far (p:=⟨bu,_,none⟩) Lr _).trans (((cell_far (p:=⟨bu,_,none⟩) Lr _).trans (((cell_far (p:=⟨bu,_,none⟩) Lr _).trans (hHeld.2.2.2.2.2.2.2.2.2.1)))))))),((cell_far (p:=⟨bu,_,none⟩) Ls _).trans (((cell_far (p:=⟨bu,_,none⟩) Ls _).trans (((cell_far (p:=⟨bu,_,none⟩) Ls _).trans (((cell_far (p:=⟨bu,_,none⟩) Ls _).trans (hHeld.2.2.2.2.2.2.2.2.2.2.1)))))))),((cell_far (p:=⟨bu,_,none⟩) Lt _).trans (((cell_far (p:=⟨bu,_,none⟩) Lt _).trans (((cell_far (p:=⟨bu,_,none⟩) Lt _).trans (((cell_far (p:=⟨bu,_,none⟩) Lt _).trans (hHeld.2.2.2.2.2.2.2.2.2.2.2.1)))))))),((cell_far (p:=⟨bu,_,none⟩) Lu _).trans (((cell_far (p:=⟨bu,_,none⟩) Lu _).trans (((cell_far (p:=⟨bu,_,none⟩) Lu _).trans (((cell_far (p:=⟨bu,_,none⟩) Lu _).trans (hHeld.2.2.2.2.2.2.2.2.2.2.2.2.1)))))))),((cell_far (p:=⟨bu,_,none⟩) Lv _).trans (((cell_far (p:=⟨bu,_,none⟩) Lv _).trans (((cell_far (p:=⟨bu,_,none⟩) Lv _).trans (((cell_far (p:=⟨bu,_,none⟩) Lv _).trans (hHeld.2.2.2.2.2.2.2.2.2.2.2.2.2.1)))))))),((cell_far (p:=⟨bu,_,none⟩) Lx _).trans (((cell_far (p:=⟨bu,_,none⟩) Lx _).trans (((cell_far (p:=⟨bu,_,none⟩) Lx _).trans (((cell_far (p:=⟨bu,_,none⟩) Lx _).trans (hHeld.2.2.2.2.2.2.2.2.2.2.2.2.2.2))))))))⟩ (fun hHeld=>?_)
                         clear hK K
                         refine jS (ja bz.out aM) ?_
                         try go_wp2
                         have vD:aa (((((Qp.setCell ⟨bu,0,none⟩ (U Z ((ay ak (aZ)).f0.f0))).setCell ⟨bu,1,none⟩ (U Z ((ay ak (aZ)).f0.f1))).setCell ⟨bu,2,none⟩ (U Z ((ay ak (aZ)).f1.f0))).setCell ⟨bu,3,none⟩ (U Z ((ay ak (aZ)).f1.f1))).heap[jD]? = some (.cells #[U Z ai,U Z aj,U Z aC,U Z aD,U Z aJ,U Z aH,U Z aK,.slice dW aT.length dN,.slice (some nC) ak.length dO] 25 (0,0))):=⟨gB⟩
                         have vE:aa (((((Qp.setCell ⟨bu,0,none⟩ (U Z ((ay ak (aZ)).f0.f0))).setCell ⟨bu,1,none⟩ (U Z ((ay ak (aZ)).f0.f1))).setCell ⟨bu,2,none⟩ (U Z ((ay ak (aZ)).f1.f0))).setCell ⟨bu,3,none⟩ (U Z ((ay ak (aZ)).f1.f1))).heap[gz]? = some (.cells #[U Z aI,U Z aG,U Z bn,U Z bq,U Z bH,U Z bI,U Z bG] 29 (0,0))):=⟨gB⟩
                         have vF:aa (((((Qp.setCell ⟨bu,0,none⟩ (U Z ((ay ak (aZ)).f0.f0))).setCell ⟨bu,1,none⟩ (U Z ((ay ak (aZ)).f0.f1))).setCell ⟨bu,2,none⟩ (U Z ((ay ak (aZ)).f1.f0))).setCell ⟨bu,3,none⟩ (U Z ((ay ak (aZ)).f1.f1))).heap[Jz]? = some (.cells #[U Z bZ,U Z cz,U Z dw,U Z dx] 31 (0,0))):=⟨gB⟩
                         have vG:aa (((((Qp.setCell ⟨bu,0,none⟩ (U Z ((ay ak (aZ)).f0.f0))).setCell ⟨bu,1,none⟩ (U Z ((ay ak (aZ)).f0.f1))).setCell ⟨bu,2,none⟩ (U Z ((ay ak (aZ)).f1.f0))).setCell ⟨bu,3,none⟩ (U Z ((ay ak (aZ)).f1.f1))).heap[UM]? = some (.cells #[U Z gD,U Z gF] 27 (0,0))):=⟨gB⟩
                         have vY:aa (((((Qp.setCell ⟨bu,0,none⟩ (U Z ((ay ak (aZ)).f0.f0))).setCell ⟨bu,1,none⟩ (U Z ((ay ak (aZ)).f0.f1))).setCell ⟨bu,2,none⟩ (U Z ((ay ak (aZ)).f1.f0))).setCell ⟨bu,3,none⟩ (U Z ((ay ak (aZ)).f1.f1))).heap[UN]? = some (.cells #[U Z fO,U Z fP,U Z fQ,U Z fT,U Z fH,U Z fI] 81 (0,0))):=⟨gB⟩
                         have BP:aa (((((Qp.setCell ⟨bu,0,none⟩ (U Z ((ay ak (aZ)).f0.f0))).setCell ⟨bu,1,none⟩ (U Z ((ay ak (aZ)).f0.f1))).setCell ⟨bu,2,none⟩ (U Z ((ay ak (aZ)).f1.f0))).setCell ⟨bu,3,none⟩ (U Z ((ay ak (aZ)).f1.f1))).heap[OM]? = some (.cells #[.int .u16 BI,.int .u16 Al] 56 (0,0))):=⟨gB⟩
                         have Jc:aa (((((Qp.setCell ⟨bu,0,none⟩ (U Z ((ay ak (aZ)).f0.f0))).setCell ⟨bu,1,none⟩ (U Z ((ay ak (aZ)).f0.f1))).setCell ⟨bu,2,none⟩ (U Z ((ay ak (aZ)).f1.f0))).setCell ⟨bu,3,none⟩ (U Z ((ay ak (aZ)).f1.f1))).heap[bu]? = some (.cells #[U Z ((ay ak (aZ)).f0.f0),U Z ((ay ak (aZ)).f0.f1),U Z ((ay ak (aZ)).f1.f0),U Z ((ay ak (aZ)).f1.f1)] 40 (0,0))):=⟨by (with_reducible repeat (first|refine av ?_ _|refine ag ?_|refine af ?_ _));refine aN (cs:=#[U Z ((ay ak (aZ)).f0.f0),U Z ((ay ak (aZ)).f0.f1),U Z ((ay ak (aZ)).f1.f0),U Z 0]) ?_ 3 _ rfl;(with_reducible repeat (first|refine av ?_ _|refine ag ?_|refine af ?_ _));refine aN (cs:=#[U Z ((ay ak (aZ)).f0.f0),U Z ((ay ak (aZ)).f0.f1),U Z 0,U Z 0]) ?_ 2 _ rfl;(with_reducible repeat (first|refine av ?_ _|refine ag ?_|refine af ?_ _));refine aN (cs:=#[U Z ((ay ak (aZ)).f0.f0),U Z 0,U Z 0,U Z 0]) ?_ 1 _ rfl;(with_reducible repeat (first|refine av ?_ _|refine ag ?_|refine af ?_ _));refine aN (cs:=#[U Z 0,U Z 0,U Z 0,U Z 0]) ?_ 0 _ rfl;(with_reducible repeat (first|refine av ?_ _|refine ag ?_|refine af ?_ _));exact bP.out⟩
                         have Ld:aa (Below w.heap.size w ((((Qp.setCell ⟨bu,0,none⟩ (U Z ((ay ak (aZ)).f0.f0))).setCell ⟨bu,1,none⟩ (U Z ((ay ak (aZ)).f0.f1))).setCell ⟨bu,2,none⟩ (U Z ((ay ak (aZ)).f1.f0))).setCell ⟨bu,3,none⟩ (U Z ((ay ak (aZ)).f1.f1)))):=⟨gL⟩
                         (try clear dh)
                         (try clear bT)
                         (try clear dD)
                         (try clear dI)
                         (try clear dJ)
                         (try clear dL)
                         (try clear bP)
                         (try clear HB)
                         generalize ((((Qp.setCell ⟨bu,0,none⟩ (U Z ((ay ak (aZ)).f0.f0))).setCell ⟨bu,1,none⟩ (U Z ((ay ak (aZ)).f0.f1))).setCell ⟨bu,2,none⟩ (U Z ((ay ak (aZ)).f1.f0))).setCell ⟨bu,3,none⟩ (U Z ((ay ak (aZ)).f1.f1))) = aZx at vD vE vF vG vY BP Jc Ld ⊢
                         have dh:=vD
                         have bT:=vE
                         have dD:=vF
                         have dI:=vG
                         have dJ:=vY
                         have dL:=BP
                         have bP:=Jc
                         have HB:=Ld
                         clear vD vE vF vG vY BP Jc Ld
                         replace dh:=aa.mk (ag dh.out)
                         replace bT:=aa.mk (ag bT.out)
                         replace dD:=aa.mk (ag dD.out)
                         replace dI:=aa.mk (ag dI.out)
                         replace dJ:=aa.mk (ag dJ.out)
                         replace dL:=aa.mk (ag dL.out)
                         replace bP:=aa.mk (ag bP.out)
                         replace HB:=aa.mk (bO HB.out)
                         refine iN (n:=20) (S:=fun w'=>w'.cell? ⟨gz,0,none⟩ = some (U Z aI)∧w'.cell? ⟨gz,1,none⟩ = some (U Z aG)∧w'.cell? ⟨gz,2,none⟩ = some (U Z bn)∧w'.cell? ⟨gz,3,none⟩ = some (U Z bq)∧w'.cell? ⟨gz,4,none⟩ = some (U Z bH)∧w'.cell? ⟨gz,5,none⟩ = some (U Z bI)∧w'.cell? ⟨gz,6,none⟩ = some (U Z bG)∧w'.cell? ⟨bu,0,none⟩ = some (U Z ((ay ak (aZ)).f0.f0))∧w'.cell? ⟨bu,1,none⟩ = some (U Z ((ay ak (aZ)).f0.f1))∧w'.cell? ⟨bu,2,none⟩ = some (U Z ((ay ak (aZ)).f1.f0))∧w'.cell? ⟨bu,3,none⟩ = some (U Z ((ay ak (aZ)).f1.f1))) (ds:=[]) #[ac,ac,ac,ac,ac,ac,ac,ac,ac,ac,ac,ac,ac,ac,ac,ac,ac,ac,ac,ac] aM rfl rfl (qp bT.out ⟨bE bP 0,bE bP 1,bE bP 2,bE bP 3⟩) (fun hHeld=>?_);refine fU ae.ais ae.ZU (fun bz jb=>?_)
                         generalize aZx.drew = a8J at dh bT dD dI dJ dL bP HB hHeld ⊢
                         refine bV (i:=0) (N:=some 162) (ax bz.out aM) ?_
                         refine bV (i:=1) (N:=some 163) (ax bz.out aM) ?_
                         refine bV (i:=2) (N:=some 164) (ax bz.out aM) ?_
                         refine bV (i:=5) (N:=some 167) (ax bz.out aM) ?_
                         refine bV (i:=7) (N:=some 169) (ax bz.out aM) ?_
                         refine bV (i:=8) (N:=some 170) (ax bz.out aM) ?_
                         refine bV (i:=9) (N:=some 171) (ax bz.out aM) ?_
                         refine bV (i:=15) (N:=some 177) (ax bz.out aM) ?_
                         refine iL (i:=3) (N:=some 165) (aY bz.out jb.out aM) hHeld ?_
                         refine bV (i:=4) (N:=some 166) (ax bz.out aM) ?_
                         refine iL (i:=6) (N:=some 168) (aY bz.out jb.out aM) hHeld ?_
                         refine iL (i:=16) (N:=some 178) (aY bz.out jb.out aM) hHeld ?_
                         refine iO (i:=10) (N:=some 172) #[ab,ab,ab,ab,ab,ab,ab,ab,ab,ab,ab,ac,ac,ac,ac,ab,ab,ac,ac,ac] rfl rfl (eH bz.out aM) (by decide) (fun K hK=>?_)
                         refine gJ Try.func35 aM rfl #[.slice A8 l8.length c8,U Z (wrap64 (2*bF))] (by rfl) rfl rfl ji ?_
                         with_reducible refine (fq.calls _ _ l8 (wrap64 (2*bF)) IM _ ?cZ ?df avw.out).mono ?_
                         (case cZ=>repeat (first|exact (Kd.bB HR8.out HB.out)|(with_reducible refine Kd.bC ?_ _)|(with_reducible refine Kd.bD ?_ _)|(with_reducible refine Kd.bN ?_)))
                         (case df=>exact HC8.out)
                         rintro e w' ⟨rfl,⟨nd,rfl⟩⟩
                         refine ⟨_,rfl,?_⟩
                         refine hK.out _ _ (qp bT.out ⟨bE bP 0,bE bP 1,bE bP 2,bE bP 3⟩) (fun hHeld=>?_)
                         clear hK K
                         refine dM auT ?_
                         refine iO (i:=11) (N:=some 173) #[ab,ab,ab,ab,ab,ab,ab,ab,ab,ab,ab,ab,ac,ac,ac,ab,ab,ac,ac,ac] rfl rfl (eH bz.out aM) (by decide) (fun K hK=>?_)
                         refine gJ Try.func33 aM rfl #[.agg #[U Z ((ay ak (aZ)).f0.f0),U Z ((ay ak (aZ)).f0.f1)],.int .u16 IM] (by rfl) rfl rfl acN ?_
                         with_reducible refine (dz.calls ((ay ak (aZ)).f0.f0) ((ay ak (aZ)).f0.f1) IM nu _ avx.out).mono ?_
                         rintro e aZy ⟨rfl,hb⟩
                         refine ⟨_,rfl,?_⟩
                         replace dh:=aX dh hb
                         replace bT:=aX bT hb
                         replace dD:=aX dD hb
                         replace dI:=aX dI hb
                         replace dJ:=aX dJ hb
                         replace dL:=aX dL hb
                         replace bP:=aX bP hb
                         replace HB:=cO HB hb
                         (try clear hb)
                         (try clear hb2)
                         (try clear hk)
                         (try clear hi)
                         refine hK.out _ _ (qp bT.out ⟨bE bP 0,bE bP 1,bE bP 2,bE bP 3⟩) (fun hHeld=>?_)
                         clear hK K
                         refine dM auU ?_
                         refine bV (i:=12) (N:=some 174) (ax bz.out aM) ?_
                         refine bV (i:=13) (N:=some 175) (ax bz.out aM) ?_
                         refine bV (i:=14) (N:=some 176) (ax bz.out aM) ?_
                         refine bV (i:=17) (N:=some 179) (ax bz.out aM) ?_
                         refine bV (i:=18) (N:=some 180) (ax bz.out aM) ?_
                         refine bV (i:=19) (N:=some 20) (ax bz.out aM) ?_
                         refine jS (ja bz.out aM) ?_
                         try go_wp2
                         replace dh:=aa.mk (ag dh.out)
                         replace bT:=aa.mk (ag bT.out)
                         replace dD:=aa.mk (ag dD.out)
                         replace dI:=aa.mk (ag dI.out)
                         replace dJ:=aa.mk (ag dJ.out)
                         replace dL:=aa.mk (ag dL.out)
                         replace bP:=aa.mk (ag bP.out)
                         replace HB:=aa.mk (bO HB.out)
                         refine iN (n:=21) (S:=fun w'=>w'.cell? ⟨gz,0,none⟩ = some (U Z aI)∧w'.cell? ⟨gz,1,none⟩ = some (U Z aG)∧w'.cell? ⟨gz,2,none⟩ = some (U Z bn)∧w'.cell? ⟨gz,3,none⟩ = some (U Z bq)∧w'.cell? ⟨gz,4,none⟩ = some (U Z bH)∧w'.cell? ⟨gz,5,none⟩ = some (U Z bI)∧w'.cell? ⟨gz,6,none⟩ = some (U Z bG)∧w'.cell? ⟨bu,0,none⟩ = some (U Z ((ay ak (aZ)).f0.f0))∧w'.cell? ⟨bu,1,none⟩ = some (U Z ((ay ak (aZ)).f0.f1))∧w'.cell? ⟨bu,2,none⟩ = some (U Z ((ay ak (aZ)).f1.f0))∧w'.cell? ⟨bu,3,none⟩ = some (U Z ((ay ak (aZ)).f1.f1))) (ds:=[]) #[ac,ac,ac,ac,ac,ac,ac,ac,ac,ac,ac,ac,ac,ac,ac,ac,ac,ac,ac,ac,ac] aM rfl rfl (qp bT.out ⟨bE bP 0,bE bP 1,bE bP 2,bE bP 3⟩) (fun hHeld=>?_);refine fU ae.ait ae.ZV (fun bz jb=>?_)
                         generalize aZy.drew = a8K at dh bT dD dI dJ dL bP HB hHeld ⊢
                         refine bV (i:=0) (N:=some 181) (ax bz.out aM) ?_
                         refine bV (i:=1) (N:=some 182) (ax bz.out aM) ?_
                         refine bV (i:=2) (N:=some 183) (ax bz.out aM) ?_
                         refine bV (i:=5) (N:=some 186) (ax bz.out aM) ?_
                         refine bV (i:=7) (N:=some 188) (ax bz.out aM) ?_
                         refine bV (i:=8) (N:=some 189) (ax bz.out aM) ?_
                         refine bV (i:=9) (N:=some 190) (ax bz.out aM) ?_
                         refine bV (i:=10) (N:=some 191) (ax bz.out aM) ?_
                         refine bV (i:=16) (N:=some 197) (ax bz.out aM) ?_
                         refine iL (i:=3) (N:=some 184) (aY bz.out jb.out aM) hHeld ?_
                         refine bV (i:=4) (N:=some 185) (ax bz.out aM) ?_
                         refine iL (i:=6) (N:=some 187) (aY bz.out jb.out aM) hHeld ?_
                         refine iL (i:=17) (N:=some 198) (aY bz.out jb.out aM) hHeld ?_
                         refine iO (i:=11) (N:=some 192) #[ab,ab,ab,ab,ab,ab,ab,ab,ab,ab,ab,ab,ac,ac,ac,ac,ab,ab,ac,ac,ac] rfl rfl (eH bz.out aM) (by decide) (fun K hK=>?_)
                         refine gJ Try.func35 aM rfl #[.slice A8 l8.length c8,U Z (wrap64 ((wrap64 (2*bF))+1))] (by rfl) rfl rfl ji ?_
                         with_reducible refine (fq.calls _ _ l8 (wrap64 ((wrap64 (2*bF))+1)) DF _ ?cZ ?df avy.out).mono ?_
                         (case cZ=>repeat (first|exact (Kd.bB HR8.out HB.out)|(with_reducible refine Kd.bC ?_ _)|(with_reducible refine Kd.bD ?_ _)|(with_reducible refine Kd.bN ?_)))
                         (case df=>exact HC8.out)
                         rintro e w' ⟨rfl,⟨nd,rfl⟩⟩
                         refine ⟨_,rfl,?_⟩
                         refine hK.out _ _ (qp bT.out ⟨bE bP 0,bE bP 1,bE bP 2,bE bP 3⟩) (fun hHeld=>?_)
                         clear hK K
                         refine dM auV ?_
                         refine iO (i:=12) (N:=some 193) #[ab,ab,ab,ab,ab,ab,ab,ab,ab,ab,ab,ab,ab,ac,ac,ac,ab,ab,ac,ac,ac] rfl rfl (eH bz.out aM) (by decide) (fun K hK=>?_)
                         refine gJ Try.func33 aM rfl #[.agg #[U Z ((ay ak (aZ)).f1.f0),U Z ((ay ak (aZ)).f1.f1)],.int .u16 DF] (by rfl) rfl rfl acN ?_
                         with_reducible refine (dz.calls ((ay ak (aZ)).f1.f0) ((ay ak (aZ)).f1.f1) DF mJ _ Vh.out).mono ?_
                         rintro e aZz ⟨rfl,hb⟩
                         refine ⟨_,rfl,?_⟩
                         replace dh:=aX dh hb
                         replace bT:=aX bT hb
                         replace dD:=aX dD hb
                         replace dI:=aX dI hb
                         replace dJ:=aX dJ hb
                         replace dL:=aX dL hb
                         replace bP:=aX bP hb
                         replace HB:=cO HB hb
                         (try clear hb)
                         (try clear hb2)
                         (try clear hk)
                         (try clear hi)
                         refine hK.out _ _ (qp bT.out ⟨bE bP 0,bE bP 1,bE bP 2,bE bP 3⟩) (fun hHeld=>?_)
                         clear hK K
                         refine dM auW ?_
                         refine bV (i:=13) (N:=some 194) (ax bz.out aM) ?_
                         refine bV (i:=14) (N:=some 195) (ax bz.out aM) ?_
                         refine bV (i:=15) (N:=some 196) (ax bz.out aM) ?_
                         refine bV (i:=18) (N:=some 199) (ax bz.out aM) ?_
                         refine bV (i:=19) (N:=some 200) (ax bz.out aM) ?_
                         refine bV (i:=20) (N:=some 21) (ax bz.out aM) ?_
                         refine jS (ja bz.out aM) ?_
                         try go_wp2
                         replace dh:=aa.mk (ag dh.out)
                         replace bT:=aa.mk (ag bT.out)
                         replace dD:=aa.mk (ag dD.out)
                         replace dI:=aa.mk (ag dI.out)
                         replace dJ:=aa.mk (ag dJ.out)
                         replace dL:=aa.mk (ag dL.out)
                         replace bP:=aa.mk (ag bP.out)
                         replace HB:=aa.mk (bO HB.out)
                         have ME:0≤(bF:Int):=of_decide_eq_true mq
                         have MF:bF < (l5.length:Int):=of_decide_eq_true mq
                         obtain ⟨UQ,aeL,nI,nJ⟩:=kE PX.out bF ME MF
                         have yP:=nJ
                         have yQ:=nI
                         obtain rfl:oQ = UQ:=(by injection aeL)
                         replace nI:=(HB.out.cell (World.block_lt_of_cell? w _ nI)).trans nI
                         replace nJ:=(HB.out.cell (World.block_lt_of_cell? w _ nJ)).trans nJ
                         replace ME:=eq_true ME
                         replace MF:=eq_true MF
                         refine iN (n:=10) (S:=fun w'=>w'.cell? ⟨gz,0,none⟩ = some (U Z aI)∧w'.cell? ⟨gz,1,none⟩ = some (U Z aG)∧w'.cell? ⟨gz,2,none⟩ = some (U Z bn)∧w'.cell? ⟨gz,3,none⟩ = some (U Z bq)∧w'.cell? ⟨gz,4,none⟩ = some (U Z bH)∧w'.cell? ⟨gz,5,none⟩ = some (U Z bI)∧w'.cell? ⟨gz,6,none⟩ = some (U Z bG)∧w'.cell? (oQ.add ((bF).toNat*2)) = some (U Z ((bJ l5 bF).f0))∧w'.cell? ⟨(oQ.add ((bF).toNat*2)).block,(oQ.add ((bF).toNat*2)).off+1,none⟩ = some (U Z ((bJ l5 bF).f1))) (ds:=[]) #[ac,ac,ac,ac,ac,ac,ac,ac,ac,ac] aM rfl rfl (qp bT.out ⟨(jJ HB yQ),(jJ HB yP)⟩) (fun hHeld=>?_);refine fU ae.aiu ae.ZW (fun bz jb=>?_)
                         generalize aZz.drew = a8L at dh bT dD dI dJ dL bP HB nI nJ hHeld ⊢
                         refine bV (i:=0) (N:=some 201) (ax bz.out aM) ?_
                         refine bV (i:=2) (N:=some 203) (ax bz.out aM) ?_
                         refine bV (i:=3) (N:=some 204) (ax bz.out aM) ?_
                         refine bV (i:=4) (N:=some 205) (ax bz.out aM) ?_
                         refine iL (i:=1) (N:=some 202) (aY bz.out jb.out aM) hHeld ?_
                         refine iL (i:=5) (N:=some 206) (aY bz.out jb.out aM) hHeld ?_
                         refine iO (i:=6) (N:=some 207) #[ab,ab,ab,ab,ab,ab,ab,ac,ac,ac] rfl rfl (eH bz.out aM) (by decide) (fun K hK=>?_)
                         refine gJ Try.func39 aM rfl #[.agg #[U Z aI,U Z aG,U Z bn,U Z bq,U Z bH,U Z bI,U Z bG],.agg #[U Z ((bJ l5 bF).f0),U Z ((bJ l5 bF).f1)]] (by rfl) rfl rfl ji ?_
                         with_reducible refine (eF.calls aI aG bn bq bH bI bG ((bJ l5 bF).f0) ((bJ l5 bF).f1) avz JB _ avA.out).mono ?_
                         rintro e a8M ⟨rfl,hb⟩
                         refine ⟨_,rfl,?_⟩
                         replace dh:=aX dh hb
                         replace bT:=aX bT hb
                         replace dD:=aX dD hb
                         replace dI:=aX dI hb
                         replace dJ:=aX dJ hb
                         replace dL:=aX dL hb
                         replace bP:=aX bP hb
                         replace HB:=cO HB hb
                         (try clear hb)
                         (try clear hb2)
                         (try clear hk)
                         (try clear hi)
                         refine hK.out _ _ (qp bT.out ⟨(jJ HB yQ),(jJ HB yP)⟩) (fun hHeld=>?_)
                         clear hK K
                         refine dM auX ?_
                         refine bV (i:=7) (N:=some 208) (ax bz.out aM) ?_
                         refine bV (i:=8) (N:=some 209) (ax bz.out aM) ?_
                         refine bV (i:=9) (N:=some 23) (ax bz.out aM) ?_
                         refine jS (ja bz.out aM) ?_
                         have aZA:=qX.out
                         have aZB:=qW.out
                         have aZC:=su.out
                         have aZD:=sw.out
                         have aZE:=sD.out
                         have aZF:=sF.out
                         have aZG:=sG.out
                         have aZH:=sH.out
                         have aZI:=sI.out
                         have aZJ:=sJ.out
                         have aZK:=jQ.out
                         have aZL:=jR.out
                         obtain ⟨aKA,aKB,aKC,aKD,aKE,aKF,aKG,aKH,aKI,aKJ,aKK,aKL,aKM,aKN⟩:=jF bT.out
                         have aZM:=uW.out
                         have aZN:=uV.out
                         have aZO:=Ap.out
                         have aZP:=Am.out
                         have aZQ:=Gu.out
                         have aZR:=Gt.out
                         have aZS:=Gv.out
                         have aZT:=Gw.out
                         have aZU:=j5.out
                         have aZV:=j6.out
                         obtain ⟨aKO,aKP,aKQ,aKR,aKS,aKT,aKU,aKV,aKW,aKX,aKY,aKZ⟩:=wT dJ.out
                         try go_wp2
                         go_roundg sM
                         case measure=>have:=HJ9.out;have:=HK2.out;have:=anX.out;omega
                         case rel=>exact ⟨(wrap64 (jd+(wrap64 ((wrap64 (4*(wrap64 ((wrap64 (nP*aI))+(wrap64 (1000*nu))))))*aG)))),(wrap64 (iQ+(wrap64 ((wrap64 (4*(wrap64 ((wrap64 (nQ*aI))+(wrap64 (1000*mJ))))))*aG)))),(false),(wrap64 (j3 - JB)),(wrap64 (bF+1)),nM,nM,nM,nM,nM,H',⟨auY⟩,⟨gB⟩,⟨gB⟩,⟨gB⟩,⟨gB⟩,⟨gB⟩,⟨gB⟩,⟨gL⟩⟩
                       ·rw [if_neg alb] at H
                        have aAr:decide (fH≤(wrap64 ((wrap64 (a3+(wrap64 (bF*aG))))+aG))) = false:=decide_eq_false alb
                        clear alb
                        have H':=aa.mk H
                        clear H
                        try go_wp2
                        replace dh:=aa.mk (ag dh.out)
                        replace bT:=aa.mk (ag bT.out)
                        replace dD:=aa.mk (ag dD.out)
                        replace dI:=aa.mk (ag dI.out)
                        replace dJ:=aa.mk (ag dJ.out)
                        replace dL:=aa.mk (ag dL.out)
                        replace HB:=aa.mk (bO HB.out)
                        have Mw:0≤(bF:Int):=of_decide_eq_true mq
                        have Mx:bF < (l5.length:Int):=of_decide_eq_true mq
                        obtain ⟨UO,aeJ,nz,nA⟩:=kE PX.out bF Mw Mx
                        have wI:=nA
                        have wH:=nz
                        obtain rfl:oQ = UO:=(by injection aeJ)
                        replace nz:=(HB.out.cell (World.block_lt_of_cell? w _ nz)).trans nz
                        replace nA:=(HB.out.cell (World.block_lt_of_cell? w _ nA)).trans nA
                        replace Mw:=eq_true Mw
                        replace Mx:=eq_true Mx
                        have MB:0≤((aZ):Int):=of_decide_eq_true mq
                        have MC:(aZ) < (ak.length:Int):=of_decide_eq_true mq
                        obtain ⟨nC,aeK,nD,nE,nG,nH⟩:=zo gN.out (aZ) MB MC
                        have wM:=nH
                        have wL:=nG
                        have wK:=nE
                        have wJ:=nD
                        cases aeK
                        replace nD:=(HB.out.cell (World.block_lt_of_cell? w _ nD)).trans nD
                        replace nE:=(HB.out.cell (World.block_lt_of_cell? w _ nE)).trans nE
                        replace nG:=(HB.out.cell (World.block_lt_of_cell? w _ nG)).trans nG
                        replace nH:=(HB.out.cell (World.block_lt_of_cell? w _ nH)).trans nH
                        replace MB:=eq_true MB
                        replace MC:=eq_true MC
                        refine iN (n:=29) (S:=fun w'=>w'.cell? ⟨jD,0,none⟩ = some (U Z ai)∧w'.cell? ⟨jD,1,none⟩ = some (U Z aj)∧w'.cell? ⟨jD,2,none⟩ = some (U Z aC)∧w'.cell? ⟨jD,3,none⟩ = some (U Z aD)∧w'.cell? ⟨jD,4,none⟩ = some (U Z aJ)∧w'.cell? ⟨jD,5,none⟩ = some (U Z aH)∧w'.cell? ⟨jD,6,none⟩ = some (U Z aK)∧w'.cell? ⟨jD,7,none⟩ = some (.slice dW aT.length dN)∧w'.cell? ⟨jD,8,none⟩ = some (.slice (some nC) ak.length dO)∧w'.cell? (oQ.add ((bF).toNat*2)) = some (U Z ((bJ l5 bF).f0))∧w'.cell? ⟨(oQ.add ((bF).toNat*2)).block,(oQ.add ((bF).toNat*2)).off+1,none⟩ = some (U Z ((bJ l5 bF).f1))∧w'.cell? (nC.add (((aZ)).toNat*4)) = some (U Z ((ay ak (aZ)).f0.f0))∧w'.cell? ⟨(nC.add (((aZ)).toNat*4)).block,(nC.add (((aZ)).toNat*4)).off+1,none⟩ = some (U Z ((ay ak (aZ)).f0.f1))∧w'.cell? ⟨(nC.add (((aZ)).toNat*4)).block,(nC.add (((aZ)).toNat*4)).off+2,none⟩ = some (U Z ((ay ak (aZ)).f1.f0))∧w'.cell? ⟨(nC.add (((aZ)).toNat*4)).block,(nC.add (((aZ)).toNat*4)).off+3,none⟩ = some (U Z ((ay ak (aZ)).f1.f1))) (ds:=[]) #[ac,ac,ac,ac,ac,ac,ac,ac,ac,ac,ac,ac,ac,ac,ac,ac,ac,ac,ac,ac,ac,ac,ac,ac,ac,ac,ac,ac,ac] aM rfl rfl (uw dh.out ⟨(jJ HB wH),(jJ HB wI),(jJ HB wJ),(jJ HB wK),(jJ HB wL),(jJ HB wM)⟩) (fun hHeld=>?_);refine fU ae.air ae.ZT (fun bz jb=>?_)
                        generalize wc.drew = a8N at dh bT dD dI dJ dL HB nz nA nD nE nG nH hHeld ⊢
                        refine bV (i:=0) (N:=some 135) (ax bz.out aM) ?_
                        refine bV (i:=2) (N:=some 137) (ax bz.out aM) ?_
                        refine bV (i:=3) (N:=some 138) (ax bz.out aM) ?_
                        refine bV (i:=6) (N:=some 141) (ax bz.out aM) ?_
                        refine bV (i:=7) (N:=some 142) (ax bz.out aM) ?_
                        refine bV (i:=8) (N:=some 143) (ax bz.out aM) ?_
                        refine bV (i:=9) (N:=some 144) (ax bz.out aM) ?_
                        refine bV (i:=12) (N:=some 147) (ax bz.out aM) ?_
                        refine bV (i:=15) (N:=some 150) (ax bz.out aM) ?_
                        refine bV (i:=18) (N:=some 153) (ax bz.out aM) ?_
                        refine bV (i:=19) (N:=some 154) (ax bz.out aM) ?_
                        refine bV (i:=23) (N:=some 158) (ax bz.out aM) ?_
                        refine iL (i:=1) (N:=some 136) (aY bz.out jb.out aM) hHeld ?_
                        refine iL (i:=4) (N:=some 139) (aY bz.out jb.out aM) hHeld ?_
                        refine bV (i:=5) (N:=some 140) (ax bz.out aM) ?_
                        refine iL (i:=10) (N:=some 145) (aY bz.out jb.out aM) hHeld ?_
                        refine bV (i:=11) (N:=some 146) (ax bz.out aM) ?_
                        refine iL (i:=13) (N:=some 148) (aY bz.out jb.out aM) hHeld ?_
                        refine bV (i:=14) (N:=some 149) (ax bz.out aM) ?_
                        refine iL (i:=16) (N:=some 151) (aY bz.out jb.out aM) hHeld ?_
                        refine bV (i:=17) (N:=some 152) (ax bz.out aM) ?_
                        refine iL (i:=20) (N:=some 155) (aY bz.out jb.out aM) hHeld ?_
                        refine bV (i:=21) (N:=some 156) (ax bz.out aM) ?_
                        refine bV (i:=22) (N:=some 157) (ax bz.out aM) ?_
                        refine bV (i:=24) (N:=some 159) (ax bz.out aM) ?_
                        refine bV (i:=25) (N:=some 160) (ax bz.out aM) ?_
                        refine iL (i:=26) (N:=some 161) (aY bz.out jb.out aM) hHeld ?_
                        refine iO (i:=27) (N:=some 31) #[ab,ab,ab,ab,ab,ab,ab,ab,ab,ab,ab,ab,ab,ab,ab,ab,ab,ab,ab,ab,ab,ab,ab,ab,ab,ab,ab,ab,ac] rfl rfl (eH bz.out aM) (by decide) (fun K hK=>?_)
                        refine nV ?hg (N:=31) ?hd (cs:=#[U Z 0,U Z 0,U Z 0,U Z 0]) (t:=40) ?hr ?_;(case hd=>rfl);(case hg=>rfl);(case hr=>first|(go_simp;done)|(go_simp;rfl))
                        intro bu hg Qq hbox hb
                        have bP:=aa.mk (hbox)
                        have qV:=bS HB hg
                        have api:=bS HB hg
                        have aR:=eQ dh hg
                        have lL:=eT dh hg
                        have jQ:=eQ bT hg
                        have jR:=eT bT hg
                        have lM:=eQ dD hg
                        have lN:=eT dD hg
                        have lQ:=eQ dI hg
                        have lS:=eT dI hg
                        have j5:=eQ dJ hg
                        have j6:=eT dJ hg
                        have lT:=eQ dL hg
                        have lU:=eT dL hg
                        replace dh:=aX dh hb
                        replace bT:=aX bT hb
                        replace dD:=aX dD hb
                        replace dI:=aX dI hb
                        replace dJ:=aX dJ hb
                        replace dL:=aX dL hb
                        replace HB:=cO HB hb
                        clear hb hbox hg
                        refine hK.out _ _ (uw dh.out ⟨(jJ HB wH),(jJ HB wI),(jJ HB wJ),(jJ HB wK),(jJ HB wL),(jJ HB wM)⟩) (fun hHeld=>?_)
                        clear hK K
                        refine dM alI ?_
                        refine iO (i:=28) (N:=none) #[ab,ab,ab,ab,ab,ab,ab,ab,ab,ab,ab,ab,ab,ab,ab,ab,ab,ab,ab,ab,ab,ab,ab,ab,ab,ab,ab,ab,ab] rfl rfl (eH bz.out aM) (by decide) (fun K hK=>?_)
                        have a5y:Qq.cell? ⟨bu,0,none⟩ = some (U Z 0):=(ah bP.out 0).trans rfl
                        have aZW:=bf bP.out 0
                        have aK0:=aR.out
                        have aK1:=jQ.out
                        have aK2:=lM.out
                        have aK3:=lQ.out
                        have aK4:=j5.out
                        have aK5:=lT.out
                        have aK6:=lL.out
                        have aK7:=jR.out
                        have aK8:=lN.out
                        have aK9:=lS.out
                        have aLa:=j6.out
                        have aLb:=lU.out
                        have a5z:Qq.cell? ⟨bu,1,none⟩ = some (U Z 0):=(ah bP.out 1).trans rfl
                        have aZX:=bf bP.out 1
                        have aLc:=aR.out
                        have aLd:=jQ.out
                        have aLe:=lM.out
                        have aLf:=lQ.out
                        have aLg:=j5.out
                        have aLh:=lT.out
                        have aLi:=lL.out
                        have aLj:=jR.out
                        have aLk:=lN.out
                        have aLl:=lS.out
                        have aLm:=j6.out
                        have aLn:=lU.out
                        have a5A:Qq.cell? ⟨bu,2,none⟩ = some (U Z 0):=(ah bP.out 2).trans rfl
                        have aZY:=bf bP.out 2
                        have aLo:=aR.out
                        have aLp:=jQ.out
                        have aLq:=lM.out
                        have aLr:=lQ.out
                        have aLs:=j5.out
                        have aLt:=lT.out
                        have aLu:=lL.out
                        have aLv:=jR.out
                        have aLw:=lN.out
                        have aLx:=lS.out
                        have aLy:=j6.out
                        have aLz:=lU.out
                        have a5B:Qq.cell? ⟨bu,3,none⟩ = some (U Z 0):=(ah bP.out 3).trans rfl
                        have aZZ:=bf bP.out 3
                        have aLA:=aR.out
                        have aLB:=jQ.out
                        have aLC:=lM.out
                        have aLD:=lQ.out
                        have aLE:=j5.out
                        have aLF:=lT.out
                        have aLG:=lL.out
                        have aLH:=jR.out
                        have aLI:=lN.out
                        have aLJ:=lS.out
                        have aLK:=j6.out
                        have aLL:=lU.out
                        refine ve (w1:=?_) (by rfl) rfl ?_ ?_
                        rotate_left
                        ·go_simp
                         rfl
                        refine hK.out _ _ ⟨(bY aR ((bY aR ((bY aR ((bY aR (hHeld.1)))))))),(bY aR ((bY aR ((bY aR ((bY aR (hHeld.2.1)))))))),(bY aR ((bY aR ((bY aR ((bY aR (hHeld.2.2.1)))))))),(bY aR ((bY aR ((bY aR ((bY aR (hHeld.2.2.2.1)))))))),(bY aR ((bY aR ((bY aR ((bY aR (hHeld.2.2.2.2.1)))))))),(bY aR ((bY aR ((bY aR ((bY aR (hHeld.2.2.2.2.2.1)))))))),(bY aR ((bY aR ((bY aR ((bY aR (hHeld.2.2.2.2.2.2.1)))))))),(bY aR ((bY aR ((bY aR ((bY aR (hHeld.2.2.2.2.2.2.2.1)))))))),(bY aR ((bY aR ((bY aR ((bY aR (hHeld.2.2.2.2.2.2.2.2.1)))))))),((cell_far (p:=⟨bu,_,none⟩) Lr _).trans (((cell_far (p:=⟨bu,_,none⟩) Lr _).trans (((cell_far (p:=⟨bu,_,none⟩) Lr _).trans (((cell_far (p:=⟨bu,_,none⟩) Lr _).trans (hHeld.2.2.2.2.2.2.2.2.2.1)))))))),((cell_far (p:=⟨bu,_,none⟩) Ls _).trans (((cell_far (p:=⟨bu,_,none⟩) Ls _).trans (((cell_far (p:=⟨bu,_,none⟩) Ls _).trans (((cell_far (p:=⟨bu,_,none⟩) Ls _).trans (hHeld.2.2.2.2.2.2.2.2.2.2.1)))))))),((cell_far (p:=⟨bu,_,none⟩) Lt _).trans (((cell_far (p:=⟨bu,_,none⟩) Lt _).trans (((cell_far (p:=⟨bu,_,none⟩) Lt _).trans (((cell_far (p:=⟨bu,_,none⟩) Lt _).trans (hHeld.2.2.2.2.2.2.2.2.2.2.2.1)))))))),((cell_far (p:=⟨bu,_,none⟩) Lu _).trans (((cell_far (p:=⟨bu,_,none⟩) Lu _).trans (((cell_far (p:=⟨bu,_,none⟩) Lu _).trans (((cell_far (p:=⟨bu,_,none⟩) Lu _).trans (hHeld.2.2.2.2.2.2.2.2.2.2.2.2.1)))))))),((cell_far (p:=⟨bu,_,none⟩) Lv _).trans (((cell_far (p:=⟨bu,_,none⟩) Lv _).trans (((cell_far (p:=⟨bu,_,none⟩) Lv _).trans (((cell_far (p:=⟨bu,_,none⟩) Lv _).trans (hHeld.2.2.2.2.2.2.2.2.2.2.2.2.2.1)))))))),((cell_far (p:=⟨bu,_,none⟩) Lx _).trans (((cell_far (p:=⟨bu,_,none⟩) Lx _).trans (((cell_far (p:=⟨bu,_,none⟩) Lx _).trans (((cell_far (p:=⟨bu,_,none⟩) Lx _).trans (hHeld.2.2.2.2.2.2.2.2.2.2.2.2.2.2))))))))⟩ (fun hHeld=>?_)
                        clear hK K
                        refine jS (ja bz.out aM) ?_
                        try go_wp2
                        have vD:aa (((((Qq.setCell ⟨bu,0,none⟩ (U Z ((ay ak (aZ)).f0.f0))).setCell ⟨bu,1,none⟩ (U Z ((ay ak (aZ)).f0.f1))).setCell ⟨bu,2,none⟩ (U Z ((ay ak (aZ)).f1.f0))).setCell ⟨bu,3,none⟩ (U Z ((ay ak (aZ)).f1.f1))).heap[jD]? = some (.cells #[U Z ai,U Z aj,U Z aC,U Z aD,U Z aJ,U Z aH,U Z aK,.slice dW aT.length dN,.slice (some nC) ak.length dO] 25 (0,0))):=⟨gB⟩
                        have vE:aa (((((Qq.setCell ⟨bu,0,none⟩ (U Z ((ay ak (aZ)).f0.f0))).setCell ⟨bu,1,none⟩ (U Z ((ay ak (aZ)).f0.f1))).setCell ⟨bu,2,none⟩ (U Z ((ay ak (aZ)).f1.f0))).setCell ⟨bu,3,none⟩ (U Z ((ay ak (aZ)).f1.f1))).heap[gz]? = some (.cells #[U Z aI,U Z aG,U Z bn,U Z bq,U Z bH,U Z bI,U Z bG] 29 (0,0))):=⟨gB⟩
                        have vF:aa (((((Qq.setCell ⟨bu,0,none⟩ (U Z ((ay ak (aZ)).f0.f0))).setCell ⟨bu,1,none⟩ (U Z ((ay ak (aZ)).f0.f1))).setCell ⟨bu,2,none⟩ (U Z ((ay ak (aZ)).f1.f0))).setCell ⟨bu,3,none⟩ (U Z ((ay ak (aZ)).f1.f1))).heap[Jz]? = some (.cells #[U Z bZ,U Z cz,U Z dw,U Z dx] 31 (0,0))):=⟨gB⟩
                        have vG:aa (((((Qq.setCell ⟨bu,0,none⟩ (U Z ((ay ak (aZ)).f0.f0))).setCell ⟨bu,1,none⟩ (U Z ((ay ak (aZ)).f0.f1))).setCell ⟨bu,2,none⟩ (U Z ((ay ak (aZ)).f1.f0))).setCell ⟨bu,3,none⟩ (U Z ((ay ak (aZ)).f1.f1))).heap[UM]? = some (.cells #[U Z gD,U Z gF] 27 (0,0))):=⟨gB⟩
                        have vY:aa (((((Qq.setCell ⟨bu,0,none⟩ (U Z ((ay ak (aZ)).f0.f0))).setCell ⟨bu,1,none⟩ (U Z ((ay ak (aZ)).f0.f1))).setCell ⟨bu,2,none⟩ (U Z ((ay ak (aZ)).f1.f0))).setCell ⟨bu,3,none⟩ (U Z ((ay ak (aZ)).f1.f1))).heap[UN]? = some (.cells #[U Z fO,U Z fP,U Z fQ,U Z fT,U Z fH,U Z fI] 81 (0,0))):=⟨gB⟩
                        have BP:aa (((((Qq.setCell ⟨bu,0,none⟩ (U Z ((ay ak (aZ)).f0.f0))).setCell ⟨bu,1,none⟩ (U Z ((ay ak (aZ)).f0.f1))).setCell ⟨bu,2,none⟩ (U Z ((ay ak (aZ)).f1.f0))).setCell ⟨bu,3,none⟩ (U Z ((ay ak (aZ)).f1.f1))).heap[OM]? = some (.cells #[.int .u16 BI,.int .u16 Al] 56 (0,0))):=⟨gB⟩
                        have Jc:aa (((((Qq.setCell ⟨bu,0,none⟩ (U Z ((ay ak (aZ)).f0.f0))).setCell ⟨bu,1,none⟩ (U Z ((ay ak (aZ)).f0.f1))).setCell ⟨bu,2,none⟩ (U Z ((ay ak (aZ)).f1.f0))).setCell ⟨bu,3,none⟩ (U Z ((ay ak (aZ)).f1.f1))).heap[bu]? = some (.cells #[U Z ((ay ak (aZ)).f0.f0),U Z ((ay ak (aZ)).f0.f1),U Z ((ay ak (aZ)).f1.f0),U Z ((ay ak (aZ)).f1.f1)] 40 (0,0))):=⟨by (with_reducible repeat (first|refine av ?_ _|refine ag ?_|refine af ?_ _));refine aN (cs:=#[U Z ((ay ak (aZ)).f0.f0),U Z ((ay ak (aZ)).f0.f1),U Z ((ay ak (aZ)).f1.f0),U Z 0]) ?_ 3 _ rfl;(with_reducible repeat (first|refine av ?_ _|refine ag ?_|refine af ?_ _));refine aN (cs:=#[U Z ((ay ak (aZ)).f0.f0),U Z ((ay ak (aZ)).f0.f1),U Z 0,U Z 0]) ?_ 2 _ rfl;(with_reducible repeat (first|refine av ?_ _|refine ag ?_|refine af ?_ _));refine aN (cs:=#[U Z ((ay ak (aZ)).f0.f0),U Z 0,U Z 0,U Z 0]) ?_ 1 _ rfl;(with_reducible repeat (first|refine av ?_ _|refine ag ?_|refine af ?_ _));refine aN (cs:=#[U Z 0,U Z 0,U Z 0,U Z 0]) ?_ 0 _ rfl;(with_reducible repeat (first|refine av ?_ _|refine ag ?_|refine af ?_ _));exact bP.out⟩
                        have Ld:aa (Below w.heap.size w ((((Qq.setCell ⟨bu,0,none⟩ (U Z ((ay ak (aZ)).f0.f0))).setCell ⟨bu,1,none⟩ (U Z ((ay ak (aZ)).f0.f1))).setCell ⟨bu,2,none⟩ (U Z ((ay ak (aZ)).f1.f0))).setCell ⟨bu,3,none⟩ (U Z ((ay ak (aZ)).f1.f1)))):=⟨gL⟩
                        (try clear dh)
                        (try clear bT)
                        (try clear dD)
                        (try clear dI)
                        (try clear dJ)
                        (try clear dL)
                        (try clear bP)
                        (try clear HB)
                        generalize ((((Qq.setCell ⟨bu,0,none⟩ (U Z ((ay ak (aZ)).f0.f0))).setCell ⟨bu,1,none⟩ (U Z ((ay ak (aZ)).f0.f1))).setCell ⟨bu,2,none⟩ (U Z ((ay ak (aZ)).f1.f0))).setCell ⟨bu,3,none⟩ (U Z ((ay ak (aZ)).f1.f1))) = aZ0 at vD vE vF vG vY BP Jc Ld ⊢
                        have dh:=vD
                        have bT:=vE
                        have dD:=vF
                        have dI:=vG
                        have dJ:=vY
                        have dL:=BP
                        have bP:=Jc
                        have HB:=Ld
                        clear vD vE vF vG vY BP Jc Ld
                        replace dh:=aa.mk (ag dh.out)
                        replace bT:=aa.mk (ag bT.out)
                        replace dD:=aa.mk (ag dD.out)
                        replace dI:=aa.mk (ag dI.out)
                        replace dJ:=aa.mk (ag dJ.out)
                        replace dL:=aa.mk (ag dL.out)
                        replace bP:=aa.mk (ag bP.out)
                        replace HB:=aa.mk (bO HB.out)
                        refine iN (n:=20) (S:=fun w'=>w'.cell? ⟨gz,0,none⟩ = some (U Z aI)∧w'.cell? ⟨gz,1,none⟩ = some (U Z aG)∧w'.cell? ⟨gz,2,none⟩ = some (U Z bn)∧w'.cell? ⟨gz,3,none⟩ = some (U Z bq)∧w'.cell? ⟨gz,4,none⟩ = some (U Z bH)∧w'.cell? ⟨gz,5,none⟩ = some (U Z bI)∧w'.cell? ⟨gz,6,none⟩ = some (U Z bG)∧w'.cell? ⟨bu,0,none⟩ = some (U Z ((ay ak (aZ)).f0.f0))∧w'.cell? ⟨bu,1,none⟩ = some (U Z ((ay ak (aZ)).f0.f1))∧w'.cell? ⟨bu,2,none⟩ = some (U Z ((ay ak (aZ)).f1.f0))∧w'.cell? ⟨bu,3,none⟩ = some (U Z ((ay ak (aZ)).f1.f1))) (ds:=[]) #[ac,ac,ac,ac,ac,ac,ac,ac,ac,ac,ac,ac,ac,ac,ac,ac,ac,ac,ac,ac] aM rfl rfl (qp bT.out ⟨bE bP 0,bE bP 1,bE bP 2,bE bP 3⟩) (fun hHeld=>?_);refine fU ae.ais ae.ZU (fun bz jb=>?_)
                        generalize aZ0.drew = a8O at dh bT dD dI dJ dL bP HB hHeld ⊢
                        refine bV (i:=0) (N:=some 162) (ax bz.out aM) ?_
                        refine bV (i:=1) (N:=some 163) (ax bz.out aM) ?_
                        refine bV (i:=2) (N:=some 164) (ax bz.out aM) ?_
                        refine bV (i:=5) (N:=some 167) (ax bz.out aM) ?_
                        refine bV (i:=7) (N:=some 169) (ax bz.out aM) ?_
                        refine bV (i:=8) (N:=some 170) (ax bz.out aM) ?_
                        refine bV (i:=9) (N:=some 171) (ax bz.out aM) ?_
                        refine bV (i:=15) (N:=some 177) (ax bz.out aM) ?_
                        refine iL (i:=3) (N:=some 165) (aY bz.out jb.out aM) hHeld ?_
                        refine bV (i:=4) (N:=some 166) (ax bz.out aM) ?_
                        refine iL (i:=6) (N:=some 168) (aY bz.out jb.out aM) hHeld ?_
                        refine iL (i:=16) (N:=some 178) (aY bz.out jb.out aM) hHeld ?_
                        refine iO (i:=10) (N:=some 172) #[ab,ab,ab,ab,ab,ab,ab,ab,ab,ab,ab,ac,ac,ac,ac,ab,ab,ac,ac,ac] rfl rfl (eH bz.out aM) (by decide) (fun K hK=>?_)
                        refine gJ Try.func35 aM rfl #[.slice A8 l8.length c8,U Z (wrap64 (2*bF))] (by rfl) rfl rfl ji ?_
                        with_reducible refine (fq.calls _ _ l8 (wrap64 (2*bF)) IM _ ?cZ ?df avw.out).mono ?_
                        (case cZ=>repeat (first|exact (Kd.bB HR8.out HB.out)|(with_reducible refine Kd.bC ?_ _)|(with_reducible refine Kd.bD ?_ _)|(with_reducible refine Kd.bN ?_)))
                        (case df=>exact HC8.out)
                        rintro e w' ⟨rfl,⟨nd,rfl⟩⟩
                        refine ⟨_,rfl,?_⟩
                        refine hK.out _ _ (qp bT.out ⟨bE bP 0,bE bP 1,bE bP 2,bE bP 3⟩) (fun hHeld=>?_)
                        clear hK K
                        refine dM auT ?_
                        refine iO (i:=11) (N:=some 173) #[ab,ab,ab,ab,ab,ab,ab,ab,ab,ab,ab,ab,ac,ac,ac,ab,ab,ac,ac,ac] rfl rfl (eH bz.out aM) (by decide) (fun K hK=>?_)
                        refine gJ Try.func33 aM rfl #[.agg #[U Z ((ay ak (aZ)).f0.f0),U Z ((ay ak (aZ)).f0.f1)],.int .u16 IM] (by rfl) rfl rfl acN ?_
                        with_reducible refine (dz.calls ((ay ak (aZ)).f0.f0) ((ay ak (aZ)).f0.f1) IM nu _ avx.out).mono ?_
                        rintro e aZ1 ⟨rfl,hb⟩
                        refine ⟨_,rfl,?_⟩
                        replace dh:=aX dh hb
                        replace bT:=aX bT hb
                        replace dD:=aX dD hb
                        replace dI:=aX dI hb
                        replace dJ:=aX dJ hb
                        replace dL:=aX dL hb
                        replace bP:=aX bP hb
                        replace HB:=cO HB hb
                        (try clear hb)
                        (try clear hb2)
                        (try clear hk)
                        (try clear hi)
                        refine hK.out _ _ (qp bT.out ⟨bE bP 0,bE bP 1,bE bP 2,bE bP 3⟩) (fun hHeld=>?_)
                        clear hK K
                        refine dM auU ?_
                        refine bV (i:=12) (N:=some 174) (ax bz.out aM) ?_
                        refine bV (i:=13) (N:=some 175) (ax bz.out aM) ?_
                        refine bV (i:=14) (N:=some 176) (ax bz.out aM) ?_
                        refine bV (i:=17) (N:=some 179) (ax bz.out aM) ?_
                        refine bV (i:=18) (N:=some 180) (ax bz.out aM) ?_
                        refine bV (i:=19) (N:=some 20) (ax bz.out aM) ?_
                        refine jS (ja bz.out aM) ?_
                        try go_wp2
                        replace dh:=aa.mk (ag dh.out)
                        replace bT:=aa.mk (ag bT.out)
                        replace dD:=aa.mk (ag dD.out)
                        replace dI:=aa.mk (ag dI.out)
                        replace dJ:=aa.mk (ag dJ.out)
                        replace dL:=aa.mk (ag dL.out)
                        replace bP:=aa.mk (ag bP.out)
                        replace HB:=aa.mk (bO HB.out)
                        refine iN (n:=21) (S:=fun w'=>w'.cell? ⟨gz,0,none⟩ = some (U Z aI)∧w'.cell? ⟨gz,1,none⟩ = some (U Z aG)∧w'.cell? ⟨gz,2,none⟩ = some (U Z bn)∧w'.cell? ⟨gz,3,none⟩ = some (U Z bq)∧w'.cell? ⟨gz,4,none⟩ = some (U Z bH)∧w'.cell? ⟨gz,5,none⟩ = some (U Z bI)∧w'.cell? ⟨gz,6,none⟩ = some (U Z bG)∧w'.cell? ⟨bu,0,none⟩ = some (U Z ((ay ak (aZ)).f0.f0))∧w'.cell? ⟨bu,1,none⟩ = some (U Z ((ay ak (aZ)).f0.f1))∧w'.cell? ⟨bu,2,none⟩ = some (U Z ((ay ak (aZ)).f1.f0))∧w'.cell? ⟨bu,3,none⟩ = some (U Z ((ay ak (aZ)).f1.f1))) (ds:=[]) #[ac,ac,ac,ac,ac,ac,ac,ac,ac,ac,ac,ac,ac,ac,ac,ac,ac,ac,ac,ac,ac] aM rfl rfl (qp bT.out ⟨bE bP 0,bE bP 1,bE bP 2,bE bP 3⟩) (fun hHeld=>?_);refine fU ae.ait ae.ZV (fun bz jb=>?_)
                        generalize aZ1.drew = a8P at dh bT dD dI dJ dL bP HB hHeld ⊢
                        refine bV (i:=0) (N:=some 181) (ax bz.out aM) ?_
                        refine bV (i:=1) (N:=some 182) (ax bz.out aM) ?_
                        refine bV (i:=2) (N:=some 183) (ax bz.out aM) ?_
                        refine bV (i:=5) (N:=some 186) (ax bz.out aM) ?_
                        refine bV (i:=7) (N:=some 188) (ax bz.out aM) ?_
                        refine bV (i:=8) (N:=some 189) (ax bz.out aM) ?_
                        refine bV (i:=9) (N:=some 190) (ax bz.out aM) ?_
                        refine bV (i:=10) (N:=some 191) (ax bz.out aM) ?_
                        refine bV (i:=16) (N:=some 197) (ax bz.out aM) ?_
                        refine iL (i:=3) (N:=some 184) (aY bz.out jb.out aM) hHeld ?_
                        refine bV (i:=4) (N:=some 185) (ax bz.out aM) ?_
                        refine iL (i:=6) (N:=some 187) (aY bz.out jb.out aM) hHeld ?_
                        refine iL (i:=17) (N:=some 198) (aY bz.out jb.out aM) hHeld ?_
                        refine iO (i:=11) (N:=some 192) #[ab,ab,ab,ab,ab,ab,ab,ab,ab,ab,ab,ab,ac,ac,ac,ac,ab,ab,ac,ac,ac] rfl rfl (eH bz.out aM) (by decide) (fun K hK=>?_)
                        refine gJ Try.func35 aM rfl #[.slice A8 l8.length c8,U Z (wrap64 ((wrap64 (2*bF))+1))] (by rfl) rfl rfl ji ?_
                        with_reducible refine (fq.calls _ _ l8 (wrap64 ((wrap64 (2*bF))+1)) DF _ ?cZ ?df avy.out).mono ?_
                        (case cZ=>repeat (first|exact (Kd.bB HR8.out HB.out)|(with_reducible refine Kd.bC ?_ _)|(with_reducible refine Kd.bD ?_ _)|(with_reducible refine Kd.bN ?_)))
                        (case df=>exact HC8.out)
                        rintro e w' ⟨rfl,⟨nd,rfl⟩⟩
                        refine ⟨_,rfl,?_⟩
                        refine hK.out _ _ (qp bT.out ⟨bE bP 0,bE bP 1,bE bP 2,bE bP 3⟩) (fun hHeld=>?_)
                        clear hK K
                        refine dM auV ?_
                        refine iO (i:=12) (N:=some 193) #[ab,ab,ab,ab,ab,ab,ab,ab,ab,ab,ab,ab,ab,ac,ac,ac,ab,ab,ac,ac,ac] rfl rfl (eH bz.out aM) (by decide) (fun K hK=>?_)
                        refine gJ Try.func33 aM rfl #[.agg #[U Z ((ay ak (aZ)).f1.f0),U Z ((ay ak (aZ)).f1.f1)],.int .u16 DF] (by rfl) rfl rfl acN ?_
                        with_reducible refine (dz.calls ((ay ak (aZ)).f1.f0) ((ay ak (aZ)).f1.f1) DF mJ _ Vh.out).mono ?_
                        rintro e aZ2 ⟨rfl,hb⟩
                        refine ⟨_,rfl,?_⟩
                        replace dh:=aX dh hb
                        replace bT:=aX bT hb
                        replace dD:=aX dD hb
                        replace dI:=aX dI hb
                        replace dJ:=aX dJ hb
                        replace dL:=aX dL hb
                        replace bP:=aX bP hb
                        replace HB:=cO HB hb
                        (try clear hb)
                        (try clear hb2)
                        (try clear hk)
                        (try clear hi)
                        refine hK.out _ _ (qp bT.out ⟨bE bP 0,bE bP 1,bE bP 2,bE bP 3⟩) (fun hHeld=>?_)
                        clear hK K
                        refine dM auW ?_
                        refine bV (i:=13) (N:=some 194) (ax bz.out aM) ?_
                        refine bV (i:=14) (N:=some 195) (ax bz.out aM) ?_
                        refine bV (i:=15) (N:=some 196) (ax bz.out aM) ?_
                        refine bV (i:=18) (N:=some 199) (ax bz.out aM) ?_
                        refine bV (i:=19) (N:=some 200) (ax bz.out aM) ?_
                        refine bV (i:=20) (N:=some 21) (ax bz.out aM) ?_
                        refine jS (ja bz.out aM) ?_
                        try go_wp2
                        replace dh:=aa.mk (ag dh.out)
                        replace bT:=aa.mk (ag bT.out)
                        replace dD:=aa.mk (ag dD.out)
                        replace dI:=aa.mk (ag dI.out)
                        replace dJ:=aa.mk (ag dJ.out)
                        replace dL:=aa.mk (ag dL.out)
                        replace bP:=aa.mk (ag bP.out)
                        replace HB:=aa.mk (bO HB.out)
                        have ME:0≤(bF:Int):=of_decide_eq_true mq
                        have MF:bF < (l5.length:Int):=of_decide_eq_true mq
                        obtain ⟨UQ,aeL,nI,nJ⟩:=kE PX.out bF ME MF
                        have yP:=nJ
                        have yQ:=nI
                        obtain rfl:oQ = UQ:=(by injection aeL)
                        replace nI:=(HB.out.cell (World.block_lt_of_cell? w _ nI)).trans nI
                        replace nJ:=(HB.out.cell (World.block_lt_of_cell? w _ nJ)).trans nJ
                        replace ME:=eq_true ME
                        replace MF:=eq_true MF
                        refine iN (n:=10) (S:=fun w'=>w'.cell? ⟨gz,0,none⟩ = some (U Z aI)∧w'.cell? ⟨gz,1,none⟩ = some (U Z aG)∧w'.cell? ⟨gz,2,none⟩ = some (U Z bn)∧w'.cell? ⟨gz,3,none⟩ = some (U Z bq)∧w'.cell? ⟨gz,4,none⟩ = some (U Z bH)∧w'.cell? ⟨gz,5,none⟩ = some (U Z bI)∧w'.cell? ⟨gz,6,none⟩ = some (U Z bG)∧w'.cell? (oQ.add ((bF).toNat*2)) = some (U Z ((bJ l5 bF).f0))∧w'.cell? ⟨(oQ.add ((bF).toNat*2)).block,(oQ.add ((bF).toNat*2)).off+1,none⟩ = some (U Z ((bJ l5 bF).f1))) (ds:=[]) #[ac,ac,ac,ac,ac,ac,ac,ac,ac,ac] aM rfl rfl (qp bT.out ⟨(jJ HB yQ),(jJ HB yP)⟩) (fun hHeld=>?_);refine fU ae.aiu ae.ZW (fun bz jb=>?_)
                        generalize aZ2.drew = a8Q at dh bT dD dI dJ dL bP HB nI nJ hHeld ⊢
                        refine bV (i:=0) (N:=some 201) (ax bz.out aM) ?_
                        refine bV (i:=2) (N:=some 203) (ax bz.out aM) ?_
                        refine bV (i:=3) (N:=some 204) (ax bz.out aM) ?_
                        refine bV (i:=4) (N:=some 205) (ax bz.out aM) ?_
                        refine iL (i:=1) (N:=some 202) (aY bz.out jb.out aM) hHeld ?_
                        refine iL (i:=5) (N:=some 206) (aY bz.out jb.out aM) hHeld ?_
                        refine iO (i:=6) (N:=some 207) #[ab,ab,ab,ab,ab,ab,ab,ac,ac,ac] rfl rfl (eH bz.out aM) (by decide) (fun K hK=>?_)
                        refine gJ Try.func39 aM rfl #[.agg #[U Z aI,U Z aG,U Z bn,U Z bq,U Z bH,U Z bI,U Z bG],.agg #[U Z ((bJ l5 bF).f0),U Z ((bJ l5 bF).f1)]] (by rfl) rfl rfl ji ?_
                        with_reducible refine (eF.calls aI aG bn bq bH bI bG ((bJ l5 bF).f0) ((bJ l5 bF).f1) avz JB _ avA.out).mono ?_
                        rintro e a8R ⟨rfl,hb⟩
                        refine ⟨_,rfl,?_⟩
                        replace dh:=aX dh hb
                        replace bT:=aX bT hb
                        replace dD:=aX dD hb
                        replace dI:=aX dI hb
                        replace dJ:=aX dJ hb
                        replace dL:=aX dL hb
                        replace bP:=aX bP hb
                        replace HB:=cO HB hb
                        (try clear hb)
                        (try clear hb2)
                        (try clear hk)
                        (try clear hi)
                        refine hK.out _ _ (qp bT.out ⟨(jJ HB yQ),(jJ HB yP)⟩) (fun hHeld=>?_)
                        clear hK K
                        refine dM auX ?_
                        refine bV (i:=7) (N:=some 208) (ax bz.out aM) ?_
                        refine bV (i:=8) (N:=some 209) (ax bz.out aM) ?_
                        refine bV (i:=9) (N:=some 23) (ax bz.out aM) ?_
                        refine jS (ja bz.out aM) ?_
                        have aZ3:=qX.out
                        have aZ4:=qW.out
                        have aZ5:=su.out
                        have aZ6:=sw.out
                        have aZ7:=sD.out
                        have aZ8:=sF.out
                        have aZ9:=sG.out
                        have a0a:=sH.out
                        have a0b:=sI.out
                        have a0c:=sJ.out
                        have a0d:=jQ.out
                        have a0e:=jR.out
                        obtain ⟨aLM,aLN,aLO,aLP,aLQ,aLR,aLS,aLT,aLU,aLV,aLW,aLX,aLY,aLZ⟩:=jF bT.out
                        have a0f:=uW.out
                        have a0g:=uV.out
                        have a0h:=Ap.out
                        have a0i:=Am.out
                        have a0j:=Gu.out
                        have a0k:=Gt.out
                        have a0l:=Gv.out
                        have a0m:=Gw.out
                        have a0n:=j5.out
                        have a0o:=j6.out
                        obtain ⟨aL0,aL1,aL2,aL3,aL4,aL5,aL6,aL7,aL8,aL9,aMa,aMb⟩:=wT dJ.out
                        try go_wp2
                        go_roundg sM
                        case measure=>have:=HJ9.out;have:=HK2.out;have:=anX.out;omega
                        case rel=>exact ⟨(wrap64 (jd+(wrap64 ((wrap64 (4*(wrap64 ((wrap64 (nP*aI))+(wrap64 (1000*nu))))))*aG)))),(wrap64 (iQ+(wrap64 ((wrap64 (4*(wrap64 ((wrap64 (nQ*aI))+(wrap64 (1000*mJ))))))*aG)))),(false),(wrap64 (j3 - JB)),(wrap64 (bF+1)),nM,nM,nM,nM,nM,H',⟨auY⟩,⟨gB⟩,⟨gB⟩,⟨gB⟩,⟨gB⟩,⟨gB⟩,⟨gB⟩,⟨gL⟩⟩
                     ·rw [if_neg avv] at H
                      exact absurd H (by simp)
                    ·rw [if_neg avu] at H
                     exact absurd H (by simp)
                   ·rw [if_neg avt] at H
                    exact absurd H (by simp)
                  ·rw [if_neg avs] at H
                   exact absurd H (by simp)
           ·rw [if_neg c92] at H
            exact absurd H (by simp)
          ·rw [if_neg c91] at H
           have axI:decide (bF < (l5.length:Int)) = false:=decide_eq_false c91
           clear c91
           by_cases avC:vk = true
           ·subst avC
            have H1:(if j3 ≥ bG then ((bX.f k2).bind fun ak9=>(some ak9)) else (some false)) = some r:=by rw [if_pos rfl] at H;exact H
            clear H
            have H:=H1
            clear H1
            by_cases c236:j3 ≥ bG
            ·rw [if_pos c236] at H
             have aAt:decide (bG≤j3) = true:=decide_eq_true c236
             clear c236
             replace H:=Option.bind_eq_some_iff.mp H
             obtain ⟨ak9,axP,H⟩:=H
             replace H:(some ak9) = some r:=H
             have a0p:=aa.mk axP
             clear axP
             obtain rfl:=Option.some.inj H
             have a0q:=qX.out
             have a0r:=qW.out
             have a0s:=su.out
             have a0t:=sw.out
             have a0u:=sD.out
             have a0v:=sF.out
             have a0w:=sG.out
             have a0x:=sH.out
             have a0y:=sI.out
             have a0z:=sJ.out
             obtain ⟨aMc,aMd,aMe,aMf,aMg,aMh,aMi,aMj,aMk,aMl,aMm,aMn,aMo,aMp⟩:=jF bT.out
             go_wp2_with (first|(go_at_call 19;(with_reducible refine (bX.calls k2 ak9 _ a0p.out).mono ?_);rintro e a8S ⟨rfl,hb⟩;replace dh:=aX dh hb;replace bT:=aX bT hb;replace dD:=aX dD hb;replace dI:=aX dI hb;replace dJ:=aX dJ hb;replace dL:=aX dL hb;replace HB:=cO HB hb;(try clear hb);(try clear hb2);(try clear hk);(try clear hi)))
             go_ret
             exact ⟨lW,gL⟩
            ·rw [if_neg c236] at H
             have aAt:decide (bG≤j3) = false:=decide_eq_false c236
             clear c236
             have hh_:=Option.some.inj H
             rw [hr_.out] at hh_
             cases hh_
           ·replace avC:=Bool.eq_false_iff.mpr avC
            subst avC
            have H1:(some false) = some r:=by rw [if_neg (show ¬ (false = true) by decide)] at H;exact H
            clear H
            have H:=H1
            clear H1
            have hh_:=Option.some.inj H
            rw [hr_.out] at hh_
            cases hh_
      ·rw [if_neg c57] at H
       have aoF:(DK == 0) = false:=beq_eq_false_iff_ne.mpr c57
       have aoG:(DK != 0) = true:=bne_iff_ne.mpr c57
       replace H:=Option.bind_eq_some_iff.mp H
       obtain ⟨Vz,axQ,H⟩:=H
       replace H:(some Vz) = some r:=H
       have a0A:=aa.mk axQ
       clear axQ
       obtain rfl:=Option.some.inj H
       have a0B:=qW.out
       have a0C:=qX.out
       have a0D:=Db.out
       have a0E:=Dc.out
       have a0F:=De.out
       have a0G:=Df.out
       have a0H:=uV.out
       have a0I:=uW.out
       have a0J:=Dh.out
       have a0K:=Di.out
       obtain ⟨aMq,aMr,aMs,aMt,aMu,aMv,aMw,aMx,aMy,aMz,aMA,aMB,aMC,aMD,aME,aMF,aMG,aMH⟩:=jA dh.out
       have a0L:=su.out
       have a0M:=sw.out
       have a0N:=sD.out
       have a0O:=sF.out
       have a0P:=sG.out
       have a0Q:=sH.out
       have a0R:=sI.out
       have a0S:=sJ.out
       obtain ⟨aMI,aMJ,aMK,aML,aMM,aMN,aMO,aMP,aMQ,aMR,aMS,aMT,aMU,aMV⟩:=jF bT.out
       have a0T:=KR.out
       have a0U:=KS.out
       have a0V:=Am.out
       have a0W:=Ap.out
       have a0X:=KT.out
       have a0Y:=KU.out
       obtain ⟨aMW,aMX,aMY,aMZ,aM0,aM1,aM2,aM3⟩:=jc dD.out
       have a0Z:=Gt.out
       have a00:=Gu.out
       have a01:=Wz.out
       have a02:=WA.out
       obtain ⟨aM4,aM5,aM6,aM7⟩:=iZ dI.out
       have a03:=Gv.out
       have a04:=Gw.out
       obtain ⟨aM8,aM9,aNa,aNb,aNc,aNd,aNe,aNf,aNg,aNh,aNi,aNj⟩:=wT dJ.out
       go_wp2_with (first|((with_reducible refine aQ (f:=48) rfl ?_);refine dn (some 52) rfl rfl Try.func48 aM rfl #[.agg #[U Z ai,U Z aj,U Z aC,U Z aD,U Z aJ,U Z aH,U Z aK,.slice dW aT.length dN,.slice dZ ak.length dO],.agg #[U Z aI,U Z aG,U Z bn,U Z bq,U Z bH,U Z bI,U Z bG],.agg #[U Z bZ,U Z cz,U Z dw,U Z dx],U Z a3,.agg #[U Z gD,U Z gF],.slice A5 l5.length c5,.agg #[U Z fO,U Z fP,U Z fQ,U Z fT,U Z fH,U Z fI]] rfl ji ?_;(with_reducible refine (oh.calls ai aj aC aD aJ aH aK _ _ aT _ _ ak aI aG bn bq bH bI bG bZ cz dw dx a3 gD gF _ _ l5 fO fP fQ fT fH fI DK _ ?cZ ?df ?eu ?eB ?BF ?BG A54.out).mono ?_);(case cZ=>repeat (first|exact (Kd.bB ik.out HB.out)|(with_reducible refine Kd.bC ?_ _)|(with_reducible refine Kd.bD ?_ _)|(with_reducible refine Kd.bN ?_)));(case df=>exact iC.out);(case eu=>repeat (first|exact (Kd.bB gN.out HB.out)|(with_reducible refine Kd.bC ?_ _)|(with_reducible refine Kd.bD ?_ _)|(with_reducible refine Kd.bN ?_)));(case eB=>exact iD.out);(case BF=>repeat (first|exact (Kd.bB PX.out HB.out)|(with_reducible refine Kd.bC ?_ _)|(with_reducible refine Kd.bD ?_ _)|(with_reducible refine Kd.bN ?_)));(case BG=>exact HC5.out);rintro e a8T ⟨rfl,hb⟩;refine ⟨_,rfl,?_⟩;replace dh:=aX dh hb;replace bT:=aX bT hb;replace dD:=aX dD hb;replace dI:=aX dI hb;replace dJ:=aX dJ hb;replace dL:=aX dL hb;replace HB:=cO HB hb;(try clear hb);(try clear hb2);(try clear hk);(try clear hi);obtain ⟨aNk,aNl,aNm,aNn,aNo,aNp,aNq,aNr,aNs,aNt,aNu,aNv,aNw,aNx,aNy,aNz,aNA,aNB⟩:=jA dh.out;obtain ⟨aNC,aND,aNE,aNF,aNG,aNH,aNI,aNJ,aNK,aNL,aNM,aNN,aNO,aNP⟩:=jF bT.out;obtain ⟨aNQ,aNR,aNS,aNT,aNU,aNV,aNW,aNX⟩:=jc dD.out;obtain ⟨aNY,aNZ,aN0,aN1⟩:=iZ dI.out;obtain ⟨aN2,aN3,aN4,aN5,aN6,aN7,aN8,aN9,aOa,aOb,aOc,aOd⟩:=wT dJ.out)|((with_reducible refine aQ (f:=49) rfl ?_);refine dn (some 61) rfl rfl Try.func49 aM rfl #[.agg #[U Z ai,U Z aj,U Z aC,U Z aD,U Z aJ,U Z aH,U Z aK,.slice dW aT.length dN,.slice dZ ak.length dO],.agg #[U Z aI,U Z aG,U Z bn,U Z bq,U Z bH,U Z bI,U Z bG],.agg #[U Z bZ,U Z cz,U Z dw,U Z dx],U Z a3,.agg #[U Z gD,U Z gF],.slice A5 l5.length c5,.agg #[U Z fO,U Z fP,U Z fQ,U Z fT,U Z fH,U Z fI]] rfl ji ?_;(with_reducible refine (je.calls kj9 ai aj aC aD aJ aH aK _ _ aT _ _ ak aI aG bn bq bH bI bG bZ cz dw dx a3 gD gF _ _ l5 fO fP fQ fT fH fI OL _ ?cZ ?df ?eu ?eB ?BF ?BG A55.out).mono ?_);(case cZ=>repeat (first|exact (Kd.bB ik.out HB.out)|(with_reducible refine Kd.bC ?_ _)|(with_reducible refine Kd.bD ?_ _)|(with_reducible refine Kd.bN ?_)));(case df=>exact iC.out);(case eu=>repeat (first|exact (Kd.bB gN.out HB.out)|(with_reducible refine Kd.bC ?_ _)|(with_reducible refine Kd.bD ?_ _)|(with_reducible refine Kd.bN ?_)));(case eB=>exact iD.out);(case BF=>repeat (first|exact (Kd.bB PX.out HB.out)|(with_reducible refine Kd.bC ?_ _)|(with_reducible refine Kd.bD ?_ _)|(with_reducible refine Kd.bN ?_)));(case BG=>exact HC5.out);rintro e a8U ⟨rfl,hb⟩;refine ⟨_,rfl,?_⟩;replace dh:=aX dh hb;replace bT:=aX bT hb;replace dD:=aX dD hb;replace dI:=aX dI hb;replace dJ:=aX dJ hb;replace dL:=aX dL hb;replace HB:=cO HB hb;(try clear hb);(try clear hb2);(try clear hk);(try clear hi))|((with_reducible refine aQ (f:=19) rfl ?_);refine dn (some 65) rfl rfl Try.func19 aM rfl #[] rfl ji ?_;(with_reducible refine (bX.calls kj9 Vz _ a0A.out).mono ?_);rintro e a8V ⟨rfl,hb⟩;refine ⟨_,rfl,?_⟩;replace dh:=aX dh hb;replace bT:=aX bT hb;replace dD:=aX dD hb;replace dI:=aX dI hb;replace dJ:=aX dJ hb;replace dL:=aX dL hb;replace HB:=cO HB hb;(try clear hb);(try clear hb2);(try clear hk);(try clear hi)))
       go_ret
       exact ⟨lW,gL⟩
     ·rw [if_neg c56] at H
      have aoD:(DK == OL) = false:=beq_eq_false_iff_ne.mpr c56
      have aoE:(DK != OL) = true:=bne_iff_ne.mpr c56
      have hh_:=Option.some.inj H
      rw [hr_.out] at hh_
      cases hh_
end Go.Proofs.Ytmhaiihjfgfaoaa.Pr
end
