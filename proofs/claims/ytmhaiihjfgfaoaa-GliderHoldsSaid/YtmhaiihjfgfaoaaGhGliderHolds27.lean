import Derived.Test.YtmhaiihjfgfaoaaGhGliderHolds3
import Derived.Test.YtmhaiihjfgfaoaaGhGliderHolds6
import Derived.Test.YtmhaiihjfgfaoaaGhGliderHolds16
import Derived.Test.YtmhaiihjfgfaoaaGhGliderHolds25
import Derived.Test.YtmhaiihjfgfaoaaGhGliderHolds18
import Derived.Test.YtmhaiihjfgfaoaaGhGliderHolds26
section
namespace Go.Proofs.Ytmhaiihjfgfaoaa.Pr
open Go.RowKit Go.Proofs.YtmhaiihjfgfaoaaW.PrintWords Go.Proofs.YtmhaiihjfgfaoaaW.PrintLast Go.Proofs.YtmhaiihjfgfaoaaW.PrintMore
attribute [local go_sem] cz cB dK dL cK
set_option linter.unusedVariables false
set_option linter.unusedSimpArgs false
mutual
def af.j0:Nat→Int→List (vY)→List Int→Bool→Int→Int→Int→Int→Int→Int→Int→List Bool→List (nU)→Int→Int→Int→Int→Int→Int→Int→Int→Int→Int→Int→Int→Int→Option (Bool)
 |0,_,_,_,_,_,_,_,_,_,_,_,_,_,_,_,_,_,_,_,_,_,_,_,_,_,_=>none
 |k+1,x3,x4,x6,x42,iR,jY,ky,lS,nJ,lu,oh,om,lT,mW,jZ,oo,oq,ou,ow,oz,Fx,Fy,Fz,FB,Nw,Ny=>if x42 = true then ((bD.f k).bind fun acs=>(some acs)) else ((qU.f iR jY ky lS nJ lu oh om lT mW jZ oo oq ou ow oz Fx Fy Fz FB x3 x4).bind fun vO=>((jL.f k iR jY ky lS nJ lu oh om lT mW jZ oo oq ou ow oz Fx Fy Fz FB x3 x4).bind fun VD=>(if vO.2.2 = VD.2.2 then (if vO.2.2 = 0 then (if vO.2.1 = (x4.length:Int) then (af.j1 k x3 x4 x6 vO.1 ((vO.1.length:Int) != vO.2.1) iR jY ky lS nJ lu oh om lT mW jZ oo oq ou ow oz Fx Fy Fz FB Nw Ny) else (af.j1 k x3 x4 x6 vO.1 true iR jY ky lS nJ lu oh om lT mW jZ oo oq ou ow oz Fx Fy Fz FB Nw Ny)) else (if (vO.1.length:Int) = 0 then ((bD.f k).bind fun Qm=>(some Qm)) else (some false))) else (some false))))
def af.j1:Nat→Int→List (vY)→List Int→List (gz)→Bool→Int→Int→Int→Int→Int→Int→Int→List Bool→List (nU)→Int→Int→Int→Int→Int→Int→Int→Int→Int→Int→Int→Int→Int→Option (Bool)
 |0,_,_,_,_,_,_,_,_,_,_,_,_,_,_,_,_,_,_,_,_,_,_,_,_,_,_,_=>none
 |k+1,x3,x4,x6,Xy,x84,iR,jY,ky,lS,nJ,lu,oh,om,lT,mW,jZ,oo,oq,ou,ow,oz,Fx,Fy,Fz,FB,Nw,Ny=>if x84 = true then (some false) else ((dI.f Fx Fy Nw).bind fun VE=>((dI.f Fz FB Ny).bind fun TM=>(af.l0 k x3 x4 x6 Xy (wrap64 (VE*4000000)) (wrap64 (TM*4000000)) 0 iR jY ky lS nJ lu oh om lT mW jZ oo oq ou ow oz)))
def af.l0:Nat→Int→List (vY)→List Int→List (gz)→Int→Int→Int→Int→Int→Int→Int→Int→Int→Int→List Bool→List (nU)→Int→Int→Int→Int→Int→Int→Int→Option (Bool)
 |0,_,_,_,_,_,_,_,_,_,_,_,_,_,_,_,_,_,_,_,_,_,_,_=>none
 |k+1,x3,x4,x6,Xy,x21,x22,Hf,iR,jY,ky,lS,nJ,lu,oh,om,lT,mW,jZ,oo,oq,ou,ow,oz=>if Hf < (x4.length:Int) then (if 0≤Hf then ((iB.f ((dx x4 Hf).f0)).bind fun alD=>(af.l1 k x3 x4 x6 Xy x21 x22 Hf alD.1 alD.2 0 iR jY ky lS nJ lu oh om lT mW jZ oo oq ou ow oz)) else (none)) else ((bD.f k).bind fun ajx=>(some ajx))
def af.l1:Nat→Int→List (vY)→List Int→List (gz)→Int→Int→Int→Int→Int→Int→Int→Int→Int→Int→Int→Int→Int→List Bool→List (nU)→Int→Int→Int→Int→Int→Int→Int→Option (Bool)
 |0,_,_,_,_,_,_,_,_,_,_,_,_,_,_,_,_,_,_,_,_,_,_,_,_,_,_=>none
 |k+1,x3,x4,x6,Xy,x21,x22,Hf,x24,x25,x26,iR,jY,ky,lS,nJ,lu,oh,om,lT,mW,jZ,oo,oq,ou,ow,oz=>if x26 < 4 then (if ky = 0 then (none) else (if lS = 0 then (none) else (if (mn (wrap64 (Int.tdiv (wrap64 (Int.tdiv x21 4000000)) ky)) (wrap64 (iR - 1))) < 0 then (af.j4 k x3 x4 x6 Xy x21 x22 Hf x24 x25 x26 (mn (wrap64 (Int.tdiv (wrap64 (Int.tdiv x21 4000000)) ky)) (wrap64 (iR - 1))) (mn (wrap64 (Int.tdiv (wrap64 (Int.tdiv x22 4000000)) ky)) (wrap64 (jY - 1))) (wrap64 (Int.tdiv (wrap64 ((wrap64 (x3+(wrap64 (Hf*jZ))))+(wrap64 (Int.tdiv (wrap64 (x26*jZ)) 4)))) lS)) true iR jY ky lS nJ lu oh om lT mW jZ oo oq ou ow oz) else (if (mn (wrap64 (Int.tdiv (wrap64 (Int.tdiv x22 4000000)) ky)) (wrap64 (jY - 1))) < 0 then (af.j4 k x3 x4 x6 Xy x21 x22 Hf x24 x25 x26 (mn (wrap64 (Int.tdiv (wrap64 (Int.tdiv x21 4000000)) ky)) (wrap64 (iR - 1))) (mn (wrap64 (Int.tdiv (wrap64 (Int.tdiv x22 4000000)) ky)) (wrap64 (jY - 1))) (wrap64 (Int.tdiv (wrap64 ((wrap64 (x3+(wrap64 (Hf*jZ))))+(wrap64 (Int.tdiv (wrap64 (x26*jZ)) 4)))) lS)) true iR jY ky lS nJ lu oh om lT mW jZ oo oq ou ow oz) else (af.j4 k x3 x4 x6 Xy x21 x22 Hf x24 x25 x26 (mn (wrap64 (Int.tdiv (wrap64 (Int.tdiv x21 4000000)) ky)) (wrap64 (iR - 1))) (mn (wrap64 (Int.tdiv (wrap64 (Int.tdiv x22 4000000)) ky)) (wrap64 (jY - 1))) (wrap64 (Int.tdiv (wrap64 ((wrap64 (x3+(wrap64 (Hf*jZ))))+(wrap64 (Int.tdiv (wrap64 (x26*jZ)) 4)))) lS)) (decide ((wrap64 (Int.tdiv (wrap64 ((wrap64 (x3+(wrap64 (Hf*jZ))))+(wrap64 (Int.tdiv (wrap64 (x26*jZ)) 4)))) lS)) ≥ nJ)) iR jY ky lS nJ lu oh om lT mW jZ oo oq ou ow oz))))) else (if 0≤Hf then (if Hf < (Xy.length:Int) then ((isobathlaw03_holds.f ((oU Xy Hf).f0.f0) ((oU Xy Hf).f0.f1) ((oU Xy Hf).f1.f0) ((oU Xy Hf).f1.f1) x21 x22).bind fun ajy=>(if ajy = true then (af.l0 k x3 x4 x6 Xy x21 x22 (wrap64 (Hf+1)) iR jY ky lS nJ lu oh om lT mW jZ oo oq ou ow oz) else (some false))) else (none)) else (none))
def af.j4:Nat→Int→List (vY)→List Int→List (gz)→Int→Int→Int→Int→Int→Int→Int→Int→Int→Bool→Int→Int→Int→Int→Int→Int→Int→List Bool→List (nU)→Int→Int→Int→Int→Int→Int→Int→Option (Bool)
 |0,_,_,_,_,_,_,_,_,_,_,_,_,_,_,_,_,_,_,_,_,_,_,_,_,_,_,_,_,_,_=>none
 |k+1,x3,x4,x6,Xy,x21,x22,Hf,x24,x25,x26,x28,x29,x30,aDr,iR,jY,ky,lS,nJ,lu,oh,om,lT,mW,jZ,oo,oq,ou,ow,oz=>if aDr = true then (some false) else (if 0≤Hf then (if Hf < (x4.length:Int) then (if 0≤(wrap64 ((wrap64 ((wrap64 ((wrap64 ((wrap64 ((wrap64 (x30*lu))+((dx x4 Hf).f1)))*iR))*jY))+(wrap64 (x29*iR))))+x28)) then (if (wrap64 ((wrap64 ((wrap64 ((wrap64 ((wrap64 ((wrap64 (x30*lu))+((dx x4 Hf).f1)))*iR))*jY))+(wrap64 (x29*iR))))+x28)) < (lT.length:Int) then ((fP.f x6 (wrap64 ((wrap64 (8*Hf))+(wrap64 (2*x26))))).bind fun Qn=>((dI.f ((aH lT (wrap64 ((wrap64 ((wrap64 ((wrap64 ((wrap64 ((wrap64 (x30*lu))+((dx x4 Hf).f1)))*iR))*jY))+(wrap64 (x29*iR))))+x28))).f0.f0) ((aH lT (wrap64 ((wrap64 ((wrap64 ((wrap64 ((wrap64 ((wrap64 (x30*lu))+((dx x4 Hf).f1)))*iR))*jY))+(wrap64 (x29*iR))))+x28))).f0.f1) Qn).bind fun Lx=>((fP.f x6 (wrap64 ((wrap64 ((wrap64 (8*Hf))+(wrap64 (2*x26))))+1))).bind fun J3=>((dI.f ((aH lT (wrap64 ((wrap64 ((wrap64 ((wrap64 ((wrap64 ((wrap64 (x30*lu))+((dx x4 Hf).f1)))*iR))*jY))+(wrap64 (x29*iR))))+x28))).f1.f0) ((aH lT (wrap64 ((wrap64 ((wrap64 ((wrap64 ((wrap64 ((wrap64 (x30*lu))+((dx x4 Hf).f1)))*iR))*jY))+(wrap64 (x29*iR))))+x28))).f1.f1) J3).bind fun Hg=>(af.l1 k x3 x4 x6 Xy (wrap64 (x21+(wrap64 ((wrap64 ((wrap64 (x24*mW))+(wrap64 (1000*Lx))))*jZ)))) (wrap64 (x22+(wrap64 ((wrap64 ((wrap64 (x25*mW))+(wrap64 (1000*Hg))))*jZ)))) Hf x24 x25 (wrap64 (x26+1)) iR jY ky lS nJ lu oh om lT mW jZ oo oq ou ow oz))))) else (none)) else (none)) else (none)) else (none))
end
def af.f (k:Nat) (aj:Int) (ak:Int) (ax:Int) (ay:Int) (aJ:Int) (aC:Int) (aG:Int) (aN:List Bool) (av:List (nU)) (aU:Int) (aQ:Int) (aZ:Int) (bf:Int) (bE:Int) (bF:Int) (bG:Int) (bP:Int) (bQ:Int) (bR:Int) (bS:Int) (a3:Int) (l4:List (vY)) (rH:Int) (qV:Int) (l6:List Int):Option (Bool):=(jE.f k aj ak ax ay aJ aC aG aN av aU aQ aZ bf bE bF bG bP bQ bR bS a3).bind fun acw=>(if acw = true then (af.j0 k a3 l4 l6 (decide ((l4.length:Int) > 8)) aj ak ax ay aJ aC aG aN av aU aQ aZ bf bE bF bG bP bQ bR bS rH qV) else (af.j0 k a3 l4 l6 true aj ak ax ay aJ aC aG aN av aU aQ aZ bf bE bF bG bP bQ bR bS rH qV))
def af.T11:Bool × List (List Nat × List Nat):=(true,[([],[]),([0],[0]),([],[]),([2],[2]),([1,3],[1,3]),([4],[4]),([],[]),([6],[6]),([],[]),([8],[8]),([7,9,4],[7,9]),([10],[10]),([5,10,0,1,2,3,4,5],[5]),([11,12,0,1,2,3,4,5,6,7,8,9,10,11,12],[11])])
def af.B11:List Nat:=[0,1,0,4,15,31,0,64,0,256,991,2015,2047,8191]
theorem af.arp:oQ .any (opsOf Try.f6 11) = af.T11:=by kernel_rfl
theorem af.ant:lI af.T11.2 af.B11 = true:=by kernel_rfl
def af.T20:Bool × List (List Nat × List Nat):=(true,[([],[]),([0],[0]),([],[]),([2],[2]),([1,3],[1,3]),([],[]),([5],[5]),([6],[6]),([4,7],[4,7]),([8,0,1,2,3,4,5,6,7,8],[8])])
def af.B20:List Nat:=[0,1,0,4,15,0,32,96,255,511]
theorem af.arq:oQ .any (opsOf Try.f6 20) = af.T20:=by kernel_rfl
theorem af.anu:lI af.T20.2 af.B20 = true:=by kernel_rfl
def af.T21:Bool × List (List Nat × List Nat):=(true,[([],[]),([0],[0]),([],[]),([2],[2]),([1,3],[1,3]),([],[]),([5],[5]),([6],[6]),([4,7],[4,7]),([8,0,1,2,3,4,5,6,7,8],[8])])
def af.B21:List Nat:=[0,1,0,4,15,0,32,96,255,511]
theorem af.ars:oQ .any (opsOf Try.f6 21) = af.T21:=by kernel_rfl
theorem af.anv:lI af.T21.2 af.B21 = true:=by kernel_rfl
def af.T25:Bool × List (List Nat × List Nat):=(true,[([],[]),([0],[0]),([],[]),([],[]),([3],[3]),([2,4],[2,4]),([],[]),([],[]),([6,7],[6,7]),([8],[8]),([9],[9]),([5,10],[5,10]),([],[]),([12],[12]),([11,13],[11,13]),([],[]),([15],[15]),([14,16],[14,16]),([],[]),([],[]),([19],[19]),([18,20],[18,20]),([17,21],[17,21]),([],[]),([22,23],[22,23]),([1,24],[1,24]),([25],[25]),([],[]),([27,26,0,1,2,3,4,5,6,7,8,9,10,11,12,13,14,15,16,17,18,19,20,21,22,23,24,25,26,27],[26,27])])
def af.B25:List Nat:=[0,1,0,0,8,28,0,0,192,448,960,2044,0,4096,16380,0,32768,131068,0,0,524288,1835008,4194300,0,16777212,33554431,67108863,0,268435455]
theorem af.art:oQ .any (opsOf Try.f6 25) = af.T25:=by kernel_rfl
theorem af.anw:lI af.T25.2 af.B25 = true:=by kernel_rfl
def af.T26:Bool × List (List Nat × List Nat):=(true,[([],[]),([],[]),([],[]),([2],[2]),([1,3],[1,3]),([],[]),([5],[5]),([],[]),([],[]),([8],[8]),([],[]),([10],[10]),([9,11],[9,11]),([7,12],[7,12]),([6,13,13],[6,13]),([14],[14]),([4,15],[4,15]),([],[]),([17],[17]),([16,18],[16,18]),([0,19],[0,19]),([20,14,0,1,2,3,4,5,6,7,8,9,10,11,12,13,14,15,16,17,18,19,20],[0,20])])
def af.B26:List Nat:=[0,0,0,4,14,0,32,0,0,256,0,1024,3840,8064,16352,32736,65534,0,131072,524286,1048575,2097151]
theorem af.aru:oQ .any (opsOf Try.f6 26) = af.T26:=by kernel_rfl
theorem af.anx:lI af.T26.2 af.B26 = true:=by kernel_rfl
def af.T27:Bool × List (List Nat × List Nat):=(true,[([],[]),([],[]),([],[]),([2],[2]),([1,3],[1,3]),([],[]),([5],[5]),([],[]),([],[]),([8],[8]),([],[]),([10],[10]),([9,11],[9,11]),([12],[12]),([7,13],[7,13]),([6,14,14],[6,14]),([15],[15]),([4,16],[4,16]),([],[]),([18],[18]),([17,19],[17,19]),([0,20],[0,20]),([21,15,0,1,2,3,4,5,6,7,8,9,10,11,12,13,14,15,16,17,18,19,20,21],[0,21])])
def af.B27:List Nat:=[0,0,0,4,14,0,32,0,0,256,0,1024,3840,7936,16256,32736,65504,131070,0,262144,1048574,2097151,4194303]
theorem af.arv:oQ .any (opsOf Try.f6 27) = af.T27:=by kernel_rfl
theorem af.anz:lI af.T27.2 af.B27 = true:=by kernel_rfl
set_option maxHeartbeats 8000000 in
set_option maxRecDepth 100000 in
theorem af.calls (k:Nat) (aj:Int) (ak:Int) (ax:Int) (ay:Int) (aJ:Int) (aC:Int) (aG:Int) (dH:Option Addr) (dD:Nat) (aN:List Bool) (dG:Option Addr) (dE:Nat) (av:List (nU)) (aU:Int) (aQ:Int) (aZ:Int) (bf:Int) (bE:Int) (bF:Int) (bG:Int) (bP:Int) (bQ:Int) (bR:Int) (bS:Int) (a3:Int) (A4:Option Addr) (c4:Nat) (l4:List (vY)) (rH:Int) (qV:Int) (A6:Option Addr) (c6:Nat) (l6:List Int) (r:Bool) (w:World) (iW:Kd.C Kd.bool w dH aN.length aN) (iX:aN.length≤dD) (iY:Kd.C CY w dG av.length av) (iZ:av.length≤dE) (hr4:Kd.C Yv w A4 l4.length l4) (hc4:l4.length≤c4) (hr6:Kd.C (Kd.int .u16) w A6 l6.length l6) (hc6:l6.length≤c6) (h:af.f k aj ak ax ay aJ aC aG aN av aU aQ aZ bf bE bF bG bP bQ bR bS a3 l4 rH qV l6 = some r) (hr_:ae (r = true)):
 Calls Try.prog 6 #[.agg #[.int .i64 aj,.int .i64 ak,.int .i64 ax,.int .i64 ay,.int .i64 aJ,.int .i64 aC,.int .i64 aG,.slice dH aN.length dD,.slice dG av.length dE],.agg #[.int .i64 aU,.int .i64 aQ,.int .i64 aZ,.int .i64 bf,.int .i64 bE,.int .i64 bF,.int .i64 bG],.agg #[.int .i64 bP,.int .i64 bQ,.int .i64 bR,.int .i64 bS],.int .i64 a3,.slice A4 l4.length c4,.agg #[.int .u16 rH,.int .u16 qV],.slice A6 l6.length c6] w fun e w'=>e = .returned (.bool r)∧Below w.heap.size w w':=by
 have xE:=Try.underlying25
 have BL:=Try.underlying29
 have qP:=Try.underlying31
 have aJs:=Try.underlying56
 have pK:=Try.underlying27
 have aer:=Try.underlying40
 have gq:=ae.mk iW
 have gG:=ae.mk iX
 clear iW iX
 have fF:=ae.mk iY
 have gH:=ae.mk iZ
 clear iY iZ
 have HR4:=ae.mk hr4
 have HC4:=ae.mk hc4
 clear hr4 hc4
 have HR6:=ae.mk hr6
 have HC6:=ae.mk hc6
 clear hr6 hc6
 have HB:=ae.mk (Below.refl w.heap.size w)
 have H:((jE.f k aj ak ax ay aJ aC aG aN av aU aQ aZ bf bE bF bG bP bQ bR bS a3).bind fun acw=>(if acw = true then (af.j0 k a3 l4 l6 (decide ((l4.length:Int) > 8)) aj ak ax ay aJ aC aG aN av aU aQ aZ bf bE bF bG bP bQ bR bS rH qV) else (af.j0 k a3 l4 l6 true aj ak ax ay aJ aC aG aN av aU aQ aZ bf bE bF bG bP bQ bR bS rH qV))) = some r:=h
 clear h
 have HC8:=ae.mk H
 clear H
 go_enter Try.func6,Try.ntmps6
 go_upto_region 1 with (first|((with_reducible refine aA (N:=7) rfl ?_);(try (refine pF (by rfl) ?_;dsimp only));refine az (by rfl) (N:=7) (by rfl) (cs:=#[.int .i64 aj,.int .i64 ak,.int .i64 ax,.int .i64 ay,.int .i64 aJ,.int .i64 aC,.int .i64 aG,.slice dH aN.length dD,.slice dG av.length dE]) (t:=25) gQ ?_;intro lW hg w9 hbox hb;have fA:=ae.mk (hbox);have aHc:=dn HB hg;have aHd:=dn HB hg;replace HB:=dF HB hb;clear hb hbox hg)|((with_reducible refine aA (N:=8) rfl ?_);(try (refine pF (by rfl) ?_;dsimp only));refine az (by rfl) (N:=8) (by rfl) (cs:=#[.int .i64 aU,.int .i64 aQ,.int .i64 aZ,.int .i64 bf,.int .i64 bE,.int .i64 bF,.int .i64 bG]) (t:=29) gQ ?_;intro rA hg w10 hbox hb;have fC:=ae.mk (hbox);have aHe:=dn HB hg;have aHf:=dn HB hg;have xm:=iE fA hg;have xn:=iF fA hg;replace fA:=bC fA hb;replace HB:=dF HB hb;clear hb hbox hg)|((with_reducible refine aA (N:=9) rfl ?_);(try (refine pF (by rfl) ?_;dsimp only));refine az (by rfl) (N:=9) (by rfl) (cs:=#[.int .i64 bP,.int .i64 bQ,.int .i64 bR,.int .i64 bS]) (t:=31) gQ ?_;intro tu hg w11 hbox hb;have gm:=ae.mk (hbox);have aHg:=dn HB hg;have aHh:=dn HB hg;have xq:=iE fA hg;have xu:=iF fA hg;have AZ:=iE fC hg;have Ba:=iF fC hg;replace fA:=bC fA hb;replace fC:=bC fC hb;replace HB:=dF HB hb;clear hb hbox hg)|((with_reducible refine aA (N:=12) rfl ?_);(try (refine pF (by rfl) ?_;dsimp only));refine az (by rfl) (N:=12) (by rfl) (cs:=#[.int .u16 rH,.int .u16 qV]) (t:=56) gQ ?_;intro L9 hg MC hbox hb;have gT:=ae.mk (hbox);have aHi:=dn HB hg;have aHj:=dn HB hg;have xw:=iE fA hg;have xx:=iF fA hg;have Bb:=iE fC hg;have Bc:=iF fC hg;have FC:=iE gm hg;have FD:=iF gm hg;replace fA:=bC fA hb;replace fC:=bC fC hb;replace gm:=bC gm hb;replace HB:=dF HB hb;clear hb hbox hg))
 (try simp only [Act.put,List.setIfInBounds_toArray,List.set_cons_zero,List.set_cons_succ])
 go_cut [42] (fun v42 wc=>∃ (kq:Nat) (aaE:Bool),v42 = .bool aaE∧ae (af.j0 kq a3 l4 l6 aaE aj ak ax ay aJ aC aG aN av aU aQ aZ bf bE bF bG bP bQ bR bS rH qV = some r)∧ae (kq≤k)∧ae (wc.heap[lW]? = some (.cells #[.int .i64 aj,.int .i64 ak,.int .i64 ax,.int .i64 ay,.int .i64 aJ,.int .i64 aC,.int .i64 aG,(.slice dH aN.length dD),(.slice dG av.length dE)] 25 (0,0)))∧ae (wc.heap[rA]? = some (.cells #[.int .i64 aU,.int .i64 aQ,.int .i64 aZ,.int .i64 bf,.int .i64 bE,.int .i64 bF,.int .i64 bG] 29 (0,0)))∧ae (wc.heap[tu]? = some (.cells #[.int .i64 bP,.int .i64 bQ,.int .i64 bR,.int .i64 bS] 31 (0,0)))∧ae (wc.heap[L9]? = some (.cells #[.int .u16 rH,.int .u16 qV] 56 (0,0)))∧ae (Below w.heap.size w wc))
 case first =>
  as_aux_lemma =>
   have H:=HC8.out
   clear HC8
   replace H:=Option.bind_eq_some_iff.mp H
   obtain ⟨acw,U3,H⟩:=H
   replace H:(if acw = true then (af.j0 k a3 l4 l6 (decide ((l4.length:Int) > 8)) aj ak ax ay aJ aC aG aN av aU aQ aZ bf bE bF bG bP bQ bR bS rH qV) else (af.j0 k a3 l4 l6 true aj ak ax ay aJ aC aG aN av aU aQ aZ bf bE bF bG bP bQ bR bS rH qV)) = some r:=H
   have A13:=ae.mk U3
   clear U3
   by_cases c14:acw = true
   ·subst c14
    have H1:(af.j0 k a3 l4 l6 (decide ((l4.length:Int) > 8)) aj ak ax ay aJ aC aG aN av aU aQ aZ bf bE bF bG bP bQ bR bS rH qV) = some r:=by rw [if_pos rfl] at H;exact H
    clear H
    have H:=H1
    clear H1
    have H':=ae.mk H
    clear H
    have aHk:=xm.out
    have aHl:=xn.out
    have QF:=xq.out
    have QG:=xu.out
    have QM:=xw.out
    have QN:=xx.out
    obtain ⟨si,sj,su,sw,yX,yY,yZ,za,zb,sD,sF,sG,sH,ze,zf,zg,zh,zi⟩:=iI fA.out
    have Vh:=AZ.out
    have Vi:=Ba.out
    have arw:=Bb.out
    have arx:=Bc.out
    obtain ⟨qE,qF,tC,tF,tH,tJ,tK,qG,qH,tL,tN,tO,tQ,tT⟩:=ko fC.out
    have YS:=FC.out
    have YT:=FD.out
    obtain ⟨qI,qJ,tV,tX,qK,qL,tY,tZ⟩:=iC gm.out
    go_wp2_with (first|((with_reducible refine aW (f:=18) rfl ?_);refine dM (some 36) rfl rfl Try.func18 aR rfl #[.agg #[.int .i64 aj,.int .i64 ak,.int .i64 ax,.int .i64 ay,.int .i64 aJ,.int .i64 aC,.int .i64 aG,.slice dH aN.length dD,.slice dG av.length dE],.agg #[.int .i64 aU,.int .i64 aQ,.int .i64 aZ,.int .i64 bf,.int .i64 bE,.int .i64 bF,.int .i64 bG],.agg #[.int .i64 bP,.int .i64 bQ,.int .i64 bR,.int .i64 bS],.int .i64 a3] rfl jJ ?_;(with_reducible refine (jE.calls k aj ak ax ay aJ aC aG _ _ aN _ _ av aU aQ aZ bf bE bF bG bP bQ bR bS a3 true _ ?dz ?dA ?dR ?dS A13.out).mono ?_);(case dz=>repeat (first|exact (Kd.bn gq.out HB.out)|(with_reducible refine Kd.bA ?_ _)|(with_reducible refine Kd.bB ?_ _)|(with_reducible refine Kd.bK ?_)));(case dA=>exact gG.out);(case dR=>repeat (first|exact (Kd.bn fF.out HB.out)|(with_reducible refine Kd.bA ?_ _)|(with_reducible refine Kd.bB ?_ _)|(with_reducible refine Kd.bK ?_)));(case dS=>exact gH.out);rintro e w24 ⟨rfl,hb⟩;refine ⟨_,rfl,?_⟩;replace fA:=bC fA hb;replace fC:=bC fC hb;replace gm:=bC gm hb;replace gT:=bC gT hb;replace HB:=dF HB hb;(try clear hb);(try clear hb2);(try clear hk);(try clear hi)))
    go_meet
    case rel=>exact ⟨_,(decide ((l4.length:Int) > 8)),nI,H',⟨Ww⟩,⟨iq⟩,⟨iq⟩,⟨iq⟩,⟨iq⟩,⟨gM⟩⟩
   ·replace c14:=Bool.eq_false_iff.mpr c14
    subst c14
    have H1:(af.j0 k a3 l4 l6 true aj ak ax ay aJ aC aG aN av aU aQ aZ bf bE bF bG bP bQ bR bS rH qV) = some r:=by rw [if_neg (show ¬ (false = true) by decide)] at H;exact H
    clear H
    have H:=H1
    clear H1
    have H':=ae.mk H
    clear H
    have ad5:=xm.out
    have ad6:=xn.out
    have alz:=xq.out
    have alA:=xu.out
    have aq8:=xw.out
    have aq9:=xx.out
    obtain ⟨zw,zx,zy,zz,FE,FH,FI,FJ,FL,zA,zB,zC,zD,FM,FN,FO,FP,FQ⟩:=iI fA.out
    have aHm:=AZ.out
    have aHn:=Ba.out
    have aeD:=Bb.out
    have aeE:=Bc.out
    obtain ⟨wP,wQ,wS,wT,zF,zG,zH,wU,wV,wW,wX,zI,zJ,zK⟩:=ko fC.out
    have ari:=FC.out
    have arj:=FD.out
    obtain ⟨vC,vD,wY,wZ,vE,vF,xc,xe⟩:=iC gm.out
    go_wp2_with (first|((with_reducible refine aW (f:=18) rfl ?_);refine dM (some 36) rfl rfl Try.func18 aR rfl #[.agg #[.int .i64 aj,.int .i64 ak,.int .i64 ax,.int .i64 ay,.int .i64 aJ,.int .i64 aC,.int .i64 aG,.slice dH aN.length dD,.slice dG av.length dE],.agg #[.int .i64 aU,.int .i64 aQ,.int .i64 aZ,.int .i64 bf,.int .i64 bE,.int .i64 bF,.int .i64 bG],.agg #[.int .i64 bP,.int .i64 bQ,.int .i64 bR,.int .i64 bS],.int .i64 a3] rfl jJ ?_;(with_reducible refine (jE.calls k aj ak ax ay aJ aC aG _ _ aN _ _ av aU aQ aZ bf bE bF bG bP bQ bR bS a3 false _ ?dz ?dA ?dR ?dS A13.out).mono ?_);(case dz=>repeat (first|exact (Kd.bn gq.out HB.out)|(with_reducible refine Kd.bA ?_ _)|(with_reducible refine Kd.bB ?_ _)|(with_reducible refine Kd.bK ?_)));(case dA=>exact gG.out);(case dR=>repeat (first|exact (Kd.bn fF.out HB.out)|(with_reducible refine Kd.bA ?_ _)|(with_reducible refine Kd.bB ?_ _)|(with_reducible refine Kd.bK ?_)));(case dS=>exact gH.out);rintro e w34 ⟨rfl,hb⟩;refine ⟨_,rfl,?_⟩;replace fA:=bC fA hb;replace fC:=bC fC hb;replace gm:=bC gm hb;replace gT:=bC gT hb;replace HB:=dF HB hb;(try clear hb);(try clear hb2);(try clear hk);(try clear hi)))
    go_meet
    case rel=>exact ⟨_,(true),nI,H',⟨Ww⟩,⟨iq⟩,⟨iq⟩,⟨iq⟩,⟨iq⟩,⟨gM⟩⟩
 case rest =>
  as_aux_lemma =>
   clear HC8
   try clear c1
   try clear c2
   try clear p2
   try clear c3
   try clear c4
   try clear c6
   try clear c14
   try clear c15
   try clear c16
   try clear c17
   try clear c18
   try clear c19
   try clear c20
   try clear Wv
   try clear Vj
   try clear Qb
   try clear c27
   try clear c29
   try clear c30
   try clear c32
   try clear si sj su sw yX yY yZ za zb
   try clear qE qF tC tF tH tJ tK
   try clear qI qJ tV tX
   try clear zw zx zy zz FE FH FI FJ FL
   try clear wP wQ wS wT zF zG zH
   try clear vC vD wY wZ
   try clear sD sF sG sH ze zf zg zh zi
   try clear qG qH tL tN tO tQ tT
   try clear qK qL tY tZ
   try clear zA zB zC zD FM FN FO FP FQ
   try clear wU wV wW wX zI zJ zK
   try clear vE vF xc xe
   obtain ⟨kq,aaE,rfl,HA,HJ7,fA,fC,gm,gT,HB⟩:=hcut
   cases kq with
   |zero=>exact absurd HA.out (by simp [af.j0])
   |succ VF =>
    have H:=HA.out
    clear HA
    simp only [af.j0] at H
    by_cases c35:aaE = true
    ·subst c35
     have H1:((bD.f VF).bind fun acs=>(some acs)) = some r:=by rw [if_pos rfl] at H;exact H
     clear H
     have H:=H1
     clear H1
     replace H:=Option.bind_eq_some_iff.mp H
     obtain ⟨acs,ary,H⟩:=H
     replace H:(some acs) = some r:=H
     have A36:=ae.mk ary
     clear ary
     obtain rfl:=Option.some.inj H
     go_wp2_with (first|((with_reducible refine aW (f:=19) rfl ?_);refine dM (some 43) rfl rfl Try.func19 aR rfl #[] rfl jJ ?_;(with_reducible refine (bD.calls VF acs _ A36.out).mono ?_);rintro e w37 ⟨rfl,hb⟩;refine ⟨_,rfl,?_⟩;replace fA:=bC fA hb;replace fC:=bC fC hb;replace gm:=bC gm hb;replace gT:=bC gT hb;replace HB:=dF HB hb;(try clear hb);(try clear hb2);(try clear hk);(try clear hi)))
     go_ret
     exact ⟨lJ,gM⟩
    ·replace c35:=Bool.eq_false_iff.mpr c35
     subst c35
     have H1:((qU.f aj ak ax ay aJ aC aG aN av aU aQ aZ bf bE bF bG bP bQ bR bS a3 l4).bind fun vO=>((jL.f VF aj ak ax ay aJ aC aG aN av aU aQ aZ bf bE bF bG bP bQ bR bS a3 l4).bind fun VD=>(if vO.2.2 = VD.2.2 then (if vO.2.2 = 0 then (if vO.2.1 = (l4.length:Int) then (af.j1 VF a3 l4 l6 vO.1 ((vO.1.length:Int) != vO.2.1) aj ak ax ay aJ aC aG aN av aU aQ aZ bf bE bF bG bP bQ bR bS rH qV) else (af.j1 VF a3 l4 l6 vO.1 true aj ak ax ay aJ aC aG aN av aU aQ aZ bf bE bF bG bP bQ bR bS rH qV)) else (if (vO.1.length:Int) = 0 then ((bD.f VF).bind fun Qm=>(some Qm)) else (some false))) else (some false)))) = some r:=by rw [if_neg (show ¬ (false = true) by decide)] at H;exact H
     clear H
     have H:=H1
     clear H1
     replace H:=Option.bind_eq_some_iff.mp H
     obtain ⟨⟨lh,Mv,Gy⟩,arz,H⟩:=H
     replace H:((jL.f VF aj ak ax ay aJ aC aG aN av aU aQ aZ bf bE bF bG bP bQ bR bS a3 l4).bind fun VD=>(if Gy = VD.2.2 then (if Gy = 0 then (if Mv = (l4.length:Int) then (af.j1 VF a3 l4 l6 lh ((lh.length:Int) != Mv) aj ak ax ay aJ aC aG aN av aU aQ aZ bf bE bF bG bP bQ bR bS rH qV) else (af.j1 VF a3 l4 l6 lh true aj ak ax ay aJ aC aG aN av aU aQ aZ bf bE bF bG bP bQ bR bS rH qV)) else (if (lh.length:Int) = 0 then ((bD.f VF).bind fun Qm=>(some Qm)) else (some false))) else (some false))) = some r:=H
     have A38:=ae.mk arz
     clear arz
     replace H:=Option.bind_eq_some_iff.mp H
     obtain ⟨⟨arA,arB,VG⟩,aeT,H⟩:=H
     replace H:(if Gy = VG then (if Gy = 0 then (if Mv = (l4.length:Int) then (af.j1 VF a3 l4 l6 lh ((lh.length:Int) != Mv) aj ak ax ay aJ aC aG aN av aU aQ aZ bf bE bF bG bP bQ bR bS rH qV) else (af.j1 VF a3 l4 l6 lh true aj ak ax ay aJ aC aG aN av aU aQ aZ bf bE bF bG bP bQ bR bS rH qV)) else (if (lh.length:Int) = 0 then ((bD.f VF).bind fun Qm=>(some Qm)) else (some false))) else (some false)) = some r:=H
     have A39:=ae.mk aeT
     clear aeT
     by_cases c40:Gy = VG
     ·rw [if_pos c40] at H
      have VH:(Gy == VG) = true:=beq_iff_eq.mpr c40
      have VI:(Gy != VG) = false:=bne_eq_false_iff_eq.mpr c40
      clear c40
      by_cases c41:Gy = 0
      ·rw [if_pos c41] at H
       have VJ:(Gy == 0) = true:=beq_iff_eq.mpr c41
       have VK:(Gy != 0) = false:=bne_eq_false_iff_eq.mpr c41
       clear c41
       have anB:=ae.mk H
       clear H
       have aHp:=xm.out
       have aHq:=xn.out
       have arC:=xq.out
       have arD:=xu.out
       have aeu:=xw.out
       have aev:=xx.out
       obtain ⟨Nz,NA,NB,NC,ND,NF,NG,NH,NI,NJ,NK,NL,NM,NN,NP,NQ,NR,NS⟩:=iI fA.out
       have ak6:=AZ.out
       have ak7:=Ba.out
       have aey:=Bb.out
       have aez:=Bc.out
       obtain ⟨Cj,Ck,Cm,Cn,ET,EU,EW,Co,Cq,Cr,Cs,EX,EY,EZ⟩:=ko fC.out
       have aqS:=FC.out
       have aqT:=FD.out
       obtain ⟨Fh,Fj,Fp,Fq,Fs,Fu,Fv,Fw⟩:=iC gm.out
       go_upto_region 9 with (first|((with_reducible refine aW (f:=30) rfl ?_);refine dM (some 50) rfl rfl Try.func30 aR rfl #[.agg #[.int .i64 aj,.int .i64 ak,.int .i64 ax,.int .i64 ay,.int .i64 aJ,.int .i64 aC,.int .i64 aG,.slice dH aN.length dD,.slice dG av.length dE],.agg #[.int .i64 aU,.int .i64 aQ,.int .i64 aZ,.int .i64 bf,.int .i64 bE,.int .i64 bF,.int .i64 bG],.agg #[.int .i64 bP,.int .i64 bQ,.int .i64 bR,.int .i64 bS],.int .i64 a3,.slice A4 l4.length c4] rfl jJ ?_;(with_reducible refine (qU.calls aj ak ax ay aJ aC aG _ _ aN _ _ av aU aQ aZ bf bE bF bG bP bQ bR bS a3 _ _ l4 lh Mv Gy _ ?dz ?dA ?dR ?dS ?JZ ?J2 A38.out).mono ?_);(case dz=>repeat (first|exact (Kd.bn gq.out HB.out)|(with_reducible refine Kd.bA ?_ _)|(with_reducible refine Kd.bB ?_ _)|(with_reducible refine Kd.bK ?_)));(case dA=>exact gG.out);(case dR=>repeat (first|exact (Kd.bn fF.out HB.out)|(with_reducible refine Kd.bA ?_ _)|(with_reducible refine Kd.bB ?_ _)|(with_reducible refine Kd.bK ?_)));(case dS=>exact gH.out);(case JZ=>repeat (first|exact (Kd.bn HR4.out HB.out)|(with_reducible refine Kd.bA ?_ _)|(with_reducible refine Kd.bB ?_ _)|(with_reducible refine Kd.bK ?_)));(case J2=>exact HC4.out);rintro e w52 ⟨acx,rfl,ho0,hb⟩;refine ⟨_,rfl,?_⟩;have J4:=ae.mk (Kd.lH (Kd.KM ho0 (g:=tu) (o:=.cells #[.int .i64 bP,.int .i64 bQ,.int .i64 bR,.int .i64 bS] 31 (0,0)) iq) (iG gM));replace fA:=bC fA hb;replace fC:=bC fC hb;replace gm:=bC gm hb;replace gT:=bC gT hb;replace HB:=dF HB hb;(try clear hb);(try clear hb2);(try clear hk);(try clear hi);(try clear ho0);obtain ⟨E5,E8,E9,Fa,JQ,JR,JS,NT,NU,Fb,Fe,Ff,Fg,JU,JV,JW,NV,NW⟩:=iI fA.out;obtain ⟨FR,FT,FU,FV,FW,FX,FY,FZ,F3,F4,F5,F6,F7,F8⟩:=ko fC.out;obtain ⟨NY,NZ,N7,N8,N9,Oa,Ob,Oc⟩:=iC gm.out)|((with_reducible refine aW (f:=31) rfl ?_);refine dM (some 60) rfl rfl Try.func31 aR rfl #[.agg #[.int .i64 aj,.int .i64 ak,.int .i64 ax,.int .i64 ay,.int .i64 aJ,.int .i64 aC,.int .i64 aG,.slice dH aN.length dD,.slice dG av.length dE],.agg #[.int .i64 aU,.int .i64 aQ,.int .i64 aZ,.int .i64 bf,.int .i64 bE,.int .i64 bF,.int .i64 bG],.agg #[.int .i64 bP,.int .i64 bQ,.int .i64 bR,.int .i64 bS],.int .i64 a3,.slice A4 l4.length c4] rfl jJ ?_;(with_reducible refine (jL.calls VF aj ak ax ay aJ aC aG _ _ aN _ _ av aU aQ aZ bf bE bF bG bP bQ bR bS a3 _ _ l4 arA arB VG _ ?dz ?dA ?dR ?dS ?JZ ?J2 A39.out).mono ?_);(case dz=>repeat (first|exact (Kd.bn gq.out HB.out)|(with_reducible refine Kd.bA ?_ _)|(with_reducible refine Kd.bB ?_ _)|(with_reducible refine Kd.bK ?_)));(case dA=>exact gG.out);(case dR=>repeat (first|exact (Kd.bn fF.out HB.out)|(with_reducible refine Kd.bA ?_ _)|(with_reducible refine Kd.bB ?_ _)|(with_reducible refine Kd.bK ?_)));(case dS=>exact gH.out);(case JZ=>repeat (first|exact (Kd.bn HR4.out HB.out)|(with_reducible refine Kd.bA ?_ _)|(with_reducible refine Kd.bB ?_ _)|(with_reducible refine Kd.bK ?_)));(case J2=>exact HC4.out);rintro e w56 ⟨aDt,rfl,ho0,hb⟩;refine ⟨_,rfl,?_⟩;have aeV:=ae.mk (Kd.lH (Kd.KM (Kd.OH ho0 (Kd.abg ajz)) (g:=tu) (o:=.cells #[.int .i64 bP,.int .i64 bQ,.int .i64 bR,.int .i64 bS] 31 (0,0)) iq) (iG gM));replace J4:=ae.mk (Kd.Di ajz (Kd.OG ho0) hb);replace fA:=bC fA hb;replace fC:=bC fC hb;replace gm:=bC gm hb;replace gT:=bC gT hb;replace HB:=dF HB hb;(try clear hb);(try clear hb2);(try clear hk);(try clear hi);(try clear ho0)))
       (try simp only [Act.put,List.setIfInBounds_toArray,List.set_cons_zero,List.set_cons_succ])
       go_cut [84] (fun v84 wc=>∃ (kq:Nat) (TN:Bool),v84 = .bool TN∧ae (af.j1 kq a3 l4 l6 lh TN aj ak ax ay aJ aC aG aN av aU aQ aZ bf bE bF bG bP bQ bR bS rH qV = some r)∧ae (kq≤VF)∧ae (Kd.R PN 31 wc w.heap.size (fun k_=>k_≠tu) acx lh)∧ae (wc.heap[lW]? = some (.cells #[.int .i64 aj,.int .i64 ak,.int .i64 ax,.int .i64 ay,.int .i64 aJ,.int .i64 aC,.int .i64 aG,(.slice dH aN.length dD),(.slice dG av.length dE)] 25 (0,0)))∧ae (wc.heap[rA]? = some (.cells #[.int .i64 aU,.int .i64 aQ,.int .i64 aZ,.int .i64 bf,.int .i64 bE,.int .i64 bF,.int .i64 bG] 29 (0,0)))∧ae (wc.heap[tu]? = some (.cells #[.int .i64 bP,.int .i64 bQ,.int .i64 bR,.int .i64 bS] 31 (0,0)))∧ae (wc.heap[L9]? = some (.cells #[.int .u16 rH,.int .u16 qV] 56 (0,0)))∧ae (Below w.heap.size w wc))
       case first =>
        as_aux_lemma =>
         have H:=anB.out
         clear anB
         by_cases c57:Mv = (l4.length:Int)
         ·rw [if_pos c57] at H
          have J5:(Mv == (l4.length:Int)) = true:=beq_iff_eq.mpr c57
          have VL:(Mv != (l4.length:Int)) = false:=bne_eq_false_iff_eq.mpr c57
          clear c57
          (first|rw [J5]|(simp only [fD,fJ];rw [J5])|skip)
          have H':=ae.mk H
          clear H
          obtain ⟨aJu,aJv,aDu⟩:=Kd.ma J4.out
          subst aDu
          go_wp2
          go_meet
          case rel=>exact ⟨_,(((lh.length:Int) != Mv)),nI,H',⟨by have:=HJ7.out;first|omega|exact Nat.le_refl _⟩,⟨arE⟩,⟨iq⟩,⟨iq⟩,⟨iq⟩,⟨iq⟩,⟨gM⟩⟩
         ·rw [if_neg c57] at H
          have J5:(Mv == (l4.length:Int)) = false:=beq_eq_false_iff_ne.mpr c57
          have VL:(Mv != (l4.length:Int)) = true:=bne_iff_ne.mpr c57
          (first|rw [J5]|(simp only [fD,fJ];rw [J5])|skip)
          have H':=ae.mk H
          clear H
          go_wp2
          go_meet
          case rel=>exact ⟨_,(true),nI,H',⟨by have:=HJ7.out;first|omega|exact Nat.le_refl _⟩,⟨arE⟩,⟨iq⟩,⟨iq⟩,⟨iq⟩,⟨iq⟩,⟨gM⟩⟩
       case rest =>
        as_aux_lemma =>
         clear anB
         try clear c1
         try clear c2
         try clear p2
         try clear c3
         try clear c4
         try clear c5
         try clear c6
         try clear c14
         try clear c15
         try clear c16
         try clear c17
         try clear c18
         try clear c19
         try clear c20
         try clear Wv
         try clear Vj
         try clear Qb
         try clear c27
         try clear c29
         try clear c30
         try clear c31
         try clear c32
         try clear c35
         try clear c40
         try clear VH
         try clear VI
         try clear c41
         try clear VJ
         try clear VK
         try clear c43
         try clear c44
         try clear c45
         try clear c47
         try clear c48
         try clear c50
         try clear c57
         try clear J5
         try clear VL
         try clear si sj su sw yX yY yZ za zb
         try clear qE qF tC tF tH tJ tK
         try clear qI qJ tV tX
         try clear zw zx zy zz FE FH FI FJ FL
         try clear wP wQ wS wT zF zG zH
         try clear vC vD wY wZ
         try clear Nz NA NB NC ND NF NG NH NI
         try clear Cj Ck Cm Cn ET EU EW
         try clear Fh Fj Fp Fq
         try clear E5 E8 E9 Fa JQ JR JS NT NU
         try clear FR FT FU FV FW FX FY
         try clear NY NZ N7 N8
         try clear sD sF sG sH ze zf zg zh zi
         try clear qG qH tL tN tO tQ tT
         try clear qK qL tY tZ
         try clear zA zB zC zD FM FN FO FP FQ
         try clear wU wV wW wX zI zJ zK
         try clear vE vF xc xe
         try clear NJ NK NL NM NN NP NQ NR NS
         try clear Co Cq Cr Cs EX EY EZ
         try clear Fs Fu Fv Fw
         try clear Fb Fe Ff Fg JU JV JW NV NW
         try clear FZ F3 F4 F5 F6 F7 F8
         try clear N9 Oa Ob Oc
         try clear p2
         obtain ⟨kq,TN,rfl,HA,aeX,jW,fA,fC,gm,gT,HB⟩:=hcut
         cases kq with
         |zero=>exact absurd HA.out (by simp [af.j1])
         |succ aeY =>
          have H:=HA.out
          clear HA
          simp only [af.j1] at H
          by_cases c59:TN = true
          ·subst c59
           have H1:(some false) = some r:=by rw [if_pos rfl] at H;exact H
           clear H
           have H:=H1
           clear H1
           have QE:=Option.some.inj H
           rw [hr_.out] at QE
           cases QE
          ·replace c59:=Bool.eq_false_iff.mpr c59
           subst c59
           have H1:((dI.f bP bQ rH).bind fun VE=>((dI.f bR bS qV).bind fun TM=>(af.l0 aeY a3 l4 l6 lh (wrap64 (VE*4000000)) (wrap64 (TM*4000000)) 0 aj ak ax ay aJ aC aG aN av aU aQ aZ bf bE bF bG))) = some r:=by rw [if_neg (show ¬ (false = true) by decide)] at H;exact H
           clear H
           have H:=H1
           clear H1
           replace H:=Option.bind_eq_some_iff.mp H
           obtain ⟨VE,arF,H⟩:=H
           replace H:((dI.f bR bS qV).bind fun TM=>(af.l0 aeY a3 l4 l6 lh (wrap64 (VE*4000000)) (wrap64 (TM*4000000)) 0 aj ak ax ay aJ aC aG aN av aU aQ aZ bf bE bF bG)) = some r:=H
           have KI:=ae.mk arF
           clear arF
           replace H:=Option.bind_eq_some_iff.mp H
           obtain ⟨TM,arG,H⟩:=H
           replace H:(af.l0 aeY a3 l4 l6 lh (wrap64 (VE*4000000)) (wrap64 (TM*4000000)) 0 aj ak ax ay aJ aC aG aN av aU aQ aZ bf bE bF bG) = some r:=H
           have A61:=ae.mk arG
           clear arG
           have H':=ae.mk H
           clear H
           try go_wp2
           replace jW:=ae.mk (Kd.jo jW.out)
           replace fA:=ae.mk (ah fA.out)
           replace fC:=ae.mk (ah fC.out)
           replace gm:=ae.mk (ah gm.out)
           replace gT:=ae.mk (ah gT.out)
           replace HB:=ae.mk (bW HB.out)
           refine jI (n:=14) (S:=fun w'=>w'.cell? ⟨tu,0,none⟩ = some (.int .i64 bP)∧w'.cell? ⟨tu,1,none⟩ = some (.int .i64 bQ)∧w'.cell? ⟨tu,2,none⟩ = some (.int .i64 bR)∧w'.cell? ⟨tu,3,none⟩ = some (.int .i64 bS)∧w'.cell? ⟨L9,0,none⟩ = some (.int .u16 rH)∧w'.cell? ⟨L9,1,none⟩ = some (.int .u16 qV)) (ds:=[]) #[false,false,false,false,false,false,false,false,false,false,false,false,false,false] aR rfl rfl (Gw gm.out ⟨(aa gT.out 0).trans rfl,(aa gT.out 1).trans rfl⟩) (fun hHeld=>?_);refine iM af.arp af.ant (fun bN jX=>?_)
           generalize wc.drew = w62 at jW fA fC gm gT HB hHeld ⊢
           refine dJ (i:=0) (N:=some 85) (aD bN.out aR) ?_
           refine dJ (i:=2) (N:=some 87) (aD bN.out aR) ?_
           refine dJ (i:=6) (N:=some 91) (aD bN.out aR) ?_
           refine dJ (i:=8) (N:=some 93) (aD bN.out aR) ?_
           refine ja (i:=1) (N:=some 86) (bq bN.out jX.out aR) hHeld ?_
           refine ja (i:=3) (N:=some 88) (bq bN.out jX.out aR) hHeld ?_
           refine ja (i:=7) (N:=some 92) (bq bN.out jX.out aR) hHeld ?_
           refine ja (i:=9) (N:=some 94) (bq bN.out jX.out aR) hHeld ?_
           refine jq (i:=4) (N:=some 89) #[true,true,true,true,true,false,true,true,true,true,false,false,false,false] rfl rfl (fE bN.out aR) (by decide) (fun K hK=>?_)
           refine gV Try.func33 aR rfl #[.agg #[.int .i64 bP,.int .i64 bQ],.int .u16 rH] (by rfl) rfl rfl jJ ?_
           with_reducible refine (dI.calls bP bQ rH VE _ KI.out).mono ?_
           rintro e w63 ⟨rfl,hb⟩
           refine ⟨_,rfl,?_⟩
           replace jW:=xB jW hb
           replace fA:=bC fA hb
           replace fC:=bC fC hb
           replace gm:=bC gm hb
           replace gT:=bC gT hb
           replace HB:=dF HB hb
           (try clear hb)
           (try clear hb2)
           (try clear hk)
           (try clear hi)
           refine hK.out _ _ (Gw gm.out ⟨(aa gT.out 0).trans rfl,(aa gT.out 1).trans rfl⟩) (fun hHeld=>?_)
           clear hK K
           refine ek (by show Act.put _ (some 89) _ = _;simp only [Act.put,List.setIfInBounds_toArray,List.set_cons_zero,List.set_cons_succ,fD,fJ];rfl) ?_
           refine dJ (i:=5) (N:=some 90) (aD bN.out aR) ?_
           refine jq (i:=10) (N:=some 95) #[true,true,true,true,true,true,true,true,true,true,true,false,false,false] rfl rfl (fE bN.out aR) (by decide) (fun K hK=>?_)
           refine gV Try.func33 aR rfl #[.agg #[.int .i64 bR,.int .i64 bS],.int .u16 qV] (by rfl) rfl rfl jJ ?_
           with_reducible refine (dI.calls bR bS qV TM _ A61.out).mono ?_
           rintro e w64 ⟨rfl,hb⟩
           refine ⟨_,rfl,?_⟩
           replace jW:=xB jW hb
           replace fA:=bC fA hb
           replace fC:=bC fC hb
           replace gm:=bC gm hb
           replace gT:=bC gT hb
           replace HB:=dF HB hb
           (try clear hb)
           (try clear hb2)
           (try clear hk)
           (try clear hi)
           refine hK.out _ _ (Gw gm.out ⟨(aa gT.out 0).trans rfl,(aa gT.out 1).trans rfl⟩) (fun hHeld=>?_)
           clear hK K
           refine ek (by show Act.put _ (some 95) _ = _;simp only [Act.put,List.setIfInBounds_toArray,List.set_cons_zero,List.set_cons_succ,fD,fJ];rfl) ?_
           refine dJ (i:=11) (N:=some 96) (aD bN.out aR) ?_
           refine dJ (i:=12) (N:=some 21) (aD bN.out aR) ?_
           refine dJ (i:=13) (N:=some 22) (aD bN.out aR) ?_
           refine lC (kF bN.out aR) ?_
           try go_wp2
           go_loopg [21,22,23] aeY (fun kq v21 v22 v23 w'=>∃ (VM:Int) (VN:Int) (eO:Int),v21 = .int .i64 VM∧v22 = .int .i64 VN∧v23 = .int .i64 eO∧ae (af.l0 kq a3 l4 l6 lh VM VN eO aj ak ax ay aJ aC aG aN av aU aQ aZ bf bE bF bG = some r)∧ae (kq≤aeY)∧ae (Kd.R PN 31 w' w.heap.size (fun k_=>k_≠tu) acx lh)∧ae (w'.heap[lW]? = some (.cells #[.int .i64 aj,.int .i64 ak,.int .i64 ax,.int .i64 ay,.int .i64 aJ,.int .i64 aC,.int .i64 aG,(.slice dH aN.length dD),(.slice dG av.length dE)] 25 (0,0)))∧ae (w'.heap[rA]? = some (.cells #[.int .i64 aU,.int .i64 aQ,.int .i64 aZ,.int .i64 bf,.int .i64 bE,.int .i64 bF,.int .i64 bG] 29 (0,0)))∧ae (w'.heap[tu]? = some (.cells #[.int .i64 bP,.int .i64 bQ,.int .i64 bR,.int .i64 bS] 31 (0,0)))∧ae (w'.heap[L9]? = some (.cells #[.int .u16 rH,.int .u16 qV] 56 (0,0)))∧ae (Below w.heap.size w w'))
           case atStart=>exact ⟨(wrap64 (VE*4000000)),(wrap64 (TM*4000000)),(0),nI,nI,nI,H',⟨Nat.le_refl _⟩,⟨Xz⟩,⟨iq⟩,⟨iq⟩,⟨iq⟩,⟨iq⟩,⟨gM⟩⟩
           case round =>
            as_aux_lemma =>
             clear H'
             try clear c1
             try clear c2
             try clear p2
             try clear c3
             try clear c4
             try clear c5
             try clear c6
             try clear p6
             try clear c14
             try clear c15
             try clear c16
             try clear c17
             try clear c18
             try clear c19
             try clear c20
             try clear Wv
             try clear Vj
             try clear Qb
             try clear c27
             try clear c29
             try clear c30
             try clear c31
             try clear c32
             try clear Vk
             try clear c35
             try clear c40
             try clear VH
             try clear VI
             try clear c41
             try clear VJ
             try clear VK
             try clear c43
             try clear c44
             try clear c45
             try clear c47
             try clear c48
             try clear c50
             try clear c57
             try clear J5
             try clear VL
             try clear c59
             try clear p64
             try clear si sj su sw yX yY yZ za zb
             try clear qE qF tC tF tH tJ tK
             try clear qI qJ tV tX
             try clear zw zx zy zz FE FH FI FJ FL
             try clear wP wQ wS wT zF zG zH
             try clear vC vD wY wZ
             try clear Nz NA NB NC ND NF NG NH NI
             try clear Cj Ck Cm Cn ET EU EW
             try clear Fh Fj Fp Fq
             try clear E5 E8 E9 Fa JQ JR JS NT NU
             try clear FR FT FU FV FW FX FY
             try clear NY NZ N7 N8
             try clear sD sF sG sH ze zf zg zh zi
             try clear qG qH tL tN tO tQ tT
             try clear qK qL tY tZ
             try clear zA zB zC zD FM FN FO FP FQ
             try clear wU wV wW wX zI zJ zK
             try clear vE vF xc xe
             try clear NJ NK NL NM NN NP NQ NR NS
             try clear Co Cq Cr Cs EX EY EZ
             try clear Fs Fu Fv Fw
             try clear Fb Fe Ff Fg JU JV JW NV NW
             try clear FZ F3 F4 F5 F6 F7 F8
             try clear N9 Oa Ob Oc
             try clear p2
             obtain ⟨VM,VN,eO,rfl,rfl,rfl,HA,YU,jW,fA,fC,gm,gT,HB⟩:=hrel
             cases gk with
             |zero=>exact absurd HA.out (by simp [af.l0])
             |succ k3 =>
              have H:=HA.out
              clear HA
              simp only [af.l0] at H
              by_cases c65:eO < (l4.length:Int)
              ·rw [if_pos c65] at H
               have aeZ:decide (eO < (l4.length:Int)) = true:=decide_eq_true c65
               clear c65
               by_cases c66:0≤eO
               ·rw [if_pos c66] at H
                have alG:decide (0≤eO) = true:=decide_eq_true c66
                clear c66
                replace H:=Option.bind_eq_some_iff.mp H
                obtain ⟨⟨xR,xS⟩,arH,H⟩:=H
                replace H:(af.l1 k3 a3 l4 l6 lh VM VN eO xR xS 0 aj ak ax ay aJ aC aG aN av aU aQ aZ bf bE bF bG) = some r:=H
                have A67:=ae.mk arH
                clear arH
                have H':=ae.mk H
                clear H
                have ae0:0≤(eO:Int):=of_decide_eq_true lX
                have ae1:eO < (l4.length:Int):=of_decide_eq_true lX
                obtain ⟨aaF,aDB,J6,J7⟩:=kT HR4.out eO ae0 ae1
                cases aDB
                replace J6:=(HB.out.cell (World.block_lt_of_cell? w _ J6)).trans J6
                replace J7:=(HB.out.cell (World.block_lt_of_cell? w _ J7)).trans J7
                replace ae0:=eq_true ae0
                replace ae1:=eq_true ae1
                go_wp2_with (first|((with_reducible refine aW (f:=34) rfl ?_);refine dM (some 109) rfl rfl Try.func34 aR rfl #[.int .i64 ((dx l4 eO).f0)] rfl jJ ?_;(with_reducible refine (iB.calls ((dx l4 eO).f0) xR xS _ A67.out).mono ?_);rintro e w68 ⟨rfl,hb⟩;refine ⟨_,rfl,?_⟩;replace jW:=xB jW hb;replace fA:=bC fA hb;replace fC:=bC fC hb;replace gm:=bC gm hb;replace gT:=bC gT hb;replace HB:=dF HB hb;(try clear hb);(try clear hb2);(try clear hk);(try clear hi)))
                go_loopg [21,22,26] k3 (fun kq v21 v22 v26 w'=>∃ (oH:Int) (mY:Int) (jw:Int),v21 = .int .i64 oH∧v22 = .int .i64 mY∧v26 = .int .i64 jw∧ae (af.l1 kq a3 l4 l6 lh oH mY eO xR xS jw aj ak ax ay aJ aC aG aN av aU aQ aZ bf bE bF bG = some r)∧ae (kq≤k3)∧ae (Kd.R PN 31 w' w.heap.size (fun k_=>k_≠tu) acx lh)∧ae (w'.heap[lW]? = some (.cells #[.int .i64 aj,.int .i64 ak,.int .i64 ax,.int .i64 ay,.int .i64 aJ,.int .i64 aC,.int .i64 aG,(.slice dH aN.length dD),(.slice dG av.length dE)] 25 (0,0)))∧ae (w'.heap[rA]? = some (.cells #[.int .i64 aU,.int .i64 aQ,.int .i64 aZ,.int .i64 bf,.int .i64 bE,.int .i64 bF,.int .i64 bG] 29 (0,0)))∧ae (w'.heap[tu]? = some (.cells #[.int .i64 bP,.int .i64 bQ,.int .i64 bR,.int .i64 bS] 31 (0,0)))∧ae (w'.heap[L9]? = some (.cells #[.int .u16 rH,.int .u16 qV] 56 (0,0)))∧ae (Below w.heap.size w w'))
                case atStart=>exact ⟨(VM),(VN),(0),nI,nI,nI,H',⟨Nat.le_refl _⟩,⟨Xz⟩,⟨iq⟩,⟨iq⟩,⟨iq⟩,⟨iq⟩,⟨gM⟩⟩
                case round =>
                 as_aux_lemma =>
                  clear H'
                  try clear c1
                  try clear c2
                  try clear p2
                  try clear c3
                  try clear c4
                  try clear c5
                  try clear p5
                  try clear q5
                  try clear hx5
                  try clear c6
                  try clear p6
                  try clear c14
                  try clear c15
                  try clear c16
                  try clear c17
                  try clear c18
                  try clear c19
                  try clear c20
                  try clear Wv
                  try clear Vj
                  try clear Qb
                  try clear c27
                  try clear c29
                  try clear c30
                  try clear c31
                  try clear c32
                  try clear Vk
                  try clear c34
                  try clear c35
                  try clear c40
                  try clear VH
                  try clear VI
                  try clear c41
                  try clear VJ
                  try clear VK
                  try clear c43
                  try clear c44
                  try clear c45
                  try clear c47
                  try clear c48
                  try clear c50
                  try clear c57
                  try clear J5
                  try clear VL
                  try clear p58
                  try clear q58
                  try clear aDC
                  try clear c59
                  try clear p64
                  try clear c65
                  try clear aeZ
                  try clear c66
                  try clear alG
                  try clear si sj su sw yX yY yZ za zb
                  try clear qE qF tC tF tH tJ tK
                  try clear qI qJ tV tX
                  try clear zw zx zy zz FE FH FI FJ FL
                  try clear wP wQ wS wT zF zG zH
                  try clear vC vD wY wZ
                  try clear Nz NA NB NC ND NF NG NH NI
                  try clear Cj Ck Cm Cn ET EU EW
                  try clear Fh Fj Fp Fq
                  try clear E5 E8 E9 Fa JQ JR JS NT NU
                  try clear FR FT FU FV FW FX FY
                  try clear NY NZ N7 N8
                  try clear sD sF sG sH ze zf zg zh zi
                  try clear qG qH tL tN tO tQ tT
                  try clear qK qL tY tZ
                  try clear zA zB zC zD FM FN FO FP FQ
                  try clear wU wV wW wX zI zJ zK
                  try clear vE vF xc xe
                  try clear NJ NK NL NM NN NP NQ NR NS
                  try clear Co Cq Cr Cs EX EY EZ
                  try clear Fs Fu Fv Fw
                  try clear Fb Fe Ff Fg JU JV JW NV NW
                  try clear FZ F3 F4 F5 F6 F7 F8
                  try clear N9 Oa Ob Oc
                  try clear J6 J7
                  try clear p2
                  try clear ae0
                  try clear p6
                  try clear p64
                  try clear ae1
                  obtain ⟨oH,mY,jw,rfl,rfl,rfl,HA,HK4,jW,fA,fC,gm,gT,HB⟩:=hrel
                  cases gk with
                  |zero=>exact absurd HA.out (by simp [af.l1])
                  |succ k4 =>
                   have H:=HA.out
                   clear HA
                   simp only [af.l1] at H
                   by_cases c69:jw < 4
                   ·rw [if_pos c69] at H
                    have alH:decide (jw < 4) = true:=decide_eq_true c69
                    clear c69
                    by_cases c70:ax = 0
                    ·rw [if_pos c70] at H
                     exact absurd H (by simp)
                    ·rw [if_neg c70] at H
                     have arJ:(ax == 0) = false:=beq_eq_false_iff_ne.mpr c70
                     have arK:(ax != 0) = true:=bne_iff_ne.mpr c70
                     obtain ⟨zW,ae2⟩:∃ j_:Int,(mn (wrap64 (Int.tdiv (wrap64 (Int.tdiv oH 4000000)) ax)) (wrap64 (aj - 1))) = j_:=⟨_,rfl⟩
                     replace H:(if ay = 0 then (none) else (if (zW) < 0 then (af.j4 k4 a3 l4 l6 lh oH mY eO xR xS jw zW (mn (wrap64 (Int.tdiv (wrap64 (Int.tdiv mY 4000000)) ax)) (wrap64 (ak - 1))) (wrap64 (Int.tdiv (wrap64 ((wrap64 (a3+(wrap64 (eO*aQ))))+(wrap64 (Int.tdiv (wrap64 (jw*aQ)) 4)))) ay)) true aj ak ax ay aJ aC aG aN av aU aQ aZ bf bE bF bG) else (if (mn (wrap64 (Int.tdiv (wrap64 (Int.tdiv mY 4000000)) ax)) (wrap64 (ak - 1))) < 0 then (af.j4 k4 a3 l4 l6 lh oH mY eO xR xS jw zW (mn (wrap64 (Int.tdiv (wrap64 (Int.tdiv mY 4000000)) ax)) (wrap64 (ak - 1))) (wrap64 (Int.tdiv (wrap64 ((wrap64 (a3+(wrap64 (eO*aQ))))+(wrap64 (Int.tdiv (wrap64 (jw*aQ)) 4)))) ay)) true aj ak ax ay aJ aC aG aN av aU aQ aZ bf bE bF bG) else (af.j4 k4 a3 l4 l6 lh oH mY eO xR xS jw zW (mn (wrap64 (Int.tdiv (wrap64 (Int.tdiv mY 4000000)) ax)) (wrap64 (ak - 1))) (wrap64 (Int.tdiv (wrap64 ((wrap64 (a3+(wrap64 (eO*aQ))))+(wrap64 (Int.tdiv (wrap64 (jw*aQ)) 4)))) ay)) (decide ((wrap64 (Int.tdiv (wrap64 ((wrap64 (a3+(wrap64 (eO*aQ))))+(wrap64 (Int.tdiv (wrap64 (jw*aQ)) 4)))) ay)) ≥ aJ)) aj ak ax ay aJ aC aG aN av aU aQ aZ bf bE bF bG)))) = some r:=by first|(rw [ae2] at H;exact H)|(simp only [ae2] at H ⊢;exact H)
                     have aDD:(if (wrap64 (aj - 1)) < (wrap64 (Int.tdiv (wrap64 (Int.tdiv oH 4000000)) ax)) then (wrap64 (aj - 1)) else (wrap64 (Int.tdiv (wrap64 (Int.tdiv oH 4000000)) ax))) = zW:=ae2
                     obtain ⟨DK,ae3⟩:∃ j_:Int,(mn (wrap64 (Int.tdiv (wrap64 (Int.tdiv mY 4000000)) ax)) (wrap64 (ak - 1))) = j_:=⟨_,rfl⟩
                     replace H:(if ay = 0 then (none) else (if (zW) < 0 then (af.j4 k4 a3 l4 l6 lh oH mY eO xR xS jw zW DK (wrap64 (Int.tdiv (wrap64 ((wrap64 (a3+(wrap64 (eO*aQ))))+(wrap64 (Int.tdiv (wrap64 (jw*aQ)) 4)))) ay)) true aj ak ax ay aJ aC aG aN av aU aQ aZ bf bE bF bG) else (if (DK) < 0 then (af.j4 k4 a3 l4 l6 lh oH mY eO xR xS jw zW DK (wrap64 (Int.tdiv (wrap64 ((wrap64 (a3+(wrap64 (eO*aQ))))+(wrap64 (Int.tdiv (wrap64 (jw*aQ)) 4)))) ay)) true aj ak ax ay aJ aC aG aN av aU aQ aZ bf bE bF bG) else (af.j4 k4 a3 l4 l6 lh oH mY eO xR xS jw zW DK (wrap64 (Int.tdiv (wrap64 ((wrap64 (a3+(wrap64 (eO*aQ))))+(wrap64 (Int.tdiv (wrap64 (jw*aQ)) 4)))) ay)) (decide ((wrap64 (Int.tdiv (wrap64 ((wrap64 (a3+(wrap64 (eO*aQ))))+(wrap64 (Int.tdiv (wrap64 (jw*aQ)) 4)))) ay)) ≥ aJ)) aj ak ax ay aJ aC aG aN av aU aQ aZ bf bE bF bG)))) = some r:=by first|(rw [ae3] at H;exact H)|(simp only [ae3] at H ⊢;exact H)
                     have aDE:(if (wrap64 (ak - 1)) < (wrap64 (Int.tdiv (wrap64 (Int.tdiv mY 4000000)) ax)) then (wrap64 (ak - 1)) else (wrap64 (Int.tdiv (wrap64 (Int.tdiv mY 4000000)) ax))) = DK:=ae3
                     by_cases c73:ay = 0
                     ·rw [if_pos c73] at H
                      exact absurd H (by simp)
                     ·rw [if_neg c73] at H
                      have arM:(ay == 0) = false:=beq_eq_false_iff_ne.mpr c73
                      have arN:(ay != 0) = true:=bne_iff_ne.mpr c73
                      have anD:=ae.mk H
                      clear H
                      have aqW:=xn.out
                      have aqX:=xm.out
                      have alc:=AZ.out
                      have ald:=Ba.out
                      have aqo:=Bb.out
                      have aqp:=Bc.out
                      obtain ⟨Zj,Zk,Zl,Zm,ajA,ajB,ajC,Zn,Zo,Zp,Zq,ajD,ajE,ajF⟩:=ko fC.out
                      try go_wp2
                      replace jW:=ae.mk (Kd.jo jW.out)
                      replace fA:=ae.mk (ah fA.out)
                      replace fC:=ae.mk (ah fC.out)
                      replace gm:=ae.mk (ah gm.out)
                      replace gT:=ae.mk (ah gT.out)
                      replace HB:=ae.mk (bW HB.out)
                      refine jI (n:=10) (S:=fun w'=>w'.cell? ⟨lW,0,none⟩ = some (.int .i64 aj)∧w'.cell? ⟨lW,1,none⟩ = some (.int .i64 ak)∧w'.cell? ⟨lW,2,none⟩ = some (.int .i64 ax)∧w'.cell? ⟨lW,3,none⟩ = some (.int .i64 ay)∧w'.cell? ⟨lW,4,none⟩ = some (.int .i64 aJ)∧w'.cell? ⟨lW,5,none⟩ = some (.int .i64 aC)∧w'.cell? ⟨lW,6,none⟩ = some (.int .i64 aG)∧w'.cell? ⟨lW,7,none⟩ = some (.slice dH aN.length dD)∧w'.cell? ⟨lW,8,none⟩ = some (.slice dG av.length dE)) (ds:=[]) #[false,false,false,false,false,false,false,false,false,false] aR rfl rfl (xG fA.out) (fun hHeld=>?_);refine iM af.arq af.anu (fun bN jX=>?_)
                      generalize wr.drew = w79 at jW fA fC gm gT HB hHeld ⊢
                      refine dJ (i:=0) (N:=some 128) (aD bN.out aR) ?_
                      refine dJ (i:=1) (N:=some 129) (aD bN.out aR) ?_
                      refine dJ (i:=2) (N:=some 130) (aD bN.out aR) ?_
                      refine dJ (i:=5) (N:=some 133) (aD bN.out aR) ?_
                      refine ja (i:=3) (N:=some 131) (bq bN.out jX.out aR) hHeld ?_
                      refine dJ (i:=4) (N:=some 132) (aD bN.out aR) ?_
                      refine ja (i:=6) (N:=some 134) (bq bN.out jX.out aR) hHeld ?_
                      refine dJ (i:=7) (N:=some 135) (aD bN.out aR) ?_
                      refine dJ (i:=8) (N:=some 136) (aD bN.out aR) ?_
                      refine dJ (i:=9) (N:=some 28) (aD bN.out aR) ?_
                      refine lC (kF bN.out aR) ?_
                      try go_wp2
                      replace jW:=ae.mk (Kd.jo jW.out)
                      replace fA:=ae.mk (ah fA.out)
                      replace fC:=ae.mk (ah fC.out)
                      replace gm:=ae.mk (ah gm.out)
                      replace gT:=ae.mk (ah gT.out)
                      replace HB:=ae.mk (bW HB.out)
                      refine jI (n:=10) (S:=fun w'=>w'.cell? ⟨lW,0,none⟩ = some (.int .i64 aj)∧w'.cell? ⟨lW,1,none⟩ = some (.int .i64 ak)∧w'.cell? ⟨lW,2,none⟩ = some (.int .i64 ax)∧w'.cell? ⟨lW,3,none⟩ = some (.int .i64 ay)∧w'.cell? ⟨lW,4,none⟩ = some (.int .i64 aJ)∧w'.cell? ⟨lW,5,none⟩ = some (.int .i64 aC)∧w'.cell? ⟨lW,6,none⟩ = some (.int .i64 aG)∧w'.cell? ⟨lW,7,none⟩ = some (.slice dH aN.length dD)∧w'.cell? ⟨lW,8,none⟩ = some (.slice dG av.length dE)) (ds:=[]) #[false,false,false,false,false,false,false,false,false,false] aR rfl rfl (xG fA.out) (fun hHeld=>?_);refine iM af.ars af.anv (fun bN jX=>?_)
                      generalize w79.drew = w80 at jW fA fC gm gT HB hHeld ⊢
                      refine dJ (i:=0) (N:=some 137) (aD bN.out aR) ?_
                      refine dJ (i:=1) (N:=some 138) (aD bN.out aR) ?_
                      refine dJ (i:=2) (N:=some 139) (aD bN.out aR) ?_
                      refine dJ (i:=5) (N:=some 142) (aD bN.out aR) ?_
                      refine ja (i:=3) (N:=some 140) (bq bN.out jX.out aR) hHeld ?_
                      refine dJ (i:=4) (N:=some 141) (aD bN.out aR) ?_
                      refine ja (i:=6) (N:=some 143) (bq bN.out jX.out aR) hHeld ?_
                      refine dJ (i:=7) (N:=some 144) (aD bN.out aR) ?_
                      refine dJ (i:=8) (N:=some 145) (aD bN.out aR) ?_
                      refine dJ (i:=9) (N:=some 29) (aD bN.out aR) ?_
                      refine lC (kF bN.out aR) ?_
                      have aqr:=xq.out
                      have aqs:=xu.out
                      have aq0:=xw.out
                      have aq1:=xx.out
                      obtain ⟨ZZ,Z0,Z4,Z5,ajG,ajH,ajI,ajJ,ajK,Z6,Z7,Z8,Z9,ajL,ajM,ajN,ajO,ajP⟩:=iI fA.out
                      go_upto_region 23 with (fail)
                      go_cut [161] (fun aDF wc=>∃ (kq:Nat) (Od:Bool),aDF = .bool Od∧ae (af.j4 kq a3 l4 l6 lh oH mY eO xR xS jw zW DK (wrap64 (Int.tdiv (wrap64 ((wrap64 (a3+(wrap64 (eO*aQ))))+(wrap64 (Int.tdiv (wrap64 (jw*aQ)) 4)))) ay)) Od aj ak ax ay aJ aC aG aN av aU aQ aZ bf bE bF bG = some r)∧ae (kq≤k4)∧ae (Kd.R PN 31 wc w.heap.size (fun k_=>k_≠tu) acx lh)∧ae (wc.heap[lW]? = some (.cells #[.int .i64 aj,.int .i64 ak,.int .i64 ax,.int .i64 ay,.int .i64 aJ,.int .i64 aC,.int .i64 aG,(.slice dH aN.length dD),(.slice dG av.length dE)] 25 (0,0)))∧ae (wc.heap[rA]? = some (.cells #[.int .i64 aU,.int .i64 aQ,.int .i64 aZ,.int .i64 bf,.int .i64 bE,.int .i64 bF,.int .i64 bG] 29 (0,0)))∧ae (wc.heap[tu]? = some (.cells #[.int .i64 bP,.int .i64 bQ,.int .i64 bR,.int .i64 bS] 31 (0,0)))∧ae (wc.heap[L9]? = some (.cells #[.int .u16 rH,.int .u16 qV] 56 (0,0)))∧ae (Below w.heap.size w wc))
                      case first =>
                       as_aux_lemma =>
                        have H:=anD.out
                        clear anD
                        by_cases c84:(zW) < 0
                        ·rw [if_pos c84] at H
                         have QW:decide ((zW) < 0) = true:=decide_eq_true c84
                         clear c84
                         (first|rw [QW]|(simp only [fD,fJ];rw [QW])|skip)
                         have H':=ae.mk H
                         clear H
                         go_wp2
                         go_meet
                         case rel=>exact ⟨_,(true),nI,H',⟨anF⟩,⟨Xz⟩,⟨iq⟩,⟨iq⟩,⟨iq⟩,⟨iq⟩,⟨gM⟩⟩
                        ·rw [if_neg c84] at H
                         have QW:decide ((zW) < 0) = false:=decide_eq_false c84
                         clear c84
                         (first|rw [QW]|(simp only [fD,fJ];rw [QW])|skip)
                         by_cases c85:(DK) < 0
                         ·rw [if_pos c85] at H
                          have alI:decide ((DK) < 0) = true:=decide_eq_true c85
                          clear c85
                          have H':=ae.mk H
                          clear H
                          go_wp2
                          go_meet
                          case rel=>exact ⟨_,(true),nI,H',⟨anF⟩,⟨Xz⟩,⟨iq⟩,⟨iq⟩,⟨iq⟩,⟨iq⟩,⟨gM⟩⟩
                         ·rw [if_neg c85] at H
                          have alI:decide ((DK) < 0) = false:=decide_eq_false c85
                          clear c85
                          have H':=ae.mk H
                          clear H
                          have aqt:=xm.out
                          have aqu:=xn.out
                          have aqv:=xq.out
                          have aqw:=xu.out
                          have aqx:=xw.out
                          have aqy:=xx.out
                          obtain ⟨Zr,Zt,Zu,Zv,Zw,Zx,Zy,Zz,ZA,ZB,ZC,ZE,ZF,ZG,ZH,ZI,ZJ,ZK⟩:=iI fA.out
                          go_wp2
                          go_meet
                          case rel=>exact ⟨_,(decide ((wrap64 (Int.tdiv (wrap64 ((wrap64 (a3+(wrap64 (eO*aQ))))+(wrap64 (Int.tdiv (wrap64 (jw*aQ)) 4)))) ay)) ≥ aJ)),nI,H',⟨anF⟩,⟨Xz⟩,⟨iq⟩,⟨iq⟩,⟨iq⟩,⟨iq⟩,⟨gM⟩⟩
                      case rest =>
                       as_aux_lemma =>
                        clear anD
                        try clear c1
                        try clear c2
                        try clear p2
                        try clear c3
                        try clear c4
                        try clear c5
                        try clear p5
                        try clear q5
                        try clear hx5
                        try clear c6
                        try clear p6
                        try clear c7
                        try clear c8
                        try clear c14
                        try clear c15
                        try clear c16
                        try clear c17
                        try clear c18
                        try clear c19
                        try clear c20
                        try clear Wv
                        try clear Vj
                        try clear Qb
                        try clear c27
                        try clear c29
                        try clear c30
                        try clear c31
                        try clear c32
                        try clear Vk
                        try clear c34
                        try clear c35
                        try clear c40
                        try clear VH
                        try clear VI
                        try clear c41
                        try clear VJ
                        try clear VK
                        try clear c43
                        try clear c44
                        try clear c45
                        try clear c47
                        try clear c48
                        try clear c50
                        try clear c57
                        try clear J5
                        try clear VL
                        try clear p58
                        try clear q58
                        try clear aDC
                        try clear c59
                        try clear p64
                        try clear c65
                        try clear aeZ
                        try clear c66
                        try clear alG
                        try clear c69
                        try clear alH
                        try clear c70
                        try clear arJ
                        try clear arK
                        try clear c73
                        try clear arM
                        try clear arN
                        try clear c75
                        try clear c76
                        try clear c77
                        try clear c81
                        try clear c82
                        try clear c84
                        try clear QW
                        try clear c85
                        try clear alI
                        try clear c86
                        try clear c87
                        try clear c88
                        try clear si sj su sw yX yY yZ za zb
                        try clear qE qF tC tF tH tJ tK
                        try clear qI qJ tV tX
                        try clear zw zx zy zz FE FH FI FJ FL
                        try clear wP wQ wS wT zF zG zH
                        try clear vC vD wY wZ
                        try clear Nz NA NB NC ND NF NG NH NI
                        try clear Cj Ck Cm Cn ET EU EW
                        try clear Fh Fj Fp Fq
                        try clear E5 E8 E9 Fa JQ JR JS NT NU
                        try clear FR FT FU FV FW FX FY
                        try clear NY NZ N7 N8
                        try clear Zj Zk Zl Zm ajA ajB ajC
                        try clear ZZ Z0 Z4 Z5 ajG ajH ajI ajJ ajK
                        try clear Zr Zt Zu Zv Zw Zx Zy Zz ZA
                        try clear sD sF sG sH ze zf zg zh zi
                        try clear qG qH tL tN tO tQ tT
                        try clear qK qL tY tZ
                        try clear zA zB zC zD FM FN FO FP FQ
                        try clear wU wV wW wX zI zJ zK
                        try clear vE vF xc xe
                        try clear NJ NK NL NM NN NP NQ NR NS
                        try clear Co Cq Cr Cs EX EY EZ
                        try clear Fs Fu Fv Fw
                        try clear Fb Fe Ff Fg JU JV JW NV NW
                        try clear FZ F3 F4 F5 F6 F7 F8
                        try clear N9 Oa Ob Oc
                        try clear Zn Zo Zp Zq ajD ajE ajF
                        try clear Z6 Z7 Z8 Z9 ajL ajM ajN ajO ajP
                        try clear ZB ZC ZE ZF ZG ZH ZI ZJ ZK
                        try clear J6 J7
                        try clear p2
                        try clear p5
                        try clear p58
                        try clear ae0
                        try clear p6
                        try clear p64
                        try clear q5
                        try clear q58
                        try clear ae1
                        obtain ⟨kq,Od,rfl,HA,arO,jW,fA,fC,gm,gT,HB⟩:=hcut
                        cases kq with
                        |zero=>exact absurd HA.out (by simp [af.j4])
                        |succ XA =>
                         have H:=HA.out
                         clear HA
                         simp only [af.j4] at H
                         by_cases c90:Od = true
                         ·subst c90
                          have H1:(some false) = some r:=by rw [if_pos rfl] at H;exact H
                          clear H
                          have H:=H1
                          clear H1
                          have QE:=Option.some.inj H
                          rw [hr_.out] at QE
                          cases QE
                         ·replace c90:=Bool.eq_false_iff.mpr c90
                          subst c90
                          have H1:(if 0≤eO then (if eO < (l4.length:Int) then (if 0≤(wrap64 ((wrap64 ((wrap64 ((wrap64 ((wrap64 ((wrap64 ((wrap64 (Int.tdiv (wrap64 ((wrap64 (a3+(wrap64 (eO*aQ))))+(wrap64 (Int.tdiv (wrap64 (jw*aQ)) 4)))) ay))*aC))+((dx l4 eO).f1)))*aj))*ak))+(wrap64 (DK*aj))))+zW)) then (if (wrap64 ((wrap64 ((wrap64 ((wrap64 ((wrap64 ((wrap64 ((wrap64 (Int.tdiv (wrap64 ((wrap64 (a3+(wrap64 (eO*aQ))))+(wrap64 (Int.tdiv (wrap64 (jw*aQ)) 4)))) ay))*aC))+((dx l4 eO).f1)))*aj))*ak))+(wrap64 (DK*aj))))+zW)) < (av.length:Int) then ((fP.f l6 (wrap64 ((wrap64 (8*eO))+(wrap64 (2*jw))))).bind fun Qn=>((dI.f ((aH av (wrap64 ((wrap64 ((wrap64 ((wrap64 ((wrap64 ((wrap64 ((wrap64 (Int.tdiv (wrap64 ((wrap64 (a3+(wrap64 (eO*aQ))))+(wrap64 (Int.tdiv (wrap64 (jw*aQ)) 4)))) ay))*aC))+((dx l4 eO).f1)))*aj))*ak))+(wrap64 (DK*aj))))+zW))).f0.f0) ((aH av (wrap64 ((wrap64 ((wrap64 ((wrap64 ((wrap64 ((wrap64 ((wrap64 (Int.tdiv (wrap64 ((wrap64 (a3+(wrap64 (eO*aQ))))+(wrap64 (Int.tdiv (wrap64 (jw*aQ)) 4)))) ay))*aC))+((dx l4 eO).f1)))*aj))*ak))+(wrap64 (DK*aj))))+zW))).f0.f1) Qn).bind fun Lx=>((fP.f l6 (wrap64 ((wrap64 ((wrap64 (8*eO))+(wrap64 (2*jw))))+1))).bind fun J3=>((dI.f ((aH av (wrap64 ((wrap64 ((wrap64 ((wrap64 ((wrap64 ((wrap64 ((wrap64 (Int.tdiv (wrap64 ((wrap64 (a3+(wrap64 (eO*aQ))))+(wrap64 (Int.tdiv (wrap64 (jw*aQ)) 4)))) ay))*aC))+((dx l4 eO).f1)))*aj))*ak))+(wrap64 (DK*aj))))+zW))).f1.f0) ((aH av (wrap64 ((wrap64 ((wrap64 ((wrap64 ((wrap64 ((wrap64 ((wrap64 (Int.tdiv (wrap64 ((wrap64 (a3+(wrap64 (eO*aQ))))+(wrap64 (Int.tdiv (wrap64 (jw*aQ)) 4)))) ay))*aC))+((dx l4 eO).f1)))*aj))*ak))+(wrap64 (DK*aj))))+zW))).f1.f1) J3).bind fun Hg=>(af.l1 XA a3 l4 l6 lh (wrap64 (oH+(wrap64 ((wrap64 ((wrap64 (xR*aU))+(wrap64 (1000*Lx))))*aQ)))) (wrap64 (mY+(wrap64 ((wrap64 ((wrap64 (xS*aU))+(wrap64 (1000*Hg))))*aQ)))) eO xR xS (wrap64 (jw+1)) aj ak ax ay aJ aC aG aN av aU aQ aZ bf bE bF bG))))) else (none)) else (none)) else (none)) else (none)) = some r:=by rw [if_neg (show ¬ (false = true) by decide)] at H;exact H
                          clear H
                          have H:=H1
                          clear H1
                          by_cases c91:0≤eO
                          ·rw [if_pos c91] at H
                           have aHs:decide (0≤eO) = true:=decide_eq_true c91
                           clear c91
                           by_cases c92:eO < (l4.length:Int)
                           ·rw [if_pos c92] at H
                            have aHt:decide (eO < (l4.length:Int)) = true:=decide_eq_true c92
                            clear c92
                            obtain ⟨gY,aaG⟩:∃ j_:Int,(wrap64 ((wrap64 ((wrap64 ((wrap64 ((wrap64 ((wrap64 ((wrap64 (Int.tdiv (wrap64 ((wrap64 (a3+(wrap64 (eO*aQ))))+(wrap64 (Int.tdiv (wrap64 (jw*aQ)) 4)))) ay))*aC))+((dx l4 eO).f1)))*aj))*ak))+(wrap64 (DK*aj))))+zW)) = j_:=⟨_,rfl⟩
                            replace H:(if 0≤(gY) then (if (gY) < (av.length:Int) then ((fP.f l6 (wrap64 ((wrap64 (8*eO))+(wrap64 (2*jw))))).bind fun Qn=>((dI.f ((aH av (gY)).f0.f0) ((aH av (gY)).f0.f1) Qn).bind fun Lx=>((fP.f l6 (wrap64 ((wrap64 ((wrap64 (8*eO))+(wrap64 (2*jw))))+1))).bind fun J3=>((dI.f ((aH av (gY)).f1.f0) ((aH av (gY)).f1.f1) J3).bind fun Hg=>(af.l1 XA a3 l4 l6 lh (wrap64 (oH+(wrap64 ((wrap64 ((wrap64 (xR*aU))+(wrap64 (1000*Lx))))*aQ)))) (wrap64 (mY+(wrap64 ((wrap64 ((wrap64 (xS*aU))+(wrap64 (1000*Hg))))*aQ)))) eO xR xS (wrap64 (jw+1)) aj ak ax ay aJ aC aG aN av aU aQ aZ bf bE bF bG))))) else (none)) else (none)) = some r:=by first|(rw [aaG] at H;exact H)|(simp only [aaG] at H ⊢;exact H)
                            have aDG:(IntKind.i64.wrap ((wrap64 ((wrap64 ((wrap64 ((wrap64 ((wrap64 ((wrap64 (Int.tdiv (wrap64 ((wrap64 (a3+(wrap64 (eO*aQ))))+(wrap64 (Int.tdiv (wrap64 (jw*aQ)) 4)))) ay))*aC))+((dx l4 eO).f1)))*aj))*ak))+(wrap64 (DK*aj))))+zW)) = gY:=(fD _).trans aaG
                            by_cases c94:0≤(gY)
                            ·rw [if_pos c94] at H
                             have aHu:decide (0≤(gY)) = true:=decide_eq_true c94
                             clear c94
                             by_cases c95:(gY) < (av.length:Int)
                             ·rw [if_pos c95] at H
                              have aHv:decide ((gY) < (av.length:Int)) = true:=decide_eq_true c95
                              clear c95
                              replace H:=Option.bind_eq_some_iff.mp H
                              obtain ⟨Qn,arP,H⟩:=H
                              replace H:((dI.f ((aH av (gY)).f0.f0) ((aH av (gY)).f0.f1) Qn).bind fun Lx=>((fP.f l6 (wrap64 ((wrap64 ((wrap64 (8*eO))+(wrap64 (2*jw))))+1))).bind fun J3=>((dI.f ((aH av (gY)).f1.f0) ((aH av (gY)).f1.f1) J3).bind fun Hg=>(af.l1 XA a3 l4 l6 lh (wrap64 (oH+(wrap64 ((wrap64 ((wrap64 (xR*aU))+(wrap64 (1000*Lx))))*aQ)))) (wrap64 (mY+(wrap64 ((wrap64 ((wrap64 (xS*aU))+(wrap64 (1000*Hg))))*aQ)))) eO xR xS (wrap64 (jw+1)) aj ak ax ay aJ aC aG aN av aU aQ aZ bf bE bF bG)))) = some r:=H
                              have A96:=ae.mk arP
                              clear arP
                              replace H:=Option.bind_eq_some_iff.mp H
                              obtain ⟨Lx,arQ,H⟩:=H
                              replace H:((fP.f l6 (wrap64 ((wrap64 ((wrap64 (8*eO))+(wrap64 (2*jw))))+1))).bind fun J3=>((dI.f ((aH av (gY)).f1.f0) ((aH av (gY)).f1.f1) J3).bind fun Hg=>(af.l1 XA a3 l4 l6 lh (wrap64 (oH+(wrap64 ((wrap64 ((wrap64 (xR*aU))+(wrap64 (1000*Lx))))*aQ)))) (wrap64 (mY+(wrap64 ((wrap64 ((wrap64 (xS*aU))+(wrap64 (1000*Hg))))*aQ)))) eO xR xS (wrap64 (jw+1)) aj ak ax ay aJ aC aG aN av aU aQ aZ bf bE bF bG))) = some r:=H
                              have A97:=ae.mk arQ
                              clear arQ
                              replace H:=Option.bind_eq_some_iff.mp H
                              obtain ⟨J3,arR,H⟩:=H
                              replace H:((dI.f ((aH av (gY)).f1.f0) ((aH av (gY)).f1.f1) J3).bind fun Hg=>(af.l1 XA a3 l4 l6 lh (wrap64 (oH+(wrap64 ((wrap64 ((wrap64 (xR*aU))+(wrap64 (1000*Lx))))*aQ)))) (wrap64 (mY+(wrap64 ((wrap64 ((wrap64 (xS*aU))+(wrap64 (1000*Hg))))*aQ)))) eO xR xS (wrap64 (jw+1)) aj ak ax ay aJ aC aG aN av aU aQ aZ bf bE bF bG)) = some r:=H
                              have A98:=ae.mk arR
                              clear arR
                              replace H:=Option.bind_eq_some_iff.mp H
                              obtain ⟨Hg,arS,H⟩:=H
                              replace H:(af.l1 XA a3 l4 l6 lh (wrap64 (oH+(wrap64 ((wrap64 ((wrap64 (xR*aU))+(wrap64 (1000*Lx))))*aQ)))) (wrap64 (mY+(wrap64 ((wrap64 ((wrap64 (xS*aU))+(wrap64 (1000*Hg))))*aQ)))) eO xR xS (wrap64 (jw+1)) aj ak ax ay aJ aC aG aN av aU aQ aZ bf bE bF bG) = some r:=H
                              have A99:=ae.mk arS
                              clear arS
                              have H':=ae.mk H
                              clear H
                              try go_wp2
                              replace jW:=ae.mk (Kd.jo jW.out)
                              replace fA:=ae.mk (ah fA.out)
                              replace fC:=ae.mk (ah fC.out)
                              replace gm:=ae.mk (ah gm.out)
                              replace gT:=ae.mk (ah gT.out)
                              replace HB:=ae.mk (bW HB.out)
                              have anG:0≤(eO:Int):=of_decide_eq_true lX
                              have anH:eO < (l4.length:Int):=of_decide_eq_true lX
                              obtain ⟨arT,aDH,J8,J9⟩:=kT HR4.out eO anG anH
                              have Ka:=J9
                              have Kb:=J8
                              obtain rfl:aaF = arT:=(by injection aDH)
                              replace J8:=(HB.out.cell (World.block_lt_of_cell? w _ J8)).trans J8
                              replace J9:=(HB.out.cell (World.block_lt_of_cell? w _ J9)).trans J9
                              replace anG:=eq_true anG
                              replace anH:=eq_true anH
                              have anI:0≤((gY):Int):=of_decide_eq_true lX
                              have anJ:(gY) < (av.length:Int):=of_decide_eq_true lX
                              obtain ⟨Ke,aDI,Kg,Kh,Ki,Kj⟩:=zR fF.out (gY) anI anJ
                              have Kk:=Kj
                              have Kl:=Ki
                              have Km:=Kh
                              have Kn:=Kg
                              cases aDI
                              replace Kg:=(HB.out.cell (World.block_lt_of_cell? w _ Kg)).trans Kg
                              replace Kh:=(HB.out.cell (World.block_lt_of_cell? w _ Kh)).trans Kh
                              replace Ki:=(HB.out.cell (World.block_lt_of_cell? w _ Ki)).trans Ki
                              replace Kj:=(HB.out.cell (World.block_lt_of_cell? w _ Kj)).trans Kj
                              replace anI:=eq_true anI
                              replace anJ:=eq_true anJ
                              refine jI (n:=29) (S:=fun w'=>w'.cell? ⟨lW,0,none⟩ = some (.int .i64 aj)∧w'.cell? ⟨lW,1,none⟩ = some (.int .i64 ak)∧w'.cell? ⟨lW,2,none⟩ = some (.int .i64 ax)∧w'.cell? ⟨lW,3,none⟩ = some (.int .i64 ay)∧w'.cell? ⟨lW,4,none⟩ = some (.int .i64 aJ)∧w'.cell? ⟨lW,5,none⟩ = some (.int .i64 aC)∧w'.cell? ⟨lW,6,none⟩ = some (.int .i64 aG)∧w'.cell? ⟨lW,7,none⟩ = some (.slice dH aN.length dD)∧w'.cell? ⟨lW,8,none⟩ = some (.slice (some Ke) av.length dE)∧w'.cell? (aaF.add ((eO).toNat*2)) = some (.int .i64 ((dx l4 eO).f0))∧w'.cell? ⟨(aaF.add ((eO).toNat*2)).block,(aaF.add ((eO).toNat*2)).off+1,none⟩ = some (.int .i64 ((dx l4 eO).f1))∧w'.cell? (Ke.add (((gY)).toNat*4)) = some (.int .i64 ((aH av (gY)).f0.f0))∧w'.cell? ⟨(Ke.add (((gY)).toNat*4)).block,(Ke.add (((gY)).toNat*4)).off+1,none⟩ = some (.int .i64 ((aH av (gY)).f0.f1))∧w'.cell? ⟨(Ke.add (((gY)).toNat*4)).block,(Ke.add (((gY)).toNat*4)).off+2,none⟩ = some (.int .i64 ((aH av (gY)).f1.f0))∧w'.cell? ⟨(Ke.add (((gY)).toNat*4)).block,(Ke.add (((gY)).toNat*4)).off+3,none⟩ = some (.int .i64 ((aH av (gY)).f1.f1))) (ds:=[]) #[false,false,false,false,false,false,false,false,false,false,false,false,false,false,false,false,false,false,false,false,false,false,false,false,false,false,false,false,false] aR rfl rfl (uq fA.out ⟨((HB.out.cell (World.block_lt_of_cell? w _ Kb)).trans Kb),((HB.out.cell (World.block_lt_of_cell? w _ Ka)).trans Ka),((HB.out.cell (World.block_lt_of_cell? w _ Kn)).trans Kn),((HB.out.cell (World.block_lt_of_cell? w _ Km)).trans Km),((HB.out.cell (World.block_lt_of_cell? w _ Kl)).trans Kl),((HB.out.cell (World.block_lt_of_cell? w _ Kk)).trans Kk)⟩) (fun hHeld=>?_);refine iM af.art af.anw (fun bN jX=>?_)
                              generalize wc.drew = aJF at jW fA fC gm gT HB J8 J9 Kg Kh Ki Kj hHeld ⊢
                              refine dJ (i:=0) (N:=some 162) (aD bN.out aR) ?_
                              refine dJ (i:=2) (N:=some 164) (aD bN.out aR) ?_
                              refine dJ (i:=3) (N:=some 165) (aD bN.out aR) ?_
                              refine dJ (i:=6) (N:=some 168) (aD bN.out aR) ?_
                              refine dJ (i:=7) (N:=some 169) (aD bN.out aR) ?_
                              refine dJ (i:=8) (N:=some 170) (aD bN.out aR) ?_
                              refine dJ (i:=9) (N:=some 171) (aD bN.out aR) ?_
                              refine dJ (i:=12) (N:=some 174) (aD bN.out aR) ?_
                              refine dJ (i:=15) (N:=some 177) (aD bN.out aR) ?_
                              refine dJ (i:=18) (N:=some 180) (aD bN.out aR) ?_
                              refine dJ (i:=19) (N:=some 181) (aD bN.out aR) ?_
                              refine dJ (i:=23) (N:=some 185) (aD bN.out aR) ?_
                              refine ja (i:=1) (N:=some 163) (bq bN.out jX.out aR) hHeld ?_
                              refine ja (i:=4) (N:=some 166) (bq bN.out jX.out aR) hHeld ?_
                              refine dJ (i:=5) (N:=some 167) (aD bN.out aR) ?_
                              refine ja (i:=10) (N:=some 172) (bq bN.out jX.out aR) hHeld ?_
                              refine dJ (i:=11) (N:=some 173) (aD bN.out aR) ?_
                              refine ja (i:=13) (N:=some 175) (bq bN.out jX.out aR) hHeld ?_
                              refine dJ (i:=14) (N:=some 176) (aD bN.out aR) ?_
                              refine ja (i:=16) (N:=some 178) (bq bN.out jX.out aR) hHeld ?_
                              refine dJ (i:=17) (N:=some 179) (aD bN.out aR) ?_
                              refine ja (i:=20) (N:=some 182) (bq bN.out jX.out aR) hHeld ?_
                              refine dJ (i:=21) (N:=some 183) (aD bN.out aR) ?_
                              refine dJ (i:=22) (N:=some 184) (aD bN.out aR) ?_
                              refine dJ (i:=24) (N:=some 186) (aD bN.out aR) ?_
                              refine dJ (i:=25) (N:=some 187) (aD bN.out aR) ?_
                              refine ja (i:=26) (N:=some 188) (bq bN.out jX.out aR) hHeld ?_
                              refine jq (i:=27) (N:=some 31) #[true,true,true,true,true,true,true,true,true,true,true,true,true,true,true,true,true,true,true,true,true,true,true,true,true,true,true,true,false] rfl rfl (fE bN.out aR) (by decide) (fun K hK=>?_)
                              refine o8 ?hg (N:=31) ?hd (cs:=#[.int .i64 0,.int .i64 0,.int .i64 0,.int .i64 0]) (t:=40) ?hr ?_;(case hd=>rfl);(case hg=>rfl);(case hr=>first|(go_simp;done)|(go_simp;rfl))
                              intro dW hg Mw hbox hb
                              have jH:=ae.mk (hbox)
                              have o5:=dn HB hg
                              have aHw:=dn HB hg
                              have eQ:=iE fA hg
                              have F9:=iF fA hg
                              have Ga:=iE fC hg
                              have Gb:=iF fC hg
                              have Gc:=iE gm hg
                              have Gd:=iF gm hg
                              have Gf:=iE gT hg
                              have Gg:=iF gT hg
                              replace jW:=xB jW hb
                              replace fA:=bC fA hb
                              replace fC:=bC fC hb
                              replace gm:=bC gm hb
                              replace gT:=bC gT hb
                              replace HB:=dF HB hb
                              clear hb hbox hg
                              refine hK.out _ _ (uq fA.out ⟨((HB.out.cell (World.block_lt_of_cell? w _ Kb)).trans Kb),((HB.out.cell (World.block_lt_of_cell? w _ Ka)).trans Ka),((HB.out.cell (World.block_lt_of_cell? w _ Kn)).trans Kn),((HB.out.cell (World.block_lt_of_cell? w _ Km)).trans Km),((HB.out.cell (World.block_lt_of_cell? w _ Kl)).trans Kl),((HB.out.cell (World.block_lt_of_cell? w _ Kk)).trans Kk)⟩) (fun hHeld=>?_)
                              clear hK K
                              refine ek arU ?_
                              refine jq (i:=28) (N:=none) #[true,true,true,true,true,true,true,true,true,true,true,true,true,true,true,true,true,true,true,true,true,true,true,true,true,true,true,true,true] rfl rfl (fE bN.out aR) (by decide) (fun K hK=>?_)
                              have aHx:Mw.cell? ⟨dW,0,none⟩ = some (.int .i64 0):=(aa jH.out 0).trans rfl
                              have aDJ:=aX jH.out 0
                              have arV:=eQ.out
                              have arW:=Ga.out
                              have arX:=Gc.out
                              have arY:=Gf.out
                              have arZ:=F9.out
                              have ar0:=Gb.out
                              have ar1:=Gd.out
                              have ar2:=Gg.out
                              have aHy:Mw.cell? ⟨dW,1,none⟩ = some (.int .i64 0):=(aa jH.out 1).trans rfl
                              have aDK:=aX jH.out 1
                              have ar3:=eQ.out
                              have ar4:=Ga.out
                              have ar5:=Gc.out
                              have ar6:=Gf.out
                              have ar7:=F9.out
                              have ar8:=Gb.out
                              have ar9:=Gd.out
                              have asa:=Gg.out
                              have aHz:Mw.cell? ⟨dW,2,none⟩ = some (.int .i64 0):=(aa jH.out 2).trans rfl
                              have aDL:=aX jH.out 2
                              have asb:=eQ.out
                              have asc:=Ga.out
                              have ase:=Gc.out
                              have asf:=Gf.out
                              have asg:=F9.out
                              have ash:=Gb.out
                              have asi:=Gd.out
                              have asj:=Gg.out
                              have aHA:Mw.cell? ⟨dW,3,none⟩ = some (.int .i64 0):=(aa jH.out 3).trans rfl
                              have aDM:=aX jH.out 3
                              have asl:=eQ.out
                              have asn:=Ga.out
                              have aso:=Gc.out
                              have asq:=Gf.out
                              have asr:=F9.out
                              have ass:=Gb.out
                              have ast:=Gd.out
                              have asu:=Gg.out
                              refine yc (w1:=?_) (by rfl) rfl ?_ ?_
                              rotate_left
                              ·go_simp
                               rfl
                              refine hK.out _ _ ⟨((cell_far (p:=⟨dW,_,none⟩) eQ.out _).trans (((cell_far (p:=⟨dW,_,none⟩) eQ.out _).trans (((cell_far (p:=⟨dW,_,none⟩) eQ.out _).trans (((cell_far (p:=⟨dW,_,none⟩) eQ.out _).trans (hHeld.1)))))))),((cell_far (p:=⟨dW,_,none⟩) eQ.out _).trans (((cell_far (p:=⟨dW,_,none⟩) eQ.out _).trans (((cell_far (p:=⟨dW,_,none⟩) eQ.out _).trans (((cell_far (p:=⟨dW,_,none⟩) eQ.out _).trans (hHeld.2.1)))))))),((cell_far (p:=⟨dW,_,none⟩) eQ.out _).trans (((cell_far (p:=⟨dW,_,none⟩) eQ.out _).trans (((cell_far (p:=⟨dW,_,none⟩) eQ.out _).trans (((cell_far (p:=⟨dW,_,none⟩) eQ.out _).trans (hHeld.2.2.1)))))))),((cell_far (p:=⟨dW,_,none⟩) eQ.out _).trans (((cell_far (p:=⟨dW,_,none⟩) eQ.out _).trans (((cell_far (p:=⟨dW,_,none⟩) eQ.out _).trans (((cell_far (p:=⟨dW,_,none⟩) eQ.out _).trans (hHeld.2.2.2.1)))))))),((cell_far (p:=⟨dW,_,none⟩) eQ.out _).trans (((cell_far (p:=⟨dW,_,none⟩) eQ.out _).trans (((cell_far (p:=⟨dW,_,none⟩) eQ.out _).trans (((cell_far (p:=⟨dW,_,none⟩) eQ.out _).trans (hHeld.2.2.2.2.1)))))))),((cell_far (p:=⟨dW,_,none⟩) eQ.out _).trans (((cell_far (p:=⟨dW,_,none⟩) eQ.out _).trans (((cell_far (p:=⟨dW,_,none⟩) eQ.out _).trans (((cell_far (p:=⟨dW,_,none⟩) eQ.out _).trans (hHeld.2.2.2.2.2.1)))))))),((cell_far (p:=⟨dW,_,none⟩) eQ.out _).trans (((cell_far (p:=⟨dW,_,none⟩) eQ.out _).trans (((cell_far (p:=⟨dW,_,none⟩) eQ.out _).trans (((cell_far (p:=⟨dW,_,none⟩) eQ.out _).trans (hHeld.2.2.2.2.2.2.1)))))))),((cell_far (p:=⟨dW,_,none⟩) eQ.out _).trans (((cell_far (p:=⟨dW,_,none⟩) eQ.out _).trans (((cell_far (p:=⟨dW,_,none⟩) eQ.out _).trans (((cell_far (p:=⟨dW,_,none⟩) eQ.out _).trans (hHeld.2.2.2.2.2.2.2.1)))))))),((cell_far (p:=⟨dW,_,none⟩) eQ.out _).trans (((cell_far (p:=⟨dW,_,none⟩) eQ.out _).trans (((cell_far (p:=⟨dW,_,none⟩) eQ.out _).trans (((cell_far (p:=⟨dW,_,none⟩) eQ.out _).trans (hHeld.2.2.2.2.2.2.2.2.1)))))))),((cell_far (p:=⟨dW,_,none⟩) ajQ _).trans (((cell_far (p:=⟨dW,_,none⟩) ajQ _).trans (((cell_far (p:=⟨dW,_,none⟩) ajQ _).trans (((cell_far (p:=⟨dW,_,none⟩) ajQ _).trans (hHeld.2.2.2.2.2.2.2.2.2.1)))))))),((cell_far (p:=⟨dW,_,none⟩) ajR _).trans (((cell_far (p:=⟨dW,_,none⟩) ajR _).trans (((cell_far (p:=⟨dW,_,none⟩) ajR _).trans (((cell_far (p:=⟨dW,_,none⟩) ajR _).trans (hHeld.2.2.2.2.2.2.2.2.2.2.1)))))))),((cell_far (p:=⟨dW,_,none⟩) ajS _).trans (((cell_far (p:=⟨dW,_,none⟩) ajS _).trans (((cell_far (p:=⟨dW,_,none⟩) ajS _).trans (((cell_far (p:=⟨dW,_,none⟩) ajS _).trans (hHeld.2.2.2.2.2.2.2.2.2.2.2.1)))))))),((cell_far (p:=⟨dW,_,none⟩) ajT _).trans (((cell_far (p:=⟨dW,_,none⟩) ajT _).trans (((cell_far (p:=⟨dW,_,none⟩) ajT _).trans (((cell_far (p:=⟨dW,_,none⟩) ajT _).trans (hHeld.2.2.2.2.2.2.2.2.2.2.2.2.1)))))))),((cell_far (p:=⟨dW,_,none⟩) ajU _).trans (((cell_far (p:=⟨dW,_,none⟩) ajU _).trans (((cell_far (p:=⟨dW,_,none⟩) ajU _).trans (((cell_far (p:=⟨dW,_,none⟩) ajU _).trans (hHeld.2.2.2.2.2.2.2.2.2.2.2.2.2.1)))))))),((cell_far (p:=⟨dW,_,none⟩) ajV _).trans (((cell_far (p:=⟨dW,_,none⟩) ajV _).trans (((cell_far (p:=⟨dW,_,none⟩) ajV _).trans (((cell_far (p:=⟨dW,_,none⟩) ajV _).trans (hHeld.2.2.2.2.2.2.2.2.2.2.2.2.2.2))))))))⟩ (fun hHeld=>?_)
                              clear hK K
                              refine lC (kF bN.out aR) ?_
                              try go_wp2
                              have BM:ae (Kd.R PN 31 ((((Mw.setCell ⟨dW,0,none⟩ (.int .i64 ((aH av (gY)).f0.f0))).setCell ⟨dW,1,none⟩ (.int .i64 ((aH av (gY)).f0.f1))).setCell ⟨dW,2,none⟩ (.int .i64 ((aH av (gY)).f1.f0))).setCell ⟨dW,3,none⟩ (.int .i64 ((aH av (gY)).f1.f1))) w.heap.size (fun k_=>k_≠tu) acx lh):=⟨by (with_reducible repeat (first|apply Kd.kK|apply Kd.kv|apply Kd.jo));exact Kd.lv (Kd.eG (p:=⟨dW,3,none⟩) (Kd.eG (p:=⟨dW,2,none⟩) (Kd.eG (p:=⟨dW,1,none⟩) (Kd.eG (p:=⟨dW,0,none⟩) (Kd.oZ jW.out jH.out (by decide)) (fun _ hk=>hk.2) (.int .i64 ((aH av (gY)).f0.f0))) (fun _ hk=>hk.2) (.int .i64 ((aH av (gY)).f0.f1))) (fun _ hk=>hk.2) (.int .i64 ((aH av (gY)).f1.f0))) (fun _ hk=>hk.2) (.int .i64 ((aH av (gY)).f1.f1))) (fun _ hk=>hk.1)⟩
                              have BN:ae (((((Mw.setCell ⟨dW,0,none⟩ (.int .i64 ((aH av (gY)).f0.f0))).setCell ⟨dW,1,none⟩ (.int .i64 ((aH av (gY)).f0.f1))).setCell ⟨dW,2,none⟩ (.int .i64 ((aH av (gY)).f1.f0))).setCell ⟨dW,3,none⟩ (.int .i64 ((aH av (gY)).f1.f1))).heap[lW]? = some (.cells #[.int .i64 aj,.int .i64 ak,.int .i64 ax,.int .i64 ay,.int .i64 aJ,.int .i64 aC,.int .i64 aG,.slice dH aN.length dD,.slice (some Ke) av.length dE] 25 (0,0))):=⟨iq⟩
                              have BO:ae (((((Mw.setCell ⟨dW,0,none⟩ (.int .i64 ((aH av (gY)).f0.f0))).setCell ⟨dW,1,none⟩ (.int .i64 ((aH av (gY)).f0.f1))).setCell ⟨dW,2,none⟩ (.int .i64 ((aH av (gY)).f1.f0))).setCell ⟨dW,3,none⟩ (.int .i64 ((aH av (gY)).f1.f1))).heap[rA]? = some (.cells #[.int .i64 aU,.int .i64 aQ,.int .i64 aZ,.int .i64 bf,.int .i64 bE,.int .i64 bF,.int .i64 bG] 29 (0,0))):=⟨iq⟩
                              have BP:ae (((((Mw.setCell ⟨dW,0,none⟩ (.int .i64 ((aH av (gY)).f0.f0))).setCell ⟨dW,1,none⟩ (.int .i64 ((aH av (gY)).f0.f1))).setCell ⟨dW,2,none⟩ (.int .i64 ((aH av (gY)).f1.f0))).setCell ⟨dW,3,none⟩ (.int .i64 ((aH av (gY)).f1.f1))).heap[tu]? = some (.cells #[.int .i64 bP,.int .i64 bQ,.int .i64 bR,.int .i64 bS] 31 (0,0))):=⟨iq⟩
                              have BQ:ae (((((Mw.setCell ⟨dW,0,none⟩ (.int .i64 ((aH av (gY)).f0.f0))).setCell ⟨dW,1,none⟩ (.int .i64 ((aH av (gY)).f0.f1))).setCell ⟨dW,2,none⟩ (.int .i64 ((aH av (gY)).f1.f0))).setCell ⟨dW,3,none⟩ (.int .i64 ((aH av (gY)).f1.f1))).heap[L9]? = some (.cells #[.int .u16 rH,.int .u16 qV] 56 (0,0))):=⟨iq⟩
                              have GD:ae (((((Mw.setCell ⟨dW,0,none⟩ (.int .i64 ((aH av (gY)).f0.f0))).setCell ⟨dW,1,none⟩ (.int .i64 ((aH av (gY)).f0.f1))).setCell ⟨dW,2,none⟩ (.int .i64 ((aH av (gY)).f1.f0))).setCell ⟨dW,3,none⟩ (.int .i64 ((aH av (gY)).f1.f1))).heap[dW]? = some (.cells #[.int .i64 ((aH av (gY)).f0.f0),.int .i64 ((aH av (gY)).f0.f1),.int .i64 ((aH av (gY)).f1.f0),.int .i64 ((aH av (gY)).f1.f1)] 40 (0,0))):=⟨by (with_reducible repeat (first|refine au ?_ _|refine ah ?_|refine ag ?_ _));refine aI (cs:=#[.int .i64 ((aH av (gY)).f0.f0),.int .i64 ((aH av (gY)).f0.f1),.int .i64 ((aH av (gY)).f1.f0),.int .i64 0]) ?_ 3 _ rfl;(with_reducible repeat (first|refine au ?_ _|refine ah ?_|refine ag ?_ _));refine aI (cs:=#[.int .i64 ((aH av (gY)).f0.f0),.int .i64 ((aH av (gY)).f0.f1),.int .i64 0,.int .i64 0]) ?_ 2 _ rfl;(with_reducible repeat (first|refine au ?_ _|refine ah ?_|refine ag ?_ _));refine aI (cs:=#[.int .i64 ((aH av (gY)).f0.f0),.int .i64 0,.int .i64 0,.int .i64 0]) ?_ 1 _ rfl;(with_reducible repeat (first|refine au ?_ _|refine ah ?_|refine ag ?_ _));refine aI (cs:=#[.int .i64 0,.int .i64 0,.int .i64 0,.int .i64 0]) ?_ 0 _ rfl;(with_reducible repeat (first|refine au ?_ _|refine ah ?_|refine ag ?_ _));exact jH.out⟩
                              have RH:ae (Below w.heap.size w ((((Mw.setCell ⟨dW,0,none⟩ (.int .i64 ((aH av (gY)).f0.f0))).setCell ⟨dW,1,none⟩ (.int .i64 ((aH av (gY)).f0.f1))).setCell ⟨dW,2,none⟩ (.int .i64 ((aH av (gY)).f1.f0))).setCell ⟨dW,3,none⟩ (.int .i64 ((aH av (gY)).f1.f1)))):=⟨gM⟩
                              (try clear jW)
                              (try clear fA)
                              (try clear fC)
                              (try clear gm)
                              (try clear gT)
                              (try clear jH)
                              (try clear HB)
                              generalize ((((Mw.setCell ⟨dW,0,none⟩ (.int .i64 ((aH av (gY)).f0.f0))).setCell ⟨dW,1,none⟩ (.int .i64 ((aH av (gY)).f0.f1))).setCell ⟨dW,2,none⟩ (.int .i64 ((aH av (gY)).f1.f0))).setCell ⟨dW,3,none⟩ (.int .i64 ((aH av (gY)).f1.f1))) = aDN at BM BN BO BP BQ GD RH ⊢
                              have jW:=BM
                              have fA:=BN
                              have fC:=BO
                              have gm:=BP
                              have gT:=BQ
                              have jH:=GD
                              have HB:=RH
                              clear BM BN BO BP BQ GD RH
                              replace jW:=ae.mk (Kd.jo jW.out)
                              replace fA:=ae.mk (ah fA.out)
                              replace fC:=ae.mk (ah fC.out)
                              replace gm:=ae.mk (ah gm.out)
                              replace gT:=ae.mk (ah gT.out)
                              replace jH:=ae.mk (ah jH.out)
                              replace HB:=ae.mk (bW HB.out)
                              refine jI (n:=22) (S:=fun w'=>w'.cell? ⟨rA,0,none⟩ = some (.int .i64 aU)∧w'.cell? ⟨rA,1,none⟩ = some (.int .i64 aQ)∧w'.cell? ⟨rA,2,none⟩ = some (.int .i64 aZ)∧w'.cell? ⟨rA,3,none⟩ = some (.int .i64 bf)∧w'.cell? ⟨rA,4,none⟩ = some (.int .i64 bE)∧w'.cell? ⟨rA,5,none⟩ = some (.int .i64 bF)∧w'.cell? ⟨rA,6,none⟩ = some (.int .i64 bG)∧w'.cell? ⟨dW,0,none⟩ = some (.int .i64 ((aH av (gY)).f0.f0))∧w'.cell? ⟨dW,1,none⟩ = some (.int .i64 ((aH av (gY)).f0.f1))∧w'.cell? ⟨dW,2,none⟩ = some (.int .i64 ((aH av (gY)).f1.f0))∧w'.cell? ⟨dW,3,none⟩ = some (.int .i64 ((aH av (gY)).f1.f1))) (ds:=[]) #[false,false,false,false,false,false,false,false,false,false,false,false,false,false,false,false,false,false,false,false,false,false] aR rfl rfl (acy fC.out ⟨(aa jH.out 0).trans rfl,(aa jH.out 1).trans rfl,(aa jH.out 2).trans rfl,(aa jH.out 3).trans rfl⟩) (fun hHeld=>?_);refine iM af.aru af.anx (fun bN jX=>?_)
                              generalize aDN.drew = aJG at jW fA fC gm gT jH HB hHeld ⊢
                              refine dJ (i:=0) (N:=some 189) (aD bN.out aR) ?_
                              refine dJ (i:=1) (N:=some 190) (aD bN.out aR) ?_
                              refine dJ (i:=2) (N:=some 191) (aD bN.out aR) ?_
                              refine dJ (i:=5) (N:=some 194) (aD bN.out aR) ?_
                              refine dJ (i:=7) (N:=some 196) (aD bN.out aR) ?_
                              refine dJ (i:=8) (N:=some 197) (aD bN.out aR) ?_
                              refine dJ (i:=9) (N:=some 198) (aD bN.out aR) ?_
                              refine dJ (i:=10) (N:=some 199) (aD bN.out aR) ?_
                              refine dJ (i:=11) (N:=some 200) (aD bN.out aR) ?_
                              refine dJ (i:=12) (N:=some 201) (aD bN.out aR) ?_
                              refine dJ (i:=17) (N:=some 206) (aD bN.out aR) ?_
                              refine ja (i:=3) (N:=some 192) (bq bN.out jX.out aR) hHeld ?_
                              refine dJ (i:=4) (N:=some 193) (aD bN.out aR) ?_
                              refine ja (i:=6) (N:=some 195) (bq bN.out jX.out aR) hHeld ?_
                              refine ja (i:=18) (N:=some 207) (bq bN.out jX.out aR) hHeld ?_
                              refine jq (i:=13) (N:=some 202) #[true,true,true,true,true,true,true,true,true,true,true,true,true,true,false,false,false,true,true,false,false,false] rfl rfl (fE bN.out aR) (by decide) (fun K hK=>?_)
                              refine gV Try.func35 aR rfl #[.slice A6 l6.length c6,.int .i64 (wrap64 ((wrap64 (8*eO))+(wrap64 (2*jw))))] (by rfl) rfl rfl jJ ?_
                              with_reducible refine (fP.calls _ _ l6 (wrap64 ((wrap64 (8*eO))+(wrap64 (2*jw)))) Qn _ ?dz ?dA A96.out).mono ?_
                              (case dz=>repeat (first|exact (Kd.bn HR6.out HB.out)|(with_reducible refine Kd.bA ?_ _)|(with_reducible refine Kd.bB ?_ _)|(with_reducible refine Kd.bK ?_)))
                              (case dA=>exact HC6.out)
                              rintro e w' ⟨rfl,⟨nd,rfl⟩⟩
                              refine ⟨_,rfl,?_⟩
                              refine hK.out _ _ (acy fC.out ⟨(aa jH.out 0).trans rfl,(aa jH.out 1).trans rfl,(aa jH.out 2).trans rfl,(aa jH.out 3).trans rfl⟩) (fun hHeld=>?_)
                              clear hK K
                              refine ek (by show Act.put _ (some 202) _ = _;simp only [Act.put,List.setIfInBounds_toArray,List.set_cons_zero,List.set_cons_succ,fD,fJ];rfl) ?_
                              refine jq (i:=14) (N:=some 203) #[true,true,true,true,true,true,true,true,true,true,true,true,true,true,true,false,false,true,true,false,false,false] rfl rfl (fE bN.out aR) (by decide) (fun K hK=>?_)
                              refine gV Try.func33 aR rfl #[.agg #[.int .i64 ((aH av (gY)).f0.f0),.int .i64 ((aH av (gY)).f0.f1)],.int .u16 Qn] (by rfl) rfl rfl asv ?_
                              with_reducible refine (dI.calls ((aH av (gY)).f0.f0) ((aH av (gY)).f0.f1) Qn Lx _ A97.out).mono ?_
                              rintro e aDO ⟨rfl,hb⟩
                              refine ⟨_,rfl,?_⟩
                              replace jW:=xB jW hb
                              replace fA:=bC fA hb
                              replace fC:=bC fC hb
                              replace gm:=bC gm hb
                              replace gT:=bC gT hb
                              replace jH:=bC jH hb
                              replace HB:=dF HB hb
                              (try clear hb)
                              (try clear hb2)
                              (try clear hk)
                              (try clear hi)
                              refine hK.out _ _ (acy fC.out ⟨(aa jH.out 0).trans rfl,(aa jH.out 1).trans rfl,(aa jH.out 2).trans rfl,(aa jH.out 3).trans rfl⟩) (fun hHeld=>?_)
                              clear hK K
                              refine ek (by show Act.put _ (some 203) _ = _;simp only [Act.put,List.setIfInBounds_toArray,List.set_cons_zero,List.set_cons_succ,fD,fJ];rfl) ?_
                              refine dJ (i:=15) (N:=some 204) (aD bN.out aR) ?_
                              refine dJ (i:=16) (N:=some 205) (aD bN.out aR) ?_
                              refine dJ (i:=19) (N:=some 208) (aD bN.out aR) ?_
                              refine dJ (i:=20) (N:=some 209) (aD bN.out aR) ?_
                              refine dJ (i:=21) (N:=some 21) (aD bN.out aR) ?_
                              refine lC (kF bN.out aR) ?_
                              try go_wp2
                              replace jW:=ae.mk (Kd.jo jW.out)
                              replace fA:=ae.mk (ah fA.out)
                              replace fC:=ae.mk (ah fC.out)
                              replace gm:=ae.mk (ah gm.out)
                              replace gT:=ae.mk (ah gT.out)
                              replace jH:=ae.mk (ah jH.out)
                              replace HB:=ae.mk (bW HB.out)
                              refine jI (n:=23) (S:=fun w'=>w'.cell? ⟨rA,0,none⟩ = some (.int .i64 aU)∧w'.cell? ⟨rA,1,none⟩ = some (.int .i64 aQ)∧w'.cell? ⟨rA,2,none⟩ = some (.int .i64 aZ)∧w'.cell? ⟨rA,3,none⟩ = some (.int .i64 bf)∧w'.cell? ⟨rA,4,none⟩ = some (.int .i64 bE)∧w'.cell? ⟨rA,5,none⟩ = some (.int .i64 bF)∧w'.cell? ⟨rA,6,none⟩ = some (.int .i64 bG)∧w'.cell? ⟨dW,0,none⟩ = some (.int .i64 ((aH av (gY)).f0.f0))∧w'.cell? ⟨dW,1,none⟩ = some (.int .i64 ((aH av (gY)).f0.f1))∧w'.cell? ⟨dW,2,none⟩ = some (.int .i64 ((aH av (gY)).f1.f0))∧w'.cell? ⟨dW,3,none⟩ = some (.int .i64 ((aH av (gY)).f1.f1))) (ds:=[]) #[false,false,false,false,false,false,false,false,false,false,false,false,false,false,false,false,false,false,false,false,false,false,false] aR rfl rfl (acy fC.out ⟨(aa jH.out 0).trans rfl,(aa jH.out 1).trans rfl,(aa jH.out 2).trans rfl,(aa jH.out 3).trans rfl⟩) (fun hHeld=>?_);refine iM af.arv af.anz (fun bN jX=>?_)
                              generalize aDO.drew = aJH at jW fA fC gm gT jH HB hHeld ⊢
                              refine dJ (i:=0) (N:=some 210) (aD bN.out aR) ?_
                              refine dJ (i:=1) (N:=some 211) (aD bN.out aR) ?_
                              refine dJ (i:=2) (N:=some 212) (aD bN.out aR) ?_
                              refine dJ (i:=5) (N:=some 215) (aD bN.out aR) ?_
                              refine dJ (i:=7) (N:=some 217) (aD bN.out aR) ?_
                              refine dJ (i:=8) (N:=some 218) (aD bN.out aR) ?_
                              refine dJ (i:=9) (N:=some 219) (aD bN.out aR) ?_
                              refine dJ (i:=10) (N:=some 220) (aD bN.out aR) ?_
                              refine dJ (i:=11) (N:=some 221) (aD bN.out aR) ?_
                              refine dJ (i:=12) (N:=some 222) (aD bN.out aR) ?_
                              refine dJ (i:=13) (N:=some 223) (aD bN.out aR) ?_
                              refine dJ (i:=18) (N:=some 228) (aD bN.out aR) ?_
                              refine ja (i:=3) (N:=some 213) (bq bN.out jX.out aR) hHeld ?_
                              refine dJ (i:=4) (N:=some 214) (aD bN.out aR) ?_
                              refine ja (i:=6) (N:=some 216) (bq bN.out jX.out aR) hHeld ?_
                              refine ja (i:=19) (N:=some 229) (bq bN.out jX.out aR) hHeld ?_
                              refine jq (i:=14) (N:=some 224) #[true,true,true,true,true,true,true,true,true,true,true,true,true,true,true,false,false,false,true,true,false,false,false] rfl rfl (fE bN.out aR) (by decide) (fun K hK=>?_)
                              refine gV Try.func35 aR rfl #[.slice A6 l6.length c6,.int .i64 (wrap64 ((wrap64 ((wrap64 (8*eO))+(wrap64 (2*jw))))+1))] (by rfl) rfl rfl jJ ?_
                              with_reducible refine (fP.calls _ _ l6 (wrap64 ((wrap64 ((wrap64 (8*eO))+(wrap64 (2*jw))))+1)) J3 _ ?dz ?dA A98.out).mono ?_
                              (case dz=>repeat (first|exact (Kd.bn HR6.out HB.out)|(with_reducible refine Kd.bA ?_ _)|(with_reducible refine Kd.bB ?_ _)|(with_reducible refine Kd.bK ?_)))
                              (case dA=>exact HC6.out)
                              rintro e w' ⟨rfl,⟨nd,rfl⟩⟩
                              refine ⟨_,rfl,?_⟩
                              refine hK.out _ _ (acy fC.out ⟨(aa jH.out 0).trans rfl,(aa jH.out 1).trans rfl,(aa jH.out 2).trans rfl,(aa jH.out 3).trans rfl⟩) (fun hHeld=>?_)
                              clear hK K
                              refine ek (by show Act.put _ (some 224) _ = _;simp only [Act.put,List.setIfInBounds_toArray,List.set_cons_zero,List.set_cons_succ,fD,fJ];rfl) ?_
                              refine jq (i:=15) (N:=some 225) #[true,true,true,true,true,true,true,true,true,true,true,true,true,true,true,true,false,false,true,true,false,false,false] rfl rfl (fE bN.out aR) (by decide) (fun K hK=>?_)
                              refine gV Try.func33 aR rfl #[.agg #[.int .i64 ((aH av (gY)).f1.f0),.int .i64 ((aH av (gY)).f1.f1)],.int .u16 J3] (by rfl) rfl rfl asv ?_
                              with_reducible refine (dI.calls ((aH av (gY)).f1.f0) ((aH av (gY)).f1.f1) J3 Hg _ A99.out).mono ?_
                              rintro e aJI ⟨rfl,hb⟩
                              refine ⟨_,rfl,?_⟩
                              replace jW:=xB jW hb
                              replace fA:=bC fA hb
                              replace fC:=bC fC hb
                              replace gm:=bC gm hb
                              replace gT:=bC gT hb
                              replace jH:=bC jH hb
                              replace HB:=dF HB hb
                              (try clear hb)
                              (try clear hb2)
                              (try clear hk)
                              (try clear hi)
                              refine hK.out _ _ (acy fC.out ⟨(aa jH.out 0).trans rfl,(aa jH.out 1).trans rfl,(aa jH.out 2).trans rfl,(aa jH.out 3).trans rfl⟩) (fun hHeld=>?_)
                              clear hK K
                              refine ek (by show Act.put _ (some 225) _ = _;simp only [Act.put,List.setIfInBounds_toArray,List.set_cons_zero,List.set_cons_succ,fD,fJ];rfl) ?_
                              refine dJ (i:=16) (N:=some 226) (aD bN.out aR) ?_
                              refine dJ (i:=17) (N:=some 227) (aD bN.out aR) ?_
                              refine dJ (i:=20) (N:=some 230) (aD bN.out aR) ?_
                              refine dJ (i:=21) (N:=some 231) (aD bN.out aR) ?_
                              refine dJ (i:=22) (N:=some 22) (aD bN.out aR) ?_
                              refine lC (kF bN.out aR) ?_
                              try go_wp2
                              go_roundg XA
                              case measure=>have:=HJ7.out;have:=aeX.out;have:=YU.out;have:=HK4.out;have:=arO.out;omega
                              case rel=>exact ⟨(wrap64 (oH+(wrap64 ((wrap64 ((wrap64 (xR*aU))+(wrap64 (1000*Lx))))*aQ)))),(wrap64 (mY+(wrap64 ((wrap64 ((wrap64 (xS*aU))+(wrap64 (1000*Hg))))*aQ)))),(wrap64 (jw+1)),nI,nI,nI,H',⟨by have:=HJ7.out;have:=aeX.out;have:=YU.out;have:=HK4.out;have:=arO.out;omega⟩,⟨Xz⟩,⟨iq⟩,⟨iq⟩,⟨iq⟩,⟨iq⟩,⟨gM⟩⟩
                             ·rw [if_neg c95] at H
                              exact absurd H (by simp)
                            ·rw [if_neg c94] at H
                             exact absurd H (by simp)
                           ·rw [if_neg c92] at H
                            exact absurd H (by simp)
                          ·rw [if_neg c91] at H
                           exact absurd H (by simp)
                   ·rw [if_neg c69] at H
                    have alH:decide (jw < 4) = false:=decide_eq_false c69
                    clear c69
                    by_cases ajW:0≤eO
                    ·rw [if_pos ajW] at H
                     have aDP:decide (0≤eO) = true:=decide_eq_true ajW
                     clear ajW
                     by_cases ajX:eO < (lh.length:Int)
                     ·rw [if_pos ajX] at H
                      have aDQ:decide (eO < (lh.length:Int)) = true:=decide_eq_true ajX
                      clear ajX
                      replace H:=Option.bind_eq_some_iff.mp H
                      obtain ⟨ajy,alJ,H⟩:=H
                      replace H:(if ajy = true then (af.l0 k4 a3 l4 l6 lh oH mY (wrap64 (eO+1)) aj ak ax ay aJ aC aG aN av aU aQ aZ bf bE bF bG) else (some false)) = some r:=H
                      have aDR:=ae.mk alJ
                      clear alJ
                      by_cases ajY:ajy = true
                      ·subst ajY
                       have H1:(af.l0 k4 a3 l4 l6 lh oH mY (wrap64 (eO+1)) aj ak ax ay aJ aC aG aN av aU aQ aZ bf bE bF bG) = some r:=by rw [if_pos rfl] at H;exact H
                       clear H
                       have H:=H1
                       clear H1
                       have H':=ae.mk H
                       clear H
                       obtain ⟨aHB,aHC,asw⟩:=Kd.ma jW.out
                       subst asw
                       have anK:0≤(eO:Int):=of_decide_eq_true lX
                       have anL:eO < (lh.length:Int):=of_decide_eq_true lX
                       obtain ⟨aHD,aDS,azR,azS,azT,azU⟩:=anM (Kd.iL jW.out).2.2 eO anK anL
                       cases aDS
                       replace anK:=eq_true anK
                       replace anL:=eq_true anL
                       go_wp2_with (first|((with_reducible refine aW (f:=36) rfl ?_);refine dM (some 238) rfl rfl Try.func36 aR rfl #[.agg #[.int .i64 ((oU lh eO).f0.f0),.int .i64 ((oU lh eO).f0.f1),.int .i64 ((oU lh eO).f1.f0),.int .i64 ((oU lh eO).f1.f1)],.int .i64 oH,.int .i64 mY] rfl jJ ?_;(with_reducible refine (isobathlaw03_holds.calls ((oU lh eO).f0.f0) ((oU lh eO).f0.f1) ((oU lh eO).f1.f0) ((oU lh eO).f1.f1) oH mY true _ aDR.out).mono ?_);rintro e aJJ ⟨rfl,hb⟩;refine ⟨_,rfl,?_⟩;replace jW:=xB jW hb;replace fA:=bC fA hb;replace fC:=bC fC hb;replace gm:=bC gm hb;replace gT:=bC gT hb;replace HB:=dF HB hb;(try clear hb);(try clear hb2);(try clear hk);(try clear hi)))
                       go_roundg k4
                       case measure=>have:=HJ7.out;have:=aeX.out;have:=YU.out;have:=HK4.out;omega
                       case rel=>exact ⟨(oH),(mY),(wrap64 (eO+1)),nI,nI,nI,H',⟨by have:=HJ7.out;have:=aeX.out;have:=YU.out;have:=HK4.out;omega⟩,⟨Xz⟩,⟨iq⟩,⟨iq⟩,⟨iq⟩,⟨iq⟩,⟨gM⟩⟩
                      ·replace ajY:=Bool.eq_false_iff.mpr ajY
                       subst ajY
                       have H1:(some false) = some r:=by rw [if_neg (show ¬ (false = true) by decide)] at H;exact H
                       clear H
                       have H:=H1
                       clear H1
                       have QE:=Option.some.inj H
                       rw [hr_.out] at QE
                       cases QE
                     ·rw [if_neg ajX] at H
                      exact absurd H (by simp)
                    ·rw [if_neg ajW] at H
                     exact absurd H (by simp)
               ·rw [if_neg c66] at H
                exact absurd H (by simp)
              ·rw [if_neg c65] at H
               have aeZ:decide (eO < (l4.length:Int)) = false:=decide_eq_false c65
               clear c65
               replace H:=Option.bind_eq_some_iff.mp H
               obtain ⟨ajx,alK,H⟩:=H
               replace H:(some ajx) = some r:=H
               have aDT:=ae.mk alK
               clear alK
               obtain rfl:=Option.some.inj H
               go_wp2_with (first|((with_reducible refine aW (f:=19) rfl ?_);refine dM (some 240) rfl rfl Try.func19 aR rfl #[] rfl jJ ?_;(with_reducible refine (bD.calls k3 ajx _ aDT.out).mono ?_);rintro e aJK ⟨rfl,hb⟩;refine ⟨_,rfl,?_⟩;replace jW:=xB jW hb;replace fA:=bC fA hb;replace fC:=bC fC hb;replace gm:=bC gm hb;replace gT:=bC gT hb;replace HB:=dF HB hb;(try clear hb);(try clear hb2);(try clear hk);(try clear hi)))
               go_ret
               exact ⟨lJ,gM⟩
      ·rw [if_neg c41] at H
       have VJ:(Gy == 0) = false:=beq_eq_false_iff_ne.mpr c41
       have VK:(Gy != 0) = true:=bne_iff_ne.mpr c41
       by_cases VO:(lh.length:Int) = 0
       ·rw [if_pos VO] at H
        have anN:((lh.length:Int) == 0) = true:=beq_iff_eq.mpr VO
        have anO:((lh.length:Int) != 0) = false:=bne_eq_false_iff_eq.mpr VO
        clear VO
        replace H:=Option.bind_eq_some_iff.mp H
        obtain ⟨Qm,alL,H⟩:=H
        replace H:(some Qm) = some r:=H
        have aDU:=ae.mk alL
        clear alL
        obtain rfl:=Option.some.inj H
        have aDV:=xm.out
        have aDW:=xn.out
        have aDX:=xq.out
        have aDY:=xu.out
        have aDZ:=xw.out
        have aD0:=xx.out
        obtain ⟨asx,asy,asz,asA,asB,asC,asD,asE,asF,asG,asH,asI,asJ,asK,asL,asM,asN,asO⟩:=iI fA.out
        have aD1:=AZ.out
        have aD2:=Ba.out
        have aD3:=Bb.out
        have aD4:=Bc.out
        obtain ⟨asP,asQ,asR,asS,asT,asU,asV,asW,asX,asY,asZ,as0,as1,as2⟩:=ko fC.out
        have aD5:=FC.out
        have aD6:=FD.out
        obtain ⟨as3,as4,as5,as6,as7,as8,as9,ata⟩:=iC gm.out
        go_wp2_with (first|((with_reducible refine aW (f:=30) rfl ?_);refine dM (some 50) rfl rfl Try.func30 aR rfl #[.agg #[.int .i64 aj,.int .i64 ak,.int .i64 ax,.int .i64 ay,.int .i64 aJ,.int .i64 aC,.int .i64 aG,.slice dH aN.length dD,.slice dG av.length dE],.agg #[.int .i64 aU,.int .i64 aQ,.int .i64 aZ,.int .i64 bf,.int .i64 bE,.int .i64 bF,.int .i64 bG],.agg #[.int .i64 bP,.int .i64 bQ,.int .i64 bR,.int .i64 bS],.int .i64 a3,.slice A4 l4.length c4] rfl jJ ?_;(with_reducible refine (qU.calls aj ak ax ay aJ aC aG _ _ aN _ _ av aU aQ aZ bf bE bF bG bP bQ bR bS a3 _ _ l4 lh Mv Gy _ ?dz ?dA ?dR ?dS ?JZ ?J2 A38.out).mono ?_);(case dz=>repeat (first|exact (Kd.bn gq.out HB.out)|(with_reducible refine Kd.bA ?_ _)|(with_reducible refine Kd.bB ?_ _)|(with_reducible refine Kd.bK ?_)));(case dA=>exact gG.out);(case dR=>repeat (first|exact (Kd.bn fF.out HB.out)|(with_reducible refine Kd.bA ?_ _)|(with_reducible refine Kd.bB ?_ _)|(with_reducible refine Kd.bK ?_)));(case dS=>exact gH.out);(case JZ=>repeat (first|exact (Kd.bn HR4.out HB.out)|(with_reducible refine Kd.bA ?_ _)|(with_reducible refine Kd.bB ?_ _)|(with_reducible refine Kd.bK ?_)));(case J2=>exact HC4.out);rintro e aJL ⟨acx,rfl,ho0,hb⟩;refine ⟨_,rfl,?_⟩;have J4:=ae.mk (Kd.lH (Kd.KM ho0 (g:=tu) (o:=.cells #[.int .i64 bP,.int .i64 bQ,.int .i64 bR,.int .i64 bS] 31 (0,0)) iq) (iG gM));replace fA:=bC fA hb;replace fC:=bC fC hb;replace gm:=bC gm hb;replace gT:=bC gT hb;replace HB:=dF HB hb;(try clear hb);(try clear hb2);(try clear hk);(try clear hi);(try clear ho0);obtain ⟨atb,atc,atd,ate,atf,atg,ath,ati,atj,atl,atm,atn,ato,atp,atq,atr,att,atu⟩:=iI fA.out;obtain ⟨atv,atw,atx,aty,atz,atA,atB,atC,atD,atE,atF,atG,atH,atJ⟩:=ko fC.out;obtain ⟨atK,atL,atM,atN,atO,atP,atQ,atS⟩:=iC gm.out)|((with_reducible refine aW (f:=31) rfl ?_);refine dM (some 60) rfl rfl Try.func31 aR rfl #[.agg #[.int .i64 aj,.int .i64 ak,.int .i64 ax,.int .i64 ay,.int .i64 aJ,.int .i64 aC,.int .i64 aG,.slice dH aN.length dD,.slice dG av.length dE],.agg #[.int .i64 aU,.int .i64 aQ,.int .i64 aZ,.int .i64 bf,.int .i64 bE,.int .i64 bF,.int .i64 bG],.agg #[.int .i64 bP,.int .i64 bQ,.int .i64 bR,.int .i64 bS],.int .i64 a3,.slice A4 l4.length c4] rfl jJ ?_;(with_reducible refine (jL.calls VF aj ak ax ay aJ aC aG _ _ aN _ _ av aU aQ aZ bf bE bF bG bP bQ bR bS a3 _ _ l4 arA arB VG _ ?dz ?dA ?dR ?dS ?JZ ?J2 A39.out).mono ?_);(case dz=>repeat (first|exact (Kd.bn gq.out HB.out)|(with_reducible refine Kd.bA ?_ _)|(with_reducible refine Kd.bB ?_ _)|(with_reducible refine Kd.bK ?_)));(case dA=>exact gG.out);(case dR=>repeat (first|exact (Kd.bn fF.out HB.out)|(with_reducible refine Kd.bA ?_ _)|(with_reducible refine Kd.bB ?_ _)|(with_reducible refine Kd.bK ?_)));(case dS=>exact gH.out);(case JZ=>repeat (first|exact (Kd.bn HR4.out HB.out)|(with_reducible refine Kd.bA ?_ _)|(with_reducible refine Kd.bB ?_ _)|(with_reducible refine Kd.bK ?_)));(case J2=>exact HC4.out);rintro e aJM ⟨aDt,rfl,ho0,hb⟩;refine ⟨_,rfl,?_⟩;have aeV:=ae.mk (Kd.lH (Kd.KM (Kd.OH ho0 (Kd.abg ajz)) (g:=tu) (o:=.cells #[.int .i64 bP,.int .i64 bQ,.int .i64 bR,.int .i64 bS] 31 (0,0)) iq) (iG gM));replace J4:=ae.mk (Kd.Di ajz (Kd.OG ho0) hb);replace fA:=bC fA hb;replace fC:=bC fC hb;replace gm:=bC gm hb;replace gT:=bC gT hb;replace HB:=dF HB hb;(try clear hb);(try clear hb2);(try clear hk);(try clear hi);(try clear ho0);obtain ⟨aHE,aHF,atT⟩:=Kd.ma J4.out;subst atT)|(go_at_call 19;(with_reducible refine (bD.calls VF Qm _ aDU.out).mono ?_);rintro e aJN ⟨rfl,hb⟩;replace J4:=xB J4 hb;replace aeV:=xB aeV hb;replace fA:=bC fA hb;replace fC:=bC fC hb;replace gm:=bC gm hb;replace gT:=bC gT hb;replace HB:=dF HB hb;(try clear hb);(try clear hb2);(try clear hk);(try clear hi)))
        go_ret
        exact ⟨lJ,gM⟩
       ·rw [if_neg VO] at H
        have anN:((lh.length:Int) == 0) = false:=beq_eq_false_iff_ne.mpr VO
        have anO:((lh.length:Int) != 0) = true:=bne_iff_ne.mpr VO
        have aD7:¬ (lh = []):=fun h_=>VO (by rw [h_];rfl)
        have QE:=Option.some.inj H
        rw [hr_.out] at QE
        cases QE
     ·rw [if_neg c40] at H
      have VH:(Gy == VG) = false:=beq_eq_false_iff_ne.mpr c40
      have VI:(Gy != VG) = true:=bne_iff_ne.mpr c40
      have QE:=Option.some.inj H
      rw [hr_.out] at QE
      cases QE
end Go.Proofs.Ytmhaiihjfgfaoaa.Pr
end
