import Derived.Test.YtmhaiihjfgfaoaaGaa1
import Derived.Test.YtmhaiihjfgfaoaaGaGliderSeas1
section
namespace Go.Proofs.Ytmhaiihjfgfaoaa.Pr
open Go.RowKit Go.Proofs.YtmhaiihjfgfaoaaW.PrintWords Go.Proofs.YtmhaiihjfgfaoaaW.PrintLast Go.Proofs.YtmhaiihjfgfaoaaW.PrintMore
attribute [local go_sem] fo fq gu gz fu
set_option linter.unusedVariables false
set_option linter.unusedSimpArgs false
mutual
def bF.l0:Nat→Int→Int→Int→Bool→Int→Int→Int→Int→Int→Int→Int→Int→List Bool→List (mQ)→Int→Int→Int→Int→Int→Int→Int→Int→Option (Int × Int × Int × Int)
 |0,_,_,_,_,_,_,_,_,_,_,_,_,_,_,_,_,_,_,_,_,_,_=>none
 |k+1,x2,x3,x4,OX,Lb,lH,lI,tH,qU,rP,lS,tJ,tK,mq,tL,tN,tO,tQ,vg,vk,vo,vv=>if Lb < rP then (if (wrap64 (Lb*qU)) ≥ x4 then (bF.j1 k x2 x3 x4 OX Lb true lH lI tH qU rP lS tJ tK mq tL tN tO tQ vg vk vo vv) else (bF.j1 k x2 x3 x4 OX Lb (decide ((wrap64 ((wrap64 (Lb+1))*qU))≤x3)) lH lI tH qU rP lS tJ tK mq tL tN tO tQ vg vk vo vv)) else (some (vg,vk,vo,vv))
def bF.j1:Nat→Int→Int→Int→Bool→Int→Bool→Int→Int→Int→Int→Int→Int→Int→List Bool→List (mQ)→Int→Int→Int→Int→Int→Int→Int→Int→Option (Int × Int × Int × Int)
 |0,_,_,_,_,_,_,_,_,_,_,_,_,_,_,_,_,_,_,_,_,_,_,_=>none
 |k+1,x2,x3,x4,OX,Lb,x36,lH,lI,tH,qU,rP,lS,tJ,tK,mq,tL,tN,tO,tQ,vg,vk,vo,vv=>if x36 = true then (bF.l0 k x2 x3 x4 OX (wrap64 (Lb+1)) lH lI tH qU rP lS tJ tK mq tL tN tO tQ vg vk vo vv) else (bF.l1 k x2 x3 x4 OX Lb 0 lH lI tH qU rP lS tJ tK mq tL tN tO tQ vg vk vo vv)
def bF.l1:Nat→Int→Int→Int→Bool→Int→Int→Int→Int→Int→Int→Int→Int→Int→List Bool→List (mQ)→Int→Int→Int→Int→Int→Int→Int→Int→Option (Int × Int × Int × Int)
 |0,_,_,_,_,_,_,_,_,_,_,_,_,_,_,_,_,_,_,_,_,_,_,_=>none
 |k+1,x2,x3,x4,OX,Lb,Sg,lH,lI,tH,qU,rP,lS,tJ,tK,mq,tL,tN,tO,tQ,vg,vk,vo,vv=>if Sg < (wrap64 (lH*lI)) then ((jX.f lH lI tH qU rP lS tJ tK mq Sg).bind fun VC=>((iM.f tL tN tO tQ VC.1 VC.2.1 VC.2.2.1 VC.2.2.2).bind fun Yr=>(if Yr = true then (if 0≤(wrap64 ((wrap64 ((wrap64 ((wrap64 ((wrap64 (Lb*lS))+x2))*lH))*lI))+Sg)) then (if (wrap64 ((wrap64 ((wrap64 ((wrap64 ((wrap64 (Lb*lS))+x2))*lH))*lI))+Sg)) < (mq.length:Int) then (if OX = true then ((fJ.f vg vk ((bn mq (wrap64 ((wrap64 ((wrap64 ((wrap64 ((wrap64 (Lb*lS))+x2))*lH))*lI))+Sg))).f0.f0) ((bn mq (wrap64 ((wrap64 ((wrap64 ((wrap64 ((wrap64 (Lb*lS))+x2))*lH))*lI))+Sg))).f0.f1)).bind fun vB=>((fJ.f vo vv ((bn mq (wrap64 ((wrap64 ((wrap64 ((wrap64 ((wrap64 (Lb*lS))+x2))*lH))*lI))+Sg))).f1.f0) ((bn mq (wrap64 ((wrap64 ((wrap64 ((wrap64 ((wrap64 (Lb*lS))+x2))*lH))*lI))+Sg))).f1.f1)).bind fun rU=>(bF.l1 k x2 x3 x4 true Lb (wrap64 (Sg+1)) lH lI tH qU rP lS tJ tK mq tL tN tO tQ vB.1 vB.2 rU.1 rU.2))) else (bF.l1 k x2 x3 x4 true Lb (wrap64 (Sg+1)) lH lI tH qU rP lS tJ tK mq tL tN tO tQ ((bn mq (wrap64 ((wrap64 ((wrap64 ((wrap64 ((wrap64 (Lb*lS))+x2))*lH))*lI))+Sg))).f0.f0) ((bn mq (wrap64 ((wrap64 ((wrap64 ((wrap64 ((wrap64 (Lb*lS))+x2))*lH))*lI))+Sg))).f0.f1) ((bn mq (wrap64 ((wrap64 ((wrap64 ((wrap64 ((wrap64 (Lb*lS))+x2))*lH))*lI))+Sg))).f1.f0) ((bn mq (wrap64 ((wrap64 ((wrap64 ((wrap64 ((wrap64 (Lb*lS))+x2))*lH))*lI))+Sg))).f1.f1))) else (none)) else (none)) else (bF.l1 k x2 x3 x4 OX Lb (wrap64 (Sg+1)) lH lI tH qU rP lS tJ tK mq tL tN tO tQ vg vk vo vv)))) else (bF.l0 k x2 x3 x4 OX (wrap64 (Lb+1)) lH lI tH qU rP lS tJ tK mq tL tN tO tQ vg vk vo vv)
end
def bF.f (k:Nat) (aC:Int) (aD:Int) (aG:Int) (aH:Int) (aN:Int) (aK:Int) (aJ:Int) (aX:List Bool) (aM:List (mQ)) (bz:Int) (bA:Int) (bI:Int) (bJ:Int) (a2:Int) (a3:Int) (a4:Int):Option (Int × Int × Int × Int):=bF.l0 k a2 a3 a4 false 0 aC aD aG aH aN aK aJ aX aM bz bA bI bJ 0 0 0 0
def bF.T13:Bool × List (List Nat × List Nat):=(true,[([],[]),([0],[0]),([],[]),([2],[2]),([1,3],[1,3]),([],[]),([5],[5]),([],[]),([7],[7]),([6,8,4],[6,8]),([4,9],[4,9]),([10,9,0,1,2,3,4,5,6,7,8,9,10],[10])])
def bF.B13:List Nat:=[0,1,0,4,15,0,32,0,128,511,1023,2047]
theorem bF.anV:vC .any (opsOf Try.f73 13) = bF.T13:=by kernel_rfl
theorem bF.ahj:wu bF.T13.2 bF.B13 = true:=by kernel_rfl
set_option maxHeartbeats 8000000 in
set_option maxRecDepth 100000 in
theorem bF.calls (k:Nat) (aC:Int) (aD:Int) (aG:Int) (aH:Int) (aN:Int) (aK:Int) (aJ:Int) (bG:Option Addr) (bH:Nat) (aX:List Bool) (bO:Option Addr) (bM:Nat) (aM:List (mQ)) (bz:Int) (bA:Int) (bI:Int) (bJ:Int) (a2:Int) (a3:Int) (a4:Int) (r1:Int) (r2:Int) (r3:Int) (r4:Int) (w:World) (lV:Kd.C Kd.bool w bG aX.length aX) (lW:aX.length≤bH) (lX:Kd.C xK w bO aM.length aM) (lY:aM.length≤bM) (h:bF.f k aC aD aG aH aN aK aJ aX aM bz bA bI bJ a2 a3 a4 = some (r1,r2,r3,r4)):
 Calls Try.prog 73 #[.agg #[.int .i64 aC,.int .i64 aD,.int .i64 aG,.int .i64 aH,.int .i64 aN,.int .i64 aK,.int .i64 aJ,.slice bG aX.length bH,.slice bO aM.length bM],.agg #[.int .i64 bz,.int .i64 bA,.int .i64 bI,.int .i64 bJ],.int .i64 a2,.int .i64 a3,.int .i64 a4] w fun e w'=>e = .returned (.agg #[.int .i64 r1,.int .i64 r2,.int .i64 r3,.int .i64 r4])∧Below w.heap.size w w':=by
 have Dx:=Try.underlying25
 have vT:=Try.underlying31
 have Yt:=Try.underlying40
 have sU:=Try.underlying27
 have jR:=aj.mk lV
 have jS:=aj.mk lW
 clear lV lW
 have jm:=aj.mk lX
 have kg:=aj.mk lY
 clear lX lY
 have HB:=aj.mk (Below.refl w.heap.size w)
 have H:(bF.l0 k a2 a3 a4 false 0 aC aD aG aH aN aK aJ aX aM bz bA bI bJ 0 0 0 0) = some (r1,r2,r3,r4):=h
 clear h
 have H':=aj.mk H
 clear H
 go_enter Try.func73,Try.ntmps73
 go_wp2_with (first|((with_reducible refine bu (N:=5) rfl ?_);refine aY ?hg (N:=5) ?hd (cs:=#[.int .i64 aC,.int .i64 aD,.int .i64 aG,.int .i64 aH,.int .i64 aN,.int .i64 aK,.int .i64 aJ,.slice bG aX.length bH,.slice bO aM.length bM]) (t:=25) ?hr ?_;(case hd=>rfl);(case hg=>rfl);(case hr=>first|(go_simp;done)|(go_simp;rfl));intro dx hg w6 hbox hb;have bB:=aj.mk (ay (by repeat (first|(with_reducible first|exact HB.out|apply au|apply ah|apply av)|exact HB.out)) hb);have bC:=aj.mk (hbox);have bK:=aj.mk ((by rw [hg];exact (aA (by repeat (first|(with_reducible first|exact HB.out|apply au|apply ah|apply av)|exact HB.out))):w.heap.size≤dx));have bP:=aj.mk ((by rw [hg];exact (aA (by repeat (first|(with_reducible first|exact HB.out|apply au|apply ah|apply av)|exact HB.out))):w.heap.size≤dx));clear HB;have HB:=bB;have bq:=bC;have aCT:=bK;have mr:=bP;clear bB bC bK bP;clear hb hbox hg)|((with_reducible refine bu (N:=6) rfl ?_);refine aY ?hg (N:=6) ?hd (cs:=#[.int .i64 bz,.int .i64 bA,.int .i64 bI,.int .i64 bJ]) (t:=31) ?hr ?_;(case hd=>rfl);(case hg=>rfl);(case hr=>first|(go_simp;done)|(go_simp;rfl));intro jv hg w7 hbox hb;have bB:=aj.mk (ax (g:=dx) (o:=.cells #[.int .i64 aC,.int .i64 aD,.int .i64 aG,.int .i64 aH,.int .i64 aN,.int .i64 aK,.int .i64 aJ,.slice bG aX.length bH,.slice bO aM.length bM] 25 (0,0)) (by (with_reducible repeat (first|refine ag ?_ _|refine ai ?_|refine af ?_ _));exact bq.out) hb);have bC:=aj.mk (ay (by repeat (first|(with_reducible first|exact HB.out|apply au|apply ah|apply av|refine ak ?_ mr.out)|exact HB.out)) hb);have bK:=aj.mk (hbox);have bP:=aj.mk ((by rw [hg];exact (aA (by repeat (first|(with_reducible first|exact HB.out|apply au|apply ah|apply av|refine ak ?_ mr.out)|exact HB.out))):w.heap.size≤jv));have dX:=aj.mk ((by rw [hg];exact (aA (by repeat (first|(with_reducible first|exact HB.out|apply au|apply ah|apply av|refine ak ?_ mr.out)|exact HB.out))):w.heap.size≤jv));have fB:=aj.mk ((by rw [hg];exact Nat.ne_of_lt (aU (g:=dx) (o:=.cells #[.int .i64 aC,.int .i64 aD,.int .i64 aG,.int .i64 aH,.int .i64 aN,.int .i64 aK,.int .i64 aJ,.slice bG aX.length bH,.slice bO aM.length bM] 25 (0,0)) (by (with_reducible repeat (first|refine ag ?_ _|refine ai ?_|refine af ?_ _));exact bq.out)):dx≠jv));have gD:=aj.mk ((by rw [hg];exact Nat.ne_of_gt (aU (g:=dx) (o:=.cells #[.int .i64 aC,.int .i64 aD,.int .i64 aG,.int .i64 aH,.int .i64 aN,.int .i64 aK,.int .i64 aJ,.slice bG aX.length bH,.slice bO aM.length bM] 25 (0,0)) (by (with_reducible repeat (first|refine ag ?_ _|refine ai ?_|refine af ?_ _));exact bq.out)):jv≠dx));clear bq;clear HB;have bq:=bB;have HB:=bC;have eG:=bK;have aCU:=bP;have nz:=dX;have rV:=fB;have rW:=gD;clear bB bC bK bP dX fB gD;clear hb hbox hg)|((with_reducible refine bu (N:=10) rfl ?_);refine aY ?hg (N:=10) ?hd (cs:=#[.int .i64 0,.int .i64 0,.int .i64 0,.int .i64 0]) (t:=40) ?hr ?_;(case hd=>rfl);(case hg=>rfl);(case hr=>first|(go_simp;done)|(go_simp;rfl));intro lG hg w8 hbox hb;have bB:=aj.mk (ax (g:=dx) (o:=.cells #[.int .i64 aC,.int .i64 aD,.int .i64 aG,.int .i64 aH,.int .i64 aN,.int .i64 aK,.int .i64 aJ,.slice bG aX.length bH,.slice bO aM.length bM] 25 (0,0)) (by (with_reducible repeat (first|refine ag ?_ _|refine ai ?_|refine af ?_ _));exact bq.out) hb);have bC:=aj.mk (ax (g:=jv) (o:=.cells #[.int .i64 bz,.int .i64 bA,.int .i64 bI,.int .i64 bJ] 31 (0,0)) (by (with_reducible repeat (first|refine ag ?_ _|refine ai ?_|refine af ?_ _));exact eG.out) hb);have bK:=aj.mk (ay (by repeat (first|(with_reducible first|exact HB.out|apply au|apply ah|apply av|refine ak ?_ mr.out|refine ak ?_ nz.out)|exact HB.out)) hb);have bP:=aj.mk (hbox);have dX:=aj.mk ((by rw [hg];exact (aA (by repeat (first|(with_reducible first|exact HB.out|apply au|apply ah|apply av|refine ak ?_ mr.out|refine ak ?_ nz.out)|exact HB.out))):w.heap.size≤lG));have fB:=aj.mk ((by rw [hg];exact (aA (by repeat (first|(with_reducible first|exact HB.out|apply au|apply ah|apply av|refine ak ?_ mr.out|refine ak ?_ nz.out)|exact HB.out))):w.heap.size≤lG));have gD:=aj.mk ((by rw [hg];exact Nat.ne_of_lt (aU (g:=dx) (o:=.cells #[.int .i64 aC,.int .i64 aD,.int .i64 aG,.int .i64 aH,.int .i64 aN,.int .i64 aK,.int .i64 aJ,.slice bG aX.length bH,.slice bO aM.length bM] 25 (0,0)) (by (with_reducible repeat (first|refine ag ?_ _|refine ai ?_|refine af ?_ _));exact bq.out)):dx≠lG));have jK:=aj.mk ((by rw [hg];exact Nat.ne_of_gt (aU (g:=dx) (o:=.cells #[.int .i64 aC,.int .i64 aD,.int .i64 aG,.int .i64 aH,.int .i64 aN,.int .i64 aK,.int .i64 aJ,.slice bG aX.length bH,.slice bO aM.length bM] 25 (0,0)) (by (with_reducible repeat (first|refine ag ?_ _|refine ai ?_|refine af ?_ _));exact bq.out)):lG≠dx));have jL:=aj.mk ((by rw [hg];exact Nat.ne_of_lt (aU (g:=jv) (o:=.cells #[.int .i64 bz,.int .i64 bA,.int .i64 bI,.int .i64 bJ] 31 (0,0)) (by (with_reducible repeat (first|refine ag ?_ _|refine ai ?_|refine af ?_ _));exact eG.out)):jv≠lG));have kL:=aj.mk ((by rw [hg];exact Nat.ne_of_gt (aU (g:=jv) (o:=.cells #[.int .i64 bz,.int .i64 bA,.int .i64 bI,.int .i64 bJ] 31 (0,0)) (by (with_reducible repeat (first|refine ag ?_ _|refine ai ?_|refine af ?_ _));exact eG.out)):lG≠jv));clear bq;clear eG;clear HB;have bq:=bB;have eG:=bC;have HB:=bK;have gM:=bP;have aCV:=dX;have oL:=fB;have rX:=gD;have rY:=jK;have Yu:=jL;have Yv:=kL;clear bB bC bK bP dX fB gD jK jL kL;clear hb hbox hg)|((with_reducible refine bu (N:=11) rfl ?_);refine aY ?hg (N:=11) ?hd (cs:=#[.int .i64 0,.int .i64 0,.int .i64 0,.int .i64 0]) (t:=40) ?hr ?_;(case hd=>rfl);(case hg=>rfl);(case hr=>first|(go_simp;done)|(go_simp;rfl));intro jM hg w9 hbox hb;have bB:=aj.mk (ax (g:=dx) (o:=.cells #[.int .i64 aC,.int .i64 aD,.int .i64 aG,.int .i64 aH,.int .i64 aN,.int .i64 aK,.int .i64 aJ,.slice bG aX.length bH,.slice bO aM.length bM] 25 (0,0)) (by (with_reducible repeat (first|refine ag ?_ _|refine ai ?_|refine af ?_ _));exact bq.out) hb);have bC:=aj.mk (ax (g:=jv) (o:=.cells #[.int .i64 bz,.int .i64 bA,.int .i64 bI,.int .i64 bJ] 31 (0,0)) (by (with_reducible repeat (first|refine ag ?_ _|refine ai ?_|refine af ?_ _));exact eG.out) hb);have bK:=aj.mk (ax (g:=lG) (o:=.cells #[.int .i64 0,.int .i64 0,.int .i64 0,.int .i64 0] 40 (0,0)) (by (with_reducible repeat (first|refine ag ?_ _|refine ai ?_|refine af ?_ _));exact gM.out) hb);have bP:=aj.mk (ay (by repeat (first|(with_reducible first|exact HB.out|apply au|apply ah|apply av|refine ak ?_ mr.out|refine ak ?_ nz.out|refine ak ?_ oL.out)|exact HB.out)) hb);have dX:=aj.mk (hbox);have fB:=aj.mk ((by rw [hg];exact (aA (by repeat (first|(with_reducible first|exact HB.out|apply au|apply ah|apply av|refine ak ?_ mr.out|refine ak ?_ nz.out|refine ak ?_ oL.out)|exact HB.out))):w.heap.size≤jM));have gD:=aj.mk ((by rw [hg];exact (aA (by repeat (first|(with_reducible first|exact HB.out|apply au|apply ah|apply av|refine ak ?_ mr.out|refine ak ?_ nz.out|refine ak ?_ oL.out)|exact HB.out))):w.heap.size≤jM));have jK:=aj.mk ((by rw [hg];exact Nat.ne_of_lt (aU (g:=dx) (o:=.cells #[.int .i64 aC,.int .i64 aD,.int .i64 aG,.int .i64 aH,.int .i64 aN,.int .i64 aK,.int .i64 aJ,.slice bG aX.length bH,.slice bO aM.length bM] 25 (0,0)) (by (with_reducible repeat (first|refine ag ?_ _|refine ai ?_|refine af ?_ _));exact bq.out)):dx≠jM));have jL:=aj.mk ((by rw [hg];exact Nat.ne_of_gt (aU (g:=dx) (o:=.cells #[.int .i64 aC,.int .i64 aD,.int .i64 aG,.int .i64 aH,.int .i64 aN,.int .i64 aK,.int .i64 aJ,.slice bG aX.length bH,.slice bO aM.length bM] 25 (0,0)) (by (with_reducible repeat (first|refine ag ?_ _|refine ai ?_|refine af ?_ _));exact bq.out)):jM≠dx));have kL:=aj.mk ((by rw [hg];exact Nat.ne_of_lt (aU (g:=jv) (o:=.cells #[.int .i64 bz,.int .i64 bA,.int .i64 bI,.int .i64 bJ] 31 (0,0)) (by (with_reducible repeat (first|refine ag ?_ _|refine ai ?_|refine af ?_ _));exact eG.out)):jv≠jM));have lJ:=aj.mk ((by rw [hg];exact Nat.ne_of_gt (aU (g:=jv) (o:=.cells #[.int .i64 bz,.int .i64 bA,.int .i64 bI,.int .i64 bJ] 31 (0,0)) (by (with_reducible repeat (first|refine ag ?_ _|refine ai ?_|refine af ?_ _));exact eG.out)):jM≠jv));have lZ:=aj.mk ((by rw [hg];exact Nat.ne_of_lt (aU (g:=lG) (o:=.cells #[.int .i64 0,.int .i64 0,.int .i64 0,.int .i64 0] 40 (0,0)) (by (with_reducible repeat (first|refine ag ?_ _|refine ai ?_|refine af ?_ _));exact gM.out)):lG≠jM));have oQ:=aj.mk ((by rw [hg];exact Nat.ne_of_gt (aU (g:=lG) (o:=.cells #[.int .i64 0,.int .i64 0,.int .i64 0,.int .i64 0] 40 (0,0)) (by (with_reducible repeat (first|refine ag ?_ _|refine ai ?_|refine af ?_ _));exact gM.out)):jM≠lG));clear bq;clear eG;clear gM;clear HB;have bq:=bB;have eG:=bC;have gM:=bK;have HB:=bP;have fw:=dX;have aCW:=fB;have p8:=gD;have lD:=jK;have rZ:=jL;have oZ:=kL;have Ie:=lJ;have o5:=lZ;have Ig:=oQ;clear bB bC bK bP dX fB gD jK jL kL lJ lZ oQ;clear hb hbox hg))
 go_loopg [12,13] k (fun kq v12 v13 w'=>∃ (ji:Bool) (iG:Int) (mD:Int) (ng:Int) (nW:Int) (o6:Int),v12 = .bool ji∧v13 = .int .i64 iG∧aj (bF.l0 kq a2 a3 a4 ji iG aC aD aG aH aN aK aJ aX aM bz bA bI bJ mD ng nW o6 = some (r1,r2,r3,r4))∧aj (kq≤k)∧aj (w'.heap[dx]? = some (.cells #[.int .i64 aC,.int .i64 aD,.int .i64 aG,.int .i64 aH,.int .i64 aN,.int .i64 aK,.int .i64 aJ,(.slice bG aX.length bH),(.slice bO aM.length bM)] 25 (0,0)))∧aj (w'.heap[jv]? = some (.cells #[.int .i64 bz,.int .i64 bA,.int .i64 bI,.int .i64 bJ] 31 (0,0)))∧aj (w'.heap[lG]? = some (.cells #[.int .i64 0,.int .i64 0,.int .i64 0,.int .i64 0] 40 (0,0)))∧aj (w'.heap[jM]? = some (.cells #[.int .i64 mD,.int .i64 ng,.int .i64 nW,.int .i64 o6] 40 (0,0)))∧aj (Below w.heap.size w w'))
 case atStart=>exact ⟨(false),(0),(0),(0),(0),(0),(by first|rfl|(simp;done)|(simp [*];done)),(by first|rfl|(simp;done)|(simp [*];done)),H',⟨Nat.le_refl _⟩,⟨by (with_reducible repeat (first|refine ag ?_ _|refine ai ?_|refine af ?_ _));exact bq.out⟩,⟨by (with_reducible repeat (first|refine ag ?_ _|refine ai ?_|refine af ?_ _));exact eG.out⟩,⟨by (with_reducible repeat (first|refine ag ?_ _|refine ai ?_|refine af ?_ _));exact gM.out⟩,⟨by (with_reducible repeat (first|refine ag ?_ _|refine ai ?_|refine af ?_ _));exact fw.out⟩,⟨by repeat (first|(with_reducible first|exact HB.out|apply au|apply ah|apply av|refine ak ?_ mr.out|refine ak ?_ nz.out|refine ak ?_ oL.out|refine ak ?_ p8.out)|exact HB.out)⟩⟩
 case round =>
  clear H'
  try clear p2
  try clear c7
  obtain ⟨ji,iG,mD,ng,nW,o6,rfl,rfl,HA,GV,bq,eG,gM,fw,HB⟩:=hrel
  cases gk with
  |zero=>exact absurd HA.out (by simp [bF.l0])
  |succ k1 =>
   have H:=HA.out
   clear HA
   simp only [bF.l0] at H
   by_cases c10:iG < aN
   ·rw [if_pos c10] at H
    have Dz:decide (iG < aN) = true:=decide_eq_true c10
    clear c10
    have ahk:=aj.mk H
    clear H
    have aCX:=rV.out
    have aCY:=rW.out
    have QG:=rX.out
    have QH:=rY.out
    have ZF:=lD.out
    have ZG:=rZ.out
    have qj:wr.cell? ⟨dx,0,none⟩ = some (.int .i64 aC):=(aa bq.out 0).trans rfl
    have ql:wr.cell? ⟨dx,1,none⟩ = some (.int .i64 aD):=(aa bq.out 1).trans rfl
    have rG:wr.cell? ⟨dx,2,none⟩ = some (.int .i64 aG):=(aa bq.out 2).trans rfl
    have rH:wr.cell? ⟨dx,3,none⟩ = some (.int .i64 aH):=(aa bq.out 3).trans rfl
    have uR:wr.cell? ⟨dx,4,none⟩ = some (.int .i64 aN):=(aa bq.out 4).trans rfl
    have uS:wr.cell? ⟨dx,5,none⟩ = some (.int .i64 aK):=(aa bq.out 5).trans rfl
    have uT:wr.cell? ⟨dx,6,none⟩ = some (.int .i64 aJ):=(aa bq.out 6).trans rfl
    have vZ:wr.cell? ⟨dx,7,none⟩ = some (.slice bG aX.length bH):=(aa bq.out 7).trans rfl
    have wh:wr.cell? ⟨dx,8,none⟩ = some (.slice bO aM.length bM):=(aa bq.out 8).trans rfl
    have qm:=ae bq.out 0
    have qo:=ae bq.out 1
    have rJ:=ae bq.out 2
    have rM:=ae bq.out 3
    have uU:=ae bq.out 4
    have uV:=ae bq.out 5
    have uW:=ae bq.out 6
    have wm:=ae bq.out 7
    have wo:=ae bq.out 8
    go_upto_region 6 with (fail)
    go_cut [36] (fun v36 wc=>∃ (kq:Nat) (OY:Bool),v36 = .bool OY∧aj (bF.j1 kq a2 a3 a4 ji iG OY aC aD aG aH aN aK aJ aX aM bz bA bI bJ mD ng nW o6 = some (r1,r2,r3,r4))∧aj (kq≤k1)∧aj (wc.heap[dx]? = some (.cells #[.int .i64 aC,.int .i64 aD,.int .i64 aG,.int .i64 aH,.int .i64 aN,.int .i64 aK,.int .i64 aJ,(.slice bG aX.length bH),(.slice bO aM.length bM)] 25 (0,0)))∧aj (wc.heap[jv]? = some (.cells #[.int .i64 bz,.int .i64 bA,.int .i64 bI,.int .i64 bJ] 31 (0,0)))∧aj (wc.heap[lG]? = some (.cells #[.int .i64 0,.int .i64 0,.int .i64 0,.int .i64 0] 40 (0,0)))∧aj (wc.heap[jM]? = some (.cells #[.int .i64 mD,.int .i64 ng,.int .i64 nW,.int .i64 o6] 40 (0,0)))∧aj (Below w.heap.size w wc))
    case first =>
     have H:=ahk.out
     clear ahk
     by_cases c16:(wrap64 (iG*aH)) ≥ a4
     ·rw [if_pos c16] at H
      have yg:decide (a4≤(wrap64 (iG*aH))) = true:=decide_eq_true c16
      clear c16
      (first|rw [yg]|(simp only [aZ,bf];rw [yg])|skip)
      have H':=aj.mk H
      clear H
      have anR:=rV.out
      have anS:=rW.out
      have Zc:=rX.out
      have Zd:=rY.out
      have afO:=lD.out
      have afP:=rZ.out
      have Bz:wr.cell? ⟨dx,0,none⟩ = some (.int .i64 aC):=(aa bq.out 0).trans rfl
      have BA:wr.cell? ⟨dx,1,none⟩ = some (.int .i64 aD):=(aa bq.out 1).trans rfl
      have BC:wr.cell? ⟨dx,2,none⟩ = some (.int .i64 aG):=(aa bq.out 2).trans rfl
      have BD:wr.cell? ⟨dx,3,none⟩ = some (.int .i64 aH):=(aa bq.out 3).trans rfl
      have J3:wr.cell? ⟨dx,4,none⟩ = some (.int .i64 aN):=(aa bq.out 4).trans rfl
      have J4:wr.cell? ⟨dx,5,none⟩ = some (.int .i64 aK):=(aa bq.out 5).trans rfl
      have J5:wr.cell? ⟨dx,6,none⟩ = some (.int .i64 aJ):=(aa bq.out 6).trans rfl
      have OL:wr.cell? ⟨dx,7,none⟩ = some (.slice bG aX.length bH):=(aa bq.out 7).trans rfl
      have OM:wr.cell? ⟨dx,8,none⟩ = some (.slice bO aM.length bM):=(aa bq.out 8).trans rfl
      have BF:=ae bq.out 0
      have BG:=ae bq.out 1
      have BH:=ae bq.out 2
      have BI:=ae bq.out 3
      have J6:=ae bq.out 4
      have J7:=ae bq.out 5
      have J8:=ae bq.out 6
      have OO:=ae bq.out 7
      have OP:=ae bq.out 8
      go_wp2
      go_meet
      case rel=>exact ⟨_,(true),(by first|rfl|(simp;done)|(simp [*];done)),H',⟨by have:=GV.out;first|omega|exact Nat.le_refl _⟩,⟨by (with_reducible repeat (first|refine ag ?_ _|refine ai ?_|refine af ?_ _));exact bq.out⟩,⟨by (with_reducible repeat (first|refine ag ?_ _|refine ai ?_|refine af ?_ _));exact eG.out⟩,⟨by (with_reducible repeat (first|refine ag ?_ _|refine ai ?_|refine af ?_ _));exact gM.out⟩,⟨by (with_reducible repeat (first|refine ag ?_ _|refine ai ?_|refine af ?_ _));exact fw.out⟩,⟨by repeat (first|(with_reducible first|exact HB.out|apply au|apply ah|apply av|refine ak ?_ mr.out|refine ak ?_ nz.out|refine ak ?_ oL.out|refine ak ?_ p8.out)|exact HB.out)⟩⟩
     ·rw [if_neg c16] at H
      have yg:decide (a4≤(wrap64 (iG*aH))) = false:=decide_eq_false c16
      clear c16
      (first|rw [yg]|(simp only [aZ,bf];rw [yg])|skip)
      have H':=aj.mk H
      clear H
      have afQ:=rV.out
      have afR:=rW.out
      have agk:=rX.out
      have agl:=rY.out
      have Uk:=lD.out
      have Ul:=rZ.out
      have sO:wr.cell? ⟨dx,0,none⟩ = some (.int .i64 aC):=(aa bq.out 0).trans rfl
      have sP:wr.cell? ⟨dx,1,none⟩ = some (.int .i64 aD):=(aa bq.out 1).trans rfl
      have uN:wr.cell? ⟨dx,2,none⟩ = some (.int .i64 aG):=(aa bq.out 2).trans rfl
      have uO:wr.cell? ⟨dx,3,none⟩ = some (.int .i64 aH):=(aa bq.out 3).trans rfl
      have Ci:wr.cell? ⟨dx,4,none⟩ = some (.int .i64 aN):=(aa bq.out 4).trans rfl
      have Cj:wr.cell? ⟨dx,5,none⟩ = some (.int .i64 aK):=(aa bq.out 5).trans rfl
      have Ck:wr.cell? ⟨dx,6,none⟩ = some (.int .i64 aJ):=(aa bq.out 6).trans rfl
      have EW:wr.cell? ⟨dx,7,none⟩ = some (.slice bG aX.length bH):=(aa bq.out 7).trans rfl
      have EX:wr.cell? ⟨dx,8,none⟩ = some (.slice bO aM.length bM):=(aa bq.out 8).trans rfl
      have sQ:=ae bq.out 0
      have sS:=ae bq.out 1
      have uP:=ae bq.out 2
      have uQ:=ae bq.out 3
      have Cm:=ae bq.out 4
      have Cn:=ae bq.out 5
      have Co:=ae bq.out 6
      have EY:=ae bq.out 7
      have EZ:=ae bq.out 8
      go_wp2
      go_meet
      case rel=>exact ⟨_,(decide ((wrap64 ((wrap64 (iG+1))*aH))≤a3)),(by first|rfl|(simp;done)|(simp [*];done)),H',⟨by have:=GV.out;first|omega|exact Nat.le_refl _⟩,⟨by (with_reducible repeat (first|refine ag ?_ _|refine ai ?_|refine af ?_ _));exact bq.out⟩,⟨by (with_reducible repeat (first|refine ag ?_ _|refine ai ?_|refine af ?_ _));exact eG.out⟩,⟨by (with_reducible repeat (first|refine ag ?_ _|refine ai ?_|refine af ?_ _));exact gM.out⟩,⟨by (with_reducible repeat (first|refine ag ?_ _|refine ai ?_|refine af ?_ _));exact fw.out⟩,⟨by repeat (first|(with_reducible first|exact HB.out|apply au|apply ah|apply av|refine ak ?_ mr.out|refine ak ?_ nz.out|refine ak ?_ oL.out|refine ak ?_ p8.out)|exact HB.out)⟩⟩
    case rest =>
     clear ahk
     try clear c1
     try clear c2
     try clear p2
     try clear p6
     try clear c7
     try clear c10
     try clear Dz
     try clear c12
     try clear c13
     try clear c14
     try clear c16
     try clear yg
     try clear c17
     try clear c18
     try clear c19
     try clear c21
     try clear Mk
     try clear c23
     try clear qj
     try clear ql
     try clear rG
     try clear rH
     try clear uR
     try clear uS
     try clear uT
     try clear vZ
     try clear wh
     try clear Bz
     try clear BA
     try clear BC
     try clear BD
     try clear J3
     try clear J4
     try clear J5
     try clear OL
     try clear OM
     try clear sO
     try clear sP
     try clear uN
     try clear uO
     try clear Ci
     try clear Cj
     try clear Ck
     try clear EW
     try clear EX
     try clear qm
     try clear qo
     try clear rJ
     try clear rM
     try clear uU
     try clear uV
     try clear uW
     try clear wm
     try clear wo
     try clear BF
     try clear BG
     try clear BH
     try clear BI
     try clear J6
     try clear J7
     try clear J8
     try clear OO
     try clear OP
     try clear sQ
     try clear sS
     try clear uP
     try clear uQ
     try clear Cm
     try clear Cn
     try clear Co
     try clear EY
     try clear EZ
     try clear p2
     obtain ⟨kq,OY,rfl,HA,Ml,bq,eG,gM,fw,HB⟩:=hcut
     cases kq with
     |zero=>exact absurd HA.out (by simp [bF.j1])
     |succ ZH =>
      have H:=HA.out
      clear HA
      simp only [bF.j1] at H
      by_cases IZ:OY = true
      ·subst IZ
       have H1:(bF.l0 ZH a2 a3 a4 ji (wrap64 (iG+1)) aC aD aG aH aN aK aJ aX aM bz bA bI bJ mD ng nW o6) = some (r1,r2,r3,r4):=by rw [if_pos rfl] at H;exact H
       clear H
       have H:=H1
       clear H1
       have H':=aj.mk H
       clear H
       go_wp2
       go_roundg ZH
       case measure=>have:=GV.out;have:=Ml.out;omega
       case rel=>exact ⟨(ji),(wrap64 (iG+1)),(mD),(ng),(nW),(o6),(by first|rfl|(simp;done)|(simp [*];done)),(by first|rfl|(simp;done)|(simp [*];done)),H',⟨by have:=GV.out;have:=Ml.out;omega⟩,⟨by (with_reducible repeat (first|refine ag ?_ _|refine ai ?_|refine af ?_ _));exact bq.out⟩,⟨by (with_reducible repeat (first|refine ag ?_ _|refine ai ?_|refine af ?_ _));exact eG.out⟩,⟨by (with_reducible repeat (first|refine ag ?_ _|refine ai ?_|refine af ?_ _));exact gM.out⟩,⟨by (with_reducible repeat (first|refine ag ?_ _|refine ai ?_|refine af ?_ _));exact fw.out⟩,⟨by repeat (first|(with_reducible first|exact HB.out|apply au|apply ah|apply av|refine ak ?_ mr.out|refine ak ?_ nz.out|refine ak ?_ oL.out|refine ak ?_ p8.out)|exact HB.out)⟩⟩
      ·replace IZ:=Bool.eq_false_iff.mpr IZ
       subst IZ
       have H1:(bF.l1 ZH a2 a3 a4 ji iG 0 aC aD aG aH aN aK aJ aX aM bz bA bI bJ mD ng nW o6) = some (r1,r2,r3,r4):=by rw [if_neg (show ¬ (false = true) by decide)] at H;exact H
       clear H
       have H:=H1
       clear H1
       have H':=aj.mk H
       clear H
       go_wp2
       go_loopg [12,14] ZH (fun kq v12 v14 w'=>∃ (zf:Bool) (iI:Int) (gF:Int) (fV:Int) (fI:Int) (fD:Int),v12 = .bool zf∧v14 = .int .i64 iI∧aj (bF.l1 kq a2 a3 a4 zf iG iI aC aD aG aH aN aK aJ aX aM bz bA bI bJ gF fV fI fD = some (r1,r2,r3,r4))∧aj (kq≤ZH)∧aj (w'.heap[dx]? = some (.cells #[.int .i64 aC,.int .i64 aD,.int .i64 aG,.int .i64 aH,.int .i64 aN,.int .i64 aK,.int .i64 aJ,(.slice bG aX.length bH),(.slice bO aM.length bM)] 25 (0,0)))∧aj (w'.heap[jv]? = some (.cells #[.int .i64 bz,.int .i64 bA,.int .i64 bI,.int .i64 bJ] 31 (0,0)))∧aj (w'.heap[lG]? = some (.cells #[.int .i64 0,.int .i64 0,.int .i64 0,.int .i64 0] 40 (0,0)))∧aj (w'.heap[jM]? = some (.cells #[.int .i64 gF,.int .i64 fV,.int .i64 fI,.int .i64 fD] 40 (0,0)))∧aj (Below w.heap.size w w'))
       case atStart=>exact ⟨(ji),(0),(mD),(ng),(nW),(o6),(by first|rfl|(simp;done)|(simp [*];done)),(by first|rfl|(simp;done)|(simp [*];done)),H',⟨Nat.le_refl _⟩,⟨by (with_reducible repeat (first|refine ag ?_ _|refine ai ?_|refine af ?_ _));exact bq.out⟩,⟨by (with_reducible repeat (first|refine ag ?_ _|refine ai ?_|refine af ?_ _));exact eG.out⟩,⟨by (with_reducible repeat (first|refine ag ?_ _|refine ai ?_|refine af ?_ _));exact gM.out⟩,⟨by (with_reducible repeat (first|refine ag ?_ _|refine ai ?_|refine af ?_ _));exact fw.out⟩,⟨by repeat (first|(with_reducible first|exact HB.out|apply au|apply ah|apply av|refine ak ?_ mr.out|refine ak ?_ nz.out|refine ak ?_ oL.out|refine ak ?_ p8.out)|exact HB.out)⟩⟩
       case round =>
        clear H'
        try clear c1
        try clear c2
        try clear p2
        try clear p6
        try clear c7
        try clear c10
        try clear Dz
        try clear c12
        try clear c13
        try clear c14
        try clear c16
        try clear yg
        try clear c17
        try clear c18
        try clear c19
        try clear c21
        try clear Mk
        try clear c23
        try clear IZ
        try clear qj
        try clear ql
        try clear rG
        try clear rH
        try clear uR
        try clear uS
        try clear uT
        try clear vZ
        try clear wh
        try clear Bz
        try clear BA
        try clear BC
        try clear BD
        try clear J3
        try clear J4
        try clear J5
        try clear OL
        try clear OM
        try clear sO
        try clear sP
        try clear uN
        try clear uO
        try clear Ci
        try clear Cj
        try clear Ck
        try clear EW
        try clear EX
        try clear qm
        try clear qo
        try clear rJ
        try clear rM
        try clear uU
        try clear uV
        try clear uW
        try clear wm
        try clear wo
        try clear BF
        try clear BG
        try clear BH
        try clear BI
        try clear J6
        try clear J7
        try clear J8
        try clear OO
        try clear OP
        try clear sQ
        try clear sS
        try clear uP
        try clear uQ
        try clear Cm
        try clear Cn
        try clear Co
        try clear EY
        try clear EZ
        try clear p2
        try clear p6
        obtain ⟨zf,iI,gF,fV,fI,fD,rfl,rfl,HA,ZI,bq,eG,gM,fw,HB⟩:=hrel
        cases gk with
        |zero=>exact absurd HA.out (by simp [bF.l1])
        |succ k3 =>
         have H:=HA.out
         clear HA
         simp only [bF.l1] at H
         by_cases Jj:iI < (wrap64 (aC*aD))
         ·rw [if_pos Jj] at H
          have I1:decide (iI < (wrap64 (aC*aD))) = true:=decide_eq_true Jj
          clear Jj
          replace H:=Option.bind_eq_some_iff.mp H
          obtain ⟨⟨Mm,Mo,Mq,Mr⟩,anW,H⟩:=H
          replace H:((iM.f bz bA bI bJ Mm Mo Mq Mr).bind fun Yr=>(if Yr = true then (if 0≤(wrap64 ((wrap64 ((wrap64 ((wrap64 ((wrap64 (iG*aK))+a2))*aC))*aD))+iI)) then (if (wrap64 ((wrap64 ((wrap64 ((wrap64 ((wrap64 (iG*aK))+a2))*aC))*aD))+iI)) < (aM.length:Int) then (if zf = true then ((fJ.f gF fV ((bn aM (wrap64 ((wrap64 ((wrap64 ((wrap64 ((wrap64 (iG*aK))+a2))*aC))*aD))+iI))).f0.f0) ((bn aM (wrap64 ((wrap64 ((wrap64 ((wrap64 ((wrap64 (iG*aK))+a2))*aC))*aD))+iI))).f0.f1)).bind fun vB=>((fJ.f fI fD ((bn aM (wrap64 ((wrap64 ((wrap64 ((wrap64 ((wrap64 (iG*aK))+a2))*aC))*aD))+iI))).f1.f0) ((bn aM (wrap64 ((wrap64 ((wrap64 ((wrap64 ((wrap64 (iG*aK))+a2))*aC))*aD))+iI))).f1.f1)).bind fun rU=>(bF.l1 k3 a2 a3 a4 true iG (wrap64 (iI+1)) aC aD aG aH aN aK aJ aX aM bz bA bI bJ vB.1 vB.2 rU.1 rU.2))) else (bF.l1 k3 a2 a3 a4 true iG (wrap64 (iI+1)) aC aD aG aH aN aK aJ aX aM bz bA bI bJ ((bn aM (wrap64 ((wrap64 ((wrap64 ((wrap64 ((wrap64 (iG*aK))+a2))*aC))*aD))+iI))).f0.f0) ((bn aM (wrap64 ((wrap64 ((wrap64 ((wrap64 ((wrap64 (iG*aK))+a2))*aC))*aD))+iI))).f0.f1) ((bn aM (wrap64 ((wrap64 ((wrap64 ((wrap64 ((wrap64 (iG*aK))+a2))*aC))*aD))+iI))).f1.f0) ((bn aM (wrap64 ((wrap64 ((wrap64 ((wrap64 ((wrap64 (iG*aK))+a2))*aC))*aD))+iI))).f1.f1))) else (none)) else (none)) else (bF.l1 k3 a2 a3 a4 zf iG (wrap64 (iI+1)) aC aD aG aH aN aK aJ aX aM bz bA bI bJ gF fV fI fD))) = some (r1,r2,r3,r4):=H
          have A27:=aj.mk anW
          clear anW
          replace H:=Option.bind_eq_some_iff.mp H
          obtain ⟨Yr,ZJ,H⟩:=H
          replace H:(if Yr = true then (if 0≤(wrap64 ((wrap64 ((wrap64 ((wrap64 ((wrap64 (iG*aK))+a2))*aC))*aD))+iI)) then (if (wrap64 ((wrap64 ((wrap64 ((wrap64 ((wrap64 (iG*aK))+a2))*aC))*aD))+iI)) < (aM.length:Int) then (if zf = true then ((fJ.f gF fV ((bn aM (wrap64 ((wrap64 ((wrap64 ((wrap64 ((wrap64 (iG*aK))+a2))*aC))*aD))+iI))).f0.f0) ((bn aM (wrap64 ((wrap64 ((wrap64 ((wrap64 ((wrap64 (iG*aK))+a2))*aC))*aD))+iI))).f0.f1)).bind fun vB=>((fJ.f fI fD ((bn aM (wrap64 ((wrap64 ((wrap64 ((wrap64 ((wrap64 (iG*aK))+a2))*aC))*aD))+iI))).f1.f0) ((bn aM (wrap64 ((wrap64 ((wrap64 ((wrap64 ((wrap64 (iG*aK))+a2))*aC))*aD))+iI))).f1.f1)).bind fun rU=>(bF.l1 k3 a2 a3 a4 true iG (wrap64 (iI+1)) aC aD aG aH aN aK aJ aX aM bz bA bI bJ vB.1 vB.2 rU.1 rU.2))) else (bF.l1 k3 a2 a3 a4 true iG (wrap64 (iI+1)) aC aD aG aH aN aK aJ aX aM bz bA bI bJ ((bn aM (wrap64 ((wrap64 ((wrap64 ((wrap64 ((wrap64 (iG*aK))+a2))*aC))*aD))+iI))).f0.f0) ((bn aM (wrap64 ((wrap64 ((wrap64 ((wrap64 ((wrap64 (iG*aK))+a2))*aC))*aD))+iI))).f0.f1) ((bn aM (wrap64 ((wrap64 ((wrap64 ((wrap64 ((wrap64 (iG*aK))+a2))*aC))*aD))+iI))).f1.f0) ((bn aM (wrap64 ((wrap64 ((wrap64 ((wrap64 ((wrap64 (iG*aK))+a2))*aC))*aD))+iI))).f1.f1))) else (none)) else (none)) else (bF.l1 k3 a2 a3 a4 zf iG (wrap64 (iI+1)) aC aD aG aH aN aK aJ aX aM bz bA bI bJ gF fV fI fD)) = some (r1,r2,r3,r4):=H
          have A28:=aj.mk ZJ
          clear ZJ
          by_cases c29:Yr = true
          ·subst c29
           have H1:(if 0≤(wrap64 ((wrap64 ((wrap64 ((wrap64 ((wrap64 (iG*aK))+a2))*aC))*aD))+iI)) then (if (wrap64 ((wrap64 ((wrap64 ((wrap64 ((wrap64 (iG*aK))+a2))*aC))*aD))+iI)) < (aM.length:Int) then (if zf = true then ((fJ.f gF fV ((bn aM (wrap64 ((wrap64 ((wrap64 ((wrap64 ((wrap64 (iG*aK))+a2))*aC))*aD))+iI))).f0.f0) ((bn aM (wrap64 ((wrap64 ((wrap64 ((wrap64 ((wrap64 (iG*aK))+a2))*aC))*aD))+iI))).f0.f1)).bind fun vB=>((fJ.f fI fD ((bn aM (wrap64 ((wrap64 ((wrap64 ((wrap64 ((wrap64 (iG*aK))+a2))*aC))*aD))+iI))).f1.f0) ((bn aM (wrap64 ((wrap64 ((wrap64 ((wrap64 ((wrap64 (iG*aK))+a2))*aC))*aD))+iI))).f1.f1)).bind fun rU=>(bF.l1 k3 a2 a3 a4 true iG (wrap64 (iI+1)) aC aD aG aH aN aK aJ aX aM bz bA bI bJ vB.1 vB.2 rU.1 rU.2))) else (bF.l1 k3 a2 a3 a4 true iG (wrap64 (iI+1)) aC aD aG aH aN aK aJ aX aM bz bA bI bJ ((bn aM (wrap64 ((wrap64 ((wrap64 ((wrap64 ((wrap64 (iG*aK))+a2))*aC))*aD))+iI))).f0.f0) ((bn aM (wrap64 ((wrap64 ((wrap64 ((wrap64 ((wrap64 (iG*aK))+a2))*aC))*aD))+iI))).f0.f1) ((bn aM (wrap64 ((wrap64 ((wrap64 ((wrap64 ((wrap64 (iG*aK))+a2))*aC))*aD))+iI))).f1.f0) ((bn aM (wrap64 ((wrap64 ((wrap64 ((wrap64 ((wrap64 (iG*aK))+a2))*aC))*aD))+iI))).f1.f1))) else (none)) else (none)) = some (r1,r2,r3,r4):=by rw [if_pos rfl] at H;exact H
           clear H
           have H:=H1
           clear H1
           obtain ⟨ig,Lc⟩:∃ j_:Int,(wrap64 ((wrap64 ((wrap64 ((wrap64 ((wrap64 (iG*aK))+a2))*aC))*aD))+iI)) = j_:=⟨_,rfl⟩
           replace H:(if 0≤(ig) then (if (ig) < (aM.length:Int) then (if zf = true then ((fJ.f gF fV ((bn aM (ig)).f0.f0) ((bn aM (ig)).f0.f1)).bind fun vB=>((fJ.f fI fD ((bn aM (ig)).f1.f0) ((bn aM (ig)).f1.f1)).bind fun rU=>(bF.l1 k3 a2 a3 a4 true iG (wrap64 (iI+1)) aC aD aG aH aN aK aJ aX aM bz bA bI bJ vB.1 vB.2 rU.1 rU.2))) else (bF.l1 k3 a2 a3 a4 true iG (wrap64 (iI+1)) aC aD aG aH aN aK aJ aX aM bz bA bI bJ ((bn aM (ig)).f0.f0) ((bn aM (ig)).f0.f1) ((bn aM (ig)).f1.f0) ((bn aM (ig)).f1.f1))) else (none)) else (none)) = some (r1,r2,r3,r4):=by first|(rw [Lc] at H;exact H)|(simp only [Lc] at H ⊢;exact H)
           (try rw [Lc] at A27)
           (try rw [Lc] at A28)
           have aA8:(IntKind.i64.wrap ((wrap64 ((wrap64 ((wrap64 ((wrap64 (iG*aK))+a2))*aC))*aD))+iI)) = ig:=(aZ _).trans Lc
           by_cases c31:0≤(ig)
           ·rw [if_pos c31] at H
            have aCZ:decide (0≤(ig)) = true:=decide_eq_true c31
            clear c31
            by_cases c32:(ig) < (aM.length:Int)
            ·rw [if_pos c32] at H
             have aC0:decide ((ig) < (aM.length:Int)) = true:=decide_eq_true c32
             clear c32
             by_cases VD:zf = true
             ·subst VD
              have H1:((fJ.f gF fV ((bn aM (ig)).f0.f0) ((bn aM (ig)).f0.f1)).bind fun vB=>((fJ.f fI fD ((bn aM (ig)).f1.f0) ((bn aM (ig)).f1.f1)).bind fun rU=>(bF.l1 k3 a2 a3 a4 true iG (wrap64 (iI+1)) aC aD aG aH aN aK aJ aX aM bz bA bI bJ vB.1 vB.2 rU.1 rU.2))) = some (r1,r2,r3,r4):=by rw [if_pos rfl] at H;exact H
              clear H
              have H:=H1
              clear H1
              replace H:=Option.bind_eq_some_iff.mp H
              obtain ⟨⟨Si,Yw⟩,anX,H⟩:=H
              replace H:((fJ.f fI fD ((bn aM (ig)).f1.f0) ((bn aM (ig)).f1.f1)).bind fun rU=>(bF.l1 k3 a2 a3 a4 true iG (wrap64 (iI+1)) aC aD aG aH aN aK aJ aX aM bz bA bI bJ Si Yw rU.1 rU.2)) = some (r1,r2,r3,r4):=H
              have A34:=aj.mk anX
              clear anX
              replace H:=Option.bind_eq_some_iff.mp H
              obtain ⟨⟨ab4,ahl⟩,ZK,H⟩:=H
              replace H:(bF.l1 k3 a2 a3 a4 true iG (wrap64 (iI+1)) aC aD aG aH aN aK aJ aX aM bz bA bI bJ Si Yw ab4 ahl) = some (r1,r2,r3,r4):=H
              have A35:=aj.mk ZK
              clear ZK
              have H':=aj.mk H
              clear H
              have ai8:=rV.out
              have ai9:=rW.out
              have afS:=rX.out
              have afT:=rY.out
              have afU:=lD.out
              have afV:=rZ.out
              have Oh:wr.cell? ⟨dx,0,none⟩ = some (.int .i64 aC):=(aa bq.out 0).trans rfl
              have Oi:wr.cell? ⟨dx,1,none⟩ = some (.int .i64 aD):=(aa bq.out 1).trans rfl
              have Oj:wr.cell? ⟨dx,2,none⟩ = some (.int .i64 aG):=(aa bq.out 2).trans rfl
              have Ol:wr.cell? ⟨dx,3,none⟩ = some (.int .i64 aH):=(aa bq.out 3).trans rfl
              have ab5:wr.cell? ⟨dx,4,none⟩ = some (.int .i64 aN):=(aa bq.out 4).trans rfl
              have ab6:wr.cell? ⟨dx,5,none⟩ = some (.int .i64 aK):=(aa bq.out 5).trans rfl
              have ab7:wr.cell? ⟨dx,6,none⟩ = some (.int .i64 aJ):=(aa bq.out 6).trans rfl
              have aqM:wr.cell? ⟨dx,7,none⟩ = some (.slice bG aX.length bH):=(aa bq.out 7).trans rfl
              have aqN:wr.cell? ⟨dx,8,none⟩ = some (.slice bO aM.length bM):=(aa bq.out 8).trans rfl
              have Om:=ae bq.out 0
              have Oo:=ae bq.out 1
              have Oq:=ae bq.out 2
              have Ot:=ae bq.out 3
              have ab8:=ae bq.out 4
              have ab9:=ae bq.out 5
              have aca:=ae bq.out 6
              have aqO:=ae bq.out 7
              have aqP:=ae bq.out 8
              try go_wp2
              have bB:=aj.mk (ai bq.out)
              have bC:=aj.mk (ai eG.out)
              have bK:=aj.mk (ai gM.out)
              have bP:=aj.mk (ai fw.out)
              have dX:=aj.mk (av HB.out)
              clear bq
              clear eG
              clear gM
              clear fw
              clear HB
              have bq:=bB
              have eG:=bC
              have gM:=bK
              have fw:=bP
              have HB:=dX
              clear bB bC bK bP dX
              refine qg (n:=6) (S:=fun w'=>w'.cell? ⟨jv,0,none⟩ = some (.int .i64 bz)∧w'.cell? ⟨jv,1,none⟩ = some (.int .i64 bA)∧w'.cell? ⟨jv,2,none⟩ = some (.int .i64 bI)∧w'.cell? ⟨jv,3,none⟩ = some (.int .i64 bJ)∧w'.cell? ⟨dx,0,none⟩ = some (.int .i64 aC)∧w'.cell? ⟨dx,1,none⟩ = some (.int .i64 aD)∧w'.cell? ⟨dx,2,none⟩ = some (.int .i64 aG)∧w'.cell? ⟨dx,3,none⟩ = some (.int .i64 aH)∧w'.cell? ⟨dx,4,none⟩ = some (.int .i64 aN)∧w'.cell? ⟨dx,5,none⟩ = some (.int .i64 aK)∧w'.cell? ⟨dx,6,none⟩ = some (.int .i64 aJ)∧w'.cell? ⟨dx,7,none⟩ = some (.slice bG aX.length bH)∧w'.cell? ⟨dx,8,none⟩ = some (.slice bO aM.length bM)) (ds:=[]) #[false,false,false,false,false,false] (by kernel_rfl) rfl rfl ⟨(aa eG.out 0).trans rfl,(aa eG.out 1).trans rfl,(aa eG.out 2).trans rfl,(aa eG.out 3).trans rfl,(aa bq.out 0).trans rfl,(aa bq.out 1).trans rfl,(aa bq.out 2).trans rfl,(aa bq.out 3).trans rfl,(aa bq.out 4).trans rfl,(aa bq.out 5).trans rfl,(aa bq.out 6).trans rfl,(aa bq.out 7).trans rfl,(aa bq.out 8).trans rfl⟩ (fun hHeld=>?_)
              generalize wr.drew = I4 at bq eG gM fw HB hHeld ⊢
              refine bU (i:=2) (N:=some 48) (v:=?_) (a':=?_) #[false,false,true,false,false,false] rfl rfl (by kernel_rfl) (fun _ _ _ h=>h) (Or.inl ⟨by rfl,?_⟩) ?_ ?_
              rotate_left
              ·intro w'
               go_simp
               with_reducible rfl
              rotate_left
              ·simp only [Act.put,List.setIfInBounds_toArray,List.set_cons_zero,List.set_cons_succ,aZ,bf]
               rfl
              refine gB (i:=0) (N:=some 46) (v:=?_) (a':=?_) #[true,false,true,false,false,false] rfl rfl (by kernel_rfl) (fun _ _ _ h=>h) (Or.inl ⟨by rfl,?_⟩) hHeld ?_ ?_
              rotate_left
              ·rintro w' ⟨s0,s1,s2,s3,s4,s5,s6,s7,s8,s9,s10,s11,s12⟩
               go_simp
               with_reducible rfl
              rotate_left
              ·simp only [Act.put,List.setIfInBounds_toArray,List.set_cons_zero,List.set_cons_succ,aZ,bf]
               rfl
              refine gB (i:=1) (N:=some 47) (v:=?_) (a':=?_) #[true,true,true,false,false,false] rfl rfl (by kernel_rfl) (fun _ _ _ h=>h) (Or.inl ⟨by rfl,?_⟩) hHeld ?_ ?_
              rotate_left
              ·rintro w' ⟨s0,s1,s2,s3,s4,s5,s6,s7,s8,s9,s10,s11,s12⟩
               go_simp
               with_reducible rfl
              rotate_left
              ·simp only [Act.put,List.setIfInBounds_toArray,List.set_cons_zero,List.set_cons_succ,aZ,bf]
               rfl
              refine o7 (i:=3) (N:=some 49) #[true,true,true,true,false,false] rfl rfl (by kernel_rfl) (by decide) (fun K hK=>?_)
              refine kP Try.func42 (by kernel_rfl) rfl #[.agg #[.int .i64 aC,.int .i64 aD,.int .i64 aG,.int .i64 aH,.int .i64 aN,.int .i64 aK,.int .i64 aJ,.slice bG aX.length bH,.slice bO aM.length bM],.int .i64 iI] (by rfl) rfl rfl (by (try simp only [List.map_toArray,List.map_cons,List.map_nil]);first|done|rfl|(simp only [List.length_drop,List.length_take];rfl)) ?_
              with_reducible refine (jX.calls aC aD aG aH aN aK aJ _ _ aX _ _ aM iI Mm Mo Mq Mr _ ?gm ?gp ?gQ ?gT A27.out).mono ?_
              (case gm=>repeat (first|exact (Kd.dF jR.out HB.out)|(with_reducible refine Kd.dO ?_ _)|(with_reducible refine Kd.dP ?_ _)|(with_reducible refine Kd.eO ?_)))
              (case gp=>exact jS.out)
              (case gQ=>repeat (first|exact (Kd.dF jm.out HB.out)|(with_reducible refine Kd.dO ?_ _)|(with_reducible refine Kd.dP ?_ _)|(with_reducible refine Kd.eO ?_)))
              (case gT=>exact kg.out)
              rintro e GR ⟨rfl,hb⟩
              refine ⟨_,rfl,?_⟩
              have bB:=aj.mk (ax (g:=dx) (o:=.cells #[.int .i64 aC,.int .i64 aD,.int .i64 aG,.int .i64 aH,.int .i64 aN,.int .i64 aK,.int .i64 aJ,.slice bG aX.length bH,.slice bO aM.length bM] 25 (0,0)) (by (with_reducible repeat (first|refine ag ?_ _|refine ai ?_|refine af ?_ _));exact bq.out) hb)
              have bC:=aj.mk (ax (g:=jv) (o:=.cells #[.int .i64 bz,.int .i64 bA,.int .i64 bI,.int .i64 bJ] 31 (0,0)) (by (with_reducible repeat (first|refine ag ?_ _|refine ai ?_|refine af ?_ _));exact eG.out) hb)
              have bK:=aj.mk (ax (g:=lG) (o:=.cells #[.int .i64 0,.int .i64 0,.int .i64 0,.int .i64 0] 40 (0,0)) (by (with_reducible repeat (first|refine ag ?_ _|refine ai ?_|refine af ?_ _));exact gM.out) hb)
              have bP:=aj.mk (ax (g:=jM) (o:=.cells #[.int .i64 gF,.int .i64 fV,.int .i64 fI,.int .i64 fD] 40 (0,0)) (by (with_reducible repeat (first|refine ag ?_ _|refine ai ?_|refine af ?_ _));exact fw.out) hb)
              have dX:=aj.mk (ay (by repeat (first|(with_reducible first|exact HB.out|apply au|apply ah|apply av|refine ak ?_ mr.out|refine ak ?_ nz.out|refine ak ?_ oL.out|refine ak ?_ p8.out)|exact HB.out)) hb)
              clear bq
              clear eG
              clear gM
              clear fw
              clear HB
              have bq:=bB
              have eG:=bC
              have gM:=bK
              have fw:=bP
              have HB:=dX
              clear bB bC bK bP dX
              (try clear hb)
              (try clear hb2)
              (try clear hk)
              (try clear hi)
              refine hK.out _ _ ⟨(aa eG.out 0).trans rfl,(aa eG.out 1).trans rfl,(aa eG.out 2).trans rfl,(aa eG.out 3).trans rfl,(aa bq.out 0).trans rfl,(aa bq.out 1).trans rfl,(aa bq.out 2).trans rfl,(aa bq.out 3).trans rfl,(aa bq.out 4).trans rfl,(aa bq.out 5).trans rfl,(aa bq.out 6).trans rfl,(aa bq.out 7).trans rfl,(aa bq.out 8).trans rfl⟩ (fun hHeld=>?_)
              clear hK K
              refine iP (a':=?_) ?_ ?_
              rotate_left
              ·show Act.put _ (some 49) _ = _
               simp only [Act.put,List.setIfInBounds_toArray,List.set_cons_zero,List.set_cons_succ,aZ,bf]
               rfl
              refine o7 (i:=4) (N:=some 50) #[true,true,true,true,true,false] rfl rfl (by kernel_rfl) (by decide) (fun K hK=>?_)
              refine kP Try.func104 (by kernel_rfl) rfl #[.agg #[.int .i64 bz,.int .i64 bA,.int .i64 bI,.int .i64 bJ],.agg #[.int .i64 Mm,.int .i64 Mo,.int .i64 Mq,.int .i64 Mr]] (by rfl) rfl rfl (by (try simp only [List.map_toArray,List.map_cons,List.map_nil]);first|done|rfl|(simp only [List.length_drop,List.length_take];rfl)) ?_
              with_reducible refine (iM.calls bz bA bI bJ Mm Mo Mq Mr true _ A28.out).mono ?_
              rintro e Sj ⟨rfl,hb⟩
              refine ⟨_,rfl,?_⟩
              have bB:=aj.mk (ax (g:=dx) (o:=.cells #[.int .i64 aC,.int .i64 aD,.int .i64 aG,.int .i64 aH,.int .i64 aN,.int .i64 aK,.int .i64 aJ,.slice bG aX.length bH,.slice bO aM.length bM] 25 (0,0)) (by (with_reducible repeat (first|refine ag ?_ _|refine ai ?_|refine af ?_ _));exact bq.out) hb)
              have bC:=aj.mk (ax (g:=jv) (o:=.cells #[.int .i64 bz,.int .i64 bA,.int .i64 bI,.int .i64 bJ] 31 (0,0)) (by (with_reducible repeat (first|refine ag ?_ _|refine ai ?_|refine af ?_ _));exact eG.out) hb)
              have bK:=aj.mk (ax (g:=lG) (o:=.cells #[.int .i64 0,.int .i64 0,.int .i64 0,.int .i64 0] 40 (0,0)) (by (with_reducible repeat (first|refine ag ?_ _|refine ai ?_|refine af ?_ _));exact gM.out) hb)
              have bP:=aj.mk (ax (g:=jM) (o:=.cells #[.int .i64 gF,.int .i64 fV,.int .i64 fI,.int .i64 fD] 40 (0,0)) (by (with_reducible repeat (first|refine ag ?_ _|refine ai ?_|refine af ?_ _));exact fw.out) hb)
              have dX:=aj.mk (ay (by repeat (first|(with_reducible first|exact HB.out|apply au|apply ah|apply av|refine ak ?_ mr.out|refine ak ?_ nz.out|refine ak ?_ oL.out|refine ak ?_ p8.out)|exact HB.out)) hb)
              clear bq
              clear eG
              clear gM
              clear fw
              clear HB
              have bq:=bB
              have eG:=bC
              have gM:=bK
              have fw:=bP
              have HB:=dX
              clear bB bC bK bP dX
              (try clear hb)
              (try clear hb2)
              (try clear hk)
              (try clear hi)
              refine hK.out _ _ ⟨(aa eG.out 0).trans rfl,(aa eG.out 1).trans rfl,(aa eG.out 2).trans rfl,(aa eG.out 3).trans rfl,(aa bq.out 0).trans rfl,(aa bq.out 1).trans rfl,(aa bq.out 2).trans rfl,(aa bq.out 3).trans rfl,(aa bq.out 4).trans rfl,(aa bq.out 5).trans rfl,(aa bq.out 6).trans rfl,(aa bq.out 7).trans rfl,(aa bq.out 8).trans rfl⟩ (fun hHeld=>?_)
              clear hK K
              refine iP (a':=?_) ?_ ?_
              rotate_left
              ·show Act.put _ (some 50) _ = _
               simp only [Act.put,List.setIfInBounds_toArray,List.set_cons_zero,List.set_cons_succ,aZ,bf]
               rfl
              refine bU (i:=5) (N:=some 51) (v:=?_) (a':=?_) #[true,true,true,true,true,true] rfl rfl (by kernel_rfl) (fun _ _ _ h=>h) (Or.inl ⟨by rfl,?_⟩) ?_ ?_
              rotate_left
              ·intro w'
               go_simp
               with_reducible rfl
              rotate_left
              ·simp only [Act.put,List.setIfInBounds_toArray,List.set_cons_zero,List.set_cons_succ,aZ,bf]
               rfl
              refine tT (by kernel_rfl) ?_
              have VE:Sj.cell? ⟨dx,0,none⟩ = some (.int .i64 aC):=(aa bq.out 0).trans rfl
              have VF:Sj.cell? ⟨dx,1,none⟩ = some (.int .i64 aD):=(aa bq.out 1).trans rfl
              have VG:Sj.cell? ⟨dx,2,none⟩ = some (.int .i64 aG):=(aa bq.out 2).trans rfl
              have VH:Sj.cell? ⟨dx,3,none⟩ = some (.int .i64 aH):=(aa bq.out 3).trans rfl
              have acb:Sj.cell? ⟨dx,4,none⟩ = some (.int .i64 aN):=(aa bq.out 4).trans rfl
              have acd:Sj.cell? ⟨dx,5,none⟩ = some (.int .i64 aK):=(aa bq.out 5).trans rfl
              have ace:Sj.cell? ⟨dx,6,none⟩ = some (.int .i64 aJ):=(aa bq.out 6).trans rfl
              have acf:Sj.cell? ⟨dx,7,none⟩ = some (.slice bG aX.length bH):=(aa bq.out 7).trans rfl
              have acg:Sj.cell? ⟨dx,8,none⟩ = some (.slice bO aM.length bM):=(aa bq.out 8).trans rfl
              have VI:=ae bq.out 0
              have VJ:=ae bq.out 1
              have VK:=ae bq.out 2
              have VL:=ae bq.out 3
              have ach:=ae bq.out 4
              have aci:=ae bq.out 5
              have acj:=ae bq.out 6
              have ack:=ae bq.out 7
              have acm:=ae bq.out 8
              have Sk:0≤((ig):Int):=of_decide_eq_true (by first|(with_reducible assumption)|assumption)
              have Sl:(ig) < (aM.length:Int):=of_decide_eq_true (by first|(with_reducible assumption)|assumption)
              obtain ⟨DC,ahm,Am,Ao,Ap,Aq⟩:=yE jm.out (ig) Sk Sl
              cases ahm
              replace Am:=(HB.out.cell (World.block_lt_of_cell? w _ Am)).trans Am
              replace Ao:=(HB.out.cell (World.block_lt_of_cell? w _ Ao)).trans Ao
              replace Ap:=(HB.out.cell (World.block_lt_of_cell? w _ Ap)).trans Ap
              replace Aq:=(HB.out.cell (World.block_lt_of_cell? w _ Aq)).trans Aq
              replace Sk:=eq_true Sk
              replace Sl:=eq_true Sl
              try go_wp2_with (first|((with_reducible refine bu (N:=15) rfl ?_);refine aY ?hg (N:=15) ?hd (cs:=#[.int .i64 0,.int .i64 0,.int .i64 0,.int .i64 0]) (t:=40) ?hr ?_;(case hd=>rfl);(case hg=>rfl);(case hr=>first|(go_simp;done)|(go_simp;rfl));intro gZ hg VM hbox hb;have bB:=aj.mk (ax (g:=dx) (o:=.cells #[.int .i64 aC,.int .i64 aD,.int .i64 aG,.int .i64 aH,.int .i64 aN,.int .i64 aK,.int .i64 aJ,.slice bG aX.length bH,.slice (some DC) aM.length bM] 25 (0,0)) (by (with_reducible repeat (first|refine ag ?_ _|refine ai ?_|refine af ?_ _));exact bq.out) hb);have bC:=aj.mk (ax (g:=jv) (o:=.cells #[.int .i64 bz,.int .i64 bA,.int .i64 bI,.int .i64 bJ] 31 (0,0)) (by (with_reducible repeat (first|refine ag ?_ _|refine ai ?_|refine af ?_ _));exact eG.out) hb);have bK:=aj.mk (ax (g:=lG) (o:=.cells #[.int .i64 0,.int .i64 0,.int .i64 0,.int .i64 0] 40 (0,0)) (by (with_reducible repeat (first|refine ag ?_ _|refine ai ?_|refine af ?_ _));exact gM.out) hb);have bP:=aj.mk (ax (g:=jM) (o:=.cells #[.int .i64 gF,.int .i64 fV,.int .i64 fI,.int .i64 fD] 40 (0,0)) (by (with_reducible repeat (first|refine ag ?_ _|refine ai ?_|refine af ?_ _));exact fw.out) hb);have dX:=aj.mk (ay (by repeat (first|(with_reducible first|exact HB.out|apply au|apply ah|apply av|refine ak ?_ mr.out|refine ak ?_ nz.out|refine ak ?_ oL.out|refine ak ?_ p8.out)|exact HB.out)) hb);have fB:=aj.mk (hbox);have gD:=aj.mk ((by rw [hg];exact (aA (by repeat (first|(with_reducible first|exact HB.out|apply au|apply ah|apply av|refine ak ?_ mr.out|refine ak ?_ nz.out|refine ak ?_ oL.out|refine ak ?_ p8.out)|exact HB.out))):w.heap.size≤gZ));have jK:=aj.mk ((by rw [hg];exact (aA (by repeat (first|(with_reducible first|exact HB.out|apply au|apply ah|apply av|refine ak ?_ mr.out|refine ak ?_ nz.out|refine ak ?_ oL.out|refine ak ?_ p8.out)|exact HB.out))):w.heap.size≤gZ));have jL:=aj.mk ((by rw [hg];exact Nat.ne_of_lt (aU (g:=dx) (o:=.cells #[.int .i64 aC,.int .i64 aD,.int .i64 aG,.int .i64 aH,.int .i64 aN,.int .i64 aK,.int .i64 aJ,.slice bG aX.length bH,.slice (some DC) aM.length bM] 25 (0,0)) (by (with_reducible repeat (first|refine ag ?_ _|refine ai ?_|refine af ?_ _));exact bq.out)):dx≠gZ));have kL:=aj.mk ((by rw [hg];exact Nat.ne_of_gt (aU (g:=dx) (o:=.cells #[.int .i64 aC,.int .i64 aD,.int .i64 aG,.int .i64 aH,.int .i64 aN,.int .i64 aK,.int .i64 aJ,.slice bG aX.length bH,.slice (some DC) aM.length bM] 25 (0,0)) (by (with_reducible repeat (first|refine ag ?_ _|refine ai ?_|refine af ?_ _));exact bq.out)):gZ≠dx));have lJ:=aj.mk ((by rw [hg];exact Nat.ne_of_lt (aU (g:=jv) (o:=.cells #[.int .i64 bz,.int .i64 bA,.int .i64 bI,.int .i64 bJ] 31 (0,0)) (by (with_reducible repeat (first|refine ag ?_ _|refine ai ?_|refine af ?_ _));exact eG.out)):jv≠gZ));have lZ:=aj.mk ((by rw [hg];exact Nat.ne_of_gt (aU (g:=jv) (o:=.cells #[.int .i64 bz,.int .i64 bA,.int .i64 bI,.int .i64 bJ] 31 (0,0)) (by (with_reducible repeat (first|refine ag ?_ _|refine ai ?_|refine af ?_ _));exact eG.out)):gZ≠jv));have oQ:=aj.mk ((by rw [hg];exact Nat.ne_of_lt (aU (g:=lG) (o:=.cells #[.int .i64 0,.int .i64 0,.int .i64 0,.int .i64 0] 40 (0,0)) (by (with_reducible repeat (first|refine ag ?_ _|refine ai ?_|refine af ?_ _));exact gM.out)):lG≠gZ));have sV:=aj.mk ((by rw [hg];exact Nat.ne_of_gt (aU (g:=lG) (o:=.cells #[.int .i64 0,.int .i64 0,.int .i64 0,.int .i64 0] 40 (0,0)) (by (with_reducible repeat (first|refine ag ?_ _|refine ai ?_|refine af ?_ _));exact gM.out)):gZ≠lG));have sW:=aj.mk ((by rw [hg];exact Nat.ne_of_lt (aU (g:=jM) (o:=.cells #[.int .i64 gF,.int .i64 fV,.int .i64 fI,.int .i64 fD] 40 (0,0)) (by (with_reducible repeat (first|refine ag ?_ _|refine ai ?_|refine af ?_ _));exact fw.out)):jM≠gZ));have sZ:=aj.mk ((by rw [hg];exact Nat.ne_of_gt (aU (g:=jM) (o:=.cells #[.int .i64 gF,.int .i64 fV,.int .i64 fI,.int .i64 fD] 40 (0,0)) (by (with_reducible repeat (first|refine ag ?_ _|refine ai ?_|refine af ?_ _));exact fw.out)):gZ≠jM));clear bq;clear eG;clear gM;clear fw;clear HB;have bq:=bB;have eG:=bC;have gM:=bK;have fw:=bP;have HB:=dX;have iQ:=fB;have anZ:=gD;have M4:=jK;have jN:=jL;have uE:=kL;have jO:=lJ;have uF:=lZ;have jP:=oQ;have uG:=sV;have jQ:=sW;have uH:=sZ;clear bB bC bK bP dX fB gD jK jL kL lJ lZ oQ sV sW sZ;clear hb hbox hg;have aje:=uE.out;have ajf:=jN.out;have afY:=uF.out;have afZ:=jO.out;have aC1:=uG.out;have aC2:=jP.out;have aC3:=uH.out;have aC4:=jQ.out;have acn:VM.cell? ⟨gZ,0,none⟩ = some (.int .i64 0):=(aa iQ.out 0).trans rfl;have aco:VM.cell? ⟨gZ,1,none⟩ = some (.int .i64 0):=(aa iQ.out 1).trans rfl;have acp:VM.cell? ⟨gZ,2,none⟩ = some (.int .i64 0):=(aa iQ.out 2).trans rfl;have acr:VM.cell? ⟨gZ,3,none⟩ = some (.int .i64 0):=(aa iQ.out 3).trans rfl;have acs:=ae iQ.out 0;have acu:=ae iQ.out 1;have acv:=ae iQ.out 2;have acw:=ae iQ.out 3))
              have bB:aj (((((VM.setCell ⟨gZ,0,none⟩ (.int .i64 ((bn aM (ig)).f0.f0))).setCell ⟨gZ,1,none⟩ (.int .i64 ((bn aM (ig)).f0.f1))).setCell ⟨gZ,2,none⟩ (.int .i64 ((bn aM (ig)).f1.f0))).setCell ⟨gZ,3,none⟩ (.int .i64 ((bn aM (ig)).f1.f1))).heap[dx]? = some (.cells #[.int .i64 aC,.int .i64 aD,.int .i64 aG,.int .i64 aH,.int .i64 aN,.int .i64 aK,.int .i64 aJ,.slice bG aX.length bH,.slice (some DC) aM.length bM] 25 (0,0))):=⟨by (with_reducible repeat (first|refine ag ?_ _|refine ai ?_|refine af ?_ _));refine az ?_ jN.out _;(with_reducible repeat (first|refine ag ?_ _|refine ai ?_|refine af ?_ _));refine az ?_ jN.out _;(with_reducible repeat (first|refine ag ?_ _|refine ai ?_|refine af ?_ _));refine az ?_ jN.out _;(with_reducible repeat (first|refine ag ?_ _|refine ai ?_|refine af ?_ _));refine az ?_ jN.out _;(with_reducible repeat (first|refine ag ?_ _|refine ai ?_|refine af ?_ _));exact bq.out⟩
              have bC:aj (((((VM.setCell ⟨gZ,0,none⟩ (.int .i64 ((bn aM (ig)).f0.f0))).setCell ⟨gZ,1,none⟩ (.int .i64 ((bn aM (ig)).f0.f1))).setCell ⟨gZ,2,none⟩ (.int .i64 ((bn aM (ig)).f1.f0))).setCell ⟨gZ,3,none⟩ (.int .i64 ((bn aM (ig)).f1.f1))).heap[jv]? = some (.cells #[.int .i64 bz,.int .i64 bA,.int .i64 bI,.int .i64 bJ] 31 (0,0))):=⟨by (with_reducible repeat (first|refine ag ?_ _|refine ai ?_|refine af ?_ _));refine az ?_ jO.out _;(with_reducible repeat (first|refine ag ?_ _|refine ai ?_|refine af ?_ _));refine az ?_ jO.out _;(with_reducible repeat (first|refine ag ?_ _|refine ai ?_|refine af ?_ _));refine az ?_ jO.out _;(with_reducible repeat (first|refine ag ?_ _|refine ai ?_|refine af ?_ _));refine az ?_ jO.out _;(with_reducible repeat (first|refine ag ?_ _|refine ai ?_|refine af ?_ _));exact eG.out⟩
              have bK:aj (((((VM.setCell ⟨gZ,0,none⟩ (.int .i64 ((bn aM (ig)).f0.f0))).setCell ⟨gZ,1,none⟩ (.int .i64 ((bn aM (ig)).f0.f1))).setCell ⟨gZ,2,none⟩ (.int .i64 ((bn aM (ig)).f1.f0))).setCell ⟨gZ,3,none⟩ (.int .i64 ((bn aM (ig)).f1.f1))).heap[lG]? = some (.cells #[.int .i64 0,.int .i64 0,.int .i64 0,.int .i64 0] 40 (0,0))):=⟨by (with_reducible repeat (first|refine ag ?_ _|refine ai ?_|refine af ?_ _));refine az ?_ jP.out _;(with_reducible repeat (first|refine ag ?_ _|refine ai ?_|refine af ?_ _));refine az ?_ jP.out _;(with_reducible repeat (first|refine ag ?_ _|refine ai ?_|refine af ?_ _));refine az ?_ jP.out _;(with_reducible repeat (first|refine ag ?_ _|refine ai ?_|refine af ?_ _));refine az ?_ jP.out _;(with_reducible repeat (first|refine ag ?_ _|refine ai ?_|refine af ?_ _));exact gM.out⟩
              have bP:aj (((((VM.setCell ⟨gZ,0,none⟩ (.int .i64 ((bn aM (ig)).f0.f0))).setCell ⟨gZ,1,none⟩ (.int .i64 ((bn aM (ig)).f0.f1))).setCell ⟨gZ,2,none⟩ (.int .i64 ((bn aM (ig)).f1.f0))).setCell ⟨gZ,3,none⟩ (.int .i64 ((bn aM (ig)).f1.f1))).heap[jM]? = some (.cells #[.int .i64 gF,.int .i64 fV,.int .i64 fI,.int .i64 fD] 40 (0,0))):=⟨by (with_reducible repeat (first|refine ag ?_ _|refine ai ?_|refine af ?_ _));refine az ?_ jQ.out _;(with_reducible repeat (first|refine ag ?_ _|refine ai ?_|refine af ?_ _));refine az ?_ jQ.out _;(with_reducible repeat (first|refine ag ?_ _|refine ai ?_|refine af ?_ _));refine az ?_ jQ.out _;(with_reducible repeat (first|refine ag ?_ _|refine ai ?_|refine af ?_ _));refine az ?_ jQ.out _;(with_reducible repeat (first|refine ag ?_ _|refine ai ?_|refine af ?_ _));exact fw.out⟩
              have dX:aj (((((VM.setCell ⟨gZ,0,none⟩ (.int .i64 ((bn aM (ig)).f0.f0))).setCell ⟨gZ,1,none⟩ (.int .i64 ((bn aM (ig)).f0.f1))).setCell ⟨gZ,2,none⟩ (.int .i64 ((bn aM (ig)).f1.f0))).setCell ⟨gZ,3,none⟩ (.int .i64 ((bn aM (ig)).f1.f1))).heap[gZ]? = some (.cells #[.int .i64 ((bn aM (ig)).f0.f0),.int .i64 ((bn aM (ig)).f0.f1),.int .i64 ((bn aM (ig)).f1.f0),.int .i64 ((bn aM (ig)).f1.f1)] 40 (0,0))):=⟨by (with_reducible repeat (first|refine ag ?_ _|refine ai ?_|refine af ?_ _));refine aW (cs:=#[.int .i64 ((bn aM (ig)).f0.f0),.int .i64 ((bn aM (ig)).f0.f1),.int .i64 ((bn aM (ig)).f1.f0),.int .i64 0]) ?_ 3 _ rfl;(with_reducible repeat (first|refine ag ?_ _|refine ai ?_|refine af ?_ _));refine aW (cs:=#[.int .i64 ((bn aM (ig)).f0.f0),.int .i64 ((bn aM (ig)).f0.f1),.int .i64 0,.int .i64 0]) ?_ 2 _ rfl;(with_reducible repeat (first|refine ag ?_ _|refine ai ?_|refine af ?_ _));refine aW (cs:=#[.int .i64 ((bn aM (ig)).f0.f0),.int .i64 0,.int .i64 0,.int .i64 0]) ?_ 1 _ rfl;(with_reducible repeat (first|refine ag ?_ _|refine ai ?_|refine af ?_ _));refine aW (cs:=#[.int .i64 0,.int .i64 0,.int .i64 0,.int .i64 0]) ?_ 0 _ rfl;(with_reducible repeat (first|refine ag ?_ _|refine ai ?_|refine af ?_ _));exact iQ.out⟩
              have fB:aj (Below w.heap.size w ((((VM.setCell ⟨gZ,0,none⟩ (.int .i64 ((bn aM (ig)).f0.f0))).setCell ⟨gZ,1,none⟩ (.int .i64 ((bn aM (ig)).f0.f1))).setCell ⟨gZ,2,none⟩ (.int .i64 ((bn aM (ig)).f1.f0))).setCell ⟨gZ,3,none⟩ (.int .i64 ((bn aM (ig)).f1.f1)))):=⟨by repeat (first|(with_reducible first|exact HB.out|apply au|apply ah|apply av|refine ak ?_ mr.out|refine ak ?_ nz.out|refine ak ?_ oL.out|refine ak ?_ p8.out|refine ak ?_ M4.out)|exact HB.out)⟩
              (try clear bq)
              (try clear eG)
              (try clear gM)
              (try clear fw)
              (try clear iQ)
              (try clear HB)
              generalize ((((VM.setCell ⟨gZ,0,none⟩ (.int .i64 ((bn aM (ig)).f0.f0))).setCell ⟨gZ,1,none⟩ (.int .i64 ((bn aM (ig)).f0.f1))).setCell ⟨gZ,2,none⟩ (.int .i64 ((bn aM (ig)).f1.f0))).setCell ⟨gZ,3,none⟩ (.int .i64 ((bn aM (ig)).f1.f1))) = w50 at bB bC bK bP dX fB ⊢
              have bq:=bB
              have eG:=bC
              have gM:=bK
              have fw:=bP
              have iQ:=dX
              have HB:=fB
              clear bB bC bK bP dX fB
              have bB:=aj.mk (ai bq.out)
              have bC:=aj.mk (ai eG.out)
              have bK:=aj.mk (ai gM.out)
              have bP:=aj.mk (ai fw.out)
              have dX:=aj.mk (ai iQ.out)
              have fB:=aj.mk (av HB.out)
              clear bq
              clear eG
              clear gM
              clear fw
              clear iQ
              clear HB
              have bq:=bB
              have eG:=bC
              have gM:=bK
              have fw:=bP
              have iQ:=dX
              have HB:=fB
              clear bB bC bK bP dX fB
              refine qg (n:=12) (S:=fun w'=>w'.cell? ⟨jM,0,none⟩ = some (.int .i64 gF)∧w'.cell? ⟨jM,1,none⟩ = some (.int .i64 fV)∧w'.cell? ⟨jM,2,none⟩ = some (.int .i64 fI)∧w'.cell? ⟨jM,3,none⟩ = some (.int .i64 fD)∧w'.cell? ⟨gZ,0,none⟩ = some (.int .i64 ((bn aM (ig)).f0.f0))∧w'.cell? ⟨gZ,1,none⟩ = some (.int .i64 ((bn aM (ig)).f0.f1))∧w'.cell? ⟨gZ,2,none⟩ = some (.int .i64 ((bn aM (ig)).f1.f0))∧w'.cell? ⟨gZ,3,none⟩ = some (.int .i64 ((bn aM (ig)).f1.f1))) (ds:=[11]) #[false,false,false,false,false,false,false,false,false,false,false,false] (by kernel_rfl) rfl rfl ⟨(aa fw.out 0).trans rfl,(aa fw.out 1).trans rfl,(aa fw.out 2).trans rfl,(aa fw.out 3).trans rfl,(aa iQ.out 0).trans rfl,(aa iQ.out 1).trans rfl,(aa iQ.out 2).trans rfl,(aa iQ.out 3).trans rfl⟩ (fun hHeld=>?_);refine si bF.anV bF.ahj (fun iD wX=>?_)
              generalize w50.drew = w51 at bq eG gM fw iQ HB hHeld ⊢
              refine bU (i:=0) (N:=some 71) (v:=?_) (a':=?_) #[true,false,false,false,false,false,false,false,false,false,false,false] rfl rfl (dC iD.out (by kernel_rfl)) (fun _ _ _ h=>h) (Or.inl ⟨by rfl,?_⟩) ?_ ?_
              rotate_left
              ·intro w'
               go_simp
               with_reducible rfl
              rotate_left
              ·simp only [Act.put,List.setIfInBounds_toArray,List.set_cons_zero,List.set_cons_succ,aZ,bf]
               rfl
              refine bU (i:=2) (N:=some 73) (v:=?_) (a':=?_) #[true,false,true,false,false,false,false,false,false,false,false,false] rfl rfl (dC iD.out (by kernel_rfl)) (fun _ _ _ h=>h) (Or.inl ⟨by rfl,?_⟩) ?_ ?_
              rotate_left
              ·intro w'
               go_simp
               with_reducible rfl
              rotate_left
              ·simp only [Act.put,List.setIfInBounds_toArray,List.set_cons_zero,List.set_cons_succ,aZ,bf]
               rfl
              refine bU (i:=5) (N:=some 76) (v:=?_) (a':=?_) #[true,false,true,false,false,true,false,false,false,false,false,false] rfl rfl (dC iD.out (by kernel_rfl)) (fun _ _ _ h=>h) (Or.inl ⟨by rfl,?_⟩) ?_ ?_
              rotate_left
              ·intro w'
               go_simp
               with_reducible rfl
              rotate_left
              ·simp only [Act.put,List.setIfInBounds_toArray,List.set_cons_zero,List.set_cons_succ,aZ,bf]
               rfl
              refine bU (i:=7) (N:=some 78) (v:=?_) (a':=?_) #[true,false,true,false,false,true,false,true,false,false,false,false] rfl rfl (dC iD.out (by kernel_rfl)) (fun _ _ _ h=>h) (Or.inl ⟨by rfl,?_⟩) ?_ ?_
              rotate_left
              ·intro w'
               go_simp
               with_reducible rfl
              rotate_left
              ·simp only [Act.put,List.setIfInBounds_toArray,List.set_cons_zero,List.set_cons_succ,aZ,bf]
               rfl
              refine gB (i:=1) (N:=some 72) (v:=?_) (a':=?_) #[true,true,true,false,false,true,false,true,false,false,false,false] rfl rfl (gJ iD.out wX.out (by kernel_rfl)) (fun _ _ _ h=>h) (Or.inl ⟨by rfl,?_⟩) hHeld ?_ ?_
              rotate_left
              ·rintro w' ⟨s0,s1,s2,s3,s4,s5,s6,s7⟩
               go_simp
               with_reducible rfl
              rotate_left
              ·simp only [Act.put,List.setIfInBounds_toArray,List.set_cons_zero,List.set_cons_succ,aZ,bf]
               rfl
              refine gB (i:=3) (N:=some 74) (v:=?_) (a':=?_) #[true,true,true,true,false,true,false,true,false,false,false,false] rfl rfl (gJ iD.out wX.out (by kernel_rfl)) (fun _ _ _ h=>h) (Or.inl ⟨by rfl,?_⟩) hHeld ?_ ?_
              rotate_left
              ·rintro w' ⟨s0,s1,s2,s3,s4,s5,s6,s7⟩
               go_simp
               with_reducible rfl
              rotate_left
              ·simp only [Act.put,List.setIfInBounds_toArray,List.set_cons_zero,List.set_cons_succ,aZ,bf]
               rfl
              refine gB (i:=6) (N:=some 77) (v:=?_) (a':=?_) #[true,true,true,true,false,true,true,true,false,false,false,false] rfl rfl (gJ iD.out wX.out (by kernel_rfl)) (fun _ _ _ h=>h) (Or.inl ⟨by rfl,?_⟩) hHeld ?_ ?_
              rotate_left
              ·rintro w' ⟨s0,s1,s2,s3,s4,s5,s6,s7⟩
               go_simp
               with_reducible rfl
              rotate_left
              ·simp only [Act.put,List.setIfInBounds_toArray,List.set_cons_zero,List.set_cons_succ,aZ,bf]
               rfl
              refine gB (i:=8) (N:=some 79) (v:=?_) (a':=?_) #[true,true,true,true,false,true,true,true,true,false,false,false] rfl rfl (gJ iD.out wX.out (by kernel_rfl)) (fun _ _ _ h=>h) (Or.inl ⟨by rfl,?_⟩) hHeld ?_ ?_
              rotate_left
              ·rintro w' ⟨s0,s1,s2,s3,s4,s5,s6,s7⟩
               go_simp
               with_reducible rfl
              rotate_left
              ·simp only [Act.put,List.setIfInBounds_toArray,List.set_cons_zero,List.set_cons_succ,aZ,bf]
               rfl
              refine o7 (i:=4) (N:=some 75) #[true,true,true,true,true,true,true,true,true,false,false,false] rfl rfl (l9 iD.out (by kernel_rfl)) (by decide) (fun K hK=>?_)
              refine kP Try.func120 (by kernel_rfl) rfl #[.agg #[.int .i64 gF,.int .i64 fV],.agg #[.int .i64 ((bn aM (ig)).f0.f0),.int .i64 ((bn aM (ig)).f0.f1)]] (by rfl) rfl rfl (by (try simp only [List.map_toArray,List.map_cons,List.map_nil]);first|done|(simp only [Lc];rfl)|rfl|(simp only [List.length_drop,List.length_take];rfl)) ?_
              with_reducible refine (fJ.calls gF fV ((bn aM (ig)).f0.f0) ((bn aM (ig)).f0.f1) Si Yw _ A34.out).mono ?_
              rintro e w52 ⟨rfl,hb⟩
              refine ⟨_,rfl,?_⟩
              have bB:=aj.mk (ax (g:=dx) (o:=.cells #[.int .i64 aC,.int .i64 aD,.int .i64 aG,.int .i64 aH,.int .i64 aN,.int .i64 aK,.int .i64 aJ,.slice bG aX.length bH,.slice (some DC) aM.length bM] 25 (0,0)) (by (with_reducible repeat (first|refine ag ?_ _|refine ai ?_|refine af ?_ _));exact bq.out) hb)
              have bC:=aj.mk (ax (g:=jv) (o:=.cells #[.int .i64 bz,.int .i64 bA,.int .i64 bI,.int .i64 bJ] 31 (0,0)) (by (with_reducible repeat (first|refine ag ?_ _|refine ai ?_|refine af ?_ _));exact eG.out) hb)
              have bK:=aj.mk (ax (g:=lG) (o:=.cells #[.int .i64 0,.int .i64 0,.int .i64 0,.int .i64 0] 40 (0,0)) (by (with_reducible repeat (first|refine ag ?_ _|refine ai ?_|refine af ?_ _));exact gM.out) hb)
              have bP:=aj.mk (ax (g:=jM) (o:=.cells #[.int .i64 gF,.int .i64 fV,.int .i64 fI,.int .i64 fD] 40 (0,0)) (by (with_reducible repeat (first|refine ag ?_ _|refine ai ?_|refine af ?_ _));exact fw.out) hb)
              have dX:=aj.mk (ax (g:=gZ) (o:=.cells #[.int .i64 ((bn aM (ig)).f0.f0),.int .i64 ((bn aM (ig)).f0.f1),.int .i64 ((bn aM (ig)).f1.f0),.int .i64 ((bn aM (ig)).f1.f1)] 40 (0,0)) (by (with_reducible repeat (first|refine ag ?_ _|refine ai ?_|refine af ?_ _));exact iQ.out) hb)
              have fB:=aj.mk (ay (by repeat (first|(with_reducible first|exact HB.out|apply au|apply ah|apply av|refine ak ?_ mr.out|refine ak ?_ nz.out|refine ak ?_ oL.out|refine ak ?_ p8.out|refine ak ?_ M4.out)|exact HB.out)) hb)
              clear bq
              clear eG
              clear gM
              clear fw
              clear iQ
              clear HB
              have bq:=bB
              have eG:=bC
              have gM:=bK
              have fw:=bP
              have iQ:=dX
              have HB:=fB
              clear bB bC bK bP dX fB
              (try clear hb)
              (try clear hb2)
              (try clear hk)
              (try clear hi)
              refine hK.out _ _ ⟨(aa fw.out 0).trans rfl,(aa fw.out 1).trans rfl,(aa fw.out 2).trans rfl,(aa fw.out 3).trans rfl,(aa iQ.out 0).trans rfl,(aa iQ.out 1).trans rfl,(aa iQ.out 2).trans rfl,(aa iQ.out 3).trans rfl⟩ (fun hHeld=>?_)
              clear hK K
              refine iP (a':=?_) ?_ ?_
              rotate_left
              ·show Act.put _ (some 75) _ = _
               simp only [Act.put,List.setIfInBounds_toArray,List.set_cons_zero,List.set_cons_succ,aZ,bf]
               rfl
              refine o7 (i:=9) (N:=some 80) #[true,true,true,true,true,true,true,true,true,true,false,false] rfl rfl (l9 iD.out (by kernel_rfl)) (by decide) (fun K hK=>?_)
              refine kP Try.func120 (by kernel_rfl) rfl #[.agg #[.int .i64 fI,.int .i64 fD],.agg #[.int .i64 ((bn aM (ig)).f1.f0),.int .i64 ((bn aM (ig)).f1.f1)]] (by rfl) rfl rfl (by (try simp only [List.map_toArray,List.map_cons,List.map_nil]);first|done|(simp only [Lc];rfl)|rfl|(simp only [List.length_drop,List.length_take];rfl)) ?_
              with_reducible refine (fJ.calls fI fD ((bn aM (ig)).f1.f0) ((bn aM (ig)).f1.f1) ab4 ahl _ A35.out).mono ?_
              rintro e Yx ⟨rfl,hb⟩
              refine ⟨_,rfl,?_⟩
              have bB:=aj.mk (ax (g:=dx) (o:=.cells #[.int .i64 aC,.int .i64 aD,.int .i64 aG,.int .i64 aH,.int .i64 aN,.int .i64 aK,.int .i64 aJ,.slice bG aX.length bH,.slice (some DC) aM.length bM] 25 (0,0)) (by (with_reducible repeat (first|refine ag ?_ _|refine ai ?_|refine af ?_ _));exact bq.out) hb)
              have bC:=aj.mk (ax (g:=jv) (o:=.cells #[.int .i64 bz,.int .i64 bA,.int .i64 bI,.int .i64 bJ] 31 (0,0)) (by (with_reducible repeat (first|refine ag ?_ _|refine ai ?_|refine af ?_ _));exact eG.out) hb)
              have bK:=aj.mk (ax (g:=lG) (o:=.cells #[.int .i64 0,.int .i64 0,.int .i64 0,.int .i64 0] 40 (0,0)) (by (with_reducible repeat (first|refine ag ?_ _|refine ai ?_|refine af ?_ _));exact gM.out) hb)
              have bP:=aj.mk (ax (g:=jM) (o:=.cells #[.int .i64 gF,.int .i64 fV,.int .i64 fI,.int .i64 fD] 40 (0,0)) (by (with_reducible repeat (first|refine ag ?_ _|refine ai ?_|refine af ?_ _));exact fw.out) hb)
              have dX:=aj.mk (ax (g:=gZ) (o:=.cells #[.int .i64 ((bn aM (ig)).f0.f0),.int .i64 ((bn aM (ig)).f0.f1),.int .i64 ((bn aM (ig)).f1.f0),.int .i64 ((bn aM (ig)).f1.f1)] 40 (0,0)) (by (with_reducible repeat (first|refine ag ?_ _|refine ai ?_|refine af ?_ _));exact iQ.out) hb)
              have fB:=aj.mk (ay (by repeat (first|(with_reducible first|exact HB.out|apply au|apply ah|apply av|refine ak ?_ mr.out|refine ak ?_ nz.out|refine ak ?_ oL.out|refine ak ?_ p8.out|refine ak ?_ M4.out)|exact HB.out)) hb)
              clear bq
              clear eG
              clear gM
              clear fw
              clear iQ
              clear HB
              have bq:=bB
              have eG:=bC
              have gM:=bK
              have fw:=bP
              have iQ:=dX
              have HB:=fB
              clear bB bC bK bP dX fB
              (try clear hb)
              (try clear hb2)
              (try clear hk)
              (try clear hi)
              refine hK.out _ _ ⟨(aa fw.out 0).trans rfl,(aa fw.out 1).trans rfl,(aa fw.out 2).trans rfl,(aa fw.out 3).trans rfl,(aa iQ.out 0).trans rfl,(aa iQ.out 1).trans rfl,(aa iQ.out 2).trans rfl,(aa iQ.out 3).trans rfl⟩ (fun hHeld=>?_)
              clear hK K
              refine iP (a':=?_) ?_ ?_
              rotate_left
              ·show Act.put _ (some 80) _ = _
               simp only [Act.put,List.setIfInBounds_toArray,List.set_cons_zero,List.set_cons_succ,aZ,bf]
               rfl
              refine bU (i:=10) (N:=some 81) (v:=?_) (a':=?_) #[true,true,true,true,true,true,true,true,true,true,true,false] rfl rfl (dC iD.out (by kernel_rfl)) (fun _ _ _ h=>h) (Or.inl ⟨by rfl,?_⟩) ?_ ?_
              rotate_left
              ·intro w'
               go_simp
               with_reducible rfl
              rotate_left
              ·simp only [Act.put,List.setIfInBounds_toArray,List.set_cons_zero,List.set_cons_succ,aZ,bf]
               rfl
              refine M5 (i:=11) (N:=none) #[true,true,true,true,true,true,true,true,true,true,true,true] rfl rfl (l9 iD.out (by kernel_rfl)) (by decide) (fun K hK=>?_)
              have aFh:Yx.cell? ⟨gZ,0,none⟩ = some (.int .i64 ((bn aM (ig)).f0.f0)):=(aa iQ.out 0).trans rfl
              have aC5:=ae iQ.out 0
              have aqQ:=jN.out
              have aqR:=jO.out
              have aqS:=jP.out
              have aqT:=jQ.out
              have aqU:=uE.out
              have aqV:=uF.out
              have aqW:=uG.out
              have aqX:=uH.out
              have aFi:Yx.cell? ⟨gZ,1,none⟩ = some (.int .i64 ((bn aM (ig)).f0.f1)):=(aa iQ.out 1).trans rfl
              have aC6:=ae iQ.out 1
              have aqY:=jN.out
              have aqZ:=jO.out
              have aq0:=jP.out
              have aq1:=jQ.out
              have aq2:=uE.out
              have aq3:=uF.out
              have aq4:=uG.out
              have aq5:=uH.out
              have aFj:Yx.cell? ⟨gZ,2,none⟩ = some (.int .i64 ((bn aM (ig)).f1.f0)):=(aa iQ.out 2).trans rfl
              have aC7:=ae iQ.out 2
              have aq6:=jN.out
              have aq7:=jO.out
              have aq8:=jP.out
              have aq9:=jQ.out
              have ara:=uE.out
              have arb:=uF.out
              have arc:=uG.out
              have ard:=uH.out
              have aFk:Yx.cell? ⟨gZ,3,none⟩ = some (.int .i64 ((bn aM (ig)).f1.f1)):=(aa iQ.out 3).trans rfl
              have aC8:=ae iQ.out 3
              have arf:=jN.out
              have arh:=jO.out
              have ari:=jP.out
              have arj:=jQ.out
              have ark:=uE.out
              have arl:=uF.out
              have arn:=uG.out
              have aro:=uH.out
              refine Ld (w1:=?_) (by rfl) rfl ?_ ?_
              rotate_left
              ·go_simp
               rfl
              refine hK.out _ _ ?_
              clear hK K
              refine tT (yh iD.out (by kernel_rfl)) ?_
              have acx:Yx.cell? ⟨gZ,0,none⟩ = some (.int .i64 ((bn aM (ig)).f0.f0)):=(aa iQ.out 0).trans rfl
              have acy:Yx.cell? ⟨gZ,1,none⟩ = some (.int .i64 ((bn aM (ig)).f0.f1)):=(aa iQ.out 1).trans rfl
              have acz:Yx.cell? ⟨gZ,2,none⟩ = some (.int .i64 ((bn aM (ig)).f1.f0)):=(aa iQ.out 2).trans rfl
              have acA:Yx.cell? ⟨gZ,3,none⟩ = some (.int .i64 ((bn aM (ig)).f1.f1)):=(aa iQ.out 3).trans rfl
              have acB:=ae iQ.out 0
              have acC:=ae iQ.out 1
              have acD:=ae iQ.out 2
              have acE:=ae iQ.out 3
              have aC9:=Ie.out
              have aDa:=oZ.out
              have aDb:=Ig.out
              have aDc:=o5.out
              have acF:Yx.cell? ⟨jM,0,none⟩ = some (.int .i64 gF):=(aa fw.out 0).trans rfl
              have acG:Yx.cell? ⟨jM,1,none⟩ = some (.int .i64 fV):=(aa fw.out 1).trans rfl
              have acH:Yx.cell? ⟨jM,2,none⟩ = some (.int .i64 fI):=(aa fw.out 2).trans rfl
              have acI:Yx.cell? ⟨jM,3,none⟩ = some (.int .i64 fD):=(aa fw.out 3).trans rfl
              have acJ:=ae fw.out 0
              have acK:=ae fw.out 1
              have acL:=ae fw.out 2
              have acM:=ae fw.out 3
              try go_wp2
              go_roundg k3
              case measure=>have:=GV.out;have:=Ml.out;have:=ZI.out;omega
              case rel=>exact ⟨(true),(wrap64 (iI+1)),(Si),(Yw),(ab4),(ahl),(by first|rfl|(simp;done)|(simp [*];done)),(by first|rfl|(simp;done)|(simp [*];done)),H',⟨by have:=GV.out;have:=Ml.out;have:=ZI.out;omega⟩,⟨by (with_reducible repeat (first|refine ag ?_ _|refine ai ?_|refine af ?_ _));refine az ?_ lD.out _;(with_reducible repeat (first|refine ag ?_ _|refine ai ?_|refine af ?_ _));refine az ?_ lD.out _;(with_reducible repeat (first|refine ag ?_ _|refine ai ?_|refine af ?_ _));refine az ?_ lD.out _;(with_reducible repeat (first|refine ag ?_ _|refine ai ?_|refine af ?_ _));refine az ?_ lD.out _;(with_reducible repeat (first|refine ag ?_ _|refine ai ?_|refine af ?_ _));refine az ?_ jN.out _;(with_reducible repeat (first|refine ag ?_ _|refine ai ?_|refine af ?_ _));refine az ?_ jN.out _;(with_reducible repeat (first|refine ag ?_ _|refine ai ?_|refine af ?_ _));refine az ?_ jN.out _;(with_reducible repeat (first|refine ag ?_ _|refine ai ?_|refine af ?_ _));refine az ?_ jN.out _;(with_reducible repeat (first|refine ag ?_ _|refine ai ?_|refine af ?_ _));exact bq.out⟩,⟨by (with_reducible repeat (first|refine ag ?_ _|refine ai ?_|refine af ?_ _));refine az ?_ oZ.out _;(with_reducible repeat (first|refine ag ?_ _|refine ai ?_|refine af ?_ _));refine az ?_ oZ.out _;(with_reducible repeat (first|refine ag ?_ _|refine ai ?_|refine af ?_ _));refine az ?_ oZ.out _;(with_reducible repeat (first|refine ag ?_ _|refine ai ?_|refine af ?_ _));refine az ?_ oZ.out _;(with_reducible repeat (first|refine ag ?_ _|refine ai ?_|refine af ?_ _));refine az ?_ jO.out _;(with_reducible repeat (first|refine ag ?_ _|refine ai ?_|refine af ?_ _));refine az ?_ jO.out _;(with_reducible repeat (first|refine ag ?_ _|refine ai ?_|refine af ?_ _));refine az ?_ jO.out _;(with_reducible repeat (first|refine ag ?_ _|refine ai ?_|refine af ?_ _));refine az ?_ jO.out _;(with_reducible repeat (first|refine ag ?_ _|refine ai ?_|refine af ?_ _));exact eG.out⟩,⟨by (with_reducible repeat (first|refine ag ?_ _|refine ai ?_|refine af ?_ _));refine az ?_ o5.out _;(with_reducible repeat (first|refine ag ?_ _|refine ai ?_|refine af ?_ _));refine az ?_ o5.out _;(with_reducible repeat (first|refine ag ?_ _|refine ai ?_|refine af ?_ _));refine az ?_ o5.out _;(with_reducible repeat (first|refine ag ?_ _|refine ai ?_|refine af ?_ _));refine az ?_ o5.out _;(with_reducible repeat (first|refine ag ?_ _|refine ai ?_|refine af ?_ _));refine az ?_ jP.out _;(with_reducible repeat (first|refine ag ?_ _|refine ai ?_|refine af ?_ _));refine az ?_ jP.out _;(with_reducible repeat (first|refine ag ?_ _|refine ai ?_|refine af ?_ _));refine az ?_ jP.out _;(with_reducible repeat (first|refine ag ?_ _|refine ai ?_|refine af ?_ _));refine az ?_ jP.out _;(with_reducible repeat (first|refine ag ?_ _|refine ai ?_|refine af ?_ _));exact gM.out⟩,⟨by (with_reducible repeat (first|refine ag ?_ _|refine ai ?_|refine af ?_ _));refine aW (cs:=#[.int .i64 Si,.int .i64 Yw,.int .i64 ab4,.int .i64 fD]) ?_ 3 _ rfl;(with_reducible repeat (first|refine ag ?_ _|refine ai ?_|refine af ?_ _));refine aW (cs:=#[.int .i64 Si,.int .i64 Yw,.int .i64 fI,.int .i64 fD]) ?_ 2 _ rfl;(with_reducible repeat (first|refine ag ?_ _|refine ai ?_|refine af ?_ _));refine aW (cs:=#[.int .i64 Si,.int .i64 fV,.int .i64 fI,.int .i64 fD]) ?_ 1 _ rfl;(with_reducible repeat (first|refine ag ?_ _|refine ai ?_|refine af ?_ _));refine aW (cs:=#[.int .i64 gF,.int .i64 fV,.int .i64 fI,.int .i64 fD]) ?_ 0 _ rfl;(with_reducible repeat (first|refine ag ?_ _|refine ai ?_|refine af ?_ _));refine az ?_ jQ.out _;(with_reducible repeat (first|refine ag ?_ _|refine ai ?_|refine af ?_ _));refine az ?_ jQ.out _;(with_reducible repeat (first|refine ag ?_ _|refine ai ?_|refine af ?_ _));refine az ?_ jQ.out _;(with_reducible repeat (first|refine ag ?_ _|refine ai ?_|refine af ?_ _));refine az ?_ jQ.out _;(with_reducible repeat (first|refine ag ?_ _|refine ai ?_|refine af ?_ _));exact fw.out⟩,⟨by repeat (first|(with_reducible first|exact HB.out|apply au|apply ah|apply av|refine ak ?_ mr.out|refine ak ?_ nz.out|refine ak ?_ oL.out|refine ak ?_ p8.out|refine ak ?_ M4.out)|exact HB.out)⟩⟩
             ·replace VD:=Bool.eq_false_iff.mpr VD
              subst VD
              have H1:(bF.l1 k3 a2 a3 a4 true iG (wrap64 (iI+1)) aC aD aG aH aN aK aJ aX aM bz bA bI bJ ((bn aM (ig)).f0.f0) ((bn aM (ig)).f0.f1) ((bn aM (ig)).f1.f0) ((bn aM (ig)).f1.f1)) = some (r1,r2,r3,r4):=by rw [if_neg (show ¬ (false = true) by decide)] at H;exact H
              clear H
              have H:=H1
              clear H1
              have H':=aj.mk H
              clear H
              have an0:=rV.out
              have an1:=rW.out
              have aDd:=rX.out
              have aDe:=rY.out
              have an2:=lD.out
              have an3:=rZ.out
              have acN:wr.cell? ⟨dx,0,none⟩ = some (.int .i64 aC):=(aa bq.out 0).trans rfl
              have acO:wr.cell? ⟨dx,1,none⟩ = some (.int .i64 aD):=(aa bq.out 1).trans rfl
              have acP:wr.cell? ⟨dx,2,none⟩ = some (.int .i64 aG):=(aa bq.out 2).trans rfl
              have acQ:wr.cell? ⟨dx,3,none⟩ = some (.int .i64 aH):=(aa bq.out 3).trans rfl
              have arp:wr.cell? ⟨dx,4,none⟩ = some (.int .i64 aN):=(aa bq.out 4).trans rfl
              have arq:wr.cell? ⟨dx,5,none⟩ = some (.int .i64 aK):=(aa bq.out 5).trans rfl
              have ars:wr.cell? ⟨dx,6,none⟩ = some (.int .i64 aJ):=(aa bq.out 6).trans rfl
              have art:wr.cell? ⟨dx,7,none⟩ = some (.slice bG aX.length bH):=(aa bq.out 7).trans rfl
              have aru:wr.cell? ⟨dx,8,none⟩ = some (.slice bO aM.length bM):=(aa bq.out 8).trans rfl
              have acR:=ae bq.out 0
              have acS:=ae bq.out 1
              have acT:=ae bq.out 2
              have acU:=ae bq.out 3
              have arv:=ae bq.out 4
              have arw:=ae bq.out 5
              have arx:=ae bq.out 6
              have ary:=ae bq.out 7
              have arz:=ae bq.out 8
              try go_wp2
              have bB:=aj.mk (ai bq.out)
              have bC:=aj.mk (ai eG.out)
              have bK:=aj.mk (ai gM.out)
              have bP:=aj.mk (ai fw.out)
              have dX:=aj.mk (av HB.out)
              clear bq
              clear eG
              clear gM
              clear fw
              clear HB
              have bq:=bB
              have eG:=bC
              have gM:=bK
              have fw:=bP
              have HB:=dX
              clear bB bC bK bP dX
              refine qg (n:=6) (S:=fun w'=>w'.cell? ⟨jv,0,none⟩ = some (.int .i64 bz)∧w'.cell? ⟨jv,1,none⟩ = some (.int .i64 bA)∧w'.cell? ⟨jv,2,none⟩ = some (.int .i64 bI)∧w'.cell? ⟨jv,3,none⟩ = some (.int .i64 bJ)∧w'.cell? ⟨dx,0,none⟩ = some (.int .i64 aC)∧w'.cell? ⟨dx,1,none⟩ = some (.int .i64 aD)∧w'.cell? ⟨dx,2,none⟩ = some (.int .i64 aG)∧w'.cell? ⟨dx,3,none⟩ = some (.int .i64 aH)∧w'.cell? ⟨dx,4,none⟩ = some (.int .i64 aN)∧w'.cell? ⟨dx,5,none⟩ = some (.int .i64 aK)∧w'.cell? ⟨dx,6,none⟩ = some (.int .i64 aJ)∧w'.cell? ⟨dx,7,none⟩ = some (.slice bG aX.length bH)∧w'.cell? ⟨dx,8,none⟩ = some (.slice bO aM.length bM)) (ds:=[]) #[false,false,false,false,false,false] (by kernel_rfl) rfl rfl ⟨(aa eG.out 0).trans rfl,(aa eG.out 1).trans rfl,(aa eG.out 2).trans rfl,(aa eG.out 3).trans rfl,(aa bq.out 0).trans rfl,(aa bq.out 1).trans rfl,(aa bq.out 2).trans rfl,(aa bq.out 3).trans rfl,(aa bq.out 4).trans rfl,(aa bq.out 5).trans rfl,(aa bq.out 6).trans rfl,(aa bq.out 7).trans rfl,(aa bq.out 8).trans rfl⟩ (fun hHeld=>?_)
              generalize wr.drew = w66 at bq eG gM fw HB hHeld ⊢
              refine bU (i:=2) (N:=some 48) (v:=?_) (a':=?_) #[false,false,true,false,false,false] rfl rfl (by kernel_rfl) (fun _ _ _ h=>h) (Or.inl ⟨by rfl,?_⟩) ?_ ?_
              rotate_left
              ·intro w'
               go_simp
               with_reducible rfl
              rotate_left
              ·simp only [Act.put,List.setIfInBounds_toArray,List.set_cons_zero,List.set_cons_succ,aZ,bf]
               rfl
              refine gB (i:=0) (N:=some 46) (v:=?_) (a':=?_) #[true,false,true,false,false,false] rfl rfl (by kernel_rfl) (fun _ _ _ h=>h) (Or.inl ⟨by rfl,?_⟩) hHeld ?_ ?_
              rotate_left
              ·rintro w' ⟨s0,s1,s2,s3,s4,s5,s6,s7,s8,s9,s10,s11,s12⟩
               go_simp
               with_reducible rfl
              rotate_left
              ·simp only [Act.put,List.setIfInBounds_toArray,List.set_cons_zero,List.set_cons_succ,aZ,bf]
               rfl
              refine gB (i:=1) (N:=some 47) (v:=?_) (a':=?_) #[true,true,true,false,false,false] rfl rfl (by kernel_rfl) (fun _ _ _ h=>h) (Or.inl ⟨by rfl,?_⟩) hHeld ?_ ?_
              rotate_left
              ·rintro w' ⟨s0,s1,s2,s3,s4,s5,s6,s7,s8,s9,s10,s11,s12⟩
               go_simp
               with_reducible rfl
              rotate_left
              ·simp only [Act.put,List.setIfInBounds_toArray,List.set_cons_zero,List.set_cons_succ,aZ,bf]
               rfl
              refine o7 (i:=3) (N:=some 49) #[true,true,true,true,false,false] rfl rfl (by kernel_rfl) (by decide) (fun K hK=>?_)
              refine kP Try.func42 (by kernel_rfl) rfl #[.agg #[.int .i64 aC,.int .i64 aD,.int .i64 aG,.int .i64 aH,.int .i64 aN,.int .i64 aK,.int .i64 aJ,.slice bG aX.length bH,.slice bO aM.length bM],.int .i64 iI] (by rfl) rfl rfl (by (try simp only [List.map_toArray,List.map_cons,List.map_nil]);first|done|rfl|(simp only [List.length_drop,List.length_take];rfl)) ?_
              with_reducible refine (jX.calls aC aD aG aH aN aK aJ _ _ aX _ _ aM iI Mm Mo Mq Mr _ ?gm ?gp ?gQ ?gT A27.out).mono ?_
              (case gm=>repeat (first|exact (Kd.dF jR.out HB.out)|(with_reducible refine Kd.dO ?_ _)|(with_reducible refine Kd.dP ?_ _)|(with_reducible refine Kd.eO ?_)))
              (case gp=>exact jS.out)
              (case gQ=>repeat (first|exact (Kd.dF jm.out HB.out)|(with_reducible refine Kd.dO ?_ _)|(with_reducible refine Kd.dP ?_ _)|(with_reducible refine Kd.eO ?_)))
              (case gT=>exact kg.out)
              rintro e w67 ⟨rfl,hb⟩
              refine ⟨_,rfl,?_⟩
              have bB:=aj.mk (ax (g:=dx) (o:=.cells #[.int .i64 aC,.int .i64 aD,.int .i64 aG,.int .i64 aH,.int .i64 aN,.int .i64 aK,.int .i64 aJ,.slice bG aX.length bH,.slice bO aM.length bM] 25 (0,0)) (by (with_reducible repeat (first|refine ag ?_ _|refine ai ?_|refine af ?_ _));exact bq.out) hb)
              have bC:=aj.mk (ax (g:=jv) (o:=.cells #[.int .i64 bz,.int .i64 bA,.int .i64 bI,.int .i64 bJ] 31 (0,0)) (by (with_reducible repeat (first|refine ag ?_ _|refine ai ?_|refine af ?_ _));exact eG.out) hb)
              have bK:=aj.mk (ax (g:=lG) (o:=.cells #[.int .i64 0,.int .i64 0,.int .i64 0,.int .i64 0] 40 (0,0)) (by (with_reducible repeat (first|refine ag ?_ _|refine ai ?_|refine af ?_ _));exact gM.out) hb)
              have bP:=aj.mk (ax (g:=jM) (o:=.cells #[.int .i64 gF,.int .i64 fV,.int .i64 fI,.int .i64 fD] 40 (0,0)) (by (with_reducible repeat (first|refine ag ?_ _|refine ai ?_|refine af ?_ _));exact fw.out) hb)
              have dX:=aj.mk (ay (by repeat (first|(with_reducible first|exact HB.out|apply au|apply ah|apply av|refine ak ?_ mr.out|refine ak ?_ nz.out|refine ak ?_ oL.out|refine ak ?_ p8.out)|exact HB.out)) hb)
              clear bq
              clear eG
              clear gM
              clear fw
              clear HB
              have bq:=bB
              have eG:=bC
              have gM:=bK
              have fw:=bP
              have HB:=dX
              clear bB bC bK bP dX
              (try clear hb)
              (try clear hb2)
              (try clear hk)
              (try clear hi)
              refine hK.out _ _ ⟨(aa eG.out 0).trans rfl,(aa eG.out 1).trans rfl,(aa eG.out 2).trans rfl,(aa eG.out 3).trans rfl,(aa bq.out 0).trans rfl,(aa bq.out 1).trans rfl,(aa bq.out 2).trans rfl,(aa bq.out 3).trans rfl,(aa bq.out 4).trans rfl,(aa bq.out 5).trans rfl,(aa bq.out 6).trans rfl,(aa bq.out 7).trans rfl,(aa bq.out 8).trans rfl⟩ (fun hHeld=>?_)
              clear hK K
              refine iP (a':=?_) ?_ ?_
              rotate_left
              ·show Act.put _ (some 49) _ = _
               simp only [Act.put,List.setIfInBounds_toArray,List.set_cons_zero,List.set_cons_succ,aZ,bf]
               rfl
              refine o7 (i:=4) (N:=some 50) #[true,true,true,true,true,false] rfl rfl (by kernel_rfl) (by decide) (fun K hK=>?_)
              refine kP Try.func104 (by kernel_rfl) rfl #[.agg #[.int .i64 bz,.int .i64 bA,.int .i64 bI,.int .i64 bJ],.agg #[.int .i64 Mm,.int .i64 Mo,.int .i64 Mq,.int .i64 Mr]] (by rfl) rfl rfl (by (try simp only [List.map_toArray,List.map_cons,List.map_nil]);first|done|rfl|(simp only [List.length_drop,List.length_take];rfl)) ?_
              with_reducible refine (iM.calls bz bA bI bJ Mm Mo Mq Mr true _ A28.out).mono ?_
              rintro e w68 ⟨rfl,hb⟩
              refine ⟨_,rfl,?_⟩
              have bB:=aj.mk (ax (g:=dx) (o:=.cells #[.int .i64 aC,.int .i64 aD,.int .i64 aG,.int .i64 aH,.int .i64 aN,.int .i64 aK,.int .i64 aJ,.slice bG aX.length bH,.slice bO aM.length bM] 25 (0,0)) (by (with_reducible repeat (first|refine ag ?_ _|refine ai ?_|refine af ?_ _));exact bq.out) hb)
              have bC:=aj.mk (ax (g:=jv) (o:=.cells #[.int .i64 bz,.int .i64 bA,.int .i64 bI,.int .i64 bJ] 31 (0,0)) (by (with_reducible repeat (first|refine ag ?_ _|refine ai ?_|refine af ?_ _));exact eG.out) hb)
              have bK:=aj.mk (ax (g:=lG) (o:=.cells #[.int .i64 0,.int .i64 0,.int .i64 0,.int .i64 0] 40 (0,0)) (by (with_reducible repeat (first|refine ag ?_ _|refine ai ?_|refine af ?_ _));exact gM.out) hb)
              have bP:=aj.mk (ax (g:=jM) (o:=.cells #[.int .i64 gF,.int .i64 fV,.int .i64 fI,.int .i64 fD] 40 (0,0)) (by (with_reducible repeat (first|refine ag ?_ _|refine ai ?_|refine af ?_ _));exact fw.out) hb)
              have dX:=aj.mk (ay (by repeat (first|(with_reducible first|exact HB.out|apply au|apply ah|apply av|refine ak ?_ mr.out|refine ak ?_ nz.out|refine ak ?_ oL.out|refine ak ?_ p8.out)|exact HB.out)) hb)
              clear bq
              clear eG
              clear gM
              clear fw
              clear HB
              have bq:=bB
              have eG:=bC
              have gM:=bK
              have fw:=bP
              have HB:=dX
              clear bB bC bK bP dX
              (try clear hb)
              (try clear hb2)
              (try clear hk)
              (try clear hi)
              refine hK.out _ _ ⟨(aa eG.out 0).trans rfl,(aa eG.out 1).trans rfl,(aa eG.out 2).trans rfl,(aa eG.out 3).trans rfl,(aa bq.out 0).trans rfl,(aa bq.out 1).trans rfl,(aa bq.out 2).trans rfl,(aa bq.out 3).trans rfl,(aa bq.out 4).trans rfl,(aa bq.out 5).trans rfl,(aa bq.out 6).trans rfl,(aa bq.out 7).trans rfl,(aa bq.out 8).trans rfl⟩ (fun hHeld=>?_)
              clear hK K
              refine iP (a':=?_) ?_ ?_
              rotate_left
              ·show Act.put _ (some 50) _ = _
               simp only [Act.put,List.setIfInBounds_toArray,List.set_cons_zero,List.set_cons_succ,aZ,bf]
               rfl
              refine bU (i:=5) (N:=some 51) (v:=?_) (a':=?_) #[true,true,true,true,true,true] rfl rfl (by kernel_rfl) (fun _ _ _ h=>h) (Or.inl ⟨by rfl,?_⟩) ?_ ?_
              rotate_left
              ·intro w'
               go_simp
               with_reducible rfl
              rotate_left
              ·simp only [Act.put,List.setIfInBounds_toArray,List.set_cons_zero,List.set_cons_succ,aZ,bf]
               rfl
              refine tT (by kernel_rfl) ?_
              have arA:w68.cell? ⟨dx,0,none⟩ = some (.int .i64 aC):=(aa bq.out 0).trans rfl
              have arB:w68.cell? ⟨dx,1,none⟩ = some (.int .i64 aD):=(aa bq.out 1).trans rfl
              have arC:w68.cell? ⟨dx,2,none⟩ = some (.int .i64 aG):=(aa bq.out 2).trans rfl
              have arD:w68.cell? ⟨dx,3,none⟩ = some (.int .i64 aH):=(aa bq.out 3).trans rfl
              have arE:w68.cell? ⟨dx,4,none⟩ = some (.int .i64 aN):=(aa bq.out 4).trans rfl
              have arF:w68.cell? ⟨dx,5,none⟩ = some (.int .i64 aK):=(aa bq.out 5).trans rfl
              have arG:w68.cell? ⟨dx,6,none⟩ = some (.int .i64 aJ):=(aa bq.out 6).trans rfl
              have arH:w68.cell? ⟨dx,7,none⟩ = some (.slice bG aX.length bH):=(aa bq.out 7).trans rfl
              have arI:w68.cell? ⟨dx,8,none⟩ = some (.slice bO aM.length bM):=(aa bq.out 8).trans rfl
              have arJ:=ae bq.out 0
              have arK:=ae bq.out 1
              have arL:=ae bq.out 2
              have arM:=ae bq.out 3
              have arN:=ae bq.out 4
              have arO:=ae bq.out 5
              have arP:=ae bq.out 6
              have arQ:=ae bq.out 7
              have arR:=ae bq.out 8
              have Sk:0≤((ig):Int):=of_decide_eq_true (by first|(with_reducible assumption)|assumption)
              have Sl:(ig) < (aM.length:Int):=of_decide_eq_true (by first|(with_reducible assumption)|assumption)
              obtain ⟨DC,ahm,Am,Ao,Ap,Aq⟩:=yE jm.out (ig) Sk Sl
              cases ahm
              replace Am:=(HB.out.cell (World.block_lt_of_cell? w _ Am)).trans Am
              replace Ao:=(HB.out.cell (World.block_lt_of_cell? w _ Ao)).trans Ao
              replace Ap:=(HB.out.cell (World.block_lt_of_cell? w _ Ap)).trans Ap
              replace Aq:=(HB.out.cell (World.block_lt_of_cell? w _ Aq)).trans Aq
              replace Sk:=eq_true Sk
              replace Sl:=eq_true Sl
              try go_wp2_with (first|((with_reducible refine bu (N:=15) rfl ?_);refine aY ?hg (N:=15) ?hd (cs:=#[.int .i64 0,.int .i64 0,.int .i64 0,.int .i64 0]) (t:=40) ?hr ?_;(case hd=>rfl);(case hg=>rfl);(case hr=>first|(go_simp;done)|(go_simp;rfl));intro gZ hg QF hbox hb;have bB:=aj.mk (ax (g:=dx) (o:=.cells #[.int .i64 aC,.int .i64 aD,.int .i64 aG,.int .i64 aH,.int .i64 aN,.int .i64 aK,.int .i64 aJ,.slice bG aX.length bH,.slice (some DC) aM.length bM] 25 (0,0)) (by (with_reducible repeat (first|refine ag ?_ _|refine ai ?_|refine af ?_ _));exact bq.out) hb);have bC:=aj.mk (ax (g:=jv) (o:=.cells #[.int .i64 bz,.int .i64 bA,.int .i64 bI,.int .i64 bJ] 31 (0,0)) (by (with_reducible repeat (first|refine ag ?_ _|refine ai ?_|refine af ?_ _));exact eG.out) hb);have bK:=aj.mk (ax (g:=lG) (o:=.cells #[.int .i64 0,.int .i64 0,.int .i64 0,.int .i64 0] 40 (0,0)) (by (with_reducible repeat (first|refine ag ?_ _|refine ai ?_|refine af ?_ _));exact gM.out) hb);have bP:=aj.mk (ax (g:=jM) (o:=.cells #[.int .i64 gF,.int .i64 fV,.int .i64 fI,.int .i64 fD] 40 (0,0)) (by (with_reducible repeat (first|refine ag ?_ _|refine ai ?_|refine af ?_ _));exact fw.out) hb);have dX:=aj.mk (ay (by repeat (first|(with_reducible first|exact HB.out|apply au|apply ah|apply av|refine ak ?_ mr.out|refine ak ?_ nz.out|refine ak ?_ oL.out|refine ak ?_ p8.out)|exact HB.out)) hb);have fB:=aj.mk (hbox);have gD:=aj.mk ((by rw [hg];exact (aA (by repeat (first|(with_reducible first|exact HB.out|apply au|apply ah|apply av|refine ak ?_ mr.out|refine ak ?_ nz.out|refine ak ?_ oL.out|refine ak ?_ p8.out)|exact HB.out))):w.heap.size≤gZ));have jK:=aj.mk ((by rw [hg];exact (aA (by repeat (first|(with_reducible first|exact HB.out|apply au|apply ah|apply av|refine ak ?_ mr.out|refine ak ?_ nz.out|refine ak ?_ oL.out|refine ak ?_ p8.out)|exact HB.out))):w.heap.size≤gZ));have jL:=aj.mk ((by rw [hg];exact Nat.ne_of_lt (aU (g:=dx) (o:=.cells #[.int .i64 aC,.int .i64 aD,.int .i64 aG,.int .i64 aH,.int .i64 aN,.int .i64 aK,.int .i64 aJ,.slice bG aX.length bH,.slice (some DC) aM.length bM] 25 (0,0)) (by (with_reducible repeat (first|refine ag ?_ _|refine ai ?_|refine af ?_ _));exact bq.out)):dx≠gZ));have kL:=aj.mk ((by rw [hg];exact Nat.ne_of_gt (aU (g:=dx) (o:=.cells #[.int .i64 aC,.int .i64 aD,.int .i64 aG,.int .i64 aH,.int .i64 aN,.int .i64 aK,.int .i64 aJ,.slice bG aX.length bH,.slice (some DC) aM.length bM] 25 (0,0)) (by (with_reducible repeat (first|refine ag ?_ _|refine ai ?_|refine af ?_ _));exact bq.out)):gZ≠dx));have lJ:=aj.mk ((by rw [hg];exact Nat.ne_of_lt (aU (g:=jv) (o:=.cells #[.int .i64 bz,.int .i64 bA,.int .i64 bI,.int .i64 bJ] 31 (0,0)) (by (with_reducible repeat (first|refine ag ?_ _|refine ai ?_|refine af ?_ _));exact eG.out)):jv≠gZ));have lZ:=aj.mk ((by rw [hg];exact Nat.ne_of_gt (aU (g:=jv) (o:=.cells #[.int .i64 bz,.int .i64 bA,.int .i64 bI,.int .i64 bJ] 31 (0,0)) (by (with_reducible repeat (first|refine ag ?_ _|refine ai ?_|refine af ?_ _));exact eG.out)):gZ≠jv));have oQ:=aj.mk ((by rw [hg];exact Nat.ne_of_lt (aU (g:=lG) (o:=.cells #[.int .i64 0,.int .i64 0,.int .i64 0,.int .i64 0] 40 (0,0)) (by (with_reducible repeat (first|refine ag ?_ _|refine ai ?_|refine af ?_ _));exact gM.out)):lG≠gZ));have sV:=aj.mk ((by rw [hg];exact Nat.ne_of_gt (aU (g:=lG) (o:=.cells #[.int .i64 0,.int .i64 0,.int .i64 0,.int .i64 0] 40 (0,0)) (by (with_reducible repeat (first|refine ag ?_ _|refine ai ?_|refine af ?_ _));exact gM.out)):gZ≠lG));have sW:=aj.mk ((by rw [hg];exact Nat.ne_of_lt (aU (g:=jM) (o:=.cells #[.int .i64 gF,.int .i64 fV,.int .i64 fI,.int .i64 fD] 40 (0,0)) (by (with_reducible repeat (first|refine ag ?_ _|refine ai ?_|refine af ?_ _));exact fw.out)):jM≠gZ));have sZ:=aj.mk ((by rw [hg];exact Nat.ne_of_gt (aU (g:=jM) (o:=.cells #[.int .i64 gF,.int .i64 fV,.int .i64 fI,.int .i64 fD] 40 (0,0)) (by (with_reducible repeat (first|refine ag ?_ _|refine ai ?_|refine af ?_ _));exact fw.out)):gZ≠jM));clear bq;clear eG;clear gM;clear fw;clear HB;have bq:=bB;have eG:=bC;have gM:=bK;have fw:=bP;have HB:=dX;have iQ:=fB;have anZ:=gD;have M4:=jK;have jN:=jL;have uE:=kL;have jO:=lJ;have uF:=lZ;have jP:=oQ;have uG:=sV;have jQ:=sW;have uH:=sZ;clear bB bC bK bP dX fB gD jK jL kL lJ lZ oQ sV sW sZ;clear hb hbox hg;have af3:=uE.out;have af4:=jN.out;have Zo:=uF.out;have Zp:=jO.out;have ajt:=uG.out;have aju:=jP.out;have ajv:=uH.out;have ajw:=jQ.out;have arS:QF.cell? ⟨gZ,0,none⟩ = some (.int .i64 0):=(aa iQ.out 0).trans rfl;have arT:QF.cell? ⟨gZ,1,none⟩ = some (.int .i64 0):=(aa iQ.out 1).trans rfl;have arU:QF.cell? ⟨gZ,2,none⟩ = some (.int .i64 0):=(aa iQ.out 2).trans rfl;have arV:QF.cell? ⟨gZ,3,none⟩ = some (.int .i64 0):=(aa iQ.out 3).trans rfl;have arW:=ae iQ.out 0;have arX:=ae iQ.out 1;have arY:=ae iQ.out 2;have arZ:=ae iQ.out 3;have aDf:=Ie.out;have aDg:=oZ.out;have aDh:=Ig.out;have aDi:=o5.out;have acV:QF.cell? ⟨jM,0,none⟩ = some (.int .i64 gF):=(aa fw.out 0).trans rfl;have acW:QF.cell? ⟨jM,1,none⟩ = some (.int .i64 fV):=(aa fw.out 1).trans rfl;have acX:QF.cell? ⟨jM,2,none⟩ = some (.int .i64 fI):=(aa fw.out 2).trans rfl;have acY:QF.cell? ⟨jM,3,none⟩ = some (.int .i64 fD):=(aa fw.out 3).trans rfl;have acZ:=ae fw.out 0;have ac0:=ae fw.out 1;have ac1:=ae fw.out 2;have ac2:=ae fw.out 3))
              go_roundg k3
              case measure=>have:=GV.out;have:=Ml.out;have:=ZI.out;omega
              case rel=>exact ⟨(true),(wrap64 (iI+1)),((bn aM (ig)).f0.f0),((bn aM (ig)).f0.f1),((bn aM (ig)).f1.f0),((bn aM (ig)).f1.f1),(by first|rfl|(simp;done)|(simp [*];done)),(by first|rfl|(simp;done)|(simp [*];done)),H',⟨by have:=GV.out;have:=Ml.out;have:=ZI.out;omega⟩,⟨by (with_reducible repeat (first|refine ag ?_ _|refine ai ?_|refine af ?_ _));refine az ?_ lD.out _;(with_reducible repeat (first|refine ag ?_ _|refine ai ?_|refine af ?_ _));refine az ?_ lD.out _;(with_reducible repeat (first|refine ag ?_ _|refine ai ?_|refine af ?_ _));refine az ?_ lD.out _;(with_reducible repeat (first|refine ag ?_ _|refine ai ?_|refine af ?_ _));refine az ?_ lD.out _;(with_reducible repeat (first|refine ag ?_ _|refine ai ?_|refine af ?_ _));refine az ?_ jN.out _;(with_reducible repeat (first|refine ag ?_ _|refine ai ?_|refine af ?_ _));refine az ?_ jN.out _;(with_reducible repeat (first|refine ag ?_ _|refine ai ?_|refine af ?_ _));refine az ?_ jN.out _;(with_reducible repeat (first|refine ag ?_ _|refine ai ?_|refine af ?_ _));refine az ?_ jN.out _;(with_reducible repeat (first|refine ag ?_ _|refine ai ?_|refine af ?_ _));exact bq.out⟩,⟨by (with_reducible repeat (first|refine ag ?_ _|refine ai ?_|refine af ?_ _));refine az ?_ oZ.out _;(with_reducible repeat (first|refine ag ?_ _|refine ai ?_|refine af ?_ _));refine az ?_ oZ.out _;(with_reducible repeat (first|refine ag ?_ _|refine ai ?_|refine af ?_ _));refine az ?_ oZ.out _;(with_reducible repeat (first|refine ag ?_ _|refine ai ?_|refine af ?_ _));refine az ?_ oZ.out _;(with_reducible repeat (first|refine ag ?_ _|refine ai ?_|refine af ?_ _));refine az ?_ jO.out _;(with_reducible repeat (first|refine ag ?_ _|refine ai ?_|refine af ?_ _));refine az ?_ jO.out _;(with_reducible repeat (first|refine ag ?_ _|refine ai ?_|refine af ?_ _));refine az ?_ jO.out _;(with_reducible repeat (first|refine ag ?_ _|refine ai ?_|refine af ?_ _));refine az ?_ jO.out _;(with_reducible repeat (first|refine ag ?_ _|refine ai ?_|refine af ?_ _));exact eG.out⟩,⟨by (with_reducible repeat (first|refine ag ?_ _|refine ai ?_|refine af ?_ _));refine az ?_ o5.out _;(with_reducible repeat (first|refine ag ?_ _|refine ai ?_|refine af ?_ _));refine az ?_ o5.out _;(with_reducible repeat (first|refine ag ?_ _|refine ai ?_|refine af ?_ _));refine az ?_ o5.out _;(with_reducible repeat (first|refine ag ?_ _|refine ai ?_|refine af ?_ _));refine az ?_ o5.out _;(with_reducible repeat (first|refine ag ?_ _|refine ai ?_|refine af ?_ _));refine az ?_ jP.out _;(with_reducible repeat (first|refine ag ?_ _|refine ai ?_|refine af ?_ _));refine az ?_ jP.out _;(with_reducible repeat (first|refine ag ?_ _|refine ai ?_|refine af ?_ _));refine az ?_ jP.out _;(with_reducible repeat (first|refine ag ?_ _|refine ai ?_|refine af ?_ _));refine az ?_ jP.out _;(with_reducible repeat (first|refine ag ?_ _|refine ai ?_|refine af ?_ _));exact gM.out⟩,⟨by (with_reducible repeat (first|refine ag ?_ _|refine ai ?_|refine af ?_ _));refine aW (cs:=#[.int .i64 ((bn aM (ig)).f0.f0),.int .i64 ((bn aM (ig)).f0.f1),.int .i64 ((bn aM (ig)).f1.f0),.int .i64 fD]) ?_ 3 _ rfl;(with_reducible repeat (first|refine ag ?_ _|refine ai ?_|refine af ?_ _));refine aW (cs:=#[.int .i64 ((bn aM (ig)).f0.f0),.int .i64 ((bn aM (ig)).f0.f1),.int .i64 fI,.int .i64 fD]) ?_ 2 _ rfl;(with_reducible repeat (first|refine ag ?_ _|refine ai ?_|refine af ?_ _));refine aW (cs:=#[.int .i64 ((bn aM (ig)).f0.f0),.int .i64 fV,.int .i64 fI,.int .i64 fD]) ?_ 1 _ rfl;(with_reducible repeat (first|refine ag ?_ _|refine ai ?_|refine af ?_ _));refine aW (cs:=#[.int .i64 gF,.int .i64 fV,.int .i64 fI,.int .i64 fD]) ?_ 0 _ rfl;(with_reducible repeat (first|refine ag ?_ _|refine ai ?_|refine af ?_ _));refine az ?_ jQ.out _;(with_reducible repeat (first|refine ag ?_ _|refine ai ?_|refine af ?_ _));refine az ?_ jQ.out _;(with_reducible repeat (first|refine ag ?_ _|refine ai ?_|refine af ?_ _));refine az ?_ jQ.out _;(with_reducible repeat (first|refine ag ?_ _|refine ai ?_|refine af ?_ _));refine az ?_ jQ.out _;(with_reducible repeat (first|refine ag ?_ _|refine ai ?_|refine af ?_ _));exact fw.out⟩,⟨by repeat (first|(with_reducible first|exact HB.out|apply au|apply ah|apply av|refine ak ?_ mr.out|refine ak ?_ nz.out|refine ak ?_ oL.out|refine ak ?_ p8.out|refine ak ?_ M4.out)|exact HB.out)⟩⟩
            ·rw [if_neg c32] at H
             exact absurd H (by simp)
           ·rw [if_neg c31] at H
            exact absurd H (by simp)
          ·replace c29:=Bool.eq_false_iff.mpr c29
           subst c29
           have H1:(bF.l1 k3 a2 a3 a4 zf iG (wrap64 (iI+1)) aC aD aG aH aN aK aJ aX aM bz bA bI bJ gF fV fI fD) = some (r1,r2,r3,r4):=by rw [if_neg (show ¬ (false = true) by decide)] at H;exact H
           clear H
           have H:=H1
           clear H1
           have H':=aj.mk H
           clear H
           have af6:=rV.out
           have af7:=rW.out
           have ajz:=rX.out
           have ajA:=rY.out
           have ajB:=lD.out
           have ajC:=rZ.out
           have ac3:wr.cell? ⟨dx,0,none⟩ = some (.int .i64 aC):=(aa bq.out 0).trans rfl
           have ac4:wr.cell? ⟨dx,1,none⟩ = some (.int .i64 aD):=(aa bq.out 1).trans rfl
           have ac5:wr.cell? ⟨dx,2,none⟩ = some (.int .i64 aG):=(aa bq.out 2).trans rfl
           have ac6:wr.cell? ⟨dx,3,none⟩ = some (.int .i64 aH):=(aa bq.out 3).trans rfl
           have ac7:wr.cell? ⟨dx,4,none⟩ = some (.int .i64 aN):=(aa bq.out 4).trans rfl
           have ac8:wr.cell? ⟨dx,5,none⟩ = some (.int .i64 aK):=(aa bq.out 5).trans rfl
           have ac9:wr.cell? ⟨dx,6,none⟩ = some (.int .i64 aJ):=(aa bq.out 6).trans rfl
           have ada:wr.cell? ⟨dx,7,none⟩ = some (.slice bG aX.length bH):=(aa bq.out 7).trans rfl
           have adb:wr.cell? ⟨dx,8,none⟩ = some (.slice bO aM.length bM):=(aa bq.out 8).trans rfl
           have ade:=ae bq.out 0
           have adf:=ae bq.out 1
           have adg:=ae bq.out 2
           have adh:=ae bq.out 3
           have adi:=ae bq.out 4
           have adj:=ae bq.out 5
           have adk:=ae bq.out 6
           have adl:=ae bq.out 7
           have adm:=ae bq.out 8
           try go_wp2
           have bB:=aj.mk (ai bq.out)
           have bC:=aj.mk (ai eG.out)
           have bK:=aj.mk (ai gM.out)
           have bP:=aj.mk (ai fw.out)
           have dX:=aj.mk (av HB.out)
           clear bq
           clear eG
           clear gM
           clear fw
           clear HB
           have bq:=bB
           have eG:=bC
           have gM:=bK
           have fw:=bP
           have HB:=dX
           clear bB bC bK bP dX
           refine qg (n:=6) (S:=fun w'=>w'.cell? ⟨jv,0,none⟩ = some (.int .i64 bz)∧w'.cell? ⟨jv,1,none⟩ = some (.int .i64 bA)∧w'.cell? ⟨jv,2,none⟩ = some (.int .i64 bI)∧w'.cell? ⟨jv,3,none⟩ = some (.int .i64 bJ)∧w'.cell? ⟨dx,0,none⟩ = some (.int .i64 aC)∧w'.cell? ⟨dx,1,none⟩ = some (.int .i64 aD)∧w'.cell? ⟨dx,2,none⟩ = some (.int .i64 aG)∧w'.cell? ⟨dx,3,none⟩ = some (.int .i64 aH)∧w'.cell? ⟨dx,4,none⟩ = some (.int .i64 aN)∧w'.cell? ⟨dx,5,none⟩ = some (.int .i64 aK)∧w'.cell? ⟨dx,6,none⟩ = some (.int .i64 aJ)∧w'.cell? ⟨dx,7,none⟩ = some (.slice bG aX.length bH)∧w'.cell? ⟨dx,8,none⟩ = some (.slice bO aM.length bM)) (ds:=[]) #[false,false,false,false,false,false] (by kernel_rfl) rfl rfl ⟨(aa eG.out 0).trans rfl,(aa eG.out 1).trans rfl,(aa eG.out 2).trans rfl,(aa eG.out 3).trans rfl,(aa bq.out 0).trans rfl,(aa bq.out 1).trans rfl,(aa bq.out 2).trans rfl,(aa bq.out 3).trans rfl,(aa bq.out 4).trans rfl,(aa bq.out 5).trans rfl,(aa bq.out 6).trans rfl,(aa bq.out 7).trans rfl,(aa bq.out 8).trans rfl⟩ (fun hHeld=>?_)
           generalize wr.drew = w83 at bq eG gM fw HB hHeld ⊢
           refine bU (i:=2) (N:=some 48) (v:=?_) (a':=?_) #[false,false,true,false,false,false] rfl rfl (by kernel_rfl) (fun _ _ _ h=>h) (Or.inl ⟨by rfl,?_⟩) ?_ ?_
           rotate_left
           ·intro w'
            go_simp
            with_reducible rfl
           rotate_left
           ·simp only [Act.put,List.setIfInBounds_toArray,List.set_cons_zero,List.set_cons_succ,aZ,bf]
            rfl
           refine gB (i:=0) (N:=some 46) (v:=?_) (a':=?_) #[true,false,true,false,false,false] rfl rfl (by kernel_rfl) (fun _ _ _ h=>h) (Or.inl ⟨by rfl,?_⟩) hHeld ?_ ?_
           rotate_left
           ·rintro w' ⟨s0,s1,s2,s3,s4,s5,s6,s7,s8,s9,s10,s11,s12⟩
            go_simp
            with_reducible rfl
           rotate_left
           ·simp only [Act.put,List.setIfInBounds_toArray,List.set_cons_zero,List.set_cons_succ,aZ,bf]
            rfl
           refine gB (i:=1) (N:=some 47) (v:=?_) (a':=?_) #[true,true,true,false,false,false] rfl rfl (by kernel_rfl) (fun _ _ _ h=>h) (Or.inl ⟨by rfl,?_⟩) hHeld ?_ ?_
           rotate_left
           ·rintro w' ⟨s0,s1,s2,s3,s4,s5,s6,s7,s8,s9,s10,s11,s12⟩
            go_simp
            with_reducible rfl
           rotate_left
           ·simp only [Act.put,List.setIfInBounds_toArray,List.set_cons_zero,List.set_cons_succ,aZ,bf]
            rfl
           refine o7 (i:=3) (N:=some 49) #[true,true,true,true,false,false] rfl rfl (by kernel_rfl) (by decide) (fun K hK=>?_)
           refine kP Try.func42 (by kernel_rfl) rfl #[.agg #[.int .i64 aC,.int .i64 aD,.int .i64 aG,.int .i64 aH,.int .i64 aN,.int .i64 aK,.int .i64 aJ,.slice bG aX.length bH,.slice bO aM.length bM],.int .i64 iI] (by rfl) rfl rfl (by (try simp only [List.map_toArray,List.map_cons,List.map_nil]);first|done|rfl|(simp only [List.length_drop,List.length_take];rfl)) ?_
           with_reducible refine (jX.calls aC aD aG aH aN aK aJ _ _ aX _ _ aM iI Mm Mo Mq Mr _ ?gm ?gp ?gQ ?gT A27.out).mono ?_
           (case gm=>repeat (first|exact (Kd.dF jR.out HB.out)|(with_reducible refine Kd.dO ?_ _)|(with_reducible refine Kd.dP ?_ _)|(with_reducible refine Kd.eO ?_)))
           (case gp=>exact jS.out)
           (case gQ=>repeat (first|exact (Kd.dF jm.out HB.out)|(with_reducible refine Kd.dO ?_ _)|(with_reducible refine Kd.dP ?_ _)|(with_reducible refine Kd.eO ?_)))
           (case gT=>exact kg.out)
           rintro e w84 ⟨rfl,hb⟩
           refine ⟨_,rfl,?_⟩
           have bB:=aj.mk (ax (g:=dx) (o:=.cells #[.int .i64 aC,.int .i64 aD,.int .i64 aG,.int .i64 aH,.int .i64 aN,.int .i64 aK,.int .i64 aJ,.slice bG aX.length bH,.slice bO aM.length bM] 25 (0,0)) (by (with_reducible repeat (first|refine ag ?_ _|refine ai ?_|refine af ?_ _));exact bq.out) hb)
           have bC:=aj.mk (ax (g:=jv) (o:=.cells #[.int .i64 bz,.int .i64 bA,.int .i64 bI,.int .i64 bJ] 31 (0,0)) (by (with_reducible repeat (first|refine ag ?_ _|refine ai ?_|refine af ?_ _));exact eG.out) hb)
           have bK:=aj.mk (ax (g:=lG) (o:=.cells #[.int .i64 0,.int .i64 0,.int .i64 0,.int .i64 0] 40 (0,0)) (by (with_reducible repeat (first|refine ag ?_ _|refine ai ?_|refine af ?_ _));exact gM.out) hb)
           have bP:=aj.mk (ax (g:=jM) (o:=.cells #[.int .i64 gF,.int .i64 fV,.int .i64 fI,.int .i64 fD] 40 (0,0)) (by (with_reducible repeat (first|refine ag ?_ _|refine ai ?_|refine af ?_ _));exact fw.out) hb)
           have dX:=aj.mk (ay (by repeat (first|(with_reducible first|exact HB.out|apply au|apply ah|apply av|refine ak ?_ mr.out|refine ak ?_ nz.out|refine ak ?_ oL.out|refine ak ?_ p8.out)|exact HB.out)) hb)
           clear bq
           clear eG
           clear gM
           clear fw
           clear HB
           have bq:=bB
           have eG:=bC
           have gM:=bK
           have fw:=bP
           have HB:=dX
           clear bB bC bK bP dX
           (try clear hb)
           (try clear hb2)
           (try clear hk)
           (try clear hi)
           refine hK.out _ _ ⟨(aa eG.out 0).trans rfl,(aa eG.out 1).trans rfl,(aa eG.out 2).trans rfl,(aa eG.out 3).trans rfl,(aa bq.out 0).trans rfl,(aa bq.out 1).trans rfl,(aa bq.out 2).trans rfl,(aa bq.out 3).trans rfl,(aa bq.out 4).trans rfl,(aa bq.out 5).trans rfl,(aa bq.out 6).trans rfl,(aa bq.out 7).trans rfl,(aa bq.out 8).trans rfl⟩ (fun hHeld=>?_)
           clear hK K
           refine iP (a':=?_) ?_ ?_
           rotate_left
           ·show Act.put _ (some 49) _ = _
            simp only [Act.put,List.setIfInBounds_toArray,List.set_cons_zero,List.set_cons_succ,aZ,bf]
            rfl
           refine o7 (i:=4) (N:=some 50) #[true,true,true,true,true,false] rfl rfl (by kernel_rfl) (by decide) (fun K hK=>?_)
           refine kP Try.func104 (by kernel_rfl) rfl #[.agg #[.int .i64 bz,.int .i64 bA,.int .i64 bI,.int .i64 bJ],.agg #[.int .i64 Mm,.int .i64 Mo,.int .i64 Mq,.int .i64 Mr]] (by rfl) rfl rfl (by (try simp only [List.map_toArray,List.map_cons,List.map_nil]);first|done|rfl|(simp only [List.length_drop,List.length_take];rfl)) ?_
           with_reducible refine (iM.calls bz bA bI bJ Mm Mo Mq Mr false _ A28.out).mono ?_
           rintro e w85 ⟨rfl,hb⟩
           refine ⟨_,rfl,?_⟩
           have bB:=aj.mk (ax (g:=dx) (o:=.cells #[.int .i64 aC,.int .i64 aD,.int .i64 aG,.int .i64 aH,.int .i64 aN,.int .i64 aK,.int .i64 aJ,.slice bG aX.length bH,.slice bO aM.length bM] 25 (0,0)) (by (with_reducible repeat (first|refine ag ?_ _|refine ai ?_|refine af ?_ _));exact bq.out) hb)
           have bC:=aj.mk (ax (g:=jv) (o:=.cells #[.int .i64 bz,.int .i64 bA,.int .i64 bI,.int .i64 bJ] 31 (0,0)) (by (with_reducible repeat (first|refine ag ?_ _|refine ai ?_|refine af ?_ _));exact eG.out) hb)
           have bK:=aj.mk (ax (g:=lG) (o:=.cells #[.int .i64 0,.int .i64 0,.int .i64 0,.int .i64 0] 40 (0,0)) (by (with_reducible repeat (first|refine ag ?_ _|refine ai ?_|refine af ?_ _));exact gM.out) hb)
           have bP:=aj.mk (ax (g:=jM) (o:=.cells #[.int .i64 gF,.int .i64 fV,.int .i64 fI,.int .i64 fD] 40 (0,0)) (by (with_reducible repeat (first|refine ag ?_ _|refine ai ?_|refine af ?_ _));exact fw.out) hb)
           have dX:=aj.mk (ay (by repeat (first|(with_reducible first|exact HB.out|apply au|apply ah|apply av|refine ak ?_ mr.out|refine ak ?_ nz.out|refine ak ?_ oL.out|refine ak ?_ p8.out)|exact HB.out)) hb)
           clear bq
           clear eG
           clear gM
           clear fw
           clear HB
           have bq:=bB
           have eG:=bC
           have gM:=bK
           have fw:=bP
           have HB:=dX
           clear bB bC bK bP dX
           (try clear hb)
           (try clear hb2)
           (try clear hk)
           (try clear hi)
           refine hK.out _ _ ⟨(aa eG.out 0).trans rfl,(aa eG.out 1).trans rfl,(aa eG.out 2).trans rfl,(aa eG.out 3).trans rfl,(aa bq.out 0).trans rfl,(aa bq.out 1).trans rfl,(aa bq.out 2).trans rfl,(aa bq.out 3).trans rfl,(aa bq.out 4).trans rfl,(aa bq.out 5).trans rfl,(aa bq.out 6).trans rfl,(aa bq.out 7).trans rfl,(aa bq.out 8).trans rfl⟩ (fun hHeld=>?_)
           clear hK K
           refine iP (a':=?_) ?_ ?_
           rotate_left
           ·show Act.put _ (some 50) _ = _
            simp only [Act.put,List.setIfInBounds_toArray,List.set_cons_zero,List.set_cons_succ,aZ,bf]
            rfl
           refine bU (i:=5) (N:=some 51) (v:=?_) (a':=?_) #[true,true,true,true,true,true] rfl rfl (by kernel_rfl) (fun _ _ _ h=>h) (Or.inl ⟨by rfl,?_⟩) ?_ ?_
           rotate_left
           ·intro w'
            go_simp
            with_reducible rfl
           rotate_left
           ·simp only [Act.put,List.setIfInBounds_toArray,List.set_cons_zero,List.set_cons_succ,aZ,bf]
            rfl
           refine tT (by kernel_rfl) ?_
           try go_wp2
           go_roundg k3
           case measure=>have:=GV.out;have:=Ml.out;have:=ZI.out;omega
           case rel=>exact ⟨(zf),(wrap64 (iI+1)),(gF),(fV),(fI),(fD),(by first|rfl|(simp;done)|(simp [*];done)),(by first|rfl|(simp;done)|(simp [*];done)),H',⟨by have:=GV.out;have:=Ml.out;have:=ZI.out;omega⟩,⟨by (with_reducible repeat (first|refine ag ?_ _|refine ai ?_|refine af ?_ _));exact bq.out⟩,⟨by (with_reducible repeat (first|refine ag ?_ _|refine ai ?_|refine af ?_ _));exact eG.out⟩,⟨by (with_reducible repeat (first|refine ag ?_ _|refine ai ?_|refine af ?_ _));exact gM.out⟩,⟨by (with_reducible repeat (first|refine ag ?_ _|refine ai ?_|refine af ?_ _));exact fw.out⟩,⟨by repeat (first|(with_reducible first|exact HB.out|apply au|apply ah|apply av|refine ak ?_ mr.out|refine ak ?_ nz.out|refine ak ?_ oL.out|refine ak ?_ p8.out)|exact HB.out)⟩⟩
         ·rw [if_neg Jj] at H
          have I1:decide (iI < (wrap64 (aC*aD))) = false:=decide_eq_false Jj
          clear Jj
          have H':=aj.mk H
          clear H
          have aDj:=rV.out
          have aDk:=rW.out
          have aDl:=rX.out
          have aDm:=rY.out
          have aDn:=lD.out
          have aDo:=rZ.out
          have ar0:wr.cell? ⟨dx,0,none⟩ = some (.int .i64 aC):=(aa bq.out 0).trans rfl
          have ar1:wr.cell? ⟨dx,1,none⟩ = some (.int .i64 aD):=(aa bq.out 1).trans rfl
          have ar2:wr.cell? ⟨dx,2,none⟩ = some (.int .i64 aG):=(aa bq.out 2).trans rfl
          have ar3:wr.cell? ⟨dx,3,none⟩ = some (.int .i64 aH):=(aa bq.out 3).trans rfl
          have ar4:wr.cell? ⟨dx,4,none⟩ = some (.int .i64 aN):=(aa bq.out 4).trans rfl
          have ar5:wr.cell? ⟨dx,5,none⟩ = some (.int .i64 aK):=(aa bq.out 5).trans rfl
          have ar6:wr.cell? ⟨dx,6,none⟩ = some (.int .i64 aJ):=(aa bq.out 6).trans rfl
          have ar7:wr.cell? ⟨dx,7,none⟩ = some (.slice bG aX.length bH):=(aa bq.out 7).trans rfl
          have ar8:wr.cell? ⟨dx,8,none⟩ = some (.slice bO aM.length bM):=(aa bq.out 8).trans rfl
          have ar9:=ae bq.out 0
          have asa:=ae bq.out 1
          have asb:=ae bq.out 2
          have asc:=ae bq.out 3
          have ase:=ae bq.out 4
          have asf:=ae bq.out 5
          have asg:=ae bq.out 6
          have ash:=ae bq.out 7
          have asi:=ae bq.out 8
          go_wp2
          go_roundg k3
          case measure=>have:=GV.out;have:=Ml.out;have:=ZI.out;omega
          case rel=>exact ⟨(zf),(wrap64 (iG+1)),(gF),(fV),(fI),(fD),(by first|rfl|(simp;done)|(simp [*];done)),(by first|rfl|(simp;done)|(simp [*];done)),H',⟨by have:=GV.out;have:=Ml.out;have:=ZI.out;omega⟩,⟨by (with_reducible repeat (first|refine ag ?_ _|refine ai ?_|refine af ?_ _));exact bq.out⟩,⟨by (with_reducible repeat (first|refine ag ?_ _|refine ai ?_|refine af ?_ _));exact eG.out⟩,⟨by (with_reducible repeat (first|refine ag ?_ _|refine ai ?_|refine af ?_ _));exact gM.out⟩,⟨by (with_reducible repeat (first|refine ag ?_ _|refine ai ?_|refine af ?_ _));exact fw.out⟩,⟨by repeat (first|(with_reducible first|exact HB.out|apply au|apply ah|apply av|refine ak ?_ mr.out|refine ak ?_ nz.out|refine ak ?_ oL.out|refine ak ?_ p8.out)|exact HB.out)⟩⟩
   ·rw [if_neg c10] at H
    have Dz:decide (iG < aN) = false:=decide_eq_false c10
    clear c10
    simp only [Option.some.injEq,Prod.mk.injEq] at H
    obtain ⟨rfl,rfl,rfl,rfl⟩:=H
    have ajJ:=rV.out
    have ajK:=rW.out
    have ajL:=rX.out
    have ajM:=rY.out
    have ajN:=lD.out
    have ajO:=rZ.out
    have asj:wr.cell? ⟨dx,0,none⟩ = some (.int .i64 aC):=(aa bq.out 0).trans rfl
    have asl:wr.cell? ⟨dx,1,none⟩ = some (.int .i64 aD):=(aa bq.out 1).trans rfl
    have asn:wr.cell? ⟨dx,2,none⟩ = some (.int .i64 aG):=(aa bq.out 2).trans rfl
    have aso:wr.cell? ⟨dx,3,none⟩ = some (.int .i64 aH):=(aa bq.out 3).trans rfl
    have asq:wr.cell? ⟨dx,4,none⟩ = some (.int .i64 aN):=(aa bq.out 4).trans rfl
    have asr:wr.cell? ⟨dx,5,none⟩ = some (.int .i64 aK):=(aa bq.out 5).trans rfl
    have ass:wr.cell? ⟨dx,6,none⟩ = some (.int .i64 aJ):=(aa bq.out 6).trans rfl
    have ast:wr.cell? ⟨dx,7,none⟩ = some (.slice bG aX.length bH):=(aa bq.out 7).trans rfl
    have asu:wr.cell? ⟨dx,8,none⟩ = some (.slice bO aM.length bM):=(aa bq.out 8).trans rfl
    have asv:=ae bq.out 0
    have asw:=ae bq.out 1
    have asx:=ae bq.out 2
    have asy:=ae bq.out 3
    have asz:=ae bq.out 4
    have asA:=ae bq.out 5
    have asB:=ae bq.out 6
    have asC:=ae bq.out 7
    have asD:=ae bq.out 8
    have aDp:=Ie.out
    have aDq:=oZ.out
    have aDr:=Ig.out
    have aDs:=o5.out
    have asE:wr.cell? ⟨jM,0,none⟩ = some (.int .i64 mD):=(aa fw.out 0).trans rfl
    have asF:wr.cell? ⟨jM,1,none⟩ = some (.int .i64 ng):=(aa fw.out 1).trans rfl
    have asG:wr.cell? ⟨jM,2,none⟩ = some (.int .i64 nW):=(aa fw.out 2).trans rfl
    have asH:wr.cell? ⟨jM,3,none⟩ = some (.int .i64 o6):=(aa fw.out 3).trans rfl
    have asI:=ae fw.out 0
    have asJ:=ae fw.out 1
    have asK:=ae fw.out 2
    have asL:=ae fw.out 3
    have aDt:=Yv.out
    have aDu:=Yu.out
    have asM:wr.cell? ⟨lG,0,none⟩ = some (.int .i64 0):=(aa gM.out 0).trans rfl
    have asN:wr.cell? ⟨lG,1,none⟩ = some (.int .i64 0):=(aa gM.out 1).trans rfl
    have asO:wr.cell? ⟨lG,2,none⟩ = some (.int .i64 0):=(aa gM.out 2).trans rfl
    have asP:wr.cell? ⟨lG,3,none⟩ = some (.int .i64 0):=(aa gM.out 3).trans rfl
    have asQ:=ae gM.out 0
    have asR:=ae gM.out 1
    have asS:=ae gM.out 2
    have asT:=ae gM.out 3
    go_wp2
    refine bodyPost_ret (results_cell_row rfl _ _ lG 40 #[.int .i64 mD,.int .i64 ng,.int .i64 nW,.int .i64 o6] (0,0) _ rfl (by (with_reducible repeat (first|refine ag ?_ _|refine ai ?_|refine af ?_ _));refine aW (cs:=#[.int .i64 mD,.int .i64 ng,.int .i64 nW,.int .i64 0]) ?_ 3 _ rfl;(with_reducible repeat (first|refine ag ?_ _|refine ai ?_|refine af ?_ _));refine aW (cs:=#[.int .i64 mD,.int .i64 ng,.int .i64 0,.int .i64 0]) ?_ 2 _ rfl;(with_reducible repeat (first|refine ag ?_ _|refine ai ?_|refine af ?_ _));refine aW (cs:=#[.int .i64 mD,.int .i64 0,.int .i64 0,.int .i64 0]) ?_ 1 _ rfl;(with_reducible repeat (first|refine ag ?_ _|refine ai ?_|refine af ?_ _));refine aW (cs:=#[.int .i64 0,.int .i64 0,.int .i64 0,.int .i64 0]) ?_ 0 _ rfl;(with_reducible repeat (first|refine ag ?_ _|refine ai ?_|refine af ?_ _));exact gM.out) Try.underlying40 rfl (by kernel_rfl)) rfl ?_
    exact ⟨by first|rfl|(simp [aQ,aT] <;> rfl)|(simp [*,aQ,aT] <;> rfl),by repeat (first|(with_reducible first|exact HB.out|apply au|apply ah|apply av|refine ak ?_ mr.out|refine ak ?_ nz.out|refine ak ?_ oL.out|refine ak ?_ p8.out)|exact HB.out)⟩
end Go.Proofs.Ytmhaiihjfgfaoaa.Pr
end
