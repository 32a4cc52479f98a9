import Derived.Test.YtmhaiihjfgfaoaaGfGliderFetch3
import Derived.Test.YtmhaiihjfgfaoaaGfGliderFetch19
import Derived.Test.YtmhaiihjfgfaoaaGfGliderFetch20
import Derived.Test.YtmhaiihjfgfaoaaGfGliderFetch18
import Derived.Test.YtmhaiihjfgfaoaaGfGliderFetch22
set_option linter.unusedVariables false
set_option linter.unusedSimpArgs false
open Go.Value renaming int → U
open Go.IntKind renaming i64 → Z
open Bool renaming true → ab, false → ac
section
namespace Go.Proofs.Ytmhaiihjfgfaoaa.Pr
open Go.RowKit Go.Proofs.YtmhaiihjfgfaoaaW.PrintWords Go.Proofs.YtmhaiihjfgfaoaaW.PrintLast Go.Proofs.YtmhaiihjfgfaoaaW.PrintMore
attribute [local go_sem] gp gq iA iB gu
set_option linter.unusedVariables false
set_option linter.unusedSimpArgs false
def dG.f (k:Nat) (ai:Int) (aj:Int) (aC:Int) (aD:Int) (aJ:Int) (aH:Int) (aK:Int) (aT:List Bool) (ak:List (rq)) (aI:Int) (aG:Int) (bn:Int) (bq:Int) (bH:Int) (bI:Int) (bG:Int) (bZ:Int) (cz:Int) (dw:Int) (dx:Int) (a3:Int) (gD:Int) (gF:Int):Option (Int × Int × Int × Int):=(jI.f gD).bind fun abO=>((fC.f k ai aj aC aD aJ aH aK aT ak aI aG bn bq bH bI bG bZ cz dw dx).bind fun Ew=>((bg.f k ai aj aC aD aJ aH aK aT ak Ew.1 Ew.2.1 Ew.2.2.1 Ew.2.2.2 gF a3 (wrap64 (a3+aG))).bind fun yA=>((dK.f k bZ cz (wrap64 (abO.1*aI)) yA.1 yA.2.1 aG).bind fun Ex=>((dK.f k dw dx (wrap64 (abO.2*aI)) yA.2.2.1 yA.2.2.2 aG).bind fun Bz=>(some (Ex.1,Ex.2,Bz.1,Bz.2))))))
def dG.T2:Bool × List (List Nat × List Nat):=(true,[([],[]),([],[]),([],[]),([],[]),([1,2,3],[1,2,3]),([],[]),([5],[5]),([],[]),([],[]),([],[]),([9],[9]),([8,10],[8,10]),([0,4,6,7,11,4],[0,4,6,7,11]),([],[]),([13,12,12,0,1,2,3,4,5,6,7,8,9,10,11,12,13],[12,13])])
def dG.B2:List Nat:=[0,0,0,0,14,0,32,0,0,0,512,1792,4095,0,16383]
theorem dG.amz:qA .any (opsOf Try.f106 2) = dG.T2:=by kernel_rfl
theorem dG.abg:mI dG.T2.2 dG.B2 = true:=by kernel_rfl
def dG.T3:Bool × List (List Nat × List Nat):=(true,[([],[]),([0],[0]),([],[]),([],[]),([3],[3]),([2,4],[2,4]),([],[]),([6],[6]),([],[]),([8],[8]),([1,5,7,9],[1,5,7,9]),([],[]),([11],[11]),([],[]),([],[]),([14],[14]),([13,15],[13,15]),([],[]),([17],[17]),([],[]),([19],[19]),([12,16,18,20,10],[12,16,18,20]),([10,21],[10,21]),([22,21,0,1,2,3,4,5,6,7,8,9,10,11,12,13,14,15,16,17,18,19,20,21,22],[22])])
def dG.B3:List Nat:=[0,1,0,0,8,28,0,64,0,256,1023,0,2048,0,0,16384,57344,0,131072,0,524288,2097151,4194303,8388607]
theorem dG.aW5:qA .any (opsOf Try.f106 3) = dG.T3:=by kernel_rfl
theorem dG.aC9:mI dG.T3.2 dG.B3 = true:=by kernel_rfl
set_option maxHeartbeats 8000000 in
set_option maxRecDepth 100000 in
theorem dG.calls (k:Nat) (ai:Int) (aj:Int) (aC:Int) (aD:Int) (aJ:Int) (aH:Int) (aK:Int) (dW:Option Addr) (dN:Nat) (aT:List Bool) (dZ:Option Addr) (dO:Nat) (ak:List (rq)) (aI:Int) (aG:Int) (bn:Int) (bq:Int) (bH:Int) (bI:Int) (bG:Int) (bZ:Int) (cz:Int) (dw:Int) (dx:Int) (a3:Int) (gD:Int) (gF:Int) (r1:Int) (r2:Int) (r3:Int) (r4:Int) (w:World) (jT:Kd.C Kd.bool w dW aT.length aT) (jU:aT.length≤dN) (jV:Kd.C GI w dZ ak.length ak) (jW:ak.length≤dO) (h:dG.f k ai aj aC aD aJ aH aK aT ak aI aG bn bq bH bI bG bZ cz dw dx a3 gD gF = some (r1,r2,r3,r4)):
 Calls Try.prog 106 #[.agg #[U Z ai,U Z aj,U Z aC,U Z aD,U Z aJ,U Z aH,U Z aK,.slice dW aT.length dN,.slice dZ ak.length dO],.agg #[U Z aI,U Z aG,U Z bn,U Z bq,U Z bH,U Z bI,U Z bG],.agg #[U Z bZ,U Z cz,U Z dw,U Z dx],U Z a3,.agg #[U Z gD,U Z gF]] w fun e w'=>e = .returned (.agg #[U Z r1,U Z r2,U Z r3,U Z r4])∧Below w.heap.size w w':=by
 have BV:=Try.underlying25
 have Br:=Try.underlying29
 have rO:=Try.underlying31
 have MV:=Try.underlying33
 have alz:=Try.underlying40
 have pz:=Try.underlying27
 have ik:=aa.mk jT
 have iC:=aa.mk jU
 clear jT jU
 have gN:=aa.mk jV
 have iD:=aa.mk jW
 clear jV jW
 have HB:=aa.mk (Below.refl w.heap.size w)
 have H:((jI.f gD).bind fun abO=>((fC.f k ai aj aC aD aJ aH aK aT ak aI aG bn bq bH bI bG bZ cz dw dx).bind fun Ew=>((bg.f k ai aj aC aD aJ aH aK aT ak Ew.1 Ew.2.1 Ew.2.2.1 Ew.2.2.2 gF a3 (wrap64 (a3+aG))).bind fun yA=>((dK.f k bZ cz (wrap64 (abO.1*aI)) yA.1 yA.2.1 aG).bind fun Ex=>((dK.f k dw dx (wrap64 (abO.2*aI)) yA.2.2.1 yA.2.2.2 aG).bind fun Bz=>(some (Ex.1,Ex.2,Bz.1,Bz.2))))))) = some (r1,r2,r3,r4):=h
 clear h
 replace H:=Option.bind_eq_some_iff.mp H
 obtain ⟨⟨akG,aep⟩,QG,H⟩:=H
 replace H:((fC.f k ai aj aC aD aJ aH aK aT ak aI aG bn bq bH bI bG bZ cz dw dx).bind fun Ew=>((bg.f k ai aj aC aD aJ aH aK aT ak Ew.1 Ew.2.1 Ew.2.2.1 Ew.2.2.2 gF a3 (wrap64 (a3+aG))).bind fun yA=>((dK.f k bZ cz (wrap64 (akG*aI)) yA.1 yA.2.1 aG).bind fun Ex=>((dK.f k dw dx (wrap64 (aep*aI)) yA.2.2.1 yA.2.2.2 aG).bind fun Bz=>(some (Ex.1,Ex.2,Bz.1,Bz.2)))))) = some (r1,r2,r3,r4):=H
 have A6:=aa.mk QG
 clear QG
 replace H:=Option.bind_eq_some_iff.mp H
 obtain ⟨⟨Vp,Vq,Vr,Vs⟩,A70,H⟩:=H
 replace H:((bg.f k ai aj aC aD aJ aH aK aT ak Vp Vq Vr Vs gF a3 (wrap64 (a3+aG))).bind fun yA=>((dK.f k bZ cz (wrap64 (akG*aI)) yA.1 yA.2.1 aG).bind fun Ex=>((dK.f k dw dx (wrap64 (aep*aI)) yA.2.2.1 yA.2.2.2 aG).bind fun Bz=>(some (Ex.1,Ex.2,Bz.1,Bz.2))))) = some (r1,r2,r3,r4):=H
 have A7:=aa.mk A70
 clear A70
 replace H:=Option.bind_eq_some_iff.mp H
 obtain ⟨⟨FO,Ic,Ie,Jd⟩,QO,H⟩:=H
 replace H:((dK.f k bZ cz (wrap64 (akG*aI)) FO Ic aG).bind fun Ex=>((dK.f k dw dx (wrap64 (aep*aI)) Ie Jd aG).bind fun Bz=>(some (Ex.1,Ex.2,Bz.1,Bz.2)))) = some (r1,r2,r3,r4):=H
 have A8:=aa.mk QO
 clear QO
 replace H:=Option.bind_eq_some_iff.mp H
 obtain ⟨⟨aeq,akH⟩,A90,H⟩:=H
 replace H:((dK.f k dw dx (wrap64 (aep*aI)) Ie Jd aG).bind fun Bz=>(some (aeq,akH,Bz.1,Bz.2))) = some (r1,r2,r3,r4):=H
 have A9:=aa.mk A90
 clear A90
 replace H:=Option.bind_eq_some_iff.mp H
 obtain ⟨⟨arZ,azn⟩,FP,H⟩:=H
 replace H:(some (aeq,akH,arZ,azn)) = some (r1,r2,r3,r4):=H
 have QJ:=aa.mk FP
 clear FP
 simp only [Option.some.injEq,Prod.mk.injEq] at H
 obtain ⟨rfl,rfl,rfl,rfl⟩:=H
 go_enter Try.func106,Try.ntmps106
 try go_wp2_with (first|((with_reducible refine aA (N:=5) rfl ?_);refine au (by rfl) (N:=5) (by rfl) (cs:=#[U Z ai,U Z aj,U Z aC,U Z aD,U Z aJ,U Z aH,U Z aK,.slice dW aT.length dN,.slice dZ ak.length dO]) (t:=25) fG ?_;intro oD hg w11 hbox hb;have dS:=aa.mk (hbox);have a2L:=bS HB hg;have a2M:=bS HB hg;replace HB:=cO HB hb;clear hb hbox hg)|((with_reducible refine aA (N:=6) rfl ?_);refine au (by rfl) (N:=6) (by rfl) (cs:=#[U Z aI,U Z aG,U Z bn,U Z bq,U Z bH,U Z bI,U Z bG]) (t:=29) fG ?_;intro ou hg O3 hbox hb;have dV:=aa.mk (hbox);have a2N:=bS HB hg;have a2O:=bS HB hg;have aAN:=eQ dS hg;have aAO:=eT dS hg;replace dS:=aX dS hb;replace HB:=cO HB hb;clear hb hbox hg)|((with_reducible refine aA (N:=7) rfl ?_);refine au (by rfl) (N:=7) (by rfl) (cs:=#[U Z bZ,U Z cz,U Z dw,U Z dx]) (t:=31) fG ?_;intro tT hg FD hbox hb;have fZ:=aa.mk (hbox);have a2P:=bS HB hg;have a2Q:=bS HB hg;have aAP:=eQ dS hg;have aAQ:=eT dS hg;have aAR:=eQ dV hg;have aAS:=eT dV hg;replace dS:=aX dS hb;replace dV:=aX dV hb;replace HB:=cO HB hb;clear hb hbox hg)|((with_reducible refine aA (N:=9) rfl ?_);refine au (by rfl) (N:=9) (by rfl) (cs:=#[U Z gD,U Z gF]) (t:=33) fG ?_;intro FQ hg w14 hbox hb;have kv:=aa.mk (hbox);have a2R:=bS HB hg;have a2S:=bS HB hg;have akI:=eQ dS hg;have akJ:=eT dS hg;have akK:=eQ dV hg;have akL:=eT dV hg;have akM:=eQ fZ hg;have akN:=eT fZ hg;replace dS:=aX dS hb;replace dV:=aX dV hb;replace fZ:=aX fZ hb;replace HB:=cO HB hb;clear hb hbox hg)|((with_reducible refine aA (N:=10) rfl ?_);refine au (by rfl) (N:=10) (by rfl) (cs:=#[U Z 0,U Z 0,U Z 0,U Z 0]) (t:=31) fG ?_;intro I8 hg w15 hbox hb;have lD:=aa.mk (hbox);have a2T:=bS HB hg;have a2U:=bS HB hg;have Kh:=eQ dS hg;have Ki:=eT dS hg;have iy:=eQ dV hg;have Kj:=eT dV hg;have kZ:=eQ fZ hg;have Kk:=eT fZ hg;have FR:=eQ kv hg;have FT:=eT kv hg;replace dS:=aX dS hb;replace dV:=aX dV hb;replace fZ:=aX fZ hb;replace kv:=aX kv hb;replace HB:=cO HB hb;clear hb hbox hg;have Na:=akJ.out;have Nb:=akI.out;have Uj:=akL.out;have Uk:=akK.out;have abF:=akN.out;have abG:=akM.out;have QL:=FR.out;have QM:=FT.out;obtain ⟨wu,wy,wz,wB⟩:=iZ kv.out)|((with_reducible refine aQ (f:=34) rfl ?_);refine dn (some 17) rfl rfl Try.func34 aM rfl #[U Z gD] rfl ji ?_;(with_reducible refine (jI.calls gD akG aep _ A6.out).mono ?_);rintro e w21 ⟨rfl,hb⟩;refine ⟨_,rfl,?_⟩;replace dS:=aX dS hb;replace dV:=aX dV hb;replace fZ:=aX fZ hb;replace kv:=aX kv hb;replace lD:=aX lD hb;replace HB:=cO HB hb;(try clear hb);(try clear hb2);(try clear hk);(try clear hi)))
 replace dS:=aa.mk (ag dS.out)
 replace dV:=aa.mk (ag dV.out)
 replace fZ:=aa.mk (ag fZ.out)
 replace kv:=aa.mk (ag kv.out)
 replace lD:=aa.mk (ag lD.out)
 replace HB:=aa.mk (bO HB.out)
 refine iN (n:=15) (S:=fun w'=>w'.cell? ⟨oD,0,none⟩ = some (U Z ai)∧w'.cell? ⟨oD,1,none⟩ = some (U Z aj)∧w'.cell? ⟨oD,2,none⟩ = some (U Z aC)∧w'.cell? ⟨oD,3,none⟩ = some (U Z aD)∧w'.cell? ⟨oD,4,none⟩ = some (U Z aJ)∧w'.cell? ⟨oD,5,none⟩ = some (U Z aH)∧w'.cell? ⟨oD,6,none⟩ = some (U Z aK)∧w'.cell? ⟨oD,7,none⟩ = some (.slice dW aT.length dN)∧w'.cell? ⟨oD,8,none⟩ = some (.slice dZ ak.length dO)∧w'.cell? ⟨ou,0,none⟩ = some (U Z aI)∧w'.cell? ⟨ou,1,none⟩ = some (U Z aG)∧w'.cell? ⟨ou,2,none⟩ = some (U Z bn)∧w'.cell? ⟨ou,3,none⟩ = some (U Z bq)∧w'.cell? ⟨ou,4,none⟩ = some (U Z bH)∧w'.cell? ⟨ou,5,none⟩ = some (U Z bI)∧w'.cell? ⟨ou,6,none⟩ = some (U Z bG)∧w'.cell? ⟨tT,0,none⟩ = some (U Z bZ)∧w'.cell? ⟨tT,1,none⟩ = some (U Z cz)∧w'.cell? ⟨tT,2,none⟩ = some (U Z dw)∧w'.cell? ⟨tT,3,none⟩ = some (U Z dx)∧w'.cell? ⟨FQ,0,none⟩ = some (U Z gD)∧w'.cell? ⟨FQ,1,none⟩ = some (U Z gF)) (ds:=[]) #[ac,ac,ac,ac,ac,ac,ac,ac,ac,ac,ac,ac,ac,ac,ac] aM rfl rfl ⟨bE dS 0,bE dS 1,bE dS 2,bE dS 3,bE dS 4,bE dS 5,bE dS 6,bE dS 7,bE dS 8,bE dV 0,bE dV 1,bE dV 2,bE dV 3,bE dV 4,bE dV 5,bE dV 6,bE fZ 0,bE fZ 1,bE fZ 2,bE fZ 3,GJ kv.out⟩ (fun hHeld=>?_);refine fU dG.amz dG.abg (fun bz jb=>?_)
 generalize w21.drew = w22 at dS dV fZ kv lD HB hHeld ⊢
 refine bV (i:=5) (N:=some 25) (ax bz.out aM) ?_
 refine bV (i:=7) (N:=some 27) (ax bz.out aM) ?_
 refine bV (i:=8) (N:=some 28) (ax bz.out aM) ?_
 refine bV (i:=9) (N:=some 29) (ax bz.out aM) ?_
 refine iL (i:=0) (N:=some 20) (aY bz.out jb.out aM) hHeld ?_
 refine iL (i:=1) (N:=some 21) (aY bz.out jb.out aM) hHeld ?_
 refine iL (i:=2) (N:=some 22) (aY bz.out jb.out aM) hHeld ?_
 refine iL (i:=3) (N:=some 23) (aY bz.out jb.out aM) hHeld ?_
 refine iL (i:=6) (N:=some 26) (aY bz.out jb.out aM) hHeld ?_
 refine iL (i:=10) (N:=some 30) (aY bz.out jb.out aM) hHeld ?_
 refine bV (i:=11) (N:=some 31) (ax bz.out aM) ?_
 refine QE (σ:=Nat) 1 #[ab,ab,ab,ab,ab,ab,ab,ab,ab,ab,ab,ab,ab,ab,ac] (fun s_=>[(24,.agg #[U Z Vp,U Z Vq,U Z Vr,U Z Vs]),(32,.agg #[U Z FO,U Z Ic,U Z Ie,U Z Jd]),(13,.pointer (some ⟨s_,0,none⟩))]) (fun s_ w'=>(w'.cell? ⟨oD,0,none⟩ = some (U Z ai)∧w'.cell? ⟨oD,1,none⟩ = some (U Z aj)∧w'.cell? ⟨oD,2,none⟩ = some (U Z aC)∧w'.cell? ⟨oD,3,none⟩ = some (U Z aD)∧w'.cell? ⟨oD,4,none⟩ = some (U Z aJ)∧w'.cell? ⟨oD,5,none⟩ = some (U Z aH)∧w'.cell? ⟨oD,6,none⟩ = some (U Z aK)∧w'.cell? ⟨oD,7,none⟩ = some (.slice dW aT.length dN)∧w'.cell? ⟨oD,8,none⟩ = some (.slice dZ ak.length dO)∧w'.cell? ⟨ou,0,none⟩ = some (U Z aI)∧w'.cell? ⟨ou,1,none⟩ = some (U Z aG)∧w'.cell? ⟨ou,2,none⟩ = some (U Z bn)∧w'.cell? ⟨ou,3,none⟩ = some (U Z bq)∧w'.cell? ⟨ou,4,none⟩ = some (U Z bH)∧w'.cell? ⟨ou,5,none⟩ = some (U Z bI)∧w'.cell? ⟨ou,6,none⟩ = some (U Z bG)∧w'.cell? ⟨tT,0,none⟩ = some (U Z bZ)∧w'.cell? ⟨tT,1,none⟩ = some (U Z cz)∧w'.cell? ⟨tT,2,none⟩ = some (U Z dw)∧w'.cell? ⟨tT,3,none⟩ = some (U Z dx)∧w'.cell? ⟨FQ,0,none⟩ = some (U Z gD)∧w'.cell? ⟨FQ,1,none⟩ = some (U Z gF))∧(w'.heap[oD]? = some (.cells #[U Z ai,U Z aj,U Z aC,U Z aD,U Z aJ,U Z aH,U Z aK,.slice dW aT.length dN,.slice dZ ak.length dO] 25 (0,0)))∧(w'.heap[ou]? = some (.cells #[U Z aI,U Z aG,U Z bn,U Z bq,U Z bH,U Z bI,U Z bG] 29 (0,0)))∧(w'.heap[tT]? = some (.cells #[U Z bZ,U Z cz,U Z dw,U Z dx] 31 (0,0)))∧(w'.heap[FQ]? = some (.cells #[U Z gD,U Z gF] 33 (0,0)))∧(w'.heap[I8]? = some (.cells #[U Z 0,U Z 0,U Z 0,U Z 0] 31 (0,0)))∧(w'.heap[s_]? = some (.cells #[U Z 0,U Z 0,U Z 0,U Z 0] 40 (0,0)))∧(w.heap.size≤s_)∧(w.heap.size≤s_)∧(oD≠s_)∧(s_≠oD)∧(ou≠s_)∧(s_≠ou)∧(tT≠s_)∧(s_≠tT)∧(FQ≠s_)∧(s_≠FQ)∧(I8≠s_)∧(s_≠I8)∧(Below w.heap.size w w')) ?_ ?_
 rotate_left
 ·intro hCont
  refine U9 (i:=4) (j:=13) (Ni:=some 24) (Nj:=some 13) #[ab,ab,ab,ab,ab,ab,ab,ab,ab,ab,ab,ab,ac,ac,ac] #[ab,ab,ab,ab,ac,ab,ab,ab,ab,ab,ab,ab,ac,ab,ac] rfl rfl rfl rfl (Jn bz.out aM) (by decide) (by decide) (fun K hK=>?_) (fun K hK=>?_)
  ·skip
   refine gJ Try.func133 aM rfl #[.agg #[U Z ai,U Z aj,U Z aC,U Z aD,U Z aJ,U Z aH,U Z aK,.slice dW aT.length dN,.slice dZ ak.length dO],.agg #[U Z aI,U Z aG,U Z bn,U Z bq,U Z bH,U Z bI,U Z bG],.agg #[U Z bZ,U Z cz,U Z dw,U Z dx]] (by rfl) rfl rfl ji ?_
   with_reducible refine (fC.calls k ai aj aC aD aJ aH aK _ _ aT _ _ ak aI aG bn bq bH bI bG bZ cz dw dx Vp Vq Vr Vs _ ?cZ ?df ?eu ?eB A7.out).mono ?_
   (case cZ=>repeat (first|exact (Kd.bB ik.out HB.out)|(with_reducible refine Kd.bC ?_ _)|(with_reducible refine Kd.bD ?_ _)|(with_reducible refine Kd.bN ?_)))
   (case df=>exact iC.out)
   (case eu=>repeat (first|exact (Kd.bB gN.out HB.out)|(with_reducible refine Kd.bC ?_ _)|(with_reducible refine Kd.bD ?_ _)|(with_reducible refine Kd.bN ?_)))
   (case eB=>exact iD.out)
   rintro e w23 ⟨rfl,hb⟩
   refine ⟨_,rfl,?_⟩
   replace dS:=aX dS hb
   replace dV:=aX dV hb
   replace fZ:=aX fZ hb
   replace kv:=aX kv hb
   replace lD:=aX lD hb
   replace HB:=cO HB hb
   (try clear hb)
   (try clear hb2)
   (try clear hk)
   (try clear hi)
   refine hK.out _ _ ⟨bE dS 0,bE dS 1,bE dS 2,bE dS 3,bE dS 4,bE dS 5,bE dS 6,bE dS 7,bE dS 8,bE dV 0,bE dV 1,bE dV 2,bE dV 3,bE dV 4,bE dV 5,bE dV 6,bE fZ 0,bE fZ 1,bE fZ 2,bE fZ 3,GJ kv.out⟩ (fun hHeld=>?_)
   clear hK K
   refine dM ame ?_
   refine U9 (i:=12) (j:=13) (Ni:=some 32) (Nj:=some 13) #[ab,ab,ab,ab,ab,ab,ab,ab,ab,ab,ab,ab,ab,ac,ac] #[ab,ab,ab,ab,ab,ab,ab,ab,ab,ab,ab,ab,ac,ab,ac] rfl rfl rfl rfl (Jn bz.out aM) (by decide) (by decide) (fun K hK=>?_) (fun K hK=>?_)
   ·skip
    refine gJ Try.func73 aM rfl #[.agg #[U Z ai,U Z aj,U Z aC,U Z aD,U Z aJ,U Z aH,U Z aK,.slice dW aT.length dN,.slice dZ ak.length dO],.agg #[U Z Vp,U Z Vq,U Z Vr,U Z Vs],U Z gF,U Z a3,U Z (wrap64 (a3+aG))] (by rfl) rfl rfl ji ?_
    with_reducible refine (bg.calls k ai aj aC aD aJ aH aK _ _ aT _ _ ak Vp Vq Vr Vs gF a3 (wrap64 (a3+aG)) FO Ic Ie Jd _ ?cZ ?df ?eu ?eB A8.out).mono ?_
    (case cZ=>repeat (first|exact (Kd.bB ik.out HB.out)|(with_reducible refine Kd.bC ?_ _)|(with_reducible refine Kd.bD ?_ _)|(with_reducible refine Kd.bN ?_)))
    (case df=>exact iC.out)
    (case eu=>repeat (first|exact (Kd.bB gN.out HB.out)|(with_reducible refine Kd.bC ?_ _)|(with_reducible refine Kd.bD ?_ _)|(with_reducible refine Kd.bN ?_)))
    (case eB=>exact iD.out)
    rintro e w24 ⟨rfl,hb⟩
    refine ⟨_,rfl,?_⟩
    replace dS:=aX dS hb
    replace dV:=aX dV hb
    replace fZ:=aX fZ hb
    replace kv:=aX kv hb
    replace lD:=aX lD hb
    replace HB:=cO HB hb
    (try clear hb)
    (try clear hb2)
    (try clear hk)
    (try clear hi)
    refine hK.out _ _ ⟨bE dS 0,bE dS 1,bE dS 2,bE dS 3,bE dS 4,bE dS 5,bE dS 6,bE dS 7,bE dS 8,bE dV 0,bE dV 1,bE dV 2,bE dV 3,bE dV 4,bE dV 5,bE dV 6,bE fZ 0,bE fZ 1,bE fZ 2,bE fZ 3,GJ kv.out⟩ (fun hHeld=>?_)
    clear hK K
    refine dM azo ?_
    refine iO (i:=13) (N:=some 13) #[ab,ab,ab,ab,ab,ab,ab,ab,ab,ab,ab,ab,ab,ab,ac] rfl rfl (eH bz.out aM) (by decide) (fun K hK=>?_)
    refine nV ?hg (N:=13) ?hd (cs:=#[U Z 0,U Z 0,U Z 0,U Z 0]) (t:=40) ?hr ?_;(case hd=>rfl);(case hg=>rfl);(case hr=>first|(go_simp;done)|(go_simp;rfl))
    intro jE hg w25 hbox hb
    have ng:=aa.mk (hbox)
    have Wi:=bS HB hg
    have Wj:=bS HB hg
    have eY:=eQ dS hg
    have rU:=eT dS hg
    have gG:=eQ dV hg
    have rV:=eT dV hg
    have jr:=eQ fZ hg
    have rW:=eT fZ hg
    have l9:=eQ kv hg
    have rX:=eT kv hg
    have oF:=eQ lD hg
    have iM:=eT lD hg
    replace dS:=aX dS hb
    replace dV:=aX dV hb
    replace fZ:=aX fZ hb
    replace kv:=aX kv hb
    replace lD:=aX lD hb
    replace HB:=cO HB hb
    clear hb hbox hg
    refine hK.out _ _ ⟨bE dS 0,bE dS 1,bE dS 2,bE dS 3,bE dS 4,bE dS 5,bE dS 6,bE dS 7,bE dS 8,bE dV 0,bE dV 1,bE dV 2,bE dV 3,bE dV 4,bE dV 5,bE dV 6,bE fZ 0,bE fZ 1,bE fZ 2,bE fZ 3,GJ kv.out⟩ (fun hHeld=>?_)
    clear hK K
    refine dM adZ ?_
    exact dM M9 (hCont (jE) _ ⟨hHeld,gB,gB,gB,gB,gB,gB,Wi.out,Wj.out,eY.out,rU.out,gG.out,rV.out,jr.out,rW.out,l9.out,rX.out,oF.out,iM.out,gL⟩)
   ·skip
    refine nV ?hg (N:=13) ?hd (cs:=#[U Z 0,U Z 0,U Z 0,U Z 0]) (t:=40) ?hr ?_;(case hd=>rfl);(case hg=>rfl);(case hr=>first|(go_simp;done)|(go_simp;rfl))
    intro jE hg w24 hbox hb
    have ng:=aa.mk (hbox)
    have Wi:=bS HB hg
    have Wj:=bS HB hg
    have eY:=eQ dS hg
    have rU:=eT dS hg
    have gG:=eQ dV hg
    have rV:=eT dV hg
    have jr:=eQ fZ hg
    have rW:=eT fZ hg
    have l9:=eQ kv hg
    have rX:=eT kv hg
    have oF:=eQ lD hg
    have iM:=eT lD hg
    replace dS:=aX dS hb
    replace dV:=aX dV hb
    replace fZ:=aX fZ hb
    replace kv:=aX kv hb
    replace lD:=aX lD hb
    replace HB:=cO HB hb
    clear hb hbox hg
    refine hK.out _ _ ⟨bE dS 0,bE dS 1,bE dS 2,bE dS 3,bE dS 4,bE dS 5,bE dS 6,bE dS 7,bE dS 8,bE dV 0,bE dV 1,bE dV 2,bE dV 3,bE dV 4,bE dV 5,bE dV 6,bE fZ 0,bE fZ 1,bE fZ 2,bE fZ 3,GJ kv.out⟩ (fun hHeld=>?_)
    clear hK K
    refine dM adZ ?_
    refine iO (i:=12) (N:=some 32) #[ab,ab,ab,ab,ab,ab,ab,ab,ab,ab,ab,ab,ab,ab,ac] rfl rfl (eH bz.out aM) (by decide) (fun K hK=>?_)
    refine gJ Try.func73 aM rfl #[.agg #[U Z ai,U Z aj,U Z aC,U Z aD,U Z aJ,U Z aH,U Z aK,.slice dW aT.length dN,.slice dZ ak.length dO],.agg #[U Z Vp,U Z Vq,U Z Vr,U Z Vs],U Z gF,U Z a3,U Z (wrap64 (a3+aG))] (by rfl) rfl rfl ji ?_
    with_reducible refine (bg.calls k ai aj aC aD aJ aH aK _ _ aT _ _ ak Vp Vq Vr Vs gF a3 (wrap64 (a3+aG)) FO Ic Ie Jd _ ?cZ ?df ?eu ?eB A8.out).mono ?_
    (case cZ=>repeat (first|exact (Kd.bB ik.out HB.out)|(with_reducible refine Kd.bC ?_ _)|(with_reducible refine Kd.bD ?_ _)|(with_reducible refine Kd.bN ?_)))
    (case df=>exact iC.out)
    (case eu=>repeat (first|exact (Kd.bB gN.out HB.out)|(with_reducible refine Kd.bC ?_ _)|(with_reducible refine Kd.bD ?_ _)|(with_reducible refine Kd.bN ?_)))
    (case eB=>exact iD.out)
    rintro e w25 ⟨rfl,hb⟩
    refine ⟨_,rfl,?_⟩
    replace dS:=aX dS hb
    replace dV:=aX dV hb
    replace fZ:=aX fZ hb
    replace kv:=aX kv hb
    replace lD:=aX lD hb
    replace ng:=aX ng hb
    replace HB:=cO HB hb
    (try clear hb)
    (try clear hb2)
    (try clear hk)
    (try clear hi)
    refine hK.out _ _ ⟨bE dS 0,bE dS 1,bE dS 2,bE dS 3,bE dS 4,bE dS 5,bE dS 6,bE dS 7,bE dS 8,bE dV 0,bE dV 1,bE dV 2,bE dV 3,bE dV 4,bE dV 5,bE dV 6,bE fZ 0,bE fZ 1,bE fZ 2,bE fZ 3,GJ kv.out⟩ (fun hHeld=>?_)
    clear hK K
    refine dM azo ?_
    exact dM M9 (hCont (jE) _ ⟨hHeld,gB,gB,gB,gB,gB,gB,Wi.out,Wj.out,eY.out,rU.out,gG.out,rV.out,jr.out,rW.out,l9.out,rX.out,oF.out,iM.out,gL⟩)
  ·skip
   refine nV ?hg (N:=13) ?hd (cs:=#[U Z 0,U Z 0,U Z 0,U Z 0]) (t:=40) ?hr ?_;(case hd=>rfl);(case hg=>rfl);(case hr=>first|(go_simp;done)|(go_simp;rfl))
   intro jE hg w23 hbox hb
   have ng:=aa.mk (hbox)
   have Wi:=bS HB hg
   have Wj:=bS HB hg
   have eY:=eQ dS hg
   have rU:=eT dS hg
   have gG:=eQ dV hg
   have rV:=eT dV hg
   have jr:=eQ fZ hg
   have rW:=eT fZ hg
   have l9:=eQ kv hg
   have rX:=eT kv hg
   have oF:=eQ lD hg
   have iM:=eT lD hg
   replace dS:=aX dS hb
   replace dV:=aX dV hb
   replace fZ:=aX fZ hb
   replace kv:=aX kv hb
   replace lD:=aX lD hb
   replace HB:=cO HB hb
   clear hb hbox hg
   refine hK.out _ _ ⟨bE dS 0,bE dS 1,bE dS 2,bE dS 3,bE dS 4,bE dS 5,bE dS 6,bE dS 7,bE dS 8,bE dV 0,bE dV 1,bE dV 2,bE dV 3,bE dV 4,bE dV 5,bE dV 6,bE fZ 0,bE fZ 1,bE fZ 2,bE fZ 3,GJ kv.out⟩ (fun hHeld=>?_)
   clear hK K
   refine dM adZ ?_
   refine iO (i:=4) (N:=some 24) #[ab,ab,ab,ab,ab,ab,ab,ab,ab,ab,ab,ab,ac,ab,ac] rfl rfl (eH bz.out aM) (by decide) (fun K hK=>?_)
   refine gJ Try.func133 aM rfl #[.agg #[U Z ai,U Z aj,U Z aC,U Z aD,U Z aJ,U Z aH,U Z aK,.slice dW aT.length dN,.slice dZ ak.length dO],.agg #[U Z aI,U Z aG,U Z bn,U Z bq,U Z bH,U Z bI,U Z bG],.agg #[U Z bZ,U Z cz,U Z dw,U Z dx]] (by rfl) rfl rfl ji ?_
   with_reducible refine (fC.calls k ai aj aC aD aJ aH aK _ _ aT _ _ ak aI aG bn bq bH bI bG bZ cz dw dx Vp Vq Vr Vs _ ?cZ ?df ?eu ?eB A7.out).mono ?_
   (case cZ=>repeat (first|exact (Kd.bB ik.out HB.out)|(with_reducible refine Kd.bC ?_ _)|(with_reducible refine Kd.bD ?_ _)|(with_reducible refine Kd.bN ?_)))
   (case df=>exact iC.out)
   (case eu=>repeat (first|exact (Kd.bB gN.out HB.out)|(with_reducible refine Kd.bC ?_ _)|(with_reducible refine Kd.bD ?_ _)|(with_reducible refine Kd.bN ?_)))
   (case eB=>exact iD.out)
   rintro e w24 ⟨rfl,hb⟩
   refine ⟨_,rfl,?_⟩
   replace dS:=aX dS hb
   replace dV:=aX dV hb
   replace fZ:=aX fZ hb
   replace kv:=aX kv hb
   replace lD:=aX lD hb
   replace ng:=aX ng hb
   replace HB:=cO HB hb
   (try clear hb)
   (try clear hb2)
   (try clear hk)
   (try clear hi)
   refine hK.out _ _ ⟨bE dS 0,bE dS 1,bE dS 2,bE dS 3,bE dS 4,bE dS 5,bE dS 6,bE dS 7,bE dS 8,bE dV 0,bE dV 1,bE dV 2,bE dV 3,bE dV 4,bE dV 5,bE dV 6,bE fZ 0,bE fZ 1,bE fZ 2,bE fZ 3,GJ kv.out⟩ (fun hHeld=>?_)
   clear hK K
   refine dM ame ?_
   refine iO (i:=12) (N:=some 32) #[ab,ab,ab,ab,ab,ab,ab,ab,ab,ab,ab,ab,ab,ab,ac] rfl rfl (eH bz.out aM) (by decide) (fun K hK=>?_)
   refine gJ Try.func73 aM rfl #[.agg #[U Z ai,U Z aj,U Z aC,U Z aD,U Z aJ,U Z aH,U Z aK,.slice dW aT.length dN,.slice dZ ak.length dO],.agg #[U Z Vp,U Z Vq,U Z Vr,U Z Vs],U Z gF,U Z a3,U Z (wrap64 (a3+aG))] (by rfl) rfl rfl ji ?_
   with_reducible refine (bg.calls k ai aj aC aD aJ aH aK _ _ aT _ _ ak Vp Vq Vr Vs gF a3 (wrap64 (a3+aG)) FO Ic Ie Jd _ ?cZ ?df ?eu ?eB A8.out).mono ?_
   (case cZ=>repeat (first|exact (Kd.bB ik.out HB.out)|(with_reducible refine Kd.bC ?_ _)|(with_reducible refine Kd.bD ?_ _)|(with_reducible refine Kd.bN ?_)))
   (case df=>exact iC.out)
   (case eu=>repeat (first|exact (Kd.bB gN.out HB.out)|(with_reducible refine Kd.bC ?_ _)|(with_reducible refine Kd.bD ?_ _)|(with_reducible refine Kd.bN ?_)))
   (case eB=>exact iD.out)
   rintro e w25 ⟨rfl,hb⟩
   refine ⟨_,rfl,?_⟩
   replace dS:=aX dS hb
   replace dV:=aX dV hb
   replace fZ:=aX fZ hb
   replace kv:=aX kv hb
   replace lD:=aX lD hb
   replace ng:=aX ng hb
   replace HB:=cO HB hb
   (try clear hb)
   (try clear hb2)
   (try clear hk)
   (try clear hi)
   refine hK.out _ _ ⟨bE dS 0,bE dS 1,bE dS 2,bE dS 3,bE dS 4,bE dS 5,bE dS 6,bE dS 7,bE dS 8,bE dV 0,bE dV 1,bE dV 2,bE dV 3,bE dV 4,bE dV 5,bE dV 6,bE fZ 0,bE fZ 1,bE fZ 2,bE fZ 3,GJ kv.out⟩ (fun hHeld=>?_)
   clear hK K
   refine dM azo ?_
   exact dM M9 (hCont (jE) _ ⟨hHeld,gB,gB,gB,gB,gB,gB,Wi.out,Wj.out,eY.out,rU.out,gG.out,rV.out,jr.out,rW.out,l9.out,rX.out,oF.out,iM.out,gL⟩)
 rintro jE xk ⟨hS_,h0_,h1_,h2_,h3_,h4_,h5_,h6_,h7_,h8_,h9_,Jo,Ub,abP,abQ,aDb,aDc,aDd,aDe,aDf⟩
 have vD:aa (xk.heap[oD]? = some (.cells #[U Z ai,U Z aj,U Z aC,U Z aD,U Z aJ,U Z aH,U Z aK,.slice dW aT.length dN,.slice dZ ak.length dO] 25 (0,0))):=⟨h0_⟩
 have vE:aa (xk.heap[ou]? = some (.cells #[U Z aI,U Z aG,U Z bn,U Z bq,U Z bH,U Z bI,U Z bG] 29 (0,0))):=⟨h1_⟩
 have vF:aa (xk.heap[tT]? = some (.cells #[U Z bZ,U Z cz,U Z dw,U Z dx] 31 (0,0))):=⟨h2_⟩
 have vG:aa (xk.heap[FQ]? = some (.cells #[U Z gD,U Z gF] 33 (0,0))):=⟨h3_⟩
 have vY:aa (xk.heap[I8]? = some (.cells #[U Z 0,U Z 0,U Z 0,U Z 0] 31 (0,0))):=⟨h4_⟩
 have BP:aa (xk.heap[jE]? = some (.cells #[U Z 0,U Z 0,U Z 0,U Z 0] 40 (0,0))):=⟨h5_⟩
 have Jc:aa (w.heap.size≤jE):=⟨h6_⟩
 have Ld:aa (w.heap.size≤jE):=⟨h7_⟩
 have n8_:aa (oD≠jE):=⟨h8_⟩
 have n9_:aa (jE≠oD):=⟨h9_⟩
 have Jp:aa (ou≠jE):=⟨Jo⟩
 have Uc:aa (jE≠ou):=⟨Ub⟩
 have abR:aa (tT≠jE):=⟨abP⟩
 have abS:aa (jE≠tT):=⟨abQ⟩
 have aDg:aa (FQ≠jE):=⟨aDb⟩
 have aDh:aa (jE≠FQ):=⟨aDc⟩
 have aDi:aa (I8≠jE):=⟨aDd⟩
 have aDj:aa (jE≠I8):=⟨aDe⟩
 have aDk:aa (Below w.heap.size w xk):=⟨aDf⟩
 clear dS dV fZ kv lD HB
 clear h0_ h1_ h2_ h3_ h4_ h5_ h6_ h7_ h8_ h9_ Jo Ub abP abQ aDb aDc aDd aDe aDf
 have dS:=vD
 have dV:=vE
 have fZ:=vF
 have kv:=vG
 have lD:=vY
 have ng:=BP
 have Wi:=Jc
 have Wj:=Ld
 have eY:=n8_
 have rU:=n9_
 have gG:=Jp
 have rV:=Uc
 have jr:=abR
 have rW:=abS
 have l9:=aDg
 have rX:=aDh
 have oF:=aDi
 have iM:=aDj
 have HB:=aDk
 clear vD vE vF vG vY BP Jc Ld n8_ n9_ Jp Uc abR abS aDg aDh aDi aDj aDk
 have hHeld:xk.cell? ⟨oD,0,none⟩ = some (U Z ai)∧xk.cell? ⟨oD,1,none⟩ = some (U Z aj)∧xk.cell? ⟨oD,2,none⟩ = some (U Z aC)∧xk.cell? ⟨oD,3,none⟩ = some (U Z aD)∧xk.cell? ⟨oD,4,none⟩ = some (U Z aJ)∧xk.cell? ⟨oD,5,none⟩ = some (U Z aH)∧xk.cell? ⟨oD,6,none⟩ = some (U Z aK)∧xk.cell? ⟨oD,7,none⟩ = some (.slice dW aT.length dN)∧xk.cell? ⟨oD,8,none⟩ = some (.slice dZ ak.length dO)∧xk.cell? ⟨ou,0,none⟩ = some (U Z aI)∧xk.cell? ⟨ou,1,none⟩ = some (U Z aG)∧xk.cell? ⟨ou,2,none⟩ = some (U Z bn)∧xk.cell? ⟨ou,3,none⟩ = some (U Z bq)∧xk.cell? ⟨ou,4,none⟩ = some (U Z bH)∧xk.cell? ⟨ou,5,none⟩ = some (U Z bI)∧xk.cell? ⟨ou,6,none⟩ = some (U Z bG)∧xk.cell? ⟨tT,0,none⟩ = some (U Z bZ)∧xk.cell? ⟨tT,1,none⟩ = some (U Z cz)∧xk.cell? ⟨tT,2,none⟩ = some (U Z dw)∧xk.cell? ⟨tT,3,none⟩ = some (U Z dx)∧xk.cell? ⟨FQ,0,none⟩ = some (U Z gD)∧xk.cell? ⟨FQ,1,none⟩ = some (U Z gF):=hS_
 refine dM (a':=?_) ?_ ?_
 rotate_left
 ·simp only [xC,Act.put,List.setIfInBounds_toArray,List.set_cons_zero,List.set_cons_succ]
  rfl
 refine iO (i:=14) (N:=none) #[ab,ab,ab,ab,ab,ab,ab,ab,ab,ab,ab,ab,ab,ab,ab] rfl rfl (eH bz.out aM) (by decide) (fun K hK=>?_)
 have aW6:xk.cell? ⟨jE,0,none⟩ = some (U Z 0):=(ah ng.out 0).trans rfl
 have aDl:=bf ng.out 0
 have ar0:=eY.out
 have ar1:=gG.out
 have aQk:=jr.out
 have aQl:=l9.out
 have aQm:=oF.out
 have ar2:=rU.out
 have ar3:=rV.out
 have aQn:=rW.out
 have aQo:=rX.out
 have aQp:=iM.out
 have aW7:xk.cell? ⟨jE,1,none⟩ = some (U Z 0):=(ah ng.out 1).trans rfl
 have aDm:=bf ng.out 1
 have ar4:=eY.out
 have ar5:=gG.out
 have aQq:=jr.out
 have aQr:=l9.out
 have aQs:=oF.out
 have ar6:=rU.out
 have ar7:=rV.out
 have aQt:=rW.out
 have aQu:=rX.out
 have aQv:=iM.out
 have a6W:xk.cell? ⟨jE,2,none⟩ = some (U Z 0):=(ah ng.out 2).trans rfl
 have a2V:=bf ng.out 2
 have aQw:=eY.out
 have aQx:=gG.out
 have aQy:=jr.out
 have aQz:=l9.out
 have aQA:=oF.out
 have aQB:=rU.out
 have aQC:=rV.out
 have aQD:=rW.out
 have aQE:=rX.out
 have aQF:=iM.out
 have a6X:xk.cell? ⟨jE,3,none⟩ = some (U Z 0):=(ah ng.out 3).trans rfl
 have a2W:=bf ng.out 3
 have aQG:=eY.out
 have aQH:=gG.out
 have aQI:=jr.out
 have aQJ:=l9.out
 have aQK:=oF.out
 have aQL:=rU.out
 have aQM:=rV.out
 have aQN:=rW.out
 have aQO:=rX.out
 have aQP:=iM.out
 refine ve (w1:=?_) (by rfl) rfl ?_ ?_
 rotate_left
 ·go_simp
  rfl
 refine hK.out _ _ ⟨(bY eY ((bY eY ((bY eY ((bY eY (hHeld.1)))))))),(bY eY ((bY eY ((bY eY ((bY eY (hHeld.2.1)))))))),(bY eY ((bY eY ((bY eY ((bY eY (hHeld.2.2.1)))))))),(bY eY ((bY eY ((bY eY ((bY eY (hHeld.2.2.2.1)))))))),(bY eY ((bY eY ((bY eY ((bY eY (hHeld.2.2.2.2.1)))))))),(bY eY ((bY eY ((bY eY ((bY eY (hHeld.2.2.2.2.2.1)))))))),(bY eY ((bY eY ((bY eY ((bY eY (hHeld.2.2.2.2.2.2.1)))))))),(bY eY ((bY eY ((bY eY ((bY eY (hHeld.2.2.2.2.2.2.2.1)))))))),(bY eY ((bY eY ((bY eY ((bY eY (hHeld.2.2.2.2.2.2.2.2.1)))))))),(bY gG ((bY gG ((bY gG ((bY gG (hHeld.2.2.2.2.2.2.2.2.2.1)))))))),(bY gG ((bY gG ((bY gG ((bY gG (hHeld.2.2.2.2.2.2.2.2.2.2.1)))))))),(bY gG ((bY gG ((bY gG ((bY gG (hHeld.2.2.2.2.2.2.2.2.2.2.2.1)))))))),(bY gG ((bY gG ((bY gG ((bY gG (hHeld.2.2.2.2.2.2.2.2.2.2.2.2.1)))))))),(bY gG ((bY gG ((bY gG ((bY gG (hHeld.2.2.2.2.2.2.2.2.2.2.2.2.2.1)))))))),(bY gG ((bY gG ((bY gG ((bY gG (hHeld.2.2.2.2.2.2.2.2.2.2.2.2.2.2.1)))))))),(bY gG ((bY gG ((bY gG ((bY gG (hHeld.2.2.2.2.2.2.2.2.2.2.2.2.2.2.2.1)))))))),(bY jr ((bY jr ((bY jr ((bY jr (hHeld.2.2.2.2.2.2.2.2.2.2.2.2.2.2.2.2.1)))))))),(bY jr ((bY jr ((bY jr ((bY jr (hHeld.2.2.2.2.2.2.2.2.2.2.2.2.2.2.2.2.2.1)))))))),(bY jr ((bY jr ((bY jr ((bY jr (hHeld.2.2.2.2.2.2.2.2.2.2.2.2.2.2.2.2.2.2.1)))))))),(bY jr ((bY jr ((bY jr ((bY jr (hHeld.2.2.2.2.2.2.2.2.2.2.2.2.2.2.2.2.2.2.2.1)))))))),(bY l9 ((bY l9 ((bY l9 ((bY l9 (hHeld.2.2.2.2.2.2.2.2.2.2.2.2.2.2.2.2.2.2.2.2.1)))))))),(bY l9 ((bY l9 ((bY l9 ((bY l9 (hHeld.2.2.2.2.2.2.2.2.2.2.2.2.2.2.2.2.2.2.2.2.2))))))))⟩ (fun hHeld=>?_)
 clear hK K
 refine jS (ja bz.out aM) ?_
 try go_wp2
 have vD:aa (((((xk.setCell ⟨jE,0,none⟩ (U Z FO)).setCell ⟨jE,1,none⟩ (U Z Ic)).setCell ⟨jE,2,none⟩ (U Z Ie)).setCell ⟨jE,3,none⟩ (U Z Jd)).heap[oD]? = some (.cells #[U Z ai,U Z aj,U Z aC,U Z aD,U Z aJ,U Z aH,U Z aK,.slice dW aT.length dN,.slice dZ ak.length dO] 25 (0,0))):=⟨gB⟩
 have vE:aa (((((xk.setCell ⟨jE,0,none⟩ (U Z FO)).setCell ⟨jE,1,none⟩ (U Z Ic)).setCell ⟨jE,2,none⟩ (U Z Ie)).setCell ⟨jE,3,none⟩ (U Z Jd)).heap[ou]? = some (.cells #[U Z aI,U Z aG,U Z bn,U Z bq,U Z bH,U Z bI,U Z bG] 29 (0,0))):=⟨gB⟩
 have vF:aa (((((xk.setCell ⟨jE,0,none⟩ (U Z FO)).setCell ⟨jE,1,none⟩ (U Z Ic)).setCell ⟨jE,2,none⟩ (U Z Ie)).setCell ⟨jE,3,none⟩ (U Z Jd)).heap[tT]? = some (.cells #[U Z bZ,U Z cz,U Z dw,U Z dx] 31 (0,0))):=⟨gB⟩
 have vG:aa (((((xk.setCell ⟨jE,0,none⟩ (U Z FO)).setCell ⟨jE,1,none⟩ (U Z Ic)).setCell ⟨jE,2,none⟩ (U Z Ie)).setCell ⟨jE,3,none⟩ (U Z Jd)).heap[FQ]? = some (.cells #[U Z gD,U Z gF] 33 (0,0))):=⟨gB⟩
 have vY:aa (((((xk.setCell ⟨jE,0,none⟩ (U Z FO)).setCell ⟨jE,1,none⟩ (U Z Ic)).setCell ⟨jE,2,none⟩ (U Z Ie)).setCell ⟨jE,3,none⟩ (U Z Jd)).heap[I8]? = some (.cells #[U Z 0,U Z 0,U Z 0,U Z 0] 31 (0,0))):=⟨gB⟩
 have BP:aa (((((xk.setCell ⟨jE,0,none⟩ (U Z FO)).setCell ⟨jE,1,none⟩ (U Z Ic)).setCell ⟨jE,2,none⟩ (U Z Ie)).setCell ⟨jE,3,none⟩ (U Z Jd)).heap[jE]? = some (.cells #[U Z FO,U Z Ic,U Z Ie,U Z Jd] 40 (0,0))):=⟨by (with_reducible repeat (first|refine av ?_ _|refine ag ?_|refine af ?_ _));refine aN (cs:=#[U Z FO,U Z Ic,U Z Ie,U Z 0]) ?_ 3 _ rfl;(with_reducible repeat (first|refine av ?_ _|refine ag ?_|refine af ?_ _));refine aN (cs:=#[U Z FO,U Z Ic,U Z 0,U Z 0]) ?_ 2 _ rfl;(with_reducible repeat (first|refine av ?_ _|refine ag ?_|refine af ?_ _));refine aN (cs:=#[U Z FO,U Z 0,U Z 0,U Z 0]) ?_ 1 _ rfl;(with_reducible repeat (first|refine av ?_ _|refine ag ?_|refine af ?_ _));refine aN (cs:=#[U Z 0,U Z 0,U Z 0,U Z 0]) ?_ 0 _ rfl;(with_reducible repeat (first|refine av ?_ _|refine ag ?_|refine af ?_ _));exact ng.out⟩
 have Jc:aa (Below w.heap.size w ((((xk.setCell ⟨jE,0,none⟩ (U Z FO)).setCell ⟨jE,1,none⟩ (U Z Ic)).setCell ⟨jE,2,none⟩ (U Z Ie)).setCell ⟨jE,3,none⟩ (U Z Jd))):=⟨gL⟩
 (try clear dS)
 (try clear dV)
 (try clear fZ)
 (try clear kv)
 (try clear lD)
 (try clear ng)
 (try clear HB)
 generalize ((((xk.setCell ⟨jE,0,none⟩ (U Z FO)).setCell ⟨jE,1,none⟩ (U Z Ic)).setCell ⟨jE,2,none⟩ (U Z Ie)).setCell ⟨jE,3,none⟩ (U Z Jd)) = w31 at vD vE vF vG vY BP Jc ⊢
 have dS:=vD
 have dV:=vE
 have fZ:=vF
 have kv:=vG
 have lD:=vY
 have ng:=BP
 have HB:=Jc
 clear vD vE vF vG vY BP Jc
 replace dS:=aa.mk (ag dS.out)
 replace dV:=aa.mk (ag dV.out)
 replace fZ:=aa.mk (ag fZ.out)
 replace kv:=aa.mk (ag kv.out)
 replace lD:=aa.mk (ag lD.out)
 replace ng:=aa.mk (ag ng.out)
 replace HB:=aa.mk (bO HB.out)
 refine iN (n:=24) (S:=fun w'=>w'.cell? ⟨tT,0,none⟩ = some (U Z bZ)∧w'.cell? ⟨tT,1,none⟩ = some (U Z cz)∧w'.cell? ⟨tT,2,none⟩ = some (U Z dw)∧w'.cell? ⟨tT,3,none⟩ = some (U Z dx)∧w'.cell? ⟨ou,0,none⟩ = some (U Z aI)∧w'.cell? ⟨ou,1,none⟩ = some (U Z aG)∧w'.cell? ⟨ou,2,none⟩ = some (U Z bn)∧w'.cell? ⟨ou,3,none⟩ = some (U Z bq)∧w'.cell? ⟨ou,4,none⟩ = some (U Z bH)∧w'.cell? ⟨ou,5,none⟩ = some (U Z bI)∧w'.cell? ⟨ou,6,none⟩ = some (U Z bG)∧w'.cell? ⟨jE,0,none⟩ = some (U Z FO)∧w'.cell? ⟨jE,1,none⟩ = some (U Z Ic)∧w'.cell? ⟨jE,2,none⟩ = some (U Z Ie)∧w'.cell? ⟨jE,3,none⟩ = some (U Z Jd)) (ds:=[]) #[ac,ac,ac,ac,ac,ac,ac,ac,ac,ac,ac,ac,ac,ac,ac,ac,ac,ac,ac,ac,ac,ac,ac,ac] aM rfl rfl ⟨bE fZ 0,bE fZ 1,bE fZ 2,bE fZ 3,bE dV 0,bE dV 1,bE dV 2,bE dV 3,bE dV 4,bE dV 5,bE dV 6,bE ng 0,bE ng 1,bE ng 2,bE ng 3⟩ (fun hHeld=>?_);refine fU dG.aW5 dG.aC9 (fun bz jb=>?_)
 generalize w31.drew = w32 at dS dV fZ kv lD ng HB hHeld ⊢
 refine bV (i:=0) (N:=some 33) (ax bz.out aM) ?_
 refine bV (i:=2) (N:=some 35) (ax bz.out aM) ?_
 refine bV (i:=3) (N:=some 36) (ax bz.out aM) ?_
 refine bV (i:=6) (N:=some 39) (ax bz.out aM) ?_
 refine bV (i:=8) (N:=some 41) (ax bz.out aM) ?_
 refine bV (i:=11) (N:=some 44) (ax bz.out aM) ?_
 refine bV (i:=13) (N:=some 46) (ax bz.out aM) ?_
 refine bV (i:=14) (N:=some 47) (ax bz.out aM) ?_
 refine bV (i:=17) (N:=some 50) (ax bz.out aM) ?_
 refine bV (i:=19) (N:=some 52) (ax bz.out aM) ?_
 refine iL (i:=1) (N:=some 34) (aY bz.out jb.out aM) hHeld ?_
 refine iL (i:=4) (N:=some 37) (aY bz.out jb.out aM) hHeld ?_
 refine bV (i:=5) (N:=some 38) (ax bz.out aM) ?_
 refine iL (i:=7) (N:=some 40) (aY bz.out jb.out aM) hHeld ?_
 refine iL (i:=9) (N:=some 42) (aY bz.out jb.out aM) hHeld ?_
 refine iL (i:=12) (N:=some 45) (aY bz.out jb.out aM) hHeld ?_
 refine iL (i:=15) (N:=some 48) (aY bz.out jb.out aM) hHeld ?_
 refine bV (i:=16) (N:=some 49) (ax bz.out aM) ?_
 refine iL (i:=18) (N:=some 51) (aY bz.out jb.out aM) hHeld ?_
 refine iL (i:=20) (N:=some 53) (aY bz.out jb.out aM) hHeld ?_
 refine iO (i:=10) (N:=some 43) #[ab,ab,ab,ab,ab,ab,ab,ab,ab,ab,ab,ab,ab,ab,ab,ab,ab,ab,ab,ab,ab,ac,ac,ac] rfl rfl (eH bz.out aM) (by decide) (fun K hK=>?_)
 refine gJ Try.func134 aM rfl #[.agg #[U Z bZ,U Z cz],U Z (wrap64 (akG*aI)),.agg #[U Z FO,U Z Ic],U Z aG] (by rfl) rfl rfl ji ?_
 with_reducible refine (dK.calls k bZ cz (wrap64 (akG*aI)) FO Ic aG aeq akH _ A9.out).mono ?_
 rintro e I5 ⟨rfl,hb⟩
 refine ⟨_,rfl,?_⟩
 replace dS:=aX dS hb
 replace dV:=aX dV hb
 replace fZ:=aX fZ hb
 replace kv:=aX kv hb
 replace lD:=aX lD hb
 replace ng:=aX ng hb
 replace HB:=cO HB hb
 (try clear hb)
 (try clear hb2)
 (try clear hk)
 (try clear hi)
 refine hK.out _ _ ⟨bE fZ 0,bE fZ 1,bE fZ 2,bE fZ 3,bE dV 0,bE dV 1,bE dV 2,bE dV 3,bE dV 4,bE dV 5,bE dV 6,bE ng 0,bE ng 1,bE ng 2,bE ng 3⟩ (fun hHeld=>?_)
 clear hK K
 refine dM aBF ?_
 refine iO (i:=21) (N:=some 54) #[ab,ab,ab,ab,ab,ab,ab,ab,ab,ab,ab,ab,ab,ab,ab,ab,ab,ab,ab,ab,ab,ab,ac,ac] rfl rfl (eH bz.out aM) (by decide) (fun K hK=>?_)
 refine gJ Try.func134 aM rfl #[.agg #[U Z dw,U Z dx],U Z (wrap64 (aep*aI)),.agg #[U Z Ie,U Z Jd],U Z aG] (by rfl) rfl rfl ji ?_
 with_reducible refine (dK.calls k dw dx (wrap64 (aep*aI)) Ie Jd aG arZ azn _ QJ.out).mono ?_
 rintro e w34 ⟨rfl,hb⟩
 refine ⟨_,rfl,?_⟩
 replace dS:=aX dS hb
 replace dV:=aX dV hb
 replace fZ:=aX fZ hb
 replace kv:=aX kv hb
 replace lD:=aX lD hb
 replace ng:=aX ng hb
 replace HB:=cO HB hb
 (try clear hb)
 (try clear hb2)
 (try clear hk)
 (try clear hi)
 refine hK.out _ _ ⟨bE fZ 0,bE fZ 1,bE fZ 2,bE fZ 3,bE dV 0,bE dV 1,bE dV 2,bE dV 3,bE dV 4,bE dV 5,bE dV 6,bE ng 0,bE ng 1,bE ng 2,bE ng 3⟩ (fun hHeld=>?_)
 clear hK K
 refine dM (by show Act.put _ (some 54) _ = _;simp only [Act.put,List.setIfInBounds_toArray,List.set_cons_zero,List.set_cons_succ,ib,ig];rfl) ?_
 refine bV (i:=22) (N:=some 55) (ax bz.out aM) ?_
 refine iO (i:=23) (N:=none) #[ab,ab,ab,ab,ab,ab,ab,ab,ab,ab,ab,ab,ab,ab,ab,ab,ab,ab,ab,ab,ab,ab,ab,ab] rfl rfl (eH bz.out aM) (by decide) (fun K hK=>?_)
 have aW8:w34.cell? ⟨I8,0,none⟩ = some (U Z 0):=(ah lD.out 0).trans rfl
 have aDn:=bf lD.out 0
 have ar8:=Kh.out
 have ar9:=iy.out
 have asa:=kZ.out
 have aQQ:=FR.out
 have aQR:=iM.out
 have asb:=Ki.out
 have asc:=Kj.out
 have ase:=Kk.out
 have aQS:=FT.out
 have aQT:=oF.out
 have aW9:w34.cell? ⟨I8,1,none⟩ = some (U Z 0):=(ah lD.out 1).trans rfl
 have aDo:=bf lD.out 1
 have asf:=Kh.out
 have asg:=iy.out
 have ash:=kZ.out
 have aQU:=FR.out
 have aQV:=iM.out
 have asi:=Ki.out
 have asj:=Kj.out
 have asl:=Kk.out
 have aQW:=FT.out
 have aQX:=oF.out
 have aXa:w34.cell? ⟨I8,2,none⟩ = some (U Z 0):=(ah lD.out 2).trans rfl
 have aDp:=bf lD.out 2
 have asn:=Kh.out
 have aso:=iy.out
 have asq:=kZ.out
 have aQY:=FR.out
 have aQZ:=iM.out
 have asr:=Ki.out
 have ass:=Kj.out
 have ast:=Kk.out
 have aQ0:=FT.out
 have aQ1:=oF.out
 have a6Y:w34.cell? ⟨I8,3,none⟩ = some (U Z 0):=(ah lD.out 3).trans rfl
 have a2X:=bf lD.out 3
 have aQ2:=Kh.out
 have aQ3:=iy.out
 have aQ4:=kZ.out
 have aQ5:=FR.out
 have aQ6:=iM.out
 have aQ7:=Ki.out
 have aQ8:=Kj.out
 have aQ9:=Kk.out
 have aRa:=FT.out
 have aRb:=oF.out
 refine ve (w1:=?_) (by rfl) rfl ?_ ?_
 rotate_left
 ·go_simp
  rfl
 refine hK.out _ _ ⟨(bY kZ ((bY kZ ((bY kZ ((bY kZ (hHeld.1)))))))),(bY kZ ((bY kZ ((bY kZ ((bY kZ (hHeld.2.1)))))))),(bY kZ ((bY kZ ((bY kZ ((bY kZ (hHeld.2.2.1)))))))),(bY kZ ((bY kZ ((bY kZ ((bY kZ (hHeld.2.2.2.1)))))))),(bY iy ((bY iy ((bY iy ((bY iy (hHeld.2.2.2.2.1)))))))),(bY iy ((bY iy ((bY iy ((bY iy (hHeld.2.2.2.2.2.1)))))))),(bY iy ((bY iy ((bY iy ((bY iy (hHeld.2.2.2.2.2.2.1)))))))),(bY iy ((bY iy ((bY iy ((bY iy (hHeld.2.2.2.2.2.2.2.1)))))))),(bY iy ((bY iy ((bY iy ((bY iy (hHeld.2.2.2.2.2.2.2.2.1)))))))),(bY iy ((bY iy ((bY iy ((bY iy (hHeld.2.2.2.2.2.2.2.2.2.1)))))))),(bY iy ((bY iy ((bY iy ((bY iy (hHeld.2.2.2.2.2.2.2.2.2.2.1)))))))),(bY iM ((bY iM ((bY iM ((bY iM (hHeld.2.2.2.2.2.2.2.2.2.2.2.1)))))))),(bY iM ((bY iM ((bY iM ((bY iM (hHeld.2.2.2.2.2.2.2.2.2.2.2.2.1)))))))),(bY iM ((bY iM ((bY iM ((bY iM (hHeld.2.2.2.2.2.2.2.2.2.2.2.2.2.1)))))))),(bY iM ((bY iM ((bY iM ((bY iM (hHeld.2.2.2.2.2.2.2.2.2.2.2.2.2.2))))))))⟩ (fun hHeld=>?_)
 clear hK K
 refine jS (ja bz.out aM) ?_
 try go_wp2
 refine bodyPost_ret (results_cell_row rfl _ _ I8 31 #[U Z aeq,U Z akH,U Z arZ,U Z azn] (0,0) _ rfl (by (with_reducible repeat (first|refine av ?_ _|refine ag ?_|refine af ?_ _));refine aN (cs:=#[U Z aeq,U Z akH,U Z arZ,U Z 0]) ?_ 3 _ rfl;(with_reducible repeat (first|refine av ?_ _|refine ag ?_|refine af ?_ _));refine aN (cs:=#[U Z aeq,U Z akH,U Z 0,U Z 0]) ?_ 2 _ rfl;(with_reducible repeat (first|refine av ?_ _|refine ag ?_|refine af ?_ _));refine aN (cs:=#[U Z aeq,U Z 0,U Z 0,U Z 0]) ?_ 1 _ rfl;(with_reducible repeat (first|refine av ?_ _|refine ag ?_|refine af ?_ _));refine aN (cs:=#[U Z 0,U Z 0,U Z 0,U Z 0]) ?_ 0 _ rfl;(with_reducible repeat (first|refine av ?_ _|refine ag ?_|refine af ?_ _));exact lD.out) Try.underlying31 rfl aM) rfl ?_
 exact ⟨lW,gL⟩
end Go.Proofs.Ytmhaiihjfgfaoaa.Pr
end
