import Derived.Maps.AppendAt
import Derived.Lib.SliceRun
import Derived.Lib.Walk
import Derived.WalkMore
import Derived.Test.YtmhaiihjfgfaoaaGpGliderPlans1
import Derived.Test.YtmhaiihjfgfaoaaGpGliderPlans3
import Derived.Test.YtmhaiihjfgfaoaaGpGliderPlans4
import Derived.Test.YtmhaiihjfgfaoaaGpGliderPlans6
import Derived.Test.YtmhaiihjfgfaoaaGpGliderPlans2
set_option linter.unusedVariables false
set_option linter.unusedSimpArgs false
open Option.some renaming inj → bh
open Option renaming bind_some → aE
open List renaming setIfInBounds_toArray → ap, set_cons_zero → aq, set_cons_succ → ar
open Go.World renaming block_lt_of_cell? → bd
set_option maxRecDepth 100000
set_option maxHeartbeats 80000000
open Go.Value renaming int → Z
open Go.IntKind renaming i64 → ab
open Bool renaming true → ac, false → al
open Go.RowKit renaming wrap64 → an
open Go renaming World → ao
section
namespace Go.Proofs.Ytmhaiihjfgfaoaa.Pr
open Go.RowKit Go.Proofs.YtmhaiihjfgfaoaaW.bu Go.Proofs.YtmhaiihjfgfaoaaW.dB Go.Proofs.YtmhaiihjfgfaoaaW.ek
attribute [local go_sem] iq iw jq jr iy
def iD.f (k:Nat) (ai:Int) (aj:Int) (az:Int) (aA:Int) (aI:Int) (aD:Int) (aJ:Int) (aX:List Bool) (aG:List (qK)) (aQ:Int) (aN:Int) (bC:Int) (bD:Int) (bU:Int) (bV:Int) (bW:Int) (cO:Int) (cZ:Int) (dh:Int) (di:Int) (a3:Int) (fE:Int) (eZ:Int) (l5:List (gU)) (jh:Int) (ji:Int) (jk:Int) (jl:Int) (jm:Int) (jo:Int):Option (Int):=(fZ.f k ai aj az aA aI aD aJ aX aG aQ aN bC bD bU bV bW).bind fun Ma=>(if Ma = 0 then ((fA.f cO cZ dh di a3).bind fun JS=>(if JS = 0 then ((bG.f fE eZ 0 1073741824).bind fun X5=>(if X5 = true then ((bQ.f k l5 aD).bind fun Fj=>(if Fj = 0 then ((gD.f jh ji jk jl jm jo).bind fun Mc=>(if Mc = true then ((gH.f k ai aj az aA aI aD aJ aX aG aQ aN bC bD bU bV bW cO cZ dh di a3 fE eZ l5 jh ji jk jl jm jo).bind fun Gq=>(some Gq)) else (some 2))) else ((bQ.f k l5 aD).bind fun Md=>(some Md)))) else (some 2))) else ((fA.f cO cZ dh di a3).bind fun X6=>(some X6)))) else ((fZ.f k ai aj az aA aI aD aJ aX aG aQ aN bC bD bU bV bW).bind fun aeS=>(some aeS)))
theorem iD.calls (k:Nat) (ai:Int) (aj:Int) (az:Int) (aA:Int) (aI:Int) (aD:Int) (aJ:Int) (dY:Option Addr) (dS:Nat) (aX:List Bool) (dV:Option Addr) (dU:Nat) (aG:List (qK)) (aQ:Int) (aN:Int) (bC:Int) (bD:Int) (bU:Int) (bV:Int) (bW:Int) (cO:Int) (cZ:Int) (dh:Int) (di:Int) (a3:Int) (fE:Int) (eZ:Int) (A5:Option Addr) (c5:Nat) (l5:List (gU)) (jh:Int) (ji:Int) (jk:Int) (jl:Int) (jm:Int) (jo:Int) (r:Int) (w:ao) (jC:Kd.C Kd.bool w dY aX.length aX) (jD:aX.length≤dS) (jE:Kd.C Dt w dV aG.length aG) (jF:aG.length≤dU) (hr5:Kd.C yn w A5 l5.length l5) (hc5:l5.length≤c5) (h:iD.f k ai aj az aA aI aD aJ aX aG aQ aN bC bD bU bV bW cO cZ dh di a3 fE eZ l5 jh ji jk jl jm jo = some r):
 Calls Try.prog 49 #[.agg #[Z ab ai,Z ab aj,Z ab az,Z ab aA,Z ab aI,Z ab aD,Z ab aJ,.slice dY aX.length dS,.slice dV aG.length dU],.agg #[Z ab aQ,Z ab aN,Z ab bC,Z ab bD,Z ab bU,Z ab bV,Z ab bW],.agg #[Z ab cO,Z ab cZ,Z ab dh,Z ab di],Z ab a3,.agg #[Z ab fE,Z ab eZ],.slice A5 l5.length c5,.agg #[Z ab jh,Z ab ji,Z ab jk,Z ab jl,Z ab jm,Z ab jo]] w fun e w'=>e = .returned (Z ab r)∧Below w.heap.size w w':=by
 have xS:=Try.underlying25
 have vo:=Try.underlying29
 have qj:=Try.underlying31
 have oO:=Try.underlying27
 have XP:=Try.underlying81
 have iI:=af.mk jC
 have iO:=af.mk jD
 clear jC jD
 have iB:=af.mk jE
 have iP:=af.mk jF
 clear jE jF
 have HR5:=af.mk hr5
 have HC5:=af.mk hc5
 clear hr5 hc5
 have HB:=af.mk (Below.refl w.heap.size w)
 have H:((fZ.f k ai aj az aA aI aD aJ aX aG aQ aN bC bD bU bV bW).bind fun Ma=>(if Ma = 0 then ((fA.f cO cZ dh di a3).bind fun JS=>(if JS = 0 then ((bG.f fE eZ 0 1073741824).bind fun X5=>(if X5 = true then ((bQ.f k l5 aD).bind fun Fj=>(if Fj = 0 then ((gD.f jh ji jk jl jm jo).bind fun Mc=>(if Mc = true then ((gH.f k ai aj az aA aI aD aJ aX aG aQ aN bC bD bU bV bW cO cZ dh di a3 fE eZ l5 jh ji jk jl jm jo).bind fun Gq=>(some Gq)) else (some 2))) else ((bQ.f k l5 aD).bind fun Md=>(some Md)))) else (some 2))) else ((fA.f cO cZ dh di a3).bind fun X6=>(some X6)))) else ((fZ.f k ai aj az aA aI aD aJ aX aG aQ aN bC bD bU bV bW).bind fun aeS=>(some aeS)))) = some r:=h
 clear h
 replace H:=Option.bind_eq_some_iff.mp H
 obtain ⟨Ma,Rq,H⟩:=H
 replace H:(if Ma = 0 then ((fA.f cO cZ dh di a3).bind fun JS=>(if JS = 0 then ((bG.f fE eZ 0 1073741824).bind fun X5=>(if X5 = true then ((bQ.f k l5 aD).bind fun Fj=>(if Fj = 0 then ((gD.f jh ji jk jl jm jo).bind fun Mc=>(if Mc = true then ((gH.f k ai aj az aA aI aD aJ aX aG aQ aN bC bD bU bV bW cO cZ dh di a3 fE eZ l5 jh ji jk jl jm jo).bind fun Gq=>(some Gq)) else (some 2))) else ((bQ.f k l5 aD).bind fun Md=>(some Md)))) else (some 2))) else ((fA.f cO cZ dh di a3).bind fun X6=>(some X6)))) else ((fZ.f k ai aj az aA aI aD aJ aX aG aQ aN bC bD bU bV bW).bind fun aeS=>(some aeS))) = some r:=H
 have A8:=af.mk Rq
 clear Rq
 by_cases c9:Ma = 0
 ·rw [if_pos c9] at H
  have JM:(Ma == 0) = true:=beq_iff_eq.mpr c9
  have aDD:(Ma != 0) = false:=bne_eq_false_iff_eq.mpr c9
  clear c9
  replace H:=Option.bind_eq_some_iff.mp H
  obtain ⟨JS,Fu,H⟩:=H
  replace H:(if JS = 0 then ((bG.f fE eZ 0 1073741824).bind fun X5=>(if X5 = true then ((bQ.f k l5 aD).bind fun Fj=>(if Fj = 0 then ((gD.f jh ji jk jl jm jo).bind fun Mc=>(if Mc = true then ((gH.f k ai aj az aA aI aD aJ aX aG aQ aN bC bD bU bV bW cO cZ dh di a3 fE eZ l5 jh ji jk jl jm jo).bind fun Gq=>(some Gq)) else (some 2))) else ((bQ.f k l5 aD).bind fun Md=>(some Md)))) else (some 2))) else ((fA.f cO cZ dh di a3).bind fun X6=>(some X6))) = some r:=H
  have Rs:=af.mk Fu
  clear Fu
  by_cases c11:JS = 0
  ·rw [if_pos c11] at H
   have I9:(JS == 0) = true:=beq_iff_eq.mpr c11
   have ap3:(JS != 0) = false:=bne_eq_false_iff_eq.mpr c11
   clear c11
   replace H:=Option.bind_eq_some_iff.mp H
   obtain ⟨X5,OG,H⟩:=H
   replace H:(if X5 = true then ((bQ.f k l5 aD).bind fun Fj=>(if Fj = 0 then ((gD.f jh ji jk jl jm jo).bind fun Mc=>(if Mc = true then ((gH.f k ai aj az aA aI aD aJ aX aG aQ aN bC bD bU bV bW cO cZ dh di a3 fE eZ l5 jh ji jk jl jm jo).bind fun Gq=>(some Gq)) else (some 2))) else ((bQ.f k l5 aD).bind fun Md=>(some Md)))) else (some 2)) = some r:=H
   have A12:=af.mk OG
   clear OG
   by_cases c13:X5 = true
   ·subst c13
    have H1:((bQ.f k l5 aD).bind fun Fj=>(if Fj = 0 then ((gD.f jh ji jk jl jm jo).bind fun Mc=>(if Mc = true then ((gH.f k ai aj az aA aI aD aJ aX aG aQ aN bC bD bU bV bW cO cZ dh di a3 fE eZ l5 jh ji jk jl jm jo).bind fun Gq=>(some Gq)) else (some 2))) else ((bQ.f k l5 aD).bind fun Md=>(some Md)))) = some r:=by rw [if_pos rfl] at H;exact H
    clear H
    have H:=H1
    clear H1
    replace H:=Option.bind_eq_some_iff.mp H
    obtain ⟨Fj,aen,H⟩:=H
    replace H:(if Fj = 0 then ((gD.f jh ji jk jl jm jo).bind fun Mc=>(if Mc = true then ((gH.f k ai aj az aA aI aD aJ aX aG aQ aN bC bD bU bV bW cO cZ dh di a3 fE eZ l5 jh ji jk jl jm jo).bind fun Gq=>(some Gq)) else (some 2))) else ((bQ.f k l5 aD).bind fun Md=>(some Md))) = some r:=H
    have A14:=af.mk aen
    clear aen
    by_cases c15:Fj = 0
    ·rw [if_pos c15] at H
     have aIG:(Fj == 0) = true:=beq_iff_eq.mpr c15
     have aIH:(Fj != 0) = false:=bne_eq_false_iff_eq.mpr c15
     clear c15
     replace H:=Option.bind_eq_some_iff.mp H
     obtain ⟨Mc,apu,H⟩:=H
     replace H:(if Mc = true then ((gH.f k ai aj az aA aI aD aJ aX aG aQ aN bC bD bU bV bW cO cZ dh di a3 fE eZ l5 jh ji jk jl jm jo).bind fun Gq=>(some Gq)) else (some 2)) = some r:=H
     have A16:=af.mk apu
     clear apu
     by_cases c17:Mc = true
     ·subst c17
      have H1:((gH.f k ai aj az aA aI aD aJ aX aG aQ aN bC bD bU bV bW cO cZ dh di a3 fE eZ l5 jh ji jk jl jm jo).bind fun Gq=>(some Gq)) = some r:=by rw [if_pos rfl] at H;exact H
      clear H
      have H:=H1
      clear H1
      replace H:=Option.bind_eq_some_iff.mp H
      obtain ⟨Gq,aII,H⟩:=H
      replace H:(some Gq) = some r:=H
      have A18:=af.mk aII
      clear aII
      obtain rfl:=bh H
      go_enter Try.func49,Try.ntmps49
      go_wp2_with (first|((with_reducible refine av (N:=7) rfl ?_);refine ak (by rfl) (N:=7) (by rfl) (cs:=#[Z ab ai,Z ab aj,Z ab az,Z ab aA,Z ab aI,Z ab aD,Z ab aJ,.slice dY aX.length dS,.slice dV aG.length dU]) (t:=25) fU ?_;intro aeT hg w19 ay hb;have dC:=af.mk (ay);have aeU:=bY HB hg;have aeV:=bY HB hg;replace HB:=dz HB hb;clear hb ay hg)|((with_reducible refine av (N:=8) rfl ?_);refine ak (by rfl) (N:=8) (by rfl) (cs:=#[Z ab aQ,Z ab aN,Z ab bC,Z ab bD,Z ab bU,Z ab bV,Z ab bW]) (t:=29) fU ?_;intro aeW hg Jb ay hb;have dX:=af.mk (ay);have aeX:=bY HB hg;have aeY:=bY HB hg;have qw:=fG dC hg;have qx:=fH dC hg;replace dC:=bn dC hb;replace HB:=dz HB hb;clear hb ay hg)|((with_reducible refine av (N:=9) rfl ?_);refine ak (by rfl) (N:=9) (by rfl) (cs:=#[Z ab cO,Z ab cZ,Z ab dh,Z ab di]) (t:=31) fU ?_;intro aeZ hg w21 ay hb;have fC:=af.mk (ay);have ae0:=bY HB hg;have ae1:=bY HB hg;have qy:=fG dC hg;have qz:=fH dC hg;have qA:=fG dX hg;have qB:=fH dX hg;replace dC:=bn dC hb;replace dX:=bn dX hb;replace HB:=dz HB hb;clear hb ay hg)|((with_reducible refine av (N:=11) rfl ?_);refine ak (by rfl) (N:=11) (by rfl) (cs:=#[Z ab fE,Z ab eZ]) (t:=27) fU ?_;intro ae2 hg w22 ay hb;have ik:=af.mk (ay);have ae3:=bY HB hg;have ae4:=bY HB hg;have qC:=fG dC hg;have qD:=fH dC hg;have qE:=fG dX hg;have qF:=fH dX hg;have rA:=fG fC hg;have rC:=fH fC hg;replace dC:=bn dC hb;replace dX:=bn dX hb;replace fC:=bn fC hb;replace HB:=dz HB hb;clear hb ay hg)|((with_reducible refine av (N:=13) rfl ?_);refine ak (by rfl) (N:=13) (by rfl) (cs:=#[Z ab jh,Z ab ji,Z ab jk,Z ab jl,Z ab jm,Z ab jo]) (t:=81) fU ?_;intro ae5 hg w23 ay hb;have lu:=af.mk (ay);have ae6:=bY HB hg;have ae7:=bY HB hg;have qG:=fG dC hg;have qH:=fH dC hg;have qI:=fG dX hg;have qJ:=fH dX hg;have rD:=fG fC hg;have rE:=fH fC hg;have um:=fG ik hg;have uo:=fH ik hg;replace dC:=bn dC hb;replace dX:=bn dX hb;replace fC:=bn fC hb;replace ik:=bn ik hb;replace HB:=dz HB hb;clear hb ay hg;have aeH:=qw.out;have aeI:=qx.out;have ai5:=qy.out;have ai6:=qz.out;have aeK:=qC.out;have aeL:=qD.out;have apY:=qG.out;have apZ:=qH.out;obtain ⟨Lh,Li,OH,OI,abJ,abK,akJ,akK,akL,Lj,Ll,OJ,OL,abL,abM,akM,akN,akO⟩:=jS dC.out;have aA8:=qA.out;have aA9:=qB.out;have aox:=qE.out;have aoy:=qF.out;have aAK:=qI.out;have aAL:=qJ.out;obtain ⟨aaY,aaZ,aa0,aa1,ajY,ajZ,aj0,aa2,aa3,aa4,aa5,aj1,aj2,aj3⟩:=kz dX.out)|((with_reducible refine aU (f:=79) rfl ?_);refine dn (some 17) rfl rfl Try.func79 aT rfl #[.agg #[Z ab ai,Z ab aj,Z ab az,Z ab aA,Z ab aI,Z ab aD,Z ab aJ,.slice dY aX.length dS,.slice dV aG.length dU],.agg #[Z ab aQ,Z ab aN,Z ab bC,Z ab bD,Z ab bU,Z ab bV,Z ab bW]] rfl jB ?_;(with_reducible refine (fZ.calls k ai aj az aA aI aD aJ _ _ aX _ _ aG aQ aN bC bD bU bV bW Ma _ ?dG ?dH ?eP ?eQ A8.out).mono ?_);(case dG=>repeat (first|exact (Kd.bz iI.out HB.out)|(with_reducible refine Kd.bJ ?_ _)|(with_reducible refine Kd.bK ?_ _)|(with_reducible refine Kd.bZ ?_)));(case dH=>exact iO.out);(case eP=>repeat (first|exact (Kd.bz iB.out HB.out)|(with_reducible refine Kd.bJ ?_ _)|(with_reducible refine Kd.bK ?_ _)|(with_reducible refine Kd.bZ ?_)));(case eQ=>exact iP.out);rintro e Jd ⟨rfl,hb⟩;refine ⟨_,rfl,?_⟩;replace dC:=bn dC hb;replace dX:=bn dX hb;replace fC:=bn fC hb;replace ik:=bn ik hb;replace lu:=bn lu hb;replace HB:=dz HB hb;(try clear hb);(try clear hb2);(try clear hk);(try clear hi);have aAM:=rA.out;have aAN:=rC.out;have aAO:=rD.out;have aAP:=rE.out;obtain ⟨NH,NI,Su,Sv,NJ,NK,Sw,Sy⟩:=jA fC.out)|((with_reducible refine aU (f:=80) rfl ?_);refine dn (some 24) rfl rfl Try.func80 aT rfl #[.agg #[Z ab cO,Z ab cZ,Z ab dh,Z ab di],Z ab a3] rfl jB ?_;(with_reducible refine (fA.calls cO cZ dh di a3 JS _ Rs.out).mono ?_);rintro e w37 ⟨rfl,hb⟩;refine ⟨_,rfl,?_⟩;replace dC:=bn dC hb;replace dX:=bn dX hb;replace fC:=bn fC hb;replace ik:=bn ik hb;replace lu:=bn lu hb;replace HB:=dz HB hb;(try clear hb);(try clear hb2);(try clear hk);(try clear hi);have aAl:=um.out;have aAm:=uo.out;obtain ⟨aaU,aaV,aaW,aaX⟩:=iQ ik.out)|((with_reducible refine aU (f:=78) rfl ?_);refine dn (some 30) rfl rfl Try.func78 aT rfl #[.agg #[Z ab fE,Z ab eZ],Z ab 0,Z ab 1073741824] rfl jB ?_;(with_reducible refine (bG.calls fE eZ 0 1073741824 true _ A12.out).mono ?_);rintro e w40 ⟨rfl,hb⟩;refine ⟨_,rfl,?_⟩;replace dC:=bn dC hb;replace dX:=bn dX hb;replace fC:=bn fC hb;replace ik:=bn ik hb;replace lu:=bn lu hb;replace HB:=dz HB hb;(try clear hb);(try clear hb2);(try clear hk);(try clear hi);obtain ⟨ajv,ajw,auD,auE,auF,auG,auH,aTo,aTp,ajx,ajy,auI,auJ,auK,auL,auM,aTq,aTr⟩:=jS dC.out)|((with_reducible refine aU (f:=81) rfl ?_);refine dn (some 35) rfl rfl Try.func81 aT rfl #[.slice A5 l5.length c5,Z ab aD] rfl jB ?_;(with_reducible refine (bQ.calls k _ _ l5 aD Fj _ ?dG ?dH A14.out).mono ?_);(case dG=>repeat (first|exact (Kd.bz HR5.out HB.out)|(with_reducible refine Kd.bJ ?_ _)|(with_reducible refine Kd.bK ?_ _)|(with_reducible refine Kd.bZ ?_)));(case dH=>exact HC5.out);rintro e w' ⟨rfl,⟨nd,rfl⟩⟩;refine ⟨_,rfl,?_⟩;obtain ⟨as7,as8,aTs,aTt,aTu,aTv,as9,ata,aTw,aTx,aTy,aTz⟩:=Aa lu.out)|((with_reducible refine aU (f:=95) rfl ?_);refine dn (some 42) rfl rfl Try.func95 aT rfl #[.agg #[Z ab jh,Z ab ji,Z ab jk,Z ab jl,Z ab jm,Z ab jo]] rfl jB ?_;(with_reducible refine (gD.calls jh ji jk jl jm jo true _ A16.out).mono ?_);rintro e w43 ⟨rfl,hb⟩;refine ⟨_,rfl,?_⟩;replace dC:=bn dC hb;replace dX:=bn dX hb;replace fC:=bn fC hb;replace ik:=bn ik hb;replace lu:=bn lu hb;replace HB:=dz HB hb;(try clear hb);(try clear hb2);(try clear hk);(try clear hi);obtain ⟨auN,auO,auP,auQ,auR,auS,auT,aTA,aTB,auU,auV,auW,auX,auY,auZ,au0,aTC,aTD⟩:=jS dC.out;obtain ⟨ax0,ax1,aTE,aTF,aTG,aTH,aTI,ax2,ax3,aTJ,aTK,aTL,aTM,aTN⟩:=kz dX.out;obtain ⟨ax4,ax5,aTO,aTP,ax6,ax7,aTQ,aTR⟩:=jA fC.out;obtain ⟨ais,ait,aiu,aiv⟩:=iQ ik.out;obtain ⟨aTS,aTT,aTU,aTV,aTW,aTX,aTY,aTZ,aT0,aT1,aT2,aT3⟩:=Aa lu.out)|((with_reducible refine aU (f:=97) rfl ?_);refine dn (some 51) rfl rfl Try.func97 aT rfl #[.agg #[Z ab ai,Z ab aj,Z ab az,Z ab aA,Z ab aI,Z ab aD,Z ab aJ,.slice dY aX.length dS,.slice dV aG.length dU],.agg #[Z ab aQ,Z ab aN,Z ab bC,Z ab bD,Z ab bU,Z ab bV,Z ab bW],.agg #[Z ab cO,Z ab cZ,Z ab dh,Z ab di],Z ab a3,.agg #[Z ab fE,Z ab eZ],.slice A5 l5.length c5,.agg #[Z ab jh,Z ab ji,Z ab jk,Z ab jl,Z ab jm,Z ab jo]] rfl jB ?_;(with_reducible refine (gH.calls k ai aj az aA aI aD aJ _ _ aX _ _ aG aQ aN bC bD bU bV bW cO cZ dh di a3 fE eZ _ _ l5 jh ji jk jl jm jo Gq _ ?dG ?dH ?eP ?eQ ?Gn ?Gp A18.out).mono ?_);(case dG=>repeat (first|exact (Kd.bz iI.out HB.out)|(with_reducible refine Kd.bJ ?_ _)|(with_reducible refine Kd.bK ?_ _)|(with_reducible refine Kd.bZ ?_)));(case dH=>exact iO.out);(case eP=>repeat (first|exact (Kd.bz iB.out HB.out)|(with_reducible refine Kd.bJ ?_ _)|(with_reducible refine Kd.bK ?_ _)|(with_reducible refine Kd.bZ ?_)));(case eQ=>exact iP.out);(case Gn=>repeat (first|exact (Kd.bz HR5.out HB.out)|(with_reducible refine Kd.bJ ?_ _)|(with_reducible refine Kd.bK ?_ _)|(with_reducible refine Kd.bZ ?_)));(case Gp=>exact HC5.out);rintro e w49 ⟨rfl,hb⟩;refine ⟨_,rfl,?_⟩;replace dC:=bn dC hb;replace dX:=bn dX hb;replace fC:=bn fC hb;replace ik:=bn ik hb;replace lu:=bn lu hb;replace HB:=dz HB hb;(try clear hb);(try clear hb2);(try clear hk);(try clear hi)))
      go_ret
      exact ⟨mJ,gp⟩
     ·replace c17:=Bool.eq_false_iff.mpr c17
      subst c17
      have H1:(some 2) = some r:=by rw [if_neg (show ¬ (false = true) by decide)] at H;exact H
      clear H
      have H:=H1
      clear H1
      obtain rfl:=bh H
      go_enter Try.func49,Try.ntmps49
      go_wp2_with (first|((with_reducible refine av (N:=7) rfl ?_);refine ak (by rfl) (N:=7) (by rfl) (cs:=#[Z ab ai,Z ab aj,Z ab az,Z ab aA,Z ab aI,Z ab aD,Z ab aJ,.slice dY aX.length dS,.slice dV aG.length dU]) (t:=25) fU ?_;intro aeT hg w50 ay hb;have dC:=af.mk (ay);have aeU:=bY HB hg;have aeV:=bY HB hg;replace HB:=dz HB hb;clear hb ay hg)|((with_reducible refine av (N:=8) rfl ?_);refine ak (by rfl) (N:=8) (by rfl) (cs:=#[Z ab aQ,Z ab aN,Z ab bC,Z ab bD,Z ab bU,Z ab bV,Z ab bW]) (t:=29) fU ?_;intro aeW hg w51 ay hb;have dX:=af.mk (ay);have aeX:=bY HB hg;have aeY:=bY HB hg;have qw:=fG dC hg;have qx:=fH dC hg;replace dC:=bn dC hb;replace HB:=dz HB hb;clear hb ay hg)|((with_reducible refine av (N:=9) rfl ?_);refine ak (by rfl) (N:=9) (by rfl) (cs:=#[Z ab cO,Z ab cZ,Z ab dh,Z ab di]) (t:=31) fU ?_;intro aeZ hg w52 ay hb;have fC:=af.mk (ay);have ae0:=bY HB hg;have ae1:=bY HB hg;have qy:=fG dC hg;have qz:=fH dC hg;have qA:=fG dX hg;have qB:=fH dX hg;replace dC:=bn dC hb;replace dX:=bn dX hb;replace HB:=dz HB hb;clear hb ay hg)|((with_reducible refine av (N:=11) rfl ?_);refine ak (by rfl) (N:=11) (by rfl) (cs:=#[Z ab fE,Z ab eZ]) (t:=27) fU ?_;intro ae2 hg w53 ay hb;have ik:=af.mk (ay);have ae3:=bY HB hg;have ae4:=bY HB hg;have qC:=fG dC hg;have qD:=fH dC hg;have qE:=fG dX hg;have qF:=fH dX hg;have rA:=fG fC hg;have rC:=fH fC hg;replace dC:=bn dC hb;replace dX:=bn dX hb;replace fC:=bn fC hb;replace HB:=dz HB hb;clear hb ay hg)|((with_reducible refine av (N:=13) rfl ?_);refine ak (by rfl) (N:=13) (by rfl) (cs:=#[Z ab jh,Z ab ji,Z ab jk,Z ab jl,Z ab jm,Z ab jo]) (t:=81) fU ?_;intro ae5 hg w54 ay hb;have lu:=af.mk (ay);have ae6:=bY HB hg;have ae7:=bY HB hg;have qG:=fG dC hg;have qH:=fH dC hg;have qI:=fG dX hg;have qJ:=fH dX hg;have rD:=fG fC hg;have rE:=fH fC hg;have um:=fG ik hg;have uo:=fH ik hg;replace dC:=bn dC hb;replace dX:=bn dX hb;replace fC:=bn fC hb;replace ik:=bn ik hb;replace HB:=dz HB hb;clear hb ay hg;have aj4:=qw.out;have aj5:=qx.out;have aIJ:=qy.out;have aIK:=qz.out;have aIL:=qC.out;have aIM:=qD.out;have aIN:=qG.out;have aIO:=qH.out;obtain ⟨axf,axg,axh,axi,axj,axk,axl,aT4,aT5,axm,axn,axo,axp,axq,axr,axs,aT6,aT7⟩:=jS dC.out;have aAw:=qA.out;have aAx:=qB.out;have aIP:=qE.out;have aIQ:=qF.out;have apQ:=qI.out;have apR:=qJ.out;obtain ⟨abp,abq,abr,abt,axW,axX,aT8,abu,abv,abw,abx,axY,axZ,aT9⟩:=kz dX.out)|((with_reducible refine aU (f:=79) rfl ?_);refine dn (some 17) rfl rfl Try.func79 aT rfl #[.agg #[Z ab ai,Z ab aj,Z ab az,Z ab aA,Z ab aI,Z ab aD,Z ab aJ,.slice dY aX.length dS,.slice dV aG.length dU],.agg #[Z ab aQ,Z ab aN,Z ab bC,Z ab bD,Z ab bU,Z ab bV,Z ab bW]] rfl jB ?_;(with_reducible refine (fZ.calls k ai aj az aA aI aD aJ _ _ aX _ _ aG aQ aN bC bD bU bV bW Ma _ ?dG ?dH ?eP ?eQ A8.out).mono ?_);(case dG=>repeat (first|exact (Kd.bz iI.out HB.out)|(with_reducible refine Kd.bJ ?_ _)|(with_reducible refine Kd.bK ?_ _)|(with_reducible refine Kd.bZ ?_)));(case dH=>exact iO.out);(case eP=>repeat (first|exact (Kd.bz iB.out HB.out)|(with_reducible refine Kd.bJ ?_ _)|(with_reducible refine Kd.bK ?_ _)|(with_reducible refine Kd.bZ ?_)));(case eQ=>exact iP.out);rintro e w64 ⟨rfl,hb⟩;refine ⟨_,rfl,?_⟩;replace dC:=bn dC hb;replace dX:=bn dX hb;replace fC:=bn fC hb;replace ik:=bn ik hb;replace lu:=bn lu hb;replace HB:=dz HB hb;(try clear hb);(try clear hb2);(try clear hk);(try clear hi);have a2J:=rA.out;have a2K:=rC.out;have a2L:=rD.out;have a2M:=rE.out;obtain ⟨aUa,aUb,aUc,aUd,aUe,aUf,aUg,aUh⟩:=jA fC.out)|((with_reducible refine aU (f:=80) rfl ?_);refine dn (some 24) rfl rfl Try.func80 aT rfl #[.agg #[Z ab cO,Z ab cZ,Z ab dh,Z ab di],Z ab a3] rfl jB ?_;(with_reducible refine (fA.calls cO cZ dh di a3 JS _ Rs.out).mono ?_);rintro e w68 ⟨rfl,hb⟩;refine ⟨_,rfl,?_⟩;replace dC:=bn dC hb;replace dX:=bn dX hb;replace fC:=bn fC hb;replace ik:=bn ik hb;replace lu:=bn lu hb;replace HB:=dz HB hb;(try clear hb);(try clear hb2);(try clear hk);(try clear hi);have aHQ:=um.out;have aHR:=uo.out;obtain ⟨ax8,ax9,aya,ayb⟩:=iQ ik.out)|((with_reducible refine aU (f:=78) rfl ?_);refine dn (some 30) rfl rfl Try.func78 aT rfl #[.agg #[Z ab fE,Z ab eZ],Z ab 0,Z ab 1073741824] rfl jB ?_;(with_reducible refine (bG.calls fE eZ 0 1073741824 true _ A12.out).mono ?_);rintro e w71 ⟨rfl,hb⟩;refine ⟨_,rfl,?_⟩;replace dC:=bn dC hb;replace dX:=bn dX hb;replace fC:=bn fC hb;replace ik:=bn ik hb;replace lu:=bn lu hb;replace HB:=dz HB hb;(try clear hb);(try clear hb2);(try clear hk);(try clear hi);obtain ⟨ayc,ayd,aye,ayf,ayg,ayh,aUi,aUj,aUk,ayi,ayj,ayk,ayl,aym,ayn,aUl,aUm,aUn⟩:=jS dC.out)|((with_reducible refine aU (f:=81) rfl ?_);refine dn (some 35) rfl rfl Try.func81 aT rfl #[.slice A5 l5.length c5,Z ab aD] rfl jB ?_;(with_reducible refine (bQ.calls k _ _ l5 aD Fj _ ?dG ?dH A14.out).mono ?_);(case dG=>repeat (first|exact (Kd.bz HR5.out HB.out)|(with_reducible refine Kd.bJ ?_ _)|(with_reducible refine Kd.bK ?_ _)|(with_reducible refine Kd.bZ ?_)));(case dH=>exact HC5.out);rintro e w' ⟨rfl,⟨nd,rfl⟩⟩;refine ⟨_,rfl,?_⟩;obtain ⟨axx,axy,axz,axA,axB,axC,axD,axE,axF,axG,axH,axI⟩:=Aa lu.out)|((with_reducible refine aU (f:=95) rfl ?_);refine dn (some 42) rfl rfl Try.func95 aT rfl #[.agg #[Z ab jh,Z ab ji,Z ab jk,Z ab jl,Z ab jm,Z ab jo]] rfl jB ?_;(with_reducible refine (gD.calls jh ji jk jl jm jo false _ A16.out).mono ?_);rintro e w74 ⟨rfl,hb⟩;refine ⟨_,rfl,?_⟩;replace dC:=bn dC hb;replace dX:=bn dX hb;replace fC:=bn fC hb;replace ik:=bn ik hb;replace lu:=bn lu hb;replace HB:=dz HB hb;(try clear hb);(try clear hb2);(try clear hk);(try clear hi)))
      go_ret
      exact ⟨mJ,gp⟩
    ·rw [if_neg c15] at H
     have aIG:(Fj == 0) = false:=beq_eq_false_iff_ne.mpr c15
     have aIH:(Fj != 0) = true:=bne_iff_ne.mpr c15
     replace H:=Option.bind_eq_some_iff.mp H
     obtain ⟨Md,aIR,H⟩:=H
     replace H:(some Md) = some r:=H
     have A75:=af.mk aIR
     clear aIR
     obtain rfl:=bh H
     go_enter Try.func49,Try.ntmps49
     go_wp2_with (first|((with_reducible refine av (N:=7) rfl ?_);refine ak (by rfl) (N:=7) (by rfl) (cs:=#[Z ab ai,Z ab aj,Z ab az,Z ab aA,Z ab aI,Z ab aD,Z ab aJ,.slice dY aX.length dS,.slice dV aG.length dU]) (t:=25) fU ?_;intro aeT hg w76 ay hb;have dC:=af.mk (ay);have aeU:=bY HB hg;have aeV:=bY HB hg;replace HB:=dz HB hb;clear hb ay hg)|((with_reducible refine av (N:=8) rfl ?_);refine ak (by rfl) (N:=8) (by rfl) (cs:=#[Z ab aQ,Z ab aN,Z ab bC,Z ab bD,Z ab bU,Z ab bV,Z ab bW]) (t:=29) fU ?_;intro aeW hg w77 ay hb;have dX:=af.mk (ay);have aeX:=bY HB hg;have aeY:=bY HB hg;have qw:=fG dC hg;have qx:=fH dC hg;replace dC:=bn dC hb;replace HB:=dz HB hb;clear hb ay hg)|((with_reducible refine av (N:=9) rfl ?_);refine ak (by rfl) (N:=9) (by rfl) (cs:=#[Z ab cO,Z ab cZ,Z ab dh,Z ab di]) (t:=31) fU ?_;intro aeZ hg w78 ay hb;have fC:=af.mk (ay);have ae0:=bY HB hg;have ae1:=bY HB hg;have qy:=fG dC hg;have qz:=fH dC hg;have qA:=fG dX hg;have qB:=fH dX hg;replace dC:=bn dC hb;replace dX:=bn dX hb;replace HB:=dz HB hb;clear hb ay hg)|((with_reducible refine av (N:=11) rfl ?_);refine ak (by rfl) (N:=11) (by rfl) (cs:=#[Z ab fE,Z ab eZ]) (t:=27) fU ?_;intro ae2 hg w79 ay hb;have ik:=af.mk (ay);have ae3:=bY HB hg;have ae4:=bY HB hg;have qC:=fG dC hg;have qD:=fH dC hg;have qE:=fG dX hg;have qF:=fH dX hg;have rA:=fG fC hg;have rC:=fH fC hg;replace dC:=bn dC hb;replace dX:=bn dX hb;replace fC:=bn fC hb;replace HB:=dz HB hb;clear hb ay hg)|((with_reducible refine av (N:=13) rfl ?_);refine ak (by rfl) (N:=13) (by rfl) (cs:=#[Z ab jh,Z ab ji,Z ab jk,Z ab jl,Z ab jm,Z ab jo]) (t:=81) fU ?_;intro ae5 hg w80 ay hb;have lu:=af.mk (ay);have ae6:=bY HB hg;have ae7:=bY HB hg;have qG:=fG dC hg;have qH:=fH dC hg;have qI:=fG dX hg;have qJ:=fH dX hg;have rD:=fG fC hg;have rE:=fH fC hg;have um:=fG ik hg;have uo:=fH ik hg;replace dC:=bn dC hb;replace dX:=bn dX hb;replace fC:=bn fC hb;replace ik:=bn ik hb;replace HB:=dz HB hb;clear hb ay hg;have aAG:=qw.out;have aAH:=qx.out;have aHU:=qy.out;have aHV:=qz.out;have a2N:=qC.out;have a2O:=qD.out;have a2P:=qG.out;have a2Q:=qH.out;obtain ⟨aUo,aUp,aUq,aUr,aUs,aUt,aUu,aUv,aUw,aUx,aUy,aUz,aUA,aUB,aUC,aUD,aUE,aUF⟩:=jS dC.out;have aHj:=qA.out;have aHk:=qB.out;have aHl:=qE.out;have aHm:=qF.out;have aHn:=qI.out;have aHo:=qJ.out;obtain ⟨avH,avI,avJ,avK,avL,avM,avN,avO,avP,avQ,avR,avS,avT,avU⟩:=kz dX.out)|((with_reducible refine aU (f:=79) rfl ?_);refine dn (some 17) rfl rfl Try.func79 aT rfl #[.agg #[Z ab ai,Z ab aj,Z ab az,Z ab aA,Z ab aI,Z ab aD,Z ab aJ,.slice dY aX.length dS,.slice dV aG.length dU],.agg #[Z ab aQ,Z ab aN,Z ab bC,Z ab bD,Z ab bU,Z ab bV,Z ab bW]] rfl jB ?_;(with_reducible refine (fZ.calls k ai aj az aA aI aD aJ _ _ aX _ _ aG aQ aN bC bD bU bV bW Ma _ ?dG ?dH ?eP ?eQ A8.out).mono ?_);(case dG=>repeat (first|exact (Kd.bz iI.out HB.out)|(with_reducible refine Kd.bJ ?_ _)|(with_reducible refine Kd.bK ?_ _)|(with_reducible refine Kd.bZ ?_)));(case dH=>exact iO.out);(case eP=>repeat (first|exact (Kd.bz iB.out HB.out)|(with_reducible refine Kd.bJ ?_ _)|(with_reducible refine Kd.bK ?_ _)|(with_reducible refine Kd.bZ ?_)));(case eQ=>exact iP.out);rintro e w90 ⟨rfl,hb⟩;refine ⟨_,rfl,?_⟩;replace dC:=bn dC hb;replace dX:=bn dX hb;replace fC:=bn fC hb;replace ik:=bn ik hb;replace lu:=bn lu hb;replace HB:=dz HB hb;(try clear hb);(try clear hb2);(try clear hk);(try clear hi);have aHp:=rA.out;have aHq:=rC.out;have aHr:=rD.out;have aHs:=rE.out;obtain ⟨avV,avW,avX,avY,avZ,av0,av1,av2⟩:=jA fC.out)|((with_reducible refine aU (f:=80) rfl ?_);refine dn (some 24) rfl rfl Try.func80 aT rfl #[.agg #[Z ab cO,Z ab cZ,Z ab dh,Z ab di],Z ab a3] rfl jB ?_;(with_reducible refine (fA.calls cO cZ dh di a3 JS _ Rs.out).mono ?_);rintro e w94 ⟨rfl,hb⟩;refine ⟨_,rfl,?_⟩;replace dC:=bn dC hb;replace dX:=bn dX hb;replace fC:=bn fC hb;replace ik:=bn ik hb;replace lu:=bn lu hb;replace HB:=dz HB hb;(try clear hb);(try clear hb2);(try clear hk);(try clear hi);have aAI:=um.out;have aAJ:=uo.out;obtain ⟨av3,av4,av5,av6⟩:=iQ ik.out)|((with_reducible refine aU (f:=78) rfl ?_);refine dn (some 30) rfl rfl Try.func78 aT rfl #[.agg #[Z ab fE,Z ab eZ],Z ab 0,Z ab 1073741824] rfl jB ?_;(with_reducible refine (bG.calls fE eZ 0 1073741824 true _ A12.out).mono ?_);rintro e w97 ⟨rfl,hb⟩;refine ⟨_,rfl,?_⟩;replace dC:=bn dC hb;replace dX:=bn dX hb;replace fC:=bn fC hb;replace ik:=bn ik hb;replace lu:=bn lu hb;replace HB:=dz HB hb;(try clear hb);(try clear hb2);(try clear hk);(try clear hi);obtain ⟨av7,av8,av9,awc,aUG,aUH,aUI,aUJ,aUK,awd,awe,awf,awg,aUL,aUM,aUN,aUO,aUP⟩:=jS dC.out)|((with_reducible refine aU (f:=81) rfl ?_);refine dn (some 35) rfl rfl Try.func81 aT rfl #[.slice A5 l5.length c5,Z ab aD] rfl jB ?_;(with_reducible refine (bQ.calls k _ _ l5 aD Fj _ ?dG ?dH A14.out).mono ?_);(case dG=>repeat (first|exact (Kd.bz HR5.out HB.out)|(with_reducible refine Kd.bJ ?_ _)|(with_reducible refine Kd.bK ?_ _)|(with_reducible refine Kd.bZ ?_)));(case dH=>exact HC5.out);rintro e w' ⟨rfl,⟨nd,rfl⟩⟩;refine ⟨_,rfl,?_⟩)|((with_reducible refine aU (f:=81) rfl ?_);refine dn (some 40) rfl rfl Try.func81 aT rfl #[.slice A5 l5.length c5,Z ab aD] rfl jB ?_;(with_reducible refine (bQ.calls k _ _ l5 aD Md _ ?dG ?dH A75.out).mono ?_);(case dG=>repeat (first|exact (Kd.bz HR5.out gp)|(with_reducible refine Kd.bJ ?_ _)|(with_reducible refine Kd.bK ?_ _)|(with_reducible refine Kd.bZ ?_)));(case dH=>exact HC5.out);rintro e w' ⟨rfl,⟨nd,rfl⟩⟩;refine ⟨_,rfl,?_⟩))
     go_ret
     exact ⟨mJ,gp⟩
   ·replace c13:=Bool.eq_false_iff.mpr c13
    subst c13
    have H1:(some 2) = some r:=by rw [if_neg (show ¬ (false = true) by decide)] at H;exact H
    clear H
    have H:=H1
    clear H1
    obtain rfl:=bh H
    go_enter Try.func49,Try.ntmps49
    go_wp2_with (first|((with_reducible refine av (N:=7) rfl ?_);refine ak (by rfl) (N:=7) (by rfl) (cs:=#[Z ab ai,Z ab aj,Z ab az,Z ab aA,Z ab aI,Z ab aD,Z ab aJ,.slice dY aX.length dS,.slice dV aG.length dU]) (t:=25) fU ?_;intro aeT hg w99 ay hb;have dC:=af.mk (ay);have aeU:=bY HB hg;have aeV:=bY HB hg;replace HB:=dz HB hb;clear hb ay hg)|((with_reducible refine av (N:=8) rfl ?_);refine ak (by rfl) (N:=8) (by rfl) (cs:=#[Z ab aQ,Z ab aN,Z ab bC,Z ab bD,Z ab bU,Z ab bV,Z ab bW]) (t:=29) fU ?_;intro aeW hg a6j ay hb;have dX:=af.mk (ay);have aeX:=bY HB hg;have aeY:=bY HB hg;have qw:=fG dC hg;have qx:=fH dC hg;replace dC:=bn dC hb;replace HB:=dz HB hb;clear hb ay hg)|((with_reducible refine av (N:=9) rfl ?_);refine ak (by rfl) (N:=9) (by rfl) (cs:=#[Z ab cO,Z ab cZ,Z ab dh,Z ab di]) (t:=31) fU ?_;intro aeZ hg a6k ay hb;have fC:=af.mk (ay);have ae0:=bY HB hg;have ae1:=bY HB hg;have qy:=fG dC hg;have qz:=fH dC hg;have qA:=fG dX hg;have qB:=fH dX hg;replace dC:=bn dC hb;replace dX:=bn dX hb;replace HB:=dz HB hb;clear hb ay hg)|((with_reducible refine av (N:=11) rfl ?_);refine ak (by rfl) (N:=11) (by rfl) (cs:=#[Z ab fE,Z ab eZ]) (t:=27) fU ?_;intro ae2 hg a6l ay hb;have ik:=af.mk (ay);have ae3:=bY HB hg;have ae4:=bY HB hg;have qC:=fG dC hg;have qD:=fH dC hg;have qE:=fG dX hg;have qF:=fH dX hg;have rA:=fG fC hg;have rC:=fH fC hg;replace dC:=bn dC hb;replace dX:=bn dX hb;replace fC:=bn fC hb;replace HB:=dz HB hb;clear hb ay hg)|((with_reducible refine av (N:=13) rfl ?_);refine ak (by rfl) (N:=13) (by rfl) (cs:=#[Z ab jh,Z ab ji,Z ab jk,Z ab jl,Z ab jm,Z ab jo]) (t:=81) fU ?_;intro ae5 hg a6m ay hb;have lu:=af.mk (ay);have ae6:=bY HB hg;have ae7:=bY HB hg;have qG:=fG dC hg;have qH:=fH dC hg;have qI:=fG dX hg;have qJ:=fH dX hg;have rD:=fG fC hg;have rE:=fH fC hg;have um:=fG ik hg;have uo:=fH ik hg;replace dC:=bn dC hb;replace dX:=bn dX hb;replace fC:=bn fC hb;replace ik:=bn ik hb;replace HB:=dz HB hb;clear hb ay hg;have aXS:=qw.out;have aXT:=qx.out;have aXU:=qy.out;have aXV:=qz.out;have aXW:=qC.out;have aXX:=qD.out;have aXY:=qG.out;have aXZ:=qH.out;obtain ⟨aIS,aIT,aIU,aIV,aIW,aIX,aIY,aIZ,aI0,aI1,aI2,aI3,aI4,aI5,aI6,aI7,aI8,aI9⟩:=jS dC.out;have aX0:=qA.out;have aX1:=qB.out;have aX2:=qE.out;have aX3:=qF.out;have aX4:=qI.out;have aX5:=qJ.out;obtain ⟨aJa,aJb,aJc,aJd,aJe,aJf,aJg,aJh,aJi,aJj,aJk,aJl,aJm,aJn⟩:=kz dX.out)|((with_reducible refine aU (f:=79) rfl ?_);refine dn (some 17) rfl rfl Try.func79 aT rfl #[.agg #[Z ab ai,Z ab aj,Z ab az,Z ab aA,Z ab aI,Z ab aD,Z ab aJ,.slice dY aX.length dS,.slice dV aG.length dU],.agg #[Z ab aQ,Z ab aN,Z ab bC,Z ab bD,Z ab bU,Z ab bV,Z ab bW]] rfl jB ?_;(with_reducible refine (fZ.calls k ai aj az aA aI aD aJ _ _ aX _ _ aG aQ aN bC bD bU bV bW Ma _ ?dG ?dH ?eP ?eQ A8.out).mono ?_);(case dG=>repeat (first|exact (Kd.bz iI.out HB.out)|(with_reducible refine Kd.bJ ?_ _)|(with_reducible refine Kd.bK ?_ _)|(with_reducible refine Kd.bZ ?_)));(case dH=>exact iO.out);(case eP=>repeat (first|exact (Kd.bz iB.out HB.out)|(with_reducible refine Kd.bJ ?_ _)|(with_reducible refine Kd.bK ?_ _)|(with_reducible refine Kd.bZ ?_)));(case eQ=>exact iP.out);rintro e a6n ⟨rfl,hb⟩;refine ⟨_,rfl,?_⟩;replace dC:=bn dC hb;replace dX:=bn dX hb;replace fC:=bn fC hb;replace ik:=bn ik hb;replace lu:=bn lu hb;replace HB:=dz HB hb;(try clear hb);(try clear hb2);(try clear hk);(try clear hi);have aX6:=rA.out;have aX7:=rC.out;have aX8:=rD.out;have aX9:=rE.out;obtain ⟨aJo,aJp,aJq,aJr,aJs,aJt,aJu,aJv⟩:=jA fC.out)|((with_reducible refine aU (f:=80) rfl ?_);refine dn (some 24) rfl rfl Try.func80 aT rfl #[.agg #[Z ab cO,Z ab cZ,Z ab dh,Z ab di],Z ab a3] rfl jB ?_;(with_reducible refine (fA.calls cO cZ dh di a3 JS _ Rs.out).mono ?_);rintro e a6o ⟨rfl,hb⟩;refine ⟨_,rfl,?_⟩;replace dC:=bn dC hb;replace dX:=bn dX hb;replace fC:=bn fC hb;replace ik:=bn ik hb;replace lu:=bn lu hb;replace HB:=dz HB hb;(try clear hb);(try clear hb2);(try clear hk);(try clear hi);have aYa:=um.out;have aYb:=uo.out;obtain ⟨aJw,aJx,aJy,aJz⟩:=iQ ik.out)|((with_reducible refine aU (f:=78) rfl ?_);refine dn (some 30) rfl rfl Try.func78 aT rfl #[.agg #[Z ab fE,Z ab eZ],Z ab 0,Z ab 1073741824] rfl jB ?_;(with_reducible refine (bG.calls fE eZ 0 1073741824 false _ A12.out).mono ?_);rintro e a6p ⟨rfl,hb⟩;refine ⟨_,rfl,?_⟩;replace dC:=bn dC hb;replace dX:=bn dX hb;replace fC:=bn fC hb;replace ik:=bn ik hb;replace lu:=bn lu hb;replace HB:=dz HB hb;(try clear hb);(try clear hb2);(try clear hk);(try clear hi)))
    go_ret
    exact ⟨mJ,gp⟩
  ·rw [if_neg c11] at H
   have I9:(JS == 0) = false:=beq_eq_false_iff_ne.mpr c11
   have ap3:(JS != 0) = true:=bne_iff_ne.mpr c11
   replace H:=Option.bind_eq_some_iff.mp H
   obtain ⟨X6,aBe,H⟩:=H
   replace H:(some X6) = some r:=H
   have aYc:=af.mk aBe
   clear aBe
   obtain rfl:=bh H
   go_enter Try.func49,Try.ntmps49
   go_wp2_with (first|((with_reducible refine av (N:=7) rfl ?_);refine ak (by rfl) (N:=7) (by rfl) (cs:=#[Z ab ai,Z ab aj,Z ab az,Z ab aA,Z ab aI,Z ab aD,Z ab aJ,.slice dY aX.length dS,.slice dV aG.length dU]) (t:=25) fU ?_;intro aeT hg a6q ay hb;have dC:=af.mk (ay);have aeU:=bY HB hg;have aeV:=bY HB hg;replace HB:=dz HB hb;clear hb ay hg)|((with_reducible refine av (N:=8) rfl ?_);refine ak (by rfl) (N:=8) (by rfl) (cs:=#[Z ab aQ,Z ab aN,Z ab bC,Z ab bD,Z ab bU,Z ab bV,Z ab bW]) (t:=29) fU ?_;intro aeW hg a6r ay hb;have dX:=af.mk (ay);have aeX:=bY HB hg;have aeY:=bY HB hg;have qw:=fG dC hg;have qx:=fH dC hg;replace dC:=bn dC hb;replace HB:=dz HB hb;clear hb ay hg)|((with_reducible refine av (N:=9) rfl ?_);refine ak (by rfl) (N:=9) (by rfl) (cs:=#[Z ab cO,Z ab cZ,Z ab dh,Z ab di]) (t:=31) fU ?_;intro aeZ hg a6s ay hb;have fC:=af.mk (ay);have ae0:=bY HB hg;have ae1:=bY HB hg;have qy:=fG dC hg;have qz:=fH dC hg;have qA:=fG dX hg;have qB:=fH dX hg;replace dC:=bn dC hb;replace dX:=bn dX hb;replace HB:=dz HB hb;clear hb ay hg)|((with_reducible refine av (N:=11) rfl ?_);refine ak (by rfl) (N:=11) (by rfl) (cs:=#[Z ab fE,Z ab eZ]) (t:=27) fU ?_;intro ae2 hg a6t ay hb;have ik:=af.mk (ay);have ae3:=bY HB hg;have ae4:=bY HB hg;have qC:=fG dC hg;have qD:=fH dC hg;have qE:=fG dX hg;have qF:=fH dX hg;have rA:=fG fC hg;have rC:=fH fC hg;replace dC:=bn dC hb;replace dX:=bn dX hb;replace fC:=bn fC hb;replace HB:=dz HB hb;clear hb ay hg)|((with_reducible refine av (N:=13) rfl ?_);refine ak (by rfl) (N:=13) (by rfl) (cs:=#[Z ab jh,Z ab ji,Z ab jk,Z ab jl,Z ab jm,Z ab jo]) (t:=81) fU ?_;intro ae5 hg a6u ay hb;have lu:=af.mk (ay);have ae6:=bY HB hg;have ae7:=bY HB hg;have qG:=fG dC hg;have qH:=fH dC hg;have qI:=fG dX hg;have qJ:=fH dX hg;have rD:=fG fC hg;have rE:=fH fC hg;have um:=fG ik hg;have uo:=fH ik hg;replace dC:=bn dC hb;replace dX:=bn dX hb;replace fC:=bn fC hb;replace ik:=bn ik hb;replace HB:=dz HB hb;clear hb ay hg;have aYd:=qw.out;have aYe:=qx.out;have aYf:=qy.out;have aYg:=qz.out;have aYh:=qC.out;have aYi:=qD.out;have aYj:=qG.out;have aYk:=qH.out;obtain ⟨aJA,aJB,aJC,aJD,aJE,aJF,aJG,aJH,aJI,aJJ,aJK,aJL,aJM,aJN,aJO,aJP,aJQ,aJR⟩:=jS dC.out;have aYl:=qA.out;have aYm:=qB.out;have aYn:=qE.out;have aYo:=qF.out;have aYp:=qI.out;have aYq:=qJ.out;obtain ⟨aJS,aJT,aJU,aJV,aJW,aJX,aJY,aJZ,aJ0,aJ1,aJ2,aJ3,aJ4,aJ5⟩:=kz dX.out)|((with_reducible refine aU (f:=79) rfl ?_);refine dn (some 17) rfl rfl Try.func79 aT rfl #[.agg #[Z ab ai,Z ab aj,Z ab az,Z ab aA,Z ab aI,Z ab aD,Z ab aJ,.slice dY aX.length dS,.slice dV aG.length dU],.agg #[Z ab aQ,Z ab aN,Z ab bC,Z ab bD,Z ab bU,Z ab bV,Z ab bW]] rfl jB ?_;(with_reducible refine (fZ.calls k ai aj az aA aI aD aJ _ _ aX _ _ aG aQ aN bC bD bU bV bW Ma _ ?dG ?dH ?eP ?eQ A8.out).mono ?_);(case dG=>repeat (first|exact (Kd.bz iI.out HB.out)|(with_reducible refine Kd.bJ ?_ _)|(with_reducible refine Kd.bK ?_ _)|(with_reducible refine Kd.bZ ?_)));(case dH=>exact iO.out);(case eP=>repeat (first|exact (Kd.bz iB.out HB.out)|(with_reducible refine Kd.bJ ?_ _)|(with_reducible refine Kd.bK ?_ _)|(with_reducible refine Kd.bZ ?_)));(case eQ=>exact iP.out);rintro e a6v ⟨rfl,hb⟩;refine ⟨_,rfl,?_⟩;replace dC:=bn dC hb;replace dX:=bn dX hb;replace fC:=bn fC hb;replace ik:=bn ik hb;replace lu:=bn lu hb;replace HB:=dz HB hb;(try clear hb);(try clear hb2);(try clear hk);(try clear hi);have aYr:=rA.out;have aYs:=rC.out;have aYt:=rD.out;have aYu:=rE.out;obtain ⟨aJ6,aJ7,aJ8,aJ9,aKa,aKb,aKc,aKd⟩:=jA fC.out)|((with_reducible refine aU (f:=80) rfl ?_);refine dn (some 24) rfl rfl Try.func80 aT rfl #[.agg #[Z ab cO,Z ab cZ,Z ab dh,Z ab di],Z ab a3] rfl jB ?_;(with_reducible refine (fA.calls cO cZ dh di a3 JS _ Rs.out).mono ?_);rintro e a6w ⟨rfl,hb⟩;refine ⟨_,rfl,?_⟩;replace dC:=bn dC hb;replace dX:=bn dX hb;replace fC:=bn fC hb;replace ik:=bn ik hb;replace lu:=bn lu hb;replace HB:=dz HB hb;(try clear hb);(try clear hb2);(try clear hk);(try clear hi);obtain ⟨aKe,aKf,aKg,aKh,aKi,aKj,aKk,aKl⟩:=jA fC.out)|((with_reducible refine aU (f:=80) rfl ?_);refine dn (some 28) rfl rfl Try.func80 aT rfl #[.agg #[Z ab cO,Z ab cZ,Z ab dh,Z ab di],Z ab a3] rfl jB ?_;(with_reducible refine (fA.calls cO cZ dh di a3 X6 _ aYc.out).mono ?_);rintro e a6x ⟨rfl,hb⟩;refine ⟨_,rfl,?_⟩;replace dC:=bn dC hb;replace dX:=bn dX hb;replace fC:=bn fC hb;replace ik:=bn ik hb;replace lu:=bn lu hb;replace HB:=dz HB hb;(try clear hb);(try clear hb2);(try clear hk);(try clear hi)))
   go_ret
   exact ⟨mJ,gp⟩
 ·rw [if_neg c9] at H
  have JM:(Ma == 0) = false:=beq_eq_false_iff_ne.mpr c9
  have aDD:(Ma != 0) = true:=bne_iff_ne.mpr c9
  replace H:=Option.bind_eq_some_iff.mp H
  obtain ⟨aeS,aBf,H⟩:=H
  replace H:(some aeS) = some r:=H
  have aYv:=af.mk aBf
  clear aBf
  obtain rfl:=bh H
  go_enter Try.func49,Try.ntmps49
  go_wp2_with (first|((with_reducible refine av (N:=7) rfl ?_);refine ak (by rfl) (N:=7) (by rfl) (cs:=#[Z ab ai,Z ab aj,Z ab az,Z ab aA,Z ab aI,Z ab aD,Z ab aJ,.slice dY aX.length dS,.slice dV aG.length dU]) (t:=25) fU ?_;intro aeT hg a6y ay hb;have dC:=af.mk (ay);have aeU:=bY HB hg;have aeV:=bY HB hg;replace HB:=dz HB hb;clear hb ay hg)|((with_reducible refine av (N:=8) rfl ?_);refine ak (by rfl) (N:=8) (by rfl) (cs:=#[Z ab aQ,Z ab aN,Z ab bC,Z ab bD,Z ab bU,Z ab bV,Z ab bW]) (t:=29) fU ?_;intro aeW hg a6z ay hb;have dX:=af.mk (ay);have aeX:=bY HB hg;have aeY:=bY HB hg;have qw:=fG dC hg;have qx:=fH dC hg;replace dC:=bn dC hb;replace HB:=dz HB hb;clear hb ay hg)|((with_reducible refine av (N:=9) rfl ?_);refine ak (by rfl) (N:=9) (by rfl) (cs:=#[Z ab cO,Z ab cZ,Z ab dh,Z ab di]) (t:=31) fU ?_;intro aeZ hg a6A ay hb;have fC:=af.mk (ay);have ae0:=bY HB hg;have ae1:=bY HB hg;have qy:=fG dC hg;have qz:=fH dC hg;have qA:=fG dX hg;have qB:=fH dX hg;replace dC:=bn dC hb;replace dX:=bn dX hb;replace HB:=dz HB hb;clear hb ay hg)|((with_reducible refine av (N:=11) rfl ?_);refine ak (by rfl) (N:=11) (by rfl) (cs:=#[Z ab fE,Z ab eZ]) (t:=27) fU ?_;intro ae2 hg a6B ay hb;have ik:=af.mk (ay);have ae3:=bY HB hg;have ae4:=bY HB hg;have qC:=fG dC hg;have qD:=fH dC hg;have qE:=fG dX hg;have qF:=fH dX hg;have rA:=fG fC hg;have rC:=fH fC hg;replace dC:=bn dC hb;replace dX:=bn dX hb;replace fC:=bn fC hb;replace HB:=dz HB hb;clear hb ay hg)|((with_reducible refine av (N:=13) rfl ?_);refine ak (by rfl) (N:=13) (by rfl) (cs:=#[Z ab jh,Z ab ji,Z ab jk,Z ab jl,Z ab jm,Z ab jo]) (t:=81) fU ?_;intro ae5 hg a6C ay hb;have lu:=af.mk (ay);have ae6:=bY HB hg;have ae7:=bY HB hg;have qG:=fG dC hg;have qH:=fH dC hg;have qI:=fG dX hg;have qJ:=fH dX hg;have rD:=fG fC hg;have rE:=fH fC hg;have um:=fG ik hg;have uo:=fH ik hg;replace dC:=bn dC hb;replace dX:=bn dX hb;replace fC:=bn fC hb;replace ik:=bn ik hb;replace HB:=dz HB hb;clear hb ay hg;have aYw:=qw.out;have aYx:=qx.out;have aYy:=qy.out;have aYz:=qz.out;have aYA:=qC.out;have aYB:=qD.out;have aYC:=qG.out;have aYD:=qH.out;obtain ⟨aKm,aKn,aKo,aKp,aKq,aKr,aKs,aKt,aKu,aKv,aKw,aKx,aKy,aKz,aKA,aKB,aKC,aKD⟩:=jS dC.out;have aYE:=qA.out;have aYF:=qB.out;have aYG:=qE.out;have aYH:=qF.out;have aYI:=qI.out;have aYJ:=qJ.out;obtain ⟨aKE,aKF,aKG,aKH,aKI,aKJ,aKK,aKL,aKM,aKN,aKO,aKP,aKQ,aKR⟩:=kz dX.out)|((with_reducible refine aU (f:=79) rfl ?_);refine dn (some 17) rfl rfl Try.func79 aT rfl #[.agg #[Z ab ai,Z ab aj,Z ab az,Z ab aA,Z ab aI,Z ab aD,Z ab aJ,.slice dY aX.length dS,.slice dV aG.length dU],.agg #[Z ab aQ,Z ab aN,Z ab bC,Z ab bD,Z ab bU,Z ab bV,Z ab bW]] rfl jB ?_;(with_reducible refine (fZ.calls k ai aj az aA aI aD aJ _ _ aX _ _ aG aQ aN bC bD bU bV bW Ma _ ?dG ?dH ?eP ?eQ A8.out).mono ?_);(case dG=>repeat (first|exact (Kd.bz iI.out HB.out)|(with_reducible refine Kd.bJ ?_ _)|(with_reducible refine Kd.bK ?_ _)|(with_reducible refine Kd.bZ ?_)));(case dH=>exact iO.out);(case eP=>repeat (first|exact (Kd.bz iB.out HB.out)|(with_reducible refine Kd.bJ ?_ _)|(with_reducible refine Kd.bK ?_ _)|(with_reducible refine Kd.bZ ?_)));(case eQ=>exact iP.out);rintro e a6D ⟨rfl,hb⟩;refine ⟨_,rfl,?_⟩;replace dC:=bn dC hb;replace dX:=bn dX hb;replace fC:=bn fC hb;replace ik:=bn ik hb;replace lu:=bn lu hb;replace HB:=dz HB hb;(try clear hb);(try clear hb2);(try clear hk);(try clear hi);obtain ⟨aKS,aKT,aKU,aKV,aKW,aKX,aKY,aKZ,aK0,aK1,aK2,aK3,aK4,aK5,aK6,aK7,aK8,aK9⟩:=jS dC.out;obtain ⟨aLa,aLb,aLc,aLd,aLe,aLf,aLg,aLh,aLi,aLj,aLk,aLl,aLm,aLn⟩:=kz dX.out)|((with_reducible refine aU (f:=79) rfl ?_);refine dn (some 21) rfl rfl Try.func79 aT rfl #[.agg #[Z ab ai,Z ab aj,Z ab az,Z ab aA,Z ab aI,Z ab aD,Z ab aJ,.slice dY aX.length dS,.slice dV aG.length dU],.agg #[Z ab aQ,Z ab aN,Z ab bC,Z ab bD,Z ab bU,Z ab bV,Z ab bW]] rfl jB ?_;(with_reducible refine (fZ.calls k ai aj az aA aI aD aJ _ _ aX _ _ aG aQ aN bC bD bU bV bW aeS _ ?dG ?dH ?eP ?eQ aYv.out).mono ?_);(case dG=>repeat (first|exact (Kd.bz iI.out HB.out)|(with_reducible refine Kd.bJ ?_ _)|(with_reducible refine Kd.bK ?_ _)|(with_reducible refine Kd.bZ ?_)));(case dH=>exact iO.out);(case eP=>repeat (first|exact (Kd.bz iB.out HB.out)|(with_reducible refine Kd.bJ ?_ _)|(with_reducible refine Kd.bK ?_ _)|(with_reducible refine Kd.bZ ?_)));(case eQ=>exact iP.out);rintro e a6E ⟨rfl,hb⟩;refine ⟨_,rfl,?_⟩;replace dC:=bn dC hb;replace dX:=bn dX hb;replace fC:=bn fC hb;replace ik:=bn ik hb;replace lu:=bn lu hb;replace HB:=dz HB hb;(try clear hb);(try clear hb2);(try clear hk);(try clear hi)))
  go_ret
  exact ⟨mJ,gp⟩
def kX.f (ai:Int) (aj:Int) (az:Int) (aA:Int) (aI:Int) (aD:Int) (aJ:Int) (aX:List Bool) (aG:List (qK)) (a1:Int):Option (Bool):=if aD > 1 then (some (a1 == 3)) else (some false)
theorem kX.calls (ai:Int) (aj:Int) (az:Int) (aA:Int) (aI:Int) (aD:Int) (aJ:Int) (dY:Option Addr) (dS:Nat) (aX:List Bool) (dV:Option Addr) (dU:Nat) (aG:List (qK)) (a1:Int) (r:Bool) (w:ao) (jC:Kd.C Kd.bool w dY aX.length aX) (jD:aX.length≤dS) (jE:Kd.C Dt w dV aG.length aG) (jF:aG.length≤dU) (h:kX.f ai aj az aA aI aD aJ aX aG a1 = some r):
 Calls Try.prog 56 #[.agg #[Z ab ai,Z ab aj,Z ab az,Z ab aA,Z ab aI,Z ab aD,Z ab aJ,.slice dY aX.length dS,.slice dV aG.length dU],Z ab a1] w fun e w'=>e = .returned (.bool r)∧Below w.heap.size w w':=by
 have xS:=Try.underlying25
 have iI:=af.mk jC
 have iO:=af.mk jD
 clear jC jD
 have iB:=af.mk jE
 have iP:=af.mk jF
 clear jE jF
 have HB:=af.mk (Below.refl w.heap.size w)
 have H:(if aD > 1 then (some (a1 == 3)) else (some false)) = some r:=h
 clear h
 by_cases c3:aD > 1
 ·rw [if_pos c3] at H
  have yo:decide (1 < aD) = true:=decide_eq_true c3
  clear c3
  obtain rfl:=bh H
  go_enter Try.func56,Try.ntmps56
  go_wp2_with (first|((with_reducible refine av (N:=2) rfl ?_);refine ak (by rfl) (N:=2) (by rfl) (cs:=#[Z ab ai,Z ab aj,Z ab az,Z ab aA,Z ab aI,Z ab aD,Z ab aJ,.slice dY aX.length dS,.slice dV aG.length dU]) (t:=25) fU ?_;intro aLo hg w4 ay hb;have aqh:=af.mk (ay);have aLp:=bY HB hg;have aLq:=bY HB hg;replace HB:=dz HB hb;clear hb ay hg;obtain ⟨aab,aac,aad,aae,aaf,aag,aah,aai,aaj,aak,aal,aam,aan,aao,aap,aaq,aar,aas⟩:=jS aqh.out))
  go_ret
  exact ⟨mJ,gp⟩
 ·rw [if_neg c3] at H
  have yo:decide (1 < aD) = false:=decide_eq_false c3
  clear c3
  obtain rfl:=bh H
  go_enter Try.func56,Try.ntmps56
  go_wp2_with (first|((with_reducible refine av (N:=2) rfl ?_);refine ak (by rfl) (N:=2) (by rfl) (cs:=#[Z ab ai,Z ab aj,Z ab az,Z ab aA,Z ab aI,Z ab aD,Z ab aJ,.slice dY aX.length dS,.slice dV aG.length dU]) (t:=25) fU ?_;intro aLo hg w6 ay hb;have aqh:=af.mk (ay);have aLp:=bY HB hg;have aLq:=bY HB hg;replace HB:=dz HB hb;clear hb ay hg;obtain ⟨wD,wE,Cu,Cv,Fe,Ff,JK,MV,MW,wF,wG,Cw,Cx,Fg,Fh,JL,MX,MZ⟩:=jS aqh.out))
  go_ret
  exact ⟨mJ,gp⟩
theorem aLr (d:Nat) (w:ao) (x0 y0:Int) (x1 y1:Int):
 (Op.equalIn (d+2) 33 (.agg #[Z ab x0,Z ab x1]) (.agg #[Z ab y0,Z ab y1])).run Try.prog w = .ok (x0 == y0 && (x1 == y1)) w:=by
 refine agc Try.underlying33 aT ?_
 refine Vr (by rfl) (by go_simp;rfl) (by go_simp;rfl) (by go_simp) ?_
 exact Vq (by rfl) (by go_simp;rfl) (by go_simp;rfl) (by go_simp)
attribute [local go_sem high] aLr
def dE.l0:Nat→List (gU)→List (gU)→Int→Option (Bool)
 |0,_,_,_=>none
 |k+1,x0,x1,x5=>if x5 < (x0.length:Int) then (if 0≤x5 then (if x5 < (x1.length:Int) then (if (!(((bX x0 x5).f0) == ((bX x1 x5).f0)) || (!(((bX x0 x5).f1) == ((bX x1 x5).f1)))) = true then (some false) else (dE.l0 k x0 x1 (an (x5+1)))) else (none)) else (none)) else (some true)
def dE.f (k:Nat) (l0:List (gU)) (l1:List (gU)):Option (Bool):=if (l0.length:Int) = (l1.length:Int) then (dE.l0 k l0 l1 0) else (some false)
theorem dE.calls (k:Nat) (A0:Option Addr) (c0:Nat) (l0:List (gU)) (A1:Option Addr) (c1:Nat) (l1:List (gU)) (r:Bool) (w:ao) (hr0:Kd.C yn w A0 l0.length l0) (hc0:l0.length≤c0) (hr1:Kd.C yn w A1 l1.length l1) (hc1:l1.length≤c1) (h:dE.f k l0 l1 = some r):
 Calls Try.prog 59 #[.slice A0 l0.length c0,.slice A1 l1.length c1] w fun e w'=>e = .returned (.bool r)∧su w w':=by
 have E9:=Try.underlying33
 have Mh:=af.mk hr0
 have HC0:=af.mk hc0
 clear hr0 hc0
 have HR1:=af.mk hr1
 have HC1:=af.mk hc1
 clear hr1 hc1
 have H:(if (l0.length:Int) = (l1.length:Int) then (dE.l0 k l0 l1 0) else (some false)) = some r:=h
 clear h
 by_cases c3:(l0.length:Int) = (l1.length:Int)
 ·rw [if_pos c3] at H
  have yo:((l0.length:Int) == (l1.length:Int)) = true:=beq_iff_eq.mpr c3
  have JD:((l0.length:Int) != (l1.length:Int)) = false:=bne_eq_false_iff_eq.mpr c3
  have aLs:(l0.length == l1.length) = true:=by first|simpa using c3|(simp at c3 ⊢;omega)
  clear c3
  have H':=af.mk H
  clear H
  go_enter Try.func59,Try.ntmps59
  go_wp2
  repeat (go_quiet (fail);try go_wp2)
  go_loopg [5] k (fun kq v5 w'=>∃ (fe:Int),v5 = Z ab fe∧af (dE.l0 kq l0 l1 fe = some r)∧af (kq≤k)∧su w w')
  case atStart=>exact ⟨(0),om,H',⟨Nat.le_refl _⟩,Xq⟩
  case round =>
   clear H'
   try clear c1
   try clear p2
   try clear c3
   try clear yo
   try clear JD
   try clear aLs
   obtain ⟨fe,rfl,HA,Cj,⟨m1,rfl⟩⟩:=hrel
   cases gk with
   |zero=>exact absurd HA.out (by simp [dE.l0])
   |succ k1 =>
    have H:=HA.out
    clear HA
    simp only [dE.l0] at H
    by_cases c4:fe < (l0.length:Int)
    ·rw [if_pos c4] at H
     have rZ:decide (fe < (l0.length:Int)) = true:=decide_eq_true c4
     clear c4
     by_cases c5:0≤fe
     ·rw [if_pos c5] at H
      have yt:decide (0≤fe) = true:=decide_eq_true c5
      clear c5
      by_cases c6:fe < (l1.length:Int)
      ·rw [if_pos c6] at H
       have Du:decide (fe < (l1.length:Int)) = true:=decide_eq_true c6
       clear c6
       by_cases c7:(!(((bX l0 fe).f0) == ((bX l1 fe).f0)) || (!(((bX l0 fe).f1) == ((bX l1 fe).f1)))) = true
       ·rw [if_pos c7] at H
        have Oh:(!(((bX l0 fe).f0) == ((bX l1 fe).f0)) || (!(((bX l0 fe).f1) == ((bX l1 fe).f1)))) = true:=c7
        clear c7
        obtain rfl:=bh H
        have ahg:0≤(fe:Int):=of_decide_eq_true nM
        have ahh:fe < (l0.length:Int):=of_decide_eq_true nM
        obtain ⟨aLt,aDH,ayo,ayp⟩:=lN Mh.out fe ahg ahh
        cases aDH
        replace ahg:=eq_true ahg
        replace ahh:=eq_true ahh
        have ahi:0≤(fe:Int):=of_decide_eq_true nM
        have ahj:fe < (l1.length:Int):=of_decide_eq_true nM
        obtain ⟨aLu,aDI,ayq,ayr⟩:=lN HR1.out fe ahi ahj
        cases aDI
        replace ahi:=eq_true ahi
        replace ahj:=eq_true ahj
        go_wp2
        repeat (go_quiet (fail);try go_wp2)
        go_ret
        exact ⟨om,Xq⟩
       ·rw [if_neg c7] at H
        have Oh:(!(((bX l0 fe).f0) == ((bX l1 fe).f0)) || (!(((bX l0 fe).f1) == ((bX l1 fe).f1)))) = false:=by simpa using c7
        clear c7
        have H':=af.mk H
        clear H
        have ahg:0≤(fe:Int):=of_decide_eq_true nM
        have ahh:fe < (l0.length:Int):=of_decide_eq_true nM
        obtain ⟨aLt,aDH,ayo,ayp⟩:=lN Mh.out fe ahg ahh
        cases aDH
        replace ahg:=eq_true ahg
        replace ahh:=eq_true ahh
        have ahi:0≤(fe:Int):=of_decide_eq_true nM
        have ahj:fe < (l1.length:Int):=of_decide_eq_true nM
        obtain ⟨aLu,aDI,ayq,ayr⟩:=lN HR1.out fe ahi ahj
        cases aDI
        replace ahi:=eq_true ahi
        replace ahj:=eq_true ahj
        go_wp2
        repeat (go_quiet (fail);try go_wp2)
        go_roundg k1
        case measure=>have:=Cj.out;omega
        case rel=>exact ⟨(an (fe+1)),om,H',⟨zq7⟩,Xq⟩
      ·rw [if_neg c6] at H
       exact absurd H (by simp)
     ·rw [if_neg c5] at H
      exact absurd H (by simp)
    ·rw [if_neg c4] at H
     have rZ:decide (fe < (l0.length:Int)) = false:=decide_eq_false c4
     clear c4
     obtain rfl:=bh H
     go_wp2
     repeat (go_quiet (fail);try go_wp2)
     go_ret
     exact ⟨om,Xq⟩
 ·rw [if_neg c3] at H
  have yo:((l0.length:Int) == (l1.length:Int)) = false:=beq_eq_false_iff_ne.mpr c3
  have JD:((l0.length:Int) != (l1.length:Int)) = true:=bne_iff_ne.mpr c3
  have aLs:(l0.length == l1.length) = false:=by first|simpa using c3|(simp at c3 ⊢;omega)
  obtain rfl:=bh H
  go_enter Try.func59,Try.ntmps59
  go_wp2
  repeat (go_quiet (fail);try go_wp2)
  go_ret
  exact ⟨om,Xq⟩
end Go.Proofs.Ytmhaiihjfgfaoaa.Pr
end
section
namespace Go.Proofs.Ytmhaiihjfgfaoaa.Gl
open Go.RowKit Go.Shelf Go.Proofs.YtmhaiihjfgfaoaaW.bu Go.Proofs.YtmhaiihjfgfaoaaW.dB Go.Proofs.YtmhaiihjfgfaoaaW.ek Go.Proofs.Ytmhaiihjfgfaoaa.Pr Go.Proofs.YtmhaiihjfgfaoaaW.Round
attribute [local go_sem] iq iw jq jr iy
def rF (s:lK) (v:nW):List gU→iA→Int→Int→List iA→List iA × Int × Int
 |[],_,_,n,out=>(out,n,0)
 |c :: l,x,t,n,out=>if nY s v x t≠0 then ([],n,nY s v x t) else rF s v l (mW s v x t c.f0 c.f1) (t+v.bq) (n+1) (out++[mW s v x t c.f0 c.f1])
def ays (R:List iA × Int × Int) (w:ao) (e:Ending) (w':ao):Prop:=∃ QH:Value,e = .returned (.tuple #[QH,Z ab R.2.1,Z ab R.2.2])∧Kd.R k31 31 w' w.heap.size (fun _=>True) QH R.1∧Below w.heap.size w w'
theorem abN {l:List gU} {layers:Int} (h:Ct l layers = 0):l.length≤64∧l.all (FH layers) = true:=by
 unfold Ct at h
 by_cases h1:l.length > 64
 ·rw [if_pos h1] at h;cases h
 ·rw [if_neg h1] at h
  cases hb:l.all (FH layers) with
  |false=>rw [hb] at h;cases h
  |true=>exact ⟨by omega,rfl⟩
theorem akP {layers:Int} {c:gU} (hl:1≤layers) (h:FH layers c = true):(0≤c.f0∧c.f0≤8)∧0≤c.f1∧c.f1 < layers:=by
 unfold FH at h
 simp only [Bool.and_eq_true,Bool.or_eq_true,decide_eq_true_eq,jg] at h
 omega
theorem ayt (b:Nat) (s:lK) (v:nW) (x:iA) (t:Int) (A:Option Addr) (c:Nat) (l:List gU) (w:ao) (hT:lC w b s v) (hS:VS s) (hV:Fz v) (hx:vK x) (ht0:0≤t) (ht1:t≤1073741824) (hC:Kd.C yn w A l.length l) (hc:l.length≤c) (hl:l.length≤64) (hall:l.all (FH s.layers) = true):
 Calls Try.prog 83 #[.pointer (some ⟨b,0,none⟩),.agg #[Z ab x.f0.f0,Z ab x.f0.f1,Z ab x.f1.f0,Z ab x.f1.f1],Z ab t,.slice A l.length c] w (ays (rF s v l x t 0 []) w):=by
 have qj:=Try.underlying31
 have E9:=Try.underlying33
 have oO:=Try.underlying27
 have vo:=Try.underlying29
 have xS:=Try.underlying25
 have azX:=Try.underlying110
 have aYK:=Lib.hid hall
 clear hall
 go_enter Try.func83,Try.ntmps83
 go_wp2_with fail
 have m5:dW (w.alloc (.cells #[Z ab x.f0.f0,Z ab x.f0.f1,Z ab x.f1.f0,Z ab x.f1.f1] 31)) (w.heap.size) #[Z ab x.f0.f0,Z ab x.f0.f1,Z ab x.f1.f0,Z ab x.f1.f1] 31:=aoe
 have mB:Below w.heap.size w (w.alloc (.cells #[Z ab x.f0.f0,Z ab x.f0.f1,Z ab x.f1.f0,Z ab x.f1.f1] 31)):=(aH (Below.refl w.heap.size w) _)
 have kZ:w.heap.size≤w.heap.size:=Nat.le_refl _
 generalize qQ:(w.alloc (.cells #[Z ab x.f0.f0,Z ab x.f0.f1,Z ab x.f1.f0,Z ab x.f1.f1] 31)) = W1 at m5 mB ⊢
 clear qQ
 generalize hg5:w.heap.size = g5 at m5 ⊢
 have hG5:w.heap.size≤g5:=by omega
 clear kZ
 try clear hg5
 have sD:w.heap.size≤W1.heap.size:=mB.size
 go_wp2
 go_loopw [2,11,18] (fun tt o i wr=>∃ (k:Nat) (v_:Value) (X:iA) (T:Int) (out:List iA),tt = Z ab T∧v_ = o∧i = Z ab k∧k≤l.length∧Hid (rF s v l x t 0 [] = rF s v (l.drop k) X T k out)∧Hid (out.length = k∧vK X∧0≤T∧T≤1073741824+(k:Int)*131072)∧dW wr g5 #[Z ab X.f0.f0,Z ab X.f0.f1,Z ab X.f1.f0,Z ab X.f1.f1] 31∧Kd.R k31 31 wr w.heap.size (fun q=>q≠g5) v_ out∧Below w.heap.size w wr) (fun _ _ i _=>l.length - (intOf i).toNat)
 case atStart=>exact ⟨0,_,x,t,[],rfl,rfl,rfl,Nat.zero_le _,Lib.hid rfl,Lib.hid ⟨rfl,hx,ht0,by omega⟩,m5,Kd.Na _ _ _ _ _,mB⟩
 case round =>
  clear m5 mB hx ht0 ht1
  obtain ⟨k,v_,X,T,out,rfl,rfl,rfl,hk,HR,HQ,m5,HO,mB⟩:=hrel
  have YO:w.heap.size≤wr.heap.size:=mB.size
  by_cases hlt:k < l.length
  case neg =>
   obtain rfl:k = l.length:=by omega
   have HE:=HR.out
   rw [List.drop_length] at HE
   have HE2:Hid (rF s v l x t 0 [] = (out,(l.length:Int),0)):=Lib.hid HE
   clear HE HR HQ
   go_wp2
   go_ret3
   exact ⟨_,by rw [HE2.out];rfl,by rw [HE2.out];exact Kd.jX HO (fun _ _=>trivial),mB⟩
  case pos =>
   obtain ⟨ad_,e_,hx0,hx1⟩:=lN hC k (by omega) (by omega)
   cases e_
   simp only [Int.toNat_natCast] at hx0 hx1
   replace hx0:=(mB.cell (bd w _ hx0)).trans hx0
   replace hx1:=(mB.cell (bd w _ hx1)).trans hx1
   have hdr:l.drop k = bX l (k:Int) :: l.drop (k+1):=by rw [List.drop_eq_getElem_cons hlt];simp [bX,List.getD_eq_getElem?_getD,hlt]
   have hmem:bX l (k:Int) ∈ l:=List.mem_of_getElem? (i:=k) (by simp [bX,List.getD_eq_getElem?_getD,hlt])
   have hcr:=akP hS.n.layers.1 (List.all_eq_true.1 aYK.out _ hmem)
   clear hmem
   generalize bX l (k:Int) = d at*
   have HR2:Hid (rF s v l x t 0 [] = if nY s v X T≠0 then ([],(k:Int),nY s v X T) else rF s v (l.drop (k+1)) (mW s v X T d.f0 d.f1) (T+v.bq) ((k:Int)+1) (out++[mW s v X T d.f0 d.f1])):=Lib.hid (by rw [HR.out,hdr];rfl)
   clear HR hdr
   obtain ⟨hol,hX,hT0,hT1⟩:=HQ.out
   obtain ⟨⟨hh0,hh1⟩,hl0,hl1⟩:=hcr
   have hdb:=fun h=>VU (t:=T) (hd:=d.f0) (layer:=d.f1) hS hV hX h
   have hdv:=hV.bq
   have HDV:=Lib.hid hdv
   clear HQ
   have kD:=fun W (h:lC W b s v)=>VV b s v X T d.f0 d.f1 W h hS hV hX hT0 (by omega) hh0 hh1 hl0 hl1
   have HQ1:Hid (out.length = k∧0≤T∧T≤1073741824+(k:Int)*131072∧(nY s v X T = 0→vK (mW s v X T d.f0 d.f1))):=Lib.hid ⟨hol,hT0,hT1,hdb⟩
   clear hol hX hT0 hT1 hh0 hh1 hl0 hl1 hdb hdv
   generalize mW s v X T d.f0 d.f1 = Y at*
   generalize nY s v X T = E at*
   have R4:∀ o_,(wr.alloc o_).cell? ⟨g5,0,none⟩ = some (Z ab X.f0.f0):=fun o_=>(ae (aa m5 o_) 0).trans rfl
   have VE:∀ o_,(wr.alloc o_).cell? ⟨g5,1,none⟩ = some (Z ab X.f0.f1):=fun o_=>(ae (aa m5 o_) 1).trans rfl
   have apa:∀ o_,(wr.alloc o_).cell? ⟨g5,2,none⟩ = some (Z ab X.f1.f0):=fun o_=>(ae (aa m5 o_) 2).trans rfl
   have apb:∀ o_,(wr.alloc o_).cell? ⟨g5,3,none⟩ = some (Z ab X.f1.f1):=fun o_=>(ae (aa m5 o_) 3).trans rfl
   go_wp2_with fail
   clear R4 VE apa apb
   clear hx0 hx1
   replace HO:=Kd.lZ HO (aH (Below.refl wr.heap.size wr) (.cells #[Z ab d.f0,Z ab d.f1] 33))
   have Qk:=bO m5
   have m13:dW (wr.alloc (.cells #[Z ab d.f0,Z ab d.f1] 33)) (wr.heap.size) #[Z ab d.f0,Z ab d.f1] 33:=aFq
   replace m5:dW (wr.alloc (.cells #[Z ab d.f0,Z ab d.f1] 33)) g5 #[Z ab X.f0.f0,Z ab X.f0.f1,Z ab X.f1.f0,Z ab X.f1.f1] 31:=(aa m5 _)
   replace mB:Below w.heap.size w (wr.alloc (.cells #[Z ab d.f0,Z ab d.f1] 33)):=(aH mB _)
   have kZ:w.heap.size≤wr.heap.size:=YO
   generalize qQ:(wr.alloc (.cells #[Z ab d.f0,Z ab d.f1] 33)) = W2 at m5 m13 mB HO ⊢
   clear qQ
   generalize ahk:wr.heap.size = g13 at m13 ⊢
   have ayu:g5≠g13:=by omega
   have aUQ:g13≠g5:=ayu.symm
   have ayv:w.heap.size≤g13:=by omega
   clear kZ Qk
   try clear ahk
   have vI:w.heap.size≤W2.heap.size:=mB.size
   have hcon:=kD W2 (hT.below mB)
   clear kD
   (with_reducible refine hcon.mono ?_)
   clear hcon
   rintro e W3 ⟨rfl,hb⟩
   replace HO:=Kd.lZ HO hb
   replace m5:=ah m5 hb
   replace m13:=ah m13 hb
   replace mB:=bI mB hb
   clear hb
   have FB:w.heap.size≤W3.heap.size:=mB.size
   by_cases hE:E = 0
   case neg =>
    have HZ:=Lib.hid (HR2.out.trans (if_pos hE))
    have hd1:(E == 0) = false:=beq_eq_false_iff_ne.2 hE
    have hd2:(E != 0) = true:=by rw [bne,hd1];rfl
    clear hE HR2 HQ1
    go_wp2
    go_ret3
    exact ⟨_,qi,Zk,by repeat (first|exact mB|apply aH)⟩
   case pos =>
    have HR3:=Lib.hid (HR2.out.trans (if_neg (fun h=>h hE)))
    have HQ2:Hid (out.length = k∧0≤T∧T≤1073741824+(k:Int)*131072∧vK Y):=Lib.hid ⟨HQ1.out.1,HQ1.out.2.1,HQ1.out.2.2.1,HQ1.out.2.2.2 hE⟩
    clear HR2 HQ1
    subst hE
    have aLv:=bO m5
    have hol:Hid ((out.length+1)*32≤140737488355328):=Lib.hid (by have:=HQ2.out.1;omega)
    have hne5:some g5≠v_.ownBlock:=fun h=>HO.1 g5 h.symm rfl
    have aBg:some W3.heap.size≠v_.ownBlock:=fun h=>by have:=Kd.af9 HO _ h.symm;omega
    go_wp2_with (first|((with_reducible refine pz (b:=.append) (xs:=#[.tmp 35,.tmp 37]) rfl ?_);(try (refine pU (by rfl) ?_;dsimp only));at_builtin;go_loud (refine Kd.Cg k31 (w0:=w) w.heap.size rfl (.tmp 35) (.tmp 37) 50 31 (.agg #[Z ab 0,Z ab 0,Z ab 0,Z ab 0]) 32 rfl Try.underlying50 aok rfl (by decide) (by decide) v_ out Y [Z ab Y.f0.f0,Z ab Y.f0.f1,Z ab Y.f1.f0,Z ab Y.f1.f1] (fun q=>q≠g5) (fun _=>False) rfl (by first|rfl|(go_simp;done)|(go_simp;rfl)) ?aP (fun _ hk=>hk.elim) ?aF ?aO ?aB ?aS ?aL ?_);(case aP=>exact ahL _ _ _ Y);(case aF=>exact (fun q hq=>by have h_:=bO m5;simp only [World.size_alloc] at hq;omega));(case aO=>exact Kd.lZ HO (aH (Below.refl _ _) _));(case aB=>exact aH mB _);(case aS=>(have h_:=mB.size;simp only [World.size_alloc];omega));(case aL=>exact hol.out);intro v1 w1 HO1 hB1 hgr hat))
    replace m5:=iF (aa m5 _) hgr hne5
    have m14:=iF (eB W3 (.cells #[Z ab Y.f0.f0,Z ab Y.f0.f1,Z ab Y.f1.f0,Z ab Y.f1.f1] 31)) hgr aBg
    have Ob:g5≠W3.heap.size:=by have h_:=aLv;omega
    clear aLv
    clear hgr hat HO hne5 aBg m13 mB hol
    generalize agF:W3.heap.size = g14 at m14 Ob ⊢
    have oU:=Ob.symm
    clear agF
    have mB:=hB1
    clear hB1
    obtain ⟨A7,c7,A8,c8,mT,_⟩:=hT.below mB
    replace m5:=ag m5
    replace m14:=ag m14
    replace mT:=ag mT
    replace mB:=bF mB
    replace HO1:=Kd.lZ HO1 (bF (Below.refl w1.heap.size w1))
    have hbn:b≠g5:=by have h_:=hT;obtain ⟨_,_,_,_,h_,_⟩:=h_;have h2_:=(Array.getElem?_eq_some_iff.1 h_).1;omega
    refine jV (n:=10) (S:=fun w'=>w'.cell? ⟨g14,0,none⟩ = some (Z ab Y.f0.f0)∧w'.cell? ⟨g14,1,none⟩ = some (Z ab Y.f0.f1)∧w'.cell? ⟨g14,2,none⟩ = some (Z ab Y.f1.f0)∧w'.cell? ⟨g14,3,none⟩ = some (Z ab Y.f1.f1)∧w'.cell? ⟨b,10,none⟩ = some (Z ab v.bq)) (ds:=[]) #[al,al,al,al,al,al,al,al,al,al] aT rfl rfl ⟨((ae m14 0).trans rfl),((ae m14 1).trans rfl),((ae m14 2).trans rfl),((ae m14 3).trans rfl),((ae mT 10).trans rfl)⟩ (fun hHeld=>?_)
    generalize hWd:World.drew _ = Wx at*
    clear hWd
    refine dR (i:=1) (N:=some 40) aT ?_
    refine dR (i:=2) (N:=some 41) aT ?_
    refine dR (i:=3) (N:=some 42) aT ?_
    refine dR (i:=4) (N:=some 43) aT ?_
    refine dR (i:=5) (N:=some 44) aT ?_
    refine iT (i:=0) (N:=some 39) aT hHeld ?_
    refine iT (i:=6) (N:=some 45) aT hHeld ?_
    refine dR (i:=7) (N:=some 46) aT ?_
    refine iW (i:=8) (N:=none) #[ac,ac,ac,ac,ac,ac,ac,ac,ac,al] rfl rfl aT (by decide) (fun K hK=>?_)
    have XD:=bg m5 0
    have XE:=bg m5 1
    have atK:=bg m5 2
    have atL:=bg m5 3
    have RZ:=(ae m5 0).trans rfl
    have XF:=(ae m5 1).trans rfl
    have atM:=(ae m5 2).trans rfl
    have atN:=(ae m5 3).trans rfl
    refine vF (w1:=?_) (by rfl) rfl ?_ ?_
    rotate_left
    ·go_simp
     rfl
    refine hK.out _ _ ⟨((ae (aM (p:=⟨g5,3,none⟩) (aM (p:=⟨g5,2,none⟩) (aM (p:=⟨g5,1,none⟩) (aM (p:=⟨g5,0,none⟩) m14 oU _) oU _) oU _) oU _) 0).trans rfl),((ae (aM (p:=⟨g5,3,none⟩) (aM (p:=⟨g5,2,none⟩) (aM (p:=⟨g5,1,none⟩) (aM (p:=⟨g5,0,none⟩) m14 oU _) oU _) oU _) oU _) 1).trans rfl),((ae (aM (p:=⟨g5,3,none⟩) (aM (p:=⟨g5,2,none⟩) (aM (p:=⟨g5,1,none⟩) (aM (p:=⟨g5,0,none⟩) m14 oU _) oU _) oU _) oU _) 2).trans rfl),((ae (aM (p:=⟨g5,3,none⟩) (aM (p:=⟨g5,2,none⟩) (aM (p:=⟨g5,1,none⟩) (aM (p:=⟨g5,0,none⟩) m14 oU _) oU _) oU _) oU _) 3).trans rfl),((ae (aM (p:=⟨g5,3,none⟩) (aM (p:=⟨g5,2,none⟩) (aM (p:=⟨g5,1,none⟩) (aM (p:=⟨g5,0,none⟩) mT hbn _) hbn _) hbn _) hbn _) 10).trans rfl)⟩ (fun hHeld=>?_)
    clear hK K
    refine dR (i:=9) (N:=some 2) aT ?_
    refine mi aT ?_
    go_wp2
    go_roundw
    case rel =>
     have hq:=HQ2.out
     have hv:=HDV.out
     have hwr:an (T+v.bq) = T+v.bq:=by unfold an;omega
     exact ⟨k+1,v1,Y,T+v.bq,out++[Y],by rw [hwr],rfl,by simp,by omega,Lib.hid HR3.out,Lib.hid ⟨by rw [List.length_append];simp;omega,hq.2.2.2,by omega,by omega⟩,(aK (aK (aK (aK m5 0 (Z ab Y.f0.f0) rfl) 1 (Z ab Y.f0.f1) rfl) 2 (Z ab Y.f1.f0) rfl) 3 (Z ab Y.f1.f1) rfl),(Kd.fu (p:=⟨g5,3,none⟩) (Kd.fu (p:=⟨g5,2,none⟩) (Kd.fu (p:=⟨g5,1,none⟩) (Kd.fu (p:=⟨g5,0,none⟩) HO1 (fun _ hk=>hk) _) (fun _ hk=>hk) _) (fun _ hk=>hk) _) (fun _ hk=>hk) _),(Below.setCell (p:=⟨g5,3,none⟩) (Below.setCell (p:=⟨g5,2,none⟩) (Below.setCell (p:=⟨g5,1,none⟩) (Below.setCell (p:=⟨g5,0,none⟩) mB hG5 _) hG5 _) hG5 _) hG5 _)⟩
    case measure=>simp [intOf];omega
end Go.Proofs.Ytmhaiihjfgfaoaa.Gl
end
section
namespace Go.Proofs.Ytmhaiihjfgfaoaa.Pr
open Go.RowKit Go.Proofs.YtmhaiihjfgfaoaaW.bu Go.Proofs.YtmhaiihjfgfaoaaW.dB Go.Proofs.YtmhaiihjfgfaoaaW.ek
attribute [local go_sem] iq iw jq jr iy
def BR.f (ai:Int) (aj:Int) (az:Int) (aA:Int) (aI:Int) (aD:Int) (aJ:Int) (aQ:Int) (aN:Int):Option (Int × Int):=if aQ = 8 then (some (aI,aD)) else (some (az,aA))
theorem BR.calls (ai:Int) (aj:Int) (az:Int) (aA:Int) (aI:Int) (aD:Int) (aJ:Int) (aQ:Int) (aN:Int) (r1:Int) (r2:Int) (w:ao) (h:BR.f ai aj az aA aI aD aJ aQ aN = some (r1,r2)):
 Calls Try.prog 109 #[.agg #[Z ab ai,Z ab aj,Z ab az,Z ab aA,Z ab aI,Z ab aD,Z ab aJ],.agg #[Z ab aQ,Z ab aN]] w fun e w'=>e = .returned (.agg #[Z ab r1,Z ab r2])∧Below w.heap.size w w':=by
 have vo:=Try.underlying29
 have E9:=Try.underlying33
 have oO:=Try.underlying27
 have HB:=af.mk (Below.refl w.heap.size w)
 have H:(if aQ = 8 then (some (aI,aD)) else (some (az,aA))) = some (r1,r2):=h
 clear h
 by_cases c3:aQ = 8
 ·rw [if_pos c3] at H
  have yo:(aQ == 8) = true:=beq_iff_eq.mpr c3
  have JD:(aQ != 8) = false:=bne_eq_false_iff_eq.mpr c3
  clear c3
  simp only [Option.some.injEq,Prod.mk.injEq] at H
  obtain ⟨rfl,rfl⟩:=H
  go_enter Try.func109,Try.ntmps109
  go_wp2_with (first|((with_reducible refine av (N:=2) rfl ?_);refine ak (by rfl) (N:=2) (by rfl) (cs:=#[Z ab ai,Z ab aj,Z ab az,Z ab aA,Z ab aI,Z ab aD,Z ab aJ]) (t:=29) fU ?_;intro aLx hg w4 ay hb;have xP:=af.mk (ay);have aLy:=bY HB hg;have aLz:=bY HB hg;replace HB:=dz HB hb;clear hb ay hg)|((with_reducible refine av (N:=3) rfl ?_);refine ak (by rfl) (N:=3) (by rfl) (cs:=#[Z ab aQ,Z ab aN]) (t:=33) fU ?_;intro aLA hg w5 ay hb;have JU:=af.mk (ay);have aLB:=bY HB hg;have aLC:=bY HB hg;have QQ:=fG xP hg;have QR:=fH xP hg;replace xP:=bn xP hb;replace HB:=dz HB hb;clear hb ay hg)|((with_reducible refine av (N:=4) rfl ?_);refine ak (by rfl) (N:=4) (by rfl) (cs:=#[Z ab 0,Z ab 0]) (t:=27) fU ?_;intro aqi hg w6 ay hb;have ae8:=af.mk (ay);have aLD:=bY HB hg;have aLE:=bY HB hg;have QS:=fG xP hg;have QT:=fH xP hg;have QU:=fG JU hg;have QV:=fH JU hg;replace xP:=bn xP hb;replace JU:=bn JU hb;replace HB:=dz HB hb;clear hb ay hg;have aXA:=QR.out;have aXB:=QQ.out;have adp:=QU.out;have adq:=QV.out;obtain ⟨yB,yC,yD,yE⟩:=iQ JU.out;have adD:=QS.out;have adE:=QT.out;obtain ⟨uf,ug,wV,wW,BI,BJ,Hy,uh,ui,wX,wY,BK,BL,Hz⟩:=kz xP.out;obtain ⟨qa,qb,qc,qd⟩:=iQ ae8.out))
  refine bodyPost_ret (results_cell_row rfl _ _ aqi 27 #[Z ab aI,Z ab aD] (0,0) _ rfl (by (with_reducible repeat (first|refine au ?_ _|refine ag ?_|refine aa ?_ _));refine aK (cs:=#[Z ab aI,Z ab 0]) ?_ 1 _ rfl;(with_reducible repeat (first|refine au ?_ _|refine ag ?_|refine aa ?_ _));refine aK (cs:=#[Z ab 0,Z ab 0]) ?_ 0 _ rfl;(with_reducible repeat (first|refine au ?_ _|refine ag ?_|refine aa ?_ _));exact ae8.out) Try.underlying27 rfl aT) rfl ?_
  exact ⟨mJ,gp⟩
 ·rw [if_neg c3] at H
  have yo:(aQ == 8) = false:=beq_eq_false_iff_ne.mpr c3
  have JD:(aQ != 8) = true:=bne_iff_ne.mpr c3
  simp only [Option.some.injEq,Prod.mk.injEq] at H
  obtain ⟨rfl,rfl⟩:=H
  go_enter Try.func109,Try.ntmps109
  go_wp2_with (first|((with_reducible refine av (N:=2) rfl ?_);refine ak (by rfl) (N:=2) (by rfl) (cs:=#[Z ab ai,Z ab aj,Z ab az,Z ab aA,Z ab aI,Z ab aD,Z ab aJ]) (t:=29) fU ?_;intro aLx hg GK ay hb;have xP:=af.mk (ay);have aLy:=bY HB hg;have aLz:=bY HB hg;replace HB:=dz HB hb;clear hb ay hg)|((with_reducible refine av (N:=3) rfl ?_);refine ak (by rfl) (N:=3) (by rfl) (cs:=#[Z ab aQ,Z ab aN]) (t:=33) fU ?_;intro aLA hg w14 ay hb;have JU:=af.mk (ay);have aLB:=bY HB hg;have aLC:=bY HB hg;have QQ:=fG xP hg;have QR:=fH xP hg;replace xP:=bn xP hb;replace HB:=dz HB hb;clear hb ay hg)|((with_reducible refine av (N:=4) rfl ?_);refine ak (by rfl) (N:=4) (by rfl) (cs:=#[Z ab 0,Z ab 0]) (t:=27) fU ?_;intro aqi hg w15 ay hb;have ae8:=af.mk (ay);have aLD:=bY HB hg;have aLE:=bY HB hg;have QS:=fG xP hg;have QT:=fH xP hg;have QU:=fG JU hg;have QV:=fH JU hg;replace xP:=bn xP hb;replace JU:=bn JU hb;replace HB:=dz HB hb;clear hb ay hg;have OD:=QR.out;have OE:=QQ.out;have RH:=QU.out;have RI:=QV.out;obtain ⟨Ep,Er,Es,Et⟩:=iQ JU.out;have Ru:=QS.out;have Rv:=QT.out;obtain ⟨uY,uZ,zQ,zR,BM,BN,Im,u6,ve,zS,zT,BO,BP,Io⟩:=kz xP.out;obtain ⟨tO,tQ,tT,tV⟩:=iQ ae8.out))
  refine bodyPost_ret (results_cell_row rfl _ _ aqi 27 #[Z ab az,Z ab aA] (0,0) _ rfl (by (with_reducible repeat (first|refine au ?_ _|refine ag ?_|refine aa ?_ _));refine aK (cs:=#[Z ab az,Z ab 0]) ?_ 1 _ rfl;(with_reducible repeat (first|refine au ?_ _|refine ag ?_|refine aa ?_ _));refine aK (cs:=#[Z ab 0,Z ab 0]) ?_ 0 _ rfl;(with_reducible repeat (first|refine au ?_ _|refine ag ?_|refine aa ?_ _));exact ae8.out) Try.underlying27 rfl aT) rfl ?_
  exact ⟨mJ,gp⟩
end Go.Proofs.Ytmhaiihjfgfaoaa.Pr
end
section
namespace Go.Proofs.Ytmhaiihjfgfaoaa.Gl
open Go.RowKit Go.Shelf Go.Proofs.YtmhaiihjfgfaoaaW.bu Go.Proofs.YtmhaiihjfgfaoaaW.dB Go.Proofs.YtmhaiihjfgfaoaaW.ek Go.Proofs.Ytmhaiihjfgfaoaa.Pr Go.Proofs.YtmhaiihjfgfaoaaW.Round
attribute [local go_sem] iq iw jq jr iy
def jG (v:nW) (c:gU):jK:=if c.f0 = 8 then v.aV else v.use
theorem YP (v:nW) (c:gU) (w:ao):Calls Try.prog 109 #[.agg #[Z ab v.speed,Z ab v.bq,Z ab v.use.f0,Z ab v.use.f1,Z ab v.aV.f0,Z ab v.aV.f1,Z ab v.reserve],.agg #[Z ab c.f0,Z ab c.f1]] w (yw (.agg #[Z ab (jG v c).f0,Z ab (jG v c).f1]) w) :=
 BR.calls _ _ _ _ _ _ _ _ _ (jG v c).f0 (jG v c).f1 w (by unfold BR.f jG;split <;> rfl)
def WC (v:nW):List gU→jK→Int→List jK→List jK × Int × Int
 |[],_,n,out=>(out,n,0)
 |c :: l,e,n,out=>if e.f0 - (jG v c).f1 < v.reserve then ([],n,19) else WC v l ⟨e.f0 - (jG v c).f1,e.f1 - (jG v c).f0⟩ (n+1) (out++[⟨e.f0 - (jG v c).f1,e.f1 - (jG v c).f0⟩])
def aDJ (R:List jK × Int × Int) (w:ao) (e:Ending) (w':ao):Prop:=∃ QH:Value,e = .returned (.tuple #[QH,Z ab R.2.1,Z ab R.2.2])∧Kd.R k27 27 w' w.heap.size (fun _=>True) QH R.1∧Below w.heap.size w w'
theorem Gr {v:nW} (h:wZ v = true) (c:gU):0≤(jG v c).f0∧(jG v c).f0≤(jG v c).f1∧(jG v c).f1≤1073741824:=by
 unfold wZ at h
 simp only [Bool.and_eq_true,FI] at h
 unfold jG
 split
 ·omega
 ·omega
theorem WE {v:nW} (h:wZ v = true):0≤v.reserve∧v.reserve≤1073741824:=by
 unfold wZ at h
 simp only [Bool.and_eq_true,jg] at h
 exact h.2
theorem ahl (v:nW) (e:jK) (A:Option Addr) (c:Nat) (l:List gU) (w:ao) (hv:wZ v = true) (he:si e.f0 e.f1 0 1073741824 = true) (hC:Kd.C yn w A l.length l) (hc:l.length≤c) (hl:l.length≤64):
 Calls Try.prog 85 #[.agg #[Z ab v.speed,Z ab v.bq,Z ab v.use.f0,Z ab v.use.f1,Z ab v.aV.f0,Z ab v.aV.f1,Z ab v.reserve],.agg #[Z ab e.f0,Z ab e.f1],.slice A l.length c] w (aDJ (WC v l e 0 []) w):=by
 have E9:=Try.underlying33
 have oO:=Try.underlying27
 have vo:=Try.underlying29
 have he':=FI.1 he
 have hres:=WE hv
 have HV:=Lib.hid hv
 clear hv he
 go_enter Try.func85,Try.ntmps85
 go_wp2_with fail
 have m3:dW ((w.alloc (.cells #[Z ab v.speed,Z ab v.bq,Z ab v.use.f0,Z ab v.use.f1,Z ab v.aV.f0,Z ab v.aV.f1,Z ab v.reserve] 29)).alloc (.cells #[Z ab e.f0,Z ab e.f1] 27)) (w.heap.size) #[Z ab v.speed,Z ab v.bq,Z ab v.use.f0,Z ab v.use.f1,Z ab v.aV.f0,Z ab v.aV.f1,Z ab v.reserve] 29:=(aa (by have h_:=eB w (.cells #[Z ab v.speed,Z ab v.bq,Z ab v.use.f0,Z ab v.use.f1,Z ab v.aV.f0,Z ab v.aV.f1,Z ab v.reserve] 29);first|exact h_|(simp only [World.size_alloc] at h_;exact h_)) _)
 have m4:dW ((w.alloc (.cells #[Z ab v.speed,Z ab v.bq,Z ab v.use.f0,Z ab v.use.f1,Z ab v.aV.f0,Z ab v.aV.f1,Z ab v.reserve] 29)).alloc (.cells #[Z ab e.f0,Z ab e.f1] 27)) (w.heap.size+1) #[Z ab e.f0,Z ab e.f1] 27:=(by have h_:=eB (w.alloc (.cells #[Z ab v.speed,Z ab v.bq,Z ab v.use.f0,Z ab v.use.f1,Z ab v.aV.f0,Z ab v.aV.f1,Z ab v.reserve] 29)) (.cells #[Z ab e.f0,Z ab e.f1] 27);first|exact h_|(simp only [World.size_alloc] at h_;exact h_))
 have mB:Below w.heap.size w ((w.alloc (.cells #[Z ab v.speed,Z ab v.bq,Z ab v.use.f0,Z ab v.use.f1,Z ab v.aV.f0,Z ab v.aV.f1,Z ab v.reserve] 29)).alloc (.cells #[Z ab e.f0,Z ab e.f1] 27)):=(aH (aH (Below.refl w.heap.size w) _) _)
 have kZ:w.heap.size≤w.heap.size:=Nat.le_refl _
 generalize qQ:((w.alloc (.cells #[Z ab v.speed,Z ab v.bq,Z ab v.use.f0,Z ab v.use.f1,Z ab v.aV.f0,Z ab v.aV.f1,Z ab v.reserve] 29)).alloc (.cells #[Z ab e.f0,Z ab e.f1] 27)) = W1 at m3 m4 mB ⊢
 clear qQ
 generalize hg3:w.heap.size = g3 at m3 m4 ⊢
 have hG3:w.heap.size≤g3:=by omega
 generalize hg4:g3+1 = g4 at m4 ⊢
 have VG:g3≠g4:=by omega
 have aCr:g4≠g3:=VG.symm
 have hG4:w.heap.size≤g4:=by omega
 clear kZ
 try clear hg4
 try clear hg3
 have sD:w.heap.size≤W1.heap.size:=mB.size
 go_wp2
 go_loopw [9,15] (fun o i wr=>∃ (k:Nat) (v_:Value) (E:jK) (out:List jK),v_ = o∧i = Z ab k∧k≤l.length∧Hid (WC v l e 0 [] = WC v (l.drop k) E k out)∧Hid (out.length = k∧0≤E.f0∧E.f0≤E.f1∧E.f1≤1073741824)∧dW wr g3 #[Z ab v.speed,Z ab v.bq,Z ab v.use.f0,Z ab v.use.f1,Z ab v.aV.f0,Z ab v.aV.f1,Z ab v.reserve] 29∧dW wr g4 #[Z ab E.f0,Z ab E.f1] 27∧Kd.R k27 27 wr w.heap.size (fun q=>q≠g4) v_ out∧Below w.heap.size w wr) (fun _ i _=>l.length - (intOf i).toNat)
 case atStart=>exact ⟨0,_,e,[],rfl,rfl,Nat.zero_le _,Lib.hid rfl,Lib.hid ⟨rfl,by omega,by omega,by omega⟩,m3,m4,Kd.Na _ _ _ _ _,mB⟩
 case round =>
  clear m3 m4 mB he'
  obtain ⟨k,v_,E,out,rfl,rfl,hk,HR,HQ,m3,m4,HO,mB⟩:=hrel
  have YO:w.heap.size≤wr.heap.size:=mB.size
  by_cases hlt:k < l.length
  case neg =>
   obtain rfl:k = l.length:=by omega
   have HE:=HR.out
   rw [List.drop_length] at HE
   have HE2:Hid (WC v l e 0 [] = (out,(l.length:Int),0)):=Lib.hid HE
   clear HE HR HQ
   go_wp2
   go_ret3
   exact ⟨_,by rw [HE2.out];rfl,by rw [HE2.out];exact Kd.jX HO (fun _ _=>trivial),mB⟩
  case pos =>
   obtain ⟨ad_,e_,hx0,hx1⟩:=lN hC k (by omega) (by omega)
   cases e_
   simp only [Int.toNat_natCast] at hx0 hx1
   replace hx0:=(mB.cell (bd w _ hx0)).trans hx0
   replace hx1:=(mB.cell (bd w _ hx1)).trans hx1
   have hdr:l.drop k = bX l (k:Int) :: l.drop (k+1):=by rw [List.drop_eq_getElem_cons hlt];simp [bX,List.getD_eq_getElem?_getD,hlt]
   generalize bX l (k:Int) = d at*
   have hus:=Gr HV.out d
   have HR2:Hid (WC v l e 0 [] = if E.f0 - (jG v d).f1 < v.reserve then ([],(k:Int),19) else WC v (l.drop (k+1)) ⟨E.f0 - (jG v d).f1,E.f1 - (jG v d).f0⟩ ((k:Int)+1) (out++[⟨E.f0 - (jG v d).f1,E.f1 - (jG v d).f0⟩])):=Lib.hid (by rw [HR.out,hdr];rfl)
   clear HR hdr
   have kT:=fun W=>YP v d W
   generalize jG v d = x at*
   obtain ⟨hol,hE0,hE1,hE2⟩:=HQ.out
   clear HQ
   have hw0:an (E.f0 - x.f1) = E.f0 - x.f1:=by unfold an;omega
   have hw1:an (E.f1 - x.f0) = E.f1 - x.f0:=by unfold an;omega
   have HQ1:Hid (out.length = k∧0≤E.f0∧E.f0≤E.f1∧E.f1≤1073741824∧0≤x.f0∧x.f0≤x.f1∧x.f1≤1073741824∧an (E.f0 - x.f1) = E.f0 - x.f1∧an (E.f1 - x.f0) = E.f1 - x.f0):=Lib.hid ⟨hol,hE0,hE1,hE2,hus.1,hus.2.1,hus.2.2,hw0,hw1⟩
   clear hol hE0 hE1 hE2 hus hw0 hw1
   have ad1:∀ o_,(wr.alloc o_).cell? ⟨g3,0,none⟩ = some (Z ab v.speed):=fun o_=>(ae (aa m3 o_) 0).trans rfl
   have ad2:∀ o_,(wr.alloc o_).cell? ⟨g3,1,none⟩ = some (Z ab v.bq):=fun o_=>(ae (aa m3 o_) 1).trans rfl
   have ad3:∀ o_,(wr.alloc o_).cell? ⟨g3,2,none⟩ = some (Z ab v.use.f0):=fun o_=>(ae (aa m3 o_) 2).trans rfl
   have ad4:∀ o_,(wr.alloc o_).cell? ⟨g3,3,none⟩ = some (Z ab v.use.f1):=fun o_=>(ae (aa m3 o_) 3).trans rfl
   have ad5:∀ o_,(wr.alloc o_).cell? ⟨g3,4,none⟩ = some (Z ab v.aV.f0):=fun o_=>(ae (aa m3 o_) 4).trans rfl
   have ad6:∀ o_,(wr.alloc o_).cell? ⟨g3,5,none⟩ = some (Z ab v.aV.f1):=fun o_=>(ae (aa m3 o_) 5).trans rfl
   have ad7:∀ o_,(wr.alloc o_).cell? ⟨g3,6,none⟩ = some (Z ab v.reserve):=fun o_=>(ae (aa m3 o_) 6).trans rfl
   go_wp2_with fail
   clear ad1 ad2 ad3 ad4 ad5 ad6 ad7
   clear hx0 hx1
   replace HO:=Kd.lZ HO (aH (Below.refl wr.heap.size wr) (.cells #[Z ab d.f0,Z ab d.f1] 33))
   have aDK:=bO m3
   have ao7:=bO m4
   have m11:dW (wr.alloc (.cells #[Z ab d.f0,Z ab d.f1] 33)) (wr.heap.size) #[Z ab d.f0,Z ab d.f1] 33:=aFq
   replace m3:dW (wr.alloc (.cells #[Z ab d.f0,Z ab d.f1] 33)) g3 #[Z ab v.speed,Z ab v.bq,Z ab v.use.f0,Z ab v.use.f1,Z ab v.aV.f0,Z ab v.aV.f1,Z ab v.reserve] 29:=(aa m3 _)
   replace m4:dW (wr.alloc (.cells #[Z ab d.f0,Z ab d.f1] 33)) g4 #[Z ab E.f0,Z ab E.f1] 27:=(aa m4 _)
   replace mB:Below w.heap.size w (wr.alloc (.cells #[Z ab d.f0,Z ab d.f1] 33)):=(aH mB _)
   have kZ:w.heap.size≤wr.heap.size:=YO
   generalize qQ:(wr.alloc (.cells #[Z ab d.f0,Z ab d.f1] 33)) = W2 at m3 m4 m11 mB HO ⊢
   clear qQ
   generalize ahm:wr.heap.size = g11 at m11 ⊢
   have ayw:g3≠g11:=by omega
   have ayx:g4≠g11:=by omega
   have aUR:g11≠g3:=ayw.symm
   have aUS:g11≠g4:=ayx.symm
   have VR:w.heap.size≤g11:=by omega
   clear kZ aDK ao7
   try clear ahm
   have vI:w.heap.size≤W2.heap.size:=mB.size
   have hcon:=kT W2
   clear kT
   (with_reducible refine hcon.mono ?_)
   clear hcon
   rintro _ W3 ⟨rfl,hb⟩
   replace HO:=Kd.lZ HO hb
   replace m3:=ah m3 hb
   replace m4:=ah m4 hb
   replace m11:=ah m11 hb
   replace mB:=bI mB hb
   clear hb
   have FB:w.heap.size≤W3.heap.size:=mB.size
   go_wp2
   have hlt3:some W3.heap.size≠v_.ownBlock:=fun h=>by have:=Kd.af9 HO _ h.symm;omega
   replace HO:=Kd.lZ HO (aH (Below.refl W3.heap.size W3) (.cells #[Z ab x.f0,Z ab x.f1] 27))
   have aDK:=bO m3
   have ao7:=bO m4
   have WG:=bO m11
   have m12:dW (W3.alloc (.cells #[Z ab x.f0,Z ab x.f1] 27)) (W3.heap.size) #[Z ab x.f0,Z ab x.f1] 27:=(by have h_:=eB W3 (.cells #[Z ab x.f0,Z ab x.f1] 27);first|exact h_|(simp only [World.size_alloc] at h_;exact h_))
   replace m3:dW (W3.alloc (.cells #[Z ab x.f0,Z ab x.f1] 27)) g3 #[Z ab v.speed,Z ab v.bq,Z ab v.use.f0,Z ab v.use.f1,Z ab v.aV.f0,Z ab v.aV.f1,Z ab v.reserve] 29:=(aa m3 _)
   replace m4:dW (W3.alloc (.cells #[Z ab x.f0,Z ab x.f1] 27)) g4 #[Z ab E.f0,Z ab E.f1] 27:=(aa m4 _)
   replace m11:dW (W3.alloc (.cells #[Z ab x.f0,Z ab x.f1] 27)) g11 #[Z ab d.f0,Z ab d.f1] 33:=(aa m11 _)
   replace mB:Below w.heap.size w (W3.alloc (.cells #[Z ab x.f0,Z ab x.f1] 27)):=(aH mB _)
   have kZ:w.heap.size≤W3.heap.size:=FB
   generalize qQ:(W3.alloc (.cells #[Z ab x.f0,Z ab x.f1] 27)) = W4 at m3 m4 m11 m12 mB HO ⊢
   clear qQ
   generalize agE:W3.heap.size = g12 at m12 hlt3 ⊢
   have ayy:g3≠g12:=by omega
   have ayz:g4≠g12:=by omega
   have oD:g11≠g12:=by omega
   have aUT:g12≠g3:=ayy.symm
   have akQ:g12≠g4:=ayz.symm
   have Pf:g12≠g11:=oD.symm
   have JB:w.heap.size≤g12:=by omega
   clear kZ aDK ao7 WG
   try clear agE
   have Vz:w.heap.size≤W4.heap.size:=mB.size
   replace m3:=ag m3
   replace m4:=ag m4
   replace m11:=ag m11
   replace m12:=ag m12
   replace mB:=bF mB
   replace HO:=Kd.lZ HO (bF (Below.refl W4.heap.size W4))
   refine jV (n:=14) (S:=fun w'=>w'.cell? ⟨g12,0,none⟩ = some (Z ab x.f0)∧w'.cell? ⟨g12,1,none⟩ = some (Z ab x.f1)∧w'.cell? ⟨g4,1,none⟩ = some (Z ab E.f1)) (ds:=[13]) #[al,al,al,al,al,al,al,al,al,al,al,al,al,al] aT rfl rfl ⟨((ae m12 0).trans rfl),((ae m12 1).trans rfl),((ae m4 1).trans rfl)⟩ (fun hHeld=>?_)
   generalize hWd:World.drew _ = Wx at*
   clear hWd
   refine dR (i:=0) (N:=some 23) aT ?_
   refine dR (i:=2) (N:=some 25) aT ?_
   refine dR (i:=5) (N:=some 28) aT ?_
   refine dR (i:=7) (N:=some 30) aT ?_
   refine iT (i:=3) (N:=some 26) aT hHeld ?_
   refine iT (i:=6) (N:=some 29) aT hHeld ?_
   refine iT (i:=8) (N:=some 31) aT hHeld ?_
   refine dR (i:=9) (N:=some 32) aT ?_
   refine iW (i:=1) (N:=some 24) #[ac,ac,ac,ac,al,ac,ac,ac,ac,ac,al,al,al,al] rfl rfl aT (by decide) (fun K hK=>?_)
   have RZ:=(ae m4 0).trans rfl
   refine GG (w1:=?_) (v:=?_) (by rfl) rfl ?_ ?_
   rotate_left 2
   ·go_simp
    constructor
    ·rfl
    ·rfl
   clear RZ
   refine hK.out _ _ ⟨((ae m12 0).trans rfl),((ae m12 1).trans rfl),((ae m4 1).trans rfl)⟩ (fun hHeld=>?_)
   clear hK K
   refine dQ aoh ?_
   refine dR (i:=4) (N:=some 27) aT ?_
   refine dR (i:=10) (N:=some 33) aT ?_
   refine iW (i:=11) (N:=none) #[ac,ac,ac,ac,ac,ac,ac,ac,ac,ac,ac,ac,al,al] rfl rfl aT (by decide) (fun K hK=>?_)
   have XD:=bg m4 0
   have RZ:=(ae m4 0).trans rfl
   refine vF (w1:=?_) (by rfl) rfl ?_ ?_
   rotate_left
   ·go_simp
    rfl
   clear XD RZ
   refine hK.out _ _ ⟨((ae (aM (p:=⟨g4,0,none⟩) m12 akQ _) 0).trans rfl),((ae (aM (p:=⟨g4,0,none⟩) m12 akQ _) 1).trans rfl),((ae (aK m4 0 (Z ab (an (E.f0 - x.f1))) rfl) 1).trans rfl)⟩ (fun hHeld=>?_)
   clear hK K
   refine dR (i:=12) (N:=some 34) aT ?_
   refine Mf (i:=13) (N:=none) #[ac,ac,ac,ac,ac,ac,ac,ac,ac,ac,ac,ac,ac,ac] rfl rfl aT (by decide) (fun K hK=>?_)
   have PR:=(aK m4 0 (Z ab (an (E.f0 - x.f1))) rfl)
   have XE:=bg PR 1
   have XF:=(ae PR 1).trans rfl
   refine vF (w1:=?_) (by rfl) rfl ?_ ?_
   rotate_left
   ·go_simp
    rfl
   clear XE XF PR
   refine hK.out _ _ ?_
   clear hK K
   refine mi aT ?_
   have n4:dW ((Wx.setCell ⟨g4,0,none⟩ (Z ab (an (E.f0 - x.f1)))).setCell ⟨g4,1,none⟩ (Z ab (an (E.f1 - x.f0)))) g4 #[Z ab (an (E.f0 - x.f1)),Z ab (an (E.f1 - x.f0))] 27:=(aK (aK m4 0 _ rfl) 1 _ rfl)
   have n3:dW ((Wx.setCell ⟨g4,0,none⟩ (Z ab (an (E.f0 - x.f1)))).setCell ⟨g4,1,none⟩ (Z ab (an (E.f1 - x.f0)))) g3 #[Z ab v.speed,Z ab v.bq,Z ab v.use.f0,Z ab v.use.f1,Z ab v.aV.f0,Z ab v.aV.f1,Z ab v.reserve] 29:=(aM (p:=⟨g4,1,none⟩) (aM (p:=⟨g4,0,none⟩) m3 VG _) VG _)
   have nB:Below w.heap.size w ((Wx.setCell ⟨g4,0,none⟩ (Z ab (an (E.f0 - x.f1)))).setCell ⟨g4,1,none⟩ (Z ab (an (E.f1 - x.f0)))):=(Below.setCell (p:=⟨g4,1,none⟩) (Below.setCell (p:=⟨g4,0,none⟩) mB hG4 _) hG4 _)
   have nO:Kd.R k27 27 ((Wx.setCell ⟨g4,0,none⟩ (Z ab (an (E.f0 - x.f1)))).setCell ⟨g4,1,none⟩ (Z ab (an (E.f1 - x.f0)))) w.heap.size (fun q=>q≠g4) v_ out:=(Kd.fu (p:=⟨g4,1,none⟩) (Kd.fu (p:=⟨g4,0,none⟩) HO (fun _ hk=>hk) _) (fun _ hk=>hk) _)
   clear m3 m4 m11 m12 mB HO
   try clear hHeld
   generalize qQ:((Wx.setCell ⟨g4,0,none⟩ (Z ab (an (E.f0 - x.f1)))).setCell ⟨g4,1,none⟩ (Z ab (an (E.f1 - x.f0)))) = W5 at n3 n4 nB nO ⊢
   clear qQ
   obtain ⟨hol,hE0,hE1,hE2,hx0,hx1,hx2,hw0,hw1⟩:=HQ1.out
   rw [hw0,hw1] at n4
   try rw [hw0,hw1]
   clear HQ1
   have VA:w.heap.size≤W5.heap.size:=nB.size
   have m3:=n3
   have m4:=n4
   have mB:=nB
   have HO:=nO
   clear n3 n4 nB nO
   obtain ⟨ad1,ad2,ad3,ad4,ad5,ad6,ad7⟩:=Ci m3
   obtain ⟨atQ,atS⟩:=Ch m4
   by_cases hE:E.f0 - x.f1 < v.reserve
   case pos =>
    have HZ:=Lib.hid (HR2.out.trans (if_pos hE))
    have hd1:decide (E.f0 - x.f1 < v.reserve) = true:=decide_eq_true hE
    clear hE HR2
    go_wp2
    go_ret3
    exact ⟨_,qi,Zk,mB⟩
   case neg =>
    have HR3:=Lib.hid (HR2.out.trans (if_neg hE))
    have hd1:decide (E.f0 - x.f1 < v.reserve) = false:=decide_eq_false hE
    have HQ2:Hid (out.length = k∧0≤E.f0 - x.f1∧E.f0 - x.f1≤E.f1 - x.f0∧E.f1 - x.f0≤1073741824):=Lib.hid ⟨hol,by omega,by omega,by omega⟩
    clear HR2 hol hE0 hE1 hE2 hx0 hx1 hx2 hw0 hw1 hE
    have hal:Hid ((out.length+1)*16≤140737488355328):=Lib.hid (by have:=HQ2.out.1;omega)
    have aYL:some g4≠v_.ownBlock:=fun h=>HO.1 g4 h.symm rfl
    have aYM:=Kd.af6 HO m3 (by decide)
    go_wp2_with (first|((with_reducible refine pz (b:=.append) (xs:=#[.tmp 41,.tmp 43]) rfl ?_);(try (refine pU (by rfl) ?_;dsimp only));at_builtin;go_loud (refine Kd.Cg k27 (w0:=w) w.heap.size rfl (.tmp 41) (.tmp 43) 66 27 (.agg #[Z ab 0,Z ab 0]) 16 rfl Try.underlying66 aoj rfl (by decide) (by decide) v_ out ⟨E.f0 - x.f1,E.f1 - x.f0⟩ [Z ab (E.f0 - x.f1),Z ab (E.f1 - x.f0)] (fun q=>q≠g4) (fun _=>False) rfl (by first|rfl|(go_simp;done)|(go_simp;rfl)) ?aP (fun _ hk=>hk.elim) ?aF ?aO ?aB ?aS ?aL ?_);(case aP=>exact wz _ _ _ (⟨E.f0 - x.f1,E.f1 - x.f0⟩:jK));(case aF=>exact (fun q hq=>by have h_:=bO m4;omega));(case aO=>exact HO);(case aB=>exact mB);(case aS=>exact mB.size);(case aL=>exact hal.out);intro v1 w1 HO1 hB1 hgr hat))
    go_roundw
    case rel =>
     exact ⟨k+1,v1,(⟨E.f0 - x.f1,E.f1 - x.f0⟩:jK),out++[(⟨E.f0 - x.f1,E.f1 - x.f0⟩:jK)],rfl,by simp,by omega,Lib.hid HR3.out,Lib.hid ⟨by rw [List.length_append];have:=HQ2.out.1;simp;omega,HQ2.out.2⟩,iF m3 hgr aYM,iF m4 hgr aYL,HO1,hB1⟩
    case measure=>simp [intOf];omega
end Go.Proofs.Ytmhaiihjfgfaoaa.Gl
end
section
namespace Go.Proofs.Ytmhaiihjfgfaoaa.Pr
open Go.RowKit Go.Proofs.YtmhaiihjfgfaoaaW.bu Go.Proofs.YtmhaiihjfgfaoaaW.dB Go.Proofs.YtmhaiihjfgfaoaaW.ek
attribute [local go_sem] iq iw jq jr iy
def j4.f (ai:Int) (aj:Int) (aQ:Int) (aN:Int):Option (Int × Int × Bool):=some (mx ai aQ,mn aj aN,decide ((mx ai aQ)≤(mn aj aN)))
def j4.T2:Bool × List (List Nat × List Nat):=(true,[([],[]),([],[]),([1],[1]),([],[]),([3],[3]),([2,4],[2,4]),([0,0],[0]),([5,6,0,1,2,3,4,5,6],[5])])
def j4.B2:List Nat:=[0,0,2,0,8,30,1,127]
theorem j4.apn:rX .any (opsOf Try.f138 2) = j4.T2:=by kernel_rfl
theorem j4.ad8:oF j4.T2.2 j4.B2 = true:=by kernel_rfl
theorem j4.calls (ai:Int) (aj:Int) (aQ:Int) (aN:Int) (r1:Int) (r2:Int) (r3:Bool) (w:ao) (h:j4.f ai aj aQ aN = some (r1,r2,r3)):
 Calls Try.prog 138 #[.agg #[Z ab ai,Z ab aj],.agg #[Z ab aQ,Z ab aN]] w fun e w'=>e = .returned (.tuple #[.agg #[Z ab r1,Z ab r2],.bool r3])∧Below w.heap.size w w':=by
 have oO:=Try.underlying27
 have HB:=af.mk (Below.refl w.heap.size w)
 have H:(some (mx ai aQ,mn aj aN,decide ((mx ai aQ)≤(mn aj aN)))) = some (r1,r2,r3):=h
 clear h
 obtain ⟨Ck,Jl⟩:∃ j_:Int,(mx ai aQ) = j_:=⟨_,rfl⟩
 replace H:(some (Ck,mn aj aN,decide ((Ck)≤(mn aj aN)))) = some (r1,r2,r3):=by first|(rw [Jl] at H;exact H)|(simp only [Jl] at H ⊢;exact H)
 have aow:(if ai < aQ then aQ else ai) = Ck:=Jl
 obtain ⟨SG,P7⟩:∃ j_:Int,(mn aj aN) = j_:=⟨_,rfl⟩
 replace H:(some (Ck,SG,decide ((Ck)≤(SG)))) = some (r1,r2,r3):=by first|(rw [P7] at H;exact H)|(simp only [P7] at H ⊢;exact H)
 have azP:(if aN < aj then aN else aj) = SG:=P7
 simp only [Option.some.injEq,Prod.mk.injEq] at H
 obtain ⟨rfl,rfl,rfl⟩:=H
 go_enter Try.func138,Try.ntmps138
 try go_wp2_with (first|((with_reducible refine av (N:=2) rfl ?_);refine ak (by rfl) (N:=2) (by rfl) (cs:=#[Z ab ai,Z ab aj]) (t:=27) fU ?_;intro aLF hg w5 ay hb;have yf:=af.mk (ay);have a2R:=bY HB hg;have a2S:=bY HB hg;replace HB:=dz HB hb;clear hb ay hg)|((with_reducible refine av (N:=3) rfl ?_);refine ak (by rfl) (N:=3) (by rfl) (cs:=#[Z ab aQ,Z ab aN]) (t:=27) fU ?_;intro aLG hg w6 ay hb;have EU:=af.mk (ay);have a2T:=bY HB hg;have a2U:=bY HB hg;have anl:=fG yf hg;have anm:=fH yf hg;replace yf:=bn yf hb;replace HB:=dz HB hb;clear hb ay hg)|((with_reducible refine av (N:=4) rfl ?_);refine ak (by rfl) (N:=4) (by rfl) (cs:=#[Z ab 0,Z ab 0]) (t:=27) fU ?_;intro akR hg w7 ay hb;have EW:=af.mk (ay);have a2V:=bY HB hg;have a2W:=bY HB hg;have QW:=fG yf hg;have QX:=fH yf hg;have QY:=fG EU hg;have QZ:=fH EU hg;replace yf:=bn yf hb;replace EU:=bn EU hb;replace HB:=dz HB hb;clear hb ay hg;have adp:=anl.out;have adq:=anm.out;have atn:=QW.out;have ato:=QX.out;obtain ⟨sP,sQ,sS,sU⟩:=iQ yf.out;have adj:=QY.out;have adk:=QZ.out;obtain ⟨qa,qb,qc,qd⟩:=iQ EU.out)|((with_reducible refine av (N:=6) rfl ?_);refine ak (by rfl) (N:=6) (by rfl) (cs:=#[Z ab 0,Z ab 0]) (t:=27) fU ?_;intro CJ hg GK ay hb;have Pg:=af.mk (ay);have a2X:=bY HB hg;have a2Y:=bY HB hg;have ann:=fG yf hg;have ano:=fH yf hg;have anp:=fG EU hg;have anq:=fH EU hg;have Q0:=fG EW hg;have zn:=fH EW hg;replace yf:=bn yf hb;replace EU:=bn EU hb;replace EW:=bn EW hb;replace HB:=dz HB hb;clear hb ay hg;have aiJ:=ano.out;have aiK:=ann.out;have aLH:=anq.out;have aLI:=anp.out;have OD:=zn.out;have OE:=Q0.out;obtain ⟨tJ,tK,tL,tN⟩:=iQ Pg.out))
 have vv:af (((GK.setCell ⟨CJ,0,none⟩ (Z ab Ck)).setCell ⟨CJ,1,none⟩ (Z ab SG)).heap[aLF]? = some (.cells #[Z ab ai,Z ab aj] 27 (0,0))):=⟨iK⟩
 have vw:af (((GK.setCell ⟨CJ,0,none⟩ (Z ab Ck)).setCell ⟨CJ,1,none⟩ (Z ab SG)).heap[aLG]? = some (.cells #[Z ab aQ,Z ab aN] 27 (0,0))):=⟨iK⟩
 have vz:af (((GK.setCell ⟨CJ,0,none⟩ (Z ab Ck)).setCell ⟨CJ,1,none⟩ (Z ab SG)).heap[akR]? = some (.cells #[Z ab 0,Z ab 0] 27 (0,0))):=⟨iK⟩
 have vB:af (((GK.setCell ⟨CJ,0,none⟩ (Z ab Ck)).setCell ⟨CJ,1,none⟩ (Z ab SG)).heap[CJ]? = some (.cells #[Z ab Ck,Z ab SG] 27 (0,0))):=⟨by (with_reducible repeat (first|refine au ?_ _|refine ag ?_|refine aa ?_ _));refine aK (cs:=#[Z ab Ck,Z ab 0]) ?_ 1 _ rfl;(with_reducible repeat (first|refine au ?_ _|refine ag ?_|refine aa ?_ _));refine aK (cs:=#[Z ab 0,Z ab 0]) ?_ 0 _ rfl;(with_reducible repeat (first|refine au ?_ _|refine ag ?_|refine aa ?_ _));exact Pg.out⟩
 have xU:af (Below w.heap.size w ((GK.setCell ⟨CJ,0,none⟩ (Z ab Ck)).setCell ⟨CJ,1,none⟩ (Z ab SG))):=⟨gp⟩
 (try clear yf)
 (try clear EU)
 (try clear EW)
 (try clear Pg)
 (try clear HB)
 generalize ((GK.setCell ⟨CJ,0,none⟩ (Z ab Ck)).setCell ⟨CJ,1,none⟩ (Z ab SG)) = w18 at vv vw vz vB xU ⊢
 have yf:=vv
 have EU:=vw
 have EW:=vz
 have Pg:=vB
 have HB:=xU
 clear vv vw vz vB xU
 replace yf:=af.mk (ag yf.out)
 replace EU:=af.mk (ag EU.out)
 replace EW:=af.mk (ag EW.out)
 replace Pg:=af.mk (ag Pg.out)
 replace HB:=af.mk (bF HB.out)
 refine jV (n:=8) (S:=fun w'=>w'.cell? ⟨CJ,0,none⟩ = some (Z ab Ck)∧w'.cell? ⟨CJ,1,none⟩ = some (Z ab SG)) (ds:=[]) #[al,al,al,al,al,al,al,al] aT rfl rfl ⟨bH Pg 0,bH Pg 1⟩ (fun hHeld=>?_);refine jQ j4.apn j4.ad8 (fun dx mD=>?_)
 generalize w18.drew = w19 at yf EU EW Pg HB hHeld ⊢
 refine dR (i:=1) (N:=some 19) (aY dx.out aT) ?_
 refine dR (i:=3) (N:=some 21) (aY dx.out aT) ?_
 refine iT (i:=0) (N:=some 18) (bL dx.out mD.out aT) hHeld ?_
 refine iT (i:=2) (N:=some 20) (bL dx.out mD.out aT) hHeld ?_
 refine iT (i:=4) (N:=some 22) (bL dx.out mD.out aT) hHeld ?_
 refine dR (i:=5) (N:=some 23) (aY dx.out aT) ?_
 refine iW (i:=6) (N:=none) #[ac,ac,ac,ac,ac,ac,ac,al] rfl rfl (gJ dx.out aT) (by decide) (fun K hK=>?_)
 have aXz:w19.cell? ⟨akR,0,none⟩ = some (Z ab 0):=(ae EW.out 0).trans rfl
 have aHZ:=bg EW.out 0
 have axN:=QW.out
 have axO:=QY.out
 have aUU:=zn.out
 have axP:=QX.out
 have axQ:=QZ.out
 have aUV:=Q0.out
 have aGf:w19.cell? ⟨akR,1,none⟩ = some (Z ab 0):=(ae EW.out 1).trans rfl
 have azZ:=bg EW.out 1
 have ai1:=QW.out
 have ai2:=QY.out
 have aUW:=zn.out
 have ai3:=QX.out
 have ai4:=QZ.out
 have aUX:=Q0.out
 refine vF (w1:=?_) (by rfl) rfl ?_ ?_
 rotate_left
 ·go_simp
  rfl
 refine hK.out _ _ ⟨(dI zn ((dI zn (hHeld.1)))),(dI zn ((dI zn (hHeld.2))))⟩ (fun hHeld=>?_)
 clear hK K
 refine dR (i:=7) (N:=some 5) (aY dx.out aT) ?_
 refine mi (ni dx.out aT) ?_
 try go_wp2
 refine bodyPost_ret (nN rfl _ _ akR 27 #[Z ab Ck,Z ab SG] (0,0) _ rfl (by (with_reducible repeat (first|refine au ?_ _|refine ag ?_|refine aa ?_ _));refine aK (cs:=#[Z ab Ck,Z ab 0]) ?_ 1 _ rfl;(with_reducible repeat (first|refine au ?_ _|refine ag ?_|refine aa ?_ _));refine aK (cs:=#[Z ab 0,Z ab 0]) ?_ 0 _ rfl;(with_reducible repeat (first|refine au ?_ _|refine ag ?_|refine aa ?_ _));exact EW.out) Try.underlying27 rfl aT) rfl ?_
 exact ⟨aFl,gp⟩
attribute [local go_sem high] aoq
def JV.f (k:Nat) (ai:Int) (aj:Int) (aQ:Int) (aN:Int):Option (Int × Int):=(dM.f k (([(⟨ai,aj⟩:jK),(⟨aQ,aN⟩:jK)]:List (jK)))).bind fun Gs=>(if Gs = 0 then ((j4.f ai aj aQ aN).bind fun CK=>(if CK.2.2 = true then (if (CK.1 == ai && (CK.2.1 == aj)) = true then (some (2,0)) else (some (1,0))) else (some (0,0)))) else (some (0,Gs)))
theorem JV.calls (k:Nat) (ai:Int) (aj:Int) (aQ:Int) (aN:Int) (r1:Int) (r2:Int) (w:ao) (h:JV.f k ai aj aQ aN = some (r1,r2)):
 Calls Try.prog 128 #[.agg #[Z ab ai,Z ab aj],.agg #[Z ab aQ,Z ab aN]] w fun e w'=>e = .returned (.tuple #[Z ab r1,Z ab r2])∧Below w.heap.size w w':=by
 have oO:=Try.underlying27
 have HB:=af.mk (Below.refl w.heap.size w)
 have H:((dM.f k (([(⟨ai,aj⟩:jK),(⟨aQ,aN⟩:jK)]:List (jK)))).bind fun Gs=>(if Gs = 0 then ((j4.f ai aj aQ aN).bind fun CK=>(if CK.2.2 = true then (if (CK.1 == ai && (CK.2.1 == aj)) = true then (some (2,0)) else (some (1,0))) else (some (0,0)))) else (some (0,Gs)))) = some (r1,r2):=h
 clear h
 obtain ⟨abO,ae9⟩:∃ y_:List (jK),y_ = (([(⟨ai,aj⟩:jK),(⟨aQ,aN⟩:jK)]:List (jK))):=⟨_,rfl⟩
 replace H:((dM.f k abO).bind fun Gs=>(if Gs = 0 then ((j4.f ai aj aQ aN).bind fun CK=>(if CK.2.2 = true then (if (CK.1 == ai && (CK.2.1 == aj)) = true then (some (2,0)) else (some (1,0))) else (some (0,0)))) else (some (0,Gs)))) = some (r1,r2):=by first|(rw [ae9];with_reducible exact H)|(have yu:=(aE _ _).symm.trans H;rw [ae9];with_reducible exact yu)|(have yu:=(aE _ _).symm.trans H;with_reducible exact yu)|with_reducible exact H|(rw [ae9];exact H)|exact H
 have RN:=af.mk ae9
 clear ae9
 replace H:=Option.bind_eq_some_iff.mp H
 obtain ⟨Gs,PS,H⟩:=H
 replace H:(if Gs = 0 then ((j4.f ai aj aQ aN).bind fun CK=>(if CK.2.2 = true then (if (CK.1 == ai && (CK.2.1 == aj)) = true then (some (2,0)) else (some (1,0))) else (some (0,0)))) else (some (0,Gs))) = some (r1,r2):=H
 have A3:=af.mk PS
 clear PS
 by_cases c4:Gs = 0
 ·rw [if_pos c4] at H
  have rZ:(Gs == 0) = true:=beq_iff_eq.mpr c4
  have apg:(Gs != 0) = false:=bne_eq_false_iff_eq.mpr c4
  clear c4
  replace H:=Option.bind_eq_some_iff.mp H
  obtain ⟨⟨Q4,Q5,aLJ⟩,VW,H⟩:=H
  replace H:(if aLJ = true then (if (Q4 == ai && (Q5 == aj)) = true then (some (2,0)) else (some (1,0))) else (some (0,0))) = some (r1,r2):=H
  have A5:=af.mk VW
  clear VW
  by_cases c6:aLJ = true
  ·subst c6
   have H1:(if (Q4 == ai && (Q5 == aj)) = true then (some (2,0)) else (some (1,0))) = some (r1,r2):=by rw [if_pos rfl] at H;exact H
   clear H
   have H:=H1
   clear H1
   by_cases c7:(Q4 == ai && (Q5 == aj)) = true
   ·rw [if_pos c7] at H
    have Oh:(Q4 == ai && (Q5 == aj)) = true:=c7
    (try (have aYN:decide (Q4 = ai && (Q5 == aj)) = true:=by simpa using c7))
    (try (have aYO:(Q4 == ai && (Q5 == aj)) = true:=by simpa using c7))
    clear c7
    simp only [Option.some.injEq,Prod.mk.injEq] at H
    obtain ⟨rfl,rfl⟩:=H
    go_enter Try.func128,Try.ntmps128
    go_wp2_with (first|((with_reducible refine av (N:=2) rfl ?_);refine ak (by rfl) (N:=2) (by rfl) (cs:=#[Z ab ai,Z ab aj]) (t:=27) fU ?_;intro WH hg w8 ay hb;have jd:=af.mk (ay);have aqj:=bY HB hg;have aqk:=bY HB hg;replace HB:=dz HB hb;clear hb ay hg)|((with_reducible refine av (N:=3) rfl ?_);refine ak (by rfl) (N:=3) (by rfl) (cs:=#[Z ab aQ,Z ab aN]) (t:=27) fU ?_;intro WI hg w9 ay hb;have l9:=af.mk (ay);have aql:=bY HB hg;have aqm:=bY HB hg;have zo:=fG jd hg;have zq:=fH jd hg;replace jd:=bn jd hb;replace HB:=dz HB hb;clear hb ay hg;have adD:=zo.out;have adE:=zq.out;obtain ⟨uf,ug,uh,ui⟩:=iQ jd.out;obtain ⟨qa,qb,qc,qd⟩:=iQ l9.out)|((with_reducible refine av (N:=11) rfl ?_);refine Kd.z8 k27 _ 27 (by rfl) (N:=11) (by rfl) (xs:=([(⟨ai,aj⟩:jK),(⟨aQ,aN⟩:jK)]:List (jK))) (inner:=[Z ab ai,Z ab aj,Z ab aQ,Z ab aN]) (ok:=fun _=>True) (okp:=fun _=>True) fU asP (fun _ hk=>hk) trivial (Below.refl _ _) (Nat.le_refl _) (by simp) ?_;intro aDL GK aqn hb Jn oC;clear Jn oC;(first|rw [← RN.out] at aqn|(simp only [Int.reduceToNat] at aqn;rw [← RN.out] at aqn));have oz:=af.mk (Kd.kv (Kd.uw (Kd.uw aqn (g:=WH) (o:=.cells #[Z ab ai,Z ab aj] 27 (0,0)) iK) (g:=WI) (o:=.cells #[Z ab aQ,Z ab aN] 27 (0,0)) iK) (fM gp));replace jd:=bn jd hb;replace l9:=bn l9 hb;replace HB:=dz HB hb;clear hb aqn;obtain ⟨aYP,aYQ,aYR⟩:=Kd.lM oz.out;subst aYR)|((with_reducible refine aU (f:=116) rfl ?_);refine dn (some 12) rfl rfl Try.func116 aT rfl #[.slice aYP abO.length aYQ] rfl jB ?_;(with_reducible refine (dM.calls k _ _ abO Gs _ ?dG ?dH A3.out).mono ?_);(case dG=>repeat (first|exact (Kd.fK oz.out).2.2|(with_reducible refine Kd.bJ ?_ _)|(with_reducible refine Kd.bK ?_ _)|(with_reducible refine Kd.bZ ?_)));(case dH=>exact (Kd.fK oz.out).2.1);rintro e w16 ⟨rfl,hb⟩;refine ⟨_,rfl,?_⟩;replace oz:=wh oz hb;replace jd:=bn jd hb;replace l9:=bn l9 hb;replace HB:=dz HB hb;(try clear hb);(try clear hb2);(try clear hk);(try clear hi);obtain ⟨tJ,tK,tL,tN⟩:=iQ jd.out;obtain ⟨Ep,Er,Es,Et⟩:=iQ l9.out)|((with_reducible refine aU (f:=138) rfl ?_);refine dn (some 19) rfl rfl Try.func138 aT rfl #[.agg #[Z ab ai,Z ab aj],.agg #[Z ab aQ,Z ab aN]] rfl jB ?_;(with_reducible refine (j4.calls ai aj aQ aN Q4 Q5 true _ A5.out).mono ?_);rintro e w19 ⟨rfl,hb⟩;refine ⟨_,rfl,?_⟩;replace oz:=wh oz hb;replace jd:=bn jd hb;replace l9:=bn l9 hb;replace HB:=dz HB hb;(try clear hb);(try clear hb2);(try clear hk);(try clear hi))|((with_reducible refine av (N:=7) rfl ?_);refine ak (by rfl) (N:=7) (by rfl) (cs:=#[Z ab 0,Z ab 0]) (t:=27) fU ?_;intro afa hg Jb ay hb;have afb:=af.mk (ay);have aBh:=bY HB hg;have aBi:=bY HB hg;have Gt:=fG jd hg;have Gu:=fH jd hg;have Gv:=fG l9 hg;have Gw:=fH l9 hg;replace oz:=af.mk (Kd.lZ (Kd.sw aB1 afa (Nat.le_of_eq hg.symm)) hb);replace jd:=bn jd hb;replace l9:=bn l9 hb;replace HB:=dz HB hb;clear hb ay hg;have adm:=Gu.out;have adn:=Gt.out;have adv:=Gw.out;have adw:=Gv.out;obtain ⟨Bg,Bh,Bi,Bj⟩:=iQ afb.out;obtain ⟨wP,wQ,wS,wT⟩:=iQ jd.out))
    go_ret2
    exact ⟨mJ,gp⟩
   ·rw [if_neg c7] at H
    have Oh:(Q4 == ai && (Q5 == aj)) = false:=by simpa using c7
    (try (have aYN:decide (Q4 = ai && (Q5 == aj)) = false:=by simpa using c7))
    (try (have aYO:(Q4 == ai && (Q5 == aj)) = false:=by simpa using c7))
    (try (have a6H:¬ (Q4 = ai && (Q5 == aj)):=by simpa using c7))
    clear c7
    simp only [Option.some.injEq,Prod.mk.injEq] at H
    obtain ⟨rfl,rfl⟩:=H
    go_enter Try.func128,Try.ntmps128
    go_wp2_with (first|((with_reducible refine av (N:=2) rfl ?_);refine ak (by rfl) (N:=2) (by rfl) (cs:=#[Z ab ai,Z ab aj]) (t:=27) fU ?_;intro WH hg w25 ay hb;have jd:=af.mk (ay);have aqj:=bY HB hg;have aqk:=bY HB hg;replace HB:=dz HB hb;clear hb ay hg)|((with_reducible refine av (N:=3) rfl ?_);refine ak (by rfl) (N:=3) (by rfl) (cs:=#[Z ab aQ,Z ab aN]) (t:=27) fU ?_;intro WI hg vG ay hb;have l9:=af.mk (ay);have aql:=bY HB hg;have aqm:=bY HB hg;have zo:=fG jd hg;have zq:=fH jd hg;replace jd:=bn jd hb;replace HB:=dz HB hb;clear hb ay hg;have apY:=zo.out;have apZ:=zq.out;obtain ⟨Lh,Li,Lj,Ll⟩:=iQ jd.out;obtain ⟨EF,EG,EH,EI⟩:=iQ l9.out)|((with_reducible refine av (N:=11) rfl ?_);refine Kd.z8 k27 _ 27 (by rfl) (N:=11) (by rfl) (xs:=([(⟨ai,aj⟩:jK),(⟨aQ,aN⟩:jK)]:List (jK))) (inner:=[Z ab ai,Z ab aj,Z ab aQ,Z ab aN]) (ok:=fun _=>True) (okp:=fun _=>True) fU asP (fun _ hk=>hk) trivial (Below.refl _ _) (Nat.le_refl _) (by simp) ?_;intro aDL w30 aqo hb Jn oC;clear Jn oC;(first|rw [← RN.out] at aqo|(simp only [Int.reduceToNat] at aqo;rw [← RN.out] at aqo));have oz:=af.mk (Kd.kv (Kd.uw (Kd.uw aqo (g:=WH) (o:=.cells #[Z ab ai,Z ab aj] 27 (0,0)) iK) (g:=WI) (o:=.cells #[Z ab aQ,Z ab aN] 27 (0,0)) iK) (fM gp));replace jd:=bn jd hb;replace l9:=bn l9 hb;replace HB:=dz HB hb;clear hb aqo;obtain ⟨aYS,aYT,aYU⟩:=Kd.lM oz.out;subst aYU)|((with_reducible refine aU (f:=116) rfl ?_);refine dn (some 12) rfl rfl Try.func116 aT rfl #[.slice aYS abO.length aYT] rfl jB ?_;(with_reducible refine (dM.calls k _ _ abO Gs _ ?dG ?dH A3.out).mono ?_);(case dG=>repeat (first|exact (Kd.fK oz.out).2.2|(with_reducible refine Kd.bJ ?_ _)|(with_reducible refine Kd.bK ?_ _)|(with_reducible refine Kd.bZ ?_)));(case dH=>exact (Kd.fK oz.out).2.1);rintro e Jd ⟨rfl,hb⟩;refine ⟨_,rfl,?_⟩;replace oz:=wh oz hb;replace jd:=bn jd hb;replace l9:=bn l9 hb;replace HB:=dz HB hb;(try clear hb);(try clear hb2);(try clear hk);(try clear hi);obtain ⟨EL,EM,EN,EO⟩:=iQ jd.out;obtain ⟨zH,zI,zJ,zK⟩:=iQ l9.out)|((with_reducible refine aU (f:=138) rfl ?_);refine dn (some 19) rfl rfl Try.func138 aT rfl #[.agg #[Z ab ai,Z ab aj],.agg #[Z ab aQ,Z ab aN]] rfl jB ?_;(with_reducible refine (j4.calls ai aj aQ aN Q4 Q5 true _ A5.out).mono ?_);rintro e w36 ⟨rfl,hb⟩;refine ⟨_,rfl,?_⟩;replace oz:=wh oz hb;replace jd:=bn jd hb;replace l9:=bn l9 hb;replace HB:=dz HB hb;(try clear hb);(try clear hb2);(try clear hk);(try clear hi))|((with_reducible refine av (N:=7) rfl ?_);refine ak (by rfl) (N:=7) (by rfl) (cs:=#[Z ab 0,Z ab 0]) (t:=27) fU ?_;intro afa hg w37 ay hb;have afb:=af.mk (ay);have aBh:=bY HB hg;have aBi:=bY HB hg;have Gt:=fG jd hg;have Gu:=fH jd hg;have Gv:=fG l9 hg;have Gw:=fH l9 hg;replace oz:=af.mk (Kd.lZ (Kd.sw aB1 afa (Nat.le_of_eq hg.symm)) hb);replace jd:=bn jd hb;replace l9:=bn l9 hb;replace HB:=dz HB hb;clear hb ay hg;have aAl:=Gu.out;have aAm:=Gt.out;have aFJ:=Gw.out;have aFK:=Gv.out;obtain ⟨aio,aip,aiq,air⟩:=iQ afb.out;obtain ⟨ajv,ajw,ajx,ajy⟩:=iQ jd.out))
    go_ret2
    exact ⟨mJ,gp⟩
  ·replace c6:=Bool.eq_false_iff.mpr c6
   subst c6
   have H1:(some (0,0)) = some (r1,r2):=by rw [if_neg (show ¬ (false = true) by decide)] at H;exact H
   clear H
   have H:=H1
   clear H1
   simp only [Option.some.injEq,Prod.mk.injEq] at H
   obtain ⟨rfl,rfl⟩:=H
   go_enter Try.func128,Try.ntmps128
   go_wp2_with (first|((with_reducible refine av (N:=2) rfl ?_);refine ak (by rfl) (N:=2) (by rfl) (cs:=#[Z ab ai,Z ab aj]) (t:=27) fU ?_;intro WH hg w42 ay hb;have jd:=af.mk (ay);have aqj:=bY HB hg;have aqk:=bY HB hg;replace HB:=dz HB hb;clear hb ay hg)|((with_reducible refine av (N:=3) rfl ?_);refine ak (by rfl) (N:=3) (by rfl) (cs:=#[Z ab aQ,Z ab aN]) (t:=27) fU ?_;intro WI hg w43 ay hb;have l9:=af.mk (ay);have aql:=bY HB hg;have aqm:=bY HB hg;have zo:=fG jd hg;have zq:=fH jd hg;replace jd:=bn jd hb;replace HB:=dz HB hb;clear hb ay hg;have a2Z:=zo.out;have a3a:=zq.out;obtain ⟨ax0,ax1,ax2,ax3⟩:=iQ jd.out;obtain ⟨ax4,ax5,ax6,ax7⟩:=iQ l9.out)|((with_reducible refine av (N:=11) rfl ?_);refine Kd.z8 k27 _ 27 (by rfl) (N:=11) (by rfl) (xs:=([(⟨ai,aj⟩:jK),(⟨aQ,aN⟩:jK)]:List (jK))) (inner:=[Z ab ai,Z ab aj,Z ab aQ,Z ab aN]) (ok:=fun _=>True) (okp:=fun _=>True) fU asP (fun _ hk=>hk) trivial (Below.refl _ _) (Nat.le_refl _) (by simp) ?_;intro aDL w47 aqp hb Jn oC;clear Jn oC;(first|rw [← RN.out] at aqp|(simp only [Int.reduceToNat] at aqp;rw [← RN.out] at aqp));have oz:=af.mk (Kd.kv (Kd.uw (Kd.uw aqp (g:=WH) (o:=.cells #[Z ab ai,Z ab aj] 27 (0,0)) iK) (g:=WI) (o:=.cells #[Z ab aQ,Z ab aN] 27 (0,0)) iK) (fM gp));replace jd:=bn jd hb;replace l9:=bn l9 hb;replace HB:=dz HB hb;clear hb aqp;obtain ⟨aYV,aYW,aYX⟩:=Kd.lM oz.out;subst aYX)|((with_reducible refine aU (f:=116) rfl ?_);refine dn (some 12) rfl rfl Try.func116 aT rfl #[.slice aYV abO.length aYW] rfl jB ?_;(with_reducible refine (dM.calls k _ _ abO Gs _ ?dG ?dH A3.out).mono ?_);(case dG=>repeat (first|exact (Kd.fK oz.out).2.2|(with_reducible refine Kd.bJ ?_ _)|(with_reducible refine Kd.bK ?_ _)|(with_reducible refine Kd.bZ ?_)));(case dH=>exact (Kd.fK oz.out).2.1);rintro e w50 ⟨rfl,hb⟩;refine ⟨_,rfl,?_⟩;replace oz:=wh oz hb;replace jd:=bn jd hb;replace l9:=bn l9 hb;replace HB:=dz HB hb;(try clear hb);(try clear hb2);(try clear hk);(try clear hi);obtain ⟨aus,aut,auu,auv⟩:=iQ jd.out;obtain ⟨aUY,aUZ,aU0,aU1⟩:=iQ l9.out)|((with_reducible refine aU (f:=138) rfl ?_);refine dn (some 19) rfl rfl Try.func138 aT rfl #[.agg #[Z ab ai,Z ab aj],.agg #[Z ab aQ,Z ab aN]] rfl jB ?_;(with_reducible refine (j4.calls ai aj aQ aN Q4 Q5 false _ A5.out).mono ?_);rintro e w53 ⟨rfl,hb⟩;refine ⟨_,rfl,?_⟩;replace oz:=wh oz hb;replace jd:=bn jd hb;replace l9:=bn l9 hb;replace HB:=dz HB hb;(try clear hb);(try clear hb2);(try clear hk);(try clear hi))|((with_reducible refine av (N:=7) rfl ?_);refine ak (by rfl) (N:=7) (by rfl) (cs:=#[Z ab 0,Z ab 0]) (t:=27) fU ?_;intro afa hg w54 ay hb;have afb:=af.mk (ay);have aBh:=bY HB hg;have aBi:=bY HB hg;have Gt:=fG jd hg;have Gu:=fH jd hg;have Gv:=fG l9 hg;have Gw:=fH l9 hg;replace oz:=af.mk (Kd.lZ (Kd.sw aB1 afa (Nat.le_of_eq hg.symm)) hb);replace jd:=bn jd hb;replace l9:=bn l9 hb;replace HB:=dz HB hb;clear hb ay hg;have aj4:=Gu.out;have aj5:=Gt.out;have aIJ:=Gw.out;have aIK:=Gv.out;obtain ⟨aU2,aU3,aU4,aU5⟩:=iQ afb.out))
   go_ret2
   exact ⟨mJ,gp⟩
 ·rw [if_neg c4] at H
  have rZ:(Gs == 0) = false:=beq_eq_false_iff_ne.mpr c4
  have apg:(Gs != 0) = true:=bne_iff_ne.mpr c4
  simp only [Option.some.injEq,Prod.mk.injEq] at H
  obtain ⟨rfl,rfl⟩:=H
  go_enter Try.func128,Try.ntmps128
  go_wp2_with (first|((with_reducible refine av (N:=2) rfl ?_);refine ak (by rfl) (N:=2) (by rfl) (cs:=#[Z ab ai,Z ab aj]) (t:=27) fU ?_;intro WH hg w58 ay hb;have jd:=af.mk (ay);have aqj:=bY HB hg;have aqk:=bY HB hg;replace HB:=dz HB hb;clear hb ay hg)|((with_reducible refine av (N:=3) rfl ?_);refine ak (by rfl) (N:=3) (by rfl) (cs:=#[Z ab aQ,Z ab aN]) (t:=27) fU ?_;intro WI hg w59 ay hb;have l9:=af.mk (ay);have aql:=bY HB hg;have aqm:=bY HB hg;have zo:=fG jd hg;have zq:=fH jd hg;replace jd:=bn jd hb;replace HB:=dz HB hb;clear hb ay hg;have aAw:=zo.out;have aAx:=zq.out;obtain ⟨au5,au6,au7,au8⟩:=iQ jd.out;obtain ⟨axS,axT,axU,axV⟩:=iQ l9.out)|((with_reducible refine av (N:=11) rfl ?_);refine Kd.z8 k27 _ 27 (by rfl) (N:=11) (by rfl) (xs:=([(⟨ai,aj⟩:jK),(⟨aQ,aN⟩:jK)]:List (jK))) (inner:=[Z ab ai,Z ab aj,Z ab aQ,Z ab aN]) (ok:=fun _=>True) (okp:=fun _=>True) fU asP (fun _ hk=>hk) trivial (Below.refl _ _) (Nat.le_refl _) (by simp) ?_;intro aDL w63 aqr hb Jn oC;clear Jn oC;(first|rw [← RN.out] at aqr|(simp only [Int.reduceToNat] at aqr;rw [← RN.out] at aqr));have oz:=af.mk (Kd.kv (Kd.uw (Kd.uw aqr (g:=WH) (o:=.cells #[Z ab ai,Z ab aj] 27 (0,0)) iK) (g:=WI) (o:=.cells #[Z ab aQ,Z ab aN] 27 (0,0)) iK) (fM gp));replace jd:=bn jd hb;replace l9:=bn l9 hb;replace HB:=dz HB hb;clear hb aqr;obtain ⟨aYY,aYZ,aY0⟩:=Kd.lM oz.out;subst aY0)|((with_reducible refine aU (f:=116) rfl ?_);refine dn (some 12) rfl rfl Try.func116 aT rfl #[.slice aYY abO.length aYZ] rfl jB ?_;(with_reducible refine (dM.calls k _ _ abO Gs _ ?dG ?dH A3.out).mono ?_);(case dG=>repeat (first|exact (Kd.fK oz.out).2.2|(with_reducible refine Kd.bJ ?_ _)|(with_reducible refine Kd.bK ?_ _)|(with_reducible refine Kd.bZ ?_)));(case dH=>exact (Kd.fK oz.out).2.1);rintro e w66 ⟨rfl,hb⟩;refine ⟨_,rfl,?_⟩;replace oz:=wh oz hb;replace jd:=bn jd hb;replace l9:=bn l9 hb;replace HB:=dz HB hb;(try clear hb);(try clear hb2);(try clear hk);(try clear hi)))
  go_ret2
  exact ⟨mJ,gp⟩
end Go.Proofs.Ytmhaiihjfgfaoaa.Pr
end
section
namespace Go.Proofs.Ytmhaiihjfgfaoaa.Gl
open Go.RowKit Go.Shelf Go.Proofs.YtmhaiihjfgfaoaaW.bu Go.Proofs.YtmhaiihjfgfaoaaW.dB Go.Proofs.YtmhaiihjfgfaoaaW.ek Go.Proofs.Ytmhaiihjfgfaoaa.Pr Go.Proofs.YtmhaiihjfgfaoaaW.Round
attribute [local go_sem] iq iw jq jr iy
def inI (a b:jK):Int:=if (NV a.f0 a.f1 && NV b.f0 b.f1) = true then (if max a.f0 b.f0≤min a.f1 b.f1 then (if b.f0≤a.f0∧a.f1≤b.f1 then 2 else 1) else 0) else 0
def inE (a b:jK):Int:=if (NV a.f0 a.f1 && NV b.f0 b.f1) = true then 0 else 2
theorem ayA (a b:jK):JV.f 3 a.f0 a.f1 b.f0 b.f1 = some (inI a b,inE a b):=by
 unfold JV.f inI inE
 rw [Yn 0,aE]
 cases h:(NV a.f0 a.f1 && NV b.f0 b.f1) with
 |false=>rfl
 |true =>
  rw [if_pos rfl,if_pos rfl,if_pos rfl]
  unfold j4.f
  rw [aE]
  dsimp only
  have e1:mx a.f0 b.f0 = max a.f0 b.f0:=Ez _ _
  have e2:mn a.f1 b.f1 = min a.f1 b.f1:=NY _ _
  rw [e1,e2]
  by_cases h1:max a.f0 b.f0≤min a.f1 b.f1
  ·rw [if_pos h1,if_pos (decide_eq_true h1)]
   by_cases h2:b.f0≤a.f0∧a.f1≤b.f1
   ·rw [if_pos h2,if_pos]
    rw [Bool.and_eq_true,beq_iff_eq,beq_iff_eq]
    omega
   ·rw [if_neg h2,if_neg]
    rw [Bool.and_eq_true,beq_iff_eq,beq_iff_eq]
    omega
  ·rw [if_neg h1,if_neg (by rw [decide_eq_false h1];decide)]
theorem ayB (a b:jK):0≤inI a b∧inI a b≤2:=by
 unfold inI
 split
 ·split
  ·split <;> decide
  ·decide
 ·decide
theorem akS (a b:jK) (w:ao):Calls Try.prog 127 #[.func (.func 128) #[] #[],.agg #[Z ab a.f0,Z ab a.f1],.agg #[Z ab b.f0,Z ab b.f1]] w (yw (Z ab (inI a b)) w):=by
 have oO:=Try.underlying27
 have eg:∀ args w,(callFunc 128 args).run Try.prog w = .ok (.enter 128 args) w:=enters_of Try.func128 aT rfl
 have hcon:=fun W=>JV.calls 3 a.f0 a.f1 b.f0 b.f1 _ _ W (ayA a b)
 generalize inI a b = r at*
 generalize inE a b = r2 at*
 go_enter Try.func127,Try.ntmps127
 go_wp2_with fail
 have m4:dW ((w.alloc (.cells #[Z ab a.f0,Z ab a.f1] 27)).alloc (.cells #[Z ab b.f0,Z ab b.f1] 27)) (w.heap.size) #[Z ab a.f0,Z ab a.f1] 27:=(aa aFa _)
 have m5:dW ((w.alloc (.cells #[Z ab a.f0,Z ab a.f1] 27)).alloc (.cells #[Z ab b.f0,Z ab b.f1] 27)) (w.heap.size+1) #[Z ab b.f0,Z ab b.f1] 27:=(by have h_:=eB (w.alloc (.cells #[Z ab a.f0,Z ab a.f1] 27)) (.cells #[Z ab b.f0,Z ab b.f1] 27);first|exact h_|(simp only [World.size_alloc] at h_;exact h_))
 have mB:Below w.heap.size w ((w.alloc (.cells #[Z ab a.f0,Z ab a.f1] 27)).alloc (.cells #[Z ab b.f0,Z ab b.f1] 27)):=(aH (aH (Below.refl w.heap.size w) _) _)
 have kZ:w.heap.size≤w.heap.size:=Nat.le_refl _
 generalize qQ:((w.alloc (.cells #[Z ab a.f0,Z ab a.f1] 27)).alloc (.cells #[Z ab b.f0,Z ab b.f1] 27)) = W1 at m4 m5 mB ⊢
 clear qQ
 generalize hg4:w.heap.size = g4 at m4 m5 ⊢
 have hG4:w.heap.size≤g4:=by omega
 generalize hg5:g4+1 = g5 at m5 ⊢
 have VZ:g4≠g5:=by omega
 have apl:g5≠g4:=VZ.symm
 have hG5:w.heap.size≤g5:=by omega
 clear kZ
 try clear hg5
 try clear hg4
 have sD:w.heap.size≤W1.heap.size:=mB.size
 obtain ⟨atQ,atS⟩:=Ch m4
 obtain ⟨R4,VE⟩:=Ch m5
 go_wp2_with fail
 clear atQ atS R4 VE
 have hc1:=hcon W1
 (with_reducible refine hc1.mono ?_)
 clear hc1 hcon
 rintro e W2 ⟨rfl,hb⟩
 replace m4:=ah m4 hb
 replace m5:=ah m5 hb
 replace mB:=bI mB hb
 clear hb
 go_wp2
 go_ret
 exact ⟨rfl,mB⟩
def M5 (x y:iA):Int:=min (inI x.f0 y.f0) (inI x.f1 y.f1)
theorem WJ (x y:iA) (w:ao):Calls Try.prog 89 #[.agg #[Z ab x.f0.f0,Z ab x.f0.f1,Z ab x.f1.f0,Z ab x.f1.f1],.agg #[Z ab y.f0.f0,Z ab y.f0.f1,Z ab y.f1.f0,Z ab y.f1.f1]] w (yw (Z ab (M5 x y)) w):=by
 have qj:=Try.underlying31
 have oO:=Try.underlying27
 have k0:=fun W=>akS x.f0 y.f0 W
 have k1:=fun W=>akS x.f1 y.f1 W
 have HR:Hid (M5 x y = min (inI x.f0 y.f0) (inI x.f1 y.f1)):=Lib.hid rfl
 generalize inI x.f0 y.f0 = r0 at*
 generalize inI x.f1 y.f1 = r1 at*
 go_enter Try.func89,Try.ntmps89
 go_wp2_with fail
 have m2:dW ((w.alloc (.cells #[Z ab x.f0.f0,Z ab x.f0.f1,Z ab x.f1.f0,Z ab x.f1.f1] 31)).alloc (.cells #[Z ab y.f0.f0,Z ab y.f0.f1,Z ab y.f1.f0,Z ab y.f1.f1] 31)) (w.heap.size) #[Z ab x.f0.f0,Z ab x.f0.f1,Z ab x.f1.f0,Z ab x.f1.f1] 31:=(aa aoe _)
 have m3:dW ((w.alloc (.cells #[Z ab x.f0.f0,Z ab x.f0.f1,Z ab x.f1.f0,Z ab x.f1.f1] 31)).alloc (.cells #[Z ab y.f0.f0,Z ab y.f0.f1,Z ab y.f1.f0,Z ab y.f1.f1] 31)) (w.heap.size+1) #[Z ab y.f0.f0,Z ab y.f0.f1,Z ab y.f1.f0,Z ab y.f1.f1] 31:=(by have h_:=eB (w.alloc (.cells #[Z ab x.f0.f0,Z ab x.f0.f1,Z ab x.f1.f0,Z ab x.f1.f1] 31)) (.cells #[Z ab y.f0.f0,Z ab y.f0.f1,Z ab y.f1.f0,Z ab y.f1.f1] 31);first|exact h_|(simp only [World.size_alloc] at h_;exact h_))
 have mB:Below w.heap.size w ((w.alloc (.cells #[Z ab x.f0.f0,Z ab x.f0.f1,Z ab x.f1.f0,Z ab x.f1.f1] 31)).alloc (.cells #[Z ab y.f0.f0,Z ab y.f0.f1,Z ab y.f1.f0,Z ab y.f1.f1] 31)):=(aH (aH (Below.refl w.heap.size w) _) _)
 have kZ:w.heap.size≤w.heap.size:=Nat.le_refl _
 generalize qQ:((w.alloc (.cells #[Z ab x.f0.f0,Z ab x.f0.f1,Z ab x.f1.f0,Z ab x.f1.f1] 31)).alloc (.cells #[Z ab y.f0.f0,Z ab y.f0.f1,Z ab y.f1.f0,Z ab y.f1.f1] 31)) = W1 at m2 m3 mB ⊢
 clear qQ
 generalize hg2:w.heap.size = g2 at m2 m3 ⊢
 have hG2:w.heap.size≤g2:=by omega
 generalize hg3:g2+1 = g3 at m3 ⊢
 have MQ:g2≠g3:=by omega
 have agB:g3≠g2:=MQ.symm
 have hG3:w.heap.size≤g3:=by omega
 clear kZ
 try clear hg3
 try clear hg2
 have sD:w.heap.size≤W1.heap.size:=mB.size
 replace m2:=ag m2
 replace m3:=ag m3
 replace mB:=bF mB
 refine jV (n:=12) (S:=fun w'=>w'.cell? ⟨g2,0,none⟩ = some (Z ab x.f0.f0)∧w'.cell? ⟨g2,1,none⟩ = some (Z ab x.f0.f1)∧w'.cell? ⟨g2,2,none⟩ = some (Z ab x.f1.f0)∧w'.cell? ⟨g2,3,none⟩ = some (Z ab x.f1.f1)∧w'.cell? ⟨g3,0,none⟩ = some (Z ab y.f0.f0)∧w'.cell? ⟨g3,1,none⟩ = some (Z ab y.f0.f1)∧w'.cell? ⟨g3,2,none⟩ = some (Z ab y.f1.f0)∧w'.cell? ⟨g3,3,none⟩ = some (Z ab y.f1.f1)) (ds:=[]) #[al,al,al,al,al,al,al,al,al,al,al,al] aT rfl rfl ⟨((ae m2 0).trans rfl),((ae m2 1).trans rfl),((ae m2 2).trans rfl),((ae m2 3).trans rfl),((ae m3 0).trans rfl),((ae m3 1).trans rfl),((ae m3 2).trans rfl),((ae m3 3).trans rfl)⟩ (fun hHeld=>?_)
 generalize hWd:World.drew _ = Wx at m2 m3 mB hHeld ⊢
 clear hWd
 refine dR (i:=0) (N:=some 5) aT ?_
 refine dR (i:=2) (N:=some 7) aT ?_
 refine dR (i:=5) (N:=some 10) aT ?_
 refine dR (i:=7) (N:=some 12) aT ?_
 refine iT (i:=1) (N:=some 6) aT hHeld ?_
 refine iT (i:=3) (N:=some 8) aT hHeld ?_
 refine iT (i:=6) (N:=some 11) aT hHeld ?_
 refine iT (i:=8) (N:=some 13) aT hHeld ?_
 refine iW (i:=4) (N:=some 9) #[ac,ac,ac,ac,ac,ac,ac,ac,ac,al,al,al] rfl rfl aT (by decide) (fun K hK=>?_)
 have jL:=k0 Wx
 refine gY Try.func127 aT rfl #[.func (.func 128) #[] #[],.agg #[Z ab x.f0.f0,Z ab x.f0.f1],.agg #[Z ab y.f0.f0,Z ab y.f0.f1]] (by rfl) rfl rfl Ju ?_
 with_reducible refine (jL).mono ?_
 rintro e w4 ⟨rfl,hb⟩
 refine ⟨_,rfl,?_⟩
 clear jL
 replace m2:=ah m2 hb
 replace m3:=ah m3 hb
 replace mB:=bI mB hb
 clear hb
 refine hK.out _ _ ⟨((ae m2 0).trans rfl),((ae m2 1).trans rfl),((ae m2 2).trans rfl),((ae m2 3).trans rfl),((ae m3 0).trans rfl),((ae m3 1).trans rfl),((ae m3 2).trans rfl),((ae m3 3).trans rfl)⟩ (fun hHeld=>?_)
 clear hK K
 refine dQ aFb ?_
 refine iW (i:=9) (N:=some 14) #[ac,ac,ac,ac,ac,ac,ac,ac,ac,ac,al,al] rfl rfl aT (by decide) (fun K hK=>?_)
 have jL:=k1 w4
 refine gY Try.func127 aT rfl #[.func (.func 128) #[] #[],.agg #[Z ab x.f1.f0,Z ab x.f1.f1],.agg #[Z ab y.f1.f0,Z ab y.f1.f1]] (by rfl) rfl rfl Ju ?_
 with_reducible refine (jL).mono ?_
 rintro e w9 ⟨rfl,hb⟩
 refine ⟨_,rfl,?_⟩
 clear jL
 replace m2:=ah m2 hb
 replace m3:=ah m3 hb
 replace mB:=bI mB hb
 clear hb
 refine hK.out _ _ ⟨((ae m2 0).trans rfl),((ae m2 1).trans rfl),((ae m2 2).trans rfl),((ae m2 3).trans rfl),((ae m3 0).trans rfl),((ae m3 1).trans rfl),((ae m3 2).trans rfl),((ae m3 3).trans rfl)⟩ (fun hHeld=>?_)
 clear hK K
 refine dQ aoi ?_
 refine dR (i:=10) (N:=some 15) aT ?_
 refine dR (i:=11) (N:=some 4) aT ?_
 refine mi aT ?_
 go_wp2
 all_goals (go_ret;first|(have hm:M5 x y = r0:=(by rw [HR.out];omega);exact ⟨by rw [hm];rfl,mB⟩)|(have hm:M5 x y = r1:=(by rw [HR.out];omega);exact ⟨by rw [hm];rfl,mB⟩))
end Go.Proofs.Ytmhaiihjfgfaoaa.Gl
end
section
namespace Go.Proofs.Ytmhaiihjfgfaoaa.Pr
open Go.RowKit Go.Proofs.YtmhaiihjfgfaoaaW.bu Go.Proofs.YtmhaiihjfgfaoaaW.dB Go.Proofs.YtmhaiihjfgfaoaaW.ek
attribute [local go_sem] iq iw jq jr iy
def nR.f (k:Nat) (ai:Int) (aj:Int) (az:Int) (aA:Int) (aI:Int) (aD:Int):Option (Bool):=(eO.f k ai aj az aA).bind fun Ph=>(if Ph = 0 then (if aI ≥ 0 then (if aI≤aD then (some (decide (aD≤1073741824))) else (some false)) else (some false)) else (some false))
theorem nR.calls (k:Nat) (ai:Int) (aj:Int) (az:Int) (aA:Int) (aI:Int) (aD:Int) (r:Bool) (w:ao) (h:nR.f k ai aj az aA aI aD = some r):
 Calls Try.prog 93 #[.agg #[Z ab ai,Z ab aj,Z ab az,Z ab aA,Z ab aI,Z ab aD]] w fun e w'=>e = .returned (.bool r)∧Below w.heap.size w w':=by
 have XP:=Try.underlying81
 have qj:=Try.underlying31
 have HB:=af.mk (Below.refl w.heap.size w)
 have H:((eO.f k ai aj az aA).bind fun Ph=>(if Ph = 0 then (if aI ≥ 0 then (if aI≤aD then (some (decide (aD≤1073741824))) else (some false)) else (some false)) else (some false))) = some r:=h
 clear h
 replace H:=Option.bind_eq_some_iff.mp H
 obtain ⟨Ph,Yg,H⟩:=H
 replace H:(if Ph = 0 then (if aI ≥ 0 then (if aI≤aD then (some (decide (aD≤1073741824))) else (some false)) else (some false)) else (some false)) = some r:=H
 have A2:=af.mk Yg
 clear Yg
 by_cases c3:Ph = 0
 ·rw [if_pos c3] at H
  have yo:(Ph == 0) = true:=beq_iff_eq.mpr c3
  have JD:(Ph != 0) = false:=bne_eq_false_iff_eq.mpr c3
  clear c3
  by_cases c4:aI ≥ 0
  ·rw [if_pos c4] at H
   have rZ:decide (0≤aI) = true:=decide_eq_true c4
   clear c4
   by_cases c5:aI≤aD
   ·rw [if_pos c5] at H
    have yt:decide (aI≤aD) = true:=decide_eq_true c5
    clear c5
    obtain rfl:=bh H
    go_enter Try.func93,Try.ntmps93
    go_wp2_with (first|((with_reducible refine av (N:=1) rfl ?_);refine ak (by rfl) (N:=1) (by rfl) (cs:=#[Z ab ai,Z ab aj,Z ab az,Z ab aA,Z ab aI,Z ab aD]) (t:=81) fU ?_;intro aqs hg w6 ay hb;have yg:=af.mk (ay);have aqt:=bY HB hg;have aqu:=bY HB hg;replace HB:=dz HB hb;clear hb ay hg;obtain ⟨wD,wE,Cu,Cv,Fe,Ff,wF,wG,Cw,Cx,Fg,Fh⟩:=Aa yg.out)|((with_reducible refine aU (f:=67) rfl ?_);refine dn (some 5) rfl rfl Try.func67 aT rfl #[.agg #[Z ab ai,Z ab aj,Z ab az,Z ab aA]] rfl jB ?_;(with_reducible refine (eO.calls k ai aj az aA Ph _ A2.out).mono ?_);rintro e w8 ⟨rfl,hb⟩;refine ⟨_,rfl,?_⟩;replace yg:=bn yg hb;replace HB:=dz HB hb;(try clear hb);(try clear hb2);(try clear hk);(try clear hi);obtain ⟨yB,yC,Ic,Ie,Qt,Qu,yD,yE,Ig,Ih,Qv,Qw⟩:=Aa yg.out))
    go_ret
    exact ⟨mJ,gp⟩
   ·rw [if_neg c5] at H
    have yt:decide (aI≤aD) = false:=decide_eq_false c5
    clear c5
    obtain rfl:=bh H
    go_enter Try.func93,Try.ntmps93
    go_wp2_with (first|((with_reducible refine av (N:=1) rfl ?_);refine ak (by rfl) (N:=1) (by rfl) (cs:=#[Z ab ai,Z ab aj,Z ab az,Z ab aA,Z ab aI,Z ab aD]) (t:=81) fU ?_;intro aqs hg w10 ay hb;have yg:=af.mk (ay);have aqt:=bY HB hg;have aqu:=bY HB hg;replace HB:=dz HB hb;clear hb ay hg;obtain ⟨uf,ug,wV,wW,BI,BJ,uh,ui,wX,wY,BK,BL⟩:=Aa yg.out)|((with_reducible refine aU (f:=67) rfl ?_);refine dn (some 5) rfl rfl Try.func67 aT rfl #[.agg #[Z ab ai,Z ab aj,Z ab az,Z ab aA]] rfl jB ?_;(with_reducible refine (eO.calls k ai aj az aA Ph _ A2.out).mono ?_);rintro e Ja ⟨rfl,hb⟩;refine ⟨_,rfl,?_⟩;replace yg:=bn yg hb;replace HB:=dz HB hb;(try clear hb);(try clear hb2);(try clear hk);(try clear hi);obtain ⟨sV,sW,zw,zx,GL,GM,sZ,tq,zy,zz,GN,GQ⟩:=Aa yg.out))
    go_ret
    exact ⟨mJ,gp⟩
  ·rw [if_neg c4] at H
   have rZ:decide (0≤aI) = false:=decide_eq_false c4
   clear c4
   obtain rfl:=bh H
   go_enter Try.func93,Try.ntmps93
   go_wp2_with (first|((with_reducible refine av (N:=1) rfl ?_);refine ak (by rfl) (N:=1) (by rfl) (cs:=#[Z ab ai,Z ab aj,Z ab az,Z ab aA,Z ab aI,Z ab aD]) (t:=81) fU ?_;intro aqs hg w14 ay hb;have yg:=af.mk (ay);have aqt:=bY HB hg;have aqu:=bY HB hg;replace HB:=dz HB hb;clear hb ay hg;obtain ⟨oG,oH,rH,rJ,tu,tC,oI,oJ,rM,rO,tF,tH⟩:=Aa yg.out)|((with_reducible refine aU (f:=67) rfl ?_);refine dn (some 5) rfl rfl Try.func67 aT rfl #[.agg #[Z ab ai,Z ab aj,Z ab az,Z ab aA]] rfl jB ?_;(with_reducible refine (eO.calls k ai aj az aA Ph _ A2.out).mono ?_);rintro e w16 ⟨rfl,hb⟩;refine ⟨_,rfl,?_⟩;replace yg:=bn yg hb;replace HB:=dz HB hb;(try clear hb);(try clear hb2);(try clear hk);(try clear hi);obtain ⟨tJ,tK,wH,wI,DD,DF,tL,tN,wJ,wK,DI,DJ⟩:=Aa yg.out))
   go_ret
   exact ⟨mJ,gp⟩
 ·rw [if_neg c3] at H
  have yo:(Ph == 0) = false:=beq_eq_false_iff_ne.mpr c3
  have JD:(Ph != 0) = true:=bne_iff_ne.mpr c3
  obtain rfl:=bh H
  go_enter Try.func93,Try.ntmps93
  go_wp2_with (first|((with_reducible refine av (N:=1) rfl ?_);refine ak (by rfl) (N:=1) (by rfl) (cs:=#[Z ab ai,Z ab aj,Z ab az,Z ab aA,Z ab aI,Z ab aD]) (t:=81) fU ?_;intro aqs hg w18 ay hb;have yg:=af.mk (ay);have aqt:=bY HB hg;have aqu:=bY HB hg;replace HB:=dz HB hb;clear hb ay hg;obtain ⟨uR,uS,wL,wM,Bc,Bd,uT,uU,wN,wO,Be,Bf⟩:=Aa yg.out)|((with_reducible refine aU (f:=67) rfl ?_);refine dn (some 5) rfl rfl Try.func67 aT rfl #[.agg #[Z ab ai,Z ab aj,Z ab az,Z ab aA]] rfl jB ?_;(with_reducible refine (eO.calls k ai aj az aA Ph _ A2.out).mono ?_);rintro e Jb ⟨rfl,hb⟩;refine ⟨_,rfl,?_⟩;replace yg:=bn yg hb;replace HB:=dz HB hb;(try clear hb);(try clear hb2);(try clear hk);(try clear hi)))
  go_ret
  exact ⟨mJ,gp⟩
end Go.Proofs.Ytmhaiihjfgfaoaa.Pr
end
section
namespace Go.Proofs.Ytmhaiihjfgfaoaa.Pr
open Go.RowKit Go.Proofs.YtmhaiihjfgfaoaaW.bu Go.Proofs.YtmhaiihjfgfaoaaW.dB Go.Proofs.YtmhaiihjfgfaoaaW.ek Go.Proofs.Ytmhaiihjfgfaoaa.Gl
def pX.f (ai:Int) (aj:Int) (az:Int) (aA:Int) (aQ:Int) (aN:Int) (bC:Int) (bD:Int):Option (Int):=some (M5 ⟨⟨ai,aj⟩,⟨az,aA⟩⟩ ⟨⟨aQ,aN⟩,⟨bC,bD⟩⟩)
theorem pX.calls (ai:Int) (aj:Int) (az:Int) (aA:Int) (aQ:Int) (aN:Int) (bC:Int) (bD:Int) (r:Int) (w:ao) (h:pX.f ai aj az aA aQ aN bC bD = some r):
 Calls Try.prog 89 #[.agg #[Z ab ai,Z ab aj,Z ab az,Z ab aA],.agg #[Z ab aQ,Z ab aN,Z ab bC,Z ab bD]] w fun e w'=>e = .returned (Z ab r)∧Below w.heap.size w w':=by
 cases h
 exact WJ ⟨⟨ai,aj⟩,⟨az,aA⟩⟩ ⟨⟨aQ,aN⟩,⟨bC,bD⟩⟩ w
end Go.Proofs.Ytmhaiihjfgfaoaa.Pr
end
section
namespace Go.Proofs.Ytmhaiihjfgfaoaa.Pr
open Go.RowKit Go.Proofs.YtmhaiihjfgfaoaaW.bu Go.Proofs.YtmhaiihjfgfaoaaW.dB Go.Proofs.YtmhaiihjfgfaoaaW.ek
attribute [local go_sem] iq iw jq jr iy
def gq.l0:Nat→Int→Int→List (iA)→Int→Int→Int→Int→Int→Int→Int→Int→Int→Int→Int→Int→Int→Int→Int→Option (Int)
 |0,_,_,_,_,_,_,_,_,_,_,_,_,_,_,_,_,_,_=>none
 |k+1,x1,x9,Qq,L6,L8,akT,Pj,akU,akV,akW,akX,akY,abP,abQ,abR,abS,abT,abU=>if L8 < L6 then (if 0≤L8 then (if L8 < (Qq.length:Int) then ((cz.f (an (x1+Pj)) abT abU).bind fun ayC=>(if ayC = true then ((pX.f ((gM Qq L8).f0.f0) ((gM Qq L8).f0.f1) ((gM Qq L8).f1.f0) ((gM Qq L8).f1.f1) abP abQ abR abS).bind fun WK=>(gq.l0 k (an (x1+Pj)) (mx x9 WK) Qq L6 (an (L8+1)) akT Pj akU akV akW akX akY abP abQ abR abS abT abU)) else (gq.l0 k (an (x1+Pj)) x9 Qq L6 (an (L8+1)) akT Pj akU akV akW akX akY abP abQ abR abS abT abU))) else (none)) else (none)) else (some x9)
def gq.f (k:Nat) (ai:Int) (aj:Int) (az:Int) (aA:Int) (aI:Int) (aD:Int) (aJ:Int) (a1:Int) (l2:List (iA)) (uG:Int) (uH:Int) (uI:Int) (uJ:Int) (uA:Int) (uB:Int):Option (Int):=gq.l0 k a1 0 l2 (l2.length:Int) 0 ai aj az aA aI aD aJ uG uH uI uJ uA uB
theorem gq.calls (k:Nat) (ai:Int) (aj:Int) (az:Int) (aA:Int) (aI:Int) (aD:Int) (aJ:Int) (a1:Int) (A2:Option Addr) (c2:Nat) (l2:List (iA)) (uG:Int) (uH:Int) (uI:Int) (uJ:Int) (uA:Int) (uB:Int) (r:Int) (w:ao) (hr2:Kd.C k31 w A2 l2.length l2) (hc2:l2.length≤c2) (h:gq.f k ai aj az aA aI aD aJ a1 l2 uG uH uI uJ uA uB = some r):
 Calls Try.prog 94 #[.agg #[Z ab ai,Z ab aj,Z ab az,Z ab aA,Z ab aI,Z ab aD,Z ab aJ],Z ab a1,.slice A2 l2.length c2,.agg #[Z ab uG,Z ab uH,Z ab uI,Z ab uJ,Z ab uA,Z ab uB]] w fun e w'=>e = .returned (Z ab r)∧Below w.heap.size w w':=by
 have vo:=Try.underlying29
 have XP:=Try.underlying81
 have qj:=Try.underlying31
 have HR2:=af.mk hr2
 have HC2:=af.mk hc2
 clear hr2 hc2
 have HB:=af.mk (Below.refl w.heap.size w)
 have H:(gq.l0 k a1 0 l2 (l2.length:Int) 0 ai aj az aA aI aD aJ uG uH uI uJ uA uB) = some r:=h
 clear h
 have H':=af.mk H
 clear H
 go_enter Try.func94,Try.ntmps94
 go_wp2_with (first|((with_reducible refine av (N:=4) rfl ?_);refine ak (by rfl) (N:=4) (by rfl) (cs:=#[Z ab ai,Z ab aj,Z ab az,Z ab aA,Z ab aI,Z ab aD,Z ab aJ]) (t:=29) fU ?_;intro aLL hg w5 ay hb;have yh:=af.mk (ay);have a3b:=bY HB hg;have a3c:=bY HB hg;replace HB:=dz HB hb;clear hb ay hg)|((with_reducible refine av (N:=7) rfl ?_);refine ak (by rfl) (N:=7) (by rfl) (cs:=#[Z ab uG,Z ab uH,Z ab uI,Z ab uJ,Z ab uA,Z ab uB]) (t:=81) fU ?_;intro aLM hg w6 ay hb;have EX:=af.mk (ay);have a3d:=bY HB hg;have a3e:=bY HB hg;have YQ:=fG yh hg;have YR:=fH yh hg;replace yh:=bn yh hb;replace HB:=dz HB hb;clear hb ay hg))
 go_loopg [1,9,14] k (fun kq v1 v9 v14 w'=>∃ (M6:Int) (sK:Int) (dZ:Int),v1 = Z ab M6∧v9 = Z ab sK∧v14 = Z ab dZ∧af (gq.l0 kq M6 sK l2 (l2.length:Int) dZ ai aj az aA aI aD aJ uG uH uI uJ uA uB = some r)∧af (kq≤k)∧af (w'.heap[aLL]? = some (.cells #[Z ab ai,Z ab aj,Z ab az,Z ab aA,Z ab aI,Z ab aD,Z ab aJ] 29 (0,0)))∧af (w'.heap[aLM]? = some (.cells #[Z ab uG,Z ab uH,Z ab uI,Z ab uJ,Z ab uA,Z ab uB] 81 (0,0)))∧af (Below w.heap.size w w'))
 case atStart=>exact ⟨(a1),(0),(0),om,om,om,H',⟨Nat.le_refl _⟩,⟨iK⟩,⟨iK⟩,⟨gp⟩⟩
 case round =>
  clear H'
  try clear c2
  try clear p2
  obtain ⟨M6,sK,dZ,rfl,rfl,rfl,HA,Cj,yh,EX,HB⟩:=hrel
  cases gk with
  |zero=>exact absurd HA.out (by simp [gq.l0])
  |succ k1 =>
   have H:=HA.out
   clear HA
   simp only [gq.l0] at H
   by_cases c7:dZ < (l2.length:Int)
   ·rw [if_pos c7] at H
    have Oh:decide (dZ < (l2.length:Int)) = true:=decide_eq_true c7
    clear c7
    by_cases c8:0≤dZ
    ·rw [if_pos c8] at H
     have GJ:decide (0≤dZ) = true:=decide_eq_true c8
     clear c8
     by_cases c9:dZ < (l2.length:Int)
     ·rw [if_pos c9] at H
      have JM:decide (dZ < (l2.length:Int)) = true:=decide_eq_true c9
      clear c9
      replace H:=Option.bind_eq_some_iff.mp H
      obtain ⟨ayC,Fu,H⟩:=H
      replace H:(if ayC = true then ((pX.f ((gM l2 dZ).f0.f0) ((gM l2 dZ).f0.f1) ((gM l2 dZ).f1.f0) ((gM l2 dZ).f1.f1) uG uH uI uJ).bind fun WK=>(gq.l0 k1 (an (M6+aj)) (mx sK WK) l2 (l2.length:Int) (an (dZ+1)) ai aj az aA aI aD aJ uG uH uI uJ uA uB)) else (gq.l0 k1 (an (M6+aj)) sK l2 (l2.length:Int) (an (dZ+1)) ai aj az aA aI aD aJ uG uH uI uJ uA uB)) = some r:=H
      have Rs:=af.mk Fu
      clear Fu
      by_cases c11:ayC = true
      ·subst c11
       have H1:((pX.f ((gM l2 dZ).f0.f0) ((gM l2 dZ).f0.f1) ((gM l2 dZ).f1.f0) ((gM l2 dZ).f1.f1) uG uH uI uJ).bind fun WK=>(gq.l0 k1 (an (M6+aj)) (mx sK WK) l2 (l2.length:Int) (an (dZ+1)) ai aj az aA aI aD aJ uG uH uI uJ uA uB)) = some r:=by rw [if_pos rfl] at H;exact H
       clear H
       have H:=H1
       clear H1
       replace H:=Option.bind_eq_some_iff.mp H
       obtain ⟨WK,OG,H⟩:=H
       replace H:(gq.l0 k1 (an (M6+aj)) (mx sK WK) l2 (l2.length:Int) (an (dZ+1)) ai aj az aA aI aD aJ uG uH uI uJ uA uB) = some r:=H
       have A12:=af.mk OG
       clear OG
       obtain ⟨aDM,YS⟩:∃ j_:Int,(mx sK WK) = j_:=⟨_,rfl⟩
       replace H:(gq.l0 k1 (an (M6+aj)) aDM l2 (l2.length:Int) (an (dZ+1)) ai aj az aA aI aD aJ uG uH uI uJ uA uB) = some r:=by first|(rw [YS] at H;exact H)|(simp only [YS] at H ⊢;exact H)
       (try rw [YS] at Rs)
       (try rw [YS] at A12)
       have aY1:(if sK < WK then WK else sK) = aDM:=YS
       have H':=af.mk H
       clear H
       have aho:0≤(dZ:Int):=of_decide_eq_true nM
       have ahp:dZ < (l2.length:Int):=of_decide_eq_true nM
       obtain ⟨aLN,aDN,IB,IC,IE,IG⟩:=agk HR2.out dZ aho ahp
       cases aDN
       replace IB:=(HB.out.cell (bd w _ IB)).trans IB
       replace IC:=(HB.out.cell (bd w _ IC)).trans IC
       replace IE:=(HB.out.cell (bd w _ IE)).trans IE
       replace IG:=(HB.out.cell (bd w _ IG)).trans IG
       replace aho:=eq_true aho
       replace ahp:=eq_true ahp
       go_wp2_with (first|((with_reducible refine av (N:=11) rfl ?_);refine ak (by rfl) (N:=11) (by rfl) (cs:=#[Z ab 0,Z ab 0,Z ab 0,Z ab 0]) (t:=31) fU ?_;intro aBj hg w14 ay hb;have YT:=af.mk (ay);have aLO:=bY HB hg;have aLP:=bY HB hg;have Q6:=fG yh hg;have Q7:=fH yh hg;have Q8:=fG EX hg;have Q9:=fH EX hg;replace yh:=bn yh hb;replace EX:=bn EX hb;replace HB:=dz HB hb;clear hb ay hg;have aLH:=Q7.out;have aLI:=Q6.out;have OD:=Q9.out;have OE:=Q8.out;obtain ⟨tJ,tK,wH,wI,tL,tN,wJ,wK⟩:=jA YT.out;have Yw:=YQ.out;have Yx:=YR.out;obtain ⟨uR,uS,wL,wM,Bc,Bd,GR,uT,uU,wN,wO,Be,Bf,GU⟩:=kz yh.out;obtain ⟨uY,uZ,zQ,zR,BM,BN,u6,ve,zS,zT,BO,BP⟩:=Aa EX.out)|((with_reducible refine aU (f:=74) rfl ?_);refine dn (some 27) rfl rfl Try.func74 aT rfl #[Z ab (an (M6+aj)),Z ab uA,Z ab uB] rfl jB ?_;(with_reducible refine (cz.calls (an (M6+aj)) uA uB true _ Rs.out).mono ?_);rintro e w' ⟨rfl,⟨nd,rfl⟩⟩;refine ⟨_,rfl,?_⟩)|((with_reducible refine aU (f:=89) rfl ?_);refine dn (some 32) rfl rfl Try.func89 aT rfl #[.agg #[Z ab ((gM l2 dZ).f0.f0),Z ab ((gM l2 dZ).f0.f1),Z ab ((gM l2 dZ).f1.f0),Z ab ((gM l2 dZ).f1.f1)],.agg #[Z ab uG,Z ab uH,Z ab uI,Z ab uJ]] rfl jB ?_;(with_reducible refine (pX.calls ((gM l2 dZ).f0.f0) ((gM l2 dZ).f0.f1) ((gM l2 dZ).f1.f0) ((gM l2 dZ).f1.f1) uG uH uI uJ WK _ A12.out).mono ?_);rintro e w21 ⟨rfl,hb⟩;refine ⟨_,rfl,?_⟩;have vv:=bn yh hb;have vw:=bn EX hb;have vz:=af.mk (ah (g:=aBj) (o:=.cells #[Z ab ((gM l2 dZ).f0.f0),Z ab ((gM l2 dZ).f0.f1),Z ab ((gM l2 dZ).f1.f0),Z ab ((gM l2 dZ).f1.f1)] 31 (0,0)) (by (with_reducible repeat (first|refine au ?_ _|refine ag ?_|refine aa ?_ _));refine aK (cs:=#[Z ab ((gM l2 dZ).f0.f0),Z ab ((gM l2 dZ).f0.f1),Z ab ((gM l2 dZ).f1.f0),Z ab 0]) ?_ 3 _ rfl;(with_reducible repeat (first|refine au ?_ _|refine ag ?_|refine aa ?_ _));refine aK (cs:=#[Z ab ((gM l2 dZ).f0.f0),Z ab ((gM l2 dZ).f0.f1),Z ab 0,Z ab 0]) ?_ 2 _ rfl;(with_reducible repeat (first|refine au ?_ _|refine ag ?_|refine aa ?_ _));refine aK (cs:=#[Z ab ((gM l2 dZ).f0.f0),Z ab 0,Z ab 0,Z ab 0]) ?_ 1 _ rfl;(with_reducible repeat (first|refine au ?_ _|refine ag ?_|refine aa ?_ _));refine aK (cs:=#[Z ab 0,Z ab 0,Z ab 0,Z ab 0]) ?_ 0 _ rfl;(with_reducible repeat (first|refine au ?_ _|refine ag ?_|refine aa ?_ _));exact YT.out) hb);have vB:=dz HB hb;clear yh;clear EX;clear YT;clear HB;have yh:=vv;have EX:=vw;have YT:=vz;have HB:=vB;clear vv vw vz vB;(try clear hb);(try clear hb2);(try clear hk);(try clear hi)))
       go_roundg k1
       case measure=>have:=Cj.out;omega
       case rel=>exact ⟨(an (M6+aj)),(aDM),(an (dZ+1)),om,(by first|rfl|(simp;done)|(simp only [← YS] <;> (first|rfl|simp))|(simp [*];done)),om,H',⟨zq7⟩,⟨iK⟩,⟨iK⟩,⟨gp⟩⟩
      ·replace c11:=Bool.eq_false_iff.mpr c11
       subst c11
       have H1:(gq.l0 k1 (an (M6+aj)) sK l2 (l2.length:Int) (an (dZ+1)) ai aj az aA aI aD aJ uG uH uI uJ uA uB) = some r:=by rw [if_neg (show ¬ (false = true) by decide)] at H;exact H
       clear H
       have H:=H1
       clear H1
       have H':=af.mk H
       clear H
       have aho:0≤(dZ:Int):=of_decide_eq_true nM
       have ahp:dZ < (l2.length:Int):=of_decide_eq_true nM
       obtain ⟨aLN,aDN,IB,IC,IE,IG⟩:=agk HR2.out dZ aho ahp
       cases aDN
       replace IB:=(HB.out.cell (bd w _ IB)).trans IB
       replace IC:=(HB.out.cell (bd w _ IC)).trans IC
       replace IE:=(HB.out.cell (bd w _ IE)).trans IE
       replace IG:=(HB.out.cell (bd w _ IG)).trans IG
       replace aho:=eq_true aho
       replace ahp:=eq_true ahp
       go_wp2_with (first|((with_reducible refine av (N:=11) rfl ?_);refine ak (by rfl) (N:=11) (by rfl) (cs:=#[Z ab 0,Z ab 0,Z ab 0,Z ab 0]) (t:=31) fU ?_;intro aBj hg w22 ay hb;have YT:=af.mk (ay);have aLO:=bY HB hg;have aLP:=bY HB hg;have Q6:=fG yh hg;have Q7:=fH yh hg;have Q8:=fG EX hg;have Q9:=fH EX hg;replace yh:=bn yh hb;replace EX:=bn EX hb;replace HB:=dz HB hb;clear hb ay hg;have Yy:=Q7.out;have Yz:=Q6.out;have aeH:=Q9.out;have aeI:=Q8.out;obtain ⟨zC,zD,DZ,D5,zF,zG,D6,D7⟩:=jA YT.out;have aeK:=YQ.out;have aeL:=YR.out;obtain ⟨Bl,Bn,Bo,Bp,D8,D9,Ea,Bq,Br,Bt,Bu,Eb,Ec,Ed⟩:=kz yh.out;obtain ⟨Lh,Li,OH,OI,abJ,abK,Lj,Ll,OJ,OL,abL,abM⟩:=Aa EX.out)|((with_reducible refine aU (f:=74) rfl ?_);refine dn (some 27) rfl rfl Try.func74 aT rfl #[Z ab (an (M6+aj)),Z ab uA,Z ab uB] rfl jB ?_;(with_reducible refine (cz.calls (an (M6+aj)) uA uB false _ Rs.out).mono ?_);rintro e w' ⟨rfl,⟨nd,rfl⟩⟩;refine ⟨_,rfl,?_⟩))
       go_roundg k1
       case measure=>have:=Cj.out;omega
       case rel=>exact ⟨(an (M6+aj)),(sK),(an (dZ+1)),om,om,om,H',⟨zq7⟩,⟨iK⟩,⟨iK⟩,⟨gp⟩⟩
     ·rw [if_neg c9] at H
      exact absurd H (by simp)
    ·rw [if_neg c8] at H
     exact absurd H (by simp)
   ·rw [if_neg c7] at H
    have Oh:decide (dZ < (l2.length:Int)) = false:=decide_eq_false c7
    clear c7
    obtain rfl:=bh H
    go_wp2
    go_ret
    exact ⟨mJ,gp⟩
end Go.Proofs.Ytmhaiihjfgfaoaa.Pr
end
section
namespace Go.Proofs.Ytmhaiihjfgfaoaa.Gl
open Go.RowKit Go.Proofs.YtmhaiihjfgfaoaaW.bu Go.Proofs.YtmhaiihjfgfaoaaW.dB Go.Proofs.YtmhaiihjfgfaoaaW.ek Go.Proofs.Ytmhaiihjfgfaoaa.Pr
def Gx (bq:Int) (p:BX):List iA→Int→Int→Int
 |[],_,acc=>acc
 |x :: l,t,acc=>Gx bq p l (t+bq) (if p.f1≤t+bq∧t+bq≤p.f2 then max acc (M5 x p.f0) else acc)
theorem II {x:Int} (h:-9223372036854775808≤x∧x < 9223372036854775808):an x = x:=by unfold an;omega
theorem afc (v:nW) (hv:wZ v = true) (p:BX) (l:List iA) (hl:l.length≤64):∀ (m i K:Nat) (t acc:Int),i+m = l.length→m+1≤K→(0≤t∧t≤1073741824+(i:Int)*131072)→
 gq.l0 K t acc l (l.length:Int) (i:Int) v.speed v.bq v.use.f0 v.use.f1 v.aV.f0 v.aV.f1 v.reserve p.f0.f0.f0 p.f0.f0.f1 p.f0.f1.f0 p.f0.f1.f1 p.f1 p.f2 = some (Gx v.bq p (l.drop i) t acc)
 |0,i,K+1,t,acc,h,hk,h0=>by
  rw [gq.l0,if_neg (by omega),List.drop_eq_nil_of_le (by omega)];rfl
 |m+1,i,K+1,t,acc,h,hk,h0=>by
  have hi:i < l.length:=by omega
  have e:gM l (i:Int) = l[i]:=by
   unfold gM
   simp [hi]
  have hd:1≤v.bq∧v.bq≤131072:=by
   unfold wZ at hv
   simp only [Bool.and_eq_true,jg] at hv
   omega
  rw [List.drop_eq_getElem_cons hi]
  unfold Gx
  rw [gq.l0,if_pos (by omega),if_pos (by omega),if_pos (by omega),e,II (x:=t+v.bq) (by omega),II (x:=(i:Int)+1) (by omega),VY,aE]
  have hin:pX.f l[i].f0.f0 l[i].f0.f1 l[i].f1.f0 l[i].f1.f1 p.f0.f0.f0 p.f0.f0.f1 p.f0.f1.f0 p.f0.f1.f1 = some (M5 l[i] p.f0):=rfl
  rw [hin,aE]
  have ih:=fun aDO=>afc v hv p l hl m (i+1) K (t+v.bq) aDO (by omega) (by omega) ⟨by omega,by omega⟩
  by_cases hb:p.f1≤t+v.bq∧t+v.bq≤p.f2
  ·rw [if_pos (jg.2 hb),if_pos hb,Ez]
   exact ih _
  ·rw [if_neg (fun hq=>hb (jg.1 hq)),if_neg hb]
   exact ih _
theorem aqv (v:nW) (hv:wZ v = true) (p:BX) (l:List iA) (hl:l.length≤64) (t:Int) (ht:0≤t∧t≤1073741824) (K:Nat) (hk:l.length+1≤K):
 gq.f K v.speed v.bq v.use.f0 v.use.f1 v.aV.f0 v.aV.f1 v.reserve t l p.f0.f0.f0 p.f0.f0.f1 p.f0.f1.f0 p.f0.f1.f1 p.f1 p.f2 = some (Gx v.bq p l t 0):=by
 have:=afc v hv p l hl l.length 0 K t 0 (Nat.zero_add _) hk ⟨ht.1,by omega⟩
 rw [List.drop_zero] at this
 exact this
def AR (p:BX):Bool:=XI p.f0 && decide (0≤p.f1) && decide (p.f1≤p.f2) && decide (p.f2≤1073741824)
theorem YU (p:BX):nR.f 4 p.f0.f0.f0 p.f0.f0.f1 p.f0.f1.f0 p.f0.f1.f1 p.f1 p.f2 = some (AR p):=by
 unfold nR.f AR
 rw [adX p.f0,aE]
 unfold XJ
 cases XI p.f0 with
 |false=>rfl
 |true =>
  rw [if_pos rfl,if_pos rfl]
  by_cases h1:p.f1 ≥ 0
  ·rw [if_pos h1,decide_eq_true (show 0≤p.f1 from h1)]
   by_cases h2:p.f1≤p.f2
   ·rw [if_pos h2,decide_eq_true h2];rfl
   ·rw [if_neg h2,decide_eq_false h2];rfl
  ·rw [if_neg h1,decide_eq_false (show ¬(0≤p.f1) from h1)];rfl
end Go.Proofs.Ytmhaiihjfgfaoaa.Gl
end
section
namespace Go.Proofs.Ytmhaiihjfgfaoaa.Gl
open Go.RowKit Go.Shelf Go.Proofs.YtmhaiihjfgfaoaaW.bu Go.Proofs.YtmhaiihjfgfaoaaW.dB Go.Proofs.YtmhaiihjfgfaoaaW.ek Go.Proofs.Ytmhaiihjfgfaoaa.Pr Go.Proofs.YtmhaiihjfgfaoaaW.Round
attribute [local go_sem] iq iw jq jr iy
theorem abV (s:lK) (v:nW):∀ (l:List gU) (x:iA) (t n:Int) (out:List iA),(rF s v l x t n out).1.length≤out.length+l.length
 |[],x,t,n,out=>by unfold rF;simp
 |c :: l,x,t,n,out=>by
  unfold rF
  split
  ·simp
  ·refine Nat.le_trans (abV s v l _ _ _ _) ?_
   simp only [List.length_append,List.length_cons,List.length_nil]
   omega
theorem zt {s:lK} {v:nW} (h:lW s v = 0):wZ v = true:=by
 unfold lW at h
 obtain ⟨_,h2⟩:=Af h
 unfold R7 at h2
 cases hb:wZ v with
 |true=>rfl
 |false=>rw [hb] at h2;cases h2
def WL (s:lK) (v:nW) (x:iA) (t:Int) (e:jK) (l:List gU) (p:BX):Int :=
 if oL s v x t≠0 then oL s v x t else if si e.f0 e.f1 0 1073741824 = false then 2 else if Ct l s.layers≠0 then Ct l s.layers else if AR p = false then 2
 else if (rF s v l x t 0 []).2.2≠0 then (rF s v l x t 0 []).2.2 else if (WC v l e 0 []).2.2≠0 then (WC v l e 0 []).2.2 else if Gx v.bq p (rF s v l x t 0 []).1 t 0≠2 then 20 else 0
theorem X7 (s:lK) (v:nW) (x:iA) (t:Int) (ev:jK) (A:Option Addr) (c:Nat) (l:List gU) (p:BX) (A7 A8:Option Addr) (c7 c8:Nat) (w:ao) (h7:s.bf.length≤c7) (XC:Kd.C Kd.bool w A7 s.bf.length s.bf) (h8:s.aC.length≤c8) (Rx:Kd.C Dt w A8 s.aC.length s.aC) (hC:Kd.C yn w A l.length l) (hc:l.length≤c):
 Calls Try.prog 48 #[.agg #[Z ab s.nx,Z ab s.ny,Z ab s.cell,Z ab s.slot,Z ab s.slots,Z ab s.layers,Z ab s.most,.slice A7 s.bf.length c7,.slice A8 s.aC.length c8],.agg #[Z ab v.speed,Z ab v.bq,Z ab v.use.f0,Z ab v.use.f1,Z ab v.aV.f0,Z ab v.aV.f1,Z ab v.reserve],.agg #[Z ab x.f0.f0,Z ab x.f0.f1,Z ab x.f1.f0,Z ab x.f1.f1],Z ab t,.agg #[Z ab ev.f0,Z ab ev.f1],.slice A l.length c,.agg #[Z ab p.f0.f0.f0,Z ab p.f0.f0.f1,Z ab p.f0.f1.f0,Z ab p.f0.f1.f1,Z ab p.f1,Z ab p.f2]] w (yw (Z ab (WL s v x t ev l p)) w):=by
 have xS:=Try.underlying25
 have vo:=Try.underlying29
 have qj:=Try.underlying31
 have E9:=Try.underlying33
 have oO:=Try.underlying27
 have XP:=Try.underlying81
 have HX:Hid (WL s v x t ev l p = if oL s v x t≠0 then oL s v x t else if si ev.f0 ev.f1 0 1073741824 = false then 2 else if Ct l s.layers≠0 then Ct l s.layers else if AR p = false then 2
  else if (rF s v l x t 0 []).2.2≠0 then (rF s v l x t 0 []).2.2 else if (WC v l ev 0 []).2.2≠0 then (WC v l ev 0 []).2.2 else if Gx v.bq p (rF s v l x t 0 []).1 t 0≠2 then 20 else 0):=Lib.hid rfl
 generalize WL s v x t ev l p = RR at*
 go_enter Try.func48,Try.ntmps48
 go_wp2_with fail
 have m7:dW (((((w.alloc (.cells #[Z ab s.nx,Z ab s.ny,Z ab s.cell,Z ab s.slot,Z ab s.slots,Z ab s.layers,Z ab s.most,.slice A7 s.bf.length c7,.slice A8 s.aC.length c8] 25)).alloc (.cells #[Z ab v.speed,Z ab v.bq,Z ab v.use.f0,Z ab v.use.f1,Z ab v.aV.f0,Z ab v.aV.f1,Z ab v.reserve] 29)).alloc (.cells #[Z ab x.f0.f0,Z ab x.f0.f1,Z ab x.f1.f0,Z ab x.f1.f1] 31)).alloc (.cells #[Z ab ev.f0,Z ab ev.f1] 27)).alloc (.cells #[Z ab p.f0.f0.f0,Z ab p.f0.f0.f1,Z ab p.f0.f1.f0,Z ab p.f0.f1.f1,Z ab p.f1,Z ab p.f2] 81)) (w.heap.size) #[Z ab s.nx,Z ab s.ny,Z ab s.cell,Z ab s.slot,Z ab s.slots,Z ab s.layers,Z ab s.most,.slice A7 s.bf.length c7,.slice A8 s.aC.length c8] 25:=(aa (aa (aa (aa Zh _) _) _) _)
 have m8:dW (((((w.alloc (.cells #[Z ab s.nx,Z ab s.ny,Z ab s.cell,Z ab s.slot,Z ab s.slots,Z ab s.layers,Z ab s.most,.slice A7 s.bf.length c7,.slice A8 s.aC.length c8] 25)).alloc (.cells #[Z ab v.speed,Z ab v.bq,Z ab v.use.f0,Z ab v.use.f1,Z ab v.aV.f0,Z ab v.aV.f1,Z ab v.reserve] 29)).alloc (.cells #[Z ab x.f0.f0,Z ab x.f0.f1,Z ab x.f1.f0,Z ab x.f1.f1] 31)).alloc (.cells #[Z ab ev.f0,Z ab ev.f1] 27)).alloc (.cells #[Z ab p.f0.f0.f0,Z ab p.f0.f0.f1,Z ab p.f0.f1.f0,Z ab p.f0.f1.f1,Z ab p.f1,Z ab p.f2] 81)) (w.heap.size+1) #[Z ab v.speed,Z ab v.bq,Z ab v.use.f0,Z ab v.use.f1,Z ab v.aV.f0,Z ab v.aV.f1,Z ab v.reserve] 29:=(aa (aa (aa ac2 _) _) _)
 have m9:dW (((((w.alloc (.cells #[Z ab s.nx,Z ab s.ny,Z ab s.cell,Z ab s.slot,Z ab s.slots,Z ab s.layers,Z ab s.most,.slice A7 s.bf.length c7,.slice A8 s.aC.length c8] 25)).alloc (.cells #[Z ab v.speed,Z ab v.bq,Z ab v.use.f0,Z ab v.use.f1,Z ab v.aV.f0,Z ab v.aV.f1,Z ab v.reserve] 29)).alloc (.cells #[Z ab x.f0.f0,Z ab x.f0.f1,Z ab x.f1.f0,Z ab x.f1.f1] 31)).alloc (.cells #[Z ab ev.f0,Z ab ev.f1] 27)).alloc (.cells #[Z ab p.f0.f0.f0,Z ab p.f0.f0.f1,Z ab p.f0.f1.f0,Z ab p.f0.f1.f1,Z ab p.f1,Z ab p.f2] 81)) (w.heap.size+1+1) #[Z ab x.f0.f0,Z ab x.f0.f1,Z ab x.f1.f0,Z ab x.f1.f1] 31:=(aa (aa ama _) _)
 have m11:dW (((((w.alloc (.cells #[Z ab s.nx,Z ab s.ny,Z ab s.cell,Z ab s.slot,Z ab s.slots,Z ab s.layers,Z ab s.most,.slice A7 s.bf.length c7,.slice A8 s.aC.length c8] 25)).alloc (.cells #[Z ab v.speed,Z ab v.bq,Z ab v.use.f0,Z ab v.use.f1,Z ab v.aV.f0,Z ab v.aV.f1,Z ab v.reserve] 29)).alloc (.cells #[Z ab x.f0.f0,Z ab x.f0.f1,Z ab x.f1.f0,Z ab x.f1.f1] 31)).alloc (.cells #[Z ab ev.f0,Z ab ev.f1] 27)).alloc (.cells #[Z ab p.f0.f0.f0,Z ab p.f0.f0.f1,Z ab p.f0.f1.f0,Z ab p.f0.f1.f1,Z ab p.f1,Z ab p.f2] 81)) (w.heap.size+1+1+1) #[Z ab ev.f0,Z ab ev.f1] 27:=(aa aB2 _)
 have m13:dW (((((w.alloc (.cells #[Z ab s.nx,Z ab s.ny,Z ab s.cell,Z ab s.slot,Z ab s.slots,Z ab s.layers,Z ab s.most,.slice A7 s.bf.length c7,.slice A8 s.aC.length c8] 25)).alloc (.cells #[Z ab v.speed,Z ab v.bq,Z ab v.use.f0,Z ab v.use.f1,Z ab v.aV.f0,Z ab v.aV.f1,Z ab v.reserve] 29)).alloc (.cells #[Z ab x.f0.f0,Z ab x.f0.f1,Z ab x.f1.f0,Z ab x.f1.f1] 31)).alloc (.cells #[Z ab ev.f0,Z ab ev.f1] 27)).alloc (.cells #[Z ab p.f0.f0.f0,Z ab p.f0.f0.f1,Z ab p.f0.f1.f0,Z ab p.f0.f1.f1,Z ab p.f1,Z ab p.f2] 81)) (w.heap.size+1+1+1+1) #[Z ab p.f0.f0.f0,Z ab p.f0.f0.f1,Z ab p.f0.f1.f0,Z ab p.f0.f1.f1,Z ab p.f1,Z ab p.f2] 81:=aB3
 have mB:Below w.heap.size w (((((w.alloc (.cells #[Z ab s.nx,Z ab s.ny,Z ab s.cell,Z ab s.slot,Z ab s.slots,Z ab s.layers,Z ab s.most,.slice A7 s.bf.length c7,.slice A8 s.aC.length c8] 25)).alloc (.cells #[Z ab v.speed,Z ab v.bq,Z ab v.use.f0,Z ab v.use.f1,Z ab v.aV.f0,Z ab v.aV.f1,Z ab v.reserve] 29)).alloc (.cells #[Z ab x.f0.f0,Z ab x.f0.f1,Z ab x.f1.f0,Z ab x.f1.f1] 31)).alloc (.cells #[Z ab ev.f0,Z ab ev.f1] 27)).alloc (.cells #[Z ab p.f0.f0.f0,Z ab p.f0.f0.f1,Z ab p.f0.f1.f0,Z ab p.f0.f1.f1,Z ab p.f1,Z ab p.f2] 81)):=(aH (aH (aH (aH (aH (Below.refl w.heap.size w) _) _) _) _) _)
 have kZ:w.heap.size≤w.heap.size:=Nat.le_refl _
 generalize qQ:(((((w.alloc (.cells #[Z ab s.nx,Z ab s.ny,Z ab s.cell,Z ab s.slot,Z ab s.slots,Z ab s.layers,Z ab s.most,.slice A7 s.bf.length c7,.slice A8 s.aC.length c8] 25)).alloc (.cells #[Z ab v.speed,Z ab v.bq,Z ab v.use.f0,Z ab v.use.f1,Z ab v.aV.f0,Z ab v.aV.f1,Z ab v.reserve] 29)).alloc (.cells #[Z ab x.f0.f0,Z ab x.f0.f1,Z ab x.f1.f0,Z ab x.f1.f1] 31)).alloc (.cells #[Z ab ev.f0,Z ab ev.f1] 27)).alloc (.cells #[Z ab p.f0.f0.f0,Z ab p.f0.f0.f1,Z ab p.f0.f1.f0,Z ab p.f0.f1.f1,Z ab p.f1,Z ab p.f2] 81)) = W1 at m7 m8 m9 m11 m13 mB ⊢
 clear qQ
 generalize hg7:w.heap.size = g7 at m7 m8 m9 m11 m13 ⊢
 have hG7:w.heap.size≤g7:=by omega
 generalize hg8:g7+1 = g8 at m8 m9 m11 m13 ⊢
 have Cn:g7≠g8:=by omega
 have Qj:g8≠g7:=Cn.symm
 have ZO:w.heap.size≤g8:=by omega
 generalize hg9:g8+1 = g9 at m9 m11 m13 ⊢
 have yA:g7≠g9:=by omega
 have Hg:g8≠g9:=by omega
 have MO:g9≠g7:=yA.symm
 have VD:g9≠g8:=Hg.symm
 have hG9:w.heap.size≤g9:=by omega
 generalize ahm:g9+1 = g11 at m11 m13 ⊢
 have rR:g7≠g11:=by omega
 have IJ:g8≠g11:=by omega
 have rT:g9≠g11:=by omega
 have Ua:g11≠g7:=rR.symm
 have Ub:g11≠g8:=IJ.symm
 have Uc:g11≠g9:=rT.symm
 have VR:w.heap.size≤g11:=by omega
 generalize ahk:g11+1 = g13 at m13 ⊢
 have ayD:g7≠g13:=by omega
 have ayE:g8≠g13:=by omega
 have ayF:g9≠g13:=by omega
 have aqw:g11≠g13:=by omega
 have aU6:g13≠g7:=ayD.symm
 have aU7:g13≠g8:=ayE.symm
 have aU8:g13≠g9:=ayF.symm
 have aLQ:g13≠g11:=aqw.symm
 have ayv:w.heap.size≤g13:=by omega
 clear kZ
 try clear ahk
 try clear ahm
 try clear hg9
 try clear hg8
 try clear hg7
 have sD:w.heap.size≤W1.heap.size:=mB.size
 have hbg:oL s v x t = if lW s v≠0 then lW s v else oK x t:=rfl
 have HBG:=Lib.hid hbg
 clear hbg
 obtain ⟨Qo,Qp,V4,V5,abW,WM,abX,abY,abZ⟩:=Ay m7
 obtain ⟨LW,LX,MS,MU,Ra,Rb,Rc⟩:=Ci m8
 obtain ⟨Jy,Jz,R5,R6⟩:=rY m9
 go_wp2_with fail
 clear Qo Qp V4 V5 abW WM abX abY abZ LW LX MS MU Ra Rb Rc Jy Jz R5 R6
 have hcon:=Yp s v x t A7 A8 c7 c8 W1 h7 (Kd.bz XC mB) h8 (Kd.bz Rx mB)
 (with_reducible refine hcon.mono ?_)
 clear hcon
 rintro e W2 ⟨ptr,rfl,hb,hpt⟩
 replace m7:=ah m7 hb
 replace m8:=ah m8 hb
 replace m9:=ah m9 hb
 replace m11:=ah m11 hb
 replace m13:=ah m13 hb
 replace mB:=bI mB hb
 clear hb
 have vI:w.heap.size≤W2.heap.size:=mB.size
 generalize hE_:oL s v x t = E0 at*
 have HE0:=Lib.hid hE_
 clear hE_
 by_cases h0:E0 = 0
 case neg =>
  have HZ:=Lib.hid (HX.out.trans (if_pos h0))
  have hd1:(E0 == 0) = false:=beq_eq_false_iff_ne.2 h0
  have hd2:(E0 != 0) = true:=by rw [bne,hd1];rfl
  clear h0 hpt HX
  go_wp2
  go_ret
  exact ⟨qi,mB⟩
 case pos =>
  have HX2:=Lib.hid (HX.out.trans (if_neg (fun h=>h h0)))
  clear HX
  have hb0:=HBG.out.symm.trans h0
  obtain ⟨ht0,hp0⟩:=Af hb0
  obtain ⟨hbx,XK,aaa⟩:=JH hp0
  obtain ⟨hSV,hVN⟩:=JG ht0
  have HVB:=Lib.hid (zt ht0)
  rcases hpt with ⟨_,g,rfl,hg,hT⟩|⟨hbad,_⟩
  case inr=>exact absurd ht0 hbad
  case inl =>
   subst h0
   clear hb0 ht0 hp0 HBG
   have HTT:=Lib.hid (And.intro XK aaa)
   clear XK aaa
   obtain ⟨Pk,Pm⟩:=Ch m11
   go_wp2_with fail
   clear Pk Pm
   have hcon:=SF ev.f0 ev.f1 0 1073741824 W2
   (with_reducible refine hcon.mono ?_)
   clear hcon
   rintro e W3 ⟨rfl,hb⟩
   replace hT:=hT.below hb
   replace m7:=ah m7 hb
   replace m8:=ah m8 hb
   replace m9:=ah m9 hb
   replace m11:=ah m11 hb
   replace m13:=ah m13 hb
   replace mB:=bI mB hb
   clear hb
   cases hbn:si ev.f0 ev.f1 0 1073741824 with
   |false =>
    have HZ:=Lib.hid (HX2.out.trans (if_pos hbn))
    clear hbn HX2
    go_wp2
    go_ret
    exact ⟨qi,mB⟩
   |true =>
    have HX3:=Lib.hid (HX2.out.trans (if_neg (by rw [hbn];decide)))
    have HBN:=Lib.hid hbn
    clear HX2 hbn
    obtain ⟨Qo,Qp,V4,V5,abW,WM,abX,abY,abZ⟩:=Ay m7
    go_wp2_with fail
    clear Qo Qp V4 V5 abW WM abX abY abZ
    have hcon:=aiZ A c l s.layers W3 (Kd.bz hC mB) hc
    (with_reducible refine hcon.mono ?_)
    clear hcon
    rintro e W4 ⟨rfl,hb⟩
    replace hT:=hT.below hb
    replace m7:=ah m7 hb
    replace m8:=ah m8 hb
    replace m9:=ah m9 hb
    replace m11:=ah m11 hb
    replace m13:=ah m13 hb
    replace mB:=bI mB hb
    clear hb
    have hc1:=fun h=>abN (l:=l) (layers:=s.layers) h
    generalize Ct l s.layers = E1 at*
    by_cases h1:E1 = 0
    case neg =>
     have HZ:=Lib.hid (HX3.out.trans (if_pos h1))
     have hd1:(E1 == 0) = false:=beq_eq_false_iff_ne.2 h1
     have hd2:(E1 != 0) = true:=by rw [bne,hd1];rfl
     clear h1 hc1 HX3
     go_wp2
     go_ret
     exact ⟨qi,mB⟩
    case pos =>
     obtain ⟨afd,hall⟩:=hc1 h1
     have HX4:=Lib.hid (HX3.out.trans (if_neg (fun h=>h h1)))
     clear HX3 hc1
     subst h1
     have HLA:=Lib.hid (And.intro afd hall)
     clear afd hall
     obtain ⟨afe,aff,afg,afh,aqx,aqy⟩:=Xz m13
     go_wp2_with fail
     clear afe aff afg afh aqx aqy
     have hcon:=nR.calls 4 p.f0.f0.f0 p.f0.f0.f1 p.f0.f1.f0 p.f0.f1.f1 p.f1 p.f2 _ W4 (YU p)
     (with_reducible refine hcon.mono ?_)
     clear hcon
     rintro e W5 ⟨rfl,hb⟩
     replace hT:=hT.below hb
     replace m7:=ah m7 hb
     replace m8:=ah m8 hb
     replace m9:=ah m9 hb
     replace m11:=ah m11 hb
     replace m13:=ah m13 hb
     replace mB:=bI mB hb
     clear hb
     cases hpk:AR p with
     |false =>
      have HZ:=Lib.hid (HX4.out.trans (if_pos hpk))
      clear hpk HX4
      go_wp2
      go_ret
      exact ⟨qi,mB⟩
     |true =>
      have HX5:=Lib.hid (HX4.out.trans (if_neg (by rw [hpk];decide)))
      clear HX4 hpk
      obtain ⟨Jy,Jz,R5,R6⟩:=rY m9
      go_wp2_with fail
      clear Jy Jz R5 R6
      have hcon:=ayt g s v x t A c l W5 hT hSV hVN hbx HTT.out.1 HTT.out.2 (Kd.bz hC mB) hc HLA.out.1 HLA.out.2
      (with_reducible refine hcon.mono ?_)
      clear hcon
      rintro e W6 ⟨QH,rfl,HR,hb⟩
      have hs5:w.heap.size≤W5.heap.size:=mB.size
      replace hT:=hT.below hb
      replace m7:=ah m7 hb
      replace m8:=ah m8 hb
      replace m9:=ah m9 hb
      replace m11:=ah m11 hb
      replace m13:=ah m13 hb
      replace mB:=bI mB hb
      clear hb
      replace HR:=Kd.kv HR hs5
      clear hs5
      have hrl:Hid ((rF s v l x t 0 []).1.length≤64):=Lib.hid (Nat.le_trans (abV s v l x t 0 []) (by have:=HLA.out.1;simp only [List.length_nil];omega))
      generalize rF s v l x t 0 [] = R at*
      obtain ⟨R1,R2,R3⟩:=R
      dsimp only at HR hrl HX5 ⊢
      obtain ⟨Ao,co,rfl⟩:=Kd.lM HR
      by_cases h2:R3 = 0
      case neg =>
       have HZ:=Lib.hid (HX5.out.trans (if_pos h2))
       have hd1:(R3 == 0) = false:=beq_eq_false_iff_ne.2 h2
       have hd2:(R3 != 0) = true:=by rw [bne,hd1];rfl
       clear h2 HX5
       go_wp2
       go_ret
       exact ⟨qi,mB⟩
      case pos =>
       have HX6:=Lib.hid (HX5.out.trans (if_neg (fun h=>h h2)))
       clear HX5
       subst h2
       obtain ⟨LW,LX,MS,MU,Ra,Rb,Rc⟩:=Ci m8
       obtain ⟨Pk,Pm⟩:=Ch m11
       go_wp2_with fail
       clear LW LX MS MU Ra Rb Rc Pk Pm
       have hcon:=ahl v ev A c l W6 HVB.out HBN.out (Kd.bz hC mB) hc HLA.out.1
       (with_reducible refine hcon.mono ?_)
       clear hcon
       rintro e W7 ⟨v1_,rfl,HE,hb⟩
       clear HE
       replace HR:=Kd.lZ HR hb
       replace m7:=ah m7 hb
       replace m8:=ah m8 hb
       replace m9:=ah m9 hb
       replace m11:=ah m11 hb
       replace m13:=ah m13 hb
       replace mB:=bI mB hb
       clear hb
       generalize WC v l ev 0 [] = Q at*
       obtain ⟨Q1,Q2,Q3⟩:=Q
       dsimp only at HX6 ⊢
       by_cases h3:Q3 = 0
       case neg =>
        have HZ:=Lib.hid (HX6.out.trans (if_pos h3))
        have hd1:(Q3 == 0) = false:=beq_eq_false_iff_ne.2 h3
        have hd2:(Q3 != 0) = true:=by rw [bne,hd1];rfl
        clear h3 HX6
        go_wp2
        go_ret
        exact ⟨qi,mB⟩
       case pos =>
        have HX7:=Lib.hid (HX6.out.trans (if_neg (fun h=>h h3)))
        clear HX6
        subst h3
        obtain ⟨LW,LX,MS,MU,Ra,Rb,Rc⟩:=Ci m8
        obtain ⟨afe,aff,afg,afh,aqx,aqy⟩:=Xz m13
        go_wp2_with fail
        clear LW LX MS MU Ra Rb Rc afe aff afg afh aqx aqy
        have hcon:=gq.calls 65 v.speed v.bq v.use.f0 v.use.f1 v.aV.f0 v.aV.f1 v.reserve t Ao co R1 p.f0.f0.f0 p.f0.f0.f1 p.f0.f1.f0 p.f0.f1.f1 p.f1 p.f2 _ W7 (Kd.fK HR).2.2 (Kd.fK HR).2.1 (aqv v HVB.out p R1 hrl.out t HTT.out 65 (by have:=hrl.out;omega))
        (with_reducible refine hcon.mono ?_)
        clear hcon
        rintro e W8 ⟨rfl,hb⟩
        replace m7:=ah m7 hb
        replace m8:=ah m8 hb
        replace m9:=ah m9 hb
        replace m11:=ah m11 hb
        replace m13:=ah m13 hb
        replace mB:=bI mB hb
        clear hb
        generalize Gx v.bq p R1 t 0 = F at*
        by_cases h4:F = 2
        case neg =>
         have HZ:=Lib.hid (HX7.out.trans (if_pos h4))
         have hd1:(F == 2) = false:=beq_eq_false_iff_ne.2 h4
         have hd2:(F != 2) = true:=by rw [bne,hd1];rfl
         clear h4 HX7
         go_wp2
         go_ret
         exact ⟨qi,mB⟩
        case pos =>
         have HZ:=Lib.hid (HX7.out.trans (if_neg (fun h=>h h4)))
         subst h4
         clear HX7
         go_wp2
         go_ret
         exact ⟨qi,mB⟩
end Go.Proofs.Ytmhaiihjfgfaoaa.Gl
end
section
namespace Go.Proofs.Ytmhaiihjfgfaoaa.Pr
open Go.RowKit Go.Proofs.YtmhaiihjfgfaoaaW.bu Go.Proofs.YtmhaiihjfgfaoaaW.dB Go.Proofs.YtmhaiihjfgfaoaaW.ek Go.Proofs.Ytmhaiihjfgfaoaa.Gl
def mR.f (ai:Int) (aj:Int) (az:Int) (aA:Int) (aI:Int) (aD:Int) (aJ:Int) (aX:List Bool) (aG:List (qK)) (aQ:Int) (aN:Int) (bC:Int) (bD:Int) (bU:Int) (bV:Int) (bW:Int) (cO:Int) (cZ:Int) (dh:Int) (di:Int) (a3:Int) (fE:Int) (eZ:Int) (l5:List (gU)) (jh:Int) (ji:Int) (jk:Int) (jl:Int) (jm:Int) (jo:Int):Option (Int):=some (WL ⟨ai,aj,az,aA,aI,aD,aJ,aX,aG⟩ ⟨aQ,aN,⟨bC,bD⟩,⟨bU,bV⟩,bW⟩ ⟨⟨cO,cZ⟩,⟨dh,di⟩⟩ a3 ⟨fE,eZ⟩ l5 ⟨⟨⟨jh,ji⟩,⟨jk,jl⟩⟩,jm,jo⟩)
theorem mR.calls (ai:Int) (aj:Int) (az:Int) (aA:Int) (aI:Int) (aD:Int) (aJ:Int) (dY:Option Addr) (dS:Nat) (aX:List Bool) (dV:Option Addr) (dU:Nat) (aG:List (qK)) (aQ:Int) (aN:Int) (bC:Int) (bD:Int) (bU:Int) (bV:Int) (bW:Int) (cO:Int) (cZ:Int) (dh:Int) (di:Int) (a3:Int) (fE:Int) (eZ:Int) (A5:Option Addr) (c5:Nat) (l5:List (gU)) (jh:Int) (ji:Int) (jk:Int) (jl:Int) (jm:Int) (jo:Int) (r:Int) (w:ao) (jC:Kd.C Kd.bool w dY aX.length aX) (jD:aX.length≤dS) (jE:Kd.C Dt w dV aG.length aG) (jF:aG.length≤dU) (hr5:Kd.C yn w A5 l5.length l5) (hc5:l5.length≤c5) (h:mR.f ai aj az aA aI aD aJ aX aG aQ aN bC bD bU bV bW cO cZ dh di a3 fE eZ l5 jh ji jk jl jm jo = some r):
 Calls Try.prog 48 #[.agg #[Z ab ai,Z ab aj,Z ab az,Z ab aA,Z ab aI,Z ab aD,Z ab aJ,.slice dY aX.length dS,.slice dV aG.length dU],.agg #[Z ab aQ,Z ab aN,Z ab bC,Z ab bD,Z ab bU,Z ab bV,Z ab bW],.agg #[Z ab cO,Z ab cZ,Z ab dh,Z ab di],Z ab a3,.agg #[Z ab fE,Z ab eZ],.slice A5 l5.length c5,.agg #[Z ab jh,Z ab ji,Z ab jk,Z ab jl,Z ab jm,Z ab jo]] w fun e w'=>e = .returned (Z ab r)∧Below w.heap.size w w':=by
 cases h
 exact X7 ⟨ai,aj,az,aA,aI,aD,aJ,aX,aG⟩ ⟨aQ,aN,⟨bC,bD⟩,⟨bU,bV⟩,bW⟩ ⟨⟨cO,cZ⟩,⟨dh,di⟩⟩ a3 ⟨fE,eZ⟩ A5 c5 l5 ⟨⟨⟨jh,ji⟩,⟨jk,jl⟩⟩,jm,jo⟩ dY dV dS dU w jD jC jF jE hr5 hc5
end Go.Proofs.Ytmhaiihjfgfaoaa.Pr
end
section
namespace Go.Proofs.Ytmhaiihjfgfaoaa.Gl
open Go.RowKit Go.Shelf Go.Proofs.YtmhaiihjfgfaoaaW.bu Go.Proofs.YtmhaiihjfgfaoaaW.dB Go.Proofs.YtmhaiihjfgfaoaaW.ek Go.Proofs.Ytmhaiihjfgfaoaa.Pr Go.Proofs.YtmhaiihjfgfaoaaW.Round
attribute [local go_sem] iq iw jq jr iy
def Pn (l:List gU):List Value:=l.flatMap fun c=>[Z ab c.f0,Z ab c.f1]
theorem aqz (l:List gU):(Pn l).length = l.length*2:=by
 induction l with
 |nil=>rfl
 |cons c l ih=>unfold Pn at*;rw [List.flatMap_cons,List.length_append,ih];simp;omega
theorem Gy (l:List gU) (c:gU):Pn (l++[c]) = Pn l++[Z ab c.f0,Z ab c.f1]:=by unfold Pn;simp
theorem WN (l:List gU):∀ u ∈ Pn l,u.oneCell' = true:=by
 intro u hu
 obtain ⟨c,_,hc⟩:=List.mem_flatMap.1 hu
 simp only [List.mem_cons,List.not_mem_nil,or_false] at hc
 rcases hc with rfl|rfl <;> rfl
theorem anr (w:ao) (base:Nat) (ok:Nat→Prop) (l:List gU):lV (yn.M w base ok) 2 l (Pn l):=by
 suffices h:∀ (a b:List gU),lV (yn.M w base ok) 2 a (Pn a)→lV (yn.M w base ok) 2 (a++b) (Pn (a++b)) by
  have:=h [] l (lV.none _ _)
  rwa [List.nil_append] at this
 intro a b
 induction b generalizing a with
 |nil=>intro h;rwa [List.append_nil]
 |cons c b ih =>
  intro h
  have h2:=ih (a++[c]) (by rw [Gy];exact h.snoc (ahK _ _ _ c) rfl)
  rwa [List.append_assoc,List.singleton_append] at h2
def gT (W:ao) (base:Nat) (v:Value) (l:List gU):Prop:=W.ownsRow base 33 2 v l.length (Pn l)
theorem gT.toR {W:ao} {base:Nat} {v:Value} {l:List gU} (h:gT W base v l):Kd.R yn 33 W base (fun _=>True) v l:=⟨fun _ _=>trivial,Pn l,h,anr _ _ _ _⟩
theorem gT.nil (W:ao) (base:Nat):gT W base (.slice none 0 0) []:=World.ownsRow_nil _ _ _ _
theorem gT.move {W W1:ao} {base:Nat} {v:Value} {l:List gU} (h:gT W base v l) (hm:∀ k,v.ownBlock = some k→W1.heap[k]? = W.heap[k]?):gT W1 base v l:=acT h hm
theorem gT.lt {W:ao} {base:Nat} {v:Value} {l:List gU} (h:gT W base v l) (k:Nat) (hk:v.ownBlock = some k):base≤k∧k < W.heap.size:=World.ownsRow.lt h k hk
theorem gT.below {W W1:ao} {base:Nat} {v:Value} {l:List gU} (h:gT W base v l) (hb:Below W.heap.size W W1):gT W1 base v l:=h.move (fun k hk=>hb.block k (h.lt k hk).2)
theorem gT.ne {W:ao} {base:Nat} {v:Value} {l:List gU} (h:gT W base v l) {g:Nat} {cs:Array Value} {t:TypeId} (hg:dW W g cs t) (ht:t≠33):some g≠v.ownBlock:=own_ne h hg (fun e=>ht e.symm)
theorem gT.lower {W:ao} {base base':Nat} {v:Value} {l:List gU} (h:gT W base v l) (hb:base'≤base):gT W base' v l:=Vj h hb
theorem gT.slice {W:ao} {base:Nat} {v:Value} {l:List gU} (h:gT W base v l):∃ A c,v = .slice A l.length c:=by
 rcases h.2 with ⟨rfl,h0⟩|⟨g,cap,cur,rfl,_⟩
 ·exact ⟨none,0,by rw [h0]⟩
 ·exact ⟨_,_,rfl⟩
theorem gT.back {W:ao} {base g cap n:Nat} {xs ys:List Value} {e:TypeId} (h:W.ownsRow base e 2 (.slice (some ⟨g,0,none⟩) (n+1) cap) (n+1) (xs++ys)) (hx:xs.length = n*2):W.ownsRow base e 2 (.slice (some ⟨g,0,none⟩) n cap) n xs:=by
 rcases h.2 with ⟨h1,_⟩|⟨g',cap',cur,hv,hb,hg,hn,hm,hs,ht⟩
 ·cases h1
 ·injection hv with h1 h2 h3
  injection h1 with h1
  injection h1 with h1
  subst h1
  subst h3
  refine ⟨hx,.inr ⟨g,cap,cur,rfl,hb,hg,by omega,hm,hs,?_⟩⟩
  have h4:=congrArg (List.take (n*2)) ht
  rw [List.take_take,show min (n*2) ((n+1)*2) = n*2 by omega,← hx,List.take_left] at h4
  rw [← hx]
  exact h4
section
variable {P:Program} {b:Frame} {a:Act} {k:List Item} {cs:List Frame} {w:ao} {Q:Exit→Act→ao→Prop} {F:Fence} {n:Nat}
theorem vW {c:Code}:step P (lone (b.atR a (.code (.scope c) :: k)) cs w) = .next (lone (b.atR a (.code c :: .inScope c :: k)) cs w) :=
 step_lone_go (by simp [stepG,stepG.exec,Frame.atR])
theorem X8 {c:Code}:step P (lone (b.atR a (.inScope c :: k)) cs w) = .next (lone (b.atR a k) cs w) :=
 step_lone_go (by simp [stepG,stepG.exec,Frame.atR])
theorem ahr {c:Code} (h:c.wpIn F n P (Exit.noGoto Q) a w):(Code.scope c).wpIn F n P Q a w:=by
 intro b k cs hro hb hr
 have h0:(lone (b.atR a (.code (.scope c) :: k)) cs w).fenced P F:=fenced_calm hb hr rfl
 obtain ⟨e,a₁,w₁,hq,harr⟩:=h b (.inScope c :: k) cs hro hb hr
 cases e with
 |normal=>exact ⟨.normal,a₁,w₁,hq,.head h0 vW (StepsIn.trans harr (.one (fenced_calm hb hr rfl) X8))⟩
 |exit id =>
  have hx:exitTo id (.inScope c :: k) = exitTo id k:=by simp [exitTo]
  exact ⟨.exit id,a₁,w₁,hq,fun k' hk=>.head h0 vW (harr.1 k' (by rw [hx];exact hk)),
   fun hr' hk=>let ⟨k₁,h1,h2⟩:=harr.2 hr' (by rw [hx];exact hk);⟨k₁,h1,.head h0 vW h2⟩⟩
 |goto l=>exact hq.elim
 |ret=>exact ⟨_,a₁,w₁,hq,.of_steps (.one h0 vW) harr⟩
 |panic ch=>exact ⟨_,a₁,w₁,hq,.of_steps (.one h0 vW) harr⟩
 |outgrown=>exact ⟨_,a₁,w₁,hq,.of_steps (.one h0 vW) harr⟩
end
section
variable {P:Program}
theorem Sc (w:ao) (base:Nat) (t ty e:TypeId) (i:TypeInfo) (z:Value) (bytes:Nat) (ht:P.underlying t = some (.slice e)) (hi:P.info? e = some i) (hz:i.zero = some z)
 (hsize:i.size = 2) (hby:i.bytes = bytes) (hzs:z.cells.size = 2)
 (v:Value) (n:Nat) (xs:List Value) (hown:w.ownsRow base e 2 v n xs)
 (a:Addr) (c:Nat) (news:List Value) (hl:news.length = 2) (hnews:∀ j u,news[j]? = some u→w.cell? (a.add j) = some u) (h1:∀ u ∈ news,u.oneCell' = true)
 (h63:n+1≤maxLen) (hbytes:(n+1)*bytes≤140737488355328) (hbase:base≤w.heap.size):
 ∃ v' w',(Builtin.append_ #[t,t] ty #[v,.slice (some a) 1 c]).run P w = .ok v' w'∧w'.ownsRow base e 2 v' (n+1) (xs++news)∧w.grownBy w' v.ownBlock∧w'.ownsRow base e 2 v n xs∧
  ((v'.ownBlock = v.ownBlock∧∀ W':ao,W'.ownsRow base e 2 v' (n+1) (xs++news)→W'.ownsRow base e 2 v n xs)∨v'.ownBlock = some w.heap.size):=by
 obtain ⟨v',w',hr,h2,h3,_,hat⟩:=run_append_own_at (P:=P) w base t ty e i z 2 bytes ht hi hz hsize hby hzs (by decide) v n xs hown a 1 c news (by rw [hl]) hnews h1 h63 hbytes hbase
 refine ⟨v',w',hr,h2,h3,?_⟩
 rcases hown.2 with ⟨rfl,rfl⟩|⟨g,cap,cur,rfl,hbg,hg,hnc,hcm,hcs,htake⟩
 ·rcases hat with hat|hat
  ·exfalso
   rcases h2.2 with ⟨_,h⟩|⟨g,cap,cur,rfl,_⟩
   ·omega
   ·cases hat
  ·exact ⟨World.ownsRow_nil _ _ _ _ |> fun h=>by
    have hx:xs = []:=List.eq_nil_of_length_eq_zero (by simpa using hown.1)
    rw [hx];exact h,.inr hat⟩
 ·by_cases hroom:n+1≤cap
  ·have hfit:n*i.size+news.length≤cur.size:=by rw [hl,hsize,hcs];omega
   have hr2:=run_append_room (P:=P) w t ty e i ht hi g n cap cur hg a 1 c news (by rw [hl,hsize]) hnews h1 hroom hfit
   rw [hr] at hr2
   injection hr2 with hr2 _
   subst hr2
   exact ⟨gT.back h2 hown.1,.inl ⟨rfl,fun W' h=>gT.back h hown.1⟩⟩
  ·have holds:∀ j u,xs[j]? = some u→w.cell? ((⟨g,0,none⟩:Addr).add j) = some u:=hown.cells (g:=g) rfl
   have hlim:n+1≤9223372036854775807:=by simp only [maxLen] at h63;omega
   have hr2:=run_append_grow (P:=P) w t ty e i z ht hi hz ⟨g,0,none⟩ n cap xs (by rw [hsize];exact hown.1) holds a 1 c news (by rw [hl,hsize]) hnews (by omega) (by omega) (growslice_fits (by omega) (by rw [hby];exact hbytes))
   rw [hr] at hr2
   injection hr2 with hr2 hr3
   subst hr2
   subst hr3
   exact ⟨World.ownsRow.alloc (World.ownsRow.drew hown) _,.inr rfl⟩
variable {ops:Array Oper} {o:Oper} {a:Act} {Q:Exit→Act→ao→Prop} {K:Act→ao→Prop}
theorem Gz {w0 W:ao} (base:Nat) (hw:Region.wanted o (yielded ops a.tmps) = true) (s x:Operand) (t e:TypeId) (z:Value) (bytes:Nat)
 (ho:o.op = .call { callee:=.builtin .append,args:=#[s,x],argTypes:=#[t,t] })
 (ht:P.underlying t = some (.slice e)) (hinfo:(P.info? e).map (fun i=>(i.zero,i.size,i.bytes)) = some (some z,2,bytes)) (hz:z.cells.size = 2) (hb0:0 < bytes)
 (v:Value) (n:Nat) (xs ys:List Value) (hs:a.eval s = v) (hx:a.eval x = .slice (some ⟨W.heap.size,0,none⟩) 1 1) (hys:ys.length = 2) (h1:∀ u ∈ ys,u.oneCell' = true)
 (HO:W.ownsRow base e 2 v n xs) (HB:Below base w0 W) (hbase:base≤W.heap.size) (hl:(n+1)*bytes≤140737488355328)
 (h:∀ v1 w1,w1.ownsRow base e 2 v1 (n+1) (xs++ys)→Below base w0 w1→W.grownBy w1 v.ownBlock→w1.ownsRow base e 2 v n xs→((v1.ownBlock = v.ownBlock∧∀ W':ao,W'.ownsRow base e 2 v1 (n+1) (xs++ys)→W'.ownsRow base e 2 v n xs)∨∃ b,v1.ownBlock = some b∧W.heap.size≤b)→K (a.put o.dst v1) w1):
 if Region.wanted o (yielded ops a.tmps) = true then Oper.wp P o a (W.alloc (.cells ys.toArray e)) K Q else K (a.put o.dst undef) (W.alloc (.cells ys.toArray e)):=by
 obtain ⟨i0,hi,hzz⟩:=Option.map_eq_some_iff.1 hinfo
 simp only [Prod.mk.injEq] at hzz
 obtain ⟨hz0,hz1,hz2⟩:=hzz
 have hlen:n+1≤140737488355328:=Nat.le_trans (Nat.le_mul_of_pos_right _ hb0) hl
 rw [if_pos hw]
 obtain ⟨v1,w1,hr,hown,hg,hst,hat⟩:=Sc (P:=P) (W.alloc (.cells ys.toArray e)) base t o.type e i0 z bytes ht hi hz0 hz1 hz2 hz v n xs (HO.alloc _) ⟨W.heap.size,0,none⟩ 1 ys hys
  (by simpa using World.news_of_block (cs:=ys.toArray) (t:=e) (fr:=(0,0)) (heap_alloc_new W (.cells ys.toArray e))) h1 (by simp only [maxLen];omega) hl (by simp;omega)
 unfold Oper.wp execOp
 simp only [ho,resolve,invoke,builtin,Sem.run_bind,Sem.run_pure,Result.andThen_ok,List.map_toArray,List.map_cons,List.map_nil,hs,hx,hr]
 refine h v1 w1 hown ((HB.alloc hbase _).grown hg (by simp;omega) (Cf HO)) (World.grownBy.trans (World.grownBy_alloc W _ _) hg) hst ?_
 rcases hat with hat|hat
 ·exact .inl hat
 ·exact .inr ⟨_,hat,by simp⟩
theorem aqA {oi:Oper} {N:Option Tmp} {w:ao} {f:FuncId} {fn:Func} {x:Operand} {os:Array Operand} {ts:Array TypeId} (hf:P.funcs[f]? = some fn) (hname:(fn.name == "runtime.NumGoroutine") = false) (hb:fn.body.isSome = true) (args lb:Array Value)
 (hw:Region.wanted oi (yielded ops a.tmps) = true) (hN:oi.dst = N) (hop:oi.op = .call { callee:=.value x,args:=os,argTypes:=ts }) (hx:a.eval x = .func (.func f) #[] lb) (hargs:os.map a.eval = args)
 (h:Calls P f (args++lb) w fun e w'=>∃ v,e = .returned v∧K (a.put N v) w'):if Region.wanted oi (yielded ops a.tmps) = true then Oper.wp P oi a w K Q else K (a.put N undef) w:=by
 refine call_ f (args++lb) hw hN ?_ h
 have he:=Ze hf hname hb (args++lb) w
 unfold execOp
 simp [hop,hx,resolve,Deferred.ofValue,invoke,hargs,he]
end
theorem ant (b n c:Nat) (news:List Value) (w:ao) (hn:news.length = n*2) (hsm:n≤64) (hc:∀ j u,news[j]? = some u→w.cell? ⟨b,0+j,none⟩ = some u) (h1:∀ u ∈ news,u.oneCell' = true):
 Calls Try.prog 108 #[.slice (some ⟨b,0,none⟩) n c] w fun e w'=>∃ v',e = .returned v'∧w'.ownsRow w.heap.size 33 2 v' n news∧Below w.heap.size w w':=by
 obtain ⟨i0,hi,hzz⟩:=Option.map_eq_some_iff.1 Vt
 simp only [Prod.mk.injEq] at hzz
 obtain ⟨hz0,hz1,hz2⟩:=hzz
 have q22:∀ (w:ao) (a:Option Addr) (n c n' c':Nat),(binOp .eql 49 (.slice a n c) (.slice none n' c')).run Try.prog w = .ok (.bool a.isNone) w:=fun w a n c n' c'=>Lib.run_eql_slice_nil w _ _ a n c n' c' Try.underlying49
 have A:Aside (∀ j u,news[j]? = some u→w.cell? ⟨b,0+j,none⟩ = some u):=hc
 clear hc
 go_enter Try.func108,Try.ntmps108
 go_wp2_with (at_builtin;refine wpList_append_own _ rfl _ _ 49 rfl w.heap.size 33 i0 (.agg #[Z ab 0,Z ab 0]) 2 16 Try.underlying49 hi hz0 hz1 hz2 rfl (by decide) _ _ _ rfl (World.ownsRow_made w #[] 0 (Nat.le_refl _) (Nat.zero_le _) (by simp)) ⟨b,0,none⟩ n c news rfl ?qc1 ?qc2 ?qc3 ?qc4 ?qc5 ?qc6 ?_)
 case qc1=>exact hn
 case qc2 =>
  intro j u hj
  rw [Addr.add_lit]
  exact Lib.cell?_alloc_some _ (A.out j u hj)
 case qc3=>exact h1
 case qc4=>rw [Nat.zero_add];simp only [maxLen];omega
 case qc5=>rw [Nat.zero_add];omega
 case qc6=>simp
 intro v' w1 hown hgrow hnil
 go_wp2
 go_ret
 refine ⟨v',rfl,by simpa using hown,?_⟩
 exact ((Below.refl _ w).alloc (Nat.le_refl _) _).grown hgrow (by simp) (by intro k hk;simp [Value.ownBlock] at hk;omega)
theorem afi (v:Value) (l:List gU) (base:Nat) (w:ao) (h:gT w base v l) (h0:0 < l.length) (hsm:l.length≤64):
 Calls Try.prog 108 #[v] w fun e w'=>∃ v',e = .returned v'∧gT w' w.heap.size v' l∧Below w.heap.size w w':=by
 obtain ⟨g,cap,rfl,_⟩:=World.ownsRow.form h h0
 refine ant g l.length cap (Pn l) w (aqz l) hsm (fun j u hu=>?_) (WN l)
 have:=World.ownsRow.cells h (g:=g) rfl j u hu
 rwa [Addr.add_lit] at this
end Go.Proofs.Ytmhaiihjfgfaoaa.Gl
end
section
namespace Go.Proofs.Ytmhaiihjfgfaoaa.Gl
open Go.RowKit Go.Shelf Go.Proofs.YtmhaiihjfgfaoaaW.bu Go.Proofs.YtmhaiihjfgfaoaaW.dB Go.Proofs.YtmhaiihjfgfaoaaW.ek Go.Proofs.Ytmhaiihjfgfaoaa.Pr Go.Proofs.YtmhaiihjfgfaoaaW.Round
attribute [local go_sem] iq iw jq jr iy
attribute [local go_sem] Oper.semAt_some
def ahs (n:Nat) (h:Nat):List gU:=(List.range n).map fun j:Nat=>(⟨(h:Int),(j:Int)⟩:gU)
def Po (n m:Nat):List gU:=(List.range m).flatMap fun r:Nat=>ahs n r
def CL (n q j:Nat):List gU:=Po n q++ahs j q
theorem LB (n q:Nat):CL n q 0 = Po n q:=by unfold CL ahs;simp
theorem IK (n q j:Nat):CL n q (j+1) = CL n q j++[(⟨(q:Int),(j:Int)⟩:gU)]:=by
 unfold CL ahs
 rw [List.range_succ,List.map_append,List.map_singleton,List.append_assoc]
theorem LC (n q:Nat):Po n (q+1) = CL n q n:=by
 unfold CL Po
 rw [List.range_succ,List.flatMap_append,List.flatMap_singleton]
theorem afj (n:Nat):∀ (d q:Nat),Po n q <+:Po n (q+d)
 |0,q=>List.prefix_refl _
 |d+1,q=>by
  refine (afj n d q).trans ?_
  rw [show q+(d+1) = (q+d)+1 by omega,LC]
  exact List.prefix_append _ _
theorem Re {n m q j:Nat} (hq:q < m) (hj:j≤n):CL n q j <+:Po n m:=by
 have h1:CL n q j <+:CL n q n:=by
  unfold CL
  refine (List.prefix_append_right_inj _).2 ?_
  unfold ahs
  refine List.IsPrefix.map _ ?_
  rw [show n = j+(n - j) by omega,List.range_add]
  exact List.prefix_append _ _
 rw [← LC] at h1
 have h2:=afj n (m - (q+1)) (q+1)
 rw [show q+1+(m - (q+1)) = m by omega] at h2
 exact h1.trans h2
abbrev anu (s:lK):={ c:gU // (0≤c.f0∧c.f0≤8)∧0≤c.f1∧c.f1 < s.layers }
def uC (s:lK):List gU:=Po s.layers.toNat 9
def aDP (s:lK) (xs:List (anu s)):Prop:=xs.map Subtype.val = uC s
def aLR (s:lK) (xs:List (anu s)):Prop:=xs.map Subtype.val <+:uC s
theorem afk (b:Nat) (w:ao):Calls Try.prog 100 #[.pointer (some ⟨b,0,none⟩)] w fun e w'=>e = .returned (.func (.func 129) #[] #[.pointer (some ⟨w.heap.size,0,none⟩)])∧w' = w.alloc (.cells #[.pointer (some ⟨b,0,none⟩)] 104):=by
 go_enter Try.func100,Try.ntmps100
 go_wp2
 go_ret
 exact ⟨rfl,rfl⟩
theorem afl (n:Nat) (hn:1≤n) (l bp:Nat) (b:Nat) (s:lK) (v:nW) (En:ao→Prop) (hEn:∀ W,En W→lC W b s v∧dW W bp #[.pointer (some ⟨b,0,none⟩)] 104) (hS:Cm s) (Kp:ao→ao→Prop) (hKp:∀ A B,Kp A B→En A→En B) (J Jx:List (anu s)→ao→Prop)
 (hY:∀ pre c W,J pre W→pre.length < (uC s).length→YieldAt Fence.wide (n - 1) Try.prog l #[.agg #[Z ab c.1.f0,Z ab c.1.f1]] W fun e W' =>
  (e = .returned (.bool true)∧J (pre++[c]) W'∧Kp W W')∨(e = .returned (.bool false)∧Jx (pre++[c]) W'))
 (W:ao) (hE:En W) (h0:J [] W):
 CallsIn Fence.wide n Try.prog 129 #[.func (.yield l) #[] #[],.pointer (some ⟨bp,0,none⟩)] W fun e W'=>(∃ v,e = .returned v)∧
  ((∃ xs,aDP s xs∧J xs W')∨(∃ pre,aLR s pre∧Jx pre W')):=by
 have E9:=Try.underlying33
 have hla:=hS.layers
 have agA:Hid (uC s = Po s.layers.toNat 9):=Lib.hid rfl
 refine callsIn_of_wp Try.func129 rfl trivial ?_ rfl
 simp only [Try.ntmps129,List.size_toArray,List.length_cons,List.length_nil,Nat.reduceAdd,Nat.reduceSub,Array.replicate_succ,Array.replicate_zero,List.push_toArray,List.append_toArray,List.nil_append,List.cons_append]
 gi_wp2
 gi_loopw [5] (fun i wr=>∃ (q:Nat) (pre:List (anu s)),q≤9∧i = Z ab (q:Int)∧Hid (pre.map Subtype.val = CL s.layers.toNat q 0)∧En wr∧J pre wr) (fun i _=>(9 - intOf i).toNat)
 case atStart=>exact ⟨0,[],Nat.zero_le _,rfl,Lib.hid (by rw [LB];rfl),hE,h0⟩
 case round =>
  clear hE h0
  obtain ⟨q,pre,hq,rfl,HP,hE,hJs⟩:=hrel
  obtain ⟨⟨A7,c7,A8,c8,mT,_⟩,mP⟩:=hEn _ hE
  have cP:=(ae mP 0).trans rfl
  have cT:=(ae mT 5).trans rfl
  clear mT mP
  by_cases hlt:(q:Int) < 9
  ·gi_wp2
   clear cP cT
   gi_loopw [13] (fun i wr2=>∃ (j:Nat) (Qm:List (anu s)),j≤s.layers.toNat∧i = Z ab (j:Int)∧Hid (Qm.map Subtype.val = CL s.layers.toNat q j)∧En wr2∧J Qm wr2) (fun i _=>(s.layers - intOf i).toNat)
   case atStart=>exact ⟨0,pre,Nat.zero_le _,rfl,HP,hE,hJs⟩
   case round =>
    clear hE hJs
    obtain ⟨j,Qm,hj,rfl,HQ,hE,hJ2⟩:=hrel
    by_cases hjk:(j:Int) < s.layers
    ·have hlen:Qm.length < (uC s).length:=by
      have h1:=Re (n:=s.layers.toNat) (m:=9) (show q < 9 by omega) (show j+1≤s.layers.toNat by omega)
      have h2:=h1.length_le
      rw [IK,← HQ.out,← agA.out] at h2
      simp at h2
      omega
     obtain ⟨fn,tmps,assign,body,hy,hR⟩:=hY Qm ⟨⟨(q:Int),(j:Int)⟩,⟨by dsimp only;omega,by dsimp only;omega⟩,by dsimp only;omega,hjk⟩ _ hJ2 hlen
     dsimp only at hy
     gi_wp2
     refine hR.mono ?_
     rintro e W3 (⟨rfl,hJ3,hk3⟩|⟨rfl,hJx3⟩)
     ·have hE3:=hKp _ _ hk3 hE
      clear hk3 hE
      gi_wp2
      go_roundw
      case rel=>exact ⟨j+1,_,by omega,by simp,Lib.hid (by rw [List.map_append,HQ.out,IK];rfl),hE3,hJ3⟩
      case measure=>simp [intOf];omega
     ·gi_wp2
      refine bodyPost_ret (results_none rfl _ _ _) rfl ?_
      refine ⟨⟨_,rfl⟩,.inr ⟨_,?_,hJx3⟩⟩
      show List.map Subtype.val _ <+:_
      rw [List.map_append,HQ.out,List.map_singleton,← IK,agA.out]
      exact Re (by omega) (by omega)
    ·obtain rfl:j = s.layers.toNat:=by omega
     gi_wp2
     go_roundw
     case rel=>exact ⟨q+1,Qm,by omega,by simp,Lib.hid (by rw [HQ.out,LB,← LC]),hE,hJ2⟩
     case measure=>simp [intOf];omega
  ·obtain rfl:q = 9:=by omega
   gi_wp2
   go_end0
   exact ⟨⟨_,rfl⟩,.inl ⟨pre,by unfold aDP;rw [agA.out,HP.out,LB],hJs⟩⟩
end Go.Proofs.Ytmhaiihjfgfaoaa.Gl
end
section
namespace Go.Proofs.Ytmhaiihjfgfaoaa.Gl
open Go.RowKit Go.Proofs.YtmhaiihjfgfaoaaW.bu Go.Proofs.YtmhaiihjfgfaoaaW.dB Go.Proofs.Ytmhaiihjfgfaoaa.Pr
def Pp (p:BX) (u:Int) (x:iA):Bool:=nU u p.f1 p.f2 && decide (M5 x p.f0 = 2)
def anv (v:nW) (left cost:Int) (c:gU) (st:List gU × Int) (next:List gU × Int):List gU × Int :=
 if left - (jG v c).f1 < v.reserve then st else if 0≤st.2∧st.2≤cost+(jG v c).f1 then st else next
def Am (s:lK) (v:nW) (p:BX):Nat→iA→Int→Int→Int→List gU→Bool→List gU × Int→List gU × Int
 |0,_,_,_,cost,plan,there,st=>if there = true∧(st.2 < 0∨cost < st.2) then (plan,cost) else st
 |n+1,x,t,left,cost,plan,there,st=>(uC s).foldl (fun st c=>anv v left cost c st (if nY s v x t≠0 then st else
  Am s v p n (mW s v x t c.f0 c.f1) (t+v.bq) (left - (jG v c).f1) (cost+(jG v c).f1) (plan++[c]) (there || Pp p (t+v.bq) (mW s v x t c.f0 c.f1)) st)) st
def stepG (s:lK) (v:nW) (p:BX) (n:Nat) (x:iA) (t left cost:Int) (plan:List gU) (there:Bool) (st:List gU × Int) (c:gU):List gU × Int :=
 anv v left cost c st (if nY s v x t≠0 then st else
  Am s v p n (mW s v x t c.f0 c.f1) (t+v.bq) (left - (jG v c).f1) (cost+(jG v c).f1) (plan++[c]) (there || Pp p (t+v.bq) (mW s v x t c.f0 c.f1)) st)
theorem WO (s:lK) (v:nW) (p:BX) (n:Nat) (x:iA) (t left cost:Int) (plan:List gU) (there:Bool) (st:List gU × Int):Am s v p (n+1) x t left cost plan there st = (uC s).foldl (stepG s v p n x t left cost plan there) st:=rfl
theorem Rf (v:nW) (left cost:Int) (c:gU) (st:List gU × Int):anv v left cost c st st = st:=by
 unfold anv
 split
 ·rfl
 ·split <;> rfl
def AU (s:lK) (v:nW) (p:BX) (x:iA) (t:Int) (e:jK):Nat→List gU × Int
 |0=>([],-1)
 |n+1=>Am s v p (n+1) x t e.f0 0 [] false (AU s v p x t e n)
def JW (s:lK) (v:nW) (x:iA) (t:Int) (e:jK) (p:BX) (d:Int):Int :=
 if oL s v x t≠0 then oL s v x t else if si e.f0 e.f1 0 1073741824 = false then 2 else if AR p = false then 2 else if d < 1 then 3 else if 3 < d then 3
 else if (AU s v p x t e d.toNat).2 < 0 then 15 else 0
def afm (s:lK) (v:nW) (x:iA) (t:Int) (e:jK) (p:BX) (d:Int):List gU × Int :=
 if JW s v x t e p d = 0 then AU s v p x t e d.toNat else ([],0)
def lY (s:lK):Nat→List (List gU)
 |0=>[[]]
 |n+1=>(uC s).flatMap fun c=>(lY s n).map (c :: ·)
def yj (s:lK) (v:nW) (p:BX):List gU→iA→Int→Int→Bool→Bool
 |[],_,_,_,there=>there
 |c :: l,x,t,left,there=>decide (nY s v x t = 0) && (decide (v.reserve≤left - (jG v c).f1) && yj s v p l (mW s v x t c.f0 c.f1) (t+v.bq) (left - (jG v c).f1) (there || Pp p (t+v.bq) (mW s v x t c.f0 c.f1)))
def mU (v:nW):List gU→Int
 |[]=>0
 |c :: l=>(jG v c).f1+mU v l
theorem BS {v:nW} (hv:wZ v = true):∀ l,0≤mU v l
 |[]=>Int.le_refl 0
 |c :: l=>by
  have h1:=BS hv l
  have h2:=Gr hv c
  unfold mU
  omega
def Jh (g:List gU→Bool) (k:List gU→Int) (st:List gU × Int) (l:List gU):List gU × Int:=if g l = true∧(st.2 < 0∨k l < st.2) then (l,k l) else st
theorem afn {g g':List gU→Bool} {k k':List gU→Int} {st:List gU × Int} {l:List gU} (h:g l = g' l) (h2:k l = k' l):Jh g k st l = Jh g' k' st l:=by
 unfold Jh
 rw [h,h2]
theorem uq {g:List gU→Bool} {k:List gU→Int}:∀ (L:List (List gU)) (st:List gU × Int),(∀ l ∈ L,g l = true→0≤st.2∧st.2≤k l)→L.foldl (Jh g k) st = st
 |[],st,_=>rfl
 |l :: L,st,h=>by
  have h1:Jh g k st l = st:=by
   unfold Jh
   by_cases hg:g l = true
   ·have:=h l List.mem_cons_self hg
    rw [if_neg (by omega)]
   ·rw [if_neg (fun q=>hg q.1)]
  rw [List.foldl_cons,h1]
  exact uq L st (fun l' hl'=>h l' (List.mem_cons_of_mem _ hl'))
theorem JX {α β γ:Type} (f:α→List β) (g:γ→β→γ):∀ (l:List α) (b:γ),(l.flatMap f).foldl g b = l.foldl (fun b a=>(f a).foldl g b) b
 |[],_=>rfl
 |a :: l,b=>by rw [List.flatMap_cons,List.foldl_append,List.foldl_cons,JX f g l]
theorem IL {α β:Type} {f g:β→α→β}:∀ (l:List α) (b:β),(∀ b a,a ∈ l→f b a = g b a)→l.foldl f b = l.foldl g b
 |[],_,_=>rfl
 |a :: l,b,h=>by rw [List.foldl_cons,List.foldl_cons,h b a List.mem_cons_self];exact IL l _ (fun b' a' ha=>h b' a' (List.mem_cons_of_mem _ ha))
theorem CO {α β:Type} {f:β→α→β}:∀ (l:List α) (b:β),(∀ b a,a ∈ l→f b a = b)→l.foldl f b = b
 |[],_,_=>rfl
 |a :: l,b,h=>by rw [List.foldl_cons,h b a List.mem_cons_self];exact CO l _ (fun b' a' ha=>h b' a' (List.mem_cons_of_mem _ ha))
theorem YV {s:lK} {v:nW} {p:BX} (hv:wZ v = true):∀ (n:Nat) (x:iA) (t left cost:Int) (plan:List gU) (there:Bool) (st:List gU × Int),
 Am s v p n x t left cost plan there st = ((lY s n).map (plan++·)).foldl (Jh (fun l=>yj s v p (l.drop plan.length) x t left there) (fun l=>cost+mU v (l.drop plan.length))) st
 |0,x,t,left,cost,plan,there,st=>by
  have e:(plan++([]:List gU)).drop plan.length = []:=by simp
  simp only [Am,lY,List.map_cons,List.map_nil,List.foldl_cons,List.foldl_nil,Jh,e,yj,mU,Int.add_zero,List.append_nil]
  rw [List.drop_length]
  simp only [yj,mU,Int.add_zero]
 |n+1,x,t,left,cost,plan,there,st=>by
  have HM:(lY s (n+1)).map (plan++·) = (uC s).flatMap fun c=>(lY s n).map fun l=>(plan++[c])++l:=by
   rw [show lY s (n+1) = (uC s).flatMap fun c=>(lY s n).map (c :: ·) from rfl,List.map_flatMap]
   congr 1
   funext c
   rw [List.map_map]
   congr 1
   funext l
   simp
  rw [HM,JX]
  unfold Am
  have hdr:∀ (c:gU) (l:List gU),((plan++[c])++l).drop plan.length = c :: l:=by
   intro c l
   rw [List.append_assoc,List.drop_left]
   rfl
  have aLS:∀ (c:gU) (l:List gU),((plan++[c])++l).drop (plan++[c]).length = l:=fun c l=>List.drop_left
  by_cases hd:nY s v x t = 0
  ·refine IL _ _ (fun st c _=>?_)
   rw [if_neg (fun q=>q hd)]
   have hus:=Gr hv c
   unfold anv
   by_cases h1:left - (jG v c).f1 < v.reserve
   ·rw [if_pos h1]
    refine (uq _ _ (fun l hl hg=>?_)).symm
    obtain ⟨l',_,rfl⟩:=List.mem_map.1 hl
    rw [hdr] at hg
    unfold yj at hg
    rw [decide_eq_false (show ¬ (v.reserve≤left - (jG v c).f1) by omega)] at hg
    simp at hg
   ·rw [if_neg h1]
    by_cases h2:0≤st.2∧st.2≤cost+(jG v c).f1
    ·rw [if_pos h2]
     refine (uq _ _ (fun l hl hg=>?_)).symm
     obtain ⟨l',_,rfl⟩:=List.mem_map.1 hl
     rw [hdr]
     unfold mU
     have:=BS hv l'
     omega
    ·rw [if_neg h2,YV hv n]
     rw [List.foldl_map,List.foldl_map]
     refine IL _ _ (fun st l _=>?_)
     refine afn ?_ ?_
     ·show yj s v p (List.drop (plan++[c]).length ((plan++[c])++l)) _ _ _ _ = yj s v p (List.drop plan.length ((plan++[c])++l)) _ _ _ _
      rw [hdr,aLS]
      simp only [yj,decide_eq_true hd,decide_eq_true (show v.reserve≤left - (jG v c).f1 by omega),Bool.true_and]
     ·show cost+(jG v c).f1+mU v (List.drop (plan++[c]).length ((plan++[c])++l)) = cost+mU v (List.drop plan.length ((plan++[c])++l))
      rw [hdr,aLS]
      simp only [mU]
      rw [Int.add_assoc]
  ·rw [CO (f:=fun st c=>anv v left cost c st (if nY s v x t≠0 then st else _)) (uC s) st (fun st c _=>by rw [if_pos hd];exact Rf _ _ _ _ _)]
   refine (CO _ _ (fun st c _=>uq _ _ (fun l hl hg=>?_))).symm
   obtain ⟨l',_,rfl⟩:=List.mem_map.1 hl
   rw [hdr] at hg
   unfold yj at hg
   rw [decide_eq_false hd] at hg
   simp at hg
theorem zu {s:lK}:∀ (n:Nat) (l:List gU),l ∈ lY s n↔l.length = n∧∀ c ∈ l,c ∈ uC s
 |0,l=>by
  unfold lY
  rw [List.mem_singleton]
  refine ⟨fun h=>?_,fun h=>List.eq_nil_of_length_eq_zero h.1⟩
  subst h
  exact ⟨rfl,fun c hc=>absurd hc List.not_mem_nil⟩
 |n+1,l=>by
  unfold lY
  rw [List.mem_flatMap]
  refine ⟨fun ⟨c,hc,hl⟩=>?_,fun ⟨h,ha⟩=>?_⟩
  ·obtain ⟨l',hl',rfl⟩:=List.mem_map.1 hl
   obtain ⟨h1,h2⟩:=(zu n l').1 hl'
   refine ⟨by rw [List.length_cons,h1],fun c' hc'=>?_⟩
   rcases List.mem_cons.1 hc' with rfl|hc'
   ·exact hc
   ·exact h2 c' hc'
  ·cases l with
   |nil=>cases h
   |cons c l =>
    rw [List.length_cons] at h
    exact ⟨c,ha c List.mem_cons_self,List.mem_map.2 ⟨l,(zu n l).2 ⟨by omega,fun c' hc'=>ha c' (List.mem_cons_of_mem _ hc')⟩,rfl⟩⟩
theorem YW {s:lK} {v:nW} {p:BX}:∀ (l:List gU) (x:iA) (t:Int) (E:jK) (there:Bool) (n m:Int) (out:List iA) (oe:List jK) (t0 acc:Int),(acc = 2↔there = true)→acc≤2→Gx v.bq p out t0 0 = acc→t = t0+(out.length:Int)*v.bq→
 (yj s v p l x t E.f0 there = true↔(rF s v l x t n out).2.2 = 0∧(WC v l E m oe).2.2 = 0∧Gx v.bq p (rF s v l x t n out).1 t0 0 = 2)
 |[],x,t,E,there,n,m,out,oe,t0,acc,h0,h1,h2,h3=>by
  unfold yj rF WC
  dsimp only
  rw [h2]
  exact ⟨fun h=>⟨rfl,rfl,h0.2 h⟩,fun h=>h0.1 h.2.2⟩
 |c :: l,x,t,E,there,n,m,out,oe,t0,acc,h0,h1,h2,h3=>by
  unfold yj rF WC
  by_cases hd:nY s v x t = 0
  ·rw [decide_eq_true hd,Bool.true_and,if_neg (fun q=>q hd)]
   by_cases hl:E.f0 - (jG v c).f1 < v.reserve
   ·rw [decide_eq_false (show ¬ (v.reserve≤E.f0 - (jG v c).f1) by omega),Bool.false_and,if_pos hl]
    exact ⟨(fun h=>by cases h),(fun h=>by cases h.2.1)⟩
   ·rw [decide_eq_true (show v.reserve≤E.f0 - (jG v c).f1 by omega),Bool.true_and,if_neg hl]
    have hf:=afo v.bq p out (mW s v x t c.f0 c.f1) t0 0
    rw [← h3,h2] at hf
    refine YW l _ _ ⟨E.f0 - (jG v c).f1,E.f1 - (jG v c).f0⟩ _ _ _ _ _ t0 _ ?_ ?_ hf ?_
    ·unfold Pp
     rw [Bool.or_eq_true,Bool.and_eq_true,jg,decide_eq_true_eq,← h0]
     have hin:=ak2 (mW s v x t c.f0 c.f1) p.f0
     by_cases hb:p.f1≤t+v.bq∧t+v.bq≤p.f2
     ·rw [if_pos hb];omega
     ·rw [if_neg hb];omega
    ·have hin:=ak2 (mW s v x t c.f0 c.f1) p.f0
     split <;> omega
    ·rw [List.length_append,List.length_singleton,h3,Int.natCast_add,Int.add_mul]
     simp only [Int.natCast_one,Int.one_mul]
     omega
  ·rw [decide_eq_false hd,Bool.false_and,if_pos hd]
   exact ⟨(fun h=>by cases h),fun h=>absurd h.1 hd⟩
where
 afo (bq:Int) (p:BX):∀ (out:List iA) (b:iA) (t acc:Int),Gx bq p (out++[b]) t acc = (if p.f1≤t+(out.length:Int)*bq+bq∧t+(out.length:Int)*bq+bq≤p.f2 then max (Gx bq p out t acc) (M5 b p.f0) else Gx bq p out t acc)
  |[],b,t,acc=>by simp [Gx]
  |a :: out,b,t,acc=>by
   rw [List.cons_append]
   unfold Gx
   rw [afo bq p out b]
   rw [show t+bq+(out.length:Int)*bq+bq = t+((a :: out).length:Int)*bq+bq by rw [List.length_cons,Int.natCast_add,Int.add_mul];simp only [Int.natCast_one,Int.one_mul];omega]
 ak2 (a b:iA):M5 a b≤2:=by
  unfold M5
  have h0:=ayB a.f0 b.f0
  omega
end Go.Proofs.Ytmhaiihjfgfaoaa.Gl
end
section
namespace Go.Proofs.Ytmhaiihjfgfaoaa.Gl
open Go.RowKit Go.Shelf Go.Proofs.YtmhaiihjfgfaoaaW.bu Go.Proofs.YtmhaiihjfgfaoaaW.dB Go.Proofs.YtmhaiihjfgfaoaaW.ek Go.Proofs.Ytmhaiihjfgfaoaa.Pr Go.Proofs.YtmhaiihjfgfaoaaW.Round
attribute [local go_sem] iq iw jq jr iy
attribute [local go_sem] Oper.semAt_some
end Go.Proofs.Ytmhaiihjfgfaoaa.Gl
end
