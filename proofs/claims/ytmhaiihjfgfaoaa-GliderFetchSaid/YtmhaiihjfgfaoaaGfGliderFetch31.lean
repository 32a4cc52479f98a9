import Derived.Test.YtmhaiihjfgfaoaaGfGliderFetch3
import Derived.Test.YtmhaiihjfgfaoaaGfGliderFetch7
import Derived.Test.YtmhaiihjfgfaoaaGfGliderFetch30
import Derived.Test.YtmhaiihjfgfaoaaGfGliderFetch16
import Derived.Test.YtmhaiihjfgfaoaaGfGliderFetch15
set_option linter.unusedVariables false
set_option linter.unusedSimpArgs false
open Go.Value renaming int → U
open Go.IntKind renaming i64 → Z
open Bool renaming true → ab, false → ac
section
namespace Go.Proofs.Ytmhaiihjfgfaoaa.Pr
open Go.RowKit Go.Proofs.YtmhaiihjfgfaoaaW.PrintWords Go.Proofs.YtmhaiihjfgfaoaaW.PrintLast Go.Proofs.YtmhaiihjfgfaoaaW.PrintMore
attribute [local go_sem] gp gq iA iB gu
set_option linter.unusedVariables false
set_option linter.unusedSimpArgs false
attribute [local go_sem high] aoa
def Jy.f (k:Nat) (ai:Int) (aj:Int) (aI:Int) (aG:Int):Option (Int × Int):=(dU.f k (([(⟨ai,aj⟩:ky),(⟨aI,aG⟩:ky)]:List (ky)))).bind fun Gm=>(if Gm = 0 then ((kr.f ai aj aI aG).bind fun DD=>(if DD.2.2 = true then (if (DD.1 == ai && (DD.2.1 == aj)) = true then (some (2,0)) else (some (1,0))) else (some (0,0)))) else (some (0,Gm)))
set_option maxHeartbeats 8000000 in
set_option maxRecDepth 100000 in
theorem Jy.calls (k:Nat) (ai:Int) (aj:Int) (aI:Int) (aG:Int) (r1:Int) (r2:Int) (w:World) (h:Jy.f k ai aj aI aG = some (r1,r2)):
 Calls Try.prog 128 #[.agg #[U Z ai,U Z aj],.agg #[U Z aI,U Z aG]] w fun e w'=>e = .returned (.tuple #[U Z r1,U Z r2])∧Below w.heap.size w w':=by
 have pz:=Try.underlying27
 have HB:=aa.mk (Below.refl w.heap.size w)
 have H:((dU.f k (([(⟨ai,aj⟩:ky),(⟨aI,aG⟩:ky)]:List (ky)))).bind fun Gm=>(if Gm = 0 then ((kr.f ai aj aI aG).bind fun DD=>(if DD.2.2 = true then (if (DD.1 == ai && (DD.2.1 == aj)) = true then (some (2,0)) else (some (1,0))) else (some (0,0)))) else (some (0,Gm)))) = some (r1,r2):=h
 clear h
 obtain ⟨ZG,acQ⟩:∃ y_:List (ky),y_ = (([(⟨ai,aj⟩:ky),(⟨aI,aG⟩:ky)]:List (ky))):=⟨_,rfl⟩
 replace H:((dU.f k ZG).bind fun Gm=>(if Gm = 0 then ((kr.f ai aj aI aG).bind fun DD=>(if DD.2.2 = true then (if (DD.1 == ai && (DD.2.1 == aj)) = true then (some (2,0)) else (some (1,0))) else (some (0,0)))) else (some (0,Gm)))) = some (r1,r2):=by first|(rw [acQ];with_reducible exact H)|(have Ji:=(Option.bind_some _ _).symm.trans H;rw [acQ];with_reducible exact Ji)|(have Ji:=(Option.bind_some _ _).symm.trans H;with_reducible exact Ji)|with_reducible exact H|(rw [acQ];exact H)|exact H
 have QS:=aa.mk acQ
 clear acQ
 replace H:=Option.bind_eq_some_iff.mp H
 obtain ⟨Gm,QH,H⟩:=H
 replace H:(if Gm = 0 then ((kr.f ai aj aI aG).bind fun DD=>(if DD.2.2 = true then (if (DD.1 == ai && (DD.2.1 == aj)) = true then (some (2,0)) else (some (1,0))) else (some (0,0)))) else (some (0,Gm))) = some (r1,r2):=H
 have A3:=aa.mk QH
 clear QH
 by_cases c4:Gm = 0
 ·rw [if_pos c4] at H
  have tN:(Gm == 0) = true:=beq_iff_eq.mpr c4
  have amh:(Gm != 0) = false:=bne_eq_false_iff_eq.mpr c4
  clear c4
  replace H:=Option.bind_eq_some_iff.mp H
  obtain ⟨⟨Qe,Qf,aG8⟩,QF,H⟩:=H
  replace H:(if aG8 = true then (if (Qe == ai && (Qf == aj)) = true then (some (2,0)) else (some (1,0))) else (some (0,0))) = some (r1,r2):=H
  have A5:=aa.mk QF
  clear QF
  by_cases c6:aG8 = true
  ·subst c6
   have H1:(if (Qe == ai && (Qf == aj)) = true then (some (2,0)) else (some (1,0))) = some (r1,r2):=by rw [if_pos rfl] at H;exact H
   clear H
   have H:=H1
   clear H1
   by_cases c7:(Qe == ai && (Qf == aj)) = true
   ·rw [if_pos c7] at H
    have Q7:(Qe == ai && (Qf == aj)) = true:=c7
    (try (have aYc:decide (Qe = ai && (Qf == aj)) = true:=by simpa using c7))
    (try (have aYd:(Qe == ai && (Qf == aj)) = true:=by simpa using c7))
    clear c7
    simp only [Option.some.injEq,Prod.mk.injEq] at H
    obtain ⟨rfl,rfl⟩:=H
    go_enter Try.func128,Try.ntmps128
    go_wp2_with (first|((with_reducible refine aA (N:=2) rfl ?_);refine au (by rfl) (N:=2) (by rfl) (cs:=#[U Z ai,U Z aj]) (t:=27) fG ?_;intro UJ hg w8 hbox hb;have jy:=aa.mk (hbox);have aob:=bS HB hg;have aoc:=bS HB hg;replace HB:=cO HB hb;clear hb hbox hg)|((with_reducible refine aA (N:=3) rfl ?_);refine au (by rfl) (N:=3) (by rfl) (cs:=#[U Z aI,U Z aG]) (t:=27) fG ?_;intro UK hg w9 hbox hb;have lZ:=aa.mk (hbox);have aod:=bS HB hg;have aoe:=bS HB hg;have Aj:=eQ jy hg;have Ak:=eT jy hg;replace jy:=aX jy hb;replace HB:=cO HB hb;clear hb hbox hg;have VL:=Aj.out;have VM:=Ak.out;obtain ⟨uk,um,uo,uq⟩:=iZ jy.out;obtain ⟨o6,o7,o8,o9⟩:=iZ lZ.out)|((with_reducible refine aA (N:=11) rfl ?_);refine Kd.Dk k27 _ 27 (by rfl) (N:=11) (by rfl) (xs:=([(⟨ai,aj⟩:ky),(⟨aI,aG⟩:ky)]:List (ky))) (inner:=[U Z ai,U Z aj,U Z aI,U Z aG]) (ok:=fun _=>True) (okp:=fun _=>True) fG auM (fun _ hk=>hk) trivial (Below.refl _ _) (Nat.le_refl _) (by simp) ?_;intro aAc FD aof hb M4 pW;clear M4 pW;(first|rw [← QS.out] at aof|(simp only [Int.reduceToNat] at aof;rw [← QS.out] at aof));have oK:=aa.mk (Kd.lX (Kd.vw (Kd.vw aof (g:=UJ) (o:=.cells #[U Z ai,U Z aj] 27 (0,0)) gB) (g:=UK) (o:=.cells #[U Z aI,U Z aG] 27 (0,0)) gB) (iq gL));replace jy:=aX jy hb;replace lZ:=aX lZ hb;replace HB:=cO HB hb;clear hb aof;obtain ⟨aYe,aYf,aYg⟩:=Kd.nR oK.out;subst aYg)|((with_reducible refine aQ (f:=116) rfl ?_);refine dn (some 12) rfl rfl Try.func116 aM rfl #[.slice aYe ZG.length aYf] rfl ji ?_;(with_reducible refine (dU.calls k _ _ ZG Gm _ ?cZ ?df A3.out).mono ?_);(case cZ=>repeat (first|exact (Kd.gZ oK.out).2.2|(with_reducible refine Kd.bC ?_ _)|(with_reducible refine Kd.bD ?_ _)|(with_reducible refine Kd.bN ?_)));(case df=>exact (Kd.gZ oK.out).2.1);rintro e w16 ⟨rfl,hb⟩;refine ⟨_,rfl,?_⟩;replace oK:=zt oK hb;replace jy:=aX jy hb;replace lZ:=aX lZ hb;replace HB:=cO HB hb;(try clear hb);(try clear hb2);(try clear hk);(try clear hi);obtain ⟨uy,uz,uA,uB⟩:=iZ jy.out;obtain ⟨Ee,Ef,Eg,Eh⟩:=iZ lZ.out)|((with_reducible refine aQ (f:=138) rfl ?_);refine dn (some 19) rfl rfl Try.func138 aM rfl #[.agg #[U Z ai,U Z aj],.agg #[U Z aI,U Z aG]] rfl ji ?_;(with_reducible refine (kr.calls ai aj aI aG Qe Qf true _ A5.out).mono ?_);rintro e w19 ⟨rfl,hb⟩;refine ⟨_,rfl,?_⟩;replace oK:=zt oK hb;replace jy:=aX jy hb;replace lZ:=aX lZ hb;replace HB:=cO HB hb;(try clear hb);(try clear hb2);(try clear hk);(try clear hi))|((with_reducible refine aA (N:=7) rfl ?_);refine au (by rfl) (N:=7) (by rfl) (cs:=#[U Z 0,U Z 0]) (t:=27) fG ?_;intro acR hg I4 hbox hb;have acS:=aa.mk (hbox);have axA:=bS HB hg;have axB:=bS HB hg;have Gn:=eQ jy hg;have Gp:=eT jy hg;have Gq:=eQ lZ hg;have Gr:=eT lZ hg;replace oK:=aa.mk (Kd.mH (Kd.tK azZ acR (Nat.le_of_eq hg.symm)) hb);replace jy:=aX jy hb;replace lZ:=aX lZ hb;replace HB:=cO HB hb;clear hb hbox hg;have V7:=Gp.out;have V8:=Gn.out;have V9:=Gr.out;have Wd:=Gq.out;obtain ⟨Ce,Cf,Cg,Ch⟩:=iZ acS.out;obtain ⟨rC,rD,rE,rF⟩:=iZ jy.out))
    go_ret2
    exact ⟨lW,gL⟩
   ·rw [if_neg c7] at H
    have Q7:(Qe == ai && (Qf == aj)) = false:=by simpa using c7
    (try (have aYc:decide (Qe = ai && (Qf == aj)) = false:=by simpa using c7))
    (try (have aYd:(Qe == ai && (Qf == aj)) = false:=by simpa using c7))
    (try (have a7Q:¬ (Qe = ai && (Qf == aj)):=by simpa using c7))
    clear c7
    simp only [Option.some.injEq,Prod.mk.injEq] at H
    obtain ⟨rfl,rfl⟩:=H
    go_enter Try.func128,Try.ntmps128
    go_wp2_with (first|((with_reducible refine aA (N:=2) rfl ?_);refine au (by rfl) (N:=2) (by rfl) (cs:=#[U Z ai,U Z aj]) (t:=27) fG ?_;intro UJ hg w25 hbox hb;have jy:=aa.mk (hbox);have aob:=bS HB hg;have aoc:=bS HB hg;replace HB:=cO HB hb;clear hb hbox hg)|((with_reducible refine aA (N:=3) rfl ?_);refine au (by rfl) (N:=3) (by rfl) (cs:=#[U Z aI,U Z aG]) (t:=27) fG ?_;intro UK hg xk hbox hb;have lZ:=aa.mk (hbox);have aod:=bS HB hg;have aoe:=bS HB hg;have Aj:=eQ jy hg;have Ak:=eT jy hg;replace jy:=aX jy hb;replace HB:=cO HB hb;clear hb hbox hg;have anw:=Aj.out;have anx:=Ak.out;obtain ⟨NU,NV,NW,NY⟩:=iZ jy.out;obtain ⟨vZ,wh,wm,wo⟩:=iZ lZ.out)|((with_reducible refine aA (N:=11) rfl ?_);refine Kd.Dk k27 _ 27 (by rfl) (N:=11) (by rfl) (xs:=([(⟨ai,aj⟩:ky),(⟨aI,aG⟩:ky)]:List (ky))) (inner:=[U Z ai,U Z aj,U Z aI,U Z aG]) (ok:=fun _=>True) (okp:=fun _=>True) fG auM (fun _ hk=>hk) trivial (Below.refl _ _) (Nat.le_refl _) (by simp) ?_;intro aAc w30 aog hb M4 pW;clear M4 pW;(first|rw [← QS.out] at aog|(simp only [Int.reduceToNat] at aog;rw [← QS.out] at aog));have oK:=aa.mk (Kd.lX (Kd.vw (Kd.vw aog (g:=UJ) (o:=.cells #[U Z ai,U Z aj] 27 (0,0)) gB) (g:=UK) (o:=.cells #[U Z aI,U Z aG] 27 (0,0)) gB) (iq gL));replace jy:=aX jy hb;replace lZ:=aX lZ hb;replace HB:=cO HB hb;clear hb aog;obtain ⟨aYh,aYi,aYj⟩:=Kd.nR oK.out;subst aYj)|((with_reducible refine aQ (f:=116) rfl ?_);refine dn (some 12) rfl rfl Try.func116 aM rfl #[.slice aYh ZG.length aYi] rfl ji ?_;(with_reducible refine (dU.calls k _ _ ZG Gm _ ?cZ ?df A3.out).mono ?_);(case cZ=>repeat (first|exact (Kd.gZ oK.out).2.2|(with_reducible refine Kd.bC ?_ _)|(with_reducible refine Kd.bD ?_ _)|(with_reducible refine Kd.bN ?_)));(case df=>exact (Kd.gZ oK.out).2.1);rintro e I5 ⟨rfl,hb⟩;refine ⟨_,rfl,?_⟩;replace oK:=zt oK hb;replace jy:=aX jy hb;replace lZ:=aX lZ hb;replace HB:=cO HB hb;(try clear hb);(try clear hb2);(try clear hk);(try clear hi);obtain ⟨EH,EI,EJ,EK⟩:=iZ jy.out;obtain ⟨D6,D7,D8,D9⟩:=iZ lZ.out)|((with_reducible refine aQ (f:=138) rfl ?_);refine dn (some 19) rfl rfl Try.func138 aM rfl #[.agg #[U Z ai,U Z aj],.agg #[U Z aI,U Z aG]] rfl ji ?_;(with_reducible refine (kr.calls ai aj aI aG Qe Qf true _ A5.out).mono ?_);rintro e w36 ⟨rfl,hb⟩;refine ⟨_,rfl,?_⟩;replace oK:=zt oK hb;replace jy:=aX jy hb;replace lZ:=aX lZ hb;replace HB:=cO HB hb;(try clear hb);(try clear hb2);(try clear hk);(try clear hi))|((with_reducible refine aA (N:=7) rfl ?_);refine au (by rfl) (N:=7) (by rfl) (cs:=#[U Z 0,U Z 0]) (t:=27) fG ?_;intro acR hg w37 hbox hb;have acS:=aa.mk (hbox);have axA:=bS HB hg;have axB:=bS HB hg;have Gn:=eQ jy hg;have Gp:=eT jy hg;have Gq:=eQ lZ hg;have Gr:=eT lZ hg;replace oK:=aa.mk (Kd.mH (Kd.tK azZ acR (Nat.le_of_eq hg.symm)) hb);replace jy:=aX jy hb;replace lZ:=aX lZ hb;replace HB:=cO HB hb;clear hb hbox hg;have af2:=Gp.out;have af3:=Gn.out;have aoh:=Gr.out;have aoi:=Gq.out;obtain ⟨IB,IC,IE,IG⟩:=iZ acS.out;obtain ⟨ah8,ah9,aia,aib⟩:=iZ jy.out))
    go_ret2
    exact ⟨lW,gL⟩
  ·replace c6:=Bool.eq_false_iff.mpr c6
   subst c6
   have H1:(some (0,0)) = some (r1,r2):=by rw [if_neg (show ¬ (false = true) by decide)] at H;exact H
   clear H
   have H:=H1
   clear H1
   simp only [Option.some.injEq,Prod.mk.injEq] at H
   obtain ⟨rfl,rfl⟩:=H
   go_enter Try.func128,Try.ntmps128
   go_wp2_with (first|((with_reducible refine aA (N:=2) rfl ?_);refine au (by rfl) (N:=2) (by rfl) (cs:=#[U Z ai,U Z aj]) (t:=27) fG ?_;intro UJ hg w42 hbox hb;have jy:=aa.mk (hbox);have aob:=bS HB hg;have aoc:=bS HB hg;replace HB:=cO HB hb;clear hb hbox hg)|((with_reducible refine aA (N:=3) rfl ?_);refine au (by rfl) (N:=3) (by rfl) (cs:=#[U Z aI,U Z aG]) (t:=27) fG ?_;intro UK hg w43 hbox hb;have lZ:=aa.mk (hbox);have aod:=bS HB hg;have aoe:=bS HB hg;have Aj:=eQ jy hg;have Ak:=eT jy hg;replace jy:=aX jy hb;replace HB:=cO HB hb;clear hb hbox hg;have axC:=Aj.out;have axD:=Ak.out;obtain ⟨KN,KO,KP,KQ⟩:=iZ jy.out;obtain ⟨auE,auF,auG,auH⟩:=iZ lZ.out)|((with_reducible refine aA (N:=11) rfl ?_);refine Kd.Dk k27 _ 27 (by rfl) (N:=11) (by rfl) (xs:=([(⟨ai,aj⟩:ky),(⟨aI,aG⟩:ky)]:List (ky))) (inner:=[U Z ai,U Z aj,U Z aI,U Z aG]) (ok:=fun _=>True) (okp:=fun _=>True) fG auM (fun _ hk=>hk) trivial (Below.refl _ _) (Nat.le_refl _) (by simp) ?_;intro aAc w47 aoj hb M4 pW;clear M4 pW;(first|rw [← QS.out] at aoj|(simp only [Int.reduceToNat] at aoj;rw [← QS.out] at aoj));have oK:=aa.mk (Kd.lX (Kd.vw (Kd.vw aoj (g:=UJ) (o:=.cells #[U Z ai,U Z aj] 27 (0,0)) gB) (g:=UK) (o:=.cells #[U Z aI,U Z aG] 27 (0,0)) gB) (iq gL));replace jy:=aX jy hb;replace lZ:=aX lZ hb;replace HB:=cO HB hb;clear hb aoj;obtain ⟨aYk,aYl,aYm⟩:=Kd.nR oK.out;subst aYm)|((with_reducible refine aQ (f:=116) rfl ?_);refine dn (some 12) rfl rfl Try.func116 aM rfl #[.slice aYk ZG.length aYl] rfl ji ?_;(with_reducible refine (dU.calls k _ _ ZG Gm _ ?cZ ?df A3.out).mono ?_);(case cZ=>repeat (first|exact (Kd.gZ oK.out).2.2|(with_reducible refine Kd.bC ?_ _)|(with_reducible refine Kd.bD ?_ _)|(with_reducible refine Kd.bN ?_)));(case df=>exact (Kd.gZ oK.out).2.1);rintro e w50 ⟨rfl,hb⟩;refine ⟨_,rfl,?_⟩;replace oK:=zt oK hb;replace jy:=aX jy hb;replace lZ:=aX lZ hb;replace HB:=cO HB hb;(try clear hb);(try clear hb2);(try clear hk);(try clear hi);obtain ⟨au9,ava,avb,avc⟩:=iZ jy.out;obtain ⟨aUr,aUs,aUt,aUu⟩:=iZ lZ.out)|((with_reducible refine aQ (f:=138) rfl ?_);refine dn (some 19) rfl rfl Try.func138 aM rfl #[.agg #[U Z ai,U Z aj],.agg #[U Z aI,U Z aG]] rfl ji ?_;(with_reducible refine (kr.calls ai aj aI aG Qe Qf false _ A5.out).mono ?_);rintro e w53 ⟨rfl,hb⟩;refine ⟨_,rfl,?_⟩;replace oK:=zt oK hb;replace jy:=aX jy hb;replace lZ:=aX lZ hb;replace HB:=cO HB hb;(try clear hb);(try clear hb2);(try clear hk);(try clear hi))|((with_reducible refine aA (N:=7) rfl ?_);refine au (by rfl) (N:=7) (by rfl) (cs:=#[U Z 0,U Z 0]) (t:=27) fG ?_;intro acR hg w54 hbox hb;have acS:=aa.mk (hbox);have axA:=bS HB hg;have axB:=bS HB hg;have Gn:=eQ jy hg;have Gp:=eT jy hg;have Gq:=eQ lZ hg;have Gr:=eT lZ hg;replace oK:=aa.mk (Kd.mH (Kd.tK azZ acR (Nat.le_of_eq hg.symm)) hb);replace jy:=aX jy hb;replace lZ:=aX lZ hb;replace HB:=cO HB hb;clear hb hbox hg;have ano:=Gp.out;have anp:=Gn.out;have aEi:=Gr.out;have aEj:=Gq.out;obtain ⟨aUv,aUw,aUx,aUy⟩:=iZ acS.out))
   go_ret2
   exact ⟨lW,gL⟩
 ·rw [if_neg c4] at H
  have tN:(Gm == 0) = false:=beq_eq_false_iff_ne.mpr c4
  have amh:(Gm != 0) = true:=bne_iff_ne.mpr c4
  simp only [Option.some.injEq,Prod.mk.injEq] at H
  obtain ⟨rfl,rfl⟩:=H
  go_enter Try.func128,Try.ntmps128
  go_wp2_with (first|((with_reducible refine aA (N:=2) rfl ?_);refine au (by rfl) (N:=2) (by rfl) (cs:=#[U Z ai,U Z aj]) (t:=27) fG ?_;intro UJ hg w58 hbox hb;have jy:=aa.mk (hbox);have aob:=bS HB hg;have aoc:=bS HB hg;replace HB:=cO HB hb;clear hb hbox hg)|((with_reducible refine aA (N:=3) rfl ?_);refine au (by rfl) (N:=3) (by rfl) (cs:=#[U Z aI,U Z aG]) (t:=27) fG ?_;intro UK hg w59 hbox hb;have lZ:=aa.mk (hbox);have aod:=bS HB hg;have aoe:=bS HB hg;have Aj:=eQ jy hg;have Ak:=eT jy hg;replace jy:=aX jy hb;replace HB:=cO HB hb;clear hb hbox hg;have am9:=Aj.out;have ana:=Ak.out;obtain ⟨ags,agt,agu,agv⟩:=iZ jy.out;obtain ⟨atN,atO,atP,atQ⟩:=iZ lZ.out)|((with_reducible refine aA (N:=11) rfl ?_);refine Kd.Dk k27 _ 27 (by rfl) (N:=11) (by rfl) (xs:=([(⟨ai,aj⟩:ky),(⟨aI,aG⟩:ky)]:List (ky))) (inner:=[U Z ai,U Z aj,U Z aI,U Z aG]) (ok:=fun _=>True) (okp:=fun _=>True) fG auM (fun _ hk=>hk) trivial (Below.refl _ _) (Nat.le_refl _) (by simp) ?_;intro aAc w63 aok hb M4 pW;clear M4 pW;(first|rw [← QS.out] at aok|(simp only [Int.reduceToNat] at aok;rw [← QS.out] at aok));have oK:=aa.mk (Kd.lX (Kd.vw (Kd.vw aok (g:=UJ) (o:=.cells #[U Z ai,U Z aj] 27 (0,0)) gB) (g:=UK) (o:=.cells #[U Z aI,U Z aG] 27 (0,0)) gB) (iq gL));replace jy:=aX jy hb;replace lZ:=aX lZ hb;replace HB:=cO HB hb;clear hb aok;obtain ⟨aYn,aYo,aYp⟩:=Kd.nR oK.out;subst aYp)|((with_reducible refine aQ (f:=116) rfl ?_);refine dn (some 12) rfl rfl Try.func116 aM rfl #[.slice aYn ZG.length aYo] rfl ji ?_;(with_reducible refine (dU.calls k _ _ ZG Gm _ ?cZ ?df A3.out).mono ?_);(case cZ=>repeat (first|exact (Kd.gZ oK.out).2.2|(with_reducible refine Kd.bC ?_ _)|(with_reducible refine Kd.bD ?_ _)|(with_reducible refine Kd.bN ?_)));(case df=>exact (Kd.gZ oK.out).2.1);rintro e w66 ⟨rfl,hb⟩;refine ⟨_,rfl,?_⟩;replace oK:=zt oK hb;replace jy:=aX jy hb;replace lZ:=aX lZ hb;replace HB:=cO HB hb;(try clear hb);(try clear hb2);(try clear hk);(try clear hi)))
  go_ret2
  exact ⟨lW,gL⟩
end Go.Proofs.Ytmhaiihjfgfaoaa.Pr
end
section
namespace Go.Proofs.Ytmhaiihjfgfaoaa.Gl
open Go.RowKit Go.Shelf Go.Proofs.YtmhaiihjfgfaoaaW.PrintWords Go.Proofs.YtmhaiihjfgfaoaaW.PrintLast Go.Proofs.YtmhaiihjfgfaoaaW.PrintMore Go.Proofs.Ytmhaiihjfgfaoaa.Pr Go.Proofs.YtmhaiihjfgfaoaaW.Round
set_option linter.unusedVariables false
set_option linter.unusedSimpArgs false
attribute [local go_sem] gp gq iA iB gu
def inI (a b:ky):Int:=if (MK a.f0 a.f1 && MK b.f0 b.f1) = true then (if max a.f0 b.f0≤min a.f1 b.f1 then (if b.f0≤a.f0∧a.f1≤b.f1 then 2 else 1) else 0) else 0
def inE (a b:ky):Int:=if (MK a.f0 a.f1 && MK b.f0 b.f1) = true then 0 else 2
theorem avd (a b:ky):Jy.f 3 a.f0 a.f1 b.f0 b.f1 = some (inI a b,inE a b):=by
 unfold Jy.f inI inE
 rw [VS 0,Option.bind_some]
 cases h:(MK a.f0 a.f1 && MK b.f0 b.f1) with
 |false=>rfl
 |true =>
  rw [if_pos rfl,if_pos rfl,if_pos rfl]
  unfold kr.f
  rw [Option.bind_some]
  dsimp only
  have e1:mx a.f0 b.f0 = max a.f0 b.f0:=DW _ _
  have e2:mn a.f1 b.f1 = min a.f1 b.f1:=GR _ _
  rw [e1,e2]
  by_cases h1:max a.f0 b.f0≤min a.f1 b.f1
  ·rw [if_pos h1,if_pos (decide_eq_true h1)]
   by_cases h2:b.f0≤a.f0∧a.f1≤b.f1
   ·rw [if_pos h2,if_pos]
    rw [Bool.and_eq_true,beq_iff_eq,beq_iff_eq]
    omega
   ·rw [if_neg h2,if_neg]
    rw [Bool.and_eq_true,beq_iff_eq,beq_iff_eq]
    omega
  ·rw [if_neg h1,if_neg (by rw [decide_eq_false h1];decide)]
theorem ave (a b:ky):0≤inI a b∧inI a b≤2:=by
 unfold inI
 split
 ·split
  ·split <;> decide
  ·decide
 ·decide
set_option maxRecDepth 100000 in
set_option maxHeartbeats 2000000 in
theorem aij (a b:ky) (w:World):Calls Try.prog 127 #[.func (.func 128) #[] #[],.agg #[U Z a.f0,U Z a.f1],.agg #[U Z b.f0,U Z b.f1]] w (zn (U Z (inI a b)) w):=by
 have pz:=Try.underlying27
 have eg:∀ args w,(callFunc 128 args).run Try.prog w = .ok (.enter 128 args) w:=enters_of Try.func128 aM rfl
 have hcon:=fun W=>Jy.calls 3 a.f0 a.f1 b.f0 b.f1 _ _ W (avd a b)
 generalize inI a b = r at*
 generalize inE a b = r2 at*
 go_enter Try.func127,Try.ntmps127
 go_wp2_with fail
 have m4:jh ((w.alloc (.cells #[U Z a.f0,U Z a.f1] 27)).alloc (.cells #[U Z b.f0,U Z b.f1] 27)) (w.heap.size) #[U Z a.f0,U Z a.f1] 27:=(af aBe _)
 have m5:jh ((w.alloc (.cells #[U Z a.f0,U Z a.f1] 27)).alloc (.cells #[U Z b.f0,U Z b.f1] 27)) (w.heap.size+1) #[U Z b.f0,U Z b.f1] 27:=(by have h_:=gT (w.alloc (.cells #[U Z a.f0,U Z a.f1] 27)) (.cells #[U Z b.f0,U Z b.f1] 27);first|exact h_|(simp only [World.size_alloc] at h_;exact h_))
 have mB:Below w.heap.size w ((w.alloc (.cells #[U Z a.f0,U Z a.f1] 27)).alloc (.cells #[U Z b.f0,U Z b.f1] 27)):=(bA (bA (Below.refl w.heap.size w) _) _)
 have oI:w.heap.size≤w.heap.size:=Nat.le_refl _
 generalize yX:((w.alloc (.cells #[U Z a.f0,U Z a.f1] 27)).alloc (.cells #[U Z b.f0,U Z b.f1] 27)) = W1 at m4 m5 mB ⊢
 clear yX
 generalize hg4:w.heap.size = g4 at m4 m5 ⊢
 have hG4:w.heap.size≤g4:=by omega
 generalize hg5:g4+1 = g5 at m5 ⊢
 have ad7:g4≠g5:=by omega
 have ayH:g5≠g4:=ad7.symm
 have hG5:w.heap.size≤g5:=by omega
 clear oI
 try clear hg5
 try clear hg4
 have DR:w.heap.size≤W1.heap.size:=mB.size
 obtain ⟨aqe,aqf⟩:=GJ m4
 obtain ⟨Q4,TK⟩:=GJ m5
 go_wp2_with fail
 clear aqe aqf Q4 TK
 have hc1:=hcon W1
 (with_reducible refine hc1.mono ?_)
 clear hc1 hcon
 rintro e W2 ⟨rfl,hb⟩
 replace m4:=aU m4 hb
 replace m5:=aU m5 hb
 replace mB:=dY mB hb
 clear hb
 go_wp2
 go_ret
 exact ⟨rfl,mB⟩
def Mt (x y:jf):Int:=min (inI x.f0 y.f0) (inI x.f1 y.f1)
set_option maxRecDepth 100000 in
set_option maxHeartbeats 2000000 in
theorem aeD (x y:jf) (w:World):Calls Try.prog 89 #[.agg #[U Z x.f0.f0,U Z x.f0.f1,U Z x.f1.f0,U Z x.f1.f1],.agg #[U Z y.f0.f0,U Z y.f0.f1,U Z y.f1.f0,U Z y.f1.f1]] w (zn (U Z (Mt x y)) w):=by
 have rO:=Try.underlying31
 have pz:=Try.underlying27
 have k0:=fun W=>aij x.f0 y.f0 W
 have k1:=fun W=>aij x.f1 y.f1 W
 have HR:Hid (Mt x y = min (inI x.f0 y.f0) (inI x.f1 y.f1)):=Lib.hid rfl
 generalize inI x.f0 y.f0 = r0 at*
 generalize inI x.f1 y.f1 = r1 at*
 go_enter Try.func89,Try.ntmps89
 go_wp2_with fail
 have m2:jh ((w.alloc (.cells #[U Z x.f0.f0,U Z x.f0.f1,U Z x.f1.f0,U Z x.f1.f1] 31)).alloc (.cells #[U Z y.f0.f0,U Z y.f0.f1,U Z y.f1.f0,U Z y.f1.f1] 31)) (w.heap.size) #[U Z x.f0.f0,U Z x.f0.f1,U Z x.f1.f0,U Z x.f1.f1] 31:=(af al4 _)
 have m3:jh ((w.alloc (.cells #[U Z x.f0.f0,U Z x.f0.f1,U Z x.f1.f0,U Z x.f1.f1] 31)).alloc (.cells #[U Z y.f0.f0,U Z y.f0.f1,U Z y.f1.f0,U Z y.f1.f1] 31)) (w.heap.size+1) #[U Z y.f0.f0,U Z y.f0.f1,U Z y.f1.f0,U Z y.f1.f1] 31:=(by have h_:=gT (w.alloc (.cells #[U Z x.f0.f0,U Z x.f0.f1,U Z x.f1.f0,U Z x.f1.f1] 31)) (.cells #[U Z y.f0.f0,U Z y.f0.f1,U Z y.f1.f0,U Z y.f1.f1] 31);first|exact h_|(simp only [World.size_alloc] at h_;exact h_))
 have mB:Below w.heap.size w ((w.alloc (.cells #[U Z x.f0.f0,U Z x.f0.f1,U Z x.f1.f0,U Z x.f1.f1] 31)).alloc (.cells #[U Z y.f0.f0,U Z y.f0.f1,U Z y.f1.f0,U Z y.f1.f1] 31)):=(bA (bA (Below.refl w.heap.size w) _) _)
 have oI:w.heap.size≤w.heap.size:=Nat.le_refl _
 generalize yX:((w.alloc (.cells #[U Z x.f0.f0,U Z x.f0.f1,U Z x.f1.f0,U Z x.f1.f1] 31)).alloc (.cells #[U Z y.f0.f0,U Z y.f0.f1,U Z y.f1.f0,U Z y.f1.f1] 31)) = W1 at m2 m3 mB ⊢
 clear yX
 generalize hg2:w.heap.size = g2 at m2 m3 ⊢
 have hG2:w.heap.size≤g2:=by omega
 generalize hg3:g2+1 = g3 at m3 ⊢
 have TN:g2≠g3:=by omega
 have alL:g3≠g2:=TN.symm
 have hG3:w.heap.size≤g3:=by omega
 clear oI
 try clear hg3
 try clear hg2
 have DR:w.heap.size≤W1.heap.size:=mB.size
 replace m2:=ag m2
 replace m3:=ag m3
 replace mB:=bO mB
 refine iN (n:=12) (S:=fun w'=>w'.cell? ⟨g2,0,none⟩ = some (U Z x.f0.f0)∧w'.cell? ⟨g2,1,none⟩ = some (U Z x.f0.f1)∧w'.cell? ⟨g2,2,none⟩ = some (U Z x.f1.f0)∧w'.cell? ⟨g2,3,none⟩ = some (U Z x.f1.f1)∧w'.cell? ⟨g3,0,none⟩ = some (U Z y.f0.f0)∧w'.cell? ⟨g3,1,none⟩ = some (U Z y.f0.f1)∧w'.cell? ⟨g3,2,none⟩ = some (U Z y.f1.f0)∧w'.cell? ⟨g3,3,none⟩ = some (U Z y.f1.f1)) (ds:=[]) #[ac,ac,ac,ac,ac,ac,ac,ac,ac,ac,ac,ac] aM rfl rfl ⟨((ah m2 0).trans rfl),((ah m2 1).trans rfl),((ah m2 2).trans rfl),((ah m2 3).trans rfl),((ah m3 0).trans rfl),((ah m3 1).trans rfl),((ah m3 2).trans rfl),((ah m3 3).trans rfl)⟩ (fun hHeld=>?_)
 generalize hWd:World.drew _ = Wx at m2 m3 mB hHeld ⊢
 clear hWd
 refine bV (i:=0) (N:=some 5) aM ?_
 refine bV (i:=2) (N:=some 7) aM ?_
 refine bV (i:=5) (N:=some 10) aM ?_
 refine bV (i:=7) (N:=some 12) aM ?_
 refine iL (i:=1) (N:=some 6) aM hHeld ?_
 refine iL (i:=3) (N:=some 8) aM hHeld ?_
 refine iL (i:=6) (N:=some 11) aM hHeld ?_
 refine iL (i:=8) (N:=some 13) aM hHeld ?_
 refine iO (i:=4) (N:=some 9) #[ab,ab,ab,ab,ab,ab,ab,ab,ab,ac,ac,ac] rfl rfl aM (by decide) (fun K hK=>?_)
 have pR:=k0 Wx
 refine gJ Try.func127 aM rfl #[.func (.func 128) #[] #[],.agg #[U Z x.f0.f0,U Z x.f0.f1],.agg #[U Z y.f0.f0,U Z y.f0.f1]] (by rfl) rfl rfl aaN ?_
 with_reducible refine (pR).mono ?_
 rintro e w4 ⟨rfl,hb⟩
 refine ⟨_,rfl,?_⟩
 clear pR
 replace m2:=aU m2 hb
 replace m3:=aU m3 hb
 replace mB:=dY mB hb
 clear hb
 refine hK.out _ _ ⟨((ah m2 0).trans rfl),((ah m2 1).trans rfl),((ah m2 2).trans rfl),((ah m2 3).trans rfl),((ah m3 0).trans rfl),((ah m3 1).trans rfl),((ah m3 2).trans rfl),((ah m3 3).trans rfl)⟩ (fun hHeld=>?_)
 clear hK K
 refine dM aBm ?_
 refine iO (i:=9) (N:=some 14) #[ab,ab,ab,ab,ab,ab,ab,ab,ab,ab,ac,ac] rfl rfl aM (by decide) (fun K hK=>?_)
 have pR:=k1 w4
 refine gJ Try.func127 aM rfl #[.func (.func 128) #[] #[],.agg #[U Z x.f1.f0,U Z x.f1.f1],.agg #[U Z y.f1.f0,U Z y.f1.f1]] (by rfl) rfl rfl aaN ?_
 with_reducible refine (pR).mono ?_
 rintro e w9 ⟨rfl,hb⟩
 refine ⟨_,rfl,?_⟩
 clear pR
 replace m2:=aU m2 hb
 replace m3:=aU m3 hb
 replace mB:=dY mB hb
 clear hb
 refine hK.out _ _ ⟨((ah m2 0).trans rfl),((ah m2 1).trans rfl),((ah m2 2).trans rfl),((ah m2 3).trans rfl),((ah m3 0).trans rfl),((ah m3 1).trans rfl),((ah m3 2).trans rfl),((ah m3 3).trans rfl)⟩ (fun hHeld=>?_)
 clear hK K
 refine dM amA ?_
 refine bV (i:=10) (N:=some 15) aM ?_
 refine bV (i:=11) (N:=some 4) aM ?_
 refine jS aM ?_
 go_wp2
 all_goals (go_ret;first|(have hm:Mt x y = r0:=(by rw [HR.out];omega);exact ⟨by rw [hm];rfl,mB⟩)|(have hm:Mt x y = r1:=(by rw [HR.out];omega);exact ⟨by rw [hm];rfl,mB⟩))
end Go.Proofs.Ytmhaiihjfgfaoaa.Gl
end
section
namespace Go.Proofs.Ytmhaiihjfgfaoaa.Pr
open Go.RowKit Go.Proofs.YtmhaiihjfgfaoaaW.PrintWords Go.Proofs.YtmhaiihjfgfaoaaW.PrintLast Go.Proofs.YtmhaiihjfgfaoaaW.PrintMore
attribute [local go_sem] gp gq iA iB gu
set_option linter.unusedVariables false
set_option linter.unusedSimpArgs false
def o5.f (k:Nat) (ai:Int) (aj:Int) (aC:Int) (aD:Int) (aJ:Int) (aH:Int):Option (Bool):=(eZ.f k ai aj aC aD).bind fun OG=>(if OG = 0 then (if aJ ≥ 0 then (if aJ≤aH then (some (decide (aH≤1073741824))) else (some false)) else (some false)) else (some false))
set_option maxHeartbeats 8000000 in
set_option maxRecDepth 100000 in
theorem o5.calls (k:Nat) (ai:Int) (aj:Int) (aC:Int) (aD:Int) (aJ:Int) (aH:Int) (r:Bool) (w:World) (h:o5.f k ai aj aC aD aJ aH = some r):
 Calls Try.prog 93 #[.agg #[U Z ai,U Z aj,U Z aC,U Z aD,U Z aJ,U Z aH]] w fun e w'=>e = .returned (.bool r)∧Below w.heap.size w w':=by
 have aed:=Try.underlying81
 have rO:=Try.underlying31
 have HB:=aa.mk (Below.refl w.heap.size w)
 have H:((eZ.f k ai aj aC aD).bind fun OG=>(if OG = 0 then (if aJ ≥ 0 then (if aJ≤aH then (some (decide (aH≤1073741824))) else (some false)) else (some false)) else (some false))) = some r:=h
 clear h
 replace H:=Option.bind_eq_some_iff.mp H
 obtain ⟨OG,VR,H⟩:=H
 replace H:(if OG = 0 then (if aJ ≥ 0 then (if aJ≤aH then (some (decide (aH≤1073741824))) else (some false)) else (some false)) else (some false)) = some r:=H
 have A2:=aa.mk VR
 clear VR
 by_cases c3:OG = 0
 ·rw [if_pos c3] at H
  have Cc:(OG == 0) = true:=beq_iff_eq.mpr c3
  have MZ:(OG != 0) = false:=bne_eq_false_iff_eq.mpr c3
  clear c3
  by_cases c4:aJ ≥ 0
  ·rw [if_pos c4] at H
   have tN:decide (0≤aJ) = true:=decide_eq_true c4
   clear c4
   by_cases c5:aJ≤aH
   ·rw [if_pos c5] at H
    have DI:decide (aJ≤aH) = true:=decide_eq_true c5
    clear c5
    obtain rfl:=Option.some.inj H
    go_enter Try.func93,Try.ntmps93
    go_wp2_with (first|((with_reducible refine aA (N:=1) rfl ?_);refine au (by rfl) (N:=1) (by rfl) (cs:=#[U Z ai,U Z aj,U Z aC,U Z aD,U Z aJ,U Z aH]) (t:=81) fG ?_;intro aol hg w6 hbox hb;have zi:=aa.mk (hbox);have aom:=bS HB hg;have aon:=bS HB hg;replace HB:=cO HB hb;clear hb hbox hg;obtain ⟨zA,zB,Fg,Fh,Hm,Ho,zC,zD,Fj,Fp,Hq,Hr⟩:=wT zi.out)|((with_reducible refine aQ (f:=67) rfl ?_);refine dn (some 5) rfl rfl Try.func67 aM rfl #[.agg #[U Z ai,U Z aj,U Z aC,U Z aD]] rfl ji ?_;(with_reducible refine (eZ.calls k ai aj aC aD OG _ A2.out).mono ?_);rintro e w8 ⟨rfl,hb⟩;refine ⟨_,rfl,?_⟩;replace zi:=aX zi hb;replace HB:=cO HB hb;(try clear hb);(try clear hb2);(try clear hk);(try clear hi);obtain ⟨zu,zw,G8,G9,Pw,Px,zx,zy,Ha,Hd,Py,Pz⟩:=wT zi.out))
    go_ret
    exact ⟨lW,gL⟩
   ·rw [if_neg c5] at H
    have DI:decide (aJ≤aH) = false:=decide_eq_false c5
    clear c5
    obtain rfl:=Option.some.inj H
    go_enter Try.func93,Try.ntmps93
    go_wp2_with (first|((with_reducible refine aA (N:=1) rfl ?_);refine au (by rfl) (N:=1) (by rfl) (cs:=#[U Z ai,U Z aj,U Z aC,U Z aD,U Z aJ,U Z aH]) (t:=81) fG ?_;intro aol hg w10 hbox hb;have zi:=aa.mk (hbox);have aom:=bS HB hg;have aon:=bS HB hg;replace HB:=cO HB hb;clear hb hbox hg;obtain ⟨uk,um,xJ,xK,Ci,Cj,uo,uq,xL,xM,Ck,Cm⟩:=wT zi.out)|((with_reducible refine aQ (f:=67) rfl ?_);refine dn (some 5) rfl rfl Try.func67 aM rfl #[.agg #[U Z ai,U Z aj,U Z aC,U Z aD]] rfl ji ?_;(with_reducible refine (eZ.calls k ai aj aC aD OG _ A2.out).mono ?_);rintro e O3 ⟨rfl,hb⟩;refine ⟨_,rfl,?_⟩;replace zi:=aX zi hb;replace HB:=cO HB hb;(try clear hb);(try clear hb2);(try clear hk);(try clear hi);obtain ⟨ug,uh,Aw,Ay,Ht,Hu,ui,uj,Az,AA,Hw,Hy⟩:=wT zi.out))
    go_ret
    exact ⟨lW,gL⟩
  ·rw [if_neg c4] at H
   have tN:decide (0≤aJ) = false:=decide_eq_false c4
   clear c4
   obtain rfl:=Option.some.inj H
   go_enter Try.func93,Try.ntmps93
   go_wp2_with (first|((with_reducible refine aA (N:=1) rfl ?_);refine au (by rfl) (N:=1) (by rfl) (cs:=#[U Z ai,U Z aj,U Z aC,U Z aD,U Z aJ,U Z aH]) (t:=81) fG ?_;intro aol hg w14 hbox hb;have zi:=aa.mk (hbox);have aom:=bS HB hg;have aon:=bS HB hg;replace HB:=cO HB hb;clear hb hbox hg;obtain ⟨oL,oM,sP,sQ,uC,uD,oN,oO,sS,sU,uE,uF⟩:=wT zi.out)|((with_reducible refine aQ (f:=67) rfl ?_);refine dn (some 5) rfl rfl Try.func67 aM rfl #[.agg #[U Z ai,U Z aj,U Z aC,U Z aD]] rfl ji ?_;(with_reducible refine (eZ.calls k ai aj aC aD OG _ A2.out).mono ?_);rintro e w16 ⟨rfl,hb⟩;refine ⟨_,rfl,?_⟩;replace zi:=aX zi hb;replace HB:=cO HB hb;(try clear hb);(try clear hb2);(try clear hk);(try clear hi);obtain ⟨uy,uz,xY,xZ,Ei,Ej,uA,uB,yc,yf,El,Em⟩:=wT zi.out))
   go_ret
   exact ⟨lW,gL⟩
 ·rw [if_neg c3] at H
  have Cc:(OG == 0) = false:=beq_eq_false_iff_ne.mpr c3
  have MZ:(OG != 0) = true:=bne_iff_ne.mpr c3
  obtain rfl:=Option.some.inj H
  go_enter Try.func93,Try.ntmps93
  go_wp2_with (first|((with_reducible refine aA (N:=1) rfl ?_);refine au (by rfl) (N:=1) (by rfl) (cs:=#[U Z ai,U Z aj,U Z aC,U Z aD,U Z aJ,U Z aH]) (t:=81) fG ?_;intro aol hg w18 hbox hb;have zi:=aa.mk (hbox);have aom:=bS HB hg;have aon:=bS HB hg;replace HB:=cO HB hb;clear hb hbox hg;obtain ⟨vU,vV,yg,yh,Cs,Ct,vW,vX,yj,yl,Cu,Cv⟩:=wT zi.out)|((with_reducible refine aQ (f:=67) rfl ?_);refine dn (some 5) rfl rfl Try.func67 aM rfl #[.agg #[U Z ai,U Z aj,U Z aC,U Z aD]] rfl ji ?_;(with_reducible refine (eZ.calls k ai aj aC aD OG _ A2.out).mono ?_);rintro e I4 ⟨rfl,hb⟩;refine ⟨_,rfl,?_⟩;replace zi:=aX zi hb;replace HB:=cO HB hb;(try clear hb);(try clear hb2);(try clear hk);(try clear hi)))
  go_ret
  exact ⟨lW,gL⟩
end Go.Proofs.Ytmhaiihjfgfaoaa.Pr
end
section
namespace Go.Proofs.Ytmhaiihjfgfaoaa.Pr
open Go.RowKit Go.Proofs.YtmhaiihjfgfaoaaW.PrintWords Go.Proofs.YtmhaiihjfgfaoaaW.PrintLast Go.Proofs.YtmhaiihjfgfaoaaW.PrintMore Go.Proofs.Ytmhaiihjfgfaoaa.Gl
set_option linter.unusedVariables false
def qm.f (ai:Int) (aj:Int) (aC:Int) (aD:Int) (aI:Int) (aG:Int) (bn:Int) (bq:Int):Option (Int):=some (Mt ⟨⟨ai,aj⟩,⟨aC,aD⟩⟩ ⟨⟨aI,aG⟩,⟨bn,bq⟩⟩)
theorem qm.calls (ai:Int) (aj:Int) (aC:Int) (aD:Int) (aI:Int) (aG:Int) (bn:Int) (bq:Int) (r:Int) (w:World) (h:qm.f ai aj aC aD aI aG bn bq = some r):
 Calls Try.prog 89 #[.agg #[U Z ai,U Z aj,U Z aC,U Z aD],.agg #[U Z aI,U Z aG,U Z bn,U Z bq]] w fun e w'=>e = .returned (U Z r)∧Below w.heap.size w w':=by
 cases h
 exact aeD ⟨⟨ai,aj⟩,⟨aC,aD⟩⟩ ⟨⟨aI,aG⟩,⟨bn,bq⟩⟩ w
end Go.Proofs.Ytmhaiihjfgfaoaa.Pr
end
section
namespace Go.Proofs.Ytmhaiihjfgfaoaa.Pr
open Go.RowKit Go.Proofs.YtmhaiihjfgfaoaaW.PrintWords Go.Proofs.YtmhaiihjfgfaoaaW.PrintLast Go.Proofs.YtmhaiihjfgfaoaaW.PrintMore
attribute [local go_sem] gp gq iA iB gu
set_option linter.unusedVariables false
set_option linter.unusedSimpArgs false
def gM.l0:Nat→Int→Int→List (jf)→Int→Int→Int→Int→Int→Int→Int→Int→Int→Int→Int→Int→Int→Int→Int→Option (Int)
 |0,_,_,_,_,_,_,_,_,_,_,_,_,_,_,_,_,_,_=>none
 |k+1,x1,x9,Ph,Lg,Lh,aik,OH,ail,aim,ain,aio,aip,ZH,ZI,ZJ,ZK,ZL,ZM=>if Lh < Lg then (if 0≤Lh then (if Lh < (Ph.length:Int) then ((cB.f (wrap64 (x1+OH)) ZL ZM).bind fun avf=>(if avf = true then ((qm.f ((iJ Ph Lh).f0.f0) ((iJ Ph Lh).f0.f1) ((iJ Ph Lh).f1.f0) ((iJ Ph Lh).f1.f1) ZH ZI ZJ ZK).bind fun UL=>(gM.l0 k (wrap64 (x1+OH)) (mx x9 UL) Ph Lg (wrap64 (Lh+1)) aik OH ail aim ain aio aip ZH ZI ZJ ZK ZL ZM)) else (gM.l0 k (wrap64 (x1+OH)) x9 Ph Lg (wrap64 (Lh+1)) aik OH ail aim ain aio aip ZH ZI ZJ ZK ZL ZM))) else (none)) else (none)) else (some x9)
def gM.f (k:Nat) (ai:Int) (aj:Int) (aC:Int) (aD:Int) (aJ:Int) (aH:Int) (aK:Int) (a1:Int) (l2:List (jf)) (vN:Int) (vO:Int) (vP:Int) (vQ:Int) (vH:Int) (vI:Int):Option (Int):=gM.l0 k a1 0 l2 (l2.length:Int) 0 ai aj aC aD aJ aH aK vN vO vP vQ vH vI
set_option maxHeartbeats 8000000 in
set_option maxRecDepth 100000 in
theorem gM.calls (k:Nat) (ai:Int) (aj:Int) (aC:Int) (aD:Int) (aJ:Int) (aH:Int) (aK:Int) (a1:Int) (A2:Option Addr) (c2:Nat) (l2:List (jf)) (vN:Int) (vO:Int) (vP:Int) (vQ:Int) (vH:Int) (vI:Int) (r:Int) (w:World) (hr2:Kd.C k31 w A2 l2.length l2) (hc2:l2.length≤c2) (h:gM.f k ai aj aC aD aJ aH aK a1 l2 vN vO vP vQ vH vI = some r):
 Calls Try.prog 94 #[.agg #[U Z ai,U Z aj,U Z aC,U Z aD,U Z aJ,U Z aH,U Z aK],U Z a1,.slice A2 l2.length c2,.agg #[U Z vN,U Z vO,U Z vP,U Z vQ,U Z vH,U Z vI]] w fun e w'=>e = .returned (U Z r)∧Below w.heap.size w w':=by
 have Br:=Try.underlying29
 have aed:=Try.underlying81
 have rO:=Try.underlying31
 have HR2:=aa.mk hr2
 have HC2:=aa.mk hc2
 clear hr2 hc2
 have HB:=aa.mk (Below.refl w.heap.size w)
 have H:(gM.l0 k a1 0 l2 (l2.length:Int) 0 ai aj aC aD aJ aH aK vN vO vP vQ vH vI) = some r:=h
 clear h
 have H':=aa.mk H
 clear H
 go_enter Try.func94,Try.ntmps94
 go_wp2_with (first|((with_reducible refine aA (N:=4) rfl ?_);refine au (by rfl) (N:=4) (by rfl) (cs:=#[U Z ai,U Z aj,U Z aC,U Z aD,U Z aJ,U Z aH,U Z aK]) (t:=29) fG ?_;intro aHa hg w5 hbox hb;have zk:=aa.mk (hbox);have a4v:=bS HB hg;have a4w:=bS HB hg;replace HB:=cO HB hb;clear hb hbox hg)|((with_reducible refine aA (N:=7) rfl ?_);refine au (by rfl) (N:=7) (by rfl) (cs:=#[U Z vN,U Z vO,U Z vP,U Z vQ,U Z vH,U Z vI]) (t:=81) fG ?_;intro aHb hg w6 hbox hb;have EW:=aa.mk (hbox);have a4x:=bS HB hg;have a4y:=bS HB hg;have Wt:=eQ zk hg;have Wu:=eT zk hg;replace zk:=aX zk hb;replace HB:=cO HB hb;clear hb hbox hg))
 go_loopg [1,9,14] k (fun kq v1 v9 v14 w'=>∃ (Mv:Int) (tV:Int) (eD:Int),v1 = U Z Mv∧v9 = U Z tV∧v14 = U Z eD∧aa (gM.l0 kq Mv tV l2 (l2.length:Int) eD ai aj aC aD aJ aH aK vN vO vP vQ vH vI = some r)∧aa (kq≤k)∧aa (w'.heap[aHa]? = some (.cells #[U Z ai,U Z aj,U Z aC,U Z aD,U Z aJ,U Z aH,U Z aK] 29 (0,0)))∧aa (w'.heap[aHb]? = some (.cells #[U Z vN,U Z vO,U Z vP,U Z vQ,U Z vH,U Z vI] 81 (0,0)))∧aa (Below w.heap.size w w'))
 case atStart=>exact ⟨(a1),(0),(0),nM,nM,nM,H',⟨Nat.le_refl _⟩,⟨gB⟩,⟨gB⟩,⟨gL⟩⟩
 case round =>
  clear H'
  try clear c2
  try clear p2
  obtain ⟨Mv,tV,eD,rfl,rfl,rfl,HA,JP,zk,EW,HB⟩:=hrel
  cases gk with
  |zero=>exact absurd HA.out (by simp [gM.l0])
  |succ k1 =>
   have H:=HA.out
   clear HA
   simp only [gM.l0] at H
   by_cases c7:eD < (l2.length:Int)
   ·rw [if_pos c7] at H
    have Q7:decide (eD < (l2.length:Int)) = true:=decide_eq_true c7
    clear c7
    by_cases c8:0≤eD
    ·rw [if_pos c8] at H
     have Lf:decide (0≤eD) = true:=decide_eq_true c8
     clear c8
     by_cases c9:eD < (l2.length:Int)
     ·rw [if_pos c9] at H
      have Mm:decide (eD < (l2.length:Int)) = true:=decide_eq_true c9
      clear c9
      replace H:=Option.bind_eq_some_iff.mp H
      obtain ⟨avf,FP,H⟩:=H
      replace H:(if avf = true then ((qm.f ((iJ l2 eD).f0.f0) ((iJ l2 eD).f0.f1) ((iJ l2 eD).f1.f0) ((iJ l2 eD).f1.f1) vN vO vP vQ).bind fun UL=>(gM.l0 k1 (wrap64 (Mv+aj)) (mx tV UL) l2 (l2.length:Int) (wrap64 (eD+1)) ai aj aC aD aJ aH aK vN vO vP vQ vH vI)) else (gM.l0 k1 (wrap64 (Mv+aj)) tV l2 (l2.length:Int) (wrap64 (eD+1)) ai aj aC aD aJ aH aK vN vO vP vQ vH vI)) = some r:=H
      have QJ:=aa.mk FP
      clear FP
      by_cases c11:avf = true
      ·subst c11
       have H1:((qm.f ((iJ l2 eD).f0.f0) ((iJ l2 eD).f0.f1) ((iJ l2 eD).f1.f0) ((iJ l2 eD).f1.f1) vN vO vP vQ).bind fun UL=>(gM.l0 k1 (wrap64 (Mv+aj)) (mx tV UL) l2 (l2.length:Int) (wrap64 (eD+1)) ai aj aC aD aJ aH aK vN vO vP vQ vH vI)) = some r:=by rw [if_pos rfl] at H;exact H
       clear H
       have H:=H1
       clear H1
       replace H:=Option.bind_eq_some_iff.mp H
       obtain ⟨UL,NC,H⟩:=H
       replace H:(gM.l0 k1 (wrap64 (Mv+aj)) (mx tV UL) l2 (l2.length:Int) (wrap64 (eD+1)) ai aj aC aD aJ aH aK vN vO vP vQ vH vI) = some r:=H
       have A12:=aa.mk NC
       clear NC
       obtain ⟨aAd,Wv⟩:∃ j_:Int,(mx tV UL) = j_:=⟨_,rfl⟩
       replace H:(gM.l0 k1 (wrap64 (Mv+aj)) aAd l2 (l2.length:Int) (wrap64 (eD+1)) ai aj aC aD aJ aH aK vN vO vP vQ vH vI) = some r:=by first|(rw [Wv] at H;exact H)|(simp only [Wv] at H ⊢;exact H)
       (try rw [Wv] at QJ)
       (try rw [Wv] at A12)
       have aYq:(if tV < UL then UL else tV) = aAd:=Wv
       have H':=aa.mk H
       clear H
       have aeE:0≤(eD:Int):=of_decide_eq_true mq
       have aeF:eD < (l2.length:Int):=of_decide_eq_true mq
       obtain ⟨aHc,aAe,II,IJ,IK,IL⟩:=aeB HR2.out eD aeE aeF
       cases aAe
       replace II:=(HB.out.cell (World.block_lt_of_cell? w _ II)).trans II
       replace IJ:=(HB.out.cell (World.block_lt_of_cell? w _ IJ)).trans IJ
       replace IK:=(HB.out.cell (World.block_lt_of_cell? w _ IK)).trans IK
       replace IL:=(HB.out.cell (World.block_lt_of_cell? w _ IL)).trans IL
       replace aeE:=eq_true aeE
       replace aeF:=eq_true aeF
       go_wp2_with (first|((with_reducible refine aA (N:=11) rfl ?_);refine au (by rfl) (N:=11) (by rfl) (cs:=#[U Z 0,U Z 0,U Z 0,U Z 0]) (t:=31) fG ?_;intro axE hg w14 hbox hb;have Ww:=aa.mk (hbox);have aHd:=bS HB hg;have aHe:=bS HB hg;have Qg:=eQ zk hg;have Qh:=eT zk hg;have Qi:=eQ EW hg;have Qj:=eT EW hg;replace zk:=aX zk hb;replace EW:=aX EW hb;replace HB:=cO HB hb;clear hb hbox hg;have aG6:=Qh.out;have aG7:=Qg.out;have Na:=Qj.out;have Nb:=Qi.out;obtain ⟨uy,uz,xY,xZ,uA,uB,yc,yf⟩:=jc Ww.out;have abF:=Wt.out;have abG:=Wu.out;obtain ⟨vU,vV,yg,yh,Cs,Ct,He,vW,vX,yj,yl,Cu,Cv,Hf⟩:=jF zk.out;obtain ⟨wu,wy,AP,AQ,Cn,Co,wz,wB,AR,AU,Cq,Cr⟩:=wT EW.out)|((with_reducible refine aQ (f:=74) rfl ?_);refine dn (some 27) rfl rfl Try.func74 aM rfl #[U Z (wrap64 (Mv+aj)),U Z vH,U Z vI] rfl ji ?_;(with_reducible refine (cB.calls (wrap64 (Mv+aj)) vH vI true _ QJ.out).mono ?_);rintro e w' ⟨rfl,⟨nd,rfl⟩⟩;refine ⟨_,rfl,?_⟩)|((with_reducible refine aQ (f:=89) rfl ?_);refine dn (some 32) rfl rfl Try.func89 aM rfl #[.agg #[U Z ((iJ l2 eD).f0.f0),U Z ((iJ l2 eD).f0.f1),U Z ((iJ l2 eD).f1.f0),U Z ((iJ l2 eD).f1.f1)],.agg #[U Z vN,U Z vO,U Z vP,U Z vQ]] rfl ji ?_;(with_reducible refine (qm.calls ((iJ l2 eD).f0.f0) ((iJ l2 eD).f0.f1) ((iJ l2 eD).f1.f0) ((iJ l2 eD).f1.f1) vN vO vP vQ UL _ A12.out).mono ?_);rintro e w21 ⟨rfl,hb⟩;refine ⟨_,rfl,?_⟩;have vD:=aX zk hb;have vE:=aX EW hb;have vF:=aa.mk (aU (g:=axE) (o:=.cells #[U Z ((iJ l2 eD).f0.f0),U Z ((iJ l2 eD).f0.f1),U Z ((iJ l2 eD).f1.f0),U Z ((iJ l2 eD).f1.f1)] 31 (0,0)) (by (with_reducible repeat (first|refine av ?_ _|refine ag ?_|refine af ?_ _));refine aN (cs:=#[U Z ((iJ l2 eD).f0.f0),U Z ((iJ l2 eD).f0.f1),U Z ((iJ l2 eD).f1.f0),U Z 0]) ?_ 3 _ rfl;(with_reducible repeat (first|refine av ?_ _|refine ag ?_|refine af ?_ _));refine aN (cs:=#[U Z ((iJ l2 eD).f0.f0),U Z ((iJ l2 eD).f0.f1),U Z 0,U Z 0]) ?_ 2 _ rfl;(with_reducible repeat (first|refine av ?_ _|refine ag ?_|refine af ?_ _));refine aN (cs:=#[U Z ((iJ l2 eD).f0.f0),U Z 0,U Z 0,U Z 0]) ?_ 1 _ rfl;(with_reducible repeat (first|refine av ?_ _|refine ag ?_|refine af ?_ _));refine aN (cs:=#[U Z 0,U Z 0,U Z 0,U Z 0]) ?_ 0 _ rfl;(with_reducible repeat (first|refine av ?_ _|refine ag ?_|refine af ?_ _));exact Ww.out) hb);have vG:=cO HB hb;clear zk;clear EW;clear Ww;clear HB;have zk:=vD;have EW:=vE;have Ww:=vF;have HB:=vG;clear vD vE vF vG;(try clear hb);(try clear hb2);(try clear hk);(try clear hi)))
       go_roundg k1
       case measure=>have:=JP.out;omega
       case rel=>exact ⟨(wrap64 (Mv+aj)),(aAd),(wrap64 (eD+1)),nM,(by first|rfl|(simp;done)|(simp only [← Wv] <;> (first|rfl|simp))|(simp [*];done)),nM,H',⟨Mi⟩,⟨gB⟩,⟨gB⟩,⟨gL⟩⟩
      ·replace c11:=Bool.eq_false_iff.mpr c11
       subst c11
       have H1:(gM.l0 k1 (wrap64 (Mv+aj)) tV l2 (l2.length:Int) (wrap64 (eD+1)) ai aj aC aD aJ aH aK vN vO vP vQ vH vI) = some r:=by rw [if_neg (show ¬ (false = true) by decide)] at H;exact H
       clear H
       have H:=H1
       clear H1
       have H':=aa.mk H
       clear H
       have aeE:0≤(eD:Int):=of_decide_eq_true mq
       have aeF:eD < (l2.length:Int):=of_decide_eq_true mq
       obtain ⟨aHc,aAe,II,IJ,IK,IL⟩:=aeB HR2.out eD aeE aeF
       cases aAe
       replace II:=(HB.out.cell (World.block_lt_of_cell? w _ II)).trans II
       replace IJ:=(HB.out.cell (World.block_lt_of_cell? w _ IJ)).trans IJ
       replace IK:=(HB.out.cell (World.block_lt_of_cell? w _ IK)).trans IK
       replace IL:=(HB.out.cell (World.block_lt_of_cell? w _ IL)).trans IL
       replace aeE:=eq_true aeE
       replace aeF:=eq_true aeF
       go_wp2_with (first|((with_reducible refine aA (N:=11) rfl ?_);refine au (by rfl) (N:=11) (by rfl) (cs:=#[U Z 0,U Z 0,U Z 0,U Z 0]) (t:=31) fG ?_;intro axE hg w22 hbox hb;have Ww:=aa.mk (hbox);have aHd:=bS HB hg;have aHe:=bS HB hg;have Qg:=eQ zk hg;have Qh:=eT zk hg;have Qi:=eQ EW hg;have Qj:=eT EW hg;replace zk:=aX zk hb;replace EW:=aX EW hb;replace HB:=cO HB hb;clear hb hbox hg;have Uq:=Qh.out;have Ur:=Qg.out;have abX:=Qj.out;have abY:=Qi.out;obtain ⟨Bc,Bd,Ez,EA,Be,Bf,EB,EC⟩:=jc Ww.out;have ab2:=Wt.out;have ab3:=Wu.out;obtain ⟨CB,CE,CF,CG,EM,EN,EO,CJ,CK,CL,CO,EP,ER,ES⟩:=jF zk.out;obtain ⟨NU,NV,SE,SF,ah4,ah5,NW,NY,SG,SH,ah6,ah7⟩:=wT EW.out)|((with_reducible refine aQ (f:=74) rfl ?_);refine dn (some 27) rfl rfl Try.func74 aM rfl #[U Z (wrap64 (Mv+aj)),U Z vH,U Z vI] rfl ji ?_;(with_reducible refine (cB.calls (wrap64 (Mv+aj)) vH vI false _ QJ.out).mono ?_);rintro e w' ⟨rfl,⟨nd,rfl⟩⟩;refine ⟨_,rfl,?_⟩))
       go_roundg k1
       case measure=>have:=JP.out;omega
       case rel=>exact ⟨(wrap64 (Mv+aj)),(tV),(wrap64 (eD+1)),nM,nM,nM,H',⟨Mi⟩,⟨gB⟩,⟨gB⟩,⟨gL⟩⟩
     ·rw [if_neg c9] at H
      exact absurd H (by simp)
    ·rw [if_neg c8] at H
     exact absurd H (by simp)
   ·rw [if_neg c7] at H
    have Q7:decide (eD < (l2.length:Int)) = false:=decide_eq_false c7
    clear c7
    obtain rfl:=Option.some.inj H
    go_wp2
    go_ret
    exact ⟨lW,gL⟩
end Go.Proofs.Ytmhaiihjfgfaoaa.Pr
end
section
namespace Go.Proofs.Ytmhaiihjfgfaoaa.Gl
open Go.RowKit Go.Proofs.YtmhaiihjfgfaoaaW.PrintWords Go.Proofs.YtmhaiihjfgfaoaaW.PrintLast Go.Proofs.YtmhaiihjfgfaoaaW.PrintMore Go.Proofs.Ytmhaiihjfgfaoaa.Pr
set_option linter.unusedVariables false
def OI (dive:Int) (p:S81):List jf→Int→Int→Int
 |[],_,acc=>acc
 |x :: l,t,acc=>OI dive p l (t+dive) (if p.f1≤t+dive∧t+dive≤p.f2 then max acc (Mt x p.f0) else acc)
theorem aoo {x:Int} (h:-9223372036854775808≤x∧x < 9223372036854775808):wrap64 x = x:=by unfold wrap64;omega
theorem acT (v:tF) (hv:Dt v = true) (p:S81) (l:List jf) (hl:l.length≤64):∀ (m i K:Nat) (t acc:Int),i+m = l.length→m+1≤K→(0≤t∧t≤1073741824+(i:Int)*131072)→
 gM.l0 K t acc l (l.length:Int) (i:Int) v.speed v.dive v.use.f0 v.use.f1 v.drift.f0 v.drift.f1 v.reserve p.f0.f0.f0 p.f0.f0.f1 p.f0.f1.f0 p.f0.f1.f1 p.f1 p.f2 = some (OI v.dive p (l.drop i) t acc)
 |0,i,K+1,t,acc,h,hk,h0=>by
  rw [gM.l0,if_neg (by omega),List.drop_eq_nil_of_le (by omega)];rfl
 |m+1,i,K+1,t,acc,h,hk,h0=>by
  have hi:i < l.length:=by omega
  have e:iJ l (i:Int) = l[i]:=by
   unfold iJ
   simp [hi]
  have hd:1≤v.dive∧v.dive≤131072:=by
   unfold Dt at hv
   simp only [Bool.and_eq_true,jC] at hv
   omega
  rw [List.drop_eq_getElem_cons hi]
  unfold OI
  rw [gM.l0,if_pos (by omega),if_pos (by omega),if_pos (by omega),e,aoo (x:=t+v.dive) (by omega),aoo (x:=(i:Int)+1) (by omega),TZ,Option.bind_some]
  have hin:qm.f l[i].f0.f0 l[i].f0.f1 l[i].f1.f0 l[i].f1.f1 p.f0.f0.f0 p.f0.f0.f1 p.f0.f1.f0 p.f0.f1.f1 = some (Mt l[i] p.f0):=rfl
  rw [hin,Option.bind_some]
  have ih:=fun aAf=>acT v hv p l hl m (i+1) K (t+v.dive) aAf (by omega) (by omega) ⟨by omega,by omega⟩
  by_cases hb:p.f1≤t+v.dive∧t+v.dive≤p.f2
  ·rw [if_pos (jC.2 hb),if_pos hb,DW]
   exact ih _
  ·rw [if_neg (fun hq=>hb (jC.1 hq)),if_neg hb]
   exact ih _
theorem aop (v:tF) (hv:Dt v = true) (p:S81) (l:List jf) (hl:l.length≤64) (t:Int) (ht:0≤t∧t≤1073741824) (K:Nat) (hk:l.length+1≤K):
 gM.f K v.speed v.dive v.use.f0 v.use.f1 v.drift.f0 v.drift.f1 v.reserve t l p.f0.f0.f0 p.f0.f0.f1 p.f0.f1.f0 p.f0.f1.f1 p.f1 p.f2 = some (OI v.dive p l t 0):=by
 have:=acT v hv p l hl l.length 0 K t 0 (Nat.zero_add _) hk ⟨ht.1,by omega⟩
 rw [List.drop_zero] at this
 exact this
def Gs (p:S81):Bool:=Mj p.f0 && decide (0≤p.f1) && decide (p.f1≤p.f2) && decide (p.f2≤1073741824)
theorem ak5 (p:S81):o5.f 4 p.f0.f0.f0 p.f0.f0.f1 p.f0.f1.f0 p.f0.f1.f1 p.f1 p.f2 = some (Gs p):=by
 unfold o5.f Gs
 rw [abd p.f0,Option.bind_some]
 unfold Vb
 cases Mj p.f0 with
 |false=>rfl
 |true =>
  rw [if_pos rfl,if_pos rfl]
  by_cases h1:p.f1 ≥ 0
  ·rw [if_pos h1,decide_eq_true (show 0≤p.f1 from h1)]
   by_cases h2:p.f1≤p.f2
   ·rw [if_pos h2,decide_eq_true h2];rfl
   ·rw [if_neg h2,decide_eq_false h2];rfl
  ·rw [if_neg h1,decide_eq_false (show ¬(0≤p.f1) from h1)];rfl
end Go.Proofs.Ytmhaiihjfgfaoaa.Gl
end
