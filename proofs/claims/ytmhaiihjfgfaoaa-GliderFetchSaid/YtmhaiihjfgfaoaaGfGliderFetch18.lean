import Derived.Test.YtmhaiihjfgfaoaaGfGliderFetch3
import Derived.Test.YtmhaiihjfgfaoaaGfGliderFetch5
import Derived.Test.YtmhaiihjfgfaoaaGfGliderFetch6
set_option linter.unusedVariables false
set_option linter.unusedSimpArgs false
open Go.Value renaming int → U
open Go.IntKind renaming i64 → Z
open Bool renaming true → ab, false → ac
section
namespace Go.Proofs.Ytmhaiihjfgfaoaa.Pr
open Go.RowKit Go.Proofs.YtmhaiihjfgfaoaaW.PrintWords Go.Proofs.YtmhaiihjfgfaoaaW.PrintLast Go.Proofs.YtmhaiihjfgfaoaaW.PrintMore
attribute [local go_sem] gp gq iA iB gu
set_option linter.unusedVariables false
set_option linter.unusedSimpArgs false
def jI.f (a0:Int):Option (Int × Int):=(some (([0,707,1000,707,0,(-707),(-1000),(-707),0]:List Int):List Int)).bind fun Ml=>((some (([1000,707,0,(-707),(-1000),(-707),0,707,0]:List Int):List Int)).bind fun Le=>(if 0≤a0 then (if a0 < (Ml.length:Int) then (if a0 < (Le.length:Int) then (some (rd Ml a0,rd Le a0)) else (none)) else (none)) else (none)))
set_option maxHeartbeats 8000000 in
set_option maxRecDepth 100000 in
theorem jI.calls (a0:Int) (r1:Int) (r2:Int) (w:World) (h:jI.f a0 = some (r1,r2)):
 Calls Try.prog 34 #[U Z a0] w fun e w'=>e = .returned (.tuple #[U Z r1,U Z r2])∧Below w.heap.size w w':=by
 have HB:=aa.mk (Below.refl w.heap.size w)
 have H:((some (([0,707,1000,707,0,(-707),(-1000),(-707),0]:List Int):List Int)).bind fun Ml=>((some (([1000,707,0,(-707),(-1000),(-707),0,707,0]:List Int):List Int)).bind fun Le=>(if 0≤a0 then (if a0 < (Ml.length:Int) then (if a0 < (Le.length:Int) then (some (rd Ml a0,rd Le a0)) else (none)) else (none)) else (none)))) = some (r1,r2):=h
 clear h
 obtain ⟨Ml,abx⟩:∃ y_:List Int,y_ = (([0,707,1000,707,0,(-707),(-1000),(-707),0]:List Int)):=⟨_,rfl⟩
 replace H:((some (([1000,707,0,(-707),(-1000),(-707),0,707,0]:List Int):List Int)).bind fun Le=>(if 0≤a0 then (if a0 < (Ml.length:Int) then (if a0 < (Le.length:Int) then (some (rd Ml a0,rd Le a0)) else (none)) else (none)) else (none))) = some (r1,r2):=by first|(rw [abx];with_reducible exact H)|(have Ji:=(Option.bind_some _ _).symm.trans H;rw [abx];with_reducible exact Ji)|(have Ji:=(Option.bind_some _ _).symm.trans H;with_reducible exact Ji)|with_reducible exact H|(rw [abx];exact H)|exact H
 have VW:=aa.mk abx
 clear abx
 obtain ⟨Le,aby⟩:∃ y_:List Int,y_ = (([1000,707,0,(-707),(-1000),(-707),0,707,0]:List Int)):=⟨_,rfl⟩
 replace H:(if 0≤a0 then (if a0 < (Ml.length:Int) then (if a0 < (Le.length:Int) then (some (rd Ml a0,rd Le a0)) else (none)) else (none)) else (none)) = some (r1,r2):=by first|(rw [aby];with_reducible exact H)|(have Ji:=(Option.bind_some _ _).symm.trans H;rw [aby];with_reducible exact Ji)|(have Ji:=(Option.bind_some _ _).symm.trans H;with_reducible exact Ji)|with_reducible exact H|(rw [aby];exact H)|exact H
 have VX:=aa.mk aby
 clear aby
 by_cases c2:0≤a0
 ·rw [if_pos c2] at H
  have abz:decide (0≤a0) = true:=decide_eq_true c2
  clear c2
  by_cases c3:a0 < (Ml.length:Int)
  ·rw [if_pos c3] at H
   have Cc:decide (a0 < (Ml.length:Int)) = true:=decide_eq_true c3
   clear c3
   by_cases c4:a0 < (Le.length:Int)
   ·rw [if_pos c4] at H
    have tN:decide (a0 < (Le.length:Int)) = true:=decide_eq_true c4
    clear c4
    simp only [Option.some.injEq,Prod.mk.injEq] at H
    obtain ⟨rfl,rfl⟩:=H
    go_enter Try.func34,Try.ntmps34
    go_wp2_with (first|((with_reducible refine aA (N:=6) rfl ?_);refine Kd.Dk (Kd.int .i64) _ 2 (by rfl) (N:=6) (by rfl) (xs:=([0,707,1000,707,0,(-707),(-1000),(-707),0]:List Int)) (inner:=[U Z 0,U Z 707,U Z 1000,U Z 707,U Z 0,U Z (-707),U Z (-1000),U Z (-707),U Z 0]) (ok:=fun _=>True) (okp:=fun _=>True) fG ayR (fun _ hk=>hk) trivial (Below.refl _ _) (Nat.le_refl _) (by simp) ?_;intro aBQ w5 Ud hb M4 pW;clear M4 pW;(first|rw [← VW.out] at Ud|(simp only [Int.reduceToNat] at Ud;rw [← VW.out] at Ud));have I7:=aa.mk (Kd.lX Ud (iq gL));replace HB:=cO HB hb;clear hb Ud)|((with_reducible refine aA (N:=7) rfl ?_);refine Kd.Dk (Kd.int .i64) _ 2 (by rfl) (N:=7) (by rfl) (xs:=([1000,707,0,(-707),(-1000),(-707),0,707,0]:List Int)) (inner:=[U Z 1000,U Z 707,U Z 0,U Z (-707),U Z (-1000),U Z (-707),U Z 0,U Z 707,U Z 0]) (ok:=fun _=>True) (okp:=fun _=>True) fG ayS (fun _ hk=>hk) trivial (Below.refl _ _) (Nat.le_refl _) (by simp) ?_;intro aBR w7 VY hb M4 pW;clear M4 pW;(first|rw [← VX.out] at VY|(simp only [Int.reduceToNat] at VY;rw [← VX.out] at VY));have QK:=aa.mk (Kd.lX (Kd.adC VY (Kd.alx aj5)) (iq gL));replace I7:=aa.mk (Kd.TE aj5 (Kd.adB VY) hb);replace HB:=cO HB hb;clear hb VY;obtain ⟨Ao9,co9,eo9⟩:=Kd.nR I7.out;subst eo9;have Ue:0≤(a0:Int):=of_decide_eq_true mq;have Uf:a0 < (Ml.length:Int):=of_decide_eq_true mq;obtain ⟨awu,amE,afJ⟩:=Kd.LM (Kd.gZ I7.out).2.2 a0 Ue Uf;cases amE;replace Ue:=eq_true Ue;replace Uf:=eq_true Uf;obtain ⟨aBT,aBU,amF⟩:=Kd.nR QK.out;subst amF;have Ug:0≤(a0:Int):=of_decide_eq_true mq;have Uh:a0 < (Le.length:Int):=of_decide_eq_true mq;obtain ⟨awv,amG,afK⟩:=Kd.LM (Kd.gZ QK.out).2.2 a0 Ug Uh;cases amG;replace Ug:=eq_true Ug;replace Uh:=eq_true Uh))
    repeat (go_quiet (first|((with_reducible refine aA (N:=6) rfl ?_);refine Kd.Dk (Kd.int .i64) _ 2 (by rfl) (N:=6) (by rfl) (xs:=([0,707,1000,707,0,(-707),(-1000),(-707),0]:List Int)) (inner:=[U Z 0,U Z 707,U Z 1000,U Z 707,U Z 0,U Z (-707),U Z (-1000),U Z (-707),U Z 0]) (ok:=fun _=>True) (okp:=fun _=>True) fG ayR (fun _ hk=>hk) trivial (Below.refl _ _) (Nat.le_refl _) (by simp) ?_;intro aBQ w5 Ud hb M4 pW;clear M4 pW;(first|rw [← VW.out] at Ud|(simp only [Int.reduceToNat] at Ud;rw [← VW.out] at Ud));have I7:=aa.mk (Kd.lX Ud (iq gL));replace HB:=cO HB hb;clear hb Ud)|((with_reducible refine aA (N:=7) rfl ?_);refine Kd.Dk (Kd.int .i64) _ 2 (by rfl) (N:=7) (by rfl) (xs:=([1000,707,0,(-707),(-1000),(-707),0,707,0]:List Int)) (inner:=[U Z 1000,U Z 707,U Z 0,U Z (-707),U Z (-1000),U Z (-707),U Z 0,U Z 707,U Z 0]) (ok:=fun _=>True) (okp:=fun _=>True) fG ayS (fun _ hk=>hk) trivial (Below.refl _ _) (Nat.le_refl _) (by simp) ?_;intro aBR w7 VY hb M4 pW;clear M4 pW;(first|rw [← VX.out] at VY|(simp only [Int.reduceToNat] at VY;rw [← VX.out] at VY));have QK:=aa.mk (Kd.lX (Kd.adC VY (Kd.alx aj5)) (iq gL));replace I7:=aa.mk (Kd.TE aj5 (Kd.adB VY) hb);replace HB:=cO HB hb;clear hb VY;obtain ⟨Ao9,co9,eo9⟩:=Kd.nR I7.out;subst eo9;have Ue:0≤(a0:Int):=of_decide_eq_true mq;have Uf:a0 < (Ml.length:Int):=of_decide_eq_true mq;obtain ⟨awu,amE,afJ⟩:=Kd.LM (Kd.gZ I7.out).2.2 a0 Ue Uf;cases amE;replace Ue:=eq_true Ue;replace Uf:=eq_true Uf;obtain ⟨aBT,aBU,amF⟩:=Kd.nR QK.out;subst amF;have Ug:0≤(a0:Int):=of_decide_eq_true mq;have Uh:a0 < (Le.length:Int):=of_decide_eq_true mq;obtain ⟨awv,amG,afK⟩:=Kd.LM (Kd.gZ QK.out).2.2 a0 Ug Uh;cases amG;replace Ug:=eq_true Ug;replace Uh:=eq_true Uh));try go_wp2_with (first|((with_reducible refine aA (N:=6) rfl ?_);refine Kd.Dk (Kd.int .i64) _ 2 (by rfl) (N:=6) (by rfl) (xs:=([0,707,1000,707,0,(-707),(-1000),(-707),0]:List Int)) (inner:=[U Z 0,U Z 707,U Z 1000,U Z 707,U Z 0,U Z (-707),U Z (-1000),U Z (-707),U Z 0]) (ok:=fun _=>True) (okp:=fun _=>True) fG ayR (fun _ hk=>hk) trivial (Below.refl _ _) (Nat.le_refl _) (by simp) ?_;intro aBQ w5 Ud hb M4 pW;clear M4 pW;(first|rw [← VW.out] at Ud|(simp only [Int.reduceToNat] at Ud;rw [← VW.out] at Ud));have I7:=aa.mk (Kd.lX Ud (iq gL));replace HB:=cO HB hb;clear hb Ud)|((with_reducible refine aA (N:=7) rfl ?_);refine Kd.Dk (Kd.int .i64) _ 2 (by rfl) (N:=7) (by rfl) (xs:=([1000,707,0,(-707),(-1000),(-707),0,707,0]:List Int)) (inner:=[U Z 1000,U Z 707,U Z 0,U Z (-707),U Z (-1000),U Z (-707),U Z 0,U Z 707,U Z 0]) (ok:=fun _=>True) (okp:=fun _=>True) fG ayS (fun _ hk=>hk) trivial (Below.refl _ _) (Nat.le_refl _) (by simp) ?_;intro aBR w7 VY hb M4 pW;clear M4 pW;(first|rw [← VX.out] at VY|(simp only [Int.reduceToNat] at VY;rw [← VX.out] at VY));have QK:=aa.mk (Kd.lX (Kd.adC VY (Kd.alx aj5)) (iq gL));replace I7:=aa.mk (Kd.TE aj5 (Kd.adB VY) hb);replace HB:=cO HB hb;clear hb VY;obtain ⟨Ao9,co9,eo9⟩:=Kd.nR I7.out;subst eo9;have Ue:0≤(a0:Int):=of_decide_eq_true mq;have Uf:a0 < (Ml.length:Int):=of_decide_eq_true mq;obtain ⟨awu,amE,afJ⟩:=Kd.LM (Kd.gZ I7.out).2.2 a0 Ue Uf;cases amE;replace Ue:=eq_true Ue;replace Uf:=eq_true Uf;obtain ⟨aBT,aBU,amF⟩:=Kd.nR QK.out;subst amF;have Ug:0≤(a0:Int):=of_decide_eq_true mq;have Uh:a0 < (Le.length:Int):=of_decide_eq_true mq;obtain ⟨awv,amG,afK⟩:=Kd.LM (Kd.gZ QK.out).2.2 a0 Ug Uh;cases amG;replace Ug:=eq_true Ug;replace Uh:=eq_true Uh)))
    go_ret2
    exact ⟨lW,gL⟩
   ·rw [if_neg c4] at H
    exact absurd H (by simp)
  ·rw [if_neg c3] at H
   exact absurd H (by simp)
 ·rw [if_neg c2] at H
  exact absurd H (by simp)
def fq.f (l0:List Int) (a1:Int):Option (Int):=if a1 < (l0.length:Int) then (if 0≤a1 then (some (rd l0 a1)) else (none)) else (some 0)
set_option maxHeartbeats 8000000 in
set_option maxRecDepth 100000 in
theorem fq.calls (A0:Option Addr) (c0:Nat) (l0:List Int) (a1:Int) (r:Int) (w:World) (hr0:Kd.C (Kd.int .u16) w A0 l0.length l0) (hc0:l0.length≤c0) (h:fq.f l0 a1 = some r):
 Calls Try.prog 35 #[.slice A0 l0.length c0,U Z a1] w fun e w'=>e = .returned (.int .u16 r)∧vo w w':=by
 have Mh:=aa.mk hr0
 have HC0:=aa.mk hc0
 clear hr0 hc0
 have H:(if a1 < (l0.length:Int) then (if 0≤a1 then (some (rd l0 a1)) else (none)) else (some 0)) = some r:=h
 clear h
 by_cases c3:a1 < (l0.length:Int)
 ·rw [if_pos c3] at H
  have Cc:decide (a1 < (l0.length:Int)) = true:=decide_eq_true c3
  clear c3
  by_cases c4:0≤a1
  ·rw [if_pos c4] at H
   have tN:decide (0≤a1) = true:=decide_eq_true c4
   clear c4
   obtain rfl:=Option.some.inj H
   have ayT:0≤(a1:Int):=of_decide_eq_true mq
   have ayU:a1 < (l0.length:Int):=of_decide_eq_true mq
   obtain ⟨a1U,aWZ,aOO⟩:=Kd.LM Mh.out a1 ayT ayU
   cases aWZ
   replace ayT:=eq_true ayT
   replace ayU:=eq_true ayU
   go_enter Try.func35,Try.ntmps35
   go_wp2
   go_ret
   exact ⟨nM,Xo⟩
  ·rw [if_neg c4] at H
   exact absurd H (by simp)
 ·rw [if_neg c3] at H
  have Cc:decide (a1 < (l0.length:Int)) = false:=decide_eq_false c3
  clear c3
  obtain rfl:=Option.some.inj H
  go_enter Try.func35,Try.ntmps35
  go_wp2
  go_ret
  exact ⟨nM,Xo⟩
def isobathlaw03_holds.f (ai:Int) (aj:Int) (aC:Int) (aD:Int) (a1:Int) (a2:Int):Option (Bool):=if (wrap64 (ai*4000000))≤a1 then (if a1≤(wrap64 (aj*4000000)) then (if (wrap64 (aC*4000000))≤a2 then (some (decide (a2≤(wrap64 (aD*4000000))))) else (some false)) else (some false)) else (some false)
set_option maxHeartbeats 8000000 in
set_option maxRecDepth 100000 in
theorem isobathlaw03_holds.calls (ai:Int) (aj:Int) (aC:Int) (aD:Int) (a1:Int) (a2:Int) (r:Bool) (w:World) (h:isobathlaw03_holds.f ai aj aC aD a1 a2 = some r):
 Calls Try.prog 36 #[.agg #[U Z ai,U Z aj,U Z aC,U Z aD],U Z a1,U Z a2] w fun e w'=>e = .returned (.bool r)∧Below w.heap.size w w':=by
 have rO:=Try.underlying31
 have HB:=aa.mk (Below.refl w.heap.size w)
 have H:(if (wrap64 (ai*4000000))≤a1 then (if a1≤(wrap64 (aj*4000000)) then (if (wrap64 (aC*4000000))≤a2 then (some (decide (a2≤(wrap64 (aD*4000000))))) else (some false)) else (some false)) else (some false)) = some r:=h
 clear h
 by_cases c4:(wrap64 (ai*4000000))≤a1
 ·rw [if_pos c4] at H
  have tN:decide ((wrap64 (ai*4000000))≤a1) = true:=decide_eq_true c4
  clear c4
  by_cases c5:a1≤(wrap64 (aj*4000000))
  ·rw [if_pos c5] at H
   have DI:decide (a1≤(wrap64 (aj*4000000))) = true:=decide_eq_true c5
   clear c5
   by_cases c6:(wrap64 (aC*4000000))≤a2
   ·rw [if_pos c6] at H
    have GX:decide ((wrap64 (aC*4000000))≤a2) = true:=decide_eq_true c6
    clear c6
    obtain rfl:=Option.some.inj H
    go_enter Try.func36,Try.ntmps36
    go_wp2_with (first|((with_reducible refine aA (N:=3) rfl ?_);refine au (by rfl) (N:=3) (by rfl) (cs:=#[U Z ai,U Z aj,U Z aC,U Z aD]) (t:=31) fG ?_;intro amH hg w7 hbox hb;have Ui:=aa.mk (hbox);have amI:=bS HB hg;have amJ:=bS HB hg;replace HB:=cO HB hb;clear hb hbox hg;obtain ⟨Md,Me,Xc,Xd,Mf,Mg,Xe,Xf⟩:=jc Ui.out))
    go_ret
    exact ⟨lW,gL⟩
   ·rw [if_neg c6] at H
    have GX:decide ((wrap64 (aC*4000000))≤a2) = false:=decide_eq_false c6
    clear c6
    obtain rfl:=Option.some.inj H
    go_enter Try.func36,Try.ntmps36
    go_wp2_with (first|((with_reducible refine aA (N:=3) rfl ?_);refine au (by rfl) (N:=3) (by rfl) (cs:=#[U Z ai,U Z aj,U Z aC,U Z aD]) (t:=31) fG ?_;intro amH hg w9 hbox hb;have Ui:=aa.mk (hbox);have amI:=bS HB hg;have amJ:=bS HB hg;replace HB:=cO HB hb;clear hb hbox hg;obtain ⟨sV,sW,JQ,JR,sZ,tq,JS,JU⟩:=jc Ui.out))
    go_ret
    exact ⟨lW,gL⟩
  ·rw [if_neg c5] at H
   have DI:decide (a1≤(wrap64 (aj*4000000))) = false:=decide_eq_false c5
   clear c5
   obtain rfl:=Option.some.inj H
   go_enter Try.func36,Try.ntmps36
   go_wp2_with (first|((with_reducible refine aA (N:=3) rfl ?_);refine au (by rfl) (N:=3) (by rfl) (cs:=#[U Z ai,U Z aj,U Z aC,U Z aD]) (t:=31) fG ?_;intro amH hg w11 hbox hb;have Ui:=aa.mk (hbox);have amI:=bS HB hg;have amJ:=bS HB hg;replace HB:=cO HB hb;clear hb hbox hg;obtain ⟨o6,o7,JD,JE,o8,o9,JF,JG⟩:=jc Ui.out))
   go_ret
   exact ⟨lW,gL⟩
 ·rw [if_neg c4] at H
  have tN:decide ((wrap64 (ai*4000000))≤a1) = false:=decide_eq_false c4
  clear c4
  obtain rfl:=Option.some.inj H
  go_enter Try.func36,Try.ntmps36
  go_wp2_with (first|((with_reducible refine aA (N:=3) rfl ?_);refine au (by rfl) (N:=3) (by rfl) (cs:=#[U Z ai,U Z aj,U Z aC,U Z aD]) (t:=31) fG ?_;intro amH hg FD hbox hb;have Ui:=aa.mk (hbox);have amI:=bS HB hg;have amJ:=bS HB hg;replace HB:=cO HB hb;clear hb hbox hg;obtain ⟨Aq,Ar,GL,GM,Au,Av,GN,GQ⟩:=jc Ui.out))
  go_ret
  exact ⟨lW,gL⟩
def eF.f (ai:Int) (aj:Int) (aC:Int) (aD:Int) (aJ:Int) (aH:Int) (aK:Int) (aI:Int) (aG:Int):Option (Int × Int):=if aI = 8 then (some (aJ,aH)) else (some (aC,aD))
set_option maxHeartbeats 8000000 in
set_option maxRecDepth 100000 in
theorem eF.calls (ai:Int) (aj:Int) (aC:Int) (aD:Int) (aJ:Int) (aH:Int) (aK:Int) (aI:Int) (aG:Int) (r1:Int) (r2:Int) (w:World) (h:eF.f ai aj aC aD aJ aH aK aI aG = some (r1,r2)):
 Calls Try.prog 39 #[.agg #[U Z ai,U Z aj,U Z aC,U Z aD,U Z aJ,U Z aH,U Z aK],.agg #[U Z aI,U Z aG]] w fun e w'=>e = .returned (.agg #[U Z r1,U Z r2])∧Below w.heap.size w w':=by
 have Br:=Try.underlying29
 have MV:=Try.underlying33
 have pz:=Try.underlying27
 have HB:=aa.mk (Below.refl w.heap.size w)
 have H:(if aI = 8 then (some (aJ,aH)) else (some (aC,aD))) = some (r1,r2):=h
 clear h
 by_cases c3:aI = 8
 ·rw [if_pos c3] at H
  have Cc:(aI == 8) = true:=beq_iff_eq.mpr c3
  have MZ:(aI != 8) = false:=bne_eq_false_iff_eq.mpr c3
  clear c3
  simp only [Option.some.injEq,Prod.mk.injEq] at H
  obtain ⟨rfl,rfl⟩:=H
  go_enter Try.func39,Try.ntmps39
  go_wp2_with (first|((with_reducible refine aA (N:=2) rfl ?_);refine au (by rfl) (N:=2) (by rfl) (cs:=#[U Z ai,U Z aj,U Z aC,U Z aD,U Z aJ,U Z aH,U Z aK]) (t:=29) fG ?_;intro aBV hg w4 hbox hb;have xX:=aa.mk (hbox);have aBW:=bS HB hg;have aBX:=bS HB hg;replace HB:=cO HB hb;clear hb hbox hg)|((with_reducible refine aA (N:=3) rfl ?_);refine au (by rfl) (N:=3) (by rfl) (cs:=#[U Z aI,U Z aG]) (t:=33) fG ?_;intro aBY hg w5 hbox hb;have Jq:=aa.mk (hbox);have aBZ:=bS HB hg;have aB0:=bS HB hg;have Pm:=eQ xX hg;have Pn:=eT xX hg;replace xX:=aX xX hb;replace HB:=cO HB hb;clear hb hbox hg)|((with_reducible refine aA (N:=4) rfl ?_);refine au (by rfl) (N:=4) (by rfl) (cs:=#[U Z 0,U Z 0]) (t:=27) fG ?_;intro amK hg w6 hbox hb;have abA:=aa.mk (hbox);have aB1:=bS HB hg;have aB2:=bS HB hg;have Po:=eQ xX hg;have Pp:=eT xX hg;have Pq:=eQ Jq hg;have Ps:=eT Jq hg;replace xX:=aX xX hb;replace Jq:=aX Jq hb;replace HB:=cO HB hb;clear hb hbox hg;have aW0:=Pn.out;have aW1:=Pm.out;have abB:=Pq.out;have abC:=Ps.out;obtain ⟨zu,zw,zx,zy⟩:=iZ Jq.out;have VL:=Po.out;have VM:=Pp.out;obtain ⟨uk,um,xJ,xK,Ci,Cj,GZ,uo,uq,xL,xM,Ck,Cm,G5⟩:=jF xX.out;obtain ⟨o6,o7,o8,o9⟩:=iZ abA.out))
  refine bodyPost_ret (results_cell_row rfl _ _ amK 27 #[U Z aJ,U Z aH] (0,0) _ rfl (by (with_reducible repeat (first|refine av ?_ _|refine ag ?_|refine af ?_ _));refine aN (cs:=#[U Z aJ,U Z 0]) ?_ 1 _ rfl;(with_reducible repeat (first|refine av ?_ _|refine ag ?_|refine af ?_ _));refine aN (cs:=#[U Z 0,U Z 0]) ?_ 0 _ rfl;(with_reducible repeat (first|refine av ?_ _|refine ag ?_|refine af ?_ _));exact abA.out) Try.underlying27 rfl aM) rfl ?_
  exact ⟨lW,gL⟩
 ·rw [if_neg c3] at H
  have Cc:(aI == 8) = false:=beq_eq_false_iff_ne.mpr c3
  have MZ:(aI != 8) = true:=bne_iff_ne.mpr c3
  simp only [Option.some.injEq,Prod.mk.injEq] at H
  obtain ⟨rfl,rfl⟩:=H
  go_enter Try.func39,Try.ntmps39
  go_wp2_with (first|((with_reducible refine aA (N:=2) rfl ?_);refine au (by rfl) (N:=2) (by rfl) (cs:=#[U Z ai,U Z aj,U Z aC,U Z aD,U Z aJ,U Z aH,U Z aK]) (t:=29) fG ?_;intro aBV hg FD hbox hb;have xX:=aa.mk (hbox);have aBW:=bS HB hg;have aBX:=bS HB hg;replace HB:=cO HB hb;clear hb hbox hg)|((with_reducible refine aA (N:=3) rfl ?_);refine au (by rfl) (N:=3) (by rfl) (cs:=#[U Z aI,U Z aG]) (t:=33) fG ?_;intro aBY hg w14 hbox hb;have Jq:=aa.mk (hbox);have aBZ:=bS HB hg;have aB0:=bS HB hg;have Pm:=eQ xX hg;have Pn:=eT xX hg;replace xX:=aX xX hb;replace HB:=cO HB hb;clear hb hbox hg)|((with_reducible refine aA (N:=4) rfl ?_);refine au (by rfl) (N:=4) (by rfl) (cs:=#[U Z 0,U Z 0]) (t:=27) fG ?_;intro amK hg w15 hbox hb;have abA:=aa.mk (hbox);have aB1:=bS HB hg;have aB2:=bS HB hg;have Po:=eQ xX hg;have Pp:=eT xX hg;have Pq:=eQ Jq hg;have Ps:=eT Jq hg;replace xX:=aX xX hb;replace Jq:=aX Jq hb;replace HB:=cO HB hb;clear hb hbox hg;have Na:=Pn.out;have Nb:=Pm.out;have Uj:=Pq.out;have Uk:=Ps.out;obtain ⟨Ee,Ef,Eg,Eh⟩:=iZ Jq.out;have QL:=Po.out;have QM:=Pp.out;obtain ⟨wu,wy,AP,AQ,Cn,Co,G6,wz,wB,AR,AU,Cq,Cr,G7⟩:=jF xX.out;obtain ⟨xO,xP,xQ,xR⟩:=iZ abA.out))
  refine bodyPost_ret (results_cell_row rfl _ _ amK 27 #[U Z aC,U Z aD] (0,0) _ rfl (by (with_reducible repeat (first|refine av ?_ _|refine ag ?_|refine af ?_ _));refine aN (cs:=#[U Z aC,U Z 0]) ?_ 1 _ rfl;(with_reducible repeat (first|refine av ?_ _|refine ag ?_|refine af ?_ _));refine aN (cs:=#[U Z 0,U Z 0]) ?_ 0 _ rfl;(with_reducible repeat (first|refine av ?_ _|refine ag ?_|refine af ?_ _));exact abA.out) Try.underlying27 rfl aM) rfl ?_
  exact ⟨lW,gL⟩
def gV.f (k:Nat) (ai:Int) (aj:Int) (aC:Int) (aD:Int) (aJ:Int) (aH:Int) (aK:Int) (aT:List Bool) (ak:List (rq)) (aI:Int) (aG:Int) (bn:Int) (bq:Int) (bH:Int) (bI:Int) (bG:Int):Option (Int):=(az.f k ai aj aC aD aJ aH aK aT ak).bind fun Ra=>(if Ra = 0 then ((dP.f aI aG bn bq bH bI bG).bind fun abD=>(some abD)) else ((az.f k ai aj aC aD aJ aH aK aT ak).bind fun abE=>(some abE)))
set_option maxHeartbeats 8000000 in
set_option maxRecDepth 100000 in
theorem gV.calls (k:Nat) (ai:Int) (aj:Int) (aC:Int) (aD:Int) (aJ:Int) (aH:Int) (aK:Int) (dW:Option Addr) (dN:Nat) (aT:List Bool) (dZ:Option Addr) (dO:Nat) (ak:List (rq)) (aI:Int) (aG:Int) (bn:Int) (bq:Int) (bH:Int) (bI:Int) (bG:Int) (r:Int) (w:World) (jT:Kd.C Kd.bool w dW aT.length aT) (jU:aT.length≤dN) (jV:Kd.C GI w dZ ak.length ak) (jW:ak.length≤dO) (h:gV.f k ai aj aC aD aJ aH aK aT ak aI aG bn bq bH bI bG = some r):
 Calls Try.prog 79 #[.agg #[U Z ai,U Z aj,U Z aC,U Z aD,U Z aJ,U Z aH,U Z aK,.slice dW aT.length dN,.slice dZ ak.length dO],.agg #[U Z aI,U Z aG,U Z bn,U Z bq,U Z bH,U Z bI,U Z bG]] w fun e w'=>e = .returned (U Z r)∧Below w.heap.size w w':=by
 have BV:=Try.underlying25
 have Br:=Try.underlying29
 have ik:=aa.mk jT
 have iC:=aa.mk jU
 clear jT jU
 have gN:=aa.mk jV
 have iD:=aa.mk jW
 clear jV jW
 have HB:=aa.mk (Below.refl w.heap.size w)
 have H:((az.f k ai aj aC aD aJ aH aK aT ak).bind fun Ra=>(if Ra = 0 then ((dP.f aI aG bn bq bH bI bG).bind fun abD=>(some abD)) else ((az.f k ai aj aC aD aJ aH aK aT ak).bind fun abE=>(some abE)))) = some r:=h
 clear h
 replace H:=Option.bind_eq_some_iff.mp H
 obtain ⟨Ra,QH,H⟩:=H
 replace H:(if Ra = 0 then ((dP.f aI aG bn bq bH bI bG).bind fun abD=>(some abD)) else ((az.f k ai aj aC aD aJ aH aK aT ak).bind fun abE=>(some abE))) = some r:=H
 have A3:=aa.mk QH
 clear QH
 by_cases c4:Ra = 0
 ·rw [if_pos c4] at H
  have tN:(Ra == 0) = true:=beq_iff_eq.mpr c4
  have amh:(Ra != 0) = false:=bne_eq_false_iff_eq.mpr c4
  clear c4
  replace H:=Option.bind_eq_some_iff.mp H
  obtain ⟨abD,QF,H⟩:=H
  replace H:(some abD) = some r:=H
  have A5:=aa.mk QF
  clear QF
  obtain rfl:=Option.some.inj H
  go_enter Try.func79,Try.ntmps79
  go_wp2_with (first|((with_reducible refine aA (N:=2) rfl ?_);refine au (by rfl) (N:=2) (by rfl) (cs:=#[U Z ai,U Z aj,U Z aC,U Z aD,U Z aJ,U Z aH,U Z aK,.slice dW aT.length dN,.slice dZ ak.length dO]) (t:=25) fG ?_;intro aB3 hg w6 hbox hb;have wW:=aa.mk (hbox);have aB4:=bS HB hg;have aB5:=bS HB hg;replace HB:=cO HB hb;clear hb hbox hg)|((with_reducible refine aA (N:=3) rfl ?_);refine au (by rfl) (N:=3) (by rfl) (cs:=#[U Z aI,U Z aG,U Z bn,U Z bq,U Z bH,U Z bI,U Z bG]) (t:=29) fG ?_;intro aB6 hg w7 hbox hb;have LD:=aa.mk (hbox);have aB7:=bS HB hg;have aB8:=bS HB hg;have Pt:=eQ wW hg;have Pv:=eT wW hg;replace wW:=aX wW hb;replace HB:=cO HB hb;clear hb hbox hg;have abB:=Pt.out;have abC:=Pv.out;obtain ⟨zu,zw,G8,G9,Pw,Px,Xp,Xq,Xr,zx,zy,Ha,Hd,Py,Pz,Xt,Xu,Xv⟩:=jA wW.out)|((with_reducible refine aQ (f:=26) rfl ?_);refine dn (some 6) rfl rfl Try.func26 aM rfl #[.agg #[U Z ai,U Z aj,U Z aC,U Z aD,U Z aJ,U Z aH,U Z aK,.slice dW aT.length dN,.slice dZ ak.length dO]] rfl ji ?_;(with_reducible refine (az.calls k ai aj aC aD aJ aH aK _ _ aT _ _ ak Ra _ ?cZ ?df ?eu ?eB A3.out).mono ?_);(case cZ=>repeat (first|exact (Kd.bB ik.out HB.out)|(with_reducible refine Kd.bC ?_ _)|(with_reducible refine Kd.bD ?_ _)|(with_reducible refine Kd.bN ?_)));(case df=>exact iC.out);(case eu=>repeat (first|exact (Kd.bB gN.out HB.out)|(with_reducible refine Kd.bC ?_ _)|(with_reducible refine Kd.bD ?_ _)|(with_reducible refine Kd.bN ?_)));(case eB=>exact iD.out);rintro e w10 ⟨rfl,hb⟩;refine ⟨_,rfl,?_⟩;replace wW:=aX wW hb;replace LD:=aX LD hb;replace HB:=cO HB hb;(try clear hb);(try clear hb2);(try clear hk);(try clear hi);obtain ⟨uk,um,xJ,xK,Ci,Cj,GZ,uo,uq,xL,xM,Ck,Cm,G5⟩:=jF LD.out)|((with_reducible refine aQ (f:=28) rfl ?_);refine dn (some 11) rfl rfl Try.func28 aM rfl #[.agg #[U Z aI,U Z aG,U Z bn,U Z bq,U Z bH,U Z bI,U Z bG]] rfl ji ?_;(with_reducible refine (dP.calls aI aG bn bq bH bI bG abD _ A5.out).mono ?_);rintro e O3 ⟨rfl,hb⟩;refine ⟨_,rfl,?_⟩;replace wW:=aX wW hb;replace LD:=aX LD hb;replace HB:=cO HB hb;(try clear hb);(try clear hb2);(try clear hk);(try clear hi)))
  go_ret
  exact ⟨lW,gL⟩
 ·rw [if_neg c4] at H
  have tN:(Ra == 0) = false:=beq_eq_false_iff_ne.mpr c4
  have amh:(Ra != 0) = true:=bne_iff_ne.mpr c4
  replace H:=Option.bind_eq_some_iff.mp H
  obtain ⟨abE,Vh,H⟩:=H
  replace H:(some abE) = some r:=H
  have A13:=aa.mk Vh
  clear Vh
  obtain rfl:=Option.some.inj H
  go_enter Try.func79,Try.ntmps79
  go_wp2_with (first|((with_reducible refine aA (N:=2) rfl ?_);refine au (by rfl) (N:=2) (by rfl) (cs:=#[U Z ai,U Z aj,U Z aC,U Z aD,U Z aJ,U Z aH,U Z aK,.slice dW aT.length dN,.slice dZ ak.length dO]) (t:=25) fG ?_;intro aB3 hg w14 hbox hb;have wW:=aa.mk (hbox);have aB4:=bS HB hg;have aB5:=bS HB hg;replace HB:=cO HB hb;clear hb hbox hg)|((with_reducible refine aA (N:=3) rfl ?_);refine au (by rfl) (N:=3) (by rfl) (cs:=#[U Z aI,U Z aG,U Z bn,U Z bq,U Z bH,U Z bI,U Z bG]) (t:=29) fG ?_;intro aB6 hg w15 hbox hb;have LD:=aa.mk (hbox);have aB7:=bS HB hg;have aB8:=bS HB hg;have Pt:=eQ wW hg;have Pv:=eT wW hg;replace wW:=aX wW hb;replace HB:=cO HB hb;clear hb hbox hg;have Na:=Pt.out;have Nb:=Pv.out;obtain ⟨uy,uz,xY,xZ,Ei,Ej,JV,Rs,Rt,uA,uB,yc,yf,El,Em,JW,Ru,Rv⟩:=jA wW.out)|((with_reducible refine aQ (f:=26) rfl ?_);refine dn (some 6) rfl rfl Try.func26 aM rfl #[.agg #[U Z ai,U Z aj,U Z aC,U Z aD,U Z aJ,U Z aH,U Z aK,.slice dW aT.length dN,.slice dZ ak.length dO]] rfl ji ?_;(with_reducible refine (az.calls k ai aj aC aD aJ aH aK _ _ aT _ _ ak Ra _ ?cZ ?df ?eu ?eB A3.out).mono ?_);(case cZ=>repeat (first|exact (Kd.bB ik.out HB.out)|(with_reducible refine Kd.bC ?_ _)|(with_reducible refine Kd.bD ?_ _)|(with_reducible refine Kd.bN ?_)));(case df=>exact iC.out);(case eu=>repeat (first|exact (Kd.bB gN.out HB.out)|(with_reducible refine Kd.bC ?_ _)|(with_reducible refine Kd.bD ?_ _)|(with_reducible refine Kd.bN ?_)));(case eB=>exact iD.out);rintro e w18 ⟨rfl,hb⟩;refine ⟨_,rfl,?_⟩;replace wW:=aX wW hb;replace LD:=aX LD hb;replace HB:=cO HB hb;(try clear hb);(try clear hb2);(try clear hk);(try clear hi);obtain ⟨vU,vV,yg,yh,Cs,Ct,He,Rw,Rx,vW,vX,yj,yl,Cu,Cv,Hf,Ry,Rz⟩:=jA wW.out)|((with_reducible refine aQ (f:=26) rfl ?_);refine dn (some 9) rfl rfl Try.func26 aM rfl #[.agg #[U Z ai,U Z aj,U Z aC,U Z aD,U Z aJ,U Z aH,U Z aK,.slice dW aT.length dN,.slice dZ ak.length dO]] rfl ji ?_;(with_reducible refine (az.calls k ai aj aC aD aJ aH aK _ _ aT _ _ ak abE _ ?cZ ?df ?eu ?eB A13.out).mono ?_);(case cZ=>repeat (first|exact (Kd.bB ik.out HB.out)|(with_reducible refine Kd.bC ?_ _)|(with_reducible refine Kd.bD ?_ _)|(with_reducible refine Kd.bN ?_)));(case df=>exact iC.out);(case eu=>repeat (first|exact (Kd.bB gN.out HB.out)|(with_reducible refine Kd.bC ?_ _)|(with_reducible refine Kd.bD ?_ _)|(with_reducible refine Kd.bN ?_)));(case eB=>exact iD.out);rintro e I4 ⟨rfl,hb⟩;refine ⟨_,rfl,?_⟩;replace wW:=aX wW hb;replace LD:=aX LD hb;replace HB:=cO HB hb;(try clear hb);(try clear hb2);(try clear hk);(try clear hi)))
  go_ret
  exact ⟨lW,gL⟩
def fM.f (ai:Int) (aj:Int) (aC:Int) (aD:Int) (a1:Int):Option (Int):=(dB.f ai aj aC aD).bind fun aj6=>(if aj6 = true then (if a1 < 0 then (some 3) else (if a1 > 1073741824 then (some 3) else (some 0))) else (some 2))
set_option maxHeartbeats 8000000 in
set_option maxRecDepth 100000 in
theorem fM.calls (ai:Int) (aj:Int) (aC:Int) (aD:Int) (a1:Int) (r:Int) (w:World) (h:fM.f ai aj aC aD a1 = some r):
 Calls Try.prog 80 #[.agg #[U Z ai,U Z aj,U Z aC,U Z aD],U Z a1] w fun e w'=>e = .returned (U Z r)∧Below w.heap.size w w':=by
 have rO:=Try.underlying31
 have HB:=aa.mk (Below.refl w.heap.size w)
 have H:((dB.f ai aj aC aD).bind fun aj6=>(if aj6 = true then (if a1 < 0 then (some 3) else (if a1 > 1073741824 then (some 3) else (some 0))) else (some 2))) = some r:=h
 clear h
 replace H:=Option.bind_eq_some_iff.mp H
 obtain ⟨aj6,QH,H⟩:=H
 replace H:(if aj6 = true then (if a1 < 0 then (some 3) else (if a1 > 1073741824 then (some 3) else (some 0))) else (some 2)) = some r:=H
 have A3:=aa.mk QH
 clear QH
 by_cases c4:aj6 = true
 ·subst c4
  have H1:(if a1 < 0 then (some 3) else (if a1 > 1073741824 then (some 3) else (some 0))) = some r:=by rw [if_pos rfl] at H;exact H
  clear H
  have H:=H1
  clear H1
  by_cases c5:a1 < 0
  ·rw [if_pos c5] at H
   have DI:decide (a1 < 0) = true:=decide_eq_true c5
   clear c5
   obtain rfl:=Option.some.inj H
   go_enter Try.func80,Try.ntmps80
   go_wp2_with (first|((with_reducible refine aA (N:=2) rfl ?_);refine au (by rfl) (N:=2) (by rfl) (cs:=#[U Z ai,U Z aj,U Z aC,U Z aD]) (t:=31) fG ?_;intro amL hg w6 hbox hb;have Du:=aa.mk (hbox);have amM:=bS HB hg;have amN:=bS HB hg;replace HB:=cO HB hb;clear hb hbox hg;obtain ⟨zA,zB,Fg,Fh,zC,zD,Fj,Fp⟩:=jc Du.out)|((with_reducible refine aQ (f:=63) rfl ?_);refine dn (some 6) rfl rfl Try.func63 aM rfl #[.agg #[U Z ai,U Z aj,U Z aC,U Z aD]] rfl ji ?_;(with_reducible refine (dB.calls ai aj aC aD true _ A3.out).mono ?_);rintro e w8 ⟨rfl,hb⟩;refine ⟨_,rfl,?_⟩;replace Du:=aX Du hb;replace HB:=cO HB hb;(try clear hb);(try clear hb2);(try clear hk);(try clear hi)))
   go_ret
   exact ⟨lW,gL⟩
  ·rw [if_neg c5] at H
   have DI:decide (a1 < 0) = false:=decide_eq_false c5
   clear c5
   by_cases c9:a1 > 1073741824
   ·rw [if_pos c9] at H
    have Mm:decide (1073741824 < a1) = true:=decide_eq_true c9
    clear c9
    obtain rfl:=Option.some.inj H
    go_enter Try.func80,Try.ntmps80
    go_wp2_with (first|((with_reducible refine aA (N:=2) rfl ?_);refine au (by rfl) (N:=2) (by rfl) (cs:=#[U Z ai,U Z aj,U Z aC,U Z aD]) (t:=31) fG ?_;intro amL hg w10 hbox hb;have Du:=aa.mk (hbox);have amM:=bS HB hg;have amN:=bS HB hg;replace HB:=cO HB hb;clear hb hbox hg;obtain ⟨uk,um,xJ,xK,uo,uq,xL,xM⟩:=jc Du.out)|((with_reducible refine aQ (f:=63) rfl ?_);refine dn (some 6) rfl rfl Try.func63 aM rfl #[.agg #[U Z ai,U Z aj,U Z aC,U Z aD]] rfl ji ?_;(with_reducible refine (dB.calls ai aj aC aD true _ A3.out).mono ?_);rintro e O3 ⟨rfl,hb⟩;refine ⟨_,rfl,?_⟩;replace Du:=aX Du hb;replace HB:=cO HB hb;(try clear hb);(try clear hb2);(try clear hk);(try clear hi)))
    go_ret
    exact ⟨lW,gL⟩
   ·rw [if_neg c9] at H
    have Mm:decide (1073741824 < a1) = false:=decide_eq_false c9
    clear c9
    obtain rfl:=Option.some.inj H
    go_enter Try.func80,Try.ntmps80
    go_wp2_with (first|((with_reducible refine aA (N:=2) rfl ?_);refine au (by rfl) (N:=2) (by rfl) (cs:=#[U Z ai,U Z aj,U Z aC,U Z aD]) (t:=31) fG ?_;intro amL hg FD hbox hb;have Du:=aa.mk (hbox);have amM:=bS HB hg;have amN:=bS HB hg;replace HB:=cO HB hb;clear hb hbox hg;obtain ⟨Aq,Ar,GL,GM,Au,Av,GN,GQ⟩:=jc Du.out)|((with_reducible refine aQ (f:=63) rfl ?_);refine dn (some 6) rfl rfl Try.func63 aM rfl #[.agg #[U Z ai,U Z aj,U Z aC,U Z aD]] rfl ji ?_;(with_reducible refine (dB.calls ai aj aC aD true _ A3.out).mono ?_);rintro e w15 ⟨rfl,hb⟩;refine ⟨_,rfl,?_⟩;replace Du:=aX Du hb;replace HB:=cO HB hb;(try clear hb);(try clear hb2);(try clear hk);(try clear hi)))
    go_ret
    exact ⟨lW,gL⟩
 ·replace c4:=Bool.eq_false_iff.mpr c4
  subst c4
  have H1:(some 2) = some r:=by rw [if_neg (show ¬ (false = true) by decide)] at H;exact H
  clear H
  have H:=H1
  clear H1
  obtain rfl:=Option.some.inj H
  go_enter Try.func80,Try.ntmps80
  go_wp2_with (first|((with_reducible refine aA (N:=2) rfl ?_);refine au (by rfl) (N:=2) (by rfl) (cs:=#[U Z ai,U Z aj,U Z aC,U Z aD]) (t:=31) fG ?_;intro amL hg w16 hbox hb;have Du:=aa.mk (hbox);have amM:=bS HB hg;have amN:=bS HB hg;replace HB:=cO HB hb;clear hb hbox hg;obtain ⟨uy,uz,xY,xZ,uA,uB,yc,yf⟩:=jc Du.out)|((with_reducible refine aQ (f:=63) rfl ?_);refine dn (some 6) rfl rfl Try.func63 aM rfl #[.agg #[U Z ai,U Z aj,U Z aC,U Z aD]] rfl ji ?_;(with_reducible refine (dB.calls ai aj aC aD false _ A3.out).mono ?_);rintro e w18 ⟨rfl,hb⟩;refine ⟨_,rfl,?_⟩;replace Du:=aX Du hb;replace HB:=cO HB hb;(try clear hb);(try clear hb2);(try clear hk);(try clear hi)))
  go_ret
  exact ⟨lW,gL⟩
def bQ.l0:Nat→List (xN)→Int→Int→Option (Int)
 |0,_,_,_=>none
 |k+1,x0,x1,x5=>if x5 < (x0.length:Int) then (if 0≤x5 then (if ((bJ x0 x5).f0) < 0 then (some 2) else (if ((bJ x0 x5).f0) > 8 then (some 2) else (if ((bJ x0 x5).f1) < 0 then (some 2) else (if x1 ≥ 0 then (if ((bJ x0 x5).f1) ≥ x1 then (some 2) else (bQ.l0 k x0 x1 (wrap64 (x5+1)))) else (bQ.l0 k x0 x1 (wrap64 (x5+1))))))) else (none)) else (some 0)
def bQ.f (k:Nat) (l0:List (xN)) (a1:Int):Option (Int):=if (l0.length:Int) > 64 then (some 6) else (bQ.l0 k l0 a1 0)
set_option maxHeartbeats 8000000 in
set_option maxRecDepth 100000 in
theorem bQ.calls (k:Nat) (A0:Option Addr) (c0:Nat) (l0:List (xN)) (a1:Int) (r:Int) (w:World) (hr0:Kd.C k33 w A0 l0.length l0) (hc0:l0.length≤c0) (h:bQ.f k l0 a1 = some r):
 Calls Try.prog 81 #[.slice A0 l0.length c0,U Z a1] w fun e w'=>e = .returned (U Z r)∧vo w w':=by
 have Mh:=aa.mk hr0
 have HC0:=aa.mk hc0
 clear hr0 hc0
 have H:(if (l0.length:Int) > 64 then (some 6) else (bQ.l0 k l0 a1 0)) = some r:=h
 clear h
 by_cases c3:(l0.length:Int) > 64
 ·rw [if_pos c3] at H
  have Cc:decide (64 < (l0.length:Int)) = true:=decide_eq_true c3
  have MZ:decide (64 < l0.length) = true:=decide_eq_true (by omega)
  clear c3
  obtain rfl:=Option.some.inj H
  go_enter Try.func81,Try.ntmps81
  go_wp2
  go_ret
  exact ⟨nM,Xo⟩
 ·rw [if_neg c3] at H
  have Cc:decide (64 < (l0.length:Int)) = false:=decide_eq_false c3
  have MZ:decide (64 < l0.length) = false:=decide_eq_false (by omega)
  clear c3
  have H':=aa.mk H
  clear H
  go_enter Try.func81,Try.ntmps81
  go_wp2
  go_loopg [5] k (fun kq v5 w'=>∃ (kW:Int),v5 = U Z kW∧aa (bQ.l0 kq l0 a1 kW = some r)∧aa (kq≤k)∧vo w w')
  case atStart=>exact ⟨(0),nM,H',⟨Nat.le_refl _⟩,Xo⟩
  case round =>
   clear H'
   try clear p2
   try clear c3
   try clear Cc
   try clear MZ
   obtain ⟨kW,rfl,HA,JP,⟨m1,rfl⟩⟩:=hrel
   cases gk with
   |zero=>exact absurd HA.out (by simp [bQ.l0])
   |succ k1 =>
    have H:=HA.out
    clear HA
    simp only [bQ.l0] at H
    by_cases c4:kW < (l0.length:Int)
    ·rw [if_pos c4] at H
     have tN:decide (kW < (l0.length:Int)) = true:=decide_eq_true c4
     clear c4
     by_cases c5:0≤kW
     ·rw [if_pos c5] at H
      have DI:decide (0≤kW) = true:=decide_eq_true c5
      clear c5
      by_cases c6:((bJ l0 kW).f0) < 0
      ·rw [if_pos c6] at H
       have GX:decide (((bJ l0 kW).f0) < 0) = true:=decide_eq_true c6
       clear c6
       obtain rfl:=Option.some.inj H
       have Dv:0≤(kW:Int):=of_decide_eq_true mq
       have Dw:kW < (l0.length:Int):=of_decide_eq_true mq
       obtain ⟨BQ,Ul,Nc,Nf⟩:=kE Mh.out kW Dv Dw
       cases Ul
       replace Dv:=eq_true Dv
       replace Dw:=eq_true Dw
       go_wp2
       go_ret
       exact ⟨nM,Xo⟩
      ·rw [if_neg c6] at H
       have GX:decide (((bJ l0 kW).f0) < 0) = false:=decide_eq_false c6
       clear c6
       by_cases c7:((bJ l0 kW).f0) > 8
       ·rw [if_pos c7] at H
        have Q7:decide (8 < ((bJ l0 kW).f0)) = true:=decide_eq_true c7
        clear c7
        obtain rfl:=Option.some.inj H
        have Dv:0≤(kW:Int):=of_decide_eq_true mq
        have Dw:kW < (l0.length:Int):=of_decide_eq_true mq
        obtain ⟨BQ,Ul,Nc,Nf⟩:=kE Mh.out kW Dv Dw
        cases Ul
        replace Dv:=eq_true Dv
        replace Dw:=eq_true Dw
        have Hg:0≤(kW:Int):=of_decide_eq_true mq
        have Hl:kW < (l0.length:Int):=of_decide_eq_true mq
        obtain ⟨Ng,Xw,RA,RB⟩:=kE Mh.out kW Hg Hl
        obtain rfl:BQ = Ng:=(by injection Xw)
        replace Hg:=eq_true Hg
        replace Hl:=eq_true Hl
        go_wp2
        go_ret
        exact ⟨nM,Xo⟩
       ·rw [if_neg c7] at H
        have Q7:decide (8 < ((bJ l0 kW).f0)) = false:=decide_eq_false c7
        clear c7
        by_cases c8:((bJ l0 kW).f1) < 0
        ·rw [if_pos c8] at H
         have Lf:decide (((bJ l0 kW).f1) < 0) = true:=decide_eq_true c8
         clear c8
         obtain rfl:=Option.some.inj H
         have Dv:0≤(kW:Int):=of_decide_eq_true mq
         have Dw:kW < (l0.length:Int):=of_decide_eq_true mq
         obtain ⟨BQ,Ul,Nc,Nf⟩:=kE Mh.out kW Dv Dw
         cases Ul
         replace Dv:=eq_true Dv
         replace Dw:=eq_true Dw
         have Hg:0≤(kW:Int):=of_decide_eq_true mq
         have Hl:kW < (l0.length:Int):=of_decide_eq_true mq
         obtain ⟨Ng,Xw,RA,RB⟩:=kE Mh.out kW Hg Hl
         obtain rfl:BQ = Ng:=(by injection Xw)
         replace Hg:=eq_true Hg
         replace Hl:=eq_true Hl
         have Mo:0≤(kW:Int):=of_decide_eq_true mq
         have Mq:kW < (l0.length:Int):=of_decide_eq_true mq
         obtain ⟨Um,aea,Xx,Xy⟩:=kE Mh.out kW Mo Mq
         obtain rfl:BQ = Um:=(by injection aea)
         replace Mo:=eq_true Mo
         replace Mq:=eq_true Mq
         go_wp2
         go_ret
         exact ⟨nM,Xo⟩
        ·rw [if_neg c8] at H
         have Lf:decide (((bJ l0 kW).f1) < 0) = false:=decide_eq_false c8
         clear c8
         by_cases c9:a1 ≥ 0
         ·rw [if_pos c9] at H
          have Mm:decide (0≤a1) = true:=decide_eq_true c9
          clear c9
          by_cases c10:((bJ l0 kW).f1) ≥ a1
          ·rw [if_pos c10] at H
           have Ea:decide (a1≤((bJ l0 kW).f1)) = true:=decide_eq_true c10
           clear c10
           obtain rfl:=Option.some.inj H
           have Dv:0≤(kW:Int):=of_decide_eq_true mq
           have Dw:kW < (l0.length:Int):=of_decide_eq_true mq
           obtain ⟨BQ,Ul,Nc,Nf⟩:=kE Mh.out kW Dv Dw
           cases Ul
           replace Dv:=eq_true Dv
           replace Dw:=eq_true Dw
           have Hg:0≤(kW:Int):=of_decide_eq_true mq
           have Hl:kW < (l0.length:Int):=of_decide_eq_true mq
           obtain ⟨Ng,Xw,RA,RB⟩:=kE Mh.out kW Hg Hl
           obtain rfl:BQ = Ng:=(by injection Xw)
           replace Hg:=eq_true Hg
           replace Hl:=eq_true Hl
           have Mo:0≤(kW:Int):=of_decide_eq_true mq
           have Mq:kW < (l0.length:Int):=of_decide_eq_true mq
           obtain ⟨Um,aea,Xx,Xy⟩:=kE Mh.out kW Mo Mq
           obtain rfl:BQ = Um:=(by injection aea)
           replace Mo:=eq_true Mo
           replace Mq:=eq_true Mq
           have aeb:0≤(kW:Int):=of_decide_eq_true mq
           have aec:kW < (l0.length:Int):=of_decide_eq_true mq
           obtain ⟨amO,ayV,aqH,aqI⟩:=kE Mh.out kW aeb aec
           obtain rfl:BQ = amO:=(by injection ayV)
           replace aeb:=eq_true aeb
           replace aec:=eq_true aec
           go_wp2
           go_ret
           exact ⟨nM,Xo⟩
          ·rw [if_neg c10] at H
           have Ea:decide (a1≤((bJ l0 kW).f1)) = false:=decide_eq_false c10
           clear c10
           have H':=aa.mk H
           clear H
           have Dv:0≤(kW:Int):=of_decide_eq_true mq
           have Dw:kW < (l0.length:Int):=of_decide_eq_true mq
           obtain ⟨BQ,Ul,Nc,Nf⟩:=kE Mh.out kW Dv Dw
           cases Ul
           replace Dv:=eq_true Dv
           replace Dw:=eq_true Dw
           have Hg:0≤(kW:Int):=of_decide_eq_true mq
           have Hl:kW < (l0.length:Int):=of_decide_eq_true mq
           obtain ⟨Ng,Xw,RA,RB⟩:=kE Mh.out kW Hg Hl
           obtain rfl:BQ = Ng:=(by injection Xw)
           replace Hg:=eq_true Hg
           replace Hl:=eq_true Hl
           have Mo:0≤(kW:Int):=of_decide_eq_true mq
           have Mq:kW < (l0.length:Int):=of_decide_eq_true mq
           obtain ⟨Um,aea,Xx,Xy⟩:=kE Mh.out kW Mo Mq
           obtain rfl:BQ = Um:=(by injection aea)
           replace Mo:=eq_true Mo
           replace Mq:=eq_true Mq
           have aeb:0≤(kW:Int):=of_decide_eq_true mq
           have aec:kW < (l0.length:Int):=of_decide_eq_true mq
           obtain ⟨amO,ayV,aqH,aqI⟩:=kE Mh.out kW aeb aec
           obtain rfl:BQ = amO:=(by injection ayV)
           replace aeb:=eq_true aeb
           replace aec:=eq_true aec
           go_wp2
           go_roundg k1
           case measure=>have:=JP.out;omega
           case rel=>exact ⟨(wrap64 (kW+1)),nM,H',⟨Mi⟩,Xo⟩
         ·rw [if_neg c9] at H
          have Mm:decide (0≤a1) = false:=decide_eq_false c9
          clear c9
          have H':=aa.mk H
          clear H
          have Dv:0≤(kW:Int):=of_decide_eq_true mq
          have Dw:kW < (l0.length:Int):=of_decide_eq_true mq
          obtain ⟨BQ,Ul,Nc,Nf⟩:=kE Mh.out kW Dv Dw
          cases Ul
          replace Dv:=eq_true Dv
          replace Dw:=eq_true Dw
          have Hg:0≤(kW:Int):=of_decide_eq_true mq
          have Hl:kW < (l0.length:Int):=of_decide_eq_true mq
          obtain ⟨Ng,Xw,RA,RB⟩:=kE Mh.out kW Hg Hl
          obtain rfl:BQ = Ng:=(by injection Xw)
          replace Hg:=eq_true Hg
          replace Hl:=eq_true Hl
          have Mo:0≤(kW:Int):=of_decide_eq_true mq
          have Mq:kW < (l0.length:Int):=of_decide_eq_true mq
          obtain ⟨Um,aea,Xx,Xy⟩:=kE Mh.out kW Mo Mq
          obtain rfl:BQ = Um:=(by injection aea)
          replace Mo:=eq_true Mo
          replace Mq:=eq_true Mq
          go_wp2
          go_roundg k1
          case measure=>have:=JP.out;omega
          case rel=>exact ⟨(wrap64 (kW+1)),nM,H',⟨Mi⟩,Xo⟩
     ·rw [if_neg c5] at H
      exact absurd H (by simp)
    ·rw [if_neg c4] at H
     have tN:decide (kW < (l0.length:Int)) = false:=decide_eq_false c4
     clear c4
     obtain rfl:=Option.some.inj H
     go_wp2
     go_ret
     exact ⟨nM,Xo⟩
end Go.Proofs.Ytmhaiihjfgfaoaa.Pr
end
