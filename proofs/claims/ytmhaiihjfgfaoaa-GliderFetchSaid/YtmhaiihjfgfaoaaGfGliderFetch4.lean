import Derived.Test.YtmhaiihjfgfaoaaGfGliderFetch3
set_option linter.unusedVariables false
set_option linter.unusedSimpArgs false
open Go.Value renaming int → U
open Go.IntKind renaming i64 → Z
open Bool renaming true → ab, false → ac
section
namespace Go.Proofs.Ytmhaiihjfgfaoaa.Pr
open Go.RowKit Go.Proofs.YtmhaiihjfgfaoaaW.PrintWords Go.Proofs.YtmhaiihjfgfaoaaW.PrintLast Go.Proofs.YtmhaiihjfgfaoaaW.PrintMore
attribute [local go_sem] gp gq iA iB gu
set_option linter.unusedVariables false
set_option linter.unusedSimpArgs false
def bK.f (ai:Int) (aj:Int) (a1:Int) (a2:Int):Option (Bool):=(bU.f ai aj).bind fun t106=>(if t106 = true then (if ai ≥ a1 then (some (decide (aj≤a2))) else (some false)) else (some false))
set_option maxHeartbeats 8000000 in
set_option maxRecDepth 100000 in
theorem bK.calls (ai:Int) (aj:Int) (a1:Int) (a2:Int) (r:Bool) (w:World) (h:bK.f ai aj a1 a2 = some r):
 Calls Try.prog 78 #[.agg #[U Z ai,U Z aj],U Z a1,U Z a2] w fun e w'=>e = .returned (.bool r)∧Below w.heap.size w w':=by
 have pz:=Try.underlying27
 have HB:=aa.mk (Below.refl w.heap.size w)
 have H:((bU.f ai aj).bind fun t106=>(if t106 = true then (if ai ≥ a1 then (some (decide (aj≤a2))) else (some false)) else (some false))) = some r:=h
 clear h
 replace H:=Option.bind_eq_some_iff.mp H
 obtain ⟨t106,M0,H⟩:=H
 replace H:(if t106 = true then (if ai ≥ a1 then (some (decide (aj≤a2))) else (some false)) else (some false)) = some r:=H
 have A4:=aa.mk M0
 clear M0
 by_cases c5:t106 = true
 ·subst c5
  have H1:(if ai ≥ a1 then (some (decide (aj≤a2))) else (some false)) = some r:=by rw [if_pos rfl] at H;exact H
  clear H
  have H:=H1
  clear H1
  by_cases c6:ai ≥ a1
  ·rw [if_pos c6] at H
   have GX:decide (a1≤ai) = true:=decide_eq_true c6
   clear c6
   obtain rfl:=Option.some.inj H
   go_enter Try.func78,Try.ntmps78
   go_wp2_with (first|((with_reducible refine aA (N:=3) rfl ?_);refine au (by rfl) (N:=3) (by rfl) (cs:=#[U Z ai,U Z aj]) (t:=27) fG ?_;intro axT hg w7 hbox hb;have Gx:=aa.mk (hbox);have axU:=bS HB hg;have axV:=bS HB hg;replace HB:=cO HB hb;clear hb hbox hg;obtain ⟨Md,Me,Mf,Mg⟩:=iZ Gx.out)|((with_reducible refine aQ (f:=111) rfl ?_);refine dn (some 8) rfl rfl Try.func111 aM rfl #[.agg #[U Z ai,U Z aj]] rfl ji ?_;(with_reducible refine (bU.calls ai aj true _ A4.out).mono ?_);rintro e w9 ⟨rfl,hb⟩;refine ⟨_,rfl,?_⟩;replace Gx:=aX Gx hb;replace HB:=cO HB hb;(try clear hb);(try clear hb2);(try clear hk);(try clear hi);obtain ⟨sV,sW,sZ,tq⟩:=iZ Gx.out))
   go_ret
   exact ⟨lW,gL⟩
  ·rw [if_neg c6] at H
   have GX:decide (a1≤ai) = false:=decide_eq_false c6
   clear c6
   obtain rfl:=Option.some.inj H
   go_enter Try.func78,Try.ntmps78
   go_wp2_with (first|((with_reducible refine aA (N:=3) rfl ?_);refine au (by rfl) (N:=3) (by rfl) (cs:=#[U Z ai,U Z aj]) (t:=27) fG ?_;intro axT hg w11 hbox hb;have Gx:=aa.mk (hbox);have axU:=bS HB hg;have axV:=bS HB hg;replace HB:=cO HB hb;clear hb hbox hg;obtain ⟨o6,o7,o8,o9⟩:=iZ Gx.out)|((with_reducible refine aQ (f:=111) rfl ?_);refine dn (some 8) rfl rfl Try.func111 aM rfl #[.agg #[U Z ai,U Z aj]] rfl ji ?_;(with_reducible refine (bU.calls ai aj true _ A4.out).mono ?_);rintro e FD ⟨rfl,hb⟩;refine ⟨_,rfl,?_⟩;replace Gx:=aX Gx hb;replace HB:=cO HB hb;(try clear hb);(try clear hb2);(try clear hk);(try clear hi);obtain ⟨Aq,Ar,Au,Av⟩:=iZ Gx.out))
   go_ret
   exact ⟨lW,gL⟩
 ·replace c5:=Bool.eq_false_iff.mpr c5
  subst c5
  have H1:(some false) = some r:=by rw [if_neg (show ¬ (false = true) by decide)] at H;exact H
  clear H
  have H:=H1
  clear H1
  obtain rfl:=Option.some.inj H
  go_enter Try.func78,Try.ntmps78
  go_wp2_with (first|((with_reducible refine aA (N:=3) rfl ?_);refine au (by rfl) (N:=3) (by rfl) (cs:=#[U Z ai,U Z aj]) (t:=27) fG ?_;intro axT hg w15 hbox hb;have Gx:=aa.mk (hbox);have axU:=bS HB hg;have axV:=bS HB hg;replace HB:=cO HB hb;clear hb hbox hg;obtain ⟨aae,aaf,aag,aah⟩:=iZ Gx.out)|((with_reducible refine aQ (f:=111) rfl ?_);refine dn (some 8) rfl rfl Try.func111 aM rfl #[.agg #[U Z ai,U Z aj]] rfl ji ?_;(with_reducible refine (bU.calls ai aj false _ A4.out).mono ?_);rintro e Fb ⟨rfl,hb⟩;refine ⟨_,rfl,?_⟩;replace Gx:=aX Gx hb;replace HB:=cO HB hb;(try clear hb);(try clear hb2);(try clear hk);(try clear hi)))
  go_ret
  exact ⟨lW,gL⟩
end Go.Proofs.Ytmhaiihjfgfaoaa.Pr
end
