import Derived.Test.YtmhaiihjfgfaoaaGzGliderReaches3
open Go.Value renaming int → U
open Go.IntKind renaming i64 → Z
open Bool renaming true → ab, false → ac
section
namespace Go.Proofs.Ytmhaiihjfgfaoaa.Pr
open Go.RowKit Go.Proofs.YtmhaiihjfgfaoaaW.PrintWords Go.Proofs.YtmhaiihjfgfaoaaW.PrintLast Go.Proofs.YtmhaiihjfgfaoaaW.PrintMore
attribute [local go_sem] eD eF fD fE eG
set_option linter.unusedVariables false
set_option linter.unusedSimpArgs false
def aV.f (a0:Int) (a1:Int) (a2:Int):Option (Bool):=if a0 ≥ a1 then (some (decide (a0≤a2))) else (some false)
set_option maxHeartbeats 8000000 in
set_option maxRecDepth 100000 in
theorem aV.calls (a0:Int) (a1:Int) (a2:Int) (r:Bool) (w:World) (h:aV.f a0 a1 a2 = some r):
 Calls Try.prog 112 #[U Z a0,U Z a1,U Z a2] w fun e w'=>e = .returned (.bool r)∧uu w w':=by
 have H:(if a0 ≥ a1 then (some (decide (a0≤a2))) else (some false)) = some r:=h
 clear h
 by_cases c4:a0 ≥ a1
 ·rw [if_pos c4] at H
  have sK:decide (a1≤a0) = true:=decide_eq_true c4
  clear c4
  obtain rfl:=Option.some.inj H
  go_enter Try.func112,Try.ntmps112
  go_wp2
  go_ret
  exact ⟨mg,zq3⟩
 ·rw [if_neg c4] at H
  have sK:decide (a1≤a0) = false:=decide_eq_false c4
  clear c4
  obtain rfl:=Option.some.inj H
  go_enter Try.func112,Try.ntmps112
  go_wp2
  go_ret
  exact ⟨mg,zq3⟩
def bL.f (ah:Int) (ai:Int):Option (Bool):=if ah≤ai then ((aV.f ah (-1073741824) 1073741824).bind fun t103=>(if t103 = true then ((aV.f ai (-1073741824) 1073741824).bind fun t104=>(some t104)) else (some false))) else (some false)
set_option maxHeartbeats 8000000 in
set_option maxRecDepth 100000 in
theorem bL.calls (ah:Int) (ai:Int) (r:Bool) (w:World) (h:bL.f ah ai = some r):
 Calls Try.prog 111 #[.agg #[U Z ah,U Z ai]] w fun e w'=>e = .returned (.bool r)∧Below w.heap.size w w':=by
 have oo:=Try.underlying27
 have HB:=aa.mk (Below.refl w.heap.size w)
 have H:(if ah≤ai then ((aV.f ah (-1073741824) 1073741824).bind fun t103=>(if t103 = true then ((aV.f ai (-1073741824) 1073741824).bind fun t104=>(some t104)) else (some false))) else (some false)) = some r:=h
 clear h
 by_cases c2:ah≤ai
 ·rw [if_pos c2] at H
  have Rs:decide (ah≤ai) = true:=decide_eq_true c2
  clear c2
  replace H:=Option.bind_eq_some_iff.mp H
  obtain ⟨t103,O5,H⟩:=H
  replace H:(if t103 = true then ((aV.f ai (-1073741824) 1073741824).bind fun t104=>(some t104)) else (some false)) = some r:=H
  have A3:=aa.mk O5
  clear O5
  by_cases c4:t103 = true
  ·subst c4
   have H1:((aV.f ai (-1073741824) 1073741824).bind fun t104=>(some t104)) = some r:=by rw [if_pos rfl] at H;exact H
   clear H
   have H:=H1
   clear H1
   replace H:=Option.bind_eq_some_iff.mp H
   obtain ⟨t104,O4,H⟩:=H
   replace H:(some t104) = some r:=H
   have A5:=aa.mk O4
   clear O4
   obtain rfl:=Option.some.inj H
   go_enter Try.func111,Try.ntmps111
   go_wp2_with (first|((with_reducible refine aG (N:=1) rfl ?_);refine az (by rfl) (N:=1) (by rfl) (cs:=#[U Z ah,U Z ai]) (t:=27) fM ?_;intro atz hg w6 hbox hb;have Yx:=aa.mk (hbox);have atA:=dn HB hg;have atB:=dn HB hg;replace HB:=dw HB hb;clear hb hbox hg;obtain ⟨wX,wY,wZ,xc⟩:=jq Yx.out)|(go_at_call 112;(with_reducible refine (aV.calls ah (-1073741824) 1073741824 true _ A3.out).mono ?_);rintro e w' ⟨rfl,⟨nd,rfl⟩⟩)|(go_at_call 112;(with_reducible refine (aV.calls ai (-1073741824) 1073741824 t104 _ A5.out).mono ?_);rintro e w' ⟨rfl,⟨nd,rfl⟩⟩))
   go_ret
   exact ⟨kL,fu⟩
  ·replace c4:=Bool.eq_false_iff.mpr c4
   subst c4
   have H1:(some false) = some r:=by rw [if_neg (show ¬ (false = true) by decide)] at H;exact H
   clear H
   have H:=H1
   clear H1
   obtain rfl:=Option.some.inj H
   go_enter Try.func111,Try.ntmps111
   go_wp2_with (first|((with_reducible refine aG (N:=1) rfl ?_);refine az (by rfl) (N:=1) (by rfl) (cs:=#[U Z ah,U Z ai]) (t:=27) fM ?_;intro atz hg w8 hbox hb;have Yx:=aa.mk (hbox);have atA:=dn HB hg;have atB:=dn HB hg;replace HB:=dw HB hb;clear hb hbox hg;obtain ⟨Bw,Bz,BA,BC⟩:=jq Yx.out)|(go_at_call 112;(with_reducible refine (aV.calls ah (-1073741824) 1073741824 false _ A3.out).mono ?_);rintro e w' ⟨rfl,⟨nd,rfl⟩⟩))
   go_ret
   exact ⟨kL,fu⟩
 ·rw [if_neg c2] at H
  have Rs:decide (ah≤ai) = false:=decide_eq_false c2
  clear c2
  obtain rfl:=Option.some.inj H
  go_enter Try.func111,Try.ntmps111
  go_wp2_with (first|((with_reducible refine aG (N:=1) rfl ?_);refine az (by rfl) (N:=1) (by rfl) (cs:=#[U Z ah,U Z ai]) (t:=27) fM ?_;intro atz hg w10 hbox hb;have Yx:=aa.mk (hbox);have atA:=dn HB hg;have atB:=dn HB hg;replace HB:=dw HB hb;clear hb hbox hg;obtain ⟨uZ,u6,u7,ve⟩:=jq Yx.out))
  go_ret
  exact ⟨kL,fu⟩
def bV.f (ah:Int) (ai:Int) (a1:Int) (a2:Int):Option (Bool):=(bL.f ah ai).bind fun t106=>(if t106 = true then (if ah ≥ a1 then (some (decide (ai≤a2))) else (some false)) else (some false))
set_option maxHeartbeats 8000000 in
set_option maxRecDepth 100000 in
theorem bV.calls (ah:Int) (ai:Int) (a1:Int) (a2:Int) (r:Bool) (w:World) (h:bV.f ah ai a1 a2 = some r):
 Calls Try.prog 78 #[.agg #[U Z ah,U Z ai],U Z a1,U Z a2] w fun e w'=>e = .returned (.bool r)∧Below w.heap.size w w':=by
 have oo:=Try.underlying27
 have HB:=aa.mk (Below.refl w.heap.size w)
 have H:((bL.f ah ai).bind fun t106=>(if t106 = true then (if ah ≥ a1 then (some (decide (ai≤a2))) else (some false)) else (some false))) = some r:=h
 clear h
 replace H:=Option.bind_eq_some_iff.mp H
 obtain ⟨t106,Kv,H⟩:=H
 replace H:(if t106 = true then (if ah ≥ a1 then (some (decide (ai≤a2))) else (some false)) else (some false)) = some r:=H
 have A4:=aa.mk Kv
 clear Kv
 by_cases c5:t106 = true
 ·subst c5
  have H1:(if ah ≥ a1 then (some (decide (ai≤a2))) else (some false)) = some r:=by rw [if_pos rfl] at H;exact H
  clear H
  have H:=H1
  clear H1
  by_cases c6:ah ≥ a1
  ·rw [if_pos c6] at H
   have Ld:decide (a1≤ah) = true:=decide_eq_true c6
   clear c6
   obtain rfl:=Option.some.inj H
   go_enter Try.func78,Try.ntmps78
   go_wp2_with (first|((with_reducible refine aG (N:=3) rfl ?_);refine az (by rfl) (N:=3) (by rfl) (cs:=#[U Z ah,U Z ai]) (t:=27) fM ?_;intro atC hg w7 hbox hb;have Es:=aa.mk (hbox);have atD:=dn HB hg;have atE:=dn HB hg;replace HB:=dw HB hb;clear hb hbox hg;obtain ⟨NC,ND,NF,NG⟩:=jq Es.out)|((with_reducible refine aN (f:=111) rfl ?_);refine bT (some 8) rfl rfl Try.func111 aY rfl #[.agg #[U Z ah,U Z ai]] rfl iG ?_;(with_reducible refine (bL.calls ah ai true _ A4.out).mono ?_);rintro e w9 ⟨rfl,hb⟩;refine ⟨_,rfl,?_⟩;replace Es:=bC Es hb;replace HB:=dw HB hb;(try clear hb);(try clear hb2);(try clear hk);(try clear hi);obtain ⟨rG,rH,rJ,rM⟩:=jq Es.out))
   go_ret
   exact ⟨kL,fu⟩
  ·rw [if_neg c6] at H
   have Ld:decide (a1≤ah) = false:=decide_eq_false c6
   clear c6
   obtain rfl:=Option.some.inj H
   go_enter Try.func78,Try.ntmps78
   go_wp2_with (first|((with_reducible refine aG (N:=3) rfl ?_);refine az (by rfl) (N:=3) (by rfl) (cs:=#[U Z ah,U Z ai]) (t:=27) fM ?_;intro atC hg w11 hbox hb;have Es:=aa.mk (hbox);have atD:=dn HB hg;have atE:=dn HB hg;replace HB:=dw HB hb;clear hb hbox hg;obtain ⟨qx,qy,qz,qA⟩:=jq Es.out)|((with_reducible refine aN (f:=111) rfl ?_);refine bT (some 8) rfl rfl Try.func111 aY rfl #[.agg #[U Z ah,U Z ai]] rfl iG ?_;(with_reducible refine (bL.calls ah ai true _ A4.out).mono ?_);rintro e TA ⟨rfl,hb⟩;refine ⟨_,rfl,?_⟩;replace Es:=bC Es hb;replace HB:=dw HB hb;(try clear hb);(try clear hb2);(try clear hk);(try clear hi);obtain ⟨vg,vk,vo,vv⟩:=jq Es.out))
   go_ret
   exact ⟨kL,fu⟩
 ·replace c5:=Bool.eq_false_iff.mpr c5
  subst c5
  have H1:(some false) = some r:=by rw [if_neg (show ¬ (false = true) by decide)] at H;exact H
  clear H
  have H:=H1
  clear H1
  obtain rfl:=Option.some.inj H
  go_enter Try.func78,Try.ntmps78
  go_wp2_with (first|((with_reducible refine aG (N:=3) rfl ?_);refine az (by rfl) (N:=3) (by rfl) (cs:=#[U Z ah,U Z ai]) (t:=27) fM ?_;intro atC hg w15 hbox hb;have Es:=aa.mk (hbox);have atD:=dn HB hg;have atE:=dn HB hg;replace HB:=dw HB hb;clear hb hbox hg;obtain ⟨CG,CJ,CK,CL⟩:=jq Es.out)|((with_reducible refine aN (f:=111) rfl ?_);refine bT (some 8) rfl rfl Try.func111 aY rfl #[.agg #[U Z ah,U Z ai]] rfl iG ?_;(with_reducible refine (bL.calls ah ai false _ A4.out).mono ?_);rintro e w17 ⟨rfl,hb⟩;refine ⟨_,rfl,?_⟩;replace Es:=bC Es hb;replace HB:=dw HB hb;(try clear hb);(try clear hb2);(try clear hk);(try clear hi)))
  go_ret
  exact ⟨kL,fu⟩
end Go.Proofs.Ytmhaiihjfgfaoaa.Pr
end
