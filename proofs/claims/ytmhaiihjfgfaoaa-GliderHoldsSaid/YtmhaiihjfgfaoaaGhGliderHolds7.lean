import Derived.Test.YtmhaiihjfgfaoaaGhGliderHolds3
import Derived.Test.YtmhaiihjfgfaoaaGhGliderHolds6
section
namespace Go.Proofs.Ytmhaiihjfgfaoaa.Pr
open Go.RowKit Go.Proofs.YtmhaiihjfgfaoaaW.PrintWords Go.Proofs.YtmhaiihjfgfaoaaW.PrintLast Go.Proofs.YtmhaiihjfgfaoaaW.PrintMore
attribute [local go_sem] cz cB dK dL cK
set_option linter.unusedVariables false
set_option linter.unusedSimpArgs false
def dP.f (k:Nat) (aj:Int) (ak:Int) (ax:Int) (ay:Int) (aJ:Int) (aC:Int) (aG:Int):Option (Int):=(bO.f aj 0 5000).bind fun t139=>(if t139 = true then ((bO.f ak 1 131072).bind fun t140=>(if t140 = true then ((bJ.f k ax ay 0 1073741824).bind fun t141=>(if t141 = true then ((bJ.f k aJ aC 0 1073741824).bind fun t142=>(if t142 = true then ((bO.f aG 0 1073741824).bind fun t143=>(if t143 = true then (some 0) else (some 2))) else (some 2))) else (some 2))) else (some 2))) else (some 2))
theorem dP.mono:∀ a0 a1 a2 a3 a4 a5 a6 k,mq (dP.f k a0 a1 a2 a3 a4 a5 a6) (dP.f (k+1) a0 a1 a2 a3 a4 a5 a6):=by
 intro a0 a1 a2 a3 a4 a5 a6 k
 unfold dP.f
 repeat' first
  |(with_reducible exact bJ.mono _ _ _ _ _)
  |(with_reducible exact mq.refl _)
  |(with_reducible exact mq.none _)
  |(with_reducible refine mq.ite ?_ ?_)
  |(with_reducible refine mq.bind ?_ (fun _=>?_))
  |exact bJ.mono _ _ _ _ _
  |exact mq.none _
  |refine mq.ite ?_ ?_
  |refine mq.bind ?_ (fun _=>?_)
set_option maxHeartbeats 8000000 in
set_option maxRecDepth 100000 in
theorem dP.calls (k:Nat) (aj:Int) (ak:Int) (ax:Int) (ay:Int) (aJ:Int) (aC:Int) (aG:Int) (r:Int) (w:World) (h:dP.f k aj ak ax ay aJ aC aG = some r):
 Calls Try.prog 27 #[.agg #[.int .i64 aj,.int .i64 ak,.int .i64 ax,.int .i64 ay,.int .i64 aJ,.int .i64 aC,.int .i64 aG]] w fun e w'=>e = .returned (.int .i64 r)∧Below w.heap.size w w':=by
 have BL:=Try.underlying29
 have pK:=Try.underlying27
 have HB:=ae.mk (Below.refl w.heap.size w)
 have H:((bO.f aj 0 5000).bind fun t139=>(if t139 = true then ((bO.f ak 1 131072).bind fun t140=>(if t140 = true then ((bJ.f k ax ay 0 1073741824).bind fun t141=>(if t141 = true then ((bJ.f k aJ aC 0 1073741824).bind fun t142=>(if t142 = true then ((bO.f aG 0 1073741824).bind fun t143=>(if t143 = true then (some 0) else (some 2))) else (some 2))) else (some 2))) else (some 2))) else (some 2))) = some r:=h
 clear h
 replace H:=Option.bind_eq_some_iff.mp H
 obtain ⟨t139,Yu,H⟩:=H
 replace H:(if t139 = true then ((bO.f ak 1 131072).bind fun t140=>(if t140 = true then ((bJ.f k ax ay 0 1073741824).bind fun t141=>(if t141 = true then ((bJ.f k aJ aC 0 1073741824).bind fun t142=>(if t142 = true then ((bO.f aG 0 1073741824).bind fun t143=>(if t143 = true then (some 0) else (some 2))) else (some 2))) else (some 2))) else (some 2))) else (some 2)) = some r:=H
 have A2:=ae.mk Yu
 clear Yu
 by_cases c3:t139 = true
 ·subst c3
  have H1:((bO.f ak 1 131072).bind fun t140=>(if t140 = true then ((bJ.f k ax ay 0 1073741824).bind fun t141=>(if t141 = true then ((bJ.f k aJ aC 0 1073741824).bind fun t142=>(if t142 = true then ((bO.f aG 0 1073741824).bind fun t143=>(if t143 = true then (some 0) else (some 2))) else (some 2))) else (some 2))) else (some 2))) = some r:=by rw [if_pos rfl] at H;exact H
  clear H
  have H:=H1
  clear H1
  replace H:=Option.bind_eq_some_iff.mp H
  obtain ⟨t140,LX,H⟩:=H
  replace H:(if t140 = true then ((bJ.f k ax ay 0 1073741824).bind fun t141=>(if t141 = true then ((bJ.f k aJ aC 0 1073741824).bind fun t142=>(if t142 = true then ((bO.f aG 0 1073741824).bind fun t143=>(if t143 = true then (some 0) else (some 2))) else (some 2))) else (some 2))) else (some 2)) = some r:=H
  have A4:=ae.mk LX
  clear LX
  by_cases c5:t140 = true
  ·subst c5
   have H1:((bJ.f k ax ay 0 1073741824).bind fun t141=>(if t141 = true then ((bJ.f k aJ aC 0 1073741824).bind fun t142=>(if t142 = true then ((bO.f aG 0 1073741824).bind fun t143=>(if t143 = true then (some 0) else (some 2))) else (some 2))) else (some 2))) = some r:=by rw [if_pos rfl] at H;exact H
   clear H
   have H:=H1
   clear H1
   replace H:=Option.bind_eq_some_iff.mp H
   obtain ⟨t141,KI,H⟩:=H
   replace H:(if t141 = true then ((bJ.f k aJ aC 0 1073741824).bind fun t142=>(if t142 = true then ((bO.f aG 0 1073741824).bind fun t143=>(if t143 = true then (some 0) else (some 2))) else (some 2))) else (some 2)) = some r:=H
   have A6:=ae.mk KI
   clear KI
   by_cases c7:t141 = true
   ·subst c7
    have H1:((bJ.f k aJ aC 0 1073741824).bind fun t142=>(if t142 = true then ((bO.f aG 0 1073741824).bind fun t143=>(if t143 = true then (some 0) else (some 2))) else (some 2))) = some r:=by rw [if_pos rfl] at H;exact H
    clear H
    have H:=H1
    clear H1
    replace H:=Option.bind_eq_some_iff.mp H
    obtain ⟨t142,U6,H⟩:=H
    replace H:(if t142 = true then ((bO.f aG 0 1073741824).bind fun t143=>(if t143 = true then (some 0) else (some 2))) else (some 2)) = some r:=H
    have A8:=ae.mk U6
    clear U6
    by_cases c9:t142 = true
    ·subst c9
     have H1:((bO.f aG 0 1073741824).bind fun t143=>(if t143 = true then (some 0) else (some 2))) = some r:=by rw [if_pos rfl] at H;exact H
     clear H
     have H:=H1
     clear H1
     replace H:=Option.bind_eq_some_iff.mp H
     obtain ⟨t143,Jr,H⟩:=H
     replace H:(if t143 = true then (some 0) else (some 2)) = some r:=H
     have W9:=ae.mk Jr
     clear Jr
     by_cases c11:t143 = true
     ·subst c11
      have H1:(some 0) = some r:=by rw [if_pos rfl] at H;exact H
      clear H
      have H:=H1
      clear H1
      obtain rfl:=Option.some.inj H
      go_enter Try.func27,Try.ntmps27
      go_wp2_with (first|((with_reducible refine aA (N:=1) rfl ?_);refine az (by rfl) (N:=1) (by rfl) (cs:=#[.int .i64 aj,.int .i64 ak,.int .i64 ax,.int .i64 ay,.int .i64 aJ,.int .i64 aC,.int .i64 aG]) (t:=29) gQ ?_;intro Wm hg MC hbox hb;have mF:=ae.mk (hbox);have Wn:=dn HB hg;have Wo:=dn HB hg;replace HB:=dF HB hb;clear hb hbox hg;obtain ⟨uW,uX,Bt,Bu,Kt,Ku,Kv,uY,uZ,Bv,Bw,Kw,Ky,Kz⟩:=ko mF.out)|((with_reducible refine aW (f:=74) rfl ?_);refine dM (some 5) rfl rfl Try.func74 aR rfl #[.int .i64 aj,.int .i64 0,.int .i64 5000] rfl jJ ?_;(with_reducible refine (bO.calls aj 0 5000 true _ A2.out).mono ?_);rintro e w' ⟨rfl,⟨nd,rfl⟩⟩;refine ⟨_,rfl,?_⟩)|(go_at_call 74;(with_reducible refine (bO.calls ak 1 131072 true _ A4.out).mono ?_);rintro e w' ⟨rfl,⟨nd,rfl⟩⟩)|(go_at_call 77;(with_reducible refine (bJ.calls k ax ay 0 1073741824 true _ A6.out).mono ?_);rintro e w14 ⟨rfl,hb⟩;replace mF:=bC mF hb;replace HB:=dF HB hb;(try clear hb);(try clear hb2);(try clear hk);(try clear hi);obtain ⟨pM,pO,rJ,rM,u6,u7,ve,pQ,pR,rO,rP,vg,vk,vo⟩:=ko mF.out)|(go_at_call 77;(with_reducible refine (bJ.calls k aJ aC 0 1073741824 true _ A8.out).mono ?_);rintro e w16 ⟨rfl,hb⟩;replace mF:=bC mF hb;replace HB:=dF HB hb;(try clear hb);(try clear hb2);(try clear hk);(try clear hi);obtain ⟨yE,yF,yG,yH,El,Em,En,yI,yJ,yK,yL,Eo,Ep,Er⟩:=ko mF.out)|(go_at_call 74;(with_reducible refine (bO.calls aG 0 1073741824 true _ W9.out).mono ?_);rintro e w' ⟨rfl,⟨nd,rfl⟩⟩))
      go_ret
      exact ⟨lJ,gM⟩
     ·replace c11:=Bool.eq_false_iff.mpr c11
      subst c11
      have H1:(some 2) = some r:=by rw [if_neg (show ¬ (false = true) by decide)] at H;exact H
      clear H
      have H:=H1
      clear H1
      obtain rfl:=Option.some.inj H
      go_enter Try.func27,Try.ntmps27
      go_wp2_with (first|((with_reducible refine aA (N:=1) rfl ?_);refine az (by rfl) (N:=1) (by rfl) (cs:=#[.int .i64 aj,.int .i64 ak,.int .i64 ax,.int .i64 ay,.int .i64 aJ,.int .i64 aC,.int .i64 aG]) (t:=29) gQ ?_;intro Wm hg w18 hbox hb;have mF:=ae.mk (hbox);have Wn:=dn HB hg;have Wo:=dn HB hg;replace HB:=dF HB hb;clear hb hbox hg;obtain ⟨yx,yz,BR,BS,I1,I4,I5,yA,yB,BU,BV,I6,I7,I8⟩:=ko mF.out)|((with_reducible refine aW (f:=74) rfl ?_);refine dM (some 5) rfl rfl Try.func74 aR rfl #[.int .i64 aj,.int .i64 0,.int .i64 5000] rfl jJ ?_;(with_reducible refine (bO.calls aj 0 5000 true _ A2.out).mono ?_);rintro e w' ⟨rfl,⟨nd,rfl⟩⟩;refine ⟨_,rfl,?_⟩)|(go_at_call 74;(with_reducible refine (bO.calls ak 1 131072 true _ A4.out).mono ?_);rintro e w' ⟨rfl,⟨nd,rfl⟩⟩)|(go_at_call 77;(with_reducible refine (bJ.calls k ax ay 0 1073741824 true _ A6.out).mono ?_);rintro e D7 ⟨rfl,hb⟩;replace mF:=bC mF hb;replace HB:=dF HB hb;(try clear hb);(try clear hb2);(try clear hk);(try clear hi);obtain ⟨qE,qF,tC,tF,tH,tJ,tK,qG,qH,tL,tN,tO,tQ,tT⟩:=ko mF.out)|(go_at_call 77;(with_reducible refine (bJ.calls k aJ aC 0 1073741824 true _ A8.out).mono ?_);rintro e w22 ⟨rfl,hb⟩;replace mF:=bC mF hb;replace HB:=dF HB hb;(try clear hb);(try clear hb2);(try clear hk);(try clear hi);obtain ⟨qI,qJ,tV,tX,KA,KC,KD,qK,qL,tY,tZ,KE,KF,KG⟩:=ko mF.out)|(go_at_call 74;(with_reducible refine (bO.calls aG 0 1073741824 false _ W9.out).mono ?_);rintro e w' ⟨rfl,⟨nd,rfl⟩⟩))
      go_ret
      exact ⟨lJ,gM⟩
    ·replace c9:=Bool.eq_false_iff.mpr c9
     subst c9
     have H1:(some 2) = some r:=by rw [if_neg (show ¬ (false = true) by decide)] at H;exact H
     clear H
     have H:=H1
     clear H1
     obtain rfl:=Option.some.inj H
     go_enter Try.func27,Try.ntmps27
     go_wp2_with (first|((with_reducible refine aA (N:=1) rfl ?_);refine az (by rfl) (N:=1) (by rfl) (cs:=#[.int .i64 aj,.int .i64 ak,.int .i64 ax,.int .i64 ay,.int .i64 aJ,.int .i64 aC,.int .i64 aG]) (t:=29) gQ ?_;intro Wm hg w24 hbox hb;have mF:=ae.mk (hbox);have Wn:=dn HB hg;have Wo:=dn HB hg;replace HB:=dF HB hb;clear hb hbox hg;obtain ⟨zk,zl,zm,zn,Cv,Cw,Cx,zo,zq,zt,zu,Cy,Cz,CB⟩:=ko mF.out)|((with_reducible refine aW (f:=74) rfl ?_);refine dM (some 5) rfl rfl Try.func74 aR rfl #[.int .i64 aj,.int .i64 0,.int .i64 5000] rfl jJ ?_;(with_reducible refine (bO.calls aj 0 5000 true _ A2.out).mono ?_);rintro e w' ⟨rfl,⟨nd,rfl⟩⟩;refine ⟨_,rfl,?_⟩)|(go_at_call 74;(with_reducible refine (bO.calls ak 1 131072 true _ A4.out).mono ?_);rintro e w' ⟨rfl,⟨nd,rfl⟩⟩)|(go_at_call 77;(with_reducible refine (bJ.calls k ax ay 0 1073741824 true _ A6.out).mono ?_);rintro e yU ⟨rfl,hb⟩;replace mF:=bC mF hb;replace HB:=dF HB hb;(try clear hb);(try clear hb2);(try clear hk);(try clear hi);obtain ⟨CE,CF,CG,CJ,Gn,Gp,Gq,CK,CL,CO,CP,Gr,Gs,Gt⟩:=ko mF.out)|(go_at_call 77;(with_reducible refine (bJ.calls k aJ aC 0 1073741824 false _ A8.out).mono ?_);rintro e w28 ⟨rfl,hb⟩;replace mF:=bC mF hb;replace HB:=dF HB hb;(try clear hb);(try clear hb2);(try clear hk);(try clear hi)))
     go_ret
     exact ⟨lJ,gM⟩
   ·replace c7:=Bool.eq_false_iff.mpr c7
    subst c7
    have H1:(some 2) = some r:=by rw [if_neg (show ¬ (false = true) by decide)] at H;exact H
    clear H
    have H:=H1
    clear H1
    obtain rfl:=Option.some.inj H
    go_enter Try.func27,Try.ntmps27
    go_wp2_with (first|((with_reducible refine aA (N:=1) rfl ?_);refine az (by rfl) (N:=1) (by rfl) (cs:=#[.int .i64 aj,.int .i64 ak,.int .i64 ax,.int .i64 ay,.int .i64 aJ,.int .i64 aC,.int .i64 aG]) (t:=29) gQ ?_;intro Wm hg w29 hbox hb;have mF:=ae.mk (hbox);have Wn:=dn HB hg;have Wo:=dn HB hg;replace HB:=dF HB hb;clear hb hbox hg;obtain ⟨EK,EL,EM,EN,JC,JD,JE,EO,EP,ER,ES,JF,JG,JH⟩:=ko mF.out)|((with_reducible refine aW (f:=74) rfl ?_);refine dM (some 5) rfl rfl Try.func74 aR rfl #[.int .i64 aj,.int .i64 0,.int .i64 5000] rfl jJ ?_;(with_reducible refine (bO.calls aj 0 5000 true _ A2.out).mono ?_);rintro e w' ⟨rfl,⟨nd,rfl⟩⟩;refine ⟨_,rfl,?_⟩)|(go_at_call 74;(with_reducible refine (bO.calls ak 1 131072 true _ A4.out).mono ?_);rintro e w' ⟨rfl,⟨nd,rfl⟩⟩)|(go_at_call 77;(with_reducible refine (bJ.calls k ax ay 0 1073741824 false _ A6.out).mono ?_);rintro e w31 ⟨rfl,hb⟩;replace mF:=bC mF hb;replace HB:=dF HB hb;(try clear hb);(try clear hb2);(try clear hk);(try clear hi)))
    go_ret
    exact ⟨lJ,gM⟩
  ·replace c5:=Bool.eq_false_iff.mpr c5
   subst c5
   have H1:(some 2) = some r:=by rw [if_neg (show ¬ (false = true) by decide)] at H;exact H
   clear H
   have H:=H1
   clear H1
   obtain rfl:=Option.some.inj H
   go_enter Try.func27,Try.ntmps27
   go_wp2_with (first|((with_reducible refine aA (N:=1) rfl ?_);refine az (by rfl) (N:=1) (by rfl) (cs:=#[.int .i64 aj,.int .i64 ak,.int .i64 ax,.int .i64 ay,.int .i64 aJ,.int .i64 aC,.int .i64 aG]) (t:=29) gQ ?_;intro Wm hg w32 hbox hb;have mF:=ae.mk (hbox);have Wn:=dn HB hg;have Wo:=dn HB hg;replace HB:=dF HB hb;clear hb hbox hg;obtain ⟨vC,vD,wY,wZ,ZT,ZU,ZV,vE,vF,xc,xe,ZW,ZX,ZY⟩:=ko mF.out)|((with_reducible refine aW (f:=74) rfl ?_);refine dM (some 5) rfl rfl Try.func74 aR rfl #[.int .i64 aj,.int .i64 0,.int .i64 5000] rfl jJ ?_;(with_reducible refine (bO.calls aj 0 5000 true _ A2.out).mono ?_);rintro e w' ⟨rfl,⟨nd,rfl⟩⟩;refine ⟨_,rfl,?_⟩)|(go_at_call 74;(with_reducible refine (bO.calls ak 1 131072 false _ A4.out).mono ?_);rintro e w' ⟨rfl,⟨nd,rfl⟩⟩))
   go_ret
   exact ⟨lJ,gM⟩
 ·replace c3:=Bool.eq_false_iff.mpr c3
  subst c3
  have H1:(some 2) = some r:=by rw [if_neg (show ¬ (false = true) by decide)] at H;exact H
  clear H
  have H:=H1
  clear H1
  obtain rfl:=Option.some.inj H
  go_enter Try.func27,Try.ntmps27
  go_wp2_with (first|((with_reducible refine aA (N:=1) rfl ?_);refine az (by rfl) (N:=1) (by rfl) (cs:=#[.int .i64 aj,.int .i64 ak,.int .i64 ax,.int .i64 ay,.int .i64 aJ,.int .i64 aC,.int .i64 aG]) (t:=29) gQ ?_;intro Wm hg w34 hbox hb;have mF:=ae.mk (hbox);have Wn:=dn HB hg;have Wo:=dn HB hg;replace HB:=dF HB hb;clear hb hbox hg;obtain ⟨Bz,BA,D8,D9,Ou,Ov,Ow,BC,BD,Ea,Eb,Ox,Oy,Oz⟩:=ko mF.out)|((with_reducible refine aW (f:=74) rfl ?_);refine dM (some 5) rfl rfl Try.func74 aR rfl #[.int .i64 aj,.int .i64 0,.int .i64 5000] rfl jJ ?_;(with_reducible refine (bO.calls aj 0 5000 false _ A2.out).mono ?_);rintro e w' ⟨rfl,⟨nd,rfl⟩⟩;refine ⟨_,rfl,?_⟩))
  go_ret
  exact ⟨lJ,gM⟩
end Go.Proofs.Ytmhaiihjfgfaoaa.Pr
end
section
namespace Go.Proofs.Ytmhaiihjfgfaoaa.Pr
open Go.RowKit Go.Proofs.YtmhaiihjfgfaoaaW.PrintWords Go.Proofs.YtmhaiihjfgfaoaaW.PrintLast Go.Proofs.YtmhaiihjfgfaoaaW.PrintMore
attribute [local go_sem] cz cB dK dL cK
set_option linter.unusedVariables false
set_option linter.unusedSimpArgs false
def ji.f (k:Nat) (aj:Int) (ak:Int) (ax:Int) (ay:Int) (aJ:Int) (aC:Int) (aG:Int) (aU:Int) (aQ:Int):Option (Int × Int):=(dP.f k aj ak ax ay aJ aC aG).bind fun zX=>(if zX = 0 then ((bJ.f k aU aQ 0 1073741824).bind fun Qp=>(if Qp = true then (if aU < aG then (some (0,19)) else (if (mx ay aC) = 0 then (some (0,4)) else (some (wrap64 (Int.tdiv (wrap64 (aU - aG)) (mx ay aC)),0)))) else (some (0,2)))) else (some (0,zX)))
theorem ji.mono:∀ a0 a1 a2 a3 a4 a5 a6 a7 a8 k,mq (ji.f k a0 a1 a2 a3 a4 a5 a6 a7 a8) (ji.f (k+1) a0 a1 a2 a3 a4 a5 a6 a7 a8):=by
 intro a0 a1 a2 a3 a4 a5 a6 a7 a8 k
 unfold ji.f
 repeat' first
  |(with_reducible exact dP.mono _ _ _ _ _ _ _ _)
  |(with_reducible exact bJ.mono _ _ _ _ _)
  |(with_reducible exact mq.refl _)
  |(with_reducible exact mq.none _)
  |(with_reducible refine mq.ite ?_ ?_)
  |(with_reducible refine mq.bind ?_ (fun _=>?_))
  |exact dP.mono _ _ _ _ _ _ _ _
  |exact bJ.mono _ _ _ _ _
  |exact mq.none _
  |refine mq.ite ?_ ?_
  |refine mq.bind ?_ (fun _=>?_)
set_option maxHeartbeats 8000000 in
set_option maxRecDepth 100000 in
theorem ji.calls (k:Nat) (aj:Int) (ak:Int) (ax:Int) (ay:Int) (aJ:Int) (aC:Int) (aG:Int) (aU:Int) (aQ:Int) (r1:Int) (r2:Int) (w:World) (h:ji.f k aj ak ax ay aJ aC aG aU aQ = some (r1,r2)):
 Calls Try.prog 37 #[.agg #[.int .i64 aj,.int .i64 ak,.int .i64 ax,.int .i64 ay,.int .i64 aJ,.int .i64 aC,.int .i64 aG],.agg #[.int .i64 aU,.int .i64 aQ]] w fun e w'=>e = .returned (.tuple #[.int .i64 r1,.int .i64 r2])∧Below w.heap.size w w':=by
 have BL:=Try.underlying29
 have pK:=Try.underlying27
 have HB:=ae.mk (Below.refl w.heap.size w)
 have H:((dP.f k aj ak ax ay aJ aC aG).bind fun zX=>(if zX = 0 then ((bJ.f k aU aQ 0 1073741824).bind fun Qp=>(if Qp = true then (if aU < aG then (some (0,19)) else (if (mx ay aC) = 0 then (some (0,4)) else (some (wrap64 (Int.tdiv (wrap64 (aU - aG)) (mx ay aC)),0)))) else (some (0,2)))) else (some (0,zX)))) = some (r1,r2):=h
 clear h
 obtain ⟨Ic,Ih⟩:∃ j_:Int,(mx ay aC) = j_:=⟨_,rfl⟩
 replace H:((dP.f k aj ak ax ay aJ aC aG).bind fun zX=>(if zX = 0 then ((bJ.f k aU aQ 0 1073741824).bind fun Qp=>(if Qp = true then (if aU < aG then (some (0,19)) else (if (Ic) = 0 then (some (0,4)) else (some (wrap64 (Int.tdiv (wrap64 (aU - aG)) (Ic)),0)))) else (some (0,2)))) else (some (0,zX)))) = some (r1,r2):=by first|(rw [Ih] at H;exact H)|(simp only [Ih] at H ⊢;exact H)
 have akB:(if ay < aC then aC else ay) = Ic:=Ih
 replace H:=Option.bind_eq_some_iff.mp H
 obtain ⟨zX,LX,H⟩:=H
 replace H:(if zX = 0 then ((bJ.f k aU aQ 0 1073741824).bind fun Qp=>(if Qp = true then (if aU < aG then (some (0,19)) else (if (Ic) = 0 then (some (0,4)) else (some (wrap64 (Int.tdiv (wrap64 (aU - aG)) (Ic)),0)))) else (some (0,2)))) else (some (0,zX))) = some (r1,r2):=H
 have A4:=ae.mk LX
 clear LX
 by_cases c5:zX = 0
 ·rw [if_pos c5] at H
  have Dc:(zX == 0) = true:=beq_iff_eq.mpr c5
  have abz:(zX != 0) = false:=bne_eq_false_iff_eq.mpr c5
  clear c5
  replace H:=Option.bind_eq_some_iff.mp H
  obtain ⟨Qp,KI,H⟩:=H
  replace H:(if Qp = true then (if aU < aG then (some (0,19)) else (if (Ic) = 0 then (some (0,4)) else (some (wrap64 (Int.tdiv (wrap64 (aU - aG)) (Ic)),0)))) else (some (0,2))) = some (r1,r2):=H
  have A6:=ae.mk KI
  clear KI
  by_cases c7:Qp = true
  ·subst c7
   have H1:(if aU < aG then (some (0,19)) else (if (Ic) = 0 then (some (0,4)) else (some (wrap64 (Int.tdiv (wrap64 (aU - aG)) (Ic)),0)))) = some (r1,r2):=by rw [if_pos rfl] at H;exact H
   clear H
   have H:=H1
   clear H1
   by_cases c8:aU < aG
   ·rw [if_pos c8] at H
    have Lb:decide (aU < aG) = true:=decide_eq_true c8
    clear c8
    simp only [Option.some.injEq,Prod.mk.injEq] at H
    obtain ⟨rfl,rfl⟩:=H
    go_enter Try.func37,Try.ntmps37
    go_wp2_with (first|((with_reducible refine aA (N:=2) rfl ?_);refine az (by rfl) (N:=2) (by rfl) (cs:=#[.int .i64 aj,.int .i64 ak,.int .i64 ax,.int .i64 ay,.int .i64 aJ,.int .i64 aC,.int .i64 aG]) (t:=29) gQ ?_;intro aaY hg w9 hbox hb;have jg:=ae.mk (hbox);have aaZ:=dn HB hg;have aa0:=dn HB hg;replace HB:=dF HB hb;clear hb hbox hg)|((with_reducible refine aA (N:=3) rfl ?_);refine az (by rfl) (N:=3) (by rfl) (cs:=#[.int .i64 aU,.int .i64 aQ]) (t:=27) gQ ?_;intro aa1 hg w10 hbox hb;have nu:=ae.mk (hbox);have aa2:=dn HB hg;have aa3:=dn HB hg;have qd:=iE jg hg;have qf:=iF jg hg;replace jg:=bC jg hb;replace HB:=dF HB hb;clear hb hbox hg;have Us:=qd.out;have Ut:=qf.out;obtain ⟨uS,uT,Ij,Ik,YA,YB,YC,uU,uV,Il,Im,YD,YE,YF⟩:=ko jg.out)|((with_reducible refine aW (f:=27) rfl ?_);refine dM (some 16) rfl rfl Try.func27 aR rfl #[.agg #[.int .i64 aj,.int .i64 ak,.int .i64 ax,.int .i64 ay,.int .i64 aJ,.int .i64 aC,.int .i64 aG]] rfl jJ ?_;(with_reducible refine (dP.calls k aj ak ax ay aJ aC aG zX _ A4.out).mono ?_);rintro e w13 ⟨rfl,hb⟩;refine ⟨_,rfl,?_⟩;replace jg:=bC jg hb;replace nu:=bC nu hb;replace HB:=dF HB hb;(try clear hb);(try clear hb2);(try clear hk);(try clear hi);obtain ⟨wm,wo,wu,wy⟩:=nE nu.out)|((with_reducible refine aW (f:=77) rfl ?_);refine dM (some 23) rfl rfl Try.func77 aR rfl #[.agg #[.int .i64 aU,.int .i64 aQ],.int .i64 0,.int .i64 1073741824] rfl jJ ?_;(with_reducible refine (bJ.calls k aU aQ 0 1073741824 true _ A6.out).mono ?_);rintro e WW ⟨rfl,hb⟩;refine ⟨_,rfl,?_⟩;replace jg:=bC jg hb;replace nu:=bC nu hb;replace HB:=dF HB hb;(try clear hb);(try clear hb2);(try clear hk);(try clear hi);obtain ⟨TU,TV,TW,TY⟩:=nE nu.out;obtain ⟨yE,yF,yG,yH,El,Em,En,yI,yJ,yK,yL,Eo,Ep,Er⟩:=ko jg.out))
    go_ret2
    exact ⟨afb,gM⟩
   ·rw [if_neg c8] at H
    have Lb:decide (aU < aG) = false:=decide_eq_false c8
    clear c8
    by_cases c18:(Ic) = 0
    ·rw [if_pos c18] at H
     have Mc:((Ic) == 0) = true:=beq_iff_eq.mpr c18
     have auq:((Ic) != 0) = false:=bne_eq_false_iff_eq.mpr c18
     clear c18
     simp only [Option.some.injEq,Prod.mk.injEq] at H
     obtain ⟨rfl,rfl⟩:=H
     go_enter Try.func37,Try.ntmps37
     go_wp2_with (first|((with_reducible refine aA (N:=2) rfl ?_);refine az (by rfl) (N:=2) (by rfl) (cs:=#[.int .i64 aj,.int .i64 ak,.int .i64 ax,.int .i64 ay,.int .i64 aJ,.int .i64 aC,.int .i64 aG]) (t:=29) gQ ?_;intro aaY hg w19 hbox hb;have jg:=ae.mk (hbox);have aaZ:=dn HB hg;have aa0:=dn HB hg;replace HB:=dF HB hb;clear hb hbox hg)|((with_reducible refine aA (N:=3) rfl ?_);refine az (by rfl) (N:=3) (by rfl) (cs:=#[.int .i64 aU,.int .i64 aQ]) (t:=27) gQ ?_;intro aa1 hg D7 hbox hb;have nu:=ae.mk (hbox);have aa2:=dn HB hg;have aa3:=dn HB hg;have qd:=iE jg hg;have qf:=iF jg hg;replace jg:=bC jg hb;replace HB:=dF HB hb;clear hb hbox hg;have ak3:=qd.out;have ak4:=qf.out;obtain ⟨S9,Ta,Tc,Td,akq,akr,aks,Te,Tf,Tg,Ti,akt,aku,akv⟩:=ko jg.out)|((with_reducible refine aW (f:=27) rfl ?_);refine dM (some 16) rfl rfl Try.func27 aR rfl #[.agg #[.int .i64 aj,.int .i64 ak,.int .i64 ax,.int .i64 ay,.int .i64 aJ,.int .i64 aC,.int .i64 aG]] rfl jJ ?_;(with_reducible refine (dP.calls k aj ak ax ay aJ aC aG zX _ A4.out).mono ?_);rintro e w23 ⟨rfl,hb⟩;refine ⟨_,rfl,?_⟩;replace jg:=bC jg hb;replace nu:=bC nu hb;replace HB:=dF HB hb;(try clear hb);(try clear hb2);(try clear hk);(try clear hi);obtain ⟨wC,wD,wE,wF⟩:=nE nu.out)|((with_reducible refine aW (f:=77) rfl ?_);refine dM (some 23) rfl rfl Try.func77 aR rfl #[.agg #[.int .i64 aU,.int .i64 aQ],.int .i64 0,.int .i64 1073741824] rfl jJ ?_;(with_reducible refine (bJ.calls k aU aQ 0 1073741824 true _ A6.out).mono ?_);rintro e w25 ⟨rfl,hb⟩;refine ⟨_,rfl,?_⟩;replace jg:=bC jg hb;replace nu:=bC nu hb;replace HB:=dF HB hb;(try clear hb);(try clear hb2);(try clear hk);(try clear hi);obtain ⟨MI,MJ,MK,ML⟩:=nE nu.out;obtain ⟨CE,CF,CG,CJ,Gn,Gp,Gq,CK,CL,CO,CP,Gr,Gs,Gt⟩:=ko jg.out))
     go_ret2
     exact ⟨afb,gM⟩
    ·rw [if_neg c18] at H
     have Mc:((Ic) == 0) = false:=beq_eq_false_iff_ne.mpr c18
     have auq:((Ic) != 0) = true:=bne_iff_ne.mpr c18
     simp only [Option.some.injEq,Prod.mk.injEq] at H
     obtain ⟨rfl,rfl⟩:=H
     go_enter Try.func37,Try.ntmps37
     go_wp2_with (first|((with_reducible refine aA (N:=2) rfl ?_);refine az (by rfl) (N:=2) (by rfl) (cs:=#[.int .i64 aj,.int .i64 ak,.int .i64 ax,.int .i64 ay,.int .i64 aJ,.int .i64 aC,.int .i64 aG]) (t:=29) gQ ?_;intro aaY hg w28 hbox hb;have jg:=ae.mk (hbox);have aaZ:=dn HB hg;have aa0:=dn HB hg;replace HB:=dF HB hb;clear hb hbox hg)|((with_reducible refine aA (N:=3) rfl ?_);refine az (by rfl) (N:=3) (by rfl) (cs:=#[.int .i64 aU,.int .i64 aQ]) (t:=27) gQ ?_;intro aa1 hg w29 hbox hb;have nu:=ae.mk (hbox);have aa2:=dn HB hg;have aa3:=dn HB hg;have qd:=iE jg hg;have qf:=iF jg hg;replace jg:=bC jg hb;replace HB:=dF HB hb;clear hb hbox hg;have aeD:=qd.out;have aeE:=qf.out;obtain ⟨wP,wQ,wS,wT,zF,zG,zH,wU,wV,wW,wX,zI,zJ,zK⟩:=ko jg.out)|((with_reducible refine aW (f:=27) rfl ?_);refine dM (some 16) rfl rfl Try.func27 aR rfl #[.agg #[.int .i64 aj,.int .i64 ak,.int .i64 ax,.int .i64 ay,.int .i64 aJ,.int .i64 aC,.int .i64 aG]] rfl jJ ?_;(with_reducible refine (dP.calls k aj ak ax ay aJ aC aG zX _ A4.out).mono ?_);rintro e w32 ⟨rfl,hb⟩;refine ⟨_,rfl,?_⟩;replace jg:=bC jg hb;replace nu:=bC nu hb;replace HB:=dF HB hb;(try clear hb);(try clear hb2);(try clear hk);(try clear hi);obtain ⟨vC,vD,vE,vF⟩:=nE nu.out)|((with_reducible refine aW (f:=77) rfl ?_);refine dM (some 23) rfl rfl Try.func77 aR rfl #[.agg #[.int .i64 aU,.int .i64 aQ],.int .i64 0,.int .i64 1073741824] rfl jJ ?_;(with_reducible refine (bJ.calls k aU aQ 0 1073741824 true _ A6.out).mono ?_);rintro e w34 ⟨rfl,hb⟩;refine ⟨_,rfl,?_⟩;replace jg:=bC jg hb;replace nu:=bC nu hb;replace HB:=dF HB hb;(try clear hb);(try clear hb2);(try clear hk);(try clear hi);obtain ⟨Bz,BA,BC,BD⟩:=nE nu.out;obtain ⟨SI,SK,SL,SN,ZM,ZN,ZO,SQ,SS,SV,SX,ZP,ZQ,ZR⟩:=ko jg.out))
     go_ret2
     exact ⟨afb,gM⟩
  ·replace c7:=Bool.eq_false_iff.mpr c7
   subst c7
   have H1:(some (0,2)) = some (r1,r2):=by rw [if_neg (show ¬ (false = true) by decide)] at H;exact H
   clear H
   have H:=H1
   clear H1
   simp only [Option.some.injEq,Prod.mk.injEq] at H
   obtain ⟨rfl,rfl⟩:=H
   go_enter Try.func37,Try.ntmps37
   go_wp2_with (first|((with_reducible refine aA (N:=2) rfl ?_);refine az (by rfl) (N:=2) (by rfl) (cs:=#[.int .i64 aj,.int .i64 ak,.int .i64 ax,.int .i64 ay,.int .i64 aJ,.int .i64 aC,.int .i64 aG]) (t:=29) gQ ?_;intro aaY hg w37 hbox hb;have jg:=ae.mk (hbox);have aaZ:=dn HB hg;have aa0:=dn HB hg;replace HB:=dF HB hb;clear hb hbox hg)|((with_reducible refine aA (N:=3) rfl ?_);refine az (by rfl) (N:=3) (by rfl) (cs:=#[.int .i64 aU,.int .i64 aQ]) (t:=27) gQ ?_;intro aa1 hg w38 hbox hb;have nu:=ae.mk (hbox);have aa2:=dn HB hg;have aa3:=dn HB hg;have qd:=iE jg hg;have qf:=iF jg hg;replace jg:=bC jg hb;replace HB:=dF HB hb;clear hb hbox hg;have aun:=qd.out;have auo:=qf.out;obtain ⟨Tp,Tq,Tt,Tu,aar,aas,aat,Tv,Tw,Tx,Ty,aau,aav,aaw⟩:=ko jg.out)|((with_reducible refine aW (f:=27) rfl ?_);refine dM (some 16) rfl rfl Try.func27 aR rfl #[.agg #[.int .i64 aj,.int .i64 ak,.int .i64 ax,.int .i64 ay,.int .i64 aJ,.int .i64 aC,.int .i64 aG]] rfl jJ ?_;(with_reducible refine (dP.calls k aj ak ax ay aJ aC aG zX _ A4.out).mono ?_);rintro e w41 ⟨rfl,hb⟩;refine ⟨_,rfl,?_⟩;replace jg:=bC jg hb;replace nu:=bC nu hb;replace HB:=dF HB hb;(try clear hb);(try clear hb2);(try clear hk);(try clear hi);obtain ⟨akw,akx,aky,akz⟩:=nE nu.out)|((with_reducible refine aW (f:=77) rfl ?_);refine dM (some 23) rfl rfl Try.func77 aR rfl #[.agg #[.int .i64 aU,.int .i64 aQ],.int .i64 0,.int .i64 1073741824] rfl jJ ?_;(with_reducible refine (bJ.calls k aU aQ 0 1073741824 false _ A6.out).mono ?_);rintro e w43 ⟨rfl,hb⟩;refine ⟨_,rfl,?_⟩;replace jg:=bC jg hb;replace nu:=bC nu hb;replace HB:=dF HB hb;(try clear hb);(try clear hb2);(try clear hk);(try clear hi)))
   go_ret2
   exact ⟨afb,gM⟩
 ·rw [if_neg c5] at H
  have Dc:(zX == 0) = false:=beq_eq_false_iff_ne.mpr c5
  have abz:(zX != 0) = true:=bne_iff_ne.mpr c5
  simp only [Option.some.injEq,Prod.mk.injEq] at H
  obtain ⟨rfl,rfl⟩:=H
  go_enter Try.func37,Try.ntmps37
  go_wp2_with (first|((with_reducible refine aA (N:=2) rfl ?_);refine az (by rfl) (N:=2) (by rfl) (cs:=#[.int .i64 aj,.int .i64 ak,.int .i64 ax,.int .i64 ay,.int .i64 aJ,.int .i64 aC,.int .i64 aG]) (t:=29) gQ ?_;intro aaY hg w44 hbox hb;have jg:=ae.mk (hbox);have aaZ:=dn HB hg;have aa0:=dn HB hg;replace HB:=dF HB hb;clear hb hbox hg)|((with_reducible refine aA (N:=3) rfl ?_);refine az (by rfl) (N:=3) (by rfl) (cs:=#[.int .i64 aU,.int .i64 aQ]) (t:=27) gQ ?_;intro aa1 hg w45 hbox hb;have nu:=ae.mk (hbox);have aa2:=dn HB hg;have aa3:=dn HB hg;have qd:=iE jg hg;have qf:=iF jg hg;replace jg:=bC jg hb;replace HB:=dF HB hb;clear hb hbox hg;have aew:=qd.out;have aex:=qf.out;obtain ⟨Tz,TA,TB,TC,aax,aay,aaz,TD,TE,TF,TG,aaA,aaB,aaC⟩:=ko jg.out)|((with_reducible refine aW (f:=27) rfl ?_);refine dM (some 16) rfl rfl Try.func27 aR rfl #[.agg #[.int .i64 aj,.int .i64 ak,.int .i64 ax,.int .i64 ay,.int .i64 aJ,.int .i64 aC,.int .i64 aG]] rfl jJ ?_;(with_reducible refine (dP.calls k aj ak ax ay aJ aC aG zX _ A4.out).mono ?_);rintro e w48 ⟨rfl,hb⟩;refine ⟨_,rfl,?_⟩;replace jg:=bC jg hb;replace nu:=bC nu hb;replace HB:=dF HB hb;(try clear hb);(try clear hb2);(try clear hk);(try clear hi)))
  go_ret2
  exact ⟨afb,gM⟩
end Go.Proofs.Ytmhaiihjfgfaoaa.Pr
end
