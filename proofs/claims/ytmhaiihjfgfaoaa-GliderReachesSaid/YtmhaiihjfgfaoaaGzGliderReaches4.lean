import Derived.Test.YtmhaiihjfgfaoaaGzGliderReaches3
open Go.Value renaming int → U
open Go.IntKind renaming i64 → Z
open Bool renaming true → ab, false → ac
section
namespace Go.Proofs.Ytmhaiihjfgfaoaa.Pr
open Go.RowKit Go.Proofs.YtmhaiihjfgfaoaaW.PrintWords Go.Proofs.YtmhaiihjfgfaoaaW.PrintLast Go.Proofs.YtmhaiihjfgfaoaaW.PrintMore
attribute [local go_sem] eD eF fD fE eG
set_option linter.unusedVariables false
set_option linter.unusedSimpArgs false
def bW.f (k:Nat) (ah:Int) (ai:Int) (a1:Int) (a2:Int):Option (Bool):=(jO.f k ah ai).bind fun t137=>(if t137 = 0 then (if ah ≥ a1 then (some (decide (ai≤a2))) else (some false)) else (some false))
theorem bW.mono:∀ a0 a1 a2 a3 k,nR (bW.f k a0 a1 a2 a3) (bW.f (k+1) a0 a1 a2 a3):=by
 intro a0 a1 a2 a3 k
 unfold bW.f
 repeat' first
  |(with_reducible exact jO.mono _ _ _)
  |(with_reducible exact nR.refl _)
  |(with_reducible exact nR.none _)
  |(with_reducible refine nR.ite ?_ ?_)
  |(with_reducible refine nR.bind ?_ (fun _=>?_))
  |exact jO.mono _ _ _
  |exact nR.none _
  |refine nR.ite ?_ ?_
  |refine nR.bind ?_ (fun _=>?_)
set_option maxHeartbeats 8000000 in
set_option maxRecDepth 100000 in
theorem bW.calls (k:Nat) (ah:Int) (ai:Int) (a1:Int) (a2:Int) (r:Bool) (w:World) (h:bW.f k ah ai a1 a2 = some r):
 Calls Try.prog 77 #[.agg #[U Z ah,U Z ai],U Z a1,U Z a2] w fun e w'=>e = .returned (.bool r)∧Below w.heap.size w w':=by
 have oo:=Try.underlying27
 have HB:=aa.mk (Below.refl w.heap.size w)
 have H:((jO.f k ah ai).bind fun t137=>(if t137 = 0 then (if ah ≥ a1 then (some (decide (ai≤a2))) else (some false)) else (some false))) = some r:=h
 clear h
 replace H:=Option.bind_eq_some_iff.mp H
 obtain ⟨t137,Kv,H⟩:=H
 replace H:(if t137 = 0 then (if ah ≥ a1 then (some (decide (ai≤a2))) else (some false)) else (some false)) = some r:=H
 have A4:=aa.mk Kv
 clear Kv
 by_cases c5:t137 = 0
 ·rw [if_pos c5] at H
  have Ea:(t137 == 0) = true:=beq_iff_eq.mpr c5
  have afg:(t137 != 0) = false:=bne_eq_false_iff_eq.mpr c5
  clear c5
  by_cases c6:ah ≥ a1
  ·rw [if_pos c6] at H
   have Ld:decide (a1≤ah) = true:=decide_eq_true c6
   clear c6
   obtain rfl:=Option.some.inj H
   go_enter Try.func77,Try.ntmps77
   go_wp2_with (first|((with_reducible refine aG (N:=3) rfl ?_);refine az (by rfl) (N:=3) (by rfl) (cs:=#[U Z ah,U Z ai]) (t:=27) fM ?_;intro auu hg w7 hbox hb;have EF:=aa.mk (hbox);have auv:=dn HB hg;have auw:=dn HB hg;replace HB:=dw HB hb;clear hb hbox hg;obtain ⟨NC,ND,NF,NG⟩:=jq EF.out)|((with_reducible refine aN (f:=122) rfl ?_);refine bT (some 8) rfl rfl Try.func122 aY rfl #[.agg #[U Z ah,U Z ai]] rfl iG ?_;(with_reducible refine (jO.calls k ah ai t137 _ A4.out).mono ?_);rintro e w9 ⟨rfl,hb⟩;refine ⟨_,rfl,?_⟩;replace EF:=bC EF hb;replace HB:=dw HB hb;(try clear hb);(try clear hb2);(try clear hk);(try clear hi);obtain ⟨rG,rH,rJ,rM⟩:=jq EF.out))
   go_ret
   exact ⟨kL,fu⟩
  ·rw [if_neg c6] at H
   have Ld:decide (a1≤ah) = false:=decide_eq_false c6
   clear c6
   obtain rfl:=Option.some.inj H
   go_enter Try.func77,Try.ntmps77
   go_wp2_with (first|((with_reducible refine aG (N:=3) rfl ?_);refine az (by rfl) (N:=3) (by rfl) (cs:=#[U Z ah,U Z ai]) (t:=27) fM ?_;intro auu hg w11 hbox hb;have EF:=aa.mk (hbox);have auv:=dn HB hg;have auw:=dn HB hg;replace HB:=dw HB hb;clear hb hbox hg;obtain ⟨qx,qy,qz,qA⟩:=jq EF.out)|((with_reducible refine aN (f:=122) rfl ?_);refine bT (some 8) rfl rfl Try.func122 aY rfl #[.agg #[U Z ah,U Z ai]] rfl iG ?_;(with_reducible refine (jO.calls k ah ai t137 _ A4.out).mono ?_);rintro e TA ⟨rfl,hb⟩;refine ⟨_,rfl,?_⟩;replace EF:=bC EF hb;replace HB:=dw HB hb;(try clear hb);(try clear hb2);(try clear hk);(try clear hi);obtain ⟨vg,vk,vo,vv⟩:=jq EF.out))
   go_ret
   exact ⟨kL,fu⟩
 ·rw [if_neg c5] at H
  have Ea:(t137 == 0) = false:=beq_eq_false_iff_ne.mpr c5
  have afg:(t137 != 0) = true:=bne_iff_ne.mpr c5
  obtain rfl:=Option.some.inj H
  go_enter Try.func77,Try.ntmps77
  go_wp2_with (first|((with_reducible refine aG (N:=3) rfl ?_);refine az (by rfl) (N:=3) (by rfl) (cs:=#[U Z ah,U Z ai]) (t:=27) fM ?_;intro auu hg w15 hbox hb;have EF:=aa.mk (hbox);have auv:=dn HB hg;have auw:=dn HB hg;replace HB:=dw HB hb;clear hb hbox hg;obtain ⟨CG,CJ,CK,CL⟩:=jq EF.out)|((with_reducible refine aN (f:=122) rfl ?_);refine bT (some 8) rfl rfl Try.func122 aY rfl #[.agg #[U Z ah,U Z ai]] rfl iG ?_;(with_reducible refine (jO.calls k ah ai t137 _ A4.out).mono ?_);rintro e w17 ⟨rfl,hb⟩;refine ⟨_,rfl,?_⟩;replace EF:=bC EF hb;replace HB:=dw HB hb;(try clear hb);(try clear hb2);(try clear hk);(try clear hi)))
  go_ret
  exact ⟨kL,fu⟩
def dP.f (k:Nat) (ah:Int) (ai:Int) (ax:Int) (ay:Int) (aK:Int) (aH:Int) (aJ:Int):Option (Int):=(bR.f ah 0 5000).bind fun t139=>(if t139 = true then ((bR.f ai 1 131072).bind fun t140=>(if t140 = true then ((bW.f k ax ay 0 1073741824).bind fun t141=>(if t141 = true then ((bW.f k aK aH 0 1073741824).bind fun t142=>(if t142 = true then ((bR.f aJ 0 1073741824).bind fun t143=>(if t143 = true then (some 0) else (some 2))) else (some 2))) else (some 2))) else (some 2))) else (some 2))
theorem dP.mono:∀ a0 a1 a2 a3 a4 a5 a6 k,nR (dP.f k a0 a1 a2 a3 a4 a5 a6) (dP.f (k+1) a0 a1 a2 a3 a4 a5 a6):=by
 intro a0 a1 a2 a3 a4 a5 a6 k
 unfold dP.f
 repeat' first
  |(with_reducible exact bW.mono _ _ _ _ _)
  |(with_reducible exact nR.refl _)
  |(with_reducible exact nR.none _)
  |(with_reducible refine nR.ite ?_ ?_)
  |(with_reducible refine nR.bind ?_ (fun _=>?_))
  |exact bW.mono _ _ _ _ _
  |exact nR.none _
  |refine nR.ite ?_ ?_
  |refine nR.bind ?_ (fun _=>?_)
set_option maxHeartbeats 8000000 in
set_option maxRecDepth 100000 in
theorem dP.calls (k:Nat) (ah:Int) (ai:Int) (ax:Int) (ay:Int) (aK:Int) (aH:Int) (aJ:Int) (r:Int) (w:World) (h:dP.f k ah ai ax ay aK aH aJ = some r):
 Calls Try.prog 27 #[.agg #[U Z ah,U Z ai,U Z ax,U Z ay,U Z aK,U Z aH,U Z aJ]] w fun e w'=>e = .returned (U Z r)∧Below w.heap.size w w':=by
 have Cb:=Try.underlying29
 have oo:=Try.underlying27
 have HB:=aa.mk (Below.refl w.heap.size w)
 have H:((bR.f ah 0 5000).bind fun t139=>(if t139 = true then ((bR.f ai 1 131072).bind fun t140=>(if t140 = true then ((bW.f k ax ay 0 1073741824).bind fun t141=>(if t141 = true then ((bW.f k aK aH 0 1073741824).bind fun t142=>(if t142 = true then ((bR.f aJ 0 1073741824).bind fun t143=>(if t143 = true then (some 0) else (some 2))) else (some 2))) else (some 2))) else (some 2))) else (some 2))) = some r:=h
 clear h
 replace H:=Option.bind_eq_some_iff.mp H
 obtain ⟨t139,TC,H⟩:=H
 replace H:(if t139 = true then ((bR.f ai 1 131072).bind fun t140=>(if t140 = true then ((bW.f k ax ay 0 1073741824).bind fun t141=>(if t141 = true then ((bW.f k aK aH 0 1073741824).bind fun t142=>(if t142 = true then ((bR.f aJ 0 1073741824).bind fun t143=>(if t143 = true then (some 0) else (some 2))) else (some 2))) else (some 2))) else (some 2))) else (some 2)) = some r:=H
 have A2:=aa.mk TC
 clear TC
 by_cases c3:t139 = true
 ·subst c3
  have H1:((bR.f ai 1 131072).bind fun t140=>(if t140 = true then ((bW.f k ax ay 0 1073741824).bind fun t141=>(if t141 = true then ((bW.f k aK aH 0 1073741824).bind fun t142=>(if t142 = true then ((bR.f aJ 0 1073741824).bind fun t143=>(if t143 = true then (some 0) else (some 2))) else (some 2))) else (some 2))) else (some 2))) = some r:=by rw [if_pos rfl] at H;exact H
  clear H
  have H:=H1
  clear H1
  replace H:=Option.bind_eq_some_iff.mp H
  obtain ⟨t140,Kv,H⟩:=H
  replace H:(if t140 = true then ((bW.f k ax ay 0 1073741824).bind fun t141=>(if t141 = true then ((bW.f k aK aH 0 1073741824).bind fun t142=>(if t142 = true then ((bR.f aJ 0 1073741824).bind fun t143=>(if t143 = true then (some 0) else (some 2))) else (some 2))) else (some 2))) else (some 2)) = some r:=H
  have A4:=aa.mk Kv
  clear Kv
  by_cases c5:t140 = true
  ·subst c5
   have H1:((bW.f k ax ay 0 1073741824).bind fun t141=>(if t141 = true then ((bW.f k aK aH 0 1073741824).bind fun t142=>(if t142 = true then ((bR.f aJ 0 1073741824).bind fun t143=>(if t143 = true then (some 0) else (some 2))) else (some 2))) else (some 2))) = some r:=by rw [if_pos rfl] at H;exact H
   clear H
   have H:=H1
   clear H1
   replace H:=Option.bind_eq_some_iff.mp H
   obtain ⟨t141,La,H⟩:=H
   replace H:(if t141 = true then ((bW.f k aK aH 0 1073741824).bind fun t142=>(if t142 = true then ((bR.f aJ 0 1073741824).bind fun t143=>(if t143 = true then (some 0) else (some 2))) else (some 2))) else (some 2)) = some r:=H
   have A6:=aa.mk La
   clear La
   by_cases c7:t141 = true
   ·subst c7
    have H1:((bW.f k aK aH 0 1073741824).bind fun t142=>(if t142 = true then ((bR.f aJ 0 1073741824).bind fun t143=>(if t143 = true then (some 0) else (some 2))) else (some 2))) = some r:=by rw [if_pos rfl] at H;exact H
    clear H
    have H:=H1
    clear H1
    replace H:=Option.bind_eq_some_iff.mp H
    obtain ⟨t142,TN,H⟩:=H
    replace H:(if t142 = true then ((bR.f aJ 0 1073741824).bind fun t143=>(if t143 = true then (some 0) else (some 2))) else (some 2)) = some r:=H
    have A8:=aa.mk TN
    clear TN
    by_cases c9:t142 = true
    ·subst c9
     have H1:((bR.f aJ 0 1073741824).bind fun t143=>(if t143 = true then (some 0) else (some 2))) = some r:=by rw [if_pos rfl] at H;exact H
     clear H
     have H:=H1
     clear H1
     replace H:=Option.bind_eq_some_iff.mp H
     obtain ⟨t143,FJ,H⟩:=H
     replace H:(if t143 = true then (some 0) else (some 2)) = some r:=H
     have TH:=aa.mk FJ
     clear FJ
     by_cases c11:t143 = true
     ·subst c11
      have H1:(some 0) = some r:=by rw [if_pos rfl] at H;exact H
      clear H
      have H:=H1
      clear H1
      obtain rfl:=Option.some.inj H
      go_enter Try.func27,Try.ntmps27
      go_wp2_with (first|((with_reducible refine aG (N:=1) rfl ?_);refine az (by rfl) (N:=1) (by rfl) (cs:=#[U Z ah,U Z ai,U Z ax,U Z ay,U Z aK,U Z aH,U Z aJ]) (t:=29) fM ?_;intro Zi hg Nv hbox hb;have nT:=aa.mk (hbox);have Zj:=dn HB hg;have Zk:=dn HB hg;replace HB:=dw HB hb;clear hb hbox hg;obtain ⟨qY,qZ,xW,xX,FU,FV,LY,q9,rf,xY,xZ,FW,FX,LZ⟩:=jb nT.out)|((with_reducible refine aN (f:=74) rfl ?_);refine bT (some 5) rfl rfl Try.func74 aY rfl #[U Z ah,U Z 0,U Z 5000] rfl iG ?_;(with_reducible refine (bR.calls ah 0 5000 true _ A2.out).mono ?_);rintro e w' ⟨rfl,⟨nd,rfl⟩⟩;refine ⟨_,rfl,?_⟩)|(go_at_call 74;(with_reducible refine (bR.calls ai 1 131072 true _ A4.out).mono ?_);rintro e w' ⟨rfl,⟨nd,rfl⟩⟩)|(go_at_call 77;(with_reducible refine (bW.calls k ax ay 0 1073741824 true _ A6.out).mono ?_);rintro e w14 ⟨rfl,hb⟩;replace nT:=bC nT hb;replace HB:=dw HB hb;(try clear hb);(try clear hb2);(try clear hk);(try clear hi);obtain ⟨nI,nJ,rC,rD,tu,tC,yh,nK,nL,rE,rF,tF,tH,yj⟩:=jb nT.out)|(go_at_call 77;(with_reducible refine (bW.calls k aK aH 0 1073741824 true _ A8.out).mono ?_);rintro e w16 ⟨rfl,hb⟩;replace nT:=bC nT hb;replace HB:=dw HB hb;(try clear hb);(try clear hb2);(try clear hk);(try clear hi);obtain ⟨lW,lX,nM,nN,tN,tO,yK,lY,lZ,nO,nP,tQ,tT,yL⟩:=jb nT.out)|(go_at_call 74;(with_reducible refine (bR.calls aJ 0 1073741824 true _ TH.out).mono ?_);rintro e w' ⟨rfl,⟨nd,rfl⟩⟩))
      go_ret
      exact ⟨kL,fu⟩
     ·replace c11:=Bool.eq_false_iff.mpr c11
      subst c11
      have H1:(some 2) = some r:=by rw [if_neg (show ¬ (false = true) by decide)] at H;exact H
      clear H
      have H:=H1
      clear H1
      obtain rfl:=Option.some.inj H
      go_enter Try.func27,Try.ntmps27
      go_wp2_with (first|((with_reducible refine aG (N:=1) rfl ?_);refine az (by rfl) (N:=1) (by rfl) (cs:=#[U Z ah,U Z ai,U Z ax,U Z ay,U Z aK,U Z aH,U Z aJ]) (t:=29) fM ?_;intro Zi hg w18 hbox hb;have nT:=aa.mk (hbox);have Zj:=dn HB hg;have Zk:=dn HB hg;replace HB:=dw HB hb;clear hb hbox hg;obtain ⟨pI,pJ,qF,qG,tV,tX,yM,pK,pM,qH,qI,tY,tZ,yN⟩:=jb nT.out)|((with_reducible refine aN (f:=74) rfl ?_);refine bT (some 5) rfl rfl Try.func74 aY rfl #[U Z ah,U Z 0,U Z 5000] rfl iG ?_;(with_reducible refine (bR.calls ah 0 5000 true _ A2.out).mono ?_);rintro e w' ⟨rfl,⟨nd,rfl⟩⟩;refine ⟨_,rfl,?_⟩)|(go_at_call 74;(with_reducible refine (bR.calls ai 1 131072 true _ A4.out).mono ?_);rintro e w' ⟨rfl,⟨nd,rfl⟩⟩)|(go_at_call 77;(with_reducible refine (bW.calls k ax ay 0 1073741824 true _ A6.out).mono ?_);rintro e GZ ⟨rfl,hb⟩;replace nT:=bC nT hb;replace HB:=dw HB hb;(try clear hb);(try clear hb2);(try clear hk);(try clear hi);obtain ⟨pO,pQ,uf,ug,C8,C9,Da,pR,pU,uh,ui,Db,Dc,De⟩:=jb nT.out)|(go_at_call 77;(with_reducible refine (bW.calls k aK aH 0 1073741824 true _ A8.out).mono ?_);rintro e w22 ⟨rfl,hb⟩;replace nT:=bC nT hb;replace HB:=dw HB hb;(try clear hb);(try clear hb2);(try clear hk);(try clear hi);obtain ⟨EY,EZ,L6,L8,L9,Ma,Mc,E5,E8,Md,Me,Mf,Mg,Mh⟩:=jb nT.out)|(go_at_call 74;(with_reducible refine (bR.calls aJ 0 1073741824 false _ TH.out).mono ?_);rintro e w' ⟨rfl,⟨nd,rfl⟩⟩))
      go_ret
      exact ⟨kL,fu⟩
    ·replace c9:=Bool.eq_false_iff.mpr c9
     subst c9
     have H1:(some 2) = some r:=by rw [if_neg (show ¬ (false = true) by decide)] at H;exact H
     clear H
     have H:=H1
     clear H1
     obtain rfl:=Option.some.inj H
     go_enter Try.func27,Try.ntmps27
     go_wp2_with (first|((with_reducible refine aG (N:=1) rfl ?_);refine az (by rfl) (N:=1) (by rfl) (cs:=#[U Z ah,U Z ai,U Z ax,U Z ay,U Z aK,U Z aH,U Z aJ]) (t:=29) fM ?_;intro Zi hg w24 hbox hb;have nT:=aa.mk (hbox);have Zj:=dn HB hg;have Zk:=dn HB hg;replace HB:=dw HB hb;clear hb hbox hg;obtain ⟨yO,yP,Df,Dh,F5,F6,F7,yQ,yR,Di,Dj,F8,F9,Ga⟩:=jb nT.out)|((with_reducible refine aN (f:=74) rfl ?_);refine bT (some 5) rfl rfl Try.func74 aY rfl #[U Z ah,U Z 0,U Z 5000] rfl iG ?_;(with_reducible refine (bR.calls ah 0 5000 true _ A2.out).mono ?_);rintro e w' ⟨rfl,⟨nd,rfl⟩⟩;refine ⟨_,rfl,?_⟩)|(go_at_call 74;(with_reducible refine (bR.calls ai 1 131072 true _ A4.out).mono ?_);rintro e w' ⟨rfl,⟨nd,rfl⟩⟩)|(go_at_call 77;(with_reducible refine (bW.calls k ax ay 0 1073741824 true _ A6.out).mono ?_);rintro e Cc ⟨rfl,hb⟩;replace nT:=bC nT hb;replace HB:=dw HB hb;(try clear hb);(try clear hb2);(try clear hk);(try clear hi);obtain ⟨yS,yT,yU,yV,Gb,Gc,Gd,yX,yY,yZ,za,Gf,Gg,Gh⟩:=jb nT.out)|(go_at_call 77;(with_reducible refine (bW.calls k aK aH 0 1073741824 false _ A8.out).mono ?_);rintro e w28 ⟨rfl,hb⟩;replace nT:=bC nT hb;replace HB:=dw HB hb;(try clear hb);(try clear hb2);(try clear hk);(try clear hi)))
     go_ret
     exact ⟨kL,fu⟩
   ·replace c7:=Bool.eq_false_iff.mpr c7
    subst c7
    have H1:(some 2) = some r:=by rw [if_neg (show ¬ (false = true) by decide)] at H;exact H
    clear H
    have H:=H1
    clear H1
    obtain rfl:=Option.some.inj H
    go_enter Try.func27,Try.ntmps27
    go_wp2_with (first|((with_reducible refine aG (N:=1) rfl ?_);refine az (by rfl) (N:=1) (by rfl) (cs:=#[U Z ah,U Z ai,U Z ax,U Z ay,U Z aK,U Z aH,U Z aJ]) (t:=29) fM ?_;intro Zi hg w29 hbox hb;have nT:=aa.mk (hbox);have Zj:=dn HB hg;have Zk:=dn HB hg;replace HB:=dw HB hb;clear hb hbox hg;obtain ⟨Gi,Gj,Jh,Ji,Mm,Mo,Mq,Gm,Gn,Jj,Jk,Mr,Ms,Mt⟩:=jb nT.out)|((with_reducible refine aN (f:=74) rfl ?_);refine bT (some 5) rfl rfl Try.func74 aY rfl #[U Z ah,U Z 0,U Z 5000] rfl iG ?_;(with_reducible refine (bR.calls ah 0 5000 true _ A2.out).mono ?_);rintro e w' ⟨rfl,⟨nd,rfl⟩⟩;refine ⟨_,rfl,?_⟩)|(go_at_call 74;(with_reducible refine (bR.calls ai 1 131072 true _ A4.out).mono ?_);rintro e w' ⟨rfl,⟨nd,rfl⟩⟩)|(go_at_call 77;(with_reducible refine (bW.calls k ax ay 0 1073741824 false _ A6.out).mono ?_);rintro e w31 ⟨rfl,hb⟩;replace nT:=bC nT hb;replace HB:=dw HB hb;(try clear hb);(try clear hb2);(try clear hk);(try clear hi)))
    go_ret
    exact ⟨kL,fu⟩
  ·replace c5:=Bool.eq_false_iff.mpr c5
   subst c5
   have H1:(some 2) = some r:=by rw [if_neg (show ¬ (false = true) by decide)] at H;exact H
   clear H
   have H:=H1
   clear H1
   obtain rfl:=Option.some.inj H
   go_enter Try.func27,Try.ntmps27
   go_wp2_with (first|((with_reducible refine aG (N:=1) rfl ?_);refine az (by rfl) (N:=1) (by rfl) (cs:=#[U Z ah,U Z ai,U Z ax,U Z ay,U Z aK,U Z aH,U Z aJ]) (t:=29) fM ?_;intro Zi hg w32 hbox hb;have nT:=aa.mk (hbox);have Zj:=dn HB hg;have Zk:=dn HB hg;replace HB:=dw HB hb;clear hb hbox hg;obtain ⟨QN,QO,adf,adg,aoH,aoI,aoJ,QP,QQ,adh,adi,aoK,aoL,aoM⟩:=jb nT.out)|((with_reducible refine aN (f:=74) rfl ?_);refine bT (some 5) rfl rfl Try.func74 aY rfl #[U Z ah,U Z 0,U Z 5000] rfl iG ?_;(with_reducible refine (bR.calls ah 0 5000 true _ A2.out).mono ?_);rintro e w' ⟨rfl,⟨nd,rfl⟩⟩;refine ⟨_,rfl,?_⟩)|(go_at_call 74;(with_reducible refine (bR.calls ai 1 131072 false _ A4.out).mono ?_);rintro e w' ⟨rfl,⟨nd,rfl⟩⟩))
   go_ret
   exact ⟨kL,fu⟩
 ·replace c3:=Bool.eq_false_iff.mpr c3
  subst c3
  have H1:(some 2) = some r:=by rw [if_neg (show ¬ (false = true) by decide)] at H;exact H
  clear H
  have H:=H1
  clear H1
  obtain rfl:=Option.some.inj H
  go_enter Try.func27,Try.ntmps27
  go_wp2_with (first|((with_reducible refine aG (N:=1) rfl ?_);refine az (by rfl) (N:=1) (by rfl) (cs:=#[U Z ah,U Z ai,U Z ax,U Z ay,U Z aK,U Z aH,U Z aJ]) (t:=29) fM ?_;intro Zi hg w34 hbox hb;have nT:=aa.mk (hbox);have Zj:=dn HB hg;have Zk:=dn HB hg;replace HB:=dw HB hb;clear hb hbox hg;obtain ⟨Al,Am,ET,EU,Jl,Jm,Jn,Ao,Ap,EW,EX,Jo,Jp,Jq⟩:=jb nT.out)|((with_reducible refine aN (f:=74) rfl ?_);refine bT (some 5) rfl rfl Try.func74 aY rfl #[U Z ah,U Z 0,U Z 5000] rfl iG ?_;(with_reducible refine (bR.calls ah 0 5000 false _ A2.out).mono ?_);rintro e w' ⟨rfl,⟨nd,rfl⟩⟩;refine ⟨_,rfl,?_⟩))
  go_ret
  exact ⟨kL,fu⟩
def jw.f (k:Nat) (ah:Int) (ai:Int) (ax:Int) (ay:Int) (aK:Int) (aH:Int) (aJ:Int) (aQ:Int) (aM:Int):Option (Int × Int):=(dP.f k ah ai ax ay aK aH aJ).bind fun DX=>(if DX = 0 then ((bW.f k aQ aM 0 1073741824).bind fun Tv=>(if Tv = true then (if aQ < aJ then (some (0,19)) else (if (mx ay aH) = 0 then (some (0,4)) else (some (wrap64 (Int.tdiv (wrap64 (aQ - aJ)) (mx ay aH)),0)))) else (some (0,2)))) else (some (0,DX)))
theorem jw.mono:∀ a0 a1 a2 a3 a4 a5 a6 a7 a8 k,nR (jw.f k a0 a1 a2 a3 a4 a5 a6 a7 a8) (jw.f (k+1) a0 a1 a2 a3 a4 a5 a6 a7 a8):=by
 intro a0 a1 a2 a3 a4 a5 a6 a7 a8 k
 unfold jw.f
 repeat' first
  |(with_reducible exact dP.mono _ _ _ _ _ _ _ _)
  |(with_reducible exact bW.mono _ _ _ _ _)
  |(with_reducible exact nR.refl _)
  |(with_reducible exact nR.none _)
  |(with_reducible refine nR.ite ?_ ?_)
  |(with_reducible refine nR.bind ?_ (fun _=>?_))
  |exact dP.mono _ _ _ _ _ _ _ _
  |exact bW.mono _ _ _ _ _
  |exact nR.none _
  |refine nR.ite ?_ ?_
  |refine nR.bind ?_ (fun _=>?_)
set_option maxHeartbeats 8000000 in
set_option maxRecDepth 100000 in
theorem jw.calls (k:Nat) (ah:Int) (ai:Int) (ax:Int) (ay:Int) (aK:Int) (aH:Int) (aJ:Int) (aQ:Int) (aM:Int) (r1:Int) (r2:Int) (w:World) (h:jw.f k ah ai ax ay aK aH aJ aQ aM = some (r1,r2)):
 Calls Try.prog 37 #[.agg #[U Z ah,U Z ai,U Z ax,U Z ay,U Z aK,U Z aH,U Z aJ],.agg #[U Z aQ,U Z aM]] w fun e w'=>e = .returned (.tuple #[U Z r1,U Z r2])∧Below w.heap.size w w':=by
 have Cb:=Try.underlying29
 have oo:=Try.underlying27
 have HB:=aa.mk (Below.refl w.heap.size w)
 have H:((dP.f k ah ai ax ay aK aH aJ).bind fun DX=>(if DX = 0 then ((bW.f k aQ aM 0 1073741824).bind fun Tv=>(if Tv = true then (if aQ < aJ then (some (0,19)) else (if (mx ay aH) = 0 then (some (0,4)) else (some (wrap64 (Int.tdiv (wrap64 (aQ - aJ)) (mx ay aH)),0)))) else (some (0,2)))) else (some (0,DX)))) = some (r1,r2):=h
 clear h
 obtain ⟨BL,G6⟩:∃ j_:Int,(mx ay aH) = j_:=⟨_,rfl⟩
 replace H:((dP.f k ah ai ax ay aK aH aJ).bind fun DX=>(if DX = 0 then ((bW.f k aQ aM 0 1073741824).bind fun Tv=>(if Tv = true then (if aQ < aJ then (some (0,19)) else (if (BL) = 0 then (some (0,4)) else (some (wrap64 (Int.tdiv (wrap64 (aQ - aJ)) (BL)),0)))) else (some (0,2)))) else (some (0,DX)))) = some (r1,r2):=by first|(rw [G6] at H;exact H)|(simp only [G6] at H ⊢;exact H)
 have aia:(if ay < aH then aH else ay) = BL:=G6
 replace H:=Option.bind_eq_some_iff.mp H
 obtain ⟨DX,Kv,H⟩:=H
 replace H:(if DX = 0 then ((bW.f k aQ aM 0 1073741824).bind fun Tv=>(if Tv = true then (if aQ < aJ then (some (0,19)) else (if (BL) = 0 then (some (0,4)) else (some (wrap64 (Int.tdiv (wrap64 (aQ - aJ)) (BL)),0)))) else (some (0,2)))) else (some (0,DX))) = some (r1,r2):=H
 have A4:=aa.mk Kv
 clear Kv
 by_cases c5:DX = 0
 ·rw [if_pos c5] at H
  have Ea:(DX == 0) = true:=beq_iff_eq.mpr c5
  have afg:(DX != 0) = false:=bne_eq_false_iff_eq.mpr c5
  clear c5
  replace H:=Option.bind_eq_some_iff.mp H
  obtain ⟨Tv,La,H⟩:=H
  replace H:(if Tv = true then (if aQ < aJ then (some (0,19)) else (if (BL) = 0 then (some (0,4)) else (some (wrap64 (Int.tdiv (wrap64 (aQ - aJ)) (BL)),0)))) else (some (0,2))) = some (r1,r2):=H
  have A6:=aa.mk La
  clear La
  by_cases c7:Tv = true
  ·subst c7
   have H1:(if aQ < aJ then (some (0,19)) else (if (BL) = 0 then (some (0,4)) else (some (wrap64 (Int.tdiv (wrap64 (aQ - aJ)) (BL)),0)))) = some (r1,r2):=by rw [if_pos rfl] at H;exact H
   clear H
   have H:=H1
   clear H1
   by_cases c8:aQ < aJ
   ·rw [if_pos c8] at H
    have KI:decide (aQ < aJ) = true:=decide_eq_true c8
    clear c8
    simp only [Option.some.injEq,Prod.mk.injEq] at H
    obtain ⟨rfl,rfl⟩:=H
    go_enter Try.func37,Try.ntmps37
    go_wp2_with (first|((with_reducible refine aG (N:=2) rfl ?_);refine az (by rfl) (N:=2) (by rfl) (cs:=#[U Z ah,U Z ai,U Z ax,U Z ay,U Z aK,U Z aH,U Z aJ]) (t:=29) fM ?_;intro aeL hg w9 hbox hb;have jm:=aa.mk (hbox);have aeM:=dn HB hg;have aeN:=dn HB hg;replace HB:=dw HB hb;clear hb hbox hg)|((with_reducible refine aG (N:=3) rfl ?_);refine az (by rfl) (N:=3) (by rfl) (cs:=#[U Z aQ,U Z aM]) (t:=27) fM ?_;intro aeO hg w10 hbox hb;have oM:=aa.mk (hbox);have aeP:=dn HB hg;have aeQ:=dn HB hg;have sj:=iq jm hg;have su:=iw jm hg;replace jm:=bC jm hb;replace HB:=dw HB hb;clear hb hbox hg;have XV:=sj.out;have XW:=su.out;obtain ⟨qx,qy,P9,Qa,ak5,ak6,ak7,qz,qA,Qb,Qc,ak8,ak9,ala⟩:=jb jm.out)|((with_reducible refine aN (f:=27) rfl ?_);refine bT (some 16) rfl rfl Try.func27 aY rfl #[.agg #[U Z ah,U Z ai,U Z ax,U Z ay,U Z aK,U Z aH,U Z aJ]] rfl iG ?_;(with_reducible refine (dP.calls k ah ai ax ay aK aH aJ DX _ A4.out).mono ?_);rintro e TA ⟨rfl,hb⟩;refine ⟨_,rfl,?_⟩;replace jm:=bC jm hb;replace oM:=bC oM hb;replace HB:=dw HB hb;(try clear hb);(try clear hb2);(try clear hk);(try clear hi);obtain ⟨vg,vk,vo,vv⟩:=jq oM.out)|((with_reducible refine aN (f:=77) rfl ?_);refine bT (some 23) rfl rfl Try.func77 aY rfl #[.agg #[U Z aQ,U Z aM],U Z 0,U Z 1073741824] rfl iG ?_;(with_reducible refine (bW.calls k aQ aM 0 1073741824 true _ A6.out).mono ?_);rintro e w15 ⟨rfl,hb⟩;refine ⟨_,rfl,?_⟩;replace jm:=bC jm hb;replace oM:=bC oM hb;replace HB:=dw HB hb;(try clear hb);(try clear hb2);(try clear hk);(try clear hi);obtain ⟨CG,CJ,CK,CL⟩:=jq oM.out;obtain ⟨lW,lX,nM,nN,tN,tO,yK,lY,lZ,nO,nP,tQ,tT,yL⟩:=jb jm.out))
    go_ret2
    exact ⟨zq9,fu⟩
   ·rw [if_neg c8] at H
    have KI:decide (aQ < aJ) = false:=decide_eq_false c8
    clear c8
    by_cases c18:(BL) = 0
    ·rw [if_pos c18] at H
     have Pg:((BL) == 0) = true:=beq_iff_eq.mpr c18
     have aFo:((BL) != 0) = false:=bne_eq_false_iff_eq.mpr c18
     clear c18
     simp only [Option.some.injEq,Prod.mk.injEq] at H
     obtain ⟨rfl,rfl⟩:=H
     go_enter Try.func37,Try.ntmps37
     go_wp2_with (first|((with_reducible refine aG (N:=2) rfl ?_);refine az (by rfl) (N:=2) (by rfl) (cs:=#[U Z ah,U Z ai,U Z ax,U Z ay,U Z aK,U Z aH,U Z aJ]) (t:=29) fM ?_;intro aeL hg w19 hbox hb;have jm:=aa.mk (hbox);have aeM:=dn HB hg;have aeN:=dn HB hg;replace HB:=dw HB hb;clear hb hbox hg)|((with_reducible refine aG (N:=3) rfl ?_);refine az (by rfl) (N:=3) (by rfl) (cs:=#[U Z aQ,U Z aM]) (t:=27) fM ?_;intro aeO hg GZ hbox hb;have oM:=aa.mk (hbox);have aeP:=dn HB hg;have aeQ:=dn HB hg;have sj:=iq jm hg;have su:=iw jm hg;replace jm:=bC jm hb;replace HB:=dw HB hb;clear hb hbox hg;have asV:=sj.out;have asW:=su.out;obtain ⟨QD,QE,ac9,ada,aoB,aoC,aoD,QF,QG,adb,ade,aoE,aoF,aoG⟩:=jb jm.out)|((with_reducible refine aN (f:=27) rfl ?_);refine bT (some 16) rfl rfl Try.func27 aY rfl #[.agg #[U Z ah,U Z ai,U Z ax,U Z ay,U Z aK,U Z aH,U Z aJ]] rfl iG ?_;(with_reducible refine (dP.calls k ah ai ax ay aK aH aJ DX _ A4.out).mono ?_);rintro e w23 ⟨rfl,hb⟩;refine ⟨_,rfl,?_⟩;replace jm:=bC jm hb;replace oM:=bC oM hb;replace HB:=dw HB hb;(try clear hb);(try clear hb2);(try clear hk);(try clear hi);obtain ⟨rq,ru,ry,rz⟩:=jq oM.out)|((with_reducible refine aN (f:=77) rfl ?_);refine bT (some 23) rfl rfl Try.func77 aY rfl #[.agg #[U Z aQ,U Z aM],U Z 0,U Z 1073741824] rfl iG ?_;(with_reducible refine (bW.calls k aQ aM 0 1073741824 true _ A6.out).mono ?_);rintro e w25 ⟨rfl,hb⟩;refine ⟨_,rfl,?_⟩;replace jm:=bC jm hb;replace oM:=bC oM hb;replace HB:=dw HB hb;(try clear hb);(try clear hb2);(try clear hk);(try clear hi);obtain ⟨abf,abg,abh,abj⟩:=jq oM.out;obtain ⟨yS,yT,yU,yV,Gb,Gc,Gd,yX,yY,yZ,za,Gf,Gg,Gh⟩:=jb jm.out))
     go_ret2
     exact ⟨zq9,fu⟩
    ·rw [if_neg c18] at H
     have Pg:((BL) == 0) = false:=beq_eq_false_iff_ne.mpr c18
     have aFo:((BL) != 0) = true:=bne_iff_ne.mpr c18
     simp only [Option.some.injEq,Prod.mk.injEq] at H
     obtain ⟨rfl,rfl⟩:=H
     go_enter Try.func37,Try.ntmps37
     go_wp2_with (first|((with_reducible refine aG (N:=2) rfl ?_);refine az (by rfl) (N:=2) (by rfl) (cs:=#[U Z ah,U Z ai,U Z ax,U Z ay,U Z aK,U Z aH,U Z aJ]) (t:=29) fM ?_;intro aeL hg w28 hbox hb;have jm:=aa.mk (hbox);have aeM:=dn HB hg;have aeN:=dn HB hg;replace HB:=dw HB hb;clear hb hbox hg)|((with_reducible refine aG (N:=3) rfl ?_);refine az (by rfl) (N:=3) (by rfl) (cs:=#[U Z aQ,U Z aM]) (t:=27) fM ?_;intro aeO hg w29 hbox hb;have oM:=aa.mk (hbox);have aeP:=dn HB hg;have aeQ:=dn HB hg;have sj:=iq jm hg;have su:=iw jm hg;replace jm:=bC jm hb;replace HB:=dw HB hb;clear hb hbox hg;have aix:=sj.out;have aiy:=su.out;obtain ⟨Mv,Mw,Mx,MB,QH,QI,QJ,MC,ME,MF,MG,QK,QL,QM⟩:=jb jm.out)|((with_reducible refine aN (f:=27) rfl ?_);refine bT (some 16) rfl rfl Try.func27 aY rfl #[.agg #[U Z ah,U Z ai,U Z ax,U Z ay,U Z aK,U Z aH,U Z aJ]] rfl iG ?_;(with_reducible refine (dP.calls k ah ai ax ay aK aH aJ DX _ A4.out).mono ?_);rintro e w32 ⟨rfl,hb⟩;refine ⟨_,rfl,?_⟩;replace jm:=bC jm hb;replace oM:=bC oM hb;replace HB:=dw HB hb;(try clear hb);(try clear hb2);(try clear hk);(try clear hi);obtain ⟨QN,QO,QP,QQ⟩:=jq oM.out)|((with_reducible refine aN (f:=77) rfl ?_);refine bT (some 23) rfl rfl Try.func77 aY rfl #[.agg #[U Z aQ,U Z aM],U Z 0,U Z 1073741824] rfl iG ?_;(with_reducible refine (bW.calls k aQ aM 0 1073741824 true _ A6.out).mono ?_);rintro e w34 ⟨rfl,hb⟩;refine ⟨_,rfl,?_⟩;replace jm:=bC jm hb;replace oM:=bC oM hb;replace HB:=dw HB hb;(try clear hb);(try clear hb2);(try clear hk);(try clear hi);obtain ⟨Al,Am,Ao,Ap⟩:=jq oM.out;obtain ⟨Wd,We,adt,adu,arC,arD,aNH,Wh,Wi,adv,adw,arE,arF,aNI⟩:=jb jm.out))
     go_ret2
     exact ⟨zq9,fu⟩
  ·replace c7:=Bool.eq_false_iff.mpr c7
   subst c7
   have H1:(some (0,2)) = some (r1,r2):=by rw [if_neg (show ¬ (false = true) by decide)] at H;exact H
   clear H
   have H:=H1
   clear H1
   simp only [Option.some.injEq,Prod.mk.injEq] at H
   obtain ⟨rfl,rfl⟩:=H
   go_enter Try.func37,Try.ntmps37
   go_wp2_with (first|((with_reducible refine aG (N:=2) rfl ?_);refine az (by rfl) (N:=2) (by rfl) (cs:=#[U Z ah,U Z ai,U Z ax,U Z ay,U Z aK,U Z aH,U Z aJ]) (t:=29) fM ?_;intro aeL hg w37 hbox hb;have jm:=aa.mk (hbox);have aeM:=dn HB hg;have aeN:=dn HB hg;replace HB:=dw HB hb;clear hb hbox hg)|((with_reducible refine aG (N:=3) rfl ?_);refine az (by rfl) (N:=3) (by rfl) (cs:=#[U Z aQ,U Z aM]) (t:=27) fM ?_;intro aeO hg w38 hbox hb;have oM:=aa.mk (hbox);have aeP:=dn HB hg;have aeQ:=dn HB hg;have sj:=iq jm hg;have su:=iw jm hg;replace jm:=bC jm hb;replace HB:=dw HB hb;clear hb hbox hg;have Yn:=sj.out;have Yo:=su.out;obtain ⟨Wt,Wu,adx,ady,aqB,aqC,aqD,Wv,Ww,adz,adA,aqE,aqF,aqG⟩:=jb jm.out)|((with_reducible refine aN (f:=27) rfl ?_);refine bT (some 16) rfl rfl Try.func27 aY rfl #[.agg #[U Z ah,U Z ai,U Z ax,U Z ay,U Z aK,U Z aH,U Z aJ]] rfl iG ?_;(with_reducible refine (dP.calls k ah ai ax ay aK aH aJ DX _ A4.out).mono ?_);rintro e w41 ⟨rfl,hb⟩;refine ⟨_,rfl,?_⟩;replace jm:=bC jm hb;replace oM:=bC oM hb;replace HB:=dw HB hb;(try clear hb);(try clear hb2);(try clear hk);(try clear hi);obtain ⟨WC,WE,WG,WH⟩:=jq oM.out)|((with_reducible refine aN (f:=77) rfl ?_);refine bT (some 23) rfl rfl Try.func77 aY rfl #[.agg #[U Z aQ,U Z aM],U Z 0,U Z 1073741824] rfl iG ?_;(with_reducible refine (bW.calls k aQ aM 0 1073741824 false _ A6.out).mono ?_);rintro e w43 ⟨rfl,hb⟩;refine ⟨_,rfl,?_⟩;replace jm:=bC jm hb;replace oM:=bC oM hb;replace HB:=dw HB hb;(try clear hb);(try clear hb2);(try clear hk);(try clear hi)))
   go_ret2
   exact ⟨zq9,fu⟩
 ·rw [if_neg c5] at H
  have Ea:(DX == 0) = false:=beq_eq_false_iff_ne.mpr c5
  have afg:(DX != 0) = true:=bne_iff_ne.mpr c5
  simp only [Option.some.injEq,Prod.mk.injEq] at H
  obtain ⟨rfl,rfl⟩:=H
  go_enter Try.func37,Try.ntmps37
  go_wp2_with (first|((with_reducible refine aG (N:=2) rfl ?_);refine az (by rfl) (N:=2) (by rfl) (cs:=#[U Z ah,U Z ai,U Z ax,U Z ay,U Z aK,U Z aH,U Z aJ]) (t:=29) fM ?_;intro aeL hg w44 hbox hb;have jm:=aa.mk (hbox);have aeM:=dn HB hg;have aeN:=dn HB hg;replace HB:=dw HB hb;clear hb hbox hg)|((with_reducible refine aG (N:=3) rfl ?_);refine az (by rfl) (N:=3) (by rfl) (cs:=#[U Z aQ,U Z aM]) (t:=27) fM ?_;intro aeO hg w45 hbox hb;have oM:=aa.mk (hbox);have aeP:=dn HB hg;have aeQ:=dn HB hg;have sj:=iq jm hg;have su:=iw jm hg;replace jm:=bC jm hb;replace HB:=dw HB hb;clear hb hbox hg;have aik:=sj.out;have ail:=su.out;obtain ⟨aon,aoo,aop,aoq,aor,aos,aot,aou,aov,aow,aox,aoy,aoz,aoA⟩:=jb jm.out)|((with_reducible refine aN (f:=27) rfl ?_);refine bT (some 16) rfl rfl Try.func27 aY rfl #[.agg #[U Z ah,U Z ai,U Z ax,U Z ay,U Z aK,U Z aH,U Z aJ]] rfl iG ?_;(with_reducible refine (dP.calls k ah ai ax ay aK aH aJ DX _ A4.out).mono ?_);rintro e w48 ⟨rfl,hb⟩;refine ⟨_,rfl,?_⟩;replace jm:=bC jm hb;replace oM:=bC oM hb;replace HB:=dw HB hb;(try clear hb);(try clear hb2);(try clear hk);(try clear hi)))
  go_ret2
  exact ⟨zq9,fu⟩
end Go.Proofs.Ytmhaiihjfgfaoaa.Pr
end
