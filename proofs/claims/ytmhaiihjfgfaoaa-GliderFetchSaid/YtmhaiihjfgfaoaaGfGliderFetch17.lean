import Derived.Test.YtmhaiihjfgfaoaaGfGliderFetch3
import Derived.Test.YtmhaiihjfgfaoaaGfGliderFetch7
import Derived.Test.YtmhaiihjfgfaoaaGfGliderFetch8
import Derived.Test.YtmhaiihjfgfaoaaGfGliderFetch9
import Derived.Test.YtmhaiihjfgfaoaaGfGliderFetch16
set_option linter.unusedVariables false
set_option linter.unusedSimpArgs false
open Go.Value renaming int → U
open Go.IntKind renaming i64 → Z
open Bool renaming true → ab, false → ac
section
namespace Go.Proofs.Ytmhaiihjfgfaoaa.Pr
open Go.RowKit Go.Proofs.YtmhaiihjfgfaoaaW.PrintWords Go.Proofs.YtmhaiihjfgfaoaaW.PrintLast Go.Proofs.YtmhaiihjfgfaoaaW.PrintMore
attribute [local go_sem] gp gq iA iB gu
set_option linter.unusedVariables false
set_option linter.unusedSimpArgs false
attribute [local go_sem high] awr
def bX.f (k:Nat):Option (Bool):=(dA.f k).bind fun lv=>((mF.f 2000 2000).bind fun Ec=>((p9.f lv.1 lv.2.1 lv.2.2.1 lv.2.2.2.1 lv.2.2.2.2.1 lv.2.2.2.2.2.1 lv.2.2.2.2.2.2.1 lv.2.2.2.2.2.2.2.1 lv.2.2.2.2.2.2.2.2.1 lv.2.2.2.2.2.2.2.2.2.1 lv.2.2.2.2.2.2.2.2.2.2.1 lv.2.2.2.2.2.2.2.2.2.2.2.1 lv.2.2.2.2.2.2.2.2.2.2.2.2.1 lv.2.2.2.2.2.2.2.2.2.2.2.2.2.1 lv.2.2.2.2.2.2.2.2.2.2.2.2.2.2.1 lv.2.2.2.2.2.2.2.2.2.2.2.2.2.2.2 Ec.1 Ec.2.1 Ec.2.2.1 Ec.2.2.2 0 2 0).bind fun tO=>((kP.f k lv.2.2.2.2.2.2.2.2.2.1 lv.2.2.2.2.2.2.2.2.2.2.1 lv.2.2.2.2.2.2.2.2.2.2.2.1 lv.2.2.2.2.2.2.2.2.2.2.2.2.1 lv.2.2.2.2.2.2.2.2.2.2.2.2.2.1 lv.2.2.2.2.2.2.2.2.2.2.2.2.2.2.1 lv.2.2.2.2.2.2.2.2.2.2.2.2.2.2.2 300 310).bind fun Ed=>(if (wrap64 (tO.2.2.2.2+Ed.2)) = 0 then (if Ed.1 = 3 then (some ((tO.1 == 2200 && (tO.2.1 == 2400)) && ((tO.2.2.1 == 2000 && (tO.2.2.2.1 == 2000))))) else (some false)) else (some false)))))
theorem bX.mono:∀ k,pE (bX.f k) (bX.f (k+1)):=by
 intro k
 unfold bX.f
 repeat' first
  |(with_reducible exact kP.mono _ _ _ _ _ _ _ _ _ _)
  |(with_reducible exact dA.mono _)
  |(with_reducible exact pE.refl _)
  |(with_reducible exact pE.none _)
  |(with_reducible refine pE.ite ?_ ?_)
  |(with_reducible refine pE.bind ?_ (fun _=>?_))
  |exact kP.mono _ _ _ _ _ _ _ _ _ _
  |exact dA.mono _
  |exact pE.none _
  |refine pE.ite ?_ ?_
  |refine pE.bind ?_ (fun _=>?_)
def bX.T2:Bool × List (List Nat × List Nat):=(true,[([],[]),([],[]),([],[]),([],[]),([0,1,2,3,2],[0,1,2,3]),([4],[4]),([5],[5]),([5],[5]),([],[]),([8,6,4,0,1,2,3,4,5,6,8],[6,8]),([7,9,0,1,2,3,4,5,6,7,8,9],[7])])
def bX.B2:List Nat:=[0,0,0,0,15,31,63,63,0,383,1023]
theorem bX.amz:qA .any (opsOf Try.f19 2) = bX.T2:=by kernel_rfl
theorem bX.abg:mI bX.T2.2 bX.B2 = true:=by kernel_rfl
set_option maxRecDepth 100000 in
theorem bX.aws:bX.f 60 = some true:=by kernel_rfl
set_option maxHeartbeats 8000000 in
set_option maxRecDepth 100000 in
theorem bX.calls (k:Nat) (r:Bool) (w:World) (h:bX.f k = some r):
 Calls Try.prog 19 #[] w fun e w'=>e = .returned (.bool r)∧Below w.heap.size w w':=by
 have hr_:aa (r = true):=⟨Option.some.inj ((O4 bX.mono (Nat.le_max_left k 60) h).symm.trans (O4 bX.mono (Nat.le_max_right k 60) bX.aws))⟩
 have BV:=Try.underlying25
 have Br:=Try.underlying29
 have MV:=Try.underlying33
 have rO:=Try.underlying31
 have pz:=Try.underlying27
 have HB:=aa.mk (Below.refl w.heap.size w)
 have H:((dA.f k).bind fun lv=>((mF.f 2000 2000).bind fun Ec=>((p9.f lv.1 lv.2.1 lv.2.2.1 lv.2.2.2.1 lv.2.2.2.2.1 lv.2.2.2.2.2.1 lv.2.2.2.2.2.2.1 lv.2.2.2.2.2.2.2.1 lv.2.2.2.2.2.2.2.2.1 lv.2.2.2.2.2.2.2.2.2.1 lv.2.2.2.2.2.2.2.2.2.2.1 lv.2.2.2.2.2.2.2.2.2.2.2.1 lv.2.2.2.2.2.2.2.2.2.2.2.2.1 lv.2.2.2.2.2.2.2.2.2.2.2.2.2.1 lv.2.2.2.2.2.2.2.2.2.2.2.2.2.2.1 lv.2.2.2.2.2.2.2.2.2.2.2.2.2.2.2 Ec.1 Ec.2.1 Ec.2.2.1 Ec.2.2.2 0 2 0).bind fun tO=>((kP.f k lv.2.2.2.2.2.2.2.2.2.1 lv.2.2.2.2.2.2.2.2.2.2.1 lv.2.2.2.2.2.2.2.2.2.2.2.1 lv.2.2.2.2.2.2.2.2.2.2.2.2.1 lv.2.2.2.2.2.2.2.2.2.2.2.2.2.1 lv.2.2.2.2.2.2.2.2.2.2.2.2.2.2.1 lv.2.2.2.2.2.2.2.2.2.2.2.2.2.2.2 300 310).bind fun Ed=>(if (wrap64 (tO.2.2.2.2+Ed.2)) = 0 then (if Ed.1 = 3 then (some ((tO.1 == 2200 && (tO.2.1 == 2400)) && ((tO.2.2.1 == 2000 && (tO.2.2.2.1 == 2000))))) else (some false)) else (some false)))))) = some r:=h
 clear h
 replace H:=Option.bind_eq_some_iff.mp H
 obtain ⟨⟨wQ,xu,xU,za,zz,Bt,BK,xw,xV,uu,vC,vL,wS,xx,xW,zb⟩,QJ,H⟩:=H
 replace H:((mF.f 2000 2000).bind fun Ec=>((p9.f wQ xu xU za zz Bt BK xw xV uu vC vL wS xx xW zb Ec.1 Ec.2.1 Ec.2.2.1 Ec.2.2.2 0 2 0).bind fun tO=>((kP.f k uu vC vL wS xx xW zb 300 310).bind fun Ed=>(if (wrap64 (tO.2.2.2.2+Ed.2)) = 0 then (if Ed.1 = 3 then (some ((tO.1 == 2200 && (tO.2.1 == 2400)) && ((tO.2.2.1 == 2000 && (tO.2.2.2.1 == 2000))))) else (some false)) else (some false))))) = some r:=H
 have A1:=aa.mk QJ
 clear QJ
 replace H:=Option.bind_eq_some_iff.mp H
 obtain ⟨⟨Vd,Ve,Vf,Vg⟩,VR,H⟩:=H
 replace H:((p9.f wQ xu xU za zz Bt BK xw xV uu vC vL wS xx xW zb Vd Ve Vf Vg 0 2 0).bind fun tO=>((kP.f k uu vC vL wS xx xW zb 300 310).bind fun Ed=>(if (wrap64 (tO.2.2.2.2+Ed.2)) = 0 then (if Ed.1 = 3 then (some ((tO.1 == 2200 && (tO.2.1 == 2400)) && ((tO.2.2.1 == 2000 && (tO.2.2.2.1 == 2000))))) else (some false)) else (some false)))) = some r:=H
 have A2:=aa.mk VR
 clear VR
 replace H:=Option.bind_eq_some_iff.mp H
 obtain ⟨⟨M8,Pj,Q9,Ua,Pk⟩,QH,H⟩:=H
 replace H:((kP.f k uu vC vL wS xx xW zb 300 310).bind fun Ed=>(if (wrap64 (Pk+Ed.2)) = 0 then (if Ed.1 = 3 then (some ((M8 == 2200 && (Pj == 2400)) && ((Q9 == 2000 && (Ua == 2000))))) else (some false)) else (some false))) = some r:=H
 have A3:=aa.mk QH
 clear QH
 replace H:=Option.bind_eq_some_iff.mp H
 obtain ⟨⟨ad8,ad9⟩,M0,H⟩:=H
 replace H:(if (wrap64 (Pk+ad9)) = 0 then (if ad8 = 3 then (some ((M8 == 2200 && (Pj == 2400)) && ((Q9 == 2000 && (Ua == 2000))))) else (some false)) else (some false)) = some r:=H
 have A4:=aa.mk M0
 clear M0
 by_cases c5:(wrap64 (Pk+ad9)) = 0
 ·rw [if_pos c5] at H
  have DI:((wrap64 (Pk+ad9)) == 0) = true:=beq_iff_eq.mpr c5
  have aj4:((wrap64 (Pk+ad9)) != 0) = false:=bne_eq_false_iff_eq.mpr c5
  clear c5
  by_cases c6:ad8 = 3
  ·rw [if_pos c6] at H
   have GX:(ad8 == 3) = true:=beq_iff_eq.mpr c6
   have aWW:(ad8 != 3) = false:=bne_eq_false_iff_eq.mpr c6
   clear c6
   obtain rfl:=Option.some.inj H
   go_enter Try.func19,Try.ntmps19
   try go_wp2_with (first|((with_reducible refine aQ (f:=61) rfl ?_);refine dn (some 8) rfl rfl Try.func61 aM rfl #[] rfl ji ?_;(with_reducible refine (dA.calls k wQ xu xU za zz Bt BK xw xV uu vC vL wS xx xW zb _ A1.out).mono ?_);rintro e w7 ⟨a6G,a6H,rfl,ho0,ho1,hb⟩;refine ⟨_,rfl,?_⟩;have mV:=aa.mk (Kd.lX ho0 (iq gL));have mW:=aa.mk (Kd.lX ho1 (iq gL));replace HB:=cO HB hb;(try clear hb);(try clear hb2);(try clear hk);(try clear hi);(try clear ho0);(try clear ho1))|((with_reducible refine aA (N:=1) rfl ?_);refine au (by rfl) (N:=1) (by rfl) (cs:=#[U Z 0,U Z 0,U Z 0,U Z 0,U Z 0,U Z 0,U Z 0,.slice none 0 0,.slice none 0 0]) (t:=25) fG ?_;intro fe hg w8 hbox hb;have kQ:=aa.mk (hbox);have a1I:=bS HB hg;have a1J:=bS HB hg;replace mV:=zt mV hb;replace mW:=zt mW hb;replace HB:=cO HB hb;clear hb hbox hg)|((with_reducible refine aA (N:=2) rfl ?_);refine au (by rfl) (N:=2) (by rfl) (cs:=#[U Z 0,U Z 0,U Z 0,U Z 0,U Z 0,U Z 0,U Z 0]) (t:=29) fG ?_;intro gU hg w9 hbox hb;have lH:=aa.mk (hbox);have a1K:=bS HB hg;have a1L:=bS HB hg;have wV:=eQ kQ hg;have rR:=eT kQ hg;replace mV:=zt mV hb;replace mW:=zt mW hb;replace kQ:=aX kQ hb;replace HB:=cO HB hb;clear hb hbox hg;have VL:=wV.out;have VM:=rR.out;obtain ⟨uk,um,xJ,xK,Ci,Cj,GZ,Rn,Ro,uo,uq,xL,xM,Ck,Cm,G5,Rp,Rq⟩:=jA kQ.out;obtain ⟨Fe,Ff,aWX⟩:=Kd.nR mV.out;subst aWX;obtain ⟨FH,FI,aWY⟩:=Kd.nR mW.out;subst aWY;obtain ⟨Aq,Ar,GL,GM,aqv,aqw,aqx,Au,Av,GN,GQ,aqy,aqz,aqA⟩:=jF lH.out))
   have vD:aa (Kd.R Kd.bool 4 ((((((((((((((((w9.setCell ⟨fe,0,none⟩ (U Z wQ)).setCell ⟨fe,1,none⟩ (U Z xu)).setCell ⟨fe,2,none⟩ (U Z xU)).setCell ⟨fe,3,none⟩ (U Z za)).setCell ⟨fe,4,none⟩ (U Z zz)).setCell ⟨fe,5,none⟩ (U Z Bt)).setCell ⟨fe,6,none⟩ (U Z BK)).setCell ⟨fe,7,none⟩ (.slice Fe xw.length Ff)).setCell ⟨fe,8,none⟩ (.slice FH xV.length FI)).setCell ⟨gU,0,none⟩ (U Z uu)).setCell ⟨gU,1,none⟩ (U Z vC)).setCell ⟨gU,2,none⟩ (U Z vL)).setCell ⟨gU,3,none⟩ (U Z wS)).setCell ⟨gU,4,none⟩ (U Z xx)).setCell ⟨gU,5,none⟩ (U Z xW)).setCell ⟨gU,6,none⟩ (U Z zb)) w.heap.size (fun _=>True) (.slice Fe xw.length Ff) xw):=⟨by (with_reducible repeat (first|apply Kd.mY|apply Kd.mZ|apply Kd.mg));exact Kd.mM (Kd.fA (p:=⟨gU,6,none⟩) (Kd.fA (p:=⟨gU,5,none⟩) (Kd.fA (p:=⟨gU,4,none⟩) (Kd.fA (p:=⟨gU,3,none⟩) (Kd.fA (p:=⟨gU,2,none⟩) (Kd.fA (p:=⟨gU,1,none⟩) (Kd.fA (p:=⟨gU,0,none⟩) (Kd.fA (p:=⟨fe,8,none⟩) (Kd.fA (p:=⟨fe,7,none⟩) (Kd.fA (p:=⟨fe,6,none⟩) (Kd.fA (p:=⟨fe,5,none⟩) (Kd.fA (p:=⟨fe,4,none⟩) (Kd.fA (p:=⟨fe,3,none⟩) (Kd.fA (p:=⟨fe,2,none⟩) (Kd.fA (p:=⟨fe,1,none⟩) (Kd.fA (p:=⟨fe,0,none⟩) (Kd.tZ (Kd.tZ mV.out kQ.out (by decide)) lH.out (by decide)) (fun _ hk=>hk.1.2) (U Z wQ)) (fun _ hk=>hk.1.2) (U Z xu)) (fun _ hk=>hk.1.2) (U Z xU)) (fun _ hk=>hk.1.2) (U Z za)) (fun _ hk=>hk.1.2) (U Z zz)) (fun _ hk=>hk.1.2) (U Z Bt)) (fun _ hk=>hk.1.2) (U Z BK)) (fun _ hk=>hk.1.2) (.slice Fe xw.length Ff)) (fun _ hk=>hk.1.2) (.slice FH xV.length FI)) (fun _ hk=>hk.2) (U Z uu)) (fun _ hk=>hk.2) (U Z vC)) (fun _ hk=>hk.2) (U Z vL)) (fun _ hk=>hk.2) (U Z wS)) (fun _ hk=>hk.2) (U Z xx)) (fun _ hk=>hk.2) (U Z xW)) (fun _ hk=>hk.2) (U Z zb)) (fun _ hk=>trivial)⟩
   have vE:aa (Kd.R GI 40 ((((((((((((((((w9.setCell ⟨fe,0,none⟩ (U Z wQ)).setCell ⟨fe,1,none⟩ (U Z xu)).setCell ⟨fe,2,none⟩ (U Z xU)).setCell ⟨fe,3,none⟩ (U Z za)).setCell ⟨fe,4,none⟩ (U Z zz)).setCell ⟨fe,5,none⟩ (U Z Bt)).setCell ⟨fe,6,none⟩ (U Z BK)).setCell ⟨fe,7,none⟩ (.slice Fe xw.length Ff)).setCell ⟨fe,8,none⟩ (.slice FH xV.length FI)).setCell ⟨gU,0,none⟩ (U Z uu)).setCell ⟨gU,1,none⟩ (U Z vC)).setCell ⟨gU,2,none⟩ (U Z vL)).setCell ⟨gU,3,none⟩ (U Z wS)).setCell ⟨gU,4,none⟩ (U Z xx)).setCell ⟨gU,5,none⟩ (U Z xW)).setCell ⟨gU,6,none⟩ (U Z zb)) w.heap.size (fun _=>True) (.slice FH xV.length FI) xV):=⟨by (with_reducible repeat (first|apply Kd.mY|apply Kd.mZ|apply Kd.mg));exact Kd.mM (Kd.fA (p:=⟨gU,6,none⟩) (Kd.fA (p:=⟨gU,5,none⟩) (Kd.fA (p:=⟨gU,4,none⟩) (Kd.fA (p:=⟨gU,3,none⟩) (Kd.fA (p:=⟨gU,2,none⟩) (Kd.fA (p:=⟨gU,1,none⟩) (Kd.fA (p:=⟨gU,0,none⟩) (Kd.fA (p:=⟨fe,8,none⟩) (Kd.fA (p:=⟨fe,7,none⟩) (Kd.fA (p:=⟨fe,6,none⟩) (Kd.fA (p:=⟨fe,5,none⟩) (Kd.fA (p:=⟨fe,4,none⟩) (Kd.fA (p:=⟨fe,3,none⟩) (Kd.fA (p:=⟨fe,2,none⟩) (Kd.fA (p:=⟨fe,1,none⟩) (Kd.fA (p:=⟨fe,0,none⟩) (Kd.tZ (Kd.tZ mW.out kQ.out (by decide)) lH.out (by decide)) (fun _ hk=>hk.1.2) (U Z wQ)) (fun _ hk=>hk.1.2) (U Z xu)) (fun _ hk=>hk.1.2) (U Z xU)) (fun _ hk=>hk.1.2) (U Z za)) (fun _ hk=>hk.1.2) (U Z zz)) (fun _ hk=>hk.1.2) (U Z Bt)) (fun _ hk=>hk.1.2) (U Z BK)) (fun _ hk=>hk.1.2) (.slice Fe xw.length Ff)) (fun _ hk=>hk.1.2) (.slice FH xV.length FI)) (fun _ hk=>hk.2) (U Z uu)) (fun _ hk=>hk.2) (U Z vC)) (fun _ hk=>hk.2) (U Z vL)) (fun _ hk=>hk.2) (U Z wS)) (fun _ hk=>hk.2) (U Z xx)) (fun _ hk=>hk.2) (U Z xW)) (fun _ hk=>hk.2) (U Z zb)) (fun _ hk=>trivial)⟩
   have vF:aa (((((((((((((((((w9.setCell ⟨fe,0,none⟩ (U Z wQ)).setCell ⟨fe,1,none⟩ (U Z xu)).setCell ⟨fe,2,none⟩ (U Z xU)).setCell ⟨fe,3,none⟩ (U Z za)).setCell ⟨fe,4,none⟩ (U Z zz)).setCell ⟨fe,5,none⟩ (U Z Bt)).setCell ⟨fe,6,none⟩ (U Z BK)).setCell ⟨fe,7,none⟩ (.slice Fe xw.length Ff)).setCell ⟨fe,8,none⟩ (.slice FH xV.length FI)).setCell ⟨gU,0,none⟩ (U Z uu)).setCell ⟨gU,1,none⟩ (U Z vC)).setCell ⟨gU,2,none⟩ (U Z vL)).setCell ⟨gU,3,none⟩ (U Z wS)).setCell ⟨gU,4,none⟩ (U Z xx)).setCell ⟨gU,5,none⟩ (U Z xW)).setCell ⟨gU,6,none⟩ (U Z zb)).heap[fe]? = some (.cells #[U Z wQ,U Z xu,U Z xU,U Z za,U Z zz,U Z Bt,U Z BK,.slice Fe xw.length Ff,.slice FH xV.length FI] 25 (0,0))):=⟨by (with_reducible repeat (first|refine av ?_ _|refine ag ?_|refine af ?_ _));refine aV ?_ wV.out _;(with_reducible repeat (first|refine av ?_ _|refine ag ?_|refine af ?_ _));refine aV ?_ wV.out _;(with_reducible repeat (first|refine av ?_ _|refine ag ?_|refine af ?_ _));refine aV ?_ wV.out _;(with_reducible repeat (first|refine av ?_ _|refine ag ?_|refine af ?_ _));refine aV ?_ wV.out _;(with_reducible repeat (first|refine av ?_ _|refine ag ?_|refine af ?_ _));refine aV ?_ wV.out _;(with_reducible repeat (first|refine av ?_ _|refine ag ?_|refine af ?_ _));refine aV ?_ wV.out _;(with_reducible repeat (first|refine av ?_ _|refine ag ?_|refine af ?_ _));refine aV ?_ wV.out _;(with_reducible repeat (first|refine av ?_ _|refine ag ?_|refine af ?_ _));refine aN (cs:=#[U Z wQ,U Z xu,U Z xU,U Z za,U Z zz,U Z Bt,U Z BK,.slice Fe xw.length Ff,.slice none 0 0]) ?_ 8 _ rfl;(with_reducible repeat (first|refine av ?_ _|refine ag ?_|refine af ?_ _));refine aN (cs:=#[U Z wQ,U Z xu,U Z xU,U Z za,U Z zz,U Z Bt,U Z BK,.slice none 0 0,.slice none 0 0]) ?_ 7 _ rfl;(with_reducible repeat (first|refine av ?_ _|refine ag ?_|refine af ?_ _));refine aN (cs:=#[U Z wQ,U Z xu,U Z xU,U Z za,U Z zz,U Z Bt,U Z 0,.slice none 0 0,.slice none 0 0]) ?_ 6 _ rfl;(with_reducible repeat (first|refine av ?_ _|refine ag ?_|refine af ?_ _));refine aN (cs:=#[U Z wQ,U Z xu,U Z xU,U Z za,U Z zz,U Z 0,U Z 0,.slice none 0 0,.slice none 0 0]) ?_ 5 _ rfl;(with_reducible repeat (first|refine av ?_ _|refine ag ?_|refine af ?_ _));refine aN (cs:=#[U Z wQ,U Z xu,U Z xU,U Z za,U Z 0,U Z 0,U Z 0,.slice none 0 0,.slice none 0 0]) ?_ 4 _ rfl;(with_reducible repeat (first|refine av ?_ _|refine ag ?_|refine af ?_ _));refine aN (cs:=#[U Z wQ,U Z xu,U Z xU,U Z 0,U Z 0,U Z 0,U Z 0,.slice none 0 0,.slice none 0 0]) ?_ 3 _ rfl;(with_reducible repeat (first|refine av ?_ _|refine ag ?_|refine af ?_ _));refine aN (cs:=#[U Z wQ,U Z xu,U Z 0,U Z 0,U Z 0,U Z 0,U Z 0,.slice none 0 0,.slice none 0 0]) ?_ 2 _ rfl;(with_reducible repeat (first|refine av ?_ _|refine ag ?_|refine af ?_ _));refine aN (cs:=#[U Z wQ,U Z 0,U Z 0,U Z 0,U Z 0,U Z 0,U Z 0,.slice none 0 0,.slice none 0 0]) ?_ 1 _ rfl;(with_reducible repeat (first|refine av ?_ _|refine ag ?_|refine af ?_ _));refine aN (cs:=#[U Z 0,U Z 0,U Z 0,U Z 0,U Z 0,U Z 0,U Z 0,.slice none 0 0,.slice none 0 0]) ?_ 0 _ rfl;(with_reducible repeat (first|refine av ?_ _|refine ag ?_|refine af ?_ _));exact kQ.out⟩
   have vG:aa (((((((((((((((((w9.setCell ⟨fe,0,none⟩ (U Z wQ)).setCell ⟨fe,1,none⟩ (U Z xu)).setCell ⟨fe,2,none⟩ (U Z xU)).setCell ⟨fe,3,none⟩ (U Z za)).setCell ⟨fe,4,none⟩ (U Z zz)).setCell ⟨fe,5,none⟩ (U Z Bt)).setCell ⟨fe,6,none⟩ (U Z BK)).setCell ⟨fe,7,none⟩ (.slice Fe xw.length Ff)).setCell ⟨fe,8,none⟩ (.slice FH xV.length FI)).setCell ⟨gU,0,none⟩ (U Z uu)).setCell ⟨gU,1,none⟩ (U Z vC)).setCell ⟨gU,2,none⟩ (U Z vL)).setCell ⟨gU,3,none⟩ (U Z wS)).setCell ⟨gU,4,none⟩ (U Z xx)).setCell ⟨gU,5,none⟩ (U Z xW)).setCell ⟨gU,6,none⟩ (U Z zb)).heap[gU]? = some (.cells #[U Z uu,U Z vC,U Z vL,U Z wS,U Z xx,U Z xW,U Z zb] 29 (0,0))):=⟨by (with_reducible repeat (first|refine av ?_ _|refine ag ?_|refine af ?_ _));refine aN (cs:=#[U Z uu,U Z vC,U Z vL,U Z wS,U Z xx,U Z xW,U Z 0]) ?_ 6 _ rfl;(with_reducible repeat (first|refine av ?_ _|refine ag ?_|refine af ?_ _));refine aN (cs:=#[U Z uu,U Z vC,U Z vL,U Z wS,U Z xx,U Z 0,U Z 0]) ?_ 5 _ rfl;(with_reducible repeat (first|refine av ?_ _|refine ag ?_|refine af ?_ _));refine aN (cs:=#[U Z uu,U Z vC,U Z vL,U Z wS,U Z 0,U Z 0,U Z 0]) ?_ 4 _ rfl;(with_reducible repeat (first|refine av ?_ _|refine ag ?_|refine af ?_ _));refine aN (cs:=#[U Z uu,U Z vC,U Z vL,U Z 0,U Z 0,U Z 0,U Z 0]) ?_ 3 _ rfl;(with_reducible repeat (first|refine av ?_ _|refine ag ?_|refine af ?_ _));refine aN (cs:=#[U Z uu,U Z vC,U Z 0,U Z 0,U Z 0,U Z 0,U Z 0]) ?_ 2 _ rfl;(with_reducible repeat (first|refine av ?_ _|refine ag ?_|refine af ?_ _));refine aN (cs:=#[U Z uu,U Z 0,U Z 0,U Z 0,U Z 0,U Z 0,U Z 0]) ?_ 1 _ rfl;(with_reducible repeat (first|refine av ?_ _|refine ag ?_|refine af ?_ _));refine aN (cs:=#[U Z 0,U Z 0,U Z 0,U Z 0,U Z 0,U Z 0,U Z 0]) ?_ 0 _ rfl;(with_reducible repeat (first|refine av ?_ _|refine ag ?_|refine af ?_ _));refine aV ?_ rR.out _;(with_reducible repeat (first|refine av ?_ _|refine ag ?_|refine af ?_ _));refine aV ?_ rR.out _;(with_reducible repeat (first|refine av ?_ _|refine ag ?_|refine af ?_ _));refine aV ?_ rR.out _;(with_reducible repeat (first|refine av ?_ _|refine ag ?_|refine af ?_ _));refine aV ?_ rR.out _;(with_reducible repeat (first|refine av ?_ _|refine ag ?_|refine af ?_ _));refine aV ?_ rR.out _;(with_reducible repeat (first|refine av ?_ _|refine ag ?_|refine af ?_ _));refine aV ?_ rR.out _;(with_reducible repeat (first|refine av ?_ _|refine ag ?_|refine af ?_ _));refine aV ?_ rR.out _;(with_reducible repeat (first|refine av ?_ _|refine ag ?_|refine af ?_ _));refine aV ?_ rR.out _;(with_reducible repeat (first|refine av ?_ _|refine ag ?_|refine af ?_ _));refine aV ?_ rR.out _;(with_reducible repeat (first|refine av ?_ _|refine ag ?_|refine af ?_ _));exact lH.out⟩
   have vY:aa (Below w.heap.size w ((((((((((((((((w9.setCell ⟨fe,0,none⟩ (U Z wQ)).setCell ⟨fe,1,none⟩ (U Z xu)).setCell ⟨fe,2,none⟩ (U Z xU)).setCell ⟨fe,3,none⟩ (U Z za)).setCell ⟨fe,4,none⟩ (U Z zz)).setCell ⟨fe,5,none⟩ (U Z Bt)).setCell ⟨fe,6,none⟩ (U Z BK)).setCell ⟨fe,7,none⟩ (.slice Fe xw.length Ff)).setCell ⟨fe,8,none⟩ (.slice FH xV.length FI)).setCell ⟨gU,0,none⟩ (U Z uu)).setCell ⟨gU,1,none⟩ (U Z vC)).setCell ⟨gU,2,none⟩ (U Z vL)).setCell ⟨gU,3,none⟩ (U Z wS)).setCell ⟨gU,4,none⟩ (U Z xx)).setCell ⟨gU,5,none⟩ (U Z xW)).setCell ⟨gU,6,none⟩ (U Z zb))):=⟨gL⟩
   (try clear mV)
   (try clear mW)
   (try clear kQ)
   (try clear lH)
   (try clear HB)
   generalize ((((((((((((((((w9.setCell ⟨fe,0,none⟩ (U Z wQ)).setCell ⟨fe,1,none⟩ (U Z xu)).setCell ⟨fe,2,none⟩ (U Z xU)).setCell ⟨fe,3,none⟩ (U Z za)).setCell ⟨fe,4,none⟩ (U Z zz)).setCell ⟨fe,5,none⟩ (U Z Bt)).setCell ⟨fe,6,none⟩ (U Z BK)).setCell ⟨fe,7,none⟩ (.slice Fe xw.length Ff)).setCell ⟨fe,8,none⟩ (.slice FH xV.length FI)).setCell ⟨gU,0,none⟩ (U Z uu)).setCell ⟨gU,1,none⟩ (U Z vC)).setCell ⟨gU,2,none⟩ (U Z vL)).setCell ⟨gU,3,none⟩ (U Z wS)).setCell ⟨gU,4,none⟩ (U Z xx)).setCell ⟨gU,5,none⟩ (U Z xW)).setCell ⟨gU,6,none⟩ (U Z zb)) = w15 at vD vE vF vG vY ⊢
   have mV:=vD
   have mW:=vE
   have kQ:=vF
   have lH:=vG
   have HB:=vY
   clear vD vE vF vG vY
   replace mV:=aa.mk (Kd.mg mV.out)
   replace mW:=aa.mk (Kd.mg mW.out)
   replace kQ:=aa.mk (ag kQ.out)
   replace lH:=aa.mk (ag lH.out)
   replace HB:=aa.mk (bO HB.out)
   refine iN (n:=11) (S:=fun w'=>w'.cell? ⟨fe,0,none⟩ = some (U Z wQ)∧w'.cell? ⟨fe,1,none⟩ = some (U Z xu)∧w'.cell? ⟨fe,2,none⟩ = some (U Z xU)∧w'.cell? ⟨fe,3,none⟩ = some (U Z za)∧w'.cell? ⟨fe,4,none⟩ = some (U Z zz)∧w'.cell? ⟨fe,5,none⟩ = some (U Z Bt)∧w'.cell? ⟨fe,6,none⟩ = some (U Z BK)∧w'.cell? ⟨fe,7,none⟩ = some (.slice Fe xw.length Ff)∧w'.cell? ⟨fe,8,none⟩ = some (.slice FH xV.length FI)∧w'.cell? ⟨gU,0,none⟩ = some (U Z uu)∧w'.cell? ⟨gU,1,none⟩ = some (U Z vC)∧w'.cell? ⟨gU,2,none⟩ = some (U Z vL)∧w'.cell? ⟨gU,3,none⟩ = some (U Z wS)∧w'.cell? ⟨gU,4,none⟩ = some (U Z xx)∧w'.cell? ⟨gU,5,none⟩ = some (U Z xW)∧w'.cell? ⟨gU,6,none⟩ = some (U Z zb)) (ds:=[]) #[ac,ac,ac,ac,ac,ac,ac,ac,ac,ac,ac] aM rfl rfl (uw kQ.out (Mk lH.out)) (fun hHeld=>?_);refine fU bX.amz bX.abg (fun bz jb=>?_)
   generalize w15.drew = w16 at mV mW kQ lH HB hHeld ⊢
   refine bV (i:=3) (N:=some 15) (ax bz.out aM) ?_
   refine iL (i:=0) (N:=some 12) (aY bz.out jb.out aM) hHeld ?_
   refine iL (i:=1) (N:=some 13) (aY bz.out jb.out aM) hHeld ?_
   refine QE (σ:=Nat) 2 #[ab,ab,ab,ab,ab,ab,ab,ab,ab,ac,ac] (fun s_=>[(14,.agg #[U Z Vd,U Z Ve,U Z Vf,U Z Vg]),(16,.tuple #[.agg #[U Z M8,U Z Pj,U Z Q9,U Z Ua],U Z Pk]),(3,.pointer (some ⟨s_,0,none⟩)),(11,.tuple #[.agg #[U Z M8,U Z Pj,U Z Q9,U Z Ua],U Z Pk]),(17,.agg #[U Z M8,U Z Pj,U Z Q9,U Z Ua]),(18,U Z Pk)]) (fun s_ w'=>(w'.cell? ⟨fe,0,none⟩ = some (U Z wQ)∧w'.cell? ⟨fe,1,none⟩ = some (U Z xu)∧w'.cell? ⟨fe,2,none⟩ = some (U Z xU)∧w'.cell? ⟨fe,3,none⟩ = some (U Z za)∧w'.cell? ⟨fe,4,none⟩ = some (U Z zz)∧w'.cell? ⟨fe,5,none⟩ = some (U Z Bt)∧w'.cell? ⟨fe,6,none⟩ = some (U Z BK)∧w'.cell? ⟨fe,7,none⟩ = some (.slice Fe xw.length Ff)∧w'.cell? ⟨fe,8,none⟩ = some (.slice FH xV.length FI)∧w'.cell? ⟨gU,0,none⟩ = some (U Z uu)∧w'.cell? ⟨gU,1,none⟩ = some (U Z vC)∧w'.cell? ⟨gU,2,none⟩ = some (U Z vL)∧w'.cell? ⟨gU,3,none⟩ = some (U Z wS)∧w'.cell? ⟨gU,4,none⟩ = some (U Z xx)∧w'.cell? ⟨gU,5,none⟩ = some (U Z xW)∧w'.cell? ⟨gU,6,none⟩ = some (U Z zb))∧(Kd.R Kd.bool 4 w' w.heap.size (fun _=>True) (.slice Fe xw.length Ff) xw)∧(Kd.R GI 40 w' w.heap.size (fun _=>True) (.slice FH xV.length FI) xV)∧(w'.heap[fe]? = some (.cells #[U Z wQ,U Z xu,U Z xU,U Z za,U Z zz,U Z Bt,U Z BK,.slice Fe xw.length Ff,.slice FH xV.length FI] 25 (0,0)))∧(w'.heap[gU]? = some (.cells #[U Z uu,U Z vC,U Z vL,U Z wS,U Z xx,U Z xW,U Z zb] 29 (0,0)))∧(w'.heap[s_]? = some (.cells #[U Z 0,U Z 0,U Z 0,U Z 0] 31 (0,0)))∧(w.heap.size≤s_)∧(w.heap.size≤s_)∧(fe≠s_)∧(s_≠fe)∧(gU≠s_)∧(s_≠gU)∧(Below w.heap.size w w')) ?_ ?_
   rotate_left
   ·intro hCont
    refine U9 (i:=2) (j:=8) (Ni:=some 14) (Nj:=some 3) #[ab,ab,ab,ab,ac,ac,ac,ac,ac,ac,ac] #[ab,ab,ac,ab,ac,ac,ac,ac,ab,ac,ac] rfl rfl rfl rfl (Jn bz.out aM) (by decide) (by decide) (fun K hK=>?_) (fun K hK=>?_)
    ·skip
     refine gJ Try.func62 aM rfl #[U Z 2000,U Z 2000] (by rfl) rfl rfl ji ?_
     with_reducible refine (mF.calls 2000 2000 Vd Ve Vf Vg _ A2.out).mono ?_
     rintro e Fb ⟨rfl,hb⟩
     refine ⟨_,rfl,?_⟩
     replace mV:=zt mV hb
     replace mW:=zt mW hb
     replace kQ:=aX kQ hb
     replace lH:=aX lH hb
     replace HB:=cO HB hb
     (try clear hb)
     (try clear hb2)
     (try clear hk)
     (try clear hi)
     refine hK.out _ _ (uw kQ.out (Mk lH.out)) (fun hHeld=>?_)
     clear hK K
     refine dM amA ?_
     refine U9 (i:=4) (j:=8) (Ni:=some 16) (Nj:=some 3) #[ab,ab,ab,ab,ab,ac,ac,ac,ac,ac,ac] #[ab,ab,ab,ab,ac,ac,ac,ac,ab,ac,ac] rfl rfl rfl rfl (Jn bz.out aM) (by decide) (by decide) (fun K hK=>?_) (fun K hK=>?_)
     ·skip
      refine gJ Try.func20 aM rfl #[.agg #[U Z wQ,U Z xu,U Z xU,U Z za,U Z zz,U Z Bt,U Z BK,.slice Fe xw.length Ff,.slice FH xV.length FI],.agg #[U Z uu,U Z vC,U Z vL,U Z wS,U Z xx,U Z xW,U Z zb],.agg #[U Z Vd,U Z Ve,U Z Vf,U Z Vg],U Z 0,.agg #[U Z 2,U Z 0]] (by rfl) rfl rfl ji ?_
      with_reducible refine (p9.calls wQ xu xU za zz Bt BK _ _ xw _ _ xV uu vC vL wS xx xW zb Vd Ve Vf Vg 0 2 0 M8 Pj Q9 Ua Pk _ ?cZ ?df ?eu ?eB A3.out).mono ?_
      (case cZ=>repeat (first|exact (Kd.gZ mV.out).2.2|(with_reducible refine Kd.bC ?_ _)|(with_reducible refine Kd.bD ?_ _)|(with_reducible refine Kd.bN ?_)))
      (case df=>exact (Kd.gZ mV.out).2.1)
      (case eu=>repeat (first|exact (Kd.gZ mW.out).2.2|(with_reducible refine Kd.bC ?_ _)|(with_reducible refine Kd.bD ?_ _)|(with_reducible refine Kd.bN ?_)))
      (case eB=>exact (Kd.gZ mW.out).2.1)
      rintro e w18 ⟨rfl,hb⟩
      refine ⟨_,rfl,?_⟩
      replace mV:=zt mV hb
      replace mW:=zt mW hb
      replace kQ:=aX kQ hb
      replace lH:=aX lH hb
      replace HB:=cO HB hb
      (try clear hb)
      (try clear hb2)
      (try clear hk)
      (try clear hi)
      refine hK.out _ _ (uw kQ.out (Mk lH.out)) (fun hHeld=>?_)
      clear hK K
      refine dM ajW ?_
      refine bV (i:=5) (N:=some 11) (ax bz.out aM) ?_
      refine bV (i:=6) (N:=some 17) (ax bz.out aM) ?_
      refine bV (i:=7) (N:=some 18) (ax bz.out aM) ?_
      refine iO (i:=8) (N:=some 3) #[ab,ab,ab,ab,ab,ab,ab,ab,ab,ac,ac] rfl rfl (eH bz.out aM) (by decide) (fun K hK=>?_)
      refine nV ?hg (N:=3) ?hd (cs:=#[U Z 0,U Z 0,U Z 0,U Z 0]) (t:=31) ?hr ?_;(case hd=>rfl);(case hg=>rfl);(case hr=>first|(go_simp;done)|(go_simp;rfl))
      intro ry hg w19 hbox hb
      have tQ:=aa.mk (hbox)
      have VU:=bS HB hg
      have VV:=bS HB hg
      have eX:=eQ kQ hg
      have qB:=eT kQ hg
      have gm:=eQ lH hg
      have qC:=eT lH hg
      replace mV:=zt mV hb
      replace mW:=zt mW hb
      replace kQ:=aX kQ hb
      replace lH:=aX lH hb
      replace HB:=cO HB hb
      clear hb hbox hg
      refine hK.out _ _ (uw kQ.out (Mk lH.out)) (fun hHeld=>?_)
      clear hK K
      refine dM ayO ?_
      exact dM M9 (hCont (ry) _ ⟨hHeld,ayP,ayQ,gB,gB,gB,VU.out,VV.out,eX.out,qB.out,gm.out,qC.out,gL⟩)
     ·skip
      refine nV ?hg (N:=3) ?hd (cs:=#[U Z 0,U Z 0,U Z 0,U Z 0]) (t:=31) ?hr ?_;(case hd=>rfl);(case hg=>rfl);(case hr=>first|(go_simp;done)|(go_simp;rfl))
      intro ry hg w18 hbox hb
      have tQ:=aa.mk (hbox)
      have VU:=bS HB hg
      have VV:=bS HB hg
      have eX:=eQ kQ hg
      have qB:=eT kQ hg
      have gm:=eQ lH hg
      have qC:=eT lH hg
      replace mV:=zt mV hb
      replace mW:=zt mW hb
      replace kQ:=aX kQ hb
      replace lH:=aX lH hb
      replace HB:=cO HB hb
      clear hb hbox hg
      refine hK.out _ _ (uw kQ.out (Mk lH.out)) (fun hHeld=>?_)
      clear hK K
      refine dM ayO ?_
      refine iO (i:=4) (N:=some 16) #[ab,ab,ab,ab,ab,ac,ac,ac,ab,ac,ac] rfl rfl (eH bz.out aM) (by decide) (fun K hK=>?_)
      refine gJ Try.func20 aM rfl #[.agg #[U Z wQ,U Z xu,U Z xU,U Z za,U Z zz,U Z Bt,U Z BK,.slice Fe xw.length Ff,.slice FH xV.length FI],.agg #[U Z uu,U Z vC,U Z vL,U Z wS,U Z xx,U Z xW,U Z zb],.agg #[U Z Vd,U Z Ve,U Z Vf,U Z Vg],U Z 0,.agg #[U Z 2,U Z 0]] (by rfl) rfl rfl ji ?_
      with_reducible refine (p9.calls wQ xu xU za zz Bt BK _ _ xw _ _ xV uu vC vL wS xx xW zb Vd Ve Vf Vg 0 2 0 M8 Pj Q9 Ua Pk _ ?cZ ?df ?eu ?eB A3.out).mono ?_
      (case cZ=>repeat (first|exact (Kd.gZ mV.out).2.2|(with_reducible refine Kd.bC ?_ _)|(with_reducible refine Kd.bD ?_ _)|(with_reducible refine Kd.bN ?_)))
      (case df=>exact (Kd.gZ mV.out).2.1)
      (case eu=>repeat (first|exact (Kd.gZ mW.out).2.2|(with_reducible refine Kd.bC ?_ _)|(with_reducible refine Kd.bD ?_ _)|(with_reducible refine Kd.bN ?_)))
      (case eB=>exact (Kd.gZ mW.out).2.1)
      rintro e w19 ⟨rfl,hb⟩
      refine ⟨_,rfl,?_⟩
      replace mV:=zt mV hb
      replace mW:=zt mW hb
      replace kQ:=aX kQ hb
      replace lH:=aX lH hb
      replace tQ:=aX tQ hb
      replace HB:=cO HB hb
      (try clear hb)
      (try clear hb2)
      (try clear hk)
      (try clear hi)
      refine hK.out _ _ (uw kQ.out (Mk lH.out)) (fun hHeld=>?_)
      clear hK K
      refine dM ajW ?_
      refine bV (i:=5) (N:=some 11) (ax bz.out aM) ?_
      refine bV (i:=6) (N:=some 17) (ax bz.out aM) ?_
      refine bV (i:=7) (N:=some 18) (ax bz.out aM) ?_
      exact dM M9 (hCont (ry) _ ⟨hHeld,ayP,ayQ,gB,gB,gB,VU.out,VV.out,eX.out,qB.out,gm.out,qC.out,gL⟩)
    ·skip
     refine nV ?hg (N:=3) ?hd (cs:=#[U Z 0,U Z 0,U Z 0,U Z 0]) (t:=31) ?hr ?_;(case hd=>rfl);(case hg=>rfl);(case hr=>first|(go_simp;done)|(go_simp;rfl))
     intro ry hg Fb hbox hb
     have tQ:=aa.mk (hbox)
     have VU:=bS HB hg
     have VV:=bS HB hg
     have eX:=eQ kQ hg
     have qB:=eT kQ hg
     have gm:=eQ lH hg
     have qC:=eT lH hg
     replace mV:=zt mV hb
     replace mW:=zt mW hb
     replace kQ:=aX kQ hb
     replace lH:=aX lH hb
     replace HB:=cO HB hb
     clear hb hbox hg
     refine hK.out _ _ (uw kQ.out (Mk lH.out)) (fun hHeld=>?_)
     clear hK K
     refine dM ayO ?_
     refine iO (i:=2) (N:=some 14) #[ab,ab,ab,ab,ac,ac,ac,ac,ab,ac,ac] rfl rfl (eH bz.out aM) (by decide) (fun K hK=>?_)
     refine gJ Try.func62 aM rfl #[U Z 2000,U Z 2000] (by rfl) rfl rfl ji ?_
     with_reducible refine (mF.calls 2000 2000 Vd Ve Vf Vg _ A2.out).mono ?_
     rintro e w18 ⟨rfl,hb⟩
     refine ⟨_,rfl,?_⟩
     replace mV:=zt mV hb
     replace mW:=zt mW hb
     replace kQ:=aX kQ hb
     replace lH:=aX lH hb
     replace tQ:=aX tQ hb
     replace HB:=cO HB hb
     (try clear hb)
     (try clear hb2)
     (try clear hk)
     (try clear hi)
     refine hK.out _ _ (uw kQ.out (Mk lH.out)) (fun hHeld=>?_)
     clear hK K
     refine dM amA ?_
     refine iO (i:=4) (N:=some 16) #[ab,ab,ab,ab,ab,ac,ac,ac,ab,ac,ac] rfl rfl (eH bz.out aM) (by decide) (fun K hK=>?_)
     refine gJ Try.func20 aM rfl #[.agg #[U Z wQ,U Z xu,U Z xU,U Z za,U Z zz,U Z Bt,U Z BK,.slice Fe xw.length Ff,.slice FH xV.length FI],.agg #[U Z uu,U Z vC,U Z vL,U Z wS,U Z xx,U Z xW,U Z zb],.agg #[U Z Vd,U Z Ve,U Z Vf,U Z Vg],U Z 0,.agg #[U Z 2,U Z 0]] (by rfl) rfl rfl ji ?_
     with_reducible refine (p9.calls wQ xu xU za zz Bt BK _ _ xw _ _ xV uu vC vL wS xx xW zb Vd Ve Vf Vg 0 2 0 M8 Pj Q9 Ua Pk _ ?cZ ?df ?eu ?eB A3.out).mono ?_
     (case cZ=>repeat (first|exact (Kd.gZ mV.out).2.2|(with_reducible refine Kd.bC ?_ _)|(with_reducible refine Kd.bD ?_ _)|(with_reducible refine Kd.bN ?_)))
     (case df=>exact (Kd.gZ mV.out).2.1)
     (case eu=>repeat (first|exact (Kd.gZ mW.out).2.2|(with_reducible refine Kd.bC ?_ _)|(with_reducible refine Kd.bD ?_ _)|(with_reducible refine Kd.bN ?_)))
     (case eB=>exact (Kd.gZ mW.out).2.1)
     rintro e w19 ⟨rfl,hb⟩
     refine ⟨_,rfl,?_⟩
     replace mV:=zt mV hb
     replace mW:=zt mW hb
     replace kQ:=aX kQ hb
     replace lH:=aX lH hb
     replace tQ:=aX tQ hb
     replace HB:=cO HB hb
     (try clear hb)
     (try clear hb2)
     (try clear hk)
     (try clear hi)
     refine hK.out _ _ (uw kQ.out (Mk lH.out)) (fun hHeld=>?_)
     clear hK K
     refine dM ajW ?_
     refine bV (i:=5) (N:=some 11) (ax bz.out aM) ?_
     refine bV (i:=6) (N:=some 17) (ax bz.out aM) ?_
     refine bV (i:=7) (N:=some 18) (ax bz.out aM) ?_
     exact dM M9 (hCont (ry) _ ⟨hHeld,ayP,ayQ,gB,gB,gB,VU.out,VV.out,eX.out,qB.out,gm.out,qC.out,gL⟩)
   rintro ry I4 ⟨hS_,h0_,h1_,h2_,h3_,h4_,h5_,h6_,h7_,h8_,h9_,Jo,Ub⟩
   have vD:aa (Kd.R Kd.bool 4 I4 w.heap.size (fun _=>True) (.slice Fe xw.length Ff) xw):=⟨h0_⟩
   have vE:aa (Kd.R GI 40 I4 w.heap.size (fun _=>True) (.slice FH xV.length FI) xV):=⟨h1_⟩
   have vF:aa (I4.heap[fe]? = some (.cells #[U Z wQ,U Z xu,U Z xU,U Z za,U Z zz,U Z Bt,U Z BK,.slice Fe xw.length Ff,.slice FH xV.length FI] 25 (0,0))):=⟨h2_⟩
   have vG:aa (I4.heap[gU]? = some (.cells #[U Z uu,U Z vC,U Z vL,U Z wS,U Z xx,U Z xW,U Z zb] 29 (0,0))):=⟨h3_⟩
   have vY:aa (I4.heap[ry]? = some (.cells #[U Z 0,U Z 0,U Z 0,U Z 0] 31 (0,0))):=⟨h4_⟩
   have BP:aa (w.heap.size≤ry):=⟨h5_⟩
   have Jc:aa (w.heap.size≤ry):=⟨h6_⟩
   have Ld:aa (fe≠ry):=⟨h7_⟩
   have n8_:aa (ry≠fe):=⟨h8_⟩
   have n9_:aa (gU≠ry):=⟨h9_⟩
   have Jp:aa (ry≠gU):=⟨Jo⟩
   have Uc:aa (Below w.heap.size w I4):=⟨Ub⟩
   clear mV mW kQ lH HB
   clear h0_ h1_ h2_ h3_ h4_ h5_ h6_ h7_ h8_ h9_ Jo Ub
   have mV:=vD
   have mW:=vE
   have kQ:=vF
   have lH:=vG
   have tQ:=vY
   have VU:=BP
   have VV:=Jc
   have eX:=Ld
   have qB:=n8_
   have gm:=n9_
   have qC:=Jp
   have HB:=Uc
   clear vD vE vF vG vY BP Jc Ld n8_ n9_ Jp Uc
   have hHeld:I4.cell? ⟨fe,0,none⟩ = some (U Z wQ)∧I4.cell? ⟨fe,1,none⟩ = some (U Z xu)∧I4.cell? ⟨fe,2,none⟩ = some (U Z xU)∧I4.cell? ⟨fe,3,none⟩ = some (U Z za)∧I4.cell? ⟨fe,4,none⟩ = some (U Z zz)∧I4.cell? ⟨fe,5,none⟩ = some (U Z Bt)∧I4.cell? ⟨fe,6,none⟩ = some (U Z BK)∧I4.cell? ⟨fe,7,none⟩ = some (.slice Fe xw.length Ff)∧I4.cell? ⟨fe,8,none⟩ = some (.slice FH xV.length FI)∧I4.cell? ⟨gU,0,none⟩ = some (U Z uu)∧I4.cell? ⟨gU,1,none⟩ = some (U Z vC)∧I4.cell? ⟨gU,2,none⟩ = some (U Z vL)∧I4.cell? ⟨gU,3,none⟩ = some (U Z wS)∧I4.cell? ⟨gU,4,none⟩ = some (U Z xx)∧I4.cell? ⟨gU,5,none⟩ = some (U Z xW)∧I4.cell? ⟨gU,6,none⟩ = some (U Z zb):=hS_
   refine dM (a':=?_) ?_ ?_
   rotate_left
   ·simp only [xC,Act.put,List.setIfInBounds_toArray,List.set_cons_zero,List.set_cons_succ]
    rfl
   refine iO (i:=9) (N:=none) #[ab,ab,ab,ab,ab,ab,ab,ab,ab,ab,ac] rfl rfl (eH bz.out aM) (by decide) (fun K hK=>?_)
   have aBO:I4.cell? ⟨ry,0,none⟩ = some (U Z 0):=(ah tQ.out 0).trans rfl
   have awt:=bf tQ.out 0
   have afB:=eX.out
   have afC:=gm.out
   have afD:=qB.out
   have afE:=qC.out
   have a6I:I4.cell? ⟨ry,1,none⟩ = some (U Z 0):=(ah tQ.out 1).trans rfl
   have a1M:=bf tQ.out 1
   have aOC:=eX.out
   have aOD:=gm.out
   have aOE:=qB.out
   have aOF:=qC.out
   have a6J:I4.cell? ⟨ry,2,none⟩ = some (U Z 0):=(ah tQ.out 2).trans rfl
   have a1N:=bf tQ.out 2
   have aOG:=eX.out
   have aOH:=gm.out
   have aOI:=qB.out
   have aOJ:=qC.out
   have a6K:I4.cell? ⟨ry,3,none⟩ = some (U Z 0):=(ah tQ.out 3).trans rfl
   have a1O:=bf tQ.out 3
   have aOK:=eX.out
   have aOL:=gm.out
   have aOM:=qB.out
   have aON:=qC.out
   refine ve (w1:=?_) (by rfl) rfl ?_ ?_
   rotate_left
   ·go_simp
    rfl
   refine hK.out _ _ ⟨(bY eX ((bY eX ((bY eX ((bY eX (hHeld.1)))))))),(bY eX ((bY eX ((bY eX ((bY eX (hHeld.2.1)))))))),(bY eX ((bY eX ((bY eX ((bY eX (hHeld.2.2.1)))))))),(bY eX ((bY eX ((bY eX ((bY eX (hHeld.2.2.2.1)))))))),(bY eX ((bY eX ((bY eX ((bY eX (hHeld.2.2.2.2.1)))))))),(bY eX ((bY eX ((bY eX ((bY eX (hHeld.2.2.2.2.2.1)))))))),(bY eX ((bY eX ((bY eX ((bY eX (hHeld.2.2.2.2.2.2.1)))))))),(bY eX ((bY eX ((bY eX ((bY eX (hHeld.2.2.2.2.2.2.2.1)))))))),(bY eX ((bY eX ((bY eX ((bY eX (hHeld.2.2.2.2.2.2.2.2.1)))))))),(bY gm ((bY gm ((bY gm ((bY gm (hHeld.2.2.2.2.2.2.2.2.2.1)))))))),(bY gm ((bY gm ((bY gm ((bY gm (hHeld.2.2.2.2.2.2.2.2.2.2.1)))))))),(bY gm ((bY gm ((bY gm ((bY gm (hHeld.2.2.2.2.2.2.2.2.2.2.2.1)))))))),(bY gm ((bY gm ((bY gm ((bY gm (hHeld.2.2.2.2.2.2.2.2.2.2.2.2.1)))))))),(bY gm ((bY gm ((bY gm ((bY gm (hHeld.2.2.2.2.2.2.2.2.2.2.2.2.2.1)))))))),(bY gm ((bY gm ((bY gm ((bY gm (hHeld.2.2.2.2.2.2.2.2.2.2.2.2.2.2.1)))))))),(bY gm ((bY gm ((bY gm ((bY gm (hHeld.2.2.2.2.2.2.2.2.2.2.2.2.2.2.2))))))))⟩ (fun hHeld=>?_)
   clear hK K
   refine bV (i:=10) (N:=some 4) (ax bz.out aM) ?_
   refine jS (ja bz.out aM) ?_
   have abu:=gm.out
   have abv:=qC.out
   obtain ⟨Xg,Xh,afF,afG,aqB,aqC,aqD,Xi,Xj,afH,afI,aqE,aqF,aqG⟩:=jF lH.out
   try go_wp2_with (first|((with_reducible refine aQ (f:=37) rfl ?_);refine dn (some 22) rfl rfl Try.func37 aM rfl #[.agg #[U Z uu,U Z vC,U Z vL,U Z wS,U Z xx,U Z xW,U Z zb],.agg #[U Z 300,U Z 310]] rfl ji ?_;(with_reducible refine (kP.calls k uu vC vL wS xx xW zb 300 310 ad8 ad9 _ A4.out).mono ?_);rintro e w27 ⟨rfl,hb⟩;refine ⟨_,rfl,?_⟩;have vD:=aa.mk (Kd.mH (by (with_reducible repeat (first|apply Kd.mY|apply Kd.mZ|apply Kd.mg));exact (Kd.mM (Kd.fA (p:=⟨ry,3,none⟩) (Kd.fA (p:=⟨ry,2,none⟩) (Kd.fA (p:=⟨ry,1,none⟩) (Kd.fA (p:=⟨ry,0,none⟩) (Kd.tZ mV.out tQ.out (by decide)) (fun _ hk=>hk.2) (U Z M8)) (fun _ hk=>hk.2) (U Z Pj)) (fun _ hk=>hk.2) (U Z Q9)) (fun _ hk=>hk.2) (U Z Ua)) (fun _ h_=>h_.1))) hb);have vE:=aa.mk (Kd.mH (by (with_reducible repeat (first|apply Kd.mY|apply Kd.mZ|apply Kd.mg));exact (Kd.mM (Kd.fA (p:=⟨ry,3,none⟩) (Kd.fA (p:=⟨ry,2,none⟩) (Kd.fA (p:=⟨ry,1,none⟩) (Kd.fA (p:=⟨ry,0,none⟩) (Kd.tZ mW.out tQ.out (by decide)) (fun _ hk=>hk.2) (U Z M8)) (fun _ hk=>hk.2) (U Z Pj)) (fun _ hk=>hk.2) (U Z Q9)) (fun _ hk=>hk.2) (U Z Ua)) (fun _ h_=>h_.1))) hb);have vF:=aX kQ hb;have vG:=aX lH hb;have vY:=aa.mk (aU (g:=ry) (o:=.cells #[U Z M8,U Z Pj,U Z Q9,U Z Ua] 31 (0,0)) (by (with_reducible repeat (first|refine av ?_ _|refine ag ?_|refine af ?_ _));refine aN (cs:=#[U Z M8,U Z Pj,U Z Q9,U Z 0]) ?_ 3 _ rfl;(with_reducible repeat (first|refine av ?_ _|refine ag ?_|refine af ?_ _));refine aN (cs:=#[U Z M8,U Z Pj,U Z 0,U Z 0]) ?_ 2 _ rfl;(with_reducible repeat (first|refine av ?_ _|refine ag ?_|refine af ?_ _));refine aN (cs:=#[U Z M8,U Z 0,U Z 0,U Z 0]) ?_ 1 _ rfl;(with_reducible repeat (first|refine av ?_ _|refine ag ?_|refine af ?_ _));refine aN (cs:=#[U Z 0,U Z 0,U Z 0,U Z 0]) ?_ 0 _ rfl;(with_reducible repeat (first|refine av ?_ _|refine ag ?_|refine af ?_ _));exact tQ.out) hb);have BP:=cO HB hb;clear mV;clear mW;clear kQ;clear lH;clear tQ;clear HB;have mV:=vD;have mW:=vE;have kQ:=vF;have lH:=vG;have tQ:=vY;have HB:=BP;clear vD vE vF vG vY BP;(try clear hb);(try clear hb2);(try clear hk);(try clear hi);have amC:=qB.out;have amD:=eX.out;obtain ⟨vZ,wh,AB,AJ,wm,wo,AL,AO⟩:=jc tQ.out))
   go_ret
   exact ⟨lW,gL⟩
  ·rw [if_neg c6] at H
   have GX:(ad8 == 3) = false:=beq_eq_false_iff_ne.mpr c6
   have aWW:(ad8 != 3) = true:=bne_iff_ne.mpr c6
   have hh_:=Option.some.inj H
   rw [hr_.out] at hh_
   cases hh_
 ·rw [if_neg c5] at H
  have DI:((wrap64 (Pk+ad9)) == 0) = false:=beq_eq_false_iff_ne.mpr c5
  have aj4:((wrap64 (Pk+ad9)) != 0) = true:=bne_iff_ne.mpr c5
  have hh_:=Option.some.inj H
  rw [hr_.out] at hh_
  cases hh_
def dz.f (ai:Int) (aj:Int) (a1:Int):Option (Int):=some (wrap64 (ai+(wrap64 (Int.tdiv (wrap64 ((wrap64 (aj - ai))*(wrap64 (a1)))) 65535))))
set_option maxHeartbeats 8000000 in
set_option maxRecDepth 100000 in
theorem dz.calls (ai:Int) (aj:Int) (a1:Int) (r:Int) (w:World) (h:dz.f ai aj a1 = some r):
 Calls Try.prog 33 #[.agg #[U Z ai,U Z aj],.int .u16 a1] w fun e w'=>e = .returned (U Z r)∧Below w.heap.size w w':=by
 have pz:=Try.underlying27
 have HB:=aa.mk (Below.refl w.heap.size w)
 have H:(some (wrap64 (ai+(wrap64 (Int.tdiv (wrap64 ((wrap64 (aj - ai))*(wrap64 (a1)))) 65535))))) = some r:=h
 clear h
 obtain rfl:=Option.some.inj H
 go_enter Try.func33,Try.ntmps33
 go_wp2_with (first|((with_reducible refine aA (N:=2) rfl ?_);refine au (by rfl) (N:=2) (by rfl) (cs:=#[U Z ai,U Z aj]) (t:=27) fG ?_;intro a1P hg w3 hbox hb;have aBP:=aa.mk (hbox);have a1Q:=bS HB hg;have a1R:=bS HB hg;replace HB:=cO HB hb;clear hb hbox hg;obtain ⟨Xk,Xl,Xm,Xn⟩:=iZ aBP.out))
 go_ret
 exact ⟨lW,gL⟩
end Go.Proofs.Ytmhaiihjfgfaoaa.Pr
end
