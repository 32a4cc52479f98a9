import Derived.Test.YtmhaiihjfgfaoaaGzGliderReaches3
import Derived.Test.YtmhaiihjfgfaoaaGzGliderReaches4
import Derived.Test.YtmhaiihjfgfaoaaGzGliderReaches5
import Derived.Test.YtmhaiihjfgfaoaaGzGliderReaches12
open Go.Value renaming int → U
open Go.IntKind renaming i64 → Z
open Bool renaming true → ab, false → ac
section
namespace Go.Proofs.Ytmhaiihjfgfaoaa.Pr
open Go.RowKit Go.Proofs.YtmhaiihjfgfaoaaW.PrintWords Go.Proofs.YtmhaiihjfgfaoaaW.PrintLast Go.Proofs.YtmhaiihjfgfaoaaW.PrintMore
attribute [local go_sem] eD eF fD fE eG
set_option linter.unusedVariables false
set_option linter.unusedSimpArgs false
attribute [local go_sem high] asD
def bG.f (k:Nat):Option (Bool):=(bY.f k).bind fun jL=>((kz.f 2000 2000).bind fun Cr=>((oC.f jL.1 jL.2.1 jL.2.2.1 jL.2.2.2.1 jL.2.2.2.2.1 jL.2.2.2.2.2.1 jL.2.2.2.2.2.2.1 jL.2.2.2.2.2.2.2.1 jL.2.2.2.2.2.2.2.2.1 jL.2.2.2.2.2.2.2.2.2.1 jL.2.2.2.2.2.2.2.2.2.2.1 jL.2.2.2.2.2.2.2.2.2.2.2.1 jL.2.2.2.2.2.2.2.2.2.2.2.2.1 jL.2.2.2.2.2.2.2.2.2.2.2.2.2.1 jL.2.2.2.2.2.2.2.2.2.2.2.2.2.2.1 jL.2.2.2.2.2.2.2.2.2.2.2.2.2.2.2 Cr.1 Cr.2.1 Cr.2.2.1 Cr.2.2.2 0 2 0).bind fun qQ=>((jw.f k jL.2.2.2.2.2.2.2.2.2.1 jL.2.2.2.2.2.2.2.2.2.2.1 jL.2.2.2.2.2.2.2.2.2.2.2.1 jL.2.2.2.2.2.2.2.2.2.2.2.2.1 jL.2.2.2.2.2.2.2.2.2.2.2.2.2.1 jL.2.2.2.2.2.2.2.2.2.2.2.2.2.2.1 jL.2.2.2.2.2.2.2.2.2.2.2.2.2.2.2 300 310).bind fun Cs=>(if (wrap64 (qQ.2.2.2.2+Cs.2)) = 0 then (if Cs.1 = 3 then (some ((qQ.1 == 2200 && (qQ.2.1 == 2400)) && ((qQ.2.2.1 == 2000 && (qQ.2.2.2.1 == 2000))))) else (some false)) else (some false)))))
theorem bG.mono:∀ k,nR (bG.f k) (bG.f (k+1)):=by
 intro k
 unfold bG.f
 repeat' first
  |(with_reducible exact jw.mono _ _ _ _ _ _ _ _ _ _)
  |(with_reducible exact bY.mono _)
  |(with_reducible exact nR.refl _)
  |(with_reducible exact nR.none _)
  |(with_reducible refine nR.ite ?_ ?_)
  |(with_reducible refine nR.bind ?_ (fun _=>?_))
  |exact jw.mono _ _ _ _ _ _ _ _ _ _
  |exact bY.mono _
  |exact nR.none _
  |refine nR.ite ?_ ?_
  |refine nR.bind ?_ (fun _=>?_)
def bG.T2:Bool × List (List Nat × List Nat):=(true,[([],[]),([],[]),([],[]),([],[]),([0,1,2,3,2],[0,1,2,3]),([4],[4]),([5],[5]),([5],[5]),([],[]),([8,6,4,0,1,2,3,4,5,6,8],[6,8]),([7,9,0,1,2,3,4,5,6,7,8,9],[7])])
def bG.B2:List Nat:=[0,0,0,0,15,31,63,63,0,383,1023]
theorem bG.ahK:qX .any (opsOf Try.f19 2) = bG.T2:=by kernel_rfl
theorem bG.XU:ou bG.T2.2 bG.B2 = true:=by kernel_rfl
set_option maxRecDepth 100000 in
theorem bG.asE:bG.f 60 = some true:=by kernel_rfl
set_option maxHeartbeats 8000000 in
set_option maxRecDepth 100000 in
theorem bG.calls (k:Nat) (r:Bool) (w:World) (h:bG.f k = some r):
 Calls Try.prog 19 #[] w fun e w'=>e = .returned (.bool r)∧Below w.heap.size w w':=by
 have hr_:aa (r = true):=⟨Option.some.inj ((Nr bG.mono (Nat.le_max_left k 60) h).symm.trans (Nr bG.mono (Nat.le_max_right k 60) bG.asE))⟩
 have zR:=Try.underlying25
 have Cb:=Try.underlying29
 have SH:=Try.underlying33
 have oP:=Try.underlying31
 have oo:=Try.underlying27
 have HB:=aa.mk (Below.refl w.heap.size w)
 have H:((bY.f k).bind fun jL=>((kz.f 2000 2000).bind fun Cr=>((oC.f jL.1 jL.2.1 jL.2.2.1 jL.2.2.2.1 jL.2.2.2.2.1 jL.2.2.2.2.2.1 jL.2.2.2.2.2.2.1 jL.2.2.2.2.2.2.2.1 jL.2.2.2.2.2.2.2.2.1 jL.2.2.2.2.2.2.2.2.2.1 jL.2.2.2.2.2.2.2.2.2.2.1 jL.2.2.2.2.2.2.2.2.2.2.2.1 jL.2.2.2.2.2.2.2.2.2.2.2.2.1 jL.2.2.2.2.2.2.2.2.2.2.2.2.2.1 jL.2.2.2.2.2.2.2.2.2.2.2.2.2.2.1 jL.2.2.2.2.2.2.2.2.2.2.2.2.2.2.2 Cr.1 Cr.2.1 Cr.2.2.1 Cr.2.2.2 0 2 0).bind fun qQ=>((jw.f k jL.2.2.2.2.2.2.2.2.2.1 jL.2.2.2.2.2.2.2.2.2.2.1 jL.2.2.2.2.2.2.2.2.2.2.2.1 jL.2.2.2.2.2.2.2.2.2.2.2.2.1 jL.2.2.2.2.2.2.2.2.2.2.2.2.2.1 jL.2.2.2.2.2.2.2.2.2.2.2.2.2.2.1 jL.2.2.2.2.2.2.2.2.2.2.2.2.2.2.2 300 310).bind fun Cs=>(if (wrap64 (qQ.2.2.2.2+Cs.2)) = 0 then (if Cs.1 = 3 then (some ((qQ.1 == 2200 && (qQ.2.1 == 2400)) && ((qQ.2.2.1 == 2000 && (qQ.2.2.2.1 == 2000))))) else (some false)) else (some false)))))) = some r:=h
 clear h
 replace H:=Option.bind_eq_some_iff.mp H
 obtain ⟨⟨uw,uT,vz,wC,wU,zH,zT,uU,vB,rA,sM,sP,uy,uV,vC,wD⟩,TH,H⟩:=H
 replace H:((kz.f 2000 2000).bind fun Cr=>((oC.f uw uT vz wC wU zH zT uU vB rA sM sP uy uV vC wD Cr.1 Cr.2.1 Cr.2.2.1 Cr.2.2.2 0 2 0).bind fun qQ=>((jw.f k rA sM sP uy uV vC wD 300 310).bind fun Cs=>(if (wrap64 (qQ.2.2.2.2+Cs.2)) = 0 then (if Cs.1 = 3 then (some ((qQ.1 == 2200 && (qQ.2.1 == 2400)) && ((qQ.2.2.1 == 2000 && (qQ.2.2.2.1 == 2000))))) else (some false)) else (some false))))) = some r:=H
 have A1:=aa.mk TH
 clear TH
 replace H:=Option.bind_eq_some_iff.mp H
 obtain ⟨⟨SN,SQ,SS,SV⟩,TC,H⟩:=H
 replace H:((oC.f uw uT vz wC wU zH zT uU vB rA sM sP uy uV vC wD SN SQ SS SV 0 2 0).bind fun qQ=>((jw.f k rA sM sP uy uV vC wD 300 310).bind fun Cs=>(if (wrap64 (qQ.2.2.2.2+Cs.2)) = 0 then (if Cs.1 = 3 then (some ((qQ.1 == 2200 && (qQ.2.1 == 2400)) && ((qQ.2.2.1 == 2000 && (qQ.2.2.2.1 == 2000))))) else (some false)) else (some false)))) = some r:=H
 have A2:=aa.mk TC
 clear TC
 replace H:=Option.bind_eq_some_iff.mp H
 obtain ⟨⟨Lf,NJ,PN,Rq,NK⟩,O5,H⟩:=H
 replace H:((jw.f k rA sM sP uy uV vC wD 300 310).bind fun Cs=>(if (wrap64 (NK+Cs.2)) = 0 then (if Cs.1 = 3 then (some ((Lf == 2200 && (NJ == 2400)) && ((PN == 2000 && (Rq == 2000))))) else (some false)) else (some false))) = some r:=H
 have A3:=aa.mk O5
 clear O5
 replace H:=Option.bind_eq_some_iff.mp H
 obtain ⟨⟨ZY,ZZ⟩,Kv,H⟩:=H
 replace H:(if (wrap64 (NK+ZZ)) = 0 then (if ZY = 3 then (some ((Lf == 2200 && (NJ == 2400)) && ((PN == 2000 && (Rq == 2000))))) else (some false)) else (some false)) = some r:=H
 have A4:=aa.mk Kv
 clear Kv
 by_cases c5:(wrap64 (NK+ZZ)) = 0
 ·rw [if_pos c5] at H
  have Ea:((wrap64 (NK+ZZ)) == 0) = true:=beq_iff_eq.mpr c5
  have afg:((wrap64 (NK+ZZ)) != 0) = false:=bne_eq_false_iff_eq.mpr c5
  clear c5
  by_cases c6:ZY = 3
  ·rw [if_pos c6] at H
   have Ld:(ZY == 3) = true:=beq_iff_eq.mpr c6
   have aOc:(ZY != 3) = false:=bne_eq_false_iff_eq.mpr c6
   clear c6
   obtain rfl:=Option.some.inj H
   go_enter Try.func19,Try.ntmps19
   try go_wp2_with (first|((with_reducible refine aN (f:=61) rfl ?_);refine bT (some 8) rfl rfl Try.func61 aY rfl #[] rfl iG ?_;(with_reducible refine (bY.calls k uw uT vz wC wU zH zT uU vB rA sM sP uy uV vC wD _ A1.out).mono ?_);rintro e w7 ⟨aTH,aTI,rfl,ho0,ho1,hb⟩;refine ⟨_,rfl,?_⟩;have kW:=aa.mk (Kd.jH ho0 (fJ fu));have kX:=aa.mk (Kd.jH ho1 (fJ fu));replace HB:=dw HB hb;(try clear hb);(try clear hb2);(try clear hk);(try clear hi);(try clear ho0);(try clear ho1))|((with_reducible refine aG (N:=1) rfl ?_);refine az (by rfl) (N:=1) (by rfl) (cs:=#[U Z 0,U Z 0,U Z 0,U Z 0,U Z 0,U Z 0,U Z 0,.slice none 0 0,.slice none 0 0]) (t:=25) fM ?_;intro dX hg w8 hbox hb;have jy:=aa.mk (hbox);have aQe:=dn HB hg;have aQf:=dn HB hg;replace kW:=uW kW hb;replace kX:=uW kX hb;replace HB:=dw HB hb;clear hb hbox hg)|((with_reducible refine aG (N:=2) rfl ?_);refine az (by rfl) (N:=2) (by rfl) (cs:=#[U Z 0,U Z 0,U Z 0,U Z 0,U Z 0,U Z 0,U Z 0]) (t:=29) fM ?_;intro fw hg w9 hbox hb;have jQ:=aa.mk (hbox);have aQg:=dn HB hg;have aQh:=dn HB hg;have uC:=iq jy hg;have qd:=iw jy hg;replace kW:=uW kW hb;replace kX:=uW kX hb;replace jy:=bC jy hb;replace HB:=dw HB hb;clear hb hbox hg;have ahL:=uC.out;have ahM:=qd.out;obtain ⟨uZ,u6,Aq,Ar,E9,Fa,Lg,P5,P6,u7,ve,Au,Av,Fb,Fe,Lh,P7,P8⟩:=iH jy.out;obtain ⟨DI,DJ,aOd⟩:=Kd.jI kW.out;subst aOd;obtain ⟨Eb,Ec,aOe⟩:=Kd.jI kX.out;subst aOe;obtain ⟨vg,vk,Ci,Cj,UT,UU,UW,vo,vv,Ck,Cm,UX,UY,UZ⟩:=jb jQ.out))
   have x9:aa (Kd.R Kd.bool 4 ((((((((((((((((w9.setCell ⟨dX,0,none⟩ (U Z uw)).setCell ⟨dX,1,none⟩ (U Z uT)).setCell ⟨dX,2,none⟩ (U Z vz)).setCell ⟨dX,3,none⟩ (U Z wC)).setCell ⟨dX,4,none⟩ (U Z wU)).setCell ⟨dX,5,none⟩ (U Z zH)).setCell ⟨dX,6,none⟩ (U Z zT)).setCell ⟨dX,7,none⟩ (.slice DI uU.length DJ)).setCell ⟨dX,8,none⟩ (.slice Eb vB.length Ec)).setCell ⟨fw,0,none⟩ (U Z rA)).setCell ⟨fw,1,none⟩ (U Z sM)).setCell ⟨fw,2,none⟩ (U Z sP)).setCell ⟨fw,3,none⟩ (U Z uy)).setCell ⟨fw,4,none⟩ (U Z uV)).setCell ⟨fw,5,none⟩ (U Z vC)).setCell ⟨fw,6,none⟩ (U Z wD)) w.heap.size (fun _=>True) (.slice DI uU.length DJ) uU):=⟨by (with_reducible repeat (first|apply Kd.jf|apply Kd.iQ|apply Kd.iE));exact Kd.jC (Kd.dM (p:=⟨fw,6,none⟩) (Kd.dM (p:=⟨fw,5,none⟩) (Kd.dM (p:=⟨fw,4,none⟩) (Kd.dM (p:=⟨fw,3,none⟩) (Kd.dM (p:=⟨fw,2,none⟩) (Kd.dM (p:=⟨fw,1,none⟩) (Kd.dM (p:=⟨fw,0,none⟩) (Kd.dM (p:=⟨dX,8,none⟩) (Kd.dM (p:=⟨dX,7,none⟩) (Kd.dM (p:=⟨dX,6,none⟩) (Kd.dM (p:=⟨dX,5,none⟩) (Kd.dM (p:=⟨dX,4,none⟩) (Kd.dM (p:=⟨dX,3,none⟩) (Kd.dM (p:=⟨dX,2,none⟩) (Kd.dM (p:=⟨dX,1,none⟩) (Kd.dM (p:=⟨dX,0,none⟩) (Kd.qw (Kd.qw kW.out jy.out (by decide)) jQ.out (by decide)) (fun _ hk=>hk.1.2) (U Z uw)) (fun _ hk=>hk.1.2) (U Z uT)) (fun _ hk=>hk.1.2) (U Z vz)) (fun _ hk=>hk.1.2) (U Z wC)) (fun _ hk=>hk.1.2) (U Z wU)) (fun _ hk=>hk.1.2) (U Z zH)) (fun _ hk=>hk.1.2) (U Z zT)) (fun _ hk=>hk.1.2) (.slice DI uU.length DJ)) (fun _ hk=>hk.1.2) (.slice Eb vB.length Ec)) (fun _ hk=>hk.2) (U Z rA)) (fun _ hk=>hk.2) (U Z sM)) (fun _ hk=>hk.2) (U Z sP)) (fun _ hk=>hk.2) (U Z uy)) (fun _ hk=>hk.2) (U Z uV)) (fun _ hk=>hk.2) (U Z vC)) (fun _ hk=>hk.2) (U Z wD)) (fun _ hk=>trivial)⟩
   have yc:aa (Kd.R DD 40 ((((((((((((((((w9.setCell ⟨dX,0,none⟩ (U Z uw)).setCell ⟨dX,1,none⟩ (U Z uT)).setCell ⟨dX,2,none⟩ (U Z vz)).setCell ⟨dX,3,none⟩ (U Z wC)).setCell ⟨dX,4,none⟩ (U Z wU)).setCell ⟨dX,5,none⟩ (U Z zH)).setCell ⟨dX,6,none⟩ (U Z zT)).setCell ⟨dX,7,none⟩ (.slice DI uU.length DJ)).setCell ⟨dX,8,none⟩ (.slice Eb vB.length Ec)).setCell ⟨fw,0,none⟩ (U Z rA)).setCell ⟨fw,1,none⟩ (U Z sM)).setCell ⟨fw,2,none⟩ (U Z sP)).setCell ⟨fw,3,none⟩ (U Z uy)).setCell ⟨fw,4,none⟩ (U Z uV)).setCell ⟨fw,5,none⟩ (U Z vC)).setCell ⟨fw,6,none⟩ (U Z wD)) w.heap.size (fun _=>True) (.slice Eb vB.length Ec) vB):=⟨by (with_reducible repeat (first|apply Kd.jf|apply Kd.iQ|apply Kd.iE));exact Kd.jC (Kd.dM (p:=⟨fw,6,none⟩) (Kd.dM (p:=⟨fw,5,none⟩) (Kd.dM (p:=⟨fw,4,none⟩) (Kd.dM (p:=⟨fw,3,none⟩) (Kd.dM (p:=⟨fw,2,none⟩) (Kd.dM (p:=⟨fw,1,none⟩) (Kd.dM (p:=⟨fw,0,none⟩) (Kd.dM (p:=⟨dX,8,none⟩) (Kd.dM (p:=⟨dX,7,none⟩) (Kd.dM (p:=⟨dX,6,none⟩) (Kd.dM (p:=⟨dX,5,none⟩) (Kd.dM (p:=⟨dX,4,none⟩) (Kd.dM (p:=⟨dX,3,none⟩) (Kd.dM (p:=⟨dX,2,none⟩) (Kd.dM (p:=⟨dX,1,none⟩) (Kd.dM (p:=⟨dX,0,none⟩) (Kd.qw (Kd.qw kX.out jy.out (by decide)) jQ.out (by decide)) (fun _ hk=>hk.1.2) (U Z uw)) (fun _ hk=>hk.1.2) (U Z uT)) (fun _ hk=>hk.1.2) (U Z vz)) (fun _ hk=>hk.1.2) (U Z wC)) (fun _ hk=>hk.1.2) (U Z wU)) (fun _ hk=>hk.1.2) (U Z zH)) (fun _ hk=>hk.1.2) (U Z zT)) (fun _ hk=>hk.1.2) (.slice DI uU.length DJ)) (fun _ hk=>hk.1.2) (.slice Eb vB.length Ec)) (fun _ hk=>hk.2) (U Z rA)) (fun _ hk=>hk.2) (U Z sM)) (fun _ hk=>hk.2) (U Z sP)) (fun _ hk=>hk.2) (U Z uy)) (fun _ hk=>hk.2) (U Z uV)) (fun _ hk=>hk.2) (U Z vC)) (fun _ hk=>hk.2) (U Z wD)) (fun _ hk=>trivial)⟩
   have yf:aa (((((((((((((((((w9.setCell ⟨dX,0,none⟩ (U Z uw)).setCell ⟨dX,1,none⟩ (U Z uT)).setCell ⟨dX,2,none⟩ (U Z vz)).setCell ⟨dX,3,none⟩ (U Z wC)).setCell ⟨dX,4,none⟩ (U Z wU)).setCell ⟨dX,5,none⟩ (U Z zH)).setCell ⟨dX,6,none⟩ (U Z zT)).setCell ⟨dX,7,none⟩ (.slice DI uU.length DJ)).setCell ⟨dX,8,none⟩ (.slice Eb vB.length Ec)).setCell ⟨fw,0,none⟩ (U Z rA)).setCell ⟨fw,1,none⟩ (U Z sM)).setCell ⟨fw,2,none⟩ (U Z sP)).setCell ⟨fw,3,none⟩ (U Z uy)).setCell ⟨fw,4,none⟩ (U Z uV)).setCell ⟨fw,5,none⟩ (U Z vC)).setCell ⟨fw,6,none⟩ (U Z wD)).heap[dX]? = some (.cells #[U Z uw,U Z uT,U Z vz,U Z wC,U Z wU,U Z zH,U Z zT,.slice DI uU.length DJ,.slice Eb vB.length Ec] 25 (0,0))):=⟨by (with_reducible repeat (first|refine au ?_ _|refine ag ?_|refine ae ?_ _));refine aj ?_ uC.out _;(with_reducible repeat (first|refine au ?_ _|refine ag ?_|refine ae ?_ _));refine aj ?_ uC.out _;(with_reducible repeat (first|refine au ?_ _|refine ag ?_|refine ae ?_ _));refine aj ?_ uC.out _;(with_reducible repeat (first|refine au ?_ _|refine ag ?_|refine ae ?_ _));refine aj ?_ uC.out _;(with_reducible repeat (first|refine au ?_ _|refine ag ?_|refine ae ?_ _));refine aj ?_ uC.out _;(with_reducible repeat (first|refine au ?_ _|refine ag ?_|refine ae ?_ _));refine aj ?_ uC.out _;(with_reducible repeat (first|refine au ?_ _|refine ag ?_|refine ae ?_ _));refine aj ?_ uC.out _;(with_reducible repeat (first|refine au ?_ _|refine ag ?_|refine ae ?_ _));refine aI (cs:=#[U Z uw,U Z uT,U Z vz,U Z wC,U Z wU,U Z zH,U Z zT,.slice DI uU.length DJ,.slice none 0 0]) ?_ 8 _ rfl;(with_reducible repeat (first|refine au ?_ _|refine ag ?_|refine ae ?_ _));refine aI (cs:=#[U Z uw,U Z uT,U Z vz,U Z wC,U Z wU,U Z zH,U Z zT,.slice none 0 0,.slice none 0 0]) ?_ 7 _ rfl;(with_reducible repeat (first|refine au ?_ _|refine ag ?_|refine ae ?_ _));refine aI (cs:=#[U Z uw,U Z uT,U Z vz,U Z wC,U Z wU,U Z zH,U Z 0,.slice none 0 0,.slice none 0 0]) ?_ 6 _ rfl;(with_reducible repeat (first|refine au ?_ _|refine ag ?_|refine ae ?_ _));refine aI (cs:=#[U Z uw,U Z uT,U Z vz,U Z wC,U Z wU,U Z 0,U Z 0,.slice none 0 0,.slice none 0 0]) ?_ 5 _ rfl;(with_reducible repeat (first|refine au ?_ _|refine ag ?_|refine ae ?_ _));refine aI (cs:=#[U Z uw,U Z uT,U Z vz,U Z wC,U Z 0,U Z 0,U Z 0,.slice none 0 0,.slice none 0 0]) ?_ 4 _ rfl;(with_reducible repeat (first|refine au ?_ _|refine ag ?_|refine ae ?_ _));refine aI (cs:=#[U Z uw,U Z uT,U Z vz,U Z 0,U Z 0,U Z 0,U Z 0,.slice none 0 0,.slice none 0 0]) ?_ 3 _ rfl;(with_reducible repeat (first|refine au ?_ _|refine ag ?_|refine ae ?_ _));refine aI (cs:=#[U Z uw,U Z uT,U Z 0,U Z 0,U Z 0,U Z 0,U Z 0,.slice none 0 0,.slice none 0 0]) ?_ 2 _ rfl;(with_reducible repeat (first|refine au ?_ _|refine ag ?_|refine ae ?_ _));refine aI (cs:=#[U Z uw,U Z 0,U Z 0,U Z 0,U Z 0,U Z 0,U Z 0,.slice none 0 0,.slice none 0 0]) ?_ 1 _ rfl;(with_reducible repeat (first|refine au ?_ _|refine ag ?_|refine ae ?_ _));refine aI (cs:=#[U Z 0,U Z 0,U Z 0,U Z 0,U Z 0,U Z 0,U Z 0,.slice none 0 0,.slice none 0 0]) ?_ 0 _ rfl;(with_reducible repeat (first|refine au ?_ _|refine ag ?_|refine ae ?_ _));exact jy.out⟩
   have yg:aa (((((((((((((((((w9.setCell ⟨dX,0,none⟩ (U Z uw)).setCell ⟨dX,1,none⟩ (U Z uT)).setCell ⟨dX,2,none⟩ (U Z vz)).setCell ⟨dX,3,none⟩ (U Z wC)).setCell ⟨dX,4,none⟩ (U Z wU)).setCell ⟨dX,5,none⟩ (U Z zH)).setCell ⟨dX,6,none⟩ (U Z zT)).setCell ⟨dX,7,none⟩ (.slice DI uU.length DJ)).setCell ⟨dX,8,none⟩ (.slice Eb vB.length Ec)).setCell ⟨fw,0,none⟩ (U Z rA)).setCell ⟨fw,1,none⟩ (U Z sM)).setCell ⟨fw,2,none⟩ (U Z sP)).setCell ⟨fw,3,none⟩ (U Z uy)).setCell ⟨fw,4,none⟩ (U Z uV)).setCell ⟨fw,5,none⟩ (U Z vC)).setCell ⟨fw,6,none⟩ (U Z wD)).heap[fw]? = some (.cells #[U Z rA,U Z sM,U Z sP,U Z uy,U Z uV,U Z vC,U Z wD] 29 (0,0))):=⟨by (with_reducible repeat (first|refine au ?_ _|refine ag ?_|refine ae ?_ _));refine aI (cs:=#[U Z rA,U Z sM,U Z sP,U Z uy,U Z uV,U Z vC,U Z 0]) ?_ 6 _ rfl;(with_reducible repeat (first|refine au ?_ _|refine ag ?_|refine ae ?_ _));refine aI (cs:=#[U Z rA,U Z sM,U Z sP,U Z uy,U Z uV,U Z 0,U Z 0]) ?_ 5 _ rfl;(with_reducible repeat (first|refine au ?_ _|refine ag ?_|refine ae ?_ _));refine aI (cs:=#[U Z rA,U Z sM,U Z sP,U Z uy,U Z 0,U Z 0,U Z 0]) ?_ 4 _ rfl;(with_reducible repeat (first|refine au ?_ _|refine ag ?_|refine ae ?_ _));refine aI (cs:=#[U Z rA,U Z sM,U Z sP,U Z 0,U Z 0,U Z 0,U Z 0]) ?_ 3 _ rfl;(with_reducible repeat (first|refine au ?_ _|refine ag ?_|refine ae ?_ _));refine aI (cs:=#[U Z rA,U Z sM,U Z 0,U Z 0,U Z 0,U Z 0,U Z 0]) ?_ 2 _ rfl;(with_reducible repeat (first|refine au ?_ _|refine ag ?_|refine ae ?_ _));refine aI (cs:=#[U Z rA,U Z 0,U Z 0,U Z 0,U Z 0,U Z 0,U Z 0]) ?_ 1 _ rfl;(with_reducible repeat (first|refine au ?_ _|refine ag ?_|refine ae ?_ _));refine aI (cs:=#[U Z 0,U Z 0,U Z 0,U Z 0,U Z 0,U Z 0,U Z 0]) ?_ 0 _ rfl;(with_reducible repeat (first|refine au ?_ _|refine ag ?_|refine ae ?_ _));refine aj ?_ qd.out _;(with_reducible repeat (first|refine au ?_ _|refine ag ?_|refine ae ?_ _));refine aj ?_ qd.out _;(with_reducible repeat (first|refine au ?_ _|refine ag ?_|refine ae ?_ _));refine aj ?_ qd.out _;(with_reducible repeat (first|refine au ?_ _|refine ag ?_|refine ae ?_ _));refine aj ?_ qd.out _;(with_reducible repeat (first|refine au ?_ _|refine ag ?_|refine ae ?_ _));refine aj ?_ qd.out _;(with_reducible repeat (first|refine au ?_ _|refine ag ?_|refine ae ?_ _));refine aj ?_ qd.out _;(with_reducible repeat (first|refine au ?_ _|refine ag ?_|refine ae ?_ _));refine aj ?_ qd.out _;(with_reducible repeat (first|refine au ?_ _|refine ag ?_|refine ae ?_ _));refine aj ?_ qd.out _;(with_reducible repeat (first|refine au ?_ _|refine ag ?_|refine ae ?_ _));refine aj ?_ qd.out _;(with_reducible repeat (first|refine au ?_ _|refine ag ?_|refine ae ?_ _));exact jQ.out⟩
   have Bf:aa (Below w.heap.size w ((((((((((((((((w9.setCell ⟨dX,0,none⟩ (U Z uw)).setCell ⟨dX,1,none⟩ (U Z uT)).setCell ⟨dX,2,none⟩ (U Z vz)).setCell ⟨dX,3,none⟩ (U Z wC)).setCell ⟨dX,4,none⟩ (U Z wU)).setCell ⟨dX,5,none⟩ (U Z zH)).setCell ⟨dX,6,none⟩ (U Z zT)).setCell ⟨dX,7,none⟩ (.slice DI uU.length DJ)).setCell ⟨dX,8,none⟩ (.slice Eb vB.length Ec)).setCell ⟨fw,0,none⟩ (U Z rA)).setCell ⟨fw,1,none⟩ (U Z sM)).setCell ⟨fw,2,none⟩ (U Z sP)).setCell ⟨fw,3,none⟩ (U Z uy)).setCell ⟨fw,4,none⟩ (U Z uV)).setCell ⟨fw,5,none⟩ (U Z vC)).setCell ⟨fw,6,none⟩ (U Z wD))):=⟨fu⟩
   (try clear kW)
   (try clear kX)
   (try clear jy)
   (try clear jQ)
   (try clear HB)
   generalize ((((((((((((((((w9.setCell ⟨dX,0,none⟩ (U Z uw)).setCell ⟨dX,1,none⟩ (U Z uT)).setCell ⟨dX,2,none⟩ (U Z vz)).setCell ⟨dX,3,none⟩ (U Z wC)).setCell ⟨dX,4,none⟩ (U Z wU)).setCell ⟨dX,5,none⟩ (U Z zH)).setCell ⟨dX,6,none⟩ (U Z zT)).setCell ⟨dX,7,none⟩ (.slice DI uU.length DJ)).setCell ⟨dX,8,none⟩ (.slice Eb vB.length Ec)).setCell ⟨fw,0,none⟩ (U Z rA)).setCell ⟨fw,1,none⟩ (U Z sM)).setCell ⟨fw,2,none⟩ (U Z sP)).setCell ⟨fw,3,none⟩ (U Z uy)).setCell ⟨fw,4,none⟩ (U Z uV)).setCell ⟨fw,5,none⟩ (U Z vC)).setCell ⟨fw,6,none⟩ (U Z wD)) = w15 at x9 yc yf yg Bf ⊢
   have kW:=x9
   have kX:=yc
   have jy:=yf
   have jQ:=yg
   have HB:=Bf
   clear x9 yc yf yg Bf
   replace kW:=aa.mk (Kd.iE kW.out)
   replace kX:=aa.mk (Kd.iE kX.out)
   replace jy:=aa.mk (ag jy.out)
   replace jQ:=aa.mk (ag jQ.out)
   replace HB:=aa.mk (bU HB.out)
   refine jT (n:=11) (S:=fun w'=>w'.cell? ⟨dX,0,none⟩ = some (U Z uw)∧w'.cell? ⟨dX,1,none⟩ = some (U Z uT)∧w'.cell? ⟨dX,2,none⟩ = some (U Z vz)∧w'.cell? ⟨dX,3,none⟩ = some (U Z wC)∧w'.cell? ⟨dX,4,none⟩ = some (U Z wU)∧w'.cell? ⟨dX,5,none⟩ = some (U Z zH)∧w'.cell? ⟨dX,6,none⟩ = some (U Z zT)∧w'.cell? ⟨dX,7,none⟩ = some (.slice DI uU.length DJ)∧w'.cell? ⟨dX,8,none⟩ = some (.slice Eb vB.length Ec)∧w'.cell? ⟨fw,0,none⟩ = some (U Z rA)∧w'.cell? ⟨fw,1,none⟩ = some (U Z sM)∧w'.cell? ⟨fw,2,none⟩ = some (U Z sP)∧w'.cell? ⟨fw,3,none⟩ = some (U Z uy)∧w'.cell? ⟨fw,4,none⟩ = some (U Z uV)∧w'.cell? ⟨fw,5,none⟩ = some (U Z vC)∧w'.cell? ⟨fw,6,none⟩ = some (U Z wD)) (ds:=[]) #[ac,ac,ac,ac,ac,ac,ac,ac,ac,ac,ac] aY rfl rfl (BI jy.out (Hr jQ.out)) (fun hHeld=>?_);refine jg bG.ahK bG.XU (fun cO lS=>?_)
   generalize w15.drew = w16 at kW kX jy jQ HB hHeld ⊢
   refine dW (i:=3) (N:=some 15) (aU cO.out aY) ?_
   refine ja (i:=0) (N:=some 12) (bS cO.out lS.out aY) hHeld ?_
   refine ja (i:=1) (N:=some 13) (bS cO.out lS.out aY) hHeld ?_
   refine aa8 (σ:=Nat) 2 #[ab,ab,ab,ab,ab,ab,ab,ab,ab,ac,ac] (fun s_=>[(14,.agg #[U Z SN,U Z SQ,U Z SS,U Z SV]),(16,.tuple #[.agg #[U Z Lf,U Z NJ,U Z PN,U Z Rq],U Z NK]),(3,.pointer (some ⟨s_,0,none⟩)),(11,.tuple #[.agg #[U Z Lf,U Z NJ,U Z PN,U Z Rq],U Z NK]),(17,.agg #[U Z Lf,U Z NJ,U Z PN,U Z Rq]),(18,U Z NK)]) (fun s_ w'=>(w'.cell? ⟨dX,0,none⟩ = some (U Z uw)∧w'.cell? ⟨dX,1,none⟩ = some (U Z uT)∧w'.cell? ⟨dX,2,none⟩ = some (U Z vz)∧w'.cell? ⟨dX,3,none⟩ = some (U Z wC)∧w'.cell? ⟨dX,4,none⟩ = some (U Z wU)∧w'.cell? ⟨dX,5,none⟩ = some (U Z zH)∧w'.cell? ⟨dX,6,none⟩ = some (U Z zT)∧w'.cell? ⟨dX,7,none⟩ = some (.slice DI uU.length DJ)∧w'.cell? ⟨dX,8,none⟩ = some (.slice Eb vB.length Ec)∧w'.cell? ⟨fw,0,none⟩ = some (U Z rA)∧w'.cell? ⟨fw,1,none⟩ = some (U Z sM)∧w'.cell? ⟨fw,2,none⟩ = some (U Z sP)∧w'.cell? ⟨fw,3,none⟩ = some (U Z uy)∧w'.cell? ⟨fw,4,none⟩ = some (U Z uV)∧w'.cell? ⟨fw,5,none⟩ = some (U Z vC)∧w'.cell? ⟨fw,6,none⟩ = some (U Z wD))∧(Kd.R Kd.bool 4 w' w.heap.size (fun _=>True) (.slice DI uU.length DJ) uU)∧(Kd.R DD 40 w' w.heap.size (fun _=>True) (.slice Eb vB.length Ec) vB)∧(w'.heap[dX]? = some (.cells #[U Z uw,U Z uT,U Z vz,U Z wC,U Z wU,U Z zH,U Z zT,.slice DI uU.length DJ,.slice Eb vB.length Ec] 25 (0,0)))∧(w'.heap[fw]? = some (.cells #[U Z rA,U Z sM,U Z sP,U Z uy,U Z uV,U Z vC,U Z wD] 29 (0,0)))∧(w'.heap[s_]? = some (.cells #[U Z 0,U Z 0,U Z 0,U Z 0] 31 (0,0)))∧(w.heap.size≤s_)∧(w.heap.size≤s_)∧(dX≠s_)∧(s_≠dX)∧(fw≠s_)∧(s_≠fw)∧(Below w.heap.size w w')) ?_ ?_
   rotate_left
   ·intro hCont
    refine afa (i:=2) (j:=8) (Ni:=some 14) (Nj:=some 3) #[ab,ab,ab,ab,ac,ac,ac,ac,ac,ac,ac] #[ab,ab,ac,ab,ac,ac,ac,ac,ab,ac,ac] rfl rfl rfl rfl (U0 cO.out aY) (by decide) (by decide) (fun K hK=>?_) (fun K hK=>?_)
    ·skip
     refine gQ Try.func62 aY rfl #[U Z 2000,U Z 2000] (by rfl) rfl rfl iG ?_
     with_reducible refine (kz.calls 2000 2000 SN SQ SS SV _ A2.out).mono ?_
     rintro e w17 ⟨rfl,hb⟩
     refine ⟨_,rfl,?_⟩
     replace kW:=uW kW hb
     replace kX:=uW kX hb
     replace jy:=bC jy hb
     replace jQ:=bC jQ hb
     replace HB:=dw HB hb
     (try clear hb)
     (try clear hb2)
     (try clear hk)
     (try clear hi)
     refine hK.out _ _ (BI jy.out (Hr jQ.out)) (fun hHeld=>?_)
     clear hK K
     refine eY ahN ?_
     refine afa (i:=4) (j:=8) (Ni:=some 16) (Nj:=some 3) #[ab,ab,ab,ab,ab,ac,ac,ac,ac,ac,ac] #[ab,ab,ab,ab,ac,ac,ac,ac,ab,ac,ac] rfl rfl rfl rfl (U0 cO.out aY) (by decide) (by decide) (fun K hK=>?_) (fun K hK=>?_)
     ·skip
      refine gQ Try.func20 aY rfl #[.agg #[U Z uw,U Z uT,U Z vz,U Z wC,U Z wU,U Z zH,U Z zT,.slice DI uU.length DJ,.slice Eb vB.length Ec],.agg #[U Z rA,U Z sM,U Z sP,U Z uy,U Z uV,U Z vC,U Z wD],.agg #[U Z SN,U Z SQ,U Z SS,U Z SV],U Z 0,.agg #[U Z 2,U Z 0]] (by rfl) rfl rfl iG ?_
      with_reducible refine (oC.calls uw uT vz wC wU zH zT _ _ uU _ _ vB rA sM sP uy uV vC wD SN SQ SS SV 0 2 0 Lf NJ PN Rq NK _ ?df ?dh ?dK ?dL A3.out).mono ?_
      (case df=>repeat (first|exact (Kd.fo kW.out).2.2|(with_reducible refine Kd.bA ?_ _)|(with_reducible refine Kd.bB ?_ _)|(with_reducible refine Kd.bQ ?_)))
      (case dh=>exact (Kd.fo kW.out).2.1)
      (case dK=>repeat (first|exact (Kd.fo kX.out).2.2|(with_reducible refine Kd.bA ?_ _)|(with_reducible refine Kd.bB ?_ _)|(with_reducible refine Kd.bQ ?_)))
      (case dL=>exact (Kd.fo kX.out).2.1)
      rintro e w18 ⟨rfl,hb⟩
      refine ⟨_,rfl,?_⟩
      replace kW:=uW kW hb
      replace kX:=uW kX hb
      replace jy:=bC jy hb
      replace jQ:=bC jQ hb
      replace HB:=dw HB hb
      (try clear hb)
      (try clear hb2)
      (try clear hk)
      (try clear hi)
      refine hK.out _ _ (BI jy.out (Hr jQ.out)) (fun hHeld=>?_)
      clear hK K
      refine eY afe ?_
      refine dW (i:=5) (N:=some 11) (aU cO.out aY) ?_
      refine dW (i:=6) (N:=some 17) (aU cO.out aY) ?_
      refine dW (i:=7) (N:=some 18) (aU cO.out aY) ?_
      refine jJ (i:=8) (N:=some 3) #[ab,ab,ab,ab,ab,ab,ab,ab,ab,ac,ac] rfl rfl (gM cO.out aY) (by decide) (fun K hK=>?_)
      refine D5 ?hg (N:=3) ?hd (cs:=#[U Z 0,U Z 0,U Z 0,U Z 0]) (t:=31) ?hr ?_;(case hd=>rfl);(case hg=>rfl);(case hr=>first|(go_simp;done)|(go_simp;rfl))
      intro pE hg w19 hbox hb
      have qR:=aa.mk (hbox)
      have TI:=dn HB hg
      have TJ:=dn HB hg
      have dS:=iq jy hg
      have o8:=iw jy hg
      have eX:=iq jQ hg
      have o9:=iw jQ hg
      replace kW:=uW kW hb
      replace kX:=uW kX hb
      replace jy:=bC jy hb
      replace jQ:=bC jQ hb
      replace HB:=dw HB hb
      clear hb hbox hg
      refine hK.out _ _ (BI jy.out (Hr jQ.out)) (fun hHeld=>?_)
      clear hK K
      refine eY auZ ?_
      exact eY afh (hCont (pE) _ ⟨hHeld,au0,au1,fB,fB,fB,TI.out,TJ.out,dS.out,o8.out,eX.out,o9.out,fu⟩)
     ·skip
      refine D5 ?hg (N:=3) ?hd (cs:=#[U Z 0,U Z 0,U Z 0,U Z 0]) (t:=31) ?hr ?_;(case hd=>rfl);(case hg=>rfl);(case hr=>first|(go_simp;done)|(go_simp;rfl))
      intro pE hg w18 hbox hb
      have qR:=aa.mk (hbox)
      have TI:=dn HB hg
      have TJ:=dn HB hg
      have dS:=iq jy hg
      have o8:=iw jy hg
      have eX:=iq jQ hg
      have o9:=iw jQ hg
      replace kW:=uW kW hb
      replace kX:=uW kX hb
      replace jy:=bC jy hb
      replace jQ:=bC jQ hb
      replace HB:=dw HB hb
      clear hb hbox hg
      refine hK.out _ _ (BI jy.out (Hr jQ.out)) (fun hHeld=>?_)
      clear hK K
      refine eY auZ ?_
      refine jJ (i:=4) (N:=some 16) #[ab,ab,ab,ab,ab,ac,ac,ac,ab,ac,ac] rfl rfl (gM cO.out aY) (by decide) (fun K hK=>?_)
      refine gQ Try.func20 aY rfl #[.agg #[U Z uw,U Z uT,U Z vz,U Z wC,U Z wU,U Z zH,U Z zT,.slice DI uU.length DJ,.slice Eb vB.length Ec],.agg #[U Z rA,U Z sM,U Z sP,U Z uy,U Z uV,U Z vC,U Z wD],.agg #[U Z SN,U Z SQ,U Z SS,U Z SV],U Z 0,.agg #[U Z 2,U Z 0]] (by rfl) rfl rfl iG ?_
      with_reducible refine (oC.calls uw uT vz wC wU zH zT _ _ uU _ _ vB rA sM sP uy uV vC wD SN SQ SS SV 0 2 0 Lf NJ PN Rq NK _ ?df ?dh ?dK ?dL A3.out).mono ?_
      (case df=>repeat (first|exact (Kd.fo kW.out).2.2|(with_reducible refine Kd.bA ?_ _)|(with_reducible refine Kd.bB ?_ _)|(with_reducible refine Kd.bQ ?_)))
      (case dh=>exact (Kd.fo kW.out).2.1)
      (case dK=>repeat (first|exact (Kd.fo kX.out).2.2|(with_reducible refine Kd.bA ?_ _)|(with_reducible refine Kd.bB ?_ _)|(with_reducible refine Kd.bQ ?_)))
      (case dL=>exact (Kd.fo kX.out).2.1)
      rintro e w19 ⟨rfl,hb⟩
      refine ⟨_,rfl,?_⟩
      replace kW:=uW kW hb
      replace kX:=uW kX hb
      replace jy:=bC jy hb
      replace jQ:=bC jQ hb
      replace qR:=bC qR hb
      replace HB:=dw HB hb
      (try clear hb)
      (try clear hb2)
      (try clear hk)
      (try clear hi)
      refine hK.out _ _ (BI jy.out (Hr jQ.out)) (fun hHeld=>?_)
      clear hK K
      refine eY afe ?_
      refine dW (i:=5) (N:=some 11) (aU cO.out aY) ?_
      refine dW (i:=6) (N:=some 17) (aU cO.out aY) ?_
      refine dW (i:=7) (N:=some 18) (aU cO.out aY) ?_
      exact eY afh (hCont (pE) _ ⟨hHeld,au0,au1,fB,fB,fB,TI.out,TJ.out,dS.out,o8.out,eX.out,o9.out,fu⟩)
    ·skip
     refine D5 ?hg (N:=3) ?hd (cs:=#[U Z 0,U Z 0,U Z 0,U Z 0]) (t:=31) ?hr ?_;(case hd=>rfl);(case hg=>rfl);(case hr=>first|(go_simp;done)|(go_simp;rfl))
     intro pE hg w17 hbox hb
     have qR:=aa.mk (hbox)
     have TI:=dn HB hg
     have TJ:=dn HB hg
     have dS:=iq jy hg
     have o8:=iw jy hg
     have eX:=iq jQ hg
     have o9:=iw jQ hg
     replace kW:=uW kW hb
     replace kX:=uW kX hb
     replace jy:=bC jy hb
     replace jQ:=bC jQ hb
     replace HB:=dw HB hb
     clear hb hbox hg
     refine hK.out _ _ (BI jy.out (Hr jQ.out)) (fun hHeld=>?_)
     clear hK K
     refine eY auZ ?_
     refine jJ (i:=2) (N:=some 14) #[ab,ab,ab,ab,ac,ac,ac,ac,ab,ac,ac] rfl rfl (gM cO.out aY) (by decide) (fun K hK=>?_)
     refine gQ Try.func62 aY rfl #[U Z 2000,U Z 2000] (by rfl) rfl rfl iG ?_
     with_reducible refine (kz.calls 2000 2000 SN SQ SS SV _ A2.out).mono ?_
     rintro e w18 ⟨rfl,hb⟩
     refine ⟨_,rfl,?_⟩
     replace kW:=uW kW hb
     replace kX:=uW kX hb
     replace jy:=bC jy hb
     replace jQ:=bC jQ hb
     replace qR:=bC qR hb
     replace HB:=dw HB hb
     (try clear hb)
     (try clear hb2)
     (try clear hk)
     (try clear hi)
     refine hK.out _ _ (BI jy.out (Hr jQ.out)) (fun hHeld=>?_)
     clear hK K
     refine eY ahN ?_
     refine jJ (i:=4) (N:=some 16) #[ab,ab,ab,ab,ab,ac,ac,ac,ab,ac,ac] rfl rfl (gM cO.out aY) (by decide) (fun K hK=>?_)
     refine gQ Try.func20 aY rfl #[.agg #[U Z uw,U Z uT,U Z vz,U Z wC,U Z wU,U Z zH,U Z zT,.slice DI uU.length DJ,.slice Eb vB.length Ec],.agg #[U Z rA,U Z sM,U Z sP,U Z uy,U Z uV,U Z vC,U Z wD],.agg #[U Z SN,U Z SQ,U Z SS,U Z SV],U Z 0,.agg #[U Z 2,U Z 0]] (by rfl) rfl rfl iG ?_
     with_reducible refine (oC.calls uw uT vz wC wU zH zT _ _ uU _ _ vB rA sM sP uy uV vC wD SN SQ SS SV 0 2 0 Lf NJ PN Rq NK _ ?df ?dh ?dK ?dL A3.out).mono ?_
     (case df=>repeat (first|exact (Kd.fo kW.out).2.2|(with_reducible refine Kd.bA ?_ _)|(with_reducible refine Kd.bB ?_ _)|(with_reducible refine Kd.bQ ?_)))
     (case dh=>exact (Kd.fo kW.out).2.1)
     (case dK=>repeat (first|exact (Kd.fo kX.out).2.2|(with_reducible refine Kd.bA ?_ _)|(with_reducible refine Kd.bB ?_ _)|(with_reducible refine Kd.bQ ?_)))
     (case dL=>exact (Kd.fo kX.out).2.1)
     rintro e w19 ⟨rfl,hb⟩
     refine ⟨_,rfl,?_⟩
     replace kW:=uW kW hb
     replace kX:=uW kX hb
     replace jy:=bC jy hb
     replace jQ:=bC jQ hb
     replace qR:=bC qR hb
     replace HB:=dw HB hb
     (try clear hb)
     (try clear hb2)
     (try clear hk)
     (try clear hi)
     refine hK.out _ _ (BI jy.out (Hr jQ.out)) (fun hHeld=>?_)
     clear hK K
     refine eY afe ?_
     refine dW (i:=5) (N:=some 11) (aU cO.out aY) ?_
     refine dW (i:=6) (N:=some 17) (aU cO.out aY) ?_
     refine dW (i:=7) (N:=some 18) (aU cO.out aY) ?_
     exact eY afh (hCont (pE) _ ⟨hHeld,au0,au1,fB,fB,fB,TI.out,TJ.out,dS.out,o8.out,eX.out,o9.out,fu⟩)
   rintro pE GZ ⟨hS_,h0_,h1_,h2_,h3_,h4_,h5_,h6_,h7_,h8_,h9_,ahO,ahP⟩
   have x9:aa (Kd.R Kd.bool 4 GZ w.heap.size (fun _=>True) (.slice DI uU.length DJ) uU):=⟨h0_⟩
   have yc:aa (Kd.R DD 40 GZ w.heap.size (fun _=>True) (.slice Eb vB.length Ec) vB):=⟨h1_⟩
   have yf:aa (GZ.heap[dX]? = some (.cells #[U Z uw,U Z uT,U Z vz,U Z wC,U Z wU,U Z zH,U Z zT,.slice DI uU.length DJ,.slice Eb vB.length Ec] 25 (0,0))):=⟨h2_⟩
   have yg:aa (GZ.heap[fw]? = some (.cells #[U Z rA,U Z sM,U Z sP,U Z uy,U Z uV,U Z vC,U Z wD] 29 (0,0))):=⟨h3_⟩
   have Bf:aa (GZ.heap[pE]? = some (.cells #[U Z 0,U Z 0,U Z 0,U Z 0] 31 (0,0))):=⟨h4_⟩
   have Li:aa (w.heap.size≤pE):=⟨h5_⟩
   have Zw:aa (w.heap.size≤pE):=⟨h6_⟩
   have n7_:aa (dX≠pE):=⟨h7_⟩
   have n8_:aa (pE≠dX):=⟨h8_⟩
   have n9_:aa (fw≠pE):=⟨h9_⟩
   have ahQ:aa (pE≠fw):=⟨ahO⟩
   have ahR:aa (Below w.heap.size w GZ):=⟨ahP⟩
   clear kW kX jy jQ HB
   clear h0_ h1_ h2_ h3_ h4_ h5_ h6_ h7_ h8_ h9_ ahO ahP
   have kW:=x9
   have kX:=yc
   have jy:=yf
   have jQ:=yg
   have qR:=Bf
   have TI:=Li
   have TJ:=Zw
   have dS:=n7_
   have o8:=n8_
   have eX:=n9_
   have o9:=ahQ
   have HB:=ahR
   clear x9 yc yf yg Bf Li Zw n7_ n8_ n9_ ahQ ahR
   have hHeld:GZ.cell? ⟨dX,0,none⟩ = some (U Z uw)∧GZ.cell? ⟨dX,1,none⟩ = some (U Z uT)∧GZ.cell? ⟨dX,2,none⟩ = some (U Z vz)∧GZ.cell? ⟨dX,3,none⟩ = some (U Z wC)∧GZ.cell? ⟨dX,4,none⟩ = some (U Z wU)∧GZ.cell? ⟨dX,5,none⟩ = some (U Z zH)∧GZ.cell? ⟨dX,6,none⟩ = some (U Z zT)∧GZ.cell? ⟨dX,7,none⟩ = some (.slice DI uU.length DJ)∧GZ.cell? ⟨dX,8,none⟩ = some (.slice Eb vB.length Ec)∧GZ.cell? ⟨fw,0,none⟩ = some (U Z rA)∧GZ.cell? ⟨fw,1,none⟩ = some (U Z sM)∧GZ.cell? ⟨fw,2,none⟩ = some (U Z sP)∧GZ.cell? ⟨fw,3,none⟩ = some (U Z uy)∧GZ.cell? ⟨fw,4,none⟩ = some (U Z uV)∧GZ.cell? ⟨fw,5,none⟩ = some (U Z vC)∧GZ.cell? ⟨fw,6,none⟩ = some (U Z wD):=hS_
   refine eY (a':=?_) ?_ ?_
   rotate_left
   ·simp only [Dz,Act.put,List.setIfInBounds_toArray,List.set_cons_zero,List.set_cons_succ]
    rfl
   refine jJ (i:=9) (N:=none) #[ab,ab,ab,ab,ab,ab,ab,ab,ab,ab,ac] rfl rfl (gM cO.out aY) (by decide) (fun K hK=>?_)
   have aOg:GZ.cell? ⟨pE,0,none⟩ = some (U Z 0):=(af qR.out 0).trans rfl
   have axG:=bn qR.out 0
   have akM:=dS.out
   have akN:=eX.out
   have akO:=o8.out
   have akP:=o9.out
   have aTJ:GZ.cell? ⟨pE,1,none⟩ = some (U Z 0):=(af qR.out 1).trans rfl
   have aQi:=bn qR.out 1
   have aFN:=dS.out
   have aFO:=eX.out
   have aFP:=o8.out
   have aFQ:=o9.out
   have aTK:GZ.cell? ⟨pE,2,none⟩ = some (U Z 0):=(af qR.out 2).trans rfl
   have aQj:=bn qR.out 2
   have aFR:=dS.out
   have aFS:=eX.out
   have aFT:=o8.out
   have aFU:=o9.out
   have aTL:GZ.cell? ⟨pE,3,none⟩ = some (U Z 0):=(af qR.out 3).trans rfl
   have aQk:=bn qR.out 3
   have aFV:=dS.out
   have aFW:=eX.out
   have aFX:=o8.out
   have aFY:=o9.out
   refine zD (w1:=?_) (by rfl) rfl ?_ ?_
   rotate_left
   ·go_simp
    rfl
   refine hK.out _ _ ⟨(fO dS ((fO dS ((fO dS ((fO dS (hHeld.1)))))))),(fO dS ((fO dS ((fO dS ((fO dS (hHeld.2.1)))))))),(fO dS ((fO dS ((fO dS ((fO dS (hHeld.2.2.1)))))))),(fO dS ((fO dS ((fO dS ((fO dS (hHeld.2.2.2.1)))))))),(fO dS ((fO dS ((fO dS ((fO dS (hHeld.2.2.2.2.1)))))))),(fO dS ((fO dS ((fO dS ((fO dS (hHeld.2.2.2.2.2.1)))))))),(fO dS ((fO dS ((fO dS ((fO dS (hHeld.2.2.2.2.2.2.1)))))))),(fO dS ((fO dS ((fO dS ((fO dS (hHeld.2.2.2.2.2.2.2.1)))))))),(fO dS ((fO dS ((fO dS ((fO dS (hHeld.2.2.2.2.2.2.2.2.1)))))))),(fO eX ((fO eX ((fO eX ((fO eX (hHeld.2.2.2.2.2.2.2.2.2.1)))))))),(fO eX ((fO eX ((fO eX ((fO eX (hHeld.2.2.2.2.2.2.2.2.2.2.1)))))))),(fO eX ((fO eX ((fO eX ((fO eX (hHeld.2.2.2.2.2.2.2.2.2.2.2.1)))))))),(fO eX ((fO eX ((fO eX ((fO eX (hHeld.2.2.2.2.2.2.2.2.2.2.2.2.1)))))))),(fO eX ((fO eX ((fO eX ((fO eX (hHeld.2.2.2.2.2.2.2.2.2.2.2.2.2.1)))))))),(fO eX ((fO eX ((fO eX ((fO eX (hHeld.2.2.2.2.2.2.2.2.2.2.2.2.2.2.1)))))))),(fO eX ((fO eX ((fO eX ((fO eX (hHeld.2.2.2.2.2.2.2.2.2.2.2.2.2.2.2))))))))⟩ (fun hHeld=>?_)
   clear hK K
   refine dW (i:=10) (N:=some 4) (aU cO.out aY) ?_
   refine lI (lN cO.out aY) ?_
   have aQl:=eX.out
   have aQm:=o9.out
   obtain ⟨abf,abg,akQ,akR,aFZ,aF0,aF1,abh,abj,akS,akT,aF2,aF3,aF4⟩:=jb jQ.out
   try go_wp2_with (first|((with_reducible refine aN (f:=37) rfl ?_);refine bT (some 22) rfl rfl Try.func37 aY rfl #[.agg #[U Z rA,U Z sM,U Z sP,U Z uy,U Z uV,U Z vC,U Z wD],.agg #[U Z 300,U Z 310]] rfl iG ?_;(with_reducible refine (jw.calls k rA sM sP uy uV vC wD 300 310 ZY ZZ _ A4.out).mono ?_);rintro e w27 ⟨rfl,hb⟩;refine ⟨_,rfl,?_⟩;have x9:=aa.mk (Kd.lD (by (with_reducible repeat (first|apply Kd.jf|apply Kd.iQ|apply Kd.iE));exact (Kd.jC (Kd.dM (p:=⟨pE,3,none⟩) (Kd.dM (p:=⟨pE,2,none⟩) (Kd.dM (p:=⟨pE,1,none⟩) (Kd.dM (p:=⟨pE,0,none⟩) (Kd.qw kW.out qR.out (by decide)) (fun _ hk=>hk.2) (U Z Lf)) (fun _ hk=>hk.2) (U Z NJ)) (fun _ hk=>hk.2) (U Z PN)) (fun _ hk=>hk.2) (U Z Rq)) (fun _ h_=>h_.1))) hb);have yc:=aa.mk (Kd.lD (by (with_reducible repeat (first|apply Kd.jf|apply Kd.iQ|apply Kd.iE));exact (Kd.jC (Kd.dM (p:=⟨pE,3,none⟩) (Kd.dM (p:=⟨pE,2,none⟩) (Kd.dM (p:=⟨pE,1,none⟩) (Kd.dM (p:=⟨pE,0,none⟩) (Kd.qw kX.out qR.out (by decide)) (fun _ hk=>hk.2) (U Z Lf)) (fun _ hk=>hk.2) (U Z NJ)) (fun _ hk=>hk.2) (U Z PN)) (fun _ hk=>hk.2) (U Z Rq)) (fun _ h_=>h_.1))) hb);have yf:=bC jy hb;have yg:=bC jQ hb;have Bf:=aa.mk (av (g:=pE) (o:=.cells #[U Z Lf,U Z NJ,U Z PN,U Z Rq] 31 (0,0)) (by (with_reducible repeat (first|refine au ?_ _|refine ag ?_|refine ae ?_ _));refine aI (cs:=#[U Z Lf,U Z NJ,U Z PN,U Z 0]) ?_ 3 _ rfl;(with_reducible repeat (first|refine au ?_ _|refine ag ?_|refine ae ?_ _));refine aI (cs:=#[U Z Lf,U Z NJ,U Z 0,U Z 0]) ?_ 2 _ rfl;(with_reducible repeat (first|refine au ?_ _|refine ag ?_|refine ae ?_ _));refine aI (cs:=#[U Z Lf,U Z 0,U Z 0,U Z 0]) ?_ 1 _ rfl;(with_reducible repeat (first|refine au ?_ _|refine ag ?_|refine ae ?_ _));refine aI (cs:=#[U Z 0,U Z 0,U Z 0,U Z 0]) ?_ 0 _ rfl;(with_reducible repeat (first|refine au ?_ _|refine ag ?_|refine ae ?_ _));exact qR.out) hb);have Li:=dw HB hb;clear kW;clear kX;clear jy;clear jQ;clear qR;clear HB;have kW:=x9;have kX:=yc;have jy:=yf;have jQ:=yg;have qR:=Bf;have HB:=Li;clear x9 yc yf yg Bf Li;(try clear hb);(try clear hb2);(try clear hk);(try clear hi);have ahS:=o8.out;have ahT:=dS.out;obtain ⟨qB,qC,sV,sW,qD,qE,sZ,tq⟩:=gD qR.out))
   go_ret
   exact ⟨kL,fu⟩
  ·rw [if_neg c6] at H
   have Ld:(ZY == 3) = false:=beq_eq_false_iff_ne.mpr c6
   have aOc:(ZY != 3) = true:=bne_iff_ne.mpr c6
   have TK:=Option.some.inj H
   rw [hr_.out] at TK
   cases TK
 ·rw [if_neg c5] at H
  have Ea:((wrap64 (NK+ZZ)) == 0) = false:=beq_eq_false_iff_ne.mpr c5
  have afg:((wrap64 (NK+ZZ)) != 0) = true:=bne_iff_ne.mpr c5
  have TK:=Option.some.inj H
  rw [hr_.out] at TK
  cases TK
def fG.f (ah:Int) (ai:Int) (ax:Int) (ay:Int) (aK:Int) (aH:Int) (aJ:Int) (aR:List Bool) (aC:List (oV)):Option (Bool):=if (aR.length:Int) > 200 then (some true) else (some (decide ((aC.length:Int) > 3000)))
set_option maxHeartbeats 8000000 in
set_option maxRecDepth 100000 in
theorem fG.calls (ah:Int) (ai:Int) (ax:Int) (ay:Int) (aK:Int) (aH:Int) (aJ:Int) (dG:Option Addr) (dH:Nat) (aR:List Bool) (dJ:Option Addr) (dI:Nat) (aC:List (oV)) (r:Bool) (w:World) (iU:Kd.C Kd.bool w dG aR.length aR) (iV:aR.length≤dH) (iW:Kd.C DD w dJ aC.length aC) (iX:aC.length≤dI) (h:fG.f ah ai ax ay aK aH aJ aR aC = some r):
 Calls Try.prog 22 #[.agg #[U Z ah,U Z ai,U Z ax,U Z ay,U Z aK,U Z aH,U Z aJ,.slice dG aR.length dH,.slice dJ aC.length dI]] w fun e w'=>e = .returned (.bool r)∧Below w.heap.size w w':=by
 have zR:=Try.underlying25
 have gq:=aa.mk iU
 have gu:=aa.mk iV
 clear iU iV
 have fH:=aa.mk iW
 have gz:=aa.mk iX
 clear iW iX
 have HB:=aa.mk (Below.refl w.heap.size w)
 have H:(if (aR.length:Int) > 200 then (some true) else (some (decide ((aC.length:Int) > 3000)))) = some r:=h
 clear h
 by_cases c2:(aR.length:Int) > 200
 ·rw [if_pos c2] at H
  have Rs:decide (200 < (aR.length:Int)) = true:=decide_eq_true c2
  have akU:decide (200 < aR.length) = true:=decide_eq_true (by omega)
  clear c2
  obtain rfl:=Option.some.inj H
  go_enter Try.func22,Try.ntmps22
  go_wp2_with (first|((with_reducible refine aG (N:=1) rfl ?_);(try (refine qU (by rfl) ?_;dsimp only));refine az (by rfl) (N:=1) (by rfl) (cs:=#[U Z ah,U Z ai,U Z ax,U Z ay,U Z aK,U Z aH,U Z aJ,.slice dG aR.length dH,.slice dJ aC.length dI]) (t:=25) fM ?_;intro axH hg w3 hbox hb;have ahU:=aa.mk (hbox);have axI:=dn HB hg;have axJ:=dn HB hg;replace HB:=dw HB hb;clear hb hbox hg;obtain ⟨Z0,Z4,ahV,ahW,au3,au4,au5,aOh,aOi,Z5,Z6,ahX,ahY,au6,au7,au8,aOj,aOk⟩:=iH ahU.out))
  go_ret
  exact ⟨kL,fu⟩
 ·rw [if_neg c2] at H
  have Rs:decide (200 < (aR.length:Int)) = false:=decide_eq_false c2
  have akU:decide (200 < aR.length) = false:=decide_eq_false (by omega)
  clear c2
  obtain rfl:=Option.some.inj H
  go_enter Try.func22,Try.ntmps22
  go_wp2_with (first|((with_reducible refine aG (N:=1) rfl ?_);(try (refine qU (by rfl) ?_;dsimp only));refine az (by rfl) (N:=1) (by rfl) (cs:=#[U Z ah,U Z ai,U Z ax,U Z ay,U Z aK,U Z aH,U Z aJ,.slice dG aR.length dH,.slice dJ aC.length dI]) (t:=25) fM ?_;intro axH hg w5 hbox hb;have ahU:=aa.mk (hbox);have axI:=dn HB hg;have axJ:=dn HB hg;replace HB:=dw HB hb;clear hb hbox hg;obtain ⟨au9,ava,avb,avc,avd,ave,avf,avg,avh,avi,avj,avk,avl,avm,avn,avo,avp,avq⟩:=iH ahU.out))
  go_ret
  exact ⟨kL,fu⟩
end Go.Proofs.Ytmhaiihjfgfaoaa.Pr
end
