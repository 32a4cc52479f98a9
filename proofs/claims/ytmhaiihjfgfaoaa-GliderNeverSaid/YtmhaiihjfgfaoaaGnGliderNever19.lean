import Derived.Test.YtmhaiihjfgfaoaaGnGliderNever3
import Derived.Test.YtmhaiihjfgfaoaaGnGliderNever6
import Derived.Test.YtmhaiihjfgfaoaaGnGliderNever15
import Derived.Test.YtmhaiihjfgfaoaaGnGliderNever18
set_option linter.unusedSimpArgs false
set_option linter.unusedVariables false
open Go.Value renaming int → Z
open Go.IntKind renaming i64 → ab
open Bool renaming true → ac, false → al
section
namespace Go.Proofs.Ytmhaiihjfgfaoaa.Pr
open Go.RowKit Go.Proofs.YtmhaiihjfgfaoaaW.PrintWords Go.Proofs.YtmhaiihjfgfaoaaW.PrintLast Go.Proofs.YtmhaiihjfgfaoaaW.PrintMore
attribute [local go_sem] dw dx dM dN dz
set_option linter.unusedVariables false
set_option linter.unusedSimpArgs false
def eT.f (ax:Int) (av:Int) (bq:Int) (bz:Int):Option (Int × Int × Bool):=some (mx ax bq,mn av bz,decide ((mx ax bq)≤(mn av bz)))
def eT.T2:Bool × List (List Nat × List Nat):=(true,[([],[]),([],[]),([1],[1]),([],[]),([3],[3]),([2,4],[2,4]),([0,0],[0]),([5,6,0,1,2,3,4,5,6],[5])])
def eT.B2:List Nat:=[0,0,2,0,8,30,1,127]
theorem eT.apm:uo .any (opsOf Try.f138 2) = eT.T2:=by kernel_rfl
theorem eT.ahi:vR eT.T2.2 eT.B2 = true:=by kernel_rfl
set_option maxHeartbeats 8000000 in
set_option maxRecDepth 100000 in
theorem eT.calls (ax:Int) (av:Int) (bq:Int) (bz:Int) (r1:Int) (r2:Int) (r3:Bool) (w:World) (h:eT.f ax av bq bz = some (r1,r2,r3)):
 Calls Try.prog 138 #[.agg #[Z ab ax,Z ab av],.agg #[Z ab bq,Z ab bz]] w fun e w'=>e = .returned (.tuple #[.agg #[Z ab r1,Z ab r2],.bool r3])∧Below w.heap.size w w':=by
 have mE:=Try.underlying27
 have HB:=ag.mk (Below.refl w.heap.size w)
 have H:(some (mx ax bq,mn av bz,decide ((mx ax bq)≤(mn av bz)))) = some (r1,r2,r3):=h
 clear h
 obtain ⟨ym,FU⟩:∃ j_:Int,(mx ax bq) = j_:=⟨_,rfl⟩
 replace H:(some (ym,mn av bz,decide ((ym)≤(mn av bz)))) = some (r1,r2,r3):=by first|(rw [FU] at H;exact H)|(simp only [FU] at H ⊢;exact H)
 have anv:(if ax < bq then bq else ax) = ym:=FU
 obtain ⟨R7,Ti⟩:∃ j_:Int,(mn av bz) = j_:=⟨_,rfl⟩
 replace H:(some (ym,R7,decide ((ym)≤(R7)))) = some (r1,r2,r3):=by first|(rw [Ti] at H;exact H)|(simp only [Ti] at H ⊢;exact H)
 have aqN:(if bz < av then bz else av) = R7:=Ti
 simp only [Option.some.injEq,Prod.mk.injEq] at H
 obtain ⟨rfl,rfl,rfl⟩:=H
 go_enter Try.func138,Try.ntmps138
 try go_wp2_with (first|((with_reducible refine aI (N:=2) rfl ?_);refine aC (by rfl) (N:=2) (by rfl) (cs:=#[Z ab ax,Z ab av]) (t:=27) gu ?_;intro arF hg w5 hbox hb;have qZ:=ag.mk (hbox);have aGr:=cB HB hg;have aGs:=cB HB hg;replace HB:=cK HB hb;clear hb hbox hg)|((with_reducible refine aI (N:=3) rfl ?_);refine aC (by rfl) (N:=3) (by rfl) (cs:=#[Z ab bq,Z ab bz]) (t:=27) gu ?_;intro arG hg w6 hbox hb;have wH:=ag.mk (hbox);have aGt:=cB HB hg;have aGu:=cB HB hg;have afV:=l6 qZ hg;have afW:=l9 qZ hg;replace qZ:=bJ qZ hb;replace HB:=cK HB hb;clear hb hbox hg)|((with_reducible refine aI (N:=4) rfl ?_);refine aC (by rfl) (N:=4) (by rfl) (cs:=#[Z ab 0,Z ab 0]) (t:=27) gu ?_;intro adG hg w7 hbox hb;have wI:=ag.mk (hbox);have aGv:=cB HB hg;have aGw:=cB HB hg;have Kl:=l6 qZ hg;have Km:=l9 qZ hg;have Kn:=l6 wH hg;have Ko:=l9 wH hg;replace qZ:=bJ qZ hb;replace wH:=bJ wH hb;replace HB:=cK HB hb;clear hb hbox hg;have arH:=afV.out;have arI:=afW.out;have aCg:=Kl.out;have aCh:=Km.out;obtain ⟨DL,DN,DR,DT⟩:=iq qZ.out;have agK:=Kn.out;have agL:=Ko.out;obtain ⟨vK,vL,vM,vN⟩:=iq wH.out)|((with_reducible refine aI (N:=6) rfl ?_);refine aC (by rfl) (N:=6) (by rfl) (cs:=#[Z ab 0,Z ab 0]) (t:=27) gu ?_;intro vk hg Yq hbox hb;have Gq:=ag.mk (hbox);have aGx:=cB HB hg;have aGy:=cB HB hg;have afX:=l6 qZ hg;have afY:=l9 qZ hg;have afZ:=l6 wH hg;have af0:=l9 wH hg;have Kq:=l6 wI hg;have rG:=l9 wI hg;replace qZ:=bJ qZ hb;replace wH:=bJ wH hb;replace wI:=bJ wI hb;replace HB:=cK HB hb;clear hb hbox hg;have arJ:=afY.out;have arK:=afX.out;have anN:=af0.out;have anO:=afZ.out;have ahq:=rG.out;have ahr:=Kq.out;obtain ⟨rU,rV,rW,rX⟩:=iq Gq.out))
 have Lu:ag (((Yq.setCell ⟨vk,0,none⟩ (Z ab ym)).setCell ⟨vk,1,none⟩ (Z ab R7)).heap[arF]? = some (.cells #[Z ab ax,Z ab av] 27 (0,0))):=⟨iU⟩
 have Lv:ag (((Yq.setCell ⟨vk,0,none⟩ (Z ab ym)).setCell ⟨vk,1,none⟩ (Z ab R7)).heap[arG]? = some (.cells #[Z ab bq,Z ab bz] 27 (0,0))):=⟨iU⟩
 have Lx:ag (((Yq.setCell ⟨vk,0,none⟩ (Z ab ym)).setCell ⟨vk,1,none⟩ (Z ab R7)).heap[adG]? = some (.cells #[Z ab 0,Z ab 0] 27 (0,0))):=⟨iU⟩
 have LA:ag (((Yq.setCell ⟨vk,0,none⟩ (Z ab ym)).setCell ⟨vk,1,none⟩ (Z ab R7)).heap[vk]? = some (.cells #[Z ab ym,Z ab R7] 27 (0,0))):=⟨by (with_reducible repeat (first|refine aA ?_ _|refine au ?_|refine aa ?_ _));refine az (cs:=#[Z ab ym,Z ab 0]) ?_ 1 _ rfl;(with_reducible repeat (first|refine aA ?_ _|refine au ?_|refine aa ?_ _));refine az (cs:=#[Z ab 0,Z ab 0]) ?_ 0 _ rfl;(with_reducible repeat (first|refine aA ?_ _|refine au ?_|refine aa ?_ _));exact Gq.out⟩
 have n4_:ag (Below w.heap.size w ((Yq.setCell ⟨vk,0,none⟩ (Z ab ym)).setCell ⟨vk,1,none⟩ (Z ab R7))):=⟨eZ⟩
 (try clear qZ)
 (try clear wH)
 (try clear wI)
 (try clear Gq)
 (try clear HB)
 generalize ((Yq.setCell ⟨vk,0,none⟩ (Z ab ym)).setCell ⟨vk,1,none⟩ (Z ab R7)) = w18 at Lu Lv Lx LA n4_ ⊢
 have qZ:=Lu
 have wH:=Lv
 have wI:=Lx
 have Gq:=LA
 have HB:=n4_
 clear Lu Lv Lx LA n4_
 replace qZ:=ag.mk (au qZ.out)
 replace wH:=ag.mk (au wH.out)
 replace wI:=ag.mk (au wI.out)
 replace Gq:=ag.mk (au Gq.out)
 replace HB:=ag.mk (bf HB.out)
 refine lh (n:=8) (S:=fun w'=>w'.cell? ⟨vk,0,none⟩ = some (Z ab ym)∧w'.cell? ⟨vk,1,none⟩ = some (Z ab R7)) (ds:=[]) #[al,al,al,al,al,al,al,al] aT rfl rfl ⟨zcm Gq 0,zcm Gq 1⟩ (fun hHeld=>?_);refine rD eT.apm eT.ahi (fun eH zV=>?_)
 generalize w18.drew = w19 at qZ wH wI Gq HB hHeld ⊢
 refine dG (i:=1) (N:=some 19) (bC eH.out aT) ?_
 refine dG (i:=3) (N:=some 21) (bC eH.out aT) ?_
 refine iy (i:=0) (N:=some 18) (dL eH.out zV.out aT) hHeld ?_
 refine iy (i:=2) (N:=some 20) (dL eH.out zV.out aT) hHeld ?_
 refine iy (i:=4) (N:=some 22) (dL eH.out zV.out aT) hHeld ?_
 refine dG (i:=5) (N:=some 23) (bC eH.out aT) ?_
 refine jC (i:=6) (N:=none) #[ac,ac,ac,ac,ac,ac,ac,al] rfl rfl (mI eH.out aT) (by decide) (fun K hK=>?_)
 have aKd:w19.cell? ⟨adG,0,none⟩ = some (Z ab 0):=(ae wI.out 0).trans rfl
 have aGA:=aK wI.out 0
 have aws:=Kl.out
 have awt:=Kn.out
 have awu:=rG.out
 have awv:=Km.out
 have aww:=Ko.out
 have awx:=Kq.out
 have aCc:w19.cell? ⟨adG,1,none⟩ = some (Z ab 0):=(ae wI.out 1).trans rfl
 have arv:=aK wI.out 1
 have akR:=Kl.out
 have akS:=Kn.out
 have awy:=rG.out
 have akT:=Km.out
 have akU:=Ko.out
 have awz:=Kq.out
 refine qp (w1:=?_) (by rfl) rfl ?_ ?_
 rotate_left
 ·go_simp
  rfl
 refine hK.out _ _ ⟨(o7 rG ((o7 rG (hHeld.1)))),(o7 rG ((o7 rG (hHeld.2))))⟩ (fun hHeld=>?_)
 clear hK K
 refine dG (i:=7) (N:=some 5) (bC eH.out aT) ?_
 refine ma (zW eH.out aT) ?_
 try go_wp2
 refine bodyPost_ret (kZ rfl _ _ adG 27 #[Z ab ym,Z ab R7] (0,0) _ rfl (by (with_reducible repeat (first|refine aA ?_ _|refine au ?_|refine aa ?_ _));refine az (cs:=#[Z ab ym,Z ab 0]) ?_ 1 _ rfl;(with_reducible repeat (first|refine aA ?_ _|refine au ?_|refine aa ?_ _));refine az (cs:=#[Z ab 0,Z ab 0]) ?_ 0 _ rfl;(with_reducible repeat (first|refine aA ?_ _|refine au ?_|refine aa ?_ _));exact wI.out) Try.underlying27 rfl aT) rfl ?_
 exact ⟨by first|rfl|(simp [ic,ig] <;> rfl)|(simp only [← FU,← Ti];first|rfl|(simp [ic,ig] <;> rfl))|(simp [*,ic,ig] <;> rfl),eZ⟩
attribute [local go_sem high] ahs
def Cz.f (k:Nat) (ax:Int) (av:Int) (bq:Int) (bz:Int):Option (Int × Int):=(bA.f k (([(⟨ax,av⟩:gm),(⟨bq,bz⟩:gm)]:List (gm)))).bind fun yF=>(if yF = 0 then ((eT.f ax av bq bz).bind fun vo=>(if vo.2.2 = true then (if (vo.1 == ax && (vo.2.1 == av)) = true then (some (2,0)) else (some (1,0))) else (some (0,0)))) else (some (0,yF)))
set_option maxHeartbeats 8000000 in
set_option maxRecDepth 100000 in
theorem Cz.calls (k:Nat) (ax:Int) (av:Int) (bq:Int) (bz:Int) (r1:Int) (r2:Int) (w:World) (h:Cz.f k ax av bq bz = some (r1,r2)):
 Calls Try.prog 128 #[.agg #[Z ab ax,Z ab av],.agg #[Z ab bq,Z ab bz]] w fun e w'=>e = .returned (.tuple #[Z ab r1,Z ab r2])∧Below w.heap.size w w':=by
 have mE:=Try.underlying27
 have HB:=ag.mk (Below.refl w.heap.size w)
 have H:((bA.f k (([(⟨ax,av⟩:gm),(⟨bq,bz⟩:gm)]:List (gm)))).bind fun yF=>(if yF = 0 then ((eT.f ax av bq bz).bind fun vo=>(if vo.2.2 = true then (if (vo.1 == ax && (vo.2.1 == av)) = true then (some (2,0)) else (some (1,0))) else (some (0,0)))) else (some (0,yF)))) = some (r1,r2):=h
 clear h
 obtain ⟨Uy,YR⟩:∃ y_:List (gm),y_ = (([(⟨ax,av⟩:gm),(⟨bq,bz⟩:gm)]:List (gm))):=⟨_,rfl⟩
 replace H:((bA.f k Uy).bind fun yF=>(if yF = 0 then ((eT.f ax av bq bz).bind fun vo=>(if vo.2.2 = true then (if (vo.1 == ax && (vo.2.1 == av)) = true then (some (2,0)) else (some (1,0))) else (some (0,0)))) else (some (0,yF)))) = some (r1,r2):=by first|(rw [YR];with_reducible exact H)|(have TL:=(Option.bind_some _ _).symm.trans H;rw [YR];with_reducible exact TL)|(have TL:=(Option.bind_some _ _).symm.trans H;with_reducible exact TL)|with_reducible exact H|(rw [YR];exact H)|exact H
 have K8:=ag.mk YR
 clear YR
 replace H:=Option.bind_eq_some_iff.mp H
 obtain ⟨yF,A30,H⟩:=H
 replace H:(if yF = 0 then ((eT.f ax av bq bz).bind fun vo=>(if vo.2.2 = true then (if (vo.1 == ax && (vo.2.1 == av)) = true then (some (2,0)) else (some (1,0))) else (some (0,0)))) else (some (0,yF))) = some (r1,r2):=H
 have A3:=ag.mk A30
 clear A30
 by_cases c4:yF = 0
 ·rw [if_pos c4] at H
  have xW:(yF == 0) = true:=beq_iff_eq.mpr c4
  have ao4:(yF != 0) = false:=bne_eq_false_iff_eq.mpr c4
  clear c4
  replace H:=Option.bind_eq_some_iff.mp H
  obtain ⟨⟨Kr,Kt,arL⟩,A50,H⟩:=H
  replace H:(if arL = true then (if (Kr == ax && (Kt == av)) = true then (some (2,0)) else (some (1,0))) else (some (0,0))) = some (r1,r2):=H
  have A5:=ag.mk A50
  clear A50
  by_cases c6:arL = true
  ·subst c6
   have H1:(if (Kr == ax && (Kt == av)) = true then (some (2,0)) else (some (1,0))) = some (r1,r2):=by rw [if_pos rfl] at H;exact H
   clear H
   have H:=H1
   clear H1
   by_cases c7:(Kr == ax && (Kt == av)) = true
   ·rw [if_pos c7] at H
    have abw:(Kr == ax && (Kt == av)) = true:=c7
    (try (have aCi:decide (Kr = ax && (Kt == av)) = true:=by simpa using c7))
    (try (have aCj:(Kr == ax && (Kt == av)) = true:=by simpa using c7))
    clear c7
    simp only [Option.some.injEq,Prod.mk.injEq] at H
    obtain ⟨rfl,rfl⟩:=H
    go_enter Try.func128,Try.ntmps128
    go_wp2_with (first|((with_reducible refine aI (N:=2) rfl ?_);refine aC (by rfl) (N:=2) (by rfl) (cs:=#[Z ab ax,Z ab av]) (t:=27) gu ?_;intro Qg hg w8 hbox hb;have dW:=ag.mk (hbox);have aht:=cB HB hg;have ahu:=cB HB hg;replace HB:=cK HB hb;clear hb hbox hg)|((with_reducible refine aI (N:=3) rfl ?_);refine aC (by rfl) (N:=3) (by rfl) (cs:=#[Z ab bq,Z ab bz]) (t:=27) gu ?_;intro Qh hg w9 hbox hb;have gF:=ag.mk (hbox);have ahv:=cB HB hg;have ahw:=cB HB hg;have rH:=l6 dW hg;have rJ:=l9 dW hg;replace dW:=bJ dW hb;replace HB:=cK HB hb;clear hb hbox hg;have ac9:=rH.out;have ada:=rJ.out;obtain ⟨uG,uH,uI,uJ⟩:=iq dW.out;obtain ⟨vK,vL,vM,vN⟩:=iq gF.out)|((with_reducible refine aI (N:=11) rfl ?_);refine Kd.FT k27 _ 27 (by rfl) (N:=11) (by rfl) (xs:=([(⟨ax,av⟩:gm),(⟨bq,bz⟩:gm)]:List (gm))) (inner:=[Z ab ax,Z ab av,Z ab bq,Z ab bz]) (ok:=fun _=>True) (okp:=fun _=>True) gu ak3 (fun _ hk=>hk) trivial (Below.refl _ _) (Nat.le_refl _) (by simp) ?_;intro apv Yq ahx hb Yv sF;clear Yv sF;(first|rw [← K8.out] at ahx|(simp only [Int.reduceToNat] at ahx;rw [← K8.out] at ahx));have jw:=ag.mk (Kd.jS (Kd.uS (Kd.uS ahx (g:=Qg) (o:=.cells #[Z ab ax,Z ab av] 27 (0,0)) iU) (g:=Qh) (o:=.cells #[Z ab bq,Z ab bz] 27 (0,0)) iU) (gz eZ));replace dW:=bJ dW hb;replace gF:=bJ gF hb;replace HB:=cK HB hb;clear hb ahx;obtain ⟨aCk,aCl,aCm⟩:=Kd.jT jw.out;subst aCm)|((with_reducible refine aR (f:=116) rfl ?_);refine bU (some 12) rfl rfl Try.func116 aT rfl #[.slice aCk Uy.length aCl] rfl jQ ?_;(with_reducible refine (bA.calls k _ _ Uy yF _ ?dP ?dQ A3.out).mono ?_);(case dP=>repeat (first|exact (Kd.dO jw.out).2.2|(with_reducible refine Kd.bR ?_ _)|(with_reducible refine Kd.bS ?_ _)|(with_reducible refine Kd.dA ?_)));(case dQ=>exact (Kd.dO jw.out).2.1);rintro e w16 ⟨rfl,hb⟩;refine ⟨_,rfl,?_⟩;replace jw:=xV jw hb;replace dW:=bJ dW hb;replace gF:=bJ gF hb;replace HB:=cK HB hb;(try clear hb);(try clear hb2);(try clear hk);(try clear hi);obtain ⟨rU,rV,rW,rX⟩:=iq dW.out;obtain ⟨Uz,UA,UB,UC⟩:=iq gF.out)|((with_reducible refine aR (f:=138) rfl ?_);refine bU (some 19) rfl rfl Try.func138 aT rfl #[.agg #[Z ab ax,Z ab av],.agg #[Z ab bq,Z ab bz]] rfl jQ ?_;(with_reducible refine (eT.calls ax av bq bz Kr Kt true _ A5.out).mono ?_);rintro e w19 ⟨rfl,hb⟩;refine ⟨_,rfl,?_⟩;replace jw:=xV jw hb;replace dW:=bJ dW hb;replace gF:=bJ gF hb;replace HB:=cK HB hb;(try clear hb);(try clear hb2);(try clear hk);(try clear hi))|((with_reducible refine aI (N:=7) rfl ?_);refine aC (by rfl) (N:=7) (by rfl) (cs:=#[Z ab 0,Z ab 0]) (t:=27) gu ?_;intro YS hg Fa hbox hb;have YT:=ag.mk (hbox);have anP:=cB HB hg;have anQ:=cB HB hg;have yG:=l6 dW hg;have yH:=l9 dW hg;have yI:=l6 gF hg;have yJ:=l9 gF hg;replace jw:=ag.mk (Kd.fZ (Kd.Pw apw YS (Nat.le_of_eq hg.symm)) hb);replace dW:=bJ dW hb;replace gF:=bJ gF hb;replace HB:=cK HB hb;clear hb hbox hg;have anR:=yH.out;have anS:=yG.out;have arM:=yJ.out;have arN:=yI.out;obtain ⟨Ae,Af,Ag,Ah⟩:=iq YT.out;obtain ⟨LQ,LU,LV,LW⟩:=iq dW.out))
    go_ret2
    exact ⟨mf,eZ⟩
   ·rw [if_neg c7] at H
    have abw:(Kr == ax && (Kt == av)) = false:=by simpa using c7
    (try (have aCi:decide (Kr = ax && (Kt == av)) = false:=by simpa using c7))
    (try (have aCj:(Kr == ax && (Kt == av)) = false:=by simpa using c7))
    (try (have aKe:¬ (Kr = ax && (Kt == av)):=by simpa using c7))
    clear c7
    simp only [Option.some.injEq,Prod.mk.injEq] at H
    obtain ⟨rfl,rfl⟩:=H
    go_enter Try.func128,Try.ntmps128
    go_wp2_with (first|((with_reducible refine aI (N:=2) rfl ?_);refine aC (by rfl) (N:=2) (by rfl) (cs:=#[Z ab ax,Z ab av]) (t:=27) gu ?_;intro Qg hg w25 hbox hb;have dW:=ag.mk (hbox);have aht:=cB HB hg;have ahu:=cB HB hg;replace HB:=cK HB hb;clear hb hbox hg)|((with_reducible refine aI (N:=3) rfl ?_);refine aC (by rfl) (N:=3) (by rfl) (cs:=#[Z ab bq,Z ab bz]) (t:=27) gu ?_;intro Qh hg w26 hbox hb;have gF:=ag.mk (hbox);have ahv:=cB HB hg;have ahw:=cB HB hg;have rH:=l6 dW hg;have rJ:=l9 dW hg;replace dW:=bJ dW hb;replace HB:=cK HB hb;clear hb hbox hg;have arO:=rH.out;have arP:=rJ.out;obtain ⟨L9,Ma,Mc,Md⟩:=iq dW.out;obtain ⟨qE,qF,qG,qH⟩:=iq gF.out)|((with_reducible refine aI (N:=11) rfl ?_);refine Kd.FT k27 _ 27 (by rfl) (N:=11) (by rfl) (xs:=([(⟨ax,av⟩:gm),(⟨bq,bz⟩:gm)]:List (gm))) (inner:=[Z ab ax,Z ab av,Z ab bq,Z ab bz]) (ok:=fun _=>True) (okp:=fun _=>True) gu ak3 (fun _ hk=>hk) trivial (Below.refl _ _) (Nat.le_refl _) (by simp) ?_;intro apv w30 ahy hb Yv sF;clear Yv sF;(first|rw [← K8.out] at ahy|(simp only [Int.reduceToNat] at ahy;rw [← K8.out] at ahy));have jw:=ag.mk (Kd.jS (Kd.uS (Kd.uS ahy (g:=Qg) (o:=.cells #[Z ab ax,Z ab av] 27 (0,0)) iU) (g:=Qh) (o:=.cells #[Z ab bq,Z ab bz] 27 (0,0)) iU) (gz eZ));replace dW:=bJ dW hb;replace gF:=bJ gF hb;replace HB:=cK HB hb;clear hb ahy;obtain ⟨aCn,aCo,aCp⟩:=Kd.jT jw.out;subst aCp)|((with_reducible refine aR (f:=116) rfl ?_);refine bU (some 12) rfl rfl Try.func116 aT rfl #[.slice aCn Uy.length aCo] rfl jQ ?_;(with_reducible refine (bA.calls k _ _ Uy yF _ ?dP ?dQ A3.out).mono ?_);(case dP=>repeat (first|exact (Kd.dO jw.out).2.2|(with_reducible refine Kd.bR ?_ _)|(with_reducible refine Kd.bS ?_ _)|(with_reducible refine Kd.dA ?_)));(case dQ=>exact (Kd.dO jw.out).2.1);rintro e w33 ⟨rfl,hb⟩;refine ⟨_,rfl,?_⟩;replace jw:=xV jw hb;replace dW:=bJ dW hb;replace gF:=bJ gF hb;replace HB:=cK HB hb;(try clear hb);(try clear hb2);(try clear hk);(try clear hi);obtain ⟨Me,Mf,Mg,Mh⟩:=iq dW.out;obtain ⟨vW,vX,vY,vZ⟩:=iq gF.out)|((with_reducible refine aR (f:=138) rfl ?_);refine bU (some 19) rfl rfl Try.func138 aT rfl #[.agg #[Z ab ax,Z ab av],.agg #[Z ab bq,Z ab bz]] rfl jQ ?_;(with_reducible refine (eT.calls ax av bq bz Kr Kt true _ A5.out).mono ?_);rintro e w36 ⟨rfl,hb⟩;refine ⟨_,rfl,?_⟩;replace jw:=xV jw hb;replace dW:=bJ dW hb;replace gF:=bJ gF hb;replace HB:=cK HB hb;(try clear hb);(try clear hb2);(try clear hk);(try clear hi))|((with_reducible refine aI (N:=7) rfl ?_);refine aC (by rfl) (N:=7) (by rfl) (cs:=#[Z ab 0,Z ab 0]) (t:=27) gu ?_;intro YS hg w37 hbox hb;have YT:=ag.mk (hbox);have anP:=cB HB hg;have anQ:=cB HB hg;have yG:=l6 dW hg;have yH:=l9 dW hg;have yI:=l6 gF hg;have yJ:=l9 gF hg;replace jw:=ag.mk (Kd.fZ (Kd.Pw apw YS (Nat.le_of_eq hg.symm)) hb);replace dW:=bJ dW hb;replace gF:=bJ gF hb;replace HB:=cK HB hb;clear hb hbox hg;have anT:=yH.out;have anU:=yG.out;have ahz:=yJ.out;have ahA:=yI.out;obtain ⟨wJ,wK,wL,wM⟩:=iq YT.out;obtain ⟨ak4,ak5,ak6,ak7⟩:=iq dW.out))
    go_ret2
    exact ⟨mf,eZ⟩
  ·replace c6:=Bool.eq_false_iff.mpr c6
   subst c6
   have H1:(some (0,0)) = some (r1,r2):=by rw [if_neg (show ¬ (false = true) by decide)] at H;exact H
   clear H
   have H:=H1
   clear H1
   simp only [Option.some.injEq,Prod.mk.injEq] at H
   obtain ⟨rfl,rfl⟩:=H
   go_enter Try.func128,Try.ntmps128
   go_wp2_with (first|((with_reducible refine aI (N:=2) rfl ?_);refine aC (by rfl) (N:=2) (by rfl) (cs:=#[Z ab ax,Z ab av]) (t:=27) gu ?_;intro Qg hg w42 hbox hb;have dW:=ag.mk (hbox);have aht:=cB HB hg;have ahu:=cB HB hg;replace HB:=cK HB hb;clear hb hbox hg)|((with_reducible refine aI (N:=3) rfl ?_);refine aC (by rfl) (N:=3) (by rfl) (cs:=#[Z ab bq,Z ab bz]) (t:=27) gu ?_;intro Qh hg w43 hbox hb;have gF:=ag.mk (hbox);have ahv:=cB HB hg;have ahw:=cB HB hg;have rH:=l6 dW hg;have rJ:=l9 dW hg;replace dW:=bJ dW hb;replace HB:=cK HB hb;clear hb hbox hg;have arQ:=rH.out;have arR:=rJ.out;obtain ⟨ak8,ak9,ala,alb⟩:=iq dW.out;obtain ⟨awC,awD,awE,awF⟩:=iq gF.out)|((with_reducible refine aI (N:=11) rfl ?_);refine Kd.FT k27 _ 27 (by rfl) (N:=11) (by rfl) (xs:=([(⟨ax,av⟩:gm),(⟨bq,bz⟩:gm)]:List (gm))) (inner:=[Z ab ax,Z ab av,Z ab bq,Z ab bz]) (ok:=fun _=>True) (okp:=fun _=>True) gu ak3 (fun _ hk=>hk) trivial (Below.refl _ _) (Nat.le_refl _) (by simp) ?_;intro apv w47 ahB hb Yv sF;clear Yv sF;(first|rw [← K8.out] at ahB|(simp only [Int.reduceToNat] at ahB;rw [← K8.out] at ahB));have jw:=ag.mk (Kd.jS (Kd.uS (Kd.uS ahB (g:=Qg) (o:=.cells #[Z ab ax,Z ab av] 27 (0,0)) iU) (g:=Qh) (o:=.cells #[Z ab bq,Z ab bz] 27 (0,0)) iU) (gz eZ));replace dW:=bJ dW hb;replace gF:=bJ gF hb;replace HB:=cK HB hb;clear hb ahB;obtain ⟨aCs,aCt,aCu⟩:=Kd.jT jw.out;subst aCu)|((with_reducible refine aR (f:=116) rfl ?_);refine bU (some 12) rfl rfl Try.func116 aT rfl #[.slice aCs Uy.length aCt] rfl jQ ?_;(with_reducible refine (bA.calls k _ _ Uy yF _ ?dP ?dQ A3.out).mono ?_);(case dP=>repeat (first|exact (Kd.dO jw.out).2.2|(with_reducible refine Kd.bR ?_ _)|(with_reducible refine Kd.bS ?_ _)|(with_reducible refine Kd.dA ?_)));(case dQ=>exact (Kd.dO jw.out).2.1);rintro e w50 ⟨rfl,hb⟩;refine ⟨_,rfl,?_⟩;replace jw:=xV jw hb;replace dW:=bJ dW hb;replace gF:=bJ gF hb;replace HB:=cK HB hb;(try clear hb);(try clear hb2);(try clear hk);(try clear hi);obtain ⟨alc,ald,ale,alf⟩:=iq dW.out;obtain ⟨awG,awH,awI,awJ⟩:=iq gF.out)|((with_reducible refine aR (f:=138) rfl ?_);refine bU (some 19) rfl rfl Try.func138 aT rfl #[.agg #[Z ab ax,Z ab av],.agg #[Z ab bq,Z ab bz]] rfl jQ ?_;(with_reducible refine (eT.calls ax av bq bz Kr Kt false _ A5.out).mono ?_);rintro e w53 ⟨rfl,hb⟩;refine ⟨_,rfl,?_⟩;replace jw:=xV jw hb;replace dW:=bJ dW hb;replace gF:=bJ gF hb;replace HB:=cK HB hb;(try clear hb);(try clear hb2);(try clear hk);(try clear hi))|((with_reducible refine aI (N:=7) rfl ?_);refine aC (by rfl) (N:=7) (by rfl) (cs:=#[Z ab 0,Z ab 0]) (t:=27) gu ?_;intro YS hg w54 hbox hb;have YT:=ag.mk (hbox);have anP:=cB HB hg;have anQ:=cB HB hg;have yG:=l6 dW hg;have yH:=l9 dW hg;have yI:=l6 gF hg;have yJ:=l9 gF hg;replace jw:=ag.mk (Kd.fZ (Kd.Pw apw YS (Nat.le_of_eq hg.symm)) hb);replace dW:=bJ dW hb;replace gF:=bJ gF hb;replace HB:=cK HB hb;clear hb hbox hg;have arS:=yH.out;have arT:=yG.out;have aGE:=yJ.out;have aGF:=yI.out;obtain ⟨awK,awL,awM,awN⟩:=iq YT.out))
   go_ret2
   exact ⟨mf,eZ⟩
 ·rw [if_neg c4] at H
  have xW:(yF == 0) = false:=beq_eq_false_iff_ne.mpr c4
  have ao4:(yF != 0) = true:=bne_iff_ne.mpr c4
  simp only [Option.some.injEq,Prod.mk.injEq] at H
  obtain ⟨rfl,rfl⟩:=H
  go_enter Try.func128,Try.ntmps128
  go_wp2_with (first|((with_reducible refine aI (N:=2) rfl ?_);refine aC (by rfl) (N:=2) (by rfl) (cs:=#[Z ab ax,Z ab av]) (t:=27) gu ?_;intro Qg hg w58 hbox hb;have dW:=ag.mk (hbox);have aht:=cB HB hg;have ahu:=cB HB hg;replace HB:=cK HB hb;clear hb hbox hg)|((with_reducible refine aI (N:=3) rfl ?_);refine aC (by rfl) (N:=3) (by rfl) (cs:=#[Z ab bq,Z ab bz]) (t:=27) gu ?_;intro Qh hg w59 hbox hb;have gF:=ag.mk (hbox);have ahv:=cB HB hg;have ahw:=cB HB hg;have rH:=l6 dW hg;have rJ:=l9 dW hg;replace dW:=bJ dW hb;replace HB:=cK HB hb;clear hb hbox hg;have arU:=rH.out;have arV:=rJ.out;obtain ⟨alg,alh,ali,alj⟩:=iq dW.out;obtain ⟨Gr,Gs,Gt,Gu⟩:=iq gF.out)|((with_reducible refine aI (N:=11) rfl ?_);refine Kd.FT k27 _ 27 (by rfl) (N:=11) (by rfl) (xs:=([(⟨ax,av⟩:gm),(⟨bq,bz⟩:gm)]:List (gm))) (inner:=[Z ab ax,Z ab av,Z ab bq,Z ab bz]) (ok:=fun _=>True) (okp:=fun _=>True) gu ak3 (fun _ hk=>hk) trivial (Below.refl _ _) (Nat.le_refl _) (by simp) ?_;intro apv w63 ahC hb Yv sF;clear Yv sF;(first|rw [← K8.out] at ahC|(simp only [Int.reduceToNat] at ahC;rw [← K8.out] at ahC));have jw:=ag.mk (Kd.jS (Kd.uS (Kd.uS ahC (g:=Qg) (o:=.cells #[Z ab ax,Z ab av] 27 (0,0)) iU) (g:=Qh) (o:=.cells #[Z ab bq,Z ab bz] 27 (0,0)) iU) (gz eZ));replace dW:=bJ dW hb;replace gF:=bJ gF hb;replace HB:=cK HB hb;clear hb ahC;obtain ⟨aCv,aCw,aCx⟩:=Kd.jT jw.out;subst aCx)|((with_reducible refine aR (f:=116) rfl ?_);refine bU (some 12) rfl rfl Try.func116 aT rfl #[.slice aCv Uy.length aCw] rfl jQ ?_;(with_reducible refine (bA.calls k _ _ Uy yF _ ?dP ?dQ A3.out).mono ?_);(case dP=>repeat (first|exact (Kd.dO jw.out).2.2|(with_reducible refine Kd.bR ?_ _)|(with_reducible refine Kd.bS ?_ _)|(with_reducible refine Kd.dA ?_)));(case dQ=>exact (Kd.dO jw.out).2.1);rintro e w66 ⟨rfl,hb⟩;refine ⟨_,rfl,?_⟩;replace jw:=xV jw hb;replace dW:=bJ dW hb;replace gF:=bJ gF hb;replace HB:=cK HB hb;(try clear hb);(try clear hb2);(try clear hk);(try clear hi)))
  go_ret2
  exact ⟨mf,eZ⟩
end Go.Proofs.Ytmhaiihjfgfaoaa.Pr
end
section
namespace Go.Proofs.Ytmhaiihjfgfaoaa.Gl
open Go.RowKit Go.Shelf Go.Proofs.YtmhaiihjfgfaoaaW.PrintWords Go.Proofs.YtmhaiihjfgfaoaaW.PrintLast Go.Proofs.YtmhaiihjfgfaoaaW.PrintMore Go.Proofs.Ytmhaiihjfgfaoaa.Pr Go.Proofs.YtmhaiihjfgfaoaaW.Round
set_option linter.unusedVariables false
set_option linter.unusedSimpArgs false
attribute [local go_sem] dw dx dM dN dz
def Su (a b:gm):Int:=if (EU a.f0 a.f1 && EU b.f0 b.f1) = true then (if max a.f0 b.f0≤min a.f1 b.f1 then (if b.f0≤a.f0∧a.f1≤b.f1 then 2 else 1) else 0) else 0
def inE (a b:gm):Int:=if (EU a.f0 a.f1 && EU b.f0 b.f1) = true then 0 else 2
theorem alk (a b:gm):Cz.f 3 a.f0 a.f1 b.f0 b.f1 = some (Su a b,inE a b):=by
 unfold Cz.f Su inE
 rw [Si 0,Option.bind_some]
 cases h:(EU a.f0 a.f1 && EU b.f0 b.f1) with
 |false=>rfl
 |true =>
  rw [if_pos rfl,if_pos rfl,if_pos rfl]
  unfold eT.f
  rw [Option.bind_some]
  dsimp only
  have e1:mx a.f0 b.f0 = max a.f0 b.f0:=FW _ _
  have e2:mn a.f1 b.f1 = min a.f1 b.f1:=adh _ _
  rw [e1,e2]
  by_cases h1:max a.f0 b.f0≤min a.f1 b.f1
  ·rw [if_pos h1,if_pos (decide_eq_true h1)]
   by_cases h2:b.f0≤a.f0∧a.f1≤b.f1
   ·rw [if_pos h2,if_pos]
    rw [Bool.and_eq_true,beq_iff_eq,beq_iff_eq]
    omega
   ·rw [if_neg h2,if_neg]
    rw [Bool.and_eq_true,beq_iff_eq,beq_iff_eq]
    omega
  ·rw [if_neg h1,if_neg (by rw [decide_eq_false h1];decide)]
theorem Mi (a b:gm):0≤Su a b∧Su a b≤2:=by
 unfold Su
 split
 ·split
  ·split <;> decide
  ·decide
 ·decide
set_option maxRecDepth 100000 in
set_option maxHeartbeats 2000000 in
theorem adH (a b:gm) (w:World):Calls Try.prog 127 #[.func (.func 128) #[] #[],.agg #[Z ab a.f0,Z ab a.f1],.agg #[Z ab b.f0,Z ab b.f1]] w (oo (Z ab (Su a b)) w):=by
 have mE:=Try.underlying27
 have eg:∀ args w,(callFunc 128 args).run Try.prog w = .ok (.enter 128 args) w:=enters_of Try.func128 aT rfl
 have hcon:=fun W=>Cz.calls 3 a.f0 a.f1 b.f0 b.f1 _ _ W (alk a b)
 generalize Su a b = r at*
 generalize inE a b = r2 at*
 go_enter Try.func127,Try.ntmps127
 go_wp2_with fail
 have m4:aZ ((w.alloc (.cells #[Z ab a.f0,Z ab a.f1] 27)).alloc (.cells #[Z ab b.f0,Z ab b.f1] 27)) (w.heap.size) #[Z ab a.f0,Z ab a.f1] 27:=(aa arW _)
 have m5:aZ ((w.alloc (.cells #[Z ab a.f0,Z ab a.f1] 27)).alloc (.cells #[Z ab b.f0,Z ab b.f1] 27)) (w.heap.size+1) #[Z ab b.f0,Z ab b.f1] 27:=(by have h_:=bB (w.alloc (.cells #[Z ab a.f0,Z ab a.f1] 27)) (.cells #[Z ab b.f0,Z ab b.f1] 27);first|exact h_|(simp only [World.size_alloc] at h_;exact h_))
 have mB:Below w.heap.size w ((w.alloc (.cells #[Z ab a.f0,Z ab a.f1] 27)).alloc (.cells #[Z ab b.f0,Z ab b.f1] 27)):=(ai (ai (Below.refl w.heap.size w) _) _)
 have dU:w.heap.size≤w.heap.size:=Nat.le_refl _
 generalize jq:((w.alloc (.cells #[Z ab a.f0,Z ab a.f1] 27)).alloc (.cells #[Z ab b.f0,Z ab b.f1] 27)) = W1 at m4 m5 mB ⊢
 clear jq
 generalize hg4:w.heap.size = g4 at m4 m5 ⊢
 have hG4:w.heap.size≤g4:=by omega
 generalize hg5:g4+1 = g5 at m5 ⊢
 have mJ:g4≠g5:=by omega
 have TT:g5≠g4:=mJ.symm
 have Yd:w.heap.size≤g5:=by omega
 clear dU
 try clear hg5
 try clear hg4
 have lC:w.heap.size≤W1.heap.size:=mB.size
 obtain ⟨RD,akF⟩:=F8 m4
 obtain ⟨yn,zG⟩:=F8 m5
 go_wp2_with fail
 clear RD akF yn zG
 have hc1:=hcon W1
 (with_reducible refine hc1.mono ?_)
 clear hc1 hcon
 rintro e W2 ⟨rfl,hb⟩
 replace m4:=af m4 hb
 replace m5:=af m5 hb
 replace mB:=aJ mB hb
 clear hb
 go_wp2
 go_ret
 exact ⟨rfl,mB⟩
def pE (x y:cZ):Int:=min (Su x.f0 y.f0) (Su x.f1 y.f1)
set_option maxRecDepth 100000 in
set_option maxHeartbeats 2000000 in
theorem Am (x y:cZ) (w:World):Calls Try.prog 89 #[.agg #[Z ab x.f0.f0,Z ab x.f0.f1,Z ab x.f1.f0,Z ab x.f1.f1],.agg #[Z ab y.f0.f0,Z ab y.f0.f1,Z ab y.f1.f0,Z ab y.f1.f1]] w (oo (Z ab (pE x y)) w):=by
 have pG:=Try.underlying31
 have mE:=Try.underlying27
 have k0:=fun W=>adH x.f0 y.f0 W
 have k1:=fun W=>adH x.f1 y.f1 W
 have HR:Hid (pE x y = min (Su x.f0 y.f0) (Su x.f1 y.f1)):=Lib.hid rfl
 generalize Su x.f0 y.f0 = r0 at*
 generalize Su x.f1 y.f1 = r1 at*
 go_enter Try.func89,Try.ntmps89
 go_wp2_with fail
 have m2:aZ ((w.alloc (.cells #[Z ab x.f0.f0,Z ab x.f0.f1,Z ab x.f1.f0,Z ab x.f1.f1] 31)).alloc (.cells #[Z ab y.f0.f0,Z ab y.f0.f1,Z ab y.f1.f0,Z ab y.f1.f1] 31)) (w.heap.size) #[Z ab x.f0.f0,Z ab x.f0.f1,Z ab x.f1.f0,Z ab x.f1.f1] 31:=(aa afR _)
 have m3:aZ ((w.alloc (.cells #[Z ab x.f0.f0,Z ab x.f0.f1,Z ab x.f1.f0,Z ab x.f1.f1] 31)).alloc (.cells #[Z ab y.f0.f0,Z ab y.f0.f1,Z ab y.f1.f0,Z ab y.f1.f1] 31)) (w.heap.size+1) #[Z ab y.f0.f0,Z ab y.f0.f1,Z ab y.f1.f0,Z ab y.f1.f1] 31:=(by have h_:=bB (w.alloc (.cells #[Z ab x.f0.f0,Z ab x.f0.f1,Z ab x.f1.f0,Z ab x.f1.f1] 31)) (.cells #[Z ab y.f0.f0,Z ab y.f0.f1,Z ab y.f1.f0,Z ab y.f1.f1] 31);first|exact h_|(simp only [World.size_alloc] at h_;exact h_))
 have mB:Below w.heap.size w ((w.alloc (.cells #[Z ab x.f0.f0,Z ab x.f0.f1,Z ab x.f1.f0,Z ab x.f1.f1] 31)).alloc (.cells #[Z ab y.f0.f0,Z ab y.f0.f1,Z ab y.f1.f0,Z ab y.f1.f1] 31)):=(ai (ai (Below.refl w.heap.size w) _) _)
 have dU:w.heap.size≤w.heap.size:=Nat.le_refl _
 generalize jq:((w.alloc (.cells #[Z ab x.f0.f0,Z ab x.f0.f1,Z ab x.f1.f0,Z ab x.f1.f1] 31)).alloc (.cells #[Z ab y.f0.f0,Z ab y.f0.f1,Z ab y.f1.f0,Z ab y.f1.f1] 31)) = W1 at m2 m3 mB ⊢
 clear jq
 generalize hg2:w.heap.size = g2 at m2 m3 ⊢
 have hG2:w.heap.size≤g2:=by omega
 generalize hg3:g2+1 = g3 at m3 ⊢
 have Fh:g2≠g3:=by omega
 have abn:g3≠g2:=Fh.symm
 have hG3:w.heap.size≤g3:=by omega
 clear dU
 try clear hg3
 try clear hg2
 have lC:w.heap.size≤W1.heap.size:=mB.size
 replace m2:=au m2
 replace m3:=au m3
 replace mB:=bf mB
 refine lh (n:=12) (S:=fun w'=>w'.cell? ⟨g2,0,none⟩ = some (Z ab x.f0.f0)∧w'.cell? ⟨g2,1,none⟩ = some (Z ab x.f0.f1)∧w'.cell? ⟨g2,2,none⟩ = some (Z ab x.f1.f0)∧w'.cell? ⟨g2,3,none⟩ = some (Z ab x.f1.f1)∧w'.cell? ⟨g3,0,none⟩ = some (Z ab y.f0.f0)∧w'.cell? ⟨g3,1,none⟩ = some (Z ab y.f0.f1)∧w'.cell? ⟨g3,2,none⟩ = some (Z ab y.f1.f0)∧w'.cell? ⟨g3,3,none⟩ = some (Z ab y.f1.f1)) (ds:=[]) #[al,al,al,al,al,al,al,al,al,al,al,al] aT rfl rfl ⟨((ae m2 0).trans rfl),((ae m2 1).trans rfl),((ae m2 2).trans rfl),((ae m2 3).trans rfl),((ae m3 0).trans rfl),((ae m3 1).trans rfl),((ae m3 2).trans rfl),((ae m3 3).trans rfl)⟩ (fun hHeld=>?_)
 generalize hWd:World.drew _ = Wx at m2 m3 mB hHeld ⊢
 clear hWd
 refine dG (i:=0) (N:=some 5) aT ?_
 refine dG (i:=2) (N:=some 7) aT ?_
 refine dG (i:=5) (N:=some 10) aT ?_
 refine dG (i:=7) (N:=some 12) aT ?_
 refine iy (i:=1) (N:=some 6) aT hHeld ?_
 refine iy (i:=3) (N:=some 8) aT hHeld ?_
 refine iy (i:=6) (N:=some 11) aT hHeld ?_
 refine iy (i:=8) (N:=some 13) aT hHeld ?_
 refine jC (i:=4) (N:=some 9) #[ac,ac,ac,ac,ac,ac,ac,ac,ac,al,al,al] rfl rfl aT (by decide) (fun K hK=>?_)
 have eG:=k0 Wx
 refine jm Try.func127 aT rfl #[.func (.func 128) #[] #[],.agg #[Z ab x.f0.f0,Z ab x.f0.f1],.agg #[Z ab y.f0.f0,Z ab y.f0.f1]] (by rfl) rfl rfl ET ?_
 with_reducible refine (eG).mono ?_
 rintro e w4 ⟨rfl,hb⟩
 refine ⟨_,rfl,?_⟩
 clear eG
 replace m2:=af m2 hb
 replace m3:=af m3 hb
 replace mB:=aJ mB hb
 clear hb
 refine hK.out _ _ ⟨((ae m2 0).trans rfl),((ae m2 1).trans rfl),((ae m2 2).trans rfl),((ae m2 3).trans rfl),((ae m3 0).trans rfl),((ae m3 1).trans rfl),((ae m3 2).trans rfl),((ae m3 3).trans rfl)⟩ (fun hHeld=>?_)
 clear hK K
 refine dY arX ?_
 refine jC (i:=9) (N:=some 14) #[ac,ac,ac,ac,ac,ac,ac,ac,ac,ac,al,al] rfl rfl aT (by decide) (fun K hK=>?_)
 have eG:=k1 w4
 refine jm Try.func127 aT rfl #[.func (.func 128) #[] #[],.agg #[Z ab x.f1.f0,Z ab x.f1.f1],.agg #[Z ab y.f1.f0,Z ab y.f1.f1]] (by rfl) rfl rfl ET ?_
 with_reducible refine (eG).mono ?_
 rintro e w9 ⟨rfl,hb⟩
 refine ⟨_,rfl,?_⟩
 clear eG
 replace m2:=af m2 hb
 replace m3:=af m3 hb
 replace mB:=aJ mB hb
 clear hb
 refine hK.out _ _ ⟨((ae m2 0).trans rfl),((ae m2 1).trans rfl),((ae m2 2).trans rfl),((ae m2 3).trans rfl),((ae m3 0).trans rfl),((ae m3 1).trans rfl),((ae m3 2).trans rfl),((ae m3 3).trans rfl)⟩ (fun hHeld=>?_)
 clear hK K
 refine dY apo ?_
 refine dG (i:=10) (N:=some 15) aT ?_
 refine dG (i:=11) (N:=some 4) aT ?_
 refine ma aT ?_
 go_wp2
 all_goals (go_ret;first|(have hm:pE x y = r0:=(by rw [HR.out];omega);exact ⟨by rw [hm];rfl,mB⟩)|(have hm:pE x y = r1:=(by rw [HR.out];omega);exact ⟨by rw [hm];rfl,mB⟩))
def vv (l:List cZ):Int:=if l.length > 64 then 6 else if l.any (fun x=>!uK x) then 2 else 0
set_option maxRecDepth 100000 in
set_option maxHeartbeats 2000000 in
theorem alm (x:cZ) (w:World):Calls Try.prog 126 #[.agg #[Z ab x.f0.f0,Z ab x.f0.f1,Z ab x.f1.f0,Z ab x.f1.f1]] w (oo (.bool (!uK x)) w):=by
 have pG:=Try.underlying31
 have mE:=Try.underlying27
 have k0:=fun W=>akL x W
 have HE:Hid (BR x = if uK x then 0 else 2):=Lib.hid rfl
 go_enter Try.func126,Try.ntmps126
 go_wp2_with fail
 have m1:aZ (w.alloc (.cells #[Z ab x.f0.f0,Z ab x.f0.f1,Z ab x.f1.f0,Z ab x.f1.f1] 31)) (w.heap.size) #[Z ab x.f0.f0,Z ab x.f0.f1,Z ab x.f1.f0,Z ab x.f1.f1] 31:=afR
 have mB:Below w.heap.size w (w.alloc (.cells #[Z ab x.f0.f0,Z ab x.f0.f1,Z ab x.f1.f0,Z ab x.f1.f1] 31)):=(ai (Below.refl w.heap.size w) _)
 have dU:w.heap.size≤w.heap.size:=Nat.le_refl _
 generalize jq:(w.alloc (.cells #[Z ab x.f0.f0,Z ab x.f0.f1,Z ab x.f1.f0,Z ab x.f1.f1] 31)) = W1 at m1 mB ⊢
 clear jq
 generalize hg1:w.heap.size = g1 at m1 ⊢
 have hG1:w.heap.size≤g1:=by omega
 clear dU
 try clear hg1
 have lC:w.heap.size≤W1.heap.size:=mB.size
 obtain ⟨CB,CE,CF,CG⟩:=mH m1
 go_wp2_with fail
 clear CB CE CF CG
 have hcon:=k0 W1
 (with_reducible refine hcon.mono ?_)
 clear hcon
 rintro e W2 ⟨rfl,hb⟩
 replace m1:=af m1 hb
 replace mB:=aJ mB hb
 clear hb
 have mY:w.heap.size≤W2.heap.size:=mB.size
 cases h:uK x with
 |true =>
  have HZ:Hid (BR x = 0):=Lib.hid (by rw [HE.out,h];rfl)
  have HB:=Lib.hid h
  clear h HE k0
  generalize BR x = E at*
  have hz:=HZ.out
  subst hz
  go_wp2
  go_ret
  exact ⟨by rw [HB.out];rfl,mB⟩
 |false =>
  have HZ:Hid (BR x = 2):=Lib.hid (by rw [HE.out,h];rfl)
  have HB:=Lib.hid h
  clear h HE k0
  generalize BR x = E at*
  have hz:=HZ.out
  subst hz
  go_wp2
  go_ret
  exact ⟨by rw [HB.out];rfl,mB⟩
set_option maxRecDepth 100000 in
set_option maxHeartbeats 2000000 in
theorem af1 (A:Option Addr) (c:Nat) (l:List cZ) (w:World) (hC:Kd.C Qe w A l.length l) (hc:l.length≤c):Calls Try.prog 88 #[.slice A l.length c] w (oo (Z ab (vv l)) w):=by
 have pG:=Try.underlying31
 have mE:=Try.underlying27
 have hb:=hC.2.1
 have HR:Hid (vv l = if l.length > 64 then 6 else if l.any (fun x=>!uK x) then 2 else 0):=Lib.hid rfl
 by_cases h:l.length > 64
 ·have hd:decide (64 < (l.length:Int)) = true:=decide_eq_true (by omega)
  have HZ:=Lib.hid (HR.out.trans (if_pos h))
  clear h HR
  go_enter Try.func88,Try.ntmps88
  go_wp2
  go_ret
  exact ⟨jD,Below.refl _ _⟩
 ·have hd:decide (64 < (l.length:Int)) = false:=decide_eq_false (by omega)
  have HZ:=Lib.hid (HR.out.trans (if_neg h))
  have hcon:=fun W (hW:Below w.heap.size w W)=>abF 126 #[] (fun x=>!uK x) A c l W (Kd.bD hC hW) hc (enters_of Try.func126 aT rfl) (fun x W _=>alm x W)
  generalize l.any (fun x=>!uK x) = r at*
  clear h HR
  go_enter Try.func88,Try.ntmps88
  go_wp2_with fail
  (with_reducible refine (hcon _ (Below.refl _ _)).mono ?_)
  clear hcon
  rintro e W1 ⟨rfl,mB⟩
  cases r
  ·go_wp2
   go_ret
   exact ⟨jD,mB⟩
  ·go_wp2
   go_ret
   exact ⟨jD,mB⟩
end Go.Proofs.Ytmhaiihjfgfaoaa.Gl
end
section
namespace Go.Proofs.Ytmhaiihjfgfaoaa.Gl
open Go.RowKit Go.Shelf Go.Proofs.YtmhaiihjfgfaoaaW.PrintWords Go.Proofs.YtmhaiihjfgfaoaaW.PrintLast Go.Proofs.YtmhaiihjfgfaoaaW.PrintMore Go.Proofs.Ytmhaiihjfgfaoaa.Pr Go.Proofs.YtmhaiihjfgfaoaaW.Round
set_option linter.unusedVariables false
set_option linter.unusedSimpArgs false
attribute [local go_sem] dw dx dM dN dz
attribute [local go_sem] Oper.semAt_some
def Sv (w0:World) (s:fT) (v:iw) (E:Int) (w:World) (e:Ending) (w':World):Prop :=
 ∃ ptr,e = .returned (.tuple #[.pointer ptr,Z ab E])∧Below w.heap.size w w'∧((il s v = 0∧∃ g,ptr = some ⟨g,0,none⟩∧w.heap.size≤g∧dZ w' g s v∧∀ W',Below w0.heap.size w0 W'→W'.heap[g]? = w'.heap[g]?→dZ W' g s v)∨(il s v≠0∧ptr = none))
set_option maxRecDepth 100000 in
set_option maxHeartbeats 4000000 in
theorem UD (s:fT) (v:iw) (A7 A8:Option Addr) (c7 c8:Nat) (w0 w:World) (hb0:Below w0.heap.size w0 w) (h7:s.shores.length≤c7) (Ry:Kd.C Kd.bool w0 A7 s.shores.length s.shores) (h8:s.currents.length≤c8) (JL:Kd.C Cm w0 A8 s.currents.length s.currents):
 Calls Try.prog 113 #[.agg #[Z ab s.nx,Z ab s.ny,Z ab s.cell,Z ab s.slot,Z ab s.slots,Z ab s.layers,Z ab s.most,.slice A7 s.shores.length c7,.slice A8 s.currents.length c8],.agg #[Z ab v.speed,Z ab v.dive,Z ab v.use.f0,Z ab v.use.f1,Z ab v.drift.f0,Z ab v.drift.f1,Z ab v.reserve]] w (Sv w0 s v (il s v) w):=by
 have Cn:=Try.underlying25
 have xX:=Try.underlying29
 have anG:=Try.underlying110
 have HE:Hid (il s v = if rE s≠0 then rE s else Fz v):=Lib.hid rfl
 go_enter Try.func113,Try.ntmps113
 go_wp2_with fail
 have m2:aZ ((w.alloc (.cells #[Z ab s.nx,Z ab s.ny,Z ab s.cell,Z ab s.slot,Z ab s.slots,Z ab s.layers,Z ab s.most,.slice A7 s.shores.length c7,.slice A8 s.currents.length c8] 25)).alloc (.cells #[Z ab v.speed,Z ab v.dive,Z ab v.use.f0,Z ab v.use.f1,Z ab v.drift.f0,Z ab v.drift.f1,Z ab v.reserve] 29)) (w.heap.size) #[Z ab s.nx,Z ab s.ny,Z ab s.cell,Z ab s.slot,Z ab s.slots,Z ab s.layers,Z ab s.most,.slice A7 s.shores.length c7,.slice A8 s.currents.length c8] 25:=(aa RI _)
 have m3:aZ ((w.alloc (.cells #[Z ab s.nx,Z ab s.ny,Z ab s.cell,Z ab s.slot,Z ab s.slots,Z ab s.layers,Z ab s.most,.slice A7 s.shores.length c7,.slice A8 s.currents.length c8] 25)).alloc (.cells #[Z ab v.speed,Z ab v.dive,Z ab v.use.f0,Z ab v.use.f1,Z ab v.drift.f0,Z ab v.drift.f1,Z ab v.reserve] 29)) (w.heap.size+1) #[Z ab v.speed,Z ab v.dive,Z ab v.use.f0,Z ab v.use.f1,Z ab v.drift.f0,Z ab v.drift.f1,Z ab v.reserve] 29:=TS
 have mB:Below w.heap.size w ((w.alloc (.cells #[Z ab s.nx,Z ab s.ny,Z ab s.cell,Z ab s.slot,Z ab s.slots,Z ab s.layers,Z ab s.most,.slice A7 s.shores.length c7,.slice A8 s.currents.length c8] 25)).alloc (.cells #[Z ab v.speed,Z ab v.dive,Z ab v.use.f0,Z ab v.use.f1,Z ab v.drift.f0,Z ab v.drift.f1,Z ab v.reserve] 29)):=(ai (ai (Below.refl w.heap.size w) _) _)
 have dU:w.heap.size≤w.heap.size:=Nat.le_refl _
 generalize jq:((w.alloc (.cells #[Z ab s.nx,Z ab s.ny,Z ab s.cell,Z ab s.slot,Z ab s.slots,Z ab s.layers,Z ab s.most,.slice A7 s.shores.length c7,.slice A8 s.currents.length c8] 25)).alloc (.cells #[Z ab v.speed,Z ab v.dive,Z ab v.use.f0,Z ab v.use.f1,Z ab v.drift.f0,Z ab v.drift.f1,Z ab v.reserve] 29)) = W1 at m2 m3 mB ⊢
 clear jq
 generalize hg2:w.heap.size = g2 at m2 m3 ⊢
 have hG2:w.heap.size≤g2:=by omega
 generalize hg3:g2+1 = g3 at m3 ⊢
 have Fh:g2≠g3:=by omega
 have abn:g3≠g2:=Fh.symm
 have hG3:w.heap.size≤g3:=by omega
 clear dU
 try clear hg3
 try clear hg2
 have lC:w.heap.size≤W1.heap.size:=mB.size
 have hcon:=ady s A7 A8 c7 c8 W1 h7 (Kd.bD (Kd.bD Ry hb0) mB) h8 (Kd.bD (Kd.bD JL hb0) mB)
 (with_reducible refine hcon.mono ?_)
 clear hcon
 rintro e W2 ⟨rfl,hb⟩
 replace m2:=af m2 hb
 replace m3:=af m3 hb
 replace mB:=aJ mB hb
 clear hb
 have mY:w.heap.size≤W2.heap.size:=mB.size
 rcases TQ s with ⟨h1,_⟩|h1
 case inr =>
  have HZ:Hid (il s v = 2):=Lib.hid (HE.out.trans (by rw [h1];rfl))
  rw [h1]
  clear h1 HE
  go_wp2
  go_ret2
  exact ⟨none,jD,mB,.inr ⟨by rw [HZ.out];decide,rfl⟩⟩
 case inl =>
  have HE2:=Lib.hid (HE.out.trans (if_neg (by omega)))
  clear HE
  rw [h1]
  clear h1
  obtain ⟨YE,YF,YG,YH,YI,YJ,YK⟩:=vg m3
  go_wp2_with fail
  clear YE YF YG YH YI YJ YK
  have hcon:=adv v W2
  (with_reducible refine hcon.mono ?_)
  clear hcon
  rintro e W3 ⟨rfl,hb⟩
  replace m2:=af m2 hb
  replace m3:=af m3 hb
  replace mB:=aJ mB hb
  clear hb
  have uY:w.heap.size≤W3.heap.size:=mB.size
  rcases TR v with ⟨h1,_⟩|h1
  case inr =>
   have HE:=HE2
   have HZ:Hid (il s v = 2):=Lib.hid (HE2.out.trans h1)
   rw [h1]
   clear h1 HE
   go_wp2
   go_ret2
   exact ⟨none,jD,mB,.inr ⟨by rw [HZ.out];decide,rfl⟩⟩
  case inl =>
   have HZ:=Lib.hid (HE2.out.trans h1)
   rw [h1]
   clear h1 HE2
   obtain ⟨ao7,ao8,ao9,apa,aB0,aB1,aB2,aB3,aB4⟩:=EW m2
   obtain ⟨YE,YF,YG,YH,YI,YJ,YK⟩:=vg m3
   go_wp2
   go_ret2
   have hb2:=hb0.trans ((ai mB (.cells #[Z ab s.nx,Z ab s.ny,Z ab s.cell,Z ab s.slot,Z ab s.slots,Z ab s.layers,Z ab s.most,.slice A7 s.shores.length c7,.slice A8 s.currents.length c8,Z ab v.speed,Z ab v.dive,Z ab v.use.f0,Z ab v.use.f1,Z ab v.drift.f0,Z ab v.drift.f1,Z ab v.reserve] 110)).mono hb0.size)
   exact ⟨_,jD,ai mB _,.inl ⟨HZ.out,W3.heap.size,rfl,mB.size,⟨A7,c7,A8,c8,bB W3 (.cells #[Z ab s.nx,Z ab s.ny,Z ab s.cell,Z ab s.slot,Z ab s.slots,Z ab s.layers,Z ab s.most,.slice A7 s.shores.length c7,.slice A8 s.currents.length c8,Z ab v.speed,Z ab v.dive,Z ab v.use.f0,Z ab v.use.f1,Z ab v.drift.f0,Z ab v.drift.f1,Z ab v.reserve] 110),h7,Kd.bD Ry hb2,h8,Kd.bD JL hb2⟩,fun W' hB hg=>⟨A7,c7,A8,c8,hg.trans (bB W3 (.cells #[Z ab s.nx,Z ab s.ny,Z ab s.cell,Z ab s.slot,Z ab s.slots,Z ab s.layers,Z ab s.most,.slice A7 s.shores.length c7,.slice A8 s.currents.length c8,Z ab v.speed,Z ab v.dive,Z ab v.use.f0,Z ab v.use.f1,Z ab v.drift.f0,Z ab v.drift.f1,Z ab v.reserve] 110)),h7,Kd.bD Ry hB,h8,Kd.bD JL hB⟩⟩⟩
set_option maxRecDepth 100000 in
set_option maxHeartbeats 4000000 in
theorem Qi (s:fT) (v:iw) (x:cZ) (t:Int) (A7 A8:Option Addr) (c7 c8:Nat) (w0 w:World) (hb0:Below w0.heap.size w0 w) (h7:s.shores.length≤c7) (Ry:Kd.C Kd.bool w0 A7 s.shores.length s.shores) (h8:s.currents.length≤c8) (JL:Kd.C Cm w0 A8 s.currents.length s.currents):
 Calls Try.prog 64 #[.agg #[Z ab s.nx,Z ab s.ny,Z ab s.cell,Z ab s.slot,Z ab s.slots,Z ab s.layers,Z ab s.most,.slice A7 s.shores.length c7,.slice A8 s.currents.length c8],.agg #[Z ab v.speed,Z ab v.dive,Z ab v.use.f0,Z ab v.use.f1,Z ab v.drift.f0,Z ab v.drift.f1,Z ab v.reserve],.agg #[Z ab x.f0.f0,Z ab x.f0.f1,Z ab x.f1.f0,Z ab x.f1.f1],Z ab t] w (Sv w0 s v (eB s v x t) w):=by
 have Cn:=Try.underlying25
 have xX:=Try.underlying29
 have pG:=Try.underlying31
 have HE:Hid (eB s v x t = if il s v≠0 then il s v else ow x t):=Lib.hid rfl
 go_enter Try.func64,Try.ntmps64
 go_wp2_with fail
 have m4:aZ (((w.alloc (.cells #[Z ab s.nx,Z ab s.ny,Z ab s.cell,Z ab s.slot,Z ab s.slots,Z ab s.layers,Z ab s.most,.slice A7 s.shores.length c7,.slice A8 s.currents.length c8] 25)).alloc (.cells #[Z ab v.speed,Z ab v.dive,Z ab v.use.f0,Z ab v.use.f1,Z ab v.drift.f0,Z ab v.drift.f1,Z ab v.reserve] 29)).alloc (.cells #[Z ab x.f0.f0,Z ab x.f0.f1,Z ab x.f1.f0,Z ab x.f1.f1] 31)) (w.heap.size) #[Z ab s.nx,Z ab s.ny,Z ab s.cell,Z ab s.slot,Z ab s.slots,Z ab s.layers,Z ab s.most,.slice A7 s.shores.length c7,.slice A8 s.currents.length c8] 25:=(aa (aa RI _) _)
 have m5:aZ (((w.alloc (.cells #[Z ab s.nx,Z ab s.ny,Z ab s.cell,Z ab s.slot,Z ab s.slots,Z ab s.layers,Z ab s.most,.slice A7 s.shores.length c7,.slice A8 s.currents.length c8] 25)).alloc (.cells #[Z ab v.speed,Z ab v.dive,Z ab v.use.f0,Z ab v.use.f1,Z ab v.drift.f0,Z ab v.drift.f1,Z ab v.reserve] 29)).alloc (.cells #[Z ab x.f0.f0,Z ab x.f0.f1,Z ab x.f1.f0,Z ab x.f1.f1] 31)) (w.heap.size+1) #[Z ab v.speed,Z ab v.dive,Z ab v.use.f0,Z ab v.use.f1,Z ab v.drift.f0,Z ab v.drift.f1,Z ab v.reserve] 29:=(aa TS _)
 have m6:aZ (((w.alloc (.cells #[Z ab s.nx,Z ab s.ny,Z ab s.cell,Z ab s.slot,Z ab s.slots,Z ab s.layers,Z ab s.most,.slice A7 s.shores.length c7,.slice A8 s.currents.length c8] 25)).alloc (.cells #[Z ab v.speed,Z ab v.dive,Z ab v.use.f0,Z ab v.use.f1,Z ab v.drift.f0,Z ab v.drift.f1,Z ab v.reserve] 29)).alloc (.cells #[Z ab x.f0.f0,Z ab x.f0.f1,Z ab x.f1.f0,Z ab x.f1.f1] 31)) (w.heap.size+1+1) #[Z ab x.f0.f0,Z ab x.f0.f1,Z ab x.f1.f0,Z ab x.f1.f1] 31:=aby
 have mB:Below w.heap.size w (((w.alloc (.cells #[Z ab s.nx,Z ab s.ny,Z ab s.cell,Z ab s.slot,Z ab s.slots,Z ab s.layers,Z ab s.most,.slice A7 s.shores.length c7,.slice A8 s.currents.length c8] 25)).alloc (.cells #[Z ab v.speed,Z ab v.dive,Z ab v.use.f0,Z ab v.use.f1,Z ab v.drift.f0,Z ab v.drift.f1,Z ab v.reserve] 29)).alloc (.cells #[Z ab x.f0.f0,Z ab x.f0.f1,Z ab x.f1.f0,Z ab x.f1.f1] 31)):=(ai (ai (ai (Below.refl w.heap.size w) _) _) _)
 have dU:w.heap.size≤w.heap.size:=Nat.le_refl _
 generalize jq:(((w.alloc (.cells #[Z ab s.nx,Z ab s.ny,Z ab s.cell,Z ab s.slot,Z ab s.slots,Z ab s.layers,Z ab s.most,.slice A7 s.shores.length c7,.slice A8 s.currents.length c8] 25)).alloc (.cells #[Z ab v.speed,Z ab v.dive,Z ab v.use.f0,Z ab v.use.f1,Z ab v.drift.f0,Z ab v.drift.f1,Z ab v.reserve] 29)).alloc (.cells #[Z ab x.f0.f0,Z ab x.f0.f1,Z ab x.f1.f0,Z ab x.f1.f1] 31)) = W1 at m4 m5 m6 mB ⊢
 clear jq
 generalize hg4:w.heap.size = g4 at m4 m5 m6 ⊢
 have hG4:w.heap.size≤g4:=by omega
 generalize hg5:g4+1 = g5 at m5 m6 ⊢
 have mJ:g4≠g5:=by omega
 have TT:g5≠g4:=mJ.symm
 have Yd:w.heap.size≤g5:=by omega
 generalize Ye:g5+1 = g6 at m6 ⊢
 have um:g4≠g6:=by omega
 have nI:g5≠g6:=by omega
 have TE:g6≠g4:=um.symm
 have iT:g6≠g5:=nI.symm
 have RB:w.heap.size≤g6:=by omega
 clear dU
 try clear Ye
 try clear hg5
 try clear hg4
 have lC:w.heap.size≤W1.heap.size:=mB.size
 have hcon:=UD s v A7 A8 c7 c8 w0 W1 (hb0.trans (mB.mono hb0.size)) h7 Ry h8 JL
 (with_reducible refine hcon.mono ?_)
 clear hcon
 rintro e W2 ⟨ptr,rfl,hb,⟨h0,g,rfl,hg,hT,hTT⟩|⟨h0,rfl⟩⟩
 case inr =>
  have HZ:=Lib.hid (HE.out.trans (if_pos h0))
  replace mB:=aJ mB hb
  clear hb HE
  have h00:=Lib.hid h0
  generalize Sk:il s v = E0 at*
  have hE:=Lib.hid Sk
  clear Sk
  have hd:(E0 == 0) = false:=beq_eq_false_iff_ne.2 h0
  have hd2:(E0 != 0) = true:=by rw [bne,hd];rfl
  clear h0
  go_wp2
  go_ret2
  exact ⟨none,jD,mB,.inr ⟨by rw [hE.out];exact h00.out,rfl⟩⟩
 case inl =>
  have HZ:=Lib.hid (HE.out.trans (if_neg (fun h=>h h0)))
  clear HE
  have hg0:w.heap.size≤g:=Nat.le_trans (m:=W1.heap.size) (by assumption) hg
  replace m4:=af m4 hb
  replace m5:=af m5 hb
  replace m6:=af m6 hb
  replace mB:=aJ mB hb
  clear hb
  have H0:=Lib.hid h0
  rw [h0]
  clear h0
  have mY:w.heap.size≤W2.heap.size:=mB.size
  obtain ⟨zF,JM,JN,JO⟩:=mH m6
  go_wp2_with fail
  clear zF JM JN JO
  have hcon:=Sj x t W2
  (with_reducible refine hcon.mono ?_)
  clear hcon
  rintro e W3 ⟨rfl,hb⟩
  have hgl:g < W2.heap.size:=by obtain ⟨_,_,_,_,h_,_⟩:=hT;exact aD h_
  have arY:∀ W',Below w0.heap.size w0 W'→W'.heap[g]? = W3.heap[g]?→dZ W' g s v:=fun W' h1 h2=>hTT W' h1 (h2.trans (hb.block g hgl))
  replace hT:=hT.below hb
  have HTT:=Lib.hid arY
  clear hTT arY
  replace m4:=af m4 hb
  replace m5:=af m5 hb
  replace m6:=af m6 hb
  replace mB:=aJ mB hb
  clear hb
  go_wp2
  go_ret2
  exact ⟨_,jD,mB,.inl ⟨H0.out,g,rfl,hg0,hT,HTT.out⟩⟩
end Go.Proofs.Ytmhaiihjfgfaoaa.Gl
end
