import Derived.Test.YtmhaiihjfgfaoaaGnGliderNever3
import Derived.Test.YtmhaiihjfgfaoaaGnGliderNever20
import Derived.Test.YtmhaiihjfgfaoaaGnGliderNever14
import Derived.Test.YtmhaiihjfgfaoaaGnGliderNever19
import Derived.Test.YtmhaiihjfgfaoaaGnGliderNever6
set_option linter.unusedSimpArgs false
set_option linter.unusedVariables false
open Go.Value renaming int → Z
open Go.IntKind renaming i64 → ab
open Bool renaming true → ac, false → al
section
namespace Go.Proofs.Ytmhaiihjfgfaoaa.Pr
open Go.RowKit Go.Proofs.YtmhaiihjfgfaoaaW.PrintWords Go.Proofs.YtmhaiihjfgfaoaaW.PrintLast Go.Proofs.YtmhaiihjfgfaoaaW.PrintMore Go.Proofs.Ytmhaiihjfgfaoaa.Gl
set_option linter.unusedVariables false
def gH.f (ax:Int) (av:Int) (aH:Int) (aG:Int) (aQ:Int) (aN:Int) (aM:Int) (bn:List Bool) (aW:List (qW)) (bq:Int) (bz:Int) (bY:Int) (bX:Int) (dB:Int) (dC:Int) (dD:Int) (dh:Int) (di:Int) (dm:Int) (dn:Int) (a3:Int) (l4:List (cZ)):Option (Int):=some (CkX ⟨ax,av,aH,aG,aQ,aN,aM,bn,aW⟩ ⟨bq,bz,⟨bY,bX⟩,⟨dB,dC⟩,dD⟩ ⟨⟨dh,di⟩,⟨dm,dn⟩⟩ a3 l4)
theorem gH.calls (ax:Int) (av:Int) (aH:Int) (aG:Int) (aQ:Int) (aN:Int) (aM:Int) (fJ:Option Addr) (fK:Nat) (bn:List Bool) (fU:Option Addr) (fM:Nat) (aW:List (qW)) (bq:Int) (bz:Int) (bY:Int) (bX:Int) (dB:Int) (dC:Int) (dD:Int) (dh:Int) (di:Int) (dm:Int) (dn:Int) (a3:Int) (A4:Option Addr) (c4:Nat) (l4:List (cZ)) (r:Int) (w:World) (nP:Kd.C Kd.bool w fJ bn.length bn) (nQ:bn.length≤fK) (nR:Kd.C Cm w fU aW.length aW) (nS:aW.length≤fM) (hr4:Kd.C Qe w A4 l4.length l4) (hc4:l4.length≤c4) (h:gH.f ax av aH aG aQ aN aM bn aW bq bz bY bX dB dC dD dh di dm dn a3 l4 = some r):
 Calls Try.prog 51 #[.agg #[Z ab ax,Z ab av,Z ab aH,Z ab aG,Z ab aQ,Z ab aN,Z ab aM,.slice fJ bn.length fK,.slice fU aW.length fM],.agg #[Z ab bq,Z ab bz,Z ab bY,Z ab bX,Z ab dB,Z ab dC,Z ab dD],.agg #[Z ab dh,Z ab di,Z ab dm,Z ab dn],Z ab a3,.slice A4 l4.length c4] w fun e w'=>e = .returned (Z ab r)∧Below w.heap.size w w':=by
 cases h
 exact Qo ⟨ax,av,aH,aG,aQ,aN,aM,bn,aW⟩ ⟨bq,bz,⟨bY,bX⟩,⟨dB,dC⟩,dD⟩ ⟨⟨dh,di⟩,⟨dm,dn⟩⟩ a3 A4 c4 l4 fJ fU fK fM w nQ nP nS nR hr4 hc4
end Go.Proofs.Ytmhaiihjfgfaoaa.Pr
end
section
namespace Go.Proofs.Ytmhaiihjfgfaoaa.Pr
open Go.RowKit Go.Proofs.YtmhaiihjfgfaoaaW.PrintWords Go.Proofs.YtmhaiihjfgfaoaaW.PrintLast Go.Proofs.YtmhaiihjfgfaoaaW.PrintMore
attribute [local go_sem] dw dx dM dN dz
set_option linter.unusedVariables false
set_option linter.unusedSimpArgs false
def ib.f (k:Nat) (ax:Int) (av:Int) (aH:Int) (aG:Int) (aQ:Int) (aN:Int):Option (Bool):=(bH.f k ax av aH aG).bind fun GI=>(if GI = 0 then (if aQ ≥ 0 then (if aQ≤aN then (some (decide (aN≤1073741824))) else (some false)) else (some false)) else (some false))
set_option maxHeartbeats 8000000 in
set_option maxRecDepth 100000 in
theorem ib.calls (k:Nat) (ax:Int) (av:Int) (aH:Int) (aG:Int) (aQ:Int) (aN:Int) (r:Bool) (w:World) (h:ib.f k ax av aH aG aQ aN = some r):
 Calls Try.prog 93 #[.agg #[Z ab ax,Z ab av,Z ab aH,Z ab aG,Z ab aQ,Z ab aN]] w fun e w'=>e = .returned (.bool r)∧Below w.heap.size w w':=by
 have abI:=Try.underlying81
 have pG:=Try.underlying31
 have HB:=ag.mk (Below.refl w.heap.size w)
 have H:((bH.f k ax av aH aG).bind fun GI=>(if GI = 0 then (if aQ ≥ 0 then (if aQ≤aN then (some (decide (aN≤1073741824))) else (some false)) else (some false)) else (some false))) = some r:=h
 clear h
 replace H:=Option.bind_eq_some_iff.mp H
 obtain ⟨GI,Yt,H⟩:=H
 replace H:(if GI = 0 then (if aQ ≥ 0 then (if aQ≤aN then (some (decide (aN≤1073741824))) else (some false)) else (some false)) else (some false)) = some r:=H
 have A2:=ag.mk Yt
 clear Yt
 by_cases c3:GI = 0
 ·rw [if_pos c3] at H
  have PY:(GI == 0) = true:=beq_iff_eq.mpr c3
  have Yu:(GI != 0) = false:=bne_eq_false_iff_eq.mpr c3
  clear c3
  by_cases c4:aQ ≥ 0
  ·rw [if_pos c4] at H
   have xW:decide (0≤aQ) = true:=decide_eq_true c4
   clear c4
   by_cases c5:aQ≤aN
   ·rw [if_pos c5] at H
    have Ls:decide (aQ≤aN) = true:=decide_eq_true c5
    clear c5
    obtain rfl:=Option.some.inj H
    go_enter Try.func93,Try.ntmps93
    go_wp2_with (first|((with_reducible refine aI (N:=1) rfl ?_);refine aC (by rfl) (N:=1) (by rfl) (cs:=#[Z ab ax,Z ab av,Z ab aH,Z ab aG,Z ab aQ,Z ab aN]) (t:=81) gu ?_;intro ahO hg w6 hbox hb;have q9:=ag.mk (hbox);have ahP:=cB HB hg;have ahQ:=cB HB hg;replace HB:=cK HB hb;clear hb hbox hg;obtain ⟨Cs,Ct,J6,J7,J8,J9,Cu,Cv,Ka,Kb,Ke,Kg⟩:=EX q9.out)|((with_reducible refine aR (f:=67) rfl ?_);refine bU (some 5) rfl rfl Try.func67 aT rfl #[.agg #[Z ab ax,Z ab av,Z ab aH,Z ab aG]] rfl jQ ?_;(with_reducible refine (bH.calls k ax av aH aG GI _ A2.out).mono ?_);rintro e w8 ⟨rfl,hb⟩;refine ⟨_,rfl,?_⟩;replace q9:=bJ q9 hb;replace HB:=cK HB hb;(try clear hb);(try clear hb2);(try clear hk);(try clear hi);obtain ⟨Fv,Fw,UL,UM,UN,UO,Fx,Fy,UQ,UR,UT,UU⟩:=EX q9.out))
    go_ret
    exact ⟨mf,eZ⟩
   ·rw [if_neg c5] at H
    have Ls:decide (aQ≤aN) = false:=decide_eq_false c5
    clear c5
    obtain rfl:=Option.some.inj H
    go_enter Try.func93,Try.ntmps93
    go_wp2_with (first|((with_reducible refine aI (N:=1) rfl ?_);refine aC (by rfl) (N:=1) (by rfl) (cs:=#[Z ab ax,Z ab av,Z ab aH,Z ab aG,Z ab aQ,Z ab aN]) (t:=81) gu ?_;intro ahO hg w10 hbox hb;have q9:=ag.mk (hbox);have ahP:=cB HB hg;have ahQ:=cB HB hg;replace HB:=cK HB hb;clear hb hbox hg;obtain ⟨uG,uH,zX,zY,Dw,Dx,uI,uJ,zZ,z8,Dy,Dz⟩:=EX q9.out)|((with_reducible refine aR (f:=67) rfl ?_);refine bU (some 5) rfl rfl Try.func67 aT rfl #[.agg #[Z ab ax,Z ab av,Z ab aH,Z ab aG]] rfl jQ ?_;(with_reducible refine (bH.calls k ax av aH aG GI _ A2.out).mono ?_);rintro e F6 ⟨rfl,hb⟩;refine ⟨_,rfl,?_⟩;replace q9:=bJ q9 hb;replace HB:=cK HB hb;(try clear hb);(try clear hb2);(try clear hk);(try clear hi);obtain ⟨vS,vT,zR,zS,DZ,D5,vU,vV,zT,zU,D6,D7⟩:=EX q9.out))
    go_ret
    exact ⟨mf,eZ⟩
  ·rw [if_neg c4] at H
   have xW:decide (0≤aQ) = false:=decide_eq_false c4
   clear c4
   obtain rfl:=Option.some.inj H
   go_enter Try.func93,Try.ntmps93
   go_wp2_with (first|((with_reducible refine aI (N:=1) rfl ?_);refine aC (by rfl) (N:=1) (by rfl) (cs:=#[Z ab ax,Z ab av,Z ab aH,Z ab aG,Z ab aQ,Z ab aN]) (t:=81) gu ?_;intro ahO hg w14 hbox hb;have q9:=ag.mk (hbox);have ahP:=cB HB hg;have ahQ:=cB HB hg;replace HB:=cK HB hb;clear hb hbox hg;obtain ⟨uA,uB,zy,zz,D8,D9,uC,uD,zA,zB,Ea,Eb⟩:=EX q9.out)|((with_reducible refine aR (f:=67) rfl ?_);refine bU (some 5) rfl rfl Try.func67 aT rfl #[.agg #[Z ab ax,Z ab av,Z ab aH,Z ab aG]] rfl jQ ?_;(with_reducible refine (bH.calls k ax av aH aG GI _ A2.out).mono ?_);rintro e w16 ⟨rfl,hb⟩;refine ⟨_,rfl,?_⟩;replace q9:=bJ q9 hb;replace HB:=cK HB hb;(try clear hb);(try clear hb2);(try clear hk);(try clear hi);obtain ⟨rU,rV,wT,wU,Ec,Ed,rW,rX,wV,wW,Ee,Ef⟩:=EX q9.out))
   go_ret
   exact ⟨mf,eZ⟩
 ·rw [if_neg c3] at H
  have PY:(GI == 0) = false:=beq_eq_false_iff_ne.mpr c3
  have Yu:(GI != 0) = true:=bne_iff_ne.mpr c3
  obtain rfl:=Option.some.inj H
  go_enter Try.func93,Try.ntmps93
  go_wp2_with (first|((with_reducible refine aI (N:=1) rfl ?_);refine aC (by rfl) (N:=1) (by rfl) (cs:=#[Z ab ax,Z ab av,Z ab aH,Z ab aG,Z ab aQ,Z ab aN]) (t:=81) gu ?_;intro ahO hg w18 hbox hb;have q9:=ag.mk (hbox);have ahP:=cB HB hg;have ahQ:=cB HB hg;replace HB:=cK HB hb;clear hb hbox hg;obtain ⟨wh,wm,Ar,Au,Av,Aw,wo,wu,Ay,Az,AA,AB⟩:=EX q9.out)|((with_reducible refine aR (f:=67) rfl ?_);refine bU (some 5) rfl rfl Try.func67 aT rfl #[.agg #[Z ab ax,Z ab av,Z ab aH,Z ab aG]] rfl jQ ?_;(with_reducible refine (bH.calls k ax av aH aG GI _ A2.out).mono ?_);rintro e Fa ⟨rfl,hb⟩;refine ⟨_,rfl,?_⟩;replace q9:=bJ q9 hb;replace HB:=cK HB hb;(try clear hb);(try clear hb2);(try clear hk);(try clear hi)))
  go_ret
  exact ⟨mf,eZ⟩
end Go.Proofs.Ytmhaiihjfgfaoaa.Pr
end
section
namespace Go.Proofs.Ytmhaiihjfgfaoaa.Pr
open Go.RowKit Go.Proofs.YtmhaiihjfgfaoaaW.PrintWords Go.Proofs.YtmhaiihjfgfaoaaW.PrintLast Go.Proofs.YtmhaiihjfgfaoaaW.PrintMore Go.Proofs.Ytmhaiihjfgfaoaa.Gl
set_option linter.unusedVariables false
def eY.f (ax:Int) (av:Int) (aH:Int) (aG:Int) (bq:Int) (bz:Int) (bY:Int) (bX:Int):Option (Int):=some (pE ⟨⟨ax,av⟩,⟨aH,aG⟩⟩ ⟨⟨bq,bz⟩,⟨bY,bX⟩⟩)
theorem eY.calls (ax:Int) (av:Int) (aH:Int) (aG:Int) (bq:Int) (bz:Int) (bY:Int) (bX:Int) (r:Int) (w:World) (h:eY.f ax av aH aG bq bz bY bX = some r):
 Calls Try.prog 89 #[.agg #[Z ab ax,Z ab av,Z ab aH,Z ab aG],.agg #[Z ab bq,Z ab bz,Z ab bY,Z ab bX]] w fun e w'=>e = .returned (Z ab r)∧Below w.heap.size w w':=by
 cases h
 exact Am ⟨⟨ax,av⟩,⟨aH,aG⟩⟩ ⟨⟨bq,bz⟩,⟨bY,bX⟩⟩ w
end Go.Proofs.Ytmhaiihjfgfaoaa.Pr
end
section
namespace Go.Proofs.Ytmhaiihjfgfaoaa.Pr
open Go.RowKit Go.Proofs.YtmhaiihjfgfaoaaW.PrintWords Go.Proofs.YtmhaiihjfgfaoaaW.PrintLast Go.Proofs.YtmhaiihjfgfaoaaW.PrintMore
attribute [local go_sem] dw dx dM dN dz
set_option linter.unusedVariables false
set_option linter.unusedSimpArgs false
def cz.l0:Nat→Int→Int→List (cZ)→Int→Int→Int→Int→Int→Int→Int→Int→Int→Int→Int→Int→Int→Int→Int→Option (Int)
 |0,_,_,_,_,_,_,_,_,_,_,_,_,_,_,_,_,_,_=>none
 |k+1,x1,x9,RF,x13,x14,adO,GJ,adP,adQ,adR,adS,adT,UW,UX,UY,UZ,U0,U1=>if x14 < x13 then (if 0≤x14 then (if x14 < (RF.length:Int) then ((aV.f (wrap64 (x1+GJ)) U0 U1).bind fun aly=>(if aly = true then ((eY.f ((bE RF x14).f0.f0) ((bE RF x14).f0.f1) ((bE RF x14).f1.f0) ((bE RF x14).f1.f1) UW UX UY UZ).bind fun Qq=>(cz.l0 k (wrap64 (x1+GJ)) (mx x9 Qq) RF x13 (wrap64 (x14+1)) adO GJ adP adQ adR adS adT UW UX UY UZ U0 U1)) else (cz.l0 k (wrap64 (x1+GJ)) x9 RF x13 (wrap64 (x14+1)) adO GJ adP adQ adR adS adT UW UX UY UZ U0 U1))) else (none)) else (none)) else (some x9)
def cz.f (k:Nat) (ax:Int) (av:Int) (aH:Int) (aG:Int) (aQ:Int) (aN:Int) (aM:Int) (a1:Int) (l2:List (cZ)) (nX:Int) (nY:Int) (nZ:Int) (oh:Int) (ni:Int) (nk:Int):Option (Int):=cz.l0 k a1 0 l2 (l2.length:Int) 0 ax av aH aG aQ aN aM nX nY nZ oh ni nk
set_option maxHeartbeats 8000000 in
set_option maxRecDepth 100000 in
theorem cz.calls (k:Nat) (ax:Int) (av:Int) (aH:Int) (aG:Int) (aQ:Int) (aN:Int) (aM:Int) (a1:Int) (A2:Option Addr) (c2:Nat) (l2:List (cZ)) (nX:Int) (nY:Int) (nZ:Int) (oh:Int) (ni:Int) (nk:Int) (r:Int) (w:World) (hr2:Kd.C Qe w A2 l2.length l2) (hc2:l2.length≤c2) (h:cz.f k ax av aH aG aQ aN aM a1 l2 nX nY nZ oh ni nk = some r):
 Calls Try.prog 94 #[.agg #[Z ab ax,Z ab av,Z ab aH,Z ab aG,Z ab aQ,Z ab aN,Z ab aM],Z ab a1,.slice A2 l2.length c2,.agg #[Z ab nX,Z ab nY,Z ab nZ,Z ab oh,Z ab ni,Z ab nk]] w fun e w'=>e = .returned (Z ab r)∧Below w.heap.size w w':=by
 have xX:=Try.underlying29
 have abI:=Try.underlying81
 have pG:=Try.underlying31
 have HR2:=ag.mk hr2
 have HC2:=ag.mk hc2
 clear hr2 hc2
 have HB:=ag.mk (Below.refl w.heap.size w)
 have H:(cz.l0 k a1 0 l2 (l2.length:Int) 0 ax av aH aG aQ aN aM nX nY nZ oh ni nk) = some r:=h
 clear h
 have H':=ag.mk H
 clear H
 go_enter Try.func94,Try.ntmps94
 go_wp2_with (first|((with_reducible refine aI (N:=4) rfl ?_);refine aC (by rfl) (N:=4) (by rfl) (cs:=#[Z ab ax,Z ab av,Z ab aH,Z ab aG,Z ab aQ,Z ab aN,Z ab aM]) (t:=29) gu ?_;intro ar3 hg w5 hbox hb;have rf:=ag.mk (hbox);have aGG:=cB HB hg;have aGH:=cB HB hg;replace HB:=cK HB hb;clear hb hbox hg)|((with_reducible refine aI (N:=7) rfl ?_);refine aC (by rfl) (N:=7) (by rfl) (cs:=#[Z ab nX,Z ab nY,Z ab nZ,Z ab oh,Z ab ni,Z ab nk]) (t:=81) gu ?_;intro ar4 hg w6 hbox hb;have wX:=ag.mk (hbox);have aGI:=cB HB hg;have aGJ:=cB HB hg;have Sz:=l6 rf hg;have SA:=l9 rf hg;replace rf:=bJ rf hb;replace HB:=cK HB hb;clear hb hbox hg))
 go_loopg [1,9,14] k (fun kq v1 v9 v14 w'=>∃ (pK:Int) (LD:Int) (fq:Int),v1 = Z ab pK∧v9 = Z ab LD∧v14 = Z ab fq∧ag (cz.l0 kq pK LD l2 (l2.length:Int) fq ax av aH aG aQ aN aM nX nY nZ oh ni nk = some r)∧ag (kq≤k)∧ag (w'.heap[ar3]? = some (.cells #[Z ab ax,Z ab av,Z ab aH,Z ab aG,Z ab aQ,Z ab aN,Z ab aM] 29 (0,0)))∧ag (w'.heap[ar4]? = some (.cells #[Z ab nX,Z ab nY,Z ab nZ,Z ab oh,Z ab ni,Z ab nk] 81 (0,0)))∧ag (Below w.heap.size w w'))
 case atStart=>exact ⟨(a1),(0),(0),sG,sG,sG,H',⟨Nat.le_refl _⟩,⟨iU⟩,⟨iU⟩,⟨eZ⟩⟩
 case round =>
  clear H'
  try clear c2
  try clear p2
  obtain ⟨pK,LD,fq,rfl,rfl,rfl,HA,HK1,rf,wX,HB⟩:=hrel
  cases gk with
  |zero=>exact absurd HA.out (by simp [cz.l0])
  |succ k1 =>
   have H:=HA.out
   clear HA
   simp only [cz.l0] at H
   by_cases c7:fq < (l2.length:Int)
   ·rw [if_pos c7] at H
    have abw:decide (fq < (l2.length:Int)) = true:=decide_eq_true c7
    clear c7
    by_cases c8:0≤fq
    ·rw [if_pos c8] at H
     have LF:decide (0≤fq) = true:=decide_eq_true c8
     clear c8
     by_cases c9:fq < (l2.length:Int)
     ·rw [if_pos c9] at H
      have aCz:decide (fq < (l2.length:Int)) = true:=decide_eq_true c9
      clear c9
      replace H:=Option.bind_eq_some_iff.mp H
      obtain ⟨aly,Qr,H⟩:=H
      replace H:(if aly = true then ((eY.f ((bE l2 fq).f0.f0) ((bE l2 fq).f0.f1) ((bE l2 fq).f1.f0) ((bE l2 fq).f1.f1) nX nY nZ oh).bind fun Qq=>(cz.l0 k1 (wrap64 (pK+av)) (mx LD Qq) l2 (l2.length:Int) (wrap64 (fq+1)) ax av aH aG aQ aN aM nX nY nZ oh ni nk)) else (cz.l0 k1 (wrap64 (pK+av)) LD l2 (l2.length:Int) (wrap64 (fq+1)) ax av aH aG aQ aN aM nX nY nZ oh ni nk)) = some r:=H
      have A10:=ag.mk Qr
      clear Qr
      by_cases c11:aly = true
      ·subst c11
       have H1:((eY.f ((bE l2 fq).f0.f0) ((bE l2 fq).f0.f1) ((bE l2 fq).f1.f0) ((bE l2 fq).f1.f1) nX nY nZ oh).bind fun Qq=>(cz.l0 k1 (wrap64 (pK+av)) (mx LD Qq) l2 (l2.length:Int) (wrap64 (fq+1)) ax av aH aG aQ aN aM nX nY nZ oh ni nk)) = some r:=by rw [if_pos rfl] at H;exact H
       clear H
       have H:=H1
       clear H1
       replace H:=Option.bind_eq_some_iff.mp H
       obtain ⟨Qq,Y2,H⟩:=H
       replace H:(cz.l0 k1 (wrap64 (pK+av)) (mx LD Qq) l2 (l2.length:Int) (wrap64 (fq+1)) ax av aH aG aQ aN aM nX nY nZ oh ni nk) = some r:=H
       have A12:=ag.mk Y2
       clear Y2
       obtain ⟨apF,SB⟩:∃ j_:Int,(mx LD Qq) = j_:=⟨_,rfl⟩
       replace H:(cz.l0 k1 (wrap64 (pK+av)) apF l2 (l2.length:Int) (wrap64 (fq+1)) ax av aH aG aQ aN aM nX nY nZ oh ni nk) = some r:=by first|(rw [SB] at H;exact H)|(simp only [SB] at H ⊢;exact H)
       (try rw [SB] at A10)
       (try rw [SB] at A12)
       have aCA:(if LD < Qq then Qq else LD) = apF:=SB
       have H':=ag.mk H
       clear H
       have abJ:0≤(fq:Int):=of_decide_eq_true zx
       have abK:fq < (l2.length:Int):=of_decide_eq_true zx
       obtain ⟨ar5,apG,AJ,AL,AO,AP⟩:=FC HR2.out fq abJ abK
       cases apG
       replace AJ:=(HB.out.cell (World.block_lt_of_cell? w _ AJ)).trans AJ
       replace AL:=(HB.out.cell (World.block_lt_of_cell? w _ AL)).trans AL
       replace AO:=(HB.out.cell (World.block_lt_of_cell? w _ AO)).trans AO
       replace AP:=(HB.out.cell (World.block_lt_of_cell? w _ AP)).trans AP
       replace abJ:=eq_true abJ
       replace abK:=eq_true abK
       go_wp2_with (first|((with_reducible refine aI (N:=11) rfl ?_);refine aC (by rfl) (N:=11) (by rfl) (cs:=#[Z ab 0,Z ab 0,Z ab 0,Z ab 0]) (t:=31) gu ?_;intro anX hg w14 hbox hb;have SC:=ag.mk (hbox);have ar6:=cB HB hg;have ar7:=cB HB hg;have Ky:=l6 rf hg;have Kz:=l9 rf hg;have KA:=l6 wX hg;have KC:=l9 wX hg;replace rf:=bJ rf hb;replace wX:=bJ wX hb;replace HB:=cK HB hb;clear hb hbox hg;have anN:=Kz.out;have anO:=Ky.out;have ahq:=KC.out;have ahr:=KA.out;obtain ⟨rU,rV,wT,wU,rW,rX,wV,wW⟩:=jr SC.out;have anY:=Sz.out;have anZ:=SA.out;obtain ⟨wh,wm,Ar,Au,Av,Aw,Eg,wo,wu,Ay,Az,AA,AB,Eh⟩:=iH rf.out;obtain ⟨Ml,Mm,Mo,Mq,U2,U3,Mr,Ms,Mt,Mv,U4,U5⟩:=EX wX.out)|((with_reducible refine aR (f:=74) rfl ?_);refine bU (some 27) rfl rfl Try.func74 aT rfl #[Z ab (wrap64 (pK+av)),Z ab ni,Z ab nk] rfl jQ ?_;(with_reducible refine (aV.calls (wrap64 (pK+av)) ni nk true _ A10.out).mono ?_);rintro e w' ⟨rfl,⟨nd,rfl⟩⟩;refine ⟨_,rfl,?_⟩)|((with_reducible refine aR (f:=89) rfl ?_);refine bU (some 32) rfl rfl Try.func89 aT rfl #[.agg #[Z ab ((bE l2 fq).f0.f0),Z ab ((bE l2 fq).f0.f1),Z ab ((bE l2 fq).f1.f0),Z ab ((bE l2 fq).f1.f1)],.agg #[Z ab nX,Z ab nY,Z ab nZ,Z ab oh]] rfl jQ ?_;(with_reducible refine (eY.calls ((bE l2 fq).f0.f0) ((bE l2 fq).f0.f1) ((bE l2 fq).f1.f0) ((bE l2 fq).f1.f1) nX nY nZ oh Qq _ A12.out).mono ?_);rintro e w21 ⟨rfl,hb⟩;refine ⟨_,rfl,?_⟩;have Lu:=bJ rf hb;have Lv:=bJ wX hb;have Lx:=ag.mk (af (g:=anX) (o:=.cells #[Z ab ((bE l2 fq).f0.f0),Z ab ((bE l2 fq).f0.f1),Z ab ((bE l2 fq).f1.f0),Z ab ((bE l2 fq).f1.f1)] 31 (0,0)) (by (with_reducible repeat (first|refine aA ?_ _|refine au ?_|refine aa ?_ _));refine az (cs:=#[Z ab ((bE l2 fq).f0.f0),Z ab ((bE l2 fq).f0.f1),Z ab ((bE l2 fq).f1.f0),Z ab 0]) ?_ 3 _ rfl;(with_reducible repeat (first|refine aA ?_ _|refine au ?_|refine aa ?_ _));refine az (cs:=#[Z ab ((bE l2 fq).f0.f0),Z ab ((bE l2 fq).f0.f1),Z ab 0,Z ab 0]) ?_ 2 _ rfl;(with_reducible repeat (first|refine aA ?_ _|refine au ?_|refine aa ?_ _));refine az (cs:=#[Z ab ((bE l2 fq).f0.f0),Z ab 0,Z ab 0,Z ab 0]) ?_ 1 _ rfl;(with_reducible repeat (first|refine aA ?_ _|refine au ?_|refine aa ?_ _));refine az (cs:=#[Z ab 0,Z ab 0,Z ab 0,Z ab 0]) ?_ 0 _ rfl;(with_reducible repeat (first|refine aA ?_ _|refine au ?_|refine aa ?_ _));exact SC.out) hb);have LA:=cK HB hb;clear rf;clear wX;clear SC;clear HB;have rf:=Lu;have wX:=Lv;have SC:=Lx;have HB:=LA;clear Lu Lv Lx LA;(try clear hb);(try clear hb2);(try clear hk);(try clear hi)))
       go_roundg k1
       case measure=>have:=HK1.out;omega
       case rel=>exact ⟨(wrap64 (pK+av)),(apF),(wrap64 (fq+1)),sG,(by first|rfl|(simp;done)|(simp only [← SB] <;> (first|rfl|simp))|(simp [*];done)),sG,H',⟨YA⟩,⟨iU⟩,⟨iU⟩,⟨eZ⟩⟩
      ·replace c11:=Bool.eq_false_iff.mpr c11
       subst c11
       have H1:(cz.l0 k1 (wrap64 (pK+av)) LD l2 (l2.length:Int) (wrap64 (fq+1)) ax av aH aG aQ aN aM nX nY nZ oh ni nk) = some r:=by rw [if_neg (show ¬ (false = true) by decide)] at H;exact H
       clear H
       have H:=H1
       clear H1
       have H':=ag.mk H
       clear H
       have abJ:0≤(fq:Int):=of_decide_eq_true zx
       have abK:fq < (l2.length:Int):=of_decide_eq_true zx
       obtain ⟨ar5,apG,AJ,AL,AO,AP⟩:=FC HR2.out fq abJ abK
       cases apG
       replace AJ:=(HB.out.cell (World.block_lt_of_cell? w _ AJ)).trans AJ
       replace AL:=(HB.out.cell (World.block_lt_of_cell? w _ AL)).trans AL
       replace AO:=(HB.out.cell (World.block_lt_of_cell? w _ AO)).trans AO
       replace AP:=(HB.out.cell (World.block_lt_of_cell? w _ AP)).trans AP
       replace abJ:=eq_true abJ
       replace abK:=eq_true abK
       go_wp2_with (first|((with_reducible refine aI (N:=11) rfl ?_);refine aC (by rfl) (N:=11) (by rfl) (cs:=#[Z ab 0,Z ab 0,Z ab 0,Z ab 0]) (t:=31) gu ?_;intro anX hg w22 hbox hb;have SC:=ag.mk (hbox);have ar6:=cB HB hg;have ar7:=cB HB hg;have Ky:=l6 rf hg;have Kz:=l9 rf hg;have KA:=l6 wX hg;have KC:=l9 wX hg;replace rf:=bJ rf hb;replace wX:=bJ wX hb;replace HB:=cK HB hb;clear hb hbox hg;have an0:=Kz.out;have an1:=Ky.out;have ahR:=KC.out;have ahS:=KA.out;obtain ⟨AQ,AR,AU,AV,AX,AY,AZ,A9⟩:=jr SC.out;have ar8:=Sz.out;have ar9:=SA.out;obtain ⟨wY,wZ,xc,xe,xg,xh,xk,xm,xn,xq,xu,xw,xx,xy⟩:=iH rf.out;obtain ⟨L9,Ma,U6,U7,adU,adV,Mc,Md,U8,U9,adW,adX⟩:=EX wX.out)|((with_reducible refine aR (f:=74) rfl ?_);refine bU (some 27) rfl rfl Try.func74 aT rfl #[Z ab (wrap64 (pK+av)),Z ab ni,Z ab nk] rfl jQ ?_;(with_reducible refine (aV.calls (wrap64 (pK+av)) ni nk false _ A10.out).mono ?_);rintro e w' ⟨rfl,⟨nd,rfl⟩⟩;refine ⟨_,rfl,?_⟩))
       go_roundg k1
       case measure=>have:=HK1.out;omega
       case rel=>exact ⟨(wrap64 (pK+av)),(LD),(wrap64 (fq+1)),sG,sG,sG,H',⟨YA⟩,⟨iU⟩,⟨iU⟩,⟨eZ⟩⟩
     ·rw [if_neg c9] at H
      exact absurd H (by simp)
    ·rw [if_neg c8] at H
     exact absurd H (by simp)
   ·rw [if_neg c7] at H
    have abw:decide (fq < (l2.length:Int)) = false:=decide_eq_false c7
    clear c7
    obtain rfl:=Option.some.inj H
    go_wp2
    go_ret
    exact ⟨mf,eZ⟩
end Go.Proofs.Ytmhaiihjfgfaoaa.Pr
end
section
namespace Go.Proofs.Ytmhaiihjfgfaoaa.Gl
open Go.RowKit Go.Proofs.YtmhaiihjfgfaoaaW.PrintWords Go.Proofs.YtmhaiihjfgfaoaaW.PrintLast Go.Proofs.YtmhaiihjfgfaoaaW.PrintMore Go.Proofs.Ytmhaiihjfgfaoaa.Pr
set_option linter.unusedVariables false
def BS (dive:Int) (p:xz):List cZ→Int→Int→Int
 |[],_,acc=>acc
 |x :: l,t,acc=>BS dive p l (t+dive) (if p.f1≤t+dive∧t+dive≤p.f2 then max acc (pE x p.f0) else acc)
theorem ahT {x:Int} (h:-9223372036854775808≤x∧x < 9223372036854775808):wrap64 x = x:=by unfold wrap64;omega
theorem Y3 (v:iw) (hv:uq v = true) (p:xz) (l:List cZ) (hl:l.length≤64):∀ (m i K:Nat) (t acc:Int),i+m = l.length→m+1≤K→(0≤t∧t≤1073741824+(i:Int)*131072)→
 cz.l0 K t acc l (l.length:Int) (i:Int) v.speed v.dive v.use.f0 v.use.f1 v.drift.f0 v.drift.f1 v.reserve p.f0.f0.f0 p.f0.f0.f1 p.f0.f1.f0 p.f0.f1.f1 p.f1 p.f2 = some (BS v.dive p (l.drop i) t acc)
 |0,i,K+1,t,acc,h,hk,h0=>by
  rw [cz.l0,if_neg (by omega),List.drop_eq_nil_of_le (by omega)];rfl
 |m+1,i,K+1,t,acc,h,hk,h0=>by
  have hi:i < l.length:=by omega
  have e:bE l (i:Int) = l[i]:=by
   unfold bE
   simp [hi]
  have hd:1≤v.dive∧v.dive≤131072:=by
   unfold uq at hv
   simp only [Bool.and_eq_true,dR] at hv
   omega
  rw [List.drop_eq_getElem_cons hi]
  unfold BS
  rw [cz.l0,if_pos (by omega),if_pos (by omega),if_pos (by omega),e,ahT (x:=t+v.dive) (by omega),ahT (x:=(i:Int)+1) (by omega),Gb,Option.bind_some]
  have hin:eY.f l[i].f0.f0 l[i].f0.f1 l[i].f1.f0 l[i].f1.f1 p.f0.f0.f0 p.f0.f0.f1 p.f0.f1.f0 p.f0.f1.f1 = some (pE l[i] p.f0):=rfl
  rw [hin,Option.bind_some]
  have ih:=fun aCB=>Y3 v hv p l hl m (i+1) K (t+v.dive) aCB (by omega) (by omega) ⟨by omega,by omega⟩
  by_cases hb:p.f1≤t+v.dive∧t+v.dive≤p.f2
  ·rw [if_pos (dR.2 hb),if_pos hb,FW]
   exact ih _
  ·rw [if_neg (fun hq=>hb (dR.1 hq)),if_neg hb]
   exact ih _
theorem ahU (v:iw) (hv:uq v = true) (p:xz) (l:List cZ) (hl:l.length≤64) (t:Int) (ht:0≤t∧t≤1073741824) (K:Nat) (hk:l.length+1≤K):
 cz.f K v.speed v.dive v.use.f0 v.use.f1 v.drift.f0 v.drift.f1 v.reserve t l p.f0.f0.f0 p.f0.f0.f1 p.f0.f1.f0 p.f0.f1.f1 p.f1 p.f2 = some (BS v.dive p l t 0):=by
 have:=Y3 v hv p l hl l.length 0 K t 0 (Nat.zero_add _) hk ⟨ht.1,by omega⟩
 rw [List.drop_zero] at this
 exact this
def sJ (p:xz):Bool:=uK p.f0 && decide (0≤p.f1) && decide (p.f1≤p.f2) && decide (p.f2≤1073741824)
theorem KD (p:xz):ib.f 4 p.f0.f0.f0 p.f0.f0.f1 p.f0.f1.f0 p.f0.f1.f1 p.f1 p.f2 = some (sJ p):=by
 unfold ib.f sJ
 rw [P7 p.f0,Option.bind_some]
 unfold BR
 cases uK p.f0 with
 |false=>rfl
 |true =>
  rw [if_pos rfl,if_pos rfl]
  by_cases h1:p.f1 ≥ 0
  ·rw [if_pos h1,decide_eq_true (show 0≤p.f1 from h1)]
   by_cases h2:p.f1≤p.f2
   ·rw [if_pos h2,decide_eq_true h2];rfl
   ·rw [if_neg h2,decide_eq_false h2];rfl
  ·rw [if_neg h1,decide_eq_false (show ¬(0≤p.f1) from h1)];rfl
end Go.Proofs.Ytmhaiihjfgfaoaa.Gl
end
section
namespace Go.Proofs.Ytmhaiihjfgfaoaa.Pr
open Go.RowKit Go.Proofs.YtmhaiihjfgfaoaaW.PrintWords Go.Proofs.YtmhaiihjfgfaoaaW.PrintLast Go.Proofs.YtmhaiihjfgfaoaaW.PrintMore
attribute [local go_sem] dw dx dM dN dz
set_option linter.unusedVariables false
set_option linter.unusedSimpArgs false
def bK.l0:Nat→Int→List (cZ)→Int→Int→Int→Int→Int→Int→Int→Int→Int→Int→Int→Int→Int→Int→Int→Option (Bool)
 |0,_,_,_,_,_,_,_,_,_,_,_,_,_,_,_,_,_=>none
 |k+1,x1,x11,RF,x13,adY,GK,adZ,ad1,ad2,ad3,ad4,Va,Vb,Vd,Ve,Vf,Vg=>if x13 < RF then (if 0≤x13 then (if x13 < (x11.length:Int) then ((aV.f (wrap64 (x1+GK)) Vf Vg).bind fun alz=>(if alz = true then ((eY.f ((bE x11 x13).f0.f0) ((bE x11 x13).f0.f1) ((bE x11 x13).f1.f0) ((bE x11 x13).f1.f1) Va Vb Vd Ve).bind fun GL=>(if GL = 0 then (bK.l0 k (wrap64 (x1+GK)) x11 RF (wrap64 (x13+1)) adY GK adZ ad1 ad2 ad3 ad4 Va Vb Vd Ve Vf Vg) else (some true))) else (bK.l0 k (wrap64 (x1+GK)) x11 RF (wrap64 (x13+1)) adY GK adZ ad1 ad2 ad3 ad4 Va Vb Vd Ve Vf Vg))) else (none)) else (none)) else (some false)
def bK.f (k:Nat) (ax:Int) (av:Int) (aH:Int) (aG:Int) (aQ:Int) (aN:Int) (aM:Int) (a1:Int) (l2:List (cZ)) (nX:Int) (nY:Int) (nZ:Int) (oh:Int) (ni:Int) (nk:Int):Option (Bool):=bK.l0 k a1 l2 (l2.length:Int) 0 ax av aH aG aQ aN aM nX nY nZ oh ni nk
set_option maxHeartbeats 8000000 in
set_option maxRecDepth 100000 in
theorem bK.calls (k:Nat) (ax:Int) (av:Int) (aH:Int) (aG:Int) (aQ:Int) (aN:Int) (aM:Int) (a1:Int) (A2:Option Addr) (c2:Nat) (l2:List (cZ)) (nX:Int) (nY:Int) (nZ:Int) (oh:Int) (ni:Int) (nk:Int) (r:Bool) (w:World) (hr2:Kd.C Qe w A2 l2.length l2) (hc2:l2.length≤c2) (h:bK.f k ax av aH aG aQ aN aM a1 l2 nX nY nZ oh ni nk = some r):
 Calls Try.prog 103 #[.agg #[Z ab ax,Z ab av,Z ab aH,Z ab aG,Z ab aQ,Z ab aN,Z ab aM],Z ab a1,.slice A2 l2.length c2,.agg #[Z ab nX,Z ab nY,Z ab nZ,Z ab oh,Z ab ni,Z ab nk]] w fun e w'=>e = .returned (.bool r)∧Below w.heap.size w w':=by
 have xX:=Try.underlying29
 have abI:=Try.underlying81
 have pG:=Try.underlying31
 have HR2:=ag.mk hr2
 have HC2:=ag.mk hc2
 clear hr2 hc2
 have HB:=ag.mk (Below.refl w.heap.size w)
 have H:(bK.l0 k a1 l2 (l2.length:Int) 0 ax av aH aG aQ aN aM nX nY nZ oh ni nk) = some r:=h
 clear h
 have H':=ag.mk H
 clear H
 go_enter Try.func103,Try.ntmps103
 go_wp2_with (first|((with_reducible refine aI (N:=4) rfl ?_);refine aC (by rfl) (N:=4) (by rfl) (cs:=#[Z ab ax,Z ab av,Z ab aH,Z ab aG,Z ab aQ,Z ab aN,Z ab aM]) (t:=29) gu ?_;intro asa hg w5 hbox hb;have mr:=ag.mk (hbox);have aGK:=cB HB hg;have aGL:=cB HB hg;replace HB:=cK HB hb;clear hb hbox hg)|((with_reducible refine aI (N:=7) rfl ?_);refine aC (by rfl) (N:=7) (by rfl) (cs:=#[Z ab nX,Z ab nY,Z ab nZ,Z ab oh,Z ab ni,Z ab nk]) (t:=81) gu ?_;intro asb hg w6 hbox hb;have o8:=ag.mk (hbox);have aGM:=cB HB hg;have aGN:=cB HB hg;have KE:=l6 mr hg;have KF:=l9 mr hg;replace mr:=bJ mr hb;replace HB:=cK HB hb;clear hb hbox hg))
 go_loopg [1,13] k (fun kq v1 v13 w'=>∃ (pK:Int) (dX:Int),v1 = Z ab pK∧v13 = Z ab dX∧ag (bK.l0 kq pK l2 (l2.length:Int) dX ax av aH aG aQ aN aM nX nY nZ oh ni nk = some r)∧ag (kq≤k)∧ag (w'.heap[asa]? = some (.cells #[Z ab ax,Z ab av,Z ab aH,Z ab aG,Z ab aQ,Z ab aN,Z ab aM] 29 (0,0)))∧ag (w'.heap[asb]? = some (.cells #[Z ab nX,Z ab nY,Z ab nZ,Z ab oh,Z ab ni,Z ab nk] 81 (0,0)))∧ag (Below w.heap.size w w'))
 case atStart=>exact ⟨(a1),(0),sG,sG,H',⟨Nat.le_refl _⟩,⟨iU⟩,⟨iU⟩,⟨eZ⟩⟩
 case round =>
  clear H'
  try clear c1
  try clear c2
  try clear p2
  obtain ⟨pK,dX,rfl,rfl,HA,HK1,mr,o8,HB⟩:=hrel
  cases gk with
  |zero=>exact absurd HA.out (by simp [bK.l0])
  |succ k1 =>
   have H:=HA.out
   clear HA
   simp only [bK.l0] at H
   by_cases c7:dX < (l2.length:Int)
   ·rw [if_pos c7] at H
    have abw:decide (dX < (l2.length:Int)) = true:=decide_eq_true c7
    clear c7
    by_cases c8:0≤dX
    ·rw [if_pos c8] at H
     have LF:decide (0≤dX) = true:=decide_eq_true c8
     clear c8
     by_cases c9:dX < (l2.length:Int)
     ·rw [if_pos c9] at H
      have aCz:decide (dX < (l2.length:Int)) = true:=decide_eq_true c9
      clear c9
      replace H:=Option.bind_eq_some_iff.mp H
      obtain ⟨alz,Qr,H⟩:=H
      replace H:(if alz = true then ((eY.f ((bE l2 dX).f0.f0) ((bE l2 dX).f0.f1) ((bE l2 dX).f1.f0) ((bE l2 dX).f1.f1) nX nY nZ oh).bind fun GL=>(if GL = 0 then (bK.l0 k1 (wrap64 (pK+av)) l2 (l2.length:Int) (wrap64 (dX+1)) ax av aH aG aQ aN aM nX nY nZ oh ni nk) else (some true))) else (bK.l0 k1 (wrap64 (pK+av)) l2 (l2.length:Int) (wrap64 (dX+1)) ax av aH aG aQ aN aM nX nY nZ oh ni nk)) = some r:=H
      have A10:=ag.mk Qr
      clear Qr
      by_cases c11:alz = true
      ·subst c11
       have H1:((eY.f ((bE l2 dX).f0.f0) ((bE l2 dX).f0.f1) ((bE l2 dX).f1.f0) ((bE l2 dX).f1.f1) nX nY nZ oh).bind fun GL=>(if GL = 0 then (bK.l0 k1 (wrap64 (pK+av)) l2 (l2.length:Int) (wrap64 (dX+1)) ax av aH aG aQ aN aM nX nY nZ oh ni nk) else (some true))) = some r:=by rw [if_pos rfl] at H;exact H
       clear H
       have H:=H1
       clear H1
       replace H:=Option.bind_eq_some_iff.mp H
       obtain ⟨GL,Y2,H⟩:=H
       replace H:(if GL = 0 then (bK.l0 k1 (wrap64 (pK+av)) l2 (l2.length:Int) (wrap64 (dX+1)) ax av aH aG aQ aN aM nX nY nZ oh ni nk) else (some true)) = some r:=H
       have A12:=ag.mk Y2
       clear Y2
       by_cases c13:GL = 0
       ·rw [if_pos c13] at H
        have ahd:(GL == 0) = true:=beq_iff_eq.mpr c13
        have asc:(GL != 0) = false:=bne_eq_false_iff_eq.mpr c13
        clear c13
        have H':=ag.mk H
        clear H
        have Qs:0≤(dX:Int):=of_decide_eq_true zx
        have Qt:dX < (l2.length:Int):=of_decide_eq_true zx
        obtain ⟨an2,ahV,qL,qM,qN,qO⟩:=FC HR2.out dX Qs Qt
        cases ahV
        replace qL:=(HB.out.cell (World.block_lt_of_cell? w _ qL)).trans qL
        replace qM:=(HB.out.cell (World.block_lt_of_cell? w _ qM)).trans qM
        replace qN:=(HB.out.cell (World.block_lt_of_cell? w _ qN)).trans qN
        replace qO:=(HB.out.cell (World.block_lt_of_cell? w _ qO)).trans qO
        replace Qs:=eq_true Qs
        replace Qt:=eq_true Qt
        go_wp2_with (first|((with_reducible refine aI (N:=10) rfl ?_);refine aC (by rfl) (N:=10) (by rfl) (cs:=#[Z ab 0,Z ab 0,Z ab 0,Z ab 0]) (t:=31) gu ?_;intro ad5 hg w14 hbox hb;have CO:=ag.mk (hbox);have an3:=cB HB hg;have an4:=cB HB hg;have yL:=l6 mr hg;have yM:=l9 mr hg;have yN:=l6 o8 hg;have yO:=l9 o8 hg;replace mr:=bJ mr hb;replace o8:=bJ o8 hb;replace HB:=cK HB hb;clear hb hbox hg;have anN:=yM.out;have anO:=yL.out;have ahq:=yO.out;have ahr:=yN.out;obtain ⟨rU,rV,wT,wU,rW,rX,wV,wW⟩:=jr CO.out;have anY:=KE.out;have anZ:=KF.out;obtain ⟨wh,wm,Ar,Au,Av,Aw,Eg,wo,wu,Ay,Az,AA,AB,Eh⟩:=iH mr.out;obtain ⟨Ml,Mm,Mo,Mq,U2,U3,Mr,Ms,Mt,Mv,U4,U5⟩:=EX o8.out)|((with_reducible refine aR (f:=74) rfl ?_);refine bU (some 26) rfl rfl Try.func74 aT rfl #[Z ab (wrap64 (pK+av)),Z ab ni,Z ab nk] rfl jQ ?_;(with_reducible refine (aV.calls (wrap64 (pK+av)) ni nk true _ A10.out).mono ?_);rintro e w' ⟨rfl,⟨nd,rfl⟩⟩;refine ⟨_,rfl,?_⟩)|(go_at_call 89;(with_reducible refine (eY.calls ((bE l2 dX).f0.f0) ((bE l2 dX).f0.f1) ((bE l2 dX).f1.f0) ((bE l2 dX).f1.f1) nX nY nZ oh GL _ A12.out).mono ?_);rintro e w21 ⟨rfl,hb⟩;have Lu:=bJ mr hb;have Lv:=bJ o8 hb;have Lx:=ag.mk (af (g:=ad5) (o:=.cells #[Z ab ((bE l2 dX).f0.f0),Z ab ((bE l2 dX).f0.f1),Z ab ((bE l2 dX).f1.f0),Z ab ((bE l2 dX).f1.f1)] 31 (0,0)) (by (with_reducible repeat (first|refine aA ?_ _|refine au ?_|refine aa ?_ _));refine az (cs:=#[Z ab ((bE l2 dX).f0.f0),Z ab ((bE l2 dX).f0.f1),Z ab ((bE l2 dX).f1.f0),Z ab 0]) ?_ 3 _ rfl;(with_reducible repeat (first|refine aA ?_ _|refine au ?_|refine aa ?_ _));refine az (cs:=#[Z ab ((bE l2 dX).f0.f0),Z ab ((bE l2 dX).f0.f1),Z ab 0,Z ab 0]) ?_ 2 _ rfl;(with_reducible repeat (first|refine aA ?_ _|refine au ?_|refine aa ?_ _));refine az (cs:=#[Z ab ((bE l2 dX).f0.f0),Z ab 0,Z ab 0,Z ab 0]) ?_ 1 _ rfl;(with_reducible repeat (first|refine aA ?_ _|refine au ?_|refine aa ?_ _));refine az (cs:=#[Z ab 0,Z ab 0,Z ab 0,Z ab 0]) ?_ 0 _ rfl;(with_reducible repeat (first|refine aA ?_ _|refine au ?_|refine aa ?_ _));exact CO.out) hb);have LA:=cK HB hb;clear mr;clear o8;clear CO;clear HB;have mr:=Lu;have o8:=Lv;have CO:=Lx;have HB:=LA;clear Lu Lv Lx LA;(try clear hb);(try clear hb2);(try clear hk);(try clear hi)))
        go_roundg k1
        case measure=>have:=HK1.out;omega
        case rel=>exact ⟨(wrap64 (pK+av)),(wrap64 (dX+1)),sG,sG,H',⟨YA⟩,⟨iU⟩,⟨iU⟩,⟨eZ⟩⟩
       ·rw [if_neg c13] at H
        have ahd:(GL == 0) = false:=beq_eq_false_iff_ne.mpr c13
        have asc:(GL != 0) = true:=bne_iff_ne.mpr c13
        obtain rfl:=Option.some.inj H
        have Qs:0≤(dX:Int):=of_decide_eq_true zx
        have Qt:dX < (l2.length:Int):=of_decide_eq_true zx
        obtain ⟨an2,ahV,qL,qM,qN,qO⟩:=FC HR2.out dX Qs Qt
        cases ahV
        replace qL:=(HB.out.cell (World.block_lt_of_cell? w _ qL)).trans qL
        replace qM:=(HB.out.cell (World.block_lt_of_cell? w _ qM)).trans qM
        replace qN:=(HB.out.cell (World.block_lt_of_cell? w _ qN)).trans qN
        replace qO:=(HB.out.cell (World.block_lt_of_cell? w _ qO)).trans qO
        replace Qs:=eq_true Qs
        replace Qt:=eq_true Qt
        go_wp2_with (first|((with_reducible refine aI (N:=10) rfl ?_);refine aC (by rfl) (N:=10) (by rfl) (cs:=#[Z ab 0,Z ab 0,Z ab 0,Z ab 0]) (t:=31) gu ?_;intro ad5 hg w22 hbox hb;have CO:=ag.mk (hbox);have an3:=cB HB hg;have an4:=cB HB hg;have yL:=l6 mr hg;have yM:=l9 mr hg;have yN:=l6 o8 hg;have yO:=l9 o8 hg;replace mr:=bJ mr hb;replace o8:=bJ o8 hb;replace HB:=cK HB hb;clear hb hbox hg;have an0:=yM.out;have an1:=yL.out;have ahR:=yO.out;have ahS:=yN.out;obtain ⟨AQ,AR,AU,AV,AX,AY,AZ,A9⟩:=jr CO.out;have ar8:=KE.out;have ar9:=KF.out;obtain ⟨wY,wZ,xc,xe,xg,xh,xk,xm,xn,xq,xu,xw,xx,xy⟩:=iH mr.out;obtain ⟨L9,Ma,U6,U7,adU,adV,Mc,Md,U8,U9,adW,adX⟩:=EX o8.out)|((with_reducible refine aR (f:=74) rfl ?_);refine bU (some 26) rfl rfl Try.func74 aT rfl #[Z ab (wrap64 (pK+av)),Z ab ni,Z ab nk] rfl jQ ?_;(with_reducible refine (aV.calls (wrap64 (pK+av)) ni nk true _ A10.out).mono ?_);rintro e w' ⟨rfl,⟨nd,rfl⟩⟩;refine ⟨_,rfl,?_⟩)|(go_at_call 89;(with_reducible refine (eY.calls ((bE l2 dX).f0.f0) ((bE l2 dX).f0.f1) ((bE l2 dX).f1.f0) ((bE l2 dX).f1.f1) nX nY nZ oh GL _ A12.out).mono ?_);rintro e w29 ⟨rfl,hb⟩;have Lu:=bJ mr hb;have Lv:=bJ o8 hb;have Lx:=ag.mk (af (g:=ad5) (o:=.cells #[Z ab ((bE l2 dX).f0.f0),Z ab ((bE l2 dX).f0.f1),Z ab ((bE l2 dX).f1.f0),Z ab ((bE l2 dX).f1.f1)] 31 (0,0)) (by (with_reducible repeat (first|refine aA ?_ _|refine au ?_|refine aa ?_ _));refine az (cs:=#[Z ab ((bE l2 dX).f0.f0),Z ab ((bE l2 dX).f0.f1),Z ab ((bE l2 dX).f1.f0),Z ab 0]) ?_ 3 _ rfl;(with_reducible repeat (first|refine aA ?_ _|refine au ?_|refine aa ?_ _));refine az (cs:=#[Z ab ((bE l2 dX).f0.f0),Z ab ((bE l2 dX).f0.f1),Z ab 0,Z ab 0]) ?_ 2 _ rfl;(with_reducible repeat (first|refine aA ?_ _|refine au ?_|refine aa ?_ _));refine az (cs:=#[Z ab ((bE l2 dX).f0.f0),Z ab 0,Z ab 0,Z ab 0]) ?_ 1 _ rfl;(with_reducible repeat (first|refine aA ?_ _|refine au ?_|refine aa ?_ _));refine az (cs:=#[Z ab 0,Z ab 0,Z ab 0,Z ab 0]) ?_ 0 _ rfl;(with_reducible repeat (first|refine aA ?_ _|refine au ?_|refine aa ?_ _));exact CO.out) hb);have LA:=cK HB hb;clear mr;clear o8;clear CO;clear HB;have mr:=Lu;have o8:=Lv;have CO:=Lx;have HB:=LA;clear Lu Lv Lx LA;(try clear hb);(try clear hb2);(try clear hk);(try clear hi)))
        go_ret
        exact ⟨mf,eZ⟩
      ·replace c11:=Bool.eq_false_iff.mpr c11
       subst c11
       have H1:(bK.l0 k1 (wrap64 (pK+av)) l2 (l2.length:Int) (wrap64 (dX+1)) ax av aH aG aQ aN aM nX nY nZ oh ni nk) = some r:=by rw [if_neg (show ¬ (false = true) by decide)] at H;exact H
       clear H
       have H:=H1
       clear H1
       have H':=ag.mk H
       clear H
       have Qs:0≤(dX:Int):=of_decide_eq_true zx
       have Qt:dX < (l2.length:Int):=of_decide_eq_true zx
       obtain ⟨an2,ahV,qL,qM,qN,qO⟩:=FC HR2.out dX Qs Qt
       cases ahV
       replace qL:=(HB.out.cell (World.block_lt_of_cell? w _ qL)).trans qL
       replace qM:=(HB.out.cell (World.block_lt_of_cell? w _ qM)).trans qM
       replace qN:=(HB.out.cell (World.block_lt_of_cell? w _ qN)).trans qN
       replace qO:=(HB.out.cell (World.block_lt_of_cell? w _ qO)).trans qO
       replace Qs:=eq_true Qs
       replace Qt:=eq_true Qt
       go_wp2_with (first|((with_reducible refine aI (N:=10) rfl ?_);refine aC (by rfl) (N:=10) (by rfl) (cs:=#[Z ab 0,Z ab 0,Z ab 0,Z ab 0]) (t:=31) gu ?_;intro ad5 hg w30 hbox hb;have CO:=ag.mk (hbox);have an3:=cB HB hg;have an4:=cB HB hg;have yL:=l6 mr hg;have yM:=l9 mr hg;have yN:=l6 o8 hg;have yO:=l9 o8 hg;replace mr:=bJ mr hb;replace o8:=bJ o8 hb;replace HB:=cK HB hb;clear hb hbox hg;have aGO:=yM.out;have aGP:=yL.out;have ase:=yO.out;have asf:=yN.out;obtain ⟨Mw,Mx,Vh,Vi,MB,MC,Vj,Vk⟩:=jr CO.out;have asg:=KE.out;have ash:=KF.out;obtain ⟨vW,vX,Dr,Dt,GM,GN,GQ,vY,vZ,Du,Dv,GR,GU,GV⟩:=iH mr.out;obtain ⟨Ba,Bb,Bc,Bd,Ei,Ej,Be,Bf,Bg,Bh,El,Em⟩:=EX o8.out)|((with_reducible refine aR (f:=74) rfl ?_);refine bU (some 26) rfl rfl Try.func74 aT rfl #[Z ab (wrap64 (pK+av)),Z ab ni,Z ab nk] rfl jQ ?_;(with_reducible refine (aV.calls (wrap64 (pK+av)) ni nk false _ A10.out).mono ?_);rintro e w' ⟨rfl,⟨nd,rfl⟩⟩;refine ⟨_,rfl,?_⟩))
       go_roundg k1
       case measure=>have:=HK1.out;omega
       case rel=>exact ⟨(wrap64 (pK+av)),(wrap64 (dX+1)),sG,sG,H',⟨YA⟩,⟨iU⟩,⟨iU⟩,⟨eZ⟩⟩
     ·rw [if_neg c9] at H
      exact absurd H (by simp)
    ·rw [if_neg c8] at H
     exact absurd H (by simp)
   ·rw [if_neg c7] at H
    have abw:decide (dX < (l2.length:Int)) = false:=decide_eq_false c7
    clear c7
    obtain rfl:=Option.some.inj H
    go_wp2
    go_ret
    exact ⟨mf,eZ⟩
end Go.Proofs.Ytmhaiihjfgfaoaa.Pr
end
