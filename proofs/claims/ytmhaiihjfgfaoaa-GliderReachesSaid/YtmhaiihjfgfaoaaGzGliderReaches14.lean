import Derived.Test.YtmhaiihjfgfaoaaGzGliderReaches3
open Go.Value renaming int → U
open Go.IntKind renaming i64 → Z
open Bool renaming true → ab, false → ac
section
namespace Go.Proofs.Ytmhaiihjfgfaoaa.Pr
open Go.RowKit Go.Proofs.YtmhaiihjfgfaoaaW.PrintWords Go.Proofs.YtmhaiihjfgfaoaaW.PrintLast Go.Proofs.YtmhaiihjfgfaoaaW.PrintMore
attribute [local go_sem] eD eF fD fE eG
set_option linter.unusedVariables false
set_option linter.unusedSimpArgs false
attribute [local go_sem high] asD
def bH.l0:Nat→List (dO)→List (dO)→Int→Option (Bool)
 |0,_,_,_=>none
 |k+1,x0,x1,x5=>if x5 < (x0.length:Int) then (if 0≤x5 then (if x5 < (x1.length:Int) then (if ((!(((bq x0 x5).f0.f0) == ((bq x1 x5).f0.f0)) || (!(((bq x0 x5).f0.f1) == ((bq x1 x5).f0.f1)))) || ((!(((bq x0 x5).f1.f0) == ((bq x1 x5).f1.f0)) || (!(((bq x0 x5).f1.f1) == ((bq x1 x5).f1.f1)))))) = true then (some false) else (bH.l0 k x0 x1 (wrap64 (x5+1)))) else (none)) else (none)) else (some true)
def bH.f (k:Nat) (l0:List (dO)) (l1:List (dO)):Option (Bool):=if (l0.length:Int) = (l1.length:Int) then (bH.l0 k l0 l1 0) else (some false)
set_option maxHeartbeats 8000000 in
set_option maxRecDepth 100000 in
theorem bH.calls (k:Nat) (A0:Option Addr) (c0:Nat) (l0:List (dO)) (A1:Option Addr) (c1:Nat) (l1:List (dO)) (r:Bool) (w:World) (hr0:Kd.C Iy w A0 l0.length l0) (hc0:l0.length≤c0) (hr1:Kd.C Iy w A1 l1.length l1) (hc1:l1.length≤c1) (h:bH.f k l0 l1 = some r):
 Calls Try.prog 32 #[.slice A0 l0.length c0,.slice A1 l1.length c1] w fun e w'=>e = .returned (.bool r)∧uu w w':=by
 have oP:=Try.underlying31
 have XE:=aa.mk hr0
 have HC0:=aa.mk hc0
 clear hr0 hc0
 have HR1:=aa.mk hr1
 have HC1:=aa.mk hc1
 clear hr1 hc1
 have H:(if (l0.length:Int) = (l1.length:Int) then (bH.l0 k l0 l1 0) else (some false)) = some r:=h
 clear h
 by_cases c3:(l0.length:Int) = (l1.length:Int)
 ·rw [if_pos c3] at H
  have D9:((l0.length:Int) == (l1.length:Int)) = true:=beq_iff_eq.mpr c3
  have SI:((l0.length:Int) != (l1.length:Int)) = false:=bne_eq_false_iff_eq.mpr c3
  have axK:(l0.length == l1.length) = true:=by first|simpa using c3|(simp at c3 ⊢;omega)
  clear c3
  have H':=aa.mk H
  clear H
  go_enter Try.func32,Try.ntmps32
  go_wp2
  repeat (go_quiet (fail);try go_wp2)
  go_loopg [5] k (fun kq v5 w'=>∃ (nE:Int),v5 = U Z nE∧aa (bH.l0 kq l0 l1 nE = some r)∧aa (kq≤k)∧uu w w')
  case atStart=>exact ⟨(0),mg,H',⟨Nat.le_refl _⟩,zq3⟩
  case round =>
   clear H'
   try clear c1
   try clear p2
   try clear c3
   try clear D9
   try clear SI
   try clear axK
   obtain ⟨nE,rfl,HA,G5,⟨m1,rfl⟩⟩:=hrel
   cases gk with
   |zero=>exact absurd HA.out (by simp [bH.l0])
   |succ k1 =>
    have H:=HA.out
    clear HA
    simp only [bH.l0] at H
    by_cases c4:nE < (l0.length:Int)
    ·rw [if_pos c4] at H
     have sK:decide (nE < (l0.length:Int)) = true:=decide_eq_true c4
     clear c4
     by_cases c5:0≤nE
     ·rw [if_pos c5] at H
      have Ea:decide (0≤nE) = true:=decide_eq_true c5
      clear c5
      by_cases c6:nE < (l1.length:Int)
      ·rw [if_pos c6] at H
       have Ld:decide (nE < (l1.length:Int)) = true:=decide_eq_true c6
       clear c6
       by_cases c7:((!(((bq l0 nE).f0.f0) == ((bq l1 nE).f0.f0)) || (!(((bq l0 nE).f0.f1) == ((bq l1 nE).f0.f1)))) || ((!(((bq l0 nE).f1.f0) == ((bq l1 nE).f1.f0)) || (!(((bq l0 nE).f1.f1) == ((bq l1 nE).f1.f1)))))) = true
       ·rw [if_pos c7] at H
        have Kw:((!(((bq l0 nE).f0.f0) == ((bq l1 nE).f0.f0)) || (!(((bq l0 nE).f0.f1) == ((bq l1 nE).f0.f1)))) || ((!(((bq l0 nE).f1.f0) == ((bq l1 nE).f1.f0)) || (!(((bq l0 nE).f1.f1) == ((bq l1 nE).f1.f1)))))) = true:=c7
        clear c7
        obtain rfl:=Option.some.inj H
        have Z7:0≤(nE:Int):=of_decide_eq_true qN
        have Z8:nE < (l0.length:Int):=of_decide_eq_true qN
        obtain ⟨axL,avr,akV,akW,akX,akY⟩:=uz XE.out nE Z7 Z8
        cases avr
        replace Z7:=eq_true Z7
        replace Z8:=eq_true Z8
        have Z9:0≤(nE:Int):=of_decide_eq_true qN
        have aaa:nE < (l1.length:Int):=of_decide_eq_true qN
        obtain ⟨axM,avs,akZ,ak0,ak1,ak2⟩:=uz HR1.out nE Z9 aaa
        cases avs
        replace Z9:=eq_true Z9
        replace aaa:=eq_true aaa
        go_wp2
        repeat (go_quiet (fail);try go_wp2)
        go_ret
        exact ⟨mg,zq3⟩
       ·rw [if_neg c7] at H
        have Kw:((!(((bq l0 nE).f0.f0) == ((bq l1 nE).f0.f0)) || (!(((bq l0 nE).f0.f1) == ((bq l1 nE).f0.f1)))) || ((!(((bq l0 nE).f1.f0) == ((bq l1 nE).f1.f0)) || (!(((bq l0 nE).f1.f1) == ((bq l1 nE).f1.f1)))))) = false:=by simpa using c7
        clear c7
        have H':=aa.mk H
        clear H
        have Z7:0≤(nE:Int):=of_decide_eq_true qN
        have Z8:nE < (l0.length:Int):=of_decide_eq_true qN
        obtain ⟨axL,avr,akV,akW,akX,akY⟩:=uz XE.out nE Z7 Z8
        cases avr
        replace Z7:=eq_true Z7
        replace Z8:=eq_true Z8
        have Z9:0≤(nE:Int):=of_decide_eq_true qN
        have aaa:nE < (l1.length:Int):=of_decide_eq_true qN
        obtain ⟨axM,avs,akZ,ak0,ak1,ak2⟩:=uz HR1.out nE Z9 aaa
        cases avs
        replace Z9:=eq_true Z9
        replace aaa:=eq_true aaa
        go_wp2
        repeat (go_quiet (fail);try go_wp2)
        go_roundg k1
        case measure=>have:=G5.out;omega
        case rel=>exact ⟨(wrap64 (nE+1)),mg,H',⟨zq7⟩,zq3⟩
      ·rw [if_neg c6] at H
       exact absurd H (by simp)
     ·rw [if_neg c5] at H
      exact absurd H (by simp)
    ·rw [if_neg c4] at H
     have sK:decide (nE < (l0.length:Int)) = false:=decide_eq_false c4
     clear c4
     obtain rfl:=Option.some.inj H
     go_wp2
     repeat (go_quiet (fail);try go_wp2)
     go_ret
     exact ⟨mg,zq3⟩
 ·rw [if_neg c3] at H
  have D9:((l0.length:Int) == (l1.length:Int)) = false:=beq_eq_false_iff_ne.mpr c3
  have SI:((l0.length:Int) != (l1.length:Int)) = true:=bne_iff_ne.mpr c3
  have axK:(l0.length == l1.length) = false:=by first|simpa using c3|(simp at c3 ⊢;omega)
  obtain rfl:=Option.some.inj H
  go_enter Try.func32,Try.ntmps32
  go_wp2
  repeat (go_quiet (fail);try go_wp2)
  go_ret
  exact ⟨mg,zq3⟩
def fA.f:Nat→Int→Int→Option (Int)
 |0,_,_=>none
 |k+1,a0,a1=>if a1 < 0 then ((fA.f k (wrap64 (-a0)) (wrap64 (-a1))).bind fun afj=>(some afj)) else (if a1 = 0 then (none) else (if (Int.tmod a0 a1) < 0 then (some (wrap64 ((wrap64 (Int.tdiv a0 a1)) - 1))) else (some (wrap64 (Int.tdiv a0 a1)))))
set_option maxHeartbeats 8000000 in
set_option maxRecDepth 100000 in
theorem fA.calls (k:Nat):∀ (a0:Int) (a1:Int) (r:Int) (w:World) (h:fA.f k a0 a1 = some r),
 Calls Try.prog 140 #[U Z a0,U Z a1] w fun e w'=>e = .returned (U Z r)∧uu w w':=by
 induction k using Nat.strongRecOn with
 |_ k ih =>
 intro a0 a1 r w h
 cases k with
 |zero=>exact absurd h (by simp [fA.f])
 |succ k =>
 simp only [fA.f] at h
 have H:(if a1 < 0 then ((fA.f k (wrap64 (-a0)) (wrap64 (-a1))).bind fun afj=>(some afj)) else (if a1 = 0 then (none) else (if (Int.tmod a0 a1) < 0 then (some (wrap64 ((wrap64 (Int.tdiv a0 a1)) - 1))) else (some (wrap64 (Int.tdiv a0 a1)))))) = some r:=h
 clear h
 by_cases c3:a1 < 0
 ·rw [if_pos c3] at H
  have D9:decide (a1 < 0) = true:=decide_eq_true c3
  clear c3
  replace H:=Option.bind_eq_some_iff.mp H
  obtain ⟨afj,Kv,H⟩:=H
  replace H:(some afj) = some r:=H
  have A4:=aa.mk Kv
  clear Kv
  obtain rfl:=Option.some.inj H
  go_enter Try.func140,Try.ntmps140
  go_wp2_with (first|((with_reducible refine aN (f:=140) rfl ?_);refine bT (some 12) rfl rfl Try.func140 aY rfl #[U Z (wrap64 (-a0)),U Z (wrap64 (-a1))] rfl iG ?_;(with_reducible refine (ih k (by omega) (wrap64 (-a0)) (wrap64 (-a1)) afj _ A4.out).mono ?_);rintro e w' ⟨rfl,⟨nd,rfl⟩⟩;refine ⟨_,rfl,?_⟩))
  go_ret
  exact ⟨mg,zq3⟩
 ·rw [if_neg c3] at H
  have D9:decide (a1 < 0) = false:=decide_eq_false c3
  clear c3
  by_cases c5:a1 = 0
  ·rw [if_pos c5] at H
   exact absurd H (by simp)
  ·rw [if_neg c5] at H
   have Ea:(a1 == 0) = false:=beq_eq_false_iff_ne.mpr c5
   have afg:(a1 != 0) = true:=bne_iff_ne.mpr c5
   by_cases c6:(Int.tmod a0 a1) < 0
   ·rw [if_pos c6] at H
    have Ld:decide ((Int.tmod a0 a1) < 0) = true:=decide_eq_true c6
    clear c6
    obtain rfl:=Option.some.inj H
    go_enter Try.func140,Try.ntmps140
    go_wp2
    go_ret
    exact ⟨mg,zq3⟩
   ·rw [if_neg c6] at H
    have Ld:decide ((Int.tmod a0 a1) < 0) = false:=decide_eq_false c6
    clear c6
    obtain rfl:=Option.some.inj H
    go_enter Try.func140,Try.ntmps140
    go_wp2
    go_ret
    exact ⟨mg,zq3⟩
def iC.f (k:Nat) (a0:Int) (a1:Int):Option (Int):=(fA.f k (wrap64 (-a0)) a1).bind fun afk=>(some (wrap64 (-afk)))
set_option maxHeartbeats 8000000 in
set_option maxRecDepth 100000 in
theorem iC.calls (k:Nat) (a0:Int) (a1:Int) (r:Int) (w:World) (h:iC.f k a0 a1 = some r):
 Calls Try.prog 139 #[U Z a0,U Z a1] w fun e w'=>e = .returned (U Z r)∧uu w w':=by
 have H:((fA.f k (wrap64 (-a0)) a1).bind fun afk=>(some (wrap64 (-afk)))) = some r:=h
 clear h
 replace H:=Option.bind_eq_some_iff.mp H
 obtain ⟨afk,O5,H⟩:=H
 replace H:(some (wrap64 (-afk))) = some r:=H
 have A3:=aa.mk O5
 clear O5
 obtain rfl:=Option.some.inj H
 go_enter Try.func139,Try.ntmps139
 go_wp2_with (first|((with_reducible refine aN (f:=140) rfl ?_);refine bT (some 8) rfl rfl Try.func140 aY rfl #[U Z (wrap64 (-a0)),U Z a1] rfl iG ?_;(with_reducible refine (fA.calls k (wrap64 (-a0)) a1 afk _ A3.out).mono ?_);rintro e w' ⟨rfl,⟨nd,rfl⟩⟩;refine ⟨_,rfl,?_⟩))
 go_ret
 exact ⟨mg,zq3⟩
def fT.f (k:Nat) (ah:Int) (ai:Int) (ax:Int) (ay:Int) (aK:Int) (aH:Int) (aJ:Int) (aR:List Bool) (aC:List (oV)) (aQ:Int) (aM:Int) (bf:Int) (bg:Int) (bD:Int) (bE:Int) (bF:Int) (bJ:Int) (bK:Int) (bM:Int) (bN:Int):Option (Int × Int × Int × Int):=(iC.f k (wrap64 ((wrap64 (aQ+aJ))*aM)) 1000).bind fun zU=>(some (wrap64 (bJ - zU),wrap64 (bK+zU),wrap64 (bM - zU),wrap64 (bN+zU)))
set_option maxHeartbeats 8000000 in
set_option maxRecDepth 100000 in
theorem fT.calls (k:Nat) (ah:Int) (ai:Int) (ax:Int) (ay:Int) (aK:Int) (aH:Int) (aJ:Int) (dG:Option Addr) (dH:Nat) (aR:List Bool) (dJ:Option Addr) (dI:Nat) (aC:List (oV)) (aQ:Int) (aM:Int) (bf:Int) (bg:Int) (bD:Int) (bE:Int) (bF:Int) (bJ:Int) (bK:Int) (bM:Int) (bN:Int) (r1:Int) (r2:Int) (r3:Int) (r4:Int) (w:World) (iU:Kd.C Kd.bool w dG aR.length aR) (iV:aR.length≤dH) (iW:Kd.C DD w dJ aC.length aC) (iX:aC.length≤dI) (h:fT.f k ah ai ax ay aK aH aJ aR aC aQ aM bf bg bD bE bF bJ bK bM bN = some (r1,r2,r3,r4)):
 Calls Try.prog 133 #[.agg #[U Z ah,U Z ai,U Z ax,U Z ay,U Z aK,U Z aH,U Z aJ,.slice dG aR.length dH,.slice dJ aC.length dI],.agg #[U Z aQ,U Z aM,U Z bf,U Z bg,U Z bD,U Z bE,U Z bF],.agg #[U Z bJ,U Z bK,U Z bM,U Z bN]] w fun e w'=>e = .returned (.agg #[U Z r1,U Z r2,U Z r3,U Z r4])∧Below w.heap.size w w':=by
 have zR:=Try.underlying25
 have Cb:=Try.underlying29
 have oP:=Try.underlying31
 have oo:=Try.underlying27
 have gq:=aa.mk iU
 have gu:=aa.mk iV
 clear iU iV
 have fH:=aa.mk iW
 have gz:=aa.mk iX
 clear iW iX
 have HB:=aa.mk (Below.refl w.heap.size w)
 have H:((iC.f k (wrap64 ((wrap64 (aQ+aJ))*aM)) 1000).bind fun zU=>(some (wrap64 (bJ - zU),wrap64 (bK+zU),wrap64 (bM - zU),wrap64 (bN+zU)))) = some (r1,r2,r3,r4):=h
 clear h
 replace H:=Option.bind_eq_some_iff.mp H
 obtain ⟨zU,Kv,H⟩:=H
 replace H:(some (wrap64 (bJ - zU),wrap64 (bK+zU),wrap64 (bM - zU),wrap64 (bN+zU))) = some (r1,r2,r3,r4):=H
 have A4:=aa.mk Kv
 clear Kv
 simp only [Option.some.injEq,Prod.mk.injEq] at H
 obtain ⟨rfl,rfl,rfl,rfl⟩:=H
 go_enter Try.func133,Try.ntmps133
 go_wp2_with (first|((with_reducible refine aG (N:=3) rfl ?_);refine az (by rfl) (N:=3) (by rfl) (cs:=#[U Z ah,U Z ai,U Z ax,U Z ay,U Z aK,U Z aH,U Z aJ,.slice dG aR.length dH,.slice dJ aC.length dI]) (t:=25) fM ?_;intro axN hg w5 hbox hb;have BJ:=aa.mk (hbox);have aQn:=dn HB hg;have aQo:=dn HB hg;replace HB:=dw HB hb;clear hb hbox hg)|((with_reducible refine aG (N:=4) rfl ?_);refine az (by rfl) (N:=4) (by rfl) (cs:=#[U Z aQ,U Z aM,U Z bf,U Z bg,U Z bD,U Z bE,U Z bF]) (t:=29) fM ?_;intro axO hg w6 hbox hb;have Ht:=aa.mk (hbox);have aQp:=dn HB hg;have aQq:=dn HB hg;have afl:=iq BJ hg;have afm:=iw BJ hg;replace BJ:=bC BJ hb;replace HB:=dw HB hb;clear hb hbox hg)|((with_reducible refine aG (N:=5) rfl ?_);refine az (by rfl) (N:=5) (by rfl) (cs:=#[U Z bJ,U Z bK,U Z bM,U Z bN]) (t:=31) fM ?_;intro axP hg w7 hbox hb;have Rt:=aa.mk (hbox);have aQr:=dn HB hg;have aQs:=dn HB hg;have afn:=iq BJ hg;have afo:=iw BJ hg;have afp:=iq Ht hg;have afq:=iw Ht hg;replace BJ:=bC BJ hb;replace Ht:=bC Ht hb;replace HB:=dw HB hb;clear hb hbox hg)|((with_reducible refine aG (N:=6) rfl ?_);refine az (by rfl) (N:=6) (by rfl) (cs:=#[U Z 0,U Z 0,U Z 0,U Z 0]) (t:=31) fM ?_;intro asI hg w8 hbox hb;have abk:=aa.mk (hbox);have aQt:=dn HB hg;have aQu:=dn HB hg;have afr:=iq BJ hg;have afs:=iw BJ hg;have aft:=iq Ht hg;have afu:=iw Ht hg;have afv:=iq Rt hg;have afw:=iw Rt hg;replace BJ:=bC BJ hb;replace Ht:=bC Ht hb;replace Rt:=bC Rt hb;replace HB:=dw HB hb;clear hb hbox hg;have ak3:=afm.out;have ak4:=afl.out;have ahL:=afp.out;have ahM:=afq.out;have XV:=aft.out;have XW:=afu.out;obtain ⟨qx,qy,P9,Qa,ak5,ak6,ak7,qz,qA,Qb,Qc,ak8,ak9,ala⟩:=jb Ht.out;have XX:=afn.out;have XY:=afo.out;have XZ:=afr.out;have X0:=afs.out;obtain ⟨nI,nJ,rC,rD,tu,tC,yh,Aw,Ay,nK,nL,rE,rF,tF,tH,yj,Az,AA⟩:=iH BJ.out)|((with_reducible refine aN (f:=139) rfl ?_);refine bT (some 16) rfl rfl Try.func139 aY rfl #[U Z (wrap64 ((wrap64 (aQ+aJ))*aM)),U Z 1000] rfl iG ?_;(with_reducible refine (iC.calls k (wrap64 ((wrap64 (aQ+aJ))*aM)) 1000 zU _ A4.out).mono ?_);rintro e w' ⟨rfl,⟨nd,rfl⟩⟩;refine ⟨_,rfl,?_⟩;(try (rw [aab w8];generalize NL:World.drewN w8 _ = w8;have x9:aa (w8.heap[axN]? = some (.cells #[U Z ah,U Z ai,U Z ax,U Z ay,U Z aK,U Z aH,U Z aJ,.slice dG aR.length dH,.slice dJ aC.length dI] 25 (0,0))):=⟨by rw [← NL];exact fB⟩;have yc:aa (w8.heap[axO]? = some (.cells #[U Z aQ,U Z aM,U Z bf,U Z bg,U Z bD,U Z bE,U Z bF] 29 (0,0))):=⟨by rw [← NL];exact fB⟩;have yf:aa (w8.heap[axP]? = some (.cells #[U Z bJ,U Z bK,U Z bM,U Z bN] 31 (0,0))):=⟨by rw [← NL];exact fB⟩;have yg:aa (w8.heap[asI]? = some (.cells #[U Z 0,U Z 0,U Z 0,U Z 0] 31 (0,0))):=⟨by rw [← NL];exact fB⟩;have Bf:aa (Below w.heap.size w w8):=⟨by rw [← NL];exact fu⟩;clear BJ Ht Rt abk HB NL;have BJ:=x9;have Ht:=yc;have Rt:=yf;have abk:=yg;have HB:=Bf;clear x9 yc yf yg Bf));have TL:=afv.out;have TM:=afw.out;obtain ⟨lW,lX,nM,nN,lY,lZ,nO,nP⟩:=gD Rt.out;obtain ⟨Ct,Cu,Ff,Fg,Cv,Cw,Fh,Fj⟩:=gD abk.out))
 refine bodyPost_ret (results_cell_row rfl _ _ asI 31 #[U Z (wrap64 (bJ - zU)),U Z (wrap64 (bK+zU)),U Z (wrap64 (bM - zU)),U Z (wrap64 (bN+zU))] (0,0) _ rfl (by (with_reducible repeat (first|refine au ?_ _|refine ag ?_|refine ae ?_ _));refine aI (cs:=#[U Z (wrap64 (bJ - zU)),U Z (wrap64 (bK+zU)),U Z (wrap64 (bM - zU)),U Z 0]) ?_ 3 _ rfl;(with_reducible repeat (first|refine au ?_ _|refine ag ?_|refine ae ?_ _));refine aI (cs:=#[U Z (wrap64 (bJ - zU)),U Z (wrap64 (bK+zU)),U Z 0,U Z 0]) ?_ 2 _ rfl;(with_reducible repeat (first|refine au ?_ _|refine ag ?_|refine ae ?_ _));refine aI (cs:=#[U Z (wrap64 (bJ - zU)),U Z 0,U Z 0,U Z 0]) ?_ 1 _ rfl;(with_reducible repeat (first|refine au ?_ _|refine ag ?_|refine ae ?_ _));refine aI (cs:=#[U Z 0,U Z 0,U Z 0,U Z 0]) ?_ 0 _ rfl;(with_reducible repeat (first|refine au ?_ _|refine ag ?_|refine ae ?_ _));exact abk.out) Try.underlying31 rfl aY) rfl ?_
 exact ⟨kL,fu⟩
def iR.f (ah:Int) (ai:Int) (ax:Int) (ay:Int) (aK:Int) (aH:Int) (aJ:Int) (aR:List Bool) (aC:List (oV)) (aQ:Int) (aM:Int) (bf:Int) (bg:Int):Option (Bool):=if aQ ≥ 0 then (if aM≤(wrap64 (ah*ax)) then (if bf ≥ 0 then (some (decide (bg≤(wrap64 (ai*ax))))) else (some false)) else (some false)) else (some false)
set_option maxHeartbeats 8000000 in
set_option maxRecDepth 100000 in
theorem iR.calls (ah:Int) (ai:Int) (ax:Int) (ay:Int) (aK:Int) (aH:Int) (aJ:Int) (dG:Option Addr) (dH:Nat) (aR:List Bool) (dJ:Option Addr) (dI:Nat) (aC:List (oV)) (aQ:Int) (aM:Int) (bf:Int) (bg:Int) (r:Bool) (w:World) (iU:Kd.C Kd.bool w dG aR.length aR) (iV:aR.length≤dH) (iW:Kd.C DD w dJ aC.length aC) (iX:aC.length≤dI) (h:iR.f ah ai ax ay aK aH aJ aR aC aQ aM bf bg = some r):
 Calls Try.prog 71 #[.agg #[U Z ah,U Z ai,U Z ax,U Z ay,U Z aK,U Z aH,U Z aJ,.slice dG aR.length dH,.slice dJ aC.length dI],.agg #[U Z aQ,U Z aM,U Z bf,U Z bg]] w fun e w'=>e = .returned (.bool r)∧Below w.heap.size w w':=by
 have zR:=Try.underlying25
 have oP:=Try.underlying31
 have gq:=aa.mk iU
 have gu:=aa.mk iV
 clear iU iV
 have fH:=aa.mk iW
 have gz:=aa.mk iX
 clear iW iX
 have HB:=aa.mk (Below.refl w.heap.size w)
 have H:(if aQ ≥ 0 then (if aM≤(wrap64 (ah*ax)) then (if bf ≥ 0 then (some (decide (bg≤(wrap64 (ai*ax))))) else (some false)) else (some false)) else (some false)) = some r:=h
 clear h
 by_cases c3:aQ ≥ 0
 ·rw [if_pos c3] at H
  have D9:decide (0≤aQ) = true:=decide_eq_true c3
  clear c3
  by_cases c4:aM≤(wrap64 (ah*ax))
  ·rw [if_pos c4] at H
   have sK:decide (aM≤(wrap64 (ah*ax))) = true:=decide_eq_true c4
   clear c4
   by_cases c5:bf ≥ 0
   ·rw [if_pos c5] at H
    have Ea:decide (0≤bf) = true:=decide_eq_true c5
    clear c5
    obtain rfl:=Option.some.inj H
    go_enter Try.func71,Try.ntmps71
    go_wp2_with (first|((with_reducible refine aG (N:=2) rfl ?_);refine az (by rfl) (N:=2) (by rfl) (cs:=#[U Z ah,U Z ai,U Z ax,U Z ay,U Z aK,U Z aH,U Z aJ,.slice dG aR.length dH,.slice dJ aC.length dI]) (t:=25) fM ?_;intro ahZ hg w6 hbox hb;have sD:=aa.mk (hbox);have ah0:=dn HB hg;have ah1:=dn HB hg;replace HB:=dw HB hb;clear hb hbox hg)|((with_reducible refine aG (N:=3) rfl ?_);refine az (by rfl) (N:=3) (by rfl) (cs:=#[U Z aQ,U Z aM,U Z bf,U Z bg]) (t:=31) fM ?_;intro ah2 hg w7 hbox hb;have Ru:=aa.mk (hbox);have ah3:=dn HB hg;have ah4:=dn HB hg;have wV:=iq sD hg;have wW:=iw sD hg;replace sD:=bC sD hb;replace HB:=dw HB hb;clear hb hbox hg;have afx:=wW.out;have afy:=wV.out;obtain ⟨Bw,Bz,Fp,Fq,BA,BC,Fs,Fu⟩:=gD Ru.out;obtain ⟨rG,rH,Lj,Ll,U1,U2,U3,abl,abm,rJ,rM,Lm,Lp,U4,U5,U6,abn,abo⟩:=iH sD.out))
    go_ret
    exact ⟨kL,fu⟩
   ·rw [if_neg c5] at H
    have Ea:decide (0≤bf) = false:=decide_eq_false c5
    clear c5
    obtain rfl:=Option.some.inj H
    go_enter Try.func71,Try.ntmps71
    go_wp2_with (first|((with_reducible refine aG (N:=2) rfl ?_);refine az (by rfl) (N:=2) (by rfl) (cs:=#[U Z ah,U Z ai,U Z ax,U Z ay,U Z aK,U Z aH,U Z aJ,.slice dG aR.length dH,.slice dJ aC.length dI]) (t:=25) fM ?_;intro ahZ hg w11 hbox hb;have sD:=aa.mk (hbox);have ah0:=dn HB hg;have ah1:=dn HB hg;replace HB:=dw HB hb;clear hb hbox hg)|((with_reducible refine aG (N:=3) rfl ?_);refine az (by rfl) (N:=3) (by rfl) (cs:=#[U Z aQ,U Z aM,U Z bf,U Z bg]) (t:=31) fM ?_;intro ah2 hg Nv hbox hb;have Ru:=aa.mk (hbox);have ah3:=dn HB hg;have ah4:=dn HB hg;have wV:=iq sD hg;have wW:=iw sD hg;replace sD:=bC sD hb;replace HB:=dw HB hb;clear hb hbox hg;have XX:=wW.out;have XY:=wV.out;obtain ⟨vg,vk,Ci,Cj,vo,vv,Ck,Cm⟩:=gD Ru.out;obtain ⟨nI,nJ,rC,rD,tu,tC,yh,Aw,Ay,nK,nL,rE,rF,tF,tH,yj,Az,AA⟩:=iH sD.out))
    go_ret
    exact ⟨kL,fu⟩
  ·rw [if_neg c4] at H
   have sK:decide (aM≤(wrap64 (ah*ax))) = false:=decide_eq_false c4
   clear c4
   obtain rfl:=Option.some.inj H
   go_enter Try.func71,Try.ntmps71
   go_wp2_with (first|((with_reducible refine aG (N:=2) rfl ?_);refine az (by rfl) (N:=2) (by rfl) (cs:=#[U Z ah,U Z ai,U Z ax,U Z ay,U Z aK,U Z aH,U Z aJ,.slice dG aR.length dH,.slice dJ aC.length dI]) (t:=25) fM ?_;intro ahZ hg w16 hbox hb;have sD:=aa.mk (hbox);have ah0:=dn HB hg;have ah1:=dn HB hg;replace HB:=dw HB hb;clear hb hbox hg)|((with_reducible refine aG (N:=3) rfl ?_);refine az (by rfl) (N:=3) (by rfl) (cs:=#[U Z aQ,U Z aM,U Z bf,U Z bg]) (t:=31) fM ?_;intro ah2 hg w17 hbox hb;have Ru:=aa.mk (hbox);have ah3:=dn HB hg;have ah4:=dn HB hg;have wV:=iq sD hg;have wW:=iw sD hg;replace sD:=bC sD hb;replace HB:=dw HB hb;clear hb hbox hg;have X3:=wW.out;have X4:=wV.out;obtain ⟨pI,pJ,qF,qG,pK,pM,qH,qI⟩:=gD Ru.out;obtain ⟨AB,AJ,Cx,Cy,Lr,Ls,Qd,U7,U8,AL,AO,Cz,CB,Lt,Lu,Qe,U9,Va⟩:=iH sD.out))
   go_ret
   exact ⟨kL,fu⟩
 ·rw [if_neg c3] at H
  have D9:decide (0≤aQ) = false:=decide_eq_false c3
  clear c3
  obtain rfl:=Option.some.inj H
  go_enter Try.func71,Try.ntmps71
  go_wp2_with (first|((with_reducible refine aG (N:=2) rfl ?_);refine az (by rfl) (N:=2) (by rfl) (cs:=#[U Z ah,U Z ai,U Z ax,U Z ay,U Z aK,U Z aH,U Z aJ,.slice dG aR.length dH,.slice dJ aC.length dI]) (t:=25) fM ?_;intro ahZ hg w21 hbox hb;have sD:=aa.mk (hbox);have ah0:=dn HB hg;have ah1:=dn HB hg;replace HB:=dw HB hb;clear hb hbox hg)|((with_reducible refine aG (N:=3) rfl ?_);refine az (by rfl) (N:=3) (by rfl) (cs:=#[U Z aQ,U Z aM,U Z bf,U Z bg]) (t:=31) fM ?_;intro ah2 hg w22 hbox hb;have Ru:=aa.mk (hbox);have ah3:=dn HB hg;have ah4:=dn HB hg;have wV:=iq sD hg;have wW:=iw sD hg;replace sD:=bC sD hb;replace HB:=dw HB hb;clear hb hbox hg;have X5:=wW.out;have X6:=wV.out;obtain ⟨rq,ru,Ah,Ai,ry,rz,Aj,Ak⟩:=gD Ru.out))
  go_ret
  exact ⟨kL,fu⟩
def ik.f (ah:Int) (ai:Int) (ax:Int) (ay:Int) (aK:Int) (aH:Int) (aJ:Int) (aR:List Bool) (aC:List (oV)) (a1:Int) (a2:Int):Option (Bool):=if a1 ≥ 0 then (some (decide (a2≤(wrap64 (aK*ay))))) else (some false)
set_option maxHeartbeats 8000000 in
set_option maxRecDepth 100000 in
theorem ik.calls (ah:Int) (ai:Int) (ax:Int) (ay:Int) (aK:Int) (aH:Int) (aJ:Int) (dG:Option Addr) (dH:Nat) (aR:List Bool) (dJ:Option Addr) (dI:Nat) (aC:List (oV)) (a1:Int) (a2:Int) (r:Bool) (w:World) (iU:Kd.C Kd.bool w dG aR.length aR) (iV:aR.length≤dH) (iW:Kd.C DD w dJ aC.length aC) (iX:aC.length≤dI) (h:ik.f ah ai ax ay aK aH aJ aR aC a1 a2 = some r):
 Calls Try.prog 72 #[.agg #[U Z ah,U Z ai,U Z ax,U Z ay,U Z aK,U Z aH,U Z aJ,.slice dG aR.length dH,.slice dJ aC.length dI],U Z a1,U Z a2] w fun e w'=>e = .returned (.bool r)∧Below w.heap.size w w':=by
 have zR:=Try.underlying25
 have gq:=aa.mk iU
 have gu:=aa.mk iV
 clear iU iV
 have fH:=aa.mk iW
 have gz:=aa.mk iX
 clear iW iX
 have HB:=aa.mk (Below.refl w.heap.size w)
 have H:(if a1 ≥ 0 then (some (decide (a2≤(wrap64 (aK*ay))))) else (some false)) = some r:=h
 clear h
 by_cases c4:a1 ≥ 0
 ·rw [if_pos c4] at H
  have sK:decide (0≤a1) = true:=decide_eq_true c4
  clear c4
  obtain rfl:=Option.some.inj H
  go_enter Try.func72,Try.ntmps72
  go_wp2_with (first|((with_reducible refine aG (N:=3) rfl ?_);refine az (by rfl) (N:=3) (by rfl) (cs:=#[U Z ah,U Z ai,U Z ax,U Z ay,U Z aK,U Z aH,U Z aJ,.slice dG aR.length dH,.slice dJ aC.length dI]) (t:=25) fM ?_;intro axQ hg w5 hbox hb;have asJ:=aa.mk (hbox);have axR:=dn HB hg;have axS:=dn HB hg;replace HB:=dw HB hb;clear hb hbox hg;obtain ⟨au9,ava,avb,avc,avd,ave,avf,avg,avh,avi,avj,avk,avl,avm,avn,avo,avp,avq⟩:=iH asJ.out))
  go_ret
  exact ⟨kL,fu⟩
 ·rw [if_neg c4] at H
  have sK:decide (0≤a1) = false:=decide_eq_false c4
  clear c4
  obtain rfl:=Option.some.inj H
  go_enter Try.func72,Try.ntmps72
  go_wp2_with (first|((with_reducible refine aG (N:=3) rfl ?_);refine az (by rfl) (N:=3) (by rfl) (cs:=#[U Z ah,U Z ai,U Z ax,U Z ay,U Z aK,U Z aH,U Z aJ,.slice dG aR.length dH,.slice dJ aC.length dI]) (t:=25) fM ?_;intro axQ hg w7 hbox hb;have asJ:=aa.mk (hbox);have axR:=dn HB hg;have axS:=dn HB hg;replace HB:=dw HB hb;clear hb hbox hg))
  go_ret
  exact ⟨kL,fu⟩
end Go.Proofs.Ytmhaiihjfgfaoaa.Pr
end
