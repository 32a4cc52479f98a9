import Derived.Test.YtmhaiihjfgfaoaaGzGliderReaches3
import Derived.Test.YtmhaiihjfgfaoaaGzGliderReaches30
import Derived.Test.YtmhaiihjfgfaoaaGzGliderReaches29
import Derived.Test.YtmhaiihjfgfaoaaGzGliderReaches11
import Derived.Test.YtmhaiihjfgfaoaaGzGliderReaches28
open Go.Value renaming int → U
open Go.IntKind renaming i64 → Z
open Bool renaming true → ab, false → ac
section
namespace Go.Proofs.Ytmhaiihjfgfaoaa.Pr
open Go.RowKit Go.Proofs.YtmhaiihjfgfaoaaW.PrintWords Go.Proofs.YtmhaiihjfgfaoaaW.PrintLast Go.Proofs.YtmhaiihjfgfaoaaW.PrintMore Go.Proofs.Ytmhaiihjfgfaoaa.Gl
set_option linter.unusedVariables false
def fQ.f (ah:Int) (ai:Int) (ax:Int) (ay:Int) (aK:Int) (aH:Int) (aJ:Int) (aR:List Bool) (aC:List (oV)) (aQ:Int) (aM:Int) (bf:Int) (bg:Int) (bD:Int) (bE:Int) (bF:Int) (bJ:Int) (bK:Int) (bM:Int) (bN:Int) (a3:Int) (l4:List (dO)):Option (Int):=some (CkX ⟨ah,ai,ax,ay,aK,aH,aJ,aR,aC⟩ ⟨aQ,aM,⟨bf,bg⟩,⟨bD,bE⟩,bF⟩ ⟨⟨bJ,bK⟩,⟨bM,bN⟩⟩ a3 l4)
theorem fQ.calls (ah:Int) (ai:Int) (ax:Int) (ay:Int) (aK:Int) (aH:Int) (aJ:Int) (dG:Option Addr) (dH:Nat) (aR:List Bool) (dJ:Option Addr) (dI:Nat) (aC:List (oV)) (aQ:Int) (aM:Int) (bf:Int) (bg:Int) (bD:Int) (bE:Int) (bF:Int) (bJ:Int) (bK:Int) (bM:Int) (bN:Int) (a3:Int) (A4:Option Addr) (c4:Nat) (l4:List (dO)) (r:Int) (w:World) (iU:Kd.C Kd.bool w dG aR.length aR) (iV:aR.length≤dH) (iW:Kd.C DD w dJ aC.length aC) (iX:aC.length≤dI) (hr4:Kd.C Iy w A4 l4.length l4) (hc4:l4.length≤c4) (h:fQ.f ah ai ax ay aK aH aJ aR aC aQ aM bf bg bD bE bF bJ bK bM bN a3 l4 = some r):
 Calls Try.prog 51 #[.agg #[U Z ah,U Z ai,U Z ax,U Z ay,U Z aK,U Z aH,U Z aJ,.slice dG aR.length dH,.slice dJ aC.length dI],.agg #[U Z aQ,U Z aM,U Z bf,U Z bg,U Z bD,U Z bE,U Z bF],.agg #[U Z bJ,U Z bK,U Z bM,U Z bN],U Z a3,.slice A4 l4.length c4] w fun e w'=>e = .returned (U Z r)∧Below w.heap.size w w':=by
 cases h
 exact R8 ⟨ah,ai,ax,ay,aK,aH,aJ,aR,aC⟩ ⟨aQ,aM,⟨bf,bg⟩,⟨bD,bE⟩,bF⟩ ⟨⟨bJ,bK⟩,⟨bM,bN⟩⟩ a3 A4 c4 l4 dG dJ dH dI w iV iU iX iW hr4 hc4
def rU.f (ah:Int) (ai:Int) (ax:Int) (ay:Int) (aK:Int) (aH:Int) (aJ:Int) (aR:List Bool) (aC:List (oV)) (aQ:Int) (aM:Int) (bf:Int) (bg:Int) (bD:Int) (bE:Int) (bF:Int) (bJ:Int) (bK:Int) (bM:Int) (bN:Int) (a3:Int) (a4:Int):Option ((List (dO)) × Int):=some (GA ⟨ah,ai,ax,ay,aK,aH,aJ,aR,aC⟩ ⟨aQ,aM,⟨bf,bg⟩,⟨bD,bE⟩,bF⟩ ⟨⟨bJ,bK⟩,⟨bM,bN⟩⟩ a3 a4)
theorem rU.calls (ah:Int) (ai:Int) (ax:Int) (ay:Int) (aK:Int) (aH:Int) (aJ:Int) (dG:Option Addr) (dH:Nat) (aR:List Bool) (dJ:Option Addr) (dI:Nat) (aC:List (oV)) (aQ:Int) (aM:Int) (bf:Int) (bg:Int) (bD:Int) (bE:Int) (bF:Int) (bJ:Int) (bK:Int) (bM:Int) (bN:Int) (a3:Int) (a4:Int) (r1:List (dO)) (r2:Int) (w:World) (iU:Kd.C Kd.bool w dG aR.length aR) (iV:aR.length≤dH) (iW:Kd.C DD w dJ aC.length aC) (iX:aC.length≤dI) (h:rU.f ah ai ax ay aK aH aJ aR aC aQ aM bf bg bD bE bF bJ bK bM bN a3 a4 = some (r1,r2)):
 Calls Try.prog 50 #[.agg #[U Z ah,U Z ai,U Z ax,U Z ay,U Z aK,U Z aH,U Z aJ,.slice dG aR.length dH,.slice dJ aC.length dI],.agg #[U Z aQ,U Z aM,U Z bf,U Z bg,U Z bD,U Z bE,U Z bF],.agg #[U Z bJ,U Z bK,U Z bM,U Z bN],U Z a3,U Z a4] w fun e w'=>∃ Vn:Value,e = .returned (.tuple #[Vn,U Z r2])∧Kd.R Iy 31 w' w.heap.size (fun _=>True) Vn r1∧Below w.heap.size w w':=by
 have e_:=Option.some.inj h
 have q_:=agm ⟨ah,ai,ax,ay,aK,aH,aJ,aR,aC⟩ ⟨aQ,aM,⟨bf,bg⟩,⟨bD,bE⟩,bF⟩ ⟨⟨bJ,bK⟩,⟨bM,bN⟩⟩ a3 a4 dG dJ dH dI w iV iU iX iW
 rw [e_] at q_
 exact q_
end Go.Proofs.Ytmhaiihjfgfaoaa.Pr
end
section
namespace Go.Proofs.Ytmhaiihjfgfaoaa.Pr
open Go.RowKit Go.Proofs.YtmhaiihjfgfaoaaW.PrintWords Go.Proofs.YtmhaiihjfgfaoaaW.PrintLast Go.Proofs.YtmhaiihjfgfaoaaW.PrintMore
attribute [local go_sem] eD eF fD fE eG
set_option linter.unusedVariables false
set_option linter.unusedSimpArgs false
def nH.f (k:Nat) (ah:Int) (ai:Int) (ax:Int) (ay:Int) (aK:Int) (aH:Int):Option (Bool):=(dR.f k ah ai ax ay).bind fun Na=>(if Na = 0 then (if aK ≥ 0 then (if aK≤aH then (some (decide (aH≤1073741824))) else (some false)) else (some false)) else (some false))
set_option maxHeartbeats 8000000 in
set_option maxRecDepth 100000 in
theorem nH.calls (k:Nat) (ah:Int) (ai:Int) (ax:Int) (ay:Int) (aK:Int) (aH:Int) (r:Bool) (w:World) (h:nH.f k ah ai ax ay aK aH = some r):
 Calls Try.prog 93 #[.agg #[U Z ah,U Z ai,U Z ax,U Z ay,U Z aK,U Z aH]] w fun e w'=>e = .returned (.bool r)∧Below w.heap.size w w':=by
 have aiS:=Try.underlying81
 have oP:=Try.underlying31
 have HB:=aa.mk (Below.refl w.heap.size w)
 have H:((dR.f k ah ai ax ay).bind fun Na=>(if Na = 0 then (if aK ≥ 0 then (if aK≤aH then (some (decide (aH≤1073741824))) else (some false)) else (some false)) else (some false))) = some r:=h
 clear h
 replace H:=Option.bind_eq_some_iff.mp H
 obtain ⟨Na,TC,H⟩:=H
 replace H:(if Na = 0 then (if aK ≥ 0 then (if aK≤aH then (some (decide (aH≤1073741824))) else (some false)) else (some false)) else (some false)) = some r:=H
 have A2:=aa.mk TC
 clear TC
 by_cases c3:Na = 0
 ·rw [if_pos c3] at H
  have D9:(Na == 0) = true:=beq_iff_eq.mpr c3
  have SI:(Na != 0) = false:=bne_eq_false_iff_eq.mpr c3
  clear c3
  by_cases c4:aK ≥ 0
  ·rw [if_pos c4] at H
   have sK:decide (0≤aK) = true:=decide_eq_true c4
   clear c4
   by_cases c5:aK≤aH
   ·rw [if_pos c5] at H
    have Ea:decide (aK≤aH) = true:=decide_eq_true c5
    clear c5
    obtain rfl:=Option.some.inj H
    go_enter Try.func93,Try.ntmps93
    go_wp2_with (first|((with_reducible refine aG (N:=1) rfl ?_);refine az (by rfl) (N:=1) (by rfl) (cs:=#[U Z ah,U Z ai,U Z ax,U Z ay,U Z aK,U Z aH]) (t:=81) fM ?_;intro ajQ hg w6 hbox hb;have wL:=aa.mk (hbox);have ajR:=dn HB hg;have ajS:=dn HB hg;replace HB:=dw HB hb;clear hb hbox hg;obtain ⟨wX,wY,DK,DL,Fv,Fw,wZ,xc,DN,DR,Fx,Fy⟩:=DU wL.out)|((with_reducible refine aN (f:=67) rfl ?_);refine bT (some 5) rfl rfl Try.func67 aY rfl #[.agg #[U Z ah,U Z ai,U Z ax,U Z ay]] rfl iG ?_;(with_reducible refine (dR.calls k ah ai ax ay Na _ A2.out).mono ?_);rintro e w8 ⟨rfl,hb⟩;refine ⟨_,rfl,?_⟩;replace wL:=bC wL hb;replace HB:=dw HB hb;(try clear hb);(try clear hb2);(try clear hk);(try clear hi);obtain ⟨Bw,Bz,Fp,Fq,Oi,Oj,BA,BC,Fs,Fu,Ol,Om⟩:=DU wL.out))
    go_ret
    exact ⟨kL,fu⟩
   ·rw [if_neg c5] at H
    have Ea:decide (aK≤aH) = false:=decide_eq_false c5
    clear c5
    obtain rfl:=Option.some.inj H
    go_enter Try.func93,Try.ntmps93
    go_wp2_with (first|((with_reducible refine aG (N:=1) rfl ?_);refine az (by rfl) (N:=1) (by rfl) (cs:=#[U Z ah,U Z ai,U Z ax,U Z ay,U Z aK,U Z aH]) (t:=81) fM ?_;intro ajQ hg w10 hbox hb;have wL:=aa.mk (hbox);have ajR:=dn HB hg;have ajS:=dn HB hg;replace HB:=dw HB hb;clear hb hbox hg;obtain ⟨uZ,u6,Aq,Ar,E9,Fa,u7,ve,Au,Av,Fb,Fe⟩:=DU wL.out)|((with_reducible refine aN (f:=67) rfl ?_);refine bT (some 5) rfl rfl Try.func67 aY rfl #[.agg #[U Z ah,U Z ai,U Z ax,U Z ay]] rfl iG ?_;(with_reducible refine (dR.calls k ah ai ax ay Na _ A2.out).mono ?_);rintro e Nv ⟨rfl,hb⟩;refine ⟨_,rfl,?_⟩;replace wL:=bC wL hb;replace HB:=dw HB hb;(try clear hb);(try clear hb2);(try clear hk);(try clear hi);obtain ⟨qY,qZ,xW,xX,FU,FV,q9,rf,xY,xZ,FW,FX⟩:=DU wL.out))
    go_ret
    exact ⟨kL,fu⟩
  ·rw [if_neg c4] at H
   have sK:decide (0≤aK) = false:=decide_eq_false c4
   clear c4
   obtain rfl:=Option.some.inj H
   go_enter Try.func93,Try.ntmps93
   go_wp2_with (first|((with_reducible refine aG (N:=1) rfl ?_);refine az (by rfl) (N:=1) (by rfl) (cs:=#[U Z ah,U Z ai,U Z ax,U Z ay,U Z aK,U Z aH]) (t:=81) fM ?_;intro ajQ hg w14 hbox hb;have wL:=aa.mk (hbox);have ajR:=dn HB hg;have ajS:=dn HB hg;replace HB:=dw HB hb;clear hb hbox hg;obtain ⟨nI,nJ,rC,rD,tu,tC,nK,nL,rE,rF,tF,tH⟩:=DU wL.out)|((with_reducible refine aN (f:=67) rfl ?_);refine bT (some 5) rfl rfl Try.func67 aY rfl #[.agg #[U Z ah,U Z ai,U Z ax,U Z ay]] rfl iG ?_;(with_reducible refine (dR.calls k ah ai ax ay Na _ A2.out).mono ?_);rintro e w16 ⟨rfl,hb⟩;refine ⟨_,rfl,?_⟩;replace wL:=bC wL hb;replace HB:=dw HB hb;(try clear hb);(try clear hb2);(try clear hk);(try clear hi);obtain ⟨lW,lX,nM,nN,tN,tO,lY,lZ,nO,nP,tQ,tT⟩:=DU wL.out))
   go_ret
   exact ⟨kL,fu⟩
 ·rw [if_neg c3] at H
  have D9:(Na == 0) = false:=beq_eq_false_iff_ne.mpr c3
  have SI:(Na != 0) = true:=bne_iff_ne.mpr c3
  obtain rfl:=Option.some.inj H
  go_enter Try.func93,Try.ntmps93
  go_wp2_with (first|((with_reducible refine aG (N:=1) rfl ?_);refine az (by rfl) (N:=1) (by rfl) (cs:=#[U Z ah,U Z ai,U Z ax,U Z ay,U Z aK,U Z aH]) (t:=81) fM ?_;intro ajQ hg w18 hbox hb;have wL:=aa.mk (hbox);have ajR:=dn HB hg;have ajS:=dn HB hg;replace HB:=dw HB hb;clear hb hbox hg;obtain ⟨pI,pJ,qF,qG,tV,tX,pK,pM,qH,qI,tY,tZ⟩:=DU wL.out)|((with_reducible refine aN (f:=67) rfl ?_);refine bT (some 5) rfl rfl Try.func67 aY rfl #[.agg #[U Z ah,U Z ai,U Z ax,U Z ay]] rfl iG ?_;(with_reducible refine (dR.calls k ah ai ax ay Na _ A2.out).mono ?_);rintro e GZ ⟨rfl,hb⟩;refine ⟨_,rfl,?_⟩;replace wL:=bC wL hb;replace HB:=dw HB hb;(try clear hb);(try clear hb2);(try clear hk);(try clear hi)))
  go_ret
  exact ⟨kL,fu⟩
end Go.Proofs.Ytmhaiihjfgfaoaa.Pr
end
section
namespace Go.Proofs.Ytmhaiihjfgfaoaa.Pr
open Go.RowKit Go.Proofs.YtmhaiihjfgfaoaaW.PrintWords Go.Proofs.YtmhaiihjfgfaoaaW.PrintLast Go.Proofs.YtmhaiihjfgfaoaaW.PrintMore Go.Proofs.Ytmhaiihjfgfaoaa.Gl
set_option linter.unusedVariables false
def mQ.f (ah:Int) (ai:Int) (ax:Int) (ay:Int) (aQ:Int) (aM:Int) (bf:Int) (bg:Int):Option (Int):=some (BU ⟨⟨ah,ai⟩,⟨ax,ay⟩⟩ ⟨⟨aQ,aM⟩,⟨bf,bg⟩⟩)
theorem mQ.calls (ah:Int) (ai:Int) (ax:Int) (ay:Int) (aQ:Int) (aM:Int) (bf:Int) (bg:Int) (r:Int) (w:World) (h:mQ.f ah ai ax ay aQ aM bf bg = some r):
 Calls Try.prog 89 #[.agg #[U Z ah,U Z ai,U Z ax,U Z ay],.agg #[U Z aQ,U Z aM,U Z bf,U Z bg]] w fun e w'=>e = .returned (U Z r)∧Below w.heap.size w w':=by
 cases h
 exact RZ ⟨⟨ah,ai⟩,⟨ax,ay⟩⟩ ⟨⟨aQ,aM⟩,⟨bf,bg⟩⟩ w
end Go.Proofs.Ytmhaiihjfgfaoaa.Pr
end
section
namespace Go.Proofs.Ytmhaiihjfgfaoaa.Pr
open Go.RowKit Go.Proofs.YtmhaiihjfgfaoaaW.PrintWords Go.Proofs.YtmhaiihjfgfaoaaW.PrintLast Go.Proofs.YtmhaiihjfgfaoaaW.PrintMore
attribute [local go_sem] eD eF fD fE eG
set_option linter.unusedVariables false
set_option linter.unusedSimpArgs false
end Go.Proofs.Ytmhaiihjfgfaoaa.Pr
end
section
namespace Go.Proofs.Ytmhaiihjfgfaoaa.Gl
open Go.RowKit Go.Proofs.YtmhaiihjfgfaoaaW.PrintWords Go.Proofs.YtmhaiihjfgfaoaaW.PrintLast Go.Proofs.YtmhaiihjfgfaoaaW.PrintMore Go.Proofs.Ytmhaiihjfgfaoaa.Pr
set_option linter.unusedVariables false
def Nb (p:Zz):Bool:=vw p.f0 && decide (0≤p.f1) && decide (p.f1≤p.f2) && decide (p.f2≤1073741824)
theorem agq (p:Zz):nH.f 4 p.f0.f0.f0 p.f0.f0.f1 p.f0.f1.f0 p.f0.f1.f1 p.f1 p.f2 = some (Nb p):=by
 unfold nH.f Nb
 rw [Rn p.f0,Option.bind_some]
 unfold Hq
 cases vw p.f0 with
 |false=>rfl
 |true =>
  rw [if_pos rfl,if_pos rfl]
  by_cases h1:p.f1 ≥ 0
  ·rw [if_pos h1,decide_eq_true (show 0≤p.f1 from h1)]
   by_cases h2:p.f1≤p.f2
   ·rw [if_pos h2,decide_eq_true h2];rfl
   ·rw [if_neg h2,decide_eq_false h2];rfl
  ·rw [if_neg h1,decide_eq_false (show ¬(0≤p.f1) from h1)];rfl
end Go.Proofs.Ytmhaiihjfgfaoaa.Gl
end
section
namespace Go.Proofs.Ytmhaiihjfgfaoaa.Pr
open Go.RowKit Go.Proofs.YtmhaiihjfgfaoaaW.PrintWords Go.Proofs.YtmhaiihjfgfaoaaW.PrintLast Go.Proofs.YtmhaiihjfgfaoaaW.PrintMore
attribute [local go_sem] eD eF fD fE eG
set_option linter.unusedVariables false
set_option linter.unusedSimpArgs false
def dU.l0:Nat→Int→List (dO)→Int→Int→Int→Int→Int→Int→Int→Int→Int→Int→Int→Int→Int→Int→Int→Option (Bool)
 |0,_,_,_,_,_,_,_,_,_,_,_,_,_,_,_,_,_=>none
 |k+1,x1,TD,wB,xe,aet,Nc,aeu,aev,aew,aex,aey,Xf,Xg,Xh,Xi,Xj,Xk=>if xe < wB then (if 0≤xe then (if xe < (TD.length:Int) then ((bR.f (wrap64 (x1+Nc)) Xj Xk).bind fun arB=>(if arB = true then ((mQ.f ((bq TD xe).f0.f0) ((bq TD xe).f0.f1) ((bq TD xe).f1.f0) ((bq TD xe).f1.f1) Xf Xg Xh Xi).bind fun Nf=>(if Nf = 0 then (dU.l0 k (wrap64 (x1+Nc)) TD wB (wrap64 (xe+1)) aet Nc aeu aev aew aex aey Xf Xg Xh Xi Xj Xk) else (some true))) else (dU.l0 k (wrap64 (x1+Nc)) TD wB (wrap64 (xe+1)) aet Nc aeu aev aew aex aey Xf Xg Xh Xi Xj Xk))) else (none)) else (none)) else (some false)
def dU.f (k:Nat) (ah:Int) (ai:Int) (ax:Int) (ay:Int) (aK:Int) (aH:Int) (aJ:Int) (a1:Int) (l2:List (dO)) (Ik:Int) (Il:Int) (Im:Int) (Io:Int) (GH:Int) (GI:Int):Option (Bool):=dU.l0 k a1 l2 (l2.length:Int) 0 ah ai ax ay aK aH aJ Ik Il Im Io GH GI
set_option maxHeartbeats 8000000 in
set_option maxRecDepth 100000 in
theorem dU.calls (k:Nat) (ah:Int) (ai:Int) (ax:Int) (ay:Int) (aK:Int) (aH:Int) (aJ:Int) (a1:Int) (A2:Option Addr) (c2:Nat) (l2:List (dO)) (Ik:Int) (Il:Int) (Im:Int) (Io:Int) (GH:Int) (GI:Int) (r:Bool) (w:World) (hr2:Kd.C Iy w A2 l2.length l2) (hc2:l2.length≤c2) (h:dU.f k ah ai ax ay aK aH aJ a1 l2 Ik Il Im Io GH GI = some r):
 Calls Try.prog 103 #[.agg #[U Z ah,U Z ai,U Z ax,U Z ay,U Z aK,U Z aH,U Z aJ],U Z a1,.slice A2 l2.length c2,.agg #[U Z Ik,U Z Il,U Z Im,U Z Io,U Z GH,U Z GI]] w fun e w'=>e = .returned (.bool r)∧Below w.heap.size w w':=by
 have Cb:=Try.underlying29
 have aiS:=Try.underlying81
 have oP:=Try.underlying31
 have HR2:=aa.mk hr2
 have HC2:=aa.mk hc2
 clear hr2 hc2
 have HB:=aa.mk (Below.refl w.heap.size w)
 have H:(dU.l0 k a1 l2 (l2.length:Int) 0 ah ai ax ay aK aH aJ Ik Il Im Io GH GI) = some r:=h
 clear h
 have H':=aa.mk H
 clear H
 go_enter Try.func103,Try.ntmps103
 go_wp2_with (first|((with_reducible refine aG (N:=4) rfl ?_);refine az (by rfl) (N:=4) (by rfl) (cs:=#[U Z ah,U Z ai,U Z ax,U Z ay,U Z aK,U Z aH,U Z aJ]) (t:=29) fM ?_;intro aEE hg w5 hbox hb;have pG:=aa.mk (hbox);have aSE:=dn HB hg;have aSF:=dn HB hg;replace HB:=dw HB hb;clear hb hbox hg)|((with_reducible refine aG (N:=7) rfl ?_);refine az (by rfl) (N:=7) (by rfl) (cs:=#[U Z Ik,U Z Il,U Z Im,U Z Io,U Z GH,U Z GI]) (t:=81) fM ?_;intro aEF hg w6 hbox hb;have sG:=aa.mk (hbox);have aSG:=dn HB hg;have aSH:=dn HB hg;have OL:=iq pG hg;have OM:=iw pG hg;replace pG:=bC pG hb;replace HB:=dw HB hb;clear hb hbox hg))
 go_loopg [1,13] k (fun kq v1 v13 w'=>∃ (Ke:Int) (cB:Int),v1 = U Z Ke∧v13 = U Z cB∧aa (dU.l0 kq Ke l2 (l2.length:Int) cB ah ai ax ay aK aH aJ Ik Il Im Io GH GI = some r)∧aa (kq≤k)∧aa (w'.heap[aEE]? = some (.cells #[U Z ah,U Z ai,U Z ax,U Z ay,U Z aK,U Z aH,U Z aJ] 29 (0,0)))∧aa (w'.heap[aEF]? = some (.cells #[U Z Ik,U Z Il,U Z Im,U Z Io,U Z GH,U Z GI] 81 (0,0)))∧aa (Below w.heap.size w w'))
 case atStart=>exact ⟨(a1),(0),mg,mg,H',⟨Nat.le_refl _⟩,⟨fB⟩,⟨fB⟩,⟨fu⟩⟩
 case round =>
  clear H'
  try clear c1
  try clear c2
  try clear p2
  obtain ⟨Ke,cB,rfl,rfl,HA,G5,pG,sG,HB⟩:=hrel
  cases gk with
  |zero=>exact absurd HA.out (by simp [dU.l0])
  |succ k1 =>
   have H:=HA.out
   clear HA
   simp only [dU.l0] at H
   by_cases c7:cB < (l2.length:Int)
   ·rw [if_pos c7] at H
    have Kw:decide (cB < (l2.length:Int)) = true:=decide_eq_true c7
    clear c7
    by_cases c8:0≤cB
    ·rw [if_pos c8] at H
     have KI:decide (0≤cB) = true:=decide_eq_true c8
     clear c8
     by_cases c9:cB < (l2.length:Int)
     ·rw [if_pos c9] at H
      have LM:decide (cB < (l2.length:Int)) = true:=decide_eq_true c9
      clear c9
      replace H:=Option.bind_eq_some_iff.mp H
      obtain ⟨arB,FJ,H⟩:=H
      replace H:(if arB = true then ((mQ.f ((bq l2 cB).f0.f0) ((bq l2 cB).f0.f1) ((bq l2 cB).f1.f0) ((bq l2 cB).f1.f1) Ik Il Im Io).bind fun Nf=>(if Nf = 0 then (dU.l0 k1 (wrap64 (Ke+ai)) l2 (l2.length:Int) (wrap64 (cB+1)) ah ai ax ay aK aH aJ Ik Il Im Io GH GI) else (some true))) else (dU.l0 k1 (wrap64 (Ke+ai)) l2 (l2.length:Int) (wrap64 (cB+1)) ah ai ax ay aK aH aJ Ik Il Im Io GH GI)) = some r:=H
      have TH:=aa.mk FJ
      clear FJ
      by_cases c11:arB = true
      ·subst c11
       have H1:((mQ.f ((bq l2 cB).f0.f0) ((bq l2 cB).f0.f1) ((bq l2 cB).f1.f0) ((bq l2 cB).f1.f1) Ik Il Im Io).bind fun Nf=>(if Nf = 0 then (dU.l0 k1 (wrap64 (Ke+ai)) l2 (l2.length:Int) (wrap64 (cB+1)) ah ai ax ay aK aH aJ Ik Il Im Io GH GI) else (some true))) = some r:=by rw [if_pos rfl] at H;exact H
       clear H
       have H:=H1
       clear H1
       replace H:=Option.bind_eq_some_iff.mp H
       obtain ⟨Nf,aiL,H⟩:=H
       replace H:(if Nf = 0 then (dU.l0 k1 (wrap64 (Ke+ai)) l2 (l2.length:Int) (wrap64 (cB+1)) ah ai ax ay aK aH aJ Ik Il Im Io GH GI) else (some true)) = some r:=H
       have A12:=aa.mk aiL
       clear aiL
       by_cases c13:Nf = 0
       ·rw [if_pos c13] at H
        have ahq:(Nf == 0) = true:=beq_iff_eq.mpr c13
        have aEG:(Nf != 0) = false:=bne_eq_false_iff_eq.mpr c13
        clear c13
        have H':=aa.mk H
        clear H
        have Sb:0≤(cB:Int):=of_decide_eq_true qN
        have Sc:cB < (l2.length:Int):=of_decide_eq_true qN
        obtain ⟨auh,ajT,wh,wm,wo,wu⟩:=uz HR2.out cB Sb Sc
        cases ajT
        replace wh:=(HB.out.cell (World.block_lt_of_cell? w _ wh)).trans wh
        replace wm:=(HB.out.cell (World.block_lt_of_cell? w _ wm)).trans wm
        replace wo:=(HB.out.cell (World.block_lt_of_cell? w _ wo)).trans wo
        replace wu:=(HB.out.cell (World.block_lt_of_cell? w _ wu)).trans wu
        replace Sb:=eq_true Sb
        replace Sc:=eq_true Sc
        go_wp2_with (first|((with_reducible refine aG (N:=10) rfl ?_);refine az (by rfl) (N:=10) (by rfl) (cs:=#[U Z 0,U Z 0,U Z 0,U Z 0]) (t:=31) fM ?_;intro aez hg w14 hbox hb;have Ip:=aa.mk (hbox);have aui:=dn HB hg;have auj:=dn HB hg;have EB:=iq pG hg;have EC:=iw pG hg;have ED:=iq sG hg;have EE:=iw sG hg;replace pG:=bC pG hb;replace sG:=bC sG hb;replace HB:=dw HB hb;clear hb hbox hg;have Yk:=EC.out;have Yl:=EB.out;have TL:=EE.out;have TM:=ED.out;obtain ⟨lW,lX,nM,nN,lY,lZ,nO,nP⟩:=gD Ip.out;have X3:=OL.out;have X4:=OM.out;obtain ⟨pI,pJ,qF,qG,tV,tX,yM,pK,pM,qH,qI,tY,tZ,yN⟩:=jb pG.out;obtain ⟨AB,AJ,Cx,Cy,Lr,Ls,AL,AO,Cz,CB,Lt,Lu⟩:=DU sG.out)|((with_reducible refine aN (f:=74) rfl ?_);refine bT (some 26) rfl rfl Try.func74 aY rfl #[U Z (wrap64 (Ke+ai)),U Z GH,U Z GI] rfl iG ?_;(with_reducible refine (bR.calls (wrap64 (Ke+ai)) GH GI true _ TH.out).mono ?_);rintro e w' ⟨rfl,⟨nd,rfl⟩⟩;refine ⟨_,rfl,?_⟩)|(go_at_call 89;(with_reducible refine (mQ.calls ((bq l2 cB).f0.f0) ((bq l2 cB).f0.f1) ((bq l2 cB).f1.f0) ((bq l2 cB).f1.f1) Ik Il Im Io Nf _ A12.out).mono ?_);rintro e w21 ⟨rfl,hb⟩;have x9:=bC pG hb;have yc:=bC sG hb;have yf:=aa.mk (av (g:=aez) (o:=.cells #[U Z ((bq l2 cB).f0.f0),U Z ((bq l2 cB).f0.f1),U Z ((bq l2 cB).f1.f0),U Z ((bq l2 cB).f1.f1)] 31 (0,0)) (by (with_reducible repeat (first|refine au ?_ _|refine ag ?_|refine ae ?_ _));refine aI (cs:=#[U Z ((bq l2 cB).f0.f0),U Z ((bq l2 cB).f0.f1),U Z ((bq l2 cB).f1.f0),U Z 0]) ?_ 3 _ rfl;(with_reducible repeat (first|refine au ?_ _|refine ag ?_|refine ae ?_ _));refine aI (cs:=#[U Z ((bq l2 cB).f0.f0),U Z ((bq l2 cB).f0.f1),U Z 0,U Z 0]) ?_ 2 _ rfl;(with_reducible repeat (first|refine au ?_ _|refine ag ?_|refine ae ?_ _));refine aI (cs:=#[U Z ((bq l2 cB).f0.f0),U Z 0,U Z 0,U Z 0]) ?_ 1 _ rfl;(with_reducible repeat (first|refine au ?_ _|refine ag ?_|refine ae ?_ _));refine aI (cs:=#[U Z 0,U Z 0,U Z 0,U Z 0]) ?_ 0 _ rfl;(with_reducible repeat (first|refine au ?_ _|refine ag ?_|refine ae ?_ _));exact Ip.out) hb);have yg:=dw HB hb;clear pG;clear sG;clear Ip;clear HB;have pG:=x9;have sG:=yc;have Ip:=yf;have HB:=yg;clear x9 yc yf yg;(try clear hb);(try clear hb2);(try clear hk);(try clear hi)))
        go_roundg k1
        case measure=>have:=G5.out;omega
        case rel=>exact ⟨(wrap64 (Ke+ai)),(wrap64 (cB+1)),mg,mg,H',⟨zq7⟩,⟨fB⟩,⟨fB⟩,⟨fu⟩⟩
       ·rw [if_neg c13] at H
        have ahq:(Nf == 0) = false:=beq_eq_false_iff_ne.mpr c13
        have aEG:(Nf != 0) = true:=bne_iff_ne.mpr c13
        obtain rfl:=Option.some.inj H
        have Sb:0≤(cB:Int):=of_decide_eq_true qN
        have Sc:cB < (l2.length:Int):=of_decide_eq_true qN
        obtain ⟨auh,ajT,wh,wm,wo,wu⟩:=uz HR2.out cB Sb Sc
        cases ajT
        replace wh:=(HB.out.cell (World.block_lt_of_cell? w _ wh)).trans wh
        replace wm:=(HB.out.cell (World.block_lt_of_cell? w _ wm)).trans wm
        replace wo:=(HB.out.cell (World.block_lt_of_cell? w _ wo)).trans wo
        replace wu:=(HB.out.cell (World.block_lt_of_cell? w _ wu)).trans wu
        replace Sb:=eq_true Sb
        replace Sc:=eq_true Sc
        go_wp2_with (first|((with_reducible refine aG (N:=10) rfl ?_);refine az (by rfl) (N:=10) (by rfl) (cs:=#[U Z 0,U Z 0,U Z 0,U Z 0]) (t:=31) fM ?_;intro aez hg w22 hbox hb;have Ip:=aa.mk (hbox);have aui:=dn HB hg;have auj:=dn HB hg;have EB:=iq pG hg;have EC:=iw pG hg;have ED:=iq sG hg;have EE:=iw sG hg;replace pG:=bC pG hb;replace sG:=bC sG hb;replace HB:=dw HB hb;clear hb hbox hg;have X5:=EC.out;have X6:=EB.out;have aEH:=EE.out;have aEI:=ED.out;obtain ⟨yO,yP,Df,Dh,yQ,yR,Di,Dj⟩:=gD Ip.out;have ait:=OL.out;have aiu:=OM.out;obtain ⟨yS,yT,yU,yV,Gb,Gc,Gd,yX,yY,yZ,za,Gf,Gg,Gh⟩:=jb pG.out;obtain ⟨V6,V7,adp,adq,apc,apd,V8,V9,adr,ads,ape,apf⟩:=DU sG.out)|((with_reducible refine aN (f:=74) rfl ?_);refine bT (some 26) rfl rfl Try.func74 aY rfl #[U Z (wrap64 (Ke+ai)),U Z GH,U Z GI] rfl iG ?_;(with_reducible refine (bR.calls (wrap64 (Ke+ai)) GH GI true _ TH.out).mono ?_);rintro e w' ⟨rfl,⟨nd,rfl⟩⟩;refine ⟨_,rfl,?_⟩)|(go_at_call 89;(with_reducible refine (mQ.calls ((bq l2 cB).f0.f0) ((bq l2 cB).f0.f1) ((bq l2 cB).f1.f0) ((bq l2 cB).f1.f1) Ik Il Im Io Nf _ A12.out).mono ?_);rintro e w29 ⟨rfl,hb⟩;have x9:=bC pG hb;have yc:=bC sG hb;have yf:=aa.mk (av (g:=aez) (o:=.cells #[U Z ((bq l2 cB).f0.f0),U Z ((bq l2 cB).f0.f1),U Z ((bq l2 cB).f1.f0),U Z ((bq l2 cB).f1.f1)] 31 (0,0)) (by (with_reducible repeat (first|refine au ?_ _|refine ag ?_|refine ae ?_ _));refine aI (cs:=#[U Z ((bq l2 cB).f0.f0),U Z ((bq l2 cB).f0.f1),U Z ((bq l2 cB).f1.f0),U Z 0]) ?_ 3 _ rfl;(with_reducible repeat (first|refine au ?_ _|refine ag ?_|refine ae ?_ _));refine aI (cs:=#[U Z ((bq l2 cB).f0.f0),U Z ((bq l2 cB).f0.f1),U Z 0,U Z 0]) ?_ 2 _ rfl;(with_reducible repeat (first|refine au ?_ _|refine ag ?_|refine ae ?_ _));refine aI (cs:=#[U Z ((bq l2 cB).f0.f0),U Z 0,U Z 0,U Z 0]) ?_ 1 _ rfl;(with_reducible repeat (first|refine au ?_ _|refine ag ?_|refine ae ?_ _));refine aI (cs:=#[U Z 0,U Z 0,U Z 0,U Z 0]) ?_ 0 _ rfl;(with_reducible repeat (first|refine au ?_ _|refine ag ?_|refine ae ?_ _));exact Ip.out) hb);have yg:=dw HB hb;clear pG;clear sG;clear Ip;clear HB;have pG:=x9;have sG:=yc;have Ip:=yf;have HB:=yg;clear x9 yc yf yg;(try clear hb);(try clear hb2);(try clear hk);(try clear hi)))
        go_ret
        exact ⟨kL,fu⟩
      ·replace c11:=Bool.eq_false_iff.mpr c11
       subst c11
       have H1:(dU.l0 k1 (wrap64 (Ke+ai)) l2 (l2.length:Int) (wrap64 (cB+1)) ah ai ax ay aK aH aJ Ik Il Im Io GH GI) = some r:=by rw [if_neg (show ¬ (false = true) by decide)] at H;exact H
       clear H
       have H:=H1
       clear H1
       have H':=aa.mk H
       clear H
       have Sb:0≤(cB:Int):=of_decide_eq_true qN
       have Sc:cB < (l2.length:Int):=of_decide_eq_true qN
       obtain ⟨auh,ajT,wh,wm,wo,wu⟩:=uz HR2.out cB Sb Sc
       cases ajT
       replace wh:=(HB.out.cell (World.block_lt_of_cell? w _ wh)).trans wh
       replace wm:=(HB.out.cell (World.block_lt_of_cell? w _ wm)).trans wm
       replace wo:=(HB.out.cell (World.block_lt_of_cell? w _ wo)).trans wo
       replace wu:=(HB.out.cell (World.block_lt_of_cell? w _ wu)).trans wu
       replace Sb:=eq_true Sb
       replace Sc:=eq_true Sc
       go_wp2_with (first|((with_reducible refine aG (N:=10) rfl ?_);refine az (by rfl) (N:=10) (by rfl) (cs:=#[U Z 0,U Z 0,U Z 0,U Z 0]) (t:=31) fM ?_;intro aez hg w30 hbox hb;have Ip:=aa.mk (hbox);have aui:=dn HB hg;have auj:=dn HB hg;have EB:=iq pG hg;have EC:=iw pG hg;have ED:=iq sG hg;have EE:=iw sG hg;replace pG:=bC pG hb;replace sG:=bC sG hb;replace HB:=dw HB hb;clear hb hbox hg;have ath:=EC.out;have ati:=EB.out;have aCb:=EE.out;have aCc:=ED.out;obtain ⟨QN,QO,adf,adg,QP,QQ,adh,adi⟩:=gD Ip.out;have atN:=OL.out;have atO:=OM.out;obtain ⟨Al,Am,ET,EU,Jl,Jm,Jn,Ao,Ap,EW,EX,Jo,Jp,Jq⟩:=jb pG.out;obtain ⟨Wd,We,adt,adu,arC,arD,Wh,Wi,adv,adw,arE,arF⟩:=DU sG.out)|((with_reducible refine aN (f:=74) rfl ?_);refine bT (some 26) rfl rfl Try.func74 aY rfl #[U Z (wrap64 (Ke+ai)),U Z GH,U Z GI] rfl iG ?_;(with_reducible refine (bR.calls (wrap64 (Ke+ai)) GH GI false _ TH.out).mono ?_);rintro e w' ⟨rfl,⟨nd,rfl⟩⟩;refine ⟨_,rfl,?_⟩))
       go_roundg k1
       case measure=>have:=G5.out;omega
       case rel=>exact ⟨(wrap64 (Ke+ai)),(wrap64 (cB+1)),mg,mg,H',⟨zq7⟩,⟨fB⟩,⟨fB⟩,⟨fu⟩⟩
     ·rw [if_neg c9] at H
      exact absurd H (by simp)
    ·rw [if_neg c8] at H
     exact absurd H (by simp)
   ·rw [if_neg c7] at H
    have Kw:decide (cB < (l2.length:Int)) = false:=decide_eq_false c7
    clear c7
    obtain rfl:=Option.some.inj H
    go_wp2
    go_ret
    exact ⟨kL,fu⟩
end Go.Proofs.Ytmhaiihjfgfaoaa.Pr
end
section
namespace Go.Proofs.Ytmhaiihjfgfaoaa.Gl
open Go.RowKit Go.Shelf Go.Proofs.YtmhaiihjfgfaoaaW.PrintWords Go.Proofs.YtmhaiihjfgfaoaaW.PrintLast Go.Proofs.YtmhaiihjfgfaoaaW.PrintMore Go.Proofs.Ytmhaiihjfgfaoaa.Pr Go.Proofs.YtmhaiihjfgfaoaaW.Round
set_option linter.unusedVariables false
set_option linter.unusedSimpArgs false
attribute [local go_sem] eD eF fD fE eG
def Sd (dive:Int) (p:Zz):List dO→Int→Bool
 |[],_=>false
 |b :: l,t=>(lJ (t+dive) p.f1 p.f2 && decide (BU b p.f0≠0)) || Sd dive p l (t+dive)
theorem agr (v:nz) (p:Zz) (l:List dO) (hl:l.length≤64) (hd:1≤v.dive∧v.dive≤131072):∀ (m i k:Nat) (t:Int),i+m = l.length→m < k→0≤t→t≤1073741824+(i:Int)*131072→
 dU.l0 k t l (l.length:Int) (i:Int) v.speed v.dive v.use.f0 v.use.f1 v.drift.f0 v.drift.f1 v.reserve p.f0.f0.f0 p.f0.f0.f1 p.f0.f1.f0 p.f0.f1.f1 p.f1 p.f2 = some (Sd v.dive p (l.drop i) t):=by
 intro m
 induction m with
 |zero =>
  intro i k t h hk h0 h1
  obtain ⟨k,rfl⟩:∃ z,k = z+1:=⟨k - 1,by omega⟩
  have:l.drop i = []:=List.drop_eq_nil_iff.2 (by omega)
  rw [dU.l0,if_neg (by omega),this]
  rfl
 |succ m ih =>
  intro i k t h hk h0 h1
  obtain ⟨k,rfl⟩:∃ z,k = z+1:=⟨k - 1,by omega⟩
  have hi:i < l.length:=by omega
  have e:bq l (i:Int) = l[i]:=by unfold bq;simp [hi]
  have hc:((i+1:Nat):Int) = (i:Int)+1:=by omega
  have hw:wrap64 (t+v.dive) = t+v.dive:=by unfold wrap64;omega
  have hw2:wrap64 ((i:Int)+1) = ((i+1:Nat):Int):=by unfold wrap64;omega
  have hin:mQ.f l[i].f0.f0 l[i].f0.f1 l[i].f1.f0 l[i].f1.f1 p.f0.f0.f0 p.f0.f0.f1 p.f0.f1.f0 p.f0.f1.f1 = some (BU l[i] p.f0):=rfl
  have ih1:=ih (i+1) k (t+v.dive) (by omega) (by omega) (by omega) (by omega)
  rw [dU.l0,if_pos (by omega),if_pos (by omega),if_pos (by omega),e,hw,hw2,Rm,Option.bind_some,ih1,List.drop_eq_getElem_cons hi]
  rw [show Sd v.dive p (l[i] :: l.drop (i+1)) t = ((lJ (t+v.dive) p.f1 p.f2 && decide (BU l[i] p.f0≠0)) || Sd v.dive p (l.drop (i+1)) (t+v.dive)) from rfl]
  cases hb:lJ (t+v.dive) p.f1 p.f2 with
  |false=>rw [if_neg (by decide),Bool.false_and,Bool.false_or]
  |true =>
   rw [if_pos rfl,hin,Option.bind_some,Bool.true_and]
   by_cases hz:BU l[i] p.f0 = 0
   ·rw [if_pos hz,decide_eq_false (fun q=>q hz),Bool.false_or]
   ·rw [if_neg hz,decide_eq_true hz,Bool.true_or]
theorem ags (v:nz) (p:Zz) (l:List dO) (t:Int) (hl:l.length≤64) (hd:1≤v.dive∧v.dive≤131072) (h0:0≤t) (h1:t≤1073741824):dU.f 66 v.speed v.dive v.use.f0 v.use.f1 v.drift.f0 v.drift.f1 v.reserve t l p.f0.f0.f0 p.f0.f0.f1 p.f0.f1.f0 p.f0.f1.f1 p.f1 p.f2 = some (Sd v.dive p l t):=by
 unfold dU.f
 have:=agr v p l hl hd l.length 0 66 t (by omega) (by omega) h0 (by omega)
 rw [List.drop_zero] at this
 exact this
theorem JG (s:j3) (v:nz):∀ (n:Nat) (x:dO) (t:Int) (out:List dO),(iP s v n x t out).1.length≤out.length+n
 |0,x,t,out=>by unfold iP;exact Nat.le_refl _
 |n+1,x,t,out=>by
  unfold iP
  split
  ·exact Nat.zero_le _
  ·have:=JG s v n (uQ s v x t) (t+v.dive) (out++[uQ s v x t])
   rw [List.length_append,List.length_singleton] at this
   omega
def GJ (s:j3) (v:nz) (x:dO) (t:Int) (p:Zz) (d:Int):List dO × Int:=if ky s v x t≠0 then ([],ky s v x t) else if Nb p = false then ([],2) else if d < 1∨d > 64 then ([],3) else if (iP s v d.toNat x t []).2≠0 then ([],(iP s v d.toNat x t []).2) else if Sd v.dive p (iP s v d.toNat x t []).1 t = true then ([],15) else iP s v d.toNat x t []
set_option maxRecDepth 100000 in
set_option maxHeartbeats 8000000 in
theorem agt (s:j3) (v:nz) (x:dO) (t:Int) (p:Zz) (d:Int) (A7 A8:Option Addr) (c7 c8:Nat) (w:World) (h7:s.shores.length≤c7) (TG:Kd.C Kd.bool w A7 s.shores.length s.shores) (h8:s.currents.length≤c8) (PM:Kd.C DD w A8 s.currents.length s.currents):
 Calls Try.prog 53 #[.agg #[U Z s.nx,U Z s.ny,U Z s.cell,U Z s.slot,U Z s.slots,U Z s.layers,U Z s.most,.slice A7 s.shores.length c7,.slice A8 s.currents.length c8],.agg #[U Z v.speed,U Z v.dive,U Z v.use.f0,U Z v.use.f1,U Z v.drift.f0,U Z v.drift.f1,U Z v.reserve],.agg #[U Z x.f0.f0,U Z x.f0.f1,U Z x.f1.f0,U Z x.f1.f1],U Z t,.agg #[U Z p.f0.f0.f0,U Z p.f0.f0.f1,U Z p.f0.f1.f0,U Z p.f0.f1.f1,U Z p.f1,U Z p.f2],U Z d] w (RS (GJ s v x t p d) w):=by
 have zR:=Try.underlying25
 have Cb:=Try.underlying29
 have oP:=Try.underlying31
 have oo:=Try.underlying27
 have aiS:=Try.underlying81
 have HX:Hid (GJ s v x t p d = if ky s v x t≠0 then ([],ky s v x t) else if Nb p = false then ([],2) else if d < 1∨d > 64 then ([],3) else if (iP s v d.toNat x t []).2≠0 then ([],(iP s v d.toNat x t []).2) else if Sd v.dive p (iP s v d.toNat x t []).1 t = true then ([],15) else iP s v d.toNat x t []):=Lib.hid rfl
 have hbg:ky s v x t = if kI s v≠0 then kI s v else nD x t:=rfl
 have HBG:=Lib.hid hbg
 clear hbg
 go_enter Try.func53,Try.ntmps53
 go_wp2_with fail
 have m6:eT ((((w.alloc (.cells #[U Z s.nx,U Z s.ny,U Z s.cell,U Z s.slot,U Z s.slots,U Z s.layers,U Z s.most,.slice A7 s.shores.length c7,.slice A8 s.currents.length c8] 25)).alloc (.cells #[U Z v.speed,U Z v.dive,U Z v.use.f0,U Z v.use.f1,U Z v.drift.f0,U Z v.drift.f1,U Z v.reserve] 29)).alloc (.cells #[U Z x.f0.f0,U Z x.f0.f1,U Z x.f1.f0,U Z x.f1.f1] 31)).alloc (.cells #[U Z p.f0.f0.f0,U Z p.f0.f0.f1,U Z p.f0.f1.f0,U Z p.f0.f1.f1,U Z p.f1,U Z p.f2] 81)) (w.heap.size) #[U Z s.nx,U Z s.ny,U Z s.cell,U Z s.slot,U Z s.slots,U Z s.layers,U Z s.most,.slice A7 s.shores.length c7,.slice A8 s.currents.length c8] 25:=(ae (ae (ae UN _) _) _)
 have m7:eT ((((w.alloc (.cells #[U Z s.nx,U Z s.ny,U Z s.cell,U Z s.slot,U Z s.slots,U Z s.layers,U Z s.most,.slice A7 s.shores.length c7,.slice A8 s.currents.length c8] 25)).alloc (.cells #[U Z v.speed,U Z v.dive,U Z v.use.f0,U Z v.use.f1,U Z v.drift.f0,U Z v.drift.f1,U Z v.reserve] 29)).alloc (.cells #[U Z x.f0.f0,U Z x.f0.f1,U Z x.f1.f0,U Z x.f1.f1] 31)).alloc (.cells #[U Z p.f0.f0.f0,U Z p.f0.f0.f1,U Z p.f0.f1.f0,U Z p.f0.f1.f1,U Z p.f1,U Z p.f2] 81)) (w.heap.size+1) #[U Z v.speed,U Z v.dive,U Z v.use.f0,U Z v.use.f1,U Z v.drift.f0,U Z v.drift.f1,U Z v.reserve] 29:=(ae (ae XN _) _)
 have m8:eT ((((w.alloc (.cells #[U Z s.nx,U Z s.ny,U Z s.cell,U Z s.slot,U Z s.slots,U Z s.layers,U Z s.most,.slice A7 s.shores.length c7,.slice A8 s.currents.length c8] 25)).alloc (.cells #[U Z v.speed,U Z v.dive,U Z v.use.f0,U Z v.use.f1,U Z v.drift.f0,U Z v.drift.f1,U Z v.reserve] 29)).alloc (.cells #[U Z x.f0.f0,U Z x.f0.f1,U Z x.f1.f0,U Z x.f1.f1] 31)).alloc (.cells #[U Z p.f0.f0.f0,U Z p.f0.f0.f1,U Z p.f0.f1.f0,U Z p.f0.f1.f1,U Z p.f1,U Z p.f2] 81)) (w.heap.size+1+1) #[U Z x.f0.f0,U Z x.f0.f1,U Z x.f1.f0,U Z x.f1.f1] 31:=(ae aff _)
 have m10:eT ((((w.alloc (.cells #[U Z s.nx,U Z s.ny,U Z s.cell,U Z s.slot,U Z s.slots,U Z s.layers,U Z s.most,.slice A7 s.shores.length c7,.slice A8 s.currents.length c8] 25)).alloc (.cells #[U Z v.speed,U Z v.dive,U Z v.use.f0,U Z v.use.f1,U Z v.drift.f0,U Z v.drift.f1,U Z v.reserve] 29)).alloc (.cells #[U Z x.f0.f0,U Z x.f0.f1,U Z x.f1.f0,U Z x.f1.f1] 31)).alloc (.cells #[U Z p.f0.f0.f0,U Z p.f0.f0.f1,U Z p.f0.f1.f0,U Z p.f0.f1.f1,U Z p.f1,U Z p.f2] 81)) (w.heap.size+1+1+1) #[U Z p.f0.f0.f0,U Z p.f0.f0.f1,U Z p.f0.f1.f0,U Z p.f0.f1.f1,U Z p.f1,U Z p.f2] 81:=(by have h_:=eP (((w.alloc (.cells #[U Z s.nx,U Z s.ny,U Z s.cell,U Z s.slot,U Z s.slots,U Z s.layers,U Z s.most,.slice A7 s.shores.length c7,.slice A8 s.currents.length c8] 25)).alloc (.cells #[U Z v.speed,U Z v.dive,U Z v.use.f0,U Z v.use.f1,U Z v.drift.f0,U Z v.drift.f1,U Z v.reserve] 29)).alloc (.cells #[U Z x.f0.f0,U Z x.f0.f1,U Z x.f1.f0,U Z x.f1.f1] 31)) (.cells #[U Z p.f0.f0.f0,U Z p.f0.f0.f1,U Z p.f0.f1.f0,U Z p.f0.f1.f1,U Z p.f1,U Z p.f2] 81);first|exact h_|(simp only [World.size_alloc] at h_;exact h_))
 have mB:Below w.heap.size w ((((w.alloc (.cells #[U Z s.nx,U Z s.ny,U Z s.cell,U Z s.slot,U Z s.slots,U Z s.layers,U Z s.most,.slice A7 s.shores.length c7,.slice A8 s.currents.length c8] 25)).alloc (.cells #[U Z v.speed,U Z v.dive,U Z v.use.f0,U Z v.use.f1,U Z v.drift.f0,U Z v.drift.f1,U Z v.reserve] 29)).alloc (.cells #[U Z x.f0.f0,U Z x.f0.f1,U Z x.f1.f0,U Z x.f1.f1] 31)).alloc (.cells #[U Z p.f0.f0.f0,U Z p.f0.f0.f1,U Z p.f0.f1.f0,U Z p.f0.f1.f1,U Z p.f1,U Z p.f2] 81)):=(aT (aT (aT (aT (Below.refl w.heap.size w) _) _) _) _)
 have jS:w.heap.size≤w.heap.size:=Nat.le_refl _
 generalize qL:((((w.alloc (.cells #[U Z s.nx,U Z s.ny,U Z s.cell,U Z s.slot,U Z s.slots,U Z s.layers,U Z s.most,.slice A7 s.shores.length c7,.slice A8 s.currents.length c8] 25)).alloc (.cells #[U Z v.speed,U Z v.dive,U Z v.use.f0,U Z v.use.f1,U Z v.drift.f0,U Z v.drift.f1,U Z v.reserve] 29)).alloc (.cells #[U Z x.f0.f0,U Z x.f0.f1,U Z x.f1.f0,U Z x.f1.f1] 31)).alloc (.cells #[U Z p.f0.f0.f0,U Z p.f0.f0.f1,U Z p.f0.f1.f0,U Z p.f0.f1.f1,U Z p.f1,U Z p.f2] 81)) = W1 at m6 m7 m8 m10 mB ⊢
 clear qL
 generalize UC:w.heap.size = g6 at m6 m7 m8 m10 ⊢
 have SC:w.heap.size≤g6:=by omega
 generalize hg7:g6+1 = g7 at m7 m8 m10 ⊢
 have iy:g6≠g7:=by omega
 have Rc:g7≠g6:=iy.symm
 have hG7:w.heap.size≤g7:=by omega
 generalize hg8:g7+1 = g8 at m8 m10 ⊢
 have Ih:g6≠g8:=by omega
 have zP:g7≠g8:=by omega
 have ajG:g8≠g6:=Ih.symm
 have nC:g8≠g7:=zP.symm
 have Xv:w.heap.size≤g8:=by omega
 generalize UD:g8+1 = g10 at m10 ⊢
 have mE:g6≠g10:=by omega
 have EP:g7≠g10:=by omega
 have UG:g8≠g10:=by omega
 have PZ:g10≠g6:=mE.symm
 have UF:g10≠g7:=EP.symm
 have akB:g10≠g8:=UG.symm
 have pz:w.heap.size≤g10:=by omega
 clear jS
 try clear UD
 try clear hg8
 try clear hg7
 try clear UC
 have wG:w.heap.size≤W1.heap.size:=mB.size
 obtain ⟨DF,Kz,KA,KC,ajs,ajt,aju,aPE,aPF⟩:=BG m6
 obtain ⟨Hf,Hg,KD,KE,awp,awq,awr⟩:=Hr m7
 obtain ⟨PL,afc,ahh,ahi⟩:=nV m8
 obtain ⟨Bp,Bq,Br,Bt,Y5,Y6⟩:=ai5 m10
 go_wp2_with fail
 clear DF Kz KA KC ajs ajt aju aPE aPF Hf Hg KD KE awp awq awr PL afc ahh ahi Bp Bq Br Bt Y5 Y6
 have hcon:=NI s v x t A7 A8 c7 c8 W1 h7 (Kd.bz TG mB) h8 (Kd.bz PM mB)
 (with_reducible refine hcon.mono ?_)
 clear hcon
 rintro e W2 ⟨ptr,rfl,hb,hpt⟩
 replace m6:=av m6 hb
 replace m7:=av m7 hb
 replace m8:=av m8 hb
 replace m10:=av m10 hb
 replace mB:=bO mB hb
 clear hb
 have sO:w.heap.size≤W2.heap.size:=mB.size
 generalize XO:ky s v x t = E0 at*
 have HE0:=Lib.hid XO
 clear XO
 by_cases h0:E0 = 0
 case neg =>
  have HZ:=Lib.hid (HX.out.trans (if_pos h0))
  have hd1:(E0 == 0) = false:=beq_eq_false_iff_ne.2 h0
  have hd2:(E0 != 0) = true:=by rw [bne,hd1];rfl
  clear h0 hpt HX
  go_wp2
  go_ret2
  exact ⟨_,o6,Tt,mB⟩
 case pos =>
  have Zy:=Lib.hid (HX.out.trans (if_neg (fun h=>h h0)))
  clear HX
  have hb0:=HBG.out.symm.trans h0
  obtain ⟨ht0,hp0⟩:=zG hb0
  obtain ⟨hbx,UR,ZX⟩:=BH hp0
  obtain ⟨hSV,hVN⟩:=BF ht0
  rcases hpt with ⟨_,g,rfl,hg,hT⟩|⟨hbad,_⟩
  case inr=>exact absurd ht0 hbad
  case inl =>
   subst h0
   clear hb0 ht0 hp0 HBG
   obtain ⟨Bp,Bq,Br,Bt,Y5,Y6⟩:=ai5 m10
   go_wp2_with fail
   clear Bp Bq Br Bt Y5 Y6
   skip
   have hcon:=nH.calls 4 p.f0.f0.f0 p.f0.f0.f1 p.f0.f1.f0 p.f0.f1.f1 p.f1 p.f2 _ W2 (agq p)
   (with_reducible refine hcon.mono ?_)
   clear hcon
   rintro e W3 ⟨rfl,hb⟩
   replace hT:=hT.below hb
   replace m6:=av m6 hb
   replace m7:=av m7 hb
   replace m8:=av m8 hb
   replace m10:=av m10 hb
   replace mB:=bO mB hb
   clear hb
   have Ha:w.heap.size≤W3.heap.size:=mB.size
   cases hpk:Nb p with
   |false =>
    have HZ:=Lib.hid (Zy.out.trans (if_pos hpk))
    clear hpk Zy
    go_wp2
    go_ret2
    exact ⟨_,o6,Tt,mB⟩
   |true =>
    have HX3:=Lib.hid (Zy.out.trans (if_neg (by rw [hpk];decide)))
    clear Zy hpk
    by_cases hd:d < 1∨d > 64
    case pos =>
     have HZ:=Lib.hid (HX3.out.trans (if_pos hd))
     clear HX3
     by_cases hq:d < 1
     case pos =>
      clear hd
      go_wp2
      go_ret2
      exact ⟨_,o6,Tt,mB⟩
     case neg =>
      have hq2:d > 64:=by omega
      clear hd
      go_wp2
      go_ret2
      exact ⟨_,o6,Tt,mB⟩
    case neg =>
     have HX4:=Lib.hid (HX3.out.trans (if_neg hd))
     clear HX3
     have hq:¬ d < 1:=by omega
     have hq2:¬ d > 64:=by omega
     clear hd
     obtain ⟨m,rfl⟩:∃ m:Nat,d = m:=⟨d.toNat,by omega⟩
     rw [Int.toNat_natCast] at HX4
     obtain ⟨PL,afc,ahh,ahi⟩:=nV m8
     go_wp2_with fail
     clear PL afc ahh ahi
     skip
     have hcon:=Uh g s v x t m W3 hT hSV hVN hbx UR ZX (by omega)
     (with_reducible refine hcon.mono ?_)
     clear hcon
     rintro e W5 ⟨Vn,rfl,HR,hb⟩
     have hlen:=JG s v m x t []
     rw [List.length_nil,Nat.zero_add] at hlen
     generalize iP s v m x t [] = R at*
     replace HR:=Kd.jH HR mB.size
     replace m6:=av m6 hb
     replace m7:=av m7 hb
     replace m8:=av m8 hb
     replace m10:=av m10 hb
     replace mB:=bO mB hb
     clear hb
     have Rj:w.heap.size≤W5.heap.size:=mB.size
     obtain ⟨l,E1⟩:=R
     dsimp only at*
     by_cases h1:E1 = 0
     case neg =>
      have HZ:=Lib.hid (HX4.out.trans (if_pos h1))
      have hd1:(E1 == 0) = false:=beq_eq_false_iff_ne.2 h1
      have hd2:(E1 != 0) = true:=by rw [bne,hd1];rfl
      clear h1 HX4
      go_wp2
      go_ret2
      exact ⟨_,o6,Tt,mB⟩
     case pos =>
      have HX5:=Lib.hid (HX4.out.trans (if_neg (fun h=>h h1)))
      clear HX4
      subst h1
      obtain ⟨A_,c_,rfl,hc_,hC_⟩:=Kd.PW HR
      obtain ⟨Hf,Hg,KD,KE,awp,awq,awr⟩:=Hr m7
      obtain ⟨Bp,Bq,Br,Bt,Y5,Y6⟩:=ai5 m10
      go_wp2_with fail
      clear Hf Hg KD KE awp awq awr Bp Bq Br Bt Y5 Y6
      skip
      have hcon:=dU.calls 66 v.speed v.dive v.use.f0 v.use.f1 v.drift.f0 v.drift.f1 v.reserve t A_ c_ l p.f0.f0.f0 p.f0.f0.f1 p.f0.f1.f0 p.f0.f1.f1 p.f1 p.f2 _ W5 hC_ hc_ (ags v p l t (by omega) hVN.dive UR ZX)
      (with_reducible refine hcon.mono ?_)
      clear hcon
      rintro e W6 ⟨rfl,hb⟩
      replace HR:=Kd.lD HR hb
      replace m6:=av m6 hb
      replace m7:=av m7 hb
      replace m8:=av m8 hb
      replace m10:=av m10 hb
      replace mB:=bO mB hb
      clear hb
      cases hf:Sd v.dive p l t with
      |true =>
       have HZ:=Lib.hid (HX5.out.trans (if_pos hf))
       clear hf HX5
       go_wp2
       go_ret2
       exact ⟨_,o6,Tt,mB⟩
      |false =>
       have HZ:=Lib.hid (HX5.out.trans (if_neg (by rw [hf];decide)))
       clear hf HX5
       go_wp2
       go_ret2
       exact ⟨_,o6,by rw [HZ.out];exact HR,mB⟩
end Go.Proofs.Ytmhaiihjfgfaoaa.Gl
end
section
namespace Go.Proofs.Ytmhaiihjfgfaoaa.Pr
open Go.RowKit Go.Proofs.YtmhaiihjfgfaoaaW.PrintWords Go.Proofs.YtmhaiihjfgfaoaaW.PrintLast Go.Proofs.YtmhaiihjfgfaoaaW.PrintMore Go.Proofs.Ytmhaiihjfgfaoaa.Gl
set_option linter.unusedVariables false
def oL.f (ah:Int) (ai:Int) (ax:Int) (ay:Int) (aK:Int) (aH:Int) (aJ:Int) (aR:List Bool) (aC:List (oV)) (aQ:Int) (aM:Int) (bf:Int) (bg:Int) (bD:Int) (bE:Int) (bF:Int) (bJ:Int) (bK:Int) (bM:Int) (bN:Int) (a3:Int) (jr:Int) (iO:Int) (mq:Int) (mr:Int) (mF:Int) (mG:Int) (a5:Int):Option ((List (dO)) × Int):=some (GJ ⟨ah,ai,ax,ay,aK,aH,aJ,aR,aC⟩ ⟨aQ,aM,⟨bf,bg⟩,⟨bD,bE⟩,bF⟩ ⟨⟨bJ,bK⟩,⟨bM,bN⟩⟩ a3 ⟨⟨⟨jr,iO⟩,⟨mq,mr⟩⟩,mF,mG⟩ a5)
theorem oL.calls (ah:Int) (ai:Int) (ax:Int) (ay:Int) (aK:Int) (aH:Int) (aJ:Int) (dG:Option Addr) (dH:Nat) (aR:List Bool) (dJ:Option Addr) (dI:Nat) (aC:List (oV)) (aQ:Int) (aM:Int) (bf:Int) (bg:Int) (bD:Int) (bE:Int) (bF:Int) (bJ:Int) (bK:Int) (bM:Int) (bN:Int) (a3:Int) (jr:Int) (iO:Int) (mq:Int) (mr:Int) (mF:Int) (mG:Int) (a5:Int) (r1:List (dO)) (r2:Int) (w:World) (iU:Kd.C Kd.bool w dG aR.length aR) (iV:aR.length≤dH) (iW:Kd.C DD w dJ aC.length aC) (iX:aC.length≤dI) (h:oL.f ah ai ax ay aK aH aJ aR aC aQ aM bf bg bD bE bF bJ bK bM bN a3 jr iO mq mr mF mG a5 = some (r1,r2)):
 Calls Try.prog 53 #[.agg #[U Z ah,U Z ai,U Z ax,U Z ay,U Z aK,U Z aH,U Z aJ,.slice dG aR.length dH,.slice dJ aC.length dI],.agg #[U Z aQ,U Z aM,U Z bf,U Z bg,U Z bD,U Z bE,U Z bF],.agg #[U Z bJ,U Z bK,U Z bM,U Z bN],U Z a3,.agg #[U Z jr,U Z iO,U Z mq,U Z mr,U Z mF,U Z mG],U Z a5] w fun e w'=>∃ Vn:Value,e = .returned (.tuple #[Vn,U Z r2])∧Kd.R Iy 31 w' w.heap.size (fun _=>True) Vn r1∧Below w.heap.size w w':=by
 have e_:=Option.some.inj h
 have q_:=agt ⟨ah,ai,ax,ay,aK,aH,aJ,aR,aC⟩ ⟨aQ,aM,⟨bf,bg⟩,⟨bD,bE⟩,bF⟩ ⟨⟨bJ,bK⟩,⟨bM,bN⟩⟩ a3 ⟨⟨⟨jr,iO⟩,⟨mq,mr⟩⟩,mF,mG⟩ a5 dG dJ dH dI w iV iU iX iW
 rw [e_] at q_
 exact q_
end Go.Proofs.Ytmhaiihjfgfaoaa.Pr
end
