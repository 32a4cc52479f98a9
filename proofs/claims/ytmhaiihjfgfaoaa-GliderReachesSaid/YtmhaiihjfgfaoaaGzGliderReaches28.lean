import Derived.Test.YtmhaiihjfgfaoaaGzGliderReaches3
import Derived.Test.YtmhaiihjfgfaoaaGzGliderReaches12
open Go.Value renaming int → U
open Go.IntKind renaming i64 → Z
open Bool renaming true → ab, false → ac
section
namespace Go.Proofs.Ytmhaiihjfgfaoaa.Pr
open Go.RowKit Go.Proofs.YtmhaiihjfgfaoaaW.PrintWords Go.Proofs.YtmhaiihjfgfaoaaW.PrintLast Go.Proofs.YtmhaiihjfgfaoaaW.PrintMore
attribute [local go_sem] eD eF fD fE eG
set_option linter.unusedVariables false
set_option linter.unusedSimpArgs false
def iT.f (ah:Int) (ai:Int) (aQ:Int) (aM:Int):Option (Int × Int × Bool):=some (mx ah aQ,mn ai aM,decide ((mx ah aQ)≤(mn ai aM)))
def iT.T2:Bool × List (List Nat × List Nat):=(true,[([],[]),([],[]),([1],[1]),([],[]),([3],[3]),([2,4],[2,4]),([0,0],[0]),([5,6,0,1,2,3,4,5,6],[5])])
def iT.B2:List Nat:=[0,0,2,0,8,30,1,127]
theorem iT.ahK:qX .any (opsOf Try.f138 2) = iT.T2:=by kernel_rfl
theorem iT.XU:ou iT.T2.2 iT.B2 = true:=by kernel_rfl
set_option maxHeartbeats 8000000 in
set_option maxRecDepth 100000 in
theorem iT.calls (ah:Int) (ai:Int) (aQ:Int) (aM:Int) (r1:Int) (r2:Int) (r3:Bool) (w:World) (h:iT.f ah ai aQ aM = some (r1,r2,r3)):
 Calls Try.prog 138 #[.agg #[U Z ah,U Z ai],.agg #[U Z aQ,U Z aM]] w fun e w'=>e = .returned (.tuple #[.agg #[U Z r1,U Z r2],.bool r3])∧Below w.heap.size w w':=by
 have oo:=Try.underlying27
 have HB:=aa.mk (Below.refl w.heap.size w)
 have H:(some (mx ah aQ,mn ai aM,decide ((mx ah aQ)≤(mn ai aM)))) = some (r1,r2,r3):=h
 clear h
 obtain ⟨BL,G6⟩:∃ j_:Int,(mx ah aQ) = j_:=⟨_,rfl⟩
 replace H:(some (BL,mn ai aM,decide ((BL)≤(mn ai aM)))) = some (r1,r2,r3):=by first|(rw [G6] at H;exact H)|(simp only [G6] at H ⊢;exact H)
 have aia:(if ah < aQ then aQ else ah) = BL:=G6
 obtain ⟨Qf,NR⟩:∃ j_:Int,(mn ai aM) = j_:=⟨_,rfl⟩
 replace H:(some (BL,Qf,decide ((BL)≤(Qf)))) = some (r1,r2,r3):=by first|(rw [NR] at H;exact H)|(simp only [NR] at H ⊢;exact H)
 have asO:(if aM < ai then aM else ai) = Qf:=NR
 simp only [Option.some.injEq,Prod.mk.injEq] at H
 obtain ⟨rfl,rfl,rfl⟩:=H
 go_enter Try.func138,Try.ntmps138
 try go_wp2_with (first|((with_reducible refine aG (N:=2) rfl ?_);refine az (by rfl) (N:=2) (by rfl) (cs:=#[U Z ah,U Z ai]) (t:=27) fM ?_;intro aEn hg w5 hbox hb;have wK:=aa.mk (hbox);have aSo:=dn HB hg;have aSp:=dn HB hg;replace HB:=dw HB hb;clear hb hbox hg)|((with_reducible refine aG (N:=3) rfl ?_);refine az (by rfl) (N:=3) (by rfl) (cs:=#[U Z aQ,U Z aM]) (t:=27) fM ?_;intro aEo hg w6 hbox hb;have Dn:=aa.mk (hbox);have aSq:=dn HB hg;have aSr:=dn HB hg;have age:=iq wK hg;have agf:=iw wK hg;replace wK:=bC wK hb;replace HB:=dw HB hb;clear hb hbox hg)|((with_reducible refine aG (N:=4) rfl ?_);refine az (by rfl) (N:=4) (by rfl) (cs:=#[U Z 0,U Z 0]) (t:=27) fM ?_;intro aeg hg w7 hbox hb;have Dp:=aa.mk (hbox);have aSs:=dn HB hg;have aSt:=dn HB hg;have OC:=iq wK hg;have OD:=iw wK hg;have OE:=iq Dn hg;have OG:=iw Dn hg;replace wK:=bC wK hb;replace Dn:=bC Dn hb;replace HB:=dw HB hb;clear hb hbox hg;have afx:=age.out;have afy:=agf.out;have ak3:=OC.out;have ak4:=OD.out;obtain ⟨rG,rH,rJ,rM⟩:=jq wK.out;have XV:=OE.out;have XW:=OG.out;obtain ⟨qx,qy,qz,qA⟩:=jq Dn.out)|((with_reducible refine aG (N:=6) rfl ?_);refine az (by rfl) (N:=6) (by rfl) (cs:=#[U Z 0,U Z 0]) (t:=27) fM ?_;intro BR hg TA hbox hb;have M3:=aa.mk (hbox);have aSu:=dn HB hg;have aSv:=dn HB hg;have agh:=iq wK hg;have agi:=iw wK hg;have agj:=iq Dn hg;have agk:=iw Dn hg;have OH:=iq Dp hg;have xO:=iw Dp hg;replace wK:=bC wK hb;replace Dn:=bC Dn hb;replace Dp:=bC Dp hb;replace HB:=dw HB hb;clear hb hbox hg;have XZ:=agi.out;have X0:=agh.out;have Yk:=agk.out;have Yl:=agj.out;have TL:=xO.out;have TM:=OH.out;obtain ⟨lW,lX,lY,lZ⟩:=jq M3.out))
 have x9:aa (((TA.setCell ⟨BR,0,none⟩ (U Z BL)).setCell ⟨BR,1,none⟩ (U Z Qf)).heap[aEn]? = some (.cells #[U Z ah,U Z ai] 27 (0,0))):=⟨fB⟩
 have yc:aa (((TA.setCell ⟨BR,0,none⟩ (U Z BL)).setCell ⟨BR,1,none⟩ (U Z Qf)).heap[aEo]? = some (.cells #[U Z aQ,U Z aM] 27 (0,0))):=⟨fB⟩
 have yf:aa (((TA.setCell ⟨BR,0,none⟩ (U Z BL)).setCell ⟨BR,1,none⟩ (U Z Qf)).heap[aeg]? = some (.cells #[U Z 0,U Z 0] 27 (0,0))):=⟨fB⟩
 have yg:aa (((TA.setCell ⟨BR,0,none⟩ (U Z BL)).setCell ⟨BR,1,none⟩ (U Z Qf)).heap[BR]? = some (.cells #[U Z BL,U Z Qf] 27 (0,0))):=⟨by (with_reducible repeat (first|refine au ?_ _|refine ag ?_|refine ae ?_ _));refine aI (cs:=#[U Z BL,U Z 0]) ?_ 1 _ rfl;(with_reducible repeat (first|refine au ?_ _|refine ag ?_|refine ae ?_ _));refine aI (cs:=#[U Z 0,U Z 0]) ?_ 0 _ rfl;(with_reducible repeat (first|refine au ?_ _|refine ag ?_|refine ae ?_ _));exact M3.out⟩
 have Bf:aa (Below w.heap.size w ((TA.setCell ⟨BR,0,none⟩ (U Z BL)).setCell ⟨BR,1,none⟩ (U Z Qf))):=⟨fu⟩
 (try clear wK)
 (try clear Dn)
 (try clear Dp)
 (try clear M3)
 (try clear HB)
 generalize ((TA.setCell ⟨BR,0,none⟩ (U Z BL)).setCell ⟨BR,1,none⟩ (U Z Qf)) = w18 at x9 yc yf yg Bf ⊢
 have wK:=x9
 have Dn:=yc
 have Dp:=yf
 have M3:=yg
 have HB:=Bf
 clear x9 yc yf yg Bf
 replace wK:=aa.mk (ag wK.out)
 replace Dn:=aa.mk (ag Dn.out)
 replace Dp:=aa.mk (ag Dp.out)
 replace M3:=aa.mk (ag M3.out)
 replace HB:=aa.mk (bU HB.out)
 refine jT (n:=8) (S:=fun w'=>w'.cell? ⟨BR,0,none⟩ = some (U Z BL)∧w'.cell? ⟨BR,1,none⟩ = some (U Z Qf)) (ds:=[]) #[ac,ac,ac,ac,ac,ac,ac,ac] aY rfl rfl ⟨dz M3 0,dz M3 1⟩ (fun hHeld=>?_);refine jg iT.ahK iT.XU (fun cO lS=>?_)
 generalize w18.drew = w19 at wK Dn Dp M3 HB hHeld ⊢
 refine dW (i:=1) (N:=some 19) (aU cO.out aY) ?_
 refine dW (i:=3) (N:=some 21) (aU cO.out aY) ?_
 refine ja (i:=0) (N:=some 18) (bS cO.out lS.out aY) hHeld ?_
 refine ja (i:=2) (N:=some 20) (bS cO.out lS.out aY) hHeld ?_
 refine ja (i:=4) (N:=some 22) (bS cO.out lS.out aY) hHeld ?_
 refine dW (i:=5) (N:=some 23) (aU cO.out aY) ?_
 refine jJ (i:=6) (N:=none) #[ab,ab,ab,ab,ab,ab,ab,ac] rfl rfl (gM cO.out aY) (by decide) (fun K hK=>?_)
 have aUV:w19.cell? ⟨aeg,0,none⟩ = some (U Z 0):=(af Dp.out 0).trans rfl
 have aSw:=bn Dp.out 0
 have aMw:=OC.out
 have aMx:=OE.out
 have aMy:=xO.out
 have aMz:=OD.out
 have aMA:=OG.out
 have aMB:=OH.out
 have aOg:w19.cell? ⟨aeg,1,none⟩ = some (U Z 0):=(af Dp.out 1).trans rfl
 have axG:=bn Dp.out 1
 have akM:=OC.out
 have akN:=OE.out
 have aMC:=xO.out
 have akO:=OD.out
 have akP:=OG.out
 have aMD:=OH.out
 refine zD (w1:=?_) (by rfl) rfl ?_ ?_
 rotate_left
 ·go_simp
  rfl
 refine hK.out _ _ ⟨(fO xO ((fO xO (hHeld.1)))),(fO xO ((fO xO (hHeld.2))))⟩ (fun hHeld=>?_)
 clear hK K
 refine dW (i:=7) (N:=some 5) (aU cO.out aY) ?_
 refine lI (lN cO.out aY) ?_
 try go_wp2
 refine bodyPost_ret (oN rfl _ _ aeg 27 #[U Z BL,U Z Qf] (0,0) _ rfl (by (with_reducible repeat (first|refine au ?_ _|refine ag ?_|refine ae ?_ _));refine aI (cs:=#[U Z BL,U Z 0]) ?_ 1 _ rfl;(with_reducible repeat (first|refine au ?_ _|refine ag ?_|refine ae ?_ _));refine aI (cs:=#[U Z 0,U Z 0]) ?_ 0 _ rfl;(with_reducible repeat (first|refine au ?_ _|refine ag ?_|refine ae ?_ _));exact Dp.out) Try.underlying27 rfl aY) rfl ?_
 exact ⟨ayh,fu⟩
attribute [local go_sem high] ajj
def Ia.f (k:Nat) (ah:Int) (ai:Int) (aQ:Int) (aM:Int):Option (Int × Int):=(dB.f k (([(⟨ah,ai⟩:lu),(⟨aQ,aM⟩:lu)]:List (lu)))).bind fun Ev=>(if Ev = 0 then ((iT.f ah ai aQ aM).bind fun BS=>(if BS.2.2 = true then (if (BS.1 == ah && (BS.2.1 == ai)) = true then (some (2,0)) else (some (1,0))) else (some (0,0)))) else (some (0,Ev)))
set_option maxHeartbeats 8000000 in
set_option maxRecDepth 100000 in
theorem Ia.calls (k:Nat) (ah:Int) (ai:Int) (aQ:Int) (aM:Int) (r1:Int) (r2:Int) (w:World) (h:Ia.f k ah ai aQ aM = some (r1,r2)):
 Calls Try.prog 128 #[.agg #[U Z ah,U Z ai],.agg #[U Z aQ,U Z aM]] w fun e w'=>e = .returned (.tuple #[U Z r1,U Z r2])∧Below w.heap.size w w':=by
 have oo:=Try.underlying27
 have HB:=aa.mk (Below.refl w.heap.size w)
 have H:((dB.f k (([(⟨ah,ai⟩:lu),(⟨aQ,aM⟩:lu)]:List (lu)))).bind fun Ev=>(if Ev = 0 then ((iT.f ah ai aQ aM).bind fun BS=>(if BS.2.2 = true then (if (BS.1 == ah && (BS.2.1 == ai)) = true then (some (2,0)) else (some (1,0))) else (some (0,0)))) else (some (0,Ev)))) = some (r1,r2):=h
 clear h
 obtain ⟨WV,YU⟩:∃ y_:List (lu),y_ = (([(⟨ah,ai⟩:lu),(⟨aQ,aM⟩:lu)]:List (lu))):=⟨_,rfl⟩
 replace H:((dB.f k WV).bind fun Ev=>(if Ev = 0 then ((iT.f ah ai aQ aM).bind fun BS=>(if BS.2.2 = true then (if (BS.1 == ah && (BS.2.1 == ai)) = true then (some (2,0)) else (some (1,0))) else (some (0,0)))) else (some (0,Ev)))) = some (r1,r2):=by first|(rw [YU];with_reducible exact H)|(have Ku:=(Option.bind_some _ _).symm.trans H;rw [YU];with_reducible exact Ku)|(have Ku:=(Option.bind_some _ _).symm.trans H;with_reducible exact Ku)|with_reducible exact H|(rw [YU];exact H)|exact H
 have Pv:=aa.mk YU
 clear YU
 replace H:=Option.bind_eq_some_iff.mp H
 obtain ⟨Ev,O5,H⟩:=H
 replace H:(if Ev = 0 then ((iT.f ah ai aQ aM).bind fun BS=>(if BS.2.2 = true then (if (BS.1 == ah && (BS.2.1 == ai)) = true then (some (2,0)) else (some (1,0))) else (some (0,0)))) else (some (0,Ev))) = some (r1,r2):=H
 have A3:=aa.mk O5
 clear O5
 by_cases c4:Ev = 0
 ·rw [if_pos c4] at H
  have sK:(Ev == 0) = true:=beq_iff_eq.mpr c4
  have aho:(Ev != 0) = false:=bne_eq_false_iff_eq.mpr c4
  clear c4
  replace H:=Option.bind_eq_some_iff.mp H
  obtain ⟨⟨OI,OJ,aEp⟩,O4,H⟩:=H
  replace H:(if aEp = true then (if (OI == ah && (OJ == ai)) = true then (some (2,0)) else (some (1,0))) else (some (0,0))) = some (r1,r2):=H
  have A5:=aa.mk O4
  clear O4
  by_cases c6:aEp = true
  ·subst c6
   have H1:(if (OI == ah && (OJ == ai)) = true then (some (2,0)) else (some (1,0))) = some (r1,r2):=by rw [if_pos rfl] at H;exact H
   clear H
   have H:=H1
   clear H1
   by_cases c7:(OI == ah && (OJ == ai)) = true
   ·rw [if_pos c7] at H
    have Kw:(OI == ah && (OJ == ai)) = true:=c7
    (try (have Wy:decide (OI = ah && (OJ == ai)) = true:=by simpa using c7))
    (try (have aPq:(OI == ah && (OJ == ai)) = true:=by simpa using c7))
    clear c7
    simp only [Option.some.injEq,Prod.mk.injEq] at H
    obtain ⟨rfl,rfl⟩:=H
    go_enter Try.func128,Try.ntmps128
    go_wp2_with (first|((with_reducible refine aG (N:=2) rfl ?_);refine az (by rfl) (N:=2) (by rfl) (cs:=#[U Z ah,U Z ai]) (t:=27) fM ?_;intro RX hg w8 hbox hb;have ic:=aa.mk (hbox);have ajk:=dn HB hg;have ajl:=dn HB hg;replace HB:=dw HB hb;clear hb hbox hg)|((with_reducible refine aG (N:=3) rfl ?_);refine az (by rfl) (N:=3) (by rfl) (cs:=#[U Z aQ,U Z aM]) (t:=27) fM ?_;intro RY hg w9 hbox hb;have jZ:=aa.mk (hbox);have ajm:=dn HB hg;have ajn:=dn HB hg;have xP:=iq ic hg;have xQ:=iw ic hg;replace ic:=bC ic hb;replace HB:=dw HB hb;clear hb hbox hg;have ahL:=xP.out;have ahM:=xQ.out;obtain ⟨uZ,u6,u7,ve⟩:=jq ic.out;obtain ⟨qx,qy,qz,qA⟩:=jq jZ.out)|((with_reducible refine aG (N:=11) rfl ?_);refine Kd.Bn k27 _ 27 (by rfl) (N:=11) (by rfl) (xs:=([(⟨ah,ai⟩:lu),(⟨aQ,aM⟩:lu)]:List (lu))) (inner:=[U Z ah,U Z ai,U Z aQ,U Z aM]) (ok:=fun _=>True) (okp:=fun _=>True) fM arj (fun _ hk=>hk) trivial (Below.refl _ _) (Nat.le_refl _) (by simp) ?_;intro awf TA ajo hb Lc ow;clear Lc ow;(first|rw [← Pv.out] at ajo|(simp only [Int.reduceToNat] at ajo;rw [← Pv.out] at ajo));have mD:=aa.mk (Kd.jH (Kd.qP (Kd.qP ajo (g:=RX) (o:=.cells #[U Z ah,U Z ai] 27 (0,0)) fB) (g:=RY) (o:=.cells #[U Z aQ,U Z aM] 27 (0,0)) fB) (fJ fu));replace ic:=bC ic hb;replace jZ:=bC jZ hb;replace HB:=dw HB hb;clear hb ajo;obtain ⟨aPr,aPs,aPt⟩:=Kd.jI mD.out;subst aPt)|((with_reducible refine aN (f:=116) rfl ?_);refine bT (some 12) rfl rfl Try.func116 aY rfl #[.slice aPr WV.length aPs] rfl iG ?_;(with_reducible refine (dB.calls k _ _ WV Ev _ ?df ?dh A3.out).mono ?_);(case df=>repeat (first|exact (Kd.fo mD.out).2.2|(with_reducible refine Kd.bA ?_ _)|(with_reducible refine Kd.bB ?_ _)|(with_reducible refine Kd.bQ ?_)));(case dh=>exact (Kd.fo mD.out).2.1);rintro e w16 ⟨rfl,hb⟩;refine ⟨_,rfl,?_⟩;replace mD:=uW mD hb;replace ic:=bC ic hb;replace jZ:=bC jZ hb;replace HB:=dw HB hb;(try clear hb);(try clear hb2);(try clear hk);(try clear hi);obtain ⟨lW,lX,lY,lZ⟩:=jq ic.out;obtain ⟨Ct,Cu,Cv,Cw⟩:=jq jZ.out)|((with_reducible refine aN (f:=138) rfl ?_);refine bT (some 19) rfl rfl Try.func138 aY rfl #[.agg #[U Z ah,U Z ai],.agg #[U Z aQ,U Z aM]] rfl iG ?_;(with_reducible refine (iT.calls ah ai aQ aM OI OJ true _ A5.out).mono ?_);rintro e w19 ⟨rfl,hb⟩;refine ⟨_,rfl,?_⟩;replace mD:=uW mD hb;replace ic:=bC ic hb;replace jZ:=bC jZ hb;replace HB:=dw HB hb;(try clear hb);(try clear hb2);(try clear hk);(try clear hi))|((with_reducible refine aG (N:=7) rfl ?_);refine az (by rfl) (N:=7) (by rfl) (cs:=#[U Z 0,U Z 0]) (t:=27) fM ?_;intro YV hg GZ hbox hb;have YW:=aa.mk (hbox);have aue:=dn HB hg;have auf:=dn HB hg;have Ew:=iq ic hg;have Ex:=iw ic hg;have Ey:=iq jZ hg;have Ez:=iw jZ hg;replace mD:=aa.mk (Kd.lD (Kd.DZ awg YV (Nat.le_of_eq hg.symm)) hb);replace ic:=bC ic hb;replace jZ:=bC jZ hb;replace HB:=dw HB hb;clear hb hbox hg;have asV:=Ex.out;have asW:=Ew.out;have abw:=Ez.out;have abx:=Ey.out;obtain ⟨EY,EZ,E5,E8⟩:=jq YW.out;obtain ⟨rq,ru,ry,rz⟩:=jq ic.out))
    go_ret2
    exact ⟨kL,fu⟩
   ·rw [if_neg c7] at H
    have Kw:(OI == ah && (OJ == ai)) = false:=by simpa using c7
    (try (have Wy:decide (OI = ah && (OJ == ai)) = false:=by simpa using c7))
    (try (have aPq:(OI == ah && (OJ == ai)) = false:=by simpa using c7))
    (try (have aUW:¬ (OI = ah && (OJ == ai)):=by simpa using c7))
    clear c7
    simp only [Option.some.injEq,Prod.mk.injEq] at H
    obtain ⟨rfl,rfl⟩:=H
    go_enter Try.func128,Try.ntmps128
    go_wp2_with (first|((with_reducible refine aG (N:=2) rfl ?_);refine az (by rfl) (N:=2) (by rfl) (cs:=#[U Z ah,U Z ai]) (t:=27) fM ?_;intro RX hg w25 hbox hb;have ic:=aa.mk (hbox);have ajk:=dn HB hg;have ajl:=dn HB hg;replace HB:=dw HB hb;clear hb hbox hg)|((with_reducible refine aG (N:=3) rfl ?_);refine az (by rfl) (N:=3) (by rfl) (cs:=#[U Z aQ,U Z aM]) (t:=27) fM ?_;intro RY hg Cc hbox hb;have jZ:=aa.mk (hbox);have ajm:=dn HB hg;have ajn:=dn HB hg;have xP:=iq ic hg;have xQ:=iw ic hg;replace ic:=bC ic hb;replace HB:=dw HB hb;clear hb hbox hg;have aiv:=xP.out;have aiw:=xQ.out;obtain ⟨V6,V7,V8,V9⟩:=jq ic.out;obtain ⟨qB,qC,qD,qE⟩:=jq jZ.out)|((with_reducible refine aG (N:=11) rfl ?_);refine Kd.Bn k27 _ 27 (by rfl) (N:=11) (by rfl) (xs:=([(⟨ah,ai⟩:lu),(⟨aQ,aM⟩:lu)]:List (lu))) (inner:=[U Z ah,U Z ai,U Z aQ,U Z aM]) (ok:=fun _=>True) (okp:=fun _=>True) fM arj (fun _ hk=>hk) trivial (Below.refl _ _) (Nat.le_refl _) (by simp) ?_;intro awf w30 ajp hb Lc ow;clear Lc ow;(first|rw [← Pv.out] at ajp|(simp only [Int.reduceToNat] at ajp;rw [← Pv.out] at ajp));have mD:=aa.mk (Kd.jH (Kd.qP (Kd.qP ajp (g:=RX) (o:=.cells #[U Z ah,U Z ai] 27 (0,0)) fB) (g:=RY) (o:=.cells #[U Z aQ,U Z aM] 27 (0,0)) fB) (fJ fu));replace ic:=bC ic hb;replace jZ:=bC jZ hb;replace HB:=dw HB hb;clear hb ajp;obtain ⟨aPu,aPv,aPw⟩:=Kd.jI mD.out;subst aPw)|((with_reducible refine aN (f:=116) rfl ?_);refine bT (some 12) rfl rfl Try.func116 aY rfl #[.slice aPu WV.length aPv] rfl iG ?_;(with_reducible refine (dB.calls k _ _ WV Ev _ ?df ?dh A3.out).mono ?_);(case df=>repeat (first|exact (Kd.fo mD.out).2.2|(with_reducible refine Kd.bA ?_ _)|(with_reducible refine Kd.bB ?_ _)|(with_reducible refine Kd.bQ ?_)));(case dh=>exact (Kd.fo mD.out).2.1);rintro e w33 ⟨rfl,hb⟩;refine ⟨_,rfl,?_⟩;replace mD:=uW mD hb;replace ic:=bC ic hb;replace jZ:=bC jZ hb;replace HB:=dw HB hb;(try clear hb);(try clear hb2);(try clear hk);(try clear hi);obtain ⟨I8,I9,Ja,Jb⟩:=jq ic.out;obtain ⟨Al,Am,Ao,Ap⟩:=jq jZ.out)|((with_reducible refine aN (f:=138) rfl ?_);refine bT (some 19) rfl rfl Try.func138 aY rfl #[.agg #[U Z ah,U Z ai],.agg #[U Z aQ,U Z aM]] rfl iG ?_;(with_reducible refine (iT.calls ah ai aQ aM OI OJ true _ A5.out).mono ?_);rintro e w36 ⟨rfl,hb⟩;refine ⟨_,rfl,?_⟩;replace mD:=uW mD hb;replace ic:=bC ic hb;replace jZ:=bC jZ hb;replace HB:=dw HB hb;(try clear hb);(try clear hb2);(try clear hk);(try clear hi))|((with_reducible refine aG (N:=7) rfl ?_);refine az (by rfl) (N:=7) (by rfl) (cs:=#[U Z 0,U Z 0]) (t:=27) fM ?_;intro YV hg w37 hbox hb;have YW:=aa.mk (hbox);have aue:=dn HB hg;have auf:=dn HB hg;have Ew:=iq ic hg;have Ex:=iw ic hg;have Ey:=iq jZ hg;have Ez:=iw jZ hg;replace mD:=aa.mk (Kd.lD (Kd.DZ awg YV (Nat.le_of_eq hg.symm)) hb);replace ic:=bC ic hb;replace jZ:=bC jZ hb;replace HB:=dw HB hb;clear hb hbox hg;have aii:=Ex.out;have aij:=Ew.out;have Yn:=Ez.out;have Yo:=Ey.out;obtain ⟨Wt,Wu,Wv,Ww⟩:=jq YW.out;obtain ⟨Qq,Qr,Qs,Qt⟩:=jq ic.out))
    go_ret2
    exact ⟨kL,fu⟩
  ·replace c6:=Bool.eq_false_iff.mpr c6
   subst c6
   have H1:(some (0,0)) = some (r1,r2):=by rw [if_neg (show ¬ (false = true) by decide)] at H;exact H
   clear H
   have H:=H1
   clear H1
   simp only [Option.some.injEq,Prod.mk.injEq] at H
   obtain ⟨rfl,rfl⟩:=H
   go_enter Try.func128,Try.ntmps128
   go_wp2_with (first|((with_reducible refine aG (N:=2) rfl ?_);refine az (by rfl) (N:=2) (by rfl) (cs:=#[U Z ah,U Z ai]) (t:=27) fM ?_;intro RX hg w42 hbox hb;have ic:=aa.mk (hbox);have ajk:=dn HB hg;have ajl:=dn HB hg;replace HB:=dw HB hb;clear hb hbox hg)|((with_reducible refine aG (N:=3) rfl ?_);refine az (by rfl) (N:=3) (by rfl) (cs:=#[U Z aQ,U Z aM]) (t:=27) fM ?_;intro RY hg w43 hbox hb;have jZ:=aa.mk (hbox);have ajm:=dn HB hg;have ajn:=dn HB hg;have xP:=iq ic hg;have xQ:=iw ic hg;replace ic:=bC ic hb;replace HB:=dw HB hb;clear hb hbox hg;have azL:=xP.out;have azM:=xQ.out;obtain ⟨aME,aMF,aMG,aMH⟩:=jq ic.out;obtain ⟨apg,aph,api,apj⟩:=jq jZ.out)|((with_reducible refine aG (N:=11) rfl ?_);refine Kd.Bn k27 _ 27 (by rfl) (N:=11) (by rfl) (xs:=([(⟨ah,ai⟩:lu),(⟨aQ,aM⟩:lu)]:List (lu))) (inner:=[U Z ah,U Z ai,U Z aQ,U Z aM]) (ok:=fun _=>True) (okp:=fun _=>True) fM arj (fun _ hk=>hk) trivial (Below.refl _ _) (Nat.le_refl _) (by simp) ?_;intro awf w47 ajq hb Lc ow;clear Lc ow;(first|rw [← Pv.out] at ajq|(simp only [Int.reduceToNat] at ajq;rw [← Pv.out] at ajq));have mD:=aa.mk (Kd.jH (Kd.qP (Kd.qP ajq (g:=RX) (o:=.cells #[U Z ah,U Z ai] 27 (0,0)) fB) (g:=RY) (o:=.cells #[U Z aQ,U Z aM] 27 (0,0)) fB) (fJ fu));replace ic:=bC ic hb;replace jZ:=bC jZ hb;replace HB:=dw HB hb;clear hb ajq;obtain ⟨aPx,aPy,aPz⟩:=Kd.jI mD.out;subst aPz)|((with_reducible refine aN (f:=116) rfl ?_);refine bT (some 12) rfl rfl Try.func116 aY rfl #[.slice aPx WV.length aPy] rfl iG ?_;(with_reducible refine (dB.calls k _ _ WV Ev _ ?df ?dh A3.out).mono ?_);(case df=>repeat (first|exact (Kd.fo mD.out).2.2|(with_reducible refine Kd.bA ?_ _)|(with_reducible refine Kd.bB ?_ _)|(with_reducible refine Kd.bQ ?_)));(case dh=>exact (Kd.fo mD.out).2.1);rintro e w50 ⟨rfl,hb⟩;refine ⟨_,rfl,?_⟩;replace mD:=uW mD hb;replace ic:=bC ic hb;replace jZ:=bC jZ hb;replace HB:=dw HB hb;(try clear hb);(try clear hb2);(try clear hk);(try clear hi);obtain ⟨abZ,ab0,ab1,ab2⟩:=jq ic.out;obtain ⟨apk,apl,apm,apn⟩:=jq jZ.out)|((with_reducible refine aN (f:=138) rfl ?_);refine bT (some 19) rfl rfl Try.func138 aY rfl #[.agg #[U Z ah,U Z ai],.agg #[U Z aQ,U Z aM]] rfl iG ?_;(with_reducible refine (iT.calls ah ai aQ aM OI OJ false _ A5.out).mono ?_);rintro e w53 ⟨rfl,hb⟩;refine ⟨_,rfl,?_⟩;replace mD:=uW mD hb;replace ic:=bC ic hb;replace jZ:=bC jZ hb;replace HB:=dw HB hb;(try clear hb);(try clear hb2);(try clear hk);(try clear hi))|((with_reducible refine aG (N:=7) rfl ?_);refine az (by rfl) (N:=7) (by rfl) (cs:=#[U Z 0,U Z 0]) (t:=27) fM ?_;intro YV hg w54 hbox hb;have YW:=aa.mk (hbox);have aue:=dn HB hg;have auf:=dn HB hg;have Ew:=iq ic hg;have Ex:=iw ic hg;have Ey:=iq jZ hg;have Ez:=iw jZ hg;replace mD:=aa.mk (Kd.lD (Kd.DZ awg YV (Nat.le_of_eq hg.symm)) hb);replace ic:=bC ic hb;replace jZ:=bC jZ hb;replace HB:=dw HB hb;clear hb hbox hg;have aCm:=Ex.out;have aCn:=Ew.out;have aiz:=Ez.out;have aiA:=Ey.out;obtain ⟨aqH,aqI,aqJ,aqK⟩:=jq YW.out))
   go_ret2
   exact ⟨kL,fu⟩
 ·rw [if_neg c4] at H
  have sK:(Ev == 0) = false:=beq_eq_false_iff_ne.mpr c4
  have aho:(Ev != 0) = true:=bne_iff_ne.mpr c4
  simp only [Option.some.injEq,Prod.mk.injEq] at H
  obtain ⟨rfl,rfl⟩:=H
  go_enter Try.func128,Try.ntmps128
  go_wp2_with (first|((with_reducible refine aG (N:=2) rfl ?_);refine az (by rfl) (N:=2) (by rfl) (cs:=#[U Z ah,U Z ai]) (t:=27) fM ?_;intro RX hg w58 hbox hb;have ic:=aa.mk (hbox);have ajk:=dn HB hg;have ajl:=dn HB hg;replace HB:=dw HB hb;clear hb hbox hg)|((with_reducible refine aG (N:=3) rfl ?_);refine az (by rfl) (N:=3) (by rfl) (cs:=#[U Z aQ,U Z aM]) (t:=27) fM ?_;intro RY hg w59 hbox hb;have jZ:=aa.mk (hbox);have ajm:=dn HB hg;have ajn:=dn HB hg;have xP:=iq ic hg;have xQ:=iw ic hg;replace ic:=bC ic hb;replace HB:=dw HB hb;clear hb hbox hg;have as2:=xP.out;have as3:=xQ.out;obtain ⟨alN,alO,alP,alQ⟩:=jq ic.out;obtain ⟨adC,adD,adE,adF⟩:=jq jZ.out)|((with_reducible refine aG (N:=11) rfl ?_);refine Kd.Bn k27 _ 27 (by rfl) (N:=11) (by rfl) (xs:=([(⟨ah,ai⟩:lu),(⟨aQ,aM⟩:lu)]:List (lu))) (inner:=[U Z ah,U Z ai,U Z aQ,U Z aM]) (ok:=fun _=>True) (okp:=fun _=>True) fM arj (fun _ hk=>hk) trivial (Below.refl _ _) (Nat.le_refl _) (by simp) ?_;intro awf w63 ajr hb Lc ow;clear Lc ow;(first|rw [← Pv.out] at ajr|(simp only [Int.reduceToNat] at ajr;rw [← Pv.out] at ajr));have mD:=aa.mk (Kd.jH (Kd.qP (Kd.qP ajr (g:=RX) (o:=.cells #[U Z ah,U Z ai] 27 (0,0)) fB) (g:=RY) (o:=.cells #[U Z aQ,U Z aM] 27 (0,0)) fB) (fJ fu));replace ic:=bC ic hb;replace jZ:=bC jZ hb;replace HB:=dw HB hb;clear hb ajr;obtain ⟨azX,azY,avZ⟩:=Kd.jI mD.out;subst avZ)|((with_reducible refine aN (f:=116) rfl ?_);refine bT (some 12) rfl rfl Try.func116 aY rfl #[.slice azX WV.length azY] rfl iG ?_;(with_reducible refine (dB.calls k _ _ WV Ev _ ?df ?dh A3.out).mono ?_);(case df=>repeat (first|exact (Kd.fo mD.out).2.2|(with_reducible refine Kd.bA ?_ _)|(with_reducible refine Kd.bB ?_ _)|(with_reducible refine Kd.bQ ?_)));(case dh=>exact (Kd.fo mD.out).2.1);rintro e w66 ⟨rfl,hb⟩;refine ⟨_,rfl,?_⟩;replace mD:=uW mD hb;replace ic:=bC ic hb;replace jZ:=bC jZ hb;replace HB:=dw HB hb;(try clear hb);(try clear hb2);(try clear hk);(try clear hi)))
  go_ret2
  exact ⟨kL,fu⟩
end Go.Proofs.Ytmhaiihjfgfaoaa.Pr
end
section
namespace Go.Proofs.Ytmhaiihjfgfaoaa.Gl
open Go.RowKit Go.Shelf Go.Proofs.YtmhaiihjfgfaoaaW.PrintWords Go.Proofs.YtmhaiihjfgfaoaaW.PrintLast Go.Proofs.YtmhaiihjfgfaoaaW.PrintMore Go.Proofs.Ytmhaiihjfgfaoaa.Pr Go.Proofs.YtmhaiihjfgfaoaaW.Round
set_option linter.unusedVariables false
set_option linter.unusedSimpArgs false
attribute [local go_sem] eD eF fD fE eG
def YX (a b:lu):Int:=if (Ki a.f0 a.f1 && Ki b.f0 b.f1) = true then (if max a.f0 b.f0≤min a.f1 b.f1 then (if b.f0≤a.f0∧a.f1≤b.f1 then 2 else 1) else 0) else 0
def inE (a b:lu):Int:=if (Ki a.f0 a.f1 && Ki b.f0 b.f1) = true then 0 else 2
theorem ark (a b:lu):Ia.f 3 a.f0 a.f1 b.f0 b.f1 = some (YX a b,inE a b):=by
 unfold Ia.f YX inE
 rw [TE 0,Option.bind_some]
 cases h:(Ki a.f0 a.f1 && Ki b.f0 b.f1) with
 |false=>rfl
 |true =>
  rw [if_pos rfl,if_pos rfl,if_pos rfl]
  unfold iT.f
  rw [Option.bind_some]
  dsimp only
  have e1:mx a.f0 b.f0 = max a.f0 b.f0:=Cq _ _
  have e2:mn a.f1 b.f1 = min a.f1 b.f1:=Gz _ _
  rw [e1,e2]
  by_cases h1:max a.f0 b.f0≤min a.f1 b.f1
  ·rw [if_pos h1,if_pos (decide_eq_true h1)]
   by_cases h2:b.f0≤a.f0∧a.f1≤b.f1
   ·rw [if_pos h2,if_pos]
    rw [Bool.and_eq_true,beq_iff_eq,beq_iff_eq]
    omega
   ·rw [if_neg h2,if_neg]
    rw [Bool.and_eq_true,beq_iff_eq,beq_iff_eq]
    omega
  ·rw [if_neg h1,if_neg (by rw [decide_eq_false h1];decide)]
theorem aeh (a b:lu):0≤YX a b∧YX a b≤2:=by
 unfold YX
 split
 ·split
  ·split <;> decide
  ·decide
 ·decide
set_option maxRecDepth 100000 in
set_option maxHeartbeats 2000000 in
theorem aei (a b:lu) (w:World):Calls Try.prog 127 #[.func (.func 128) #[] #[],.agg #[U Z a.f0,U Z a.f1],.agg #[U Z b.f0,U Z b.f1]] w (sI (U Z (YX a b)) w):=by
 have oo:=Try.underlying27
 have eg:∀ args w,(callFunc 128 args).run Try.prog w = .ok (.enter 128 args) w:=enters_of Try.func128 aY rfl
 have hcon:=fun W=>Ia.calls 3 a.f0 a.f1 b.f0 b.f1 _ _ W (ark a b)
 generalize YX a b = r at*
 generalize inE a b = r2 at*
 go_enter Try.func127,Try.ntmps127
 go_wp2_with fail
 have m4:eT ((w.alloc (.cells #[U Z a.f0,U Z a.f1] 27)).alloc (.cells #[U Z b.f0,U Z b.f1] 27)) (w.heap.size) #[U Z a.f0,U Z a.f1] 27:=(ae aEr _)
 have m5:eT ((w.alloc (.cells #[U Z a.f0,U Z a.f1] 27)).alloc (.cells #[U Z b.f0,U Z b.f1] 27)) (w.heap.size+1) #[U Z b.f0,U Z b.f1] 27:=(by have h_:=eP (w.alloc (.cells #[U Z a.f0,U Z a.f1] 27)) (.cells #[U Z b.f0,U Z b.f1] 27);first|exact h_|(simp only [World.size_alloc] at h_;exact h_))
 have mB:Below w.heap.size w ((w.alloc (.cells #[U Z a.f0,U Z a.f1] 27)).alloc (.cells #[U Z b.f0,U Z b.f1] 27)):=(aT (aT (Below.refl w.heap.size w) _) _)
 have jS:w.heap.size≤w.heap.size:=Nat.le_refl _
 generalize qL:((w.alloc (.cells #[U Z a.f0,U Z a.f1] 27)).alloc (.cells #[U Z b.f0,U Z b.f1] 27)) = W1 at m4 m5 mB ⊢
 clear qL
 generalize hg4:w.heap.size = g4 at m4 m5 ⊢
 have hG4:w.heap.size≤g4:=by omega
 generalize hg5:g4+1 = g5 at m5 ⊢
 have pV:g4≠g5:=by omega
 have UO:g5≠g4:=pV.symm
 have hG5:w.heap.size≤g5:=by omega
 clear jS
 try clear hg5
 try clear hg4
 have wG:w.heap.size≤W1.heap.size:=mB.size
 obtain ⟨WO,awh⟩:=J9 m4
 obtain ⟨D8,ES⟩:=J9 m5
 go_wp2_with fail
 clear WO awh D8 ES
 have hc1:=hcon W1
 (with_reducible refine hc1.mono ?_)
 clear hc1 hcon
 rintro e W2 ⟨rfl,hb⟩
 replace m4:=av m4 hb
 replace m5:=av m5 hb
 replace mB:=bO mB hb
 clear hb
 go_wp2
 go_ret
 exact ⟨rfl,mB⟩
def BU (x y:dO):Int:=min (YX x.f0 y.f0) (YX x.f1 y.f1)
set_option maxRecDepth 100000 in
set_option maxHeartbeats 2000000 in
theorem RZ (x y:dO) (w:World):Calls Try.prog 89 #[.agg #[U Z x.f0.f0,U Z x.f0.f1,U Z x.f1.f0,U Z x.f1.f1],.agg #[U Z y.f0.f0,U Z y.f0.f1,U Z y.f1.f0,U Z y.f1.f1]] w (sI (U Z (BU x y)) w):=by
 have oP:=Try.underlying31
 have oo:=Try.underlying27
 have k0:=fun W=>aei x.f0 y.f0 W
 have k1:=fun W=>aei x.f1 y.f1 W
 have HR:Hid (BU x y = min (YX x.f0 y.f0) (YX x.f1 y.f1)):=Lib.hid rfl
 generalize YX x.f0 y.f0 = r0 at*
 generalize YX x.f1 y.f1 = r1 at*
 go_enter Try.func89,Try.ntmps89
 go_wp2_with fail
 have m2:eT ((w.alloc (.cells #[U Z x.f0.f0,U Z x.f0.f1,U Z x.f1.f0,U Z x.f1.f1] 31)).alloc (.cells #[U Z y.f0.f0,U Z y.f0.f1,U Z y.f1.f0,U Z y.f1.f1] 31)) (w.heap.size) #[U Z x.f0.f0,U Z x.f0.f1,U Z x.f1.f0,U Z x.f1.f1] 31:=(ae ag9 _)
 have m3:eT ((w.alloc (.cells #[U Z x.f0.f0,U Z x.f0.f1,U Z x.f1.f0,U Z x.f1.f1] 31)).alloc (.cells #[U Z y.f0.f0,U Z y.f0.f1,U Z y.f1.f0,U Z y.f1.f1] 31)) (w.heap.size+1) #[U Z y.f0.f0,U Z y.f0.f1,U Z y.f1.f0,U Z y.f1.f1] 31:=(by have h_:=eP (w.alloc (.cells #[U Z x.f0.f0,U Z x.f0.f1,U Z x.f1.f0,U Z x.f1.f1] 31)) (.cells #[U Z y.f0.f0,U Z y.f0.f1,U Z y.f1.f0,U Z y.f1.f1] 31);first|exact h_|(simp only [World.size_alloc] at h_;exact h_))
 have mB:Below w.heap.size w ((w.alloc (.cells #[U Z x.f0.f0,U Z x.f0.f1,U Z x.f1.f0,U Z x.f1.f1] 31)).alloc (.cells #[U Z y.f0.f0,U Z y.f0.f1,U Z y.f1.f0,U Z y.f1.f1] 31)):=(aT (aT (Below.refl w.heap.size w) _) _)
 have jS:w.heap.size≤w.heap.size:=Nat.le_refl _
 generalize qL:((w.alloc (.cells #[U Z x.f0.f0,U Z x.f0.f1,U Z x.f1.f0,U Z x.f1.f1] 31)).alloc (.cells #[U Z y.f0.f0,U Z y.f0.f1,U Z y.f1.f0,U Z y.f1.f1] 31)) = W1 at m2 m3 mB ⊢
 clear qL
 generalize hg2:w.heap.size = g2 at m2 m3 ⊢
 have hG2:w.heap.size≤g2:=by omega
 generalize hg3:g2+1 = g3 at m3 ⊢
 have Ky:g2≠g3:=by omega
 have ZV:g3≠g2:=Ky.symm
 have hG3:w.heap.size≤g3:=by omega
 clear jS
 try clear hg3
 try clear hg2
 have wG:w.heap.size≤W1.heap.size:=mB.size
 replace m2:=ag m2
 replace m3:=ag m3
 replace mB:=bU mB
 refine jT (n:=12) (S:=fun w'=>w'.cell? ⟨g2,0,none⟩ = some (U Z x.f0.f0)∧w'.cell? ⟨g2,1,none⟩ = some (U Z x.f0.f1)∧w'.cell? ⟨g2,2,none⟩ = some (U Z x.f1.f0)∧w'.cell? ⟨g2,3,none⟩ = some (U Z x.f1.f1)∧w'.cell? ⟨g3,0,none⟩ = some (U Z y.f0.f0)∧w'.cell? ⟨g3,1,none⟩ = some (U Z y.f0.f1)∧w'.cell? ⟨g3,2,none⟩ = some (U Z y.f1.f0)∧w'.cell? ⟨g3,3,none⟩ = some (U Z y.f1.f1)) (ds:=[]) #[ac,ac,ac,ac,ac,ac,ac,ac,ac,ac,ac,ac] aY rfl rfl ⟨((af m2 0).trans rfl),((af m2 1).trans rfl),((af m2 2).trans rfl),((af m2 3).trans rfl),((af m3 0).trans rfl),((af m3 1).trans rfl),((af m3 2).trans rfl),((af m3 3).trans rfl)⟩ (fun hHeld=>?_)
 generalize hWd:World.drew _ = Wx at m2 m3 mB hHeld ⊢
 clear hWd
 refine dW (i:=0) (N:=some 5) aY ?_
 refine dW (i:=2) (N:=some 7) aY ?_
 refine dW (i:=5) (N:=some 10) aY ?_
 refine dW (i:=7) (N:=some 12) aY ?_
 refine ja (i:=1) (N:=some 6) aY hHeld ?_
 refine ja (i:=3) (N:=some 8) aY hHeld ?_
 refine ja (i:=6) (N:=some 11) aY hHeld ?_
 refine ja (i:=8) (N:=some 13) aY hHeld ?_
 refine jJ (i:=4) (N:=some 9) #[ab,ab,ab,ab,ab,ab,ab,ab,ab,ac,ac,ac] rfl rfl aY (by decide) (fun K hK=>?_)
 have kF:=k0 Wx
 refine gQ Try.func127 aY rfl #[.func (.func 128) #[] #[],.agg #[U Z x.f0.f0,U Z x.f0.f1],.agg #[U Z y.f0.f0,U Z y.f0.f1]] (by rfl) rfl rfl PK ?_
 with_reducible refine (kF).mono ?_
 rintro e w4 ⟨rfl,hb⟩
 refine ⟨_,rfl,?_⟩
 clear kF
 replace m2:=av m2 hb
 replace m3:=av m3 hb
 replace mB:=bO mB hb
 clear hb
 refine hK.out _ _ ⟨((af m2 0).trans rfl),((af m2 1).trans rfl),((af m2 2).trans rfl),((af m2 3).trans rfl),((af m3 0).trans rfl),((af m3 1).trans rfl),((af m3 2).trans rfl),((af m3 3).trans rfl)⟩ (fun hHeld=>?_)
 clear hK K
 refine eY aEs ?_
 refine jJ (i:=9) (N:=some 14) #[ab,ab,ab,ab,ab,ab,ab,ab,ab,ab,ac,ac] rfl rfl aY (by decide) (fun K hK=>?_)
 have kF:=k1 w4
 refine gQ Try.func127 aY rfl #[.func (.func 128) #[] #[],.agg #[U Z x.f1.f0,U Z x.f1.f1],.agg #[U Z y.f1.f0,U Z y.f1.f1]] (by rfl) rfl rfl PK ?_
 with_reducible refine (kF).mono ?_
 rintro e w9 ⟨rfl,hb⟩
 refine ⟨_,rfl,?_⟩
 clear kF
 replace m2:=av m2 hb
 replace m3:=av m3 hb
 replace mB:=bO mB hb
 clear hb
 refine hK.out _ _ ⟨((af m2 0).trans rfl),((af m2 1).trans rfl),((af m2 2).trans rfl),((af m2 3).trans rfl),((af m3 0).trans rfl),((af m3 1).trans rfl),((af m3 2).trans rfl),((af m3 3).trans rfl)⟩ (fun hHeld=>?_)
 clear hK K
 refine eY ahN ?_
 refine dW (i:=10) (N:=some 15) aY ?_
 refine dW (i:=11) (N:=some 4) aY ?_
 refine lI aY ?_
 go_wp2
 all_goals (go_ret;first|(have hm:BU x y = r0:=(by rw [HR.out];omega);exact ⟨by rw [hm];rfl,mB⟩)|(have hm:BU x y = r1:=(by rw [HR.out];omega);exact ⟨by rw [hm];rfl,mB⟩))
def xR (l:List dO):Int:=if l.length > 64 then 6 else if l.any (fun x=>!vw x) then 2 else 0
set_option maxRecDepth 100000 in
set_option maxHeartbeats 2000000 in
theorem arl (x:dO) (w:World):Calls Try.prog 126 #[.agg #[U Z x.f0.f0,U Z x.f0.f1,U Z x.f1.f0,U Z x.f1.f1]] w (sI (.bool (!vw x)) w):=by
 have oP:=Try.underlying31
 have oo:=Try.underlying27
 have k0:=fun W=>akF x W
 have HE:Hid (Hq x = if vw x then 0 else 2):=Lib.hid rfl
 go_enter Try.func126,Try.ntmps126
 go_wp2_with fail
 have m1:eT (w.alloc (.cells #[U Z x.f0.f0,U Z x.f0.f1,U Z x.f1.f0,U Z x.f1.f1] 31)) (w.heap.size) #[U Z x.f0.f0,U Z x.f0.f1,U Z x.f1.f0,U Z x.f1.f1] 31:=ag9
 have mB:Below w.heap.size w (w.alloc (.cells #[U Z x.f0.f0,U Z x.f0.f1,U Z x.f1.f0,U Z x.f1.f1] 31)):=(aT (Below.refl w.heap.size w) _)
 have jS:w.heap.size≤w.heap.size:=Nat.le_refl _
 generalize qL:(w.alloc (.cells #[U Z x.f0.f0,U Z x.f0.f1,U Z x.f1.f0,U Z x.f1.f1] 31)) = W1 at m1 mB ⊢
 clear qL
 generalize hg1:w.heap.size = g1 at m1 ⊢
 have hG1:w.heap.size≤g1:=by omega
 clear jS
 try clear hg1
 have wG:w.heap.size≤W1.heap.size:=mB.size
 obtain ⟨Ib,Ic,Ie,Ig⟩:=nV m1
 go_wp2_with fail
 clear Ib Ic Ie Ig
 have hcon:=k0 W1
 (with_reducible refine hcon.mono ?_)
 clear hcon
 rintro e W2 ⟨rfl,hb⟩
 replace m1:=av m1 hb
 replace mB:=bO mB hb
 clear hb
 have sO:w.heap.size≤W2.heap.size:=mB.size
 cases h:vw x with
 |true =>
  have HZ:Hid (Hq x = 0):=Lib.hid (by rw [HE.out,h];rfl)
  have HB:=Lib.hid h
  clear h HE k0
  generalize Hq x = E at*
  have hz:=HZ.out
  subst hz
  go_wp2
  go_ret
  exact ⟨by rw [HB.out];rfl,mB⟩
 |false =>
  have HZ:Hid (Hq x = 2):=Lib.hid (by rw [HE.out,h];rfl)
  have HB:=Lib.hid h
  clear h HE k0
  generalize Hq x = E at*
  have hz:=HZ.out
  subst hz
  go_wp2
  go_ret
  exact ⟨by rw [HB.out];rfl,mB⟩
set_option maxRecDepth 100000 in
set_option maxHeartbeats 2000000 in
theorem agl (A:Option Addr) (c:Nat) (l:List dO) (w:World) (hC:Kd.C Iy w A l.length l) (hc:l.length≤c):Calls Try.prog 88 #[.slice A l.length c] w (sI (U Z (xR l)) w):=by
 have oP:=Try.underlying31
 have oo:=Try.underlying27
 have hb:=hC.2.1
 have HR:Hid (xR l = if l.length > 64 then 6 else if l.any (fun x=>!vw x) then 2 else 0):=Lib.hid rfl
 by_cases h:l.length > 64
 ·have hd:decide (64 < (l.length:Int)) = true:=decide_eq_true (by omega)
  have HZ:=Lib.hid (HR.out.trans (if_pos h))
  clear h HR
  go_enter Try.func88,Try.ntmps88
  go_wp2
  go_ret
  exact ⟨o6,Below.refl _ _⟩
 ·have hd:decide (64 < (l.length:Int)) = false:=decide_eq_false (by omega)
  have HZ:=Lib.hid (HR.out.trans (if_neg h))
  have hcon:=fun W (hW:Below w.heap.size w W)=>aaN 126 #[] (fun x=>!vw x) A c l W (Kd.bz hC hW) hc (enters_of Try.func126 aY rfl) (fun x W _=>arl x W)
  generalize l.any (fun x=>!vw x) = r at*
  clear h HR
  go_enter Try.func88,Try.ntmps88
  go_wp2_with fail
  (with_reducible refine (hcon _ (Below.refl _ _)).mono ?_)
  clear hcon
  rintro e W1 ⟨rfl,mB⟩
  cases r
  ·go_wp2
   go_ret
   exact ⟨o6,mB⟩
  ·go_wp2
   go_ret
   exact ⟨o6,mB⟩
end Go.Proofs.Ytmhaiihjfgfaoaa.Gl
end
