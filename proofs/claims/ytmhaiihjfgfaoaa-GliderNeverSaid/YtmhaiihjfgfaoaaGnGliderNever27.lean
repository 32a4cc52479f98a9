import Derived.Test.YtmhaiihjfgfaoaaGnGliderNever3
import Derived.Test.YtmhaiihjfgfaoaaGnGliderNever6
import Derived.Test.YtmhaiihjfgfaoaaGnGliderNever16
import Derived.Test.YtmhaiihjfgfaoaaGnGliderNever21
import Derived.Test.YtmhaiihjfgfaoaaGnGliderNever22
import Derived.Test.YtmhaiihjfgfaoaaGnGliderNever23
import Derived.Test.YtmhaiihjfgfaoaaGnGliderNever26
set_option linter.unusedSimpArgs false
set_option linter.unusedVariables false
open Go.Value renaming int → Z
open Go.IntKind renaming i64 → ab
open Bool renaming true → ac, false → al
section
namespace Go.Proofs.Ytmhaiihjfgfaoaa.Pr
open Go.RowKit Go.Proofs.YtmhaiihjfgfaoaaW.PrintWords Go.Proofs.YtmhaiihjfgfaoaaW.PrintLast Go.Proofs.YtmhaiihjfgfaoaaW.PrintMore
attribute [local go_sem] dw dx dM dN dz
set_option linter.unusedVariables false
set_option linter.unusedSimpArgs false
mutual
def ak.j0:Nat→Int→Int→List (eQ)→Bool→Int→Int→Int→Int→Int→Int→Int→List Bool→List (qW)→Int→Int→Int→Int→Int→Int→Int→Int→Int→Int→Int→Int→Int→Int→Int→Int→Int→Int→Int→Option (Bool)
 |0,_,_,_,_,_,_,_,_,_,_,_,_,_,_,_,_,_,_,_,_,_,_,_,_,_,_,_,_,_,_,_,_=>none
 |k+1,x3,x6,x7,x41,jY,jZ,j4,j5,j6,kg,ko,kr,ku,lH,lI,lJ,lK,lL,lM,lN,lQ,lS,lT,lU,oJ,oK,nu,nz,nA,nC,nD,nE=>if x41 = true then ((aU.f k).bind fun SN=>(some SN)) else ((mO.f jY jZ j4 j5 j6 kg ko kr ku lH lI lJ lK lL lM lN lQ lS lT lU x3 nu nz nA nC nD nE x6).bind fun Bn=>(if Bn.2 = 0 then (if (Bn.1.length:Int) = x6 then ((gH.f jY jZ j4 j5 j6 kg ko kr ku lH lI lJ lK lL lM lN lQ lS lT lU x3 Bn.1).bind fun Df=>(ak.j1 k x3 x6 x7 (Df != 0) jY jZ j4 j5 j6 kg ko kr ku lH lI lJ lK lL lM lN lQ lS lT lU oJ oK nu nz nA nC nD nE)) else (ak.j1 k x3 x6 x7 true jY jZ j4 j5 j6 kg ko kr ku lH lI lJ lK lL lM lN lQ lS lT lU oJ oK nu nz nA nC nD nE)) else (if (Bn.1.length:Int) = 0 then ((aU.f k).bind fun Fe=>(some Fe)) else (some false))))
def ak.j1:Nat→Int→Int→List (eQ)→Bool→Int→Int→Int→Int→Int→Int→Int→List Bool→List (qW)→Int→Int→Int→Int→Int→Int→Int→Int→Int→Int→Int→Int→Int→Int→Int→Int→Int→Int→Int→Option (Bool)
 |0,_,_,_,_,_,_,_,_,_,_,_,_,_,_,_,_,_,_,_,_,_,_,_,_,_,_,_,_,_,_,_,_=>none
 |k+1,x3,x6,x7,x73,jY,jZ,j4,j5,j6,kg,ko,kr,ku,lH,lI,lJ,lK,lL,lM,lN,lQ,lS,lT,lU,oJ,oK,nu,nz,nA,nC,nD,nE=>if x73 = true then (some false) else (if (x7.length:Int)≤x6 then ((jE.f jY jZ j4 j5 j6 kg ko kr ku lH lI lJ lK lL lM lN lQ lS lT lU x3 oJ oK x7 nu nz nA nC nD nE).bind fun QQ=>(ak.j2 k x3 x6 (QQ == 0) jY jZ j4 j5 j6 kg ko kr ku lH lI lJ lK lL lM lN lQ lS lT lU oJ oK nu nz nA nC nD nE)) else (ak.j2 k x3 x6 false jY jZ j4 j5 j6 kg ko kr ku lH lI lJ lK lL lM lN lQ lS lT lU oJ oK nu nz nA nC nD nE))
def ak.j2:Nat→Int→Int→Bool→Int→Int→Int→Int→Int→Int→Int→List Bool→List (qW)→Int→Int→Int→Int→Int→Int→Int→Int→Int→Int→Int→Int→Int→Int→Int→Int→Int→Int→Int→Option (Bool)
 |0,_,_,_,_,_,_,_,_,_,_,_,_,_,_,_,_,_,_,_,_,_,_,_,_,_,_,_,_,_,_,_=>none
 |k+1,x3,x6,x88,jY,jZ,j4,j5,j6,kg,ko,kr,ku,lH,lI,lJ,lK,lL,lM,lN,lQ,lS,lT,lU,oJ,oK,nu,nz,nA,nC,nD,nE=>if x88 = true then (some false) else ((gD.f jY jZ j4 j5 j6 kg ko kr ku x6).bind fun SQ=>(if SQ = true then (ak.j3 k x3 x6 false jY jZ j4 j5 j6 kg ko kr ku lH lI lJ lK lL lM lN lQ lS lT lU oJ oK nu nz nA nC nD nE) else (ak.j3 k x3 x6 (decide (x6≤3)) jY jZ j4 j5 j6 kg ko kr ku lH lI lJ lK lL lM lN lQ lS lT lU oJ oK nu nz nA nC nD nE)))
def ak.j3:Nat→Int→Int→Bool→Int→Int→Int→Int→Int→Int→Int→List Bool→List (qW)→Int→Int→Int→Int→Int→Int→Int→Int→Int→Int→Int→Int→Int→Int→Int→Int→Int→Int→Int→Option (Bool)
 |0,_,_,_,_,_,_,_,_,_,_,_,_,_,_,_,_,_,_,_,_,_,_,_,_,_,_,_,_,_,_,_=>none
 |k+1,x3,x6,x96,jY,jZ,j4,j5,j6,kg,ko,kr,ku,lH,lI,lJ,lK,lL,lM,lN,lQ,lS,lT,lU,oJ,oK,nu,nz,nA,nC,nD,nE=>if x96 = true then ((qg.f jY jZ j4 j5 j6 kg ko kr ku lH lI lJ lK lL lM lN lQ lS lT lU x3 oJ oK nu nz nA nC nD nE x6).bind fun acI=>(if acI.2.2 = 0 then (some false) else ((aU.f k).bind fun Le=>(some Le)))) else ((aU.f k).bind fun SS=>(some SS))
end
def ak.f (k:Nat) (ax:Int) (av:Int) (aH:Int) (aG:Int) (aQ:Int) (aN:Int) (aM:Int) (bn:List Bool) (aW:List (qW)) (bq:Int) (bz:Int) (bY:Int) (bX:Int) (dB:Int) (dC:Int) (dD:Int) (dh:Int) (di:Int) (dm:Int) (dn:Int) (a3:Int) (fA:Int) (fB:Int) (iI:Int) (iJ:Int) (iK:Int) (iL:Int) (iM:Int) (iN:Int) (a6:Int) (l7:List (eQ)):Option (Bool):=(ek.f k ax av aH aG aQ aN aM bn aW bq bz bY bX dB dC dD dh di dm dn a3).bind fun SV=>(if SV = true then (if a6 > 4 then (ak.j0 k a3 a6 l7 true ax av aH aG aQ aN aM bn aW bq bz bY bX dB dC dD dh di dm dn fA fB iI iJ iK iL iM iN) else (if (l7.length:Int) > 4 then (ak.j0 k a3 a6 l7 true ax av aH aG aQ aN aM bn aW bq bz bY bX dB dC dD dh di dm dn fA fB iI iJ iK iL iM iN) else (ak.j0 k a3 a6 l7 ((l7.length:Int) == 0) ax av aH aG aQ aN aM bn aW bq bz bY bX dB dC dD dh di dm dn fA fB iI iJ iK iL iM iN))) else (ak.j0 k a3 a6 l7 true ax av aH aG aQ aN aM bn aW bq bz bY bX dB dC dD dh di dm dn fA fB iI iJ iK iL iM iN))
set_option maxHeartbeats 8000000 in
set_option maxRecDepth 100000 in
theorem ak.calls (k:Nat) (ax:Int) (av:Int) (aH:Int) (aG:Int) (aQ:Int) (aN:Int) (aM:Int) (fJ:Option Addr) (fK:Nat) (bn:List Bool) (fU:Option Addr) (fM:Nat) (aW:List (qW)) (bq:Int) (bz:Int) (bY:Int) (bX:Int) (dB:Int) (dC:Int) (dD:Int) (dh:Int) (di:Int) (dm:Int) (dn:Int) (a3:Int) (fA:Int) (fB:Int) (iI:Int) (iJ:Int) (iK:Int) (iL:Int) (iM:Int) (iN:Int) (a6:Int) (A7:Option Addr) (c7:Nat) (l7:List (eQ)) (r:Bool) (w:World) (nP:Kd.C Kd.bool w fJ bn.length bn) (nQ:bn.length≤fK) (nR:Kd.C Cm w fU aW.length aW) (nS:aW.length≤fM) (hr7:Kd.C TP w A7 l7.length l7) (hc7:l7.length≤c7) (h:ak.f k ax av aH aG aQ aN aM bn aW bq bz bY bX dB dC dD dh di dm dn a3 fA fB iI iJ iK iL iM iN a6 l7 = some r) (hr_:ag (r = true)):
 Calls Try.prog 17 #[.agg #[Z ab ax,Z ab av,Z ab aH,Z ab aG,Z ab aQ,Z ab aN,Z ab aM,.slice fJ bn.length fK,.slice fU aW.length fM],.agg #[Z ab bq,Z ab bz,Z ab bY,Z ab bX,Z ab dB,Z ab dC,Z ab dD],.agg #[Z ab dh,Z ab di,Z ab dm,Z ab dn],Z ab a3,.agg #[Z ab fA,Z ab fB],.agg #[Z ab iI,Z ab iJ,Z ab iK,Z ab iL,Z ab iM,Z ab iN],Z ab a6,.slice A7 l7.length c7] w fun e w'=>e = .returned (.bool r)∧Below w.heap.size w w':=by
 have Cn:=Try.underlying25
 have xX:=Try.underlying29
 have pG:=Try.underlying31
 have mE:=Try.underlying27
 have abI:=Try.underlying81
 have mi:=ag.mk nP
 have mo:=ag.mk nQ
 clear nP nQ
 have jH:=ag.mk nR
 have mq:=ag.mk nS
 clear nR nS
 have HR7:=ag.mk hr7
 have HC7:=ag.mk hc7
 clear hr7 hc7
 have HB:=ag.mk (Below.refl w.heap.size w)
 have H:((ek.f k ax av aH aG aQ aN aM bn aW bq bz bY bX dB dC dD dh di dm dn a3).bind fun SV=>(if SV = true then (if a6 > 4 then (ak.j0 k a3 a6 l7 true ax av aH aG aQ aN aM bn aW bq bz bY bX dB dC dD dh di dm dn fA fB iI iJ iK iL iM iN) else (if (l7.length:Int) > 4 then (ak.j0 k a3 a6 l7 true ax av aH aG aQ aN aM bn aW bq bz bY bX dB dC dD dh di dm dn fA fB iI iJ iK iL iM iN) else (ak.j0 k a3 a6 l7 ((l7.length:Int) == 0) ax av aH aG aQ aN aM bn aW bq bz bY bX dB dC dD dh di dm dn fA fB iI iJ iK iL iM iN))) else (ak.j0 k a3 a6 l7 true ax av aH aG aQ aN aM bn aW bq bz bY bX dB dC dD dh di dm dn fA fB iI iJ iK iL iM iN))) = some r:=h
 clear h
 have HC9:=ag.mk H
 clear H
 go_enter Try.func17,Try.ntmps17
 go_upto_region 1 with (first|((with_reducible refine aI (N:=8) rfl ?_);(try (refine jI (by rfl) ?_;dsimp only));refine aC (by rfl) (N:=8) (by rfl) (cs:=#[Z ab ax,Z ab av,Z ab aH,Z ab aG,Z ab aQ,Z ab aN,Z ab aM,.slice fJ bn.length fK,.slice fU aW.length fM]) (t:=25) gu ?_;intro VM hg w10 hbox hb;have df:=ag.mk (hbox);have aCY:=cB HB hg;have aCZ:=cB HB hg;replace HB:=cK HB hb;clear hb hbox hg)|((with_reducible refine aI (N:=9) rfl ?_);(try (refine jI (by rfl) ?_;dsimp only));refine aC (by rfl) (N:=9) (by rfl) (cs:=#[Z ab bq,Z ab bz,Z ab bY,Z ab bX,Z ab dB,Z ab dC,Z ab dD]) (t:=29) gu ?_;intro VN hg w11 hbox hb;have dF:=ag.mk (hbox);have aC0:=cB HB hg;have aC1:=cB HB hg;have ja:=l6 df hg;have jb:=l9 df hg;replace df:=bJ df hb;replace HB:=cK HB hb;clear hb hbox hg)|((with_reducible refine aI (N:=10) rfl ?_);(try (refine jI (by rfl) ?_;dsimp only));refine aC (by rfl) (N:=10) (by rfl) (cs:=#[Z ab dh,Z ab di,Z ab dm,Z ab dn]) (t:=31) gu ?_;intro KQ hg F6 hbox hb;have dJ:=ag.mk (hbox);have aC2:=cB HB hg;have aC3:=cB HB hg;have jc:=l6 df hg;have jd:=l9 df hg;have kv:=l6 dF hg;have ky:=l9 dF hg;replace df:=bJ df hb;replace dF:=bJ dF hb;replace HB:=cK HB hb;clear hb hbox hg)|((with_reducible refine aI (N:=12) rfl ?_);(try (refine jI (by rfl) ?_;dsimp only));refine aC (by rfl) (N:=12) (by rfl) (cs:=#[Z ab fA,Z ab fB]) (t:=27) gu ?_;intro VO hg Yq hbox hb;have eF:=ag.mk (hbox);have aC4:=cB HB hg;have aC5:=cB HB hg;have je:=l6 df hg;have jf:=l9 df hg;have kz:=l6 dF hg;have kF:=l9 dF hg;have kI:=l6 dJ hg;have kJ:=l9 dJ hg;replace df:=bJ df hb;replace dF:=bJ dF hb;replace dJ:=bJ dJ hb;replace HB:=cK HB hb;clear hb hbox hg)|((with_reducible refine aI (N:=13) rfl ?_);(try (refine jI (by rfl) ?_;dsimp only));refine aC (by rfl) (N:=13) (by rfl) (cs:=#[Z ab iI,Z ab iJ,Z ab iK,Z ab iL,Z ab iM,Z ab iN]) (t:=81) gu ?_;intro VP hg w14 hbox hb;have eX:=ag.mk (hbox);have aC6:=cB HB hg;have aC7:=cB HB hg;have jg:=l6 df hg;have jh:=l9 df hg;have kK:=l6 dF hg;have kL:=l9 dF hg;have kP:=l6 dJ hg;have kQ:=l9 dJ hg;have xK:=l6 eF hg;have xL:=l9 eF hg;replace df:=bJ df hb;replace dF:=bJ dF hb;replace dJ:=bJ dJ hb;replace eF:=bJ eF hb;replace HB:=cK HB hb;clear hb hbox hg))
 (try simp only [Act.put,List.setIfInBounds_toArray,List.set_cons_zero,List.set_cons_succ])
 go_cut [41] (fun v41 wc=>∃ (kq:Nat) (aes:Bool),v41 = .bool aes∧ag (ak.j0 kq a3 a6 l7 aes ax av aH aG aQ aN aM bn aW bq bz bY bX dB dC dD dh di dm dn fA fB iI iJ iK iL iM iN = some r)∧ag (kq≤k)∧ag (wc.heap[VM]? = some (.cells #[Z ab ax,Z ab av,Z ab aH,Z ab aG,Z ab aQ,Z ab aN,Z ab aM,(.slice fJ bn.length fK),(.slice fU aW.length fM)] 25 (0,0)))∧ag (wc.heap[VN]? = some (.cells #[Z ab bq,Z ab bz,Z ab bY,Z ab bX,Z ab dB,Z ab dC,Z ab dD] 29 (0,0)))∧ag (wc.heap[KQ]? = some (.cells #[Z ab dh,Z ab di,Z ab dm,Z ab dn] 31 (0,0)))∧ag (wc.heap[VO]? = some (.cells #[Z ab fA,Z ab fB] 27 (0,0)))∧ag (wc.heap[VP]? = some (.cells #[Z ab iI,Z ab iJ,Z ab iK,Z ab iL,Z ab iM,Z ab iN] 81 (0,0)))∧ag (Below w.heap.size w wc))
 case first =>
  have H:=HC9.out
  clear HC9
  replace H:=Option.bind_eq_some_iff.mp H
  obtain ⟨SV,as4,H⟩:=H
  replace H:(if SV = true then (if a6 > 4 then (ak.j0 k a3 a6 l7 true ax av aH aG aQ aN aM bn aW bq bz bY bX dB dC dD dh di dm dn fA fB iI iJ iK iL iM iN) else (if (l7.length:Int) > 4 then (ak.j0 k a3 a6 l7 true ax av aH aG aQ aN aM bn aW bq bz bY bX dB dC dD dh di dm dn fA fB iI iJ iK iL iM iN) else (ak.j0 k a3 a6 l7 ((l7.length:Int) == 0) ax av aH aG aQ aN aM bn aW bq bz bY bX dB dC dD dh di dm dn fA fB iI iJ iK iL iM iN))) else (ak.j0 k a3 a6 l7 true ax av aH aG aQ aN aM bn aW bq bz bY bX dB dC dD dh di dm dn fA fB iI iJ iK iL iM iN)) = some r:=H
  have A15:=ag.mk as4
  clear as4
  by_cases c16:SV = true
  ·subst c16
   have H1:(if a6 > 4 then (ak.j0 k a3 a6 l7 true ax av aH aG aQ aN aM bn aW bq bz bY bX dB dC dD dh di dm dn fA fB iI iJ iK iL iM iN) else (if (l7.length:Int) > 4 then (ak.j0 k a3 a6 l7 true ax av aH aG aQ aN aM bn aW bq bz bY bX dB dC dD dh di dm dn fA fB iI iJ iK iL iM iN) else (ak.j0 k a3 a6 l7 ((l7.length:Int) == 0) ax av aH aG aQ aN aM bn aW bq bz bY bX dB dC dD dh di dm dn fA fB iI iJ iK iL iM iN))) = some r:=by rw [if_pos rfl] at H;exact H
   clear H
   have H:=H1
   clear H1
   by_cases c17:a6 > 4
   ·rw [if_pos c17] at H
    have yA:decide (4 < a6) = true:=decide_eq_true c17
    clear c17
    (first|rw [yA]|(simp only [fe,fo];rw [yA])|skip)
    have H':=ag.mk H
    clear H
    have anY:=ja.out
    have anZ:=jb.out
    have an5:=jc.out
    have an6:=jd.out
    have as5:=je.out
    have as6:=jf.out
    have anR:=jg.out
    have anS:=jh.out
    obtain ⟨Bo,Bp,Bq,Br,Eu,Ev,Ew,Ng,Nh,Bt,Bu,Bv,Bw,Ex,Ey,Ez,Nk,Nl⟩:=ji df.out
    have an0:=kv.out
    have an1:=ky.out
    have ahR:=kz.out
    have ahS:=kF.out
    have anJ:=kK.out
    have anK:=kL.out
    obtain ⟨wC,wD,Ai,Aj,DC,DD,DF,wE,wF,Ak,Al,DI,DJ,DK⟩:=iH dF.out
    have arO:=kI.out
    have arP:=kJ.out
    have arw:=kP.out
    have arx:=kQ.out
    obtain ⟨qE,qF,rP,rQ,qG,qH,rR,rT⟩:=jr dJ.out
    go_wp2_with (first|((with_reducible refine aR (f:=18) rfl ?_);refine bU (some 26) rfl rfl Try.func18 aT rfl #[.agg #[Z ab ax,Z ab av,Z ab aH,Z ab aG,Z ab aQ,Z ab aN,Z ab aM,.slice fJ bn.length fK,.slice fU aW.length fM],.agg #[Z ab bq,Z ab bz,Z ab bY,Z ab bX,Z ab dB,Z ab dC,Z ab dD],.agg #[Z ab dh,Z ab di,Z ab dm,Z ab dn],Z ab a3] rfl jQ ?_;(with_reducible refine (ek.calls k ax av aH aG aQ aN aM _ _ bn _ _ aW bq bz bY bX dB dC dD dh di dm dn a3 true _ ?dP ?dQ ?fF ?fG A15.out).mono ?_);(case dP=>repeat (first|exact (Kd.bD mi.out HB.out)|(with_reducible refine Kd.bR ?_ _)|(with_reducible refine Kd.bS ?_ _)|(with_reducible refine Kd.dA ?_)));(case dQ=>exact mo.out);(case fF=>repeat (first|exact (Kd.bD jH.out HB.out)|(with_reducible refine Kd.bR ?_ _)|(with_reducible refine Kd.bS ?_ _)|(with_reducible refine Kd.dA ?_)));(case fG=>exact mq.out);rintro e w30 ⟨rfl,hb⟩;refine ⟨_,rfl,?_⟩;replace df:=bJ df hb;replace dF:=bJ dF hb;replace dJ:=bJ dJ hb;replace eF:=bJ eF hb;replace eX:=bJ eX hb;replace HB:=cK HB hb;(try clear hb);(try clear hb2);(try clear hk);(try clear hi)))
    go_meet
    case rel=>exact ⟨_,(true),sG,H',⟨X7⟩,⟨iU⟩,⟨iU⟩,⟨iU⟩,⟨iU⟩,⟨iU⟩,⟨eZ⟩⟩
   ·rw [if_neg c17] at H
    have yA:decide (4 < a6) = false:=decide_eq_false c17
    clear c17
    (first|rw [yA]|(simp only [fe,fo];rw [yA])|skip)
    by_cases c31:(l7.length:Int) > 4
    ·rw [if_pos c31] at H
     have Zy:decide (4 < (l7.length:Int)) = true:=decide_eq_true c31
     have Zz:decide (4 < l7.length) = true:=decide_eq_true (by omega)
     clear c31
     have H':=ag.mk H
     clear H
     have ase:=ja.out
     have asf:=jb.out
     have aHT:=jc.out
     have aHU:=jd.out
     have asg:=je.out
     have ash:=jf.out
     have aHV:=jg.out
     have aHW:=jh.out
     obtain ⟨Ba,Bb,Bc,Bd,Ei,Ej,II,Nn,Np,Be,Bf,Bg,Bh,El,Em,IJ,Nq,Nr⟩:=ji df.out
     have aHX:=kv.out
     have aHY:=ky.out
     have anT:=kz.out
     have anU:=kF.out
     have ahz:=kK.out
     have ahA:=kL.out
     obtain ⟨wJ,wK,Bz,BA,EA,EB,EC,wL,wM,BC,BD,ED,EF,EG⟩:=iH dF.out
     have aHZ:=kI.out
     have aH0:=kJ.out
     have aH1:=kP.out
     have aH2:=kQ.out
     obtain ⟨EH,EI,EJ,EK,EL,EM,EN,EO⟩:=jr dJ.out
     go_wp2_with (first|((with_reducible refine aR (f:=18) rfl ?_);refine bU (some 26) rfl rfl Try.func18 aT rfl #[.agg #[Z ab ax,Z ab av,Z ab aH,Z ab aG,Z ab aQ,Z ab aN,Z ab aM,.slice fJ bn.length fK,.slice fU aW.length fM],.agg #[Z ab bq,Z ab bz,Z ab bY,Z ab bX,Z ab dB,Z ab dC,Z ab dD],.agg #[Z ab dh,Z ab di,Z ab dm,Z ab dn],Z ab a3] rfl jQ ?_;(with_reducible refine (ek.calls k ax av aH aG aQ aN aM _ _ bn _ _ aW bq bz bY bX dB dC dD dh di dm dn a3 true _ ?dP ?dQ ?fF ?fG A15.out).mono ?_);(case dP=>repeat (first|exact (Kd.bD mi.out HB.out)|(with_reducible refine Kd.bR ?_ _)|(with_reducible refine Kd.bS ?_ _)|(with_reducible refine Kd.dA ?_)));(case dQ=>exact mo.out);(case fF=>repeat (first|exact (Kd.bD jH.out HB.out)|(with_reducible refine Kd.bR ?_ _)|(with_reducible refine Kd.bS ?_ _)|(with_reducible refine Kd.dA ?_)));(case fG=>exact mq.out);rintro e w44 ⟨rfl,hb⟩;refine ⟨_,rfl,?_⟩;replace df:=bJ df hb;replace dF:=bJ dF hb;replace dJ:=bJ dJ hb;replace eF:=bJ eF hb;replace eX:=bJ eX hb;replace HB:=cK HB hb;(try clear hb);(try clear hb2);(try clear hk);(try clear hi)))
     go_meet
     case rel=>exact ⟨_,(true),sG,H',⟨X7⟩,⟨iU⟩,⟨iU⟩,⟨iU⟩,⟨iU⟩,⟨iU⟩,⟨eZ⟩⟩
    ·rw [if_neg c31] at H
     have Zy:decide (4 < (l7.length:Int)) = false:=decide_eq_false c31
     have Zz:decide (4 < l7.length) = false:=decide_eq_false (by omega)
     clear c31
     have H':=ag.mk H
     clear H
     have aH3:=ja.out
     have aH4:=jb.out
     have as7:=jc.out
     have as8:=jd.out
     have aH5:=je.out
     have aH6:=jf.out
     have aH7:=jg.out
     have aH8:=jh.out
     obtain ⟨Ns,Nt,Nu,Nv,Nw,Ny,Nz,NA,NB,NC,ND,NF,NG,NH,NI,NJ,NK,NL⟩:=ji df.out
     have aH9:=kv.out
     have aIa:=ky.out
     have aIb:=kz.out
     have aIc:=kF.out
     have as9:=kK.out
     have ata:=kL.out
     obtain ⟨NM,NN,NP,NQ,NR,NS,NT,NU,NV,NW,NY,NZ,N7,N8⟩:=iH dF.out
     have aId:=kI.out
     have aIe:=kJ.out
     have arS:=kP.out
     have arT:=kQ.out
     obtain ⟨IK,IL,IM,IP,IQ,IU,IV,IW⟩:=jr dJ.out
     go_wp2_with (first|((with_reducible refine aR (f:=18) rfl ?_);refine bU (some 26) rfl rfl Try.func18 aT rfl #[.agg #[Z ab ax,Z ab av,Z ab aH,Z ab aG,Z ab aQ,Z ab aN,Z ab aM,.slice fJ bn.length fK,.slice fU aW.length fM],.agg #[Z ab bq,Z ab bz,Z ab bY,Z ab bX,Z ab dB,Z ab dC,Z ab dD],.agg #[Z ab dh,Z ab di,Z ab dm,Z ab dn],Z ab a3] rfl jQ ?_;(with_reducible refine (ek.calls k ax av aH aG aQ aN aM _ _ bn _ _ aW bq bz bY bX dB dC dD dh di dm dn a3 true _ ?dP ?dQ ?fF ?fG A15.out).mono ?_);(case dP=>repeat (first|exact (Kd.bD mi.out HB.out)|(with_reducible refine Kd.bR ?_ _)|(with_reducible refine Kd.bS ?_ _)|(with_reducible refine Kd.dA ?_)));(case dQ=>exact mo.out);(case fF=>repeat (first|exact (Kd.bD jH.out HB.out)|(with_reducible refine Kd.bR ?_ _)|(with_reducible refine Kd.bS ?_ _)|(with_reducible refine Kd.dA ?_)));(case fG=>exact mq.out);rintro e w57 ⟨rfl,hb⟩;refine ⟨_,rfl,?_⟩;replace df:=bJ df hb;replace dF:=bJ dF hb;replace dJ:=bJ dJ hb;replace eF:=bJ eF hb;replace eX:=bJ eX hb;replace HB:=cK HB hb;(try clear hb);(try clear hb2);(try clear hk);(try clear hi)))
     go_meet
     case rel=>exact ⟨_,(((l7.length:Int) == 0)),sG,H',⟨X7⟩,⟨iU⟩,⟨iU⟩,⟨iU⟩,⟨iU⟩,⟨iU⟩,⟨eZ⟩⟩
  ·replace c16:=Bool.eq_false_iff.mpr c16
   subst c16
   have H1:(ak.j0 k a3 a6 l7 true ax av aH aG aQ aN aM bn aW bq bz bY bX dB dC dD dh di dm dn fA fB iI iJ iK iL iM iN) = some r:=by rw [if_neg (show ¬ (false = true) by decide)] at H;exact H
   clear H
   have H:=H1
   clear H1
   have H':=ag.mk H
   clear H
   have atb:=ja.out
   have atc:=jb.out
   have aIf:=jc.out
   have aIg:=jd.out
   have arU:=je.out
   have arV:=jf.out
   have aIh:=jg.out
   have aIi:=jh.out
   obtain ⟨Gr,Gs,N9,Oa,Ob,Oc,Od,Oe,Og,Gt,Gu,Oh,Oi,Oj,Ol,Om,Oo,Oq⟩:=ji df.out
   have aIj:=kv.out
   have aIk:=ky.out
   have aIl:=kz.out
   have aIm:=kF.out
   have aIn:=kK.out
   have aIo:=kL.out
   obtain ⟨Ot,Ou,Ov,Ow,Ox,Oy,Oz,OA,OB,OC,OD,OE,OG,OH⟩:=iH dF.out
   have atd:=kI.out
   have ate:=kJ.out
   have aIp:=kP.out
   have aIq:=kQ.out
   obtain ⟨OI,OJ,OL,OM,OO,OP,OQ,OT⟩:=jr dJ.out
   go_wp2_with (first|((with_reducible refine aR (f:=18) rfl ?_);refine bU (some 26) rfl rfl Try.func18 aT rfl #[.agg #[Z ab ax,Z ab av,Z ab aH,Z ab aG,Z ab aQ,Z ab aN,Z ab aM,.slice fJ bn.length fK,.slice fU aW.length fM],.agg #[Z ab bq,Z ab bz,Z ab bY,Z ab bX,Z ab dB,Z ab dC,Z ab dD],.agg #[Z ab dh,Z ab di,Z ab dm,Z ab dn],Z ab a3] rfl jQ ?_;(with_reducible refine (ek.calls k ax av aH aG aQ aN aM _ _ bn _ _ aW bq bz bY bX dB dC dD dh di dm dn a3 false _ ?dP ?dQ ?fF ?fG A15.out).mono ?_);(case dP=>repeat (first|exact (Kd.bD mi.out HB.out)|(with_reducible refine Kd.bR ?_ _)|(with_reducible refine Kd.bS ?_ _)|(with_reducible refine Kd.dA ?_)));(case dQ=>exact mo.out);(case fF=>repeat (first|exact (Kd.bD jH.out HB.out)|(with_reducible refine Kd.bR ?_ _)|(with_reducible refine Kd.bS ?_ _)|(with_reducible refine Kd.dA ?_)));(case fG=>exact mq.out);rintro e w70 ⟨rfl,hb⟩;refine ⟨_,rfl,?_⟩;replace df:=bJ df hb;replace dF:=bJ dF hb;replace dJ:=bJ dJ hb;replace eF:=bJ eF hb;replace eX:=bJ eX hb;replace HB:=cK HB hb;(try clear hb);(try clear hb2);(try clear hk);(try clear hi)))
   go_meet
   case rel=>exact ⟨_,(true),sG,H',⟨X7⟩,⟨iU⟩,⟨iU⟩,⟨iU⟩,⟨iU⟩,⟨iU⟩,⟨eZ⟩⟩
 case rest =>
  clear HC9
  try clear c1
  try clear c2
  try clear p2
  try clear c3
  try clear c4
  try clear c5
  try clear c6
  try clear c7
  try clear c16
  try clear c17
  try clear yA
  try clear c18
  try clear c19
  try clear c20
  try clear c21
  try clear c23
  try clear c24
  try clear c25
  try clear c27
  try clear c28
  try clear c31
  try clear Zy
  try clear Zz
  try clear c32
  try clear c33
  try clear c34
  try clear c35
  try clear c37
  try clear c38
  try clear c39
  try clear c41
  try clear c42
  try clear c45
  try clear c46
  try clear c47
  try clear c48
  try clear c50
  try clear c51
  try clear c52
  try clear c54
  try clear c55
  try clear c58
  try clear c59
  try clear c60
  try clear c61
  try clear c63
  try clear c64
  try clear c65
  try clear c67
  try clear c68
  try clear Bo Bp Bq Br Eu Ev Ew Ng Nh
  try clear wC wD Ai Aj DC DD DF
  try clear qE qF rP rQ
  try clear Ba Bb Bc Bd Ei Ej II Nn Np
  try clear wJ wK Bz BA EA EB EC
  try clear EH EI EJ EK
  try clear Ns Nt Nu Nv Nw Ny Nz NA NB
  try clear NM NN NP NQ NR NS NT
  try clear IK IL IM IP
  try clear Gr Gs N9 Oa Ob Oc Od Oe Og
  try clear Ot Ou Ov Ow Ox Oy Oz
  try clear OI OJ OL OM
  try clear Bt Bu Bv Bw Ex Ey Ez Nk Nl
  try clear wE wF Ak Al DI DJ DK
  try clear qG qH rR rT
  try clear Be Bf Bg Bh El Em IJ Nq Nr
  try clear wL wM BC BD ED EF EG
  try clear EL EM EN EO
  try clear NC ND NF NG NH NI NJ NK NL
  try clear NU NV NW NY NZ N7 N8
  try clear IQ IU IV IW
  try clear Gt Gu Oh Oi Oj Ol Om Oo Oq
  try clear OA OB OC OD OE OG OH
  try clear OO OP OQ OT
  obtain ⟨kq,aes,rfl,HA,HJ8,df,dF,dJ,eF,eX,HB⟩:=hcut
  cases kq with
  |zero=>exact absurd HA.out (by simp [ak.j0])
  |succ kj8 =>
   have H:=HA.out
   clear HA
   simp only [ak.j0] at H
   by_cases c71:aes = true
   ·subst c71
    have H1:((aU.f kj8).bind fun SN=>(some SN)) = some r:=by rw [if_pos rfl] at H;exact H
    clear H
    have H:=H1
    clear H1
    replace H:=Option.bind_eq_some_iff.mp H
    obtain ⟨SN,atf,H⟩:=H
    replace H:(some SN) = some r:=H
    have A72:=ag.mk atf
    clear atf
    obtain rfl:=Option.some.inj H
    go_wp2_with (first|((with_reducible refine aR (f:=19) rfl ?_);refine bU (some 42) rfl rfl Try.func19 aT rfl #[] rfl jQ ?_;(with_reducible refine (aU.calls kj8 SN _ A72.out).mono ?_);rintro e w73 ⟨rfl,hb⟩;refine ⟨_,rfl,?_⟩;replace df:=bJ df hb;replace dF:=bJ dF hb;replace dJ:=bJ dJ hb;replace eF:=bJ eF hb;replace eX:=bJ eX hb;replace HB:=cK HB hb;(try clear hb);(try clear hb2);(try clear hk);(try clear hi)))
    go_ret
    exact ⟨mf,eZ⟩
   ·replace c71:=Bool.eq_false_iff.mpr c71
    subst c71
    have H1:((mO.f ax av aH aG aQ aN aM bn aW bq bz bY bX dB dC dD dh di dm dn a3 iI iJ iK iL iM iN a6).bind fun Bn=>(if Bn.2 = 0 then (if (Bn.1.length:Int) = a6 then ((gH.f ax av aH aG aQ aN aM bn aW bq bz bY bX dB dC dD dh di dm dn a3 Bn.1).bind fun Df=>(ak.j1 kj8 a3 a6 l7 (Df != 0) ax av aH aG aQ aN aM bn aW bq bz bY bX dB dC dD dh di dm dn fA fB iI iJ iK iL iM iN)) else (ak.j1 kj8 a3 a6 l7 true ax av aH aG aQ aN aM bn aW bq bz bY bX dB dC dD dh di dm dn fA fB iI iJ iK iL iM iN)) else (if (Bn.1.length:Int) = 0 then ((aU.f kj8).bind fun Fe=>(some Fe)) else (some false)))) = some r:=by rw [if_neg (show ¬ (false = true) by decide)] at H;exact H
    clear H
    have H:=H1
    clear H1
    replace H:=Option.bind_eq_some_iff.mp H
    obtain ⟨⟨ug,Lf⟩,atg,H⟩:=H
    replace H:(if Lf = 0 then (if (ug.length:Int) = a6 then ((gH.f ax av aH aG aQ aN aM bn aW bq bz bY bX dB dC dD dh di dm dn a3 ug).bind fun Df=>(ak.j1 kj8 a3 a6 l7 (Df != 0) ax av aH aG aQ aN aM bn aW bq bz bY bX dB dC dD dh di dm dn fA fB iI iJ iK iL iM iN)) else (ak.j1 kj8 a3 a6 l7 true ax av aH aG aQ aN aM bn aW bq bz bY bX dB dC dD dh di dm dn fA fB iI iJ iK iL iM iN)) else (if (ug.length:Int) = 0 then ((aU.f kj8).bind fun Fe=>(some Fe)) else (some false))) = some r:=H
    have A74:=ag.mk atg
    clear atg
    by_cases c75:Lf = 0
    ·rw [if_pos c75] at H
     have aet:(Lf == 0) = true:=beq_iff_eq.mpr c75
     have aeu:(Lf != 0) = false:=bne_eq_false_iff_eq.mpr c75
     clear c75
     have aqb:=ag.mk H
     clear H
     have aIs:=ja.out
     have aIt:=jb.out
     have ath:=jc.out
     have ati:=jd.out
     have atj:=je.out
     have atl:=jf.out
     have aIu:=jg.out
     have aIv:=jh.out
     obtain ⟨VQ,VR,VS,VT,VU,VV,VW,VX,VY,VZ,V3,V4,V5,V6,V7,V8,V9,Wh⟩:=ji df.out
     have aIw:=kv.out
     have aIx:=ky.out
     have aIy:=kz.out
     have aIz:=kF.out
     have aIA:=kK.out
     have aIB:=kL.out
     obtain ⟨Wi,Wj,Wl,Wm,Wn,Wo,Wp,Wq,Ws,Wt,Wu,Wv,Ww,Wy⟩:=iH dF.out
     have aIC:=kI.out
     have aID:=kJ.out
     have aIE:=kP.out
     have aIF:=kQ.out
     obtain ⟨Wz,WA,WB,WC,WE,WG,WH,WI⟩:=jr dJ.out
     have aIG:=xL.out
     have aIH:=xK.out
     obtain ⟨WJ,WK,WL,WM,WN,WO,WQ,WR,WS,WT,WU,WV⟩:=EX eX.out
     go_upto_region 6 with (first|((with_reducible refine aR (f:=53) rfl ?_);refine bU (some 50) rfl rfl Try.func53 aT rfl #[.agg #[Z ab ax,Z ab av,Z ab aH,Z ab aG,Z ab aQ,Z ab aN,Z ab aM,.slice fJ bn.length fK,.slice fU aW.length fM],.agg #[Z ab bq,Z ab bz,Z ab bY,Z ab bX,Z ab dB,Z ab dC,Z ab dD],.agg #[Z ab dh,Z ab di,Z ab dm,Z ab dn],Z ab a3,.agg #[Z ab iI,Z ab iJ,Z ab iK,Z ab iL,Z ab iM,Z ab iN],Z ab a6] rfl jQ ?_;(with_reducible refine (mO.calls ax av aH aG aQ aN aM _ _ bn _ _ aW bq bz bY bX dB dC dD dh di dm dn a3 iI iJ iK iL iM iN a6 ug Lf _ ?dP ?dQ ?fF ?fG A74.out).mono ?_);(case dP=>repeat (first|exact (Kd.bD mi.out HB.out)|(with_reducible refine Kd.bR ?_ _)|(with_reducible refine Kd.bS ?_ _)|(with_reducible refine Kd.dA ?_)));(case dQ=>exact mo.out);(case fF=>repeat (first|exact (Kd.bD jH.out HB.out)|(with_reducible refine Kd.bR ?_ _)|(with_reducible refine Kd.bS ?_ _)|(with_reducible refine Kd.dA ?_)));(case fG=>exact mq.out);rintro e w91 ⟨atm,rfl,ho0,hb⟩;refine ⟨_,rfl,?_⟩;have yf:=ag.mk (Kd.jS (Kd.uS ho0 (g:=KQ) (o:=.cells #[Z ab dh,Z ab di,Z ab dm,Z ab dn] 31 (0,0)) iU) (gz eZ));replace df:=bJ df hb;replace dF:=bJ dF hb;replace dJ:=bJ dJ hb;replace eF:=bJ eF hb;replace eX:=bJ eX hb;replace HB:=cK HB hb;(try clear hb);(try clear hb2);(try clear hk);(try clear hi);(try clear ho0)))
     (try simp only [Act.put,List.setIfInBounds_toArray,List.set_cons_zero,List.set_cons_succ])
     go_cut [73] (fun v73 wc=>∃ (kq:Nat) (WW:Bool),v73 = .bool WW∧ag (ak.j1 kq a3 a6 l7 WW ax av aH aG aQ aN aM bn aW bq bz bY bX dB dC dD dh di dm dn fA fB iI iJ iK iL iM iN = some r)∧ag (kq≤kj8)∧ag (wc.heap[VM]? = some (.cells #[Z ab ax,Z ab av,Z ab aH,Z ab aG,Z ab aQ,Z ab aN,Z ab aM,(.slice fJ bn.length fK),(.slice fU aW.length fM)] 25 (0,0)))∧ag (wc.heap[VN]? = some (.cells #[Z ab bq,Z ab bz,Z ab bY,Z ab bX,Z ab dB,Z ab dC,Z ab dD] 29 (0,0)))∧ag (wc.heap[KQ]? = some (.cells #[Z ab dh,Z ab di,Z ab dm,Z ab dn] 31 (0,0)))∧ag (wc.heap[VO]? = some (.cells #[Z ab fA,Z ab fB] 27 (0,0)))∧ag (wc.heap[VP]? = some (.cells #[Z ab iI,Z ab iJ,Z ab iK,Z ab iL,Z ab iM,Z ab iN] 81 (0,0)))∧ag (Below w.heap.size w wc))
     case first =>
      have H:=aqb.out
      clear aqb
      by_cases c92:(ug.length:Int) = a6
      ·rw [if_pos c92] at H
       have Lg:((ug.length:Int) == a6) = true:=beq_iff_eq.mpr c92
       have aev:((ug.length:Int) != a6) = false:=bne_eq_false_iff_eq.mpr c92
       clear c92
       (first|rw [Lg]|(simp only [fe,fo];rw [Lg])|skip)
       replace H:=Option.bind_eq_some_iff.mp H
       obtain ⟨Df,atn,H⟩:=H
       replace H:(ak.j1 kj8 a3 a6 l7 (Df != 0) ax av aH aG aQ aN aM bn aW bq bz bY bX dB dC dD dh di dm dn fA fB iI iJ iK iL iM iN) = some r:=H
       have A93:=ag.mk atn
       clear atn
       have H':=ag.mk H
       clear H
       obtain ⟨aKx,aKy,aDr⟩:=Kd.jT yf.out
       subst aDr
       have aII:=ja.out
       have aIJ:=jb.out
       have aIK:=jc.out
       have aIL:=jd.out
       have aIM:=je.out
       have aIN:=jf.out
       have aIO:=jg.out
       have aIP:=jh.out
       obtain ⟨WX,WY,WZ,Xa,Xb,Xc,Xd,Xe,Xf,Xg,Xh,Xi,Xj,Xk,Xl,Xm,Xn,Xo⟩:=ji df.out
       have aDs:=kv.out
       have aDt:=ky.out
       have aDu:=kz.out
       have aDv:=kF.out
       have aDw:=kK.out
       have aDx:=kL.out
       obtain ⟨QR,QS,QT,QU,QV,QW,QX,QY,QZ,Q0,Q4,Q5,Q6,Q7⟩:=iH dF.out
       have aDy:=kI.out
       have aDz:=kJ.out
       have aDA:=kP.out
       have aDB:=kQ.out
       obtain ⟨Q8,Q9,Ra,Rb,Rc,Re,Rf,Rh⟩:=jr dJ.out
       go_wp2_with (first|(go_at_call 51;(with_reducible refine (gH.calls ax av aH aG aQ aN aM _ _ bn _ _ aW bq bz bY bX dB dC dD dh di dm dn a3 _ _ ug Df _ ?dP ?dQ ?fF ?fG ?ajb ?ajc A93.out).mono ?_);(case dP=>repeat (first|exact (Kd.bD mi.out HB.out)|(with_reducible refine Kd.bR ?_ _)|(with_reducible refine Kd.bS ?_ _)|(with_reducible refine Kd.dA ?_)));(case dQ=>exact mo.out);(case fF=>repeat (first|exact (Kd.bD jH.out HB.out)|(with_reducible refine Kd.bR ?_ _)|(with_reducible refine Kd.bS ?_ _)|(with_reducible refine Kd.dA ?_)));(case fG=>exact mq.out);(case ajb=>repeat (first|exact (Kd.dO yf.out).2.2|(with_reducible refine Kd.bR ?_ _)|(with_reducible refine Kd.bS ?_ _)|(with_reducible refine Kd.dA ?_)));(case ajc=>exact (Kd.dO yf.out).2.1);rintro e aKz ⟨rfl,hb⟩;replace yf:=xV yf hb;replace df:=bJ df hb;replace dF:=bJ dF hb;replace dJ:=bJ dJ hb;replace eF:=bJ eF hb;replace eX:=bJ eX hb;replace HB:=cK HB hb;(try clear hb);(try clear hb2);(try clear hk);(try clear hi)))
       go_meet
       case rel=>exact ⟨_,((Df != 0)),sG,H',⟨by have:=HJ8.out;first|omega|exact Nat.le_refl _⟩,⟨iU⟩,⟨iU⟩,⟨iU⟩,⟨iU⟩,⟨iU⟩,⟨eZ⟩⟩
      ·rw [if_neg c92] at H
       have Lg:((ug.length:Int) == a6) = false:=beq_eq_false_iff_ne.mpr c92
       have aev:((ug.length:Int) != a6) = true:=bne_iff_ne.mpr c92
       (first|rw [Lg]|(simp only [fe,fo];rw [Lg])|skip)
       have H':=ag.mk H
       clear H
       obtain ⟨aIQ,aIR,ato⟩:=Kd.jT yf.out
       subst ato
       go_wp2
       go_meet
       case rel=>exact ⟨_,(true),sG,H',⟨by have:=HJ8.out;first|omega|exact Nat.le_refl _⟩,⟨iU⟩,⟨iU⟩,⟨iU⟩,⟨iU⟩,⟨iU⟩,⟨eZ⟩⟩
     case rest =>
      clear aqb
      try clear c1
      try clear c2
      try clear p2
      try clear c3
      try clear c4
      try clear c5
      try clear c6
      try clear c7
      try clear c8
      try clear c9
      try clear c10
      try clear c16
      try clear c17
      try clear yA
      try clear c18
      try clear c19
      try clear c20
      try clear c21
      try clear c23
      try clear c24
      try clear c25
      try clear c27
      try clear c28
      try clear c31
      try clear Zy
      try clear Zz
      try clear c32
      try clear c33
      try clear c34
      try clear c35
      try clear c37
      try clear c38
      try clear c39
      try clear c41
      try clear c42
      try clear c45
      try clear c46
      try clear c47
      try clear c48
      try clear c50
      try clear c51
      try clear c52
      try clear c53
      try clear c54
      try clear c55
      try clear c58
      try clear c59
      try clear c60
      try clear c61
      try clear c63
      try clear c64
      try clear c65
      try clear c67
      try clear c68
      try clear c71
      try clear c75
      try clear aet
      try clear aeu
      try clear c77
      try clear c78
      try clear c79
      try clear c80
      try clear c82
      try clear c83
      try clear c84
      try clear c86
      try clear c87
      try clear c89
      try clear c92
      try clear Lg
      try clear aev
      try clear c95
      try clear c96
      try clear c97
      try clear c98
      try clear atp
      try clear atq
      try clear atr
      try clear att
      try clear c105
      try clear QR QS QT QU QV QW QX
      try clear Q8 Q9 Ra Rb
      try clear Bo Bp Bq Br Eu Ev Ew Ng Nh
      try clear wC wD Ai Aj DC DD DF
      try clear qE qF rP rQ
      try clear Ba Bb Bc Bd Ei Ej II Nn Np
      try clear wJ wK Bz BA EA EB EC
      try clear EH EI EJ EK
      try clear Ns Nt Nu Nv Nw Ny Nz NA NB
      try clear NM NN NP NQ NR NS NT
      try clear IK IL IM IP
      try clear Gr Gs N9 Oa Ob Oc Od Oe Og
      try clear Ot Ou Ov Ow Ox Oy Oz
      try clear OI OJ OL OM
      try clear VQ VR VS VT VU VV VW VX VY
      try clear Wi Wj Wl Wm Wn Wo Wp
      try clear Wz WA WB WC
      try clear WJ WK WL WM WN WO
      try clear WX WY WZ Xa Xb Xc Xd Xe Xf
      try clear QY QZ Q0 Q4 Q5 Q6 Q7
      try clear Rc Re Rf Rh
      try clear Bt Bu Bv Bw Ex Ey Ez Nk Nl
      try clear wE wF Ak Al DI DJ DK
      try clear qG qH rR rT
      try clear Be Bf Bg Bh El Em IJ Nq Nr
      try clear wL wM BC BD ED EF EG
      try clear EL EM EN EO
      try clear NC ND NF NG NH NI NJ NK NL
      try clear NU NV NW NY NZ N7 N8
      try clear IQ IU IV IW
      try clear Gt Gu Oh Oi Oj Ol Om Oo Oq
      try clear OA OB OC OD OE OG OH
      try clear OO OP OQ OT
      try clear VZ V3 V4 V5 V6 V7 V8 V9 Wh
      try clear Wq Ws Wt Wu Wv Ww Wy
      try clear WE WG WH WI
      try clear WQ WR WS WT WU WV
      try clear Xg Xh Xi Xj Xk Xl Xm Xn Xo
      try clear p2
      obtain ⟨kq,WW,rfl,HA,amk,df,dF,dJ,eF,eX,HB⟩:=hcut
      cases kq with
      |zero=>exact absurd HA.out (by simp [ak.j1])
      |succ aml =>
       have H:=HA.out
       clear HA
       simp only [ak.j1] at H
       by_cases c109:WW = true
       ·subst c109
        have H1:(some false) = some r:=by rw [if_pos rfl] at H;exact H
        clear H
        have H:=H1
        clear H1
        have YL:=Option.some.inj H
        rw [hr_.out] at YL
        cases YL
       ·replace c109:=Bool.eq_false_iff.mpr c109
        subst c109
        have H1:(if (l7.length:Int)≤a6 then ((jE.f ax av aH aG aQ aN aM bn aW bq bz bY bX dB dC dD dh di dm dn a3 fA fB l7 iI iJ iK iL iM iN).bind fun QQ=>(ak.j2 aml a3 a6 (QQ == 0) ax av aH aG aQ aN aM bn aW bq bz bY bX dB dC dD dh di dm dn fA fB iI iJ iK iL iM iN)) else (ak.j2 aml a3 a6 false ax av aH aG aQ aN aM bn aW bq bz bY bX dB dC dD dh di dm dn fA fB iI iJ iK iL iM iN)) = some r:=by rw [if_neg (show ¬ (false = true) by decide)] at H;exact H
        clear H
        have H:=H1
        clear H1
        have ajd:=ag.mk H
        clear H
        go_upto_region 8 with (fail)
        go_cut [88] (fun v88 wc=>∃ (kq:Nat) (OU:Bool),v88 = .bool OU∧ag (ak.j2 kq a3 a6 OU ax av aH aG aQ aN aM bn aW bq bz bY bX dB dC dD dh di dm dn fA fB iI iJ iK iL iM iN = some r)∧ag (kq≤aml)∧ag (wc.heap[VM]? = some (.cells #[Z ab ax,Z ab av,Z ab aH,Z ab aG,Z ab aQ,Z ab aN,Z ab aM,(.slice fJ bn.length fK),(.slice fU aW.length fM)] 25 (0,0)))∧ag (wc.heap[VN]? = some (.cells #[Z ab bq,Z ab bz,Z ab bY,Z ab bX,Z ab dB,Z ab dC,Z ab dD] 29 (0,0)))∧ag (wc.heap[KQ]? = some (.cells #[Z ab dh,Z ab di,Z ab dm,Z ab dn] 31 (0,0)))∧ag (wc.heap[VO]? = some (.cells #[Z ab fA,Z ab fB] 27 (0,0)))∧ag (wc.heap[VP]? = some (.cells #[Z ab iI,Z ab iJ,Z ab iK,Z ab iL,Z ab iM,Z ab iN] 81 (0,0)))∧ag (Below w.heap.size w wc))
        case first =>
         have H:=ajd.out
         clear ajd
         by_cases ZA:(l7.length:Int)≤a6
         ·rw [if_pos ZA] at H
          have FD:decide ((l7.length:Int)≤a6) = true:=decide_eq_true ZA
          clear ZA
          (first|rw [FD]|(simp only [fe,fo];rw [FD])|skip)
          replace H:=Option.bind_eq_some_iff.mp H
          obtain ⟨QQ,aoo,H⟩:=H
          replace H:(ak.j2 aml a3 a6 (QQ == 0) ax av aH aG aQ aN aM bn aW bq bz bY bX dB dC dD dh di dm dn fA fB iI iJ iK iL iM iN) = some r:=H
          have aDC:=ag.mk aoo
          clear aoo
          have H':=ag.mk H
          clear H
          have aDD:=ja.out
          have aDE:=jb.out
          have aDF:=jc.out
          have aDG:=jd.out
          have aDH:=je.out
          have aDI:=jf.out
          have aDJ:=jg.out
          have aDK:=jh.out
          obtain ⟨ZB,ZC,ZE,ZF,ZG,ZH,ZI,ZJ,ZK,ZL,ZM,ZN,ZO,ZP,ZQ,ZR,ZT,ZU⟩:=ji df.out
          have aDL:=kv.out
          have aDM:=ky.out
          have aDN:=kz.out
          have aDO:=kF.out
          have aDP:=kK.out
          have aDQ:=kL.out
          obtain ⟨ZV,ZW,ZX,ZY,ZZ,Z0,Z4,Z5,Z6,Z7,Z8,Z9,aaa,aab⟩:=iH dF.out
          have aDR:=kI.out
          have aDS:=kJ.out
          have aDT:=kP.out
          have aDU:=kQ.out
          obtain ⟨aac,aad,aae,aaf,aag,aah,aai,aaj⟩:=jr dJ.out
          have aDV:=xK.out
          have aDW:=xL.out
          obtain ⟨aak,aal,aam,aan⟩:=iq eF.out
          obtain ⟨aao,aap,aaq,aar,aas,aat,aau,aav,aaw,aax,aay,aaz⟩:=EX eX.out
          go_wp2_with (first|(go_at_call 48;(with_reducible refine (jE.calls ax av aH aG aQ aN aM _ _ bn _ _ aW bq bz bY bX dB dC dD dh di dm dn a3 fA fB _ _ l7 iI iJ iK iL iM iN QQ _ ?dP ?dQ ?fF ?fG ?ajb ?ajc aDC.out).mono ?_);(case dP=>repeat (first|exact (Kd.bD mi.out HB.out)|(with_reducible refine Kd.bR ?_ _)|(with_reducible refine Kd.bS ?_ _)|(with_reducible refine Kd.dA ?_)));(case dQ=>exact mo.out);(case fF=>repeat (first|exact (Kd.bD jH.out HB.out)|(with_reducible refine Kd.bR ?_ _)|(with_reducible refine Kd.bS ?_ _)|(with_reducible refine Kd.dA ?_)));(case fG=>exact mq.out);(case ajb=>repeat (first|exact (Kd.bD HR7.out HB.out)|(with_reducible refine Kd.bR ?_ _)|(with_reducible refine Kd.bS ?_ _)|(with_reducible refine Kd.dA ?_)));(case ajc=>exact HC7.out);rintro e aKB ⟨rfl,hb⟩;replace df:=bJ df hb;replace dF:=bJ dF hb;replace dJ:=bJ dJ hb;replace eF:=bJ eF hb;replace eX:=bJ eX hb;replace HB:=cK HB hb;(try clear hb);(try clear hb2);(try clear hk);(try clear hi)))
          go_meet
          case rel=>exact ⟨_,((QQ == 0)),sG,H',⟨by have:=HJ8.out;have:=amk.out;first|omega|exact Nat.le_refl _⟩,⟨iU⟩,⟨iU⟩,⟨iU⟩,⟨iU⟩,⟨iU⟩,⟨eZ⟩⟩
         ·rw [if_neg ZA] at H
          have FD:decide ((l7.length:Int)≤a6) = false:=decide_eq_false ZA
          clear ZA
          (first|rw [FD]|(simp only [fe,fo];rw [FD])|skip)
          have H':=ag.mk H
          clear H
          go_wp2
          go_meet
          case rel=>exact ⟨_,(false),sG,H',⟨by have:=HJ8.out;have:=amk.out;first|omega|exact Nat.le_refl _⟩,⟨iU⟩,⟨iU⟩,⟨iU⟩,⟨iU⟩,⟨iU⟩,⟨eZ⟩⟩
        case rest =>
         clear ajd
         try clear c1
         try clear c2
         try clear p2
         try clear c3
         try clear c4
         try clear c5
         try clear c6
         try clear c7
         try clear c8
         try clear c9
         try clear c10
         try clear c11
         try clear c12
         try clear c16
         try clear c17
         try clear yA
         try clear c18
         try clear c19
         try clear c20
         try clear c21
         try clear c23
         try clear c24
         try clear c25
         try clear c27
         try clear c28
         try clear c31
         try clear Zy
         try clear Zz
         try clear c32
         try clear c33
         try clear c34
         try clear c35
         try clear c37
         try clear c38
         try clear c39
         try clear c41
         try clear c42
         try clear c45
         try clear c46
         try clear c47
         try clear c48
         try clear c50
         try clear c51
         try clear c52
         try clear c53
         try clear c54
         try clear c55
         try clear c58
         try clear c59
         try clear c60
         try clear c61
         try clear c63
         try clear c64
         try clear c65
         try clear c67
         try clear c68
         try clear c71
         try clear c75
         try clear aet
         try clear aeu
         try clear c77
         try clear c78
         try clear c79
         try clear c80
         try clear c82
         try clear c83
         try clear c84
         try clear c86
         try clear c87
         try clear c89
         try clear c92
         try clear Lg
         try clear aev
         try clear c95
         try clear c96
         try clear c97
         try clear c98
         try clear atp
         try clear atq
         try clear atr
         try clear att
         try clear c105
         try clear c109
         try clear ZA
         try clear FD
         try clear aDX
         try clear aDY
         try clear aDZ
         try clear c116
         try clear aD0
         try clear c119
         try clear aD1
         try clear aD2
         try clear aD3
         try clear aD4
         try clear QR QS QT QU QV QW QX
         try clear Q8 Q9 Ra Rb
         try clear ZB ZC ZE ZF ZG ZH ZI ZJ ZK
         try clear ZV ZW ZX ZY ZZ Z0 Z4
         try clear aac aad aae aaf
         try clear aak aal
         try clear aao aap aaq aar aas aat
         try clear Bo Bp Bq Br Eu Ev Ew Ng Nh
         try clear wC wD Ai Aj DC DD DF
         try clear qE qF rP rQ
         try clear Ba Bb Bc Bd Ei Ej II Nn Np
         try clear wJ wK Bz BA EA EB EC
         try clear EH EI EJ EK
         try clear Ns Nt Nu Nv Nw Ny Nz NA NB
         try clear NM NN NP NQ NR NS NT
         try clear IK IL IM IP
         try clear Gr Gs N9 Oa Ob Oc Od Oe Og
         try clear Ot Ou Ov Ow Ox Oy Oz
         try clear OI OJ OL OM
         try clear VQ VR VS VT VU VV VW VX VY
         try clear Wi Wj Wl Wm Wn Wo Wp
         try clear Wz WA WB WC
         try clear WJ WK WL WM WN WO
         try clear WX WY WZ Xa Xb Xc Xd Xe Xf
         try clear QY QZ Q0 Q4 Q5 Q6 Q7
         try clear Rc Re Rf Rh
         try clear ZL ZM ZN ZO ZP ZQ ZR ZT ZU
         try clear Z5 Z6 Z7 Z8 Z9 aaa aab
         try clear aag aah aai aaj
         try clear aam aan
         try clear aau aav aaw aax aay aaz
         try clear Bt Bu Bv Bw Ex Ey Ez Nk Nl
         try clear wE wF Ak Al DI DJ DK
         try clear qG qH rR rT
         try clear Be Bf Bg Bh El Em IJ Nq Nr
         try clear wL wM BC BD ED EF EG
         try clear EL EM EN EO
         try clear NC ND NF NG NH NI NJ NK NL
         try clear NU NV NW NY NZ N7 N8
         try clear IQ IU IV IW
         try clear Gt Gu Oh Oi Oj Ol Om Oo Oq
         try clear OA OB OC OD OE OG OH
         try clear OO OP OQ OT
         try clear VZ V3 V4 V5 V6 V7 V8 V9 Wh
         try clear Wq Ws Wt Wu Wv Ww Wy
         try clear WE WG WH WI
         try clear WQ WR WS WT WU WV
         try clear Xg Xh Xi Xj Xk Xl Xm Xn Xo
         try clear p2
         obtain ⟨kq,OU,rfl,HA,aop,df,dF,dJ,eF,eX,HB⟩:=hcut
         cases kq with
         |zero=>exact absurd HA.out (by simp [ak.j2])
         |succ Ri =>
          have H:=HA.out
          clear HA
          simp only [ak.j2] at H
          by_cases aje:OU = true
          ·subst aje
           have H1:(some false) = some r:=by rw [if_pos rfl] at H;exact H
           clear H
           have H:=H1
           clear H1
           have YL:=Option.some.inj H
           rw [hr_.out] at YL
           cases YL
          ·replace aje:=Bool.eq_false_iff.mpr aje
           subst aje
           have H1:((gD.f ax av aH aG aQ aN aM bn aW a6).bind fun SQ=>(if SQ = true then (ak.j3 Ri a3 a6 false ax av aH aG aQ aN aM bn aW bq bz bY bX dB dC dD dh di dm dn fA fB iI iJ iK iL iM iN) else (ak.j3 Ri a3 a6 (decide (a6≤3)) ax av aH aG aQ aN aM bn aW bq bz bY bX dB dC dD dh di dm dn fA fB iI iJ iK iL iM iN))) = some r:=by rw [if_neg (show ¬ (false = true) by decide)] at H;exact H
           clear H
           have H:=H1
           clear H1
           have ajf:=ag.mk H
           clear H
           go_upto_region 10 with (fail)
           go_cut [96] (fun v96 wc=>∃ (kq:Nat) (OV:Bool),v96 = .bool OV∧ag (ak.j3 kq a3 a6 OV ax av aH aG aQ aN aM bn aW bq bz bY bX dB dC dD dh di dm dn fA fB iI iJ iK iL iM iN = some r)∧ag (kq≤Ri)∧ag (wc.heap[VM]? = some (.cells #[Z ab ax,Z ab av,Z ab aH,Z ab aG,Z ab aQ,Z ab aN,Z ab aM,(.slice fJ bn.length fK),(.slice fU aW.length fM)] 25 (0,0)))∧ag (wc.heap[VN]? = some (.cells #[Z ab bq,Z ab bz,Z ab bY,Z ab bX,Z ab dB,Z ab dC,Z ab dD] 29 (0,0)))∧ag (wc.heap[KQ]? = some (.cells #[Z ab dh,Z ab di,Z ab dm,Z ab dn] 31 (0,0)))∧ag (wc.heap[VO]? = some (.cells #[Z ab fA,Z ab fB] 27 (0,0)))∧ag (wc.heap[VP]? = some (.cells #[Z ab iI,Z ab iJ,Z ab iK,Z ab iL,Z ab iM,Z ab iN] 81 (0,0)))∧ag (Below w.heap.size w wc))
           case first =>
            have H:=ajf.out
            clear ajf
            replace H:=Option.bind_eq_some_iff.mp H
            obtain ⟨SQ,aoq,H⟩:=H
            replace H:(if SQ = true then (ak.j3 Ri a3 a6 false ax av aH aG aQ aN aM bn aW bq bz bY bX dB dC dD dh di dm dn fA fB iI iJ iK iL iM iN) else (ak.j3 Ri a3 a6 (decide (a6≤3)) ax av aH aG aQ aN aM bn aW bq bz bY bX dB dC dD dh di dm dn fA fB iI iJ iK iL iM iN)) = some r:=H
            have atu:=ag.mk aoq
            clear aoq
            by_cases ajg:SQ = true
            ·subst ajg
             have H1:(ak.j3 Ri a3 a6 false ax av aH aG aQ aN aM bn aW bq bz bY bX dB dC dD dh di dm dn fA fB iI iJ iK iL iM iN) = some r:=by rw [if_pos rfl] at H;exact H
             clear H
             have H:=H1
             clear H1
             have H':=ag.mk H
             clear H
             have aD5:=ja.out
             have aD6:=jb.out
             have aD7:=jc.out
             have aD8:=jd.out
             have aD9:=je.out
             have aEa:=jf.out
             have aEb:=jg.out
             have aEc:=jh.out
             obtain ⟨ajh,aji,ajj,ajk,ajl,ajm,ajn,ajo,ajp,ajq,ajr,ajs,ajt,aju,ajv,ajw,ajx,ajy⟩:=ji df.out
             go_wp2_with (first|((with_reducible refine aR (f:=56) rfl ?_);refine bU (some 91) rfl rfl Try.func56 aT rfl #[.agg #[Z ab ax,Z ab av,Z ab aH,Z ab aG,Z ab aQ,Z ab aN,Z ab aM,.slice fJ bn.length fK,.slice fU aW.length fM],Z ab a6] rfl jQ ?_;(with_reducible refine (gD.calls ax av aH aG aQ aN aM _ _ bn _ _ aW a6 true _ ?dP ?dQ ?fF ?fG atu.out).mono ?_);(case dP=>repeat (first|exact (Kd.bD mi.out HB.out)|(with_reducible refine Kd.bR ?_ _)|(with_reducible refine Kd.bS ?_ _)|(with_reducible refine Kd.dA ?_)));(case dQ=>exact mo.out);(case fF=>repeat (first|exact (Kd.bD jH.out HB.out)|(with_reducible refine Kd.bR ?_ _)|(with_reducible refine Kd.bS ?_ _)|(with_reducible refine Kd.dA ?_)));(case fG=>exact mq.out);rintro e aKD ⟨rfl,hb⟩;refine ⟨_,rfl,?_⟩;replace df:=bJ df hb;replace dF:=bJ dF hb;replace dJ:=bJ dJ hb;replace eF:=bJ eF hb;replace eX:=bJ eX hb;replace HB:=cK HB hb;(try clear hb);(try clear hb2);(try clear hk);(try clear hi)))
             go_meet
             case rel=>exact ⟨_,(false),sG,H',⟨by have:=HJ8.out;have:=amk.out;have:=aop.out;first|omega|exact Nat.le_refl _⟩,⟨iU⟩,⟨iU⟩,⟨iU⟩,⟨iU⟩,⟨iU⟩,⟨eZ⟩⟩
            ·replace ajg:=Bool.eq_false_iff.mpr ajg
             subst ajg
             have H1:(ak.j3 Ri a3 a6 (decide (a6≤3)) ax av aH aG aQ aN aM bn aW bq bz bY bX dB dC dD dh di dm dn fA fB iI iJ iK iL iM iN) = some r:=by rw [if_neg (show ¬ (false = true) by decide)] at H;exact H
             clear H
             have H:=H1
             clear H1
             have H':=ag.mk H
             clear H
             have aEd:=ja.out
             have aEe:=jb.out
             have aEf:=jc.out
             have aEg:=jd.out
             have aEh:=je.out
             have aEi:=jf.out
             have aEj:=jg.out
             have aEk:=jh.out
             obtain ⟨ajz,ajA,ajB,ajC,ajD,ajE,ajF,ajG,ajH,ajI,ajJ,ajK,ajL,ajM,ajN,ajO,ajP,ajQ⟩:=ji df.out
             go_wp2_with (first|((with_reducible refine aR (f:=56) rfl ?_);refine bU (some 91) rfl rfl Try.func56 aT rfl #[.agg #[Z ab ax,Z ab av,Z ab aH,Z ab aG,Z ab aQ,Z ab aN,Z ab aM,.slice fJ bn.length fK,.slice fU aW.length fM],Z ab a6] rfl jQ ?_;(with_reducible refine (gD.calls ax av aH aG aQ aN aM _ _ bn _ _ aW a6 false _ ?dP ?dQ ?fF ?fG atu.out).mono ?_);(case dP=>repeat (first|exact (Kd.bD mi.out HB.out)|(with_reducible refine Kd.bR ?_ _)|(with_reducible refine Kd.bS ?_ _)|(with_reducible refine Kd.dA ?_)));(case dQ=>exact mo.out);(case fF=>repeat (first|exact (Kd.bD jH.out HB.out)|(with_reducible refine Kd.bR ?_ _)|(with_reducible refine Kd.bS ?_ _)|(with_reducible refine Kd.dA ?_)));(case fG=>exact mq.out);rintro e aKE ⟨rfl,hb⟩;refine ⟨_,rfl,?_⟩;replace df:=bJ df hb;replace dF:=bJ dF hb;replace dJ:=bJ dJ hb;replace eF:=bJ eF hb;replace eX:=bJ eX hb;replace HB:=cK HB hb;(try clear hb);(try clear hb2);(try clear hk);(try clear hi)))
             go_meet
             case rel=>exact ⟨_,(decide (a6≤3)),sG,H',⟨by have:=HJ8.out;have:=amk.out;have:=aop.out;first|omega|exact Nat.le_refl _⟩,⟨iU⟩,⟨iU⟩,⟨iU⟩,⟨iU⟩,⟨iU⟩,⟨eZ⟩⟩
           case rest =>
            clear ajf
            try clear c1
            try clear c2
            try clear p2
            try clear c3
            try clear c4
            try clear c5
            try clear c6
            try clear c7
            try clear c8
            try clear c9
            try clear c10
            try clear c11
            try clear c12
            try clear c13
            try clear c14
            try clear c16
            try clear c17
            try clear yA
            try clear c18
            try clear c19
            try clear c20
            try clear c21
            try clear c23
            try clear c24
            try clear c25
            try clear c27
            try clear c28
            try clear c31
            try clear Zy
            try clear Zz
            try clear c32
            try clear c33
            try clear c34
            try clear c35
            try clear c37
            try clear c38
            try clear c39
            try clear c41
            try clear c42
            try clear c45
            try clear c46
            try clear c47
            try clear c48
            try clear c50
            try clear c51
            try clear c52
            try clear c53
            try clear c54
            try clear c55
            try clear c56
            try clear c58
            try clear c59
            try clear c60
            try clear c61
            try clear c63
            try clear c64
            try clear c65
            try clear c67
            try clear c68
            try clear c71
            try clear c75
            try clear aet
            try clear aeu
            try clear c77
            try clear c78
            try clear c79
            try clear c80
            try clear c82
            try clear c83
            try clear c84
            try clear c86
            try clear c87
            try clear c89
            try clear c92
            try clear Lg
            try clear aev
            try clear c95
            try clear c96
            try clear c97
            try clear c98
            try clear atp
            try clear atq
            try clear atr
            try clear att
            try clear c105
            try clear c109
            try clear ZA
            try clear FD
            try clear aDX
            try clear aDY
            try clear aDZ
            try clear c116
            try clear aD0
            try clear c119
            try clear aD1
            try clear aD2
            try clear aD3
            try clear aD4
            try clear aje
            try clear ajg
            try clear aKF
            try clear aKG
            try clear aKH
            try clear aKI
            try clear c139
            try clear aKJ
            try clear c141
            try clear aKK
            try clear QR QS QT QU QV QW QX
            try clear Q8 Q9 Ra Rb
            try clear ZB ZC ZE ZF ZG ZH ZI ZJ ZK
            try clear ZV ZW ZX ZY ZZ Z0 Z4
            try clear aac aad aae aaf
            try clear aak aal
            try clear aao aap aaq aar aas aat
            try clear ajh aji ajj ajk ajl ajm ajn ajo ajp
            try clear ajz ajA ajB ajC ajD ajE ajF ajG ajH
            try clear Bo Bp Bq Br Eu Ev Ew Ng Nh
            try clear wC wD Ai Aj DC DD DF
            try clear qE qF rP rQ
            try clear Ba Bb Bc Bd Ei Ej II Nn Np
            try clear wJ wK Bz BA EA EB EC
            try clear EH EI EJ EK
            try clear Ns Nt Nu Nv Nw Ny Nz NA NB
            try clear NM NN NP NQ NR NS NT
            try clear IK IL IM IP
            try clear Gr Gs N9 Oa Ob Oc Od Oe Og
            try clear Ot Ou Ov Ow Ox Oy Oz
            try clear OI OJ OL OM
            try clear VQ VR VS VT VU VV VW VX VY
            try clear Wi Wj Wl Wm Wn Wo Wp
            try clear Wz WA WB WC
            try clear WJ WK WL WM WN WO
            try clear WX WY WZ Xa Xb Xc Xd Xe Xf
            try clear QY QZ Q0 Q4 Q5 Q6 Q7
            try clear Rc Re Rf Rh
            try clear ZL ZM ZN ZO ZP ZQ ZR ZT ZU
            try clear Z5 Z6 Z7 Z8 Z9 aaa aab
            try clear aag aah aai aaj
            try clear aam aan
            try clear aau aav aaw aax aay aaz
            try clear ajq ajr ajs ajt aju ajv ajw ajx ajy
            try clear ajI ajJ ajK ajL ajM ajN ajO ajP ajQ
            try clear Bt Bu Bv Bw Ex Ey Ez Nk Nl
            try clear wE wF Ak Al DI DJ DK
            try clear qG qH rR rT
            try clear Be Bf Bg Bh El Em IJ Nq Nr
            try clear wL wM BC BD ED EF EG
            try clear EL EM EN EO
            try clear NC ND NF NG NH NI NJ NK NL
            try clear NU NV NW NY NZ N7 N8
            try clear IQ IU IV IW
            try clear Gt Gu Oh Oi Oj Ol Om Oo Oq
            try clear OA OB OC OD OE OG OH
            try clear OO OP OQ OT
            try clear VZ V3 V4 V5 V6 V7 V8 V9 Wh
            try clear Wq Ws Wt Wu Wv Ww Wy
            try clear WE WG WH WI
            try clear WQ WR WS WT WU WV
            try clear Xg Xh Xi Xj Xk Xl Xm Xn Xo
            try clear p2
            obtain ⟨kq,OV,rfl,HA,aI4,df,dF,dJ,eF,eX,HB⟩:=hcut
            cases kq with
            |zero=>exact absurd HA.out (by simp [ak.j3])
            |succ aaA =>
             have H:=HA.out
             clear HA
             simp only [ak.j3] at H
             by_cases c145:OV = true
             ·subst c145
              have H1:((qg.f ax av aH aG aQ aN aM bn aW bq bz bY bX dB dC dD dh di dm dn a3 fA fB iI iJ iK iL iM iN a6).bind fun acI=>(if acI.2.2 = 0 then (some false) else ((aU.f aaA).bind fun Le=>(some Le)))) = some r:=by rw [if_pos rfl] at H;exact H
              clear H
              have H:=H1
              clear H1
              replace H:=Option.bind_eq_some_iff.mp H
              obtain ⟨⟨atv,atw,Rj⟩,aor,H⟩:=H
              replace H:(if Rj = 0 then (some false) else ((aU.f aaA).bind fun Le=>(some Le))) = some r:=H
              have aEl:=ag.mk aor
              clear aor
              by_cases acJ:Rj = 0
              ·rw [if_pos acJ] at H
               have aqc:(Rj == 0) = true:=beq_iff_eq.mpr acJ
               have aqd:(Rj != 0) = false:=bne_eq_false_iff_eq.mpr acJ
               clear acJ
               have YL:=Option.some.inj H
               rw [hr_.out] at YL
               cases YL
              ·rw [if_neg acJ] at H
               have aqc:(Rj == 0) = false:=beq_eq_false_iff_ne.mpr acJ
               have aqd:(Rj != 0) = true:=bne_iff_ne.mpr acJ
               replace H:=Option.bind_eq_some_iff.mp H
               obtain ⟨Le,aos,H⟩:=H
               replace H:(some Le) = some r:=H
               have aEm:=ag.mk aos
               clear aos
               obtain rfl:=Option.some.inj H
               have aEn:=ja.out
               have aEo:=jb.out
               have aEp:=jc.out
               have aEq:=jd.out
               have aEr:=je.out
               have aEs:=jf.out
               have aEt:=jg.out
               have aEu:=jh.out
               obtain ⟨atx,aty,atz,atA,atB,atC,atD,atE,atF,atG,atH,atJ,atK,atL,atM,atN,atO,atP⟩:=ji df.out
               have aEv:=kv.out
               have aEw:=ky.out
               have aEx:=kz.out
               have aEy:=kF.out
               have aEz:=kK.out
               have aEA:=kL.out
               obtain ⟨atQ,atS,atT,atU,atV,atW,atX,atY,atZ,at0,at1,at5,at6,at7⟩:=iH dF.out
               have aEB:=kI.out
               have aEC:=kJ.out
               have aED:=kP.out
               have aEE:=kQ.out
               obtain ⟨aua,aub,auc,aud,aue,auf,aug,auh⟩:=jr dJ.out
               have aEF:=xK.out
               have aEG:=xL.out
               obtain ⟨aui,auj,auk,aul⟩:=iq eF.out
               obtain ⟨aum,aun,auo,aup,auq,aur,aus,aut,auu,auv,auw,auy⟩:=EX eX.out
               go_wp2_with (first|((with_reducible refine aR (f:=57) rfl ?_);refine bU (some 105) rfl rfl Try.func57 aT rfl #[.agg #[Z ab ax,Z ab av,Z ab aH,Z ab aG,Z ab aQ,Z ab aN,Z ab aM,.slice fJ bn.length fK,.slice fU aW.length fM],.agg #[Z ab bq,Z ab bz,Z ab bY,Z ab bX,Z ab dB,Z ab dC,Z ab dD],.agg #[Z ab dh,Z ab di,Z ab dm,Z ab dn],Z ab a3,.agg #[Z ab fA,Z ab fB],.agg #[Z ab iI,Z ab iJ,Z ab iK,Z ab iL,Z ab iM,Z ab iN],Z ab a6] rfl jQ ?_;(with_reducible refine (qg.calls ax av aH aG aQ aN aM _ _ bn _ _ aW bq bz bY bX dB dC dD dh di dm dn a3 fA fB iI iJ iK iL iM iN a6 atv atw Rj _ ?dP ?dQ ?fF ?fG aEl.out).mono ?_);(case dP=>repeat (first|exact (Kd.bD mi.out HB.out)|(with_reducible refine Kd.bR ?_ _)|(with_reducible refine Kd.bS ?_ _)|(with_reducible refine Kd.dA ?_)));(case dQ=>exact mo.out);(case fF=>repeat (first|exact (Kd.bD jH.out HB.out)|(with_reducible refine Kd.bR ?_ _)|(with_reducible refine Kd.bS ?_ _)|(with_reducible refine Kd.dA ?_)));(case fG=>exact mq.out);rintro e aKL ⟨aI5,rfl,ho0,hb⟩;refine ⟨_,rfl,?_⟩;have ajR:=ag.mk (Kd.jS ho0 (gz eZ));replace df:=bJ df hb;replace dF:=bJ dF hb;replace dJ:=bJ dJ hb;replace eF:=bJ eF hb;replace eX:=bJ eX hb;replace HB:=cK HB hb;(try clear hb);(try clear hb2);(try clear hk);(try clear hi);(try clear ho0))|((with_reducible refine aR (f:=19) rfl ?_);refine bU (some 111) rfl rfl Try.func19 aT rfl #[] rfl jQ ?_;(with_reducible refine (aU.calls aaA Le _ aEm.out).mono ?_);rintro e aKM ⟨rfl,hb⟩;refine ⟨_,rfl,?_⟩;replace ajR:=xV ajR hb;replace df:=bJ df hb;replace dF:=bJ dF hb;replace dJ:=bJ dJ hb;replace eF:=bJ eF hb;replace eX:=bJ eX hb;replace HB:=cK HB hb;(try clear hb);(try clear hb2);(try clear hk);(try clear hi)))
               go_ret
               exact ⟨mf,eZ⟩
             ·replace c145:=Bool.eq_false_iff.mpr c145
              subst c145
              have H1:((aU.f aaA).bind fun SS=>(some SS)) = some r:=by rw [if_neg (show ¬ (false = true) by decide)] at H;exact H
              clear H
              have H:=H1
              clear H1
              replace H:=Option.bind_eq_some_iff.mp H
              obtain ⟨SS,aot,H⟩:=H
              replace H:(some SS) = some r:=H
              have aEH:=ag.mk aot
              clear aot
              obtain rfl:=Option.some.inj H
              go_wp2_with (first|((with_reducible refine aR (f:=19) rfl ?_);refine bU (some 111) rfl rfl Try.func19 aT rfl #[] rfl jQ ?_;(with_reducible refine (aU.calls aaA SS _ aEH.out).mono ?_);rintro e aKN ⟨rfl,hb⟩;refine ⟨_,rfl,?_⟩;replace df:=bJ df hb;replace dF:=bJ dF hb;replace dJ:=bJ dJ hb;replace eF:=bJ eF hb;replace eX:=bJ eX hb;replace HB:=cK HB hb;(try clear hb);(try clear hb2);(try clear hk);(try clear hi)))
              go_ret
              exact ⟨mf,eZ⟩
    ·rw [if_neg c75] at H
     have aet:(Lf == 0) = false:=beq_eq_false_iff_ne.mpr c75
     have aeu:(Lf != 0) = true:=bne_iff_ne.mpr c75
     by_cases aaB:(ug.length:Int) = 0
     ·rw [if_pos aaB] at H
      have aqe:((ug.length:Int) == 0) = true:=beq_iff_eq.mpr aaB
      have aqf:((ug.length:Int) != 0) = false:=bne_eq_false_iff_eq.mpr aaB
      clear aaB
      replace H:=Option.bind_eq_some_iff.mp H
      obtain ⟨Fe,aou,H⟩:=H
      replace H:(some Fe) = some r:=H
      have aEI:=ag.mk aou
      clear aou
      obtain rfl:=Option.some.inj H
      have aEJ:=ja.out
      have aEK:=jb.out
      have aEL:=jc.out
      have aEM:=jd.out
      have aEN:=je.out
      have aEO:=jf.out
      have aEP:=jg.out
      have aEQ:=jh.out
      obtain ⟨auz,auA,auB,auC,auD,auE,auF,auG,auH,auI,auJ,auK,auL,auM,auN,auO,auP,auQ⟩:=ji df.out
      have aER:=kv.out
      have aES:=ky.out
      have aET:=kz.out
      have aEU:=kF.out
      have aEV:=kK.out
      have aEW:=kL.out
      obtain ⟨auR,auS,auT,auU,auV,auW,auX,auY,auZ,au0,au1,au2,au3,au4⟩:=iH dF.out
      have aEX:=kI.out
      have aEY:=kJ.out
      have aEZ:=kP.out
      have aE0:=kQ.out
      obtain ⟨au5,au6,au7,au8,au9,ava,avb,avc⟩:=jr dJ.out
      have aE1:=xL.out
      have aE2:=xK.out
      obtain ⟨avd,ave,avf,avg,avh,avi,avj,avk,avl,avm,avn,avo⟩:=EX eX.out
      go_wp2_with (first|((with_reducible refine aR (f:=53) rfl ?_);refine bU (some 50) rfl rfl Try.func53 aT rfl #[.agg #[Z ab ax,Z ab av,Z ab aH,Z ab aG,Z ab aQ,Z ab aN,Z ab aM,.slice fJ bn.length fK,.slice fU aW.length fM],.agg #[Z ab bq,Z ab bz,Z ab bY,Z ab bX,Z ab dB,Z ab dC,Z ab dD],.agg #[Z ab dh,Z ab di,Z ab dm,Z ab dn],Z ab a3,.agg #[Z ab iI,Z ab iJ,Z ab iK,Z ab iL,Z ab iM,Z ab iN],Z ab a6] rfl jQ ?_;(with_reducible refine (mO.calls ax av aH aG aQ aN aM _ _ bn _ _ aW bq bz bY bX dB dC dD dh di dm dn a3 iI iJ iK iL iM iN a6 ug Lf _ ?dP ?dQ ?fF ?fG A74.out).mono ?_);(case dP=>repeat (first|exact (Kd.bD mi.out HB.out)|(with_reducible refine Kd.bR ?_ _)|(with_reducible refine Kd.bS ?_ _)|(with_reducible refine Kd.dA ?_)));(case dQ=>exact mo.out);(case fF=>repeat (first|exact (Kd.bD jH.out HB.out)|(with_reducible refine Kd.bR ?_ _)|(with_reducible refine Kd.bS ?_ _)|(with_reducible refine Kd.dA ?_)));(case fG=>exact mq.out);rintro e aKO ⟨atm,rfl,ho0,hb⟩;refine ⟨_,rfl,?_⟩;have yf:=ag.mk (Kd.jS (Kd.uS ho0 (g:=KQ) (o:=.cells #[Z ab dh,Z ab di,Z ab dm,Z ab dn] 31 (0,0)) iU) (gz eZ));replace df:=bJ df hb;replace dF:=bJ dF hb;replace dJ:=bJ dJ hb;replace eF:=bJ eF hb;replace eX:=bJ eX hb;replace HB:=cK HB hb;(try clear hb);(try clear hb2);(try clear hk);(try clear hi);(try clear ho0);obtain ⟨aI6,aI7,avp⟩:=Kd.jT yf.out;subst avp)|(go_at_call 19;(with_reducible refine (aU.calls kj8 Fe _ aEI.out).mono ?_);rintro e aKP ⟨rfl,hb⟩;replace yf:=xV yf hb;replace df:=bJ df hb;replace dF:=bJ dF hb;replace dJ:=bJ dJ hb;replace eF:=bJ eF hb;replace eX:=bJ eX hb;replace HB:=cK HB hb;(try clear hb);(try clear hb2);(try clear hk);(try clear hi)))
      go_ret
      exact ⟨mf,eZ⟩
     ·rw [if_neg aaB] at H
      have aqe:((ug.length:Int) == 0) = false:=beq_eq_false_iff_ne.mpr aaB
      have aqf:((ug.length:Int) != 0) = true:=bne_iff_ne.mpr aaB
      have aE3:¬ (ug = []):=fun h_=>aaB (by rw [h_];rfl)
      have YL:=Option.some.inj H
      rw [hr_.out] at YL
      cases YL
end Go.Proofs.Ytmhaiihjfgfaoaa.Pr
end
