import Derived.RangeFuncCalls
import Derived.RangeFuncNested
import Derived.OrdersIn
import Derived.RangeFuncBound
import Derived.RangeFuncLeaves
import Derived.Shelf.Abstract
import Derived.Shelf.RegionOpen
import Derived.WalkKit
import Derived.OwnWalkIn
import Derived.TacticsInMore
import Derived.LoopNIn
import Derived.LoopIn
import Derived.Lib.Hide
import Derived.Deep.QuietTactic
import Derived.BigQuiet
import Derived.StillTailTactics
import Derived.Test.YtmhaiihjfgfaoaaGfGliderFetch3
set_option linter.unusedVariables false
set_option linter.unusedSimpArgs false
open Go.Value renaming int → U
open Go.IntKind renaming i64 → Z
open Bool renaming true → ab, false → ac
section
namespace Go.Proofs.Ytmhaiihjfgfaoaa.Pr
open Go.RowKit Go.Proofs.YtmhaiihjfgfaoaaW.PrintWords Go.Proofs.YtmhaiihjfgfaoaaW.PrintLast Go.Proofs.YtmhaiihjfgfaoaaW.PrintMore
attribute [local go_sem] gp gq iA iB gu
set_option linter.unusedVariables false
set_option linter.unusedSimpArgs false
def dA.l0:Nat→Int→Int→Int→Int→Int→Int→Int→Int→List Bool→List (rq)→Option (Int × Int × Int × Int × Int × Int × Int × List Bool × (List (rq)) × Int × Int × Int × Int × Int × Int × Int)
 |0,_,_,_,_,_,_,_,_,_,_=>none
 |k+1,x3,ajD,ajE,ajF,ajG,ajH,ajI,ajJ,ajK,aav=>if x3 < 16 then (if aav.length < 4398046511104 then (dA.l0 k (wrap64 (x3+1)) ajD ajE ajF ajG ajH ajI ajJ ajK (aav++[(⟨(⟨(-100),100⟩:ky),(⟨0,0⟩:ky)⟩:rq)])) else (none)) else (some (ajD,ajE,ajF,ajG,ajH,ajI,ajJ,ajK,aav,300,1000,50,60,5,6,100))
def dA.f (k:Nat):Option (Int × Int × Int × Int × Int × Int × Int × List Bool × (List (rq)) × Int × Int × Int × Int × Int × Int × Int):=if 16≤281474976710656 then (dA.l0 k 0 4 4 1000 10000 1 1 200 (List.replicate 16 false) ([]:List (rq))) else (none)
theorem dA.UZ:∀ k,(∀ y0 y1 y2 y3 y4 y5 y6 y7 y8 y9,pE (dA.l0 k y0 y1 y2 y3 y4 y5 y6 y7 y8 y9) (dA.l0 (k+1) y0 y1 y2 y3 y4 y5 y6 y7 y8 y9))
 |0=>fun _ _ _ _ _ _ _ _ _ _ r h=>by simp [dA.l0] at h
 |k+1=>by
  have ih0:=dA.UZ k
  ·intro y0 y1 y2 y3 y4 y5 y6 y7 y8 y9
   unfold dA.l0
   repeat' first
   |(with_reducible exact ih0 _ _ _ _ _ _ _ _ _ _)
   |(with_reducible exact pE.refl _)
   |(with_reducible exact pE.none _)
   |(with_reducible refine pE.ite ?_ ?_)
   |(with_reducible refine pE.bind ?_ (fun _=>?_))
   |exact ih0 _ _ _ _ _ _ _ _ _ _
   |exact pE.none _
   |refine pE.ite ?_ ?_
   |refine pE.bind ?_ (fun _=>?_)
theorem dA.mono:∀ k,pE (dA.f k) (dA.f (k+1)):=by
 intro k
 have ih0:=dA.UZ k
 unfold dA.f
 repeat' first
  |(with_reducible exact ih0 _ _ _ _ _ _ _ _ _ _)
  |(with_reducible exact pE.refl _)
  |(with_reducible exact pE.none _)
  |(with_reducible refine pE.ite ?_ ?_)
  |(with_reducible refine pE.bind ?_ (fun _=>?_))
  |exact ih0 _ _ _ _ _ _ _ _ _ _
  |exact pE.none _
  |refine pE.ite ?_ ?_
  |refine pE.bind ?_ (fun _=>?_)
set_option maxHeartbeats 8000000 in
set_option maxRecDepth 100000 in
theorem dA.calls (k:Nat) (r1:Int) (r2:Int) (r3:Int) (r4:Int) (r5:Int) (r6:Int) (r7:Int) (r8:List Bool) (r9:List (rq)) (r10:Int) (r11:Int) (r12:Int) (r13:Int) (r14:Int) (r15:Int) (r16:Int) (w:World) (h:dA.f k = some (r1,r2,r3,r4,r5,r6,r7,r8,r9,r10,r11,r12,r13,r14,r15,r16)):
 Calls Try.prog 61 #[] w fun e w'=>∃ v7_ v8_:Value,e = .returned (.tuple #[.agg #[U Z r1,U Z r2,U Z r3,U Z r4,U Z r5,U Z r6,U Z r7,v7_,v8_],.agg #[U Z r10,U Z r11,U Z r12,U Z r13,U Z r14,U Z r15,U Z r16]])∧Kd.R Kd.bool 4 w' w.heap.size (fun _=>True) v7_ r8∧Kd.R GI 40 w' w.heap.size (fun _=>True) v8_ r9∧Below w.heap.size w w':=by
 have BV:=Try.underlying25
 have Br:=Try.underlying29
 have pz:=Try.underlying27
 have alz:=Try.underlying40
 have HB:=aa.mk (Below.refl w.heap.size w)
 have H:(if 16≤281474976710656 then (dA.l0 k 0 4 4 1000 10000 1 1 200 (List.replicate 16 false) ([]:List (rq))) else (none)) = some (r1,r2,r3,r4,r5,r6,r7,r8,r9,r10,r11,r12,r13,r14,r15,r16):=h
 clear h
 by_cases c1:16≤281474976710656
 ·rw [if_pos c1] at H
  have a1c:=eq_true c1
  have a1d:decide (16≤281474976710656) = true:=decide_eq_true c1
  clear c1
  obtain ⟨O1,adn⟩:∃ y_:List Bool,y_ = (List.replicate 16 false):=⟨_,rfl⟩
  replace H:(dA.l0 k 0 4 4 1000 10000 1 1 200 O1 ([]:List (rq))) = some (r1,r2,r3,r4,r5,r6,r7,r8,r9,r10,r11,r12,r13,r14,r15,r16):=by first|(rw [adn];with_reducible exact H)|(have Ji:=(Option.bind_some _ _).symm.trans H;rw [adn];with_reducible exact Ji)|(have Ji:=(Option.bind_some _ _).symm.trans H;with_reducible exact Ji)|with_reducible exact H|(rw [adn];exact H)|exact H
  have ax0:=aa.mk adn
  clear adn
  have H':=aa.mk H
  clear H
  go_enter Try.func61,Try.ntmps61
  go_wp2_with (first|((with_reducible refine aA (N:=0) rfl ?_);refine au (by rfl) (N:=0) (by rfl) (cs:=#[U Z 0,U Z 0,U Z 0,U Z 0,U Z 0,U Z 0,U Z 0,.slice none 0 0,.slice none 0 0]) (t:=25) fG ?_;intro vR hg w2 hbox hb;have zl:=aa.mk (hbox);have a5W:=bS HB hg;have a5X:=bS HB hg;replace HB:=cO HB hb;clear hb hbox hg)|((with_reducible refine aA (N:=1) rfl ?_);refine au (by rfl) (N:=1) (by rfl) (cs:=#[U Z 0,U Z 0,U Z 0,U Z 0,U Z 0,U Z 0,U Z 0]) (t:=29) fG ?_;intro BJ hg w3 hbox hb;have E8:=aa.mk (hbox);have a5Y:=bS HB hg;have a5Z:=bS HB hg;have xn:=eQ zl hg;have sK:=eT zl hg;replace zl:=aX zl hb;replace HB:=cO HB hb;clear hb hbox hg)|((with_reducible refine aA (N:=4) rfl ?_);refine Kd.ax6 Kd.bool _ 4 rfl (N:=4) rfl 22 _ _ rfl 16 rfl rfl Try.underlying22 (.bool false) 1 aGM rfl (by decide) (by omega) false (ok:=fun _=>True) (okp:=fun _=>True) rfl (fun _ hk=>hk) trivial (by omega) (by omega) (Below.refl _ _) (Nat.le_refl _) ?_;intro a9d w4 ho5 hb M4 pW;clear M4 pW;(first|rw [← ax0.out] at ho5|(simp only [Int.reduceToNat] at ho5;rw [← ax0.out] at ho5));have ajL:=aa.mk (Kd.lX ho5 (iq gL));replace zl:=aX zl hb;replace E8:=aX E8 hb;replace HB:=cO HB hb;clear hb ho5;obtain ⟨Ao6,co6,eo6⟩:=Kd.nR ajL.out;subst eo6)|((with_reducible refine aA (N:=2) rfl ?_);refine au (by rfl) (N:=2) (by rfl) (cs:=#[U Z 0,U Z 0,U Z 0,U Z 0,U Z 0,U Z 0,U Z 0,.slice none 0 0,.slice none 0 0]) (t:=25) fG ?_;intro Gz hg w7 hbox hb;have GA:=aa.mk (hbox);have a6a:=bS HB hg;have a6b:=bS HB hg;have Qw:=eQ zl hg;have Qx:=eT zl hg;have Qy:=eQ E8 hg;have Qz:=eT E8 hg;replace ajL:=zt ajL hb;replace zl:=aX zl hb;replace E8:=aX E8 hb;replace HB:=cO HB hb;clear hb hbox hg;have abB:=Qx.out;have abC:=Qw.out;have aqJ:=Qz.out;have aqK:=Qy.out;obtain ⟨sV,sW,JQ,JR,Xz,XA,XB,afU,afV,sZ,tq,JS,JU,XC,XD,XE,afW,afX⟩:=jA GA.out))
  go_loopg [3] k (fun kq v3 w'=>∃ (ado:Int) (u7:List (rq)) (Lc:Value),v3 = U Z ado∧aa (dA.l0 kq ado 4 4 1000 10000 1 1 200 O1 u7 = some (r1,r2,r3,r4,r5,r6,r7,r8,r9,r10,r11,r12,r13,r14,r15,r16))∧aa (kq≤k)∧aa (Kd.R Kd.bool 4 w' w.heap.size (fun _=>True) (.slice Ao6 O1.length co6) O1)∧aa (Kd.R GI 40 w' w.heap.size (fun _=>True) Lc u7)∧aa (w'.heap[vR]? = some (.cells #[U Z 0,U Z 0,U Z 0,U Z 0,U Z 0,U Z 0,U Z 0,(.slice none 0 0),(.slice none 0 0)] 25 (0,0)))∧aa (w'.heap[BJ]? = some (.cells #[U Z 0,U Z 0,U Z 0,U Z 0,U Z 0,U Z 0,U Z 0] 29 (0,0)))∧aa (w'.heap[Gz]? = some (.cells #[U Z 4,U Z 4,U Z 1000,U Z 10000,U Z 1,U Z 1,U Z 200,(.slice Ao6 O1.length co6),Lc] 25 (0,0)))∧aa (Below w.heap.size w w'))
  case atStart=>exact ⟨(0),(([]:List (rq))),(.slice none 0 0),nM,H',⟨Nat.le_refl _⟩,⟨by (with_reducible repeat (first|apply Kd.mY|apply Kd.mZ|apply Kd.mg));exact Kd.mM (Kd.fA (p:=⟨Gz,8,none⟩) (Kd.fA (p:=⟨Gz,7,none⟩) (Kd.fA (p:=⟨Gz,6,none⟩) (Kd.fA (p:=⟨Gz,5,none⟩) (Kd.fA (p:=⟨Gz,4,none⟩) (Kd.fA (p:=⟨Gz,3,none⟩) (Kd.fA (p:=⟨Gz,2,none⟩) (Kd.fA (p:=⟨Gz,1,none⟩) (Kd.fA (p:=⟨Gz,0,none⟩) (Kd.tZ ajL.out GA.out (by decide)) (fun _ hk=>hk.2) (U Z 4)) (fun _ hk=>hk.2) (U Z 4)) (fun _ hk=>hk.2) (U Z 1000)) (fun _ hk=>hk.2) (U Z 10000)) (fun _ hk=>hk.2) (U Z 1)) (fun _ hk=>hk.2) (U Z 1)) (fun _ hk=>hk.2) (U Z 200)) (fun _ hk=>hk.2) (.slice Ao6 O1.length co6)) (fun _ hk=>hk.2) (.slice none 0 0)) (fun _ hk=>trivial)⟩,⟨anu⟩,⟨gB⟩,⟨gB⟩,⟨by (with_reducible repeat (first|refine av ?_ _|refine ag ?_|refine af ?_ _));refine aN (cs:=#[U Z 4,U Z 4,U Z 1000,U Z 10000,U Z 1,U Z 1,U Z 200,.slice Ao6 O1.length co6,.slice none 0 0]) ?_ 8 _ rfl;(with_reducible repeat (first|refine av ?_ _|refine ag ?_|refine af ?_ _));refine aN (cs:=#[U Z 4,U Z 4,U Z 1000,U Z 10000,U Z 1,U Z 1,U Z 200,.slice none 0 0,.slice none 0 0]) ?_ 7 _ rfl;(with_reducible repeat (first|refine av ?_ _|refine ag ?_|refine af ?_ _));refine aN (cs:=#[U Z 4,U Z 4,U Z 1000,U Z 10000,U Z 1,U Z 1,U Z 0,.slice none 0 0,.slice none 0 0]) ?_ 6 _ rfl;(with_reducible repeat (first|refine av ?_ _|refine ag ?_|refine af ?_ _));refine aN (cs:=#[U Z 4,U Z 4,U Z 1000,U Z 10000,U Z 1,U Z 0,U Z 0,.slice none 0 0,.slice none 0 0]) ?_ 5 _ rfl;(with_reducible repeat (first|refine av ?_ _|refine ag ?_|refine af ?_ _));refine aN (cs:=#[U Z 4,U Z 4,U Z 1000,U Z 10000,U Z 0,U Z 0,U Z 0,.slice none 0 0,.slice none 0 0]) ?_ 4 _ rfl;(with_reducible repeat (first|refine av ?_ _|refine ag ?_|refine af ?_ _));refine aN (cs:=#[U Z 4,U Z 4,U Z 1000,U Z 0,U Z 0,U Z 0,U Z 0,.slice none 0 0,.slice none 0 0]) ?_ 3 _ rfl;(with_reducible repeat (first|refine av ?_ _|refine ag ?_|refine af ?_ _));refine aN (cs:=#[U Z 4,U Z 4,U Z 0,U Z 0,U Z 0,U Z 0,U Z 0,.slice none 0 0,.slice none 0 0]) ?_ 2 _ rfl;(with_reducible repeat (first|refine av ?_ _|refine ag ?_|refine af ?_ _));refine aN (cs:=#[U Z 4,U Z 0,U Z 0,U Z 0,U Z 0,U Z 0,U Z 0,.slice none 0 0,.slice none 0 0]) ?_ 1 _ rfl;(with_reducible repeat (first|refine av ?_ _|refine ag ?_|refine af ?_ _));refine aN (cs:=#[U Z 0,U Z 0,U Z 0,U Z 0,U Z 0,U Z 0,U Z 0,.slice none 0 0,.slice none 0 0]) ?_ 0 _ rfl;(with_reducible repeat (first|refine av ?_ _|refine ag ?_|refine af ?_ _));exact GA.out⟩,⟨gL⟩⟩
  case round =>
   clear H'
   try clear c1
   try clear a1c
   try clear a1d
   try clear p2
   try clear c6
   try clear c8
   try clear c9
   try clear sV sW JQ JR Xz XA XB afU afV sZ tq JS JU XC XD XE afW afX
   obtain ⟨ado,u7,Lc,rfl,HA,JP,GD,Ah,zl,E8,GA,HB⟩:=hrel
   cases gk with
   |zero=>exact absurd HA.out (by simp [dA.l0])
   |succ k1 =>
    have H:=HA.out
    clear HA
    simp only [dA.l0] at H
    by_cases c11:ado < 16
    ·rw [if_pos c11] at H
     have Jj:decide (ado < 16) = true:=decide_eq_true c11
     clear c11
     by_cases c12:u7.length < 4398046511104
     ·rw [if_pos c12] at H
      have aOt:=aa.mk c12
      clear c12
      obtain ⟨apB,adp⟩:∃ y_:List (rq),y_ = (u7++[(⟨(⟨(-100),100⟩:ky),(⟨0,0⟩:ky)⟩:rq)]):=⟨_,rfl⟩
      replace H:(dA.l0 k1 (wrap64 (ado+1)) 4 4 1000 10000 1 1 200 O1 apB) = some (r1,r2,r3,r4,r5,r6,r7,r8,r9,r10,r11,r12,r13,r14,r15,r16):=by first|(rw [adp];with_reducible exact H)|(have Ji:=(Option.bind_some _ _).symm.trans H;rw [adp];with_reducible exact Ji)|(have Ji:=(Option.bind_some _ _).symm.trans H;with_reducible exact Ji)|with_reducible exact H|(rw [adp];exact H)|exact H
      have aOu:=aa.mk adp
      clear adp
      have H':=aa.mk H
      clear H
      have aaP:=Qx.out
      have aaQ:=Qw.out
      have afS:=Qz.out
      have afT:=Qy.out
      obtain ⟨oL,oM,sP,sQ,uC,uD,AV,Cw,Cx,oN,oO,sS,sU,uE,uF,AX,Cy,Cz⟩:=jA GA.out
      go_wp2_with (first|((with_reducible refine yG (b:=.append) (xs:=#[.tmp 11,.tmp 14]) rfl ?_);at_builtin;refine Kd.Je GI (w0:=w) w.heap.size rfl (.tmp 11) (.tmp 14) 23 40 (.agg #[(U Z 0),(U Z 0),(U Z 0),(U Z 0)]) 32 rfl Try.underlying23 az1 rfl (by decide) (by omega) Lc u7 (⟨(⟨(-100),100⟩:ky),(⟨0,0⟩:ky)⟩:rq) [U Z (-100),U Z 100,U Z 0,U Z 0] (fun _=>True) (fun _=>False) rfl rfl ?aP (fun _ hk=>hk.elim) ?aF ?aO ?aB ?aS ?aL ?_;(case aP=>exact au0 _ _ _ (⟨(⟨(-100),100⟩:ky),(⟨0,0⟩:ky)⟩:rq));(case aB=>exact gL);(case aF=>exact (fun _ _=>trivial));(case aO=>exact aGJ);(case aS=>exact (iq gL));(case aL=>have:=aOt.out;omega);intro a9f w16 ho hb hg hat;rw [← aOu.out] at ho;have vD:=aa.mk (Kd.apQ (by (with_reducible repeat (first|apply Kd.mY|apply Kd.mZ|apply Kd.mg));exact GD.out) (Kd.apP aGJ) (by decide) hg);have vE:=aa.mk (oz (g:=vR) (o:=.cells #[U Z 0,U Z 0,U Z 0,U Z 0,U Z 0,U Z 0,U Z 0,.slice none 0 0,.slice none 0 0] 25 (0,0)) gB hg (Kd.adz Ah.out zl.out (by decide)));have vF:=aa.mk (oz (g:=BJ) (o:=.cells #[U Z 0,U Z 0,U Z 0,U Z 0,U Z 0,U Z 0,U Z 0] 29 (0,0)) gB hg (Kd.adz Ah.out E8.out (by decide)));have vG:=aa.mk (oz (g:=Gz) (o:=.cells #[U Z 4,U Z 4,U Z 1000,U Z 10000,U Z 1,U Z 1,U Z 200,.slice Ao6 O1.length co6,Lc] 25 (0,0)) gB hg (Kd.adz Ah.out GA.out (by decide)));have vY:=aa.mk (hb);have BP:=aa.mk (ho);clear GD;clear zl;clear E8;clear GA;clear HB;clear Ah;have GD:=vD;have zl:=vE;have E8:=vF;have GA:=vG;have HB:=vY;have ax1:=BP;clear vD vE vF vG vY BP;clear ho hb hg hat;obtain ⟨aAC,aAD,a1e⟩:=Kd.nR ax1.out;subst a1e;obtain ⟨Ee,Ef,RD,RF,asu,asv,asw,asx,asy,Eg,Eh,RG,RH,asz,asA,asB,asC,asD⟩:=jA GA.out))
      go_roundg k1
      case measure=>have:=JP.out;omega
      case rel=>exact ⟨(wrap64 (ado+1)),(apB),(.slice aAC apB.length aAD),nM,H',⟨Mi⟩,⟨by (with_reducible repeat (first|apply Kd.mY|apply Kd.mZ|apply Kd.mg));exact Kd.mM (Kd.fA (p:=⟨Gz,8,none⟩) (Kd.tZ GD.out GA.out (by decide)) (fun _ hk=>hk.2) (.slice aAC apB.length aAD)) (fun _ hk=>trivial)⟩,⟨by (with_reducible repeat (first|apply Kd.mY|apply Kd.mZ|apply Kd.mg));exact Kd.mM (Kd.fA (p:=⟨Gz,8,none⟩) (Kd.tZ ax1.out GA.out (by decide)) (fun _ hk=>hk.2) (.slice aAC apB.length aAD)) (fun _ hk=>trivial)⟩,⟨gB⟩,⟨gB⟩,⟨by (with_reducible repeat (first|refine av ?_ _|refine ag ?_|refine af ?_ _));refine aN (cs:=#[U Z 4,U Z 4,U Z 1000,U Z 10000,U Z 1,U Z 1,U Z 200,.slice Ao6 O1.length co6,Lc]) ?_ 8 _ rfl;(with_reducible repeat (first|refine av ?_ _|refine ag ?_|refine af ?_ _));exact GA.out⟩,⟨gL⟩⟩
     ·rw [if_neg c12] at H
      exact absurd H (by simp)
    ·rw [if_neg c11] at H
     have Jj:decide (ado < 16) = false:=decide_eq_false c11
     clear c11
     simp only [Option.some.injEq,Prod.mk.injEq] at H
     obtain ⟨rfl,rfl,rfl,rfl,rfl,rfl,rfl,rfl,rfl,rfl,rfl,rfl,rfl,rfl,rfl,rfl⟩:=H
     have QL:=Qx.out
     have QM:=Qw.out
     have anB:=Qz.out
     have anC:=Qy.out
     obtain ⟨xO,xP,Kz,KA,KC,KD,KE,Tn,Tp,xQ,xR,KF,KG,KH,KI,KJ,Tq,Tt⟩:=jA GA.out
     have V9:=xn.out
     have Wd:=sK.out
     obtain ⟨Ce,Cf,Ip,Iq,Ir,Iu,KL,Om,Oo,Cg,Ch,Iw,Iy,Iz,IA,KM,Oq,Ot⟩:=jA zl.out
     obtain ⟨aAE,aAF,a1f⟩:=Kd.nR Ah.out
     subst a1f
     obtain ⟨Bc,Bd,Ez,EA,Kr,Kt,Ku,Be,Bf,EB,EC,Kv,Kw,Ky⟩:=jF E8.out
     go_wp2
     refine bodyPost_ret (ady rfl _ _ vR BJ 25 29 #[U Z 4,U Z 4,U Z 1000,U Z 10000,U Z 1,U Z 1,U Z 200,.slice Ao6 O1.length co6,.slice aAE u7.length aAF] #[U Z 300,U Z 1000,U Z 50,U Z 60,U Z 5,U Z 6,U Z 100] (0,0) (0,0) _ _ rfl (by (with_reducible repeat (first|refine av ?_ _|refine ag ?_|refine af ?_ _));refine aV ?_ xn.out _;(with_reducible repeat (first|refine av ?_ _|refine ag ?_|refine af ?_ _));refine aV ?_ xn.out _;(with_reducible repeat (first|refine av ?_ _|refine ag ?_|refine af ?_ _));refine aV ?_ xn.out _;(with_reducible repeat (first|refine av ?_ _|refine ag ?_|refine af ?_ _));refine aV ?_ xn.out _;(with_reducible repeat (first|refine av ?_ _|refine ag ?_|refine af ?_ _));refine aV ?_ xn.out _;(with_reducible repeat (first|refine av ?_ _|refine ag ?_|refine af ?_ _));refine aV ?_ xn.out _;(with_reducible repeat (first|refine av ?_ _|refine ag ?_|refine af ?_ _));refine aV ?_ xn.out _;(with_reducible repeat (first|refine av ?_ _|refine ag ?_|refine af ?_ _));refine aN (cs:=#[U Z 4,U Z 4,U Z 1000,U Z 10000,U Z 1,U Z 1,U Z 200,.slice Ao6 O1.length co6,.slice none 0 0]) ?_ 8 _ rfl;(with_reducible repeat (first|refine av ?_ _|refine ag ?_|refine af ?_ _));refine aN (cs:=#[U Z 4,U Z 4,U Z 1000,U Z 10000,U Z 1,U Z 1,U Z 200,.slice none 0 0,.slice none 0 0]) ?_ 7 _ rfl;(with_reducible repeat (first|refine av ?_ _|refine ag ?_|refine af ?_ _));refine aN (cs:=#[U Z 4,U Z 4,U Z 1000,U Z 10000,U Z 1,U Z 1,U Z 0,.slice none 0 0,.slice none 0 0]) ?_ 6 _ rfl;(with_reducible repeat (first|refine av ?_ _|refine ag ?_|refine af ?_ _));refine aN (cs:=#[U Z 4,U Z 4,U Z 1000,U Z 10000,U Z 1,U Z 0,U Z 0,.slice none 0 0,.slice none 0 0]) ?_ 5 _ rfl;(with_reducible repeat (first|refine av ?_ _|refine ag ?_|refine af ?_ _));refine aN (cs:=#[U Z 4,U Z 4,U Z 1000,U Z 10000,U Z 0,U Z 0,U Z 0,.slice none 0 0,.slice none 0 0]) ?_ 4 _ rfl;(with_reducible repeat (first|refine av ?_ _|refine ag ?_|refine af ?_ _));refine aN (cs:=#[U Z 4,U Z 4,U Z 1000,U Z 0,U Z 0,U Z 0,U Z 0,.slice none 0 0,.slice none 0 0]) ?_ 3 _ rfl;(with_reducible repeat (first|refine av ?_ _|refine ag ?_|refine af ?_ _));refine aN (cs:=#[U Z 4,U Z 4,U Z 0,U Z 0,U Z 0,U Z 0,U Z 0,.slice none 0 0,.slice none 0 0]) ?_ 2 _ rfl;(with_reducible repeat (first|refine av ?_ _|refine ag ?_|refine af ?_ _));refine aN (cs:=#[U Z 4,U Z 0,U Z 0,U Z 0,U Z 0,U Z 0,U Z 0,.slice none 0 0,.slice none 0 0]) ?_ 1 _ rfl;(with_reducible repeat (first|refine av ?_ _|refine ag ?_|refine af ?_ _));refine aN (cs:=#[U Z 0,U Z 0,U Z 0,U Z 0,U Z 0,U Z 0,U Z 0,.slice none 0 0,.slice none 0 0]) ?_ 0 _ rfl;(with_reducible repeat (first|refine av ?_ _|refine ag ?_|refine af ?_ _));exact zl.out) Try.underlying25 rfl aM rfl (by (with_reducible repeat (first|refine av ?_ _|refine ag ?_|refine af ?_ _));refine aN (cs:=#[U Z 300,U Z 1000,U Z 50,U Z 60,U Z 5,U Z 6,U Z 0]) ?_ 6 _ rfl;(with_reducible repeat (first|refine av ?_ _|refine ag ?_|refine af ?_ _));refine aN (cs:=#[U Z 300,U Z 1000,U Z 50,U Z 60,U Z 5,U Z 0,U Z 0]) ?_ 5 _ rfl;(with_reducible repeat (first|refine av ?_ _|refine ag ?_|refine af ?_ _));refine aN (cs:=#[U Z 300,U Z 1000,U Z 50,U Z 60,U Z 0,U Z 0,U Z 0]) ?_ 4 _ rfl;(with_reducible repeat (first|refine av ?_ _|refine ag ?_|refine af ?_ _));refine aN (cs:=#[U Z 300,U Z 1000,U Z 50,U Z 0,U Z 0,U Z 0,U Z 0]) ?_ 3 _ rfl;(with_reducible repeat (first|refine av ?_ _|refine ag ?_|refine af ?_ _));refine aN (cs:=#[U Z 300,U Z 1000,U Z 0,U Z 0,U Z 0,U Z 0,U Z 0]) ?_ 2 _ rfl;(with_reducible repeat (first|refine av ?_ _|refine ag ?_|refine af ?_ _));refine aN (cs:=#[U Z 300,U Z 0,U Z 0,U Z 0,U Z 0,U Z 0,U Z 0]) ?_ 1 _ rfl;(with_reducible repeat (first|refine av ?_ _|refine ag ?_|refine af ?_ _));refine aN (cs:=#[U Z 0,U Z 0,U Z 0,U Z 0,U Z 0,U Z 0,U Z 0]) ?_ 0 _ rfl;(with_reducible repeat (first|refine av ?_ _|refine ag ?_|refine af ?_ _));refine aV ?_ sK.out _;(with_reducible repeat (first|refine av ?_ _|refine ag ?_|refine af ?_ _));refine aV ?_ sK.out _;(with_reducible repeat (first|refine av ?_ _|refine ag ?_|refine af ?_ _));refine aV ?_ sK.out _;(with_reducible repeat (first|refine av ?_ _|refine ag ?_|refine af ?_ _));refine aV ?_ sK.out _;(with_reducible repeat (first|refine av ?_ _|refine ag ?_|refine af ?_ _));refine aV ?_ sK.out _;(with_reducible repeat (first|refine av ?_ _|refine ag ?_|refine af ?_ _));refine aV ?_ sK.out _;(with_reducible repeat (first|refine av ?_ _|refine ag ?_|refine af ?_ _));refine aV ?_ sK.out _;(with_reducible repeat (first|refine av ?_ _|refine ag ?_|refine af ?_ _));refine aV ?_ sK.out _;(with_reducible repeat (first|refine av ?_ _|refine ag ?_|refine af ?_ _));refine aV ?_ sK.out _;(with_reducible repeat (first|refine av ?_ _|refine ag ?_|refine af ?_ _));exact E8.out) Try.underlying29 rfl aM) rfl ?_
     exact ⟨_,_,lW,by (with_reducible repeat (first|apply Kd.mY|apply Kd.mZ|apply Kd.mg));exact Kd.mM (Kd.fA (p:=⟨BJ,6,none⟩) (Kd.fA (p:=⟨BJ,5,none⟩) (Kd.fA (p:=⟨BJ,4,none⟩) (Kd.fA (p:=⟨BJ,3,none⟩) (Kd.fA (p:=⟨BJ,2,none⟩) (Kd.fA (p:=⟨BJ,1,none⟩) (Kd.fA (p:=⟨BJ,0,none⟩) (Kd.fA (p:=⟨vR,8,none⟩) (Kd.fA (p:=⟨vR,7,none⟩) (Kd.fA (p:=⟨vR,6,none⟩) (Kd.fA (p:=⟨vR,5,none⟩) (Kd.fA (p:=⟨vR,4,none⟩) (Kd.fA (p:=⟨vR,3,none⟩) (Kd.fA (p:=⟨vR,2,none⟩) (Kd.fA (p:=⟨vR,1,none⟩) (Kd.fA (p:=⟨vR,0,none⟩) (Kd.tZ (Kd.tZ GD.out zl.out (by decide)) E8.out (by decide)) (fun _ hk=>hk.1.2) (U Z 4)) (fun _ hk=>hk.1.2) (U Z 4)) (fun _ hk=>hk.1.2) (U Z 1000)) (fun _ hk=>hk.1.2) (U Z 10000)) (fun _ hk=>hk.1.2) (U Z 1)) (fun _ hk=>hk.1.2) (U Z 1)) (fun _ hk=>hk.1.2) (U Z 200)) (fun _ hk=>hk.1.2) (.slice Ao6 O1.length co6)) (fun _ hk=>hk.1.2) (.slice aAE u7.length aAF)) (fun _ hk=>hk.2) (U Z 300)) (fun _ hk=>hk.2) (U Z 1000)) (fun _ hk=>hk.2) (U Z 50)) (fun _ hk=>hk.2) (U Z 60)) (fun _ hk=>hk.2) (U Z 5)) (fun _ hk=>hk.2) (U Z 6)) (fun _ hk=>hk.2) (U Z 100)) (fun _ hk=>trivial),by (with_reducible repeat (first|apply Kd.mY|apply Kd.mZ|apply Kd.mg));exact Kd.mM (Kd.fA (p:=⟨BJ,6,none⟩) (Kd.fA (p:=⟨BJ,5,none⟩) (Kd.fA (p:=⟨BJ,4,none⟩) (Kd.fA (p:=⟨BJ,3,none⟩) (Kd.fA (p:=⟨BJ,2,none⟩) (Kd.fA (p:=⟨BJ,1,none⟩) (Kd.fA (p:=⟨BJ,0,none⟩) (Kd.fA (p:=⟨vR,8,none⟩) (Kd.fA (p:=⟨vR,7,none⟩) (Kd.fA (p:=⟨vR,6,none⟩) (Kd.fA (p:=⟨vR,5,none⟩) (Kd.fA (p:=⟨vR,4,none⟩) (Kd.fA (p:=⟨vR,3,none⟩) (Kd.fA (p:=⟨vR,2,none⟩) (Kd.fA (p:=⟨vR,1,none⟩) (Kd.fA (p:=⟨vR,0,none⟩) (Kd.tZ (Kd.tZ Ah.out zl.out (by decide)) E8.out (by decide)) (fun _ hk=>hk.1.2) (U Z 4)) (fun _ hk=>hk.1.2) (U Z 4)) (fun _ hk=>hk.1.2) (U Z 1000)) (fun _ hk=>hk.1.2) (U Z 10000)) (fun _ hk=>hk.1.2) (U Z 1)) (fun _ hk=>hk.1.2) (U Z 1)) (fun _ hk=>hk.1.2) (U Z 200)) (fun _ hk=>hk.1.2) (.slice Ao6 O1.length co6)) (fun _ hk=>hk.1.2) (.slice aAE u7.length aAF)) (fun _ hk=>hk.2) (U Z 300)) (fun _ hk=>hk.2) (U Z 1000)) (fun _ hk=>hk.2) (U Z 50)) (fun _ hk=>hk.2) (U Z 60)) (fun _ hk=>hk.2) (U Z 5)) (fun _ hk=>hk.2) (U Z 6)) (fun _ hk=>hk.2) (U Z 100)) (fun _ hk=>trivial),gL⟩
 ·rw [if_neg c1] at H
  exact absurd H (by simp)
def mF.f (a0:Int) (a1:Int):Option (Int × Int × Int × Int):=some (a0,a0,a1,a1)
set_option maxHeartbeats 8000000 in
set_option maxRecDepth 100000 in
theorem mF.calls (a0:Int) (a1:Int) (r1:Int) (r2:Int) (r3:Int) (r4:Int) (w:World) (h:mF.f a0 a1 = some (r1,r2,r3,r4)):
 Calls Try.prog 62 #[U Z a0,U Z a1] w fun e w'=>e = .returned (.agg #[U Z r1,U Z r2,U Z r3,U Z r4])∧Below w.heap.size w w':=by
 have rO:=Try.underlying31
 have pz:=Try.underlying27
 have HB:=aa.mk (Below.refl w.heap.size w)
 have H:(some (a0,a0,a1,a1)) = some (r1,r2,r3,r4):=h
 clear h
 simp only [Option.some.injEq,Prod.mk.injEq] at H
 obtain ⟨rfl,rfl,rfl,rfl⟩:=H
 go_enter Try.func62,Try.ntmps62
 go_wp2_with (first|((with_reducible refine aA (N:=4) rfl ?_);refine au (by rfl) (N:=4) (by rfl) (cs:=#[U Z 0,U Z 0,U Z 0,U Z 0]) (t:=31) fG ?_;intro aOv hg w3 hbox hb;have ax2:=aa.mk (hbox);have a6c:=bS HB hg;have a6d:=bS HB hg;replace HB:=cO HB hb;clear hb hbox hg;obtain ⟨Xk,Xl,an4,an5,Xm,Xn,an6,an7⟩:=jc ax2.out))
 refine bodyPost_ret (results_cell_row rfl _ _ aOv 31 #[U Z a0,U Z a0,U Z a1,U Z a1] (0,0) _ rfl (by (with_reducible repeat (first|refine av ?_ _|refine ag ?_|refine af ?_ _));refine aN (cs:=#[U Z a0,U Z a0,U Z a1,U Z 0]) ?_ 3 _ rfl;(with_reducible repeat (first|refine av ?_ _|refine ag ?_|refine af ?_ _));refine aN (cs:=#[U Z a0,U Z a0,U Z 0,U Z 0]) ?_ 2 _ rfl;(with_reducible repeat (first|refine av ?_ _|refine ag ?_|refine af ?_ _));refine aN (cs:=#[U Z a0,U Z 0,U Z 0,U Z 0]) ?_ 1 _ rfl;(with_reducible repeat (first|refine av ?_ _|refine ag ?_|refine af ?_ _));refine aN (cs:=#[U Z 0,U Z 0,U Z 0,U Z 0]) ?_ 0 _ rfl;(with_reducible repeat (first|refine av ?_ _|refine ag ?_|refine af ?_ _));exact ax2.out) Try.underlying31 rfl aM) rfl ?_
 exact ⟨lW,gL⟩
end Go.Proofs.Ytmhaiihjfgfaoaa.Pr
end
section
namespace Go.Proofs.YtmhaiihjfgfaoaaW.Round
open Go.RowKit Go.Proofs.YtmhaiihjfgfaoaaW.PrintWords Go.Proofs.YtmhaiihjfgfaoaaW.PrintLast
section
variable {P:Program} {n l:Nat}
theorem afg {o:Oper} {a:Act} {w:World} {K:Act→World→Prop} {Q:Exit→Act→World→Prop} (hd:∀ c,o.op≠.defer c) (h:o.wp P a w K Q):o.wpIn (Fence.wide.inRound l) n P a w K Q:=by
 refine ⟨fun _ _=>trivial,?_⟩
 rw [Oper.semAt_eq _ _ _ hd]
 unfold Oper.wp at h
 generalize (execOp a.eval o).run P w = r at h
 cases r with
 |ok x w' =>
  cases x with
  |value v=>exact h
  |skip=>exact h
  |defer d=>exact h
  |enter f args=>exact ⟨fun h0=>(by cases h0),CallsIn.inRound l (callsIn_wide.2 h)⟩
  |row row args=>exact ⟨fun h0=>(by cases h0),fun c cs _=>by obtain ⟨v,w2,r,s⟩:=h c cs;exact ⟨v,w2,r,stepsIn_wide.2 s⟩⟩
  |_=>exact h.elim
 |halt x w' =>
  cases x with
  |panic v=>exact h
  |_=>exact h.elim
def TA (ops:Array Oper):Bool:=ops.all fun o=>match o.op with|.defer _=>false|_=>true
theorem adq {ops:Array Oper} (h:TA ops = true) {i:Nat} {o:Oper} (ho:ops[i]? = some o):∀ c,o.op≠.defer c:=by
 intro c e
 unfold TA at h
 rw [Array.all_eq_true] at h
 obtain ⟨hi,he⟩:=Array.getElem?_eq_some_iff.1 ho
 have:=h i hi
 rw [he,e] at this
 simp at this
theorem E9 {ops:Array Oper} {Q:Exit→Act→World→Prop} {md:Region.Mode} (hn:TA ops = true) (hQ:¬ LetsOut Q):∀ (fuel:Nat) (listed:Array Bool) (a:Act) (w:World),
 wpAny P md ops Q fuel listed a w→wpAnyIn (Fence.wide.inRound l) n P md ops Q fuel listed a w
 |0,_,_,_,h=>h
 |fuel+1,listed,a,w,h=>by
  refine ⟨h.1,fun i hi=>?_⟩
  have h1:=h.2 i hi
  unfold wpOp at h1
  unfold wpOpIn
  cases ho:ops[i]? with
  |none =>
   rw [ho] at h1
   exact E9 hn hQ fuel _ _ _ h1
  |some o =>
   rw [ho] at h1
   dsimp only at h1 ⊢
   split at h1
   ·rename_i hw
    rw [if_pos hw]
    rcases h1 with h1|⟨_,h1⟩
    ·exact Oper.wpIn_mono (fun a w h=>E9 hn hQ fuel _ a w h) (afg (adq hn ho) h1)
    ·exact absurd h1 hQ
   ·rename_i hw
    rw [if_neg hw]
    exact ⟨fun _ _=>trivial,E9 hn hQ fuel _ _ _ h1⟩
theorem WY {α:Type} {B:Nat} {Kp:World→World→Prop} {I:List α→World→Prop} {Ix:Code→List α→World→Prop} {xs:List α} {W:World}:¬ LetsOut (ownPostG B Kp I Ix xs W):=fun ⟨_,_,h⟩=>h
theorem Q6 {id:Nat} {Q:Exit→Act→World→Prop} (h:¬ LetsOut Q):¬ LetsOut (Exit.inBlock id Q):=fun ⟨a,w,h1⟩=>h ⟨a,w,h1⟩
theorem WX {K:Act→World→Prop} {Q:Exit→Act→World→Prop} (h:¬ LetsOut Q):¬ LetsOut (Exit.then K Q):=fun ⟨a,w,h1⟩=>h ⟨a,w,h1⟩
theorem alW {ops:Array Oper} {Q:Exit→Act→World→Prop} {S:World→Prop} {ds:List Nat} {id m:Nat} {a:Act} {w:World} (lit:Array Bool) (hd:TA ops = true) (hQ:¬ LetsOut Q) (hm:P.follows .mixedOrders = true) (hn:ops.size = m) (hl:Array.replicate m false = lit) (hS:S w.drew)
 (h:S w.drew→fF P .any ops Q S ds m lit a w.drew):(Code.region id ops true).wpIn (Fence.wide.inRound l) n P Q a w:=by
 subst hn
 subst hl
 exact wpIn_region_any hm (E9 hd hQ _ _ _ _ (Fq _ _ _ _ (h hS)))
def ax3 (K:Act→World→Prop):Exit→Act→World→Prop
 |.normal,a,w=>K a w
 |_,_,_=>False
theorem GK {Q:Exit→Act→World→Prop} {a:Act} {w:World} (h:Q .normal a w):ax3 (Q .normal) .normal a w:=h
theorem O8 {F:Fence} {c:Code} {Q:Exit→Act→World→Prop} {a:Act} {w:World} (h:c.wpIn F n P (ax3 (Q .normal)) a w):c.wpIn F n P Q a w:=wpIn_mono h (fun e a w h=>by cases e <;> first|exact h|exact h.elim)
end
end Go.Proofs.YtmhaiihjfgfaoaaW.Round
end
section
namespace Go.Proofs.Ytmhaiihjfgfaoaa.Gl
open Go.RowKit Go.Shelf Go.Proofs.YtmhaiihjfgfaoaaW.PrintWords Go.Proofs.YtmhaiihjfgfaoaaW.PrintLast Go.Proofs.YtmhaiihjfgfaoaaW.PrintMore Go.Proofs.Ytmhaiihjfgfaoaa.Pr Go.Proofs.YtmhaiihjfgfaoaaW.Round
set_option linter.unusedVariables false
set_option linter.unusedSimpArgs false
attribute [local go_sem] gp gq iA iB gu
structure oJ where
 nx:Int
 ny:Int
 cell:Int
 slot:Int
 slots:Int
 layers:Int
 most:Int
 shores:List Bool
 currents:List rq
structure tF where
 speed:Int
 dive:Int
 use:ky
 drift:ky
 reserve:Int
def jh (W:World) (b:Nat) (c:Array Value) (t:TypeId):Prop:=W.heap[b]? = some (.cells c t (0,0))
theorem jh.below {W W1:World} {b:Nat} {c:Array Value} {t:TypeId} (h:jh W b c t) (hb:Below W.heap.size W W1):jh W1 b c t:=(hb.block b (Array.getElem?_eq_some_iff.1 h).1).trans h
def zn (v:Value) (w:World) (e:Ending) (w':World):Prop:=e = .returned v∧Below w.heap.size w w'
def nX (W:World) (b:Nat) (s:oJ) (v:tF):Prop:=∃ A7 c7 A8 c8,jh W b #[U Z s.nx,U Z s.ny,U Z s.cell,U Z s.slot,U Z s.slots,U Z s.layers,U Z s.most,.slice A7 s.shores.length c7,.slice A8 s.currents.length c8,U Z v.speed,U Z v.dive,U Z v.use.f0,U Z v.use.f1,U Z v.drift.f0,U Z v.drift.f1,U Z v.reserve] 110∧s.shores.length≤c7∧Kd.C Kd.bool W A7 s.shores.length s.shores∧s.currents.length≤c8∧Kd.C GI W A8 s.currents.length s.currents
theorem nX.below {W W1:World} {b:Nat} {s:oJ} {v:tF} (h:nX W b s v) (hb:Below W.heap.size W W1):nX W1 b s v:=by
 obtain ⟨A7,c7,A8,c8,h1,h2,h3,h4,h5⟩:=h
 exact ⟨A7,c7,A8,c8,h1.below hb,h2,Kd.bB h3 hb,h4,Kd.bB h5 hb⟩
structure BX (s:oJ):Prop where
 nx:1≤s.nx∧s.nx≤12
 ny:1≤s.ny∧s.ny≤12
 cell:100≤s.cell∧s.cell≤65536
 slot:1≤s.slot∧s.slot≤1048576
 slots:1≤s.slots∧s.slots≤16
 layers:1≤s.layers∧s.layers≤3
 most:0≤s.most∧s.most≤5000
structure Fy (v:tF):Prop where
 speed:0≤v.speed∧v.speed≤5000
 dive:1≤v.dive∧v.dive≤131072
theorem aaw {a b c d:Int} (h:a = c) (h2:b = d):Ending.returned (.tuple #[U Z a,U Z b]) = Ending.returned (.tuple #[U Z c,U Z d]):=by rw [h,h2]
theorem iI {a b m n:Int} (h0:0≤a) (h1:a≤m) (h2:0≤b) (h3:b≤n):0≤a*b∧a*b≤m*n :=
 ⟨Int.mul_nonneg h0 h2,Int.le_trans (Int.mul_le_mul_of_nonneg_right h1 h2) (Int.mul_le_mul_of_nonneg_left h3 (Int.le_trans h0 h1))⟩
def jm (s:oJ) (x:jf):Bool:=decide (0≤x.f0.f0) && decide (0≤x.f1.f0) && decide (x.f0.f1≤s.nx*s.cell) && decide (x.f1.f1≤s.ny*s.cell)
def vz (s:oJ) (t u:Int):Bool:=decide (0≤t) && decide (u≤s.slots*s.slot)
set_option maxRecDepth 100000 in
set_option maxHeartbeats 2000000 in
theorem WZ (b:Nat) (s:oJ) (v:tF) (x:jf) (w:World) (hT:nX w b s v) (hS:BX s):
 Calls Try.prog 68 #[.pointer (some ⟨b,0,none⟩),.agg #[U Z x.f0.f0,U Z x.f0.f1,U Z x.f1.f0,U Z x.f1.f1]] w (zn (.bool (jm s x)) w):=by
 obtain ⟨A7,c7,A8,c8,hB,_⟩:=hT
 have hx:=iI (show 0≤s.nx by have:=hS.nx;omega) hS.nx.2 (show 0≤s.cell by have:=hS.cell;omega) hS.cell.2
 have hy:=iI (show 0≤s.ny by have:=hS.ny;omega) hS.ny.2 (show 0≤s.cell by have:=hS.cell;omega) hS.cell.2
 clear hS
 have hC0:∀ o_,(w.alloc o_).cell? ⟨b,0,none⟩ = some (U Z s.nx):=fun o_=>(ah (af hB o_) 0).trans rfl
 have hC1:∀ o_,(w.alloc o_).cell? ⟨b,1,none⟩ = some (U Z s.ny):=fun o_=>(ah (af hB o_) 1).trans rfl
 have hC2:∀ o_,(w.alloc o_).cell? ⟨b,2,none⟩ = some (U Z s.cell):=fun o_=>(ah (af hB o_) 2).trans rfl
 by_cases q0:0≤x.f0.f0
 ·have q0_:decide (0≤x.f0.f0) = true:=decide_eq_true q0
  by_cases q1:0≤x.f1.f0
  ·have q1_:decide (0≤x.f1.f0) = true:=decide_eq_true q1
   by_cases q2:x.f0.f1≤s.nx*s.cell
   ·have q2_:decide (x.f0.f1≤s.nx*s.cell) = true:=decide_eq_true q2
    by_cases q3:x.f1.f1≤s.ny*s.cell
    ·have q3_:decide (x.f1.f1≤s.ny*s.cell) = true:=decide_eq_true q3
     have HR:Hid (jm s x = true):=Lib.hid (by unfold jm;simp only [q0_,q1_,q2_,q3_];rfl)
     go_enter Try.func68,Try.ntmps68
     go_wp2
     go_quiet (fail)
     go_wp2
     go_ret
     exact ⟨TF,UF⟩
    ·have q3_:decide (x.f1.f1≤s.ny*s.cell) = false:=decide_eq_false q3
     have HR:Hid (jm s x = false):=Lib.hid (by unfold jm;simp only [q0_,q1_,q2_,q3_];rfl)
     go_enter Try.func68,Try.ntmps68
     go_wp2
     go_quiet (fail)
     go_wp2
     go_ret
     exact ⟨TF,UF⟩
   ·have q2_:decide (x.f0.f1≤s.nx*s.cell) = false:=decide_eq_false q2
    have HR:Hid (jm s x = false):=Lib.hid (by unfold jm;simp only [q0_,q1_,q2_];rfl)
    go_enter Try.func68,Try.ntmps68
    go_wp2
    go_quiet (fail)
    go_wp2
    go_ret
    exact ⟨TF,UF⟩
  ·have q1_:decide (0≤x.f1.f0) = false:=decide_eq_false q1
   have HR:Hid (jm s x = false):=Lib.hid (by unfold jm;simp only [q0_,q1_];rfl)
   go_enter Try.func68,Try.ntmps68
   go_wp2
   go_quiet (fail)
   go_wp2
   go_ret
   exact ⟨TF,UF⟩
 ·have q0_:decide (0≤x.f0.f0) = false:=decide_eq_false q0
  have HR:Hid (jm s x = false):=Lib.hid (by unfold jm;simp only [q0_];rfl)
  go_enter Try.func68,Try.ntmps68
  go_wp2
  go_quiet (fail)
  go_wp2
  go_ret
  exact ⟨TF,UF⟩
set_option maxRecDepth 100000 in
set_option maxHeartbeats 2000000 in
theorem ajY (b:Nat) (s:oJ) (v:tF) (t u:Int) (w:World) (hT:nX w b s v) (hS:BX s):
 Calls Try.prog 69 #[.pointer (some ⟨b,0,none⟩),U Z t,U Z u] w (zn (.bool (vz s t u)) w):=by
 obtain ⟨A7,c7,A8,c8,hB,_⟩:=hT
 have hx:=iI (show 0≤s.slots by have:=hS.slots;omega) hS.slots.2 (show 0≤s.slot by have:=hS.slot;omega) hS.slot.2
 clear hS
 have hC3:w.cell? ⟨b,3,none⟩ = some (U Z s.slot):=(ah hB 3).trans rfl
 have hC4:w.cell? ⟨b,4,none⟩ = some (U Z s.slots):=(ah hB 4).trans rfl
 by_cases q0:0≤t
 ·have q0_:decide (0≤t) = true:=decide_eq_true q0
  by_cases q1:u≤s.slots*s.slot
  ·have q1_:decide (u≤s.slots*s.slot) = true:=decide_eq_true q1
   have HR:Hid (vz s t u = true):=Lib.hid (by unfold vz;simp only [q0_,q1_];rfl)
   go_enter Try.func69,Try.ntmps69
   go_wp2
   go_quiet (fail)
   go_wp2
   go_ret
   exact ⟨TF,UF⟩
  ·have q1_:decide (u≤s.slots*s.slot) = false:=decide_eq_false q1
   have HR:Hid (vz s t u = false):=Lib.hid (by unfold vz;simp only [q0_,q1_];rfl)
   go_enter Try.func69,Try.ntmps69
   go_wp2
   go_quiet (fail)
   go_wp2
   go_ret
   exact ⟨TF,UF⟩
 ·have q0_:decide (0≤t) = false:=decide_eq_false q0
  have HR:Hid (vz s t u = false):=Lib.hid (by unfold vz;simp only [q0_];rfl)
  go_enter Try.func69,Try.ntmps69
  go_wp2
  go_quiet (fail)
  go_wp2
  go_ret
  exact ⟨TF,UF⟩
def zq (c lo:Int):Int:=if 0 < lo / c∧lo % c = 0 then lo / c - 1 else lo / c
def uf (c:Int) (a:ky) (most:Int):Int × Int:=(min (zq c a.f0) (most - 1),min (a.f1 / c) (most - 1))
theorem Fa {x c:Int} (h0:0≤x) (hc:1≤c):0≤x / c∧x / c≤x :=
 ⟨Int.ediv_nonneg h0 (by omega),Int.ediv_le_self _ h0⟩
theorem aAG {x c:Int} (hc:1≤c):0≤x % c∧x % c≤c:=by
 have h1:=Int.emod_nonneg x (show c≠0 by omega)
 have h2:=Int.emod_lt_of_pos x (show 0 < c by omega)
 omega
set_option maxRecDepth 100000 in
set_option maxHeartbeats 2000000 in
theorem QD (b:Nat) (s:oJ) (v:tF) (a:ky) (most:Int) (w:World) (hT:nX w b s v) (hS:BX s) (h0:0≤a.f0) (h1:a.f0≤1099511627776) (h2:0≤a.f1) (h3:a.f1≤1099511627776) (hm0:1≤most) (hm1:most≤12):
 Calls Try.prog 136 #[.pointer (some ⟨b,0,none⟩),.agg #[U Z a.f0,U Z a.f1],U Z most] w (zn (.tuple #[U Z (uf s.cell a most).1,U Z (uf s.cell a most).2]) w):=by
 obtain ⟨A7,c7,A8,c8,hB,_⟩:=hT
 have hc:=hS.cell
 have hd:=Fa h0 (show 1≤s.cell by omega)
 have hd2:=Fa h2 (show 1≤s.cell by omega)
 have hr:=aAG (x:=a.f0) (show 1≤s.cell by omega)
 have hne:s.cell≠0:=by omega
 have hbq:(s.cell == 0) = false:=beq_eq_false_iff_ne.2 hne
 clear hS
 have hC2:∀ o_,(w.alloc o_).cell? ⟨b,2,none⟩ = some (U Z s.cell):=fun o_=>(ah (af hB o_) 2).trans rfl
 have e1:Int.tdiv a.f0 s.cell = a.f0 / s.cell:=Int.tdiv_eq_ediv_of_nonneg h0
 have e2:Int.tdiv a.f1 s.cell = a.f1 / s.cell:=Int.tdiv_eq_ediv_of_nonneg h2
 have e3:Int.tmod a.f0 s.cell = a.f0 % s.cell:=Int.tmod_eq_emod_of_nonneg h0
 have HR:Hid (uf s.cell a most = (min (zq s.cell a.f0) (most - 1),min (a.f1 / s.cell) (most - 1))):=Lib.hid rfl
 have HF:Hid (zq s.cell a.f0 = if 0 < a.f0 / s.cell∧a.f0 % s.cell = 0 then a.f0 / s.cell - 1 else a.f0 / s.cell):=Lib.hid rfl
 generalize a.f0 / s.cell = Q at*
 generalize a.f1 / s.cell = R at*
 generalize a.f0 % s.cell = M at*
 by_cases q0:0 < Q
 ·have q0_:decide (0 < Q) = true:=decide_eq_true q0
  by_cases q1:M = 0
  ·have q1_:(M == 0) = true:=beq_iff_eq.2 q1
   have HG:=Lib.hid (HF.out.trans (if_pos ⟨q0,q1⟩))
   clear q1 HF
   go_enter Try.func136,Try.ntmps136
   go_wp2
   go_quiet (fail)
   go_wp2
   go_quiet (fail)
   go_wp2
   go_quiet (fail)
   go_wp2
   all_goals (go_ret2;exact ⟨aaw (by rw [HR.out];dsimp only;rw [HG.out];omega) (by rw [HR.out];dsimp only;omega),UF⟩)
  ·have q1_:(M == 0) = false:=beq_eq_false_iff_ne.2 q1
   have HG:=Lib.hid (HF.out.trans (if_neg (fun h=>q1 h.2)))
   clear q1 HF
   go_enter Try.func136,Try.ntmps136
   go_wp2
   go_quiet (fail)
   go_wp2
   go_quiet (fail)
   go_wp2
   go_quiet (fail)
   go_wp2
   all_goals (go_ret2;exact ⟨aaw (by rw [HR.out];dsimp only;rw [HG.out];omega) (by rw [HR.out];dsimp only;omega),UF⟩)
 ·have q0_:decide (0 < Q) = false:=decide_eq_false q0
  have HG:=Lib.hid (HF.out.trans (if_neg (fun h=>q0 h.1)))
  clear HF
  go_enter Try.func136,Try.ntmps136
  go_wp2
  go_quiet (fail)
  go_wp2
  go_quiet (fail)
  go_wp2
  go_quiet (fail)
  go_wp2
  all_goals (go_ret2;exact ⟨aaw (by rw [HR.out];dsimp only;rw [HG.out];omega) (by rw [HR.out];dsimp only;omega),UF⟩)
end Go.Proofs.Ytmhaiihjfgfaoaa.Gl
end
