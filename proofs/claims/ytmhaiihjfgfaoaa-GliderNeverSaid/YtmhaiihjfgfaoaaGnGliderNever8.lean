import Derived.RangeFuncCalls
import Derived.RangeFuncNested
import Derived.OrdersIn
import Derived.RangeFuncBound
import Derived.RangeFuncLeaves
import Derived.Shelf.Abstract
import Derived.Shelf.RegionOpen
import Derived.WalkKit
import Derived.OwnWalkIn
import Derived.TacticsInMore
import Derived.LoopNIn
import Derived.LoopIn
import Derived.Lib.Hide
import Derived.Deep.QuietTactic
import Derived.BigQuiet
import Derived.StillTailTactics
import Derived.Test.YtmhaiihjfgfaoaaGnGliderNever3
open Go.Value renaming int → Z
open Go.IntKind renaming i64 → ab
open Bool renaming true → ac, false → al
section
namespace Go.Proofs.Ytmhaiihjfgfaoaa.Pr
open Go.RowKit Go.Proofs.YtmhaiihjfgfaoaaW.PrintWords Go.Proofs.YtmhaiihjfgfaoaaW.PrintLast Go.Proofs.YtmhaiihjfgfaoaaW.PrintMore
attribute [local go_sem] dw dx dM dN dz
set_option linter.unusedVariables false
set_option linter.unusedSimpArgs false
def bg.l0:Nat→Int→Int→Int→Int→Int→Int→Int→Int→List Bool→List (qW)→Option (Int × Int × Int × Int × Int × Int × Int × List Bool × (List (qW)) × Int × Int × Int × Int × Int × Int × Int)
 |0,_,_,_,_,_,_,_,_,_,_=>none
 |k+1,x3,afw,afx,afy,afz,afA,afB,afC,afD,X5=>if x3 < 16 then (if X5.length < 4398046511104 then (bg.l0 k (wrap64 (x3+1)) afw afx afy afz afA afB afC afD (X5++[(⟨(⟨(-100),100⟩:gm),(⟨0,0⟩:gm)⟩:qW)])) else (none)) else (some (afw,afx,afy,afz,afA,afB,afC,afD,X5,300,1000,50,60,5,6,100))
def bg.f (k:Nat):Option (Int × Int × Int × Int × Int × Int × Int × List Bool × (List (qW)) × Int × Int × Int × Int × Int × Int × Int):=if 16≤281474976710656 then (bg.l0 k 0 4 4 1000 10000 1 1 200 (List.replicate 16 false) ([]:List (qW))) else (none)
theorem bg.Ru:∀ k,(∀ y0 y1 y2 y3 y4 y5 y6 y7 y8 y9,jK (bg.l0 k y0 y1 y2 y3 y4 y5 y6 y7 y8 y9) (bg.l0 (k+1) y0 y1 y2 y3 y4 y5 y6 y7 y8 y9))
 |0=>fun _ _ _ _ _ _ _ _ _ _ r h=>by simp [bg.l0] at h
 |k+1=>by
  have ih0:=bg.Ru k
  ·intro y0 y1 y2 y3 y4 y5 y6 y7 y8 y9
   unfold bg.l0
   repeat' first
   |(with_reducible exact ih0 _ _ _ _ _ _ _ _ _ _)
   |(with_reducible exact jK.refl _)
   |(with_reducible exact jK.none _)
   |(with_reducible refine jK.ite ?_ ?_)
   |(with_reducible refine jK.bind ?_ (fun _=>?_))
   |exact ih0 _ _ _ _ _ _ _ _ _ _
   |exact jK.none _
   |refine jK.ite ?_ ?_
   |refine jK.bind ?_ (fun _=>?_)
theorem bg.mono:∀ k,jK (bg.f k) (bg.f (k+1)):=by
 intro k
 have ih0:=bg.Ru k
 unfold bg.f
 repeat' first
  |(with_reducible exact ih0 _ _ _ _ _ _ _ _ _ _)
  |(with_reducible exact jK.refl _)
  |(with_reducible exact jK.none _)
  |(with_reducible refine jK.ite ?_ ?_)
  |(with_reducible refine jK.bind ?_ (fun _=>?_))
  |exact ih0 _ _ _ _ _ _ _ _ _ _
  |exact jK.none _
  |refine jK.ite ?_ ?_
  |refine jK.bind ?_ (fun _=>?_)
set_option maxHeartbeats 8000000 in
set_option maxRecDepth 100000 in
theorem bg.calls (k:Nat) (r1:Int) (r2:Int) (r3:Int) (r4:Int) (r5:Int) (r6:Int) (r7:Int) (r8:List Bool) (r9:List (qW)) (r10:Int) (r11:Int) (r12:Int) (r13:Int) (r14:Int) (r15:Int) (r16:Int) (w:World) (h:bg.f k = some (r1,r2,r3,r4,r5,r6,r7,r8,r9,r10,r11,r12,r13,r14,r15,r16)):
 Calls Try.prog 61 #[] w fun e w'=>∃ v7_ v8_:Value,e = .returned (.tuple #[.agg #[Z ab r1,Z ab r2,Z ab r3,Z ab r4,Z ab r5,Z ab r6,Z ab r7,v7_,v8_],.agg #[Z ab r10,Z ab r11,Z ab r12,Z ab r13,Z ab r14,Z ab r15,Z ab r16]])∧Kd.R Kd.bool 4 w' w.heap.size (fun _=>True) v7_ r8∧Kd.R Cm 40 w' w.heap.size (fun _=>True) v8_ r9∧Below w.heap.size w w':=by
 have Cn:=Try.underlying25
 have xX:=Try.underlying29
 have mE:=Try.underlying27
 have avP:=Try.underlying40
 have HB:=ag.mk (Below.refl w.heap.size w)
 have H:(if 16≤281474976710656 then (bg.l0 k 0 4 4 1000 10000 1 1 200 (List.replicate 16 false) ([]:List (qW))) else (none)) = some (r1,r2,r3,r4,r5,r6,r7,r8,r9,r10,r11,r12,r13,r14,r15,r16):=h
 clear h
 by_cases c1:16≤281474976710656
 ·rw [if_pos c1] at H
  have aFA:=eq_true c1
  have aFB:decide (16≤281474976710656) = true:=decide_eq_true c1
  clear c1
  obtain ⟨JH,aa5⟩:∃ y_:List Bool,y_ = (List.replicate 16 false):=⟨_,rfl⟩
  replace H:(bg.l0 k 0 4 4 1000 10000 1 1 200 JH ([]:List (qW))) = some (r1,r2,r3,r4,r5,r6,r7,r8,r9,r10,r11,r12,r13,r14,r15,r16):=by first|(rw [aa5];with_reducible exact H)|(have TL:=(Option.bind_some _ _).symm.trans H;rw [aa5];with_reducible exact TL)|(have TL:=(Option.bind_some _ _).symm.trans H;with_reducible exact TL)|with_reducible exact H|(rw [aa5];exact H)|exact H
  have aoG:=ag.mk aa5
  clear aa5
  have H':=ag.mk H
  clear H
  go_enter Try.func61,Try.ntmps61
  go_wp2_with (first|((with_reducible refine aI (N:=0) rfl ?_);refine aC (by rfl) (N:=0) (by rfl) (cs:=#[Z ab 0,Z ab 0,Z ab 0,Z ab 0,Z ab 0,Z ab 0,Z ab 0,.slice none 0 0,.slice none 0 0]) (t:=25) gu ?_;intro pO hg w2 hbox hb;have ru:=ag.mk (hbox);have aJx:=cB HB hg;have aJy:=cB HB hg;replace HB:=cK HB hb;clear hb hbox hg)|((with_reducible refine aI (N:=1) rfl ?_);refine aC (by rfl) (N:=1) (by rfl) (cs:=#[Z ab 0,Z ab 0,Z ab 0,Z ab 0,Z ab 0,Z ab 0,Z ab 0]) (t:=29) gu ?_;intro ui hg w3 hbox hb;have xO:=ag.mk (hbox);have aJz:=cB HB hg;have aJA:=cB HB hg;have qh:=l6 ru hg;have nH:=l9 ru hg;replace ru:=bJ ru hb;replace HB:=cK HB hb;clear hb hbox hg)|((with_reducible refine aI (N:=4) rfl ?_);refine Kd.aoL Kd.bool _ 4 rfl (N:=4) rfl 22 _ _ rfl 16 rfl rfl Try.underlying22 (.bool false) 1 avv rfl (by decide) (by omega) false (ok:=fun _=>True) (okp:=fun _=>True) rfl (fun _ hk=>hk) trivial (by omega) (by omega) (Below.refl _ _) (Nat.le_refl _) ?_;intro aK1 w4 ho5 hb Yv sF;clear Yv sF;(first|rw [← aoG.out] at ho5|(simp only [Int.reduceToNat] at ho5;rw [← aoG.out] at ho5));have afE:=ag.mk (Kd.jS ho5 (gz eZ));replace ru:=bJ ru hb;replace xO:=bJ xO hb;replace HB:=cK HB hb;clear hb ho5;obtain ⟨Ao6,co6,eo6⟩:=Kd.jT afE.out;subst eo6)|((with_reducible refine aI (N:=2) rfl ?_);refine aC (by rfl) (N:=2) (by rfl) (cs:=#[Z ab 0,Z ab 0,Z ab 0,Z ab 0,Z ab 0,Z ab 0,Z ab 0,.slice none 0 0,.slice none 0 0]) (t:=25) gu ?_;intro zt hg w7 hbox hb;have zu:=ag.mk (hbox);have aJB:=cB HB hg;have aJC:=cB HB hg;have KU:=l6 ru hg;have KV:=l9 ru hg;have KW:=l6 xO hg;have KX:=l9 xO hg;replace afE:=xV afE hb;replace ru:=bJ ru hb;replace xO:=bJ xO hb;replace HB:=cK HB hb;clear hb hbox hg;have arH:=KV.out;have arI:=KU.out;have aCg:=KX.out;have aCh:=KW.out;obtain ⟨DL,DN,ae2,ae3,ae4,ae5,ae6,ann,ano,DR,DT,ae7,ae8,ae9,afa,afb,anp,anq⟩:=ji zu.out))
  go_loopg [3] k (fun kq v3 w'=>∃ (aa6:Int) (o6:List (qW)) (ES:Value),v3 = Z ab aa6∧ag (bg.l0 kq aa6 4 4 1000 10000 1 1 200 JH o6 = some (r1,r2,r3,r4,r5,r6,r7,r8,r9,r10,r11,r12,r13,r14,r15,r16))∧ag (kq≤k)∧ag (Kd.R Kd.bool 4 w' w.heap.size (fun _=>True) (.slice Ao6 JH.length co6) JH)∧ag (Kd.R Cm 40 w' w.heap.size (fun _=>True) ES o6)∧ag (w'.heap[pO]? = some (.cells #[Z ab 0,Z ab 0,Z ab 0,Z ab 0,Z ab 0,Z ab 0,Z ab 0,(.slice none 0 0),(.slice none 0 0)] 25 (0,0)))∧ag (w'.heap[ui]? = some (.cells #[Z ab 0,Z ab 0,Z ab 0,Z ab 0,Z ab 0,Z ab 0,Z ab 0] 29 (0,0)))∧ag (w'.heap[zt]? = some (.cells #[Z ab 4,Z ab 4,Z ab 1000,Z ab 10000,Z ab 1,Z ab 1,Z ab 200,(.slice Ao6 JH.length co6),ES] 25 (0,0)))∧ag (Below w.heap.size w w'))
  case atStart=>exact ⟨(0),(([]:List (qW))),(.slice none 0 0),sG,H',⟨Nat.le_refl _⟩,⟨by (with_reducible repeat (first|apply Kd.nU|apply Kd.nV|apply Kd.mD));exact Kd.lg (Kd.bT (p:=⟨zt,8,none⟩) (Kd.bT (p:=⟨zt,7,none⟩) (Kd.bT (p:=⟨zt,6,none⟩) (Kd.bT (p:=⟨zt,5,none⟩) (Kd.bT (p:=⟨zt,4,none⟩) (Kd.bT (p:=⟨zt,3,none⟩) (Kd.bT (p:=⟨zt,2,none⟩) (Kd.bT (p:=⟨zt,1,none⟩) (Kd.bT (p:=⟨zt,0,none⟩) (Kd.nL afE.out zu.out (by decide)) (fun _ hk=>hk.2) (Z ab 4)) (fun _ hk=>hk.2) (Z ab 4)) (fun _ hk=>hk.2) (Z ab 1000)) (fun _ hk=>hk.2) (Z ab 10000)) (fun _ hk=>hk.2) (Z ab 1)) (fun _ hk=>hk.2) (Z ab 1)) (fun _ hk=>hk.2) (Z ab 200)) (fun _ hk=>hk.2) (.slice Ao6 JH.length co6)) (fun _ hk=>hk.2) (.slice none 0 0)) (fun _ hk=>trivial)⟩,⟨by first|exact Kd.R4 _ _ _ _ _|exact Kd.aJD _ _ _ _ _|exact Kd.aJE _ _ _ _ _|exact Kd.aJF _ _ _ _ _|exact Kd.aJG _ _ _ _ _⟩,⟨iU⟩,⟨iU⟩,⟨by (with_reducible repeat (first|refine aA ?_ _|refine au ?_|refine aa ?_ _));refine az (cs:=#[Z ab 4,Z ab 4,Z ab 1000,Z ab 10000,Z ab 1,Z ab 1,Z ab 200,.slice Ao6 JH.length co6,.slice none 0 0]) ?_ 8 _ rfl;(with_reducible repeat (first|refine aA ?_ _|refine au ?_|refine aa ?_ _));refine az (cs:=#[Z ab 4,Z ab 4,Z ab 1000,Z ab 10000,Z ab 1,Z ab 1,Z ab 200,.slice none 0 0,.slice none 0 0]) ?_ 7 _ rfl;(with_reducible repeat (first|refine aA ?_ _|refine au ?_|refine aa ?_ _));refine az (cs:=#[Z ab 4,Z ab 4,Z ab 1000,Z ab 10000,Z ab 1,Z ab 1,Z ab 0,.slice none 0 0,.slice none 0 0]) ?_ 6 _ rfl;(with_reducible repeat (first|refine aA ?_ _|refine au ?_|refine aa ?_ _));refine az (cs:=#[Z ab 4,Z ab 4,Z ab 1000,Z ab 10000,Z ab 1,Z ab 0,Z ab 0,.slice none 0 0,.slice none 0 0]) ?_ 5 _ rfl;(with_reducible repeat (first|refine aA ?_ _|refine au ?_|refine aa ?_ _));refine az (cs:=#[Z ab 4,Z ab 4,Z ab 1000,Z ab 10000,Z ab 0,Z ab 0,Z ab 0,.slice none 0 0,.slice none 0 0]) ?_ 4 _ rfl;(with_reducible repeat (first|refine aA ?_ _|refine au ?_|refine aa ?_ _));refine az (cs:=#[Z ab 4,Z ab 4,Z ab 1000,Z ab 0,Z ab 0,Z ab 0,Z ab 0,.slice none 0 0,.slice none 0 0]) ?_ 3 _ rfl;(with_reducible repeat (first|refine aA ?_ _|refine au ?_|refine aa ?_ _));refine az (cs:=#[Z ab 4,Z ab 4,Z ab 0,Z ab 0,Z ab 0,Z ab 0,Z ab 0,.slice none 0 0,.slice none 0 0]) ?_ 2 _ rfl;(with_reducible repeat (first|refine aA ?_ _|refine au ?_|refine aa ?_ _));refine az (cs:=#[Z ab 4,Z ab 0,Z ab 0,Z ab 0,Z ab 0,Z ab 0,Z ab 0,.slice none 0 0,.slice none 0 0]) ?_ 1 _ rfl;(with_reducible repeat (first|refine aA ?_ _|refine au ?_|refine aa ?_ _));refine az (cs:=#[Z ab 0,Z ab 0,Z ab 0,Z ab 0,Z ab 0,Z ab 0,Z ab 0,.slice none 0 0,.slice none 0 0]) ?_ 0 _ rfl;(with_reducible repeat (first|refine aA ?_ _|refine au ?_|refine aa ?_ _));exact zu.out⟩,⟨eZ⟩⟩
  case round =>
   clear H'
   try clear c1
   try clear aFA
   try clear aFB
   try clear p2
   try clear c6
   try clear c8
   try clear c9
   try clear DL DN ae2 ae3 ae4 ae5 ae6 ann ano DR DT ae7 ae8 ae9 afa afb anp anq
   obtain ⟨aa6,o6,ES,rfl,HA,HK1,zw,rM,ru,xO,zu,HB⟩:=hrel
   cases gk with
   |zero=>exact absurd HA.out (by simp [bg.l0])
   |succ k1 =>
    have H:=HA.out
    clear HA
    simp only [bg.l0] at H
    by_cases c11:aa6 < 16
    ·rw [if_pos c11] at H
     have PZ:decide (aa6 < 16) = true:=decide_eq_true c11
     clear c11
     by_cases c12:o6.length < 4398046511104
     ·rw [if_pos c12] at H
      have avR:=ag.mk c12
      clear c12
      obtain ⟨akl,aa7⟩:∃ y_:List (qW),y_ = (o6++[(⟨(⟨(-100),100⟩:gm),(⟨0,0⟩:gm)⟩:qW)]):=⟨_,rfl⟩
      replace H:(bg.l0 k1 (wrap64 (aa6+1)) 4 4 1000 10000 1 1 200 JH akl) = some (r1,r2,r3,r4,r5,r6,r7,r8,r9,r10,r11,r12,r13,r14,r15,r16):=by first|(rw [aa7];with_reducible exact H)|(have TL:=(Option.bind_some _ _).symm.trans H;rw [aa7];with_reducible exact TL)|(have TL:=(Option.bind_some _ _).symm.trans H;with_reducible exact TL)|with_reducible exact H|(rw [aa7];exact H)|exact H
      have avS:=ag.mk aa7
      clear aa7
      have H':=ag.mk H
      clear H
      have aqQ:=KV.out
      have aqR:=KU.out
      have arJ:=KX.out
      have arK:=KW.out
      obtain ⟨uA,uB,zy,zz,D8,D9,I4,OW,OX,uC,uD,zA,zB,Ea,Eb,I5,OY,OZ⟩:=ji zu.out
      go_wp2_with (first|((with_reducible refine uL (b:=.append) (xs:=#[.tmp 11,.tmp 14]) rfl ?_);at_builtin;refine Kd.FR Cm (w0:=w) w.heap.size rfl (.tmp 11) (.tmp 14) 23 40 (.agg #[(Z ab 0),(Z ab 0),(Z ab 0),(Z ab 0)]) 32 rfl Try.underlying23 aqg rfl (by decide) (by omega) ES o6 (⟨(⟨(-100),100⟩:gm),(⟨0,0⟩:gm)⟩:qW) [Z ab (-100),Z ab 100,Z ab 0,Z ab 0] (fun _=>True) (fun _=>False) rfl rfl ?aP (fun _ hk=>hk.elim) ?aF ?aO ?aB ?aS ?aL ?_;(case aP=>exact amA _ _ _ (⟨(⟨(-100),100⟩:gm),(⟨0,0⟩:gm)⟩:qW));(case aB=>exact eZ);(case aF=>exact (fun _ _=>trivial));(case aO=>exact avt);(case aS=>exact (gz eZ));(case aL=>have:=avR.out;omega);intro aK3 w16 ho hb hg hat;rw [← avS.out] at ho;have Lu:=ag.mk (Kd.akw (by (with_reducible repeat (first|apply Kd.nU|apply Kd.nV|apply Kd.mD));exact zw.out) (Kd.ac8 avt) (by decide) hg);have Lv:=ag.mk (dS (g:=pO) (o:=.cells #[Z ab 0,Z ab 0,Z ab 0,Z ab 0,Z ab 0,Z ab 0,Z ab 0,.slice none 0 0,.slice none 0 0] 25 (0,0)) iU hg (Kd.afG rM.out ru.out (by decide)));have Lx:=ag.mk (dS (g:=ui) (o:=.cells #[Z ab 0,Z ab 0,Z ab 0,Z ab 0,Z ab 0,Z ab 0,Z ab 0] 29 (0,0)) iU hg (Kd.afG rM.out xO.out (by decide)));have LA:=ag.mk (dS (g:=zt) (o:=.cells #[Z ab 4,Z ab 4,Z ab 1000,Z ab 10000,Z ab 1,Z ab 1,Z ab 200,.slice Ao6 JH.length co6,ES] 25 (0,0)) iU hg (Kd.afG rM.out zu.out (by decide)));have n4_:=ag.mk (hb);have n5_:=ag.mk (ho);clear zw;clear ru;clear xO;clear zu;clear HB;clear rM;have zw:=Lu;have ru:=Lv;have xO:=Lx;have zu:=LA;have HB:=n4_;have aoH:=n5_;clear Lu Lv Lx LA n4_ n5_;clear ho hb hg hat;obtain ⟨aqt,aqu,aFC⟩:=Kd.jT aoH.out;subst aFC;obtain ⟨Uz,UA,am8,am9,aBg,aBh,aBi,aBj,aBk,UB,UC,ana,anb,aBl,aBm,aBn,aBo,aBp⟩:=ji zu.out))
      go_roundg k1
      case measure=>have:=HK1.out;omega
      case rel=>exact ⟨(wrap64 (aa6+1)),(akl),(.slice aqt akl.length aqu),sG,H',⟨YA⟩,⟨by (with_reducible repeat (first|apply Kd.nU|apply Kd.nV|apply Kd.mD));exact Kd.lg (Kd.bT (p:=⟨zt,8,none⟩) (Kd.nL zw.out zu.out (by decide)) (fun _ hk=>hk.2) (.slice aqt akl.length aqu)) (fun _ hk=>trivial)⟩,⟨by (with_reducible repeat (first|apply Kd.nU|apply Kd.nV|apply Kd.mD));exact Kd.lg (Kd.bT (p:=⟨zt,8,none⟩) (Kd.nL aoH.out zu.out (by decide)) (fun _ hk=>hk.2) (.slice aqt akl.length aqu)) (fun _ hk=>trivial)⟩,⟨iU⟩,⟨iU⟩,⟨by (with_reducible repeat (first|refine aA ?_ _|refine au ?_|refine aa ?_ _));refine az (cs:=#[Z ab 4,Z ab 4,Z ab 1000,Z ab 10000,Z ab 1,Z ab 1,Z ab 200,.slice Ao6 JH.length co6,ES]) ?_ 8 _ rfl;(with_reducible repeat (first|refine aA ?_ _|refine au ?_|refine aa ?_ _));exact zu.out⟩,⟨eZ⟩⟩
     ·rw [if_neg c12] at H
      exact absurd H (by simp)
    ·rw [if_neg c11] at H
     have PZ:decide (aa6 < 16) = false:=decide_eq_false c11
     clear c11
     simp only [Option.some.injEq,Prod.mk.injEq] at H
     obtain ⟨rfl,rfl,rfl,rfl,rfl,rfl,rfl,rfl,rfl,rfl,rfl,rfl,rfl,rfl,rfl,rfl⟩:=H
     have an5:=KV.out
     have an6:=KU.out
     have as5:=KX.out
     have as6:=KW.out
     obtain ⟨Aa,Ab,I8,I9,Ja,Jb,Jc,O0,O1,Ac,Ad,Jd,Je,Jf,Jg,Jh,O3,O4⟩:=ji zu.out
     have arM:=qh.out
     have arN:=nH.out
     obtain ⟨Ae,Af,Ji,Jj,Jk,Jl,Jm,O5,O6,Ag,Ah,Jn,Jo,Jp,Jq,Jr,O7,O8⟩:=ji ru.out
     obtain ⟨aqv,aqw,aFD⟩:=Kd.jT rM.out
     subst aFD
     obtain ⟨AQ,AR,AU,AV,Js,Jt,Ju,AX,AY,AZ,A9,Jv,Jw,Jy⟩:=iH xO.out
     go_wp2
     refine bodyPost_ret (abg rfl _ _ pO ui 25 29 #[Z ab 4,Z ab 4,Z ab 1000,Z ab 10000,Z ab 1,Z ab 1,Z ab 200,.slice Ao6 JH.length co6,.slice aqv o6.length aqw] #[Z ab 300,Z ab 1000,Z ab 50,Z ab 60,Z ab 5,Z ab 6,Z ab 100] (0,0) (0,0) _ _ rfl (by (with_reducible repeat (first|refine aA ?_ _|refine au ?_|refine aa ?_ _));refine ah ?_ qh.out _;(with_reducible repeat (first|refine aA ?_ _|refine au ?_|refine aa ?_ _));refine ah ?_ qh.out _;(with_reducible repeat (first|refine aA ?_ _|refine au ?_|refine aa ?_ _));refine ah ?_ qh.out _;(with_reducible repeat (first|refine aA ?_ _|refine au ?_|refine aa ?_ _));refine ah ?_ qh.out _;(with_reducible repeat (first|refine aA ?_ _|refine au ?_|refine aa ?_ _));refine ah ?_ qh.out _;(with_reducible repeat (first|refine aA ?_ _|refine au ?_|refine aa ?_ _));refine ah ?_ qh.out _;(with_reducible repeat (first|refine aA ?_ _|refine au ?_|refine aa ?_ _));refine ah ?_ qh.out _;(with_reducible repeat (first|refine aA ?_ _|refine au ?_|refine aa ?_ _));refine az (cs:=#[Z ab 4,Z ab 4,Z ab 1000,Z ab 10000,Z ab 1,Z ab 1,Z ab 200,.slice Ao6 JH.length co6,.slice none 0 0]) ?_ 8 _ rfl;(with_reducible repeat (first|refine aA ?_ _|refine au ?_|refine aa ?_ _));refine az (cs:=#[Z ab 4,Z ab 4,Z ab 1000,Z ab 10000,Z ab 1,Z ab 1,Z ab 200,.slice none 0 0,.slice none 0 0]) ?_ 7 _ rfl;(with_reducible repeat (first|refine aA ?_ _|refine au ?_|refine aa ?_ _));refine az (cs:=#[Z ab 4,Z ab 4,Z ab 1000,Z ab 10000,Z ab 1,Z ab 1,Z ab 0,.slice none 0 0,.slice none 0 0]) ?_ 6 _ rfl;(with_reducible repeat (first|refine aA ?_ _|refine au ?_|refine aa ?_ _));refine az (cs:=#[Z ab 4,Z ab 4,Z ab 1000,Z ab 10000,Z ab 1,Z ab 0,Z ab 0,.slice none 0 0,.slice none 0 0]) ?_ 5 _ rfl;(with_reducible repeat (first|refine aA ?_ _|refine au ?_|refine aa ?_ _));refine az (cs:=#[Z ab 4,Z ab 4,Z ab 1000,Z ab 10000,Z ab 0,Z ab 0,Z ab 0,.slice none 0 0,.slice none 0 0]) ?_ 4 _ rfl;(with_reducible repeat (first|refine aA ?_ _|refine au ?_|refine aa ?_ _));refine az (cs:=#[Z ab 4,Z ab 4,Z ab 1000,Z ab 0,Z ab 0,Z ab 0,Z ab 0,.slice none 0 0,.slice none 0 0]) ?_ 3 _ rfl;(with_reducible repeat (first|refine aA ?_ _|refine au ?_|refine aa ?_ _));refine az (cs:=#[Z ab 4,Z ab 4,Z ab 0,Z ab 0,Z ab 0,Z ab 0,Z ab 0,.slice none 0 0,.slice none 0 0]) ?_ 2 _ rfl;(with_reducible repeat (first|refine aA ?_ _|refine au ?_|refine aa ?_ _));refine az (cs:=#[Z ab 4,Z ab 0,Z ab 0,Z ab 0,Z ab 0,Z ab 0,Z ab 0,.slice none 0 0,.slice none 0 0]) ?_ 1 _ rfl;(with_reducible repeat (first|refine aA ?_ _|refine au ?_|refine aa ?_ _));refine az (cs:=#[Z ab 0,Z ab 0,Z ab 0,Z ab 0,Z ab 0,Z ab 0,Z ab 0,.slice none 0 0,.slice none 0 0]) ?_ 0 _ rfl;(with_reducible repeat (first|refine aA ?_ _|refine au ?_|refine aa ?_ _));exact ru.out) Try.underlying25 rfl aT rfl (by (with_reducible repeat (first|refine aA ?_ _|refine au ?_|refine aa ?_ _));refine az (cs:=#[Z ab 300,Z ab 1000,Z ab 50,Z ab 60,Z ab 5,Z ab 6,Z ab 0]) ?_ 6 _ rfl;(with_reducible repeat (first|refine aA ?_ _|refine au ?_|refine aa ?_ _));refine az (cs:=#[Z ab 300,Z ab 1000,Z ab 50,Z ab 60,Z ab 5,Z ab 0,Z ab 0]) ?_ 5 _ rfl;(with_reducible repeat (first|refine aA ?_ _|refine au ?_|refine aa ?_ _));refine az (cs:=#[Z ab 300,Z ab 1000,Z ab 50,Z ab 60,Z ab 0,Z ab 0,Z ab 0]) ?_ 4 _ rfl;(with_reducible repeat (first|refine aA ?_ _|refine au ?_|refine aa ?_ _));refine az (cs:=#[Z ab 300,Z ab 1000,Z ab 50,Z ab 0,Z ab 0,Z ab 0,Z ab 0]) ?_ 3 _ rfl;(with_reducible repeat (first|refine aA ?_ _|refine au ?_|refine aa ?_ _));refine az (cs:=#[Z ab 300,Z ab 1000,Z ab 0,Z ab 0,Z ab 0,Z ab 0,Z ab 0]) ?_ 2 _ rfl;(with_reducible repeat (first|refine aA ?_ _|refine au ?_|refine aa ?_ _));refine az (cs:=#[Z ab 300,Z ab 0,Z ab 0,Z ab 0,Z ab 0,Z ab 0,Z ab 0]) ?_ 1 _ rfl;(with_reducible repeat (first|refine aA ?_ _|refine au ?_|refine aa ?_ _));refine az (cs:=#[Z ab 0,Z ab 0,Z ab 0,Z ab 0,Z ab 0,Z ab 0,Z ab 0]) ?_ 0 _ rfl;(with_reducible repeat (first|refine aA ?_ _|refine au ?_|refine aa ?_ _));refine ah ?_ nH.out _;(with_reducible repeat (first|refine aA ?_ _|refine au ?_|refine aa ?_ _));refine ah ?_ nH.out _;(with_reducible repeat (first|refine aA ?_ _|refine au ?_|refine aa ?_ _));refine ah ?_ nH.out _;(with_reducible repeat (first|refine aA ?_ _|refine au ?_|refine aa ?_ _));refine ah ?_ nH.out _;(with_reducible repeat (first|refine aA ?_ _|refine au ?_|refine aa ?_ _));refine ah ?_ nH.out _;(with_reducible repeat (first|refine aA ?_ _|refine au ?_|refine aa ?_ _));refine ah ?_ nH.out _;(with_reducible repeat (first|refine aA ?_ _|refine au ?_|refine aa ?_ _));refine ah ?_ nH.out _;(with_reducible repeat (first|refine aA ?_ _|refine au ?_|refine aa ?_ _));refine ah ?_ nH.out _;(with_reducible repeat (first|refine aA ?_ _|refine au ?_|refine aa ?_ _));refine ah ?_ nH.out _;(with_reducible repeat (first|refine aA ?_ _|refine au ?_|refine aa ?_ _));exact xO.out) Try.underlying29 rfl aT) rfl ?_
     exact ⟨_,_,mf,by (with_reducible repeat (first|apply Kd.nU|apply Kd.nV|apply Kd.mD));exact Kd.lg (Kd.bT (p:=⟨ui,6,none⟩) (Kd.bT (p:=⟨ui,5,none⟩) (Kd.bT (p:=⟨ui,4,none⟩) (Kd.bT (p:=⟨ui,3,none⟩) (Kd.bT (p:=⟨ui,2,none⟩) (Kd.bT (p:=⟨ui,1,none⟩) (Kd.bT (p:=⟨ui,0,none⟩) (Kd.bT (p:=⟨pO,8,none⟩) (Kd.bT (p:=⟨pO,7,none⟩) (Kd.bT (p:=⟨pO,6,none⟩) (Kd.bT (p:=⟨pO,5,none⟩) (Kd.bT (p:=⟨pO,4,none⟩) (Kd.bT (p:=⟨pO,3,none⟩) (Kd.bT (p:=⟨pO,2,none⟩) (Kd.bT (p:=⟨pO,1,none⟩) (Kd.bT (p:=⟨pO,0,none⟩) (Kd.nL (Kd.nL zw.out ru.out (by decide)) xO.out (by decide)) (fun _ hk=>hk.1.2) (Z ab 4)) (fun _ hk=>hk.1.2) (Z ab 4)) (fun _ hk=>hk.1.2) (Z ab 1000)) (fun _ hk=>hk.1.2) (Z ab 10000)) (fun _ hk=>hk.1.2) (Z ab 1)) (fun _ hk=>hk.1.2) (Z ab 1)) (fun _ hk=>hk.1.2) (Z ab 200)) (fun _ hk=>hk.1.2) (.slice Ao6 JH.length co6)) (fun _ hk=>hk.1.2) (.slice aqv o6.length aqw)) (fun _ hk=>hk.2) (Z ab 300)) (fun _ hk=>hk.2) (Z ab 1000)) (fun _ hk=>hk.2) (Z ab 50)) (fun _ hk=>hk.2) (Z ab 60)) (fun _ hk=>hk.2) (Z ab 5)) (fun _ hk=>hk.2) (Z ab 6)) (fun _ hk=>hk.2) (Z ab 100)) (fun _ hk=>trivial),by (with_reducible repeat (first|apply Kd.nU|apply Kd.nV|apply Kd.mD));exact Kd.lg (Kd.bT (p:=⟨ui,6,none⟩) (Kd.bT (p:=⟨ui,5,none⟩) (Kd.bT (p:=⟨ui,4,none⟩) (Kd.bT (p:=⟨ui,3,none⟩) (Kd.bT (p:=⟨ui,2,none⟩) (Kd.bT (p:=⟨ui,1,none⟩) (Kd.bT (p:=⟨ui,0,none⟩) (Kd.bT (p:=⟨pO,8,none⟩) (Kd.bT (p:=⟨pO,7,none⟩) (Kd.bT (p:=⟨pO,6,none⟩) (Kd.bT (p:=⟨pO,5,none⟩) (Kd.bT (p:=⟨pO,4,none⟩) (Kd.bT (p:=⟨pO,3,none⟩) (Kd.bT (p:=⟨pO,2,none⟩) (Kd.bT (p:=⟨pO,1,none⟩) (Kd.bT (p:=⟨pO,0,none⟩) (Kd.nL (Kd.nL rM.out ru.out (by decide)) xO.out (by decide)) (fun _ hk=>hk.1.2) (Z ab 4)) (fun _ hk=>hk.1.2) (Z ab 4)) (fun _ hk=>hk.1.2) (Z ab 1000)) (fun _ hk=>hk.1.2) (Z ab 10000)) (fun _ hk=>hk.1.2) (Z ab 1)) (fun _ hk=>hk.1.2) (Z ab 1)) (fun _ hk=>hk.1.2) (Z ab 200)) (fun _ hk=>hk.1.2) (.slice Ao6 JH.length co6)) (fun _ hk=>hk.1.2) (.slice aqv o6.length aqw)) (fun _ hk=>hk.2) (Z ab 300)) (fun _ hk=>hk.2) (Z ab 1000)) (fun _ hk=>hk.2) (Z ab 50)) (fun _ hk=>hk.2) (Z ab 60)) (fun _ hk=>hk.2) (Z ab 5)) (fun _ hk=>hk.2) (Z ab 6)) (fun _ hk=>hk.2) (Z ab 100)) (fun _ hk=>trivial),eZ⟩
 ·rw [if_neg c1] at H
  exact absurd H (by simp)
def gZ.f (a0:Int) (a1:Int):Option (Int × Int × Int × Int):=some (a0,a0,a1,a1)
set_option maxHeartbeats 8000000 in
set_option maxRecDepth 100000 in
theorem gZ.calls (a0:Int) (a1:Int) (r1:Int) (r2:Int) (r3:Int) (r4:Int) (w:World) (h:gZ.f a0 a1 = some (r1,r2,r3,r4)):
 Calls Try.prog 62 #[Z ab a0,Z ab a1] w fun e w'=>e = .returned (.agg #[Z ab r1,Z ab r2,Z ab r3,Z ab r4])∧Below w.heap.size w w':=by
 have pG:=Try.underlying31
 have mE:=Try.underlying27
 have HB:=ag.mk (Below.refl w.heap.size w)
 have H:(some (a0,a0,a1,a1)) = some (r1,r2,r3,r4):=h
 clear h
 simp only [Option.some.injEq,Prod.mk.injEq] at H
 obtain ⟨rfl,rfl,rfl,rfl⟩:=H
 go_enter Try.func62,Try.ntmps62
 go_wp2_with (first|((with_reducible refine aI (N:=4) rfl ?_);refine aC (by rfl) (N:=4) (by rfl) (cs:=#[Z ab 0,Z ab 0,Z ab 0,Z ab 0]) (t:=31) gu ?_;intro avT hg w3 hbox hb;have aoI:=ag.mk (hbox);have aJH:=cB HB hg;have aJI:=cB HB hg;replace HB:=cK HB hb;clear hb hbox hg;obtain ⟨acR,acS,aj6,aj7,acT,acU,aj8,aj9⟩:=jr aoI.out))
 refine bodyPost_ret (results_cell_row rfl _ _ avT 31 #[Z ab a0,Z ab a0,Z ab a1,Z ab a1] (0,0) _ rfl (by (with_reducible repeat (first|refine aA ?_ _|refine au ?_|refine aa ?_ _));refine az (cs:=#[Z ab a0,Z ab a0,Z ab a1,Z ab 0]) ?_ 3 _ rfl;(with_reducible repeat (first|refine aA ?_ _|refine au ?_|refine aa ?_ _));refine az (cs:=#[Z ab a0,Z ab a0,Z ab 0,Z ab 0]) ?_ 2 _ rfl;(with_reducible repeat (first|refine aA ?_ _|refine au ?_|refine aa ?_ _));refine az (cs:=#[Z ab a0,Z ab 0,Z ab 0,Z ab 0]) ?_ 1 _ rfl;(with_reducible repeat (first|refine aA ?_ _|refine au ?_|refine aa ?_ _));refine az (cs:=#[Z ab 0,Z ab 0,Z ab 0,Z ab 0]) ?_ 0 _ rfl;(with_reducible repeat (first|refine aA ?_ _|refine au ?_|refine aa ?_ _));exact aoI.out) Try.underlying31 rfl aT) rfl ?_
 exact ⟨mf,eZ⟩
end Go.Proofs.Ytmhaiihjfgfaoaa.Pr
end
section
namespace Go.Proofs.YtmhaiihjfgfaoaaW.Round
open Go.RowKit Go.Proofs.YtmhaiihjfgfaoaaW.PrintWords Go.Proofs.YtmhaiihjfgfaoaaW.PrintLast
section
variable {P:Program} {n l:Nat}
theorem ac3 {o:Oper} {a:Act} {w:World} {K:Act→World→Prop} {Q:Exit→Act→World→Prop} (hd:∀ c,o.op≠.defer c) (h:o.wp P a w K Q):o.wpIn (Fence.wide.inRound l) n P a w K Q:=by
 refine ⟨fun _ _=>trivial,?_⟩
 rw [Oper.semAt_eq _ _ _ hd]
 unfold Oper.wp at h
 generalize (execOp a.eval o).run P w = r at h
 cases r with
 |ok x w' =>
  cases x with
  |value v=>exact h
  |skip=>exact h
  |defer d=>exact h
  |enter f args=>exact ⟨fun h0=>(by cases h0),CallsIn.inRound l (callsIn_wide.2 h)⟩
  |row row args=>exact ⟨fun h0=>(by cases h0),fun c cs _=>by obtain ⟨v,w2,r,s⟩:=h c cs;exact ⟨v,w2,r,stepsIn_wide.2 s⟩⟩
  |_=>exact h.elim
 |halt x w' =>
  cases x with
  |panic v=>exact h
  |_=>exact h.elim
def Ps (ops:Array Oper):Bool:=ops.all fun o=>match o.op with|.defer _=>false|_=>true
theorem aa8 {ops:Array Oper} (h:Ps ops = true) {i:Nat} {o:Oper} (ho:ops[i]? = some o):∀ c,o.op≠.defer c:=by
 intro c e
 unfold Ps at h
 rw [Array.all_eq_true] at h
 obtain ⟨hi,he⟩:=Array.getElem?_eq_some_iff.1 ho
 have:=h i hi
 rw [he,e] at this
 simp at this
theorem xP {ops:Array Oper} {Q:Exit→Act→World→Prop} {md:Region.Mode} (hn:Ps ops = true) (hQ:¬ LetsOut Q):∀ (fuel:Nat) (listed:Array Bool) (a:Act) (w:World),
 wpAny P md ops Q fuel listed a w→wpAnyIn (Fence.wide.inRound l) n P md ops Q fuel listed a w
 |0,_,_,_,h=>h
 |fuel+1,listed,a,w,h=>by
  refine ⟨h.1,fun i hi=>?_⟩
  have h1:=h.2 i hi
  unfold wpOp at h1
  unfold wpOpIn
  cases ho:ops[i]? with
  |none =>
   rw [ho] at h1
   exact xP hn hQ fuel _ _ _ h1
  |some o =>
   rw [ho] at h1
   dsimp only at h1 ⊢
   split at h1
   ·rename_i hw
    rw [if_pos hw]
    rcases h1 with h1|⟨_,h1⟩
    ·exact Oper.wpIn_mono (fun a w h=>xP hn hQ fuel _ a w h) (ac3 (aa8 hn ho) h1)
    ·exact absurd h1 hQ
   ·rename_i hw
    rw [if_neg hw]
    exact ⟨fun _ _=>trivial,xP hn hQ fuel _ _ _ h1⟩
theorem zK {α:Type} {B:Nat} {Kp:World→World→Prop} {I:List α→World→Prop} {Ix:Code→List α→World→Prop} {xs:List α} {W:World}:¬ LetsOut (ownPostG B Kp I Ix xs W):=fun ⟨_,_,h⟩=>h
theorem uk {id:Nat} {Q:Exit→Act→World→Prop} (h:¬ LetsOut Q):¬ LetsOut (Exit.inBlock id Q):=fun ⟨a,w,h1⟩=>h ⟨a,w,h1⟩
theorem FZ {K:Act→World→Prop} {Q:Exit→Act→World→Prop} (h:¬ LetsOut Q):¬ LetsOut (Exit.then K Q):=fun ⟨a,w,h1⟩=>h ⟨a,w,h1⟩
theorem Ca {ops:Array Oper} {Q:Exit→Act→World→Prop} {S:World→Prop} {ds:List Nat} {id m:Nat} {a:Act} {w:World} (lit:Array Bool) (hd:Ps ops = true) (hQ:¬ LetsOut Q) (hm:P.follows .mixedOrders = true) (hn:ops.size = m) (hl:Array.replicate m false = lit) (hS:S w.drew)
 (h:S w.drew→bP P .any ops Q S ds m lit a w.drew):(Code.region id ops true).wpIn (Fence.wide.inRound l) n P Q a w:=by
 subst hn
 subst hl
 exact wpIn_region_any hm (xP hd hQ _ _ _ _ (yc _ _ _ _ (h hS)))
def ad9 (K:Act→World→Prop):Exit→Act→World→Prop
 |.normal,a,w=>K a w
 |_,_,_=>False
theorem qo {Q:Exit→Act→World→Prop} {a:Act} {w:World} (h:Q .normal a w):ad9 (Q .normal) .normal a w:=h
theorem oN {F:Fence} {c:Code} {Q:Exit→Act→World→Prop} {a:Act} {w:World} (h:c.wpIn F n P (ad9 (Q .normal)) a w):c.wpIn F n P Q a w:=wpIn_mono h (fun e a w h=>by cases e <;> first|exact h|exact h.elim)
end
end Go.Proofs.YtmhaiihjfgfaoaaW.Round
end
section
namespace Go.Proofs.Ytmhaiihjfgfaoaa.Gl
open Go.RowKit Go.Shelf Go.Proofs.YtmhaiihjfgfaoaaW.PrintWords Go.Proofs.YtmhaiihjfgfaoaaW.PrintLast Go.Proofs.YtmhaiihjfgfaoaaW.PrintMore Go.Proofs.Ytmhaiihjfgfaoaa.Pr Go.Proofs.YtmhaiihjfgfaoaaW.Round
set_option linter.unusedVariables false
set_option linter.unusedSimpArgs false
attribute [local go_sem] dw dx dM dN dz
structure fT where
 nx:Int
 ny:Int
 cell:Int
 slot:Int
 slots:Int
 layers:Int
 most:Int
 shores:List Bool
 currents:List qW
structure iw where
 speed:Int
 dive:Int
 use:gm
 drift:gm
 reserve:Int
def aZ (W:World) (b:Nat) (c:Array Value) (t:TypeId):Prop:=W.heap[b]? = some (.cells c t (0,0))
theorem aZ.below {W W1:World} {b:Nat} {c:Array Value} {t:TypeId} (h:aZ W b c t) (hb:Below W.heap.size W W1):aZ W1 b c t:=(hb.block b (Array.getElem?_eq_some_iff.1 h).1).trans h
def oo (v:Value) (w:World) (e:Ending) (w':World):Prop:=e = .returned v∧Below w.heap.size w w'
def dZ (W:World) (b:Nat) (s:fT) (v:iw):Prop:=∃ A7 c7 A8 c8,aZ W b #[Z ab s.nx,Z ab s.ny,Z ab s.cell,Z ab s.slot,Z ab s.slots,Z ab s.layers,Z ab s.most,.slice A7 s.shores.length c7,.slice A8 s.currents.length c8,Z ab v.speed,Z ab v.dive,Z ab v.use.f0,Z ab v.use.f1,Z ab v.drift.f0,Z ab v.drift.f1,Z ab v.reserve] 110∧s.shores.length≤c7∧Kd.C Kd.bool W A7 s.shores.length s.shores∧s.currents.length≤c8∧Kd.C Cm W A8 s.currents.length s.currents
theorem dZ.below {W W1:World} {b:Nat} {s:fT} {v:iw} (h:dZ W b s v) (hb:Below W.heap.size W W1):dZ W1 b s v:=by
 obtain ⟨A7,c7,A8,c8,h1,h2,h3,h4,h5⟩:=h
 exact ⟨A7,c7,A8,c8,h1.below hb,h2,Kd.bD h3 hb,h4,Kd.bD h5 hb⟩
structure Fg (s:fT):Prop where
 nx:1≤s.nx∧s.nx≤12
 ny:1≤s.ny∧s.ny≤12
 cell:100≤s.cell∧s.cell≤65536
 slot:1≤s.slot∧s.slot≤1048576
 slots:1≤s.slots∧s.slots≤16
 layers:1≤s.layers∧s.layers≤3
 most:0≤s.most∧s.most≤5000
structure uF (v:iw):Prop where
 speed:0≤v.speed∧v.speed≤5000
 dive:1≤v.dive∧v.dive≤131072
theorem X6 {a b c d:Int} (h:a = c) (h2:b = d):Ending.returned (.tuple #[Z ab a,Z ab b]) = Ending.returned (.tuple #[Z ab c,Z ab d]):=by rw [h,h2]
theorem jy {a b m n:Int} (h0:0≤a) (h1:a≤m) (h2:0≤b) (h3:b≤n):0≤a*b∧a*b≤m*n :=
 ⟨Int.mul_nonneg h0 h2,Int.le_trans (Int.mul_le_mul_of_nonneg_right h1 h2) (Int.mul_le_mul_of_nonneg_left h3 (Int.le_trans h0 h1))⟩
def ik (s:fT) (x:cZ):Bool:=decide (0≤x.f0.f0) && decide (0≤x.f1.f0) && decide (x.f0.f1≤s.nx*s.cell) && decide (x.f1.f1≤s.ny*s.cell)
def rA (s:fT) (t u:Int):Bool:=decide (0≤t) && decide (u≤s.slots*s.slot)
set_option maxRecDepth 100000 in
set_option maxHeartbeats 2000000 in
theorem TD (b:Nat) (s:fT) (v:iw) (x:cZ) (w:World) (hT:dZ w b s v) (hS:Fg s):
 Calls Try.prog 68 #[.pointer (some ⟨b,0,none⟩),.agg #[Z ab x.f0.f0,Z ab x.f0.f1,Z ab x.f1.f0,Z ab x.f1.f1]] w (oo (.bool (ik s x)) w):=by
 obtain ⟨A7,c7,A8,c8,hB,_⟩:=hT
 have hx:=jy (show 0≤s.nx by have:=hS.nx;omega) hS.nx.2 (show 0≤s.cell by have:=hS.cell;omega) hS.cell.2
 have hy:=jy (show 0≤s.ny by have:=hS.ny;omega) hS.ny.2 (show 0≤s.cell by have:=hS.cell;omega) hS.cell.2
 clear hS
 have hC0:∀ o_,(w.alloc o_).cell? ⟨b,0,none⟩ = some (Z ab s.nx):=fun o_=>(ae (aa hB o_) 0).trans rfl
 have hC1:∀ o_,(w.alloc o_).cell? ⟨b,1,none⟩ = some (Z ab s.ny):=fun o_=>(ae (aa hB o_) 1).trans rfl
 have hC2:∀ o_,(w.alloc o_).cell? ⟨b,2,none⟩ = some (Z ab s.cell):=fun o_=>(ae (aa hB o_) 2).trans rfl
 by_cases q0:0≤x.f0.f0
 ·have q0_:decide (0≤x.f0.f0) = true:=decide_eq_true q0
  by_cases q1:0≤x.f1.f0
  ·have q1_:decide (0≤x.f1.f0) = true:=decide_eq_true q1
   by_cases q2:x.f0.f1≤s.nx*s.cell
   ·have q2_:decide (x.f0.f1≤s.nx*s.cell) = true:=decide_eq_true q2
    by_cases q3:x.f1.f1≤s.ny*s.cell
    ·have q3_:decide (x.f1.f1≤s.ny*s.cell) = true:=decide_eq_true q3
     have HR:Hid (ik s x = true):=Lib.hid (by unfold ik;simp only [q0_,q1_,q2_,q3_];rfl)
     go_enter Try.func68,Try.ntmps68
     go_wp2
     go_quiet (fail)
     go_wp2
     go_ret
     exact ⟨BU,Ro⟩
    ·have q3_:decide (x.f1.f1≤s.ny*s.cell) = false:=decide_eq_false q3
     have HR:Hid (ik s x = false):=Lib.hid (by unfold ik;simp only [q0_,q1_,q2_,q3_];rfl)
     go_enter Try.func68,Try.ntmps68
     go_wp2
     go_quiet (fail)
     go_wp2
     go_ret
     exact ⟨BU,Ro⟩
   ·have q2_:decide (x.f0.f1≤s.nx*s.cell) = false:=decide_eq_false q2
    have HR:Hid (ik s x = false):=Lib.hid (by unfold ik;simp only [q0_,q1_,q2_];rfl)
    go_enter Try.func68,Try.ntmps68
    go_wp2
    go_quiet (fail)
    go_wp2
    go_ret
    exact ⟨BU,Ro⟩
  ·have q1_:decide (0≤x.f1.f0) = false:=decide_eq_false q1
   have HR:Hid (ik s x = false):=Lib.hid (by unfold ik;simp only [q0_,q1_];rfl)
   go_enter Try.func68,Try.ntmps68
   go_wp2
   go_quiet (fail)
   go_wp2
   go_ret
   exact ⟨BU,Ro⟩
 ·have q0_:decide (0≤x.f0.f0) = false:=decide_eq_false q0
  have HR:Hid (ik s x = false):=Lib.hid (by unfold ik;simp only [q0_];rfl)
  go_enter Try.func68,Try.ntmps68
  go_wp2
  go_quiet (fail)
  go_wp2
  go_ret
  exact ⟨BU,Ro⟩
set_option maxRecDepth 100000 in
set_option maxHeartbeats 2000000 in
theorem afQ (b:Nat) (s:fT) (v:iw) (t u:Int) (w:World) (hT:dZ w b s v) (hS:Fg s):
 Calls Try.prog 69 #[.pointer (some ⟨b,0,none⟩),Z ab t,Z ab u] w (oo (.bool (rA s t u)) w):=by
 obtain ⟨A7,c7,A8,c8,hB,_⟩:=hT
 have hx:=jy (show 0≤s.slots by have:=hS.slots;omega) hS.slots.2 (show 0≤s.slot by have:=hS.slot;omega) hS.slot.2
 clear hS
 have hC3:w.cell? ⟨b,3,none⟩ = some (Z ab s.slot):=(ae hB 3).trans rfl
 have hC4:w.cell? ⟨b,4,none⟩ = some (Z ab s.slots):=(ae hB 4).trans rfl
 by_cases q0:0≤t
 ·have q0_:decide (0≤t) = true:=decide_eq_true q0
  by_cases q1:u≤s.slots*s.slot
  ·have q1_:decide (u≤s.slots*s.slot) = true:=decide_eq_true q1
   have HR:Hid (rA s t u = true):=Lib.hid (by unfold rA;simp only [q0_,q1_];rfl)
   go_enter Try.func69,Try.ntmps69
   go_wp2
   go_quiet (fail)
   go_wp2
   go_ret
   exact ⟨BU,Ro⟩
  ·have q1_:decide (u≤s.slots*s.slot) = false:=decide_eq_false q1
   have HR:Hid (rA s t u = false):=Lib.hid (by unfold rA;simp only [q0_,q1_];rfl)
   go_enter Try.func69,Try.ntmps69
   go_wp2
   go_quiet (fail)
   go_wp2
   go_ret
   exact ⟨BU,Ro⟩
 ·have q0_:decide (0≤t) = false:=decide_eq_false q0
  have HR:Hid (rA s t u = false):=Lib.hid (by unfold rA;simp only [q0_];rfl)
  go_enter Try.func69,Try.ntmps69
  go_wp2
  go_quiet (fail)
  go_wp2
  go_ret
  exact ⟨BU,Ro⟩
def vF (c lo:Int):Int:=if 0 < lo / c∧lo % c = 0 then lo / c - 1 else lo / c
def oU (c:Int) (a:gm) (most:Int):Int × Int:=(min (vF c a.f0) (most - 1),min (a.f1 / c) (most - 1))
theorem JK {x c:Int} (h0:0≤x) (hc:1≤c):0≤x / c∧x / c≤x :=
 ⟨Int.ediv_nonneg h0 (by omega),Int.ediv_le_self _ h0⟩
theorem aqx {x c:Int} (hc:1≤c):0≤x % c∧x % c≤c:=by
 have h1:=Int.emod_nonneg x (show c≠0 by omega)
 have h2:=Int.emod_lt_of_pos x (show 0 < c by omega)
 omega
set_option maxRecDepth 100000 in
set_option maxHeartbeats 2000000 in
theorem Lp (b:Nat) (s:fT) (v:iw) (a:gm) (most:Int) (w:World) (hT:dZ w b s v) (hS:Fg s) (h0:0≤a.f0) (h1:a.f0≤1099511627776) (h2:0≤a.f1) (h3:a.f1≤1099511627776) (hm0:1≤most) (hm1:most≤12):
 Calls Try.prog 136 #[.pointer (some ⟨b,0,none⟩),.agg #[Z ab a.f0,Z ab a.f1],Z ab most] w (oo (.tuple #[Z ab (oU s.cell a most).1,Z ab (oU s.cell a most).2]) w):=by
 obtain ⟨A7,c7,A8,c8,hB,_⟩:=hT
 have hc:=hS.cell
 have hd:=JK h0 (show 1≤s.cell by omega)
 have hd2:=JK h2 (show 1≤s.cell by omega)
 have hr:=aqx (x:=a.f0) (show 1≤s.cell by omega)
 have hne:s.cell≠0:=by omega
 have hbq:(s.cell == 0) = false:=beq_eq_false_iff_ne.2 hne
 clear hS
 have hC2:∀ o_,(w.alloc o_).cell? ⟨b,2,none⟩ = some (Z ab s.cell):=fun o_=>(ae (aa hB o_) 2).trans rfl
 have e1:Int.tdiv a.f0 s.cell = a.f0 / s.cell:=Int.tdiv_eq_ediv_of_nonneg h0
 have e2:Int.tdiv a.f1 s.cell = a.f1 / s.cell:=Int.tdiv_eq_ediv_of_nonneg h2
 have e3:Int.tmod a.f0 s.cell = a.f0 % s.cell:=Int.tmod_eq_emod_of_nonneg h0
 have HR:Hid (oU s.cell a most = (min (vF s.cell a.f0) (most - 1),min (a.f1 / s.cell) (most - 1))):=Lib.hid rfl
 have HF:Hid (vF s.cell a.f0 = if 0 < a.f0 / s.cell∧a.f0 % s.cell = 0 then a.f0 / s.cell - 1 else a.f0 / s.cell):=Lib.hid rfl
 generalize a.f0 / s.cell = Q at*
 generalize a.f1 / s.cell = R at*
 generalize a.f0 % s.cell = M at*
 by_cases q0:0 < Q
 ·have q0_:decide (0 < Q) = true:=decide_eq_true q0
  by_cases q1:M = 0
  ·have q1_:(M == 0) = true:=beq_iff_eq.2 q1
   have HG:=Lib.hid (HF.out.trans (if_pos ⟨q0,q1⟩))
   clear q1 HF
   go_enter Try.func136,Try.ntmps136
   go_wp2
   go_quiet (fail)
   go_wp2
   go_quiet (fail)
   go_wp2
   go_quiet (fail)
   go_wp2
   all_goals (go_ret2;exact ⟨X6 (by rw [HR.out];dsimp only;rw [HG.out];omega) (by rw [HR.out];dsimp only;omega),Ro⟩)
  ·have q1_:(M == 0) = false:=beq_eq_false_iff_ne.2 q1
   have HG:=Lib.hid (HF.out.trans (if_neg (fun h=>q1 h.2)))
   clear q1 HF
   go_enter Try.func136,Try.ntmps136
   go_wp2
   go_quiet (fail)
   go_wp2
   go_quiet (fail)
   go_wp2
   go_quiet (fail)
   go_wp2
   all_goals (go_ret2;exact ⟨X6 (by rw [HR.out];dsimp only;rw [HG.out];omega) (by rw [HR.out];dsimp only;omega),Ro⟩)
 ·have q0_:decide (0 < Q) = false:=decide_eq_false q0
  have HG:=Lib.hid (HF.out.trans (if_neg (fun h=>q0 h.1)))
  clear HF
  go_enter Try.func136,Try.ntmps136
  go_wp2
  go_quiet (fail)
  go_wp2
  go_quiet (fail)
  go_wp2
  go_quiet (fail)
  go_wp2
  all_goals (go_ret2;exact ⟨X6 (by rw [HR.out];dsimp only;rw [HG.out];omega) (by rw [HR.out];dsimp only;omega),Ro⟩)
end Go.Proofs.Ytmhaiihjfgfaoaa.Gl
end
