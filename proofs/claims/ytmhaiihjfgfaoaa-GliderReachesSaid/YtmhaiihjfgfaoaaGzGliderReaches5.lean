import Derived.RangeFuncCalls
import Derived.RangeFuncNested
import Derived.OrdersIn
import Derived.RangeFuncBound
import Derived.RangeFuncLeaves
import Derived.Shelf.Abstract
import Derived.Shelf.RegionOpen
import Derived.WalkKit
import Derived.OwnWalkIn
import Derived.TacticsInMore
import Derived.LoopNIn
import Derived.LoopIn
import Derived.Lib.Hide
import Derived.Deep.QuietTactic
import Derived.BigQuiet
import Derived.StillTailTactics
import Derived.Test.YtmhaiihjfgfaoaaGzGliderReaches3
open Go.Value renaming int → U
open Go.IntKind renaming i64 → Z
open Bool renaming true → ab, false → ac
section
namespace Go.Proofs.Ytmhaiihjfgfaoaa.Pr
open Go.RowKit Go.Proofs.YtmhaiihjfgfaoaaW.PrintWords Go.Proofs.YtmhaiihjfgfaoaaW.PrintLast Go.Proofs.YtmhaiihjfgfaoaaW.PrintMore
attribute [local go_sem] eD eF fD fE eG
set_option linter.unusedVariables false
set_option linter.unusedSimpArgs false
def bY.l0:Nat→Int→Int→Int→Int→Int→Int→Int→Int→List Bool→List (oV)→Option (Int × Int × Int × Int × Int × Int × Int × List Bool × (List (oV)) × Int × Int × Int × Int × Int × Int × Int)
 |0,_,_,_,_,_,_,_,_,_,_=>none
 |k+1,x3,aeR,aeS,aeT,aeU,aeV,aeW,aeX,aeY,Xq=>if x3 < 16 then (if Xq.length < 4398046511104 then (bY.l0 k (wrap64 (x3+1)) aeR aeS aeT aeU aeV aeW aeX aeY (Xq++[(⟨(⟨(-100),100⟩:lu),(⟨0,0⟩:lu)⟩:oV)])) else (none)) else (some (aeR,aeS,aeT,aeU,aeV,aeW,aeX,aeY,Xq,300,1000,50,60,5,6,100))
def bY.f (k:Nat):Option (Int × Int × Int × Int × Int × Int × Int × List Bool × (List (oV)) × Int × Int × Int × Int × Int × Int × Int):=if 16≤281474976710656 then (bY.l0 k 0 4 4 1000 10000 1 1 200 (List.replicate 16 false) ([]:List (oV))) else (none)
theorem bY.R6:∀ k,(∀ y0 y1 y2 y3 y4 y5 y6 y7 y8 y9,nR (bY.l0 k y0 y1 y2 y3 y4 y5 y6 y7 y8 y9) (bY.l0 (k+1) y0 y1 y2 y3 y4 y5 y6 y7 y8 y9))
 |0=>fun _ _ _ _ _ _ _ _ _ _ r h=>by simp [bY.l0] at h
 |k+1=>by
  have ih0:=bY.R6 k
  ·intro y0 y1 y2 y3 y4 y5 y6 y7 y8 y9
   unfold bY.l0
   repeat' first
   |(with_reducible exact ih0 _ _ _ _ _ _ _ _ _ _)
   |(with_reducible exact nR.refl _)
   |(with_reducible exact nR.none _)
   |(with_reducible refine nR.ite ?_ ?_)
   |(with_reducible refine nR.bind ?_ (fun _=>?_))
   |exact ih0 _ _ _ _ _ _ _ _ _ _
   |exact nR.none _
   |refine nR.ite ?_ ?_
   |refine nR.bind ?_ (fun _=>?_)
theorem bY.mono:∀ k,nR (bY.f k) (bY.f (k+1)):=by
 intro k
 have ih0:=bY.R6 k
 unfold bY.f
 repeat' first
  |(with_reducible exact ih0 _ _ _ _ _ _ _ _ _ _)
  |(with_reducible exact nR.refl _)
  |(with_reducible exact nR.none _)
  |(with_reducible refine nR.ite ?_ ?_)
  |(with_reducible refine nR.bind ?_ (fun _=>?_))
  |exact ih0 _ _ _ _ _ _ _ _ _ _
  |exact nR.none _
  |refine nR.ite ?_ ?_
  |refine nR.bind ?_ (fun _=>?_)
set_option maxHeartbeats 8000000 in
set_option maxRecDepth 100000 in
theorem bY.calls (k:Nat) (r1:Int) (r2:Int) (r3:Int) (r4:Int) (r5:Int) (r6:Int) (r7:Int) (r8:List Bool) (r9:List (oV)) (r10:Int) (r11:Int) (r12:Int) (r13:Int) (r14:Int) (r15:Int) (r16:Int) (w:World) (h:bY.f k = some (r1,r2,r3,r4,r5,r6,r7,r8,r9,r10,r11,r12,r13,r14,r15,r16)):
 Calls Try.prog 61 #[] w fun e w'=>∃ v7_ v8_:Value,e = .returned (.tuple #[.agg #[U Z r1,U Z r2,U Z r3,U Z r4,U Z r5,U Z r6,U Z r7,v7_,v8_],.agg #[U Z r10,U Z r11,U Z r12,U Z r13,U Z r14,U Z r15,U Z r16]])∧Kd.R Kd.bool 4 w' w.heap.size (fun _=>True) v7_ r8∧Kd.R DD 40 w' w.heap.size (fun _=>True) v8_ r9∧Below w.heap.size w w':=by
 have zR:=Try.underlying25
 have Cb:=Try.underlying29
 have oo:=Try.underlying27
 have alc:=Try.underlying40
 have HB:=aa.mk (Below.refl w.heap.size w)
 have H:(if 16≤281474976710656 then (bY.l0 k 0 4 4 1000 10000 1 1 200 (List.replicate 16 false) ([]:List (oV))) else (none)) = some (r1,r2,r3,r4,r5,r6,r7,r8,r9,r10,r11,r12,r13,r14,r15,r16):=h
 clear h
 by_cases c1:16≤281474976710656
 ·rw [if_pos c1] at H
  have aPJ:=eq_true c1
  have aPK:decide (16≤281474976710656) = true:=decide_eq_true c1
  clear c1
  obtain ⟨Nn,Zl⟩:∃ y_:List Bool,y_ = (List.replicate 16 false):=⟨_,rfl⟩
  replace H:(bY.l0 k 0 4 4 1000 10000 1 1 200 Nn ([]:List (oV))) = some (r1,r2,r3,r4,r5,r6,r7,r8,r9,r10,r11,r12,r13,r14,r15,r16):=by first|(rw [Zl];with_reducible exact H)|(have Ku:=(Option.bind_some _ _).symm.trans H;rw [Zl];with_reducible exact Ku)|(have Ku:=(Option.bind_some _ _).symm.trans H;with_reducible exact Ku)|with_reducible exact H|(rw [Zl];exact H)|exact H
  have auy:=aa.mk Zl
  clear Zl
  have H':=aa.mk H
  clear H
  go_enter Try.func61,Try.ntmps61
  go_wp2_with (first|((with_reducible refine aG (N:=0) rfl ?_);refine az (by rfl) (N:=0) (by rfl) (cs:=#[U Z 0,U Z 0,U Z 0,U Z 0,U Z 0,U Z 0,U Z 0,.slice none 0 0,.slice none 0 0]) (t:=25) fM ?_;intro sQ hg w2 hbox hb;have wM:=aa.mk (hbox);have aS4:=dn HB hg;have aS5:=dn HB hg;replace HB:=dw HB hb;clear hb hbox hg)|((with_reducible refine aG (N:=1) rfl ?_);refine az (by rfl) (N:=1) (by rfl) (cs:=#[U Z 0,U Z 0,U Z 0,U Z 0,U Z 0,U Z 0,U Z 0]) (t:=29) fM ?_;intro zO hg w3 hbox hb;have Du:=aa.mk (hbox);have aS6:=dn HB hg;have aS7:=dn HB hg;have uS:=iq wM hg;have ql:=iw wM hg;replace wM:=bC wM hb;replace HB:=dw HB hb;clear hb hbox hg)|((with_reducible refine aG (N:=4) rfl ?_);refine Kd.auF Kd.bool _ 4 rfl (N:=4) rfl 22 _ _ rfl 16 rfl rfl Try.underlying22 (.bool false) 1 aEx rfl (by decide) (by omega) false (ok:=fun _=>True) (okp:=fun _=>True) rfl (fun _ hk=>hk) trivial (by omega) (by omega) (Below.refl _ _) (Nat.le_refl _) ?_;intro aVj w4 ho5 hb Lc ow;clear Lc ow;(first|rw [← auy.out] at ho5|(simp only [Int.reduceToNat] at ho5;rw [← auy.out] at ho5));have aeZ:=aa.mk (Kd.jH ho5 (fJ fu));replace wM:=bC wM hb;replace Du:=bC Du hb;replace HB:=dw HB hb;clear hb ho5;obtain ⟨Ao6,co6,eo6⟩:=Kd.jI aeZ.out;subst eo6)|((with_reducible refine aG (N:=2) rfl ?_);refine az (by rfl) (N:=2) (by rfl) (cs:=#[U Z 0,U Z 0,U Z 0,U Z 0,U Z 0,U Z 0,U Z 0,.slice none 0 0,.slice none 0 0]) (t:=25) fM ?_;intro EG hg w7 hbox hb;have EH:=aa.mk (hbox);have aS8:=dn HB hg;have aS9:=dn HB hg;have OV:=iq wM hg;have OW:=iw wM hg;have OX:=iq Du hg;have OY:=iw Du hg;replace aeZ:=uW aeZ hb;replace wM:=bC wM hb;replace Du:=bC Du hb;replace HB:=dw HB hb;clear hb hbox hg;have afx:=OW.out;have afy:=OV.out;have ak3:=OY.out;have ak4:=OX.out;obtain ⟨rG,rH,Lj,Ll,U1,U2,U3,abl,abm,rJ,rM,Lm,Lp,U4,U5,U6,abn,abo⟩:=iH EH.out))
  go_loopg [3] k (fun kq v3 w'=>∃ (oQ:Int) (sw:List (oV)) (J6:Value),v3 = U Z oQ∧aa (bY.l0 kq oQ 4 4 1000 10000 1 1 200 Nn sw = some (r1,r2,r3,r4,r5,r6,r7,r8,r9,r10,r11,r12,r13,r14,r15,r16))∧aa (kq≤k)∧aa (Kd.R Kd.bool 4 w' w.heap.size (fun _=>True) (.slice Ao6 Nn.length co6) Nn)∧aa (Kd.R DD 40 w' w.heap.size (fun _=>True) J6 sw)∧aa (w'.heap[sQ]? = some (.cells #[U Z 0,U Z 0,U Z 0,U Z 0,U Z 0,U Z 0,U Z 0,(.slice none 0 0),(.slice none 0 0)] 25 (0,0)))∧aa (w'.heap[zO]? = some (.cells #[U Z 0,U Z 0,U Z 0,U Z 0,U Z 0,U Z 0,U Z 0] 29 (0,0)))∧aa (w'.heap[EG]? = some (.cells #[U Z 4,U Z 4,U Z 1000,U Z 10000,U Z 1,U Z 1,U Z 200,(.slice Ao6 Nn.length co6),J6] 25 (0,0)))∧aa (Below w.heap.size w w'))
  case atStart=>exact ⟨(0),(([]:List (oV))),(.slice none 0 0),mg,H',⟨Nat.le_refl _⟩,⟨by (with_reducible repeat (first|apply Kd.jf|apply Kd.iQ|apply Kd.iE));exact Kd.jC (Kd.dM (p:=⟨EG,8,none⟩) (Kd.dM (p:=⟨EG,7,none⟩) (Kd.dM (p:=⟨EG,6,none⟩) (Kd.dM (p:=⟨EG,5,none⟩) (Kd.dM (p:=⟨EG,4,none⟩) (Kd.dM (p:=⟨EG,3,none⟩) (Kd.dM (p:=⟨EG,2,none⟩) (Kd.dM (p:=⟨EG,1,none⟩) (Kd.dM (p:=⟨EG,0,none⟩) (Kd.qw aeZ.out EH.out (by decide)) (fun _ hk=>hk.2) (U Z 4)) (fun _ hk=>hk.2) (U Z 4)) (fun _ hk=>hk.2) (U Z 1000)) (fun _ hk=>hk.2) (U Z 10000)) (fun _ hk=>hk.2) (U Z 1)) (fun _ hk=>hk.2) (U Z 1)) (fun _ hk=>hk.2) (U Z 200)) (fun _ hk=>hk.2) (.slice Ao6 Nn.length co6)) (fun _ hk=>hk.2) (.slice none 0 0)) (fun _ hk=>trivial)⟩,⟨N9⟩,⟨fB⟩,⟨fB⟩,⟨by (with_reducible repeat (first|refine au ?_ _|refine ag ?_|refine ae ?_ _));refine aI (cs:=#[U Z 4,U Z 4,U Z 1000,U Z 10000,U Z 1,U Z 1,U Z 200,.slice Ao6 Nn.length co6,.slice none 0 0]) ?_ 8 _ rfl;(with_reducible repeat (first|refine au ?_ _|refine ag ?_|refine ae ?_ _));refine aI (cs:=#[U Z 4,U Z 4,U Z 1000,U Z 10000,U Z 1,U Z 1,U Z 200,.slice none 0 0,.slice none 0 0]) ?_ 7 _ rfl;(with_reducible repeat (first|refine au ?_ _|refine ag ?_|refine ae ?_ _));refine aI (cs:=#[U Z 4,U Z 4,U Z 1000,U Z 10000,U Z 1,U Z 1,U Z 0,.slice none 0 0,.slice none 0 0]) ?_ 6 _ rfl;(with_reducible repeat (first|refine au ?_ _|refine ag ?_|refine ae ?_ _));refine aI (cs:=#[U Z 4,U Z 4,U Z 1000,U Z 10000,U Z 1,U Z 0,U Z 0,.slice none 0 0,.slice none 0 0]) ?_ 5 _ rfl;(with_reducible repeat (first|refine au ?_ _|refine ag ?_|refine ae ?_ _));refine aI (cs:=#[U Z 4,U Z 4,U Z 1000,U Z 10000,U Z 0,U Z 0,U Z 0,.slice none 0 0,.slice none 0 0]) ?_ 4 _ rfl;(with_reducible repeat (first|refine au ?_ _|refine ag ?_|refine ae ?_ _));refine aI (cs:=#[U Z 4,U Z 4,U Z 1000,U Z 0,U Z 0,U Z 0,U Z 0,.slice none 0 0,.slice none 0 0]) ?_ 3 _ rfl;(with_reducible repeat (first|refine au ?_ _|refine ag ?_|refine ae ?_ _));refine aI (cs:=#[U Z 4,U Z 4,U Z 0,U Z 0,U Z 0,U Z 0,U Z 0,.slice none 0 0,.slice none 0 0]) ?_ 2 _ rfl;(with_reducible repeat (first|refine au ?_ _|refine ag ?_|refine ae ?_ _));refine aI (cs:=#[U Z 4,U Z 0,U Z 0,U Z 0,U Z 0,U Z 0,U Z 0,.slice none 0 0,.slice none 0 0]) ?_ 1 _ rfl;(with_reducible repeat (first|refine au ?_ _|refine ag ?_|refine ae ?_ _));refine aI (cs:=#[U Z 0,U Z 0,U Z 0,U Z 0,U Z 0,U Z 0,U Z 0,.slice none 0 0,.slice none 0 0]) ?_ 0 _ rfl;(with_reducible repeat (first|refine au ?_ _|refine ag ?_|refine ae ?_ _));exact EH.out⟩,⟨fu⟩⟩
  case round =>
   clear H'
   try clear c1
   try clear aPJ
   try clear aPK
   try clear p2
   try clear c6
   try clear c8
   try clear c9
   try clear rG rH Lj Ll U1 U2 U3 abl abm rJ rM Lm Lp U4 U5 U6 abn abo
   obtain ⟨oQ,sw,J6,rfl,HA,G5,EI,xS,wM,Du,EH,HB⟩:=hrel
   cases gk with
   |zero=>exact absurd HA.out (by simp [bY.l0])
   |succ k1 =>
    have H:=HA.out
    clear HA
    simp only [bY.l0] at H
    by_cases c11:oQ < 16
    ·rw [if_pos c11] at H
     have GN:decide (oQ < 16) = true:=decide_eq_true c11
     clear c11
     by_cases c12:sw.length < 4398046511104
     ·rw [if_pos c12] at H
      have aFq:=aa.mk c12
      clear c12
      obtain ⟨akb,Zm⟩:∃ y_:List (oV),y_ = (sw++[(⟨(⟨(-100),100⟩:lu),(⟨0,0⟩:lu)⟩:oV)]):=⟨_,rfl⟩
      replace H:(bY.l0 k1 (wrap64 (oQ+1)) 4 4 1000 10000 1 1 200 Nn akb) = some (r1,r2,r3,r4,r5,r6,r7,r8,r9,r10,r11,r12,r13,r14,r15,r16):=by first|(rw [Zm];with_reducible exact H)|(have Ku:=(Option.bind_some _ _).symm.trans H;rw [Zm];with_reducible exact Ku)|(have Ku:=(Option.bind_some _ _).symm.trans H;with_reducible exact Ku)|with_reducible exact H|(rw [Zm];exact H)|exact H
      have aFr:=aa.mk Zm
      clear Zm
      have H':=aa.mk H
      clear H
      have XX:=OW.out
      have XY:=OV.out
      have XZ:=OY.out
      have X0:=OX.out
      obtain ⟨nI,nJ,rC,rD,tu,tC,yh,Aw,Ay,nK,nL,rE,rF,tF,tH,yj,Az,AA⟩:=iH EH.out
      go_wp2_with (first|((with_reducible refine FP (b:=.append) (xs:=#[.tmp 11,.tmp 14]) rfl ?_);at_builtin;refine Kd.Q8 DD (w0:=w) w.heap.size rfl (.tmp 11) (.tmp 14) 23 40 (.agg #[(U Z 0),(U Z 0),(U Z 0),(U Z 0)]) 32 rfl Try.underlying23 awi rfl (by decide) (by omega) J6 sw (⟨(⟨(-100),100⟩:lu),(⟨0,0⟩:lu)⟩:oV) [U Z (-100),U Z 100,U Z 0,U Z 0] (fun _=>True) (fun _=>False) rfl rfl ?aP (fun _ hk=>hk.elim) ?aF ?aO ?aB ?aS ?aL ?_;(case aP=>exact arp _ _ _ (⟨(⟨(-100),100⟩:lu),(⟨0,0⟩:lu)⟩:oV));(case aB=>exact fu);(case aF=>exact (fun _ _=>trivial));(case aO=>exact aEv);(case aS=>exact (fJ fu));(case aL=>have:=aFq.out;omega);intro aVl w16 ho hb hg hat;rw [← aFr.out] at ho;have x9:=aa.mk (Kd.aky (by (with_reducible repeat (first|apply Kd.jf|apply Kd.iQ|apply Kd.iE));exact EI.out) (Kd.aa5 aEv) (by decide) hg);have yc:=aa.mk (oW (g:=sQ) (o:=.cells #[U Z 0,U Z 0,U Z 0,U Z 0,U Z 0,U Z 0,U Z 0,.slice none 0 0,.slice none 0 0] 25 (0,0)) fB hg (Kd.ZG xS.out wM.out (by decide)));have yf:=aa.mk (oW (g:=zO) (o:=.cells #[U Z 0,U Z 0,U Z 0,U Z 0,U Z 0,U Z 0,U Z 0] 29 (0,0)) fB hg (Kd.ZG xS.out Du.out (by decide)));have yg:=aa.mk (oW (g:=EG) (o:=.cells #[U Z 4,U Z 4,U Z 1000,U Z 10000,U Z 1,U Z 1,U Z 200,.slice Ao6 Nn.length co6,J6] 25 (0,0)) fB hg (Kd.ZG xS.out EH.out (by decide)));have Bf:=aa.mk (hb);have Li:=aa.mk (ho);clear EI;clear wM;clear Du;clear EH;clear HB;clear xS;have EI:=x9;have wM:=yc;have Du:=yf;have EH:=yg;have HB:=Bf;have auz:=Li;clear x9 yc yf yg Bf Li;clear ho hb hg hat;obtain ⟨awx,awy,aPL⟩:=Kd.jI auz.out;subst aPL;obtain ⟨Ct,Cu,Ff,Fg,QV,QW,QX,aeH,aeI,Cv,Cw,Fh,Fj,QY,QZ,Q0,aeJ,aeK⟩:=iH EH.out))
      go_roundg k1
      case measure=>have:=G5.out;omega
      case rel=>exact ⟨(wrap64 (oQ+1)),(akb),(.slice awx akb.length awy),mg,H',⟨zq7⟩,⟨by (with_reducible repeat (first|apply Kd.jf|apply Kd.iQ|apply Kd.iE));exact Kd.jC (Kd.dM (p:=⟨EG,8,none⟩) (Kd.qw EI.out EH.out (by decide)) (fun _ hk=>hk.2) (.slice awx akb.length awy)) (fun _ hk=>trivial)⟩,⟨by (with_reducible repeat (first|apply Kd.jf|apply Kd.iQ|apply Kd.iE));exact Kd.jC (Kd.dM (p:=⟨EG,8,none⟩) (Kd.qw auz.out EH.out (by decide)) (fun _ hk=>hk.2) (.slice awx akb.length awy)) (fun _ hk=>trivial)⟩,⟨fB⟩,⟨fB⟩,⟨by (with_reducible repeat (first|refine au ?_ _|refine ag ?_|refine ae ?_ _));refine aI (cs:=#[U Z 4,U Z 4,U Z 1000,U Z 10000,U Z 1,U Z 1,U Z 200,.slice Ao6 Nn.length co6,J6]) ?_ 8 _ rfl;(with_reducible repeat (first|refine au ?_ _|refine ag ?_|refine ae ?_ _));exact EH.out⟩,⟨fu⟩⟩
     ·rw [if_neg c12] at H
      exact absurd H (by simp)
    ·rw [if_neg c11] at H
     have GN:decide (oQ < 16) = false:=decide_eq_false c11
     clear c11
     simp only [Option.some.injEq,Prod.mk.injEq] at H
     obtain ⟨rfl,rfl,rfl,rfl,rfl,rfl,rfl,rfl,rfl,rfl,rfl,rfl,rfl,rfl,rfl,rfl⟩:=H
     have aic:=OW.out
     have aid:=OV.out
     have atS:=OY.out
     have atT:=OX.out
     obtain ⟨pO,pQ,uf,ug,C8,C9,Da,FY,FZ,pR,pU,uh,ui,Db,Dc,De,F3,F4⟩:=iH EH.out
     have abw:=uS.out
     have abx:=ql.out
     obtain ⟨EY,EZ,L6,L8,L9,Ma,Mc,Qz,QA,E5,E8,Md,Me,Mf,Mg,Mh,QB,QC⟩:=iH wM.out
     obtain ⟨awz,awC,aPM⟩:=Kd.jI xS.out
     subst aPM
     obtain ⟨yO,yP,Df,Dh,F5,F6,F7,yQ,yR,Di,Dj,F8,F9,Ga⟩:=jb Du.out
     go_wp2
     refine bodyPost_ret (ZE rfl _ _ sQ zO 25 29 #[U Z 4,U Z 4,U Z 1000,U Z 10000,U Z 1,U Z 1,U Z 200,.slice Ao6 Nn.length co6,.slice awz sw.length awC] #[U Z 300,U Z 1000,U Z 50,U Z 60,U Z 5,U Z 6,U Z 100] (0,0) (0,0) _ _ rfl (by (with_reducible repeat (first|refine au ?_ _|refine ag ?_|refine ae ?_ _));refine aj ?_ uS.out _;(with_reducible repeat (first|refine au ?_ _|refine ag ?_|refine ae ?_ _));refine aj ?_ uS.out _;(with_reducible repeat (first|refine au ?_ _|refine ag ?_|refine ae ?_ _));refine aj ?_ uS.out _;(with_reducible repeat (first|refine au ?_ _|refine ag ?_|refine ae ?_ _));refine aj ?_ uS.out _;(with_reducible repeat (first|refine au ?_ _|refine ag ?_|refine ae ?_ _));refine aj ?_ uS.out _;(with_reducible repeat (first|refine au ?_ _|refine ag ?_|refine ae ?_ _));refine aj ?_ uS.out _;(with_reducible repeat (first|refine au ?_ _|refine ag ?_|refine ae ?_ _));refine aj ?_ uS.out _;(with_reducible repeat (first|refine au ?_ _|refine ag ?_|refine ae ?_ _));refine aI (cs:=#[U Z 4,U Z 4,U Z 1000,U Z 10000,U Z 1,U Z 1,U Z 200,.slice Ao6 Nn.length co6,.slice none 0 0]) ?_ 8 _ rfl;(with_reducible repeat (first|refine au ?_ _|refine ag ?_|refine ae ?_ _));refine aI (cs:=#[U Z 4,U Z 4,U Z 1000,U Z 10000,U Z 1,U Z 1,U Z 200,.slice none 0 0,.slice none 0 0]) ?_ 7 _ rfl;(with_reducible repeat (first|refine au ?_ _|refine ag ?_|refine ae ?_ _));refine aI (cs:=#[U Z 4,U Z 4,U Z 1000,U Z 10000,U Z 1,U Z 1,U Z 0,.slice none 0 0,.slice none 0 0]) ?_ 6 _ rfl;(with_reducible repeat (first|refine au ?_ _|refine ag ?_|refine ae ?_ _));refine aI (cs:=#[U Z 4,U Z 4,U Z 1000,U Z 10000,U Z 1,U Z 0,U Z 0,.slice none 0 0,.slice none 0 0]) ?_ 5 _ rfl;(with_reducible repeat (first|refine au ?_ _|refine ag ?_|refine ae ?_ _));refine aI (cs:=#[U Z 4,U Z 4,U Z 1000,U Z 10000,U Z 0,U Z 0,U Z 0,.slice none 0 0,.slice none 0 0]) ?_ 4 _ rfl;(with_reducible repeat (first|refine au ?_ _|refine ag ?_|refine ae ?_ _));refine aI (cs:=#[U Z 4,U Z 4,U Z 1000,U Z 0,U Z 0,U Z 0,U Z 0,.slice none 0 0,.slice none 0 0]) ?_ 3 _ rfl;(with_reducible repeat (first|refine au ?_ _|refine ag ?_|refine ae ?_ _));refine aI (cs:=#[U Z 4,U Z 4,U Z 0,U Z 0,U Z 0,U Z 0,U Z 0,.slice none 0 0,.slice none 0 0]) ?_ 2 _ rfl;(with_reducible repeat (first|refine au ?_ _|refine ag ?_|refine ae ?_ _));refine aI (cs:=#[U Z 4,U Z 0,U Z 0,U Z 0,U Z 0,U Z 0,U Z 0,.slice none 0 0,.slice none 0 0]) ?_ 1 _ rfl;(with_reducible repeat (first|refine au ?_ _|refine ag ?_|refine ae ?_ _));refine aI (cs:=#[U Z 0,U Z 0,U Z 0,U Z 0,U Z 0,U Z 0,U Z 0,.slice none 0 0,.slice none 0 0]) ?_ 0 _ rfl;(with_reducible repeat (first|refine au ?_ _|refine ag ?_|refine ae ?_ _));exact wM.out) Try.underlying25 rfl aY rfl (by (with_reducible repeat (first|refine au ?_ _|refine ag ?_|refine ae ?_ _));refine aI (cs:=#[U Z 300,U Z 1000,U Z 50,U Z 60,U Z 5,U Z 6,U Z 0]) ?_ 6 _ rfl;(with_reducible repeat (first|refine au ?_ _|refine ag ?_|refine ae ?_ _));refine aI (cs:=#[U Z 300,U Z 1000,U Z 50,U Z 60,U Z 5,U Z 0,U Z 0]) ?_ 5 _ rfl;(with_reducible repeat (first|refine au ?_ _|refine ag ?_|refine ae ?_ _));refine aI (cs:=#[U Z 300,U Z 1000,U Z 50,U Z 60,U Z 0,U Z 0,U Z 0]) ?_ 4 _ rfl;(with_reducible repeat (first|refine au ?_ _|refine ag ?_|refine ae ?_ _));refine aI (cs:=#[U Z 300,U Z 1000,U Z 50,U Z 0,U Z 0,U Z 0,U Z 0]) ?_ 3 _ rfl;(with_reducible repeat (first|refine au ?_ _|refine ag ?_|refine ae ?_ _));refine aI (cs:=#[U Z 300,U Z 1000,U Z 0,U Z 0,U Z 0,U Z 0,U Z 0]) ?_ 2 _ rfl;(with_reducible repeat (first|refine au ?_ _|refine ag ?_|refine ae ?_ _));refine aI (cs:=#[U Z 300,U Z 0,U Z 0,U Z 0,U Z 0,U Z 0,U Z 0]) ?_ 1 _ rfl;(with_reducible repeat (first|refine au ?_ _|refine ag ?_|refine ae ?_ _));refine aI (cs:=#[U Z 0,U Z 0,U Z 0,U Z 0,U Z 0,U Z 0,U Z 0]) ?_ 0 _ rfl;(with_reducible repeat (first|refine au ?_ _|refine ag ?_|refine ae ?_ _));refine aj ?_ ql.out _;(with_reducible repeat (first|refine au ?_ _|refine ag ?_|refine ae ?_ _));refine aj ?_ ql.out _;(with_reducible repeat (first|refine au ?_ _|refine ag ?_|refine ae ?_ _));refine aj ?_ ql.out _;(with_reducible repeat (first|refine au ?_ _|refine ag ?_|refine ae ?_ _));refine aj ?_ ql.out _;(with_reducible repeat (first|refine au ?_ _|refine ag ?_|refine ae ?_ _));refine aj ?_ ql.out _;(with_reducible repeat (first|refine au ?_ _|refine ag ?_|refine ae ?_ _));refine aj ?_ ql.out _;(with_reducible repeat (first|refine au ?_ _|refine ag ?_|refine ae ?_ _));refine aj ?_ ql.out _;(with_reducible repeat (first|refine au ?_ _|refine ag ?_|refine ae ?_ _));refine aj ?_ ql.out _;(with_reducible repeat (first|refine au ?_ _|refine ag ?_|refine ae ?_ _));refine aj ?_ ql.out _;(with_reducible repeat (first|refine au ?_ _|refine ag ?_|refine ae ?_ _));exact Du.out) Try.underlying29 rfl aY) rfl ?_
     exact ⟨_,_,kL,by (with_reducible repeat (first|apply Kd.jf|apply Kd.iQ|apply Kd.iE));exact Kd.jC (Kd.dM (p:=⟨zO,6,none⟩) (Kd.dM (p:=⟨zO,5,none⟩) (Kd.dM (p:=⟨zO,4,none⟩) (Kd.dM (p:=⟨zO,3,none⟩) (Kd.dM (p:=⟨zO,2,none⟩) (Kd.dM (p:=⟨zO,1,none⟩) (Kd.dM (p:=⟨zO,0,none⟩) (Kd.dM (p:=⟨sQ,8,none⟩) (Kd.dM (p:=⟨sQ,7,none⟩) (Kd.dM (p:=⟨sQ,6,none⟩) (Kd.dM (p:=⟨sQ,5,none⟩) (Kd.dM (p:=⟨sQ,4,none⟩) (Kd.dM (p:=⟨sQ,3,none⟩) (Kd.dM (p:=⟨sQ,2,none⟩) (Kd.dM (p:=⟨sQ,1,none⟩) (Kd.dM (p:=⟨sQ,0,none⟩) (Kd.qw (Kd.qw EI.out wM.out (by decide)) Du.out (by decide)) (fun _ hk=>hk.1.2) (U Z 4)) (fun _ hk=>hk.1.2) (U Z 4)) (fun _ hk=>hk.1.2) (U Z 1000)) (fun _ hk=>hk.1.2) (U Z 10000)) (fun _ hk=>hk.1.2) (U Z 1)) (fun _ hk=>hk.1.2) (U Z 1)) (fun _ hk=>hk.1.2) (U Z 200)) (fun _ hk=>hk.1.2) (.slice Ao6 Nn.length co6)) (fun _ hk=>hk.1.2) (.slice awz sw.length awC)) (fun _ hk=>hk.2) (U Z 300)) (fun _ hk=>hk.2) (U Z 1000)) (fun _ hk=>hk.2) (U Z 50)) (fun _ hk=>hk.2) (U Z 60)) (fun _ hk=>hk.2) (U Z 5)) (fun _ hk=>hk.2) (U Z 6)) (fun _ hk=>hk.2) (U Z 100)) (fun _ hk=>trivial),by (with_reducible repeat (first|apply Kd.jf|apply Kd.iQ|apply Kd.iE));exact Kd.jC (Kd.dM (p:=⟨zO,6,none⟩) (Kd.dM (p:=⟨zO,5,none⟩) (Kd.dM (p:=⟨zO,4,none⟩) (Kd.dM (p:=⟨zO,3,none⟩) (Kd.dM (p:=⟨zO,2,none⟩) (Kd.dM (p:=⟨zO,1,none⟩) (Kd.dM (p:=⟨zO,0,none⟩) (Kd.dM (p:=⟨sQ,8,none⟩) (Kd.dM (p:=⟨sQ,7,none⟩) (Kd.dM (p:=⟨sQ,6,none⟩) (Kd.dM (p:=⟨sQ,5,none⟩) (Kd.dM (p:=⟨sQ,4,none⟩) (Kd.dM (p:=⟨sQ,3,none⟩) (Kd.dM (p:=⟨sQ,2,none⟩) (Kd.dM (p:=⟨sQ,1,none⟩) (Kd.dM (p:=⟨sQ,0,none⟩) (Kd.qw (Kd.qw xS.out wM.out (by decide)) Du.out (by decide)) (fun _ hk=>hk.1.2) (U Z 4)) (fun _ hk=>hk.1.2) (U Z 4)) (fun _ hk=>hk.1.2) (U Z 1000)) (fun _ hk=>hk.1.2) (U Z 10000)) (fun _ hk=>hk.1.2) (U Z 1)) (fun _ hk=>hk.1.2) (U Z 1)) (fun _ hk=>hk.1.2) (U Z 200)) (fun _ hk=>hk.1.2) (.slice Ao6 Nn.length co6)) (fun _ hk=>hk.1.2) (.slice awz sw.length awC)) (fun _ hk=>hk.2) (U Z 300)) (fun _ hk=>hk.2) (U Z 1000)) (fun _ hk=>hk.2) (U Z 50)) (fun _ hk=>hk.2) (U Z 60)) (fun _ hk=>hk.2) (U Z 5)) (fun _ hk=>hk.2) (U Z 6)) (fun _ hk=>hk.2) (U Z 100)) (fun _ hk=>trivial),fu⟩
 ·rw [if_neg c1] at H
  exact absurd H (by simp)
def kz.f (a0:Int) (a1:Int):Option (Int × Int × Int × Int):=some (a0,a0,a1,a1)
set_option maxHeartbeats 8000000 in
set_option maxRecDepth 100000 in
theorem kz.calls (a0:Int) (a1:Int) (r1:Int) (r2:Int) (r3:Int) (r4:Int) (w:World) (h:kz.f a0 a1 = some (r1,r2,r3,r4)):
 Calls Try.prog 62 #[U Z a0,U Z a1] w fun e w'=>e = .returned (.agg #[U Z r1,U Z r2,U Z r3,U Z r4])∧Below w.heap.size w w':=by
 have oP:=Try.underlying31
 have oo:=Try.underlying27
 have HB:=aa.mk (Below.refl w.heap.size w)
 have H:(some (a0,a0,a1,a1)) = some (r1,r2,r3,r4):=h
 clear h
 simp only [Option.some.injEq,Prod.mk.injEq] at H
 obtain ⟨rfl,rfl,rfl,rfl⟩:=H
 go_enter Try.func62,Try.ntmps62
 go_wp2_with (first|((with_reducible refine aG (N:=4) rfl ?_);refine az (by rfl) (N:=4) (by rfl) (cs:=#[U Z 0,U Z 0,U Z 0,U Z 0]) (t:=31) fM ?_;intro aFs hg w3 hbox hb;have auA:=aa.mk (hbox);have aTa:=dn HB hg;have aTb:=dn HB hg;replace HB:=dw HB hb;clear hb hbox hg;obtain ⟨Z0,Z4,ahV,ahW,Z5,Z6,ahX,ahY⟩:=gD auA.out))
 refine bodyPost_ret (results_cell_row rfl _ _ aFs 31 #[U Z a0,U Z a0,U Z a1,U Z a1] (0,0) _ rfl (by (with_reducible repeat (first|refine au ?_ _|refine ag ?_|refine ae ?_ _));refine aI (cs:=#[U Z a0,U Z a0,U Z a1,U Z 0]) ?_ 3 _ rfl;(with_reducible repeat (first|refine au ?_ _|refine ag ?_|refine ae ?_ _));refine aI (cs:=#[U Z a0,U Z a0,U Z 0,U Z 0]) ?_ 2 _ rfl;(with_reducible repeat (first|refine au ?_ _|refine ag ?_|refine ae ?_ _));refine aI (cs:=#[U Z a0,U Z 0,U Z 0,U Z 0]) ?_ 1 _ rfl;(with_reducible repeat (first|refine au ?_ _|refine ag ?_|refine ae ?_ _));refine aI (cs:=#[U Z 0,U Z 0,U Z 0,U Z 0]) ?_ 0 _ rfl;(with_reducible repeat (first|refine au ?_ _|refine ag ?_|refine ae ?_ _));exact auA.out) Try.underlying31 rfl aY) rfl ?_
 exact ⟨kL,fu⟩
end Go.Proofs.Ytmhaiihjfgfaoaa.Pr
end
section
namespace Go.Proofs.YtmhaiihjfgfaoaaW.Round
open Go.RowKit Go.Proofs.YtmhaiihjfgfaoaaW.PrintWords Go.Proofs.YtmhaiihjfgfaoaaW.PrintLast
section
variable {P:Program} {n l:Nat}
theorem aa0 {o:Oper} {a:Act} {w:World} {K:Act→World→Prop} {Q:Exit→Act→World→Prop} (hd:∀ c,o.op≠.defer c) (h:o.wp P a w K Q):o.wpIn (Fence.wide.inRound l) n P a w K Q:=by
 refine ⟨fun _ _=>trivial,?_⟩
 rw [Oper.semAt_eq _ _ _ hd]
 unfold Oper.wp at h
 generalize (execOp a.eval o).run P w = r at h
 cases r with
 |ok x w' =>
  cases x with
  |value v=>exact h
  |skip=>exact h
  |defer d=>exact h
  |enter f args=>exact ⟨fun h0=>(by cases h0),CallsIn.inRound l (callsIn_wide.2 h)⟩
  |row row args=>exact ⟨fun h0=>(by cases h0),fun c cs _=>by obtain ⟨v,w2,r,s⟩:=h c cs;exact ⟨v,w2,r,stepsIn_wide.2 s⟩⟩
  |_=>exact h.elim
 |halt x w' =>
  cases x with
  |panic v=>exact h
  |_=>exact h.elim
def Q5 (ops:Array Oper):Bool:=ops.all fun o=>match o.op with|.defer _=>false|_=>true
theorem Zn {ops:Array Oper} (h:Q5 ops = true) {i:Nat} {o:Oper} (ho:ops[i]? = some o):∀ c,o.op≠.defer c:=by
 intro c e
 unfold Q5 at h
 rw [Array.all_eq_true] at h
 obtain ⟨hi,he⟩:=Array.getElem?_eq_some_iff.1 ho
 have:=h i hi
 rw [he,e] at this
 simp at this
theorem Dv {ops:Array Oper} {Q:Exit→Act→World→Prop} {md:Region.Mode} (hn:Q5 ops = true) (hQ:¬ LetsOut Q):∀ (fuel:Nat) (listed:Array Bool) (a:Act) (w:World),
 wpAny P md ops Q fuel listed a w→wpAnyIn (Fence.wide.inRound l) n P md ops Q fuel listed a w
 |0,_,_,_,h=>h
 |fuel+1,listed,a,w,h=>by
  refine ⟨h.1,fun i hi=>?_⟩
  have h1:=h.2 i hi
  unfold wpOp at h1
  unfold wpOpIn
  cases ho:ops[i]? with
  |none =>
   rw [ho] at h1
   exact Dv hn hQ fuel _ _ _ h1
  |some o =>
   rw [ho] at h1
   dsimp only at h1 ⊢
   split at h1
   ·rename_i hw
    rw [if_pos hw]
    rcases h1 with h1|⟨_,h1⟩
    ·exact Oper.wpIn_mono (fun a w h=>Dv hn hQ fuel _ a w h) (aa0 (Zn hn ho) h1)
    ·exact absurd h1 hQ
   ·rename_i hw
    rw [if_neg hw]
    exact ⟨fun _ _=>trivial,Dv hn hQ fuel _ _ _ h1⟩
theorem Gy {α:Type} {B:Nat} {Kp:World→World→Prop} {I:List α→World→Prop} {Ix:Code→List α→World→Prop} {xs:List α} {W:World}:¬ LetsOut (ownPostG B Kp I Ix xs W):=fun ⟨_,_,h⟩=>h
theorem z8 {id:Nat} {Q:Exit→Act→World→Prop} (h:¬ LetsOut Q):¬ LetsOut (Exit.inBlock id Q):=fun ⟨a,w,h1⟩=>h ⟨a,w,h1⟩
theorem M9 {K:Act→World→Prop} {Q:Exit→Act→World→Prop} (h:¬ LetsOut Q):¬ LetsOut (Exit.then K Q):=fun ⟨a,w,h1⟩=>h ⟨a,w,h1⟩
theorem RV {ops:Array Oper} {Q:Exit→Act→World→Prop} {S:World→Prop} {ds:List Nat} {id m:Nat} {a:Act} {w:World} (lit:Array Bool) (hd:Q5 ops = true) (hQ:¬ LetsOut Q) (hm:P.follows .mixedOrders = true) (hn:ops.size = m) (hl:Array.replicate m false = lit) (hS:S w.drew)
 (h:S w.drew→eu P .any ops Q S ds m lit a w.drew):(Code.region id ops true).wpIn (Fence.wide.inRound l) n P Q a w:=by
 subst hn
 subst hl
 exact wpIn_region_any hm (Dv hd hQ _ _ _ _ (DT _ _ _ _ (h hS)))
def auB (K:Act→World→Prop):Exit→Act→World→Prop
 |.normal,a,w=>K a w
 |_,_,_=>False
theorem vZ {Q:Exit→Act→World→Prop} {a:Act} {w:World} (h:Q .normal a w):auB (Q .normal) .normal a w:=h
theorem Eu {F:Fence} {c:Code} {Q:Exit→Act→World→Prop} {a:Act} {w:World} (h:c.wpIn F n P (auB (Q .normal)) a w):c.wpIn F n P Q a w:=wpIn_mono h (fun e a w h=>by cases e <;> first|exact h|exact h.elim)
end
end Go.Proofs.YtmhaiihjfgfaoaaW.Round
end
section
namespace Go.Proofs.Ytmhaiihjfgfaoaa.Gl
open Go.RowKit Go.Shelf Go.Proofs.YtmhaiihjfgfaoaaW.PrintWords Go.Proofs.YtmhaiihjfgfaoaaW.PrintLast Go.Proofs.YtmhaiihjfgfaoaaW.PrintMore Go.Proofs.Ytmhaiihjfgfaoaa.Pr Go.Proofs.YtmhaiihjfgfaoaaW.Round
set_option linter.unusedVariables false
set_option linter.unusedSimpArgs false
attribute [local go_sem] eD eF fD fE eG
structure j3 where
 nx:Int
 ny:Int
 cell:Int
 slot:Int
 slots:Int
 layers:Int
 most:Int
 shores:List Bool
 currents:List oV
structure nz where
 speed:Int
 dive:Int
 use:lu
 drift:lu
 reserve:Int
def eT (W:World) (b:Nat) (c:Array Value) (t:TypeId):Prop:=W.heap[b]? = some (.cells c t (0,0))
theorem eT.below {W W1:World} {b:Nat} {c:Array Value} {t:TypeId} (h:eT W b c t) (hb:Below W.heap.size W W1):eT W1 b c t:=(hb.block b (Array.getElem?_eq_some_iff.1 h).1).trans h
def sI (v:Value) (w:World) (e:Ending) (w':World):Prop:=e = .returned v∧Below w.heap.size w w'
def jo (W:World) (b:Nat) (s:j3) (v:nz):Prop:=∃ A7 c7 A8 c8,eT W b #[U Z s.nx,U Z s.ny,U Z s.cell,U Z s.slot,U Z s.slots,U Z s.layers,U Z s.most,.slice A7 s.shores.length c7,.slice A8 s.currents.length c8,U Z v.speed,U Z v.dive,U Z v.use.f0,U Z v.use.f1,U Z v.drift.f0,U Z v.drift.f1,U Z v.reserve] 110∧s.shores.length≤c7∧Kd.C Kd.bool W A7 s.shores.length s.shores∧s.currents.length≤c8∧Kd.C DD W A8 s.currents.length s.currents
theorem jo.below {W W1:World} {b:Nat} {s:j3} {v:nz} (h:jo W b s v) (hb:Below W.heap.size W W1):jo W1 b s v:=by
 obtain ⟨A7,c7,A8,c8,h1,h2,h3,h4,h5⟩:=h
 exact ⟨A7,c7,A8,c8,h1.below hb,h2,Kd.bz h3 hb,h4,Kd.bz h5 hb⟩
structure Dy (s:j3):Prop where
 nx:1≤s.nx∧s.nx≤12
 ny:1≤s.ny∧s.ny≤12
 cell:100≤s.cell∧s.cell≤65536
 slot:1≤s.slot∧s.slot≤1048576
 slots:1≤s.slots∧s.slots≤16
 layers:1≤s.layers∧s.layers≤3
 most:0≤s.most∧s.most≤5000
structure wO (v:nz):Prop where
 speed:0≤v.speed∧v.speed≤5000
 dive:1≤v.dive∧v.dive≤131072
theorem Xr {a b c d:Int} (h:a = c) (h2:b = d):Ending.returned (.tuple #[U Z a,U Z b]) = Ending.returned (.tuple #[U Z c,U Z d]):=by rw [h,h2]
theorem iF {a b m n:Int} (h0:0≤a) (h1:a≤m) (h2:0≤b) (h3:b≤n):0≤a*b∧a*b≤m*n :=
 ⟨Int.mul_nonneg h0 h2,Int.le_trans (Int.mul_le_mul_of_nonneg_right h1 h2) (Int.mul_le_mul_of_nonneg_left h3 (Int.le_trans h0 h1))⟩
def iI (s:j3) (x:dO):Bool:=decide (0≤x.f0.f0) && decide (0≤x.f1.f0) && decide (x.f0.f1≤s.nx*s.cell) && decide (x.f1.f1≤s.ny*s.cell)
def sJ (s:j3) (t u:Int):Bool:=decide (0≤t) && decide (u≤s.slots*s.slot)
set_option maxRecDepth 100000 in
set_option maxHeartbeats 2000000 in
theorem Xt (b:Nat) (s:j3) (v:nz) (x:dO) (w:World) (hT:jo w b s v) (hS:Dy s):
 Calls Try.prog 68 #[.pointer (some ⟨b,0,none⟩),.agg #[U Z x.f0.f0,U Z x.f0.f1,U Z x.f1.f0,U Z x.f1.f1]] w (sI (.bool (iI s x)) w):=by
 obtain ⟨A7,c7,A8,c8,hB,_⟩:=hT
 have hx:=iF (show 0≤s.nx by have:=hS.nx;omega) hS.nx.2 (show 0≤s.cell by have:=hS.cell;omega) hS.cell.2
 have hy:=iF (show 0≤s.ny by have:=hS.ny;omega) hS.ny.2 (show 0≤s.cell by have:=hS.cell;omega) hS.cell.2
 clear hS
 have hC0:∀ o_,(w.alloc o_).cell? ⟨b,0,none⟩ = some (U Z s.nx):=fun o_=>(af (ae hB o_) 0).trans rfl
 have hC1:∀ o_,(w.alloc o_).cell? ⟨b,1,none⟩ = some (U Z s.ny):=fun o_=>(af (ae hB o_) 1).trans rfl
 have hC2:∀ o_,(w.alloc o_).cell? ⟨b,2,none⟩ = some (U Z s.cell):=fun o_=>(af (ae hB o_) 2).trans rfl
 by_cases q0:0≤x.f0.f0
 ·have q0_:decide (0≤x.f0.f0) = true:=decide_eq_true q0
  by_cases q1:0≤x.f1.f0
  ·have q1_:decide (0≤x.f1.f0) = true:=decide_eq_true q1
   by_cases q2:x.f0.f1≤s.nx*s.cell
   ·have q2_:decide (x.f0.f1≤s.nx*s.cell) = true:=decide_eq_true q2
    by_cases q3:x.f1.f1≤s.ny*s.cell
    ·have q3_:decide (x.f1.f1≤s.ny*s.cell) = true:=decide_eq_true q3
     have HR:Hid (iI s x = true):=Lib.hid (by unfold iI;simp only [q0_,q1_,q2_,q3_];rfl)
     go_enter Try.func68,Try.ntmps68
     go_wp2
     go_quiet (fail)
     go_wp2
     go_ret
     exact ⟨R3,R4⟩
    ·have q3_:decide (x.f1.f1≤s.ny*s.cell) = false:=decide_eq_false q3
     have HR:Hid (iI s x = false):=Lib.hid (by unfold iI;simp only [q0_,q1_,q2_,q3_];rfl)
     go_enter Try.func68,Try.ntmps68
     go_wp2
     go_quiet (fail)
     go_wp2
     go_ret
     exact ⟨R3,R4⟩
   ·have q2_:decide (x.f0.f1≤s.nx*s.cell) = false:=decide_eq_false q2
    have HR:Hid (iI s x = false):=Lib.hid (by unfold iI;simp only [q0_,q1_,q2_];rfl)
    go_enter Try.func68,Try.ntmps68
    go_wp2
    go_quiet (fail)
    go_wp2
    go_ret
    exact ⟨R3,R4⟩
  ·have q1_:decide (0≤x.f1.f0) = false:=decide_eq_false q1
   have HR:Hid (iI s x = false):=Lib.hid (by unfold iI;simp only [q0_,q1_];rfl)
   go_enter Try.func68,Try.ntmps68
   go_wp2
   go_quiet (fail)
   go_wp2
   go_ret
   exact ⟨R3,R4⟩
 ·have q0_:decide (0≤x.f0.f0) = false:=decide_eq_false q0
  have HR:Hid (iI s x = false):=Lib.hid (by unfold iI;simp only [q0_];rfl)
  go_enter Try.func68,Try.ntmps68
  go_wp2
  go_quiet (fail)
  go_wp2
  go_ret
  exact ⟨R3,R4⟩
set_option maxRecDepth 100000 in
set_option maxHeartbeats 2000000 in
theorem agR (b:Nat) (s:j3) (v:nz) (t u:Int) (w:World) (hT:jo w b s v) (hS:Dy s):
 Calls Try.prog 69 #[.pointer (some ⟨b,0,none⟩),U Z t,U Z u] w (sI (.bool (sJ s t u)) w):=by
 obtain ⟨A7,c7,A8,c8,hB,_⟩:=hT
 have hx:=iF (show 0≤s.slots by have:=hS.slots;omega) hS.slots.2 (show 0≤s.slot by have:=hS.slot;omega) hS.slot.2
 clear hS
 have hC3:w.cell? ⟨b,3,none⟩ = some (U Z s.slot):=(af hB 3).trans rfl
 have hC4:w.cell? ⟨b,4,none⟩ = some (U Z s.slots):=(af hB 4).trans rfl
 by_cases q0:0≤t
 ·have q0_:decide (0≤t) = true:=decide_eq_true q0
  by_cases q1:u≤s.slots*s.slot
  ·have q1_:decide (u≤s.slots*s.slot) = true:=decide_eq_true q1
   have HR:Hid (sJ s t u = true):=Lib.hid (by unfold sJ;simp only [q0_,q1_];rfl)
   go_enter Try.func69,Try.ntmps69
   go_wp2
   go_quiet (fail)
   go_wp2
   go_ret
   exact ⟨R3,R4⟩
  ·have q1_:decide (u≤s.slots*s.slot) = false:=decide_eq_false q1
   have HR:Hid (sJ s t u = false):=Lib.hid (by unfold sJ;simp only [q0_,q1_];rfl)
   go_enter Try.func69,Try.ntmps69
   go_wp2
   go_quiet (fail)
   go_wp2
   go_ret
   exact ⟨R3,R4⟩
 ·have q0_:decide (0≤t) = false:=decide_eq_false q0
  have HR:Hid (sJ s t u = false):=Lib.hid (by unfold sJ;simp only [q0_];rfl)
  go_enter Try.func69,Try.ntmps69
  go_wp2
  go_quiet (fail)
  go_wp2
  go_ret
  exact ⟨R3,R4⟩
def xU (c lo:Int):Int:=if 0 < lo / c∧lo % c = 0 then lo / c - 1 else lo / c
def uB (c:Int) (a:lu) (most:Int):Int × Int:=(min (xU c a.f0) (most - 1),min (a.f1 / c) (most - 1))
theorem OZ {x c:Int} (h0:0≤x) (hc:1≤c):0≤x / c∧x / c≤x :=
 ⟨Int.ediv_nonneg h0 (by omega),Int.ediv_le_self _ h0⟩
theorem awD {x c:Int} (hc:1≤c):0≤x % c∧x % c≤c:=by
 have h1:=Int.emod_nonneg x (show c≠0 by omega)
 have h2:=Int.emod_lt_of_pos x (show 0 < c by omega)
 omega
set_option maxRecDepth 100000 in
set_option maxHeartbeats 2000000 in
theorem PD (b:Nat) (s:j3) (v:nz) (a:lu) (most:Int) (w:World) (hT:jo w b s v) (hS:Dy s) (h0:0≤a.f0) (h1:a.f0≤1099511627776) (h2:0≤a.f1) (h3:a.f1≤1099511627776) (hm0:1≤most) (hm1:most≤12):
 Calls Try.prog 136 #[.pointer (some ⟨b,0,none⟩),.agg #[U Z a.f0,U Z a.f1],U Z most] w (sI (.tuple #[U Z (uB s.cell a most).1,U Z (uB s.cell a most).2]) w):=by
 obtain ⟨A7,c7,A8,c8,hB,_⟩:=hT
 have hc:=hS.cell
 have hd:=OZ h0 (show 1≤s.cell by omega)
 have hd2:=OZ h2 (show 1≤s.cell by omega)
 have hr:=awD (x:=a.f0) (show 1≤s.cell by omega)
 have hne:s.cell≠0:=by omega
 have hbq:(s.cell == 0) = false:=beq_eq_false_iff_ne.2 hne
 clear hS
 have hC2:∀ o_,(w.alloc o_).cell? ⟨b,2,none⟩ = some (U Z s.cell):=fun o_=>(af (ae hB o_) 2).trans rfl
 have e1:Int.tdiv a.f0 s.cell = a.f0 / s.cell:=Int.tdiv_eq_ediv_of_nonneg h0
 have e2:Int.tdiv a.f1 s.cell = a.f1 / s.cell:=Int.tdiv_eq_ediv_of_nonneg h2
 have e3:Int.tmod a.f0 s.cell = a.f0 % s.cell:=Int.tmod_eq_emod_of_nonneg h0
 have HR:Hid (uB s.cell a most = (min (xU s.cell a.f0) (most - 1),min (a.f1 / s.cell) (most - 1))):=Lib.hid rfl
 have HF:Hid (xU s.cell a.f0 = if 0 < a.f0 / s.cell∧a.f0 % s.cell = 0 then a.f0 / s.cell - 1 else a.f0 / s.cell):=Lib.hid rfl
 generalize a.f0 / s.cell = Q at*
 generalize a.f1 / s.cell = R at*
 generalize a.f0 % s.cell = M at*
 by_cases q0:0 < Q
 ·have q0_:decide (0 < Q) = true:=decide_eq_true q0
  by_cases q1:M = 0
  ·have q1_:(M == 0) = true:=beq_iff_eq.2 q1
   have HG:=Lib.hid (HF.out.trans (if_pos ⟨q0,q1⟩))
   clear q1 HF
   go_enter Try.func136,Try.ntmps136
   go_wp2
   go_quiet (fail)
   go_wp2
   go_quiet (fail)
   go_wp2
   go_quiet (fail)
   go_wp2
   all_goals (go_ret2;exact ⟨Xr (by rw [HR.out];dsimp only;rw [HG.out];omega) (by rw [HR.out];dsimp only;omega),R4⟩)
  ·have q1_:(M == 0) = false:=beq_eq_false_iff_ne.2 q1
   have HG:=Lib.hid (HF.out.trans (if_neg (fun h=>q1 h.2)))
   clear q1 HF
   go_enter Try.func136,Try.ntmps136
   go_wp2
   go_quiet (fail)
   go_wp2
   go_quiet (fail)
   go_wp2
   go_quiet (fail)
   go_wp2
   all_goals (go_ret2;exact ⟨Xr (by rw [HR.out];dsimp only;rw [HG.out];omega) (by rw [HR.out];dsimp only;omega),R4⟩)
 ·have q0_:decide (0 < Q) = false:=decide_eq_false q0
  have HG:=Lib.hid (HF.out.trans (if_neg (fun h=>q0 h.1)))
  clear HF
  go_enter Try.func136,Try.ntmps136
  go_wp2
  go_quiet (fail)
  go_wp2
  go_quiet (fail)
  go_wp2
  go_quiet (fail)
  go_wp2
  all_goals (go_ret2;exact ⟨Xr (by rw [HR.out];dsimp only;rw [HG.out];omega) (by rw [HR.out];dsimp only;omega),R4⟩)
end Go.Proofs.Ytmhaiihjfgfaoaa.Gl
end
