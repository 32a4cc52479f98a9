import Derived.RangeFuncCalls
import Derived.RangeFuncNested
import Derived.OrdersIn
import Derived.RangeFuncBound
import Derived.RangeFuncLeaves
import Derived.Shelf.Abstract
import Derived.Shelf.RegionOpen
import Derived.WalkKit
import Derived.OwnWalkIn
import Derived.TacticsInMore
import Derived.LoopNIn
import Derived.LoopIn
import Derived.Lib.Hide
import Derived.Deep.QuietTactic
import Derived.BigQuiet
import Derived.StillTailTactics
import Derived.Test.YtmhaiihjfgfaoaaGhGliderHolds3
section
namespace Go.Proofs.Ytmhaiihjfgfaoaa.Pr
open Go.RowKit Go.Proofs.YtmhaiihjfgfaoaaW.PrintWords Go.Proofs.YtmhaiihjfgfaoaaW.PrintLast Go.Proofs.YtmhaiihjfgfaoaaW.PrintMore
attribute [local go_sem] cz cB dK dL cK
set_option linter.unusedVariables false
set_option linter.unusedSimpArgs false
def bL.l0:Nat→Int→Int→Int→Int→Int→Int→Int→Int→List Bool→List (nU)→Option (Int × Int × Int × Int × Int × Int × Int × List Bool × (List (nU)) × Int × Int × Int × Int × Int × Int × Int)
 |0,_,_,_,_,_,_,_,_,_,_=>none
 |k+1,x3,aa4,aa5,aa6,aa7,aa8,aa9,aba,abb,Ul=>if x3 < 16 then (if Ul.length < 4398046511104 then (bL.l0 k (wrap64 (x3+1)) aa4 aa5 aa6 aa7 aa8 aa9 aba abb (Ul++[(⟨(⟨(-100),100⟩:nD),(⟨0,0⟩:nD)⟩:nU)])) else (none)) else (some (aa4,aa5,aa6,aa7,aa8,aa9,aba,abb,Ul,300,1000,50,60,5,6,100))
def bL.f (k:Nat):Option (Int × Int × Int × Int × Int × Int × Int × List Bool × (List (nU)) × Int × Int × Int × Int × Int × Int × Int):=if 16≤281474976710656 then (bL.l0 k 0 4 4 1000 10000 1 1 200 (List.replicate 16 false) ([]:List (nU))) else (none)
theorem bL.PL:∀ k,(∀ y0 y1 y2 y3 y4 y5 y6 y7 y8 y9,mq (bL.l0 k y0 y1 y2 y3 y4 y5 y6 y7 y8 y9) (bL.l0 (k+1) y0 y1 y2 y3 y4 y5 y6 y7 y8 y9))
 |0=>fun _ _ _ _ _ _ _ _ _ _ r h=>by simp [bL.l0] at h
 |k+1=>by
  have ih0:=bL.PL k
  ·intro y0 y1 y2 y3 y4 y5 y6 y7 y8 y9
   unfold bL.l0
   repeat' first
   |(with_reducible exact ih0 _ _ _ _ _ _ _ _ _ _)
   |(with_reducible exact mq.refl _)
   |(with_reducible exact mq.none _)
   |(with_reducible refine mq.ite ?_ ?_)
   |(with_reducible refine mq.bind ?_ (fun _=>?_))
   |exact ih0 _ _ _ _ _ _ _ _ _ _
   |exact mq.none _
   |refine mq.ite ?_ ?_
   |refine mq.bind ?_ (fun _=>?_)
theorem bL.mono:∀ k,mq (bL.f k) (bL.f (k+1)):=by
 intro k
 have ih0:=bL.PL k
 unfold bL.f
 repeat' first
  |(with_reducible exact ih0 _ _ _ _ _ _ _ _ _ _)
  |(with_reducible exact mq.refl _)
  |(with_reducible exact mq.none _)
  |(with_reducible refine mq.ite ?_ ?_)
  |(with_reducible refine mq.bind ?_ (fun _=>?_))
  |exact ih0 _ _ _ _ _ _ _ _ _ _
  |exact mq.none _
  |refine mq.ite ?_ ?_
  |refine mq.bind ?_ (fun _=>?_)
set_option maxHeartbeats 8000000 in
set_option maxRecDepth 100000 in
theorem bL.calls (k:Nat) (r1:Int) (r2:Int) (r3:Int) (r4:Int) (r5:Int) (r6:Int) (r7:Int) (r8:List Bool) (r9:List (nU)) (r10:Int) (r11:Int) (r12:Int) (r13:Int) (r14:Int) (r15:Int) (r16:Int) (w:World) (h:bL.f k = some (r1,r2,r3,r4,r5,r6,r7,r8,r9,r10,r11,r12,r13,r14,r15,r16)):
 Calls Try.prog 61 #[] w fun e w'=>∃ v7_ v8_:Value,e = .returned (.tuple #[.agg #[.int .i64 r1,.int .i64 r2,.int .i64 r3,.int .i64 r4,.int .i64 r5,.int .i64 r6,.int .i64 r7,v7_,v8_],.agg #[.int .i64 r10,.int .i64 r11,.int .i64 r12,.int .i64 r13,.int .i64 r14,.int .i64 r15,.int .i64 r16]])∧Kd.R Kd.bool 4 w' w.heap.size (fun _=>True) v7_ r8∧Kd.R CY 40 w' w.heap.size (fun _=>True) v8_ r9∧Below w.heap.size w w':=by
 have xE:=Try.underlying25
 have BL:=Try.underlying29
 have pK:=Try.underlying27
 have aer:=Try.underlying40
 have HB:=ae.mk (Below.refl w.heap.size w)
 have H:(if 16≤281474976710656 then (bL.l0 k 0 4 4 1000 10000 1 1 200 (List.replicate 16 false) ([]:List (nU))) else (none)) = some (r1,r2,r3,r4,r5,r6,r7,r8,r9,r10,r11,r12,r13,r14,r15,r16):=h
 clear h
 by_cases c1:16≤281474976710656
 ·rw [if_pos c1] at H
  have aEm:=eq_true c1
  have aEn:decide (16≤281474976710656) = true:=decide_eq_true c1
  clear c1
  obtain ⟨KH,Wp⟩:∃ y_:List Bool,y_ = (List.replicate 16 false):=⟨_,rfl⟩
  replace H:(bL.l0 k 0 4 4 1000 10000 1 1 200 KH ([]:List (nU))) = some (r1,r2,r3,r4,r5,r6,r7,r8,r9,r10,r11,r12,r13,r14,r15,r16):=by first|(rw [Wp];with_reducible exact H)|(have KU:=(Option.bind_some _ _).symm.trans H;rw [Wp];with_reducible exact KU)|(have KU:=(Option.bind_some _ _).symm.trans H;with_reducible exact KU)|with_reducible exact H|(rw [Wp];exact H)|exact H
  have alX:=ae.mk Wp
  clear Wp
  have H':=ae.mk H
  clear H
  go_enter Try.func61,Try.ntmps61
  go_wp2_with (first|((with_reducible refine aA (N:=0) rfl ?_);refine az (by rfl) (N:=0) (by rfl) (cs:=#[.int .i64 0,.int .i64 0,.int .i64 0,.int .i64 0,.int .i64 0,.int .i64 0,.int .i64 0,.slice none 0 0,.slice none 0 0]) (t:=25) gQ ?_;intro qB hg w2 hbox hb;have uy:=ae.mk (hbox);have aIc:=dn HB hg;have aId:=dn HB hg;replace HB:=dF HB hb;clear hb hbox hg)|((with_reducible refine aA (N:=1) rfl ?_);refine az (by rfl) (N:=1) (by rfl) (cs:=#[.int .i64 0,.int .i64 0,.int .i64 0,.int .i64 0,.int .i64 0,.int .i64 0,.int .i64 0]) (t:=29) gQ ?_;intro vP hg w3 hbox hb;have zO:=ae.mk (hbox);have aIe:=dn HB hg;have aIf:=dn HB hg;have rC:=iE uy hg;have oP:=iF uy hg;replace uy:=bC uy hb;replace HB:=dF HB hb;clear hb hbox hg)|((with_reducible refine aA (N:=4) rfl ?_);refine Kd.al3 Kd.bool _ 4 rfl (N:=4) rfl 22 _ _ rfl 16 rfl rfl Try.underlying22 (.bool false) 1 aub rfl (by decide) (by omega) false (ok:=fun _=>True) (okp:=fun _=>True) rfl (fun _ hk=>hk) trivial (by omega) (by omega) (Below.refl _ _) (Nat.le_refl _) ?_;intro aJ1 w4 ho5 hb PV qy;clear PV qy;(first|rw [← alX.out] at ho5|(simp only [Int.reduceToNat] at ho5;rw [← alX.out] at ho5));have abd:=ae.mk (Kd.lH ho5 (iG gM));replace uy:=bC uy hb;replace zO:=bC zO hb;replace HB:=dF HB hb;clear hb ho5;obtain ⟨Ao6,co6,eo6⟩:=Kd.ma abd.out;subst eo6)|((with_reducible refine aA (N:=2) rfl ?_);refine az (by rfl) (N:=2) (by rfl) (cs:=#[.int .i64 0,.int .i64 0,.int .i64 0,.int .i64 0,.int .i64 0,.int .i64 0,.int .i64 0,.slice none 0 0,.slice none 0 0]) (t:=25) gQ ?_;intro Bg hg w7 hbox hb;have Bh:=ae.mk (hbox);have aIg:=dn HB hg;have aIh:=dn HB hg;have LH:=iE uy hg;have LJ:=iF uy hg;have LK:=iE zO hg;have LM:=iF zO hg;replace abd:=xB abd hb;replace uy:=bC uy hb;replace zO:=bC zO hb;replace HB:=dF HB hb;clear hb hbox hg;have agB:=LJ.out;have agC:=LH.out;have apz:=LM.out;have apA:=LK.out;obtain ⟨wL,wM,Jc,Jd,R8,R9,Sa,YG,YH,wN,wO,Je,Jf,Sb,Sc,Sd,YI,YJ⟩:=iI Bh.out))
  go_loopg [3] k (fun kq v3 w'=>∃ (Wq:Int) (qg:List (nU)) (Gu:Value),v3 = .int .i64 Wq∧ae (bL.l0 kq Wq 4 4 1000 10000 1 1 200 KH qg = some (r1,r2,r3,r4,r5,r6,r7,r8,r9,r10,r11,r12,r13,r14,r15,r16))∧ae (kq≤k)∧ae (Kd.R Kd.bool 4 w' w.heap.size (fun _=>True) (.slice Ao6 KH.length co6) KH)∧ae (Kd.R CY 40 w' w.heap.size (fun _=>True) Gu qg)∧ae (w'.heap[qB]? = some (.cells #[.int .i64 0,.int .i64 0,.int .i64 0,.int .i64 0,.int .i64 0,.int .i64 0,.int .i64 0,(.slice none 0 0),(.slice none 0 0)] 25 (0,0)))∧ae (w'.heap[vP]? = some (.cells #[.int .i64 0,.int .i64 0,.int .i64 0,.int .i64 0,.int .i64 0,.int .i64 0,.int .i64 0] 29 (0,0)))∧ae (w'.heap[Bg]? = some (.cells #[.int .i64 4,.int .i64 4,.int .i64 1000,.int .i64 10000,.int .i64 1,.int .i64 1,.int .i64 200,(.slice Ao6 KH.length co6),Gu] 25 (0,0)))∧ae (Below w.heap.size w w'))
  case atStart=>exact ⟨(0),(([]:List (nU))),(.slice none 0 0),nI,H',⟨Nat.le_refl _⟩,⟨by (with_reducible repeat (first|apply Kd.kK|apply Kd.kv|apply Kd.jo));exact Kd.lv (Kd.eG (p:=⟨Bg,8,none⟩) (Kd.eG (p:=⟨Bg,7,none⟩) (Kd.eG (p:=⟨Bg,6,none⟩) (Kd.eG (p:=⟨Bg,5,none⟩) (Kd.eG (p:=⟨Bg,4,none⟩) (Kd.eG (p:=⟨Bg,3,none⟩) (Kd.eG (p:=⟨Bg,2,none⟩) (Kd.eG (p:=⟨Bg,1,none⟩) (Kd.eG (p:=⟨Bg,0,none⟩) (Kd.oZ abd.out Bh.out (by decide)) (fun _ hk=>hk.2) (.int .i64 4)) (fun _ hk=>hk.2) (.int .i64 4)) (fun _ hk=>hk.2) (.int .i64 1000)) (fun _ hk=>hk.2) (.int .i64 10000)) (fun _ hk=>hk.2) (.int .i64 1)) (fun _ hk=>hk.2) (.int .i64 1)) (fun _ hk=>hk.2) (.int .i64 200)) (fun _ hk=>hk.2) (.slice Ao6 KH.length co6)) (fun _ hk=>hk.2) (.slice none 0 0)) (fun _ hk=>trivial)⟩,⟨acr⟩,⟨iq⟩,⟨iq⟩,⟨by (with_reducible repeat (first|refine au ?_ _|refine ah ?_|refine ag ?_ _));refine aI (cs:=#[.int .i64 4,.int .i64 4,.int .i64 1000,.int .i64 10000,.int .i64 1,.int .i64 1,.int .i64 200,.slice Ao6 KH.length co6,.slice none 0 0]) ?_ 8 _ rfl;(with_reducible repeat (first|refine au ?_ _|refine ah ?_|refine ag ?_ _));refine aI (cs:=#[.int .i64 4,.int .i64 4,.int .i64 1000,.int .i64 10000,.int .i64 1,.int .i64 1,.int .i64 200,.slice none 0 0,.slice none 0 0]) ?_ 7 _ rfl;(with_reducible repeat (first|refine au ?_ _|refine ah ?_|refine ag ?_ _));refine aI (cs:=#[.int .i64 4,.int .i64 4,.int .i64 1000,.int .i64 10000,.int .i64 1,.int .i64 1,.int .i64 0,.slice none 0 0,.slice none 0 0]) ?_ 6 _ rfl;(with_reducible repeat (first|refine au ?_ _|refine ah ?_|refine ag ?_ _));refine aI (cs:=#[.int .i64 4,.int .i64 4,.int .i64 1000,.int .i64 10000,.int .i64 1,.int .i64 0,.int .i64 0,.slice none 0 0,.slice none 0 0]) ?_ 5 _ rfl;(with_reducible repeat (first|refine au ?_ _|refine ah ?_|refine ag ?_ _));refine aI (cs:=#[.int .i64 4,.int .i64 4,.int .i64 1000,.int .i64 10000,.int .i64 0,.int .i64 0,.int .i64 0,.slice none 0 0,.slice none 0 0]) ?_ 4 _ rfl;(with_reducible repeat (first|refine au ?_ _|refine ah ?_|refine ag ?_ _));refine aI (cs:=#[.int .i64 4,.int .i64 4,.int .i64 1000,.int .i64 0,.int .i64 0,.int .i64 0,.int .i64 0,.slice none 0 0,.slice none 0 0]) ?_ 3 _ rfl;(with_reducible repeat (first|refine au ?_ _|refine ah ?_|refine ag ?_ _));refine aI (cs:=#[.int .i64 4,.int .i64 4,.int .i64 0,.int .i64 0,.int .i64 0,.int .i64 0,.int .i64 0,.slice none 0 0,.slice none 0 0]) ?_ 2 _ rfl;(with_reducible repeat (first|refine au ?_ _|refine ah ?_|refine ag ?_ _));refine aI (cs:=#[.int .i64 4,.int .i64 0,.int .i64 0,.int .i64 0,.int .i64 0,.int .i64 0,.int .i64 0,.slice none 0 0,.slice none 0 0]) ?_ 1 _ rfl;(with_reducible repeat (first|refine au ?_ _|refine ah ?_|refine ag ?_ _));refine aI (cs:=#[.int .i64 0,.int .i64 0,.int .i64 0,.int .i64 0,.int .i64 0,.int .i64 0,.int .i64 0,.slice none 0 0,.slice none 0 0]) ?_ 0 _ rfl;(with_reducible repeat (first|refine au ?_ _|refine ah ?_|refine ag ?_ _));exact Bh.out⟩,⟨gM⟩⟩
  case round =>
   clear H'
   try clear c1
   try clear aEm
   try clear aEn
   try clear p2
   try clear c6
   try clear c8
   try clear c9
   try clear wL wM Jc Jd R8 R9 Sa YG YH wN wO Je Jf Sb Sc Sd YI YJ
   obtain ⟨Wq,qg,Gu,rfl,HA,Mi,Bi,uR,uy,zO,Bh,HB⟩:=hrel
   cases gk with
   |zero=>exact absurd HA.out (by simp [bL.l0])
   |succ k1 =>
    have H:=HA.out
    clear HA
    simp only [bL.l0] at H
    by_cases c11:Wq < 16
    ·rw [if_pos c11] at H
     have IK:decide (Wq < 16) = true:=decide_eq_true c11
     clear c11
     by_cases c12:qg.length < 4398046511104
     ·rw [if_pos c12] at H
      have aus:=ae.mk c12
      clear c12
      obtain ⟨afu,Ws⟩:∃ y_:List (nU),y_ = (qg++[(⟨(⟨(-100),100⟩:nD),(⟨0,0⟩:nD)⟩:nU)]):=⟨_,rfl⟩
      replace H:(bL.l0 k1 (wrap64 (Wq+1)) 4 4 1000 10000 1 1 200 KH afu) = some (r1,r2,r3,r4,r5,r6,r7,r8,r9,r10,r11,r12,r13,r14,r15,r16):=by first|(rw [Ws];with_reducible exact H)|(have KU:=(Option.bind_some _ _).symm.trans H;rw [Ws];with_reducible exact KU)|(have KU:=(Option.bind_some _ _).symm.trans H;with_reducible exact KU)|with_reducible exact H|(rw [Ws];exact H)|exact H
      have aut:=ae.mk Ws
      clear Ws
      have H':=ae.mk H
      clear H
      have Ye:=LJ.out
      have Yf:=LH.out
      have akO:=LM.out
      have akP:=LK.out
      obtain ⟨pM,pO,rJ,rM,u6,u7,ve,wH,wI,pQ,pR,rO,rP,vg,vk,vo,wJ,wK⟩:=iI Bh.out
      go_wp2_with (((with_reducible refine CQ (b:=.append) (xs:=#[.tmp 11,.tmp 14]) rfl ?_);at_builtin;refine Kd.OD CY (w0:=w) w.heap.size rfl (.tmp 11) (.tmp 14) 23 40 (.agg #[(.int .i64 0),(.int .i64 0),(.int .i64 0),(.int .i64 0)]) 32 rfl Try.underlying23 anW rfl (by decide) (by omega) Gu qg (⟨(⟨(-100),100⟩:nD),(⟨0,0⟩:nD)⟩:nU) [.int .i64 (-100),.int .i64 100,.int .i64 0,.int .i64 0] (fun _=>True) (fun _=>False) rfl rfl ?aP (fun _ hk=>hk.elim) ?aF ?aO ?aB ?aS ?aL ?_;(case aP=>exact akk _ _ _ (⟨(⟨(-100),100⟩:nD),(⟨0,0⟩:nD)⟩:nU));(case aB=>exact gM);(case aF=>exact (fun _ _=>trivial));(case aO=>exact at7);(case aS=>exact (iG gM));(case aL=>have:=aus.out;omega);intro aJ3 w16 ho hb hg hat;rw [← aut.out] at ho;have BM:=ae.mk (Kd.afM (by (with_reducible repeat (first|apply Kd.kK|apply Kd.kv|apply Kd.jo));exact Bi.out) (Kd.afL at7) (by decide) hg);have BN:=ae.mk (pI (g:=qB) (o:=.cells #[.int .i64 0,.int .i64 0,.int .i64 0,.int .i64 0,.int .i64 0,.int .i64 0,.int .i64 0,.slice none 0 0,.slice none 0 0] 25 (0,0)) iq hg (Kd.acV uR.out uy.out (by decide)));have BO:=ae.mk (pI (g:=vP) (o:=.cells #[.int .i64 0,.int .i64 0,.int .i64 0,.int .i64 0,.int .i64 0,.int .i64 0,.int .i64 0] 29 (0,0)) iq hg (Kd.acV uR.out zO.out (by decide)));have BP:=ae.mk (pI (g:=Bg) (o:=.cells #[.int .i64 4,.int .i64 4,.int .i64 1000,.int .i64 10000,.int .i64 1,.int .i64 1,.int .i64 200,.slice Ao6 KH.length co6,Gu] 25 (0,0)) iq hg (Kd.acV uR.out Bh.out (by decide)));have BQ:=ae.mk (hb);have GD:=ae.mk (ho);clear Bi;clear uy;clear zO;clear Bh;clear HB;clear uR;have Bi:=BM;have uy:=BN;have zO:=BO;have Bh:=BP;have HB:=BQ;have alY:=GD;clear BM BN BO BP BQ GD;clear ho hb hg hat;obtain ⟨an8,an9,aEo⟩:=Kd.ma alY.out;subst aEo;obtain ⟨si,sj,su,sw,yX,yY,yZ,za,zb,sD,sF,sG,sH,ze,zf,zg,zh,zi⟩:=iI Bh.out))
      go_roundg k1
      case measure=>have:=Mi.out;omega
      case rel=>exact ⟨(wrap64 (Wq+1)),(afu),(.slice an8 afu.length an9),nI,H',⟨RF⟩,⟨by (with_reducible repeat (first|apply Kd.kK|apply Kd.kv|apply Kd.jo));exact Kd.lv (Kd.eG (p:=⟨Bg,8,none⟩) (Kd.oZ Bi.out Bh.out (by decide)) (fun _ hk=>hk.2) (.slice an8 afu.length an9)) (fun _ hk=>trivial)⟩,⟨by (with_reducible repeat (first|apply Kd.kK|apply Kd.kv|apply Kd.jo));exact Kd.lv (Kd.eG (p:=⟨Bg,8,none⟩) (Kd.oZ alY.out Bh.out (by decide)) (fun _ hk=>hk.2) (.slice an8 afu.length an9)) (fun _ hk=>trivial)⟩,⟨iq⟩,⟨iq⟩,⟨by (with_reducible repeat (first|refine au ?_ _|refine ah ?_|refine ag ?_ _));refine aI (cs:=#[.int .i64 4,.int .i64 4,.int .i64 1000,.int .i64 10000,.int .i64 1,.int .i64 1,.int .i64 200,.slice Ao6 KH.length co6,Gu]) ?_ 8 _ rfl;(with_reducible repeat (first|refine au ?_ _|refine ah ?_|refine ag ?_ _));exact Bh.out⟩,⟨gM⟩⟩
     ·rw [if_neg c12] at H
      exact absurd H (by simp)
    ·rw [if_neg c11] at H
     have IK:decide (Wq < 16) = false:=decide_eq_false c11
     clear c11
     simp only [Option.some.injEq,Prod.mk.injEq] at H
     obtain ⟨rfl,rfl,rfl,rfl,rfl,rfl,rfl,rfl,rfl,rfl,rfl,rfl,rfl,rfl,rfl,rfl⟩:=H
     have Vh:=LJ.out
     have Vi:=LH.out
     have arw:=LM.out
     have arx:=LK.out
     obtain ⟨qE,qF,tC,tF,tH,tJ,tK,Oh,Oi,qG,qH,tL,tN,tO,tQ,tT,Oj,Ol⟩:=iI Bh.out
     have YS:=rC.out
     have YT:=oP.out
     obtain ⟨qI,qJ,tV,tX,KA,KC,KD,Om,Oo,qK,qL,tY,tZ,KE,KF,KG,Oq,Ot⟩:=iI uy.out
     obtain ⟨aoa,aob,aEp⟩:=Kd.ma uR.out
     subst aEp
     obtain ⟨zk,zl,zm,zn,Cv,Cw,Cx,zo,zq,zt,zu,Cy,Cz,CB⟩:=ko zO.out
     go_wp2
     refine bodyPost_ret (WB rfl _ _ qB vP 25 29 #[.int .i64 4,.int .i64 4,.int .i64 1000,.int .i64 10000,.int .i64 1,.int .i64 1,.int .i64 200,.slice Ao6 KH.length co6,.slice aoa qg.length aob] #[.int .i64 300,.int .i64 1000,.int .i64 50,.int .i64 60,.int .i64 5,.int .i64 6,.int .i64 100] (0,0) (0,0) _ _ rfl (by (with_reducible repeat (first|refine au ?_ _|refine ah ?_|refine ag ?_ _));refine aM ?_ rC.out _;(with_reducible repeat (first|refine au ?_ _|refine ah ?_|refine ag ?_ _));refine aM ?_ rC.out _;(with_reducible repeat (first|refine au ?_ _|refine ah ?_|refine ag ?_ _));refine aM ?_ rC.out _;(with_reducible repeat (first|refine au ?_ _|refine ah ?_|refine ag ?_ _));refine aM ?_ rC.out _;(with_reducible repeat (first|refine au ?_ _|refine ah ?_|refine ag ?_ _));refine aM ?_ rC.out _;(with_reducible repeat (first|refine au ?_ _|refine ah ?_|refine ag ?_ _));refine aM ?_ rC.out _;(with_reducible repeat (first|refine au ?_ _|refine ah ?_|refine ag ?_ _));refine aM ?_ rC.out _;(with_reducible repeat (first|refine au ?_ _|refine ah ?_|refine ag ?_ _));refine aI (cs:=#[.int .i64 4,.int .i64 4,.int .i64 1000,.int .i64 10000,.int .i64 1,.int .i64 1,.int .i64 200,.slice Ao6 KH.length co6,.slice none 0 0]) ?_ 8 _ rfl;(with_reducible repeat (first|refine au ?_ _|refine ah ?_|refine ag ?_ _));refine aI (cs:=#[.int .i64 4,.int .i64 4,.int .i64 1000,.int .i64 10000,.int .i64 1,.int .i64 1,.int .i64 200,.slice none 0 0,.slice none 0 0]) ?_ 7 _ rfl;(with_reducible repeat (first|refine au ?_ _|refine ah ?_|refine ag ?_ _));refine aI (cs:=#[.int .i64 4,.int .i64 4,.int .i64 1000,.int .i64 10000,.int .i64 1,.int .i64 1,.int .i64 0,.slice none 0 0,.slice none 0 0]) ?_ 6 _ rfl;(with_reducible repeat (first|refine au ?_ _|refine ah ?_|refine ag ?_ _));refine aI (cs:=#[.int .i64 4,.int .i64 4,.int .i64 1000,.int .i64 10000,.int .i64 1,.int .i64 0,.int .i64 0,.slice none 0 0,.slice none 0 0]) ?_ 5 _ rfl;(with_reducible repeat (first|refine au ?_ _|refine ah ?_|refine ag ?_ _));refine aI (cs:=#[.int .i64 4,.int .i64 4,.int .i64 1000,.int .i64 10000,.int .i64 0,.int .i64 0,.int .i64 0,.slice none 0 0,.slice none 0 0]) ?_ 4 _ rfl;(with_reducible repeat (first|refine au ?_ _|refine ah ?_|refine ag ?_ _));refine aI (cs:=#[.int .i64 4,.int .i64 4,.int .i64 1000,.int .i64 0,.int .i64 0,.int .i64 0,.int .i64 0,.slice none 0 0,.slice none 0 0]) ?_ 3 _ rfl;(with_reducible repeat (first|refine au ?_ _|refine ah ?_|refine ag ?_ _));refine aI (cs:=#[.int .i64 4,.int .i64 4,.int .i64 0,.int .i64 0,.int .i64 0,.int .i64 0,.int .i64 0,.slice none 0 0,.slice none 0 0]) ?_ 2 _ rfl;(with_reducible repeat (first|refine au ?_ _|refine ah ?_|refine ag ?_ _));refine aI (cs:=#[.int .i64 4,.int .i64 0,.int .i64 0,.int .i64 0,.int .i64 0,.int .i64 0,.int .i64 0,.slice none 0 0,.slice none 0 0]) ?_ 1 _ rfl;(with_reducible repeat (first|refine au ?_ _|refine ah ?_|refine ag ?_ _));refine aI (cs:=#[.int .i64 0,.int .i64 0,.int .i64 0,.int .i64 0,.int .i64 0,.int .i64 0,.int .i64 0,.slice none 0 0,.slice none 0 0]) ?_ 0 _ rfl;(with_reducible repeat (first|refine au ?_ _|refine ah ?_|refine ag ?_ _));exact uy.out) Try.underlying25 rfl aR rfl (by (with_reducible repeat (first|refine au ?_ _|refine ah ?_|refine ag ?_ _));refine aI (cs:=#[.int .i64 300,.int .i64 1000,.int .i64 50,.int .i64 60,.int .i64 5,.int .i64 6,.int .i64 0]) ?_ 6 _ rfl;(with_reducible repeat (first|refine au ?_ _|refine ah ?_|refine ag ?_ _));refine aI (cs:=#[.int .i64 300,.int .i64 1000,.int .i64 50,.int .i64 60,.int .i64 5,.int .i64 0,.int .i64 0]) ?_ 5 _ rfl;(with_reducible repeat (first|refine au ?_ _|refine ah ?_|refine ag ?_ _));refine aI (cs:=#[.int .i64 300,.int .i64 1000,.int .i64 50,.int .i64 60,.int .i64 0,.int .i64 0,.int .i64 0]) ?_ 4 _ rfl;(with_reducible repeat (first|refine au ?_ _|refine ah ?_|refine ag ?_ _));refine aI (cs:=#[.int .i64 300,.int .i64 1000,.int .i64 50,.int .i64 0,.int .i64 0,.int .i64 0,.int .i64 0]) ?_ 3 _ rfl;(with_reducible repeat (first|refine au ?_ _|refine ah ?_|refine ag ?_ _));refine aI (cs:=#[.int .i64 300,.int .i64 1000,.int .i64 0,.int .i64 0,.int .i64 0,.int .i64 0,.int .i64 0]) ?_ 2 _ rfl;(with_reducible repeat (first|refine au ?_ _|refine ah ?_|refine ag ?_ _));refine aI (cs:=#[.int .i64 300,.int .i64 0,.int .i64 0,.int .i64 0,.int .i64 0,.int .i64 0,.int .i64 0]) ?_ 1 _ rfl;(with_reducible repeat (first|refine au ?_ _|refine ah ?_|refine ag ?_ _));refine aI (cs:=#[.int .i64 0,.int .i64 0,.int .i64 0,.int .i64 0,.int .i64 0,.int .i64 0,.int .i64 0]) ?_ 0 _ rfl;(with_reducible repeat (first|refine au ?_ _|refine ah ?_|refine ag ?_ _));refine aM ?_ oP.out _;(with_reducible repeat (first|refine au ?_ _|refine ah ?_|refine ag ?_ _));refine aM ?_ oP.out _;(with_reducible repeat (first|refine au ?_ _|refine ah ?_|refine ag ?_ _));refine aM ?_ oP.out _;(with_reducible repeat (first|refine au ?_ _|refine ah ?_|refine ag ?_ _));refine aM ?_ oP.out _;(with_reducible repeat (first|refine au ?_ _|refine ah ?_|refine ag ?_ _));refine aM ?_ oP.out _;(with_reducible repeat (first|refine au ?_ _|refine ah ?_|refine ag ?_ _));refine aM ?_ oP.out _;(with_reducible repeat (first|refine au ?_ _|refine ah ?_|refine ag ?_ _));refine aM ?_ oP.out _;(with_reducible repeat (first|refine au ?_ _|refine ah ?_|refine ag ?_ _));refine aM ?_ oP.out _;(with_reducible repeat (first|refine au ?_ _|refine ah ?_|refine ag ?_ _));refine aM ?_ oP.out _;(with_reducible repeat (first|refine au ?_ _|refine ah ?_|refine ag ?_ _));exact zO.out) Try.underlying29 rfl aR) rfl ?_
     exact ⟨_,_,lJ,by (with_reducible repeat (first|apply Kd.kK|apply Kd.kv|apply Kd.jo));exact Kd.lv (Kd.eG (p:=⟨vP,6,none⟩) (Kd.eG (p:=⟨vP,5,none⟩) (Kd.eG (p:=⟨vP,4,none⟩) (Kd.eG (p:=⟨vP,3,none⟩) (Kd.eG (p:=⟨vP,2,none⟩) (Kd.eG (p:=⟨vP,1,none⟩) (Kd.eG (p:=⟨vP,0,none⟩) (Kd.eG (p:=⟨qB,8,none⟩) (Kd.eG (p:=⟨qB,7,none⟩) (Kd.eG (p:=⟨qB,6,none⟩) (Kd.eG (p:=⟨qB,5,none⟩) (Kd.eG (p:=⟨qB,4,none⟩) (Kd.eG (p:=⟨qB,3,none⟩) (Kd.eG (p:=⟨qB,2,none⟩) (Kd.eG (p:=⟨qB,1,none⟩) (Kd.eG (p:=⟨qB,0,none⟩) (Kd.oZ (Kd.oZ Bi.out uy.out (by decide)) zO.out (by decide)) (fun _ hk=>hk.1.2) (.int .i64 4)) (fun _ hk=>hk.1.2) (.int .i64 4)) (fun _ hk=>hk.1.2) (.int .i64 1000)) (fun _ hk=>hk.1.2) (.int .i64 10000)) (fun _ hk=>hk.1.2) (.int .i64 1)) (fun _ hk=>hk.1.2) (.int .i64 1)) (fun _ hk=>hk.1.2) (.int .i64 200)) (fun _ hk=>hk.1.2) (.slice Ao6 KH.length co6)) (fun _ hk=>hk.1.2) (.slice aoa qg.length aob)) (fun _ hk=>hk.2) (.int .i64 300)) (fun _ hk=>hk.2) (.int .i64 1000)) (fun _ hk=>hk.2) (.int .i64 50)) (fun _ hk=>hk.2) (.int .i64 60)) (fun _ hk=>hk.2) (.int .i64 5)) (fun _ hk=>hk.2) (.int .i64 6)) (fun _ hk=>hk.2) (.int .i64 100)) (fun _ hk=>trivial),by (with_reducible repeat (first|apply Kd.kK|apply Kd.kv|apply Kd.jo));exact Kd.lv (Kd.eG (p:=⟨vP,6,none⟩) (Kd.eG (p:=⟨vP,5,none⟩) (Kd.eG (p:=⟨vP,4,none⟩) (Kd.eG (p:=⟨vP,3,none⟩) (Kd.eG (p:=⟨vP,2,none⟩) (Kd.eG (p:=⟨vP,1,none⟩) (Kd.eG (p:=⟨vP,0,none⟩) (Kd.eG (p:=⟨qB,8,none⟩) (Kd.eG (p:=⟨qB,7,none⟩) (Kd.eG (p:=⟨qB,6,none⟩) (Kd.eG (p:=⟨qB,5,none⟩) (Kd.eG (p:=⟨qB,4,none⟩) (Kd.eG (p:=⟨qB,3,none⟩) (Kd.eG (p:=⟨qB,2,none⟩) (Kd.eG (p:=⟨qB,1,none⟩) (Kd.eG (p:=⟨qB,0,none⟩) (Kd.oZ (Kd.oZ uR.out uy.out (by decide)) zO.out (by decide)) (fun _ hk=>hk.1.2) (.int .i64 4)) (fun _ hk=>hk.1.2) (.int .i64 4)) (fun _ hk=>hk.1.2) (.int .i64 1000)) (fun _ hk=>hk.1.2) (.int .i64 10000)) (fun _ hk=>hk.1.2) (.int .i64 1)) (fun _ hk=>hk.1.2) (.int .i64 1)) (fun _ hk=>hk.1.2) (.int .i64 200)) (fun _ hk=>hk.1.2) (.slice Ao6 KH.length co6)) (fun _ hk=>hk.1.2) (.slice aoa qg.length aob)) (fun _ hk=>hk.2) (.int .i64 300)) (fun _ hk=>hk.2) (.int .i64 1000)) (fun _ hk=>hk.2) (.int .i64 50)) (fun _ hk=>hk.2) (.int .i64 60)) (fun _ hk=>hk.2) (.int .i64 5)) (fun _ hk=>hk.2) (.int .i64 6)) (fun _ hk=>hk.2) (.int .i64 100)) (fun _ hk=>trivial),gM⟩
 ·rw [if_neg c1] at H
  exact absurd H (by simp)
end Go.Proofs.Ytmhaiihjfgfaoaa.Pr
end
section
namespace Go.Proofs.Ytmhaiihjfgfaoaa.Pr
open Go.RowKit Go.Proofs.YtmhaiihjfgfaoaaW.PrintWords Go.Proofs.YtmhaiihjfgfaoaaW.PrintLast Go.Proofs.YtmhaiihjfgfaoaaW.PrintMore
attribute [local go_sem] cz cB dK dL cK
set_option linter.unusedVariables false
set_option linter.unusedSimpArgs false
def kg.f (a0:Int) (a1:Int):Option (Int × Int × Int × Int):=some (a0,a0,a1,a1)
set_option maxHeartbeats 8000000 in
set_option maxRecDepth 100000 in
theorem kg.calls (a0:Int) (a1:Int) (r1:Int) (r2:Int) (r3:Int) (r4:Int) (w:World) (h:kg.f a0 a1 = some (r1,r2,r3,r4)):
 Calls Try.prog 62 #[.int .i64 a0,.int .i64 a1] w fun e w'=>e = .returned (.agg #[.int .i64 r1,.int .i64 r2,.int .i64 r3,.int .i64 r4])∧Below w.heap.size w w':=by
 have qP:=Try.underlying31
 have pK:=Try.underlying27
 have HB:=ae.mk (Below.refl w.heap.size w)
 have H:(some (a0,a0,a1,a1)) = some (r1,r2,r3,r4):=h
 clear h
 simp only [Option.some.injEq,Prod.mk.injEq] at H
 obtain ⟨rfl,rfl,rfl,rfl⟩:=H
 go_enter Try.func62,Try.ntmps62
 go_wp2_with (first|((with_reducible refine aA (N:=4) rfl ?_);refine az (by rfl) (N:=4) (by rfl) (cs:=#[.int .i64 0,.int .i64 0,.int .i64 0,.int .i64 0]) (t:=31) gQ ?_;intro auu hg w3 hbox hb;have alZ:=ae.mk (hbox);have aIi:=dn HB hg;have aIj:=dn HB hg;replace HB:=dF HB hb;clear hb hbox hg;obtain ⟨TH,TI,afh,afi,TJ,TK,afj,afk⟩:=iC alZ.out))
 refine bodyPost_ret (results_cell_row rfl _ _ auu 31 #[.int .i64 a0,.int .i64 a0,.int .i64 a1,.int .i64 a1] (0,0) _ rfl (by (with_reducible repeat (first|refine au ?_ _|refine ah ?_|refine ag ?_ _));refine aI (cs:=#[.int .i64 a0,.int .i64 a0,.int .i64 a1,.int .i64 0]) ?_ 3 _ rfl;(with_reducible repeat (first|refine au ?_ _|refine ah ?_|refine ag ?_ _));refine aI (cs:=#[.int .i64 a0,.int .i64 a0,.int .i64 0,.int .i64 0]) ?_ 2 _ rfl;(with_reducible repeat (first|refine au ?_ _|refine ah ?_|refine ag ?_ _));refine aI (cs:=#[.int .i64 a0,.int .i64 0,.int .i64 0,.int .i64 0]) ?_ 1 _ rfl;(with_reducible repeat (first|refine au ?_ _|refine ah ?_|refine ag ?_ _));refine aI (cs:=#[.int .i64 0,.int .i64 0,.int .i64 0,.int .i64 0]) ?_ 0 _ rfl;(with_reducible repeat (first|refine au ?_ _|refine ah ?_|refine ag ?_ _));exact alZ.out) Try.underlying31 rfl aR) rfl ?_
 exact ⟨lJ,gM⟩
end Go.Proofs.Ytmhaiihjfgfaoaa.Pr
end
section
namespace Go.Proofs.YtmhaiihjfgfaoaaW.Round
open Go.RowKit Go.Proofs.YtmhaiihjfgfaoaaW.PrintWords Go.Proofs.YtmhaiihjfgfaoaaW.PrintLast
section
variable {P:Program} {n l:Nat}
theorem X7 {o:Oper} {a:Act} {w:World} {K:Act→World→Prop} {Q:Exit→Act→World→Prop} (hd:∀ c,o.op≠.defer c) (h:o.wp P a w K Q):o.wpIn (Fence.wide.inRound l) n P a w K Q:=by
 refine ⟨fun _ _=>trivial,?_⟩
 rw [Oper.semAt_eq _ _ _ hd]
 unfold Oper.wp at h
 generalize (execOp a.eval o).run P w = r at h
 cases r with
 |ok x w' =>
  cases x with
  |value v=>exact h
  |skip=>exact h
  |defer d=>exact h
  |enter f args=>exact ⟨fun h0=>(by cases h0),CallsIn.inRound l (callsIn_wide.2 h)⟩
  |row row args=>exact ⟨fun h0=>(by cases h0),fun c cs _=>by obtain ⟨v,w2,r,s⟩:=h c cs;exact ⟨v,w2,r,stepsIn_wide.2 s⟩⟩
  |_=>exact h.elim
 |halt x w' =>
  cases x with
  |panic v=>exact h
  |_=>exact h.elim
def OA (ops:Array Oper):Bool:=ops.all fun o=>match o.op with|.defer _=>false|_=>true
theorem Wt {ops:Array Oper} (h:OA ops = true) {i:Nat} {o:Oper} (ho:ops[i]? = some o):∀ c,o.op≠.defer c:=by
 intro c e
 unfold OA at h
 rw [Array.all_eq_true] at h
 obtain ⟨hi,he⟩:=Array.getElem?_eq_some_iff.1 ho
 have:=h i hi
 rw [he,e] at this
 simp at this
theorem zP {ops:Array Oper} {Q:Exit→Act→World→Prop} {md:Region.Mode} (hn:OA ops = true) (hQ:¬ LetsOut Q):∀ (fuel:Nat) (listed:Array Bool) (a:Act) (w:World),
 wpAny P md ops Q fuel listed a w→wpAnyIn (Fence.wide.inRound l) n P md ops Q fuel listed a w
 |0,_,_,_,h=>h
 |fuel+1,listed,a,w,h=>by
  refine ⟨h.1,fun i hi=>?_⟩
  have h1:=h.2 i hi
  unfold wpOp at h1
  unfold wpOpIn
  cases ho:ops[i]? with
  |none =>
   rw [ho] at h1
   exact zP hn hQ fuel _ _ _ h1
  |some o =>
   rw [ho] at h1
   dsimp only at h1 ⊢
   split at h1
   ·rename_i hw
    rw [if_pos hw]
    rcases h1 with h1|⟨_,h1⟩
    ·exact Oper.wpIn_mono (fun a w h=>zP hn hQ fuel _ a w h) (X7 (Wt hn ho) h1)
    ·exact absurd h1 hQ
   ·rename_i hw
    rw [if_neg hw]
    exact ⟨fun _ _=>trivial,zP hn hQ fuel _ _ _ h1⟩
theorem Rp {α:Type} {B:Nat} {Kp:World→World→Prop} {I:List α→World→Prop} {Ix:Code→List α→World→Prop} {xs:List α} {W:World}:¬ LetsOut (ownPostG B Kp I Ix xs W):=fun ⟨_,_,h⟩=>h
theorem Mh {id:Nat} {Q:Exit→Act→World→Prop} (h:¬ LetsOut Q):¬ LetsOut (Exit.inBlock id Q):=fun ⟨a,w,h1⟩=>h ⟨a,w,h1⟩
theorem Ro {K:Act→World→Prop} {Q:Exit→Act→World→Prop} (h:¬ LetsOut Q):¬ LetsOut (Exit.then K Q):=fun ⟨a,w,h1⟩=>h ⟨a,w,h1⟩
theorem adh {ops:Array Oper} {Q:Exit→Act→World→Prop} {S:World→Prop} {ds:List Nat} {id m:Nat} {a:Act} {w:World} (lit:Array Bool) (hd:OA ops = true) (hQ:¬ LetsOut Q) (hm:P.follows .mixedOrders = true) (hn:ops.size = m) (hl:Array.replicate m false = lit) (hS:S w.drew)
 (h:S w.drew→eF P .any ops Q S ds m lit a w.drew):(Code.region id ops true).wpIn (Fence.wide.inRound l) n P Q a w:=by
 subst hn
 subst hl
 exact wpIn_region_any hm (zP hd hQ _ _ _ _ (zV _ _ _ _ (h hS)))
def al0 (K:Act→World→Prop):Exit→Act→World→Prop
 |.normal,a,w=>K a w
 |_,_,_=>False
theorem Bn {Q:Exit→Act→World→Prop} {a:Act} {w:World} (h:Q .normal a w):al0 (Q .normal) .normal a w:=h
theorem KP {F:Fence} {c:Code} {Q:Exit→Act→World→Prop} {a:Act} {w:World} (h:c.wpIn F n P (al0 (Q .normal)) a w):c.wpIn F n P Q a w:=wpIn_mono h (fun e a w h=>by cases e <;> first|exact h|exact h.elim)
end
end Go.Proofs.YtmhaiihjfgfaoaaW.Round
end
section
namespace Go.Proofs.Ytmhaiihjfgfaoaa.Gl
open Go.RowKit Go.Shelf Go.Proofs.YtmhaiihjfgfaoaaW.PrintWords Go.Proofs.YtmhaiihjfgfaoaaW.PrintLast Go.Proofs.YtmhaiihjfgfaoaaW.PrintMore Go.Proofs.Ytmhaiihjfgfaoaa.Pr Go.Proofs.YtmhaiihjfgfaoaaW.Round
set_option linter.unusedVariables false
set_option linter.unusedSimpArgs false
attribute [local go_sem] cz cB dK dL cK
structure lF where
 nx:Int
 ny:Int
 cell:Int
 slot:Int
 slots:Int
 layers:Int
 most:Int
 shores:List Bool
 currents:List nU
structure qO where
 speed:Int
 dive:Int
 use:nD
 drift:nD
 reserve:Int
def iD (W:World) (b:Nat) (c:Array Value) (t:TypeId):Prop:=W.heap[b]? = some (.cells c t (0,0))
theorem iD.below {W W1:World} {b:Nat} {c:Array Value} {t:TypeId} (h:iD W b c t) (hb:Below W.heap.size W W1):iD W1 b c t:=(hb.block b (Array.getElem?_eq_some_iff.1 h).1).trans h
def xA (v:Value) (w:World) (e:Ending) (w':World):Prop:=e = .returned v∧Below w.heap.size w w'
def kZ (W:World) (b:Nat) (s:lF) (v:qO):Prop:=∃ A7 c7 A8 c8,iD W b #[.int .i64 s.nx,.int .i64 s.ny,.int .i64 s.cell,.int .i64 s.slot,.int .i64 s.slots,.int .i64 s.layers,.int .i64 s.most,.slice A7 s.shores.length c7,.slice A8 s.currents.length c8,.int .i64 v.speed,.int .i64 v.dive,.int .i64 v.use.f0,.int .i64 v.use.f1,.int .i64 v.drift.f0,.int .i64 v.drift.f1,.int .i64 v.reserve] 110∧s.shores.length≤c7∧Kd.C Kd.bool W A7 s.shores.length s.shores∧s.currents.length≤c8∧Kd.C CY W A8 s.currents.length s.currents
theorem kZ.below {W W1:World} {b:Nat} {s:lF} {v:qO} (h:kZ W b s v) (hb:Below W.heap.size W W1):kZ W1 b s v:=by
 obtain ⟨A7,c7,A8,c8,h1,h2,h3,h4,h5⟩:=h
 exact ⟨A7,c7,A8,c8,h1.below hb,h2,Kd.bn h3 hb,h4,Kd.bn h5 hb⟩
structure xz (s:lF):Prop where
 nx:1≤s.nx∧s.nx≤12
 ny:1≤s.ny∧s.ny≤12
 cell:100≤s.cell∧s.cell≤65536
 slot:1≤s.slot∧s.slot≤1048576
 slots:1≤s.slots∧s.slots≤16
 layers:1≤s.layers∧s.layers≤3
 most:0≤s.most∧s.most≤5000
structure Br (v:qO):Prop where
 speed:0≤v.speed∧v.speed≤5000
 dive:1≤v.dive∧v.dive≤131072
theorem Um {a b c d:Int} (h:a = c) (h2:b = d):Ending.returned (.tuple #[.int .i64 a,.int .i64 b]) = Ending.returned (.tuple #[.int .i64 c,.int .i64 d]):=by rw [h,h2]
theorem fI {a b m n:Int} (h0:0≤a) (h1:a≤m) (h2:0≤b) (h3:b≤n):0≤a*b∧a*b≤m*n :=
 ⟨Int.mul_nonneg h0 h2,Int.le_trans (Int.mul_le_mul_of_nonneg_right h1 h2) (Int.mul_le_mul_of_nonneg_left h3 (Int.le_trans h0 h1))⟩
def gN (s:lF) (x:gz):Bool:=decide (0≤x.f0.f0) && decide (0≤x.f1.f0) && decide (x.f0.f1≤s.nx*s.cell) && decide (x.f1.f1≤s.ny*s.cell)
def ql (s:lF) (t u:Int):Bool:=decide (0≤t) && decide (u≤s.slots*s.slot)
set_option maxRecDepth 100000 in
set_option maxHeartbeats 2000000 in
theorem Rq (b:Nat) (s:lF) (v:qO) (x:gz) (w:World) (hT:kZ w b s v) (hS:xz s):
 Calls Try.prog 68 #[.pointer (some ⟨b,0,none⟩),.agg #[.int .i64 x.f0.f0,.int .i64 x.f0.f1,.int .i64 x.f1.f0,.int .i64 x.f1.f1]] w (xA (.bool (gN s x)) w):=by
 obtain ⟨A7,c7,A8,c8,hB,_⟩:=hT
 have hx:=fI (show 0≤s.nx by have:=hS.nx;omega) hS.nx.2 (show 0≤s.cell by have:=hS.cell;omega) hS.cell.2
 have hy:=fI (show 0≤s.ny by have:=hS.ny;omega) hS.ny.2 (show 0≤s.cell by have:=hS.cell;omega) hS.cell.2
 clear hS
 have hC0:∀ o_,(w.alloc o_).cell? ⟨b,0,none⟩ = some (.int .i64 s.nx):=fun o_=>(aa (ag hB o_) 0).trans rfl
 have hC1:∀ o_,(w.alloc o_).cell? ⟨b,1,none⟩ = some (.int .i64 s.ny):=fun o_=>(aa (ag hB o_) 1).trans rfl
 have hC2:∀ o_,(w.alloc o_).cell? ⟨b,2,none⟩ = some (.int .i64 s.cell):=fun o_=>(aa (ag hB o_) 2).trans rfl
 by_cases q0:0≤x.f0.f0
 ·have q0_:decide (0≤x.f0.f0) = true:=decide_eq_true q0
  by_cases q1:0≤x.f1.f0
  ·have q1_:decide (0≤x.f1.f0) = true:=decide_eq_true q1
   by_cases q2:x.f0.f1≤s.nx*s.cell
   ·have q2_:decide (x.f0.f1≤s.nx*s.cell) = true:=decide_eq_true q2
    by_cases q3:x.f1.f1≤s.ny*s.cell
    ·have q3_:decide (x.f1.f1≤s.ny*s.cell) = true:=decide_eq_true q3
     have HR:Hid (gN s x = true):=Lib.hid (by unfold gN;simp only [q0_,q1_,q2_,q3_];rfl)
     go_enter Try.func68,Try.ntmps68
     go_wp2
     go_quiet (fail)
     go_wp2
     go_ret
     exact ⟨PE,PG⟩
    ·have q3_:decide (x.f1.f1≤s.ny*s.cell) = false:=decide_eq_false q3
     have HR:Hid (gN s x = false):=Lib.hid (by unfold gN;simp only [q0_,q1_,q2_,q3_];rfl)
     go_enter Try.func68,Try.ntmps68
     go_wp2
     go_quiet (fail)
     go_wp2
     go_ret
     exact ⟨PE,PG⟩
   ·have q2_:decide (x.f0.f1≤s.nx*s.cell) = false:=decide_eq_false q2
    have HR:Hid (gN s x = false):=Lib.hid (by unfold gN;simp only [q0_,q1_,q2_];rfl)
    go_enter Try.func68,Try.ntmps68
    go_wp2
    go_quiet (fail)
    go_wp2
    go_ret
    exact ⟨PE,PG⟩
  ·have q1_:decide (0≤x.f1.f0) = false:=decide_eq_false q1
   have HR:Hid (gN s x = false):=Lib.hid (by unfold gN;simp only [q0_,q1_];rfl)
   go_enter Try.func68,Try.ntmps68
   go_wp2
   go_quiet (fail)
   go_wp2
   go_ret
   exact ⟨PE,PG⟩
 ·have q0_:decide (0≤x.f0.f0) = false:=decide_eq_false q0
  have HR:Hid (gN s x = false):=Lib.hid (by unfold gN;simp only [q0_];rfl)
  go_enter Try.func68,Try.ntmps68
  go_wp2
  go_quiet (fail)
  go_wp2
  go_ret
  exact ⟨PE,PG⟩
set_option maxRecDepth 100000 in
set_option maxHeartbeats 2000000 in
theorem abr (b:Nat) (s:lF) (v:qO) (t u:Int) (w:World) (hT:kZ w b s v) (hS:xz s):
 Calls Try.prog 69 #[.pointer (some ⟨b,0,none⟩),.int .i64 t,.int .i64 u] w (xA (.bool (ql s t u)) w):=by
 obtain ⟨A7,c7,A8,c8,hB,_⟩:=hT
 have hx:=fI (show 0≤s.slots by have:=hS.slots;omega) hS.slots.2 (show 0≤s.slot by have:=hS.slot;omega) hS.slot.2
 clear hS
 have hC3:w.cell? ⟨b,3,none⟩ = some (.int .i64 s.slot):=(aa hB 3).trans rfl
 have hC4:w.cell? ⟨b,4,none⟩ = some (.int .i64 s.slots):=(aa hB 4).trans rfl
 by_cases q0:0≤t
 ·have q0_:decide (0≤t) = true:=decide_eq_true q0
  by_cases q1:u≤s.slots*s.slot
  ·have q1_:decide (u≤s.slots*s.slot) = true:=decide_eq_true q1
   have HR:Hid (ql s t u = true):=Lib.hid (by unfold ql;simp only [q0_,q1_];rfl)
   go_enter Try.func69,Try.ntmps69
   go_wp2
   go_quiet (fail)
   go_wp2
   go_ret
   exact ⟨PE,PG⟩
  ·have q1_:decide (u≤s.slots*s.slot) = false:=decide_eq_false q1
   have HR:Hid (ql s t u = false):=Lib.hid (by unfold ql;simp only [q0_,q1_];rfl)
   go_enter Try.func69,Try.ntmps69
   go_wp2
   go_quiet (fail)
   go_wp2
   go_ret
   exact ⟨PE,PG⟩
 ·have q0_:decide (0≤t) = false:=decide_eq_false q0
  have HR:Hid (ql s t u = false):=Lib.hid (by unfold ql;simp only [q0_];rfl)
  go_enter Try.func69,Try.ntmps69
  go_wp2
  go_quiet (fail)
  go_wp2
  go_ret
  exact ⟨PE,PG⟩
def uQ (c lo:Int):Int:=if 0 < lo / c∧lo % c = 0 then lo / c - 1 else lo / c
def pX (c:Int) (a:nD) (most:Int):Int × Int:=(min (uQ c a.f0) (most - 1),min (a.f1 / c) (most - 1))
theorem Bl {x c:Int} (h0:0≤x) (hc:1≤c):0≤x / c∧x / c≤x :=
 ⟨Int.ediv_nonneg h0 (by omega),Int.ediv_le_self _ h0⟩
theorem aoc {x c:Int} (hc:1≤c):0≤x % c∧x % c≤c:=by
 have h1:=Int.emod_nonneg x (show c≠0 by omega)
 have h2:=Int.emod_lt_of_pos x (show 0 < c by omega)
 omega
set_option maxRecDepth 100000 in
set_option maxHeartbeats 2000000 in
theorem Mg (b:Nat) (s:lF) (v:qO) (a:nD) (most:Int) (w:World) (hT:kZ w b s v) (hS:xz s) (h0:0≤a.f0) (h1:a.f0≤1099511627776) (h2:0≤a.f1) (h3:a.f1≤1099511627776) (hm0:1≤most) (hm1:most≤12):
 Calls Try.prog 136 #[.pointer (some ⟨b,0,none⟩),.agg #[.int .i64 a.f0,.int .i64 a.f1],.int .i64 most] w (xA (.tuple #[.int .i64 (pX s.cell a most).1,.int .i64 (pX s.cell a most).2]) w):=by
 obtain ⟨A7,c7,A8,c8,hB,_⟩:=hT
 have hc:=hS.cell
 have hd:=Bl h0 (show 1≤s.cell by omega)
 have hd2:=Bl h2 (show 1≤s.cell by omega)
 have hr:=aoc (x:=a.f0) (show 1≤s.cell by omega)
 have hne:s.cell≠0:=by omega
 have hbq:(s.cell == 0) = false:=beq_eq_false_iff_ne.2 hne
 clear hS
 have hC2:∀ o_,(w.alloc o_).cell? ⟨b,2,none⟩ = some (.int .i64 s.cell):=fun o_=>(aa (ag hB o_) 2).trans rfl
 have e1:Int.tdiv a.f0 s.cell = a.f0 / s.cell:=Int.tdiv_eq_ediv_of_nonneg h0
 have e2:Int.tdiv a.f1 s.cell = a.f1 / s.cell:=Int.tdiv_eq_ediv_of_nonneg h2
 have e3:Int.tmod a.f0 s.cell = a.f0 % s.cell:=Int.tmod_eq_emod_of_nonneg h0
 have HR:Hid (pX s.cell a most = (min (uQ s.cell a.f0) (most - 1),min (a.f1 / s.cell) (most - 1))):=Lib.hid rfl
 have HF:Hid (uQ s.cell a.f0 = if 0 < a.f0 / s.cell∧a.f0 % s.cell = 0 then a.f0 / s.cell - 1 else a.f0 / s.cell):=Lib.hid rfl
 generalize a.f0 / s.cell = Q at*
 generalize a.f1 / s.cell = R at*
 generalize a.f0 % s.cell = M at*
 by_cases q0:0 < Q
 ·have q0_:decide (0 < Q) = true:=decide_eq_true q0
  by_cases q1:M = 0
  ·have q1_:(M == 0) = true:=beq_iff_eq.2 q1
   have HG:=Lib.hid (HF.out.trans (if_pos ⟨q0,q1⟩))
   clear q1 HF
   go_enter Try.func136,Try.ntmps136
   go_wp2
   go_quiet (fail)
   go_wp2
   go_quiet (fail)
   go_wp2
   go_quiet (fail)
   go_wp2
   all_goals (go_ret2;exact ⟨Um (by rw [HR.out];dsimp only;rw [HG.out];omega) (by rw [HR.out];dsimp only;omega),PG⟩)
  ·have q1_:(M == 0) = false:=beq_eq_false_iff_ne.2 q1
   have HG:=Lib.hid (HF.out.trans (if_neg (fun h=>q1 h.2)))
   clear q1 HF
   go_enter Try.func136,Try.ntmps136
   go_wp2
   go_quiet (fail)
   go_wp2
   go_quiet (fail)
   go_wp2
   go_quiet (fail)
   go_wp2
   all_goals (go_ret2;exact ⟨Um (by rw [HR.out];dsimp only;rw [HG.out];omega) (by rw [HR.out];dsimp only;omega),PG⟩)
 ·have q0_:decide (0 < Q) = false:=decide_eq_false q0
  have HG:=Lib.hid (HF.out.trans (if_neg (fun h=>q0 h.1)))
  clear HF
  go_enter Try.func136,Try.ntmps136
  go_wp2
  go_quiet (fail)
  go_wp2
  go_quiet (fail)
  go_wp2
  go_quiet (fail)
  go_wp2
  all_goals (go_ret2;exact ⟨Um (by rw [HR.out];dsimp only;rw [HG.out];omega) (by rw [HR.out];dsimp only;omega),PG⟩)
end Go.Proofs.Ytmhaiihjfgfaoaa.Gl
end
