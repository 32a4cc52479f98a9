import Derived.RangeFuncCalls
import Derived.RangeFuncNested
import Derived.OrdersIn
import Derived.RangeFuncBound
import Derived.RangeFuncLeaves
import Derived.Shelf.Abstract
import Derived.Shelf.RegionOpen
import Derived.WalkKit
import Derived.OwnWalkIn
import Derived.TacticsInMore
import Derived.LoopNIn
import Derived.LoopIn
import Derived.Lib.Hide
import Derived.Deep.QuietTactic
import Derived.BigQuiet
import Derived.StillTailTactics
import Derived.Test.YtmhaiihjfgfaoaaGaa1
import Derived.Test.YtmhaiihjfgfaoaaGaa3
section
namespace Go.Proofs.Ytmhaiihjfgfaoaa.Pr
open Go.RowKit Go.Proofs.YtmhaiihjfgfaoaaW.PrintWords Go.Proofs.YtmhaiihjfgfaoaaW.PrintLast Go.Proofs.YtmhaiihjfgfaoaaW.PrintMore
attribute [local go_sem] fo fq gu gz fu
set_option linter.unusedVariables false
set_option linter.unusedSimpArgs false
def eB.l0:Nat→List (mZ)→Int→Int→Option (Int)
 |0,_,_,_=>none
 |k+1,x5,x6,x7=>if x7 < x6 then (if 0≤x7 then (if x7 < (x5.length:Int) then (if ((oJ x5 x7).f0) > ((oJ x5 x7).f1) then (some 2) else (if ((oJ x5 x7).f0) < (-1073741824) then (some 2) else (if ((oJ x5 x7).f1) > 1073741824 then (some 2) else (eB.l0 k x5 x6 (wrap64 (x7+1)))))) else (none)) else (none)) else (some 0)
def eB.f (k:Nat) (l0:List (mZ)):Option (Int):=eB.l0 k l0 (l0.length:Int) 0
theorem eB.LC:∀ k,(∀ y0 y1 y2,nS (eB.l0 k y0 y1 y2) (eB.l0 (k+1) y0 y1 y2))
 |0=>fun _ _ _ r h=>by simp [eB.l0] at h
 |k+1=>by
  have ih0:=eB.LC k
  ·intro y0 y1 y2
   unfold eB.l0
   repeat' first
   |(with_reducible exact ih0 _ _ _)
   |(with_reducible exact nS.refl _)
   |(with_reducible exact nS.none _)
   |(with_reducible refine nS.ite ?_ ?_)
   |(with_reducible refine nS.bind ?_ (fun _=>?_))
   |exact ih0 _ _ _
   |exact nS.none _
   |refine nS.ite ?_ ?_
   |refine nS.bind ?_ (fun _=>?_)
theorem eB.mono:∀ a0 k,nS (eB.f k a0) (eB.f (k+1) a0):=by
 intro a0 k
 have ih0:=eB.LC k
 unfold eB.f
 repeat' first
  |(with_reducible exact ih0 _ _ _)
  |(with_reducible exact nS.refl _)
  |(with_reducible exact nS.none _)
  |(with_reducible refine nS.ite ?_ ?_)
  |(with_reducible refine nS.bind ?_ (fun _=>?_))
  |exact ih0 _ _ _
  |exact nS.none _
  |refine nS.ite ?_ ?_
  |refine nS.bind ?_ (fun _=>?_)
set_option maxHeartbeats 8000000 in
set_option maxRecDepth 100000 in
theorem eB.calls (k:Nat) (A0:Option Addr) (c0:Nat) (l0:List (mZ)) (r:Int) (w:World) (hr0:Kd.C k27 w A0 l0.length l0) (hc0:l0.length≤c0) (h:eB.f k l0 = some r):
 Calls Try.prog 116 #[.slice A0 l0.length c0] w fun e w'=>e = .returned (.int .i64 r)∧Below w.heap.size w w':=by
 have sU:=Try.underlying27
 have HR0:=aj.mk hr0
 have HC0:=aj.mk hc0
 clear hr0 hc0
 have HB:=aj.mk (Below.refl w.heap.size w)
 have H:(eB.l0 k l0 (l0.length:Int) 0) = some r:=h
 clear h
 have H':=aj.mk H
 clear H
 go_enter Try.func116,Try.ntmps116
 go_wp2
 go_loopg [7] k (fun kq v7 w'=>∃ (qJ:Int),v7 = .int .i64 qJ∧aj (eB.l0 kq l0 (l0.length:Int) qJ = some r)∧aj (kq≤k)∧aj (Below w.heap.size w w'))
 case atStart=>exact ⟨(0),(by first|rfl|(simp;done)|(simp [*];done)),H',⟨Nat.le_refl _⟩,⟨by repeat (first|(with_reducible first|exact HB.out|apply au|apply ah|apply av)|exact HB.out)⟩⟩
 case round =>
  clear H'
  try clear c1
  obtain ⟨qJ,rfl,HA,GV,HB⟩:=hrel
  cases gk with
  |zero=>exact absurd HA.out (by simp [eB.l0])
  |succ k1 =>
   have H:=HA.out
   clear HA
   simp only [eB.l0] at H
   by_cases c2:qJ < (l0.length:Int)
   ·rw [if_pos c2] at H
    have SA:decide (qJ < (l0.length:Int)) = true:=decide_eq_true c2
    clear c2
    by_cases c3:0≤qJ
    ·rw [if_pos c3] at H
     have Jh:decide (0≤qJ) = true:=decide_eq_true c3
     clear c3
     by_cases c4:qJ < (l0.length:Int)
     ·rw [if_pos c4] at H
      have wV:decide (qJ < (l0.length:Int)) = true:=decide_eq_true c4
      clear c4
      by_cases c5:((oJ l0 qJ).f0) > ((oJ l0 qJ).f1)
      ·rw [if_pos c5] at H
       have Ew:decide (((oJ l0 qJ).f1) < ((oJ l0 qJ).f0)) = true:=decide_eq_true c5
       clear c5
       obtain rfl:=Option.some.inj H
       have Ee:0≤(qJ:Int):=of_decide_eq_true (by first|(with_reducible assumption)|assumption)
       have Ef:qJ < (l0.length:Int):=of_decide_eq_true (by first|(with_reducible assumption)|assumption)
       obtain ⟨aak,e129,pX,pY⟩:=PK HR0.out qJ Ee Ef
       cases e129
       replace pX:=(HB.out.cell (World.block_lt_of_cell? w _ pX)).trans pX
       replace pY:=(HB.out.cell (World.block_lt_of_cell? w _ pY)).trans pY
       replace Ee:=eq_true Ee
       replace Ef:=eq_true Ef
       go_wp2_with (first|((with_reducible refine bu (N:=4) rfl ?_);refine aY ?hg (N:=4) ?hd (cs:=#[.int .i64 0,.int .i64 0]) (t:=27) ?hr ?_;(case hd=>rfl);(case hg=>rfl);(case hr=>first|(go_simp;done)|(go_simp;rfl));intro uf hg w6 hbox hb;have bB:=aj.mk (ay (by repeat (first|(with_reducible first|exact HB.out|apply au|apply ah|apply av)|exact HB.out)) hb);have bC:=aj.mk (hbox);have bK:=aj.mk ((by rw [hg];exact (aA (by repeat (first|(with_reducible first|exact HB.out|apply au|apply ah|apply av)|exact HB.out))):w.heap.size≤uf));have bP:=aj.mk ((by rw [hg];exact (aA (by repeat (first|(with_reducible first|exact HB.out|apply au|apply ah|apply av)|exact HB.out))):w.heap.size≤uf));clear HB;have HB:=bB;have ug:=bC;have aal:=bK;have LD:=bP;clear bB bC bK bP;clear hb hbox hg;have yG:w6.cell? ⟨uf,0,none⟩ = some (.int .i64 0):=(aa ug.out 0).trans rfl;have yH:w6.cell? ⟨uf,1,none⟩ = some (.int .i64 0):=(aa ug.out 1).trans rfl;have yI:=ae ug.out 0;have yJ:=ae ug.out 1))
       go_ret
       exact ⟨by first|rfl|(simp [aQ,aT] <;> rfl)|(simp [*,aQ,aT] <;> rfl),by repeat (first|(with_reducible first|exact HB.out|apply au|apply ah|apply av|refine ak ?_ LD.out)|exact HB.out)⟩
      ·rw [if_neg c5] at H
       have Ew:decide (((oJ l0 qJ).f1) < ((oJ l0 qJ).f0)) = false:=decide_eq_false c5
       clear c5
       by_cases c8:((oJ l0 qJ).f0) < (-1073741824)
       ·rw [if_pos c8] at H
        have ME:decide (((oJ l0 qJ).f0) < (-1073741824)) = true:=decide_eq_true c8
        clear c8
        obtain rfl:=Option.some.inj H
        have Ee:0≤(qJ:Int):=of_decide_eq_true (by first|(with_reducible assumption)|assumption)
        have Ef:qJ < (l0.length:Int):=of_decide_eq_true (by first|(with_reducible assumption)|assumption)
        obtain ⟨aak,e129,pX,pY⟩:=PK HR0.out qJ Ee Ef
        cases e129
        replace pX:=(HB.out.cell (World.block_lt_of_cell? w _ pX)).trans pX
        replace pY:=(HB.out.cell (World.block_lt_of_cell? w _ pY)).trans pY
        replace Ee:=eq_true Ee
        replace Ef:=eq_true Ef
        go_wp2_with (first|((with_reducible refine bu (N:=4) rfl ?_);refine aY ?hg (N:=4) ?hd (cs:=#[.int .i64 0,.int .i64 0]) (t:=27) ?hr ?_;(case hd=>rfl);(case hg=>rfl);(case hr=>first|(go_simp;done)|(go_simp;rfl));intro uf hg w9 hbox hb;have bB:=aj.mk (ay (by repeat (first|(with_reducible first|exact HB.out|apply au|apply ah|apply av)|exact HB.out)) hb);have bC:=aj.mk (hbox);have bK:=aj.mk ((by rw [hg];exact (aA (by repeat (first|(with_reducible first|exact HB.out|apply au|apply ah|apply av)|exact HB.out))):w.heap.size≤uf));have bP:=aj.mk ((by rw [hg];exact (aA (by repeat (first|(with_reducible first|exact HB.out|apply au|apply ah|apply av)|exact HB.out))):w.heap.size≤uf));clear HB;have HB:=bB;have ug:=bC;have aal:=bK;have LD:=bP;clear bB bC bK bP;clear hb hbox hg;have vU:w9.cell? ⟨uf,0,none⟩ = some (.int .i64 0):=(aa ug.out 0).trans rfl;have vV:w9.cell? ⟨uf,1,none⟩ = some (.int .i64 0):=(aa ug.out 1).trans rfl;have vW:=ae ug.out 0;have vX:=ae ug.out 1))
        go_ret
        exact ⟨by first|rfl|(simp [aQ,aT] <;> rfl)|(simp [*,aQ,aT] <;> rfl),by repeat (first|(with_reducible first|exact HB.out|apply au|apply ah|apply av|refine ak ?_ LD.out)|exact HB.out)⟩
       ·rw [if_neg c8] at H
        have ME:decide (((oJ l0 qJ).f0) < (-1073741824)) = false:=decide_eq_false c8
        clear c8
        by_cases c11:((oJ l0 qJ).f1) > 1073741824
        ·rw [if_pos c11] at H
         have LB:decide (1073741824 < ((oJ l0 qJ).f1)) = true:=decide_eq_true c11
         clear c11
         obtain rfl:=Option.some.inj H
         have Ee:0≤(qJ:Int):=of_decide_eq_true (by first|(with_reducible assumption)|assumption)
         have Ef:qJ < (l0.length:Int):=of_decide_eq_true (by first|(with_reducible assumption)|assumption)
         obtain ⟨aak,e129,pX,pY⟩:=PK HR0.out qJ Ee Ef
         cases e129
         replace pX:=(HB.out.cell (World.block_lt_of_cell? w _ pX)).trans pX
         replace pY:=(HB.out.cell (World.block_lt_of_cell? w _ pY)).trans pY
         replace Ee:=eq_true Ee
         replace Ef:=eq_true Ef
         go_wp2_with (first|((with_reducible refine bu (N:=4) rfl ?_);refine aY ?hg (N:=4) ?hd (cs:=#[.int .i64 0,.int .i64 0]) (t:=27) ?hr ?_;(case hd=>rfl);(case hg=>rfl);(case hr=>first|(go_simp;done)|(go_simp;rfl));intro uf hg qB hbox hb;have bB:=aj.mk (ay (by repeat (first|(with_reducible first|exact HB.out|apply au|apply ah|apply av)|exact HB.out)) hb);have bC:=aj.mk (hbox);have bK:=aj.mk ((by rw [hg];exact (aA (by repeat (first|(with_reducible first|exact HB.out|apply au|apply ah|apply av)|exact HB.out))):w.heap.size≤uf));have bP:=aj.mk ((by rw [hg];exact (aA (by repeat (first|(with_reducible first|exact HB.out|apply au|apply ah|apply av)|exact HB.out))):w.heap.size≤uf));clear HB;have HB:=bB;have ug:=bC;have aal:=bK;have LD:=bP;clear bB bC bK bP;clear hb hbox hg;have uX:qB.cell? ⟨uf,0,none⟩ = some (.int .i64 0):=(aa ug.out 0).trans rfl;have uY:qB.cell? ⟨uf,1,none⟩ = some (.int .i64 0):=(aa ug.out 1).trans rfl;have uZ:=ae ug.out 0;have ve:=ae ug.out 1))
         go_ret
         exact ⟨by first|rfl|(simp [aQ,aT] <;> rfl)|(simp [*,aQ,aT] <;> rfl),by repeat (first|(with_reducible first|exact HB.out|apply au|apply ah|apply av|refine ak ?_ LD.out)|exact HB.out)⟩
        ·rw [if_neg c11] at H
         have LB:decide (1073741824 < ((oJ l0 qJ).f1)) = false:=decide_eq_false c11
         clear c11
         have H':=aj.mk H
         clear H
         have Ee:0≤(qJ:Int):=of_decide_eq_true (by first|(with_reducible assumption)|assumption)
         have Ef:qJ < (l0.length:Int):=of_decide_eq_true (by first|(with_reducible assumption)|assumption)
         obtain ⟨aak,e129,pX,pY⟩:=PK HR0.out qJ Ee Ef
         cases e129
         replace pX:=(HB.out.cell (World.block_lt_of_cell? w _ pX)).trans pX
         replace pY:=(HB.out.cell (World.block_lt_of_cell? w _ pY)).trans pY
         replace Ee:=eq_true Ee
         replace Ef:=eq_true Ef
         go_wp2_with (first|((with_reducible refine bu (N:=4) rfl ?_);refine aY ?hg (N:=4) ?hd (cs:=#[.int .i64 0,.int .i64 0]) (t:=27) ?hr ?_;(case hd=>rfl);(case hg=>rfl);(case hr=>first|(go_simp;done)|(go_simp;rfl));intro uf hg R9 hbox hb;have bB:=aj.mk (ay (by repeat (first|(with_reducible first|exact HB.out|apply au|apply ah|apply av)|exact HB.out)) hb);have bC:=aj.mk (hbox);have bK:=aj.mk ((by rw [hg];exact (aA (by repeat (first|(with_reducible first|exact HB.out|apply au|apply ah|apply av)|exact HB.out))):w.heap.size≤uf));have bP:=aj.mk ((by rw [hg];exact (aA (by repeat (first|(with_reducible first|exact HB.out|apply au|apply ah|apply av)|exact HB.out))):w.heap.size≤uf));clear HB;have HB:=bB;have ug:=bC;have aal:=bK;have LD:=bP;clear bB bC bK bP;clear hb hbox hg;have qj:R9.cell? ⟨uf,0,none⟩ = some (.int .i64 0):=(aa ug.out 0).trans rfl;have ql:R9.cell? ⟨uf,1,none⟩ = some (.int .i64 0):=(aa ug.out 1).trans rfl;have qm:=ae ug.out 0;have qo:=ae ug.out 1))
         go_roundg k1
         case measure=>have:=GV.out;omega
         case rel=>exact ⟨(wrap64 (qJ+1)),(by first|rfl|(simp;done)|(simp [*];done)),H',⟨by have:=GV.out;omega⟩,⟨by repeat (first|(with_reducible first|exact HB.out|apply au|apply ah|apply av|refine ak ?_ LD.out)|exact HB.out)⟩⟩
     ·rw [if_neg c4] at H
      exact absurd H (by simp)
    ·rw [if_neg c3] at H
     exact absurd H (by simp)
   ·rw [if_neg c2] at H
    have SA:decide (qJ < (l0.length:Int)) = false:=decide_eq_false c2
    clear c2
    obtain rfl:=Option.some.inj H
    go_wp2
    go_ret
    exact ⟨by first|rfl|(simp [aQ,aT] <;> rfl)|(simp [*,aQ,aT] <;> rfl),by repeat (first|(with_reducible first|exact HB.out|apply au|apply ah|apply av)|exact HB.out)⟩
end Go.Proofs.Ytmhaiihjfgfaoaa.Pr
end
section
namespace Go.Proofs.Ytmhaiihjfgfaoaa.Pr
open Go.RowKit Go.Proofs.YtmhaiihjfgfaoaaW.PrintWords Go.Proofs.YtmhaiihjfgfaoaaW.PrintLast Go.Proofs.YtmhaiihjfgfaoaaW.PrintMore
attribute [local go_sem] fo fq gu gz fu
set_option linter.unusedVariables false
set_option linter.unusedSimpArgs false
def jF.f (k:Nat) (aC:Int) (aD:Int):Option (Int):=(eB.f k (([(⟨aC,aD⟩:mZ)]:List (mZ)))).bind fun t135=>(some t135)
theorem jF.mono:∀ a0 a1 k,nS (jF.f k a0 a1) (jF.f (k+1) a0 a1):=by
 intro a0 a1 k
 unfold jF.f
 repeat' first
  |(with_reducible exact eB.mono _ _)
  |(with_reducible exact nS.refl _)
  |(with_reducible exact nS.none _)
  |(with_reducible refine nS.ite ?_ ?_)
  |(with_reducible refine nS.bind ?_ (fun _=>?_))
  |exact eB.mono _ _
  |exact nS.none _
  |refine nS.ite ?_ ?_
  |refine nS.bind ?_ (fun _=>?_)
set_option maxHeartbeats 8000000 in
set_option maxRecDepth 100000 in
theorem jF.calls (k:Nat) (aC:Int) (aD:Int) (r:Int) (w:World) (h:jF.f k aC aD = some r):
 Calls Try.prog 122 #[.agg #[.int .i64 aC,.int .i64 aD]] w fun e w'=>e = .returned (.int .i64 r)∧Below w.heap.size w w':=by
 have sU:=Try.underlying27
 have HB:=aj.mk (Below.refl w.heap.size w)
 have H:((eB.f k (([(⟨aC,aD⟩:mZ)]:List (mZ)))).bind fun t135=>(some t135)) = some r:=h
 clear h
 obtain ⟨ahN,Rf⟩:∃ y_:List (mZ),y_ = (([(⟨aC,aD⟩:mZ)]:List (mZ))):=⟨_,rfl⟩
 replace H:((eB.f k ahN).bind fun t135=>(some t135)) = some r:=by first|(rw [Rf];with_reducible exact H)|(have G7:=(Option.bind_some _ _).symm.trans H;rw [Rf];with_reducible exact G7)|(have G7:=(Option.bind_some _ _).symm.trans H;with_reducible exact G7)|with_reducible exact H|(rw [Rf];exact H)|exact H
 have agC:=aj.mk Rf
 clear Rf
 replace H:=Option.bind_eq_some_iff.mp H
 obtain ⟨t135,RY,H⟩:=H
 replace H:(some t135) = some r:=H
 have A2:=aj.mk RY
 clear RY
 obtain rfl:=Option.some.inj H
 go_enter Try.func122,Try.ntmps122
 go_wp2_with (first|((with_reducible refine bu (N:=1) rfl ?_);refine aY ?hg (N:=1) ?hd (cs:=#[.int .i64 aC,.int .i64 aD]) (t:=27) ?hr ?_;(case hd=>rfl);(case hg=>rfl);(case hr=>first|(go_simp;done)|(go_simp;rfl));intro LF hg w3 hbox hb;have bB:=aj.mk (ay (by repeat (first|(with_reducible first|exact HB.out|apply au|apply ah|apply av)|exact HB.out)) hb);have bC:=aj.mk (hbox);have bK:=aj.mk ((by rw [hg];exact (aA (by repeat (first|(with_reducible first|exact HB.out|apply au|apply ah|apply av)|exact HB.out))):w.heap.size≤LF));have bP:=aj.mk ((by rw [hg];exact (aA (by repeat (first|(with_reducible first|exact HB.out|apply au|apply ah|apply av)|exact HB.out))):w.heap.size≤LF));clear HB;have HB:=bB;have Bj:=bC;have aDU:=bK;have Xu:=bP;clear bB bC bK bP;clear hb hbox hg;have SB:w3.cell? ⟨LF,0,none⟩ = some (.int .i64 aC):=(aa Bj.out 0).trans rfl;have SC:w3.cell? ⟨LF,1,none⟩ = some (.int .i64 aD):=(aa Bj.out 1).trans rfl;have SE:=ae Bj.out 0;have SF:=ae Bj.out 1)|((with_reducible refine bu (N:=4) rfl ?_);refine Kd.MQ k27 _ 27 ?hg (N:=4) ?hd (xs:=([(⟨aC,aD⟩:mZ)]:List (mZ))) (inner:=[.int .i64 aC,.int .i64 aD]) (ok:=fun _=>True) (okp:=fun _=>True) ?hr ?hp (fun _ hk=>hk) trivial (Below.refl _ _) (Nat.le_refl _) (by simp) ?_;(case hd=>rfl);(case hg=>rfl);(case hr=>first|(go_simp;done)|(go_simp;rfl));(case hp=>exact (oU.c2 (show Kd.M k27 _ _ _ (⟨aC,aD⟩:mZ) [.int .i64 aC,.int .i64 aD] from (wC _ _ _ (⟨aC,aD⟩:mZ))) (oU.none _ _)));intro aFz w5 ho6 hb Zj Bg;clear Zj Bg;(first|rw [← agC.out] at ho6|(simp only [Int.reduceToNat] at ho6;rw [← agC.out] at ho6));have bB:=aj.mk (Kd.vY (Kd.ahz ho6 (g:=LF) (o:=.cells #[.int .i64 aC,.int .i64 aD] 27 (0,0)) (by (with_reducible repeat (first|refine ag ?_ _|refine ai ?_|refine af ?_ _));exact Bj.out)) (aA (by repeat (first|(with_reducible first|exact HB.out|apply au|apply ah|apply av|refine ak ?_ Xu.out)|exact HB.out))));have bC:=aj.mk (ax (g:=LF) (o:=.cells #[.int .i64 aC,.int .i64 aD] 27 (0,0)) (by (with_reducible repeat (first|refine ag ?_ _|refine ai ?_|refine af ?_ _));exact Bj.out) hb);have bK:=aj.mk (ay (by repeat (first|(with_reducible first|exact HB.out|apply au|apply ah|apply av|refine ak ?_ Xu.out)|exact HB.out)) hb);clear Bj;clear HB;have Nq:=bB;have Bj:=bC;have HB:=bK;clear bB bC bK;clear hb ho6;obtain ⟨Ao7,co7,eo7⟩:=Kd.pR Nq.out;subst eo7)|((with_reducible refine bT (f:=116) rfl ?_);refine fM (some 5) rfl rfl Try.func116 (by kernel_rfl) rfl #[.slice Ao7 ahN.length co7] rfl (by (try simp only [List.map_toArray,List.map_cons,List.map_nil]);first|done|rfl|(simp only [List.length_drop,List.length_take];rfl)) ?_;(with_reducible refine (eB.calls k _ _ ahN t135 _ ?gm ?gp A2.out).mono ?_);(case gm=>repeat (first|exact (Kd.iF Nq.out).2.2|(with_reducible refine Kd.dO ?_ _)|(with_reducible refine Kd.dP ?_ _)|(with_reducible refine Kd.eO ?_)));(case gp=>exact (Kd.iF Nq.out).2.1);rintro e w8 ⟨rfl,hb⟩;refine ⟨_,rfl,?_⟩;have bB:=aj.mk (Kd.gL (by (with_reducible repeat (first|apply Kd.eD|apply Kd.eF|apply Kd.fF));exact Nq.out) hb);have bC:=aj.mk (ax (g:=LF) (o:=.cells #[.int .i64 aC,.int .i64 aD] 27 (0,0)) (by (with_reducible repeat (first|refine ag ?_ _|refine ai ?_|refine af ?_ _));exact Bj.out) hb);have bK:=aj.mk (ay (by repeat (first|(with_reducible first|exact HB.out|apply au|apply ah|apply av|refine ak ?_ Xu.out)|exact HB.out)) hb);clear Nq;clear Bj;clear HB;have Nq:=bB;have Bj:=bC;have HB:=bK;clear bB bC bK;(try clear hb);(try clear hb2);(try clear hk);(try clear hi)))
 go_ret
 exact ⟨by first|rfl|(simp [aQ,aT] <;> rfl)|(simp [*,aQ,aT] <;> rfl),by repeat (first|(with_reducible first|exact HB.out|apply au|apply ah|apply av|refine ak ?_ Xu.out)|exact HB.out)⟩
end Go.Proofs.Ytmhaiihjfgfaoaa.Pr
end
section
namespace Go.Proofs.Ytmhaiihjfgfaoaa.Pr
open Go.RowKit Go.Proofs.YtmhaiihjfgfaoaaW.PrintWords Go.Proofs.YtmhaiihjfgfaoaaW.PrintLast Go.Proofs.YtmhaiihjfgfaoaaW.PrintMore
attribute [local go_sem] fo fq gu gz fu
set_option linter.unusedVariables false
set_option linter.unusedSimpArgs false
def cO.f (k:Nat) (aC:Int) (aD:Int) (a1:Int) (a2:Int):Option (Bool):=(jF.f k aC aD).bind fun t137=>(if t137 = 0 then (if aC ≥ a1 then (some (decide (aD≤a2))) else (some false)) else (some false))
theorem cO.mono:∀ a0 a1 a2 a3 k,nS (cO.f k a0 a1 a2 a3) (cO.f (k+1) a0 a1 a2 a3):=by
 intro a0 a1 a2 a3 k
 unfold cO.f
 repeat' first
  |(with_reducible exact jF.mono _ _ _)
  |(with_reducible exact nS.refl _)
  |(with_reducible exact nS.none _)
  |(with_reducible refine nS.ite ?_ ?_)
  |(with_reducible refine nS.bind ?_ (fun _=>?_))
  |exact jF.mono _ _ _
  |exact nS.none _
  |refine nS.ite ?_ ?_
  |refine nS.bind ?_ (fun _=>?_)
set_option maxHeartbeats 8000000 in
set_option maxRecDepth 100000 in
theorem cO.calls (k:Nat) (aC:Int) (aD:Int) (a1:Int) (a2:Int) (r:Bool) (w:World) (h:cO.f k aC aD a1 a2 = some r):
 Calls Try.prog 77 #[.agg #[.int .i64 aC,.int .i64 aD],.int .i64 a1,.int .i64 a2] w fun e w'=>e = .returned (.bool r)∧Below w.heap.size w w':=by
 have sU:=Try.underlying27
 have HB:=aj.mk (Below.refl w.heap.size w)
 have H:((jF.f k aC aD).bind fun t137=>(if t137 = 0 then (if aC ≥ a1 then (some (decide (aD≤a2))) else (some false)) else (some false))) = some r:=h
 clear h
 replace H:=Option.bind_eq_some_iff.mp H
 obtain ⟨t137,Nl,H⟩:=H
 replace H:(if t137 = 0 then (if aC ≥ a1 then (some (decide (aD≤a2))) else (some false)) else (some false)) = some r:=H
 have A4:=aj.mk Nl
 clear Nl
 by_cases c5:t137 = 0
 ·rw [if_pos c5] at H
  have Ew:(t137 == 0) = true:=beq_iff_eq.mpr c5
  have aam:(t137 != 0) = false:=bne_eq_false_iff_eq.mpr c5
  clear c5
  by_cases c6:aC ≥ a1
  ·rw [if_pos c6] at H
   have Lu:decide (a1≤aC) = true:=decide_eq_true c6
   clear c6
   obtain rfl:=Option.some.inj H
   go_enter Try.func77,Try.ntmps77
   go_wp2_with (first|((with_reducible refine bu (N:=3) rfl ?_);refine aY ?hg (N:=3) ?hd (cs:=#[.int .i64 aC,.int .i64 aD]) (t:=27) ?hr ?_;(case hd=>rfl);(case hg=>rfl);(case hr=>first|(go_simp;done)|(go_simp;rfl));intro rF hg w7 hbox hb;have bB:=aj.mk (ay (by repeat (first|(with_reducible first|exact HB.out|apply au|apply ah|apply av)|exact HB.out)) hb);have bC:=aj.mk (hbox);have bK:=aj.mk ((by rw [hg];exact (aA (by repeat (first|(with_reducible first|exact HB.out|apply au|apply ah|apply av)|exact HB.out))):w.heap.size≤rF));have bP:=aj.mk ((by rw [hg];exact (aA (by repeat (first|(with_reducible first|exact HB.out|apply au|apply ah|apply av)|exact HB.out))):w.heap.size≤rF));clear HB;have HB:=bB;have nD:=bC;have agD:=bK;have Ja:=bP;clear bB bC bK bP;clear hb hbox hg;have Hr:w7.cell? ⟨rF,0,none⟩ = some (.int .i64 aC):=(aa nD.out 0).trans rfl;have Ht:w7.cell? ⟨rF,1,none⟩ = some (.int .i64 aD):=(aa nD.out 1).trans rfl;have Hu:=ae nD.out 0;have Hw:=ae nD.out 1)|((with_reducible refine bT (f:=122) rfl ?_);refine fM (some 8) rfl rfl Try.func122 (by kernel_rfl) rfl #[.agg #[.int .i64 aC,.int .i64 aD]] rfl (by (try simp only [List.map_toArray,List.map_cons,List.map_nil]);first|done|rfl|(simp only [List.length_drop,List.length_take];rfl)) ?_;(with_reducible refine (jF.calls k aC aD t137 _ A4.out).mono ?_);rintro e w9 ⟨rfl,hb⟩;refine ⟨_,rfl,?_⟩;have bB:=aj.mk (ax (g:=rF) (o:=.cells #[.int .i64 aC,.int .i64 aD] 27 (0,0)) (by (with_reducible repeat (first|refine ag ?_ _|refine ai ?_|refine af ?_ _));exact nD.out) hb);have bC:=aj.mk (ay (by repeat (first|(with_reducible first|exact HB.out|apply au|apply ah|apply av|refine ak ?_ Ja.out)|exact HB.out)) hb);clear nD;clear HB;have nD:=bB;have HB:=bC;clear bB bC;(try clear hb);(try clear hb2);(try clear hk);(try clear hi);have vU:w9.cell? ⟨rF,0,none⟩ = some (.int .i64 aC):=(aa nD.out 0).trans rfl;have vV:w9.cell? ⟨rF,1,none⟩ = some (.int .i64 aD):=(aa nD.out 1).trans rfl;have vW:=ae nD.out 0;have vX:=ae nD.out 1))
   go_ret
   exact ⟨by first|rfl|(simp [aQ,aT] <;> rfl)|(simp [*,aQ,aT] <;> rfl),by repeat (first|(with_reducible first|exact HB.out|apply au|apply ah|apply av|refine ak ?_ Ja.out)|exact HB.out)⟩
  ·rw [if_neg c6] at H
   have Lu:decide (a1≤aC) = false:=decide_eq_false c6
   clear c6
   obtain rfl:=Option.some.inj H
   go_enter Try.func77,Try.ntmps77
   go_wp2_with (first|((with_reducible refine bu (N:=3) rfl ?_);refine aY ?hg (N:=3) ?hd (cs:=#[.int .i64 aC,.int .i64 aD]) (t:=27) ?hr ?_;(case hd=>rfl);(case hg=>rfl);(case hr=>first|(go_simp;done)|(go_simp;rfl));intro rF hg Md hbox hb;have bB:=aj.mk (ay (by repeat (first|(with_reducible first|exact HB.out|apply au|apply ah|apply av)|exact HB.out)) hb);have bC:=aj.mk (hbox);have bK:=aj.mk ((by rw [hg];exact (aA (by repeat (first|(with_reducible first|exact HB.out|apply au|apply ah|apply av)|exact HB.out))):w.heap.size≤rF));have bP:=aj.mk ((by rw [hg];exact (aA (by repeat (first|(with_reducible first|exact HB.out|apply au|apply ah|apply av)|exact HB.out))):w.heap.size≤rF));clear HB;have HB:=bB;have nD:=bC;have agD:=bK;have Ja:=bP;clear bB bC bK bP;clear hb hbox hg;have xY:Md.cell? ⟨rF,0,none⟩ = some (.int .i64 aC):=(aa nD.out 0).trans rfl;have xZ:Md.cell? ⟨rF,1,none⟩ = some (.int .i64 aD):=(aa nD.out 1).trans rfl;have x8:=ae nD.out 0;have x9:=ae nD.out 1)|((with_reducible refine bT (f:=122) rfl ?_);refine fM (some 8) rfl rfl Try.func122 (by kernel_rfl) rfl #[.agg #[.int .i64 aC,.int .i64 aD]] rfl (by (try simp only [List.map_toArray,List.map_cons,List.map_nil]);first|done|rfl|(simp only [List.length_drop,List.length_take];rfl)) ?_;(with_reducible refine (jF.calls k aC aD t137 _ A4.out).mono ?_);rintro e D9 ⟨rfl,hb⟩;refine ⟨_,rfl,?_⟩;have bB:=aj.mk (ax (g:=rF) (o:=.cells #[.int .i64 aC,.int .i64 aD] 27 (0,0)) (by (with_reducible repeat (first|refine ag ?_ _|refine ai ?_|refine af ?_ _));exact nD.out) hb);have bC:=aj.mk (ay (by repeat (first|(with_reducible first|exact HB.out|apply au|apply ah|apply av|refine ak ?_ Ja.out)|exact HB.out)) hb);clear nD;clear HB;have nD:=bB;have HB:=bC;clear bB bC;(try clear hb);(try clear hb2);(try clear hk);(try clear hi);have xw:D9.cell? ⟨rF,0,none⟩ = some (.int .i64 aC):=(aa nD.out 0).trans rfl;have xx:D9.cell? ⟨rF,1,none⟩ = some (.int .i64 aD):=(aa nD.out 1).trans rfl;have xy:=ae nD.out 0;have xz:=ae nD.out 1))
   go_ret
   exact ⟨by first|rfl|(simp [aQ,aT] <;> rfl)|(simp [*,aQ,aT] <;> rfl),by repeat (first|(with_reducible first|exact HB.out|apply au|apply ah|apply av|refine ak ?_ Ja.out)|exact HB.out)⟩
 ·rw [if_neg c5] at H
  have Ew:(t137 == 0) = false:=beq_eq_false_iff_ne.mpr c5
  have aam:(t137 != 0) = true:=bne_iff_ne.mpr c5
  obtain rfl:=Option.some.inj H
  go_enter Try.func77,Try.ntmps77
  go_wp2_with (first|((with_reducible refine bu (N:=3) rfl ?_);refine aY ?hg (N:=3) ?hd (cs:=#[.int .i64 aC,.int .i64 aD]) (t:=27) ?hr ?_;(case hd=>rfl);(case hg=>rfl);(case hr=>first|(go_simp;done)|(go_simp;rfl));intro rF hg Ji hbox hb;have bB:=aj.mk (ay (by repeat (first|(with_reducible first|exact HB.out|apply au|apply ah|apply av)|exact HB.out)) hb);have bC:=aj.mk (hbox);have bK:=aj.mk ((by rw [hg];exact (aA (by repeat (first|(with_reducible first|exact HB.out|apply au|apply ah|apply av)|exact HB.out))):w.heap.size≤rF));have bP:=aj.mk ((by rw [hg];exact (aA (by repeat (first|(with_reducible first|exact HB.out|apply au|apply ah|apply av)|exact HB.out))):w.heap.size≤rF));clear HB;have HB:=bB;have nD:=bC;have agD:=bK;have Ja:=bP;clear bB bC bK bP;clear hb hbox hg;have Cz:Ji.cell? ⟨rF,0,none⟩ = some (.int .i64 aC):=(aa nD.out 0).trans rfl;have CB:Ji.cell? ⟨rF,1,none⟩ = some (.int .i64 aD):=(aa nD.out 1).trans rfl;have CE:=ae nD.out 0;have CF:=ae nD.out 1)|((with_reducible refine bT (f:=122) rfl ?_);refine fM (some 8) rfl rfl Try.func122 (by kernel_rfl) rfl #[.agg #[.int .i64 aC,.int .i64 aD]] rfl (by (try simp only [List.map_toArray,List.map_cons,List.map_nil]);first|done|rfl|(simp only [List.length_drop,List.length_take];rfl)) ?_;(with_reducible refine (jF.calls k aC aD t137 _ A4.out).mono ?_);rintro e zK ⟨rfl,hb⟩;refine ⟨_,rfl,?_⟩;have bB:=aj.mk (ax (g:=rF) (o:=.cells #[.int .i64 aC,.int .i64 aD] 27 (0,0)) (by (with_reducible repeat (first|refine ag ?_ _|refine ai ?_|refine af ?_ _));exact nD.out) hb);have bC:=aj.mk (ay (by repeat (first|(with_reducible first|exact HB.out|apply au|apply ah|apply av|refine ak ?_ Ja.out)|exact HB.out)) hb);clear nD;clear HB;have nD:=bB;have HB:=bC;clear bB bC;(try clear hb);(try clear hb2);(try clear hk);(try clear hi)))
  go_ret
  exact ⟨by first|rfl|(simp [aQ,aT] <;> rfl)|(simp [*,aQ,aT] <;> rfl),by repeat (first|(with_reducible first|exact HB.out|apply au|apply ah|apply av|refine ak ?_ Ja.out)|exact HB.out)⟩
end Go.Proofs.Ytmhaiihjfgfaoaa.Pr
end
section
namespace Go.Proofs.Ytmhaiihjfgfaoaa.Pr
open Go.RowKit Go.Proofs.YtmhaiihjfgfaoaaW.PrintWords Go.Proofs.YtmhaiihjfgfaoaaW.PrintLast Go.Proofs.YtmhaiihjfgfaoaaW.PrintMore
attribute [local go_sem] fo fq gu gz fu
set_option linter.unusedVariables false
set_option linter.unusedSimpArgs false
def cZ.f (k:Nat) (aC:Int) (aD:Int) (aG:Int) (aH:Int) (aN:Int) (aK:Int) (aJ:Int):Option (Int):=(dn.f aC 0 5000).bind fun t139=>(if t139 = true then ((dn.f aD 1 131072).bind fun t140=>(if t140 = true then ((cO.f k aG aH 0 1073741824).bind fun t141=>(if t141 = true then ((cO.f k aN aK 0 1073741824).bind fun t142=>(if t142 = true then ((dn.f aJ 0 1073741824).bind fun t143=>(if t143 = true then (some 0) else (some 2))) else (some 2))) else (some 2))) else (some 2))) else (some 2))
theorem cZ.mono:∀ a0 a1 a2 a3 a4 a5 a6 k,nS (cZ.f k a0 a1 a2 a3 a4 a5 a6) (cZ.f (k+1) a0 a1 a2 a3 a4 a5 a6):=by
 intro a0 a1 a2 a3 a4 a5 a6 k
 unfold cZ.f
 repeat' first
  |(with_reducible exact cO.mono _ _ _ _ _)
  |(with_reducible exact nS.refl _)
  |(with_reducible exact nS.none _)
  |(with_reducible refine nS.ite ?_ ?_)
  |(with_reducible refine nS.bind ?_ (fun _=>?_))
  |exact cO.mono _ _ _ _ _
  |exact nS.none _
  |refine nS.ite ?_ ?_
  |refine nS.bind ?_ (fun _=>?_)
set_option maxHeartbeats 8000000 in
set_option maxRecDepth 100000 in
theorem cZ.calls (k:Nat) (aC:Int) (aD:Int) (aG:Int) (aH:Int) (aN:Int) (aK:Int) (aJ:Int) (r:Int) (w:World) (h:cZ.f k aC aD aG aH aN aK aJ = some r):
 Calls Try.prog 27 #[.agg #[.int .i64 aC,.int .i64 aD,.int .i64 aG,.int .i64 aH,.int .i64 aN,.int .i64 aK,.int .i64 aJ]] w fun e w'=>e = .returned (.int .i64 r)∧Below w.heap.size w w':=by
 have KU:=Try.underlying29
 have sU:=Try.underlying27
 have HB:=aj.mk (Below.refl w.heap.size w)
 have H:((dn.f aC 0 5000).bind fun t139=>(if t139 = true then ((dn.f aD 1 131072).bind fun t140=>(if t140 = true then ((cO.f k aG aH 0 1073741824).bind fun t141=>(if t141 = true then ((cO.f k aN aK 0 1073741824).bind fun t142=>(if t142 = true then ((dn.f aJ 0 1073741824).bind fun t143=>(if t143 = true then (some 0) else (some 2))) else (some 2))) else (some 2))) else (some 2))) else (some 2))) = some r:=h
 clear h
 replace H:=Option.bind_eq_some_iff.mp H
 obtain ⟨t139,RY,H⟩:=H
 replace H:(if t139 = true then ((dn.f aD 1 131072).bind fun t140=>(if t140 = true then ((cO.f k aG aH 0 1073741824).bind fun t141=>(if t141 = true then ((cO.f k aN aK 0 1073741824).bind fun t142=>(if t142 = true then ((dn.f aJ 0 1073741824).bind fun t143=>(if t143 = true then (some 0) else (some 2))) else (some 2))) else (some 2))) else (some 2))) else (some 2)) = some r:=H
 have A2:=aj.mk RY
 clear RY
 by_cases c3:t139 = true
 ·subst c3
  have H1:((dn.f aD 1 131072).bind fun t140=>(if t140 = true then ((cO.f k aG aH 0 1073741824).bind fun t141=>(if t141 = true then ((cO.f k aN aK 0 1073741824).bind fun t142=>(if t142 = true then ((dn.f aJ 0 1073741824).bind fun t143=>(if t143 = true then (some 0) else (some 2))) else (some 2))) else (some 2))) else (some 2))) = some r:=by rw [if_pos rfl] at H;exact H
  clear H
  have H:=H1
  clear H1
  replace H:=Option.bind_eq_some_iff.mp H
  obtain ⟨t140,Nl,H⟩:=H
  replace H:(if t140 = true then ((cO.f k aG aH 0 1073741824).bind fun t141=>(if t141 = true then ((cO.f k aN aK 0 1073741824).bind fun t142=>(if t142 = true then ((dn.f aJ 0 1073741824).bind fun t143=>(if t143 = true then (some 0) else (some 2))) else (some 2))) else (some 2))) else (some 2)) = some r:=H
  have A4:=aj.mk Nl
  clear Nl
  by_cases c5:t140 = true
  ·subst c5
   have H1:((cO.f k aG aH 0 1073741824).bind fun t141=>(if t141 = true then ((cO.f k aN aK 0 1073741824).bind fun t142=>(if t142 = true then ((dn.f aJ 0 1073741824).bind fun t143=>(if t143 = true then (some 0) else (some 2))) else (some 2))) else (some 2))) = some r:=by rw [if_pos rfl] at H;exact H
   clear H
   have H:=H1
   clear H1
   replace H:=Option.bind_eq_some_iff.mp H
   obtain ⟨t141,VN,H⟩:=H
   replace H:(if t141 = true then ((cO.f k aN aK 0 1073741824).bind fun t142=>(if t142 = true then ((dn.f aJ 0 1073741824).bind fun t143=>(if t143 = true then (some 0) else (some 2))) else (some 2))) else (some 2)) = some r:=H
   have A6:=aj.mk VN
   clear VN
   by_cases c7:t141 = true
   ·subst c7
    have H1:((cO.f k aN aK 0 1073741824).bind fun t142=>(if t142 = true then ((dn.f aJ 0 1073741824).bind fun t143=>(if t143 = true then (some 0) else (some 2))) else (some 2))) = some r:=by rw [if_pos rfl] at H;exact H
    clear H
    have H:=H1
    clear H1
    replace H:=Option.bind_eq_some_iff.mp H
    obtain ⟨t142,A80,H⟩:=H
    replace H:(if t142 = true then ((dn.f aJ 0 1073741824).bind fun t143=>(if t143 = true then (some 0) else (some 2))) else (some 2)) = some r:=H
    have A8:=aj.mk A80
    clear A80
    by_cases c9:t142 = true
    ·subst c9
     have H1:((dn.f aJ 0 1073741824).bind fun t143=>(if t143 = true then (some 0) else (some 2))) = some r:=by rw [if_pos rfl] at H;exact H
     clear H
     have H:=H1
     clear H1
     replace H:=Option.bind_eq_some_iff.mp H
     obtain ⟨t143,aag,H⟩:=H
     replace H:(if t143 = true then (some 0) else (some 2)) = some r:=H
     have A10:=aj.mk aag
     clear aag
     by_cases c11:t143 = true
     ·subst c11
      have H1:(some 0) = some r:=by rw [if_pos rfl] at H;exact H
      clear H
      have H:=H1
      clear H1
      obtain rfl:=Option.some.inj H
      go_enter Try.func27,Try.ntmps27
      go_wp2_with (first|((with_reducible refine bu (N:=1) rfl ?_);refine aY ?hg (N:=1) ?hd (cs:=#[.int .i64 aC,.int .i64 aD,.int .i64 aG,.int .i64 aH,.int .i64 aN,.int .i64 aK,.int .i64 aJ]) (t:=29) ?hr ?_;(case hd=>rfl);(case hg=>rfl);(case hr=>first|(go_simp;done)|(go_simp;rfl));intro fA hg qB hbox hb;have bB:=aj.mk (ay (by repeat (first|(with_reducible first|exact HB.out|apply au|apply ah|apply av)|exact HB.out)) hb);have bC:=aj.mk (hbox);have bK:=aj.mk ((by rw [hg];exact (aA (by repeat (first|(with_reducible first|exact HB.out|apply au|apply ah|apply av)|exact HB.out))):w.heap.size≤fA));have bP:=aj.mk ((by rw [hg];exact (aA (by repeat (first|(with_reducible first|exact HB.out|apply au|apply ah|apply av)|exact HB.out))):w.heap.size≤fA));clear HB;have HB:=bB;have cB:=bC;have Rh:=bK;have um:=bP;clear bB bC bK bP;clear hb hbox hg;have uX:qB.cell? ⟨fA,0,none⟩ = some (.int .i64 aC):=(aa cB.out 0).trans rfl;have uY:qB.cell? ⟨fA,1,none⟩ = some (.int .i64 aD):=(aa cB.out 1).trans rfl;have Ai:qB.cell? ⟨fA,2,none⟩ = some (.int .i64 aG):=(aa cB.out 2).trans rfl;have Aj:qB.cell? ⟨fA,3,none⟩ = some (.int .i64 aH):=(aa cB.out 3).trans rfl;have FH:qB.cell? ⟨fA,4,none⟩ = some (.int .i64 aN):=(aa cB.out 4).trans rfl;have FI:qB.cell? ⟨fA,5,none⟩ = some (.int .i64 aK):=(aa cB.out 5).trans rfl;have FJ:qB.cell? ⟨fA,6,none⟩ = some (.int .i64 aJ):=(aa cB.out 6).trans rfl;have uZ:=ae cB.out 0;have ve:=ae cB.out 1;have Ak:=ae cB.out 2;have Al:=ae cB.out 3;have FL:=ae cB.out 4;have FM:=ae cB.out 5;have FN:=ae cB.out 6)|((with_reducible refine bT (f:=74) rfl ?_);refine fM (some 5) rfl rfl Try.func74 (by kernel_rfl) rfl #[.int .i64 aC,.int .i64 0,.int .i64 5000] rfl (by (try simp only [List.map_toArray,List.map_cons,List.map_nil]);first|done|rfl|(simp only [List.length_drop,List.length_take];rfl)) ?_;(with_reducible refine (dn.calls aC 0 5000 true _ A2.out).mono ?_);rintro e w' ⟨rfl,⟨nd,rfl⟩⟩;refine ⟨_,rfl,?_⟩)|(go_at_call 74;(with_reducible refine (dn.calls aD 1 131072 true _ A4.out).mono ?_);rintro e w' ⟨rfl,⟨nd,rfl⟩⟩)|(go_at_call 77;(with_reducible refine (cO.calls k aG aH 0 1073741824 true _ A6.out).mono ?_);rintro e R9 ⟨rfl,hb⟩;have bB:=aj.mk (ax (g:=fA) (o:=.cells #[.int .i64 aC,.int .i64 aD,.int .i64 aG,.int .i64 aH,.int .i64 aN,.int .i64 aK,.int .i64 aJ] 29 (0,0)) (by (with_reducible repeat (first|refine ag ?_ _|refine ai ?_|refine af ?_ _));exact cB.out) hb);have bC:=aj.mk (ay (by repeat (first|(with_reducible first|exact HB.out|apply au|apply ah|apply av|refine ak ?_ um.out)|exact HB.out)) hb);clear cB;clear HB;have cB:=bB;have HB:=bC;clear bB bC;(try clear hb);(try clear hb2);(try clear hk);(try clear hi);have qj:R9.cell? ⟨fA,0,none⟩ = some (.int .i64 aC):=(aa cB.out 0).trans rfl;have ql:R9.cell? ⟨fA,1,none⟩ = some (.int .i64 aD):=(aa cB.out 1).trans rfl;have rG:R9.cell? ⟨fA,2,none⟩ = some (.int .i64 aG):=(aa cB.out 2).trans rfl;have rH:R9.cell? ⟨fA,3,none⟩ = some (.int .i64 aH):=(aa cB.out 3).trans rfl;have uR:R9.cell? ⟨fA,4,none⟩ = some (.int .i64 aN):=(aa cB.out 4).trans rfl;have uS:R9.cell? ⟨fA,5,none⟩ = some (.int .i64 aK):=(aa cB.out 5).trans rfl;have uT:R9.cell? ⟨fA,6,none⟩ = some (.int .i64 aJ):=(aa cB.out 6).trans rfl;have qm:=ae cB.out 0;have qo:=ae cB.out 1;have rJ:=ae cB.out 2;have rM:=ae cB.out 3;have uU:=ae cB.out 4;have uV:=ae cB.out 5;have uW:=ae cB.out 6)|(go_at_call 77;(with_reducible refine (cO.calls k aN aK 0 1073741824 true _ A8.out).mono ?_);rintro e w16 ⟨rfl,hb⟩;have bB:=aj.mk (ax (g:=fA) (o:=.cells #[.int .i64 aC,.int .i64 aD,.int .i64 aG,.int .i64 aH,.int .i64 aN,.int .i64 aK,.int .i64 aJ] 29 (0,0)) (by (with_reducible repeat (first|refine ag ?_ _|refine ai ?_|refine af ?_ _));exact cB.out) hb);have bC:=aj.mk (ay (by repeat (first|(with_reducible first|exact HB.out|apply au|apply ah|apply av|refine ak ?_ um.out)|exact HB.out)) hb);clear cB;clear HB;have cB:=bB;have HB:=bC;clear bB bC;(try clear hb);(try clear hb2);(try clear hk);(try clear hi);have FO:w16.cell? ⟨fA,0,none⟩ = some (.int .i64 aC):=(aa cB.out 0).trans rfl;have FP:w16.cell? ⟨fA,1,none⟩ = some (.int .i64 aD):=(aa cB.out 1).trans rfl;have FQ:w16.cell? ⟨fA,2,none⟩ = some (.int .i64 aG):=(aa cB.out 2).trans rfl;have FR:w16.cell? ⟨fA,3,none⟩ = some (.int .i64 aH):=(aa cB.out 3).trans rfl;have FT:w16.cell? ⟨fA,4,none⟩ = some (.int .i64 aN):=(aa cB.out 4).trans rfl;have FU:w16.cell? ⟨fA,5,none⟩ = some (.int .i64 aK):=(aa cB.out 5).trans rfl;have FV:w16.cell? ⟨fA,6,none⟩ = some (.int .i64 aJ):=(aa cB.out 6).trans rfl;have FW:=ae cB.out 0;have FX:=ae cB.out 1;have FY:=ae cB.out 2;have FZ:=ae cB.out 3;have F3:=ae cB.out 4;have F4:=ae cB.out 5;have F5:=ae cB.out 6)|(go_at_call 74;(with_reducible refine (dn.calls aJ 0 1073741824 true _ A10.out).mono ?_);rintro e w' ⟨rfl,⟨nd,rfl⟩⟩))
      go_ret
      exact ⟨by first|rfl|(simp [aQ,aT] <;> rfl)|(simp [*,aQ,aT] <;> rfl),by repeat (first|(with_reducible first|exact HB.out|apply au|apply ah|apply av|refine ak ?_ um.out)|exact HB.out)⟩
     ·replace c11:=Bool.eq_false_iff.mpr c11
      subst c11
      have H1:(some 2) = some r:=by rw [if_neg (show ¬ (false = true) by decide)] at H;exact H
      clear H
      have H:=H1
      clear H1
      obtain rfl:=Option.some.inj H
      go_enter Try.func27,Try.ntmps27
      go_wp2_with (first|((with_reducible refine bu (N:=1) rfl ?_);refine aY ?hg (N:=1) ?hd (cs:=#[.int .i64 aC,.int .i64 aD,.int .i64 aG,.int .i64 aH,.int .i64 aN,.int .i64 aK,.int .i64 aJ]) (t:=29) ?hr ?_;(case hd=>rfl);(case hg=>rfl);(case hr=>first|(go_simp;done)|(go_simp;rfl));intro fA hg Bc hbox hb;have bB:=aj.mk (ay (by repeat (first|(with_reducible first|exact HB.out|apply au|apply ah|apply av)|exact HB.out)) hb);have bC:=aj.mk (hbox);have bK:=aj.mk ((by rw [hg];exact (aA (by repeat (first|(with_reducible first|exact HB.out|apply au|apply ah|apply av)|exact HB.out))):w.heap.size≤fA));have bP:=aj.mk ((by rw [hg];exact (aA (by repeat (first|(with_reducible first|exact HB.out|apply au|apply ah|apply av)|exact HB.out))):w.heap.size≤fA));clear HB;have HB:=bB;have cB:=bC;have Rh:=bK;have um:=bP;clear bB bC bK bP;clear hb hbox hg;have sJ:Bc.cell? ⟨fA,0,none⟩ = some (.int .i64 aC):=(aa cB.out 0).trans rfl;have sK:Bc.cell? ⟨fA,1,none⟩ = some (.int .i64 aD):=(aa cB.out 1).trans rfl;have uJ:Bc.cell? ⟨fA,2,none⟩ = some (.int .i64 aG):=(aa cB.out 2).trans rfl;have uK:Bc.cell? ⟨fA,3,none⟩ = some (.int .i64 aH):=(aa cB.out 3).trans rfl;have Kq:Bc.cell? ⟨fA,4,none⟩ = some (.int .i64 aN):=(aa cB.out 4).trans rfl;have Kr:Bc.cell? ⟨fA,5,none⟩ = some (.int .i64 aK):=(aa cB.out 5).trans rfl;have Kt:Bc.cell? ⟨fA,6,none⟩ = some (.int .i64 aJ):=(aa cB.out 6).trans rfl;have sM:=ae cB.out 0;have sN:=ae cB.out 1;have uL:=ae cB.out 2;have uM:=ae cB.out 3;have Ku:=ae cB.out 4;have Kv:=ae cB.out 5;have Kw:=ae cB.out 6)|((with_reducible refine bT (f:=74) rfl ?_);refine fM (some 5) rfl rfl Try.func74 (by kernel_rfl) rfl #[.int .i64 aC,.int .i64 0,.int .i64 5000] rfl (by (try simp only [List.map_toArray,List.map_cons,List.map_nil]);first|done|rfl|(simp only [List.length_drop,List.length_take];rfl)) ?_;(with_reducible refine (dn.calls aC 0 5000 true _ A2.out).mono ?_);rintro e w' ⟨rfl,⟨nd,rfl⟩⟩;refine ⟨_,rfl,?_⟩)|(go_at_call 74;(with_reducible refine (dn.calls aD 1 131072 true _ A4.out).mono ?_);rintro e w' ⟨rfl,⟨nd,rfl⟩⟩)|(go_at_call 77;(with_reducible refine (cO.calls k aG aH 0 1073741824 true _ A6.out).mono ?_);rintro e rO ⟨rfl,hb⟩;have bB:=aj.mk (ax (g:=fA) (o:=.cells #[.int .i64 aC,.int .i64 aD,.int .i64 aG,.int .i64 aH,.int .i64 aN,.int .i64 aK,.int .i64 aJ] 29 (0,0)) (by (with_reducible repeat (first|refine ag ?_ _|refine ai ?_|refine af ?_ _));exact cB.out) hb);have bC:=aj.mk (ay (by repeat (first|(with_reducible first|exact HB.out|apply au|apply ah|apply av|refine ak ?_ um.out)|exact HB.out)) hb);clear cB;clear HB;have cB:=bB;have HB:=bC;clear bB bC;(try clear hb);(try clear hb2);(try clear hk);(try clear hi);have CW:rO.cell? ⟨fA,0,none⟩ = some (.int .i64 aC):=(aa cB.out 0).trans rfl;have CX:rO.cell? ⟨fA,1,none⟩ = some (.int .i64 aD):=(aa cB.out 1).trans rfl;have F6:rO.cell? ⟨fA,2,none⟩ = some (.int .i64 aG):=(aa cB.out 2).trans rfl;have F7:rO.cell? ⟨fA,3,none⟩ = some (.int .i64 aH):=(aa cB.out 3).trans rfl;have F8:rO.cell? ⟨fA,4,none⟩ = some (.int .i64 aN):=(aa cB.out 4).trans rfl;have F9:rO.cell? ⟨fA,5,none⟩ = some (.int .i64 aK):=(aa cB.out 5).trans rfl;have Ga:rO.cell? ⟨fA,6,none⟩ = some (.int .i64 aJ):=(aa cB.out 6).trans rfl;have CY:=ae cB.out 0;have CZ:=ae cB.out 1;have Gb:=ae cB.out 2;have Gc:=ae cB.out 3;have Gd:=ae cB.out 4;have Gf:=ae cB.out 5;have Gg:=ae cB.out 6)|(go_at_call 77;(with_reducible refine (cO.calls k aN aK 0 1073741824 true _ A8.out).mono ?_);rintro e IX ⟨rfl,hb⟩;have bB:=aj.mk (ax (g:=fA) (o:=.cells #[.int .i64 aC,.int .i64 aD,.int .i64 aG,.int .i64 aH,.int .i64 aN,.int .i64 aK,.int .i64 aJ] 29 (0,0)) (by (with_reducible repeat (first|refine ag ?_ _|refine ai ?_|refine af ?_ _));exact cB.out) hb);have bC:=aj.mk (ay (by repeat (first|(with_reducible first|exact HB.out|apply au|apply ah|apply av|refine ak ?_ um.out)|exact HB.out)) hb);clear cB;clear HB;have cB:=bB;have HB:=bC;clear bB bC;(try clear hb);(try clear hb2);(try clear hk);(try clear hi);have C8:IX.cell? ⟨fA,0,none⟩ = some (.int .i64 aC):=(aa cB.out 0).trans rfl;have C9:IX.cell? ⟨fA,1,none⟩ = some (.int .i64 aD):=(aa cB.out 1).trans rfl;have Gh:IX.cell? ⟨fA,2,none⟩ = some (.int .i64 aG):=(aa cB.out 2).trans rfl;have Gi:IX.cell? ⟨fA,3,none⟩ = some (.int .i64 aH):=(aa cB.out 3).trans rfl;have Gj:IX.cell? ⟨fA,4,none⟩ = some (.int .i64 aN):=(aa cB.out 4).trans rfl;have Gm:IX.cell? ⟨fA,5,none⟩ = some (.int .i64 aK):=(aa cB.out 5).trans rfl;have Gn:IX.cell? ⟨fA,6,none⟩ = some (.int .i64 aJ):=(aa cB.out 6).trans rfl;have Da:=ae cB.out 0;have Db:=ae cB.out 1;have Gp:=ae cB.out 2;have Gq:=ae cB.out 3;have Gr:=ae cB.out 4;have Gs:=ae cB.out 5;have Gt:=ae cB.out 6)|(go_at_call 74;(with_reducible refine (dn.calls aJ 0 1073741824 false _ A10.out).mono ?_);rintro e w' ⟨rfl,⟨nd,rfl⟩⟩))
      go_ret
      exact ⟨by first|rfl|(simp [aQ,aT] <;> rfl)|(simp [*,aQ,aT] <;> rfl),by repeat (first|(with_reducible first|exact HB.out|apply au|apply ah|apply av|refine ak ?_ um.out)|exact HB.out)⟩
    ·replace c9:=Bool.eq_false_iff.mpr c9
     subst c9
     have H1:(some 2) = some r:=by rw [if_neg (show ¬ (false = true) by decide)] at H;exact H
     clear H
     have H:=H1
     clear H1
     obtain rfl:=Option.some.inj H
     go_enter Try.func27,Try.ntmps27
     go_wp2_with (first|((with_reducible refine bu (N:=1) rfl ?_);refine aY ?hg (N:=1) ?hd (cs:=#[.int .i64 aC,.int .i64 aD,.int .i64 aG,.int .i64 aH,.int .i64 aN,.int .i64 aK,.int .i64 aJ]) (t:=29) ?hr ?_;(case hd=>rfl);(case hg=>rfl);(case hr=>first|(go_simp;done)|(go_simp;rfl));intro fA hg w24 hbox hb;have bB:=aj.mk (ay (by repeat (first|(with_reducible first|exact HB.out|apply au|apply ah|apply av)|exact HB.out)) hb);have bC:=aj.mk (hbox);have bK:=aj.mk ((by rw [hg];exact (aA (by repeat (first|(with_reducible first|exact HB.out|apply au|apply ah|apply av)|exact HB.out))):w.heap.size≤fA));have bP:=aj.mk ((by rw [hg];exact (aA (by repeat (first|(with_reducible first|exact HB.out|apply au|apply ah|apply av)|exact HB.out))):w.heap.size≤fA));clear HB;have HB:=bB;have cB:=bC;have Rh:=bK;have um:=bP;clear bB bC bK bP;clear hb hbox hg;have xA:w24.cell? ⟨fA,0,none⟩ = some (.int .i64 aC):=(aa cB.out 0).trans rfl;have xB:w24.cell? ⟨fA,1,none⟩ = some (.int .i64 aD):=(aa cB.out 1).trans rfl;have xC:w24.cell? ⟨fA,2,none⟩ = some (.int .i64 aG):=(aa cB.out 2).trans rfl;have xD:w24.cell? ⟨fA,3,none⟩ = some (.int .i64 aH):=(aa cB.out 3).trans rfl;have zM:w24.cell? ⟨fA,4,none⟩ = some (.int .i64 aN):=(aa cB.out 4).trans rfl;have zN:w24.cell? ⟨fA,5,none⟩ = some (.int .i64 aK):=(aa cB.out 5).trans rfl;have zO:w24.cell? ⟨fA,6,none⟩ = some (.int .i64 aJ):=(aa cB.out 6).trans rfl;have xE:=ae cB.out 0;have xG:=ae cB.out 1;have xH:=ae cB.out 2;have xI:=ae cB.out 3;have zP:=ae cB.out 4;have zQ:=ae cB.out 5;have zR:=ae cB.out 6)|((with_reducible refine bT (f:=74) rfl ?_);refine fM (some 5) rfl rfl Try.func74 (by kernel_rfl) rfl #[.int .i64 aC,.int .i64 0,.int .i64 5000] rfl (by (try simp only [List.map_toArray,List.map_cons,List.map_nil]);first|done|rfl|(simp only [List.length_drop,List.length_take];rfl)) ?_;(with_reducible refine (dn.calls aC 0 5000 true _ A2.out).mono ?_);rintro e w' ⟨rfl,⟨nd,rfl⟩⟩;refine ⟨_,rfl,?_⟩)|(go_at_call 74;(with_reducible refine (dn.calls aD 1 131072 true _ A4.out).mono ?_);rintro e w' ⟨rfl,⟨nd,rfl⟩⟩)|(go_at_call 77;(with_reducible refine (cO.calls k aG aH 0 1073741824 true _ A6.out).mono ?_);rintro e Ty ⟨rfl,hb⟩;have bB:=aj.mk (ax (g:=fA) (o:=.cells #[.int .i64 aC,.int .i64 aD,.int .i64 aG,.int .i64 aH,.int .i64 aN,.int .i64 aK,.int .i64 aJ] 29 (0,0)) (by (with_reducible repeat (first|refine ag ?_ _|refine ai ?_|refine af ?_ _));exact cB.out) hb);have bC:=aj.mk (ay (by repeat (first|(with_reducible first|exact HB.out|apply au|apply ah|apply av|refine ak ?_ um.out)|exact HB.out)) hb);clear cB;clear HB;have cB:=bB;have HB:=bC;clear bB bC;(try clear hb);(try clear hb2);(try clear hk);(try clear hi);have xL:Ty.cell? ⟨fA,0,none⟩ = some (.int .i64 aC):=(aa cB.out 0).trans rfl;have xM:Ty.cell? ⟨fA,1,none⟩ = some (.int .i64 aD):=(aa cB.out 1).trans rfl;have xN:Ty.cell? ⟨fA,2,none⟩ = some (.int .i64 aG):=(aa cB.out 2).trans rfl;have xO:Ty.cell? ⟨fA,3,none⟩ = some (.int .i64 aH):=(aa cB.out 3).trans rfl;have Dc:Ty.cell? ⟨fA,4,none⟩ = some (.int .i64 aN):=(aa cB.out 4).trans rfl;have De:Ty.cell? ⟨fA,5,none⟩ = some (.int .i64 aK):=(aa cB.out 5).trans rfl;have Df:Ty.cell? ⟨fA,6,none⟩ = some (.int .i64 aJ):=(aa cB.out 6).trans rfl;have xP:=ae cB.out 0;have xQ:=ae cB.out 1;have xR:=ae cB.out 2;have xS:=ae cB.out 3;have Dh:=ae cB.out 4;have Di:=ae cB.out 5;have Dj:=ae cB.out 6)|(go_at_call 77;(with_reducible refine (cO.calls k aN aK 0 1073741824 false _ A8.out).mono ?_);rintro e BL ⟨rfl,hb⟩;have bB:=aj.mk (ax (g:=fA) (o:=.cells #[.int .i64 aC,.int .i64 aD,.int .i64 aG,.int .i64 aH,.int .i64 aN,.int .i64 aK,.int .i64 aJ] 29 (0,0)) (by (with_reducible repeat (first|refine ag ?_ _|refine ai ?_|refine af ?_ _));exact cB.out) hb);have bC:=aj.mk (ay (by repeat (first|(with_reducible first|exact HB.out|apply au|apply ah|apply av|refine ak ?_ um.out)|exact HB.out)) hb);clear cB;clear HB;have cB:=bB;have HB:=bC;clear bB bC;(try clear hb);(try clear hb2);(try clear hk);(try clear hi)))
     go_ret
     exact ⟨by first|rfl|(simp [aQ,aT] <;> rfl)|(simp [*,aQ,aT] <;> rfl),by repeat (first|(with_reducible first|exact HB.out|apply au|apply ah|apply av|refine ak ?_ um.out)|exact HB.out)⟩
   ·replace c7:=Bool.eq_false_iff.mpr c7
    subst c7
    have H1:(some 2) = some r:=by rw [if_neg (show ¬ (false = true) by decide)] at H;exact H
    clear H
    have H:=H1
    clear H1
    obtain rfl:=Option.some.inj H
    go_enter Try.func27,Try.ntmps27
    go_wp2_with (first|((with_reducible refine bu (N:=1) rfl ?_);refine aY ?hg (N:=1) ?hd (cs:=#[.int .i64 aC,.int .i64 aD,.int .i64 aG,.int .i64 aH,.int .i64 aN,.int .i64 aK,.int .i64 aJ]) (t:=29) ?hr ?_;(case hd=>rfl);(case hg=>rfl);(case hr=>first|(go_simp;done)|(go_simp;rfl));intro fA hg Eu hbox hb;have bB:=aj.mk (ay (by repeat (first|(with_reducible first|exact HB.out|apply au|apply ah|apply av)|exact HB.out)) hb);have bC:=aj.mk (hbox);have bK:=aj.mk ((by rw [hg];exact (aA (by repeat (first|(with_reducible first|exact HB.out|apply au|apply ah|apply av)|exact HB.out))):w.heap.size≤fA));have bP:=aj.mk ((by rw [hg];exact (aA (by repeat (first|(with_reducible first|exact HB.out|apply au|apply ah|apply av)|exact HB.out))):w.heap.size≤fA));clear HB;have HB:=bB;have cB:=bC;have Rh:=bK;have um:=bP;clear bB bC bK bP;clear hb hbox hg;have z8:Eu.cell? ⟨fA,0,none⟩ = some (.int .i64 aC):=(aa cB.out 0).trans rfl;have Aa:Eu.cell? ⟨fA,1,none⟩ = some (.int .i64 aD):=(aa cB.out 1).trans rfl;have Ab:Eu.cell? ⟨fA,2,none⟩ = some (.int .i64 aG):=(aa cB.out 2).trans rfl;have Ac:Eu.cell? ⟨fA,3,none⟩ = some (.int .i64 aH):=(aa cB.out 3).trans rfl;have BS:Eu.cell? ⟨fA,4,none⟩ = some (.int .i64 aN):=(aa cB.out 4).trans rfl;have BU:Eu.cell? ⟨fA,5,none⟩ = some (.int .i64 aK):=(aa cB.out 5).trans rfl;have BV:Eu.cell? ⟨fA,6,none⟩ = some (.int .i64 aJ):=(aa cB.out 6).trans rfl;have Ad:=ae cB.out 0;have Ae:=ae cB.out 1;have Af:=ae cB.out 2;have Ag:=ae cB.out 3;have BX:=ae cB.out 4;have BZ:=ae cB.out 5;have Ca:=ae cB.out 6)|((with_reducible refine bT (f:=74) rfl ?_);refine fM (some 5) rfl rfl Try.func74 (by kernel_rfl) rfl #[.int .i64 aC,.int .i64 0,.int .i64 5000] rfl (by (try simp only [List.map_toArray,List.map_cons,List.map_nil]);first|done|rfl|(simp only [List.length_drop,List.length_take];rfl)) ?_;(with_reducible refine (dn.calls aC 0 5000 true _ A2.out).mono ?_);rintro e w' ⟨rfl,⟨nd,rfl⟩⟩;refine ⟨_,rfl,?_⟩)|(go_at_call 74;(with_reducible refine (dn.calls aD 1 131072 true _ A4.out).mono ?_);rintro e w' ⟨rfl,⟨nd,rfl⟩⟩)|(go_at_call 77;(with_reducible refine (cO.calls k aG aH 0 1073741824 false _ A6.out).mono ?_);rintro e RZ ⟨rfl,hb⟩;have bB:=aj.mk (ax (g:=fA) (o:=.cells #[.int .i64 aC,.int .i64 aD,.int .i64 aG,.int .i64 aH,.int .i64 aN,.int .i64 aK,.int .i64 aJ] 29 (0,0)) (by (with_reducible repeat (first|refine ag ?_ _|refine ai ?_|refine af ?_ _));exact cB.out) hb);have bC:=aj.mk (ay (by repeat (first|(with_reducible first|exact HB.out|apply au|apply ah|apply av|refine ak ?_ um.out)|exact HB.out)) hb);clear cB;clear HB;have cB:=bB;have HB:=bC;clear bB bC;(try clear hb);(try clear hb2);(try clear hk);(try clear hi)))
    go_ret
    exact ⟨by first|rfl|(simp [aQ,aT] <;> rfl)|(simp [*,aQ,aT] <;> rfl),by repeat (first|(with_reducible first|exact HB.out|apply au|apply ah|apply av|refine ak ?_ um.out)|exact HB.out)⟩
  ·replace c5:=Bool.eq_false_iff.mpr c5
   subst c5
   have H1:(some 2) = some r:=by rw [if_neg (show ¬ (false = true) by decide)] at H;exact H
   clear H
   have H:=H1
   clear H1
   obtain rfl:=Option.some.inj H
   go_enter Try.func27,Try.ntmps27
   go_wp2_with (first|((with_reducible refine bu (N:=1) rfl ?_);refine aY ?hg (N:=1) ?hd (cs:=#[.int .i64 aC,.int .i64 aD,.int .i64 aG,.int .i64 aH,.int .i64 aN,.int .i64 aK,.int .i64 aJ]) (t:=29) ?hr ?_;(case hd=>rfl);(case hg=>rfl);(case hr=>first|(go_simp;done)|(go_simp;rfl));intro fA hg w32 hbox hb;have bB:=aj.mk (ay (by repeat (first|(with_reducible first|exact HB.out|apply au|apply ah|apply av)|exact HB.out)) hb);have bC:=aj.mk (hbox);have bK:=aj.mk ((by rw [hg];exact (aA (by repeat (first|(with_reducible first|exact HB.out|apply au|apply ah|apply av)|exact HB.out))):w.heap.size≤fA));have bP:=aj.mk ((by rw [hg];exact (aA (by repeat (first|(with_reducible first|exact HB.out|apply au|apply ah|apply av)|exact HB.out))):w.heap.size≤fA));clear HB;have HB:=bB;have cB:=bC;have Rh:=bK;have um:=bP;clear bB bC bK bP;clear hb hbox hg;have Qg:w32.cell? ⟨fA,0,none⟩ = some (.int .i64 aC):=(aa cB.out 0).trans rfl;have Qh:w32.cell? ⟨fA,1,none⟩ = some (.int .i64 aD):=(aa cB.out 1).trans rfl;have Xl:w32.cell? ⟨fA,2,none⟩ = some (.int .i64 aG):=(aa cB.out 2).trans rfl;have Xm:w32.cell? ⟨fA,3,none⟩ = some (.int .i64 aH):=(aa cB.out 3).trans rfl;have aeT:w32.cell? ⟨fA,4,none⟩ = some (.int .i64 aN):=(aa cB.out 4).trans rfl;have aeU:w32.cell? ⟨fA,5,none⟩ = some (.int .i64 aK):=(aa cB.out 5).trans rfl;have aeV:w32.cell? ⟨fA,6,none⟩ = some (.int .i64 aJ):=(aa cB.out 6).trans rfl;have Qi:=ae cB.out 0;have Qj:=ae cB.out 1;have Xn:=ae cB.out 2;have Xo:=ae cB.out 3;have aeW:=ae cB.out 4;have aeX:=ae cB.out 5;have aeY:=ae cB.out 6)|((with_reducible refine bT (f:=74) rfl ?_);refine fM (some 5) rfl rfl Try.func74 (by kernel_rfl) rfl #[.int .i64 aC,.int .i64 0,.int .i64 5000] rfl (by (try simp only [List.map_toArray,List.map_cons,List.map_nil]);first|done|rfl|(simp only [List.length_drop,List.length_take];rfl)) ?_;(with_reducible refine (dn.calls aC 0 5000 true _ A2.out).mono ?_);rintro e w' ⟨rfl,⟨nd,rfl⟩⟩;refine ⟨_,rfl,?_⟩)|(go_at_call 74;(with_reducible refine (dn.calls aD 1 131072 false _ A4.out).mono ?_);rintro e w' ⟨rfl,⟨nd,rfl⟩⟩))
   go_ret
   exact ⟨by first|rfl|(simp [aQ,aT] <;> rfl)|(simp [*,aQ,aT] <;> rfl),by repeat (first|(with_reducible first|exact HB.out|apply au|apply ah|apply av|refine ak ?_ um.out)|exact HB.out)⟩
 ·replace c3:=Bool.eq_false_iff.mpr c3
  subst c3
  have H1:(some 2) = some r:=by rw [if_neg (show ¬ (false = true) by decide)] at H;exact H
  clear H
  have H:=H1
  clear H1
  obtain rfl:=Option.some.inj H
  go_enter Try.func27,Try.ntmps27
  go_wp2_with (first|((with_reducible refine bu (N:=1) rfl ?_);refine aY ?hg (N:=1) ?hd (cs:=#[.int .i64 aC,.int .i64 aD,.int .i64 aG,.int .i64 aH,.int .i64 aN,.int .i64 aK,.int .i64 aJ]) (t:=29) ?hr ?_;(case hd=>rfl);(case hg=>rfl);(case hr=>first|(go_simp;done)|(go_simp;rfl));intro fA hg zL hbox hb;have bB:=aj.mk (ay (by repeat (first|(with_reducible first|exact HB.out|apply au|apply ah|apply av)|exact HB.out)) hb);have bC:=aj.mk (hbox);have bK:=aj.mk ((by rw [hg];exact (aA (by repeat (first|(with_reducible first|exact HB.out|apply au|apply ah|apply av)|exact HB.out))):w.heap.size≤fA));have bP:=aj.mk ((by rw [hg];exact (aA (by repeat (first|(with_reducible first|exact HB.out|apply au|apply ah|apply av)|exact HB.out))):w.heap.size≤fA));clear HB;have HB:=bB;have cB:=bC;have Rh:=bK;have um:=bP;clear bB bC bK bP;clear hb hbox hg;have Dk:zL.cell? ⟨fA,0,none⟩ = some (.int .i64 aC):=(aa cB.out 0).trans rfl;have Dl:zL.cell? ⟨fA,1,none⟩ = some (.int .i64 aD):=(aa cB.out 1).trans rfl;have Gu:zL.cell? ⟨fA,2,none⟩ = some (.int .i64 aG):=(aa cB.out 2).trans rfl;have Gv:zL.cell? ⟨fA,3,none⟩ = some (.int .i64 aH):=(aa cB.out 3).trans rfl;have KH:zL.cell? ⟨fA,4,none⟩ = some (.int .i64 aN):=(aa cB.out 4).trans rfl;have KI:zL.cell? ⟨fA,5,none⟩ = some (.int .i64 aK):=(aa cB.out 5).trans rfl;have KJ:zL.cell? ⟨fA,6,none⟩ = some (.int .i64 aJ):=(aa cB.out 6).trans rfl;have Dm:=ae cB.out 0;have Dn:=ae cB.out 1;have Gw:=ae cB.out 2;have Gx:=ae cB.out 3;have KL:=ae cB.out 4;have KM:=ae cB.out 5;have KN:=ae cB.out 6)|((with_reducible refine bT (f:=74) rfl ?_);refine fM (some 5) rfl rfl Try.func74 (by kernel_rfl) rfl #[.int .i64 aC,.int .i64 0,.int .i64 5000] rfl (by (try simp only [List.map_toArray,List.map_cons,List.map_nil]);first|done|rfl|(simp only [List.length_drop,List.length_take];rfl)) ?_;(with_reducible refine (dn.calls aC 0 5000 false _ A2.out).mono ?_);rintro e w' ⟨rfl,⟨nd,rfl⟩⟩;refine ⟨_,rfl,?_⟩))
  go_ret
  exact ⟨by first|rfl|(simp [aQ,aT] <;> rfl)|(simp [*,aQ,aT] <;> rfl),by repeat (first|(with_reducible first|exact HB.out|apply au|apply ah|apply av|refine ak ?_ um.out)|exact HB.out)⟩
end Go.Proofs.Ytmhaiihjfgfaoaa.Pr
end
section
namespace Go.Proofs.Ytmhaiihjfgfaoaa.Pr
open Go.RowKit Go.Proofs.YtmhaiihjfgfaoaaW.PrintWords Go.Proofs.YtmhaiihjfgfaoaaW.PrintLast Go.Proofs.YtmhaiihjfgfaoaaW.PrintMore
attribute [local go_sem] fo fq gu gz fu
set_option linter.unusedVariables false
set_option linter.unusedSimpArgs false
def jq.f (k:Nat) (aC:Int) (aD:Int) (aG:Int) (aH:Int) (aN:Int) (aK:Int) (aJ:Int) (bz:Int) (bA:Int):Option (Int × Int):=(cZ.f k aC aD aG aH aN aK aJ).bind fun yN=>(if yN = 0 then ((cO.f k bz bA 0 1073741824).bind fun MF=>(if MF = true then (if bz < aJ then (some (0,19)) else (if (mx aH aK) = 0 then (some (0,4)) else (some (wrap64 (Int.tdiv (wrap64 (bz - aJ)) (mx aH aK)),0)))) else (some (0,2)))) else (some (0,yN)))
theorem jq.mono:∀ a0 a1 a2 a3 a4 a5 a6 a7 a8 k,nS (jq.f k a0 a1 a2 a3 a4 a5 a6 a7 a8) (jq.f (k+1) a0 a1 a2 a3 a4 a5 a6 a7 a8):=by
 intro a0 a1 a2 a3 a4 a5 a6 a7 a8 k
 unfold jq.f
 repeat' first
  |(with_reducible exact cZ.mono _ _ _ _ _ _ _ _)
  |(with_reducible exact cO.mono _ _ _ _ _)
  |(with_reducible exact nS.refl _)
  |(with_reducible exact nS.none _)
  |(with_reducible refine nS.ite ?_ ?_)
  |(with_reducible refine nS.bind ?_ (fun _=>?_))
  |exact cZ.mono _ _ _ _ _ _ _ _
  |exact cO.mono _ _ _ _ _
  |exact nS.none _
  |refine nS.ite ?_ ?_
  |refine nS.bind ?_ (fun _=>?_)
set_option maxHeartbeats 8000000 in
set_option maxRecDepth 100000 in
theorem jq.calls (k:Nat) (aC:Int) (aD:Int) (aG:Int) (aH:Int) (aN:Int) (aK:Int) (aJ:Int) (bz:Int) (bA:Int) (r1:Int) (r2:Int) (w:World) (h:jq.f k aC aD aG aH aN aK aJ bz bA = some (r1,r2)):
 Calls Try.prog 37 #[.agg #[.int .i64 aC,.int .i64 aD,.int .i64 aG,.int .i64 aH,.int .i64 aN,.int .i64 aK,.int .i64 aJ],.agg #[.int .i64 bz,.int .i64 bA]] w fun e w'=>e = .returned (.tuple #[.int .i64 r1,.int .i64 r2])∧Below w.heap.size w w':=by
 have KU:=Try.underlying29
 have sU:=Try.underlying27
 have HB:=aj.mk (Below.refl w.heap.size w)
 have H:((cZ.f k aC aD aG aH aN aK aJ).bind fun yN=>(if yN = 0 then ((cO.f k bz bA 0 1073741824).bind fun MF=>(if MF = true then (if bz < aJ then (some (0,19)) else (if (mx aH aK) = 0 then (some (0,4)) else (some (wrap64 (Int.tdiv (wrap64 (bz - aJ)) (mx aH aK)),0)))) else (some (0,2)))) else (some (0,yN)))) = some (r1,r2):=h
 clear h
 obtain ⟨Et,AV⟩:∃ j_:Int,(mx aH aK) = j_:=⟨_,rfl⟩
 replace H:((cZ.f k aC aD aG aH aN aK aJ).bind fun yN=>(if yN = 0 then ((cO.f k bz bA 0 1073741824).bind fun MF=>(if MF = true then (if bz < aJ then (some (0,19)) else (if (Et) = 0 then (some (0,4)) else (some (wrap64 (Int.tdiv (wrap64 (bz - aJ)) (Et)),0)))) else (some (0,2)))) else (some (0,yN)))) = some (r1,r2):=by first|(rw [AV] at H;exact H)|(simp only [AV] at H ⊢;exact H)
 have agh:(if aH < aK then aK else aH) = Et:=AV
 replace H:=Option.bind_eq_some_iff.mp H
 obtain ⟨yN,Nl,H⟩:=H
 replace H:(if yN = 0 then ((cO.f k bz bA 0 1073741824).bind fun MF=>(if MF = true then (if bz < aJ then (some (0,19)) else (if (Et) = 0 then (some (0,4)) else (some (wrap64 (Int.tdiv (wrap64 (bz - aJ)) (Et)),0)))) else (some (0,2)))) else (some (0,yN))) = some (r1,r2):=H
 have A4:=aj.mk Nl
 clear Nl
 by_cases c5:yN = 0
 ·rw [if_pos c5] at H
  have Ew:(yN == 0) = true:=beq_iff_eq.mpr c5
  have aam:(yN != 0) = false:=bne_eq_false_iff_eq.mpr c5
  clear c5
  replace H:=Option.bind_eq_some_iff.mp H
  obtain ⟨MF,VN,H⟩:=H
  replace H:(if MF = true then (if bz < aJ then (some (0,19)) else (if (Et) = 0 then (some (0,4)) else (some (wrap64 (Int.tdiv (wrap64 (bz - aJ)) (Et)),0)))) else (some (0,2))) = some (r1,r2):=H
  have A6:=aj.mk VN
  clear VN
  by_cases c7:MF = true
  ·subst c7
   have H1:(if bz < aJ then (some (0,19)) else (if (Et) = 0 then (some (0,4)) else (some (wrap64 (Int.tdiv (wrap64 (bz - aJ)) (Et)),0)))) = some (r1,r2):=by rw [if_pos rfl] at H;exact H
   clear H
   have H:=H1
   clear H1
   by_cases c8:bz < aJ
   ·rw [if_pos c8] at H
    have ME:decide (bz < aJ) = true:=decide_eq_true c8
    clear c8
    simp only [Option.some.injEq,Prod.mk.injEq] at H
    obtain ⟨rfl,rfl⟩:=H
    go_enter Try.func37,Try.ntmps37
    go_wp2_with (first|((with_reducible refine bu (N:=2) rfl ?_);refine aY ?hg (N:=2) ?hd (cs:=#[.int .i64 aC,.int .i64 aD,.int .i64 aG,.int .i64 aH,.int .i64 aN,.int .i64 aK,.int .i64 aJ]) (t:=29) ?hr ?_;(case hd=>rfl);(case hg=>rfl);(case hr=>first|(go_simp;done)|(go_simp;rfl));intro eY hg w9 hbox hb;have bB:=aj.mk (ay (by repeat (first|(with_reducible first|exact HB.out|apply au|apply ah|apply av)|exact HB.out)) hb);have bC:=aj.mk (hbox);have bK:=aj.mk ((by rw [hg];exact (aA (by repeat (first|(with_reducible first|exact HB.out|apply au|apply ah|apply av)|exact HB.out))):w.heap.size≤eY));have bP:=aj.mk ((by rw [hg];exact (aA (by repeat (first|(with_reducible first|exact HB.out|apply au|apply ah|apply av)|exact HB.out))):w.heap.size≤eY));clear HB;have HB:=bB;have dh:=bC;have Xv:=bK;have mK:=bP;clear bB bC bK bP;clear hb hbox hg)|((with_reducible refine bu (N:=3) rfl ?_);refine aY ?hg (N:=3) ?hd (cs:=#[.int .i64 bz,.int .i64 bA]) (t:=27) ?hr ?_;(case hd=>rfl);(case hg=>rfl);(case hr=>first|(go_simp;done)|(go_simp;rfl));intro jG hg Mi hbox hb;have bB:=aj.mk (ax (g:=eY) (o:=.cells #[.int .i64 aC,.int .i64 aD,.int .i64 aG,.int .i64 aH,.int .i64 aN,.int .i64 aK,.int .i64 aJ] 29 (0,0)) (by (with_reducible repeat (first|refine ag ?_ _|refine ai ?_|refine af ?_ _));exact dh.out) hb);have bC:=aj.mk (ay (by repeat (first|(with_reducible first|exact HB.out|apply au|apply ah|apply av|refine ak ?_ mK.out)|exact HB.out)) hb);have bK:=aj.mk (hbox);have bP:=aj.mk ((by rw [hg];exact (aA (by repeat (first|(with_reducible first|exact HB.out|apply au|apply ah|apply av|refine ak ?_ mK.out)|exact HB.out))):w.heap.size≤jG));have dX:=aj.mk ((by rw [hg];exact (aA (by repeat (first|(with_reducible first|exact HB.out|apply au|apply ah|apply av|refine ak ?_ mK.out)|exact HB.out))):w.heap.size≤jG));have fB:=aj.mk ((by rw [hg];exact Nat.ne_of_lt (aU (g:=eY) (o:=.cells #[.int .i64 aC,.int .i64 aD,.int .i64 aG,.int .i64 aH,.int .i64 aN,.int .i64 aK,.int .i64 aJ] 29 (0,0)) (by (with_reducible repeat (first|refine ag ?_ _|refine ai ?_|refine af ?_ _));exact dh.out)):eY≠jG));have gD:=aj.mk ((by rw [hg];exact Nat.ne_of_gt (aU (g:=eY) (o:=.cells #[.int .i64 aC,.int .i64 aD,.int .i64 aG,.int .i64 aH,.int .i64 aN,.int .i64 aK,.int .i64 aJ] 29 (0,0)) (by (with_reducible repeat (first|refine ag ?_ _|refine ai ?_|refine af ?_ _));exact dh.out)):jG≠eY));clear dh;clear HB;have dh:=bB;have HB:=bC;have iN:=bK;have Xw:=bP;have uo:=dX;have ru:=fB;have ry:=gD;clear bB bC bK bP dX fB gD;clear hb hbox hg;have Vq:=ru.out;have Vr:=ry.out;have xY:Mi.cell? ⟨eY,0,none⟩ = some (.int .i64 aC):=(aa dh.out 0).trans rfl;have xZ:Mi.cell? ⟨eY,1,none⟩ = some (.int .i64 aD):=(aa dh.out 1).trans rfl;have OQ:Mi.cell? ⟨eY,2,none⟩ = some (.int .i64 aG):=(aa dh.out 2).trans rfl;have OT:Mi.cell? ⟨eY,3,none⟩ = some (.int .i64 aH):=(aa dh.out 3).trans rfl;have ae0:Mi.cell? ⟨eY,4,none⟩ = some (.int .i64 aN):=(aa dh.out 4).trans rfl;have ae1:Mi.cell? ⟨eY,5,none⟩ = some (.int .i64 aK):=(aa dh.out 5).trans rfl;have ae2:Mi.cell? ⟨eY,6,none⟩ = some (.int .i64 aJ):=(aa dh.out 6).trans rfl;have x8:=ae dh.out 0;have x9:=ae dh.out 1;have OU:=ae dh.out 2;have OV:=ae dh.out 3;have ae3:=ae dh.out 4;have ae4:=ae dh.out 5;have ae5:=ae dh.out 6)|((with_reducible refine bT (f:=27) rfl ?_);refine fM (some 16) rfl rfl Try.func27 (by kernel_rfl) rfl #[.agg #[.int .i64 aC,.int .i64 aD,.int .i64 aG,.int .i64 aH,.int .i64 aN,.int .i64 aK,.int .i64 aJ]] rfl (by (try simp only [List.map_toArray,List.map_cons,List.map_nil]);first|done|rfl|(simp only [List.length_drop,List.length_take];rfl)) ?_;(with_reducible refine (cZ.calls k aC aD aG aH aN aK aJ yN _ A4.out).mono ?_);rintro e D9 ⟨rfl,hb⟩;refine ⟨_,rfl,?_⟩;have bB:=aj.mk (ax (g:=eY) (o:=.cells #[.int .i64 aC,.int .i64 aD,.int .i64 aG,.int .i64 aH,.int .i64 aN,.int .i64 aK,.int .i64 aJ] 29 (0,0)) (by (with_reducible repeat (first|refine ag ?_ _|refine ai ?_|refine af ?_ _));exact dh.out) hb);have bC:=aj.mk (ax (g:=jG) (o:=.cells #[.int .i64 bz,.int .i64 bA] 27 (0,0)) (by (with_reducible repeat (first|refine ag ?_ _|refine ai ?_|refine af ?_ _));exact iN.out) hb);have bK:=aj.mk (ay (by repeat (first|(with_reducible first|exact HB.out|apply au|apply ah|apply av|refine ak ?_ mK.out|refine ak ?_ uo.out)|exact HB.out)) hb);clear dh;clear iN;clear HB;have dh:=bB;have iN:=bC;have HB:=bK;clear bB bC bK;(try clear hb);(try clear hb2);(try clear hk);(try clear hi);have xw:D9.cell? ⟨jG,0,none⟩ = some (.int .i64 bz):=(aa iN.out 0).trans rfl;have xx:D9.cell? ⟨jG,1,none⟩ = some (.int .i64 bA):=(aa iN.out 1).trans rfl;have xy:=ae iN.out 0;have xz:=ae iN.out 1)|((with_reducible refine bT (f:=77) rfl ?_);refine fM (some 23) rfl rfl Try.func77 (by kernel_rfl) rfl #[.agg #[.int .i64 bz,.int .i64 bA],.int .i64 0,.int .i64 1073741824] rfl (by (try simp only [List.map_toArray,List.map_cons,List.map_nil]);first|done|rfl|(simp only [List.length_drop,List.length_take];rfl)) ?_;(with_reducible refine (cO.calls k bz bA 0 1073741824 true _ A6.out).mono ?_);rintro e Ji ⟨rfl,hb⟩;refine ⟨_,rfl,?_⟩;have bB:=aj.mk (ax (g:=eY) (o:=.cells #[.int .i64 aC,.int .i64 aD,.int .i64 aG,.int .i64 aH,.int .i64 aN,.int .i64 aK,.int .i64 aJ] 29 (0,0)) (by (with_reducible repeat (first|refine ag ?_ _|refine ai ?_|refine af ?_ _));exact dh.out) hb);have bC:=aj.mk (ax (g:=jG) (o:=.cells #[.int .i64 bz,.int .i64 bA] 27 (0,0)) (by (with_reducible repeat (first|refine ag ?_ _|refine ai ?_|refine af ?_ _));exact iN.out) hb);have bK:=aj.mk (ay (by repeat (first|(with_reducible first|exact HB.out|apply au|apply ah|apply av|refine ak ?_ mK.out|refine ak ?_ uo.out)|exact HB.out)) hb);clear dh;clear iN;clear HB;have dh:=bB;have iN:=bC;have HB:=bK;clear bB bC bK;(try clear hb);(try clear hb2);(try clear hk);(try clear hi);have Cz:Ji.cell? ⟨jG,0,none⟩ = some (.int .i64 bz):=(aa iN.out 0).trans rfl;have CB:Ji.cell? ⟨jG,1,none⟩ = some (.int .i64 bA):=(aa iN.out 1).trans rfl;have CE:=ae iN.out 0;have CF:=ae iN.out 1;have FO:Ji.cell? ⟨eY,0,none⟩ = some (.int .i64 aC):=(aa dh.out 0).trans rfl;have FP:Ji.cell? ⟨eY,1,none⟩ = some (.int .i64 aD):=(aa dh.out 1).trans rfl;have FQ:Ji.cell? ⟨eY,2,none⟩ = some (.int .i64 aG):=(aa dh.out 2).trans rfl;have FR:Ji.cell? ⟨eY,3,none⟩ = some (.int .i64 aH):=(aa dh.out 3).trans rfl;have FT:Ji.cell? ⟨eY,4,none⟩ = some (.int .i64 aN):=(aa dh.out 4).trans rfl;have FU:Ji.cell? ⟨eY,5,none⟩ = some (.int .i64 aK):=(aa dh.out 5).trans rfl;have FV:Ji.cell? ⟨eY,6,none⟩ = some (.int .i64 aJ):=(aa dh.out 6).trans rfl;have FW:=ae dh.out 0;have FX:=ae dh.out 1;have FY:=ae dh.out 2;have FZ:=ae dh.out 3;have F3:=ae dh.out 4;have F4:=ae dh.out 5;have F5:=ae dh.out 6))
    go_ret2
    exact ⟨by first|rfl|(simp [aQ,aT] <;> rfl)|(simp only [← AV];first|rfl|(simp [aQ,aT] <;> rfl))|(simp [*,aQ,aT] <;> rfl),by repeat (first|(with_reducible first|exact HB.out|apply au|apply ah|apply av|refine ak ?_ mK.out|refine ak ?_ uo.out)|exact HB.out)⟩
   ·rw [if_neg c8] at H
    have ME:decide (bz < aJ) = false:=decide_eq_false c8
    clear c8
    by_cases c18:(Et) = 0
    ·rw [if_pos c18] at H
     have I8:((Et) == 0) = true:=beq_iff_eq.mpr c18
     have aoX:((Et) != 0) = false:=bne_eq_false_iff_eq.mpr c18
     clear c18
     simp only [Option.some.injEq,Prod.mk.injEq] at H
     obtain ⟨rfl,rfl⟩:=H
     go_enter Try.func37,Try.ntmps37
     go_wp2_with (first|((with_reducible refine bu (N:=2) rfl ?_);refine aY ?hg (N:=2) ?hd (cs:=#[.int .i64 aC,.int .i64 aD,.int .i64 aG,.int .i64 aH,.int .i64 aN,.int .i64 aK,.int .i64 aJ]) (t:=29) ?hr ?_;(case hd=>rfl);(case hg=>rfl);(case hr=>first|(go_simp;done)|(go_simp;rfl));intro eY hg Q9 hbox hb;have bB:=aj.mk (ay (by repeat (first|(with_reducible first|exact HB.out|apply au|apply ah|apply av)|exact HB.out)) hb);have bC:=aj.mk (hbox);have bK:=aj.mk ((by rw [hg];exact (aA (by repeat (first|(with_reducible first|exact HB.out|apply au|apply ah|apply av)|exact HB.out))):w.heap.size≤eY));have bP:=aj.mk ((by rw [hg];exact (aA (by repeat (first|(with_reducible first|exact HB.out|apply au|apply ah|apply av)|exact HB.out))):w.heap.size≤eY));clear HB;have HB:=bB;have dh:=bC;have Xv:=bK;have mK:=bP;clear bB bC bK bP;clear hb hbox hg)|((with_reducible refine bu (N:=3) rfl ?_);refine aY ?hg (N:=3) ?hd (cs:=#[.int .i64 bz,.int .i64 bA]) (t:=27) ?hr ?_;(case hd=>rfl);(case hg=>rfl);(case hr=>first|(go_simp;done)|(go_simp;rfl));intro jG hg rO hbox hb;have bB:=aj.mk (ax (g:=eY) (o:=.cells #[.int .i64 aC,.int .i64 aD,.int .i64 aG,.int .i64 aH,.int .i64 aN,.int .i64 aK,.int .i64 aJ] 29 (0,0)) (by (with_reducible repeat (first|refine ag ?_ _|refine ai ?_|refine af ?_ _));exact dh.out) hb);have bC:=aj.mk (ay (by repeat (first|(with_reducible first|exact HB.out|apply au|apply ah|apply av|refine ak ?_ mK.out)|exact HB.out)) hb);have bK:=aj.mk (hbox);have bP:=aj.mk ((by rw [hg];exact (aA (by repeat (first|(with_reducible first|exact HB.out|apply au|apply ah|apply av|refine ak ?_ mK.out)|exact HB.out))):w.heap.size≤jG));have dX:=aj.mk ((by rw [hg];exact (aA (by repeat (first|(with_reducible first|exact HB.out|apply au|apply ah|apply av|refine ak ?_ mK.out)|exact HB.out))):w.heap.size≤jG));have fB:=aj.mk ((by rw [hg];exact Nat.ne_of_lt (aU (g:=eY) (o:=.cells #[.int .i64 aC,.int .i64 aD,.int .i64 aG,.int .i64 aH,.int .i64 aN,.int .i64 aK,.int .i64 aJ] 29 (0,0)) (by (with_reducible repeat (first|refine ag ?_ _|refine ai ?_|refine af ?_ _));exact dh.out)):eY≠jG));have gD:=aj.mk ((by rw [hg];exact Nat.ne_of_gt (aU (g:=eY) (o:=.cells #[.int .i64 aC,.int .i64 aD,.int .i64 aG,.int .i64 aH,.int .i64 aN,.int .i64 aK,.int .i64 aJ] 29 (0,0)) (by (with_reducible repeat (first|refine ag ?_ _|refine ai ?_|refine af ?_ _));exact dh.out)):jG≠eY));clear dh;clear HB;have dh:=bB;have HB:=bC;have iN:=bK;have Xw:=bP;have uo:=dX;have ru:=fB;have ry:=gD;clear bB bC bK bP dX fB gD;clear hb hbox hg;have afQ:=ru.out;have afR:=ry.out;have Js:rO.cell? ⟨eY,0,none⟩ = some (.int .i64 aC):=(aa dh.out 0).trans rfl;have Jt:rO.cell? ⟨eY,1,none⟩ = some (.int .i64 aD):=(aa dh.out 1).trans rfl;have Ju:rO.cell? ⟨eY,2,none⟩ = some (.int .i64 aG):=(aa dh.out 2).trans rfl;have Jv:rO.cell? ⟨eY,3,none⟩ = some (.int .i64 aH):=(aa dh.out 3).trans rfl;have Oa:rO.cell? ⟨eY,4,none⟩ = some (.int .i64 aN):=(aa dh.out 4).trans rfl;have Ob:rO.cell? ⟨eY,5,none⟩ = some (.int .i64 aK):=(aa dh.out 5).trans rfl;have Oc:rO.cell? ⟨eY,6,none⟩ = some (.int .i64 aJ):=(aa dh.out 6).trans rfl;have Jw:=ae dh.out 0;have Jy:=ae dh.out 1;have Jz:=ae dh.out 2;have JA:=ae dh.out 3;have Od:=ae dh.out 4;have Oe:=ae dh.out 5;have Og:=ae dh.out 6)|((with_reducible refine bT (f:=27) rfl ?_);refine fM (some 16) rfl rfl Try.func27 (by kernel_rfl) rfl #[.agg #[.int .i64 aC,.int .i64 aD,.int .i64 aG,.int .i64 aH,.int .i64 aN,.int .i64 aK,.int .i64 aJ]] rfl (by (try simp only [List.map_toArray,List.map_cons,List.map_nil]);first|done|rfl|(simp only [List.length_drop,List.length_take];rfl)) ?_;(with_reducible refine (cZ.calls k aC aD aG aH aN aK aJ yN _ A4.out).mono ?_);rintro e Ev ⟨rfl,hb⟩;refine ⟨_,rfl,?_⟩;have bB:=aj.mk (ax (g:=eY) (o:=.cells #[.int .i64 aC,.int .i64 aD,.int .i64 aG,.int .i64 aH,.int .i64 aN,.int .i64 aK,.int .i64 aJ] 29 (0,0)) (by (with_reducible repeat (first|refine ag ?_ _|refine ai ?_|refine af ?_ _));exact dh.out) hb);have bC:=aj.mk (ax (g:=jG) (o:=.cells #[.int .i64 bz,.int .i64 bA] 27 (0,0)) (by (with_reducible repeat (first|refine ag ?_ _|refine ai ?_|refine af ?_ _));exact iN.out) hb);have bK:=aj.mk (ay (by repeat (first|(with_reducible first|exact HB.out|apply au|apply ah|apply av|refine ak ?_ mK.out|refine ak ?_ uo.out)|exact HB.out)) hb);clear dh;clear iN;clear HB;have dh:=bB;have iN:=bC;have HB:=bK;clear bB bC bK;(try clear hb);(try clear hb2);(try clear hk);(try clear hi);have sO:Ev.cell? ⟨jG,0,none⟩ = some (.int .i64 bz):=(aa iN.out 0).trans rfl;have sP:Ev.cell? ⟨jG,1,none⟩ = some (.int .i64 bA):=(aa iN.out 1).trans rfl;have sQ:=ae iN.out 0;have sS:=ae iN.out 1)|((with_reducible refine bT (f:=77) rfl ?_);refine fM (some 23) rfl rfl Try.func77 (by kernel_rfl) rfl #[.agg #[.int .i64 bz,.int .i64 bA],.int .i64 0,.int .i64 1073741824] rfl (by (try simp only [List.map_toArray,List.map_cons,List.map_nil]);first|done|rfl|(simp only [List.length_drop,List.length_take];rfl)) ?_;(with_reducible refine (cO.calls k bz bA 0 1073741824 true _ A6.out).mono ?_);rintro e TA ⟨rfl,hb⟩;refine ⟨_,rfl,?_⟩;have bB:=aj.mk (ax (g:=eY) (o:=.cells #[.int .i64 aC,.int .i64 aD,.int .i64 aG,.int .i64 aH,.int .i64 aN,.int .i64 aK,.int .i64 aJ] 29 (0,0)) (by (with_reducible repeat (first|refine ag ?_ _|refine ai ?_|refine af ?_ _));exact dh.out) hb);have bC:=aj.mk (ax (g:=jG) (o:=.cells #[.int .i64 bz,.int .i64 bA] 27 (0,0)) (by (with_reducible repeat (first|refine ag ?_ _|refine ai ?_|refine af ?_ _));exact iN.out) hb);have bK:=aj.mk (ay (by repeat (first|(with_reducible first|exact HB.out|apply au|apply ah|apply av|refine ak ?_ mK.out|refine ak ?_ uo.out)|exact HB.out)) hb);clear dh;clear iN;clear HB;have dh:=bB;have iN:=bC;have HB:=bK;clear bB bC bK;(try clear hb);(try clear hb2);(try clear hk);(try clear hi);have Qk:TA.cell? ⟨jG,0,none⟩ = some (.int .i64 bz):=(aa iN.out 0).trans rfl;have Ql:TA.cell? ⟨jG,1,none⟩ = some (.int .i64 bA):=(aa iN.out 1).trans rfl;have Qm:=ae iN.out 0;have Qn:=ae iN.out 1;have xL:TA.cell? ⟨eY,0,none⟩ = some (.int .i64 aC):=(aa dh.out 0).trans rfl;have xM:TA.cell? ⟨eY,1,none⟩ = some (.int .i64 aD):=(aa dh.out 1).trans rfl;have xN:TA.cell? ⟨eY,2,none⟩ = some (.int .i64 aG):=(aa dh.out 2).trans rfl;have xO:TA.cell? ⟨eY,3,none⟩ = some (.int .i64 aH):=(aa dh.out 3).trans rfl;have Dc:TA.cell? ⟨eY,4,none⟩ = some (.int .i64 aN):=(aa dh.out 4).trans rfl;have De:TA.cell? ⟨eY,5,none⟩ = some (.int .i64 aK):=(aa dh.out 5).trans rfl;have Df:TA.cell? ⟨eY,6,none⟩ = some (.int .i64 aJ):=(aa dh.out 6).trans rfl;have xP:=ae dh.out 0;have xQ:=ae dh.out 1;have xR:=ae dh.out 2;have xS:=ae dh.out 3;have Dh:=ae dh.out 4;have Di:=ae dh.out 5;have Dj:=ae dh.out 6))
     go_ret2
     exact ⟨by first|rfl|(simp [aQ,aT] <;> rfl)|(simp only [← AV];first|rfl|(simp [aQ,aT] <;> rfl))|(simp [*,aQ,aT] <;> rfl),by repeat (first|(with_reducible first|exact HB.out|apply au|apply ah|apply av|refine ak ?_ mK.out|refine ak ?_ uo.out)|exact HB.out)⟩
    ·rw [if_neg c18] at H
     have I8:((Et) == 0) = false:=beq_eq_false_iff_ne.mpr c18
     have aoX:((Et) != 0) = true:=bne_iff_ne.mpr c18
     simp only [Option.some.injEq,Prod.mk.injEq] at H
     obtain ⟨rfl,rfl⟩:=H
     go_enter Try.func37,Try.ntmps37
     go_wp2_with (first|((with_reducible refine bu (N:=2) rfl ?_);refine aY ?hg (N:=2) ?hd (cs:=#[.int .i64 aC,.int .i64 aD,.int .i64 aG,.int .i64 aH,.int .i64 aN,.int .i64 aK,.int .i64 aJ]) (t:=29) ?hr ?_;(case hd=>rfl);(case hg=>rfl);(case hr=>first|(go_simp;done)|(go_simp;rfl));intro eY hg BL hbox hb;have bB:=aj.mk (ay (by repeat (first|(with_reducible first|exact HB.out|apply au|apply ah|apply av)|exact HB.out)) hb);have bC:=aj.mk (hbox);have bK:=aj.mk ((by rw [hg];exact (aA (by repeat (first|(with_reducible first|exact HB.out|apply au|apply ah|apply av)|exact HB.out))):w.heap.size≤eY));have bP:=aj.mk ((by rw [hg];exact (aA (by repeat (first|(with_reducible first|exact HB.out|apply au|apply ah|apply av)|exact HB.out))):w.heap.size≤eY));clear HB;have HB:=bB;have dh:=bC;have Xv:=bK;have mK:=bP;clear bB bC bK bP;clear hb hbox hg)|((with_reducible refine bu (N:=3) rfl ?_);refine aY ?hg (N:=3) ?hd (cs:=#[.int .i64 bz,.int .i64 bA]) (t:=27) ?hr ?_;(case hd=>rfl);(case hg=>rfl);(case hr=>first|(go_simp;done)|(go_simp;rfl));intro jG hg Eu hbox hb;have bB:=aj.mk (ax (g:=eY) (o:=.cells #[.int .i64 aC,.int .i64 aD,.int .i64 aG,.int .i64 aH,.int .i64 aN,.int .i64 aK,.int .i64 aJ] 29 (0,0)) (by (with_reducible repeat (first|refine ag ?_ _|refine ai ?_|refine af ?_ _));exact dh.out) hb);have bC:=aj.mk (ay (by repeat (first|(with_reducible first|exact HB.out|apply au|apply ah|apply av|refine ak ?_ mK.out)|exact HB.out)) hb);have bK:=aj.mk (hbox);have bP:=aj.mk ((by rw [hg];exact (aA (by repeat (first|(with_reducible first|exact HB.out|apply au|apply ah|apply av|refine ak ?_ mK.out)|exact HB.out))):w.heap.size≤jG));have dX:=aj.mk ((by rw [hg];exact (aA (by repeat (first|(with_reducible first|exact HB.out|apply au|apply ah|apply av|refine ak ?_ mK.out)|exact HB.out))):w.heap.size≤jG));have fB:=aj.mk ((by rw [hg];exact Nat.ne_of_lt (aU (g:=eY) (o:=.cells #[.int .i64 aC,.int .i64 aD,.int .i64 aG,.int .i64 aH,.int .i64 aN,.int .i64 aK,.int .i64 aJ] 29 (0,0)) (by (with_reducible repeat (first|refine ag ?_ _|refine ai ?_|refine af ?_ _));exact dh.out)):eY≠jG));have gD:=aj.mk ((by rw [hg];exact Nat.ne_of_gt (aU (g:=eY) (o:=.cells #[.int .i64 aC,.int .i64 aD,.int .i64 aG,.int .i64 aH,.int .i64 aN,.int .i64 aK,.int .i64 aJ] 29 (0,0)) (by (with_reducible repeat (first|refine ag ?_ _|refine ai ?_|refine af ?_ _));exact dh.out)):jG≠eY));clear dh;clear HB;have dh:=bB;have HB:=bC;have iN:=bK;have Xw:=bP;have uo:=dX;have ru:=fB;have ry:=gD;clear bB bC bK bP dX fB gD;clear hb hbox hg;have aoR:=ru.out;have aoS:=ry.out;have JB:Eu.cell? ⟨eY,0,none⟩ = some (.int .i64 aC):=(aa dh.out 0).trans rfl;have JC:Eu.cell? ⟨eY,1,none⟩ = some (.int .i64 aD):=(aa dh.out 1).trans rfl;have JD:Eu.cell? ⟨eY,2,none⟩ = some (.int .i64 aG):=(aa dh.out 2).trans rfl;have JE:Eu.cell? ⟨eY,3,none⟩ = some (.int .i64 aH):=(aa dh.out 3).trans rfl;have Xf:Eu.cell? ⟨eY,4,none⟩ = some (.int .i64 aN):=(aa dh.out 4).trans rfl;have Xg:Eu.cell? ⟨eY,5,none⟩ = some (.int .i64 aK):=(aa dh.out 5).trans rfl;have Xh:Eu.cell? ⟨eY,6,none⟩ = some (.int .i64 aJ):=(aa dh.out 6).trans rfl;have JF:=ae dh.out 0;have JG:=ae dh.out 1;have JH:=ae dh.out 2;have JI:=ae dh.out 3;have Xi:=ae dh.out 4;have Xj:=ae dh.out 5;have Xk:=ae dh.out 6)|((with_reducible refine bT (f:=27) rfl ?_);refine fM (some 16) rfl rfl Try.func27 (by kernel_rfl) rfl #[.agg #[.int .i64 aC,.int .i64 aD,.int .i64 aG,.int .i64 aH,.int .i64 aN,.int .i64 aK,.int .i64 aJ]] rfl (by (try simp only [List.map_toArray,List.map_cons,List.map_nil]);first|done|rfl|(simp only [List.length_drop,List.length_take];rfl)) ?_;(with_reducible refine (cZ.calls k aC aD aG aH aN aK aJ yN _ A4.out).mono ?_);rintro e w32 ⟨rfl,hb⟩;refine ⟨_,rfl,?_⟩;have bB:=aj.mk (ax (g:=eY) (o:=.cells #[.int .i64 aC,.int .i64 aD,.int .i64 aG,.int .i64 aH,.int .i64 aN,.int .i64 aK,.int .i64 aJ] 29 (0,0)) (by (with_reducible repeat (first|refine ag ?_ _|refine ai ?_|refine af ?_ _));exact dh.out) hb);have bC:=aj.mk (ax (g:=jG) (o:=.cells #[.int .i64 bz,.int .i64 bA] 27 (0,0)) (by (with_reducible repeat (first|refine ag ?_ _|refine ai ?_|refine af ?_ _));exact iN.out) hb);have bK:=aj.mk (ay (by repeat (first|(with_reducible first|exact HB.out|apply au|apply ah|apply av|refine ak ?_ mK.out|refine ak ?_ uo.out)|exact HB.out)) hb);clear dh;clear iN;clear HB;have dh:=bB;have iN:=bC;have HB:=bK;clear bB bC bK;(try clear hb);(try clear hb2);(try clear hk);(try clear hi);have Qg:w32.cell? ⟨jG,0,none⟩ = some (.int .i64 bz):=(aa iN.out 0).trans rfl;have Qh:w32.cell? ⟨jG,1,none⟩ = some (.int .i64 bA):=(aa iN.out 1).trans rfl;have Qi:=ae iN.out 0;have Qj:=ae iN.out 1)|((with_reducible refine bT (f:=77) rfl ?_);refine fM (some 23) rfl rfl Try.func77 (by kernel_rfl) rfl #[.agg #[.int .i64 bz,.int .i64 bA],.int .i64 0,.int .i64 1073741824] rfl (by (try simp only [List.map_toArray,List.map_cons,List.map_nil]);first|done|rfl|(simp only [List.length_drop,List.length_take];rfl)) ?_;(with_reducible refine (cO.calls k bz bA 0 1073741824 true _ A6.out).mono ?_);rintro e zL ⟨rfl,hb⟩;refine ⟨_,rfl,?_⟩;have bB:=aj.mk (ax (g:=eY) (o:=.cells #[.int .i64 aC,.int .i64 aD,.int .i64 aG,.int .i64 aH,.int .i64 aN,.int .i64 aK,.int .i64 aJ] 29 (0,0)) (by (with_reducible repeat (first|refine ag ?_ _|refine ai ?_|refine af ?_ _));exact dh.out) hb);have bC:=aj.mk (ax (g:=jG) (o:=.cells #[.int .i64 bz,.int .i64 bA] 27 (0,0)) (by (with_reducible repeat (first|refine ag ?_ _|refine ai ?_|refine af ?_ _));exact iN.out) hb);have bK:=aj.mk (ay (by repeat (first|(with_reducible first|exact HB.out|apply au|apply ah|apply av|refine ak ?_ mK.out|refine ak ?_ uo.out)|exact HB.out)) hb);clear dh;clear iN;clear HB;have dh:=bB;have iN:=bC;have HB:=bK;clear bB bC bK;(try clear hb);(try clear hb2);(try clear hk);(try clear hi);have Dk:zL.cell? ⟨jG,0,none⟩ = some (.int .i64 bz):=(aa iN.out 0).trans rfl;have Dl:zL.cell? ⟨jG,1,none⟩ = some (.int .i64 bA):=(aa iN.out 1).trans rfl;have Dm:=ae iN.out 0;have Dn:=ae iN.out 1;have WI:zL.cell? ⟨eY,0,none⟩ = some (.int .i64 aC):=(aa dh.out 0).trans rfl;have WJ:zL.cell? ⟨eY,1,none⟩ = some (.int .i64 aD):=(aa dh.out 1).trans rfl;have WK:zL.cell? ⟨eY,2,none⟩ = some (.int .i64 aG):=(aa dh.out 2).trans rfl;have WL:zL.cell? ⟨eY,3,none⟩ = some (.int .i64 aH):=(aa dh.out 3).trans rfl;have aea:zL.cell? ⟨eY,4,none⟩ = some (.int .i64 aN):=(aa dh.out 4).trans rfl;have aeb:zL.cell? ⟨eY,5,none⟩ = some (.int .i64 aK):=(aa dh.out 5).trans rfl;have aec:zL.cell? ⟨eY,6,none⟩ = some (.int .i64 aJ):=(aa dh.out 6).trans rfl;have WM:=ae dh.out 0;have WN:=ae dh.out 1;have WO:=ae dh.out 2;have WQ:=ae dh.out 3;have aed:=ae dh.out 4;have aee:=ae dh.out 5;have aef:=ae dh.out 6))
     go_ret2
     exact ⟨by first|rfl|(simp [aQ,aT] <;> rfl)|(simp only [← AV];first|rfl|(simp [aQ,aT] <;> rfl))|(simp [*,aQ,aT] <;> rfl),by repeat (first|(with_reducible first|exact HB.out|apply au|apply ah|apply av|refine ak ?_ mK.out|refine ak ?_ uo.out)|exact HB.out)⟩
  ·replace c7:=Bool.eq_false_iff.mpr c7
   subst c7
   have H1:(some (0,2)) = some (r1,r2):=by rw [if_neg (show ¬ (false = true) by decide)] at H;exact H
   clear H
   have H:=H1
   clear H1
   simp only [Option.some.injEq,Prod.mk.injEq] at H
   obtain ⟨rfl,rfl⟩:=H
   go_enter Try.func37,Try.ntmps37
   go_wp2_with (first|((with_reducible refine bu (N:=2) rfl ?_);refine aY ?hg (N:=2) ?hd (cs:=#[.int .i64 aC,.int .i64 aD,.int .i64 aG,.int .i64 aH,.int .i64 aN,.int .i64 aK,.int .i64 aJ]) (t:=29) ?hr ?_;(case hd=>rfl);(case hg=>rfl);(case hr=>first|(go_simp;done)|(go_simp;rfl));intro eY hg TB hbox hb;have bB:=aj.mk (ay (by repeat (first|(with_reducible first|exact HB.out|apply au|apply ah|apply av)|exact HB.out)) hb);have bC:=aj.mk (hbox);have bK:=aj.mk ((by rw [hg];exact (aA (by repeat (first|(with_reducible first|exact HB.out|apply au|apply ah|apply av)|exact HB.out))):w.heap.size≤eY));have bP:=aj.mk ((by rw [hg];exact (aA (by repeat (first|(with_reducible first|exact HB.out|apply au|apply ah|apply av)|exact HB.out))):w.heap.size≤eY));clear HB;have HB:=bB;have dh:=bC;have Xv:=bK;have mK:=bP;clear bB bC bK bP;clear hb hbox hg)|((with_reducible refine bu (N:=3) rfl ?_);refine aY ?hg (N:=3) ?hd (cs:=#[.int .i64 bz,.int .i64 bA]) (t:=27) ?hr ?_;(case hd=>rfl);(case hg=>rfl);(case hr=>first|(go_simp;done)|(go_simp;rfl));intro jG hg Tz hbox hb;have bB:=aj.mk (ax (g:=eY) (o:=.cells #[.int .i64 aC,.int .i64 aD,.int .i64 aG,.int .i64 aH,.int .i64 aN,.int .i64 aK,.int .i64 aJ] 29 (0,0)) (by (with_reducible repeat (first|refine ag ?_ _|refine ai ?_|refine af ?_ _));exact dh.out) hb);have bC:=aj.mk (ay (by repeat (first|(with_reducible first|exact HB.out|apply au|apply ah|apply av|refine ak ?_ mK.out)|exact HB.out)) hb);have bK:=aj.mk (hbox);have bP:=aj.mk ((by rw [hg];exact (aA (by repeat (first|(with_reducible first|exact HB.out|apply au|apply ah|apply av|refine ak ?_ mK.out)|exact HB.out))):w.heap.size≤jG));have dX:=aj.mk ((by rw [hg];exact (aA (by repeat (first|(with_reducible first|exact HB.out|apply au|apply ah|apply av|refine ak ?_ mK.out)|exact HB.out))):w.heap.size≤jG));have fB:=aj.mk ((by rw [hg];exact Nat.ne_of_lt (aU (g:=eY) (o:=.cells #[.int .i64 aC,.int .i64 aD,.int .i64 aG,.int .i64 aH,.int .i64 aN,.int .i64 aK,.int .i64 aJ] 29 (0,0)) (by (with_reducible repeat (first|refine ag ?_ _|refine ai ?_|refine af ?_ _));exact dh.out)):eY≠jG));have gD:=aj.mk ((by rw [hg];exact Nat.ne_of_gt (aU (g:=eY) (o:=.cells #[.int .i64 aC,.int .i64 aD,.int .i64 aG,.int .i64 aH,.int .i64 aN,.int .i64 aK,.int .i64 aJ] 29 (0,0)) (by (with_reducible repeat (first|refine ag ?_ _|refine ai ?_|refine af ?_ _));exact dh.out)):jG≠eY));clear dh;clear HB;have dh:=bB;have HB:=bC;have iN:=bK;have Xw:=bP;have uo:=dX;have ru:=fB;have ry:=gD;clear bB bC bK bP dX fB gD;clear hb hbox hg;have aoT:=ru.out;have aoU:=ry.out;have JJ:Tz.cell? ⟨eY,0,none⟩ = some (.int .i64 aC):=(aa dh.out 0).trans rfl;have JK:Tz.cell? ⟨eY,1,none⟩ = some (.int .i64 aD):=(aa dh.out 1).trans rfl;have JL:Tz.cell? ⟨eY,2,none⟩ = some (.int .i64 aG):=(aa dh.out 2).trans rfl;have JM:Tz.cell? ⟨eY,3,none⟩ = some (.int .i64 aH):=(aa dh.out 3).trans rfl;have afc:Tz.cell? ⟨eY,4,none⟩ = some (.int .i64 aN):=(aa dh.out 4).trans rfl;have afd:Tz.cell? ⟨eY,5,none⟩ = some (.int .i64 aK):=(aa dh.out 5).trans rfl;have afe:Tz.cell? ⟨eY,6,none⟩ = some (.int .i64 aJ):=(aa dh.out 6).trans rfl;have JN:=ae dh.out 0;have JO:=ae dh.out 1;have JP:=ae dh.out 2;have JQ:=ae dh.out 3;have aff:=ae dh.out 4;have afg:=ae dh.out 5;have afh:=ae dh.out 6)|((with_reducible refine bT (f:=27) rfl ?_);refine fM (some 16) rfl rfl Try.func27 (by kernel_rfl) rfl #[.agg #[.int .i64 aC,.int .i64 aD,.int .i64 aG,.int .i64 aH,.int .i64 aN,.int .i64 aK,.int .i64 aJ]] rfl (by (try simp only [List.map_toArray,List.map_cons,List.map_nil]);first|done|rfl|(simp only [List.length_drop,List.length_take];rfl)) ?_;(with_reducible refine (cZ.calls k aC aD aG aH aN aK aJ yN _ A4.out).mono ?_);rintro e GR ⟨rfl,hb⟩;refine ⟨_,rfl,?_⟩;have bB:=aj.mk (ax (g:=eY) (o:=.cells #[.int .i64 aC,.int .i64 aD,.int .i64 aG,.int .i64 aH,.int .i64 aN,.int .i64 aK,.int .i64 aJ] 29 (0,0)) (by (with_reducible repeat (first|refine ag ?_ _|refine ai ?_|refine af ?_ _));exact dh.out) hb);have bC:=aj.mk (ax (g:=jG) (o:=.cells #[.int .i64 bz,.int .i64 bA] 27 (0,0)) (by (with_reducible repeat (first|refine ag ?_ _|refine ai ?_|refine af ?_ _));exact iN.out) hb);have bK:=aj.mk (ay (by repeat (first|(with_reducible first|exact HB.out|apply au|apply ah|apply av|refine ak ?_ mK.out|refine ak ?_ uo.out)|exact HB.out)) hb);clear dh;clear iN;clear HB;have dh:=bB;have iN:=bC;have HB:=bK;clear bB bC bK;(try clear hb);(try clear hb2);(try clear hk);(try clear hi);have VZ:GR.cell? ⟨jG,0,none⟩ = some (.int .i64 bz):=(aa iN.out 0).trans rfl;have V3:GR.cell? ⟨jG,1,none⟩ = some (.int .i64 bA):=(aa iN.out 1).trans rfl;have V4:=ae iN.out 0;have V5:=ae iN.out 1)|((with_reducible refine bT (f:=77) rfl ?_);refine fM (some 23) rfl rfl Try.func77 (by kernel_rfl) rfl #[.agg #[.int .i64 bz,.int .i64 bA],.int .i64 0,.int .i64 1073741824] rfl (by (try simp only [List.map_toArray,List.map_cons,List.map_nil]);first|done|rfl|(simp only [List.length_drop,List.length_take];rfl)) ?_;(with_reducible refine (cO.calls k bz bA 0 1073741824 false _ A6.out).mono ?_);rintro e R3 ⟨rfl,hb⟩;refine ⟨_,rfl,?_⟩;have bB:=aj.mk (ax (g:=eY) (o:=.cells #[.int .i64 aC,.int .i64 aD,.int .i64 aG,.int .i64 aH,.int .i64 aN,.int .i64 aK,.int .i64 aJ] 29 (0,0)) (by (with_reducible repeat (first|refine ag ?_ _|refine ai ?_|refine af ?_ _));exact dh.out) hb);have bC:=aj.mk (ax (g:=jG) (o:=.cells #[.int .i64 bz,.int .i64 bA] 27 (0,0)) (by (with_reducible repeat (first|refine ag ?_ _|refine ai ?_|refine af ?_ _));exact iN.out) hb);have bK:=aj.mk (ay (by repeat (first|(with_reducible first|exact HB.out|apply au|apply ah|apply av|refine ak ?_ mK.out|refine ak ?_ uo.out)|exact HB.out)) hb);clear dh;clear iN;clear HB;have dh:=bB;have iN:=bC;have HB:=bK;clear bB bC bK;(try clear hb);(try clear hb2);(try clear hk);(try clear hi)))
   go_ret2
   exact ⟨by first|rfl|(simp [aQ,aT] <;> rfl)|(simp only [← AV];first|rfl|(simp [aQ,aT] <;> rfl))|(simp [*,aQ,aT] <;> rfl),by repeat (first|(with_reducible first|exact HB.out|apply au|apply ah|apply av|refine ak ?_ mK.out|refine ak ?_ uo.out)|exact HB.out)⟩
 ·rw [if_neg c5] at H
  have Ew:(yN == 0) = false:=beq_eq_false_iff_ne.mpr c5
  have aam:(yN != 0) = true:=bne_iff_ne.mpr c5
  simp only [Option.some.injEq,Prod.mk.injEq] at H
  obtain ⟨rfl,rfl⟩:=H
  go_enter Try.func37,Try.ntmps37
  go_wp2_with (first|((with_reducible refine bu (N:=2) rfl ?_);refine aY ?hg (N:=2) ?hd (cs:=#[.int .i64 aC,.int .i64 aD,.int .i64 aG,.int .i64 aH,.int .i64 aN,.int .i64 aK,.int .i64 aJ]) (t:=29) ?hr ?_;(case hd=>rfl);(case hg=>rfl);(case hr=>first|(go_simp;done)|(go_simp;rfl));intro eY hg VM hbox hb;have bB:=aj.mk (ay (by repeat (first|(with_reducible first|exact HB.out|apply au|apply ah|apply av)|exact HB.out)) hb);have bC:=aj.mk (hbox);have bK:=aj.mk ((by rw [hg];exact (aA (by repeat (first|(with_reducible first|exact HB.out|apply au|apply ah|apply av)|exact HB.out))):w.heap.size≤eY));have bP:=aj.mk ((by rw [hg];exact (aA (by repeat (first|(with_reducible first|exact HB.out|apply au|apply ah|apply av)|exact HB.out))):w.heap.size≤eY));clear HB;have HB:=bB;have dh:=bC;have Xv:=bK;have mK:=bP;clear bB bC bK bP;clear hb hbox hg)|((with_reducible refine bu (N:=3) rfl ?_);refine aY ?hg (N:=3) ?hd (cs:=#[.int .i64 bz,.int .i64 bA]) (t:=27) ?hr ?_;(case hd=>rfl);(case hg=>rfl);(case hr=>first|(go_simp;done)|(go_simp;rfl));intro jG hg Ph hbox hb;have bB:=aj.mk (ax (g:=eY) (o:=.cells #[.int .i64 aC,.int .i64 aD,.int .i64 aG,.int .i64 aH,.int .i64 aN,.int .i64 aK,.int .i64 aJ] 29 (0,0)) (by (with_reducible repeat (first|refine ag ?_ _|refine ai ?_|refine af ?_ _));exact dh.out) hb);have bC:=aj.mk (ay (by repeat (first|(with_reducible first|exact HB.out|apply au|apply ah|apply av|refine ak ?_ mK.out)|exact HB.out)) hb);have bK:=aj.mk (hbox);have bP:=aj.mk ((by rw [hg];exact (aA (by repeat (first|(with_reducible first|exact HB.out|apply au|apply ah|apply av|refine ak ?_ mK.out)|exact HB.out))):w.heap.size≤jG));have dX:=aj.mk ((by rw [hg];exact (aA (by repeat (first|(with_reducible first|exact HB.out|apply au|apply ah|apply av|refine ak ?_ mK.out)|exact HB.out))):w.heap.size≤jG));have fB:=aj.mk ((by rw [hg];exact Nat.ne_of_lt (aU (g:=eY) (o:=.cells #[.int .i64 aC,.int .i64 aD,.int .i64 aG,.int .i64 aH,.int .i64 aN,.int .i64 aK,.int .i64 aJ] 29 (0,0)) (by (with_reducible repeat (first|refine ag ?_ _|refine ai ?_|refine af ?_ _));exact dh.out)):eY≠jG));have gD:=aj.mk ((by rw [hg];exact Nat.ne_of_gt (aU (g:=eY) (o:=.cells #[.int .i64 aC,.int .i64 aD,.int .i64 aG,.int .i64 aH,.int .i64 aN,.int .i64 aK,.int .i64 aJ] 29 (0,0)) (by (with_reducible repeat (first|refine ag ?_ _|refine ai ?_|refine af ?_ _));exact dh.out)):jG≠eY));clear dh;clear HB;have dh:=bB;have HB:=bC;have iN:=bK;have Xw:=bP;have uo:=dX;have ru:=fB;have ry:=gD;clear bB bC bK bP dX fB gD;clear hb hbox hg;have afY:=ru.out;have afZ:=ry.out;have JR:Ph.cell? ⟨eY,0,none⟩ = some (.int .i64 aC):=(aa dh.out 0).trans rfl;have JS:Ph.cell? ⟨eY,1,none⟩ = some (.int .i64 aD):=(aa dh.out 1).trans rfl;have JU:Ph.cell? ⟨eY,2,none⟩ = some (.int .i64 aG):=(aa dh.out 2).trans rfl;have JV:Ph.cell? ⟨eY,3,none⟩ = some (.int .i64 aH):=(aa dh.out 3).trans rfl;have aeM:Ph.cell? ⟨eY,4,none⟩ = some (.int .i64 aN):=(aa dh.out 4).trans rfl;have aeN:Ph.cell? ⟨eY,5,none⟩ = some (.int .i64 aK):=(aa dh.out 5).trans rfl;have aeO:Ph.cell? ⟨eY,6,none⟩ = some (.int .i64 aJ):=(aa dh.out 6).trans rfl;have JW:=ae dh.out 0;have JX:=ae dh.out 1;have JY:=ae dh.out 2;have JZ:=ae dh.out 3;have aeP:=ae dh.out 4;have aeQ:=ae dh.out 5;have aeR:=ae dh.out 6)|((with_reducible refine bT (f:=27) rfl ?_);refine fM (some 16) rfl rfl Try.func27 (by kernel_rfl) rfl #[.agg #[.int .i64 aC,.int .i64 aD,.int .i64 aG,.int .i64 aH,.int .i64 aN,.int .i64 aK,.int .i64 aJ]] rfl (by (try simp only [List.map_toArray,List.map_cons,List.map_nil]);first|done|rfl|(simp only [List.length_drop,List.length_take];rfl)) ?_;(with_reducible refine (cZ.calls k aC aD aG aH aN aK aJ yN _ A4.out).mono ?_);rintro e WR ⟨rfl,hb⟩;refine ⟨_,rfl,?_⟩;have bB:=aj.mk (ax (g:=eY) (o:=.cells #[.int .i64 aC,.int .i64 aD,.int .i64 aG,.int .i64 aH,.int .i64 aN,.int .i64 aK,.int .i64 aJ] 29 (0,0)) (by (with_reducible repeat (first|refine ag ?_ _|refine ai ?_|refine af ?_ _));exact dh.out) hb);have bC:=aj.mk (ax (g:=jG) (o:=.cells #[.int .i64 bz,.int .i64 bA] 27 (0,0)) (by (with_reducible repeat (first|refine ag ?_ _|refine ai ?_|refine af ?_ _));exact iN.out) hb);have bK:=aj.mk (ay (by repeat (first|(with_reducible first|exact HB.out|apply au|apply ah|apply av|refine ak ?_ mK.out|refine ak ?_ uo.out)|exact HB.out)) hb);clear dh;clear iN;clear HB;have dh:=bB;have iN:=bC;have HB:=bK;clear bB bC bK;(try clear hb);(try clear hb2);(try clear hk);(try clear hi)))
  go_ret2
  exact ⟨by first|rfl|(simp [aQ,aT] <;> rfl)|(simp only [← AV];first|rfl|(simp [aQ,aT] <;> rfl))|(simp [*,aQ,aT] <;> rfl),by repeat (first|(with_reducible first|exact HB.out|apply au|apply ah|apply av|refine ak ?_ mK.out|refine ak ?_ uo.out)|exact HB.out)⟩
end Go.Proofs.Ytmhaiihjfgfaoaa.Pr
end
section
namespace Go.Proofs.Ytmhaiihjfgfaoaa.Pr
open Go.RowKit Go.Proofs.YtmhaiihjfgfaoaaW.PrintWords Go.Proofs.YtmhaiihjfgfaoaaW.PrintLast Go.Proofs.YtmhaiihjfgfaoaaW.PrintMore
attribute [local go_sem] fo fq gu gz fu
set_option linter.unusedVariables false
set_option linter.unusedSimpArgs false
def di.l0:Nat→Int→Int→Int→Int→Int→Int→Int→Int→List Bool→List (mQ)→Option (Int × Int × Int × Int × Int × Int × Int × List Bool × (List (mQ)) × Int × Int × Int × Int × Int × Int × Int)
 |0,_,_,_,_,_,_,_,_,_,_=>none
 |k+1,x3,Xx,Xy,Xz,XA,XB,XC,XD,XE,Qo=>if x3 < 16 then (if Qo.length < 4398046511104 then (di.l0 k (wrap64 (x3+1)) Xx Xy Xz XA XB XC XD XE (Qo++[(⟨(⟨(-100),100⟩:mZ),(⟨0,0⟩:mZ)⟩:mQ)])) else (none)) else (some (Xx,Xy,Xz,XA,XB,XC,XD,XE,Qo,300,1000,50,60,5,6,100))
def di.f (k:Nat):Option (Int × Int × Int × Int × Int × Int × Int × List Bool × (List (mQ)) × Int × Int × Int × Int × Int × Int × Int):=if 16≤281474976710656 then (di.l0 k 0 4 4 1000 10000 1 1 200 (List.replicate 16 false) ([]:List (mQ))) else (none)
theorem di.LC:∀ k,(∀ y0 y1 y2 y3 y4 y5 y6 y7 y8 y9,nS (di.l0 k y0 y1 y2 y3 y4 y5 y6 y7 y8 y9) (di.l0 (k+1) y0 y1 y2 y3 y4 y5 y6 y7 y8 y9))
 |0=>fun _ _ _ _ _ _ _ _ _ _ r h=>by simp [di.l0] at h
 |k+1=>by
  have ih0:=di.LC k
  ·intro y0 y1 y2 y3 y4 y5 y6 y7 y8 y9
   unfold di.l0
   repeat' first
   |(with_reducible exact ih0 _ _ _ _ _ _ _ _ _ _)
   |(with_reducible exact nS.refl _)
   |(with_reducible exact nS.none _)
   |(with_reducible refine nS.ite ?_ ?_)
   |(with_reducible refine nS.bind ?_ (fun _=>?_))
   |exact ih0 _ _ _ _ _ _ _ _ _ _
   |exact nS.none _
   |refine nS.ite ?_ ?_
   |refine nS.bind ?_ (fun _=>?_)
theorem di.mono:∀ k,nS (di.f k) (di.f (k+1)):=by
 intro k
 have ih0:=di.LC k
 unfold di.f
 repeat' first
  |(with_reducible exact ih0 _ _ _ _ _ _ _ _ _ _)
  |(with_reducible exact nS.refl _)
  |(with_reducible exact nS.none _)
  |(with_reducible refine nS.ite ?_ ?_)
  |(with_reducible refine nS.bind ?_ (fun _=>?_))
  |exact ih0 _ _ _ _ _ _ _ _ _ _
  |exact nS.none _
  |refine nS.ite ?_ ?_
  |refine nS.bind ?_ (fun _=>?_)
set_option maxHeartbeats 8000000 in
set_option maxRecDepth 100000 in
theorem di.calls (k:Nat) (r1:Int) (r2:Int) (r3:Int) (r4:Int) (r5:Int) (r6:Int) (r7:Int) (r8:List Bool) (r9:List (mQ)) (r10:Int) (r11:Int) (r12:Int) (r13:Int) (r14:Int) (r15:Int) (r16:Int) (w:World) (h:di.f k = some (r1,r2,r3,r4,r5,r6,r7,r8,r9,r10,r11,r12,r13,r14,r15,r16)):
 Calls Try.prog 61 #[] w fun e w'=>∃ v7_ v8_:Value,e = .returned (.tuple #[.agg #[.int .i64 r1,.int .i64 r2,.int .i64 r3,.int .i64 r4,.int .i64 r5,.int .i64 r6,.int .i64 r7,v7_,v8_],.agg #[.int .i64 r10,.int .i64 r11,.int .i64 r12,.int .i64 r13,.int .i64 r14,.int .i64 r15,.int .i64 r16]])∧Kd.R Kd.bool 4 w' w.heap.size (fun _=>True) v7_ r8∧Kd.R xK 40 w' w.heap.size (fun _=>True) v8_ r9∧Below w.heap.size w w':=by
 have Dx:=Try.underlying25
 have KU:=Try.underlying29
 have sU:=Try.underlying27
 have Yt:=Try.underlying40
 have HB:=aj.mk (Below.refl w.heap.size w)
 have H:(if 16≤281474976710656 then (di.l0 k 0 4 4 1000 10000 1 1 200 (List.replicate 16 false) ([]:List (mQ))) else (none)) = some (r1,r2,r3,r4,r5,r6,r7,r8,r9,r10,r11,r12,r13,r14,r15,r16):=h
 clear h
 by_cases c1:16≤281474976710656
 ·rw [if_pos c1] at H
  have aBk:=eq_true c1
  have aBl:decide (16≤281474976710656) = true:=decide_eq_true c1
  clear c1
  obtain ⟨Bl,Ri⟩:∃ y_:List Bool,y_ = (List.replicate 16 false):=⟨_,rfl⟩
  replace H:(di.l0 k 0 4 4 1000 10000 1 1 200 Bl ([]:List (mQ))) = some (r1,r2,r3,r4,r5,r6,r7,r8,r9,r10,r11,r12,r13,r14,r15,r16):=by first|(rw [Ri];with_reducible exact H)|(have G7:=(Option.bind_some _ _).symm.trans H;rw [Ri];with_reducible exact G7)|(have G7:=(Option.bind_some _ _).symm.trans H;with_reducible exact G7)|with_reducible exact H|(rw [Ri];exact H)|exact H
  have agE:=aj.mk Ri
  clear Ri
  have H':=aj.mk H
  clear H
  go_enter Try.func61,Try.ntmps61
  go_wp2_with (first|((with_reducible refine bu (N:=0) rfl ?_);refine aY ?hg (N:=0) ?hd (cs:=#[.int .i64 0,.int .i64 0,.int .i64 0,.int .i64 0,.int .i64 0,.int .i64 0,.int .i64 0,.slice none 0 0,.slice none 0 0]) (t:=25) ?hr ?_;(case hd=>rfl);(case hg=>rfl);(case hr=>first|(go_simp;done)|(go_simp;rfl));intro j4 hg w2 hbox hb;have bB:=aj.mk (ay (by repeat (first|(with_reducible first|exact HB.out|apply au|apply ah|apply av)|exact HB.out)) hb);have bC:=aj.mk (hbox);have bK:=aj.mk ((by rw [hg];exact (aA (by repeat (first|(with_reducible first|exact HB.out|apply au|apply ah|apply av)|exact HB.out))):w.heap.size≤j4));have bP:=aj.mk ((by rw [hg];exact (aA (by repeat (first|(with_reducible first|exact HB.out|apply au|apply ah|apply av)|exact HB.out))):w.heap.size≤j4));clear HB;have HB:=bB;have kK:=bC;have aDX:=bK;have zu:=bP;clear bB bC bK bP;clear hb hbox hg)|((with_reducible refine bu (N:=1) rfl ?_);refine aY ?hg (N:=1) ?hd (cs:=#[.int .i64 0,.int .i64 0,.int .i64 0,.int .i64 0,.int .i64 0,.int .i64 0,.int .i64 0]) (t:=29) ?hr ?_;(case hd=>rfl);(case hg=>rfl);(case hr=>first|(go_simp;done)|(go_simp;rfl));intro mG hg w3 hbox hb;have bB:=aj.mk (ax (g:=j4) (o:=.cells #[.int .i64 0,.int .i64 0,.int .i64 0,.int .i64 0,.int .i64 0,.int .i64 0,.int .i64 0,.slice none 0 0,.slice none 0 0] 25 (0,0)) (by (with_reducible repeat (first|refine ag ?_ _|refine ai ?_|refine af ?_ _));exact kK.out) hb);have bC:=aj.mk (ay (by repeat (first|(with_reducible first|exact HB.out|apply au|apply ah|apply av|refine ak ?_ zu.out)|exact HB.out)) hb);have bK:=aj.mk (hbox);have bP:=aj.mk ((by rw [hg];exact (aA (by repeat (first|(with_reducible first|exact HB.out|apply au|apply ah|apply av|refine ak ?_ zu.out)|exact HB.out))):w.heap.size≤mG));have dX:=aj.mk ((by rw [hg];exact (aA (by repeat (first|(with_reducible first|exact HB.out|apply au|apply ah|apply av|refine ak ?_ zu.out)|exact HB.out))):w.heap.size≤mG));have fB:=aj.mk ((by rw [hg];exact Nat.ne_of_lt (aU (g:=j4) (o:=.cells #[.int .i64 0,.int .i64 0,.int .i64 0,.int .i64 0,.int .i64 0,.int .i64 0,.int .i64 0,.slice none 0 0,.slice none 0 0] 25 (0,0)) (by (with_reducible repeat (first|refine ag ?_ _|refine ai ?_|refine af ?_ _));exact kK.out)):j4≠mG));have gD:=aj.mk ((by rw [hg];exact Nat.ne_of_gt (aU (g:=j4) (o:=.cells #[.int .i64 0,.int .i64 0,.int .i64 0,.int .i64 0,.int .i64 0,.int .i64 0,.int .i64 0,.slice none 0 0,.slice none 0 0] 25 (0,0)) (by (with_reducible repeat (first|refine ag ?_ _|refine ai ?_|refine af ?_ _));exact kK.out)):mG≠j4));clear kK;clear HB;have kK:=bB;have HB:=bC;have mY:=bK;have aDY:=bP;have DI:=dX;have su:=fB;have qd:=gD;clear bB bC bK bP dX fB gD;clear hb hbox hg)|((with_reducible refine bu (N:=4) rfl ?_);refine Kd.ahy Kd.bool _ 4 rfl (N:=4) rfl 22 _ _ rfl 16 rfl rfl Try.underlying22 (.bool false) 1 aoF rfl (by decide) (by omega) false (ok:=fun _=>True) (okp:=fun _=>True) rfl (fun _ hk=>hk) trivial (by omega) (by omega) (Below.refl _ _) (Nat.le_refl _) ?_;intro aFD w4 ho5 hb Zj Bg;clear Zj Bg;(first|rw [← agE.out] at ho5|(simp only [Int.reduceToNat] at ho5;rw [← agE.out] at ho5));have bB:=aj.mk (Kd.vY ho5 (aA (by repeat (first|(with_reducible first|exact HB.out|apply au|apply ah|apply av|refine ak ?_ zu.out|refine ak ?_ DI.out)|exact HB.out))));have bC:=aj.mk (ax (g:=j4) (o:=.cells #[.int .i64 0,.int .i64 0,.int .i64 0,.int .i64 0,.int .i64 0,.int .i64 0,.int .i64 0,.slice none 0 0,.slice none 0 0] 25 (0,0)) (by (with_reducible repeat (first|refine ag ?_ _|refine ai ?_|refine af ?_ _));exact kK.out) hb);have bK:=aj.mk (ax (g:=mG) (o:=.cells #[.int .i64 0,.int .i64 0,.int .i64 0,.int .i64 0,.int .i64 0,.int .i64 0,.int .i64 0] 29 (0,0)) (by (with_reducible repeat (first|refine ag ?_ _|refine ai ?_|refine af ?_ _));exact mY.out) hb);have bP:=aj.mk (ay (by repeat (first|(with_reducible first|exact HB.out|apply au|apply ah|apply av|refine ak ?_ zu.out|refine ak ?_ DI.out)|exact HB.out)) hb);clear kK;clear mY;clear HB;have Rj:=bB;have kK:=bC;have mY:=bK;have HB:=bP;clear bB bC bK bP;clear hb ho5;obtain ⟨YP,YQ,eo6⟩:=Kd.pR Rj.out;subst eo6)|((with_reducible refine bu (N:=2) rfl ?_);refine aY ?hg (N:=2) ?hd (cs:=#[.int .i64 0,.int .i64 0,.int .i64 0,.int .i64 0,.int .i64 0,.int .i64 0,.int .i64 0,.slice none 0 0,.slice none 0 0]) (t:=25) ?hr ?_;(case hd=>rfl);(case hg=>rfl);(case hr=>first|(go_simp;done)|(go_simp;rfl));intro iW hg w7 hbox hb;have bB:=aj.mk (Kd.gL (by (with_reducible repeat (first|apply Kd.eD|apply Kd.eF|apply Kd.fF));exact Rj.out) hb);have bC:=aj.mk (ax (g:=j4) (o:=.cells #[.int .i64 0,.int .i64 0,.int .i64 0,.int .i64 0,.int .i64 0,.int .i64 0,.int .i64 0,.slice none 0 0,.slice none 0 0] 25 (0,0)) (by (with_reducible repeat (first|refine ag ?_ _|refine ai ?_|refine af ?_ _));exact kK.out) hb);have bK:=aj.mk (ax (g:=mG) (o:=.cells #[.int .i64 0,.int .i64 0,.int .i64 0,.int .i64 0,.int .i64 0,.int .i64 0,.int .i64 0] 29 (0,0)) (by (with_reducible repeat (first|refine ag ?_ _|refine ai ?_|refine af ?_ _));exact mY.out) hb);have bP:=aj.mk (ay (by repeat (first|(with_reducible first|exact HB.out|apply au|apply ah|apply av|refine ak ?_ zu.out|refine ak ?_ DI.out)|exact HB.out)) hb);have dX:=aj.mk (hbox);have fB:=aj.mk ((by rw [hg];exact (aA (by repeat (first|(with_reducible first|exact HB.out|apply au|apply ah|apply av|refine ak ?_ zu.out|refine ak ?_ DI.out)|exact HB.out))):w.heap.size≤iW));have gD:=aj.mk ((by rw [hg];exact (aA (by repeat (first|(with_reducible first|exact HB.out|apply au|apply ah|apply av|refine ak ?_ zu.out|refine ak ?_ DI.out)|exact HB.out))):w.heap.size≤iW));have jK:=aj.mk ((by rw [hg];exact Nat.ne_of_lt (aU (g:=j4) (o:=.cells #[.int .i64 0,.int .i64 0,.int .i64 0,.int .i64 0,.int .i64 0,.int .i64 0,.int .i64 0,.slice none 0 0,.slice none 0 0] 25 (0,0)) (by (with_reducible repeat (first|refine ag ?_ _|refine ai ?_|refine af ?_ _));exact kK.out)):j4≠iW));have jL:=aj.mk ((by rw [hg];exact Nat.ne_of_gt (aU (g:=j4) (o:=.cells #[.int .i64 0,.int .i64 0,.int .i64 0,.int .i64 0,.int .i64 0,.int .i64 0,.int .i64 0,.slice none 0 0,.slice none 0 0] 25 (0,0)) (by (with_reducible repeat (first|refine ag ?_ _|refine ai ?_|refine af ?_ _));exact kK.out)):iW≠j4));have kL:=aj.mk ((by rw [hg];exact Nat.ne_of_lt (aU (g:=mG) (o:=.cells #[.int .i64 0,.int .i64 0,.int .i64 0,.int .i64 0,.int .i64 0,.int .i64 0,.int .i64 0] 29 (0,0)) (by (with_reducible repeat (first|refine ag ?_ _|refine ai ?_|refine af ?_ _));exact mY.out)):mG≠iW));have lJ:=aj.mk ((by rw [hg];exact Nat.ne_of_gt (aU (g:=mG) (o:=.cells #[.int .i64 0,.int .i64 0,.int .i64 0,.int .i64 0,.int .i64 0,.int .i64 0,.int .i64 0] 29 (0,0)) (by (with_reducible repeat (first|refine ag ?_ _|refine ai ?_|refine af ?_ _));exact mY.out)):iW≠mG));clear Rj;clear kK;clear mY;clear HB;have Rj:=bB;have kK:=bC;have mY:=bK;have HB:=bP;have gH:=dX;have aDZ:=fB;have Rk:=gD;have ni:=jK;have IB:=jL;have nk:=kL;have IC:=lJ;clear bB bC bK bP dX fB gD jK jL kL lJ;clear hb hbox hg;have abg:=IB.out;have abh:=ni.out;have aA6:=IC.out;have aA7:=nk.out;have vU:w7.cell? ⟨iW,0,none⟩ = some (.int .i64 0):=(aa gH.out 0).trans rfl;have vV:w7.cell? ⟨iW,1,none⟩ = some (.int .i64 0):=(aa gH.out 1).trans rfl;have Ex:w7.cell? ⟨iW,2,none⟩ = some (.int .i64 0):=(aa gH.out 2).trans rfl;have Ey:w7.cell? ⟨iW,3,none⟩ = some (.int .i64 0):=(aa gH.out 3).trans rfl;have OD:w7.cell? ⟨iW,4,none⟩ = some (.int .i64 0):=(aa gH.out 4).trans rfl;have OE:w7.cell? ⟨iW,5,none⟩ = some (.int .i64 0):=(aa gH.out 5).trans rfl;have OG:w7.cell? ⟨iW,6,none⟩ = some (.int .i64 0):=(aa gH.out 6).trans rfl;have Vm:w7.cell? ⟨iW,7,none⟩ = some (.slice none 0 0):=(aa gH.out 7).trans rfl;have Vn:w7.cell? ⟨iW,8,none⟩ = some (.slice none 0 0):=(aa gH.out 8).trans rfl;have vW:=ae gH.out 0;have vX:=ae gH.out 1;have Ez:=ae gH.out 2;have EA:=ae gH.out 3;have OH:=ae gH.out 4;have OI:=ae gH.out 5;have OJ:=ae gH.out 6;have Vo:=ae gH.out 7;have Vp:=ae gH.out 8))
  go_loopg [3] k (fun kq v3 w'=>∃ (Rl:Int) (rz:List (mQ)) (wD:Value),v3 = .int .i64 Rl∧aj (di.l0 kq Rl 4 4 1000 10000 1 1 200 Bl rz = some (r1,r2,r3,r4,r5,r6,r7,r8,r9,r10,r11,r12,r13,r14,r15,r16))∧aj (kq≤k)∧aj (Kd.R Kd.bool 4 w' w.heap.size (fun _=>True) (.slice YP Bl.length YQ) Bl)∧aj (Kd.R xK 40 w' w.heap.size (fun _=>True) wD rz)∧aj (w'.heap[j4]? = some (.cells #[.int .i64 0,.int .i64 0,.int .i64 0,.int .i64 0,.int .i64 0,.int .i64 0,.int .i64 0,(.slice none 0 0),(.slice none 0 0)] 25 (0,0)))∧aj (w'.heap[mG]? = some (.cells #[.int .i64 0,.int .i64 0,.int .i64 0,.int .i64 0,.int .i64 0,.int .i64 0,.int .i64 0] 29 (0,0)))∧aj (w'.heap[iW]? = some (.cells #[.int .i64 4,.int .i64 4,.int .i64 1000,.int .i64 10000,.int .i64 1,.int .i64 1,.int .i64 200,(.slice YP Bl.length YQ),wD] 25 (0,0)))∧aj (Below w.heap.size w w'))
  case atStart=>exact ⟨(0),(([]:List (mQ))),(.slice none 0 0),(by first|rfl|(simp;done)|(simp [*];done)),H',⟨Nat.le_refl _⟩,⟨by (with_reducible repeat (first|apply Kd.eD|apply Kd.eF|apply Kd.fF));exact Kd.pU (Kd.fE (p:=⟨iW,8,none⟩) (Kd.fE (p:=⟨iW,7,none⟩) (Kd.fE (p:=⟨iW,6,none⟩) (Kd.fE (p:=⟨iW,5,none⟩) (Kd.fE (p:=⟨iW,4,none⟩) (Kd.fE (p:=⟨iW,3,none⟩) (Kd.fE (p:=⟨iW,2,none⟩) (Kd.fE (p:=⟨iW,1,none⟩) (Kd.fE (p:=⟨iW,0,none⟩) (Kd.nG Rj.out gH.out (by decide)) (fun _ hk=>hk.2) (.int .i64 4)) (fun _ hk=>hk.2) (.int .i64 4)) (fun _ hk=>hk.2) (.int .i64 1000)) (fun _ hk=>hk.2) (.int .i64 10000)) (fun _ hk=>hk.2) (.int .i64 1)) (fun _ hk=>hk.2) (.int .i64 1)) (fun _ hk=>hk.2) (.int .i64 200)) (fun _ hk=>hk.2) (.slice YP Bl.length YQ)) (fun _ hk=>hk.2) (.slice none 0 0)) (fun _ hk=>trivial)⟩,⟨by first|exact Kd.aoB _ _ _ _ _|exact Kd.aD0 _ _ _ _ _|exact Kd.aD1 _ _ _ _ _|exact Kd.aD2 _ _ _ _ _|exact Kd.aD3 _ _ _ _ _⟩,⟨by (with_reducible repeat (first|refine ag ?_ _|refine ai ?_|refine af ?_ _));refine az ?_ ni.out _;(with_reducible repeat (first|refine ag ?_ _|refine ai ?_|refine af ?_ _));refine az ?_ ni.out _;(with_reducible repeat (first|refine ag ?_ _|refine ai ?_|refine af ?_ _));refine az ?_ ni.out _;(with_reducible repeat (first|refine ag ?_ _|refine ai ?_|refine af ?_ _));refine az ?_ ni.out _;(with_reducible repeat (first|refine ag ?_ _|refine ai ?_|refine af ?_ _));refine az ?_ ni.out _;(with_reducible repeat (first|refine ag ?_ _|refine ai ?_|refine af ?_ _));refine az ?_ ni.out _;(with_reducible repeat (first|refine ag ?_ _|refine ai ?_|refine af ?_ _));refine az ?_ ni.out _;(with_reducible repeat (first|refine ag ?_ _|refine ai ?_|refine af ?_ _));refine az ?_ ni.out _;(with_reducible repeat (first|refine ag ?_ _|refine ai ?_|refine af ?_ _));refine az ?_ ni.out _;(with_reducible repeat (first|refine ag ?_ _|refine ai ?_|refine af ?_ _));exact kK.out⟩,⟨by (with_reducible repeat (first|refine ag ?_ _|refine ai ?_|refine af ?_ _));refine az ?_ nk.out _;(with_reducible repeat (first|refine ag ?_ _|refine ai ?_|refine af ?_ _));refine az ?_ nk.out _;(with_reducible repeat (first|refine ag ?_ _|refine ai ?_|refine af ?_ _));refine az ?_ nk.out _;(with_reducible repeat (first|refine ag ?_ _|refine ai ?_|refine af ?_ _));refine az ?_ nk.out _;(with_reducible repeat (first|refine ag ?_ _|refine ai ?_|refine af ?_ _));refine az ?_ nk.out _;(with_reducible repeat (first|refine ag ?_ _|refine ai ?_|refine af ?_ _));refine az ?_ nk.out _;(with_reducible repeat (first|refine ag ?_ _|refine ai ?_|refine af ?_ _));refine az ?_ nk.out _;(with_reducible repeat (first|refine ag ?_ _|refine ai ?_|refine af ?_ _));refine az ?_ nk.out _;(with_reducible repeat (first|refine ag ?_ _|refine ai ?_|refine af ?_ _));refine az ?_ nk.out _;(with_reducible repeat (first|refine ag ?_ _|refine ai ?_|refine af ?_ _));exact mY.out⟩,⟨by (with_reducible repeat (first|refine ag ?_ _|refine ai ?_|refine af ?_ _));refine aW (cs:=#[.int .i64 4,.int .i64 4,.int .i64 1000,.int .i64 10000,.int .i64 1,.int .i64 1,.int .i64 200,.slice YP Bl.length YQ,.slice none 0 0]) ?_ 8 _ rfl;(with_reducible repeat (first|refine ag ?_ _|refine ai ?_|refine af ?_ _));refine aW (cs:=#[.int .i64 4,.int .i64 4,.int .i64 1000,.int .i64 10000,.int .i64 1,.int .i64 1,.int .i64 200,.slice none 0 0,.slice none 0 0]) ?_ 7 _ rfl;(with_reducible repeat (first|refine ag ?_ _|refine ai ?_|refine af ?_ _));refine aW (cs:=#[.int .i64 4,.int .i64 4,.int .i64 1000,.int .i64 10000,.int .i64 1,.int .i64 1,.int .i64 0,.slice none 0 0,.slice none 0 0]) ?_ 6 _ rfl;(with_reducible repeat (first|refine ag ?_ _|refine ai ?_|refine af ?_ _));refine aW (cs:=#[.int .i64 4,.int .i64 4,.int .i64 1000,.int .i64 10000,.int .i64 1,.int .i64 0,.int .i64 0,.slice none 0 0,.slice none 0 0]) ?_ 5 _ rfl;(with_reducible repeat (first|refine ag ?_ _|refine ai ?_|refine af ?_ _));refine aW (cs:=#[.int .i64 4,.int .i64 4,.int .i64 1000,.int .i64 10000,.int .i64 0,.int .i64 0,.int .i64 0,.slice none 0 0,.slice none 0 0]) ?_ 4 _ rfl;(with_reducible repeat (first|refine ag ?_ _|refine ai ?_|refine af ?_ _));refine aW (cs:=#[.int .i64 4,.int .i64 4,.int .i64 1000,.int .i64 0,.int .i64 0,.int .i64 0,.int .i64 0,.slice none 0 0,.slice none 0 0]) ?_ 3 _ rfl;(with_reducible repeat (first|refine ag ?_ _|refine ai ?_|refine af ?_ _));refine aW (cs:=#[.int .i64 4,.int .i64 4,.int .i64 0,.int .i64 0,.int .i64 0,.int .i64 0,.int .i64 0,.slice none 0 0,.slice none 0 0]) ?_ 2 _ rfl;(with_reducible repeat (first|refine ag ?_ _|refine ai ?_|refine af ?_ _));refine aW (cs:=#[.int .i64 4,.int .i64 0,.int .i64 0,.int .i64 0,.int .i64 0,.int .i64 0,.int .i64 0,.slice none 0 0,.slice none 0 0]) ?_ 1 _ rfl;(with_reducible repeat (first|refine ag ?_ _|refine ai ?_|refine af ?_ _));refine aW (cs:=#[.int .i64 0,.int .i64 0,.int .i64 0,.int .i64 0,.int .i64 0,.int .i64 0,.int .i64 0,.slice none 0 0,.slice none 0 0]) ?_ 0 _ rfl;(with_reducible repeat (first|refine ag ?_ _|refine ai ?_|refine af ?_ _));exact gH.out⟩,⟨by repeat (first|(with_reducible first|exact HB.out|apply au|apply ah|apply av|refine ak ?_ zu.out|refine ak ?_ DI.out|refine ak ?_ Rk.out)|exact HB.out)⟩⟩
  case round =>
   clear H'
   try clear c1
   try clear aBk
   try clear aBl
   try clear p2
   try clear c6
   try clear c8
   try clear c9
   try clear vU
   try clear vV
   try clear Ex
   try clear Ey
   try clear OD
   try clear OE
   try clear OG
   try clear Vm
   try clear Vn
   try clear vW
   try clear vX
   try clear Ez
   try clear EA
   try clear OH
   try clear OI
   try clear OJ
   try clear Vo
   try clear Vp
   obtain ⟨Rl,rz,wD,rfl,HA,GV,zw,sw,kK,mY,gH,HB⟩:=hrel
   cases gk with
   |zero=>exact absurd HA.out (by simp [di.l0])
   |succ k1 =>
    have H:=HA.out
    clear HA
    simp only [di.l0] at H
    by_cases c11:Rl < 16
    ·rw [if_pos c11] at H
     have LB:decide (Rl < 16) = true:=decide_eq_true c11
     clear c11
     by_cases c12:rz.length < 4398046511104
     ·rw [if_pos c12] at H
      have aoZ:=aj.mk c12
      clear c12
      obtain ⟨aan,Rm⟩:∃ y_:List (mQ),y_ = (rz++[(⟨(⟨(-100),100⟩:mZ),(⟨0,0⟩:mZ)⟩:mQ)]):=⟨_,rfl⟩
      replace H:(di.l0 k1 (wrap64 (Rl+1)) 4 4 1000 10000 1 1 200 Bl aan) = some (r1,r2,r3,r4,r5,r6,r7,r8,r9,r10,r11,r12,r13,r14,r15,r16):=by first|(rw [Rm];with_reducible exact H)|(have G7:=(Option.bind_some _ _).symm.trans H;rw [Rm];with_reducible exact G7)|(have G7:=(Option.bind_some _ _).symm.trans H;with_reducible exact G7)|with_reducible exact H|(rw [Rm];exact H)|exact H
      have ao0:=aj.mk Rm
      clear Rm
      have H':=aj.mk H
      clear H
      have QG:=IB.out
      have QH:=ni.out
      have ZF:=IC.out
      have ZG:=nk.out
      have qj:wr.cell? ⟨iW,0,none⟩ = some (.int .i64 4):=(aa gH.out 0).trans rfl
      have ql:wr.cell? ⟨iW,1,none⟩ = some (.int .i64 4):=(aa gH.out 1).trans rfl
      have rG:wr.cell? ⟨iW,2,none⟩ = some (.int .i64 1000):=(aa gH.out 2).trans rfl
      have rH:wr.cell? ⟨iW,3,none⟩ = some (.int .i64 10000):=(aa gH.out 3).trans rfl
      have uR:wr.cell? ⟨iW,4,none⟩ = some (.int .i64 1):=(aa gH.out 4).trans rfl
      have uS:wr.cell? ⟨iW,5,none⟩ = some (.int .i64 1):=(aa gH.out 5).trans rfl
      have uT:wr.cell? ⟨iW,6,none⟩ = some (.int .i64 200):=(aa gH.out 6).trans rfl
      have vZ:wr.cell? ⟨iW,7,none⟩ = some (.slice YP Bl.length YQ):=(aa gH.out 7).trans rfl
      have wh:wr.cell? ⟨iW,8,none⟩ = some (wD):=(aa gH.out 8).trans rfl
      have qm:=ae gH.out 0
      have qo:=ae gH.out 1
      have rJ:=ae gH.out 2
      have rM:=ae gH.out 3
      have uU:=ae gH.out 4
      have uV:=ae gH.out 5
      have uW:=ae gH.out 6
      have wm:=ae gH.out 7
      have wo:=ae gH.out 8
      go_wp2_with (first|((with_reducible refine EN (b:=.append) (xs:=#[.tmp 11,.tmp 14]) rfl ?_);at_builtin;refine Kd.ZX xK (w0:=w) w.heap.size rfl (.tmp 11) (.tmp 14) 23 40 (.agg #[(.int .i64 0),(.int .i64 0),(.int .i64 0),(.int .i64 0)]) 32 rfl Try.underlying23 Zk rfl (by decide) (by omega) wD rz (⟨(⟨(-100),100⟩:mZ),(⟨0,0⟩:mZ)⟩:mQ) [.int .i64 (-100),.int .i64 100,.int .i64 0,.int .i64 0] (fun _=>True) (fun _=>False) rfl rfl ?aP (fun _ hk=>hk.elim) ?aF ?aO ?aB ?aS ?aL ?_;(case aP=>exact Vk _ _ _ (⟨(⟨(-100),100⟩:mZ),(⟨0,0⟩:mZ)⟩:mQ));(case aB=>exact (by repeat (first|(with_reducible first|exact HB.out|apply au|apply ah|apply av|refine ak ?_ zu.out|refine ak ?_ DI.out|refine ak ?_ Rk.out)|exact HB.out)));(case aF=>exact (fun _ _=>trivial));(case aO=>exact (by (with_reducible repeat (first|apply Kd.eD|apply Kd.eF|apply Kd.fF));exact sw.out));(case aS=>exact (aA (by repeat (first|(with_reducible first|exact HB.out|apply au|apply ah|apply av|refine ak ?_ zu.out|refine ak ?_ DI.out|refine ak ?_ Rk.out)|exact HB.out))));(case aL=>have:=aoZ.out;omega);intro aFF w16 ho hb hg hat;rw [← ao0.out] at ho;have bB:=aj.mk (Kd.aeG (by (with_reducible repeat (first|apply Kd.eD|apply Kd.eF|apply Kd.fF));exact zw.out) (Kd.aeF (by (with_reducible repeat (first|apply Kd.eD|apply Kd.eF|apply Kd.fF));exact sw.out)) (by decide) hg);have bC:=aj.mk (jY (g:=j4) (o:=.cells #[.int .i64 0,.int .i64 0,.int .i64 0,.int .i64 0,.int .i64 0,.int .i64 0,.int .i64 0,.slice none 0 0,.slice none 0 0] 25 (0,0)) (by (with_reducible repeat (first|refine ag ?_ _|refine ai ?_|refine af ?_ _));exact kK.out) hg (Kd.AR sw.out kK.out (by decide)));have bK:=aj.mk (jY (g:=mG) (o:=.cells #[.int .i64 0,.int .i64 0,.int .i64 0,.int .i64 0,.int .i64 0,.int .i64 0,.int .i64 0] 29 (0,0)) (by (with_reducible repeat (first|refine ag ?_ _|refine ai ?_|refine af ?_ _));exact mY.out) hg (Kd.AR sw.out mY.out (by decide)));have bP:=aj.mk (jY (g:=iW) (o:=.cells #[.int .i64 4,.int .i64 4,.int .i64 1000,.int .i64 10000,.int .i64 1,.int .i64 1,.int .i64 200,.slice YP Bl.length YQ,wD] 25 (0,0)) (by (with_reducible repeat (first|refine ag ?_ _|refine ai ?_|refine af ?_ _));exact gH.out) hg (Kd.AR sw.out gH.out (by decide)));have dX:=aj.mk (hb);have fB:=aj.mk (ho);clear zw;clear kK;clear mY;clear gH;clear HB;clear sw;have zw:=bB;have kK:=bC;have mY:=bK;have gH:=bP;have HB:=dX;have agF:=fB;clear bB bC bK bP dX fB;clear ho hb hg hat;obtain ⟨ahP,ahQ,aBm⟩:=Kd.pR agF.out;subst aBm;have Vt:w16.cell? ⟨iW,0,none⟩ = some (.int .i64 4):=(aa gH.out 0).trans rfl;have Vu:w16.cell? ⟨iW,1,none⟩ = some (.int .i64 4):=(aa gH.out 1).trans rfl;have Vv:w16.cell? ⟨iW,2,none⟩ = some (.int .i64 1000):=(aa gH.out 2).trans rfl;have Vw:w16.cell? ⟨iW,3,none⟩ = some (.int .i64 10000):=(aa gH.out 3).trans rfl;have axa:w16.cell? ⟨iW,4,none⟩ = some (.int .i64 1):=(aa gH.out 4).trans rfl;have axb:w16.cell? ⟨iW,5,none⟩ = some (.int .i64 1):=(aa gH.out 5).trans rfl;have axc:w16.cell? ⟨iW,6,none⟩ = some (.int .i64 200):=(aa gH.out 6).trans rfl;have axd:w16.cell? ⟨iW,7,none⟩ = some (.slice YP Bl.length YQ):=(aa gH.out 7).trans rfl;have axe:w16.cell? ⟨iW,8,none⟩ = some (wD):=(aa gH.out 8).trans rfl;have Vx:=ae gH.out 0;have Vy:=ae gH.out 1;have Vz:=ae gH.out 2;have VA:=ae gH.out 3;have axf:=ae gH.out 4;have axg:=ae gH.out 5;have axh:=ae gH.out 6;have axi:=ae gH.out 7;have axj:=ae gH.out 8))
      go_roundg k1
      case measure=>have:=GV.out;omega
      case rel=>exact ⟨(wrap64 (Rl+1)),(aan),(.slice ahP aan.length ahQ),(by first|rfl|(simp;done)|(simp [*];done)),H',⟨by have:=GV.out;omega⟩,⟨by (with_reducible repeat (first|apply Kd.eD|apply Kd.eF|apply Kd.fF));exact Kd.pU (Kd.fE (p:=⟨iW,8,none⟩) (Kd.nG zw.out gH.out (by decide)) (fun _ hk=>hk.2) (.slice ahP aan.length ahQ)) (fun _ hk=>trivial)⟩,⟨by (with_reducible repeat (first|apply Kd.eD|apply Kd.eF|apply Kd.fF));exact Kd.pU (Kd.fE (p:=⟨iW,8,none⟩) (Kd.nG agF.out gH.out (by decide)) (fun _ hk=>hk.2) (.slice ahP aan.length ahQ)) (fun _ hk=>trivial)⟩,⟨by (with_reducible repeat (first|refine ag ?_ _|refine ai ?_|refine af ?_ _));refine az ?_ ni.out _;(with_reducible repeat (first|refine ag ?_ _|refine ai ?_|refine af ?_ _));exact kK.out⟩,⟨by (with_reducible repeat (first|refine ag ?_ _|refine ai ?_|refine af ?_ _));refine az ?_ nk.out _;(with_reducible repeat (first|refine ag ?_ _|refine ai ?_|refine af ?_ _));exact mY.out⟩,⟨by (with_reducible repeat (first|refine ag ?_ _|refine ai ?_|refine af ?_ _));refine aW (cs:=#[.int .i64 4,.int .i64 4,.int .i64 1000,.int .i64 10000,.int .i64 1,.int .i64 1,.int .i64 200,.slice YP Bl.length YQ,wD]) ?_ 8 _ rfl;(with_reducible repeat (first|refine ag ?_ _|refine ai ?_|refine af ?_ _));exact gH.out⟩,⟨by repeat (first|(with_reducible first|exact HB.out|apply au|apply ah|apply av|refine ak ?_ zu.out|refine ak ?_ DI.out|refine ak ?_ Rk.out)|exact HB.out)⟩⟩
     ·rw [if_neg c12] at H
      exact absurd H (by simp)
    ·rw [if_neg c11] at H
     have LB:decide (Rl < 16) = false:=decide_eq_false c11
     clear c11
     simp only [Option.some.injEq,Prod.mk.injEq] at H
     obtain ⟨rfl,rfl,rfl,rfl,rfl,rfl,rfl,rfl,rfl,rfl,rfl,rfl,rfl,rfl,rfl,rfl⟩:=H
     have afO:=IB.out
     have afP:=ni.out
     have ai2:=IC.out
     have ai3:=nk.out
     have CW:wr.cell? ⟨iW,0,none⟩ = some (.int .i64 4):=(aa gH.out 0).trans rfl
     have CX:wr.cell? ⟨iW,1,none⟩ = some (.int .i64 4):=(aa gH.out 1).trans rfl
     have F6:wr.cell? ⟨iW,2,none⟩ = some (.int .i64 1000):=(aa gH.out 2).trans rfl
     have F7:wr.cell? ⟨iW,3,none⟩ = some (.int .i64 10000):=(aa gH.out 3).trans rfl
     have F8:wr.cell? ⟨iW,4,none⟩ = some (.int .i64 1):=(aa gH.out 4).trans rfl
     have F9:wr.cell? ⟨iW,5,none⟩ = some (.int .i64 1):=(aa gH.out 5).trans rfl
     have Ga:wr.cell? ⟨iW,6,none⟩ = some (.int .i64 200):=(aa gH.out 6).trans rfl
     have Ky:wr.cell? ⟨iW,7,none⟩ = some (.slice YP Bl.length YQ):=(aa gH.out 7).trans rfl
     have Kz:wr.cell? ⟨iW,8,none⟩ = some (wD):=(aa gH.out 8).trans rfl
     have CY:=ae gH.out 0
     have CZ:=ae gH.out 1
     have Gb:=ae gH.out 2
     have Gc:=ae gH.out 3
     have Gd:=ae gH.out 4
     have Gf:=ae gH.out 5
     have Gg:=ae gH.out 6
     have KA:=ae gH.out 7
     have KC:=ae gH.out 8
     have agk:=su.out
     have agl:=qd.out
     have C8:wr.cell? ⟨j4,0,none⟩ = some (.int .i64 0):=(aa kK.out 0).trans rfl
     have C9:wr.cell? ⟨j4,1,none⟩ = some (.int .i64 0):=(aa kK.out 1).trans rfl
     have Gh:wr.cell? ⟨j4,2,none⟩ = some (.int .i64 0):=(aa kK.out 2).trans rfl
     have Gi:wr.cell? ⟨j4,3,none⟩ = some (.int .i64 0):=(aa kK.out 3).trans rfl
     have Gj:wr.cell? ⟨j4,4,none⟩ = some (.int .i64 0):=(aa kK.out 4).trans rfl
     have Gm:wr.cell? ⟨j4,5,none⟩ = some (.int .i64 0):=(aa kK.out 5).trans rfl
     have Gn:wr.cell? ⟨j4,6,none⟩ = some (.int .i64 0):=(aa kK.out 6).trans rfl
     have KD:wr.cell? ⟨j4,7,none⟩ = some (.slice none 0 0):=(aa kK.out 7).trans rfl
     have KE:wr.cell? ⟨j4,8,none⟩ = some (.slice none 0 0):=(aa kK.out 8).trans rfl
     have Da:=ae kK.out 0
     have Db:=ae kK.out 1
     have Gp:=ae kK.out 2
     have Gq:=ae kK.out 3
     have Gr:=ae kK.out 4
     have Gs:=ae kK.out 5
     have Gt:=ae kK.out 6
     have KF:=ae kK.out 7
     have KG:=ae kK.out 8
     obtain ⟨ahR,ahS,aBn⟩:=Kd.pR sw.out
     subst aBn
     have xA:wr.cell? ⟨mG,0,none⟩ = some (.int .i64 0):=(aa mY.out 0).trans rfl
     have xB:wr.cell? ⟨mG,1,none⟩ = some (.int .i64 0):=(aa mY.out 1).trans rfl
     have xC:wr.cell? ⟨mG,2,none⟩ = some (.int .i64 0):=(aa mY.out 2).trans rfl
     have xD:wr.cell? ⟨mG,3,none⟩ = some (.int .i64 0):=(aa mY.out 3).trans rfl
     have zM:wr.cell? ⟨mG,4,none⟩ = some (.int .i64 0):=(aa mY.out 4).trans rfl
     have zN:wr.cell? ⟨mG,5,none⟩ = some (.int .i64 0):=(aa mY.out 5).trans rfl
     have zO:wr.cell? ⟨mG,6,none⟩ = some (.int .i64 0):=(aa mY.out 6).trans rfl
     have xE:=ae mY.out 0
     have xG:=ae mY.out 1
     have xH:=ae mY.out 2
     have xI:=ae mY.out 3
     have zP:=ae mY.out 4
     have zQ:=ae mY.out 5
     have zR:=ae mY.out 6
     go_wp2
     refine bodyPost_ret (Sr rfl _ _ j4 mG 25 29 #[.int .i64 4,.int .i64 4,.int .i64 1000,.int .i64 10000,.int .i64 1,.int .i64 1,.int .i64 200,.slice YP Bl.length YQ,.slice ahR rz.length ahS] #[.int .i64 300,.int .i64 1000,.int .i64 50,.int .i64 60,.int .i64 5,.int .i64 6,.int .i64 100] (0,0) (0,0) _ _ rfl (by (with_reducible repeat (first|refine ag ?_ _|refine ai ?_|refine af ?_ _));refine az ?_ su.out _;(with_reducible repeat (first|refine ag ?_ _|refine ai ?_|refine af ?_ _));refine az ?_ su.out _;(with_reducible repeat (first|refine ag ?_ _|refine ai ?_|refine af ?_ _));refine az ?_ su.out _;(with_reducible repeat (first|refine ag ?_ _|refine ai ?_|refine af ?_ _));refine az ?_ su.out _;(with_reducible repeat (first|refine ag ?_ _|refine ai ?_|refine af ?_ _));refine az ?_ su.out _;(with_reducible repeat (first|refine ag ?_ _|refine ai ?_|refine af ?_ _));refine az ?_ su.out _;(with_reducible repeat (first|refine ag ?_ _|refine ai ?_|refine af ?_ _));refine az ?_ su.out _;(with_reducible repeat (first|refine ag ?_ _|refine ai ?_|refine af ?_ _));refine aW (cs:=#[.int .i64 4,.int .i64 4,.int .i64 1000,.int .i64 10000,.int .i64 1,.int .i64 1,.int .i64 200,.slice YP Bl.length YQ,.slice none 0 0]) ?_ 8 _ rfl;(with_reducible repeat (first|refine ag ?_ _|refine ai ?_|refine af ?_ _));refine aW (cs:=#[.int .i64 4,.int .i64 4,.int .i64 1000,.int .i64 10000,.int .i64 1,.int .i64 1,.int .i64 200,.slice none 0 0,.slice none 0 0]) ?_ 7 _ rfl;(with_reducible repeat (first|refine ag ?_ _|refine ai ?_|refine af ?_ _));refine aW (cs:=#[.int .i64 4,.int .i64 4,.int .i64 1000,.int .i64 10000,.int .i64 1,.int .i64 1,.int .i64 0,.slice none 0 0,.slice none 0 0]) ?_ 6 _ rfl;(with_reducible repeat (first|refine ag ?_ _|refine ai ?_|refine af ?_ _));refine aW (cs:=#[.int .i64 4,.int .i64 4,.int .i64 1000,.int .i64 10000,.int .i64 1,.int .i64 0,.int .i64 0,.slice none 0 0,.slice none 0 0]) ?_ 5 _ rfl;(with_reducible repeat (first|refine ag ?_ _|refine ai ?_|refine af ?_ _));refine aW (cs:=#[.int .i64 4,.int .i64 4,.int .i64 1000,.int .i64 10000,.int .i64 0,.int .i64 0,.int .i64 0,.slice none 0 0,.slice none 0 0]) ?_ 4 _ rfl;(with_reducible repeat (first|refine ag ?_ _|refine ai ?_|refine af ?_ _));refine aW (cs:=#[.int .i64 4,.int .i64 4,.int .i64 1000,.int .i64 0,.int .i64 0,.int .i64 0,.int .i64 0,.slice none 0 0,.slice none 0 0]) ?_ 3 _ rfl;(with_reducible repeat (first|refine ag ?_ _|refine ai ?_|refine af ?_ _));refine aW (cs:=#[.int .i64 4,.int .i64 4,.int .i64 0,.int .i64 0,.int .i64 0,.int .i64 0,.int .i64 0,.slice none 0 0,.slice none 0 0]) ?_ 2 _ rfl;(with_reducible repeat (first|refine ag ?_ _|refine ai ?_|refine af ?_ _));refine aW (cs:=#[.int .i64 4,.int .i64 0,.int .i64 0,.int .i64 0,.int .i64 0,.int .i64 0,.int .i64 0,.slice none 0 0,.slice none 0 0]) ?_ 1 _ rfl;(with_reducible repeat (first|refine ag ?_ _|refine ai ?_|refine af ?_ _));refine aW (cs:=#[.int .i64 0,.int .i64 0,.int .i64 0,.int .i64 0,.int .i64 0,.int .i64 0,.int .i64 0,.slice none 0 0,.slice none 0 0]) ?_ 0 _ rfl;(with_reducible repeat (first|refine ag ?_ _|refine ai ?_|refine af ?_ _));exact kK.out) Try.underlying25 rfl (by kernel_rfl) rfl (by (with_reducible repeat (first|refine ag ?_ _|refine ai ?_|refine af ?_ _));refine aW (cs:=#[.int .i64 300,.int .i64 1000,.int .i64 50,.int .i64 60,.int .i64 5,.int .i64 6,.int .i64 0]) ?_ 6 _ rfl;(with_reducible repeat (first|refine ag ?_ _|refine ai ?_|refine af ?_ _));refine aW (cs:=#[.int .i64 300,.int .i64 1000,.int .i64 50,.int .i64 60,.int .i64 5,.int .i64 0,.int .i64 0]) ?_ 5 _ rfl;(with_reducible repeat (first|refine ag ?_ _|refine ai ?_|refine af ?_ _));refine aW (cs:=#[.int .i64 300,.int .i64 1000,.int .i64 50,.int .i64 60,.int .i64 0,.int .i64 0,.int .i64 0]) ?_ 4 _ rfl;(with_reducible repeat (first|refine ag ?_ _|refine ai ?_|refine af ?_ _));refine aW (cs:=#[.int .i64 300,.int .i64 1000,.int .i64 50,.int .i64 0,.int .i64 0,.int .i64 0,.int .i64 0]) ?_ 3 _ rfl;(with_reducible repeat (first|refine ag ?_ _|refine ai ?_|refine af ?_ _));refine aW (cs:=#[.int .i64 300,.int .i64 1000,.int .i64 0,.int .i64 0,.int .i64 0,.int .i64 0,.int .i64 0]) ?_ 2 _ rfl;(with_reducible repeat (first|refine ag ?_ _|refine ai ?_|refine af ?_ _));refine aW (cs:=#[.int .i64 300,.int .i64 0,.int .i64 0,.int .i64 0,.int .i64 0,.int .i64 0,.int .i64 0]) ?_ 1 _ rfl;(with_reducible repeat (first|refine ag ?_ _|refine ai ?_|refine af ?_ _));refine aW (cs:=#[.int .i64 0,.int .i64 0,.int .i64 0,.int .i64 0,.int .i64 0,.int .i64 0,.int .i64 0]) ?_ 0 _ rfl;(with_reducible repeat (first|refine ag ?_ _|refine ai ?_|refine af ?_ _));refine az ?_ qd.out _;(with_reducible repeat (first|refine ag ?_ _|refine ai ?_|refine af ?_ _));refine az ?_ qd.out _;(with_reducible repeat (first|refine ag ?_ _|refine ai ?_|refine af ?_ _));refine az ?_ qd.out _;(with_reducible repeat (first|refine ag ?_ _|refine ai ?_|refine af ?_ _));refine az ?_ qd.out _;(with_reducible repeat (first|refine ag ?_ _|refine ai ?_|refine af ?_ _));refine az ?_ qd.out _;(with_reducible repeat (first|refine ag ?_ _|refine ai ?_|refine af ?_ _));refine az ?_ qd.out _;(with_reducible repeat (first|refine ag ?_ _|refine ai ?_|refine af ?_ _));refine az ?_ qd.out _;(with_reducible repeat (first|refine ag ?_ _|refine ai ?_|refine af ?_ _));refine az ?_ qd.out _;(with_reducible repeat (first|refine ag ?_ _|refine ai ?_|refine af ?_ _));refine az ?_ qd.out _;(with_reducible repeat (first|refine ag ?_ _|refine ai ?_|refine af ?_ _));exact mY.out) Try.underlying29 rfl (by kernel_rfl)) rfl ?_
     exact ⟨_,_,by first|rfl|(simp [aQ,aT] <;> rfl)|(simp [*,aQ,aT] <;> rfl),by (with_reducible repeat (first|apply Kd.eD|apply Kd.eF|apply Kd.fF));exact Kd.pU (Kd.fE (p:=⟨mG,6,none⟩) (Kd.fE (p:=⟨mG,5,none⟩) (Kd.fE (p:=⟨mG,4,none⟩) (Kd.fE (p:=⟨mG,3,none⟩) (Kd.fE (p:=⟨mG,2,none⟩) (Kd.fE (p:=⟨mG,1,none⟩) (Kd.fE (p:=⟨mG,0,none⟩) (Kd.fE (p:=⟨j4,8,none⟩) (Kd.fE (p:=⟨j4,7,none⟩) (Kd.fE (p:=⟨j4,6,none⟩) (Kd.fE (p:=⟨j4,5,none⟩) (Kd.fE (p:=⟨j4,4,none⟩) (Kd.fE (p:=⟨j4,3,none⟩) (Kd.fE (p:=⟨j4,2,none⟩) (Kd.fE (p:=⟨j4,1,none⟩) (Kd.fE (p:=⟨j4,0,none⟩) (Kd.nG (Kd.nG zw.out kK.out (by decide)) mY.out (by decide)) (fun _ hk=>hk.1.2) (.int .i64 4)) (fun _ hk=>hk.1.2) (.int .i64 4)) (fun _ hk=>hk.1.2) (.int .i64 1000)) (fun _ hk=>hk.1.2) (.int .i64 10000)) (fun _ hk=>hk.1.2) (.int .i64 1)) (fun _ hk=>hk.1.2) (.int .i64 1)) (fun _ hk=>hk.1.2) (.int .i64 200)) (fun _ hk=>hk.1.2) (.slice YP Bl.length YQ)) (fun _ hk=>hk.1.2) (.slice ahR rz.length ahS)) (fun _ hk=>hk.2) (.int .i64 300)) (fun _ hk=>hk.2) (.int .i64 1000)) (fun _ hk=>hk.2) (.int .i64 50)) (fun _ hk=>hk.2) (.int .i64 60)) (fun _ hk=>hk.2) (.int .i64 5)) (fun _ hk=>hk.2) (.int .i64 6)) (fun _ hk=>hk.2) (.int .i64 100)) (fun _ hk=>trivial),by (with_reducible repeat (first|apply Kd.eD|apply Kd.eF|apply Kd.fF));exact Kd.pU (Kd.fE (p:=⟨mG,6,none⟩) (Kd.fE (p:=⟨mG,5,none⟩) (Kd.fE (p:=⟨mG,4,none⟩) (Kd.fE (p:=⟨mG,3,none⟩) (Kd.fE (p:=⟨mG,2,none⟩) (Kd.fE (p:=⟨mG,1,none⟩) (Kd.fE (p:=⟨mG,0,none⟩) (Kd.fE (p:=⟨j4,8,none⟩) (Kd.fE (p:=⟨j4,7,none⟩) (Kd.fE (p:=⟨j4,6,none⟩) (Kd.fE (p:=⟨j4,5,none⟩) (Kd.fE (p:=⟨j4,4,none⟩) (Kd.fE (p:=⟨j4,3,none⟩) (Kd.fE (p:=⟨j4,2,none⟩) (Kd.fE (p:=⟨j4,1,none⟩) (Kd.fE (p:=⟨j4,0,none⟩) (Kd.nG (Kd.nG sw.out kK.out (by decide)) mY.out (by decide)) (fun _ hk=>hk.1.2) (.int .i64 4)) (fun _ hk=>hk.1.2) (.int .i64 4)) (fun _ hk=>hk.1.2) (.int .i64 1000)) (fun _ hk=>hk.1.2) (.int .i64 10000)) (fun _ hk=>hk.1.2) (.int .i64 1)) (fun _ hk=>hk.1.2) (.int .i64 1)) (fun _ hk=>hk.1.2) (.int .i64 200)) (fun _ hk=>hk.1.2) (.slice YP Bl.length YQ)) (fun _ hk=>hk.1.2) (.slice ahR rz.length ahS)) (fun _ hk=>hk.2) (.int .i64 300)) (fun _ hk=>hk.2) (.int .i64 1000)) (fun _ hk=>hk.2) (.int .i64 50)) (fun _ hk=>hk.2) (.int .i64 60)) (fun _ hk=>hk.2) (.int .i64 5)) (fun _ hk=>hk.2) (.int .i64 6)) (fun _ hk=>hk.2) (.int .i64 100)) (fun _ hk=>trivial),by repeat (first|(with_reducible first|exact HB.out|apply au|apply ah|apply av|refine ak ?_ zu.out|refine ak ?_ DI.out|refine ak ?_ Rk.out)|exact HB.out)⟩
 ·rw [if_neg c1] at H
  exact absurd H (by simp)
end Go.Proofs.Ytmhaiihjfgfaoaa.Pr
end
section
namespace Go.Proofs.Ytmhaiihjfgfaoaa.Pr
open Go.RowKit Go.Proofs.YtmhaiihjfgfaoaaW.PrintWords Go.Proofs.YtmhaiihjfgfaoaaW.PrintLast Go.Proofs.YtmhaiihjfgfaoaaW.PrintMore
attribute [local go_sem] fo fq gu gz fu
set_option linter.unusedVariables false
set_option linter.unusedSimpArgs false
def ku.f (a0:Int) (a1:Int):Option (Int × Int × Int × Int):=some (a0,a0,a1,a1)
set_option maxHeartbeats 8000000 in
set_option maxRecDepth 100000 in
theorem ku.calls (a0:Int) (a1:Int) (r1:Int) (r2:Int) (r3:Int) (r4:Int) (w:World) (h:ku.f a0 a1 = some (r1,r2,r3,r4)):
 Calls Try.prog 62 #[.int .i64 a0,.int .i64 a1] w fun e w'=>e = .returned (.agg #[.int .i64 r1,.int .i64 r2,.int .i64 r3,.int .i64 r4])∧Below w.heap.size w w':=by
 have vT:=Try.underlying31
 have sU:=Try.underlying27
 have HB:=aj.mk (Below.refl w.heap.size w)
 have H:(some (a0,a0,a1,a1)) = some (r1,r2,r3,r4):=h
 clear h
 simp only [Option.some.injEq,Prod.mk.injEq] at H
 obtain ⟨rfl,rfl,rfl,rfl⟩:=H
 go_enter Try.func62,Try.ntmps62
 go_wp2_with (first|((with_reducible refine bu (N:=4) rfl ?_);refine aY ?hg (N:=4) ?hd (cs:=#[.int .i64 0,.int .i64 0,.int .i64 0,.int .i64 0]) (t:=31) ?hr ?_;(case hd=>rfl);(case hg=>rfl);(case hr=>first|(go_simp;done)|(go_simp;rfl));intro LG hg w3 hbox hb;have bB:=aj.mk (ay (by repeat (first|(with_reducible first|exact HB.out|apply au|apply ah|apply av)|exact HB.out)) hb);have bC:=aj.mk (hbox);have bK:=aj.mk ((by rw [hg];exact (aA (by repeat (first|(with_reducible first|exact HB.out|apply au|apply ah|apply av)|exact HB.out))):w.heap.size≤LG));have bP:=aj.mk ((by rw [hg];exact (aA (by repeat (first|(with_reducible first|exact HB.out|apply au|apply ah|apply av)|exact HB.out))):w.heap.size≤LG));clear HB;have HB:=bB;have Gy:=bC;have aD4:=bK;have ao1:=bP;clear bB bC bK bP;clear hb hbox hg;have SB:w3.cell? ⟨LG,0,none⟩ = some (.int .i64 0):=(aa Gy.out 0).trans rfl;have SC:w3.cell? ⟨LG,1,none⟩ = some (.int .i64 0):=(aa Gy.out 1).trans rfl;have Z6:w3.cell? ⟨LG,2,none⟩ = some (.int .i64 0):=(aa Gy.out 2).trans rfl;have Z7:w3.cell? ⟨LG,3,none⟩ = some (.int .i64 0):=(aa Gy.out 3).trans rfl;have SE:=ae Gy.out 0;have SF:=ae Gy.out 1;have Z8:=ae Gy.out 2;have Z9:=ae Gy.out 3))
 refine bodyPost_ret (results_cell_row rfl _ _ LG 31 #[.int .i64 a0,.int .i64 a0,.int .i64 a1,.int .i64 a1] (0,0) _ rfl (by (with_reducible repeat (first|refine ag ?_ _|refine ai ?_|refine af ?_ _));refine aW (cs:=#[.int .i64 a0,.int .i64 a0,.int .i64 a1,.int .i64 0]) ?_ 3 _ rfl;(with_reducible repeat (first|refine ag ?_ _|refine ai ?_|refine af ?_ _));refine aW (cs:=#[.int .i64 a0,.int .i64 a0,.int .i64 0,.int .i64 0]) ?_ 2 _ rfl;(with_reducible repeat (first|refine ag ?_ _|refine ai ?_|refine af ?_ _));refine aW (cs:=#[.int .i64 a0,.int .i64 0,.int .i64 0,.int .i64 0]) ?_ 1 _ rfl;(with_reducible repeat (first|refine ag ?_ _|refine ai ?_|refine af ?_ _));refine aW (cs:=#[.int .i64 0,.int .i64 0,.int .i64 0,.int .i64 0]) ?_ 0 _ rfl;(with_reducible repeat (first|refine ag ?_ _|refine ai ?_|refine af ?_ _));exact Gy.out) Try.underlying31 rfl (by kernel_rfl)) rfl ?_
 exact ⟨by first|rfl|(simp [aQ,aT] <;> rfl)|(simp [*,aQ,aT] <;> rfl),by repeat (first|(with_reducible first|exact HB.out|apply au|apply ah|apply av|refine ak ?_ ao1.out)|exact HB.out)⟩
end Go.Proofs.Ytmhaiihjfgfaoaa.Pr
end
section
namespace Go.Proofs.YtmhaiihjfgfaoaaW.Round
open Go.RowKit Go.Proofs.YtmhaiihjfgfaoaaW.PrintWords Go.Proofs.YtmhaiihjfgfaoaaW.PrintLast
section
variable {P:Program} {n l:Nat}
theorem TC {o:Oper} {a:Act} {w:World} {K:Act→World→Prop} {Q:Exit→Act→World→Prop} (hd:∀ c,o.op≠.defer c) (h:o.wp P a w K Q):o.wpIn (Fence.wide.inRound l) n P a w K Q:=by
 refine ⟨fun _ _=>trivial,?_⟩
 rw [Oper.semAt_eq _ _ _ hd]
 unfold Oper.wp at h
 generalize (execOp a.eval o).run P w = r at h
 cases r with
 |ok x w' =>
  cases x with
  |value v=>exact h
  |skip=>exact h
  |defer d=>exact h
  |enter f args=>exact ⟨fun h0=>(by cases h0),CallsIn.inRound l (callsIn_wide.2 h)⟩
  |row row args=>exact ⟨fun h0=>(by cases h0),fun c cs _=>by obtain ⟨v,w2,r,s⟩:=h c cs;exact ⟨v,w2,r,stepsIn_wide.2 s⟩⟩
  |_=>exact h.elim
 |halt x w' =>
  cases x with
  |panic v=>exact h
  |_=>exact h.elim
def KO (ops:Array Oper):Bool:=ops.all fun o=>match o.op with|.defer _=>false|_=>true
theorem Rn {ops:Array Oper} (h:KO ops = true) {i:Nat} {o:Oper} (ho:ops[i]? = some o):∀ c,o.op≠.defer c:=by
 intro c e
 unfold KO at h
 rw [Array.all_eq_true] at h
 obtain ⟨hi,he⟩:=Array.getElem?_eq_some_iff.1 ho
 have:=h i hi
 rw [he,e] at this
 simp at this
theorem yu {ops:Array Oper} {Q:Exit→Act→World→Prop} {md:Region.Mode} (hn:KO ops = true) (hQ:¬ LetsOut Q):∀ (fuel:Nat) (listed:Array Bool) (a:Act) (w:World),
 wpAny P md ops Q fuel listed a w→wpAnyIn (Fence.wide.inRound l) n P md ops Q fuel listed a w
 |0,_,_,_,h=>h
 |fuel+1,listed,a,w,h=>by
  refine ⟨h.1,fun i hi=>?_⟩
  have h1:=h.2 i hi
  unfold wpOp at h1
  unfold wpOpIn
  cases ho:ops[i]? with
  |none =>
   rw [ho] at h1
   exact yu hn hQ fuel _ _ _ h1
  |some o =>
   rw [ho] at h1
   dsimp only at h1 ⊢
   split at h1
   ·rename_i hw
    rw [if_pos hw]
    rcases h1 with h1|⟨_,h1⟩
    ·exact Oper.wpIn_mono (fun a w h=>yu hn hQ fuel _ a w h) (TC (Rn hn ho) h1)
    ·exact absurd h1 hQ
   ·rename_i hw
    rw [if_neg hw]
    exact ⟨fun _ _=>trivial,yu hn hQ fuel _ _ _ h1⟩
theorem Qp {α:Type} {B:Nat} {Kp:World→World→Prop} {I:List α→World→Prop} {Ix:Code→List α→World→Prop} {xs:List α} {W:World}:¬ LetsOut (ownPostG B Kp I Ix xs W):=fun ⟨_,_,h⟩=>h
theorem Jp {id:Nat} {Q:Exit→Act→World→Prop} (h:¬ LetsOut Q):¬ LetsOut (Exit.inBlock id Q):=fun ⟨a,w,h1⟩=>h ⟨a,w,h1⟩
theorem Qq {K:Act→World→Prop} {Q:Exit→Act→World→Prop} (h:¬ LetsOut Q):¬ LetsOut (Exit.then K Q):=fun ⟨a,w,h1⟩=>h ⟨a,w,h1⟩
theorem aao {ops:Array Oper} {Q:Exit→Act→World→Prop} {S:World→Prop} {ds:List Nat} {id m:Nat} {a:Act} {w:World} (lit:Array Bool) (hd:KO ops = true) (hQ:¬ LetsOut Q) (hm:P.follows .mixedOrders = true) (hn:ops.size = m) (hl:Array.replicate m false = lit) (hS:S w.drew)
 (h:S w.drew→fQ P .any ops Q S ds m lit a w.drew):(Code.region id ops true).wpIn (Fence.wide.inRound l) n P Q a w:=by
 subst hn
 subst hl
 exact wpIn_region_any hm (yu hd hQ _ _ _ _ (yM _ _ _ _ (h hS)))
def agG (K:Act→World→Prop):Exit→Act→World→Prop
 |.normal,a,w=>K a w
 |_,_,_=>False
theorem Ay {Q:Exit→Act→World→Prop} {a:Act} {w:World} (h:Q .normal a w):agG (Q .normal) .normal a w:=h
theorem IE {F:Fence} {c:Code} {Q:Exit→Act→World→Prop} {a:Act} {w:World} (h:c.wpIn F n P (agG (Q .normal)) a w):c.wpIn F n P Q a w:=wpIn_mono h (fun e a w h=>by cases e <;> first|exact h|exact h.elim)
end
end Go.Proofs.YtmhaiihjfgfaoaaW.Round
end
section
namespace Go.Proofs.Ytmhaiihjfgfaoaa.Gl
open Go.RowKit Go.Shelf Go.Proofs.YtmhaiihjfgfaoaaW.PrintWords Go.Proofs.YtmhaiihjfgfaoaaW.PrintLast Go.Proofs.YtmhaiihjfgfaoaaW.PrintMore Go.Proofs.Ytmhaiihjfgfaoaa.Pr Go.Proofs.YtmhaiihjfgfaoaaW.Round
set_option linter.unusedVariables false
set_option linter.unusedSimpArgs false
attribute [local go_sem] fo fq gu gz fu
structure oH where
 nx:Int
 ny:Int
 cell:Int
 slot:Int
 slots:Int
 layers:Int
 most:Int
 shores:List Bool
 currents:List mQ
structure wW where
 speed:Int
 dive:Int
 use:mZ
 drift:mZ
 reserve:Int
def iT (W:World) (b:Nat) (c:Array Value) (t:TypeId):Prop:=W.heap[b]? = some (.cells c t (0,0))
theorem iT.below {W W1:World} {b:Nat} {c:Array Value} {t:TypeId} (h:iT W b c t) (hb:Below W.heap.size W W1):iT W1 b c t:=(hb.block b (Array.getElem?_eq_some_iff.1 h).1).trans h
def vP (v:Value) (w:World) (e:Ending) (w':World):Prop:=e = .returned v∧Below w.heap.size w w'
def ma (W:World) (b:Nat) (s:oH) (v:wW):Prop:=∃ A7 c7 A8 c8,iT W b #[.int .i64 s.nx,.int .i64 s.ny,.int .i64 s.cell,.int .i64 s.slot,.int .i64 s.slots,.int .i64 s.layers,.int .i64 s.most,.slice A7 s.shores.length c7,.slice A8 s.currents.length c8,.int .i64 v.speed,.int .i64 v.dive,.int .i64 v.use.f0,.int .i64 v.use.f1,.int .i64 v.drift.f0,.int .i64 v.drift.f1,.int .i64 v.reserve] 110∧s.shores.length≤c7∧Kd.C Kd.bool W A7 s.shores.length s.shores∧s.currents.length≤c8∧Kd.C xK W A8 s.currents.length s.currents
theorem ma.below {W W1:World} {b:Nat} {s:oH} {v:wW} (h:ma W b s v) (hb:Below W.heap.size W W1):ma W1 b s v:=by
 obtain ⟨A7,c7,A8,c8,h1,h2,h3,h4,h5⟩:=h
 exact ⟨A7,c7,A8,c8,h1.below hb,h2,Kd.dF h3 hb,h4,Kd.dF h5 hb⟩
structure Ar (s:oH):Prop where
 nx:1≤s.nx∧s.nx≤12
 ny:1≤s.ny∧s.ny≤12
 cell:100≤s.cell∧s.cell≤65536
 slot:1≤s.slot∧s.slot≤1048576
 slots:1≤s.slots∧s.slots≤16
 layers:1≤s.layers∧s.layers≤3
 most:0≤s.most∧s.most≤5000
structure MG (v:wW):Prop where
 speed:0≤v.speed∧v.speed≤5000
 dive:1≤v.dive∧v.dive≤131072
theorem Qr {a b c d:Int} (h:a = c) (h2:b = d):Ending.returned (.tuple #[.int .i64 a,.int .i64 b]) = Ending.returned (.tuple #[.int .i64 c,.int .i64 d]):=by rw [h,h2]
theorem iV {a b m n:Int} (h0:0≤a) (h1:a≤m) (h2:0≤b) (h3:b≤n):0≤a*b∧a*b≤m*n :=
 ⟨Int.mul_nonneg h0 h2,Int.le_trans (Int.mul_le_mul_of_nonneg_right h1 h2) (Int.mul_le_mul_of_nonneg_left h3 (Int.le_trans h0 h1))⟩
def ib (s:oH) (x:jI):Bool:=decide (0≤x.f0.f0) && decide (0≤x.f1.f0) && decide (x.f0.f1≤s.nx*s.cell) && decide (x.f1.f1≤s.ny*s.cell)
def nA (s:oH) (t u:Int):Bool:=decide (0≤t) && decide (u≤s.slots*s.slot)
set_option maxRecDepth 100000 in
set_option maxHeartbeats 2000000 in
theorem Gz (b:Nat) (s:oH) (v:wW) (x:jI) (w:World) (hT:ma w b s v) (hS:Ar s):
 Calls Try.prog 68 #[.pointer (some ⟨b,0,none⟩),.agg #[.int .i64 x.f0.f0,.int .i64 x.f0.f1,.int .i64 x.f1.f0,.int .i64 x.f1.f1]] w (vP (.bool (ib s x)) w):=by
 obtain ⟨A7,c7,A8,c8,hB,_⟩:=hT
 have hx:=iV (show 0≤s.nx by have:=hS.nx;omega) hS.nx.2 (show 0≤s.cell by have:=hS.cell;omega) hS.cell.2
 have hy:=iV (show 0≤s.ny by have:=hS.ny;omega) hS.ny.2 (show 0≤s.cell by have:=hS.cell;omega) hS.cell.2
 clear hS
 have hC0:∀ o_,(w.alloc o_).cell? ⟨b,0,none⟩ = some (.int .i64 s.nx):=fun o_=>(aa (af hB o_) 0).trans rfl
 have hC1:∀ o_,(w.alloc o_).cell? ⟨b,1,none⟩ = some (.int .i64 s.ny):=fun o_=>(aa (af hB o_) 1).trans rfl
 have hC2:∀ o_,(w.alloc o_).cell? ⟨b,2,none⟩ = some (.int .i64 s.cell):=fun o_=>(aa (af hB o_) 2).trans rfl
 by_cases q0:0≤x.f0.f0
 ·have YR:decide (0≤x.f0.f0) = true:=decide_eq_true q0
  by_cases q1:0≤x.f1.f0
  ·have q1_:decide (0≤x.f1.f0) = true:=decide_eq_true q1
   by_cases q2:x.f0.f1≤s.nx*s.cell
   ·have q2_:decide (x.f0.f1≤s.nx*s.cell) = true:=decide_eq_true q2
    by_cases q3:x.f1.f1≤s.ny*s.cell
    ·have q3_:decide (x.f1.f1≤s.ny*s.cell) = true:=decide_eq_true q3
     have HR:Hid (ib s x = true):=Lib.hid (by unfold ib;simp only [YR,q1_,q2_,q3_];rfl)
     go_enter Try.func68,Try.ntmps68
     go_wp2
     go_quiet (fail)
     go_wp2
     go_ret
     exact ⟨by rw [HR.out];rfl,by repeat (first|exact Below.refl _ _|apply au|apply av|apply ah)⟩
    ·have q3_:decide (x.f1.f1≤s.ny*s.cell) = false:=decide_eq_false q3
     have HR:Hid (ib s x = false):=Lib.hid (by unfold ib;simp only [YR,q1_,q2_,q3_];rfl)
     go_enter Try.func68,Try.ntmps68
     go_wp2
     go_quiet (fail)
     go_wp2
     go_ret
     exact ⟨by rw [HR.out];rfl,by repeat (first|exact Below.refl _ _|apply au|apply av|apply ah)⟩
   ·have q2_:decide (x.f0.f1≤s.nx*s.cell) = false:=decide_eq_false q2
    have HR:Hid (ib s x = false):=Lib.hid (by unfold ib;simp only [YR,q1_,q2_];rfl)
    go_enter Try.func68,Try.ntmps68
    go_wp2
    go_quiet (fail)
    go_wp2
    go_ret
    exact ⟨by rw [HR.out];rfl,by repeat (first|exact Below.refl _ _|apply au|apply av|apply ah)⟩
  ·have q1_:decide (0≤x.f1.f0) = false:=decide_eq_false q1
   have HR:Hid (ib s x = false):=Lib.hid (by unfold ib;simp only [YR,q1_];rfl)
   go_enter Try.func68,Try.ntmps68
   go_wp2
   go_quiet (fail)
   go_wp2
   go_ret
   exact ⟨by rw [HR.out];rfl,by repeat (first|exact Below.refl _ _|apply au|apply av|apply ah)⟩
 ·have YR:decide (0≤x.f0.f0) = false:=decide_eq_false q0
  have HR:Hid (ib s x = false):=Lib.hid (by unfold ib;simp only [YR];rfl)
  go_enter Try.func68,Try.ntmps68
  go_wp2
  go_quiet (fail)
  go_wp2
  go_ret
  exact ⟨by rw [HR.out];rfl,by repeat (first|exact Below.refl _ _|apply au|apply av|apply ah)⟩
set_option maxRecDepth 100000 in
set_option maxHeartbeats 2000000 in
theorem Nr (b:Nat) (s:oH) (v:wW) (t u:Int) (w:World) (hT:ma w b s v) (hS:Ar s):
 Calls Try.prog 69 #[.pointer (some ⟨b,0,none⟩),.int .i64 t,.int .i64 u] w (vP (.bool (nA s t u)) w):=by
 obtain ⟨A7,c7,A8,c8,hB,_⟩:=hT
 have hx:=iV (show 0≤s.slots by have:=hS.slots;omega) hS.slots.2 (show 0≤s.slot by have:=hS.slot;omega) hS.slot.2
 clear hS
 have hC3:w.cell? ⟨b,3,none⟩ = some (.int .i64 s.slot):=(aa hB 3).trans rfl
 have hC4:w.cell? ⟨b,4,none⟩ = some (.int .i64 s.slots):=(aa hB 4).trans rfl
 by_cases q0:0≤t
 ·have YR:decide (0≤t) = true:=decide_eq_true q0
  by_cases q1:u≤s.slots*s.slot
  ·have q1_:decide (u≤s.slots*s.slot) = true:=decide_eq_true q1
   have HR:Hid (nA s t u = true):=Lib.hid (by unfold nA;simp only [YR,q1_];rfl)
   go_enter Try.func69,Try.ntmps69
   go_wp2
   go_quiet (fail)
   go_wp2
   go_ret
   exact ⟨by rw [HR.out];rfl,by repeat (first|exact Below.refl _ _|apply au|apply av|apply ah)⟩
  ·have q1_:decide (u≤s.slots*s.slot) = false:=decide_eq_false q1
   have HR:Hid (nA s t u = false):=Lib.hid (by unfold nA;simp only [YR,q1_];rfl)
   go_enter Try.func69,Try.ntmps69
   go_wp2
   go_quiet (fail)
   go_wp2
   go_ret
   exact ⟨by rw [HR.out];rfl,by repeat (first|exact Below.refl _ _|apply au|apply av|apply ah)⟩
 ·have YR:decide (0≤t) = false:=decide_eq_false q0
  have HR:Hid (nA s t u = false):=Lib.hid (by unfold nA;simp only [YR];rfl)
  go_enter Try.func69,Try.ntmps69
  go_wp2
  go_quiet (fail)
  go_wp2
  go_ret
  exact ⟨by rw [HR.out];rfl,by repeat (first|exact Below.refl _ _|apply au|apply av|apply ah)⟩
def qE (c lo:Int):Int:=if 0 < lo / c∧lo % c = 0 then lo / c - 1 else lo / c
def qy (c:Int) (a:mZ) (most:Int):Int × Int:=(min (qE c a.f0) (most - 1),min (a.f1 / c) (most - 1))
theorem IG {x c:Int} (h0:0≤x) (hc:1≤c):0≤x / c∧x / c≤x :=
 ⟨Int.ediv_nonneg h0 (by omega),Int.ediv_le_self _ h0⟩
theorem ahT {x c:Int} (hc:1≤c):0≤x % c∧x % c≤c:=by
 have h1:=Int.emod_nonneg x (show c≠0 by omega)
 have h2:=Int.emod_lt_of_pos x (show 0 < c by omega)
 omega
set_option maxRecDepth 100000 in
set_option maxHeartbeats 2000000 in
theorem Jb (b:Nat) (s:oH) (v:wW) (a:mZ) (most:Int) (w:World) (hT:ma w b s v) (hS:Ar s) (h0:0≤a.f0) (h1:a.f0≤1099511627776) (h2:0≤a.f1) (h3:a.f1≤1099511627776) (hm0:1≤most) (hm1:most≤12):
 Calls Try.prog 136 #[.pointer (some ⟨b,0,none⟩),.agg #[.int .i64 a.f0,.int .i64 a.f1],.int .i64 most] w (vP (.tuple #[.int .i64 (qy s.cell a most).1,.int .i64 (qy s.cell a most).2]) w):=by
 obtain ⟨A7,c7,A8,c8,hB,_⟩:=hT
 have hc:=hS.cell
 have hd:=IG h0 (show 1≤s.cell by omega)
 have hd2:=IG h2 (show 1≤s.cell by omega)
 have hr:=ahT (x:=a.f0) (show 1≤s.cell by omega)
 have hne:s.cell≠0:=by omega
 have hbq:(s.cell == 0) = false:=beq_eq_false_iff_ne.2 hne
 clear hS
 have hC2:∀ o_,(w.alloc o_).cell? ⟨b,2,none⟩ = some (.int .i64 s.cell):=fun o_=>(aa (af hB o_) 2).trans rfl
 have e1:Int.tdiv a.f0 s.cell = a.f0 / s.cell:=Int.tdiv_eq_ediv_of_nonneg h0
 have e2:Int.tdiv a.f1 s.cell = a.f1 / s.cell:=Int.tdiv_eq_ediv_of_nonneg h2
 have e3:Int.tmod a.f0 s.cell = a.f0 % s.cell:=Int.tmod_eq_emod_of_nonneg h0
 have HR:Hid (qy s.cell a most = (min (qE s.cell a.f0) (most - 1),min (a.f1 / s.cell) (most - 1))):=Lib.hid rfl
 have HF:Hid (qE s.cell a.f0 = if 0 < a.f0 / s.cell∧a.f0 % s.cell = 0 then a.f0 / s.cell - 1 else a.f0 / s.cell):=Lib.hid rfl
 generalize a.f0 / s.cell = Q at*
 generalize a.f1 / s.cell = R at*
 generalize a.f0 % s.cell = M at*
 by_cases q0:0 < Q
 ·have YR:decide (0 < Q) = true:=decide_eq_true q0
  by_cases q1:M = 0
  ·have q1_:(M == 0) = true:=beq_iff_eq.2 q1
   have HG:=Lib.hid (HF.out.trans (if_pos ⟨q0,q1⟩))
   clear q1 HF
   go_enter Try.func136,Try.ntmps136
   go_wp2
   go_quiet (fail)
   go_wp2
   go_quiet (fail)
   go_wp2
   go_quiet (fail)
   go_wp2
   all_goals (go_ret2;exact ⟨Qr (by rw [HR.out];dsimp only;rw [HG.out];omega) (by rw [HR.out];dsimp only;omega),by repeat (first|exact Below.refl _ _|apply au|apply av|apply ah)⟩)
  ·have q1_:(M == 0) = false:=beq_eq_false_iff_ne.2 q1
   have HG:=Lib.hid (HF.out.trans (if_neg (fun h=>q1 h.2)))
   clear q1 HF
   go_enter Try.func136,Try.ntmps136
   go_wp2
   go_quiet (fail)
   go_wp2
   go_quiet (fail)
   go_wp2
   go_quiet (fail)
   go_wp2
   all_goals (go_ret2;exact ⟨Qr (by rw [HR.out];dsimp only;rw [HG.out];omega) (by rw [HR.out];dsimp only;omega),by repeat (first|exact Below.refl _ _|apply au|apply av|apply ah)⟩)
 ·have YR:decide (0 < Q) = false:=decide_eq_false q0
  have HG:=Lib.hid (HF.out.trans (if_neg (fun h=>q0 h.1)))
  clear HF
  go_enter Try.func136,Try.ntmps136
  go_wp2
  go_quiet (fail)
  go_wp2
  go_quiet (fail)
  go_wp2
  go_quiet (fail)
  go_wp2
  all_goals (go_ret2;exact ⟨Qr (by rw [HR.out];dsimp only;rw [HG.out];omega) (by rw [HR.out];dsimp only;omega),by repeat (first|exact Below.refl _ _|apply au|apply av|apply ah)⟩)
end Go.Proofs.Ytmhaiihjfgfaoaa.Gl
end
