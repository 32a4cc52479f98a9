import Derived.Maps.AppendAt
import Derived.Lib.SliceRun
import Derived.Lib.Walk
import Derived.WalkMore
import Derived.Test.YtmhaiihjfgfaoaaGnGliderNever3
import Derived.Test.YtmhaiihjfgfaoaaGnGliderNever17
import Derived.Test.YtmhaiihjfgfaoaaGnGliderNever22
import Derived.Test.YtmhaiihjfgfaoaaGnGliderNever21
import Derived.Test.YtmhaiihjfgfaoaaGnGliderNever9
set_option linter.unusedSimpArgs false
set_option linter.unusedVariables false
open Go.Value renaming int → Z
open Go.IntKind renaming i64 → ab
open Bool renaming true → ac, false → al
section
namespace Go.Proofs.Ytmhaiihjfgfaoaa.Gl
open Go.RowKit Go.Shelf Go.Proofs.YtmhaiihjfgfaoaaW.PrintWords Go.Proofs.YtmhaiihjfgfaoaaW.PrintLast Go.Proofs.YtmhaiihjfgfaoaaW.PrintMore Go.Proofs.Ytmhaiihjfgfaoaa.Pr Go.Proofs.YtmhaiihjfgfaoaaW.Round
set_option linter.unusedVariables false
set_option linter.unusedSimpArgs false
attribute [local go_sem] dw dx dM dN dz
theorem abO (s:fT) (v:iw):∀ (l:List eQ) (x:cZ) (t n:Int) (out:List cZ),(nW s v l x t n out).1.length≤out.length+l.length
 |[],x,t,n,out=>by unfold nW;simp
 |c :: l,x,t,n,out=>by
  unfold nW
  split
  ·simp
  ·refine Nat.le_trans (abO s v l _ _ _ _) ?_
   simp only [List.length_append,List.length_cons,List.length_nil]
   omega
theorem KN {s:fT} {v:iw} (h:il s v = 0):uq v = true:=by
 unfold il at h
 obtain ⟨_,h2⟩:=mg h
 unfold Fz at h2
 cases hb:uq v with
 |true=>rfl
 |false=>rw [hb] at h2;cases h2
def yP (s:fT) (v:iw) (x:cZ) (t:Int) (e:gm) (l:List eQ) (p:xz):Int :=
 if eB s v x t≠0 then eB s v x t else if ou e.f0 e.f1 0 1073741824 = false then 2 else if vG l s.layers≠0 then vG l s.layers else if sJ p = false then 2
 else if (nW s v l x t 0 []).2.2≠0 then (nW s v l x t 0 []).2.2 else if (Y8 v l e 0 []).2.2≠0 then (Y8 v l e 0 []).2.2 else if BS v.dive p (nW s v l x t 0 []).1 t 0≠2 then 20 else 0
set_option maxRecDepth 100000 in
set_option maxHeartbeats 8000000 in
theorem RX (s:fT) (v:iw) (x:cZ) (t:Int) (ev:gm) (A:Option Addr) (c:Nat) (l:List eQ) (p:xz) (A7 A8:Option Addr) (c7 c8:Nat) (w:World) (h7:s.shores.length≤c7) (Ry:Kd.C Kd.bool w A7 s.shores.length s.shores) (h8:s.currents.length≤c8) (JL:Kd.C Cm w A8 s.currents.length s.currents) (hC:Kd.C TP w A l.length l) (hc:l.length≤c):
 Calls Try.prog 48 #[.agg #[Z ab s.nx,Z ab s.ny,Z ab s.cell,Z ab s.slot,Z ab s.slots,Z ab s.layers,Z ab s.most,.slice A7 s.shores.length c7,.slice A8 s.currents.length c8],.agg #[Z ab v.speed,Z ab v.dive,Z ab v.use.f0,Z ab v.use.f1,Z ab v.drift.f0,Z ab v.drift.f1,Z ab v.reserve],.agg #[Z ab x.f0.f0,Z ab x.f0.f1,Z ab x.f1.f0,Z ab x.f1.f1],Z ab t,.agg #[Z ab ev.f0,Z ab ev.f1],.slice A l.length c,.agg #[Z ab p.f0.f0.f0,Z ab p.f0.f0.f1,Z ab p.f0.f1.f0,Z ab p.f0.f1.f1,Z ab p.f1,Z ab p.f2]] w (oo (Z ab (yP s v x t ev l p)) w):=by
 have Cn:=Try.underlying25
 have xX:=Try.underlying29
 have pG:=Try.underlying31
 have F5:=Try.underlying33
 have mE:=Try.underlying27
 have abI:=Try.underlying81
 have HX:Hid (yP s v x t ev l p = if eB s v x t≠0 then eB s v x t else if ou ev.f0 ev.f1 0 1073741824 = false then 2 else if vG l s.layers≠0 then vG l s.layers else if sJ p = false then 2
  else if (nW s v l x t 0 []).2.2≠0 then (nW s v l x t 0 []).2.2 else if (Y8 v l ev 0 []).2.2≠0 then (Y8 v l ev 0 []).2.2 else if BS v.dive p (nW s v l x t 0 []).1 t 0≠2 then 20 else 0):=Lib.hid rfl
 generalize yP s v x t ev l p = RR at*
 go_enter Try.func48,Try.ntmps48
 go_wp2_with fail
 have m7:aZ (((((w.alloc (.cells #[Z ab s.nx,Z ab s.ny,Z ab s.cell,Z ab s.slot,Z ab s.slots,Z ab s.layers,Z ab s.most,.slice A7 s.shores.length c7,.slice A8 s.currents.length c8] 25)).alloc (.cells #[Z ab v.speed,Z ab v.dive,Z ab v.use.f0,Z ab v.use.f1,Z ab v.drift.f0,Z ab v.drift.f1,Z ab v.reserve] 29)).alloc (.cells #[Z ab x.f0.f0,Z ab x.f0.f1,Z ab x.f1.f0,Z ab x.f1.f1] 31)).alloc (.cells #[Z ab ev.f0,Z ab ev.f1] 27)).alloc (.cells #[Z ab p.f0.f0.f0,Z ab p.f0.f0.f1,Z ab p.f0.f1.f0,Z ab p.f0.f1.f1,Z ab p.f1,Z ab p.f2] 81)) (w.heap.size) #[Z ab s.nx,Z ab s.ny,Z ab s.cell,Z ab s.slot,Z ab s.slots,Z ab s.layers,Z ab s.most,.slice A7 s.shores.length c7,.slice A8 s.currents.length c8] 25:=(aa (aa (aa (aa RI _) _) _) _)
 have m8:aZ (((((w.alloc (.cells #[Z ab s.nx,Z ab s.ny,Z ab s.cell,Z ab s.slot,Z ab s.slots,Z ab s.layers,Z ab s.most,.slice A7 s.shores.length c7,.slice A8 s.currents.length c8] 25)).alloc (.cells #[Z ab v.speed,Z ab v.dive,Z ab v.use.f0,Z ab v.use.f1,Z ab v.drift.f0,Z ab v.drift.f1,Z ab v.reserve] 29)).alloc (.cells #[Z ab x.f0.f0,Z ab x.f0.f1,Z ab x.f1.f0,Z ab x.f1.f1] 31)).alloc (.cells #[Z ab ev.f0,Z ab ev.f1] 27)).alloc (.cells #[Z ab p.f0.f0.f0,Z ab p.f0.f0.f1,Z ab p.f0.f1.f0,Z ab p.f0.f1.f1,Z ab p.f1,Z ab p.f2] 81)) (w.heap.size+1) #[Z ab v.speed,Z ab v.dive,Z ab v.use.f0,Z ab v.use.f1,Z ab v.drift.f0,Z ab v.drift.f1,Z ab v.reserve] 29:=(aa (aa (aa TS _) _) _)
 have m9:aZ (((((w.alloc (.cells #[Z ab s.nx,Z ab s.ny,Z ab s.cell,Z ab s.slot,Z ab s.slots,Z ab s.layers,Z ab s.most,.slice A7 s.shores.length c7,.slice A8 s.currents.length c8] 25)).alloc (.cells #[Z ab v.speed,Z ab v.dive,Z ab v.use.f0,Z ab v.use.f1,Z ab v.drift.f0,Z ab v.drift.f1,Z ab v.reserve] 29)).alloc (.cells #[Z ab x.f0.f0,Z ab x.f0.f1,Z ab x.f1.f0,Z ab x.f1.f1] 31)).alloc (.cells #[Z ab ev.f0,Z ab ev.f1] 27)).alloc (.cells #[Z ab p.f0.f0.f0,Z ab p.f0.f0.f1,Z ab p.f0.f1.f0,Z ab p.f0.f1.f1,Z ab p.f1,Z ab p.f2] 81)) (w.heap.size+1+1) #[Z ab x.f0.f0,Z ab x.f0.f1,Z ab x.f1.f0,Z ab x.f1.f1] 31:=(aa (aa aby _) _)
 have m11:aZ (((((w.alloc (.cells #[Z ab s.nx,Z ab s.ny,Z ab s.cell,Z ab s.slot,Z ab s.slots,Z ab s.layers,Z ab s.most,.slice A7 s.shores.length c7,.slice A8 s.currents.length c8] 25)).alloc (.cells #[Z ab v.speed,Z ab v.dive,Z ab v.use.f0,Z ab v.use.f1,Z ab v.drift.f0,Z ab v.drift.f1,Z ab v.reserve] 29)).alloc (.cells #[Z ab x.f0.f0,Z ab x.f0.f1,Z ab x.f1.f0,Z ab x.f1.f1] 31)).alloc (.cells #[Z ab ev.f0,Z ab ev.f1] 27)).alloc (.cells #[Z ab p.f0.f0.f0,Z ab p.f0.f0.f1,Z ab p.f0.f1.f0,Z ab p.f0.f1.f1,Z ab p.f1,Z ab p.f2] 81)) (w.heap.size+1+1+1) #[Z ab ev.f0,Z ab ev.f1] 27:=(aa ast _)
 have m13:aZ (((((w.alloc (.cells #[Z ab s.nx,Z ab s.ny,Z ab s.cell,Z ab s.slot,Z ab s.slots,Z ab s.layers,Z ab s.most,.slice A7 s.shores.length c7,.slice A8 s.currents.length c8] 25)).alloc (.cells #[Z ab v.speed,Z ab v.dive,Z ab v.use.f0,Z ab v.use.f1,Z ab v.drift.f0,Z ab v.drift.f1,Z ab v.reserve] 29)).alloc (.cells #[Z ab x.f0.f0,Z ab x.f0.f1,Z ab x.f1.f0,Z ab x.f1.f1] 31)).alloc (.cells #[Z ab ev.f0,Z ab ev.f1] 27)).alloc (.cells #[Z ab p.f0.f0.f0,Z ab p.f0.f0.f1,Z ab p.f0.f1.f0,Z ab p.f0.f1.f1,Z ab p.f1,Z ab p.f2] 81)) (w.heap.size+1+1+1+1) #[Z ab p.f0.f0.f0,Z ab p.f0.f0.f1,Z ab p.f0.f1.f0,Z ab p.f0.f1.f1,Z ab p.f1,Z ab p.f2] 81:=asu
 have mB:Below w.heap.size w (((((w.alloc (.cells #[Z ab s.nx,Z ab s.ny,Z ab s.cell,Z ab s.slot,Z ab s.slots,Z ab s.layers,Z ab s.most,.slice A7 s.shores.length c7,.slice A8 s.currents.length c8] 25)).alloc (.cells #[Z ab v.speed,Z ab v.dive,Z ab v.use.f0,Z ab v.use.f1,Z ab v.drift.f0,Z ab v.drift.f1,Z ab v.reserve] 29)).alloc (.cells #[Z ab x.f0.f0,Z ab x.f0.f1,Z ab x.f1.f0,Z ab x.f1.f1] 31)).alloc (.cells #[Z ab ev.f0,Z ab ev.f1] 27)).alloc (.cells #[Z ab p.f0.f0.f0,Z ab p.f0.f0.f1,Z ab p.f0.f1.f0,Z ab p.f0.f1.f1,Z ab p.f1,Z ab p.f2] 81)):=(ai (ai (ai (ai (ai (Below.refl w.heap.size w) _) _) _) _) _)
 have dU:w.heap.size≤w.heap.size:=Nat.le_refl _
 generalize jq:(((((w.alloc (.cells #[Z ab s.nx,Z ab s.ny,Z ab s.cell,Z ab s.slot,Z ab s.slots,Z ab s.layers,Z ab s.most,.slice A7 s.shores.length c7,.slice A8 s.currents.length c8] 25)).alloc (.cells #[Z ab v.speed,Z ab v.dive,Z ab v.use.f0,Z ab v.use.f1,Z ab v.drift.f0,Z ab v.drift.f1,Z ab v.reserve] 29)).alloc (.cells #[Z ab x.f0.f0,Z ab x.f0.f1,Z ab x.f1.f0,Z ab x.f1.f1] 31)).alloc (.cells #[Z ab ev.f0,Z ab ev.f1] 27)).alloc (.cells #[Z ab p.f0.f0.f0,Z ab p.f0.f0.f1,Z ab p.f0.f1.f0,Z ab p.f0.f1.f1,Z ab p.f1,Z ab p.f2] 81)) = W1 at m7 m8 m9 m11 m13 mB ⊢
 clear jq
 generalize hg7:w.heap.size = g7 at m7 m8 m9 m11 m13 ⊢
 have hG7:w.heap.size≤g7:=by omega
 generalize hg8:g7+1 = g8 at m8 m9 m11 m13 ⊢
 have oq:g7≠g8:=by omega
 have iY:g8≠g7:=oq.symm
 have Sa:w.heap.size≤g8:=by omega
 generalize hg9:g8+1 = g9 at m9 m11 m13 ⊢
 have xS:g7≠g9:=by omega
 have KO:g8≠g9:=by omega
 have PT:g9≠g7:=xS.symm
 have abP:g9≠g8:=KO.symm
 have hG9:w.heap.size≤g9:=by omega
 generalize Uu:g9+1 = g11 at m11 m13 ⊢
 have nN:g7≠g11:=by omega
 have Aq:g8≠g11:=by omega
 have qy:g9≠g11:=by omega
 have qJ:g11≠g7:=nN.symm
 have wP:g11≠g8:=Aq.symm
 have ad7:g11≠g9:=qy.symm
 have PU:w.heap.size≤g11:=by omega
 generalize Us:g11+1 = g13 at m13 ⊢
 have alF:g7≠g13:=by omega
 have alG:g8≠g13:=by omega
 have alH:g9≠g13:=by omega
 have oF:g11≠g13:=by omega
 have awS:g13≠g7:=alF.symm
 have awT:g13≠g8:=alG.symm
 have awU:g13≠g9:=alH.symm
 have YQ:g13≠g11:=oF.symm
 have Kk:w.heap.size≤g13:=by omega
 clear dU
 try clear Us
 try clear Uu
 try clear hg9
 try clear hg8
 try clear hg7
 have lC:w.heap.size≤W1.heap.size:=mB.size
 have hbg:eB s v x t = if il s v≠0 then il s v else ow x t:=rfl
 have HBG:=Lib.hid hbg
 clear hbg
 obtain ⟨zP,zQ,Co,Cq,Vl,Vm,Vn,ah1,ah2⟩:=EW m7
 obtain ⟨yz,F7,JW,JX,abQ,abR,abS⟩:=vg m8
 obtain ⟨JS,JU,Yn,Yo⟩:=mH m9
 go_wp2_with fail
 clear zP zQ Co Cq Vl Vm Vn ah1 ah2 yz F7 JW JX abQ abR abS JS JU Yn Yo
 have hcon:=J2 s v x t A7 A8 c7 c8 W1 h7 (Kd.bD Ry mB) h8 (Kd.bD JL mB)
 (with_reducible refine hcon.mono ?_)
 clear hcon
 rintro e W2 ⟨ptr,rfl,hb,hpt⟩
 replace m7:=af m7 hb
 replace m8:=af m8 hb
 replace m9:=af m9 hb
 replace m11:=af m11 hb
 replace m13:=af m13 hb
 replace mB:=aJ mB hb
 clear hb
 have mY:w.heap.size≤W2.heap.size:=mB.size
 generalize Sk:eB s v x t = E0 at*
 have HE0:=Lib.hid Sk
 clear Sk
 by_cases h0:E0 = 0
 case neg =>
  have HZ:=Lib.hid (HX.out.trans (if_pos h0))
  have hd1:(E0 == 0) = false:=beq_eq_false_iff_ne.2 h0
  have hd2:(E0 != 0) = true:=by rw [bne,hd1];rfl
  clear h0 hpt HX
  go_wp2
  go_ret
  exact ⟨jD,mB⟩
 case pos =>
  have RS:=Lib.hid (HX.out.trans (if_neg (fun h=>h h0)))
  clear HX
  have hb0:=HBG.out.symm.trans h0
  obtain ⟨ht0,hp0⟩:=mg hb0
  obtain ⟨hbx,J3,P9⟩:=yB hp0
  obtain ⟨hSV,hVN⟩:=ve ht0
  have HVB:=Lib.hid (KN ht0)
  rcases hpt with ⟨_,g,rfl,hg,hT⟩|⟨hbad,_⟩
  case inr=>exact absurd ht0 hbad
  case inl =>
   subst h0
   clear hb0 ht0 hp0 HBG
   have HTT:=Lib.hid (And.intro J3 P9)
   clear J3 P9
   obtain ⟨CK,Qu⟩:=F8 m11
   go_wp2_with fail
   clear CK Qu
   have hcon:=ME ev.f0 ev.f1 0 1073741824 W2
   (with_reducible refine hcon.mono ?_)
   clear hcon
   rintro e W3 ⟨rfl,hb⟩
   replace hT:=hT.below hb
   replace m7:=af m7 hb
   replace m8:=af m8 hb
   replace m9:=af m9 hb
   replace m11:=af m11 hb
   replace m13:=af m13 hb
   replace mB:=aJ mB hb
   clear hb
   cases hbn:ou ev.f0 ev.f1 0 1073741824 with
   |false =>
    have HZ:=Lib.hid (RS.out.trans (if_pos hbn))
    clear hbn RS
    go_wp2
    go_ret
    exact ⟨jD,mB⟩
   |true =>
    have YZ:=Lib.hid (RS.out.trans (if_neg (by rw [hbn];decide)))
    have HBN:=Lib.hid hbn
    clear RS hbn
    obtain ⟨zP,zQ,Co,Cq,Vl,Vm,Vn,ah1,ah2⟩:=EW m7
    go_wp2_with fail
    clear zP zQ Co Cq Vl Vm Vn ah1 ah2
    have hcon:=adw A c l s.layers W3 (Kd.bD hC mB) hc
    (with_reducible refine hcon.mono ?_)
    clear hcon
    rintro e W4 ⟨rfl,hb⟩
    replace hT:=hT.below hb
    replace m7:=af m7 hb
    replace m8:=af m8 hb
    replace m9:=af m9 hb
    replace m11:=af m11 hb
    replace m13:=af m13 hb
    replace mB:=aJ mB hb
    clear hb
    have hc1:=fun h=>adz (l:=l) (layers:=s.layers) h
    generalize vG l s.layers = E1 at*
    by_cases h1:E1 = 0
    case neg =>
     have HZ:=Lib.hid (YZ.out.trans (if_pos h1))
     have hd1:(E1 == 0) = false:=beq_eq_false_iff_ne.2 h1
     have hd2:(E1 != 0) = true:=by rw [bne,hd1];rfl
     clear h1 hc1 YZ
     go_wp2
     go_ret
     exact ⟨jD,mB⟩
    case pos =>
     obtain ⟨ahI,hall⟩:=hc1 h1
     have HX4:=Lib.hid (YZ.out.trans (if_neg (fun h=>h h1)))
     clear YZ hc1
     subst h1
     have HLA:=Lib.hid (And.intro ahI hall)
     clear ahI hall
     obtain ⟨Gj,Gm,Gn,Gp,ah3,ah4⟩:=Y6 m13
     go_wp2_with fail
     clear Gj Gm Gn Gp ah3 ah4
     have hcon:=ib.calls 4 p.f0.f0.f0 p.f0.f0.f1 p.f0.f1.f0 p.f0.f1.f1 p.f1 p.f2 _ W4 (KD p)
     (with_reducible refine hcon.mono ?_)
     clear hcon
     rintro e W5 ⟨rfl,hb⟩
     replace hT:=hT.below hb
     replace m7:=af m7 hb
     replace m8:=af m8 hb
     replace m9:=af m9 hb
     replace m11:=af m11 hb
     replace m13:=af m13 hb
     replace mB:=aJ mB hb
     clear hb
     cases hpk:sJ p with
     |false =>
      have HZ:=Lib.hid (HX4.out.trans (if_pos hpk))
      clear hpk HX4
      go_wp2
      go_ret
      exact ⟨jD,mB⟩
     |true =>
      have HX5:=Lib.hid (HX4.out.trans (if_neg (by rw [hpk];decide)))
      clear HX4 hpk
      obtain ⟨JS,JU,Yn,Yo⟩:=mH m9
      go_wp2_with fail
      clear JS JU Yn Yo
      have hcon:=akX g s v x t A c l W5 hT hSV hVN hbx HTT.out.1 HTT.out.2 (Kd.bD hC mB) hc HLA.out.1 HLA.out.2
      (with_reducible refine hcon.mono ?_)
      clear hcon
      rintro e W6 ⟨Ur,rfl,HR,hb⟩
      have hs5:w.heap.size≤W5.heap.size:=mB.size
      replace hT:=hT.below hb
      replace m7:=af m7 hb
      replace m8:=af m8 hb
      replace m9:=af m9 hb
      replace m11:=af m11 hb
      replace m13:=af m13 hb
      replace mB:=aJ mB hb
      clear hb
      replace HR:=Kd.jS HR hs5
      clear hs5
      have hrl:Hid ((nW s v l x t 0 []).1.length≤64):=Lib.hid (Nat.le_trans (abO s v l x t 0 []) (by have:=HLA.out.1;simp only [List.length_nil];omega))
      generalize nW s v l x t 0 [] = R at*
      obtain ⟨R1,R2,R3⟩:=R
      dsimp only at HR hrl HX5 ⊢
      obtain ⟨Ao,co,rfl⟩:=Kd.jT HR
      by_cases h2:R3 = 0
      case neg =>
       have HZ:=Lib.hid (HX5.out.trans (if_pos h2))
       have hd1:(R3 == 0) = false:=beq_eq_false_iff_ne.2 h2
       have hd2:(R3 != 0) = true:=by rw [bne,hd1];rfl
       clear h2 HX5
       go_wp2
       go_ret
       exact ⟨jD,mB⟩
      case pos =>
       have HX6:=Lib.hid (HX5.out.trans (if_neg (fun h=>h h2)))
       clear HX5
       subst h2
       obtain ⟨yz,F7,JW,JX,abQ,abR,abS⟩:=vg m8
       obtain ⟨CK,Qu⟩:=F8 m11
       go_wp2_with fail
       clear yz F7 JW JX abQ abR abS CK Qu
       have hcon:=abN v ev A c l W6 HVB.out HBN.out (Kd.bD hC mB) hc HLA.out.1
       (with_reducible refine hcon.mono ?_)
       clear hcon
       rintro e W7 ⟨v1_,rfl,HE,hb⟩
       clear HE
       replace HR:=Kd.fZ HR hb
       replace m7:=af m7 hb
       replace m8:=af m8 hb
       replace m9:=af m9 hb
       replace m11:=af m11 hb
       replace m13:=af m13 hb
       replace mB:=aJ mB hb
       clear hb
       generalize Y8 v l ev 0 [] = Q at*
       obtain ⟨Q1,Q2,Q3⟩:=Q
       dsimp only at HX6 ⊢
       by_cases h3:Q3 = 0
       case neg =>
        have HZ:=Lib.hid (HX6.out.trans (if_pos h3))
        have hd1:(Q3 == 0) = false:=beq_eq_false_iff_ne.2 h3
        have hd2:(Q3 != 0) = true:=by rw [bne,hd1];rfl
        clear h3 HX6
        go_wp2
        go_ret
        exact ⟨jD,mB⟩
       case pos =>
        have HX7:=Lib.hid (HX6.out.trans (if_neg (fun h=>h h3)))
        clear HX6
        subst h3
        obtain ⟨yz,F7,JW,JX,abQ,abR,abS⟩:=vg m8
        obtain ⟨Gj,Gm,Gn,Gp,ah3,ah4⟩:=Y6 m13
        go_wp2_with fail
        clear yz F7 JW JX abQ abR abS Gj Gm Gn Gp ah3 ah4
        have hcon:=cz.calls 65 v.speed v.dive v.use.f0 v.use.f1 v.drift.f0 v.drift.f1 v.reserve t Ao co R1 p.f0.f0.f0 p.f0.f0.f1 p.f0.f1.f0 p.f0.f1.f1 p.f1 p.f2 _ W7 (Kd.dO HR).2.2 (Kd.dO HR).2.1 (ahU v HVB.out p R1 hrl.out t HTT.out 65 (by have:=hrl.out;omega))
        (with_reducible refine hcon.mono ?_)
        clear hcon
        rintro e W8 ⟨rfl,hb⟩
        replace m7:=af m7 hb
        replace m8:=af m8 hb
        replace m9:=af m9 hb
        replace m11:=af m11 hb
        replace m13:=af m13 hb
        replace mB:=aJ mB hb
        clear hb
        generalize BS v.dive p R1 t 0 = F at*
        by_cases h4:F = 2
        case neg =>
         have HZ:=Lib.hid (HX7.out.trans (if_pos h4))
         have hd1:(F == 2) = false:=beq_eq_false_iff_ne.2 h4
         have hd2:(F != 2) = true:=by rw [bne,hd1];rfl
         clear h4 HX7
         go_wp2
         go_ret
         exact ⟨jD,mB⟩
        case pos =>
         have HZ:=Lib.hid (HX7.out.trans (if_neg (fun h=>h h4)))
         subst h4
         clear HX7
         go_wp2
         go_ret
         exact ⟨jD,mB⟩
end Go.Proofs.Ytmhaiihjfgfaoaa.Gl
end
section
namespace Go.Proofs.Ytmhaiihjfgfaoaa.Pr
open Go.RowKit Go.Proofs.YtmhaiihjfgfaoaaW.PrintWords Go.Proofs.YtmhaiihjfgfaoaaW.PrintLast Go.Proofs.YtmhaiihjfgfaoaaW.PrintMore Go.Proofs.Ytmhaiihjfgfaoaa.Gl
set_option linter.unusedVariables false
def jE.f (ax:Int) (av:Int) (aH:Int) (aG:Int) (aQ:Int) (aN:Int) (aM:Int) (bn:List Bool) (aW:List (qW)) (bq:Int) (bz:Int) (bY:Int) (bX:Int) (dB:Int) (dC:Int) (dD:Int) (dh:Int) (di:Int) (dm:Int) (dn:Int) (a3:Int) (fA:Int) (fB:Int) (l5:List (eQ)) (ah6:Int) (ah7:Int) (ah8:Int) (ah9:Int) (aia:Int) (aib:Int):Option (Int):=some (yP ⟨ax,av,aH,aG,aQ,aN,aM,bn,aW⟩ ⟨bq,bz,⟨bY,bX⟩,⟨dB,dC⟩,dD⟩ ⟨⟨dh,di⟩,⟨dm,dn⟩⟩ a3 ⟨fA,fB⟩ l5 ⟨⟨⟨ah6,ah7⟩,⟨ah8,ah9⟩⟩,aia,aib⟩)
theorem jE.calls (ax:Int) (av:Int) (aH:Int) (aG:Int) (aQ:Int) (aN:Int) (aM:Int) (fJ:Option Addr) (fK:Nat) (bn:List Bool) (fU:Option Addr) (fM:Nat) (aW:List (qW)) (bq:Int) (bz:Int) (bY:Int) (bX:Int) (dB:Int) (dC:Int) (dD:Int) (dh:Int) (di:Int) (dm:Int) (dn:Int) (a3:Int) (fA:Int) (fB:Int) (A5:Option Addr) (c5:Nat) (l5:List (eQ)) (ah6:Int) (ah7:Int) (ah8:Int) (ah9:Int) (aia:Int) (aib:Int) (r:Int) (w:World) (nP:Kd.C Kd.bool w fJ bn.length bn) (nQ:bn.length≤fK) (nR:Kd.C Cm w fU aW.length aW) (nS:aW.length≤fM) (hr5:Kd.C TP w A5 l5.length l5) (hc5:l5.length≤c5) (h:jE.f ax av aH aG aQ aN aM bn aW bq bz bY bX dB dC dD dh di dm dn a3 fA fB l5 ah6 ah7 ah8 ah9 aia aib = some r):
 Calls Try.prog 48 #[.agg #[Z ab ax,Z ab av,Z ab aH,Z ab aG,Z ab aQ,Z ab aN,Z ab aM,.slice fJ bn.length fK,.slice fU aW.length fM],.agg #[Z ab bq,Z ab bz,Z ab bY,Z ab bX,Z ab dB,Z ab dC,Z ab dD],.agg #[Z ab dh,Z ab di,Z ab dm,Z ab dn],Z ab a3,.agg #[Z ab fA,Z ab fB],.slice A5 l5.length c5,.agg #[Z ab ah6,Z ab ah7,Z ab ah8,Z ab ah9,Z ab aia,Z ab aib]] w fun e w'=>e = .returned (Z ab r)∧Below w.heap.size w w':=by
 cases h
 exact RX ⟨ax,av,aH,aG,aQ,aN,aM,bn,aW⟩ ⟨bq,bz,⟨bY,bX⟩,⟨dB,dC⟩,dD⟩ ⟨⟨dh,di⟩,⟨dm,dn⟩⟩ a3 ⟨fA,fB⟩ A5 c5 l5 ⟨⟨⟨ah6,ah7⟩,⟨ah8,ah9⟩⟩,aia,aib⟩ fJ fU fK fM w nQ nP nS nR hr5 hc5
end Go.Proofs.Ytmhaiihjfgfaoaa.Pr
end
section
namespace Go.Proofs.Ytmhaiihjfgfaoaa.Gl
open Go.RowKit Go.Shelf Go.Proofs.YtmhaiihjfgfaoaaW.PrintWords Go.Proofs.YtmhaiihjfgfaoaaW.PrintLast Go.Proofs.YtmhaiihjfgfaoaaW.PrintMore Go.Proofs.Ytmhaiihjfgfaoaa.Pr Go.Proofs.YtmhaiihjfgfaoaaW.Round
set_option linter.unusedVariables false
set_option linter.unusedSimpArgs false
attribute [local go_sem] dw dx dM dN dz
def GZ (l:List eQ):List Value:=l.flatMap fun c=>[Z ab c.f0,Z ab c.f1]
theorem aic (l:List eQ):(GZ l).length = l.length*2:=by
 induction l with
 |nil=>rfl
 |cons c l ih=>unfold GZ at*;rw [List.flatMap_cons,List.length_append,ih];simp;omega
theorem yQ (l:List eQ) (c:eQ):GZ (l++[c]) = GZ l++[Z ab c.f0,Z ab c.f1]:=by unfold GZ;simp
theorem Qv (l:List eQ):∀ u ∈ GZ l,u.oneCell' = true:=by
 intro u hu
 obtain ⟨c,_,hc⟩:=List.mem_flatMap.1 hu
 simp only [List.mem_cons,List.not_mem_nil,or_false] at hc
 rcases hc with rfl|rfl <;> rfl
theorem agb (w:World) (base:Nat) (ok:Nat→Prop) (l:List eQ):oM (TP.M w base ok) 2 l (GZ l):=by
 suffices h:∀ (a b:List eQ),oM (TP.M w base ok) 2 a (GZ a)→oM (TP.M w base ok) 2 (a++b) (GZ (a++b)) by
  have:=h [] l (oM.none _ _)
  rwa [List.nil_append] at this
 intro a b
 induction b generalizing a with
 |nil=>intro h;rwa [List.append_nil]
 |cons c b ih =>
  intro h
  have h2:=ih (a++[c]) (by rw [yQ];exact h.snoc (alI _ _ _ c) rfl)
  rwa [List.append_assoc,List.singleton_append] at h2
def bN (W:World) (base:Nat) (v:Value) (l:List eQ):Prop:=W.ownsRow base 33 2 v l.length (GZ l)
theorem bN.toR {W:World} {base:Nat} {v:Value} {l:List eQ} (h:bN W base v l):Kd.R TP 33 W base (fun _=>True) v l:=⟨fun _ _=>trivial,GZ l,h,agb _ _ _ _⟩
theorem bN.nil (W:World) (base:Nat):bN W base (.slice none 0 0) []:=World.ownsRow_nil _ _ _ _
theorem bN.move {W W1:World} {base:Nat} {v:Value} {l:List eQ} (h:bN W base v l) (hm:∀ k,v.ownBlock = some k→W1.heap[k]? = W.heap[k]?):bN W1 base v l:=X8 h hm
theorem bN.lt {W:World} {base:Nat} {v:Value} {l:List eQ} (h:bN W base v l) (k:Nat) (hk:v.ownBlock = some k):base≤k∧k < W.heap.size:=World.ownsRow.lt h k hk
theorem bN.below {W W1:World} {base:Nat} {v:Value} {l:List eQ} (h:bN W base v l) (hb:Below W.heap.size W W1):bN W1 base v l:=h.move (fun k hk=>hb.block k (h.lt k hk).2)
theorem bN.ne {W:World} {base:Nat} {v:Value} {l:List eQ} (h:bN W base v l) {g:Nat} {cs:Array Value} {t:TypeId} (hg:aZ W g cs t) (ht:t≠33):some g≠v.ownBlock:=own_ne h hg (fun e=>ht e.symm)
theorem bN.lower {W:World} {base base':Nat} {v:Value} {l:List eQ} (h:bN W base v l) (hb:base'≤base):bN W base' v l:=Pv h hb
theorem bN.slice {W:World} {base:Nat} {v:Value} {l:List eQ} (h:bN W base v l):∃ A c,v = .slice A l.length c:=by
 rcases h.2 with ⟨rfl,h0⟩|⟨g,cap,cur,rfl,_⟩
 ·exact ⟨none,0,by rw [h0]⟩
 ·exact ⟨_,_,rfl⟩
theorem bN.back {W:World} {base g cap n:Nat} {xs ys:List Value} {e:TypeId} (h:W.ownsRow base e 2 (.slice (some ⟨g,0,none⟩) (n+1) cap) (n+1) (xs++ys)) (hx:xs.length = n*2):W.ownsRow base e 2 (.slice (some ⟨g,0,none⟩) n cap) n xs:=by
 rcases h.2 with ⟨h1,_⟩|⟨g',cap',cur,hv,hb,hg,hn,hm,hs,ht⟩
 ·cases h1
 ·injection hv with h1 h2 h3
  injection h1 with h1
  injection h1 with h1
  subst h1
  subst h3
  refine ⟨hx,.inr ⟨g,cap,cur,rfl,hb,hg,by omega,hm,hs,?_⟩⟩
  have h4:=congrArg (List.take (n*2)) ht
  rw [List.take_take,show min (n*2) ((n+1)*2) = n*2 by omega,← hx,List.take_left] at h4
  rw [← hx]
  exact h4
section
variable {P:Program} {b:Frame} {a:Act} {k:List Item} {cs:List Frame} {w:World} {Q:Exit→Act→World→Prop} {F:Fence} {n:Nat}
theorem qc {c:Code}:step P (lone (b.atR a (.code (.scope c) :: k)) cs w) = .next (lone (b.atR a (.code c :: .inScope c :: k)) cs w) :=
 step_lone_go (by simp [stepG,stepG.exec,Frame.atR])
theorem RY {c:Code}:step P (lone (b.atR a (.inScope c :: k)) cs w) = .next (lone (b.atR a k) cs w) :=
 step_lone_go (by simp [stepG,stepG.exec,Frame.atR])
theorem abT {c:Code} (h:c.wpIn F n P (Exit.noGoto Q) a w):(Code.scope c).wpIn F n P Q a w:=by
 intro b k cs hro hb hr
 have h0:(lone (b.atR a (.code (.scope c) :: k)) cs w).fenced P F:=fenced_calm hb hr rfl
 obtain ⟨e,a₁,w₁,hq,harr⟩:=h b (.inScope c :: k) cs hro hb hr
 cases e with
 |normal=>exact ⟨.normal,a₁,w₁,hq,.head h0 qc (StepsIn.trans harr (.one (fenced_calm hb hr rfl) RY))⟩
 |exit id =>
  have hx:exitTo id (.inScope c :: k) = exitTo id k:=by simp [exitTo]
  exact ⟨.exit id,a₁,w₁,hq,fun k' hk=>.head h0 qc (harr.1 k' (by rw [hx];exact hk)),
   fun hr' hk=>let ⟨k₁,h1,h2⟩:=harr.2 hr' (by rw [hx];exact hk);⟨k₁,h1,.head h0 qc h2⟩⟩
 |goto l=>exact hq.elim
 |ret=>exact ⟨_,a₁,w₁,hq,.of_steps (.one h0 qc) harr⟩
 |panic ch=>exact ⟨_,a₁,w₁,hq,.of_steps (.one h0 qc) harr⟩
 |outgrown=>exact ⟨_,a₁,w₁,hq,.of_steps (.one h0 qc) harr⟩
end
section
variable {P:Program}
theorem LG (w:World) (base:Nat) (t ty e:TypeId) (i:TypeInfo) (z:Value) (bytes:Nat) (ht:P.underlying t = some (.slice e)) (hi:P.info? e = some i) (hz:i.zero = some z)
 (hsize:i.size = 2) (hby:i.bytes = bytes) (hzs:z.cells.size = 2)
 (v:Value) (n:Nat) (xs:List Value) (hown:w.ownsRow base e 2 v n xs)
 (a:Addr) (c:Nat) (news:List Value) (hl:news.length = 2) (hnews:∀ j u,news[j]? = some u→w.cell? (a.add j) = some u) (h1:∀ u ∈ news,u.oneCell' = true)
 (h63:n+1≤maxLen) (hbytes:(n+1)*bytes≤140737488355328) (hbase:base≤w.heap.size):
 ∃ v' w',(Builtin.append_ #[t,t] ty #[v,.slice (some a) 1 c]).run P w = .ok v' w'∧w'.ownsRow base e 2 v' (n+1) (xs++news)∧w.grownBy w' v.ownBlock∧w'.ownsRow base e 2 v n xs∧
  ((v'.ownBlock = v.ownBlock∧∀ W':World,W'.ownsRow base e 2 v' (n+1) (xs++news)→W'.ownsRow base e 2 v n xs)∨v'.ownBlock = some w.heap.size):=by
 obtain ⟨v',w',hr,h2,h3,_,hat⟩:=run_append_own_at (P:=P) w base t ty e i z 2 bytes ht hi hz hsize hby hzs (by decide) v n xs hown a 1 c news (by rw [hl]) hnews h1 h63 hbytes hbase
 refine ⟨v',w',hr,h2,h3,?_⟩
 rcases hown.2 with ⟨rfl,rfl⟩|⟨g,cap,cur,rfl,hbg,hg,hnc,hcm,hcs,htake⟩
 ·rcases hat with hat|hat
  ·exfalso
   rcases h2.2 with ⟨_,h⟩|⟨g,cap,cur,rfl,_⟩
   ·omega
   ·cases hat
  ·exact ⟨World.ownsRow_nil _ _ _ _ |> fun h=>by
    have hx:xs = []:=List.eq_nil_of_length_eq_zero (by simpa using hown.1)
    rw [hx];exact h,.inr hat⟩
 ·by_cases hroom:n+1≤cap
  ·have hfit:n*i.size+news.length≤cur.size:=by rw [hl,hsize,hcs];omega
   have hr2:=run_append_room (P:=P) w t ty e i ht hi g n cap cur hg a 1 c news (by rw [hl,hsize]) hnews h1 hroom hfit
   rw [hr] at hr2
   injection hr2 with hr2 _
   subst hr2
   exact ⟨bN.back h2 hown.1,.inl ⟨rfl,fun W' h=>bN.back h hown.1⟩⟩
  ·have holds:∀ j u,xs[j]? = some u→w.cell? ((⟨g,0,none⟩:Addr).add j) = some u:=hown.cells (g:=g) rfl
   have hlim:n+1≤9223372036854775807:=by simp only [maxLen] at h63;omega
   have hr2:=run_append_grow (P:=P) w t ty e i z ht hi hz ⟨g,0,none⟩ n cap xs (by rw [hsize];exact hown.1) holds a 1 c news (by rw [hl,hsize]) hnews (by omega) (by omega) (growslice_fits (by omega) (by rw [hby];exact hbytes))
   rw [hr] at hr2
   injection hr2 with hr2 hr3
   subst hr2
   subst hr3
   exact ⟨World.ownsRow.alloc (World.ownsRow.drew hown) _,.inr rfl⟩
variable {ops:Array Oper} {o:Oper} {a:Act} {Q:Exit→Act→World→Prop} {K:Act→World→Prop}
theorem yR {w0 W:World} (base:Nat) (hw:Region.wanted o (yielded ops a.tmps) = true) (s x:Operand) (t e:TypeId) (z:Value) (bytes:Nat)
 (ho:o.op = .call { callee:=.builtin .append,args:=#[s,x],argTypes:=#[t,t] })
 (ht:P.underlying t = some (.slice e)) (hinfo:(P.info? e).map (fun i=>(i.zero,i.size,i.bytes)) = some (some z,2,bytes)) (hz:z.cells.size = 2) (hb0:0 < bytes)
 (v:Value) (n:Nat) (xs ys:List Value) (hs:a.eval s = v) (hx:a.eval x = .slice (some ⟨W.heap.size,0,none⟩) 1 1) (hys:ys.length = 2) (h1:∀ u ∈ ys,u.oneCell' = true)
 (HO:W.ownsRow base e 2 v n xs) (HB:Below base w0 W) (hbase:base≤W.heap.size) (hl:(n+1)*bytes≤140737488355328)
 (h:∀ v1 w1,w1.ownsRow base e 2 v1 (n+1) (xs++ys)→Below base w0 w1→W.grownBy w1 v.ownBlock→w1.ownsRow base e 2 v n xs→((v1.ownBlock = v.ownBlock∧∀ W':World,W'.ownsRow base e 2 v1 (n+1) (xs++ys)→W'.ownsRow base e 2 v n xs)∨∃ b,v1.ownBlock = some b∧W.heap.size≤b)→K (a.put o.dst v1) w1):
 if Region.wanted o (yielded ops a.tmps) = true then Oper.wp P o a (W.alloc (.cells ys.toArray e)) K Q else K (a.put o.dst undef) (W.alloc (.cells ys.toArray e)):=by
 obtain ⟨i0,hi,hzz⟩:=Option.map_eq_some_iff.1 hinfo
 simp only [Prod.mk.injEq] at hzz
 obtain ⟨hz0,hz1,hz2⟩:=hzz
 have hlen:n+1≤140737488355328:=Nat.le_trans (Nat.le_mul_of_pos_right _ hb0) hl
 rw [if_pos hw]
 obtain ⟨v1,w1,hr,hown,hg,hst,hat⟩:=LG (P:=P) (W.alloc (.cells ys.toArray e)) base t o.type e i0 z bytes ht hi hz0 hz1 hz2 hz v n xs (HO.alloc _) ⟨W.heap.size,0,none⟩ 1 ys hys
  (by simpa using World.news_of_block (cs:=ys.toArray) (t:=e) (fr:=(0,0)) (heap_alloc_new W (.cells ys.toArray e))) h1 (by simp only [maxLen];omega) hl (by simp;omega)
 unfold Oper.wp execOp
 simp only [ho,resolve,invoke,builtin,Sem.run_bind,Sem.run_pure,Result.andThen_ok,List.map_toArray,List.map_cons,List.map_nil,hs,hx,hr]
 refine h v1 w1 hown ((HB.alloc hbase _).grown hg (by simp;omega) (BV HO)) (World.grownBy.trans (World.grownBy_alloc W _ _) hg) hst ?_
 rcases hat with hat|hat
 ·exact .inl hat
 ·exact .inr ⟨_,hat,by simp⟩
theorem aid {oi:Oper} {N:Option Tmp} {w:World} {f:FuncId} {fn:Func} {x:Operand} {os:Array Operand} {ts:Array TypeId} (hf:P.funcs[f]? = some fn) (hname:(fn.name == "runtime.NumGoroutine") = false) (hb:fn.body.isSome = true) (args lb:Array Value)
 (hw:Region.wanted oi (yielded ops a.tmps) = true) (hN:oi.dst = N) (hop:oi.op = .call { callee:=.value x,args:=os,argTypes:=ts }) (hx:a.eval x = .func (.func f) #[] lb) (hargs:os.map a.eval = args)
 (h:Calls P f (args++lb) w fun e w'=>∃ v,e = .returned v∧K (a.put N v) w'):if Region.wanted oi (yielded ops a.tmps) = true then Oper.wp P oi a w K Q else K (a.put N undef) w:=by
 refine call_ f (args++lb) hw hN ?_ h
 have he:=UF hf hname hb (args++lb) w
 unfold execOp
 simp [hop,hx,resolve,Deferred.ofValue,invoke,hargs,he]
end
set_option maxRecDepth 100000 in
set_option maxHeartbeats 4000000 in
theorem agc (b n c:Nat) (news:List Value) (w:World) (hn:news.length = n*2) (hsm:n≤64) (hc:∀ j u,news[j]? = some u→w.cell? ⟨b,0+j,none⟩ = some u) (h1:∀ u ∈ news,u.oneCell' = true):
 Calls Try.prog 108 #[.slice (some ⟨b,0,none⟩) n c] w fun e w'=>∃ v',e = .returned v'∧w'.ownsRow w.heap.size 33 2 v' n news∧Below w.heap.size w w':=by
 obtain ⟨i0,hi,hzz⟩:=Option.map_eq_some_iff.1 abU
 simp only [Prod.mk.injEq] at hzz
 obtain ⟨hz0,hz1,hz2⟩:=hzz
 have q22:∀ (w:World) (a:Option Addr) (n c n' c':Nat),(binOp .eql 49 (.slice a n c) (.slice none n' c')).run Try.prog w = .ok (.bool a.isNone) w:=fun w a n c n' c'=>Lib.run_eql_slice_nil w _ _ a n c n' c' Try.underlying49
 have A:Aside (∀ j u,news[j]? = some u→w.cell? ⟨b,0+j,none⟩ = some u):=hc
 clear hc
 go_enter Try.func108,Try.ntmps108
 go_wp2_with (at_builtin;refine wpList_append_own _ rfl _ _ 49 rfl w.heap.size 33 i0 (.agg #[Z ab 0,Z ab 0]) 2 16 Try.underlying49 hi hz0 hz1 hz2 rfl (by decide) _ _ _ rfl (World.ownsRow_made w #[] 0 (Nat.le_refl _) (Nat.zero_le _) (by simp)) ⟨b,0,none⟩ n c news rfl ?qc1 ?qc2 ?qc3 ?qc4 ?qc5 ?qc6 ?_)
 case qc1=>exact hn
 case qc2 =>
  intro j u hj
  rw [Addr.add_lit]
  exact Lib.cell?_alloc_some _ (A.out j u hj)
 case qc3=>exact h1
 case qc4=>rw [Nat.zero_add];simp only [maxLen];omega
 case qc5=>rw [Nat.zero_add];omega
 case qc6=>simp
 intro v' w1 hown hgrow hnil
 go_wp2
 go_ret
 refine ⟨v',rfl,by simpa using hown,?_⟩
 exact ((Below.refl _ w).alloc (Nat.le_refl _) _).grown hgrow (by simp) (by intro k hk;simp [Value.ownBlock] at hk;omega)
theorem Lb (v:Value) (l:List eQ) (base:Nat) (w:World) (h:bN w base v l) (h0:0 < l.length) (hsm:l.length≤64):
 Calls Try.prog 108 #[v] w fun e w'=>∃ v',e = .returned v'∧bN w' w.heap.size v' l∧Below w.heap.size w w':=by
 obtain ⟨g,cap,rfl,_⟩:=World.ownsRow.form h h0
 refine agc g l.length cap (GZ l) w (aic l) hsm (fun j u hu=>?_) (Qv l)
 have:=World.ownsRow.cells h (g:=g) rfl j u hu
 rwa [Addr.add_lit] at this
end Go.Proofs.Ytmhaiihjfgfaoaa.Gl
end
section
namespace Go.Proofs.Ytmhaiihjfgfaoaa.Gl
open Go.RowKit Go.Proofs.YtmhaiihjfgfaoaaW.PrintWords Go.Proofs.YtmhaiihjfgfaoaaW.PrintLast Go.Proofs.Ytmhaiihjfgfaoaa.Pr
def yS (p:xz) (u:Int) (x:cZ):Bool:=iR u p.f1 p.f2 && decide (pE x p.f0 = 2)
def agd (v:iw) (left cost:Int) (c:eQ) (st:List eQ × Int) (next:List eQ × Int):List eQ × Int :=
 if left - (gq v c).f1 < v.reserve then st else if 0≤st.2∧st.2≤cost+(gq v c).f1 then st else next
def sK (s:fT) (v:iw) (p:xz):Nat→cZ→Int→Int→Int→List eQ→Bool→List eQ × Int→List eQ × Int
 |0,_,_,_,cost,plan,there,st=>if there = true∧(st.2 < 0∨cost < st.2) then (plan,cost) else st
 |n+1,x,t,left,cost,plan,there,st=>(oP s).foldl (fun st c=>agd v left cost c st (if jv s v x t≠0 then st else
  sK s v p n (iX s v x t c.f0 c.f1) (t+v.dive) (left - (gq v c).f1) (cost+(gq v c).f1) (plan++[c]) (there || yS p (t+v.dive) (iX s v x t c.f0 c.f1)) st)) st
def stepG (s:fT) (v:iw) (p:xz) (n:Nat) (x:cZ) (t left cost:Int) (plan:List eQ) (there:Bool) (st:List eQ × Int) (c:eQ):List eQ × Int :=
 agd v left cost c st (if jv s v x t≠0 then st else
  sK s v p n (iX s v x t c.f0 c.f1) (t+v.dive) (left - (gq v c).f1) (cost+(gq v c).f1) (plan++[c]) (there || yS p (t+v.dive) (iX s v x t c.f0 c.f1)) st)
theorem Qw (s:fT) (v:iw) (p:xz) (n:Nat) (x:cZ) (t left cost:Int) (plan:List eQ) (there:Bool) (st:List eQ × Int):sK s v p (n+1) x t left cost plan there st = (oP s).foldl (stepG s v p n x t left cost plan there) st:=rfl
theorem KP (v:iw) (left cost:Int) (c:eQ) (st:List eQ × Int):agd v left cost c st st = st:=by
 unfold agd
 split
 ·rfl
 ·split <;> rfl
def pM (s:fT) (v:iw) (p:xz) (x:cZ) (t:Int) (e:gm):Nat→List eQ × Int
 |0=>([],-1)
 |n+1=>sK s v p (n+1) x t e.f0 0 [] false (pM s v p x t e n)
def BO (s:fT) (v:iw) (x:cZ) (t:Int) (e:gm) (p:xz) (d:Int):Int :=
 if eB s v x t≠0 then eB s v x t else if ou e.f0 e.f1 0 1073741824 = false then 2 else if sJ p = false then 2 else if d < 1 then 3 else if 3 < d then 3
 else if (pM s v p x t e d.toNat).2 < 0 then 15 else 0
def Lc (s:fT) (v:iw) (x:cZ) (t:Int) (e:gm) (p:xz) (d:Int):List eQ × Int :=
 if BO s v x t e p d = 0 then pM s v p x t e d.toNat else ([],0)
def uz (s:fT):Nat→List (List eQ)
 |0=>[[]]
 |n+1=>(oP s).flatMap fun c=>(uz s n).map (c :: ·)
def sM (s:fT) (v:iw) (p:xz):List eQ→cZ→Int→Int→Bool→Bool
 |[],_,_,_,there=>there
 |c :: l,x,t,left,there=>decide (jv s v x t = 0) && (decide (v.reserve≤left - (gq v c).f1) && sM s v p l (iX s v x t c.f0 c.f1) (t+v.dive) (left - (gq v c).f1) (there || yS p (t+v.dive) (iX s v x t c.f0 c.f1)))
def xA (v:iw):List eQ→Int
 |[]=>0
 |c :: l=>(gq v c).f1+xA v l
theorem Bi {v:iw} (hv:uq v = true):∀ l,0≤xA v l
 |[]=>Int.le_refl 0
 |c :: l=>by
  have h1:=Bi hv l
  have h2:=GY hv c
  unfold xA
  omega
def qd (g:List eQ→Bool) (k:List eQ→Int) (st:List eQ × Int) (l:List eQ):List eQ × Int:=if g l = true∧(st.2 < 0∨k l < st.2) then (l,k l) else st
theorem Zb {g g':List eQ→Bool} {k k':List eQ→Int} {st:List eQ × Int} {l:List eQ} (h:g l = g' l) (h2:k l = k' l):qd g k st l = qd g' k' st l:=by
 unfold qd
 rw [h,h2]
theorem oQ {g:List eQ→Bool} {k:List eQ→Int}:∀ (L:List (List eQ)) (st:List eQ × Int),(∀ l ∈ L,g l = true→0≤st.2∧st.2≤k l)→L.foldl (qd g k) st = st
 |[],st,_=>rfl
 |l :: L,st,h=>by
  have h1:qd g k st l = st:=by
   unfold qd
   by_cases hg:g l = true
   ·have:=h l List.mem_cons_self hg
    rw [if_neg (by omega)]
   ·rw [if_neg (fun q=>hg q.1)]
  rw [List.foldl_cons,h1]
  exact oQ L st (fun l' hl'=>h l' (List.mem_cons_of_mem _ hl'))
theorem CQ {α β γ:Type} (f:α→List β) (g:γ→β→γ):∀ (l:List α) (b:γ),(l.flatMap f).foldl g b = l.foldl (fun b a=>(f a).foldl g b) b
 |[],_=>rfl
 |a :: l,b=>by rw [List.flatMap_cons,List.foldl_append,List.foldl_cons,CQ f g l]
theorem Bj {α β:Type} {f g:β→α→β}:∀ (l:List α) (b:β),(∀ b a,a ∈ l→f b a = g b a)→l.foldl f b = l.foldl g b
 |[],_,_=>rfl
 |a :: l,b,h=>by rw [List.foldl_cons,List.foldl_cons,h b a List.mem_cons_self];exact Bj l _ (fun b' a' ha=>h b' a' (List.mem_cons_of_mem _ ha))
theorem vC {α β:Type} {f:β→α→β}:∀ (l:List α) (b:β),(∀ b a,a ∈ l→f b a = b)→l.foldl f b = b
 |[],_,_=>rfl
 |a :: l,b,h=>by rw [List.foldl_cons,h b a List.mem_cons_self];exact vC l _ (fun b' a' ha=>h b' a' (List.mem_cons_of_mem _ ha))
theorem SG {s:fT} {v:iw} {p:xz} (hv:uq v = true):∀ (n:Nat) (x:cZ) (t left cost:Int) (plan:List eQ) (there:Bool) (st:List eQ × Int),
 sK s v p n x t left cost plan there st = ((uz s n).map (plan++·)).foldl (qd (fun l=>sM s v p (l.drop plan.length) x t left there) (fun l=>cost+xA v (l.drop plan.length))) st
 |0,x,t,left,cost,plan,there,st=>by
  have e:(plan++([]:List eQ)).drop plan.length = []:=by simp
  simp only [sK,uz,List.map_cons,List.map_nil,List.foldl_cons,List.foldl_nil,qd,e,sM,xA,Int.add_zero,List.append_nil]
  rw [List.drop_length]
  simp only [sM,xA,Int.add_zero]
 |n+1,x,t,left,cost,plan,there,st=>by
  have HM:(uz s (n+1)).map (plan++·) = (oP s).flatMap fun c=>(uz s n).map fun l=>(plan++[c])++l:=by
   rw [show uz s (n+1) = (oP s).flatMap fun c=>(uz s n).map (c :: ·) from rfl,List.map_flatMap]
   congr 1
   funext c
   rw [List.map_map]
   congr 1
   funext l
   simp
  rw [HM,CQ]
  unfold sK
  have hdr:∀ (c:eQ) (l:List eQ),((plan++[c])++l).drop plan.length = c :: l:=by
   intro c l
   rw [List.append_assoc,List.drop_left]
   rfl
  have asv:∀ (c:eQ) (l:List eQ),((plan++[c])++l).drop (plan++[c]).length = l:=fun c l=>List.drop_left
  by_cases hd:jv s v x t = 0
  ·refine Bj _ _ (fun st c _=>?_)
   rw [if_neg (fun q=>q hd)]
   have hus:=GY hv c
   unfold agd
   by_cases h1:left - (gq v c).f1 < v.reserve
   ·rw [if_pos h1]
    refine (oQ _ _ (fun l hl hg=>?_)).symm
    obtain ⟨l',_,rfl⟩:=List.mem_map.1 hl
    rw [hdr] at hg
    unfold sM at hg
    rw [decide_eq_false (show ¬ (v.reserve≤left - (gq v c).f1) by omega)] at hg
    simp at hg
   ·rw [if_neg h1]
    by_cases h2:0≤st.2∧st.2≤cost+(gq v c).f1
    ·rw [if_pos h2]
     refine (oQ _ _ (fun l hl hg=>?_)).symm
     obtain ⟨l',_,rfl⟩:=List.mem_map.1 hl
     rw [hdr]
     unfold xA
     have:=Bi hv l'
     omega
    ·rw [if_neg h2,SG hv n]
     rw [List.foldl_map,List.foldl_map]
     refine Bj _ _ (fun st l _=>?_)
     refine Zb ?_ ?_
     ·show sM s v p (List.drop (plan++[c]).length ((plan++[c])++l)) _ _ _ _ = sM s v p (List.drop plan.length ((plan++[c])++l)) _ _ _ _
      rw [hdr,asv]
      simp only [sM,decide_eq_true hd,decide_eq_true (show v.reserve≤left - (gq v c).f1 by omega),Bool.true_and]
     ·show cost+(gq v c).f1+xA v (List.drop (plan++[c]).length ((plan++[c])++l)) = cost+xA v (List.drop plan.length ((plan++[c])++l))
      rw [hdr,asv]
      simp only [xA]
      rw [Int.add_assoc]
  ·rw [vC (f:=fun st c=>agd v left cost c st (if jv s v x t≠0 then st else _)) (oP s) st (fun st c _=>by rw [if_pos hd];exact KP _ _ _ _ _)]
   refine (vC _ _ (fun st c _=>oQ _ _ (fun l hl hg=>?_))).symm
   obtain ⟨l',_,rfl⟩:=List.mem_map.1 hl
   rw [hdr] at hg
   unfold sM at hg
   rw [decide_eq_false hd] at hg
   simp at hg
theorem Qx {g:List eQ→Bool} {k:List eQ→Int} (hk:∀ l,0≤k l):∀ (L:List (List eQ)) (st:List eQ × Int),
 (L.foldl (qd g k) st = st∨∃ l ∈ L,g l = true∧L.foldl (qd g k) st = (l,k l))∧(0≤st.2→0≤(L.foldl (qd g k) st).2∧(L.foldl (qd g k) st).2≤st.2)∧(∀ l ∈ L,g l = true→0≤(L.foldl (qd g k) st).2∧(L.foldl (qd g k) st).2≤k l)
 |[],st=>⟨.inl rfl,fun h=>⟨h,Int.le_refl _⟩,fun l hl=>absurd hl List.not_mem_nil⟩
 |l :: L,st=>by
  rw [List.foldl_cons]
  have hq:qd g k st l = st∧(g l = true→0≤st.2∧st.2≤k l)∨qd g k st l = (l,k l)∧g l = true∧(st.2 < 0∨k l < st.2):=by
   unfold qd
   by_cases h:g l = true∧(st.2 < 0∨k l < st.2)
   ·exact .inr ⟨if_pos h,h⟩
   ·exact .inl ⟨if_neg h,fun hg=>by
     have:¬ (st.2 < 0∨k l < st.2):=fun q=>h ⟨hg,q⟩
     omega⟩
  obtain ⟨i1,i2,i3⟩:=Qx (g:=g) hk L (qd g k st l)
  have hkl:=hk l
  generalize hst:qd g k st l = st' at*
  rcases hq with ⟨e,h1⟩|⟨e,h1,h2⟩
  ·subst e
   refine ⟨?_,i2,fun l' hl' hg=>?_⟩
   ·rcases i1 with i1|⟨l',hl',hg,i1⟩
    ·exact .inl i1
    ·exact .inr ⟨l',List.mem_cons_of_mem _ hl',hg,i1⟩
   ·rcases List.mem_cons.1 hl' with rfl|hl'
    ·have h3:=h1 hg
     have h4:=i2 h3.1
     omega
    ·exact i3 l' hl' hg
  ·subst e
   have h4:=i2 hkl
   dsimp only at h4
   refine ⟨.inr ?_,fun h0=>?_,fun l' hl' hg=>?_⟩
   ·rcases i1 with i1|⟨l',hl',hg,i1⟩
    ·exact ⟨l,List.mem_cons_self,h1,i1⟩
    ·exact ⟨l',List.mem_cons_of_mem _ hl',hg,i1⟩
   ·omega
   ·rcases List.mem_cons.1 hl' with rfl|hl'
    ·exact h4
    ·exact i3 l' hl' hg
theorem Bl {s:fT}:∀ (n:Nat) (l:List eQ),l ∈ uz s n↔l.length = n∧∀ c ∈ l,c ∈ oP s
 |0,l=>by
  unfold uz
  rw [List.mem_singleton]
  refine ⟨fun h=>?_,fun h=>List.eq_nil_of_length_eq_zero h.1⟩
  subst h
  exact ⟨rfl,fun c hc=>absurd hc List.not_mem_nil⟩
 |n+1,l=>by
  unfold uz
  rw [List.mem_flatMap]
  refine ⟨fun ⟨c,hc,hl⟩=>?_,fun ⟨h,ha⟩=>?_⟩
  ·obtain ⟨l',hl',rfl⟩:=List.mem_map.1 hl
   obtain ⟨h1,h2⟩:=(Bl n l').1 hl'
   refine ⟨by rw [List.length_cons,h1],fun c' hc'=>?_⟩
   rcases List.mem_cons.1 hc' with rfl|hc'
   ·exact hc
   ·exact h2 c' hc'
  ·cases l with
   |nil=>cases h
   |cons c l =>
    rw [List.length_cons] at h
    exact ⟨c,ha c List.mem_cons_self,List.mem_map.2 ⟨l,(Bl n l).2 ⟨by omega,fun c' hc'=>ha c' (List.mem_cons_of_mem _ hc')⟩,rfl⟩⟩
theorem SH {s:fT} {v:iw} {p:xz} (hv:uq v = true) (x:cZ) (t:Int) (e:gm):∀ (n:Nat),
 (pM s v p x t e n = ([],-1)∨∃ l,1≤l.length∧l.length≤n∧(∀ c ∈ l,c ∈ oP s)∧sM s v p l x t e.f0 false = true∧pM s v p x t e n = (l,xA v l))
 ∧(∀ l:List eQ,1≤l.length→l.length≤n→(∀ c ∈ l,c ∈ oP s)→sM s v p l x t e.f0 false = true→0≤(pM s v p x t e n).2∧(pM s v p x t e n).2≤xA v l)
 |0=>⟨.inl rfl,fun l h1 h2=>by omega⟩
 |n+1=>by
  obtain ⟨i1,i2⟩:=SH hv x t e n
  have hb:pM s v p x t e (n+1) = (uz s (n+1)).foldl (qd (fun l=>sM s v p l x t e.f0 false) (xA v)) (pM s v p x t e n):=by
   rw [pM,SG hv]
   simp only [List.nil_append,List.length_nil,List.drop_zero,Int.zero_add]
   rw [show (fun l:List eQ=>l) = id from rfl,List.map_id]
  obtain ⟨j1,j2,j3⟩:=Qx (g:=fun l=>sM s v p l x t e.f0 false) (Bi hv) (uz s (n+1)) (pM s v p x t e n)
  rw [← hb] at j1 j2 j3
  refine ⟨?_,fun l h1 h2 h3 h4=>?_⟩
  ·rcases j1 with j1|⟨l,hl,hg,j1⟩
   ·rw [j1]
    rcases i1 with i1|⟨l,k1,k2,k3,k4,k5⟩
    ·exact .inl i1
    ·exact .inr ⟨l,k1,by omega,k3,k4,k5⟩
   ·obtain ⟨h1,h2⟩:=(Bl _ _).1 hl
    exact .inr ⟨l,by omega,by omega,h2,hg,j1⟩
  ·by_cases h5:l.length = n+1
   ·exact j3 l ((Bl _ _).2 ⟨h5,h3⟩) h4
   ·have h6:=i2 l h1 (by omega) h3 h4
    have h7:=j2 h6.1
    omega
theorem SI {s:fT} {v:iw} {p:xz}:∀ (l:List eQ) (x:cZ) (t:Int) (E:gm) (there:Bool) (n m:Int) (out:List cZ) (oe:List gm) (t0 acc:Int),(acc = 2↔there = true)→acc≤2→BS v.dive p out t0 0 = acc→t = t0+(out.length:Int)*v.dive→
 (sM s v p l x t E.f0 there = true↔(nW s v l x t n out).2.2 = 0∧(Y8 v l E m oe).2.2 = 0∧BS v.dive p (nW s v l x t n out).1 t0 0 = 2)
 |[],x,t,E,there,n,m,out,oe,t0,acc,h0,h1,h2,h3=>by
  unfold sM nW Y8
  dsimp only
  rw [h2]
  exact ⟨fun h=>⟨rfl,rfl,h0.2 h⟩,fun h=>h0.1 h.2.2⟩
 |c :: l,x,t,E,there,n,m,out,oe,t0,acc,h0,h1,h2,h3=>by
  unfold sM nW Y8
  by_cases hd:jv s v x t = 0
  ·rw [decide_eq_true hd,Bool.true_and,if_neg (fun q=>q hd)]
   by_cases hl:E.f0 - (gq v c).f1 < v.reserve
   ·rw [decide_eq_false (show ¬ (v.reserve≤E.f0 - (gq v c).f1) by omega),Bool.false_and,if_pos hl]
    exact ⟨(fun h=>by cases h),(fun h=>by cases h.2.1)⟩
   ·rw [decide_eq_true (show v.reserve≤E.f0 - (gq v c).f1 by omega),Bool.true_and,if_neg hl]
    have hf:=Zc v.dive p out (iX s v x t c.f0 c.f1) t0 0
    rw [← h3,h2] at hf
    refine SI l _ _ ⟨E.f0 - (gq v c).f1,E.f1 - (gq v c).f0⟩ _ _ _ _ _ t0 _ ?_ ?_ hf ?_
    ·unfold yS
     rw [Bool.or_eq_true,Bool.and_eq_true,dR,decide_eq_true_eq,← h0]
     have hin:=ad8 (iX s v x t c.f0 c.f1) p.f0
     by_cases hb:p.f1≤t+v.dive∧t+v.dive≤p.f2
     ·rw [if_pos hb];omega
     ·rw [if_neg hb];omega
    ·have hin:=ad8 (iX s v x t c.f0 c.f1) p.f0
     split <;> omega
    ·rw [List.length_append,List.length_singleton,h3,Int.natCast_add,Int.add_mul]
     simp only [Int.natCast_one,Int.one_mul]
     omega
  ·rw [decide_eq_false hd,Bool.false_and,if_pos hd]
   exact ⟨(fun h=>by cases h),fun h=>absurd h.1 hd⟩
where
 Zc (dive:Int) (p:xz):∀ (out:List cZ) (b:cZ) (t acc:Int),BS dive p (out++[b]) t acc = (if p.f1≤t+(out.length:Int)*dive+dive∧t+(out.length:Int)*dive+dive≤p.f2 then max (BS dive p out t acc) (pE b p.f0) else BS dive p out t acc)
  |[],b,t,acc=>by simp [BS]
  |a :: out,b,t,acc=>by
   rw [List.cons_append]
   unfold BS
   rw [Zc dive p out b]
   rw [show t+dive+(out.length:Int)*dive+dive = t+((a :: out).length:Int)*dive+dive by rw [List.length_cons,Int.natCast_add,Int.add_mul];simp only [Int.natCast_one,Int.one_mul];omega]
 ad8 (a b:cZ):pE a b≤2:=by
  unfold pE
  have h0:=Mi a.f0 b.f0
  omega
theorem age {s:fT} {v:iw} {x:cZ} {t:Int} {e:gm} {l:List eQ} {p:xz} (hb:eB s v x t = 0) (he:ou e.f0 e.f1 0 1073741824 = true) (hc:vG l s.layers = 0) (hp:sJ p = true):yP s v x t e l p = 0↔sM s v p l x t e.f0 false = true:=by
 have hg:=SI (s:=s) (v:=v) (p:=p) l x t e false 0 0 [] [] t 0 (by decide) (by decide) rfl (by simp)
 unfold yP
 rw [if_neg (fun q=>q hb),if_neg (by rw [he];decide),if_neg (fun q=>q hc),if_neg (by rw [hp];decide),hg]
 by_cases h1:(nW s v l x t 0 []).2.2 = 0
 ·rw [if_neg (fun q=>q h1)]
  by_cases h2:(Y8 v l e 0 []).2.2 = 0
  ·rw [if_neg (fun q=>q h2)]
   by_cases h3:BS v.dive p (nW s v l x t 0 []).1 t 0 = 2
   ·rw [if_neg (fun q=>q h3)]
    exact ⟨fun _=>⟨h1,h2,h3⟩,fun _=>rfl⟩
   ·rw [if_pos h3]
    exact ⟨(fun h=>by cases h),fun h=>absurd h.2.2 h3⟩
  ·rw [if_pos h2]
   exact ⟨fun h=>absurd h h2,fun h=>absurd h.2.1 h2⟩
 ·rw [if_pos h1]
  exact ⟨fun h=>absurd h h1,fun h=>absurd h.1 h1⟩
end Go.Proofs.Ytmhaiihjfgfaoaa.Gl
end
