import Derived.Test.YtmhaiihjfgfaoaaGfGliderFetch3
import Derived.Test.YtmhaiihjfgfaoaaGfGliderFetch30
import Derived.Test.YtmhaiihjfgfaoaaGfGliderFetch31
set_option linter.unusedVariables false
set_option linter.unusedSimpArgs false
open Go.Value renaming int → U
open Go.IntKind renaming i64 → Z
open Bool renaming true → ab, false → ac
section
namespace Go.Proofs.Ytmhaiihjfgfaoaa.Gl
open Go.RowKit Go.Shelf Go.Proofs.YtmhaiihjfgfaoaaW.PrintWords Go.Proofs.YtmhaiihjfgfaoaaW.PrintLast Go.Proofs.YtmhaiihjfgfaoaaW.PrintMore Go.Proofs.Ytmhaiihjfgfaoaa.Pr Go.Proofs.YtmhaiihjfgfaoaaW.Round
set_option linter.unusedVariables false
set_option linter.unusedSimpArgs false
attribute [local go_sem] gp gq iA iB gu
theorem aeG (s:oJ) (v:tF):∀ (l:List xN) (x:jf) (t n:Int) (out:List jf),(uJ s v l x t n out).1.length≤out.length+l.length
 |[],x,t,n,out=>by unfold uJ;simp
 |c :: l,x,t,n,out=>by
  unfold uJ
  split
  ·simp
  ·refine Nat.le_trans (aeG s v l _ _ _ _) ?_
   simp only [List.length_append,List.length_cons,List.length_nil]
   omega
theorem Qk {s:oJ} {v:tF} (h:ru s v = 0):Dt v = true:=by
 unfold ru at h
 obtain ⟨_,h2⟩:=pY h
 unfold Q8 at h2
 cases hb:Dt v with
 |true=>rfl
 |false=>rw [hb] at h2;cases h2
def OJ (s:oJ) (v:tF) (x:jf) (t:Int) (e:ky) (l:List xN) (p:S81):Int :=
 if vB s v x t≠0 then vB s v x t else if xq e.f0 e.f1 0 1073741824 = false then 2 else if FE l s.layers≠0 then FE l s.layers else if Gs p = false then 2
 else if (uJ s v l x t 0 []).2.2≠0 then (uJ s v l x t 0 []).2.2 else if (enI v l e 0 []).2.2≠0 then (enI v l e 0 []).2.2 else if OI v.dive p (uJ s v l x t 0 []).1 t 0≠2 then 20 else 0
set_option maxRecDepth 100000 in
set_option maxHeartbeats 8000000 in
theorem Vy (s:oJ) (v:tF) (x:jf) (t:Int) (ev:ky) (A:Option Addr) (c:Nat) (l:List xN) (p:S81) (A7 A8:Option Addr) (c7 c8:Nat) (w:World) (h7:s.shores.length≤c7) (hC7:Kd.C Kd.bool w A7 s.shores.length s.shores) (h8:s.currents.length≤c8) (hC8:Kd.C GI w A8 s.currents.length s.currents) (hC:Kd.C k33 w A l.length l) (hc:l.length≤c):
 Calls Try.prog 48 #[.agg #[U Z s.nx,U Z s.ny,U Z s.cell,U Z s.slot,U Z s.slots,U Z s.layers,U Z s.most,.slice A7 s.shores.length c7,.slice A8 s.currents.length c8],.agg #[U Z v.speed,U Z v.dive,U Z v.use.f0,U Z v.use.f1,U Z v.drift.f0,U Z v.drift.f1,U Z v.reserve],.agg #[U Z x.f0.f0,U Z x.f0.f1,U Z x.f1.f0,U Z x.f1.f1],U Z t,.agg #[U Z ev.f0,U Z ev.f1],.slice A l.length c,.agg #[U Z p.f0.f0.f0,U Z p.f0.f0.f1,U Z p.f0.f1.f0,U Z p.f0.f1.f1,U Z p.f1,U Z p.f2]] w (zn (U Z (OJ s v x t ev l p)) w):=by
 have BV:=Try.underlying25
 have Br:=Try.underlying29
 have rO:=Try.underlying31
 have MV:=Try.underlying33
 have pz:=Try.underlying27
 have aed:=Try.underlying81
 have HX:Hid (OJ s v x t ev l p = if vB s v x t≠0 then vB s v x t else if xq ev.f0 ev.f1 0 1073741824 = false then 2 else if FE l s.layers≠0 then FE l s.layers else if Gs p = false then 2
  else if (uJ s v l x t 0 []).2.2≠0 then (uJ s v l x t 0 []).2.2 else if (enI v l ev 0 []).2.2≠0 then (enI v l ev 0 []).2.2 else if OI v.dive p (uJ s v l x t 0 []).1 t 0≠2 then 20 else 0):=Lib.hid rfl
 generalize OJ s v x t ev l p = RR at*
 go_enter Try.func48,Try.ntmps48
 go_wp2_with fail
 have m7:jh (((((w.alloc (.cells #[U Z s.nx,U Z s.ny,U Z s.cell,U Z s.slot,U Z s.slots,U Z s.layers,U Z s.most,.slice A7 s.shores.length c7,.slice A8 s.currents.length c8] 25)).alloc (.cells #[U Z v.speed,U Z v.dive,U Z v.use.f0,U Z v.use.f1,U Z v.drift.f0,U Z v.drift.f1,U Z v.reserve] 29)).alloc (.cells #[U Z x.f0.f0,U Z x.f0.f1,U Z x.f1.f0,U Z x.f1.f1] 31)).alloc (.cells #[U Z ev.f0,U Z ev.f1] 27)).alloc (.cells #[U Z p.f0.f0.f0,U Z p.f0.f0.f1,U Z p.f0.f1.f0,U Z p.f0.f1.f1,U Z p.f1,U Z p.f2] 81)) (w.heap.size) #[U Z s.nx,U Z s.ny,U Z s.cell,U Z s.slot,U Z s.slots,U Z s.layers,U Z s.most,.slice A7 s.shores.length c7,.slice A8 s.currents.length c8] 25:=(af (af (af (af alA _) _) _) _)
 have m8:jh (((((w.alloc (.cells #[U Z s.nx,U Z s.ny,U Z s.cell,U Z s.slot,U Z s.slots,U Z s.layers,U Z s.most,.slice A7 s.shores.length c7,.slice A8 s.currents.length c8] 25)).alloc (.cells #[U Z v.speed,U Z v.dive,U Z v.use.f0,U Z v.use.f1,U Z v.drift.f0,U Z v.drift.f1,U Z v.reserve] 29)).alloc (.cells #[U Z x.f0.f0,U Z x.f0.f1,U Z x.f1.f0,U Z x.f1.f1] 31)).alloc (.cells #[U Z ev.f0,U Z ev.f1] 27)).alloc (.cells #[U Z p.f0.f0.f0,U Z p.f0.f0.f1,U Z p.f0.f1.f0,U Z p.f0.f1.f1,U Z p.f1,U Z p.f2] 81)) (w.heap.size+1) #[U Z v.speed,U Z v.dive,U Z v.use.f0,U Z v.use.f1,U Z v.drift.f0,U Z v.drift.f1,U Z v.reserve] 29:=(af (af (af aqr _) _) _)
 have m9:jh (((((w.alloc (.cells #[U Z s.nx,U Z s.ny,U Z s.cell,U Z s.slot,U Z s.slots,U Z s.layers,U Z s.most,.slice A7 s.shores.length c7,.slice A8 s.currents.length c8] 25)).alloc (.cells #[U Z v.speed,U Z v.dive,U Z v.use.f0,U Z v.use.f1,U Z v.drift.f0,U Z v.drift.f1,U Z v.reserve] 29)).alloc (.cells #[U Z x.f0.f0,U Z x.f0.f1,U Z x.f1.f0,U Z x.f1.f1] 31)).alloc (.cells #[U Z ev.f0,U Z ev.f1] 27)).alloc (.cells #[U Z p.f0.f0.f0,U Z p.f0.f0.f1,U Z p.f0.f1.f0,U Z p.f0.f1.f1,U Z p.f1,U Z p.f2] 81)) (w.heap.size+1+1) #[U Z x.f0.f0,U Z x.f0.f1,U Z x.f1.f0,U Z x.f1.f1] 31:=(af (af ayG _) _)
 have m11:jh (((((w.alloc (.cells #[U Z s.nx,U Z s.ny,U Z s.cell,U Z s.slot,U Z s.slots,U Z s.layers,U Z s.most,.slice A7 s.shores.length c7,.slice A8 s.currents.length c8] 25)).alloc (.cells #[U Z v.speed,U Z v.dive,U Z v.use.f0,U Z v.use.f1,U Z v.drift.f0,U Z v.drift.f1,U Z v.reserve] 29)).alloc (.cells #[U Z x.f0.f0,U Z x.f0.f1,U Z x.f1.f0,U Z x.f1.f1] 31)).alloc (.cells #[U Z ev.f0,U Z ev.f1] 27)).alloc (.cells #[U Z p.f0.f0.f0,U Z p.f0.f0.f1,U Z p.f0.f1.f0,U Z p.f0.f1.f1,U Z p.f1,U Z p.f2] 81)) (w.heap.size+1+1+1) #[U Z ev.f0,U Z ev.f1] 27:=(af (by have h_:=gT (((w.alloc (.cells #[U Z s.nx,U Z s.ny,U Z s.cell,U Z s.slot,U Z s.slots,U Z s.layers,U Z s.most,.slice A7 s.shores.length c7,.slice A8 s.currents.length c8] 25)).alloc (.cells #[U Z v.speed,U Z v.dive,U Z v.use.f0,U Z v.use.f1,U Z v.drift.f0,U Z v.drift.f1,U Z v.reserve] 29)).alloc (.cells #[U Z x.f0.f0,U Z x.f0.f1,U Z x.f1.f0,U Z x.f1.f1] 31)) (.cells #[U Z ev.f0,U Z ev.f1] 27);first|exact h_|(simp only [World.size_alloc] at h_;exact h_)) _)
 have m13:jh (((((w.alloc (.cells #[U Z s.nx,U Z s.ny,U Z s.cell,U Z s.slot,U Z s.slots,U Z s.layers,U Z s.most,.slice A7 s.shores.length c7,.slice A8 s.currents.length c8] 25)).alloc (.cells #[U Z v.speed,U Z v.dive,U Z v.use.f0,U Z v.use.f1,U Z v.drift.f0,U Z v.drift.f1,U Z v.reserve] 29)).alloc (.cells #[U Z x.f0.f0,U Z x.f0.f1,U Z x.f1.f0,U Z x.f1.f1] 31)).alloc (.cells #[U Z ev.f0,U Z ev.f1] 27)).alloc (.cells #[U Z p.f0.f0.f0,U Z p.f0.f0.f1,U Z p.f0.f1.f0,U Z p.f0.f1.f1,U Z p.f1,U Z p.f2] 81)) (w.heap.size+1+1+1+1) #[U Z p.f0.f0.f0,U Z p.f0.f0.f1,U Z p.f0.f1.f0,U Z p.f0.f1.f1,U Z p.f1,U Z p.f2] 81:=(by have h_:=gT ((((w.alloc (.cells #[U Z s.nx,U Z s.ny,U Z s.cell,U Z s.slot,U Z s.slots,U Z s.layers,U Z s.most,.slice A7 s.shores.length c7,.slice A8 s.currents.length c8] 25)).alloc (.cells #[U Z v.speed,U Z v.dive,U Z v.use.f0,U Z v.use.f1,U Z v.drift.f0,U Z v.drift.f1,U Z v.reserve] 29)).alloc (.cells #[U Z x.f0.f0,U Z x.f0.f1,U Z x.f1.f0,U Z x.f1.f1] 31)).alloc (.cells #[U Z ev.f0,U Z ev.f1] 27)) (.cells #[U Z p.f0.f0.f0,U Z p.f0.f0.f1,U Z p.f0.f1.f0,U Z p.f0.f1.f1,U Z p.f1,U Z p.f2] 81);first|exact h_|(simp only [World.size_alloc] at h_;exact h_))
 have mB:Below w.heap.size w (((((w.alloc (.cells #[U Z s.nx,U Z s.ny,U Z s.cell,U Z s.slot,U Z s.slots,U Z s.layers,U Z s.most,.slice A7 s.shores.length c7,.slice A8 s.currents.length c8] 25)).alloc (.cells #[U Z v.speed,U Z v.dive,U Z v.use.f0,U Z v.use.f1,U Z v.drift.f0,U Z v.drift.f1,U Z v.reserve] 29)).alloc (.cells #[U Z x.f0.f0,U Z x.f0.f1,U Z x.f1.f0,U Z x.f1.f1] 31)).alloc (.cells #[U Z ev.f0,U Z ev.f1] 27)).alloc (.cells #[U Z p.f0.f0.f0,U Z p.f0.f0.f1,U Z p.f0.f1.f0,U Z p.f0.f1.f1,U Z p.f1,U Z p.f2] 81)):=(bA (bA (bA (bA (bA (Below.refl w.heap.size w) _) _) _) _) _)
 have oI:w.heap.size≤w.heap.size:=Nat.le_refl _
 generalize yX:(((((w.alloc (.cells #[U Z s.nx,U Z s.ny,U Z s.cell,U Z s.slot,U Z s.slots,U Z s.layers,U Z s.most,.slice A7 s.shores.length c7,.slice A8 s.currents.length c8] 25)).alloc (.cells #[U Z v.speed,U Z v.dive,U Z v.use.f0,U Z v.use.f1,U Z v.drift.f0,U Z v.drift.f1,U Z v.reserve] 29)).alloc (.cells #[U Z x.f0.f0,U Z x.f0.f1,U Z x.f1.f0,U Z x.f1.f1] 31)).alloc (.cells #[U Z ev.f0,U Z ev.f1] 27)).alloc (.cells #[U Z p.f0.f0.f0,U Z p.f0.f0.f1,U Z p.f0.f1.f0,U Z p.f0.f1.f1,U Z p.f1,U Z p.f2] 81)) = W1 at m7 m8 m9 m11 m13 mB ⊢
 clear yX
 generalize hg7:w.heap.size = g7 at m7 m8 m9 m11 m13 ⊢
 have hG7:w.heap.size≤g7:=by omega
 generalize hg8:g7+1 = g8 at m8 m9 m11 m13 ⊢
 have TH:g7≠g8:=by omega
 have alE:g8≠g7:=TH.symm
 have hG8:w.heap.size≤g8:=by omega
 generalize hg9:g8+1 = g9 at m9 m11 m13 ⊢
 have L9:g7≠g9:=by omega
 have adM:g8≠g9:=by omega
 have adN:g9≠g7:=L9.symm
 have ayd:g9≠g8:=adM.symm
 have hG9:w.heap.size≤g9:=by omega
 generalize aAb:g9+1 = g11 at m11 m13 ⊢
 have DX:g7≠g11:=by omega
 have avg:g8≠g11:=by omega
 have DY:g9≠g11:=by omega
 have aUz:g11≠g7:=DX.symm
 have aUA:g11≠g8:=avg.symm
 have aUB:g11≠g9:=DY.symm
 have aa2:w.heap.size≤g11:=by omega
 generalize az8:g11+1 = g13 at m13 ⊢
 have avh:g7≠g13:=by omega
 have avi:g8≠g13:=by omega
 have avj:g9≠g13:=by omega
 have aoq:g11≠g13:=by omega
 have aUC:g13≠g7:=avh.symm
 have aUD:g13≠g8:=avi.symm
 have aUE:g13≠g9:=avj.symm
 have aHf:g13≠g11:=aoq.symm
 have aX9:w.heap.size≤g13:=by omega
 clear oI
 try clear az8
 try clear aAb
 try clear hg9
 try clear hg8
 try clear hg7
 have DR:w.heap.size≤W1.heap.size:=mB.size
 have hbg:vB s v x t = if ru s v≠0 then ru s v else xS x t:=rfl
 have HBG:=Lib.hid hbg
 clear hbg
 obtain ⟨ad3,ad4,amx,amy,aAg,aAh,aAi,aAj,aAk⟩:=Dm m7
 obtain ⟨aaK,aaL,ad1,ad2,aor,aos,aot⟩:=Mk m8
 obtain ⟨WR,WS,aqg,aqh⟩:=xy m9
 go_wp2_with fail
 clear ad3 ad4 amx amy aAg aAh aAi aAj aAk aaK aaL ad1 ad2 aor aos aot WR WS aqg aqh
 have hcon:=VT s v x t A7 A8 c7 c8 W1 h7 (Kd.bB hC7 mB) h8 (Kd.bB hC8 mB)
 (with_reducible refine hcon.mono ?_)
 clear hcon
 rintro e W2 ⟨ptr,rfl,hb,hpt⟩
 replace m7:=aU m7 hb
 replace m8:=aU m8 hb
 replace m9:=aU m9 hb
 replace m11:=aU m11 hb
 replace m13:=aU m13 hb
 replace mB:=dY mB hb
 clear hb
 have Dl:w.heap.size≤W2.heap.size:=mB.size
 generalize hE_:vB s v x t = E0 at*
 have HE0:=Lib.hid hE_
 clear hE_
 by_cases h0:E0 = 0
 case neg =>
  have HZ:=Lib.hid (HX.out.trans (if_pos h0))
  have hd1:(E0 == 0) = false:=beq_eq_false_iff_ne.2 h0
  have hd2:(E0 != 0) = true:=by rw [bne,hd1];rfl
  clear h0 hpt HX
  go_wp2
  go_ret
  exact ⟨yY,mB⟩
 case pos =>
  have HX2:=Lib.hid (HX.out.trans (if_neg (fun h=>h h0)))
  clear HX
  have hb0:=HBG.out.symm.trans h0
  obtain ⟨ht0,hp0⟩:=pY hb0
  obtain ⟨hbx,aj3,amw⟩:=M7 hp0
  obtain ⟨hSV,hVN⟩:=M6 ht0
  have HVB:=Lib.hid (Qk ht0)
  rcases hpt with ⟨_,g,rfl,hg,hT⟩|⟨hbad,_⟩
  case inr=>exact absurd ht0 hbad
  case inl =>
   subst h0
   clear hb0 ht0 hp0 HBG
   have HTT:=Lib.hid (And.intro aj3 amw)
   clear aj3 amw
   obtain ⟨aou,aov⟩:=GJ m11
   go_wp2_with fail
   clear aou aov
   have hcon:=WO ev.f0 ev.f1 0 1073741824 W2
   (with_reducible refine hcon.mono ?_)
   clear hcon
   rintro e W3 ⟨rfl,hb⟩
   replace hT:=hT.below hb
   replace m7:=aU m7 hb
   replace m8:=aU m8 hb
   replace m9:=aU m9 hb
   replace m11:=aU m11 hb
   replace m13:=aU m13 hb
   replace mB:=dY mB hb
   clear hb
   cases hbn:xq ev.f0 ev.f1 0 1073741824 with
   |false =>
    have HZ:=Lib.hid (HX2.out.trans (if_pos hbn))
    clear hbn HX2
    go_wp2
    go_ret
    exact ⟨yY,mB⟩
   |true =>
    have HX3:=Lib.hid (HX2.out.trans (if_neg (by rw [hbn];decide)))
    have HBN:=Lib.hid hbn
    clear HX2 hbn
    obtain ⟨ad3,ad4,amx,amy,aAg,aAh,aAi,aAj,aAk⟩:=Dm m7
    go_wp2_with fail
    clear ad3 ad4 amx amy aAg aAh aAi aAj aAk
    have hcon:=afy A c l s.layers W3 (Kd.bB hC mB) hc
    (with_reducible refine hcon.mono ?_)
    clear hcon
    rintro e W4 ⟨rfl,hb⟩
    replace hT:=hT.below hb
    replace m7:=aU m7 hb
    replace m8:=aU m8 hb
    replace m9:=aU m9 hb
    replace m11:=aU m11 hb
    replace m13:=aU m13 hb
    replace mB:=dY mB hb
    clear hb
    have hc1:=fun h=>ZE (l:=l) (layers:=s.layers) h
    generalize FE l s.layers = E1 at*
    by_cases h1:E1 = 0
    case neg =>
     have HZ:=Lib.hid (HX3.out.trans (if_pos h1))
     have hd1:(E1 == 0) = false:=beq_eq_false_iff_ne.2 h1
     have hd2:(E1 != 0) = true:=by rw [bne,hd1];rfl
     clear h1 hc1 HX3
     go_wp2
     go_ret
     exact ⟨yY,mB⟩
    case pos =>
     obtain ⟨ak6,hall⟩:=hc1 h1
     have HX4:=Lib.hid (HX3.out.trans (if_neg (fun h=>h h1)))
     clear HX3 hc1
     subst h1
     have HLA:=Lib.hid (And.intro ak6 hall)
     clear ak6 hall
     obtain ⟨aow,aox,aoy,aoz,aoA,aoB⟩:=aGH m13
     go_wp2_with fail
     clear aow aox aoy aoz aoA aoB
     have hcon:=o5.calls 4 p.f0.f0.f0 p.f0.f0.f1 p.f0.f1.f0 p.f0.f1.f1 p.f1 p.f2 _ W4 (ak5 p)
     (with_reducible refine hcon.mono ?_)
     clear hcon
     rintro e W5 ⟨rfl,hb⟩
     replace hT:=hT.below hb
     replace m7:=aU m7 hb
     replace m8:=aU m8 hb
     replace m9:=aU m9 hb
     replace m11:=aU m11 hb
     replace m13:=aU m13 hb
     replace mB:=dY mB hb
     clear hb
     cases hpk:Gs p with
     |false =>
      have HZ:=Lib.hid (HX4.out.trans (if_pos hpk))
      clear hpk HX4
      go_wp2
      go_ret
      exact ⟨yY,mB⟩
     |true =>
      have HX5:=Lib.hid (HX4.out.trans (if_neg (by rw [hpk];decide)))
      clear HX4 hpk
      obtain ⟨WR,WS,aqg,aqh⟩:=xy m9
      go_wp2_with fail
      clear WR WS aqg aqh
      have hcon:=au2 g s v x t A c l W5 hT hSV hVN hbx HTT.out.1 HTT.out.2 (Kd.bB hC mB) hc HLA.out.1 HLA.out.2
      (with_reducible refine hcon.mono ?_)
      clear hcon
      rintro e W6 ⟨v0_,rfl,HR,hb⟩
      have hs5:w.heap.size≤W5.heap.size:=mB.size
      replace hT:=hT.below hb
      replace m7:=aU m7 hb
      replace m8:=aU m8 hb
      replace m9:=aU m9 hb
      replace m11:=aU m11 hb
      replace m13:=aU m13 hb
      replace mB:=dY mB hb
      clear hb
      replace HR:=Kd.lX HR hs5
      clear hs5
      have hrl:Hid ((uJ s v l x t 0 []).1.length≤64):=Lib.hid (Nat.le_trans (aeG s v l x t 0 []) (by have:=HLA.out.1;simp only [List.length_nil];omega))
      generalize uJ s v l x t 0 [] = R at*
      obtain ⟨R1,R2,R3⟩:=R
      dsimp only at HR hrl HX5 ⊢
      obtain ⟨Ao,co,rfl⟩:=Kd.nR HR
      by_cases h2:R3 = 0
      case neg =>
       have HZ:=Lib.hid (HX5.out.trans (if_pos h2))
       have hd1:(R3 == 0) = false:=beq_eq_false_iff_ne.2 h2
       have hd2:(R3 != 0) = true:=by rw [bne,hd1];rfl
       clear h2 HX5
       go_wp2
       go_ret
       exact ⟨yY,mB⟩
      case pos =>
       have HX6:=Lib.hid (HX5.out.trans (if_neg (fun h=>h h2)))
       clear HX5
       subst h2
       obtain ⟨aaK,aaL,ad1,ad2,aor,aos,aot⟩:=Mk m8
       obtain ⟨aou,aov⟩:=GJ m11
       go_wp2_with fail
       clear aaK aaL ad1 ad2 aor aos aot aou aov
       have hcon:=aeC v ev A c l W6 HVB.out HBN.out (Kd.bB hC mB) hc HLA.out.1
       (with_reducible refine hcon.mono ?_)
       clear hcon
       rintro e W7 ⟨v1_,rfl,HE,hb⟩
       clear HE
       replace HR:=Kd.mH HR hb
       replace m7:=aU m7 hb
       replace m8:=aU m8 hb
       replace m9:=aU m9 hb
       replace m11:=aU m11 hb
       replace m13:=aU m13 hb
       replace mB:=dY mB hb
       clear hb
       generalize enI v l ev 0 [] = Q at*
       obtain ⟨Q1,Q2,Q3⟩:=Q
       dsimp only at HX6 ⊢
       by_cases h3:Q3 = 0
       case neg =>
        have HZ:=Lib.hid (HX6.out.trans (if_pos h3))
        have hd1:(Q3 == 0) = false:=beq_eq_false_iff_ne.2 h3
        have hd2:(Q3 != 0) = true:=by rw [bne,hd1];rfl
        clear h3 HX6
        go_wp2
        go_ret
        exact ⟨yY,mB⟩
       case pos =>
        have HX7:=Lib.hid (HX6.out.trans (if_neg (fun h=>h h3)))
        clear HX6
        subst h3
        obtain ⟨aaK,aaL,ad1,ad2,aor,aos,aot⟩:=Mk m8
        obtain ⟨aow,aox,aoy,aoz,aoA,aoB⟩:=aGH m13
        go_wp2_with fail
        clear aaK aaL ad1 ad2 aor aos aot aow aox aoy aoz aoA aoB
        have hcon:=gM.calls 65 v.speed v.dive v.use.f0 v.use.f1 v.drift.f0 v.drift.f1 v.reserve t Ao co R1 p.f0.f0.f0 p.f0.f0.f1 p.f0.f1.f0 p.f0.f1.f1 p.f1 p.f2 _ W7 (Kd.gZ HR).2.2 (Kd.gZ HR).2.1 (aop v HVB.out p R1 hrl.out t HTT.out 65 (by have:=hrl.out;omega))
        (with_reducible refine hcon.mono ?_)
        clear hcon
        rintro e W8 ⟨rfl,hb⟩
        replace m7:=aU m7 hb
        replace m8:=aU m8 hb
        replace m9:=aU m9 hb
        replace m11:=aU m11 hb
        replace m13:=aU m13 hb
        replace mB:=dY mB hb
        clear hb
        generalize OI v.dive p R1 t 0 = F at*
        by_cases h4:F = 2
        case neg =>
         have HZ:=Lib.hid (HX7.out.trans (if_pos h4))
         have hd1:(F == 2) = false:=beq_eq_false_iff_ne.2 h4
         have hd2:(F != 2) = true:=by rw [bne,hd1];rfl
         clear h4 HX7
         go_wp2
         go_ret
         exact ⟨yY,mB⟩
        case pos =>
         have HZ:=Lib.hid (HX7.out.trans (if_neg (fun h=>h h4)))
         subst h4
         clear HX7
         go_wp2
         go_ret
         exact ⟨yY,mB⟩
end Go.Proofs.Ytmhaiihjfgfaoaa.Gl
end
section
namespace Go.Proofs.Ytmhaiihjfgfaoaa.Pr
open Go.RowKit Go.Proofs.YtmhaiihjfgfaoaaW.PrintWords Go.Proofs.YtmhaiihjfgfaoaaW.PrintLast Go.Proofs.YtmhaiihjfgfaoaaW.PrintMore Go.Proofs.Ytmhaiihjfgfaoaa.Gl
set_option linter.unusedVariables false
def oh.f (ai:Int) (aj:Int) (aC:Int) (aD:Int) (aJ:Int) (aH:Int) (aK:Int) (aT:List Bool) (ak:List (rq)) (aI:Int) (aG:Int) (bn:Int) (bq:Int) (bH:Int) (bI:Int) (bG:Int) (bZ:Int) (cz:Int) (dw:Int) (dx:Int) (a3:Int) (gD:Int) (gF:Int) (l5:List (xN)) (fO:Int) (fP:Int) (fQ:Int) (fT:Int) (fH:Int) (fI:Int):Option (Int):=some (OJ ⟨ai,aj,aC,aD,aJ,aH,aK,aT,ak⟩ ⟨aI,aG,⟨bn,bq⟩,⟨bH,bI⟩,bG⟩ ⟨⟨bZ,cz⟩,⟨dw,dx⟩⟩ a3 ⟨gD,gF⟩ l5 ⟨⟨⟨fO,fP⟩,⟨fQ,fT⟩⟩,fH,fI⟩)
theorem oh.calls (ai:Int) (aj:Int) (aC:Int) (aD:Int) (aJ:Int) (aH:Int) (aK:Int) (dW:Option Addr) (dN:Nat) (aT:List Bool) (dZ:Option Addr) (dO:Nat) (ak:List (rq)) (aI:Int) (aG:Int) (bn:Int) (bq:Int) (bH:Int) (bI:Int) (bG:Int) (bZ:Int) (cz:Int) (dw:Int) (dx:Int) (a3:Int) (gD:Int) (gF:Int) (A5:Option Addr) (c5:Nat) (l5:List (xN)) (fO:Int) (fP:Int) (fQ:Int) (fT:Int) (fH:Int) (fI:Int) (r:Int) (w:World) (jT:Kd.C Kd.bool w dW aT.length aT) (jU:aT.length≤dN) (jV:Kd.C GI w dZ ak.length ak) (jW:ak.length≤dO) (hr5:Kd.C k33 w A5 l5.length l5) (hc5:l5.length≤c5) (h:oh.f ai aj aC aD aJ aH aK aT ak aI aG bn bq bH bI bG bZ cz dw dx a3 gD gF l5 fO fP fQ fT fH fI = some r):
 Calls Try.prog 48 #[.agg #[U Z ai,U Z aj,U Z aC,U Z aD,U Z aJ,U Z aH,U Z aK,.slice dW aT.length dN,.slice dZ ak.length dO],.agg #[U Z aI,U Z aG,U Z bn,U Z bq,U Z bH,U Z bI,U Z bG],.agg #[U Z bZ,U Z cz,U Z dw,U Z dx],U Z a3,.agg #[U Z gD,U Z gF],.slice A5 l5.length c5,.agg #[U Z fO,U Z fP,U Z fQ,U Z fT,U Z fH,U Z fI]] w fun e w'=>e = .returned (U Z r)∧Below w.heap.size w w':=by
 cases h
 exact Vy ⟨ai,aj,aC,aD,aJ,aH,aK,aT,ak⟩ ⟨aI,aG,⟨bn,bq⟩,⟨bH,bI⟩,bG⟩ ⟨⟨bZ,cz⟩,⟨dw,dx⟩⟩ a3 ⟨gD,gF⟩ A5 c5 l5 ⟨⟨⟨fO,fP⟩,⟨fQ,fT⟩⟩,fH,fI⟩ dW dZ dN dO w jU jT jW jV hr5 hc5
end Go.Proofs.Ytmhaiihjfgfaoaa.Pr
end
