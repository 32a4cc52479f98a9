import Derived.Laws.EntriesVeiled
import Derived.Test.YtmhaiihjfgfaoaaGnGliderNever3
import Derived.Test.YtmhaiihjfgfaoaaGnGliderNever25
import Derived.Test.YtmhaiihjfgfaoaaGnGliderNever19
set_option linter.unusedSimpArgs false
set_option linter.unusedVariables false
open Go.Value renaming int → Z
open Go.IntKind renaming i64 → ab
open Bool renaming true → ac, false → al
section
namespace Go.Proofs.Ytmhaiihjfgfaoaa.Gl
open Go.RowKit Go.Shelf Go.Proofs.YtmhaiihjfgfaoaaW.PrintWords Go.Proofs.YtmhaiihjfgfaoaaW.PrintLast Go.Proofs.YtmhaiihjfgfaoaaW.PrintMore Go.Proofs.Ytmhaiihjfgfaoaa.Pr Go.Proofs.YtmhaiihjfgfaoaaW.Round
set_option linter.unusedVariables false
set_option linter.unusedSimpArgs false
attribute [local go_sem] dw dx dM dN dz
attribute [local go_sem] Oper.semAt_some
def Ld (s:fT) (v:iw) (x:cZ) (t:Int) (e:gm) (p:xz) (d:Int):List eQ × Int × Int:=((Lc s v x t e p d).1,(Lc s v x t e p d).2,BO s v x t e p d)
theorem agj {s:fT} {v:iw} {x:cZ} {t:Int} {e:gm} {p:xz} {d E:Int} (h:BO s v x t e p d = E) (h0:E≠0):Ld s v x t e p d = ([],0,E):=by
 unfold Ld Lc
 rw [h,if_neg h0]
def aiX (R:List eQ × Int × Int) (w:World) (e:Ending) (w':World):Prop:=∃ Ur:Value,e = .returned (.tuple #[Ur,Z ab R.2.1,Z ab R.2.2])∧Kd.R TP 33 w' w.heap.size (fun _=>True) Ur R.1∧Below w.heap.size w w'
theorem acG (s:fT) (v:iw) (p:xz) (x:cZ) (t:Int) (e:gm) (n:Nat):pM s v p x t e (n+1) = sK s v p (n+1) x t e.f0 0 [] false (pM s v p x t e n):=rfl
set_option maxRecDepth 100000 in
set_option maxHeartbeats 32000000 in
theorem aiY (s:fT) (v:iw) (x:cZ) (t:Int) (ev:gm) (p:xz) (d:Int) (A7 A8:Option Addr) (c7 c8:Nat) (w:World) (h7:s.shores.length≤c7) (Ry:Kd.C Kd.bool w A7 s.shores.length s.shores) (h8:s.currents.length≤c8) (JL:Kd.C Cm w A8 s.currents.length s.currents):
 Calls Try.prog 57 #[.agg #[Z ab s.nx,Z ab s.ny,Z ab s.cell,Z ab s.slot,Z ab s.slots,Z ab s.layers,Z ab s.most,.slice A7 s.shores.length c7,.slice A8 s.currents.length c8],.agg #[Z ab v.speed,Z ab v.dive,Z ab v.use.f0,Z ab v.use.f1,Z ab v.drift.f0,Z ab v.drift.f1,Z ab v.reserve],.agg #[Z ab x.f0.f0,Z ab x.f0.f1,Z ab x.f1.f0,Z ab x.f1.f1],Z ab t,.agg #[Z ab ev.f0,Z ab ev.f1],.agg #[Z ab p.f0.f0.f0,Z ab p.f0.f0.f1,Z ab p.f0.f1.f0,Z ab p.f0.f1.f1,Z ab p.f1,Z ab p.f2],Z ab d] w (aiX (Ld s v x t ev p d) w):=by
 have Cn:=Try.underlying25
 have pG:=Try.underlying31
 have F5:=Try.underlying33
 have mE:=Try.underlying27
 have xX:=Try.underlying29
 have abI:=Try.underlying81
 have HX:Hid (BO s v x t ev p d = if eB s v x t≠0 then eB s v x t else if ou ev.f0 ev.f1 0 1073741824 = false then 2 else if sJ p = false then 2 else if d < 1 then 3 else if 3 < d then 3
  else if (pM s v p x t ev d.toNat).2 < 0 then 15 else 0):=Lib.hid rfl
 have HERR:Hid (∀ E,BO s v x t ev p d = E→E≠0→Ld s v x t ev p d = ([],0,E)):=Lib.hid (fun E h h0=>agj h h0)
 have HOK:Hid (BO s v x t ev p d = 0→Ld s v x t ev p d = ((pM s v p x t ev d.toNat).1,(pM s v p x t ev d.toNat).2,0)):=Lib.hid (fun h=>by unfold Ld Lc;rw [h,if_pos rfl])
 generalize BO s v x t ev p d = EE at*
 generalize Ld s v x t ev p d = RR at*
 have hbg:eB s v x t = if il s v≠0 then il s v else ow x t:=rfl
 have HBG:=Lib.hid hbg
 clear hbg
 go_enter Try.func57,Try.ntmps57
 go_wp2_with fail
 have m7:aZ (((((w.alloc (.cells #[Z ab s.nx,Z ab s.ny,Z ab s.cell,Z ab s.slot,Z ab s.slots,Z ab s.layers,Z ab s.most,.slice A7 s.shores.length c7,.slice A8 s.currents.length c8] 25)).alloc (.cells #[Z ab v.speed,Z ab v.dive,Z ab v.use.f0,Z ab v.use.f1,Z ab v.drift.f0,Z ab v.drift.f1,Z ab v.reserve] 29)).alloc (.cells #[Z ab x.f0.f0,Z ab x.f0.f1,Z ab x.f1.f0,Z ab x.f1.f1] 31)).alloc (.cells #[Z ab ev.f0,Z ab ev.f1] 27)).alloc (.cells #[Z ab p.f0.f0.f0,Z ab p.f0.f0.f1,Z ab p.f0.f1.f0,Z ab p.f0.f1.f1,Z ab p.f1,Z ab p.f2] 81)) (w.heap.size) #[Z ab s.nx,Z ab s.ny,Z ab s.cell,Z ab s.slot,Z ab s.slots,Z ab s.layers,Z ab s.most,.slice A7 s.shores.length c7,.slice A8 s.currents.length c8] 25:=(aa (aa (aa (aa RI _) _) _) _)
 have m8:aZ (((((w.alloc (.cells #[Z ab s.nx,Z ab s.ny,Z ab s.cell,Z ab s.slot,Z ab s.slots,Z ab s.layers,Z ab s.most,.slice A7 s.shores.length c7,.slice A8 s.currents.length c8] 25)).alloc (.cells #[Z ab v.speed,Z ab v.dive,Z ab v.use.f0,Z ab v.use.f1,Z ab v.drift.f0,Z ab v.drift.f1,Z ab v.reserve] 29)).alloc (.cells #[Z ab x.f0.f0,Z ab x.f0.f1,Z ab x.f1.f0,Z ab x.f1.f1] 31)).alloc (.cells #[Z ab ev.f0,Z ab ev.f1] 27)).alloc (.cells #[Z ab p.f0.f0.f0,Z ab p.f0.f0.f1,Z ab p.f0.f1.f0,Z ab p.f0.f1.f1,Z ab p.f1,Z ab p.f2] 81)) (w.heap.size+1) #[Z ab v.speed,Z ab v.dive,Z ab v.use.f0,Z ab v.use.f1,Z ab v.drift.f0,Z ab v.drift.f1,Z ab v.reserve] 29:=(aa (aa (aa TS _) _) _)
 have m9:aZ (((((w.alloc (.cells #[Z ab s.nx,Z ab s.ny,Z ab s.cell,Z ab s.slot,Z ab s.slots,Z ab s.layers,Z ab s.most,.slice A7 s.shores.length c7,.slice A8 s.currents.length c8] 25)).alloc (.cells #[Z ab v.speed,Z ab v.dive,Z ab v.use.f0,Z ab v.use.f1,Z ab v.drift.f0,Z ab v.drift.f1,Z ab v.reserve] 29)).alloc (.cells #[Z ab x.f0.f0,Z ab x.f0.f1,Z ab x.f1.f0,Z ab x.f1.f1] 31)).alloc (.cells #[Z ab ev.f0,Z ab ev.f1] 27)).alloc (.cells #[Z ab p.f0.f0.f0,Z ab p.f0.f0.f1,Z ab p.f0.f1.f0,Z ab p.f0.f1.f1,Z ab p.f1,Z ab p.f2] 81)) (w.heap.size+1+1) #[Z ab x.f0.f0,Z ab x.f0.f1,Z ab x.f1.f0,Z ab x.f1.f1] 31:=(aa (aa aby _) _)
 have m11:aZ (((((w.alloc (.cells #[Z ab s.nx,Z ab s.ny,Z ab s.cell,Z ab s.slot,Z ab s.slots,Z ab s.layers,Z ab s.most,.slice A7 s.shores.length c7,.slice A8 s.currents.length c8] 25)).alloc (.cells #[Z ab v.speed,Z ab v.dive,Z ab v.use.f0,Z ab v.use.f1,Z ab v.drift.f0,Z ab v.drift.f1,Z ab v.reserve] 29)).alloc (.cells #[Z ab x.f0.f0,Z ab x.f0.f1,Z ab x.f1.f0,Z ab x.f1.f1] 31)).alloc (.cells #[Z ab ev.f0,Z ab ev.f1] 27)).alloc (.cells #[Z ab p.f0.f0.f0,Z ab p.f0.f0.f1,Z ab p.f0.f1.f0,Z ab p.f0.f1.f1,Z ab p.f1,Z ab p.f2] 81)) (w.heap.size+1+1+1) #[Z ab ev.f0,Z ab ev.f1] 27:=(aa ast _)
 have m12:aZ (((((w.alloc (.cells #[Z ab s.nx,Z ab s.ny,Z ab s.cell,Z ab s.slot,Z ab s.slots,Z ab s.layers,Z ab s.most,.slice A7 s.shores.length c7,.slice A8 s.currents.length c8] 25)).alloc (.cells #[Z ab v.speed,Z ab v.dive,Z ab v.use.f0,Z ab v.use.f1,Z ab v.drift.f0,Z ab v.drift.f1,Z ab v.reserve] 29)).alloc (.cells #[Z ab x.f0.f0,Z ab x.f0.f1,Z ab x.f1.f0,Z ab x.f1.f1] 31)).alloc (.cells #[Z ab ev.f0,Z ab ev.f1] 27)).alloc (.cells #[Z ab p.f0.f0.f0,Z ab p.f0.f0.f1,Z ab p.f0.f1.f0,Z ab p.f0.f1.f1,Z ab p.f1,Z ab p.f2] 81)) (w.heap.size+1+1+1+1) #[Z ab p.f0.f0.f0,Z ab p.f0.f0.f1,Z ab p.f0.f1.f0,Z ab p.f0.f1.f1,Z ab p.f1,Z ab p.f2] 81:=asu
 have mB:Below w.heap.size w (((((w.alloc (.cells #[Z ab s.nx,Z ab s.ny,Z ab s.cell,Z ab s.slot,Z ab s.slots,Z ab s.layers,Z ab s.most,.slice A7 s.shores.length c7,.slice A8 s.currents.length c8] 25)).alloc (.cells #[Z ab v.speed,Z ab v.dive,Z ab v.use.f0,Z ab v.use.f1,Z ab v.drift.f0,Z ab v.drift.f1,Z ab v.reserve] 29)).alloc (.cells #[Z ab x.f0.f0,Z ab x.f0.f1,Z ab x.f1.f0,Z ab x.f1.f1] 31)).alloc (.cells #[Z ab ev.f0,Z ab ev.f1] 27)).alloc (.cells #[Z ab p.f0.f0.f0,Z ab p.f0.f0.f1,Z ab p.f0.f1.f0,Z ab p.f0.f1.f1,Z ab p.f1,Z ab p.f2] 81)):=(ai (ai (ai (ai (ai (Below.refl w.heap.size w) _) _) _) _) _)
 have dU:w.heap.size≤w.heap.size:=Nat.le_refl _
 generalize jq:(((((w.alloc (.cells #[Z ab s.nx,Z ab s.ny,Z ab s.cell,Z ab s.slot,Z ab s.slots,Z ab s.layers,Z ab s.most,.slice A7 s.shores.length c7,.slice A8 s.currents.length c8] 25)).alloc (.cells #[Z ab v.speed,Z ab v.dive,Z ab v.use.f0,Z ab v.use.f1,Z ab v.drift.f0,Z ab v.drift.f1,Z ab v.reserve] 29)).alloc (.cells #[Z ab x.f0.f0,Z ab x.f0.f1,Z ab x.f1.f0,Z ab x.f1.f1] 31)).alloc (.cells #[Z ab ev.f0,Z ab ev.f1] 27)).alloc (.cells #[Z ab p.f0.f0.f0,Z ab p.f0.f0.f1,Z ab p.f0.f1.f0,Z ab p.f0.f1.f1,Z ab p.f1,Z ab p.f2] 81)) = W1 at m7 m8 m9 m11 m12 mB ⊢
 clear jq
 generalize hg7:w.heap.size = g7 at m7 m8 m9 m11 m12 ⊢
 have hG7:w.heap.size≤g7:=by omega
 generalize hg8:g7+1 = g8 at m8 m9 m11 m12 ⊢
 have oq:g7≠g8:=by omega
 have iY:g8≠g7:=oq.symm
 have Sa:w.heap.size≤g8:=by omega
 generalize hg9:g8+1 = g9 at m9 m11 m12 ⊢
 have xS:g7≠g9:=by omega
 have KO:g8≠g9:=by omega
 have PT:g9≠g7:=xS.symm
 have abP:g9≠g8:=KO.symm
 have hG9:w.heap.size≤g9:=by omega
 generalize Uu:g9+1 = g11 at m11 m12 ⊢
 have nN:g7≠g11:=by omega
 have Aq:g8≠g11:=by omega
 have qy:g9≠g11:=by omega
 have qJ:g11≠g7:=nN.symm
 have wP:g11≠g8:=Aq.symm
 have ad7:g11≠g9:=qy.symm
 have PU:w.heap.size≤g11:=by omega
 generalize agN:g11+1 = g12 at m12 ⊢
 have qz:g7≠g12:=by omega
 have aej:g8≠g12:=by omega
 have qA:g9≠g12:=by omega
 have lD:g11≠g12:=by omega
 have al6:g12≠g7:=qz.symm
 have al7:g12≠g8:=aej.symm
 have al8:g12≠g9:=qA.symm
 have Za:g12≠g11:=lD.symm
 have Fp:w.heap.size≤g12:=by omega
 clear dU
 try clear agN
 try clear Uu
 try clear hg9
 try clear hg8
 try clear hg7
 have lC:w.heap.size≤W1.heap.size:=mB.size
 skip
 have uZ:=aD m7
 have xU:=aD m8
 have abA:=aD m9
 have qI:=aD m11
 have FX:=aD m12
 obtain ⟨zP,zQ,Co,Cq,Vl,Vm,Vn,ah1,ah2⟩:=EW m7
 obtain ⟨yz,F7,JW,JX,abQ,abR,abS⟩:=vg m8
 obtain ⟨JS,JU,Yn,Yo⟩:=mH m9
 go_wp2_with fail
 clear zP zQ Co Cq Vl Vm Vn ah1 ah2 yz F7 JW JX abQ abR abS JS JU Yn Yo
 skip
 have hcon:=Qi s v x t A7 A8 c7 c8 w W1 mB h7 Ry h8 JL
 (with_reducible refine hcon.mono ?_)
 clear hcon
 rintro e W2 ⟨ptr,rfl,hb,hpt⟩
 replace m7:=af m7 hb
 replace m8:=af m8 hb
 replace m9:=af m9 hb
 replace m11:=af m11 hb
 replace m12:=af m12 hb
 replace mB:=aJ mB hb
 clear hb
 have mY:w.heap.size≤W2.heap.size:=mB.size
 generalize Sk:eB s v x t = E0 at*
 have HE0:=Lib.hid Sk
 clear Sk
 by_cases h0:E0 = 0
 case neg =>
  have HZ:=Lib.hid (HX.out.trans (if_pos h0))
  have hd1:(E0 == 0) = false:=beq_eq_false_iff_ne.2 h0
  have hd2:(E0 != 0) = true:=by rw [bne,hd1];rfl
  have HH0:=Lib.hid h0
  clear h0 hpt HX
  have HR:=Lib.hid (HERR.out _ HZ.out HH0.out)
  go_wp2
  go_ret3
  exact ⟨_,BU,agk,acH⟩
 case pos =>
  have RS:=Lib.hid (HX.out.trans (if_neg (fun h=>h h0)))
  clear HX
  have hb0:=HBG.out.symm.trans h0
  obtain ⟨ht0,hp0⟩:=mg hb0
  obtain ⟨hbx,J3,P9⟩:=yB hp0
  obtain ⟨hSV,hVN⟩:=ve ht0
  have HVB:=Lib.hid (KN ht0)
  rcases hpt with ⟨_,g,rfl,hg,hT,hTT⟩|⟨hbad,_⟩
  case inr=>exact absurd ht0 hbad
  case inl =>
   subst h0
   clear hb0 ht0 hp0 HBG
   have HTT:=Lib.hid (And.intro J3 P9)
   clear J3 P9
   obtain ⟨B7,d7,B8,d8,mT,_⟩:=hT
   have hTA:∀ W',Below w.heap.size w W'→aZ W' g #[Z ab s.nx,Z ab s.ny,Z ab s.cell,Z ab s.slot,Z ab s.slots,Z ab s.layers,Z ab s.most,.slice B7 s.shores.length d7,.slice B8 s.currents.length d8,Z ab v.speed,Z ab v.dive,Z ab v.use.f0,Z ab v.use.f1,Z ab v.drift.f0,Z ab v.drift.f1,Z ab v.reserve] 110→dZ W' g s v:=fun W' h1 h2=>hTT W' h1 (h2.trans mT.symm)
   have HTA:=Lib.hid hTA
   clear hTA hTT
   have pq:g≠g7:=by omega
   have PS:=pq.symm
   have vz:g≠g8:=by omega
   have UH:=vz.symm
   have Ce:g≠g9:=by omega
   have TF:=Ce.symm
   have pV:g≠g11:=by omega
   have UI:=pV.symm
   have nM:g≠g12:=by omega
   have Tu:=nM.symm
   have hGT:w.heap.size≤g:=by omega
   clear uZ xU abA qI FX hg
   skip
   have CK:∀ o_,(W2.alloc o_).cell? ⟨g11,0,none⟩ = some (Z ab ev.f0):=fun o_=>(ae (aa m11 o_) 0).trans rfl
   have Qu:∀ o_,(W2.alloc o_).cell? ⟨g11,1,none⟩ = some (Z ab ev.f1):=fun o_=>(ae (aa m11 o_) 1).trans rfl
   go_wp2_with fail
   clear CK Qu
   skip
   have uZ:=aD m7
   have xU:=aD m8
   have abA:=aD m9
   have qI:=aD m11
   have FX:=aD m12
   have mF:=aD mT
   have m17:aZ (W2.alloc (.cells #[.pointer (some ⟨g,0,none⟩)] 104)) (W2.heap.size) #[.pointer (some ⟨g,0,none⟩)] 104:=ar1
   replace m7:aZ (W2.alloc (.cells #[.pointer (some ⟨g,0,none⟩)] 104)) g7 #[Z ab s.nx,Z ab s.ny,Z ab s.cell,Z ab s.slot,Z ab s.slots,Z ab s.layers,Z ab s.most,.slice A7 s.shores.length c7,.slice A8 s.currents.length c8] 25:=(aa m7 _)
   replace m8:aZ (W2.alloc (.cells #[.pointer (some ⟨g,0,none⟩)] 104)) g8 #[Z ab v.speed,Z ab v.dive,Z ab v.use.f0,Z ab v.use.f1,Z ab v.drift.f0,Z ab v.drift.f1,Z ab v.reserve] 29:=(aa m8 _)
   replace m9:aZ (W2.alloc (.cells #[.pointer (some ⟨g,0,none⟩)] 104)) g9 #[Z ab x.f0.f0,Z ab x.f0.f1,Z ab x.f1.f0,Z ab x.f1.f1] 31:=(aa m9 _)
   replace m11:aZ (W2.alloc (.cells #[.pointer (some ⟨g,0,none⟩)] 104)) g11 #[Z ab ev.f0,Z ab ev.f1] 27:=(aa m11 _)
   replace m12:aZ (W2.alloc (.cells #[.pointer (some ⟨g,0,none⟩)] 104)) g12 #[Z ab p.f0.f0.f0,Z ab p.f0.f0.f1,Z ab p.f0.f1.f0,Z ab p.f0.f1.f1,Z ab p.f1,Z ab p.f2] 81:=(aa m12 _)
   replace mT:aZ (W2.alloc (.cells #[.pointer (some ⟨g,0,none⟩)] 104)) g #[Z ab s.nx,Z ab s.ny,Z ab s.cell,Z ab s.slot,Z ab s.slots,Z ab s.layers,Z ab s.most,.slice B7 s.shores.length d7,.slice B8 s.currents.length d8,Z ab v.speed,Z ab v.dive,Z ab v.use.f0,Z ab v.use.f1,Z ab v.drift.f0,Z ab v.drift.f1,Z ab v.reserve] 110:=(aa mT _)
   replace mB:Below w.heap.size w (W2.alloc (.cells #[.pointer (some ⟨g,0,none⟩)] 104)):=(ai mB _)
   have dU:w.heap.size≤W2.heap.size:=mY
   generalize jq:(W2.alloc (.cells #[.pointer (some ⟨g,0,none⟩)] 104)) = W3 at m7 m8 m9 m11 m12 mT m17 mB ⊢
   clear jq
   generalize abH:W2.heap.size = g17 at m17 ⊢
   have GD:g7≠g17:=by omega
   have GG:g8≠g17:=by omega
   have aek:g9≠g17:=by omega
   have CL:g11≠g17:=by omega
   have Zt:g12≠g17:=by omega
   have qK:g≠g17:=by omega
   have UJ:g17≠g7:=GD.symm
   have UK:g17≠g8:=GG.symm
   have al9:g17≠g9:=aek.symm
   have Qp:g17≠g11:=CL.symm
   have aiZ:g17≠g12:=Zt.symm
   have wS:g17≠g:=qK.symm
   have als:w.heap.size≤g17:=by omega
   clear dU uZ xU abA qI FX mF
   try clear abH
   have uY:w.heap.size≤W3.heap.size:=mB.size
   have hcon:=ME ev.f0 ev.f1 0 1073741824 W3
   (with_reducible refine hcon.mono ?_)
   clear hcon
   rintro e W4 ⟨rfl,hb⟩
   replace m7:=af m7 hb
   replace m8:=af m8 hb
   replace m9:=af m9 hb
   replace m11:=af m11 hb
   replace m12:=af m12 hb
   replace mT:=af mT hb
   replace m17:=af m17 hb
   replace mB:=aJ mB hb
   clear hb
   have E5:w.heap.size≤W4.heap.size:=mB.size
   cases hbn:ou ev.f0 ev.f1 0 1073741824 with
   |false =>
    have HZ:=Lib.hid (RS.out.trans (if_pos hbn))
    clear hbn RS
    have HR:=Lib.hid (HERR.out _ HZ.out (by decide))
    go_wp2
    go_ret3
    exact ⟨_,BU,agk,acH⟩
   |true =>
    have YZ:=Lib.hid (RS.out.trans (if_neg (by rw [hbn];decide)))
    have HBN:=Lib.hid (Gc.1 hbn)
    clear RS hbn
    obtain ⟨Ym,asU,asV,asW,asX,asY⟩:=Y6 m12
    go_wp2_with fail
    clear Ym asU asV asW asX asY
    skip
    have hcon:=ib.calls 4 p.f0.f0.f0 p.f0.f0.f1 p.f0.f1.f0 p.f0.f1.f1 p.f1 p.f2 _ W4 (KD p)
    (with_reducible refine hcon.mono ?_)
    clear hcon
    rintro e W5 ⟨rfl,hb⟩
    replace m7:=af m7 hb
    replace m8:=af m8 hb
    replace m9:=af m9 hb
    replace m11:=af m11 hb
    replace m12:=af m12 hb
    replace mT:=af mT hb
    replace m17:=af m17 hb
    replace mB:=aJ mB hb
    clear hb
    have E8:w.heap.size≤W5.heap.size:=mB.size
    cases hpk:sJ p with
    |false =>
     have HZ:=Lib.hid (YZ.out.trans (if_pos hpk))
     clear hpk YZ
     have HR:=Lib.hid (HERR.out _ HZ.out (by decide))
     go_wp2
     go_ret3
     exact ⟨_,BU,agk,acH⟩
    |true =>
     have HX4:=Lib.hid (YZ.out.trans (if_neg (by rw [hpk];decide)))
     clear YZ hpk
     by_cases c1:d < 1
     case pos =>
      have HZ:=Lib.hid (HX4.out.trans (if_pos c1))
      have k1:decide (d < 1) = true:=decide_eq_true c1
      clear c1 HX4
      have HR:=Lib.hid (HERR.out _ HZ.out (by decide))
      go_wp2
      go_ret3
      exact ⟨_,BU,agk,acH⟩
     case neg =>
      have HX5:=Lib.hid (HX4.out.trans (if_neg c1))
      clear HX4
      have k1:decide (d < 1) = false:=decide_eq_false c1
      by_cases c2:3 < d
      case pos =>
       have HZ:=Lib.hid (HX5.out.trans (if_pos c2))
       have k2:decide (3 < d) = true:=decide_eq_true c2
       clear c1 c2 HX5
       have HR:=Lib.hid (HERR.out _ HZ.out (by decide))
       go_wp2
       go_ret3
       exact ⟨_,BU,agk,acH⟩
      case neg =>
       have HX6:=Lib.hid (HX5.out.trans (if_neg c2))
       clear HX5
       have k2:decide (3 < d) = false:=decide_eq_false c2
       skip
       go_upto_region 11 with fail
       skip
       clear k1 k2
       have uZ:=aD m7
       have xU:=aD m8
       have abA:=aD m9
       have qI:=aD m11
       have FX:=aD m12
       have mF:=aD mT
       have GH:=aD m17
       have m19:aZ (((W5.alloc (.cells #[.slice none 0 0] 49)).alloc (.cells #[Z ab (-1)] 2)).alloc (.cells #[.nilFunc] 141)) (W5.heap.size) #[.slice none 0 0] 49:=(aa (aa (by have h_:=bB W5 (.cells #[.slice none 0 0] 49);first|exact h_|(simp only [World.size_alloc] at h_;exact h_)) _) _)
       have m20:aZ (((W5.alloc (.cells #[.slice none 0 0] 49)).alloc (.cells #[Z ab (-1)] 2)).alloc (.cells #[.nilFunc] 141)) (W5.heap.size+1) #[Z ab (-1)] 2:=(aa (by have h_:=bB (W5.alloc (.cells #[.slice none 0 0] 49)) (.cells #[Z ab (-1)] 2);first|exact h_|(simp only [World.size_alloc] at h_;exact h_)) _)
       have m21:aZ (((W5.alloc (.cells #[.slice none 0 0] 49)).alloc (.cells #[Z ab (-1)] 2)).alloc (.cells #[.nilFunc] 141)) (W5.heap.size+1+1) #[.nilFunc] 141:=(by have h_:=bB ((W5.alloc (.cells #[.slice none 0 0] 49)).alloc (.cells #[Z ab (-1)] 2)) (.cells #[.nilFunc] 141);first|exact h_|(simp only [World.size_alloc] at h_;exact h_))
       replace m7:aZ (((W5.alloc (.cells #[.slice none 0 0] 49)).alloc (.cells #[Z ab (-1)] 2)).alloc (.cells #[.nilFunc] 141)) g7 #[Z ab s.nx,Z ab s.ny,Z ab s.cell,Z ab s.slot,Z ab s.slots,Z ab s.layers,Z ab s.most,.slice A7 s.shores.length c7,.slice A8 s.currents.length c8] 25:=(aa (aa (aa m7 _) _) _)
       replace m8:aZ (((W5.alloc (.cells #[.slice none 0 0] 49)).alloc (.cells #[Z ab (-1)] 2)).alloc (.cells #[.nilFunc] 141)) g8 #[Z ab v.speed,Z ab v.dive,Z ab v.use.f0,Z ab v.use.f1,Z ab v.drift.f0,Z ab v.drift.f1,Z ab v.reserve] 29:=(aa (aa (aa m8 _) _) _)
       replace m9:aZ (((W5.alloc (.cells #[.slice none 0 0] 49)).alloc (.cells #[Z ab (-1)] 2)).alloc (.cells #[.nilFunc] 141)) g9 #[Z ab x.f0.f0,Z ab x.f0.f1,Z ab x.f1.f0,Z ab x.f1.f1] 31:=(aa (aa (aa m9 _) _) _)
       replace m11:aZ (((W5.alloc (.cells #[.slice none 0 0] 49)).alloc (.cells #[Z ab (-1)] 2)).alloc (.cells #[.nilFunc] 141)) g11 #[Z ab ev.f0,Z ab ev.f1] 27:=(aa (aa (aa m11 _) _) _)
       replace m12:aZ (((W5.alloc (.cells #[.slice none 0 0] 49)).alloc (.cells #[Z ab (-1)] 2)).alloc (.cells #[.nilFunc] 141)) g12 #[Z ab p.f0.f0.f0,Z ab p.f0.f0.f1,Z ab p.f0.f1.f0,Z ab p.f0.f1.f1,Z ab p.f1,Z ab p.f2] 81:=(aa (aa (aa m12 _) _) _)
       replace mT:aZ (((W5.alloc (.cells #[.slice none 0 0] 49)).alloc (.cells #[Z ab (-1)] 2)).alloc (.cells #[.nilFunc] 141)) g #[Z ab s.nx,Z ab s.ny,Z ab s.cell,Z ab s.slot,Z ab s.slots,Z ab s.layers,Z ab s.most,.slice B7 s.shores.length d7,.slice B8 s.currents.length d8,Z ab v.speed,Z ab v.dive,Z ab v.use.f0,Z ab v.use.f1,Z ab v.drift.f0,Z ab v.drift.f1,Z ab v.reserve] 110:=(aa (aa (aa mT _) _) _)
       replace m17:aZ (((W5.alloc (.cells #[.slice none 0 0] 49)).alloc (.cells #[Z ab (-1)] 2)).alloc (.cells #[.nilFunc] 141)) g17 #[.pointer (some ⟨g,0,none⟩)] 104:=(aa (aa (aa m17 _) _) _)
       replace mB:Below w.heap.size w (((W5.alloc (.cells #[.slice none 0 0] 49)).alloc (.cells #[Z ab (-1)] 2)).alloc (.cells #[.nilFunc] 141)):=(ai (ai (ai mB _) _) _)
       have dU:w.heap.size≤W5.heap.size:=E8
       generalize jq:(((W5.alloc (.cells #[.slice none 0 0] 49)).alloc (.cells #[Z ab (-1)] 2)).alloc (.cells #[.nilFunc] 141)) = W6 at m7 m8 m9 m11 m12 mT m17 m19 m20 m21 mB ⊢
       clear jq
       generalize aif:W5.heap.size = g19 at m19 m20 m21 ⊢
       have ael:g7≠g19:=by omega
       have aem:g8≠g19:=by omega
       have aen:g9≠g19:=by omega
       have Zu:g11≠g19:=by omega
       have Zv:g12≠g19:=by omega
       have xJ:g≠g19:=by omega
       have oI:g17≠g19:=by omega
       have ama:g19≠g7:=ael.symm
       have amb:g19≠g8:=aem.symm
       have amc:g19≠g9:=aen.symm
       have ai0:g19≠g11:=Zu.symm
       have ai1:g19≠g12:=Zv.symm
       have Et:g19≠g:=xJ.symm
       have uf:g19≠g17:=oI.symm
       have alK:w.heap.size≤g19:=by omega
       generalize aCS:g19+1 = g20 at m20 m21 ⊢
       have aeo:g7≠g20:=by omega
       have aep:g8≠g20:=by omega
       have aeq:g9≠g20:=by omega
       have Zw:g11≠g20:=by omega
       have Zx:g12≠g20:=by omega
       have Nf:g≠g20:=by omega
       have IC:g17≠g20:=by omega
       have IE:g19≠g20:=by omega
       have amd:g20≠g7:=aeo.symm
       have ame:g20≠g8:=aep.symm
       have amf:g20≠g9:=aeq.symm
       have ai2:g20≠g11:=Zw.symm
       have ai3:g20≠g12:=Zx.symm
       have VI:g20≠g:=Nf.symm
       have QK:g20≠g17:=IC.symm
       have IG:g20≠g19:=IE.symm
       have aCT:w.heap.size≤g20:=by omega
       generalize aCU:g20+1 = g21 at m21 ⊢
       have aer:g7≠g21:=by omega
       have VJ:g8≠g21:=by omega
       have VK:g9≠g21:=by omega
       have QL:g11≠g21:=by omega
       have QM:g12≠g21:=by omega
       have VL:g≠g21:=by omega
       have QN:g17≠g21:=by omega
       have QO:g19≠g21:=by omega
       have QP:g20≠g21:=by omega
       have amg:g21≠g7:=aer.symm
       have amh:g21≠g8:=VJ.symm
       have ami:g21≠g9:=VK.symm
       have ai4:g21≠g11:=QL.symm
       have ai5:g21≠g12:=QM.symm
       have amj:g21≠g:=VL.symm
       have ai6:g21≠g17:=QN.symm
       have ai7:g21≠g19:=QO.symm
       have ai8:g21≠g20:=QP.symm
       have aCV:w.heap.size≤g21:=by omega
       clear dU uZ xU abA qI FX mF GH
       try clear aCU
       try clear aCS
       try clear aif
       have asZ:w.heap.size≤W6.heap.size:=mB.size
       have hLN:g20≠g19:=IG
       have h21:g8≠g21∧g9≠g21∧g11≠g21∧g12≠g21∧g≠g21∧g17≠g21∧g19≠g21∧g20≠g21:=⟨VJ,VK,QL,QM,VL,QN,QO,QP⟩
       clear m7
       try clear KO Aq aej
       try clear UH
       try clear GG aem aep VJ
       try clear abP qy qA
       try clear TF
       try clear aek aen aeq VK
       try clear wP ad7 lD
       try clear UI
       try clear CL Zu Zw QL
       try clear al7 al8 Za
       try clear Tu
       try clear Zt Zv Zx QM
       try clear vz Ce pV nM qK xJ Nf VL
       try clear UK al9 Qp aiZ
       try clear wS
       try clear oI IC QN
       try clear amb amc ai0 ai1
       try clear Et
       try clear uf IE QO
       try clear ame amf ai2 ai3
       try clear VI
       try clear QK IG QP
       try clear amh ami ai4 ai5
       try clear amj
       try clear ai6 ai7 ai8
       try clear oq iY
       try clear xS PT
       try clear nN qJ
       try clear qz al6
       try clear PS pq
       try clear GD UJ
       try clear ael ama
       try clear aeo amd
       try clear aer amg
       have ai9:=(ae m21 0).trans rfl
       have as0:=aK m21 0
       skip
       go_upto_region 12 with fail
       skip
       obtain ⟨as1,as2,aog,aoh,as3,aoi,aoj,aok⟩:=h21
       have n8:aZ (W6.setCell ⟨g21,0,none⟩ (.func (.func 107) #[] #[.pointer (some ⟨g20,0,none⟩),.pointer (some ⟨g19,0,none⟩),.pointer (some ⟨g17,0,none⟩),.pointer (some ⟨g8,0,none⟩),.pointer (some ⟨g12,0,none⟩),.pointer (some ⟨g21,0,none⟩)])) g8 #[Z ab v.speed,Z ab v.dive,Z ab v.use.f0,Z ab v.use.f1,Z ab v.drift.f0,Z ab v.drift.f1,Z ab v.reserve] 29:=ah (p:=⟨g21,0,none⟩) m8 as1 _
       have n9:aZ (W6.setCell ⟨g21,0,none⟩ (.func (.func 107) #[] #[.pointer (some ⟨g20,0,none⟩),.pointer (some ⟨g19,0,none⟩),.pointer (some ⟨g17,0,none⟩),.pointer (some ⟨g8,0,none⟩),.pointer (some ⟨g12,0,none⟩),.pointer (some ⟨g21,0,none⟩)])) g9 #[Z ab x.f0.f0,Z ab x.f0.f1,Z ab x.f1.f0,Z ab x.f1.f1] 31:=ah (p:=⟨g21,0,none⟩) m9 as2 _
       have n11:aZ (W6.setCell ⟨g21,0,none⟩ (.func (.func 107) #[] #[.pointer (some ⟨g20,0,none⟩),.pointer (some ⟨g19,0,none⟩),.pointer (some ⟨g17,0,none⟩),.pointer (some ⟨g8,0,none⟩),.pointer (some ⟨g12,0,none⟩),.pointer (some ⟨g21,0,none⟩)])) g11 #[Z ab ev.f0,Z ab ev.f1] 27:=ah (p:=⟨g21,0,none⟩) m11 aog _
       have n12:aZ (W6.setCell ⟨g21,0,none⟩ (.func (.func 107) #[] #[.pointer (some ⟨g20,0,none⟩),.pointer (some ⟨g19,0,none⟩),.pointer (some ⟨g17,0,none⟩),.pointer (some ⟨g8,0,none⟩),.pointer (some ⟨g12,0,none⟩),.pointer (some ⟨g21,0,none⟩)])) g12 #[Z ab p.f0.f0.f0,Z ab p.f0.f0.f1,Z ab p.f0.f1.f0,Z ab p.f0.f1.f1,Z ab p.f1,Z ab p.f2] 81:=ah (p:=⟨g21,0,none⟩) m12 aoh _
       have nT:aZ (W6.setCell ⟨g21,0,none⟩ (.func (.func 107) #[] #[.pointer (some ⟨g20,0,none⟩),.pointer (some ⟨g19,0,none⟩),.pointer (some ⟨g17,0,none⟩),.pointer (some ⟨g8,0,none⟩),.pointer (some ⟨g12,0,none⟩),.pointer (some ⟨g21,0,none⟩)])) g #[Z ab s.nx,Z ab s.ny,Z ab s.cell,Z ab s.slot,Z ab s.slots,Z ab s.layers,Z ab s.most,.slice B7 s.shores.length d7,.slice B8 s.currents.length d8,Z ab v.speed,Z ab v.dive,Z ab v.use.f0,Z ab v.use.f1,Z ab v.drift.f0,Z ab v.drift.f1,Z ab v.reserve] 110:=ah (p:=⟨g21,0,none⟩) mT as3 _
       have n17:aZ (W6.setCell ⟨g21,0,none⟩ (.func (.func 107) #[] #[.pointer (some ⟨g20,0,none⟩),.pointer (some ⟨g19,0,none⟩),.pointer (some ⟨g17,0,none⟩),.pointer (some ⟨g8,0,none⟩),.pointer (some ⟨g12,0,none⟩),.pointer (some ⟨g21,0,none⟩)])) g17 #[.pointer (some ⟨g,0,none⟩)] 104:=ah (p:=⟨g21,0,none⟩) m17 aoi _
       have n19:aZ (W6.setCell ⟨g21,0,none⟩ (.func (.func 107) #[] #[.pointer (some ⟨g20,0,none⟩),.pointer (some ⟨g19,0,none⟩),.pointer (some ⟨g17,0,none⟩),.pointer (some ⟨g8,0,none⟩),.pointer (some ⟨g12,0,none⟩),.pointer (some ⟨g21,0,none⟩)])) g19 #[.slice none 0 0] 49:=ah (p:=⟨g21,0,none⟩) m19 aoj _
       have n20:aZ (W6.setCell ⟨g21,0,none⟩ (.func (.func 107) #[] #[.pointer (some ⟨g20,0,none⟩),.pointer (some ⟨g19,0,none⟩),.pointer (some ⟨g17,0,none⟩),.pointer (some ⟨g8,0,none⟩),.pointer (some ⟨g12,0,none⟩),.pointer (some ⟨g21,0,none⟩)])) g20 #[Z ab (-1)] 2:=ah (p:=⟨g21,0,none⟩) m20 aok _
       have n21:aZ (W6.setCell ⟨g21,0,none⟩ (.func (.func 107) #[] #[.pointer (some ⟨g20,0,none⟩),.pointer (some ⟨g19,0,none⟩),.pointer (some ⟨g17,0,none⟩),.pointer (some ⟨g8,0,none⟩),.pointer (some ⟨g12,0,none⟩),.pointer (some ⟨g21,0,none⟩)])) g21 #[.func (.func 107) #[] #[.pointer (some ⟨g20,0,none⟩),.pointer (some ⟨g19,0,none⟩),.pointer (some ⟨g17,0,none⟩),.pointer (some ⟨g8,0,none⟩),.pointer (some ⟨g12,0,none⟩),.pointer (some ⟨g21,0,none⟩)]] 141:=az m21 0 _ rfl
       have nB:Below w.heap.size w (W6.setCell ⟨g21,0,none⟩ (.func (.func 107) #[] #[.pointer (some ⟨g20,0,none⟩),.pointer (some ⟨g19,0,none⟩),.pointer (some ⟨g17,0,none⟩),.pointer (some ⟨g8,0,none⟩),.pointer (some ⟨g12,0,none⟩),.pointer (some ⟨g21,0,none⟩)])):=Below.setCell (p:=⟨g21,0,none⟩) mB aCV _
       clear ai9 as0 mB m8 as1 m9 as2 m11 aog m12 aoh mT as3 m17 aoi m19 aoj m20 aok m21
       generalize jq:(W6.setCell ⟨g21,0,none⟩ (.func (.func 107) #[] #[.pointer (some ⟨g20,0,none⟩),.pointer (some ⟨g19,0,none⟩),.pointer (some ⟨g17,0,none⟩),.pointer (some ⟨g8,0,none⟩),.pointer (some ⟨g12,0,none⟩),.pointer (some ⟨g21,0,none⟩)])) = W7 at n8 n9 n11 n12 nT n17 n19 n20 n21 nB ⊢
       clear jq
       have m8:=n8
       clear n8
       have m9:=n9
       clear n9
       have m11:=n11
       clear n11
       have m12:=n12
       clear n12
       have mT:=nT
       clear nT
       have m17:=n17
       clear n17
       have m19:=n19
       clear n19
       have m20:=n20
       clear n20
       have m21:=n21
       clear n21
       have mB:=nB
       clear nB
       have aol:w.heap.size≤W7.heap.size:=mB.size
       have kG:=fun n=>Zr w s v p g g17 g8 g12 g21 g20 g19 B7 B8 d7 d8 (fun W' h1 h2=>HTA.out W' h1 h2) hSV hVN HVB.out aCT alK n
       have HC:bN W7 w.heap.size (.slice none 0 0) []:=bN.nil _ _
       have HD:Hid (1≤d∧d≤3):=Lib.hid (by omega)
       have HEV:Hid (0≤ev.f0∧ev.f0≤1073741824):=Lib.hid (by have h_:=HBN.out;omega)
       skip
       go_wp2
       skip
       go_loopw [22] (fun i wr=>∃ (k:Nat) (bv:Value),i = Z ab ((k:Int)+1)∧(k:Int)≤d∧agf w s v p g g17 g8 g12 g21 g20 g19 B7 B8 d7 d8 wr∧vD w g20 g19 bv (pM s v p x t ev k) wr∧aZ wr g9 #[Z ab x.f0.f0,Z ab x.f0.f1,Z ab x.f1.f0,Z ab x.f1.f1] 31∧aZ wr g11 #[Z ab ev.f0,Z ab ev.f1] 27) (fun i _=>(d+1 - intOf i).toNat)
       case atStart=>exact ⟨0,_,rfl,by omega,⟨mB,mT,m17,m8,m12,m21⟩,⟨m20,m19,HC⟩,m9,m11⟩
       case round =>
        clear m8 m9 m11 m12 mT m17 m19 m20 m21 mB HC aol
        obtain ⟨k,bv,rfl,hk,⟨mB,mT,m17,m8,m12,m21⟩,⟨m20,m19,HC⟩,m9,m11⟩:=hrel
        have adB:w.heap.size≤wr.heap.size:=mB.size
        obtain ⟨hd1,hd2⟩:=HD.out
        by_cases hkd:(k:Int)+1≤d
        case pos =>
         have kl:decide ((k:Int)+1≤d) = true:=decide_eq_true hkd
         have hcon:=kG (k+1) x t ev.f0 0 ((k:Int)+1) [] false (pM s v p x t ev k) (.slice none 0 0) bv wr (by omega) (by simp) (by simp;omega) hbx (by have h_:=HTT.out;simp;omega) HEV.out (by simp) ⟨mB,mT,m17,m8,m12,m21⟩ ⟨m20,m19,HC⟩ (bN.nil _ _) (fun _ _ he=>by cases he)
         rw [← acG] at hcon
         have ai9:=(ae m21 0).trans rfl
         obtain ⟨JS,JU,Yn,Yo⟩:=mH m9
         obtain ⟨CK,Qu⟩:=F8 m11
         go_wp2_with fail
         skip
         clear ai9 JS JU Yn Yo CK Qu
         (with_reducible refine hcon.mono ?_)
         clear hcon kl
         rintro e W9 ⟨⟨r_,rfl⟩,BP,SL,bv9,ha9,_⟩
         have hkp:=fun {q:Nat} {cs:Array Value} {ty:TypeId} (hb:aZ wr q cs ty) (h1:ty≠2) (h2:ty≠49)=>aZ.jJ BP hb (fH hb m20 h1) (fH hb m19 h2) (fun e=>by cases e)
         have hE9:agf w s v p g g17 g8 g12 g21 g20 g19 B7 B8 d7 d8 W9:=⟨mB.trans BP.1,hkp mT (by decide) (by decide),hkp m17 (by decide) (by decide),hkp m8 (by decide) (by decide),hkp m12 (by decide) (by decide),hkp m21 (by decide) (by decide)⟩
         have m9_:=hkp m9 (by decide) (by decide)
         have aCW:=hkp m11 (by decide) (by decide)
         clear hkp
         go_wp2
         skip
         go_roundw
         case rel=>exact ⟨k+1,bv9,by simp,by omega,hE9,ha9,m9_,aCW⟩
         case measure=>simp [intOf];omega
        case neg =>
         have kl:decide ((k:Int)+1≤d) = false:=decide_eq_false hkd
         obtain rfl:k = d.toNat:=by omega
         generalize pM s v p x t ev d.toNat = R at*
         obtain ⟨R1,R2⟩:=R
         dsimp only at HX6 HOK m20 HC
         clear kG
         obtain ⟨A1_,c1_,rfl⟩:=HC.slice
         have SK:=(ae m20 0).trans rfl
         by_cases c3:R2 < 0
         case pos =>
          have HZ:=Lib.hid (HX6.out.trans (if_pos c3))
          have k3:decide (R2 < 0) = true:=decide_eq_true c3
          clear c3 HX6 hkd
          have HR:=Lib.hid (HERR.out _ HZ.out (by decide))
          go_wp2
          go_ret3
          exact ⟨_,BU,agk,acH⟩
         case neg =>
          have HZ:=Lib.hid (HX6.out.trans (if_neg c3))
          have k3:decide (R2 < 0) = false:=decide_eq_false c3
          clear c3 HX6 hkd
          have HR:=Lib.hid (HOK.out HZ.out)
          have Zd:=(ae m19 0).trans rfl
          go_wp2
          skip
          go_quiet (fail)
          go_wp2
          skip
          go_ret3
          exact ⟨_,BU,by rw [HR.out];exact (bN.below HC (by repeat (first|exact Below.refl _ _|apply bf|apply iW))).toR,acH⟩
end Go.Proofs.Ytmhaiihjfgfaoaa.Gl
end
section
namespace Go.Proofs.Ytmhaiihjfgfaoaa.Pr
open Go.RowKit Go.Proofs.YtmhaiihjfgfaoaaW.PrintWords Go.Proofs.YtmhaiihjfgfaoaaW.PrintLast Go.Proofs.YtmhaiihjfgfaoaaW.PrintMore Go.Proofs.Ytmhaiihjfgfaoaa.Gl
set_option linter.unusedVariables false
def qg.f (ax:Int) (av:Int) (aH:Int) (aG:Int) (aQ:Int) (aN:Int) (aM:Int) (bn:List Bool) (aW:List (qW)) (bq:Int) (bz:Int) (bY:Int) (bX:Int) (dB:Int) (dC:Int) (dD:Int) (dh:Int) (di:Int) (dm:Int) (dn:Int) (a3:Int) (fA:Int) (fB:Int) (iI:Int) (iJ:Int) (iK:Int) (iL:Int) (iM:Int) (iN:Int) (a6:Int):Option ((List (eQ)) × Int × Int):=some (Ld ⟨ax,av,aH,aG,aQ,aN,aM,bn,aW⟩ ⟨bq,bz,⟨bY,bX⟩,⟨dB,dC⟩,dD⟩ ⟨⟨dh,di⟩,⟨dm,dn⟩⟩ a3 ⟨fA,fB⟩ ⟨⟨⟨iI,iJ⟩,⟨iK,iL⟩⟩,iM,iN⟩ a6)
theorem qg.calls (ax:Int) (av:Int) (aH:Int) (aG:Int) (aQ:Int) (aN:Int) (aM:Int) (fJ:Option Addr) (fK:Nat) (bn:List Bool) (fU:Option Addr) (fM:Nat) (aW:List (qW)) (bq:Int) (bz:Int) (bY:Int) (bX:Int) (dB:Int) (dC:Int) (dD:Int) (dh:Int) (di:Int) (dm:Int) (dn:Int) (a3:Int) (fA:Int) (fB:Int) (iI:Int) (iJ:Int) (iK:Int) (iL:Int) (iM:Int) (iN:Int) (a6:Int) (r1:List (eQ)) (r2:Int) (r3:Int) (w:World) (nP:Kd.C Kd.bool w fJ bn.length bn) (nQ:bn.length≤fK) (nR:Kd.C Cm w fU aW.length aW) (nS:aW.length≤fM) (h:qg.f ax av aH aG aQ aN aM bn aW bq bz bY bX dB dC dD dh di dm dn a3 fA fB iI iJ iK iL iM iN a6 = some (r1,r2,r3)):
 Calls Try.prog 57 #[.agg #[Z ab ax,Z ab av,Z ab aH,Z ab aG,Z ab aQ,Z ab aN,Z ab aM,.slice fJ bn.length fK,.slice fU aW.length fM],.agg #[Z ab bq,Z ab bz,Z ab bY,Z ab bX,Z ab dB,Z ab dC,Z ab dD],.agg #[Z ab dh,Z ab di,Z ab dm,Z ab dn],Z ab a3,.agg #[Z ab fA,Z ab fB],.agg #[Z ab iI,Z ab iJ,Z ab iK,Z ab iL,Z ab iM,Z ab iN],Z ab a6] w fun e w'=>∃ Ur:Value,e = .returned (.tuple #[Ur,Z ab r2,Z ab r3])∧Kd.R TP 33 w' w.heap.size (fun _=>True) Ur r1∧Below w.heap.size w w':=by
 have e_:=Option.some.inj h
 have q_:=aiY ⟨ax,av,aH,aG,aQ,aN,aM,bn,aW⟩ ⟨bq,bz,⟨bY,bX⟩,⟨dB,dC⟩,dD⟩ ⟨⟨dh,di⟩,⟨dm,dn⟩⟩ a3 ⟨fA,fB⟩ ⟨⟨⟨iI,iJ⟩,⟨iK,iL⟩⟩,iM,iN⟩ a6 fJ fU fK fM w nQ nP nS nR
 rw [e_] at q_
 exact q_
end Go.Proofs.Ytmhaiihjfgfaoaa.Pr
end
