import Derived.Test.YtmhaiihjfgfaoaaGzGliderReaches3
import Derived.Test.YtmhaiihjfgfaoaaGzGliderReaches27
import Derived.Test.YtmhaiihjfgfaoaaGzGliderReaches28
open Go.Value renaming int → U
open Go.IntKind renaming i64 → Z
open Bool renaming true → ab, false → ac
section
namespace Go.Proofs.Ytmhaiihjfgfaoaa.Gl
open Go.RowKit Go.Shelf Go.Proofs.YtmhaiihjfgfaoaaW.PrintWords Go.Proofs.YtmhaiihjfgfaoaaW.PrintLast Go.Proofs.YtmhaiihjfgfaoaaW.PrintMore Go.Proofs.Ytmhaiihjfgfaoaa.Pr Go.Proofs.YtmhaiihjfgfaoaaW.Round
set_option linter.unusedVariables false
set_option linter.unusedSimpArgs false
attribute [local go_sem] eD eF fD fE eG
attribute [local go_sem] Oper.semAt_some
def Ui (w0:World) (s:j3) (v:nz) (E:Int) (w:World) (e:Ending) (w':World):Prop :=
 ∃ ptr,e = .returned (.tuple #[.pointer ptr,U Z E])∧Below w.heap.size w w'∧((kI s v = 0∧∃ g,ptr = some ⟨g,0,none⟩∧w.heap.size≤g∧jo w' g s v∧∀ W',Below w0.heap.size w0 W'→W'.heap[g]? = w'.heap[g]?→jo W' g s v)∨(kI s v≠0∧ptr = none))
set_option maxRecDepth 100000 in
set_option maxHeartbeats 4000000 in
theorem WW (s:j3) (v:nz) (A7 A8:Option Addr) (c7 c8:Nat) (w0 w:World) (hb0:Below w0.heap.size w0 w) (h7:s.shores.length≤c7) (TG:Kd.C Kd.bool w0 A7 s.shores.length s.shores) (h8:s.currents.length≤c8) (PM:Kd.C DD w0 A8 s.currents.length s.currents):
 Calls Try.prog 113 #[.agg #[U Z s.nx,U Z s.ny,U Z s.cell,U Z s.slot,U Z s.slots,U Z s.layers,U Z s.most,.slice A7 s.shores.length c7,.slice A8 s.currents.length c8],.agg #[U Z v.speed,U Z v.dive,U Z v.use.f0,U Z v.use.f1,U Z v.drift.f0,U Z v.drift.f1,U Z v.reserve]] w (Ui w0 s v (kI s v) w):=by
 have zR:=Try.underlying25
 have Cb:=Try.underlying29
 have axv:=Try.underlying110
 have HE:Hid (kI s v = if zQ s≠0 then zQ s else Rl v):=Lib.hid rfl
 go_enter Try.func113,Try.ntmps113
 go_wp2_with fail
 have m2:eT ((w.alloc (.cells #[U Z s.nx,U Z s.ny,U Z s.cell,U Z s.slot,U Z s.slots,U Z s.layers,U Z s.most,.slice A7 s.shores.length c7,.slice A8 s.currents.length c8] 25)).alloc (.cells #[U Z v.speed,U Z v.dive,U Z v.use.f0,U Z v.use.f1,U Z v.drift.f0,U Z v.drift.f1,U Z v.reserve] 29)) (w.heap.size) #[U Z s.nx,U Z s.ny,U Z s.cell,U Z s.slot,U Z s.slots,U Z s.layers,U Z s.most,.slice A7 s.shores.length c7,.slice A8 s.currents.length c8] 25:=(ae UN _)
 have m3:eT ((w.alloc (.cells #[U Z s.nx,U Z s.ny,U Z s.cell,U Z s.slot,U Z s.slots,U Z s.layers,U Z s.most,.slice A7 s.shores.length c7,.slice A8 s.currents.length c8] 25)).alloc (.cells #[U Z v.speed,U Z v.dive,U Z v.use.f0,U Z v.use.f1,U Z v.drift.f0,U Z v.drift.f1,U Z v.reserve] 29)) (w.heap.size+1) #[U Z v.speed,U Z v.dive,U Z v.use.f0,U Z v.use.f1,U Z v.drift.f0,U Z v.drift.f1,U Z v.reserve] 29:=XN
 have mB:Below w.heap.size w ((w.alloc (.cells #[U Z s.nx,U Z s.ny,U Z s.cell,U Z s.slot,U Z s.slots,U Z s.layers,U Z s.most,.slice A7 s.shores.length c7,.slice A8 s.currents.length c8] 25)).alloc (.cells #[U Z v.speed,U Z v.dive,U Z v.use.f0,U Z v.use.f1,U Z v.drift.f0,U Z v.drift.f1,U Z v.reserve] 29)):=(aT (aT (Below.refl w.heap.size w) _) _)
 have jS:w.heap.size≤w.heap.size:=Nat.le_refl _
 generalize qL:((w.alloc (.cells #[U Z s.nx,U Z s.ny,U Z s.cell,U Z s.slot,U Z s.slots,U Z s.layers,U Z s.most,.slice A7 s.shores.length c7,.slice A8 s.currents.length c8] 25)).alloc (.cells #[U Z v.speed,U Z v.dive,U Z v.use.f0,U Z v.use.f1,U Z v.drift.f0,U Z v.drift.f1,U Z v.reserve] 29)) = W1 at m2 m3 mB ⊢
 clear qL
 generalize hg2:w.heap.size = g2 at m2 m3 ⊢
 have hG2:w.heap.size≤g2:=by omega
 generalize hg3:g2+1 = g3 at m3 ⊢
 have Ky:g2≠g3:=by omega
 have ZV:g3≠g2:=Ky.symm
 have hG3:w.heap.size≤g3:=by omega
 clear jS
 try clear hg3
 try clear hg2
 have wG:w.heap.size≤W1.heap.size:=mB.size
 have hcon:=abe s A7 A8 c7 c8 W1 h7 (Kd.bz (Kd.bz TG hb0) mB) h8 (Kd.bz (Kd.bz PM hb0) mB)
 (with_reducible refine hcon.mono ?_)
 clear hcon
 rintro e W2 ⟨rfl,hb⟩
 replace m2:=av m2 hb
 replace m3:=av m3 hb
 replace mB:=bO mB hb
 clear hb
 have sO:w.heap.size≤W2.heap.size:=mB.size
 rcases UL s with ⟨h1,_⟩|h1
 case inr =>
  have HZ:Hid (kI s v = 2):=Lib.hid (HE.out.trans (by rw [h1];rfl))
  rw [h1]
  clear h1 HE
  go_wp2
  go_ret2
  exact ⟨none,o6,mB,.inr ⟨by rw [HZ.out];decide,rfl⟩⟩
 case inl =>
  have HE2:=Lib.hid (HE.out.trans (if_neg (by omega)))
  clear HE
  rw [h1]
  clear h1
  obtain ⟨ahv,ahw,ahx,ahy,ahz,ahA,ahB⟩:=Hr m3
  go_wp2_with fail
  clear ahv ahw ahx ahy ahz ahA ahB
  have hcon:=abb v W2
  (with_reducible refine hcon.mono ?_)
  clear hcon
  rintro e W3 ⟨rfl,hb⟩
  replace m2:=av m2 hb
  replace m3:=av m3 hb
  replace mB:=bO mB hb
  clear hb
  have Ha:w.heap.size≤W3.heap.size:=mB.size
  rcases UM v with ⟨h1,_⟩|h1
  case inr =>
   have HE:=HE2
   have HZ:Hid (kI s v = 2):=Lib.hid (HE2.out.trans h1)
   rw [h1]
   clear h1 HE
   go_wp2
   go_ret2
   exact ⟨none,o6,mB,.inr ⟨by rw [HZ.out];decide,rfl⟩⟩
  case inl =>
   have HZ:=Lib.hid (HE2.out.trans h1)
   rw [h1]
   clear h1 HE2
   obtain ⟨auP,auQ,auR,auS,aN1,aN2,aN3,aN4,aN5⟩:=BG m2
   obtain ⟨ahv,ahw,ahx,ahy,ahz,ahA,ahB⟩:=Hr m3
   go_wp2
   go_ret2
   have hb2:=hb0.trans ((aT mB (.cells #[U Z s.nx,U Z s.ny,U Z s.cell,U Z s.slot,U Z s.slots,U Z s.layers,U Z s.most,.slice A7 s.shores.length c7,.slice A8 s.currents.length c8,U Z v.speed,U Z v.dive,U Z v.use.f0,U Z v.use.f1,U Z v.drift.f0,U Z v.drift.f1,U Z v.reserve] 110)).mono hb0.size)
   exact ⟨_,o6,aT mB _,.inl ⟨HZ.out,W3.heap.size,rfl,mB.size,⟨A7,c7,A8,c8,eP W3 (.cells #[U Z s.nx,U Z s.ny,U Z s.cell,U Z s.slot,U Z s.slots,U Z s.layers,U Z s.most,.slice A7 s.shores.length c7,.slice A8 s.currents.length c8,U Z v.speed,U Z v.dive,U Z v.use.f0,U Z v.use.f1,U Z v.drift.f0,U Z v.drift.f1,U Z v.reserve] 110),h7,Kd.bz TG hb2,h8,Kd.bz PM hb2⟩,fun W' hB hg=>⟨A7,c7,A8,c8,hg.trans (eP W3 (.cells #[U Z s.nx,U Z s.ny,U Z s.cell,U Z s.slot,U Z s.slots,U Z s.layers,U Z s.most,.slice A7 s.shores.length c7,.slice A8 s.currents.length c8,U Z v.speed,U Z v.dive,U Z v.use.f0,U Z v.use.f1,U Z v.drift.f0,U Z v.drift.f1,U Z v.reserve] 110)),h7,Kd.bz TG hB,h8,Kd.bz PM hB⟩⟩⟩
set_option maxRecDepth 100000 in
set_option maxHeartbeats 4000000 in
theorem aaO (s:j3) (v:nz) (x:dO) (t:Int) (A7 A8:Option Addr) (c7 c8:Nat) (w0 w:World) (hb0:Below w0.heap.size w0 w) (h7:s.shores.length≤c7) (TG:Kd.C Kd.bool w0 A7 s.shores.length s.shores) (h8:s.currents.length≤c8) (PM:Kd.C DD w0 A8 s.currents.length s.currents):
 Calls Try.prog 64 #[.agg #[U Z s.nx,U Z s.ny,U Z s.cell,U Z s.slot,U Z s.slots,U Z s.layers,U Z s.most,.slice A7 s.shores.length c7,.slice A8 s.currents.length c8],.agg #[U Z v.speed,U Z v.dive,U Z v.use.f0,U Z v.use.f1,U Z v.drift.f0,U Z v.drift.f1,U Z v.reserve],.agg #[U Z x.f0.f0,U Z x.f0.f1,U Z x.f1.f0,U Z x.f1.f1],U Z t] w (Ui w0 s v (ky s v x t) w):=by
 have zR:=Try.underlying25
 have Cb:=Try.underlying29
 have oP:=Try.underlying31
 have HE:Hid (ky s v x t = if kI s v≠0 then kI s v else nD x t):=Lib.hid rfl
 go_enter Try.func64,Try.ntmps64
 go_wp2_with fail
 have m4:eT (((w.alloc (.cells #[U Z s.nx,U Z s.ny,U Z s.cell,U Z s.slot,U Z s.slots,U Z s.layers,U Z s.most,.slice A7 s.shores.length c7,.slice A8 s.currents.length c8] 25)).alloc (.cells #[U Z v.speed,U Z v.dive,U Z v.use.f0,U Z v.use.f1,U Z v.drift.f0,U Z v.drift.f1,U Z v.reserve] 29)).alloc (.cells #[U Z x.f0.f0,U Z x.f0.f1,U Z x.f1.f0,U Z x.f1.f1] 31)) (w.heap.size) #[U Z s.nx,U Z s.ny,U Z s.cell,U Z s.slot,U Z s.slots,U Z s.layers,U Z s.most,.slice A7 s.shores.length c7,.slice A8 s.currents.length c8] 25:=(ae (ae UN _) _)
 have m5:eT (((w.alloc (.cells #[U Z s.nx,U Z s.ny,U Z s.cell,U Z s.slot,U Z s.slots,U Z s.layers,U Z s.most,.slice A7 s.shores.length c7,.slice A8 s.currents.length c8] 25)).alloc (.cells #[U Z v.speed,U Z v.dive,U Z v.use.f0,U Z v.use.f1,U Z v.drift.f0,U Z v.drift.f1,U Z v.reserve] 29)).alloc (.cells #[U Z x.f0.f0,U Z x.f0.f1,U Z x.f1.f0,U Z x.f1.f1] 31)) (w.heap.size+1) #[U Z v.speed,U Z v.dive,U Z v.use.f0,U Z v.use.f1,U Z v.drift.f0,U Z v.drift.f1,U Z v.reserve] 29:=(ae XN _)
 have m6:eT (((w.alloc (.cells #[U Z s.nx,U Z s.ny,U Z s.cell,U Z s.slot,U Z s.slots,U Z s.layers,U Z s.most,.slice A7 s.shores.length c7,.slice A8 s.currents.length c8] 25)).alloc (.cells #[U Z v.speed,U Z v.dive,U Z v.use.f0,U Z v.use.f1,U Z v.drift.f0,U Z v.drift.f1,U Z v.reserve] 29)).alloc (.cells #[U Z x.f0.f0,U Z x.f0.f1,U Z x.f1.f0,U Z x.f1.f1] 31)) (w.heap.size+1+1) #[U Z x.f0.f0,U Z x.f0.f1,U Z x.f1.f0,U Z x.f1.f1] 31:=aff
 have mB:Below w.heap.size w (((w.alloc (.cells #[U Z s.nx,U Z s.ny,U Z s.cell,U Z s.slot,U Z s.slots,U Z s.layers,U Z s.most,.slice A7 s.shores.length c7,.slice A8 s.currents.length c8] 25)).alloc (.cells #[U Z v.speed,U Z v.dive,U Z v.use.f0,U Z v.use.f1,U Z v.drift.f0,U Z v.drift.f1,U Z v.reserve] 29)).alloc (.cells #[U Z x.f0.f0,U Z x.f0.f1,U Z x.f1.f0,U Z x.f1.f1] 31)):=(aT (aT (aT (Below.refl w.heap.size w) _) _) _)
 have jS:w.heap.size≤w.heap.size:=Nat.le_refl _
 generalize qL:(((w.alloc (.cells #[U Z s.nx,U Z s.ny,U Z s.cell,U Z s.slot,U Z s.slots,U Z s.layers,U Z s.most,.slice A7 s.shores.length c7,.slice A8 s.currents.length c8] 25)).alloc (.cells #[U Z v.speed,U Z v.dive,U Z v.use.f0,U Z v.use.f1,U Z v.drift.f0,U Z v.drift.f1,U Z v.reserve] 29)).alloc (.cells #[U Z x.f0.f0,U Z x.f0.f1,U Z x.f1.f0,U Z x.f1.f1] 31)) = W1 at m4 m5 m6 mB ⊢
 clear qL
 generalize hg4:w.heap.size = g4 at m4 m5 m6 ⊢
 have hG4:w.heap.size≤g4:=by omega
 generalize hg5:g4+1 = g5 at m5 m6 ⊢
 have pV:g4≠g5:=by omega
 have UO:g5≠g4:=pV.symm
 have hG5:w.heap.size≤g5:=by omega
 generalize UC:g5+1 = g6 at m6 ⊢
 have zS:g4≠g6:=by omega
 have o7:g5≠g6:=by omega
 have UQ:g6≠g4:=zS.symm
 have lC:g6≠g5:=o7.symm
 have SC:w.heap.size≤g6:=by omega
 clear jS
 try clear UC
 try clear hg5
 try clear hg4
 have wG:w.heap.size≤W1.heap.size:=mB.size
 have hcon:=WW s v A7 A8 c7 c8 w0 W1 (hb0.trans (mB.mono hb0.size)) h7 TG h8 PM
 (with_reducible refine hcon.mono ?_)
 clear hcon
 rintro e W2 ⟨ptr,rfl,hb,⟨h0,g,rfl,hg,hT,hTT⟩|⟨h0,rfl⟩⟩
 case inr =>
  have HZ:=Lib.hid (HE.out.trans (if_pos h0))
  replace mB:=bO mB hb
  clear hb HE
  have h00:=Lib.hid h0
  generalize XO:kI s v = E0 at*
  have hE:=Lib.hid XO
  clear XO
  have hd:(E0 == 0) = false:=beq_eq_false_iff_ne.2 h0
  have hd2:(E0 != 0) = true:=by rw [bne,hd];rfl
  clear h0
  go_wp2
  go_ret2
  exact ⟨none,o6,mB,.inr ⟨by rw [hE.out];exact h00.out,rfl⟩⟩
 case inl =>
  have HZ:=Lib.hid (HE.out.trans (if_neg (fun h=>h h0)))
  clear HE
  have hg0:w.heap.size≤g:=Nat.le_trans (m:=W1.heap.size) (by assumption) hg
  replace m4:=av m4 hb
  replace m5:=av m5 hb
  replace m6:=av m6 hb
  replace mB:=bO mB hb
  clear hb
  have H0:=Lib.hid h0
  rw [h0]
  clear h0
  have sO:w.heap.size≤W2.heap.size:=mB.size
  obtain ⟨DF,Kz,KA,KC⟩:=nV m6
  go_wp2_with fail
  clear DF Kz KA KC
  have hcon:=TF x t W2
  (with_reducible refine hcon.mono ?_)
  clear hcon
  rintro e W3 ⟨rfl,hb⟩
  have hgl:g < W2.heap.size:=by obtain ⟨_,_,_,_,h_,_⟩:=hT;exact bP h_
  have aEt:∀ W',Below w0.heap.size w0 W'→W'.heap[g]? = W3.heap[g]?→jo W' g s v:=fun W' h1 h2=>hTT W' h1 (h2.trans (hb.block g hgl))
  replace hT:=hT.below hb
  have HTT:=Lib.hid aEt
  clear hTT aEt
  replace m4:=av m4 hb
  replace m5:=av m5 hb
  replace m6:=av m6 hb
  replace mB:=bO mB hb
  clear hb
  go_wp2
  go_ret2
  exact ⟨_,o6,mB,.inl ⟨H0.out,g,rfl,hg0,hT,HTT.out⟩⟩
def GA (s:j3) (v:nz) (x:dO) (t d:Int):List dO × Int:=if ky s v x t≠0 then ([],ky s v x t) else if d < 0∨d > 64 then ([],3) else iP s v d.toNat x t []
set_option maxRecDepth 100000 in
set_option maxHeartbeats 8000000 in
theorem agm (s:j3) (v:nz) (x:dO) (t d:Int) (A7 A8:Option Addr) (c7 c8:Nat) (w:World) (h7:s.shores.length≤c7) (TG:Kd.C Kd.bool w A7 s.shores.length s.shores) (h8:s.currents.length≤c8) (PM:Kd.C DD w A8 s.currents.length s.currents):
 Calls Try.prog 50 #[.agg #[U Z s.nx,U Z s.ny,U Z s.cell,U Z s.slot,U Z s.slots,U Z s.layers,U Z s.most,.slice A7 s.shores.length c7,.slice A8 s.currents.length c8],.agg #[U Z v.speed,U Z v.dive,U Z v.use.f0,U Z v.use.f1,U Z v.drift.f0,U Z v.drift.f1,U Z v.reserve],.agg #[U Z x.f0.f0,U Z x.f0.f1,U Z x.f1.f0,U Z x.f1.f1],U Z t,U Z d] w (RS (GA s v x t d) w):=by
 have zR:=Try.underlying25
 have Cb:=Try.underlying29
 have oP:=Try.underlying31
 have oo:=Try.underlying27
 have HX:Hid (GA s v x t d = if ky s v x t≠0 then ([],ky s v x t) else if d < 0∨d > 64 then ([],3) else iP s v d.toNat x t []):=Lib.hid rfl
 go_enter Try.func50,Try.ntmps50
 go_wp2_with fail
 have m5:eT (((w.alloc (.cells #[U Z s.nx,U Z s.ny,U Z s.cell,U Z s.slot,U Z s.slots,U Z s.layers,U Z s.most,.slice A7 s.shores.length c7,.slice A8 s.currents.length c8] 25)).alloc (.cells #[U Z v.speed,U Z v.dive,U Z v.use.f0,U Z v.use.f1,U Z v.drift.f0,U Z v.drift.f1,U Z v.reserve] 29)).alloc (.cells #[U Z x.f0.f0,U Z x.f0.f1,U Z x.f1.f0,U Z x.f1.f1] 31)) (w.heap.size) #[U Z s.nx,U Z s.ny,U Z s.cell,U Z s.slot,U Z s.slots,U Z s.layers,U Z s.most,.slice A7 s.shores.length c7,.slice A8 s.currents.length c8] 25:=(ae (ae UN _) _)
 have m6:eT (((w.alloc (.cells #[U Z s.nx,U Z s.ny,U Z s.cell,U Z s.slot,U Z s.slots,U Z s.layers,U Z s.most,.slice A7 s.shores.length c7,.slice A8 s.currents.length c8] 25)).alloc (.cells #[U Z v.speed,U Z v.dive,U Z v.use.f0,U Z v.use.f1,U Z v.drift.f0,U Z v.drift.f1,U Z v.reserve] 29)).alloc (.cells #[U Z x.f0.f0,U Z x.f0.f1,U Z x.f1.f0,U Z x.f1.f1] 31)) (w.heap.size+1) #[U Z v.speed,U Z v.dive,U Z v.use.f0,U Z v.use.f1,U Z v.drift.f0,U Z v.drift.f1,U Z v.reserve] 29:=(ae XN _)
 have m7:eT (((w.alloc (.cells #[U Z s.nx,U Z s.ny,U Z s.cell,U Z s.slot,U Z s.slots,U Z s.layers,U Z s.most,.slice A7 s.shores.length c7,.slice A8 s.currents.length c8] 25)).alloc (.cells #[U Z v.speed,U Z v.dive,U Z v.use.f0,U Z v.use.f1,U Z v.drift.f0,U Z v.drift.f1,U Z v.reserve] 29)).alloc (.cells #[U Z x.f0.f0,U Z x.f0.f1,U Z x.f1.f0,U Z x.f1.f1] 31)) (w.heap.size+1+1) #[U Z x.f0.f0,U Z x.f0.f1,U Z x.f1.f0,U Z x.f1.f1] 31:=aff
 have mB:Below w.heap.size w (((w.alloc (.cells #[U Z s.nx,U Z s.ny,U Z s.cell,U Z s.slot,U Z s.slots,U Z s.layers,U Z s.most,.slice A7 s.shores.length c7,.slice A8 s.currents.length c8] 25)).alloc (.cells #[U Z v.speed,U Z v.dive,U Z v.use.f0,U Z v.use.f1,U Z v.drift.f0,U Z v.drift.f1,U Z v.reserve] 29)).alloc (.cells #[U Z x.f0.f0,U Z x.f0.f1,U Z x.f1.f0,U Z x.f1.f1] 31)):=(aT (aT (aT (Below.refl w.heap.size w) _) _) _)
 have jS:w.heap.size≤w.heap.size:=Nat.le_refl _
 generalize qL:(((w.alloc (.cells #[U Z s.nx,U Z s.ny,U Z s.cell,U Z s.slot,U Z s.slots,U Z s.layers,U Z s.most,.slice A7 s.shores.length c7,.slice A8 s.currents.length c8] 25)).alloc (.cells #[U Z v.speed,U Z v.dive,U Z v.use.f0,U Z v.use.f1,U Z v.drift.f0,U Z v.drift.f1,U Z v.reserve] 29)).alloc (.cells #[U Z x.f0.f0,U Z x.f0.f1,U Z x.f1.f0,U Z x.f1.f1] 31)) = W1 at m5 m6 m7 mB ⊢
 clear qL
 generalize hg5:w.heap.size = g5 at m5 m6 m7 ⊢
 have hG5:w.heap.size≤g5:=by omega
 generalize UC:g5+1 = g6 at m6 m7 ⊢
 have o7:g5≠g6:=by omega
 have lC:g6≠g5:=o7.symm
 have SC:w.heap.size≤g6:=by omega
 generalize hg7:g6+1 = g7 at m7 ⊢
 have DC:g5≠g7:=by omega
 have iy:g6≠g7:=by omega
 have Ri:g7≠g5:=DC.symm
 have Rc:g7≠g6:=iy.symm
 have hG7:w.heap.size≤g7:=by omega
 clear jS
 try clear hg7
 try clear UC
 try clear hg5
 have wG:w.heap.size≤W1.heap.size:=mB.size
 have hbg:ky s v x t = if kI s v≠0 then kI s v else nD x t:=rfl
 have HBG:=Lib.hid hbg
 clear hbg
 obtain ⟨D8,ES,NA,NB,ahF,ahG,ahH,ahI,ahJ⟩:=BG m5
 obtain ⟨DF,Kz,KA,KC,ajs,ajt,aju⟩:=Hr m6
 obtain ⟨Hf,Hg,KD,KE⟩:=nV m7
 go_wp2_with fail
 clear D8 ES NA NB ahF ahG ahH ahI ahJ DF Kz KA KC ajs ajt aju Hf Hg KD KE
 have hcon:=NI s v x t A7 A8 c7 c8 W1 h7 (Kd.bz TG mB) h8 (Kd.bz PM mB)
 (with_reducible refine hcon.mono ?_)
 clear hcon
 rintro e W2 ⟨ptr,rfl,hb,hpt⟩
 replace m5:=av m5 hb
 replace m6:=av m6 hb
 replace m7:=av m7 hb
 replace mB:=bO mB hb
 clear hb
 have sO:w.heap.size≤W2.heap.size:=mB.size
 generalize XO:ky s v x t = E0 at*
 have HE0:=Lib.hid XO
 clear XO
 by_cases h0:E0 = 0
 case neg =>
  have HZ:=Lib.hid (HX.out.trans (if_pos h0))
  have hd1:(E0 == 0) = false:=beq_eq_false_iff_ne.2 h0
  have hd2:(E0 != 0) = true:=by rw [bne,hd1];rfl
  clear h0 hpt HX
  go_wp2
  go_ret2
  exact ⟨_,o6,Tt,mB⟩
 case pos =>
  have Zy:=Lib.hid (HX.out.trans (if_neg (fun h=>h h0)))
  clear HX
  have hb0:=HBG.out.symm.trans h0
  obtain ⟨ht0,hp0⟩:=zG hb0
  obtain ⟨hbx,UR,ZX⟩:=BH hp0
  obtain ⟨hSV,hVN⟩:=BF ht0
  rcases hpt with ⟨_,g,rfl,hg,hT⟩|⟨hbad,_⟩
  case inr=>exact absurd ht0 hbad
  case inl =>
   subst h0
   clear hb0 ht0 hp0 HBG
   by_cases hd:d < 0∨d > 64
   case pos =>
    have HZ:=Lib.hid (Zy.out.trans (if_pos hd))
    clear Zy
    by_cases hq:d < 0
    case pos =>
     clear hd
     go_wp2
     go_ret2
     exact ⟨_,o6,Tt,mB⟩
    case neg =>
     have hq2:d > 64:=by omega
     clear hd
     go_wp2
     go_ret2
     exact ⟨_,o6,Tt,mB⟩
   case neg =>
    have HX3:=Lib.hid (Zy.out.trans (if_neg hd))
    clear Zy
    have hq:¬ d < 0:=by omega
    have hq2:¬ d > 64:=by omega
    clear hd
    obtain ⟨m,rfl⟩:∃ m:Nat,d = m:=⟨d.toNat,by omega⟩
    skip
    obtain ⟨Hf,Hg,KD,KE⟩:=nV m7
    go_wp2_with fail
    clear Hf Hg KD KE
    skip
    have hcon:=Uh g s v x t m W2 hT hSV hVN hbx UR ZX (by omega)
    rw [Int.toNat_natCast] at HX3
    (with_reducible refine hcon.mono ?_)
    clear hcon
    rintro e W5 ⟨Vn,rfl,HR,hb⟩
    generalize iP s v m x t [] = R at*
    go_wp2
    go_ret2
    exact ⟨_,by rw [HX3.out];rfl,by rw [HX3.out];exact Kd.jH HR mB.size,bO mB hb⟩
end Go.Proofs.Ytmhaiihjfgfaoaa.Gl
end
