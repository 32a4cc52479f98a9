import Derived.Laws.EntriesVeiled
import Derived.Test.YtmhaiihjfgfaoaaGpGliderPlans1
import Derived.Test.YtmhaiihjfgfaoaaGpGliderPlans7
import Derived.Test.YtmhaiihjfgfaoaaGpGliderPlans3
import Derived.Test.YtmhaiihjfgfaoaaGpGliderPlans6
import Derived.Test.YtmhaiihjfgfaoaaGpGliderPlans4
import Derived.Test.YtmhaiihjfgfaoaaGpGliderPlans5
set_option linter.unusedVariables false
set_option linter.unusedSimpArgs false
open Option.some renaming inj → bh
open Option renaming bind_some → aE
open List renaming setIfInBounds_toArray → ap, set_cons_zero → aq, set_cons_succ → ar
open Go.World renaming block_lt_of_cell? → bd
set_option maxRecDepth 100000
set_option maxHeartbeats 80000000
open Go.Value renaming int → Z
open Go.IntKind renaming i64 → ab
open Bool renaming true → ac, false → al
open Go.RowKit renaming wrap64 → an
open Go renaming World → ao
section
namespace Go.Proofs.Ytmhaiihjfgfaoaa.Gl
open Go.RowKit Go.Shelf Go.Proofs.YtmhaiihjfgfaoaaW.bu Go.Proofs.YtmhaiihjfgfaoaaW.dB Go.Proofs.YtmhaiihjfgfaoaaW.ek Go.Proofs.Ytmhaiihjfgfaoaa.Pr Go.Proofs.YtmhaiihjfgfaoaaW.Round
attribute [local go_sem] iq iw jq jr iy
attribute [local go_sem] Oper.semAt_some
def YX (w0:ao) (s:lK) (v:nW) (E:Int) (w:ao) (e:Ending) (w':ao):Prop :=
 ∃ ptr,e = .returned (.tuple #[.pointer ptr,Z ab E])∧Below w.heap.size w w'∧((lW s v = 0∧∃ g,ptr = some ⟨g,0,none⟩∧w.heap.size≤g∧lC w' g s v∧∀ W',Below w0.heap.size w0 W'→W'.heap[g]? = w'.heap[g]?→lC W' g s v)∨(lW s v≠0∧ptr = none))
theorem ab0 (s:lK) (v:nW) (A7 A8:Option Addr) (c7 c8:Nat) (w0 w:ao) (hb0:Below w0.heap.size w0 w) (h7:s.bf.length≤c7) (XC:Kd.C Kd.bool w0 A7 s.bf.length s.bf) (h8:s.aC.length≤c8) (Rx:Kd.C Dt w0 A8 s.aC.length s.aC):
 Calls Try.prog 113 #[.agg #[Z ab s.nx,Z ab s.ny,Z ab s.cell,Z ab s.slot,Z ab s.slots,Z ab s.layers,Z ab s.most,.slice A7 s.bf.length c7,.slice A8 s.aC.length c8],.agg #[Z ab v.speed,Z ab v.bq,Z ab v.use.f0,Z ab v.use.f1,Z ab v.aV.f0,Z ab v.aV.f1,Z ab v.reserve]] w (YX w0 s v (lW s v) w):=by
 have xS:=Try.underlying25
 have vo:=Try.underlying29
 have azX:=Try.underlying110
 have HE:Hid (lW s v = if Az s≠0 then Az s else R7 v):=Lib.hid rfl
 go_enter Try.func113,Try.ntmps113
 go_wp2_with fail
 have m2:dW ((w.alloc (.cells #[Z ab s.nx,Z ab s.ny,Z ab s.cell,Z ab s.slot,Z ab s.slots,Z ab s.layers,Z ab s.most,.slice A7 s.bf.length c7,.slice A8 s.aC.length c8] 25)).alloc (.cells #[Z ab v.speed,Z ab v.bq,Z ab v.use.f0,Z ab v.use.f1,Z ab v.aV.f0,Z ab v.aV.f1,Z ab v.reserve] 29)) (w.heap.size) #[Z ab s.nx,Z ab s.ny,Z ab s.cell,Z ab s.slot,Z ab s.slots,Z ab s.layers,Z ab s.most,.slice A7 s.bf.length c7,.slice A8 s.aC.length c8] 25:=(aa Zh _)
 have m3:dW ((w.alloc (.cells #[Z ab s.nx,Z ab s.ny,Z ab s.cell,Z ab s.slot,Z ab s.slots,Z ab s.layers,Z ab s.most,.slice A7 s.bf.length c7,.slice A8 s.aC.length c8] 25)).alloc (.cells #[Z ab v.speed,Z ab v.bq,Z ab v.use.f0,Z ab v.use.f1,Z ab v.aV.f0,Z ab v.aV.f1,Z ab v.reserve] 29)) (w.heap.size+1) #[Z ab v.speed,Z ab v.bq,Z ab v.use.f0,Z ab v.use.f1,Z ab v.aV.f0,Z ab v.aV.f1,Z ab v.reserve] 29:=ac2
 have mB:Below w.heap.size w ((w.alloc (.cells #[Z ab s.nx,Z ab s.ny,Z ab s.cell,Z ab s.slot,Z ab s.slots,Z ab s.layers,Z ab s.most,.slice A7 s.bf.length c7,.slice A8 s.aC.length c8] 25)).alloc (.cells #[Z ab v.speed,Z ab v.bq,Z ab v.use.f0,Z ab v.use.f1,Z ab v.aV.f0,Z ab v.aV.f1,Z ab v.reserve] 29)):=(aH (aH (Below.refl w.heap.size w) _) _)
 have kZ:w.heap.size≤w.heap.size:=Nat.le_refl _
 generalize qQ:((w.alloc (.cells #[Z ab s.nx,Z ab s.ny,Z ab s.cell,Z ab s.slot,Z ab s.slots,Z ab s.layers,Z ab s.most,.slice A7 s.bf.length c7,.slice A8 s.aC.length c8] 25)).alloc (.cells #[Z ab v.speed,Z ab v.bq,Z ab v.use.f0,Z ab v.use.f1,Z ab v.aV.f0,Z ab v.aV.f1,Z ab v.reserve] 29)) = W1 at m2 m3 mB ⊢
 clear qQ
 generalize hg2:w.heap.size = g2 at m2 m3 ⊢
 have hG2:w.heap.size≤g2:=by omega
 generalize hg3:g2+1 = g3 at m3 ⊢
 have MQ:g2≠g3:=by omega
 have agB:g3≠g2:=MQ.symm
 have hG3:w.heap.size≤g3:=by omega
 clear kZ
 try clear hg3
 try clear hg2
 have sD:w.heap.size≤W1.heap.size:=mB.size
 have hcon:=aiM s A7 A8 c7 c8 W1 h7 (Kd.bz (Kd.bz XC hb0) mB) h8 (Kd.bz (Kd.bz Rx hb0) mB)
 (with_reducible refine hcon.mono ?_)
 clear hcon
 rintro e W2 ⟨rfl,hb⟩
 replace m2:=ah m2 hb
 replace m3:=ah m3 hb
 replace mB:=bI mB hb
 clear hb
 have vI:w.heap.size≤W2.heap.size:=mB.size
 rcases Z8 s with ⟨h1,_⟩|h1
 case inr =>
  have HZ:Hid (lW s v = 2):=Lib.hid (HE.out.trans (by rw [h1];rfl))
  rw [h1]
  clear h1 HE
  go_wp2
  go_ret2
  exact ⟨none,qi,mB,.inr ⟨by rw [HZ.out];decide,rfl⟩⟩
 case inl =>
  have HE2:=Lib.hid (HE.out.trans (if_neg (by omega)))
  clear HE
  rw [h1]
  clear h1
  obtain ⟨ad1,ad2,ad3,ad4,ad5,ad6,ad7⟩:=Ci m3
  go_wp2_with fail
  clear ad1 ad2 ad3 ad4 ad5 ad6 ad7
  have hcon:=aiY v W2
  (with_reducible refine hcon.mono ?_)
  clear hcon
  rintro e W3 ⟨rfl,hb⟩
  replace m2:=ah m2 hb
  replace m3:=ah m3 hb
  replace mB:=bI mB hb
  clear hb
  have FB:w.heap.size≤W3.heap.size:=mB.size
  rcases Z9 v with ⟨h1,_⟩|h1
  case inr =>
   have HE:=HE2
   have HZ:Hid (lW s v = 2):=Lib.hid (HE2.out.trans h1)
   rw [h1]
   clear h1 HE
   go_wp2
   go_ret2
   exact ⟨none,qi,mB,.inr ⟨by rw [HZ.out];decide,rfl⟩⟩
  case inl =>
   have HZ:=Lib.hid (HE2.out.trans h1)
   rw [h1]
   clear h1 HE2
   obtain ⟨aCh,aCi,aCj,aCk,aW1,aW2,aW3,aW4,aW5⟩:=Ay m2
   obtain ⟨ad1,ad2,ad3,ad4,ad5,ad6,ad7⟩:=Ci m3
   go_wp2
   go_ret2
   have hb2:=hb0.trans ((aH mB (.cells #[Z ab s.nx,Z ab s.ny,Z ab s.cell,Z ab s.slot,Z ab s.slots,Z ab s.layers,Z ab s.most,.slice A7 s.bf.length c7,.slice A8 s.aC.length c8,Z ab v.speed,Z ab v.bq,Z ab v.use.f0,Z ab v.use.f1,Z ab v.aV.f0,Z ab v.aV.f1,Z ab v.reserve] 110)).mono hb0.size)
   exact ⟨_,qi,aH mB _,.inl ⟨HZ.out,W3.heap.size,rfl,mB.size,⟨A7,c7,A8,c8,eB W3 (.cells #[Z ab s.nx,Z ab s.ny,Z ab s.cell,Z ab s.slot,Z ab s.slots,Z ab s.layers,Z ab s.most,.slice A7 s.bf.length c7,.slice A8 s.aC.length c8,Z ab v.speed,Z ab v.bq,Z ab v.use.f0,Z ab v.use.f1,Z ab v.aV.f0,Z ab v.aV.f1,Z ab v.reserve] 110),h7,Kd.bz XC hb2,h8,Kd.bz Rx hb2⟩,fun W' hB hg=>⟨A7,c7,A8,c8,hg.trans (eB W3 (.cells #[Z ab s.nx,Z ab s.ny,Z ab s.cell,Z ab s.slot,Z ab s.slots,Z ab s.layers,Z ab s.most,.slice A7 s.bf.length c7,.slice A8 s.aC.length c8,Z ab v.speed,Z ab v.bq,Z ab v.use.f0,Z ab v.use.f1,Z ab v.aV.f0,Z ab v.aV.f1,Z ab v.reserve] 110)),h7,Kd.bz XC hB,h8,Kd.bz Rx hB⟩⟩⟩
theorem aht (s:lK) (v:nW) (x:iA) (t:Int) (A7 A8:Option Addr) (c7 c8:Nat) (w0 w:ao) (hb0:Below w0.heap.size w0 w) (h7:s.bf.length≤c7) (XC:Kd.C Kd.bool w0 A7 s.bf.length s.bf) (h8:s.aC.length≤c8) (Rx:Kd.C Dt w0 A8 s.aC.length s.aC):
 Calls Try.prog 64 #[.agg #[Z ab s.nx,Z ab s.ny,Z ab s.cell,Z ab s.slot,Z ab s.slots,Z ab s.layers,Z ab s.most,.slice A7 s.bf.length c7,.slice A8 s.aC.length c8],.agg #[Z ab v.speed,Z ab v.bq,Z ab v.use.f0,Z ab v.use.f1,Z ab v.aV.f0,Z ab v.aV.f1,Z ab v.reserve],.agg #[Z ab x.f0.f0,Z ab x.f0.f1,Z ab x.f1.f0,Z ab x.f1.f1],Z ab t] w (YX w0 s v (oL s v x t) w):=by
 have xS:=Try.underlying25
 have vo:=Try.underlying29
 have qj:=Try.underlying31
 have HE:Hid (oL s v x t = if lW s v≠0 then lW s v else oK x t):=Lib.hid rfl
 go_enter Try.func64,Try.ntmps64
 go_wp2_with fail
 have m4:dW (((w.alloc (.cells #[Z ab s.nx,Z ab s.ny,Z ab s.cell,Z ab s.slot,Z ab s.slots,Z ab s.layers,Z ab s.most,.slice A7 s.bf.length c7,.slice A8 s.aC.length c8] 25)).alloc (.cells #[Z ab v.speed,Z ab v.bq,Z ab v.use.f0,Z ab v.use.f1,Z ab v.aV.f0,Z ab v.aV.f1,Z ab v.reserve] 29)).alloc (.cells #[Z ab x.f0.f0,Z ab x.f0.f1,Z ab x.f1.f0,Z ab x.f1.f1] 31)) (w.heap.size) #[Z ab s.nx,Z ab s.ny,Z ab s.cell,Z ab s.slot,Z ab s.slots,Z ab s.layers,Z ab s.most,.slice A7 s.bf.length c7,.slice A8 s.aC.length c8] 25:=(aa (aa Zh _) _)
 have m5:dW (((w.alloc (.cells #[Z ab s.nx,Z ab s.ny,Z ab s.cell,Z ab s.slot,Z ab s.slots,Z ab s.layers,Z ab s.most,.slice A7 s.bf.length c7,.slice A8 s.aC.length c8] 25)).alloc (.cells #[Z ab v.speed,Z ab v.bq,Z ab v.use.f0,Z ab v.use.f1,Z ab v.aV.f0,Z ab v.aV.f1,Z ab v.reserve] 29)).alloc (.cells #[Z ab x.f0.f0,Z ab x.f0.f1,Z ab x.f1.f0,Z ab x.f1.f1] 31)) (w.heap.size+1) #[Z ab v.speed,Z ab v.bq,Z ab v.use.f0,Z ab v.use.f1,Z ab v.aV.f0,Z ab v.aV.f1,Z ab v.reserve] 29:=(aa ac2 _)
 have m6:dW (((w.alloc (.cells #[Z ab s.nx,Z ab s.ny,Z ab s.cell,Z ab s.slot,Z ab s.slots,Z ab s.layers,Z ab s.most,.slice A7 s.bf.length c7,.slice A8 s.aC.length c8] 25)).alloc (.cells #[Z ab v.speed,Z ab v.bq,Z ab v.use.f0,Z ab v.use.f1,Z ab v.aV.f0,Z ab v.aV.f1,Z ab v.reserve] 29)).alloc (.cells #[Z ab x.f0.f0,Z ab x.f0.f1,Z ab x.f1.f0,Z ab x.f1.f1] 31)) (w.heap.size+1+1) #[Z ab x.f0.f0,Z ab x.f0.f1,Z ab x.f1.f0,Z ab x.f1.f1] 31:=ama
 have mB:Below w.heap.size w (((w.alloc (.cells #[Z ab s.nx,Z ab s.ny,Z ab s.cell,Z ab s.slot,Z ab s.slots,Z ab s.layers,Z ab s.most,.slice A7 s.bf.length c7,.slice A8 s.aC.length c8] 25)).alloc (.cells #[Z ab v.speed,Z ab v.bq,Z ab v.use.f0,Z ab v.use.f1,Z ab v.aV.f0,Z ab v.aV.f1,Z ab v.reserve] 29)).alloc (.cells #[Z ab x.f0.f0,Z ab x.f0.f1,Z ab x.f1.f0,Z ab x.f1.f1] 31)):=(aH (aH (aH (Below.refl w.heap.size w) _) _) _)
 have kZ:w.heap.size≤w.heap.size:=Nat.le_refl _
 generalize qQ:(((w.alloc (.cells #[Z ab s.nx,Z ab s.ny,Z ab s.cell,Z ab s.slot,Z ab s.slots,Z ab s.layers,Z ab s.most,.slice A7 s.bf.length c7,.slice A8 s.aC.length c8] 25)).alloc (.cells #[Z ab v.speed,Z ab v.bq,Z ab v.use.f0,Z ab v.use.f1,Z ab v.aV.f0,Z ab v.aV.f1,Z ab v.reserve] 29)).alloc (.cells #[Z ab x.f0.f0,Z ab x.f0.f1,Z ab x.f1.f0,Z ab x.f1.f1] 31)) = W1 at m4 m5 m6 mB ⊢
 clear qQ
 generalize hg4:w.heap.size = g4 at m4 m5 m6 ⊢
 have hG4:w.heap.size≤g4:=by omega
 generalize hg5:g4+1 = g5 at m5 m6 ⊢
 have VZ:g4≠g5:=by omega
 have apl:g5≠g4:=VZ.symm
 have hG5:w.heap.size≤g5:=by omega
 generalize hg6:g5+1 = g6 at m6 ⊢
 have VP:g4≠g6:=by omega
 have JA:g5≠g6:=by omega
 have ao6:g6≠g4:=VP.symm
 have ZT:g6≠g5:=JA.symm
 have hG6:w.heap.size≤g6:=by omega
 clear kZ
 try clear hg6
 try clear hg5
 try clear hg4
 have sD:w.heap.size≤W1.heap.size:=mB.size
 have hcon:=ab0 s v A7 A8 c7 c8 w0 W1 (hb0.trans (mB.mono hb0.size)) h7 XC h8 Rx
 (with_reducible refine hcon.mono ?_)
 clear hcon
 rintro e W2 ⟨ptr,rfl,hb,⟨h0,g,rfl,hg,hT,hTT⟩|⟨h0,rfl⟩⟩
 case inr =>
  have HZ:=Lib.hid (HE.out.trans (if_pos h0))
  replace mB:=bI mB hb
  clear hb HE
  have h00:=Lib.hid h0
  generalize hE_:lW s v = E0 at*
  have hE:=Lib.hid hE_
  clear hE_
  have hd:(E0 == 0) = false:=beq_eq_false_iff_ne.2 h0
  have hd2:(E0 != 0) = true:=by rw [bne,hd];rfl
  clear h0
  go_wp2
  go_ret2
  exact ⟨none,qi,mB,.inr ⟨by rw [hE.out];exact h00.out,rfl⟩⟩
 case inl =>
  have HZ:=Lib.hid (HE.out.trans (if_neg (fun h=>h h0)))
  clear HE
  have hg0:w.heap.size≤g:=Nat.le_trans (m:=W1.heap.size) (by assumption) hg
  replace m4:=ah m4 hb
  replace m5:=ah m5 hb
  replace m6:=ah m6 hb
  replace mB:=bI mB hb
  clear hb
  have H0:=Lib.hid h0
  rw [h0]
  clear h0
  have vI:w.heap.size≤W2.heap.size:=mB.size
  obtain ⟨ZY,ZZ,Z0,Z4⟩:=rY m6
  go_wp2_with fail
  clear ZY ZZ Z0 Z4
  have hcon:=Yo x t W2
  (with_reducible refine hcon.mono ?_)
  clear hcon
  rintro e W3 ⟨rfl,hb⟩
  have hgl:g < W2.heap.size:=by obtain ⟨_,_,_,_,h_,_⟩:=hT;exact bO h_
  have aLT:∀ W',Below w0.heap.size w0 W'→W'.heap[g]? = W3.heap[g]?→lC W' g s v:=fun W' h1 h2=>hTT W' h1 (h2.trans (hb.block g hgl))
  replace hT:=hT.below hb
  have HTT:=Lib.hid aLT
  clear hTT aLT
  replace m4:=ah m4 hb
  replace m5:=ah m5 hb
  replace m6:=ah m6 hb
  replace mB:=bI mB hb
  clear hb
  go_wp2
  go_ret2
  exact ⟨_,qi,mB,.inl ⟨H0.out,g,rfl,hg0,hT,HTT.out⟩⟩
def KpD (w:ao) (g bp:Nat) (tc:Array Value) (A B:ao):Prop:=Below w.heap.size A B∧(dW A g tc 110→dW B g tc 110)∧(dW A bp #[.pointer (some ⟨g,0,none⟩)] 104→dW B bp #[.pointer (some ⟨g,0,none⟩)] 104)
theorem KpD.trans {w:ao} {g bp:Nat} {tc:Array Value} {A B C:ao} (h:KpD w g bp tc A B) (k:KpD w g bp tc B C):KpD w g bp tc A C:=⟨h.1.trans k.1,fun q=>k.2.1 (h.2.1 q),fun q=>k.2.2 (h.2.2 q)⟩
theorem KpD.put {w W0:ao} {g bp:Nat} {tc:Array Value} (hw:w.heap.size≤W0.heap.size) (hg:g < W0.heap.size) (hp:bp < W0.heap.size) (W:ao) (l:Nat) (o o':Obj) (hl:W0.heap.size≤l) (h:W.heap[l]? = some o) (h1:o.isCells = false) (h2:o.isWalk = false):KpD w g bp tc W (W.putObj l o') :=
 ⟨belowK_b hw W l o o' hl h h1 h2,fun q=>(World.putObj_heap_other (by omega)).trans q,fun q=>(World.putObj_heap_other (by omega)).trans q⟩
theorem KpD.below {w:ao} {g bp:Nat} {tc:Array Value} {A B:ao} (hw:w.heap.size≤A.heap.size) (h:Below A.heap.size A B):KpD w g bp tc A B:=⟨h.mono hw,fun q=>dW.E8 q h,fun q=>dW.E8 q h⟩
def Ce (w:ao) (gL gB:Nat) (row:Option Nat) (A B:ao):Prop:=Below w.heap.size A B∧∀ k,k < A.heap.size→k≠gL→k≠gB→some k≠row→B.heap[k]? = A.heap[k]?
theorem Ce.of_below {w:ao} {gL gB:Nat} {row:Option Nat} {A B:ao} (h:w.heap.size≤A.heap.size) (hb:Below A.heap.size A B):Ce w gL gB row A B:=⟨hb.mono h,fun k hk _ _ _=>hb.block k hk⟩
theorem Ce.trans {w:ao} {gL gB:Nat} {row:Option Nat} {A B C:ao} (h:Ce w gL gB row A B) (k:Ce w gL gB row B C):Ce w gL gB row A C :=
 ⟨h.1.trans k.1,fun j hj h1 h2 h3=>(k.2 j (Nat.lt_of_lt_of_le hj h.1.size) h1 h2 h3).trans (h.2 j hj h1 h2 h3)⟩
theorem Ce.then {w:ao} {gL gB:Nat} {row row':Option Nat} {A B C:ao} (h:Ce w gL gB row A B) (k:Ce w gL gB row' B C) (hr:row' = row∨∃ b,row' = some b∧A.heap.size≤b):Ce w gL gB row A C :=
 ⟨h.1.trans k.1,fun j hj h1 h2 h3=>(k.2 j (Nat.lt_of_lt_of_le hj h.1.size) h1 h2 (by
  rcases hr with rfl|⟨b,rfl,hb⟩
  ·exact h3
  ·intro e;injection e with e;omega)).trans (h.2 j hj h1 h2 h3)⟩
theorem Ce.step {w:ao} {gL gB:Nat} {row:Option Nat} {A B C:ao} (h:Ce w gL gB row A B) (hw:w.heap.size≤B.heap.size) (hb:Below B.heap.size B C):Ce w gL gB row A C:=h.trans (Ce.of_below hw hb)
theorem Ce.set {w:ao} {gL gB:Nat} {row:Option Nat} {A B:ao} (h:Ce w gL gB row A B) {q:Addr} (hq:w.heap.size≤q.block) (h1:q.block = gL∨q.block = gB) (u:Value):Ce w gL gB row A (B.setCell q u) :=
 ⟨h.1.setCell hq u,fun k hk n1 n2 n3=>(Below.heap_setCell B q u k (fun e=>by subst e;rcases h1 with h1|h1 <;> omega)).trans (h.2 k hk n1 n2 n3)⟩
theorem Ce.putObj {w:ao} {gL gB:Nat} {row:Option Nat} {A B:ao} (h:Ce w gL gB row A B) (hw:w.heap.size≤A.heap.size) {l:Nat} {ob:Obj} (ob':Obj) (hl:A.heap.size≤l) (hq:B.heap[l]? = some ob) (h1:ob.isCells = false) (h2:ob.isWalk = false):Ce w gL gB row A (B.putObj l ob') :=
 ⟨h.1.trans (belowK_b hw B l ob ob' hl hq h1 h2),fun k hk n1 n2 n3=>(World.putObj_heap_other (by omega)).trans (h.2 k hk n1 n2 n3)⟩
theorem Ce.ayH {w:ao} {gL gB:Nat} {row:Option Nat} {A:ao} {B:Nat} {β:Type} (hw:w.heap.size≤A.heap.size) (hA:A.heap.size≤B):OwnFrom B (fun (_:β) W=>Ce w gL gB row A W):=fun f X Y r hs hg hr =>
 ⟨ownFrom_below hw (Nat.le_trans hw hA) f X Y r hs.1 hg hr,fun k hk n1 n2 n3=>(hg.block k (Nat.lt_of_lt_of_le hk hs.1.size) (fun e=>by have:=(hr k e.symm).1;omega)).trans (hs.2 k hk n1 n2 n3)⟩
theorem dW.Aq {w:ao} {gL gB:Nat} {row:Option Nat} {A B:ao} (h:Ce w gL gB row A B) {k:Nat} {cs:Array Value} {t:TypeId} (hb:dW A k cs t) (h1:k≠gL) (h2:k≠gB) (h3:some k≠row):dW B k cs t:=(h.2 k (bO hb) h1 h2 h3).trans hb
theorem qg {W:ao} {a b:Nat} {c c':Array Value} {t t':TypeId} (h:dW W a c t) (h':dW W b c' t') (ht:t≠t'):a≠b:=by
 rintro rfl
 have e:=h.symm.trans h'
 injection e with e
 injection e with _ e
 exact ht e
theorem gT.WQ {X Y:ao} {base B:Nat} {u:Value} {l:List gU} {row:Option Nat} (h:gT X base u l) (hg:X.grownBy Y row) (hr:∀ r,row = some r→B≤r∧∃ o:Obj,X.heap[r]? = some o∧o.isCells = false):gT Y base u l :=
 h.move (fun k hk=>hg.block k (h.lt k hk).2 (fun e=>by
  obtain ⟨_,ob,h1,h2⟩:=hr k e.symm
  obtain ⟨cells,h3⟩:=BV h k hk
  rw [h3] at h1
  cases h1
  cases h2))
theorem gT.Aq {w:ao} {gL gB:Nat} {row:Option Nat} {A B:ao} {base:Nat} {u:Value} {l:List gU} (h:Ce w gL gB row A B) (hc:gT A base u l) (h1:some gL≠u.ownBlock) (h2:some gB≠u.ownBlock) (h3:∀ k,u.ownBlock = some k→some k≠row):gT B base u l :=
 hc.move (fun k hk=>h.2 k (hc.lt k hk).2 (fun e=>h1 (by rw [hk,e])) (fun e=>h2 (by rw [hk,e])) (h3 k hk))
theorem gT.far {W:ao} {base:Nat} {u:Value} {l:List gU} (h:gT W base u l) {q:Addr} (hq:some q.block≠u.ownBlock) (x:Value):gT (W.setCell q x) base u l:=h.move (fun k hk=>Below.heap_setCell W q x k (fun e=>hq (by rw [hk,e])))
theorem gT.putObj {W:ao} {base:Nat} {u:Value} {l:List gU} (h:gT W base u l) {j:Nat} {ob:Obj} (ob':Obj) (hq:W.heap[j]? = some ob) (h1:ob.isCells = false):gT (W.putObj j ob') base u l:=h.move (fun k hk=>World.putObj_heap_other (fun e=>by
 obtain ⟨cells,h3⟩:=BV h k hk
 subst e
 rw [h3] at hq
 cases hq
 cases h1))
def anw (w:ao) (s:lK) (v:nW) (p:BX) (g gX gV gK gG gL gB:Nat) (B7 B8:Option Addr) (d7 d8:Nat) (W:ao):Prop:=Below w.heap.size w W∧dW W g #[Z ab s.nx,Z ab s.ny,Z ab s.cell,Z ab s.slot,Z ab s.slots,Z ab s.layers,Z ab s.most,.slice B7 s.bf.length d7,.slice B8 s.aC.length d8,Z ab v.speed,Z ab v.bq,Z ab v.use.f0,Z ab v.use.f1,Z ab v.aV.f0,Z ab v.aV.f1,Z ab v.reserve] 110∧dW W gX #[.pointer (some ⟨g,0,none⟩)] 104∧dW W gV #[Z ab v.speed,Z ab v.bq,Z ab v.use.f0,Z ab v.use.f1,Z ab v.aV.f0,Z ab v.aV.f1,Z ab v.reserve] 29∧dW W gK #[Z ab p.f0.f0.f0,Z ab p.f0.f0.f1,Z ab p.f0.f1.f0,Z ab p.f0.f1.f1,Z ab p.f1,Z ab p.f2] 81∧dW W gG #[.func (.func 107) #[] #[.pointer (some ⟨gL,0,none⟩),.pointer (some ⟨gB,0,none⟩),.pointer (some ⟨gX,0,none⟩),.pointer (some ⟨gV,0,none⟩),.pointer (some ⟨gK,0,none⟩),.pointer (some ⟨gG,0,none⟩)]] 141
def IM (w:ao) (gL gB:Nat) (bv:Value) (R:List gU × Int) (W:ao):Prop:=dW W gL #[Z ab R.2] 2∧dW W gB #[bv] 49∧gT W w.heap.size bv R.1
def qY (w:ao) (gL gB:Nat) (R:List gU × Int) (plan:List gU) (pv bv:Value) (V W:ao):Prop :=
 Ce w gL gB pv.ownBlock V W∧gT W w.heap.size pv plan∧∃ bv',IM w gL gB bv' R W∧∀ k,bv'.ownBlock = some k→bv.ownBlock = some k∨V.heap.size≤k
def Pq (w:ao) (gL gB:Nat) (R:List gU × Int) (plan:List gU) (pv bv:Value) (V:ao) (e:Ending) (W:ao):Prop:=(∃ r,e = .returned r)∧qY w gL gB R plan pv bv V W
theorem qY.putObj {w:ao} {gL gB:Nat} {R:List gU × Int} {plan:List gU} {pv bv:Value} {V W:ao} (hw:w.heap.size≤V.heap.size) (h:qY w gL gB R plan pv bv V W) {l:Nat} (hl:V.heap.size≤l) (hq:W.heap[l]? = some (.deferred (some []))):qY w gL gB R plan pv bv V (W.putObj l (.deferred none)):=by
 obtain ⟨h1,h2,bv',⟨h3,h4,h5⟩,h6⟩:=h
 have hne:∀ {k:Nat} {cs:Array Value} {t:TypeId},dW W k cs t→dW (W.putObj l (.deferred none)) k cs t:=fun {k cs t} hb=>(World.putObj_heap_other (by
  rintro rfl
  rw [show W.heap[_]? = _ from hb] at hq
  cases hq)).trans hb
 exact ⟨h1.putObj hw _ hl hq rfl rfl,h2.putObj _ hq rfl,bv',⟨hne h3,hne h4,h5.putObj _ hq rfl⟩,h6⟩
theorem anx (w:ao) (s:lK) (v:nW) (p:BX) (g gX gV gK gG gL gB:Nat) (B7 B8:Option Addr) (d7 d8:Nat) (hGL:w.heap.size≤gL) (hGB:w.heap.size≤gB) (x:iA) (t left cost m:Int) (plan:List gU) (there:Bool) (st:List gU × Int) (Ap:Option Addr) (cp:Nat) (bv:Value) (V:ao) (hm:m = 0) (hpl:0 < plan.length∧plan.length≤64)
 (hE:anw w s v p g gX gV gK gG gL gB B7 B8 d7 d8 V) (hA:IM w gL gB bv st V) (hP:gT V w.heap.size (Value.slice Ap plan.length cp) plan):
 Calls Try.prog 107 #[.agg #[Z ab x.f0.f0,Z ab x.f0.f1,Z ab x.f1.f0,Z ab x.f1.f1],Z ab t,Z ab left,Z ab cost,(Value.slice Ap plan.length cp),.bool there,Z ab m,.pointer (some ⟨gL,0,none⟩),.pointer (some ⟨gB,0,none⟩),.pointer (some ⟨gX,0,none⟩),.pointer (some ⟨gV,0,none⟩),.pointer (some ⟨gK,0,none⟩),.pointer (some ⟨gG,0,none⟩)] V (Pq w gL gB (Am s v p 0 x t left cost plan there st) plan (Value.slice Ap plan.length cp) bv V):=by
 have HR:Hid (Am s v p 0 x t left cost plan there st = if there = true∧(st.2 < 0∨cost < st.2) then (plan,cost) else st):=Lib.hid rfl
 generalize Am s v p 0 x t left cost plan there st = RR at*
 subst hm
 have hmx:Try.prog.follows .mixedOrders = true:=by kernel_rfl
 obtain ⟨mB,mT,mX,mV,mK,mG⟩:=hE
 obtain ⟨mL,mBe,HC⟩:=hA
 have hsV:w.heap.size≤V.heap.size:=mB.size
 have hLB:gL≠gB:=qg mL mBe (by decide)
 clear mT mX mV mK mG
 go_enter Try.func107,Try.ntmps107
 go_wp2_with fail
 have aqB:w.heap.size≤V.heap.size:=mB.size
 have a6J:=gT.ne HC mL (by decide)
 have a6K:=gT.ne HC mBe (by decide)
 have hpL:=gT.ne hP mL (by decide)
 have hpB:=gT.ne hP mBe (by decide)
 have hb0:=(aH (aH (aH (aH (aH (aH (aH (Below.refl V.heap.size V) (.cells #[Z ab x.f0.f0,Z ab x.f0.f1,Z ab x.f1.f0,Z ab x.f1.f1] 31)) (.cells #[Z ab t] 2)) (.cells #[Z ab left] 2)) (.cells #[Z ab cost] 2)) (.cells #[(Value.slice Ap plan.length cp)] 49)) (.cells #[.bool there] 4)) (.cells #[Z ab 0] 3))
 have hVW:=hb0.size
 have HP:=gT.below hP hb0
 replace HC:=gT.below HC hb0
 have hKp:Ce w gL gB (Value.slice Ap plan.length cp).ownBlock V _:=Ce.of_below aqB hb0
 clear hb0 hP
 have ahv:=bO mL
 have WR:=bO mBe
 have m13:dW (((((((V.alloc (.cells #[Z ab x.f0.f0,Z ab x.f0.f1,Z ab x.f1.f0,Z ab x.f1.f1] 31)).alloc (.cells #[Z ab t] 2)).alloc (.cells #[Z ab left] 2)).alloc (.cells #[Z ab cost] 2)).alloc (.cells #[(Value.slice Ap plan.length cp)] 49)).alloc (.cells #[.bool there] 4)).alloc (.cells #[Z ab 0] 3)) (V.heap.size) #[Z ab x.f0.f0,Z ab x.f0.f1,Z ab x.f1.f0,Z ab x.f1.f1] 31:=(aa (aa (aa (aa (aa (aa aFr _) _) _) _) _) _)
 have m14:dW (((((((V.alloc (.cells #[Z ab x.f0.f0,Z ab x.f0.f1,Z ab x.f1.f0,Z ab x.f1.f1] 31)).alloc (.cells #[Z ab t] 2)).alloc (.cells #[Z ab left] 2)).alloc (.cells #[Z ab cost] 2)).alloc (.cells #[(Value.slice Ap plan.length cp)] 49)).alloc (.cells #[.bool there] 4)).alloc (.cells #[Z ab 0] 3)) (V.heap.size+1) #[Z ab t] 2:=(aa (aa (aa (aa (aa aFs _) _) _) _) _)
 have m15:dW (((((((V.alloc (.cells #[Z ab x.f0.f0,Z ab x.f0.f1,Z ab x.f1.f0,Z ab x.f1.f1] 31)).alloc (.cells #[Z ab t] 2)).alloc (.cells #[Z ab left] 2)).alloc (.cells #[Z ab cost] 2)).alloc (.cells #[(Value.slice Ap plan.length cp)] 49)).alloc (.cells #[.bool there] 4)).alloc (.cells #[Z ab 0] 3)) (V.heap.size+1+1) #[Z ab left] 2:=(aa (aa (aa (aa aFt _) _) _) _)
 have m16:dW (((((((V.alloc (.cells #[Z ab x.f0.f0,Z ab x.f0.f1,Z ab x.f1.f0,Z ab x.f1.f1] 31)).alloc (.cells #[Z ab t] 2)).alloc (.cells #[Z ab left] 2)).alloc (.cells #[Z ab cost] 2)).alloc (.cells #[(Value.slice Ap plan.length cp)] 49)).alloc (.cells #[.bool there] 4)).alloc (.cells #[Z ab 0] 3)) (V.heap.size+1+1+1) #[Z ab cost] 2:=(aa (aa (aa aFu _) _) _)
 have m17:dW (((((((V.alloc (.cells #[Z ab x.f0.f0,Z ab x.f0.f1,Z ab x.f1.f0,Z ab x.f1.f1] 31)).alloc (.cells #[Z ab t] 2)).alloc (.cells #[Z ab left] 2)).alloc (.cells #[Z ab cost] 2)).alloc (.cells #[(Value.slice Ap plan.length cp)] 49)).alloc (.cells #[.bool there] 4)).alloc (.cells #[Z ab 0] 3)) (V.heap.size+1+1+1+1) #[(Value.slice Ap plan.length cp)] 49:=(aa (aa aFv _) _)
 have m18:dW (((((((V.alloc (.cells #[Z ab x.f0.f0,Z ab x.f0.f1,Z ab x.f1.f0,Z ab x.f1.f1] 31)).alloc (.cells #[Z ab t] 2)).alloc (.cells #[Z ab left] 2)).alloc (.cells #[Z ab cost] 2)).alloc (.cells #[(Value.slice Ap plan.length cp)] 49)).alloc (.cells #[.bool there] 4)).alloc (.cells #[Z ab 0] 3)) (V.heap.size+1+1+1+1+1) #[.bool there] 4:=(aa aFw _)
 have m19:dW (((((((V.alloc (.cells #[Z ab x.f0.f0,Z ab x.f0.f1,Z ab x.f1.f0,Z ab x.f1.f1] 31)).alloc (.cells #[Z ab t] 2)).alloc (.cells #[Z ab left] 2)).alloc (.cells #[Z ab cost] 2)).alloc (.cells #[(Value.slice Ap plan.length cp)] 49)).alloc (.cells #[.bool there] 4)).alloc (.cells #[Z ab 0] 3)) (V.heap.size+1+1+1+1+1+1) #[Z ab 0] 3:=(by have h_:=eB ((((((V.alloc (.cells #[Z ab x.f0.f0,Z ab x.f0.f1,Z ab x.f1.f0,Z ab x.f1.f1] 31)).alloc (.cells #[Z ab t] 2)).alloc (.cells #[Z ab left] 2)).alloc (.cells #[Z ab cost] 2)).alloc (.cells #[(Value.slice Ap plan.length cp)] 49)).alloc (.cells #[.bool there] 4)) (.cells #[Z ab 0] 3);first|exact h_|(simp only [World.size_alloc] at h_;exact h_))
 replace mL:dW (((((((V.alloc (.cells #[Z ab x.f0.f0,Z ab x.f0.f1,Z ab x.f1.f0,Z ab x.f1.f1] 31)).alloc (.cells #[Z ab t] 2)).alloc (.cells #[Z ab left] 2)).alloc (.cells #[Z ab cost] 2)).alloc (.cells #[(Value.slice Ap plan.length cp)] 49)).alloc (.cells #[.bool there] 4)).alloc (.cells #[Z ab 0] 3)) gL #[Z ab st.2] 2:=(aa (aa (aa (aa (aa (aa (aa mL _) _) _) _) _) _) _)
 replace mBe:dW (((((((V.alloc (.cells #[Z ab x.f0.f0,Z ab x.f0.f1,Z ab x.f1.f0,Z ab x.f1.f1] 31)).alloc (.cells #[Z ab t] 2)).alloc (.cells #[Z ab left] 2)).alloc (.cells #[Z ab cost] 2)).alloc (.cells #[(Value.slice Ap plan.length cp)] 49)).alloc (.cells #[.bool there] 4)).alloc (.cells #[Z ab 0] 3)) gB #[bv] 49:=(aa (aa (aa (aa (aa (aa (aa mBe _) _) _) _) _) _) _)
 replace mB:Below w.heap.size w (((((((V.alloc (.cells #[Z ab x.f0.f0,Z ab x.f0.f1,Z ab x.f1.f0,Z ab x.f1.f1] 31)).alloc (.cells #[Z ab t] 2)).alloc (.cells #[Z ab left] 2)).alloc (.cells #[Z ab cost] 2)).alloc (.cells #[(Value.slice Ap plan.length cp)] 49)).alloc (.cells #[.bool there] 4)).alloc (.cells #[Z ab 0] 3)):=(aH (aH (aH (aH (aH (aH (aH mB _) _) _) _) _) _) _)
 have kZ:w.heap.size≤V.heap.size:=aqB
 generalize qQ:(((((((V.alloc (.cells #[Z ab x.f0.f0,Z ab x.f0.f1,Z ab x.f1.f0,Z ab x.f1.f1] 31)).alloc (.cells #[Z ab t] 2)).alloc (.cells #[Z ab left] 2)).alloc (.cells #[Z ab cost] 2)).alloc (.cells #[(Value.slice Ap plan.length cp)] 49)).alloc (.cells #[.bool there] 4)).alloc (.cells #[Z ab 0] 3)) = W1 at mL mBe m13 m14 m15 m16 m17 m18 m19 mB HP HC hKp hVW ⊢
 clear qQ
 generalize ahk:V.heap.size = g13 at m13 m14 m15 m16 m17 m18 m19 ⊢
 have IP:gL≠g13:=by omega
 have CP:gB≠g13:=by omega
 have Ud:g13≠gL:=IP.symm
 have Ps:g13≠gB:=CP.symm
 have ayv:w.heap.size≤g13:=by omega
 generalize agF:g13+1 = g14 at m14 m15 m16 m17 m18 m19 ⊢
 have IQ:gL≠g14:=by omega
 have CQ:gB≠g14:=by omega
 have CR:g13≠g14:=by omega
 have Pt:g14≠gL:=IQ.symm
 have Pv:g14≠gB:=CQ.symm
 have JY:g14≠g13:=CR.symm
 have aCz:w.heap.size≤g14:=by omega
 generalize aDQ:g14+1 = g15 at m15 m16 m17 m18 m19 ⊢
 have IU:gL≠g15:=by omega
 have CS:gB≠g15:=by omega
 have CU:g13≠g15:=by omega
 have CV:g14≠g15:=by omega
 have Pw:g15≠gL:=IU.symm
 have Px:g15≠gB:=CS.symm
 have JZ:g15≠g13:=CU.symm
 have J2:g15≠g14:=CV.symm
 have aLU:w.heap.size≤g15:=by omega
 generalize ao1:g15+1 = g16 at m16 m17 m18 m19 ⊢
 have IV:gL≠g16:=by omega
 have CW:gB≠g16:=by omega
 have CX:g13≠g16:=by omega
 have nX:g14≠g16:=by omega
 have CY:g15≠g16:=by omega
 have Py:g16≠gL:=IV.symm
 have J3:g16≠gB:=CW.symm
 have J4:g16≠g13:=CX.symm
 have Co:g16≠g14:=nX.symm
 have J5:g16≠g15:=CY.symm
 have VM:w.heap.size≤g16:=by omega
 generalize aqC:g16+1 = g17 at m17 m18 m19 ⊢
 have IW:gL≠g17:=by omega
 have CZ:gB≠g17:=by omega
 have C8:g13≠g17:=by omega
 have C9:g14≠g17:=by omega
 have Da:g15≠g17:=by omega
 have Db:g16≠g17:=by omega
 have Ue:g17≠gL:=IW.symm
 have GA:g17≠gB:=CZ.symm
 have J6:g17≠g13:=C8.symm
 have J7:g17≠g14:=C9.symm
 have J8:g17≠g15:=Da.symm
 have J9:g17≠g16:=Db.symm
 have aDR:w.heap.size≤g17:=by omega
 generalize aDS:g17+1 = g18 at m18 m19 ⊢
 have IX:gL≠g18:=by omega
 have Dc:gB≠g18:=by omega
 have De:g13≠g18:=by omega
 have Df:g14≠g18:=by omega
 have Dh:g15≠g18:=by omega
 have Di:g16≠g18:=by omega
 have Dj:g17≠g18:=by omega
 have Uf:g18≠gL:=IX.symm
 have Pz:g18≠gB:=Dc.symm
 have Ka:g18≠g13:=De.symm
 have Kb:g18≠g14:=Df.symm
 have Ke:g18≠g15:=Dh.symm
 have Kg:g18≠g16:=Di.symm
 have Kh:g18≠g17:=Dj.symm
 have aLV:w.heap.size≤g18:=by omega
 generalize aqD:g18+1 = g19 at m19 ⊢
 have IY:gL≠g19:=by omega
 have Dk:gB≠g19:=by omega
 have Dl:g13≠g19:=by omega
 have Dm:g14≠g19:=by omega
 have Dn:g15≠g19:=by omega
 have Dp:g16≠g19:=by omega
 have uK:g17≠g19:=by omega
 have Dq:g18≠g19:=by omega
 have Ug:g19≠gL:=IY.symm
 have PD:g19≠gB:=Dk.symm
 have Ki:g19≠g13:=Dl.symm
 have Kj:g19≠g14:=Dm.symm
 have Kk:g19≠g15:=Dn.symm
 have Kl:g19≠g16:=Dp.symm
 have Dr:g19≠g17:=uK.symm
 have Km:g19≠g18:=Dq.symm
 have ayI:w.heap.size≤g19:=by omega
 clear kZ ahv WR
 try clear aqD
 try clear aDS
 try clear aqC
 try clear ao1
 try clear aDQ
 try clear agF
 try clear ahk
 have sD:w.heap.size≤W1.heap.size:=mB.size
 refine wp_scope_straight ?_
 try clear IP IQ IU IV IW IX IY
 try clear CP CQ CS CW CZ Dc Dk
 try clear CR CU CX C8 De Dl
 try clear JY CV nX C9 Df Dm
 try clear JZ J2 CY Da Dh Dn
 try clear J4 Co J5 Db Di Dp
 try clear J6 J7 J8 J9 Dj uK
 try clear Ka Kb Ke Kg Kh Dq
 try clear Ki Kj Kk Kl Dr Km
 skip
 have ak3:=(ae m19 0).trans rfl
 have aLW:=(ae m18 0).trans rfl
 have aDT:=(ae mL 0).trans rfl
 have VN:=(ae m16 0).trans rfl
 by_cases c0:there = true∧(st.2 < 0∨cost < st.2)
 case neg =>
  have HZ:=Lib.hid (HR.out.trans (if_neg c0))
  clear HR
  cases there with
  |false =>
   clear c0
   go_wp2
   refine bodyPost_ret (results_none rfl _ _ _) rfl ?_
   exact ⟨⟨_,rfl⟩,hKp,HP,bv,by rw [HZ.out];exact ⟨mL,mBe,HC⟩,fun k hk=>.inl hk⟩
  |true =>
   have c1:¬ (st.2 < 0∨cost < st.2):=fun h=>c0 ⟨rfl,h⟩
   have c2:decide (st.2 < 0) = false:=decide_eq_false (fun h=>c1 (.inl h))
   have c3:decide (cost < st.2) = false:=decide_eq_false (fun h=>c1 (.inr h))
   clear c0 c1
   go_wp2
   refine bodyPost_ret (results_none rfl _ _ _) rfl ?_
   exact ⟨⟨_,rfl⟩,hKp,HP,bv,by rw [HZ.out];exact ⟨mL,mBe,HC⟩,fun k hk=>.inl hk⟩
 case pos =>
  have HZ:=Lib.hid (HR.out.trans (if_pos c0))
  clear HR
  obtain ⟨rfl,c1⟩:=c0
  have hor:decide (st.2 < 0) = true∨decide (st.2 < 0) = false∧decide (cost < st.2) = true:=by
   by_cases c4:st.2 < 0
   ·exact .inl (decide_eq_true c4)
   ·exact .inr ⟨decide_eq_false c4,decide_eq_true (by omega)⟩
  clear c1
  rcases hor with c2|⟨c2,c3⟩
  all_goals
   go_wp2_with fail
   skip
   clear ak3 aLW aDT VN m13 m14 m15 m18 m19
   replace mL:=ag mL
   replace mBe:=ag mBe
   replace m16:=ag m16
   replace m17:=ag m17
   replace mB:=bF mB
   replace HP:=gT.below HP (bF (Below.refl W1.heap.size W1))
   replace hKp:=Ce.step hKp sD (bF (Below.refl W1.heap.size W1))
   clear HC
   replace hVW:V.heap.size≤(World.drew W1).heap.size:=hVW
   refine jV (n:=5) (S:=fun w'=>w'.cell? ⟨g17,0,none⟩ = some ((Value.slice Ap plan.length cp))∧w'.cell? ⟨g16,0,none⟩ = some (Z ab cost)) (ds:=[4]) #[al,al,al,al,al] aT rfl rfl ⟨((ae m17 0).trans rfl),((ae m16 0).trans rfl)⟩ (fun hHeld=>?_)
   generalize hWd:World.drew _ = Wx at mL mBe m16 m17 mB HP hKp hHeld hVW ⊢
   clear hWd
   refine iT (i:=0) (N:=some 38) aT hHeld ?_
   refine iT (i:=2) (N:=some 40) aT hHeld ?_
   refine iW (i:=1) (N:=some 39) #[ac,ac,ac,al,al] rfl rfl aT (by decide) (fun K hK=>?_)
   have jL:=afi (Value.slice Ap plan.length cp) plan w.heap.size Wx HP hpl.1 hpl.2
   have hwx:w.heap.size≤Wx.heap.size:=mB.size
   have hVx:V.heap.size≤Wx.heap.size:=hVW
   refine gY Try.func108 aT rfl #[(Value.slice Ap plan.length cp)] (by rfl) rfl rfl Ju ?_
   with_reducible refine (jL).mono ?_
   rintro e w1 ⟨v1_,rfl,hcl,hb⟩
   refine ⟨_,rfl,?_⟩
   clear jL
   obtain ⟨A1_,c1_,rfl⟩:=hcl.slice
   have hnw:∀ k,(Value.slice A1_ plan.length c1_).ownBlock = some k→V.heap.size≤k:=fun k hk=>Nat.le_trans hVx (hcl.lt k hk).1
   replace hcl:=hcl.lower hwx
   replace HP:=gT.below HP hb
   replace hKp:=Ce.step hKp hwx hb
   replace mL:=ah mL hb
   replace mBe:=ah mBe hb
   replace m16:=ah m16 hb
   replace m17:=ah m17 hb
   replace mB:=bI mB hb
   clear hb
   have hcL:=gT.ne hcl mL (by decide)
   have hcB:=gT.ne hcl mBe (by decide)
   refine hK.out _ _ ⟨((ae m17 0).trans rfl),((ae m16 0).trans rfl)⟩ (fun hHeld=>?_)
   clear hK K
   refine dQ (by show Act.put _ (some 39) _ = _;simp only [Act.put,ap,aq,ar,eY,fo];rfl) ?_
   refine iW (i:=3) (N:=none) #[ac,ac,ac,ac,al] rfl rfl aT (by decide) (fun K hK=>?_)
   have hf_:=bg mBe 0
   have hc_:=(ae mBe 0).trans rfl
   refine vF (w1:=?_) (by rfl) rfl ?_ ?_
   rotate_left
   ·go_simp
    rfl
   clear hf_ hc_
   refine hK.out _ _ ⟨((ae (aM (p:=⟨gB,0,none⟩) m17 GA _) 0).trans rfl),((ae (aM (p:=⟨gB,0,none⟩) m16 J3 _) 0).trans rfl)⟩ (fun hHeld=>?_)
   clear hK K
   refine Mf (i:=4) (N:=none) #[ac,ac,ac,ac,ac] rfl rfl aT (by decide) (fun K hK=>?_)
   have PR:=aM (p:=⟨gB,0,none⟩) mL hLB (.slice A1_ plan.length c1_)
   have hf_:=bg PR 0
   have hc_:=(ae PR 0).trans rfl
   refine vF (w1:=?_) (by rfl) rfl ?_ ?_
   rotate_left
   ·go_simp
    rfl
   refine hK.out _ _ ?_
   clear hK K
   refine mi aT ?_
   skip
   go_wp2
   skip
   refine bodyPost_ret (results_none rfl _ _ _) rfl ?_
   exact ⟨⟨_,rfl⟩,Ce.set (q:=⟨gL,0,none⟩) (Ce.set (q:=⟨gB,0,none⟩) hKp hGB (.inr rfl) _) hGL (.inl rfl) _,gT.far (q:=⟨gL,0,none⟩) (gT.far (q:=⟨gB,0,none⟩) HP hpB _) hpL _,_,by rw [HZ.out];exact ⟨aK (aM (p:=⟨gB,0,none⟩) mL hLB _) 0 _ rfl,aM (p:=⟨gL,0,none⟩) (aK mBe 0 _ rfl) (fun e=>hLB e.symm) _,gT.far (q:=⟨gL,0,none⟩) (gT.far (q:=⟨gB,0,none⟩) hcl hcB _) hcL _⟩,fun k hk=>.inr (hnw k hk)⟩
theorem YY {Q:Act→ao→Prop} {l_ n_:Nat} (y0 y1 y2 y3 y4 y5 y6 y7 y8 y9 y10 y11 y13 y14 y23 y26 y27 y28 y29 y30 y31 y32 y33 y34 y35 y36 y37 y38 y39 y40 y41 y42 y43 y44 y45 y46 y47 y48 y49 y50 y51 y52 y53 y54 y55 y56 y57 y58 y59 y60 y61 y62 y63 y64 y65 y66 y67 y68 y69 y70 y71 y72 y73 y74 y75 y76 y77 y78 y79 y80 y81 y82 y83 y84 y85 y86 y87 y88 y89 y90 y91 y92 y93 y94 y95 y96 y97 y98 y99 aY4 y101 y102 aY5 y104 aY6 aY7 aY8 aY9 aZa aZb aZc:Value) (w:ao) (gG g15 g16 g17 g18 g19 g20 g22:Nat) (lb:Array Value) (plan:List gU) (nx:iA) (u E left cost m c0 c1:Int) (h there:Bool) (pv:Value) (W0:ao) (PP:ao→Prop)
 (mB:Below w.heap.size w W0) (mG:dW W0 gG #[.func (.func 107) #[] lb] 141) (m22:dW W0 g22 #[Z ab nx.f0.f0,Z ab nx.f0.f1,Z ab nx.f1.f0,Z ab nx.f1.f1] 31) (m15:dW W0 g15 #[Z ab left] 2) (m16:dW W0 g16 #[Z ab cost] 2) (m17:dW W0 g17 #[pv] 49) (m18:dW W0 g18 #[.bool there] 4) (m19:dW W0 g19 #[Z ab m] 3) (m20:dW W0 g20 #[Z ab c0,Z ab c1] 33)
 (hP:gT W0 w.heap.size pv plan) (h20:some g20≠pv.ownBlock) (hpl:plan.length≤64)
 (hcall:∀ (v1:Value) (W1:ao),gT W1 w.heap.size v1 (plan++[⟨c0,c1⟩])→Below w.heap.size w W1→Below w.heap.size W0 W1→(∀ k,k < W0.heap.size→some k≠pv.ownBlock→W1.heap[k]? = W0.heap[k]?)→gT W1 w.heap.size pv plan→((v1.ownBlock = pv.ownBlock∧∀ W':ao,gT W' w.heap.size v1 (plan++[⟨c0,c1⟩])→gT W' w.heap.size pv plan)∨∃ b,v1.ownBlock = some b∧W0.heap.size≤b)→
  Calls Try.prog 107 (#[.agg #[Z ab nx.f0.f0,Z ab nx.f0.f1,Z ab nx.f1.f0,Z ab nx.f1.f1],Z ab E,Z ab (an (left - u)),Z ab (an (cost+u)),v1,.bool (there || h),Z ab (an (m - 1))]++lb) W1 (fun e w'=>(∃ r,e = .returned r)∧PP w'))
 (hKK:∀ (z92 z93 z94 z95 z96 z97 z98 z99 aDU aDV aDW aDX aDY z105 aDZ z107 aD0 z109 aD1 aD2:Value) (w':ao),PP w'→Q { tmps:=#[y0,y1,y2,y3,y4,y5,y6,y7,y8,y9,y10,y11,.pointer (some ⟨gG,0,none⟩),y13,y14,.pointer (some ⟨g15,0,none⟩),.pointer (some ⟨g16,0,none⟩),.pointer (some ⟨g17,0,none⟩),.pointer (some ⟨g18,0,none⟩),.pointer (some ⟨g19,0,none⟩),.pointer (some ⟨g20,0,none⟩),Z ab u,.pointer (some ⟨g22,0,none⟩),y23,Z ab E,.bool h,y26,y27,y28,y29,y30,y31,y32,y33,y34,y35,y36,y37,y38,y39,y40,y41,y42,y43,y44,y45,y46,y47,y48,y49,y50,y51,y52,y53,y54,y55,y56,y57,y58,y59,y60,y61,y62,y63,y64,y65,y66,y67,y68,y69,y70,y71,y72,y73,y74,y75,y76,y77,y78,y79,y80,y81,y82,y83,y84,y85,y86,y87,y88,y89,y90,y91,z92,z93,z94,z95,z96,z97,z98,z99,aDU,aDV,aDW,aDX,aDY,z105,aDZ,z107,aD0,z109,aD1,aD2],defers:=[] } w'):
 Code.wpIn (Fence.wide.inRound l_) n_ Try.prog (Code.region 12 #[{ dst:=some 92,op:=Op.load 141 (Operand.tmp 12),type:=141,pos:="glider.go:441",after:=#[],guard:=none },{ dst:=some 93,op:=Op.load 31 (Operand.tmp 22),type:=31,pos:="glider.go:441",after:=#[],guard:=none },{ dst:=some 94,op:=Op.move (Operand.tmp 24),type:=2,pos:="glider.go:441",after:=#[],guard:=none },{ dst:=some 95,op:=Op.load 2 (Operand.tmp 15),type:=2,pos:="glider.go:441",after:=#[],guard:=none },{ dst:=some 96,op:=Op.move (Operand.tmp 21),type:=2,pos:="glider.go:441",after:=#[],guard:=none },{ dst:=some 97,op:=Op.binOp BinOp.sub 2 (Operand.tmp 95) (Operand.tmp 96) 2,type:=2,pos:="glider.go:441",after:=#[{ on:=3,ground:=Ground.data },{ on:=4,ground:=Ground.data }],guard:=none },{ dst:=some 98,op:=Op.load 2 (Operand.tmp 16),type:=2,pos:="glider.go:441",after:=#[],guard:=none },{ dst:=some 99,op:=Op.move (Operand.tmp 21),type:=2,pos:="glider.go:441",after:=#[],guard:=none },{ dst:=some 100,op:=Op.binOp BinOp.add 2 (Operand.tmp 98) (Operand.tmp 99) 2,type:=2,pos:="glider.go:441",after:=#[{ on:=6,ground:=Ground.data },{ on:=7,ground:=Ground.data }],guard:=none },{ dst:=some 101,op:=Op.load 49 (Operand.tmp 17),type:=49,pos:="glider.go:441",after:=#[],guard:=none },{ dst:=some 102,op:=Op.load 33 (Operand.tmp 20),type:=33,pos:="glider.go:441",after:=#[],guard:=none },{ dst:=some 103,op:=Op.buildSlice 49 1 #[(0,Operand.tmp 102)],type:=49,pos:="glider.go:441",after:=#[{ on:=10,ground:=Ground.data }],guard:=none },{ dst:=some 104,op:=Op.call { callee:=Callee.builtin Builtin.append,args:=#[Operand.tmp 101,Operand.tmp 103],argTypes:=#[49,49] },type:=49,pos:="glider.go:441",after:=#[{ on:=9,ground:=Ground.data },{ on:=11,ground:=Ground.data }],guard:=none },{ dst:=some 105,op:=Op.load 4 (Operand.tmp 18),type:=4,pos:="glider.go:441",after:=#[],guard:=none },{ dst:=some 106,op:=Op.move (Operand.tmp 105),type:=4,pos:="glider.go:441",after:=#[{ on:=13,ground:=Ground.data },{ on:=12,ground:=Ground.chain }],guard:=none },{ dst:=some 107,op:=Op.move (Operand.tmp 25),type:=4,pos:="glider.go:441",after:=#[{ on:=14,ground:=Ground.guard }],guard:=some (14,false) },{ dst:=some 108,op:=Op.pick (Operand.tmp 106) (Operand.const (Value.bool true)) (Operand.tmp 107),type:=4,pos:="glider.go:441",after:=#[{ on:=14,ground:=Ground.data },{ on:=15,ground:=Ground.data }],guard:=none },{ dst:=some 109,op:=Op.load 3 (Operand.tmp 19),type:=3,pos:="glider.go:441",after:=#[],guard:=none },{ dst:=some 110,op:=Op.binOp BinOp.sub 3 (Operand.tmp 109) (Operand.const (Value.int IntKind.i64 1)) 3,type:=3,pos:="glider.go:441",after:=#[{ on:=17,ground:=Ground.data }],guard:=none },{ dst:=some 111,op:=Op.call { callee:=Callee.value (Operand.tmp 92),args:=#[Operand.tmp 93,Operand.tmp 94,Operand.tmp 97,Operand.tmp 100,Operand.tmp 104,Operand.tmp 108,Operand.tmp 110],argTypes:=#[31,2,2,2,49,4,3] },type:=0,pos:="glider.go:441",after:=#[{ on:=0,ground:=Ground.data },{ on:=1,ground:=Ground.data },{ on:=2,ground:=Ground.data },{ on:=5,ground:=Ground.data },{ on:=8,ground:=Ground.data },{ on:=12,ground:=Ground.data },{ on:=16,ground:=Ground.data },{ on:=18,ground:=Ground.data },{ on:=14,ground:=Ground.chain }],guard:=none }] true) (aiL Q) { tmps:=#[y0,y1,y2,y3,y4,y5,y6,y7,y8,y9,y10,y11,.pointer (some ⟨gG,0,none⟩),y13,y14,.pointer (some ⟨g15,0,none⟩),.pointer (some ⟨g16,0,none⟩),.pointer (some ⟨g17,0,none⟩),.pointer (some ⟨g18,0,none⟩),.pointer (some ⟨g19,0,none⟩),.pointer (some ⟨g20,0,none⟩),Z ab u,.pointer (some ⟨g22,0,none⟩),y23,Z ab E,.bool h,y26,y27,y28,y29,y30,y31,y32,y33,y34,y35,y36,y37,y38,y39,y40,y41,y42,y43,y44,y45,y46,y47,y48,y49,y50,y51,y52,y53,y54,y55,y56,y57,y58,y59,y60,y61,y62,y63,y64,y65,y66,y67,y68,y69,y70,y71,y72,y73,y74,y75,y76,y77,y78,y79,y80,y81,y82,y83,y84,y85,y86,y87,y88,y89,y90,y91,y92,y93,y94,y95,y96,y97,y98,y99,aY4,y101,y102,aY5,y104,aY6,aY7,aY8,aY9,aZa,aZb,aZc],defers:=[] } W0:=by
 have hmx:Try.prog.follows .mixedOrders = true:=by kernel_rfl
 have qj:=Try.underlying31
 have E9:=Try.underlying33
 have hLO:¬ LetsOut (aiL Q):=fun ⟨a,w,h1⟩=>h1
 have HQ:=Lib.hid hKK
 have aBk:=Lib.hid hcall
 clear hKK hcall
 have Jc:w.heap.size≤W0.heap.size:=mB.size
 have hKb:Below w.heap.size W0 W0:=(Below.refl _ _).mono Jc
 have aLX:=gT.ne hP mG (by decide)
 have aBl:=gT.ne hP m22 (by decide)
 have aBm:=gT.ne hP m15 (by decide)
 have hne16:=gT.ne hP m16 (by decide)
 have aBn:=gT.ne hP m17 (by decide)
 have aBo:=gT.ne hP m18 (by decide)
 have aBp:=gT.ne hP m19 (by decide)
 have aBq:=h20
 replace mG:=ag mG
 replace m22:=ag m22
 replace m15:=ag m15
 replace m16:=ag m16
 replace m17:=ag m17
 replace m18:=ag m18
 replace m19:=ag m19
 replace m20:=ag m20
 replace mB:=bF mB
 replace hP:=gT.below hP (bF (Below.refl W0.heap.size W0))
 have hkd:∀ k,k < W0.heap.size→some k≠pv.ownBlock→(World.drew W0).heap[k]? = W0.heap[k]?:=fun _ _ _=>rfl
 have hbd:Below w.heap.size W0 (World.drew W0):=(bF (Below.refl W0.heap.size W0)).mono Jc
 cases there with
 |false =>
  refine Vy (m:=20) (S:=fun w'=>w'.cell? ⟨gG,0,none⟩ = some (.func (.func 107) #[] lb)∧w'.cell? ⟨g22,0,none⟩ = some (Z ab nx.f0.f0)∧w'.cell? ⟨g22,1,none⟩ = some (Z ab nx.f0.f1)∧w'.cell? ⟨g22,2,none⟩ = some (Z ab nx.f1.f0)∧w'.cell? ⟨g22,3,none⟩ = some (Z ab nx.f1.f1)∧w'.cell? ⟨g15,0,none⟩ = some (Z ab left)∧w'.cell? ⟨g16,0,none⟩ = some (Z ab cost)∧w'.cell? ⟨g17,0,none⟩ = some (pv)∧w'.cell? ⟨g18,0,none⟩ = some (.bool false)∧w'.cell? ⟨g19,0,none⟩ = some (Z ab m)∧w'.cell? ⟨g20,0,none⟩ = some (Z ab c0)∧w'.cell? ⟨g20,1,none⟩ = some (Z ab c1)) (ds:=[19]) #[al,al,al,al,al,al,al,al,al,al,al,al,al,al,al,al,al,al,al,al] aT (hLO) aT rfl rfl ⟨((ae mG 0).trans rfl),((ae m22 0).trans rfl),((ae m22 1).trans rfl),((ae m22 2).trans rfl),((ae m22 3).trans rfl),((ae m15 0).trans rfl),((ae m16 0).trans rfl),((ae m17 0).trans rfl),((ae m18 0).trans rfl),((ae m19 0).trans rfl),((ae m20 0).trans rfl),((ae m20 1).trans rfl)⟩ (fun hHeld=>?_)
  generalize hWd:World.drew _ = Wx at mG m22 m15 m16 m17 m18 m19 m20 hP hkd hbd mB hHeld ⊢
  clear hWd
  refine dR (i:=2) (N:=some 94) aT ?_
  refine dR (i:=4) (N:=some 96) aT ?_
  refine dR (i:=7) (N:=some 99) aT ?_
  refine iT (i:=0) (N:=some 92) aT hHeld ?_
  refine iT (i:=1) (N:=some 93) aT hHeld ?_
  refine iT (i:=3) (N:=some 95) aT hHeld ?_
  refine dR (i:=5) (N:=some 97) aT ?_
  refine iT (i:=6) (N:=some 98) aT hHeld ?_
  refine dR (i:=8) (N:=some 100) aT ?_
  refine iT (i:=9) (N:=some 101) aT hHeld ?_
  refine iT (i:=10) (N:=some 102) aT hHeld ?_
  refine iT (i:=13) (N:=some 105) aT hHeld ?_
  refine iT (i:=17) (N:=some 109) aT hHeld ?_
  refine dR (i:=18) (N:=some 110) aT ?_
  refine iW (i:=11) (N:=some 103) #[ac,ac,ac,ac,ac,ac,ac,ac,ac,ac,ac,ac,al,ac,al,al,al,ac,ac,al] rfl rfl aT (by decide) (fun K hK=>?_)
  have kZ:Wx.heap.size≤(Wx.alloc (.cells #[Z ab c0,Z ab c1] 33)).heap.size:=(aH (Below.refl Wx.heap.size Wx) (.cells #[Z ab c0,Z ab c1] 33)).size
  refine GG (w1:=?_) (v:=?_) (by rfl) rfl ?_ ?_
  rotate_left 2
  ·go_simp
   constructor
   ·rfl
   ·rfl
  have mG_:=aa mG (.cells #[Z ab c0,Z ab c1] 33)
  have ab1:=aa m22 (.cells #[Z ab c0,Z ab c1] 33)
  have aD3:=aa m15 (.cells #[Z ab c0,Z ab c1] 33)
  have aD4:=aa m16 (.cells #[Z ab c0,Z ab c1] 33)
  have aD5:=aa m17 (.cells #[Z ab c0,Z ab c1] 33)
  have aD6:=aa m18 (.cells #[Z ab c0,Z ab c1] 33)
  have aD7:=aa m19 (.cells #[Z ab c0,Z ab c1] 33)
  have aqE:=aa m20 (.cells #[Z ab c0,Z ab c1] 33)
  refine hK.out _ _ ⟨((ae mG_ 0).trans rfl),((ae ab1 0).trans rfl),((ae ab1 1).trans rfl),((ae ab1 2).trans rfl),((ae ab1 3).trans rfl),((ae aD3 0).trans rfl),((ae aD4 0).trans rfl),((ae aD5 0).trans rfl),((ae aD6 0).trans rfl),((ae aD7 0).trans rfl),((ae aqE 0).trans rfl),((ae aqE 1).trans rfl)⟩ (fun hHeld=>?_)
  clear hK K
  refine dQ aFx ?_
  refine iW (i:=12) (N:=some 104) #[ac,ac,ac,ac,ac,ac,ac,ac,ac,ac,ac,ac,ac,ac,al,al,al,ac,ac,al] rfl rfl aT (by decide) (fun K hK=>?_)
  refine Gz (w0:=w) w.heap.size (by rfl) (.tmp 101) (.tmp 103) 49 33 (.agg #[Z ab 0,Z ab 0]) 16 rfl Try.underlying49 Vt rfl (by decide) pv plan.length (Pn plan) [Z ab c0,Z ab c1] rfl rfl rfl (WN [⟨c0,c1⟩]) hP mB mB.size (by omega) ?_
  intro v1 Ja hown hB1 hgr hst hback
  have HP1:gT Ja w.heap.size v1 (plan++[⟨c0,c1⟩]):=by unfold gT;rw [Gy,List.length_append];exact hown
  have ahw:(v1.ownBlock = pv.ownBlock∧∀ W':ao,gT W' w.heap.size v1 (plan++[⟨c0,c1⟩])→gT W' w.heap.size pv plan)∨∃ b,v1.ownBlock = some b∧W0.heap.size≤b:=by
   rcases hback with ⟨e1,e2⟩|⟨b,e1,e2⟩
   ·exact .inl ⟨e1,fun W' hW=>e2 W' (by unfold gT at hW;rw [Gy,List.length_append] at hW;exact hW)⟩
   ·exact .inr ⟨b,e1,Nat.le_trans hbd.size e2⟩
  clear hback hown
  replace mG:=iF mG hgr aLX
  replace m22:=iF m22 hgr aBl
  replace m15:=iF m15 hgr aBm
  replace m16:=iF m16 hgr hne16
  replace m17:=iF m17 hgr aBn
  replace m18:=iF m18 hgr aBo
  replace m19:=iF m19 hgr aBp
  replace m20:=iF m20 hgr aBq
  have aD9:∀ k,k < W0.heap.size→some k≠pv.ownBlock→Ja.heap[k]? = W0.heap[k]?:=fun k hk hn=>(hgr.block k (Nat.lt_of_lt_of_le hk hbd.size) hn).trans (hkd k hk hn)
  have aEa:Below w.heap.size W0 Ja:=hbd.grown hgr (Nat.le_trans Jc hbd.size) (Cf hP)
  refine hK.out _ _ ⟨((ae mG 0).trans rfl),((ae m22 0).trans rfl),((ae m22 1).trans rfl),((ae m22 2).trans rfl),((ae m22 3).trans rfl),((ae m15 0).trans rfl),((ae m16 0).trans rfl),((ae m17 0).trans rfl),((ae m18 0).trans rfl),((ae m19 0).trans rfl),((ae m20 0).trans rfl),((ae m20 1).trans rfl)⟩ (fun hHeld=>?_)
  clear hK K
  refine dQ aFy ?_
  refine dR (i:=14) (N:=some 106) aT ?_
  refine dR (i:=15) (N:=some 107) aT ?_
  refine dR (i:=16) (N:=some 108) aT ?_
  refine Mf (i:=19) (N:=some 111) #[ac,ac,ac,ac,ac,ac,ac,ac,ac,ac,ac,ac,ac,ac,ac,ac,ac,ac,ac,ac] rfl rfl aT (by decide) (fun K hK=>?_)
  have jL:=aBk.out v1 Ja HP1 hB1 aEa aD9 hst ahw
  refine aqA Try.func107 aT rfl #[.agg #[Z ab nx.f0.f0,Z ab nx.f0.f1,Z ab nx.f1.f0,Z ab nx.f1.f1],Z ab E,Z ab (an (left - u)),Z ab (an (cost+u)),v1,.bool (false || h),Z ab (an (m - 1))] lb (by rfl) rfl rfl rfl Ju ?_
  with_reducible refine jL.mono ?_
  rintro e w19 ⟨⟨r_,rfl⟩,hPP⟩
  refine ⟨_,rfl,?_⟩
  clear jL
  refine hK.out _ _ ?_
  clear hK K
  refine dQ aFz ?_
  refine mi aT ?_
  skip
  exact HQ.out _ _ _ _ _ _ _ _ _ _ _ _ _ _ _ _ _ _ _ _ _ hPP
 |true =>
  refine Vy (m:=20) (S:=fun w'=>w'.cell? ⟨gG,0,none⟩ = some (.func (.func 107) #[] lb)∧w'.cell? ⟨g22,0,none⟩ = some (Z ab nx.f0.f0)∧w'.cell? ⟨g22,1,none⟩ = some (Z ab nx.f0.f1)∧w'.cell? ⟨g22,2,none⟩ = some (Z ab nx.f1.f0)∧w'.cell? ⟨g22,3,none⟩ = some (Z ab nx.f1.f1)∧w'.cell? ⟨g15,0,none⟩ = some (Z ab left)∧w'.cell? ⟨g16,0,none⟩ = some (Z ab cost)∧w'.cell? ⟨g17,0,none⟩ = some (pv)∧w'.cell? ⟨g18,0,none⟩ = some (.bool true)∧w'.cell? ⟨g19,0,none⟩ = some (Z ab m)∧w'.cell? ⟨g20,0,none⟩ = some (Z ab c0)∧w'.cell? ⟨g20,1,none⟩ = some (Z ab c1)) (ds:=[19]) #[al,al,al,al,al,al,al,al,al,al,al,al,al,al,al,al,al,al,al,al] aT (hLO) aT rfl rfl ⟨((ae mG 0).trans rfl),((ae m22 0).trans rfl),((ae m22 1).trans rfl),((ae m22 2).trans rfl),((ae m22 3).trans rfl),((ae m15 0).trans rfl),((ae m16 0).trans rfl),((ae m17 0).trans rfl),((ae m18 0).trans rfl),((ae m19 0).trans rfl),((ae m20 0).trans rfl),((ae m20 1).trans rfl)⟩ (fun hHeld=>?_)
  generalize hWd:World.drew _ = Wx at mG m22 m15 m16 m17 m18 m19 m20 hP hkd hbd mB hHeld ⊢
  clear hWd
  refine dR (i:=2) (N:=some 94) aT ?_
  refine dR (i:=4) (N:=some 96) aT ?_
  refine dR (i:=7) (N:=some 99) aT ?_
  refine iT (i:=0) (N:=some 92) aT hHeld ?_
  refine iT (i:=1) (N:=some 93) aT hHeld ?_
  refine iT (i:=3) (N:=some 95) aT hHeld ?_
  refine dR (i:=5) (N:=some 97) aT ?_
  refine iT (i:=6) (N:=some 98) aT hHeld ?_
  refine dR (i:=8) (N:=some 100) aT ?_
  refine iT (i:=9) (N:=some 101) aT hHeld ?_
  refine iT (i:=10) (N:=some 102) aT hHeld ?_
  refine iT (i:=13) (N:=some 105) aT hHeld ?_
  refine iT (i:=17) (N:=some 109) aT hHeld ?_
  refine dR (i:=18) (N:=some 110) aT ?_
  refine iW (i:=11) (N:=some 103) #[ac,ac,ac,ac,ac,ac,ac,ac,ac,ac,ac,ac,al,ac,al,al,al,ac,ac,al] rfl rfl aT (by decide) (fun K hK=>?_)
  have kZ:Wx.heap.size≤(Wx.alloc (.cells #[Z ab c0,Z ab c1] 33)).heap.size:=(aH (Below.refl Wx.heap.size Wx) (.cells #[Z ab c0,Z ab c1] 33)).size
  refine GG (w1:=?_) (v:=?_) (by rfl) rfl ?_ ?_
  rotate_left 2
  ·go_simp
   constructor
   ·rfl
   ·rfl
  have mG_:=aa mG (.cells #[Z ab c0,Z ab c1] 33)
  have ab1:=aa m22 (.cells #[Z ab c0,Z ab c1] 33)
  have aD3:=aa m15 (.cells #[Z ab c0,Z ab c1] 33)
  have aD4:=aa m16 (.cells #[Z ab c0,Z ab c1] 33)
  have aD5:=aa m17 (.cells #[Z ab c0,Z ab c1] 33)
  have aD6:=aa m18 (.cells #[Z ab c0,Z ab c1] 33)
  have aD7:=aa m19 (.cells #[Z ab c0,Z ab c1] 33)
  have aqE:=aa m20 (.cells #[Z ab c0,Z ab c1] 33)
  refine hK.out _ _ ⟨((ae mG_ 0).trans rfl),((ae ab1 0).trans rfl),((ae ab1 1).trans rfl),((ae ab1 2).trans rfl),((ae ab1 3).trans rfl),((ae aD3 0).trans rfl),((ae aD4 0).trans rfl),((ae aD5 0).trans rfl),((ae aD6 0).trans rfl),((ae aD7 0).trans rfl),((ae aqE 0).trans rfl),((ae aqE 1).trans rfl)⟩ (fun hHeld=>?_)
  clear hK K
  refine dQ aFx ?_
  refine iW (i:=12) (N:=some 104) #[ac,ac,ac,ac,ac,ac,ac,ac,ac,ac,ac,ac,ac,ac,al,al,al,ac,ac,al] rfl rfl aT (by decide) (fun K hK=>?_)
  refine Gz (w0:=w) w.heap.size (by rfl) (.tmp 101) (.tmp 103) 49 33 (.agg #[Z ab 0,Z ab 0]) 16 rfl Try.underlying49 Vt rfl (by decide) pv plan.length (Pn plan) [Z ab c0,Z ab c1] rfl rfl rfl (WN [⟨c0,c1⟩]) hP mB mB.size (by omega) ?_
  intro v1 Ja hown hB1 hgr hst hback
  have HP1:gT Ja w.heap.size v1 (plan++[⟨c0,c1⟩]):=by unfold gT;rw [Gy,List.length_append];exact hown
  have ahw:(v1.ownBlock = pv.ownBlock∧∀ W':ao,gT W' w.heap.size v1 (plan++[⟨c0,c1⟩])→gT W' w.heap.size pv plan)∨∃ b,v1.ownBlock = some b∧W0.heap.size≤b:=by
   rcases hback with ⟨e1,e2⟩|⟨b,e1,e2⟩
   ·exact .inl ⟨e1,fun W' hW=>e2 W' (by unfold gT at hW;rw [Gy,List.length_append] at hW;exact hW)⟩
   ·exact .inr ⟨b,e1,Nat.le_trans hbd.size e2⟩
  clear hback hown
  replace mG:=iF mG hgr aLX
  replace m22:=iF m22 hgr aBl
  replace m15:=iF m15 hgr aBm
  replace m16:=iF m16 hgr hne16
  replace m17:=iF m17 hgr aBn
  replace m18:=iF m18 hgr aBo
  replace m19:=iF m19 hgr aBp
  replace m20:=iF m20 hgr aBq
  have aD9:∀ k,k < W0.heap.size→some k≠pv.ownBlock→Ja.heap[k]? = W0.heap[k]?:=fun k hk hn=>(hgr.block k (Nat.lt_of_lt_of_le hk hbd.size) hn).trans (hkd k hk hn)
  have aEa:Below w.heap.size W0 Ja:=hbd.grown hgr (Nat.le_trans Jc hbd.size) (Cf hP)
  refine hK.out _ _ ⟨((ae mG 0).trans rfl),((ae m22 0).trans rfl),((ae m22 1).trans rfl),((ae m22 2).trans rfl),((ae m22 3).trans rfl),((ae m15 0).trans rfl),((ae m16 0).trans rfl),((ae m17 0).trans rfl),((ae m18 0).trans rfl),((ae m19 0).trans rfl),((ae m20 0).trans rfl),((ae m20 1).trans rfl)⟩ (fun hHeld=>?_)
  clear hK K
  refine dQ aFy ?_
  refine dR (i:=14) (N:=some 106) aT ?_
  refine j6 (i:=15) (N:=some 107) (v:=undef) (a':=?_) #[ac,ac,ac,ac,ac,ac,ac,ac,ac,ac,ac,ac,ac,ac,ac,ac,al,ac,ac,al] rfl rfl aT (fun _ _ _ h=>h) (Or.inr ⟨by rfl,rfl⟩) ?_ ?_
  rotate_left
  ·simp only [Act.put,ap,aq,ar,eY,fo]
   rfl
  refine dR (i:=16) (N:=some 108) aT ?_
  refine Mf (i:=19) (N:=some 111) #[ac,ac,ac,ac,ac,ac,ac,ac,ac,ac,ac,ac,ac,ac,ac,ac,ac,ac,ac,ac] rfl rfl aT (by decide) (fun K hK=>?_)
  have jL:=aBk.out v1 Ja HP1 hB1 aEa aD9 hst ahw
  refine aqA Try.func107 aT rfl #[.agg #[Z ab nx.f0.f0,Z ab nx.f0.f1,Z ab nx.f1.f0,Z ab nx.f1.f1],Z ab E,Z ab (an (left - u)),Z ab (an (cost+u)),v1,.bool (true || h),Z ab (an (m - 1))] lb (by rfl) rfl rfl rfl Ju ?_
  with_reducible refine jL.mono ?_
  rintro e w19 ⟨⟨r_,rfl⟩,hPP⟩
  refine ⟨_,rfl,?_⟩
  clear jL
  refine hK.out _ _ ?_
  clear hK K
  refine dQ aFz ?_
  refine mi aT ?_
  skip
  exact HQ.out _ _ _ _ _ _ _ _ _ _ _ _ _ _ _ _ _ _ _ _ _ hPP
theorem qY.WQ {w:ao} {gL gB B:Nat} {R:List gU × Int} {plan:List gU} {pv bv:Value} {V X Y:ao} {row:Option Nat} (hw:w.heap.size≤V.heap.size) (hV:V.heap.size≤B) (h:qY w gL gB R plan pv bv V X) (hg:X.grownBy Y row) (hr:∀ r,row = some r→B≤r∧∃ o:Obj,X.heap[r]? = some o∧o.isCells = false):qY w gL gB R plan pv bv V Y:=by
 obtain ⟨h1,h2,bv',⟨h3,h4,h5⟩,h6⟩:=h
 exact ⟨Ce.ayH hw hV () X Y row h1 hg hr,h2.WQ hg hr,bv',⟨lD h3 hg hr,lD h4 hg hr,h5.WQ hg hr⟩,h6⟩
theorem qY.below {w:ao} {gL gB:Nat} {R:List gU × Int} {plan:List gU} {pv bv:Value} {V X Y:ao} (h:qY w gL gB R plan pv bv V X) (hX:w.heap.size≤X.heap.size) (hb:Below X.heap.size X Y):qY w gL gB R plan pv bv V Y:=by
 obtain ⟨h1,h2,bv',⟨h3,h4,h5⟩,h6⟩:=h
 exact ⟨h1.step hX hb,h2.below hb,bv',⟨ah h3 hb,ah h4 hb,h5.below hb⟩,h6⟩
theorem qY.back {w:ao} {gL gB:Nat} {R R0:List gU × Int} {plan:List gU} {c:gU} {pv bv v1:Value} {W0 W1 W:ao} {e:Ending} (hA:IM w gL gB bv R0 W1) (h1:Below w.heap.size W0 W1) (hk:∀ k,k < W0.heap.size→some k≠pv.ownBlock→W1.heap[k]? = W0.heap[k]?) (hP:gT W0 w.heap.size pv plan) (hst:gT W1 w.heap.size pv plan)
 (hb:(v1.ownBlock = pv.ownBlock∧∀ W':ao,gT W' w.heap.size v1 (plan++[c])→gT W' w.heap.size pv plan)∨∃ b,v1.ownBlock = some b∧W0.heap.size≤b)
 (h:Pq w gL gB R (plan++[c]) v1 bv W1 e W):qY w gL gB R plan pv bv W0 W:=by
 obtain ⟨_,h2,h3,bv',h4,h5⟩:=h
 have k1:Ce w gL gB pv.ownBlock W0 W1:=⟨h1,fun k hk1 _ _ n3=>hk k hk1 n3⟩
 refine ⟨k1.then h2 ?_,?_,bv',h4,fun k hk2=>?_⟩
 ·rcases hb with ⟨e1,_⟩|⟨b,e1,e2⟩
  ·exact .inl e1
  ·exact .inr ⟨b,e1,e2⟩
 ·rcases hb with ⟨_,e2⟩|⟨b,e1,e2⟩
  ·exact e2 W h3
  ·refine hst.Aq h2 (gT.ne hst hA.1 (by decide)) (gT.ne hst hA.2.1 (by decide)) (fun k hk2 he=>?_)
   rw [e1] at he
   injection he with he
   have:=(hP.lt k hk2).2
   omega
 ·rcases h5 k hk2 with h5|h5
  ·exact .inl h5
  ·exact .inr (Nat.le_trans h1.size h5)
theorem Mr {w:ao} {gL gB B:Nat} {R:List gU × Int} {plan:List gU} {pv bv:Value} {X W:ao} (hA:IM w gL gB bv R X) (hP:gT X w.heap.size pv plan) (h:Ce w gL gB pv.ownBlock X W):KeepsFrom B X W :=
 ⟨h.1.size,fun k ob _ h0 ho=>by
  have hne:∀ {g:Nat} {cs:Array Value} {t:TypeId},dW X g cs t→k≠g:=by
   rintro g cs t hb rfl
   rw [show X.heap[_]? = _ from hb] at h0
   cases h0
   cases ho
  refine (h.2 k (Array.getElem?_eq_some_iff.1 h0).1 (hne hA.1) (hne hA.2.1) (fun e=>?_)).trans h0
  obtain ⟨cells,hc⟩:=BV hP k e.symm
  rw [hc] at h0
  cases h0
  cases ho⟩
def aqF (w:ao) (s:lK) (v:nW) (p:BX) (g gX gV gK gG gL gB:Nat) (B7 B8:Option Addr) (d7 d8:Nat) (n:Nat):Prop:=∀ (x:iA) (t left cost m:Int) (plan:List gU) (there:Bool) (st:List gU × Int) (pv bv:Value) (V:ao),m = (n:Int)→0 < plan.length+n→plan.length+n≤3→vK x→(0≤t∧t≤1073741824+(plan.length:Int)*131072)→(0≤left∧left≤1073741824)→(0≤cost∧cost≤(plan.length:Int)*1073741824)→
 anw w s v p g gX gV gK gG gL gB B7 B8 d7 d8 V→IM w gL gB bv st V→gT V w.heap.size pv plan→(∀ k,bv.ownBlock = some k→some k≠pv.ownBlock)→
 Calls Try.prog 107 #[.agg #[Z ab x.f0.f0,Z ab x.f0.f1,Z ab x.f1.f0,Z ab x.f1.f1],Z ab t,Z ab left,Z ab cost,pv,.bool there,Z ab m,.pointer (some ⟨gL,0,none⟩),.pointer (some ⟨gB,0,none⟩),.pointer (some ⟨gX,0,none⟩),.pointer (some ⟨gV,0,none⟩),.pointer (some ⟨gK,0,none⟩),.pointer (some ⟨gG,0,none⟩)] V (Pq w gL gB (Am s v p n x t left cost plan there st) plan pv bv V)
theorem anz (w:ao) (s:lK) (v:nW) (p:BX) (g gX gV gK gG gL gB:Nat) (B7 B8:Option Addr) (d7 d8:Nat) (hTA:∀ W',Below w.heap.size w W'→dW W' g #[Z ab s.nx,Z ab s.ny,Z ab s.cell,Z ab s.slot,Z ab s.slots,Z ab s.layers,Z ab s.most,.slice B7 s.bf.length d7,.slice B8 s.aC.length d8,Z ab v.speed,Z ab v.bq,Z ab v.use.f0,Z ab v.use.f1,Z ab v.aV.f0,Z ab v.aV.f1,Z ab v.reserve] 110→lC W' g s v) (hS:VS s) (hV:Fz v) (hv:wZ v = true) (hGL:w.heap.size≤gL) (hGB:w.heap.size≤gB) (n:Nat) (IH:aqF w s v p g gX gV gK gG gL gB B7 B8 d7 d8 n)
 (x:iA) (t left cost m:Int) (plan:List gU) (there:Bool) (st:List gU × Int) (Ap:Option Addr) (cp:Nat) (bv:Value) (V:ao) (hm:m = (n:Int)+1) (hpl:plan.length+(n+1)≤3) (hx:vK x) (ht:0≤t∧t≤1073741824+(plan.length:Int)*131072) (hl:0≤left∧left≤1073741824) (hc:0≤cost∧cost≤(plan.length:Int)*1073741824)
 (hE:anw w s v p g gX gV gK gG gL gB B7 B8 d7 d8 V) (hA:IM w gL gB bv st V) (hP:gT V w.heap.size (Value.slice Ap plan.length cp) plan) (hbn:∀ k,bv.ownBlock = some k→some k≠((Value.slice Ap plan.length cp)).ownBlock):
 Calls Try.prog 107 #[.agg #[Z ab x.f0.f0,Z ab x.f0.f1,Z ab x.f1.f0,Z ab x.f1.f1],Z ab t,Z ab left,Z ab cost,(Value.slice Ap plan.length cp),.bool there,Z ab m,.pointer (some ⟨gL,0,none⟩),.pointer (some ⟨gB,0,none⟩),.pointer (some ⟨gX,0,none⟩),.pointer (some ⟨gV,0,none⟩),.pointer (some ⟨gK,0,none⟩),.pointer (some ⟨gG,0,none⟩)] V (Pq w gL gB (Am s v p (n+1) x t left cost plan there st) plan (Value.slice Ap plan.length cp) bv V):=by
 have qj:=Try.underlying31
 have E9:=Try.underlying33
 have oO:=Try.underlying27
 have vo:=Try.underlying29
 have XP:=Try.underlying81
 have ayJ:∀ (x0_ x1_:Value) (W_:ao),(Instr.field 27 (.agg #[x0_,x1_]) 1).run Try.prog W_ = .ok (x1_) W_:=fun _ _ W_=>by kernel_rfl
 have HTA:=Lib.hid hTA
 clear hTA
 have HS:Hid (Am s v p (n+1) x t left cost plan there st = (uC s).foldl (stepG s v p n x t left cost plan there) st):=Lib.hid (WO _ _ _ _ _ _ _ _ _ _ _)
 have HD0:Hid (nY s v x t≠0→Am s v p (n+1) x t left cost plan there st = st):=Lib.hid (fun hd=>(WO _ _ _ _ _ _ _ _ _ _ _).trans (CO _ _ (fun st c _=>by unfold stepG;rw [if_pos hd];exact Rf _ _ _ _ _)))
 generalize Am s v p (n+1) x t left cost plan there st = RR at*
 have hmz:(m == 0) = false:=beq_eq_false_iff_ne.2 (by omega)
 have HMM:=Lib.hid hm
 clear hm
 obtain ⟨mB,mT,mX,mV,mK,mG⟩:=hE
 obtain ⟨mL,mBe,HC⟩:=hA
 have hsV:w.heap.size≤V.heap.size:=mB.size
 have a6O:=bO mL
 have a6P:=bO mBe
 have HBN:=Lib.hid hbn
 clear hbn
 have aZm:∀ k,((Value.slice Ap plan.length cp)).ownBlock = some k→k < V.heap.size:=fun k hk=>(hP.lt k hk).2
 refine (callsIn_wide (n:=7)).1 ?_
 refine callsIn_of_wp_marks Try.func107 rfl trivial ?_ rfl
 simp only [Try.ntmps107,List.size_toArray,List.length_cons,List.length_nil,Nat.reduceAdd,Nat.reduceSub,Array.replicate_succ,Array.replicate_zero,List.push_toArray,List.append_toArray,List.nil_append,List.cons_append]
 gi_wp2_with fail
 have aqB:w.heap.size≤V.heap.size:=mB.size
 have hb0:=(aH (aH (aH (aH (aH (aH (aH (Below.refl V.heap.size V) (.cells #[Z ab x.f0.f0,Z ab x.f0.f1,Z ab x.f1.f0,Z ab x.f1.f1] 31)) (.cells #[Z ab t] 2)) (.cells #[Z ab left] 2)) (.cells #[Z ab cost] 2)) (.cells #[(Value.slice Ap plan.length cp)] 49)) (.cells #[.bool there] 4)) (.cells #[Z ab m] 3))
 have hVW:=hb0.size
 have HP:=gT.below hP hb0
 replace HC:=gT.below HC hb0
 have hKp:Ce w gL gB ((Value.slice Ap plan.length cp)).ownBlock V _:=Ce.of_below aqB hb0
 clear hb0 hP
 have yz:=bO mT
 have aqG:=bO mX
 have aqH:=bO mV
 have aqI:=bO mK
 have aqJ:=bO mG
 have ahv:=bO mL
 have WR:=bO mBe
 have m13:dW (((((((V.alloc (.cells #[Z ab x.f0.f0,Z ab x.f0.f1,Z ab x.f1.f0,Z ab x.f1.f1] 31)).alloc (.cells #[Z ab t] 2)).alloc (.cells #[Z ab left] 2)).alloc (.cells #[Z ab cost] 2)).alloc (.cells #[(Value.slice Ap plan.length cp)] 49)).alloc (.cells #[.bool there] 4)).alloc (.cells #[Z ab m] 3)) (V.heap.size) #[Z ab x.f0.f0,Z ab x.f0.f1,Z ab x.f1.f0,Z ab x.f1.f1] 31:=(aa (aa (aa (aa (aa (aa aFr _) _) _) _) _) _)
 have m14:dW (((((((V.alloc (.cells #[Z ab x.f0.f0,Z ab x.f0.f1,Z ab x.f1.f0,Z ab x.f1.f1] 31)).alloc (.cells #[Z ab t] 2)).alloc (.cells #[Z ab left] 2)).alloc (.cells #[Z ab cost] 2)).alloc (.cells #[(Value.slice Ap plan.length cp)] 49)).alloc (.cells #[.bool there] 4)).alloc (.cells #[Z ab m] 3)) (V.heap.size+1) #[Z ab t] 2:=(aa (aa (aa (aa (aa aFs _) _) _) _) _)
 have m15:dW (((((((V.alloc (.cells #[Z ab x.f0.f0,Z ab x.f0.f1,Z ab x.f1.f0,Z ab x.f1.f1] 31)).alloc (.cells #[Z ab t] 2)).alloc (.cells #[Z ab left] 2)).alloc (.cells #[Z ab cost] 2)).alloc (.cells #[(Value.slice Ap plan.length cp)] 49)).alloc (.cells #[.bool there] 4)).alloc (.cells #[Z ab m] 3)) (V.heap.size+1+1) #[Z ab left] 2:=(aa (aa (aa (aa aFt _) _) _) _)
 have m16:dW (((((((V.alloc (.cells #[Z ab x.f0.f0,Z ab x.f0.f1,Z ab x.f1.f0,Z ab x.f1.f1] 31)).alloc (.cells #[Z ab t] 2)).alloc (.cells #[Z ab left] 2)).alloc (.cells #[Z ab cost] 2)).alloc (.cells #[(Value.slice Ap plan.length cp)] 49)).alloc (.cells #[.bool there] 4)).alloc (.cells #[Z ab m] 3)) (V.heap.size+1+1+1) #[Z ab cost] 2:=(aa (aa (aa aFu _) _) _)
 have m17:dW (((((((V.alloc (.cells #[Z ab x.f0.f0,Z ab x.f0.f1,Z ab x.f1.f0,Z ab x.f1.f1] 31)).alloc (.cells #[Z ab t] 2)).alloc (.cells #[Z ab left] 2)).alloc (.cells #[Z ab cost] 2)).alloc (.cells #[(Value.slice Ap plan.length cp)] 49)).alloc (.cells #[.bool there] 4)).alloc (.cells #[Z ab m] 3)) (V.heap.size+1+1+1+1) #[(Value.slice Ap plan.length cp)] 49:=(aa (aa aFv _) _)
 have m18:dW (((((((V.alloc (.cells #[Z ab x.f0.f0,Z ab x.f0.f1,Z ab x.f1.f0,Z ab x.f1.f1] 31)).alloc (.cells #[Z ab t] 2)).alloc (.cells #[Z ab left] 2)).alloc (.cells #[Z ab cost] 2)).alloc (.cells #[(Value.slice Ap plan.length cp)] 49)).alloc (.cells #[.bool there] 4)).alloc (.cells #[Z ab m] 3)) (V.heap.size+1+1+1+1+1) #[.bool there] 4:=(aa aFw _)
 have m19:dW (((((((V.alloc (.cells #[Z ab x.f0.f0,Z ab x.f0.f1,Z ab x.f1.f0,Z ab x.f1.f1] 31)).alloc (.cells #[Z ab t] 2)).alloc (.cells #[Z ab left] 2)).alloc (.cells #[Z ab cost] 2)).alloc (.cells #[(Value.slice Ap plan.length cp)] 49)).alloc (.cells #[.bool there] 4)).alloc (.cells #[Z ab m] 3)) (V.heap.size+1+1+1+1+1+1) #[Z ab m] 3:=(by have h_:=eB ((((((V.alloc (.cells #[Z ab x.f0.f0,Z ab x.f0.f1,Z ab x.f1.f0,Z ab x.f1.f1] 31)).alloc (.cells #[Z ab t] 2)).alloc (.cells #[Z ab left] 2)).alloc (.cells #[Z ab cost] 2)).alloc (.cells #[(Value.slice Ap plan.length cp)] 49)).alloc (.cells #[.bool there] 4)) (.cells #[Z ab m] 3);first|exact h_|(simp only [World.size_alloc] at h_;exact h_))
 replace mT:dW (((((((V.alloc (.cells #[Z ab x.f0.f0,Z ab x.f0.f1,Z ab x.f1.f0,Z ab x.f1.f1] 31)).alloc (.cells #[Z ab t] 2)).alloc (.cells #[Z ab left] 2)).alloc (.cells #[Z ab cost] 2)).alloc (.cells #[(Value.slice Ap plan.length cp)] 49)).alloc (.cells #[.bool there] 4)).alloc (.cells #[Z ab m] 3)) g #[Z ab s.nx,Z ab s.ny,Z ab s.cell,Z ab s.slot,Z ab s.slots,Z ab s.layers,Z ab s.most,.slice B7 s.bf.length d7,.slice B8 s.aC.length d8,Z ab v.speed,Z ab v.bq,Z ab v.use.f0,Z ab v.use.f1,Z ab v.aV.f0,Z ab v.aV.f1,Z ab v.reserve] 110:=(aa (aa (aa (aa (aa (aa (aa mT _) _) _) _) _) _) _)
 replace mX:dW (((((((V.alloc (.cells #[Z ab x.f0.f0,Z ab x.f0.f1,Z ab x.f1.f0,Z ab x.f1.f1] 31)).alloc (.cells #[Z ab t] 2)).alloc (.cells #[Z ab left] 2)).alloc (.cells #[Z ab cost] 2)).alloc (.cells #[(Value.slice Ap plan.length cp)] 49)).alloc (.cells #[.bool there] 4)).alloc (.cells #[Z ab m] 3)) gX #[.pointer (some ⟨g,0,none⟩)] 104:=(aa (aa (aa (aa (aa (aa (aa mX _) _) _) _) _) _) _)
 replace mV:dW (((((((V.alloc (.cells #[Z ab x.f0.f0,Z ab x.f0.f1,Z ab x.f1.f0,Z ab x.f1.f1] 31)).alloc (.cells #[Z ab t] 2)).alloc (.cells #[Z ab left] 2)).alloc (.cells #[Z ab cost] 2)).alloc (.cells #[(Value.slice Ap plan.length cp)] 49)).alloc (.cells #[.bool there] 4)).alloc (.cells #[Z ab m] 3)) gV #[Z ab v.speed,Z ab v.bq,Z ab v.use.f0,Z ab v.use.f1,Z ab v.aV.f0,Z ab v.aV.f1,Z ab v.reserve] 29:=(aa (aa (aa (aa (aa (aa (aa mV _) _) _) _) _) _) _)
 replace mK:dW (((((((V.alloc (.cells #[Z ab x.f0.f0,Z ab x.f0.f1,Z ab x.f1.f0,Z ab x.f1.f1] 31)).alloc (.cells #[Z ab t] 2)).alloc (.cells #[Z ab left] 2)).alloc (.cells #[Z ab cost] 2)).alloc (.cells #[(Value.slice Ap plan.length cp)] 49)).alloc (.cells #[.bool there] 4)).alloc (.cells #[Z ab m] 3)) gK #[Z ab p.f0.f0.f0,Z ab p.f0.f0.f1,Z ab p.f0.f1.f0,Z ab p.f0.f1.f1,Z ab p.f1,Z ab p.f2] 81:=(aa (aa (aa (aa (aa (aa (aa mK _) _) _) _) _) _) _)
 replace mG:dW (((((((V.alloc (.cells #[Z ab x.f0.f0,Z ab x.f0.f1,Z ab x.f1.f0,Z ab x.f1.f1] 31)).alloc (.cells #[Z ab t] 2)).alloc (.cells #[Z ab left] 2)).alloc (.cells #[Z ab cost] 2)).alloc (.cells #[(Value.slice Ap plan.length cp)] 49)).alloc (.cells #[.bool there] 4)).alloc (.cells #[Z ab m] 3)) gG #[.func (.func 107) #[] #[.pointer (some ⟨gL,0,none⟩),.pointer (some ⟨gB,0,none⟩),.pointer (some ⟨gX,0,none⟩),.pointer (some ⟨gV,0,none⟩),.pointer (some ⟨gK,0,none⟩),.pointer (some ⟨gG,0,none⟩)]] 141:=(aa (aa (aa (aa (aa (aa (aa mG _) _) _) _) _) _) _)
 replace mL:dW (((((((V.alloc (.cells #[Z ab x.f0.f0,Z ab x.f0.f1,Z ab x.f1.f0,Z ab x.f1.f1] 31)).alloc (.cells #[Z ab t] 2)).alloc (.cells #[Z ab left] 2)).alloc (.cells #[Z ab cost] 2)).alloc (.cells #[(Value.slice Ap plan.length cp)] 49)).alloc (.cells #[.bool there] 4)).alloc (.cells #[Z ab m] 3)) gL #[Z ab st.2] 2:=(aa (aa (aa (aa (aa (aa (aa mL _) _) _) _) _) _) _)
 replace mBe:dW (((((((V.alloc (.cells #[Z ab x.f0.f0,Z ab x.f0.f1,Z ab x.f1.f0,Z ab x.f1.f1] 31)).alloc (.cells #[Z ab t] 2)).alloc (.cells #[Z ab left] 2)).alloc (.cells #[Z ab cost] 2)).alloc (.cells #[(Value.slice Ap plan.length cp)] 49)).alloc (.cells #[.bool there] 4)).alloc (.cells #[Z ab m] 3)) gB #[bv] 49:=(aa (aa (aa (aa (aa (aa (aa mBe _) _) _) _) _) _) _)
 replace mB:Below w.heap.size w (((((((V.alloc (.cells #[Z ab x.f0.f0,Z ab x.f0.f1,Z ab x.f1.f0,Z ab x.f1.f1] 31)).alloc (.cells #[Z ab t] 2)).alloc (.cells #[Z ab left] 2)).alloc (.cells #[Z ab cost] 2)).alloc (.cells #[(Value.slice Ap plan.length cp)] 49)).alloc (.cells #[.bool there] 4)).alloc (.cells #[Z ab m] 3)):=(aH (aH (aH (aH (aH (aH (aH mB _) _) _) _) _) _) _)
 have kZ:w.heap.size≤V.heap.size:=aqB
 generalize qQ:(((((((V.alloc (.cells #[Z ab x.f0.f0,Z ab x.f0.f1,Z ab x.f1.f0,Z ab x.f1.f1] 31)).alloc (.cells #[Z ab t] 2)).alloc (.cells #[Z ab left] 2)).alloc (.cells #[Z ab cost] 2)).alloc (.cells #[(Value.slice Ap plan.length cp)] 49)).alloc (.cells #[.bool there] 4)).alloc (.cells #[Z ab m] 3)) = W1 at mT mX mV mK mG mL mBe m13 m14 m15 m16 m17 m18 m19 mB HP HC hKp hVW ⊢
 clear qQ
 generalize ahk:V.heap.size = g13 at m13 m14 m15 m16 m17 m18 m19 ⊢
 have Uh:g≠g13:=by omega
 have Ui:gX≠g13:=by omega
 have Uj:gV≠g13:=by omega
 have Uk:gK≠g13:=by omega
 have Ul:gG≠g13:=by omega
 have IP:gL≠g13:=by omega
 have CP:gB≠g13:=by omega
 have ab2:g13≠g:=Uh.symm
 have ab3:g13≠gX:=Ui.symm
 have ab4:g13≠gV:=Uj.symm
 have ab5:g13≠gK:=Uk.symm
 have ab6:g13≠gG:=Ul.symm
 have Ud:g13≠gL:=IP.symm
 have Ps:g13≠gB:=CP.symm
 have ayv:w.heap.size≤g13:=by omega
 generalize agF:g13+1 = g14 at m14 m15 m16 m17 m18 m19 ⊢
 have Hm:g≠g14:=by omega
 have K9:gX≠g14:=by omega
 have Um:gV≠g14:=by omega
 have Un:gK≠g14:=by omega
 have Uo:gG≠g14:=by omega
 have IQ:gL≠g14:=by omega
 have CQ:gB≠g14:=by omega
 have CR:g13≠g14:=by omega
 have Oc:g14≠g:=Hm.symm
 have K7:g14≠gX:=K9.symm
 have ab7:g14≠gV:=Um.symm
 have ab8:g14≠gK:=Un.symm
 have ab9:g14≠gG:=Uo.symm
 have Pt:g14≠gL:=IQ.symm
 have Pv:g14≠gB:=CQ.symm
 have JY:g14≠g13:=CR.symm
 have aCz:w.heap.size≤g14:=by omega
 generalize aDQ:g14+1 = g15 at m15 m16 m17 m18 m19 ⊢
 have Uq:g≠g15:=by omega
 have Ur:gX≠g15:=by omega
 have Us:gV≠g15:=by omega
 have Ut:gK≠g15:=by omega
 have Uu:gG≠g15:=by omega
 have IU:gL≠g15:=by omega
 have CS:gB≠g15:=by omega
 have CU:g13≠g15:=by omega
 have CV:g14≠g15:=by omega
 have aca:g15≠g:=Uq.symm
 have acb:g15≠gX:=Ur.symm
 have acd:g15≠gV:=Us.symm
 have ace:g15≠gK:=Ut.symm
 have acf:g15≠gG:=Uu.symm
 have Pw:g15≠gL:=IU.symm
 have Px:g15≠gB:=CS.symm
 have JZ:g15≠g13:=CU.symm
 have J2:g15≠g14:=CV.symm
 have aLU:w.heap.size≤g15:=by omega
 generalize ao1:g15+1 = g16 at m16 m17 m18 m19 ⊢
 have Ho:g≠g16:=by omega
 have Uv:gX≠g16:=by omega
 have Uw:gV≠g16:=by omega
 have Ux:gK≠g16:=by omega
 have Uy:gG≠g16:=by omega
 have IV:gL≠g16:=by omega
 have CW:gB≠g16:=by omega
 have CX:g13≠g16:=by omega
 have nX:g14≠g16:=by omega
 have CY:g15≠g16:=by omega
 have Oe:g16≠g:=Ho.symm
 have acg:g16≠gX:=Uv.symm
 have ach:g16≠gV:=Uw.symm
 have aci:g16≠gK:=Ux.symm
 have acj:g16≠gG:=Uy.symm
 have Py:g16≠gL:=IV.symm
 have J3:g16≠gB:=CW.symm
 have J4:g16≠g13:=CX.symm
 have Co:g16≠g14:=nX.symm
 have J5:g16≠g15:=CY.symm
 have VM:w.heap.size≤g16:=by omega
 generalize aqC:g16+1 = g17 at m17 m18 m19 ⊢
 have IZ:g≠g17:=by omega
 have Uz:gX≠g17:=by omega
 have UA:gV≠g17:=by omega
 have UB:gK≠g17:=by omega
 have UC:gG≠g17:=by omega
 have IW:gL≠g17:=by omega
 have CZ:gB≠g17:=by omega
 have C8:g13≠g17:=by omega
 have C9:g14≠g17:=by omega
 have Da:g15≠g17:=by omega
 have Db:g16≠g17:=by omega
 have PE:g17≠g:=IZ.symm
 have ack:g17≠gX:=Uz.symm
 have acm:g17≠gV:=UA.symm
 have acn:g17≠gK:=UB.symm
 have aco:g17≠gG:=UC.symm
 have Ue:g17≠gL:=IW.symm
 have GA:g17≠gB:=CZ.symm
 have J6:g17≠g13:=C8.symm
 have J7:g17≠g14:=C9.symm
 have J8:g17≠g15:=Da.symm
 have J9:g17≠g16:=Db.symm
 have aDR:w.heap.size≤g17:=by omega
 generalize aDS:g17+1 = g18 at m18 m19 ⊢
 have UD:g≠g18:=by omega
 have UE:gX≠g18:=by omega
 have UF:gV≠g18:=by omega
 have UG:gK≠g18:=by omega
 have UH:gG≠g18:=by omega
 have IX:gL≠g18:=by omega
 have Dc:gB≠g18:=by omega
 have De:g13≠g18:=by omega
 have Df:g14≠g18:=by omega
 have Dh:g15≠g18:=by omega
 have Di:g16≠g18:=by omega
 have Dj:g17≠g18:=by omega
 have acp:g18≠g:=UD.symm
 have acr:g18≠gX:=UE.symm
 have acs:g18≠gV:=UF.symm
 have acu:g18≠gK:=UG.symm
 have acv:g18≠gG:=UH.symm
 have Uf:g18≠gL:=IX.symm
 have Pz:g18≠gB:=Dc.symm
 have Ka:g18≠g13:=De.symm
 have Kb:g18≠g14:=Df.symm
 have Ke:g18≠g15:=Dh.symm
 have Kg:g18≠g16:=Di.symm
 have Kh:g18≠g17:=Dj.symm
 have aLV:w.heap.size≤g18:=by omega
 generalize aqD:g18+1 = g19 at m19 ⊢
 have I1:g≠g19:=by omega
 have UI:gX≠g19:=by omega
 have UJ:gV≠g19:=by omega
 have UK:gK≠g19:=by omega
 have UL:gG≠g19:=by omega
 have IY:gL≠g19:=by omega
 have Dk:gB≠g19:=by omega
 have Dl:g13≠g19:=by omega
 have Dm:g14≠g19:=by omega
 have Dn:g15≠g19:=by omega
 have Dp:g16≠g19:=by omega
 have uK:g17≠g19:=by omega
 have Dq:g18≠g19:=by omega
 have PG:g19≠g:=I1.symm
 have acw:g19≠gX:=UI.symm
 have acx:g19≠gV:=UJ.symm
 have acy:g19≠gK:=UK.symm
 have acz:g19≠gG:=UL.symm
 have Ug:g19≠gL:=IY.symm
 have PD:g19≠gB:=Dk.symm
 have Ki:g19≠g13:=Dl.symm
 have Kj:g19≠g14:=Dm.symm
 have Kk:g19≠g15:=Dn.symm
 have Kl:g19≠g16:=Dp.symm
 have Dr:g19≠g17:=uK.symm
 have Km:g19≠g18:=Dq.symm
 have ayI:w.heap.size≤g19:=by omega
 clear kZ yz aqG aqH aqI aqJ ahv WR
 try clear aqD
 try clear aDS
 try clear aqC
 try clear ao1
 try clear aDQ
 try clear agF
 try clear ahk
 have sD:w.heap.size≤W1.heap.size:=mB.size
 have HN:Hid (g14≠gL∧g15≠gL∧g16≠gL∧g17≠gB):=Lib.hid ⟨Pt,Pw,Py,GA⟩
 try clear VL
 try clear aqK
 try clear aqL
 try clear aqM
 try clear aqN
 try clear ak4
 try clear Uh Hm Uq Ho IZ UD I1
 try clear Z5
 try clear aqO
 try clear aqP
 try clear aqQ
 try clear aqR
 try clear ak5
 try clear Ui K9 Ur Uv Uz UE UI
 try clear aqS
 try clear aqT
 try clear aqU
 try clear aqV
 try clear aqW
 try clear ak6
 try clear Uj Um Us Uw UA UF UJ
 try clear aqX
 try clear aqY
 try clear aqZ
 try clear aq0
 try clear aq1
 try clear ak7
 try clear Uk Un Ut Ux UB UG UK
 try clear aq2
 try clear aq3
 try clear aq4
 try clear aq5
 try clear aq6
 try clear ak8
 try clear Ul Uo Uu Uy UC UH UL
 try clear aq7
 try clear aq8
 try clear aq9
 try clear ara
 try clear arb
 try clear ak9
 try clear IP IQ IU IV IW IX IY
 try clear ala
 try clear alb
 try clear alc
 try clear ald
 try clear ale
 try clear alf
 try clear CP CQ CS CW CZ Dc Dk
 try clear ab2
 try clear ab3
 try clear ab4
 try clear ab5
 try clear ab6
 try clear Ud
 try clear Ps
 try clear CR CU CX C8 De Dl
 try clear Oc
 try clear K7
 try clear ab7
 try clear ab8
 try clear ab9
 try clear Pt
 try clear Pv
 try clear JY CV nX C9 Df Dm
 try clear aca
 try clear acb
 try clear acd
 try clear ace
 try clear acf
 try clear Pw
 try clear Px
 try clear JZ J2 CY Da Dh Dn
 try clear Oe
 try clear acg
 try clear ach
 try clear aci
 try clear acj
 try clear Py
 try clear J3
 try clear J4 Co J5 Db Di Dp
 try clear PE
 try clear ack
 try clear acm
 try clear acn
 try clear aco
 try clear Ue
 try clear GA
 try clear J6 J7 J8 J9 Dj uK
 try clear acp
 try clear acr
 try clear acs
 try clear acu
 try clear acv
 try clear Uf
 try clear Pz
 try clear Ka Kb Ke Kg Kh Dq
 try clear PG
 try clear acw
 try clear acx
 try clear acy
 try clear acz
 try clear Ug
 try clear PD
 try clear Ki Kj Kk Kl Dr Km
 clear ayv aCz aLU VM aDR aLV ayI
 refine ahr ?_
 have ak3:=(ae m19 0).trans rfl
 gi_wp2_with fail
 clear ak3
 skip
 refine wpIn_label ?_
 try dsimp only [Exit.then]
 try apply_assumption
 skip
 have aEb:=(ae mX 0).trans rfl
 gi_wp2_with fail
 clear aEb
 skip
 have hcon:=afk g W1
 refine ⟨trivial,(callsIn_wide.2 hcon).mono ?_⟩
 clear hcon
 rintro e _ ⟨rfl,rfl⟩
 gi_wp2_with fail
 have hb1:=aH (Below.refl W1.heap.size W1) (.cells #[.pointer (some ⟨g,0,none⟩)] 104)
 replace hVW:=Nat.le_trans hVW hb1.size
 replace HP:=gT.below HP hb1
 replace HC:=gT.below HC hb1
 replace hKp:=Ce.step hKp sD hb1
 clear hb1
 have yz:=bO mT
 have aqG:=bO mX
 have aqH:=bO mV
 have aqI:=bO mK
 have aqJ:=bO mG
 have ahv:=bO mL
 have WR:=bO mBe
 have arc:=bO m13
 have adP:=bO m14
 have ard:=bO m15
 have arf:=bO m16
 have afp:=bO m17
 have arh:=bO m18
 have ari:=bO m19
 have mQ:dW (W1.alloc (.cells #[.pointer (some ⟨g,0,none⟩)] 104)) (W1.heap.size) #[.pointer (some ⟨g,0,none⟩)] 104:=(by have h_:=eB W1 (.cells #[.pointer (some ⟨g,0,none⟩)] 104);first|exact h_|(simp only [World.size_alloc] at h_;exact h_))
 replace mT:dW (W1.alloc (.cells #[.pointer (some ⟨g,0,none⟩)] 104)) g #[Z ab s.nx,Z ab s.ny,Z ab s.cell,Z ab s.slot,Z ab s.slots,Z ab s.layers,Z ab s.most,.slice B7 s.bf.length d7,.slice B8 s.aC.length d8,Z ab v.speed,Z ab v.bq,Z ab v.use.f0,Z ab v.use.f1,Z ab v.aV.f0,Z ab v.aV.f1,Z ab v.reserve] 110:=(aa mT _)
 replace mX:dW (W1.alloc (.cells #[.pointer (some ⟨g,0,none⟩)] 104)) gX #[.pointer (some ⟨g,0,none⟩)] 104:=(aa mX _)
 replace mV:dW (W1.alloc (.cells #[.pointer (some ⟨g,0,none⟩)] 104)) gV #[Z ab v.speed,Z ab v.bq,Z ab v.use.f0,Z ab v.use.f1,Z ab v.aV.f0,Z ab v.aV.f1,Z ab v.reserve] 29:=(aa mV _)
 replace mK:dW (W1.alloc (.cells #[.pointer (some ⟨g,0,none⟩)] 104)) gK #[Z ab p.f0.f0.f0,Z ab p.f0.f0.f1,Z ab p.f0.f1.f0,Z ab p.f0.f1.f1,Z ab p.f1,Z ab p.f2] 81:=(aa mK _)
 replace mG:dW (W1.alloc (.cells #[.pointer (some ⟨g,0,none⟩)] 104)) gG #[.func (.func 107) #[] #[.pointer (some ⟨gL,0,none⟩),.pointer (some ⟨gB,0,none⟩),.pointer (some ⟨gX,0,none⟩),.pointer (some ⟨gV,0,none⟩),.pointer (some ⟨gK,0,none⟩),.pointer (some ⟨gG,0,none⟩)]] 141:=(aa mG _)
 replace mL:dW (W1.alloc (.cells #[.pointer (some ⟨g,0,none⟩)] 104)) gL #[Z ab st.2] 2:=(aa mL _)
 replace mBe:dW (W1.alloc (.cells #[.pointer (some ⟨g,0,none⟩)] 104)) gB #[bv] 49:=(aa mBe _)
 replace m13:dW (W1.alloc (.cells #[.pointer (some ⟨g,0,none⟩)] 104)) g13 #[Z ab x.f0.f0,Z ab x.f0.f1,Z ab x.f1.f0,Z ab x.f1.f1] 31:=(aa m13 _)
 replace m14:dW (W1.alloc (.cells #[.pointer (some ⟨g,0,none⟩)] 104)) g14 #[Z ab t] 2:=(aa m14 _)
 replace m15:dW (W1.alloc (.cells #[.pointer (some ⟨g,0,none⟩)] 104)) g15 #[Z ab left] 2:=(aa m15 _)
 replace m16:dW (W1.alloc (.cells #[.pointer (some ⟨g,0,none⟩)] 104)) g16 #[Z ab cost] 2:=(aa m16 _)
 replace m17:dW (W1.alloc (.cells #[.pointer (some ⟨g,0,none⟩)] 104)) g17 #[(Value.slice Ap plan.length cp)] 49:=(aa m17 _)
 replace m18:dW (W1.alloc (.cells #[.pointer (some ⟨g,0,none⟩)] 104)) g18 #[.bool there] 4:=(aa m18 _)
 replace m19:dW (W1.alloc (.cells #[.pointer (some ⟨g,0,none⟩)] 104)) g19 #[Z ab m] 3:=(aa m19 _)
 replace mB:Below w.heap.size w (W1.alloc (.cells #[.pointer (some ⟨g,0,none⟩)] 104)):=(aH mB _)
 have kZ:w.heap.size≤W1.heap.size:=sD
 generalize qQ:(W1.alloc (.cells #[.pointer (some ⟨g,0,none⟩)] 104)) = W0 at mT mX mV mK mG mL mBe m13 m14 m15 m16 m17 m18 m19 mQ mB HP HC hKp hVW ⊢
 clear qQ
 generalize hgQ:W1.heap.size = gQ at mQ ⊢
 have arj:g≠gQ:=by omega
 have ark:gX≠gQ:=by omega
 have arl:gV≠gQ:=by omega
 have arn:gK≠gQ:=by omega
 have aro:gG≠gQ:=by omega
 have arp:gL≠gQ:=by omega
 have alg:gB≠gQ:=by omega
 have alh:g13≠gQ:=by omega
 have ali:g14≠gQ:=by omega
 have alj:g15≠gQ:=by omega
 have alk:g16≠gQ:=by omega
 have alm:g17≠gQ:=by omega
 have aln:g18≠gQ:=by omega
 have alo:g19≠gQ:=by omega
 have aEc:gQ≠g:=arj.symm
 have aEd:gQ≠gX:=ark.symm
 have aEe:gQ≠gV:=arl.symm
 have aEf:gQ≠gK:=arn.symm
 have aEg:gQ≠gG:=aro.symm
 have arq:gQ≠gL:=arp.symm
 have alp:gQ≠gB:=alg.symm
 have ayK:gQ≠g13:=alh.symm
 have ayL:gQ≠g14:=ali.symm
 have ayM:gQ≠g15:=alj.symm
 have ayN:gQ≠g16:=alk.symm
 have ayO:gQ≠g17:=alm.symm
 have ayP:gQ≠g18:=aln.symm
 have ayQ:gQ≠g19:=alo.symm
 have hGQ:w.heap.size≤gQ:=by omega
 clear kZ yz aqG aqH aqI aqJ ahv WR arc adP ard arf afp arh ari
 try clear hgQ
 have Jc:w.heap.size≤W0.heap.size:=mB.size
 have aZn:=bO mQ
 have hQL:gQ≠gL:=arq
 have hQB:gQ≠gB:=alp
 try clear VL
 try clear aqK
 try clear aqL
 try clear aqM
 try clear aqN
 try clear ak4
 try clear Uh Hm Uq Ho IZ UD I1
 try clear arj
 try clear Z5
 try clear aqO
 try clear aqP
 try clear aqQ
 try clear aqR
 try clear ak5
 try clear Ui K9 Ur Uv Uz UE UI
 try clear ark
 try clear aqS
 try clear aqT
 try clear aqU
 try clear aqV
 try clear aqW
 try clear ak6
 try clear Uj Um Us Uw UA UF UJ
 try clear arl
 try clear aqX
 try clear aqY
 try clear aqZ
 try clear aq0
 try clear aq1
 try clear ak7
 try clear Uk Un Ut Ux UB UG UK
 try clear arn
 try clear aq2
 try clear aq3
 try clear aq4
 try clear aq5
 try clear aq6
 try clear ak8
 try clear Ul Uo Uu Uy UC UH UL
 try clear aro
 try clear aq7
 try clear aq8
 try clear aq9
 try clear ara
 try clear arb
 try clear ak9
 try clear IP IQ IU IV IW IX IY
 try clear arp
 try clear ala
 try clear alb
 try clear alc
 try clear ald
 try clear ale
 try clear alf
 try clear CP CQ CS CW CZ Dc Dk
 try clear alg
 try clear ab2
 try clear ab3
 try clear ab4
 try clear ab5
 try clear ab6
 try clear Ud
 try clear Ps
 try clear CR CU CX C8 De Dl
 try clear alh
 try clear Oc
 try clear K7
 try clear ab7
 try clear ab8
 try clear ab9
 try clear Pt
 try clear Pv
 try clear JY CV nX C9 Df Dm
 try clear ali
 try clear aca
 try clear acb
 try clear acd
 try clear ace
 try clear acf
 try clear Pw
 try clear Px
 try clear JZ J2 CY Da Dh Dn
 try clear alj
 try clear Oe
 try clear acg
 try clear ach
 try clear aci
 try clear acj
 try clear Py
 try clear J3
 try clear J4 Co J5 Db Di Dp
 try clear alk
 try clear PE
 try clear ack
 try clear acm
 try clear acn
 try clear aco
 try clear Ue
 try clear GA
 try clear J6 J7 J8 J9 Dj uK
 try clear alm
 try clear acp
 try clear acr
 try clear acs
 try clear acu
 try clear acv
 try clear Uf
 try clear Pz
 try clear Ka Kb Ke Kg Kh Dq
 try clear aln
 try clear PG
 try clear acw
 try clear acx
 try clear acy
 try clear acz
 try clear Ug
 try clear PD
 try clear Ki Kj Kk Kl Dr Km
 try clear alo
 try clear aEc
 try clear aEd
 try clear aEe
 try clear aEf
 try clear aEg
 try clear arq
 try clear alp
 try clear ayK ayL ayM ayN ayO ayP ayQ
 clear hGQ
 skip
 have ayR:V.heap.size≤W0.heap.size:=hVW
 have aZo:w.heap.size≤W0.heap.size:=mB.size
 refine wpIn_rangeFunc_ownH rfl (by omega) (gf:=129) (lb:=#[.pointer (some ⟨gQ,0,none⟩)]) rfl trivial (enters_of Try.func129 aT rfl)
  (encs:=fun c:anu s=>#[.agg #[Z ab c.1.f0,Z ab c.1.f1]]) (Kp:=KpD w g gQ #[Z ab s.nx,Z ab s.ny,Z ab s.cell,Z ab s.slot,Z ab s.slots,Z ab s.layers,Z ab s.most,.slice B7 s.bf.length d7,.slice B8 s.aC.length d8,Z ab v.speed,Z ab v.bq,Z ab v.use.f0,Z ab v.use.f1,Z ab v.aV.f0,Z ab v.aV.f1,Z ab v.reserve]) (S:=aDP s) (Sp:=aLR s) (N:=(uC s).length) (w0:=W0)
  (fun l J Jx X_ hW hJ _ hY h0=>afl 6 (by omega) l gQ g s v (fun W=>Below w.heap.size w W∧dW W g #[Z ab s.nx,Z ab s.ny,Z ab s.cell,Z ab s.slot,Z ab s.slots,Z ab s.layers,Z ab s.most,.slice B7 s.bf.length d7,.slice B8 s.aC.length d8,Z ab v.speed,Z ab v.bq,Z ab v.use.f0,Z ab v.use.f1,Z ab v.aV.f0,Z ab v.aV.f1,Z ab v.reserve] 110∧dW W gQ #[.pointer (some ⟨g,0,none⟩)] 104) (fun W h=>⟨HTA.out W h.1 h.2.1,h.2.2⟩) hS.n (KpD w g gQ #[Z ab s.nx,Z ab s.ny,Z ab s.cell,Z ab s.slot,Z ab s.slots,Z ab s.layers,Z ab s.most,.slice B7 s.bf.length d7,.slice B8 s.aC.length d8,Z ab v.speed,Z ab v.bq,Z ab v.use.f0,Z ab v.use.f1,Z ab v.aV.f0,Z ab v.aV.f1,Z ab v.reserve]) (fun A B h hE=>⟨hE.1.trans h.1,h.2.1 hE.2.1,h.2.2 hE.2.2⟩) J Jx hY X_ ⟨bI mB hW,dW.E8 mT hW,dW.E8 mQ hW⟩ h0) KpD.trans (KpD.put aZo (bO mT) aZn) (Below.refl _ _) (fun _=>rfl)
  (fun pre W=>anw w s v p g gX gV gK gG gL gB B7 B8 d7 d8 W∧dW W g13 #[Z ab x.f0.f0,Z ab x.f0.f1,Z ab x.f1.f0,Z ab x.f1.f1] 31∧dW W g14 #[Z ab t] 2∧dW W g15 #[Z ab left] 2∧dW W g16 #[Z ab cost] 2∧dW W g17 #[(Value.slice Ap plan.length cp)] 49∧dW W g18 #[.bool there] 4∧dW W g19 #[Z ab m] 3∧qY w gL gB ((pre.map Subtype.val).foldl (stepG s v p n x t left cost plan there) st) plan (Value.slice Ap plan.length cp) bv V W)
  (fun c pre W=>c = .ret∧qY w gL gB RR plan (Value.slice Ap plan.length cp) bv V W)
  (fun pre X Y row hs hg hr=>by obtain ⟨⟨mB,mT,mX,mV,mK,mG⟩,m13,m14,m15,m16,m17,m18,m19,hq⟩:=hs;exact ⟨⟨ownFrom_below (by omega) (by omega) () X Y row mB hg hr,lD mT hg hr,lD mX hg hr,lD mV hg hr,lD mK hg hr,lD mG hg hr⟩,lD m13 hg hr,lD m14 hg hr,lD m15 hg hr,lD m16 hg hr,lD m17 hg hr,lD m18 hg hr,lD m19 hg hr,qY.WQ hsV ayR hq hg hr⟩)
  (fun c pre X Y row hs hg hr=>⟨hs.1,qY.WQ hsV ayR hs.2 hg hr⟩)
  ⟨⟨mB,mT,mX,mV,mK,mG⟩,m13,m14,m15,m16,m17,m18,m19,hKp,HP,bv,⟨mL,mBe,HC⟩,fun k hk=>.inl hk⟩
  (fun c a' W=>∃ (g20:Nat) (u_:Nat→Value),a' = { tmps:=#[(u_ 0),(u_ 1),(u_ 2),(u_ 3),(u_ 4),(u_ 5),(u_ 6),.pointer (some ⟨gL,0,none⟩),.pointer (some ⟨gB,0,none⟩),.pointer (some ⟨gX,0,none⟩),.pointer (some ⟨gV,0,none⟩),.pointer (some ⟨gK,0,none⟩),.pointer (some ⟨gG,0,none⟩),.pointer (some ⟨g13,0,none⟩),.pointer (some ⟨g14,0,none⟩),.pointer (some ⟨g15,0,none⟩),.pointer (some ⟨g16,0,none⟩),.pointer (some ⟨g17,0,none⟩),.pointer (some ⟨g18,0,none⟩),.pointer (some ⟨g19,0,none⟩),.pointer (some ⟨g20,0,none⟩),(u_ 21),(u_ 22),(u_ 23),(u_ 24),(u_ 25),(u_ 26),(u_ 27),(u_ 28),(u_ 29),(u_ 30),(u_ 31),(u_ 32),(u_ 33),(u_ 34),(u_ 35),(u_ 36),(u_ 37),(u_ 38),(u_ 39),(u_ 40),(u_ 41),(u_ 42),(u_ 43),(u_ 44),(u_ 45),(u_ 46),(u_ 47),(u_ 48),(u_ 49),(u_ 50),(u_ 51),(u_ 52),(u_ 53),(u_ 54),(u_ 55),(u_ 56),(u_ 57),(u_ 58),(u_ 59),(u_ 60),(u_ 61),(u_ 62),(u_ 63),(u_ 64),(u_ 65),(u_ 66),(u_ 67),(u_ 68),(u_ 69),(u_ 70),(u_ 71),(u_ 72),(u_ 73),(u_ 74),(u_ 75),(u_ 76),(u_ 77),(u_ 78),(u_ 79),(u_ 80),(u_ 81),(u_ 82),(u_ 83),(u_ 84),(u_ 85),(u_ 86),(u_ 87),(u_ 88),(u_ 89),(u_ 90),(u_ 91),(u_ 92),(u_ 93),(u_ 94),(u_ 95),(u_ 96),(u_ 97),(u_ 98),(u_ 99),(u_ 100),(u_ 101),(u_ 102),(u_ 103),(u_ 104),(u_ 105),(u_ 106),(u_ 107),(u_ 108),(u_ 109),(u_ 110),(u_ 111)],defers:=[] }∧some g20≠((Value.slice Ap plan.length cp)).ownBlock∧dW W g20 #[Z ab c.1.f0,Z ab c.1.f1] 33)
  (fun c a' s X Y row hs hg hr=>by obtain ⟨g20,u_,h1,h0,h2⟩:=hs;exact ⟨g20,u_,h1,h0,lD h2 hg hr⟩) ?assign ?body ?done ?stop
 case assign =>
  rintro l_ pre q X_ K ⟨⟨mB,mT,mX,mV,mK,mG⟩,m13,m14,m15,m16,m17,m18,m19,hq⟩ hK
  gi_wp2
  skip
  have hb:=aH (Below.refl X_.heap.size X_) (.cells #[Z ab q.1.f0,Z ab q.1.f1] 33)
  exact hK _ _ (o7 hb) (KpD.below mB.size hb) ⟨⟨bI mB hb,ah mT hb,ah mX hb,ah mV hb,ah mK hb,ah mG hb⟩,ah m13 hb,ah m14 hb,ah m15 hb,ah m16 hb,ah m17 hb,ah m18 hb,ah m19 hb,hq.below mB.size hb⟩ ⟨X_.heap.size,(fun k_=>(#[.agg #[Z ab x.f0.f0,Z ab x.f0.f1,Z ab x.f1.f0,Z ab x.f1.f1],Z ab t,Z ab left,Z ab cost,(Value.slice Ap plan.length cp),.bool there,Z ab m,.pointer (some ⟨gL,0,none⟩),.pointer (some ⟨gB,0,none⟩),.pointer (some ⟨gX,0,none⟩),.pointer (some ⟨gV,0,none⟩),.pointer (some ⟨gK,0,none⟩),.pointer (some ⟨gG,0,none⟩),.pointer (some ⟨g13,0,none⟩),.pointer (some ⟨g14,0,none⟩),.pointer (some ⟨g15,0,none⟩),.pointer (some ⟨g16,0,none⟩),.pointer (some ⟨g17,0,none⟩),.pointer (some ⟨g18,0,none⟩),.pointer (some ⟨g19,0,none⟩),.pointer (some ⟨X_.heap.size,0,none⟩),undef,undef,undef,undef,undef,Z ab m,.bool false,undef,undef,undef,undef,undef,undef,undef,undef,undef,undef,undef,undef,undef,.pointer (some ⟨g,0,none⟩),.func (.func 129) #[] #[.pointer (some ⟨gQ,0,none⟩)],.agg #[Z ab q.1.f0,Z ab q.1.f1],undef,undef,undef,undef,undef,undef,undef,undef,undef,undef,undef,undef,undef,undef,undef,undef,undef,undef,undef,undef,undef,undef,undef,undef,undef,undef,undef,undef,undef,undef,undef,undef,undef,undef,undef,undef,undef,undef,undef,undef,undef,undef,undef,undef,undef,undef,undef,undef,undef,undef,undef,undef,undef,undef,undef,undef,undef,undef,undef,undef,undef,undef,undef,undef,undef,undef,undef,undef]:Array Value).getD k_ undef),rfl,(fun h=>by have h_:=(hq.2.1.lt _ h.symm).2;omega),eB _ _⟩
 case stop =>
  rintro D_ c pre X_ hD hp ⟨rfl,hq⟩ hK
  gi_wp2
  skip
  exact BD (F:=Fence.wide) (n:=7) (B:=V.heap.size) (fun W_=>qY w gL gB RR plan (Value.slice Ap plan.length cp) bv V W_) (fun W_ D_ h hB hD=>qY.putObj hsV h hB hD) (fun W_ h=>⟨_,results_none rfl _ _ _,⟨_,rfl⟩,h⟩) [D_] _ (Marks.cons (Marks.nil _ _) (by simp) (Nat.le_trans ayR hD) hK) hq
 case done =>
  rintro D_ xs X_ hD hxs ⟨_,_,_,_,_,_,_,_,hq⟩ hK
  have hHx:((xs.map Subtype.val).foldl (stepG s v p n x t left cost plan there) st) = RR:=by rw [show xs.map Subtype.val = uC s from hxs];exact HS.out.symm
  rw [hHx] at hq
  gi_wp2
  skip
  exact BD (F:=Fence.wide) (n:=7) (B:=V.heap.size) (fun W_=>qY w gL gB RR plan (Value.slice Ap plan.length cp) bv V W_) (fun W_ D_ h hB hD=>qY.putObj hsV h hB hD) (fun W_ h=>⟨_,results_none rfl _ _ _,⟨_,rfl⟩,h⟩) [D_] _ (Marks.cons (Marks.nil _ _) (by simp) (Nat.le_trans ayR hD) hK) hq
 case body =>
  rintro l_ pre q a_ X_ hlW ⟨r,hr⟩ ⟨⟨mB,mT,mX,mV,mK,mG⟩,m13,m14,m15,m16,m17,m18,m19,hq⟩ ⟨g20,u_,rfl,h20,m20⟩ hlen
  clear hr hlen
  have hXs:w.heap.size≤X_.heap.size:=mB.size
  have hN:Below X_.heap.size X_ X_:=Below.refl _ _
  have HQV:=Lib.hid hq
  obtain ⟨hKp,HP,bv2,⟨mL,mBe,HC⟩,hbv⟩:=hq
  have hVX:V.heap.size≤X_.heap.size:=hKp.1.size
  have hmap:(((pre++[q]).map Subtype.val).foldl (stepG s v p n x t left cost plan there) st) = stepG s v p n x t left cost plan there ((pre.map Subtype.val).foldl (stepG s v p n x t left cost plan there) st) q.1:=by rw [List.map_append,List.map_singleton,List.foldl_append];rfl
  have hret:nY s v x t≠0→((pre.map Subtype.val).foldl (stepG s v p n x t left cost plan there) st) = st:=fun hd=>CO _ _ (fun st c _=>by unfold stepG;rw [if_pos hd];exact Rf _ _ _ _ _)
  generalize ((pre.map Subtype.val).foldl (stepG s v p n x t left cost plan there) st) = P0 at*
  obtain ⟨PN,hPN⟩:∃ PN,(((pre++[q]).map Subtype.val).foldl (stepG s v p n x t left cost plan there) st) = PN:=⟨_,rfl⟩
  rw [hPN] at hmap
  have HPN:=Lib.hid hPN
  clear hPN
  have HM:Hid (PN = if left - (jG v q.1).f1 < v.reserve then P0 else if 0≤P0.2∧P0.2≤cost+(jG v q.1).f1 then P0 else if nY s v x t≠0 then P0 else Am s v p n (mW s v x t q.1.f0 q.1.f1) (t+v.bq) (left - (jG v q.1).f1) (cost+(jG v q.1).f1) (plan++[q.1]) (there || Pp p (t+v.bq) (mW s v x t q.1.f0 q.1.f1)) P0):=Lib.hid hmap
  clear hmap
  have HRT:=Lib.hid hret
  clear hret
  have hus:=Gr hv q.1
  have hrs:=WE hv
  have kT:=fun W=>YP v q.1 W
  have kD:=fun W (h:lC W g s v)=>VV g s v x t q.1.f0 q.1.f1 W h hS hV hx ht.1 (by omega) q.2.1.1 q.2.1.2 q.2.2.1 q.2.2.2
  have kBx:=fun hd=>VU (hd:=q.1.f0) (layer:=q.1.f1) hS hV hx (t:=t) hd
  generalize mW s v x t q.1.f0 q.1.f1 = Y at*
  generalize jG v q.1 = U at*
  obtain ⟨⟨c0,c1⟩,c2⟩:=q
  dsimp only at m20 kT kD kBx HM HPN ⊢
  have KBX:=Lib.hid kBx
  clear kBx
  obtain ⟨ars,art,aru,arv,arw,arx,ary⟩:=Ci mV
  obtain ⟨alq,arz⟩:=Ch m20
  gi_wp2_with fail
  clear ars art aru arv arw arx ary alq arz
  skip
  have hcon:=kT X_
  refine ⟨trivial,(callsIn_wide.2 hcon).mono ?_⟩
  clear hcon
  rintro e Wa ⟨rfl,hb⟩
  replace HP:=gT.below HP hb
  replace HC:=gT.below HC hb
  replace hKp:=Ce.step hKp hXs hb
  replace hN:=bI hN hb
  replace mT:=ah mT hb
  replace mX:=ah mX hb
  replace mV:=ah mV hb
  replace mK:=ah mK hb
  replace mG:=ah mG hb
  replace mL:=ah mL hb
  replace mBe:=ah mBe hb
  replace m13:=ah m13 hb
  replace m14:=ah m14 hb
  replace m15:=ah m15 hb
  replace m16:=ah m16 hb
  replace m17:=ah m17 hb
  replace m18:=ah m18 hb
  replace m19:=ah m19 hb
  replace m20:=ah m20 hb
  replace mB:=bI mB hb
  clear hb
  have aLZ:w.heap.size≤Wa.heap.size:=mB.size
  clear kT
  skip
  have hbd:Hid (-1073741824≤left - U.f1∧left - U.f1≤1073741824∧0≤cost+U.f1∧cost+U.f1≤((plan.length:Int)+1)*1073741824):=Lib.hid (by omega)
  have hpn:(plan.length:Int)≤2:=by omega
  have hw0:an (left - U.f1) = left - U.f1:=by unfold an;omega
  have hw1:an (cost+U.f1) = cost+U.f1:=by unfold an;omega
  have hw2:an (t+v.bq) = t+v.bq:=by have h_:=hV.bq;unfold an;omega
  have HW:Hid (an (left - U.f1) = left - U.f1∧an (cost+U.f1) = cost+U.f1∧an (t+v.bq) = t+v.bq∧(plan.length:Int)≤2∧1≤v.bq∧v.bq≤131072):=Lib.hid ⟨hw0,hw1,hw2,hpn,hV.bq.1,hV.bq.2⟩
  have HB0:=Lib.hid (And.intro ht (And.intro hl hc))
  have HUS:=Lib.hid (And.intro hus hrs)
  clear hus hrs hpn hw2 ht hl hc
  have ayS:Hid (∀ k,bv2.ownBlock = some k→some k≠((Value.slice Ap plan.length cp)).ownBlock):=Lib.hid (fun k hk he=>by
   rcases hbv k hk with h_|h_
   ·exact HBN.out k h_ he
   ·exact absurd (aZm k he.symm) (Nat.not_lt.2 h_))
  have aL0:=(ae m15 0).trans rfl
  obtain ⟨ars,art,aru,arv,arw,arx,ary⟩:=Ci mV
  have aDT:=(ae mL 0).trans rfl
  have VN:=(ae m16 0).trans rfl
  by_cases q1:left - U.f1 < v.reserve
  case pos =>
   have hq1:decide (left - U.f1 < v.reserve) = true:=decide_eq_true q1
   skip
   have HM1:=Lib.hid (HM.out.trans (if_pos q1))
   clear HM q1
   gi_wp2
   skip
   refine ⟨o7 hN,KpD.below hXs hN,?_⟩
   dsimp only
   rw [HPN.out,HM1.out]
   exact ⟨⟨mB,mT,mX,mV,mK,mG⟩,m13,m14,m15,m16,m17,m18,m19,hKp,HP,bv2,⟨mL,mBe,HC⟩,hbv⟩
  case neg =>
   have hq1:decide (left - U.f1 < v.reserve) = false:=decide_eq_false q1
   have HQ1:=Lib.hid q1
   have HM1:=Lib.hid (HM.out.trans (if_neg q1))
   clear HM q1
   by_cases q4:0≤P0.2∧P0.2≤cost+U.f1
   case pos =>
    have hq2:decide (0≤P0.2) = true:=decide_eq_true q4.1
    have hq3:decide (P0.2≤cost+U.f1) = true:=decide_eq_true q4.2
    have HM2:=Lib.hid (HM1.out.trans (if_pos q4))
    clear HM1 q4
    gi_wp2
    skip
    refine ⟨o7 hN,KpD.below hXs hN,?_⟩
    dsimp only
    rw [HPN.out,HM2.out]
    exact ⟨⟨mB,mT,mX,mV,mK,mG⟩,m13,m14,m15,m16,m17,m18,m19,hKp,HP,bv2,⟨mL,mBe,HC⟩,hbv⟩
   case neg =>
    have HM:=Lib.hid (HM1.out.trans (if_neg q4))
    clear HM1
    have hor:decide (0≤P0.2) = false∨decide (0≤P0.2) = true∧decide (P0.2≤cost+U.f1) = false:=by
     by_cases q2:0≤P0.2
     ·exact .inr ⟨decide_eq_true q2,decide_eq_false (fun h=>q4 ⟨q2,h⟩)⟩
     ·exact .inl (decide_eq_false q2)
    clear q4
    rcases hor with hq2|⟨hq2,hq3⟩
    all_goals
     have aEb:=(ae mX 0).trans rfl
     obtain ⟨afe,aff,afg,afh⟩:=rY m13
     have arA:=(ae m14 0).trans rfl
     obtain ⟨alq,arz⟩:=Ch m20
     gi_wp2_with fail
     skip
     try clear aL0 ars art aru arv arw arx ary aDT VN aEb afe aff afg afh arA alq arz
     clear hw0 hw1
     have hcon:=kD Wa (HTA.out _ mB mT)
     refine ⟨trivial,(callsIn_wide.2 hcon).mono ?_⟩
     clear hcon
     rintro e Wb ⟨rfl,hb⟩
     replace HP:=gT.below HP hb
     replace HC:=gT.below HC hb
     replace hKp:=Ce.step hKp aLZ hb
     replace hN:=bI hN hb
     replace mT:=ah mT hb
     replace mX:=ah mX hb
     replace mV:=ah mV hb
     replace mK:=ah mK hb
     replace mG:=ah mG hb
     replace mL:=ah mL hb
     replace mBe:=ah mBe hb
     replace m13:=ah m13 hb
     replace m14:=ah m14 hb
     replace m15:=ah m15 hb
     replace m16:=ah m16 hb
     replace m17:=ah m17 hb
     replace m18:=ah m18 hb
     replace m19:=ah m19 hb
     replace m20:=ah m20 hb
     replace mB:=bI mB hb
     clear hb
     have arB:w.heap.size≤Wb.heap.size:=mB.size
     clear kD
     have HM2:=Lib.hid (HM.out.trans rfl)
     clear HM
     by_cases hd:nY s v x t = 0
     case neg =>
      have hd1:(nY s v x t == 0) = false:=beq_eq_false_iff_ne.2 hd
      have hd2:(nY s v x t != 0) = true:=by rw [bne,hd1];rfl
      have hst:=HRT.out hd
      have hrr:=HD0.out hd
      have hQ_:qY w gL gB RR plan (Value.slice Ap plan.length cp) bv V Wb:=by rw [hrr,← hst];exact ⟨hKp,HP,bv2,⟨mL,mBe,HC⟩,hbv⟩
      clear hst hrr hd
      gi_wp2
      skip
      have hb9:=aH (Below.refl Wb.heap.size Wb) (.cells #[Z ab Y.f0.f0,Z ab Y.f0.f1,Z ab Y.f1.f0,Z ab Y.f1.f1] 31)
      exact ⟨o7 (bI hN hb9),rfl,hQ_.below arB hb9⟩
     case pos =>
      have HM3:=Lib.hid (HM2.out.trans (if_neg (fun h=>h hd)))
      clear HM2
      have hYB:=KBX.out hd
      have HYB:=Lib.hid hYB
      clear hYB
      rw [hd]
      clear hd
      have arA:∀ o_,(Wb.alloc o_).cell? ⟨g14,0,none⟩ = some (Z ab t):=fun o_=>(ae (aa m14 o_) 0).trans rfl
      have ars:∀ o_,(Wb.alloc o_).cell? ⟨gV,0,none⟩ = some (Z ab v.speed):=fun o_=>(ae (aa mV o_) 0).trans rfl
      have art:∀ o_,(Wb.alloc o_).cell? ⟨gV,1,none⟩ = some (Z ab v.bq):=fun o_=>(ae (aa mV o_) 1).trans rfl
      have aru:∀ o_,(Wb.alloc o_).cell? ⟨gV,2,none⟩ = some (Z ab v.use.f0):=fun o_=>(ae (aa mV o_) 2).trans rfl
      have arv:∀ o_,(Wb.alloc o_).cell? ⟨gV,3,none⟩ = some (Z ab v.use.f1):=fun o_=>(ae (aa mV o_) 3).trans rfl
      have arw:∀ o_,(Wb.alloc o_).cell? ⟨gV,4,none⟩ = some (Z ab v.aV.f0):=fun o_=>(ae (aa mV o_) 4).trans rfl
      have arx:∀ o_,(Wb.alloc o_).cell? ⟨gV,5,none⟩ = some (Z ab v.aV.f1):=fun o_=>(ae (aa mV o_) 5).trans rfl
      have ary:∀ o_,(Wb.alloc o_).cell? ⟨gV,6,none⟩ = some (Z ab v.reserve):=fun o_=>(ae (aa mV o_) 6).trans rfl
      have aEh:∀ o_,(Wb.alloc o_).cell? ⟨gK,0,none⟩ = some (Z ab p.f0.f0.f0):=fun o_=>(ae (aa mK o_) 0).trans rfl
      have aEi:∀ o_,(Wb.alloc o_).cell? ⟨gK,1,none⟩ = some (Z ab p.f0.f0.f1):=fun o_=>(ae (aa mK o_) 1).trans rfl
      have aEj:∀ o_,(Wb.alloc o_).cell? ⟨gK,2,none⟩ = some (Z ab p.f0.f1.f0):=fun o_=>(ae (aa mK o_) 2).trans rfl
      have aEk:∀ o_,(Wb.alloc o_).cell? ⟨gK,3,none⟩ = some (Z ab p.f0.f1.f1):=fun o_=>(ae (aa mK o_) 3).trans rfl
      have aEl:∀ o_,(Wb.alloc o_).cell? ⟨gK,4,none⟩ = some (Z ab p.f1):=fun o_=>(ae (aa mK o_) 4).trans rfl
      have aEm:∀ o_,(Wb.alloc o_).cell? ⟨gK,5,none⟩ = some (Z ab p.f2):=fun o_=>(ae (aa mK o_) 5).trans rfl
      obtain ⟨_,_,aL1,aZp,aL2,aL3⟩:=HW.out
      obtain ⟨aZq,aZr⟩:=HB0.out.1
      gi_wp2_with fail
      clear arA ars art aru arv arw arx ary aEh aEi aEj aEk aEl aEm
      try rw [aL1]
      clear aL2 aL3 aZq aZr aZp aL1
      skip
      have hb9:=aH (Below.refl Wb.heap.size Wb) (.cells #[Z ab Y.f0.f0,Z ab Y.f0.f1,Z ab Y.f1.f0,Z ab Y.f1.f1] 31)
      replace HP:=gT.below HP hb9
      replace HC:=gT.below HC hb9
      replace hKp:=Ce.step hKp arB hb9
      replace hN:=bI hN hb9
      clear hb9
      have yz:=bO mT
      have aqG:=bO mX
      have aqH:=bO mV
      have aqI:=bO mK
      have aqJ:=bO mG
      have ahv:=bO mL
      have WR:=bO mBe
      have arc:=bO m13
      have adP:=bO m14
      have ard:=bO m15
      have arf:=bO m16
      have afp:=bO m17
      have arh:=bO m18
      have ari:=bO m19
      have aL4:=bO m20
      have m22:dW (Wb.alloc (.cells #[Z ab Y.f0.f0,Z ab Y.f0.f1,Z ab Y.f1.f0,Z ab Y.f1.f1] 31)) (Wb.heap.size) #[Z ab Y.f0.f0,Z ab Y.f0.f1,Z ab Y.f1.f0,Z ab Y.f1.f1] 31:=(by have h_:=eB Wb (.cells #[Z ab Y.f0.f0,Z ab Y.f0.f1,Z ab Y.f1.f0,Z ab Y.f1.f1] 31);first|exact h_|(simp only [World.size_alloc] at h_;exact h_))
      replace mT:dW (Wb.alloc (.cells #[Z ab Y.f0.f0,Z ab Y.f0.f1,Z ab Y.f1.f0,Z ab Y.f1.f1] 31)) g #[Z ab s.nx,Z ab s.ny,Z ab s.cell,Z ab s.slot,Z ab s.slots,Z ab s.layers,Z ab s.most,.slice B7 s.bf.length d7,.slice B8 s.aC.length d8,Z ab v.speed,Z ab v.bq,Z ab v.use.f0,Z ab v.use.f1,Z ab v.aV.f0,Z ab v.aV.f1,Z ab v.reserve] 110:=(aa mT _)
      replace mX:dW (Wb.alloc (.cells #[Z ab Y.f0.f0,Z ab Y.f0.f1,Z ab Y.f1.f0,Z ab Y.f1.f1] 31)) gX #[.pointer (some ⟨g,0,none⟩)] 104:=(aa mX _)
      replace mV:dW (Wb.alloc (.cells #[Z ab Y.f0.f0,Z ab Y.f0.f1,Z ab Y.f1.f0,Z ab Y.f1.f1] 31)) gV #[Z ab v.speed,Z ab v.bq,Z ab v.use.f0,Z ab v.use.f1,Z ab v.aV.f0,Z ab v.aV.f1,Z ab v.reserve] 29:=(aa mV _)
      replace mK:dW (Wb.alloc (.cells #[Z ab Y.f0.f0,Z ab Y.f0.f1,Z ab Y.f1.f0,Z ab Y.f1.f1] 31)) gK #[Z ab p.f0.f0.f0,Z ab p.f0.f0.f1,Z ab p.f0.f1.f0,Z ab p.f0.f1.f1,Z ab p.f1,Z ab p.f2] 81:=(aa mK _)
      replace mG:dW (Wb.alloc (.cells #[Z ab Y.f0.f0,Z ab Y.f0.f1,Z ab Y.f1.f0,Z ab Y.f1.f1] 31)) gG #[.func (.func 107) #[] #[.pointer (some ⟨gL,0,none⟩),.pointer (some ⟨gB,0,none⟩),.pointer (some ⟨gX,0,none⟩),.pointer (some ⟨gV,0,none⟩),.pointer (some ⟨gK,0,none⟩),.pointer (some ⟨gG,0,none⟩)]] 141:=(aa mG _)
      replace mL:dW (Wb.alloc (.cells #[Z ab Y.f0.f0,Z ab Y.f0.f1,Z ab Y.f1.f0,Z ab Y.f1.f1] 31)) gL #[Z ab P0.2] 2:=(aa mL _)
      replace mBe:dW (Wb.alloc (.cells #[Z ab Y.f0.f0,Z ab Y.f0.f1,Z ab Y.f1.f0,Z ab Y.f1.f1] 31)) gB #[bv2] 49:=(aa mBe _)
      replace m13:dW (Wb.alloc (.cells #[Z ab Y.f0.f0,Z ab Y.f0.f1,Z ab Y.f1.f0,Z ab Y.f1.f1] 31)) g13 #[Z ab x.f0.f0,Z ab x.f0.f1,Z ab x.f1.f0,Z ab x.f1.f1] 31:=(aa m13 _)
      replace m14:dW (Wb.alloc (.cells #[Z ab Y.f0.f0,Z ab Y.f0.f1,Z ab Y.f1.f0,Z ab Y.f1.f1] 31)) g14 #[Z ab t] 2:=(aa m14 _)
      replace m15:dW (Wb.alloc (.cells #[Z ab Y.f0.f0,Z ab Y.f0.f1,Z ab Y.f1.f0,Z ab Y.f1.f1] 31)) g15 #[Z ab left] 2:=(aa m15 _)
      replace m16:dW (Wb.alloc (.cells #[Z ab Y.f0.f0,Z ab Y.f0.f1,Z ab Y.f1.f0,Z ab Y.f1.f1] 31)) g16 #[Z ab cost] 2:=(aa m16 _)
      replace m17:dW (Wb.alloc (.cells #[Z ab Y.f0.f0,Z ab Y.f0.f1,Z ab Y.f1.f0,Z ab Y.f1.f1] 31)) g17 #[(Value.slice Ap plan.length cp)] 49:=(aa m17 _)
      replace m18:dW (Wb.alloc (.cells #[Z ab Y.f0.f0,Z ab Y.f0.f1,Z ab Y.f1.f0,Z ab Y.f1.f1] 31)) g18 #[.bool there] 4:=(aa m18 _)
      replace m19:dW (Wb.alloc (.cells #[Z ab Y.f0.f0,Z ab Y.f0.f1,Z ab Y.f1.f0,Z ab Y.f1.f1] 31)) g19 #[Z ab m] 3:=(aa m19 _)
      replace m20:dW (Wb.alloc (.cells #[Z ab Y.f0.f0,Z ab Y.f0.f1,Z ab Y.f1.f0,Z ab Y.f1.f1] 31)) g20 #[Z ab c0,Z ab c1] 33:=(aa m20 _)
      replace mB:Below w.heap.size w (Wb.alloc (.cells #[Z ab Y.f0.f0,Z ab Y.f0.f1,Z ab Y.f1.f0,Z ab Y.f1.f1] 31)):=(aH mB _)
      have kZ:w.heap.size≤Wb.heap.size:=arB
      generalize qQ:(Wb.alloc (.cells #[Z ab Y.f0.f0,Z ab Y.f0.f1,Z ab Y.f1.f0,Z ab Y.f1.f1] 31)) = Wc at mT mX mV mK mG mL mBe m13 m14 m15 m16 m17 m18 m19 m20 m22 mB HP HC hKp hN ⊢
      clear qQ
      generalize aZs:Wb.heap.size = g22 at m22 ⊢
      have alr:g≠g22:=by omega
      have als:gX≠g22:=by omega
      have alu:gV≠g22:=by omega
      have alv:gK≠g22:=by omega
      have alx:gG≠g22:=by omega
      have aly:gL≠g22:=by omega
      have afq:gB≠g22:=by omega
      have afr:g13≠g22:=by omega
      have afs:g14≠g22:=by omega
      have aft:g15≠g22:=by omega
      have afu:g16≠g22:=by omega
      have afv:g17≠g22:=by omega
      have afw:g18≠g22:=by omega
      have afx:g19≠g22:=by omega
      have afy:g20≠g22:=by omega
      have ayT:g22≠g:=alr.symm
      have ayU:g22≠gX:=als.symm
      have ayV:g22≠gV:=alu.symm
      have ayW:g22≠gK:=alv.symm
      have ayX:g22≠gG:=alx.symm
      have ayY:g22≠gL:=aly.symm
      have arC:g22≠gB:=afq.symm
      have arD:g22≠g13:=afr.symm
      have arE:g22≠g14:=afs.symm
      have arF:g22≠g15:=aft.symm
      have arG:g22≠g16:=afu.symm
      have arH:g22≠g17:=afv.symm
      have arI:g22≠g18:=afw.symm
      have arJ:g22≠g19:=afx.symm
      have arK:g22≠g20:=afy.symm
      have aZt:w.heap.size≤g22:=by omega
      clear kZ yz aqG aqH aqI aqJ ahv WR arc adP ard arf afp arh ari aL4
      try clear aZs
      have aL5:w.heap.size≤Wc.heap.size:=mB.size
      skip
      try clear VL
      try clear aqK
      try clear aqL
      try clear aqM
      try clear aqN
      try clear ak4
      try clear Uh Hm Uq Ho IZ UD I1 acA alr
      try clear Z5
      try clear aqO
      try clear aqP
      try clear aqQ
      try clear aqR
      try clear ak5
      try clear Ui K9 Ur Uv Uz UE UI aVa als
      try clear aqS
      try clear aqT
      try clear aqU
      try clear aqV
      try clear aqW
      try clear ak6
      try clear Uj Um Us Uw UA UF UJ aVb alu
      try clear aqX
      try clear aqY
      try clear aqZ
      try clear aq0
      try clear aq1
      try clear ak7
      try clear Uk Un Ut Ux UB UG UK aVc alv
      try clear aq2
      try clear aq3
      try clear aq4
      try clear aq5
      try clear aq6
      try clear ak8
      try clear Ul Uo Uu Uy UC UH UL aVd alx
      try clear aq7
      try clear aq8
      try clear aq9
      try clear ara
      try clear arb
      try clear ak9
      try clear IP IQ IU IV IW IX IY aVe aly
      try clear ala
      try clear alb
      try clear alc
      try clear ald
      try clear ale
      try clear alf
      try clear CP CQ CS CW CZ Dc Dk aL6 afq
      try clear ab2
      try clear ab3
      try clear ab4
      try clear ab5
      try clear ab6
      try clear Ud
      try clear Ps
      try clear CR CU CX C8 De Dl aL7 afr
      try clear Oc
      try clear K7
      try clear ab7
      try clear ab8
      try clear ab9
      try clear Pt
      try clear Pv
      try clear JY CV nX C9 Df Dm aL8 afs
      try clear aca
      try clear acb
      try clear acd
      try clear ace
      try clear acf
      try clear Pw
      try clear Px
      try clear JZ J2 CY Da Dh Dn aL9 aft
      try clear Oe
      try clear acg
      try clear ach
      try clear aci
      try clear acj
      try clear Py
      try clear J3
      try clear J4 Co J5 Db Di Dp aMa afu
      try clear PE
      try clear ack
      try clear acm
      try clear acn
      try clear aco
      try clear Ue
      try clear GA
      try clear J6 J7 J8 J9 Dj uK WS afv
      try clear acp
      try clear acr
      try clear acs
      try clear acu
      try clear acv
      try clear Uf
      try clear Pz
      try clear Ka Kb Ke Kg Kh Dq aMb afw
      try clear PG
      try clear acw
      try clear acx
      try clear acy
      try clear acz
      try clear Ug
      try clear PD
      try clear Ki Kj Kk Kl Dr Km WT afx
      try clear alz
      try clear aVf
      try clear aVg
      try clear aVh
      try clear aVi
      try clear aVj
      try clear aMc
      try clear aMd aMe aMf aMg afz aMh WU afy
      try clear ayT
      try clear ayU
      try clear ayV
      try clear ayW
      try clear ayX
      try clear ayY
      try clear arC
      try clear arD arE arF arG arH arI arJ arK
      clear aZt
      skip
      have hcon:=Ev (t+v.bq) p.f1 p.f2 Wc
      refine ⟨trivial,(callsIn_wide.2 hcon).mono ?_⟩
      clear hcon
      rintro e Wd ⟨rfl,hb⟩
      replace HP:=gT.below HP hb
      replace HC:=gT.below HC hb
      replace hKp:=Ce.step hKp aL5 hb
      replace hN:=bI hN hb
      replace mT:=ah mT hb
      replace mX:=ah mX hb
      replace mV:=ah mV hb
      replace mK:=ah mK hb
      replace mG:=ah mG hb
      replace mL:=ah mL hb
      replace mBe:=ah mBe hb
      replace m13:=ah m13 hb
      replace m14:=ah m14 hb
      replace m15:=ah m15 hb
      replace m16:=ah m16 hb
      replace m17:=ah m17 hb
      replace m18:=ah m18 hb
      replace m19:=ah m19 hb
      replace m20:=ah m20 hb
      replace m22:=ah m22 hb
      replace mB:=bI mB hb
      clear hb
      have aMi:w.heap.size≤Wd.heap.size:=mB.size
      skip
      cases hbw:nU (t+v.bq) p.f1 p.f2 with
      |false =>
       have hhr:Hid (Pp p (t+v.bq) Y = false):=Lib.hid (by unfold Pp;rw [hbw];rfl)
       clear hbw
       gi_wp2_with fail
       refine ⟨trivial,?_⟩
       apply_assumption
       gi_wp2_with fail
       skip
       refine Fy ?_
       refine YY _ _ _ _ _ _ _ _ _ _ _ _ _ _ _ _ _ _ _ _ _ _ _ _ _ _ _ _ _ _ _ _ _ _ _ _ _ _ _ _ _ _ _ _ _ _ _ _ _ _ _ _ _ _ _ _ _ _ _ _ _ _ _ _ _ _ _ _ _ _ _ _ _ _ _ _ _ _ _ _ _ _ _ _ _ _ _ _ _ _ _ _ _ _ _ _ _ _ _ _ _ w gG g15 g16 g17 g18 g19 g20 g22 _ plan Y U.f1 (t+v.bq) left cost m c0 c1 false there (Value.slice Ap plan.length cp) Wd (fun w'=>qY w gL gB PN plan (Value.slice Ap plan.length cp) bv2 Wd w') mB mG m22 m15 m16 m17 m18 m19 m20 HP h20 (by have h_:=HW.out;omega) ?hcall ?hKK
       skip
       case hcall =>
        intro v1 W1_ HP1 hB1 hb1 hk1 hst hback
        obtain ⟨ew0,ew1,ew2,hp2,hd0,hd1⟩:=HW.out
        obtain ⟨ht,hl,hc⟩:=HB0.out
        obtain ⟨hus,hrs⟩:=HUS.out
        have aZw:=hbd.out
        have aZx:=HQ1.out
        have hnK:∀ {k:Nat} {cs:Array Value} {ty:TypeId},dW Wd k cs ty→ty≠33→dW W1_ k cs ty:=fun {k cs ty} hb ht=>(hk1 k (bO hb) (gT.ne HP hb ht)).trans hb
        have hm1:an (m - 1) = (n:Int):=by have h_:=HMM.out;unfold an;omega
        rw [ew0,ew1,hm1]
        have hA1:IM w gL gB bv2 P0 W1_:=⟨hnK mL (by decide),hnK mBe (by decide),HC.move (fun k hk=>hk1 k (HC.lt k hk).2 (ayS.out k hk))⟩
        have hcon:=IH Y (t+v.bq) (left - U.f1) (cost+U.f1) (n:Int) (plan++[⟨c0,c1⟩]) (there || false) P0 v1 bv2 W1_ rfl ac7 ac7 HYB.out ac7 (by omega) ac7 ⟨hB1,hnK mT (by decide),hnK mX (by decide),hnK mV (by decide),hnK mK (by decide),hnK mG (by decide)⟩ hA1 HP1 (fun k hk he=>by
         rcases hback with ⟨e1,_⟩|⟨b,e1,e2⟩
         ·exact ayS.out k hk (he.trans e1)
         ·rw [e1] at he;injection he with he;have h_:=(HC.lt k hk).2;omega)
        refine hcon.mono ?_
        intro e w9 hp9
        refine ⟨hp9.1,?_⟩
        rw [HM3.out,hhr.out]
        exact qY.back hA1 hb1 hk1 HP hst hback hp9
       case hKK =>
        intro z92 z93 z94 z95 z96 z97 z98 z99 aDU aDV aDW aDX aDY z105 aDZ z107 aD0 z109 aD1 aD2 w9 hq9
        obtain ⟨YZ,hp9,bv9,ha9,hv9⟩:=hq9
        have hkX:Ce w gL gB ((Value.slice Ap plan.length cp)).ownBlock X_ w9:=(Ce.of_below hXs hN).trans YZ
        obtain ⟨aEo,aEp,hn16,aEq⟩:=HN.out
        have hE9:∀ {W:ao} {k:Nat} {cs:Array Value} {ty:TypeId},Ce w gL gB ((Value.slice Ap plan.length cp)).ownBlock W w9→dW W gL #[Z ab P0.2] 2→dW W gB #[bv2] 49→gT W w.heap.size (Value.slice Ap plan.length cp) plan→dW W k cs ty→ty≠2→ty≠49→ty≠33→dW w9 k cs ty:=fun {W k cs ty} hk hL hB hC hb h1 h2 h3=>dW.Aq hk hb (qg hb hL h1) (qg hb hB h2) (gT.ne hC hb h3)
        have hkp:=fun {k:Nat} {cs:Array Value} {ty:TypeId} (hb:dW Wd k cs ty)=>hE9 (ty:=ty) YZ mL mBe HP hb
        obtain ⟨aZA,HPX,bvX,hAX,aZB⟩:=HQV.out
        skip
        refine ⟨Mr hAX HPX hkX,⟨hkX.1,fun hb=>?_,fun hb=>?_⟩,?_⟩
        ·exact dW.Aq hkX hb (qg hb hAX.1 (by decide)) (qg hb hAX.2.1 (by decide)) (gT.ne HPX hb (by decide))
        ·exact dW.Aq hkX hb hQL hQB (gT.ne HPX hb (by decide))
        dsimp only;rw [show List.foldl (stepG s v p n x t left cost plan there) st (List.map Subtype.val (pre++[⟨⟨c0,c1⟩,c2⟩])) = PN from HPN.out];refine ⟨⟨mB.trans YZ.1,hkp mT (by decide) (by decide) (by decide),hkp mX (by decide) (by decide) (by decide),hkp mV (by decide) (by decide) (by decide),hkp mK (by decide) (by decide) (by decide),hkp mG (by decide) (by decide) (by decide)⟩,hkp m13 (by decide) (by decide) (by decide),dW.Aq YZ m14 aEo (qg m14 mBe (by decide)) (gT.ne HP m14 (by decide)),dW.Aq YZ m15 aEp (qg m15 mBe (by decide)) (gT.ne HP m15 (by decide)),dW.Aq YZ m16 hn16 (qg m16 mBe (by decide)) (gT.ne HP m16 (by decide)),dW.Aq YZ m17 (qg m17 mL (by decide)) aEq (gT.ne HP m17 (by decide)),hkp m18 (by decide) (by decide) (by decide),hkp m19 (by decide) (by decide) (by decide),hKp.trans YZ,hp9,bv9,ha9,fun k hk=>?_⟩
        rcases hv9 k hk with h9|h9
        ·exact hbv k h9
        ·exact .inr (Nat.le_trans hKp.1.size h9)
      |true =>
       obtain ⟨aMm,aMn,aMo,aMp⟩:=rY m22
       obtain ⟨aEh,aEi,aEj,aEk,aEl,aEm⟩:=Xz mK
       gi_wp2_with fail
       skip
       clear aMm aMn aMo aMp aEh aEi aEj aEk aEl aEm
       have hcon:=WJ Y p.f0 Wd
       refine ⟨trivial,(callsIn_wide.2 hcon).mono ?_⟩
       clear hcon
       rintro e We ⟨rfl,hb⟩
       replace HP:=gT.below HP hb
       replace HC:=gT.below HC hb
       replace hKp:=Ce.step hKp aMi hb
       replace hN:=bI hN hb
       replace mT:=ah mT hb
       replace mX:=ah mX hb
       replace mV:=ah mV hb
       replace mK:=ah mK hb
       replace mG:=ah mG hb
       replace mL:=ah mL hb
       replace mBe:=ah mBe hb
       replace m13:=ah m13 hb
       replace m14:=ah m14 hb
       replace m15:=ah m15 hb
       replace m16:=ah m16 hb
       replace m17:=ah m17 hb
       replace m18:=ah m18 hb
       replace m19:=ah m19 hb
       replace m20:=ah m20 hb
       replace m22:=ah m22 hb
       replace mB:=bI mB hb
       clear hb
       have a4p:w.heap.size≤We.heap.size:=mB.size
       have hhr:Hid (Pp p (t+v.bq) Y = (M5 Y p.f0 == 2)):=Lib.hid (by unfold Pp;rw [hbw];rfl)
       clear hbw
       generalize M5 Y p.f0 = ii at*
       gi_wp2_with fail
       skip
       refine Fy ?_
       refine YY _ _ _ _ _ _ _ _ _ _ _ _ _ _ _ _ _ _ _ _ _ _ _ _ _ _ _ _ _ _ _ _ _ _ _ _ _ _ _ _ _ _ _ _ _ _ _ _ _ _ _ _ _ _ _ _ _ _ _ _ _ _ _ _ _ _ _ _ _ _ _ _ _ _ _ _ _ _ _ _ _ _ _ _ _ _ _ _ _ _ _ _ _ _ _ _ _ _ _ _ _ w gG g15 g16 g17 g18 g19 g20 g22 _ plan Y U.f1 (t+v.bq) left cost m c0 c1 (ii == 2) there (Value.slice Ap plan.length cp) We (fun w'=>qY w gL gB PN plan (Value.slice Ap plan.length cp) bv2 We w') mB mG m22 m15 m16 m17 m18 m19 m20 HP h20 (by have h_:=HW.out;omega) ?hcall ?hKK
       skip
       case hcall =>
        intro v1 W1_ HP1 hB1 hb1 hk1 hst hback
        obtain ⟨ew0,ew1,ew2,hp2,hd0,hd1⟩:=HW.out
        obtain ⟨ht,hl,hc⟩:=HB0.out
        obtain ⟨hus,hrs⟩:=HUS.out
        have aZw:=hbd.out
        have aZx:=HQ1.out
        have hnK:∀ {k:Nat} {cs:Array Value} {ty:TypeId},dW We k cs ty→ty≠33→dW W1_ k cs ty:=fun {k cs ty} hb ht=>(hk1 k (bO hb) (gT.ne HP hb ht)).trans hb
        have hm1:an (m - 1) = (n:Int):=by have h_:=HMM.out;unfold an;omega
        rw [ew0,ew1,hm1]
        have hA1:IM w gL gB bv2 P0 W1_:=⟨hnK mL (by decide),hnK mBe (by decide),HC.move (fun k hk=>hk1 k (HC.lt k hk).2 (ayS.out k hk))⟩
        have hcon:=IH Y (t+v.bq) (left - U.f1) (cost+U.f1) (n:Int) (plan++[⟨c0,c1⟩]) (there || (ii == 2)) P0 v1 bv2 W1_ rfl ac7 ac7 HYB.out ac7 (by omega) ac7 ⟨hB1,hnK mT (by decide),hnK mX (by decide),hnK mV (by decide),hnK mK (by decide),hnK mG (by decide)⟩ hA1 HP1 (fun k hk he=>by
         rcases hback with ⟨e1,_⟩|⟨b,e1,e2⟩
         ·exact ayS.out k hk (he.trans e1)
         ·rw [e1] at he;injection he with he;have h_:=(HC.lt k hk).2;omega)
        refine hcon.mono ?_
        intro e w9 hp9
        refine ⟨hp9.1,?_⟩
        rw [HM3.out,hhr.out]
        exact qY.back hA1 hb1 hk1 HP hst hback hp9
       case hKK =>
        intro z92 z93 z94 z95 z96 z97 z98 z99 aDU aDV aDW aDX aDY z105 aDZ z107 aD0 z109 aD1 aD2 w9 hq9
        obtain ⟨YZ,hp9,bv9,ha9,hv9⟩:=hq9
        have hkX:Ce w gL gB ((Value.slice Ap plan.length cp)).ownBlock X_ w9:=(Ce.of_below hXs hN).trans YZ
        obtain ⟨aEo,aEp,hn16,aEq⟩:=HN.out
        have hE9:∀ {W:ao} {k:Nat} {cs:Array Value} {ty:TypeId},Ce w gL gB ((Value.slice Ap plan.length cp)).ownBlock W w9→dW W gL #[Z ab P0.2] 2→dW W gB #[bv2] 49→gT W w.heap.size (Value.slice Ap plan.length cp) plan→dW W k cs ty→ty≠2→ty≠49→ty≠33→dW w9 k cs ty:=fun {W k cs ty} hk hL hB hC hb h1 h2 h3=>dW.Aq hk hb (qg hb hL h1) (qg hb hB h2) (gT.ne hC hb h3)
        have hkp:=fun {k:Nat} {cs:Array Value} {ty:TypeId} (hb:dW We k cs ty)=>hE9 (ty:=ty) YZ mL mBe HP hb
        obtain ⟨aZA,HPX,bvX,hAX,aZB⟩:=HQV.out
        skip
        refine ⟨Mr hAX HPX hkX,⟨hkX.1,fun hb=>?_,fun hb=>?_⟩,?_⟩
        ·exact dW.Aq hkX hb (qg hb hAX.1 (by decide)) (qg hb hAX.2.1 (by decide)) (gT.ne HPX hb (by decide))
        ·exact dW.Aq hkX hb hQL hQB (gT.ne HPX hb (by decide))
        dsimp only;rw [show List.foldl (stepG s v p n x t left cost plan there) st (List.map Subtype.val (pre++[⟨⟨c0,c1⟩,c2⟩])) = PN from HPN.out];refine ⟨⟨mB.trans YZ.1,hkp mT (by decide) (by decide) (by decide),hkp mX (by decide) (by decide) (by decide),hkp mV (by decide) (by decide) (by decide),hkp mK (by decide) (by decide) (by decide),hkp mG (by decide) (by decide) (by decide)⟩,hkp m13 (by decide) (by decide) (by decide),dW.Aq YZ m14 aEo (qg m14 mBe (by decide)) (gT.ne HP m14 (by decide)),dW.Aq YZ m15 aEp (qg m15 mBe (by decide)) (gT.ne HP m15 (by decide)),dW.Aq YZ m16 hn16 (qg m16 mBe (by decide)) (gT.ne HP m16 (by decide)),dW.Aq YZ m17 (qg m17 mL (by decide)) aEq (gT.ne HP m17 (by decide)),hkp m18 (by decide) (by decide) (by decide),hkp m19 (by decide) (by decide) (by decide),hKp.trans YZ,hp9,bv9,ha9,fun k hk=>?_⟩
        rcases hv9 k hk with h9|h9
        ·exact hbv k h9
        ·exact .inr (Nat.le_trans hKp.1.size h9)
theorem afA (w:ao) (s:lK) (v:nW) (p:BX) (g gX gV gK gG gL gB:Nat) (B7 B8:Option Addr) (d7 d8:Nat) (hTA:∀ W',Below w.heap.size w W'→dW W' g #[Z ab s.nx,Z ab s.ny,Z ab s.cell,Z ab s.slot,Z ab s.slots,Z ab s.layers,Z ab s.most,.slice B7 s.bf.length d7,.slice B8 s.aC.length d8,Z ab v.speed,Z ab v.bq,Z ab v.use.f0,Z ab v.use.f1,Z ab v.aV.f0,Z ab v.aV.f1,Z ab v.reserve] 110→lC W' g s v) (hS:VS s) (hV:Fz v) (hv:wZ v = true) (hGL:w.heap.size≤gL) (hGB:w.heap.size≤gB):∀ n,aqF w s v p g gX gV gK gG gL gB B7 B8 d7 d8 n
 |0=>by
  intro x t left cost m plan there st pv bv V hm h0 h3 hx ht hl hc hE hA hP hbn
  obtain ⟨Ap,cp,rfl⟩:=hP.slice
  exact anx w s v p g gX gV gK gG gL gB B7 B8 d7 d8 hGL hGB x t left cost m plan there st Ap cp bv V (by omega) (by omega) hE hA hP
 |n+1=>by
  intro x t left cost m plan there st pv bv V hm h0 h3 hx ht hl hc hE hA hP hbn
  obtain ⟨Ap,cp,rfl⟩:=hP.slice
  exact anz w s v p g gX gV gK gG gL gB B7 B8 d7 d8 hTA hS hV hv hGL hGB n (afA w s v p g gX gV gK gG gL gB B7 B8 d7 d8 hTA hS hV hv hGL hGB n) x t left cost m plan there st Ap cp bv V (by omega) h3 hx ht hl hc hE hA hP hbn
def Ms (s:lK) (v:nW) (x:iA) (t:Int) (e:jK) (p:BX) (d:Int):List gU × Int × Int:=((afm s v x t e p d).1,(afm s v x t e p d).2,JW s v x t e p d)
theorem vX {s:lK} {v:nW} {x:iA} {t:Int} {e:jK} {p:BX} {d E:Int} (h:JW s v x t e p d = E) (h0:E≠0):Ms s v x t e p d = ([],0,E):=by
 unfold Ms afm
 rw [h,if_neg h0]
def arL (R:List gU × Int × Int) (w:ao) (e:Ending) (w':ao):Prop:=∃ QH:Value,e = .returned (.tuple #[QH,Z ab R.2.1,Z ab R.2.2])∧Kd.R yn 33 w' w.heap.size (fun _=>True) QH R.1∧Below w.heap.size w w'
theorem ahx (s:lK) (v:nW) (p:BX) (x:iA) (t:Int) (e:jK) (n:Nat):AU s v p x t e (n+1) = Am s v p (n+1) x t e.f0 0 [] false (AU s v p x t e n):=rfl
theorem arM (s:lK) (v:nW) (x:iA) (t:Int) (ev:jK) (p:BX) (d:Int) (A7 A8:Option Addr) (c7 c8:Nat) (w:ao) (h7:s.bf.length≤c7) (XC:Kd.C Kd.bool w A7 s.bf.length s.bf) (h8:s.aC.length≤c8) (Rx:Kd.C Dt w A8 s.aC.length s.aC):
 Calls Try.prog 57 #[.agg #[Z ab s.nx,Z ab s.ny,Z ab s.cell,Z ab s.slot,Z ab s.slots,Z ab s.layers,Z ab s.most,.slice A7 s.bf.length c7,.slice A8 s.aC.length c8],.agg #[Z ab v.speed,Z ab v.bq,Z ab v.use.f0,Z ab v.use.f1,Z ab v.aV.f0,Z ab v.aV.f1,Z ab v.reserve],.agg #[Z ab x.f0.f0,Z ab x.f0.f1,Z ab x.f1.f0,Z ab x.f1.f1],Z ab t,.agg #[Z ab ev.f0,Z ab ev.f1],.agg #[Z ab p.f0.f0.f0,Z ab p.f0.f0.f1,Z ab p.f0.f1.f0,Z ab p.f0.f1.f1,Z ab p.f1,Z ab p.f2],Z ab d] w (arL (Ms s v x t ev p d) w):=by
 have xS:=Try.underlying25
 have qj:=Try.underlying31
 have E9:=Try.underlying33
 have oO:=Try.underlying27
 have vo:=Try.underlying29
 have XP:=Try.underlying81
 have HX:Hid (JW s v x t ev p d = if oL s v x t≠0 then oL s v x t else if si ev.f0 ev.f1 0 1073741824 = false then 2 else if AR p = false then 2 else if d < 1 then 3 else if 3 < d then 3
  else if (AU s v p x t ev d.toNat).2 < 0 then 15 else 0):=Lib.hid rfl
 have anB:Hid (∀ E,JW s v x t ev p d = E→E≠0→Ms s v x t ev p d = ([],0,E)):=Lib.hid (fun E h h0=>vX h h0)
 have HOK:Hid (JW s v x t ev p d = 0→Ms s v x t ev p d = ((AU s v p x t ev d.toNat).1,(AU s v p x t ev d.toNat).2,0)):=Lib.hid (fun h=>by unfold Ms afm;rw [h,if_pos rfl])
 generalize JW s v x t ev p d = EE at*
 generalize Ms s v x t ev p d = RR at*
 have hbg:oL s v x t = if lW s v≠0 then lW s v else oK x t:=rfl
 have HBG:=Lib.hid hbg
 clear hbg
 go_enter Try.func57,Try.ntmps57
 go_wp2_with fail
 have m7:dW (((((w.alloc (.cells #[Z ab s.nx,Z ab s.ny,Z ab s.cell,Z ab s.slot,Z ab s.slots,Z ab s.layers,Z ab s.most,.slice A7 s.bf.length c7,.slice A8 s.aC.length c8] 25)).alloc (.cells #[Z ab v.speed,Z ab v.bq,Z ab v.use.f0,Z ab v.use.f1,Z ab v.aV.f0,Z ab v.aV.f1,Z ab v.reserve] 29)).alloc (.cells #[Z ab x.f0.f0,Z ab x.f0.f1,Z ab x.f1.f0,Z ab x.f1.f1] 31)).alloc (.cells #[Z ab ev.f0,Z ab ev.f1] 27)).alloc (.cells #[Z ab p.f0.f0.f0,Z ab p.f0.f0.f1,Z ab p.f0.f1.f0,Z ab p.f0.f1.f1,Z ab p.f1,Z ab p.f2] 81)) (w.heap.size) #[Z ab s.nx,Z ab s.ny,Z ab s.cell,Z ab s.slot,Z ab s.slots,Z ab s.layers,Z ab s.most,.slice A7 s.bf.length c7,.slice A8 s.aC.length c8] 25:=(aa (aa (aa (aa Zh _) _) _) _)
 have m8:dW (((((w.alloc (.cells #[Z ab s.nx,Z ab s.ny,Z ab s.cell,Z ab s.slot,Z ab s.slots,Z ab s.layers,Z ab s.most,.slice A7 s.bf.length c7,.slice A8 s.aC.length c8] 25)).alloc (.cells #[Z ab v.speed,Z ab v.bq,Z ab v.use.f0,Z ab v.use.f1,Z ab v.aV.f0,Z ab v.aV.f1,Z ab v.reserve] 29)).alloc (.cells #[Z ab x.f0.f0,Z ab x.f0.f1,Z ab x.f1.f0,Z ab x.f1.f1] 31)).alloc (.cells #[Z ab ev.f0,Z ab ev.f1] 27)).alloc (.cells #[Z ab p.f0.f0.f0,Z ab p.f0.f0.f1,Z ab p.f0.f1.f0,Z ab p.f0.f1.f1,Z ab p.f1,Z ab p.f2] 81)) (w.heap.size+1) #[Z ab v.speed,Z ab v.bq,Z ab v.use.f0,Z ab v.use.f1,Z ab v.aV.f0,Z ab v.aV.f1,Z ab v.reserve] 29:=(aa (aa (aa ac2 _) _) _)
 have m9:dW (((((w.alloc (.cells #[Z ab s.nx,Z ab s.ny,Z ab s.cell,Z ab s.slot,Z ab s.slots,Z ab s.layers,Z ab s.most,.slice A7 s.bf.length c7,.slice A8 s.aC.length c8] 25)).alloc (.cells #[Z ab v.speed,Z ab v.bq,Z ab v.use.f0,Z ab v.use.f1,Z ab v.aV.f0,Z ab v.aV.f1,Z ab v.reserve] 29)).alloc (.cells #[Z ab x.f0.f0,Z ab x.f0.f1,Z ab x.f1.f0,Z ab x.f1.f1] 31)).alloc (.cells #[Z ab ev.f0,Z ab ev.f1] 27)).alloc (.cells #[Z ab p.f0.f0.f0,Z ab p.f0.f0.f1,Z ab p.f0.f1.f0,Z ab p.f0.f1.f1,Z ab p.f1,Z ab p.f2] 81)) (w.heap.size+1+1) #[Z ab x.f0.f0,Z ab x.f0.f1,Z ab x.f1.f0,Z ab x.f1.f1] 31:=(aa (aa ama _) _)
 have m11:dW (((((w.alloc (.cells #[Z ab s.nx,Z ab s.ny,Z ab s.cell,Z ab s.slot,Z ab s.slots,Z ab s.layers,Z ab s.most,.slice A7 s.bf.length c7,.slice A8 s.aC.length c8] 25)).alloc (.cells #[Z ab v.speed,Z ab v.bq,Z ab v.use.f0,Z ab v.use.f1,Z ab v.aV.f0,Z ab v.aV.f1,Z ab v.reserve] 29)).alloc (.cells #[Z ab x.f0.f0,Z ab x.f0.f1,Z ab x.f1.f0,Z ab x.f1.f1] 31)).alloc (.cells #[Z ab ev.f0,Z ab ev.f1] 27)).alloc (.cells #[Z ab p.f0.f0.f0,Z ab p.f0.f0.f1,Z ab p.f0.f1.f0,Z ab p.f0.f1.f1,Z ab p.f1,Z ab p.f2] 81)) (w.heap.size+1+1+1) #[Z ab ev.f0,Z ab ev.f1] 27:=(aa aB2 _)
 have m12:dW (((((w.alloc (.cells #[Z ab s.nx,Z ab s.ny,Z ab s.cell,Z ab s.slot,Z ab s.slots,Z ab s.layers,Z ab s.most,.slice A7 s.bf.length c7,.slice A8 s.aC.length c8] 25)).alloc (.cells #[Z ab v.speed,Z ab v.bq,Z ab v.use.f0,Z ab v.use.f1,Z ab v.aV.f0,Z ab v.aV.f1,Z ab v.reserve] 29)).alloc (.cells #[Z ab x.f0.f0,Z ab x.f0.f1,Z ab x.f1.f0,Z ab x.f1.f1] 31)).alloc (.cells #[Z ab ev.f0,Z ab ev.f1] 27)).alloc (.cells #[Z ab p.f0.f0.f0,Z ab p.f0.f0.f1,Z ab p.f0.f1.f0,Z ab p.f0.f1.f1,Z ab p.f1,Z ab p.f2] 81)) (w.heap.size+1+1+1+1) #[Z ab p.f0.f0.f0,Z ab p.f0.f0.f1,Z ab p.f0.f1.f0,Z ab p.f0.f1.f1,Z ab p.f1,Z ab p.f2] 81:=aB3
 have mB:Below w.heap.size w (((((w.alloc (.cells #[Z ab s.nx,Z ab s.ny,Z ab s.cell,Z ab s.slot,Z ab s.slots,Z ab s.layers,Z ab s.most,.slice A7 s.bf.length c7,.slice A8 s.aC.length c8] 25)).alloc (.cells #[Z ab v.speed,Z ab v.bq,Z ab v.use.f0,Z ab v.use.f1,Z ab v.aV.f0,Z ab v.aV.f1,Z ab v.reserve] 29)).alloc (.cells #[Z ab x.f0.f0,Z ab x.f0.f1,Z ab x.f1.f0,Z ab x.f1.f1] 31)).alloc (.cells #[Z ab ev.f0,Z ab ev.f1] 27)).alloc (.cells #[Z ab p.f0.f0.f0,Z ab p.f0.f0.f1,Z ab p.f0.f1.f0,Z ab p.f0.f1.f1,Z ab p.f1,Z ab p.f2] 81)):=(aH (aH (aH (aH (aH (Below.refl w.heap.size w) _) _) _) _) _)
 have kZ:w.heap.size≤w.heap.size:=Nat.le_refl _
 generalize qQ:(((((w.alloc (.cells #[Z ab s.nx,Z ab s.ny,Z ab s.cell,Z ab s.slot,Z ab s.slots,Z ab s.layers,Z ab s.most,.slice A7 s.bf.length c7,.slice A8 s.aC.length c8] 25)).alloc (.cells #[Z ab v.speed,Z ab v.bq,Z ab v.use.f0,Z ab v.use.f1,Z ab v.aV.f0,Z ab v.aV.f1,Z ab v.reserve] 29)).alloc (.cells #[Z ab x.f0.f0,Z ab x.f0.f1,Z ab x.f1.f0,Z ab x.f1.f1] 31)).alloc (.cells #[Z ab ev.f0,Z ab ev.f1] 27)).alloc (.cells #[Z ab p.f0.f0.f0,Z ab p.f0.f0.f1,Z ab p.f0.f1.f0,Z ab p.f0.f1.f1,Z ab p.f1,Z ab p.f2] 81)) = W1 at m7 m8 m9 m11 m12 mB ⊢
 clear qQ
 generalize hg7:w.heap.size = g7 at m7 m8 m9 m11 m12 ⊢
 have hG7:w.heap.size≤g7:=by omega
 generalize hg8:g7+1 = g8 at m8 m9 m11 m12 ⊢
 have Cn:g7≠g8:=by omega
 have Qj:g8≠g7:=Cn.symm
 have ZO:w.heap.size≤g8:=by omega
 generalize hg9:g8+1 = g9 at m9 m11 m12 ⊢
 have yA:g7≠g9:=by omega
 have Hg:g8≠g9:=by omega
 have MO:g9≠g7:=yA.symm
 have VD:g9≠g8:=Hg.symm
 have hG9:w.heap.size≤g9:=by omega
 generalize ahm:g9+1 = g11 at m11 m12 ⊢
 have rR:g7≠g11:=by omega
 have IJ:g8≠g11:=by omega
 have rT:g9≠g11:=by omega
 have Ua:g11≠g7:=rR.symm
 have Ub:g11≠g8:=IJ.symm
 have Uc:g11≠g9:=rT.symm
 have VR:w.heap.size≤g11:=by omega
 generalize agE:g11+1 = g12 at m12 ⊢
 have rU:g7≠g12:=by omega
 have PH:g8≠g12:=by omega
 have rV:g9≠g12:=by omega
 have oD:g11≠g12:=by omega
 have acB:g12≠g7:=rU.symm
 have acC:g12≠g8:=PH.symm
 have acD:g12≠g9:=rV.symm
 have Pf:g12≠g11:=oD.symm
 have JB:w.heap.size≤g12:=by omega
 clear kZ
 try clear agE
 try clear ahm
 try clear hg9
 try clear hg8
 try clear hg7
 have sD:w.heap.size≤W1.heap.size:=mB.size
 skip
 have VC:=bO m7
 have ZP:=bO m8
 have agO:=bO m9
 have WG:=bO m11
 have Oa:=bO m12
 obtain ⟨Qo,Qp,V4,V5,abW,WM,abX,abY,abZ⟩:=Ay m7
 obtain ⟨LW,LX,MS,MU,Ra,Rb,Rc⟩:=Ci m8
 obtain ⟨Jy,Jz,R5,R6⟩:=rY m9
 go_wp2_with fail
 clear Qo Qp V4 V5 abW WM abX abY abZ LW LX MS MU Ra Rb Rc Jy Jz R5 R6
 skip
 have hcon:=aht s v x t A7 A8 c7 c8 w W1 mB h7 XC h8 Rx
 (with_reducible refine hcon.mono ?_)
 clear hcon
 rintro e W2 ⟨ptr,rfl,hb,hpt⟩
 replace m7:=ah m7 hb
 replace m8:=ah m8 hb
 replace m9:=ah m9 hb
 replace m11:=ah m11 hb
 replace m12:=ah m12 hb
 replace mB:=bI mB hb
 clear hb
 have vI:w.heap.size≤W2.heap.size:=mB.size
 generalize hE_:oL s v x t = E0 at*
 have HE0:=Lib.hid hE_
 clear hE_
 by_cases h0:E0 = 0
 case neg =>
  have HZ:=Lib.hid (HX.out.trans (if_pos h0))
  have hd1:(E0 == 0) = false:=beq_eq_false_iff_ne.2 h0
  have hd2:(E0 != 0) = true:=by rw [bne,hd1];rfl
  have HH0:=Lib.hid h0
  clear h0 hpt HX
  have HR:=Lib.hid (anB.out _ HZ.out HH0.out)
  go_wp2
  go_ret3
  exact ⟨_,Jm,amc,Nl⟩
 case pos =>
  have HX2:=Lib.hid (HX.out.trans (if_neg (fun h=>h h0)))
  clear HX
  have hb0:=HBG.out.symm.trans h0
  obtain ⟨ht0,hp0⟩:=Af hb0
  obtain ⟨hbx,XK,aaa⟩:=JH hp0
  obtain ⟨hSV,hVN⟩:=JG ht0
  have HVB:=Lib.hid (zt ht0)
  rcases hpt with ⟨_,g,rfl,hg,hT,hTT⟩|⟨hbad,_⟩
  case inr=>exact absurd ht0 hbad
  case inl =>
   subst h0
   clear hb0 ht0 hp0 HBG
   have HTT:=Lib.hid (And.intro XK aaa)
   clear XK aaa
   obtain ⟨B7,d7,B8,d8,mT,_⟩:=hT
   have hTA:∀ W',Below w.heap.size w W'→dW W' g #[Z ab s.nx,Z ab s.ny,Z ab s.cell,Z ab s.slot,Z ab s.slots,Z ab s.layers,Z ab s.most,.slice B7 s.bf.length d7,.slice B8 s.aC.length d8,Z ab v.speed,Z ab v.bq,Z ab v.use.f0,Z ab v.use.f1,Z ab v.aV.f0,Z ab v.aV.f1,Z ab v.reserve] 110→lC W' g s v:=fun W' h1 h2=>hTT W' h1 (h2.trans mT.symm)
   have HTA:=Lib.hid hTA
   clear hTA hTT
   have Qi:g≠g7:=by omega
   have agw:=Qi.symm
   have ZN:g≠g8:=by omega
   have aoP:=ZN.symm
   have Jw:g≠g9:=by omega
   have ZQ:=Jw.symm
   have BH:g≠g11:=by omega
   have ayZ:=BH.symm
   have rQ:g≠g12:=by omega
   have ZX:=rQ.symm
   have hGT:w.heap.size≤g:=by omega
   clear VC ZP agO WG Oa hg
   skip
   have Pk:∀ o_,(W2.alloc o_).cell? ⟨g11,0,none⟩ = some (Z ab ev.f0):=fun o_=>(ae (aa m11 o_) 0).trans rfl
   have Pm:∀ o_,(W2.alloc o_).cell? ⟨g11,1,none⟩ = some (Z ab ev.f1):=fun o_=>(ae (aa m11 o_) 1).trans rfl
   go_wp2_with fail
   clear Pk Pm
   skip
   have VC:=bO m7
   have ZP:=bO m8
   have agO:=bO m9
   have WG:=bO m11
   have Oa:=bO m12
   have yz:=bO mT
   have m17:dW (W2.alloc (.cells #[.pointer (some ⟨g,0,none⟩)] 104)) (W2.heap.size) #[.pointer (some ⟨g,0,none⟩)] 104:=(by have h_:=eB W2 (.cells #[.pointer (some ⟨g,0,none⟩)] 104);first|exact h_|(simp only [World.size_alloc] at h_;exact h_))
   replace m7:dW (W2.alloc (.cells #[.pointer (some ⟨g,0,none⟩)] 104)) g7 #[Z ab s.nx,Z ab s.ny,Z ab s.cell,Z ab s.slot,Z ab s.slots,Z ab s.layers,Z ab s.most,.slice A7 s.bf.length c7,.slice A8 s.aC.length c8] 25:=(aa m7 _)
   replace m8:dW (W2.alloc (.cells #[.pointer (some ⟨g,0,none⟩)] 104)) g8 #[Z ab v.speed,Z ab v.bq,Z ab v.use.f0,Z ab v.use.f1,Z ab v.aV.f0,Z ab v.aV.f1,Z ab v.reserve] 29:=(aa m8 _)
   replace m9:dW (W2.alloc (.cells #[.pointer (some ⟨g,0,none⟩)] 104)) g9 #[Z ab x.f0.f0,Z ab x.f0.f1,Z ab x.f1.f0,Z ab x.f1.f1] 31:=(aa m9 _)
   replace m11:dW (W2.alloc (.cells #[.pointer (some ⟨g,0,none⟩)] 104)) g11 #[Z ab ev.f0,Z ab ev.f1] 27:=(aa m11 _)
   replace m12:dW (W2.alloc (.cells #[.pointer (some ⟨g,0,none⟩)] 104)) g12 #[Z ab p.f0.f0.f0,Z ab p.f0.f0.f1,Z ab p.f0.f1.f0,Z ab p.f0.f1.f1,Z ab p.f1,Z ab p.f2] 81:=(aa m12 _)
   replace mT:dW (W2.alloc (.cells #[.pointer (some ⟨g,0,none⟩)] 104)) g #[Z ab s.nx,Z ab s.ny,Z ab s.cell,Z ab s.slot,Z ab s.slots,Z ab s.layers,Z ab s.most,.slice B7 s.bf.length d7,.slice B8 s.aC.length d8,Z ab v.speed,Z ab v.bq,Z ab v.use.f0,Z ab v.use.f1,Z ab v.aV.f0,Z ab v.aV.f1,Z ab v.reserve] 110:=(aa mT _)
   replace mB:Below w.heap.size w (W2.alloc (.cells #[.pointer (some ⟨g,0,none⟩)] 104)):=(aH mB _)
   have kZ:w.heap.size≤W2.heap.size:=vI
   generalize qQ:(W2.alloc (.cells #[.pointer (some ⟨g,0,none⟩)] 104)) = W3 at m7 m8 m9 m11 m12 mT m17 mB ⊢
   clear qQ
   generalize aqC:W2.heap.size = g17 at m17 ⊢
   have alA:g7≠g17:=by omega
   have alB:g8≠g17:=by omega
   have alC:g9≠g17:=by omega
   have afB:g11≠g17:=by omega
   have afC:g12≠g17:=by omega
   have IZ:g≠g17:=by omega
   have ay0:g17≠g7:=alA.symm
   have ay1:g17≠g8:=alB.symm
   have ay2:g17≠g9:=alC.symm
   have arN:g17≠g11:=afB.symm
   have arO:g17≠g12:=afC.symm
   have PE:g17≠g:=IZ.symm
   have aDR:w.heap.size≤g17:=by omega
   clear kZ VC ZP agO WG Oa yz
   try clear aqC
   have FB:w.heap.size≤W3.heap.size:=mB.size
   have hcon:=SF ev.f0 ev.f1 0 1073741824 W3
   (with_reducible refine hcon.mono ?_)
   clear hcon
   rintro e W4 ⟨rfl,hb⟩
   replace m7:=ah m7 hb
   replace m8:=ah m8 hb
   replace m9:=ah m9 hb
   replace m11:=ah m11 hb
   replace m12:=ah m12 hb
   replace mT:=ah mT hb
   replace m17:=ah m17 hb
   replace mB:=bI mB hb
   clear hb
   have Vz:w.heap.size≤W4.heap.size:=mB.size
   cases hbn:si ev.f0 ev.f1 0 1073741824 with
   |false =>
    have HZ:=Lib.hid (HX2.out.trans (if_pos hbn))
    clear hbn HX2
    have HR:=Lib.hid (anB.out _ HZ.out (by decide))
    go_wp2
    go_ret3
    exact ⟨_,Jm,amc,Nl⟩
   |true =>
    have HX3:=Lib.hid (HX2.out.trans (if_neg (by rw [hbn];decide)))
    have HBN:=Lib.hid (FI.1 hbn)
    clear HX2 hbn
    obtain ⟨VO,arP,arQ,arR,arS,arT⟩:=Xz m12
    go_wp2_with fail
    clear VO arP arQ arR arS arT
    skip
    have hcon:=nR.calls 4 p.f0.f0.f0 p.f0.f0.f1 p.f0.f1.f0 p.f0.f1.f1 p.f1 p.f2 _ W4 (YU p)
    (with_reducible refine hcon.mono ?_)
    clear hcon
    rintro e W5 ⟨rfl,hb⟩
    replace m7:=ah m7 hb
    replace m8:=ah m8 hb
    replace m9:=ah m9 hb
    replace m11:=ah m11 hb
    replace m12:=ah m12 hb
    replace mT:=ah mT hb
    replace m17:=ah m17 hb
    replace mB:=bI mB hb
    clear hb
    have VA:w.heap.size≤W5.heap.size:=mB.size
    cases hpk:AR p with
    |false =>
     have HZ:=Lib.hid (HX3.out.trans (if_pos hpk))
     clear hpk HX3
     have HR:=Lib.hid (anB.out _ HZ.out (by decide))
     go_wp2
     go_ret3
     exact ⟨_,Jm,amc,Nl⟩
    |true =>
     have HX4:=Lib.hid (HX3.out.trans (if_neg (by rw [hpk];decide)))
     clear HX3 hpk
     by_cases c1:d < 1
     case pos =>
      have HZ:=Lib.hid (HX4.out.trans (if_pos c1))
      have k1:decide (d < 1) = true:=decide_eq_true c1
      clear c1 HX4
      have HR:=Lib.hid (anB.out _ HZ.out (by decide))
      go_wp2
      go_ret3
      exact ⟨_,Jm,amc,Nl⟩
     case neg =>
      have HX5:=Lib.hid (HX4.out.trans (if_neg c1))
      clear HX4
      have k1:decide (d < 1) = false:=decide_eq_false c1
      by_cases c2:3 < d
      case pos =>
       have HZ:=Lib.hid (HX5.out.trans (if_pos c2))
       have k2:decide (3 < d) = true:=decide_eq_true c2
       clear c1 c2 HX5
       have HR:=Lib.hid (anB.out _ HZ.out (by decide))
       go_wp2
       go_ret3
       exact ⟨_,Jm,amc,Nl⟩
      case neg =>
       have HX6:=Lib.hid (HX5.out.trans (if_neg c2))
       clear HX5
       have k2:decide (3 < d) = false:=decide_eq_false c2
       skip
       go_upto_region 11 with fail
       skip
       clear k1 k2
       have VC:=bO m7
       have ZP:=bO m8
       have agO:=bO m9
       have WG:=bO m11
       have Oa:=bO m12
       have yz:=bO mT
       have afp:=bO m17
       have m19:dW (((W5.alloc (.cells #[.slice none 0 0] 49)).alloc (.cells #[Z ab (-1)] 2)).alloc (.cells #[.nilFunc] 141)) (W5.heap.size) #[.slice none 0 0] 49:=(aa (aa (by have h_:=eB W5 (.cells #[.slice none 0 0] 49);first|exact h_|(simp only [World.size_alloc] at h_;exact h_)) _) _)
       have m20:dW (((W5.alloc (.cells #[.slice none 0 0] 49)).alloc (.cells #[Z ab (-1)] 2)).alloc (.cells #[.nilFunc] 141)) (W5.heap.size+1) #[Z ab (-1)] 2:=(aa (by have h_:=eB (W5.alloc (.cells #[.slice none 0 0] 49)) (.cells #[Z ab (-1)] 2);first|exact h_|(simp only [World.size_alloc] at h_;exact h_)) _)
       have m21:dW (((W5.alloc (.cells #[.slice none 0 0] 49)).alloc (.cells #[Z ab (-1)] 2)).alloc (.cells #[.nilFunc] 141)) (W5.heap.size+1+1) #[.nilFunc] 141:=(by have h_:=eB ((W5.alloc (.cells #[.slice none 0 0] 49)).alloc (.cells #[Z ab (-1)] 2)) (.cells #[.nilFunc] 141);first|exact h_|(simp only [World.size_alloc] at h_;exact h_))
       replace m7:dW (((W5.alloc (.cells #[.slice none 0 0] 49)).alloc (.cells #[Z ab (-1)] 2)).alloc (.cells #[.nilFunc] 141)) g7 #[Z ab s.nx,Z ab s.ny,Z ab s.cell,Z ab s.slot,Z ab s.slots,Z ab s.layers,Z ab s.most,.slice A7 s.bf.length c7,.slice A8 s.aC.length c8] 25:=(aa (aa (aa m7 _) _) _)
       replace m8:dW (((W5.alloc (.cells #[.slice none 0 0] 49)).alloc (.cells #[Z ab (-1)] 2)).alloc (.cells #[.nilFunc] 141)) g8 #[Z ab v.speed,Z ab v.bq,Z ab v.use.f0,Z ab v.use.f1,Z ab v.aV.f0,Z ab v.aV.f1,Z ab v.reserve] 29:=(aa (aa (aa m8 _) _) _)
       replace m9:dW (((W5.alloc (.cells #[.slice none 0 0] 49)).alloc (.cells #[Z ab (-1)] 2)).alloc (.cells #[.nilFunc] 141)) g9 #[Z ab x.f0.f0,Z ab x.f0.f1,Z ab x.f1.f0,Z ab x.f1.f1] 31:=(aa (aa (aa m9 _) _) _)
       replace m11:dW (((W5.alloc (.cells #[.slice none 0 0] 49)).alloc (.cells #[Z ab (-1)] 2)).alloc (.cells #[.nilFunc] 141)) g11 #[Z ab ev.f0,Z ab ev.f1] 27:=(aa (aa (aa m11 _) _) _)
       replace m12:dW (((W5.alloc (.cells #[.slice none 0 0] 49)).alloc (.cells #[Z ab (-1)] 2)).alloc (.cells #[.nilFunc] 141)) g12 #[Z ab p.f0.f0.f0,Z ab p.f0.f0.f1,Z ab p.f0.f1.f0,Z ab p.f0.f1.f1,Z ab p.f1,Z ab p.f2] 81:=(aa (aa (aa m12 _) _) _)
       replace mT:dW (((W5.alloc (.cells #[.slice none 0 0] 49)).alloc (.cells #[Z ab (-1)] 2)).alloc (.cells #[.nilFunc] 141)) g #[Z ab s.nx,Z ab s.ny,Z ab s.cell,Z ab s.slot,Z ab s.slots,Z ab s.layers,Z ab s.most,.slice B7 s.bf.length d7,.slice B8 s.aC.length d8,Z ab v.speed,Z ab v.bq,Z ab v.use.f0,Z ab v.use.f1,Z ab v.aV.f0,Z ab v.aV.f1,Z ab v.reserve] 110:=(aa (aa (aa mT _) _) _)
       replace m17:dW (((W5.alloc (.cells #[.slice none 0 0] 49)).alloc (.cells #[Z ab (-1)] 2)).alloc (.cells #[.nilFunc] 141)) g17 #[.pointer (some ⟨g,0,none⟩)] 104:=(aa (aa (aa m17 _) _) _)
       replace mB:Below w.heap.size w (((W5.alloc (.cells #[.slice none 0 0] 49)).alloc (.cells #[Z ab (-1)] 2)).alloc (.cells #[.nilFunc] 141)):=(aH (aH (aH mB _) _) _)
       have kZ:w.heap.size≤W5.heap.size:=VA
       generalize qQ:(((W5.alloc (.cells #[.slice none 0 0] 49)).alloc (.cells #[Z ab (-1)] 2)).alloc (.cells #[.nilFunc] 141)) = W6 at m7 m8 m9 m11 m12 mT m17 m19 m20 m21 mB ⊢
       clear qQ
       generalize aqD:W5.heap.size = g19 at m19 m20 m21 ⊢
       have alD:g7≠g19:=by omega
       have alE:g8≠g19:=by omega
       have alF:g9≠g19:=by omega
       have afD:g11≠g19:=by omega
       have afE:g12≠g19:=by omega
       have I1:g≠g19:=by omega
       have uK:g17≠g19:=by omega
       have ay3:g19≠g7:=alD.symm
       have ay4:g19≠g8:=alE.symm
       have ay5:g19≠g9:=alF.symm
       have arU:g19≠g11:=afD.symm
       have arV:g19≠g12:=afE.symm
       have PG:g19≠g:=I1.symm
       have Dr:g19≠g17:=uK.symm
       have ayI:w.heap.size≤g19:=by omega
       generalize aZC:g19+1 = g20 at m20 m21 ⊢
       have alG:g7≠g20:=by omega
       have alH:g8≠g20:=by omega
       have alI:g9≠g20:=by omega
       have afF:g11≠g20:=by omega
       have afG:g12≠g20:=by omega
       have acA:g≠g20:=by omega
       have WS:g17≠g20:=by omega
       have WT:g19≠g20:=by omega
       have ay6:g20≠g7:=alG.symm
       have ay7:g20≠g8:=alH.symm
       have ay8:g20≠g9:=alI.symm
       have arW:g20≠g11:=afF.symm
       have arX:g20≠g12:=afG.symm
       have alz:g20≠g:=acA.symm
       have afz:g20≠g17:=WS.symm
       have WU:g20≠g19:=WT.symm
       have aZD:w.heap.size≤g20:=by omega
       generalize aZE:g20+1 = g21 at m21 ⊢
       have alJ:g7≠g21:=by omega
       have acE:g8≠g21:=by omega
       have acF:g9≠g21:=by omega
       have WV:g11≠g21:=by omega
       have WW:g12≠g21:=by omega
       have acG:g≠g21:=by omega
       have WX:g17≠g21:=by omega
       have WY:g19≠g21:=by omega
       have WZ:g20≠g21:=by omega
       have ay9:g21≠g7:=alJ.symm
       have aza:g21≠g8:=acE.symm
       have azb:g21≠g9:=acF.symm
       have arY:g21≠g11:=WV.symm
       have arZ:g21≠g12:=WW.symm
       have azc:g21≠g:=acG.symm
       have ar0:g21≠g17:=WX.symm
       have ar1:g21≠g19:=WY.symm
       have ar2:g21≠g20:=WZ.symm
       have aZF:w.heap.size≤g21:=by omega
       clear kZ VC ZP agO WG Oa yz afp
       try clear aZE
       try clear aZC
       try clear aqD
       have azN:w.heap.size≤W6.heap.size:=mB.size
       have hLN:g20≠g19:=WU
       have h21:g8≠g21∧g9≠g21∧g11≠g21∧g12≠g21∧g≠g21∧g17≠g21∧g19≠g21∧g20≠g21:=⟨acE,acF,WV,WW,acG,WX,WY,WZ⟩
       clear m7
       try clear Hg IJ PH
       try clear aoP
       try clear alB alE alH acE
       try clear VD rT rV
       try clear ZQ
       try clear alC alF alI acF
       try clear Ub Uc oD
       try clear ayZ
       try clear afB afD afF WV
       try clear acC acD Pf
       try clear ZX
       try clear afC afE afG WW
       try clear ZN Jw BH rQ IZ I1 acA acG
       try clear ay1 ay2 arN arO
       try clear PE
       try clear uK WS WX
       try clear ay4 ay5 arU arV
       try clear PG
       try clear Dr WT WY
       try clear ay7 ay8 arW arX
       try clear alz
       try clear afz WU WZ
       try clear aza azb arY arZ
       try clear azc
       try clear ar0 ar1 ar2
       try clear Cn Qj
       try clear yA MO
       try clear rR Ua
       try clear rU acB
       try clear agw Qi
       try clear alA ay0
       try clear alD ay3
       try clear alG ay6
       try clear alJ ay9
       have ar3:=(ae m21 0).trans rfl
       have aMq:=bg m21 0
       skip
       go_upto_region 12 with fail
       skip
       obtain ⟨aMr,aMs,aBs,aBt,aMt,aBu,aBv,aBw⟩:=h21
       have n8:dW (W6.setCell ⟨g21,0,none⟩ (.func (.func 107) #[] #[.pointer (some ⟨g20,0,none⟩),.pointer (some ⟨g19,0,none⟩),.pointer (some ⟨g17,0,none⟩),.pointer (some ⟨g8,0,none⟩),.pointer (some ⟨g12,0,none⟩),.pointer (some ⟨g21,0,none⟩)])) g8 #[Z ab v.speed,Z ab v.bq,Z ab v.use.f0,Z ab v.use.f1,Z ab v.aV.f0,Z ab v.aV.f1,Z ab v.reserve] 29:=aM (p:=⟨g21,0,none⟩) m8 aMr _
       have n9:dW (W6.setCell ⟨g21,0,none⟩ (.func (.func 107) #[] #[.pointer (some ⟨g20,0,none⟩),.pointer (some ⟨g19,0,none⟩),.pointer (some ⟨g17,0,none⟩),.pointer (some ⟨g8,0,none⟩),.pointer (some ⟨g12,0,none⟩),.pointer (some ⟨g21,0,none⟩)])) g9 #[Z ab x.f0.f0,Z ab x.f0.f1,Z ab x.f1.f0,Z ab x.f1.f1] 31:=aM (p:=⟨g21,0,none⟩) m9 aMs _
       have n11:dW (W6.setCell ⟨g21,0,none⟩ (.func (.func 107) #[] #[.pointer (some ⟨g20,0,none⟩),.pointer (some ⟨g19,0,none⟩),.pointer (some ⟨g17,0,none⟩),.pointer (some ⟨g8,0,none⟩),.pointer (some ⟨g12,0,none⟩),.pointer (some ⟨g21,0,none⟩)])) g11 #[Z ab ev.f0,Z ab ev.f1] 27:=aM (p:=⟨g21,0,none⟩) m11 aBs _
       have n12:dW (W6.setCell ⟨g21,0,none⟩ (.func (.func 107) #[] #[.pointer (some ⟨g20,0,none⟩),.pointer (some ⟨g19,0,none⟩),.pointer (some ⟨g17,0,none⟩),.pointer (some ⟨g8,0,none⟩),.pointer (some ⟨g12,0,none⟩),.pointer (some ⟨g21,0,none⟩)])) g12 #[Z ab p.f0.f0.f0,Z ab p.f0.f0.f1,Z ab p.f0.f1.f0,Z ab p.f0.f1.f1,Z ab p.f1,Z ab p.f2] 81:=aM (p:=⟨g21,0,none⟩) m12 aBt _
       have nT:dW (W6.setCell ⟨g21,0,none⟩ (.func (.func 107) #[] #[.pointer (some ⟨g20,0,none⟩),.pointer (some ⟨g19,0,none⟩),.pointer (some ⟨g17,0,none⟩),.pointer (some ⟨g8,0,none⟩),.pointer (some ⟨g12,0,none⟩),.pointer (some ⟨g21,0,none⟩)])) g #[Z ab s.nx,Z ab s.ny,Z ab s.cell,Z ab s.slot,Z ab s.slots,Z ab s.layers,Z ab s.most,.slice B7 s.bf.length d7,.slice B8 s.aC.length d8,Z ab v.speed,Z ab v.bq,Z ab v.use.f0,Z ab v.use.f1,Z ab v.aV.f0,Z ab v.aV.f1,Z ab v.reserve] 110:=aM (p:=⟨g21,0,none⟩) mT aMt _
       have n17:dW (W6.setCell ⟨g21,0,none⟩ (.func (.func 107) #[] #[.pointer (some ⟨g20,0,none⟩),.pointer (some ⟨g19,0,none⟩),.pointer (some ⟨g17,0,none⟩),.pointer (some ⟨g8,0,none⟩),.pointer (some ⟨g12,0,none⟩),.pointer (some ⟨g21,0,none⟩)])) g17 #[.pointer (some ⟨g,0,none⟩)] 104:=aM (p:=⟨g21,0,none⟩) m17 aBu _
       have n19:dW (W6.setCell ⟨g21,0,none⟩ (.func (.func 107) #[] #[.pointer (some ⟨g20,0,none⟩),.pointer (some ⟨g19,0,none⟩),.pointer (some ⟨g17,0,none⟩),.pointer (some ⟨g8,0,none⟩),.pointer (some ⟨g12,0,none⟩),.pointer (some ⟨g21,0,none⟩)])) g19 #[.slice none 0 0] 49:=aM (p:=⟨g21,0,none⟩) m19 aBv _
       have n20:dW (W6.setCell ⟨g21,0,none⟩ (.func (.func 107) #[] #[.pointer (some ⟨g20,0,none⟩),.pointer (some ⟨g19,0,none⟩),.pointer (some ⟨g17,0,none⟩),.pointer (some ⟨g8,0,none⟩),.pointer (some ⟨g12,0,none⟩),.pointer (some ⟨g21,0,none⟩)])) g20 #[Z ab (-1)] 2:=aM (p:=⟨g21,0,none⟩) m20 aBw _
       have n21:dW (W6.setCell ⟨g21,0,none⟩ (.func (.func 107) #[] #[.pointer (some ⟨g20,0,none⟩),.pointer (some ⟨g19,0,none⟩),.pointer (some ⟨g17,0,none⟩),.pointer (some ⟨g8,0,none⟩),.pointer (some ⟨g12,0,none⟩),.pointer (some ⟨g21,0,none⟩)])) g21 #[.func (.func 107) #[] #[.pointer (some ⟨g20,0,none⟩),.pointer (some ⟨g19,0,none⟩),.pointer (some ⟨g17,0,none⟩),.pointer (some ⟨g8,0,none⟩),.pointer (some ⟨g12,0,none⟩),.pointer (some ⟨g21,0,none⟩)]] 141:=aK m21 0 _ rfl
       have nB:Below w.heap.size w (W6.setCell ⟨g21,0,none⟩ (.func (.func 107) #[] #[.pointer (some ⟨g20,0,none⟩),.pointer (some ⟨g19,0,none⟩),.pointer (some ⟨g17,0,none⟩),.pointer (some ⟨g8,0,none⟩),.pointer (some ⟨g12,0,none⟩),.pointer (some ⟨g21,0,none⟩)])):=Below.setCell (p:=⟨g21,0,none⟩) mB aZF _
       clear ar3 aMq mB m8 aMr m9 aMs m11 aBs m12 aBt mT aMt m17 aBu m19 aBv m20 aBw m21
       generalize qQ:(W6.setCell ⟨g21,0,none⟩ (.func (.func 107) #[] #[.pointer (some ⟨g20,0,none⟩),.pointer (some ⟨g19,0,none⟩),.pointer (some ⟨g17,0,none⟩),.pointer (some ⟨g8,0,none⟩),.pointer (some ⟨g12,0,none⟩),.pointer (some ⟨g21,0,none⟩)])) = W7 at n8 n9 n11 n12 nT n17 n19 n20 n21 nB ⊢
       clear qQ
       have m8:=n8
       clear n8
       have m9:=n9
       clear n9
       have m11:=n11
       clear n11
       have m12:=n12
       clear n12
       have mT:=nT
       clear nT
       have m17:=n17
       clear n17
       have m19:=n19
       clear n19
       have m20:=n20
       clear n20
       have m21:=n21
       clear n21
       have mB:=nB
       clear nB
       have aiN:w.heap.size≤W7.heap.size:=mB.size
       have kG:=fun n=>afA w s v p g g17 g8 g12 g21 g20 g19 B7 B8 d7 d8 (fun W' h1 h2=>HTA.out W' h1 h2) hSV hVN HVB.out aZD ayI n
       have HC:gT W7 w.heap.size (.slice none 0 0) []:=gT.nil _ _
       have HD:Hid (1≤d∧d≤3):=Lib.hid (by omega)
       have HEV:Hid (0≤ev.f0∧ev.f0≤1073741824):=Lib.hid (by have h_:=HBN.out;omega)
       skip
       go_wp2
       skip
       go_loopw [22] (fun i wr=>∃ (k:Nat) (bv:Value),i = Z ab ((k:Int)+1)∧(k:Int)≤d∧anw w s v p g g17 g8 g12 g21 g20 g19 B7 B8 d7 d8 wr∧IM w g20 g19 bv (AU s v p x t ev k) wr∧dW wr g9 #[Z ab x.f0.f0,Z ab x.f0.f1,Z ab x.f1.f0,Z ab x.f1.f1] 31∧dW wr g11 #[Z ab ev.f0,Z ab ev.f1] 27) (fun i _=>(d+1 - intOf i).toNat)
       case atStart=>exact ⟨0,_,rfl,by omega,⟨mB,mT,m17,m8,m12,m21⟩,⟨m20,m19,HC⟩,m9,m11⟩
       case round =>
        clear m8 m9 m11 m12 mT m17 m19 m20 m21 mB HC aiN
        obtain ⟨k,bv,rfl,hk,⟨mB,mT,m17,m8,m12,m21⟩,⟨m20,m19,HC⟩,m9,m11⟩:=hrel
        have YO:w.heap.size≤wr.heap.size:=mB.size
        obtain ⟨hd1,hd2⟩:=HD.out
        by_cases hkd:(k:Int)+1≤d
        case pos =>
         have kl:decide ((k:Int)+1≤d) = true:=decide_eq_true hkd
         have hcon:=kG (k+1) x t ev.f0 0 ((k:Int)+1) [] false (AU s v p x t ev k) (.slice none 0 0) bv wr (by omega) (by simp) (by simp;omega) hbx (by have h_:=HTT.out;simp;omega) HEV.out (by simp) ⟨mB,mT,m17,m8,m12,m21⟩ ⟨m20,m19,HC⟩ (gT.nil _ _) (fun _ _ he=>by cases he)
         rw [← ahx] at hcon
         have ar3:=(ae m21 0).trans rfl
         obtain ⟨Jy,Jz,R5,R6⟩:=rY m9
         obtain ⟨Pk,Pm⟩:=Ch m11
         go_wp2_with fail
         skip
         clear ar3 Jy Jz R5 R6 Pk Pm
         (with_reducible refine hcon.mono ?_)
         clear hcon kl
         rintro e W9 ⟨⟨r_,rfl⟩,YZ,hp9,bv9,ha9,_⟩
         have hkp:=fun {q:Nat} {cs:Array Value} {ty:TypeId} (hb:dW wr q cs ty) (h1:ty≠2) (h2:ty≠49)=>dW.Aq YZ hb (qg hb m20 h1) (qg hb m19 h2) (fun e=>by cases e)
         have hE9:anw w s v p g g17 g8 g12 g21 g20 g19 B7 B8 d7 d8 W9:=⟨mB.trans YZ.1,hkp mT (by decide) (by decide),hkp m17 (by decide) (by decide),hkp m8 (by decide) (by decide),hkp m12 (by decide) (by decide),hkp m21 (by decide) (by decide)⟩
         have m9_:=hkp m9 (by decide) (by decide)
         have aZG:=hkp m11 (by decide) (by decide)
         clear hkp
         go_wp2
         skip
         go_roundw
         case rel=>exact ⟨k+1,bv9,by simp,by omega,hE9,ha9,m9_,aZG⟩
         case measure=>simp [intOf];omega
        case neg =>
         have kl:decide ((k:Int)+1≤d) = false:=decide_eq_false hkd
         obtain rfl:k = d.toNat:=by omega
         generalize AU s v p x t ev d.toNat = R at*
         obtain ⟨R1,R2⟩:=R
         dsimp only at HX6 HOK m20 HC
         clear kG
         obtain ⟨A1_,c1_,rfl⟩:=HC.slice
         have alq:=(ae m20 0).trans rfl
         by_cases c3:R2 < 0
         case pos =>
          have HZ:=Lib.hid (HX6.out.trans (if_pos c3))
          have k3:decide (R2 < 0) = true:=decide_eq_true c3
          clear c3 HX6 hkd
          have HR:=Lib.hid (anB.out _ HZ.out (by decide))
          go_wp2
          go_ret3
          exact ⟨_,Jm,amc,Nl⟩
         case neg =>
          have HZ:=Lib.hid (HX6.out.trans (if_neg c3))
          have k3:decide (R2 < 0) = false:=decide_eq_false c3
          clear c3 HX6 hkd
          have HR:=Lib.hid (HOK.out HZ.out)
          have ak3:=(ae m19 0).trans rfl
          go_wp2
          skip
          go_quiet (fail)
          go_wp2
          skip
          go_ret3
          exact ⟨_,Jm,by rw [HR.out];exact (gT.below HC (by repeat (first|exact Below.refl _ _|apply bF|apply ng))).toR,Nl⟩
end Go.Proofs.Ytmhaiihjfgfaoaa.Gl
end
section
namespace Go.Proofs.Ytmhaiihjfgfaoaa.Pr
open Go.RowKit Go.Proofs.YtmhaiihjfgfaoaaW.bu Go.Proofs.YtmhaiihjfgfaoaaW.dB Go.Proofs.YtmhaiihjfgfaoaaW.ek Go.Proofs.Ytmhaiihjfgfaoaa.Gl
def vY.f (ai:Int) (aj:Int) (az:Int) (aA:Int) (aI:Int) (aD:Int) (aJ:Int) (aX:List Bool) (aG:List (qK)) (aQ:Int) (aN:Int) (bC:Int) (bD:Int) (bU:Int) (bV:Int) (bW:Int) (cO:Int) (cZ:Int) (dh:Int) (di:Int) (a3:Int) (fE:Int) (eZ:Int) (Xa:Int) (Xb:Int) (Xc:Int) (Xd:Int) (Xe:Int) (Xf:Int) (a6:Int):Option ((List (gU)) × Int × Int):=some (Ms ⟨ai,aj,az,aA,aI,aD,aJ,aX,aG⟩ ⟨aQ,aN,⟨bC,bD⟩,⟨bU,bV⟩,bW⟩ ⟨⟨cO,cZ⟩,⟨dh,di⟩⟩ a3 ⟨fE,eZ⟩ ⟨⟨⟨Xa,Xb⟩,⟨Xc,Xd⟩⟩,Xe,Xf⟩ a6)
theorem vY.calls (ai:Int) (aj:Int) (az:Int) (aA:Int) (aI:Int) (aD:Int) (aJ:Int) (dY:Option Addr) (dS:Nat) (aX:List Bool) (dV:Option Addr) (dU:Nat) (aG:List (qK)) (aQ:Int) (aN:Int) (bC:Int) (bD:Int) (bU:Int) (bV:Int) (bW:Int) (cO:Int) (cZ:Int) (dh:Int) (di:Int) (a3:Int) (fE:Int) (eZ:Int) (Xa:Int) (Xb:Int) (Xc:Int) (Xd:Int) (Xe:Int) (Xf:Int) (a6:Int) (r1:List (gU)) (r2:Int) (r3:Int) (w:ao) (jC:Kd.C Kd.bool w dY aX.length aX) (jD:aX.length≤dS) (jE:Kd.C Dt w dV aG.length aG) (jF:aG.length≤dU) (h:vY.f ai aj az aA aI aD aJ aX aG aQ aN bC bD bU bV bW cO cZ dh di a3 fE eZ Xa Xb Xc Xd Xe Xf a6 = some (r1,r2,r3)):
 Calls Try.prog 57 #[.agg #[Z ab ai,Z ab aj,Z ab az,Z ab aA,Z ab aI,Z ab aD,Z ab aJ,.slice dY aX.length dS,.slice dV aG.length dU],.agg #[Z ab aQ,Z ab aN,Z ab bC,Z ab bD,Z ab bU,Z ab bV,Z ab bW],.agg #[Z ab cO,Z ab cZ,Z ab dh,Z ab di],Z ab a3,.agg #[Z ab fE,Z ab eZ],.agg #[Z ab Xa,Z ab Xb,Z ab Xc,Z ab Xd,Z ab Xe,Z ab Xf],Z ab a6] w fun e w'=>∃ QH:Value,e = .returned (.tuple #[QH,Z ab r2,Z ab r3])∧Kd.R yn 33 w' w.heap.size (fun _=>True) QH r1∧Below w.heap.size w w':=by
 have e_:=bh h
 have q_:=arM ⟨ai,aj,az,aA,aI,aD,aJ,aX,aG⟩ ⟨aQ,aN,⟨bC,bD⟩,⟨bU,bV⟩,bW⟩ ⟨⟨cO,cZ⟩,⟨dh,di⟩⟩ a3 ⟨fE,eZ⟩ ⟨⟨⟨Xa,Xb⟩,⟨Xc,Xd⟩⟩,Xe,Xf⟩ a6 dY dV dS dU w jD jC jF jE
 rw [e_] at q_
 exact q_
end Go.Proofs.Ytmhaiihjfgfaoaa.Pr
end
section
namespace Go.Proofs.Ytmhaiihjfgfaoaa.Gl
open Go.RowKit Go.Proofs.YtmhaiihjfgfaoaaW.bu Go.Proofs.YtmhaiihjfgfaoaaW.dB Go.Proofs.YtmhaiihjfgfaoaaW.ek Go.Proofs.Ytmhaiihjfgfaoaa.Pr
def uL (a b:iA):Prop:=b.f0.f0≤a.f0.f0∧a.f0.f1≤b.f0.f1∧b.f1.f0≤a.f1.f0∧a.f1.f1≤b.f1.f1
theorem uL.rfl' (a:iA):uL a a:=⟨Int.le_refl _,Int.le_refl _,Int.le_refl _,Int.le_refl _⟩
theorem uL.trans {a b c:iA} (h:uL a b) (k:uL b c):uL a c:=by unfold uL at*;omega
theorem uL.antisymm {a b:iA} (h:uL a b) (k:uL b a):a = b:=by
 obtain ⟨⟨a0,a1⟩,⟨a2,a3⟩⟩:=a
 obtain ⟨⟨b0,b1⟩,⟨b2,b3⟩⟩:=b
 unfold uL at*
 dsimp only at h k
 have e0:a0 = b0:=by omega
 have e1:a1 = b1:=by omega
 have e2:a2 = b2:=by omega
 have e3:a3 = b3:=by omega
 rw [e0,e1,e2,e3]
theorem afH {a b:iA}:uL a (AL a b)∧uL b (AL a b):=by
 unfold uL AL
 dsimp only
 omega
theorem anC {a b c:iA} (h:uL a c) (k:uL b c):uL (AL a b) c:=by
 unfold uL AL at*
 dsimp only
 omega
theorem Y0:∀ (l:List iA) (z:iA),∃ y,l.foldl adF (some z) = some y∧(uL z y∧∀ a ∈ l,uL a y)∧∀ b,uL z b→(∀ a ∈ l,uL a b)→uL y b
 |[],z=>⟨z,rfl,⟨uL.rfl' z,fun a h=>by cases h⟩,fun b h _=>h⟩
 |x :: l,z=>by
  obtain ⟨y,h,⟨h1,h2⟩,h3⟩:=Y0 l (AL z x)
  refine ⟨y,h,⟨afH.1.trans h1,fun a ha=>?_⟩,fun b hb hl=>h3 b (anC hb (hl x (List.mem_cons_self ..))) fun a ha=>hl a (List.mem_cons_of_mem _ ha)⟩
  rcases List.mem_cons.1 ha with rfl|ha
  ·exact afH.2.trans h1
  ·exact h2 a ha
theorem acH {l:List iA} (h:l≠[]):∃ y,vJ l = some y∧(∀ a ∈ l,uL a y)∧∀ b,(∀ a ∈ l,uL a b)→uL y b:=by
 cases l with
 |nil=>exact absurd rfl h
 |cons x l =>
  obtain ⟨y,h,⟨h1,h2⟩,h3⟩:=Y0 l x
  refine ⟨y,h,fun a ha=>?_,fun b hl=>h3 b (hl x (List.mem_cons_self ..)) fun a ha=>hl a (List.mem_cons_of_mem _ ha)⟩
  rcases List.mem_cons.1 ha with rfl|ha
  ·exact h1
  ·exact h2 a ha
theorem Y1 {l l':List iA} (h:l≠[]) (hs:∀ a ∈ l,∃ b ∈ l',uL a b):uL (mo l) (mo l'):=by
 obtain ⟨y,e,h1,h2⟩:=acH h
 have h':l'≠[]:=by
  intro e'
  cases l with
  |nil=>exact h rfl
  |cons x l =>
   obtain ⟨b,hb,_⟩:=hs x (List.mem_cons_self ..)
   rw [e'] at hb;cases hb
 obtain ⟨y',e',h1',h2'⟩:=acH h'
 unfold mo
 rw [e,e']
 exact h2 y' fun a ha=>by
  obtain ⟨b,hb,hs⟩:=hs a ha
  exact hs.trans (h1' b hb)
theorem ar4 {nx i0 k0 c:Int} {n m:Nat}:c ∈ allT nx i0 n k0 m↔∃ r:Nat,r < m∧∃ j:Nat,j < n∧c = (k0+(r:Int))*nx+(i0+(j:Int)):=by
 unfold allT amk
 simp only [List.mem_flatMap,List.mem_range,List.mem_map]
 constructor
 ·rintro ⟨r,hr,j,hj,rfl⟩
  exact ⟨r,hr,j,hj,rfl⟩
 ·rintro ⟨r,hr,j,hj,rfl⟩
  exact ⟨r,hr,j,hj,rfl⟩
theorem anD {nx a b c d k:Int}:k ∈ allT nx a (b+1 - a).toNat c (d+1 - c).toNat↔∃ r i:Int,(c≤r∧r≤d)∧(a≤i∧i≤b)∧k = r*nx+i:=by
 rw [ar4]
 constructor
 ·rintro ⟨r,hr,j,hj,rfl⟩
  exact ⟨c+r,a+j,by omega,by omega,rfl⟩
 ·rintro ⟨r,i,hr,hi,rfl⟩
  exact ⟨(r - c).toNat,by omega,(i - a).toNat,by omega,by rw [show c+((r - c).toNat:Int) = r from by omega,show a+((i - a).toNat:Int) = i from by omega]⟩
theorem Y2 {s:lK} {x:iA} {k:Int}:k ∈ sF s x↔∃ r i:Int,((vC s.cell x.f1 s.ny).1≤r∧r≤(vC s.cell x.f1 s.ny).2)∧((vC s.cell x.f0 s.nx).1≤i∧i≤(vC s.cell x.f0 s.nx).2)∧k = r*s.nx+i:=anD
theorem ar5 (c x:Int):yx c x≤x / c∧x / c - 1≤yx c x:=by unfold yx;split <;> omega
theorem afI {c most:Int} {a:jK} (hc:0 < c) (h:a.f0≤a.f1):(vC c a most).1≤(vC c a most).2:=by
 have:=(ar5 c a.f0).1
 have:=Int.ediv_le_ediv hc h
 unfold vC
 dsimp only
 omega
theorem ahy {s:lK} {x:iA} (hc:0 < s.cell) (h0:x.f0.f0≤x.f0.f1) (h1:x.f1.f0≤x.f1.f1):∃ k,k ∈ sF s x:=by
 have a:=afI (c:=s.cell) (most:=s.nx) (a:=x.f0) hc h0
 have b:=afI (c:=s.cell) (most:=s.ny) (a:=x.f1) hc h1
 exact ⟨_,Y2.2 ⟨_,_,⟨Int.le_refl _,b⟩,⟨Int.le_refl _,a⟩,rfl⟩⟩
theorem Rh {s:lK} {x:iA} {layer j0:Int} {q:Nat} {y:iA}:y ∈ kr s x layer j0 q↔∃ r:Nat,r < q∧∃ c ∈ sF s x,y = AA s layer (j0+(r:Int)) c:=by
 unfold kr slotL
 simp only [List.mem_flatMap,List.mem_range,List.mem_map]
 constructor
 ·rintro ⟨r,hr,c,hc,rfl⟩
  exact ⟨r,hr,c,hc,rfl⟩
 ·rintro ⟨r,hr,c,hc,rfl⟩
  exact ⟨r,hr,c,hc,rfl⟩
theorem Y3 {t u d:Int} (hd:0 < d) (h:t < u):0 < ((u - 1) / d+1 - t / d).toNat:=by
 have:=Int.ediv_le_ediv (a:=t) (b:=u - 1) hd (by omega)
 omega
theorem afJ {s:lK} {v:nW} {x:iA} (hS:Cm s) (hV:Fz v) (hx:vK x):(fO s v x).f0.f0≤(fO s v x).f0.f1∧(fO s v x).f1.f0≤(fO s v x).f1.f1:=by
 have:=(je (a:=v.speed+s.most) (b:=v.bq) (m:=10000) (n:=131072) (by have:=hV.speed;have:=hS.most;omega) (by have:=hV.speed;have:=hS.most;omega) (by have:=hV.bq;omega) hV.bq.2).1
 unfold fO
 obtain ⟨_,h0,h1⟩:=hx
 dsimp only
 omega
end Go.Proofs.Ytmhaiihjfgfaoaa.Gl
end
section
namespace Go.Proofs.Ytmhaiihjfgfaoaa.Gl
open Go.RowKit Go.Proofs.YtmhaiihjfgfaoaaW.bu Go.Proofs.YtmhaiihjfgfaoaaW.dB Go.Proofs.Ytmhaiihjfgfaoaa.Pr
end Go.Proofs.Ytmhaiihjfgfaoaa.Gl
end
section
namespace Go.Proofs.Ytmhaiihjfgfaoaa.Pr
open Go.RowKit Go.Proofs.YtmhaiihjfgfaoaaW.bu Go.Proofs.YtmhaiihjfgfaoaaW.dB Go.Proofs.YtmhaiihjfgfaoaaW.ek
attribute [local go_sem] iq iw jq jr iy
def dO.l0:Nat→List (gU)→Int→Int→Int→Int→Int→Int→Int→Int→Int→Option (Int)
 |0,_,_,_,_,_,_,_,_,_,_=>none
 |k+1,x1,x5,x6,alK,alL,alM,alN,alO,alP,alQ=>if x6 < (x1.length:Int) then (if 0≤x6 then ((il.f alK alL alM alN alO alP alQ ((bX x1 x6).f0) ((bX x1 x6).f1)).bind fun aMu=>(dO.l0 k x1 (an (x5+aMu.2)) (an (x6+1)) alK alL alM alN alO alP alQ)) else (none)) else (some x5)
def dO.f (k:Nat) (ai:Int) (aj:Int) (az:Int) (aA:Int) (aI:Int) (aD:Int) (aJ:Int) (l1:List (gU)):Option (Int):=dO.l0 k l1 0 0 ai aj az aA aI aD aJ
def dO.T5:Bool × List (List Nat × List Nat):=(true,[([],[]),([],[]),([],[]),([],[]),([2,3],[2,3]),([4],[4]),([1,5],[1,5]),([6],[6]),([0,7],[0,7]),([8,6,0,1,2,3,4,5,6,7,8],[0,8])])
def dO.B5:List Nat:=[0,0,0,0,12,28,62,126,255,511]
theorem dO.abz:rX .any (opsOf Try.f60 5) = dO.T5:=by kernel_rfl
theorem dO.OY:oF dO.T5.2 dO.B5 = true:=by kernel_rfl
theorem dO.calls (k:Nat) (ai:Int) (aj:Int) (az:Int) (aA:Int) (aI:Int) (aD:Int) (aJ:Int) (A1:Option Addr) (c1:Nat) (l1:List (gU)) (r:Int) (w:ao) (hr1:Kd.C yn w A1 l1.length l1) (hc1:l1.length≤c1) (h:dO.f k ai aj az aA aI aD aJ l1 = some r):
 Calls Try.prog 60 #[.agg #[Z ab ai,Z ab aj,Z ab az,Z ab aA,Z ab aI,Z ab aD,Z ab aJ],.slice A1 l1.length c1] w fun e w'=>e = .returned (Z ab r)∧Below w.heap.size w w':=by
 have vo:=Try.underlying29
 have E9:=Try.underlying33
 have ayJ:∀ (x0_ x1_:Value) (W_:ao),(Instr.field 27 (.agg #[x0_,x1_]) 1).run Try.prog W_ = .ok (x1_) W_:=fun _ _ W_=>by kernel_rfl
 have HR1:=af.mk hr1
 have HC1:=af.mk hc1
 clear hr1 hc1
 have HB:=af.mk (Below.refl w.heap.size w)
 have H:(dO.l0 k l1 0 0 ai aj az aA aI aD aJ) = some r:=h
 clear h
 have H':=af.mk H
 clear H
 go_enter Try.func60,Try.ntmps60
 go_wp2_with (first|((with_reducible refine av (N:=2) rfl ?_);refine ak (by rfl) (N:=2) (by rfl) (cs:=#[Z ab ai,Z ab aj,Z ab az,Z ab aA,Z ab aI,Z ab aD,Z ab aJ]) (t:=29) fU ?_;intro RO hg w3 ay hb;have vZ:=af.mk (ay);have a4q:=bY HB hg;have a4r:=bY HB hg;replace HB:=dz HB hb;clear hb ay hg))
 go_loopg [5,6] k (fun kq v5 v6 w'=>∃ (fe:Int) (rG:Int),v5 = Z ab fe∧v6 = Z ab rG∧af (dO.l0 kq l1 fe rG ai aj az aA aI aD aJ = some r)∧af (kq≤k)∧af (w'.heap[RO]? = some (.cells #[Z ab ai,Z ab aj,Z ab az,Z ab aA,Z ab aI,Z ab aD,Z ab aJ] 29 (0,0)))∧af (Below w.heap.size w w'))
 case atStart=>exact ⟨(0),(0),om,om,H',⟨Nat.le_refl _⟩,⟨iK⟩,⟨gp⟩⟩
 case round =>
  clear H'
  try clear c1
  try clear p2
  obtain ⟨fe,rG,rfl,rfl,HA,Cj,vZ,HB⟩:=hrel
  cases gk with
  |zero=>exact absurd HA.out (by simp [dO.l0])
  |succ k1 =>
   have H:=HA.out
   clear HA
   simp only [dO.l0] at H
   by_cases c4:rG < (l1.length:Int)
   ·rw [if_pos c4] at H
    have rZ:decide (rG < (l1.length:Int)) = true:=decide_eq_true c4
    clear c4
    by_cases c5:0≤rG
    ·rw [if_pos c5] at H
     have yt:decide (0≤rG) = true:=decide_eq_true c5
     clear c5
     replace H:=Option.bind_eq_some_iff.mp H
     obtain ⟨⟨aZH,aEr⟩,Nn,H⟩:=H
     replace H:(dO.l0 k1 l1 (an (fe+aEr)) (an (rG+1)) ai aj az aA aI aD aJ) = some r:=H
     have A6:=af.mk Nn
     clear Nn
     have H':=af.mk H
     clear H
     try go_wp2
     replace vZ:=af.mk (ag vZ.out)
     replace HB:=af.mk (bF HB.out)
     have aEs:0≤(rG:Int):=of_decide_eq_true nM
     have aEt:rG < (l1.length:Int):=of_decide_eq_true nM
     obtain ⟨ar6,aZI,PI,PK⟩:=lN HR1.out rG aEs aEt
     have alR:=PK
     have alS:=PI
     cases aZI
     replace PI:=(HB.out.cell (bd w _ PI)).trans PI
     replace PK:=(HB.out.cell (bd w _ PK)).trans PK
     replace aEs:=eq_true aEs
     replace aEt:=eq_true aEt
     refine jV (n:=10) (S:=fun w'=>w'.cell? ⟨RO,0,none⟩ = some (Z ab ai)∧w'.cell? ⟨RO,1,none⟩ = some (Z ab aj)∧w'.cell? ⟨RO,2,none⟩ = some (Z ab az)∧w'.cell? ⟨RO,3,none⟩ = some (Z ab aA)∧w'.cell? ⟨RO,4,none⟩ = some (Z ab aI)∧w'.cell? ⟨RO,5,none⟩ = some (Z ab aD)∧w'.cell? ⟨RO,6,none⟩ = some (Z ab aJ)∧w'.cell? (ar6.add ((rG).toNat*2)) = some (Z ab ((bX l1 rG).f0))∧w'.cell? ⟨(ar6.add ((rG).toNat*2)).block,(ar6.add ((rG).toNat*2)).off+1,none⟩ = some (Z ab ((bX l1 rG).f1))) (ds:=[]) #[al,al,al,al,al,al,al,al,al,al] aT rfl rfl ⟨bH vZ 0,bH vZ 1,bH vZ 2,bH vZ 3,bH vZ 4,bH vZ 5,bH vZ 6,(nI HB alS),(nI HB alR)⟩ (fun hHeld=>?_);refine jQ dO.abz dO.OY (fun dx mD=>?_)
     generalize wr.drew = w7 at vZ HB PI PK hHeld ⊢
     refine dR (i:=0) (N:=some 13) (aY dx.out aT) ?_
     refine dR (i:=2) (N:=some 15) (aY dx.out aT) ?_
     refine dR (i:=3) (N:=some 16) (aY dx.out aT) ?_
     refine dR (i:=4) (N:=some 17) (aY dx.out aT) ?_
     refine iT (i:=1) (N:=some 14) (bL dx.out mD.out aT) hHeld ?_
     refine iT (i:=5) (N:=some 18) (bL dx.out mD.out aT) hHeld ?_
     refine iW (i:=6) (N:=some 19) #[ac,ac,ac,ac,ac,ac,ac,al,al,al] rfl rfl (gJ dx.out aT) (by decide) (fun K hK=>?_)
     refine gY Try.func39 aT rfl #[.agg #[Z ab ai,Z ab aj,Z ab az,Z ab aA,Z ab aI,Z ab aD,Z ab aJ],.agg #[Z ab ((bX l1 rG).f0),Z ab ((bX l1 rG).f1)]] (by rfl) rfl rfl jB ?_
     with_reducible refine (il.calls ai aj az aA aI aD aJ ((bX l1 rG).f0) ((bX l1 rG).f1) aZH aEr _ A6.out).mono ?_
     rintro e w8 ⟨rfl,hb⟩
     refine ⟨_,rfl,?_⟩
     replace vZ:=bn vZ hb
     replace HB:=dz HB hb
     (try clear hb)
     (try clear hb2)
     (try clear hk)
     (try clear hi)
     refine hK.out _ _ ⟨bH vZ 0,bH vZ 1,bH vZ 2,bH vZ 3,bH vZ 4,bH vZ 5,bH vZ 6,(nI HB alS),(nI HB alR)⟩ (fun hHeld=>?_)
     clear hK K
     refine dQ aFc ?_
     refine dR (i:=7) (N:=some 20) (aY dx.out aT) ?_
     refine dR (i:=8) (N:=some 21) (aY dx.out aT) ?_
     refine dR (i:=9) (N:=some 5) (aY dx.out aT) ?_
     refine mi (ni dx.out aT) ?_
     try go_wp2
     go_roundg k1
     case measure=>have:=Cj.out;omega
     case rel=>exact ⟨(an (fe+aEr)),(an (rG+1)),om,om,H',⟨zq7⟩,⟨iK⟩,⟨gp⟩⟩
    ·rw [if_neg c5] at H
     exact absurd H (by simp)
   ·rw [if_neg c4] at H
    have rZ:decide (rG < (l1.length:Int)) = false:=decide_eq_false c4
    clear c4
    obtain rfl:=bh H
    go_wp2
    go_ret
    exact ⟨mJ,gp⟩
end Go.Proofs.Ytmhaiihjfgfaoaa.Pr
end
section
namespace Go.Proofs.Ytmhaiihjfgfaoaa.Gl
open Go.RowKit Go.Proofs.YtmhaiihjfgfaoaaW.bu Go.Proofs.YtmhaiihjfgfaoaaW.dB Go.Proofs.Ytmhaiihjfgfaoaa.Pr
theorem ar7 {s:lK} {c:gU} (h:c ∈ uC s):(0≤c.f0∧c.f0≤8)∧0≤c.f1∧c.f1 < s.layers:=by
 unfold uC Po ahs at h
 obtain ⟨r,hr,h⟩:=List.mem_flatMap.1 h
 obtain ⟨j,hj,rfl⟩:=List.mem_map.1 h
 have h1:=List.mem_range.1 hr
 have h2:=List.mem_range.1 hj
 dsimp only
 omega
theorem azd {s:lK} {l:List gU} (hl:l.length≤64) (h:∀ c ∈ l,c ∈ uC s):Ct l s.layers = 0:=by
 unfold Ct
 have ha:l.all (FH s.layers) = true:=List.all_eq_true.2 (fun c hc=>by
  have:=ar7 (h c hc)
  unfold FH
  rw [jg.2 ⟨this.1.1,this.1.2⟩,decide_eq_true this.2.1,decide_eq_true this.2.2,Bool.or_true]
  rfl)
 rw [if_neg (by omega),ha]
 rfl
theorem afK {v:nW} (hv:wZ v = true) (l:List gU) (hl:l.length≤64):∀ (m i K:Nat) (acc:Int),i+m = l.length→m+1≤K→(0≤acc∧acc≤(i:Int)*1073741824)→
 dO.l0 K l acc (i:Int) v.speed v.bq v.use.f0 v.use.f1 v.aV.f0 v.aV.f1 v.reserve = some (acc+mU v (l.drop i))
 |0,i,K+1,acc,h,hk,ha=>by
  rw [dO.l0,if_neg (by omega),List.drop_eq_nil_of_le (by omega)]
  unfold mU
  rw [Int.add_zero]
 |m+1,i,K+1,acc,h,hk,ha=>by
  have hi:i < l.length:=by omega
  have e:bX l (i:Int) = l[i]:=by
   unfold bX
   simp [hi]
  have hus:=Gr hv l[i]
  have htk:il.f v.speed v.bq v.use.f0 v.use.f1 v.aV.f0 v.aV.f1 v.reserve l[i].f0 l[i].f1 = some ((jG v l[i]).f0,(jG v l[i]).f1):=by
   unfold il.f jG
   split <;> rfl
  have hc:((i+1:Nat):Int) = (i:Int)+1:=by omega
  rw [dO.l0,if_pos (by omega),if_pos (by omega),e,htk,aE]
  dsimp only
  rw [II (x:=acc+(jG v l[i]).f1) (by omega),II (x:=(i:Int)+1) (by omega),← hc,afK hv l hl m (i+1) K _ (by omega) (by omega) (by omega),List.drop_eq_getElem_cons hi]
  rw [show mU v (l[i] :: l.drop (i+1)) = (jG v l[i]).f1+mU v (l.drop (i+1)) from rfl,Int.add_assoc]
theorem Xg {v:nW} (hv:wZ v = true) (l:List gU) (hl:l.length≤64) (K:Nat) (hk:70≤K):dO.f K v.speed v.bq v.use.f0 v.use.f1 v.aV.f0 v.aV.f1 v.reserve l = some (mU v l):=by
 have h:=afK hv l hl l.length 0 K 0 (Nat.zero_add _) (by omega) (by omega)
 rw [List.drop_zero,Int.zero_add] at h
 exact h
end Go.Proofs.Ytmhaiihjfgfaoaa.Gl
end
section
namespace Go.Proofs.Ytmhaiihjfgfaoaa.Pr
open Go.RowKit Go.Proofs.YtmhaiihjfgfaoaaW.bu Go.Proofs.YtmhaiihjfgfaoaaW.dB Go.Proofs.YtmhaiihjfgfaoaaW.ek
attribute [local go_sem] iq iw jq jr iy
end Go.Proofs.Ytmhaiihjfgfaoaa.Pr
end
section
namespace Go.Proofs.Ytmhaiihjfgfaoaa.Gl
open Go.RowKit Go.Proofs.YtmhaiihjfgfaoaaW.bu Go.Proofs.YtmhaiihjfgfaoaaW.dB Go.Proofs.YtmhaiihjfgfaoaaW.ek Go.Proofs.Ytmhaiihjfgfaoaa.Pr
theorem fF {x:Int} (h:-9223372036854775808≤x∧x < 9223372036854775808):an x = x:=by unfold an;omega
theorem LD (lo hi:Int):bT.f lo hi = some (NV lo hi):=by
 unfold bT.f aW.f
 rw [show NV lo hi = (decide (lo≤hi) && (decide (-1073741824≤lo) && decide (lo≤1073741824)) && (decide (-1073741824≤hi) && decide (hi≤1073741824))) from by
  rw [Bool.eq_iff_iff,BC];simp only [Bool.and_eq_true,decide_eq_true_eq];omega]
 by_cases h1:lo≤hi <;> by_cases h2:-1073741824≤lo <;> by_cases h3:lo≤1073741824 <;> by_cases h4:-1073741824≤hi <;> by_cases h5:hi≤1073741824 <;> simp [h1,h2,h3,h4,h5]
theorem Ar (lo hi a b:Int):bG.f lo hi a b = some (si lo hi a b):=by
 unfold bG.f si
 rw [LD,aE]
 cases NV lo hi with
 |false=>rfl
 |true =>
  by_cases h:a≤lo <;> simp [h]
theorem ahz (x lo hi:Int):aW.f x lo hi = some (nU x lo hi):=by
 unfold aW.f nU
 by_cases h:lo≤x <;> simp [h]
theorem alT (x:iA):eT.f x.f0.f0 x.f0.f1 x.f1.f0 x.f1.f1 = some (XI x):=by
 unfold eT.f XI
 simp only [LD,ahz,aE]
 cases NV x.f0.f0 x.f0.f1 <;> cases NV x.f1.f0 x.f1.f1 <;> cases nU x.f0.f0 (-268435456) 268435456 <;> cases nU x.f0.f1 (-268435456) 268435456 <;> cases nU x.f1.f0 (-268435456) 268435456 <;> cases nU x.f1.f1 (-268435456) 268435456 <;> rfl
theorem aze (v:nW):iL.f v.speed v.bq v.use.f0 v.use.f1 v.aV.f0 v.aV.f1 v.reserve = some (R7 v):=by
 unfold iL.f R7 wZ nU
 simp only [Ar,aE]
 by_cases h1:v.speed < 0
 ·rw [if_pos h1,show decide (0≤v.speed) = false from decide_eq_false (by omega)];rfl
 rw [if_neg h1,show decide (0≤v.speed) = true from decide_eq_true (by omega)]
 by_cases h2:v.speed > 5000
 ·rw [if_pos h2,show decide (v.speed≤5000) = false from decide_eq_false (by omega)];rfl
 rw [if_neg h2,show decide (v.speed≤5000) = true from decide_eq_true (by omega)]
 by_cases h3:v.bq < 1
 ·rw [if_pos h3,show decide (1≤v.bq) = false from decide_eq_false (by omega)];rfl
 rw [if_neg h3,show decide (1≤v.bq) = true from decide_eq_true (by omega)]
 by_cases h4:v.bq > 131072
 ·rw [if_pos h4,show decide (v.bq≤131072) = false from decide_eq_false (by omega)];rfl
 rw [if_neg h4,show decide (v.bq≤131072) = true from decide_eq_true (by omega)]
 cases si v.use.f0 v.use.f1 0 1073741824
 ·rfl
 cases si v.aV.f0 v.aV.f1 0 1073741824
 ·rfl
 by_cases h5:v.reserve < 0
 ·rw [if_pos h5,show decide (0≤v.reserve) = false from decide_eq_false (by omega)];rfl
 rw [if_neg h5,show decide (0≤v.reserve) = true from decide_eq_true (by omega)]
 by_cases h6:v.reserve > 1073741824
 ·rw [if_pos h6,show decide (v.reserve≤1073741824) = false from decide_eq_false (by omega)];rfl
 rw [if_neg h6,show decide (v.reserve≤1073741824) = true from decide_eq_true (by omega)];rfl
theorem afL (s:lK) (hm:0≤s.most∧s.most≤5000) (hl:s.aC.length≤100000):∀ (m i K:Nat),i+m = s.aC.length→m+1≤K→
 ax.l0 K (i:Int) s.nx s.ny s.cell s.slot s.slots s.layers s.most s.bf s.aC = some (if (s.aC.drop i).any (XB s.most) then 2 else 0)
 |0,i,K+1,h,hk=>by
  rw [ax.l0,if_neg (by omega),List.drop_eq_nil_of_le (by omega)];rfl
 |m+1,i,K+1,h,hk=>by
  have hi:i < s.aC.length:=by omega
  rw [ax.l0,if_pos (by omega),if_pos (by omega),fF (x:=-s.most) (by omega),fF (x:=(i:Int)+1) (by omega)]
  have e:bE s.aC (i:Int) = s.aC[i]:=by
   unfold bE
   simp [hi]
  rw [e,Ar,aE,Ar,aE,List.drop_eq_getElem_cons hi,List.any_cons]
  have ih:=afL s hm hl m (i+1) K (by omega) (by omega)
  rw [show ((i+1:Nat):Int) = (i:Int)+1 from by omega] at ih
  rw [ih,show XB s.most s.aC[i] = (!si s.aC[i].f0.f0 s.aC[i].f0.f1 (-s.most) s.most || !si s.aC[i].f1.f0 s.aC[i].f1.f1 (-s.most) s.most) from rfl]
  cases si s.aC[i].f0.f0 s.aC[i].f0.f1 (-s.most) s.most
  ·rfl
  cases si s.aC[i].f1.f0 s.aC[i].f1.f1 (-s.most) s.most
  ·rfl
  rfl
theorem azf (s:lK) (K:Nat) (hl:s.aC.length≤100000) (hk:s.aC.length+3≤K):ax.f K s.nx s.ny s.cell s.slot s.slots s.layers s.most s.bf s.aC = some (Az s):=by
 obtain ⟨K,rfl⟩:∃ k,K = k+2:=⟨K - 2,by omega⟩
 have hj:ax.j0 (K+2) true s.nx s.ny s.cell s.slot s.slots s.layers s.most s.bf s.aC = some 2:=by rw [ax.j0,if_pos rfl]
 unfold ax.f Az adz
 rw [hj]
 unfold nU
 by_cases h1:s.nx < 1
 ·rw [if_pos h1,show decide (1≤s.nx) = false from decide_eq_false (by omega)];rfl
 rw [if_neg h1,show decide (1≤s.nx) = true from decide_eq_true (by omega)]
 by_cases h2:s.nx > 12
 ·rw [if_pos h2,show decide (s.nx≤12) = false from decide_eq_false (by omega)];rfl
 rw [if_neg h2,show decide (s.nx≤12) = true from decide_eq_true (by omega)]
 by_cases h3:s.ny < 1
 ·rw [if_pos h3,show decide (1≤s.ny) = false from decide_eq_false (by omega)];rfl
 rw [if_neg h3,show decide (1≤s.ny) = true from decide_eq_true (by omega)]
 by_cases h4:s.ny > 12
 ·rw [if_pos h4,show decide (s.ny≤12) = false from decide_eq_false (by omega)];rfl
 rw [if_neg h4,show decide (s.ny≤12) = true from decide_eq_true (by omega)]
 by_cases h5:s.cell < 100
 ·rw [if_pos h5,show decide (100≤s.cell) = false from decide_eq_false (by omega)];rfl
 rw [if_neg h5,show decide (100≤s.cell) = true from decide_eq_true (by omega)]
 by_cases h6:s.cell > 65536
 ·rw [if_pos h6,show decide (s.cell≤65536) = false from decide_eq_false (by omega)];rfl
 rw [if_neg h6,show decide (s.cell≤65536) = true from decide_eq_true (by omega)]
 by_cases h7:s.slot < 1
 ·rw [if_pos h7,show decide (1≤s.slot) = false from decide_eq_false (by omega)];rfl
 rw [if_neg h7,show decide (1≤s.slot) = true from decide_eq_true (by omega)]
 by_cases h8:s.slot > 1048576
 ·rw [if_pos h8,show decide (s.slot≤1048576) = false from decide_eq_false (by omega)];rfl
 rw [if_neg h8,show decide (s.slot≤1048576) = true from decide_eq_true (by omega)]
 by_cases h9:s.slots < 1
 ·rw [if_pos h9,show decide (1≤s.slots) = false from decide_eq_false (by omega)];rfl
 rw [if_neg h9,show decide (1≤s.slots) = true from decide_eq_true (by omega)]
 by_cases h10:s.slots > 16
 ·rw [if_pos h10,show decide (s.slots≤16) = false from decide_eq_false (by omega)];rfl
 rw [if_neg h10,show decide (s.slots≤16) = true from decide_eq_true (by omega)]
 by_cases h11:s.layers < 1
 ·rw [if_pos h11,show decide (1≤s.layers) = false from decide_eq_false (by omega)];rfl
 rw [if_neg h11,show decide (1≤s.layers) = true from decide_eq_true (by omega)]
 by_cases h12:s.layers > 3
 ·rw [if_pos h12,show decide (s.layers≤3) = false from decide_eq_false (by omega)];rfl
 rw [if_neg h12,show decide (s.layers≤3) = true from decide_eq_true (by omega)]
 by_cases h13:s.most < 0
 ·rw [if_pos h13,show decide (0≤s.most) = false from decide_eq_false (by omega)];rfl
 rw [if_neg h13,show decide (0≤s.most) = true from decide_eq_true (by omega)]
 by_cases h14:s.most > 5000
 ·rw [show decide (s.most > 5000) = true from decide_eq_true h14,hj,show decide (s.most≤5000) = false from decide_eq_false (by omega)];rfl
 rw [show decide (s.most > 5000) = false from decide_eq_false h14,show decide (s.most≤5000) = true from decide_eq_true (by omega)]
 obtain ⟨n0,n1⟩:=je (a:=s.nx) (b:=s.ny) (m:=12) (n:=12) (by omega) (by omega) (by omega) (by omega)
 obtain ⟨m0,m1⟩:=je (a:=s.slots) (b:=s.layers) (m:=16) (n:=3) (by omega) (by omega) (by omega) (by omega)
 obtain ⟨q0,q1⟩:=je (a:=s.slots*s.layers) (b:=s.nx*s.ny) (m:=48) (n:=144) (by omega) (by omega) (by omega) (by omega)
 obtain ⟨p0,p1⟩:=je (a:=s.slots*s.layers) (b:=s.nx) (m:=48) (n:=12) (by omega) (by omega) (by omega) (by omega)
 have ea:s.layers*s.slots = s.slots*s.layers:=Int.mul_comm _ _
 have eb:s.slots*s.layers*s.nx*s.ny = s.slots*s.layers*(s.nx*s.ny):=by rw [Int.mul_assoc]
 rw [ax.j0,if_neg (by decide),fF (x:=s.nx*s.ny) (by omega)]
 by_cases h15:(s.bf.length:Int) = s.nx*s.ny
 ·rw [if_pos h15,decide_eq_true h15,ax.j1,fF (x:=s.slots*s.layers) (by omega),fF (x:=s.slots*s.layers*s.nx) (by omega),eb,fF (x:=s.slots*s.layers*(s.nx*s.ny)) (by omega)]
  by_cases h16:(s.aC.length:Int) = s.slots*s.layers*(s.nx*s.ny)
  ·rw [if_neg (by rw [h16];simp),decide_eq_true h16]
   have:=afL s (by omega) hl s.aC.length 0 K (by omega) (by omega)
   rw [show ((0:Nat):Int) = 0 from rfl,List.drop_zero] at this
   rw [this]
   cases s.aC.any (XB s.most) <;> rfl
  ·rw [if_pos (by simpa using h16),decide_eq_false h16];rfl
 ·rw [if_neg h15,decide_eq_false h15,ax.j1,if_pos rfl];rfl
theorem anE (s:lK):jZ.f s.nx s.ny s.cell s.slot s.slots s.layers s.most s.bf s.aC = some (decide ((s.bf.length:Int) > 200) || decide ((s.aC.length:Int) > 3000)):=by
 unfold jZ.f
 by_cases h:(s.bf.length:Int) > 200 <;> simp [h]
end Go.Proofs.Ytmhaiihjfgfaoaa.Gl
end
section
namespace Go.Proofs.Ytmhaiihjfgfaoaa.Pr
open Go.RowKit Go.Proofs.YtmhaiihjfgfaoaaW.bu Go.Proofs.YtmhaiihjfgfaoaaW.dB Go.Proofs.YtmhaiihjfgfaoaaW.ek
attribute [local go_sem] iq iw jq jr iy
end Go.Proofs.Ytmhaiihjfgfaoaa.Pr
end
section
namespace Go.Proofs.Ytmhaiihjfgfaoaa.Gl
open Go.RowKit Go.Proofs.YtmhaiihjfgfaoaaW.bu Go.Proofs.YtmhaiihjfgfaoaaW.dB Go.Proofs.YtmhaiihjfgfaoaaW.ek Go.Proofs.Ytmhaiihjfgfaoaa.Pr
theorem ar8 (a b:jK) (K:Nat) (hk:2≤K):dA.f K a.f0 a.f1 b.f0 b.f1 = some (inI a b,inE a b):=by
 obtain ⟨K,rfl⟩:∃ z,K = z+2:=⟨K - 2,by omega⟩
 unfold dA.f inI inE
 rw [LD,LD,aE,aE]
 cases ha:NV a.f0 a.f1 with
 |false=>rfl
 |true =>
  cases hb:NV b.f0 b.f1 with
  |false=>rfl
  |true =>
   have h1:=BC.1 ha
   have h2:=BC.1 hb
   rw [if_pos rfl,dA.j0,if_neg (by decide),if_pos (show (true && true) = true from rfl),if_pos (show (true && true) = true from rfl)]
   by_cases q1:a.f0 ≥ b.f0
   ·rw [if_pos q1,dA.j1]
    by_cases q2:a.f1≤b.f1
    ·rw [if_pos (decide_eq_true q2),if_pos (by omega),if_pos (by omega)]
    ·rw [if_neg (by simp only [decide_eq_true_eq];exact q2),if_neg (by omega)]
     by_cases q3:a.f0 > b.f1
     ·rw [if_pos q3,if_neg (by omega)]
     ·rw [if_neg q3,if_pos (by omega),if_neg (by omega)]
   ·rw [if_neg q1,dA.j1,if_neg (by decide)]
    by_cases q3:a.f1 < b.f0
    ·rw [if_pos q3,if_neg (by omega)]
    ·rw [if_neg q3]
     by_cases q4:a.f0 > b.f1
     ·rw [if_pos q4,if_neg (by omega)]
     ·rw [if_neg q4,if_pos (by omega),if_neg (by omega)]
theorem ahA (x y:iA) (K:Nat) (hk:2≤K):nH.f K x.f0.f0 x.f0.f1 x.f1.f0 x.f1.f1 y.f0.f0 y.f0.f1 y.f1.f0 y.f1.f1 = some (M5 x y):=by
 unfold nH.f M5
 rw [ar8 _ _ K hk,aE,ar8 _ _ K hk,aE]
 dsimp only
 rw [NY]
end Go.Proofs.Ytmhaiihjfgfaoaa.Gl
end
section
namespace Go.Proofs.Ytmhaiihjfgfaoaa.Pr
open Go.RowKit Go.Proofs.YtmhaiihjfgfaoaaW.bu Go.Proofs.YtmhaiihjfgfaoaaW.dB Go.Proofs.YtmhaiihjfgfaoaaW.ek
attribute [local go_sem] iq iw jq jr iy
end Go.Proofs.Ytmhaiihjfgfaoaa.Pr
end
section
namespace Go.Proofs.Ytmhaiihjfgfaoaa.Gl
open Go.RowKit Go.Proofs.YtmhaiihjfgfaoaaW.bu Go.Proofs.YtmhaiihjfgfaoaaW.dB Go.Proofs.YtmhaiihjfgfaoaaW.ek Go.Proofs.Ytmhaiihjfgfaoaa.Pr
def xQ (s:lK) (x:iA) (c:Int):Bool:=(decide (x.f0.f0≤(c % s.nx+1)*s.cell) && decide (c % s.nx*s.cell≤x.f0.f1)) && (decide (x.f1.f0≤(c / s.nx+1)*s.cell) && decide (c / s.nx*s.cell≤x.f1.f1))
theorem UM {c lo hi most i:Int} (hc:0 < c) (h0:0≤lo) (h1:lo≤hi) (h2:hi≤most*c) (hi0:0≤i) (hi1:i≤most - 1):
 (min (yx c lo) (most - 1)≤i∧i≤min (hi / c) (most - 1))↔(lo≤(i+1)*c∧i*c≤hi):=by
 have a:i≤hi / c↔i*c≤hi:=Int.le_ediv_iff_mul_le hc
 have q0:0≤lo / c:=Int.ediv_nonneg h0 (by omega)
 have dm:=Int.emod_add_mul_ediv lo c
 have m0:=Int.emod_nonneg lo (show c≠0 by omega)
 have b:yx c lo≤i↔lo≤(i+1)*c:=by
  have e:(i+1)*c = i*c+c:=by rw [Int.add_mul,Int.one_mul]
  unfold yx
  by_cases hz:lo % c = 0
  ·have hq:(lo / c≤i+1)↔lo≤(i+1)*c:=by
    constructor
    ·intro h
     have:=Int.mul_le_mul_of_nonneg_right h (show 0≤c by omega)
     rw [Int.mul_comm (lo / c) c] at this
     omega
    ·intro h
     have:=Int.ediv_le_ediv hc h
     rw [Int.mul_ediv_cancel _ (show c≠0 by omega)] at this
     exact this
   by_cases hp:0 < lo / c
   ·rw [if_pos ⟨hp,hz⟩,← hq];omega
   ·rw [if_neg (fun q=>hp q.1),← hq];omega
  ·rw [if_neg (fun q=>hz q.2)]
   constructor
   ·intro h
    have h':lo / c < i+1:=by omega
    have:=(Int.ediv_lt_iff_lt_mul hc).1 h'
    omega
   ·intro h
    have h':lo < (i+1)*c:=by
     rcases Int.lt_or_eq_of_le h with h|h
     ·exact h
     ·exfalso
      apply hz
      rw [h,Int.mul_emod_left]
    have:=(Int.ediv_lt_iff_lt_mul hc).2 h'
    omega
 have last:i = most - 1→lo≤(i+1)*c:=by
  intro e
  rw [e,Int.sub_add_cancel]
  omega
 rw [← a,← b]
 constructor
 ·rintro ⟨h,k⟩
  refine ⟨?_,by omega⟩
  by_cases e:i = most - 1
  ·exact b.2 (last e)
  ·omega
 ·rintro ⟨h,k⟩
  omega
theorem LF {s:lK} {x:iA} (hN:Cm s) (hx0:x.f0.f0≤x.f0.f1) (hx1:x.f1.f0≤x.f1.f1) (hc:iX s x = true) {c:Int}:c ∈ sF s x↔(0≤c∧c < s.nx*s.ny)∧xQ s x c = true:=by
 unfold iX at hc
 simp only [Bool.and_eq_true,decide_eq_true_eq] at hc
 obtain ⟨⟨⟨c0,c1⟩,c2⟩,c3⟩:=hc
 have pc:0 < s.cell:=by have:=hN.cell;omega
 have pn:0 < s.nx:=by have:=hN.nx;omega
 have pm:0 < s.ny:=by have:=hN.ny;omega
 rw [Y2]
 unfold xQ
 simp only [Bool.and_eq_true,decide_eq_true_eq]
 have f0:∀ lo k:Int,0≤lo→0 < k→0≤(min (yx s.cell lo) (k - 1)):=by
  intro lo k h hk
  have q0:0≤lo / s.cell:=Int.ediv_nonneg h (by omega)
  have:0≤yx s.cell lo:=by unfold yx;split <;> omega
  omega
 constructor
 ·rintro ⟨r,i,hr,hi,e⟩
  have hi0:0≤i:=Int.le_trans (f0 _ _ c0 pn) hi.1
  have hr0:0≤r:=Int.le_trans (f0 _ _ c1 pm) hr.1
  have hi1:i≤s.nx - 1:=by have:=hi.2;unfold vC at this;dsimp only at this;omega
  have hr1:r≤s.ny - 1:=by have:=hr.2;unfold vC at this;dsimp only at this;omega
  have em:c % s.nx = i:=by rw [e,Int.add_comm,Int.add_mul_emod_self_right,Int.emod_eq_of_lt hi0 (by omega)]
  have ed:c / s.nx = r:=by rw [e,Int.add_comm,Int.add_mul_ediv_right _ _ (by omega),Int.ediv_eq_zero_of_lt hi0 (by omega),Int.zero_add]
  have p1:0≤r*s.nx:=Int.mul_nonneg hr0 (by omega)
  have p2:r*s.nx≤(s.ny - 1)*s.nx:=Int.mul_le_mul_of_nonneg_right hr1 (by omega)
  have p3:(s.ny - 1)*s.nx = s.nx*s.ny - s.nx:=by rw [Int.sub_mul,Int.mul_comm,Int.one_mul]
  rw [em,ed]
  exact ⟨⟨by omega,by omega⟩,(UM pc c0 hx0 c2 hi0 hi1).1 hi,(UM pc c1 hx1 c3 hr0 hr1).1 hr⟩
 ·rintro ⟨⟨k0,k1⟩,h0,h1⟩
  have hi0:0≤c % s.nx:=Int.emod_nonneg _ (by omega)
  have hi1:c % s.nx≤s.nx - 1:=by have:=Int.emod_lt_of_pos c pn;omega
  have hr0:0≤c / s.nx:=Int.ediv_nonneg k0 (by omega)
  have hr1:c / s.nx≤s.ny - 1:=by have:=(Int.ediv_lt_iff_lt_mul (a:=c) (b:=s.ny) pn).2 (by rw [Int.mul_comm];exact k1);omega
  refine ⟨c / s.nx,c % s.nx,(UM pc c1 hx1 c3 hr0 hr1).2 h1,(UM pc c0 hx0 c2 hi0 hi1).2 h0,?_⟩
  have:=Int.emod_add_mul_ediv c s.nx
  rw [Int.mul_comm] at this
  omega
def Ri (s:lK) (x:iA) (layer j:Int):Nat→Int→List iA
 |0,_=>[]
 |m+1,c=>(if xQ s x c then [AA s layer j c] else [])++Ri s x layer j m (c+1)
def Rj (s:lK) (x:iA) (layer t u:Int):Nat→Int→List iA
 |0,_=>[]
 |q+1,j=>(if u≤j*s.slot∨(j+1)*s.slot≤t then [] else Ri s x layer j (s.nx*s.ny).toNat 0)++Rj s x layer t u q (j+1)
theorem Xh {s:lK} {x:iA} {layer j:Int} {y:iA}:∀ (m:Nat) (c:Int),y ∈ Ri s x layer j m c↔∃ k,(c≤k∧k < c+(m:Int))∧xQ s x k = true∧y = AA s layer j k
 |0,c=>by
  unfold Ri
  constructor
  ·intro h;cases h
  ·rintro ⟨k,h,_⟩;omega
 |m+1,c=>by
  unfold Ri
  rw [List.mem_append,Xh m (c+1)]
  constructor
  ·rintro (h|⟨k,h,h1,h2⟩)
   ·by_cases ht:xQ s x c = true
    ·rw [if_pos ht,List.mem_singleton] at h
     exact ⟨c,by omega,ht,h⟩
    ·rw [if_neg ht] at h;cases h
   ·exact ⟨k,by omega,h1,h2⟩
  ·rintro ⟨k,h,h1,h2⟩
   by_cases e:k = c
   ·subst e
    left
    rw [if_pos h1,List.mem_singleton];exact h2
   ·exact Or.inr ⟨k,by omega,h1,h2⟩
theorem afM {s:lK} {x:iA} {layer t u:Int} {y:iA}:∀ (q:Nat) (j:Int),y ∈ Rj s x layer t u q j↔∃ i,(j≤i∧i < j+(q:Int))∧(i*s.slot < u∧t < (i+1)*s.slot)∧y ∈ Ri s x layer i (s.nx*s.ny).toNat 0
 |0,j=>by
  unfold Rj
  constructor
  ·intro h;cases h
  ·rintro ⟨k,h,_⟩;omega
 |q+1,j=>by
  unfold Rj
  rw [List.mem_append,afM q (j+1)]
  constructor
  ·rintro (h|⟨k,h,h1,h2⟩)
   ·by_cases ht:u≤j*s.slot∨(j+1)*s.slot≤t
    ·rw [if_pos ht] at h;cases h
    ·rw [if_neg ht] at h
     exact ⟨j,by omega,by omega,h⟩
   ·exact ⟨k,by omega,h1,h2⟩
  ·rintro ⟨k,h,h1,h2⟩
   by_cases e:k = j
   ·subst e
    left
    rw [if_neg (by omega)];exact h2
   ·exact Or.inr ⟨k,by omega,h1,h2⟩
theorem anF {s:lK} {x:iA} {layer t u:Int} (hN:Cm s) (hx0:x.f0.f0≤x.f0.f1) (hx1:x.f1.f0≤x.f1.f1) (hc:iX s x = true) (ht0:0≤t) (htu:t < u) (hu:u≤s.slots*s.slot):
 mo (Rj s x layer t u s.slots.toNat 0) = XG s x layer t u:=by
 have pd:0 < s.slot:=by have:=hN.slot;omega
 have ps:0 < s.slots:=by have:=hN.slots;omega
 have pnn:0≤s.nx*s.ny:=Int.mul_nonneg (by have:=hN.nx;omega) (by have:=hN.ny;omega)
 have pc:0 < s.cell:=by have:=hN.cell;omega
 have hm:∀ y,y ∈ Rj s x layer t u s.slots.toNat 0↔y ∈ kr s x layer (t / s.slot) ((u - 1) / s.slot+1 - t / s.slot).toNat:=by
  intro y
  rw [afM,Rh]
  constructor
  ·rintro ⟨i,hi,⟨h1,h2⟩,hy⟩
   obtain ⟨k,hk,hk1,e⟩:=(Xh _ _).1 hy
   have a1:i≤(u - 1) / s.slot:=(Int.le_ediv_iff_mul_le pd).2 (by omega)
   have a2:t / s.slot < i+1:=(Int.ediv_lt_iff_lt_mul pd).2 h2
   refine ⟨(i - t / s.slot).toNat,by omega,k,(LF hN hx0 hx1 hc).2 ⟨by omega,hk1⟩,?_⟩
   rw [show t / s.slot+((i - t / s.slot).toNat:Int) = i from by omega];exact e
  ·rintro ⟨r,hr,c,hc',e⟩
   obtain ⟨h0,h1⟩:=(LF hN hx0 hx1 hc).1 hc'
   have t0:0≤t / s.slot:=Int.ediv_nonneg ht0 (by omega)
   have a1:(t / s.slot+(r:Int))*s.slot≤u - 1:=(Int.le_ediv_iff_mul_le pd).1 (by omega)
   have a2:t < (t / s.slot+(r:Int)+1)*s.slot:=(Int.ediv_lt_iff_lt_mul pd).1 (by omega)
   have a3:t / s.slot+(r:Int) < s.slots:=by
    by_cases h:t / s.slot+(r:Int) < s.slots
    ·exact h
    ·exfalso
     have:=Int.mul_le_mul_of_nonneg_right (show s.slots≤t / s.slot+(r:Int) by omega) (show 0≤s.slot by omega)
     omega
   exact ⟨t / s.slot+(r:Int),by omega,⟨by omega,a2⟩,(Xh _ _).2 ⟨c,by omega,h1,e⟩⟩
 obtain ⟨k,hk⟩:=ahy (s:=s) pc hx0 hx1
 have hne:kr s x layer (t / s.slot) ((u - 1) / s.slot+1 - t / s.slot).toNat≠[]:=List.ne_nil_of_mem (Rh.2 ⟨0,Y3 pd htu,k,hk,rfl⟩)
 have hne':Rj s x layer t u s.slots.toNat 0≠[]:=List.ne_nil_of_mem ((hm _).2 (Rh.2 ⟨0,Y3 pd htu,k,hk,rfl⟩))
 exact uL.antisymm (Y1 hne' fun a ha=>⟨a,(hm a).1 ha,uL.rfl' a⟩) (Y1 hne fun a ha=>⟨a,(hm a).2 ha,uL.rfl' a⟩)
theorem afN (s:lK) (hN:Cm s) (c:Int) (h0:0≤c) (h1:c < s.nx*s.ny):ig.f s.nx s.ny s.cell s.slot s.slots s.layers s.most s.bf s.aC c = some (c % s.nx*s.cell,(c % s.nx+1)*s.cell,c / s.nx*s.cell,(c / s.nx+1)*s.cell):=by
 have pn:0 < s.nx:=by have:=hN.nx;omega
 have hi0:0≤c % s.nx:=Int.emod_nonneg _ (by omega)
 have hi1:c % s.nx < s.nx:=Int.emod_lt_of_pos c pn
 have hr0:0≤c / s.nx:=Int.ediv_nonneg h0 (by omega)
 have hr1:c / s.nx < s.ny:=(Int.ediv_lt_iff_lt_mul (a:=c) (b:=s.ny) pn).2 (by rw [Int.mul_comm];exact h1)
 have n1:=hN.nx;have n2:=hN.ny;have n3:=hN.cell
 obtain ⟨a0,a1⟩:=je (a:=c % s.nx) (b:=s.cell) (m:=12) (n:=65536) (by omega) (by omega) (by omega) (by omega)
 obtain ⟨b0,b1⟩:=je (a:=c % s.nx+1) (b:=s.cell) (m:=12) (n:=65536) (by omega) (by omega) (by omega) (by omega)
 obtain ⟨d0,d1⟩:=je (a:=c / s.nx) (b:=s.cell) (m:=12) (n:=65536) (by omega) (by omega) (by omega) (by omega)
 obtain ⟨e0,e1⟩:=je (a:=c / s.nx+1) (b:=s.cell) (m:=12) (n:=65536) (by omega) (by omega) (by omega) (by omega)
 unfold ig.f
 rw [if_neg (by omega),Int.tmod_eq_emod_of_nonneg h0,Int.tdiv_eq_ediv_of_nonneg h0,fF (x:=c / s.nx) (by omega),fF (x:=c % s.nx+1) (by omega),fF (x:=c / s.nx+1) (by omega),fF (x:=c % s.nx*s.cell) (by omega),fF (x:=(c % s.nx+1)*s.cell) (by omega),fF (x:=c / s.nx*s.cell) (by omega),fF (x:=(c / s.nx+1)*s.cell) (by omega)]
theorem RP (x:iA) (a b c d:Int):fw.f x.f0.f0 x.f0.f1 x.f1.f0 x.f1.f1 a b c d = some ((decide (x.f0.f0≤b) && decide (a≤x.f0.f1)) && (decide (x.f1.f0≤d) && decide (c≤x.f1.f1))):=by
 unfold fw.f iC.f
 by_cases h1:x.f0.f0≤b <;> by_cases h2:a≤x.f0.f1 <;> by_cases h3:x.f1.f0≤d <;> simp [h1,h2,h3]
theorem acI (l:List iA) (y:iA):(!(l++[y]).isEmpty) = true:=by cases l <;> rfl
theorem anG (l:List iA) (y:iA):mo (l++[y]) = if (!l.isEmpty) = true then AL (mo l) y else y:=by
 unfold mo
 cases hl:l with
 |nil=>rfl
 |cons a r =>
  obtain ⟨z,e,_⟩:=acH (l:=a :: r) (by simp)
  rw [MR,e];rfl
theorem Rk (s:lK) (x:iA) (layer t u j:Int) (hN:Cm s) (hcu:(s.aC.length:Int) = s.slots*s.layers*(s.nx*s.ny)) (hl0:0≤layer) (hl1:layer < s.layers) (hj0:0≤j) (hj1:j < s.slots):∀ (m:Nat) (c:Int) (k:Nat) (l:List iA),0≤c→c+(m:Int) = s.nx*s.ny→
 aZ.l1 (m+1+k) layer t u (!l.isEmpty) j c s.nx s.ny s.cell s.slot s.slots s.layers s.most s.bf s.aC x.f0.f0 x.f0.f1 x.f1.f0 x.f1.f1 (mo l).f0.f0 (mo l).f0.f1 (mo l).f1.f0 (mo l).f1.f1
  = aZ.l0 k layer t u (!(l++Ri s x layer j m c).isEmpty) (j+1) s.nx s.ny s.cell s.slot s.slots s.layers s.most s.bf s.aC x.f0.f0 x.f0.f1 x.f1.f0 x.f1.f1 (mo (l++Ri s x layer j m c)).f0.f0 (mo (l++Ri s x layer j m c)).f0.f1 (mo (l++Ri s x layer j m c)).f1.f0 (mo (l++Ri s x layer j m c)).f1.f1
 |0,c,k,l,h0,h=>by
  have n1:=hN.nx;have n2:=hN.ny;have n5:=hN.slots
  obtain ⟨p0,p1⟩:=je (a:=s.nx) (b:=s.ny) (m:=12) (n:=12) (by omega) (by omega) (by omega) (by omega)
  rw [show 0+1+k = k+1 from by omega,aZ.l1,fF (x:=s.nx*s.ny) (by omega),if_neg (by omega),fF (x:=j+1) (by omega),Ri,List.append_nil]
 |m+1,c,k,l,h0,h=>by
  have n1:=hN.nx;have n2:=hN.ny;have n5:=hN.slots;have n6:=hN.layers
  obtain ⟨p0,p1⟩:=je (a:=s.nx) (b:=s.ny) (m:=12) (n:=12) (by omega) (by omega) (by omega) (by omega)
  obtain ⟨i0,i1⟩:=adH (q:=j) (l:=layer) (k:=s.nx*s.ny) (c:=c) (ll:=s.slots) (kk:=s.layers) hj0 hj1 hl0 hl1 h0 (by omega)
  obtain ⟨a0,a1⟩:=je (a:=j) (b:=s.layers) (m:=16) (n:=3) (by omega) (by omega) (by omega) (by omega)
  obtain ⟨b0,b1⟩:=je (a:=j*s.layers+layer) (b:=s.nx) (m:=51) (n:=12) (by omega) (by omega) (by omega) (by omega)
  obtain ⟨d0,d1⟩:=je (a:=(j*s.layers+layer)*s.nx) (b:=s.ny) (m:=612) (n:=12) (by omega) (by omega) (by omega) (by omega)
  have hidx:an (an (an (an (an (j*s.layers)+layer)*s.nx)*s.ny)+c) = (j*s.layers+layer)*(s.nx*s.ny)+c:=by
   rw [fF (x:=j*s.layers) (by omega),fF (x:=j*s.layers+layer) (by omega),fF (x:=(j*s.layers+layer)*s.nx) (by omega),fF (x:=(j*s.layers+layer)*s.nx*s.ny) (by omega),Int.mul_assoc (j*s.layers+layer) s.nx s.ny]
   rw [Int.mul_assoc] at d0 d1
   exact fF (by omega)
  rw [show m+1+1+k = (m+1+k)+1 from by omega,aZ.l1,fF (x:=s.nx*s.ny) (by omega),if_pos (by omega),afN s hN c h0 (by omega),aE,RP,aE,hidx,fF (x:=c+1) (by omega)]
  have et:((decide (x.f0.f0≤(c % s.nx+1)*s.cell) && decide (c % s.nx*s.cell≤x.f0.f1)) && (decide (x.f1.f0≤(c / s.nx+1)*s.cell) && decide (c / s.nx*s.cell≤x.f1.f1))) = xQ s x c:=rfl
  rw [et,Ri]
  by_cases ht:xQ s x c = true
  ·rw [if_pos ht,if_pos ht,if_pos i0,if_pos (by omega),← List.append_assoc]
   have ih:=Rk s x layer t u j hN hcu hl0 hl1 hj0 hj1 m (c+1) k (l++[AA s layer j c]) (by omega) (by omega)
   rw [← ih,acI,anG]
   by_cases he:(!l.isEmpty) = true
   ·rw [if_pos he,if_pos he]
    unfold fP.f
    rw [aE,aE,NY,Ez,NY,Ez]
    rfl
   ·rw [if_neg he,if_neg he]
    rfl
  ·rw [if_neg ht,if_neg ht,List.nil_append]
   exact Rk s x layer t u j hN hcu hl0 hl1 hj0 hj1 m (c+1) k l (by omega) (by omega)
theorem Y4 (s:lK) (x:iA) (layer t u:Int) (hN:Cm s) (hcu:(s.aC.length:Int) = s.slots*s.layers*(s.nx*s.ny)) (hl0:0≤layer) (hl1:layer < s.layers):∀ (q:Nat) (j:Int) (k:Nat) (l:List iA),0≤j→j+(q:Int) = s.slots→q*147+1≤k→
 aZ.l0 k layer t u (!l.isEmpty) j s.nx s.ny s.cell s.slot s.slots s.layers s.most s.bf s.aC x.f0.f0 x.f0.f1 x.f1.f0 x.f1.f1 (mo l).f0.f0 (mo l).f0.f1 (mo l).f1.f0 (mo l).f1.f1
  = some ((mo (l++Rj s x layer t u q j)).f0.f0,(mo (l++Rj s x layer t u q j)).f0.f1,(mo (l++Rj s x layer t u q j)).f1.f0,(mo (l++Rj s x layer t u q j)).f1.f1)
 |0,j,k+1,l,h0,h,hk=>by
  rw [aZ.l0,if_neg (by omega),Rj,List.append_nil]
 |q+1,j,k+1,l,h0,h,hk=>by
  obtain ⟨k,rfl⟩:∃ z,k = z+1:=⟨k - 1,by omega⟩
  have n1:=hN.nx;have n2:=hN.ny;have n5:=hN.slots;have n4:=hN.slot
  obtain ⟨p0,p1⟩:=je (a:=s.nx) (b:=s.ny) (m:=12) (n:=12) (by omega) (by omega) (by omega) (by omega)
  obtain ⟨a0,a1⟩:=je (a:=j) (b:=s.slot) (m:=16) (n:=1048576) (by omega) (by omega) (by omega) (by omega)
  obtain ⟨b0,b1⟩:=je (a:=j+1) (b:=s.slot) (m:=17) (n:=1048576) (by omega) (by omega) (by omega) (by omega)
  rw [aZ.l0,if_pos (by omega),fF (x:=j*s.slot) (by omega),fF (x:=j+1) (by omega),fF (x:=(j+1)*s.slot) (by omega),Rj]
  have ih:=fun k l=>Y4 s x layer t u hN hcu hl0 hl1 q (j+1) k l (by omega) (by omega)
  by_cases h1:j*s.slot ≥ u
  ·rw [if_pos h1,if_pos (Or.inl h1),aZ.j1,if_pos rfl,fF (x:=j+1) (by omega),List.nil_append]
   exact ih k l (by omega)
  ·rw [if_neg h1]
   by_cases h2:(j+1)*s.slot≤t
   ·rw [decide_eq_true h2,if_pos (Or.inr h2),aZ.j1,if_pos rfl,fF (x:=j+1) (by omega),List.nil_append]
    exact ih k l (by omega)
   ·rw [decide_eq_false h2,if_neg (by omega),aZ.j1,if_neg (by decide),← List.append_assoc]
    obtain ⟨k2,e⟩:∃ z,k = (s.nx*s.ny).toNat+1+z:=⟨k - (s.nx*s.ny).toNat - 1,by omega⟩
    rw [e,Rk s x layer t u j hN hcu hl0 hl1 h0 (by omega) (s.nx*s.ny).toNat 0 k2 l (Int.le_refl _) (by omega)]
    exact ih k2 _ (by omega)
theorem PL (l:List gU) (layers:Int) (hl:l.length≤64):∀ (m i K:Nat),i+m = l.length→m+1≤K→bQ.l0 K l layers (i:Int) = some (if (l.drop i).all (FH layers) then 0 else 2)
 |0,i,K+1,h,hk=>by
  rw [bQ.l0,if_neg (by omega),List.drop_eq_nil_of_le (by omega)];rfl
 |m+1,i,K+1,h,hk=>by
  have hi:i < l.length:=by omega
  have ih:=PL l layers hl m (i+1) K (by omega) (by omega)
  have e:bX l (i:Int) = l[i]:=by
   unfold bX
   simp [hi]
  rw [bQ.l0,if_pos (by omega),if_pos (by omega),fF (x:=(i:Int)+1) (by omega),show (i:Int)+1 = ((i+1:Nat):Int) from by omega,ih,e,List.drop_eq_getElem_cons hi,List.all_cons]
  generalize l[i] = c
  generalize (List.drop (i+1) l).all (FH layers) = b
  unfold FH nU
  by_cases h1:c.f0 < 0
  ·rw [if_pos h1,decide_eq_false (show ¬(0≤c.f0) by omega)];rfl
  rw [if_neg h1,decide_eq_true (show 0≤c.f0 by omega)]
  by_cases h2:c.f0 > 8
  ·rw [if_pos h2,decide_eq_false (show ¬(c.f0≤8) by omega)];rfl
  rw [if_neg h2,decide_eq_true (show c.f0≤8 by omega)]
  by_cases h3:c.f1 < 0
  ·rw [if_pos h3,decide_eq_false (show ¬(0≤c.f1) by omega)];rfl
  rw [if_neg h3,decide_eq_true (show 0≤c.f1 by omega)]
  by_cases h4:layers ≥ 0
  ·rw [if_pos h4,decide_eq_false (show ¬(layers < 0) by omega)]
   by_cases h5:c.f1 ≥ layers
   ·rw [if_pos h5,decide_eq_false (show ¬(c.f1 < layers) by omega)];rfl
   ·rw [if_neg h5,decide_eq_true (show c.f1 < layers by omega)];rfl
  ·rw [if_neg h4,decide_eq_true (show layers < 0 by omega)];rfl
theorem azg (l:List gU) (layers:Int) (K:Nat) (hk:66≤K):bQ.f K l layers = some (Ct l layers):=by
 unfold bQ.f Ct
 by_cases h:l.length > 64
 ·rw [if_pos (by omega),if_pos h]
 ·rw [if_neg (by omega),if_neg h]
  have:=PL l layers (by omega) l.length 0 K (by omega) (by omega)
  rw [List.drop_zero] at this
  exact this
end Go.Proofs.Ytmhaiihjfgfaoaa.Gl
end
section
namespace Go.Proofs.Ytmhaiihjfgfaoaa.Pr
open Go.RowKit Go.Proofs.YtmhaiihjfgfaoaaW.bu Go.Proofs.YtmhaiihjfgfaoaaW.dB Go.Proofs.YtmhaiihjfgfaoaaW.ek
attribute [local go_sem] iq iw jq jr iy
attribute [local go_sem high] azD
def oM.l0:Nat→List (iA)→List (iA)→Int→Option (Bool)
 |0,_,_,_=>none
 |k+1,x0,x1,x5=>if x5 < (x0.length:Int) then (if 0≤x5 then (if x5 < (x1.length:Int) then (if ((!(((gM x0 x5).f0.f0) == ((gM x1 x5).f0.f0)) || (!(((gM x0 x5).f0.f1) == ((gM x1 x5).f0.f1)))) || ((!(((gM x0 x5).f1.f0) == ((gM x1 x5).f1.f0)) || (!(((gM x0 x5).f1.f1) == ((gM x1 x5).f1.f1)))))) = true then (some false) else (oM.l0 k x0 x1 (an (x5+1)))) else (none)) else (none)) else (some true)
end Go.Proofs.Ytmhaiihjfgfaoaa.Pr
end
