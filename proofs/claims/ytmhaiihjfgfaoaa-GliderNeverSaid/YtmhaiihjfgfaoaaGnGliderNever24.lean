import Derived.Test.YtmhaiihjfgfaoaaGnGliderNever3
import Derived.Test.YtmhaiihjfgfaoaaGnGliderNever23
import Derived.Test.YtmhaiihjfgfaoaaGnGliderNever20
set_option linter.unusedSimpArgs false
set_option linter.unusedVariables false
open Go.Value renaming int → Z
open Go.IntKind renaming i64 → ab
open Bool renaming true → ac, false → al
section
namespace Go.Proofs.Ytmhaiihjfgfaoaa.Gl
open Go.RowKit Go.Shelf Go.Proofs.YtmhaiihjfgfaoaaW.PrintWords Go.Proofs.YtmhaiihjfgfaoaaW.PrintLast Go.Proofs.YtmhaiihjfgfaoaaW.PrintMore Go.Proofs.Ytmhaiihjfgfaoaa.Pr Go.Proofs.YtmhaiihjfgfaoaaW.Round
set_option linter.unusedVariables false
set_option linter.unusedSimpArgs false
attribute [local go_sem] dw dx dM dN dz
attribute [local go_sem] Oper.semAt_some
def qf (w:World) (gL gB:Nat) (row:Option Nat) (A B:World):Prop:=Below w.heap.size A B∧∀ k,k < A.heap.size→k≠gL→k≠gB→some k≠row→B.heap[k]? = A.heap[k]?
theorem qf.of_below {w:World} {gL gB:Nat} {row:Option Nat} {A B:World} (h:w.heap.size≤A.heap.size) (hb:Below A.heap.size A B):qf w gL gB row A B:=⟨hb.mono h,fun k hk _ _ _=>hb.block k hk⟩
theorem qf.trans {w:World} {gL gB:Nat} {row:Option Nat} {A B C:World} (h:qf w gL gB row A B) (k:qf w gL gB row B C):qf w gL gB row A C :=
 ⟨h.1.trans k.1,fun j hj h1 h2 h3=>(k.2 j (Nat.lt_of_lt_of_le hj h.1.size) h1 h2 h3).trans (h.2 j hj h1 h2 h3)⟩
theorem qf.then {w:World} {gL gB:Nat} {row row':Option Nat} {A B C:World} (h:qf w gL gB row A B) (k:qf w gL gB row' B C) (hr:row' = row∨∃ b,row' = some b∧A.heap.size≤b):qf w gL gB row A C :=
 ⟨h.1.trans k.1,fun j hj h1 h2 h3=>(k.2 j (Nat.lt_of_lt_of_le hj h.1.size) h1 h2 (by
  rcases hr with rfl|⟨b,rfl,hb⟩
  ·exact h3
  ·intro e;injection e with e;omega)).trans (h.2 j hj h1 h2 h3)⟩
theorem qf.step {w:World} {gL gB:Nat} {row:Option Nat} {A B C:World} (h:qf w gL gB row A B) (hw:w.heap.size≤B.heap.size) (hb:Below B.heap.size B C):qf w gL gB row A C:=h.trans (qf.of_below hw hb)
theorem qf.set {w:World} {gL gB:Nat} {row:Option Nat} {A B:World} (h:qf w gL gB row A B) {q:Addr} (hq:w.heap.size≤q.block) (h1:q.block = gL∨q.block = gB) (u:Value):qf w gL gB row A (B.setCell q u) :=
 ⟨h.1.setCell hq u,fun k hk n1 n2 n3=>(Below.heap_setCell B q u k (fun e=>by subst e;rcases h1 with h1|h1 <;> omega)).trans (h.2 k hk n1 n2 n3)⟩
theorem qf.putObj {w:World} {gL gB:Nat} {row:Option Nat} {A B:World} (h:qf w gL gB row A B) (hw:w.heap.size≤A.heap.size) {l:Nat} {ob:Obj} (ob':Obj) (hl:A.heap.size≤l) (hq:B.heap[l]? = some ob) (h1:ob.isCells = false) (h2:ob.isWalk = false):qf w gL gB row A (B.putObj l ob') :=
 ⟨h.1.trans (belowK_b hw B l ob ob' hl hq h1 h2),fun k hk n1 n2 n3=>(World.putObj_heap_other (by omega)).trans (h.2 k hk n1 n2 n3)⟩
theorem qf.alJ {w:World} {gL gB:Nat} {row:Option Nat} {A:World} {B:Nat} {β:Type} (hw:w.heap.size≤A.heap.size) (hA:A.heap.size≤B):OwnFrom B (fun (_:β) W=>qf w gL gB row A W):=fun f X Y r hs hg hr =>
 ⟨ownFrom_below hw (Nat.le_trans hw hA) f X Y r hs.1 hg hr,fun k hk n1 n2 n3=>(hg.block k (Nat.lt_of_lt_of_le hk hs.1.size) (fun e=>by have:=(hr k e.symm).1;omega)).trans (hs.2 k hk n1 n2 n3)⟩
theorem aZ.jJ {w:World} {gL gB:Nat} {row:Option Nat} {A B:World} (h:qf w gL gB row A B) {k:Nat} {cs:Array Value} {t:TypeId} (hb:aZ A k cs t) (h1:k≠gL) (h2:k≠gB) (h3:some k≠row):aZ B k cs t:=(h.2 k (aD hb) h1 h2 h3).trans hb
theorem fH {W:World} {a b:Nat} {c c':Array Value} {t t':TypeId} (h:aZ W a c t) (h':aZ W b c' t') (ht:t≠t'):a≠b:=by
 rintro rfl
 have e:=h.symm.trans h'
 injection e with e
 injection e with _ e
 exact ht e
theorem bN.Qy {X Y:World} {base B:Nat} {u:Value} {l:List eQ} {row:Option Nat} (h:bN X base u l) (hg:X.grownBy Y row) (hr:∀ r,row = some r→B≤r∧∃ o:Obj,X.heap[r]? = some o∧o.isCells = false):bN Y base u l :=
 h.move (fun k hk=>hg.block k (h.lt k hk).2 (fun e=>by
  obtain ⟨_,ob,h1,h2⟩:=hr k e.symm
  obtain ⟨cells,h3⟩:=yj h k hk
  rw [h3] at h1
  cases h1
  cases h2))
theorem bN.jJ {w:World} {gL gB:Nat} {row:Option Nat} {A B:World} {base:Nat} {u:Value} {l:List eQ} (h:qf w gL gB row A B) (hc:bN A base u l) (h1:some gL≠u.ownBlock) (h2:some gB≠u.ownBlock) (h3:∀ k,u.ownBlock = some k→some k≠row):bN B base u l :=
 hc.move (fun k hk=>h.2 k (hc.lt k hk).2 (fun e=>h1 (by rw [hk,e])) (fun e=>h2 (by rw [hk,e])) (h3 k hk))
theorem bN.far {W:World} {base:Nat} {u:Value} {l:List eQ} (h:bN W base u l) {q:Addr} (hq:some q.block≠u.ownBlock) (x:Value):bN (W.setCell q x) base u l:=h.move (fun k hk=>Below.heap_setCell W q x k (fun e=>hq (by rw [hk,e])))
theorem bN.putObj {W:World} {base:Nat} {u:Value} {l:List eQ} (h:bN W base u l) {j:Nat} {ob:Obj} (ob':Obj) (hq:W.heap[j]? = some ob) (h1:ob.isCells = false):bN (W.putObj j ob') base u l:=h.move (fun k hk=>World.putObj_heap_other (fun e=>by
 obtain ⟨cells,h3⟩:=yj h k hk
 subst e
 rw [h3] at hq
 cases hq
 cases h1))
def agf (w:World) (s:fT) (v:iw) (p:xz) (g gX gV gK gG gL gB:Nat) (B7 B8:Option Addr) (d7 d8:Nat) (W:World):Prop:=Below w.heap.size w W∧aZ W g #[Z ab s.nx,Z ab s.ny,Z ab s.cell,Z ab s.slot,Z ab s.slots,Z ab s.layers,Z ab s.most,.slice B7 s.shores.length d7,.slice B8 s.currents.length d8,Z ab v.speed,Z ab v.dive,Z ab v.use.f0,Z ab v.use.f1,Z ab v.drift.f0,Z ab v.drift.f1,Z ab v.reserve] 110∧aZ W gX #[.pointer (some ⟨g,0,none⟩)] 104∧aZ W gV #[Z ab v.speed,Z ab v.dive,Z ab v.use.f0,Z ab v.use.f1,Z ab v.drift.f0,Z ab v.drift.f1,Z ab v.reserve] 29∧aZ W gK #[Z ab p.f0.f0.f0,Z ab p.f0.f0.f1,Z ab p.f0.f1.f0,Z ab p.f0.f1.f1,Z ab p.f1,Z ab p.f2] 81∧aZ W gG #[.func (.func 107) #[] #[.pointer (some ⟨gL,0,none⟩),.pointer (some ⟨gB,0,none⟩),.pointer (some ⟨gX,0,none⟩),.pointer (some ⟨gV,0,none⟩),.pointer (some ⟨gK,0,none⟩),.pointer (some ⟨gG,0,none⟩)]] 141
def vD (w:World) (gL gB:Nat) (bv:Value) (R:List eQ × Int) (W:World):Prop:=aZ W gL #[Z ab R.2] 2∧aZ W gB #[bv] 49∧bN W w.heap.size bv R.1
def jL (w:World) (gL gB:Nat) (R:List eQ × Int) (plan:List eQ) (pv bv:Value) (V W:World):Prop :=
 qf w gL gB pv.ownBlock V W∧bN W w.heap.size pv plan∧∃ bv',vD w gL gB bv' R W∧∀ k,bv'.ownBlock = some k→bv.ownBlock = some k∨V.heap.size≤k
def G5 (w:World) (gL gB:Nat) (R:List eQ × Int) (plan:List eQ) (pv bv:Value) (V:World) (e:Ending) (W:World):Prop:=(∃ r,e = .returned r)∧jL w gL gB R plan pv bv V W
theorem jL.putObj {w:World} {gL gB:Nat} {R:List eQ × Int} {plan:List eQ} {pv bv:Value} {V W:World} (hw:w.heap.size≤V.heap.size) (h:jL w gL gB R plan pv bv V W) {l:Nat} (hl:V.heap.size≤l) (hq:W.heap[l]? = some (.deferred (some []))):jL w gL gB R plan pv bv V (W.putObj l (.deferred none)):=by
 obtain ⟨h1,h2,bv',⟨h3,h4,h5⟩,h6⟩:=h
 have hne:∀ {k:Nat} {cs:Array Value} {t:TypeId},aZ W k cs t→aZ (W.putObj l (.deferred none)) k cs t:=fun {k cs t} hb=>(World.putObj_heap_other (by
  rintro rfl
  rw [show W.heap[_]? = _ from hb] at hq
  cases hq)).trans hb
 exact ⟨h1.putObj hw _ hl hq rfl rfl,h2.putObj _ hq rfl,bv',⟨hne h3,hne h4,h5.putObj _ hq rfl⟩,h6⟩
set_option maxRecDepth 100000 in
set_option maxHeartbeats 16000000 in
theorem agh (w:World) (s:fT) (v:iw) (p:xz) (g gX gV gK gG gL gB:Nat) (B7 B8:Option Addr) (d7 d8:Nat) (hGL:w.heap.size≤gL) (hGB:w.heap.size≤gB) (x:cZ) (t left cost m:Int) (plan:List eQ) (there:Bool) (st:List eQ × Int) (Ap:Option Addr) (cp:Nat) (bv:Value) (V:World) (hm:m = 0) (hpl:0 < plan.length∧plan.length≤64)
 (hE:agf w s v p g gX gV gK gG gL gB B7 B8 d7 d8 V) (hA:vD w gL gB bv st V) (hP:bN V w.heap.size (Value.slice Ap plan.length cp) plan):
 Calls Try.prog 107 #[.agg #[Z ab x.f0.f0,Z ab x.f0.f1,Z ab x.f1.f0,Z ab x.f1.f1],Z ab t,Z ab left,Z ab cost,(Value.slice Ap plan.length cp),.bool there,Z ab m,.pointer (some ⟨gL,0,none⟩),.pointer (some ⟨gB,0,none⟩),.pointer (some ⟨gX,0,none⟩),.pointer (some ⟨gV,0,none⟩),.pointer (some ⟨gK,0,none⟩),.pointer (some ⟨gG,0,none⟩)] V (G5 w gL gB (sK s v p 0 x t left cost plan there st) plan (Value.slice Ap plan.length cp) bv V):=by
 have HR:Hid (sK s v p 0 x t left cost plan there st = if there = true∧(st.2 < 0∨cost < st.2) then (plan,cost) else st):=Lib.hid rfl
 generalize sK s v p 0 x t left cost plan there st = RR at*
 subst hm
 have hmx:Try.prog.follows .mixedOrders = true:=by kernel_rfl
 obtain ⟨mB,mT,mX,mV,mK,mG⟩:=hE
 obtain ⟨mL,mBe,HC⟩:=hA
 have hsV:w.heap.size≤V.heap.size:=mB.size
 have hLB:gL≠gB:=fH mL mBe (by decide)
 clear mT mX mV mK mG
 go_enter Try.func107,Try.ntmps107
 go_wp2_with fail
 have aie:w.heap.size≤V.heap.size:=mB.size
 have hgrL:=bN.ne HC mL (by decide)
 have hgrB:=bN.ne HC mBe (by decide)
 have hpL:=bN.ne hP mL (by decide)
 have hpB:=bN.ne hP mBe (by decide)
 have hb0:=(ai (ai (ai (ai (ai (ai (ai (Below.refl V.heap.size V) (.cells #[Z ab x.f0.f0,Z ab x.f0.f1,Z ab x.f1.f0,Z ab x.f1.f1] 31)) (.cells #[Z ab t] 2)) (.cells #[Z ab left] 2)) (.cells #[Z ab cost] 2)) (.cells #[(Value.slice Ap plan.length cp)] 49)) (.cells #[.bool there] 4)) (.cells #[Z ab 0] 3))
 have hVW:=hb0.size
 have HP:=bN.below hP hb0
 replace HC:=bN.below HC hb0
 have hKp:qf w gL gB (Value.slice Ap plan.length cp).ownBlock V _:=qf.of_below aie hb0
 clear hb0 hP
 have Vo:=aD mL
 have G6:=aD mBe
 have m13:aZ (((((((V.alloc (.cells #[Z ab x.f0.f0,Z ab x.f0.f1,Z ab x.f1.f0,Z ab x.f1.f1] 31)).alloc (.cells #[Z ab t] 2)).alloc (.cells #[Z ab left] 2)).alloc (.cells #[Z ab cost] 2)).alloc (.cells #[(Value.slice Ap plan.length cp)] 49)).alloc (.cells #[.bool there] 4)).alloc (.cells #[Z ab 0] 3)) (V.heap.size) #[Z ab x.f0.f0,Z ab x.f0.f1,Z ab x.f1.f0,Z ab x.f1.f1] 31:=(aa (aa (aa (aa (aa (aa asw _) _) _) _) _) _)
 have m14:aZ (((((((V.alloc (.cells #[Z ab x.f0.f0,Z ab x.f0.f1,Z ab x.f1.f0,Z ab x.f1.f1] 31)).alloc (.cells #[Z ab t] 2)).alloc (.cells #[Z ab left] 2)).alloc (.cells #[Z ab cost] 2)).alloc (.cells #[(Value.slice Ap plan.length cp)] 49)).alloc (.cells #[.bool there] 4)).alloc (.cells #[Z ab 0] 3)) (V.heap.size+1) #[Z ab t] 2:=(aa (aa (aa (aa (aa asx _) _) _) _) _)
 have m15:aZ (((((((V.alloc (.cells #[Z ab x.f0.f0,Z ab x.f0.f1,Z ab x.f1.f0,Z ab x.f1.f1] 31)).alloc (.cells #[Z ab t] 2)).alloc (.cells #[Z ab left] 2)).alloc (.cells #[Z ab cost] 2)).alloc (.cells #[(Value.slice Ap plan.length cp)] 49)).alloc (.cells #[.bool there] 4)).alloc (.cells #[Z ab 0] 3)) (V.heap.size+1+1) #[Z ab left] 2:=(aa (aa (aa (aa asy _) _) _) _)
 have m16:aZ (((((((V.alloc (.cells #[Z ab x.f0.f0,Z ab x.f0.f1,Z ab x.f1.f0,Z ab x.f1.f1] 31)).alloc (.cells #[Z ab t] 2)).alloc (.cells #[Z ab left] 2)).alloc (.cells #[Z ab cost] 2)).alloc (.cells #[(Value.slice Ap plan.length cp)] 49)).alloc (.cells #[.bool there] 4)).alloc (.cells #[Z ab 0] 3)) (V.heap.size+1+1+1) #[Z ab cost] 2:=(aa (aa (aa asz _) _) _)
 have m17:aZ (((((((V.alloc (.cells #[Z ab x.f0.f0,Z ab x.f0.f1,Z ab x.f1.f0,Z ab x.f1.f1] 31)).alloc (.cells #[Z ab t] 2)).alloc (.cells #[Z ab left] 2)).alloc (.cells #[Z ab cost] 2)).alloc (.cells #[(Value.slice Ap plan.length cp)] 49)).alloc (.cells #[.bool there] 4)).alloc (.cells #[Z ab 0] 3)) (V.heap.size+1+1+1+1) #[(Value.slice Ap plan.length cp)] 49:=(aa (aa asA _) _)
 have m18:aZ (((((((V.alloc (.cells #[Z ab x.f0.f0,Z ab x.f0.f1,Z ab x.f1.f0,Z ab x.f1.f1] 31)).alloc (.cells #[Z ab t] 2)).alloc (.cells #[Z ab left] 2)).alloc (.cells #[Z ab cost] 2)).alloc (.cells #[(Value.slice Ap plan.length cp)] 49)).alloc (.cells #[.bool there] 4)).alloc (.cells #[Z ab 0] 3)) (V.heap.size+1+1+1+1+1) #[.bool there] 4:=(aa asB _)
 have m19:aZ (((((((V.alloc (.cells #[Z ab x.f0.f0,Z ab x.f0.f1,Z ab x.f1.f0,Z ab x.f1.f1] 31)).alloc (.cells #[Z ab t] 2)).alloc (.cells #[Z ab left] 2)).alloc (.cells #[Z ab cost] 2)).alloc (.cells #[(Value.slice Ap plan.length cp)] 49)).alloc (.cells #[.bool there] 4)).alloc (.cells #[Z ab 0] 3)) (V.heap.size+1+1+1+1+1+1) #[Z ab 0] 3:=(by have h_:=bB ((((((V.alloc (.cells #[Z ab x.f0.f0,Z ab x.f0.f1,Z ab x.f1.f0,Z ab x.f1.f1] 31)).alloc (.cells #[Z ab t] 2)).alloc (.cells #[Z ab left] 2)).alloc (.cells #[Z ab cost] 2)).alloc (.cells #[(Value.slice Ap plan.length cp)] 49)).alloc (.cells #[.bool there] 4)) (.cells #[Z ab 0] 3);first|exact h_|(simp only [World.size_alloc] at h_;exact h_))
 replace mL:aZ (((((((V.alloc (.cells #[Z ab x.f0.f0,Z ab x.f0.f1,Z ab x.f1.f0,Z ab x.f1.f1] 31)).alloc (.cells #[Z ab t] 2)).alloc (.cells #[Z ab left] 2)).alloc (.cells #[Z ab cost] 2)).alloc (.cells #[(Value.slice Ap plan.length cp)] 49)).alloc (.cells #[.bool there] 4)).alloc (.cells #[Z ab 0] 3)) gL #[Z ab st.2] 2:=(aa (aa (aa (aa (aa (aa (aa mL _) _) _) _) _) _) _)
 replace mBe:aZ (((((((V.alloc (.cells #[Z ab x.f0.f0,Z ab x.f0.f1,Z ab x.f1.f0,Z ab x.f1.f1] 31)).alloc (.cells #[Z ab t] 2)).alloc (.cells #[Z ab left] 2)).alloc (.cells #[Z ab cost] 2)).alloc (.cells #[(Value.slice Ap plan.length cp)] 49)).alloc (.cells #[.bool there] 4)).alloc (.cells #[Z ab 0] 3)) gB #[bv] 49:=(aa (aa (aa (aa (aa (aa (aa mBe _) _) _) _) _) _) _)
 replace mB:Below w.heap.size w (((((((V.alloc (.cells #[Z ab x.f0.f0,Z ab x.f0.f1,Z ab x.f1.f0,Z ab x.f1.f1] 31)).alloc (.cells #[Z ab t] 2)).alloc (.cells #[Z ab left] 2)).alloc (.cells #[Z ab cost] 2)).alloc (.cells #[(Value.slice Ap plan.length cp)] 49)).alloc (.cells #[.bool there] 4)).alloc (.cells #[Z ab 0] 3)):=(ai (ai (ai (ai (ai (ai (ai mB _) _) _) _) _) _) _)
 have dU:w.heap.size≤V.heap.size:=aie
 generalize jq:(((((((V.alloc (.cells #[Z ab x.f0.f0,Z ab x.f0.f1,Z ab x.f1.f0,Z ab x.f1.f1] 31)).alloc (.cells #[Z ab t] 2)).alloc (.cells #[Z ab left] 2)).alloc (.cells #[Z ab cost] 2)).alloc (.cells #[(Value.slice Ap plan.length cp)] 49)).alloc (.cells #[.bool there] 4)).alloc (.cells #[Z ab 0] 3)) = W1 at mL mBe m13 m14 m15 m16 m17 m18 m19 mB HP HC hKp hVW ⊢
 clear jq
 generalize Us:V.heap.size = g13 at m13 m14 m15 m16 m17 m18 m19 ⊢
 have xB:gL≠g13:=by omega
 have sN:gB≠g13:=by omega
 have G7:g13≠gL:=xB.symm
 have CR:g13≠gB:=sN.symm
 have Kk:w.heap.size≤g13:=by omega
 generalize Tv:g13+1 = g14 at m14 m15 m16 m17 m18 m19 ⊢
 have xC:gL≠g14:=by omega
 have sO:gB≠g14:=by omega
 have sP:g13≠g14:=by omega
 have Eo:g14≠gL:=xC.symm
 have CS:g14≠gB:=sO.symm
 have yT:g14≠g13:=sP.symm
 have afO:w.heap.size≤g14:=by omega
 generalize apL:g14+1 = g15 at m15 m16 m17 m18 m19 ⊢
 have xD:gL≠g15:=by omega
 have sQ:gB≠g15:=by omega
 have sS:g13≠g15:=by omega
 have sU:g14≠g15:=by omega
 have Ep:g15≠gL:=xD.symm
 have CU:g15≠gB:=sQ.symm
 have yU:g15≠g13:=sS.symm
 have yV:g15≠g14:=sU.symm
 have asC:w.heap.size≤g15:=by omega
 generalize abp:g15+1 = g16 at m16 m17 m18 m19 ⊢
 have xE:gL≠g16:=by omega
 have sV:gB≠g16:=by omega
 have sW:g13≠g16:=by omega
 have gN:g14≠g16:=by omega
 have sZ:g15≠g16:=by omega
 have Er:g16≠gL:=xE.symm
 have vE:g16≠gB:=sV.symm
 have yX:g16≠g13:=sW.symm
 have jV:g16≠g14:=gN.symm
 have yY:g16≠g15:=sZ.symm
 have Lr:w.heap.size≤g16:=by omega
 generalize abH:g16+1 = g17 at m17 m18 m19 ⊢
 have xG:gL≠g17:=by omega
 have tq:gB≠g17:=by omega
 have tu:g13≠g17:=by omega
 have oG:g14≠g17:=by omega
 have tC:g15≠g17:=by omega
 have oH:g16≠g17:=by omega
 have G8:g17≠gL:=xG.symm
 have tF:g17≠gB:=tq.symm
 have yZ:g17≠g13:=tu.symm
 have ng:g17≠g14:=oG.symm
 have za:g17≠g15:=tC.symm
 have sI:g17≠g16:=oH.symm
 have als:w.heap.size≤g17:=by omega
 generalize apM:g17+1 = g18 at m18 m19 ⊢
 have xH:gL≠g18:=by omega
 have tH:gB≠g18:=by omega
 have tJ:g13≠g18:=by omega
 have tK:g14≠g18:=by omega
 have tL:g15≠g18:=by omega
 have tN:g16≠g18:=by omega
 have tO:g17≠g18:=by omega
 have G9:g18≠gL:=xH.symm
 have CV:g18≠gB:=tH.symm
 have zb:g18≠g13:=tJ.symm
 have ze:g18≠g14:=tK.symm
 have zf:g18≠g15:=tL.symm
 have zg:g18≠g16:=tN.symm
 have zh:g18≠g17:=tO.symm
 have asD:w.heap.size≤g18:=by omega
 generalize aif:g18+1 = g19 at m19 ⊢
 have xI:gL≠g19:=by omega
 have tQ:gB≠g19:=by omega
 have tT:g13≠g19:=by omega
 have tV:g14≠g19:=by omega
 have tX:g15≠g19:=by omega
 have tY:g16≠g19:=by omega
 have oI:g17≠g19:=by omega
 have tZ:g18≠g19:=by omega
 have Ha:g19≠gL:=xI.symm
 have CW:g19≠gB:=tQ.symm
 have zi:g19≠g13:=tT.symm
 have zk:g19≠g14:=tV.symm
 have zl:g19≠g15:=tX.symm
 have zm:g19≠g16:=tY.symm
 have uf:g19≠g17:=oI.symm
 have zn:g19≠g18:=tZ.symm
 have alK:w.heap.size≤g19:=by omega
 clear dU Vo G6
 try clear aif
 try clear apM
 try clear abH
 try clear abp
 try clear apL
 try clear Tv
 try clear Us
 have lC:w.heap.size≤W1.heap.size:=mB.size
 refine wp_scope_straight ?_
 try clear xB xC xD xE xG xH xI
 try clear sN sO sQ sV tq tH tQ
 try clear sP sS sW tu tJ tT
 try clear yT sU gN oG tK tV
 try clear yU yV sZ tC tL tX
 try clear yX jV yY oH tN tY
 try clear yZ ng za sI tO oI
 try clear zb ze zf zg zh tZ
 try clear zi zk zl zm uf zn
 skip
 have Zd:=(ae m19 0).trans rfl
 have an7:=(ae m18 0).trans rfl
 have aih:=(ae mL 0).trans rfl
 have F4:=(ae m16 0).trans rfl
 by_cases c0:there = true∧(st.2 < 0∨cost < st.2)
 case neg =>
  have HZ:=Lib.hid (HR.out.trans (if_neg c0))
  clear HR
  cases there with
  |false =>
   clear c0
   go_wp2
   refine bodyPost_ret (results_none rfl _ _ _) rfl ?_
   exact ⟨⟨_,rfl⟩,hKp,HP,bv,by rw [HZ.out];exact ⟨mL,mBe,HC⟩,fun k hk=>.inl hk⟩
  |true =>
   have c1:¬ (st.2 < 0∨cost < st.2):=fun h=>c0 ⟨rfl,h⟩
   have c2:decide (st.2 < 0) = false:=decide_eq_false (fun h=>c1 (.inl h))
   have c3:decide (cost < st.2) = false:=decide_eq_false (fun h=>c1 (.inr h))
   clear c0 c1
   go_wp2
   refine bodyPost_ret (results_none rfl _ _ _) rfl ?_
   exact ⟨⟨_,rfl⟩,hKp,HP,bv,by rw [HZ.out];exact ⟨mL,mBe,HC⟩,fun k hk=>.inl hk⟩
 case pos =>
  have HZ:=Lib.hid (HR.out.trans (if_pos c0))
  clear HR
  obtain ⟨rfl,c1⟩:=c0
  by_cases c4:st.2 < 0
  case pos =>
   have c2:decide (st.2 < 0) = true:=decide_eq_true c4
   clear c1 c4
   go_wp2_with fail
   skip
   clear Zd an7 aih F4 m13 m14 m15 m18 m19
   replace mL:=au mL
   replace mBe:=au mBe
   replace m16:=au m16
   replace m17:=au m17
   replace mB:=bf mB
   replace HP:=bN.below HP (bf (Below.refl W1.heap.size W1))
   replace hKp:=qf.step hKp lC (bf (Below.refl W1.heap.size W1))
   clear HC
   replace hVW:V.heap.size≤(World.drew W1).heap.size:=hVW
   refine lh (n:=5) (S:=fun w'=>w'.cell? ⟨g17,0,none⟩ = some ((Value.slice Ap plan.length cp))∧w'.cell? ⟨g16,0,none⟩ = some (Z ab cost)) (ds:=[4]) #[al,al,al,al,al] aT rfl rfl ⟨((ae m17 0).trans rfl),((ae m16 0).trans rfl)⟩ (fun hHeld=>?_)
   generalize hWd:World.drew _ = Wx at mL mBe m16 m17 mB HP hKp hHeld hVW ⊢
   clear hWd
   refine iy (i:=0) (N:=some 38) aT hHeld ?_
   refine iy (i:=2) (N:=some 40) aT hHeld ?_
   refine jC (i:=1) (N:=some 39) #[ac,ac,ac,al,al] rfl rfl aT (by decide) (fun K hK=>?_)
   have eG:=Lb (Value.slice Ap plan.length cp) plan w.heap.size Wx HP hpl.1 hpl.2
   have hwx:w.heap.size≤Wx.heap.size:=mB.size
   have hVx:V.heap.size≤Wx.heap.size:=hVW
   refine jm Try.func108 aT rfl #[(Value.slice Ap plan.length cp)] (by rfl) rfl rfl ET ?_
   with_reducible refine (eG).mono ?_
   rintro e w1 ⟨v1_,rfl,hcl,hb⟩
   refine ⟨_,rfl,?_⟩
   clear eG
   obtain ⟨A1_,c1_,rfl⟩:=hcl.slice
   have hnw:∀ k,(Value.slice A1_ plan.length c1_).ownBlock = some k→V.heap.size≤k:=fun k hk=>Nat.le_trans hVx (hcl.lt k hk).1
   replace hcl:=hcl.lower hwx
   replace HP:=bN.below HP hb
   replace hKp:=qf.step hKp hwx hb
   replace mL:=af mL hb
   replace mBe:=af mBe hb
   replace m16:=af m16 hb
   replace m17:=af m17 hb
   replace mB:=aJ mB hb
   clear hb
   have hcL:=bN.ne hcl mL (by decide)
   have hcB:=bN.ne hcl mBe (by decide)
   refine hK.out _ _ ⟨((ae m17 0).trans rfl),((ae m16 0).trans rfl)⟩ (fun hHeld=>?_)
   clear hK K
   refine dY asE ?_
   refine jC (i:=3) (N:=none) #[ac,ac,ac,ac,al] rfl rfl aT (by decide) (fun K hK=>?_)
   have hf_:=aK mBe 0
   have hc_:=(ae mBe 0).trans rfl
   refine qp (w1:=?_) (by rfl) rfl ?_ ?_
   rotate_left
   ·go_simp
    rfl
   clear hf_ hc_
   refine hK.out _ _ ⟨((ae (ah (p:=⟨gB,0,none⟩) m17 tF _) 0).trans rfl),((ae (ah (p:=⟨gB,0,none⟩) m16 vE _) 0).trans rfl)⟩ (fun hHeld=>?_)
   clear hK K
   refine yt (i:=4) (N:=none) #[ac,ac,ac,ac,ac] rfl rfl aT (by decide) (fun K hK=>?_)
   have FQ:=ah (p:=⟨gB,0,none⟩) mL hLB (.slice A1_ plan.length c1_)
   have hf_:=aK FQ 0
   have hc_:=(ae FQ 0).trans rfl
   refine qp (w1:=?_) (by rfl) rfl ?_ ?_
   rotate_left
   ·go_simp
    rfl
   refine hK.out _ _ ?_
   clear hK K
   refine ma aT ?_
   skip
   go_wp2
   skip
   refine bodyPost_ret (results_none rfl _ _ _) rfl ?_
   exact ⟨⟨_,rfl⟩,qf.set (q:=⟨gL,0,none⟩) (qf.set (q:=⟨gB,0,none⟩) hKp hGB (.inr rfl) _) hGL (.inl rfl) _,bN.far (q:=⟨gL,0,none⟩) (bN.far (q:=⟨gB,0,none⟩) HP hpB _) hpL _,_,asG,fun k hk=>.inr (hnw k hk)⟩
  case neg =>
   have c2:decide (st.2 < 0) = false:=decide_eq_false c4
   have c3:decide (cost < st.2) = true:=decide_eq_true (by omega)
   clear c1 c4
   go_wp2_with fail
   skip
   clear Zd an7 aih F4 m13 m14 m15 m18 m19
   replace mL:=au mL
   replace mBe:=au mBe
   replace m16:=au m16
   replace m17:=au m17
   replace mB:=bf mB
   replace HP:=bN.below HP (bf (Below.refl W1.heap.size W1))
   replace hKp:=qf.step hKp lC (bf (Below.refl W1.heap.size W1))
   clear HC
   replace hVW:V.heap.size≤(World.drew W1).heap.size:=hVW
   refine lh (n:=5) (S:=fun w'=>w'.cell? ⟨g17,0,none⟩ = some ((Value.slice Ap plan.length cp))∧w'.cell? ⟨g16,0,none⟩ = some (Z ab cost)) (ds:=[4]) #[al,al,al,al,al] aT rfl rfl ⟨((ae m17 0).trans rfl),((ae m16 0).trans rfl)⟩ (fun hHeld=>?_)
   generalize hWd:World.drew _ = Wx at mL mBe m16 m17 mB HP hKp hHeld hVW ⊢
   clear hWd
   refine iy (i:=0) (N:=some 38) aT hHeld ?_
   refine iy (i:=2) (N:=some 40) aT hHeld ?_
   refine jC (i:=1) (N:=some 39) #[ac,ac,ac,al,al] rfl rfl aT (by decide) (fun K hK=>?_)
   have eG:=Lb (Value.slice Ap plan.length cp) plan w.heap.size Wx HP hpl.1 hpl.2
   have hwx:w.heap.size≤Wx.heap.size:=mB.size
   have hVx:V.heap.size≤Wx.heap.size:=hVW
   refine jm Try.func108 aT rfl #[(Value.slice Ap plan.length cp)] (by rfl) rfl rfl ET ?_
   with_reducible refine (eG).mono ?_
   rintro e w1 ⟨v1_,rfl,hcl,hb⟩
   refine ⟨_,rfl,?_⟩
   clear eG
   obtain ⟨A1_,c1_,rfl⟩:=hcl.slice
   have hnw:∀ k,(Value.slice A1_ plan.length c1_).ownBlock = some k→V.heap.size≤k:=fun k hk=>Nat.le_trans hVx (hcl.lt k hk).1
   replace hcl:=hcl.lower hwx
   replace HP:=bN.below HP hb
   replace hKp:=qf.step hKp hwx hb
   replace mL:=af mL hb
   replace mBe:=af mBe hb
   replace m16:=af m16 hb
   replace m17:=af m17 hb
   replace mB:=aJ mB hb
   clear hb
   have hcL:=bN.ne hcl mL (by decide)
   have hcB:=bN.ne hcl mBe (by decide)
   refine hK.out _ _ ⟨((ae m17 0).trans rfl),((ae m16 0).trans rfl)⟩ (fun hHeld=>?_)
   clear hK K
   refine dY asE ?_
   refine jC (i:=3) (N:=none) #[ac,ac,ac,ac,al] rfl rfl aT (by decide) (fun K hK=>?_)
   have hf_:=aK mBe 0
   have hc_:=(ae mBe 0).trans rfl
   refine qp (w1:=?_) (by rfl) rfl ?_ ?_
   rotate_left
   ·go_simp
    rfl
   clear hf_ hc_
   refine hK.out _ _ ⟨((ae (ah (p:=⟨gB,0,none⟩) m17 tF _) 0).trans rfl),((ae (ah (p:=⟨gB,0,none⟩) m16 vE _) 0).trans rfl)⟩ (fun hHeld=>?_)
   clear hK K
   refine yt (i:=4) (N:=none) #[ac,ac,ac,ac,ac] rfl rfl aT (by decide) (fun K hK=>?_)
   have FQ:=ah (p:=⟨gB,0,none⟩) mL hLB (.slice A1_ plan.length c1_)
   have hf_:=aK FQ 0
   have hc_:=(ae FQ 0).trans rfl
   refine qp (w1:=?_) (by rfl) rfl ?_ ?_
   rotate_left
   ·go_simp
    rfl
   refine hK.out _ _ ?_
   clear hK K
   refine ma aT ?_
   skip
   go_wp2
   skip
   refine bodyPost_ret (results_none rfl _ _ _) rfl ?_
   exact ⟨⟨_,rfl⟩,qf.set (q:=⟨gL,0,none⟩) (qf.set (q:=⟨gB,0,none⟩) hKp hGB (.inr rfl) _) hGL (.inl rfl) _,bN.far (q:=⟨gL,0,none⟩) (bN.far (q:=⟨gB,0,none⟩) HP hpB _) hpL _,_,asG,fun k hk=>.inr (hnw k hk)⟩
set_option maxRecDepth 100000 in
set_option maxHeartbeats 32000000 in
theorem Es {Q:Act→World→Prop} {l_ n_:Nat} (y0 y1 y2 y3 y4 y5 y6 y7 y8 y9 y10 y11 y13 y14 y23 y26 y27 y28 y29 y30 y31 y32 y33 y34 y35 y36 y37 y38 y39 y40 y41 y42 y43 y44 y45 y46 y47 y48 y49 y50 y51 y52 y53 y54 y55 y56 y57 y58 y59 y60 y61 y62 y63 y64 y65 y66 y67 y68 y69 y70 y71 y72 y73 y74 y75 y76 y77 y78 y79 y80 y81 y82 y83 y84 y85 y86 y87 y88 y89 y90 y91 y92 y93 y94 y95 y96 y97 y98 y99 aCF y101 y102 aCG y104 aCH aCI aCJ aCK aCL aCM aCN:Value) (w:World) (gG g15 g16 g17 g18 g19 g20 g22:Nat) (lb:Array Value) (plan:List eQ) (nx:cZ) (u E left cost m c0 c1:Int) (h there:Bool) (pv:Value) (W0:World) (PP:World→Prop)
 (mB:Below w.heap.size w W0) (mG:aZ W0 gG #[.func (.func 107) #[] lb] 141) (m22:aZ W0 g22 #[Z ab nx.f0.f0,Z ab nx.f0.f1,Z ab nx.f1.f0,Z ab nx.f1.f1] 31) (m15:aZ W0 g15 #[Z ab left] 2) (m16:aZ W0 g16 #[Z ab cost] 2) (m17:aZ W0 g17 #[pv] 49) (m18:aZ W0 g18 #[.bool there] 4) (m19:aZ W0 g19 #[Z ab m] 3) (m20:aZ W0 g20 #[Z ab c0,Z ab c1] 33)
 (hP:bN W0 w.heap.size pv plan) (h20:some g20≠pv.ownBlock) (hpl:plan.length≤64)
 (hcall:∀ (v1:Value) (W1:World),bN W1 w.heap.size v1 (plan++[⟨c0,c1⟩])→Below w.heap.size w W1→Below w.heap.size W0 W1→(∀ k,k < W0.heap.size→some k≠pv.ownBlock→W1.heap[k]? = W0.heap[k]?)→bN W1 w.heap.size pv plan→((v1.ownBlock = pv.ownBlock∧∀ W':World,bN W' w.heap.size v1 (plan++[⟨c0,c1⟩])→bN W' w.heap.size pv plan)∨∃ b,v1.ownBlock = some b∧W0.heap.size≤b)→
  Calls Try.prog 107 (#[.agg #[Z ab nx.f0.f0,Z ab nx.f0.f1,Z ab nx.f1.f0,Z ab nx.f1.f1],Z ab E,Z ab (wrap64 (left - u)),Z ab (wrap64 (cost+u)),v1,.bool (there || h),Z ab (wrap64 (m - 1))]++lb) W1 (fun e w'=>(∃ r,e = .returned r)∧PP w'))
 (hKK:∀ (z92 z93 z94 z95 z96 z97 z98 z99 aii aij aik ail aim z105 ain z107 aio z109 aip aiq:Value) (w':World),PP w'→Q { tmps:=#[y0,y1,y2,y3,y4,y5,y6,y7,y8,y9,y10,y11,.pointer (some ⟨gG,0,none⟩),y13,y14,.pointer (some ⟨g15,0,none⟩),.pointer (some ⟨g16,0,none⟩),.pointer (some ⟨g17,0,none⟩),.pointer (some ⟨g18,0,none⟩),.pointer (some ⟨g19,0,none⟩),.pointer (some ⟨g20,0,none⟩),Z ab u,.pointer (some ⟨g22,0,none⟩),y23,Z ab E,.bool h,y26,y27,y28,y29,y30,y31,y32,y33,y34,y35,y36,y37,y38,y39,y40,y41,y42,y43,y44,y45,y46,y47,y48,y49,y50,y51,y52,y53,y54,y55,y56,y57,y58,y59,y60,y61,y62,y63,y64,y65,y66,y67,y68,y69,y70,y71,y72,y73,y74,y75,y76,y77,y78,y79,y80,y81,y82,y83,y84,y85,y86,y87,y88,y89,y90,y91,z92,z93,z94,z95,z96,z97,z98,z99,aii,aij,aik,ail,aim,z105,ain,z107,aio,z109,aip,aiq],defers:=[] } w'):
 Code.wpIn (Fence.wide.inRound l_) n_ Try.prog (Code.region 12 #[{ dst:=some 92,op:=Op.load 141 (Operand.tmp 12),type:=141,pos:="glider.go:441",after:=#[],guard:=none },{ dst:=some 93,op:=Op.load 31 (Operand.tmp 22),type:=31,pos:="glider.go:441",after:=#[],guard:=none },{ dst:=some 94,op:=Op.move (Operand.tmp 24),type:=2,pos:="glider.go:441",after:=#[],guard:=none },{ dst:=some 95,op:=Op.load 2 (Operand.tmp 15),type:=2,pos:="glider.go:441",after:=#[],guard:=none },{ dst:=some 96,op:=Op.move (Operand.tmp 21),type:=2,pos:="glider.go:441",after:=#[],guard:=none },{ dst:=some 97,op:=Op.binOp BinOp.sub 2 (Operand.tmp 95) (Operand.tmp 96) 2,type:=2,pos:="glider.go:441",after:=#[{ on:=3,ground:=Ground.data },{ on:=4,ground:=Ground.data }],guard:=none },{ dst:=some 98,op:=Op.load 2 (Operand.tmp 16),type:=2,pos:="glider.go:441",after:=#[],guard:=none },{ dst:=some 99,op:=Op.move (Operand.tmp 21),type:=2,pos:="glider.go:441",after:=#[],guard:=none },{ dst:=some 100,op:=Op.binOp BinOp.add 2 (Operand.tmp 98) (Operand.tmp 99) 2,type:=2,pos:="glider.go:441",after:=#[{ on:=6,ground:=Ground.data },{ on:=7,ground:=Ground.data }],guard:=none },{ dst:=some 101,op:=Op.load 49 (Operand.tmp 17),type:=49,pos:="glider.go:441",after:=#[],guard:=none },{ dst:=some 102,op:=Op.load 33 (Operand.tmp 20),type:=33,pos:="glider.go:441",after:=#[],guard:=none },{ dst:=some 103,op:=Op.buildSlice 49 1 #[(0,Operand.tmp 102)],type:=49,pos:="glider.go:441",after:=#[{ on:=10,ground:=Ground.data }],guard:=none },{ dst:=some 104,op:=Op.call { callee:=Callee.builtin Builtin.append,args:=#[Operand.tmp 101,Operand.tmp 103],argTypes:=#[49,49] },type:=49,pos:="glider.go:441",after:=#[{ on:=9,ground:=Ground.data },{ on:=11,ground:=Ground.data }],guard:=none },{ dst:=some 105,op:=Op.load 4 (Operand.tmp 18),type:=4,pos:="glider.go:441",after:=#[],guard:=none },{ dst:=some 106,op:=Op.move (Operand.tmp 105),type:=4,pos:="glider.go:441",after:=#[{ on:=13,ground:=Ground.data },{ on:=12,ground:=Ground.chain }],guard:=none },{ dst:=some 107,op:=Op.move (Operand.tmp 25),type:=4,pos:="glider.go:441",after:=#[{ on:=14,ground:=Ground.guard }],guard:=some (14,false) },{ dst:=some 108,op:=Op.pick (Operand.tmp 106) (Operand.const (Value.bool true)) (Operand.tmp 107),type:=4,pos:="glider.go:441",after:=#[{ on:=14,ground:=Ground.data },{ on:=15,ground:=Ground.data }],guard:=none },{ dst:=some 109,op:=Op.load 3 (Operand.tmp 19),type:=3,pos:="glider.go:441",after:=#[],guard:=none },{ dst:=some 110,op:=Op.binOp BinOp.sub 3 (Operand.tmp 109) (Operand.const (Value.int IntKind.i64 1)) 3,type:=3,pos:="glider.go:441",after:=#[{ on:=17,ground:=Ground.data }],guard:=none },{ dst:=some 111,op:=Op.call { callee:=Callee.value (Operand.tmp 92),args:=#[Operand.tmp 93,Operand.tmp 94,Operand.tmp 97,Operand.tmp 100,Operand.tmp 104,Operand.tmp 108,Operand.tmp 110],argTypes:=#[31,2,2,2,49,4,3] },type:=0,pos:="glider.go:441",after:=#[{ on:=0,ground:=Ground.data },{ on:=1,ground:=Ground.data },{ on:=2,ground:=Ground.data },{ on:=5,ground:=Ground.data },{ on:=8,ground:=Ground.data },{ on:=12,ground:=Ground.data },{ on:=16,ground:=Ground.data },{ on:=18,ground:=Ground.data },{ on:=14,ground:=Ground.chain }],guard:=none }] true) (ad9 Q) { tmps:=#[y0,y1,y2,y3,y4,y5,y6,y7,y8,y9,y10,y11,.pointer (some ⟨gG,0,none⟩),y13,y14,.pointer (some ⟨g15,0,none⟩),.pointer (some ⟨g16,0,none⟩),.pointer (some ⟨g17,0,none⟩),.pointer (some ⟨g18,0,none⟩),.pointer (some ⟨g19,0,none⟩),.pointer (some ⟨g20,0,none⟩),Z ab u,.pointer (some ⟨g22,0,none⟩),y23,Z ab E,.bool h,y26,y27,y28,y29,y30,y31,y32,y33,y34,y35,y36,y37,y38,y39,y40,y41,y42,y43,y44,y45,y46,y47,y48,y49,y50,y51,y52,y53,y54,y55,y56,y57,y58,y59,y60,y61,y62,y63,y64,y65,y66,y67,y68,y69,y70,y71,y72,y73,y74,y75,y76,y77,y78,y79,y80,y81,y82,y83,y84,y85,y86,y87,y88,y89,y90,y91,y92,y93,y94,y95,y96,y97,y98,y99,aCF,y101,y102,aCG,y104,aCH,aCI,aCJ,aCK,aCL,aCM,aCN],defers:=[] } W0:=by
 have hmx:Try.prog.follows .mixedOrders = true:=by kernel_rfl
 have pG:=Try.underlying31
 have F5:=Try.underlying33
 have hLO:¬ LetsOut (ad9 Q):=fun ⟨a,w,h1⟩=>h1
 have HQ:=Lib.hid hKK
 have HCall:=Lib.hid hcall
 clear hKK hcall
 have pI:w.heap.size≤W0.heap.size:=mB.size
 have hKb:Below w.heap.size W0 W0:=(Below.refl _ _).mono pI
 have hneG:=bN.ne hP mG (by decide)
 have an8:=bN.ne hP m22 (by decide)
 have an9:=bN.ne hP m15 (by decide)
 have hne16:=bN.ne hP m16 (by decide)
 have aoa:=bN.ne hP m17 (by decide)
 have aob:=bN.ne hP m18 (by decide)
 have aoc:=bN.ne hP m19 (by decide)
 have aod:=h20
 replace mG:=au mG
 replace m22:=au m22
 replace m15:=au m15
 replace m16:=au m16
 replace m17:=au m17
 replace m18:=au m18
 replace m19:=au m19
 replace m20:=au m20
 replace mB:=bf mB
 replace hP:=bN.below hP (bf (Below.refl W0.heap.size W0))
 have hkd:∀ k,k < W0.heap.size→some k≠pv.ownBlock→(World.drew W0).heap[k]? = W0.heap[k]?:=fun _ _ _=>rfl
 have hbd:Below w.heap.size W0 (World.drew W0):=(bf (Below.refl W0.heap.size W0)).mono pI
 cases there with
 |false =>
  refine Ca (m:=20) (S:=fun w'=>w'.cell? ⟨gG,0,none⟩ = some (.func (.func 107) #[] lb)∧w'.cell? ⟨g22,0,none⟩ = some (Z ab nx.f0.f0)∧w'.cell? ⟨g22,1,none⟩ = some (Z ab nx.f0.f1)∧w'.cell? ⟨g22,2,none⟩ = some (Z ab nx.f1.f0)∧w'.cell? ⟨g22,3,none⟩ = some (Z ab nx.f1.f1)∧w'.cell? ⟨g15,0,none⟩ = some (Z ab left)∧w'.cell? ⟨g16,0,none⟩ = some (Z ab cost)∧w'.cell? ⟨g17,0,none⟩ = some (pv)∧w'.cell? ⟨g18,0,none⟩ = some (.bool false)∧w'.cell? ⟨g19,0,none⟩ = some (Z ab m)∧w'.cell? ⟨g20,0,none⟩ = some (Z ab c0)∧w'.cell? ⟨g20,1,none⟩ = some (Z ab c1)) (ds:=[19]) #[al,al,al,al,al,al,al,al,al,al,al,al,al,al,al,al,al,al,al,al] aT (hLO) aT rfl rfl ⟨((ae mG 0).trans rfl),((ae m22 0).trans rfl),((ae m22 1).trans rfl),((ae m22 2).trans rfl),((ae m22 3).trans rfl),((ae m15 0).trans rfl),((ae m16 0).trans rfl),((ae m17 0).trans rfl),((ae m18 0).trans rfl),((ae m19 0).trans rfl),((ae m20 0).trans rfl),((ae m20 1).trans rfl)⟩ (fun hHeld=>?_)
  generalize hWd:World.drew _ = Wx at mG m22 m15 m16 m17 m18 m19 m20 hP hkd hbd mB hHeld ⊢
  clear hWd
  refine dG (i:=2) (N:=some 94) aT ?_
  refine dG (i:=4) (N:=some 96) aT ?_
  refine dG (i:=7) (N:=some 99) aT ?_
  refine iy (i:=0) (N:=some 92) aT hHeld ?_
  refine iy (i:=1) (N:=some 93) aT hHeld ?_
  refine iy (i:=3) (N:=some 95) aT hHeld ?_
  refine dG (i:=5) (N:=some 97) aT ?_
  refine iy (i:=6) (N:=some 98) aT hHeld ?_
  refine dG (i:=8) (N:=some 100) aT ?_
  refine iy (i:=9) (N:=some 101) aT hHeld ?_
  refine iy (i:=10) (N:=some 102) aT hHeld ?_
  refine iy (i:=13) (N:=some 105) aT hHeld ?_
  refine iy (i:=17) (N:=some 109) aT hHeld ?_
  refine dG (i:=18) (N:=some 110) aT ?_
  refine jC (i:=11) (N:=some 103) #[ac,ac,ac,ac,ac,ac,ac,ac,ac,ac,ac,ac,al,ac,al,al,al,ac,ac,al] rfl rfl aT (by decide) (fun K hK=>?_)
  have dU:Wx.heap.size≤(Wx.alloc (.cells #[Z ab c0,Z ab c1] 33)).heap.size:=(ai (Below.refl Wx.heap.size Wx) (.cells #[Z ab c0,Z ab c1] 33)).size
  refine zL (w1:=?_) (v:=?_) (by rfl) rfl ?_ ?_
  rotate_left 2
  ·go_simp
   constructor
   ·rfl
   ·rfl
  have mG_:=aa mG (.cells #[Z ab c0,Z ab c1] 33)
  have Vp:=aa m22 (.cells #[Z ab c0,Z ab c1] 33)
  have apN:=aa m15 (.cells #[Z ab c0,Z ab c1] 33)
  have apO:=aa m16 (.cells #[Z ab c0,Z ab c1] 33)
  have apP:=aa m17 (.cells #[Z ab c0,Z ab c1] 33)
  have apQ:=aa m18 (.cells #[Z ab c0,Z ab c1] 33)
  have apR:=aa m19 (.cells #[Z ab c0,Z ab c1] 33)
  have air:=aa m20 (.cells #[Z ab c0,Z ab c1] 33)
  refine hK.out _ _ ⟨((ae mG_ 0).trans rfl),((ae Vp 0).trans rfl),((ae Vp 1).trans rfl),((ae Vp 2).trans rfl),((ae Vp 3).trans rfl),((ae apN 0).trans rfl),((ae apO 0).trans rfl),((ae apP 0).trans rfl),((ae apQ 0).trans rfl),((ae apR 0).trans rfl),((ae air 0).trans rfl),((ae air 1).trans rfl)⟩ (fun hHeld=>?_)
  clear hK K
  refine dY asO ?_
  refine jC (i:=12) (N:=some 104) #[ac,ac,ac,ac,ac,ac,ac,ac,ac,ac,ac,ac,ac,ac,al,al,al,ac,ac,al] rfl rfl aT (by decide) (fun K hK=>?_)
  refine yR (w0:=w) w.heap.size (by rfl) (.tmp 101) (.tmp 103) 49 33 (.agg #[Z ab 0,Z ab 0]) 16 rfl Try.underlying49 abU rfl (by decide) pv plan.length (GZ plan) [Z ab c0,Z ab c1] rfl rfl rfl (Qv [⟨c0,c1⟩]) hP mB mB.size (by omega) ?_
  intro v1 F6 hown hB1 hgr hst hback
  have HP1:bN F6 w.heap.size v1 (plan++[⟨c0,c1⟩]):=by unfold bN;rw [yQ,List.length_append];exact hown
  have abV:(v1.ownBlock = pv.ownBlock∧∀ W':World,bN W' w.heap.size v1 (plan++[⟨c0,c1⟩])→bN W' w.heap.size pv plan)∨∃ b,v1.ownBlock = some b∧W0.heap.size≤b:=by
   rcases hback with ⟨e1,e2⟩|⟨b,e1,e2⟩
   ·exact .inl ⟨e1,fun W' hW=>e2 W' (by unfold bN at hW;rw [yQ,List.length_append] at hW;exact hW)⟩
   ·exact .inr ⟨b,e1,Nat.le_trans hbd.size e2⟩
  clear hback hown
  replace mG:=dS mG hgr hneG
  replace m22:=dS m22 hgr an8
  replace m15:=dS m15 hgr an9
  replace m16:=dS m16 hgr hne16
  replace m17:=dS m17 hgr aoa
  replace m18:=dS m18 hgr aob
  replace m19:=dS m19 hgr aoc
  replace m20:=dS m20 hgr aod
  have apS:∀ k,k < W0.heap.size→some k≠pv.ownBlock→F6.heap[k]? = W0.heap[k]?:=fun k hk hn=>(hgr.block k (Nat.lt_of_lt_of_le hk hbd.size) hn).trans (hkd k hk hn)
  have apT:Below w.heap.size W0 F6:=hbd.grown hgr (Nat.le_trans pI hbd.size) (BV hP)
  refine hK.out _ _ ⟨((ae mG 0).trans rfl),((ae m22 0).trans rfl),((ae m22 1).trans rfl),((ae m22 2).trans rfl),((ae m22 3).trans rfl),((ae m15 0).trans rfl),((ae m16 0).trans rfl),((ae m17 0).trans rfl),((ae m18 0).trans rfl),((ae m19 0).trans rfl),((ae m20 0).trans rfl),((ae m20 1).trans rfl)⟩ (fun hHeld=>?_)
  clear hK K
  refine dY asP ?_
  refine dG (i:=14) (N:=some 106) aT ?_
  refine dG (i:=15) (N:=some 107) aT ?_
  refine dG (i:=16) (N:=some 108) aT ?_
  refine yt (i:=19) (N:=some 111) #[ac,ac,ac,ac,ac,ac,ac,ac,ac,ac,ac,ac,ac,ac,ac,ac,ac,ac,ac,ac] rfl rfl aT (by decide) (fun K hK=>?_)
  have eG:=HCall.out v1 F6 HP1 hB1 apT apS hst abV
  refine aid Try.func107 aT rfl #[.agg #[Z ab nx.f0.f0,Z ab nx.f0.f1,Z ab nx.f1.f0,Z ab nx.f1.f1],Z ab E,Z ab (wrap64 (left - u)),Z ab (wrap64 (cost+u)),v1,.bool (false || h),Z ab (wrap64 (m - 1))] lb (by rfl) rfl rfl rfl ET ?_
  with_reducible refine eG.mono ?_
  rintro e w19 ⟨⟨r_,rfl⟩,hPP⟩
  refine ⟨_,rfl,?_⟩
  clear eG
  refine hK.out _ _ ?_
  clear hK K
  refine dY asQ ?_
  refine ma aT ?_
  skip
  exact HQ.out _ _ _ _ _ _ _ _ _ _ _ _ _ _ _ _ _ _ _ _ _ hPP
 |true =>
  refine Ca (m:=20) (S:=fun w'=>w'.cell? ⟨gG,0,none⟩ = some (.func (.func 107) #[] lb)∧w'.cell? ⟨g22,0,none⟩ = some (Z ab nx.f0.f0)∧w'.cell? ⟨g22,1,none⟩ = some (Z ab nx.f0.f1)∧w'.cell? ⟨g22,2,none⟩ = some (Z ab nx.f1.f0)∧w'.cell? ⟨g22,3,none⟩ = some (Z ab nx.f1.f1)∧w'.cell? ⟨g15,0,none⟩ = some (Z ab left)∧w'.cell? ⟨g16,0,none⟩ = some (Z ab cost)∧w'.cell? ⟨g17,0,none⟩ = some (pv)∧w'.cell? ⟨g18,0,none⟩ = some (.bool true)∧w'.cell? ⟨g19,0,none⟩ = some (Z ab m)∧w'.cell? ⟨g20,0,none⟩ = some (Z ab c0)∧w'.cell? ⟨g20,1,none⟩ = some (Z ab c1)) (ds:=[19]) #[al,al,al,al,al,al,al,al,al,al,al,al,al,al,al,al,al,al,al,al] aT (hLO) aT rfl rfl ⟨((ae mG 0).trans rfl),((ae m22 0).trans rfl),((ae m22 1).trans rfl),((ae m22 2).trans rfl),((ae m22 3).trans rfl),((ae m15 0).trans rfl),((ae m16 0).trans rfl),((ae m17 0).trans rfl),((ae m18 0).trans rfl),((ae m19 0).trans rfl),((ae m20 0).trans rfl),((ae m20 1).trans rfl)⟩ (fun hHeld=>?_)
  generalize hWd:World.drew _ = Wx at mG m22 m15 m16 m17 m18 m19 m20 hP hkd hbd mB hHeld ⊢
  clear hWd
  refine dG (i:=2) (N:=some 94) aT ?_
  refine dG (i:=4) (N:=some 96) aT ?_
  refine dG (i:=7) (N:=some 99) aT ?_
  refine iy (i:=0) (N:=some 92) aT hHeld ?_
  refine iy (i:=1) (N:=some 93) aT hHeld ?_
  refine iy (i:=3) (N:=some 95) aT hHeld ?_
  refine dG (i:=5) (N:=some 97) aT ?_
  refine iy (i:=6) (N:=some 98) aT hHeld ?_
  refine dG (i:=8) (N:=some 100) aT ?_
  refine iy (i:=9) (N:=some 101) aT hHeld ?_
  refine iy (i:=10) (N:=some 102) aT hHeld ?_
  refine iy (i:=13) (N:=some 105) aT hHeld ?_
  refine iy (i:=17) (N:=some 109) aT hHeld ?_
  refine dG (i:=18) (N:=some 110) aT ?_
  refine jC (i:=11) (N:=some 103) #[ac,ac,ac,ac,ac,ac,ac,ac,ac,ac,ac,ac,al,ac,al,al,al,ac,ac,al] rfl rfl aT (by decide) (fun K hK=>?_)
  have dU:Wx.heap.size≤(Wx.alloc (.cells #[Z ab c0,Z ab c1] 33)).heap.size:=(ai (Below.refl Wx.heap.size Wx) (.cells #[Z ab c0,Z ab c1] 33)).size
  refine zL (w1:=?_) (v:=?_) (by rfl) rfl ?_ ?_
  rotate_left 2
  ·go_simp
   constructor
   ·rfl
   ·rfl
  have mG_:=aa mG (.cells #[Z ab c0,Z ab c1] 33)
  have Vp:=aa m22 (.cells #[Z ab c0,Z ab c1] 33)
  have apN:=aa m15 (.cells #[Z ab c0,Z ab c1] 33)
  have apO:=aa m16 (.cells #[Z ab c0,Z ab c1] 33)
  have apP:=aa m17 (.cells #[Z ab c0,Z ab c1] 33)
  have apQ:=aa m18 (.cells #[Z ab c0,Z ab c1] 33)
  have apR:=aa m19 (.cells #[Z ab c0,Z ab c1] 33)
  have air:=aa m20 (.cells #[Z ab c0,Z ab c1] 33)
  refine hK.out _ _ ⟨((ae mG_ 0).trans rfl),((ae Vp 0).trans rfl),((ae Vp 1).trans rfl),((ae Vp 2).trans rfl),((ae Vp 3).trans rfl),((ae apN 0).trans rfl),((ae apO 0).trans rfl),((ae apP 0).trans rfl),((ae apQ 0).trans rfl),((ae apR 0).trans rfl),((ae air 0).trans rfl),((ae air 1).trans rfl)⟩ (fun hHeld=>?_)
  clear hK K
  refine dY asO ?_
  refine jC (i:=12) (N:=some 104) #[ac,ac,ac,ac,ac,ac,ac,ac,ac,ac,ac,ac,ac,ac,al,al,al,ac,ac,al] rfl rfl aT (by decide) (fun K hK=>?_)
  refine yR (w0:=w) w.heap.size (by rfl) (.tmp 101) (.tmp 103) 49 33 (.agg #[Z ab 0,Z ab 0]) 16 rfl Try.underlying49 abU rfl (by decide) pv plan.length (GZ plan) [Z ab c0,Z ab c1] rfl rfl rfl (Qv [⟨c0,c1⟩]) hP mB mB.size (by omega) ?_
  intro v1 F6 hown hB1 hgr hst hback
  have HP1:bN F6 w.heap.size v1 (plan++[⟨c0,c1⟩]):=by unfold bN;rw [yQ,List.length_append];exact hown
  have abV:(v1.ownBlock = pv.ownBlock∧∀ W':World,bN W' w.heap.size v1 (plan++[⟨c0,c1⟩])→bN W' w.heap.size pv plan)∨∃ b,v1.ownBlock = some b∧W0.heap.size≤b:=by
   rcases hback with ⟨e1,e2⟩|⟨b,e1,e2⟩
   ·exact .inl ⟨e1,fun W' hW=>e2 W' (by unfold bN at hW;rw [yQ,List.length_append] at hW;exact hW)⟩
   ·exact .inr ⟨b,e1,Nat.le_trans hbd.size e2⟩
  clear hback hown
  replace mG:=dS mG hgr hneG
  replace m22:=dS m22 hgr an8
  replace m15:=dS m15 hgr an9
  replace m16:=dS m16 hgr hne16
  replace m17:=dS m17 hgr aoa
  replace m18:=dS m18 hgr aob
  replace m19:=dS m19 hgr aoc
  replace m20:=dS m20 hgr aod
  have apS:∀ k,k < W0.heap.size→some k≠pv.ownBlock→F6.heap[k]? = W0.heap[k]?:=fun k hk hn=>(hgr.block k (Nat.lt_of_lt_of_le hk hbd.size) hn).trans (hkd k hk hn)
  have apT:Below w.heap.size W0 F6:=hbd.grown hgr (Nat.le_trans pI hbd.size) (BV hP)
  refine hK.out _ _ ⟨((ae mG 0).trans rfl),((ae m22 0).trans rfl),((ae m22 1).trans rfl),((ae m22 2).trans rfl),((ae m22 3).trans rfl),((ae m15 0).trans rfl),((ae m16 0).trans rfl),((ae m17 0).trans rfl),((ae m18 0).trans rfl),((ae m19 0).trans rfl),((ae m20 0).trans rfl),((ae m20 1).trans rfl)⟩ (fun hHeld=>?_)
  clear hK K
  refine dY asP ?_
  refine dG (i:=14) (N:=some 106) aT ?_
  refine vw (i:=15) (N:=some 107) (v:=undef) (a':=?_) #[ac,ac,ac,ac,ac,ac,ac,ac,ac,ac,ac,ac,ac,ac,ac,ac,al,ac,ac,al] rfl rfl aT (fun _ _ _ h=>h) (Or.inr ⟨by rfl,rfl⟩) ?_ ?_
  rotate_left
  ·simp only [Act.put,List.setIfInBounds_toArray,List.set_cons_zero,List.set_cons_succ,fe,fo]
   rfl
  refine dG (i:=16) (N:=some 108) aT ?_
  refine yt (i:=19) (N:=some 111) #[ac,ac,ac,ac,ac,ac,ac,ac,ac,ac,ac,ac,ac,ac,ac,ac,ac,ac,ac,ac] rfl rfl aT (by decide) (fun K hK=>?_)
  have eG:=HCall.out v1 F6 HP1 hB1 apT apS hst abV
  refine aid Try.func107 aT rfl #[.agg #[Z ab nx.f0.f0,Z ab nx.f0.f1,Z ab nx.f1.f0,Z ab nx.f1.f1],Z ab E,Z ab (wrap64 (left - u)),Z ab (wrap64 (cost+u)),v1,.bool (true || h),Z ab (wrap64 (m - 1))] lb (by rfl) rfl rfl rfl ET ?_
  with_reducible refine eG.mono ?_
  rintro e w19 ⟨⟨r_,rfl⟩,hPP⟩
  refine ⟨_,rfl,?_⟩
  clear eG
  refine hK.out _ _ ?_
  clear hK K
  refine dY asQ ?_
  refine ma aT ?_
  skip
  exact HQ.out _ _ _ _ _ _ _ _ _ _ _ _ _ _ _ _ _ _ _ _ _ hPP
end Go.Proofs.Ytmhaiihjfgfaoaa.Gl
end
