/- Part 19 of the proof of GliderKnown: what the functions compute. No condition. -/
import Derived.Test.YtmhaiihjfgfaoaaGkGliderKnown3
import Derived.Test.YtmhaiihjfgfaoaaGkGliderKnown18
set_option linter.unusedVariables false
set_option linter.unusedSimpArgs false
section
/- The search for the best plan, as the program does it. -/
namespace Go.Proofs.Ytmhaiihjfgfaoaa.Gl
open Go.RowKit Go.Shelf Go.Proofs.YtmhaiihjfgfaoaaW.PrintWords Go.Proofs.YtmhaiihjfgfaoaaW.PrintLast Go.Proofs.YtmhaiihjfgfaoaaW.PrintMore Go.Proofs.Ytmhaiihjfgfaoaa.Pr Go.Proofs.YtmhaiihjfgfaoaaW.Round
set_option linter.unusedVariables false
set_option linter.unusedSimpArgs false
attribute [local go_sem] max2_int min2_int max_two min_two max_four
attribute [local go_sem] Oper.semAt_some
/-- What a search may turn: the best plan, its cost, and the row behind the plan. -/
def KpG (w : World) (gL gB : Nat) (row : Option Nat) (A B : World) : Prop := Below w.heap.size A B ∧ ∀ k, k < A.heap.size → k ≠ gL → k ≠ gB → some k ≠ row → B.heap[k]? = A.heap[k]?
theorem KpG.of_below {w : World} {gL gB : Nat} {row : Option Nat} {A B : World} (h : w.heap.size ≤ A.heap.size) (hb : Below A.heap.size A B) : KpG w gL gB row A B := ⟨hb.mono h, fun k hk _ _ _ => hb.block k hk⟩
theorem KpG.trans {w : World} {gL gB : Nat} {row : Option Nat} {A B C : World} (h : KpG w gL gB row A B) (k : KpG w gL gB row B C) : KpG w gL gB row A C :=
 ⟨h.1.trans k.1, fun j hj h1 h2 h3 => (k.2 j (Nat.lt_of_lt_of_le hj h.1.size) h1 h2 h3).trans (h.2 j hj h1 h2 h3)⟩
theorem KpG.then {w : World} {gL gB : Nat} {row row' : Option Nat} {A B C : World} (h : KpG w gL gB row A B) (k : KpG w gL gB row' B C) (hr : row' = row ∨ ∃ b, row' = some b ∧ A.heap.size ≤ b) : KpG w gL gB row A C :=
 ⟨h.1.trans k.1, fun j hj h1 h2 h3 => (k.2 j (Nat.lt_of_lt_of_le hj h.1.size) h1 h2 (by
  rcases hr with rfl | ⟨b, rfl, hb⟩
  ·exact h3
  ·intro e; injection e with e; omega)).trans (h.2 j hj h1 h2 h3)⟩
theorem KpG.step {w : World} {gL gB : Nat} {row : Option Nat} {A B C : World} (h : KpG w gL gB row A B) (hw : w.heap.size ≤ B.heap.size) (hb : Below B.heap.size B C) : KpG w gL gB row A C := h.trans (KpG.of_below hw hb)
theorem KpG.set {w : World} {gL gB : Nat} {row : Option Nat} {A B : World} (h : KpG w gL gB row A B) {q : Addr} (hq : w.heap.size ≤ q.block) (h1 : q.block = gL ∨ q.block = gB) (u : Value) : KpG w gL gB row A (B.setCell q u) :=
 ⟨h.1.setCell hq u, fun k hk n1 n2 n3 => (Below.heap_setCell B q u k (fun e => by subst e; rcases h1 with h1 | h1 <;> omega)).trans (h.2 k hk n1 n2 n3)⟩
theorem KpG.putObj {w : World} {gL gB : Nat} {row : Option Nat} {A B : World} (h : KpG w gL gB row A B) (hw : w.heap.size ≤ A.heap.size) {l : Nat} {ob : Obj} (ob' : Obj) (hl : A.heap.size ≤ l) (hq : B.heap[l]? = some ob) (h1 : ob.isCells = false) (h2 : ob.isWalk = false) : KpG w gL gB row A (B.putObj l ob') :=
 ⟨h.1.trans (belowK_b hw B l ob ob' hl hq h1 h2), fun k hk n1 n2 n3 => (World.putObj_heap_other (by omega)).trans (h.2 k hk n1 n2 n3)⟩
theorem KpG.ownFrom {w : World} {gL gB : Nat} {row : Option Nat} {A : World} {B : Nat} {β : Type} (hw : w.heap.size ≤ A.heap.size) (hA : A.heap.size ≤ B) : OwnFrom B (fun (_ : β) W => KpG w gL gB row A W) := fun f X Y r hs hg hr =>
 ⟨ownFrom_below hw (Nat.le_trans hw hA) f X Y r hs.1 hg hr, fun k hk n1 n2 n3 => (hg.block k (Nat.lt_of_lt_of_le hk hs.1.size) (fun e => by have := (hr k e.symm).1; omega)).trans (hs.2 k hk n1 n2 n3)⟩
theorem Blk.keepG {w : World} {gL gB : Nat} {row : Option Nat} {A B : World} (h : KpG w gL gB row A B) {k : Nat} {cs : Array Value} {t : TypeId} (hb : Blk A k cs t) (h1 : k ≠ gL) (h2 : k ≠ gB) (h3 : some k ≠ row) : Blk B k cs t := (h.2 k (blk_lt hb) h1 h2 h3).trans hb
theorem blk_ne {W : World} {a b : Nat} {c c' : Array Value} {t t' : TypeId} (h : Blk W a c t) (h' : Blk W b c' t') (ht : t ≠ t') : a ≠ b := by
 rintro rfl
 have e := h.symm.trans h'
 injection e with e
 injection e with _ e
 exact ht e
theorem CoAt.grownO {X Y : World} {base B : Nat} {u : Value} {l : List S33} {row : Option Nat} (h : CoAt X base u l) (hg : X.grownBy Y row) (hr : ∀ r, row = some r → B ≤ r ∧ ∃ o : Obj, X.heap[r]? = some o ∧ o.isCells = false) : CoAt Y base u l :=
 h.move (fun k hk => hg.block k (h.lt k hk).2 (fun e => by
  obtain ⟨_, ob, h1, h2⟩ := hr k e.symm
  obtain ⟨cells, h3⟩ := own_typed h k hk
  rw [h3] at h1
  cases h1
  cases h2))
theorem CoAt.keepG {w : World} {gL gB : Nat} {row : Option Nat} {A B : World} {base : Nat} {u : Value} {l : List S33} (h : KpG w gL gB row A B) (hc : CoAt A base u l) (h1 : some gL ≠ u.ownBlock) (h2 : some gB ≠ u.ownBlock) (h3 : ∀ k, u.ownBlock = some k → some k ≠ row) : CoAt B base u l :=
 hc.move (fun k hk => h.2 k (hc.lt k hk).2 (fun e => h1 (by rw [hk, e])) (fun e => h2 (by rw [hk, e])) (h3 k hk))
theorem CoAt.far {W : World} {base : Nat} {u : Value} {l : List S33} (h : CoAt W base u l) {q : Addr} (hq : some q.block ≠ u.ownBlock) (x : Value) : CoAt (W.setCell q x) base u l := h.move (fun k hk => Below.heap_setCell W q x k (fun e => hq (by rw [hk, e])))
theorem CoAt.putObj {W : World} {base : Nat} {u : Value} {l : List S33} (h : CoAt W base u l) {j : Nat} {ob : Obj} (ob' : Obj) (hq : W.heap[j]? = some ob) (h1 : ob.isCells = false) : CoAt (W.putObj j ob') base u l := h.move (fun k hk => World.putObj_heap_other (fun e => by
 obtain ⟨cells, h3⟩ := own_typed h k hk
 subst e
 rw [h3] at hq
 cases hq
 cases h1))
/-- What a search reads. -/
def EnvZ (w : World) (s : Sea) (v : Veh) (p : S81) (g gX gV gK gG gL gB : Nat) (B7 B8 : Option Addr) (d7 d8 : Nat) (W : World) : Prop := Below w.heap.size w W ∧ Blk W g #[.int .i64 s.nx, .int .i64 s.ny, .int .i64 s.cell, .int .i64 s.slot, .int .i64 s.slots, .int .i64 s.layers, .int .i64 s.most, .slice B7 s.shores.length d7, .slice B8 s.currents.length d8, .int .i64 v.speed, .int .i64 v.dive, .int .i64 v.use.f0, .int .i64 v.use.f1, .int .i64 v.drift.f0, .int .i64 v.drift.f1, .int .i64 v.reserve] 110 ∧ Blk W gX #[.pointer (some ⟨g, 0, none⟩)] 104 ∧ Blk W gV #[.int .i64 v.speed, .int .i64 v.dive, .int .i64 v.use.f0, .int .i64 v.use.f1, .int .i64 v.drift.f0, .int .i64 v.drift.f1, .int .i64 v.reserve] 29 ∧ Blk W gK #[.int .i64 p.f0.f0.f0, .int .i64 p.f0.f0.f1, .int .i64 p.f0.f1.f0, .int .i64 p.f0.f1.f1, .int .i64 p.f1, .int .i64 p.f2] 81 ∧ Blk W gG #[.func (.func 107) #[] #[.pointer (some ⟨gL, 0, none⟩), .pointer (some ⟨gB, 0, none⟩), .pointer (some ⟨gX, 0, none⟩), .pointer (some ⟨gV, 0, none⟩), .pointer (some ⟨gK, 0, none⟩), .pointer (some ⟨gG, 0, none⟩)]] 141
/-- The best plan so far. -/
def BestAt (w : World) (gL gB : Nat) (bv : Value) (R : List S33 × Int) (W : World) : Prop := Blk W gL #[.int .i64 R.2] 2 ∧ Blk W gB #[bv] 49 ∧ CoAt W w.heap.size bv R.1
/-- What a search leaves. -/
def GrowQ (w : World) (gL gB : Nat) (R : List S33 × Int) (plan : List S33) (pv bv : Value) (V W : World) : Prop :=
 KpG w gL gB pv.ownBlock V W ∧ CoAt W w.heap.size pv plan ∧ ∃ bv', BestAt w gL gB bv' R W ∧ ∀ k, bv'.ownBlock = some k → bv.ownBlock = some k ∨ V.heap.size ≤ k
def GrowPost (w : World) (gL gB : Nat) (R : List S33 × Int) (plan : List S33) (pv bv : Value) (V : World) (e : Ending) (W : World) : Prop := (∃ r, e = .returned r) ∧ GrowQ w gL gB R plan pv bv V W
theorem GrowQ.putObj {w : World} {gL gB : Nat} {R : List S33 × Int} {plan : List S33} {pv bv : Value} {V W : World} (hw : w.heap.size ≤ V.heap.size) (h : GrowQ w gL gB R plan pv bv V W) {l : Nat} (hl : V.heap.size ≤ l) (hq : W.heap[l]? = some (.deferred (some []))) : GrowQ w gL gB R plan pv bv V (W.putObj l (.deferred none)) := by
 obtain ⟨h1, h2, bv', ⟨h3, h4, h5⟩, h6⟩ := h
 have hne : ∀ {k : Nat} {cs : Array Value} {t : TypeId}, Blk W k cs t → Blk (W.putObj l (.deferred none)) k cs t := fun {k cs t} hb => (World.putObj_heap_other (by
  rintro rfl
  rw [show W.heap[_]? = _ from hb] at hq
  cases hq)).trans hb
 exact ⟨h1.putObj hw _ hl hq rfl rfl, h2.putObj _ hq rfl, bv', ⟨hne h3, hne h4, h5.putObj _ hq rfl⟩, h6⟩
set_option maxRecDepth 100000 in
set_option maxHeartbeats 16000000 in
theorem grow_zero (w : World) (s : Sea) (v : Veh) (p : S81) (g gX gV gK gG gL gB : Nat) (B7 B8 : Option Addr) (d7 d8 : Nat) (hGL : w.heap.size ≤ gL) (hGB : w.heap.size ≤ gB) (x : S31) (t left cost m : Int) (plan : List S33) (there : Bool) (st : List S33 × Int) (Ap : Option Addr) (cp : Nat) (bv : Value) (V : World) (hm : m = 0) (hpl : 0 < plan.length ∧ plan.length ≤ 64)
  (hE : EnvZ w s v p g gX gV gK gG gL gB B7 B8 d7 d8 V) (hA : BestAt w gL gB bv st V) (hP : CoAt V w.heap.size (Value.slice Ap plan.length cp) plan) :
  Calls Try.prog 107 #[.agg #[.int .i64 x.f0.f0, .int .i64 x.f0.f1, .int .i64 x.f1.f0, .int .i64 x.f1.f1], .int .i64 t, .int .i64 left, .int .i64 cost, (Value.slice Ap plan.length cp), .bool there, .int .i64 m, .pointer (some ⟨gL, 0, none⟩), .pointer (some ⟨gB, 0, none⟩), .pointer (some ⟨gX, 0, none⟩), .pointer (some ⟨gV, 0, none⟩), .pointer (some ⟨gK, 0, none⟩), .pointer (some ⟨gG, 0, none⟩)] V (GrowPost w gL gB (growV s v p 0 x t left cost plan there st) plan (Value.slice Ap plan.length cp) bv V) := by
 have HR : Hid (growV s v p 0 x t left cost plan there st = if there = true ∧ (st.2 < 0 ∨ cost < st.2) then (plan, cost) else st) := Lib.hid rfl
 generalize growV s v p 0 x t left cost plan there st = RR at *
 subst hm
 have hmx : Try.prog.follows .mixedOrders = true := by kernel_rfl
 obtain ⟨mB, mT, mX, mV, mK, mG⟩ := hE
 obtain ⟨mL, mBe, HC⟩ := hA
 have hsV : w.heap.size ≤ V.heap.size := mB.size
 have hLB : gL ≠ gB := blk_ne mL mBe (by decide)
 clear mT mX mV mK mG
 go_enter Try.func107, Try.ntmps107
 go_wp2_with fail
 have hs_V : w.heap.size ≤ V.heap.size := mB.size
 have hgrL := CoAt.ne HC mL (by decide)
 have hgrB := CoAt.ne HC mBe (by decide)
 have hpL := CoAt.ne hP mL (by decide)
 have hpB := CoAt.ne hP mBe (by decide)
 have hb0 := (below_alloc (below_alloc (below_alloc (below_alloc (below_alloc (below_alloc (below_alloc (Below.refl V.heap.size V) (.cells #[.int .i64 x.f0.f0, .int .i64 x.f0.f1, .int .i64 x.f1.f0, .int .i64 x.f1.f1] 31)) (.cells #[.int .i64 t] 2)) (.cells #[.int .i64 left] 2)) (.cells #[.int .i64 cost] 2)) (.cells #[(Value.slice Ap plan.length cp)] 49)) (.cells #[.bool there] 4)) (.cells #[.int .i64 0] 3))
 have hVW := hb0.size
 have HP := CoAt.below hP hb0
 replace HC := CoAt.below HC hb0
 have hKp : KpG w gL gB (Value.slice Ap plan.length cp).ownBlock V _ := KpG.of_below hs_V hb0
 clear hb0 hP
 have hl_L := blk_lt mL
 have hl_Be := blk_lt mBe
 have m13 : Blk (((((((V.alloc (.cells #[.int .i64 x.f0.f0, .int .i64 x.f0.f1, .int .i64 x.f1.f0, .int .i64 x.f1.f1] 31)).alloc (.cells #[.int .i64 t] 2)).alloc (.cells #[.int .i64 left] 2)).alloc (.cells #[.int .i64 cost] 2)).alloc (.cells #[(Value.slice Ap plan.length cp)] 49)).alloc (.cells #[.bool there] 4)).alloc (.cells #[.int .i64 0] 3)) (V.heap.size) #[.int .i64 x.f0.f0, .int .i64 x.f0.f1, .int .i64 x.f1.f0, .int .i64 x.f1.f1] 31 := (blk_alloc (blk_alloc (blk_alloc (blk_alloc (blk_alloc (blk_alloc zq46 _) _) _) _) _) _)
 have m14 : Blk (((((((V.alloc (.cells #[.int .i64 x.f0.f0, .int .i64 x.f0.f1, .int .i64 x.f1.f0, .int .i64 x.f1.f1] 31)).alloc (.cells #[.int .i64 t] 2)).alloc (.cells #[.int .i64 left] 2)).alloc (.cells #[.int .i64 cost] 2)).alloc (.cells #[(Value.slice Ap plan.length cp)] 49)).alloc (.cells #[.bool there] 4)).alloc (.cells #[.int .i64 0] 3)) (V.heap.size + 1) #[.int .i64 t] 2 := (blk_alloc (blk_alloc (blk_alloc (blk_alloc (blk_alloc zq47 _) _) _) _) _)
 have m15 : Blk (((((((V.alloc (.cells #[.int .i64 x.f0.f0, .int .i64 x.f0.f1, .int .i64 x.f1.f0, .int .i64 x.f1.f1] 31)).alloc (.cells #[.int .i64 t] 2)).alloc (.cells #[.int .i64 left] 2)).alloc (.cells #[.int .i64 cost] 2)).alloc (.cells #[(Value.slice Ap plan.length cp)] 49)).alloc (.cells #[.bool there] 4)).alloc (.cells #[.int .i64 0] 3)) (V.heap.size + 1 + 1) #[.int .i64 left] 2 := (blk_alloc (blk_alloc (blk_alloc (blk_alloc zq48 _) _) _) _)
 have m16 : Blk (((((((V.alloc (.cells #[.int .i64 x.f0.f0, .int .i64 x.f0.f1, .int .i64 x.f1.f0, .int .i64 x.f1.f1] 31)).alloc (.cells #[.int .i64 t] 2)).alloc (.cells #[.int .i64 left] 2)).alloc (.cells #[.int .i64 cost] 2)).alloc (.cells #[(Value.slice Ap plan.length cp)] 49)).alloc (.cells #[.bool there] 4)).alloc (.cells #[.int .i64 0] 3)) (V.heap.size + 1 + 1 + 1) #[.int .i64 cost] 2 := (blk_alloc (blk_alloc (blk_alloc zq49 _) _) _)
 have m17 : Blk (((((((V.alloc (.cells #[.int .i64 x.f0.f0, .int .i64 x.f0.f1, .int .i64 x.f1.f0, .int .i64 x.f1.f1] 31)).alloc (.cells #[.int .i64 t] 2)).alloc (.cells #[.int .i64 left] 2)).alloc (.cells #[.int .i64 cost] 2)).alloc (.cells #[(Value.slice Ap plan.length cp)] 49)).alloc (.cells #[.bool there] 4)).alloc (.cells #[.int .i64 0] 3)) (V.heap.size + 1 + 1 + 1 + 1) #[(Value.slice Ap plan.length cp)] 49 := (blk_alloc (blk_alloc zq50 _) _)
 have m18 : Blk (((((((V.alloc (.cells #[.int .i64 x.f0.f0, .int .i64 x.f0.f1, .int .i64 x.f1.f0, .int .i64 x.f1.f1] 31)).alloc (.cells #[.int .i64 t] 2)).alloc (.cells #[.int .i64 left] 2)).alloc (.cells #[.int .i64 cost] 2)).alloc (.cells #[(Value.slice Ap plan.length cp)] 49)).alloc (.cells #[.bool there] 4)).alloc (.cells #[.int .i64 0] 3)) (V.heap.size + 1 + 1 + 1 + 1 + 1) #[.bool there] 4 := (blk_alloc zq51 _)
 have m19 : Blk (((((((V.alloc (.cells #[.int .i64 x.f0.f0, .int .i64 x.f0.f1, .int .i64 x.f1.f0, .int .i64 x.f1.f1] 31)).alloc (.cells #[.int .i64 t] 2)).alloc (.cells #[.int .i64 left] 2)).alloc (.cells #[.int .i64 cost] 2)).alloc (.cells #[(Value.slice Ap plan.length cp)] 49)).alloc (.cells #[.bool there] 4)).alloc (.cells #[.int .i64 0] 3)) (V.heap.size + 1 + 1 + 1 + 1 + 1 + 1) #[.int .i64 0] 3 := (by have h_ := blk_new ((((((V.alloc (.cells #[.int .i64 x.f0.f0, .int .i64 x.f0.f1, .int .i64 x.f1.f0, .int .i64 x.f1.f1] 31)).alloc (.cells #[.int .i64 t] 2)).alloc (.cells #[.int .i64 left] 2)).alloc (.cells #[.int .i64 cost] 2)).alloc (.cells #[(Value.slice Ap plan.length cp)] 49)).alloc (.cells #[.bool there] 4)) (.cells #[.int .i64 0] 3); first | exact h_ | (simp only [World.size_alloc] at h_; exact h_))
 replace mL : Blk (((((((V.alloc (.cells #[.int .i64 x.f0.f0, .int .i64 x.f0.f1, .int .i64 x.f1.f0, .int .i64 x.f1.f1] 31)).alloc (.cells #[.int .i64 t] 2)).alloc (.cells #[.int .i64 left] 2)).alloc (.cells #[.int .i64 cost] 2)).alloc (.cells #[(Value.slice Ap plan.length cp)] 49)).alloc (.cells #[.bool there] 4)).alloc (.cells #[.int .i64 0] 3)) gL #[.int .i64 st.2] 2 := (blk_alloc (blk_alloc (blk_alloc (blk_alloc (blk_alloc (blk_alloc (blk_alloc mL _) _) _) _) _) _) _)
 replace mBe : Blk (((((((V.alloc (.cells #[.int .i64 x.f0.f0, .int .i64 x.f0.f1, .int .i64 x.f1.f0, .int .i64 x.f1.f1] 31)).alloc (.cells #[.int .i64 t] 2)).alloc (.cells #[.int .i64 left] 2)).alloc (.cells #[.int .i64 cost] 2)).alloc (.cells #[(Value.slice Ap plan.length cp)] 49)).alloc (.cells #[.bool there] 4)).alloc (.cells #[.int .i64 0] 3)) gB #[bv] 49 := (blk_alloc (blk_alloc (blk_alloc (blk_alloc (blk_alloc (blk_alloc (blk_alloc mBe _) _) _) _) _) _) _)
 replace mB : Below w.heap.size w (((((((V.alloc (.cells #[.int .i64 x.f0.f0, .int .i64 x.f0.f1, .int .i64 x.f1.f0, .int .i64 x.f1.f1] 31)).alloc (.cells #[.int .i64 t] 2)).alloc (.cells #[.int .i64 left] 2)).alloc (.cells #[.int .i64 cost] 2)).alloc (.cells #[(Value.slice Ap plan.length cp)] 49)).alloc (.cells #[.bool there] 4)).alloc (.cells #[.int .i64 0] 3)) := (below_alloc (below_alloc (below_alloc (below_alloc (below_alloc (below_alloc (below_alloc mB _) _) _) _) _) _) _)
 have hsz_ : w.heap.size ≤ V.heap.size := hs_V
 generalize hW_ : (((((((V.alloc (.cells #[.int .i64 x.f0.f0, .int .i64 x.f0.f1, .int .i64 x.f1.f0, .int .i64 x.f1.f1] 31)).alloc (.cells #[.int .i64 t] 2)).alloc (.cells #[.int .i64 left] 2)).alloc (.cells #[.int .i64 cost] 2)).alloc (.cells #[(Value.slice Ap plan.length cp)] 49)).alloc (.cells #[.bool there] 4)).alloc (.cells #[.int .i64 0] 3)) = W1 at mL mBe m13 m14 m15 m16 m17 m18 m19 mB HP HC hKp hVW ⊢
 clear hW_
 generalize hg13 : V.heap.size = g13 at m13 m14 m15 m16 m17 m18 m19 ⊢
 have hn_L_13 : gL ≠ g13 := by omega
 have hn_Be_13 : gB ≠ g13 := by omega
 have hn_13_L : g13 ≠ gL := hn_L_13.symm
 have hn_13_Be : g13 ≠ gB := hn_Be_13.symm
 have hG13 : w.heap.size ≤ g13 := by omega
 generalize hg14 : g13 + 1 = g14 at m14 m15 m16 m17 m18 m19 ⊢
 have hn_L_14 : gL ≠ g14 := by omega
 have hn_Be_14 : gB ≠ g14 := by omega
 have hn_13_14 : g13 ≠ g14 := by omega
 have hn_14_L : g14 ≠ gL := hn_L_14.symm
 have hn_14_Be : g14 ≠ gB := hn_Be_14.symm
 have hn_14_13 : g14 ≠ g13 := hn_13_14.symm
 have hG14 : w.heap.size ≤ g14 := by omega
 generalize hg15 : g14 + 1 = g15 at m15 m16 m17 m18 m19 ⊢
 have hn_L_15 : gL ≠ g15 := by omega
 have hn_Be_15 : gB ≠ g15 := by omega
 have hn_13_15 : g13 ≠ g15 := by omega
 have hn_14_15 : g14 ≠ g15 := by omega
 have hn_15_L : g15 ≠ gL := hn_L_15.symm
 have hn_15_Be : g15 ≠ gB := hn_Be_15.symm
 have hn_15_13 : g15 ≠ g13 := hn_13_15.symm
 have hn_15_14 : g15 ≠ g14 := hn_14_15.symm
 have hG15 : w.heap.size ≤ g15 := by omega
 generalize hg16 : g15 + 1 = g16 at m16 m17 m18 m19 ⊢
 have hn_L_16 : gL ≠ g16 := by omega
 have hn_Be_16 : gB ≠ g16 := by omega
 have hn_13_16 : g13 ≠ g16 := by omega
 have hn_14_16 : g14 ≠ g16 := by omega
 have hn_15_16 : g15 ≠ g16 := by omega
 have hn_16_L : g16 ≠ gL := hn_L_16.symm
 have hn_16_Be : g16 ≠ gB := hn_Be_16.symm
 have hn_16_13 : g16 ≠ g13 := hn_13_16.symm
 have hn_16_14 : g16 ≠ g14 := hn_14_16.symm
 have hn_16_15 : g16 ≠ g15 := hn_15_16.symm
 have hG16 : w.heap.size ≤ g16 := by omega
 generalize hg17 : g16 + 1 = g17 at m17 m18 m19 ⊢
 have hn_L_17 : gL ≠ g17 := by omega
 have hn_Be_17 : gB ≠ g17 := by omega
 have hn_13_17 : g13 ≠ g17 := by omega
 have hn_14_17 : g14 ≠ g17 := by omega
 have hn_15_17 : g15 ≠ g17 := by omega
 have hn_16_17 : g16 ≠ g17 := by omega
 have hn_17_L : g17 ≠ gL := hn_L_17.symm
 have hn_17_Be : g17 ≠ gB := hn_Be_17.symm
 have hn_17_13 : g17 ≠ g13 := hn_13_17.symm
 have hn_17_14 : g17 ≠ g14 := hn_14_17.symm
 have hn_17_15 : g17 ≠ g15 := hn_15_17.symm
 have hn_17_16 : g17 ≠ g16 := hn_16_17.symm
 have hG17 : w.heap.size ≤ g17 := by omega
 generalize hg18 : g17 + 1 = g18 at m18 m19 ⊢
 have hn_L_18 : gL ≠ g18 := by omega
 have hn_Be_18 : gB ≠ g18 := by omega
 have hn_13_18 : g13 ≠ g18 := by omega
 have hn_14_18 : g14 ≠ g18 := by omega
 have hn_15_18 : g15 ≠ g18 := by omega
 have hn_16_18 : g16 ≠ g18 := by omega
 have hn_17_18 : g17 ≠ g18 := by omega
 have hn_18_L : g18 ≠ gL := hn_L_18.symm
 have hn_18_Be : g18 ≠ gB := hn_Be_18.symm
 have hn_18_13 : g18 ≠ g13 := hn_13_18.symm
 have hn_18_14 : g18 ≠ g14 := hn_14_18.symm
 have hn_18_15 : g18 ≠ g15 := hn_15_18.symm
 have hn_18_16 : g18 ≠ g16 := hn_16_18.symm
 have hn_18_17 : g18 ≠ g17 := hn_17_18.symm
 have hG18 : w.heap.size ≤ g18 := by omega
 generalize hg19 : g18 + 1 = g19 at m19 ⊢
 have hn_L_19 : gL ≠ g19 := by omega
 have hn_Be_19 : gB ≠ g19 := by omega
 have hn_13_19 : g13 ≠ g19 := by omega
 have hn_14_19 : g14 ≠ g19 := by omega
 have hn_15_19 : g15 ≠ g19 := by omega
 have hn_16_19 : g16 ≠ g19 := by omega
 have hn_17_19 : g17 ≠ g19 := by omega
 have hn_18_19 : g18 ≠ g19 := by omega
 have hn_19_L : g19 ≠ gL := hn_L_19.symm
 have hn_19_Be : g19 ≠ gB := hn_Be_19.symm
 have hn_19_13 : g19 ≠ g13 := hn_13_19.symm
 have hn_19_14 : g19 ≠ g14 := hn_14_19.symm
 have hn_19_15 : g19 ≠ g15 := hn_15_19.symm
 have hn_19_16 : g19 ≠ g16 := hn_16_19.symm
 have hn_19_17 : g19 ≠ g17 := hn_17_19.symm
 have hn_19_18 : g19 ≠ g18 := hn_18_19.symm
 have hG19 : w.heap.size ≤ g19 := by omega
 clear hsz_ hl_L hl_Be
 try clear hg19
 try clear hg18
 try clear hg17
 try clear hg16
 try clear hg15
 try clear hg14
 try clear hg13
 have hs_W1 : w.heap.size ≤ W1.heap.size := mB.size
 refine wp_scope_straight ?_
 try clear hn_L_13 hn_L_14 hn_L_15 hn_L_16 hn_L_17 hn_L_18 hn_L_19
 try clear hn_Be_13 hn_Be_14 hn_Be_15 hn_Be_16 hn_Be_17 hn_Be_18 hn_Be_19
 try clear hn_13_14 hn_13_15 hn_13_16 hn_13_17 hn_13_18 hn_13_19
 try clear hn_14_13 hn_14_15 hn_14_16 hn_14_17 hn_14_18 hn_14_19
 try clear hn_15_13 hn_15_14 hn_15_16 hn_15_17 hn_15_18 hn_15_19
 try clear hn_16_13 hn_16_14 hn_16_15 hn_16_17 hn_16_18 hn_16_19
 try clear hn_17_13 hn_17_14 hn_17_15 hn_17_16 hn_17_18 hn_17_19
 try clear hn_18_13 hn_18_14 hn_18_15 hn_18_16 hn_18_17 hn_18_19
 try clear hn_19_13 hn_19_14 hn_19_15 hn_19_16 hn_19_17 hn_19_18
 skip
 have c19_0 := (blk_cell m19 0).trans rfl
 have c18_0 := (blk_cell m18 0).trans rfl
 have cL_0 := (blk_cell mL 0).trans rfl
 have c16_0 := (blk_cell m16 0).trans rfl
 by_cases c0 : there = true ∧ (st.2 < 0 ∨ cost < st.2)
 case neg =>
  have HZ := Lib.hid (HR.out.trans (if_neg c0))
  clear HR
  cases there with
  | false =>
   clear c0
   go_wp2
   refine bodyPost_ret (results_none rfl _ _ _) rfl ?_
   exact ⟨⟨_, rfl⟩, hKp, HP, bv, by rw [HZ.out]; exact ⟨mL, mBe, HC⟩, fun k hk => .inl hk⟩
  | true =>
   have c1 : ¬ (st.2 < 0 ∨ cost < st.2) := fun h => c0 ⟨rfl, h⟩
   have c2 : decide (st.2 < 0) = false := decide_eq_false (fun h => c1 (.inl h))
   have c3 : decide (cost < st.2) = false := decide_eq_false (fun h => c1 (.inr h))
   clear c0 c1
   go_wp2
   refine bodyPost_ret (results_none rfl _ _ _) rfl ?_
   exact ⟨⟨_, rfl⟩, hKp, HP, bv, by rw [HZ.out]; exact ⟨mL, mBe, HC⟩, fun k hk => .inl hk⟩
 case pos =>
  have HZ := Lib.hid (HR.out.trans (if_pos c0))
  clear HR
  obtain ⟨rfl, c1⟩ := c0
  have hor : decide (st.2 < 0) = true ∨ decide (st.2 < 0) = false ∧ decide (cost < st.2) = true := by
   by_cases c4 : st.2 < 0
   ·exact .inl (decide_eq_true c4)
   ·exact .inr ⟨decide_eq_false c4, decide_eq_true (by omega)⟩
  clear c1
  rcases hor with c2 | ⟨c2, c3⟩
  all_goals
   go_wp2_with fail
   skip
   clear c19_0 c18_0 cL_0 c16_0 m13 m14 m15 m18 m19
   replace mL := blk_drew mL
   replace mBe := blk_drew mBe
   replace m16 := blk_drew m16
   replace m17 := blk_drew m17
   replace mB := below_drew1 mB
   replace HP := CoAt.below HP (below_drew1 (Below.refl W1.heap.size W1))
   replace hKp := KpG.step hKp hs_W1 (below_drew1 (Below.refl W1.heap.size W1))
   clear HC
   replace hVW : V.heap.size ≤ (World.drew W1).heap.size := hVW
   refine start_ (n := 5) (S := fun w' => w'.cell? ⟨g17, 0, none⟩ = some ((Value.slice Ap plan.length cp)) ∧ w'.cell? ⟨g16, 0, none⟩ = some (.int .i64 cost)) (ds := [4]) #[false, false, false, false, false] zq1 rfl rfl ⟨((blk_cell m17 0).trans rfl), ((blk_cell m16 0).trans rfl)⟩ (fun hHeld => ?_)
   generalize hWd : World.drew _ = Wx at mL mBe m16 m17 mB HP hKp hHeld hVW ⊢
   clear hWd
   refine ztz (i := 0) (N := some 38) zq1 hHeld ?_
   refine ztz (i := 2) (N := some 40) zq1 hHeld ?_
   refine one_ (i := 1) (N := some 39) #[true, true, true, false, false] rfl rfl zq1 (by decide) (fun K hK => ?_)
   have hcon_ := cloneCo_any (Value.slice Ap plan.length cp) plan w.heap.size Wx HP hpl.1 hpl.2
   have hwx : w.heap.size ≤ Wx.heap.size := mB.size
   have hVx : V.heap.size ≤ Wx.heap.size := hVW
   refine goes_ Try.func108 zq1 rfl #[(Value.slice Ap plan.length cp)] (by rfl) rfl rfl zq17 ?_
   with_reducible refine (hcon_).mono ?_
   rintro e w1 ⟨v1_, rfl, hcl, hb⟩
   refine ⟨_, rfl, ?_⟩
   clear hcon_
   obtain ⟨A1_, c1_, rfl⟩ := hcl.slice
   have hnw : ∀ k, (Value.slice A1_ plan.length c1_).ownBlock = some k → V.heap.size ≤ k := fun k hk => Nat.le_trans hVx (hcl.lt k hk).1
   replace hcl := hcl.lower hwx
   replace HP := CoAt.below HP hb
   replace hKp := KpG.step hKp hwx hb
   replace mL := blk_below mL hb
   replace mBe := blk_below mBe hb
   replace m16 := blk_below m16 hb
   replace m17 := blk_below m17 hb
   replace mB := below_step mB hb
   clear hb
   have hcL := CoAt.ne hcl mL (by decide)
   have hcB := CoAt.ne hcl mBe (by decide)
   refine hK.out _ _ ⟨((blk_cell m17 0).trans rfl), ((blk_cell m16 0).trans rfl)⟩ (fun hHeld => ?_)
   clear hK K
   refine norm_ (by show Act.put _ (some 39) _ = _; simp only [Act.put, List.setIfInBounds_toArray, List.set_cons_zero, List.set_cons_succ, i64_w, i32_w]; rfl) ?_
   refine one_ (i := 3) (N := none) #[true, true, true, true, false] rfl rfl zq1 (by decide) (fun K hK => ?_)
   have hf_ := blk_frozen mBe 0
   have hc_ := (blk_cell mBe 0).trans rfl
   refine skip_ (w1 := ?_) (by rfl) rfl ?_ ?_
   rotate_left
   ·go_simp
    rfl
   clear hf_ hc_
   refine hK.out _ _ ⟨((blk_cell (blk_far (p := ⟨gB, 0, none⟩) m17 hn_17_Be _) 0).trans rfl), ((blk_cell (blk_far (p := ⟨gB, 0, none⟩) m16 hn_16_Be _) 0).trans rfl)⟩ (fun hHeld => ?_)
   clear hK K
   refine last_ (i := 4) (N := none) #[true, true, true, true, true] rfl rfl zq1 (by decide) (fun K hK => ?_)
   have hq_ := blk_far (p := ⟨gB, 0, none⟩) mL hLB (.slice A1_ plan.length c1_)
   have hf_ := blk_frozen hq_ 0
   have hc_ := (blk_cell hq_ 0).trans rfl
   refine skip_ (w1 := ?_) (by rfl) rfl ?_ ?_
   rotate_left
   ·go_simp
    rfl
   refine hK.out _ _ ?_
   clear hK K
   refine done_ zq1 ?_
   skip
   go_wp2
   skip
   refine bodyPost_ret (results_none rfl _ _ _) rfl ?_
   exact ⟨⟨_, rfl⟩, KpG.set (q := ⟨gL, 0, none⟩) (KpG.set (q := ⟨gB, 0, none⟩) hKp hGB (.inr rfl) _) hGL (.inl rfl) _, CoAt.far (q := ⟨gL, 0, none⟩) (CoAt.far (q := ⟨gB, 0, none⟩) HP hpB _) hpL _, _, by rw [HZ.out]; exact ⟨blk_put (blk_far (p := ⟨gB, 0, none⟩) mL hLB _) 0 _ rfl, blk_far (p := ⟨gL, 0, none⟩) (blk_put mBe 0 _ rfl) (fun e => hLB e.symm) _, CoAt.far (q := ⟨gL, 0, none⟩) (CoAt.far (q := ⟨gB, 0, none⟩) hcl hcB _) hcL _⟩, fun k hk => .inr (hnw k hk)⟩
set_option maxRecDepth 100000 in
set_option maxHeartbeats 32000000 in
theorem grow_call {Q : Act → World → Prop} {l_ n_ : Nat} (y0 y1 y2 y3 y4 y5 y6 y7 y8 y9 y10 y11 y13 y14 y23 y26 y27 y28 y29 y30 y31 y32 y33 y34 y35 y36 y37 y38 y39 y40 y41 y42 y43 y44 y45 y46 y47 y48 y49 y50 y51 y52 y53 y54 y55 y56 y57 y58 y59 y60 y61 y62 y63 y64 y65 y66 y67 y68 y69 y70 y71 y72 y73 y74 y75 y76 y77 y78 y79 y80 y81 y82 y83 y84 y85 y86 y87 y88 y89 y90 y91 y92 y93 y94 y95 y96 y97 y98 y99 y100 y101 y102 y103 y104 y105 y106 y107 y108 y109 y110 y111 : Value) (w : World) (gG g15 g16 g17 g18 g19 g20 g22 : Nat) (lb : Array Value) (plan : List S33) (nx : S31) (u E left cost m c0 c1 : Int) (h there : Bool) (pv : Value) (W0 : World) (PP : World → Prop)
  (mB : Below w.heap.size w W0) (mG : Blk W0 gG #[.func (.func 107) #[] lb] 141) (m22 : Blk W0 g22 #[.int .i64 nx.f0.f0, .int .i64 nx.f0.f1, .int .i64 nx.f1.f0, .int .i64 nx.f1.f1] 31) (m15 : Blk W0 g15 #[.int .i64 left] 2) (m16 : Blk W0 g16 #[.int .i64 cost] 2) (m17 : Blk W0 g17 #[pv] 49) (m18 : Blk W0 g18 #[.bool there] 4) (m19 : Blk W0 g19 #[.int .i64 m] 3) (m20 : Blk W0 g20 #[.int .i64 c0, .int .i64 c1] 33)
  (hP : CoAt W0 w.heap.size pv plan) (h20 : some g20 ≠ pv.ownBlock) (hpl : plan.length ≤ 64)
  (hcall : ∀ (v1 : Value) (W1 : World), CoAt W1 w.heap.size v1 (plan ++ [⟨c0, c1⟩]) → Below w.heap.size w W1 → Below w.heap.size W0 W1 → (∀ k, k < W0.heap.size → some k ≠ pv.ownBlock → W1.heap[k]? = W0.heap[k]?) → CoAt W1 w.heap.size pv plan → ((v1.ownBlock = pv.ownBlock ∧ ∀ W' : World, CoAt W' w.heap.size v1 (plan ++ [⟨c0, c1⟩]) → CoAt W' w.heap.size pv plan) ∨ ∃ b, v1.ownBlock = some b ∧ W0.heap.size ≤ b) →
   Calls Try.prog 107 (#[.agg #[.int .i64 nx.f0.f0, .int .i64 nx.f0.f1, .int .i64 nx.f1.f0, .int .i64 nx.f1.f1], .int .i64 E, .int .i64 (wrap64 (left - u)), .int .i64 (wrap64 (cost + u)), v1, .bool (there || h), .int .i64 (wrap64 (m - 1))] ++ lb) W1 (fun e w' => (∃ r, e = .returned r) ∧ PP w'))
  (hKK : ∀ (z92 z93 z94 z95 z96 z97 z98 z99 z100 z101 z102 z103 z104 z105 z106 z107 z108 z109 z110 z111 : Value) (w' : World), PP w' → Q { tmps := #[y0, y1, y2, y3, y4, y5, y6, y7, y8, y9, y10, y11, .pointer (some ⟨gG, 0, none⟩), y13, y14, .pointer (some ⟨g15, 0, none⟩), .pointer (some ⟨g16, 0, none⟩), .pointer (some ⟨g17, 0, none⟩), .pointer (some ⟨g18, 0, none⟩), .pointer (some ⟨g19, 0, none⟩), .pointer (some ⟨g20, 0, none⟩), .int .i64 u, .pointer (some ⟨g22, 0, none⟩), y23, .int .i64 E, .bool h, y26, y27, y28, y29, y30, y31, y32, y33, y34, y35, y36, y37, y38, y39, y40, y41, y42, y43, y44, y45, y46, y47, y48, y49, y50, y51, y52, y53, y54, y55, y56, y57, y58, y59, y60, y61, y62, y63, y64, y65, y66, y67, y68, y69, y70, y71, y72, y73, y74, y75, y76, y77, y78, y79, y80, y81, y82, y83, y84, y85, y86, y87, y88, y89, y90, y91, z92, z93, z94, z95, z96, z97, z98, z99, z100, z101, z102, z103, z104, z105, z106, z107, z108, z109, z110, z111], defers := [] } w') :
  Code.wpIn (Fence.wide.inRound l_) n_ Try.prog (Code.region 12 #[{ dst := some 92, op := Op.load 141 (Operand.tmp 12), type := 141, pos := "glider.go:441", after := #[], guard := none }, { dst := some 93, op := Op.load 31 (Operand.tmp 22), type := 31, pos := "glider.go:441", after := #[], guard := none }, { dst := some 94, op := Op.move (Operand.tmp 24), type := 2, pos := "glider.go:441", after := #[], guard := none }, { dst := some 95, op := Op.load 2 (Operand.tmp 15), type := 2, pos := "glider.go:441", after := #[], guard := none }, { dst := some 96, op := Op.move (Operand.tmp 21), type := 2, pos := "glider.go:441", after := #[], guard := none }, { dst := some 97, op := Op.binOp BinOp.sub 2 (Operand.tmp 95) (Operand.tmp 96) 2, type := 2, pos := "glider.go:441", after := #[{ on := 3, ground := Ground.data }, { on := 4, ground := Ground.data }], guard := none }, { dst := some 98, op := Op.load 2 (Operand.tmp 16), type := 2, pos := "glider.go:441", after := #[], guard := none }, { dst := some 99, op := Op.move (Operand.tmp 21), type := 2, pos := "glider.go:441", after := #[], guard := none }, { dst := some 100, op := Op.binOp BinOp.add 2 (Operand.tmp 98) (Operand.tmp 99) 2, type := 2, pos := "glider.go:441", after := #[{ on := 6, ground := Ground.data }, { on := 7, ground := Ground.data }], guard := none }, { dst := some 101, op := Op.load 49 (Operand.tmp 17), type := 49, pos := "glider.go:441", after := #[], guard := none }, { dst := some 102, op := Op.load 33 (Operand.tmp 20), type := 33, pos := "glider.go:441", after := #[], guard := none }, { dst := some 103, op := Op.buildSlice 49 1 #[(0, Operand.tmp 102)], type := 49, pos := "glider.go:441", after := #[{ on := 10, ground := Ground.data }], guard := none }, { dst := some 104, op := Op.call { callee := Callee.builtin Builtin.append, args := #[Operand.tmp 101, Operand.tmp 103], argTypes := #[49, 49] }, type := 49, pos := "glider.go:441", after := #[{ on := 9, ground := Ground.data }, { on := 11, ground := Ground.data }], guard := none }, { dst := some 105, op := Op.load 4 (Operand.tmp 18), type := 4, pos := "glider.go:441", after := #[], guard := none }, { dst := some 106, op := Op.move (Operand.tmp 105), type := 4, pos := "glider.go:441", after := #[{ on := 13, ground := Ground.data }, { on := 12, ground := Ground.chain }], guard := none }, { dst := some 107, op := Op.move (Operand.tmp 25), type := 4, pos := "glider.go:441", after := #[{ on := 14, ground := Ground.guard }], guard := some (14, false) }, { dst := some 108, op := Op.pick (Operand.tmp 106) (Operand.const (Value.bool true)) (Operand.tmp 107), type := 4, pos := "glider.go:441", after := #[{ on := 14, ground := Ground.data }, { on := 15, ground := Ground.data }], guard := none }, { dst := some 109, op := Op.load 3 (Operand.tmp 19), type := 3, pos := "glider.go:441", after := #[], guard := none }, { dst := some 110, op := Op.binOp BinOp.sub 3 (Operand.tmp 109) (Operand.const (Value.int IntKind.i64 1)) 3, type := 3, pos := "glider.go:441", after := #[{ on := 17, ground := Ground.data }], guard := none }, { dst := some 111, op := Op.call { callee := Callee.value (Operand.tmp 92), args := #[Operand.tmp 93, Operand.tmp 94, Operand.tmp 97, Operand.tmp 100, Operand.tmp 104, Operand.tmp 108, Operand.tmp 110], argTypes := #[31, 2, 2, 2, 49, 4, 3] }, type := 0, pos := "glider.go:441", after := #[{ on := 0, ground := Ground.data }, { on := 1, ground := Ground.data }, { on := 2, ground := Ground.data }, { on := 5, ground := Ground.data }, { on := 8, ground := Ground.data }, { on := 12, ground := Ground.data }, { on := 16, ground := Ground.data }, { on := 18, ground := Ground.data }, { on := 14, ground := Ground.chain }], guard := none }] true) (onlyN Q) { tmps := #[y0, y1, y2, y3, y4, y5, y6, y7, y8, y9, y10, y11, .pointer (some ⟨gG, 0, none⟩), y13, y14, .pointer (some ⟨g15, 0, none⟩), .pointer (some ⟨g16, 0, none⟩), .pointer (some ⟨g17, 0, none⟩), .pointer (some ⟨g18, 0, none⟩), .pointer (some ⟨g19, 0, none⟩), .pointer (some ⟨g20, 0, none⟩), .int .i64 u, .pointer (some ⟨g22, 0, none⟩), y23, .int .i64 E, .bool h, y26, y27, y28, y29, y30, y31, y32, y33, y34, y35, y36, y37, y38, y39, y40, y41, y42, y43, y44, y45, y46, y47, y48, y49, y50, y51, y52, y53, y54, y55, y56, y57, y58, y59, y60, y61, y62, y63, y64, y65, y66, y67, y68, y69, y70, y71, y72, y73, y74, y75, y76, y77, y78, y79, y80, y81, y82, y83, y84, y85, y86, y87, y88, y89, y90, y91, y92, y93, y94, y95, y96, y97, y98, y99, y100, y101, y102, y103, y104, y105, y106, y107, y108, y109, y110, y111], defers := [] } W0 := by
 have hmx : Try.prog.follows .mixedOrders = true := by kernel_rfl
 have hu31 := Try.underlying31
 have hu33 := Try.underlying33
 have hLO : ¬ LetsOut (onlyN Q) := fun ⟨a, w, h1⟩ => h1
 have HQ := Lib.hid hKK
 have HCall := Lib.hid hcall
 clear hKK hcall
 have hs_W0 : w.heap.size ≤ W0.heap.size := mB.size
 have hKb : Below w.heap.size W0 W0 := (Below.refl _ _).mono hs_W0
 have hneG := CoAt.ne hP mG (by decide)
 have hne22 := CoAt.ne hP m22 (by decide)
 have hne15 := CoAt.ne hP m15 (by decide)
 have hne16 := CoAt.ne hP m16 (by decide)
 have hne17 := CoAt.ne hP m17 (by decide)
 have hne18 := CoAt.ne hP m18 (by decide)
 have hne19 := CoAt.ne hP m19 (by decide)
 have hne20 := h20
 replace mG := blk_drew mG
 replace m22 := blk_drew m22
 replace m15 := blk_drew m15
 replace m16 := blk_drew m16
 replace m17 := blk_drew m17
 replace m18 := blk_drew m18
 replace m19 := blk_drew m19
 replace m20 := blk_drew m20
 replace mB := below_drew1 mB
 replace hP := CoAt.below hP (below_drew1 (Below.refl W0.heap.size W0))
 have hkd : ∀ k, k < W0.heap.size → some k ≠ pv.ownBlock → (World.drew W0).heap[k]? = W0.heap[k]? := fun _ _ _ => rfl
 have hbd : Below w.heap.size W0 (World.drew W0) := (below_drew1 (Below.refl W0.heap.size W0)).mono hs_W0
 cases there with
 | false =>
  refine startIn_ (m := 20) (S := fun w' => w'.cell? ⟨gG, 0, none⟩ = some (.func (.func 107) #[] lb) ∧ w'.cell? ⟨g22, 0, none⟩ = some (.int .i64 nx.f0.f0) ∧ w'.cell? ⟨g22, 1, none⟩ = some (.int .i64 nx.f0.f1) ∧ w'.cell? ⟨g22, 2, none⟩ = some (.int .i64 nx.f1.f0) ∧ w'.cell? ⟨g22, 3, none⟩ = some (.int .i64 nx.f1.f1) ∧ w'.cell? ⟨g15, 0, none⟩ = some (.int .i64 left) ∧ w'.cell? ⟨g16, 0, none⟩ = some (.int .i64 cost) ∧ w'.cell? ⟨g17, 0, none⟩ = some (pv) ∧ w'.cell? ⟨g18, 0, none⟩ = some (.bool false) ∧ w'.cell? ⟨g19, 0, none⟩ = some (.int .i64 m) ∧ w'.cell? ⟨g20, 0, none⟩ = some (.int .i64 c0) ∧ w'.cell? ⟨g20, 1, none⟩ = some (.int .i64 c1)) (ds := [19]) #[false, false, false, false, false, false, false, false, false, false, false, false, false, false, false, false, false, false, false, false] zq1 (hLO) zq1 rfl rfl ⟨((blk_cell mG 0).trans rfl), ((blk_cell m22 0).trans rfl), ((blk_cell m22 1).trans rfl), ((blk_cell m22 2).trans rfl), ((blk_cell m22 3).trans rfl), ((blk_cell m15 0).trans rfl), ((blk_cell m16 0).trans rfl), ((blk_cell m17 0).trans rfl), ((blk_cell m18 0).trans rfl), ((blk_cell m19 0).trans rfl), ((blk_cell m20 0).trans rfl), ((blk_cell m20 1).trans rfl)⟩ (fun hHeld => ?_)
  generalize hWd : World.drew _ = Wx at mG m22 m15 m16 m17 m18 m19 m20 hP hkd hbd mB hHeld ⊢
  clear hWd
  refine zpz (i := 2) (N := some 94) zq1 ?_
  refine zpz (i := 4) (N := some 96) zq1 ?_
  refine zpz (i := 7) (N := some 99) zq1 ?_
  refine ztz (i := 0) (N := some 92) zq1 hHeld ?_
  refine ztz (i := 1) (N := some 93) zq1 hHeld ?_
  refine ztz (i := 3) (N := some 95) zq1 hHeld ?_
  refine zpz (i := 5) (N := some 97) zq1 ?_
  refine ztz (i := 6) (N := some 98) zq1 hHeld ?_
  refine zpz (i := 8) (N := some 100) zq1 ?_
  refine ztz (i := 9) (N := some 101) zq1 hHeld ?_
  refine ztz (i := 10) (N := some 102) zq1 hHeld ?_
  refine ztz (i := 13) (N := some 105) zq1 hHeld ?_
  refine ztz (i := 17) (N := some 109) zq1 hHeld ?_
  refine zpz (i := 18) (N := some 110) zq1 ?_
  refine one_ (i := 11) (N := some 103) #[true, true, true, true, true, true, true, true, true, true, true, true, false, true, false, false, false, true, true, false] rfl rfl zq1 (by decide) (fun K hK => ?_)
  have hsz_ : Wx.heap.size ≤ (Wx.alloc (.cells #[.int .i64 c0, .int .i64 c1] 33)).heap.size := (below_alloc (Below.refl Wx.heap.size Wx) (.cells #[.int .i64 c0, .int .i64 c1] 33)).size
  refine value_ (w1 := ?_) (v := ?_) (by rfl) rfl ?_ ?_
  rotate_left 2
  ·go_simp
   constructor
   ·rfl
   ·rfl
  have mG_ := blk_alloc mG (.cells #[.int .i64 c0, .int .i64 c1] 33)
  have m22_ := blk_alloc m22 (.cells #[.int .i64 c0, .int .i64 c1] 33)
  have m15_ := blk_alloc m15 (.cells #[.int .i64 c0, .int .i64 c1] 33)
  have m16_ := blk_alloc m16 (.cells #[.int .i64 c0, .int .i64 c1] 33)
  have m17_ := blk_alloc m17 (.cells #[.int .i64 c0, .int .i64 c1] 33)
  have m18_ := blk_alloc m18 (.cells #[.int .i64 c0, .int .i64 c1] 33)
  have m19_ := blk_alloc m19 (.cells #[.int .i64 c0, .int .i64 c1] 33)
  have m20_ := blk_alloc m20 (.cells #[.int .i64 c0, .int .i64 c1] 33)
  refine hK.out _ _ ⟨((blk_cell mG_ 0).trans rfl), ((blk_cell m22_ 0).trans rfl), ((blk_cell m22_ 1).trans rfl), ((blk_cell m22_ 2).trans rfl), ((blk_cell m22_ 3).trans rfl), ((blk_cell m15_ 0).trans rfl), ((blk_cell m16_ 0).trans rfl), ((blk_cell m17_ 0).trans rfl), ((blk_cell m18_ 0).trans rfl), ((blk_cell m19_ 0).trans rfl), ((blk_cell m20_ 0).trans rfl), ((blk_cell m20_ 1).trans rfl)⟩ (fun hHeld => ?_)
  clear hK K
  refine norm_ zq52 ?_
  refine one_ (i := 12) (N := some 104) #[true, true, true, true, true, true, true, true, true, true, true, true, true, true, false, false, false, true, true, false] rfl rfl zq1 (by decide) (fun K hK => ?_)
  refine step_append_back (w0 := w) w.heap.size (by rfl) (.tmp 101) (.tmp 103) 49 33 (.agg #[.int .i64 0, .int .i64 0]) 16 rfl Try.underlying49 info33 rfl (by decide) pv plan.length (cosC plan) [.int .i64 c0, .int .i64 c1] rfl rfl rfl (cosC_one [⟨c0, c1⟩]) hP mB mB.size (by omega) ?_
  intro v1 w12 hown hB1 hgr hst hback
  have HP1 : CoAt w12 w.heap.size v1 (plan ++ [⟨c0, c1⟩]) := by unfold CoAt; rw [cosC_snoc, List.length_append]; exact hown
  have hback2 : (v1.ownBlock = pv.ownBlock ∧ ∀ W' : World, CoAt W' w.heap.size v1 (plan ++ [⟨c0, c1⟩]) → CoAt W' w.heap.size pv plan) ∨ ∃ b, v1.ownBlock = some b ∧ W0.heap.size ≤ b := by
   rcases hback with ⟨e1, e2⟩ | ⟨b, e1, e2⟩
   ·exact .inl ⟨e1, fun W' hW => e2 W' (by unfold CoAt at hW; rw [cosC_snoc, List.length_append] at hW; exact hW)⟩
   ·exact .inr ⟨b, e1, Nat.le_trans hbd.size e2⟩
  clear hback hown
  replace mG := blk_grown mG hgr hneG
  replace m22 := blk_grown m22 hgr hne22
  replace m15 := blk_grown m15 hgr hne15
  replace m16 := blk_grown m16 hgr hne16
  replace m17 := blk_grown m17 hgr hne17
  replace m18 := blk_grown m18 hgr hne18
  replace m19 := blk_grown m19 hgr hne19
  replace m20 := blk_grown m20 hgr hne20
  have hk12 : ∀ k, k < W0.heap.size → some k ≠ pv.ownBlock → w12.heap[k]? = W0.heap[k]? := fun k hk hn => (hgr.block k (Nat.lt_of_lt_of_le hk hbd.size) hn).trans (hkd k hk hn)
  have hb12 : Below w.heap.size W0 w12 := hbd.grown hgr (Nat.le_trans hs_W0 hbd.size) (own_base hP)
  refine hK.out _ _ ⟨((blk_cell mG 0).trans rfl), ((blk_cell m22 0).trans rfl), ((blk_cell m22 1).trans rfl), ((blk_cell m22 2).trans rfl), ((blk_cell m22 3).trans rfl), ((blk_cell m15 0).trans rfl), ((blk_cell m16 0).trans rfl), ((blk_cell m17 0).trans rfl), ((blk_cell m18 0).trans rfl), ((blk_cell m19 0).trans rfl), ((blk_cell m20 0).trans rfl), ((blk_cell m20 1).trans rfl)⟩ (fun hHeld => ?_)
  clear hK K
  refine norm_ zq53 ?_
  refine zpz (i := 14) (N := some 106) zq1 ?_
  refine zpz (i := 15) (N := some 107) zq1 ?_
  refine zpz (i := 16) (N := some 108) zq1 ?_
  refine last_ (i := 19) (N := some 111) #[true, true, true, true, true, true, true, true, true, true, true, true, true, true, true, true, true, true, true, true] rfl rfl zq1 (by decide) (fun K hK => ?_)
  have hcon_ := HCall.out v1 w12 HP1 hB1 hb12 hk12 hst hback2
  refine goesV_ Try.func107 zq1 rfl #[.agg #[.int .i64 nx.f0.f0, .int .i64 nx.f0.f1, .int .i64 nx.f1.f0, .int .i64 nx.f1.f1], .int .i64 E, .int .i64 (wrap64 (left - u)), .int .i64 (wrap64 (cost + u)), v1, .bool (false || h), .int .i64 (wrap64 (m - 1))] lb (by rfl) rfl rfl rfl zq17 ?_
  with_reducible refine hcon_.mono ?_
  rintro e w19 ⟨⟨r_, rfl⟩, hPP⟩
  refine ⟨_, rfl, ?_⟩
  clear hcon_
  refine hK.out _ _ ?_
  clear hK K
  refine norm_ zq54 ?_
  refine done_ zq1 ?_
  skip
  exact HQ.out _ _ _ _ _ _ _ _ _ _ _ _ _ _ _ _ _ _ _ _ _ hPP
 | true =>
  refine startIn_ (m := 20) (S := fun w' => w'.cell? ⟨gG, 0, none⟩ = some (.func (.func 107) #[] lb) ∧ w'.cell? ⟨g22, 0, none⟩ = some (.int .i64 nx.f0.f0) ∧ w'.cell? ⟨g22, 1, none⟩ = some (.int .i64 nx.f0.f1) ∧ w'.cell? ⟨g22, 2, none⟩ = some (.int .i64 nx.f1.f0) ∧ w'.cell? ⟨g22, 3, none⟩ = some (.int .i64 nx.f1.f1) ∧ w'.cell? ⟨g15, 0, none⟩ = some (.int .i64 left) ∧ w'.cell? ⟨g16, 0, none⟩ = some (.int .i64 cost) ∧ w'.cell? ⟨g17, 0, none⟩ = some (pv) ∧ w'.cell? ⟨g18, 0, none⟩ = some (.bool true) ∧ w'.cell? ⟨g19, 0, none⟩ = some (.int .i64 m) ∧ w'.cell? ⟨g20, 0, none⟩ = some (.int .i64 c0) ∧ w'.cell? ⟨g20, 1, none⟩ = some (.int .i64 c1)) (ds := [19]) #[false, false, false, false, false, false, false, false, false, false, false, false, false, false, false, false, false, false, false, false] zq1 (hLO) zq1 rfl rfl ⟨((blk_cell mG 0).trans rfl), ((blk_cell m22 0).trans rfl), ((blk_cell m22 1).trans rfl), ((blk_cell m22 2).trans rfl), ((blk_cell m22 3).trans rfl), ((blk_cell m15 0).trans rfl), ((blk_cell m16 0).trans rfl), ((blk_cell m17 0).trans rfl), ((blk_cell m18 0).trans rfl), ((blk_cell m19 0).trans rfl), ((blk_cell m20 0).trans rfl), ((blk_cell m20 1).trans rfl)⟩ (fun hHeld => ?_)
  generalize hWd : World.drew _ = Wx at mG m22 m15 m16 m17 m18 m19 m20 hP hkd hbd mB hHeld ⊢
  clear hWd
  refine zpz (i := 2) (N := some 94) zq1 ?_
  refine zpz (i := 4) (N := some 96) zq1 ?_
  refine zpz (i := 7) (N := some 99) zq1 ?_
  refine ztz (i := 0) (N := some 92) zq1 hHeld ?_
  refine ztz (i := 1) (N := some 93) zq1 hHeld ?_
  refine ztz (i := 3) (N := some 95) zq1 hHeld ?_
  refine zpz (i := 5) (N := some 97) zq1 ?_
  refine ztz (i := 6) (N := some 98) zq1 hHeld ?_
  refine zpz (i := 8) (N := some 100) zq1 ?_
  refine ztz (i := 9) (N := some 101) zq1 hHeld ?_
  refine ztz (i := 10) (N := some 102) zq1 hHeld ?_
  refine ztz (i := 13) (N := some 105) zq1 hHeld ?_
  refine ztz (i := 17) (N := some 109) zq1 hHeld ?_
  refine zpz (i := 18) (N := some 110) zq1 ?_
  refine one_ (i := 11) (N := some 103) #[true, true, true, true, true, true, true, true, true, true, true, true, false, true, false, false, false, true, true, false] rfl rfl zq1 (by decide) (fun K hK => ?_)
  have hsz_ : Wx.heap.size ≤ (Wx.alloc (.cells #[.int .i64 c0, .int .i64 c1] 33)).heap.size := (below_alloc (Below.refl Wx.heap.size Wx) (.cells #[.int .i64 c0, .int .i64 c1] 33)).size
  refine value_ (w1 := ?_) (v := ?_) (by rfl) rfl ?_ ?_
  rotate_left 2
  ·go_simp
   constructor
   ·rfl
   ·rfl
  have mG_ := blk_alloc mG (.cells #[.int .i64 c0, .int .i64 c1] 33)
  have m22_ := blk_alloc m22 (.cells #[.int .i64 c0, .int .i64 c1] 33)
  have m15_ := blk_alloc m15 (.cells #[.int .i64 c0, .int .i64 c1] 33)
  have m16_ := blk_alloc m16 (.cells #[.int .i64 c0, .int .i64 c1] 33)
  have m17_ := blk_alloc m17 (.cells #[.int .i64 c0, .int .i64 c1] 33)
  have m18_ := blk_alloc m18 (.cells #[.int .i64 c0, .int .i64 c1] 33)
  have m19_ := blk_alloc m19 (.cells #[.int .i64 c0, .int .i64 c1] 33)
  have m20_ := blk_alloc m20 (.cells #[.int .i64 c0, .int .i64 c1] 33)
  refine hK.out _ _ ⟨((blk_cell mG_ 0).trans rfl), ((blk_cell m22_ 0).trans rfl), ((blk_cell m22_ 1).trans rfl), ((blk_cell m22_ 2).trans rfl), ((blk_cell m22_ 3).trans rfl), ((blk_cell m15_ 0).trans rfl), ((blk_cell m16_ 0).trans rfl), ((blk_cell m17_ 0).trans rfl), ((blk_cell m18_ 0).trans rfl), ((blk_cell m19_ 0).trans rfl), ((blk_cell m20_ 0).trans rfl), ((blk_cell m20_ 1).trans rfl)⟩ (fun hHeld => ?_)
  clear hK K
  refine norm_ zq52 ?_
  refine one_ (i := 12) (N := some 104) #[true, true, true, true, true, true, true, true, true, true, true, true, true, true, false, false, false, true, true, false] rfl rfl zq1 (by decide) (fun K hK => ?_)
  refine step_append_back (w0 := w) w.heap.size (by rfl) (.tmp 101) (.tmp 103) 49 33 (.agg #[.int .i64 0, .int .i64 0]) 16 rfl Try.underlying49 info33 rfl (by decide) pv plan.length (cosC plan) [.int .i64 c0, .int .i64 c1] rfl rfl rfl (cosC_one [⟨c0, c1⟩]) hP mB mB.size (by omega) ?_
  intro v1 w12 hown hB1 hgr hst hback
  have HP1 : CoAt w12 w.heap.size v1 (plan ++ [⟨c0, c1⟩]) := by unfold CoAt; rw [cosC_snoc, List.length_append]; exact hown
  have hback2 : (v1.ownBlock = pv.ownBlock ∧ ∀ W' : World, CoAt W' w.heap.size v1 (plan ++ [⟨c0, c1⟩]) → CoAt W' w.heap.size pv plan) ∨ ∃ b, v1.ownBlock = some b ∧ W0.heap.size ≤ b := by
   rcases hback with ⟨e1, e2⟩ | ⟨b, e1, e2⟩
   ·exact .inl ⟨e1, fun W' hW => e2 W' (by unfold CoAt at hW; rw [cosC_snoc, List.length_append] at hW; exact hW)⟩
   ·exact .inr ⟨b, e1, Nat.le_trans hbd.size e2⟩
  clear hback hown
  replace mG := blk_grown mG hgr hneG
  replace m22 := blk_grown m22 hgr hne22
  replace m15 := blk_grown m15 hgr hne15
  replace m16 := blk_grown m16 hgr hne16
  replace m17 := blk_grown m17 hgr hne17
  replace m18 := blk_grown m18 hgr hne18
  replace m19 := blk_grown m19 hgr hne19
  replace m20 := blk_grown m20 hgr hne20
  have hk12 : ∀ k, k < W0.heap.size → some k ≠ pv.ownBlock → w12.heap[k]? = W0.heap[k]? := fun k hk hn => (hgr.block k (Nat.lt_of_lt_of_le hk hbd.size) hn).trans (hkd k hk hn)
  have hb12 : Below w.heap.size W0 w12 := hbd.grown hgr (Nat.le_trans hs_W0 hbd.size) (own_base hP)
  refine hK.out _ _ ⟨((blk_cell mG 0).trans rfl), ((blk_cell m22 0).trans rfl), ((blk_cell m22 1).trans rfl), ((blk_cell m22 2).trans rfl), ((blk_cell m22 3).trans rfl), ((blk_cell m15 0).trans rfl), ((blk_cell m16 0).trans rfl), ((blk_cell m17 0).trans rfl), ((blk_cell m18 0).trans rfl), ((blk_cell m19 0).trans rfl), ((blk_cell m20 0).trans rfl), ((blk_cell m20 1).trans rfl)⟩ (fun hHeld => ?_)
  clear hK K
  refine norm_ zq53 ?_
  refine zpz (i := 14) (N := some 106) zq1 ?_
  refine pure_ (i := 15) (N := some 107) (v := undef) (a' := ?_) #[true, true, true, true, true, true, true, true, true, true, true, true, true, true, true, true, false, true, true, false] rfl rfl zq1 (fun _ _ _ h => h) (Or.inr ⟨by rfl, rfl⟩) ?_ ?_
  rotate_left
  ·simp only [Act.put, List.setIfInBounds_toArray, List.set_cons_zero, List.set_cons_succ, i64_w, i32_w]
   rfl
  refine zpz (i := 16) (N := some 108) zq1 ?_
  refine last_ (i := 19) (N := some 111) #[true, true, true, true, true, true, true, true, true, true, true, true, true, true, true, true, true, true, true, true] rfl rfl zq1 (by decide) (fun K hK => ?_)
  have hcon_ := HCall.out v1 w12 HP1 hB1 hb12 hk12 hst hback2
  refine goesV_ Try.func107 zq1 rfl #[.agg #[.int .i64 nx.f0.f0, .int .i64 nx.f0.f1, .int .i64 nx.f1.f0, .int .i64 nx.f1.f1], .int .i64 E, .int .i64 (wrap64 (left - u)), .int .i64 (wrap64 (cost + u)), v1, .bool (true || h), .int .i64 (wrap64 (m - 1))] lb (by rfl) rfl rfl rfl zq17 ?_
  with_reducible refine hcon_.mono ?_
  rintro e w19 ⟨⟨r_, rfl⟩, hPP⟩
  refine ⟨_, rfl, ?_⟩
  clear hcon_
  refine hK.out _ _ ?_
  clear hK K
  refine norm_ zq54 ?_
  refine done_ zq1 ?_
  skip
  exact HQ.out _ _ _ _ _ _ _ _ _ _ _ _ _ _ _ _ _ _ _ _ _ hPP
end Go.Proofs.Ytmhaiihjfgfaoaa.Gl
end
