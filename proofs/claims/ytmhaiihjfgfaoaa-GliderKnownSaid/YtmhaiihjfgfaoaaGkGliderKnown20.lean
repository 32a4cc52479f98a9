/- Part 20 of the proof of GliderKnown: what the functions compute. No condition. -/
import Derived.Test.YtmhaiihjfgfaoaaGkGliderKnown3
import Derived.Test.YtmhaiihjfgfaoaaGkGliderKnown19
set_option linter.unusedVariables false
set_option linter.unusedSimpArgs false
section
/- The search with a further dive. -/
namespace Go.Proofs.Ytmhaiihjfgfaoaa.Gl
open Go.RowKit Go.Shelf Go.Proofs.YtmhaiihjfgfaoaaW.PrintWords Go.Proofs.YtmhaiihjfgfaoaaW.PrintLast Go.Proofs.YtmhaiihjfgfaoaaW.PrintMore Go.Proofs.Ytmhaiihjfgfaoaa.Pr Go.Proofs.YtmhaiihjfgfaoaaW.Round
set_option linter.unusedVariables false
set_option linter.unusedSimpArgs false
attribute [local go_sem] max2_int min2_int max_two min_two max_four
attribute [local go_sem] Oper.semAt_some
theorem GrowQ.grownO {w : World} {gL gB B : Nat} {R : List S33 × Int} {plan : List S33} {pv bv : Value} {V X Y : World} {row : Option Nat} (hw : w.heap.size ≤ V.heap.size) (hV : V.heap.size ≤ B) (h : GrowQ w gL gB R plan pv bv V X) (hg : X.grownBy Y row) (hr : ∀ r, row = some r → B ≤ r ∧ ∃ o : Obj, X.heap[r]? = some o ∧ o.isCells = false) : GrowQ w gL gB R plan pv bv V Y := by
 obtain ⟨h1, h2, bv', ⟨h3, h4, h5⟩, h6⟩ := h
 exact ⟨KpG.ownFrom hw hV () X Y row h1 hg hr, h2.grownO hg hr, bv', ⟨blk_grownO h3 hg hr, blk_grownO h4 hg hr, h5.grownO hg hr⟩, h6⟩
theorem GrowQ.below {w : World} {gL gB : Nat} {R : List S33 × Int} {plan : List S33} {pv bv : Value} {V X Y : World} (h : GrowQ w gL gB R plan pv bv V X) (hX : w.heap.size ≤ X.heap.size) (hb : Below X.heap.size X Y) : GrowQ w gL gB R plan pv bv V Y := by
 obtain ⟨h1, h2, bv', ⟨h3, h4, h5⟩, h6⟩ := h
 exact ⟨h1.step hX hb, h2.below hb, bv', ⟨blk_below h3 hb, blk_below h4 hb, h5.below hb⟩, h6⟩
/-- What a search one dive deeper leaves, for the shorter plan. -/
theorem GrowQ.back {w : World} {gL gB : Nat} {R R0 : List S33 × Int} {plan : List S33} {c : S33} {pv bv v1 : Value} {W0 W1 W : World} {e : Ending} (hA : BestAt w gL gB bv R0 W1) (h1 : Below w.heap.size W0 W1) (hk : ∀ k, k < W0.heap.size → some k ≠ pv.ownBlock → W1.heap[k]? = W0.heap[k]?) (hP : CoAt W0 w.heap.size pv plan) (hst : CoAt W1 w.heap.size pv plan)
  (hb : (v1.ownBlock = pv.ownBlock ∧ ∀ W' : World, CoAt W' w.heap.size v1 (plan ++ [c]) → CoAt W' w.heap.size pv plan) ∨ ∃ b, v1.ownBlock = some b ∧ W0.heap.size ≤ b)
  (h : GrowPost w gL gB R (plan ++ [c]) v1 bv W1 e W) : GrowQ w gL gB R plan pv bv W0 W := by
 obtain ⟨_, h2, h3, bv', h4, h5⟩ := h
 have k1 : KpG w gL gB pv.ownBlock W0 W1 := ⟨h1, fun k hk1 _ _ n3 => hk k hk1 n3⟩
 refine ⟨k1.then h2 ?_, ?_, bv', h4, fun k hk2 => ?_⟩
 ·rcases hb with ⟨e1, _⟩ | ⟨b, e1, e2⟩
  ·exact .inl e1
  ·exact .inr ⟨b, e1, e2⟩
 ·rcases hb with ⟨_, e2⟩ | ⟨b, e1, e2⟩
  ·exact e2 W h3
  ·refine hst.keepG h2 (CoAt.ne hst hA.1 (by decide)) (CoAt.ne hst hA.2.1 (by decide)) (fun k hk2 he => ?_)
   rw [e1] at he
   injection he with he
   have := (hP.lt k hk2).2
   omega
 ·rcases h5 k hk2 with h5 | h5
  ·exact .inl h5
  ·exact .inr (Nat.le_trans h1.size h5)
theorem keepsFrom_kpG {w : World} {gL gB B : Nat} {R : List S33 × Int} {plan : List S33} {pv bv : Value} {X W : World} (hA : BestAt w gL gB bv R X) (hP : CoAt X w.heap.size pv plan) (h : KpG w gL gB pv.ownBlock X W) : KeepsFrom B X W :=
 ⟨h.1.size, fun k ob _ h0 ho => by
  have hne : ∀ {g : Nat} {cs : Array Value} {t : TypeId}, Blk X g cs t → k ≠ g := by
   rintro g cs t hb rfl
   rw [show X.heap[_]? = _ from hb] at h0
   cases h0
   cases ho
  refine (h.2 k (Array.getElem?_eq_some_iff.1 h0).1 (hne hA.1) (hne hA.2.1) (fun e => ?_)).trans h0
  obtain ⟨cells, hc⟩ := own_typed hP k e.symm
  rw [hc] at h0
  cases h0
  cases ho⟩
/-- A search with n further dives does what growV says. -/
def GrowOK (w : World) (s : Sea) (v : Veh) (p : S81) (g gX gV gK gG gL gB : Nat) (B7 B8 : Option Addr) (d7 d8 : Nat) (n : Nat) : Prop := ∀ (x : S31) (t left cost m : Int) (plan : List S33) (there : Bool) (st : List S33 × Int) (pv bv : Value) (V : World), m = (n : Int) → 0 < plan.length + n → plan.length + n ≤ 3 → BoxOK x → (0 ≤ t ∧ t ≤ 1073741824 + (plan.length : Int) * 131072) → (0 ≤ left ∧ left ≤ 1073741824) → (0 ≤ cost ∧ cost ≤ (plan.length : Int) * 1073741824) →
 EnvZ w s v p g gX gV gK gG gL gB B7 B8 d7 d8 V → BestAt w gL gB bv st V → CoAt V w.heap.size pv plan → (∀ k, bv.ownBlock = some k → some k ≠ pv.ownBlock) →
 Calls Try.prog 107 #[.agg #[.int .i64 x.f0.f0, .int .i64 x.f0.f1, .int .i64 x.f1.f0, .int .i64 x.f1.f1], .int .i64 t, .int .i64 left, .int .i64 cost, pv, .bool there, .int .i64 m, .pointer (some ⟨gL, 0, none⟩), .pointer (some ⟨gB, 0, none⟩), .pointer (some ⟨gX, 0, none⟩), .pointer (some ⟨gV, 0, none⟩), .pointer (some ⟨gK, 0, none⟩), .pointer (some ⟨gG, 0, none⟩)] V (GrowPost w gL gB (growV s v p n x t left cost plan there st) plan pv bv V)
set_option maxRecDepth 100000 in
set_option maxHeartbeats 64000000 in
theorem grow_succ (w : World) (s : Sea) (v : Veh) (p : S81) (g gX gV gK gG gL gB : Nat) (B7 B8 : Option Addr) (d7 d8 : Nat) (hTA : ∀ W', Below w.heap.size w W' → Blk W' g #[.int .i64 s.nx, .int .i64 s.ny, .int .i64 s.cell, .int .i64 s.slot, .int .i64 s.slots, .int .i64 s.layers, .int .i64 s.most, .slice B7 s.shores.length d7, .slice B8 s.currents.length d8, .int .i64 v.speed, .int .i64 v.dive, .int .i64 v.use.f0, .int .i64 v.use.f1, .int .i64 v.drift.f0, .int .i64 v.drift.f1, .int .i64 v.reserve] 110 → TripAt W' g s v) (hS : SeaV s) (hV : VehN v) (hv : vehB v = true) (hGL : w.heap.size ≤ gL) (hGB : w.heap.size ≤ gB) (n : Nat) (IH : GrowOK w s v p g gX gV gK gG gL gB B7 B8 d7 d8 n)
  (x : S31) (t left cost m : Int) (plan : List S33) (there : Bool) (st : List S33 × Int) (Ap : Option Addr) (cp : Nat) (bv : Value) (V : World) (hm : m = (n : Int) + 1) (hpl : plan.length + (n + 1) ≤ 3) (hx : BoxOK x) (ht : 0 ≤ t ∧ t ≤ 1073741824 + (plan.length : Int) * 131072) (hl : 0 ≤ left ∧ left ≤ 1073741824) (hc : 0 ≤ cost ∧ cost ≤ (plan.length : Int) * 1073741824)
  (hE : EnvZ w s v p g gX gV gK gG gL gB B7 B8 d7 d8 V) (hA : BestAt w gL gB bv st V) (hP : CoAt V w.heap.size (Value.slice Ap plan.length cp) plan) (hbn : ∀ k, bv.ownBlock = some k → some k ≠ ((Value.slice Ap plan.length cp)).ownBlock) :
  Calls Try.prog 107 #[.agg #[.int .i64 x.f0.f0, .int .i64 x.f0.f1, .int .i64 x.f1.f0, .int .i64 x.f1.f1], .int .i64 t, .int .i64 left, .int .i64 cost, (Value.slice Ap plan.length cp), .bool there, .int .i64 m, .pointer (some ⟨gL, 0, none⟩), .pointer (some ⟨gB, 0, none⟩), .pointer (some ⟨gX, 0, none⟩), .pointer (some ⟨gV, 0, none⟩), .pointer (some ⟨gK, 0, none⟩), .pointer (some ⟨gG, 0, none⟩)] V (GrowPost w gL gB (growV s v p (n + 1) x t left cost plan there st) plan (Value.slice Ap plan.length cp) bv V) := by
 have hu31 := Try.underlying31
 have hu33 := Try.underlying33
 have hu27 := Try.underlying27
 have hu29 := Try.underlying29
 have hu81 := Try.underlying81
 have hfd27_1 : ∀ (x0_ x1_ : Value) (W_ : World), (Instr.field 27 (.agg #[x0_, x1_]) 1).run Try.prog W_ = .ok (x1_) W_ := fun _ _ W_ => by kernel_rfl
 have HTA := Lib.hid hTA
 clear hTA
 have HS : Hid (growV s v p (n + 1) x t left cost plan there st = (crsL s).foldl (stepG s v p n x t left cost plan there) st) := Lib.hid (growV_succ _ _ _ _ _ _ _ _ _ _ _)
 have HD0 : Hid (diveE s v x t ≠ 0 → growV s v p (n + 1) x t left cost plan there st = st) := Lib.hid (fun hd => (growV_succ _ _ _ _ _ _ _ _ _ _ _).trans (foldl_same _ _ (fun st c _ => by unfold stepG; rw [if_pos hd]; exact tryV_same _ _ _ _ _)))
 generalize growV s v p (n + 1) x t left cost plan there st = RR at *
 have hmz : (m == 0) = false := beq_eq_false_iff_ne.2 (by omega)
 have HMM := Lib.hid hm
 clear hm
 obtain ⟨mB, mT, mX, mV, mK, mG⟩ := hE
 obtain ⟨mL, mBe, HC⟩ := hA
 have hsV : w.heap.size ≤ V.heap.size := mB.size
 have hltL := blk_lt mL
 have hltB := blk_lt mBe
 have HBN := Lib.hid hbn
 clear hbn
 have hPlt : ∀ k, ((Value.slice Ap plan.length cp)).ownBlock = some k → k < V.heap.size := fun k hk => (hP.lt k hk).2
 refine (callsIn_wide (n := 7)).1 ?_
 refine callsIn_of_wp_marks Try.func107 rfl trivial ?_ rfl
 simp only [Try.ntmps107, List.size_toArray, List.length_cons, List.length_nil, Nat.reduceAdd, Nat.reduceSub, Array.replicate_succ, Array.replicate_zero, List.push_toArray, List.append_toArray, List.nil_append, List.cons_append]
 gi_wp2_with fail
 have hs_V : w.heap.size ≤ V.heap.size := mB.size
 have hb0 := (below_alloc (below_alloc (below_alloc (below_alloc (below_alloc (below_alloc (below_alloc (Below.refl V.heap.size V) (.cells #[.int .i64 x.f0.f0, .int .i64 x.f0.f1, .int .i64 x.f1.f0, .int .i64 x.f1.f1] 31)) (.cells #[.int .i64 t] 2)) (.cells #[.int .i64 left] 2)) (.cells #[.int .i64 cost] 2)) (.cells #[(Value.slice Ap plan.length cp)] 49)) (.cells #[.bool there] 4)) (.cells #[.int .i64 m] 3))
 have hVW := hb0.size
 have HP := CoAt.below hP hb0
 replace HC := CoAt.below HC hb0
 have hKp : KpG w gL gB ((Value.slice Ap plan.length cp)).ownBlock V _ := KpG.of_below hs_V hb0
 clear hb0 hP
 have hl_T := blk_lt mT
 have hl_X := blk_lt mX
 have hl_V := blk_lt mV
 have hl_K := blk_lt mK
 have hl_G := blk_lt mG
 have hl_L := blk_lt mL
 have hl_Be := blk_lt mBe
 have m13 : Blk (((((((V.alloc (.cells #[.int .i64 x.f0.f0, .int .i64 x.f0.f1, .int .i64 x.f1.f0, .int .i64 x.f1.f1] 31)).alloc (.cells #[.int .i64 t] 2)).alloc (.cells #[.int .i64 left] 2)).alloc (.cells #[.int .i64 cost] 2)).alloc (.cells #[(Value.slice Ap plan.length cp)] 49)).alloc (.cells #[.bool there] 4)).alloc (.cells #[.int .i64 m] 3)) (V.heap.size) #[.int .i64 x.f0.f0, .int .i64 x.f0.f1, .int .i64 x.f1.f0, .int .i64 x.f1.f1] 31 := (blk_alloc (blk_alloc (blk_alloc (blk_alloc (blk_alloc (blk_alloc zq46 _) _) _) _) _) _)
 have m14 : Blk (((((((V.alloc (.cells #[.int .i64 x.f0.f0, .int .i64 x.f0.f1, .int .i64 x.f1.f0, .int .i64 x.f1.f1] 31)).alloc (.cells #[.int .i64 t] 2)).alloc (.cells #[.int .i64 left] 2)).alloc (.cells #[.int .i64 cost] 2)).alloc (.cells #[(Value.slice Ap plan.length cp)] 49)).alloc (.cells #[.bool there] 4)).alloc (.cells #[.int .i64 m] 3)) (V.heap.size + 1) #[.int .i64 t] 2 := (blk_alloc (blk_alloc (blk_alloc (blk_alloc (blk_alloc zq47 _) _) _) _) _)
 have m15 : Blk (((((((V.alloc (.cells #[.int .i64 x.f0.f0, .int .i64 x.f0.f1, .int .i64 x.f1.f0, .int .i64 x.f1.f1] 31)).alloc (.cells #[.int .i64 t] 2)).alloc (.cells #[.int .i64 left] 2)).alloc (.cells #[.int .i64 cost] 2)).alloc (.cells #[(Value.slice Ap plan.length cp)] 49)).alloc (.cells #[.bool there] 4)).alloc (.cells #[.int .i64 m] 3)) (V.heap.size + 1 + 1) #[.int .i64 left] 2 := (blk_alloc (blk_alloc (blk_alloc (blk_alloc zq48 _) _) _) _)
 have m16 : Blk (((((((V.alloc (.cells #[.int .i64 x.f0.f0, .int .i64 x.f0.f1, .int .i64 x.f1.f0, .int .i64 x.f1.f1] 31)).alloc (.cells #[.int .i64 t] 2)).alloc (.cells #[.int .i64 left] 2)).alloc (.cells #[.int .i64 cost] 2)).alloc (.cells #[(Value.slice Ap plan.length cp)] 49)).alloc (.cells #[.bool there] 4)).alloc (.cells #[.int .i64 m] 3)) (V.heap.size + 1 + 1 + 1) #[.int .i64 cost] 2 := (blk_alloc (blk_alloc (blk_alloc zq49 _) _) _)
 have m17 : Blk (((((((V.alloc (.cells #[.int .i64 x.f0.f0, .int .i64 x.f0.f1, .int .i64 x.f1.f0, .int .i64 x.f1.f1] 31)).alloc (.cells #[.int .i64 t] 2)).alloc (.cells #[.int .i64 left] 2)).alloc (.cells #[.int .i64 cost] 2)).alloc (.cells #[(Value.slice Ap plan.length cp)] 49)).alloc (.cells #[.bool there] 4)).alloc (.cells #[.int .i64 m] 3)) (V.heap.size + 1 + 1 + 1 + 1) #[(Value.slice Ap plan.length cp)] 49 := (blk_alloc (blk_alloc zq50 _) _)
 have m18 : Blk (((((((V.alloc (.cells #[.int .i64 x.f0.f0, .int .i64 x.f0.f1, .int .i64 x.f1.f0, .int .i64 x.f1.f1] 31)).alloc (.cells #[.int .i64 t] 2)).alloc (.cells #[.int .i64 left] 2)).alloc (.cells #[.int .i64 cost] 2)).alloc (.cells #[(Value.slice Ap plan.length cp)] 49)).alloc (.cells #[.bool there] 4)).alloc (.cells #[.int .i64 m] 3)) (V.heap.size + 1 + 1 + 1 + 1 + 1) #[.bool there] 4 := (blk_alloc zq51 _)
 have m19 : Blk (((((((V.alloc (.cells #[.int .i64 x.f0.f0, .int .i64 x.f0.f1, .int .i64 x.f1.f0, .int .i64 x.f1.f1] 31)).alloc (.cells #[.int .i64 t] 2)).alloc (.cells #[.int .i64 left] 2)).alloc (.cells #[.int .i64 cost] 2)).alloc (.cells #[(Value.slice Ap plan.length cp)] 49)).alloc (.cells #[.bool there] 4)).alloc (.cells #[.int .i64 m] 3)) (V.heap.size + 1 + 1 + 1 + 1 + 1 + 1) #[.int .i64 m] 3 := (by have h_ := blk_new ((((((V.alloc (.cells #[.int .i64 x.f0.f0, .int .i64 x.f0.f1, .int .i64 x.f1.f0, .int .i64 x.f1.f1] 31)).alloc (.cells #[.int .i64 t] 2)).alloc (.cells #[.int .i64 left] 2)).alloc (.cells #[.int .i64 cost] 2)).alloc (.cells #[(Value.slice Ap plan.length cp)] 49)).alloc (.cells #[.bool there] 4)) (.cells #[.int .i64 m] 3); first | exact h_ | (simp only [World.size_alloc] at h_; exact h_))
 replace mT : Blk (((((((V.alloc (.cells #[.int .i64 x.f0.f0, .int .i64 x.f0.f1, .int .i64 x.f1.f0, .int .i64 x.f1.f1] 31)).alloc (.cells #[.int .i64 t] 2)).alloc (.cells #[.int .i64 left] 2)).alloc (.cells #[.int .i64 cost] 2)).alloc (.cells #[(Value.slice Ap plan.length cp)] 49)).alloc (.cells #[.bool there] 4)).alloc (.cells #[.int .i64 m] 3)) g #[.int .i64 s.nx, .int .i64 s.ny, .int .i64 s.cell, .int .i64 s.slot, .int .i64 s.slots, .int .i64 s.layers, .int .i64 s.most, .slice B7 s.shores.length d7, .slice B8 s.currents.length d8, .int .i64 v.speed, .int .i64 v.dive, .int .i64 v.use.f0, .int .i64 v.use.f1, .int .i64 v.drift.f0, .int .i64 v.drift.f1, .int .i64 v.reserve] 110 := (blk_alloc (blk_alloc (blk_alloc (blk_alloc (blk_alloc (blk_alloc (blk_alloc mT _) _) _) _) _) _) _)
 replace mX : Blk (((((((V.alloc (.cells #[.int .i64 x.f0.f0, .int .i64 x.f0.f1, .int .i64 x.f1.f0, .int .i64 x.f1.f1] 31)).alloc (.cells #[.int .i64 t] 2)).alloc (.cells #[.int .i64 left] 2)).alloc (.cells #[.int .i64 cost] 2)).alloc (.cells #[(Value.slice Ap plan.length cp)] 49)).alloc (.cells #[.bool there] 4)).alloc (.cells #[.int .i64 m] 3)) gX #[.pointer (some ⟨g, 0, none⟩)] 104 := (blk_alloc (blk_alloc (blk_alloc (blk_alloc (blk_alloc (blk_alloc (blk_alloc mX _) _) _) _) _) _) _)
 replace mV : Blk (((((((V.alloc (.cells #[.int .i64 x.f0.f0, .int .i64 x.f0.f1, .int .i64 x.f1.f0, .int .i64 x.f1.f1] 31)).alloc (.cells #[.int .i64 t] 2)).alloc (.cells #[.int .i64 left] 2)).alloc (.cells #[.int .i64 cost] 2)).alloc (.cells #[(Value.slice Ap plan.length cp)] 49)).alloc (.cells #[.bool there] 4)).alloc (.cells #[.int .i64 m] 3)) gV #[.int .i64 v.speed, .int .i64 v.dive, .int .i64 v.use.f0, .int .i64 v.use.f1, .int .i64 v.drift.f0, .int .i64 v.drift.f1, .int .i64 v.reserve] 29 := (blk_alloc (blk_alloc (blk_alloc (blk_alloc (blk_alloc (blk_alloc (blk_alloc mV _) _) _) _) _) _) _)
 replace mK : Blk (((((((V.alloc (.cells #[.int .i64 x.f0.f0, .int .i64 x.f0.f1, .int .i64 x.f1.f0, .int .i64 x.f1.f1] 31)).alloc (.cells #[.int .i64 t] 2)).alloc (.cells #[.int .i64 left] 2)).alloc (.cells #[.int .i64 cost] 2)).alloc (.cells #[(Value.slice Ap plan.length cp)] 49)).alloc (.cells #[.bool there] 4)).alloc (.cells #[.int .i64 m] 3)) gK #[.int .i64 p.f0.f0.f0, .int .i64 p.f0.f0.f1, .int .i64 p.f0.f1.f0, .int .i64 p.f0.f1.f1, .int .i64 p.f1, .int .i64 p.f2] 81 := (blk_alloc (blk_alloc (blk_alloc (blk_alloc (blk_alloc (blk_alloc (blk_alloc mK _) _) _) _) _) _) _)
 replace mG : Blk (((((((V.alloc (.cells #[.int .i64 x.f0.f0, .int .i64 x.f0.f1, .int .i64 x.f1.f0, .int .i64 x.f1.f1] 31)).alloc (.cells #[.int .i64 t] 2)).alloc (.cells #[.int .i64 left] 2)).alloc (.cells #[.int .i64 cost] 2)).alloc (.cells #[(Value.slice Ap plan.length cp)] 49)).alloc (.cells #[.bool there] 4)).alloc (.cells #[.int .i64 m] 3)) gG #[.func (.func 107) #[] #[.pointer (some ⟨gL, 0, none⟩), .pointer (some ⟨gB, 0, none⟩), .pointer (some ⟨gX, 0, none⟩), .pointer (some ⟨gV, 0, none⟩), .pointer (some ⟨gK, 0, none⟩), .pointer (some ⟨gG, 0, none⟩)]] 141 := (blk_alloc (blk_alloc (blk_alloc (blk_alloc (blk_alloc (blk_alloc (blk_alloc mG _) _) _) _) _) _) _)
 replace mL : Blk (((((((V.alloc (.cells #[.int .i64 x.f0.f0, .int .i64 x.f0.f1, .int .i64 x.f1.f0, .int .i64 x.f1.f1] 31)).alloc (.cells #[.int .i64 t] 2)).alloc (.cells #[.int .i64 left] 2)).alloc (.cells #[.int .i64 cost] 2)).alloc (.cells #[(Value.slice Ap plan.length cp)] 49)).alloc (.cells #[.bool there] 4)).alloc (.cells #[.int .i64 m] 3)) gL #[.int .i64 st.2] 2 := (blk_alloc (blk_alloc (blk_alloc (blk_alloc (blk_alloc (blk_alloc (blk_alloc mL _) _) _) _) _) _) _)
 replace mBe : Blk (((((((V.alloc (.cells #[.int .i64 x.f0.f0, .int .i64 x.f0.f1, .int .i64 x.f1.f0, .int .i64 x.f1.f1] 31)).alloc (.cells #[.int .i64 t] 2)).alloc (.cells #[.int .i64 left] 2)).alloc (.cells #[.int .i64 cost] 2)).alloc (.cells #[(Value.slice Ap plan.length cp)] 49)).alloc (.cells #[.bool there] 4)).alloc (.cells #[.int .i64 m] 3)) gB #[bv] 49 := (blk_alloc (blk_alloc (blk_alloc (blk_alloc (blk_alloc (blk_alloc (blk_alloc mBe _) _) _) _) _) _) _)
 replace mB : Below w.heap.size w (((((((V.alloc (.cells #[.int .i64 x.f0.f0, .int .i64 x.f0.f1, .int .i64 x.f1.f0, .int .i64 x.f1.f1] 31)).alloc (.cells #[.int .i64 t] 2)).alloc (.cells #[.int .i64 left] 2)).alloc (.cells #[.int .i64 cost] 2)).alloc (.cells #[(Value.slice Ap plan.length cp)] 49)).alloc (.cells #[.bool there] 4)).alloc (.cells #[.int .i64 m] 3)) := (below_alloc (below_alloc (below_alloc (below_alloc (below_alloc (below_alloc (below_alloc mB _) _) _) _) _) _) _)
 have hsz_ : w.heap.size ≤ V.heap.size := hs_V
 generalize hW_ : (((((((V.alloc (.cells #[.int .i64 x.f0.f0, .int .i64 x.f0.f1, .int .i64 x.f1.f0, .int .i64 x.f1.f1] 31)).alloc (.cells #[.int .i64 t] 2)).alloc (.cells #[.int .i64 left] 2)).alloc (.cells #[.int .i64 cost] 2)).alloc (.cells #[(Value.slice Ap plan.length cp)] 49)).alloc (.cells #[.bool there] 4)).alloc (.cells #[.int .i64 m] 3)) = W1 at mT mX mV mK mG mL mBe m13 m14 m15 m16 m17 m18 m19 mB HP HC hKp hVW ⊢
 clear hW_
 generalize hg13 : V.heap.size = g13 at m13 m14 m15 m16 m17 m18 m19 ⊢
 have hn_T_13 : g ≠ g13 := by omega
 have hn_X_13 : gX ≠ g13 := by omega
 have hn_V_13 : gV ≠ g13 := by omega
 have hn_K_13 : gK ≠ g13 := by omega
 have hn_G_13 : gG ≠ g13 := by omega
 have hn_L_13 : gL ≠ g13 := by omega
 have hn_Be_13 : gB ≠ g13 := by omega
 have hn_13_T : g13 ≠ g := hn_T_13.symm
 have hn_13_X : g13 ≠ gX := hn_X_13.symm
 have hn_13_V : g13 ≠ gV := hn_V_13.symm
 have hn_13_K : g13 ≠ gK := hn_K_13.symm
 have hn_13_G : g13 ≠ gG := hn_G_13.symm
 have hn_13_L : g13 ≠ gL := hn_L_13.symm
 have hn_13_Be : g13 ≠ gB := hn_Be_13.symm
 have hG13 : w.heap.size ≤ g13 := by omega
 generalize hg14 : g13 + 1 = g14 at m14 m15 m16 m17 m18 m19 ⊢
 have hn_T_14 : g ≠ g14 := by omega
 have hn_X_14 : gX ≠ g14 := by omega
 have hn_V_14 : gV ≠ g14 := by omega
 have hn_K_14 : gK ≠ g14 := by omega
 have hn_G_14 : gG ≠ g14 := by omega
 have hn_L_14 : gL ≠ g14 := by omega
 have hn_Be_14 : gB ≠ g14 := by omega
 have hn_13_14 : g13 ≠ g14 := by omega
 have hn_14_T : g14 ≠ g := hn_T_14.symm
 have hn_14_X : g14 ≠ gX := hn_X_14.symm
 have hn_14_V : g14 ≠ gV := hn_V_14.symm
 have hn_14_K : g14 ≠ gK := hn_K_14.symm
 have hn_14_G : g14 ≠ gG := hn_G_14.symm
 have hn_14_L : g14 ≠ gL := hn_L_14.symm
 have hn_14_Be : g14 ≠ gB := hn_Be_14.symm
 have hn_14_13 : g14 ≠ g13 := hn_13_14.symm
 have hG14 : w.heap.size ≤ g14 := by omega
 generalize hg15 : g14 + 1 = g15 at m15 m16 m17 m18 m19 ⊢
 have hn_T_15 : g ≠ g15 := by omega
 have hn_X_15 : gX ≠ g15 := by omega
 have hn_V_15 : gV ≠ g15 := by omega
 have hn_K_15 : gK ≠ g15 := by omega
 have hn_G_15 : gG ≠ g15 := by omega
 have hn_L_15 : gL ≠ g15 := by omega
 have hn_Be_15 : gB ≠ g15 := by omega
 have hn_13_15 : g13 ≠ g15 := by omega
 have hn_14_15 : g14 ≠ g15 := by omega
 have hn_15_T : g15 ≠ g := hn_T_15.symm
 have hn_15_X : g15 ≠ gX := hn_X_15.symm
 have hn_15_V : g15 ≠ gV := hn_V_15.symm
 have hn_15_K : g15 ≠ gK := hn_K_15.symm
 have hn_15_G : g15 ≠ gG := hn_G_15.symm
 have hn_15_L : g15 ≠ gL := hn_L_15.symm
 have hn_15_Be : g15 ≠ gB := hn_Be_15.symm
 have hn_15_13 : g15 ≠ g13 := hn_13_15.symm
 have hn_15_14 : g15 ≠ g14 := hn_14_15.symm
 have hG15 : w.heap.size ≤ g15 := by omega
 generalize hg16 : g15 + 1 = g16 at m16 m17 m18 m19 ⊢
 have hn_T_16 : g ≠ g16 := by omega
 have hn_X_16 : gX ≠ g16 := by omega
 have hn_V_16 : gV ≠ g16 := by omega
 have hn_K_16 : gK ≠ g16 := by omega
 have hn_G_16 : gG ≠ g16 := by omega
 have hn_L_16 : gL ≠ g16 := by omega
 have hn_Be_16 : gB ≠ g16 := by omega
 have hn_13_16 : g13 ≠ g16 := by omega
 have hn_14_16 : g14 ≠ g16 := by omega
 have hn_15_16 : g15 ≠ g16 := by omega
 have hn_16_T : g16 ≠ g := hn_T_16.symm
 have hn_16_X : g16 ≠ gX := hn_X_16.symm
 have hn_16_V : g16 ≠ gV := hn_V_16.symm
 have hn_16_K : g16 ≠ gK := hn_K_16.symm
 have hn_16_G : g16 ≠ gG := hn_G_16.symm
 have hn_16_L : g16 ≠ gL := hn_L_16.symm
 have hn_16_Be : g16 ≠ gB := hn_Be_16.symm
 have hn_16_13 : g16 ≠ g13 := hn_13_16.symm
 have hn_16_14 : g16 ≠ g14 := hn_14_16.symm
 have hn_16_15 : g16 ≠ g15 := hn_15_16.symm
 have hG16 : w.heap.size ≤ g16 := by omega
 generalize hg17 : g16 + 1 = g17 at m17 m18 m19 ⊢
 have hn_T_17 : g ≠ g17 := by omega
 have hn_X_17 : gX ≠ g17 := by omega
 have hn_V_17 : gV ≠ g17 := by omega
 have hn_K_17 : gK ≠ g17 := by omega
 have hn_G_17 : gG ≠ g17 := by omega
 have hn_L_17 : gL ≠ g17 := by omega
 have hn_Be_17 : gB ≠ g17 := by omega
 have hn_13_17 : g13 ≠ g17 := by omega
 have hn_14_17 : g14 ≠ g17 := by omega
 have hn_15_17 : g15 ≠ g17 := by omega
 have hn_16_17 : g16 ≠ g17 := by omega
 have hn_17_T : g17 ≠ g := hn_T_17.symm
 have hn_17_X : g17 ≠ gX := hn_X_17.symm
 have hn_17_V : g17 ≠ gV := hn_V_17.symm
 have hn_17_K : g17 ≠ gK := hn_K_17.symm
 have hn_17_G : g17 ≠ gG := hn_G_17.symm
 have hn_17_L : g17 ≠ gL := hn_L_17.symm
 have hn_17_Be : g17 ≠ gB := hn_Be_17.symm
 have hn_17_13 : g17 ≠ g13 := hn_13_17.symm
 have hn_17_14 : g17 ≠ g14 := hn_14_17.symm
 have hn_17_15 : g17 ≠ g15 := hn_15_17.symm
 have hn_17_16 : g17 ≠ g16 := hn_16_17.symm
 have hG17 : w.heap.size ≤ g17 := by omega
 generalize hg18 : g17 + 1 = g18 at m18 m19 ⊢
 have hn_T_18 : g ≠ g18 := by omega
 have hn_X_18 : gX ≠ g18 := by omega
 have hn_V_18 : gV ≠ g18 := by omega
 have hn_K_18 : gK ≠ g18 := by omega
 have hn_G_18 : gG ≠ g18 := by omega
 have hn_L_18 : gL ≠ g18 := by omega
 have hn_Be_18 : gB ≠ g18 := by omega
 have hn_13_18 : g13 ≠ g18 := by omega
 have hn_14_18 : g14 ≠ g18 := by omega
 have hn_15_18 : g15 ≠ g18 := by omega
 have hn_16_18 : g16 ≠ g18 := by omega
 have hn_17_18 : g17 ≠ g18 := by omega
 have hn_18_T : g18 ≠ g := hn_T_18.symm
 have hn_18_X : g18 ≠ gX := hn_X_18.symm
 have hn_18_V : g18 ≠ gV := hn_V_18.symm
 have hn_18_K : g18 ≠ gK := hn_K_18.symm
 have hn_18_G : g18 ≠ gG := hn_G_18.symm
 have hn_18_L : g18 ≠ gL := hn_L_18.symm
 have hn_18_Be : g18 ≠ gB := hn_Be_18.symm
 have hn_18_13 : g18 ≠ g13 := hn_13_18.symm
 have hn_18_14 : g18 ≠ g14 := hn_14_18.symm
 have hn_18_15 : g18 ≠ g15 := hn_15_18.symm
 have hn_18_16 : g18 ≠ g16 := hn_16_18.symm
 have hn_18_17 : g18 ≠ g17 := hn_17_18.symm
 have hG18 : w.heap.size ≤ g18 := by omega
 generalize hg19 : g18 + 1 = g19 at m19 ⊢
 have hn_T_19 : g ≠ g19 := by omega
 have hn_X_19 : gX ≠ g19 := by omega
 have hn_V_19 : gV ≠ g19 := by omega
 have hn_K_19 : gK ≠ g19 := by omega
 have hn_G_19 : gG ≠ g19 := by omega
 have hn_L_19 : gL ≠ g19 := by omega
 have hn_Be_19 : gB ≠ g19 := by omega
 have hn_13_19 : g13 ≠ g19 := by omega
 have hn_14_19 : g14 ≠ g19 := by omega
 have hn_15_19 : g15 ≠ g19 := by omega
 have hn_16_19 : g16 ≠ g19 := by omega
 have hn_17_19 : g17 ≠ g19 := by omega
 have hn_18_19 : g18 ≠ g19 := by omega
 have hn_19_T : g19 ≠ g := hn_T_19.symm
 have hn_19_X : g19 ≠ gX := hn_X_19.symm
 have hn_19_V : g19 ≠ gV := hn_V_19.symm
 have hn_19_K : g19 ≠ gK := hn_K_19.symm
 have hn_19_G : g19 ≠ gG := hn_G_19.symm
 have hn_19_L : g19 ≠ gL := hn_L_19.symm
 have hn_19_Be : g19 ≠ gB := hn_Be_19.symm
 have hn_19_13 : g19 ≠ g13 := hn_13_19.symm
 have hn_19_14 : g19 ≠ g14 := hn_14_19.symm
 have hn_19_15 : g19 ≠ g15 := hn_15_19.symm
 have hn_19_16 : g19 ≠ g16 := hn_16_19.symm
 have hn_19_17 : g19 ≠ g17 := hn_17_19.symm
 have hn_19_18 : g19 ≠ g18 := hn_18_19.symm
 have hG19 : w.heap.size ≤ g19 := by omega
 clear hsz_ hl_T hl_X hl_V hl_K hl_G hl_L hl_Be
 try clear hg19
 try clear hg18
 try clear hg17
 try clear hg16
 try clear hg15
 try clear hg14
 try clear hg13
 have hs_W1 : w.heap.size ≤ W1.heap.size := mB.size
 have HN : Hid (g14 ≠ gL ∧ g15 ≠ gL ∧ g16 ≠ gL ∧ g17 ≠ gB) := Lib.hid ⟨hn_14_L, hn_15_L, hn_16_L, hn_17_Be⟩
 try clear hn_T_X
 try clear hn_T_V
 try clear hn_T_K
 try clear hn_T_G
 try clear hn_T_L
 try clear hn_T_Be
 try clear hn_T_13 hn_T_14 hn_T_15 hn_T_16 hn_T_17 hn_T_18 hn_T_19
 try clear hn_X_T
 try clear hn_X_V
 try clear hn_X_K
 try clear hn_X_G
 try clear hn_X_L
 try clear hn_X_Be
 try clear hn_X_13 hn_X_14 hn_X_15 hn_X_16 hn_X_17 hn_X_18 hn_X_19
 try clear hn_V_T
 try clear hn_V_X
 try clear hn_V_K
 try clear hn_V_G
 try clear hn_V_L
 try clear hn_V_Be
 try clear hn_V_13 hn_V_14 hn_V_15 hn_V_16 hn_V_17 hn_V_18 hn_V_19
 try clear hn_K_T
 try clear hn_K_X
 try clear hn_K_V
 try clear hn_K_G
 try clear hn_K_L
 try clear hn_K_Be
 try clear hn_K_13 hn_K_14 hn_K_15 hn_K_16 hn_K_17 hn_K_18 hn_K_19
 try clear hn_G_T
 try clear hn_G_X
 try clear hn_G_V
 try clear hn_G_K
 try clear hn_G_L
 try clear hn_G_Be
 try clear hn_G_13 hn_G_14 hn_G_15 hn_G_16 hn_G_17 hn_G_18 hn_G_19
 try clear hn_L_T
 try clear hn_L_X
 try clear hn_L_V
 try clear hn_L_K
 try clear hn_L_G
 try clear hn_L_Be
 try clear hn_L_13 hn_L_14 hn_L_15 hn_L_16 hn_L_17 hn_L_18 hn_L_19
 try clear hn_Be_T
 try clear hn_Be_X
 try clear hn_Be_V
 try clear hn_Be_K
 try clear hn_Be_G
 try clear hn_Be_L
 try clear hn_Be_13 hn_Be_14 hn_Be_15 hn_Be_16 hn_Be_17 hn_Be_18 hn_Be_19
 try clear hn_13_T
 try clear hn_13_X
 try clear hn_13_V
 try clear hn_13_K
 try clear hn_13_G
 try clear hn_13_L
 try clear hn_13_Be
 try clear hn_13_14 hn_13_15 hn_13_16 hn_13_17 hn_13_18 hn_13_19
 try clear hn_14_T
 try clear hn_14_X
 try clear hn_14_V
 try clear hn_14_K
 try clear hn_14_G
 try clear hn_14_L
 try clear hn_14_Be
 try clear hn_14_13 hn_14_15 hn_14_16 hn_14_17 hn_14_18 hn_14_19
 try clear hn_15_T
 try clear hn_15_X
 try clear hn_15_V
 try clear hn_15_K
 try clear hn_15_G
 try clear hn_15_L
 try clear hn_15_Be
 try clear hn_15_13 hn_15_14 hn_15_16 hn_15_17 hn_15_18 hn_15_19
 try clear hn_16_T
 try clear hn_16_X
 try clear hn_16_V
 try clear hn_16_K
 try clear hn_16_G
 try clear hn_16_L
 try clear hn_16_Be
 try clear hn_16_13 hn_16_14 hn_16_15 hn_16_17 hn_16_18 hn_16_19
 try clear hn_17_T
 try clear hn_17_X
 try clear hn_17_V
 try clear hn_17_K
 try clear hn_17_G
 try clear hn_17_L
 try clear hn_17_Be
 try clear hn_17_13 hn_17_14 hn_17_15 hn_17_16 hn_17_18 hn_17_19
 try clear hn_18_T
 try clear hn_18_X
 try clear hn_18_V
 try clear hn_18_K
 try clear hn_18_G
 try clear hn_18_L
 try clear hn_18_Be
 try clear hn_18_13 hn_18_14 hn_18_15 hn_18_16 hn_18_17 hn_18_19
 try clear hn_19_T
 try clear hn_19_X
 try clear hn_19_V
 try clear hn_19_K
 try clear hn_19_G
 try clear hn_19_L
 try clear hn_19_Be
 try clear hn_19_13 hn_19_14 hn_19_15 hn_19_16 hn_19_17 hn_19_18
 clear hG13 hG14 hG15 hG16 hG17 hG18 hG19
 refine wpIn_scope ?_
 have c19_0 := (blk_cell m19 0).trans rfl
 gi_wp2_with fail
 clear c19_0
 skip
 refine wpIn_label ?_
 try dsimp only [Exit.then]
 try apply_assumption
 skip
 have cX_0 := (blk_cell mX 0).trans rfl
 gi_wp2_with fail
 clear cX_0
 skip
 have hcon := courses_any g W1
 refine ⟨trivial, (callsIn_wide.2 hcon).mono ?_⟩
 clear hcon
 rintro e _ ⟨rfl, rfl⟩
 gi_wp2_with fail
 have hb1 := below_alloc (Below.refl W1.heap.size W1) (.cells #[.pointer (some ⟨g, 0, none⟩)] 104)
 replace hVW := Nat.le_trans hVW hb1.size
 replace HP := CoAt.below HP hb1
 replace HC := CoAt.below HC hb1
 replace hKp := KpG.step hKp hs_W1 hb1
 clear hb1
 have hl_T := blk_lt mT
 have hl_X := blk_lt mX
 have hl_V := blk_lt mV
 have hl_K := blk_lt mK
 have hl_G := blk_lt mG
 have hl_L := blk_lt mL
 have hl_Be := blk_lt mBe
 have hl_13 := blk_lt m13
 have hl_14 := blk_lt m14
 have hl_15 := blk_lt m15
 have hl_16 := blk_lt m16
 have hl_17 := blk_lt m17
 have hl_18 := blk_lt m18
 have hl_19 := blk_lt m19
 have mQ : Blk (W1.alloc (.cells #[.pointer (some ⟨g, 0, none⟩)] 104)) (W1.heap.size) #[.pointer (some ⟨g, 0, none⟩)] 104 := (by have h_ := blk_new W1 (.cells #[.pointer (some ⟨g, 0, none⟩)] 104); first | exact h_ | (simp only [World.size_alloc] at h_; exact h_))
 replace mT : Blk (W1.alloc (.cells #[.pointer (some ⟨g, 0, none⟩)] 104)) g #[.int .i64 s.nx, .int .i64 s.ny, .int .i64 s.cell, .int .i64 s.slot, .int .i64 s.slots, .int .i64 s.layers, .int .i64 s.most, .slice B7 s.shores.length d7, .slice B8 s.currents.length d8, .int .i64 v.speed, .int .i64 v.dive, .int .i64 v.use.f0, .int .i64 v.use.f1, .int .i64 v.drift.f0, .int .i64 v.drift.f1, .int .i64 v.reserve] 110 := (blk_alloc mT _)
 replace mX : Blk (W1.alloc (.cells #[.pointer (some ⟨g, 0, none⟩)] 104)) gX #[.pointer (some ⟨g, 0, none⟩)] 104 := (blk_alloc mX _)
 replace mV : Blk (W1.alloc (.cells #[.pointer (some ⟨g, 0, none⟩)] 104)) gV #[.int .i64 v.speed, .int .i64 v.dive, .int .i64 v.use.f0, .int .i64 v.use.f1, .int .i64 v.drift.f0, .int .i64 v.drift.f1, .int .i64 v.reserve] 29 := (blk_alloc mV _)
 replace mK : Blk (W1.alloc (.cells #[.pointer (some ⟨g, 0, none⟩)] 104)) gK #[.int .i64 p.f0.f0.f0, .int .i64 p.f0.f0.f1, .int .i64 p.f0.f1.f0, .int .i64 p.f0.f1.f1, .int .i64 p.f1, .int .i64 p.f2] 81 := (blk_alloc mK _)
 replace mG : Blk (W1.alloc (.cells #[.pointer (some ⟨g, 0, none⟩)] 104)) gG #[.func (.func 107) #[] #[.pointer (some ⟨gL, 0, none⟩), .pointer (some ⟨gB, 0, none⟩), .pointer (some ⟨gX, 0, none⟩), .pointer (some ⟨gV, 0, none⟩), .pointer (some ⟨gK, 0, none⟩), .pointer (some ⟨gG, 0, none⟩)]] 141 := (blk_alloc mG _)
 replace mL : Blk (W1.alloc (.cells #[.pointer (some ⟨g, 0, none⟩)] 104)) gL #[.int .i64 st.2] 2 := (blk_alloc mL _)
 replace mBe : Blk (W1.alloc (.cells #[.pointer (some ⟨g, 0, none⟩)] 104)) gB #[bv] 49 := (blk_alloc mBe _)
 replace m13 : Blk (W1.alloc (.cells #[.pointer (some ⟨g, 0, none⟩)] 104)) g13 #[.int .i64 x.f0.f0, .int .i64 x.f0.f1, .int .i64 x.f1.f0, .int .i64 x.f1.f1] 31 := (blk_alloc m13 _)
 replace m14 : Blk (W1.alloc (.cells #[.pointer (some ⟨g, 0, none⟩)] 104)) g14 #[.int .i64 t] 2 := (blk_alloc m14 _)
 replace m15 : Blk (W1.alloc (.cells #[.pointer (some ⟨g, 0, none⟩)] 104)) g15 #[.int .i64 left] 2 := (blk_alloc m15 _)
 replace m16 : Blk (W1.alloc (.cells #[.pointer (some ⟨g, 0, none⟩)] 104)) g16 #[.int .i64 cost] 2 := (blk_alloc m16 _)
 replace m17 : Blk (W1.alloc (.cells #[.pointer (some ⟨g, 0, none⟩)] 104)) g17 #[(Value.slice Ap plan.length cp)] 49 := (blk_alloc m17 _)
 replace m18 : Blk (W1.alloc (.cells #[.pointer (some ⟨g, 0, none⟩)] 104)) g18 #[.bool there] 4 := (blk_alloc m18 _)
 replace m19 : Blk (W1.alloc (.cells #[.pointer (some ⟨g, 0, none⟩)] 104)) g19 #[.int .i64 m] 3 := (blk_alloc m19 _)
 replace mB : Below w.heap.size w (W1.alloc (.cells #[.pointer (some ⟨g, 0, none⟩)] 104)) := (below_alloc mB _)
 have hsz_ : w.heap.size ≤ W1.heap.size := hs_W1
 generalize hW_ : (W1.alloc (.cells #[.pointer (some ⟨g, 0, none⟩)] 104)) = W0 at mT mX mV mK mG mL mBe m13 m14 m15 m16 m17 m18 m19 mQ mB HP HC hKp hVW ⊢
 clear hW_
 generalize hgQ : W1.heap.size = gQ at mQ ⊢
 have hn_T_Q : g ≠ gQ := by omega
 have hn_X_Q : gX ≠ gQ := by omega
 have hn_V_Q : gV ≠ gQ := by omega
 have hn_K_Q : gK ≠ gQ := by omega
 have hn_G_Q : gG ≠ gQ := by omega
 have hn_L_Q : gL ≠ gQ := by omega
 have hn_Be_Q : gB ≠ gQ := by omega
 have hn_13_Q : g13 ≠ gQ := by omega
 have hn_14_Q : g14 ≠ gQ := by omega
 have hn_15_Q : g15 ≠ gQ := by omega
 have hn_16_Q : g16 ≠ gQ := by omega
 have hn_17_Q : g17 ≠ gQ := by omega
 have hn_18_Q : g18 ≠ gQ := by omega
 have hn_19_Q : g19 ≠ gQ := by omega
 have hn_Q_T : gQ ≠ g := hn_T_Q.symm
 have hn_Q_X : gQ ≠ gX := hn_X_Q.symm
 have hn_Q_V : gQ ≠ gV := hn_V_Q.symm
 have hn_Q_K : gQ ≠ gK := hn_K_Q.symm
 have hn_Q_G : gQ ≠ gG := hn_G_Q.symm
 have hn_Q_L : gQ ≠ gL := hn_L_Q.symm
 have hn_Q_Be : gQ ≠ gB := hn_Be_Q.symm
 have hn_Q_13 : gQ ≠ g13 := hn_13_Q.symm
 have hn_Q_14 : gQ ≠ g14 := hn_14_Q.symm
 have hn_Q_15 : gQ ≠ g15 := hn_15_Q.symm
 have hn_Q_16 : gQ ≠ g16 := hn_16_Q.symm
 have hn_Q_17 : gQ ≠ g17 := hn_17_Q.symm
 have hn_Q_18 : gQ ≠ g18 := hn_18_Q.symm
 have hn_Q_19 : gQ ≠ g19 := hn_19_Q.symm
 have hGQ : w.heap.size ≤ gQ := by omega
 clear hsz_ hl_T hl_X hl_V hl_K hl_G hl_L hl_Be hl_13 hl_14 hl_15 hl_16 hl_17 hl_18 hl_19
 try clear hgQ
 have hs_W0 : w.heap.size ≤ W0.heap.size := mB.size
 have hltQ := blk_lt mQ
 have hQL : gQ ≠ gL := hn_Q_L
 have hQB : gQ ≠ gB := hn_Q_Be
 try clear hn_T_X
 try clear hn_T_V
 try clear hn_T_K
 try clear hn_T_G
 try clear hn_T_L
 try clear hn_T_Be
 try clear hn_T_13 hn_T_14 hn_T_15 hn_T_16 hn_T_17 hn_T_18 hn_T_19
 try clear hn_T_Q
 try clear hn_X_T
 try clear hn_X_V
 try clear hn_X_K
 try clear hn_X_G
 try clear hn_X_L
 try clear hn_X_Be
 try clear hn_X_13 hn_X_14 hn_X_15 hn_X_16 hn_X_17 hn_X_18 hn_X_19
 try clear hn_X_Q
 try clear hn_V_T
 try clear hn_V_X
 try clear hn_V_K
 try clear hn_V_G
 try clear hn_V_L
 try clear hn_V_Be
 try clear hn_V_13 hn_V_14 hn_V_15 hn_V_16 hn_V_17 hn_V_18 hn_V_19
 try clear hn_V_Q
 try clear hn_K_T
 try clear hn_K_X
 try clear hn_K_V
 try clear hn_K_G
 try clear hn_K_L
 try clear hn_K_Be
 try clear hn_K_13 hn_K_14 hn_K_15 hn_K_16 hn_K_17 hn_K_18 hn_K_19
 try clear hn_K_Q
 try clear hn_G_T
 try clear hn_G_X
 try clear hn_G_V
 try clear hn_G_K
 try clear hn_G_L
 try clear hn_G_Be
 try clear hn_G_13 hn_G_14 hn_G_15 hn_G_16 hn_G_17 hn_G_18 hn_G_19
 try clear hn_G_Q
 try clear hn_L_T
 try clear hn_L_X
 try clear hn_L_V
 try clear hn_L_K
 try clear hn_L_G
 try clear hn_L_Be
 try clear hn_L_13 hn_L_14 hn_L_15 hn_L_16 hn_L_17 hn_L_18 hn_L_19
 try clear hn_L_Q
 try clear hn_Be_T
 try clear hn_Be_X
 try clear hn_Be_V
 try clear hn_Be_K
 try clear hn_Be_G
 try clear hn_Be_L
 try clear hn_Be_13 hn_Be_14 hn_Be_15 hn_Be_16 hn_Be_17 hn_Be_18 hn_Be_19
 try clear hn_Be_Q
 try clear hn_13_T
 try clear hn_13_X
 try clear hn_13_V
 try clear hn_13_K
 try clear hn_13_G
 try clear hn_13_L
 try clear hn_13_Be
 try clear hn_13_14 hn_13_15 hn_13_16 hn_13_17 hn_13_18 hn_13_19
 try clear hn_13_Q
 try clear hn_14_T
 try clear hn_14_X
 try clear hn_14_V
 try clear hn_14_K
 try clear hn_14_G
 try clear hn_14_L
 try clear hn_14_Be
 try clear hn_14_13 hn_14_15 hn_14_16 hn_14_17 hn_14_18 hn_14_19
 try clear hn_14_Q
 try clear hn_15_T
 try clear hn_15_X
 try clear hn_15_V
 try clear hn_15_K
 try clear hn_15_G
 try clear hn_15_L
 try clear hn_15_Be
 try clear hn_15_13 hn_15_14 hn_15_16 hn_15_17 hn_15_18 hn_15_19
 try clear hn_15_Q
 try clear hn_16_T
 try clear hn_16_X
 try clear hn_16_V
 try clear hn_16_K
 try clear hn_16_G
 try clear hn_16_L
 try clear hn_16_Be
 try clear hn_16_13 hn_16_14 hn_16_15 hn_16_17 hn_16_18 hn_16_19
 try clear hn_16_Q
 try clear hn_17_T
 try clear hn_17_X
 try clear hn_17_V
 try clear hn_17_K
 try clear hn_17_G
 try clear hn_17_L
 try clear hn_17_Be
 try clear hn_17_13 hn_17_14 hn_17_15 hn_17_16 hn_17_18 hn_17_19
 try clear hn_17_Q
 try clear hn_18_T
 try clear hn_18_X
 try clear hn_18_V
 try clear hn_18_K
 try clear hn_18_G
 try clear hn_18_L
 try clear hn_18_Be
 try clear hn_18_13 hn_18_14 hn_18_15 hn_18_16 hn_18_17 hn_18_19
 try clear hn_18_Q
 try clear hn_19_T
 try clear hn_19_X
 try clear hn_19_V
 try clear hn_19_K
 try clear hn_19_G
 try clear hn_19_L
 try clear hn_19_Be
 try clear hn_19_13 hn_19_14 hn_19_15 hn_19_16 hn_19_17 hn_19_18
 try clear hn_19_Q
 try clear hn_Q_T
 try clear hn_Q_X
 try clear hn_Q_V
 try clear hn_Q_K
 try clear hn_Q_G
 try clear hn_Q_L
 try clear hn_Q_Be
 try clear hn_Q_13 hn_Q_14 hn_Q_15 hn_Q_16 hn_Q_17 hn_Q_18 hn_Q_19
 clear hGQ
 skip
 have hP0s : V.heap.size ≤ W0.heap.size := hVW
 have hsw0 : w.heap.size ≤ W0.heap.size := mB.size
 refine wpIn_rangeFunc_ownH rfl (by omega) (gf := 129) (lb := #[.pointer (some ⟨gQ, 0, none⟩)]) rfl trivial (enters_of Try.func129 zq1 rfl)
  (encs := fun c : CrsN s => #[.agg #[.int .i64 c.1.f0, .int .i64 c.1.f1]]) (Kp := KpD w g gQ #[.int .i64 s.nx, .int .i64 s.ny, .int .i64 s.cell, .int .i64 s.slot, .int .i64 s.slots, .int .i64 s.layers, .int .i64 s.most, .slice B7 s.shores.length d7, .slice B8 s.currents.length d8, .int .i64 v.speed, .int .i64 v.dive, .int .i64 v.use.f0, .int .i64 v.use.f1, .int .i64 v.drift.f0, .int .i64 v.drift.f1, .int .i64 v.reserve]) (S := AllC s) (Sp := PreC s) (N := (crsL s).length) (w0 := W0)
  (fun l J Jx X_ hW hJ _ hY h0 => courses1_in 6 (by omega) l gQ g s v (fun W => Below w.heap.size w W ∧ Blk W g #[.int .i64 s.nx, .int .i64 s.ny, .int .i64 s.cell, .int .i64 s.slot, .int .i64 s.slots, .int .i64 s.layers, .int .i64 s.most, .slice B7 s.shores.length d7, .slice B8 s.currents.length d8, .int .i64 v.speed, .int .i64 v.dive, .int .i64 v.use.f0, .int .i64 v.use.f1, .int .i64 v.drift.f0, .int .i64 v.drift.f1, .int .i64 v.reserve] 110 ∧ Blk W gQ #[.pointer (some ⟨g, 0, none⟩)] 104) (fun W h => ⟨HTA.out W h.1 h.2.1, h.2.2⟩) hS.n (KpD w g gQ #[.int .i64 s.nx, .int .i64 s.ny, .int .i64 s.cell, .int .i64 s.slot, .int .i64 s.slots, .int .i64 s.layers, .int .i64 s.most, .slice B7 s.shores.length d7, .slice B8 s.currents.length d8, .int .i64 v.speed, .int .i64 v.dive, .int .i64 v.use.f0, .int .i64 v.use.f1, .int .i64 v.drift.f0, .int .i64 v.drift.f1, .int .i64 v.reserve]) (fun A B h hE => ⟨hE.1.trans h.1, h.2.1 hE.2.1, h.2.2 hE.2.2⟩) J Jx hY X_ ⟨below_step mB hW, Blk.belowH mT hW, Blk.belowH mQ hW⟩ h0) KpD.trans (KpD.put hsw0 (blk_lt mT) hltQ) (Below.refl _ _) (fun _ => rfl)
  (fun pre W => EnvZ w s v p g gX gV gK gG gL gB B7 B8 d7 d8 W ∧ Blk W g13 #[.int .i64 x.f0.f0, .int .i64 x.f0.f1, .int .i64 x.f1.f0, .int .i64 x.f1.f1] 31 ∧ Blk W g14 #[.int .i64 t] 2 ∧ Blk W g15 #[.int .i64 left] 2 ∧ Blk W g16 #[.int .i64 cost] 2 ∧ Blk W g17 #[(Value.slice Ap plan.length cp)] 49 ∧ Blk W g18 #[.bool there] 4 ∧ Blk W g19 #[.int .i64 m] 3 ∧ GrowQ w gL gB ((pre.map Subtype.val).foldl (stepG s v p n x t left cost plan there) st) plan (Value.slice Ap plan.length cp) bv V W)
  (fun c pre W => c = .ret ∧ GrowQ w gL gB RR plan (Value.slice Ap plan.length cp) bv V W)
  (fun pre X Y row hs hg hr => by obtain ⟨⟨mB, mT, mX, mV, mK, mG⟩, m13, m14, m15, m16, m17, m18, m19, hq⟩ := hs; exact ⟨⟨ownFrom_below (by omega) (by omega) () X Y row mB hg hr, blk_grownO mT hg hr, blk_grownO mX hg hr, blk_grownO mV hg hr, blk_grownO mK hg hr, blk_grownO mG hg hr⟩, blk_grownO m13 hg hr, blk_grownO m14 hg hr, blk_grownO m15 hg hr, blk_grownO m16 hg hr, blk_grownO m17 hg hr, blk_grownO m18 hg hr, blk_grownO m19 hg hr, GrowQ.grownO hsV hP0s hq hg hr⟩)
  (fun c pre X Y row hs hg hr => ⟨hs.1, GrowQ.grownO hsV hP0s hs.2 hg hr⟩)
  ⟨⟨mB, mT, mX, mV, mK, mG⟩, m13, m14, m15, m16, m17, m18, m19, hKp, HP, bv, ⟨mL, mBe, HC⟩, fun k hk => .inl hk⟩
  (fun c a' W => ∃ (g20 : Nat) (u_ : Nat → Value), a' = { tmps := #[(u_ 0), (u_ 1), (u_ 2), (u_ 3), (u_ 4), (u_ 5), (u_ 6), .pointer (some ⟨gL, 0, none⟩), .pointer (some ⟨gB, 0, none⟩), .pointer (some ⟨gX, 0, none⟩), .pointer (some ⟨gV, 0, none⟩), .pointer (some ⟨gK, 0, none⟩), .pointer (some ⟨gG, 0, none⟩), .pointer (some ⟨g13, 0, none⟩), .pointer (some ⟨g14, 0, none⟩), .pointer (some ⟨g15, 0, none⟩), .pointer (some ⟨g16, 0, none⟩), .pointer (some ⟨g17, 0, none⟩), .pointer (some ⟨g18, 0, none⟩), .pointer (some ⟨g19, 0, none⟩), .pointer (some ⟨g20, 0, none⟩), (u_ 21), (u_ 22), (u_ 23), (u_ 24), (u_ 25), (u_ 26), (u_ 27), (u_ 28), (u_ 29), (u_ 30), (u_ 31), (u_ 32), (u_ 33), (u_ 34), (u_ 35), (u_ 36), (u_ 37), (u_ 38), (u_ 39), (u_ 40), (u_ 41), (u_ 42), (u_ 43), (u_ 44), (u_ 45), (u_ 46), (u_ 47), (u_ 48), (u_ 49), (u_ 50), (u_ 51), (u_ 52), (u_ 53), (u_ 54), (u_ 55), (u_ 56), (u_ 57), (u_ 58), (u_ 59), (u_ 60), (u_ 61), (u_ 62), (u_ 63), (u_ 64), (u_ 65), (u_ 66), (u_ 67), (u_ 68), (u_ 69), (u_ 70), (u_ 71), (u_ 72), (u_ 73), (u_ 74), (u_ 75), (u_ 76), (u_ 77), (u_ 78), (u_ 79), (u_ 80), (u_ 81), (u_ 82), (u_ 83), (u_ 84), (u_ 85), (u_ 86), (u_ 87), (u_ 88), (u_ 89), (u_ 90), (u_ 91), (u_ 92), (u_ 93), (u_ 94), (u_ 95), (u_ 96), (u_ 97), (u_ 98), (u_ 99), (u_ 100), (u_ 101), (u_ 102), (u_ 103), (u_ 104), (u_ 105), (u_ 106), (u_ 107), (u_ 108), (u_ 109), (u_ 110), (u_ 111)], defers := [] } ∧ some g20 ≠ ((Value.slice Ap plan.length cp)).ownBlock ∧ Blk W g20 #[.int .i64 c.1.f0, .int .i64 c.1.f1] 33)
  (fun c a' s X Y row hs hg hr => by obtain ⟨g20, u_, h1, h0, h2⟩ := hs; exact ⟨g20, u_, h1, h0, blk_grownO h2 hg hr⟩) ?assign ?body ?done ?stop
 case assign =>
  rintro l_ pre q X_ K ⟨⟨mB, mT, mX, mV, mK, mG⟩, m13, m14, m15, m16, m17, m18, m19, hq⟩ hK
  gi_wp2
  skip
  have hb := below_alloc (Below.refl X_.heap.size X_) (.cells #[.int .i64 q.1.f0, .int .i64 q.1.f1] 33)
  exact hK _ _ (keepsFrom_below hb) (KpD.below mB.size hb) ⟨⟨below_step mB hb, blk_below mT hb, blk_below mX hb, blk_below mV hb, blk_below mK hb, blk_below mG hb⟩, blk_below m13 hb, blk_below m14 hb, blk_below m15 hb, blk_below m16 hb, blk_below m17 hb, blk_below m18 hb, blk_below m19 hb, hq.below mB.size hb⟩ ⟨X_.heap.size, (fun k_ => (#[.agg #[.int .i64 x.f0.f0, .int .i64 x.f0.f1, .int .i64 x.f1.f0, .int .i64 x.f1.f1], .int .i64 t, .int .i64 left, .int .i64 cost, (Value.slice Ap plan.length cp), .bool there, .int .i64 m, .pointer (some ⟨gL, 0, none⟩), .pointer (some ⟨gB, 0, none⟩), .pointer (some ⟨gX, 0, none⟩), .pointer (some ⟨gV, 0, none⟩), .pointer (some ⟨gK, 0, none⟩), .pointer (some ⟨gG, 0, none⟩), .pointer (some ⟨g13, 0, none⟩), .pointer (some ⟨g14, 0, none⟩), .pointer (some ⟨g15, 0, none⟩), .pointer (some ⟨g16, 0, none⟩), .pointer (some ⟨g17, 0, none⟩), .pointer (some ⟨g18, 0, none⟩), .pointer (some ⟨g19, 0, none⟩), .pointer (some ⟨X_.heap.size, 0, none⟩), undef, undef, undef, undef, undef, .int .i64 m, .bool false, undef, undef, undef, undef, undef, undef, undef, undef, undef, undef, undef, undef, undef, .pointer (some ⟨g, 0, none⟩), .func (.func 129) #[] #[.pointer (some ⟨gQ, 0, none⟩)], .agg #[.int .i64 q.1.f0, .int .i64 q.1.f1], undef, undef, undef, undef, undef, undef, undef, undef, undef, undef, undef, undef, undef, undef, undef, undef, undef, undef, undef, undef, undef, undef, undef, undef, undef, undef, undef, undef, undef, undef, undef, undef, undef, undef, undef, undef, undef, undef, undef, undef, undef, undef, undef, undef, undef, undef, undef, undef, undef, undef, undef, undef, undef, undef, undef, undef, undef, undef, undef, undef, undef, undef, undef, undef, undef, undef, undef, undef] : Array Value).getD k_ undef), rfl, (fun h => by have h_ := (hq.2.1.lt _ h.symm).2; omega), blk_new _ _⟩
 case stop =>
  rintro D_ c pre X_ hD hp ⟨rfl, hq⟩ hK
  gi_wp2
  skip
  exact leaves_marks (F := Fence.wide) (n := 7) (B := V.heap.size) (fun W_ => GrowQ w gL gB RR plan (Value.slice Ap plan.length cp) bv V W_) (fun W_ D_ h hB hD => GrowQ.putObj hsV h hB hD) (fun W_ h => ⟨_, results_none rfl _ _ _, ⟨_, rfl⟩, h⟩) [D_] _ (Marks.cons (Marks.nil _ _) (by simp) (Nat.le_trans hP0s hD) hK) hq
 case done =>
  rintro D_ xs X_ hD hxs ⟨_, _, _, _, _, _, _, _, hq⟩ hK
  have hHx : ((xs.map Subtype.val).foldl (stepG s v p n x t left cost plan there) st) = RR := by rw [show xs.map Subtype.val = crsL s from hxs]; exact HS.out.symm
  rw [hHx] at hq
  gi_wp2
  skip
  exact leaves_marks (F := Fence.wide) (n := 7) (B := V.heap.size) (fun W_ => GrowQ w gL gB RR plan (Value.slice Ap plan.length cp) bv V W_) (fun W_ D_ h hB hD => GrowQ.putObj hsV h hB hD) (fun W_ h => ⟨_, results_none rfl _ _ _, ⟨_, rfl⟩, h⟩) [D_] _ (Marks.cons (Marks.nil _ _) (by simp) (Nat.le_trans hP0s hD) hK) hq
 case body =>
  rintro l_ pre q a_ X_ hlW ⟨r, hr⟩ ⟨⟨mB, mT, mX, mV, mK, mG⟩, m13, m14, m15, m16, m17, m18, m19, hq⟩ ⟨g20, u_, rfl, h20, m20⟩ hlen
  clear hr hlen
  have hXs : w.heap.size ≤ X_.heap.size := mB.size
  have hN : Below X_.heap.size X_ X_ := Below.refl _ _
  have HQV := Lib.hid hq
  obtain ⟨hKp, HP, bv2, ⟨mL, mBe, HC⟩, hbv⟩ := hq
  have hVX : V.heap.size ≤ X_.heap.size := hKp.1.size
  have hmap : (((pre ++ [q]).map Subtype.val).foldl (stepG s v p n x t left cost plan there) st) = stepG s v p n x t left cost plan there ((pre.map Subtype.val).foldl (stepG s v p n x t left cost plan there) st) q.1 := by rw [List.map_append, List.map_singleton, List.foldl_append]; rfl
  have hret : diveE s v x t ≠ 0 → ((pre.map Subtype.val).foldl (stepG s v p n x t left cost plan there) st) = st := fun hd => foldl_same _ _ (fun st c _ => by unfold stepG; rw [if_pos hd]; exact tryV_same _ _ _ _ _)
  generalize ((pre.map Subtype.val).foldl (stepG s v p n x t left cost plan there) st) = P0 at *
  obtain ⟨PN, hPN⟩ : ∃ PN, (((pre ++ [q]).map Subtype.val).foldl (stepG s v p n x t left cost plan there) st) = PN := ⟨_, rfl⟩
  rw [hPN] at hmap
  have HPN := Lib.hid hPN
  clear hPN
  have HM : Hid (PN = if left - (takeI v q.1).f1 < v.reserve then P0 else if 0 ≤ P0.2 ∧ P0.2 ≤ cost + (takeI v q.1).f1 then P0 else if diveE s v x t ≠ 0 then P0 else growV s v p n (diveV s v x t q.1.f0 q.1.f1) (t + v.dive) (left - (takeI v q.1).f1) (cost + (takeI v q.1).f1) (plan ++ [q.1]) (there || hereB p (t + v.dive) (diveV s v x t q.1.f0 q.1.f1)) P0) := Lib.hid hmap
  clear hmap
  have HRT := Lib.hid hret
  clear hret
  have hus := vehB_use hv q.1
  have hrs := vehB_res hv
  have kT := fun W => takes_any v q.1 W
  have kD := fun W (h : TripAt W g s v) => dive_any g s v x t q.1.f0 q.1.f1 W h hS hV hx ht.1 (by omega) q.2.1.1 q.2.1.2 q.2.2.1 q.2.2.2
  have kBx := fun hd => dive_box (hd := q.1.f0) (layer := q.1.f1) hS hV hx (t := t) hd
  generalize diveV s v x t q.1.f0 q.1.f1 = Y at *
  generalize takeI v q.1 = U at *
  obtain ⟨⟨c0, c1⟩, c2⟩ := q
  dsimp only at m20 kT kD kBx HM HPN ⊢
  have KBX := Lib.hid kBx
  clear kBx
  obtain ⟨cV_0, cV_1, cV_2, cV_3, cV_4, cV_5, cV_6⟩ := zcs7 mV
  obtain ⟨c20_0, c20_1⟩ := zcs2 m20
  gi_wp2_with fail
  clear cV_0 cV_1 cV_2 cV_3 cV_4 cV_5 cV_6 c20_0 c20_1
  skip
  have hcon := kT X_
  refine ⟨trivial, (callsIn_wide.2 hcon).mono ?_⟩
  clear hcon
  rintro e Wa ⟨rfl, hb⟩
  replace HP := CoAt.below HP hb
  replace HC := CoAt.below HC hb
  replace hKp := KpG.step hKp hXs hb
  replace hN := below_step hN hb
  replace mT := blk_below mT hb
  replace mX := blk_below mX hb
  replace mV := blk_below mV hb
  replace mK := blk_below mK hb
  replace mG := blk_below mG hb
  replace mL := blk_below mL hb
  replace mBe := blk_below mBe hb
  replace m13 := blk_below m13 hb
  replace m14 := blk_below m14 hb
  replace m15 := blk_below m15 hb
  replace m16 := blk_below m16 hb
  replace m17 := blk_below m17 hb
  replace m18 := blk_below m18 hb
  replace m19 := blk_below m19 hb
  replace m20 := blk_below m20 hb
  replace mB := below_step mB hb
  clear hb
  have hs_Wa : w.heap.size ≤ Wa.heap.size := mB.size
  clear kT
  skip
  have hbd : Hid (-1073741824 ≤ left - U.f1 ∧ left - U.f1 ≤ 1073741824 ∧ 0 ≤ cost + U.f1 ∧ cost + U.f1 ≤ ((plan.length : Int) + 1) * 1073741824) := Lib.hid (by omega)
  have hpn : (plan.length : Int) ≤ 2 := by omega
  have hw0 : wrap64 (left - U.f1) = left - U.f1 := by unfold wrap64; omega
  have hw1 : wrap64 (cost + U.f1) = cost + U.f1 := by unfold wrap64; omega
  have hw2 : wrap64 (t + v.dive) = t + v.dive := by have h_ := hV.dive; unfold wrap64; omega
  have HW : Hid (wrap64 (left - U.f1) = left - U.f1 ∧ wrap64 (cost + U.f1) = cost + U.f1 ∧ wrap64 (t + v.dive) = t + v.dive ∧ (plan.length : Int) ≤ 2 ∧ 1 ≤ v.dive ∧ v.dive ≤ 131072) := Lib.hid ⟨hw0, hw1, hw2, hpn, hV.dive.1, hV.dive.2⟩
  have HB0 := Lib.hid (And.intro ht (And.intro hl hc))
  have HUS := Lib.hid (And.intro hus hrs)
  clear hus hrs hpn hw2 ht hl hc
  have HBN2 : Hid (∀ k, bv2.ownBlock = some k → some k ≠ ((Value.slice Ap plan.length cp)).ownBlock) := Lib.hid (fun k hk he => by
   rcases hbv k hk with h_ | h_
   ·exact HBN.out k h_ he
   ·exact absurd (hPlt k he.symm) (Nat.not_lt.2 h_))
  have c15_0 := (blk_cell m15 0).trans rfl
  obtain ⟨cV_0, cV_1, cV_2, cV_3, cV_4, cV_5, cV_6⟩ := zcs7 mV
  have cL_0 := (blk_cell mL 0).trans rfl
  have c16_0 := (blk_cell m16 0).trans rfl
  by_cases q1 : left - U.f1 < v.reserve
  case pos =>
   have hq1 : decide (left - U.f1 < v.reserve) = true := decide_eq_true q1
   skip
   have HM1 := Lib.hid (HM.out.trans (if_pos q1))
   clear HM q1
   gi_wp2
   skip
   refine ⟨keepsFrom_below hN, KpD.below hXs hN, ?_⟩
   dsimp only
   rw [HPN.out, HM1.out]
   exact ⟨⟨mB, mT, mX, mV, mK, mG⟩, m13, m14, m15, m16, m17, m18, m19, hKp, HP, bv2, ⟨mL, mBe, HC⟩, hbv⟩
  case neg =>
   have hq1 : decide (left - U.f1 < v.reserve) = false := decide_eq_false q1
   have HQ1 := Lib.hid q1
   have HM1 := Lib.hid (HM.out.trans (if_neg q1))
   clear HM q1
   by_cases q4 : 0 ≤ P0.2 ∧ P0.2 ≤ cost + U.f1
   case pos =>
    have hq2 : decide (0 ≤ P0.2) = true := decide_eq_true q4.1
    have hq3 : decide (P0.2 ≤ cost + U.f1) = true := decide_eq_true q4.2
    have HM2 := Lib.hid (HM1.out.trans (if_pos q4))
    clear HM1 q4
    gi_wp2
    skip
    refine ⟨keepsFrom_below hN, KpD.below hXs hN, ?_⟩
    dsimp only
    rw [HPN.out, HM2.out]
    exact ⟨⟨mB, mT, mX, mV, mK, mG⟩, m13, m14, m15, m16, m17, m18, m19, hKp, HP, bv2, ⟨mL, mBe, HC⟩, hbv⟩
   case neg =>
    have HM := Lib.hid (HM1.out.trans (if_neg q4))
    clear HM1
    have hor : decide (0 ≤ P0.2) = false ∨ decide (0 ≤ P0.2) = true ∧ decide (P0.2 ≤ cost + U.f1) = false := by
     by_cases q2 : 0 ≤ P0.2
     ·exact .inr ⟨decide_eq_true q2, decide_eq_false (fun h => q4 ⟨q2, h⟩)⟩
     ·exact .inl (decide_eq_false q2)
    clear q4
    rcases hor with hq2 | ⟨hq2, hq3⟩
    all_goals
     have cX_0 := (blk_cell mX 0).trans rfl
     obtain ⟨c13_0, c13_1, c13_2, c13_3⟩ := zcs4 m13
     have c14_0 := (blk_cell m14 0).trans rfl
     obtain ⟨c20_0, c20_1⟩ := zcs2 m20
     gi_wp2_with fail
     skip
     try clear c15_0 cV_0 cV_1 cV_2 cV_3 cV_4 cV_5 cV_6 cL_0 c16_0 cX_0 c13_0 c13_1 c13_2 c13_3 c14_0 c20_0 c20_1
     clear hw0 hw1
     have hcon := kD Wa (HTA.out _ mB mT)
     refine ⟨trivial, (callsIn_wide.2 hcon).mono ?_⟩
     clear hcon
     rintro e Wb ⟨rfl, hb⟩
     replace HP := CoAt.below HP hb
     replace HC := CoAt.below HC hb
     replace hKp := KpG.step hKp hs_Wa hb
     replace hN := below_step hN hb
     replace mT := blk_below mT hb
     replace mX := blk_below mX hb
     replace mV := blk_below mV hb
     replace mK := blk_below mK hb
     replace mG := blk_below mG hb
     replace mL := blk_below mL hb
     replace mBe := blk_below mBe hb
     replace m13 := blk_below m13 hb
     replace m14 := blk_below m14 hb
     replace m15 := blk_below m15 hb
     replace m16 := blk_below m16 hb
     replace m17 := blk_below m17 hb
     replace m18 := blk_below m18 hb
     replace m19 := blk_below m19 hb
     replace m20 := blk_below m20 hb
     replace mB := below_step mB hb
     clear hb
     have hs_Wb : w.heap.size ≤ Wb.heap.size := mB.size
     clear kD
     have HM2 := Lib.hid (HM.out.trans rfl)
     clear HM
     by_cases hd : diveE s v x t = 0
     case neg =>
      have hd1 : (diveE s v x t == 0) = false := beq_eq_false_iff_ne.2 hd
      have hd2 : (diveE s v x t != 0) = true := by rw [bne, hd1]; rfl
      have hst := HRT.out hd
      have hrr := HD0.out hd
      have hQ_ : GrowQ w gL gB RR plan (Value.slice Ap plan.length cp) bv V Wb := by rw [hrr, ← hst]; exact ⟨hKp, HP, bv2, ⟨mL, mBe, HC⟩, hbv⟩
      clear hst hrr hd
      gi_wp2
      skip
      have hb9 := below_alloc (Below.refl Wb.heap.size Wb) (.cells #[.int .i64 Y.f0.f0, .int .i64 Y.f0.f1, .int .i64 Y.f1.f0, .int .i64 Y.f1.f1] 31)
      exact ⟨keepsFrom_below (below_step hN hb9), rfl, hQ_.below hs_Wb hb9⟩
     case pos =>
      have HM3 := Lib.hid (HM2.out.trans (if_neg (fun h => h hd)))
      clear HM2
      have hYB := KBX.out hd
      have HYB := Lib.hid hYB
      clear hYB
      rw [hd]
      clear hd
      have c14_0 : ∀ o_, (Wb.alloc o_).cell? ⟨g14, 0, none⟩ = some (.int .i64 t) := fun o_ => (blk_cell (blk_alloc m14 o_) 0).trans rfl
      have cV_0 : ∀ o_, (Wb.alloc o_).cell? ⟨gV, 0, none⟩ = some (.int .i64 v.speed) := fun o_ => (blk_cell (blk_alloc mV o_) 0).trans rfl
      have cV_1 : ∀ o_, (Wb.alloc o_).cell? ⟨gV, 1, none⟩ = some (.int .i64 v.dive) := fun o_ => (blk_cell (blk_alloc mV o_) 1).trans rfl
      have cV_2 : ∀ o_, (Wb.alloc o_).cell? ⟨gV, 2, none⟩ = some (.int .i64 v.use.f0) := fun o_ => (blk_cell (blk_alloc mV o_) 2).trans rfl
      have cV_3 : ∀ o_, (Wb.alloc o_).cell? ⟨gV, 3, none⟩ = some (.int .i64 v.use.f1) := fun o_ => (blk_cell (blk_alloc mV o_) 3).trans rfl
      have cV_4 : ∀ o_, (Wb.alloc o_).cell? ⟨gV, 4, none⟩ = some (.int .i64 v.drift.f0) := fun o_ => (blk_cell (blk_alloc mV o_) 4).trans rfl
      have cV_5 : ∀ o_, (Wb.alloc o_).cell? ⟨gV, 5, none⟩ = some (.int .i64 v.drift.f1) := fun o_ => (blk_cell (blk_alloc mV o_) 5).trans rfl
      have cV_6 : ∀ o_, (Wb.alloc o_).cell? ⟨gV, 6, none⟩ = some (.int .i64 v.reserve) := fun o_ => (blk_cell (blk_alloc mV o_) 6).trans rfl
      have cK_0 : ∀ o_, (Wb.alloc o_).cell? ⟨gK, 0, none⟩ = some (.int .i64 p.f0.f0.f0) := fun o_ => (blk_cell (blk_alloc mK o_) 0).trans rfl
      have cK_1 : ∀ o_, (Wb.alloc o_).cell? ⟨gK, 1, none⟩ = some (.int .i64 p.f0.f0.f1) := fun o_ => (blk_cell (blk_alloc mK o_) 1).trans rfl
      have cK_2 : ∀ o_, (Wb.alloc o_).cell? ⟨gK, 2, none⟩ = some (.int .i64 p.f0.f1.f0) := fun o_ => (blk_cell (blk_alloc mK o_) 2).trans rfl
      have cK_3 : ∀ o_, (Wb.alloc o_).cell? ⟨gK, 3, none⟩ = some (.int .i64 p.f0.f1.f1) := fun o_ => (blk_cell (blk_alloc mK o_) 3).trans rfl
      have cK_4 : ∀ o_, (Wb.alloc o_).cell? ⟨gK, 4, none⟩ = some (.int .i64 p.f1) := fun o_ => (blk_cell (blk_alloc mK o_) 4).trans rfl
      have cK_5 : ∀ o_, (Wb.alloc o_).cell? ⟨gK, 5, none⟩ = some (.int .i64 p.f2) := fun o_ => (blk_cell (blk_alloc mK o_) 5).trans rfl
      obtain ⟨_, _, hw2_, hpn_, hdv0_, hdv1_⟩ := HW.out
      obtain ⟨ht0_, ht1_⟩ := HB0.out.1
      gi_wp2_with fail
      clear c14_0 cV_0 cV_1 cV_2 cV_3 cV_4 cV_5 cV_6 cK_0 cK_1 cK_2 cK_3 cK_4 cK_5
      try rw [hw2_]
      clear hdv0_ hdv1_ ht0_ ht1_ hpn_ hw2_
      skip
      have hb9 := below_alloc (Below.refl Wb.heap.size Wb) (.cells #[.int .i64 Y.f0.f0, .int .i64 Y.f0.f1, .int .i64 Y.f1.f0, .int .i64 Y.f1.f1] 31)
      replace HP := CoAt.below HP hb9
      replace HC := CoAt.below HC hb9
      replace hKp := KpG.step hKp hs_Wb hb9
      replace hN := below_step hN hb9
      clear hb9
      have hl_T := blk_lt mT
      have hl_X := blk_lt mX
      have hl_V := blk_lt mV
      have hl_K := blk_lt mK
      have hl_G := blk_lt mG
      have hl_L := blk_lt mL
      have hl_Be := blk_lt mBe
      have hl_13 := blk_lt m13
      have hl_14 := blk_lt m14
      have hl_15 := blk_lt m15
      have hl_16 := blk_lt m16
      have hl_17 := blk_lt m17
      have hl_18 := blk_lt m18
      have hl_19 := blk_lt m19
      have hl_20 := blk_lt m20
      have m22 : Blk (Wb.alloc (.cells #[.int .i64 Y.f0.f0, .int .i64 Y.f0.f1, .int .i64 Y.f1.f0, .int .i64 Y.f1.f1] 31)) (Wb.heap.size) #[.int .i64 Y.f0.f0, .int .i64 Y.f0.f1, .int .i64 Y.f1.f0, .int .i64 Y.f1.f1] 31 := (by have h_ := blk_new Wb (.cells #[.int .i64 Y.f0.f0, .int .i64 Y.f0.f1, .int .i64 Y.f1.f0, .int .i64 Y.f1.f1] 31); first | exact h_ | (simp only [World.size_alloc] at h_; exact h_))
      replace mT : Blk (Wb.alloc (.cells #[.int .i64 Y.f0.f0, .int .i64 Y.f0.f1, .int .i64 Y.f1.f0, .int .i64 Y.f1.f1] 31)) g #[.int .i64 s.nx, .int .i64 s.ny, .int .i64 s.cell, .int .i64 s.slot, .int .i64 s.slots, .int .i64 s.layers, .int .i64 s.most, .slice B7 s.shores.length d7, .slice B8 s.currents.length d8, .int .i64 v.speed, .int .i64 v.dive, .int .i64 v.use.f0, .int .i64 v.use.f1, .int .i64 v.drift.f0, .int .i64 v.drift.f1, .int .i64 v.reserve] 110 := (blk_alloc mT _)
      replace mX : Blk (Wb.alloc (.cells #[.int .i64 Y.f0.f0, .int .i64 Y.f0.f1, .int .i64 Y.f1.f0, .int .i64 Y.f1.f1] 31)) gX #[.pointer (some ⟨g, 0, none⟩)] 104 := (blk_alloc mX _)
      replace mV : Blk (Wb.alloc (.cells #[.int .i64 Y.f0.f0, .int .i64 Y.f0.f1, .int .i64 Y.f1.f0, .int .i64 Y.f1.f1] 31)) gV #[.int .i64 v.speed, .int .i64 v.dive, .int .i64 v.use.f0, .int .i64 v.use.f1, .int .i64 v.drift.f0, .int .i64 v.drift.f1, .int .i64 v.reserve] 29 := (blk_alloc mV _)
      replace mK : Blk (Wb.alloc (.cells #[.int .i64 Y.f0.f0, .int .i64 Y.f0.f1, .int .i64 Y.f1.f0, .int .i64 Y.f1.f1] 31)) gK #[.int .i64 p.f0.f0.f0, .int .i64 p.f0.f0.f1, .int .i64 p.f0.f1.f0, .int .i64 p.f0.f1.f1, .int .i64 p.f1, .int .i64 p.f2] 81 := (blk_alloc mK _)
      replace mG : Blk (Wb.alloc (.cells #[.int .i64 Y.f0.f0, .int .i64 Y.f0.f1, .int .i64 Y.f1.f0, .int .i64 Y.f1.f1] 31)) gG #[.func (.func 107) #[] #[.pointer (some ⟨gL, 0, none⟩), .pointer (some ⟨gB, 0, none⟩), .pointer (some ⟨gX, 0, none⟩), .pointer (some ⟨gV, 0, none⟩), .pointer (some ⟨gK, 0, none⟩), .pointer (some ⟨gG, 0, none⟩)]] 141 := (blk_alloc mG _)
      replace mL : Blk (Wb.alloc (.cells #[.int .i64 Y.f0.f0, .int .i64 Y.f0.f1, .int .i64 Y.f1.f0, .int .i64 Y.f1.f1] 31)) gL #[.int .i64 P0.2] 2 := (blk_alloc mL _)
      replace mBe : Blk (Wb.alloc (.cells #[.int .i64 Y.f0.f0, .int .i64 Y.f0.f1, .int .i64 Y.f1.f0, .int .i64 Y.f1.f1] 31)) gB #[bv2] 49 := (blk_alloc mBe _)
      replace m13 : Blk (Wb.alloc (.cells #[.int .i64 Y.f0.f0, .int .i64 Y.f0.f1, .int .i64 Y.f1.f0, .int .i64 Y.f1.f1] 31)) g13 #[.int .i64 x.f0.f0, .int .i64 x.f0.f1, .int .i64 x.f1.f0, .int .i64 x.f1.f1] 31 := (blk_alloc m13 _)
      replace m14 : Blk (Wb.alloc (.cells #[.int .i64 Y.f0.f0, .int .i64 Y.f0.f1, .int .i64 Y.f1.f0, .int .i64 Y.f1.f1] 31)) g14 #[.int .i64 t] 2 := (blk_alloc m14 _)
      replace m15 : Blk (Wb.alloc (.cells #[.int .i64 Y.f0.f0, .int .i64 Y.f0.f1, .int .i64 Y.f1.f0, .int .i64 Y.f1.f1] 31)) g15 #[.int .i64 left] 2 := (blk_alloc m15 _)
      replace m16 : Blk (Wb.alloc (.cells #[.int .i64 Y.f0.f0, .int .i64 Y.f0.f1, .int .i64 Y.f1.f0, .int .i64 Y.f1.f1] 31)) g16 #[.int .i64 cost] 2 := (blk_alloc m16 _)
      replace m17 : Blk (Wb.alloc (.cells #[.int .i64 Y.f0.f0, .int .i64 Y.f0.f1, .int .i64 Y.f1.f0, .int .i64 Y.f1.f1] 31)) g17 #[(Value.slice Ap plan.length cp)] 49 := (blk_alloc m17 _)
      replace m18 : Blk (Wb.alloc (.cells #[.int .i64 Y.f0.f0, .int .i64 Y.f0.f1, .int .i64 Y.f1.f0, .int .i64 Y.f1.f1] 31)) g18 #[.bool there] 4 := (blk_alloc m18 _)
      replace m19 : Blk (Wb.alloc (.cells #[.int .i64 Y.f0.f0, .int .i64 Y.f0.f1, .int .i64 Y.f1.f0, .int .i64 Y.f1.f1] 31)) g19 #[.int .i64 m] 3 := (blk_alloc m19 _)
      replace m20 : Blk (Wb.alloc (.cells #[.int .i64 Y.f0.f0, .int .i64 Y.f0.f1, .int .i64 Y.f1.f0, .int .i64 Y.f1.f1] 31)) g20 #[.int .i64 c0, .int .i64 c1] 33 := (blk_alloc m20 _)
      replace mB : Below w.heap.size w (Wb.alloc (.cells #[.int .i64 Y.f0.f0, .int .i64 Y.f0.f1, .int .i64 Y.f1.f0, .int .i64 Y.f1.f1] 31)) := (below_alloc mB _)
      have hsz_ : w.heap.size ≤ Wb.heap.size := hs_Wb
      generalize hW_ : (Wb.alloc (.cells #[.int .i64 Y.f0.f0, .int .i64 Y.f0.f1, .int .i64 Y.f1.f0, .int .i64 Y.f1.f1] 31)) = Wc at mT mX mV mK mG mL mBe m13 m14 m15 m16 m17 m18 m19 m20 m22 mB HP HC hKp hN ⊢
      clear hW_
      generalize hg22 : Wb.heap.size = g22 at m22 ⊢
      have hn_T_22 : g ≠ g22 := by omega
      have hn_X_22 : gX ≠ g22 := by omega
      have hn_V_22 : gV ≠ g22 := by omega
      have hn_K_22 : gK ≠ g22 := by omega
      have hn_G_22 : gG ≠ g22 := by omega
      have hn_L_22 : gL ≠ g22 := by omega
      have hn_Be_22 : gB ≠ g22 := by omega
      have hn_13_22 : g13 ≠ g22 := by omega
      have hn_14_22 : g14 ≠ g22 := by omega
      have hn_15_22 : g15 ≠ g22 := by omega
      have hn_16_22 : g16 ≠ g22 := by omega
      have hn_17_22 : g17 ≠ g22 := by omega
      have hn_18_22 : g18 ≠ g22 := by omega
      have hn_19_22 : g19 ≠ g22 := by omega
      have hn_20_22 : g20 ≠ g22 := by omega
      have hn_22_T : g22 ≠ g := hn_T_22.symm
      have hn_22_X : g22 ≠ gX := hn_X_22.symm
      have hn_22_V : g22 ≠ gV := hn_V_22.symm
      have hn_22_K : g22 ≠ gK := hn_K_22.symm
      have hn_22_G : g22 ≠ gG := hn_G_22.symm
      have hn_22_L : g22 ≠ gL := hn_L_22.symm
      have hn_22_Be : g22 ≠ gB := hn_Be_22.symm
      have hn_22_13 : g22 ≠ g13 := hn_13_22.symm
      have hn_22_14 : g22 ≠ g14 := hn_14_22.symm
      have hn_22_15 : g22 ≠ g15 := hn_15_22.symm
      have hn_22_16 : g22 ≠ g16 := hn_16_22.symm
      have hn_22_17 : g22 ≠ g17 := hn_17_22.symm
      have hn_22_18 : g22 ≠ g18 := hn_18_22.symm
      have hn_22_19 : g22 ≠ g19 := hn_19_22.symm
      have hn_22_20 : g22 ≠ g20 := hn_20_22.symm
      have hG22 : w.heap.size ≤ g22 := by omega
      clear hsz_ hl_T hl_X hl_V hl_K hl_G hl_L hl_Be hl_13 hl_14 hl_15 hl_16 hl_17 hl_18 hl_19 hl_20
      try clear hg22
      have hs_Wc : w.heap.size ≤ Wc.heap.size := mB.size
      skip
      try clear hn_T_X
      try clear hn_T_V
      try clear hn_T_K
      try clear hn_T_G
      try clear hn_T_L
      try clear hn_T_Be
      try clear hn_T_13 hn_T_14 hn_T_15 hn_T_16 hn_T_17 hn_T_18 hn_T_19 hn_T_20 hn_T_22
      try clear hn_X_T
      try clear hn_X_V
      try clear hn_X_K
      try clear hn_X_G
      try clear hn_X_L
      try clear hn_X_Be
      try clear hn_X_13 hn_X_14 hn_X_15 hn_X_16 hn_X_17 hn_X_18 hn_X_19 hn_X_20 hn_X_22
      try clear hn_V_T
      try clear hn_V_X
      try clear hn_V_K
      try clear hn_V_G
      try clear hn_V_L
      try clear hn_V_Be
      try clear hn_V_13 hn_V_14 hn_V_15 hn_V_16 hn_V_17 hn_V_18 hn_V_19 hn_V_20 hn_V_22
      try clear hn_K_T
      try clear hn_K_X
      try clear hn_K_V
      try clear hn_K_G
      try clear hn_K_L
      try clear hn_K_Be
      try clear hn_K_13 hn_K_14 hn_K_15 hn_K_16 hn_K_17 hn_K_18 hn_K_19 hn_K_20 hn_K_22
      try clear hn_G_T
      try clear hn_G_X
      try clear hn_G_V
      try clear hn_G_K
      try clear hn_G_L
      try clear hn_G_Be
      try clear hn_G_13 hn_G_14 hn_G_15 hn_G_16 hn_G_17 hn_G_18 hn_G_19 hn_G_20 hn_G_22
      try clear hn_L_T
      try clear hn_L_X
      try clear hn_L_V
      try clear hn_L_K
      try clear hn_L_G
      try clear hn_L_Be
      try clear hn_L_13 hn_L_14 hn_L_15 hn_L_16 hn_L_17 hn_L_18 hn_L_19 hn_L_20 hn_L_22
      try clear hn_Be_T
      try clear hn_Be_X
      try clear hn_Be_V
      try clear hn_Be_K
      try clear hn_Be_G
      try clear hn_Be_L
      try clear hn_Be_13 hn_Be_14 hn_Be_15 hn_Be_16 hn_Be_17 hn_Be_18 hn_Be_19 hn_Be_20 hn_Be_22
      try clear hn_13_T
      try clear hn_13_X
      try clear hn_13_V
      try clear hn_13_K
      try clear hn_13_G
      try clear hn_13_L
      try clear hn_13_Be
      try clear hn_13_14 hn_13_15 hn_13_16 hn_13_17 hn_13_18 hn_13_19 hn_13_20 hn_13_22
      try clear hn_14_T
      try clear hn_14_X
      try clear hn_14_V
      try clear hn_14_K
      try clear hn_14_G
      try clear hn_14_L
      try clear hn_14_Be
      try clear hn_14_13 hn_14_15 hn_14_16 hn_14_17 hn_14_18 hn_14_19 hn_14_20 hn_14_22
      try clear hn_15_T
      try clear hn_15_X
      try clear hn_15_V
      try clear hn_15_K
      try clear hn_15_G
      try clear hn_15_L
      try clear hn_15_Be
      try clear hn_15_13 hn_15_14 hn_15_16 hn_15_17 hn_15_18 hn_15_19 hn_15_20 hn_15_22
      try clear hn_16_T
      try clear hn_16_X
      try clear hn_16_V
      try clear hn_16_K
      try clear hn_16_G
      try clear hn_16_L
      try clear hn_16_Be
      try clear hn_16_13 hn_16_14 hn_16_15 hn_16_17 hn_16_18 hn_16_19 hn_16_20 hn_16_22
      try clear hn_17_T
      try clear hn_17_X
      try clear hn_17_V
      try clear hn_17_K
      try clear hn_17_G
      try clear hn_17_L
      try clear hn_17_Be
      try clear hn_17_13 hn_17_14 hn_17_15 hn_17_16 hn_17_18 hn_17_19 hn_17_20 hn_17_22
      try clear hn_18_T
      try clear hn_18_X
      try clear hn_18_V
      try clear hn_18_K
      try clear hn_18_G
      try clear hn_18_L
      try clear hn_18_Be
      try clear hn_18_13 hn_18_14 hn_18_15 hn_18_16 hn_18_17 hn_18_19 hn_18_20 hn_18_22
      try clear hn_19_T
      try clear hn_19_X
      try clear hn_19_V
      try clear hn_19_K
      try clear hn_19_G
      try clear hn_19_L
      try clear hn_19_Be
      try clear hn_19_13 hn_19_14 hn_19_15 hn_19_16 hn_19_17 hn_19_18 hn_19_20 hn_19_22
      try clear hn_20_T
      try clear hn_20_X
      try clear hn_20_V
      try clear hn_20_K
      try clear hn_20_G
      try clear hn_20_L
      try clear hn_20_Be
      try clear hn_20_13 hn_20_14 hn_20_15 hn_20_16 hn_20_17 hn_20_18 hn_20_19 hn_20_22
      try clear hn_22_T
      try clear hn_22_X
      try clear hn_22_V
      try clear hn_22_K
      try clear hn_22_G
      try clear hn_22_L
      try clear hn_22_Be
      try clear hn_22_13 hn_22_14 hn_22_15 hn_22_16 hn_22_17 hn_22_18 hn_22_19 hn_22_20
      clear hG22
      skip
      have hcon := btw_any (t + v.dive) p.f1 p.f2 Wc
      refine ⟨trivial, (callsIn_wide.2 hcon).mono ?_⟩
      clear hcon
      rintro e Wd ⟨rfl, hb⟩
      replace HP := CoAt.below HP hb
      replace HC := CoAt.below HC hb
      replace hKp := KpG.step hKp hs_Wc hb
      replace hN := below_step hN hb
      replace mT := blk_below mT hb
      replace mX := blk_below mX hb
      replace mV := blk_below mV hb
      replace mK := blk_below mK hb
      replace mG := blk_below mG hb
      replace mL := blk_below mL hb
      replace mBe := blk_below mBe hb
      replace m13 := blk_below m13 hb
      replace m14 := blk_below m14 hb
      replace m15 := blk_below m15 hb
      replace m16 := blk_below m16 hb
      replace m17 := blk_below m17 hb
      replace m18 := blk_below m18 hb
      replace m19 := blk_below m19 hb
      replace m20 := blk_below m20 hb
      replace m22 := blk_below m22 hb
      replace mB := below_step mB hb
      clear hb
      have hs_Wd : w.heap.size ≤ Wd.heap.size := mB.size
      skip
      cases hbw : btwB (t + v.dive) p.f1 p.f2 with
      | false =>
       have hhr : Hid (hereB p (t + v.dive) Y = false) := Lib.hid (by unfold hereB; rw [hbw]; rfl)
       clear hbw
       gi_wp2_with fail
       refine ⟨trivial, ?_⟩
       apply_assumption
       gi_wp2_with fail
       skip
       refine wpIn_only ?_
       refine grow_call _ _ _ _ _ _ _ _ _ _ _ _ _ _ _ _ _ _ _ _ _ _ _ _ _ _ _ _ _ _ _ _ _ _ _ _ _ _ _ _ _ _ _ _ _ _ _ _ _ _ _ _ _ _ _ _ _ _ _ _ _ _ _ _ _ _ _ _ _ _ _ _ _ _ _ _ _ _ _ _ _ _ _ _ _ _ _ _ _ _ _ _ _ _ _ _ _ _ _ _ _ w gG g15 g16 g17 g18 g19 g20 g22 _ plan Y U.f1 (t + v.dive) left cost m c0 c1 false there (Value.slice Ap plan.length cp) Wd (fun w' => GrowQ w gL gB PN plan (Value.slice Ap plan.length cp) bv2 Wd w') mB mG m22 m15 m16 m17 m18 m19 m20 HP h20 (by have h_ := HW.out; omega) ?hcall ?hKK
       skip
       case hcall =>
        intro v1 W1_ HP1 hB1 hb1 hk1 hst hback
        obtain ⟨ew0, ew1, ew2, hp2, hd0, hd1⟩ := HW.out
        obtain ⟨ht, hl, hc⟩ := HB0.out
        obtain ⟨hus, hrs⟩ := HUS.out
        have hbd_ := hbd.out
        have hq1_ := HQ1.out
        have hnK : ∀ {k : Nat} {cs : Array Value} {ty : TypeId}, Blk Wd k cs ty → ty ≠ 33 → Blk W1_ k cs ty := fun {k cs ty} hb ht => (hk1 k (blk_lt hb) (CoAt.ne HP hb ht)).trans hb
        have hm1 : wrap64 (m - 1) = (n : Int) := by have h_ := HMM.out; unfold wrap64; omega
        rw [ew0, ew1, hm1]
        have hA1 : BestAt w gL gB bv2 P0 W1_ := ⟨hnK mL (by decide), hnK mBe (by decide), HC.move (fun k hk => hk1 k (HC.lt k hk).2 (HBN2.out k hk))⟩
        have hcon := IH Y (t + v.dive) (left - U.f1) (cost + U.f1) (n : Int) (plan ++ [⟨c0, c1⟩]) (there || false) P0 v1 bv2 W1_ rfl zq55 zq55 HYB.out zq55 (by omega) zq55 ⟨hB1, hnK mT (by decide), hnK mX (by decide), hnK mV (by decide), hnK mK (by decide), hnK mG (by decide)⟩ hA1 HP1 (fun k hk he => by
         rcases hback with ⟨e1, _⟩ | ⟨b, e1, e2⟩
         ·exact HBN2.out k hk (he.trans e1)
         ·rw [e1] at he; injection he with he; have h_ := (HC.lt k hk).2; omega)
        refine hcon.mono ?_
        intro e w9 hp9
        refine ⟨hp9.1, ?_⟩
        rw [HM3.out, hhr.out]
        exact GrowQ.back hA1 hb1 hk1 HP hst hback hp9
       case hKK =>
        intro z92 z93 z94 z95 z96 z97 z98 z99 z100 z101 z102 z103 z104 z105 z106 z107 z108 z109 z110 z111 w9 hq9
        obtain ⟨hk9, hp9, bv9, ha9, hv9⟩ := hq9
        have hkX : KpG w gL gB ((Value.slice Ap plan.length cp)).ownBlock X_ w9 := (KpG.of_below hXs hN).trans hk9
        obtain ⟨hn14, hn15, hn16, hn17⟩ := HN.out
        have hE9 : ∀ {W : World} {k : Nat} {cs : Array Value} {ty : TypeId}, KpG w gL gB ((Value.slice Ap plan.length cp)).ownBlock W w9 → Blk W gL #[.int .i64 P0.2] 2 → Blk W gB #[bv2] 49 → CoAt W w.heap.size (Value.slice Ap plan.length cp) plan → Blk W k cs ty → ty ≠ 2 → ty ≠ 49 → ty ≠ 33 → Blk w9 k cs ty := fun {W k cs ty} hk hL hB hC hb h1 h2 h3 => Blk.keepG hk hb (blk_ne hb hL h1) (blk_ne hb hB h2) (CoAt.ne hC hb h3)
        have hkp := fun {k : Nat} {cs : Array Value} {ty : TypeId} (hb : Blk Wd k cs ty) => hE9 (ty := ty) hk9 mL mBe HP hb
        obtain ⟨hKpX, HPX, bvX, hAX, hbvX⟩ := HQV.out
        skip
        refine ⟨keepsFrom_kpG hAX HPX hkX, ⟨hkX.1, fun hb => ?_, fun hb => ?_⟩, ?_⟩
        ·exact Blk.keepG hkX hb (blk_ne hb hAX.1 (by decide)) (blk_ne hb hAX.2.1 (by decide)) (CoAt.ne HPX hb (by decide))
        ·exact Blk.keepG hkX hb hQL hQB (CoAt.ne HPX hb (by decide))
        dsimp only; rw [show List.foldl (stepG s v p n x t left cost plan there) st (List.map Subtype.val (pre ++ [⟨⟨c0, c1⟩, c2⟩])) = PN from HPN.out]; refine ⟨⟨mB.trans hk9.1, hkp mT (by decide) (by decide) (by decide), hkp mX (by decide) (by decide) (by decide), hkp mV (by decide) (by decide) (by decide), hkp mK (by decide) (by decide) (by decide), hkp mG (by decide) (by decide) (by decide)⟩, hkp m13 (by decide) (by decide) (by decide), Blk.keepG hk9 m14 hn14 (blk_ne m14 mBe (by decide)) (CoAt.ne HP m14 (by decide)), Blk.keepG hk9 m15 hn15 (blk_ne m15 mBe (by decide)) (CoAt.ne HP m15 (by decide)), Blk.keepG hk9 m16 hn16 (blk_ne m16 mBe (by decide)) (CoAt.ne HP m16 (by decide)), Blk.keepG hk9 m17 (blk_ne m17 mL (by decide)) hn17 (CoAt.ne HP m17 (by decide)), hkp m18 (by decide) (by decide) (by decide), hkp m19 (by decide) (by decide) (by decide), hKp.trans hk9, hp9, bv9, ha9, fun k hk => ?_⟩
        rcases hv9 k hk with h9 | h9
        ·exact hbv k h9
        ·exact .inr (Nat.le_trans hKp.1.size h9)
      | true =>
       obtain ⟨c22_0, c22_1, c22_2, c22_3⟩ := zcs4 m22
       obtain ⟨cK_0, cK_1, cK_2, cK_3, cK_4, cK_5⟩ := zcs6 mK
       gi_wp2_with fail
       skip
       clear c22_0 c22_1 c22_2 c22_3 cK_0 cK_1 cK_2 cK_3 cK_4 cK_5
       have hcon := inside_any Y p.f0 Wd
       refine ⟨trivial, (callsIn_wide.2 hcon).mono ?_⟩
       clear hcon
       rintro e We ⟨rfl, hb⟩
       replace HP := CoAt.below HP hb
       replace HC := CoAt.below HC hb
       replace hKp := KpG.step hKp hs_Wd hb
       replace hN := below_step hN hb
       replace mT := blk_below mT hb
       replace mX := blk_below mX hb
       replace mV := blk_below mV hb
       replace mK := blk_below mK hb
       replace mG := blk_below mG hb
       replace mL := blk_below mL hb
       replace mBe := blk_below mBe hb
       replace m13 := blk_below m13 hb
       replace m14 := blk_below m14 hb
       replace m15 := blk_below m15 hb
       replace m16 := blk_below m16 hb
       replace m17 := blk_below m17 hb
       replace m18 := blk_below m18 hb
       replace m19 := blk_below m19 hb
       replace m20 := blk_below m20 hb
       replace m22 := blk_below m22 hb
       replace mB := below_step mB hb
       clear hb
       have hs_We : w.heap.size ≤ We.heap.size := mB.size
       have hhr : Hid (hereB p (t + v.dive) Y = (insI Y p.f0 == 2)) := Lib.hid (by unfold hereB; rw [hbw]; rfl)
       clear hbw
       generalize insI Y p.f0 = ii at *
       gi_wp2_with fail
       skip
       refine wpIn_only ?_
       refine grow_call _ _ _ _ _ _ _ _ _ _ _ _ _ _ _ _ _ _ _ _ _ _ _ _ _ _ _ _ _ _ _ _ _ _ _ _ _ _ _ _ _ _ _ _ _ _ _ _ _ _ _ _ _ _ _ _ _ _ _ _ _ _ _ _ _ _ _ _ _ _ _ _ _ _ _ _ _ _ _ _ _ _ _ _ _ _ _ _ _ _ _ _ _ _ _ _ _ _ _ _ _ w gG g15 g16 g17 g18 g19 g20 g22 _ plan Y U.f1 (t + v.dive) left cost m c0 c1 (ii == 2) there (Value.slice Ap plan.length cp) We (fun w' => GrowQ w gL gB PN plan (Value.slice Ap plan.length cp) bv2 We w') mB mG m22 m15 m16 m17 m18 m19 m20 HP h20 (by have h_ := HW.out; omega) ?hcall ?hKK
       skip
       case hcall =>
        intro v1 W1_ HP1 hB1 hb1 hk1 hst hback
        obtain ⟨ew0, ew1, ew2, hp2, hd0, hd1⟩ := HW.out
        obtain ⟨ht, hl, hc⟩ := HB0.out
        obtain ⟨hus, hrs⟩ := HUS.out
        have hbd_ := hbd.out
        have hq1_ := HQ1.out
        have hnK : ∀ {k : Nat} {cs : Array Value} {ty : TypeId}, Blk We k cs ty → ty ≠ 33 → Blk W1_ k cs ty := fun {k cs ty} hb ht => (hk1 k (blk_lt hb) (CoAt.ne HP hb ht)).trans hb
        have hm1 : wrap64 (m - 1) = (n : Int) := by have h_ := HMM.out; unfold wrap64; omega
        rw [ew0, ew1, hm1]
        have hA1 : BestAt w gL gB bv2 P0 W1_ := ⟨hnK mL (by decide), hnK mBe (by decide), HC.move (fun k hk => hk1 k (HC.lt k hk).2 (HBN2.out k hk))⟩
        have hcon := IH Y (t + v.dive) (left - U.f1) (cost + U.f1) (n : Int) (plan ++ [⟨c0, c1⟩]) (there || (ii == 2)) P0 v1 bv2 W1_ rfl zq55 zq55 HYB.out zq55 (by omega) zq55 ⟨hB1, hnK mT (by decide), hnK mX (by decide), hnK mV (by decide), hnK mK (by decide), hnK mG (by decide)⟩ hA1 HP1 (fun k hk he => by
         rcases hback with ⟨e1, _⟩ | ⟨b, e1, e2⟩
         ·exact HBN2.out k hk (he.trans e1)
         ·rw [e1] at he; injection he with he; have h_ := (HC.lt k hk).2; omega)
        refine hcon.mono ?_
        intro e w9 hp9
        refine ⟨hp9.1, ?_⟩
        rw [HM3.out, hhr.out]
        exact GrowQ.back hA1 hb1 hk1 HP hst hback hp9
       case hKK =>
        intro z92 z93 z94 z95 z96 z97 z98 z99 z100 z101 z102 z103 z104 z105 z106 z107 z108 z109 z110 z111 w9 hq9
        obtain ⟨hk9, hp9, bv9, ha9, hv9⟩ := hq9
        have hkX : KpG w gL gB ((Value.slice Ap plan.length cp)).ownBlock X_ w9 := (KpG.of_below hXs hN).trans hk9
        obtain ⟨hn14, hn15, hn16, hn17⟩ := HN.out
        have hE9 : ∀ {W : World} {k : Nat} {cs : Array Value} {ty : TypeId}, KpG w gL gB ((Value.slice Ap plan.length cp)).ownBlock W w9 → Blk W gL #[.int .i64 P0.2] 2 → Blk W gB #[bv2] 49 → CoAt W w.heap.size (Value.slice Ap plan.length cp) plan → Blk W k cs ty → ty ≠ 2 → ty ≠ 49 → ty ≠ 33 → Blk w9 k cs ty := fun {W k cs ty} hk hL hB hC hb h1 h2 h3 => Blk.keepG hk hb (blk_ne hb hL h1) (blk_ne hb hB h2) (CoAt.ne hC hb h3)
        have hkp := fun {k : Nat} {cs : Array Value} {ty : TypeId} (hb : Blk We k cs ty) => hE9 (ty := ty) hk9 mL mBe HP hb
        obtain ⟨hKpX, HPX, bvX, hAX, hbvX⟩ := HQV.out
        skip
        refine ⟨keepsFrom_kpG hAX HPX hkX, ⟨hkX.1, fun hb => ?_, fun hb => ?_⟩, ?_⟩
        ·exact Blk.keepG hkX hb (blk_ne hb hAX.1 (by decide)) (blk_ne hb hAX.2.1 (by decide)) (CoAt.ne HPX hb (by decide))
        ·exact Blk.keepG hkX hb hQL hQB (CoAt.ne HPX hb (by decide))
        dsimp only; rw [show List.foldl (stepG s v p n x t left cost plan there) st (List.map Subtype.val (pre ++ [⟨⟨c0, c1⟩, c2⟩])) = PN from HPN.out]; refine ⟨⟨mB.trans hk9.1, hkp mT (by decide) (by decide) (by decide), hkp mX (by decide) (by decide) (by decide), hkp mV (by decide) (by decide) (by decide), hkp mK (by decide) (by decide) (by decide), hkp mG (by decide) (by decide) (by decide)⟩, hkp m13 (by decide) (by decide) (by decide), Blk.keepG hk9 m14 hn14 (blk_ne m14 mBe (by decide)) (CoAt.ne HP m14 (by decide)), Blk.keepG hk9 m15 hn15 (blk_ne m15 mBe (by decide)) (CoAt.ne HP m15 (by decide)), Blk.keepG hk9 m16 hn16 (blk_ne m16 mBe (by decide)) (CoAt.ne HP m16 (by decide)), Blk.keepG hk9 m17 (blk_ne m17 mL (by decide)) hn17 (CoAt.ne HP m17 (by decide)), hkp m18 (by decide) (by decide) (by decide), hkp m19 (by decide) (by decide) (by decide), hKp.trans hk9, hp9, bv9, ha9, fun k hk => ?_⟩
        rcases hv9 k hk with h9 | h9
        ·exact hbv k h9
        ·exact .inr (Nat.le_trans hKp.1.size h9)
theorem grow_all (w : World) (s : Sea) (v : Veh) (p : S81) (g gX gV gK gG gL gB : Nat) (B7 B8 : Option Addr) (d7 d8 : Nat) (hTA : ∀ W', Below w.heap.size w W' → Blk W' g #[.int .i64 s.nx, .int .i64 s.ny, .int .i64 s.cell, .int .i64 s.slot, .int .i64 s.slots, .int .i64 s.layers, .int .i64 s.most, .slice B7 s.shores.length d7, .slice B8 s.currents.length d8, .int .i64 v.speed, .int .i64 v.dive, .int .i64 v.use.f0, .int .i64 v.use.f1, .int .i64 v.drift.f0, .int .i64 v.drift.f1, .int .i64 v.reserve] 110 → TripAt W' g s v) (hS : SeaV s) (hV : VehN v) (hv : vehB v = true) (hGL : w.heap.size ≤ gL) (hGB : w.heap.size ≤ gB) : ∀ n, GrowOK w s v p g gX gV gK gG gL gB B7 B8 d7 d8 n
 | 0 => by
  intro x t left cost m plan there st pv bv V hm h0 h3 hx ht hl hc hE hA hP hbn
  obtain ⟨Ap, cp, rfl⟩ := hP.slice
  exact grow_zero w s v p g gX gV gK gG gL gB B7 B8 d7 d8 hGL hGB x t left cost m plan there st Ap cp bv V (by omega) (by omega) hE hA hP
 | n + 1 => by
  intro x t left cost m plan there st pv bv V hm h0 h3 hx ht hl hc hE hA hP hbn
  obtain ⟨Ap, cp, rfl⟩ := hP.slice
  exact grow_succ w s v p g gX gV gK gG gL gB B7 B8 d7 d8 hTA hS hV hv hGL hGB n (grow_all w s v p g gX gV gK gG gL gB B7 B8 d7 d8 hTA hS hV hv hGL hGB n) x t left cost m plan there st Ap cp bv V (by omega) h3 hx ht hl hc hE hA hP hbn
end Go.Proofs.Ytmhaiihjfgfaoaa.Gl
end
