/- Part 7 of the proof of ClockOrder: what the functions compute. No condition. -/
import Derived.Test.YtcjdhajdoikojaaCoClockOrder3
import Derived.Test.YtcjdhajdoikojaaCoClockOrder6
set_option linter.unusedVariables false
set_option linter.unusedSimpArgs false
section
/- The first two anchors that contradict each other, as the program finds them. -/
namespace Go.Proofs.Ytcjdhajdoikojaa.Clk
open Go.RowKit Go.Shelf Go.Proofs.YtcjdhajdoikojaaW.PrintWords Go.Proofs.YtcjdhajdoikojaaW.PrintLast Go.Proofs.YtcjdhajdoikojaaW.PrintMore Go.Proofs.Ytcjdhajdoikojaa.Pr Go.Proofs.YtcjdhajdoikojaaW.Round
set_option linter.unusedVariables false
set_option linter.unusedSimpArgs false
attribute [local go_sem] Oper.semAt_some
/-- All pairs of numbers below n, the first one less than the second one, by the second one. -/
def pairsL (n : Nat) : List (Int × Int) := (List.range n).flatMap fun k => (List.range k).map fun (i : Nat) => ((i : Int), (k : Int))
theorem pairsL_succ (n : Nat) : pairsL (n + 1) = pairsL n ++ (List.range n).map fun (i : Nat) => ((i : Int), (n : Int)) := by simp [pairsL, List.range_succ]
theorem pairsL_pre (k : Nat) : ∀ n, k ≤ n → pairsL k <+: pairsL n
 | 0, h => by
  obtain rfl : k = 0 := by omega
  exact List.prefix_refl _
 | n + 1, h => by
  by_cases e : k = n + 1
  ·subst e
   exact List.prefix_refl _
  ·exact (pairsL_pre k n (by omega)).trans (by rw [pairsL_succ]; exact List.prefix_append _ _)
/-- What has come when k rounds and i rounds more are over. -/
def uptoL (k i : Nat) : List (Int × Int) := pairsL k ++ (List.range i).map fun (i : Nat) => ((i : Int), (k : Int))
theorem uptoL_succ (k i : Nat) : uptoL k (i + 1) = uptoL k i ++ [((i : Int), (k : Int))] := by simp [uptoL, List.range_succ]
theorem uptoL_end (k : Nat) : uptoL k k = pairsL (k + 1) := (pairsL_succ k).symm
theorem uptoL_pre {k i n : Nat} (hk : k < n) (hi : i ≤ k) : uptoL k i <+: pairsL n := by
 refine List.IsPrefix.trans ?_ (pairsL_pre (k + 1) n hk)
 rw [pairsL_succ]
 refine (List.prefix_append_right_inj _).2 ?_
 exact List.IsPrefix.map _ (by
  refine ⟨(List.range (k - i)).map (i + ·), ?_⟩
  rw [← List.range_add]
  congr 1
  omega)
abbrev PairN (n : Nat) := { p : Int × Int // 0 ≤ p.1 ∧ p.1 < p.2 ∧ p.2 < (n : Int) }

def AllP {n : Nat} (xs : List (PairN n)) : Prop := xs.map Subtype.val = pairsL n
def PreP {n : Nat} (xs : List (PairN n)) : Prop := xs.map Subtype.val <+: pairsL n

/-- Two results in memory, the second one of one cell. -/
theorem results_cb {P : Program} {fn : Func} {p u : Tmp} {ty ty2 : TypeId} (h : fn.results = #[.cell p ty, .cell u ty2]) (tmps : Array Value) (w : World) (g g2 : Nat) (t t2 : TypeId) (cs : Array Value) (v : Value) (d : TypeDesc)
  (hp : tmps.getD p undef = .pointer (some ⟨g, 0, none⟩)) (hg : w.heap[g]? = some (.cells cs t (0, 0)))
  (hu : P.underlying ty = some d) (hd : (match d with | .struct _ | .array _ _ => true | _ => false) = true) (hi : (P.info? ty).map (·.size) = some cs.size)
  (hp2 : tmps.getD u undef = .pointer (some ⟨g2, 0, none⟩)) (hg2 : w.heap[g2]? = some (.cells #[v] t2 (0, 0))) (hu2 : P.underlying ty2 = some .bool) :
  (results fn tmps).run P w = .ok (.tuple #[.agg cs, v]) w := by
 have hp' : tmps[p]?.getD undef = .pointer (some ⟨g, 0, none⟩) := by simpa using hp
 have hp2' : tmps[u]?.getD undef = .pointer (some ⟨g2, 0, none⟩) := by simpa using hp2
 have hc2 : w.cell? ⟨g2, 0, none⟩ = some v := (blk_cell hg2 0).trans rfl
 have hb2 : (loadVar ty2 ⟨g2, 0, none⟩).run P w = .ok v w := by
  have ha : (isAgg ty2).run P w = .ok false w := by
   unfold isAgg
   rw [Sem.run_bind, run_underlying hu2 w]
   rfl
  unfold loadVar
  rw [Sem.run_bind, ha]
  go_simp
 simp [results, h, hp', hp2', asAddr, run_loadVar_row w g t ty cs (0, 0) d hg hu hd hi, hb2]

set_option maxHeartbeats 1000000 in
theorem pairs_any (b : Nat) (w : World) : Calls Try.prog 92 #[.pointer (some ⟨b, 0, none⟩)] w fun e w' => e = .returned (.func (.func 103) #[] #[.pointer (some ⟨w.heap.size, 0, none⟩)]) ∧ w' = w.alloc (.cells #[.pointer (some ⟨b, 0, none⟩)] 99) := by
 go_enter Try.func92, Try.ntmps92
 go_wp2
 go_ret
 exact ⟨rfl, rfl⟩

set_option maxRecDepth 100000 in
set_option maxHeartbeats 4000000 in
theorem pairs1_in (n : Nat) (hn : 1 ≤ n) (l Bs : Nat) (w0 : World) (b : Nat) (par rate : Int) (ys : List S105) (hl : ys.length ≤ 1000) (hF : FaceAt w0 b par rate ys) (J Jx : List (PairN ys.length) → World → Prop)
  (hY : ∀ pre x W, J pre W → pre.length < (pairsL ys.length).length → YieldAt Fence.wide (n - 1) Try.prog l #[.agg #[.int .i64 x.1.1, .int .i64 x.1.2]] W fun e W' =>
   (e = .returned (.bool true) ∧ J (pre ++ [x]) W' ∧ Below w0.heap.size W W') ∨ (e = .returned (.bool false) ∧ Jx (pre ++ [x]) W'))
  (W : World) (hb : Below w0.heap.size w0 W) (hBs : W.cell? ⟨Bs, 0, none⟩ = some (.pointer (some ⟨b, 0, none⟩))) (h0 : J [] W) :
  CallsIn Fence.wide n Try.prog 103 #[.func (.yield l) #[] #[], .pointer (some ⟨Bs, 0, none⟩)] W fun e W' => (∃ v, e = .returned v) ∧
   ((∃ xs, AllP xs ∧ J xs W') ∨ (∃ pre, PreP pre ∧ Jx pre W')) := by
 have hu109 := Try.underlying109
 have hu81 := Try.underlying81
 obtain ⟨A, c, mf, hlc, hC⟩ := hF
 have hcf := (blk_cell (blk_below mf hb) 2).trans rfl
 clear mf hC
 refine callsIn_of_wp Try.func103 rfl trivial ?_ rfl
 simp only [Try.ntmps103, List.size_toArray, List.length_cons, List.length_nil, Nat.reduceAdd, Nat.reduceSub, Array.replicate_succ, Array.replicate_zero, List.push_toArray, List.append_toArray, List.nil_append, List.cons_append]
 gi_wp2
 clear hcf hBs
 gi_loopw [10] (fun i wr => ∃ (k : Nat) (pre : List (PairN ys.length)), k ≤ ys.length ∧ i = .int .i64 k ∧ pre.map Subtype.val = pairsL k ∧ J pre wr) (fun i _ => ys.length - (intOf i).toNat)
 case atStart => exact ⟨0, [], Nat.zero_le _, rfl, rfl, h0⟩
 case round =>
  obtain ⟨k, pre, hk, rfl, hpre, hJs⟩ := hrel
  have HP := Lib.hid hpre
  clear hpre
  by_cases hlt : k < ys.length
  ·gi_wp2
   gi_loopw [14] (fun i wr2 => ∃ (j : Nat) (pre2 : List (PairN ys.length)), j ≤ k ∧ i = .int .i64 j ∧ Hid (pre2.map Subtype.val = uptoL k j) ∧ J pre2 wr2) (fun i _ => k - (intOf i).toNat)
   case atStart => exact ⟨0, pre, Nat.zero_le _, rfl, Lib.hid (by rw [HP.out]; simp [uptoL]), hJs⟩
   case round =>
    obtain ⟨j, pre2, hj, rfl, HQ, hJ2⟩ := hrel
    by_cases hjk : j < k
    ·have hlen : pre2.length < (pairsL ys.length).length := by
      have h1 := uptoL_pre hlt (show j + 1 ≤ k by omega)
      have h2 := h1.length_le
      rw [uptoL_succ, ← HQ.out] at h2
      simp at h2
      omega
     obtain ⟨fn, tmps, assign, body, hy, hR⟩ := hY pre2 ⟨((j : Int), (k : Int)), by simp, by simp; omega, by simp; omega⟩ _ hJ2 hlen
     dsimp only at hy
     gi_wp2
     refine hR.mono ?_
     rintro e W3 (⟨rfl, hJ3, hk3⟩ | ⟨rfl, hJx3⟩)
     ·gi_wp2
      go_roundw
      case rel => exact ⟨j + 1, _, by omega, by simp, Lib.hid (by rw [List.map_append, HQ.out, uptoL_succ]; rfl), hJ3⟩
      case measure => simp [intOf]; omega
     ·gi_wp2
      refine bodyPost_ret (results_none rfl _ _ _) rfl ?_
      exact ⟨⟨_, rfl⟩, .inr ⟨_, by show List.map Subtype.val _ <+: _; rw [List.map_append, HQ.out, List.map_singleton, ← uptoL_succ]; exact uptoL_pre hlt (by omega), hJx3⟩⟩
    ·obtain rfl : j = k := by omega
     gi_wp2
     go_roundw
     case rel => exact ⟨j + 1, pre2, by omega, by simp, by rw [HQ.out, uptoL_end], hJ2⟩
     case measure => simp [intOf]; omega
  ·obtain rfl : k = ys.length := by omega
   gi_wp2
   go_end0
   exact ⟨⟨_, rfl⟩, .inl ⟨pre, HP.out, hJs⟩⟩

/-- The first pair of anchors that contradict each other. -/
def findCon (rate : Int) (ys : List S105) : Option (Int × Int) := (pairsL ys.length).find? fun p => conI rate ys p.1 p.2
theorem find_none {rate : Int} {ys : List S105} {xs : List (PairN ys.length)} (h : xs.map Subtype.val = pairsL ys.length) (hf : ∀ p ∈ xs, conI rate ys p.1.1 p.1.2 = false) : findCon rate ys = none := by
 unfold findCon
 rw [← h, List.find?_eq_none]
 intro p hp
 obtain ⟨q, hq, rfl⟩ := List.mem_map.1 hp
 simp [hf q hq]
theorem find_some {rate : Int} {ys : List S105} {ini : List (PairN ys.length)} {last : PairN ys.length} (h : (ini ++ [last]).map Subtype.val <+: pairsL ys.length) (hf : ∀ p ∈ ini, conI rate ys p.1.1 p.1.2 = false) (hl : conI rate ys last.1.1 last.1.2 = true) : findCon rate ys = some last.1 := by
 unfold findCon
 obtain ⟨t, ht⟩ := h
 rw [← ht, List.map_append, List.append_assoc, List.find?_append]
 have h1 : (ini.map Subtype.val).find? (fun p => conI rate ys p.1 p.2) = none := by
  rw [List.find?_eq_none]
  intro p hp
  obtain ⟨q, hq, rfl⟩ := List.mem_map.1 hp
  simp [hf q hq]
 rw [h1]
 simp [hl]

set_option maxRecDepth 100000 in
set_option maxHeartbeats 4000000 in
theorem cont_any (b : Nat) (par rate : Int) (ys : List S105) (hl : ys.length ≤ 1000) (w : World) (hF : FaceAt w b par rate ys) :
  Calls Try.prog 65 #[.pointer (some ⟨b, 0, none⟩)] w fun e w' => e = .returned (.tuple #[.agg #[.int .i64 ((findCon rate ys).getD (0, 0)).1, .int .i64 ((findCon rate ys).getD (0, 0)).2], .bool (findCon rate ys).isSome]) ∧ Below w.heap.size w w' := by
 have hu81 := Try.underlying81
 refine (callsIn_wide (n := 6)).1 ?_
 refine callsIn_of_wp_marks Try.func65 rfl trivial ?_ rfl
 simp only [Try.ntmps65, List.size_toArray, List.length_cons, List.length_nil, Nat.reduceAdd, Nat.reduceSub, Array.replicate_succ, Array.replicate_zero, List.push_toArray, List.append_toArray, List.nil_append, List.cons_append]
 gi_wp2_with fail
 refine ⟨trivial, (callsIn_wide.2 (pairs_any _ _)).mono ?_⟩
 rintro e W_ ⟨rfl, rfl⟩
 gi_wp2_with fail
 have m1 : Blk ((((w.alloc (.cells #[.pointer (some ⟨b, 0, none⟩)] 99)).alloc (.cells #[.int .i64 0, .int .i64 0] 81)).alloc (.cells #[.bool false] 4)).alloc (.cells #[.pointer (some ⟨b, 0, none⟩)] 99)) (w.heap.size) #[.pointer (some ⟨b, 0, none⟩)] 99 := (blk_alloc (blk_alloc (blk_alloc zq15 _) _) _)
 have m2 : Blk ((((w.alloc (.cells #[.pointer (some ⟨b, 0, none⟩)] 99)).alloc (.cells #[.int .i64 0, .int .i64 0] 81)).alloc (.cells #[.bool false] 4)).alloc (.cells #[.pointer (some ⟨b, 0, none⟩)] 99)) (w.heap.size + 1) #[.int .i64 0, .int .i64 0] 81 := (blk_alloc (blk_alloc (by have h_ := blk_new (w.alloc (.cells #[.pointer (some ⟨b, 0, none⟩)] 99)) (.cells #[.int .i64 0, .int .i64 0] 81); first | exact h_ | (simp only [World.size_alloc] at h_; exact h_)) _) _)
 have m3 : Blk ((((w.alloc (.cells #[.pointer (some ⟨b, 0, none⟩)] 99)).alloc (.cells #[.int .i64 0, .int .i64 0] 81)).alloc (.cells #[.bool false] 4)).alloc (.cells #[.pointer (some ⟨b, 0, none⟩)] 99)) (w.heap.size + 1 + 1) #[.bool false] 4 := (blk_alloc (by have h_ := blk_new ((w.alloc (.cells #[.pointer (some ⟨b, 0, none⟩)] 99)).alloc (.cells #[.int .i64 0, .int .i64 0] 81)) (.cells #[.bool false] 4); first | exact h_ | (simp only [World.size_alloc] at h_; exact h_)) _)
 have mV : Blk ((((w.alloc (.cells #[.pointer (some ⟨b, 0, none⟩)] 99)).alloc (.cells #[.int .i64 0, .int .i64 0] 81)).alloc (.cells #[.bool false] 4)).alloc (.cells #[.pointer (some ⟨b, 0, none⟩)] 99)) (w.heap.size + 1 + 1 + 1) #[.pointer (some ⟨b, 0, none⟩)] 99 := (by have h_ := blk_new (((w.alloc (.cells #[.pointer (some ⟨b, 0, none⟩)] 99)).alloc (.cells #[.int .i64 0, .int .i64 0] 81)).alloc (.cells #[.bool false] 4)) (.cells #[.pointer (some ⟨b, 0, none⟩)] 99); first | exact h_ | (simp only [World.size_alloc] at h_; exact h_))
 have mB : Below w.heap.size w ((((w.alloc (.cells #[.pointer (some ⟨b, 0, none⟩)] 99)).alloc (.cells #[.int .i64 0, .int .i64 0] 81)).alloc (.cells #[.bool false] 4)).alloc (.cells #[.pointer (some ⟨b, 0, none⟩)] 99)) := (below_alloc (below_alloc (below_alloc (below_alloc (Below.refl w.heap.size w) _) _) _) _)
 have hsz_ : w.heap.size ≤ w.heap.size := Nat.le_refl _
 generalize hW_ : ((((w.alloc (.cells #[.pointer (some ⟨b, 0, none⟩)] 99)).alloc (.cells #[.int .i64 0, .int .i64 0] 81)).alloc (.cells #[.bool false] 4)).alloc (.cells #[.pointer (some ⟨b, 0, none⟩)] 99)) = W0 at m1 m2 m3 mV mB ⊢
 clear hW_
 generalize hg1 : w.heap.size = g1 at m1 m2 m3 mV ⊢
 have hG1 : w.heap.size ≤ g1 := by omega
 generalize hg2 : g1 + 1 = g2 at m2 m3 mV ⊢
 have hn_1_2 : g1 ≠ g2 := by omega
 have hn_2_1 : g2 ≠ g1 := hn_1_2.symm
 have hG2 : w.heap.size ≤ g2 := by omega
 generalize hg3 : g2 + 1 = g3 at m3 mV ⊢
 have hn_1_3 : g1 ≠ g3 := by omega
 have hn_2_3 : g2 ≠ g3 := by omega
 have hn_3_1 : g3 ≠ g1 := hn_1_3.symm
 have hn_3_2 : g3 ≠ g2 := hn_2_3.symm
 have hG3 : w.heap.size ≤ g3 := by omega
 generalize hgV : g3 + 1 = gV at mV ⊢
 have hn_1_V : g1 ≠ gV := by omega
 have hn_2_V : g2 ≠ gV := by omega
 have hn_3_V : g3 ≠ gV := by omega
 have hn_V_1 : gV ≠ g1 := hn_1_V.symm
 have hn_V_2 : gV ≠ g2 := hn_2_V.symm
 have hn_V_3 : gV ≠ g3 := hn_3_V.symm
 have hGV : w.heap.size ≤ gV := by omega
 clear hsz_
 try clear hgV
 try clear hg3
 try clear hg2
 try clear hg1
 have hs_W0 : w.heap.size ≤ W0.heap.size := mB.size
 have hl1 := blk_lt m1
 have hl2 := blk_lt m2
 have hl3 := blk_lt m3
 have hn12 : g1 ≠ g2 := by omega
 refine wpIn_rangeFunc_ownH rfl (by omega) (gf := 103) (lb := #[.pointer (some ⟨gV, 0, none⟩)]) rfl trivial (enters_of Try.func103 zq1 rfl)
  (encs := fun x : PairN ys.length => #[.agg #[.int .i64 x.1.1, .int .i64 x.1.2]]) (Kp := Below w.heap.size) (S := AllP) (Sp := PreP) (N := (pairsL ys.length).length) (w0 := W0)
  (fun l J Jx W hW hJ _ hY h0 => pairs1_in 5 (by omega) l gV w b par rate ys hl hF J Jx hY W (below_step mB hW) ((blk_cell (blk_below mV hW) 0).trans rfl) h0) belowK_t (belowK_b (by omega)) (Below.refl _ _) (fun _ => rfl)
  (fun pre W => (∀ p ∈ pre, conI rate ys p.1.1 p.1.2 = false) ∧ Blk W g1 #[.pointer (some ⟨b, 0, none⟩)] 99 ∧ Blk W g2 #[.int .i64 0, .int .i64 0] 81 ∧ Blk W g3 #[.bool false] 4 ∧ Below w.heap.size w W)
  (fun c pre W => ∃ ini last, (c = .ret ∧ pre = ini ++ [last] ∧ (∀ p ∈ ini, conI rate ys p.1.1 p.1.2 = false) ∧ conI rate ys last.1.1 last.1.2 = true) ∧ Blk W g2 #[.int .i64 last.1.1, .int .i64 last.1.2] 81 ∧ Blk W g3 #[.bool true] 4 ∧ Below w.heap.size w W)
  (OwnFrom.and (ownFrom_pure _ _) (OwnFrom.and (blk_ownFrom _ _ (fun _ => _) _) (OwnFrom.and (blk_ownFrom _ _ (fun _ => _) _) (OwnFrom.and (blk_ownFrom _ _ (fun _ => _) _) (ownFrom_below (by omega) (by omega))))))
  (fun c pre X Y row hs hg hr => by
   obtain ⟨ini, last, h1, h2, h3, h4⟩ := hs
   exact ⟨ini, last, h1, blk_grown h2 hg hr, blk_grown h3 hg hr, ownFrom_below (by omega) (by omega) () X Y row h4 hg hr⟩)
  ⟨by simp, m1, m2, m3, mB⟩
  (fun x a' W => ∃ Bx, (Bx ≠ g1 ∧ Bx ≠ g2 ∧ Bx ≠ g3 ∧ w.heap.size ≤ Bx) ∧ Blk W Bx #[.int .i64 x.1.1, .int .i64 x.1.2] 81 ∧ a' = { tmps := #[.pointer (some ⟨b, 0, none⟩), .pointer (some ⟨g1, 0, none⟩), .pointer (some ⟨g2, 0, none⟩), .pointer (some ⟨g3, 0, none⟩), .pointer (some ⟨Bx, 0, none⟩), .pointer (some ⟨b, 0, none⟩), .func (.func 103) #[] #[.pointer (some ⟨gV, 0, none⟩)], .agg #[.int .i64 x.1.1, .int .i64 x.1.2], undef, undef, undef, undef, undef], defers := [] })
  (fun x a' s X Y row hs hg hr => by
   obtain ⟨Bx, h1, h2, h3⟩ := hs
   exact ⟨Bx, h1, blk_grown h2 hg hr, h3⟩) ?assign ?body ?done ?stop
 case assign =>
  rintro l pre x W K ⟨h0, h1, h2, h3, h4⟩ hK
  gi_wp2
  exact hK _ _ ((KeepsOthers.alloc _ _).from _) ((Below.refl _ W).alloc h4.size _) ⟨h0, blk_alloc h1 _, blk_alloc h2 _, blk_alloc h3 _, h4.alloc h4.size _⟩ ⟨W.heap.size, ⟨by have := blk_lt h1; omega, by have := blk_lt h2; omega, by have := blk_lt h3; omega, h4.size⟩, World.alloc_heap_new W _, rfl⟩
 case body =>
  rintro l pre x a' W hlW ⟨r, hr⟩ ⟨h0, h1, h2, h3, h4⟩ ⟨Bx, ⟨hb1, hb2, hb3, hbw⟩, hX, rfl⟩ hlen
  have c1 := (blk_cell h1 0).trans rfl
  have cx0 := (blk_cell hX 0).trans rfl
  have cx1 := (blk_cell hX 1).trans rfl
  gi_wp2_with fail
  have hcon := con_any b par rate ys x.1.1 x.1.2 x.2.1 (by have := x.2; omega) (by have := x.2; omega) x.2.2.2 (by have := x.2; omega) W (hF.below h4)
  refine ⟨trivial, (CallsIn.inRound l (callsIn_wide.2 hcon)).mono ?_⟩
  clear hcon
  rintro e W1 ⟨rfl, hb⟩
  have k1 := h1.below hb
  have k2 := h2.below hb
  have k3 := h3.below hb
  have kX := hX.below hb
  have hB1 := below_step h4 hb
  have hkf : KeepsFrom W0.heap.size W W1 := keepsFrom_below hb
  have hbw1 : Below w.heap.size W W1 := hb.mono h4.size
  clear c1 cx0 cx1 hr
  have cx0 := (blk_cell kX 0).trans rfl
  have cx1 := (blk_cell kX 1).trans rfl
  have d0 := (blk_cell k2 0).trans rfl
  have d1 := (blk_cell k2 1).trans rfl
  have e0 := (blk_cell k3 0).trans rfl
  have f0 := blk_frozen k2 0
  have f1 := blk_frozen k2 1
  have f2 := blk_frozen k3 0
  have hn23 : g2 ≠ g3 := by omega
  have hn32 : g3 ≠ g2 := by omega
  have hnx2 := hb2
  have hw2 : w.heap.size ≤ g2 := by omega
  have hw3 : w.heap.size ≤ g3 := by omega
  cases hc : conI rate ys x.1.1 x.1.2 with
  | false =>
   have hc' := Lib.hid hc
   clear hc
   gi_wp2
   exact ⟨hkf, hbw1, by
    intro p hp
    rcases List.mem_append.1 hp with hp | hp
    ·exact h0 p hp
    ·obtain rfl := List.mem_singleton.1 hp
     exact hc'.out, k1, k2, k3, hB1⟩
  | true =>
   have hc' := Lib.hid hc
   clear hc
   gi_wp2
   refine ⟨hkf.trans (((KeepsOthers.setCell _ _ _).trans ((KeepsOthers.setCell _ _ _).trans (KeepsOthers.setCell _ _ _))).from _), pre, x, ⟨rfl, rfl, h0, hc'.out⟩, ?_, ?_, ((hB1.setCell hw2 _).setCell hw2 _).setCell hw3 _⟩
   ·exact blk_far (p := ⟨g3, 0, none⟩) (blk_put (blk_put k2 0 _ rfl) 1 _ rfl) hn23 _
   ·exact blk_put (blk_far (p := ⟨g2, 1, none⟩) (blk_far (p := ⟨g2, 0, none⟩) k3 hn32 _) hn32 _) 0 _ rfl
 case done =>
  rintro D_ xs W hD hxs ⟨h0, h1, h2, h3, h4⟩ hK
  have hfc := Lib.hid (find_none hxs h0)
  clear h0
  have d0 := (blk_cell h2 0).trans rfl
  have d1 := (blk_cell h2 1).trans rfl
  have e0 := (blk_cell h3 0).trans rfl
  have f0 := blk_frozen h2 0
  have f1 := blk_frozen h2 1
  have f2 := blk_frozen h3 0
  have hn23 : g2 ≠ g3 := by omega
  have hn32 : g3 ≠ g2 := by omega
  have hw2 : w.heap.size ≤ g2 := by omega
  have hw3 : w.heap.size ≤ g3 := by omega
  gi_wp2
  have n2 := blk_far (p := ⟨g3, 0, none⟩) (blk_put (blk_put h2 0 (.int .i64 0) rfl) 1 (.int .i64 0) rfl) hn23 (.bool false)
  have n3 := blk_put (blk_far (p := ⟨g2, 1, none⟩) (blk_far (p := ⟨g2, 0, none⟩) h3 hn32 (.int .i64 0)) hn32 (.int .i64 0)) 0 (.bool false) rfl
  have hK1 : (((W.setCell ⟨g2, 0, none⟩ (.int .i64 0)).setCell ⟨g2, 1, none⟩ (.int .i64 0)).setCell ⟨g3, 0, none⟩ (.bool false)).heap[D_]? = some (.deferred (some [])) :=
   (Below.heap_setCell _ _ _ D_ (by show D_ ≠ g3; omega)).trans ((Below.heap_setCell _ _ _ D_ (by show D_ ≠ g2; omega)).trans ((Below.heap_setCell _ _ _ D_ (by show D_ ≠ g2; omega)).trans hK))
  have hB2 : Below w.heap.size w (((W.setCell ⟨g2, 0, none⟩ (.int .i64 0)).setCell ⟨g2, 1, none⟩ (.int .i64 0)).setCell ⟨g3, 0, none⟩ (.bool false)) := ((h4.setCell hw2 _).setCell hw2 _).setCell hw3 _
  refine ⟨by simp, .inl ⟨_, _, rfl, run_takeDeferred hK1, ?_⟩⟩
  exact ⟨_, results_cb rfl _ _ g2 g3 81 4 #[.int .i64 0, .int .i64 0] (.bool false) _ rfl ((World.putObj_heap_other (by omega)).trans n2) Try.underlying81 rfl zq1 rfl ((World.putObj_heap_other (by omega)).trans n3) Try.underlying4, by rw [hfc.out]; rfl, hB2.trans (belowK_b (w := w) (Nat.le_refl _) _ D_ _ _ (by omega) hK1 rfl rfl)⟩
 case stop =>
  rintro D_ c pre W hD hp ⟨ini, last, ⟨rfl, rfl, h1, h2⟩, h3, h4, h5⟩ hK
  have hfc := Lib.hid (find_some hp h1 h2)
  gi_wp2
  refine ⟨by simp, .inl ⟨_, _, rfl, run_takeDeferred hK, ?_⟩⟩
  exact ⟨_, results_cb rfl _ _ g2 g3 81 4 #[.int .i64 last.1.1, .int .i64 last.1.2] (.bool true) _ rfl ((World.putObj_heap_other (by omega)).trans h3) Try.underlying81 rfl zq1 rfl ((World.putObj_heap_other (by omega)).trans h4) Try.underlying4, by rw [hfc.out]; rfl, h5.trans (belowK_b (w := w) (Nat.le_refl _) _ D_ _ _ (by omega) hK rfl rfl)⟩
end Go.Proofs.Ytcjdhajdoikojaa.Clk
end
section
namespace Go.Proofs.Ytcjdhajdoikojaa.Pr
open Go.RowKit Go.Proofs.YtcjdhajdoikojaaW.PrintWords Go.Proofs.YtcjdhajdoikojaaW.PrintLast Go.Proofs.YtcjdhajdoikojaaW.PrintMore
attribute [local go_sem] max2_int min2_int max_two min_two
set_option linter.unusedVariables false
set_option linter.unusedSimpArgs false

/-! ### clock_isTime: function 71 -/
def clock_isTime.f (a0 : Int) : Option (Bool) := if a0 ≥ 0 then (some (decide (a0 ≤ 1125899906842624))) else (some false)
set_option maxHeartbeats 8000000 in
set_option maxRecDepth 100000 in
theorem clock_isTime.calls (a0 : Int) (r : Bool) (w : World) (h : clock_isTime.f a0 = some r) :
  Calls Try.prog 71 #[.int .i64 a0] w fun e w' => e = .returned (.bool r) ∧ Drawn0 w w' := by
 have H : (if a0 ≥ 0 then (some (decide (a0 ≤ 1125899906842624))) else (some false)) = some r := h
 clear h
 by_cases c2 : a0 ≥ 0
 ·rw [if_pos c2] at H
  have c2b0 : decide (0 ≤ a0) = true := decide_eq_true c2
  clear c2
  obtain rfl := Option.some.inj H
  go_enter Try.func71, Try.ntmps71
  go_wp2
  go_ret
  exact ⟨zq23, zq24⟩
 ·rw [if_neg c2] at H
  have c2b0 : decide (0 ≤ a0) = false := decide_eq_false c2
  clear c2
  obtain rfl := Option.some.inj H
  go_enter Try.func71, Try.ntmps71
  go_wp2
  go_ret
  exact ⟨zq23, zq24⟩

end Go.Proofs.Ytcjdhajdoikojaa.Pr
end
section
namespace Go.Proofs.Ytcjdhajdoikojaa.Pr
open Go.RowKit Go.Proofs.YtcjdhajdoikojaaW.PrintWords Go.Proofs.YtcjdhajdoikojaaW.PrintLast Go.Proofs.YtcjdhajdoikojaaW.PrintMore
attribute [local go_sem] max2_int min2_int max_two min_two
set_option linter.unusedVariables false
set_option linter.unusedSimpArgs false

/-! ### bound_check: function 96 -/
def bound_check.l0 : Nat → List (S35) → Int → Int → Option (Int)
 | 0, _, _, _ => none
 | k + 1, x5, x6, x7 => if x7 < x6 then (if 0 ≤ x7 then (if x7 < (x5.length : Int) then (if ((rd_T35 x5 x7).f0) > ((rd_T35 x5 x7).f1) then (some 2) else (if ((rd_T35 x5 x7).f0) < (-1073741824) then (some 2) else (if ((rd_T35 x5 x7).f1) > 1073741824 then (some 2) else (bound_check.l0 k x5 x6 (wrap64 (x7 + 1)))))) else (none)) else (none)) else (some 0)
def bound_check.f (k : Nat) (l0 : List (S35)) : Option (Int) := bound_check.l0 k l0 (l0.length : Int) 0
set_option maxHeartbeats 8000000 in
set_option maxRecDepth 100000 in
theorem bound_check.calls (k : Nat) (A0 : Option Addr) (c0 : Nat) (l0 : List (S35)) (r : Int) (w : World) (hr0 : Kd.C k35 w A0 l0.length l0) (hc0 : l0.length ≤ c0) (h : bound_check.f k l0 = some r) :
  Calls Try.prog 96 #[.slice A0 l0.length c0] w fun e w' => e = .returned (.int .i64 r) ∧ Below w.heap.size w w' := by
 have hu35 := Try.underlying35
 have HR0 := Aside0.mk hr0
 have HC0 := Aside0.mk hc0
 clear hr0 hc0
 have HB := Aside0.mk (Below.refl w.heap.size w)
 have H : (bound_check.l0 k l0 (l0.length : Int) 0) = some r := h
 clear h
 have H' := Aside0.mk H
 clear H
 go_enter Try.func96, Try.ntmps96
 go_wp2
 go_loopg [7] k (fun kq v7 w' => ∃ (x7_1 : Int), v7 = .int .i64 x7_1 ∧ Aside0 (bound_check.l0 kq l0 (l0.length : Int) x7_1 = some r) ∧ Aside0 (kq ≤ k) ∧ Aside0 (Below w.heap.size w w'))
 case atStart => exact ⟨(0), zq23, H', ⟨Nat.le_refl _⟩, ⟨zbz⟩⟩
 case round =>
  clear H'
  obtain ⟨x7_1, rfl, HA, HK1, HB⟩ := hrel
  cases gk with
  | zero => exact absurd HA.out (by simp [bound_check.l0])
  | succ k1 =>
   have H := HA.out
   clear HA
   simp only [bound_check.l0] at H
   by_cases c2 : x7_1 < (l0.length : Int)
   ·rw [if_pos c2] at H
    have c2b0 : decide (x7_1 < (l0.length : Int)) = true := decide_eq_true c2
    clear c2
    by_cases c3 : 0 ≤ x7_1
    ·rw [if_pos c3] at H
     have c3b0 : decide (0 ≤ x7_1) = true := decide_eq_true c3
     clear c3
     by_cases c4 : x7_1 < (l0.length : Int)
     ·rw [if_pos c4] at H
      have c4b0 : decide (x7_1 < (l0.length : Int)) = true := decide_eq_true c4
      clear c4
      by_cases c5 : ((rd_T35 l0 x7_1).f0) > ((rd_T35 l0 x7_1).f1)
      ·rw [if_pos c5] at H
       have c5b0 : decide (((rd_T35 l0 x7_1).f1) < ((rd_T35 l0 x7_1).f0)) = true := decide_eq_true c5
       clear c5
       obtain rfl := Option.some.inj H
       have p156 : 0 ≤ (x7_1 : Int) := of_decide_eq_true zq25
       have q156 : x7_1 < (l0.length : Int) := of_decide_eq_true zq25
       obtain ⟨ad156, e156, hx156_0, hx156_1⟩ := at_T35 HR0.out x7_1 p156 q156
       cases e156
       replace hx156_0 := (HB.out.cell (World.block_lt_of_cell? w _ hx156_0)).trans hx156_0
       replace hx156_1 := (HB.out.cell (World.block_lt_of_cell? w _ hx156_1)).trans hx156_1
       replace p156 := eq_true p156
       replace q156 := eq_true q156
       go_wp2_with (first | ((with_reducible refine gate_dst (N := 4) rfl ?_); refine box_event (by rfl) (N := 4) (by rfl) (cs := #[.int .i64 0, .int .i64 0]) (t := 35) zq2 ?_; intro gb157 hg w6 hbox hb; have BK157 := Aside0.mk (hbox); have GW157 := zgs HB hg; have GE157 := zgs HB hg; replace HB := zbs HB hb; clear hb hbox hg; obtain ⟨hcz7_0, hcz7_1, hfz7_0, hfz7_1⟩ := zce2 BK157.out))
       go_ret
       exact ⟨zq3, zbz⟩
      ·rw [if_neg c5] at H
       have c5b0 : decide (((rd_T35 l0 x7_1).f1) < ((rd_T35 l0 x7_1).f0)) = false := decide_eq_false c5
       clear c5
       by_cases c8 : ((rd_T35 l0 x7_1).f0) < (-1073741824)
       ·rw [if_pos c8] at H
        have c8b0 : decide (((rd_T35 l0 x7_1).f0) < (-1073741824)) = true := decide_eq_true c8
        clear c8
        obtain rfl := Option.some.inj H
        have p156 : 0 ≤ (x7_1 : Int) := of_decide_eq_true zq25
        have q156 : x7_1 < (l0.length : Int) := of_decide_eq_true zq25
        obtain ⟨ad156, e156, hx156_0, hx156_1⟩ := at_T35 HR0.out x7_1 p156 q156
        cases e156
        replace hx156_0 := (HB.out.cell (World.block_lt_of_cell? w _ hx156_0)).trans hx156_0
        replace hx156_1 := (HB.out.cell (World.block_lt_of_cell? w _ hx156_1)).trans hx156_1
        replace p156 := eq_true p156
        replace q156 := eq_true q156
        go_wp2_with (first | ((with_reducible refine gate_dst (N := 4) rfl ?_); refine box_event (by rfl) (N := 4) (by rfl) (cs := #[.int .i64 0, .int .i64 0]) (t := 35) zq2 ?_; intro gb157 hg w9 hbox hb; have BK157 := Aside0.mk (hbox); have GW157 := zgs HB hg; have GE157 := zgs HB hg; replace HB := zbs HB hb; clear hb hbox hg; obtain ⟨hcz10_0, hcz10_1, hfz10_0, hfz10_1⟩ := zce2 BK157.out))
        go_ret
        exact ⟨zq3, zbz⟩
       ·rw [if_neg c8] at H
        have c8b0 : decide (((rd_T35 l0 x7_1).f0) < (-1073741824)) = false := decide_eq_false c8
        clear c8
        by_cases c11 : ((rd_T35 l0 x7_1).f1) > 1073741824
        ·rw [if_pos c11] at H
         have c11b0 : decide (1073741824 < ((rd_T35 l0 x7_1).f1)) = true := decide_eq_true c11
         clear c11
         obtain rfl := Option.some.inj H
         have p156 : 0 ≤ (x7_1 : Int) := of_decide_eq_true zq25
         have q156 : x7_1 < (l0.length : Int) := of_decide_eq_true zq25
         obtain ⟨ad156, e156, hx156_0, hx156_1⟩ := at_T35 HR0.out x7_1 p156 q156
         cases e156
         replace hx156_0 := (HB.out.cell (World.block_lt_of_cell? w _ hx156_0)).trans hx156_0
         replace hx156_1 := (HB.out.cell (World.block_lt_of_cell? w _ hx156_1)).trans hx156_1
         replace p156 := eq_true p156
         replace q156 := eq_true q156
         go_wp2_with (first | ((with_reducible refine gate_dst (N := 4) rfl ?_); refine box_event (by rfl) (N := 4) (by rfl) (cs := #[.int .i64 0, .int .i64 0]) (t := 35) zq2 ?_; intro gb157 hg w12 hbox hb; have BK157 := Aside0.mk (hbox); have GW157 := zgs HB hg; have GE157 := zgs HB hg; replace HB := zbs HB hb; clear hb hbox hg; obtain ⟨hcz13_0, hcz13_1, hfz13_0, hfz13_1⟩ := zce2 BK157.out))
         go_ret
         exact ⟨zq3, zbz⟩
        ·rw [if_neg c11] at H
         have c11b0 : decide (1073741824 < ((rd_T35 l0 x7_1).f1)) = false := decide_eq_false c11
         clear c11
         have H' := Aside0.mk H
         clear H
         have p156 : 0 ≤ (x7_1 : Int) := of_decide_eq_true zq25
         have q156 : x7_1 < (l0.length : Int) := of_decide_eq_true zq25
         obtain ⟨ad156, e156, hx156_0, hx156_1⟩ := at_T35 HR0.out x7_1 p156 q156
         cases e156
         replace hx156_0 := (HB.out.cell (World.block_lt_of_cell? w _ hx156_0)).trans hx156_0
         replace hx156_1 := (HB.out.cell (World.block_lt_of_cell? w _ hx156_1)).trans hx156_1
         replace p156 := eq_true p156
         replace q156 := eq_true q156
         go_wp2_with (first | ((with_reducible refine gate_dst (N := 4) rfl ?_); refine box_event (by rfl) (N := 4) (by rfl) (cs := #[.int .i64 0, .int .i64 0]) (t := 35) zq2 ?_; intro gb157 hg w14 hbox hb; have BK157 := Aside0.mk (hbox); have GW157 := zgs HB hg; have GE157 := zgs HB hg; replace HB := zbs HB hb; clear hb hbox hg; obtain ⟨hcz15_0, hcz15_1, hfz15_0, hfz15_1⟩ := zce2 BK157.out))
         go_roundg k1
         case measure => have := HK1.out; omega
         case rel => exact ⟨(wrap64 (x7_1 + 1)), zq23, H', ⟨by have := HK1.out; omega⟩, ⟨zbz⟩⟩
     ·rw [if_neg c4] at H
      exact absurd H (by simp)
    ·rw [if_neg c3] at H
     exact absurd H (by simp)
   ·rw [if_neg c2] at H
    have c2b0 : decide (x7_1 < (l0.length : Int)) = false := decide_eq_false c2
    clear c2
    obtain rfl := Option.some.inj H
    go_wp2
    go_ret
    exact ⟨zq3, zbz⟩

end Go.Proofs.Ytcjdhajdoikojaa.Pr
end
section
namespace Go.Proofs.Ytcjdhajdoikojaa.Pr
open Go.RowKit Go.Proofs.YtcjdhajdoikojaaW.PrintWords Go.Proofs.YtcjdhajdoikojaaW.PrintLast Go.Proofs.YtcjdhajdoikojaaW.PrintMore
attribute [local go_sem] max2_int min2_int max_two min_two
set_option linter.unusedVariables false
set_option linter.unusedSimpArgs false

/-! ### bound_Check: function 72 -/
def bound_Check.f (k : Nat) (a0_0 : Int) (a0_1 : Int) : Option (Int) := (bound_check.f k (([(⟨a0_0, a0_1⟩ : S35)] : List (S35)))).bind fun t162 => (some t162)
set_option maxHeartbeats 8000000 in
set_option maxRecDepth 100000 in
theorem bound_Check.calls (k : Nat) (a0_0 : Int) (a0_1 : Int) (r : Int) (w : World) (h : bound_Check.f k a0_0 a0_1 = some r) :
  Calls Try.prog 72 #[.agg #[.int .i64 a0_0, .int .i64 a0_1]] w fun e w' => e = .returned (.int .i64 r) ∧ Below w.heap.size w w' := by
 have hu35 := Try.underlying35
 have HB := Aside0.mk (Below.refl w.heap.size w)
 have H : ((bound_check.f k (([(⟨a0_0, a0_1⟩ : S35)] : List (S35)))).bind fun t162 => (some t162)) = some r := h
 clear h
 obtain ⟨y159, hy159⟩ : ∃ y_ : List (S35), y_ = (([(⟨a0_0, a0_1⟩ : S35)] : List (S35))) := ⟨_, rfl⟩
 replace H : ((bound_check.f k y159).bind fun t162 => (some t162)) = some r := by first | (rw [hy159]; with_reducible exact H) | (have H2_ := (Option.bind_some _ _).symm.trans H; rw [hy159]; with_reducible exact H2_) | (have H2_ := (Option.bind_some _ _).symm.trans H; with_reducible exact H2_) | with_reducible exact H | (rw [hy159]; exact H) | exact H
 have Ny159 := Aside0.mk hy159
 clear hy159
 replace H := Option.bind_eq_some_iff.mp H
 obtain ⟨t162, A20, H⟩ := H
 replace H : (some t162) = some r := H
 have A2 := Aside0.mk A20
 clear A20
 obtain rfl := Option.some.inj H
 go_enter Try.func72, Try.ntmps72
 go_wp2_with (first | ((with_reducible refine gate_dst (N := 1) rfl ?_); refine box_event (by rfl) (N := 1) (by rfl) (cs := #[.int .i64 a0_0, .int .i64 a0_1]) (t := 35) zq2 ?_; intro gb158 hg w3 hbox hb; have BK158 := Aside0.mk (hbox); have GW158 := zgs HB hg; have GE158 := zgs HB hg; replace HB := zbs HB hb; clear hb hbox hg; obtain ⟨hcz4_0, hcz4_1, hfz4_0, hfz4_1⟩ := zce2 BK158.out) | ((with_reducible refine gate_dst (N := 4) rfl ?_); refine Kd.R_lit k35 _ 35 (by rfl) (N := 4) (by rfl) (xs := ([(⟨a0_0, a0_1⟩ : S35)] : List (S35))) (inner := [.int .i64 a0_0, .int .i64 a0_1]) (ok := fun _ => True) (okp := fun _ => True) zq2 (by exact (Reps.c2 (show Kd.M k35 _ _ _ (⟨a0_0, a0_1⟩ : S35) [.int .i64 a0_0, .int .i64 a0_1] from (k35_mkM _ _ _ (⟨a0_0, a0_1⟩ : S35) )) (Reps.none _ _))) (fun _ hk => hk) trivial (Below.refl _ _) (Nat.le_refl _) (by simp) ?_; intro v160 w5 ho6 hb hg_ hnew_; clear hg_ hnew_; (first | rw [← Ny159.out] at ho6 | (simp only [Int.reduceToNat] at ho6; rw [← Ny159.out] at ho6)); have HO161 := Aside0.mk (Kd.R_lower (Kd.R_newB ho6 (g := gb158) (o := .cells #[.int .i64 a0_0, .int .i64 a0_1] 35 (0, 0)) zbf) (below_size zbz)); replace BK158 := zbb BK158 hb; replace HB := zbs HB hb; clear hb ho6; obtain ⟨Ao7, co7, eo7⟩ := Kd.R_slice HO161.out; subst eo7) | ((with_reducible refine gate_callee (f := 96) rfl ?_); refine goesL_ (some 5) rfl rfl Try.func96 zq1 rfl #[.slice Ao7 y159.length co7] rfl zq26 ?_; (with_reducible refine (bound_check.calls k _ _ y159 t162 _ ?side1 ?side2 A2.out).mono ?_); (case side1 => repeat (first | exact (Kd.R_reads' HO161.out).2.2 | (with_reducible refine Kd.C_alloc ?_ _) | (with_reducible refine Kd.C_drewN ?_ _) | (with_reducible refine Kd.C_drew ?_))); (case side2 => exact (Kd.R_reads' HO161.out).2.1); rintro e w8 ⟨rfl, hb⟩; refine ⟨_, rfl, ?_⟩; replace HO161 := zrb HO161 hb; replace BK158 := zbb BK158 hb; replace HB := zbs HB hb; (try clear hb); (try clear hb2); (try clear hk); (try clear hi)))
 go_ret
 exact ⟨zq3, zbz⟩

end Go.Proofs.Ytcjdhajdoikojaa.Pr
end
section
namespace Go.Proofs.Ytcjdhajdoikojaa.Pr
open Go.RowKit Go.Proofs.YtcjdhajdoikojaaW.PrintWords Go.Proofs.YtcjdhajdoikojaaW.PrintLast Go.Proofs.YtcjdhajdoikojaaW.PrintMore
attribute [local go_sem] max2_int min2_int max_two min_two
set_option linter.unusedVariables false
set_option linter.unusedSimpArgs false

/-! ### clock_CheckExchange: function 30 -/
mutual
def clock_CheckExchange.j0 : Nat → Bool → Int → Int → Int → Int → Int → Int → Int → Int → Option (Int)
 | 0, _, _, _, _, _, _, _, _, _ => none
 | k + 1, x3, x164000, x164001, x164002, x164003, x164004, x164005, x164006, x164007 => if x3 = true then (some 2) else ((clock_isTime.f x164001).bind fun t166 => (if t166 = true then ((clock_isTime.f x164002).bind fun t167 => (if t167 = true then (clock_CheckExchange.j1 k (decide (x164001 > x164002)) x164000 x164001 x164002 x164003 x164004 x164005 x164006 x164007) else (clock_CheckExchange.j1 k true x164000 x164001 x164002 x164003 x164004 x164005 x164006 x164007))) else (clock_CheckExchange.j1 k true x164000 x164001 x164002 x164003 x164004 x164005 x164006 x164007)))
def clock_CheckExchange.j1 : Nat → Bool → Int → Int → Int → Int → Int → Int → Int → Int → Option (Int)
 | 0, _, _, _, _, _, _, _, _, _ => none
 | k + 1, x21, x164000, x164001, x164002, x164003, x164004, x164005, x164006, x164007 => if x21 = true then (some 2) else ((bound_Check.f k x164004 x164005).bind fun t168 => (if t168 = 0 then ((bound_Check.f k x164006 x164007).bind fun t169 => (if t169 = 0 then (if x164004 < 0 then (some 2) else (if x164006 < 0 then (some 2) else (some 0))) else (some 2))) else (some 2)))
end
def clock_CheckExchange.f (k : Nat) (a0_0 : Int) (a0_1 : Int) (a0_2 : Int) (a0_3 : Int) (a0_4 : Int) (a0_5 : Int) (a0_6 : Int) (a0_7 : Int) : Option (Int) := (clock_isTime.f a0_0).bind fun t164 => (if t164 = true then ((clock_isTime.f a0_3).bind fun t165 => (if t165 = true then (clock_CheckExchange.j0 k (decide (a0_0 > a0_3)) a0_0 a0_1 a0_2 a0_3 a0_4 a0_5 a0_6 a0_7) else (clock_CheckExchange.j0 k true a0_0 a0_1 a0_2 a0_3 a0_4 a0_5 a0_6 a0_7))) else (clock_CheckExchange.j0 k true a0_0 a0_1 a0_2 a0_3 a0_4 a0_5 a0_6 a0_7))
set_option maxHeartbeats 8000000 in
set_option maxRecDepth 100000 in
theorem clock_CheckExchange.calls (k : Nat) (a0_0 : Int) (a0_1 : Int) (a0_2 : Int) (a0_3 : Int) (a0_4 : Int) (a0_5 : Int) (a0_6 : Int) (a0_7 : Int) (r : Int) (w : World) (h : clock_CheckExchange.f k a0_0 a0_1 a0_2 a0_3 a0_4 a0_5 a0_6 a0_7 = some r) :
  Calls Try.prog 30 #[.agg #[.int .i64 a0_0, .int .i64 a0_1, .int .i64 a0_2, .int .i64 a0_3, .int .i64 a0_4, .int .i64 a0_5, .int .i64 a0_6, .int .i64 a0_7]] w fun e w' => e = .returned (.int .i64 r) ∧ Below w.heap.size w w' := by
 have hu46 := Try.underlying46
 have hu35 := Try.underlying35
 have HB := Aside0.mk (Below.refl w.heap.size w)
 have H : ((clock_isTime.f a0_0).bind fun t164 => (if t164 = true then ((clock_isTime.f a0_3).bind fun t165 => (if t165 = true then (clock_CheckExchange.j0 k (decide (a0_0 > a0_3)) a0_0 a0_1 a0_2 a0_3 a0_4 a0_5 a0_6 a0_7) else (clock_CheckExchange.j0 k true a0_0 a0_1 a0_2 a0_3 a0_4 a0_5 a0_6 a0_7))) else (clock_CheckExchange.j0 k true a0_0 a0_1 a0_2 a0_3 a0_4 a0_5 a0_6 a0_7))) = some r := h
 clear h
 have HC2 := Aside0.mk H
 clear H
 go_enter Try.func30, Try.ntmps30
 go_upto_region 1 with (first | ((with_reducible refine gate_dst (N := 1) rfl ?_); refine box_event (by rfl) (N := 1) (by rfl) (cs := #[.int .i64 a0_0, .int .i64 a0_1, .int .i64 a0_2, .int .i64 a0_3, .int .i64 a0_4, .int .i64 a0_5, .int .i64 a0_6, .int .i64 a0_7]) (t := 46) zq2 ?_; intro gb163 hg w3 hbox hb; have BK163 := Aside0.mk (hbox); have GW163 := zgs HB hg; have GE163 := zgs HB hg; replace HB := zbs HB hb; clear hb hbox hg))
 (try simp only [Act.put, List.setIfInBounds_toArray, List.set_cons_zero, List.set_cons_succ])
 go_cut [3] (fun v3 wc => ∃ (kq : Nat) (x3_1 : Bool), v3 = .bool x3_1 ∧ Aside0 (clock_CheckExchange.j0 kq x3_1 a0_0 a0_1 a0_2 a0_3 a0_4 a0_5 a0_6 a0_7 = some r) ∧ Aside0 (kq ≤ k) ∧ Aside0 (wc.heap[gb163]? = some (.cells #[.int .i64 a0_0, .int .i64 a0_1, .int .i64 a0_2, .int .i64 a0_3, .int .i64 a0_4, .int .i64 a0_5, .int .i64 a0_6, .int .i64 a0_7] 46 (0, 0))) ∧ Aside0 (Below w.heap.size w wc))
 case first =>
  have H := HC2.out
  clear HC2
  replace H := Option.bind_eq_some_iff.mp H
  obtain ⟨t164, A40, H⟩ := H
  replace H : (if t164 = true then ((clock_isTime.f a0_3).bind fun t165 => (if t165 = true then (clock_CheckExchange.j0 k (decide (a0_0 > a0_3)) a0_0 a0_1 a0_2 a0_3 a0_4 a0_5 a0_6 a0_7) else (clock_CheckExchange.j0 k true a0_0 a0_1 a0_2 a0_3 a0_4 a0_5 a0_6 a0_7))) else (clock_CheckExchange.j0 k true a0_0 a0_1 a0_2 a0_3 a0_4 a0_5 a0_6 a0_7)) = some r := H
  have A4 := Aside0.mk A40
  clear A40
  by_cases c5 : t164 = true
  ·subst c5
   have H1 : ((clock_isTime.f a0_3).bind fun t165 => (if t165 = true then (clock_CheckExchange.j0 k (decide (a0_0 > a0_3)) a0_0 a0_1 a0_2 a0_3 a0_4 a0_5 a0_6 a0_7) else (clock_CheckExchange.j0 k true a0_0 a0_1 a0_2 a0_3 a0_4 a0_5 a0_6 a0_7))) = some r := by rw [if_pos rfl] at H; exact H
   clear H
   have H := H1
   clear H1
   replace H := Option.bind_eq_some_iff.mp H
   obtain ⟨t165, A60, H⟩ := H
   replace H : (if t165 = true then (clock_CheckExchange.j0 k (decide (a0_0 > a0_3)) a0_0 a0_1 a0_2 a0_3 a0_4 a0_5 a0_6 a0_7) else (clock_CheckExchange.j0 k true a0_0 a0_1 a0_2 a0_3 a0_4 a0_5 a0_6 a0_7)) = some r := H
   have A6 := Aside0.mk A60
   clear A60
   by_cases c7 : t165 = true
   ·subst c7
    have H1 : (clock_CheckExchange.j0 k (decide (a0_0 > a0_3)) a0_0 a0_1 a0_2 a0_3 a0_4 a0_5 a0_6 a0_7) = some r := by rw [if_pos rfl] at H; exact H
    clear H
    have H := H1
    clear H1
    have H' := Aside0.mk H
    clear H
    obtain ⟨hcz8_0, hcz8_1, hcz8_2, hcz8_3, hcz8_4, hcz8_5, hcz8_6, hcz8_7, hfz8_0, hfz8_1, hfz8_2, hfz8_3, hfz8_4, hfz8_5, hfz8_6, hfz8_7⟩ := zce8 BK163.out
    go_wp2_with (first | ((with_reducible refine gate_callee (f := 71) rfl ?_); refine goesL_ (some 6) rfl rfl Try.func71 zq1 rfl #[.int .i64 a0_0] rfl zq26 ?_; (with_reducible refine (clock_isTime.calls a0_0 true _ A4.out).mono ?_); rintro e w' ⟨rfl, ⟨nd, rfl⟩⟩; refine ⟨_, rfl, ?_⟩) | (go_at_call 71; (with_reducible refine (clock_isTime.calls a0_3 true _ A6.out).mono ?_); rintro e w' ⟨rfl, ⟨nd, rfl⟩⟩))
    go_meet
    case rel => exact ⟨_, (decide (a0_0 > a0_3)), zq23, H', ⟨by first | omega | exact Nat.le_refl _⟩, ⟨zbf⟩, ⟨zbz⟩⟩
   ·replace c7 := Bool.eq_false_iff.mpr c7
    subst c7
    have H1 : (clock_CheckExchange.j0 k true a0_0 a0_1 a0_2 a0_3 a0_4 a0_5 a0_6 a0_7) = some r := by rw [if_neg (show ¬ (false = true) by decide)] at H; exact H
    clear H
    have H := H1
    clear H1
    have H' := Aside0.mk H
    clear H
    obtain ⟨hcz9_0, hcz9_1, hcz9_2, hcz9_3, hcz9_4, hcz9_5, hcz9_6, hcz9_7, hfz9_0, hfz9_1, hfz9_2, hfz9_3, hfz9_4, hfz9_5, hfz9_6, hfz9_7⟩ := zce8 BK163.out
    go_wp2_with (first | ((with_reducible refine gate_callee (f := 71) rfl ?_); refine goesL_ (some 6) rfl rfl Try.func71 zq1 rfl #[.int .i64 a0_0] rfl zq26 ?_; (with_reducible refine (clock_isTime.calls a0_0 true _ A4.out).mono ?_); rintro e w' ⟨rfl, ⟨nd, rfl⟩⟩; refine ⟨_, rfl, ?_⟩) | (go_at_call 71; (with_reducible refine (clock_isTime.calls a0_3 false _ A6.out).mono ?_); rintro e w' ⟨rfl, ⟨nd, rfl⟩⟩))
    go_meet
    case rel => exact ⟨_, (true), zq23, H', ⟨by first | omega | exact Nat.le_refl _⟩, ⟨zbf⟩, ⟨zbz⟩⟩
  ·replace c5 := Bool.eq_false_iff.mpr c5
   subst c5
   have H1 : (clock_CheckExchange.j0 k true a0_0 a0_1 a0_2 a0_3 a0_4 a0_5 a0_6 a0_7) = some r := by rw [if_neg (show ¬ (false = true) by decide)] at H; exact H
   clear H
   have H := H1
   clear H1
   have H' := Aside0.mk H
   clear H
   obtain ⟨hcz10_0, hcz10_1, hcz10_2, hcz10_3, hcz10_4, hcz10_5, hcz10_6, hcz10_7, hfz10_0, hfz10_1, hfz10_2, hfz10_3, hfz10_4, hfz10_5, hfz10_6, hfz10_7⟩ := zce8 BK163.out
   go_wp2_with (first | ((with_reducible refine gate_callee (f := 71) rfl ?_); refine goesL_ (some 6) rfl rfl Try.func71 zq1 rfl #[.int .i64 a0_0] rfl zq26 ?_; (with_reducible refine (clock_isTime.calls a0_0 false _ A4.out).mono ?_); rintro e w' ⟨rfl, ⟨nd, rfl⟩⟩; refine ⟨_, rfl, ?_⟩))
   go_meet
   case rel => exact ⟨_, (true), zq23, H', ⟨by first | omega | exact Nat.le_refl _⟩, ⟨zbf⟩, ⟨zbz⟩⟩
 case rest =>
  clear HC2
  try clear p2
  try clear c3
  try clear c5
  try clear c7
  try clear hcz10_0 hcz10_1 hcz10_2 hcz10_3 hcz10_4 hcz10_5 hcz10_6 hcz10_7
  try clear hcz8_0 hcz8_1 hcz8_2 hcz8_3 hcz8_4 hcz8_5 hcz8_6 hcz8_7
  try clear hcz9_0 hcz9_1 hcz9_2 hcz9_3 hcz9_4 hcz9_5 hcz9_6 hcz9_7
  try clear hfz10_0 hfz10_1 hfz10_2 hfz10_3 hfz10_4 hfz10_5 hfz10_6 hfz10_7
  try clear hfz8_0 hfz8_1 hfz8_2 hfz8_3 hfz8_4 hfz8_5 hfz8_6 hfz8_7
  try clear hfz9_0 hfz9_1 hfz9_2 hfz9_3 hfz9_4 hfz9_5 hfz9_6 hfz9_7
  obtain ⟨kq, x3_1, rfl, HA, HJ1, BK163, HB⟩ := hcut
  cases kq with
  | zero => exact absurd HA.out (by simp [clock_CheckExchange.j0])
  | succ kj1 =>
   have H := HA.out
   clear HA
   simp only [clock_CheckExchange.j0] at H
   by_cases c11 : x3_1 = true
   ·subst c11
    have H1 : (some 2) = some r := by rw [if_pos rfl] at H; exact H
    clear H
    have H := H1
    clear H1
    obtain rfl := Option.some.inj H
    go_wp2
    go_ret
    exact ⟨zq3, zbz⟩
   ·replace c11 := Bool.eq_false_iff.mpr c11
    subst c11
    have H1 : ((clock_isTime.f a0_1).bind fun t166 => (if t166 = true then ((clock_isTime.f a0_2).bind fun t167 => (if t167 = true then (clock_CheckExchange.j1 kj1 (decide (a0_1 > a0_2)) a0_0 a0_1 a0_2 a0_3 a0_4 a0_5 a0_6 a0_7) else (clock_CheckExchange.j1 kj1 true a0_0 a0_1 a0_2 a0_3 a0_4 a0_5 a0_6 a0_7))) else (clock_CheckExchange.j1 kj1 true a0_0 a0_1 a0_2 a0_3 a0_4 a0_5 a0_6 a0_7))) = some r := by rw [if_neg (show ¬ (false = true) by decide)] at H; exact H
    clear H
    have H := H1
    clear H1
    have HC12 := Aside0.mk H
    clear H
    go_upto_region 3 with (fail)
    go_cut [21] (fun v21 wc => ∃ (kq : Nat) (x21_11 : Bool), v21 = .bool x21_11 ∧ Aside0 (clock_CheckExchange.j1 kq x21_11 a0_0 a0_1 a0_2 a0_3 a0_4 a0_5 a0_6 a0_7 = some r) ∧ Aside0 (kq ≤ kj1) ∧ Aside0 (wc.heap[gb163]? = some (.cells #[.int .i64 a0_0, .int .i64 a0_1, .int .i64 a0_2, .int .i64 a0_3, .int .i64 a0_4, .int .i64 a0_5, .int .i64 a0_6, .int .i64 a0_7] 46 (0, 0))) ∧ Aside0 (Below w.heap.size w wc))
    case first =>
     have H := HC12.out
     clear HC12
     replace H := Option.bind_eq_some_iff.mp H
     obtain ⟨t166, A130, H⟩ := H
     replace H : (if t166 = true then ((clock_isTime.f a0_2).bind fun t167 => (if t167 = true then (clock_CheckExchange.j1 kj1 (decide (a0_1 > a0_2)) a0_0 a0_1 a0_2 a0_3 a0_4 a0_5 a0_6 a0_7) else (clock_CheckExchange.j1 kj1 true a0_0 a0_1 a0_2 a0_3 a0_4 a0_5 a0_6 a0_7))) else (clock_CheckExchange.j1 kj1 true a0_0 a0_1 a0_2 a0_3 a0_4 a0_5 a0_6 a0_7)) = some r := H
     have A13 := Aside0.mk A130
     clear A130
     by_cases c14 : t166 = true
     ·subst c14
      have H1 : ((clock_isTime.f a0_2).bind fun t167 => (if t167 = true then (clock_CheckExchange.j1 kj1 (decide (a0_1 > a0_2)) a0_0 a0_1 a0_2 a0_3 a0_4 a0_5 a0_6 a0_7) else (clock_CheckExchange.j1 kj1 true a0_0 a0_1 a0_2 a0_3 a0_4 a0_5 a0_6 a0_7))) = some r := by rw [if_pos rfl] at H; exact H
      clear H
      have H := H1
      clear H1
      replace H := Option.bind_eq_some_iff.mp H
      obtain ⟨t167, A150, H⟩ := H
      replace H : (if t167 = true then (clock_CheckExchange.j1 kj1 (decide (a0_1 > a0_2)) a0_0 a0_1 a0_2 a0_3 a0_4 a0_5 a0_6 a0_7) else (clock_CheckExchange.j1 kj1 true a0_0 a0_1 a0_2 a0_3 a0_4 a0_5 a0_6 a0_7)) = some r := H
      have A15 := Aside0.mk A150
      clear A150
      by_cases c16 : t167 = true
      ·subst c16
       have H1 : (clock_CheckExchange.j1 kj1 (decide (a0_1 > a0_2)) a0_0 a0_1 a0_2 a0_3 a0_4 a0_5 a0_6 a0_7) = some r := by rw [if_pos rfl] at H; exact H
       clear H
       have H := H1
       clear H1
       have H' := Aside0.mk H
       clear H
       obtain ⟨hcz17_0, hcz17_1, hcz17_2, hcz17_3, hcz17_4, hcz17_5, hcz17_6, hcz17_7, hfz17_0, hfz17_1, hfz17_2, hfz17_3, hfz17_4, hfz17_5, hfz17_6, hfz17_7⟩ := zce8 BK163.out
       go_wp2_with (first | ((with_reducible refine gate_callee (f := 71) rfl ?_); refine goesL_ (some 24) rfl rfl Try.func71 zq1 rfl #[.int .i64 a0_1] rfl zq26 ?_; (with_reducible refine (clock_isTime.calls a0_1 true _ A13.out).mono ?_); rintro e w' ⟨rfl, ⟨nd, rfl⟩⟩; refine ⟨_, rfl, ?_⟩) | (go_at_call 71; (with_reducible refine (clock_isTime.calls a0_2 true _ A15.out).mono ?_); rintro e w' ⟨rfl, ⟨nd, rfl⟩⟩))
       go_meet
       case rel => exact ⟨_, (decide (a0_1 > a0_2)), zq23, H', ⟨by have := HJ1.out; first | omega | exact Nat.le_refl _⟩, ⟨zbf⟩, ⟨zbz⟩⟩
      ·replace c16 := Bool.eq_false_iff.mpr c16
       subst c16
       have H1 : (clock_CheckExchange.j1 kj1 true a0_0 a0_1 a0_2 a0_3 a0_4 a0_5 a0_6 a0_7) = some r := by rw [if_neg (show ¬ (false = true) by decide)] at H; exact H
       clear H
       have H := H1
       clear H1
       have H' := Aside0.mk H
       clear H
       obtain ⟨hcz18_0, hcz18_1, hcz18_2, hcz18_3, hcz18_4, hcz18_5, hcz18_6, hcz18_7, hfz18_0, hfz18_1, hfz18_2, hfz18_3, hfz18_4, hfz18_5, hfz18_6, hfz18_7⟩ := zce8 BK163.out
       go_wp2_with (first | ((with_reducible refine gate_callee (f := 71) rfl ?_); refine goesL_ (some 24) rfl rfl Try.func71 zq1 rfl #[.int .i64 a0_1] rfl zq26 ?_; (with_reducible refine (clock_isTime.calls a0_1 true _ A13.out).mono ?_); rintro e w' ⟨rfl, ⟨nd, rfl⟩⟩; refine ⟨_, rfl, ?_⟩) | (go_at_call 71; (with_reducible refine (clock_isTime.calls a0_2 false _ A15.out).mono ?_); rintro e w' ⟨rfl, ⟨nd, rfl⟩⟩))
       go_meet
       case rel => exact ⟨_, (true), zq23, H', ⟨by have := HJ1.out; first | omega | exact Nat.le_refl _⟩, ⟨zbf⟩, ⟨zbz⟩⟩
     ·replace c14 := Bool.eq_false_iff.mpr c14
      subst c14
      have H1 : (clock_CheckExchange.j1 kj1 true a0_0 a0_1 a0_2 a0_3 a0_4 a0_5 a0_6 a0_7) = some r := by rw [if_neg (show ¬ (false = true) by decide)] at H; exact H
      clear H
      have H := H1
      clear H1
      have H' := Aside0.mk H
      clear H
      obtain ⟨hcz19_0, hcz19_1, hcz19_2, hcz19_3, hcz19_4, hcz19_5, hcz19_6, hcz19_7, hfz19_0, hfz19_1, hfz19_2, hfz19_3, hfz19_4, hfz19_5, hfz19_6, hfz19_7⟩ := zce8 BK163.out
      go_wp2_with (first | ((with_reducible refine gate_callee (f := 71) rfl ?_); refine goesL_ (some 24) rfl rfl Try.func71 zq1 rfl #[.int .i64 a0_1] rfl zq26 ?_; (with_reducible refine (clock_isTime.calls a0_1 false _ A13.out).mono ?_); rintro e w' ⟨rfl, ⟨nd, rfl⟩⟩; refine ⟨_, rfl, ?_⟩))
      go_meet
      case rel => exact ⟨_, (true), zq23, H', ⟨by have := HJ1.out; first | omega | exact Nat.le_refl _⟩, ⟨zbf⟩, ⟨zbz⟩⟩
    case rest =>
     clear HC12
     try clear c1
     try clear p2
     try clear c3
     try clear c5
     try clear c7
     try clear c11
     try clear c14
     try clear c16
     try clear hcz10_0 hcz10_1 hcz10_2 hcz10_3 hcz10_4 hcz10_5 hcz10_6 hcz10_7
     try clear hcz17_0 hcz17_1 hcz17_2 hcz17_3 hcz17_4 hcz17_5 hcz17_6 hcz17_7
     try clear hcz18_0 hcz18_1 hcz18_2 hcz18_3 hcz18_4 hcz18_5 hcz18_6 hcz18_7
     try clear hcz19_0 hcz19_1 hcz19_2 hcz19_3 hcz19_4 hcz19_5 hcz19_6 hcz19_7
     try clear hcz8_0 hcz8_1 hcz8_2 hcz8_3 hcz8_4 hcz8_5 hcz8_6 hcz8_7
     try clear hcz9_0 hcz9_1 hcz9_2 hcz9_3 hcz9_4 hcz9_5 hcz9_6 hcz9_7
     try clear hfz10_0 hfz10_1 hfz10_2 hfz10_3 hfz10_4 hfz10_5 hfz10_6 hfz10_7
     try clear hfz17_0 hfz17_1 hfz17_2 hfz17_3 hfz17_4 hfz17_5 hfz17_6 hfz17_7
     try clear hfz18_0 hfz18_1 hfz18_2 hfz18_3 hfz18_4 hfz18_5 hfz18_6 hfz18_7
     try clear hfz19_0 hfz19_1 hfz19_2 hfz19_3 hfz19_4 hfz19_5 hfz19_6 hfz19_7
     try clear hfz8_0 hfz8_1 hfz8_2 hfz8_3 hfz8_4 hfz8_5 hfz8_6 hfz8_7
     try clear hfz9_0 hfz9_1 hfz9_2 hfz9_3 hfz9_4 hfz9_5 hfz9_6 hfz9_7
     try clear p2
     obtain ⟨kq, x21_11, rfl, HA, HJ11, BK163, HB⟩ := hcut
     cases kq with
     | zero => exact absurd HA.out (by simp [clock_CheckExchange.j1])
     | succ kj11 =>
      have H := HA.out
      clear HA
      simp only [clock_CheckExchange.j1] at H
      by_cases c20 : x21_11 = true
      ·subst c20
       have H1 : (some 2) = some r := by rw [if_pos rfl] at H; exact H
       clear H
       have H := H1
       clear H1
       obtain rfl := Option.some.inj H
       go_wp2
       go_ret
       exact ⟨zq3, zbz⟩
      ·replace c20 := Bool.eq_false_iff.mpr c20
       subst c20
       have H1 : ((bound_Check.f kj11 a0_4 a0_5).bind fun t168 => (if t168 = 0 then ((bound_Check.f kj11 a0_6 a0_7).bind fun t169 => (if t169 = 0 then (if a0_4 < 0 then (some 2) else (if a0_6 < 0 then (some 2) else (some 0))) else (some 2))) else (some 2))) = some r := by rw [if_neg (show ¬ (false = true) by decide)] at H; exact H
       clear H
       have H := H1
       clear H1
       replace H := Option.bind_eq_some_iff.mp H
       obtain ⟨t168, A210, H⟩ := H
       replace H : (if t168 = 0 then ((bound_Check.f kj11 a0_6 a0_7).bind fun t169 => (if t169 = 0 then (if a0_4 < 0 then (some 2) else (if a0_6 < 0 then (some 2) else (some 0))) else (some 2))) else (some 2)) = some r := H
       have A21 := Aside0.mk A210
       clear A210
       by_cases c22 : t168 = 0
       ·rw [if_pos c22] at H
        have c22b0 : (t168 == 0) = true := beq_iff_eq.mpr c22
        have c22b1 : (t168 != 0) = false := bne_eq_false_iff_eq.mpr c22
        clear c22
        replace H := Option.bind_eq_some_iff.mp H
        obtain ⟨t169, A230, H⟩ := H
        replace H : (if t169 = 0 then (if a0_4 < 0 then (some 2) else (if a0_6 < 0 then (some 2) else (some 0))) else (some 2)) = some r := H
        have A23 := Aside0.mk A230
        clear A230
        by_cases c24 : t169 = 0
        ·rw [if_pos c24] at H
         have c24b0 : (t169 == 0) = true := beq_iff_eq.mpr c24
         have c24b1 : (t169 != 0) = false := bne_eq_false_iff_eq.mpr c24
         clear c24
         by_cases c25 : a0_4 < 0
         ·rw [if_pos c25] at H
          have c25b0 : decide (a0_4 < 0) = true := decide_eq_true c25
          clear c25
          obtain rfl := Option.some.inj H
          obtain ⟨hcz26_0, hcz26_1, hcz26_2, hcz26_3, hcz26_4, hcz26_5, hcz26_6, hcz26_7, hfz26_0, hfz26_1, hfz26_2, hfz26_3, hfz26_4, hfz26_5, hfz26_6, hfz26_7⟩ := zce8 BK163.out
          go_wp2_with (first | ((with_reducible refine gate_callee (f := 72) rfl ?_); refine goesL_ (some 42) rfl rfl Try.func72 zq1 rfl #[.agg #[.int .i64 a0_4, .int .i64 a0_5]] rfl zq26 ?_; (with_reducible refine (bound_Check.calls kj11 a0_4 a0_5 t168 _ A21.out).mono ?_); rintro e w27 ⟨rfl, hb⟩; refine ⟨_, rfl, ?_⟩; replace BK163 := zbb BK163 hb; replace HB := zbs HB hb; (try clear hb); (try clear hb2); (try clear hk); (try clear hi); obtain ⟨hcz28_0, hcz28_1, hcz28_2, hcz28_3, hcz28_4, hcz28_5, hcz28_6, hcz28_7, hfz28_0, hfz28_1, hfz28_2, hfz28_3, hfz28_4, hfz28_5, hfz28_6, hfz28_7⟩ := zce8 BK163.out) | (go_at_call 72; (with_reducible refine (bound_Check.calls kj11 a0_6 a0_7 t169 _ A23.out).mono ?_); rintro e w29 ⟨rfl, hb⟩; replace BK163 := zbb BK163 hb; replace HB := zbs HB hb; (try clear hb); (try clear hb2); (try clear hk); (try clear hi); obtain ⟨hcz30_0, hcz30_1, hcz30_2, hcz30_3, hcz30_4, hcz30_5, hcz30_6, hcz30_7, hfz30_0, hfz30_1, hfz30_2, hfz30_3, hfz30_4, hfz30_5, hfz30_6, hfz30_7⟩ := zce8 BK163.out))
          go_ret
          exact ⟨zq3, zbz⟩
         ·rw [if_neg c25] at H
          have c25b0 : decide (a0_4 < 0) = false := decide_eq_false c25
          clear c25
          by_cases c31 : a0_6 < 0
          ·rw [if_pos c31] at H
           have c31b0 : decide (a0_6 < 0) = true := decide_eq_true c31
           clear c31
           obtain rfl := Option.some.inj H
           obtain ⟨hcz32_0, hcz32_1, hcz32_2, hcz32_3, hcz32_4, hcz32_5, hcz32_6, hcz32_7, hfz32_0, hfz32_1, hfz32_2, hfz32_3, hfz32_4, hfz32_5, hfz32_6, hfz32_7⟩ := zce8 BK163.out
           go_wp2_with (first | ((with_reducible refine gate_callee (f := 72) rfl ?_); refine goesL_ (some 42) rfl rfl Try.func72 zq1 rfl #[.agg #[.int .i64 a0_4, .int .i64 a0_5]] rfl zq26 ?_; (with_reducible refine (bound_Check.calls kj11 a0_4 a0_5 t168 _ A21.out).mono ?_); rintro e w33 ⟨rfl, hb⟩; refine ⟨_, rfl, ?_⟩; replace BK163 := zbb BK163 hb; replace HB := zbs HB hb; (try clear hb); (try clear hb2); (try clear hk); (try clear hi); obtain ⟨hcz34_0, hcz34_1, hcz34_2, hcz34_3, hcz34_4, hcz34_5, hcz34_6, hcz34_7, hfz34_0, hfz34_1, hfz34_2, hfz34_3, hfz34_4, hfz34_5, hfz34_6, hfz34_7⟩ := zce8 BK163.out) | (go_at_call 72; (with_reducible refine (bound_Check.calls kj11 a0_6 a0_7 t169 _ A23.out).mono ?_); rintro e w35 ⟨rfl, hb⟩; replace BK163 := zbb BK163 hb; replace HB := zbs HB hb; (try clear hb); (try clear hb2); (try clear hk); (try clear hi); obtain ⟨hcz36_0, hcz36_1, hcz36_2, hcz36_3, hcz36_4, hcz36_5, hcz36_6, hcz36_7, hfz36_0, hfz36_1, hfz36_2, hfz36_3, hfz36_4, hfz36_5, hfz36_6, hfz36_7⟩ := zce8 BK163.out))
           go_ret
           exact ⟨zq3, zbz⟩
          ·rw [if_neg c31] at H
           have c31b0 : decide (a0_6 < 0) = false := decide_eq_false c31
           clear c31
           obtain rfl := Option.some.inj H
           obtain ⟨hcz37_0, hcz37_1, hcz37_2, hcz37_3, hcz37_4, hcz37_5, hcz37_6, hcz37_7, hfz37_0, hfz37_1, hfz37_2, hfz37_3, hfz37_4, hfz37_5, hfz37_6, hfz37_7⟩ := zce8 BK163.out
           go_wp2_with (first | ((with_reducible refine gate_callee (f := 72) rfl ?_); refine goesL_ (some 42) rfl rfl Try.func72 zq1 rfl #[.agg #[.int .i64 a0_4, .int .i64 a0_5]] rfl zq26 ?_; (with_reducible refine (bound_Check.calls kj11 a0_4 a0_5 t168 _ A21.out).mono ?_); rintro e w38 ⟨rfl, hb⟩; refine ⟨_, rfl, ?_⟩; replace BK163 := zbb BK163 hb; replace HB := zbs HB hb; (try clear hb); (try clear hb2); (try clear hk); (try clear hi); obtain ⟨hcz39_0, hcz39_1, hcz39_2, hcz39_3, hcz39_4, hcz39_5, hcz39_6, hcz39_7, hfz39_0, hfz39_1, hfz39_2, hfz39_3, hfz39_4, hfz39_5, hfz39_6, hfz39_7⟩ := zce8 BK163.out) | (go_at_call 72; (with_reducible refine (bound_Check.calls kj11 a0_6 a0_7 t169 _ A23.out).mono ?_); rintro e w40 ⟨rfl, hb⟩; replace BK163 := zbb BK163 hb; replace HB := zbs HB hb; (try clear hb); (try clear hb2); (try clear hk); (try clear hi); obtain ⟨hcz41_0, hcz41_1, hcz41_2, hcz41_3, hcz41_4, hcz41_5, hcz41_6, hcz41_7, hfz41_0, hfz41_1, hfz41_2, hfz41_3, hfz41_4, hfz41_5, hfz41_6, hfz41_7⟩ := zce8 BK163.out))
           go_ret
           exact ⟨zq3, zbz⟩
        ·rw [if_neg c24] at H
         have c24b0 : (t169 == 0) = false := beq_eq_false_iff_ne.mpr c24
         have c24b1 : (t169 != 0) = true := bne_iff_ne.mpr c24
         obtain rfl := Option.some.inj H
         obtain ⟨hcz42_0, hcz42_1, hcz42_2, hcz42_3, hcz42_4, hcz42_5, hcz42_6, hcz42_7, hfz42_0, hfz42_1, hfz42_2, hfz42_3, hfz42_4, hfz42_5, hfz42_6, hfz42_7⟩ := zce8 BK163.out
         go_wp2_with (first | ((with_reducible refine gate_callee (f := 72) rfl ?_); refine goesL_ (some 42) rfl rfl Try.func72 zq1 rfl #[.agg #[.int .i64 a0_4, .int .i64 a0_5]] rfl zq26 ?_; (with_reducible refine (bound_Check.calls kj11 a0_4 a0_5 t168 _ A21.out).mono ?_); rintro e w43 ⟨rfl, hb⟩; refine ⟨_, rfl, ?_⟩; replace BK163 := zbb BK163 hb; replace HB := zbs HB hb; (try clear hb); (try clear hb2); (try clear hk); (try clear hi); obtain ⟨hcz44_0, hcz44_1, hcz44_2, hcz44_3, hcz44_4, hcz44_5, hcz44_6, hcz44_7, hfz44_0, hfz44_1, hfz44_2, hfz44_3, hfz44_4, hfz44_5, hfz44_6, hfz44_7⟩ := zce8 BK163.out) | (go_at_call 72; (with_reducible refine (bound_Check.calls kj11 a0_6 a0_7 t169 _ A23.out).mono ?_); rintro e w45 ⟨rfl, hb⟩; replace BK163 := zbb BK163 hb; replace HB := zbs HB hb; (try clear hb); (try clear hb2); (try clear hk); (try clear hi)))
         go_ret
         exact ⟨zq3, zbz⟩
       ·rw [if_neg c22] at H
        have c22b0 : (t168 == 0) = false := beq_eq_false_iff_ne.mpr c22
        have c22b1 : (t168 != 0) = true := bne_iff_ne.mpr c22
        obtain rfl := Option.some.inj H
        obtain ⟨hcz46_0, hcz46_1, hcz46_2, hcz46_3, hcz46_4, hcz46_5, hcz46_6, hcz46_7, hfz46_0, hfz46_1, hfz46_2, hfz46_3, hfz46_4, hfz46_5, hfz46_6, hfz46_7⟩ := zce8 BK163.out
        go_wp2_with (first | ((with_reducible refine gate_callee (f := 72) rfl ?_); refine goesL_ (some 42) rfl rfl Try.func72 zq1 rfl #[.agg #[.int .i64 a0_4, .int .i64 a0_5]] rfl zq26 ?_; (with_reducible refine (bound_Check.calls kj11 a0_4 a0_5 t168 _ A21.out).mono ?_); rintro e w47 ⟨rfl, hb⟩; refine ⟨_, rfl, ?_⟩; replace BK163 := zbb BK163 hb; replace HB := zbs HB hb; (try clear hb); (try clear hb2); (try clear hk); (try clear hi)))
        go_ret
        exact ⟨zq3, zbz⟩

end Go.Proofs.Ytcjdhajdoikojaa.Pr
end
