/- Part 15 of the proof of TopSearched: what the functions compute. No condition. -/
import Derived.Test.YthglkoddmpicdaaTsTopSearched3
import Derived.Test.YthglkoddmpicdaaTsTopSearched13
import Derived.Test.YthglkoddmpicdaaTsTopSearched14
set_option linter.unusedVariables false
set_option linter.unusedSimpArgs false
section
/- The hulls of all dives. -/
namespace Go.Proofs.Ythglkoddmpicdaa.Gl
open Go.RowKit Go.Shelf Go.Proofs.YthglkoddmpicdaaW.PrintWords Go.Proofs.YthglkoddmpicdaaW.PrintLast Go.Proofs.YthglkoddmpicdaaW.PrintMore Go.Proofs.Ythglkoddmpicdaa.Pr Go.Proofs.YthglkoddmpicdaaW.Round
set_option linter.unusedVariables false
set_option linter.unusedSimpArgs false
attribute [local go_sem] max2_int min2_int max_two min_two max_four
attribute [local go_sem] Oper.semAt_some
theorem ends_box {s : Sea} {v : Veh} {x : S29} {t hd layer : Int} (hS : SeaV s) (hV : VehN v) (hx : BoxOK x) (hr : reachE s v x t = 0) : BoxOK (endsI s v x (grownI s v x) t hd layer) := by
 obtain ⟨_, _, ⟨a0, a1⟩, b0, b1⟩ := reach_ok hS.n hV hx hr
 obtain ⟨_, o1, o2⟩ := hx
 have hdv := hV.dive
 have hsp := hV.speed
 have hdi := dirI_in hd
 have hai := at_in hS.cb (grownI s v x) layer t (t + v.dive)
 unfold endsI shiftI BoxOK SmallB downM upM
 dsimp only
 generalize atI s (grownI s v x) layer t (t + v.dive) = y at *
 generalize dirI hd = d at *
 obtain ⟨⟨y0, y1⟩, ⟨y2, y3⟩, ⟨y4, y5⟩, ⟨y6, y7⟩, y8, y9⟩ := hai
 have m0 := mul_abs (a := d.1) (b := v.speed) (m := 1000) (n := 5000) hdi.1.1 hdi.1.2 hsp.1 hsp.2 (by omega)
 have m1 := mul_abs (a := d.2) (b := v.speed) (m := 1000) (n := 5000) hdi.2.1 hdi.2.2 hsp.1 hsp.2 (by omega)
 generalize d.1 * v.speed = e at *
 generalize d.2 * v.speed = f at *
 have n0 := mul_abs (a := e + 1000 * y.f0.f0) (b := v.dive) (m := 10000000) (n := 131072) (by omega) (by omega) (by omega) (by omega) (by omega)
 have n1 := mul_abs (a := e + 1000 * y.f0.f1) (b := v.dive) (m := 10000000) (n := 131072) (by omega) (by omega) (by omega) (by omega) (by omega)
 have n2 := mul_abs (a := f + 1000 * y.f1.f0) (b := v.dive) (m := 10000000) (n := 131072) (by omega) (by omega) (by omega) (by omega) (by omega)
 have n3 := mul_abs (a := f + 1000 * y.f1.f1) (b := v.dive) (m := 10000000) (n := 131072) (by omega) (by omega) (by omega) (by omega) (by omega)
 have k0 := Int.mul_le_mul_of_nonneg_right (show e + 1000 * y.f0.f0 ≤ e + 1000 * y.f0.f1 by omega) (show 0 ≤ v.dive by omega)
 have k1 := Int.mul_le_mul_of_nonneg_right (show f + 1000 * y.f1.f0 ≤ f + 1000 * y.f1.f1 by omega) (show 0 ≤ v.dive by omega)
 generalize (e + 1000 * y.f0.f0) * v.dive = A at *
 generalize (e + 1000 * y.f0.f1) * v.dive = B at *
 generalize (f + 1000 * y.f1.f0) * v.dive = C at *
 generalize (f + 1000 * y.f1.f1) * v.dive = E at *
 clear m0 m1 hdi hdv hsp hr
 omega
theorem hullB_ok {a b : S29} (ha : BoxOK a) (hb : BoxOK b) : BoxOK (hullB a b) := by
 unfold BoxOK SmallB at *
 unfold hullB
 dsimp only
 omega
/-- The hull of a box and of the ends of dives by courses. -/
def hullP (s : Sea) (v : Veh) (x g : S29) (t : Int) (A : S29) (l : List S76) : S29 := l.foldl (fun a c => hullB a (endsI s v x g t c.f0 c.f1)) A
theorem hullP_snoc (s : Sea) (v : Veh) (x g : S29) (t : Int) (A : S29) (l : List S76) (c : S76) : hullP s v x g t A (l ++ [c]) = hullB (hullP s v x g t A l) (endsI s v x g t c.f0 c.f1) := by unfold hullP; rw [List.foldl_append]; rfl
/-- Where all dives from a box end: the hull. -/
def stepH (s : Sea) (v : Veh) (x : S29) (t : Int) : S29 := hullP s v x (grownI s v x) t (endsI s v x (grownI s v x) t 0 0) (crsL s)
theorem hullP_ok {s : Sea} {v : Veh} {x : S29} {t : Int} (hS : SeaV s) (hV : VehN v) (hx : BoxOK x) (hr : reachE s v x t = 0) : ∀ (l : List S76) (A : S29), BoxOK A → BoxOK (hullP s v x (grownI s v x) t A l)
 | [], A, h => h
 | c :: l, A, h => hullP_ok hS hV hx hr l _ (hullB_ok h (ends_box hS hV hx hr))
theorem stepH_ok {s : Sea} {v : Veh} {x : S29} {t : Int} (hS : SeaV s) (hV : VehN v) (hx : BoxOK x) (hr : reachE s v x t = 0) : BoxOK (stepH s v x t) := hullP_ok hS hV hx hr _ _ (ends_box hS hV hx hr)
/-- The hulls of all dives, and the error. -/
def hullsI (s : Sea) (v : Veh) : Nat → S29 → Int → List S29 → List S29 × Int
 | 0, _, _, out => (out, 0)
 | n + 1, x, t, out => if reachE s v x t ≠ 0 then ([], reachE s v x t) else hullsI s v n (stepH s v x t) (t + v.dive) (out ++ [stepH s v x t])
/-- What hulls returns. -/
def HullPost (R : List S29 × Int) (w : World) (e : Ending) (w' : World) : Prop := ∃ v0_ : Value, e = .returned (.tuple #[v0_, .int .i64 R.2]) ∧ Kd.R k29 29 w' w.heap.size (fun _ => True) v0_ R.1 ∧ Below w.heap.size w w'
/-- What a round keeps. -/
def KpC (w : World) (bp b : Nat) (A B : World) : Prop := Below w.heap.size A B ∧ (Blk A bp #[.pointer (some ⟨b, 0, none⟩)] 118 → Blk B bp #[.pointer (some ⟨b, 0, none⟩)] 118)
theorem KpC.trans {w : World} {bp b : Nat} {A B C : World} (h : KpC w bp b A B) (k : KpC w bp b B C) : KpC w bp b A C := ⟨h.1.trans k.1, fun q => k.2 (h.2 q)⟩
theorem KpC.put {w W0 : World} {bp b : Nat} (hw : w.heap.size ≤ W0.heap.size) (hp : bp < W0.heap.size) (W : World) (l : Nat) (o o' : Obj) (hl : W0.heap.size ≤ l) (h : W.heap[l]? = some o) (h1 : o.isCells = false) (h2 : o.isWalk = false) : KpC w bp b W (W.putObj l o') :=
 ⟨belowK_b hw W l o o' hl h h1 h2, fun q => (World.putObj_heap_other (by omega)).trans q⟩
theorem KpC.below {w : World} {bp b : Nat} {A B : World} (hw : w.heap.size ≤ A.heap.size) (h : Below A.heap.size A B) : KpC w bp b A B := ⟨h.mono hw, fun q => Blk.belowH q h⟩
theorem KpC.set {w : World} {bp b : Nat} {A B : World} (h : KpC w bp b A B) {p : Addr} (hp : w.heap.size ≤ p.block) (h1 : bp ≠ p.block) (u : Value) : KpC w bp b A (B.setCell p u) := ⟨h.1.setCell hp u, fun q => blk_far (h.2 q) h1 u⟩
/-- A row of boxes of one's own stays while records that are no cells change. -/
theorem R_nocells {α : Type} {d : Kd α} {e base : Nat} {ok : Nat → Prop} {v : Value} {xs : List α} {X Y : World} (h : d.R e X base ok v xs) (hm : ∀ k c t f, k < X.heap.size → X.heap[k]? = some (.cells c t f) → Y.heap[k]? = X.heap[k]?) : d.R e Y base ok v xs :=
 Kd.R_mono (Kd.R_step (Kd.R_bound h) (fun k hk hs => by
  obtain ⟨_, _, _, q, _, cells, hc⟩ := hk
  exact hm k _ _ _ hs hc)) (fun k hk => hk.1)
theorem R_ownFrom {β α : Type} (d : Kd α) (e base : Nat) (ok : Nat → Prop) (v : Value) (xs : List α) (B : Nat) : OwnFrom B (fun (_ : β) W => d.R e W base ok v xs) := fun s X Y row hs hg hr =>
 R_nocells hs (fun k c t f hk hc => hg.block k hk (fun e_ => by
  obtain ⟨_, o_, ho, hn⟩ := hr k e_.symm
  rw [hc] at ho
  cases ho
  cases hn))
theorem R_putD {α : Type} {d : Kd α} {e base : Nat} {ok : Nat → Prop} {v : Value} {xs : List α} {X : World} (h : d.R e X base ok v xs) {D_ : Nat} {q : Option (List Deferred)} (hD : X.heap[D_]? = some (.deferred q)) (o_ : Obj) : d.R e (X.putObj D_ o_) base ok v xs :=
 R_nocells h (fun k c t f hk hc => World.putObj_heap_other (fun e_ => by
  rw [← e_] at hD
  rw [hc] at hD
  cases hD))
theorem Marks.grown {X Y : World} {B : Nat} {Ds : List Nat} {row : Option Nat} (h : Marks X B Ds) (hg : X.grownBy Y row) (hne : ∀ D_ ∈ Ds, some D_ ≠ row) : Marks Y B Ds :=
 ⟨h.1, fun D_ hD => ⟨(h.2 D_ hD).1, (hg.block D_ (Array.getElem?_eq_some_iff.1 (h.2 D_ hD).2).1 (hne D_ hD)).trans (h.2 D_ hD).2⟩⟩
set_option maxRecDepth 100000 in
set_option maxHeartbeats 16000000 in
theorem hulls_any (b : Nat) (s : Sea) (v : Veh) (x : S29) (t : Int) (n : Nat) (w : World) (hT : TripAt w b s v) (hS : SeaV s) (hV : VehN v) (hx : BoxOK x) (ht0 : 0 ≤ t) (ht1 : t ≤ 1073741824) (hn : n ≤ 64) :
  Calls Try.prog 107 #[.pointer (some ⟨b, 0, none⟩), .agg #[.int .i64 x.f0.f0, .int .i64 x.f0.f1, .int .i64 x.f1.f0, .int .i64 x.f1.f1], .int .i64 t, .int .i64 (n : Int)] w (HullPost (hullsI s v n x t []) w) := by
 have hu29 := Try.underlying29
 have hu76 := Try.underlying76
 have hu27 := Try.underlying27
 refine (callsIn_wide (n := 7)).1 ?_
 refine callsIn_of_wp_marks Try.func107 rfl trivial ?_ rfl
 simp only [Try.ntmps107, List.size_toArray, List.length_cons, List.length_nil, Nat.reduceAdd, Nat.reduceSub, Array.replicate_succ, Array.replicate_zero, List.push_toArray, List.append_toArray, List.nil_append, List.cons_append]
 gi_wp2_with fail
 have m4 : Blk (((w.alloc (.cells #[.pointer (some ⟨b, 0, none⟩)] 118)).alloc (.cells #[.int .i64 x.f0.f0, .int .i64 x.f0.f1, .int .i64 x.f1.f0, .int .i64 x.f1.f1] 29)).alloc (.cells #[.int .i64 t] 2)) (w.heap.size) #[.pointer (some ⟨b, 0, none⟩)] 118 := (blk_alloc (blk_alloc zq25 _) _)
 have m5 : Blk (((w.alloc (.cells #[.pointer (some ⟨b, 0, none⟩)] 118)).alloc (.cells #[.int .i64 x.f0.f0, .int .i64 x.f0.f1, .int .i64 x.f1.f0, .int .i64 x.f1.f1] 29)).alloc (.cells #[.int .i64 t] 2)) (w.heap.size + 1) #[.int .i64 x.f0.f0, .int .i64 x.f0.f1, .int .i64 x.f1.f0, .int .i64 x.f1.f1] 29 := (blk_alloc zq26 _)
 have m6 : Blk (((w.alloc (.cells #[.pointer (some ⟨b, 0, none⟩)] 118)).alloc (.cells #[.int .i64 x.f0.f0, .int .i64 x.f0.f1, .int .i64 x.f1.f0, .int .i64 x.f1.f1] 29)).alloc (.cells #[.int .i64 t] 2)) (w.heap.size + 1 + 1) #[.int .i64 t] 2 := (by have h_ := blk_new ((w.alloc (.cells #[.pointer (some ⟨b, 0, none⟩)] 118)).alloc (.cells #[.int .i64 x.f0.f0, .int .i64 x.f0.f1, .int .i64 x.f1.f0, .int .i64 x.f1.f1] 29)) (.cells #[.int .i64 t] 2); first | exact h_ | (simp only [World.size_alloc] at h_; exact h_))
 have mB : Below w.heap.size w (((w.alloc (.cells #[.pointer (some ⟨b, 0, none⟩)] 118)).alloc (.cells #[.int .i64 x.f0.f0, .int .i64 x.f0.f1, .int .i64 x.f1.f0, .int .i64 x.f1.f1] 29)).alloc (.cells #[.int .i64 t] 2)) := (below_alloc (below_alloc (below_alloc (Below.refl w.heap.size w) _) _) _)
 have hsz_ : w.heap.size ≤ w.heap.size := Nat.le_refl _
 generalize hW_ : (((w.alloc (.cells #[.pointer (some ⟨b, 0, none⟩)] 118)).alloc (.cells #[.int .i64 x.f0.f0, .int .i64 x.f0.f1, .int .i64 x.f1.f0, .int .i64 x.f1.f1] 29)).alloc (.cells #[.int .i64 t] 2)) = W1 at m4 m5 m6 mB ⊢
 clear hW_
 generalize hg4 : w.heap.size = g4 at m4 m5 m6 ⊢
 have hG4 : w.heap.size ≤ g4 := by omega
 generalize hg5 : g4 + 1 = g5 at m5 m6 ⊢
 have hn_4_5 : g4 ≠ g5 := by omega
 have hn_5_4 : g5 ≠ g4 := hn_4_5.symm
 have hG5 : w.heap.size ≤ g5 := by omega
 generalize hg6 : g5 + 1 = g6 at m6 ⊢
 have hn_4_6 : g4 ≠ g6 := by omega
 have hn_5_6 : g5 ≠ g6 := by omega
 have hn_6_4 : g6 ≠ g4 := hn_4_6.symm
 have hn_6_5 : g6 ≠ g5 := hn_5_6.symm
 have hG6 : w.heap.size ≤ g6 := by omega
 clear hsz_
 try clear hg6
 try clear hg5
 try clear hg4
 have hs_W1 : w.heap.size ≤ W1.heap.size := mB.size
 skip
 refine wpIn_loop (fun a W => ∃ (k : Nat) (X : S29) (T : Int) (out : List S29) (v_ : Value) (Ds : List Nat) (u_ : Nat → Value), a = { tmps := #[(u_ 0), (u_ 1), (u_ 2), (u_ 3), .pointer (some ⟨g4, 0, none⟩), .pointer (some ⟨g5, 0, none⟩), .pointer (some ⟨g6, 0, none⟩), (u_ 7), (u_ 8), (u_ 9), v_, (u_ 11), (u_ 12), (u_ 13), (u_ 14), .int .i64 (n : Int), .int .i64 (k : Int), (u_ 17), (u_ 18), (u_ 19), (u_ 20), (u_ 21), (u_ 22), (u_ 23), (u_ 24), (u_ 25), (u_ 26), (u_ 27), (u_ 28), (u_ 29), (u_ 30), (u_ 31), (u_ 32), (u_ 33), (u_ 34), (u_ 35), (u_ 36), (u_ 37), (u_ 38), (u_ 39), (u_ 40), (u_ 41), (u_ 42), (u_ 43), (u_ 44), (u_ 45), (u_ 46), (u_ 47), (u_ 48), (u_ 49), (u_ 50), (u_ 51), (u_ 52), (u_ 53), (u_ 54), (u_ 55), (u_ 56), (u_ 57), (u_ 58)], defers := Ds.map mark } ∧ k ≤ n ∧ Hid (hullsI s v n x t [] = hullsI s v (n - k) X T out) ∧ Hid (out.length = k ∧ BoxOK X ∧ 0 ≤ T ∧ T ≤ 1073741824 + (k : Int) * 131072) ∧ Marks W w.heap.size Ds ∧ Blk W g4 #[.pointer (some ⟨b, 0, none⟩)] 118 ∧ Blk W g5 #[.int .i64 X.f0.f0, .int .i64 X.f0.f1, .int .i64 X.f1.f0, .int .i64 X.f1.f1] 29 ∧ Blk W g6 #[.int .i64 T] 2 ∧ Kd.R k29 29 W w.heap.size (fun q => q ≠ g5) v_ out ∧ Below w.heap.size w W) (fun a _ => ((n : Int) - intOf (a.tmps.getD 16 undef)).toNat) ⟨0, x, t, [], .slice none 0 0, [], (fun k => (#[.pointer (some ⟨b, 0, none⟩), .agg #[.int .i64 x.f0.f0, .int .i64 x.f0.f1, .int .i64 x.f1.f0, .int .i64 x.f1.f1], .int .i64 t, .int .i64 (n : Int), .pointer (some ⟨g4, 0, none⟩), .pointer (some ⟨g5, 0, none⟩), .pointer (some ⟨g6, 0, none⟩), undef, .slice none 0 0, .int .i64 0, .slice none 0 0, undef, undef, undef, undef, .int .i64 (n : Int), .int .i64 0, undef, undef, undef, undef, undef, undef, undef, undef, undef, undef, undef, undef, undef, undef, undef, undef, undef, undef, undef, undef, undef, undef, undef, undef, undef, undef, undef, undef, undef, undef, undef, undef, undef, undef, undef, undef, undef, undef, undef, undef, undef, undef] : Array Value).getD k undef), rfl, Nat.zero_le _, Lib.hid rfl, Lib.hid ⟨rfl, hx, ht0, by omega⟩, Marks.nil _ _, m4, m5, m6, Kd.R_nil _ _ _ _ _, mB⟩ ?_
 clear m4 m5 m6 mB hx ht0 ht1
 rintro a_ W ⟨k, X, T, out, v_, Ds, u_, rfl, hk, HR, HQ, hM, m4, m5, m6, HO, mB⟩
 have hs_W : w.heap.size ≤ W.heap.size := mB.size
 skip
 by_cases hlt : k < n
 case neg =>
  obtain rfl : k = n := by omega
  have HE := HR.out
  rw [Nat.sub_self] at HE
  have HE2 : Hid (hullsI s v k x t [] = (out, 0)) := Lib.hid HE
  clear HE HR HQ
  have hnl : ¬ ((k : Int) < (k : Int)) := by omega
  gi_wp2
  skip
  exact leaves_marks (fun W_ => Kd.R k29 29 W_ w.heap.size (fun q => q ≠ g5) v_ out ∧ Below w.heap.size w W_) (fun W_ D_ h hB hD => ⟨R_putD h.1 hD _, h.2.trans (belowK_b (w := w) (Nat.le_refl _) W_ D_ _ _ hB hD rfl rfl)⟩) (fun W_ h => ⟨_, results_tmp2 rfl _ _ _, _, by rw [HE2.out]; rfl, by rw [HE2.out]; exact Kd.R_mono h.1 (fun _ _ => trivial), h.2⟩) Ds _ hM ⟨HO, mB⟩
 case pos =>
  obtain ⟨hol, hX, hT0, hT1⟩ := HQ.out
  have hdv := hV.dive
  have HDV := Lib.hid hdv
  have HR2 : Hid (hullsI s v n x t [] = if reachE s v X T ≠ 0 then ([], reachE s v X T) else hullsI s v (n - (k + 1)) (stepH s v X T) (T + v.dive) (out ++ [stepH s v X T])) := Lib.hid (by rw [HR.out, show n - k = (n - (k + 1)) + 1 by omega]; rfl)
  clear HR
  have hkk : ((k : Int) < (n : Int)) := by omega
  have kR := fun W (h : TripAt W b s v) => reach_any b s v X T W h hS.n hV hX.1 hT0 (by omega)
  have hok := fun h => stepH_ok (t := T) hS hV hX h
  have hro := fun h => reach_ok (t := T) hS.n hV hX h
  have HV : Hid (reachE s v X T = 0 → reachV s v X T = grownI s v X) := Lib.hid (fun h => if_pos h)
  have HXS : Hid (BoxOK X) := Lib.hid hX
  clear hdv hX
  have c4_0 := (blk_cell m4 0).trans rfl
  obtain ⟨c5_0, c5_1, c5_2, c5_3⟩ := zcs4 m5
  have c6_0 := (blk_cell m6 0).trans rfl
  gi_wp2_with fail
  skip
  clear hkk c4_0 c5_0 c5_1 c5_2 c5_3 c6_0
  skip
  have hcon := kR W (hT.below mB)
  refine ⟨trivial, (callsIn_wide.2 hcon).mono ?_⟩
  clear hcon
  rintro e W2 ⟨rfl, hb⟩
  replace HO := Kd.R_below HO hb
  replace hM := hM.below hb
  replace m4 := blk_below m4 hb
  replace m5 := blk_below m5 hb
  replace m6 := blk_below m6 hb
  replace mB := below_step mB hb
  clear hb
  have hs_W2 : w.heap.size ≤ W2.heap.size := mB.size
  clear kR
  generalize reachE s v X T = E at *
  generalize reachV s v X T = G at *
  by_cases hE : E = 0
  case neg =>
   have HZ := Lib.hid (HR2.out.trans (if_pos hE))
   have hd1 : (E == 0) = false := beq_eq_false_iff_ne.2 hE
   have hd2 : (E != 0) = true := by rw [bne, hd1]; rfl
   clear hE HR2 hok hro
   gi_wp2
   skip
   exact leaves_marks (fun W_ => Below w.heap.size w W_) (fun W_ D_ h hB hD => h.trans (belowK_b (w := w) (Nat.le_refl _) W_ D_ _ _ hB hD rfl rfl)) (fun W_ h => ⟨_, results_tmp2 rfl _ _ _, _, zq21, zq38, h⟩) Ds _ (hM.below (below_alloc (Below.refl _ _) _)) (below_alloc mB _)
  case pos =>
   have HR3 := Lib.hid (HR2.out.trans (if_neg (fun h => h hE)))
   have hX2 := hok hE
   obtain ⟨hin, ⟨_, htd⟩, _⟩ := hro hE
   have HX2 := Lib.hid hX2
   have hG := HV.out hE
   clear HR2 hok hro HV hX2
   subst hE
   subst hG
   have hla := hS.n.layers
   have kE := fun W hd layer (h : TripAt W b s v) (h0 : 0 ≤ hd) (h1 : hd ≤ 8) (h2 : 0 ≤ layer) (h3 : layer < s.layers) => ends_any b s v X (grownI s v X) T hd layer W h hS.n hV hS.cu hS.cb HXS.out.1 hin hT0 htd h0 h1 h2 h3
   have HST : Hid (stepH s v X T = hullP s v X (grownI s v X) T (endsI s v X (grownI s v X) T 0 0) (crsL s)) := Lib.hid rfl
   generalize stepH s v X T = H at *
   generalize grownI s v X = G at *
   have c4_0 : ∀ o_, (W2.alloc o_).cell? ⟨g4, 0, none⟩ = some (.pointer (some ⟨b, 0, none⟩)) := fun o_ => (blk_cell (blk_alloc m4 o_) 0).trans rfl
   have c5_0 : ∀ o_, (W2.alloc o_).cell? ⟨g5, 0, none⟩ = some (.int .i64 X.f0.f0) := fun o_ => (blk_cell (blk_alloc m5 o_) 0).trans rfl
   have c5_1 : ∀ o_, (W2.alloc o_).cell? ⟨g5, 1, none⟩ = some (.int .i64 X.f0.f1) := fun o_ => (blk_cell (blk_alloc m5 o_) 1).trans rfl
   have c5_2 : ∀ o_, (W2.alloc o_).cell? ⟨g5, 2, none⟩ = some (.int .i64 X.f1.f0) := fun o_ => (blk_cell (blk_alloc m5 o_) 2).trans rfl
   have c5_3 : ∀ o_, (W2.alloc o_).cell? ⟨g5, 3, none⟩ = some (.int .i64 X.f1.f1) := fun o_ => (blk_cell (blk_alloc m5 o_) 3).trans rfl
   have c6_0 : ∀ o_, (W2.alloc o_).cell? ⟨g6, 0, none⟩ = some (.int .i64 T) := fun o_ => (blk_cell (blk_alloc m6 o_) 0).trans rfl
   gi_wp2_with fail
   clear c4_0 c5_0 c5_1 c5_2 c5_3 c6_0
   skip
   replace HO := Kd.R_below HO (below_alloc (Below.refl W2.heap.size W2) (.cells #[.int .i64 G.f0.f0, .int .i64 G.f0.f1, .int .i64 G.f1.f0, .int .i64 G.f1.f1] 29))
   replace hM := hM.below (below_alloc (Below.refl W2.heap.size W2) (.cells #[.int .i64 G.f0.f0, .int .i64 G.f0.f1, .int .i64 G.f1.f0, .int .i64 G.f1.f1] 29))
   have hl_4 := blk_lt m4
   have hl_5 := blk_lt m5
   have hl_6 := blk_lt m6
   have m11 : Blk (W2.alloc (.cells #[.int .i64 G.f0.f0, .int .i64 G.f0.f1, .int .i64 G.f1.f0, .int .i64 G.f1.f1] 29)) (W2.heap.size) #[.int .i64 G.f0.f0, .int .i64 G.f0.f1, .int .i64 G.f1.f0, .int .i64 G.f1.f1] 29 := zq34
   replace m4 : Blk (W2.alloc (.cells #[.int .i64 G.f0.f0, .int .i64 G.f0.f1, .int .i64 G.f1.f0, .int .i64 G.f1.f1] 29)) g4 #[.pointer (some ⟨b, 0, none⟩)] 118 := (blk_alloc m4 _)
   replace m5 : Blk (W2.alloc (.cells #[.int .i64 G.f0.f0, .int .i64 G.f0.f1, .int .i64 G.f1.f0, .int .i64 G.f1.f1] 29)) g5 #[.int .i64 X.f0.f0, .int .i64 X.f0.f1, .int .i64 X.f1.f0, .int .i64 X.f1.f1] 29 := (blk_alloc m5 _)
   replace m6 : Blk (W2.alloc (.cells #[.int .i64 G.f0.f0, .int .i64 G.f0.f1, .int .i64 G.f1.f0, .int .i64 G.f1.f1] 29)) g6 #[.int .i64 T] 2 := (blk_alloc m6 _)
   replace mB : Below w.heap.size w (W2.alloc (.cells #[.int .i64 G.f0.f0, .int .i64 G.f0.f1, .int .i64 G.f1.f0, .int .i64 G.f1.f1] 29)) := (below_alloc mB _)
   have hsz_ : w.heap.size ≤ W2.heap.size := hs_W2
   generalize hW_ : (W2.alloc (.cells #[.int .i64 G.f0.f0, .int .i64 G.f0.f1, .int .i64 G.f1.f0, .int .i64 G.f1.f1] 29)) = W3 at m4 m5 m6 m11 mB HO hM ⊢
   clear hW_
   generalize hg11 : W2.heap.size = g11 at m11 ⊢
   have hn_4_11 : g4 ≠ g11 := by omega
   have hn_5_11 : g5 ≠ g11 := by omega
   have hn_6_11 : g6 ≠ g11 := by omega
   have hn_11_4 : g11 ≠ g4 := hn_4_11.symm
   have hn_11_5 : g11 ≠ g5 := hn_5_11.symm
   have hn_11_6 : g11 ≠ g6 := hn_6_11.symm
   have hG11 : w.heap.size ≤ g11 := by omega
   clear hsz_ hl_4 hl_5 hl_6
   try clear hg11
   have hs_W3 : w.heap.size ≤ W3.heap.size := mB.size
   have hcon := kE W3 0 0 (hT.below mB) (by omega) (by omega) (by omega) (by omega)
   refine ⟨trivial, (callsIn_wide.2 hcon).mono ?_⟩
   clear hcon
   rintro e W4 ⟨rfl, hb⟩
   replace HO := Kd.R_below HO hb
   replace hM := hM.below hb
   replace m4 := blk_below m4 hb
   replace m5 := blk_below m5 hb
   replace m6 := blk_below m6 hb
   replace m11 := blk_below m11 hb
   replace mB := below_step mB hb
   clear hb
   have hs_W4 : w.heap.size ≤ W4.heap.size := mB.size
   generalize endsI s v X G T 0 0 = A at *
   have c4_0 : ∀ o_, (W4.alloc o_).cell? ⟨g4, 0, none⟩ = some (.pointer (some ⟨b, 0, none⟩)) := fun o_ => (blk_cell (blk_alloc m4 o_) 0).trans rfl
   have c5_0 : ∀ o_, (W4.alloc o_).cell? ⟨g5, 0, none⟩ = some (.int .i64 X.f0.f0) := fun o_ => (blk_cell (blk_alloc m5 o_) 0).trans rfl
   have c5_1 : ∀ o_, (W4.alloc o_).cell? ⟨g5, 1, none⟩ = some (.int .i64 X.f0.f1) := fun o_ => (blk_cell (blk_alloc m5 o_) 1).trans rfl
   have c5_2 : ∀ o_, (W4.alloc o_).cell? ⟨g5, 2, none⟩ = some (.int .i64 X.f1.f0) := fun o_ => (blk_cell (blk_alloc m5 o_) 2).trans rfl
   have c5_3 : ∀ o_, (W4.alloc o_).cell? ⟨g5, 3, none⟩ = some (.int .i64 X.f1.f1) := fun o_ => (blk_cell (blk_alloc m5 o_) 3).trans rfl
   have c6_0 : ∀ o_, (W4.alloc o_).cell? ⟨g6, 0, none⟩ = some (.int .i64 T) := fun o_ => (blk_cell (blk_alloc m6 o_) 0).trans rfl
   gi_wp2_with fail
   clear c4_0 c5_0 c5_1 c5_2 c5_3 c6_0
   replace HO : Kd.R k29 29 W4 w.heap.size (fun q => q ≠ g5 ∧ q ≠ W4.heap.size) v_ out := Kd.R_mono (Kd.R_bound HO) (fun q hq => ⟨hq.1, by have := hq.2.2.1; omega⟩)
   replace HO := Kd.R_below HO (below_alloc (Below.refl W4.heap.size W4) (.cells #[.int .i64 A.f0.f0, .int .i64 A.f0.f1, .int .i64 A.f1.f0, .int .i64 A.f1.f1] 29))
   replace hM := hM.below (below_alloc (Below.refl W4.heap.size W4) (.cells #[.int .i64 A.f0.f0, .int .i64 A.f0.f1, .int .i64 A.f1.f0, .int .i64 A.f1.f1] 29))
   have hl_4 := blk_lt m4
   have hl_5 := blk_lt m5
   have hl_6 := blk_lt m6
   have hl_11 := blk_lt m11
   have m13 : Blk (W4.alloc (.cells #[.int .i64 A.f0.f0, .int .i64 A.f0.f1, .int .i64 A.f1.f0, .int .i64 A.f1.f1] 29)) (W4.heap.size) #[.int .i64 A.f0.f0, .int .i64 A.f0.f1, .int .i64 A.f1.f0, .int .i64 A.f1.f1] 29 := (by have h_ := blk_new W4 (.cells #[.int .i64 A.f0.f0, .int .i64 A.f0.f1, .int .i64 A.f1.f0, .int .i64 A.f1.f1] 29); first | exact h_ | (simp only [World.size_alloc] at h_; exact h_))
   replace m4 : Blk (W4.alloc (.cells #[.int .i64 A.f0.f0, .int .i64 A.f0.f1, .int .i64 A.f1.f0, .int .i64 A.f1.f1] 29)) g4 #[.pointer (some ⟨b, 0, none⟩)] 118 := (blk_alloc m4 _)
   replace m5 : Blk (W4.alloc (.cells #[.int .i64 A.f0.f0, .int .i64 A.f0.f1, .int .i64 A.f1.f0, .int .i64 A.f1.f1] 29)) g5 #[.int .i64 X.f0.f0, .int .i64 X.f0.f1, .int .i64 X.f1.f0, .int .i64 X.f1.f1] 29 := (blk_alloc m5 _)
   replace m6 : Blk (W4.alloc (.cells #[.int .i64 A.f0.f0, .int .i64 A.f0.f1, .int .i64 A.f1.f0, .int .i64 A.f1.f1] 29)) g6 #[.int .i64 T] 2 := (blk_alloc m6 _)
   replace m11 : Blk (W4.alloc (.cells #[.int .i64 A.f0.f0, .int .i64 A.f0.f1, .int .i64 A.f1.f0, .int .i64 A.f1.f1] 29)) g11 #[.int .i64 G.f0.f0, .int .i64 G.f0.f1, .int .i64 G.f1.f0, .int .i64 G.f1.f1] 29 := (blk_alloc m11 _)
   replace mB : Below w.heap.size w (W4.alloc (.cells #[.int .i64 A.f0.f0, .int .i64 A.f0.f1, .int .i64 A.f1.f0, .int .i64 A.f1.f1] 29)) := (below_alloc mB _)
   have hsz_ : w.heap.size ≤ W4.heap.size := hs_W4
   generalize hW_ : (W4.alloc (.cells #[.int .i64 A.f0.f0, .int .i64 A.f0.f1, .int .i64 A.f1.f0, .int .i64 A.f1.f1] 29)) = W5 at m4 m5 m6 m11 m13 mB HO hM ⊢
   clear hW_
   generalize hg13 : W4.heap.size = g13 at m13 HO ⊢
   have hn_4_13 : g4 ≠ g13 := by omega
   have hn_5_13 : g5 ≠ g13 := by omega
   have hn_6_13 : g6 ≠ g13 := by omega
   have hn_11_13 : g11 ≠ g13 := by omega
   have hn_13_4 : g13 ≠ g4 := hn_4_13.symm
   have hn_13_5 : g13 ≠ g5 := hn_5_13.symm
   have hn_13_6 : g13 ≠ g6 := hn_6_13.symm
   have hn_13_11 : g13 ≠ g11 := hn_11_13.symm
   have hG13 : w.heap.size ≤ g13 := by omega
   clear hsz_ hl_4 hl_5 hl_6 hl_11
   try clear hg13
   have hs_W5 : w.heap.size ≤ W5.heap.size := mB.size
   have hcon := courses_any b W5
   refine ⟨trivial, (callsIn_wide.2 hcon).mono ?_⟩
   clear hcon
   rintro e _ ⟨rfl, rfl⟩
   gi_wp2_with fail
   replace HO := Kd.R_below HO (below_alloc (Below.refl W5.heap.size W5) (.cells #[.pointer (some ⟨b, 0, none⟩)] 118))
   replace hM := hM.below (below_alloc (Below.refl W5.heap.size W5) (.cells #[.pointer (some ⟨b, 0, none⟩)] 118))
   have hl_4 := blk_lt m4
   have hl_5 := blk_lt m5
   have hl_6 := blk_lt m6
   have hl_11 := blk_lt m11
   have hl_13 := blk_lt m13
   have mP : Blk (W5.alloc (.cells #[.pointer (some ⟨b, 0, none⟩)] 118)) (W5.heap.size) #[.pointer (some ⟨b, 0, none⟩)] 118 := (by have h_ := blk_new W5 (.cells #[.pointer (some ⟨b, 0, none⟩)] 118); first | exact h_ | (simp only [World.size_alloc] at h_; exact h_))
   replace m4 : Blk (W5.alloc (.cells #[.pointer (some ⟨b, 0, none⟩)] 118)) g4 #[.pointer (some ⟨b, 0, none⟩)] 118 := (blk_alloc m4 _)
   replace m5 : Blk (W5.alloc (.cells #[.pointer (some ⟨b, 0, none⟩)] 118)) g5 #[.int .i64 X.f0.f0, .int .i64 X.f0.f1, .int .i64 X.f1.f0, .int .i64 X.f1.f1] 29 := (blk_alloc m5 _)
   replace m6 : Blk (W5.alloc (.cells #[.pointer (some ⟨b, 0, none⟩)] 118)) g6 #[.int .i64 T] 2 := (blk_alloc m6 _)
   replace m11 : Blk (W5.alloc (.cells #[.pointer (some ⟨b, 0, none⟩)] 118)) g11 #[.int .i64 G.f0.f0, .int .i64 G.f0.f1, .int .i64 G.f1.f0, .int .i64 G.f1.f1] 29 := (blk_alloc m11 _)
   replace m13 : Blk (W5.alloc (.cells #[.pointer (some ⟨b, 0, none⟩)] 118)) g13 #[.int .i64 A.f0.f0, .int .i64 A.f0.f1, .int .i64 A.f1.f0, .int .i64 A.f1.f1] 29 := (blk_alloc m13 _)
   replace mB : Below w.heap.size w (W5.alloc (.cells #[.pointer (some ⟨b, 0, none⟩)] 118)) := (below_alloc mB _)
   have hsz_ : w.heap.size ≤ W5.heap.size := hs_W5
   generalize hW_ : (W5.alloc (.cells #[.pointer (some ⟨b, 0, none⟩)] 118)) = W0 at m4 m5 m6 m11 m13 mP mB HO hM ⊢
   clear hW_
   generalize hgP : W5.heap.size = gP at mP ⊢
   have hn_4_P : g4 ≠ gP := by omega
   have hn_5_P : g5 ≠ gP := by omega
   have hn_6_P : g6 ≠ gP := by omega
   have hn_11_P : g11 ≠ gP := by omega
   have hn_13_P : g13 ≠ gP := by omega
   have hn_P_4 : gP ≠ g4 := hn_4_P.symm
   have hn_P_5 : gP ≠ g5 := hn_5_P.symm
   have hn_P_6 : gP ≠ g6 := hn_6_P.symm
   have hn_P_11 : gP ≠ g11 := hn_11_P.symm
   have hn_P_13 : gP ≠ g13 := hn_13_P.symm
   have hGP : w.heap.size ≤ gP := by omega
   clear hsz_ hl_4 hl_5 hl_6 hl_11 hl_13
   try clear hgP
   have hs_W0 : w.heap.size ≤ W0.heap.size := mB.size
   skip
   have hDs : ∀ D_ ∈ Ds, D_ < W0.heap.size := fun D_ h => (Array.getElem?_eq_some_iff.1 (hM.2 D_ h).2).1
   have HN : Hid (g4 ≠ g13 ∧ g5 ≠ g13 ∧ g6 ≠ g13 ∧ g11 ≠ g13 ∧ gP ≠ g13 ∧ g5 ≠ g6 ∧ g6 ≠ g5 ∧ g4 ≠ g5 ∧ g4 ≠ g6) := Lib.hid ⟨hn_4_13, hn_5_13, hn_6_13, hn_11_13, hn_P_13, hn_5_6, hn_6_5, hn_4_5, hn_4_6⟩
   try clear hn_4_5 hn_4_6 hn_4_11 hn_4_13
   try clear hn_4_P
   try clear hn_5_4 hn_5_6 hn_5_11 hn_5_13
   try clear hn_5_P
   try clear hn_6_4 hn_6_5 hn_6_11 hn_6_13
   try clear hn_6_P
   try clear hn_11_4 hn_11_5 hn_11_6 hn_11_13
   try clear hn_11_P
   try clear hn_13_4 hn_13_5 hn_13_6 hn_13_11
   try clear hn_13_P
   try clear hn_P_4 hn_P_5 hn_P_6 hn_P_11 hn_P_13
   refine wpIn_rangeFunc_ownH rfl (by omega) (gf := 167) (lb := #[.pointer (some ⟨gP, 0, none⟩)]) rfl trivial (enters_of Try.func167 zq3 rfl)
    (encs := fun c : CrsN s => #[.agg #[.int .i64 c.1.f0, .int .i64 c.1.f1]]) (Kp := KpC w gP b) (S := AllC s) (Sp := PreC s) (N := (crsL s).length) (w0 := W0)
    (fun l J Jx X_ hW hJ _ hY h0 => courses1_in 6 (by omega) l gP b s v (EnvC w gP b) (fun W h => ⟨hT.below h.1, h.2⟩) hS.n (KpC w gP b) (fun A B h hE => ⟨hE.1.trans h.1, h.2 hE.2⟩) J Jx hY X_ ⟨below_step mB hW, Blk.belowH mP hW⟩ h0) KpC.trans (KpC.put hs_W0 (blk_lt mP)) (Below.refl _ _) (fun _ => rfl)
    (fun pre W => Blk W g4 #[.pointer (some ⟨b, 0, none⟩)] 118 ∧ Blk W g5 #[.int .i64 X.f0.f0, .int .i64 X.f0.f1, .int .i64 X.f1.f0, .int .i64 X.f1.f1] 29 ∧ Blk W g6 #[.int .i64 T] 2 ∧ Blk W g11 #[.int .i64 G.f0.f0, .int .i64 G.f0.f1, .int .i64 G.f1.f0, .int .i64 G.f1.f1] 29 ∧ Blk W g13 #[.int .i64 (hullP s v X G T A (pre.map Subtype.val)).f0.f0, .int .i64 (hullP s v X G T A (pre.map Subtype.val)).f0.f1, .int .i64 (hullP s v X G T A (pre.map Subtype.val)).f1.f0, .int .i64 (hullP s v X G T A (pre.map Subtype.val)).f1.f1] 29 ∧ Kd.R k29 29 W w.heap.size (fun q => q ≠ g5 ∧ q ≠ g13) v_ out ∧ Marks W w.heap.size Ds ∧ Below w.heap.size w W)
    (fun c pre W => False)
    (OwnFrom.and (blk_ownFrom _ _ (fun _ => _) _) (OwnFrom.and (blk_ownFrom _ _ (fun _ => _) _) (OwnFrom.and (blk_ownFrom _ _ (fun _ => _) _) (OwnFrom.and (blk_ownFrom _ _ (fun _ => _) _) (OwnFrom.and (blk_ownFrom _ _ (fun pre : List (CrsN s) => #[.int .i64 (hullP s v X G T A (pre.map Subtype.val)).f0.f0, .int .i64 (hullP s v X G T A (pre.map Subtype.val)).f0.f1, .int .i64 (hullP s v X G T A (pre.map Subtype.val)).f1.f0, .int .i64 (hullP s v X G T A (pre.map Subtype.val)).f1.f1]) _) (OwnFrom.and (R_ownFrom _ _ _ _ _ _ _) (OwnFrom.and (marks_ownFrom _ _ Ds hDs) (ownFrom_below (by omega) (by omega)))))))))
    (fun c pre X Y row hs hg hr => hs)
    ⟨m4, m5, m6, m11, m13, HO, hM, mB⟩
    (fun c a' W => ∃ (g14 : Nat) (u_ : Nat → Value), a' = { tmps := #[(u_ 0), (u_ 1), (u_ 2), (u_ 3), .pointer (some ⟨g4, 0, none⟩), .pointer (some ⟨g5, 0, none⟩), .pointer (some ⟨g6, 0, none⟩), (u_ 7), (u_ 8), (u_ 9), (u_ 10), .pointer (some ⟨g11, 0, none⟩), (u_ 12), .pointer (some ⟨g13, 0, none⟩), .pointer (some ⟨g14, 0, none⟩), (u_ 15), (u_ 16), (u_ 17), (u_ 18), (u_ 19), (u_ 20), (u_ 21), (u_ 22), (u_ 23), (u_ 24), (u_ 25), (u_ 26), (u_ 27), (u_ 28), (u_ 29), (u_ 30), (u_ 31), (u_ 32), (u_ 33), (u_ 34), (u_ 35), (u_ 36), (u_ 37), (u_ 38), (u_ 39), (u_ 40), (u_ 41), (u_ 42), (u_ 43), (u_ 44), (u_ 45), (u_ 46), (u_ 47), (u_ 48), (u_ 49), (u_ 50), (u_ 51), (u_ 52), (u_ 53), (u_ 54), (u_ 55), (u_ 56), (u_ 57), (u_ 58)], defers := [] } ∧ Blk W g14 #[.int .i64 c.1.f0, .int .i64 c.1.f1] 76)
    (fun c a' s X Y row hs hg hr => by obtain ⟨g14, u_, h1, h2⟩ := hs; exact ⟨g14, u_, h1, blk_grownO h2 hg hr⟩) ?assign ?body ?done ?stop
   case assign =>
    rintro l pre c X_ K ⟨m4, m5, m6, m11, m13, HO, hM, mB⟩ hK
    gi_wp2
    skip
    have hb := below_alloc (Below.refl X_.heap.size X_) (.cells #[.int .i64 c.1.f0, .int .i64 c.1.f1] 76)
    exact hK _ _ (keepsFrom_below hb) (KpC.below mB.size hb) ⟨blk_below m4 hb, blk_below m5 hb, blk_below m6 hb, blk_below m11 hb, blk_below m13 hb, Kd.R_below HO hb, hM.below hb, below_step mB hb⟩ ⟨X_.heap.size, (fun k_ => (#[(u_ 0), (u_ 1), (u_ 2), (u_ 3), .pointer (some ⟨g4, 0, none⟩), .pointer (some ⟨g5, 0, none⟩), .pointer (some ⟨g6, 0, none⟩), (u_ 7), (u_ 8), (u_ 9), v_, .pointer (some ⟨g11, 0, none⟩), .int .i64 0, .pointer (some ⟨g13, 0, none⟩), .pointer (some ⟨X_.heap.size, 0, none⟩), .int .i64 (n : Int), .int .i64 (k : Int), .bool true, .tuple #[.agg #[.int .i64 G.f0.f0, .int .i64 G.f0.f1, .int .i64 G.f1.f0, .int .i64 G.f1.f1], .int .i64 0], .pointer (some ⟨b, 0, none⟩), .agg #[.int .i64 X.f0.f0, .int .i64 X.f0.f1, .int .i64 X.f1.f0, .int .i64 X.f1.f1], .int .i64 T, .tuple #[.agg #[.int .i64 G.f0.f0, .int .i64 G.f0.f1, .int .i64 G.f1.f0, .int .i64 G.f1.f1], .int .i64 0], .agg #[.int .i64 G.f0.f0, .int .i64 G.f0.f1, .int .i64 G.f1.f0, .int .i64 G.f1.f1], .int .i64 0, .int .i64 0, .bool false, (u_ 27), .pointer (some ⟨b, 0, none⟩), .agg #[.int .i64 X.f0.f0, .int .i64 X.f0.f1, .int .i64 X.f1.f0, .int .i64 X.f1.f1], .agg #[.int .i64 G.f0.f0, .int .i64 G.f0.f1, .int .i64 G.f1.f0, .int .i64 G.f1.f1], .int .i64 T, .agg #[.int .i64 0, .int .i64 0], .agg #[.int .i64 A.f0.f0, .int .i64 A.f0.f1, .int .i64 A.f1.f0, .int .i64 A.f1.f1], .pointer (some ⟨b, 0, none⟩), .func (.func 167) #[] #[.pointer (some ⟨gP, 0, none⟩)], .agg #[.int .i64 c.1.f0, .int .i64 c.1.f1], (u_ 37), (u_ 38), (u_ 39), (u_ 40), (u_ 41), (u_ 42), (u_ 43), (u_ 44), (u_ 45), (u_ 46), (u_ 47), (u_ 48), (u_ 49), (u_ 50), (u_ 51), (u_ 52), (u_ 53), (u_ 54), (u_ 55), (u_ 56), (u_ 57), (u_ 58)] : Array Value).getD k_ undef), rfl, blk_new _ _⟩
   case stop =>
    rintro D_ c pre X_ hD hp h hK
    exact h.elim
   case body =>
    skip
    rintro l pre c a_ X_ hlW ⟨r, hr⟩ ⟨m4, m5, m6, m11, m13, HO, hM, mB⟩ ⟨g14, u_, rfl, m14⟩ hlen
    have hXs : W0.heap.size ≤ X_.heap.size := Nat.le_trans hlW (Nat.le_of_lt (blk_lt hr))
    clear hr
    have hN : Below X_.heap.size X_ X_ := Below.refl _ _
    have hmap : (hullP s v X G T A ((pre ++ [c]).map Subtype.val)) = hullB (hullP s v X G T A (pre.map Subtype.val)) (endsI s v X G T c.1.f0 c.1.f1) := by rw [List.map_append, List.map_singleton, hullP_snoc]
    have HM := Lib.hid hmap
    clear hmap
    have kEc := fun W (h : TripAt W b s v) => kE W c.1.f0 c.1.f1 h c.2.1.1 c.2.1.2 c.2.2.1 c.2.2.2
    clear kE
    generalize endsI s v X G T c.1.f0 c.1.f1 = E at *
    generalize (hullP s v X G T A (pre.map Subtype.val)) = P at *
    have kH := fun W => hull_any P E W
    generalize hullB P E = Y at *
    obtain ⟨⟨c0, c1⟩, c2⟩ := c
    dsimp only at m14
    replace m4 := blk_drew m4
    replace m5 := blk_drew m5
    replace m6 := blk_drew m6
    replace m11 := blk_drew m11
    replace m13 := blk_drew m13
    replace m14 := blk_drew m14
    replace mB := below_drew1 mB
    replace HO := Kd.R_below HO (below_drew1 (Below.refl X_.heap.size X_))
    replace hM := hM.below (below_drew1 (Below.refl _ X_))
    replace hN := below_drew1 hN
    have hmx : Try.prog.follows .mixedOrders = true := by kernel_rfl
    gi_wp2_with fail
    skip
    refine startIn_ (m := 9) (S := fun w' => w'.cell? ⟨g4, 0, none⟩ = some (.pointer (some ⟨b, 0, none⟩)) ∧ w'.cell? ⟨g5, 0, none⟩ = some (.int .i64 X.f0.f0) ∧ w'.cell? ⟨g5, 1, none⟩ = some (.int .i64 X.f0.f1) ∧ w'.cell? ⟨g5, 2, none⟩ = some (.int .i64 X.f1.f0) ∧ w'.cell? ⟨g5, 3, none⟩ = some (.int .i64 X.f1.f1) ∧ w'.cell? ⟨g6, 0, none⟩ = some (.int .i64 T) ∧ w'.cell? ⟨g11, 0, none⟩ = some (.int .i64 G.f0.f0) ∧ w'.cell? ⟨g11, 1, none⟩ = some (.int .i64 G.f0.f1) ∧ w'.cell? ⟨g11, 2, none⟩ = some (.int .i64 G.f1.f0) ∧ w'.cell? ⟨g11, 3, none⟩ = some (.int .i64 G.f1.f1) ∧ w'.cell? ⟨g13, 0, none⟩ = some (.int .i64 P.f0.f0) ∧ w'.cell? ⟨g13, 1, none⟩ = some (.int .i64 P.f0.f1) ∧ w'.cell? ⟨g13, 2, none⟩ = some (.int .i64 P.f1.f0) ∧ w'.cell? ⟨g13, 3, none⟩ = some (.int .i64 P.f1.f1) ∧ w'.cell? ⟨g14, 0, none⟩ = some (.int .i64 c0) ∧ w'.cell? ⟨g14, 1, none⟩ = some (.int .i64 c1)) (ds := [8]) #[false, false, false, false, false, false, false, false, false] zq3 (letsOut_inBlock letsOut_ownG) zq3 rfl rfl ⟨((blk_cell m4 0).trans rfl), ((blk_cell m5 0).trans rfl), ((blk_cell m5 1).trans rfl), ((blk_cell m5 2).trans rfl), ((blk_cell m5 3).trans rfl), ((blk_cell m6 0).trans rfl), ((blk_cell m11 0).trans rfl), ((blk_cell m11 1).trans rfl), ((blk_cell m11 2).trans rfl), ((blk_cell m11 3).trans rfl), ((blk_cell m13 0).trans rfl), ((blk_cell m13 1).trans rfl), ((blk_cell m13 2).trans rfl), ((blk_cell m13 3).trans rfl), ((blk_cell m14 0).trans rfl), ((blk_cell m14 1).trans rfl)⟩ (fun hHeld => ?_)
    generalize hWd : World.drew _ = Wx at m4 m5 m6 m11 m13 m14 HO hM hN mB hHeld ⊢
    clear hWd
    refine ztz (i := 0) (N := some 37) zq3 hHeld ?_
    refine ztz (i := 1) (N := some 38) zq3 hHeld ?_
    refine ztz (i := 2) (N := some 39) zq3 hHeld ?_
    refine ztz (i := 3) (N := some 40) zq3 hHeld ?_
    refine ztz (i := 4) (N := some 41) zq3 hHeld ?_
    refine ztz (i := 5) (N := some 42) zq3 hHeld ?_
    refine one_ (i := 6) (N := some 43) #[true, true, true, true, true, true, true, false, false] rfl rfl zq3 (by decide) (fun K hK => ?_)
    have hcon_ := kEc Wx (hT.below mB)
    refine goes_ Try.func135 zq3 rfl #[.pointer (some ⟨b, 0, none⟩), .agg #[.int .i64 X.f0.f0, .int .i64 X.f0.f1, .int .i64 X.f1.f0, .int .i64 X.f1.f1], .agg #[.int .i64 G.f0.f0, .int .i64 G.f0.f1, .int .i64 G.f1.f0, .int .i64 G.f1.f1], .int .i64 T, .agg #[.int .i64 c0, .int .i64 c1]] (by rfl) rfl rfl zq24 ?_
    with_reducible refine (hcon_).mono ?_
    rintro e w6 ⟨rfl, hb⟩
    refine ⟨_, rfl, ?_⟩
    clear hcon_
    replace HO := Kd.R_below HO hb
    replace hM := hM.below hb
    replace hN := below_step hN hb
    replace m4 := blk_below m4 hb
    replace m5 := blk_below m5 hb
    replace m6 := blk_below m6 hb
    replace m11 := blk_below m11 hb
    replace m13 := blk_below m13 hb
    replace m14 := blk_below m14 hb
    replace mB := below_step mB hb
    clear hb
    refine hK.out _ _ ⟨((blk_cell m4 0).trans rfl), ((blk_cell m5 0).trans rfl), ((blk_cell m5 1).trans rfl), ((blk_cell m5 2).trans rfl), ((blk_cell m5 3).trans rfl), ((blk_cell m6 0).trans rfl), ((blk_cell m11 0).trans rfl), ((blk_cell m11 1).trans rfl), ((blk_cell m11 2).trans rfl), ((blk_cell m11 3).trans rfl), ((blk_cell m13 0).trans rfl), ((blk_cell m13 1).trans rfl), ((blk_cell m13 2).trans rfl), ((blk_cell m13 3).trans rfl), ((blk_cell m14 0).trans rfl), ((blk_cell m14 1).trans rfl)⟩ (fun hHeld => ?_)
    clear hK K
    refine norm_ zq33 ?_
    refine one_ (i := 7) (N := some 44) #[true, true, true, true, true, true, true, true, false] rfl rfl zq3 (by decide) (fun K hK => ?_)
    have hcon_ := kH w6
    refine goes_ Try.func114 zq3 rfl #[.agg #[.int .i64 P.f0.f0, .int .i64 P.f0.f1, .int .i64 P.f1.f0, .int .i64 P.f1.f1], .agg #[.int .i64 E.f0.f0, .int .i64 E.f0.f1, .int .i64 E.f1.f0, .int .i64 E.f1.f1]] (by rfl) rfl rfl zq24 ?_
    with_reducible refine (hcon_).mono ?_
    rintro e w7 ⟨rfl, hb⟩
    refine ⟨_, rfl, ?_⟩
    clear hcon_
    replace HO := Kd.R_below HO hb
    replace hM := hM.below hb
    replace hN := below_step hN hb
    replace m4 := blk_below m4 hb
    replace m5 := blk_below m5 hb
    replace m6 := blk_below m6 hb
    replace m11 := blk_below m11 hb
    replace m13 := blk_below m13 hb
    replace m14 := blk_below m14 hb
    replace mB := below_step mB hb
    clear hb
    refine hK.out _ _ ⟨((blk_cell m4 0).trans rfl), ((blk_cell m5 0).trans rfl), ((blk_cell m5 1).trans rfl), ((blk_cell m5 2).trans rfl), ((blk_cell m5 3).trans rfl), ((blk_cell m6 0).trans rfl), ((blk_cell m11 0).trans rfl), ((blk_cell m11 1).trans rfl), ((blk_cell m11 2).trans rfl), ((blk_cell m11 3).trans rfl), ((blk_cell m13 0).trans rfl), ((blk_cell m13 1).trans rfl), ((blk_cell m13 2).trans rfl), ((blk_cell m13 3).trans rfl), ((blk_cell m14 0).trans rfl), ((blk_cell m14 1).trans rfl)⟩ (fun hHeld => ?_)
    clear hK K
    refine norm_ (by show Act.put _ (some 44) _ = _; simp only [Act.put, List.setIfInBounds_toArray, List.set_cons_zero, List.set_cons_succ, i64_w, i32_w]; rfl) ?_
    refine last_ (i := 8) (N := none) #[true, true, true, true, true, true, true, true, true] rfl rfl zq3 (by decide) (fun K hK => ?_)
    have hf0_ := blk_frozen m13 0
    have hf1_ := blk_frozen m13 1
    have hf2_ := blk_frozen m13 2
    have hf3_ := blk_frozen m13 3
    have hc0_ := (blk_cell m13 0).trans rfl
    have hc1_ := (blk_cell m13 1).trans rfl
    have hc2_ := (blk_cell m13 2).trans rfl
    have hc3_ := (blk_cell m13 3).trans rfl
    refine skip_ (w1 := ?_) (by rfl) rfl ?_ ?_
    rotate_left
    ·go_simp
     rfl
    refine hK.out _ _ ?_
    clear hK K
    refine done_ zq3 ?_
    skip
    obtain ⟨hn_4_13, hn_5_13, hn_6_13, hn_11_13, hn_P_13, hn_5_6, hn_6_5, hn_4_5, hn_4_6⟩ := HN.out
    refine ⟨(keepsFrom_below hN).trans (((((KeepsOthers.setCell _ _ _).trans (KeepsOthers.setCell _ _ _)).trans (KeepsOthers.setCell _ _ _)).trans (KeepsOthers.setCell _ _ _)).from _), (KpC.set (p := ⟨g13, 3, none⟩) (KpC.set (p := ⟨g13, 2, none⟩) (KpC.set (p := ⟨g13, 1, none⟩) (KpC.set (p := ⟨g13, 0, none⟩) (KpC.below (Nat.le_trans hs_W0 hXs) hN) hG13 hn_P_13 _) hG13 hn_P_13 _) hG13 hn_P_13 _) hG13 hn_P_13 _), ?_⟩
    dsimp only
    rw [HM.out]
    exact ⟨(blk_far (p := ⟨g13, 3, none⟩) (blk_far (p := ⟨g13, 2, none⟩) (blk_far (p := ⟨g13, 1, none⟩) (blk_far (p := ⟨g13, 0, none⟩) m4 hn_4_13 _) hn_4_13 _) hn_4_13 _) hn_4_13 _), (blk_far (p := ⟨g13, 3, none⟩) (blk_far (p := ⟨g13, 2, none⟩) (blk_far (p := ⟨g13, 1, none⟩) (blk_far (p := ⟨g13, 0, none⟩) m5 hn_5_13 _) hn_5_13 _) hn_5_13 _) hn_5_13 _), (blk_far (p := ⟨g13, 3, none⟩) (blk_far (p := ⟨g13, 2, none⟩) (blk_far (p := ⟨g13, 1, none⟩) (blk_far (p := ⟨g13, 0, none⟩) m6 hn_6_13 _) hn_6_13 _) hn_6_13 _) hn_6_13 _), (blk_far (p := ⟨g13, 3, none⟩) (blk_far (p := ⟨g13, 2, none⟩) (blk_far (p := ⟨g13, 1, none⟩) (blk_far (p := ⟨g13, 0, none⟩) m11 hn_11_13 _) hn_11_13 _) hn_11_13 _) hn_11_13 _), (blk_put (blk_put (blk_put (blk_put m13 0 _ rfl) 1 _ rfl) 2 _ rfl) 3 _ rfl), (Kd.R_far (p := ⟨g13, 3, none⟩) (Kd.R_far (p := ⟨g13, 2, none⟩) (Kd.R_far (p := ⟨g13, 1, none⟩) (Kd.R_far (p := ⟨g13, 0, none⟩) HO (fun _ hk => hk.2) _) (fun _ hk => hk.2) _) (fun _ hk => hk.2) _) (fun _ hk => hk.2) _), (Marks.set (Marks.set (Marks.set (Marks.set hM m13 (i := 0) _) (blk_put m13 0 _ rfl) (i := 1) _) (blk_put (blk_put m13 0 _ rfl) 1 _ rfl) (i := 2) _) (blk_put (blk_put (blk_put m13 0 _ rfl) 1 _ rfl) 2 _ rfl) (i := 3) _), (Below.setCell (p := ⟨g13, 3, none⟩) (Below.setCell (p := ⟨g13, 2, none⟩) (Below.setCell (p := ⟨g13, 1, none⟩) (Below.setCell (p := ⟨g13, 0, none⟩) mB hG13 _) hG13 _) hG13 _) hG13 _)⟩
   case done =>
    rintro D_ xs X_ hD hxs ⟨m4, m5, m6, m11, m13, HO, hM, mB⟩ hK
    skip
    clear kE
    have hHx : hullP s v X G T A (xs.map Subtype.val) = H := by rw [show xs.map Subtype.val = crsL s from hxs]; exact HST.out.symm
    rw [hHx] at m13
    clear hHx HST hxs
    have hM2 := hM.cons (fun h => absurd (hDs D_ h) (Nat.not_lt.2 hD)) (Nat.le_trans hs_W0 hD) hK
    clear hM hK
    have hs_X : w.heap.size ≤ X_.heap.size := mB.size
    dsimp only [Exit.inBlock, Exit.then]
    apply_assumption
    refine wpIn_only (wpIn_wide.2 ?_)
    skip
    have hne4 := Kd.R_ne HO m4 (by decide)
    have hne6 := Kd.R_ne HO m6 (by decide)
    have hne5 : some g5 ≠ v_.ownBlock := fun h => (HO.1 g5 h.symm).1 rfl
    have hne13 : some g13 ≠ v_.ownBlock := fun h => (HO.1 g13 h.symm).2 rfl
    have hneD : ∀ E ∈ D_ :: Ds, some E ≠ v_.ownBlock := fun E hE h => by obtain ⟨_, hc⟩ := Kd.R_typed HO _ h.symm; rw [(hM2.2 E hE).2] at hc; cases hc
    have hol2 : Hid ((out.length + 1) * 32 ≤ 140737488355328) := Lib.hid (by have := HQ.out.1; omega)
    have hlt5 := blk_lt m5
    have hlt13 := blk_lt m13
    obtain ⟨c13_0, c13_1, c13_2, c13_3⟩ := zcs4 m13
    go_wp2_with (first | ((with_reducible refine gate_builtin (b := .append) (xs := #[.tmp 45, .tmp 47]) rfl ?_); (try (refine gate_guard (by rfl) ?_; dsimp only)); at_builtin; go_loud (refine Kd.R_append k29 (w0 := w) w.heap.size rfl (.tmp 45) (.tmp 47) 45 29 (.agg #[.int .i64 0, .int .i64 0, .int .i64 0, .int .i64 0]) 32 rfl Try.underlying45 info29 rfl (by decide) (by decide) v_ out H [.int .i64 H.f0.f0, .int .i64 H.f0.f1, .int .i64 H.f1.f0, .int .i64 H.f1.f1] (fun q => q ≠ g5 ∧ q ≠ g13) (fun _ => False) rfl (by first | rfl | (go_simp; done) | (go_simp; rfl)) ?aP (fun _ hk => hk.elim) ?aF ?aO ?aB ?aS ?aL ?_); (case aP => exact k29_mkM _ _ _ H); (case aF => exact (fun q hq => by omega)); (case aO => exact HO); (case aB => exact mB); (case aS => exact mB.size); (case aL => exact hol2.out); intro v1 w1 HO1 hB1 hgr hat))
    skip
    clear c13_0 c13_1 c13_2 c13_3
    replace m4 := blk_grown m4 hgr hne4
    replace m5 := blk_grown m5 hgr hne5
    replace m6 := blk_grown m6 hgr hne6
    replace m13 := blk_grown m13 hgr hne13
    replace hM2 := Marks.grown hM2 hgr hneD
    clear hgr hat HO hne4 hne5 hne6 hne13 hneD mB hol2 hlt5 hlt13 m11
    have mB := hB1
    clear hB1
    replace HO1 := Kd.R_types HO1 m6 (by decide)
    obtain ⟨A7, c7, A8, c8, mT, _⟩ := hT.below mB
    obtain ⟨hn_4_13, hn_5_13, hn_6_13, hn_11_13, hn_P_13, hn_5_6, hn_6_5, hn_4_5, hn_4_6⟩ := HN.out
    have hn_13_5 := hn_5_13.symm
    have hbn5 : b ≠ g5 := by have h_ := hT; obtain ⟨_, _, _, _, h_, _⟩ := h_; have h2_ := (Array.getElem?_eq_some_iff.1 h_).1; omega
    have hbn6 : b ≠ g6 := by have h_ := hT; obtain ⟨_, _, _, _, h_, _⟩ := h_; have h2_ := (Array.getElem?_eq_some_iff.1 h_).1; omega
    replace m4 := blk_drew m4
    replace m5 := blk_drew m5
    replace m6 := blk_drew m6
    replace m13 := blk_drew m13
    replace mT := blk_drew mT
    replace mB := below_drew1 mB
    replace HO1 := Kd.R_below HO1 (below_drew1 (Below.refl w1.heap.size w1))
    replace hM2 := hM2.below (below_drew1 (Below.refl _ w1))
    refine start_ (n := 10) (S := fun w' => w'.cell? ⟨g13, 0, none⟩ = some (.int .i64 H.f0.f0) ∧ w'.cell? ⟨g13, 1, none⟩ = some (.int .i64 H.f0.f1) ∧ w'.cell? ⟨g13, 2, none⟩ = some (.int .i64 H.f1.f0) ∧ w'.cell? ⟨g13, 3, none⟩ = some (.int .i64 H.f1.f1) ∧ w'.cell? ⟨g6, 0, none⟩ = some (.int .i64 T) ∧ w'.cell? ⟨g4, 0, none⟩ = some (.pointer (some ⟨b, 0, none⟩)) ∧ w'.cell? ⟨b, 10, none⟩ = some (.int .i64 v.dive)) (ds := [9]) #[false, false, false, false, false, false, false, false, false, false] zq3 rfl rfl ⟨((blk_cell m13 0).trans rfl), ((blk_cell m13 1).trans rfl), ((blk_cell m13 2).trans rfl), ((blk_cell m13 3).trans rfl), ((blk_cell m6 0).trans rfl), ((blk_cell m4 0).trans rfl), ((blk_cell mT 10).trans rfl)⟩ (fun hHeld => ?_)
    generalize hWd : World.drew _ = Wx at m4 m5 m6 m13 mT HO1 hM2 mB hHeld ⊢
    clear hWd
    refine ztz (i := 0) (N := some 49) zq3 hHeld ?_
    refine ztz (i := 1) (N := some 50) zq3 hHeld ?_
    refine ztz (i := 2) (N := some 51) zq3 hHeld ?_
    refine zpz (i := 3) (N := some 52) zq3 ?_
    refine zpz (i := 4) (N := some 53) zq3 ?_
    refine zpz (i := 5) (N := some 54) zq3 ?_
    refine ztz (i := 6) (N := some 55) zq3 hHeld ?_
    refine zpz (i := 7) (N := some 56) zq3 ?_
    refine one_ (i := 8) (N := none) #[true, true, true, true, true, true, true, true, true, false] rfl rfl zq3 (by decide) (fun K hK => ?_)
    have hf0_ := blk_frozen m5 0
    have hf1_ := blk_frozen m5 1
    have hf2_ := blk_frozen m5 2
    have hf3_ := blk_frozen m5 3
    have hc0_ := (blk_cell m5 0).trans rfl
    have hc1_ := (blk_cell m5 1).trans rfl
    have hc2_ := (blk_cell m5 2).trans rfl
    have hc3_ := (blk_cell m5 3).trans rfl
    refine skip_ (w1 := ?_) (by rfl) rfl ?_ ?_
    rotate_left
    ·go_simp
     rfl
    clear hf0_ hc0_ hf1_ hc1_ hf2_ hc2_ hf3_ hc3_
    refine hK.out _ _ ⟨((blk_cell (blk_far (p := ⟨g5, 3, none⟩) (blk_far (p := ⟨g5, 2, none⟩) (blk_far (p := ⟨g5, 1, none⟩) (blk_far (p := ⟨g5, 0, none⟩) m13 hn_13_5 _) hn_13_5 _) hn_13_5 _) hn_13_5 _) 0).trans rfl), ((blk_cell (blk_far (p := ⟨g5, 3, none⟩) (blk_far (p := ⟨g5, 2, none⟩) (blk_far (p := ⟨g5, 1, none⟩) (blk_far (p := ⟨g5, 0, none⟩) m13 hn_13_5 _) hn_13_5 _) hn_13_5 _) hn_13_5 _) 1).trans rfl), ((blk_cell (blk_far (p := ⟨g5, 3, none⟩) (blk_far (p := ⟨g5, 2, none⟩) (blk_far (p := ⟨g5, 1, none⟩) (blk_far (p := ⟨g5, 0, none⟩) m13 hn_13_5 _) hn_13_5 _) hn_13_5 _) hn_13_5 _) 2).trans rfl), ((blk_cell (blk_far (p := ⟨g5, 3, none⟩) (blk_far (p := ⟨g5, 2, none⟩) (blk_far (p := ⟨g5, 1, none⟩) (blk_far (p := ⟨g5, 0, none⟩) m13 hn_13_5 _) hn_13_5 _) hn_13_5 _) hn_13_5 _) 3).trans rfl), ((blk_cell (blk_far (p := ⟨g5, 3, none⟩) (blk_far (p := ⟨g5, 2, none⟩) (blk_far (p := ⟨g5, 1, none⟩) (blk_far (p := ⟨g5, 0, none⟩) m6 hn_6_5 _) hn_6_5 _) hn_6_5 _) hn_6_5 _) 0).trans rfl), ((blk_cell (blk_far (p := ⟨g5, 3, none⟩) (blk_far (p := ⟨g5, 2, none⟩) (blk_far (p := ⟨g5, 1, none⟩) (blk_far (p := ⟨g5, 0, none⟩) m4 hn_4_5 _) hn_4_5 _) hn_4_5 _) hn_4_5 _) 0).trans rfl), ((blk_cell (blk_far (p := ⟨g5, 3, none⟩) (blk_far (p := ⟨g5, 2, none⟩) (blk_far (p := ⟨g5, 1, none⟩) (blk_far (p := ⟨g5, 0, none⟩) mT hbn5 _) hbn5 _) hbn5 _) hbn5 _) 10).trans rfl)⟩ (fun hHeld => ?_)
    clear hK K
    refine last_ (i := 9) (N := none) #[true, true, true, true, true, true, true, true, true, true] rfl rfl zq3 (by decide) (fun K hK => ?_)
    have hq_ := (blk_far (p := ⟨g5, 3, none⟩) (blk_far (p := ⟨g5, 2, none⟩) (blk_far (p := ⟨g5, 1, none⟩) (blk_far (p := ⟨g5, 0, none⟩) m6 hn_6_5 (.int .i64 H.f0.f0)) hn_6_5 (.int .i64 H.f0.f1)) hn_6_5 (.int .i64 H.f1.f0)) hn_6_5 (.int .i64 H.f1.f1))
    have hf0_ := blk_frozen hq_ 0
    have hc0_ := (blk_cell hq_ 0).trans rfl
    refine skip_ (w1 := ?_) (by rfl) rfl ?_ ?_
    rotate_left
    ·go_simp
     rfl
    refine hK.out _ _ ?_
    clear hK K
    refine done_ zq3 ?_
    skip
    refine onlyN_normal ?_
    gi_wp2
    skip
    have hq := HQ.out
    have hv := HDV.out
    have hwr : wrap64 (T + v.dive) = T + v.dive := by unfold wrap64; omega
    have hkw : ((k + 1 : Nat) : Int) = (k : Int) + 1 := by omega
    refine ⟨⟨k + 1, H, wrap64 (T + v.dive), out ++ [H], v1, D_ :: Ds, (fun k_ => (#[(u_ 0), (u_ 1), (u_ 2), (u_ 3), .pointer (some ⟨g4, 0, none⟩), .pointer (some ⟨g5, 0, none⟩), .pointer (some ⟨g6, 0, none⟩), (u_ 7), (u_ 8), (u_ 9), v1, .pointer (some ⟨g11, 0, none⟩), .int .i64 0, .pointer (some ⟨g13, 0, none⟩), (u_ 14), .int .i64 (n : Int), .int .i64 (((k + 1 : Nat)) : Int), .bool true, .tuple #[.agg #[.int .i64 G.f0.f0, .int .i64 G.f0.f1, .int .i64 G.f1.f0, .int .i64 G.f1.f1], .int .i64 0], .pointer (some ⟨b, 0, none⟩), .agg #[.int .i64 X.f0.f0, .int .i64 X.f0.f1, .int .i64 X.f1.f0, .int .i64 X.f1.f1], .int .i64 T, .tuple #[.agg #[.int .i64 G.f0.f0, .int .i64 G.f0.f1, .int .i64 G.f1.f0, .int .i64 G.f1.f1], .int .i64 0], .agg #[.int .i64 G.f0.f0, .int .i64 G.f0.f1, .int .i64 G.f1.f0, .int .i64 G.f1.f1], .int .i64 0, .int .i64 0, .bool false, (u_ 27), .pointer (some ⟨b, 0, none⟩), .agg #[.int .i64 X.f0.f0, .int .i64 X.f0.f1, .int .i64 X.f1.f0, .int .i64 X.f1.f1], .agg #[.int .i64 G.f0.f0, .int .i64 G.f0.f1, .int .i64 G.f1.f0, .int .i64 G.f1.f1], .int .i64 T, .agg #[.int .i64 0, .int .i64 0], .agg #[.int .i64 A.f0.f0, .int .i64 A.f0.f1, .int .i64 A.f1.f0, .int .i64 A.f1.f1], .pointer (some ⟨b, 0, none⟩), .func (.func 167) #[] #[.pointer (some ⟨gP, 0, none⟩)], (u_ 36), (u_ 37), (u_ 38), (u_ 39), (u_ 40), (u_ 41), (u_ 42), (u_ 43), (u_ 44), v_, .agg #[.int .i64 H.f0.f0, .int .i64 H.f0.f1, .int .i64 H.f1.f0, .int .i64 H.f1.f1], .slice (some ⟨X_.heap.size, 0, none⟩) 1 1, v1, .agg #[.int .i64 H.f0.f0, .int .i64 H.f0.f1, .int .i64 H.f1.f0, .int .i64 H.f1.f1], .int .i64 T, .pointer (some ⟨b, 0, none⟩), .pointer (some ⟨b, 0, none⟩), .pointer (some ⟨b, 9, none⟩), .pointer (some ⟨b, 10, none⟩), .int .i64 v.dive, .int .i64 (wrap64 (T + v.dive)), .int .i64 (((k + 1 : Nat)) : Int), (u_ 58)] : Array Value).getD k_ undef), ?fr, by omega, Lib.hid (by rw [hwr]; exact HR3.out), Lib.hid ⟨by rw [List.length_append]; simp; omega, HX2.out, by rw [hwr]; omega, by rw [hwr]; omega⟩, (Marks.set (Marks.set (Marks.set (Marks.set (Marks.set hM2 m5 (i := 0) _) (blk_put m5 0 (.int .i64 H.f0.f0) rfl) (i := 1) _) (blk_put (blk_put m5 0 (.int .i64 H.f0.f0) rfl) 1 (.int .i64 H.f0.f1) rfl) (i := 2) _) (blk_put (blk_put (blk_put m5 0 (.int .i64 H.f0.f0) rfl) 1 (.int .i64 H.f0.f1) rfl) 2 (.int .i64 H.f1.f0) rfl) (i := 3) _) (blk_far (p := ⟨g5, 3, none⟩) (blk_far (p := ⟨g5, 2, none⟩) (blk_far (p := ⟨g5, 1, none⟩) (blk_far (p := ⟨g5, 0, none⟩) m6 hn_6_5 _) hn_6_5 _) hn_6_5 _) hn_6_5 _) (i := 0) _), (blk_far (p := ⟨g6, 0, none⟩) (blk_far (p := ⟨g5, 3, none⟩) (blk_far (p := ⟨g5, 2, none⟩) (blk_far (p := ⟨g5, 1, none⟩) (blk_far (p := ⟨g5, 0, none⟩) m4 hn_4_5 _) hn_4_5 _) hn_4_5 _) hn_4_5 _) hn_4_6 _), (blk_far (p := ⟨g6, 0, none⟩) (blk_put (blk_put (blk_put (blk_put m5 0 (.int .i64 H.f0.f0) rfl) 1 (.int .i64 H.f0.f1) rfl) 2 (.int .i64 H.f1.f0) rfl) 3 (.int .i64 H.f1.f1) rfl) hn_5_6 _), (blk_put (blk_far (p := ⟨g5, 3, none⟩) (blk_far (p := ⟨g5, 2, none⟩) (blk_far (p := ⟨g5, 1, none⟩) (blk_far (p := ⟨g5, 0, none⟩) m6 hn_6_5 _) hn_6_5 _) hn_6_5 _) hn_6_5 _) 0 (.int .i64 (wrap64 (T + v.dive))) rfl), Kd.R_mono (Kd.R_far (p := ⟨g6, 0, none⟩) (Kd.R_far (p := ⟨g5, 3, none⟩) (Kd.R_far (p := ⟨g5, 2, none⟩) (Kd.R_far (p := ⟨g5, 1, none⟩) (Kd.R_far (p := ⟨g5, 0, none⟩) HO1 (fun _ hk => hk.1.1) _) (fun _ hk => hk.1.1) _) (fun _ hk => hk.1.1) _) (fun _ hk => hk.1.1) _) (fun _ hk => hk.2) _) (fun _ hk => hk.1.1), (Below.setCell (p := ⟨g6, 0, none⟩) (Below.setCell (p := ⟨g5, 3, none⟩) (Below.setCell (p := ⟨g5, 2, none⟩) (Below.setCell (p := ⟨g5, 1, none⟩) (Below.setCell (p := ⟨g5, 0, none⟩) mB hG5 _) hG5 _) hG5 _) hG5 _) hG6 _)⟩, by simp [intOf]; omega⟩
    skip
    case fr => first | rfl | (rw [hkw]; rfl)
end Go.Proofs.Ythglkoddmpicdaa.Gl
end
