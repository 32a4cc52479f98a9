/- Part 10 of the proof of ClockOrder: what the functions compute. No condition. -/
import Derived.Test.YtcjdhajdoikojaaCoClockOrder3
import Derived.Test.YtcjdhajdoikojaaCoClockOrder9
set_option linter.unusedVariables false
set_option linter.unusedSimpArgs false
section
/- The reading at which the offset becomes too wide, as the program finds it by halving. -/
namespace Go.Proofs.Ytcjdhajdoikojaa.Clk
open Go.RowKit Go.Shelf Go.Proofs.YtcjdhajdoikojaaW.PrintWords Go.Proofs.YtcjdhajdoikojaaW.PrintLast Go.Proofs.YtcjdhajdoikojaaW.PrintMore Go.Proofs.Ytcjdhajdoikojaa.Pr Go.Proofs.YtcjdhajdoikojaaW.Round
set_option linter.unusedVariables false
set_option linter.unusedSimpArgs false

/-- Is the offset wider than a limit? -/
def wideI (rate : Int) (ys : List S105) (limit t : Int) : Bool := decide (limit < wrap64 ((atI rate ys t).2 - (atI rate ys t).1))
/-- What the closure of Due reads. -/
def DueEnv (W : World) (b6 b8 b3 g : Nat) (par rate : Int) (ys : List S105) (last limit : Int) : Prop := Blk W b6 #[.pointer (some ⟨g, 0, none⟩)] 99 ∧ Blk W b8 #[.int .i64 last] 2 ∧ Blk W b3 #[.int .i64 limit] 2 ∧ FaceAt W g par rate ys
theorem DueEnv.below {W W1 : World} {b6 b8 b3 g : Nat} {par rate : Int} {ys : List S105} {last limit : Int} (h : DueEnv W b6 b8 b3 g par rate ys last limit) (hb : Below W.heap.size W W1) : DueEnv W1 b6 b8 b3 g par rate ys last limit :=
 ⟨h.1.below hb, h.2.1.below hb, h.2.2.1.below hb, h.2.2.2.below hb⟩
set_option maxRecDepth 100000 in
set_option maxHeartbeats 2000000 in
theorem due2_any (b6 b8 b3 g : Nat) (par rate : Int) (ys : List S105) (hl : ys.length ≤ 1000) (last limit i : Int) (w : World) (h : DueEnv w b6 b8 b3 g par rate ys last limit) :
  Calls Try.prog 63 #[.int .i64 i, .pointer (some ⟨b6, 0, none⟩), .pointer (some ⟨b8, 0, none⟩), .pointer (some ⟨b3, 0, none⟩)] w (RetB (.bool (wideI rate ys limit (wrap64 (last + i)))) w) := by
 have hu35 := Try.underlying35
 obtain ⟨h6, h8, h3, hF⟩ := h
 have c6 := (blk_cell h6 0).trans rfl
 have c8 := (blk_cell h8 0).trans rfl
 have c3 := (blk_cell h3 0).trans rfl
 have HW : Hid (wideI rate ys limit (wrap64 (last + i)) = decide (limit < wrap64 ((atI rate ys (wrap64 (last + i))).2 - (atI rate ys (wrap64 (last + i))).1))) := Lib.hid rfl
 go_enter Try.func63, Try.ntmps63
 go_wp2_with fail
 have hcon := at_any g par rate ys hl (wrap64 (last + i)) w hF
 (with_reducible refine hcon.mono ?_)
 clear hcon
 rintro e W2 ⟨rfl, hb⟩
 have q3 : ∀ o_, (W2.alloc o_).cell? ⟨b3, 0, none⟩ = some (.int .i64 limit) := fun o_ => (blk_cell (blk_alloc (h3.below hb) o_) 0).trans rfl
 generalize atI rate ys (wrap64 (last + i)) = R at *
 obtain ⟨P1, P2⟩ := R
 dsimp only at HW ⊢
 go_wp2
 go_ret
 exact ⟨by rw [HW.out]; rfl, by repeat (first | exact hb | apply below_alloc | exact hb.size)⟩

/-- Halving. -/
def searchI (p : Int → Bool) : Nat → Int → Int → Int
 | 0, i, _ => i
 | f + 1, i, j => if i < j then (if p ((i + j) / 2) = true then searchI p f i ((i + j) / 2) else searchI p f ((i + j) / 2 + 1) j) else i
theorem searchI_end (p : Int → Bool) (f : Nat) (i : Int) : searchI p f i i = i := by
 cases f with
 | zero => rfl
 | succ f => rw [searchI, if_neg (by omega)]
set_option maxRecDepth 100000 in
set_option maxHeartbeats 4000000 in
theorem search_any (b6 b8 b3 g : Nat) (par rate : Int) (ys : List S105) (hl : ys.length ≤ 1000) (last limit n : Int) (w : World) (hn0 : 0 ≤ n) (hn1 : n ≤ 2251799813685248) (h : DueEnv w b6 b8 b3 g par rate ys last limit) :
  Calls Try.prog 62 #[.int .i64 n, .func (.func 63) #[] #[.pointer (some ⟨b6, 0, none⟩), .pointer (some ⟨b8, 0, none⟩), .pointer (some ⟨b3, 0, none⟩)]] w (RetB (.int .i64 (searchI (fun i => wideI rate ys limit (wrap64 (last + i))) n.toNat 0 n)) w) := by
 go_enter Try.func62, Try.ntmps62
 go_wp2
 go_loopw [5, 6] (fun vi vj wr => ∃ (i j : Int) (f : Nat), vi = .int .i64 i ∧ vj = .int .i64 j ∧ 0 ≤ i ∧ i ≤ j ∧ j ≤ n ∧ j - i ≤ (f : Int) ∧ Hid (searchI (fun i => wideI rate ys limit (wrap64 (last + i))) f i j = searchI (fun i => wideI rate ys limit (wrap64 (last + i))) n.toNat 0 n) ∧ Below w.heap.size w wr) (fun vi vj _ => (intOf vj - intOf vi).toNat)
 case atStart => exact ⟨0, n, n.toNat, rfl, rfl, by omega, by omega, by omega, by omega, Lib.hid rfl, Below.refl _ _⟩
 case round =>
  obtain ⟨i, j, f, rfl, rfl, hi, hij, hj, hf, HS, mB⟩ := hrel
  by_cases hlt : i < j
  ·have w1 : wrap64 (i + j) = i + j := by unfold wrap64; omega
   have w2 : IntKind.wrap .u64 (i + j) = i + j := by unfold IntKind.wrap; simp [IntKind.bits, IntKind.signed]; omega
   have hq0 : 0 ≤ (i + j) / 2 := by omega
   have hq1 : (i + j) / 2 < j := by omega
   have hq2 : i ≤ (i + j) / 2 := by omega
   have hlt2 := eq_true hlt
   have hf1 : ∃ f1, f = f1 + 1 := ⟨f - 1, by omega⟩
   obtain ⟨f, rfl⟩ := hf1
   have hst : searchI (fun i => wideI rate ys limit (wrap64 (last + i))) (f + 1) i j = if wideI rate ys limit (wrap64 (last + (i + j) / 2)) = true then searchI (fun i => wideI rate ys limit (wrap64 (last + i))) f i ((i + j) / 2) else searchI (fun i => wideI rate ys limit (wrap64 (last + i))) f ((i + j) / 2 + 1) j := by rw [searchI, if_pos hlt]
   have HT := Lib.hid hst
   clear hst
   go_wp2_with fail
   have hcon := due2_any b6 b8 b3 g par rate ys hl last limit ((i + j) / 2) wr (h.below mB)
   (with_reducible refine hcon.mono ?_)
   clear hcon
   rintro e W2 ⟨rfl, hb⟩
   replace mB := below_step mB hb
   clear hb
   generalize hv : wideI rate ys limit (wrap64 (last + (i + j) / 2)) = v at HT ⊢
   clear hv
   have w3 : wrap64 ((i + j) / 2 + 1) = (i + j) / 2 + 1 := by unfold wrap64; omega
   cases v with
   | true =>
    have HT2 := Lib.hid (HT.out.symm.trans HS.out)
    rw [if_pos rfl] at HT2
    clear HT HS
    go_wp2
    go_roundw
    case rel => exact ⟨i, (i + j) / 2, f, rfl, rfl, by omega, by omega, by omega, by omega, HT2, mB⟩
    case measure => simp [intOf]; omega
   | false =>
    have HT2 := Lib.hid (HT.out.symm.trans HS.out)
    rw [if_neg (by decide)] at HT2
    clear HT HS
    go_wp2
    go_roundw
    case rel => exact ⟨(i + j) / 2 + 1, j, f, rfl, rfl, by omega, by omega, by omega, by omega, HT2, mB⟩
    case measure => simp [intOf]; omega
  ·obtain rfl : i = j := by omega
   rw [searchI_end] at HS
   have hlt2 : (i < i) = False := eq_false (by omega)
   go_wp2
   go_ret
   exact ⟨by rw [← HS.out]; rfl, mB⟩

theorem searchI_range (p : Int → Bool) : ∀ (f : Nat) (i j : Int), i ≤ j → i ≤ searchI p f i j ∧ searchI p f i j ≤ j
 | 0, i, j, h => ⟨Int.le_refl _, h⟩
 | f + 1, i, j, h => by
  rw [searchI]
  by_cases h1 : i < j
  ·rw [if_pos h1]
   by_cases h2 : p ((i + j) / 2) = true
   ·rw [if_pos h2]
    have := searchI_range p f i ((i + j) / 2) (by omega)
    omega
   ·rw [if_neg h2]
    have := searchI_range p f ((i + j) / 2 + 1) j (by omega)
    omega
  ·rw [if_neg h1]
   omega
theorem FaceR.set {W : World} {g b t : Nat} {par rate : Int} {ys : List S105} {cells : Array Value} (h : FaceR W g par rate ys) (hb : W.heap[b]? = some (.cells cells t (0, 0))) (h1 : t ≠ 109) (h2 : t ≠ 105) (j : Nat) (u : Value) : FaceR (W.setCell ⟨b, j, none⟩ u) g par rate ys := by
 obtain ⟨v, base, k1, k2⟩ := h
 refine ⟨v, base, blk_far (p := ⟨b, j, none⟩) k1 (fun e => ?_) u, Kd.R_set k2 hb (fun q hq => by obtain rfl := List.mem_singleton.1 (show q ∈ [105] from hq); exact fun e => h2 e.symm) j u⟩
 have e' : g = b := e
 subst e'
 rw [show W.heap[g]? = _ from k1] at hb
 injection hb with hb
 injection hb with _ hb _
 exact h1 hb.symm
theorem SoundRes.set {W : World} {b t B : Nat} {par rate : Int} {xs : List S46} {between : Int} {ptr : Option Addr} {cells : Array Value} (h : SoundRes par rate xs between B ptr W) (hb : W.heap[b]? = some (.cells cells t (0, 0))) (h1 : t ≠ 109) (h2 : t ≠ 105) (j : Nat) (u : Value) : SoundRes par rate xs between B ptr (W.setCell ⟨b, j, none⟩ u) := by
 rcases h with ⟨h0, g, k1, k2, k3⟩ | h
 ·exact .inl ⟨h0, g, k1, k2, k3.set hb h1 h2 j u⟩
 ·exact .inr h
theorem SoundRes.weak {W : World} {B B' : Nat} {par rate : Int} {xs : List S46} {between : Int} {ptr : Option Addr} (h : SoundRes par rate xs between B' ptr W) (hB : B ≤ B') : SoundRes par rate xs between B ptr W := by
 rcases h with ⟨h0, g, k1, k2, k3⟩ | h
 ·exact .inl ⟨h0, g, k1, Nat.le_trans hB k2, k3⟩
 ·exact .inr h
theorem maxStep_mem (m x : S105) : maxStep m x = x ∨ maxStep m x = m := by
 unfold maxStep
 by_cases h : 0 < cmpI x m
 ·exact .inl (if_pos h)
 ·exact .inr (if_neg h)
theorem foldl_max_all (P : S105 → Prop) : ∀ (l : List S105) (m : S105), P m → (∀ x ∈ l, P x) → P (l.foldl maxStep m)
 | [], m, hm, _ => hm
 | x :: l, m, hm, hl => foldl_max_all P l _ (by
   rcases maxStep_mem m x with e | e
   ·rw [e]; exact hl x List.mem_cons_self
   ·rw [e]; exact hm) (fun y hy => hl y (List.mem_cons_of_mem _ hy))
theorem maxA_all (P : S105 → Prop) (ys : List S105) (h1 : 1 ≤ ys.length) (h : ∀ x ∈ ys, P x) : P (maxA ys) := by
 cases ys with
 | nil => simp at h1
 | cons a l => exact foldl_max_all P _ _ (h a List.mem_cons_self) (fun x hx => h x (List.mem_cons_of_mem _ hx))
theorem faceE_one {par rate : Int} {xs : List S46} (h : faceE par rate xs = 0) : 1 ≤ xs.length ∧ ∀ x ∈ xs, okE rate x = true := by
 unfold faceE at h
 by_cases hl : xs.length < 1 ∨ xs.length > 64
 ·rw [if_pos hl] at h
  cases h
 rw [if_neg hl] at h
 by_cases hp : par < -1 ∨ rate < 0 ∨ rate > 1000000
 ·rw [if_pos hp] at h
  cases h
 rw [if_neg hp] at h
 by_cases ha : xs.all (okE rate) = true
 ·exact ⟨by omega, fun x hx => List.all_eq_true.1 ha x hx⟩
 ·rw [if_neg ha] at h
  cases h
theorem soundE_face {par rate : Int} {xs : List S46} {between : Int} (h : soundE par rate xs between = 0) : faceE par rate xs = 0 := by
 unfold soundE at h
 by_cases h0 : faceE par rate xs = 0
 ·exact h0
 ·rw [if_pos h0] at h
  exact absurd h h0
theorem okE_back {rate : Int} {x : S46} (h : okE rate x = true) : 0 ≤ x.f3 ∧ x.f3 ≤ 1125899906842624 := by
 unfold okE okX okT at h
 simp only [Bool.and_eq_true, decide_eq_true_eq] at h
 omega
theorem last_range {par rate : Int} {xs : List S46} {between : Int} (h : soundE par rate xs between = 0) : 0 ≤ (maxA (xs.map (anchorI rate))).f1 ∧ (maxA (xs.map (anchorI rate))).f1 ≤ 1125899906842624 := by
 obtain ⟨h1, h2⟩ := faceE_one (soundE_face h)
 refine maxA_all (fun a => 0 ≤ a.f1 ∧ a.f1 ≤ 1125899906842624) _ (by rw [List.length_map]; exact h1) ?_
 intro a ha
 obtain ⟨x, hx, rfl⟩ := List.mem_map.1 ha
 exact okE_back (h2 x hx)

def lastI (rate : Int) (xs : List S46) : Int := (maxA (xs.map (anchorI rate))).f1
def dueN (rate : Int) (xs : List S46) (limit : Int) : Int := searchI (fun i => wideI rate (xs.map (anchorI rate)) limit (wrap64 (lastI rate xs + i))) (1125899906842624 - lastI rate xs + 1).toNat 0 (1125899906842624 - lastI rate xs + 1)
def dueI (par rate : Int) (xs : List S46) (limit : Int) : Int × Int :=
 if soundE par rate xs (withinI limit 0 1073741824) ≠ 0 then (0, soundE par rate xs (withinI limit 0 1073741824)) else if 1125899906842624 < lastI rate xs + dueN rate xs limit then (0, 15) else (lastI rate xs + dueN rate xs limit, 0)
set_option maxRecDepth 100000 in
set_option maxHeartbeats 8000000 in
theorem Due_any (par rate : Int) (A : Option Addr) (c : Nat) (xs : List S46) (limit : Int) (w : World) (hC : Kd.C k46 w A xs.length xs) (hc : xs.length ≤ c) :
  Calls Try.prog 25 #[.agg #[.int .i64 par, .int .i64 rate, .slice A xs.length c], .int .i64 limit] w (RetB (.tuple #[.int .i64 (dueI par rate xs limit).1, .int .i64 (dueI par rate xs limit).2]) w) := by
 have hu30 := Try.underlying30
 have hu109 := Try.underlying109
 have hu105 := Try.underlying105
 have hfd1 : ∀ (x0_ x1_ x2_ : Value) (W_ : World), (Instr.field 105 (.agg #[x0_, x1_, x2_]) 1).run Try.prog W_ = .ok (x2_) W_ := fun _ _ _ W_ => by kernel_rfl
 have HD : Hid (dueI par rate xs limit = if soundE par rate xs (withinI limit 0 1073741824) ≠ 0 then (0, soundE par rate xs (withinI limit 0 1073741824)) else if 1125899906842624 < lastI rate xs + dueN rate xs limit then (0, 15) else (lastI rate xs + dueN rate xs limit, 0)) := Lib.hid rfl
 go_enter Try.func25, Try.ntmps25
 go_wp2_with fail
 have m2 : Blk ((w.alloc (.cells #[.int .i64 par, .int .i64 rate, .slice A xs.length c] 30)).alloc (.cells #[.int .i64 limit] 2)) (w.heap.size) #[.int .i64 par, .int .i64 rate, .slice A xs.length c] 30 := (blk_alloc zq28 _)
 have m3 : Blk ((w.alloc (.cells #[.int .i64 par, .int .i64 rate, .slice A xs.length c] 30)).alloc (.cells #[.int .i64 limit] 2)) (w.heap.size + 1) #[.int .i64 limit] 2 := (by have h_ := blk_new (w.alloc (.cells #[.int .i64 par, .int .i64 rate, .slice A xs.length c] 30)) (.cells #[.int .i64 limit] 2); first | exact h_ | (simp only [World.size_alloc] at h_; exact h_))
 have mB : Below w.heap.size w ((w.alloc (.cells #[.int .i64 par, .int .i64 rate, .slice A xs.length c] 30)).alloc (.cells #[.int .i64 limit] 2)) := (below_alloc (below_alloc (Below.refl w.heap.size w) _) _)
 have hsz_ : w.heap.size ≤ w.heap.size := Nat.le_refl _
 generalize hW_ : ((w.alloc (.cells #[.int .i64 par, .int .i64 rate, .slice A xs.length c] 30)).alloc (.cells #[.int .i64 limit] 2)) = W1 at m2 m3 mB ⊢
 clear hW_
 generalize hg2 : w.heap.size = g2 at m2 m3 ⊢
 have hG2 : w.heap.size ≤ g2 := by omega
 generalize hg3 : g2 + 1 = g3 at m3 ⊢
 have hn_2_3 : g2 ≠ g3 := by omega
 have hn_3_2 : g3 ≠ g2 := hn_2_3.symm
 have hG3 : w.heap.size ≤ g3 := by omega
 clear hsz_
 try clear hg3
 try clear hg2
 have hs_W1 : w.heap.size ≤ W1.heap.size := mB.size
 replace m2 := blk_drew m2
 replace m3 := blk_drew m3
 replace mB := below_drew1 mB
 refine start_ (n := 10) (S := fun w' => w'.cell? ⟨g2, 0, none⟩ = some (.int .i64 par) ∧ w'.cell? ⟨g2, 1, none⟩ = some (.int .i64 rate) ∧ w'.cell? ⟨g2, 2, none⟩ = some (.slice A xs.length c) ∧ w'.cell? ⟨g3, 0, none⟩ = some (.int .i64 limit)) (ds := []) #[false, false, false, false, false, false, false, false, false, false] zq1 rfl rfl ⟨((blk_cell m2 0).trans rfl), ((blk_cell m2 1).trans rfl), ((blk_cell m2 2).trans rfl), ((blk_cell m3 0).trans rfl)⟩ (fun hHeld => ?_)
 generalize hWd : World.drew _ = Wx at *
 clear hWd
 refine ztz (i := 0) (N := some 11) zq1 hHeld ?_
 refine ztz (i := 1) (N := some 12) zq1 hHeld ?_
 refine join_ (σ := Nat × (Option Addr)) 2 #[true, true, true, true, true, true, true, true, false, false] (fun s => [(13, .int .i64 (withinI limit 0 1073741824)), (14, .tuple #[.pointer s.2, .int .i64 (soundE par rate xs (withinI limit 0 1073741824))]), (10, .tuple #[.pointer s.2, .int .i64 (soundE par rate xs (withinI limit 0 1073741824))]), (15, .pointer s.2), (16, .int .i64 (soundE par rate xs (withinI limit 0 1073741824))), (6, .pointer (some ⟨s.1, 0, none⟩))]) (fun s w' => Blk w' g2 #[.int .i64 par, .int .i64 rate, .slice A xs.length c] 30 ∧ Blk w' g3 #[.int .i64 limit] 2 ∧ Blk w' (s.1) #[.pointer none] 99 ∧ Below w.heap.size w w' ∧ w.heap.size ≤ s.1 ∧ g2 ≠ s.1 ∧ g3 ≠ s.1 ∧ SoundRes par rate xs (withinI limit 0 1073741824) w.heap.size (s.2) w') ?_ ?_
 rotate_left
 ·intro hCont
  refine two_ (i := 2) (j := 7) (Ni := some 13) (Nj := some 6) #[true, true, true, false, false, false, false, false, false, false] #[true, true, false, false, false, false, false, true, false, false] rfl rfl rfl rfl zq1 (by decide) (by decide) (fun K hK => ?_) (fun K hK => ?_)
  ·skip
   have hcon_ := within_any limit 0 1073741824 Wx
   refine goes_ Try.func57 zq1 rfl #[.int .i64 limit, .int .i64 0, .int .i64 1073741824] (by rfl) rfl rfl zq10 ?_
   with_reducible refine (hcon_).mono ?_
   rintro e w2 ⟨rfl, hb⟩
   refine ⟨_, rfl, ?_⟩
   clear hcon_
   replace m2 := blk_below m2 hb
   replace m3 := blk_below m3 hb
   replace mB := below_step mB hb
   clear hb
   refine hK.out _ _ ⟨((blk_cell m2 0).trans rfl), ((blk_cell m2 1).trans rfl), ((blk_cell m2 2).trans rfl), ((blk_cell m3 0).trans rfl)⟩ (fun hHeld => ?_)
   clear hK K
   refine norm_ zq34 ?_
   refine two_ (i := 3) (j := 7) (Ni := some 14) (Nj := some 6) #[true, true, true, true, false, false, false, false, false, false] #[true, true, true, false, false, false, false, true, false, false] rfl rfl rfl rfl zq1 (by decide) (by decide) (fun K hK => ?_) (fun K hK => ?_)
   ·skip
    have hcon_ := newSound_any par rate A c xs (withinI limit 0 1073741824) w2 (Kd.C_below hC mB) hc
    refine goes_ Try.func56 zq1 rfl #[.agg #[.int .i64 par, .int .i64 rate, .slice A xs.length c], .int .i64 (withinI limit 0 1073741824)] (by rfl) rfl rfl zq10 ?_
    with_reducible refine (hcon_).mono ?_
    rintro e w3 ⟨ptr, rfl, hb, hcase⟩
    refine ⟨_, rfl, ?_⟩
    clear hcon_
    replace hcase : SoundRes par rate xs (withinI limit 0 1073741824) w.heap.size ptr w3 := SoundRes.weak hcase mB.size
    replace m2 := blk_below m2 hb
    replace m3 := blk_below m3 hb
    replace mB := below_step mB hb
    clear hb
    refine hK.out _ _ ⟨((blk_cell m2 0).trans rfl), ((blk_cell m2 1).trans rfl), ((blk_cell m2 2).trans rfl), ((blk_cell m3 0).trans rfl)⟩ (fun hHeld => ?_)
    clear hK K
    refine norm_ zq35 ?_
    refine zpz (i := 4) (N := some 10) zq1 ?_
    refine zpz (i := 5) (N := some 15) zq1 ?_
    refine zpz (i := 6) (N := some 16) zq1 ?_
    refine one_ (i := 7) (N := some 6) #[true, true, true, true, true, true, true, true, false, false] rfl rfl zq1 (by decide) (fun K hK => ?_)
    have hn_2_6 : g2 ≠ w3.heap.size := by have h_ := blk_lt m2; omega
    have hn_3_6 : g3 ≠ w3.heap.size := by have h_ := blk_lt m3; omega
    have hG6 : w.heap.size ≤ w3.heap.size := by have h_ := mB.size; omega
    replace hcase := hcase.below (below_alloc (Below.refl _ _) (.cells #[.pointer none] 99))
    replace m2 := blk_alloc m2 (.cells #[.pointer none] 99)
    replace m3 := blk_alloc m3 (.cells #[.pointer none] 99)
    have m6 : Blk (w3.alloc (.cells #[.pointer none] 99)) (w3.heap.size) #[.pointer none] 99 := by have h_ := blk_new w3 (.cells #[.pointer none] 99); first | exact h_ | (simp only [World.size_alloc] at h_; exact h_)
    replace mB := below_alloc mB (.cells #[.pointer none] 99)
    refine value_ (w1 := ?_) (v := ?_) (by rfl) rfl ?_ ?_
    rotate_left 2
    ·go_simp
     constructor
     ·rfl
     ·rfl
    refine hK.out _ _ ⟨((blk_cell m2 0).trans rfl), ((blk_cell m2 1).trans rfl), ((blk_cell m2 2).trans rfl), ((blk_cell m3 0).trans rfl)⟩ (fun hHeld => ?_)
    clear hK K
    refine norm_ zq13 ?_
    exact norm_ zq14 (hCont ((w3.heap.size, ptr)) _ ⟨m2, m3, m6, mB, hG6, hn_2_6, hn_3_6, hcase⟩)
   ·skip
    have hn_2_6 : g2 ≠ w2.heap.size := by have h_ := blk_lt m2; omega
    have hn_3_6 : g3 ≠ w2.heap.size := by have h_ := blk_lt m3; omega
    have hG6 : w.heap.size ≤ w2.heap.size := by have h_ := mB.size; omega
    replace m2 := blk_alloc m2 (.cells #[.pointer none] 99)
    replace m3 := blk_alloc m3 (.cells #[.pointer none] 99)
    have m6 : Blk (w2.alloc (.cells #[.pointer none] 99)) (w2.heap.size) #[.pointer none] 99 := by have h_ := blk_new w2 (.cells #[.pointer none] 99); first | exact h_ | (simp only [World.size_alloc] at h_; exact h_)
    replace mB := below_alloc mB (.cells #[.pointer none] 99)
    refine value_ (w1 := ?_) (v := ?_) (by rfl) rfl ?_ ?_
    rotate_left 2
    ·go_simp
     constructor
     ·rfl
     ·rfl
    refine hK.out _ _ ⟨((blk_cell m2 0).trans rfl), ((blk_cell m2 1).trans rfl), ((blk_cell m2 2).trans rfl), ((blk_cell m3 0).trans rfl)⟩ (fun hHeld => ?_)
    clear hK K
    refine norm_ zq13 ?_
    refine one_ (i := 3) (N := some 14) #[true, true, true, true, false, false, false, true, false, false] rfl rfl zq1 (by decide) (fun K hK => ?_)
    have hcon_ := newSound_any par rate A c xs (withinI limit 0 1073741824) (w2.alloc (.cells #[.pointer none] 99)) (Kd.C_below hC mB) hc
    refine goes_ Try.func56 zq1 rfl #[.agg #[.int .i64 par, .int .i64 rate, .slice A xs.length c], .int .i64 (withinI limit 0 1073741824)] (by rfl) rfl rfl zq10 ?_
    with_reducible refine (hcon_).mono ?_
    rintro e w3 ⟨ptr, rfl, hb, hcase⟩
    refine ⟨_, rfl, ?_⟩
    clear hcon_
    replace hcase : SoundRes par rate xs (withinI limit 0 1073741824) w.heap.size ptr w3 := SoundRes.weak hcase mB.size
    replace m2 := blk_below m2 hb
    replace m3 := blk_below m3 hb
    replace m6 := blk_below m6 hb
    replace mB := below_step mB hb
    clear hb
    refine hK.out _ _ ⟨((blk_cell m2 0).trans rfl), ((blk_cell m2 1).trans rfl), ((blk_cell m2 2).trans rfl), ((blk_cell m3 0).trans rfl)⟩ (fun hHeld => ?_)
    clear hK K
    refine norm_ zq35 ?_
    refine zpz (i := 4) (N := some 10) zq1 ?_
    refine zpz (i := 5) (N := some 15) zq1 ?_
    refine zpz (i := 6) (N := some 16) zq1 ?_
    exact norm_ zq14 (hCont ((w2.heap.size, ptr)) _ ⟨m2, m3, m6, mB, hG6, hn_2_6, hn_3_6, hcase⟩)
  ·skip
   have hn_2_6 : g2 ≠ Wx.heap.size := by have h_ := blk_lt m2; omega
   have hn_3_6 : g3 ≠ Wx.heap.size := by have h_ := blk_lt m3; omega
   have hG6 : w.heap.size ≤ Wx.heap.size := by have h_ := mB.size; omega
   replace m2 := blk_alloc m2 (.cells #[.pointer none] 99)
   replace m3 := blk_alloc m3 (.cells #[.pointer none] 99)
   have m6 : Blk (Wx.alloc (.cells #[.pointer none] 99)) (Wx.heap.size) #[.pointer none] 99 := by have h_ := blk_new Wx (.cells #[.pointer none] 99); first | exact h_ | (simp only [World.size_alloc] at h_; exact h_)
   replace mB := below_alloc mB (.cells #[.pointer none] 99)
   refine value_ (w1 := ?_) (v := ?_) (by rfl) rfl ?_ ?_
   rotate_left 2
   ·go_simp
    constructor
    ·rfl
    ·rfl
   refine hK.out _ _ ⟨((blk_cell m2 0).trans rfl), ((blk_cell m2 1).trans rfl), ((blk_cell m2 2).trans rfl), ((blk_cell m3 0).trans rfl)⟩ (fun hHeld => ?_)
   clear hK K
   refine norm_ zq13 ?_
   refine one_ (i := 2) (N := some 13) #[true, true, true, false, false, false, false, true, false, false] rfl rfl zq1 (by decide) (fun K hK => ?_)
   have hcon_ := within_any limit 0 1073741824 (Wx.alloc (.cells #[.pointer none] 99))
   refine goes_ Try.func57 zq1 rfl #[.int .i64 limit, .int .i64 0, .int .i64 1073741824] (by rfl) rfl rfl zq10 ?_
   with_reducible refine (hcon_).mono ?_
   rintro e w2 ⟨rfl, hb⟩
   refine ⟨_, rfl, ?_⟩
   clear hcon_
   replace m2 := blk_below m2 hb
   replace m3 := blk_below m3 hb
   replace m6 := blk_below m6 hb
   replace mB := below_step mB hb
   clear hb
   refine hK.out _ _ ⟨((blk_cell m2 0).trans rfl), ((blk_cell m2 1).trans rfl), ((blk_cell m2 2).trans rfl), ((blk_cell m3 0).trans rfl)⟩ (fun hHeld => ?_)
   clear hK K
   refine norm_ zq34 ?_
   refine one_ (i := 3) (N := some 14) #[true, true, true, true, false, false, false, true, false, false] rfl rfl zq1 (by decide) (fun K hK => ?_)
   have hcon_ := newSound_any par rate A c xs (withinI limit 0 1073741824) w2 (Kd.C_below hC mB) hc
   refine goes_ Try.func56 zq1 rfl #[.agg #[.int .i64 par, .int .i64 rate, .slice A xs.length c], .int .i64 (withinI limit 0 1073741824)] (by rfl) rfl rfl zq10 ?_
   with_reducible refine (hcon_).mono ?_
   rintro e w3 ⟨ptr, rfl, hb, hcase⟩
   refine ⟨_, rfl, ?_⟩
   clear hcon_
   replace hcase : SoundRes par rate xs (withinI limit 0 1073741824) w.heap.size ptr w3 := SoundRes.weak hcase mB.size
   replace m2 := blk_below m2 hb
   replace m3 := blk_below m3 hb
   replace m6 := blk_below m6 hb
   replace mB := below_step mB hb
   clear hb
   refine hK.out _ _ ⟨((blk_cell m2 0).trans rfl), ((blk_cell m2 1).trans rfl), ((blk_cell m2 2).trans rfl), ((blk_cell m3 0).trans rfl)⟩ (fun hHeld => ?_)
   clear hK K
   refine norm_ zq35 ?_
   refine zpz (i := 4) (N := some 10) zq1 ?_
   refine zpz (i := 5) (N := some 15) zq1 ?_
   refine zpz (i := 6) (N := some 16) zq1 ?_
   exact norm_ zq14 (hCont ((Wx.heap.size, ptr)) _ ⟨m2, m3, m6, mB, hG6, hn_2_6, hn_3_6, hcase⟩)
 rintro ⟨g6, ptr⟩ Wg ⟨m2, m3, m6, mB, hG6, hn_2_6, hn_3_6, hcase⟩
 dsimp only at m2 m3 m6 mB hG6 hn_2_6 hn_3_6 hcase
 have hHeld : (Wg.cell? ⟨g2, 0, none⟩ = some (.int .i64 par) ∧ Wg.cell? ⟨g2, 1, none⟩ = some (.int .i64 rate) ∧ Wg.cell? ⟨g2, 2, none⟩ = some (.slice A xs.length c) ∧ Wg.cell? ⟨g3, 0, none⟩ = some (.int .i64 limit)) := ⟨((blk_cell m2 0).trans rfl), ((blk_cell m2 1).trans rfl), ((blk_cell m2 2).trans rfl), ((blk_cell m3 0).trans rfl)⟩
 refine norm_ (a' := ?_) ?_ ?_
 rotate_left
 ·simp only [putAll, Act.put, List.setIfInBounds_toArray, List.set_cons_zero, List.set_cons_succ]
  rfl
 refine one_ (i := 8) (N := none) #[true, true, true, true, true, true, true, true, true, false] rfl rfl zq1 (by decide) (fun K hK => ?_)
 have hcs_ := SoundRes.set hcase m6 (by decide) (by decide) 0 (.pointer ptr)
 have hf0_ := blk_frozen m6 0
 have hc0_ := (blk_cell m6 0).trans rfl
 refine skip_ (w1 := ?_) (by rfl) rfl ?_ ?_
 rotate_left
 ·go_simp
  rfl
 clear hf0_ hc0_
 replace m2 : Blk (Wg.setCell ⟨g6, 0, none⟩ (.pointer ptr)) g2 #[.int .i64 par, .int .i64 rate, .slice A xs.length c] 30 := blk_far (p := ⟨g6, 0, none⟩) m2 hn_2_6 _
 replace m3 : Blk (Wg.setCell ⟨g6, 0, none⟩ (.pointer ptr)) g3 #[.int .i64 limit] 2 := blk_far (p := ⟨g6, 0, none⟩) m3 hn_3_6 _
 replace m6 : Blk (Wg.setCell ⟨g6, 0, none⟩ (.pointer ptr)) g6 #[.pointer ptr] 99 := blk_put m6 0 _ rfl
 replace mB : Below w.heap.size w (Wg.setCell ⟨g6, 0, none⟩ (.pointer ptr)) := mB.setCell (p := ⟨g6, 0, none⟩) hG6 _
 replace hcase := hcs_
 clear hcs_
 refine hK.out _ _ ⟨((blk_cell m2 0).trans rfl), ((blk_cell m2 1).trans rfl), ((blk_cell m2 2).trans rfl), ((blk_cell m3 0).trans rfl)⟩ (fun hHeld => ?_)
 clear hK K
 refine zpz (i := 9) (N := some 7) zq1 ?_
 refine done_ zq1 ?_
 try clear hHeld
 generalize hW_ : (Wg.setCell ⟨g6, 0, none⟩ (.pointer ptr)) = W4 at m2 m3 m6 mB hcase ⊢
 clear hW_
 have hlr := fun h => last_range (par := par) (rate := rate) (xs := xs) (between := withinI limit 0 1073741824) h
 have hfo := fun h => faceE_one (soundE_face (par := par) (rate := rate) (xs := xs) (between := withinI limit 0 1073741824) h)
 have hln := fun h => soundE_len (par := par) (rate := rate) (xs := xs) (between := withinI limit 0 1073741824) h
 unfold SoundRes at hcase
 generalize soundE par rate xs (withinI limit 0 1073741824) = E0 at *
 rcases hcase with ⟨h0, g, rfl, hg, hF⟩ | ⟨h0, rfl⟩
 case inr =>
  have HE := Lib.hid (HD.out.trans (if_pos h0))
  have hd : (E0 == 0) = false := beq_eq_false_iff_ne.2 h0
  have hd2 : (E0 != 0) = true := by rw [bne, hd]; rfl
  clear h0 hlr hfo hln HD
  go_wp2
  go_ret2
  exact ⟨zq31, mB⟩
 case inl =>
  have HE1 := Lib.hid (HD.out.trans (if_neg (by rw [h0]; decide)))
  clear HD
  obtain ⟨hl1, _⟩ := hfo h0
  have hl64 := hln h0
  have hlast0 : 0 ≤ lastI rate xs ∧ lastI rate xs ≤ 1125899906842624 := hlr h0
  clear hfo hln hlr
  subst h0
  have hN : dueN rate xs limit = searchI (fun i => wideI rate (xs.map (anchorI rate)) limit (wrap64 (lastI rate xs + i))) (1125899906842624 - lastI rate xs + 1).toNat 0 (1125899906842624 - lastI rate xs + 1) := rfl
  have HN := Lib.hid hN
  clear hN
  have hLI : (maxA (xs.map (anchorI rate))).f1 = lastI rate xs := rfl
  have HLI := Lib.hid hLI
  clear hLI
  have hyl : (xs.map (anchorI rate)).length ≤ 1000 := by rw [List.length_map]; omega
  have hyl1 : 1 ≤ (xs.map (anchorI rate)).length := by rw [List.length_map]; omega
  generalize dueN rate xs limit = n at HN HE1
  generalize lastI rate xs = last at *
  generalize xs.map (anchorI rate) = ys at *
  obtain ⟨hlo, hhi⟩ := hlast0
  have hFA := hF.at
  obtain ⟨Af, cf, mf, hlc, hCf⟩ := hFA
  have cf2 := (blk_cell mf 2).trans rfl
  have c6 := (blk_cell m6 0).trans rfl
  go_wp2_with fail
  have hcon := maxF_any Af cf ys W4 hCf hyl hyl1
  (with_reducible refine hcon.mono ?_)
  clear hcon cf2 c6
  rintro e W5 ⟨rfl, hb⟩
  replace hF := hF.below hb
  replace m2 := blk_below m2 hb
  replace m3 := blk_below m3 hb
  replace m6 := blk_below m6 hb
  replace mB := below_step mB hb
  clear hb
  have hs_W5 : w.heap.size ≤ W5.heap.size := mB.size
  clear mf hCf
  have HR := HLI.out
  generalize maxA ys = M at *
  obtain ⟨M0, M1⟩ := M
  dsimp only at HR ⊢
  subst HR
  have w1 : wrap64 (1125899906842624 - M1) = 1125899906842624 - M1 := by unfold wrap64; omega
  have w2 : wrap64 (1125899906842624 - M1 + 1) = 1125899906842624 - M1 + 1 := by unfold wrap64; omega
  go_wp2_with fail
  replace hF := hF.below (below_alloc (Below.refl W5.heap.size W5) (.cells #[.int .i64 M1] 2))
  have hl_2 := blk_lt m2
  have hl_3 := blk_lt m3
  have hl_6 := blk_lt m6
  have m8 : Blk (W5.alloc (.cells #[.int .i64 M1] 2)) (W5.heap.size) #[.int .i64 M1] 2 := (by have h_ := blk_new W5 (.cells #[.int .i64 M1] 2); first | exact h_ | (simp only [World.size_alloc] at h_; exact h_))
  replace m2 : Blk (W5.alloc (.cells #[.int .i64 M1] 2)) g2 #[.int .i64 par, .int .i64 rate, .slice A xs.length c] 30 := (blk_alloc m2 _)
  replace m3 : Blk (W5.alloc (.cells #[.int .i64 M1] 2)) g3 #[.int .i64 limit] 2 := (blk_alloc m3 _)
  replace m6 : Blk (W5.alloc (.cells #[.int .i64 M1] 2)) g6 #[.pointer (some ⟨g, 0, none⟩)] 99 := (blk_alloc m6 _)
  replace mB : Below w.heap.size w (W5.alloc (.cells #[.int .i64 M1] 2)) := (below_alloc mB _)
  have hsz_ : w.heap.size ≤ W5.heap.size := hs_W5
  generalize hW_ : (W5.alloc (.cells #[.int .i64 M1] 2)) = W6 at m2 m3 m6 m8 mB hF ⊢
  clear hW_
  generalize hg8 : W5.heap.size = g8 at m8 ⊢
  have hn_2_8 : g2 ≠ g8 := by omega
  have hn_3_8 : g3 ≠ g8 := by omega
  have hn_6_8 : g6 ≠ g8 := by omega
  have hn_8_2 : g8 ≠ g2 := hn_2_8.symm
  have hn_8_3 : g8 ≠ g3 := hn_3_8.symm
  have hn_8_6 : g8 ≠ g6 := hn_6_8.symm
  have hG8 : w.heap.size ≤ g8 := by omega
  clear hsz_ hl_2 hl_3 hl_6
  try clear hg8
  have hs_W6 : w.heap.size ≤ W6.heap.size := mB.size
  have hcon := search_any g6 g8 g3 g par rate ys hyl M1 limit (1125899906842624 - M1 + 1) W6 (by omega) (by omega) ⟨m6, m8, m3, hF.at⟩
  (with_reducible refine hcon.mono ?_)
  clear hcon
  rintro e W7 ⟨rfl, hb⟩
  replace m2 := blk_below m2 hb
  replace m3 := blk_below m3 hb
  replace m6 := blk_below m6 hb
  replace m8 := blk_below m8 hb
  replace mB := below_step mB hb
  clear hb
  have hs_W7 : w.heap.size ≤ W7.heap.size := mB.size
  have hrg := searchI_range (fun i => wideI rate ys limit (wrap64 (M1 + i))) (1125899906842624 - M1 + 1).toNat 0 (1125899906842624 - M1 + 1) (by omega)
  rw [← HN.out] at hrg ⊢
  clear HN
  have c8 := (blk_cell m8 0).trans rfl
  have w3 : wrap64 (M1 + n) = M1 + n := by unfold wrap64; omega
  by_cases hq : 1125899906842624 < M1 + n
  case pos =>
   have HE2 := Lib.hid (HE1.out.trans (if_pos hq))
   have dq := decide_eq_true hq
   have dq2 := eq_true hq
   clear HE1
   go_wp2
   go_ret2
   exact ⟨by rw [HE2.out]; rfl, mB⟩
  case neg =>
   have HE2 := Lib.hid (HE1.out.trans (if_neg hq))
   have dq := decide_eq_false hq
   have dq2 := eq_false hq
   clear HE1
   go_wp2
   go_ret2
   exact ⟨by rw [HE2.out]; rfl, mB⟩
end Go.Proofs.Ytcjdhajdoikojaa.Clk
end
section
/- The contracts of the clock's exported functions, as the printed texts ask for them. -/
namespace Go.Proofs.Ytcjdhajdoikojaa.Pr
open Go.RowKit Go.Proofs.YtcjdhajdoikojaaW.PrintWords Go.Proofs.YtcjdhajdoikojaaW.PrintLast Go.Proofs.YtcjdhajdoikojaaW.PrintMore Go.Proofs.Ytcjdhajdoikojaa.Clk
set_option linter.unusedVariables false

def clock_Time.f (l0 : List (S30)) (a1_0 : Int) (a1_1 : Int) : Option (Int × Int × Int) := some ((TimeV l0 a1_0 a1_1).1, (TimeV l0 a1_0 a1_1).2, TimeE l0 a1_0 a1_1)
theorem clock_Time.calls (A0 : Option Addr) (c0 : Nat) (l0 : List (S30)) (a1_0 : Int) (a1_1 : Int) (r1 : Int) (r2 : Int) (r3 : Int) (w : World) (hr0 : Kd.C k30 w A0 l0.length l0) (hc0 : l0.length ≤ c0) (h : clock_Time.f l0 a1_0 a1_1 = some (r1, r2, r3)) :
  Calls Try.prog 17 #[.slice A0 l0.length c0, .agg #[.int .i64 a1_0, .int .i64 a1_1]] w fun e w' => e = .returned (.tuple #[.agg #[.int .i64 r1, .int .i64 r2], .int .i64 r3]) ∧ Below w.heap.size w w' := by
 cases h
 exact Time_any A0 c0 l0 a1_0 a1_1 w hr0 hc0

def clock_At.f (a0_0 : Int) (a0_1 : Int) (l0_2 : List (S46)) (a1 : Int) : Option (Int × Int × Int) := some ((atV a0_0 a0_1 l0_2 a1).1, (atV a0_0 a0_1 l0_2 a1).2, atE a0_0 a0_1 l0_2 a1)
theorem clock_At.calls (a0_0 : Int) (a0_1 : Int) (A0_2 : Option Addr) (c0_2 : Nat) (l0_2 : List (S46)) (a1 : Int) (r1 : Int) (r2 : Int) (r3 : Int) (w : World) (hr0_2 : Kd.C k46 w A0_2 l0_2.length l0_2) (hc0_2 : l0_2.length ≤ c0_2) (h : clock_At.f a0_0 a0_1 l0_2 a1 = some (r1, r2, r3)) :
  Calls Try.prog 22 #[.agg #[.int .i64 a0_0, .int .i64 a0_1, .slice A0_2 l0_2.length c0_2], .int .i64 a1] w fun e w' => e = .returned (.tuple #[.agg #[.int .i64 r1, .int .i64 r2], .int .i64 r3]) ∧ Below w.heap.size w w' := by
 cases h
 exact At_any a0_0 a0_1 A0_2 c0_2 l0_2 a1 w hr0_2 hc0_2

def clock_Due.f (a0_0 : Int) (a0_1 : Int) (l0_2 : List (S46)) (a1 : Int) : Option (Int × Int) := some ((dueI a0_0 a0_1 l0_2 a1).1, (dueI a0_0 a0_1 l0_2 a1).2)
theorem clock_Due.calls (a0_0 : Int) (a0_1 : Int) (A0_2 : Option Addr) (c0_2 : Nat) (l0_2 : List (S46)) (a1 : Int) (r1 : Int) (r2 : Int) (w : World) (hr0_2 : Kd.C k46 w A0_2 l0_2.length l0_2) (hc0_2 : l0_2.length ≤ c0_2) (h : clock_Due.f a0_0 a0_1 l0_2 a1 = some (r1, r2)) :
  Calls Try.prog 25 #[.agg #[.int .i64 a0_0, .int .i64 a0_1, .slice A0_2 l0_2.length c0_2], .int .i64 a1] w fun e w' => e = .returned (.tuple #[.int .i64 r1, .int .i64 r2]) ∧ Below w.heap.size w w' := by
 cases h
 exact Due_any a0_0 a0_1 A0_2 c0_2 l0_2 a1 w hr0_2 hc0_2

end Go.Proofs.Ytcjdhajdoikojaa.Pr
end
section
namespace Go.Proofs.Ytcjdhajdoikojaa.Pr
open Go.RowKit Go.Proofs.YtcjdhajdoikojaaW.PrintWords Go.Proofs.YtcjdhajdoikojaaW.PrintLast Go.Proofs.YtcjdhajdoikojaaW.PrintMore
attribute [local go_sem] max2_int min2_int max_two min_two
set_option linter.unusedVariables false
set_option linter.unusedSimpArgs false

attribute [local go_sem high] eqA35
/-! ### isobathlaw05_Works: function 16 -/
def isobathlaw05_Works.f  : Option (Bool) := (isobathlaw05_Example.f).bind fun bt200 => ((clock_At.f bt200.1 bt200.2.1 bt200.2.2 2000060).bind fun bt205 => ((isobathlaw05_Example.f).bind fun bt209 => ((clock_Time.f (([(⟨bt209.1, bt209.2.1, bt209.2.2⟩ : S30)] : List (S30))) 0 1030).bind fun bt217 => ((isobathlaw05_Example.f).bind fun bt221 => ((clock_Due.f bt221.1 bt221.2.1 bt221.2.2 14).bind fun bt226 => (if (wrap64 ((wrap64 (bt205.2.2 + bt217.2.2)) + bt226.2)) = 0 then (if (bt205.1 == 993 && (bt205.2.1 == 1007)) = true then (if (bt217.1 == 2025 && (bt217.2.1 == 2035)) = true then (some (bt226.1 == 2001031)) else (some false)) else (some false)) else (some false)))))))
set_option maxRecDepth 100000 in
theorem isobathlaw05_Works.true_ : isobathlaw05_Works.f = some true := by kernel_rfl
set_option maxHeartbeats 8000000 in
set_option maxRecDepth 100000 in
theorem isobathlaw05_Works.calls  (r : Bool) (w : World) (h : isobathlaw05_Works.f  = some r) :
  Calls Try.prog 16 #[] w fun e w' => e = .returned (.bool r) ∧ Below w.heap.size w w' := by
 have hr_ : Aside0 (r = true) := ⟨Option.some.inj (h.symm.trans isobathlaw05_Works.true_)⟩
 have hu35 := Try.underlying35
 have hu41 := Try.underlying41
 have HB := Aside0.mk (Below.refl w.heap.size w)
 have H : ((isobathlaw05_Example.f).bind fun bt200 => ((clock_At.f bt200.1 bt200.2.1 bt200.2.2 2000060).bind fun bt205 => ((isobathlaw05_Example.f).bind fun bt209 => ((clock_Time.f (([(⟨bt209.1, bt209.2.1, bt209.2.2⟩ : S30)] : List (S30))) 0 1030).bind fun bt217 => ((isobathlaw05_Example.f).bind fun bt221 => ((clock_Due.f bt221.1 bt221.2.1 bt221.2.2 14).bind fun bt226 => (if (wrap64 ((wrap64 (bt205.2.2 + bt217.2.2)) + bt226.2)) = 0 then (if (bt205.1 == 993 && (bt205.2.1 == 1007)) = true then (if (bt217.1 == 2025 && (bt217.2.1 == 2035)) = true then (some (bt226.1 == 2001031)) else (some false)) else (some false)) else (some false)))))))) = some r := h
 clear h
 replace H := Option.bind_eq_some_iff.mp H
 obtain ⟨⟨t200, t201, t202⟩, A10, H⟩ := H
 replace H : ((clock_At.f t200 t201 t202 2000060).bind fun bt205 => ((isobathlaw05_Example.f).bind fun bt209 => ((clock_Time.f (([(⟨bt209.1, bt209.2.1, bt209.2.2⟩ : S30)] : List (S30))) 0 1030).bind fun bt217 => ((isobathlaw05_Example.f).bind fun bt221 => ((clock_Due.f bt221.1 bt221.2.1 bt221.2.2 14).bind fun bt226 => (if (wrap64 ((wrap64 (bt205.2.2 + bt217.2.2)) + bt226.2)) = 0 then (if (bt205.1 == 993 && (bt205.2.1 == 1007)) = true then (if (bt217.1 == 2025 && (bt217.2.1 == 2035)) = true then (some (bt226.1 == 2001031)) else (some false)) else (some false)) else (some false))))))) = some r := H
 have A1 := Aside0.mk A10
 clear A10
 replace H := Option.bind_eq_some_iff.mp H
 obtain ⟨⟨t205, t206, t207⟩, A20, H⟩ := H
 replace H : ((isobathlaw05_Example.f).bind fun bt209 => ((clock_Time.f (([(⟨bt209.1, bt209.2.1, bt209.2.2⟩ : S30)] : List (S30))) 0 1030).bind fun bt217 => ((isobathlaw05_Example.f).bind fun bt221 => ((clock_Due.f bt221.1 bt221.2.1 bt221.2.2 14).bind fun bt226 => (if (wrap64 ((wrap64 (t207 + bt217.2.2)) + bt226.2)) = 0 then (if (t205 == 993 && (t206 == 1007)) = true then (if (bt217.1 == 2025 && (bt217.2.1 == 2035)) = true then (some (bt226.1 == 2001031)) else (some false)) else (some false)) else (some false)))))) = some r := H
 have A2 := Aside0.mk A20
 clear A20
 replace H := Option.bind_eq_some_iff.mp H
 obtain ⟨⟨t209, t210, t211⟩, A30, H⟩ := H
 replace H : ((clock_Time.f (([(⟨t209, t210, t211⟩ : S30)] : List (S30))) 0 1030).bind fun bt217 => ((isobathlaw05_Example.f).bind fun bt221 => ((clock_Due.f bt221.1 bt221.2.1 bt221.2.2 14).bind fun bt226 => (if (wrap64 ((wrap64 (t207 + bt217.2.2)) + bt226.2)) = 0 then (if (t205 == 993 && (t206 == 1007)) = true then (if (bt217.1 == 2025 && (bt217.2.1 == 2035)) = true then (some (bt226.1 == 2001031)) else (some false)) else (some false)) else (some false))))) = some r := H
 have A3 := Aside0.mk A30
 clear A30
 obtain ⟨y214, hy214⟩ : ∃ y_ : List (S30), y_ = (([(⟨t209, t210, t211⟩ : S30)] : List (S30))) := ⟨_, rfl⟩
 replace H : ((clock_Time.f y214 0 1030).bind fun bt217 => ((isobathlaw05_Example.f).bind fun bt221 => ((clock_Due.f bt221.1 bt221.2.1 bt221.2.2 14).bind fun bt226 => (if (wrap64 ((wrap64 (t207 + bt217.2.2)) + bt226.2)) = 0 then (if (t205 == 993 && (t206 == 1007)) = true then (if (bt217.1 == 2025 && (bt217.2.1 == 2035)) = true then (some (bt226.1 == 2001031)) else (some false)) else (some false)) else (some false))))) = some r := by first | (rw [hy214]; with_reducible exact H) | (have H2_ := (Option.bind_some _ _).symm.trans H; rw [hy214]; with_reducible exact H2_) | (have H2_ := (Option.bind_some _ _).symm.trans H; with_reducible exact H2_) | with_reducible exact H | (rw [hy214]; exact H) | exact H
 have Ny214 := Aside0.mk hy214
 clear hy214
 replace H := Option.bind_eq_some_iff.mp H
 obtain ⟨⟨t217, t218, t219⟩, A40, H⟩ := H
 replace H : ((isobathlaw05_Example.f).bind fun bt221 => ((clock_Due.f bt221.1 bt221.2.1 bt221.2.2 14).bind fun bt226 => (if (wrap64 ((wrap64 (t207 + t219)) + bt226.2)) = 0 then (if (t205 == 993 && (t206 == 1007)) = true then (if (t217 == 2025 && (t218 == 2035)) = true then (some (bt226.1 == 2001031)) else (some false)) else (some false)) else (some false)))) = some r := H
 have A4 := Aside0.mk A40
 clear A40
 replace H := Option.bind_eq_some_iff.mp H
 obtain ⟨⟨t221, t222, t223⟩, A50, H⟩ := H
 replace H : ((clock_Due.f t221 t222 t223 14).bind fun bt226 => (if (wrap64 ((wrap64 (t207 + t219)) + bt226.2)) = 0 then (if (t205 == 993 && (t206 == 1007)) = true then (if (t217 == 2025 && (t218 == 2035)) = true then (some (bt226.1 == 2001031)) else (some false)) else (some false)) else (some false))) = some r := H
 have A5 := Aside0.mk A50
 clear A50
 replace H := Option.bind_eq_some_iff.mp H
 obtain ⟨⟨t226, t227⟩, A60, H⟩ := H
 replace H : (if (wrap64 ((wrap64 (t207 + t219)) + t227)) = 0 then (if (t205 == 993 && (t206 == 1007)) = true then (if (t217 == 2025 && (t218 == 2035)) = true then (some (t226 == 2001031)) else (some false)) else (some false)) else (some false)) = some r := H
 have A6 := Aside0.mk A60
 clear A60
 by_cases c7 : (wrap64 ((wrap64 (t207 + t219)) + t227)) = 0
 ·rw [if_pos c7] at H
  have c7b0 : ((wrap64 ((wrap64 (t207 + t219)) + t227)) == 0) = true := beq_iff_eq.mpr c7
  have c7b1 : ((wrap64 ((wrap64 (t207 + t219)) + t227)) != 0) = false := bne_eq_false_iff_eq.mpr c7
  clear c7
  by_cases c8 : (t205 == 993 && (t206 == 1007)) = true
  ·rw [if_pos c8] at H
   have c8b0 : (t205 == 993 && (t206 == 1007)) = true := c8
   (try (have c8b1 : decide (t205 = 993 && (t206 == 1007)) = true := by simpa using c8))
   (try (have c8b2 : (t205 == 993 && (t206 == 1007)) = true := by simpa using c8))
   clear c8
   by_cases c9 : (t217 == 2025 && (t218 == 2035)) = true
   ·rw [if_pos c9] at H
    have c9b0 : (t217 == 2025 && (t218 == 2035)) = true := c9
    (try (have c9b1 : decide (t217 = 2025 && (t218 == 2035)) = true := by simpa using c9))
    (try (have c9b2 : (t217 == 2025 && (t218 == 2035)) = true := by simpa using c9))
    clear c9
    obtain rfl := Option.some.inj H
    go_enter Try.func16, Try.ntmps16
    go_wp2_with (first | ((with_reducible refine gate_callee (f := 52) rfl ?_); refine goesL_ (some 8) rfl rfl Try.func52 zq1 rfl #[] rfl zq26 ?_; (with_reducible refine (isobathlaw05_Example.calls  t200 t201 t202 _ A1.out).mono ?_); rintro e w10 ⟨v203, rfl, ho0, hb⟩; refine ⟨_, rfl, ?_⟩; have HO204 := Aside0.mk (Kd.R_lower ho0 (below_size zbz)); replace HB := zbs HB hb; (try clear hb); (try clear hb2); (try clear hk); (try clear hi); (try clear ho0); obtain ⟨Ao11, co11, eo11⟩ := Kd.R_slice HO204.out; subst eo11) | ((with_reducible refine gate_callee (f := 22) rfl ?_); refine goesL_ (some 9) rfl rfl Try.func22 zq1 rfl #[.agg #[.int .i64 t200, .int .i64 t201, .slice Ao11 t202.length co11], .int .i64 2000060] rfl zq26 ?_; (with_reducible refine (clock_At.calls t200 t201 _ _ t202 2000060 t205 t206 t207 _ ?side1 ?side2 A2.out).mono ?_); (case side1 => repeat (first | exact (Kd.R_reads' HO204.out).2.2 | (with_reducible refine Kd.C_alloc ?_ _) | (with_reducible refine Kd.C_drewN ?_ _) | (with_reducible refine Kd.C_drew ?_))); (case side2 => exact (Kd.R_reads' HO204.out).2.1); rintro e w12 ⟨rfl, hb⟩; refine ⟨_, rfl, ?_⟩; replace HO204 := zrb HO204 hb; replace HB := zbs HB hb; (try clear hb); (try clear hb2); (try clear hk); (try clear hi)) | ((with_reducible refine gate_dst (N := 1) rfl ?_); refine box_event (by rfl) (N := 1) (by rfl) (cs := #[.int .i64 0, .int .i64 0]) (t := 35) zq2 ?_; intro gb208 hg w13 hbox hb; have BK208 := Aside0.mk (hbox); have GW208 := zgs HB hg; have GE208 := zgs HB hg; replace HO204 := zrb HO204 hb; replace HB := zbs HB hb; clear hb hbox hg; obtain ⟨hcz14_0, hcz14_1, hfz14_0, hfz14_1⟩ := zce2 BK208.out) | ((with_reducible refine gate_callee (f := 52) rfl ?_); refine goesL_ (some 13) rfl rfl Try.func52 zq1 rfl #[] rfl zq26 ?_; (with_reducible refine (isobathlaw05_Example.calls  t209 t210 t211 _ A3.out).mono ?_); rintro e w15 ⟨v212, rfl, ho0, hb⟩; refine ⟨_, rfl, ?_⟩; have n0_ := Aside0.mk (Kd.R_elder' zq36 (Kd.R_base ho0) hb); have n1_ := Aside0.mk (Kd.R_lower (Kd.R_new' ho0 (Kd.R_lt zq36)) (below_size zbz)); have n2_ := Aside0.mk (blk_below (g := gb208) (o := .cells #[.int .i64 t205, .int .i64 t206] 35 (0, 0)) (by (with_reducible repeat (first | refine blk_drewN ?_ _ | refine blk_drew ?_ | refine blk_alloc ?_ _)); refine blk_put (cs := #[.int .i64 t205, .int .i64 0]) ?_ 1 _ rfl; (with_reducible repeat (first | refine blk_drewN ?_ _ | refine blk_drew ?_ | refine blk_alloc ?_ _)); refine blk_put (cs := #[.int .i64 0, .int .i64 0]) ?_ 0 _ rfl; (with_reducible repeat (first | refine blk_drewN ?_ _ | refine blk_drew ?_ | refine blk_alloc ?_ _)); exact BK208.out) hb); have n3_ := zbs HB hb; clear HO204; clear BK208; clear HB; have HO204 := n0_; have HO213 := n1_; have BK208 := n2_; have HB := n3_; clear n0_ n1_ n2_ n3_; (try clear hb); (try clear hb2); (try clear hk); (try clear hi); (try clear ho0); obtain ⟨Ao16, co16, eo16⟩ := Kd.R_slice HO213.out; subst eo16) | ((with_reducible refine gate_dst (N := 14) rfl ?_); refine Kd.N_lit k30 _ 30 (by rfl) (N' := 14) (by rfl) (xs := ([(⟨t209, t210, t211⟩ : S30)] : List (S30))) (inner := [.int .i64 t209, .int .i64 t210, .slice Ao16 t211.length co16]) (ok := (fun k_ => some k_ ≠ (.slice Ao11 t202.length co11 : Value).ownBlock ∧ k_ ≠ gb208)) (okp := (fun k_ => some k_ ≠ (.slice Ao11 t202.length co11 : Value).ownBlock ∧ k_ ≠ gb208)) zq2 (by exact (Reps.c3 (show Kd.FK k30 _ _ (⟨t209, t210, t211⟩ : S30) [.int .i64 t209, .int .i64 t210, .slice Ao16 t211.length co16] from (k30_mkF _ _ (⟨t209, t210, t211⟩ : S30) (Kd.R_reads' (Kd.R_mono (ok' := (fun k_ => some k_ ≠ (.slice Ao11 t202.length co11 : Value).ownBlock ∧ k_ ≠ gb208)) (Kd.R_types (HO213.out) BK208.out (by decide)) (fun k_ hk => ⟨hk.1.2, hk.2⟩))).2.1 (Kd.R_F (Kd.R_mono (ok' := (fun k_ => some k_ ≠ (.slice Ao11 t202.length co11 : Value).ownBlock ∧ k_ ≠ gb208)) (Kd.R_types (HO213.out) BK208.out (by decide)) (fun k_ hk => ⟨hk.1.2, hk.2⟩))))) (Reps.none _ _))) (fun _ hk => hk) ((show ∀ k_, w15.heap.size ≤ k_ → (fun k_ => some k_ ≠ (.slice Ao11 t202.length co11 : Value).ownBlock ∧ k_ ≠ gb208) k_ from fun k_ hk => ⟨Kd.fresh' (Kd.R_lt (by (with_reducible repeat (first | apply Kd.R_alloc | apply Kd.R_drewN | apply Kd.R_drew)); exact HO204.out)) k_ hk, Kd.freshB (g := gb208) (o := .cells #[.int .i64 t205, .int .i64 t206] 35 (0, 0)) zbf k_ hk⟩) _ (Nat.le_refl _)) (Below.refl _ _) (Nat.le_refl _) (by simp) ?_; intro v215 w17 ho18 hb hg_ hnew_; clear hg_ hnew_; (first | rw [← Ny214.out] at ho18 | (simp only [Int.reduceToNat] at ho18; rw [← Ny214.out] at ho18)); have n0_ := zrb HO204 hb; have n1_ := Aside0.mk (Kd.N_lower ho18 (below_size zbz)); have n2_ := zbb BK208 hb; have n3_ := zbs HB hb; clear HO204; clear BK208; clear HB; clear HO213; have HO204 := n0_; have HO216 := n1_; have BK208 := n2_; have HB := n3_; clear n0_ n1_ n2_ n3_; clear hb ho18; obtain ⟨Ao19, co19, eo19⟩ := Kd.N_slice HO216.out; subst eo19) | ((with_reducible refine gate_callee (f := 17) rfl ?_); refine goesL_ (some 16) rfl rfl Try.func17 zq1 rfl #[.slice Ao19 y214.length co19, .agg #[.int .i64 0, .int .i64 1030]] rfl zq26 ?_; (with_reducible refine (clock_Time.calls _ _ y214 0 1030 t217 t218 t219 _ ?side1 ?side2 A4.out).mono ?_); (case side1 => repeat (first | exact (Kd.N_reads' HO216.out).2.2 | (with_reducible refine Kd.C_alloc ?_ _) | (with_reducible refine Kd.C_drewN ?_ _) | (with_reducible refine Kd.C_drew ?_))); (case side2 => exact (Kd.N_reads' HO216.out).2.1); rintro e w20 ⟨rfl, hb⟩; refine ⟨_, rfl, ?_⟩; replace HO204 := zrb HO204 hb; replace HO216 := Aside0.mk (Kd.N_below zq37 hb); replace BK208 := zbb BK208 hb; replace HB := zbs HB hb; (try clear hb); (try clear hb2); (try clear hk); (try clear hi)) | ((with_reducible refine gate_dst (N := 3) rfl ?_); refine box_event (by rfl) (N := 3) (by rfl) (cs := #[.int .i64 0, .int .i64 0]) (t := 35) zq2 ?_; intro gb220 hg w21 hbox hb; have BK220 := Aside0.mk (hbox); have GW220 := zgs HB hg; have GE220 := zgs HB hg; have NB208_220 := znp BK208 hg; have NB220_208 := znq BK208 hg; replace HO204 := zrb HO204 hb; replace HO216 := Aside0.mk (Kd.N_below (Kd.N_elderB zq37 gb220 (Nat.le_of_eq hg.symm)) hb); replace BK208 := zbb BK208 hb; replace HB := zbs HB hb; clear hb hbox hg; have hnb22 := NB220_208.out; have hnc22 := NB208_220.out; obtain ⟨hcz23_0, hcz23_1, hfz23_0, hfz23_1⟩ := zce2 BK220.out) | ((with_reducible refine gate_callee (f := 52) rfl ?_); refine goesL_ (some 20) rfl rfl Try.func52 zq1 rfl #[] rfl zq26 ?_; (with_reducible refine (isobathlaw05_Example.calls  t221 t222 t223 _ A5.out).mono ?_); rintro e w24 ⟨v224, rfl, ho0, hb⟩; refine ⟨_, rfl, ?_⟩; have n0_ := Aside0.mk (Kd.R_elder' zq38 (Kd.R_base ho0) hb); have n1_ := Aside0.mk (Kd.N_elder' (by (with_reducible repeat (first | apply Kd.N_alloc | apply Kd.N_drewN | apply Kd.N_drew)); exact (Kd.N_mono (Kd.N_far (p := ⟨gb220, 1, none⟩) (Kd.N_far (p := ⟨gb220, 0, none⟩) (Kd.N_mono HO216.out (fun k_ hk => (⟨hk, hk.2⟩ : _ ∧ k_ ≠ gb220))) (fun _ hk => hk.2) (.int .i64 t217)) (fun _ hk => hk.2) (.int .i64 t218)) (fun _ h_ => h_.1))) (Kd.R_base ho0) hb); have n2_ := Aside0.mk (Kd.R_lower (Kd.R_new' ho0 (Kd.R_lt zq38)) (below_size zbz)); have n3_ := zbb BK208 hb; have n4_ := Aside0.mk (blk_below (g := gb220) (o := .cells #[.int .i64 t217, .int .i64 t218] 35 (0, 0)) (by (with_reducible repeat (first | refine blk_drewN ?_ _ | refine blk_drew ?_ | refine blk_alloc ?_ _)); refine blk_put (cs := #[.int .i64 t217, .int .i64 0]) ?_ 1 _ rfl; (with_reducible repeat (first | refine blk_drewN ?_ _ | refine blk_drew ?_ | refine blk_alloc ?_ _)); refine blk_put (cs := #[.int .i64 0, .int .i64 0]) ?_ 0 _ rfl; (with_reducible repeat (first | refine blk_drewN ?_ _ | refine blk_drew ?_ | refine blk_alloc ?_ _)); exact BK220.out) hb); have n5_ := zbs HB hb; clear HO204; clear HO216; clear BK208; clear BK220; clear HB; have HO204 := n0_; have HO216 := n1_; have HO225 := n2_; have BK208 := n3_; have BK220 := n4_; have HB := n5_; clear n0_ n1_ n2_ n3_ n4_ n5_; (try clear hb); (try clear hb2); (try clear hk); (try clear hi); (try clear ho0); obtain ⟨Ao25, co25, eo25⟩ := Kd.R_slice HO225.out; subst eo25) | ((with_reducible refine gate_callee (f := 25) rfl ?_); refine goesL_ (some 21) rfl rfl Try.func25 zq1 rfl #[.agg #[.int .i64 t221, .int .i64 t222, .slice Ao25 t223.length co25], .int .i64 14] rfl zq26 ?_; (with_reducible refine (clock_Due.calls t221 t222 _ _ t223 14 t226 t227 _ ?side1 ?side2 A6.out).mono ?_); (case side1 => repeat (first | exact (Kd.R_reads' HO225.out).2.2 | (with_reducible refine Kd.C_alloc ?_ _) | (with_reducible refine Kd.C_drewN ?_ _) | (with_reducible refine Kd.C_drew ?_))); (case side2 => exact (Kd.R_reads' HO225.out).2.1); rintro e w26 ⟨rfl, hb⟩; refine ⟨_, rfl, ?_⟩; replace HO204 := zrb HO204 hb; replace HO216 := Aside0.mk (Kd.N_below zq37 hb); replace HO225 := zrb HO225 hb; replace BK208 := zbb BK208 hb; replace BK220 := zbb BK220 hb; replace HB := zbs HB hb; (try clear hb); (try clear hb2); (try clear hk); (try clear hi); obtain ⟨hcz27_0, hcz27_1, hfz27_0, hfz27_1⟩ := zce2 BK208.out; obtain ⟨hcz28_0, hcz28_1, hfz28_0, hfz28_1⟩ := zce2 BK220.out))
    go_ret
    exact ⟨zq3, zbz⟩
   ·rw [if_neg c9] at H
    have c9b0 : (t217 == 2025 && (t218 == 2035)) = false := by simpa using c9
    (try (have c9b1 : decide (t217 = 2025 && (t218 == 2035)) = false := by simpa using c9))
    (try (have c9b2 : (t217 == 2025 && (t218 == 2035)) = false := by simpa using c9))
    (try (have c9b3 : ¬ (t217 = 2025 && (t218 == 2035)) := by simpa using c9))
    clear c9
    have hh_ := Option.some.inj H
    rw [hr_.out] at hh_
    cases hh_
  ·rw [if_neg c8] at H
   have c8b0 : (t205 == 993 && (t206 == 1007)) = false := by simpa using c8
   (try (have c8b1 : decide (t205 = 993 && (t206 == 1007)) = false := by simpa using c8))
   (try (have c8b2 : (t205 == 993 && (t206 == 1007)) = false := by simpa using c8))
   (try (have c8b3 : ¬ (t205 = 993 && (t206 == 1007)) := by simpa using c8))
   clear c8
   have hh_ := Option.some.inj H
   rw [hr_.out] at hh_
   cases hh_
 ·rw [if_neg c7] at H
  have c7b0 : ((wrap64 ((wrap64 (t207 + t219)) + t227)) == 0) = false := beq_eq_false_iff_ne.mpr c7
  have c7b1 : ((wrap64 ((wrap64 (t207 + t219)) + t227)) != 0) = true := bne_iff_ne.mpr c7
  have hh_ := Option.some.inj H
  rw [hr_.out] at hh_
  cases hh_

end Go.Proofs.Ytcjdhajdoikojaa.Pr
end
section
namespace Go.Proofs.Ytcjdhajdoikojaa.Pr
open Go.RowKit Go.Proofs.YtcjdhajdoikojaaW.PrintWords Go.Proofs.YtcjdhajdoikojaaW.PrintLast Go.Proofs.YtcjdhajdoikojaaW.PrintMore
attribute [local go_sem] max2_int min2_int max_two min_two
set_option linter.unusedVariables false
set_option linter.unusedSimpArgs false

/-! ### isobathlaw05_inside: function 23 -/
def isobathlaw05_inside.f (a0_0 : Int) (a0_1 : Int) (a1_0 : Int) (a1_1 : Int) : Option (Bool) := if a1_0 ≤ a0_0 then (some (decide (a0_1 ≤ a1_1))) else (some false)
set_option maxHeartbeats 8000000 in
set_option maxRecDepth 100000 in
theorem isobathlaw05_inside.calls (a0_0 : Int) (a0_1 : Int) (a1_0 : Int) (a1_1 : Int) (r : Bool) (w : World) (h : isobathlaw05_inside.f a0_0 a0_1 a1_0 a1_1 = some r) :
  Calls Try.prog 23 #[.agg #[.int .i64 a0_0, .int .i64 a0_1], .agg #[.int .i64 a1_0, .int .i64 a1_1]] w fun e w' => e = .returned (.bool r) ∧ Below w.heap.size w w' := by
 have hu35 := Try.underlying35
 have HB := Aside0.mk (Below.refl w.heap.size w)
 have H : (if a1_0 ≤ a0_0 then (some (decide (a0_1 ≤ a1_1))) else (some false)) = some r := h
 clear h
 by_cases c3 : a1_0 ≤ a0_0
 ·rw [if_pos c3] at H
  have c3b0 : decide (a1_0 ≤ a0_0) = true := decide_eq_true c3
  clear c3
  obtain rfl := Option.some.inj H
  go_enter Try.func23, Try.ntmps23
  go_wp2_with (first | ((with_reducible refine gate_dst (N := 2) rfl ?_); refine box_event (by rfl) (N := 2) (by rfl) (cs := #[.int .i64 a0_0, .int .i64 a0_1]) (t := 35) zq2 ?_; intro gb260 hg w4 hbox hb; have BK260 := Aside0.mk (hbox); have GW260 := zgs HB hg; have GE260 := zgs HB hg; replace HB := zbs HB hb; clear hb hbox hg) | ((with_reducible refine gate_dst (N := 3) rfl ?_); refine box_event (by rfl) (N := 3) (by rfl) (cs := #[.int .i64 a1_0, .int .i64 a1_1]) (t := 35) zq2 ?_; intro gb261 hg w5 hbox hb; have BK261 := Aside0.mk (hbox); have GW261 := zgs HB hg; have GE261 := zgs HB hg; have NB260_261 := znp BK260 hg; have NB261_260 := znq BK260 hg; replace BK260 := zbb BK260 hb; replace HB := zbs HB hb; clear hb hbox hg; have hnb6 := NB261_260.out; have hnc6 := NB260_261.out; obtain ⟨hcz7_0, hcz7_1, hfz7_0, hfz7_1⟩ := zce2 BK261.out; obtain ⟨hcz8_0, hcz8_1, hfz8_0, hfz8_1⟩ := zce2 BK260.out))
  go_ret
  exact ⟨zq3, zbz⟩
 ·rw [if_neg c3] at H
  have c3b0 : decide (a1_0 ≤ a0_0) = false := decide_eq_false c3
  clear c3
  obtain rfl := Option.some.inj H
  go_enter Try.func23, Try.ntmps23
  go_wp2_with (first | ((with_reducible refine gate_dst (N := 2) rfl ?_); refine box_event (by rfl) (N := 2) (by rfl) (cs := #[.int .i64 a0_0, .int .i64 a0_1]) (t := 35) zq2 ?_; intro gb260 hg w9 hbox hb; have BK260 := Aside0.mk (hbox); have GW260 := zgs HB hg; have GE260 := zgs HB hg; replace HB := zbs HB hb; clear hb hbox hg) | ((with_reducible refine gate_dst (N := 3) rfl ?_); refine box_event (by rfl) (N := 3) (by rfl) (cs := #[.int .i64 a1_0, .int .i64 a1_1]) (t := 35) zq2 ?_; intro gb261 hg w10 hbox hb; have BK261 := Aside0.mk (hbox); have GW261 := zgs HB hg; have GE261 := zgs HB hg; have NB260_261 := znp BK260 hg; have NB261_260 := znq BK260 hg; replace BK260 := zbb BK260 hb; replace HB := zbs HB hb; clear hb hbox hg; have hnb11 := NB261_260.out; have hnc11 := NB260_261.out; obtain ⟨hcz12_0, hcz12_1, hfz12_0, hfz12_1⟩ := zce2 BK261.out; obtain ⟨hcz13_0, hcz13_1, hfz13_0, hfz13_1⟩ := zce2 BK260.out))
  go_ret
  exact ⟨zq3, zbz⟩

end Go.Proofs.Ytcjdhajdoikojaa.Pr
end
section
namespace Go.Proofs.Ytcjdhajdoikojaa.Pr
open Go.RowKit Go.Proofs.YtcjdhajdoikojaaW.PrintWords Go.Proofs.YtcjdhajdoikojaaW.PrintLast Go.Proofs.YtcjdhajdoikojaaW.PrintMore
attribute [local go_sem] max2_int min2_int max_two min_two
set_option linter.unusedVariables false
set_option linter.unusedSimpArgs false

/-! ### clock_before: function 79 -/
def clock_before.f (a0_0 : Int) (a0_1 : Int) (a1_0 : Int) (a1_1 : Int) : Option (Int) := if a0_1 < a1_0 then (some 2) else (if a0_0 ≥ a1_1 then (some 0) else (some 1))
set_option maxHeartbeats 8000000 in
set_option maxRecDepth 100000 in
theorem clock_before.calls (a0_0 : Int) (a0_1 : Int) (a1_0 : Int) (a1_1 : Int) (r : Int) (w : World) (h : clock_before.f a0_0 a0_1 a1_0 a1_1 = some r) :
  Calls Try.prog 79 #[.agg #[.int .i64 a0_0, .int .i64 a0_1], .agg #[.int .i64 a1_0, .int .i64 a1_1]] w fun e w' => e = .returned (.int .i64 r) ∧ Below w.heap.size w w' := by
 have hu35 := Try.underlying35
 have HB := Aside0.mk (Below.refl w.heap.size w)
 have H : (if a0_1 < a1_0 then (some 2) else (if a0_0 ≥ a1_1 then (some 0) else (some 1))) = some r := h
 clear h
 by_cases c3 : a0_1 < a1_0
 ·rw [if_pos c3] at H
  have c3b0 : decide (a0_1 < a1_0) = true := decide_eq_true c3
  clear c3
  obtain rfl := Option.some.inj H
  go_enter Try.func79, Try.ntmps79
  go_wp2_with (first | ((with_reducible refine gate_dst (N := 2) rfl ?_); refine box_event (by rfl) (N := 2) (by rfl) (cs := #[.int .i64 a0_0, .int .i64 a0_1]) (t := 35) zq2 ?_; intro gb554 hg w4 hbox hb; have BK554 := Aside0.mk (hbox); have GW554 := zgs HB hg; have GE554 := zgs HB hg; replace HB := zbs HB hb; clear hb hbox hg) | ((with_reducible refine gate_dst (N := 3) rfl ?_); refine box_event (by rfl) (N := 3) (by rfl) (cs := #[.int .i64 a1_0, .int .i64 a1_1]) (t := 35) zq2 ?_; intro gb555 hg w5 hbox hb; have BK555 := Aside0.mk (hbox); have GW555 := zgs HB hg; have GE555 := zgs HB hg; have NB554_555 := znp BK554 hg; have NB555_554 := znq BK554 hg; replace BK554 := zbb BK554 hb; replace HB := zbs HB hb; clear hb hbox hg; have hnb6 := NB554_555.out; have hnc6 := NB555_554.out; obtain ⟨hcz7_0, hcz7_1, hfz7_0, hfz7_1⟩ := zce2 BK554.out; obtain ⟨hcz8_0, hcz8_1, hfz8_0, hfz8_1⟩ := zce2 BK555.out))
  go_ret
  exact ⟨zq3, zbz⟩
 ·rw [if_neg c3] at H
  have c3b0 : decide (a0_1 < a1_0) = false := decide_eq_false c3
  clear c3
  by_cases c9 : a0_0 ≥ a1_1
  ·rw [if_pos c9] at H
   have c9b0 : decide (a1_1 ≤ a0_0) = true := decide_eq_true c9
   clear c9
   obtain rfl := Option.some.inj H
   go_enter Try.func79, Try.ntmps79
   go_wp2_with (first | ((with_reducible refine gate_dst (N := 2) rfl ?_); refine box_event (by rfl) (N := 2) (by rfl) (cs := #[.int .i64 a0_0, .int .i64 a0_1]) (t := 35) zq2 ?_; intro gb554 hg w10 hbox hb; have BK554 := Aside0.mk (hbox); have GW554 := zgs HB hg; have GE554 := zgs HB hg; replace HB := zbs HB hb; clear hb hbox hg) | ((with_reducible refine gate_dst (N := 3) rfl ?_); refine box_event (by rfl) (N := 3) (by rfl) (cs := #[.int .i64 a1_0, .int .i64 a1_1]) (t := 35) zq2 ?_; intro gb555 hg w11 hbox hb; have BK555 := Aside0.mk (hbox); have GW555 := zgs HB hg; have GE555 := zgs HB hg; have NB554_555 := znp BK554 hg; have NB555_554 := znq BK554 hg; replace BK554 := zbb BK554 hb; replace HB := zbs HB hb; clear hb hbox hg; have hnb12 := NB554_555.out; have hnc12 := NB555_554.out; obtain ⟨hcz13_0, hcz13_1, hfz13_0, hfz13_1⟩ := zce2 BK554.out; obtain ⟨hcz14_0, hcz14_1, hfz14_0, hfz14_1⟩ := zce2 BK555.out))
   go_ret
   exact ⟨zq3, zbz⟩
  ·rw [if_neg c9] at H
   have c9b0 : decide (a1_1 ≤ a0_0) = false := decide_eq_false c9
   clear c9
   obtain rfl := Option.some.inj H
   go_enter Try.func79, Try.ntmps79
   go_wp2_with (first | ((with_reducible refine gate_dst (N := 2) rfl ?_); refine box_event (by rfl) (N := 2) (by rfl) (cs := #[.int .i64 a0_0, .int .i64 a0_1]) (t := 35) zq2 ?_; intro gb554 hg w15 hbox hb; have BK554 := Aside0.mk (hbox); have GW554 := zgs HB hg; have GE554 := zgs HB hg; replace HB := zbs HB hb; clear hb hbox hg) | ((with_reducible refine gate_dst (N := 3) rfl ?_); refine box_event (by rfl) (N := 3) (by rfl) (cs := #[.int .i64 a1_0, .int .i64 a1_1]) (t := 35) zq2 ?_; intro gb555 hg w16 hbox hb; have BK555 := Aside0.mk (hbox); have GW555 := zgs HB hg; have GE555 := zgs HB hg; have NB554_555 := znp BK554 hg; have NB555_554 := znq BK554 hg; replace BK554 := zbb BK554 hb; replace HB := zbs HB hb; clear hb hbox hg; have hnb17 := NB554_555.out; have hnc17 := NB555_554.out; obtain ⟨hcz18_0, hcz18_1, hfz18_0, hfz18_1⟩ := zce2 BK554.out; obtain ⟨hcz19_0, hcz19_1, hfz19_0, hfz19_1⟩ := zce2 BK555.out))
   go_ret
   exact ⟨zq3, zbz⟩

end Go.Proofs.Ytcjdhajdoikojaa.Pr
end
