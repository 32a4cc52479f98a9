/- Part 5 of the ground of ClockHolds, ClockSlow: what the functions compute. No condition. -/
import Derived.Test.YtcjdhajdoikojaaDha4
import Derived.Test.YtcjdhajdoikojaaDha1
section
/- The reading at which the offset becomes too wide, as the program finds it by halving. -/
namespace Go.Proofs.Ytcjdhajdoikojaa.Clk
open Go.RowKit Go.Shelf Go.Proofs.YtcjdhajdoikojaaW.PrintWords Go.Proofs.YtcjdhajdoikojaaW.PrintLast Go.Proofs.YtcjdhajdoikojaaW.PrintMore Go.Proofs.Ytcjdhajdoikojaa.Pr Go.Proofs.YtcjdhajdoikojaaW.Round
set_option linter.unusedVariables false
set_option linter.unusedSimpArgs false

/-- Is the offset wider than a limit? -/
def wideI (rate : Int) (ys : List S105) (limit t : Int) : Bool := decide (limit < wrap64 ((atI rate ys t).2 - (atI rate ys t).1))
/-- What the closure of Due reads. -/
def DueEnv (W : World) (b6 b8 b3 g : Nat) (par rate : Int) (ys : List S105) (last limit : Int) : Prop := Blk W b6 #[.pointer (some ⟨g, 0, none⟩)] 99 ∧ Blk W b8 #[.int .i64 last] 2 ∧ Blk W b3 #[.int .i64 limit] 2 ∧ FaceAt W g par rate ys
theorem DueEnv.below {W W1 : World} {b6 b8 b3 g : Nat} {par rate : Int} {ys : List S105} {last limit : Int} (h : DueEnv W b6 b8 b3 g par rate ys last limit) (hb : Below W.heap.size W W1) : DueEnv W1 b6 b8 b3 g par rate ys last limit :=
  ⟨h.1.below hb, h.2.1.below hb, h.2.2.1.below hb, h.2.2.2.below hb⟩
set_option maxRecDepth 100000 in
set_option maxHeartbeats 2000000 in
theorem due2_any (b6 b8 b3 g : Nat) (par rate : Int) (ys : List S105) (hl : ys.length ≤ 1000) (last limit i : Int) (w : World) (h : DueEnv w b6 b8 b3 g par rate ys last limit) :
    Calls Try.prog 63 #[.int .i64 i, .pointer (some ⟨b6, 0, none⟩), .pointer (some ⟨b8, 0, none⟩), .pointer (some ⟨b3, 0, none⟩)] w (RetB (.bool (wideI rate ys limit (wrap64 (last + i)))) w) := by
  have hu35 := Try.underlying35
  obtain ⟨h6, h8, h3, hF⟩ := h
  have c6 := (blk_cell h6 0).trans rfl
  have c8 := (blk_cell h8 0).trans rfl
  have c3 := (blk_cell h3 0).trans rfl
  have HW : Hid (wideI rate ys limit (wrap64 (last + i)) = decide (limit < wrap64 ((atI rate ys (wrap64 (last + i))).2 - (atI rate ys (wrap64 (last + i))).1))) := Lib.hid rfl
  go_enter Try.func63, Try.ntmps63
  go_wp2_with fail
  have hcon := at_any g par rate ys hl (wrap64 (last + i)) w hF
  (with_reducible refine hcon.mono ?_)
  clear hcon
  rintro e W2 ⟨rfl, hb⟩
  have q3 : ∀ o_, (W2.alloc o_).cell? ⟨b3, 0, none⟩ = some (.int .i64 limit) := fun o_ => (blk_cell (blk_alloc (h3.below hb) o_) 0).trans rfl
  generalize atI rate ys (wrap64 (last + i)) = R at *
  obtain ⟨P1, P2⟩ := R
  dsimp only at HW ⊢
  go_wp2
  go_ret
  exact ⟨by rw [HW.out]; rfl, by repeat (first | exact hb | apply below_alloc | exact hb.size)⟩

/-- Halving. -/
def searchI (p : Int → Bool) : Nat → Int → Int → Int
  | 0, i, _ => i
  | f + 1, i, j => if i < j then (if p ((i + j) / 2) = true then searchI p f i ((i + j) / 2) else searchI p f ((i + j) / 2 + 1) j) else i
theorem searchI_end (p : Int → Bool) (f : Nat) (i : Int) : searchI p f i i = i := by
  cases f with
  | zero => rfl
  | succ f => rw [searchI, if_neg (by omega)]
set_option maxRecDepth 100000 in
set_option maxHeartbeats 4000000 in
theorem search_any (b6 b8 b3 g : Nat) (par rate : Int) (ys : List S105) (hl : ys.length ≤ 1000) (last limit n : Int) (w : World) (hn0 : 0 ≤ n) (hn1 : n ≤ 2251799813685248) (h : DueEnv w b6 b8 b3 g par rate ys last limit) :
    Calls Try.prog 62 #[.int .i64 n, .func (.func 63) #[] #[.pointer (some ⟨b6, 0, none⟩), .pointer (some ⟨b8, 0, none⟩), .pointer (some ⟨b3, 0, none⟩)]] w (RetB (.int .i64 (searchI (fun i => wideI rate ys limit (wrap64 (last + i))) n.toNat 0 n)) w) := by
  go_enter Try.func62, Try.ntmps62
  go_wp2
  go_loopw [5, 6] (fun vi vj wr => ∃ (i j : Int) (f : Nat), vi = .int .i64 i ∧ vj = .int .i64 j ∧ 0 ≤ i ∧ i ≤ j ∧ j ≤ n ∧ j - i ≤ (f : Int) ∧ Hid (searchI (fun i => wideI rate ys limit (wrap64 (last + i))) f i j = searchI (fun i => wideI rate ys limit (wrap64 (last + i))) n.toNat 0 n) ∧ Below w.heap.size w wr) (fun vi vj _ => (intOf vj - intOf vi).toNat)
  case atStart => exact ⟨0, n, n.toNat, rfl, rfl, by omega, by omega, by omega, by omega, Lib.hid rfl, Below.refl _ _⟩
  case round =>
    obtain ⟨i, j, f, rfl, rfl, hi, hij, hj, hf, HS, mB⟩ := hrel
    by_cases hlt : i < j
    · have w1 : wrap64 (i + j) = i + j := by unfold wrap64; omega
      have w2 : IntKind.wrap .u64 (i + j) = i + j := by unfold IntKind.wrap; simp [IntKind.bits, IntKind.signed]; omega
      have hq0 : 0 ≤ (i + j) / 2 := by omega
      have hq1 : (i + j) / 2 < j := by omega
      have hq2 : i ≤ (i + j) / 2 := by omega
      have hlt2 := eq_true hlt
      have hf1 : ∃ f1, f = f1 + 1 := ⟨f - 1, by omega⟩
      obtain ⟨f, rfl⟩ := hf1
      have hst : searchI (fun i => wideI rate ys limit (wrap64 (last + i))) (f + 1) i j = if wideI rate ys limit (wrap64 (last + (i + j) / 2)) = true then searchI (fun i => wideI rate ys limit (wrap64 (last + i))) f i ((i + j) / 2) else searchI (fun i => wideI rate ys limit (wrap64 (last + i))) f ((i + j) / 2 + 1) j := by rw [searchI, if_pos hlt]
      have HT := Lib.hid hst
      clear hst
      go_wp2_with fail
      have hcon := due2_any b6 b8 b3 g par rate ys hl last limit ((i + j) / 2) wr (h.below mB)
      (with_reducible refine hcon.mono ?_)
      clear hcon
      rintro e W2 ⟨rfl, hb⟩
      replace mB := below_step mB hb
      clear hb
      generalize hv : wideI rate ys limit (wrap64 (last + (i + j) / 2)) = v at HT ⊢
      clear hv
      have w3 : wrap64 ((i + j) / 2 + 1) = (i + j) / 2 + 1 := by unfold wrap64; omega
      cases v with
      | true =>
        have HT2 := Lib.hid (HT.out.symm.trans HS.out)
        rw [if_pos rfl] at HT2
        clear HT HS
        go_wp2
        go_roundw
        case rel => exact ⟨i, (i + j) / 2, f, rfl, rfl, by omega, by omega, by omega, by omega, HT2, mB⟩
        case measure => simp [intOf]; omega
      | false =>
        have HT2 := Lib.hid (HT.out.symm.trans HS.out)
        rw [if_neg (by decide)] at HT2
        clear HT HS
        go_wp2
        go_roundw
        case rel => exact ⟨(i + j) / 2 + 1, j, f, rfl, rfl, by omega, by omega, by omega, by omega, HT2, mB⟩
        case measure => simp [intOf]; omega
    · obtain rfl : i = j := by omega
      rw [searchI_end] at HS
      have hlt2 : (i < i) = False := eq_false (by omega)
      go_wp2
      go_ret
      exact ⟨by rw [← HS.out]; rfl, mB⟩

theorem searchI_range (p : Int → Bool) : ∀ (f : Nat) (i j : Int), i ≤ j → i ≤ searchI p f i j ∧ searchI p f i j ≤ j
  | 0, i, j, h => ⟨Int.le_refl _, h⟩
  | f + 1, i, j, h => by
    rw [searchI]
    by_cases h1 : i < j
    · rw [if_pos h1]
      by_cases h2 : p ((i + j) / 2) = true
      · rw [if_pos h2]
        have := searchI_range p f i ((i + j) / 2) (by omega)
        omega
      · rw [if_neg h2]
        have := searchI_range p f ((i + j) / 2 + 1) j (by omega)
        omega
    · rw [if_neg h1]
      omega
theorem FaceR.set {W : World} {g b t : Nat} {par rate : Int} {ys : List S105} {cells : Array Value} (h : FaceR W g par rate ys) (hb : W.heap[b]? = some (.cells cells t (0, 0))) (h1 : t ≠ 109) (h2 : t ≠ 105) (j : Nat) (u : Value) : FaceR (W.setCell ⟨b, j, none⟩ u) g par rate ys := by
  obtain ⟨v, base, k1, k2⟩ := h
  refine ⟨v, base, blk_far (p := ⟨b, j, none⟩) k1 (fun e => ?_) u, Kd.R_set k2 hb (fun q hq => by obtain rfl := List.mem_singleton.1 (show q ∈ [105] from hq); exact fun e => h2 e.symm) j u⟩
  have e' : g = b := e
  subst e'
  rw [show W.heap[g]? = _ from k1] at hb
  injection hb with hb
  injection hb with _ hb _
  exact h1 hb.symm
theorem SoundRes.set {W : World} {b t B : Nat} {par rate : Int} {xs : List S46} {between : Int} {ptr : Option Addr} {cells : Array Value} (h : SoundRes par rate xs between B ptr W) (hb : W.heap[b]? = some (.cells cells t (0, 0))) (h1 : t ≠ 109) (h2 : t ≠ 105) (j : Nat) (u : Value) : SoundRes par rate xs between B ptr (W.setCell ⟨b, j, none⟩ u) := by
  rcases h with ⟨h0, g, k1, k2, k3⟩ | h
  · exact .inl ⟨h0, g, k1, k2, k3.set hb h1 h2 j u⟩
  · exact .inr h
theorem SoundRes.weak {W : World} {B B' : Nat} {par rate : Int} {xs : List S46} {between : Int} {ptr : Option Addr} (h : SoundRes par rate xs between B' ptr W) (hB : B ≤ B') : SoundRes par rate xs between B ptr W := by
  rcases h with ⟨h0, g, k1, k2, k3⟩ | h
  · exact .inl ⟨h0, g, k1, Nat.le_trans hB k2, k3⟩
  · exact .inr h
theorem maxStep_mem (m x : S105) : maxStep m x = x ∨ maxStep m x = m := by
  unfold maxStep
  by_cases h : 0 < cmpI x m
  · exact .inl (if_pos h)
  · exact .inr (if_neg h)
theorem foldl_max_all (P : S105 → Prop) : ∀ (l : List S105) (m : S105), P m → (∀ x ∈ l, P x) → P (l.foldl maxStep m)
  | [], m, hm, _ => hm
  | x :: l, m, hm, hl => foldl_max_all P l _ (by
      rcases maxStep_mem m x with e | e
      · rw [e]; exact hl x List.mem_cons_self
      · rw [e]; exact hm) (fun y hy => hl y (List.mem_cons_of_mem _ hy))
theorem maxA_all (P : S105 → Prop) (ys : List S105) (h1 : 1 ≤ ys.length) (h : ∀ x ∈ ys, P x) : P (maxA ys) := by
  cases ys with
  | nil => simp at h1
  | cons a l => exact foldl_max_all P _ _ (h a List.mem_cons_self) (fun x hx => h x (List.mem_cons_of_mem _ hx))
theorem faceE_one {par rate : Int} {xs : List S46} (h : faceE par rate xs = 0) : 1 ≤ xs.length ∧ ∀ x ∈ xs, okE rate x = true := by
  unfold faceE at h
  by_cases hl : xs.length < 1 ∨ xs.length > 64
  · rw [if_pos hl] at h
    cases h
  rw [if_neg hl] at h
  by_cases hp : par < -1 ∨ rate < 0 ∨ rate > 1000000
  · rw [if_pos hp] at h
    cases h
  rw [if_neg hp] at h
  by_cases ha : xs.all (okE rate) = true
  · exact ⟨by omega, fun x hx => List.all_eq_true.1 ha x hx⟩
  · rw [if_neg ha] at h
    cases h
theorem soundE_face {par rate : Int} {xs : List S46} {between : Int} (h : soundE par rate xs between = 0) : faceE par rate xs = 0 := by
  unfold soundE at h
  by_cases h0 : faceE par rate xs = 0
  · exact h0
  · rw [if_pos h0] at h
    exact absurd h h0
theorem okE_back {rate : Int} {x : S46} (h : okE rate x = true) : 0 ≤ x.f3 ∧ x.f3 ≤ 1125899906842624 := by
  unfold okE okX okT at h
  simp only [Bool.and_eq_true, decide_eq_true_eq] at h
  omega
theorem last_range {par rate : Int} {xs : List S46} {between : Int} (h : soundE par rate xs between = 0) : 0 ≤ (maxA (xs.map (anchorI rate))).f1 ∧ (maxA (xs.map (anchorI rate))).f1 ≤ 1125899906842624 := by
  obtain ⟨h1, h2⟩ := faceE_one (soundE_face h)
  refine maxA_all (fun a => 0 ≤ a.f1 ∧ a.f1 ≤ 1125899906842624) _ (by rw [List.length_map]; exact h1) ?_
  intro a ha
  obtain ⟨x, hx, rfl⟩ := List.mem_map.1 ha
  exact okE_back (h2 x hx)

def lastI (rate : Int) (xs : List S46) : Int := (maxA (xs.map (anchorI rate))).f1
def dueN (rate : Int) (xs : List S46) (limit : Int) : Int := searchI (fun i => wideI rate (xs.map (anchorI rate)) limit (wrap64 (lastI rate xs + i))) (1125899906842624 - lastI rate xs + 1).toNat 0 (1125899906842624 - lastI rate xs + 1)
def dueI (par rate : Int) (xs : List S46) (limit : Int) : Int × Int :=
  if soundE par rate xs (withinI limit 0 1073741824) ≠ 0 then (0, soundE par rate xs (withinI limit 0 1073741824)) else if 1125899906842624 < lastI rate xs + dueN rate xs limit then (0, 15) else (lastI rate xs + dueN rate xs limit, 0)
set_option maxRecDepth 100000 in
set_option maxHeartbeats 8000000 in
theorem Due_any (par rate : Int) (A : Option Addr) (c : Nat) (xs : List S46) (limit : Int) (w : World) (hC : Kd.C k46 w A xs.length xs) (hc : xs.length ≤ c) :
    Calls Try.prog 25 #[.agg #[.int .i64 par, .int .i64 rate, .slice A xs.length c], .int .i64 limit] w (RetB (.tuple #[.int .i64 (dueI par rate xs limit).1, .int .i64 (dueI par rate xs limit).2]) w) := by
  have hu30 := Try.underlying30
  have hu109 := Try.underlying109
  have hu105 := Try.underlying105
  have hfd1 : ∀ (x0_ x1_ x2_ : Value) (W_ : World), (Instr.field 105 (.agg #[x0_, x1_, x2_]) 1).run Try.prog W_ = .ok (x2_) W_ := fun _ _ _ W_ => by kernel_rfl
  have HD : Hid (dueI par rate xs limit = if soundE par rate xs (withinI limit 0 1073741824) ≠ 0 then (0, soundE par rate xs (withinI limit 0 1073741824)) else if 1125899906842624 < lastI rate xs + dueN rate xs limit then (0, 15) else (lastI rate xs + dueN rate xs limit, 0)) := Lib.hid rfl
  go_enter Try.func25, Try.ntmps25
  go_wp2_with fail
  have m2 : Blk ((w.alloc (.cells #[.int .i64 par, .int .i64 rate, .slice A xs.length c] 30)).alloc (.cells #[.int .i64 limit] 2)) (w.heap.size) #[.int .i64 par, .int .i64 rate, .slice A xs.length c] 30 := (blk_alloc (by have h_ := blk_new w (.cells #[.int .i64 par, .int .i64 rate, .slice A xs.length c] 30); first | exact h_ | (simp only [World.size_alloc] at h_; exact h_)) _)
  have m3 : Blk ((w.alloc (.cells #[.int .i64 par, .int .i64 rate, .slice A xs.length c] 30)).alloc (.cells #[.int .i64 limit] 2)) (w.heap.size + 1) #[.int .i64 limit] 2 := (by have h_ := blk_new (w.alloc (.cells #[.int .i64 par, .int .i64 rate, .slice A xs.length c] 30)) (.cells #[.int .i64 limit] 2); first | exact h_ | (simp only [World.size_alloc] at h_; exact h_))
  have mB : Below w.heap.size w ((w.alloc (.cells #[.int .i64 par, .int .i64 rate, .slice A xs.length c] 30)).alloc (.cells #[.int .i64 limit] 2)) := (below_alloc (below_alloc (Below.refl w.heap.size w) _) _)
  have hsz_ : w.heap.size ≤ w.heap.size := Nat.le_refl _
  generalize hW_ : ((w.alloc (.cells #[.int .i64 par, .int .i64 rate, .slice A xs.length c] 30)).alloc (.cells #[.int .i64 limit] 2)) = W1 at m2 m3 mB ⊢
  clear hW_
  generalize hg2 : w.heap.size = g2 at m2 m3 ⊢
  have hG2 : w.heap.size ≤ g2 := by omega
  generalize hg3 : g2 + 1 = g3 at m3 ⊢
  have hn_2_3 : g2 ≠ g3 := by omega
  have hn_3_2 : g3 ≠ g2 := hn_2_3.symm
  have hG3 : w.heap.size ≤ g3 := by omega
  clear hsz_
  try clear hg3
  try clear hg2
  have hs_W1 : w.heap.size ≤ W1.heap.size := mB.size
  replace m2 := blk_drew m2
  replace m3 := blk_drew m3
  replace mB := below_drew1 mB
  refine start_ (n := 10) (S := fun w' => w'.cell? ⟨g2, 0, none⟩ = some (.int .i64 par) ∧ w'.cell? ⟨g2, 1, none⟩ = some (.int .i64 rate) ∧ w'.cell? ⟨g2, 2, none⟩ = some (.slice A xs.length c) ∧ w'.cell? ⟨g3, 0, none⟩ = some (.int .i64 limit)) (ds := []) #[false, false, false, false, false, false, false, false, false, false] (by kernel_rfl) rfl rfl ⟨((blk_cell m2 0).trans rfl), ((blk_cell m2 1).trans rfl), ((blk_cell m2 2).trans rfl), ((blk_cell m3 0).trans rfl)⟩ (fun hHeld => ?_)
  generalize hWd : World.drew _ = Wx at *
  clear hWd
  refine take_ (i := 0) (N := some 11) (v := ?_) (a' := ?_) #[true, false, false, false, false, false, false, false, false, false] rfl rfl (by kernel_rfl) (fun _ _ _ h => h) (Or.inl ⟨by rfl, ?_⟩) hHeld ?_ ?_
  rotate_left
  · rintro w' ⟨s0, s1, s2, s3⟩
    go_simp
    with_reducible rfl
  rotate_left
  · simp only [Act.put, List.setIfInBounds_toArray, List.set_cons_zero, List.set_cons_succ, i64_w, i32_w]
    rfl
  refine take_ (i := 1) (N := some 12) (v := ?_) (a' := ?_) #[true, true, false, false, false, false, false, false, false, false] rfl rfl (by kernel_rfl) (fun _ _ _ h => h) (Or.inl ⟨by rfl, ?_⟩) hHeld ?_ ?_
  rotate_left
  · rintro w' ⟨s0, s1, s2, s3⟩
    go_simp
    with_reducible rfl
  rotate_left
  · simp only [Act.put, List.setIfInBounds_toArray, List.set_cons_zero, List.set_cons_succ, i64_w, i32_w]
    rfl
  refine join_ (σ := Nat × (Option Addr)) 2 #[true, true, true, true, true, true, true, true, false, false] (fun s => [(13, .int .i64 (withinI limit 0 1073741824)), (14, .tuple #[.pointer s.2, .int .i64 (soundE par rate xs (withinI limit 0 1073741824))]), (10, .tuple #[.pointer s.2, .int .i64 (soundE par rate xs (withinI limit 0 1073741824))]), (15, .pointer s.2), (16, .int .i64 (soundE par rate xs (withinI limit 0 1073741824))), (6, .pointer (some ⟨s.1, 0, none⟩))]) (fun s w' => Blk w' g2 #[.int .i64 par, .int .i64 rate, .slice A xs.length c] 30 ∧ Blk w' g3 #[.int .i64 limit] 2 ∧ Blk w' (s.1) #[.pointer none] 99 ∧ Below w.heap.size w w' ∧ w.heap.size ≤ s.1 ∧ g2 ≠ s.1 ∧ g3 ≠ s.1 ∧ SoundRes par rate xs (withinI limit 0 1073741824) w.heap.size (s.2) w') ?_ ?_
  rotate_left
  · intro hCont
    refine two_ (i := 2) (j := 7) (Ni := some 13) (Nj := some 6) #[true, true, true, false, false, false, false, false, false, false] #[true, true, false, false, false, false, false, true, false, false] rfl rfl rfl rfl (by kernel_rfl) (by decide) (by decide) (fun K hK => ?_) (fun K hK => ?_)
    · skip
      have hcon_ := within_any limit 0 1073741824 Wx
      refine goes_ Try.func57 (by kernel_rfl) rfl #[.int .i64 limit, .int .i64 0, .int .i64 1073741824] (by rfl) rfl rfl (by simp only [List.map_toArray, List.map_cons, List.map_nil]; rfl) ?_
      with_reducible refine (hcon_).mono ?_
      rintro e w2 ⟨rfl, hb⟩
      refine ⟨_, rfl, ?_⟩
      clear hcon_
      replace m2 := blk_below m2 hb
      replace m3 := blk_below m3 hb
      replace mB := below_step mB hb
      clear hb
      refine hK.out _ _ ⟨((blk_cell m2 0).trans rfl), ((blk_cell m2 1).trans rfl), ((blk_cell m2 2).trans rfl), ((blk_cell m3 0).trans rfl)⟩ (fun hHeld => ?_)
      clear hK K
      refine norm_ (a' := ?_) ?_ ?_
      rotate_left
      · show Act.put _ (some 13) _ = _
        simp only [Act.put, List.setIfInBounds_toArray, List.set_cons_zero, List.set_cons_succ, i64_w, i32_w]
        rfl
      refine two_ (i := 3) (j := 7) (Ni := some 14) (Nj := some 6) #[true, true, true, true, false, false, false, false, false, false] #[true, true, true, false, false, false, false, true, false, false] rfl rfl rfl rfl (by kernel_rfl) (by decide) (by decide) (fun K hK => ?_) (fun K hK => ?_)
      · skip
        have hcon_ := newSound_any par rate A c xs (withinI limit 0 1073741824) w2 (Kd.C_below hC mB) hc
        refine goes_ Try.func56 (by kernel_rfl) rfl #[.agg #[.int .i64 par, .int .i64 rate, .slice A xs.length c], .int .i64 (withinI limit 0 1073741824)] (by rfl) rfl rfl (by simp only [List.map_toArray, List.map_cons, List.map_nil]; rfl) ?_
        with_reducible refine (hcon_).mono ?_
        rintro e w3 ⟨ptr, rfl, hb, hcase⟩
        refine ⟨_, rfl, ?_⟩
        clear hcon_
        replace hcase : SoundRes par rate xs (withinI limit 0 1073741824) w.heap.size ptr w3 := SoundRes.weak hcase mB.size
        replace m2 := blk_below m2 hb
        replace m3 := blk_below m3 hb
        replace mB := below_step mB hb
        clear hb
        refine hK.out _ _ ⟨((blk_cell m2 0).trans rfl), ((blk_cell m2 1).trans rfl), ((blk_cell m2 2).trans rfl), ((blk_cell m3 0).trans rfl)⟩ (fun hHeld => ?_)
        clear hK K
        refine norm_ (a' := ?_) ?_ ?_
        rotate_left
        · show Act.put _ (some 14) _ = _
          simp only [Act.put, List.setIfInBounds_toArray, List.set_cons_zero, List.set_cons_succ, i64_w, i32_w]
          rfl
        refine pure_ (i := 4) (N := some 10) (v := ?_) (a' := ?_) #[true, true, true, true, true, false, false, false, false, false] rfl rfl (by kernel_rfl) (fun _ _ _ h => h) (Or.inl ⟨by rfl, ?_⟩) ?_ ?_
        rotate_left
        · intro w'
          go_simp
          with_reducible rfl
        rotate_left
        · simp only [Act.put, List.setIfInBounds_toArray, List.set_cons_zero, List.set_cons_succ, i64_w, i32_w]
          rfl
        refine pure_ (i := 5) (N := some 15) (v := ?_) (a' := ?_) #[true, true, true, true, true, true, false, false, false, false] rfl rfl (by kernel_rfl) (fun _ _ _ h => h) (Or.inl ⟨by rfl, ?_⟩) ?_ ?_
        rotate_left
        · intro w'
          go_simp
          with_reducible rfl
        rotate_left
        · simp only [Act.put, List.setIfInBounds_toArray, List.set_cons_zero, List.set_cons_succ, i64_w, i32_w]
          rfl
        refine pure_ (i := 6) (N := some 16) (v := ?_) (a' := ?_) #[true, true, true, true, true, true, true, false, false, false] rfl rfl (by kernel_rfl) (fun _ _ _ h => h) (Or.inl ⟨by rfl, ?_⟩) ?_ ?_
        rotate_left
        · intro w'
          go_simp
          with_reducible rfl
        rotate_left
        · simp only [Act.put, List.setIfInBounds_toArray, List.set_cons_zero, List.set_cons_succ, i64_w, i32_w]
          rfl
        refine one_ (i := 7) (N := some 6) #[true, true, true, true, true, true, true, true, false, false] rfl rfl (by kernel_rfl) (by decide) (fun K hK => ?_)
        have hn_2_6 : g2 ≠ w3.heap.size := by have h_ := blk_lt m2; omega
        have hn_3_6 : g3 ≠ w3.heap.size := by have h_ := blk_lt m3; omega
        have hG6 : w.heap.size ≤ w3.heap.size := by have h_ := mB.size; omega
        replace hcase := hcase.below (below_alloc (Below.refl _ _) (.cells #[.pointer none] 99))
        replace m2 := blk_alloc m2 (.cells #[.pointer none] 99)
        replace m3 := blk_alloc m3 (.cells #[.pointer none] 99)
        have m6 : Blk (w3.alloc (.cells #[.pointer none] 99)) (w3.heap.size) #[.pointer none] 99 := by have h_ := blk_new w3 (.cells #[.pointer none] 99); first | exact h_ | (simp only [World.size_alloc] at h_; exact h_)
        replace mB := below_alloc mB (.cells #[.pointer none] 99)
        refine value_ (w1 := ?_) (v := ?_) (by rfl) rfl ?_ ?_
        rotate_left 2
        · go_simp
          constructor
          · rfl
          · rfl
        refine hK.out _ _ ⟨((blk_cell m2 0).trans rfl), ((blk_cell m2 1).trans rfl), ((blk_cell m2 2).trans rfl), ((blk_cell m3 0).trans rfl)⟩ (fun hHeld => ?_)
        clear hK K
        refine norm_ (a' := ?_) ?_ ?_
        rotate_left
        · show Act.put _ (some 6) _ = _
          simp only [Act.put, List.setIfInBounds_toArray, List.set_cons_zero, List.set_cons_succ, i64_w, i32_w]
          rfl
        exact norm_ (by first | (simp only [putAll, Act.put, List.setIfInBounds_toArray, List.set_cons_zero, List.set_cons_succ]; done) | (simp only [putAll, Act.put, List.setIfInBounds_toArray, List.set_cons_zero, List.set_cons_succ]; rfl)) (hCont ((w3.heap.size, ptr)) _ ⟨m2, m3, m6, mB, hG6, hn_2_6, hn_3_6, hcase⟩)
      · skip
        have hn_2_6 : g2 ≠ w2.heap.size := by have h_ := blk_lt m2; omega
        have hn_3_6 : g3 ≠ w2.heap.size := by have h_ := blk_lt m3; omega
        have hG6 : w.heap.size ≤ w2.heap.size := by have h_ := mB.size; omega
        replace m2 := blk_alloc m2 (.cells #[.pointer none] 99)
        replace m3 := blk_alloc m3 (.cells #[.pointer none] 99)
        have m6 : Blk (w2.alloc (.cells #[.pointer none] 99)) (w2.heap.size) #[.pointer none] 99 := by have h_ := blk_new w2 (.cells #[.pointer none] 99); first | exact h_ | (simp only [World.size_alloc] at h_; exact h_)
        replace mB := below_alloc mB (.cells #[.pointer none] 99)
        refine value_ (w1 := ?_) (v := ?_) (by rfl) rfl ?_ ?_
        rotate_left 2
        · go_simp
          constructor
          · rfl
          · rfl
        refine hK.out _ _ ⟨((blk_cell m2 0).trans rfl), ((blk_cell m2 1).trans rfl), ((blk_cell m2 2).trans rfl), ((blk_cell m3 0).trans rfl)⟩ (fun hHeld => ?_)
        clear hK K
        refine norm_ (a' := ?_) ?_ ?_
        rotate_left
        · show Act.put _ (some 6) _ = _
          simp only [Act.put, List.setIfInBounds_toArray, List.set_cons_zero, List.set_cons_succ, i64_w, i32_w]
          rfl
        refine one_ (i := 3) (N := some 14) #[true, true, true, true, false, false, false, true, false, false] rfl rfl (by kernel_rfl) (by decide) (fun K hK => ?_)
        have hcon_ := newSound_any par rate A c xs (withinI limit 0 1073741824) (w2.alloc (.cells #[.pointer none] 99)) (Kd.C_below hC mB) hc
        refine goes_ Try.func56 (by kernel_rfl) rfl #[.agg #[.int .i64 par, .int .i64 rate, .slice A xs.length c], .int .i64 (withinI limit 0 1073741824)] (by rfl) rfl rfl (by simp only [List.map_toArray, List.map_cons, List.map_nil]; rfl) ?_
        with_reducible refine (hcon_).mono ?_
        rintro e w3 ⟨ptr, rfl, hb, hcase⟩
        refine ⟨_, rfl, ?_⟩
        clear hcon_
        replace hcase : SoundRes par rate xs (withinI limit 0 1073741824) w.heap.size ptr w3 := SoundRes.weak hcase mB.size
        replace m2 := blk_below m2 hb
        replace m3 := blk_below m3 hb
        replace m6 := blk_below m6 hb
        replace mB := below_step mB hb
        clear hb
        refine hK.out _ _ ⟨((blk_cell m2 0).trans rfl), ((blk_cell m2 1).trans rfl), ((blk_cell m2 2).trans rfl), ((blk_cell m3 0).trans rfl)⟩ (fun hHeld => ?_)
        clear hK K
        refine norm_ (a' := ?_) ?_ ?_
        rotate_left
        · show Act.put _ (some 14) _ = _
          simp only [Act.put, List.setIfInBounds_toArray, List.set_cons_zero, List.set_cons_succ, i64_w, i32_w]
          rfl
        refine pure_ (i := 4) (N := some 10) (v := ?_) (a' := ?_) #[true, true, true, true, true, false, false, true, false, false] rfl rfl (by kernel_rfl) (fun _ _ _ h => h) (Or.inl ⟨by rfl, ?_⟩) ?_ ?_
        rotate_left
        · intro w'
          go_simp
          with_reducible rfl
        rotate_left
        · simp only [Act.put, List.setIfInBounds_toArray, List.set_cons_zero, List.set_cons_succ, i64_w, i32_w]
          rfl
        refine pure_ (i := 5) (N := some 15) (v := ?_) (a' := ?_) #[true, true, true, true, true, true, false, true, false, false] rfl rfl (by kernel_rfl) (fun _ _ _ h => h) (Or.inl ⟨by rfl, ?_⟩) ?_ ?_
        rotate_left
        · intro w'
          go_simp
          with_reducible rfl
        rotate_left
        · simp only [Act.put, List.setIfInBounds_toArray, List.set_cons_zero, List.set_cons_succ, i64_w, i32_w]
          rfl
        refine pure_ (i := 6) (N := some 16) (v := ?_) (a' := ?_) #[true, true, true, true, true, true, true, true, false, false] rfl rfl (by kernel_rfl) (fun _ _ _ h => h) (Or.inl ⟨by rfl, ?_⟩) ?_ ?_
        rotate_left
        · intro w'
          go_simp
          with_reducible rfl
        rotate_left
        · simp only [Act.put, List.setIfInBounds_toArray, List.set_cons_zero, List.set_cons_succ, i64_w, i32_w]
          rfl
        exact norm_ (by first | (simp only [putAll, Act.put, List.setIfInBounds_toArray, List.set_cons_zero, List.set_cons_succ]; done) | (simp only [putAll, Act.put, List.setIfInBounds_toArray, List.set_cons_zero, List.set_cons_succ]; rfl)) (hCont ((w2.heap.size, ptr)) _ ⟨m2, m3, m6, mB, hG6, hn_2_6, hn_3_6, hcase⟩)
    · skip
      have hn_2_6 : g2 ≠ Wx.heap.size := by have h_ := blk_lt m2; omega
      have hn_3_6 : g3 ≠ Wx.heap.size := by have h_ := blk_lt m3; omega
      have hG6 : w.heap.size ≤ Wx.heap.size := by have h_ := mB.size; omega
      replace m2 := blk_alloc m2 (.cells #[.pointer none] 99)
      replace m3 := blk_alloc m3 (.cells #[.pointer none] 99)
      have m6 : Blk (Wx.alloc (.cells #[.pointer none] 99)) (Wx.heap.size) #[.pointer none] 99 := by have h_ := blk_new Wx (.cells #[.pointer none] 99); first | exact h_ | (simp only [World.size_alloc] at h_; exact h_)
      replace mB := below_alloc mB (.cells #[.pointer none] 99)
      refine value_ (w1 := ?_) (v := ?_) (by rfl) rfl ?_ ?_
      rotate_left 2
      · go_simp
        constructor
        · rfl
        · rfl
      refine hK.out _ _ ⟨((blk_cell m2 0).trans rfl), ((blk_cell m2 1).trans rfl), ((blk_cell m2 2).trans rfl), ((blk_cell m3 0).trans rfl)⟩ (fun hHeld => ?_)
      clear hK K
      refine norm_ (a' := ?_) ?_ ?_
      rotate_left
      · show Act.put _ (some 6) _ = _
        simp only [Act.put, List.setIfInBounds_toArray, List.set_cons_zero, List.set_cons_succ, i64_w, i32_w]
        rfl
      refine one_ (i := 2) (N := some 13) #[true, true, true, false, false, false, false, true, false, false] rfl rfl (by kernel_rfl) (by decide) (fun K hK => ?_)
      have hcon_ := within_any limit 0 1073741824 (Wx.alloc (.cells #[.pointer none] 99))
      refine goes_ Try.func57 (by kernel_rfl) rfl #[.int .i64 limit, .int .i64 0, .int .i64 1073741824] (by rfl) rfl rfl (by simp only [List.map_toArray, List.map_cons, List.map_nil]; rfl) ?_
      with_reducible refine (hcon_).mono ?_
      rintro e w2 ⟨rfl, hb⟩
      refine ⟨_, rfl, ?_⟩
      clear hcon_
      replace m2 := blk_below m2 hb
      replace m3 := blk_below m3 hb
      replace m6 := blk_below m6 hb
      replace mB := below_step mB hb
      clear hb
      refine hK.out _ _ ⟨((blk_cell m2 0).trans rfl), ((blk_cell m2 1).trans rfl), ((blk_cell m2 2).trans rfl), ((blk_cell m3 0).trans rfl)⟩ (fun hHeld => ?_)
      clear hK K
      refine norm_ (a' := ?_) ?_ ?_
      rotate_left
      · show Act.put _ (some 13) _ = _
        simp only [Act.put, List.setIfInBounds_toArray, List.set_cons_zero, List.set_cons_succ, i64_w, i32_w]
        rfl
      refine one_ (i := 3) (N := some 14) #[true, true, true, true, false, false, false, true, false, false] rfl rfl (by kernel_rfl) (by decide) (fun K hK => ?_)
      have hcon_ := newSound_any par rate A c xs (withinI limit 0 1073741824) w2 (Kd.C_below hC mB) hc
      refine goes_ Try.func56 (by kernel_rfl) rfl #[.agg #[.int .i64 par, .int .i64 rate, .slice A xs.length c], .int .i64 (withinI limit 0 1073741824)] (by rfl) rfl rfl (by simp only [List.map_toArray, List.map_cons, List.map_nil]; rfl) ?_
      with_reducible refine (hcon_).mono ?_
      rintro e w3 ⟨ptr, rfl, hb, hcase⟩
      refine ⟨_, rfl, ?_⟩
      clear hcon_
      replace hcase : SoundRes par rate xs (withinI limit 0 1073741824) w.heap.size ptr w3 := SoundRes.weak hcase mB.size
      replace m2 := blk_below m2 hb
      replace m3 := blk_below m3 hb
      replace m6 := blk_below m6 hb
      replace mB := below_step mB hb
      clear hb
      refine hK.out _ _ ⟨((blk_cell m2 0).trans rfl), ((blk_cell m2 1).trans rfl), ((blk_cell m2 2).trans rfl), ((blk_cell m3 0).trans rfl)⟩ (fun hHeld => ?_)
      clear hK K
      refine norm_ (a' := ?_) ?_ ?_
      rotate_left
      · show Act.put _ (some 14) _ = _
        simp only [Act.put, List.setIfInBounds_toArray, List.set_cons_zero, List.set_cons_succ, i64_w, i32_w]
        rfl
      refine pure_ (i := 4) (N := some 10) (v := ?_) (a' := ?_) #[true, true, true, true, true, false, false, true, false, false] rfl rfl (by kernel_rfl) (fun _ _ _ h => h) (Or.inl ⟨by rfl, ?_⟩) ?_ ?_
      rotate_left
      · intro w'
        go_simp
        with_reducible rfl
      rotate_left
      · simp only [Act.put, List.setIfInBounds_toArray, List.set_cons_zero, List.set_cons_succ, i64_w, i32_w]
        rfl
      refine pure_ (i := 5) (N := some 15) (v := ?_) (a' := ?_) #[true, true, true, true, true, true, false, true, false, false] rfl rfl (by kernel_rfl) (fun _ _ _ h => h) (Or.inl ⟨by rfl, ?_⟩) ?_ ?_
      rotate_left
      · intro w'
        go_simp
        with_reducible rfl
      rotate_left
      · simp only [Act.put, List.setIfInBounds_toArray, List.set_cons_zero, List.set_cons_succ, i64_w, i32_w]
        rfl
      refine pure_ (i := 6) (N := some 16) (v := ?_) (a' := ?_) #[true, true, true, true, true, true, true, true, false, false] rfl rfl (by kernel_rfl) (fun _ _ _ h => h) (Or.inl ⟨by rfl, ?_⟩) ?_ ?_
      rotate_left
      · intro w'
        go_simp
        with_reducible rfl
      rotate_left
      · simp only [Act.put, List.setIfInBounds_toArray, List.set_cons_zero, List.set_cons_succ, i64_w, i32_w]
        rfl
      exact norm_ (by first | (simp only [putAll, Act.put, List.setIfInBounds_toArray, List.set_cons_zero, List.set_cons_succ]; done) | (simp only [putAll, Act.put, List.setIfInBounds_toArray, List.set_cons_zero, List.set_cons_succ]; rfl)) (hCont ((Wx.heap.size, ptr)) _ ⟨m2, m3, m6, mB, hG6, hn_2_6, hn_3_6, hcase⟩)
  rintro ⟨g6, ptr⟩ Wg ⟨m2, m3, m6, mB, hG6, hn_2_6, hn_3_6, hcase⟩
  dsimp only at m2 m3 m6 mB hG6 hn_2_6 hn_3_6 hcase
  have hHeld : (Wg.cell? ⟨g2, 0, none⟩ = some (.int .i64 par) ∧ Wg.cell? ⟨g2, 1, none⟩ = some (.int .i64 rate) ∧ Wg.cell? ⟨g2, 2, none⟩ = some (.slice A xs.length c) ∧ Wg.cell? ⟨g3, 0, none⟩ = some (.int .i64 limit)) := ⟨((blk_cell m2 0).trans rfl), ((blk_cell m2 1).trans rfl), ((blk_cell m2 2).trans rfl), ((blk_cell m3 0).trans rfl)⟩
  refine norm_ (a' := ?_) ?_ ?_
  rotate_left
  · simp only [putAll, Act.put, List.setIfInBounds_toArray, List.set_cons_zero, List.set_cons_succ]
    rfl
  refine one_ (i := 8) (N := none) #[true, true, true, true, true, true, true, true, true, false] rfl rfl (by kernel_rfl) (by decide) (fun K hK => ?_)
  have hcs_ := SoundRes.set hcase m6 (by decide) (by decide) 0 (.pointer ptr)
  have hf0_ := blk_frozen m6 0
  have hc0_ := (blk_cell m6 0).trans rfl
  refine skip_ (w1 := ?_) (by rfl) rfl ?_ ?_
  rotate_left
  · go_simp
    rfl
  clear hf0_ hc0_
  replace m2 : Blk (Wg.setCell ⟨g6, 0, none⟩ (.pointer ptr)) g2 #[.int .i64 par, .int .i64 rate, .slice A xs.length c] 30 := blk_far (p := ⟨g6, 0, none⟩) m2 hn_2_6 _
  replace m3 : Blk (Wg.setCell ⟨g6, 0, none⟩ (.pointer ptr)) g3 #[.int .i64 limit] 2 := blk_far (p := ⟨g6, 0, none⟩) m3 hn_3_6 _
  replace m6 : Blk (Wg.setCell ⟨g6, 0, none⟩ (.pointer ptr)) g6 #[.pointer ptr] 99 := blk_put m6 0 _ rfl
  replace mB : Below w.heap.size w (Wg.setCell ⟨g6, 0, none⟩ (.pointer ptr)) := mB.setCell (p := ⟨g6, 0, none⟩) hG6 _
  replace hcase := hcs_
  clear hcs_
  refine hK.out _ _ ⟨((blk_cell m2 0).trans rfl), ((blk_cell m2 1).trans rfl), ((blk_cell m2 2).trans rfl), ((blk_cell m3 0).trans rfl)⟩ (fun hHeld => ?_)
  clear hK K
  refine pure_ (i := 9) (N := some 7) (v := ?_) (a' := ?_) #[true, true, true, true, true, true, true, true, true, true] rfl rfl (by kernel_rfl) (fun _ _ _ h => h) (Or.inl ⟨by rfl, ?_⟩) ?_ ?_
  rotate_left
  · intro w'
    go_simp
    with_reducible rfl
  rotate_left
  · simp only [Act.put, List.setIfInBounds_toArray, List.set_cons_zero, List.set_cons_succ, i64_w, i32_w]
    rfl
  refine done_ (by kernel_rfl) ?_
  try clear hHeld
  generalize hW_ : (Wg.setCell ⟨g6, 0, none⟩ (.pointer ptr)) = W4 at m2 m3 m6 mB hcase ⊢
  clear hW_
  have hlr := fun h => last_range (par := par) (rate := rate) (xs := xs) (between := withinI limit 0 1073741824) h
  have hfo := fun h => faceE_one (soundE_face (par := par) (rate := rate) (xs := xs) (between := withinI limit 0 1073741824) h)
  have hln := fun h => soundE_len (par := par) (rate := rate) (xs := xs) (between := withinI limit 0 1073741824) h
  unfold SoundRes at hcase
  generalize soundE par rate xs (withinI limit 0 1073741824) = E0 at *
  rcases hcase with ⟨h0, g, rfl, hg, hF⟩ | ⟨h0, rfl⟩
  case inr =>
    have HE := Lib.hid (HD.out.trans (if_pos h0))
    have hd : (E0 == 0) = false := beq_eq_false_iff_ne.2 h0
    have hd2 : (E0 != 0) = true := by rw [bne, hd]; rfl
    clear h0 hlr hfo hln HD
    go_wp2
    go_ret2
    exact ⟨by rw [HE.out]; rfl, mB⟩
  case inl =>
    have HE1 := Lib.hid (HD.out.trans (if_neg (by rw [h0]; decide)))
    clear HD
    obtain ⟨hl1, _⟩ := hfo h0
    have hl64 := hln h0
    have hlast0 : 0 ≤ lastI rate xs ∧ lastI rate xs ≤ 1125899906842624 := hlr h0
    clear hfo hln hlr
    subst h0
    have hN : dueN rate xs limit = searchI (fun i => wideI rate (xs.map (anchorI rate)) limit (wrap64 (lastI rate xs + i))) (1125899906842624 - lastI rate xs + 1).toNat 0 (1125899906842624 - lastI rate xs + 1) := rfl
    have HN := Lib.hid hN
    clear hN
    have hLI : (maxA (xs.map (anchorI rate))).f1 = lastI rate xs := rfl
    have HLI := Lib.hid hLI
    clear hLI
    have hyl : (xs.map (anchorI rate)).length ≤ 1000 := by rw [List.length_map]; omega
    have hyl1 : 1 ≤ (xs.map (anchorI rate)).length := by rw [List.length_map]; omega
    generalize dueN rate xs limit = n at HN HE1
    generalize lastI rate xs = last at *
    generalize xs.map (anchorI rate) = ys at *
    obtain ⟨hlo, hhi⟩ := hlast0
    have hFA := hF.at
    obtain ⟨Af, cf, mf, hlc, hCf⟩ := hFA
    have cf2 := (blk_cell mf 2).trans rfl
    have c6 := (blk_cell m6 0).trans rfl
    go_wp2_with fail
    have hcon := maxF_any Af cf ys W4 hCf hyl hyl1
    (with_reducible refine hcon.mono ?_)
    clear hcon cf2 c6
    rintro e W5 ⟨rfl, hb⟩
    replace hF := hF.below hb
    replace m2 := blk_below m2 hb
    replace m3 := blk_below m3 hb
    replace m6 := blk_below m6 hb
    replace mB := below_step mB hb
    clear hb
    have hs_W5 : w.heap.size ≤ W5.heap.size := mB.size
    clear mf hCf
    have HR := HLI.out
    generalize maxA ys = M at *
    obtain ⟨M0, M1⟩ := M
    dsimp only at HR ⊢
    subst HR
    have w1 : wrap64 (1125899906842624 - M1) = 1125899906842624 - M1 := by unfold wrap64; omega
    have w2 : wrap64 (1125899906842624 - M1 + 1) = 1125899906842624 - M1 + 1 := by unfold wrap64; omega
    go_wp2_with fail
    replace hF := hF.below (below_alloc (Below.refl W5.heap.size W5) (.cells #[.int .i64 M1] 2))
    have hl_2 := blk_lt m2
    have hl_3 := blk_lt m3
    have hl_6 := blk_lt m6
    have m8 : Blk (W5.alloc (.cells #[.int .i64 M1] 2)) (W5.heap.size) #[.int .i64 M1] 2 := (by have h_ := blk_new W5 (.cells #[.int .i64 M1] 2); first | exact h_ | (simp only [World.size_alloc] at h_; exact h_))
    replace m2 : Blk (W5.alloc (.cells #[.int .i64 M1] 2)) g2 #[.int .i64 par, .int .i64 rate, .slice A xs.length c] 30 := (blk_alloc m2 _)
    replace m3 : Blk (W5.alloc (.cells #[.int .i64 M1] 2)) g3 #[.int .i64 limit] 2 := (blk_alloc m3 _)
    replace m6 : Blk (W5.alloc (.cells #[.int .i64 M1] 2)) g6 #[.pointer (some ⟨g, 0, none⟩)] 99 := (blk_alloc m6 _)
    replace mB : Below w.heap.size w (W5.alloc (.cells #[.int .i64 M1] 2)) := (below_alloc mB _)
    have hsz_ : w.heap.size ≤ W5.heap.size := hs_W5
    generalize hW_ : (W5.alloc (.cells #[.int .i64 M1] 2)) = W6 at m2 m3 m6 m8 mB hF ⊢
    clear hW_
    generalize hg8 : W5.heap.size = g8 at m8 ⊢
    have hn_2_8 : g2 ≠ g8 := by omega
    have hn_3_8 : g3 ≠ g8 := by omega
    have hn_6_8 : g6 ≠ g8 := by omega
    have hn_8_2 : g8 ≠ g2 := hn_2_8.symm
    have hn_8_3 : g8 ≠ g3 := hn_3_8.symm
    have hn_8_6 : g8 ≠ g6 := hn_6_8.symm
    have hG8 : w.heap.size ≤ g8 := by omega
    clear hsz_ hl_2 hl_3 hl_6
    try clear hg8
    have hs_W6 : w.heap.size ≤ W6.heap.size := mB.size
    have hcon := search_any g6 g8 g3 g par rate ys hyl M1 limit (1125899906842624 - M1 + 1) W6 (by omega) (by omega) ⟨m6, m8, m3, hF.at⟩
    (with_reducible refine hcon.mono ?_)
    clear hcon
    rintro e W7 ⟨rfl, hb⟩
    replace m2 := blk_below m2 hb
    replace m3 := blk_below m3 hb
    replace m6 := blk_below m6 hb
    replace m8 := blk_below m8 hb
    replace mB := below_step mB hb
    clear hb
    have hs_W7 : w.heap.size ≤ W7.heap.size := mB.size
    have hrg := searchI_range (fun i => wideI rate ys limit (wrap64 (M1 + i))) (1125899906842624 - M1 + 1).toNat 0 (1125899906842624 - M1 + 1) (by omega)
    rw [← HN.out] at hrg ⊢
    clear HN
    have c8 := (blk_cell m8 0).trans rfl
    have w3 : wrap64 (M1 + n) = M1 + n := by unfold wrap64; omega
    by_cases hq : 1125899906842624 < M1 + n
    case pos =>
      have HE2 := Lib.hid (HE1.out.trans (if_pos hq))
      have dq := decide_eq_true hq
      have dq2 := eq_true hq
      clear HE1
      go_wp2
      go_ret2
      exact ⟨by rw [HE2.out]; rfl, mB⟩
    case neg =>
      have HE2 := Lib.hid (HE1.out.trans (if_neg hq))
      have dq := decide_eq_false hq
      have dq2 := eq_false hq
      clear HE1
      go_wp2
      go_ret2
      exact ⟨by rw [HE2.out]; rfl, mB⟩
end Go.Proofs.Ytcjdhajdoikojaa.Clk
end
section
/- The contracts of the clock's exported functions, as the printed texts ask for them. -/
namespace Go.Proofs.Ytcjdhajdoikojaa.Pr
open Go.RowKit Go.Proofs.YtcjdhajdoikojaaW.PrintWords Go.Proofs.YtcjdhajdoikojaaW.PrintLast Go.Proofs.YtcjdhajdoikojaaW.PrintMore Go.Proofs.Ytcjdhajdoikojaa.Clk
set_option linter.unusedVariables false

def clock_Time.f (l0 : List (S30)) (a1_0 : Int) (a1_1 : Int) : Option (Int × Int × Int) := some ((TimeV l0 a1_0 a1_1).1, (TimeV l0 a1_0 a1_1).2, TimeE l0 a1_0 a1_1)
theorem clock_Time.calls (A0 : Option Addr) (c0 : Nat) (l0 : List (S30)) (a1_0 : Int) (a1_1 : Int) (r1 : Int) (r2 : Int) (r3 : Int) (w : World) (hr0 : Kd.C k30 w A0 l0.length l0) (hc0 : l0.length ≤ c0) (h : clock_Time.f l0 a1_0 a1_1 = some (r1, r2, r3)) :
    Calls Try.prog 17 #[.slice A0 l0.length c0, .agg #[.int .i64 a1_0, .int .i64 a1_1]] w fun e w' => e = .returned (.tuple #[.agg #[.int .i64 r1, .int .i64 r2], .int .i64 r3]) ∧ Below w.heap.size w w' := by
  cases h
  exact Time_any A0 c0 l0 a1_0 a1_1 w hr0 hc0

def clock_At.f (a0_0 : Int) (a0_1 : Int) (l0_2 : List (S46)) (a1 : Int) : Option (Int × Int × Int) := some ((atV a0_0 a0_1 l0_2 a1).1, (atV a0_0 a0_1 l0_2 a1).2, atE a0_0 a0_1 l0_2 a1)
theorem clock_At.calls (a0_0 : Int) (a0_1 : Int) (A0_2 : Option Addr) (c0_2 : Nat) (l0_2 : List (S46)) (a1 : Int) (r1 : Int) (r2 : Int) (r3 : Int) (w : World) (hr0_2 : Kd.C k46 w A0_2 l0_2.length l0_2) (hc0_2 : l0_2.length ≤ c0_2) (h : clock_At.f a0_0 a0_1 l0_2 a1 = some (r1, r2, r3)) :
    Calls Try.prog 22 #[.agg #[.int .i64 a0_0, .int .i64 a0_1, .slice A0_2 l0_2.length c0_2], .int .i64 a1] w fun e w' => e = .returned (.tuple #[.agg #[.int .i64 r1, .int .i64 r2], .int .i64 r3]) ∧ Below w.heap.size w w' := by
  cases h
  exact At_any a0_0 a0_1 A0_2 c0_2 l0_2 a1 w hr0_2 hc0_2

def clock_Due.f (a0_0 : Int) (a0_1 : Int) (l0_2 : List (S46)) (a1 : Int) : Option (Int × Int) := some ((dueI a0_0 a0_1 l0_2 a1).1, (dueI a0_0 a0_1 l0_2 a1).2)
theorem clock_Due.calls (a0_0 : Int) (a0_1 : Int) (A0_2 : Option Addr) (c0_2 : Nat) (l0_2 : List (S46)) (a1 : Int) (r1 : Int) (r2 : Int) (w : World) (hr0_2 : Kd.C k46 w A0_2 l0_2.length l0_2) (hc0_2 : l0_2.length ≤ c0_2) (h : clock_Due.f a0_0 a0_1 l0_2 a1 = some (r1, r2)) :
    Calls Try.prog 25 #[.agg #[.int .i64 a0_0, .int .i64 a0_1, .slice A0_2 l0_2.length c0_2], .int .i64 a1] w fun e w' => e = .returned (.tuple #[.int .i64 r1, .int .i64 r2]) ∧ Below w.heap.size w w' := by
  cases h
  exact Due_any a0_0 a0_1 A0_2 c0_2 l0_2 a1 w hr0_2 hc0_2

end Go.Proofs.Ytcjdhajdoikojaa.Pr
end
section
/- The arithmetic of clocks: no number leaves its range, so what is computed is what is meant. -/
namespace Go.Proofs.Ytcjdhajdoikojaa.Clk
open Go.RowKit Go.Proofs.YtcjdhajdoikojaaW.PrintWords Go.Proofs.YtcjdhajdoikojaaW.PrintMore Go.Proofs.Ytcjdhajdoikojaa.Pr

theorem wrap_id {n : Int} (h0 : -9223372036854775808 ≤ n) (h1 : n ≤ 9223372036854775807) : wrap64 n = n := by
  unfold wrap64
  omega
theorem mx_max (a b : Int) : mx a b = max a b := by
  unfold mx
  split <;> omega
theorem mn_min (a b : Int) : mn a b = min a b := by
  unfold mn
  split <;> omega
/-- The growth for a difference that is not negative. -/
def gro (rate d : Int) : Int := rate * (d / 1000000000) + (rate * (d % 1000000000) + 999999999) / 1000000000
theorem mul_bound {a b A B : Int} (h0 : 0 ≤ a) (h1 : a ≤ A) (h2 : 0 ≤ b) (h3 : b ≤ B) : 0 ≤ a * b ∧ a * b ≤ A * B :=
  ⟨Int.mul_nonneg h0 h2, Int.mul_le_mul h1 h3 h2 (Int.le_trans h0 h1)⟩
theorem gro_range {rate d : Int} (hr0 : 0 ≤ rate) (hr1 : rate ≤ 1000000) (hd0 : 0 ≤ d) (hd1 : d ≤ 2251799813685248) : 0 ≤ gro rate d ∧ gro rate d ≤ 2251801000000 := by
  unfold gro
  have h1 := mul_bound hr0 hr1 (show 0 ≤ d / 1000000000 by omega) (show d / 1000000000 ≤ 2251799 by omega)
  have h2 := mul_bound hr0 hr1 (show 0 ≤ d % 1000000000 by omega) (show d % 1000000000 ≤ 999999999 by omega)
  generalize rate * (d / 1000000000) = x at *
  generalize rate * (d % 1000000000) = y at *
  omega
theorem growI_eq {rate d : Int} (hr0 : 0 ≤ rate) (hr1 : rate ≤ 1000000) (hd0 : -2251799813685248 ≤ d) (hd1 : d ≤ 2251799813685248) : growI rate d = gro rate (max d (-d)) := by
  unfold growI clock_growth.f
  rw [Option.getD_some, wrap_id (n := -d) (by omega) (by omega), mx_max]
  have hm0 : 0 ≤ max d (-d) := by omega
  have hm1 : max d (-d) ≤ 2251799813685248 := by omega
  generalize max d (-d) = m at *
  have h1 := mul_bound hr0 hr1 (show 0 ≤ m / 1000000000 by omega) (show m / 1000000000 ≤ 2251799 by omega)
  have h2 := mul_bound hr0 hr1 (show 0 ≤ m % 1000000000 by omega) (show m % 1000000000 ≤ 999999999 by omega)
  have e1 : Int.tdiv m 1000000000 = m / 1000000000 := Int.tdiv_eq_ediv_of_nonneg hm0
  have e2 : Int.tmod m 1000000000 = m % 1000000000 := Int.tmod_eq_emod_of_nonneg hm0
  rw [e1, e2, wrap_id (n := m / 1000000000) (by omega) (by omega)]
  unfold gro
  generalize rate * (m / 1000000000) = x at *
  generalize rate * (m % 1000000000) = y at *
  rw [wrap_id (n := x) (by omega) (by omega), wrap_id (n := y) (by omega) (by omega), wrap_id (n := y + 1000000000) (by omega) (by omega), wrap_id (n := y + 1000000000 - 1) (by omega) (by omega)]
  have e3 : Int.tdiv (y + 1000000000 - 1) 1000000000 = (y + 1000000000 - 1) / 1000000000 := Int.tdiv_eq_ediv_of_nonneg (by omega)
  rw [e3, show y + 1000000000 - 1 = y + 999999999 by omega, wrap_id (n := (y + 999999999) / 1000000000) (by omega) (by omega), wrap_id (by omega) (by omega)]

/-- An anchor whose numbers are in their ranges. -/
def VA (a : S105) : Prop := 0 ≤ a.f1 ∧ a.f1 ≤ 1125899906842624 ∧ -1073741824 ≤ a.f0.f0 ∧ a.f0.f0 ≤ a.f0.f1 ∧ a.f0.f1 ≤ 1073741824
theorem okS_iff {lo hi : Int} : okS lo hi = true ↔ lo ≤ hi ∧ -1073741824 ≤ lo ∧ hi ≤ 1073741824 := by
  unfold okS
  simp only [Bool.not_eq_true', Bool.or_eq_false_iff, decide_eq_false_iff_not]
  omega
theorem va_anchor {rate : Int} {x : S46} (h : okE rate x = true) : VA (anchorI rate x) := by
  have hb := okE_back h
  unfold okE at h
  simp only [Bool.and_eq_true, okS_iff] at h
  exact ⟨hb.1, hb.2, h.2.2.1, h.2.1, h.2.2.2⟩
theorem faceE_rate {par rate : Int} {xs : List S46} (h : faceE par rate xs = 0) : -1 ≤ par ∧ 0 ≤ rate ∧ rate ≤ 1000000 := by
  unfold faceE at h
  by_cases hl : xs.length < 1 ∨ xs.length > 64
  · rw [if_pos hl] at h
    cases h
  rw [if_neg hl] at h
  by_cases hp : par < -1 ∨ rate < 0 ∨ rate > 1000000
  · rw [if_pos hp] at h
    cases h
  omega
theorem va_all {par rate : Int} {xs : List S46} (h : faceE par rate xs = 0) : ∀ a ∈ xs.map (anchorI rate), VA a := by
  intro a ha
  obtain ⟨x, hx, rfl⟩ := List.mem_map.1 ha
  exact va_anchor ((faceE_one h).2 x hx)
/-- The difference of two readings, without its sign. -/
def dis (s t : Int) : Int := max (t - s) (-(t - s))
theorem seenI_eq {rate t : Int} {a : S105} (hr0 : 0 ≤ rate) (hr1 : rate ≤ 1000000) (ha : VA a) (ht0 : -1125899906842624 ≤ t) (ht1 : t ≤ 2251799813685248) :
    seenI rate a t = ⟨a.f0.f0 - gro rate (dis a.f1 t), a.f0.f1 + gro rate (dis a.f1 t)⟩ := by
  obtain ⟨h1, h2, h3, h4, h5⟩ := ha
  unfold seenI shiftI
  rw [wrap_id (n := t - a.f1) (by omega) (by omega), growI_eq hr0 hr1 (by omega) (by omega), show max (t - a.f1) (-(t - a.f1)) = dis a.f1 t from rfl]
  have hg := gro_range hr0 hr1 (d := dis a.f1 t) (by unfold dis; omega) (by unfold dis; omega)
  generalize gro rate (dis a.f1 t) = g at *
  rw [Int.add_zero, Int.add_zero, wrap_id (n := a.f0.f0) (by omega) (by omega), wrap_id (n := a.f0.f1) (by omega) (by omega), wrap_id (n := a.f0.f0 - g) (by omega) (by omega), wrap_id (n := a.f0.f1 + g) (by omega) (by omega)]
theorem meetF_two {x y : S35} (h1 : -9223372036854775808 ≤ x.f0) (h2 : x.f1 ≤ 9223372036854775807) : meetF [x, y] = (max x.f0 y.f0, min x.f1 y.f1) := by
  unfold meetF
  simp only [List.foldl_cons, List.foldl_nil, mx_max, mn_min]
  rw [show max (-9223372036854775808) x.f0 = x.f0 by omega, show min (9223372036854775807) x.f1 = x.f1 by omega]
/-- Two anchors are apart. -/
def apartA (rate : Int) (a b : S105) : Bool := decide (b.f0.f1 + gro rate (dis a.f1 b.f1) < a.f0.f0) || decide (a.f0.f1 + gro rate (dis a.f1 b.f1) < b.f0.f0)
theorem conI_eq {rate i k : Int} {ys : List S105} (hr0 : 0 ≤ rate) (hr1 : rate ≤ 1000000) (hne : i ≠ k) (hi : VA (rd_T105 ys i)) (hk : VA (rd_T105 ys k)) : conI rate ys i k = apartA rate (rd_T105 ys i) (rd_T105 ys k) := by
  unfold conI
  rw [if_neg hne]
  generalize rd_T105 ys i = a at *
  generalize rd_T105 ys k = b at *
  obtain ⟨b1, b2, b3, b4, b5⟩ := hk
  rw [seenI_eq hr0 hr1 hi (by omega) (by omega)]
  obtain ⟨a1, a2, a3, a4, a5⟩ := hi
  unfold apartA
  have hg := gro_range hr0 hr1 (d := dis a.f1 b.f1) (by unfold dis; omega) (by unfold dis; omega)
  generalize gro rate (dis a.f1 b.f1) = g at *
  rw [meetF_two (by show _ ≤ a.f0.f0 - g; omega) (by show a.f0.f1 + g ≤ _; omega)]
  dsimp only
  rw [Bool.eq_iff_iff]
  simp only [Bool.not_eq_true', decide_eq_false_iff_not, Bool.or_eq_true, decide_eq_true_eq]
  omega
theorem rd_mem {ys : List S105} {i : Int} (h0 : 0 ≤ i) (h1 : i < (ys.length : Int)) : rd_T105 ys i ∈ ys := by
  unfold rd_T105
  rw [List.getD_eq_getElem?_getD, List.getElem?_eq_getElem (by omega)]
  exact List.getElem_mem _
/-- What the pair that is found says. -/
theorem mem_pairsL {n : Nat} {p : Int × Int} : p ∈ pairsL n ↔ 0 ≤ p.1 ∧ p.1 < p.2 ∧ p.2 < (n : Int) := by
  unfold pairsL
  rw [List.mem_flatMap]
  constructor
  · rintro ⟨k, hk, hp⟩
    obtain ⟨i, hi, rfl⟩ := List.mem_map.1 hp
    have := List.mem_range.1 hk
    have := List.mem_range.1 hi
    dsimp only
    omega
  · rintro ⟨h0, h1, h2⟩
    refine ⟨p.2.toNat, List.mem_range.2 (by omega), List.mem_map.2 ⟨p.1.toNat, List.mem_range.2 (by omega), ?_⟩⟩
    ext
    · dsimp only; omega
    · dsimp only; omega
end Go.Proofs.Ytcjdhajdoikojaa.Clk
end
section
/- How the offset of a clock changes with the reading: behind the last exchange it becomes no narrower; halving finds the first reading. -/
namespace Go.Proofs.Ytcjdhajdoikojaa.Clk
open Go.RowKit Go.Proofs.YtcjdhajdoikojaaW.PrintWords Go.Proofs.YtcjdhajdoikojaaW.PrintMore Go.Proofs.Ytcjdhajdoikojaa.Pr

theorem gro_ceil (rate d : Int) : gro rate d = (rate * d + 999999999) / 1000000000 := by
  unfold gro
  have e : rate * d = rate * (d % 1000000000) + 1000000000 * (rate * (d / 1000000000)) := by
    conv => lhs; rw [← Int.emod_add_mul_ediv d 1000000000]
    rw [Int.mul_add, Int.mul_left_comm]
  rw [e]
  generalize rate * (d % 1000000000) = y
  generalize rate * (d / 1000000000) = x
  omega
theorem gro_mono {rate d d' : Int} (hr : 0 ≤ rate) (h : d ≤ d') : gro rate d ≤ gro rate d' := by
  rw [gro_ceil, gro_ceil]
  have := Int.mul_le_mul_of_nonneg_left h hr
  generalize rate * d = x at *
  generalize rate * d' = y at *
  omega
/-- The common part of spans that are given by their ends. -/
def meetU {α : Type} (lo hi : α → Int) (o : Int × Int) (l : List α) : Int × Int := l.foldl (fun o a => (max o.1 (lo a), min o.2 (hi a))) o
theorem meetU_range {α : Type} {lo hi : α → Int} {A B : Int} : ∀ (l : List α) (o : Int × Int), A ≤ o.1 → o.1 ≤ B → A ≤ o.2 → o.2 ≤ B → (∀ a ∈ l, (A ≤ lo a ∧ lo a ≤ B) ∧ (A ≤ hi a ∧ hi a ≤ B)) → (A ≤ (meetU lo hi o l).1 ∧ (meetU lo hi o l).1 ≤ B) ∧ (A ≤ (meetU lo hi o l).2 ∧ (meetU lo hi o l).2 ≤ B)
  | [], o, h1, h2, h3, h4, _ => ⟨⟨h1, h2⟩, h3, h4⟩
  | a :: l, o, h1, h2, h3, h4, h => by
    have ha := h a List.mem_cons_self
    exact meetU_range l _ (by dsimp only; omega) (by dsimp only; omega) (by dsimp only; omega) (by dsimp only; omega) (fun b hb => h b (List.mem_cons_of_mem _ hb))
/-- The ends of an anchor that is seen at a reading. -/
def loA (rate t : Int) (a : S105) : Int := a.f0.f0 - gro rate (dis a.f1 t)
def hiA (rate t : Int) (a : S105) : Int := a.f0.f1 + gro rate (dis a.f1 t)
def top : Int × Int := (-9223372036854775808, 9223372036854775807)
theorem foldl_meetU {rate t : Int} (hr0 : 0 ≤ rate) (hr1 : rate ≤ 1000000) (ht0 : -1125899906842624 ≤ t) (ht1 : t ≤ 2251799813685248) : ∀ (ys : List S105) (o : Int × Int), (∀ a ∈ ys, VA a) → (ys.map fun a => seenI rate a t).foldl (fun o a => (mx o.1 a.f0, mn o.2 a.f1)) o = meetU (loA rate t) (hiA rate t) o ys
  | [], _, _ => rfl
  | a :: l, o, h => by
    rw [List.map_cons, List.foldl_cons, seenI_eq hr0 hr1 (h a List.mem_cons_self) ht0 ht1, mx_max, mn_min]
    exact foldl_meetU hr0 hr1 ht0 ht1 l _ (fun b hb => h b (List.mem_cons_of_mem _ hb))
theorem atI_eq {rate t : Int} {ys : List S105} (hr0 : 0 ≤ rate) (hr1 : rate ≤ 1000000) (ht0 : -1125899906842624 ≤ t) (ht1 : t ≤ 2251799813685248) (hv : ∀ a ∈ ys, VA a) : atI rate ys t = meetU (loA rate t) (hiA rate t) top ys := foldl_meetU hr0 hr1 ht0 ht1 ys _ hv
theorem ends_range {rate t : Int} {a : S105} (hr0 : 0 ≤ rate) (hr1 : rate ≤ 1000000) (ht0 : -1125899906842624 ≤ t) (ht1 : t ≤ 2251799813685248) (ha : VA a) : (-2260000000000 ≤ loA rate t a ∧ loA rate t a ≤ 2260000000000) ∧ (-2260000000000 ≤ hiA rate t a ∧ hiA rate t a ≤ 2260000000000) := by
  obtain ⟨h1, h2, h3, h4, h5⟩ := ha
  have hg := gro_range hr0 hr1 (d := dis a.f1 t) (by unfold dis; omega) (by unfold dis; omega)
  unfold loA hiA
  omega
theorem atI_range {rate t : Int} {ys : List S105} (hr0 : 0 ≤ rate) (hr1 : rate ≤ 1000000) (ht0 : -1125899906842624 ≤ t) (ht1 : t ≤ 2251799813685248) (hv : ∀ a ∈ ys, VA a) (h1 : 1 ≤ ys.length) : (-2260000000000 ≤ (atI rate ys t).1 ∧ (atI rate ys t).1 ≤ 2260000000000) ∧ (-2260000000000 ≤ (atI rate ys t).2 ∧ (atI rate ys t).2 ≤ 2260000000000) := by
  rw [atI_eq hr0 hr1 ht0 ht1 hv]
  cases ys with
  | nil => simp at h1
  | cons a l =>
    have ha := ends_range hr0 hr1 ht0 ht1 (hv a List.mem_cons_self)
    exact meetU_range l _ (by show _ ≤ max (-9223372036854775808) _; omega) (by show max (-9223372036854775808) _ ≤ _; omega) (by show _ ≤ min 9223372036854775807 _; omega) (by show min 9223372036854775807 _ ≤ _; omega) (fun b hb => ends_range hr0 hr1 ht0 ht1 (hv b (List.mem_cons_of_mem _ hb)))
end Go.Proofs.Ytcjdhajdoikojaa.Clk
end
section
/- Valid exchanges and their offsets, in clean numbers. -/
namespace Go.Proofs.Ytcjdhajdoikojaa.Clk
open Go.RowKit Go.Proofs.YtcjdhajdoikojaaW.PrintWords Go.Proofs.YtcjdhajdoikojaaW.PrintMore Go.Proofs.Ytcjdhajdoikojaa.Pr

theorem okT_iff {t : Int} : okT t = true ↔ 0 ≤ t ∧ t ≤ 1125899906842624 := by
  unfold okT
  simp only [Bool.and_eq_true, decide_eq_true_eq]
theorem okX_iff {x : S46} : okX x = true ↔ (0 ≤ x.f0 ∧ x.f0 ≤ x.f3 ∧ x.f3 ≤ 1125899906842624) ∧ (0 ≤ x.f1 ∧ x.f1 ≤ x.f2 ∧ x.f2 ≤ 1125899906842624) ∧ (0 ≤ x.f4.f0 ∧ x.f4.f0 ≤ x.f4.f1 ∧ x.f4.f1 ≤ 1073741824) ∧ (0 ≤ x.f5.f0 ∧ x.f5.f0 ≤ x.f5.f1 ∧ x.f5.f1 ≤ 1073741824) := by
  unfold okX
  simp only [Bool.and_eq_true, okT_iff, okS_iff, Bool.not_eq_true', decide_eq_false_iff_not]
  omega
/-- The offset by an exchange, in clean numbers. -/
def offC (rate : Int) (x : S46) : Int × Int :=
  (max (x.f1 - x.f0 - x.f4.f1 - gro rate (x.f3 - x.f0)) (x.f2 - x.f3 + x.f5.f0), min (x.f1 - x.f0 - x.f4.f0 + gro rate (x.f3 - x.f0)) (x.f2 - x.f3 + x.f5.f1))
theorem offsetI_eq {rate : Int} {x : S46} (hr0 : 0 ≤ rate) (hr1 : rate ≤ 1000000) (h : okX x = true) : offsetI x rate = offC rate x := by
  obtain ⟨⟨a1, a2, a3⟩, ⟨b1, b2, b3⟩, ⟨c1, c2, c3⟩, d1, d2, d3⟩ := okX_iff.1 h
  unfold offsetI forthI homeI shiftI offC
  rw [wrap_id (n := x.f3 - x.f0) (by omega) (by omega), growI_eq hr0 hr1 (by omega) (by omega), show max (x.f3 - x.f0) (-(x.f3 - x.f0)) = x.f3 - x.f0 by omega]
  have hg := gro_range hr0 hr1 (d := x.f3 - x.f0) (by omega) (by omega)
  generalize gro rate (x.f3 - x.f0) = g at *
  simp (disch := omega) only [wrap_id]
  rw [meetF_two (by dsimp only; omega) (by dsimp only; omega)]
  dsimp only
  ext
  · dsimp only; omega
  · dsimp only; omega
theorem rd_lt {xs : List S46} {i : Nat} (h : i < xs.length) : rd_T46 xs (i : Int) = xs[i] := by
  unfold rd_T46
  rw [List.getD_eq_getElem?_getD, Int.toNat_natCast, List.getElem?_eq_getElem h]
  rfl
/-- Which exchanges are valid for a clock of a rate, in clean numbers. -/
theorem okE_iff {rate : Int} {x : S46} (hr0 : 0 ≤ rate) (hr1 : rate ≤ 1000000) : okE rate x = true ↔ okX x = true ∧ okS (offC rate x).1 (offC rate x).2 = true := by
  unfold okE
  simp only [Bool.and_eq_true, decide_eq_true_eq]
  constructor
  · rintro ⟨⟨h1, h2⟩, h3⟩
    rw [offsetI_eq hr0 hr1 h1] at h3
    exact ⟨h1, h3⟩
  · rintro ⟨h1, h3⟩
    rw [offsetI_eq hr0 hr1 h1]
    exact ⟨⟨h1, (okS_iff.1 h3).1⟩, h3⟩
/-- What is known of a valid clock's anchors. -/
theorem anchor_eq {rate : Int} {x : S46} (hr0 : 0 ≤ rate) (hr1 : rate ≤ 1000000) (h : okX x = true) : anchorI rate x = ⟨⟨(offC rate x).1, (offC rate x).2⟩, x.f3⟩ := by
  unfold anchorI
  rw [offsetI_eq hr0 hr1 h]
theorem faceE_all {par rate : Int} {xs : List S46} (h : faceE par rate xs = 0) : ∀ x ∈ xs, okE rate x = true := by
  have hr := faceE_rate h
  have hl := faceE_len h
  have h1 := (faceE_one h).1
  unfold faceE at h
  rw [if_neg (by omega), if_neg (by omega)] at h
  by_cases ha : xs.all (okE rate) = true
  · exact List.all_eq_true.1 ha
  · rw [if_neg ha] at h
    cases h
end Go.Proofs.Ytcjdhajdoikojaa.Clk
end
section
/- The offset of a valid and sound clock, in clean numbers: the common part of what its exchanges say. -/
namespace Go.Proofs.Ytcjdhajdoikojaa.Clk
open Go.RowKit Go.Proofs.YtcjdhajdoikojaaW.PrintWords Go.Proofs.YtcjdhajdoikojaaW.PrintMore Go.Proofs.Ytcjdhajdoikojaa.Pr
theorem meetU_map {α β : Type} (lo hi : β → Int) (f : α → β) : ∀ (l : List α) (o : Int × Int), meetU lo hi o (l.map f) = meetU (fun x => lo (f x)) (fun x => hi (f x)) o l
  | [], _ => rfl
  | _ :: l, _ => meetU_map lo hi f l _
theorem meetU_congr {α : Type} {lo hi lo' hi' : α → Int} : ∀ (l : List α) (o : Int × Int), (∀ a ∈ l, lo a = lo' a ∧ hi a = hi' a) → meetU lo hi o l = meetU lo' hi' o l
  | [], _, _ => rfl
  | a :: l, o, h => by
    have ha := h a List.mem_cons_self
    show meetU lo hi (max o.1 (lo a), min o.2 (hi a)) l = meetU lo' hi' (max o.1 (lo' a), min o.2 (hi' a)) l
    rw [ha.1, ha.2]
    exact meetU_congr l _ (fun b hb => h b (List.mem_cons_of_mem _ hb))
/-- The ends of what an exchange says at a reading. -/
def loX (rate t : Int) (x : S46) : Int := (offC rate x).1 - gro rate (dis x.f3 t)
def hiX (rate t : Int) (x : S46) : Int := (offC rate x).2 + gro rate (dis x.f3 t)
theorem at_meetI {par rate t : Int} {xs : List S46} (hf : faceE par rate xs = 0) (ht0 : -1125899906842624 ≤ t) (ht1 : t ≤ 2251799813685248) : atI rate (xs.map (anchorI rate)) t = meetU (loX rate t) (hiX rate t) top xs := by
  obtain ⟨_, hr0, hr1⟩ := faceE_rate hf
  rw [atI_eq hr0 hr1 ht0 ht1 (va_all hf), meetU_map]
  refine meetU_congr xs _ fun x hx => ?_
  have hE := faceE_all hf x hx
  rw [anchor_eq hr0 hr1 ((okE_iff hr0 hr1).1 hE).1]
  exact ⟨rfl, rfl⟩
theorem atE_sound {par rate t : Int} {xs : List S46} (h : atE par rate xs t = 0) : faceE par rate xs = 0 ∧ (0 ≤ t ∧ t ≤ 1125899906842624) ∧ findCon rate (xs.map (anchorI rate)) = none := by
  have hE : soundE par rate xs (withinI t 0 1125899906842624) = 0 := h
  have hf := soundE_face hE
  unfold soundE at hE
  rw [if_neg (by rw [hf]; decide)] at hE
  by_cases hw : withinI t 0 1125899906842624 = 0
  · rw [if_neg (by rw [hw]; decide)] at hE
    refine ⟨hf, ?_, ?_⟩
    · unfold withinI clock_within.f at hw
      by_cases h1 : t < 0
      · rw [if_pos h1] at hw
        cases hw
      by_cases h2 : t > 1125899906842624
      · rw [if_neg h1, if_pos h2] at hw
        cases hw
      omega
    · cases hc : findCon rate (xs.map (anchorI rate)) with
      | none => rfl
      | some p =>
        rw [hc] at hE
        cases hE
  · rw [if_pos hw] at hE
    exact absurd hE hw
end Go.Proofs.Ytcjdhajdoikojaa.Clk
end
section
/- How the offset of a clock and its true time change between two readings. -/
namespace Go.Proofs.Ytcjdhajdoikojaa.Clk
open Go.RowKit Go.Proofs.YtcjdhajdoikojaaW.PrintWords Go.Proofs.YtcjdhajdoikojaaW.PrintMore Go.Proofs.Ytcjdhajdoikojaa.Pr
theorem meetU_near {α : Type} {lo hi lo' hi' : α → Int} {d : Int} : ∀ (l : List α) (o o' : Int × Int), (o.1 - o'.1 ≤ d ∧ o'.1 - o.1 ≤ d) → (o.2 - o'.2 ≤ d ∧ o'.2 - o.2 ≤ d) → (∀ a ∈ l, (lo a - lo' a ≤ d ∧ lo' a - lo a ≤ d) ∧ (hi a - hi' a ≤ d ∧ hi' a - hi a ≤ d)) →
    ((meetU lo hi o l).1 - (meetU lo' hi' o' l).1 ≤ d ∧ (meetU lo' hi' o' l).1 - (meetU lo hi o l).1 ≤ d) ∧ ((meetU lo hi o l).2 - (meetU lo' hi' o' l).2 ≤ d ∧ (meetU lo' hi' o' l).2 - (meetU lo hi o l).2 ≤ d)
  | [], o, o', h1, h2, _ => ⟨h1, h2⟩
  | a :: l, o, o', h1, h2, h => by
    have ha := h a List.mem_cons_self
    exact meetU_near l _ _ (by dsimp only; omega) (by dsimp only; omega) (fun b hb => h b (List.mem_cons_of_mem _ hb))
theorem meetU_shift {α : Type} {lo hi lo' hi' : α → Int} {s t : Int} : ∀ (l : List α) (o o' : Int × Int), o.1 + s ≤ o'.1 + t → o.2 + s ≤ o'.2 + t → (∀ a ∈ l, lo a + s ≤ lo' a + t ∧ hi a + s ≤ hi' a + t) → (meetU lo hi o l).1 + s ≤ (meetU lo' hi' o' l).1 + t ∧ (meetU lo hi o l).2 + s ≤ (meetU lo' hi' o' l).2 + t
  | [], o, o', h1, h2, _ => ⟨h1, h2⟩
  | a :: l, o, o', h1, h2, h => by
    have ha := h a List.mem_cons_self
    exact meetU_shift l _ _ (by dsimp only; omega) (by dsimp only; omega) (fun b hb => h b (List.mem_cons_of_mem _ hb))
theorem gro_add {rate a b : Int} : gro rate (a + b) ≤ gro rate a + gro rate b := by
  rw [gro_ceil, gro_ceil, gro_ceil, Int.mul_add]
  omega
theorem gro_self {rate l : Int} (hr0 : 0 ≤ rate) (hr1 : rate ≤ 1000000) (hl : 0 ≤ l) : 0 ≤ gro rate l ∧ gro rate l ≤ l := by
  rw [gro_ceil]
  have h1 := Int.mul_le_mul_of_nonneg_right hr1 hl
  have h2 := Int.mul_nonneg hr0 hl
  generalize rate * l = x at *
  omega
theorem gro_dis {rate b s t : Int} (hr0 : 0 ≤ rate) (hst : s ≤ t) : gro rate (dis b t) ≤ gro rate (dis b s) + gro rate (t - s) ∧ gro rate (dis b s) ≤ gro rate (dis b t) + gro rate (t - s) := by
  have a1 := gro_add (rate := rate) (a := dis b s) (b := t - s)
  have a2 := gro_add (rate := rate) (a := dis b t) (b := t - s)
  have m1 := gro_mono hr0 (show dis b t ≤ dis b s + (t - s) by unfold dis; omega)
  have m2 := gro_mono hr0 (show dis b s ≤ dis b t + (t - s) by unfold dis; omega)
  omega
section
variable {par rate : Int} {xs : List S46}
/-- The ends of the offset at two readings. -/
theorem slow_near (hf : faceE par rate xs = 0) {s t : Int} (hs : 0 ≤ s) (hst : s ≤ t) (ht : t ≤ 1125899906842624) :
    ((atI rate (xs.map (anchorI rate)) s).1 - (atI rate (xs.map (anchorI rate)) t).1 ≤ gro rate (t - s) ∧ (atI rate (xs.map (anchorI rate)) t).1 - (atI rate (xs.map (anchorI rate)) s).1 ≤ gro rate (t - s)) ∧
    ((atI rate (xs.map (anchorI rate)) s).2 - (atI rate (xs.map (anchorI rate)) t).2 ≤ gro rate (t - s) ∧ (atI rate (xs.map (anchorI rate)) t).2 - (atI rate (xs.map (anchorI rate)) s).2 ≤ gro rate (t - s)) := by
  obtain ⟨_, hr0, hr1⟩ := faceE_rate hf
  have hg := gro_self hr0 hr1 (show 0 ≤ t - s by omega)
  rw [at_meetI hf (by omega) (by omega), at_meetI hf (by omega) (by omega)]
  refine meetU_near xs top top (by omega) (by omega) fun x hx => ?_
  have := gro_dis (rate := rate) (b := x.f3) hr0 hst
  unfold loX hiX
  omega
theorem slow_later (hf : faceE par rate xs = 0) {s t : Int} (hs : 0 ≤ s) (hst : s ≤ t) (ht : t ≤ 1125899906842624) :
    s + (atI rate (xs.map (anchorI rate)) s).1 ≤ t + (atI rate (xs.map (anchorI rate)) t).1 ∧ s + (atI rate (xs.map (anchorI rate)) s).2 ≤ t + (atI rate (xs.map (anchorI rate)) t).2 := by
  obtain ⟨_, hr0, hr1⟩ := faceE_rate hf
  have hg := gro_self hr0 hr1 (show 0 ≤ t - s by omega)
  rw [at_meetI hf (by omega) (by omega), at_meetI hf (by omega) (by omega)]
  have := meetU_shift (lo := loX rate s) (hi := hiX rate s) (lo' := loX rate t) (hi' := hiX rate t) (s := s) (t := t) xs top top (by omega) (by omega) (fun x hx => by
    have := gro_dis (rate := rate) (b := x.f3) hr0 hst
    unfold loX hiX
    omega)
  omega
end
end Go.Proofs.Ytcjdhajdoikojaa.Clk
end
section
-- PRINTED by print.py (a twelfth state) out of the translation. Not trusted: Lean checks it.
namespace Go.Proofs.Ytcjdhajdoikojaa.Pr
open Go.RowKit Go.Proofs.YtcjdhajdoikojaaW.PrintWords Go.Proofs.YtcjdhajdoikojaaW.PrintLast Go.Proofs.YtcjdhajdoikojaaW.PrintMore
attribute [local go_sem] max2_int min2_int max_two min_two max_four
set_option linter.unusedVariables false
set_option linter.unusedSimpArgs false

/-! ### isobathref05_isTime: function 68 -/
def isobathref05_isTime.f (a0 : Int) : Option (Bool) := if a0 ≥ 0 then (some (decide (a0 ≤ 1125899906842624))) else (some false)
set_option maxHeartbeats 8000000 in
set_option maxRecDepth 100000 in
theorem isobathref05_isTime.calls (a0 : Int) (r : Bool) (w : World) (h : isobathref05_isTime.f a0 = some r) :
    Calls Try.prog 68 #[.int .i64 a0] w fun e w' => e = .returned (.bool r) ∧ Drawn0 w w' := by
  have H : (if a0 ≥ 0 then (some (decide (a0 ≤ 1125899906842624))) else (some false)) = some r := h
  clear h
  by_cases c2 : a0 ≥ 0
  · rw [if_pos c2] at H
    have c2b0 : decide (0 ≤ a0) = true := decide_eq_true c2
    clear c2
    obtain rfl := Option.some.inj H
    go_enter Try.func68, Try.ntmps68
    go_wp2
    go_ret
    exact ⟨by first | rfl | (simp; done) | (simp [*]; done), by repeat (first | exact Drawn0.refl _ | apply Drawn0.step)⟩
  · rw [if_neg c2] at H
    have c2b0 : decide (0 ≤ a0) = false := decide_eq_false c2
    clear c2
    obtain rfl := Option.some.inj H
    go_enter Try.func68, Try.ntmps68
    go_wp2
    go_ret
    exact ⟨by first | rfl | (simp; done) | (simp [*]; done), by repeat (first | exact Drawn0.refl _ | apply Drawn0.step)⟩

end Go.Proofs.Ytcjdhajdoikojaa.Pr
end
section
-- PRINTED by print.py (a twelfth state) out of the translation. Not trusted: Lean checks it.
namespace Go.Proofs.Ytcjdhajdoikojaa.Pr
open Go.RowKit Go.Proofs.YtcjdhajdoikojaaW.PrintWords Go.Proofs.YtcjdhajdoikojaaW.PrintLast Go.Proofs.YtcjdhajdoikojaaW.PrintMore
attribute [local go_sem] max2_int min2_int max_two min_two max_four
set_option linter.unusedVariables false
set_option linter.unusedSimpArgs false

/-! ### isobathref01_Within: function 97 -/
def isobathref01_Within.f (a0 : Int) (a1 : Int) (a2 : Int) : Option (Bool) := if a0 ≥ a1 then (some (decide (a0 ≤ a2))) else (some false)
set_option maxHeartbeats 8000000 in
set_option maxRecDepth 100000 in
theorem isobathref01_Within.calls (a0 : Int) (a1 : Int) (a2 : Int) (r : Bool) (w : World) (h : isobathref01_Within.f a0 a1 a2 = some r) :
    Calls Try.prog 97 #[.int .i64 a0, .int .i64 a1, .int .i64 a2] w fun e w' => e = .returned (.bool r) ∧ Drawn0 w w' := by
  have H : (if a0 ≥ a1 then (some (decide (a0 ≤ a2))) else (some false)) = some r := h
  clear h
  by_cases c4 : a0 ≥ a1
  · rw [if_pos c4] at H
    have c4b0 : decide (a1 ≤ a0) = true := decide_eq_true c4
    clear c4
    obtain rfl := Option.some.inj H
    go_enter Try.func97, Try.ntmps97
    go_wp2
    go_ret
    exact ⟨by first | rfl | (simp; done) | (simp [*]; done), by repeat (first | exact Drawn0.refl _ | apply Drawn0.step)⟩
  · rw [if_neg c4] at H
    have c4b0 : decide (a1 ≤ a0) = false := decide_eq_false c4
    clear c4
    obtain rfl := Option.some.inj H
    go_enter Try.func97, Try.ntmps97
    go_wp2
    go_ret
    exact ⟨by first | rfl | (simp; done) | (simp [*]; done), by repeat (first | exact Drawn0.refl _ | apply Drawn0.step)⟩

end Go.Proofs.Ytcjdhajdoikojaa.Pr
end
section
-- PRINTED by print.py (a twelfth state) out of the translation. Not trusted: Lean checks it.
namespace Go.Proofs.Ytcjdhajdoikojaa.Pr
open Go.RowKit Go.Proofs.YtcjdhajdoikojaaW.PrintWords Go.Proofs.YtcjdhajdoikojaaW.PrintLast Go.Proofs.YtcjdhajdoikojaaW.PrintMore
attribute [local go_sem] max2_int min2_int max_two min_two max_four
set_option linter.unusedVariables false
set_option linter.unusedSimpArgs false

/-! ### isobathref01_Valid: function 73 -/
def isobathref01_Valid.f (a0_0 : Int) (a0_1 : Int) : Option (Bool) := if a0_0 ≤ a0_1 then ((isobathref01_Within.f a0_0 (-1073741824) 1073741824).bind fun t102 => (if t102 = true then ((isobathref01_Within.f a0_1 (-1073741824) 1073741824).bind fun t103 => (some t103)) else (some false))) else (some false)
set_option maxHeartbeats 8000000 in
set_option maxRecDepth 100000 in
theorem isobathref01_Valid.calls (a0_0 : Int) (a0_1 : Int) (r : Bool) (w : World) (h : isobathref01_Valid.f a0_0 a0_1 = some r) :
    Calls Try.prog 73 #[.agg #[.int .i64 a0_0, .int .i64 a0_1]] w fun e w' => e = .returned (.bool r) ∧ Below w.heap.size w w' := by
  have hu35 := Try.underlying35
  have HB := Aside0.mk (Below.refl w.heap.size w)
  have H : (if a0_0 ≤ a0_1 then ((isobathref01_Within.f a0_0 (-1073741824) 1073741824).bind fun t102 => (if t102 = true then ((isobathref01_Within.f a0_1 (-1073741824) 1073741824).bind fun t103 => (some t103)) else (some false))) else (some false)) = some r := h
  clear h
  by_cases c2 : a0_0 ≤ a0_1
  · rw [if_pos c2] at H
    have c2b0 : decide (a0_0 ≤ a0_1) = true := decide_eq_true c2
    clear c2
    replace H := Option.bind_eq_some_iff.mp H
    obtain ⟨t102, A30, H⟩ := H
    replace H : (if t102 = true then ((isobathref01_Within.f a0_1 (-1073741824) 1073741824).bind fun t103 => (some t103)) else (some false)) = some r := H
    have A3 := Aside0.mk A30
    clear A30
    by_cases c4 : t102 = true
    · subst c4
      have H1 : ((isobathref01_Within.f a0_1 (-1073741824) 1073741824).bind fun t103 => (some t103)) = some r := by rw [if_pos rfl] at H; exact H
      clear H
      have H := H1
      clear H1
      replace H := Option.bind_eq_some_iff.mp H
      obtain ⟨t103, A50, H⟩ := H
      replace H : (some t103) = some r := H
      have A5 := Aside0.mk A50
      clear A50
      obtain rfl := Option.some.inj H
      go_enter Try.func73, Try.ntmps73
      go_wp2_with (first | ((with_reducible refine gate_dst (N := 1) rfl ?_); refine box_event ?hg (N := 1) ?hd (cs := #[.int .i64 a0_0, .int .i64 a0_1]) (t := 35) ?hr ?_; (case hd => rfl); (case hg => rfl); (case hr => first | (go_simp; done) | (go_simp; rfl)); intro gb101 hg w6 hbox hb; have n0_ := Aside0.mk (below_step (by repeat (first | (with_reducible first | exact HB.out | apply below_alloc | apply pw_below_drewN | apply below_drew1) | exact HB.out)) hb); have n1_ := Aside0.mk (hbox); have n2_ := Aside0.mk ((by rw [hg]; exact (below_size (by repeat (first | (with_reducible first | exact HB.out | apply below_alloc | apply pw_below_drewN | apply below_drew1) | exact HB.out))) : w.heap.size ≤ gb101)); have n3_ := Aside0.mk ((by rw [hg]; exact (below_size (by repeat (first | (with_reducible first | exact HB.out | apply below_alloc | apply pw_below_drewN | apply below_drew1) | exact HB.out))) : w.heap.size ≤ gb101)); clear HB; have HB := n0_; have BK101 := n1_; have GW101 := n2_; have GE101 := n3_; clear n0_ n1_ n2_ n3_; clear hb hbox hg; have hcz7_0 : w6.cell? ⟨gb101, 0, none⟩ = some (.int .i64 a0_0) := (blk_cell BK101.out 0).trans rfl; have hcz7_1 : w6.cell? ⟨gb101, 1, none⟩ = some (.int .i64 a0_1) := (blk_cell BK101.out 1).trans rfl; have hfz7_0 := blk_frozen BK101.out 0; have hfz7_1 := blk_frozen BK101.out 1) | (go_at_call 97; (with_reducible refine (isobathref01_Within.calls a0_0 (-1073741824) 1073741824 true _ A3.out).mono ?_); rintro e w' ⟨rfl, ⟨nd, rfl⟩⟩) | (go_at_call 97; (with_reducible refine (isobathref01_Within.calls a0_1 (-1073741824) 1073741824 t103 _ A5.out).mono ?_); rintro e w' ⟨rfl, ⟨nd, rfl⟩⟩))
      go_ret
      exact ⟨by first | rfl | (simp [errW_none, errW_some] <;> rfl) | (simp [*, errW_none, errW_some] <;> rfl), by repeat (first | (with_reducible first | exact HB.out | apply below_alloc | apply pw_below_drewN | apply below_drew1 | refine below_set ?_ GE101.out) | exact HB.out)⟩
    · replace c4 := Bool.eq_false_iff.mpr c4
      subst c4
      have H1 : (some false) = some r := by rw [if_neg (show ¬ (false = true) by decide)] at H; exact H
      clear H
      have H := H1
      clear H1
      obtain rfl := Option.some.inj H
      go_enter Try.func73, Try.ntmps73
      go_wp2_with (first | ((with_reducible refine gate_dst (N := 1) rfl ?_); refine box_event ?hg (N := 1) ?hd (cs := #[.int .i64 a0_0, .int .i64 a0_1]) (t := 35) ?hr ?_; (case hd => rfl); (case hg => rfl); (case hr => first | (go_simp; done) | (go_simp; rfl)); intro gb101 hg w8 hbox hb; have n0_ := Aside0.mk (below_step (by repeat (first | (with_reducible first | exact HB.out | apply below_alloc | apply pw_below_drewN | apply below_drew1) | exact HB.out)) hb); have n1_ := Aside0.mk (hbox); have n2_ := Aside0.mk ((by rw [hg]; exact (below_size (by repeat (first | (with_reducible first | exact HB.out | apply below_alloc | apply pw_below_drewN | apply below_drew1) | exact HB.out))) : w.heap.size ≤ gb101)); have n3_ := Aside0.mk ((by rw [hg]; exact (below_size (by repeat (first | (with_reducible first | exact HB.out | apply below_alloc | apply pw_below_drewN | apply below_drew1) | exact HB.out))) : w.heap.size ≤ gb101)); clear HB; have HB := n0_; have BK101 := n1_; have GW101 := n2_; have GE101 := n3_; clear n0_ n1_ n2_ n3_; clear hb hbox hg; have hcz9_0 : w8.cell? ⟨gb101, 0, none⟩ = some (.int .i64 a0_0) := (blk_cell BK101.out 0).trans rfl; have hcz9_1 : w8.cell? ⟨gb101, 1, none⟩ = some (.int .i64 a0_1) := (blk_cell BK101.out 1).trans rfl; have hfz9_0 := blk_frozen BK101.out 0; have hfz9_1 := blk_frozen BK101.out 1) | (go_at_call 97; (with_reducible refine (isobathref01_Within.calls a0_0 (-1073741824) 1073741824 false _ A3.out).mono ?_); rintro e w' ⟨rfl, ⟨nd, rfl⟩⟩))
      go_ret
      exact ⟨by first | rfl | (simp [errW_none, errW_some] <;> rfl) | (simp [*, errW_none, errW_some] <;> rfl), by repeat (first | (with_reducible first | exact HB.out | apply below_alloc | apply pw_below_drewN | apply below_drew1 | refine below_set ?_ GE101.out) | exact HB.out)⟩
  · rw [if_neg c2] at H
    have c2b0 : decide (a0_0 ≤ a0_1) = false := decide_eq_false c2
    clear c2
    obtain rfl := Option.some.inj H
    go_enter Try.func73, Try.ntmps73
    go_wp2_with (first | ((with_reducible refine gate_dst (N := 1) rfl ?_); refine box_event ?hg (N := 1) ?hd (cs := #[.int .i64 a0_0, .int .i64 a0_1]) (t := 35) ?hr ?_; (case hd => rfl); (case hg => rfl); (case hr => first | (go_simp; done) | (go_simp; rfl)); intro gb101 hg w10 hbox hb; have n0_ := Aside0.mk (below_step (by repeat (first | (with_reducible first | exact HB.out | apply below_alloc | apply pw_below_drewN | apply below_drew1) | exact HB.out)) hb); have n1_ := Aside0.mk (hbox); have n2_ := Aside0.mk ((by rw [hg]; exact (below_size (by repeat (first | (with_reducible first | exact HB.out | apply below_alloc | apply pw_below_drewN | apply below_drew1) | exact HB.out))) : w.heap.size ≤ gb101)); have n3_ := Aside0.mk ((by rw [hg]; exact (below_size (by repeat (first | (with_reducible first | exact HB.out | apply below_alloc | apply pw_below_drewN | apply below_drew1) | exact HB.out))) : w.heap.size ≤ gb101)); clear HB; have HB := n0_; have BK101 := n1_; have GW101 := n2_; have GE101 := n3_; clear n0_ n1_ n2_ n3_; clear hb hbox hg; have hcz11_0 : w10.cell? ⟨gb101, 0, none⟩ = some (.int .i64 a0_0) := (blk_cell BK101.out 0).trans rfl; have hcz11_1 : w10.cell? ⟨gb101, 1, none⟩ = some (.int .i64 a0_1) := (blk_cell BK101.out 1).trans rfl; have hfz11_0 := blk_frozen BK101.out 0; have hfz11_1 := blk_frozen BK101.out 1))
    go_ret
    exact ⟨by first | rfl | (simp [errW_none, errW_some] <;> rfl) | (simp [*, errW_none, errW_some] <;> rfl), by repeat (first | (with_reducible first | exact HB.out | apply below_alloc | apply pw_below_drewN | apply below_drew1 | refine below_set ?_ GE101.out) | exact HB.out)⟩

end Go.Proofs.Ytcjdhajdoikojaa.Pr
end
section
-- PRINTED by print.py (a twelfth state) out of the translation. Not trusted: Lean checks it.
namespace Go.Proofs.Ytcjdhajdoikojaa.Pr
open Go.RowKit Go.Proofs.YtcjdhajdoikojaaW.PrintWords Go.Proofs.YtcjdhajdoikojaaW.PrintLast Go.Proofs.YtcjdhajdoikojaaW.PrintMore
attribute [local go_sem] max2_int min2_int max_two min_two max_four
set_option linter.unusedVariables false
set_option linter.unusedSimpArgs false

/-! ### isobathref05_CheckExchange: function 31 -/
def isobathref05_CheckExchange.j0 : Nat → Bool → Int → Int → Int → Int → Int → Int → Int → Int → Option (Int)
  | 0, _, _, _, _, _, _, _, _, _ => none
  | k + 1, x38, x105000, x105001, x105002, x105003, x105004, x105005, x105006, x105007 => if x38 = true then (some 2) else ((isobathref01_Valid.f x105004 x105005).bind fun t109 => (if t109 = true then ((isobathref01_Valid.f x105006 x105007).bind fun t110 => (if t110 = true then (if x105004 < 0 then (some 2) else (if x105006 < 0 then (some 2) else (some 0))) else (some 2))) else (some 2)))
def isobathref05_CheckExchange.f (k : Nat) (a0_0 : Int) (a0_1 : Int) (a0_2 : Int) (a0_3 : Int) (a0_4 : Int) (a0_5 : Int) (a0_6 : Int) (a0_7 : Int) : Option (Int) := (isobathref05_isTime.f a0_0).bind fun t105 => (if t105 = true then ((isobathref05_isTime.f a0_1).bind fun t106 => (if t106 = true then ((isobathref05_isTime.f a0_2).bind fun t107 => (if t107 = true then ((isobathref05_isTime.f a0_3).bind fun t108 => (if t108 = true then (if a0_0 > a0_3 then (isobathref05_CheckExchange.j0 k true a0_0 a0_1 a0_2 a0_3 a0_4 a0_5 a0_6 a0_7) else (isobathref05_CheckExchange.j0 k (decide (a0_1 > a0_2)) a0_0 a0_1 a0_2 a0_3 a0_4 a0_5 a0_6 a0_7)) else (isobathref05_CheckExchange.j0 k true a0_0 a0_1 a0_2 a0_3 a0_4 a0_5 a0_6 a0_7))) else (isobathref05_CheckExchange.j0 k true a0_0 a0_1 a0_2 a0_3 a0_4 a0_5 a0_6 a0_7))) else (isobathref05_CheckExchange.j0 k true a0_0 a0_1 a0_2 a0_3 a0_4 a0_5 a0_6 a0_7))) else (isobathref05_CheckExchange.j0 k true a0_0 a0_1 a0_2 a0_3 a0_4 a0_5 a0_6 a0_7))
set_option maxHeartbeats 8000000 in
set_option maxRecDepth 100000 in
theorem isobathref05_CheckExchange.calls (k : Nat) (a0_0 : Int) (a0_1 : Int) (a0_2 : Int) (a0_3 : Int) (a0_4 : Int) (a0_5 : Int) (a0_6 : Int) (a0_7 : Int) (r : Int) (w : World) (h : isobathref05_CheckExchange.f k a0_0 a0_1 a0_2 a0_3 a0_4 a0_5 a0_6 a0_7 = some r) :
    Calls Try.prog 31 #[.agg #[.int .i64 a0_0, .int .i64 a0_1, .int .i64 a0_2, .int .i64 a0_3, .int .i64 a0_4, .int .i64 a0_5, .int .i64 a0_6, .int .i64 a0_7]] w fun e w' => e = .returned (.int .i64 r) ∧ Below w.heap.size w w' := by
  have hu46 := Try.underlying46
  have hu35 := Try.underlying35
  have HB := Aside0.mk (Below.refl w.heap.size w)
  have H : ((isobathref05_isTime.f a0_0).bind fun t105 => (if t105 = true then ((isobathref05_isTime.f a0_1).bind fun t106 => (if t106 = true then ((isobathref05_isTime.f a0_2).bind fun t107 => (if t107 = true then ((isobathref05_isTime.f a0_3).bind fun t108 => (if t108 = true then (if a0_0 > a0_3 then (isobathref05_CheckExchange.j0 k true a0_0 a0_1 a0_2 a0_3 a0_4 a0_5 a0_6 a0_7) else (isobathref05_CheckExchange.j0 k (decide (a0_1 > a0_2)) a0_0 a0_1 a0_2 a0_3 a0_4 a0_5 a0_6 a0_7)) else (isobathref05_CheckExchange.j0 k true a0_0 a0_1 a0_2 a0_3 a0_4 a0_5 a0_6 a0_7))) else (isobathref05_CheckExchange.j0 k true a0_0 a0_1 a0_2 a0_3 a0_4 a0_5 a0_6 a0_7))) else (isobathref05_CheckExchange.j0 k true a0_0 a0_1 a0_2 a0_3 a0_4 a0_5 a0_6 a0_7))) else (isobathref05_CheckExchange.j0 k true a0_0 a0_1 a0_2 a0_3 a0_4 a0_5 a0_6 a0_7))) = some r := h
  clear h
  have HC2 := Aside0.mk H
  clear H
  go_enter Try.func31, Try.ntmps31
  go_upto_region 1 with (first | ((with_reducible refine gate_dst (N := 1) rfl ?_); refine box_event ?hg (N := 1) ?hd (cs := #[.int .i64 a0_0, .int .i64 a0_1, .int .i64 a0_2, .int .i64 a0_3, .int .i64 a0_4, .int .i64 a0_5, .int .i64 a0_6, .int .i64 a0_7]) (t := 46) ?hr ?_; (case hd => rfl); (case hg => rfl); (case hr => first | (go_simp; done) | (go_simp; rfl)); intro gb104 hg w3 hbox hb; have n0_ := Aside0.mk (below_step (by repeat (first | (with_reducible first | exact HB.out | apply below_alloc | apply pw_below_drewN | apply below_drew1) | exact HB.out)) hb); have n1_ := Aside0.mk (hbox); have n2_ := Aside0.mk ((by rw [hg]; exact (below_size (by repeat (first | (with_reducible first | exact HB.out | apply below_alloc | apply pw_below_drewN | apply below_drew1) | exact HB.out))) : w.heap.size ≤ gb104)); have n3_ := Aside0.mk ((by rw [hg]; exact (below_size (by repeat (first | (with_reducible first | exact HB.out | apply below_alloc | apply pw_below_drewN | apply below_drew1) | exact HB.out))) : w.heap.size ≤ gb104)); clear HB; have HB := n0_; have BK104 := n1_; have GW104 := n2_; have GE104 := n3_; clear n0_ n1_ n2_ n3_; clear hb hbox hg))
  (try simp only [Act.put, List.setIfInBounds_toArray, List.set_cons_zero, List.set_cons_succ])
  go_cut [38] (fun v38 wc => ∃ (kq : Nat) (x38_1 : Bool), v38 = .bool x38_1 ∧ Aside0 (isobathref05_CheckExchange.j0 kq x38_1 a0_0 a0_1 a0_2 a0_3 a0_4 a0_5 a0_6 a0_7 = some r) ∧ Aside0 (kq ≤ k) ∧ Aside0 (wc.heap[gb104]? = some (.cells #[.int .i64 a0_0, .int .i64 a0_1, .int .i64 a0_2, .int .i64 a0_3, .int .i64 a0_4, .int .i64 a0_5, .int .i64 a0_6, .int .i64 a0_7] 46 (0, 0))) ∧ Aside0 (Below w.heap.size w wc))
  case first =>
    have H := HC2.out
    clear HC2
    replace H := Option.bind_eq_some_iff.mp H
    obtain ⟨t105, A40, H⟩ := H
    replace H : (if t105 = true then ((isobathref05_isTime.f a0_1).bind fun t106 => (if t106 = true then ((isobathref05_isTime.f a0_2).bind fun t107 => (if t107 = true then ((isobathref05_isTime.f a0_3).bind fun t108 => (if t108 = true then (if a0_0 > a0_3 then (isobathref05_CheckExchange.j0 k true a0_0 a0_1 a0_2 a0_3 a0_4 a0_5 a0_6 a0_7) else (isobathref05_CheckExchange.j0 k (decide (a0_1 > a0_2)) a0_0 a0_1 a0_2 a0_3 a0_4 a0_5 a0_6 a0_7)) else (isobathref05_CheckExchange.j0 k true a0_0 a0_1 a0_2 a0_3 a0_4 a0_5 a0_6 a0_7))) else (isobathref05_CheckExchange.j0 k true a0_0 a0_1 a0_2 a0_3 a0_4 a0_5 a0_6 a0_7))) else (isobathref05_CheckExchange.j0 k true a0_0 a0_1 a0_2 a0_3 a0_4 a0_5 a0_6 a0_7))) else (isobathref05_CheckExchange.j0 k true a0_0 a0_1 a0_2 a0_3 a0_4 a0_5 a0_6 a0_7)) = some r := H
    have A4 := Aside0.mk A40
    clear A40
    by_cases c5 : t105 = true
    · subst c5
      have H1 : ((isobathref05_isTime.f a0_1).bind fun t106 => (if t106 = true then ((isobathref05_isTime.f a0_2).bind fun t107 => (if t107 = true then ((isobathref05_isTime.f a0_3).bind fun t108 => (if t108 = true then (if a0_0 > a0_3 then (isobathref05_CheckExchange.j0 k true a0_0 a0_1 a0_2 a0_3 a0_4 a0_5 a0_6 a0_7) else (isobathref05_CheckExchange.j0 k (decide (a0_1 > a0_2)) a0_0 a0_1 a0_2 a0_3 a0_4 a0_5 a0_6 a0_7)) else (isobathref05_CheckExchange.j0 k true a0_0 a0_1 a0_2 a0_3 a0_4 a0_5 a0_6 a0_7))) else (isobathref05_CheckExchange.j0 k true a0_0 a0_1 a0_2 a0_3 a0_4 a0_5 a0_6 a0_7))) else (isobathref05_CheckExchange.j0 k true a0_0 a0_1 a0_2 a0_3 a0_4 a0_5 a0_6 a0_7))) = some r := by rw [if_pos rfl] at H; exact H
      clear H
      have H := H1
      clear H1
      replace H := Option.bind_eq_some_iff.mp H
      obtain ⟨t106, A60, H⟩ := H
      replace H : (if t106 = true then ((isobathref05_isTime.f a0_2).bind fun t107 => (if t107 = true then ((isobathref05_isTime.f a0_3).bind fun t108 => (if t108 = true then (if a0_0 > a0_3 then (isobathref05_CheckExchange.j0 k true a0_0 a0_1 a0_2 a0_3 a0_4 a0_5 a0_6 a0_7) else (isobathref05_CheckExchange.j0 k (decide (a0_1 > a0_2)) a0_0 a0_1 a0_2 a0_3 a0_4 a0_5 a0_6 a0_7)) else (isobathref05_CheckExchange.j0 k true a0_0 a0_1 a0_2 a0_3 a0_4 a0_5 a0_6 a0_7))) else (isobathref05_CheckExchange.j0 k true a0_0 a0_1 a0_2 a0_3 a0_4 a0_5 a0_6 a0_7))) else (isobathref05_CheckExchange.j0 k true a0_0 a0_1 a0_2 a0_3 a0_4 a0_5 a0_6 a0_7)) = some r := H
      have A6 := Aside0.mk A60
      clear A60
      by_cases c7 : t106 = true
      · subst c7
        have H1 : ((isobathref05_isTime.f a0_2).bind fun t107 => (if t107 = true then ((isobathref05_isTime.f a0_3).bind fun t108 => (if t108 = true then (if a0_0 > a0_3 then (isobathref05_CheckExchange.j0 k true a0_0 a0_1 a0_2 a0_3 a0_4 a0_5 a0_6 a0_7) else (isobathref05_CheckExchange.j0 k (decide (a0_1 > a0_2)) a0_0 a0_1 a0_2 a0_3 a0_4 a0_5 a0_6 a0_7)) else (isobathref05_CheckExchange.j0 k true a0_0 a0_1 a0_2 a0_3 a0_4 a0_5 a0_6 a0_7))) else (isobathref05_CheckExchange.j0 k true a0_0 a0_1 a0_2 a0_3 a0_4 a0_5 a0_6 a0_7))) = some r := by rw [if_pos rfl] at H; exact H
        clear H
        have H := H1
        clear H1
        replace H := Option.bind_eq_some_iff.mp H
        obtain ⟨t107, A80, H⟩ := H
        replace H : (if t107 = true then ((isobathref05_isTime.f a0_3).bind fun t108 => (if t108 = true then (if a0_0 > a0_3 then (isobathref05_CheckExchange.j0 k true a0_0 a0_1 a0_2 a0_3 a0_4 a0_5 a0_6 a0_7) else (isobathref05_CheckExchange.j0 k (decide (a0_1 > a0_2)) a0_0 a0_1 a0_2 a0_3 a0_4 a0_5 a0_6 a0_7)) else (isobathref05_CheckExchange.j0 k true a0_0 a0_1 a0_2 a0_3 a0_4 a0_5 a0_6 a0_7))) else (isobathref05_CheckExchange.j0 k true a0_0 a0_1 a0_2 a0_3 a0_4 a0_5 a0_6 a0_7)) = some r := H
        have A8 := Aside0.mk A80
        clear A80
        by_cases c9 : t107 = true
        · subst c9
          have H1 : ((isobathref05_isTime.f a0_3).bind fun t108 => (if t108 = true then (if a0_0 > a0_3 then (isobathref05_CheckExchange.j0 k true a0_0 a0_1 a0_2 a0_3 a0_4 a0_5 a0_6 a0_7) else (isobathref05_CheckExchange.j0 k (decide (a0_1 > a0_2)) a0_0 a0_1 a0_2 a0_3 a0_4 a0_5 a0_6 a0_7)) else (isobathref05_CheckExchange.j0 k true a0_0 a0_1 a0_2 a0_3 a0_4 a0_5 a0_6 a0_7))) = some r := by rw [if_pos rfl] at H; exact H
          clear H
          have H := H1
          clear H1
          replace H := Option.bind_eq_some_iff.mp H
          obtain ⟨t108, A100, H⟩ := H
          replace H : (if t108 = true then (if a0_0 > a0_3 then (isobathref05_CheckExchange.j0 k true a0_0 a0_1 a0_2 a0_3 a0_4 a0_5 a0_6 a0_7) else (isobathref05_CheckExchange.j0 k (decide (a0_1 > a0_2)) a0_0 a0_1 a0_2 a0_3 a0_4 a0_5 a0_6 a0_7)) else (isobathref05_CheckExchange.j0 k true a0_0 a0_1 a0_2 a0_3 a0_4 a0_5 a0_6 a0_7)) = some r := H
          have A10 := Aside0.mk A100
          clear A100
          by_cases c11 : t108 = true
          · subst c11
            have H1 : (if a0_0 > a0_3 then (isobathref05_CheckExchange.j0 k true a0_0 a0_1 a0_2 a0_3 a0_4 a0_5 a0_6 a0_7) else (isobathref05_CheckExchange.j0 k (decide (a0_1 > a0_2)) a0_0 a0_1 a0_2 a0_3 a0_4 a0_5 a0_6 a0_7)) = some r := by rw [if_pos rfl] at H; exact H
            clear H
            have H := H1
            clear H1
            by_cases c12 : a0_0 > a0_3
            · rw [if_pos c12] at H
              have c12b0 : decide (a0_3 < a0_0) = true := decide_eq_true c12
              clear c12
              (first | rw [c12b0] | (simp only [i64_w, i32_w]; rw [c12b0]) | skip)
              have H' := Aside0.mk H
              clear H
              have hcz13_0 : w3.cell? ⟨gb104, 0, none⟩ = some (.int .i64 a0_0) := (blk_cell BK104.out 0).trans rfl
              have hcz13_1 : w3.cell? ⟨gb104, 1, none⟩ = some (.int .i64 a0_1) := (blk_cell BK104.out 1).trans rfl
              have hcz13_2 : w3.cell? ⟨gb104, 2, none⟩ = some (.int .i64 a0_2) := (blk_cell BK104.out 2).trans rfl
              have hcz13_3 : w3.cell? ⟨gb104, 3, none⟩ = some (.int .i64 a0_3) := (blk_cell BK104.out 3).trans rfl
              have hcz13_4 : w3.cell? ⟨gb104, 4, none⟩ = some (.int .i64 a0_4) := (blk_cell BK104.out 4).trans rfl
              have hcz13_5 : w3.cell? ⟨gb104, 5, none⟩ = some (.int .i64 a0_5) := (blk_cell BK104.out 5).trans rfl
              have hcz13_6 : w3.cell? ⟨gb104, 6, none⟩ = some (.int .i64 a0_6) := (blk_cell BK104.out 6).trans rfl
              have hcz13_7 : w3.cell? ⟨gb104, 7, none⟩ = some (.int .i64 a0_7) := (blk_cell BK104.out 7).trans rfl
              have hfz13_0 := blk_frozen BK104.out 0
              have hfz13_1 := blk_frozen BK104.out 1
              have hfz13_2 := blk_frozen BK104.out 2
              have hfz13_3 := blk_frozen BK104.out 3
              have hfz13_4 := blk_frozen BK104.out 4
              have hfz13_5 := blk_frozen BK104.out 5
              have hfz13_6 := blk_frozen BK104.out 6
              have hfz13_7 := blk_frozen BK104.out 7
              go_wp2_with (first | ((with_reducible refine gate_callee (f := 68) rfl ?_); refine goesL_ (some 5) rfl rfl Try.func68 (by kernel_rfl) rfl #[.int .i64 a0_0] rfl (by (try simp only [List.map_toArray, List.map_cons, List.map_nil]); first | done | rfl | (simp only [List.length_drop, List.length_take]; rfl)) ?_; (with_reducible refine (isobathref05_isTime.calls a0_0 true _ A4.out).mono ?_); rintro e w' ⟨rfl, ⟨nd, rfl⟩⟩; refine ⟨_, rfl, ?_⟩) | (go_at_call 68; (with_reducible refine (isobathref05_isTime.calls a0_1 true _ A6.out).mono ?_); rintro e w' ⟨rfl, ⟨nd, rfl⟩⟩) | (go_at_call 68; (with_reducible refine (isobathref05_isTime.calls a0_2 true _ A8.out).mono ?_); rintro e w' ⟨rfl, ⟨nd, rfl⟩⟩) | (go_at_call 68; (with_reducible refine (isobathref05_isTime.calls a0_3 true _ A10.out).mono ?_); rintro e w' ⟨rfl, ⟨nd, rfl⟩⟩))
              go_meet
              case rel => exact ⟨_, (true), (by first | rfl | (simp; done) | (simp [*]; done)), H', ⟨by first | omega | exact Nat.le_refl _⟩, ⟨by (with_reducible repeat (first | refine blk_drewN ?_ _ | refine blk_drew ?_ | refine blk_alloc ?_ _)); exact BK104.out⟩, ⟨by repeat (first | (with_reducible first | exact HB.out | apply below_alloc | apply pw_below_drewN | apply below_drew1 | refine below_set ?_ GE104.out) | exact HB.out)⟩⟩
            · rw [if_neg c12] at H
              have c12b0 : decide (a0_3 < a0_0) = false := decide_eq_false c12
              clear c12
              (first | rw [c12b0] | (simp only [i64_w, i32_w]; rw [c12b0]) | skip)
              have H' := Aside0.mk H
              clear H
              have hcz14_0 : w3.cell? ⟨gb104, 0, none⟩ = some (.int .i64 a0_0) := (blk_cell BK104.out 0).trans rfl
              have hcz14_1 : w3.cell? ⟨gb104, 1, none⟩ = some (.int .i64 a0_1) := (blk_cell BK104.out 1).trans rfl
              have hcz14_2 : w3.cell? ⟨gb104, 2, none⟩ = some (.int .i64 a0_2) := (blk_cell BK104.out 2).trans rfl
              have hcz14_3 : w3.cell? ⟨gb104, 3, none⟩ = some (.int .i64 a0_3) := (blk_cell BK104.out 3).trans rfl
              have hcz14_4 : w3.cell? ⟨gb104, 4, none⟩ = some (.int .i64 a0_4) := (blk_cell BK104.out 4).trans rfl
              have hcz14_5 : w3.cell? ⟨gb104, 5, none⟩ = some (.int .i64 a0_5) := (blk_cell BK104.out 5).trans rfl
              have hcz14_6 : w3.cell? ⟨gb104, 6, none⟩ = some (.int .i64 a0_6) := (blk_cell BK104.out 6).trans rfl
              have hcz14_7 : w3.cell? ⟨gb104, 7, none⟩ = some (.int .i64 a0_7) := (blk_cell BK104.out 7).trans rfl
              have hfz14_0 := blk_frozen BK104.out 0
              have hfz14_1 := blk_frozen BK104.out 1
              have hfz14_2 := blk_frozen BK104.out 2
              have hfz14_3 := blk_frozen BK104.out 3
              have hfz14_4 := blk_frozen BK104.out 4
              have hfz14_5 := blk_frozen BK104.out 5
              have hfz14_6 := blk_frozen BK104.out 6
              have hfz14_7 := blk_frozen BK104.out 7
              go_wp2_with (first | ((with_reducible refine gate_callee (f := 68) rfl ?_); refine goesL_ (some 5) rfl rfl Try.func68 (by kernel_rfl) rfl #[.int .i64 a0_0] rfl (by (try simp only [List.map_toArray, List.map_cons, List.map_nil]); first | done | rfl | (simp only [List.length_drop, List.length_take]; rfl)) ?_; (with_reducible refine (isobathref05_isTime.calls a0_0 true _ A4.out).mono ?_); rintro e w' ⟨rfl, ⟨nd, rfl⟩⟩; refine ⟨_, rfl, ?_⟩) | (go_at_call 68; (with_reducible refine (isobathref05_isTime.calls a0_1 true _ A6.out).mono ?_); rintro e w' ⟨rfl, ⟨nd, rfl⟩⟩) | (go_at_call 68; (with_reducible refine (isobathref05_isTime.calls a0_2 true _ A8.out).mono ?_); rintro e w' ⟨rfl, ⟨nd, rfl⟩⟩) | (go_at_call 68; (with_reducible refine (isobathref05_isTime.calls a0_3 true _ A10.out).mono ?_); rintro e w' ⟨rfl, ⟨nd, rfl⟩⟩))
              go_meet
              case rel => exact ⟨_, (decide (a0_1 > a0_2)), (by first | rfl | (simp; done) | (simp [*]; done)), H', ⟨by first | omega | exact Nat.le_refl _⟩, ⟨by (with_reducible repeat (first | refine blk_drewN ?_ _ | refine blk_drew ?_ | refine blk_alloc ?_ _)); exact BK104.out⟩, ⟨by repeat (first | (with_reducible first | exact HB.out | apply below_alloc | apply pw_below_drewN | apply below_drew1 | refine below_set ?_ GE104.out) | exact HB.out)⟩⟩
          · replace c11 := Bool.eq_false_iff.mpr c11
            subst c11
            have H1 : (isobathref05_CheckExchange.j0 k true a0_0 a0_1 a0_2 a0_3 a0_4 a0_5 a0_6 a0_7) = some r := by rw [if_neg (show ¬ (false = true) by decide)] at H; exact H
            clear H
            have H := H1
            clear H1
            have H' := Aside0.mk H
            clear H
            have hcz15_0 : w3.cell? ⟨gb104, 0, none⟩ = some (.int .i64 a0_0) := (blk_cell BK104.out 0).trans rfl
            have hcz15_1 : w3.cell? ⟨gb104, 1, none⟩ = some (.int .i64 a0_1) := (blk_cell BK104.out 1).trans rfl
            have hcz15_2 : w3.cell? ⟨gb104, 2, none⟩ = some (.int .i64 a0_2) := (blk_cell BK104.out 2).trans rfl
            have hcz15_3 : w3.cell? ⟨gb104, 3, none⟩ = some (.int .i64 a0_3) := (blk_cell BK104.out 3).trans rfl
            have hcz15_4 : w3.cell? ⟨gb104, 4, none⟩ = some (.int .i64 a0_4) := (blk_cell BK104.out 4).trans rfl
            have hcz15_5 : w3.cell? ⟨gb104, 5, none⟩ = some (.int .i64 a0_5) := (blk_cell BK104.out 5).trans rfl
            have hcz15_6 : w3.cell? ⟨gb104, 6, none⟩ = some (.int .i64 a0_6) := (blk_cell BK104.out 6).trans rfl
            have hcz15_7 : w3.cell? ⟨gb104, 7, none⟩ = some (.int .i64 a0_7) := (blk_cell BK104.out 7).trans rfl
            have hfz15_0 := blk_frozen BK104.out 0
            have hfz15_1 := blk_frozen BK104.out 1
            have hfz15_2 := blk_frozen BK104.out 2
            have hfz15_3 := blk_frozen BK104.out 3
            have hfz15_4 := blk_frozen BK104.out 4
            have hfz15_5 := blk_frozen BK104.out 5
            have hfz15_6 := blk_frozen BK104.out 6
            have hfz15_7 := blk_frozen BK104.out 7
            go_wp2_with (first | ((with_reducible refine gate_callee (f := 68) rfl ?_); refine goesL_ (some 5) rfl rfl Try.func68 (by kernel_rfl) rfl #[.int .i64 a0_0] rfl (by (try simp only [List.map_toArray, List.map_cons, List.map_nil]); first | done | rfl | (simp only [List.length_drop, List.length_take]; rfl)) ?_; (with_reducible refine (isobathref05_isTime.calls a0_0 true _ A4.out).mono ?_); rintro e w' ⟨rfl, ⟨nd, rfl⟩⟩; refine ⟨_, rfl, ?_⟩) | (go_at_call 68; (with_reducible refine (isobathref05_isTime.calls a0_1 true _ A6.out).mono ?_); rintro e w' ⟨rfl, ⟨nd, rfl⟩⟩) | (go_at_call 68; (with_reducible refine (isobathref05_isTime.calls a0_2 true _ A8.out).mono ?_); rintro e w' ⟨rfl, ⟨nd, rfl⟩⟩) | (go_at_call 68; (with_reducible refine (isobathref05_isTime.calls a0_3 false _ A10.out).mono ?_); rintro e w' ⟨rfl, ⟨nd, rfl⟩⟩))
            go_meet
            case rel => exact ⟨_, (true), (by first | rfl | (simp; done) | (simp [*]; done)), H', ⟨by first | omega | exact Nat.le_refl _⟩, ⟨by (with_reducible repeat (first | refine blk_drewN ?_ _ | refine blk_drew ?_ | refine blk_alloc ?_ _)); exact BK104.out⟩, ⟨by repeat (first | (with_reducible first | exact HB.out | apply below_alloc | apply pw_below_drewN | apply below_drew1 | refine below_set ?_ GE104.out) | exact HB.out)⟩⟩
        · replace c9 := Bool.eq_false_iff.mpr c9
          subst c9
          have H1 : (isobathref05_CheckExchange.j0 k true a0_0 a0_1 a0_2 a0_3 a0_4 a0_5 a0_6 a0_7) = some r := by rw [if_neg (show ¬ (false = true) by decide)] at H; exact H
          clear H
          have H := H1
          clear H1
          have H' := Aside0.mk H
          clear H
          have hcz16_0 : w3.cell? ⟨gb104, 0, none⟩ = some (.int .i64 a0_0) := (blk_cell BK104.out 0).trans rfl
          have hcz16_1 : w3.cell? ⟨gb104, 1, none⟩ = some (.int .i64 a0_1) := (blk_cell BK104.out 1).trans rfl
          have hcz16_2 : w3.cell? ⟨gb104, 2, none⟩ = some (.int .i64 a0_2) := (blk_cell BK104.out 2).trans rfl
          have hcz16_3 : w3.cell? ⟨gb104, 3, none⟩ = some (.int .i64 a0_3) := (blk_cell BK104.out 3).trans rfl
          have hcz16_4 : w3.cell? ⟨gb104, 4, none⟩ = some (.int .i64 a0_4) := (blk_cell BK104.out 4).trans rfl
          have hcz16_5 : w3.cell? ⟨gb104, 5, none⟩ = some (.int .i64 a0_5) := (blk_cell BK104.out 5).trans rfl
          have hcz16_6 : w3.cell? ⟨gb104, 6, none⟩ = some (.int .i64 a0_6) := (blk_cell BK104.out 6).trans rfl
          have hcz16_7 : w3.cell? ⟨gb104, 7, none⟩ = some (.int .i64 a0_7) := (blk_cell BK104.out 7).trans rfl
          have hfz16_0 := blk_frozen BK104.out 0
          have hfz16_1 := blk_frozen BK104.out 1
          have hfz16_2 := blk_frozen BK104.out 2
          have hfz16_3 := blk_frozen BK104.out 3
          have hfz16_4 := blk_frozen BK104.out 4
          have hfz16_5 := blk_frozen BK104.out 5
          have hfz16_6 := blk_frozen BK104.out 6
          have hfz16_7 := blk_frozen BK104.out 7
          go_wp2_with (first | ((with_reducible refine gate_callee (f := 68) rfl ?_); refine goesL_ (some 5) rfl rfl Try.func68 (by kernel_rfl) rfl #[.int .i64 a0_0] rfl (by (try simp only [List.map_toArray, List.map_cons, List.map_nil]); first | done | rfl | (simp only [List.length_drop, List.length_take]; rfl)) ?_; (with_reducible refine (isobathref05_isTime.calls a0_0 true _ A4.out).mono ?_); rintro e w' ⟨rfl, ⟨nd, rfl⟩⟩; refine ⟨_, rfl, ?_⟩) | (go_at_call 68; (with_reducible refine (isobathref05_isTime.calls a0_1 true _ A6.out).mono ?_); rintro e w' ⟨rfl, ⟨nd, rfl⟩⟩) | (go_at_call 68; (with_reducible refine (isobathref05_isTime.calls a0_2 false _ A8.out).mono ?_); rintro e w' ⟨rfl, ⟨nd, rfl⟩⟩))
          go_meet
          case rel => exact ⟨_, (true), (by first | rfl | (simp; done) | (simp [*]; done)), H', ⟨by first | omega | exact Nat.le_refl _⟩, ⟨by (with_reducible repeat (first | refine blk_drewN ?_ _ | refine blk_drew ?_ | refine blk_alloc ?_ _)); exact BK104.out⟩, ⟨by repeat (first | (with_reducible first | exact HB.out | apply below_alloc | apply pw_below_drewN | apply below_drew1 | refine below_set ?_ GE104.out) | exact HB.out)⟩⟩
      · replace c7 := Bool.eq_false_iff.mpr c7
        subst c7
        have H1 : (isobathref05_CheckExchange.j0 k true a0_0 a0_1 a0_2 a0_3 a0_4 a0_5 a0_6 a0_7) = some r := by rw [if_neg (show ¬ (false = true) by decide)] at H; exact H
        clear H
        have H := H1
        clear H1
        have H' := Aside0.mk H
        clear H
        have hcz17_0 : w3.cell? ⟨gb104, 0, none⟩ = some (.int .i64 a0_0) := (blk_cell BK104.out 0).trans rfl
        have hcz17_1 : w3.cell? ⟨gb104, 1, none⟩ = some (.int .i64 a0_1) := (blk_cell BK104.out 1).trans rfl
        have hcz17_2 : w3.cell? ⟨gb104, 2, none⟩ = some (.int .i64 a0_2) := (blk_cell BK104.out 2).trans rfl
        have hcz17_3 : w3.cell? ⟨gb104, 3, none⟩ = some (.int .i64 a0_3) := (blk_cell BK104.out 3).trans rfl
        have hcz17_4 : w3.cell? ⟨gb104, 4, none⟩ = some (.int .i64 a0_4) := (blk_cell BK104.out 4).trans rfl
        have hcz17_5 : w3.cell? ⟨gb104, 5, none⟩ = some (.int .i64 a0_5) := (blk_cell BK104.out 5).trans rfl
        have hcz17_6 : w3.cell? ⟨gb104, 6, none⟩ = some (.int .i64 a0_6) := (blk_cell BK104.out 6).trans rfl
        have hcz17_7 : w3.cell? ⟨gb104, 7, none⟩ = some (.int .i64 a0_7) := (blk_cell BK104.out 7).trans rfl
        have hfz17_0 := blk_frozen BK104.out 0
        have hfz17_1 := blk_frozen BK104.out 1
        have hfz17_2 := blk_frozen BK104.out 2
        have hfz17_3 := blk_frozen BK104.out 3
        have hfz17_4 := blk_frozen BK104.out 4
        have hfz17_5 := blk_frozen BK104.out 5
        have hfz17_6 := blk_frozen BK104.out 6
        have hfz17_7 := blk_frozen BK104.out 7
        go_wp2_with (first | ((with_reducible refine gate_callee (f := 68) rfl ?_); refine goesL_ (some 5) rfl rfl Try.func68 (by kernel_rfl) rfl #[.int .i64 a0_0] rfl (by (try simp only [List.map_toArray, List.map_cons, List.map_nil]); first | done | rfl | (simp only [List.length_drop, List.length_take]; rfl)) ?_; (with_reducible refine (isobathref05_isTime.calls a0_0 true _ A4.out).mono ?_); rintro e w' ⟨rfl, ⟨nd, rfl⟩⟩; refine ⟨_, rfl, ?_⟩) | (go_at_call 68; (with_reducible refine (isobathref05_isTime.calls a0_1 false _ A6.out).mono ?_); rintro e w' ⟨rfl, ⟨nd, rfl⟩⟩))
        go_meet
        case rel => exact ⟨_, (true), (by first | rfl | (simp; done) | (simp [*]; done)), H', ⟨by first | omega | exact Nat.le_refl _⟩, ⟨by (with_reducible repeat (first | refine blk_drewN ?_ _ | refine blk_drew ?_ | refine blk_alloc ?_ _)); exact BK104.out⟩, ⟨by repeat (first | (with_reducible first | exact HB.out | apply below_alloc | apply pw_below_drewN | apply below_drew1 | refine below_set ?_ GE104.out) | exact HB.out)⟩⟩
    · replace c5 := Bool.eq_false_iff.mpr c5
      subst c5
      have H1 : (isobathref05_CheckExchange.j0 k true a0_0 a0_1 a0_2 a0_3 a0_4 a0_5 a0_6 a0_7) = some r := by rw [if_neg (show ¬ (false = true) by decide)] at H; exact H
      clear H
      have H := H1
      clear H1
      have H' := Aside0.mk H
      clear H
      have hcz18_0 : w3.cell? ⟨gb104, 0, none⟩ = some (.int .i64 a0_0) := (blk_cell BK104.out 0).trans rfl
      have hcz18_1 : w3.cell? ⟨gb104, 1, none⟩ = some (.int .i64 a0_1) := (blk_cell BK104.out 1).trans rfl
      have hcz18_2 : w3.cell? ⟨gb104, 2, none⟩ = some (.int .i64 a0_2) := (blk_cell BK104.out 2).trans rfl
      have hcz18_3 : w3.cell? ⟨gb104, 3, none⟩ = some (.int .i64 a0_3) := (blk_cell BK104.out 3).trans rfl
      have hcz18_4 : w3.cell? ⟨gb104, 4, none⟩ = some (.int .i64 a0_4) := (blk_cell BK104.out 4).trans rfl
      have hcz18_5 : w3.cell? ⟨gb104, 5, none⟩ = some (.int .i64 a0_5) := (blk_cell BK104.out 5).trans rfl
      have hcz18_6 : w3.cell? ⟨gb104, 6, none⟩ = some (.int .i64 a0_6) := (blk_cell BK104.out 6).trans rfl
      have hcz18_7 : w3.cell? ⟨gb104, 7, none⟩ = some (.int .i64 a0_7) := (blk_cell BK104.out 7).trans rfl
      have hfz18_0 := blk_frozen BK104.out 0
      have hfz18_1 := blk_frozen BK104.out 1
      have hfz18_2 := blk_frozen BK104.out 2
      have hfz18_3 := blk_frozen BK104.out 3
      have hfz18_4 := blk_frozen BK104.out 4
      have hfz18_5 := blk_frozen BK104.out 5
      have hfz18_6 := blk_frozen BK104.out 6
      have hfz18_7 := blk_frozen BK104.out 7
      go_wp2_with (first | ((with_reducible refine gate_callee (f := 68) rfl ?_); refine goesL_ (some 5) rfl rfl Try.func68 (by kernel_rfl) rfl #[.int .i64 a0_0] rfl (by (try simp only [List.map_toArray, List.map_cons, List.map_nil]); first | done | rfl | (simp only [List.length_drop, List.length_take]; rfl)) ?_; (with_reducible refine (isobathref05_isTime.calls a0_0 false _ A4.out).mono ?_); rintro e w' ⟨rfl, ⟨nd, rfl⟩⟩; refine ⟨_, rfl, ?_⟩))
      go_meet
      case rel => exact ⟨_, (true), (by first | rfl | (simp; done) | (simp [*]; done)), H', ⟨by first | omega | exact Nat.le_refl _⟩, ⟨by (with_reducible repeat (first | refine blk_drewN ?_ _ | refine blk_drew ?_ | refine blk_alloc ?_ _)); exact BK104.out⟩, ⟨by repeat (first | (with_reducible first | exact HB.out | apply below_alloc | apply pw_below_drewN | apply below_drew1 | refine below_set ?_ GE104.out) | exact HB.out)⟩⟩
  case rest =>
    clear HC2
    try clear c1
    try clear p2
    try clear c3
    try clear c5
    try clear c6
    try clear c7
    try clear c9
    try clear c11
    try clear c12
    try clear c12b0
    try clear hcz13_0
    try clear hcz13_1
    try clear hcz13_2
    try clear hcz13_3
    try clear hcz13_4
    try clear hcz13_5
    try clear hcz13_6
    try clear hcz13_7
    try clear hcz14_0
    try clear hcz14_1
    try clear hcz14_2
    try clear hcz14_3
    try clear hcz14_4
    try clear hcz14_5
    try clear hcz14_6
    try clear hcz14_7
    try clear hcz15_0
    try clear hcz15_1
    try clear hcz15_2
    try clear hcz15_3
    try clear hcz15_4
    try clear hcz15_5
    try clear hcz15_6
    try clear hcz15_7
    try clear hcz16_0
    try clear hcz16_1
    try clear hcz16_2
    try clear hcz16_3
    try clear hcz16_4
    try clear hcz16_5
    try clear hcz16_6
    try clear hcz16_7
    try clear hcz17_0
    try clear hcz17_1
    try clear hcz17_2
    try clear hcz17_3
    try clear hcz17_4
    try clear hcz17_5
    try clear hcz17_6
    try clear hcz17_7
    try clear hcz18_0
    try clear hcz18_1
    try clear hcz18_2
    try clear hcz18_3
    try clear hcz18_4
    try clear hcz18_5
    try clear hcz18_6
    try clear hcz18_7
    try clear hfz13_0
    try clear hfz13_1
    try clear hfz13_2
    try clear hfz13_3
    try clear hfz13_4
    try clear hfz13_5
    try clear hfz13_6
    try clear hfz13_7
    try clear hfz14_0
    try clear hfz14_1
    try clear hfz14_2
    try clear hfz14_3
    try clear hfz14_4
    try clear hfz14_5
    try clear hfz14_6
    try clear hfz14_7
    try clear hfz15_0
    try clear hfz15_1
    try clear hfz15_2
    try clear hfz15_3
    try clear hfz15_4
    try clear hfz15_5
    try clear hfz15_6
    try clear hfz15_7
    try clear hfz16_0
    try clear hfz16_1
    try clear hfz16_2
    try clear hfz16_3
    try clear hfz16_4
    try clear hfz16_5
    try clear hfz16_6
    try clear hfz16_7
    try clear hfz17_0
    try clear hfz17_1
    try clear hfz17_2
    try clear hfz17_3
    try clear hfz17_4
    try clear hfz17_5
    try clear hfz17_6
    try clear hfz17_7
    try clear hfz18_0
    try clear hfz18_1
    try clear hfz18_2
    try clear hfz18_3
    try clear hfz18_4
    try clear hfz18_5
    try clear hfz18_6
    try clear hfz18_7
    obtain ⟨kq, x38_1, rfl, HA, HJ1, BK104, HB⟩ := hcut
    cases kq with
    | zero => exact absurd HA.out (by simp [isobathref05_CheckExchange.j0])
    | succ kj1 =>
      have H := HA.out
      clear HA
      simp only [isobathref05_CheckExchange.j0] at H
      by_cases c19 : x38_1 = true
      · subst c19
        have H1 : (some 2) = some r := by rw [if_pos rfl] at H; exact H
        clear H
        have H := H1
        clear H1
        obtain rfl := Option.some.inj H
        go_wp2
        go_ret
        exact ⟨by first | rfl | (simp [errW_none, errW_some] <;> rfl) | (simp [*, errW_none, errW_some] <;> rfl), by repeat (first | (with_reducible first | exact HB.out | apply below_alloc | apply pw_below_drewN | apply below_drew1 | refine below_set ?_ GE104.out) | exact HB.out)⟩
      · replace c19 := Bool.eq_false_iff.mpr c19
        subst c19
        have H1 : ((isobathref01_Valid.f a0_4 a0_5).bind fun t109 => (if t109 = true then ((isobathref01_Valid.f a0_6 a0_7).bind fun t110 => (if t110 = true then (if a0_4 < 0 then (some 2) else (if a0_6 < 0 then (some 2) else (some 0))) else (some 2))) else (some 2))) = some r := by rw [if_neg (show ¬ (false = true) by decide)] at H; exact H
        clear H
        have H := H1
        clear H1
        replace H := Option.bind_eq_some_iff.mp H
        obtain ⟨t109, A200, H⟩ := H
        replace H : (if t109 = true then ((isobathref01_Valid.f a0_6 a0_7).bind fun t110 => (if t110 = true then (if a0_4 < 0 then (some 2) else (if a0_6 < 0 then (some 2) else (some 0))) else (some 2))) else (some 2)) = some r := H
        have A20 := Aside0.mk A200
        clear A200
        by_cases c21 : t109 = true
        · subst c21
          have H1 : ((isobathref01_Valid.f a0_6 a0_7).bind fun t110 => (if t110 = true then (if a0_4 < 0 then (some 2) else (if a0_6 < 0 then (some 2) else (some 0))) else (some 2))) = some r := by rw [if_pos rfl] at H; exact H
          clear H
          have H := H1
          clear H1
          replace H := Option.bind_eq_some_iff.mp H
          obtain ⟨t110, A220, H⟩ := H
          replace H : (if t110 = true then (if a0_4 < 0 then (some 2) else (if a0_6 < 0 then (some 2) else (some 0))) else (some 2)) = some r := H
          have A22 := Aside0.mk A220
          clear A220
          by_cases c23 : t110 = true
          · subst c23
            have H1 : (if a0_4 < 0 then (some 2) else (if a0_6 < 0 then (some 2) else (some 0))) = some r := by rw [if_pos rfl] at H; exact H
            clear H
            have H := H1
            clear H1
            by_cases c24 : a0_4 < 0
            · rw [if_pos c24] at H
              have c24b0 : decide (a0_4 < 0) = true := decide_eq_true c24
              clear c24
              obtain rfl := Option.some.inj H
              have hcz25_0 : wc.cell? ⟨gb104, 0, none⟩ = some (.int .i64 a0_0) := (blk_cell BK104.out 0).trans rfl
              have hcz25_1 : wc.cell? ⟨gb104, 1, none⟩ = some (.int .i64 a0_1) := (blk_cell BK104.out 1).trans rfl
              have hcz25_2 : wc.cell? ⟨gb104, 2, none⟩ = some (.int .i64 a0_2) := (blk_cell BK104.out 2).trans rfl
              have hcz25_3 : wc.cell? ⟨gb104, 3, none⟩ = some (.int .i64 a0_3) := (blk_cell BK104.out 3).trans rfl
              have hcz25_4 : wc.cell? ⟨gb104, 4, none⟩ = some (.int .i64 a0_4) := (blk_cell BK104.out 4).trans rfl
              have hcz25_5 : wc.cell? ⟨gb104, 5, none⟩ = some (.int .i64 a0_5) := (blk_cell BK104.out 5).trans rfl
              have hcz25_6 : wc.cell? ⟨gb104, 6, none⟩ = some (.int .i64 a0_6) := (blk_cell BK104.out 6).trans rfl
              have hcz25_7 : wc.cell? ⟨gb104, 7, none⟩ = some (.int .i64 a0_7) := (blk_cell BK104.out 7).trans rfl
              have hfz25_0 := blk_frozen BK104.out 0
              have hfz25_1 := blk_frozen BK104.out 1
              have hfz25_2 := blk_frozen BK104.out 2
              have hfz25_3 := blk_frozen BK104.out 3
              have hfz25_4 := blk_frozen BK104.out 4
              have hfz25_5 := blk_frozen BK104.out 5
              have hfz25_6 := blk_frozen BK104.out 6
              have hfz25_7 := blk_frozen BK104.out 7
              go_wp2_with (first | ((with_reducible refine gate_callee (f := 73) rfl ?_); refine goesL_ (some 41) rfl rfl Try.func73 (by kernel_rfl) rfl #[.agg #[.int .i64 a0_4, .int .i64 a0_5]] rfl (by (try simp only [List.map_toArray, List.map_cons, List.map_nil]); first | done | rfl | (simp only [List.length_drop, List.length_take]; rfl)) ?_; (with_reducible refine (isobathref01_Valid.calls a0_4 a0_5 true _ A20.out).mono ?_); rintro e w26 ⟨rfl, hb⟩; refine ⟨_, rfl, ?_⟩; have n0_ := Aside0.mk (blk_below (g := gb104) (o := .cells #[.int .i64 a0_0, .int .i64 a0_1, .int .i64 a0_2, .int .i64 a0_3, .int .i64 a0_4, .int .i64 a0_5, .int .i64 a0_6, .int .i64 a0_7] 46 (0, 0)) (by (with_reducible repeat (first | refine blk_drewN ?_ _ | refine blk_drew ?_ | refine blk_alloc ?_ _)); exact BK104.out) hb); have n1_ := Aside0.mk (below_step (by repeat (first | (with_reducible first | exact HB.out | apply below_alloc | apply pw_below_drewN | apply below_drew1 | refine below_set ?_ GE104.out) | exact HB.out)) hb); clear BK104; clear HB; have BK104 := n0_; have HB := n1_; clear n0_ n1_; (try clear hb); (try clear hb2); (try clear hk); (try clear hi); have hcz27_0 : w26.cell? ⟨gb104, 0, none⟩ = some (.int .i64 a0_0) := (blk_cell BK104.out 0).trans rfl; have hcz27_1 : w26.cell? ⟨gb104, 1, none⟩ = some (.int .i64 a0_1) := (blk_cell BK104.out 1).trans rfl; have hcz27_2 : w26.cell? ⟨gb104, 2, none⟩ = some (.int .i64 a0_2) := (blk_cell BK104.out 2).trans rfl; have hcz27_3 : w26.cell? ⟨gb104, 3, none⟩ = some (.int .i64 a0_3) := (blk_cell BK104.out 3).trans rfl; have hcz27_4 : w26.cell? ⟨gb104, 4, none⟩ = some (.int .i64 a0_4) := (blk_cell BK104.out 4).trans rfl; have hcz27_5 : w26.cell? ⟨gb104, 5, none⟩ = some (.int .i64 a0_5) := (blk_cell BK104.out 5).trans rfl; have hcz27_6 : w26.cell? ⟨gb104, 6, none⟩ = some (.int .i64 a0_6) := (blk_cell BK104.out 6).trans rfl; have hcz27_7 : w26.cell? ⟨gb104, 7, none⟩ = some (.int .i64 a0_7) := (blk_cell BK104.out 7).trans rfl; have hfz27_0 := blk_frozen BK104.out 0; have hfz27_1 := blk_frozen BK104.out 1; have hfz27_2 := blk_frozen BK104.out 2; have hfz27_3 := blk_frozen BK104.out 3; have hfz27_4 := blk_frozen BK104.out 4; have hfz27_5 := blk_frozen BK104.out 5; have hfz27_6 := blk_frozen BK104.out 6; have hfz27_7 := blk_frozen BK104.out 7) | (go_at_call 73; (with_reducible refine (isobathref01_Valid.calls a0_6 a0_7 true _ A22.out).mono ?_); rintro e w28 ⟨rfl, hb⟩; have n0_ := Aside0.mk (blk_below (g := gb104) (o := .cells #[.int .i64 a0_0, .int .i64 a0_1, .int .i64 a0_2, .int .i64 a0_3, .int .i64 a0_4, .int .i64 a0_5, .int .i64 a0_6, .int .i64 a0_7] 46 (0, 0)) (by (with_reducible repeat (first | refine blk_drewN ?_ _ | refine blk_drew ?_ | refine blk_alloc ?_ _)); exact BK104.out) hb); have n1_ := Aside0.mk (below_step (by repeat (first | (with_reducible first | exact HB.out | apply below_alloc | apply pw_below_drewN | apply below_drew1 | refine below_set ?_ GE104.out) | exact HB.out)) hb); clear BK104; clear HB; have BK104 := n0_; have HB := n1_; clear n0_ n1_; (try clear hb); (try clear hb2); (try clear hk); (try clear hi); have hcz29_0 : w28.cell? ⟨gb104, 0, none⟩ = some (.int .i64 a0_0) := (blk_cell BK104.out 0).trans rfl; have hcz29_1 : w28.cell? ⟨gb104, 1, none⟩ = some (.int .i64 a0_1) := (blk_cell BK104.out 1).trans rfl; have hcz29_2 : w28.cell? ⟨gb104, 2, none⟩ = some (.int .i64 a0_2) := (blk_cell BK104.out 2).trans rfl; have hcz29_3 : w28.cell? ⟨gb104, 3, none⟩ = some (.int .i64 a0_3) := (blk_cell BK104.out 3).trans rfl; have hcz29_4 : w28.cell? ⟨gb104, 4, none⟩ = some (.int .i64 a0_4) := (blk_cell BK104.out 4).trans rfl; have hcz29_5 : w28.cell? ⟨gb104, 5, none⟩ = some (.int .i64 a0_5) := (blk_cell BK104.out 5).trans rfl; have hcz29_6 : w28.cell? ⟨gb104, 6, none⟩ = some (.int .i64 a0_6) := (blk_cell BK104.out 6).trans rfl; have hcz29_7 : w28.cell? ⟨gb104, 7, none⟩ = some (.int .i64 a0_7) := (blk_cell BK104.out 7).trans rfl; have hfz29_0 := blk_frozen BK104.out 0; have hfz29_1 := blk_frozen BK104.out 1; have hfz29_2 := blk_frozen BK104.out 2; have hfz29_3 := blk_frozen BK104.out 3; have hfz29_4 := blk_frozen BK104.out 4; have hfz29_5 := blk_frozen BK104.out 5; have hfz29_6 := blk_frozen BK104.out 6; have hfz29_7 := blk_frozen BK104.out 7))
              go_ret
              exact ⟨by first | rfl | (simp [errW_none, errW_some] <;> rfl) | (simp [*, errW_none, errW_some] <;> rfl), by repeat (first | (with_reducible first | exact HB.out | apply below_alloc | apply pw_below_drewN | apply below_drew1 | refine below_set ?_ GE104.out) | exact HB.out)⟩
            · rw [if_neg c24] at H
              have c24b0 : decide (a0_4 < 0) = false := decide_eq_false c24
              clear c24
              by_cases c30 : a0_6 < 0
              · rw [if_pos c30] at H
                have c30b0 : decide (a0_6 < 0) = true := decide_eq_true c30
                clear c30
                obtain rfl := Option.some.inj H
                have hcz31_0 : wc.cell? ⟨gb104, 0, none⟩ = some (.int .i64 a0_0) := (blk_cell BK104.out 0).trans rfl
                have hcz31_1 : wc.cell? ⟨gb104, 1, none⟩ = some (.int .i64 a0_1) := (blk_cell BK104.out 1).trans rfl
                have hcz31_2 : wc.cell? ⟨gb104, 2, none⟩ = some (.int .i64 a0_2) := (blk_cell BK104.out 2).trans rfl
                have hcz31_3 : wc.cell? ⟨gb104, 3, none⟩ = some (.int .i64 a0_3) := (blk_cell BK104.out 3).trans rfl
                have hcz31_4 : wc.cell? ⟨gb104, 4, none⟩ = some (.int .i64 a0_4) := (blk_cell BK104.out 4).trans rfl
                have hcz31_5 : wc.cell? ⟨gb104, 5, none⟩ = some (.int .i64 a0_5) := (blk_cell BK104.out 5).trans rfl
                have hcz31_6 : wc.cell? ⟨gb104, 6, none⟩ = some (.int .i64 a0_6) := (blk_cell BK104.out 6).trans rfl
                have hcz31_7 : wc.cell? ⟨gb104, 7, none⟩ = some (.int .i64 a0_7) := (blk_cell BK104.out 7).trans rfl
                have hfz31_0 := blk_frozen BK104.out 0
                have hfz31_1 := blk_frozen BK104.out 1
                have hfz31_2 := blk_frozen BK104.out 2
                have hfz31_3 := blk_frozen BK104.out 3
                have hfz31_4 := blk_frozen BK104.out 4
                have hfz31_5 := blk_frozen BK104.out 5
                have hfz31_6 := blk_frozen BK104.out 6
                have hfz31_7 := blk_frozen BK104.out 7
                go_wp2_with (first | ((with_reducible refine gate_callee (f := 73) rfl ?_); refine goesL_ (some 41) rfl rfl Try.func73 (by kernel_rfl) rfl #[.agg #[.int .i64 a0_4, .int .i64 a0_5]] rfl (by (try simp only [List.map_toArray, List.map_cons, List.map_nil]); first | done | rfl | (simp only [List.length_drop, List.length_take]; rfl)) ?_; (with_reducible refine (isobathref01_Valid.calls a0_4 a0_5 true _ A20.out).mono ?_); rintro e w32 ⟨rfl, hb⟩; refine ⟨_, rfl, ?_⟩; have n0_ := Aside0.mk (blk_below (g := gb104) (o := .cells #[.int .i64 a0_0, .int .i64 a0_1, .int .i64 a0_2, .int .i64 a0_3, .int .i64 a0_4, .int .i64 a0_5, .int .i64 a0_6, .int .i64 a0_7] 46 (0, 0)) (by (with_reducible repeat (first | refine blk_drewN ?_ _ | refine blk_drew ?_ | refine blk_alloc ?_ _)); exact BK104.out) hb); have n1_ := Aside0.mk (below_step (by repeat (first | (with_reducible first | exact HB.out | apply below_alloc | apply pw_below_drewN | apply below_drew1 | refine below_set ?_ GE104.out) | exact HB.out)) hb); clear BK104; clear HB; have BK104 := n0_; have HB := n1_; clear n0_ n1_; (try clear hb); (try clear hb2); (try clear hk); (try clear hi); have hcz33_0 : w32.cell? ⟨gb104, 0, none⟩ = some (.int .i64 a0_0) := (blk_cell BK104.out 0).trans rfl; have hcz33_1 : w32.cell? ⟨gb104, 1, none⟩ = some (.int .i64 a0_1) := (blk_cell BK104.out 1).trans rfl; have hcz33_2 : w32.cell? ⟨gb104, 2, none⟩ = some (.int .i64 a0_2) := (blk_cell BK104.out 2).trans rfl; have hcz33_3 : w32.cell? ⟨gb104, 3, none⟩ = some (.int .i64 a0_3) := (blk_cell BK104.out 3).trans rfl; have hcz33_4 : w32.cell? ⟨gb104, 4, none⟩ = some (.int .i64 a0_4) := (blk_cell BK104.out 4).trans rfl; have hcz33_5 : w32.cell? ⟨gb104, 5, none⟩ = some (.int .i64 a0_5) := (blk_cell BK104.out 5).trans rfl; have hcz33_6 : w32.cell? ⟨gb104, 6, none⟩ = some (.int .i64 a0_6) := (blk_cell BK104.out 6).trans rfl; have hcz33_7 : w32.cell? ⟨gb104, 7, none⟩ = some (.int .i64 a0_7) := (blk_cell BK104.out 7).trans rfl; have hfz33_0 := blk_frozen BK104.out 0; have hfz33_1 := blk_frozen BK104.out 1; have hfz33_2 := blk_frozen BK104.out 2; have hfz33_3 := blk_frozen BK104.out 3; have hfz33_4 := blk_frozen BK104.out 4; have hfz33_5 := blk_frozen BK104.out 5; have hfz33_6 := blk_frozen BK104.out 6; have hfz33_7 := blk_frozen BK104.out 7) | (go_at_call 73; (with_reducible refine (isobathref01_Valid.calls a0_6 a0_7 true _ A22.out).mono ?_); rintro e w34 ⟨rfl, hb⟩; have n0_ := Aside0.mk (blk_below (g := gb104) (o := .cells #[.int .i64 a0_0, .int .i64 a0_1, .int .i64 a0_2, .int .i64 a0_3, .int .i64 a0_4, .int .i64 a0_5, .int .i64 a0_6, .int .i64 a0_7] 46 (0, 0)) (by (with_reducible repeat (first | refine blk_drewN ?_ _ | refine blk_drew ?_ | refine blk_alloc ?_ _)); exact BK104.out) hb); have n1_ := Aside0.mk (below_step (by repeat (first | (with_reducible first | exact HB.out | apply below_alloc | apply pw_below_drewN | apply below_drew1 | refine below_set ?_ GE104.out) | exact HB.out)) hb); clear BK104; clear HB; have BK104 := n0_; have HB := n1_; clear n0_ n1_; (try clear hb); (try clear hb2); (try clear hk); (try clear hi); have hcz35_0 : w34.cell? ⟨gb104, 0, none⟩ = some (.int .i64 a0_0) := (blk_cell BK104.out 0).trans rfl; have hcz35_1 : w34.cell? ⟨gb104, 1, none⟩ = some (.int .i64 a0_1) := (blk_cell BK104.out 1).trans rfl; have hcz35_2 : w34.cell? ⟨gb104, 2, none⟩ = some (.int .i64 a0_2) := (blk_cell BK104.out 2).trans rfl; have hcz35_3 : w34.cell? ⟨gb104, 3, none⟩ = some (.int .i64 a0_3) := (blk_cell BK104.out 3).trans rfl; have hcz35_4 : w34.cell? ⟨gb104, 4, none⟩ = some (.int .i64 a0_4) := (blk_cell BK104.out 4).trans rfl; have hcz35_5 : w34.cell? ⟨gb104, 5, none⟩ = some (.int .i64 a0_5) := (blk_cell BK104.out 5).trans rfl; have hcz35_6 : w34.cell? ⟨gb104, 6, none⟩ = some (.int .i64 a0_6) := (blk_cell BK104.out 6).trans rfl; have hcz35_7 : w34.cell? ⟨gb104, 7, none⟩ = some (.int .i64 a0_7) := (blk_cell BK104.out 7).trans rfl; have hfz35_0 := blk_frozen BK104.out 0; have hfz35_1 := blk_frozen BK104.out 1; have hfz35_2 := blk_frozen BK104.out 2; have hfz35_3 := blk_frozen BK104.out 3; have hfz35_4 := blk_frozen BK104.out 4; have hfz35_5 := blk_frozen BK104.out 5; have hfz35_6 := blk_frozen BK104.out 6; have hfz35_7 := blk_frozen BK104.out 7))
                go_ret
                exact ⟨by first | rfl | (simp [errW_none, errW_some] <;> rfl) | (simp [*, errW_none, errW_some] <;> rfl), by repeat (first | (with_reducible first | exact HB.out | apply below_alloc | apply pw_below_drewN | apply below_drew1 | refine below_set ?_ GE104.out) | exact HB.out)⟩
              · rw [if_neg c30] at H
                have c30b0 : decide (a0_6 < 0) = false := decide_eq_false c30
                clear c30
                obtain rfl := Option.some.inj H
                have hcz36_0 : wc.cell? ⟨gb104, 0, none⟩ = some (.int .i64 a0_0) := (blk_cell BK104.out 0).trans rfl
                have hcz36_1 : wc.cell? ⟨gb104, 1, none⟩ = some (.int .i64 a0_1) := (blk_cell BK104.out 1).trans rfl
                have hcz36_2 : wc.cell? ⟨gb104, 2, none⟩ = some (.int .i64 a0_2) := (blk_cell BK104.out 2).trans rfl
                have hcz36_3 : wc.cell? ⟨gb104, 3, none⟩ = some (.int .i64 a0_3) := (blk_cell BK104.out 3).trans rfl
                have hcz36_4 : wc.cell? ⟨gb104, 4, none⟩ = some (.int .i64 a0_4) := (blk_cell BK104.out 4).trans rfl
                have hcz36_5 : wc.cell? ⟨gb104, 5, none⟩ = some (.int .i64 a0_5) := (blk_cell BK104.out 5).trans rfl
                have hcz36_6 : wc.cell? ⟨gb104, 6, none⟩ = some (.int .i64 a0_6) := (blk_cell BK104.out 6).trans rfl
                have hcz36_7 : wc.cell? ⟨gb104, 7, none⟩ = some (.int .i64 a0_7) := (blk_cell BK104.out 7).trans rfl
                have hfz36_0 := blk_frozen BK104.out 0
                have hfz36_1 := blk_frozen BK104.out 1
                have hfz36_2 := blk_frozen BK104.out 2
                have hfz36_3 := blk_frozen BK104.out 3
                have hfz36_4 := blk_frozen BK104.out 4
                have hfz36_5 := blk_frozen BK104.out 5
                have hfz36_6 := blk_frozen BK104.out 6
                have hfz36_7 := blk_frozen BK104.out 7
                go_wp2_with (first | ((with_reducible refine gate_callee (f := 73) rfl ?_); refine goesL_ (some 41) rfl rfl Try.func73 (by kernel_rfl) rfl #[.agg #[.int .i64 a0_4, .int .i64 a0_5]] rfl (by (try simp only [List.map_toArray, List.map_cons, List.map_nil]); first | done | rfl | (simp only [List.length_drop, List.length_take]; rfl)) ?_; (with_reducible refine (isobathref01_Valid.calls a0_4 a0_5 true _ A20.out).mono ?_); rintro e w37 ⟨rfl, hb⟩; refine ⟨_, rfl, ?_⟩; have n0_ := Aside0.mk (blk_below (g := gb104) (o := .cells #[.int .i64 a0_0, .int .i64 a0_1, .int .i64 a0_2, .int .i64 a0_3, .int .i64 a0_4, .int .i64 a0_5, .int .i64 a0_6, .int .i64 a0_7] 46 (0, 0)) (by (with_reducible repeat (first | refine blk_drewN ?_ _ | refine blk_drew ?_ | refine blk_alloc ?_ _)); exact BK104.out) hb); have n1_ := Aside0.mk (below_step (by repeat (first | (with_reducible first | exact HB.out | apply below_alloc | apply pw_below_drewN | apply below_drew1 | refine below_set ?_ GE104.out) | exact HB.out)) hb); clear BK104; clear HB; have BK104 := n0_; have HB := n1_; clear n0_ n1_; (try clear hb); (try clear hb2); (try clear hk); (try clear hi); have hcz38_0 : w37.cell? ⟨gb104, 0, none⟩ = some (.int .i64 a0_0) := (blk_cell BK104.out 0).trans rfl; have hcz38_1 : w37.cell? ⟨gb104, 1, none⟩ = some (.int .i64 a0_1) := (blk_cell BK104.out 1).trans rfl; have hcz38_2 : w37.cell? ⟨gb104, 2, none⟩ = some (.int .i64 a0_2) := (blk_cell BK104.out 2).trans rfl; have hcz38_3 : w37.cell? ⟨gb104, 3, none⟩ = some (.int .i64 a0_3) := (blk_cell BK104.out 3).trans rfl; have hcz38_4 : w37.cell? ⟨gb104, 4, none⟩ = some (.int .i64 a0_4) := (blk_cell BK104.out 4).trans rfl; have hcz38_5 : w37.cell? ⟨gb104, 5, none⟩ = some (.int .i64 a0_5) := (blk_cell BK104.out 5).trans rfl; have hcz38_6 : w37.cell? ⟨gb104, 6, none⟩ = some (.int .i64 a0_6) := (blk_cell BK104.out 6).trans rfl; have hcz38_7 : w37.cell? ⟨gb104, 7, none⟩ = some (.int .i64 a0_7) := (blk_cell BK104.out 7).trans rfl; have hfz38_0 := blk_frozen BK104.out 0; have hfz38_1 := blk_frozen BK104.out 1; have hfz38_2 := blk_frozen BK104.out 2; have hfz38_3 := blk_frozen BK104.out 3; have hfz38_4 := blk_frozen BK104.out 4; have hfz38_5 := blk_frozen BK104.out 5; have hfz38_6 := blk_frozen BK104.out 6; have hfz38_7 := blk_frozen BK104.out 7) | (go_at_call 73; (with_reducible refine (isobathref01_Valid.calls a0_6 a0_7 true _ A22.out).mono ?_); rintro e w39 ⟨rfl, hb⟩; have n0_ := Aside0.mk (blk_below (g := gb104) (o := .cells #[.int .i64 a0_0, .int .i64 a0_1, .int .i64 a0_2, .int .i64 a0_3, .int .i64 a0_4, .int .i64 a0_5, .int .i64 a0_6, .int .i64 a0_7] 46 (0, 0)) (by (with_reducible repeat (first | refine blk_drewN ?_ _ | refine blk_drew ?_ | refine blk_alloc ?_ _)); exact BK104.out) hb); have n1_ := Aside0.mk (below_step (by repeat (first | (with_reducible first | exact HB.out | apply below_alloc | apply pw_below_drewN | apply below_drew1 | refine below_set ?_ GE104.out) | exact HB.out)) hb); clear BK104; clear HB; have BK104 := n0_; have HB := n1_; clear n0_ n1_; (try clear hb); (try clear hb2); (try clear hk); (try clear hi); have hcz40_0 : w39.cell? ⟨gb104, 0, none⟩ = some (.int .i64 a0_0) := (blk_cell BK104.out 0).trans rfl; have hcz40_1 : w39.cell? ⟨gb104, 1, none⟩ = some (.int .i64 a0_1) := (blk_cell BK104.out 1).trans rfl; have hcz40_2 : w39.cell? ⟨gb104, 2, none⟩ = some (.int .i64 a0_2) := (blk_cell BK104.out 2).trans rfl; have hcz40_3 : w39.cell? ⟨gb104, 3, none⟩ = some (.int .i64 a0_3) := (blk_cell BK104.out 3).trans rfl; have hcz40_4 : w39.cell? ⟨gb104, 4, none⟩ = some (.int .i64 a0_4) := (blk_cell BK104.out 4).trans rfl; have hcz40_5 : w39.cell? ⟨gb104, 5, none⟩ = some (.int .i64 a0_5) := (blk_cell BK104.out 5).trans rfl; have hcz40_6 : w39.cell? ⟨gb104, 6, none⟩ = some (.int .i64 a0_6) := (blk_cell BK104.out 6).trans rfl; have hcz40_7 : w39.cell? ⟨gb104, 7, none⟩ = some (.int .i64 a0_7) := (blk_cell BK104.out 7).trans rfl; have hfz40_0 := blk_frozen BK104.out 0; have hfz40_1 := blk_frozen BK104.out 1; have hfz40_2 := blk_frozen BK104.out 2; have hfz40_3 := blk_frozen BK104.out 3; have hfz40_4 := blk_frozen BK104.out 4; have hfz40_5 := blk_frozen BK104.out 5; have hfz40_6 := blk_frozen BK104.out 6; have hfz40_7 := blk_frozen BK104.out 7))
                go_ret
                exact ⟨by first | rfl | (simp [errW_none, errW_some] <;> rfl) | (simp [*, errW_none, errW_some] <;> rfl), by repeat (first | (with_reducible first | exact HB.out | apply below_alloc | apply pw_below_drewN | apply below_drew1 | refine below_set ?_ GE104.out) | exact HB.out)⟩
          · replace c23 := Bool.eq_false_iff.mpr c23
            subst c23
            have H1 : (some 2) = some r := by rw [if_neg (show ¬ (false = true) by decide)] at H; exact H
            clear H
            have H := H1
            clear H1
            obtain rfl := Option.some.inj H
            have hcz41_0 : wc.cell? ⟨gb104, 0, none⟩ = some (.int .i64 a0_0) := (blk_cell BK104.out 0).trans rfl
            have hcz41_1 : wc.cell? ⟨gb104, 1, none⟩ = some (.int .i64 a0_1) := (blk_cell BK104.out 1).trans rfl
            have hcz41_2 : wc.cell? ⟨gb104, 2, none⟩ = some (.int .i64 a0_2) := (blk_cell BK104.out 2).trans rfl
            have hcz41_3 : wc.cell? ⟨gb104, 3, none⟩ = some (.int .i64 a0_3) := (blk_cell BK104.out 3).trans rfl
            have hcz41_4 : wc.cell? ⟨gb104, 4, none⟩ = some (.int .i64 a0_4) := (blk_cell BK104.out 4).trans rfl
            have hcz41_5 : wc.cell? ⟨gb104, 5, none⟩ = some (.int .i64 a0_5) := (blk_cell BK104.out 5).trans rfl
            have hcz41_6 : wc.cell? ⟨gb104, 6, none⟩ = some (.int .i64 a0_6) := (blk_cell BK104.out 6).trans rfl
            have hcz41_7 : wc.cell? ⟨gb104, 7, none⟩ = some (.int .i64 a0_7) := (blk_cell BK104.out 7).trans rfl
            have hfz41_0 := blk_frozen BK104.out 0
            have hfz41_1 := blk_frozen BK104.out 1
            have hfz41_2 := blk_frozen BK104.out 2
            have hfz41_3 := blk_frozen BK104.out 3
            have hfz41_4 := blk_frozen BK104.out 4
            have hfz41_5 := blk_frozen BK104.out 5
            have hfz41_6 := blk_frozen BK104.out 6
            have hfz41_7 := blk_frozen BK104.out 7
            go_wp2_with (first | ((with_reducible refine gate_callee (f := 73) rfl ?_); refine goesL_ (some 41) rfl rfl Try.func73 (by kernel_rfl) rfl #[.agg #[.int .i64 a0_4, .int .i64 a0_5]] rfl (by (try simp only [List.map_toArray, List.map_cons, List.map_nil]); first | done | rfl | (simp only [List.length_drop, List.length_take]; rfl)) ?_; (with_reducible refine (isobathref01_Valid.calls a0_4 a0_5 true _ A20.out).mono ?_); rintro e w42 ⟨rfl, hb⟩; refine ⟨_, rfl, ?_⟩; have n0_ := Aside0.mk (blk_below (g := gb104) (o := .cells #[.int .i64 a0_0, .int .i64 a0_1, .int .i64 a0_2, .int .i64 a0_3, .int .i64 a0_4, .int .i64 a0_5, .int .i64 a0_6, .int .i64 a0_7] 46 (0, 0)) (by (with_reducible repeat (first | refine blk_drewN ?_ _ | refine blk_drew ?_ | refine blk_alloc ?_ _)); exact BK104.out) hb); have n1_ := Aside0.mk (below_step (by repeat (first | (with_reducible first | exact HB.out | apply below_alloc | apply pw_below_drewN | apply below_drew1 | refine below_set ?_ GE104.out) | exact HB.out)) hb); clear BK104; clear HB; have BK104 := n0_; have HB := n1_; clear n0_ n1_; (try clear hb); (try clear hb2); (try clear hk); (try clear hi); have hcz43_0 : w42.cell? ⟨gb104, 0, none⟩ = some (.int .i64 a0_0) := (blk_cell BK104.out 0).trans rfl; have hcz43_1 : w42.cell? ⟨gb104, 1, none⟩ = some (.int .i64 a0_1) := (blk_cell BK104.out 1).trans rfl; have hcz43_2 : w42.cell? ⟨gb104, 2, none⟩ = some (.int .i64 a0_2) := (blk_cell BK104.out 2).trans rfl; have hcz43_3 : w42.cell? ⟨gb104, 3, none⟩ = some (.int .i64 a0_3) := (blk_cell BK104.out 3).trans rfl; have hcz43_4 : w42.cell? ⟨gb104, 4, none⟩ = some (.int .i64 a0_4) := (blk_cell BK104.out 4).trans rfl; have hcz43_5 : w42.cell? ⟨gb104, 5, none⟩ = some (.int .i64 a0_5) := (blk_cell BK104.out 5).trans rfl; have hcz43_6 : w42.cell? ⟨gb104, 6, none⟩ = some (.int .i64 a0_6) := (blk_cell BK104.out 6).trans rfl; have hcz43_7 : w42.cell? ⟨gb104, 7, none⟩ = some (.int .i64 a0_7) := (blk_cell BK104.out 7).trans rfl; have hfz43_0 := blk_frozen BK104.out 0; have hfz43_1 := blk_frozen BK104.out 1; have hfz43_2 := blk_frozen BK104.out 2; have hfz43_3 := blk_frozen BK104.out 3; have hfz43_4 := blk_frozen BK104.out 4; have hfz43_5 := blk_frozen BK104.out 5; have hfz43_6 := blk_frozen BK104.out 6; have hfz43_7 := blk_frozen BK104.out 7) | (go_at_call 73; (with_reducible refine (isobathref01_Valid.calls a0_6 a0_7 false _ A22.out).mono ?_); rintro e w44 ⟨rfl, hb⟩; have n0_ := Aside0.mk (blk_below (g := gb104) (o := .cells #[.int .i64 a0_0, .int .i64 a0_1, .int .i64 a0_2, .int .i64 a0_3, .int .i64 a0_4, .int .i64 a0_5, .int .i64 a0_6, .int .i64 a0_7] 46 (0, 0)) (by (with_reducible repeat (first | refine blk_drewN ?_ _ | refine blk_drew ?_ | refine blk_alloc ?_ _)); exact BK104.out) hb); have n1_ := Aside0.mk (below_step (by repeat (first | (with_reducible first | exact HB.out | apply below_alloc | apply pw_below_drewN | apply below_drew1 | refine below_set ?_ GE104.out) | exact HB.out)) hb); clear BK104; clear HB; have BK104 := n0_; have HB := n1_; clear n0_ n1_; (try clear hb); (try clear hb2); (try clear hk); (try clear hi)))
            go_ret
            exact ⟨by first | rfl | (simp [errW_none, errW_some] <;> rfl) | (simp [*, errW_none, errW_some] <;> rfl), by repeat (first | (with_reducible first | exact HB.out | apply below_alloc | apply pw_below_drewN | apply below_drew1 | refine below_set ?_ GE104.out) | exact HB.out)⟩
        · replace c21 := Bool.eq_false_iff.mpr c21
          subst c21
          have H1 : (some 2) = some r := by rw [if_neg (show ¬ (false = true) by decide)] at H; exact H
          clear H
          have H := H1
          clear H1
          obtain rfl := Option.some.inj H
          have hcz45_0 : wc.cell? ⟨gb104, 0, none⟩ = some (.int .i64 a0_0) := (blk_cell BK104.out 0).trans rfl
          have hcz45_1 : wc.cell? ⟨gb104, 1, none⟩ = some (.int .i64 a0_1) := (blk_cell BK104.out 1).trans rfl
          have hcz45_2 : wc.cell? ⟨gb104, 2, none⟩ = some (.int .i64 a0_2) := (blk_cell BK104.out 2).trans rfl
          have hcz45_3 : wc.cell? ⟨gb104, 3, none⟩ = some (.int .i64 a0_3) := (blk_cell BK104.out 3).trans rfl
          have hcz45_4 : wc.cell? ⟨gb104, 4, none⟩ = some (.int .i64 a0_4) := (blk_cell BK104.out 4).trans rfl
          have hcz45_5 : wc.cell? ⟨gb104, 5, none⟩ = some (.int .i64 a0_5) := (blk_cell BK104.out 5).trans rfl
          have hcz45_6 : wc.cell? ⟨gb104, 6, none⟩ = some (.int .i64 a0_6) := (blk_cell BK104.out 6).trans rfl
          have hcz45_7 : wc.cell? ⟨gb104, 7, none⟩ = some (.int .i64 a0_7) := (blk_cell BK104.out 7).trans rfl
          have hfz45_0 := blk_frozen BK104.out 0
          have hfz45_1 := blk_frozen BK104.out 1
          have hfz45_2 := blk_frozen BK104.out 2
          have hfz45_3 := blk_frozen BK104.out 3
          have hfz45_4 := blk_frozen BK104.out 4
          have hfz45_5 := blk_frozen BK104.out 5
          have hfz45_6 := blk_frozen BK104.out 6
          have hfz45_7 := blk_frozen BK104.out 7
          go_wp2_with (first | ((with_reducible refine gate_callee (f := 73) rfl ?_); refine goesL_ (some 41) rfl rfl Try.func73 (by kernel_rfl) rfl #[.agg #[.int .i64 a0_4, .int .i64 a0_5]] rfl (by (try simp only [List.map_toArray, List.map_cons, List.map_nil]); first | done | rfl | (simp only [List.length_drop, List.length_take]; rfl)) ?_; (with_reducible refine (isobathref01_Valid.calls a0_4 a0_5 false _ A20.out).mono ?_); rintro e w46 ⟨rfl, hb⟩; refine ⟨_, rfl, ?_⟩; have n0_ := Aside0.mk (blk_below (g := gb104) (o := .cells #[.int .i64 a0_0, .int .i64 a0_1, .int .i64 a0_2, .int .i64 a0_3, .int .i64 a0_4, .int .i64 a0_5, .int .i64 a0_6, .int .i64 a0_7] 46 (0, 0)) (by (with_reducible repeat (first | refine blk_drewN ?_ _ | refine blk_drew ?_ | refine blk_alloc ?_ _)); exact BK104.out) hb); have n1_ := Aside0.mk (below_step (by repeat (first | (with_reducible first | exact HB.out | apply below_alloc | apply pw_below_drewN | apply below_drew1 | refine below_set ?_ GE104.out) | exact HB.out)) hb); clear BK104; clear HB; have BK104 := n0_; have HB := n1_; clear n0_ n1_; (try clear hb); (try clear hb2); (try clear hk); (try clear hi)))
          go_ret
          exact ⟨by first | rfl | (simp [errW_none, errW_some] <;> rfl) | (simp [*, errW_none, errW_some] <;> rfl), by repeat (first | (with_reducible first | exact HB.out | apply below_alloc | apply pw_below_drewN | apply below_drew1 | refine below_set ?_ GE104.out) | exact HB.out)⟩

end Go.Proofs.Ytcjdhajdoikojaa.Pr
end
section
-- PRINTED by print.py (a twelfth state) out of the translation. Not trusted: Lean checks it.
namespace Go.Proofs.Ytcjdhajdoikojaa.Pr
open Go.RowKit Go.Proofs.YtcjdhajdoikojaaW.PrintWords Go.Proofs.YtcjdhajdoikojaaW.PrintLast Go.Proofs.YtcjdhajdoikojaaW.PrintMore
attribute [local go_sem] max2_int min2_int max_two min_two max_four
set_option linter.unusedVariables false
set_option linter.unusedSimpArgs false

/-! ### isobathref01_Down: function 91 -/
def isobathref01_Down.f : Nat → Int → Int → Option (Int)
  | 0, _, _ => none
  | k + 1, a0, a1 => if a1 < 0 then ((isobathref01_Down.f k (wrap64 (-a0)) (wrap64 (-a1))).bind fun t111 => (some t111)) else (if a1 = 0 then (none) else (if (Int.tmod a0 a1) < 0 then (some (wrap64 ((wrap64 (Int.tdiv a0 a1)) - 1))) else (some (wrap64 (Int.tdiv a0 a1)))))
set_option maxHeartbeats 8000000 in
set_option maxRecDepth 100000 in
theorem isobathref01_Down.calls (k : Nat) : ∀ (a0 : Int) (a1 : Int) (r : Int) (w : World) (h : isobathref01_Down.f k a0 a1 = some r),
    Calls Try.prog 91 #[.int .i64 a0, .int .i64 a1] w fun e w' => e = .returned (.int .i64 r) ∧ Drawn0 w w' := by
  induction k using Nat.strongRecOn with
  | _ k ih =>
  intro a0 a1 r w h
  cases k with
  | zero => exact absurd h (by simp [isobathref01_Down.f])
  | succ k =>
  simp only [isobathref01_Down.f] at h
  have H : (if a1 < 0 then ((isobathref01_Down.f k (wrap64 (-a0)) (wrap64 (-a1))).bind fun t111 => (some t111)) else (if a1 = 0 then (none) else (if (Int.tmod a0 a1) < 0 then (some (wrap64 ((wrap64 (Int.tdiv a0 a1)) - 1))) else (some (wrap64 (Int.tdiv a0 a1)))))) = some r := h
  clear h
  by_cases c3 : a1 < 0
  · rw [if_pos c3] at H
    have c3b0 : decide (a1 < 0) = true := decide_eq_true c3
    clear c3
    replace H := Option.bind_eq_some_iff.mp H
    obtain ⟨t111, A40, H⟩ := H
    replace H : (some t111) = some r := H
    have A4 := Aside0.mk A40
    clear A40
    obtain rfl := Option.some.inj H
    go_enter Try.func91, Try.ntmps91
    go_wp2_with (first | ((with_reducible refine gate_callee (f := 91) rfl ?_); refine goesL_ (some 12) rfl rfl Try.func91 (by kernel_rfl) rfl #[.int .i64 (wrap64 (-a0)), .int .i64 (wrap64 (-a1))] rfl (by (try simp only [List.map_toArray, List.map_cons, List.map_nil]); first | done | rfl | (simp only [List.length_drop, List.length_take]; rfl)) ?_; (with_reducible refine (ih k (by omega) (wrap64 (-a0)) (wrap64 (-a1)) t111 _ A4.out).mono ?_); rintro e w' ⟨rfl, ⟨nd, rfl⟩⟩; refine ⟨_, rfl, ?_⟩))
    go_ret
    exact ⟨by first | rfl | (simp; done) | (simp [*]; done), by repeat (first | exact Drawn0.refl _ | apply Drawn0.step)⟩
  · rw [if_neg c3] at H
    have c3b0 : decide (a1 < 0) = false := decide_eq_false c3
    clear c3
    by_cases c5 : a1 = 0
    · rw [if_pos c5] at H
      exact absurd H (by simp)
    · rw [if_neg c5] at H
      have c5b0 : (a1 == 0) = false := beq_eq_false_iff_ne.mpr c5
      have c5b1 : (a1 != 0) = true := bne_iff_ne.mpr c5
      by_cases c6 : (Int.tmod a0 a1) < 0
      · rw [if_pos c6] at H
        have c6b0 : decide ((Int.tmod a0 a1) < 0) = true := decide_eq_true c6
        clear c6
        obtain rfl := Option.some.inj H
        go_enter Try.func91, Try.ntmps91
        go_wp2
        go_ret
        exact ⟨by first | rfl | (simp; done) | (simp [*]; done), by repeat (first | exact Drawn0.refl _ | apply Drawn0.step)⟩
      · rw [if_neg c6] at H
        have c6b0 : decide ((Int.tmod a0 a1) < 0) = false := decide_eq_false c6
        clear c6
        obtain rfl := Option.some.inj H
        go_enter Try.func91, Try.ntmps91
        go_wp2
        go_ret
        exact ⟨by first | rfl | (simp; done) | (simp [*]; done), by repeat (first | exact Drawn0.refl _ | apply Drawn0.step)⟩

end Go.Proofs.Ytcjdhajdoikojaa.Pr
end
section
-- PRINTED by print.py (a twelfth state) out of the translation. Not trusted: Lean checks it.
namespace Go.Proofs.Ytcjdhajdoikojaa.Pr
open Go.RowKit Go.Proofs.YtcjdhajdoikojaaW.PrintWords Go.Proofs.YtcjdhajdoikojaaW.PrintLast Go.Proofs.YtcjdhajdoikojaaW.PrintMore
attribute [local go_sem] max2_int min2_int max_two min_two max_four
set_option linter.unusedVariables false
set_option linter.unusedSimpArgs false

/-! ### isobathref01_Up: function 59 -/
def isobathref01_Up.f (k : Nat) (a0 : Int) (a1 : Int) : Option (Int) := (isobathref01_Down.f k (wrap64 (-a0)) a1).bind fun t112 => (some (wrap64 (-t112)))
set_option maxHeartbeats 8000000 in
set_option maxRecDepth 100000 in
theorem isobathref01_Up.calls (k : Nat) (a0 : Int) (a1 : Int) (r : Int) (w : World) (h : isobathref01_Up.f k a0 a1 = some r) :
    Calls Try.prog 59 #[.int .i64 a0, .int .i64 a1] w fun e w' => e = .returned (.int .i64 r) ∧ Drawn0 w w' := by
  have H : ((isobathref01_Down.f k (wrap64 (-a0)) a1).bind fun t112 => (some (wrap64 (-t112)))) = some r := h
  clear h
  replace H := Option.bind_eq_some_iff.mp H
  obtain ⟨t112, A30, H⟩ := H
  replace H : (some (wrap64 (-t112))) = some r := H
  have A3 := Aside0.mk A30
  clear A30
  obtain rfl := Option.some.inj H
  go_enter Try.func59, Try.ntmps59
  go_wp2_with (first | ((with_reducible refine gate_callee (f := 91) rfl ?_); refine goesL_ (some 8) rfl rfl Try.func91 (by kernel_rfl) rfl #[.int .i64 (wrap64 (-a0)), .int .i64 a1] rfl (by (try simp only [List.map_toArray, List.map_cons, List.map_nil]); first | done | rfl | (simp only [List.length_drop, List.length_take]; rfl)) ?_; (with_reducible refine (isobathref01_Down.calls k (wrap64 (-a0)) a1 t112 _ A3.out).mono ?_); rintro e w' ⟨rfl, ⟨nd, rfl⟩⟩; refine ⟨_, rfl, ?_⟩))
  go_ret
  exact ⟨by first | rfl | (simp; done) | (simp [*]; done), by repeat (first | exact Drawn0.refl _ | apply Drawn0.step)⟩

end Go.Proofs.Ytcjdhajdoikojaa.Pr
end
section
-- PRINTED by print.py (a twelfth state) out of the translation. Not trusted: Lean checks it.
namespace Go.Proofs.Ytcjdhajdoikojaa.Pr
open Go.RowKit Go.Proofs.YtcjdhajdoikojaaW.PrintWords Go.Proofs.YtcjdhajdoikojaaW.PrintLast Go.Proofs.YtcjdhajdoikojaaW.PrintMore
attribute [local go_sem] max2_int min2_int max_two min_two max_four
set_option linter.unusedVariables false
set_option linter.unusedSimpArgs false

/-! ### isobathref05_Growth: function 24 -/
def isobathref05_Growth.f (k : Nat) (a0 : Int) (a1 : Int) : Option (Int) := (isobathref01_Up.f k (wrap64 (a0 * (Int.tmod (mx a1 (wrap64 (-a1))) 1000000000))) 1000000000).bind fun t113 => (some (wrap64 ((wrap64 (a0 * (wrap64 (Int.tdiv (mx a1 (wrap64 (-a1))) 1000000000)))) + t113)))
set_option maxHeartbeats 8000000 in
set_option maxRecDepth 100000 in
theorem isobathref05_Growth.calls (k : Nat) (a0 : Int) (a1 : Int) (r : Int) (w : World) (h : isobathref05_Growth.f k a0 a1 = some r) :
    Calls Try.prog 24 #[.int .i64 a0, .int .i64 a1] w fun e w' => e = .returned (.int .i64 r) ∧ Below w.heap.size w w' := by
  have HB := Aside0.mk (Below.refl w.heap.size w)
  have H : ((isobathref01_Up.f k (wrap64 (a0 * (Int.tmod (mx a1 (wrap64 (-a1))) 1000000000))) 1000000000).bind fun t113 => (some (wrap64 ((wrap64 (a0 * (wrap64 (Int.tdiv (mx a1 (wrap64 (-a1))) 1000000000)))) + t113)))) = some r := h
  clear h
  obtain ⟨ji3, hji3⟩ : ∃ j_ : Int, (mx a1 (wrap64 (-a1))) = j_ := ⟨_, rfl⟩
  replace H : ((isobathref01_Up.f k (wrap64 (a0 * (Int.tmod (ji3) 1000000000))) 1000000000).bind fun t113 => (some (wrap64 ((wrap64 (a0 * (wrap64 (Int.tdiv (ji3) 1000000000)))) + t113)))) = some r := by first | (rw [hji3] at H; exact H) | (simp only [hji3] at H ⊢; exact H)
  have hji3_ : (if a1 < (wrap64 (-a1)) then (wrap64 (-a1)) else a1) = ji3 := hji3
  replace H := Option.bind_eq_some_iff.mp H
  obtain ⟨t113, A40, H⟩ := H
  replace H : (some (wrap64 ((wrap64 (a0 * (wrap64 (Int.tdiv (ji3) 1000000000)))) + t113))) = some r := H
  have A4 := Aside0.mk A40
  clear A40
  obtain rfl := Option.some.inj H
  go_enter Try.func24, Try.ntmps24
  go_wp2_with (first | ((with_reducible refine gate_callee (f := 59) rfl ?_); refine goesL_ (some 17) rfl rfl Try.func59 (by kernel_rfl) rfl #[.int .i64 (wrap64 (a0 * (Int.tmod (ji3) 1000000000))), .int .i64 1000000000] rfl (by (try simp only [List.map_toArray, List.map_cons, List.map_nil]); first | done | (simp only [hji3]; rfl) | rfl | (simp only [List.length_drop, List.length_take]; rfl)) ?_; (with_reducible refine (isobathref01_Up.calls k (wrap64 (a0 * (Int.tmod (ji3) 1000000000))) 1000000000 t113 _ A4.out).mono ?_); rintro e w' ⟨rfl, ⟨nd, rfl⟩⟩; refine ⟨_, rfl, ?_⟩))
  go_ret
  exact ⟨by first | rfl | (simp [errW_none, errW_some] <;> rfl) | (simp only [← hji3]; first | rfl | (simp [errW_none, errW_some] <;> rfl)) | (simp [*, errW_none, errW_some] <;> rfl), by repeat (first | (with_reducible first | exact HB.out | apply below_alloc | apply pw_below_drewN | apply below_drew1) | exact HB.out)⟩

end Go.Proofs.Ytcjdhajdoikojaa.Pr
end
section
-- PRINTED by print.py (a twelfth state) out of the translation. Not trusted: Lean checks it.
namespace Go.Proofs.Ytcjdhajdoikojaa.Pr
open Go.RowKit Go.Proofs.YtcjdhajdoikojaaW.PrintWords Go.Proofs.YtcjdhajdoikojaaW.PrintLast Go.Proofs.YtcjdhajdoikojaaW.PrintMore
attribute [local go_sem] max2_int min2_int max_two min_two max_four
set_option linter.unusedVariables false
set_option linter.unusedSimpArgs false

/-! ### isobathref05_meet: function 86 -/
def isobathref05_meet.f (a0_0 : Int) (a0_1 : Int) (a1_0 : Int) (a1_1 : Int) : Option (Int × Int) := some (mx a0_0 a1_0, mn a0_1 a1_1)
set_option maxHeartbeats 8000000 in
set_option maxRecDepth 100000 in
theorem isobathref05_meet.calls (a0_0 : Int) (a0_1 : Int) (a1_0 : Int) (a1_1 : Int) (r1 : Int) (r2 : Int) (w : World) (h : isobathref05_meet.f a0_0 a0_1 a1_0 a1_1 = some (r1, r2)) :
    Calls Try.prog 86 #[.agg #[.int .i64 a0_0, .int .i64 a0_1], .agg #[.int .i64 a1_0, .int .i64 a1_1]] w fun e w' => e = .returned (.agg #[.int .i64 r1, .int .i64 r2]) ∧ Below w.heap.size w w' := by
  have hu35 := Try.underlying35
  have HB := Aside0.mk (Below.refl w.heap.size w)
  have H : (some (mx a0_0 a1_0, mn a0_1 a1_1)) = some (r1, r2) := h
  clear h
  obtain ⟨ji3, hji3⟩ : ∃ j_ : Int, (mx a0_0 a1_0) = j_ := ⟨_, rfl⟩
  replace H : (some (ji3, mn a0_1 a1_1)) = some (r1, r2) := by first | (rw [hji3] at H; exact H) | (simp only [hji3] at H ⊢; exact H)
  have hji3_ : (if a0_0 < a1_0 then a1_0 else a0_0) = ji3 := hji3
  obtain ⟨ji4, hji4⟩ : ∃ j_ : Int, (mn a0_1 a1_1) = j_ := ⟨_, rfl⟩
  replace H : (some (ji3, ji4)) = some (r1, r2) := by first | (rw [hji4] at H; exact H) | (simp only [hji4] at H ⊢; exact H)
  have hji4_ : (if a1_1 < a0_1 then a1_1 else a0_1) = ji4 := hji4
  simp only [Option.some.injEq, Prod.mk.injEq] at H
  obtain ⟨rfl, rfl⟩ := H
  go_enter Try.func86, Try.ntmps86
  go_wp2_with (first | ((with_reducible refine gate_dst (N := 2) rfl ?_); refine box_event ?hg (N := 2) ?hd (cs := #[.int .i64 a0_0, .int .i64 a0_1]) (t := 35) ?hr ?_; (case hd => rfl); (case hg => rfl); (case hr => first | (go_simp; done) | (go_simp; rfl)); intro gb114 hg w5 hbox hb; have n0_ := Aside0.mk (below_step (by repeat (first | (with_reducible first | exact HB.out | apply below_alloc | apply pw_below_drewN | apply below_drew1) | exact HB.out)) hb); have n1_ := Aside0.mk (hbox); have n2_ := Aside0.mk ((by rw [hg]; exact (below_size (by repeat (first | (with_reducible first | exact HB.out | apply below_alloc | apply pw_below_drewN | apply below_drew1) | exact HB.out))) : w.heap.size ≤ gb114)); have n3_ := Aside0.mk ((by rw [hg]; exact (below_size (by repeat (first | (with_reducible first | exact HB.out | apply below_alloc | apply pw_below_drewN | apply below_drew1) | exact HB.out))) : w.heap.size ≤ gb114)); clear HB; have HB := n0_; have BK114 := n1_; have GW114 := n2_; have GE114 := n3_; clear n0_ n1_ n2_ n3_; clear hb hbox hg) | ((with_reducible refine gate_dst (N := 3) rfl ?_); refine box_event ?hg (N := 3) ?hd (cs := #[.int .i64 a1_0, .int .i64 a1_1]) (t := 35) ?hr ?_; (case hd => rfl); (case hg => rfl); (case hr => first | (go_simp; done) | (go_simp; rfl)); intro gb115 hg w6 hbox hb; have n0_ := Aside0.mk (blk_below (g := gb114) (o := .cells #[.int .i64 a0_0, .int .i64 a0_1] 35 (0, 0)) (by (with_reducible repeat (first | refine blk_drewN ?_ _ | refine blk_drew ?_ | refine blk_alloc ?_ _)); exact BK114.out) hb); have n1_ := Aside0.mk (below_step (by repeat (first | (with_reducible first | exact HB.out | apply below_alloc | apply pw_below_drewN | apply below_drew1 | refine below_set ?_ GE114.out) | exact HB.out)) hb); have n2_ := Aside0.mk (hbox); have n3_ := Aside0.mk ((by rw [hg]; exact (below_size (by repeat (first | (with_reducible first | exact HB.out | apply below_alloc | apply pw_below_drewN | apply below_drew1 | refine below_set ?_ GE114.out) | exact HB.out))) : w.heap.size ≤ gb115)); have n4_ := Aside0.mk ((by rw [hg]; exact (below_size (by repeat (first | (with_reducible first | exact HB.out | apply below_alloc | apply pw_below_drewN | apply below_drew1 | refine below_set ?_ GE114.out) | exact HB.out))) : w.heap.size ≤ gb115)); have n5_ := Aside0.mk ((by rw [hg]; exact Nat.ne_of_lt (blk_lt (g := gb114) (o := .cells #[.int .i64 a0_0, .int .i64 a0_1] 35 (0, 0)) (by (with_reducible repeat (first | refine blk_drewN ?_ _ | refine blk_drew ?_ | refine blk_alloc ?_ _)); exact BK114.out)) : gb114 ≠ gb115)); have n6_ := Aside0.mk ((by rw [hg]; exact Nat.ne_of_gt (blk_lt (g := gb114) (o := .cells #[.int .i64 a0_0, .int .i64 a0_1] 35 (0, 0)) (by (with_reducible repeat (first | refine blk_drewN ?_ _ | refine blk_drew ?_ | refine blk_alloc ?_ _)); exact BK114.out)) : gb115 ≠ gb114)); clear BK114; clear HB; have BK114 := n0_; have HB := n1_; have BK115 := n2_; have GW115 := n3_; have GE115 := n4_; have NB114_115 := n5_; have NB115_114 := n6_; clear n0_ n1_ n2_ n3_ n4_ n5_ n6_; clear hb hbox hg) | ((with_reducible refine gate_dst (N := 4) rfl ?_); refine box_event ?hg (N := 4) ?hd (cs := #[.int .i64 0, .int .i64 0]) (t := 35) ?hr ?_; (case hd => rfl); (case hg => rfl); (case hr => first | (go_simp; done) | (go_simp; rfl)); intro gb116 hg w7 hbox hb; have n0_ := Aside0.mk (blk_below (g := gb114) (o := .cells #[.int .i64 a0_0, .int .i64 a0_1] 35 (0, 0)) (by (with_reducible repeat (first | refine blk_drewN ?_ _ | refine blk_drew ?_ | refine blk_alloc ?_ _)); exact BK114.out) hb); have n1_ := Aside0.mk (blk_below (g := gb115) (o := .cells #[.int .i64 a1_0, .int .i64 a1_1] 35 (0, 0)) (by (with_reducible repeat (first | refine blk_drewN ?_ _ | refine blk_drew ?_ | refine blk_alloc ?_ _)); exact BK115.out) hb); have n2_ := Aside0.mk (below_step (by repeat (first | (with_reducible first | exact HB.out | apply below_alloc | apply pw_below_drewN | apply below_drew1 | refine below_set ?_ GE114.out | refine below_set ?_ GE115.out) | exact HB.out)) hb); have n3_ := Aside0.mk (hbox); have n4_ := Aside0.mk ((by rw [hg]; exact (below_size (by repeat (first | (with_reducible first | exact HB.out | apply below_alloc | apply pw_below_drewN | apply below_drew1 | refine below_set ?_ GE114.out | refine below_set ?_ GE115.out) | exact HB.out))) : w.heap.size ≤ gb116)); have n5_ := Aside0.mk ((by rw [hg]; exact (below_size (by repeat (first | (with_reducible first | exact HB.out | apply below_alloc | apply pw_below_drewN | apply below_drew1 | refine below_set ?_ GE114.out | refine below_set ?_ GE115.out) | exact HB.out))) : w.heap.size ≤ gb116)); have n6_ := Aside0.mk ((by rw [hg]; exact Nat.ne_of_lt (blk_lt (g := gb114) (o := .cells #[.int .i64 a0_0, .int .i64 a0_1] 35 (0, 0)) (by (with_reducible repeat (first | refine blk_drewN ?_ _ | refine blk_drew ?_ | refine blk_alloc ?_ _)); exact BK114.out)) : gb114 ≠ gb116)); have n7_ := Aside0.mk ((by rw [hg]; exact Nat.ne_of_gt (blk_lt (g := gb114) (o := .cells #[.int .i64 a0_0, .int .i64 a0_1] 35 (0, 0)) (by (with_reducible repeat (first | refine blk_drewN ?_ _ | refine blk_drew ?_ | refine blk_alloc ?_ _)); exact BK114.out)) : gb116 ≠ gb114)); have n8_ := Aside0.mk ((by rw [hg]; exact Nat.ne_of_lt (blk_lt (g := gb115) (o := .cells #[.int .i64 a1_0, .int .i64 a1_1] 35 (0, 0)) (by (with_reducible repeat (first | refine blk_drewN ?_ _ | refine blk_drew ?_ | refine blk_alloc ?_ _)); exact BK115.out)) : gb115 ≠ gb116)); have n9_ := Aside0.mk ((by rw [hg]; exact Nat.ne_of_gt (blk_lt (g := gb115) (o := .cells #[.int .i64 a1_0, .int .i64 a1_1] 35 (0, 0)) (by (with_reducible repeat (first | refine blk_drewN ?_ _ | refine blk_drew ?_ | refine blk_alloc ?_ _)); exact BK115.out)) : gb116 ≠ gb115)); clear BK114; clear BK115; clear HB; have BK114 := n0_; have BK115 := n1_; have HB := n2_; have BK116 := n3_; have GW116 := n4_; have GE116 := n5_; have NB114_116 := n6_; have NB116_114 := n7_; have NB115_116 := n8_; have NB116_115 := n9_; clear n0_ n1_ n2_ n3_ n4_ n5_ n6_ n7_ n8_ n9_; clear hb hbox hg; have hnb8 := NB114_115.out; have hnc8 := NB115_114.out; have hnb9 := NB114_116.out; have hnc9 := NB116_114.out; have hcz10_0 : w7.cell? ⟨gb114, 0, none⟩ = some (.int .i64 a0_0) := (blk_cell BK114.out 0).trans rfl; have hcz10_1 : w7.cell? ⟨gb114, 1, none⟩ = some (.int .i64 a0_1) := (blk_cell BK114.out 1).trans rfl; have hfz10_0 := blk_frozen BK114.out 0; have hfz10_1 := blk_frozen BK114.out 1; have hnb11 := NB115_116.out; have hnc11 := NB116_115.out; have hcz12_0 : w7.cell? ⟨gb115, 0, none⟩ = some (.int .i64 a1_0) := (blk_cell BK115.out 0).trans rfl; have hcz12_1 : w7.cell? ⟨gb115, 1, none⟩ = some (.int .i64 a1_1) := (blk_cell BK115.out 1).trans rfl; have hfz12_0 := blk_frozen BK115.out 0; have hfz12_1 := blk_frozen BK115.out 1; have hcz13_0 : w7.cell? ⟨gb116, 0, none⟩ = some (.int .i64 0) := (blk_cell BK116.out 0).trans rfl; have hcz13_1 : w7.cell? ⟨gb116, 1, none⟩ = some (.int .i64 0) := (blk_cell BK116.out 1).trans rfl; have hfz13_0 := blk_frozen BK116.out 0; have hfz13_1 := blk_frozen BK116.out 1))
  refine bodyPost_ret (results_cell_row rfl _ _ gb116 35 #[.int .i64 ji3, .int .i64 ji4] (0, 0) _ rfl (by (with_reducible repeat (first | refine blk_drewN ?_ _ | refine blk_drew ?_ | refine blk_alloc ?_ _)); refine blk_put (cs := #[.int .i64 ji3, .int .i64 0]) ?_ 1 _ rfl; (with_reducible repeat (first | refine blk_drewN ?_ _ | refine blk_drew ?_ | refine blk_alloc ?_ _)); refine blk_put (cs := #[.int .i64 0, .int .i64 0]) ?_ 0 _ rfl; (with_reducible repeat (first | refine blk_drewN ?_ _ | refine blk_drew ?_ | refine blk_alloc ?_ _)); exact BK116.out) Try.underlying35 rfl (by kernel_rfl)) rfl ?_
  exact ⟨by first | rfl | (simp [errW_none, errW_some] <;> rfl) | (simp only [← hji3, ← hji4]; first | rfl | (simp [errW_none, errW_some] <;> rfl)) | (simp [*, errW_none, errW_some] <;> rfl), by repeat (first | (with_reducible first | exact HB.out | apply below_alloc | apply pw_below_drewN | apply below_drew1 | refine below_set ?_ GE114.out | refine below_set ?_ GE115.out | refine below_set ?_ GE116.out) | exact HB.out)⟩

end Go.Proofs.Ytcjdhajdoikojaa.Pr
end
section
-- PRINTED by print.py (a twelfth state) out of the translation. Not trusted: Lean checks it.
namespace Go.Proofs.Ytcjdhajdoikojaa.Pr
open Go.RowKit Go.Proofs.YtcjdhajdoikojaaW.PrintWords Go.Proofs.YtcjdhajdoikojaaW.PrintLast Go.Proofs.YtcjdhajdoikojaaW.PrintMore
attribute [local go_sem] max2_int min2_int max_two min_two max_four
set_option linter.unusedVariables false
set_option linter.unusedSimpArgs false

/-! ### isobathref05_grown: function 95 -/
def isobathref05_grown.f (a0_0 : Int) (a0_1 : Int) (a1 : Int) : Option (Int × Int) := some (wrap64 (a0_0 - a1), wrap64 (a0_1 + a1))
set_option maxHeartbeats 8000000 in
set_option maxRecDepth 100000 in
theorem isobathref05_grown.calls (a0_0 : Int) (a0_1 : Int) (a1 : Int) (r1 : Int) (r2 : Int) (w : World) (h : isobathref05_grown.f a0_0 a0_1 a1 = some (r1, r2)) :
    Calls Try.prog 95 #[.agg #[.int .i64 a0_0, .int .i64 a0_1], .int .i64 a1] w fun e w' => e = .returned (.agg #[.int .i64 r1, .int .i64 r2]) ∧ Below w.heap.size w w' := by
  have hu35 := Try.underlying35
  have HB := Aside0.mk (Below.refl w.heap.size w)
  have H : (some (wrap64 (a0_0 - a1), wrap64 (a0_1 + a1))) = some (r1, r2) := h
  clear h
  simp only [Option.some.injEq, Prod.mk.injEq] at H
  obtain ⟨rfl, rfl⟩ := H
  go_enter Try.func95, Try.ntmps95
  go_wp2_with (first | ((with_reducible refine gate_dst (N := 2) rfl ?_); refine box_event ?hg (N := 2) ?hd (cs := #[.int .i64 a0_0, .int .i64 a0_1]) (t := 35) ?hr ?_; (case hd => rfl); (case hg => rfl); (case hr => first | (go_simp; done) | (go_simp; rfl)); intro gb117 hg w3 hbox hb; have n0_ := Aside0.mk (below_step (by repeat (first | (with_reducible first | exact HB.out | apply below_alloc | apply pw_below_drewN | apply below_drew1) | exact HB.out)) hb); have n1_ := Aside0.mk (hbox); have n2_ := Aside0.mk ((by rw [hg]; exact (below_size (by repeat (first | (with_reducible first | exact HB.out | apply below_alloc | apply pw_below_drewN | apply below_drew1) | exact HB.out))) : w.heap.size ≤ gb117)); have n3_ := Aside0.mk ((by rw [hg]; exact (below_size (by repeat (first | (with_reducible first | exact HB.out | apply below_alloc | apply pw_below_drewN | apply below_drew1) | exact HB.out))) : w.heap.size ≤ gb117)); clear HB; have HB := n0_; have BK117 := n1_; have GW117 := n2_; have GE117 := n3_; clear n0_ n1_ n2_ n3_; clear hb hbox hg) | ((with_reducible refine gate_dst (N := 4) rfl ?_); refine box_event ?hg (N := 4) ?hd (cs := #[.int .i64 0, .int .i64 0]) (t := 35) ?hr ?_; (case hd => rfl); (case hg => rfl); (case hr => first | (go_simp; done) | (go_simp; rfl)); intro gb118 hg w4 hbox hb; have n0_ := Aside0.mk (blk_below (g := gb117) (o := .cells #[.int .i64 a0_0, .int .i64 a0_1] 35 (0, 0)) (by (with_reducible repeat (first | refine blk_drewN ?_ _ | refine blk_drew ?_ | refine blk_alloc ?_ _)); exact BK117.out) hb); have n1_ := Aside0.mk (below_step (by repeat (first | (with_reducible first | exact HB.out | apply below_alloc | apply pw_below_drewN | apply below_drew1 | refine below_set ?_ GE117.out) | exact HB.out)) hb); have n2_ := Aside0.mk (hbox); have n3_ := Aside0.mk ((by rw [hg]; exact (below_size (by repeat (first | (with_reducible first | exact HB.out | apply below_alloc | apply pw_below_drewN | apply below_drew1 | refine below_set ?_ GE117.out) | exact HB.out))) : w.heap.size ≤ gb118)); have n4_ := Aside0.mk ((by rw [hg]; exact (below_size (by repeat (first | (with_reducible first | exact HB.out | apply below_alloc | apply pw_below_drewN | apply below_drew1 | refine below_set ?_ GE117.out) | exact HB.out))) : w.heap.size ≤ gb118)); have n5_ := Aside0.mk ((by rw [hg]; exact Nat.ne_of_lt (blk_lt (g := gb117) (o := .cells #[.int .i64 a0_0, .int .i64 a0_1] 35 (0, 0)) (by (with_reducible repeat (first | refine blk_drewN ?_ _ | refine blk_drew ?_ | refine blk_alloc ?_ _)); exact BK117.out)) : gb117 ≠ gb118)); have n6_ := Aside0.mk ((by rw [hg]; exact Nat.ne_of_gt (blk_lt (g := gb117) (o := .cells #[.int .i64 a0_0, .int .i64 a0_1] 35 (0, 0)) (by (with_reducible repeat (first | refine blk_drewN ?_ _ | refine blk_drew ?_ | refine blk_alloc ?_ _)); exact BK117.out)) : gb118 ≠ gb117)); clear BK117; clear HB; have BK117 := n0_; have HB := n1_; have BK118 := n2_; have GW118 := n3_; have GE118 := n4_; have NB117_118 := n5_; have NB118_117 := n6_; clear n0_ n1_ n2_ n3_ n4_ n5_ n6_; clear hb hbox hg; have hnb5 := NB117_118.out; have hnc5 := NB118_117.out; have hcz6_0 : w4.cell? ⟨gb117, 0, none⟩ = some (.int .i64 a0_0) := (blk_cell BK117.out 0).trans rfl; have hcz6_1 : w4.cell? ⟨gb117, 1, none⟩ = some (.int .i64 a0_1) := (blk_cell BK117.out 1).trans rfl; have hfz6_0 := blk_frozen BK117.out 0; have hfz6_1 := blk_frozen BK117.out 1; have hcz7_0 : w4.cell? ⟨gb118, 0, none⟩ = some (.int .i64 0) := (blk_cell BK118.out 0).trans rfl; have hcz7_1 : w4.cell? ⟨gb118, 1, none⟩ = some (.int .i64 0) := (blk_cell BK118.out 1).trans rfl; have hfz7_0 := blk_frozen BK118.out 0; have hfz7_1 := blk_frozen BK118.out 1))
  refine bodyPost_ret (results_cell_row rfl _ _ gb118 35 #[.int .i64 (wrap64 (a0_0 - a1)), .int .i64 (wrap64 (a0_1 + a1))] (0, 0) _ rfl (by (with_reducible repeat (first | refine blk_drewN ?_ _ | refine blk_drew ?_ | refine blk_alloc ?_ _)); refine blk_put (cs := #[.int .i64 (wrap64 (a0_0 - a1)), .int .i64 0]) ?_ 1 _ rfl; (with_reducible repeat (first | refine blk_drewN ?_ _ | refine blk_drew ?_ | refine blk_alloc ?_ _)); refine blk_put (cs := #[.int .i64 0, .int .i64 0]) ?_ 0 _ rfl; (with_reducible repeat (first | refine blk_drewN ?_ _ | refine blk_drew ?_ | refine blk_alloc ?_ _)); exact BK118.out) Try.underlying35 rfl (by kernel_rfl)) rfl ?_
  exact ⟨by first | rfl | (simp [errW_none, errW_some] <;> rfl) | (simp [*, errW_none, errW_some] <;> rfl), by repeat (first | (with_reducible first | exact HB.out | apply below_alloc | apply pw_below_drewN | apply below_drew1 | refine below_set ?_ GE117.out | refine below_set ?_ GE118.out) | exact HB.out)⟩

end Go.Proofs.Ytcjdhajdoikojaa.Pr
end
